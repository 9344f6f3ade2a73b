/- A part of the proofs of statements of this seat: contracts of functions, and the plain laws that they lean on. No conditions. -/
import Derived.Test.YtoagcglbkeomgaaGreatDoorS26
set_option linter.unusedVariables false
set_option linter.unusedSimpArgs false
set_option linter.unusedSectionVars false
set_option maxHeartbeats 4000000
namespace Go.Sl
open Go.Proofs
set_option maxRecDepth 4000
variable{es:List Pt}{ga:Option Addr}{b gb gc:Nat}{bd:Int}{T:List Item}
variable {κ:Ctx}{I:List Item}
theorem KIdx_ok{nd:Int}{v:PkV}{M:Option Addr}(hp:PkR κ I nd es v)(hg:Sl κ I (.slice ga es.length gc) es)(hG:GrOk nd es)(hT:TabRd κ I 0 tzCells):eu Tryz.prog κ 110 [.slice M 4 4,.func (.func 63) #[] #[(pt gb)]] (vc 117 (.slice M 4 4) (([⟨170,b,0⟩,⟨171,b,3⟩,⟨172,b,6⟩,⟨173,b,10⟩]:List IfcC))::e8 b (pq nd es v) 169::e8 gb [e7 nd,.slice ga es.length gc] 38::I) (λr J=>r=e7 (-1)/\J=vc 117 (.slice M 4 4) (([⟨170,b,0⟩,⟨171,b,3⟩,⟨172,b,6⟩,⟨173,b,10⟩]:List IfcC))::e8 b (pq nd es v) 169::e8 gb [e7 nd,.slice ga es.length gc] 38::I):=by
 refine Ce2 Tryz.func110 C C ?_
 refine Ad<|Ga C<|Ac<|Ar<|Ad<|Gm C<|Gr (Bk Ck C)<|Gm C<|Ac<|A5<|W.rounds 5 ?_
 refine Dl (n:=4)<|Ap (L':=[(8,e7 0),(7,e7 ((4:Nat):Int)),(0,.slice M 4 4),(1,.func (.func 63) #[] #[(pt gb)])]) (cx2<|Aa C<|Aa C Bp)<|Ad<|Gr (A9 C C)<|Ac<|Ar<|A7 C (λZ=>?_)<|λZ=>?_
 ·refine Aw (Ah<|Ar<|A5<|Ad<|Gm C<|Ga C<|Ac<|Ad<|Gm C<|Gm C<|Gm C<|Gr (A3 (α:=IfcC) (xs:=([⟨170,b,0⟩,⟨171,b,3⟩,⟨172,b,6⟩,⟨173,b,10⟩]:List IfcC)) Ck ty117 C C Bi om om)<|Gr (B9 (α:=IfcC) (xs:=([⟨170,b,0⟩,⟨171,b,3⟩,⟨172,b,6⟩,⟨173,b,10⟩]:List IfcC)) (u:= .iface 170 (pt b)) ty117 C Bi dc (show (0:Int)<((4:Nat):Int) by decide) C)<|G.e (Cx c_ C C C<|Cp (J:=e8 b (pq nd es v) 169::e8 gb [e7 nd,.slice ga es.length gc] 38::vc 117 (.slice M 4 4) (([⟨170,b,0⟩,⟨171,b,3⟩,⟨172,b,6⟩,⟨173,b,10⟩]:List IfcC))::I) Bl<|KVal20_ok (b:=b) (gb:=gb) (A8 hp.e1) (A8 hp.n1) hG (A8 hg)<|Bn hT Ax) ?_)
  rintro _ _ ⟨_,_,⟨rfl,rfl⟩,rfl,rfl⟩
  refine Ac<|Dg C<|Aw<|Am<|Ah<|Ay<|Gr (Rad C C)<|Gm C<|Bj<|Dl (n:=3)<|Ap (L':=[(8,e7 1),(7,e7 ((4:Nat):Int)),(0,.slice M 4 4),(1,.func (.func 63) #[] #[(pt gb)])]) (cx2<|Aa C<|Aa C Bp)<|Ad<|Gr (A9 C C)<|Ac<|Ar<|A7 C (λZ=>?_)<|λZ=>?_
  ·refine Aw (Ah<|Ar<|A5<|Ad<|Gm C<|Ga C<|Ac<|Ad<|Gm C<|Gm C<|Gm C<|Gr (A3 (α:=IfcC) (xs:=([⟨170,b,0⟩,⟨171,b,3⟩,⟨172,b,6⟩,⟨173,b,10⟩]:List IfcC)) Ck ty117 C C Bi om om)<|Gr (B9 (α:=IfcC) (xs:=([⟨170,b,0⟩,⟨171,b,3⟩,⟨172,b,6⟩,⟨173,b,10⟩]:List IfcC)) (u:= .iface 171 (.pointer<|some ⟨b,3,none⟩)) ty117 C Bi dc (show (1:Int)<((4:Nat):Int) by decide) C)<|Gc1 (Cx c_ C C C<|Cp (J:=e8 b (pq nd es v) 169::e8 gb [e7 nd,.slice ga es.length gc] 38::vc 117 (.slice M 4 4) (([⟨170,b,0⟩,⟨171,b,3⟩,⟨172,b,6⟩,⟨173,b,10⟩]:List IfcC))::I) Bl<|KVal21_ok (b:=b) (gb:=gb) (A8 hp.e2) (A8 hp.n2) hG (A8 hg)<|Bn hT Ax) ?_)
   refine Ac<|Dg C<|Aw<|Am<|Ah<|Ay<|Gr (Rad C C)<|Gm C<|Bj<|Dl (n:=2)<|Ap (L':=[(8,e7 2),(7,e7 ((4:Nat):Int)),(0,.slice M 4 4),(1,.func (.func 63) #[] #[(pt gb)])]) (cx2<|Aa C<|Aa C Bp)<|Ad<|Gr (A9 C C)<|Ac<|Ar<|A7 C (λZ=>?_)<|λZ=>?_
   ·refine Aw (Ah<|Ar<|A5<|Ad<|Gm C<|Ga C<|Ac<|Ad<|Gm C<|Gm C<|Gm C<|Gr (A3 (α:=IfcC) (xs:=([⟨170,b,0⟩,⟨171,b,3⟩,⟨172,b,6⟩,⟨173,b,10⟩]:List IfcC)) Ck ty117 C C Bi om om)<|Gr (B9 (α:=IfcC) (xs:=([⟨170,b,0⟩,⟨171,b,3⟩,⟨172,b,6⟩,⟨173,b,10⟩]:List IfcC)) (u:= .iface 172 (.pointer<|some ⟨b,6,none⟩)) ty117 C Bi dc (show (2:Int)<((4:Nat):Int) by decide) C)<|Gc1 (Cx c_ C C C<|Cp (J:=e8 b (pq nd es v) 169::e8 gb [e7 nd,.slice ga es.length gc] 38::vc 117 (.slice M 4 4) (([⟨170,b,0⟩,⟨171,b,3⟩,⟨172,b,6⟩,⟨173,b,10⟩]:List IfcC))::I) Bl<|KVal22_ok (b:=b) (gb:=gb) (A8 hp.e3) (A8 hp.n3) hG<|A8 hg) ?_)
    refine Ac<|Dg C<|Aw<|Am<|Ah<|Ay<|Gr (Rad C C)<|Gm C<|Bj<|Dl (n:=1)<|Ap (L':=[(8,e7 3),(7,e7 ((4:Nat):Int)),(0,.slice M 4 4),(1,.func (.func 63) #[] #[(pt gb)])]) (cx2<|Aa C<|Aa C Bp)<|Ad<|Gr (A9 C C)<|Ac<|Ar<|A7 C (λZ=>?_)<|λZ=>?_
    ·refine Aw (Ah<|Ar<|A5<|Ad<|Gm C<|Ga C<|Ac<|Ad<|Gm C<|Gm C<|Gm C<|Gr (A3 (α:=IfcC) (xs:=([⟨170,b,0⟩,⟨171,b,3⟩,⟨172,b,6⟩,⟨173,b,10⟩]:List IfcC)) Ck ty117 C C Bi om om)<|Gr (B9 (α:=IfcC) (xs:=([⟨170,b,0⟩,⟨171,b,3⟩,⟨172,b,6⟩,⟨173,b,10⟩]:List IfcC)) (u:= .iface 173 (.pointer<|some ⟨b,10,none⟩)) ty117 C Bi dc (show (3:Int)<((4:Nat):Int) by decide) C)<|Gc1 (Cx c_ C C C<|Cp (J:=e8 b (pq nd es v) 169::e8 gb [e7 nd,.slice ga es.length gc] 38::vc 117 (.slice M 4 4) (([⟨170,b,0⟩,⟨171,b,3⟩,⟨172,b,6⟩,⟨173,b,10⟩]:List IfcC))::I) Bl<|KVal23_ok (b:=b) (gb:=gb) (A8 hp.e4) (A8 hp.n4) hG (A8 hg)<|Bn hT Ax) ?_)
     refine Ac<|Dg C<|Aw<|Am<|Ah<|Ay<|Gr (Rad C C)<|Gm C<|Bj<|Dl (n:=0)<|Ap (L':=[(8,e7 4),(7,e7 ((4:Nat):Int)),(0,.slice M 4 4),(1,.func (.func 63) #[] #[(pt gb)])]) (cx2<|Aa C<|Aa C Bp)<|Ad<|Gr (A9 C C)<|Ac<|Ar<|A7 C (λZ=>?_)<|λZ=>?_
     ·exact absurd Z dc
     exact Bt<|Aq<|Aq<|Bb<|Ah<|Ad<|Ga C<|Ac<|Az<|A1 C C (vc 117 (.slice M 4 4) (([⟨170,b,0⟩,⟨171,b,3⟩,⟨172,b,6⟩,⟨173,b,10⟩]:List IfcC))::e8 b (pq nd es v) 169::e8 gb [e7 nd,.slice ga es.length gc] 38::I) Bl ⟨rfl,rfl⟩
    exact absurd dc Z
   exact absurd dc Z
  exact absurd dc Z
 exact absurd dc Z
theorem KCon_ok{nd:Int}{v:PkV}{Z:Option Addr}(hp:PkR κ I nd es v)(M:Sl κ I (.slice ga es.length gc) es)(hG:GrOk nd es)(hT:TabRd κ I 0 tzCells):eu Tryz.prog κ 60 [.slice Z 4 4,.func (.func 63) #[] #[(pt gb)]] (vc 117 (.slice Z 4 4) (([⟨170,b,0⟩,⟨171,b,3⟩,⟨172,b,6⟩,⟨173,b,10⟩]:List IfcC))::e8 b (pq nd es v) 169::e8 gb [e7 nd,.slice ga es.length gc] 38::I) (λr J=>r = .bool false/\J=vc 117 (.slice Z 4 4) (([⟨170,b,0⟩,⟨171,b,3⟩,⟨172,b,6⟩,⟨173,b,10⟩]:List IfcC))::e8 b (pq nd es v) 169::e8 gb [e7 nd,.slice ga es.length gc] 38::I):=by
 refine Ce2 Tryz.func60 C C ?_
 refine Ad<|Ga C<|Ac<|Ad<|Gm C<|Gm C<|Gc1 (Aj c_ C C<|Cp (J:=vc 117 (.slice Z 4 4) (([⟨170,b,0⟩,⟨171,b,3⟩,⟨172,b,6⟩,⟨173,b,10⟩]:List IfcC))::e8 b (pq nd es v) 169::e8 gb [e7 nd,.slice ga es.length gc] 38::I) Bl<|KIdx_ok (b:=b) (gb:=gb) (PkR.fit hp Ax) (A8 M) hG<|Bn hT Ax) ?_
 exact Gr (Cv C C)<|Ga C<|Ac<|Az<|A1 C C (vc 117 (.slice Z 4 4) (([⟨170,b,0⟩,⟨171,b,3⟩,⟨172,b,6⟩,⟨173,b,10⟩]:List IfcC))::e8 b (pq nd es v) 169::e8 gb [e7 nd,.slice ga es.length gc] 38::I) Bl ⟨rfl,rfl⟩
theorem KValid_ok{nd kd wd mo:Int}{k:EnS}{v:KpV}(hF:KpF κ I nd k v)(hK:EnOk nd kd wd mo bd k)(ao:k.b.ws.length<=4096)(hT:TabRd κ I 0 tzCells):eu Tryz.prog κ 23 [.agg (kx kd wd mo bd nd k v).toArray] I (λr J=>r = .bool true/\I=J):=by
 have an:=edges_le (edgesK_ok hK.inv.val)
 have aj:=an
 rw [edgesK_len] at aj
 have ap:=hK.tm
 refine Ce1 Tryz.func23 C C ?_
 refine Ad<|Ge1 (Bd (cs:=[_,_,_,_,_,_,_,_,_,_,_,_,_,_,_,_,_,_,_,_,_,_,_,_,_]) C C C) λb1=>Ga C<|Ac<|Ar<|Ad<|Gf fld47_1 C<|Gl4 ty32 ?_
 refine G.e (Aj c_ C C<|BValid_ok (bd:=bd) (bf:=k.b) (Bu hF.w<|Cm (κ:=κ)<|by repeat (first|exact hH|exact B0 _|apply Bz|apply Cl|apply Ca)) hK.buf ao) ?_
 rintro _ _ ⟨_,_,⟨rfl,rfl⟩,rfl,rfl⟩
 refine Gr (Cn C)<|Gm C<|e9 (Ab fld47_0 C)<|e9 (Bc (vs:=[_,_,_]) ty29) ?_
 refine Dx (Cq C C C) (Aj c_ C C<|CheckW_ok kd wd mo) ?_
 rintro _ _ ⟨_,_,⟨rfl,rfl⟩,rfl,rfl⟩
 refine e9 (Be C C)<|Gr (Au C C)<|Gm C<|Bh (d:=15) C (λaa=>?_)<|λaa=>?_
 ·exact absurd hK.win aa
 refine e9 (Ab fld47_7 C)<|e9 (A0 ef) ?_
 refine e9 (A9 C C)<|Gr (Au C C)<|Gm C<|Bh (d:=20) C (λak=>?_)<|λak=>?_
 ·omega
 refine e9 (Ab fld47_7 C)<|e9 (A0 ef) ?_
 refine e9 (B2 C C)<|Gr (Au C C)<|Ac<|Ap (S2 24 1)<|A7 C (λah=>?_)<|λah=>?_
 ·omega
 refine Aw<|Ah<|Ad<|Gf fld47_2 C<|Gl2 ty35 ?_
 refine Gc2 (Aj c_ C C<|LGraph_ok (nd:=nd) (Bu hF.l<|Cm (κ:=κ)<|by repeat (first|exact hH|exact B0 _|apply Bz|apply Cl|apply Ca)) hK.inv.val om) λae ad=>?_
 refine Gm C<|Gr (Ak C C)<|Gr (Ak C C)<|Ge1 (A4 ty38 C) λb4=>Ge0 (Cz ty38) ?_
 refine Ga C<|Ac<|Ar<|Ad<|Gm C<|Gr (Be C C)<|Gm C<|Bh (d:=33) C (λab=>?_)<|λab=>?_
 ·exact absurd rfl ab
 refine e9 (Ab fld47_2 C)<|e9 (Ab fld35_1 C)<|e9 (A0 ty33) ?_
 refine e9 (D3 C C)<|Dx (Cq C C C) (Aj c_ C C<|ContainsFuncL (Bu hF.l<|Cm (κ:=κ)<|by repeat (first|exact hH|exact B0 _|apply Bz|apply Cl|apply Ca))<|KVal1_says<|D8 mm) ?_
 rintro _ _ ⟨_,_,⟨rfl,rfl⟩,rfl,rfl⟩
 refine Gr (Au C C)<|Ac<|Ap (S3 39 3 1)<|D1 C (λM=>?_)<|λM=>?_
 ·rw [kept_tm hK] at M;exact absurd M dc
 refine Aw<|Ah<|Ad<|Gr (Runs.lq ty47) ?_
 refine G.e (Aj c_ C C OfK_ok) ?_
 rintro _ _ ⟨_,_,⟨Z,rfl,rfl⟩,rfl,rfl⟩
 refine G.e (Aj c_ C C All_ok) ?_
 rintro _ _ ⟨_,_,⟨ai,rfl,rfl⟩,rfl,rfl⟩
 refine Gr (D3 C C)<|Gc1 (Aj c_ C C<|Cp (J:=vc 117 (.slice ai 4 4) (([⟨170,Z,0⟩,⟨171,Z,3⟩,⟨172,Z,6⟩,⟨173,Z,10⟩]:List IfcC))::e8 Z (pq nd (edgesK k.S) v.p) 169::e8 b4 [e7 nd,.slice ae (edgesK k.S).length ad] 38::vk 105 ae ad (edgesK k.S)::e8 b1 (kx kd wd mo bd nd k v) 47::I) Bl<|KCon_ok (b:=Z) (gb:=b4) (PkR.fit hF.p Ax) Bi (edgesK_ok hK.inv.val)<|Bn hT Ax) ?_
 exact Gr (Cn C)<|Ga C<|Ac<|Az<|A1 C C I Ax ⟨rfl,rfl⟩
theorem Copied_ok{κ:Ctx}{I:List Item}{nd kd wd mo:Int}{k:EnS}{v:KpV}(hH:Has I T)(hF:KpF κ T nd k v)(hv:checkS nd k.S=0)(a8:k.b.ws.length<=100000):eu Tryz.prog κ 82 [.agg (kx kd wd mo bd nd k v).toArray] I (λr J=>∃(v':KpV) (Y:List Item),r = .agg (kx kd wd mo bd nd k v').toArray/\KpF κ (Y++T) nd k v'/\J=Y++I):=by
 have hG:=edgesK_ok hv
 have a5:=edges_le hG
 have a4:=a5
 rw [edgesK_len] at a4
 have a7:=hG.rng
 have a9:=coreN_len nd (edgesK k.S)
 have bb:=trussG_lenE hG
 have ba:=triL_len nd (edgesK k.S)
 have a6:=quadL_len nd (edgesK k.S)
 refine Ce1 Tryz.func82 C C ?_
 refine Ad<|Ge1 (Bd (cs:=[_,_,_,_,_,_,_,_,_,_,_,_,_,_,_,_,_,_,_,_,_,_,_,_,_]) C C C) λb1=>Ge1 (A4 ty47 C) λb2=>Ac<|Ar<|Bs mixed<|Cc (e8 b2 zk 47::I) 14<|Dr 0 C (Ab fld47_1 C)<|Dr 1 C (Ab fld32_3 C)<|Dr 4 C (Ab fld47_2 C)<|Dr 5 C (Ab fld35_1 C)<|D.two (e8 b2 zk 47::e8 b1 (kx kd wd mo bd nd k v) 47::I) 10 Bl ?_
 refine D2.read 2 C kr kr kr C kr (λ_ _ _ _ h=>h) (Bm C) C C Bl (A0 ty30) ?_
 refine D2.read 6 C kr kr kr C kr (λ_ _ _ _ h=>h) (Bm C) C C Bl (A0 ty33) ?_
 refine E6 (rs:=[3]) kr C C<|D6 ?_
 refine D7 C (Bm C) (Aj c_ C C<|CloneV (xs:=k.b.ws) (Bu hF.w<|Cm (κ:=κ)<|by repeat (first|exact hH|exact B0 _|apply Bz|apply Cl|apply Ca)) om) ?_
 rintro _ _ ⟨_,_,⟨a3,a1,rfl,rfl⟩,rfl,rfl⟩
 refine ⟨Bl,?_⟩
 refine E6 (rs:=[7]) kr C C<|D6 ?_
 refine D7 C (Bm C) (Aj c_ C C<|CloneL (xs:=k.S) (Bu hF.l<|Cm (κ:=κ)<|by repeat (first|exact hH|exact B0 _|apply Bz|apply Cl|apply Ca)) om) ?_
 rintro _ _ ⟨_,_,⟨ax,az,rfl,rfl⟩,rfl,rfl⟩
 refine ⟨Bl,?_⟩
 refine E6 (rs:=[8]) kr C C<|D6 ?_
 refine Step2.read C (Bm C) C C (Ab fld47_1 C) Bl ?_
 refine D2.read 9 C kr kr kr C kr (λ_ _ _ _ h=>h) (Bm C) C C Bl (Ab fld32_3 C) ?_
 refine D2.stop kr ?_
 refine Ds1 10<|Se0 C (B6 (cs:=[_,_,_,_,_,_,_,_,_,_,_,_,_,_,_,_,_,_,_,_,_,_,_,_,_]) (vs:=[_]) (cs':=[_,_,_,_,_,_,_,_,_,_,_,_,_,_,_,_,_,_,_,_,_,_,_,_,_]) ty30) ?_
 refine Dr 11 C (Ab fld47_2 C)<|Dr 12 C (Ab fld35_1 C)<|Ds1 13<|Se0 C (B6 (cs:=[_,_,_,_,_,_,_,_,_,_,_,_,_,_,_,_,_,_,_,_,_,_,_,_,_]) (vs:=[_]) (cs':=[_,_,_,_,_,_,_,_,_,_,_,_,_,_,_,_,_,_,_,_,_,_,_,_,_]) ty33) ?_
 refine Dz<|Ah<|Ap (S2 2 1)<|Ar<|Ad<|Gf fld47_3 C<|Gf fld40_0 C<|Gf fld47_4 C<|Gf fld41_0 C<|Gf fld47_5 C<|Gf fld43_0 C<|Gf fld47_6 C<|Gf fld45_0 C<|Ge1 (Ce (α:=PtrC) (cs:=[_,_,_,_]) (xs:=[⟨b1,9⟩,⟨b1,12⟩,⟨b1,15⟩,⟨b1,19⟩]) Ee ty181 C C dc dc C C C C) λav=>?_
 refine Gr (Bk Ee C)<|Gm C<|Ac<|A5<|W.rounds 5 ?_
 refine Dl (n:=4)<|Ap (L':=[(29,e7 0),(28,e7 ((4:Nat):Int)),(27,.slice av 4 4),(2,pt b2),(1,pt b1)]) (cx4<|Aa C Bp)<|Ad<|Gr (A9 C C)<|Ac<|Ar<|A7 C (λZ=>?_)<|λZ=>?_
 ·refine Aw (Ah<|Ar<|A5<|Ad<|Gr (A3 (α:=PtrC) (xs:=([⟨b1,9⟩,⟨b1,12⟩,⟨b1,15⟩,⟨b1,19⟩]:List PtrC)) Ee ty181 C C Bi om om)<|Gr (B9 (α:=PtrC) (xs:=([⟨b1,9⟩,⟨b1,12⟩,⟨b1,15⟩,⟨b1,19⟩]:List PtrC)) (u:= .pointer (some ⟨b1,9,none⟩)) ty181 C Bi dc (show (0:Int)<((4:Nat):Int) by decide) C)<|Ga C<|Ac<|Ay<|Gm C<|Gm C<|Gr (Bo C)<|Gf fld38_1 C<|Gl ty36 ?_)
  refine Gc2 (Aj c_ C C<|CloneE (xs:=(edgesK k.S)) (Bu hF.p.e1<|Cm (κ:=κ)<|by repeat (first|exact hH|exact B0 _|apply Bz|apply Cl|apply Ca)) om) λa0 ay=>?_
  refine Gr (Bo C)<|Gf fld38_1 C<|Ge0 (B6 (cs:=[_,_,_,_,_,_,_,_,_,_,_,_,_,_,_,_,_,_,_,_,_,_,_,_,_]) (vs:=[_]) (cs':=[_,_,_,_,_,_,_,_,_,_,_,_,_,_,_,_,_,_,_,_,_,_,_,_,_]) ty36) ?_
  refine Bj<|Am<|Ah<|Ap (S5 29 28 27 2 1)<|Ay<|Gr (Rad C C)<|Gm C<|Bj<|Dl (n:=3)<|Ap (L':=[(29,e7 1),(28,e7 ((4:Nat):Int)),(27,.slice av 4 4),(2,pt b2),(1,pt b1)]) (cx4<|Aa C Bp)<|Ad<|Gr (A9 C C)<|Ac<|Ar<|A7 C (λZ=>?_)<|λZ=>?_
  ·refine Aw (Ah<|Ar<|A5<|Ad<|Gr (A3 (α:=PtrC) (xs:=([⟨b1,9⟩,⟨b1,12⟩,⟨b1,15⟩,⟨b1,19⟩]:List PtrC)) Ee ty181 C C Bi om om)<|Gr (B9 (α:=PtrC) (xs:=([⟨b1,9⟩,⟨b1,12⟩,⟨b1,15⟩,⟨b1,19⟩]:List PtrC)) (u:= .pointer (some ⟨b1,12,none⟩)) ty181 C Bi dc (show (1:Int)<((4:Nat):Int) by decide) C)<|Ga C<|Ac<|Ay<|Gm C<|Gm C<|Gr (Bo C)<|Gf fld38_1 C<|Gl ty36 ?_)
   refine Gc2 (Aj c_ C C<|CloneE (xs:=(edgesK k.S)) (Bu hF.p.e2<|Cm (κ:=κ)<|by repeat (first|exact hH|exact B0 _|apply Bz|apply Cl|apply Ca)) om) λau an=>?_
   refine Gr (Bo C)<|Gf fld38_1 C<|Ge0 (B6 (cs:=[_,_,_,_,_,_,_,_,_,_,_,_,_,_,_,_,_,_,_,_,_,_,_,_,_]) (vs:=[_]) (cs':=[_,_,_,_,_,_,_,_,_,_,_,_,_,_,_,_,_,_,_,_,_,_,_,_,_]) ty36) ?_
   refine Bj<|Am<|Ah<|Ap (S5 29 28 27 2 1)<|Ay<|Gr (Rad C C)<|Gm C<|Bj<|Dl (n:=2)<|Ap (L':=[(29,e7 2),(28,e7 ((4:Nat):Int)),(27,.slice av 4 4),(2,pt b2),(1,pt b1)]) (cx4<|Aa C Bp)<|Ad<|Gr (A9 C C)<|Ac<|Ar<|A7 C (λZ=>?_)<|λZ=>?_
   ·refine Aw (Ah<|Ar<|A5<|Ad<|Gr (A3 (α:=PtrC) (xs:=([⟨b1,9⟩,⟨b1,12⟩,⟨b1,15⟩,⟨b1,19⟩]:List PtrC)) Ee ty181 C C Bi om om)<|Gr (B9 (α:=PtrC) (xs:=([⟨b1,9⟩,⟨b1,12⟩,⟨b1,15⟩,⟨b1,19⟩]:List PtrC)) (u:= .pointer (some ⟨b1,15,none⟩)) ty181 C Bi dc (show (2:Int)<((4:Nat):Int) by decide) C)<|Ga C<|Ac<|Ay<|Gm C<|Gm C<|Gr (Bo C)<|Gf fld38_1 C<|Gl ty36 ?_)
    refine Gc2 (Aj c_ C C<|CloneE (xs:=(edgesK k.S)) (Bu hF.p.e3<|Cm (κ:=κ)<|by repeat (first|exact hH|exact B0 _|apply Bz|apply Cl|apply Ca)) om) λaj ai=>?_
    refine Gr (Bo C)<|Gf fld38_1 C<|Ge0 (B6 (cs:=[_,_,_,_,_,_,_,_,_,_,_,_,_,_,_,_,_,_,_,_,_,_,_,_,_]) (vs:=[_]) (cs':=[_,_,_,_,_,_,_,_,_,_,_,_,_,_,_,_,_,_,_,_,_,_,_,_,_]) ty36) ?_
    refine Bj<|Am<|Ah<|Ap (S5 29 28 27 2 1)<|Ay<|Gr (Rad C C)<|Gm C<|Bj<|Dl (n:=1)<|Ap (L':=[(29,e7 3),(28,e7 ((4:Nat):Int)),(27,.slice av 4 4),(2,pt b2),(1,pt b1)]) (cx4<|Aa C Bp)<|Ad<|Gr (A9 C C)<|Ac<|Ar<|A7 C (λZ=>?_)<|λZ=>?_
    ·refine Aw (Ah<|Ar<|A5<|Ad<|Gr (A3 (α:=PtrC) (xs:=([⟨b1,9⟩,⟨b1,12⟩,⟨b1,15⟩,⟨b1,19⟩]:List PtrC)) Ee ty181 C C Bi om om)<|Gr (B9 (α:=PtrC) (xs:=([⟨b1,9⟩,⟨b1,12⟩,⟨b1,15⟩,⟨b1,19⟩]:List PtrC)) (u:= .pointer (some ⟨b1,19,none⟩)) ty181 C Bi dc (show (3:Int)<((4:Nat):Int) by decide) C)<|Ga C<|Ac<|Ay<|Gm C<|Gm C<|Gr (Bo C)<|Gf fld38_1 C<|Gl ty36 ?_)
     refine Gc2 (Aj c_ C C<|CloneE (xs:=(edgesK k.S)) (Bu hF.p.e4<|Cm (κ:=κ)<|by repeat (first|exact hH|exact B0 _|apply Bz|apply Cl|apply Ca)) om) λaq ad=>?_
     refine Gr (Bo C)<|Gf fld38_1 C<|Ge0 (B6 (cs:=[_,_,_,_,_,_,_,_,_,_,_,_,_,_,_,_,_,_,_,_,_,_,_,_,_]) (vs:=[_]) (cs':=[_,_,_,_,_,_,_,_,_,_,_,_,_,_,_,_,_,_,_,_,_,_,_,_,_]) ty36) ?_
     refine Bj<|Am<|Ah<|Ap (S5 29 28 27 2 1)<|Ay<|Gr (Rad C C)<|Gm C<|Bj<|Dl (n:=0)<|Ap (L':=[(29,e7 4),(28,e7 ((4:Nat):Int)),(27,.slice av 4 4),(2,pt b2),(1,pt b1)]) (cx4<|Aa C Bp)<|Ad<|Gr (A9 C C)<|Ac<|Ar<|A7 C (λZ=>?_)<|λZ=>?_
     ·exact absurd Z dc
     refine Bt<|Aq<|Aq<|Bb<|Ah<|Ar<|Ad<|Gf fld47_3 C<|Gf fld40_1 C<|Gf fld47_4 C<|Gf fld41_1 C<|Gf fld47_5 C<|Gf fld43_2 C<|Gf fld47_6 C<|Gf fld45_3 C<|Ge1 (Ce (α:=PtrC) (cs:=[_,_,_,_]) (xs:=[⟨b1,11⟩,⟨b1,14⟩,⟨b1,18⟩,⟨b1,23⟩]) Ed ty183 C C dc dc C C C C) λaa=>?_
     refine Gr (Bk Ed C)<|Gm C<|Ac<|Ap (S5 52 51 50 2 1)<|A5<|W.rounds 5 ?_
     refine Dl (n:=4)<|Ap (L':=[(52,e7 0),(51,e7 ((4:Nat):Int)),(50,.slice aa 4 4),(2,pt b2),(1,pt b1)]) (cx4<|Aa C Bp)<|Ad<|Gr (A9 C C)<|Ac<|Ar<|A7 C (λM=>?_)<|λM=>?_
     ·refine Aw (Ah<|Ar<|A5<|Ad<|Gr (A3 (α:=PtrC) (xs:=([⟨b1,11⟩,⟨b1,14⟩,⟨b1,18⟩,⟨b1,23⟩]:List PtrC)) Ed ty183 C C Bi om om)<|Gr (B9 (α:=PtrC) (xs:=([⟨b1,11⟩,⟨b1,14⟩,⟨b1,18⟩,⟨b1,23⟩]:List PtrC)) (u:= .pointer (some ⟨b1,11,none⟩)) ty183 C Bi dc (show (0:Int)<((4:Nat):Int) by decide) C)<|Ga C<|Ac<|Ay<|Gm C<|Gm C<|Gr (Bo C)<|Gl ty22 ?_)
      refine Gc2 (Aj c_ C C<|CloneI (xs:=coreN nd (edgesK k.S)) (Bu hF.p.n1<|Cm (κ:=κ)<|by repeat (first|exact hH|exact B0 _|apply Bz|apply Cl|apply Ca)) om) λap aw=>?_
      refine Gr (Bo C)<|Ge0 (B6 (cs:=[_,_,_,_,_,_,_,_,_,_,_,_,_,_,_,_,_,_,_,_,_,_,_,_,_]) (vs:=[_]) (cs':=[_,_,_,_,_,_,_,_,_,_,_,_,_,_,_,_,_,_,_,_,_,_,_,_,_]) ty22) ?_
      refine Bj<|Am<|Ah<|Ap (S5 52 51 50 2 1)<|Ay<|Gr (Rad C C)<|Gm C<|Bj<|Dl (n:=3)<|Ap (L':=[(52,e7 1),(51,e7 ((4:Nat):Int)),(50,.slice aa 4 4),(2,pt b2),(1,pt b1)]) (cx4<|Aa C Bp)<|Ad<|Gr (A9 C C)<|Ac<|Ar<|A7 C (λM=>?_)<|λM=>?_
      ·refine Aw (Ah<|Ar<|A5<|Ad<|Gr (A3 (α:=PtrC) (xs:=([⟨b1,11⟩,⟨b1,14⟩,⟨b1,18⟩,⟨b1,23⟩]:List PtrC)) Ed ty183 C C Bi om om)<|Gr (B9 (α:=PtrC) (xs:=([⟨b1,11⟩,⟨b1,14⟩,⟨b1,18⟩,⟨b1,23⟩]:List PtrC)) (u:= .pointer (some ⟨b1,14,none⟩)) ty183 C Bi dc (show (1:Int)<((4:Nat):Int) by decide) C)<|Ga C<|Ac<|Ay<|Gm C<|Gm C<|Gr (Bo C)<|Gl ty22 ?_)
       refine Gc2 (Aj c_ C C<|CloneI (xs:=trussG nd (edgesK k.S)) (Bu hF.p.n2<|Cm (κ:=κ)<|by repeat (first|exact hH|exact B0 _|apply Bz|apply Cl|apply Ca)) om) λao ab=>?_
       refine Gr (Bo C)<|Ge0 (B6 (cs:=[_,_,_,_,_,_,_,_,_,_,_,_,_,_,_,_,_,_,_,_,_,_,_,_,_]) (vs:=[_]) (cs':=[_,_,_,_,_,_,_,_,_,_,_,_,_,_,_,_,_,_,_,_,_,_,_,_,_]) ty22) ?_
       refine Bj<|Am<|Ah<|Ap (S5 52 51 50 2 1)<|Ay<|Gr (Rad C C)<|Gm C<|Bj<|Dl (n:=2)<|Ap (L':=[(52,e7 2),(51,e7 ((4:Nat):Int)),(50,.slice aa 4 4),(2,pt b2),(1,pt b1)]) (cx4<|Aa C Bp)<|Ad<|Gr (A9 C C)<|Ac<|Ar<|A7 C (λM=>?_)<|λM=>?_
       ·refine Aw (Ah<|Ar<|A5<|Ad<|Gr (A3 (α:=PtrC) (xs:=([⟨b1,11⟩,⟨b1,14⟩,⟨b1,18⟩,⟨b1,23⟩]:List PtrC)) Ed ty183 C C Bi om om)<|Gr (B9 (α:=PtrC) (xs:=([⟨b1,11⟩,⟨b1,14⟩,⟨b1,18⟩,⟨b1,23⟩]:List PtrC)) (u:= .pointer (some ⟨b1,18,none⟩)) ty183 C Bi dc (show (2:Int)<((4:Nat):Int) by decide) C)<|Ga C<|Ac<|Ay<|Gm C<|Gm C<|Gr (Bo C)<|Gl ty22 ?_)
        refine Gc2 (Aj c_ C C<|CloneI (xs:=triL nd (edgesK k.S)) (Bu hF.p.n3<|Cm (κ:=κ)<|by repeat (first|exact hH|exact B0 _|apply Bz|apply Cl|apply Ca)) om) λak ae=>?_
        refine Gr (Bo C)<|Ge0 (B6 (cs:=[_,_,_,_,_,_,_,_,_,_,_,_,_,_,_,_,_,_,_,_,_,_,_,_,_]) (vs:=[_]) (cs':=[_,_,_,_,_,_,_,_,_,_,_,_,_,_,_,_,_,_,_,_,_,_,_,_,_]) ty22) ?_
        refine Bj<|Am<|Ah<|Ap (S5 52 51 50 2 1)<|Ay<|Gr (Rad C C)<|Gm C<|Bj<|Dl (n:=1)<|Ap (L':=[(52,e7 3),(51,e7 ((4:Nat):Int)),(50,.slice aa 4 4),(2,pt b2),(1,pt b1)]) (cx4<|Aa C Bp)<|Ad<|Gr (A9 C C)<|Ac<|Ar<|A7 C (λM=>?_)<|λM=>?_
        ·refine Aw (Ah<|Ar<|A5<|Ad<|Gr (A3 (α:=PtrC) (xs:=([⟨b1,11⟩,⟨b1,14⟩,⟨b1,18⟩,⟨b1,23⟩]:List PtrC)) Ed ty183 C C Bi om om)<|Gr (B9 (α:=PtrC) (xs:=([⟨b1,11⟩,⟨b1,14⟩,⟨b1,18⟩,⟨b1,23⟩]:List PtrC)) (u:= .pointer (some ⟨b1,23,none⟩)) ty183 C Bi dc (show (3:Int)<((4:Nat):Int) by decide) C)<|Ga C<|Ac<|Ay<|Gm C<|Gm C<|Gr (Bo C)<|Gl ty22 ?_)
         refine Gc2 (Aj c_ C C<|CloneI (xs:=quadL nd (edgesK k.S)) (Bu hF.p.n4<|Cm (κ:=κ)<|by repeat (first|exact hH|exact B0 _|apply Bz|apply Cl|apply Ca)) om) λar ah=>?_
         refine Gr (Bo C)<|Ge0 (B6 (cs:=[_,_,_,_,_,_,_,_,_,_,_,_,_,_,_,_,_,_,_,_,_,_,_,_,_]) (vs:=[_]) (cs':=[_,_,_,_,_,_,_,_,_,_,_,_,_,_,_,_,_,_,_,_,_,_,_,_,_]) ty22) ?_
         refine Bj<|Am<|Ah<|Ap (S5 52 51 50 2 1)<|Ay<|Gr (Rad C C)<|Gm C<|Bj<|Dl (n:=0)<|Ap (L':=[(52,e7 4),(51,e7 ((4:Nat):Int)),(50,.slice aa 4 4),(2,pt b2),(1,pt b1)]) (cx4<|Aa C Bp)<|Ad<|Gr (A9 C C)<|Ac<|Ar<|A7 C (λM=>?_)<|λM=>?_
         ·exact absurd M dc
         refine Bt<|Aq<|Aq<|Bb<|Ah<|Ad<|Gr (Runs.lq ty47) ?_
         refine Ge0 (Eff.sq ty47) ?_
         exact Ac<|Az<|Ez C ty47 C mm C (([vk 54 a3 a1 k.b.ws,vc 82 (.slice ax k.S.length az)<|k.S,vc 105 (.slice a0 (edgesK k.S).length ay)<|(edgesK k.S),vc 3 (.slice ap (coreN nd<|edgesK k.S).length aw)<|coreN nd<|edgesK k.S,vc 105 (.slice au (edgesK k.S).length an)<|(edgesK k.S),vc 3 (.slice ao (trussG nd<|edgesK k.S).length ab)<|trussG nd<|edgesK k.S,vc 105 (.slice aj (edgesK k.S).length ai)<|(edgesK k.S),vc 3 (.slice ak (triL nd<|edgesK k.S).length ae)<|triL nd<|edgesK k.S,vc 105 (.slice aq (edgesK k.S).length ad)<|(edgesK k.S),vc 3 (.slice ar (quadL nd<|edgesK k.S).length ah)<|quadL nd<|edgesK k.S]++I)) Bl ⟨⟨⟨a3,a1⟩,⟨ax,az⟩,⟨⟨a0,ay⟩,⟨ap,aw⟩,⟨au,an⟩,⟨ao,ab⟩,⟨aj,ai⟩,⟨ak,ae⟩,⟨aq,ad⟩,⟨ar,ah⟩⟩⟩,[vk 54 a3 a1 k.b.ws,vc 82 (.slice ax k.S.length az)<|k.S,vc 105 (.slice a0 (edgesK k.S).length ay)<|(edgesK k.S),vc 3 (.slice ap (coreN nd<|edgesK k.S).length aw)<|coreN nd<|edgesK k.S,vc 105 (.slice au (edgesK k.S).length an)<|(edgesK k.S),vc 3 (.slice ao (trussG nd<|edgesK k.S).length ab)<|trussG nd<|edgesK k.S,vc 105 (.slice aj (edgesK k.S).length ai)<|(edgesK k.S),vc 3 (.slice ak (triL nd<|edgesK k.S).length ae)<|triL nd<|edgesK k.S,vc 105 (.slice aq (edgesK k.S).length ad)<|(edgesK k.S),vc 3 (.slice ar (quadL nd<|edgesK k.S).length ah)<|quadL nd<|edgesK k.S],rfl,⟨Bi,Bi,⟨Bi,Bi,Bi,Bi,Bi,Bi,Bi,Bi⟩⟩,rfl⟩
        exact absurd dc M
       exact absurd dc M
      exact absurd dc M
     exact absurd dc M
    exact absurd dc Z
   exact absurd dc Z
  exact absurd dc Z
 exact absurd dc Z
section
variable {nd kd wd mo:Int}{X X1:List Lk}{o evs:List Ev}{e:Ev}{t0:Int}{i:Nat}
theorem rel_one(h:relE kd wd mo X (evs.take i)=(X1,o))(hi:i<evs.length)(Z:e_ evs i=e):relE kd wd mo X (evs.take (i+1))=((evStep kd wd mo (X1,[]) e).1,o++(evStep kd wd mo (X1,[]) e).2):=by
 rw [Cj evs i hi,relE_app,h,Z];rfl
theorem last_one(hi:i<evs.length)(Z:e_ evs i=e):lastE t0 (evs.take (i+1))=e.tm:=by
 rw [Cj evs i hi,lastE_app,Z];rfl
theorem last_le(M:evs.Pairwise λa b=>a.tm<=b.tm)(Z:∀e∈evs,t0<=e.tm)(hi:i<evs.length):lastE t0 (evs.take i)<=(e_ evs i).tm:=by
 cases i with
 |zero=>exact Z _ (B7 om om)
 |succ j=>
  rw [last_one om rfl]
  exact (pairwise_at evs).1 M j (j+1) om hi
end
theorem Released_ok{κ:Ctx}{I:List Item}{nd kd wd mo:Int}{k:EnS}{v:KpV}{bf:BfS}{wa:Option Addr}{wc:Nat}{evs:List Ev}{ea:Option Addr}{ec:Nat}(hH:Has I T)(hF:KpF κ T nd k v)(hK:EnOk nd kd wd mo bd k)(a9:Sl κ T (.slice wa bf.ws.length wc) bf.ws)(he:Sl κ T (.slice ea evs.length ec) evs)(aq:evs.Pairwise λa b=>a.tm<=b.tm)(ak:∀e∈evs,FitOk nd e/\k.tm<=e.tm)(a7:bf.ws.length<=100000)(bc:evs.length<=5000)(hT:TabRd κ I 0 tzCells):eu Tryz.prog κ 48 [.agg (kx kd wd mo bd nd k v).toArray,.agg #[e7 bd,e7 (bf.lt),e7 (bf.mr),.slice wa bf.ws.length wc],.slice ea evs.length ec] I (λr J=>∃(v':KpV) (Y:List Item) (a:Option Addr) (c:Nat),r = .tuple #[.agg (kx kd wd mo bd nd ((k.rel kd wd mo bf evs)) v').toArray,.slice a ((relE kd wd mo k.S evs).2).length c,e7 0]/\KpF κ (Y++T) nd (k.rel kd wd mo bf evs) v'/\Sl κ (Y++T) (.slice a ((relE kd wd mo k.S evs).2).length c) (relE kd wd mo k.S evs).2/\J=Y++I):=by
 refine Ce3 Tryz.func48 C C ?_
 refine Ad<|Ge1 (Bd (cs:=[_,_,_,_,_,_,_,_,_,_,_,_,_,_,_,_,_,_,_,_,_,_,_,_,_]) C C C) λb1=>Ge1 (Bd (cs:=[_,_,_,_]) C C C) λb2=>Ge1 (A4 ty47 C) λb3=>Ga C<|Ga C<|Ac<|Ad<|Gl4 ty32 ?_
 refine Gf fld47_1 C<|Ge0 (B6 (cs:=[_,_,_,_,_,_,_,_,_,_,_,_,_,_,_,_,_,_,_,_,_,_,_,_,_]) (vs:=[_,_,_,_]) (cs':=[_,_,_,_,_,_,_,_,_,_,_,_,_,_,_,_,_,_,_,_,_,_,_,_,_]) ty32) ?_
 refine Ac<|Ad<|Ga C<|Ac<|Ar<|Ad<|Gm C<|Gr (Bk Al C)<|Gm C<|Ac<|Ap (S6 19 18 17 9 6 3)<|A5<|B1 (σ:=Nat×(List Lk)×SlA×PkV×Int×(List Item)×(Option Addr)×Nat×(List Ev)) (λs=>([(3,pt b1),(6,pt b3),(9,.slice s.2.2.2.2.2.2.1 s.2.2.2.2.2.2.2.2.length s.2.2.2.2.2.2.2.1),(17,.slice ea evs.length ec),(18,e7 ((evs.length:Nat):Int)),(19,e7 ((s.1:Nat):Int))]:Env)) (λs=>vk 54 s.2.2.2.2.2.2.1 s.2.2.2.2.2.2.2.1 s.2.2.2.2.2.2.2.2::e8 b3 zk 47::e8 b2 [e7 bd,e7<|bf.lt,e7<|bf.mr,.slice wa bf.ws.length wc] 32::e8 b1 (ky kd wd mo bd bf.lt bf.mr wa bf.ws.length wc nd s.2.2.1.a s.2.1.length s.2.2.1.c (edgesK s.2.1) s.2.2.2.1 s.2.2.2.2.1) 47::(s.2.2.2.2.2.1++I)) (λs=>(s.1<=evs.length)/\(relE kd wd mo k.S (evs.take s.1)=(s.2.1,s.2.2.2.2.2.2.2.2))/\(s.2.2.2.2.1=lastE k.tm (evs.take s.1))/\(SlI nd kd wd s.2.2.2.2.1 s.2.1)/\(Sl κ (s.2.2.2.2.2.1++T) (.slice s.2.2.1.a s.2.1.length s.2.2.1.c) s.2.1)/\(PkR κ (s.2.2.2.2.2.1++T) nd (edgesK s.2.1) s.2.2.2.1)/\(0<=s.2.2.2.2.1)/\(s.2.2.2.2.2.2.2.2.length<=5000*s.1)) (λs=>evs.length - s.1) (0,k.S,v.l,v.p,k.tm,[],none,0,[]) ⟨om,rfl,rfl,hK.inv,hF.l,hF.p,hK.tm.1,(by simp)⟩ (cx2<|Aa (C8 C<|by first|rfl|simp)<|cx2<|Aa Cd Bp) (Co (show Fit κ _ _ from Bl)<|Cf (α:=Ev) _ _) ?_
 rintro ⟨i,X1,lw,pw,t1,Y,oa,oc,o⟩ hp
 dsimp only at hp ⊢
 obtain ⟨hi,M,ao,ab,a1,ax,au,bb⟩:=hp
 have a6:=edges_le (edgesK_ok ab.val)
 rw [edgesK_len] at a6
 refine Ad<|Gr (A9 C C)<|Ac<|Ar<|A7 C (λa8=>?_)<|λa8=>?_
 ·refine Aw (Ah<|Ar<|A5<|Ad<|Gr (A3 (α:=Ev) (xs:=evs) Al ty54 C C (Bu (Bu he hH.fit) Ax) om om)<|Gr (Bv (α:=Ev) (xs:=evs) ty54 C (Bu (Bu he hH.fit) Ax) om om) ?_)
  have aa:=ak _ (B7 (xs:=evs) (i:=(i:Int)) om om)
  have ad:=last_le aq (λe he=>(ak e he).2) (i:=i) om
  rw [←ao] at ad
  generalize hxe:e_ evs i=xe at aa ad ⊢
  have an:=step_ok ab au ad aa.1 hK.win
  have ba:=an.len
  refine Ge1 (A4 ty54 C) λb4=>Ge0 (E8 ty54) ?_
  refine Ac<|Ad<|Gr (Runs.lq ty47) ?_
  refine Gl7 ty54 ?_
  refine G.e (Aj c_ C C<|Step_ok (T:=(Y++T)) (X:=X1) (xe:=xe) (by repeat (first|exact hH|exact B0 _|apply Bz|apply Cl|apply Ca)) a1 ax ab hK.win aa.1 ⟨au,ad⟩<|Bn hT Ax) ?_
  rintro _ _ ⟨_,_,⟨ae,Z,Y7,a0,av,rfl,ah,aj,ai,rfl⟩,rfl,rfl⟩
  refine D9 (J:=e8 b4 (ez xe) 54::vk 54 oa oc o::e8 b3 zk 47::e8 b2 [e7 bd,e7<|bf.lt,e7<|bf.mr,.slice wa bf.ws.length wc] 32::e8 b1 (ky kd wd mo bd bf.lt bf.mr wa bf.ws.length wc nd lw.a X1.length lw.c (edgesK X1) pw t1) 47::(Y7++(Y++I))) (C4<|Dk (A:=Y7) (L:=[e8 b4 (ez xe) 54,vk 54 oa oc o,e8 b3 zk 47,e8 b2 [e7 bd,e7<|bf.lt,e7<|bf.mr,.slice wa bf.ws.length wc] 32,e8 b1 (ky kd wd mo bd bf.lt bf.mr wa bf.ws.length wc nd lw.a X1.length lw.c (edgesK X1) pw t1) 47]) (T:=(Y++I))) ?_
  refine Gm C<|Gr (Ak C C)<|Gr (Ak C C)<|Gr (Ak C C)<|Ge1 (A4 ty47 C) λa5=>Ge0 (Eff.sq ty47) ?_
  refine Ga C<|Ga C<|Ac<|Ap (S9 14 13 12 3 6 9 17 18 19)<|Ar<|Ad<|Gm C<|Gr (Be C C)<|Ac<|A7 C (λay=>?_)<|λay=>?_
  ·exact absurd ay dc
  refine Aw<|Ah<|Bs mixed<|Cc (e8 a5 (ky kd wd mo bd bf.lt bf.mr wa bf.ws.length wc nd ae.a (evStep kd wd mo (X1,[]) xe).1.length ae.c (edgesK (evStep kd wd mo (X1,[]) xe).1) Z xe.tm) 47::e8 b4 (ez xe) 54::e8 b3 zk 47::e8 b2 [e7 bd,e7<|bf.lt,e7<|bf.mr,.slice wa bf.ws.length wc] 32::(Y7++(Y++I))) 4<|Dr 0 C (Runs.lq ty47) ?_
  refine Do (rs:=[1,2]) kr C C<|Eu ?_<|D6 ?_
  ·refine Sr C (Ai C) Bl ?_
   refine Ds1 2<|Sr C (Ai C) Bl ?_
   refine Ds1 3<|Se2 C (B3 (α:=Ev) (e:=54) (xs:=o) (ys:=(evStep kd wd mo (X1,[]) xe).2) Al ty54 C C C mm (Bu (show Sl κ (Y7++(Y++I)) (.slice a0 (evStep kd wd mo (X1,[]) xe).2.length av) (evStep kd wd mo (X1,[]) xe).2 from Bu ai (Cm (κ:=κ)<|by repeat (first|exact hH|exact B0 _|apply Bz|apply Cl|apply Ca))) Ax) om dc C<|λ_ _=>am) λa4 a3=>?_
   refine Cs kr ?_
   refine Ae 4 C (Eff.sq ty47) ?_
   rintro _ _ ⟨rfl,rfl⟩
   refine Dv (i:=5) kr C (Bm C) C C (Bf C) ?_
   refine Ct kr ?_
   exact Am<|Ah<|Ap (S6 9 3 6 17 18 19)<|Ay<|Gr (Rad C C)<|Gm C<|Bj<|Cb ((i+1),((evStep kd wd mo (X1,[]) xe).1),(ae),(Z),(xe.tm),((Y7++Y)),(a4),(a3),(o++((evStep kd wd mo (X1,[]) xe).2))) (by dsimp only;exact ⟨om,(rel_one M om hxe),(last_one om hxe).symm,an.inv,(by rw [List.append_assoc];exact ah),(by rw [List.append_assoc];exact aj),aa.1.tm.1,(by rw [List.length_append];omega)⟩) (hI:=by (try dsimp only);exact (by rw [List.append_assoc];exact Bl))
  refine Sr C (Ai C) Bl ?_
  refine Ds1 1<|Sr C (Ai C) Bl ?_
  refine Ds1 3<|Se2 C (B3 (α:=Ev) (e:=54) (xs:=o) (ys:=(evStep kd wd mo (X1,[]) xe).2) Al ty54 C C C mm (Bu (show Sl κ (Y7++(Y++I)) (.slice a0 (evStep kd wd mo (X1,[]) xe).2.length av) (evStep kd wd mo (X1,[]) xe).2 from Bu ai (Cm (κ:=κ)<|by repeat (first|exact hH|exact B0 _|apply Bz|apply Cl|apply Ca))) Ax) om dc C<|λ_ _=>am) λaz ar=>?_
  refine Cs kr ?_
  refine Ae 4 C (Eff.sq ty47) ?_
  rintro _ _ ⟨rfl,rfl⟩
  refine Dv (i:=5) kr C (Bm C) C C (Bf C) ?_
  refine Ct kr ?_
  exact Am<|Ah<|Ap (S6 9 3 6 17 18 19)<|Ay<|Gr (Rad C C)<|Gm C<|Bj<|Cb ((i+1),((evStep kd wd mo (X1,[]) xe).1),(ae),(Z),(xe.tm),((Y7++Y)),(az),(ar),(o++((evStep kd wd mo (X1,[]) xe).2))) (by dsimp only;exact ⟨om,(rel_one M om hxe),(last_one om hxe).symm,an.inv,(by rw [List.append_assoc];exact ah),(by rw [List.append_assoc];exact aj),aa.1.tm.1,(by rw [List.length_append];omega)⟩) (hI:=by (try dsimp only);exact (by rw [List.append_assoc];exact Bl))
 refine Bt<|Aq<|Aq<|Bb<|Ah<|Ad<|Gr (Runs.lq ty47) ?_
 refine G.e (Aj c_ C C<|Copied_ok (T:=(Y++T)) (k:=(⟨bf,X1,t1⟩:EnS)) (v:=(⟨⟨wa,wc⟩,lw,pw⟩:KpV)) (by repeat (first|exact hH|exact B0 _|apply Bz|apply Cl|apply Ca)) ⟨a9.fit<|Fit.appR _ _,a1,ax⟩ ab.val a7) ?_
 rintro _ _ ⟨_,_,⟨aw,Y16,rfl,ap,rfl⟩,rfl,rfl⟩
 refine D9 (J:=vk 54 oa oc o::e8 b3 zk 47::e8 b2 [e7 bd,e7<|bf.lt,e7<|bf.mr,.slice wa bf.ws.length wc] 32::e8 b1 (ky kd wd mo bd bf.lt bf.mr wa bf.ws.length wc nd lw.a X1.length lw.c (edgesK X1) pw t1) 47::(Y16++(Y++I))) (C4<|Dk (A:=Y16) (L:=[vk 54 oa oc o,e8 b3 zk 47,e8 b2 [e7 bd,e7<|bf.lt,e7<|bf.mr,.slice wa bf.ws.length wc] 32,e8 b1 (ky kd wd mo bd bf.lt bf.mr wa bf.ws.length wc nd lw.a X1.length lw.c (edgesK X1) pw t1) 47]) (T:=(Y++I))) ?_
 refine Gm C<|Ge0 (Eff.sq ty47) ?_
 refine Ga C<|Ga C<|Ac<|Az ?_
 rw [show evs.take i=evs from List.take_of_length_le om] at M ao
 have hk:(k.rel kd wd mo bf evs)=⟨bf,X1,t1⟩:=by unfold EnS.rel;rw [M,←ao]
 rw [hk,M]
 exact Cy C ty47 C C C mm C (((vk 54 oa oc o::(Y16++Y))++I)) (by simp only [List.cons_append,List.append_assoc];exact Bl) ⟨aw,(vk 54 oa oc o::(Y16++Y)),oa,oc,rfl,(by simp only [List.cons_append,List.append_assoc];exact KpF.fit ap<|Fit.tail<|Dn _),De<|List.mem_append_left _ List.mem_cons_self,rfl⟩
end Go.Sl
