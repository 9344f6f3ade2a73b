/- A part of the proofs of statements of this seat: contracts of functions, and the plain laws that they lean on. No conditions. -/
import Derived.Test.YtoagcglbkeomgaaGreatDoorK25
set_option linter.unusedVariables false
set_option linter.unusedSimpArgs false
set_option linter.unusedSectionVars false
set_option maxHeartbeats 4000000
namespace Go.Sl
open Go.Proofs
set_option maxRecDepth 4000
variable{es:List Pt}{ga:Option Addr}{b gb gc:Nat}{bd:Int}{T:List Item}
variable {κ:Ctx}{I:List Item}
theorem KIdx_ok{nd:Int}{v:PkV}{M:Option Addr}(hp:PkR κ I nd es v)(hg:Sl κ I (.slice ga es.length gc) es)(hG:GrOk nd es)(hT:TabRd κ I 0 tzCells):eu Tryz.prog κ 110 [.slice M 4 4,.func (.func 63) #[] #[(pt gb)]] (vc 117 (.slice M 4 4) (([⟨170,b,0⟩,⟨171,b,3⟩,⟨172,b,6⟩,⟨173,b,10⟩]:List IfcC))::e8 b (pq nd es v) 169::e8 gb [e7 nd,.slice ga es.length gc] 38::I) (λr J=>r=e7 (-1)/\J=vc 117 (.slice M 4 4) (([⟨170,b,0⟩,⟨171,b,3⟩,⟨172,b,6⟩,⟨173,b,10⟩]:List IfcC))::e8 b (pq nd es v) 169::e8 gb [e7 nd,.slice ga es.length gc] 38::I):=by
 refine Ce2 Tryz.func110 C C ?_
 refine Af<|Ga C<|Ac<|Aq<|Af<|Gm C<|Gr (Bh Ck C)<|Gm C<|Ac<|Aw<|W.rounds 5 ?_
 refine Dg (n:=4)<|Ao (L':=[(8,e7 0),(7,e7 ((4:Nat):Int)),(0,.slice M 4 4),(1,.func (.func 63) #[] #[(pt gb)])]) (Aa C<|Aa C<|Aa C<|Aa C Bi)<|Af<|Gr (A4 C C)<|Ac<|Aq<|A5 C (λZ=>?_)<|λZ=>?_
 ·refine Av (Ah<|Aq<|Aw<|Af<|Gm C<|Ga C<|Ac<|Af<|Gm C<|Gm C<|Gm C<|Gr (Ax (α:=IfcC) (xs:=([⟨170,b,0⟩,⟨171,b,3⟩,⟨172,b,6⟩,⟨173,b,10⟩]:List IfcC)) Ck ty117 C C Bf om om)<|Gr (B7 (α:=IfcC) (xs:=([⟨170,b,0⟩,⟨171,b,3⟩,⟨172,b,6⟩,⟨173,b,10⟩]:List IfcC)) (u:= .iface 170 (pt b)) ty117 C Bf dc (show (0:Int)<((4:Nat):Int) by decide) C)<|G.e (Cv c_ C C C<|Cm (J:=e8 b (pq nd es v) 169::e8 gb [e7 nd,.slice ga es.length gc] 38::vc 117 (.slice M 4 4) (([⟨170,b,0⟩,⟨171,b,3⟩,⟨172,b,6⟩,⟨173,b,10⟩]:List IfcC))::I) Bl<|KVal20_ok (b:=b) (gb:=gb) (A8 hp.e1) (A8 hp.n1) hG (A8 hg)<|Bm hT Ay) ?_)
  rintro _ _ ⟨_,_,⟨rfl,rfl⟩,rfl,rfl⟩
  refine Ac<|Dp C<|Av<|Aj<|Ah<|Ar<|Gr (Rad C C)<|Gm C<|Bj<|Dg (n:=3)<|Ao (L':=[(8,e7 1),(7,e7 ((4:Nat):Int)),(0,.slice M 4 4),(1,.func (.func 63) #[] #[(pt gb)])]) (Aa C<|Aa C<|Aa C<|Aa C Bi)<|Af<|Gr (A4 C C)<|Ac<|Aq<|A5 C (λZ=>?_)<|λZ=>?_
  ·refine Av (Ah<|Aq<|Aw<|Af<|Gm C<|Ga C<|Ac<|Af<|Gm C<|Gm C<|Gm C<|Gr (Ax (α:=IfcC) (xs:=([⟨170,b,0⟩,⟨171,b,3⟩,⟨172,b,6⟩,⟨173,b,10⟩]:List IfcC)) Ck ty117 C C Bf om om)<|Gr (B7 (α:=IfcC) (xs:=([⟨170,b,0⟩,⟨171,b,3⟩,⟨172,b,6⟩,⟨173,b,10⟩]:List IfcC)) (u:= .iface 171 (.pointer<|some ⟨b,3,none⟩)) ty117 C Bf dc (show (1:Int)<((4:Nat):Int) by decide) C)<|Gc1 (Cv c_ C C C<|Cm (J:=e8 b (pq nd es v) 169::e8 gb [e7 nd,.slice ga es.length gc] 38::vc 117 (.slice M 4 4) (([⟨170,b,0⟩,⟨171,b,3⟩,⟨172,b,6⟩,⟨173,b,10⟩]:List IfcC))::I) Bl<|KVal21_ok (b:=b) (gb:=gb) (A8 hp.e2) (A8 hp.n2) hG (A8 hg)<|Bm hT Ay) ?_)
   refine Ac<|Dp C<|Av<|Aj<|Ah<|Ar<|Gr (Rad C C)<|Gm C<|Bj<|Dg (n:=2)<|Ao (L':=[(8,e7 2),(7,e7 ((4:Nat):Int)),(0,.slice M 4 4),(1,.func (.func 63) #[] #[(pt gb)])]) (Aa C<|Aa C<|Aa C<|Aa C Bi)<|Af<|Gr (A4 C C)<|Ac<|Aq<|A5 C (λZ=>?_)<|λZ=>?_
   ·refine Av (Ah<|Aq<|Aw<|Af<|Gm C<|Ga C<|Ac<|Af<|Gm C<|Gm C<|Gm C<|Gr (Ax (α:=IfcC) (xs:=([⟨170,b,0⟩,⟨171,b,3⟩,⟨172,b,6⟩,⟨173,b,10⟩]:List IfcC)) Ck ty117 C C Bf om om)<|Gr (B7 (α:=IfcC) (xs:=([⟨170,b,0⟩,⟨171,b,3⟩,⟨172,b,6⟩,⟨173,b,10⟩]:List IfcC)) (u:= .iface 172 (.pointer<|some ⟨b,6,none⟩)) ty117 C Bf dc (show (2:Int)<((4:Nat):Int) by decide) C)<|Gc1 (Cv c_ C C C<|Cm (J:=e8 b (pq nd es v) 169::e8 gb [e7 nd,.slice ga es.length gc] 38::vc 117 (.slice M 4 4) (([⟨170,b,0⟩,⟨171,b,3⟩,⟨172,b,6⟩,⟨173,b,10⟩]:List IfcC))::I) Bl<|KVal22_ok (b:=b) (gb:=gb) (A8 hp.e3) (A8 hp.n3) hG<|A8 hg) ?_)
    refine Ac<|Dp C<|Av<|Aj<|Ah<|Ar<|Gr (Rad C C)<|Gm C<|Bj<|Dg (n:=1)<|Ao (L':=[(8,e7 3),(7,e7 ((4:Nat):Int)),(0,.slice M 4 4),(1,.func (.func 63) #[] #[(pt gb)])]) (Aa C<|Aa C<|Aa C<|Aa C Bi)<|Af<|Gr (A4 C C)<|Ac<|Aq<|A5 C (λZ=>?_)<|λZ=>?_
    ·refine Av (Ah<|Aq<|Aw<|Af<|Gm C<|Ga C<|Ac<|Af<|Gm C<|Gm C<|Gm C<|Gr (Ax (α:=IfcC) (xs:=([⟨170,b,0⟩,⟨171,b,3⟩,⟨172,b,6⟩,⟨173,b,10⟩]:List IfcC)) Ck ty117 C C Bf om om)<|Gr (B7 (α:=IfcC) (xs:=([⟨170,b,0⟩,⟨171,b,3⟩,⟨172,b,6⟩,⟨173,b,10⟩]:List IfcC)) (u:= .iface 173 (.pointer<|some ⟨b,10,none⟩)) ty117 C Bf dc (show (3:Int)<((4:Nat):Int) by decide) C)<|Gc1 (Cv c_ C C C<|Cm (J:=e8 b (pq nd es v) 169::e8 gb [e7 nd,.slice ga es.length gc] 38::vc 117 (.slice M 4 4) (([⟨170,b,0⟩,⟨171,b,3⟩,⟨172,b,6⟩,⟨173,b,10⟩]:List IfcC))::I) Bl<|KVal23_ok (b:=b) (gb:=gb) (A8 hp.e4) (A8 hp.n4) hG (A8 hg)<|Bm hT Ay) ?_)
     refine Ac<|Dp C<|Av<|Aj<|Ah<|Ar<|Gr (Rad C C)<|Gm C<|Bj<|Dg (n:=0)<|Ao (L':=[(8,e7 4),(7,e7 ((4:Nat):Int)),(0,.slice M 4 4),(1,.func (.func 63) #[] #[(pt gb)])]) (Aa C<|Aa C<|Aa C<|Aa C Bi)<|Af<|Gr (A4 C C)<|Ac<|Aq<|A5 C (λZ=>?_)<|λZ=>?_
     ·exact absurd Z dc
     exact Bs<|Al<|Al<|A2<|Ah<|Af<|Ga C<|Ac<|Az<|A1 C C (vc 117 (.slice M 4 4) (([⟨170,b,0⟩,⟨171,b,3⟩,⟨172,b,6⟩,⟨173,b,10⟩]:List IfcC))::e8 b (pq nd es v) 169::e8 gb [e7 nd,.slice ga es.length gc] 38::I) Bl ⟨rfl,rfl⟩
    exact absurd dc Z
   exact absurd dc Z
  exact absurd dc Z
 exact absurd dc Z
theorem KCon_ok{nd:Int}{v:PkV}{Z:Option Addr}(hp:PkR κ I nd es v)(hg:Sl κ I (.slice ga es.length gc) es)(M:GrOk nd es)(hT:TabRd κ I 0 tzCells):eu Tryz.prog κ 60 [.slice Z 4 4,.func (.func 63) #[] #[(pt gb)]] (vc 117 (.slice Z 4 4) (([⟨170,b,0⟩,⟨171,b,3⟩,⟨172,b,6⟩,⟨173,b,10⟩]:List IfcC))::e8 b (pq nd es v) 169::e8 gb [e7 nd,.slice ga es.length gc] 38::I) (λr J=>r = .bool false/\J=vc 117 (.slice Z 4 4) (([⟨170,b,0⟩,⟨171,b,3⟩,⟨172,b,6⟩,⟨173,b,10⟩]:List IfcC))::e8 b (pq nd es v) 169::e8 gb [e7 nd,.slice ga es.length gc] 38::I):=by
 refine Ce2 Tryz.func60 C C ?_
 refine Af<|Ga C<|Ac<|Af<|Gm C<|Gm C<|Gc1 (Ak c_ C C<|Cm (J:=vc 117 (.slice Z 4 4) (([⟨170,b,0⟩,⟨171,b,3⟩,⟨172,b,6⟩,⟨173,b,10⟩]:List IfcC))::e8 b (pq nd es v) 169::e8 gb [e7 nd,.slice ga es.length gc] 38::I) Bl<|KIdx_ok (b:=b) (gb:=gb) (PkR.fit hp Ay) (A8 hg) M<|Bm hT Ay) ?_
 exact Gr (Cr C C)<|Ga C<|Ac<|Az<|A1 C C (vc 117 (.slice Z 4 4) (([⟨170,b,0⟩,⟨171,b,3⟩,⟨172,b,6⟩,⟨173,b,10⟩]:List IfcC))::e8 b (pq nd es v) 169::e8 gb [e7 nd,.slice ga es.length gc] 38::I) Bl ⟨rfl,rfl⟩
theorem KValid_ok{nd kd wd mo:Int}{k:EnS}{v:KpV}(hF:KpF κ I nd k v)(M:EnOk nd kd wd mo bd k)(aj:k.b.ws.length<=4096)(hT:TabRd κ I 0 tzCells):eu Tryz.prog κ 23 [.agg (kx kd wd mo bd nd k v).toArray] I (λr J=>r = .bool true/\I=J):=by
 have ap:=edges_le (edgesK_ok M.inv.val)
 have ak:=ap
 rw [edgesK_len] at ak
 have aq:=M.tm
 refine Ce1 Tryz.func23 C C ?_
 refine Af<|Ge1 (Bg (cs:=[_,_,_,_,_,_,_,_,_,_,_,_,_,_,_,_,_,_,_,_,_,_,_,_,_]) C C C) λb1=>Ga C<|Ac<|Aq<|Af<|Gf fld47_1 C<|Gl4 ty32 ?_
 refine G.e (Ak c_ C C<|BValid_ok (bd:=bd) (bf:=k.b) (Bz hF.w<|Db (κ:=κ)<|by repeat (first|exact hH|exact Ci _|apply Ch|apply C9|apply Has.app)) M.buf aj) ?_
 rintro _ _ ⟨_,_,⟨rfl,rfl⟩,rfl,rfl⟩
 refine Gr (Co C)<|Gm C<|e9 (Ad fld47_0 C)<|e9 (Be (vs:=[_,_,_]) ty29) ?_
 refine Ew (C5 C C C) (Ak c_ C C<|CheckW_ok kd wd mo) ?_
 rintro _ _ ⟨_,_,⟨rfl,rfl⟩,rfl,rfl⟩
 refine e9 (Bo C C)<|Gr (A6 C C)<|Gm C<|Bt (d:=15) C (λab=>?_)<|λab=>?_
 ·exact absurd M.win ab
 refine e9 (Ad fld47_7 C)<|e9 (Bb ef) ?_
 refine e9 (A4 C C)<|Gr (A6 C C)<|Gm C<|Bt (d:=20) C (λai=>?_)<|λai=>?_
 ·omega
 refine e9 (Ad fld47_7 C)<|e9 (Bb ef) ?_
 refine e9 (Cc C C)<|Gr (A6 C C)<|Ac<|Ao (S2 24 1 C C)<|A5 C (λan=>?_)<|λan=>?_
 ·omega
 refine Av<|Ah<|Af<|Gf fld47_2 C<|Gl2 ty35 ?_
 refine Gc2 (Ak c_ C C<|LGraph_ok (nd:=nd) (Bz hF.l<|Db (κ:=κ)<|by repeat (first|exact hH|exact Ci _|apply Ch|apply C9|apply Has.app)) M.inv.val om) λae ah=>?_
 refine Gm C<|Gr (Am C C)<|Gr (Am C C)<|Ge1 (A3 ty38 C) λb4=>Ge0 (Cz ty38) ?_
 refine Ga C<|Ac<|Aq<|Af<|Gm C<|Gr (Bo C C)<|Gm C<|Bt (d:=33) C (λad=>?_)<|λad=>?_
 ·exact absurd rfl ad
 refine e9 (Ad fld47_2 C)<|e9 (Ad fld35_1 C)<|e9 (Bb ty33) ?_
 refine e9 (Dw C C)<|Ew (C5 C C C) (Ak c_ C C<|ContainsFuncL (Bz hF.l<|Db (κ:=κ)<|by repeat (first|exact hH|exact Ci _|apply Ch|apply C9|apply Has.app))<|KVal1_says<|Ds mm) ?_
 rintro _ _ ⟨_,_,⟨rfl,rfl⟩,rfl,rfl⟩
 refine Gr (A6 C C)<|Ac<|Ao (S3 39 3 1 C C C)<|D4 C (λaa=>?_)<|λaa=>?_
 ·rw [kept_tm M] at aa;exact absurd aa dc
 refine Av<|Ah<|Af<|Gr (Runs.lq ty47) ?_
 refine G.e (Ak c_ C C OfK_ok) ?_
 rintro _ _ ⟨_,_,⟨Z,rfl,rfl⟩,rfl,rfl⟩
 refine G.e (Ak c_ C C All_ok) ?_
 rintro _ _ ⟨_,_,⟨ao,rfl,rfl⟩,rfl,rfl⟩
 refine Gr (Dw C C)<|Gc1 (Ak c_ C C<|Cm (J:=vc 117 (.slice ao 4 4) (([⟨170,Z,0⟩,⟨171,Z,3⟩,⟨172,Z,6⟩,⟨173,Z,10⟩]:List IfcC))::e8 Z (pq nd (edgesK k.S) v.p) 169::e8 b4 [e7 nd,.slice ae (edgesK k.S).length ah] 38::vk 105 ae ah (edgesK k.S)::e8 b1 (kx kd wd mo bd nd k v) 47::I) Bl<|KCon_ok (b:=Z) (gb:=b4) (PkR.fit hF.p Ay) Bf (edgesK_ok M.inv.val)<|Bm hT Ay) ?_
 exact Gr (Co C)<|Ga C<|Ac<|Az<|A1 C C I Ay ⟨rfl,rfl⟩
theorem Copied_ok{κ:Ctx}{I:List Item}{nd kd wd mo:Int}{k:EnS}{v:KpV}(hH:Has I T)(hF:KpF κ T nd k v)(hv:checkS nd k.S=0)(a6:k.b.ws.length<=100000):eu Tryz.prog κ 82 [.agg (kx kd wd mo bd nd k v).toArray] I (λr J=>∃(v':KpV) (Y:List Item),r = .agg (kx kd wd mo bd nd k v').toArray/\KpF κ (Y++T) nd k v'/\J=Y++I):=by
 have hG:=edgesK_ok hv
 have a5:=edges_le hG
 have a4:=a5
 rw [edgesK_len] at a4
 have a7:=hG.rng
 have ba:=coreN_len nd (edgesK k.S)
 have a9:=trussG_lenE hG
 have bb:=triL_len nd (edgesK k.S)
 have a8:=quadL_len nd (edgesK k.S)
 refine Ce1 Tryz.func82 C C ?_
 refine Af<|Ge1 (Bg (cs:=[_,_,_,_,_,_,_,_,_,_,_,_,_,_,_,_,_,_,_,_,_,_,_,_,_]) C C C) λb1=>Ge1 (A3 ty47 C) λb2=>Ac<|Aq<|Bq mixed<|Ca (e8 b2 zk 47::I) 14<|Dr 0 C (Ad fld47_1 C)<|Dr 1 C (Ad fld32_3 C)<|Dr 4 C (Ad fld47_2 C)<|Dr 5 C (Ad fld35_1 C)<|D.two (e8 b2 zk 47::e8 b1 (kx kd wd mo bd nd k v) 47::I) 10 Bl ?_
 refine D2.read 2 C kr kr kr C kr (λ_ _ _ _ h=>h) (Bn C) C C Bl (Bb ty30) ?_
 refine D2.read 6 C kr kr kr C kr (λ_ _ _ _ h=>h) (Bn C) C C Bl (Bb ty33) ?_
 refine E3 (rs:=[3]) kr C C<|Ei ?_
 refine D1 C (Bn C) (Ak c_ C C<|CloneV (xs:=k.b.ws) (Bz hF.w<|Db (κ:=κ)<|by repeat (first|exact hH|exact Ci _|apply Ch|apply C9|apply Has.app)) om) ?_
 rintro _ _ ⟨_,_,⟨ay,a3,rfl,rfl⟩,rfl,rfl⟩
 refine ⟨Bl,?_⟩
 refine E3 (rs:=[7]) kr C C<|Ei ?_
 refine D1 C (Bn C) (Ak c_ C C<|CloneL (xs:=k.S) (Bz hF.l<|Db (κ:=κ)<|by repeat (first|exact hH|exact Ci _|apply Ch|apply C9|apply Has.app)) om) ?_
 rintro _ _ ⟨_,_,⟨ax,az,rfl,rfl⟩,rfl,rfl⟩
 refine ⟨Bl,?_⟩
 refine E3 (rs:=[8]) kr C C<|Ei ?_
 refine Step2.read C (Bn C) C C (Ad fld47_1 C) Bl ?_
 refine D2.read 9 C kr kr kr C kr (λ_ _ _ _ h=>h) (Bn C) C C Bl (Ad fld32_3 C) ?_
 refine D2.stop kr ?_
 refine Ds1 10<|Se0 C (Cd (cs:=[_,_,_,_,_,_,_,_,_,_,_,_,_,_,_,_,_,_,_,_,_,_,_,_,_]) (vs:=[_]) (cs':=[_,_,_,_,_,_,_,_,_,_,_,_,_,_,_,_,_,_,_,_,_,_,_,_,_]) ty30) ?_
 refine Dr 11 C (Ad fld47_2 C)<|Dr 12 C (Ad fld35_1 C)<|Ds1 13<|Se0 C (Cd (cs:=[_,_,_,_,_,_,_,_,_,_,_,_,_,_,_,_,_,_,_,_,_,_,_,_,_]) (vs:=[_]) (cs':=[_,_,_,_,_,_,_,_,_,_,_,_,_,_,_,_,_,_,_,_,_,_,_,_,_]) ty33) ?_
 refine Dz<|Ah<|Ao (S2 2 1 C C)<|Aq<|Af<|Gf fld47_3 C<|Gf fld40_0 C<|Gf fld47_4 C<|Gf fld41_0 C<|Gf fld47_5 C<|Gf fld43_0 C<|Gf fld47_6 C<|Gf fld45_0 C<|Ge1 (Cf (α:=PtrC) (cs:=[_,_,_,_]) (xs:=[⟨b1,9⟩,⟨b1,12⟩,⟨b1,15⟩,⟨b1,19⟩]) D8 ty181 C C dc dc C C C C) λai=>?_
 refine Gr (Bh D8 C)<|Gm C<|Ac<|Aw<|W.rounds 5 ?_
 refine Dg (n:=4)<|Ao (L':=[(29,e7 0),(28,e7 ((4:Nat):Int)),(27,.slice ai 4 4),(2,pt b2),(1,pt b1)]) (Aa C<|Aa C<|Aa C<|Aa C<|Aa C Bi)<|Af<|Gr (A4 C C)<|Ac<|Aq<|A5 C (λZ=>?_)<|λZ=>?_
 ·refine Av (Ah<|Aq<|Aw<|Af<|Gr (Ax (α:=PtrC) (xs:=([⟨b1,9⟩,⟨b1,12⟩,⟨b1,15⟩,⟨b1,19⟩]:List PtrC)) D8 ty181 C C Bf om om)<|Gr (B7 (α:=PtrC) (xs:=([⟨b1,9⟩,⟨b1,12⟩,⟨b1,15⟩,⟨b1,19⟩]:List PtrC)) (u:= .pointer (some ⟨b1,9,none⟩)) ty181 C Bf dc (show (0:Int)<((4:Nat):Int) by decide) C)<|Ga C<|Ac<|Ar<|Gm C<|Gm C<|Gr (Bk C)<|Gf fld38_1 C<|Gl ty36 ?_)
  refine Gc2 (Ak c_ C C<|CloneE (xs:=(edgesK k.S)) (Bz hF.p.e1<|Db (κ:=κ)<|by repeat (first|exact hH|exact Ci _|apply Ch|apply C9|apply Has.app)) om) λa1 a0=>?_
  refine Gr (Bk C)<|Gf fld38_1 C<|Ge0 (Cd (cs:=[_,_,_,_,_,_,_,_,_,_,_,_,_,_,_,_,_,_,_,_,_,_,_,_,_]) (vs:=[_]) (cs':=[_,_,_,_,_,_,_,_,_,_,_,_,_,_,_,_,_,_,_,_,_,_,_,_,_]) ty36) ?_
  refine Bj<|Aj<|Ah<|Ao (S5 29 28 27 2 1 C C C C C)<|Ar<|Gr (Rad C C)<|Gm C<|Bj<|Dg (n:=3)<|Ao (L':=[(29,e7 1),(28,e7 ((4:Nat):Int)),(27,.slice ai 4 4),(2,pt b2),(1,pt b1)]) (Aa C<|Aa C<|Aa C<|Aa C<|Aa C Bi)<|Af<|Gr (A4 C C)<|Ac<|Aq<|A5 C (λZ=>?_)<|λZ=>?_
  ·refine Av (Ah<|Aq<|Aw<|Af<|Gr (Ax (α:=PtrC) (xs:=([⟨b1,9⟩,⟨b1,12⟩,⟨b1,15⟩,⟨b1,19⟩]:List PtrC)) D8 ty181 C C Bf om om)<|Gr (B7 (α:=PtrC) (xs:=([⟨b1,9⟩,⟨b1,12⟩,⟨b1,15⟩,⟨b1,19⟩]:List PtrC)) (u:= .pointer (some ⟨b1,12,none⟩)) ty181 C Bf dc (show (1:Int)<((4:Nat):Int) by decide) C)<|Ga C<|Ac<|Ar<|Gm C<|Gm C<|Gr (Bk C)<|Gf fld38_1 C<|Gl ty36 ?_)
   refine Gc2 (Ak c_ C C<|CloneE (xs:=(edgesK k.S)) (Bz hF.p.e2<|Db (κ:=κ)<|by repeat (first|exact hH|exact Ci _|apply Ch|apply C9|apply Has.app)) om) λav ar=>?_
   refine Gr (Bk C)<|Gf fld38_1 C<|Ge0 (Cd (cs:=[_,_,_,_,_,_,_,_,_,_,_,_,_,_,_,_,_,_,_,_,_,_,_,_,_]) (vs:=[_]) (cs':=[_,_,_,_,_,_,_,_,_,_,_,_,_,_,_,_,_,_,_,_,_,_,_,_,_]) ty36) ?_
   refine Bj<|Aj<|Ah<|Ao (S5 29 28 27 2 1 C C C C C)<|Ar<|Gr (Rad C C)<|Gm C<|Bj<|Dg (n:=2)<|Ao (L':=[(29,e7 2),(28,e7 ((4:Nat):Int)),(27,.slice ai 4 4),(2,pt b2),(1,pt b1)]) (Aa C<|Aa C<|Aa C<|Aa C<|Aa C Bi)<|Af<|Gr (A4 C C)<|Ac<|Aq<|A5 C (λZ=>?_)<|λZ=>?_
   ·refine Av (Ah<|Aq<|Aw<|Af<|Gr (Ax (α:=PtrC) (xs:=([⟨b1,9⟩,⟨b1,12⟩,⟨b1,15⟩,⟨b1,19⟩]:List PtrC)) D8 ty181 C C Bf om om)<|Gr (B7 (α:=PtrC) (xs:=([⟨b1,9⟩,⟨b1,12⟩,⟨b1,15⟩,⟨b1,19⟩]:List PtrC)) (u:= .pointer (some ⟨b1,15,none⟩)) ty181 C Bf dc (show (2:Int)<((4:Nat):Int) by decide) C)<|Ga C<|Ac<|Ar<|Gm C<|Gm C<|Gr (Bk C)<|Gf fld38_1 C<|Gl ty36 ?_)
    refine Gc2 (Ak c_ C C<|CloneE (xs:=(edgesK k.S)) (Bz hF.p.e3<|Db (κ:=κ)<|by repeat (first|exact hH|exact Ci _|apply Ch|apply C9|apply Has.app)) om) λah ak=>?_
    refine Gr (Bk C)<|Gf fld38_1 C<|Ge0 (Cd (cs:=[_,_,_,_,_,_,_,_,_,_,_,_,_,_,_,_,_,_,_,_,_,_,_,_,_]) (vs:=[_]) (cs':=[_,_,_,_,_,_,_,_,_,_,_,_,_,_,_,_,_,_,_,_,_,_,_,_,_]) ty36) ?_
    refine Bj<|Aj<|Ah<|Ao (S5 29 28 27 2 1 C C C C C)<|Ar<|Gr (Rad C C)<|Gm C<|Bj<|Dg (n:=1)<|Ao (L':=[(29,e7 3),(28,e7 ((4:Nat):Int)),(27,.slice ai 4 4),(2,pt b2),(1,pt b1)]) (Aa C<|Aa C<|Aa C<|Aa C<|Aa C Bi)<|Af<|Gr (A4 C C)<|Ac<|Aq<|A5 C (λZ=>?_)<|λZ=>?_
    ·refine Av (Ah<|Aq<|Aw<|Af<|Gr (Ax (α:=PtrC) (xs:=([⟨b1,9⟩,⟨b1,12⟩,⟨b1,15⟩,⟨b1,19⟩]:List PtrC)) D8 ty181 C C Bf om om)<|Gr (B7 (α:=PtrC) (xs:=([⟨b1,9⟩,⟨b1,12⟩,⟨b1,15⟩,⟨b1,19⟩]:List PtrC)) (u:= .pointer (some ⟨b1,19,none⟩)) ty181 C Bf dc (show (3:Int)<((4:Nat):Int) by decide) C)<|Ga C<|Ac<|Ar<|Gm C<|Gm C<|Gr (Bk C)<|Gf fld38_1 C<|Gl ty36 ?_)
     refine Gc2 (Ak c_ C C<|CloneE (xs:=(edgesK k.S)) (Bz hF.p.e4<|Db (κ:=κ)<|by repeat (first|exact hH|exact Ci _|apply Ch|apply C9|apply Has.app)) om) λab ap=>?_
     refine Gr (Bk C)<|Gf fld38_1 C<|Ge0 (Cd (cs:=[_,_,_,_,_,_,_,_,_,_,_,_,_,_,_,_,_,_,_,_,_,_,_,_,_]) (vs:=[_]) (cs':=[_,_,_,_,_,_,_,_,_,_,_,_,_,_,_,_,_,_,_,_,_,_,_,_,_]) ty36) ?_
     refine Bj<|Aj<|Ah<|Ao (S5 29 28 27 2 1 C C C C C)<|Ar<|Gr (Rad C C)<|Gm C<|Bj<|Dg (n:=0)<|Ao (L':=[(29,e7 4),(28,e7 ((4:Nat):Int)),(27,.slice ai 4 4),(2,pt b2),(1,pt b1)]) (Aa C<|Aa C<|Aa C<|Aa C<|Aa C Bi)<|Af<|Gr (A4 C C)<|Ac<|Aq<|A5 C (λZ=>?_)<|λZ=>?_
     ·exact absurd Z dc
     refine Bs<|Al<|Al<|A2<|Ah<|Aq<|Af<|Gf fld47_3 C<|Gf fld40_1 C<|Gf fld47_4 C<|Gf fld41_1 C<|Gf fld47_5 C<|Gf fld43_2 C<|Gf fld47_6 C<|Gf fld45_3 C<|Ge1 (Cf (α:=PtrC) (cs:=[_,_,_,_]) (xs:=[⟨b1,11⟩,⟨b1,14⟩,⟨b1,18⟩,⟨b1,23⟩]) D7 ty183 C C dc dc C C C C) λaa=>?_
     refine Gr (Bh D7 C)<|Gm C<|Ac<|Ao (S5 52 51 50 2 1 C C C C C)<|Aw<|W.rounds 5 ?_
     refine Dg (n:=4)<|Ao (L':=[(52,e7 0),(51,e7 ((4:Nat):Int)),(50,.slice aa 4 4),(2,pt b2),(1,pt b1)]) (Aa C<|Aa C<|Aa C<|Aa C<|Aa C Bi)<|Af<|Gr (A4 C C)<|Ac<|Aq<|A5 C (λM=>?_)<|λM=>?_
     ·refine Av (Ah<|Aq<|Aw<|Af<|Gr (Ax (α:=PtrC) (xs:=([⟨b1,11⟩,⟨b1,14⟩,⟨b1,18⟩,⟨b1,23⟩]:List PtrC)) D7 ty183 C C Bf om om)<|Gr (B7 (α:=PtrC) (xs:=([⟨b1,11⟩,⟨b1,14⟩,⟨b1,18⟩,⟨b1,23⟩]:List PtrC)) (u:= .pointer (some ⟨b1,11,none⟩)) ty183 C Bf dc (show (0:Int)<((4:Nat):Int) by decide) C)<|Ga C<|Ac<|Ar<|Gm C<|Gm C<|Gr (Bk C)<|Gl ty22 ?_)
      refine Gc2 (Ak c_ C C<|CloneI (xs:=coreN nd (edgesK k.S)) (Bz hF.p.n1<|Db (κ:=κ)<|by repeat (first|exact hH|exact Ci _|apply Ch|apply C9|apply Has.app)) om) λaw an=>?_
      refine Gr (Bk C)<|Ge0 (Cd (cs:=[_,_,_,_,_,_,_,_,_,_,_,_,_,_,_,_,_,_,_,_,_,_,_,_,_]) (vs:=[_]) (cs':=[_,_,_,_,_,_,_,_,_,_,_,_,_,_,_,_,_,_,_,_,_,_,_,_,_]) ty22) ?_
      refine Bj<|Aj<|Ah<|Ao (S5 52 51 50 2 1 C C C C C)<|Ar<|Gr (Rad C C)<|Gm C<|Bj<|Dg (n:=3)<|Ao (L':=[(52,e7 1),(51,e7 ((4:Nat):Int)),(50,.slice aa 4 4),(2,pt b2),(1,pt b1)]) (Aa C<|Aa C<|Aa C<|Aa C<|Aa C Bi)<|Af<|Gr (A4 C C)<|Ac<|Aq<|A5 C (λM=>?_)<|λM=>?_
      ·refine Av (Ah<|Aq<|Aw<|Af<|Gr (Ax (α:=PtrC) (xs:=([⟨b1,11⟩,⟨b1,14⟩,⟨b1,18⟩,⟨b1,23⟩]:List PtrC)) D7 ty183 C C Bf om om)<|Gr (B7 (α:=PtrC) (xs:=([⟨b1,11⟩,⟨b1,14⟩,⟨b1,18⟩,⟨b1,23⟩]:List PtrC)) (u:= .pointer (some ⟨b1,14,none⟩)) ty183 C Bf dc (show (1:Int)<((4:Nat):Int) by decide) C)<|Ga C<|Ac<|Ar<|Gm C<|Gm C<|Gr (Bk C)<|Gl ty22 ?_)
       refine Gc2 (Ak c_ C C<|CloneI (xs:=trussG nd (edgesK k.S)) (Bz hF.p.n2<|Db (κ:=κ)<|by repeat (first|exact hH|exact Ci _|apply Ch|apply C9|apply Has.app)) om) λaq ad=>?_
       refine Gr (Bk C)<|Ge0 (Cd (cs:=[_,_,_,_,_,_,_,_,_,_,_,_,_,_,_,_,_,_,_,_,_,_,_,_,_]) (vs:=[_]) (cs':=[_,_,_,_,_,_,_,_,_,_,_,_,_,_,_,_,_,_,_,_,_,_,_,_,_]) ty22) ?_
       refine Bj<|Aj<|Ah<|Ao (S5 52 51 50 2 1 C C C C C)<|Ar<|Gr (Rad C C)<|Gm C<|Bj<|Dg (n:=2)<|Ao (L':=[(52,e7 2),(51,e7 ((4:Nat):Int)),(50,.slice aa 4 4),(2,pt b2),(1,pt b1)]) (Aa C<|Aa C<|Aa C<|Aa C<|Aa C Bi)<|Af<|Gr (A4 C C)<|Ac<|Aq<|A5 C (λM=>?_)<|λM=>?_
       ·refine Av (Ah<|Aq<|Aw<|Af<|Gr (Ax (α:=PtrC) (xs:=([⟨b1,11⟩,⟨b1,14⟩,⟨b1,18⟩,⟨b1,23⟩]:List PtrC)) D7 ty183 C C Bf om om)<|Gr (B7 (α:=PtrC) (xs:=([⟨b1,11⟩,⟨b1,14⟩,⟨b1,18⟩,⟨b1,23⟩]:List PtrC)) (u:= .pointer (some ⟨b1,18,none⟩)) ty183 C Bf dc (show (2:Int)<((4:Nat):Int) by decide) C)<|Ga C<|Ac<|Ar<|Gm C<|Gm C<|Gr (Bk C)<|Gl ty22 ?_)
        refine Gc2 (Ak c_ C C<|CloneI (xs:=triL nd (edgesK k.S)) (Bz hF.p.n3<|Db (κ:=κ)<|by repeat (first|exact hH|exact Ci _|apply Ch|apply C9|apply Has.app)) om) λau aj=>?_
        refine Gr (Bk C)<|Ge0 (Cd (cs:=[_,_,_,_,_,_,_,_,_,_,_,_,_,_,_,_,_,_,_,_,_,_,_,_,_]) (vs:=[_]) (cs':=[_,_,_,_,_,_,_,_,_,_,_,_,_,_,_,_,_,_,_,_,_,_,_,_,_]) ty22) ?_
        refine Bj<|Aj<|Ah<|Ao (S5 52 51 50 2 1 C C C C C)<|Ar<|Gr (Rad C C)<|Gm C<|Bj<|Dg (n:=1)<|Ao (L':=[(52,e7 3),(51,e7 ((4:Nat):Int)),(50,.slice aa 4 4),(2,pt b2),(1,pt b1)]) (Aa C<|Aa C<|Aa C<|Aa C<|Aa C Bi)<|Af<|Gr (A4 C C)<|Ac<|Aq<|A5 C (λM=>?_)<|λM=>?_
        ·refine Av (Ah<|Aq<|Aw<|Af<|Gr (Ax (α:=PtrC) (xs:=([⟨b1,11⟩,⟨b1,14⟩,⟨b1,18⟩,⟨b1,23⟩]:List PtrC)) D7 ty183 C C Bf om om)<|Gr (B7 (α:=PtrC) (xs:=([⟨b1,11⟩,⟨b1,14⟩,⟨b1,18⟩,⟨b1,23⟩]:List PtrC)) (u:= .pointer (some ⟨b1,23,none⟩)) ty183 C Bf dc (show (3:Int)<((4:Nat):Int) by decide) C)<|Ga C<|Ac<|Ar<|Gm C<|Gm C<|Gr (Bk C)<|Gl ty22 ?_)
         refine Gc2 (Ak c_ C C<|CloneI (xs:=quadL nd (edgesK k.S)) (Bz hF.p.n4<|Db (κ:=κ)<|by repeat (first|exact hH|exact Ci _|apply Ch|apply C9|apply Has.app)) om) λao ae=>?_
         refine Gr (Bk C)<|Ge0 (Cd (cs:=[_,_,_,_,_,_,_,_,_,_,_,_,_,_,_,_,_,_,_,_,_,_,_,_,_]) (vs:=[_]) (cs':=[_,_,_,_,_,_,_,_,_,_,_,_,_,_,_,_,_,_,_,_,_,_,_,_,_]) ty22) ?_
         refine Bj<|Aj<|Ah<|Ao (S5 52 51 50 2 1 C C C C C)<|Ar<|Gr (Rad C C)<|Gm C<|Bj<|Dg (n:=0)<|Ao (L':=[(52,e7 4),(51,e7 ((4:Nat):Int)),(50,.slice aa 4 4),(2,pt b2),(1,pt b1)]) (Aa C<|Aa C<|Aa C<|Aa C<|Aa C Bi)<|Af<|Gr (A4 C C)<|Ac<|Aq<|A5 C (λM=>?_)<|λM=>?_
         ·exact absurd M dc
         refine Bs<|Al<|Al<|A2<|Ah<|Af<|Gr (Runs.lq ty47) ?_
         refine Ge0 (Eff.sq ty47) ?_
         exact Ac<|Az<|E6 C ty47 C mm C (([vk 54 ay a3 k.b.ws,vc 82 (.slice ax k.S.length az)<|k.S,vc 105 (.slice a1 (edgesK k.S).length a0)<|(edgesK k.S),vc 3 (.slice aw (coreN nd<|edgesK k.S).length an)<|coreN nd<|edgesK k.S,vc 105 (.slice av (edgesK k.S).length ar)<|(edgesK k.S),vc 3 (.slice aq (trussG nd<|edgesK k.S).length ad)<|trussG nd<|edgesK k.S,vc 105 (.slice ah (edgesK k.S).length ak)<|(edgesK k.S),vc 3 (.slice au (triL nd<|edgesK k.S).length aj)<|triL nd<|edgesK k.S,vc 105 (.slice ab (edgesK k.S).length ap)<|(edgesK k.S),vc 3 (.slice ao (quadL nd<|edgesK k.S).length ae)<|quadL nd<|edgesK k.S]++I)) Bl ⟨⟨⟨ay,a3⟩,⟨ax,az⟩,⟨⟨a1,a0⟩,⟨aw,an⟩,⟨av,ar⟩,⟨aq,ad⟩,⟨ah,ak⟩,⟨au,aj⟩,⟨ab,ap⟩,⟨ao,ae⟩⟩⟩,[vk 54 ay a3 k.b.ws,vc 82 (.slice ax k.S.length az)<|k.S,vc 105 (.slice a1 (edgesK k.S).length a0)<|(edgesK k.S),vc 3 (.slice aw (coreN nd<|edgesK k.S).length an)<|coreN nd<|edgesK k.S,vc 105 (.slice av (edgesK k.S).length ar)<|(edgesK k.S),vc 3 (.slice aq (trussG nd<|edgesK k.S).length ad)<|trussG nd<|edgesK k.S,vc 105 (.slice ah (edgesK k.S).length ak)<|(edgesK k.S),vc 3 (.slice au (triL nd<|edgesK k.S).length aj)<|triL nd<|edgesK k.S,vc 105 (.slice ab (edgesK k.S).length ap)<|(edgesK k.S),vc 3 (.slice ao (quadL nd<|edgesK k.S).length ae)<|quadL nd<|edgesK k.S],rfl,⟨Bf,Bf,⟨Bf,Bf,Bf,Bf,Bf,Bf,Bf,Bf⟩⟩,rfl⟩
        exact absurd dc M
       exact absurd dc M
      exact absurd dc M
     exact absurd dc M
    exact absurd dc Z
   exact absurd dc Z
  exact absurd dc Z
 exact absurd dc Z
section
variable {nd kd wd mo:Int}{X X1:List Lk}{o evs:List Ev}{e:Ev}{t0:Int}{i:Nat}
theorem rel_one(h:relE kd wd mo X (evs.take i)=(X1,o))(hi:i<evs.length)(Z:e_ evs i=e):relE kd wd mo X (evs.take (i+1))=((evStep kd wd mo (X1,[]) e).1,o++(evStep kd wd mo (X1,[]) e).2):=by
 rw [Cj evs i hi,relE_app,h,Z];rfl
theorem last_one(hi:i<evs.length)(Z:e_ evs i=e):lastE t0 (evs.take (i+1))=e.tm:=by
 rw [Cj evs i hi,lastE_app,Z];rfl
theorem last_le(M:evs.Pairwise λa b=>a.tm<=b.tm)(Z:∀e∈evs,t0<=e.tm)(hi:i<evs.length):lastE t0 (evs.take i)<=(e_ evs i).tm:=by
 cases i with
 |zero=>exact Z _ (B1 om om)
 |succ j=>
  rw [last_one om rfl]
  exact (pairwise_at evs).1 M j (j+1) om hi
end
theorem Released_ok{κ:Ctx}{I:List Item}{nd kd wd mo:Int}{k:EnS}{v:KpV}{bf:BfS}{wa:Option Addr}{wc:Nat}{evs:List Ev}{ea:Option Addr}{ec:Nat}(hH:Has I T)(hF:KpF κ T nd k v)(hK:EnOk nd kd wd mo bd k)(a9:Sl κ T (.slice wa bf.ws.length wc) bf.ws)(he:Sl κ T (.slice ea evs.length ec) evs)(az:evs.Pairwise λa b=>a.tm<=b.tm)(ah:∀e∈evs,FitOk nd e/\k.tm<=e.tm)(a6:bf.ws.length<=100000)(bc:evs.length<=5000)(hT:TabRd κ I 0 tzCells):eu Tryz.prog κ 48 [.agg (kx kd wd mo bd nd k v).toArray,.agg #[e7 bd,e7 (bf.lt),e7 (bf.mr),.slice wa bf.ws.length wc],.slice ea evs.length ec] I (λr J=>∃(v':KpV) (Y:List Item) (a:Option Addr) (c:Nat),r = .tuple #[.agg (kx kd wd mo bd nd ((k.rel kd wd mo bf evs)) v').toArray,.slice a ((relE kd wd mo k.S evs).2).length c,e7 0]/\KpF κ (Y++T) nd (k.rel kd wd mo bf evs) v'/\Sl κ (Y++T) (.slice a ((relE kd wd mo k.S evs).2).length c) (relE kd wd mo k.S evs).2/\J=Y++I):=by
 refine Ce3 Tryz.func48 C C ?_
 refine Af<|Ge1 (Bg (cs:=[_,_,_,_,_,_,_,_,_,_,_,_,_,_,_,_,_,_,_,_,_,_,_,_,_]) C C C) λb1=>Ge1 (Bg (cs:=[_,_,_,_]) C C C) λb2=>Ge1 (A3 ty47 C) λb3=>Ga C<|Ga C<|Ac<|Af<|Gl4 ty32 ?_
 refine Gf fld47_1 C<|Ge0 (Cd (cs:=[_,_,_,_,_,_,_,_,_,_,_,_,_,_,_,_,_,_,_,_,_,_,_,_,_]) (vs:=[_,_,_,_]) (cs':=[_,_,_,_,_,_,_,_,_,_,_,_,_,_,_,_,_,_,_,_,_,_,_,_,_]) ty32) ?_
 refine Ac<|Af<|Ga C<|Ac<|Aq<|Af<|Gm C<|Gr (Bh A0 C)<|Gm C<|Ac<|Ao (S6 19 18 17 9 6 3 C C C C C C)<|Aw<|Bu (σ:=Nat×(List Lk)×SlA×PkV×Int×(List Item)×(Option Addr)×Nat×(List Ev)) (λs=>([(3,pt b1),(6,pt b3),(9,.slice s.2.2.2.2.2.2.1 s.2.2.2.2.2.2.2.2.length s.2.2.2.2.2.2.2.1),(17,.slice ea evs.length ec),(18,e7 ((evs.length:Nat):Int)),(19,e7 ((s.1:Nat):Int))]:Env)) (λs=>vk 54 s.2.2.2.2.2.2.1 s.2.2.2.2.2.2.2.1 s.2.2.2.2.2.2.2.2::e8 b3 zk 47::e8 b2 [e7 bd,e7<|bf.lt,e7<|bf.mr,.slice wa bf.ws.length wc] 32::e8 b1 (ky kd wd mo bd bf.lt bf.mr wa bf.ws.length wc nd s.2.2.1.a s.2.1.length s.2.2.1.c (edgesK s.2.1) s.2.2.2.1 s.2.2.2.2.1) 47::(s.2.2.2.2.2.1++I)) (λs=>(s.1<=evs.length)/\(relE kd wd mo k.S (evs.take s.1)=(s.2.1,s.2.2.2.2.2.2.2.2))/\(s.2.2.2.2.1=lastE k.tm (evs.take s.1))/\(SlI nd kd wd s.2.2.2.2.1 s.2.1)/\(Sl κ (s.2.2.2.2.2.1++T) (.slice s.2.2.1.a s.2.1.length s.2.2.1.c) s.2.1)/\(PkR κ (s.2.2.2.2.2.1++T) nd (edgesK s.2.1) s.2.2.2.1)/\(0<=s.2.2.2.2.1)/\(s.2.2.2.2.2.2.2.2.length<=5000*s.1)) (λs=>evs.length - s.1) (0,k.S,v.l,v.p,k.tm,[],none,0,[]) ⟨om,rfl,rfl,hK.inv,hF.l,hF.p,hK.tm.1,(by simp)⟩ (Aa C<|Aa C<|Aa (Cx C<|by first|rfl|simp)<|Aa C<|Aa C<|Aa B2 Bi) (Cq (show Fit κ _ _ from Bl)<|Cb (α:=Ev) _ _) ?_
 rintro ⟨i,X1,lw,pw,t1,Y,oa,oc,o⟩ hp
 dsimp only at hp ⊢
 obtain ⟨hi,M,an,ab,a4,aw,av,ba⟩:=hp
 have a8:=edges_le (edgesK_ok ab.val)
 rw [edgesK_len] at a8
 refine Af<|Gr (A4 C C)<|Ac<|Aq<|A5 C (λa5=>?_)<|λa5=>?_
 ·refine Av (Ah<|Aq<|Aw<|Af<|Gr (Ax (α:=Ev) (xs:=evs) A0 ty54 C C (Bz (Bz he hH.fit) Ay) om om)<|Gr (Bx (α:=Ev) (xs:=evs) ty54 C (Bz (Bz he hH.fit) Ay) om om) ?_)
  have aa:=ah _ (B1 (xs:=evs) (i:=(i:Int)) om om)
  have ad:=last_le az (λe he=>(ah e he).2) (i:=i) om
  rw [←an] at ad
  generalize hxe:e_ evs i=xe at aa ad ⊢
  have ao:=step_ok ab av ad aa.1 hK.win
  have bb:=ao.len
  refine Ge1 (A3 ty54 C) λb4=>Ge0 (Es7_7 ty54) ?_
  refine Ac<|Af<|Gr (Runs.lq ty47) ?_
  refine Gl7 ty54 ?_
  refine G.e (Ak c_ C C<|Step_ok (T:=(Y++T)) (X:=X1) (xe:=xe) (by repeat (first|exact hH|exact Ci _|apply Ch|apply C9|apply Has.app)) a4 aw ab hK.win aa.1 ⟨av,ad⟩<|Bm hT Ay) ?_
  rintro _ _ ⟨_,_,⟨ae,Z,Y7,au,ar,rfl,ak,ai,aj,rfl⟩,rfl,rfl⟩
  refine Eh (J:=e8 b4 (ez xe) 54::vk 54 oa oc o::e8 b3 zk 47::e8 b2 [e7 bd,e7<|bf.lt,e7<|bf.mr,.slice wa bf.ws.length wc] 32::e8 b1 (ky kd wd mo bd bf.lt bf.mr wa bf.ws.length wc nd lw.a X1.length lw.c (edgesK X1) pw t1) 47::(Y7++(Y++I))) (C2<|Dl (A:=Y7) (L:=[e8 b4 (ez xe) 54,vk 54 oa oc o,e8 b3 zk 47,e8 b2 [e7 bd,e7<|bf.lt,e7<|bf.mr,.slice wa bf.ws.length wc] 32,e8 b1 (ky kd wd mo bd bf.lt bf.mr wa bf.ws.length wc nd lw.a X1.length lw.c (edgesK X1) pw t1) 47]) (T:=(Y++I))) ?_
  refine Gm C<|Gr (Am C C)<|Gr (Am C C)<|Gr (Am C C)<|Ge1 (A3 ty47 C) λa7=>Ge0 (Eff.sq ty47) ?_
  refine Ga C<|Ga C<|Ac<|Ao (S9 14 13 12 3 6 9 17 18 19 C C C C C C C C C)<|Aq<|Af<|Gm C<|Gr (Bo C C)<|Ac<|A5 C (λay=>?_)<|λay=>?_
  ·exact absurd ay dc
  refine Av<|Ah<|Bq mixed<|Ca (e8 a7 (ky kd wd mo bd bf.lt bf.mr wa bf.ws.length wc nd ae.a (evStep kd wd mo (X1,[]) xe).1.length ae.c (edgesK (evStep kd wd mo (X1,[]) xe).1) Z xe.tm) 47::e8 b4 (ez xe) 54::e8 b3 zk 47::e8 b2 [e7 bd,e7<|bf.lt,e7<|bf.mr,.slice wa bf.ws.length wc] 32::(Y7++(Y++I))) 4<|Dr 0 C (Runs.lq ty47) ?_
  refine Dt (rs:=[1,2]) kr C C<|E4 ?_<|Ei ?_
  ·refine Sr C (Ai C) Bl ?_
   refine Ds1 2<|Sr C (Ai C) Bl ?_
   refine Ds1 3<|Se2 C (Cg (α:=Ev) (e:=54) (xs:=o) (ys:=(evStep kd wd mo (X1,[]) xe).2) A0 ty54 C C C mm (Bz (show Sl κ (Y7++(Y++I)) (.slice au (evStep kd wd mo (X1,[]) xe).2.length ar) (evStep kd wd mo (X1,[]) xe).2 from Bz aj (Db (κ:=κ)<|by repeat (first|exact hH|exact Ci _|apply Ch|apply C9|apply Has.app))) Ay) om dc C<|λ_ _=>am) λa3 a0=>?_
   refine Cs kr ?_
   refine Ae 4 C (Eff.sq ty47) ?_
   rintro _ _ ⟨rfl,rfl⟩
   refine Dy (i:=5) kr C (Bn C) C C (Bd C) ?_
   refine Ct kr ?_
   exact Aj<|Ah<|Ao (S6 9 3 6 17 18 19 C C C C C C)<|Ar<|Gr (Rad C C)<|Gm C<|Bj<|B3 ((i+1),((evStep kd wd mo (X1,[]) xe).1),(ae),(Z),(xe.tm),((Y7++Y)),(a3),(a0),(o++((evStep kd wd mo (X1,[]) xe).2))) (by dsimp only;exact ⟨om,(rel_one M om hxe),(last_one om hxe).symm,ao.inv,(by rw [List.append_assoc];exact ak),(by rw [List.append_assoc];exact ai),aa.1.tm.1,(by rw [List.length_append];omega)⟩) (hI:=by (try dsimp only);exact (by rw [List.append_assoc];exact Bl))
  refine Sr C (Ai C) Bl ?_
  refine Ds1 1<|Sr C (Ai C) Bl ?_
  refine Ds1 3<|Se2 C (Cg (α:=Ev) (e:=54) (xs:=o) (ys:=(evStep kd wd mo (X1,[]) xe).2) A0 ty54 C C C mm (Bz (show Sl κ (Y7++(Y++I)) (.slice au (evStep kd wd mo (X1,[]) xe).2.length ar) (evStep kd wd mo (X1,[]) xe).2 from Bz aj (Db (κ:=κ)<|by repeat (first|exact hH|exact Ci _|apply Ch|apply C9|apply Has.app))) Ay) om dc C<|λ_ _=>am) λaq ax=>?_
  refine Cs kr ?_
  refine Ae 4 C (Eff.sq ty47) ?_
  rintro _ _ ⟨rfl,rfl⟩
  refine Dy (i:=5) kr C (Bn C) C C (Bd C) ?_
  refine Ct kr ?_
  exact Aj<|Ah<|Ao (S6 9 3 6 17 18 19 C C C C C C)<|Ar<|Gr (Rad C C)<|Gm C<|Bj<|B3 ((i+1),((evStep kd wd mo (X1,[]) xe).1),(ae),(Z),(xe.tm),((Y7++Y)),(aq),(ax),(o++((evStep kd wd mo (X1,[]) xe).2))) (by dsimp only;exact ⟨om,(rel_one M om hxe),(last_one om hxe).symm,ao.inv,(by rw [List.append_assoc];exact ak),(by rw [List.append_assoc];exact ai),aa.1.tm.1,(by rw [List.length_append];omega)⟩) (hI:=by (try dsimp only);exact (by rw [List.append_assoc];exact Bl))
 refine Bs<|Al<|Al<|A2<|Ah<|Af<|Gr (Runs.lq ty47) ?_
 refine G.e (Ak c_ C C<|Copied_ok (T:=(Y++T)) (k:=(⟨bf,X1,t1⟩:EnS)) (v:=(⟨⟨wa,wc⟩,lw,pw⟩:KpV)) (by repeat (first|exact hH|exact Ci _|apply Ch|apply C9|apply Has.app)) ⟨a9.fit<|Fit.appR _ _,a4,aw⟩ ab.val a6) ?_
 rintro _ _ ⟨_,_,⟨a1,Y16,rfl,ap,rfl⟩,rfl,rfl⟩
 refine Eh (J:=vk 54 oa oc o::e8 b3 zk 47::e8 b2 [e7 bd,e7<|bf.lt,e7<|bf.mr,.slice wa bf.ws.length wc] 32::e8 b1 (ky kd wd mo bd bf.lt bf.mr wa bf.ws.length wc nd lw.a X1.length lw.c (edgesK X1) pw t1) 47::(Y16++(Y++I))) (C2<|Dl (A:=Y16) (L:=[vk 54 oa oc o,e8 b3 zk 47,e8 b2 [e7 bd,e7<|bf.lt,e7<|bf.mr,.slice wa bf.ws.length wc] 32,e8 b1 (ky kd wd mo bd bf.lt bf.mr wa bf.ws.length wc nd lw.a X1.length lw.c (edgesK X1) pw t1) 47]) (T:=(Y++I))) ?_
 refine Gm C<|Ge0 (Eff.sq ty47) ?_
 refine Ga C<|Ga C<|Ac<|Az ?_
 rw [show evs.take i=evs from List.take_of_length_le om] at M an
 have hk:(k.rel kd wd mo bf evs)=⟨bf,X1,t1⟩:=by unfold EnS.rel;rw [M,←an]
 rw [hk,M]
 exact C6 C ty47 C C C mm C (((vk 54 oa oc o::(Y16++Y))++I)) (by simp only [List.cons_append,List.append_assoc];exact Bl) ⟨a1,(vk 54 oa oc o::(Y16++Y)),oa,oc,rfl,(by simp only [List.cons_append,List.append_assoc];exact KpF.fit ap<|Fd<|Er _),C3<|List.mem_append_left _ List.mem_cons_self,rfl⟩
end Go.Sl
