/- A part of the proofs of statements of this seat: contracts of functions, and the plain laws that they lean on. No conditions. -/
import Derived.Test.YtoagcglbkeomgaaGreatDoorA24
set_option linter.unusedVariables false
set_option linter.unusedSimpArgs false
set_option linter.unusedSectionVars false
set_option maxHeartbeats 4000000
namespace Go.Sl
open Go.Proofs
set_option maxRecDepth 4000
section
variable {nd:Int}{es es0:List Pt}{u v y:Int}{c:Ev}
theorem dy2(h:at4 nd es u v y)(h0:0<=y):j4 u v∈es:=by
 rcases h with ⟨_,j,rfl,M,e⟩|⟨rfl,_⟩
 ·rw [←e];exact Bo om om
 omega
theorem dy1(M:s8 nd es)(h:at4 nd es u v y)(h0:¬0<=y):j4 u v∉es:=by
 rcases h with ⟨_,j,rfl,hj,e⟩|⟨_,h1|h1⟩
 ·omega
 ·exact absurd (s4.2 M) h1
 exact h1
theorem fo7(M:c.kd=1)(h2:j4 c.u c.v∈es0):chS es0 es c=es:=by unfold chS;rw [B_ M,B_ h2]
theorem ga0(M:c.kd=1)(h2:j4 c.u c.v∉es0):chS es0 es c=z8 Pt.lt es (j4 c.u c.v):=by unfold chS;rw [B_ M,An h2]
theorem ga2(M:¬c.kd=1):chS es0 es c=j7 es (j4 c.u c.v):=by unfold chS;rw [An M]
end
theorem bh6{κ:Ctx}{I:List Item}{nd kd wd mo bd lt mr tm:Int}{wa:Option Addr}{wn wc:Nat}{lv:SlA}{pv:PkV}{X:List Lk}{T:List Item}(hH:Has I T)(hl:Sl κ T (.slice lv.a X.length lv.c) X)(hp:PkR κ T nd (j6 X) pv)(hv:p9 nd X=0){evs:List Ev}{ea:Option Addr}{ec:Nat}(he:Sl κ I (.slice ea evs.length ec) evs)(ch:∀e∈evs,H4 nd e)(ct:evs.length<=1000000)(hT:F4 κ I 0 p5):eu Tryz.prog κ 125 [.agg (ky kd wd mo bd lt mr wa wn wc nd lv.a X.length lv.c (j6 X) pv tm).toArray,.slice ea evs.length ec] I (λr J=>∃(lw:SlA) (pw:PkV) (Y:List Item),r = .tuple #[.agg (ky kd wd mo bd lt mr wa wn wc nd lw.a (evs.foldl ep X).length lw.c (j6 (evs.foldl ep X)) pw tm).toArray,e7 0]/\Sl κ (Y++T) (.slice lw.a (evs.foldl ep X).length lw.c) (evs.foldl ep X)/\PkR κ (Y++T) nd (j6 (evs.foldl ep X)) pw/\J=Y++I):=by
 refine Ce2 Tryz.func125 C C ?_
 refine Al<|Ge1 (Av (cs:=[_,_,_,_,_,_,_,_,_,_,_,_,_,_,_,_,_,_,_,_,_,_,_,_,_]) C C C) λb1=>Ge1 (Aj H2 C) λb2=>Ga C<|Ar<|Al<|Gr (j8.lj H2) ?_
 refine G.e (Ab c_ C C fj2) ?_
 rintro _ _ ⟨_,_,⟨aa,rfl,rfl⟩,rfl,rfl⟩
 refine Ga C<|Ar<|Ax<|Al<|Gm C<|Gr (Bn Ad C)<|Gm C<|Ar<|A7<|B9 (σ:=Nat×(List Lk)×SlA×PkV×(List Item)) (λs=>([(2,pt b1),(4,pt b2),(6,pt aa),(22,.slice ea evs.length ec),(23,e7 ((evs.length:Nat):Int)),(24,e7 ((s.1:Nat):Int))]:Env)) (λs=>e8 aa (pq nd (j6 s.2.1) s.2.2.2.1) 169::e8 b2 zk 47::e8 b1 (ky kd wd mo bd lt mr wa wn wc nd s.2.2.1.a s.2.1.length s.2.2.1.c (j6 X) pv tm) 47::(s.2.2.2.2++I)) (λs=>(s.1<=evs.length)/\(s.2.1=(evs.take s.1).foldl ep X)/\(p9 nd s.2.1=0)/\(Sl κ (s.2.2.2.2++T) (.slice s.2.2.1.a s.2.1.length s.2.2.1.c) s.2.1)/\(PkR κ (s.2.2.2.2++T) nd (j6 s.2.1) s.2.2.2.1)) (λs=>evs.length - s.1) (0,X,lv,pv,[]) ⟨om,rfl,hv,hl,hp⟩ (cx4<|Aa C<|Aa Cl Bb) Az ?_
 rintro ⟨i,X1,lw,pw,Y⟩ hp
 dsimp only at hp ⊢
 obtain ⟨hi,hX,bf,cf,ce⟩:=hp
 have hU:=B2 hH Y
 have cj:=cf.fit (κ:=κ) hU.fit
 have cr:=ce.fit hU.fit
 have ck:=q9 (F6 bf)
 have cq:=ck
 rw [G0] at cq
 refine Al<|Gr (Bm C C)<|Ar<|Ax<|Ao C (λcn=>?_)<|λcn=>?_
 ·refine Bc (Ak<|Ax<|A7<|Al<|Gr (A1 (α:=Ev) (xs:=evs) Ad z6 C C (A3 he) om om)<|Gr (C7 (α:=Ev) (xs:=evs) z6 C (A3 he) om om) ?_)
  have br:=ch _ (Bo (xs:=evs) (i:=(i:Int)) om om)
  generalize hxe:e_ evs i=xe at br ⊢
  refine Ge1 (Aj z6 C) λb4=>Ge0 (E5 z6) ?_
  refine Ar<|Al<|Gf Z8 C<|Gl2 Q2 ?_
  refine Gc2 (Ab c_ C C<|cc0 (nd:=nd) (A3 cj) bf om) λap ao=>?_
  refine Gm C<|Gr (Bf C C)<|Gr (Bf C C)<|Ge1 (Aj K0 C) λb7=>Ge0 (Co K0) ?_
  refine Ga C<|Ar<|A0 (S8 9 8 2 4 6 22 23 24)<|Al<|Gf Z8 C<|Gl2 Q2 ?_
  refine Gl7 z6 ?_
  refine G.e (Ab c_ C C<|dr4 (nd:=nd) (e:=xe) (xs:=X1) (A3 cj) bf br om) ?_
  rintro _ _ ⟨_,_,⟨ai,ae,ad,ab,rfl,rfl⟩,rfl,rfl⟩
  refine Gm C<|Gr (Bf C C)<|Gr (Bf C C)<|Gr (Bf C C)<|Ge1 (Aj Q2 C) λbe=>Ge0 (Co Q2) ?_
  refine Ga C<|Ga C<|Ar<|A0 (S10 13 12 11 9 2 4 6 22 23 24)<|Ax<|Al<|Gm C<|Gr (Cb C C)<|Ar<|Ao C (λcg=>?_)<|λcg=>?_
  ·exact absurd cg dc
  refine Bc<|Ak<|Al<|Gl2 Q2 ?_
  refine Gf Z8 C<|Ge0 (Bt (cs:=[_,_,_,_,_,_,_,_,_,_,_,_,_,_,_,_,_,_,_,_,_,_,_,_,_]) (vs:=[_,_]) (cs':=[_,_,_,_,_,_,_,_,_,_,_,_,_,_,_,_,_,_,_,_,_,_,_,_,_]) Q2) ?_
  refine Ar<|A0 (S8 12 9 2 4 6 22 23 24)<|Al<|Gm C<|Gr (Bn Ad C)<|Gm C<|Ar<|A7<|B9 (σ:=Nat×(List Pt)×PkV×(List Item)) (λs=>([(2,pt b1),(4,pt b2),(6,pt aa),(9,pt b7),(22,.slice ea evs.length ec),(23,e7 ((evs.length:Nat):Int)),(24,e7<|(i:Int)),(48,.slice ad (P6 X1 xe).length ab),(49,e7<|(((P6 X1 xe).length:Nat):Int)),(50,e7 ((s.1:Nat):Int))]:Env)) (λs=>e8 be [e7 nd,.slice ai (ep X1 xe).length ae] 35::vk 82 ai ae (ep X1 xe)::vk 54 ad ab (P6 X1 xe)::e8 b7 [e7 nd,.slice ap (j6 X1).length ao] 38::vk 105 ap ao (j6 X1)::e8 b4 (ez xe) 54::e8 aa (pq nd s.2.1 s.2.2.1) 169::e8 b2 zk 47::e8 b1 (ky kd wd mo bd lt mr wa wn wc nd ai (ep X1 xe).length ae (j6 X) pv tm) 47::(s.2.2.2++I)) (λs=>(s.1<=(P6 X1 xe).length)/\(s.2.1=chE X1 xe s.1)/\(PkR κ (s.2.2.2++T) nd s.2.1 s.2.2.1)) (λs=>(P6 X1 xe).length - s.1) (0,(j6 X1),pw,Y) ⟨om,rfl,ce⟩ (cx4<|cx4<|Aa C<|Aa Cl Bb) Az ?_
  rintro ⟨j,M,pz,Z⟩ hp
  dsimp only at hp ⊢
  obtain ⟨hj,bq,bp⟩:=hp
  have cw:=fo6 X1 xe
  have cm:=B2 hH Z
  have ar:=bp.fit (κ:=κ) cm.fit
  refine Al<|Gr (Bm C C)<|Ar<|Ax<|Ao C (λco=>?_)<|λco=>?_
  ·refine Bc (Ak<|Ax<|A7<|Al<|Gr (A1 (α:=Ev) (xs:=P6 X1 xe) Ad z6 C C A5 om om)<|Gr (C7 (α:=Ev) (xs:=P6 X1 xe) z6 C A5 om om) ?_)
   have ak:=gg8 bf br (j:=j) om
   rw [←bq] at ak
   generalize hcc:e_ (P6 X1 xe) j=cc at ak ⊢
   refine Ge1 (Aj z6 C) λan=>Ge0 (E5 z6) ?_
   refine Ar<|A0 (S11 15 2 4 6 9 22 23 24 48 49 50)<|Al<|Gf W9 C<|Gl ef ?_
   refine Gr (C3 C C)<|Ga C<|Ar<|A0 (S12 16 15 2 4 6 9 22 23 24 48 49 50 C C C C C C C C C C C C)<|Ax<|Al<|Gm C<|Gm C<|A4 (d:=58) C (λaq=>?_)<|λaq=>?_
   ·refine e9 (Bl (vs:=[_,_]) K0) ?_
    refine e9 (Af L7 C)<|e9 (Be ef) ?_
    refine e9 (Af H7 C)<|e9 (Be ef) ?_
    refine Dt (Cm C C C) (Ab c_ C C<|at5 (nd:=nd) A5 cc.u cc.v om) ?_
    rintro _ _ ⟨_,_,⟨cx,rfl,cb,rfl⟩,rfl,rfl⟩
    refine e9 (j8.geq C C)<|Gr (B0 C C)<|Ar<|A0 (S13 66 16 15 2 4 6 9 22 23 24 48 49 50 C C C C C C C C C C C C C)<|Ao C (λcd=>?_)<|λcd=>?_
    ·exact Cg<|Aw<|Bi<|Ak<|A6<|Gr (Rad C C)<|Gm C<|Bq<|Bu ((j+1),(M),(pz),(Z))<|by dsimp only;exact ⟨om,(by rw [bs5 om,←bq,hcc,fo7 aq<|dy2 cb cd]),bp⟩
    refine Bc<|Ak<|Al<|Gm C ?_
    have ci:=dy1 (F6 bf) cb cd
    have bt:j4 cc.u cc.v∉M:=by rw [ak.set aq];exact ci
    refine G.e (Ab c_ C C dr5) ?_
    rintro _ _ ⟨_,_,⟨av,rfl,rfl⟩,rfl,rfl⟩
    refine Gr (Bn Ce C)<|Gm C<|Ar<|A0 (S15 70 69 68 16 15 2 4 6 9 22 23 24 48 49 50)<|A7<|W.rounds 5 ?_
    refine Dg (n:=4)<|A0 (L':=[(70,e7 0),(69,e7 ((4:Nat):Int)),(68,.slice av 4 4),(16,.bool<|decide<|cc.kd=1),(15,pt an),(2,pt b1),(4,pt b2),(6,pt aa),(9,pt b7),(22,.slice ea evs.length ec),(23,e7 ((evs.length:Nat):Int)),(24,e7<|(i:Int)),(48,.slice ad (P6 X1 xe).length ab),(49,e7<|(((P6 X1 xe).length:Nat):Int)),(50,e7<|(j:Int))]) (cx4<|cx4<|cx4<|cx2<|Aa C Bb)<|Al<|Gr (Bm C C)<|Ar<|A0 (S16 71 70 69 68 16 15 2 4 6 9 22 23 24 48 49 50)<|Ax<|Ao C (λah=>?_)<|λah=>?_
    ·refine Bc (Ak<|A0 (S15 70 69 68 16 15 2 4 6 9 22 23 24 48 49 50)<|Ax<|A7<|Al<|Gr (A1 (α:=P2) (xs:=([⟨170,aa,0⟩,⟨171,aa,3⟩,⟨172,aa,6⟩,⟨173,aa,10⟩]:List P2)) Ce W5 C C A5 om om)<|Gr (Cc (α:=P2) (xs:=([⟨170,aa,0⟩,⟨171,aa,3⟩,⟨172,aa,6⟩,⟨173,aa,10⟩]:List P2)) (u:= .iface 170 (pt aa)) W5 C A5 dc (show (0:Int)<((4:Nat):Int) by decide) C)<|Ga C<|Ar<|A0 (S16 18 70 69 68 16 15 2 4 6 9 22 23 24 48 49 50)<|Al<|Gm C<|Gf L7 C<|Gl ef ?_)
     refine Gf H7 C<|Gl ef ?_
     refine Gm C<|G.e (D1 c_ C (λw=>by kernel_rfl) C C<|Ck (J:=e8 aa (pq nd M pz) 169::vc 117 (.slice av 4 4) (([⟨170,aa,0⟩,⟨171,aa,3⟩,⟨172,aa,6⟩,⟨173,aa,10⟩]:List P2))::e8 an (ez cc) 54::e8 be [e7 nd,.slice ai (ep X1 xe).length ae] 35::vk 82 ai ae (ep X1 xe)::vk 54 ad ab (P6 X1 xe)::e8 b7 [e7 nd,.slice ap (j6 X1).length ao] 38::vk 105 ap ao (j6 X1)::e8 b4 (ez xe) 54::e8 b2 zk 47::e8 b1 (ky kd wd mo bd lt mr wa wn wc nd ai (ep X1 xe).length ae (j6 X) pv tm) 47::(Z++I)) Az<|fg1 (b:=aa) (As aq) (A3 ar.e1) (A3 ar.n1) ak.ok ak.ends bt<|Ba hT Ah) ?_
     rintro _ _ ⟨_,_,⟨ax,aw,a3,a4,rfl,rfl⟩,rfl,rfl⟩
     refine Ga C<|Ar<|A0 (S16 19 70 69 68 16 15 2 4 6 9 22 23 24 48 49 50)<|Al<|Gm C<|Gr (Cb C C)<|Ar<|A0 (S17 82 19 70 69 68 16 15 2 4 6 9 22 23 24 48 49 50 C C C C C C C C C C C C C C C C C)<|Ao C (λaj=>?_)<|λaj=>?_
     ·exact absurd aj dc
     refine Bc<|Au<|Ak<|A0 (S15 70 69 68 16 15 2 4 6 9 22 23 24 48 49 50)<|A6<|Gr (Rad C C)<|Gm C<|Bq<|Dg (n:=3)<|A0 (L':=[(70,e7 1),(69,e7 ((4:Nat):Int)),(68,.slice av 4 4),(16,.bool<|decide<|cc.kd=1),(15,pt an),(2,pt b1),(4,pt b2),(6,pt aa),(9,pt b7),(22,.slice ea evs.length ec),(23,e7 ((evs.length:Nat):Int)),(24,e7<|(i:Int)),(48,.slice ad (P6 X1 xe).length ab),(49,e7<|(((P6 X1 xe).length:Nat):Int)),(50,e7<|(j:Int))]) (cx4<|cx4<|cx4<|cx2<|Aa C Bb)<|Al<|Gr (Bm C C)<|Ar<|A0 (S16 71 70 69 68 16 15 2 4 6 9 22 23 24 48 49 50)<|Ax<|Ao C (λah=>?_)<|λah=>?_
     ·refine Bc (Ak<|A0 (S15 70 69 68 16 15 2 4 6 9 22 23 24 48 49 50)<|Ax<|A7<|Al<|Gr (A1 (α:=P2) (xs:=([⟨170,aa,0⟩,⟨171,aa,3⟩,⟨172,aa,6⟩,⟨173,aa,10⟩]:List P2)) Ce W5 C C A5 om om)<|Gr (Cc (α:=P2) (xs:=([⟨170,aa,0⟩,⟨171,aa,3⟩,⟨172,aa,6⟩,⟨173,aa,10⟩]:List P2)) (u:= .iface 171 (.pointer<|some ⟨aa,3,none⟩)) W5 C A5 dc (show (1:Int)<((4:Nat):Int) by decide) C)<|Ga C<|Ar<|A0 (S16 18 70 69 68 16 15 2 4 6 9 22 23 24 48 49 50)<|Al<|Gm C<|Gf L7 C<|Gl ef ?_)
      refine Gf H7 C<|Gl ef ?_
      refine Gm C<|G.e (D1 c_ C (λw=>by kernel_rfl) C C<|Ck (J:=e8 aa (px nd (z8 Pt.lt M<|j4 cc.u cc.v) ax aw a3 a4 M pz.e2.a pz.e2.c pz.n2.a pz.n2.c M pz.e3.a pz.e3.c pz.n3.a pz.n3.c M pz.e4.a pz.e4.c pz.n4.a pz.n4.c) 169::vk 3 a3 a4 (j9 nd<|z8 Pt.lt M<|j4 cc.u cc.v)::vk 105 ax aw (z8 Pt.lt M<|j4 cc.u cc.v)::vc 117 (.slice av 4 4) (([⟨170,aa,0⟩,⟨171,aa,3⟩,⟨172,aa,6⟩,⟨173,aa,10⟩]:List P2))::e8 an (ez cc) 54::e8 be [e7 nd,.slice ai (ep X1 xe).length ae] 35::vk 82 ai ae (ep X1 xe)::vk 54 ad ab (P6 X1 xe)::e8 b7 [e7 nd,.slice ap (j6 X1).length ao] 38::vk 105 ap ao (j6 X1)::e8 b4 (ez xe) 54::e8 b2 zk 47::e8 b1 (ky kd wd mo bd lt mr wa wn wc nd ai (ep X1 xe).length ae (j6 X) pv tm) 47::(Z++I)) Az<|fg0 (b:=aa) (As aq) (A3 ar.e2) (A3 ar.n2) ak.ok ak.ends bt<|Ba hT Ah) ?_
      rintro _ _ ⟨_,_,⟨bc,a5,a9,ba,rfl,rfl⟩,rfl,rfl⟩
      refine Ga C<|Ar<|A0 (S16 19 70 69 68 16 15 2 4 6 9 22 23 24 48 49 50)<|Al<|Gm C<|Gr (Cb C C)<|Ar<|A0 (S17 82 19 70 69 68 16 15 2 4 6 9 22 23 24 48 49 50 C C C C C C C C C C C C C C C C C)<|Ao C (λaj=>?_)<|λaj=>?_
      ·exact absurd aj dc
      refine Bc<|Au<|Ak<|A0 (S15 70 69 68 16 15 2 4 6 9 22 23 24 48 49 50)<|A6<|Gr (Rad C C)<|Gm C<|Bq<|Dg (n:=2)<|A0 (L':=[(70,e7 2),(69,e7 ((4:Nat):Int)),(68,.slice av 4 4),(16,.bool<|decide<|cc.kd=1),(15,pt an),(2,pt b1),(4,pt b2),(6,pt aa),(9,pt b7),(22,.slice ea evs.length ec),(23,e7 ((evs.length:Nat):Int)),(24,e7<|(i:Int)),(48,.slice ad (P6 X1 xe).length ab),(49,e7<|(((P6 X1 xe).length:Nat):Int)),(50,e7<|(j:Int))]) (cx4<|cx4<|cx4<|cx2<|Aa C Bb)<|Al<|Gr (Bm C C)<|Ar<|A0 (S16 71 70 69 68 16 15 2 4 6 9 22 23 24 48 49 50)<|Ax<|Ao C (λah=>?_)<|λah=>?_
      ·refine Bc (Ak<|A0 (S15 70 69 68 16 15 2 4 6 9 22 23 24 48 49 50)<|Ax<|A7<|Al<|Gr (A1 (α:=P2) (xs:=([⟨170,aa,0⟩,⟨171,aa,3⟩,⟨172,aa,6⟩,⟨173,aa,10⟩]:List P2)) Ce W5 C C A5 om om)<|Gr (Cc (α:=P2) (xs:=([⟨170,aa,0⟩,⟨171,aa,3⟩,⟨172,aa,6⟩,⟨173,aa,10⟩]:List P2)) (u:= .iface 172 (.pointer<|some ⟨aa,6,none⟩)) W5 C A5 dc (show (2:Int)<((4:Nat):Int) by decide) C)<|Ga C<|Ar<|A0 (S16 18 70 69 68 16 15 2 4 6 9 22 23 24 48 49 50)<|Al<|Gm C<|Gf L7 C<|Gl ef ?_)
       refine Gf H7 C<|Gl ef ?_
       refine Gm C<|G.e (D1 c_ C (λw=>by kernel_rfl) C C<|Ck (J:=e8 aa (px nd (z8 Pt.lt M<|j4 cc.u cc.v) ax aw a3 a4 (z8 Pt.lt M<|j4 cc.u cc.v) bc a5 a9 ba M pz.e3.a pz.e3.c pz.n3.a pz.n3.c M pz.e4.a pz.e4.c pz.n4.a pz.n4.c) 169::vk 3 a9 ba (j5 nd<|z8 Pt.lt M<|j4 cc.u cc.v)::vk 105 bc a5 (z8 Pt.lt M<|j4 cc.u cc.v)::vk 3 a3 a4 (j9 nd<|z8 Pt.lt M<|j4 cc.u cc.v)::vk 105 ax aw (z8 Pt.lt M<|j4 cc.u cc.v)::vc 117 (.slice av 4 4) (([⟨170,aa,0⟩,⟨171,aa,3⟩,⟨172,aa,6⟩,⟨173,aa,10⟩]:List P2))::e8 an (ez cc) 54::e8 be [e7 nd,.slice ai (ep X1 xe).length ae] 35::vk 82 ai ae (ep X1 xe)::vk 54 ad ab (P6 X1 xe)::e8 b7 [e7 nd,.slice ap (j6 X1).length ao] 38::vk 105 ap ao (j6 X1)::e8 b4 (ez xe) 54::e8 b2 zk 47::e8 b1 (ky kd wd mo bd lt mr wa wn wc nd ai (ep X1 xe).length ae (j6 X) pv tm) 47::(Z++I)) Az<|ff9 (b:=aa) (As aq) (A3 ar.e3) (A3 ar.n3) ak.ok ak.ends bt) ?_
       rintro _ _ ⟨_,_,⟨bh,bm,bi,bg,rfl,rfl⟩,rfl,rfl⟩
       refine Ga C<|Ar<|A0 (S16 19 70 69 68 16 15 2 4 6 9 22 23 24 48 49 50)<|Al<|Gm C<|Gr (Cb C C)<|Ar<|A0 (S17 82 19 70 69 68 16 15 2 4 6 9 22 23 24 48 49 50 C C C C C C C C C C C C C C C C C)<|Ao C (λaj=>?_)<|λaj=>?_
       ·exact absurd aj dc
       refine Bc<|Au<|Ak<|A0 (S15 70 69 68 16 15 2 4 6 9 22 23 24 48 49 50)<|A6<|Gr (Rad C C)<|Gm C<|Bq<|Dg (n:=1)<|A0 (L':=[(70,e7 3),(69,e7 ((4:Nat):Int)),(68,.slice av 4 4),(16,.bool<|decide<|cc.kd=1),(15,pt an),(2,pt b1),(4,pt b2),(6,pt aa),(9,pt b7),(22,.slice ea evs.length ec),(23,e7 ((evs.length:Nat):Int)),(24,e7<|(i:Int)),(48,.slice ad (P6 X1 xe).length ab),(49,e7<|(((P6 X1 xe).length:Nat):Int)),(50,e7<|(j:Int))]) (cx4<|cx4<|cx4<|cx2<|Aa C Bb)<|Al<|Gr (Bm C C)<|Ar<|A0 (S16 71 70 69 68 16 15 2 4 6 9 22 23 24 48 49 50)<|Ax<|Ao C (λah=>?_)<|λah=>?_
       ·refine Bc (Ak<|A0 (S15 70 69 68 16 15 2 4 6 9 22 23 24 48 49 50)<|Ax<|A7<|Al<|Gr (A1 (α:=P2) (xs:=([⟨170,aa,0⟩,⟨171,aa,3⟩,⟨172,aa,6⟩,⟨173,aa,10⟩]:List P2)) Ce W5 C C A5 om om)<|Gr (Cc (α:=P2) (xs:=([⟨170,aa,0⟩,⟨171,aa,3⟩,⟨172,aa,6⟩,⟨173,aa,10⟩]:List P2)) (u:= .iface 173 (.pointer<|some ⟨aa,10,none⟩)) W5 C A5 dc (show (3:Int)<((4:Nat):Int) by decide) C)<|Ga C<|Ar<|A0 (S16 18 70 69 68 16 15 2 4 6 9 22 23 24 48 49 50)<|Al<|Gm C<|Gf L7 C<|Gl ef ?_)
        refine Gf H7 C<|Gl ef ?_
        refine Gm C<|G.e (D1 c_ C (λw=>by kernel_rfl) C C<|Ck (J:=e8 aa (px nd (z8 Pt.lt M<|j4 cc.u cc.v) ax aw a3 a4 (z8 Pt.lt M<|j4 cc.u cc.v) bc a5 a9 ba (z8 Pt.lt M<|j4 cc.u cc.v) bh bm bi bg M pz.e4.a pz.e4.c pz.n4.a pz.n4.c) 169::vk 3 bi bg (H9 nd<|z8 Pt.lt M<|j4 cc.u cc.v)::vk 105 bh bm (z8 Pt.lt M<|j4 cc.u cc.v)::vk 3 a9 ba (j5 nd<|z8 Pt.lt M<|j4 cc.u cc.v)::vk 105 bc a5 (z8 Pt.lt M<|j4 cc.u cc.v)::vk 3 a3 a4 (j9 nd<|z8 Pt.lt M<|j4 cc.u cc.v)::vk 105 ax aw (z8 Pt.lt M<|j4 cc.u cc.v)::vc 117 (.slice av 4 4) (([⟨170,aa,0⟩,⟨171,aa,3⟩,⟨172,aa,6⟩,⟨173,aa,10⟩]:List P2))::e8 an (ez cc) 54::e8 be [e7 nd,.slice ai (ep X1 xe).length ae] 35::vk 82 ai ae (ep X1 xe)::vk 54 ad ab (P6 X1 xe)::e8 b7 [e7 nd,.slice ap (j6 X1).length ao] 38::vk 105 ap ao (j6 X1)::e8 b4 (ez xe) 54::e8 b2 zk 47::e8 b1 (ky kd wd mo bd lt mr wa wn wc nd ai (ep X1 xe).length ae (j6 X) pv tm) 47::(Z++I)) Az<|ff8 (b:=aa) (As aq) (A3 ar.e4) (A3 ar.n4) ak.ok ak.ends bt<|Ba hT Ah) ?_
        rintro _ _ ⟨_,_,⟨bv,b8,bu,ca,rfl,rfl⟩,rfl,rfl⟩
        refine Ga C<|Ar<|A0 (S16 19 70 69 68 16 15 2 4 6 9 22 23 24 48 49 50)<|Al<|Gm C<|Gr (Cb C C)<|Ar<|A0 (S17 82 19 70 69 68 16 15 2 4 6 9 22 23 24 48 49 50 C C C C C C C C C C C C C C C C C)<|Ao C (λaj=>?_)<|λaj=>?_
        ·exact absurd aj dc
        refine Bc<|Au<|Ak<|A0 (S15 70 69 68 16 15 2 4 6 9 22 23 24 48 49 50)<|A6<|Gr (Rad C C)<|Gm C<|Bq<|Dg (n:=0)<|A0 (L':=[(70,e7 4),(69,e7 ((4:Nat):Int)),(68,.slice av 4 4),(16,.bool<|decide<|cc.kd=1),(15,pt an),(2,pt b1),(4,pt b2),(6,pt aa),(9,pt b7),(22,.slice ea evs.length ec),(23,e7 ((evs.length:Nat):Int)),(24,e7<|(i:Int)),(48,.slice ad (P6 X1 xe).length ab),(49,e7<|(((P6 X1 xe).length:Nat):Int)),(50,e7<|(j:Int))]) (cx4<|cx4<|cx4<|cx2<|Aa C Bb)<|Al<|Gr (Bm C C)<|Ar<|A0 (S16 71 70 69 68 16 15 2 4 6 9 22 23 24 48 49 50)<|Ax<|Ao C (λah=>?_)<|λah=>?_
        ·exact absurd ah dc
        exact Cg<|Aw<|Aw<|Bi<|Au<|Ak<|A0 (S10 2 4 6 9 22 23 24 48 49 50)<|A6<|Gr (Rad C C)<|Gm C<|Bq<|Bu ((j+1),((z8 Pt.lt M<|j4 cc.u cc.v)),(⟨⟨ax,aw⟩,⟨a3,a4⟩,⟨bc,a5⟩,⟨a9,ba⟩,⟨bh,bm⟩,⟨bi,bg⟩,⟨bv,b8⟩,⟨bu,ca⟩⟩),((vk 3 bu ca (r9 nd<|z8 Pt.lt M<|j4 cc.u cc.v)::vk 105 bv b8 (z8 Pt.lt M<|j4 cc.u cc.v)::vk 3 bi bg (H9 nd<|z8 Pt.lt M<|j4 cc.u cc.v)::vk 105 bh bm (z8 Pt.lt M<|j4 cc.u cc.v)::vk 3 a9 ba (j5 nd<|z8 Pt.lt M<|j4 cc.u cc.v)::vk 105 bc a5 (z8 Pt.lt M<|j4 cc.u cc.v)::vk 3 a3 a4 (j9 nd<|z8 Pt.lt M<|j4 cc.u cc.v)::vk 105 ax aw (z8 Pt.lt M<|j4 cc.u cc.v)::Z))) (by dsimp only;exact ⟨om,(by rw [bs5 om,←bq,hcc,ga0 aq ci]),⟨A5,A5,A5,A5,A5,A5,A5,A5⟩⟩) (hI:=by (try dsimp only);exact Az)
       exact absurd dc ah
      exact absurd dc ah
     exact absurd dc ah
    exact absurd dc ah
   refine eb<|eb<|eb<|eb<|eb<|eb<|eb<|Gr (Bk C C)<|Ar<|A0 (S13 66 16 15 2 4 6 9 22 23 24 48 49 50 C C C C C C C C C C C C C)<|W.no C<|Bc<|Ak<|Al<|Gm C<|G.e (Ab c_ C C dr5) ?_
   rintro _ _ ⟨_,_,⟨au,rfl,rfl⟩,rfl,rfl⟩
   refine Gr (Bn Ce C)<|Gm C<|Ar<|A0 (S15 70 69 68 16 15 2 4 6 9 22 23 24 48 49 50)<|A7<|W.rounds 5 ?_
   refine Dg (n:=4)<|A0 (L':=[(70,e7 0),(69,e7 ((4:Nat):Int)),(68,.slice au 4 4),(16,.bool<|decide<|cc.kd=1),(15,pt an),(2,pt b1),(4,pt b2),(6,pt aa),(9,pt b7),(22,.slice ea evs.length ec),(23,e7 ((evs.length:Nat):Int)),(24,e7<|(i:Int)),(48,.slice ad (P6 X1 xe).length ab),(49,e7<|(((P6 X1 xe).length:Nat):Int)),(50,e7<|(j:Int))]) (cx4<|cx4<|cx4<|cx2<|Aa C Bb)<|Al<|Gr (Bm C C)<|Ar<|A0 (S16 71 70 69 68 16 15 2 4 6 9 22 23 24 48 49 50)<|Ax<|Ao C (λah=>?_)<|λah=>?_
   ·refine Bc (Ak<|A0 (S15 70 69 68 16 15 2 4 6 9 22 23 24 48 49 50)<|Ax<|A7<|Al<|Gr (A1 (α:=P2) (xs:=([⟨170,aa,0⟩,⟨171,aa,3⟩,⟨172,aa,6⟩,⟨173,aa,10⟩]:List P2)) Ce W5 C C A5 om om)<|Gr (Cc (α:=P2) (xs:=([⟨170,aa,0⟩,⟨171,aa,3⟩,⟨172,aa,6⟩,⟨173,aa,10⟩]:List P2)) (u:= .iface 170 (pt aa)) W5 C A5 dc (show (0:Int)<((4:Nat):Int) by decide) C)<|Ga C<|Ar<|A0 (S16 18 70 69 68 16 15 2 4 6 9 22 23 24 48 49 50)<|Al<|Gm C<|Gf L7 C<|Gl ef ?_)
    refine Gf H7 C<|Gl ef ?_
    refine Gm C<|G.e (D1 c_ C (λw=>by kernel_rfl) C C<|Ck (J:=e8 aa (pq nd M pz) 169::vc 117 (.slice au 4 4) (([⟨170,aa,0⟩,⟨171,aa,3⟩,⟨172,aa,6⟩,⟨173,aa,10⟩]:List P2))::e8 an (ez cc) 54::e8 be [e7 nd,.slice ai (ep X1 xe).length ae] 35::vk 82 ai ae (ep X1 xe)::vk 54 ad ab (P6 X1 xe)::e8 b7 [e7 nd,.slice ap (j6 X1).length ao] 38::vk 105 ap ao (j6 X1)::e8 b4 (ez xe) 54::e8 b2 zk 47::e8 b1 (ky kd wd mo bd lt mr wa wn wc nd ai (ep X1 xe).length ae (j6 X) pv tm) 47::(Z++I)) Az<|fg5 (b:=aa) (D_ aq) (A3 ar.e1) (A3 ar.n1) ak.ok ak.ends (ak.cut aq)<|Ba hT Ah) ?_
    rintro _ _ ⟨_,_,⟨a0,ay,az,a1,rfl,rfl⟩,rfl,rfl⟩
    refine Ga C<|Ar<|A0 (S16 19 70 69 68 16 15 2 4 6 9 22 23 24 48 49 50)<|Al<|Gm C<|Gr (Cb C C)<|Ar<|A0 (S17 82 19 70 69 68 16 15 2 4 6 9 22 23 24 48 49 50 C C C C C C C C C C C C C C C C C)<|Ao C (λaj=>?_)<|λaj=>?_
    ·exact absurd aj dc
    refine Bc<|Au<|Ak<|A0 (S15 70 69 68 16 15 2 4 6 9 22 23 24 48 49 50)<|A6<|Gr (Rad C C)<|Gm C<|Bq<|Dg (n:=3)<|A0 (L':=[(70,e7 1),(69,e7 ((4:Nat):Int)),(68,.slice au 4 4),(16,.bool<|decide<|cc.kd=1),(15,pt an),(2,pt b1),(4,pt b2),(6,pt aa),(9,pt b7),(22,.slice ea evs.length ec),(23,e7 ((evs.length:Nat):Int)),(24,e7<|(i:Int)),(48,.slice ad (P6 X1 xe).length ab),(49,e7<|(((P6 X1 xe).length:Nat):Int)),(50,e7<|(j:Int))]) (cx4<|cx4<|cx4<|cx2<|Aa C Bb)<|Al<|Gr (Bm C C)<|Ar<|A0 (S16 71 70 69 68 16 15 2 4 6 9 22 23 24 48 49 50)<|Ax<|Ao C (λah=>?_)<|λah=>?_
    ·refine Bc (Ak<|A0 (S15 70 69 68 16 15 2 4 6 9 22 23 24 48 49 50)<|Ax<|A7<|Al<|Gr (A1 (α:=P2) (xs:=([⟨170,aa,0⟩,⟨171,aa,3⟩,⟨172,aa,6⟩,⟨173,aa,10⟩]:List P2)) Ce W5 C C A5 om om)<|Gr (Cc (α:=P2) (xs:=([⟨170,aa,0⟩,⟨171,aa,3⟩,⟨172,aa,6⟩,⟨173,aa,10⟩]:List P2)) (u:= .iface 171 (.pointer<|some ⟨aa,3,none⟩)) W5 C A5 dc (show (1:Int)<((4:Nat):Int) by decide) C)<|Ga C<|Ar<|A0 (S16 18 70 69 68 16 15 2 4 6 9 22 23 24 48 49 50)<|Al<|Gm C<|Gf L7 C<|Gl ef ?_)
     refine Gf H7 C<|Gl ef ?_
     refine Gm C<|G.e (D1 c_ C (λw=>by kernel_rfl) C C<|Ck (J:=e8 aa (px nd (j7 M<|j4 cc.u cc.v) a0 ay az a1 M pz.e2.a pz.e2.c pz.n2.a pz.n2.c M pz.e3.a pz.e3.c pz.n3.a pz.n3.c M pz.e4.a pz.e4.c pz.n4.a pz.n4.c) 169::vk 3 az a1 (j9 nd<|j7 M<|j4 cc.u cc.v)::vk 105 a0 ay (j7 M<|j4 cc.u cc.v)::vc 117 (.slice au 4 4) (([⟨170,aa,0⟩,⟨171,aa,3⟩,⟨172,aa,6⟩,⟨173,aa,10⟩]:List P2))::e8 an (ez cc) 54::e8 be [e7 nd,.slice ai (ep X1 xe).length ae] 35::vk 82 ai ae (ep X1 xe)::vk 54 ad ab (P6 X1 xe)::e8 b7 [e7 nd,.slice ap (j6 X1).length ao] 38::vk 105 ap ao (j6 X1)::e8 b4 (ez xe) 54::e8 b2 zk 47::e8 b1 (ky kd wd mo bd lt mr wa wn wc nd ai (ep X1 xe).length ae (j6 X) pv tm) 47::(Z++I)) Az<|fg4 (b:=aa) (D_ aq) (A3 ar.e2) (A3 ar.n2) ak.ok ak.ends (ak.cut aq)<|Ba hT Ah) ?_
     rintro _ _ ⟨_,_,⟨a8,a7,bb,a6,rfl,rfl⟩,rfl,rfl⟩
     refine Ga C<|Ar<|A0 (S16 19 70 69 68 16 15 2 4 6 9 22 23 24 48 49 50)<|Al<|Gm C<|Gr (Cb C C)<|Ar<|A0 (S17 82 19 70 69 68 16 15 2 4 6 9 22 23 24 48 49 50 C C C C C C C C C C C C C C C C C)<|Ao C (λaj=>?_)<|λaj=>?_
     ·exact absurd aj dc
     refine Bc<|Au<|Ak<|A0 (S15 70 69 68 16 15 2 4 6 9 22 23 24 48 49 50)<|A6<|Gr (Rad C C)<|Gm C<|Bq<|Dg (n:=2)<|A0 (L':=[(70,e7 2),(69,e7 ((4:Nat):Int)),(68,.slice au 4 4),(16,.bool<|decide<|cc.kd=1),(15,pt an),(2,pt b1),(4,pt b2),(6,pt aa),(9,pt b7),(22,.slice ea evs.length ec),(23,e7 ((evs.length:Nat):Int)),(24,e7<|(i:Int)),(48,.slice ad (P6 X1 xe).length ab),(49,e7<|(((P6 X1 xe).length:Nat):Int)),(50,e7<|(j:Int))]) (cx4<|cx4<|cx4<|cx2<|Aa C Bb)<|Al<|Gr (Bm C C)<|Ar<|A0 (S16 71 70 69 68 16 15 2 4 6 9 22 23 24 48 49 50)<|Ax<|Ao C (λah=>?_)<|λah=>?_
     ·refine Bc (Ak<|A0 (S15 70 69 68 16 15 2 4 6 9 22 23 24 48 49 50)<|Ax<|A7<|Al<|Gr (A1 (α:=P2) (xs:=([⟨170,aa,0⟩,⟨171,aa,3⟩,⟨172,aa,6⟩,⟨173,aa,10⟩]:List P2)) Ce W5 C C A5 om om)<|Gr (Cc (α:=P2) (xs:=([⟨170,aa,0⟩,⟨171,aa,3⟩,⟨172,aa,6⟩,⟨173,aa,10⟩]:List P2)) (u:= .iface 172 (.pointer<|some ⟨aa,6,none⟩)) W5 C A5 dc (show (2:Int)<((4:Nat):Int) by decide) C)<|Ga C<|Ar<|A0 (S16 18 70 69 68 16 15 2 4 6 9 22 23 24 48 49 50)<|Al<|Gm C<|Gf L7 C<|Gl ef ?_)
      refine Gf H7 C<|Gl ef ?_
      refine Gm C<|G.e (D1 c_ C (λw=>by kernel_rfl) C C<|Ck (J:=e8 aa (px nd (j7 M<|j4 cc.u cc.v) a0 ay az a1 (j7 M<|j4 cc.u cc.v) a8 a7 bb a6 M pz.e3.a pz.e3.c pz.n3.a pz.n3.c M pz.e4.a pz.e4.c pz.n4.a pz.n4.c) 169::vk 3 bb a6 (j5 nd<|j7 M<|j4 cc.u cc.v)::vk 105 a8 a7 (j7 M<|j4 cc.u cc.v)::vk 3 az a1 (j9 nd<|j7 M<|j4 cc.u cc.v)::vk 105 a0 ay (j7 M<|j4 cc.u cc.v)::vc 117 (.slice au 4 4) (([⟨170,aa,0⟩,⟨171,aa,3⟩,⟨172,aa,6⟩,⟨173,aa,10⟩]:List P2))::e8 an (ez cc) 54::e8 be [e7 nd,.slice ai (ep X1 xe).length ae] 35::vk 82 ai ae (ep X1 xe)::vk 54 ad ab (P6 X1 xe)::e8 b7 [e7 nd,.slice ap (j6 X1).length ao] 38::vk 105 ap ao (j6 X1)::e8 b4 (ez xe) 54::e8 b2 zk 47::e8 b1 (ky kd wd mo bd lt mr wa wn wc nd ai (ep X1 xe).length ae (j6 X) pv tm) 47::(Z++I)) Az<|fg3 (b:=aa) (D_ aq) (A3 ar.e3) (A3 ar.n3) ak.ok ak.ends<|ak.cut aq) ?_
      rintro _ _ ⟨_,_,⟨bo,bn,bj,bk,rfl,rfl⟩,rfl,rfl⟩
      refine Ga C<|Ar<|A0 (S16 19 70 69 68 16 15 2 4 6 9 22 23 24 48 49 50)<|Al<|Gm C<|Gr (Cb C C)<|Ar<|A0 (S17 82 19 70 69 68 16 15 2 4 6 9 22 23 24 48 49 50 C C C C C C C C C C C C C C C C C)<|Ao C (λaj=>?_)<|λaj=>?_
      ·exact absurd aj dc
      refine Bc<|Au<|Ak<|A0 (S15 70 69 68 16 15 2 4 6 9 22 23 24 48 49 50)<|A6<|Gr (Rad C C)<|Gm C<|Bq<|Dg (n:=1)<|A0 (L':=[(70,e7 3),(69,e7 ((4:Nat):Int)),(68,.slice au 4 4),(16,.bool<|decide<|cc.kd=1),(15,pt an),(2,pt b1),(4,pt b2),(6,pt aa),(9,pt b7),(22,.slice ea evs.length ec),(23,e7 ((evs.length:Nat):Int)),(24,e7<|(i:Int)),(48,.slice ad (P6 X1 xe).length ab),(49,e7<|(((P6 X1 xe).length:Nat):Int)),(50,e7<|(j:Int))]) (cx4<|cx4<|cx4<|cx2<|Aa C Bb)<|Al<|Gr (Bm C C)<|Ar<|A0 (S16 71 70 69 68 16 15 2 4 6 9 22 23 24 48 49 50)<|Ax<|Ao C (λah=>?_)<|λah=>?_
      ·refine Bc (Ak<|A0 (S15 70 69 68 16 15 2 4 6 9 22 23 24 48 49 50)<|Ax<|A7<|Al<|Gr (A1 (α:=P2) (xs:=([⟨170,aa,0⟩,⟨171,aa,3⟩,⟨172,aa,6⟩,⟨173,aa,10⟩]:List P2)) Ce W5 C C A5 om om)<|Gr (Cc (α:=P2) (xs:=([⟨170,aa,0⟩,⟨171,aa,3⟩,⟨172,aa,6⟩,⟨173,aa,10⟩]:List P2)) (u:= .iface 173 (.pointer<|some ⟨aa,10,none⟩)) W5 C A5 dc (show (3:Int)<((4:Nat):Int) by decide) C)<|Ga C<|Ar<|A0 (S16 18 70 69 68 16 15 2 4 6 9 22 23 24 48 49 50)<|Al<|Gm C<|Gf L7 C<|Gl ef ?_)
       refine Gf H7 C<|Gl ef ?_
       refine Gm C<|G.e (D1 c_ C (λw=>by kernel_rfl) C C<|Ck (J:=e8 aa (px nd (j7 M<|j4 cc.u cc.v) a0 ay az a1 (j7 M<|j4 cc.u cc.v) a8 a7 bb a6 (j7 M<|j4 cc.u cc.v) bo bn bj bk M pz.e4.a pz.e4.c pz.n4.a pz.n4.c) 169::vk 3 bj bk (H9 nd<|j7 M<|j4 cc.u cc.v)::vk 105 bo bn (j7 M<|j4 cc.u cc.v)::vk 3 bb a6 (j5 nd<|j7 M<|j4 cc.u cc.v)::vk 105 a8 a7 (j7 M<|j4 cc.u cc.v)::vk 3 az a1 (j9 nd<|j7 M<|j4 cc.u cc.v)::vk 105 a0 ay (j7 M<|j4 cc.u cc.v)::vc 117 (.slice au 4 4) (([⟨170,aa,0⟩,⟨171,aa,3⟩,⟨172,aa,6⟩,⟨173,aa,10⟩]:List P2))::e8 an (ez cc) 54::e8 be [e7 nd,.slice ai (ep X1 xe).length ae] 35::vk 82 ai ae (ep X1 xe)::vk 54 ad ab (P6 X1 xe)::e8 b7 [e7 nd,.slice ap (j6 X1).length ao] 38::vk 105 ap ao (j6 X1)::e8 b4 (ez xe) 54::e8 b2 zk 47::e8 b1 (ky kd wd mo bd lt mr wa wn wc nd ai (ep X1 xe).length ae (j6 X) pv tm) 47::(Z++I)) Az<|fg2 (b:=aa) (D_ aq) (A3 ar.e4) (A3 ar.n4) ak.ok ak.ends (ak.cut aq)<|Ba hT Ah) ?_
       rintro _ _ ⟨_,_,⟨b6,bw,b3,b9,rfl,rfl⟩,rfl,rfl⟩
       refine Ga C<|Ar<|A0 (S16 19 70 69 68 16 15 2 4 6 9 22 23 24 48 49 50)<|Al<|Gm C<|Gr (Cb C C)<|Ar<|A0 (S17 82 19 70 69 68 16 15 2 4 6 9 22 23 24 48 49 50 C C C C C C C C C C C C C C C C C)<|Ao C (λaj=>?_)<|λaj=>?_
       ·exact absurd aj dc
       refine Bc<|Au<|Ak<|A0 (S15 70 69 68 16 15 2 4 6 9 22 23 24 48 49 50)<|A6<|Gr (Rad C C)<|Gm C<|Bq<|Dg (n:=0)<|A0 (L':=[(70,e7 4),(69,e7 ((4:Nat):Int)),(68,.slice au 4 4),(16,.bool<|decide<|cc.kd=1),(15,pt an),(2,pt b1),(4,pt b2),(6,pt aa),(9,pt b7),(22,.slice ea evs.length ec),(23,e7 ((evs.length:Nat):Int)),(24,e7<|(i:Int)),(48,.slice ad (P6 X1 xe).length ab),(49,e7<|(((P6 X1 xe).length:Nat):Int)),(50,e7<|(j:Int))]) (cx4<|cx4<|cx4<|cx2<|Aa C Bb)<|Al<|Gr (Bm C C)<|Ar<|A0 (S16 71 70 69 68 16 15 2 4 6 9 22 23 24 48 49 50)<|Ax<|Ao C (λah=>?_)<|λah=>?_
       ·exact absurd ah dc
       exact Cg<|Aw<|Aw<|Bi<|Au<|Ak<|A0 (S10 2 4 6 9 22 23 24 48 49 50)<|A6<|Gr (Rad C C)<|Gm C<|Bq<|Bu ((j+1),((j7 M<|j4 cc.u cc.v)),(⟨⟨a0,ay⟩,⟨az,a1⟩,⟨a8,a7⟩,⟨bb,a6⟩,⟨bo,bn⟩,⟨bj,bk⟩,⟨b6,bw⟩,⟨b3,b9⟩⟩),((vk 3 b3 b9 (r9 nd<|j7 M<|j4 cc.u cc.v)::vk 105 b6 bw (j7 M<|j4 cc.u cc.v)::vk 3 bj bk (H9 nd<|j7 M<|j4 cc.u cc.v)::vk 105 bo bn (j7 M<|j4 cc.u cc.v)::vk 3 bb a6 (j5 nd<|j7 M<|j4 cc.u cc.v)::vk 105 a8 a7 (j7 M<|j4 cc.u cc.v)::vk 3 az a1 (j9 nd<|j7 M<|j4 cc.u cc.v)::vk 105 a0 ay (j7 M<|j4 cc.u cc.v)::Z))) (by dsimp only;exact ⟨om,(by rw [bs5 om,←bq,hcc,ga2 aq]),⟨A5,A5,A5,A5,A5,A5,A5,A5⟩⟩) (hI:=by (try dsimp only);exact Az)
      exact absurd dc ah
     exact absurd dc ah
    exact absurd dc ah
   exact absurd dc ah
  refine Cg<|Aw<|Aw<|Bi<|Au<|Ak<|A6<|Gr (Rad C C)<|Gm C<|Bq ?_
  have b5:M=j6 (ep X1 xe):=by rw [bq,show j=(P6 X1 xe).length by omega];exact ga1 bf br
  exact Bu ((i+1),(ep X1 xe),(⟨ai,ae⟩),(pz),((vk 82 ai ae (ep X1 xe)::Z))) (by dsimp only;exact ⟨om,(by rw [Ca evs i om,Hf,←hX,hxe];rfl),(J3 bf br),(Cy<|Gk _ A_),(by rw [←b5];exact bp.fit<|Ff<|De _)⟩) (hI:=by (try dsimp only);exact (by rw [←b5];exact Az))
 refine Cg<|Aw<|Aw<|Bi<|Ak<|Ax<|A8 mixed<|Bv (e8 aa (pq nd (j6 X1) pw) 169::e8 b2 zk 47::(Y++I)) 28<|Dr 0 C (Ap C)<|Dr 1 C (Ef C)<|Dr 2 C (Af cn6 C)<|Dr 3 C (Af co0 C)<|Dr 4 C (Bl (vs:=[_,_,_]) ab6) ?_
 refine Dr 5 C (Ap C)<|Dr 6 C (Ef C)<|Dr 7 C (Af cn5 C)<|Dr 8 C (Af cn9 C)<|Dr 9 C (Bl (vs:=[_,_,_]) L6) ?_
 refine Dr 10 C (Ap C)<|Dr 11 C (Ef C)<|Dr 12 C (Af cn4 C)<|Dr 13 C (Af cn8 C)<|Dr 14 C (Bl (vs:=[_,_,_,_]) ad0) ?_
 refine Dr 15 C (Ap C)<|Dr 16 C (Ef C)<|Dr 17 C (Af cn3 C)<|Dr 18 C (Af cn7 C)<|Dr 19 C (Bl (vs:=[_,_,_,_,_]) V5) ?_
 refine Dr 20 C (Af cf6 C)<|Ds1 21<|Se0 C (Bt (cs:=[_,_,_,_,_,_,_,_,_,_,_,_,_,_,_,_,_,_,_,_,_,_,_,_,_]) (vs:=[_,_,_]) (cs':=[_,_,_,_,_,_,_,_,_,_,_,_,_,_,_,_,_,_,_,_,_,_,_,_,_]) ab6) ?_
 refine Dr 22 C (Af cf5 C)<|Ds1 23<|Se0 C (Bt (cs:=[_,_,_,_,_,_,_,_,_,_,_,_,_,_,_,_,_,_,_,_,_,_,_,_,_]) (vs:=[_,_,_]) (cs':=[_,_,_,_,_,_,_,_,_,_,_,_,_,_,_,_,_,_,_,_,_,_,_,_,_]) L6) ?_
 refine Dr 24 C (Af cf4 C)<|Ds1 25<|Se0 C (Bt (cs:=[_,_,_,_,_,_,_,_,_,_,_,_,_,_,_,_,_,_,_,_,_,_,_,_,_]) (vs:=[_,_,_,_]) (cs':=[_,_,_,_,_,_,_,_,_,_,_,_,_,_,_,_,_,_,_,_,_,_,_,_,_]) ad0) ?_
 refine Dr 26 C (Af cf3 C)<|Ds1 27<|Se0 C (Bt (cs:=[_,_,_,_,_,_,_,_,_,_,_,_,_,_,_,_,_,_,_,_,_,_,_,_,_]) (vs:=[_,_,_,_,_]) (cs':=[_,_,_,_,_,_,_,_,_,_,_,_,_,_,_,_,_,_,_,_,_,_,_,_,_]) V5) ?_
 refine Dz<|Ak<|A0 (S2 2 4)<|Al<|Gr (j8.lj H2) ?_
 refine Ge0 (Eff.sq H2) ?_
 refine Ga C<|Ar<|B3 ?_
 have cp:X1=(evs.foldl ep X):=by rw [hX,Fz om]
 subst cp
 exact Cp C H2 C C mm C ((Y++I)) Ah ⟨lw,pw,Y,rfl,cf,ce,rfl⟩
end Go.Sl
namespace Go.Sl
open Go.Proofs
set_option maxRecDepth 4000
variable{last nw:Int}{κ:Ctx}{I:List Item}{ad ae ah ai aj ak an ao ap aq ar au x3 x4 x5 x6 x9:Value}
attribute [local irreducible] W G V D A j8 Eff
section
variable {nd kd wd mo T:Int}{X X1:List Lk}{o:List Ev}{e:Ev}
theorem dv4(hv:p9 nd X1=0)(hw:s7 kd wd mo=0)(hT:T<=1048576)(h:0<(P5 kd wd mo T X1).length) :
  R6 kd wd mo T (X1,o)=R6 kd wd mo T ((P5 kd wd mo T X1).foldl ep X1,o++P5 kd wd mo T X1)/\((P5 kd wd mo T X1).foldl ep X1).length<X1.length/\p9 nd ((P5 kd wd mo T X1).foldl ep X1)=0/\(∀x∈P5 kd wd mo T X1,H4 nd x)/\(o++P5 kd wd mo T X1).length+((P5 kd wd mo T X1).foldl ep X1).length=o.length+X1.length:=by
 have M:=ck8.1 h
 have hk:=M.1
 subst hk
 have he:P5 2 wd mo T X1=s6 2 wd mo (ab4 X1+wd) X1:=by unfold P5;rw [B_ M]
 have hs:=ae1 (kd:=2) (wd:=wd) (mo:=mo) (nw:=ab4 X1+wd) hv
 have hl:=af7 2 wd mo (ab4 X1+wd) X1
 have aa:=at0 (wd:=wd) (mo:=mo) M.2.1
 have ad:=as8 hw
 obtain ⟨⟨x,hx,e0⟩,_⟩:=T2 M.2.1
 have ab:=cv1 hv x hx
 rw [he,hs]
 refine ⟨?_,aa,bm5 hv,ak7 hv om,by rw [By];omega⟩
 unfold R6
 rw [B_ rfl,B_ rfl]
 exact ae3 M.2
theorem fm3(h:¬0<(P5 kd wd mo T X1).length):R6 kd wd mo T (X1,o)=(X1,o):=by
 unfold R6
 by_cases hk:kd=2
 ·rw [B_ hk]
  exact Q6 λq=>h<|ck8.2 ⟨hk,q⟩
 rw [An hk]
theorem step_end(M:R6 kd wd mo e.tm (X,[])=(X1,o))(hk:¬kd=3):p6 kd wd mo (X,[]) e=(ep X1 e,o++[e]):=by
 unfold p6 ds1
 rw [M,An hk]
theorem bw0(M:R6 kd wd mo e.tm (X,[])=(X1,o))(hk:kd=3)(hv:p9 nd (ep X1 e)=0):p6 kd wd mo (X,[]) e=((s6 kd wd mo e.tm (ep X1 e)).foldl ep (ep X1 e),o++[e]++s6 kd wd mo e.tm (ep X1 e)):=by
 unfold p6 ds1
 rw [M,B_ hk,ae1 hv]
theorem fb0(hw:s7 kd wd mo=0)(hv:p9 nd X=0)(hn:0<=nw/\nw<=1048576)(ht:∀x∈X,x.tm<=nw):ac8 nd X kd wd mo nw=0:=by
 unfold ac8
 rw [An om,An om,An]
 rintro (h|h|h)
 ·omega
 ·omega
 obtain ⟨x,M,h2⟩:=Kf.1 h
 have:=ht x M
 have:=Fu h2
 omega
theorem fp4(h:∀x∈X,x.tm<=last)(hv:p9 nd X=0)(hk:¬kd=2)(M:R6 kd wd mo T (X,[])=(X1,o)):X1=X:=by
 unfold R6 at M
 rw [An hk] at M
 exact (Prod.mk.inj M).1.symm
theorem fk5(h:∀x∈X,x.tm<=last)(M:last<=e.tm):∀x∈ep X e,x.tm<=e.tm:=λx hx=>by
 unfold ep at hx
 split at hx
 ·rcases ba2 hx with rfl|hx
  ·exact Hp _
  have:=h x hx;omega
 have:=h x (Gp.1 hx).1;omega
end
theorem fj1{nd kd wd mo tq:Int}{la:Option Addr}{lc:Nat}{X:List Lk}{ax av aw:Value}(hl:Sl κ I (.slice la X.length lc) X)(hv:p9 nd X=0)(hw:s7 kd wd mo=0)(ht:0<=tq/\tq<=1048576):eu Tryz.prog κ 124 [.agg #[e7 kd,e7 wd,e7 mo,x3,x4,x5,x6,e7 nd,.slice la X.length lc,x9,an,ap,ax,ak,av,ad,ao,aq,aw,ah,ai,ar,ae,au,aj],e7 tq] I (λr J=>∃(a:Option Addr) (c:Nat),r = .slice a (P5 kd wd mo tq X).length c/\J=vk 54 a c (P5 kd wd mo tq X)::I):=by
 have a9:=as8 hw
 have ay:=q9 (F6 hv)
 rw [G0] at ay
 refine Ce2 Tryz.func124 C C ?_
 refine Al<|Ge1 (Av (cs:=[_,_,_,_,_,_,_,_,_,_,_,_,_,_,_,_,_,_,_,_,_,_,_,_,_]) C C C) λb1=>Z ?_
 refine Ao C (λc13=>Z ?_)<|λc13=>Z ?_
 ·have hE:(P5 kd wd mo tq X)=[]:=dv5 c13
  exact Am C C (vk 54 none 0 (P5 kd wd mo tq X)::I) (by unfold vk;rw [hE];exact (A9 (show Fit κ _ I from Az)<|B6 (α:=Ev) _ _)) ⟨none,0,by rw [hE]<;>rfl,rfl⟩
 refine B9 (σ:=Nat×Int×(Option Addr)×Nat×(List Ev)) (λs=>([(1,e7 tq),(2,pt b1),(5,e7<|s.2.1),(6,.slice s.2.2.1 s.2.2.2.2.length s.2.2.2.1),(18,.slice la X.length lc),(19,e7 ((X.length:Nat):Int)),(20,e7 ((s.1:Nat):Int))]:Env)) (λs=>vk 54 s.2.2.1 s.2.2.2.1 s.2.2.2.2::e8 b1 [e7 kd,e7 wd,e7 mo,x3,x4,x5,x6,e7 nd,.slice la X.length lc,x9,an,ap,ax,ak,av,ad,ao,aq,aw,ah,ai,ar,ae,au,aj] 47::I) (λs=>(s.1<=X.length)/\(ch8 wd tq (X.take s.1) s.2.1 s.2.2.2.2)/\(s.2.2.2.2.length<=s.1)) (λs=>X.length - s.1) (0,tq+1,none,0,[]) ⟨om,ch8.zero,(by simp)⟩ (cx2<|Aa Cl<|Aa (Da C<|by first|rfl|simp)<|cx2<|Aa Cl Bb) (A9 (show Fit κ _ _ from Az)<|B6 (α:=Ev) _ _) ?_
 rintro ⟨k,tt,oa,oc,out⟩ hp
 dsimp only at hp ⊢
 obtain ⟨hk,ho,a5⟩:=hp
 have ba:=ho.le
 refine Z ?_
 refine Ao C (λa4=>Z ?_)<|λa4=>Z ?_
 ·have a6:=bg2 hv (k:Int) om om
  refine Ge1 (Aj J8 C) λb2=>Ge0 (Fo J8)<|Z ?_
  refine Ao C (λM=>Z ?_)<|λM=>Z ?_
  ·refine A4 (d:=37) C (λaa=>Z ?_) (λaa=>?_)
   ·refine Ao C (λab=>Z ?_) (λab=>?_)
    ·refine Ge1 (B1 (α:=Ev) (cs:=[e7 2,e7<|((e_ X k).tm)+wd,e7<|(e_ X k).u,e7<|(e_ X k).v,e7 0,e7 0,e7 0]) (xs:=[⟨2,((e_ X k).tm)+wd,(e_ X k).u,(e_ X k).v,0,0,0⟩]) Ad z6 C C dc dc C kr C C) λa7=>?_
     refine Ge2 (Fb (α:=Ev) (ys:=([⟨2,((e_ X k).tm)+wd,(e_ X k).u,(e_ X k).v,0,0,0⟩]:List Ev)) Ad z6 C C C A5 lcn dc C) λa3 a1=>Z ?_
     exact Bu ((k+1),(((e_ X k).tm)+wd),(a3),(a1),(([⟨2,((e_ X k).tm)+wd,(e_ X k).u,(e_ X k).v,0,0,0⟩]:List Ev)))<|by dsimp only;exact ⟨om,(by rw [Ca X k om];first|exact ho.less M|exact ho.eq aa om|exact ho.no M om),olp⟩
    omega
   exact absurd rfl aa
  refine A4 (d:=37) C (λaa=>Z ?_)<|λaa=>Z ?_
  ·refine Ao C (λab=>Z ?_) (λab=>Z ?_)
   ·refine Ge1 (B1 (α:=Ev) (cs:=[e7 2,e7<|((e_ X k).tm)+wd,e7<|(e_ X k).u,e7<|(e_ X k).v,e7 0,e7 0,e7 0]) (xs:=[⟨2,((e_ X k).tm)+wd,(e_ X k).u,(e_ X k).v,0,0,0⟩]) Ad z6 C C dc dc C kr C C) λa8=>?_
    refine Ge2 (Bs (α:=Ev) (e:=54) (xs:=out) (ys:=([⟨2,((e_ X k).tm)+wd,(e_ X k).u,(e_ X k).v,0,0,0⟩]:List Ev)) Ad z6 C C C mm A5 lcn dc C<|λ_ _=>am) λa0 az=>Z ?_
    exact Bu ((k+1),(tt),(a0),(az),(out++([⟨2,((e_ X k).tm)+wd,(e_ X k).u,(e_ X k).v,0,0,0⟩]:List Ev)))<|by dsimp only;exact ⟨om,(by rw [Ca X k om];first|exact ho.less M|exact ho.eq aa om|exact ho.no M om),olp⟩
   exact Bu ((k+1),(tt),(oa),(oc),(out))<|by dsimp only;exact ⟨om,(by rw [Ca X k om];first|exact ho.less M|exact ho.eq aa om|exact ho.no M om),olp⟩
  exact Bu ((k+1),(tt),(oa),(oc),(out))<|by dsimp only;exact ⟨om,(by rw [Ca X k om];first|exact ho.less M|exact ho.eq aa om|exact ho.no M om),olp⟩
 have hE:out=(P5 kd wd mo tq X):=by rw [show X.take k=X from Fz om] at ho;exact ho.all om
 exact Am C C (vk 54 oa oc (P5 kd wd mo tq X)::I) (by unfold vk;rw [←hE];exact Az) ⟨oa,oc,by rw [←hE],rfl⟩
theorem bt7{nd:Int}{e:Ev}{x0 x1 x2 x8 M ab aa:Value}(hx:H4 nd e):eu Tryz.prog κ 46 [.agg #[x0,x1,x2,x3,x4,x5,x6,e7 nd,x8,x9,ai,ak,au,ah,aq,M,aj,an,ar,ab,ad,ao,aa,ap,ae],.agg (ez e).toArray] I (λr J=>r = .bool true/\I=J):=by
 refine Ce2 Tryz.func46 C C ?_
 refine Al<|Ge1 (Av (cs:=[_,_,_,_,_,_,_,_,_,_,_,_,_,_,_,_,_,_,_,_,_,_,_,_,_]) C C C) λb1=>Ge1 (Av (cs:=[_,_,_,_,_,_,_]) C C C) λb2=>Z ?_
 have hf:=hx.fits
 exact Am C C I Ah ⟨by rw [As];split<;>omega,rfl⟩
theorem ci3{nd kd wd mo:Int}{a0:Option Addr}{c0:Nat}{xs:List Lk}(hl:Sl κ I (.slice a0 xs.length c0) xs)(M:xs.length<=1000000)(hz:ac8 nd xs kd wd mo nw=0):eu Tryz.prog κ 126 [.agg #[e7 nd,.slice a0 xs.length c0],.agg #[e7 kd,e7 wd,e7 mo],e7 nw] I λr J=>∃a c,r = .tuple #[.slice a (s6 kd wd mo nw xs).length c,e7 0]/\J=vk 54 a c (s6 kd wd mo nw xs)::I:=
 (cz4 hl M).mono λr J h=>by
  rcases h with h|⟨a,c,_,h1,h2⟩
  ·exact absurd hz h.1
  exact ⟨a,c,h1,h2⟩
end Go.Sl
