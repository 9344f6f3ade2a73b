/- A part of the proofs of statements of this seat: contracts of functions, and the plain laws that they lean on. No conditions. -/
import Derived.Test.YtoagcglbkeomgaaGreatDoorE24
set_option linter.unusedVariables false
set_option linter.unusedSimpArgs false
set_option linter.unusedSectionVars false
set_option maxHeartbeats 4000000
namespace Go.Sl
open Go.Proofs
set_option maxRecDepth 4000
section
variable {nd:Int}{es es0:List Pt}{u v y:Int}{c:Ev}
theorem dy7(h:at5 nd es u v y)(M:0<=y):j4 u v∈es:=by
 rcases h with ⟨_,j,rfl,hj,e⟩|⟨rfl,_⟩
 ·rw [←e];exact Bn om om
 omega
theorem dy6(M:s8 nd es)(h:at5 nd es u v y)(h0:¬0<=y):j4 u v∉es:=by
 rcases h with ⟨_,j,rfl,hj,e⟩|⟨_,h1|h1⟩
 ·omega
 ·exact absurd (s4.2 M) h1
 exact h1
theorem fo8(M:c.kd=1)(h2:j4 c.u c.v∈es0):chS es0 es c=es:=by unfold chS;rw [B_ M,B_ h2]
theorem ga0(M:c.kd=1)(h2:j4 c.u c.v∉es0):chS es0 es c=z8 Pt.lt es (j4 c.u c.v):=by unfold chS;rw [B_ M,An h2]
theorem ga2(M:¬c.kd=1):chS es0 es c=j6 es (j4 c.u c.v):=by unfold chS;rw [An M]
end
theorem bh3{κ:Ctx}{I:List Item}{nd kd wd mo bd lt mr tm:Int}{wa:Option Addr}{wn wc:Nat}{lv:SlA}{pv:PkV}{X:List Lk}{T:List Item}(hH:Has I T)(hl:Sl κ T (.slice lv.a X.length lv.c) X)(hp:PkR κ T nd (j8 X) pv)(hv:p9 nd X=0){evs:List Ev}{ea:Option Addr}{ec:Nat}(he:Sl κ I (.slice ea evs.length ec) evs)(ci:∀e∈evs,J1 nd e)(cx:evs.length<=1000000)(hT:F4 κ I 0 p5):eu Tryz.prog κ 125 [.agg (ky kd wd mo bd lt mr wa wn wc nd lv.a X.length lv.c (j8 X) pv tm).toArray,.slice ea evs.length ec] I (λr J=>∃(lw:SlA) (pw:PkV) (Y:List Item),r = .tuple #[.agg (ky kd wd mo bd lt mr wa wn wc nd lw.a (evs.foldl ep X).length lw.c (j8 (evs.foldl ep X)) pw tm).toArray,e7 0]/\Sl κ (Y++T) (.slice lw.a (evs.foldl ep X).length lw.c) (evs.foldl ep X)/\PkR κ (Y++T) nd (j8 (evs.foldl ep X)) pw/\J=Y++I):=by
 refine Ce2 Tryz.func125 C C ?_
 refine Am<|Ge1 (Au (cs:=[_,_,_,_,_,_,_,_,_,_,_,_,_,_,_,_,_,_,_,_,_,_,_,_,_]) C C C) λb1=>Ge1 (Aj H3 C) λb2=>Ga C<|Ar<|Am<|Gr (j7.lj H3) ?_
 refine G.e (Ac c_ C C fj2) ?_
 rintro _ _ ⟨_,_,⟨aa,rfl,rfl⟩,rfl,rfl⟩
 refine Ga C<|Ar<|Ay<|Am<|Gm C<|Gr (Bl Ad C)<|Gm C<|Ar<|A8<|B9 (σ:=Nat×(List Lk)×SlA×PkV×(List Item)) (λs=>([(2,pt b1),(4,pt b2),(6,pt aa),(22,.slice ea evs.length ec),(23,e7 ((evs.length:Nat):Int)),(24,e7 ((s.1:Nat):Int))]:Env)) (λs=>e8 aa (pq nd (j8 s.2.1) s.2.2.2.1) 169::e8 b2 zk 47::e8 b1 (ky kd wd mo bd lt mr wa wn wc nd s.2.2.1.a s.2.1.length s.2.2.1.c (j8 X) pv tm) 47::(s.2.2.2.2++I)) (λs=>(s.1<=evs.length)/\(s.2.1=(evs.take s.1).foldl ep X)/\(p9 nd s.2.1=0)/\(Sl κ (s.2.2.2.2++T) (.slice s.2.2.1.a s.2.1.length s.2.2.1.c) s.2.1)/\(PkR κ (s.2.2.2.2++T) nd (j8 s.2.1) s.2.2.2.1)) (λs=>evs.length - s.1) (0,X,lv,pv,[]) ⟨om,rfl,hv,hl,hp⟩ (cx4<|Aa C<|Aa Cn Bb) Az ?_
 rintro ⟨i,X1,lw,pw,Y⟩ hp
 dsimp only at hp ⊢
 obtain ⟨hi,hX,bf,cg,cd⟩:=hp
 have hU:=B1 hH Y
 have cf:=cg.fit (κ:=κ) hU.fit
 have ct:=cd.fit hU.fit
 have cm:=q9 (G2 bf)
 have cn:=cm
 rw [G7] at cn
 refine Am<|Gr (Bj C C)<|Ar<|Ay<|Al C (λcp=>?_)<|λcp=>?_
 ·refine Bc (Ao<|Ay<|A8<|Am<|Gr (A2 (α:=Ev) (xs:=evs) Ad z6 C C (A4 he) om om)<|Gr (Da (α:=Ev) (xs:=evs) z6 C (A4 he) om om) ?_)
  have bq:=ci _ (Bn (xs:=evs) (i:=(i:Int)) om om)
  generalize hxe:e_ evs i=xe at bq ⊢
  refine Ge1 (Aj z6 C) λb4=>Ge0 (Fk z6) ?_
  refine Ar<|Am<|Gf ao1 C<|Gl2 W2 ?_
  refine Gc2 (Ac c_ C C<|cc2 (nd:=nd) (A4 cf) bf om) λan ao=>?_
  refine Gm C<|Gr (Bk C C)<|Gr (Bk C C)<|Ge1 (Aj J9 C) λb7=>Ge0 (Cr J9) ?_
  refine Ga C<|Ar<|A0 (S8 9 8 2 4 6 22 23 24)<|Am<|Gf ao1 C<|Gl2 W2 ?_
  refine Gl7 z6 ?_
  refine G.e (Ac c_ C C<|dr6 (nd:=nd) (e:=xe) (xs:=X1) (A4 cf) bf bq om) ?_
  rintro _ _ ⟨_,_,⟨ae,ah,ab,ad,rfl,rfl⟩,rfl,rfl⟩
  refine Gm C<|Gr (Bk C C)<|Gr (Bk C C)<|Gr (Bk C C)<|Ge1 (Aj W2 C) λbe=>Ge0 (Cr W2) ?_
  refine Ga C<|Ga C<|Ar<|A0 (S10 13 12 11 9 2 4 6 22 23 24)<|Ay<|Am<|Gm C<|Gr (Ci C C)<|Ar<|Al C (λch=>?_)<|λch=>?_
  ·exact absurd ch dc
  refine Bc<|Ao<|Am<|Gl2 W2 ?_
  refine Gf ao1 C<|Ge0 (Br (cs:=[_,_,_,_,_,_,_,_,_,_,_,_,_,_,_,_,_,_,_,_,_,_,_,_,_]) (vs:=[_,_]) (cs':=[_,_,_,_,_,_,_,_,_,_,_,_,_,_,_,_,_,_,_,_,_,_,_,_,_]) W2) ?_
  refine Ar<|A0 (S8 12 9 2 4 6 22 23 24)<|Am<|Gm C<|Gr (Bl Ad C)<|Gm C<|Ar<|A8<|B9 (σ:=Nat×(List Pt)×PkV×(List Item)) (λs=>([(2,pt b1),(4,pt b2),(6,pt aa),(9,pt b7),(22,.slice ea evs.length ec),(23,e7 ((evs.length:Nat):Int)),(24,e7<|(i:Int)),(48,.slice ab (P4 X1 xe).length ad),(49,e7<|(((P4 X1 xe).length:Nat):Int)),(50,e7 ((s.1:Nat):Int))]:Env)) (λs=>e8 be [e7 nd,.slice ae (ep X1 xe).length ah] 35::vk 82 ae ah (ep X1 xe)::vk 54 ab ad (P4 X1 xe)::e8 b7 [e7 nd,.slice an (j8 X1).length ao] 38::vk 105 an ao (j8 X1)::e8 b4 (ez xe) 54::e8 aa (pq nd s.2.1 s.2.2.1) 169::e8 b2 zk 47::e8 b1 (ky kd wd mo bd lt mr wa wn wc nd ae (ep X1 xe).length ah (j8 X) pv tm) 47::(s.2.2.2++I)) (λs=>(s.1<=(P4 X1 xe).length)/\(s.2.1=chE X1 xe s.1)/\(PkR κ (s.2.2.2++T) nd s.2.1 s.2.2.1)) (λs=>(P4 X1 xe).length - s.1) (0,(j8 X1),pw,Y) ⟨om,rfl,cd⟩ (cx4<|cx4<|Aa C<|Aa Cn Bb) Az ?_
  rintro ⟨j,M,pz,Z⟩ hp
  dsimp only at hp ⊢
  obtain ⟨hj,bp,br⟩:=hp
  have cw:=fo7 X1 xe
  have cq:=B1 hH Z
  have ar:=br.fit (κ:=κ) cq.fit
  refine Am<|Gr (Bj C C)<|Ar<|Ay<|Al C (λck=>?_)<|λck=>?_
  ·refine Bc (Ao<|Ay<|A8<|Am<|Gr (A2 (α:=Ev) (xs:=P4 X1 xe) Ad z6 C C A5 om om)<|Gr (Da (α:=Ev) (xs:=P4 X1 xe) z6 C A5 om om) ?_)
   have aj:=gg8 bf bq (j:=j) om
   rw [←bp] at aj
   generalize hcc:e_ (P4 X1 xe) j=cc at aj ⊢
   refine Ge1 (Aj z6 C) λap=>Ge0 (Fk z6) ?_
   refine Ar<|A0 (S11 15 2 4 6 9 22 23 24 48 49 50 C C C C C C C C C C C)<|Am<|Gf W8 C<|Gl ef ?_
   refine Gr (C4 C C)<|Ga C<|Ar<|A0 (S12 16 15 2 4 6 9 22 23 24 48 49 50)<|Ay<|Am<|Gm C<|Gm C<|A1 (d:=58) C (λaq=>?_)<|λaq=>?_
   ·refine e9 (Bm (vs:=[_,_]) J9) ?_
    refine e9 (Af L6 C)<|e9 (Bf ef) ?_
    refine e9 (Af H6 C)<|e9 (Bf ef) ?_
    refine Dj (Cf C C C) (Ac c_ C C<|at6 (nd:=nd) A5 cc.u cc.v om) ?_
    rintro _ _ ⟨_,_,⟨cr,rfl,b6,rfl⟩,rfl,rfl⟩
    refine e9 (j7.geq C C)<|Gr (B4 C C)<|Ar<|A0 (S13 66 16 15 2 4 6 9 22 23 24 48 49 50)<|Al C (λce=>?_)<|λce=>?_
    ·exact Ck<|Aw<|Bi<|Ao<|Ba<|Gr (Rad C C)<|Gm C<|Bs<|Bt ((j+1),(M),(pz),(Z))<|by dsimp only;exact ⟨om,(by rw [bs6 om,←bp,hcc,fo8 aq<|dy7 b6 ce]),br⟩
    refine Bc<|Ao<|Am<|Gm C ?_
    have cj:=dy6 (G2 bf) b6 ce
    have bt:j4 cc.u cc.v∉M:=by rw [aj.set aq];exact cj
    refine G.e (Ac c_ C C dr8) ?_
    rintro _ _ ⟨_,_,⟨av,rfl,rfl⟩,rfl,rfl⟩
    refine Gr (Bl Ce C)<|Gm C<|Ar<|A0 (S15 70 69 68 16 15 2 4 6 9 22 23 24 48 49 50 C C C C C C C C C C C C C C C)<|A8<|W.rounds 5 ?_
    refine De (n:=4)<|A0 (L':=[(70,e7 0),(69,e7 ((4:Nat):Int)),(68,.slice av 4 4),(16,.bool<|decide<|cc.kd=1),(15,pt ap),(2,pt b1),(4,pt b2),(6,pt aa),(9,pt b7),(22,.slice ea evs.length ec),(23,e7 ((evs.length:Nat):Int)),(24,e7<|(i:Int)),(48,.slice ab (P4 X1 xe).length ad),(49,e7<|(((P4 X1 xe).length:Nat):Int)),(50,e7<|(j:Int))]) (cx4<|cx4<|cx4<|cx2<|Aa C Bb)<|Am<|Gr (Bj C C)<|Ar<|A0 (S16 71 70 69 68 16 15 2 4 6 9 22 23 24 48 49 50 C C C C C C C C C C C C C C C C)<|Ay<|Al C (λai=>?_)<|λai=>?_
    ·refine Bc (Ao<|A0 (S15 70 69 68 16 15 2 4 6 9 22 23 24 48 49 50 C C C C C C C C C C C C C C C)<|Ay<|A8<|Am<|Gr (A2 (α:=P0) (xs:=([⟨170,aa,0⟩,⟨171,aa,3⟩,⟨172,aa,6⟩,⟨173,aa,10⟩]:List P0)) Ce W5 C C A5 om om)<|Gr (Cc (α:=P0) (xs:=([⟨170,aa,0⟩,⟨171,aa,3⟩,⟨172,aa,6⟩,⟨173,aa,10⟩]:List P0)) (u:= .iface 170 (pt aa)) W5 C A5 dc (show (0:Int)<((4:Nat):Int) by decide) C)<|Ga C<|Ar<|A0 (S16 18 70 69 68 16 15 2 4 6 9 22 23 24 48 49 50 C C C C C C C C C C C C C C C C)<|Am<|Gm C<|Gf L6 C<|Gl ef ?_)
     refine Gf H6 C<|Gl ef ?_
     refine Gm C<|G.e (D0 c_ C (λw=>by kernel_rfl) C C<|Cl (J:=e8 aa (pq nd M pz) 169::vc 117 (.slice av 4 4) (([⟨170,aa,0⟩,⟨171,aa,3⟩,⟨172,aa,6⟩,⟨173,aa,10⟩]:List P0))::e8 ap (ez cc) 54::e8 be [e7 nd,.slice ae (ep X1 xe).length ah] 35::vk 82 ae ah (ep X1 xe)::vk 54 ab ad (P4 X1 xe)::e8 b7 [e7 nd,.slice an (j8 X1).length ao] 38::vk 105 an ao (j8 X1)::e8 b4 (ez xe) 54::e8 b2 zk 47::e8 b1 (ky kd wd mo bd lt mr wa wn wc nd ae (ep X1 xe).length ah (j8 X) pv tm) 47::(Z++I)) Az<|fg3 (b:=aa) (As aq) (A4 ar.e1) (A4 ar.n1) aj.ok aj.ends bt<|A6 hT Ah) ?_
     rintro _ _ ⟨_,_,⟨a4,aw,ay,a1,rfl,rfl⟩,rfl,rfl⟩
     refine Ga C<|Ar<|A0 (S16 19 70 69 68 16 15 2 4 6 9 22 23 24 48 49 50 C C C C C C C C C C C C C C C C)<|Am<|Gm C<|Gr (Ci C C)<|Ar<|A0 (S17 82 19 70 69 68 16 15 2 4 6 9 22 23 24 48 49 50 C C C C C C C C C C C C C C C C C)<|Al C (λak=>?_)<|λak=>?_
     ·exact absurd ak dc
     refine Bc<|Av<|Ao<|A0 (S15 70 69 68 16 15 2 4 6 9 22 23 24 48 49 50 C C C C C C C C C C C C C C C)<|Ba<|Gr (Rad C C)<|Gm C<|Bs<|De (n:=3)<|A0 (L':=[(70,e7 1),(69,e7 ((4:Nat):Int)),(68,.slice av 4 4),(16,.bool<|decide<|cc.kd=1),(15,pt ap),(2,pt b1),(4,pt b2),(6,pt aa),(9,pt b7),(22,.slice ea evs.length ec),(23,e7 ((evs.length:Nat):Int)),(24,e7<|(i:Int)),(48,.slice ab (P4 X1 xe).length ad),(49,e7<|(((P4 X1 xe).length:Nat):Int)),(50,e7<|(j:Int))]) (cx4<|cx4<|cx4<|cx2<|Aa C Bb)<|Am<|Gr (Bj C C)<|Ar<|A0 (S16 71 70 69 68 16 15 2 4 6 9 22 23 24 48 49 50 C C C C C C C C C C C C C C C C)<|Ay<|Al C (λai=>?_)<|λai=>?_
     ·refine Bc (Ao<|A0 (S15 70 69 68 16 15 2 4 6 9 22 23 24 48 49 50 C C C C C C C C C C C C C C C)<|Ay<|A8<|Am<|Gr (A2 (α:=P0) (xs:=([⟨170,aa,0⟩,⟨171,aa,3⟩,⟨172,aa,6⟩,⟨173,aa,10⟩]:List P0)) Ce W5 C C A5 om om)<|Gr (Cc (α:=P0) (xs:=([⟨170,aa,0⟩,⟨171,aa,3⟩,⟨172,aa,6⟩,⟨173,aa,10⟩]:List P0)) (u:= .iface 171 (.pointer<|some ⟨aa,3,none⟩)) W5 C A5 dc (show (1:Int)<((4:Nat):Int) by decide) C)<|Ga C<|Ar<|A0 (S16 18 70 69 68 16 15 2 4 6 9 22 23 24 48 49 50 C C C C C C C C C C C C C C C C)<|Am<|Gm C<|Gf L6 C<|Gl ef ?_)
      refine Gf H6 C<|Gl ef ?_
      refine Gm C<|G.e (D0 c_ C (λw=>by kernel_rfl) C C<|Cl (J:=e8 aa (px nd (z8 Pt.lt M<|j4 cc.u cc.v) a4 aw ay a1 M pz.e2.a pz.e2.c pz.n2.a pz.n2.c M pz.e3.a pz.e3.c pz.n3.a pz.n3.c M pz.e4.a pz.e4.c pz.n4.a pz.n4.c) 169::vk 3 ay a1 (j9 nd<|z8 Pt.lt M<|j4 cc.u cc.v)::vk 105 a4 aw (z8 Pt.lt M<|j4 cc.u cc.v)::vc 117 (.slice av 4 4) (([⟨170,aa,0⟩,⟨171,aa,3⟩,⟨172,aa,6⟩,⟨173,aa,10⟩]:List P0))::e8 ap (ez cc) 54::e8 be [e7 nd,.slice ae (ep X1 xe).length ah] 35::vk 82 ae ah (ep X1 xe)::vk 54 ab ad (P4 X1 xe)::e8 b7 [e7 nd,.slice an (j8 X1).length ao] 38::vk 105 an ao (j8 X1)::e8 b4 (ez xe) 54::e8 b2 zk 47::e8 b1 (ky kd wd mo bd lt mr wa wn wc nd ae (ep X1 xe).length ah (j8 X) pv tm) 47::(Z++I)) Az<|fg2 (b:=aa) (As aq) (A4 ar.e2) (A4 ar.n2) aj.ok aj.ends bt<|A6 hT Ah) ?_
      rintro _ _ ⟨_,_,⟨a7,a5,bb,a6,rfl,rfl⟩,rfl,rfl⟩
      refine Ga C<|Ar<|A0 (S16 19 70 69 68 16 15 2 4 6 9 22 23 24 48 49 50 C C C C C C C C C C C C C C C C)<|Am<|Gm C<|Gr (Ci C C)<|Ar<|A0 (S17 82 19 70 69 68 16 15 2 4 6 9 22 23 24 48 49 50 C C C C C C C C C C C C C C C C C)<|Al C (λak=>?_)<|λak=>?_
      ·exact absurd ak dc
      refine Bc<|Av<|Ao<|A0 (S15 70 69 68 16 15 2 4 6 9 22 23 24 48 49 50 C C C C C C C C C C C C C C C)<|Ba<|Gr (Rad C C)<|Gm C<|Bs<|De (n:=2)<|A0 (L':=[(70,e7 2),(69,e7 ((4:Nat):Int)),(68,.slice av 4 4),(16,.bool<|decide<|cc.kd=1),(15,pt ap),(2,pt b1),(4,pt b2),(6,pt aa),(9,pt b7),(22,.slice ea evs.length ec),(23,e7 ((evs.length:Nat):Int)),(24,e7<|(i:Int)),(48,.slice ab (P4 X1 xe).length ad),(49,e7<|(((P4 X1 xe).length:Nat):Int)),(50,e7<|(j:Int))]) (cx4<|cx4<|cx4<|cx2<|Aa C Bb)<|Am<|Gr (Bj C C)<|Ar<|A0 (S16 71 70 69 68 16 15 2 4 6 9 22 23 24 48 49 50 C C C C C C C C C C C C C C C C)<|Ay<|Al C (λai=>?_)<|λai=>?_
      ·refine Bc (Ao<|A0 (S15 70 69 68 16 15 2 4 6 9 22 23 24 48 49 50 C C C C C C C C C C C C C C C)<|Ay<|A8<|Am<|Gr (A2 (α:=P0) (xs:=([⟨170,aa,0⟩,⟨171,aa,3⟩,⟨172,aa,6⟩,⟨173,aa,10⟩]:List P0)) Ce W5 C C A5 om om)<|Gr (Cc (α:=P0) (xs:=([⟨170,aa,0⟩,⟨171,aa,3⟩,⟨172,aa,6⟩,⟨173,aa,10⟩]:List P0)) (u:= .iface 172 (.pointer<|some ⟨aa,6,none⟩)) W5 C A5 dc (show (2:Int)<((4:Nat):Int) by decide) C)<|Ga C<|Ar<|A0 (S16 18 70 69 68 16 15 2 4 6 9 22 23 24 48 49 50 C C C C C C C C C C C C C C C C)<|Am<|Gm C<|Gf L6 C<|Gl ef ?_)
       refine Gf H6 C<|Gl ef ?_
       refine Gm C<|G.e (D0 c_ C (λw=>by kernel_rfl) C C<|Cl (J:=e8 aa (px nd (z8 Pt.lt M<|j4 cc.u cc.v) a4 aw ay a1 (z8 Pt.lt M<|j4 cc.u cc.v) a7 a5 bb a6 M pz.e3.a pz.e3.c pz.n3.a pz.n3.c M pz.e4.a pz.e4.c pz.n4.a pz.n4.c) 169::vk 3 bb a6 (j5 nd<|z8 Pt.lt M<|j4 cc.u cc.v)::vk 105 a7 a5 (z8 Pt.lt M<|j4 cc.u cc.v)::vk 3 ay a1 (j9 nd<|z8 Pt.lt M<|j4 cc.u cc.v)::vk 105 a4 aw (z8 Pt.lt M<|j4 cc.u cc.v)::vc 117 (.slice av 4 4) (([⟨170,aa,0⟩,⟨171,aa,3⟩,⟨172,aa,6⟩,⟨173,aa,10⟩]:List P0))::e8 ap (ez cc) 54::e8 be [e7 nd,.slice ae (ep X1 xe).length ah] 35::vk 82 ae ah (ep X1 xe)::vk 54 ab ad (P4 X1 xe)::e8 b7 [e7 nd,.slice an (j8 X1).length ao] 38::vk 105 an ao (j8 X1)::e8 b4 (ez xe) 54::e8 b2 zk 47::e8 b1 (ky kd wd mo bd lt mr wa wn wc nd ae (ep X1 xe).length ah (j8 X) pv tm) 47::(Z++I)) Az<|fg1 (b:=aa) (As aq) (A4 ar.e3) (A4 ar.n3) aj.ok aj.ends bt) ?_
       rintro _ _ ⟨_,_,⟨bi,bo,bj,bm,rfl,rfl⟩,rfl,rfl⟩
       refine Ga C<|Ar<|A0 (S16 19 70 69 68 16 15 2 4 6 9 22 23 24 48 49 50 C C C C C C C C C C C C C C C C)<|Am<|Gm C<|Gr (Ci C C)<|Ar<|A0 (S17 82 19 70 69 68 16 15 2 4 6 9 22 23 24 48 49 50 C C C C C C C C C C C C C C C C C)<|Al C (λak=>?_)<|λak=>?_
       ·exact absurd ak dc
       refine Bc<|Av<|Ao<|A0 (S15 70 69 68 16 15 2 4 6 9 22 23 24 48 49 50 C C C C C C C C C C C C C C C)<|Ba<|Gr (Rad C C)<|Gm C<|Bs<|De (n:=1)<|A0 (L':=[(70,e7 3),(69,e7 ((4:Nat):Int)),(68,.slice av 4 4),(16,.bool<|decide<|cc.kd=1),(15,pt ap),(2,pt b1),(4,pt b2),(6,pt aa),(9,pt b7),(22,.slice ea evs.length ec),(23,e7 ((evs.length:Nat):Int)),(24,e7<|(i:Int)),(48,.slice ab (P4 X1 xe).length ad),(49,e7<|(((P4 X1 xe).length:Nat):Int)),(50,e7<|(j:Int))]) (cx4<|cx4<|cx4<|cx2<|Aa C Bb)<|Am<|Gr (Bj C C)<|Ar<|A0 (S16 71 70 69 68 16 15 2 4 6 9 22 23 24 48 49 50 C C C C C C C C C C C C C C C C)<|Ay<|Al C (λai=>?_)<|λai=>?_
       ·refine Bc (Ao<|A0 (S15 70 69 68 16 15 2 4 6 9 22 23 24 48 49 50 C C C C C C C C C C C C C C C)<|Ay<|A8<|Am<|Gr (A2 (α:=P0) (xs:=([⟨170,aa,0⟩,⟨171,aa,3⟩,⟨172,aa,6⟩,⟨173,aa,10⟩]:List P0)) Ce W5 C C A5 om om)<|Gr (Cc (α:=P0) (xs:=([⟨170,aa,0⟩,⟨171,aa,3⟩,⟨172,aa,6⟩,⟨173,aa,10⟩]:List P0)) (u:= .iface 173 (.pointer<|some ⟨aa,10,none⟩)) W5 C A5 dc (show (3:Int)<((4:Nat):Int) by decide) C)<|Ga C<|Ar<|A0 (S16 18 70 69 68 16 15 2 4 6 9 22 23 24 48 49 50 C C C C C C C C C C C C C C C C)<|Am<|Gm C<|Gf L6 C<|Gl ef ?_)
        refine Gf H6 C<|Gl ef ?_
        refine Gm C<|G.e (D0 c_ C (λw=>by kernel_rfl) C C<|Cl (J:=e8 aa (px nd (z8 Pt.lt M<|j4 cc.u cc.v) a4 aw ay a1 (z8 Pt.lt M<|j4 cc.u cc.v) a7 a5 bb a6 (z8 Pt.lt M<|j4 cc.u cc.v) bi bo bj bm M pz.e4.a pz.e4.c pz.n4.a pz.n4.c) 169::vk 3 bj bm (H7 nd<|z8 Pt.lt M<|j4 cc.u cc.v)::vk 105 bi bo (z8 Pt.lt M<|j4 cc.u cc.v)::vk 3 bb a6 (j5 nd<|z8 Pt.lt M<|j4 cc.u cc.v)::vk 105 a7 a5 (z8 Pt.lt M<|j4 cc.u cc.v)::vk 3 ay a1 (j9 nd<|z8 Pt.lt M<|j4 cc.u cc.v)::vk 105 a4 aw (z8 Pt.lt M<|j4 cc.u cc.v)::vc 117 (.slice av 4 4) (([⟨170,aa,0⟩,⟨171,aa,3⟩,⟨172,aa,6⟩,⟨173,aa,10⟩]:List P0))::e8 ap (ez cc) 54::e8 be [e7 nd,.slice ae (ep X1 xe).length ah] 35::vk 82 ae ah (ep X1 xe)::vk 54 ab ad (P4 X1 xe)::e8 b7 [e7 nd,.slice an (j8 X1).length ao] 38::vk 105 an ao (j8 X1)::e8 b4 (ez xe) 54::e8 b2 zk 47::e8 b1 (ky kd wd mo bd lt mr wa wn wc nd ae (ep X1 xe).length ah (j8 X) pv tm) 47::(Z++I)) Az<|fg0 (b:=aa) (As aq) (A4 ar.e4) (A4 ar.n4) aj.ok aj.ends bt<|A6 hT Ah) ?_
        rintro _ _ ⟨_,_,⟨b9,cb,b8,bw,rfl,rfl⟩,rfl,rfl⟩
        refine Ga C<|Ar<|A0 (S16 19 70 69 68 16 15 2 4 6 9 22 23 24 48 49 50 C C C C C C C C C C C C C C C C)<|Am<|Gm C<|Gr (Ci C C)<|Ar<|A0 (S17 82 19 70 69 68 16 15 2 4 6 9 22 23 24 48 49 50 C C C C C C C C C C C C C C C C C)<|Al C (λak=>?_)<|λak=>?_
        ·exact absurd ak dc
        refine Bc<|Av<|Ao<|A0 (S15 70 69 68 16 15 2 4 6 9 22 23 24 48 49 50 C C C C C C C C C C C C C C C)<|Ba<|Gr (Rad C C)<|Gm C<|Bs<|De (n:=0)<|A0 (L':=[(70,e7 4),(69,e7 ((4:Nat):Int)),(68,.slice av 4 4),(16,.bool<|decide<|cc.kd=1),(15,pt ap),(2,pt b1),(4,pt b2),(6,pt aa),(9,pt b7),(22,.slice ea evs.length ec),(23,e7 ((evs.length:Nat):Int)),(24,e7<|(i:Int)),(48,.slice ab (P4 X1 xe).length ad),(49,e7<|(((P4 X1 xe).length:Nat):Int)),(50,e7<|(j:Int))]) (cx4<|cx4<|cx4<|cx2<|Aa C Bb)<|Am<|Gr (Bj C C)<|Ar<|A0 (S16 71 70 69 68 16 15 2 4 6 9 22 23 24 48 49 50 C C C C C C C C C C C C C C C C)<|Ay<|Al C (λai=>?_)<|λai=>?_
        ·exact absurd ai dc
        exact Ck<|Aw<|Aw<|Bi<|Av<|Ao<|A0 (S10 2 4 6 9 22 23 24 48 49 50)<|Ba<|Gr (Rad C C)<|Gm C<|Bs<|Bt ((j+1),((z8 Pt.lt M<|j4 cc.u cc.v)),(⟨⟨a4,aw⟩,⟨ay,a1⟩,⟨a7,a5⟩,⟨bb,a6⟩,⟨bi,bo⟩,⟨bj,bm⟩,⟨b9,cb⟩,⟨b8,bw⟩⟩),((vk 3 b8 bw (r9 nd<|z8 Pt.lt M<|j4 cc.u cc.v)::vk 105 b9 cb (z8 Pt.lt M<|j4 cc.u cc.v)::vk 3 bj bm (H7 nd<|z8 Pt.lt M<|j4 cc.u cc.v)::vk 105 bi bo (z8 Pt.lt M<|j4 cc.u cc.v)::vk 3 bb a6 (j5 nd<|z8 Pt.lt M<|j4 cc.u cc.v)::vk 105 a7 a5 (z8 Pt.lt M<|j4 cc.u cc.v)::vk 3 ay a1 (j9 nd<|z8 Pt.lt M<|j4 cc.u cc.v)::vk 105 a4 aw (z8 Pt.lt M<|j4 cc.u cc.v)::Z))) (by dsimp only;exact ⟨om,(by rw [bs6 om,←bp,hcc,ga0 aq cj]),⟨A5,A5,A5,A5,A5,A5,A5,A5⟩⟩) (hI:=by (try dsimp only);exact Az)
       exact absurd dc ai
      exact absurd dc ai
     exact absurd dc ai
    exact absurd dc ai
   refine eb<|eb<|eb<|eb<|eb<|eb<|eb<|Gr (Bq C C)<|Ar<|A0 (S13 66 16 15 2 4 6 9 22 23 24 48 49 50)<|W.no C<|Bc<|Ao<|Am<|Gm C<|G.e (Ac c_ C C dr8) ?_
   rintro _ _ ⟨_,_,⟨au,rfl,rfl⟩,rfl,rfl⟩
   refine Gr (Bl Ce C)<|Gm C<|Ar<|A0 (S15 70 69 68 16 15 2 4 6 9 22 23 24 48 49 50 C C C C C C C C C C C C C C C)<|A8<|W.rounds 5 ?_
   refine De (n:=4)<|A0 (L':=[(70,e7 0),(69,e7 ((4:Nat):Int)),(68,.slice au 4 4),(16,.bool<|decide<|cc.kd=1),(15,pt ap),(2,pt b1),(4,pt b2),(6,pt aa),(9,pt b7),(22,.slice ea evs.length ec),(23,e7 ((evs.length:Nat):Int)),(24,e7<|(i:Int)),(48,.slice ab (P4 X1 xe).length ad),(49,e7<|(((P4 X1 xe).length:Nat):Int)),(50,e7<|(j:Int))]) (cx4<|cx4<|cx4<|cx2<|Aa C Bb)<|Am<|Gr (Bj C C)<|Ar<|A0 (S16 71 70 69 68 16 15 2 4 6 9 22 23 24 48 49 50 C C C C C C C C C C C C C C C C)<|Ay<|Al C (λai=>?_)<|λai=>?_
   ·refine Bc (Ao<|A0 (S15 70 69 68 16 15 2 4 6 9 22 23 24 48 49 50 C C C C C C C C C C C C C C C)<|Ay<|A8<|Am<|Gr (A2 (α:=P0) (xs:=([⟨170,aa,0⟩,⟨171,aa,3⟩,⟨172,aa,6⟩,⟨173,aa,10⟩]:List P0)) Ce W5 C C A5 om om)<|Gr (Cc (α:=P0) (xs:=([⟨170,aa,0⟩,⟨171,aa,3⟩,⟨172,aa,6⟩,⟨173,aa,10⟩]:List P0)) (u:= .iface 170 (pt aa)) W5 C A5 dc (show (0:Int)<((4:Nat):Int) by decide) C)<|Ga C<|Ar<|A0 (S16 18 70 69 68 16 15 2 4 6 9 22 23 24 48 49 50 C C C C C C C C C C C C C C C C)<|Am<|Gm C<|Gf L6 C<|Gl ef ?_)
    refine Gf H6 C<|Gl ef ?_
    refine Gm C<|G.e (D0 c_ C (λw=>by kernel_rfl) C C<|Cl (J:=e8 aa (pq nd M pz) 169::vc 117 (.slice au 4 4) (([⟨170,aa,0⟩,⟨171,aa,3⟩,⟨172,aa,6⟩,⟨173,aa,10⟩]:List P0))::e8 ap (ez cc) 54::e8 be [e7 nd,.slice ae (ep X1 xe).length ah] 35::vk 82 ae ah (ep X1 xe)::vk 54 ab ad (P4 X1 xe)::e8 b7 [e7 nd,.slice an (j8 X1).length ao] 38::vk 105 an ao (j8 X1)::e8 b4 (ez xe) 54::e8 b2 zk 47::e8 b1 (ky kd wd mo bd lt mr wa wn wc nd ae (ep X1 xe).length ah (j8 X) pv tm) 47::(Z++I)) Az<|fg7 (b:=aa) (D_ aq) (A4 ar.e1) (A4 ar.n1) aj.ok aj.ends (aj.cut aq)<|A6 hT Ah) ?_
    rintro _ _ ⟨_,_,⟨a3,ax,a0,az,rfl,rfl⟩,rfl,rfl⟩
    refine Ga C<|Ar<|A0 (S16 19 70 69 68 16 15 2 4 6 9 22 23 24 48 49 50 C C C C C C C C C C C C C C C C)<|Am<|Gm C<|Gr (Ci C C)<|Ar<|A0 (S17 82 19 70 69 68 16 15 2 4 6 9 22 23 24 48 49 50 C C C C C C C C C C C C C C C C C)<|Al C (λak=>?_)<|λak=>?_
    ·exact absurd ak dc
    refine Bc<|Av<|Ao<|A0 (S15 70 69 68 16 15 2 4 6 9 22 23 24 48 49 50 C C C C C C C C C C C C C C C)<|Ba<|Gr (Rad C C)<|Gm C<|Bs<|De (n:=3)<|A0 (L':=[(70,e7 1),(69,e7 ((4:Nat):Int)),(68,.slice au 4 4),(16,.bool<|decide<|cc.kd=1),(15,pt ap),(2,pt b1),(4,pt b2),(6,pt aa),(9,pt b7),(22,.slice ea evs.length ec),(23,e7 ((evs.length:Nat):Int)),(24,e7<|(i:Int)),(48,.slice ab (P4 X1 xe).length ad),(49,e7<|(((P4 X1 xe).length:Nat):Int)),(50,e7<|(j:Int))]) (cx4<|cx4<|cx4<|cx2<|Aa C Bb)<|Am<|Gr (Bj C C)<|Ar<|A0 (S16 71 70 69 68 16 15 2 4 6 9 22 23 24 48 49 50 C C C C C C C C C C C C C C C C)<|Ay<|Al C (λai=>?_)<|λai=>?_
    ·refine Bc (Ao<|A0 (S15 70 69 68 16 15 2 4 6 9 22 23 24 48 49 50 C C C C C C C C C C C C C C C)<|Ay<|A8<|Am<|Gr (A2 (α:=P0) (xs:=([⟨170,aa,0⟩,⟨171,aa,3⟩,⟨172,aa,6⟩,⟨173,aa,10⟩]:List P0)) Ce W5 C C A5 om om)<|Gr (Cc (α:=P0) (xs:=([⟨170,aa,0⟩,⟨171,aa,3⟩,⟨172,aa,6⟩,⟨173,aa,10⟩]:List P0)) (u:= .iface 171 (.pointer<|some ⟨aa,3,none⟩)) W5 C A5 dc (show (1:Int)<((4:Nat):Int) by decide) C)<|Ga C<|Ar<|A0 (S16 18 70 69 68 16 15 2 4 6 9 22 23 24 48 49 50 C C C C C C C C C C C C C C C C)<|Am<|Gm C<|Gf L6 C<|Gl ef ?_)
     refine Gf H6 C<|Gl ef ?_
     refine Gm C<|G.e (D0 c_ C (λw=>by kernel_rfl) C C<|Cl (J:=e8 aa (px nd (j6 M<|j4 cc.u cc.v) a3 ax a0 az M pz.e2.a pz.e2.c pz.n2.a pz.n2.c M pz.e3.a pz.e3.c pz.n3.a pz.n3.c M pz.e4.a pz.e4.c pz.n4.a pz.n4.c) 169::vk 3 a0 az (j9 nd<|j6 M<|j4 cc.u cc.v)::vk 105 a3 ax (j6 M<|j4 cc.u cc.v)::vc 117 (.slice au 4 4) (([⟨170,aa,0⟩,⟨171,aa,3⟩,⟨172,aa,6⟩,⟨173,aa,10⟩]:List P0))::e8 ap (ez cc) 54::e8 be [e7 nd,.slice ae (ep X1 xe).length ah] 35::vk 82 ae ah (ep X1 xe)::vk 54 ab ad (P4 X1 xe)::e8 b7 [e7 nd,.slice an (j8 X1).length ao] 38::vk 105 an ao (j8 X1)::e8 b4 (ez xe) 54::e8 b2 zk 47::e8 b1 (ky kd wd mo bd lt mr wa wn wc nd ae (ep X1 xe).length ah (j8 X) pv tm) 47::(Z++I)) Az<|fg6 (b:=aa) (D_ aq) (A4 ar.e2) (A4 ar.n2) aj.ok aj.ends (aj.cut aq)<|A6 hT Ah) ?_
     rintro _ _ ⟨_,_,⟨bc,a8,a9,ba,rfl,rfl⟩,rfl,rfl⟩
     refine Ga C<|Ar<|A0 (S16 19 70 69 68 16 15 2 4 6 9 22 23 24 48 49 50 C C C C C C C C C C C C C C C C)<|Am<|Gm C<|Gr (Ci C C)<|Ar<|A0 (S17 82 19 70 69 68 16 15 2 4 6 9 22 23 24 48 49 50 C C C C C C C C C C C C C C C C C)<|Al C (λak=>?_)<|λak=>?_
     ·exact absurd ak dc
     refine Bc<|Av<|Ao<|A0 (S15 70 69 68 16 15 2 4 6 9 22 23 24 48 49 50 C C C C C C C C C C C C C C C)<|Ba<|Gr (Rad C C)<|Gm C<|Bs<|De (n:=2)<|A0 (L':=[(70,e7 2),(69,e7 ((4:Nat):Int)),(68,.slice au 4 4),(16,.bool<|decide<|cc.kd=1),(15,pt ap),(2,pt b1),(4,pt b2),(6,pt aa),(9,pt b7),(22,.slice ea evs.length ec),(23,e7 ((evs.length:Nat):Int)),(24,e7<|(i:Int)),(48,.slice ab (P4 X1 xe).length ad),(49,e7<|(((P4 X1 xe).length:Nat):Int)),(50,e7<|(j:Int))]) (cx4<|cx4<|cx4<|cx2<|Aa C Bb)<|Am<|Gr (Bj C C)<|Ar<|A0 (S16 71 70 69 68 16 15 2 4 6 9 22 23 24 48 49 50 C C C C C C C C C C C C C C C C)<|Ay<|Al C (λai=>?_)<|λai=>?_
     ·refine Bc (Ao<|A0 (S15 70 69 68 16 15 2 4 6 9 22 23 24 48 49 50 C C C C C C C C C C C C C C C)<|Ay<|A8<|Am<|Gr (A2 (α:=P0) (xs:=([⟨170,aa,0⟩,⟨171,aa,3⟩,⟨172,aa,6⟩,⟨173,aa,10⟩]:List P0)) Ce W5 C C A5 om om)<|Gr (Cc (α:=P0) (xs:=([⟨170,aa,0⟩,⟨171,aa,3⟩,⟨172,aa,6⟩,⟨173,aa,10⟩]:List P0)) (u:= .iface 172 (.pointer<|some ⟨aa,6,none⟩)) W5 C A5 dc (show (2:Int)<((4:Nat):Int) by decide) C)<|Ga C<|Ar<|A0 (S16 18 70 69 68 16 15 2 4 6 9 22 23 24 48 49 50 C C C C C C C C C C C C C C C C)<|Am<|Gm C<|Gf L6 C<|Gl ef ?_)
      refine Gf H6 C<|Gl ef ?_
      refine Gm C<|G.e (D0 c_ C (λw=>by kernel_rfl) C C<|Cl (J:=e8 aa (px nd (j6 M<|j4 cc.u cc.v) a3 ax a0 az (j6 M<|j4 cc.u cc.v) bc a8 a9 ba M pz.e3.a pz.e3.c pz.n3.a pz.n3.c M pz.e4.a pz.e4.c pz.n4.a pz.n4.c) 169::vk 3 a9 ba (j5 nd<|j6 M<|j4 cc.u cc.v)::vk 105 bc a8 (j6 M<|j4 cc.u cc.v)::vk 3 a0 az (j9 nd<|j6 M<|j4 cc.u cc.v)::vk 105 a3 ax (j6 M<|j4 cc.u cc.v)::vc 117 (.slice au 4 4) (([⟨170,aa,0⟩,⟨171,aa,3⟩,⟨172,aa,6⟩,⟨173,aa,10⟩]:List P0))::e8 ap (ez cc) 54::e8 be [e7 nd,.slice ae (ep X1 xe).length ah] 35::vk 82 ae ah (ep X1 xe)::vk 54 ab ad (P4 X1 xe)::e8 b7 [e7 nd,.slice an (j8 X1).length ao] 38::vk 105 an ao (j8 X1)::e8 b4 (ez xe) 54::e8 b2 zk 47::e8 b1 (ky kd wd mo bd lt mr wa wn wc nd ae (ep X1 xe).length ah (j8 X) pv tm) 47::(Z++I)) Az<|fg5 (b:=aa) (D_ aq) (A4 ar.e3) (A4 ar.n3) aj.ok aj.ends<|aj.cut aq) ?_
      rintro _ _ ⟨_,_,⟨bg,bn,bk,bh,rfl,rfl⟩,rfl,rfl⟩
      refine Ga C<|Ar<|A0 (S16 19 70 69 68 16 15 2 4 6 9 22 23 24 48 49 50 C C C C C C C C C C C C C C C C)<|Am<|Gm C<|Gr (Ci C C)<|Ar<|A0 (S17 82 19 70 69 68 16 15 2 4 6 9 22 23 24 48 49 50 C C C C C C C C C C C C C C C C C)<|Al C (λak=>?_)<|λak=>?_
      ·exact absurd ak dc
      refine Bc<|Av<|Ao<|A0 (S15 70 69 68 16 15 2 4 6 9 22 23 24 48 49 50 C C C C C C C C C C C C C C C)<|Ba<|Gr (Rad C C)<|Gm C<|Bs<|De (n:=1)<|A0 (L':=[(70,e7 3),(69,e7 ((4:Nat):Int)),(68,.slice au 4 4),(16,.bool<|decide<|cc.kd=1),(15,pt ap),(2,pt b1),(4,pt b2),(6,pt aa),(9,pt b7),(22,.slice ea evs.length ec),(23,e7 ((evs.length:Nat):Int)),(24,e7<|(i:Int)),(48,.slice ab (P4 X1 xe).length ad),(49,e7<|(((P4 X1 xe).length:Nat):Int)),(50,e7<|(j:Int))]) (cx4<|cx4<|cx4<|cx2<|Aa C Bb)<|Am<|Gr (Bj C C)<|Ar<|A0 (S16 71 70 69 68 16 15 2 4 6 9 22 23 24 48 49 50 C C C C C C C C C C C C C C C C)<|Ay<|Al C (λai=>?_)<|λai=>?_
      ·refine Bc (Ao<|A0 (S15 70 69 68 16 15 2 4 6 9 22 23 24 48 49 50 C C C C C C C C C C C C C C C)<|Ay<|A8<|Am<|Gr (A2 (α:=P0) (xs:=([⟨170,aa,0⟩,⟨171,aa,3⟩,⟨172,aa,6⟩,⟨173,aa,10⟩]:List P0)) Ce W5 C C A5 om om)<|Gr (Cc (α:=P0) (xs:=([⟨170,aa,0⟩,⟨171,aa,3⟩,⟨172,aa,6⟩,⟨173,aa,10⟩]:List P0)) (u:= .iface 173 (.pointer<|some ⟨aa,10,none⟩)) W5 C A5 dc (show (3:Int)<((4:Nat):Int) by decide) C)<|Ga C<|Ar<|A0 (S16 18 70 69 68 16 15 2 4 6 9 22 23 24 48 49 50 C C C C C C C C C C C C C C C C)<|Am<|Gm C<|Gf L6 C<|Gl ef ?_)
       refine Gf H6 C<|Gl ef ?_
       refine Gm C<|G.e (D0 c_ C (λw=>by kernel_rfl) C C<|Cl (J:=e8 aa (px nd (j6 M<|j4 cc.u cc.v) a3 ax a0 az (j6 M<|j4 cc.u cc.v) bc a8 a9 ba (j6 M<|j4 cc.u cc.v) bg bn bk bh M pz.e4.a pz.e4.c pz.n4.a pz.n4.c) 169::vk 3 bk bh (H7 nd<|j6 M<|j4 cc.u cc.v)::vk 105 bg bn (j6 M<|j4 cc.u cc.v)::vk 3 a9 ba (j5 nd<|j6 M<|j4 cc.u cc.v)::vk 105 bc a8 (j6 M<|j4 cc.u cc.v)::vk 3 a0 az (j9 nd<|j6 M<|j4 cc.u cc.v)::vk 105 a3 ax (j6 M<|j4 cc.u cc.v)::vc 117 (.slice au 4 4) (([⟨170,aa,0⟩,⟨171,aa,3⟩,⟨172,aa,6⟩,⟨173,aa,10⟩]:List P0))::e8 ap (ez cc) 54::e8 be [e7 nd,.slice ae (ep X1 xe).length ah] 35::vk 82 ae ah (ep X1 xe)::vk 54 ab ad (P4 X1 xe)::e8 b7 [e7 nd,.slice an (j8 X1).length ao] 38::vk 105 an ao (j8 X1)::e8 b4 (ez xe) 54::e8 b2 zk 47::e8 b1 (ky kd wd mo bd lt mr wa wn wc nd ae (ep X1 xe).length ah (j8 X) pv tm) 47::(Z++I)) Az<|fg4 (b:=aa) (D_ aq) (A4 ar.e4) (A4 ar.n4) aj.ok aj.ends (aj.cut aq)<|A6 hT Ah) ?_
       rintro _ _ ⟨_,_,⟨b3,bv,ca,b5,rfl,rfl⟩,rfl,rfl⟩
       refine Ga C<|Ar<|A0 (S16 19 70 69 68 16 15 2 4 6 9 22 23 24 48 49 50 C C C C C C C C C C C C C C C C)<|Am<|Gm C<|Gr (Ci C C)<|Ar<|A0 (S17 82 19 70 69 68 16 15 2 4 6 9 22 23 24 48 49 50 C C C C C C C C C C C C C C C C C)<|Al C (λak=>?_)<|λak=>?_
       ·exact absurd ak dc
       refine Bc<|Av<|Ao<|A0 (S15 70 69 68 16 15 2 4 6 9 22 23 24 48 49 50 C C C C C C C C C C C C C C C)<|Ba<|Gr (Rad C C)<|Gm C<|Bs<|De (n:=0)<|A0 (L':=[(70,e7 4),(69,e7 ((4:Nat):Int)),(68,.slice au 4 4),(16,.bool<|decide<|cc.kd=1),(15,pt ap),(2,pt b1),(4,pt b2),(6,pt aa),(9,pt b7),(22,.slice ea evs.length ec),(23,e7 ((evs.length:Nat):Int)),(24,e7<|(i:Int)),(48,.slice ab (P4 X1 xe).length ad),(49,e7<|(((P4 X1 xe).length:Nat):Int)),(50,e7<|(j:Int))]) (cx4<|cx4<|cx4<|cx2<|Aa C Bb)<|Am<|Gr (Bj C C)<|Ar<|A0 (S16 71 70 69 68 16 15 2 4 6 9 22 23 24 48 49 50 C C C C C C C C C C C C C C C C)<|Ay<|Al C (λai=>?_)<|λai=>?_
       ·exact absurd ai dc
       exact Ck<|Aw<|Aw<|Bi<|Av<|Ao<|A0 (S10 2 4 6 9 22 23 24 48 49 50)<|Ba<|Gr (Rad C C)<|Gm C<|Bs<|Bt ((j+1),((j6 M<|j4 cc.u cc.v)),(⟨⟨a3,ax⟩,⟨a0,az⟩,⟨bc,a8⟩,⟨a9,ba⟩,⟨bg,bn⟩,⟨bk,bh⟩,⟨b3,bv⟩,⟨ca,b5⟩⟩),((vk 3 ca b5 (r9 nd<|j6 M<|j4 cc.u cc.v)::vk 105 b3 bv (j6 M<|j4 cc.u cc.v)::vk 3 bk bh (H7 nd<|j6 M<|j4 cc.u cc.v)::vk 105 bg bn (j6 M<|j4 cc.u cc.v)::vk 3 a9 ba (j5 nd<|j6 M<|j4 cc.u cc.v)::vk 105 bc a8 (j6 M<|j4 cc.u cc.v)::vk 3 a0 az (j9 nd<|j6 M<|j4 cc.u cc.v)::vk 105 a3 ax (j6 M<|j4 cc.u cc.v)::Z))) (by dsimp only;exact ⟨om,(by rw [bs6 om,←bp,hcc,ga2 aq]),⟨A5,A5,A5,A5,A5,A5,A5,A5⟩⟩) (hI:=by (try dsimp only);exact Az)
      exact absurd dc ai
     exact absurd dc ai
    exact absurd dc ai
   exact absurd dc ai
  refine Ck<|Aw<|Aw<|Bi<|Av<|Ao<|Ba<|Gr (Rad C C)<|Gm C<|Bs ?_
  have bu:M=j8 (ep X1 xe):=by rw [bp,show j=(P4 X1 xe).length by omega];exact ga1 bf bq
  exact Bt ((i+1),(ep X1 xe),(⟨ae,ah⟩),(pz),((vk 82 ae ah (ep X1 xe)::Z))) (by dsimp only;exact ⟨om,(by rw [Ca evs i om,Hf,←hX,hxe];rfl),(J5 bf bq),(Cy<|Gk _ A_),(by rw [←bu];exact br.fit<|Fb<|Dd _)⟩) (hI:=by (try dsimp only);exact (by rw [←bu];exact Az))
 refine Ck<|Aw<|Aw<|Bi<|Ao<|Ay<|A9 mixed<|Bx (e8 aa (pq nd (j8 X1) pw) 169::e8 b2 zk 47::(Y++I)) 28<|Dr 0 C (Aq C)<|Dr 1 C (Ee C)<|Dr 2 C (Af cn8 C)<|Dr 3 C (Af co2 C)<|Dr 4 C (Bm (vs:=[_,_,_]) ab6) ?_
 refine Dr 5 C (Aq C)<|Dr 6 C (Ee C)<|Dr 7 C (Af cn7 C)<|Dr 8 C (Af co1 C)<|Dr 9 C (Bm (vs:=[_,_,_]) L5) ?_
 refine Dr 10 C (Aq C)<|Dr 11 C (Ee C)<|Dr 12 C (Af cn6 C)<|Dr 13 C (Af co0 C)<|Dr 14 C (Bm (vs:=[_,_,_,_]) ad0) ?_
 refine Dr 15 C (Aq C)<|Dr 16 C (Ee C)<|Dr 17 C (Af cn5 C)<|Dr 18 C (Af cn9 C)<|Dr 19 C (Bm (vs:=[_,_,_,_,_]) V4) ?_
 refine Dr 20 C (Af cf7 C)<|Ds1 21<|Se0 C (Br (cs:=[_,_,_,_,_,_,_,_,_,_,_,_,_,_,_,_,_,_,_,_,_,_,_,_,_]) (vs:=[_,_,_]) (cs':=[_,_,_,_,_,_,_,_,_,_,_,_,_,_,_,_,_,_,_,_,_,_,_,_,_]) ab6) ?_
 refine Dr 22 C (Af cf6 C)<|Ds1 23<|Se0 C (Br (cs:=[_,_,_,_,_,_,_,_,_,_,_,_,_,_,_,_,_,_,_,_,_,_,_,_,_]) (vs:=[_,_,_]) (cs':=[_,_,_,_,_,_,_,_,_,_,_,_,_,_,_,_,_,_,_,_,_,_,_,_,_]) L5) ?_
 refine Dr 24 C (Af cf5 C)<|Ds1 25<|Se0 C (Br (cs:=[_,_,_,_,_,_,_,_,_,_,_,_,_,_,_,_,_,_,_,_,_,_,_,_,_]) (vs:=[_,_,_,_]) (cs':=[_,_,_,_,_,_,_,_,_,_,_,_,_,_,_,_,_,_,_,_,_,_,_,_,_]) ad0) ?_
 refine Dr 26 C (Af cf4 C)<|Ds1 27<|Se0 C (Br (cs:=[_,_,_,_,_,_,_,_,_,_,_,_,_,_,_,_,_,_,_,_,_,_,_,_,_]) (vs:=[_,_,_,_,_]) (cs':=[_,_,_,_,_,_,_,_,_,_,_,_,_,_,_,_,_,_,_,_,_,_,_,_,_]) V4) ?_
 refine Dz<|Ao<|A0 (S2 2 4)<|Am<|Gr (j7.lj H3) ?_
 refine Ge0 (Eff.sq H3) ?_
 refine Ga C<|Ar<|B2 ?_
 have co:X1=(evs.foldl ep X):=by rw [hX,Fx om]
 subst co
 exact Co C H3 C C mm C ((Y++I)) Ah ⟨lw,pw,Y,rfl,cg,cd,rfl⟩
end Go.Sl
namespace Go.Sl
open Go.Proofs
set_option maxRecDepth 4000
variable{last nw:Int}{κ:Ctx}{I:List Item}{ad ae ah ai aj ak an ao ap aq ar au x3 x4 x5 x6 x9:Value}
attribute [local irreducible] W G V D A j7 Eff
section
variable {nd kd wd mo T:Int}{X X1:List Lk}{o:List Ev}{e:Ev}
theorem dv8(hv:p9 nd X1=0)(hw:s7 kd wd mo=0)(hT:T<=1048576)(h:0<(P3 kd wd mo T X1).length) :
  R5 kd wd mo T (X1,o)=R5 kd wd mo T ((P3 kd wd mo T X1).foldl ep X1,o++P3 kd wd mo T X1)/\((P3 kd wd mo T X1).foldl ep X1).length<X1.length/\p9 nd ((P3 kd wd mo T X1).foldl ep X1)=0/\(∀x∈P3 kd wd mo T X1,J1 nd x)/\(o++P3 kd wd mo T X1).length+((P3 kd wd mo T X1).foldl ep X1).length=o.length+X1.length:=by
 have M:=ck9.1 h
 have hk:=M.1
 subst hk
 have he:P3 2 wd mo T X1=s6 2 wd mo (ab4 X1+wd) X1:=by unfold P3;rw [B_ M]
 have hs:=ae1 (kd:=2) (wd:=wd) (mo:=mo) (nw:=ab4 X1+wd) hv
 have hl:=af8 2 wd mo (ab4 X1+wd) X1
 have aa:=at2 (wd:=wd) (mo:=mo) M.2.1
 have ad:=at0 hw
 obtain ⟨⟨x,hx,e0⟩,_⟩:=T1 M.2.1
 have ab:=cv3 hv x hx
 rw [he,hs]
 refine ⟨?_,aa,bm3 hv,ak9 hv om,by rw [By];omega⟩
 unfold R5
 rw [B_ rfl,B_ rfl]
 exact ae3 M.2
theorem fm3(h:¬0<(P3 kd wd mo T X1).length):R5 kd wd mo T (X1,o)=(X1,o):=by
 unfold R5
 by_cases hk:kd=2
 ·rw [B_ hk]
  exact Q3 λq=>h<|ck9.2 ⟨hk,q⟩
 rw [An hk]
theorem step_end(M:R5 kd wd mo e.tm (X,[])=(X1,o))(hk:¬kd=3):q7 kd wd mo (X,[]) e=(ep X1 e,o++[e]):=by
 unfold q7 ds5
 rw [M,An hk]
theorem bw2(M:R5 kd wd mo e.tm (X,[])=(X1,o))(hk:kd=3)(hv:p9 nd (ep X1 e)=0):q7 kd wd mo (X,[]) e=((s6 kd wd mo e.tm (ep X1 e)).foldl ep (ep X1 e),o++[e]++s6 kd wd mo e.tm (ep X1 e)):=by
 unfold q7 ds5
 rw [M,B_ hk,ae1 hv]
theorem fb3(hw:s7 kd wd mo=0)(hv:p9 nd X=0)(hn:0<=nw/\nw<=1048576)(ht:∀x∈X,x.tm<=nw):ac8 nd X kd wd mo nw=0:=by
 unfold ac8
 rw [An om,An om,An]
 rintro (h|h|h)
 ·omega
 ·omega
 obtain ⟨x,M,h2⟩:=Kd.1 h
 have:=ht x M
 have:=Fs h2
 omega
theorem fp5(h:∀x∈X,x.tm<=last)(hv:p9 nd X=0)(hk:¬kd=2)(M:R5 kd wd mo T (X,[])=(X1,o)):X1=X:=by
 unfold R5 at M
 rw [An hk] at M
 exact (Prod.mk.inj M).1.symm
theorem fk5(h:∀x∈X,x.tm<=last)(M:last<=e.tm):∀x∈ep X e,x.tm<=e.tm:=λx hx=>by
 unfold ep at hx
 split at hx
 ·rcases ba1 hx with rfl|hx
  ·exact Hn _
  have:=h x hx;omega
 have:=h x (Gj.1 hx).1;omega
end
theorem fj1{nd kd wd mo tq:Int}{la:Option Addr}{lc:Nat}{X:List Lk}{aw av ax:Value}(hl:Sl κ I (.slice la X.length lc) X)(hv:p9 nd X=0)(hw:s7 kd wd mo=0)(ht:0<=tq/\tq<=1048576):eu Tryz.prog κ 124 [.agg #[e7 kd,e7 wd,e7 mo,x3,x4,x5,x6,e7 nd,.slice la X.length lc,x9,au,aw,av,ah,ad,ae,aq,ar,ap,ax,ai,aj,ao,ak,an],e7 tq] I (λr J=>∃(a:Option Addr) (c:Nat),r = .slice a (P3 kd wd mo tq X).length c/\J=vk 54 a c (P3 kd wd mo tq X)::I):=by
 have ba:=at0 hw
 have a3:=q9 (G2 hv)
 rw [G7] at a3
 refine Ce2 Tryz.func124 C C ?_
 refine Am<|Ge1 (Au (cs:=[_,_,_,_,_,_,_,_,_,_,_,_,_,_,_,_,_,_,_,_,_,_,_,_,_]) C C C) λb1=>Z ?_
 refine Al C (λc13=>Z ?_)<|λc13=>Z ?_
 ·have hE:(P3 kd wd mo tq X)=[]:=dv9 c13
  exact Ak C C (vk 54 none 0 (P3 kd wd mo tq X)::I) (by unfold vk;rw [hE];exact (A7 (show Fit κ _ I from Az)<|B6 (α:=Ev) _ _)) ⟨none,0,by rw [hE]<;>rfl,rfl⟩
 refine B9 (σ:=Nat×Int×(Option Addr)×Nat×(List Ev)) (λs=>([(1,e7 tq),(2,pt b1),(5,e7<|s.2.1),(6,.slice s.2.2.1 s.2.2.2.2.length s.2.2.2.1),(18,.slice la X.length lc),(19,e7 ((X.length:Nat):Int)),(20,e7 ((s.1:Nat):Int))]:Env)) (λs=>vk 54 s.2.2.1 s.2.2.2.1 s.2.2.2.2::e8 b1 [e7 kd,e7 wd,e7 mo,x3,x4,x5,x6,e7 nd,.slice la X.length lc,x9,au,aw,av,ah,ad,ae,aq,ar,ap,ax,ai,aj,ao,ak,an] 47::I) (λs=>(s.1<=X.length)/\(ch9 wd tq (X.take s.1) s.2.1 s.2.2.2.2)/\(s.2.2.2.2.length<=s.1)) (λs=>X.length - s.1) (0,tq+1,none,0,[]) ⟨om,ch9.zero,(by simp)⟩ (cx2<|Aa Cn<|Aa (Db C<|by first|rfl|simp)<|cx2<|Aa Cn Bb) (A7 (show Fit κ _ _ from Az)<|B6 (α:=Ev) _ _) ?_
 rintro ⟨k,tt,oa,oc,out⟩ hp
 dsimp only at hp ⊢
 obtain ⟨hk,ho,a9⟩:=hp
 have a5:=ho.le
 refine Z ?_
 refine Al C (λa4=>Z ?_)<|λa4=>Z ?_
 ·have a6:=bf9 hv (k:Int) om om
  refine Ge1 (Aj J7 C) λb2=>Ge0 (Fl J7)<|Z ?_
  refine Al C (λM=>Z ?_)<|λM=>Z ?_
  ·refine A1 (d:=37) C (λaa=>Z ?_) (λaa=>?_)
   ·refine Al C (λab=>Z ?_) (λab=>?_)
    ·refine Ge1 (B0 (α:=Ev) (cs:=[e7 2,e7<|((e_ X k).tm)+wd,e7<|(e_ X k).u,e7<|(e_ X k).v,e7 0,e7 0,e7 0]) (xs:=[⟨2,((e_ X k).tm)+wd,(e_ X k).u,(e_ X k).v,0,0,0⟩]) Ad z6 C C dc dc C kr C C) λa7=>?_
     refine Ge2 (E8 (α:=Ev) (ys:=([⟨2,((e_ X k).tm)+wd,(e_ X k).u,(e_ X k).v,0,0,0⟩]:List Ev)) Ad z6 C C C A5 lcn dc C) λa0 az=>Z ?_
     exact Bt ((k+1),(((e_ X k).tm)+wd),(a0),(az),(([⟨2,((e_ X k).tm)+wd,(e_ X k).u,(e_ X k).v,0,0,0⟩]:List Ev)))<|by dsimp only;exact ⟨om,(by rw [Ca X k om];first|exact ho.less M|exact ho.eq aa om|exact ho.no M om),olp⟩
    omega
   exact absurd rfl aa
  refine A1 (d:=37) C (λaa=>Z ?_)<|λaa=>Z ?_
  ·refine Al C (λab=>Z ?_) (λab=>Z ?_)
   ·refine Ge1 (B0 (α:=Ev) (cs:=[e7 2,e7<|((e_ X k).tm)+wd,e7<|(e_ X k).u,e7<|(e_ X k).v,e7 0,e7 0,e7 0]) (xs:=[⟨2,((e_ X k).tm)+wd,(e_ X k).u,(e_ X k).v,0,0,0⟩]) Ad z6 C C dc dc C kr C C) λa8=>?_
    refine Ge2 (Bp (α:=Ev) (e:=54) (xs:=out) (ys:=([⟨2,((e_ X k).tm)+wd,(e_ X k).u,(e_ X k).v,0,0,0⟩]:List Ev)) Ad z6 C C C mm A5 lcn dc C<|λ_ _=>am) λa1 ay=>Z ?_
    exact Bt ((k+1),(tt),(a1),(ay),(out++([⟨2,((e_ X k).tm)+wd,(e_ X k).u,(e_ X k).v,0,0,0⟩]:List Ev)))<|by dsimp only;exact ⟨om,(by rw [Ca X k om];first|exact ho.less M|exact ho.eq aa om|exact ho.no M om),olp⟩
   exact Bt ((k+1),(tt),(oa),(oc),(out))<|by dsimp only;exact ⟨om,(by rw [Ca X k om];first|exact ho.less M|exact ho.eq aa om|exact ho.no M om),olp⟩
  exact Bt ((k+1),(tt),(oa),(oc),(out))<|by dsimp only;exact ⟨om,(by rw [Ca X k om];first|exact ho.less M|exact ho.eq aa om|exact ho.no M om),olp⟩
 have hE:out=(P3 kd wd mo tq X):=by rw [show X.take k=X from Fx om] at ho;exact ho.all om
 exact Ak C C (vk 54 oa oc (P3 kd wd mo tq X)::I) (by unfold vk;rw [←hE];exact Az) ⟨oa,oc,by rw [←hE],rfl⟩
theorem bt8{nd:Int}{e:Ev}{x0 x1 x2 x8 ab M aa:Value}(hx:J1 nd e):eu Tryz.prog κ 46 [.agg #[x0,x1,x2,x3,x4,x5,x6,e7 nd,x8,x9,ao,ar,ap,ab,M,aa,aq,an,ak,au,ad,ae,aj,ah,ai],.agg (ez e).toArray] I (λr J=>r = .bool true/\I=J):=by
 refine Ce2 Tryz.func46 C C ?_
 refine Am<|Ge1 (Au (cs:=[_,_,_,_,_,_,_,_,_,_,_,_,_,_,_,_,_,_,_,_,_,_,_,_,_]) C C C) λb1=>Ge1 (Au (cs:=[_,_,_,_,_,_,_]) C C C) λb2=>Z ?_
 have hf:=hx.fits
 exact Ak C C I Ah ⟨by rw [As];split<;>omega,rfl⟩
theorem ci4{nd kd wd mo:Int}{a0:Option Addr}{c0:Nat}{xs:List Lk}(hl:Sl κ I (.slice a0 xs.length c0) xs)(M:xs.length<=1000000)(hz:ac8 nd xs kd wd mo nw=0):eu Tryz.prog κ 126 [.agg #[e7 nd,.slice a0 xs.length c0],.agg #[e7 kd,e7 wd,e7 mo],e7 nw] I λr J=>∃a c,r = .tuple #[.slice a (s6 kd wd mo nw xs).length c,e7 0]/\J=vk 54 a c (s6 kd wd mo nw xs)::I:=
 (cz5 hl M).mono λr J h=>by
  rcases h with h|⟨a,c,_,h1,h2⟩
  ·exact absurd hz h.1
  exact ⟨a,c,h1,h2⟩
end Go.Sl
