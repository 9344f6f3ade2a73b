/- A part of the proofs of statements of this seat: contracts of functions, and the plain laws that they lean on. No conditions. -/
import Derived.Test.YtoagcglbkeomgaaGreatDoorV24
set_option linter.unusedVariables false
set_option linter.unusedSimpArgs false
set_option linter.unusedSectionVars false
set_option maxHeartbeats 4000000
namespace Go.Sl
open Go.Proofs
set_option maxRecDepth 4000
section
variable {nd:Int}{es es0:List Pt}{u v y:Int}{c:Ev}
theorem dz3(h:au1 nd es u v y)(h0:0<=y):j4 u v∈es:=by
 rcases h with ⟨_,j,rfl,M,e⟩|⟨rfl,_⟩
 ·rw [←e];exact Bp om om
 omega
theorem dz2(M:s6 nd es)(h:au1 nd es u v y)(h0:¬0<=y):j4 u v∉es:=by
 rcases h with ⟨_,j,rfl,hj,e⟩|⟨_,h1|h1⟩
 ·omega
 ·exact absurd (s4.2 M) h1
 exact h1
theorem fq0(M:c.kd=1)(h2:j4 c.u c.v∈es0):chS es0 es c=es:=by unfold chS;rw [B_ M,B_ h2]
theorem gb1(M:c.kd=1)(h2:j4 c.u c.v∉es0):chS es0 es c=z7 Pt.lt es (j4 c.u c.v):=by unfold chS;rw [B_ M,An h2]
theorem gb3(M:¬c.kd=1):chS es0 es c=j7 es (j4 c.u c.v):=by unfold chS;rw [An M]
end
theorem bi3{κ:Ctx}{I:List Item}{nd kd wd mo bd lt mr tm:Int}{wa:Option Addr}{wn wc:Nat}{lv:SlA}{pv:PkV}{X:List Lk}{T:List Item}(hH:Has I T)(hl:Sl κ T (.slice lv.a X.length lv.c) X)(hp:PkR κ T nd (j5 X) pv)(hv:q7 nd X=0){evs:List Ev}{ea:Option Addr}{ec:Nat}(he:Sl κ I (.slice ea evs.length ec) evs)(ch:∀e∈evs,H7 nd e)(cw:evs.length<=1000000)(hT:F4 κ I 0 p6):eu Tryz.prog κ 125 [.agg (ky kd wd mo bd lt mr wa wn wc nd lv.a X.length lv.c (j5 X) pv tm).toArray,.slice ea evs.length ec] I (λr J=>∃(lw:SlA) (pw:PkV) (Y:List Item),r = .tuple #[.agg (ky kd wd mo bd lt mr wa wn wc nd lw.a (evs.foldl ep X).length lw.c (j5 (evs.foldl ep X)) pw tm).toArray,e7 0]/\Sl κ (Y++T) (.slice lw.a (evs.foldl ep X).length lw.c) (evs.foldl ep X)/\PkR κ (Y++T) nd (j5 (evs.foldl ep X)) pw/\J=Y++I):=by
 refine Ce2 Tryz.func125 C C ?_
 refine Ak<|Ge1 (Au (cs:=[_,_,_,_,_,_,_,_,_,_,_,_,_,_,_,_,_,_,_,_,_,_,_,_,_]) C C C) λb1=>Ge1 (Aj H2 C) λb2=>Ga C<|Ar<|Ak<|Gr (j8.lj H2) ?_
 refine G.e (Ac c_ C C fk4) ?_
 rintro _ _ ⟨_,_,⟨aa,rfl,rfl⟩,rfl,rfl⟩
 refine Ga C<|Ar<|Ax<|Ak<|Gm C<|Gr (Bk Ad C)<|Gm C<|Ar<|A7<|B9 (σ:=Nat×(List Lk)×SlA×PkV×(List Item)) (λs=>([(2,pt b1),(4,pt b2),(6,pt aa),(22,.slice ea evs.length ec),(23,e7 ((evs.length:Nat):Int)),(24,e7 ((s.1:Nat):Int))]:Env)) (λs=>e8 aa (pq nd (j5 s.2.1) s.2.2.2.1) 169::e8 b2 zk 47::e8 b1 (ky kd wd mo bd lt mr wa wn wc nd s.2.2.1.a s.2.1.length s.2.2.1.c (j5 X) pv tm) 47::(s.2.2.2.2++I)) (λs=>(s.1<=evs.length)/\(s.2.1=(evs.take s.1).foldl ep X)/\(q7 nd s.2.1=0)/\(Sl κ (s.2.2.2.2++T) (.slice s.2.2.1.a s.2.1.length s.2.2.1.c) s.2.1)/\(PkR κ (s.2.2.2.2++T) nd (j5 s.2.1) s.2.2.2.1)) (λs=>evs.length - s.1) (0,X,lv,pv,[]) ⟨om,rfl,hv,hl,hp⟩ (cx4<|Aa C<|Aa Co Bb) Az ?_
 rintro ⟨i,X1,lw,pw,Y⟩ hp
 dsimp only at hp ⊢
 obtain ⟨hi,hX,bf,cg,ce⟩:=hp
 have hU:=B4 hH Y
 have ci:=cg.fit (κ:=κ) hU.fit
 have cr:=ce.fit hU.fit
 have cm:=q9 (F1 bf)
 have cn:=cm
 rw [G5] at cn
 refine Ak<|Gr (Bl C C)<|Ar<|Ax<|Am C (λcp=>?_)<|λcp=>?_
 ·refine Bc (Ao<|Ax<|A7<|Ak<|Gr (A2 (α:=Ev) (xs:=evs) Ad s9 C C (A4 he) om om)<|Gr (C6 (α:=Ev) (xs:=evs) s9 C (A4 he) om om) ?_)
  have bp:=ch _ (Bp (xs:=evs) (i:=(i:Int)) om om)
  generalize hxe:e_ evs i=xe at bp ⊢
  refine Ge1 (Aj s9 C) λb4=>Ge0 (au3 s9) ?_
  refine Ar<|Ak<|Gf T4 C<|Gl2 V3 ?_
  refine Gc2 (Ac c_ C C<|cc5 (nd:=nd) (A4 ci) bf om) λao ap=>?_
  refine Gm C<|Gr (Bj C C)<|Gr (Bj C C)<|Ge1 (Aj J8 C) λb7=>Ge0 (Cs J8) ?_
  refine Ga C<|Ar<|A1 (S8 9 8 2 4 6 22 23 24)<|Ak<|Gf T4 C<|Gl2 V3 ?_
  refine Gl7 s9 ?_
  refine G.e (Ac c_ C C<|ds4 (nd:=nd) (e:=xe) (xs:=X1) (A4 ci) bf bp om) ?_
  rintro _ _ ⟨_,_,⟨ai,ae,ad,ab,rfl,rfl⟩,rfl,rfl⟩
  refine Gm C<|Gr (Bj C C)<|Gr (Bj C C)<|Gr (Bj C C)<|Ge1 (Aj V3 C) λbe=>Ge0 (Cs V3) ?_
  refine Ga C<|Ga C<|Ar<|A1 (S10 13 12 11 9 2 4 6 22 23 24)<|Ax<|Ak<|Gm C<|Gr (Cb C C)<|Ar<|Am C (λcj=>?_)<|λcj=>?_
  ·exact absurd cj dc
  refine Bc<|Ao<|Ak<|Gl2 V3 ?_
  refine Gf T4 C<|Ge0 (Bs (cs:=[_,_,_,_,_,_,_,_,_,_,_,_,_,_,_,_,_,_,_,_,_,_,_,_,_]) (vs:=[_,_]) (cs':=[_,_,_,_,_,_,_,_,_,_,_,_,_,_,_,_,_,_,_,_,_,_,_,_,_]) V3) ?_
  refine Ar<|A1 (S8 12 9 2 4 6 22 23 24)<|Ak<|Gm C<|Gr (Bk Ad C)<|Gm C<|Ar<|A7<|B9 (σ:=Nat×(List Pt)×PkV×(List Item)) (λs=>([(2,pt b1),(4,pt b2),(6,pt aa),(9,pt b7),(22,.slice ea evs.length ec),(23,e7 ((evs.length:Nat):Int)),(24,e7<|(i:Int)),(48,.slice ad (P4 X1 xe).length ab),(49,e7<|(((P4 X1 xe).length:Nat):Int)),(50,e7 ((s.1:Nat):Int))]:Env)) (λs=>e8 be [e7 nd,.slice ai (ep X1 xe).length ae] 35::vk 82 ai ae (ep X1 xe)::vk 54 ad ab (P4 X1 xe)::e8 b7 [e7 nd,.slice ao (j5 X1).length ap] 38::vk 105 ao ap (j5 X1)::e8 b4 (ez xe) 54::e8 aa (pq nd s.2.1 s.2.2.1) 169::e8 b2 zk 47::e8 b1 (ky kd wd mo bd lt mr wa wn wc nd ai (ep X1 xe).length ae (j5 X) pv tm) 47::(s.2.2.2++I)) (λs=>(s.1<=(P4 X1 xe).length)/\(s.2.1=chE X1 xe s.1)/\(PkR κ (s.2.2.2++T) nd s.2.1 s.2.2.1)) (λs=>(P4 X1 xe).length - s.1) (0,(j5 X1),pw,Y) ⟨om,rfl,ce⟩ (cx4<|cx4<|Aa C<|Aa Co Bb) Az ?_
  rintro ⟨j,M,pz,Z⟩ hp
  dsimp only at hp ⊢
  obtain ⟨hj,bq,br⟩:=hp
  have ct:=fp9 X1 xe
  have co:=B4 hH Z
  have ar:=br.fit (κ:=κ) co.fit
  refine Ak<|Gr (Bl C C)<|Ar<|Ax<|Am C (λck=>?_)<|λck=>?_
  ·refine Bc (Ao<|Ax<|A7<|Ak<|Gr (A2 (α:=Ev) (xs:=P4 X1 xe) Ad s9 C C A5 om om)<|Gr (C6 (α:=Ev) (xs:=P4 X1 xe) s9 C A5 om om) ?_)
   have ak:=gi0 bf bp (j:=j) om
   rw [←bq] at ak
   generalize hcc:e_ (P4 X1 xe) j=cc at ak ⊢
   refine Ge1 (Aj s9 C) λan=>Ge0 (au3 s9) ?_
   refine Ar<|A1 (S11 15 2 4 6 9 22 23 24 48 49 50)<|Ak<|Gf X0 C<|Gl ef ?_
   refine Gr (Cx C C)<|Ga C<|Ar<|A1 (S12 16 15 2 4 6 9 22 23 24 48 49 50 C C C C C C C C C C C C)<|Ax<|Ak<|Gm C<|Gm C<|A3 (d:=58) C (λaq=>?_)<|λaq=>?_
   ·refine e9 (Bm (vs:=[_,_]) J8) ?_
    refine e9 (Af L5 C)<|e9 (Bd ef) ?_
    refine e9 (Af H6 C)<|e9 (Bd ef) ?_
    refine Ds (Cn C C C) (Ac c_ C C<|au2 (nd:=nd) A5 cc.u cc.v om) ?_
    rintro _ _ ⟨_,_,⟨cx,rfl,b6,rfl⟩,rfl,rfl⟩
    refine e9 (j8.geq C C)<|Gr (Bz C C)<|Ar<|A1 (S13 66 16 15 2 4 6 9 22 23 24 48 49 50)<|Am C (λcd=>?_)<|λcd=>?_
    ·exact Ci<|Aw<|Bi<|Ao<|A6<|Gr (Rad C C)<|Gm C<|Bq<|Bt ((j+1),(M),(pz),(Z))<|by dsimp only;exact ⟨om,(by rw [bt0 om,←bq,hcc,fq0 aq<|dz3 b6 cd]),br⟩
    refine Bc<|Ao<|Ak<|Gm C ?_
    have cf:=dz2 (F1 bf) b6 cd
    have bt:j4 cc.u cc.v∉M:=by rw [ak.set aq];exact cf
    refine G.e (Ac c_ C C ds6) ?_
    rintro _ _ ⟨_,_,⟨au,rfl,rfl⟩,rfl,rfl⟩
    refine Gr (Bk Ce C)<|Gm C<|Ar<|A1 (S15 70 69 68 16 15 2 4 6 9 22 23 24 48 49 50 C C C C C C C C C C C C C C C)<|A7<|W.rounds 5 ?_
    refine De (n:=4)<|A1 (L':=[(70,e7 0),(69,e7 ((4:Nat):Int)),(68,.slice au 4 4),(16,.bool<|decide<|cc.kd=1),(15,pt an),(2,pt b1),(4,pt b2),(6,pt aa),(9,pt b7),(22,.slice ea evs.length ec),(23,e7 ((evs.length:Nat):Int)),(24,e7<|(i:Int)),(48,.slice ad (P4 X1 xe).length ab),(49,e7<|(((P4 X1 xe).length:Nat):Int)),(50,e7<|(j:Int))]) (cx4<|cx4<|cx4<|cx2<|Aa C Bb)<|Ak<|Gr (Bl C C)<|Ar<|A1 (S16 71 70 69 68 16 15 2 4 6 9 22 23 24 48 49 50 C C C C C C C C C C C C C C C C)<|Ax<|Am C (λah=>?_)<|λah=>?_
    ·refine Bc (Ao<|A1 (S15 70 69 68 16 15 2 4 6 9 22 23 24 48 49 50 C C C C C C C C C C C C C C C)<|Ax<|A7<|Ak<|Gr (A2 (α:=P0) (xs:=([⟨170,aa,0⟩,⟨171,aa,3⟩,⟨172,aa,6⟩,⟨173,aa,10⟩]:List P0)) Ce W5 C C A5 om om)<|Gr (Cc (α:=P0) (xs:=([⟨170,aa,0⟩,⟨171,aa,3⟩,⟨172,aa,6⟩,⟨173,aa,10⟩]:List P0)) (u:= .iface 170 (pt aa)) W5 C A5 dc (show (0:Int)<((4:Nat):Int) by decide) C)<|Ga C<|Ar<|A1 (S16 18 70 69 68 16 15 2 4 6 9 22 23 24 48 49 50 C C C C C C C C C C C C C C C C)<|Ak<|Gm C<|Gf L5 C<|Gl ef ?_)
     refine Gf H6 C<|Gl ef ?_
     refine Gm C<|G.e (D1 c_ C (λw=>by kernel_rfl) C C<|Cm (J:=e8 aa (pq nd M pz) 169::vc 117 (.slice au 4 4) (([⟨170,aa,0⟩,⟨171,aa,3⟩,⟨172,aa,6⟩,⟨173,aa,10⟩]:List P0))::e8 an (ez cc) 54::e8 be [e7 nd,.slice ai (ep X1 xe).length ae] 35::vk 82 ai ae (ep X1 xe)::vk 54 ad ab (P4 X1 xe)::e8 b7 [e7 nd,.slice ao (j5 X1).length ap] 38::vk 105 ao ap (j5 X1)::e8 b4 (ez xe) 54::e8 b2 zk 47::e8 b1 (ky kd wd mo bd lt mr wa wn wc nd ai (ep X1 xe).length ae (j5 X) pv tm) 47::(Z++I)) Az<|fh3 (b:=aa) (As aq) (A4 ar.e1) (A4 ar.n1) ak.ok ak.ends bt<|A8 hT Ah) ?_
     rintro _ _ ⟨_,_,⟨a3,a0,a1,aw,rfl,rfl⟩,rfl,rfl⟩
     refine Ga C<|Ar<|A1 (S16 19 70 69 68 16 15 2 4 6 9 22 23 24 48 49 50 C C C C C C C C C C C C C C C C)<|Ak<|Gm C<|Gr (Cb C C)<|Ar<|A1 (S17 82 19 70 69 68 16 15 2 4 6 9 22 23 24 48 49 50 C C C C C C C C C C C C C C C C C)<|Am C (λaj=>?_)<|λaj=>?_
     ·exact absurd aj dc
     refine Bc<|Av<|Ao<|A1 (S15 70 69 68 16 15 2 4 6 9 22 23 24 48 49 50 C C C C C C C C C C C C C C C)<|A6<|Gr (Rad C C)<|Gm C<|Bq<|De (n:=3)<|A1 (L':=[(70,e7 1),(69,e7 ((4:Nat):Int)),(68,.slice au 4 4),(16,.bool<|decide<|cc.kd=1),(15,pt an),(2,pt b1),(4,pt b2),(6,pt aa),(9,pt b7),(22,.slice ea evs.length ec),(23,e7 ((evs.length:Nat):Int)),(24,e7<|(i:Int)),(48,.slice ad (P4 X1 xe).length ab),(49,e7<|(((P4 X1 xe).length:Nat):Int)),(50,e7<|(j:Int))]) (cx4<|cx4<|cx4<|cx2<|Aa C Bb)<|Ak<|Gr (Bl C C)<|Ar<|A1 (S16 71 70 69 68 16 15 2 4 6 9 22 23 24 48 49 50 C C C C C C C C C C C C C C C C)<|Ax<|Am C (λah=>?_)<|λah=>?_
     ·refine Bc (Ao<|A1 (S15 70 69 68 16 15 2 4 6 9 22 23 24 48 49 50 C C C C C C C C C C C C C C C)<|Ax<|A7<|Ak<|Gr (A2 (α:=P0) (xs:=([⟨170,aa,0⟩,⟨171,aa,3⟩,⟨172,aa,6⟩,⟨173,aa,10⟩]:List P0)) Ce W5 C C A5 om om)<|Gr (Cc (α:=P0) (xs:=([⟨170,aa,0⟩,⟨171,aa,3⟩,⟨172,aa,6⟩,⟨173,aa,10⟩]:List P0)) (u:= .iface 171 (.pointer<|some ⟨aa,3,none⟩)) W5 C A5 dc (show (1:Int)<((4:Nat):Int) by decide) C)<|Ga C<|Ar<|A1 (S16 18 70 69 68 16 15 2 4 6 9 22 23 24 48 49 50 C C C C C C C C C C C C C C C C)<|Ak<|Gm C<|Gf L5 C<|Gl ef ?_)
      refine Gf H6 C<|Gl ef ?_
      refine Gm C<|G.e (D1 c_ C (λw=>by kernel_rfl) C C<|Cm (J:=e8 aa (px nd (z7 Pt.lt M<|j4 cc.u cc.v) a3 a0 a1 aw M pz.e2.a pz.e2.c pz.n2.a pz.n2.c M pz.e3.a pz.e3.c pz.n3.a pz.n3.c M pz.e4.a pz.e4.c pz.n4.a pz.n4.c) 169::vk 3 a1 aw (j9 nd<|z7 Pt.lt M<|j4 cc.u cc.v)::vk 105 a3 a0 (z7 Pt.lt M<|j4 cc.u cc.v)::vc 117 (.slice au 4 4) (([⟨170,aa,0⟩,⟨171,aa,3⟩,⟨172,aa,6⟩,⟨173,aa,10⟩]:List P0))::e8 an (ez cc) 54::e8 be [e7 nd,.slice ai (ep X1 xe).length ae] 35::vk 82 ai ae (ep X1 xe)::vk 54 ad ab (P4 X1 xe)::e8 b7 [e7 nd,.slice ao (j5 X1).length ap] 38::vk 105 ao ap (j5 X1)::e8 b4 (ez xe) 54::e8 b2 zk 47::e8 b1 (ky kd wd mo bd lt mr wa wn wc nd ai (ep X1 xe).length ae (j5 X) pv tm) 47::(Z++I)) Az<|fh2 (b:=aa) (As aq) (A4 ar.e2) (A4 ar.n2) ak.ok ak.ends bt<|A8 hT Ah) ?_
      rintro _ _ ⟨_,_,⟨bc,bb,a7,a5,rfl,rfl⟩,rfl,rfl⟩
      refine Ga C<|Ar<|A1 (S16 19 70 69 68 16 15 2 4 6 9 22 23 24 48 49 50 C C C C C C C C C C C C C C C C)<|Ak<|Gm C<|Gr (Cb C C)<|Ar<|A1 (S17 82 19 70 69 68 16 15 2 4 6 9 22 23 24 48 49 50 C C C C C C C C C C C C C C C C C)<|Am C (λaj=>?_)<|λaj=>?_
      ·exact absurd aj dc
      refine Bc<|Av<|Ao<|A1 (S15 70 69 68 16 15 2 4 6 9 22 23 24 48 49 50 C C C C C C C C C C C C C C C)<|A6<|Gr (Rad C C)<|Gm C<|Bq<|De (n:=2)<|A1 (L':=[(70,e7 2),(69,e7 ((4:Nat):Int)),(68,.slice au 4 4),(16,.bool<|decide<|cc.kd=1),(15,pt an),(2,pt b1),(4,pt b2),(6,pt aa),(9,pt b7),(22,.slice ea evs.length ec),(23,e7 ((evs.length:Nat):Int)),(24,e7<|(i:Int)),(48,.slice ad (P4 X1 xe).length ab),(49,e7<|(((P4 X1 xe).length:Nat):Int)),(50,e7<|(j:Int))]) (cx4<|cx4<|cx4<|cx2<|Aa C Bb)<|Ak<|Gr (Bl C C)<|Ar<|A1 (S16 71 70 69 68 16 15 2 4 6 9 22 23 24 48 49 50 C C C C C C C C C C C C C C C C)<|Ax<|Am C (λah=>?_)<|λah=>?_
      ·refine Bc (Ao<|A1 (S15 70 69 68 16 15 2 4 6 9 22 23 24 48 49 50 C C C C C C C C C C C C C C C)<|Ax<|A7<|Ak<|Gr (A2 (α:=P0) (xs:=([⟨170,aa,0⟩,⟨171,aa,3⟩,⟨172,aa,6⟩,⟨173,aa,10⟩]:List P0)) Ce W5 C C A5 om om)<|Gr (Cc (α:=P0) (xs:=([⟨170,aa,0⟩,⟨171,aa,3⟩,⟨172,aa,6⟩,⟨173,aa,10⟩]:List P0)) (u:= .iface 172 (.pointer<|some ⟨aa,6,none⟩)) W5 C A5 dc (show (2:Int)<((4:Nat):Int) by decide) C)<|Ga C<|Ar<|A1 (S16 18 70 69 68 16 15 2 4 6 9 22 23 24 48 49 50 C C C C C C C C C C C C C C C C)<|Ak<|Gm C<|Gf L5 C<|Gl ef ?_)
       refine Gf H6 C<|Gl ef ?_
       refine Gm C<|G.e (D1 c_ C (λw=>by kernel_rfl) C C<|Cm (J:=e8 aa (px nd (z7 Pt.lt M<|j4 cc.u cc.v) a3 a0 a1 aw (z7 Pt.lt M<|j4 cc.u cc.v) bc bb a7 a5 M pz.e3.a pz.e3.c pz.n3.a pz.n3.c M pz.e4.a pz.e4.c pz.n4.a pz.n4.c) 169::vk 3 a7 a5 (j6 nd<|z7 Pt.lt M<|j4 cc.u cc.v)::vk 105 bc bb (z7 Pt.lt M<|j4 cc.u cc.v)::vk 3 a1 aw (j9 nd<|z7 Pt.lt M<|j4 cc.u cc.v)::vk 105 a3 a0 (z7 Pt.lt M<|j4 cc.u cc.v)::vc 117 (.slice au 4 4) (([⟨170,aa,0⟩,⟨171,aa,3⟩,⟨172,aa,6⟩,⟨173,aa,10⟩]:List P0))::e8 an (ez cc) 54::e8 be [e7 nd,.slice ai (ep X1 xe).length ae] 35::vk 82 ai ae (ep X1 xe)::vk 54 ad ab (P4 X1 xe)::e8 b7 [e7 nd,.slice ao (j5 X1).length ap] 38::vk 105 ao ap (j5 X1)::e8 b4 (ez xe) 54::e8 b2 zk 47::e8 b1 (ky kd wd mo bd lt mr wa wn wc nd ai (ep X1 xe).length ae (j5 X) pv tm) 47::(Z++I)) Az<|fh1 (b:=aa) (As aq) (A4 ar.e3) (A4 ar.n3) ak.ok ak.ends bt) ?_
       rintro _ _ ⟨_,_,⟨bo,bg,bm,bi,rfl,rfl⟩,rfl,rfl⟩
       refine Ga C<|Ar<|A1 (S16 19 70 69 68 16 15 2 4 6 9 22 23 24 48 49 50 C C C C C C C C C C C C C C C C)<|Ak<|Gm C<|Gr (Cb C C)<|Ar<|A1 (S17 82 19 70 69 68 16 15 2 4 6 9 22 23 24 48 49 50 C C C C C C C C C C C C C C C C C)<|Am C (λaj=>?_)<|λaj=>?_
       ·exact absurd aj dc
       refine Bc<|Av<|Ao<|A1 (S15 70 69 68 16 15 2 4 6 9 22 23 24 48 49 50 C C C C C C C C C C C C C C C)<|A6<|Gr (Rad C C)<|Gm C<|Bq<|De (n:=1)<|A1 (L':=[(70,e7 3),(69,e7 ((4:Nat):Int)),(68,.slice au 4 4),(16,.bool<|decide<|cc.kd=1),(15,pt an),(2,pt b1),(4,pt b2),(6,pt aa),(9,pt b7),(22,.slice ea evs.length ec),(23,e7 ((evs.length:Nat):Int)),(24,e7<|(i:Int)),(48,.slice ad (P4 X1 xe).length ab),(49,e7<|(((P4 X1 xe).length:Nat):Int)),(50,e7<|(j:Int))]) (cx4<|cx4<|cx4<|cx2<|Aa C Bb)<|Ak<|Gr (Bl C C)<|Ar<|A1 (S16 71 70 69 68 16 15 2 4 6 9 22 23 24 48 49 50 C C C C C C C C C C C C C C C C)<|Ax<|Am C (λah=>?_)<|λah=>?_
       ·refine Bc (Ao<|A1 (S15 70 69 68 16 15 2 4 6 9 22 23 24 48 49 50 C C C C C C C C C C C C C C C)<|Ax<|A7<|Ak<|Gr (A2 (α:=P0) (xs:=([⟨170,aa,0⟩,⟨171,aa,3⟩,⟨172,aa,6⟩,⟨173,aa,10⟩]:List P0)) Ce W5 C C A5 om om)<|Gr (Cc (α:=P0) (xs:=([⟨170,aa,0⟩,⟨171,aa,3⟩,⟨172,aa,6⟩,⟨173,aa,10⟩]:List P0)) (u:= .iface 173 (.pointer<|some ⟨aa,10,none⟩)) W5 C A5 dc (show (3:Int)<((4:Nat):Int) by decide) C)<|Ga C<|Ar<|A1 (S16 18 70 69 68 16 15 2 4 6 9 22 23 24 48 49 50 C C C C C C C C C C C C C C C C)<|Ak<|Gm C<|Gf L5 C<|Gl ef ?_)
        refine Gf H6 C<|Gl ef ?_
        refine Gm C<|G.e (D1 c_ C (λw=>by kernel_rfl) C C<|Cm (J:=e8 aa (px nd (z7 Pt.lt M<|j4 cc.u cc.v) a3 a0 a1 aw (z7 Pt.lt M<|j4 cc.u cc.v) bc bb a7 a5 (z7 Pt.lt M<|j4 cc.u cc.v) bo bg bm bi M pz.e4.a pz.e4.c pz.n4.a pz.n4.c) 169::vk 3 bm bi (H3 nd<|z7 Pt.lt M<|j4 cc.u cc.v)::vk 105 bo bg (z7 Pt.lt M<|j4 cc.u cc.v)::vk 3 a7 a5 (j6 nd<|z7 Pt.lt M<|j4 cc.u cc.v)::vk 105 bc bb (z7 Pt.lt M<|j4 cc.u cc.v)::vk 3 a1 aw (j9 nd<|z7 Pt.lt M<|j4 cc.u cc.v)::vk 105 a3 a0 (z7 Pt.lt M<|j4 cc.u cc.v)::vc 117 (.slice au 4 4) (([⟨170,aa,0⟩,⟨171,aa,3⟩,⟨172,aa,6⟩,⟨173,aa,10⟩]:List P0))::e8 an (ez cc) 54::e8 be [e7 nd,.slice ai (ep X1 xe).length ae] 35::vk 82 ai ae (ep X1 xe)::vk 54 ad ab (P4 X1 xe)::e8 b7 [e7 nd,.slice ao (j5 X1).length ap] 38::vk 105 ao ap (j5 X1)::e8 b4 (ez xe) 54::e8 b2 zk 47::e8 b1 (ky kd wd mo bd lt mr wa wn wc nd ai (ep X1 xe).length ae (j5 X) pv tm) 47::(Z++I)) Az<|fh0 (b:=aa) (As aq) (A4 ar.e4) (A4 ar.n4) ak.ok ak.ends bt<|A8 hT Ah) ?_
        rintro _ _ ⟨_,_,⟨cb,b3,bw,b8,rfl,rfl⟩,rfl,rfl⟩
        refine Ga C<|Ar<|A1 (S16 19 70 69 68 16 15 2 4 6 9 22 23 24 48 49 50 C C C C C C C C C C C C C C C C)<|Ak<|Gm C<|Gr (Cb C C)<|Ar<|A1 (S17 82 19 70 69 68 16 15 2 4 6 9 22 23 24 48 49 50 C C C C C C C C C C C C C C C C C)<|Am C (λaj=>?_)<|λaj=>?_
        ·exact absurd aj dc
        refine Bc<|Av<|Ao<|A1 (S15 70 69 68 16 15 2 4 6 9 22 23 24 48 49 50 C C C C C C C C C C C C C C C)<|A6<|Gr (Rad C C)<|Gm C<|Bq<|De (n:=0)<|A1 (L':=[(70,e7 4),(69,e7 ((4:Nat):Int)),(68,.slice au 4 4),(16,.bool<|decide<|cc.kd=1),(15,pt an),(2,pt b1),(4,pt b2),(6,pt aa),(9,pt b7),(22,.slice ea evs.length ec),(23,e7 ((evs.length:Nat):Int)),(24,e7<|(i:Int)),(48,.slice ad (P4 X1 xe).length ab),(49,e7<|(((P4 X1 xe).length:Nat):Int)),(50,e7<|(j:Int))]) (cx4<|cx4<|cx4<|cx2<|Aa C Bb)<|Ak<|Gr (Bl C C)<|Ar<|A1 (S16 71 70 69 68 16 15 2 4 6 9 22 23 24 48 49 50 C C C C C C C C C C C C C C C C)<|Ax<|Am C (λah=>?_)<|λah=>?_
        ·exact absurd ah dc
        exact Ci<|Aw<|Aw<|Bi<|Av<|Ao<|A1 (S10 2 4 6 9 22 23 24 48 49 50)<|A6<|Gr (Rad C C)<|Gm C<|Bq<|Bt ((j+1),((z7 Pt.lt M<|j4 cc.u cc.v)),(⟨⟨a3,a0⟩,⟨a1,aw⟩,⟨bc,bb⟩,⟨a7,a5⟩,⟨bo,bg⟩,⟨bm,bi⟩,⟨cb,b3⟩,⟨bw,b8⟩⟩),((vk 3 bw b8 (r8 nd<|z7 Pt.lt M<|j4 cc.u cc.v)::vk 105 cb b3 (z7 Pt.lt M<|j4 cc.u cc.v)::vk 3 bm bi (H3 nd<|z7 Pt.lt M<|j4 cc.u cc.v)::vk 105 bo bg (z7 Pt.lt M<|j4 cc.u cc.v)::vk 3 a7 a5 (j6 nd<|z7 Pt.lt M<|j4 cc.u cc.v)::vk 105 bc bb (z7 Pt.lt M<|j4 cc.u cc.v)::vk 3 a1 aw (j9 nd<|z7 Pt.lt M<|j4 cc.u cc.v)::vk 105 a3 a0 (z7 Pt.lt M<|j4 cc.u cc.v)::Z))) (by dsimp only;exact ⟨om,(by rw [bt0 om,←bq,hcc,gb1 aq cf]),⟨A5,A5,A5,A5,A5,A5,A5,A5⟩⟩) (hI:=by (try dsimp only);exact Az)
       exact absurd dc ah
      exact absurd dc ah
     exact absurd dc ah
    exact absurd dc ah
   refine eb<|eb<|eb<|eb<|eb<|eb<|eb<|Gr (Bo C C)<|Ar<|A1 (S13 66 16 15 2 4 6 9 22 23 24 48 49 50)<|W.no C<|Bc<|Ao<|Ak<|Gm C<|G.e (Ac c_ C C ds6) ?_
   rintro _ _ ⟨_,_,⟨av,rfl,rfl⟩,rfl,rfl⟩
   refine Gr (Bk Ce C)<|Gm C<|Ar<|A1 (S15 70 69 68 16 15 2 4 6 9 22 23 24 48 49 50 C C C C C C C C C C C C C C C)<|A7<|W.rounds 5 ?_
   refine De (n:=4)<|A1 (L':=[(70,e7 0),(69,e7 ((4:Nat):Int)),(68,.slice av 4 4),(16,.bool<|decide<|cc.kd=1),(15,pt an),(2,pt b1),(4,pt b2),(6,pt aa),(9,pt b7),(22,.slice ea evs.length ec),(23,e7 ((evs.length:Nat):Int)),(24,e7<|(i:Int)),(48,.slice ad (P4 X1 xe).length ab),(49,e7<|(((P4 X1 xe).length:Nat):Int)),(50,e7<|(j:Int))]) (cx4<|cx4<|cx4<|cx2<|Aa C Bb)<|Ak<|Gr (Bl C C)<|Ar<|A1 (S16 71 70 69 68 16 15 2 4 6 9 22 23 24 48 49 50 C C C C C C C C C C C C C C C C)<|Ax<|Am C (λah=>?_)<|λah=>?_
   ·refine Bc (Ao<|A1 (S15 70 69 68 16 15 2 4 6 9 22 23 24 48 49 50 C C C C C C C C C C C C C C C)<|Ax<|A7<|Ak<|Gr (A2 (α:=P0) (xs:=([⟨170,aa,0⟩,⟨171,aa,3⟩,⟨172,aa,6⟩,⟨173,aa,10⟩]:List P0)) Ce W5 C C A5 om om)<|Gr (Cc (α:=P0) (xs:=([⟨170,aa,0⟩,⟨171,aa,3⟩,⟨172,aa,6⟩,⟨173,aa,10⟩]:List P0)) (u:= .iface 170 (pt aa)) W5 C A5 dc (show (0:Int)<((4:Nat):Int) by decide) C)<|Ga C<|Ar<|A1 (S16 18 70 69 68 16 15 2 4 6 9 22 23 24 48 49 50 C C C C C C C C C C C C C C C C)<|Ak<|Gm C<|Gf L5 C<|Gl ef ?_)
    refine Gf H6 C<|Gl ef ?_
    refine Gm C<|G.e (D1 c_ C (λw=>by kernel_rfl) C C<|Cm (J:=e8 aa (pq nd M pz) 169::vc 117 (.slice av 4 4) (([⟨170,aa,0⟩,⟨171,aa,3⟩,⟨172,aa,6⟩,⟨173,aa,10⟩]:List P0))::e8 an (ez cc) 54::e8 be [e7 nd,.slice ai (ep X1 xe).length ae] 35::vk 82 ai ae (ep X1 xe)::vk 54 ad ab (P4 X1 xe)::e8 b7 [e7 nd,.slice ao (j5 X1).length ap] 38::vk 105 ao ap (j5 X1)::e8 b4 (ez xe) 54::e8 b2 zk 47::e8 b1 (ky kd wd mo bd lt mr wa wn wc nd ai (ep X1 xe).length ae (j5 X) pv tm) 47::(Z++I)) Az<|fh7 (b:=aa) (D_ aq) (A4 ar.e1) (A4 ar.n1) ak.ok ak.ends (ak.cut aq)<|A8 hT Ah) ?_
    rintro _ _ ⟨_,_,⟨az,ax,ay,a4,rfl,rfl⟩,rfl,rfl⟩
    refine Ga C<|Ar<|A1 (S16 19 70 69 68 16 15 2 4 6 9 22 23 24 48 49 50 C C C C C C C C C C C C C C C C)<|Ak<|Gm C<|Gr (Cb C C)<|Ar<|A1 (S17 82 19 70 69 68 16 15 2 4 6 9 22 23 24 48 49 50 C C C C C C C C C C C C C C C C C)<|Am C (λaj=>?_)<|λaj=>?_
    ·exact absurd aj dc
    refine Bc<|Av<|Ao<|A1 (S15 70 69 68 16 15 2 4 6 9 22 23 24 48 49 50 C C C C C C C C C C C C C C C)<|A6<|Gr (Rad C C)<|Gm C<|Bq<|De (n:=3)<|A1 (L':=[(70,e7 1),(69,e7 ((4:Nat):Int)),(68,.slice av 4 4),(16,.bool<|decide<|cc.kd=1),(15,pt an),(2,pt b1),(4,pt b2),(6,pt aa),(9,pt b7),(22,.slice ea evs.length ec),(23,e7 ((evs.length:Nat):Int)),(24,e7<|(i:Int)),(48,.slice ad (P4 X1 xe).length ab),(49,e7<|(((P4 X1 xe).length:Nat):Int)),(50,e7<|(j:Int))]) (cx4<|cx4<|cx4<|cx2<|Aa C Bb)<|Ak<|Gr (Bl C C)<|Ar<|A1 (S16 71 70 69 68 16 15 2 4 6 9 22 23 24 48 49 50 C C C C C C C C C C C C C C C C)<|Ax<|Am C (λah=>?_)<|λah=>?_
    ·refine Bc (Ao<|A1 (S15 70 69 68 16 15 2 4 6 9 22 23 24 48 49 50 C C C C C C C C C C C C C C C)<|Ax<|A7<|Ak<|Gr (A2 (α:=P0) (xs:=([⟨170,aa,0⟩,⟨171,aa,3⟩,⟨172,aa,6⟩,⟨173,aa,10⟩]:List P0)) Ce W5 C C A5 om om)<|Gr (Cc (α:=P0) (xs:=([⟨170,aa,0⟩,⟨171,aa,3⟩,⟨172,aa,6⟩,⟨173,aa,10⟩]:List P0)) (u:= .iface 171 (.pointer<|some ⟨aa,3,none⟩)) W5 C A5 dc (show (1:Int)<((4:Nat):Int) by decide) C)<|Ga C<|Ar<|A1 (S16 18 70 69 68 16 15 2 4 6 9 22 23 24 48 49 50 C C C C C C C C C C C C C C C C)<|Ak<|Gm C<|Gf L5 C<|Gl ef ?_)
     refine Gf H6 C<|Gl ef ?_
     refine Gm C<|G.e (D1 c_ C (λw=>by kernel_rfl) C C<|Cm (J:=e8 aa (px nd (j7 M<|j4 cc.u cc.v) az ax ay a4 M pz.e2.a pz.e2.c pz.n2.a pz.n2.c M pz.e3.a pz.e3.c pz.n3.a pz.n3.c M pz.e4.a pz.e4.c pz.n4.a pz.n4.c) 169::vk 3 ay a4 (j9 nd<|j7 M<|j4 cc.u cc.v)::vk 105 az ax (j7 M<|j4 cc.u cc.v)::vc 117 (.slice av 4 4) (([⟨170,aa,0⟩,⟨171,aa,3⟩,⟨172,aa,6⟩,⟨173,aa,10⟩]:List P0))::e8 an (ez cc) 54::e8 be [e7 nd,.slice ai (ep X1 xe).length ae] 35::vk 82 ai ae (ep X1 xe)::vk 54 ad ab (P4 X1 xe)::e8 b7 [e7 nd,.slice ao (j5 X1).length ap] 38::vk 105 ao ap (j5 X1)::e8 b4 (ez xe) 54::e8 b2 zk 47::e8 b1 (ky kd wd mo bd lt mr wa wn wc nd ai (ep X1 xe).length ae (j5 X) pv tm) 47::(Z++I)) Az<|fh6 (b:=aa) (D_ aq) (A4 ar.e2) (A4 ar.n2) ak.ok ak.ends (ak.cut aq)<|A8 hT Ah) ?_
     rintro _ _ ⟨_,_,⟨a8,ba,a9,a6,rfl,rfl⟩,rfl,rfl⟩
     refine Ga C<|Ar<|A1 (S16 19 70 69 68 16 15 2 4 6 9 22 23 24 48 49 50 C C C C C C C C C C C C C C C C)<|Ak<|Gm C<|Gr (Cb C C)<|Ar<|A1 (S17 82 19 70 69 68 16 15 2 4 6 9 22 23 24 48 49 50 C C C C C C C C C C C C C C C C C)<|Am C (λaj=>?_)<|λaj=>?_
     ·exact absurd aj dc
     refine Bc<|Av<|Ao<|A1 (S15 70 69 68 16 15 2 4 6 9 22 23 24 48 49 50 C C C C C C C C C C C C C C C)<|A6<|Gr (Rad C C)<|Gm C<|Bq<|De (n:=2)<|A1 (L':=[(70,e7 2),(69,e7 ((4:Nat):Int)),(68,.slice av 4 4),(16,.bool<|decide<|cc.kd=1),(15,pt an),(2,pt b1),(4,pt b2),(6,pt aa),(9,pt b7),(22,.slice ea evs.length ec),(23,e7 ((evs.length:Nat):Int)),(24,e7<|(i:Int)),(48,.slice ad (P4 X1 xe).length ab),(49,e7<|(((P4 X1 xe).length:Nat):Int)),(50,e7<|(j:Int))]) (cx4<|cx4<|cx4<|cx2<|Aa C Bb)<|Ak<|Gr (Bl C C)<|Ar<|A1 (S16 71 70 69 68 16 15 2 4 6 9 22 23 24 48 49 50 C C C C C C C C C C C C C C C C)<|Ax<|Am C (λah=>?_)<|λah=>?_
     ·refine Bc (Ao<|A1 (S15 70 69 68 16 15 2 4 6 9 22 23 24 48 49 50 C C C C C C C C C C C C C C C)<|Ax<|A7<|Ak<|Gr (A2 (α:=P0) (xs:=([⟨170,aa,0⟩,⟨171,aa,3⟩,⟨172,aa,6⟩,⟨173,aa,10⟩]:List P0)) Ce W5 C C A5 om om)<|Gr (Cc (α:=P0) (xs:=([⟨170,aa,0⟩,⟨171,aa,3⟩,⟨172,aa,6⟩,⟨173,aa,10⟩]:List P0)) (u:= .iface 172 (.pointer<|some ⟨aa,6,none⟩)) W5 C A5 dc (show (2:Int)<((4:Nat):Int) by decide) C)<|Ga C<|Ar<|A1 (S16 18 70 69 68 16 15 2 4 6 9 22 23 24 48 49 50 C C C C C C C C C C C C C C C C)<|Ak<|Gm C<|Gf L5 C<|Gl ef ?_)
      refine Gf H6 C<|Gl ef ?_
      refine Gm C<|G.e (D1 c_ C (λw=>by kernel_rfl) C C<|Cm (J:=e8 aa (px nd (j7 M<|j4 cc.u cc.v) az ax ay a4 (j7 M<|j4 cc.u cc.v) a8 ba a9 a6 M pz.e3.a pz.e3.c pz.n3.a pz.n3.c M pz.e4.a pz.e4.c pz.n4.a pz.n4.c) 169::vk 3 a9 a6 (j6 nd<|j7 M<|j4 cc.u cc.v)::vk 105 a8 ba (j7 M<|j4 cc.u cc.v)::vk 3 ay a4 (j9 nd<|j7 M<|j4 cc.u cc.v)::vk 105 az ax (j7 M<|j4 cc.u cc.v)::vc 117 (.slice av 4 4) (([⟨170,aa,0⟩,⟨171,aa,3⟩,⟨172,aa,6⟩,⟨173,aa,10⟩]:List P0))::e8 an (ez cc) 54::e8 be [e7 nd,.slice ai (ep X1 xe).length ae] 35::vk 82 ai ae (ep X1 xe)::vk 54 ad ab (P4 X1 xe)::e8 b7 [e7 nd,.slice ao (j5 X1).length ap] 38::vk 105 ao ap (j5 X1)::e8 b4 (ez xe) 54::e8 b2 zk 47::e8 b1 (ky kd wd mo bd lt mr wa wn wc nd ai (ep X1 xe).length ae (j5 X) pv tm) 47::(Z++I)) Az<|fh5 (b:=aa) (D_ aq) (A4 ar.e3) (A4 ar.n3) ak.ok ak.ends<|ak.cut aq) ?_
      rintro _ _ ⟨_,_,⟨bj,bh,bn,bk,rfl,rfl⟩,rfl,rfl⟩
      refine Ga C<|Ar<|A1 (S16 19 70 69 68 16 15 2 4 6 9 22 23 24 48 49 50 C C C C C C C C C C C C C C C C)<|Ak<|Gm C<|Gr (Cb C C)<|Ar<|A1 (S17 82 19 70 69 68 16 15 2 4 6 9 22 23 24 48 49 50 C C C C C C C C C C C C C C C C C)<|Am C (λaj=>?_)<|λaj=>?_
      ·exact absurd aj dc
      refine Bc<|Av<|Ao<|A1 (S15 70 69 68 16 15 2 4 6 9 22 23 24 48 49 50 C C C C C C C C C C C C C C C)<|A6<|Gr (Rad C C)<|Gm C<|Bq<|De (n:=1)<|A1 (L':=[(70,e7 3),(69,e7 ((4:Nat):Int)),(68,.slice av 4 4),(16,.bool<|decide<|cc.kd=1),(15,pt an),(2,pt b1),(4,pt b2),(6,pt aa),(9,pt b7),(22,.slice ea evs.length ec),(23,e7 ((evs.length:Nat):Int)),(24,e7<|(i:Int)),(48,.slice ad (P4 X1 xe).length ab),(49,e7<|(((P4 X1 xe).length:Nat):Int)),(50,e7<|(j:Int))]) (cx4<|cx4<|cx4<|cx2<|Aa C Bb)<|Ak<|Gr (Bl C C)<|Ar<|A1 (S16 71 70 69 68 16 15 2 4 6 9 22 23 24 48 49 50 C C C C C C C C C C C C C C C C)<|Ax<|Am C (λah=>?_)<|λah=>?_
      ·refine Bc (Ao<|A1 (S15 70 69 68 16 15 2 4 6 9 22 23 24 48 49 50 C C C C C C C C C C C C C C C)<|Ax<|A7<|Ak<|Gr (A2 (α:=P0) (xs:=([⟨170,aa,0⟩,⟨171,aa,3⟩,⟨172,aa,6⟩,⟨173,aa,10⟩]:List P0)) Ce W5 C C A5 om om)<|Gr (Cc (α:=P0) (xs:=([⟨170,aa,0⟩,⟨171,aa,3⟩,⟨172,aa,6⟩,⟨173,aa,10⟩]:List P0)) (u:= .iface 173 (.pointer<|some ⟨aa,10,none⟩)) W5 C A5 dc (show (3:Int)<((4:Nat):Int) by decide) C)<|Ga C<|Ar<|A1 (S16 18 70 69 68 16 15 2 4 6 9 22 23 24 48 49 50 C C C C C C C C C C C C C C C C)<|Ak<|Gm C<|Gf L5 C<|Gl ef ?_)
       refine Gf H6 C<|Gl ef ?_
       refine Gm C<|G.e (D1 c_ C (λw=>by kernel_rfl) C C<|Cm (J:=e8 aa (px nd (j7 M<|j4 cc.u cc.v) az ax ay a4 (j7 M<|j4 cc.u cc.v) a8 ba a9 a6 (j7 M<|j4 cc.u cc.v) bj bh bn bk M pz.e4.a pz.e4.c pz.n4.a pz.n4.c) 169::vk 3 bn bk (H3 nd<|j7 M<|j4 cc.u cc.v)::vk 105 bj bh (j7 M<|j4 cc.u cc.v)::vk 3 a9 a6 (j6 nd<|j7 M<|j4 cc.u cc.v)::vk 105 a8 ba (j7 M<|j4 cc.u cc.v)::vk 3 ay a4 (j9 nd<|j7 M<|j4 cc.u cc.v)::vk 105 az ax (j7 M<|j4 cc.u cc.v)::vc 117 (.slice av 4 4) (([⟨170,aa,0⟩,⟨171,aa,3⟩,⟨172,aa,6⟩,⟨173,aa,10⟩]:List P0))::e8 an (ez cc) 54::e8 be [e7 nd,.slice ai (ep X1 xe).length ae] 35::vk 82 ai ae (ep X1 xe)::vk 54 ad ab (P4 X1 xe)::e8 b7 [e7 nd,.slice ao (j5 X1).length ap] 38::vk 105 ao ap (j5 X1)::e8 b4 (ez xe) 54::e8 b2 zk 47::e8 b1 (ky kd wd mo bd lt mr wa wn wc nd ai (ep X1 xe).length ae (j5 X) pv tm) 47::(Z++I)) Az<|fh4 (b:=aa) (D_ aq) (A4 ar.e4) (A4 ar.n4) ak.ok ak.ends (ak.cut aq)<|A8 hT Ah) ?_
       rintro _ _ ⟨_,_,⟨b9,ca,b5,bv,rfl,rfl⟩,rfl,rfl⟩
       refine Ga C<|Ar<|A1 (S16 19 70 69 68 16 15 2 4 6 9 22 23 24 48 49 50 C C C C C C C C C C C C C C C C)<|Ak<|Gm C<|Gr (Cb C C)<|Ar<|A1 (S17 82 19 70 69 68 16 15 2 4 6 9 22 23 24 48 49 50 C C C C C C C C C C C C C C C C C)<|Am C (λaj=>?_)<|λaj=>?_
       ·exact absurd aj dc
       refine Bc<|Av<|Ao<|A1 (S15 70 69 68 16 15 2 4 6 9 22 23 24 48 49 50 C C C C C C C C C C C C C C C)<|A6<|Gr (Rad C C)<|Gm C<|Bq<|De (n:=0)<|A1 (L':=[(70,e7 4),(69,e7 ((4:Nat):Int)),(68,.slice av 4 4),(16,.bool<|decide<|cc.kd=1),(15,pt an),(2,pt b1),(4,pt b2),(6,pt aa),(9,pt b7),(22,.slice ea evs.length ec),(23,e7 ((evs.length:Nat):Int)),(24,e7<|(i:Int)),(48,.slice ad (P4 X1 xe).length ab),(49,e7<|(((P4 X1 xe).length:Nat):Int)),(50,e7<|(j:Int))]) (cx4<|cx4<|cx4<|cx2<|Aa C Bb)<|Ak<|Gr (Bl C C)<|Ar<|A1 (S16 71 70 69 68 16 15 2 4 6 9 22 23 24 48 49 50 C C C C C C C C C C C C C C C C)<|Ax<|Am C (λah=>?_)<|λah=>?_
       ·exact absurd ah dc
       exact Ci<|Aw<|Aw<|Bi<|Av<|Ao<|A1 (S10 2 4 6 9 22 23 24 48 49 50)<|A6<|Gr (Rad C C)<|Gm C<|Bq<|Bt ((j+1),((j7 M<|j4 cc.u cc.v)),(⟨⟨az,ax⟩,⟨ay,a4⟩,⟨a8,ba⟩,⟨a9,a6⟩,⟨bj,bh⟩,⟨bn,bk⟩,⟨b9,ca⟩,⟨b5,bv⟩⟩),((vk 3 b5 bv (r8 nd<|j7 M<|j4 cc.u cc.v)::vk 105 b9 ca (j7 M<|j4 cc.u cc.v)::vk 3 bn bk (H3 nd<|j7 M<|j4 cc.u cc.v)::vk 105 bj bh (j7 M<|j4 cc.u cc.v)::vk 3 a9 a6 (j6 nd<|j7 M<|j4 cc.u cc.v)::vk 105 a8 ba (j7 M<|j4 cc.u cc.v)::vk 3 ay a4 (j9 nd<|j7 M<|j4 cc.u cc.v)::vk 105 az ax (j7 M<|j4 cc.u cc.v)::Z))) (by dsimp only;exact ⟨om,(by rw [bt0 om,←bq,hcc,gb3 aq]),⟨A5,A5,A5,A5,A5,A5,A5,A5⟩⟩) (hI:=by (try dsimp only);exact Az)
      exact absurd dc ah
     exact absurd dc ah
    exact absurd dc ah
   exact absurd dc ah
  refine Ci<|Aw<|Aw<|Bi<|Av<|Ao<|A6<|Gr (Rad C C)<|Gm C<|Bq ?_
  have bu:M=j5 (ep X1 xe):=by rw [bq,show j=(P4 X1 xe).length by omega];exact gb2 bf bp
  exact Bt ((i+1),(ep X1 xe),(⟨ai,ae⟩),(pz),((vk 82 ai ae (ep X1 xe)::Z))) (by dsimp only;exact ⟨om,(by rw [Ca evs i om,Hd,←hX,hxe];rfl),(J5 bf bp),(Cz<|Gi _ A_),(by rw [←bu];exact br.fit<|Fa<|Dd _)⟩) (hI:=by (try dsimp only);exact (by rw [←bu];exact Az))
 refine Ci<|Aw<|Aw<|Bi<|Ao<|Ax<|Ba mixed<|Bx (e8 aa (pq nd (j5 X1) pw) 169::e8 b2 zk 47::(Y++I)) 28<|Dr 0 C (Aq C)<|Dr 1 C (Ef C)<|Dr 2 C (Af cn7 C)<|Dr 3 C (Af co1 C)<|Dr 4 C (Bm (vs:=[_,_,_]) ab7) ?_
 refine Dr 5 C (Aq C)<|Dr 6 C (Ef C)<|Dr 7 C (Af cn6 C)<|Dr 8 C (Af co0 C)<|Dr 9 C (Bm (vs:=[_,_,_]) L4) ?_
 refine Dr 10 C (Aq C)<|Dr 11 C (Ef C)<|Dr 12 C (Af cn5 C)<|Dr 13 C (Af cn9 C)<|Dr 14 C (Bm (vs:=[_,_,_,_]) ad3) ?_
 refine Dr 15 C (Aq C)<|Dr 16 C (Ef C)<|Dr 17 C (Af cn4 C)<|Dr 18 C (Af cn8 C)<|Dr 19 C (Bm (vs:=[_,_,_,_,_]) V6) ?_
 refine Dr 20 C (Af bf6 C)<|Ds1 21<|Se0 C (Bs (cs:=[_,_,_,_,_,_,_,_,_,_,_,_,_,_,_,_,_,_,_,_,_,_,_,_,_]) (vs:=[_,_,_]) (cs':=[_,_,_,_,_,_,_,_,_,_,_,_,_,_,_,_,_,_,_,_,_,_,_,_,_]) ab7) ?_
 refine Dr 22 C (Af cf6 C)<|Ds1 23<|Se0 C (Bs (cs:=[_,_,_,_,_,_,_,_,_,_,_,_,_,_,_,_,_,_,_,_,_,_,_,_,_]) (vs:=[_,_,_]) (cs':=[_,_,_,_,_,_,_,_,_,_,_,_,_,_,_,_,_,_,_,_,_,_,_,_,_]) L4) ?_
 refine Dr 24 C (Af bf5 C)<|Ds1 25<|Se0 C (Bs (cs:=[_,_,_,_,_,_,_,_,_,_,_,_,_,_,_,_,_,_,_,_,_,_,_,_,_]) (vs:=[_,_,_,_]) (cs':=[_,_,_,_,_,_,_,_,_,_,_,_,_,_,_,_,_,_,_,_,_,_,_,_,_]) ad3) ?_
 refine Dr 26 C (Af bf4 C)<|Ds1 27<|Se0 C (Bs (cs:=[_,_,_,_,_,_,_,_,_,_,_,_,_,_,_,_,_,_,_,_,_,_,_,_,_]) (vs:=[_,_,_,_,_]) (cs':=[_,_,_,_,_,_,_,_,_,_,_,_,_,_,_,_,_,_,_,_,_,_,_,_,_]) V6) ?_
 refine Dz<|Ao<|A1 (S2 2 4)<|Ak<|Gr (j8.lj H2) ?_
 refine Ge0 (Eff.sq H2) ?_
 refine Ga C<|Ar<|B3 ?_
 have cq:X1=(evs.foldl ep X):=by rw [hX,Fv om]
 subst cq
 exact Cp C H2 C C mm C ((Y++I)) Ah ⟨lw,pw,Y,rfl,cg,ce,rfl⟩
end Go.Sl
namespace Go.Sl
open Go.Proofs
set_option maxRecDepth 4000
variable{last nw:Int}{κ:Ctx}{I:List Item}{ad ae ah ai aj ak an ao ap aq ar au x3 x4 x5 x6 x9:Value}
attribute [local irreducible] W G V D A j8 Eff
section
variable {nd kd wd mo T:Int}{X X1:List Lk}{o:List Ev}{e:Ev}
theorem dw5(hv:q7 nd X1=0)(hw:s7 kd wd mo=0)(hT:T<=1048576)(h:0<(P3 kd wd mo T X1).length) :
  Q0 kd wd mo T (X1,o)=Q0 kd wd mo T ((P3 kd wd mo T X1).foldl ep X1,o++P3 kd wd mo T X1)/\((P3 kd wd mo T X1).foldl ep X1).length<X1.length/\q7 nd ((P3 kd wd mo T X1).foldl ep X1)=0/\(∀x∈P3 kd wd mo T X1,H7 nd x)/\(o++P3 kd wd mo T X1).length+((P3 kd wd mo T X1).foldl ep X1).length=o.length+X1.length:=by
 have M:=ck8.1 h
 have hk:=M.1
 subst hk
 have he:P3 2 wd mo T X1=s3 2 wd mo (ab5 X1+wd) X1:=by unfold P3;rw [B_ M]
 have hs:=ae5 (kd:=2) (wd:=wd) (mo:=mo) (nw:=ab5 X1+wd) hv
 have hl:=ag0 2 wd mo (ab5 X1+wd) X1
 have aa:=at5 (wd:=wd) (mo:=mo) M.2.1
 have ad:=at3 hw
 obtain ⟨⟨x,hx,e0⟩,_⟩:=T0 M.2.1
 have ab:=cv5 hv x hx
 rw [he,hs]
 refine ⟨?_,aa,bn2 hv,am2 hv om,by rw [By];omega⟩
 unfold Q0
 rw [B_ rfl,B_ rfl]
 exact ae7 M.2
theorem fn6(h:¬0<(P3 kd wd mo T X1).length):Q0 kd wd mo T (X1,o)=(X1,o):=by
 unfold Q0
 by_cases hk:kd=2
 ·rw [B_ hk]
  exact Q5 λq=>h<|ck8.2 ⟨hk,q⟩
 rw [An hk]
theorem step_end(M:Q0 kd wd mo e.tm (X,[])=(X1,o))(hk:¬kd=3):p5 kd wd mo (X,[]) e=(ep X1 e,o++[e]):=by
 unfold p5 cr5
 rw [M,An hk]
theorem bw5(M:Q0 kd wd mo e.tm (X,[])=(X1,o))(hk:kd=3)(hv:q7 nd (ep X1 e)=0):p5 kd wd mo (X,[]) e=((s3 kd wd mo e.tm (ep X1 e)).foldl ep (ep X1 e),o++[e]++s3 kd wd mo e.tm (ep X1 e)):=by
 unfold p5 cr5
 rw [M,B_ hk,ae5 hv]
theorem fc0(hw:s7 kd wd mo=0)(hv:q7 nd X=0)(hn:0<=nw/\nw<=1048576)(M:∀x∈X,x.tm<=nw):ad1 nd X kd wd mo nw=0:=by
 unfold ad1
 rw [An om,An om,An]
 rintro (h|h|h)
 ·omega
 ·omega
 obtain ⟨x,hx,h2⟩:=Kc.1 h
 have:=M x hx
 have:=Fq h2
 omega
theorem fq7(h:∀x∈X,x.tm<=last)(hv:q7 nd X=0)(hk:¬kd=2)(M:Q0 kd wd mo T (X,[])=(X1,o)):X1=X:=by
 unfold Q0 at M
 rw [An hk] at M
 exact (Prod.mk.inj M).1.symm
theorem fm7(h:∀x∈X,x.tm<=last)(M:last<=e.tm):∀x∈ep X e,x.tm<=e.tm:=λx hx=>by
 unfold ep at hx
 split at hx
 ·rcases ba5 hx with rfl|hx
  ·exact Hl _
  have:=h x hx;omega
 have:=h x (Gg.1 hx).1;omega
end
theorem fk3{nd kd wd mo tq:Int}{la:Option Addr}{lc:Nat}{X:List Lk}{ax av aw:Value}(hl:Sl κ I (.slice la X.length lc) X)(hv:q7 nd X=0)(hw:s7 kd wd mo=0)(ht:0<=tq/\tq<=1048576):eu Tryz.prog κ 124 [.agg #[e7 kd,e7 wd,e7 mo,x3,x4,x5,x6,e7 nd,.slice la X.length lc,x9,aq,aj,au,ae,ah,ai,ax,ap,ao,ad,av,aw,ak,an,ar],e7 tq] I (λr J=>∃(a:Option Addr) (c:Nat),r = .slice a (P3 kd wd mo tq X).length c/\J=vk 54 a c (P3 kd wd mo tq X)::I):=by
 have a5:=at3 hw
 have a0:=q9 (F1 hv)
 rw [G5] at a0
 refine Ce2 Tryz.func124 C C ?_
 refine Ak<|Ge1 (Au (cs:=[_,_,_,_,_,_,_,_,_,_,_,_,_,_,_,_,_,_,_,_,_,_,_,_,_]) C C C) λb1=>Z ?_
 refine Am C (λc13=>Z ?_)<|λc13=>Z ?_
 ·have hE:(P3 kd wd mo tq X)=[]:=dw6 c13
  exact Al C C (vk 54 none 0 (P3 kd wd mo tq X)::I) (by unfold vk;rw [hE];exact (A9 (show Fit κ _ I from Az)<|B7 (α:=Ev) _ _)) ⟨none,0,by rw [hE]<;>rfl,rfl⟩
 refine B9 (σ:=Nat×Int×(Option Addr)×Nat×(List Ev)) (λs=>([(1,e7 tq),(2,pt b1),(5,e7<|s.2.1),(6,.slice s.2.2.1 s.2.2.2.2.length s.2.2.2.1),(18,.slice la X.length lc),(19,e7 ((X.length:Nat):Int)),(20,e7 ((s.1:Nat):Int))]:Env)) (λs=>vk 54 s.2.2.1 s.2.2.2.1 s.2.2.2.2::e8 b1 [e7 kd,e7 wd,e7 mo,x3,x4,x5,x6,e7 nd,.slice la X.length lc,x9,aq,aj,au,ae,ah,ai,ax,ap,ao,ad,av,aw,ak,an,ar] 47::I) (λs=>(s.1<=X.length)/\(ch8 wd tq (X.take s.1) s.2.1 s.2.2.2.2)/\(s.2.2.2.2.length<=s.1)) (λs=>X.length - s.1) (0,tq+1,none,0,[]) ⟨om,ch8.zero,(by simp)⟩ (cx2<|Aa Co<|Aa (Db C<|by first|rfl|simp)<|cx2<|Aa Co Bb) (A9 (show Fit κ _ _ from Az)<|B7 (α:=Ev) _ _) ?_
 rintro ⟨k,tt,oa,oc,out⟩ hp
 dsimp only at hp ⊢
 obtain ⟨hk,ho,ba⟩:=hp
 have a6:=ho.le
 refine Z ?_
 refine Am C (λa4=>Z ?_)<|λa4=>Z ?_
 ·have a8:=bh0 hv (k:Int) om om
  refine Ge1 (Aj J2 C) λb2=>Ge0 (Fb J2)<|Z ?_
  refine Am C (λM=>Z ?_)<|λM=>Z ?_
  ·refine A3 (d:=37) C (λaa=>Z ?_) (λaa=>?_)
   ·refine Am C (λab=>Z ?_) (λab=>?_)
    ·refine Ge1 (B2 (α:=Ev) (cs:=[e7 2,e7<|((e_ X k).tm)+wd,e7<|(e_ X k).u,e7<|(e_ X k).v,e7 0,e7 0,e7 0]) (xs:=[⟨2,((e_ X k).tm)+wd,(e_ X k).u,(e_ X k).v,0,0,0⟩]) Ad s9 C C dc dc C kr C C) λa7=>?_
     refine Ge2 (E7 (α:=Ev) (ys:=([⟨2,((e_ X k).tm)+wd,(e_ X k).u,(e_ X k).v,0,0,0⟩]:List Ev)) Ad s9 C C C A5 lcn dc C) λay az=>Z ?_
     exact Bt ((k+1),(((e_ X k).tm)+wd),(ay),(az),(([⟨2,((e_ X k).tm)+wd,(e_ X k).u,(e_ X k).v,0,0,0⟩]:List Ev)))<|by dsimp only;exact ⟨om,(by rw [Ca X k om];first|exact ho.less M|exact ho.eq aa om|exact ho.no M om),olp⟩
    omega
   exact absurd rfl aa
  refine A3 (d:=37) C (λaa=>Z ?_)<|λaa=>Z ?_
  ·refine Am C (λab=>Z ?_) (λab=>Z ?_)
   ·refine Ge1 (B2 (α:=Ev) (cs:=[e7 2,e7<|((e_ X k).tm)+wd,e7<|(e_ X k).u,e7<|(e_ X k).v,e7 0,e7 0,e7 0]) (xs:=[⟨2,((e_ X k).tm)+wd,(e_ X k).u,(e_ X k).v,0,0,0⟩]) Ad s9 C C dc dc C kr C C) λa9=>?_
    refine Ge2 (Br (α:=Ev) (e:=54) (xs:=out) (ys:=([⟨2,((e_ X k).tm)+wd,(e_ X k).u,(e_ X k).v,0,0,0⟩]:List Ev)) Ad s9 C C C mm A5 lcn dc C<|λ_ _=>am) λa3 a1=>Z ?_
    exact Bt ((k+1),(tt),(a3),(a1),(out++([⟨2,((e_ X k).tm)+wd,(e_ X k).u,(e_ X k).v,0,0,0⟩]:List Ev)))<|by dsimp only;exact ⟨om,(by rw [Ca X k om];first|exact ho.less M|exact ho.eq aa om|exact ho.no M om),olp⟩
   exact Bt ((k+1),(tt),(oa),(oc),(out))<|by dsimp only;exact ⟨om,(by rw [Ca X k om];first|exact ho.less M|exact ho.eq aa om|exact ho.no M om),olp⟩
  exact Bt ((k+1),(tt),(oa),(oc),(out))<|by dsimp only;exact ⟨om,(by rw [Ca X k om];first|exact ho.less M|exact ho.eq aa om|exact ho.no M om),olp⟩
 have hE:out=(P3 kd wd mo tq X):=by rw [show X.take k=X from Fv om] at ho;exact ho.all om
 exact Al C C (vk 54 oa oc (P3 kd wd mo tq X)::I) (by unfold vk;rw [←hE];exact Az) ⟨oa,oc,by rw [←hE],rfl⟩
theorem bu2{nd:Int}{e:Ev}{x0 x1 x2 x8 aa ab M:Value}(hx:H7 nd e):eu Tryz.prog κ 46 [.agg #[x0,x1,x2,x3,x4,x5,x6,e7 nd,x8,x9,an,ae,ap,aa,ab,ad,au,ak,aj,M,aq,ar,ah,ai,ao],.agg (ez e).toArray] I (λr J=>r = .bool true/\I=J):=by
 refine Ce2 Tryz.func46 C C ?_
 refine Ak<|Ge1 (Au (cs:=[_,_,_,_,_,_,_,_,_,_,_,_,_,_,_,_,_,_,_,_,_,_,_,_,_]) C C C) λb1=>Ge1 (Au (cs:=[_,_,_,_,_,_,_]) C C C) λb2=>Z ?_
 have hf:=hx.fits
 exact Al C C I Ah ⟨by rw [As];split<;>omega,rfl⟩
theorem ci3{nd kd wd mo:Int}{a0:Option Addr}{c0:Nat}{xs:List Lk}(hl:Sl κ I (.slice a0 xs.length c0) xs)(M:xs.length<=1000000)(hz:ad1 nd xs kd wd mo nw=0):eu Tryz.prog κ 126 [.agg #[e7 nd,.slice a0 xs.length c0],.agg #[e7 kd,e7 wd,e7 mo],e7 nw] I λr J=>∃a c,r = .tuple #[.slice a (s3 kd wd mo nw xs).length c,e7 0]/\J=vk 54 a c (s3 kd wd mo nw xs)::I:=
 (cz9 hl M).mono λr J h=>by
  rcases h with h|⟨a,c,_,h1,h2⟩
  ·exact absurd hz h.1
  exact ⟨a,c,h1,h2⟩
end Go.Sl
