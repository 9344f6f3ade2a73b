/- A part of the proofs of statements of this seat: contracts of functions, and the plain laws that they lean on. No conditions. -/
import Derived.Test.YtoagcglbkeomgaaGreatDoorV32
set_option linter.unusedVariables false
set_option linter.unusedSimpArgs false
set_option linter.unusedSectionVars false
open Go.Proofs.Tryz (prog)
set_option maxHeartbeats 4000000
namespace Go.Sl
open Go.Proofs
set_option maxRecDepth 4000
variable{bd i kd mo nd wd:Int}{Y:List Item}{b:Nat}{lv:Value}{ls:List Int}
variable {κ:Ctx}{I:List Item}
structure bu4 (κ:Ctx) (nd kd wd mo bd:Int) (k:EnS) (v:KpV) (Y:List Item):Prop where
 rn:2<=nd/\nd<=6
 ok:bj0 nd kd wd mo bd k
 f:KpF κ Y nd k v
 wl:k.b.ws.length<=8
 lt:k.b.lt<=60
theorem bu4.mk'{κ:Ctx}{k:EnS}{v:KpV}{T:List Item}(hT:T=[])(h1:2<=nd/\nd<=6)(h2:bj0 nd kd wd mo bd k)(M:KpF κ (Y++T) nd k v)(h4:k.b.ws.length<=8)(h5:k.b.lt<=60):bu4 κ nd kd wd mo bd k v Y:=by
 subst hT
 rw [Gq] at M
 exact ⟨h1,h2,M,h4,h5⟩
theorem bu4.tm{κ:Ctx}{k:EnS}{v:KpV}(h:bu4 κ nd kd wd mo bd k v Y):0<=k.tm/\k.tm<=60/\k.b.mr<=60:=by
 have h1:=h.ok.tm
 have h2:=h.ok.buf.mr
 have M:=h.lt
 omega
theorem ci0(hl:∀q,Sl κ (ap5 b lv q::I) lv ls)(h0:0<=i)   :
    eu prog κ 35 [(pt b)] (e8 b [lv,e7 i] 85::I) (λr J=>∃y:Int×Int×Int×Int×Int×EnS×KpV×(List Item)×Int,((r = .agg (kx y.2.1 y.2.2.1 y.2.2.2.1 y.2.2.2.2.1 y.1 y.2.2.2.2.2.1 y.2.2.2.2.2.2.1).toArray/\bu4 κ y.1 y.2.1 y.2.2.1 y.2.2.2.1 y.2.2.2.2.1 y.2.2.2.2.2.1 y.2.2.2.2.2.2.1 y.2.2.2.2.2.2.2.1)/\0<=y.2.2.2.2.2.2.2.2)/\J=y.2.2.2.2.2.2.2.1++ap5 b lv y.2.2.2.2.2.2.2.2::I):=by
 obtain ⟨T,a5⟩:∃T:List Item,T=[]:=⟨_,rfl⟩
 have hH:Has I T:=by rw [a5];exact Has.nil I
 refine Ce1 Tryz.func35 C C ?_
 refine Ak<|Ge1 (Aj H2 C) λb1=>Ar<|Ak<|Gm C<|G.e (Ac c_ C C<|Q1 ta1 (Bg (hl _) Ah) om om) ?_
 rintro _ _ ⟨_,_,⟨x2,i3,rfl,bf,hi3,rfl⟩,rfl,rfl⟩
 show G prog κ _ _ _ _ ([(12,e7 x2),(11,pt b),(2,pt b1),(0,pt b)]:Env) (e8 b1 zk 47::e8 b [lv,e7 i3] 85::I)
 refine Gr (Rad C C)<|Ga C<|Ar<|Ak<|Gm C<|Gm C<|G.e (Ac c_ C C<|Q1 ta1 (Bg (hl _) Ah) om om) ?_
 rintro _ _ ⟨_,_,⟨x4,i5,rfl,bk,bn,rfl⟩,rfl,rfl⟩
 show G prog κ _ _ _ _ ([(17,e7 x4),(16,pt b),(15,e7<|2+x2),(3,e7<|2+x2),(13,e7<|2+x2),(12,e7 x2),(11,pt b),(2,pt b1),(0,pt b)]:Env) (e8 b1 zk 47::e8 b [lv,e7 i5] 85::I)
 refine Gm C<|G.e (Ac c_ C C<|cc0 ta1 (λ_=>Bg (hl _) Az) om  ) ?_
 rintro _ _ ⟨_,_,⟨⟨ae,ad,ab,i9⟩,⟨⟨rfl,ar⟩,a8⟩,rfl⟩,rfl,rfl⟩
 show G prog κ _ _ _ _ ([(19,.agg #[e7 ae,e7 ad,e7 ab]),(18,pt b),(17,e7 x4),(16,pt b),(15,e7<|2+x2),(3,e7<|2+x2),(13,e7<|2+x2),(12,e7 x2),(11,pt b),(2,pt b1),(0,pt b)]:Env) (e8 b1 zk 47::e8 b [lv,e7 i9] 85::I)
 have a8:0<=i9:=a8
 have ar:s7 ae ad ab=0:=ar
 refine G.e (Ac c_ C C<|dq0 (nd:=2+x2) (bd:=x4) T om ar om) ?_
 rintro _ _ ⟨_,_,⟨aa,Y11,rfl,az,rfl⟩,rfl,rfl⟩
 refine Dq (J:=e8 b1 zk 47::e8 b [lv,e7 i9] 85::(Y11++I)) (Cj<|C1 (A:=Y11) (L:=[e8 b1 zk 47,e8 b [lv,e7 i9] 85]) (T:=I)) ?_
 show G prog κ _ _ _ _ ([(20,.tuple #[.agg (kx ae ad ab x4 (2+x2) ((⟨⟨-1, -1,[]⟩,[],0⟩:EnS)) aa).toArray,e7 0]),(19,.agg #[e7 ae,e7 ad,e7 ab]),(18,pt b),(17,e7 x4),(16,pt b),(15,e7<|2+x2),(3,e7<|2+x2),(13,e7<|2+x2),(12,e7 x2),(11,pt b),(2,pt b1),(0,pt b)]:Env) (e8 b1 zk 47::e8 b [lv,e7 i9] 85::(Y11++I))
 refine Gm C<|Gr (Bj C C)<|Gr (Bj C C)<|Ge1 (Aj H2 C) λao=>Ge0 (Eff.sq H2) ?_
 refine Ga C<|Ar<|A1 (S4 4 3 2 0)<|Ak<|Gm C<|Gm C<|G.e (Ac c_ C C<|cy7 ta1 (λ_=>Bg (hl _) Az) om  om om) ?_
 rintro _ _ ⟨_,_,⟨⟨ah,ai,M,an⟩,⟨⟨rfl,ap⟩,ay⟩,rfl⟩,rfl,rfl⟩
 show G prog κ _ _ _ _ ([(25,.slice ah M.length ai),(24,e7<|2+x2),(23,pt b),(4,pt ao),(3,e7<|2+x2),(2,pt b1),(0,pt b)]:Env) (vk 54 ah ai M::e8 ao (kx ae ad ab x4 (2+x2) ((⟨⟨-1, -1,[]⟩,[],0⟩:EnS)) aa) 47::e8 b1 zk 47::e8 b [lv,e7 an] 85::(Y11++I))
 have ay:0<=an:=ay
 dsimp only at ap
 have bm:=ap.2
 refine Ga C<|Ar<|Ax<|Ak<|Ga C<|Ar<|A7<|B9 (σ:=Nat×EnS×KpV×(List Item)) (λs=>([(2,pt b1),(4,pt ao),(6,.slice ah M.length ai),(7,e7 ((s.1:Nat):Int))]:Env)) (λs=>vk 54 ah ai M::e8 ao (kx ae ad ab x4 (2+x2) s.2.1 s.2.2.1) 47::e8 b1 zk 47::e8 b [lv,e7 an] 85::(s.2.2.2++I)) (λs=>(s.1<=M.length)/\(bj0 (2+x2) ae ad ab x4 s.2.1)/\(KpF κ (s.2.2.2++T) (2+x2) s.2.1 s.2.2.1)/\(s.2.1.b.ws.length<=s.1)/\(s.2.1.b.lt<=60)) (λs=>M.length - s.1) (0,(⟨⟨-1, -1,[]⟩,[],0⟩:EnS),aa,Y11) (show ((0:Nat)<=M.length)/\(bj0 (2+x2) ae ad ab x4 ((⟨⟨-1, -1,[]⟩,[],0⟩:EnS):EnS))/\(KpF κ ((Y11:List Item)++T) (2+x2) ((⟨⟨-1, -1,[]⟩,[],0⟩:EnS):EnS) (aa:KpV))/\(((⟨⟨-1, -1,[]⟩,[],0⟩:EnS):EnS).b.ws.length<=(0:Nat))/\(((⟨⟨-1, -1,[]⟩,[],0⟩:EnS):EnS).b.lt<=60) from ⟨om,(bj0.open_ om ar om),az,(by show (0:Nat)<=0;omega),(by show (-1:Int)<=60;omega)⟩) (cx2<|Aa C<|Aa Co Bb) (show Fit κ _ (vk 54 ah ai M::e8 ao (ky ae ad ab x4 (((⟨⟨-1, -1,[]⟩,[],0⟩:EnS)).b.lt) (((⟨⟨-1, -1,[]⟩,[],0⟩:EnS)).b.mr) (aa).w.a ((⟨⟨-1, -1,[]⟩,[],0⟩:EnS)).b.ws.length (aa).w.c (2+x2) (aa).l.a ((⟨⟨-1, -1,[]⟩,[],0⟩:EnS)).S.length (aa).l.c (j5 ((⟨⟨-1, -1,[]⟩,[],0⟩:EnS)).S) (aa).p (((⟨⟨-1, -1,[]⟩,[],0⟩:EnS)).tm)) 47::e8 b1 zk 47::e8 b [lv,e7 an] 85::((Y11)++I)) from Az) ?_
 rintro ⟨i,k,v,Y⟩ hp
 dsimp only at hp ⊢
 obtain ⟨hi,hK,hF,bi,hlt⟩:=hp
 refine Ax<|Ak<|Gm C<|Gm C<|Gr (Bk Ad C)<|Gr (Bl C C)<|Ar<|Am C (λbb=>?_)<|λbb=>?_
 ·refine Bc (Ao<|Ax<|A7<|Ax<|Ba mixed<|Bx (vk 54 ah ai M::e8 ao (kx ae ad ab x4 (2+x2) k v) 47::e8 b1 zk 47::e8 b [lv,e7 an] 85::(Y++I)) 14<|Cd 0 C kr kr kr C kr (λ_ _ _ _ h=>h) (Ap C) C C ta0 (j8.lj H2) ?_)
  refine Cd 1 C kr kr kr C kr (λ_ _ _ _ h=>h) (Ap C) C C ta0 (Aq C) ?_
  refine Cd 2 C kr kr kr C kr (λ_ _ _ _ h=>h) (Ap C) C C ta0 (Aq C) ?_
  refine Cd 3 C kr kr kr C kr (λ_ _ _ _ h=>h) (Ap C) C C ta0 (A2 (α:=Ev) (xs:=M) Ad s9 C C A5 om om) ?_
  refine Cd 4 C kr kr kr C kr (λ_ _ _ _ h=>h) (Ap C) C C ta0 (C6 (α:=Ev) (xs:=M) s9 C A5 om om) ?_
  have ax:=(ap.1 _<|Bp (xs:=M) (i:=(i:Int)) om om).1
  have bh:=(ap.1 _<|Bp (xs:=M) (i:=(i:Int)) om om).2
  refine C9 (rs:=[5,10]) kr C C<|Ej ?_<|Do ?_
  ·refine Se C (Ac c_ C C<|cq9 (T:=(Y++T)) (k:=k) (v:=v) ta2 hF hK om om ax) ?_
   rintro _ _ ⟨_,_,(⟨au,rfl,rfl⟩|⟨au,ak,Y18,a3,a6,rfl,a0,a9,rfl⟩),rfl,rfl⟩
   ·refine ⟨ta0,?_⟩
    show D prog κ _ _ _ _ _ _ _ ([(38,.tuple #[.agg zk.toArray,.slice none 0 0,e7 10]),(37,.agg (ez (e_ M i)).toArray),(36,F0 (.slice ah M.length ai)<|((i:Int)).toNat*Enc.sz Ev),(35,e7<|(i:Int)),(34,.slice ah M.length ai),(33,.agg (kx ae ad ab x4 (2+x2) k v).toArray),(29,.bool<|decide<|(i:Int)<((M.length:Nat):Int)),(28,e7 ((M.length:Nat):Int)),(27,.slice ah M.length ai),(26,e7<|(i:Int)),(2,pt b1),(4,pt ao),(6,.slice ah M.length ai),(7,e7<|(i:Int))]:Env) (vk 54 ah ai M::e8 ao (kx ae ad ab x4 (2+x2) k v) 47::e8 b1 zk 47::e8 b [lv,e7 an] 85::(Y++I))
    refine Cd 6 C kr kr kr C kr (λ_ _ _ _ h=>h) (Ap C) C C ta0 (Aq C) ?_
    refine Cd 7 C kr kr kr C kr (λ_ _ _ _ h=>h) (Ap C) C C ta0 (Bj C C) ?_
    refine Cd 8 C kr kr kr C kr (λ_ _ _ _ h=>h) (Ap C) C C ta0 (Bj C C) ?_
    refine Cd 9 C kr kr kr C kr (λ_ _ _ _ h=>h) (Ap C) C C ta0 (Bj C C) ?_
    refine Ds1 10<|Se C (Aj H2 C) ?_
    rintro _ _ ⟨bg,rfl,rfl⟩
    refine ⟨ta0,?_⟩
    refine Ds1 11<|Se C (Eff.sq H2) ?_
    rintro _ _ ⟨rfl,rfl⟩
    refine ⟨ta0,?_⟩
    refine Cd 12 C kr kr kr C kr (λ_ _ _ _ h=>h) (Ap C) C C ta0 (Bh C) ?_
    refine Cd 13 C kr kr kr C kr (λ_ _ _ _ h=>h) (Ap C) C C ta0 (Bh C) ?_
    refine Dz<|Ao<|A1 (S6 10 8 2 4 6 7)<|Ak<|Gm C<|Gr (Cx C C)<|Ar<|Am C (λaq=>?_)<|λaq=>?_
    ·exact absurd aq dc
    exact Bc<|Av<|Ao<|A6<|Gm C<|Gr (Rad C C)<|Ga C<|Bq<|Bt ((i+1),(k),(v),(Y))<|by dsimp only;exact ⟨om,hK,hF,om,hlt⟩
   refine ⟨ta0,?_⟩
   refine D.fit (J:=vk 54 ah ai M::e8 ao (kx ae ad ab x4 (2+x2) k v) 47::e8 b1 zk 47::e8 b [lv,e7 an] 85::(Y18++(Y++I))) (Cj<|C1 (A:=Y18) (L:=[vk 54 ah ai M,e8 ao (kx ae ad ab x4 (2+x2) k v) 47,e8 b1 zk 47,e8 b [lv,e7 an] 85]) (T:=(Y++I))) ?_
   show D prog κ _ _ _ _ _ _ _ ([(38,.tuple #[.agg (kx ae ad ab x4 (2+x2) ((k.feed ae ad ab x4<|e_ M i)) ak).toArray,.slice a3 ((k.da9 ae ad ab x4<|e_ M i)).length a6,e7 0]),(37,.agg (ez (e_ M i)).toArray),(36,F0 (.slice ah M.length ai)<|((i:Int)).toNat*Enc.sz Ev),(35,e7<|(i:Int)),(34,.slice ah M.length ai),(33,.agg (kx ae ad ab x4 (2+x2) k v).toArray),(29,.bool<|decide<|(i:Int)<((M.length:Nat):Int)),(28,e7 ((M.length:Nat):Int)),(27,.slice ah M.length ai),(26,e7<|(i:Int)),(2,pt b1),(4,pt ao),(6,.slice ah M.length ai),(7,e7<|(i:Int))]:Env) (vk 54 ah ai M::e8 ao (kx ae ad ab x4 (2+x2) k v) 47::e8 b1 zk 47::e8 b [lv,e7 an] 85::(Y18++(Y++I)))
   refine Cd 6 C kr kr kr C kr (λ_ _ _ _ h=>h) (Ap C) C C ta0 (Aq C) ?_
   refine Cd 7 C kr kr kr C kr (λ_ _ _ _ h=>h) (Ap C) C C ta0 (Bj C C) ?_
   refine Cd 8 C kr kr kr C kr (λ_ _ _ _ h=>h) (Ap C) C C ta0 (Bj C C) ?_
   refine Cd 9 C kr kr kr C kr (λ_ _ _ _ h=>h) (Ap C) C C ta0 (Bj C C) ?_
   refine Ds1 10<|Se C (Aj H2 C) ?_
   rintro _ _ ⟨bj,rfl,rfl⟩
   refine ⟨ta0,?_⟩
   refine Ds1 11<|Se C (Eff.sq H2) ?_
   rintro _ _ ⟨rfl,rfl⟩
   refine ⟨ta0,?_⟩
   refine Cd 12 C kr kr kr C kr (λ_ _ _ _ h=>h) (Ap C) C C ta0 (Bh C) ?_
   refine Cd 13 C kr kr kr C kr (λ_ _ _ _ h=>h) (Ap C) C C ta0 (Bh C) ?_
   refine Dz<|Ao<|A1 (S6 10 8 2 4 6 7)<|Ak<|Gm C<|Gr (Cx C C)<|Ar<|Am C (λaq=>?_)<|λaq=>?_
   ·refine A6 (Gr (j8.lj H2) ?_)
    refine Ge0 (Eff.sq H2) ?_
    refine Bq<|Av<|Ao<|A6<|Gm C<|Gr (Rad C C)<|Ga C<|Bq ?_
    have ba:=bg2 (kd:=ae) (wd:=ad) (mo:=ab) (bd:=x4) k (e_ M i)
    exact Bt ((i+1),((k.feed ae ad ab x4<|e_ M i)),(ak),((Y18++Y))) (by dsimp only;exact ⟨om,(hK.feed ax au),(by rw [Fr];exact a0),om,(by show max k.b.lt (e_ M i).tm<=60;omega)⟩) (hI:=by (try dsimp only);exact ta7)
   exact absurd dc aq
  refine Se C (Aj H2 C) ?_
  rintro _ _ ⟨aw,rfl,rfl⟩
  refine ⟨ta0,?_⟩
  refine Ds1 5<|Se C (Ac c_ C C<|cq9 (T:=(Y++T)) (k:=k) (v:=v) ta2 hF hK om om ax) ?_
  rintro _ _ ⟨_,_,(⟨av,rfl,rfl⟩|⟨av,aj,Y25,a7,a4,rfl,a1,be,rfl⟩),rfl,rfl⟩
  ·refine ⟨ta0,?_⟩
   show D prog κ _ _ _ _ _ _ _ ([(38,.tuple #[.agg zk.toArray,.slice none 0 0,e7 10]),(8,pt aw),(37,.agg (ez (e_ M i)).toArray),(36,F0 (.slice ah M.length ai)<|((i:Int)).toNat*Enc.sz Ev),(35,e7<|(i:Int)),(34,.slice ah M.length ai),(33,.agg (kx ae ad ab x4 (2+x2) k v).toArray),(29,.bool<|decide<|(i:Int)<((M.length:Nat):Int)),(28,e7 ((M.length:Nat):Int)),(27,.slice ah M.length ai),(26,e7<|(i:Int)),(2,pt b1),(4,pt ao),(6,.slice ah M.length ai),(7,e7<|(i:Int))]:Env) (e8 aw zk 47::vk 54 ah ai M::e8 ao (kx ae ad ab x4 (2+x2) k v) 47::e8 b1 zk 47::e8 b [lv,e7 an] 85::(Y++I))
   refine Cd 6 C kr kr kr C kr (λ_ _ _ _ h=>h) (Ap C) C C ta0 (Aq C) ?_
   refine Cd 7 C kr kr kr C kr (λ_ _ _ _ h=>h) (Ap C) C C ta0 (Bj C C) ?_
   refine Cd 8 C kr kr kr C kr (λ_ _ _ _ h=>h) (Ap C) C C ta0 (Bj C C) ?_
   refine Cd 9 C kr kr kr C kr (λ_ _ _ _ h=>h) (Ap C) C C ta0 (Bj C C) ?_
   refine Ds1 11<|Se C (Eff.sq H2) ?_
   rintro _ _ ⟨rfl,rfl⟩
   refine ⟨ta0,?_⟩
   refine Cd 12 C kr kr kr C kr (λ_ _ _ _ h=>h) (Ap C) C C ta0 (Bh C) ?_
   refine Cd 13 C kr kr kr C kr (λ_ _ _ _ h=>h) (Ap C) C C ta0 (Bh C) ?_
   refine Dz<|Ao<|A1 (S6 10 8 2 4 6 7)<|Ak<|Gm C<|Gr (Cx C C)<|Ar<|Am C (λaq=>?_)<|λaq=>?_
   ·exact absurd aq dc
   exact Bc<|Av<|Ao<|A6<|Gm C<|Gr (Rad C C)<|Ga C<|Bq<|Bt ((i+1),(k),(v),(Y))<|by dsimp only;exact ⟨om,hK,hF,om,hlt⟩
  refine ⟨ta0,?_⟩
  refine D.fit (J:=e8 aw zk 47::vk 54 ah ai M::e8 ao (kx ae ad ab x4 (2+x2) k v) 47::e8 b1 zk 47::e8 b [lv,e7 an] 85::(Y25++(Y++I))) (Cj<|C1 (A:=Y25) (L:=[e8 aw zk 47,vk 54 ah ai M,e8 ao (kx ae ad ab x4 (2+x2) k v) 47,e8 b1 zk 47,e8 b [lv,e7 an] 85]) (T:=(Y++I))) ?_
  show D prog κ _ _ _ _ _ _ _ ([(38,.tuple #[.agg (kx ae ad ab x4 (2+x2) ((k.feed ae ad ab x4<|e_ M i)) aj).toArray,.slice a7 ((k.da9 ae ad ab x4<|e_ M i)).length a4,e7 0]),(8,pt aw),(37,.agg (ez (e_ M i)).toArray),(36,F0 (.slice ah M.length ai)<|((i:Int)).toNat*Enc.sz Ev),(35,e7<|(i:Int)),(34,.slice ah M.length ai),(33,.agg (kx ae ad ab x4 (2+x2) k v).toArray),(29,.bool<|decide<|(i:Int)<((M.length:Nat):Int)),(28,e7 ((M.length:Nat):Int)),(27,.slice ah M.length ai),(26,e7<|(i:Int)),(2,pt b1),(4,pt ao),(6,.slice ah M.length ai),(7,e7<|(i:Int))]:Env) (e8 aw zk 47::vk 54 ah ai M::e8 ao (kx ae ad ab x4 (2+x2) k v) 47::e8 b1 zk 47::e8 b [lv,e7 an] 85::(Y25++(Y++I)))
  refine Cd 6 C kr kr kr C kr (λ_ _ _ _ h=>h) (Ap C) C C ta0 (Aq C) ?_
  refine Cd 7 C kr kr kr C kr (λ_ _ _ _ h=>h) (Ap C) C C ta0 (Bj C C) ?_
  refine Cd 8 C kr kr kr C kr (λ_ _ _ _ h=>h) (Ap C) C C ta0 (Bj C C) ?_
  refine Cd 9 C kr kr kr C kr (λ_ _ _ _ h=>h) (Ap C) C C ta0 (Bj C C) ?_
  refine Ds1 11<|Se C (Eff.sq H2) ?_
  rintro _ _ ⟨rfl,rfl⟩
  refine ⟨ta0,?_⟩
  refine Cd 12 C kr kr kr C kr (λ_ _ _ _ h=>h) (Ap C) C C ta0 (Bh C) ?_
  refine Cd 13 C kr kr kr C kr (λ_ _ _ _ h=>h) (Ap C) C C ta0 (Bh C) ?_
  refine Dz<|Ao<|A1 (S6 10 8 2 4 6 7)<|Ak<|Gm C<|Gr (Cx C C)<|Ar<|Am C (λaq=>?_)<|λaq=>?_
  ·refine A6 (Gr (j8.lj H2) ?_)
   refine Ge0 (Eff.sq H2) ?_
   refine Bq<|Av<|Ao<|A6<|Gm C<|Gr (Rad C C)<|Ga C<|Bq ?_
   have ba:=bg2 (kd:=ae) (wd:=ad) (mo:=ab) (bd:=x4) k (e_ M i)
   exact Bt ((i+1),((k.feed ae ad ab x4<|e_ M i)),(aj),((Y25++Y))) (by dsimp only;exact ⟨om,(hK.feed ax av),(by rw [Fr];exact a1),om,(by show max k.b.lt (e_ M i).tm<=60;omega)⟩) (hI:=by (try dsimp only);exact ta7)
  exact absurd dc aq
 refine Ci<|Aw<|Aw<|Bi<|Ao<|Ak<|Gr (j8.lj H2) ?_
 refine Ge0 (Eff.sq H2) ?_
 refine Ar<|B3 ?_
 have bc:=bu4.mk' a5 (show 2<=2+x2/\2+x2<=6 by omega) hK hF (show k.b.ws.length<=8 by omega) hlt
 exact Ek C H2 C mm C (Y++(e8 b [lv,e7 an] 85::I)) (A9 (show Fit κ _ (e8 b [lv,e7 an] 85::(Y++I)) from Az)<|Cj (C1 (A:=Y) (L:=[e8 b [lv,e7 an] 85]) (T:=I)).symm) ⟨(2+x2,ae,ad,ab,x4,k,v,Y,an),⟨⟨rfl,bc⟩,by show 0<=an;omega⟩,rfl⟩
theorem dq6{F:Item->List Item}(M:AtF I (ap5 b lv i) F)(hl:∀q,Sl κ (F (ap5 b lv q)) lv ls)(h0:0<=i)   :
  eu prog κ 35 [(pt b)] I λr J=>∃y:Int×Int×Int×Int×Int×EnS×KpV×(List Item)×Int,((r = .agg (kx y.2.1 y.2.2.1 y.2.2.2.1 y.2.2.2.2.1 y.1 y.2.2.2.2.2.1 y.2.2.2.2.2.2.1).toArray/\bu4 κ y.1 y.2.1 y.2.2.1 y.2.2.2.1 y.2.2.2.2.1 y.2.2.2.2.2.1 y.2.2.2.2.2.2.1 y.2.2.2.2.2.2.2.1)/\0<=y.2.2.2.2.2.2.2.2)/\J=y.2.2.2.2.2.2.2.1++F (ap5 b lv y.2.2.2.2.2.2.2.2):=
 Fl (Post:=λr (y:Int×Int×Int×Int×Int×EnS×KpV×(List Item)×Int)=>(r = .agg (kx y.2.1 y.2.2.1 y.2.2.2.1 y.2.2.2.2.1 y.1 y.2.2.2.2.2.1 y.2.2.2.2.2.2.1).toArray/\bu4 κ y.1 y.2.1 y.2.2.1 y.2.2.2.1 y.2.2.2.2.1 y.2.2.2.2.2.1 y.2.2.2.2.2.2.1 y.2.2.2.2.2.2.2.1)/\0<=y.2.2.2.2.2.2.2.2) (Z:=λy:Int×Int×Int×Int×Int×EnS×KpV×(List Item)×Int=>y.2.2.2.2.2.2.2.1) (X:=λy:Int×Int×Int×Int×Int×EnS×KpV×(List Item)×Int=>ap5 b lv y.2.2.2.2.2.2.2.2) M λJ _ hF=>ci0 (λq=>(hl q).fit (hF _)) h0  
attribute [local irreducible] W G V D A j8 Eff
end Go.Sl
namespace Go.Sl
open Go.Proofs
set_option maxRecDepth 4000
variable{κ:Ctx}{I:List Item}{ys:List Lk}{j:Nat}
theorem cz4{nd kd wd mo bd:Int}{k:EnS}{v:KpV}{T:List Item}(hH:Has I T)(hF:KpF κ T nd k v)(hK:EnV nd kd wd mo bd k)(aa:k.b.ws.length<=4000){xe:Ev}(hx:H7 nd xe)(ht:k.tm<=xe.tm)(hT:F4 κ I 0 p6):eu prog κ 36 [.agg (kx kd wd mo bd nd k v).toArray,.agg (ez xe).toArray] I λr J=>∃(k2:EnS) (O:List Ev) (M:KpV) (Y:List Item) (a:Option Addr) (c:Nat),r = .tuple #[.agg (kx kd wd mo bd nd k2 M).toArray,.slice a O.length c,e7 0]/\(p5 kd wd mo (k.S,[]) xe=(k2.S,O)/\k2.b=k.b/\k2.tm=xe.tm)/\KpF κ (Y++T) nd k2 M/\Sl κ (Y++T) (.slice a O.length c) O/\J=Y++I:=
 (dr4 hH hF hK aa hx ht hT).mono λr J ⟨M,Y,a,c,h1,h2,h3,h4⟩=>⟨(⟨k.b,(p5 kd wd mo (k.S,[]) xe).1,xe.tm⟩:EnS),(p5 kd wd mo (k.S,[]) xe).2,M,Y,a,c,h1,⟨rfl,rfl,rfl⟩,h2,h3,h4⟩
section
variable {nd kd wd mo bd:Int}{k k2:EnS}{xe:Ev}{O:List Ev}
theorem EnV.next(M:EnV nd kd wd mo bd k)(hx:H7 nd xe)(ht:k.tm<=xe.tm)(hE:p5 kd wd mo (k.S,[]) xe=(k2.S,O)/\k2.b=k.b/\k2.tm=xe.tm):EnV nd kd wd mo bd k2/\gb7 nd kd wd mo k.tm k.S xe (k2.S,O):=by
 obtain ⟨h1,h2,h3⟩:=hE
 have h:=bc6 M.inv M.tm.1 ht hx M.win
 rw [h1] at h
 exact ⟨⟨M.win,h2▸M.buf,h3▸h.inv,by rw [h3];exact hx.tm⟩,h⟩
end
section
variable {nd:Int}{es:List Pt}{v:Int}
theorem dm2(hG:s6 nd es)(hv:p8 nd v)(h:nbG nd es v=[]):e_ (j9 nd es) v=0:=by
 have h1:=(am3 hG v hv 1).1
 have hl:=G0 hG
 unfold p8 at hv
 have hb:=bg7 hG _ (Bp (xs:=j9 nd es) (i:=v) hv.1 om)
 by_cases hz:1<=(e_ (j9 nd es) v).toNat
 ·obtain ⟨X,hX,hx⟩:=h1 hz
  have M:=hX.deg v hx
  unfold ao9 at M
  rw [h] at M
  exact absurd M<|by simp
 omega
theorem dt6(hG:s6 nd es)(hv:p8 nd v)(h:nbG nd es v=[]):e_ (H3 nd es) v=0:=by
 unfold p8 at hv
 have e:v=((v.toNat:Nat):Int):=by omega
 have aa:∀l:List Pt,(∀p∈l,p∈es)->(l.map λp=>ind<|decide<|v∈j3 nd es p.u p.v).sum=0:=λl=>by
  induction l with
  |nil=>intro _;rfl
  |cons p l ih=>
   intro hl
   have hp:=hG.Z1 p (hl p A_)
   rw [Hg,Jb,ih λq hq=>hl q (C_ _ hq),D_ λhm=>by
    have M:=ag9 hG ((P1 hG om).1 hm).1
    rw [h] at M;cases M]
   rfl
 have h3:e_ (H3 nd es) ((v.toNat:Nat):Int)=ds7 nd es ((v.toNat:Nat):Int):=an8 om
 rw [←e] at h3
 rw [h3]
 exact aa es λp hp=>hp
theorem de3(hv:p8 nd v)(h:nbG nd es v=[]):e_ (r8 nd es) v=0:=by
 unfold p8 at hv
 have e:v=((v.toNat:Nat):Int):=by omega
 have M:e_ (r8 nd es) ((v.toNat:Nat):Int)=ah2 nd es v.toNat:=ab9 om
 rw [←e] at M
 rw [M]
 unfold ah2 ah4
 refine Du _ λw hw=>?_
 have hz:coN nd.toNat (M3 nd es) v.toNat w=0:=by
  unfold coN
  first
   |(split<;>first|rfl|exact Du _ λb hb=>by unfold M3;rw [←e,h];simp [ind])
   |exact Du _ λb hb=>by unfold M3;rw [←e,h];simp [ind]
 rw [hz];rfl
end
section
variable {nd kd wd mo t v:Int}{xs:List Lk}
def X7(v:Int)(l:Lk):Bool:= !decide (l.u=v\/l.v=v)
theorem dh7:ep xs ⟨3,t,v,0,0,0,0⟩=xs.filter (X7 v):=by
 unfold ep
 rw [An (by show ¬(3:Int)=1;decide)]
 exact Ht λl _=>by unfold ah5 X7;rw [An (by show ¬(3:Int)=2;decide)]
theorem fn1{x:Lk}(M:x∈ys):ai5 ys x<ys.length:=by
 unfold ai5
 exact List.length_filter_lt_length_iff_exists.2 ⟨x,M,by simp [cm7]⟩
theorem fk1{nw:Int}(hk:kd=3)(hm:(ys.length:Int)<=mo):∀x∈ys,inW kd wd mo nw ys x=true:=λx M=>by
 have:=fn1 M
 unfold inW
 rw [An om,B_ hk]
 exact As om
theorem ct8(hk:¬kd=2)(hc:kd=3->(xs.length:Int)<=mo):p5 kd wd mo (xs,[]) ⟨3,t,v,0,0,0,0⟩=(xs.filter (X7 v),[⟨3,t,v,0,0,0,0⟩]):=by
 have ha:Q0 kd wd mo (⟨3,t,v,0,0,0,0⟩:Ev).tm (xs,[])=(xs,[]):=ax2 λh=>absurd h hk
 by_cases h3:kd=3
 ·have M:((xs.filter<|X7 v).length:Int)<=mo:=by have:=Gs (X7 v) xs;have:=hc h3;omega
  have hg:∀nw,s3 kd wd mo nw (xs.filter<|X7 v)=[]:=λnw=>by
   have h9:(xs.filter<|X7 v).filter (λx=> !inW kd wd mo nw (xs.filter<|X7 v) x)=[]:=Jd.2 λx hx=>by rw [fk1 h3 M x hx];decide
   unfold s3;rw [h9];rfl
  rw [bz0 ha h3,dh7,Jk.2<|fk1 h3 M,hg]
  rfl
 rw [cu4 ha h3,dh7];rfl
theorem dh6(hn:nd<=64)(hv:0<=v/\v<nd)(M:0<=t/\t<=1048576):H7 nd ⟨3,t,v,0,0,0,0⟩:=
 co2 om M hv hn (λ_=>rfl) (λh=>absurd rfl h) (λh=>by omega) (λ_=>⟨rfl,rfl,rfl⟩)
theorem dx7(hv:q7 nd (xs.filter (X7 v))=0):nbG nd (j5 (xs.filter (X7 v))) v=[]:=List.eq_nil_iff_forall_not_mem.2 λy hy=>by
 have M:∀p∈j5 (xs.filter<|X7 v),p.u≠v/\p.v≠v:=λp hp=>by
  obtain ⟨l,hl,rfl⟩:=Gv.1 hp
  have h2:=(Gg.1 hl).2
  unfold X7 at h2
  simp only [J_,Kt] at h2
  exact ⟨λq=>h2<|.inl q,λq=>h2<|.inr q⟩
 rcases (ae1<|F1 hv).1 hy with h|h
 ·exact (M _ h).1 rfl
 exact (M _ h).2 rfl
theorem du0(hj:j<xs.length)(h:¬(e_ xs j).u=v)(h2:¬(e_ xs j).v=v):((xs.take (j+1)).filter (X7 v)).length=((xs.take j).filter (X7 v)).length+1/\e_ xs j∈xs.filter (X7 v):=by
 have M:X7 v (e_ xs j)=true:=by
  unfold X7
  rw [D_ (by rintro (q|q);exact h q;exact h2 q)];rfl
 refine ⟨?_,Gg.2 ⟨Bp om om,M⟩⟩
 rw [Ca xs j hj,Gj,By,List.filter_cons_of_pos M];rfl
theorem dc6(M:j<xs.length)(h:(e_ xs j).u=v\/(e_ xs j).v=v):((xs.take (j+1)).filter (X7 v)).length=((xs.take j).filter (X7 v)).length:=by
 have hp:¬X7 v (e_ xs j)=true:=by
  unfold X7
  rw [As h];decide
 rw [Ca xs j M,Gj,By,List.filter_cons_of_neg hp];rfl
end
theorem fg6{nd u v:Int}{va:Value}{xs:List Lk}(hl:Sl κ I va xs)(aa:q7 nd xs=0)(ad:u<v)(hm:∃x∈xs,x.u=u/\x.v=v):eu prog κ 37 [.agg #[e7 nd,va],e7 u,e7 v] I (λr J=>∃n:Int,r=e7 n/\0<=n/\I=J):=by
 refine Bv hl.le λak=>?_
 refine Ce3 Tryz.func37 C C ?_
 refine Ak<|Ge1 (Au (cs:=[_,_]) C C C) λb1=>Ga C<|Ar<|Ax<|Ak<|Gl2 V3 ?_
 refine Gc0 (Ac c_ C C<|Z7 (nd:=nd)<|A4 hl) ?_
 refine Gr (Cb C C)<|Ar<|Am C (λc11=>?_)<|λc11=>?_
 ·exact absurd aa c11
 refine Bc<|Ao<|Ax<|Ak<|Gf L6 C<|Gl ap3 ?_
 refine Gr (E1 (α:=Lk) (xs:=xs) A0 C<|A4 hl)<|Gm C<|Ar<|A7<|B9 (σ:=Nat) (λs=>([(1,e7 u),(2,e7 v),(13,va),(14,e7 ((xs.length:Nat):Int)),(15,e7 ((s:Nat):Int))]:Env)) (λs=>e8 b1 [e7 nd,va] 35::I) (λs=>(s<=xs.length)/\(∀j:Nat,j<s->¬((e_ xs j).u=u/\(e_ xs j).v=v))) (λs=>xs.length - s) 0 (show ((0:Nat)<=xs.length)/\(∀j:Nat,j<(0:Nat)->¬((e_ xs j).u=u/\(e_ xs j).v=v)) from ⟨om,(λj hj=>absurd hj om)⟩) (cx4<|Aa Co Bb) (show Fit κ _ (e8 b1 [e7 nd,va] 35::I) from Az) ?_
 rintro i hp
 obtain ⟨hi,M⟩:=hp
 refine Ak<|Gr (Bl C C)<|Ar<|Ax<|Am C (λaj=>?_)<|λaj=>?_
 ·refine Bc (Ao<|Ax<|A7<|Ak<|Gm C<|Gr (A2 (α:=Lk) (xs:=xs) A0 J2 C C (A4 hl) om om)<|Gr (C6 (α:=Lk) (xs:=xs) J2 C (A4 hl) om om)<|Ge1 (Aj J2 C) λb2=>Ga C<|Ge0 (Fb J2) ?_)
  refine Ar<|Ak<|Gf aw6 C<|Gl ef ?_
  refine Gm C<|Gm C<|Gr (j8.min C C) ?_
  have ai:(if v<u then v else u)=u:=An om
  rw [ai]
  refine Gr (Cx C C)<|Gm C<|A3 (d:=26) C (λae=>?_)<|λae=>?_
  ·refine e9 (Af W9 C) (e9 (Bd ef) ?_)
   refine e9 (Aq C)<|e9 (Aq C)<|e9 (E9 C C) ?_
   have ah:(if u<v then v else u)=v:=B_ ad
   rw [ah]
   refine e9 (Cx C C)<|Gr (Bz C C)<|Ar<|A1 (S7 33 7 1 2 13 14 15)<|Am C (λab=>?_)<|λab=>?_
   ·exact Ak<|Gm C<|Ga C<|Ar<|B3<|V.ak0<|Ck<|Ck<|V.ak0<|Ck<|Al C C I Ah ⟨(i:Int),rfl,by omega,rfl⟩
   exact Bc<|Av<|Ao<|A6<|Gr (Rad C C)<|Gm C<|Bq<|Bt ((i+1)) ⟨om,(Di M om)⟩
  exact eb<|eb<|eb<|eb<|eb<|eb<|Gr (Bo C C)<|Ar<|A1 (S7 33 7 1 2 13 14 15)<|W.no C<|Bc<|Av<|Ao<|A6<|Gr (Rad C C)<|Gm C<|Bq<|Bt ((i+1)) ⟨om,(Di M om)⟩
 refine Ci<|Aw<|Aw<|Bi<|Ao<|Ak<|Ga C<|Ar<|B3 ?_
 obtain ⟨x,hx,h1,h2⟩:=hm;obtain ⟨j,hj,rfl⟩:=an6 hx;exact absurd ⟨h1,h2⟩ (M j om)
end Go.Sl
