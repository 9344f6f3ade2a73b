/- A part of the proofs of statements of this seat: contracts of functions, and the plain laws that they lean on. No conditions. -/
import Derived.Test.YtoagcglbkeomgaaGreatDoorA32
set_option linter.unusedVariables false
set_option linter.unusedSimpArgs false
set_option linter.unusedSectionVars false
open Go.Proofs.Tryz (prog)
set_option maxHeartbeats 4000000
namespace Go.Sl
open Go.Proofs
set_option maxRecDepth 4000
variable{bd i kd mo nd wd:Int}{Y:List Item}{b:Nat}{lv:Value}{ls:List Int}
variable {κ:Ctx}{I:List Item}
structure bt9 (κ:Ctx) (nd kd wd mo bd:Int) (k:EnS) (v:KpV) (Y:List Item):Prop where
 rn:2<=nd/\nd<=6
 ok:bi3 nd kd wd mo bd k
 f:KpF κ Y nd k v
 wl:k.b.ws.length<=8
 lt:k.b.lt<=60
theorem bt9.mk'{κ:Ctx}{k:EnS}{v:KpV}{T:List Item}(hT:T=[])(h1:2<=nd/\nd<=6)(h2:bi3 nd kd wd mo bd k)(M:KpF κ (Y++T) nd k v)(h4:k.b.ws.length<=8)(h5:k.b.lt<=60):bt9 κ nd kd wd mo bd k v Y:=by
 subst hT
 rw [Gv] at M
 exact ⟨h1,h2,M,h4,h5⟩
theorem bt9.tm{κ:Ctx}{k:EnS}{v:KpV}(h:bt9 κ nd kd wd mo bd k v Y):0<=k.tm/\k.tm<=60/\k.b.mr<=60:=by
 have h1:=h.ok.tm
 have M:=h.ok.buf.mr
 have h3:=h.lt
 omega
theorem ci0(hl:∀q,Sl κ (ao7 b lv q::I) lv ls)(h0:0<=i)   :
    eu prog κ 35 [(pt b)] (e8 b [lv,e7 i] 85::I) (λr J=>∃y:Int×Int×Int×Int×Int×EnS×KpV×(List Item)×Int,((r = .agg (kx y.2.1 y.2.2.1 y.2.2.2.1 y.2.2.2.2.1 y.1 y.2.2.2.2.2.1 y.2.2.2.2.2.2.1).toArray/\bt9 κ y.1 y.2.1 y.2.2.1 y.2.2.2.1 y.2.2.2.2.1 y.2.2.2.2.2.1 y.2.2.2.2.2.2.1 y.2.2.2.2.2.2.2.1)/\0<=y.2.2.2.2.2.2.2.2)/\J=y.2.2.2.2.2.2.2.1++ao7 b lv y.2.2.2.2.2.2.2.2::I):=by
 obtain ⟨T,a7⟩:∃T:List Item,T=[]:=⟨_,rfl⟩
 have hH:Has I T:=by rw [a7];exact Has.nil I
 refine Ce1 Tryz.func35 C C ?_
 refine Al<|Ge1 (Aj H2 C) λb1=>Ar<|Al<|Gm C<|G.e (Ab c_ C C<|P3 ta1 (Bd (hl _) Ah) om om) ?_
 rintro _ _ ⟨_,_,⟨x2,i3,rfl,bi,hi3,rfl⟩,rfl,rfl⟩
 show G prog κ _ _ _ _ ([(12,e7 x2),(11,pt b),(2,pt b1),(0,pt b)]:Env) (e8 b1 zk 47::e8 b [lv,e7 i3] 85::I)
 refine Gr (Rad C C)<|Ga C<|Ar<|Al<|Gm C<|Gm C<|G.e (Ab c_ C C<|P3 ta1 (Bd (hl _) Ah) om om) ?_
 rintro _ _ ⟨_,_,⟨x4,i5,rfl,bg,bm,rfl⟩,rfl,rfl⟩
 show G prog κ _ _ _ _ ([(17,e7 x4),(16,pt b),(15,e7<|2+x2),(3,e7<|2+x2),(13,e7<|2+x2),(12,e7 x2),(11,pt b),(2,pt b1),(0,pt b)]:Env) (e8 b1 zk 47::e8 b [lv,e7 i5] 85::I)
 refine Gm C<|G.e (Ab c_ C C<|cb5 ta1 (λ_=>Bd (hl _) Az) om  ) ?_
 rintro _ _ ⟨_,_,⟨⟨ad,ae,ab,i9⟩,⟨⟨rfl,ar⟩,a8⟩,rfl⟩,rfl,rfl⟩
 show G prog κ _ _ _ _ ([(19,.agg #[e7 ad,e7 ae,e7 ab]),(18,pt b),(17,e7 x4),(16,pt b),(15,e7<|2+x2),(3,e7<|2+x2),(13,e7<|2+x2),(12,e7 x2),(11,pt b),(2,pt b1),(0,pt b)]:Env) (e8 b1 zk 47::e8 b [lv,e7 i9] 85::I)
 have a8:0<=i9:=a8
 have ar:s7 ad ae ab=0:=ar
 refine G.e (Ab c_ C C<|dp1 (nd:=2+x2) (bd:=x4) T om ar om) ?_
 rintro _ _ ⟨_,_,⟨aa,Y11,rfl,a0,rfl⟩,rfl,rfl⟩
 refine Dp (J:=e8 b1 zk 47::e8 b [lv,e7 i9] 85::(Y11++I)) (Cj<|Cz (A:=Y11) (L:=[e8 b1 zk 47,e8 b [lv,e7 i9] 85]) (T:=I)) ?_
 show G prog κ _ _ _ _ ([(20,.tuple #[.agg (kx ad ae ab x4 (2+x2) ((⟨⟨-1, -1,[]⟩,[],0⟩:EnS)) aa).toArray,e7 0]),(19,.agg #[e7 ad,e7 ae,e7 ab]),(18,pt b),(17,e7 x4),(16,pt b),(15,e7<|2+x2),(3,e7<|2+x2),(13,e7<|2+x2),(12,e7 x2),(11,pt b),(2,pt b1),(0,pt b)]:Env) (e8 b1 zk 47::e8 b [lv,e7 i9] 85::(Y11++I))
 refine Gm C<|Gr (Bf C C)<|Gr (Bf C C)<|Ge1 (Aj H2 C) λan=>Ge0 (Eff.sq H2) ?_
 refine Ga C<|Ar<|A0 (S4 4 3 2 0)<|Al<|Gm C<|Gm C<|G.e (Ab c_ C C<|cy3 ta1 (λ_=>Bd (hl _) Az) om  om om) ?_
 rintro _ _ ⟨_,_,⟨⟨ai,ah,M,ao⟩,⟨⟨rfl,ap⟩,ay⟩,rfl⟩,rfl,rfl⟩
 show G prog κ _ _ _ _ ([(25,.slice ai M.length ah),(24,e7<|2+x2),(23,pt b),(4,pt an),(3,e7<|2+x2),(2,pt b1),(0,pt b)]:Env) (vk 54 ai ah M::e8 an (kx ad ae ab x4 (2+x2) ((⟨⟨-1, -1,[]⟩,[],0⟩:EnS)) aa) 47::e8 b1 zk 47::e8 b [lv,e7 ao] 85::(Y11++I))
 have ay:0<=ao:=ay
 dsimp only at ap
 have bh:=ap.2
 refine Ga C<|Ar<|Ax<|Al<|Ga C<|Ar<|A7<|B9 (σ:=Nat×EnS×KpV×(List Item)) (λs=>([(2,pt b1),(4,pt an),(6,.slice ai M.length ah),(7,e7 ((s.1:Nat):Int))]:Env)) (λs=>vk 54 ai ah M::e8 an (kx ad ae ab x4 (2+x2) s.2.1 s.2.2.1) 47::e8 b1 zk 47::e8 b [lv,e7 ao] 85::(s.2.2.2++I)) (λs=>(s.1<=M.length)/\(bi3 (2+x2) ad ae ab x4 s.2.1)/\(KpF κ (s.2.2.2++T) (2+x2) s.2.1 s.2.2.1)/\(s.2.1.b.ws.length<=s.1)/\(s.2.1.b.lt<=60)) (λs=>M.length - s.1) (0,(⟨⟨-1, -1,[]⟩,[],0⟩:EnS),aa,Y11) (show ((0:Nat)<=M.length)/\(bi3 (2+x2) ad ae ab x4 ((⟨⟨-1, -1,[]⟩,[],0⟩:EnS):EnS))/\(KpF κ ((Y11:List Item)++T) (2+x2) ((⟨⟨-1, -1,[]⟩,[],0⟩:EnS):EnS) (aa:KpV))/\(((⟨⟨-1, -1,[]⟩,[],0⟩:EnS):EnS).b.ws.length<=(0:Nat))/\(((⟨⟨-1, -1,[]⟩,[],0⟩:EnS):EnS).b.lt<=60) from ⟨om,(bi3.open_ om ar om),a0,(by show (0:Nat)<=0;omega),(by show (-1:Int)<=60;omega)⟩) (cx2<|Aa C<|Aa Cl Bb) (show Fit κ _ (vk 54 ai ah M::e8 an (ky ad ae ab x4 (((⟨⟨-1, -1,[]⟩,[],0⟩:EnS)).b.lt) (((⟨⟨-1, -1,[]⟩,[],0⟩:EnS)).b.mr) (aa).w.a ((⟨⟨-1, -1,[]⟩,[],0⟩:EnS)).b.ws.length (aa).w.c (2+x2) (aa).l.a ((⟨⟨-1, -1,[]⟩,[],0⟩:EnS)).S.length (aa).l.c (j6 ((⟨⟨-1, -1,[]⟩,[],0⟩:EnS)).S) (aa).p (((⟨⟨-1, -1,[]⟩,[],0⟩:EnS)).tm)) 47::e8 b1 zk 47::e8 b [lv,e7 ao] 85::((Y11)++I)) from Az) ?_
 rintro ⟨i,k,v,Y⟩ hp
 dsimp only at hp ⊢
 obtain ⟨hi,hK,hF,bj,hlt⟩:=hp
 refine Ax<|Al<|Gm C<|Gm C<|Gr (Bn Ad C)<|Gr (Bm C C)<|Ar<|Ao C (λbe=>?_)<|λbe=>?_
 ·refine Bc (Ak<|Ax<|A7<|Ax<|A8 mixed<|Bv (vk 54 ai ah M::e8 an (kx ad ae ab x4 (2+x2) k v) 47::e8 b1 zk 47::e8 b [lv,e7 ao] 85::(Y++I)) 14<|Cd 0 C kr kr kr C kr (λ_ _ _ _ h=>h) (Aq C) C C ta0 (j8.lj H2) ?_)
  refine Cd 1 C kr kr kr C kr (λ_ _ _ _ h=>h) (Aq C) C C ta0 (Ap C) ?_
  refine Cd 2 C kr kr kr C kr (λ_ _ _ _ h=>h) (Aq C) C C ta0 (Ap C) ?_
  refine Cd 3 C kr kr kr C kr (λ_ _ _ _ h=>h) (Aq C) C C ta0 (A1 (α:=Ev) (xs:=M) Ad z6 C C A5 om om) ?_
  refine Cd 4 C kr kr kr C kr (λ_ _ _ _ h=>h) (Aq C) C C ta0 (C7 (α:=Ev) (xs:=M) z6 C A5 om om) ?_
  have ax:=(ap.1 _<|Bo (xs:=M) (i:=(i:Int)) om om).1
  have bf:=(ap.1 _<|Bo (xs:=M) (i:=(i:Int)) om om).2
  refine C5 (rs:=[5,10]) kr C C<|D5 ?_<|Dl ?_
  ·refine Se C (Ab c_ C C<|cq8 (T:=(Y++T)) (k:=k) (v:=v) ta2 hF hK om om ax) ?_
   rintro _ _ ⟨_,_,(⟨av,rfl,rfl⟩|⟨av,ak,Y18,a6,a5,rfl,a1,bb,rfl⟩),rfl,rfl⟩
   ·refine ⟨ta0,?_⟩
    show D prog κ _ _ _ _ _ _ _ ([(38,.tuple #[.agg zk.toArray,.slice none 0 0,e7 10]),(37,.agg (ez (e_ M i)).toArray),(36,F1 (.slice ai M.length ah)<|((i:Int)).toNat*Enc.sz Ev),(35,e7<|(i:Int)),(34,.slice ai M.length ah),(33,.agg (kx ad ae ab x4 (2+x2) k v).toArray),(29,.bool<|decide<|(i:Int)<((M.length:Nat):Int)),(28,e7 ((M.length:Nat):Int)),(27,.slice ai M.length ah),(26,e7<|(i:Int)),(2,pt b1),(4,pt an),(6,.slice ai M.length ah),(7,e7<|(i:Int))]:Env) (vk 54 ai ah M::e8 an (kx ad ae ab x4 (2+x2) k v) 47::e8 b1 zk 47::e8 b [lv,e7 ao] 85::(Y++I))
    refine Cd 6 C kr kr kr C kr (λ_ _ _ _ h=>h) (Aq C) C C ta0 (Ap C) ?_
    refine Cd 7 C kr kr kr C kr (λ_ _ _ _ h=>h) (Aq C) C C ta0 (Bf C C) ?_
    refine Cd 8 C kr kr kr C kr (λ_ _ _ _ h=>h) (Aq C) C C ta0 (Bf C C) ?_
    refine Cd 9 C kr kr kr C kr (λ_ _ _ _ h=>h) (Aq C) C C ta0 (Bf C C) ?_
    refine Ds1 10<|Se C (Aj H2 C) ?_
    rintro _ _ ⟨bn,rfl,rfl⟩
    refine ⟨ta0,?_⟩
    refine Ds1 11<|Se C (Eff.sq H2) ?_
    rintro _ _ ⟨rfl,rfl⟩
    refine ⟨ta0,?_⟩
    refine Cd 12 C kr kr kr C kr (λ_ _ _ _ h=>h) (Aq C) C C ta0 (Bj C) ?_
    refine Cd 13 C kr kr kr C kr (λ_ _ _ _ h=>h) (Aq C) C C ta0 (Bj C) ?_
    refine Dz<|Ak<|A0 (S6 10 8 2 4 6 7)<|Al<|Gm C<|Gr (C3 C C)<|Ar<|Ao C (λaq=>?_)<|λaq=>?_
    ·exact absurd aq dc
    exact Bc<|Au<|Ak<|A6<|Gm C<|Gr (Rad C C)<|Ga C<|Bq<|Bu ((i+1),(k),(v),(Y))<|by dsimp only;exact ⟨om,hK,hF,om,hlt⟩
   refine ⟨ta0,?_⟩
   refine D.fit (J:=vk 54 ai ah M::e8 an (kx ad ae ab x4 (2+x2) k v) 47::e8 b1 zk 47::e8 b [lv,e7 ao] 85::(Y18++(Y++I))) (Cj<|Cz (A:=Y18) (L:=[vk 54 ai ah M,e8 an (kx ad ae ab x4 (2+x2) k v) 47,e8 b1 zk 47,e8 b [lv,e7 ao] 85]) (T:=(Y++I))) ?_
   show D prog κ _ _ _ _ _ _ _ ([(38,.tuple #[.agg (kx ad ae ab x4 (2+x2) ((k.feed ad ae ab x4<|e_ M i)) ak).toArray,.slice a6 ((k.da4 ad ae ab x4<|e_ M i)).length a5,e7 0]),(37,.agg (ez (e_ M i)).toArray),(36,F1 (.slice ai M.length ah)<|((i:Int)).toNat*Enc.sz Ev),(35,e7<|(i:Int)),(34,.slice ai M.length ah),(33,.agg (kx ad ae ab x4 (2+x2) k v).toArray),(29,.bool<|decide<|(i:Int)<((M.length:Nat):Int)),(28,e7 ((M.length:Nat):Int)),(27,.slice ai M.length ah),(26,e7<|(i:Int)),(2,pt b1),(4,pt an),(6,.slice ai M.length ah),(7,e7<|(i:Int))]:Env) (vk 54 ai ah M::e8 an (kx ad ae ab x4 (2+x2) k v) 47::e8 b1 zk 47::e8 b [lv,e7 ao] 85::(Y18++(Y++I)))
   refine Cd 6 C kr kr kr C kr (λ_ _ _ _ h=>h) (Aq C) C C ta0 (Ap C) ?_
   refine Cd 7 C kr kr kr C kr (λ_ _ _ _ h=>h) (Aq C) C C ta0 (Bf C C) ?_
   refine Cd 8 C kr kr kr C kr (λ_ _ _ _ h=>h) (Aq C) C C ta0 (Bf C C) ?_
   refine Cd 9 C kr kr kr C kr (λ_ _ _ _ h=>h) (Aq C) C C ta0 (Bf C C) ?_
   refine Ds1 10<|Se C (Aj H2 C) ?_
   rintro _ _ ⟨bk,rfl,rfl⟩
   refine ⟨ta0,?_⟩
   refine Ds1 11<|Se C (Eff.sq H2) ?_
   rintro _ _ ⟨rfl,rfl⟩
   refine ⟨ta0,?_⟩
   refine Cd 12 C kr kr kr C kr (λ_ _ _ _ h=>h) (Aq C) C C ta0 (Bj C) ?_
   refine Cd 13 C kr kr kr C kr (λ_ _ _ _ h=>h) (Aq C) C C ta0 (Bj C) ?_
   refine Dz<|Ak<|A0 (S6 10 8 2 4 6 7)<|Al<|Gm C<|Gr (C3 C C)<|Ar<|Ao C (λaq=>?_)<|λaq=>?_
   ·refine A6 (Gr (j8.lj H2) ?_)
    refine Ge0 (Eff.sq H2) ?_
    refine Bq<|Au<|Ak<|A6<|Gm C<|Gr (Rad C C)<|Ga C<|Bq ?_
    have bc:=bf5 (kd:=ad) (wd:=ae) (mo:=ab) (bd:=x4) k (e_ M i)
    exact Bu ((i+1),((k.feed ad ae ab x4<|e_ M i)),(ak),((Y18++Y))) (by dsimp only;exact ⟨om,(hK.feed ax av),(by rw [Fv];exact a1),om,(by show max k.b.lt (e_ M i).tm<=60;omega)⟩) (hI:=by (try dsimp only);exact ta7)
   exact absurd dc aq
  refine Se C (Aj H2 C) ?_
  rintro _ _ ⟨aw,rfl,rfl⟩
  refine ⟨ta0,?_⟩
  refine Ds1 5<|Se C (Ab c_ C C<|cq8 (T:=(Y++T)) (k:=k) (v:=v) ta2 hF hK om om ax) ?_
  rintro _ _ ⟨_,_,(⟨au,rfl,rfl⟩|⟨au,aj,Y25,a3,a4,rfl,az,a9,rfl⟩),rfl,rfl⟩
  ·refine ⟨ta0,?_⟩
   show D prog κ _ _ _ _ _ _ _ ([(38,.tuple #[.agg zk.toArray,.slice none 0 0,e7 10]),(8,pt aw),(37,.agg (ez (e_ M i)).toArray),(36,F1 (.slice ai M.length ah)<|((i:Int)).toNat*Enc.sz Ev),(35,e7<|(i:Int)),(34,.slice ai M.length ah),(33,.agg (kx ad ae ab x4 (2+x2) k v).toArray),(29,.bool<|decide<|(i:Int)<((M.length:Nat):Int)),(28,e7 ((M.length:Nat):Int)),(27,.slice ai M.length ah),(26,e7<|(i:Int)),(2,pt b1),(4,pt an),(6,.slice ai M.length ah),(7,e7<|(i:Int))]:Env) (e8 aw zk 47::vk 54 ai ah M::e8 an (kx ad ae ab x4 (2+x2) k v) 47::e8 b1 zk 47::e8 b [lv,e7 ao] 85::(Y++I))
   refine Cd 6 C kr kr kr C kr (λ_ _ _ _ h=>h) (Aq C) C C ta0 (Ap C) ?_
   refine Cd 7 C kr kr kr C kr (λ_ _ _ _ h=>h) (Aq C) C C ta0 (Bf C C) ?_
   refine Cd 8 C kr kr kr C kr (λ_ _ _ _ h=>h) (Aq C) C C ta0 (Bf C C) ?_
   refine Cd 9 C kr kr kr C kr (λ_ _ _ _ h=>h) (Aq C) C C ta0 (Bf C C) ?_
   refine Ds1 11<|Se C (Eff.sq H2) ?_
   rintro _ _ ⟨rfl,rfl⟩
   refine ⟨ta0,?_⟩
   refine Cd 12 C kr kr kr C kr (λ_ _ _ _ h=>h) (Aq C) C C ta0 (Bj C) ?_
   refine Cd 13 C kr kr kr C kr (λ_ _ _ _ h=>h) (Aq C) C C ta0 (Bj C) ?_
   refine Dz<|Ak<|A0 (S6 10 8 2 4 6 7)<|Al<|Gm C<|Gr (C3 C C)<|Ar<|Ao C (λaq=>?_)<|λaq=>?_
   ·exact absurd aq dc
   exact Bc<|Au<|Ak<|A6<|Gm C<|Gr (Rad C C)<|Ga C<|Bq<|Bu ((i+1),(k),(v),(Y))<|by dsimp only;exact ⟨om,hK,hF,om,hlt⟩
  refine ⟨ta0,?_⟩
  refine D.fit (J:=e8 aw zk 47::vk 54 ai ah M::e8 an (kx ad ae ab x4 (2+x2) k v) 47::e8 b1 zk 47::e8 b [lv,e7 ao] 85::(Y25++(Y++I))) (Cj<|Cz (A:=Y25) (L:=[e8 aw zk 47,vk 54 ai ah M,e8 an (kx ad ae ab x4 (2+x2) k v) 47,e8 b1 zk 47,e8 b [lv,e7 ao] 85]) (T:=(Y++I))) ?_
  show D prog κ _ _ _ _ _ _ _ ([(38,.tuple #[.agg (kx ad ae ab x4 (2+x2) ((k.feed ad ae ab x4<|e_ M i)) aj).toArray,.slice a3 ((k.da4 ad ae ab x4<|e_ M i)).length a4,e7 0]),(8,pt aw),(37,.agg (ez (e_ M i)).toArray),(36,F1 (.slice ai M.length ah)<|((i:Int)).toNat*Enc.sz Ev),(35,e7<|(i:Int)),(34,.slice ai M.length ah),(33,.agg (kx ad ae ab x4 (2+x2) k v).toArray),(29,.bool<|decide<|(i:Int)<((M.length:Nat):Int)),(28,e7 ((M.length:Nat):Int)),(27,.slice ai M.length ah),(26,e7<|(i:Int)),(2,pt b1),(4,pt an),(6,.slice ai M.length ah),(7,e7<|(i:Int))]:Env) (e8 aw zk 47::vk 54 ai ah M::e8 an (kx ad ae ab x4 (2+x2) k v) 47::e8 b1 zk 47::e8 b [lv,e7 ao] 85::(Y25++(Y++I)))
  refine Cd 6 C kr kr kr C kr (λ_ _ _ _ h=>h) (Aq C) C C ta0 (Ap C) ?_
  refine Cd 7 C kr kr kr C kr (λ_ _ _ _ h=>h) (Aq C) C C ta0 (Bf C C) ?_
  refine Cd 8 C kr kr kr C kr (λ_ _ _ _ h=>h) (Aq C) C C ta0 (Bf C C) ?_
  refine Cd 9 C kr kr kr C kr (λ_ _ _ _ h=>h) (Aq C) C C ta0 (Bf C C) ?_
  refine Ds1 11<|Se C (Eff.sq H2) ?_
  rintro _ _ ⟨rfl,rfl⟩
  refine ⟨ta0,?_⟩
  refine Cd 12 C kr kr kr C kr (λ_ _ _ _ h=>h) (Aq C) C C ta0 (Bj C) ?_
  refine Cd 13 C kr kr kr C kr (λ_ _ _ _ h=>h) (Aq C) C C ta0 (Bj C) ?_
  refine Dz<|Ak<|A0 (S6 10 8 2 4 6 7)<|Al<|Gm C<|Gr (C3 C C)<|Ar<|Ao C (λaq=>?_)<|λaq=>?_
  ·refine A6 (Gr (j8.lj H2) ?_)
   refine Ge0 (Eff.sq H2) ?_
   refine Bq<|Au<|Ak<|A6<|Gm C<|Gr (Rad C C)<|Ga C<|Bq ?_
   have bc:=bf5 (kd:=ad) (wd:=ae) (mo:=ab) (bd:=x4) k (e_ M i)
   exact Bu ((i+1),((k.feed ad ae ab x4<|e_ M i)),(aj),((Y25++Y))) (by dsimp only;exact ⟨om,(hK.feed ax au),(by rw [Fv];exact az),om,(by show max k.b.lt (e_ M i).tm<=60;omega)⟩) (hI:=by (try dsimp only);exact ta7)
  exact absurd dc aq
 refine Cg<|Aw<|Aw<|Bi<|Ak<|Al<|Gr (j8.lj H2) ?_
 refine Ge0 (Eff.sq H2) ?_
 refine Ar<|B3 ?_
 have ba:=bt9.mk' a7 (show 2<=2+x2/\2+x2<=6 by omega) hK hF (show k.b.ws.length<=8 by omega) hlt
 exact Ej C H2 C mm C (Y++(e8 b [lv,e7 ao] 85::I)) (A9 (show Fit κ _ (e8 b [lv,e7 ao] 85::(Y++I)) from Az)<|Cj (Cz (A:=Y) (L:=[e8 b [lv,e7 ao] 85]) (T:=I)).symm) ⟨(2+x2,ad,ae,ab,x4,k,v,Y,ao),⟨⟨rfl,ba⟩,by show 0<=ao;omega⟩,rfl⟩
theorem dp7{F:Item->List Item}(M:AtF I (ao7 b lv i) F)(hl:∀q,Sl κ (F (ao7 b lv q)) lv ls)(h0:0<=i)   :
  eu prog κ 35 [(pt b)] I λr J=>∃y:Int×Int×Int×Int×Int×EnS×KpV×(List Item)×Int,((r = .agg (kx y.2.1 y.2.2.1 y.2.2.2.1 y.2.2.2.2.1 y.1 y.2.2.2.2.2.1 y.2.2.2.2.2.2.1).toArray/\bt9 κ y.1 y.2.1 y.2.2.1 y.2.2.2.1 y.2.2.2.2.1 y.2.2.2.2.2.1 y.2.2.2.2.2.2.1 y.2.2.2.2.2.2.2.1)/\0<=y.2.2.2.2.2.2.2.2)/\J=y.2.2.2.2.2.2.2.1++F (ao7 b lv y.2.2.2.2.2.2.2.2):=
 Fq (Post:=λr (y:Int×Int×Int×Int×Int×EnS×KpV×(List Item)×Int)=>(r = .agg (kx y.2.1 y.2.2.1 y.2.2.2.1 y.2.2.2.2.1 y.1 y.2.2.2.2.2.1 y.2.2.2.2.2.2.1).toArray/\bt9 κ y.1 y.2.1 y.2.2.1 y.2.2.2.1 y.2.2.2.2.1 y.2.2.2.2.2.1 y.2.2.2.2.2.2.1 y.2.2.2.2.2.2.2.1)/\0<=y.2.2.2.2.2.2.2.2) (Z:=λy:Int×Int×Int×Int×Int×EnS×KpV×(List Item)×Int=>y.2.2.2.2.2.2.2.1) (X:=λy:Int×Int×Int×Int×Int×EnS×KpV×(List Item)×Int=>ao7 b lv y.2.2.2.2.2.2.2.2) M λJ _ hF=>ci0 (λq=>(hl q).fit (hF _)) h0  
attribute [local irreducible] W G V D A j8 Eff
end Go.Sl
namespace Go.Sl
open Go.Proofs
set_option maxRecDepth 4000
variable{κ:Ctx}{I T:List Item}{q:Bool}{j:Nat}
theorem cy9{nd kd wd mo bd:Int}{k:EnS}{v:KpV}(hH:Has I T)(hF:KpF κ T nd k v)(hK:EnV nd kd wd mo bd k)(aa:k.b.ws.length<=4000){xe:Ev}(hx:H4 nd xe)(ht:k.tm<=xe.tm)(hT:F4 κ I 0 p5):eu prog κ 36 [.agg (kx kd wd mo bd nd k v).toArray,.agg (ez xe).toArray] I λr J=>∃(k2:EnS) (O:List Ev) (M:KpV) (Y:List Item) (a:Option Addr) (c:Nat),r = .tuple #[.agg (kx kd wd mo bd nd k2 M).toArray,.slice a O.length c,e7 0]/\(p6 kd wd mo (k.S,[]) xe=(k2.S,O)/\k2.b=k.b/\k2.tm=xe.tm)/\KpF κ (Y++T) nd k2 M/\Sl κ (Y++T) (.slice a O.length c) O/\J=Y++I:=
 (dq5 hH hF hK aa hx ht hT).mono λr J ⟨M,Y,a,c,h1,h2,h3,h4⟩=>⟨(⟨k.b,(p6 kd wd mo (k.S,[]) xe).1,xe.tm⟩:EnS),(p6 kd wd mo (k.S,[]) xe).2,M,Y,a,c,h1,⟨rfl,rfl,rfl⟩,h2,h3,h4⟩
section
variable {nd kd wd mo bd:Int}{k k2:EnS}{xe:Ev}{O:List Ev}
theorem EnV.next(M:EnV nd kd wd mo bd k)(hx:H4 nd xe)(ht:k.tm<=xe.tm)(hE:p6 kd wd mo (k.S,[]) xe=(k2.S,O)/\k2.b=k.b/\k2.tm=xe.tm):EnV nd kd wd mo bd k2/\ga6 nd kd wd mo k.tm k.S xe (k2.S,O):=by
 obtain ⟨h1,h2,h3⟩:=hE
 have h:=bc2 M.inv M.tm.1 ht hx M.win
 rw [h1] at h
 exact ⟨⟨M.win,h2▸M.buf,h3▸h.inv,by rw [h3];exact hx.tm⟩,h⟩
theorem fy7{O:List Ev}(h:q=decide (xe∈O.take j))(g:q=true)(M:j<O.length):true=decide (xe∈O.take (j+1)):=by
 rw [h] at g
 rw [As (show xe∈O.take (j+1) from by rw [Ca O j M];exact Gk _<|Fu g)]
theorem fy8{O:List Ev}(h:q=decide (xe∈O.take j))(g:q=false)(hj:j<O.length):decide (e_ O j=xe)=decide (xe∈O.take (j+1)):=by
 rw [h] at g
 have M:=Ja g
 rw [Fw,Ca O j hj,Gw,Gh]
 exact ⟨λe=> .inr e.symm,λe=>e.elim (λq=>absurd q M) Eq.symm⟩
theorem dy4{O:List Ev}(h:O.Pairwise λa b=>a.tm<=b.tm)(M:j<O.length):0<j->(e_ O ((j:Int) - 1)).tm<=(e_ O j).tm:=λh0=>by
 have e:((j:Int) - 1)=((j - 1:Nat):Int):=by omega
 rw [e]
 exact (E4 O).1 h (j - 1) j om M
end
theorem fh3{nd:Int}{lv:SlA}{xs zs:List Lk}{ea:Option Addr}{ec:Nat}{es:List Ev}(hH:Has I T)(hl:Sl κ T (.slice lv.a xs.length lv.c) xs)(he:Sl κ T (.slice ea es.length ec) es)(ab:p9 nd xs=0)(ae:∀e∈es,H4 nd e)(au:es.length<=1000000)(hz:zs=es.foldl ep xs):eu prog κ 29 [.agg #[e7 nd,.slice lv.a xs.length lv.c],.slice ea es.length ec] I (λr J=>∃(lw:SlA) (n:Int) (Y:List Item),r = .tuple #[.agg #[e7 nd,.slice lw.a zs.length lw.c],e7 n,e7 0]/\Sl κ (Y++T) (.slice lw.a zs.length lw.c) zs/\J=Y++I):=by
 refine Ce2 Tryz.func29 C C ?_
 refine Al<|Ge1 (Av (cs:=[_,_]) C C C) λb1=>Ge1 (Aj Q2 C) λb2=>Ga C<|Ga C<|Ar<|Ax<|Al<|Gl2 Q2 ?_
 refine Gc0 (Ab c_ C C<|Z4 (nd:=nd)<|Bd hl<|B4 (κ:=κ)<|by repeat (first|exact hH|exact Bh _|apply Bg|apply B2|apply Bp)) ?_
 refine Ga C<|Ar<|Al<|Gm C<|Gr (Cb C C)<|Ar<|Ao C (λaj=>?_)<|λaj=>?_
 ·exact absurd ab aj
 refine Bc<|Ak<|Al<|Ga C<|Ar<|Ax<|Al<|Gm C<|Gr (Bn Ad C)<|Gm C<|Ar<|A0 (S6 22 21 20 8 4 2)<|A7<|B9 (σ:=Nat×Int×(List Lk)×SlA×(List Item)) (λs=>([(2,pt b1),(4,pt b2),(8,e7<|s.2.1),(20,.slice ea es.length ec),(21,e7 ((es.length:Nat):Int)),(22,e7 ((s.1:Nat):Int))]:Env)) (λs=>e8 b2 [e7 0,.slice none 0 0] 35::e8 b1 [e7 nd,.slice s.2.2.2.1.a s.2.2.1.length s.2.2.2.1.c] 35::(s.2.2.2.2++I)) (λs=>(s.1<=es.length)/\(0<=s.2.1/\s.2.1<=s.1*5000)/\(s.2.2.1=(es.take s.1).foldl ep xs)/\(p9 nd s.2.2.1=0)/\(Sl κ (s.2.2.2.2++T) (.slice s.2.2.2.1.a s.2.2.1.length s.2.2.2.1.c) s.2.2.1)) (λs=>es.length - s.1) (0,0,xs,lv,[]) (show ((0:Nat)<=es.length)/\(0<=(0:Int)/\(0:Int)<=(0:Nat)*5000)/\((xs:List Lk)=(es.take (0:Nat)).foldl ep xs)/\(p9 nd (xs:List Lk)=0)/\(Sl κ (([]:List Item)++T) (.slice (lv:SlA).a (xs:List Lk).length (lv:SlA).c) (xs:List Lk)) from ⟨om,om,rfl,ab,hl⟩) (cx2<|Aa Cl<|cx2<|Aa Cl Bb) (show Fit κ _ (e8 b2 [e7 0,.slice none 0 0] 35::e8 b1 [e7 nd,.slice (lv).a (xs).length (lv).c] 35::(([])++I)) from Az) ?_
 rintro ⟨i,n,X1,lw,Y⟩ hp
 dsimp only at hp ⊢
 obtain ⟨hi,hn,hX,ai,ak⟩:=hp
 have aq:=q9 (F6 ai)
 rw [G0] at aq
 refine Al<|Gr (Bm C C)<|Ar<|Ax<|Ao C (λap=>?_)<|λap=>?_
 ·refine Bc (Ak<|Ax<|A7<|Al<|Gm C<|Gr (A1 (α:=Ev) (xs:=es) Ad z6 C C (Bd (Bd he hH.fit) Ah) om om)<|Gr (C7 (α:=Ev) (xs:=es) z6 C (Bd (Bd he hH.fit) Ah) om om)<|Ge1 (Aj z6 C) λb3=>Ga C<|Ge0 (E5 z6) ?_)
  refine Ar<|Al<|Gl2 Q2 ?_
  refine Gl7 z6 ?_
  refine G.e (Ab c_ C C<|cc4 (nd:=nd) (e:=(e_ es i)) (Bd ak<|B4 (κ:=κ)<|by repeat (first|exact hH|exact Bh _|apply Bg|apply B2|apply Bp)) ai (ae _<|Bo om om) om) ?_
  rintro _ _ ⟨_,_,⟨⟨aa,M,ar,ah,ao⟩,⟨rfl,ad⟩,rfl⟩,rfl,rfl⟩
  show G prog κ _ _ _ _ ([(30,.tuple #[.agg #[e7 nd,.slice aa (ep X1<|e_ es i).length M],.slice ar ah ao,e7 0]),(29,.agg (ez (e_ es i)).toArray),(28,.agg #[e7 nd,.slice lw.a X1.length lw.c]),(9,e7<|(i:Int)),(10,pt b3),(26,.agg (ez (e_ es i)).toArray),(25,F1 (.slice ea es.length ec)<|((i:Int)).toNat*Enc.sz Ev),(24,e7<|(i:Int)),(23,.bool<|decide<|(i:Int)<((es.length:Nat):Int)),(2,pt b1),(4,pt b2),(8,e7 n),(20,.slice ea es.length ec),(21,e7 ((es.length:Nat):Int)),(22,e7<|(i:Int))]:Env) (vk 82 aa M (ep X1<|e_ es i)::e8 b3 (ez (e_ es i)) 54::e8 b2 [e7 0,.slice none 0 0] 35::e8 b1 [e7 nd,.slice lw.a X1.length lw.c] 35::(Y++I))
  have ad:ah<=2*X1.length+1:=ad
  refine Gm C<|Gr (Bf C C)<|Gr (Bf C C)<|Gr (Bf C C)<|Ge1 (Aj Q2 C) λb9=>Ge0 (Co Q2) ?_
  refine Ga C<|Ga C<|Ar<|A0 (S10 13 12 11 9 2 4 8 20 21 22)<|Ax<|Al<|Gm C<|Gr (Cb C C)<|Ar<|Ao C (λan=>?_)<|λan=>?_
  ·exact absurd an dc
  refine Bc<|Ak<|A6<|Gl2 Q2 ?_
  refine Gm C<|Gm C<|Gr (Bn Ad C)<|Gr (Rad C C)<|Ge0 (Co Q2) ?_
  exact Ga C<|Bq<|Au<|Ak<|A0 (S6 8 2 4 20 21 22)<|A6<|Gr (Rad C C)<|Gm C<|Bq<|Bu ((i+1),(n+(ah:Int)),(ep X1<|e_ es i),((⟨aa,M⟩:SlA)),((vk 82 aa M (ep X1<|e_ es i)::Y))) (by dsimp only;exact ⟨om,om,(by rw [Ca es i om,Hf,←hX];rfl),(J3 ai<|ae _<|Bo om om),(Cy<|Gk _ A_)⟩) (hI:=by (try dsimp only);exact (show Fit κ _ (e8 b2 [e7 0,.slice none 0 0] 35::e8 b1 [e7 nd,.slice (⟨aa,M⟩:SlA).a (ep X1<|e_ es i).length (⟨aa,M⟩:SlA).c] 35::vk 82 aa M (ep X1<|e_ es i)::(Y++I)) from Az))
 refine Cg<|Aw<|Aw<|Bi<|Ak<|Al<|Gl2 Q2 ?_
 refine Gm C<|Ge0 (Co Q2) ?_
 refine Ga C<|Ga C<|Ar<|B3 ?_
 rw [Fz om,←hz] at hX
 subst hX
 exact Cs C Q2 C C C mm C ((Y++I)) Ah ⟨lw,n,Y,rfl,ak,rfl⟩
end Go.Sl
