/- A part of the proofs of statements of this seat: contracts of functions, and the plain laws that they lean on. No conditions. -/
import Derived.Test.YtoagcglbkeomgaaGreatDoorE31
set_option linter.unusedVariables false
set_option linter.unusedSimpArgs false
set_option linter.unusedSectionVars false
open Go.Proofs.Tryz (prog)
namespace Go.Sl
open Go.Proofs
set_option maxRecDepth 4000
variable{bd i kd mo nd wd:Int}{Y:List Item}{b:Nat}{lv:Value}{ls:List Int}
variable {κ:Ctx}{I:List Item}
structure bu0 (κ:Ctx) (nd kd wd mo bd:Int) (k:EnS) (v:KpV) (Y:List Item):Prop where
 rn:2<=nd/\nd<=6
 ok:az1 nd kd wd mo bd k
 f:KpF κ Y nd k v
 wl:k.b.ws.length<=8
 lt:k.b.lt<=60
theorem bu0.mk'{κ:Ctx}{k:EnS}{v:KpV}{T:List Item}(hT:T=[])(h1:2<=nd/\nd<=6)(h2:az1 nd kd wd mo bd k)(M:KpF κ (Y++T) nd k v)(h4:k.b.ws.length<=8)(h5:k.b.lt<=60):bu0 κ nd kd wd mo bd k v Y:=by
 subst hT
 rw [Gt] at M
 exact ⟨h1,h2,M,h4,h5⟩
theorem bu0.tm{κ:Ctx}{k:EnS}{v:KpV}(h:bu0 κ nd kd wd mo bd k v Y):0<=k.tm/\k.tm<=60/\k.b.mr<=60:=by
 have h1:=h.ok.tm
 have M:=h.ok.buf.mr
 have h3:=h.lt
 omega
set_option maxHeartbeats 4000000 in
theorem ci1(hl:∀q,Sl κ (ao9 b lv q::I) lv ls)(h0:0<=i)   :
    eu prog κ 35 [(pt b)] (e8 b [lv,e7 i] 85::I) (λr J=>∃y:Int×Int×Int×Int×Int×EnS×KpV×(List Item)×Int,((r = .agg (kx y.2.1 y.2.2.1 y.2.2.2.1 y.2.2.2.2.1 y.1 y.2.2.2.2.2.1 y.2.2.2.2.2.2.1).toArray/\bu0 κ y.1 y.2.1 y.2.2.1 y.2.2.2.1 y.2.2.2.2.1 y.2.2.2.2.2.1 y.2.2.2.2.2.2.1 y.2.2.2.2.2.2.2.1)/\0<=y.2.2.2.2.2.2.2.2)/\J=y.2.2.2.2.2.2.2.1++ao9 b lv y.2.2.2.2.2.2.2.2::I):=by
 obtain ⟨T,a7⟩:∃T:List Item,T=[]:=⟨_,rfl⟩
 have hH:Has I T:=by rw [a7];exact Has.nil I
 refine Ce1 Tryz.func35 C C ?_
 refine Am<|Ge1 (Aj H3 C) λb1=>Ar<|Am<|Gm C<|G.e (Ac c_ C C<|R1 ta1 (Bd (hl _) Ah) om om) ?_
 rintro _ _ ⟨_,_,⟨x2,i3,rfl,bi,hi3,rfl⟩,rfl,rfl⟩
 show G prog κ _ _ _ _ ([(12,e7 x2),(11,pt b),(2,pt b1),(0,pt b)]:Env) (e8 b1 zk 47::e8 b [lv,e7 i3] 85::I)
 refine Gr (Rad C C)<|Ga C<|Ar<|Am<|Gm C<|Gm C<|G.e (Ac c_ C C<|R1 ta1 (Bd (hl _) Ah) om om) ?_
 rintro _ _ ⟨_,_,⟨x4,i5,rfl,bh,bm,rfl⟩,rfl,rfl⟩
 show G prog κ _ _ _ _ ([(17,e7 x4),(16,pt b),(15,e7<|2+x2),(3,e7<|2+x2),(13,e7<|2+x2),(12,e7 x2),(11,pt b),(2,pt b1),(0,pt b)]:Env) (e8 b1 zk 47::e8 b [lv,e7 i5] 85::I)
 refine Gm C<|G.e (Ac c_ C C<|cb7 ta1 (λ_=>Bd (hl _) Az) om  ) ?_
 rintro _ _ ⟨_,_,⟨⟨ae,ab,ad,i9⟩,⟨⟨rfl,ar⟩,a4⟩,rfl⟩,rfl,rfl⟩
 show G prog κ _ _ _ _ ([(19,.agg #[e7 ae,e7 ab,e7 ad]),(18,pt b),(17,e7 x4),(16,pt b),(15,e7<|2+x2),(3,e7<|2+x2),(13,e7<|2+x2),(12,e7 x2),(11,pt b),(2,pt b1),(0,pt b)]:Env) (e8 b1 zk 47::e8 b [lv,e7 i9] 85::I)
 have a4:0<=i9:=a4
 have ar:s7 ae ab ad=0:=ar
 refine G.e (Ac c_ C C<|dp3 (nd:=2+x2) (bd:=x4) T om ar om) ?_
 rintro _ _ ⟨_,_,⟨aa,Y11,rfl,a0,rfl⟩,rfl,rfl⟩
 refine Ds (J:=e8 b1 zk 47::e8 b [lv,e7 i9] 85::(Y11++I)) (Cj<|C0 (A:=Y11) (L:=[e8 b1 zk 47,e8 b [lv,e7 i9] 85]) (T:=I)) ?_
 show G prog κ _ _ _ _ ([(20,.tuple #[.agg (kx ae ab ad x4 (2+x2) ((⟨⟨-1, -1,[]⟩,[],0⟩:EnS)) aa).toArray,e7 0]),(19,.agg #[e7 ae,e7 ab,e7 ad]),(18,pt b),(17,e7 x4),(16,pt b),(15,e7<|2+x2),(3,e7<|2+x2),(13,e7<|2+x2),(12,e7 x2),(11,pt b),(2,pt b1),(0,pt b)]:Env) (e8 b1 zk 47::e8 b [lv,e7 i9] 85::(Y11++I))
 refine Gm C<|Gr (Bk C C)<|Gr (Bk C C)<|Ge1 (Aj H3 C) λan=>Ge0 (Eff.sq H3) ?_
 refine Ga C<|Ar<|A0 (S4 4 3 2 0)<|Am<|Gm C<|Gm C<|G.e (Ac c_ C C<|cy5 ta1 (λ_=>Bd (hl _) Az) om  om om) ?_
 rintro _ _ ⟨_,_,⟨⟨ah,ai,M,ao⟩,⟨⟨rfl,ap⟩,ay⟩,rfl⟩,rfl,rfl⟩
 show G prog κ _ _ _ _ ([(25,.slice ah M.length ai),(24,e7<|2+x2),(23,pt b),(4,pt an),(3,e7<|2+x2),(2,pt b1),(0,pt b)]:Env) (vk 54 ah ai M::e8 an (kx ae ab ad x4 (2+x2) ((⟨⟨-1, -1,[]⟩,[],0⟩:EnS)) aa) 47::e8 b1 zk 47::e8 b [lv,e7 ao] 85::(Y11++I))
 have ay:0<=ao:=ay
 dsimp only at ap
 have bg:=ap.2
 refine Ga C<|Ar<|Ay<|Am<|Ga C<|Ar<|A8<|B9 (σ:=Nat×EnS×KpV×(List Item)) (λs=>([(2,pt b1),(4,pt an),(6,.slice ah M.length ai),(7,e7 ((s.1:Nat):Int))]:Env)) (λs=>vk 54 ah ai M::e8 an (kx ae ab ad x4 (2+x2) s.2.1 s.2.2.1) 47::e8 b1 zk 47::e8 b [lv,e7 ao] 85::(s.2.2.2++I)) (λs=>(s.1<=M.length)/\(az1 (2+x2) ae ab ad x4 s.2.1)/\(KpF κ (s.2.2.2++T) (2+x2) s.2.1 s.2.2.1)/\(s.2.1.b.ws.length<=s.1)/\(s.2.1.b.lt<=60)) (λs=>M.length - s.1) (0,(⟨⟨-1, -1,[]⟩,[],0⟩:EnS),aa,Y11) (show ((0:Nat)<=M.length)/\(az1 (2+x2) ae ab ad x4 ((⟨⟨-1, -1,[]⟩,[],0⟩:EnS):EnS))/\(KpF κ ((Y11:List Item)++T) (2+x2) ((⟨⟨-1, -1,[]⟩,[],0⟩:EnS):EnS) (aa:KpV))/\(((⟨⟨-1, -1,[]⟩,[],0⟩:EnS):EnS).b.ws.length<=(0:Nat))/\(((⟨⟨-1, -1,[]⟩,[],0⟩:EnS):EnS).b.lt<=60) from ⟨om,(az1.open_ om ar om),a0,(by show (0:Nat)<=0;omega),(by show (-1:Int)<=60;omega)⟩) (cx2<|Aa C<|Aa Cn Bb) (show Fit κ _ (vk 54 ah ai M::e8 an (ky ae ab ad x4 (((⟨⟨-1, -1,[]⟩,[],0⟩:EnS)).b.lt) (((⟨⟨-1, -1,[]⟩,[],0⟩:EnS)).b.mr) (aa).w.a ((⟨⟨-1, -1,[]⟩,[],0⟩:EnS)).b.ws.length (aa).w.c (2+x2) (aa).l.a ((⟨⟨-1, -1,[]⟩,[],0⟩:EnS)).S.length (aa).l.c (j8 ((⟨⟨-1, -1,[]⟩,[],0⟩:EnS)).S) (aa).p (((⟨⟨-1, -1,[]⟩,[],0⟩:EnS)).tm)) 47::e8 b1 zk 47::e8 b [lv,e7 ao] 85::((Y11)++I)) from Az) ?_
 rintro ⟨i,k,v,Y⟩ hp
 dsimp only at hp ⊢
 obtain ⟨hi,hK,hF,bn,hlt⟩:=hp
 refine Ay<|Am<|Gm C<|Gm C<|Gr (Bl Ad C)<|Gr (Bj C C)<|Ar<|Al C (λba=>?_)<|λba=>?_
 ·refine Bc (Ao<|Ay<|A8<|Ay<|A9 mixed<|Bx (vk 54 ah ai M::e8 an (kx ae ab ad x4 (2+x2) k v) 47::e8 b1 zk 47::e8 b [lv,e7 ao] 85::(Y++I)) 14<|Cd 0 C kr kr kr C kr (λ_ _ _ _ h=>h) (Ap C) C C ta0 (j7.lj H3) ?_)
  refine Cd 1 C kr kr kr C kr (λ_ _ _ _ h=>h) (Ap C) C C ta0 (Aq C) ?_
  refine Cd 2 C kr kr kr C kr (λ_ _ _ _ h=>h) (Ap C) C C ta0 (Aq C) ?_
  refine Cd 3 C kr kr kr C kr (λ_ _ _ _ h=>h) (Ap C) C C ta0 (A2 (α:=Ev) (xs:=M) Ad z6 C C A5 om om) ?_
  refine Cd 4 C kr kr kr C kr (λ_ _ _ _ h=>h) (Ap C) C C ta0 (Da (α:=Ev) (xs:=M) z6 C A5 om om) ?_
  have ax:=(ap.1 _<|Bn (xs:=M) (i:=(i:Int)) om om).1
  have bk:=(ap.1 _<|Bn (xs:=M) (i:=(i:Int)) om om).2
  refine C8 (rs:=[5,10]) kr C C<|Ei ?_<|Do ?_
  ·refine Se C (Ac c_ C C<|cr0 (T:=(Y++T)) (k:=k) (v:=v) ta2 hF hK om om ax) ?_
   rintro _ _ ⟨_,_,(⟨av,rfl,rfl⟩|⟨av,ak,Y18,a8,a6,rfl,a1,bb,rfl⟩),rfl,rfl⟩
   ·refine ⟨ta0,?_⟩
    show D prog κ _ _ _ _ _ _ _ ([(38,.tuple #[.agg zk.toArray,.slice none 0 0,e7 10]),(37,.agg (ez (e_ M i)).toArray),(36,F1 (.slice ah M.length ai)<|((i:Int)).toNat*Enc.sz Ev),(35,e7<|(i:Int)),(34,.slice ah M.length ai),(33,.agg (kx ae ab ad x4 (2+x2) k v).toArray),(29,.bool<|decide<|(i:Int)<((M.length:Nat):Int)),(28,e7 ((M.length:Nat):Int)),(27,.slice ah M.length ai),(26,e7<|(i:Int)),(2,pt b1),(4,pt an),(6,.slice ah M.length ai),(7,e7<|(i:Int))]:Env) (vk 54 ah ai M::e8 an (kx ae ab ad x4 (2+x2) k v) 47::e8 b1 zk 47::e8 b [lv,e7 ao] 85::(Y++I))
    refine Cd 6 C kr kr kr C kr (λ_ _ _ _ h=>h) (Ap C) C C ta0 (Aq C) ?_
    refine Cd 7 C kr kr kr C kr (λ_ _ _ _ h=>h) (Ap C) C C ta0 (Bk C C) ?_
    refine Cd 8 C kr kr kr C kr (λ_ _ _ _ h=>h) (Ap C) C C ta0 (Bk C C) ?_
    refine Cd 9 C kr kr kr C kr (λ_ _ _ _ h=>h) (Ap C) C C ta0 (Bk C C) ?_
    refine Ds1 10<|Se C (Aj H3 C) ?_
    rintro _ _ ⟨bf,rfl,rfl⟩
    refine ⟨ta0,?_⟩
    refine Ds1 11<|Se C (Eff.sq H3) ?_
    rintro _ _ ⟨rfl,rfl⟩
    refine ⟨ta0,?_⟩
    refine Cd 12 C kr kr kr C kr (λ_ _ _ _ h=>h) (Ap C) C C ta0 (Be C) ?_
    refine Cd 13 C kr kr kr C kr (λ_ _ _ _ h=>h) (Ap C) C C ta0 (Be C) ?_
    refine Dz<|Ao<|A0 (S6 10 8 2 4 6 7)<|Am<|Gm C<|Gr (C4 C C)<|Ar<|Al C (λaq=>?_)<|λaq=>?_
    ·exact absurd aq dc
    exact Bc<|Av<|Ao<|Ba<|Gm C<|Gr (Rad C C)<|Ga C<|Bs<|Bt ((i+1),(k),(v),(Y))<|by dsimp only;exact ⟨om,hK,hF,om,hlt⟩
   refine ⟨ta0,?_⟩
   refine D.fit (J:=vk 54 ah ai M::e8 an (kx ae ab ad x4 (2+x2) k v) 47::e8 b1 zk 47::e8 b [lv,e7 ao] 85::(Y18++(Y++I))) (Cj<|C0 (A:=Y18) (L:=[vk 54 ah ai M,e8 an (kx ae ab ad x4 (2+x2) k v) 47,e8 b1 zk 47,e8 b [lv,e7 ao] 85]) (T:=(Y++I))) ?_
   show D prog κ _ _ _ _ _ _ _ ([(38,.tuple #[.agg (kx ae ab ad x4 (2+x2) ((k.feed ae ab ad x4<|e_ M i)) ak).toArray,.slice a8 ((k.cn3 ae ab ad x4<|e_ M i)).length a6,e7 0]),(37,.agg (ez (e_ M i)).toArray),(36,F1 (.slice ah M.length ai)<|((i:Int)).toNat*Enc.sz Ev),(35,e7<|(i:Int)),(34,.slice ah M.length ai),(33,.agg (kx ae ab ad x4 (2+x2) k v).toArray),(29,.bool<|decide<|(i:Int)<((M.length:Nat):Int)),(28,e7 ((M.length:Nat):Int)),(27,.slice ah M.length ai),(26,e7<|(i:Int)),(2,pt b1),(4,pt an),(6,.slice ah M.length ai),(7,e7<|(i:Int))]:Env) (vk 54 ah ai M::e8 an (kx ae ab ad x4 (2+x2) k v) 47::e8 b1 zk 47::e8 b [lv,e7 ao] 85::(Y18++(Y++I)))
   refine Cd 6 C kr kr kr C kr (λ_ _ _ _ h=>h) (Ap C) C C ta0 (Aq C) ?_
   refine Cd 7 C kr kr kr C kr (λ_ _ _ _ h=>h) (Ap C) C C ta0 (Bk C C) ?_
   refine Cd 8 C kr kr kr C kr (λ_ _ _ _ h=>h) (Ap C) C C ta0 (Bk C C) ?_
   refine Cd 9 C kr kr kr C kr (λ_ _ _ _ h=>h) (Ap C) C C ta0 (Bk C C) ?_
   refine Ds1 10<|Se C (Aj H3 C) ?_
   rintro _ _ ⟨bj,rfl,rfl⟩
   refine ⟨ta0,?_⟩
   refine Ds1 11<|Se C (Eff.sq H3) ?_
   rintro _ _ ⟨rfl,rfl⟩
   refine ⟨ta0,?_⟩
   refine Cd 12 C kr kr kr C kr (λ_ _ _ _ h=>h) (Ap C) C C ta0 (Be C) ?_
   refine Cd 13 C kr kr kr C kr (λ_ _ _ _ h=>h) (Ap C) C C ta0 (Be C) ?_
   refine Dz<|Ao<|A0 (S6 10 8 2 4 6 7)<|Am<|Gm C<|Gr (C4 C C)<|Ar<|Al C (λaq=>?_)<|λaq=>?_
   ·refine Ba (Gr (j7.lj H3) ?_)
    refine Ge0 (Eff.sq H3) ?_
    refine Bs<|Av<|Ao<|Ba<|Gm C<|Gr (Rad C C)<|Ga C<|Bs ?_
    have be:=bf2 (kd:=ae) (wd:=ab) (mo:=ad) (bd:=x4) k (e_ M i)
    exact Bt ((i+1),((k.feed ae ab ad x4<|e_ M i)),(ak),((Y18++Y))) (by dsimp only;exact ⟨om,(hK.feed ax av),(by rw [Fu];exact a1),om,(by show max k.b.lt (e_ M i).tm<=60;omega)⟩) (hI:=by (try dsimp only);exact ta7)
   exact absurd dc aq
  refine Se C (Aj H3 C) ?_
  rintro _ _ ⟨aw,rfl,rfl⟩
  refine ⟨ta0,?_⟩
  refine Ds1 5<|Se C (Ac c_ C C<|cr0 (T:=(Y++T)) (k:=k) (v:=v) ta2 hF hK om om ax) ?_
  rintro _ _ ⟨_,_,(⟨au,rfl,rfl⟩|⟨au,aj,Y25,a5,a3,rfl,az,a9,rfl⟩),rfl,rfl⟩
  ·refine ⟨ta0,?_⟩
   show D prog κ _ _ _ _ _ _ _ ([(38,.tuple #[.agg zk.toArray,.slice none 0 0,e7 10]),(8,pt aw),(37,.agg (ez (e_ M i)).toArray),(36,F1 (.slice ah M.length ai)<|((i:Int)).toNat*Enc.sz Ev),(35,e7<|(i:Int)),(34,.slice ah M.length ai),(33,.agg (kx ae ab ad x4 (2+x2) k v).toArray),(29,.bool<|decide<|(i:Int)<((M.length:Nat):Int)),(28,e7 ((M.length:Nat):Int)),(27,.slice ah M.length ai),(26,e7<|(i:Int)),(2,pt b1),(4,pt an),(6,.slice ah M.length ai),(7,e7<|(i:Int))]:Env) (e8 aw zk 47::vk 54 ah ai M::e8 an (kx ae ab ad x4 (2+x2) k v) 47::e8 b1 zk 47::e8 b [lv,e7 ao] 85::(Y++I))
   refine Cd 6 C kr kr kr C kr (λ_ _ _ _ h=>h) (Ap C) C C ta0 (Aq C) ?_
   refine Cd 7 C kr kr kr C kr (λ_ _ _ _ h=>h) (Ap C) C C ta0 (Bk C C) ?_
   refine Cd 8 C kr kr kr C kr (λ_ _ _ _ h=>h) (Ap C) C C ta0 (Bk C C) ?_
   refine Cd 9 C kr kr kr C kr (λ_ _ _ _ h=>h) (Ap C) C C ta0 (Bk C C) ?_
   refine Ds1 11<|Se C (Eff.sq H3) ?_
   rintro _ _ ⟨rfl,rfl⟩
   refine ⟨ta0,?_⟩
   refine Cd 12 C kr kr kr C kr (λ_ _ _ _ h=>h) (Ap C) C C ta0 (Be C) ?_
   refine Cd 13 C kr kr kr C kr (λ_ _ _ _ h=>h) (Ap C) C C ta0 (Be C) ?_
   refine Dz<|Ao<|A0 (S6 10 8 2 4 6 7)<|Am<|Gm C<|Gr (C4 C C)<|Ar<|Al C (λaq=>?_)<|λaq=>?_
   ·exact absurd aq dc
   exact Bc<|Av<|Ao<|Ba<|Gm C<|Gr (Rad C C)<|Ga C<|Bs<|Bt ((i+1),(k),(v),(Y))<|by dsimp only;exact ⟨om,hK,hF,om,hlt⟩
  refine ⟨ta0,?_⟩
  refine D.fit (J:=e8 aw zk 47::vk 54 ah ai M::e8 an (kx ae ab ad x4 (2+x2) k v) 47::e8 b1 zk 47::e8 b [lv,e7 ao] 85::(Y25++(Y++I))) (Cj<|C0 (A:=Y25) (L:=[e8 aw zk 47,vk 54 ah ai M,e8 an (kx ae ab ad x4 (2+x2) k v) 47,e8 b1 zk 47,e8 b [lv,e7 ao] 85]) (T:=(Y++I))) ?_
  show D prog κ _ _ _ _ _ _ _ ([(38,.tuple #[.agg (kx ae ab ad x4 (2+x2) ((k.feed ae ab ad x4<|e_ M i)) aj).toArray,.slice a5 ((k.cn3 ae ab ad x4<|e_ M i)).length a3,e7 0]),(8,pt aw),(37,.agg (ez (e_ M i)).toArray),(36,F1 (.slice ah M.length ai)<|((i:Int)).toNat*Enc.sz Ev),(35,e7<|(i:Int)),(34,.slice ah M.length ai),(33,.agg (kx ae ab ad x4 (2+x2) k v).toArray),(29,.bool<|decide<|(i:Int)<((M.length:Nat):Int)),(28,e7 ((M.length:Nat):Int)),(27,.slice ah M.length ai),(26,e7<|(i:Int)),(2,pt b1),(4,pt an),(6,.slice ah M.length ai),(7,e7<|(i:Int))]:Env) (e8 aw zk 47::vk 54 ah ai M::e8 an (kx ae ab ad x4 (2+x2) k v) 47::e8 b1 zk 47::e8 b [lv,e7 ao] 85::(Y25++(Y++I)))
  refine Cd 6 C kr kr kr C kr (λ_ _ _ _ h=>h) (Ap C) C C ta0 (Aq C) ?_
  refine Cd 7 C kr kr kr C kr (λ_ _ _ _ h=>h) (Ap C) C C ta0 (Bk C C) ?_
  refine Cd 8 C kr kr kr C kr (λ_ _ _ _ h=>h) (Ap C) C C ta0 (Bk C C) ?_
  refine Cd 9 C kr kr kr C kr (λ_ _ _ _ h=>h) (Ap C) C C ta0 (Bk C C) ?_
  refine Ds1 11<|Se C (Eff.sq H3) ?_
  rintro _ _ ⟨rfl,rfl⟩
  refine ⟨ta0,?_⟩
  refine Cd 12 C kr kr kr C kr (λ_ _ _ _ h=>h) (Ap C) C C ta0 (Be C) ?_
  refine Cd 13 C kr kr kr C kr (λ_ _ _ _ h=>h) (Ap C) C C ta0 (Be C) ?_
  refine Dz<|Ao<|A0 (S6 10 8 2 4 6 7)<|Am<|Gm C<|Gr (C4 C C)<|Ar<|Al C (λaq=>?_)<|λaq=>?_
  ·refine Ba (Gr (j7.lj H3) ?_)
   refine Ge0 (Eff.sq H3) ?_
   refine Bs<|Av<|Ao<|Ba<|Gm C<|Gr (Rad C C)<|Ga C<|Bs ?_
   have be:=bf2 (kd:=ae) (wd:=ab) (mo:=ad) (bd:=x4) k (e_ M i)
   exact Bt ((i+1),((k.feed ae ab ad x4<|e_ M i)),(aj),((Y25++Y))) (by dsimp only;exact ⟨om,(hK.feed ax au),(by rw [Fu];exact az),om,(by show max k.b.lt (e_ M i).tm<=60;omega)⟩) (hI:=by (try dsimp only);exact ta7)
  exact absurd dc aq
 refine Ck<|Aw<|Aw<|Bi<|Ao<|Am<|Gr (j7.lj H3) ?_
 refine Ge0 (Eff.sq H3) ?_
 refine Ar<|B2 ?_
 have bc:=bu0.mk' a7 (show 2<=2+x2/\2+x2<=6 by omega) hK hF (show k.b.ws.length<=8 by omega) hlt
 exact Ej C H3 C mm C (Y++(e8 b [lv,e7 ao] 85::I)) (A7 (show Fit κ _ (e8 b [lv,e7 ao] 85::(Y++I)) from Az)<|Cj (C0 (A:=Y) (L:=[e8 b [lv,e7 ao] 85]) (T:=I)).symm) ⟨(2+x2,ae,ab,ad,x4,k,v,Y,ao),⟨⟨rfl,bc⟩,by show 0<=ao;omega⟩,rfl⟩
theorem dp9{F:Item->List Item}(M:AtF I (ao9 b lv i) F)(hl:∀q,Sl κ (F (ao9 b lv q)) lv ls)(h0:0<=i)   :
  eu prog κ 35 [(pt b)] I λr J=>∃y:Int×Int×Int×Int×Int×EnS×KpV×(List Item)×Int,((r = .agg (kx y.2.1 y.2.2.1 y.2.2.2.1 y.2.2.2.2.1 y.1 y.2.2.2.2.2.1 y.2.2.2.2.2.2.1).toArray/\bu0 κ y.1 y.2.1 y.2.2.1 y.2.2.2.1 y.2.2.2.2.1 y.2.2.2.2.2.1 y.2.2.2.2.2.2.1 y.2.2.2.2.2.2.2.1)/\0<=y.2.2.2.2.2.2.2.2)/\J=y.2.2.2.2.2.2.2.1++F (ao9 b lv y.2.2.2.2.2.2.2.2):=
 Fo (Post:=λr (y:Int×Int×Int×Int×Int×EnS×KpV×(List Item)×Int)=>(r = .agg (kx y.2.1 y.2.2.1 y.2.2.2.1 y.2.2.2.2.1 y.1 y.2.2.2.2.2.1 y.2.2.2.2.2.2.1).toArray/\bu0 κ y.1 y.2.1 y.2.2.1 y.2.2.2.1 y.2.2.2.2.1 y.2.2.2.2.2.1 y.2.2.2.2.2.2.1 y.2.2.2.2.2.2.2.1)/\0<=y.2.2.2.2.2.2.2.2) (Z:=λy:Int×Int×Int×Int×Int×EnS×KpV×(List Item)×Int=>y.2.2.2.2.2.2.2.1) (X:=λy:Int×Int×Int×Int×Int×EnS×KpV×(List Item)×Int=>ao9 b lv y.2.2.2.2.2.2.2.2) M λJ _ hF=>ci1 (λq=>(hl q).fit (hF _)) h0  
end Go.Sl
