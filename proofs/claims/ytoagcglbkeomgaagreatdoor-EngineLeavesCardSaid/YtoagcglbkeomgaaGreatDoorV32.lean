/- A part of the proofs of statements of this seat: contracts of functions, and the plain laws that they lean on. No conditions. -/
import Derived.Test.YtoagcglbkeomgaaGreatDoorV31
set_option linter.unusedVariables false
set_option linter.unusedSimpArgs false
set_option linter.unusedSectionVars false
open Go.Proofs.Tryz (prog)
set_option maxHeartbeats 4000000
namespace Go.Sl
open Go.Proofs
set_option maxRecDepth 4000
variable{κ:Ctx}{I:List Item}{wa:Option Addr}{wc:Nat}
theorem Has.nil(I:List Item):Has I []:=⟨I,by rw [Gq]⟩
theorem ta0{p:Prop}(h:p:=by first|exact A9 (Bu _ _) Ai|exact Ai):p:=h
theorem cb4{nd kd wd mo bd:Int}{k:EnS}{v:KpV}{bf:BfS}{evs:List Ev}{ea:Option Addr}{ec:Nat}{T:List Item}(hH:Has I T)(hF:KpF κ T nd k v)(hK:EnV nd kd wd mo bd k)(bc:Sl κ T (.slice wa bf.ws.length wc) bf.ws)(he:Sl κ T (.slice ea evs.length ec) evs)(ao:evs.Pairwise λa b=>a.tm<=b.tm)(ai:∀e∈evs,H7 nd e/\k.tm<=e.tm)(a9:k.b.ws.length<=4000)(bh:evs.length<=5000)(h1:1<=nd):eu prog κ 123 [.agg (kx kd wd mo bd nd k v).toArray,.agg #[e7 bd,e7 (bf.lt),e7 (bf.mr),.slice wa bf.ws.length wc],.slice ea evs.length ec] I (λr J=>∃(v':KpV) (Y:List Item) (a:Option Addr) (c:Nat),r = .tuple #[.agg (kx kd wd mo bd nd ((k.rel kd wd mo bf evs)) v').toArray,.slice a ((X9 kd wd mo k.S evs).2).length c,e7 0]/\KpF κ (Y++T) nd (k.rel kd wd mo bf evs) v'/\Sl κ (Y++T) (.slice a ((X9 kd wd mo k.S evs).2).length c) (X9 kd wd mo k.S evs).2/\J=Y++I):=by
 refine Ce3 Tryz.func123 C C ?_
 refine Ak<|Ge1 (Au (cs:=[_,_,_,_,_,_,_,_,_,_,_,_,_,_,_,_,_,_,_,_,_,_,_,_,_]) C C C) λb1=>Ge1 (Au (cs:=[_,_,_,_]) C C C) λb2=>Ge1 (Aj H2 C) λb3=>Ga C<|Ga C<|Ar<|Ak<|Ga C<|Ar<|Ax<|Ak<|Ga C<|Ar<|A7<|B9 (σ:=Nat×EnS×KpV×(List Item)×(Option Addr)×Nat×(List Ev)) (λs=>([(2,.slice ea evs.length ec),(3,pt b1),(4,pt b2),(6,pt b3),(9,.slice s.2.2.2.2.1 s.2.2.2.2.2.2.length s.2.2.2.2.2.1),(10,e7 ((s.1:Nat):Int))]:Env)) (λs=>vk 54 s.2.2.2.2.1 s.2.2.2.2.2.1 s.2.2.2.2.2.2::e8 b3 zk 47::e8 b2 [e7 bd,e7<|bf.lt,e7<|bf.mr,.slice wa bf.ws.length wc] 32::e8 b1 (kx kd wd mo bd nd s.2.1 s.2.2.1) 47::(s.2.2.2.1++I)) (λs=>(s.1<=evs.length)/\(s.2.1.b=k.b)/\(X9 kd wd mo k.S (evs.take s.1)=(s.2.1.S,s.2.2.2.2.2.2))/\(s.2.1.tm=W7 k.tm (evs.take s.1))/\(EnV nd kd wd mo bd s.2.1)/\(KpF κ (s.2.2.2.1++T) nd s.2.1 s.2.2.1)/\(s.2.2.2.2.2.2.length<=5000*s.1)) (λs=>evs.length - s.1) (0,k,v,[],none,0,[]) (show ((0:Nat)<=evs.length)/\((k:EnS).b=k.b)/\(X9 kd wd mo k.S (evs.take (0:Nat))=((k:EnS).S,([]:List Ev)))/\((k:EnS).tm=W7 k.tm (evs.take (0:Nat)))/\(EnV nd kd wd mo bd (k:EnS))/\(KpF κ (([]:List Item)++T) nd (k:EnS) (v:KpV))/\(([]:List Ev).length<=5000*(0:Nat)) from ⟨om,rfl,rfl,rfl,hK,hF,(by simp)⟩) (cx4<|Aa (Db C<|by first|rfl|simp)<|Aa Co Bb) (show Fit κ _ (vk 54 none 0 ([])::e8 b3 zk 47::e8 b2 [e7 bd,e7<|bf.lt,e7<|bf.mr,.slice wa bf.ws.length wc] 32::e8 b1 (ky kd wd mo bd ((k).b.lt) ((k).b.mr) (v).w.a (k).b.ws.length (v).w.c nd (v).l.a (k).S.length (v).l.c (j5 (k).S) (v).p ((k).tm)) 47::(([])++I)) from (A9 (show Fit κ _ _ from Az)<|B7 (α:=Ev) _ _)) ?_
 rintro ⟨i,k1,M,Y,oa,oc,o⟩ hp
 dsimp only at hp ⊢
 obtain ⟨hi,hb,ad,an,hV,ak,bg⟩:=hp
 have ba:=q9 (F1 hV.inv.val)
 rw [G5] at ba
 have az:k1.b.ws.length<=4000:=by rw [hb];exact a9
 refine Ax<|Ak<|Gm C<|Gm C<|Gr (Bk Ad C)<|Gr (Bl C C)<|Ar<|Am C (λbb=>?_)<|λbb=>?_
 ·refine Bc (Ao<|Ax<|A7<|W.cut (σ:=Ev×KpV×(List Item)×SlA×Nat) (λs=>([(2,.slice ea evs.length ec),(3,pt b1),(4,pt b2),(6,pt b3),(9,.slice oa o.length oc),(10,e7<|(i:Int)),(11,pt s.2.2.2.2),(12,.slice s.2.2.2.1.a ((p5 kd wd mo (k1.S,[]) s.1).2).length s.2.2.2.1.c),(13,e7 0)]:Env)) (λs=>e8 s.2.2.2.2 (kx kd wd mo bd nd ((⟨k1.b,(p5 kd wd mo (k1.S,[]) s.1).1,s.1.tm⟩:EnS)) s.2.1) 47::vk 54 oa oc o::e8 b3 zk 47::e8 b2 [e7 bd,e7<|bf.lt,e7<|bf.mr,.slice wa bf.ws.length wc] 32::e8 b1 (kx kd wd mo bd nd k1 M) 47::(s.2.2.1++(Y++I))) (λs=>(e_ evs i=s.1)/\(KpF κ (s.2.2.1++(Y++T)) nd (⟨k1.b,(p5 kd wd mo (k1.S,[]) s.1).1,s.1.tm⟩:EnS) s.2.1)/\(Sl κ (s.2.2.1++(Y++T)) (.slice s.2.2.2.1.a ((p5 kd wd mo (k1.S,[]) s.1).2).length s.2.2.2.1.c)<|(p5 kd wd mo (k1.S,[]) s.1).2)) ?_ ?_)
  ·refine Ba mixed (Bx (vk 54 oa oc o::e8 b3 zk 47::e8 b2 [e7 bd,e7<|bf.lt,e7<|bf.mr,.slice wa bf.ws.length wc] 32::e8 b1 (kx kd wd mo bd nd k1 M) 47::(Y++I)) 14<|Cd 0 C kr kr kr C kr (λ_ _ _ _ h=>h) (Ap C) C C ta0 (j8.lj H2) ?_)
   refine Cd 1 C kr kr kr C kr (λ_ _ _ _ h=>h) (Ap C) C C ta0 (Aq C) ?_
   refine Cd 2 C kr kr kr C kr (λ_ _ _ _ h=>h) (Ap C) C C ta0 (Aq C) ?_
   refine Cd 3 C kr kr kr C kr (λ_ _ _ _ h=>h) (Ap C) C C ta0 (A2 (α:=Ev) (xs:=evs) Ad s9 C C (Bg (Bg he hH.fit) Ah) om om) ?_
   refine Cd 4 C kr kr kr C kr (λ_ _ _ _ h=>h) (Ap C) C C ta0 (C6 (α:=Ev) (xs:=evs) s9 C (Bg (Bg he hH.fit) Ah) om om) ?_
   have ah:=ai _ (Bp (xs:=evs) (i:=(i:Int)) om om)
   have ae:=ce7 ao (λe he=>(ai e he).2) (i:=i) om
   rw [←an] at ae
   refine C9 (rs:=[5,10]) kr C C<|Ej ?_<|Do ?_
   ·refine Se C (Ac c_ C C<|bo7 (T:=(Y++T)) (k:=k1) (v:=M) (xe:=(e_ evs i)) ta2 ak hV az h1 ah.1 ae) ?_
    rintro _ _ ⟨_,_,⟨ab,Y5,a0,ax,rfl,ay,a7,rfl⟩,rfl,rfl⟩
    refine ⟨ta0,?_⟩
    refine D.fit (J:=vk 54 oa oc o::e8 b3 zk 47::e8 b2 [e7 bd,e7<|bf.lt,e7<|bf.mr,.slice wa bf.ws.length wc] 32::e8 b1 (kx kd wd mo bd nd k1 M) 47::(Y5++(Y++I))) (Cj<|C1 (A:=Y5) (L:=[vk 54 oa oc o,e8 b3 zk 47,e8 b2 [e7 bd,e7<|bf.lt,e7<|bf.mr,.slice wa bf.ws.length wc] 32,e8 b1 (kx kd wd mo bd nd k1 M) 47]) (T:=(Y++I))) ?_
    show D prog κ _ _ _ _ _ _ _ ([(26,.tuple #[.agg (kx kd wd mo bd nd ((⟨k1.b,(p5 kd wd mo (k1.S,[])<|e_ evs i).1,(e_ evs i).tm⟩:EnS)) ab).toArray,.slice a0 ((p5 kd wd mo (k1.S,[])<|e_ evs i).2).length ax,e7 0]),(25,.agg (ez (e_ evs i)).toArray),(24,F0 (.slice ea evs.length ec)<|((i:Int)).toNat*Enc.sz Ev),(23,e7<|(i:Int)),(22,.slice ea evs.length ec),(21,.agg (kx kd wd mo bd nd k1 M).toArray),(17,.bool<|decide<|(i:Int)<((evs.length:Nat):Int)),(16,e7 ((evs.length:Nat):Int)),(15,.slice ea evs.length ec),(14,e7<|(i:Int)),(2,.slice ea evs.length ec),(3,pt b1),(4,pt b2),(6,pt b3),(9,.slice oa o.length oc),(10,e7<|(i:Int))]:Env) (vk 54 oa oc o::e8 b3 zk 47::e8 b2 [e7 bd,e7<|bf.lt,e7<|bf.mr,.slice wa bf.ws.length wc] 32::e8 b1 (kx kd wd mo bd nd k1 M) 47::(Y5++(Y++I)))
    refine Cd 6 C kr kr kr C kr (λ_ _ _ _ h=>h) (Ap C) C C ta0 (Aq C) ?_
    refine Cd 7 C kr kr kr C kr (λ_ _ _ _ h=>h) (Ap C) C C ta0 (Bj C C) ?_
    refine Cd 8 C kr kr kr C kr (λ_ _ _ _ h=>h) (Ap C) C C ta0 (Bj C C) ?_
    refine Cd 9 C kr kr kr C kr (λ_ _ _ _ h=>h) (Ap C) C C ta0 (Bj C C) ?_
    refine Ds1 10<|Se C (Aj H2 C) ?_
    rintro _ _ ⟨b8,rfl,rfl⟩
    refine ⟨ta0,?_⟩
    refine Ds1 11<|Se C (Eff.sq H2) ?_
    rintro _ _ ⟨rfl,rfl⟩
    refine ⟨ta0,?_⟩
    refine Cd 12 C kr kr kr C kr (λ_ _ _ _ h=>h) (Ap C) C C ta0 (Bh C) ?_
    refine Cd 13 C kr kr kr C kr (λ_ _ _ _ h=>h) (Ap C) C C ta0 (Bh C) ?_
    exact Dz<|Dm (((e_ evs i)),(ab),(Y5),(⟨a0,ax⟩),(b8))<|by dsimp only;exact ⟨rfl,ay,a7⟩
   refine Se C (Aj H2 C) ?_
   rintro _ _ ⟨b9,rfl,rfl⟩
   refine ⟨ta0,?_⟩
   refine Ds1 5<|Se C (Ac c_ C C<|bo7 (T:=(Y++T)) (k:=k1) (v:=M) (xe:=(e_ evs i)) ta2 ak hV az h1 ah.1 ae) ?_
   rintro _ _ ⟨_,_,⟨aa,Y11,aq,ap,rfl,ar,av,rfl⟩,rfl,rfl⟩
   refine ⟨ta0,?_⟩
   refine D.fit (J:=e8 b9 zk 47::vk 54 oa oc o::e8 b3 zk 47::e8 b2 [e7 bd,e7<|bf.lt,e7<|bf.mr,.slice wa bf.ws.length wc] 32::e8 b1 (kx kd wd mo bd nd k1 M) 47::(Y11++(Y++I))) (Cj<|C1 (A:=Y11) (L:=[e8 b9 zk 47,vk 54 oa oc o,e8 b3 zk 47,e8 b2 [e7 bd,e7<|bf.lt,e7<|bf.mr,.slice wa bf.ws.length wc] 32,e8 b1 (kx kd wd mo bd nd k1 M) 47]) (T:=(Y++I))) ?_
   show D prog κ _ _ _ _ _ _ _ ([(26,.tuple #[.agg (kx kd wd mo bd nd ((⟨k1.b,(p5 kd wd mo (k1.S,[])<|e_ evs i).1,(e_ evs i).tm⟩:EnS)) aa).toArray,.slice aq ((p5 kd wd mo (k1.S,[])<|e_ evs i).2).length ap,e7 0]),(11,pt b9),(25,.agg (ez (e_ evs i)).toArray),(24,F0 (.slice ea evs.length ec)<|((i:Int)).toNat*Enc.sz Ev),(23,e7<|(i:Int)),(22,.slice ea evs.length ec),(21,.agg (kx kd wd mo bd nd k1 M).toArray),(17,.bool<|decide<|(i:Int)<((evs.length:Nat):Int)),(16,e7 ((evs.length:Nat):Int)),(15,.slice ea evs.length ec),(14,e7<|(i:Int)),(2,.slice ea evs.length ec),(3,pt b1),(4,pt b2),(6,pt b3),(9,.slice oa o.length oc),(10,e7<|(i:Int))]:Env) (e8 b9 zk 47::vk 54 oa oc o::e8 b3 zk 47::e8 b2 [e7 bd,e7<|bf.lt,e7<|bf.mr,.slice wa bf.ws.length wc] 32::e8 b1 (kx kd wd mo bd nd k1 M) 47::(Y11++(Y++I)))
   refine Cd 6 C kr kr kr C kr (λ_ _ _ _ h=>h) (Ap C) C C ta0 (Aq C) ?_
   refine Cd 7 C kr kr kr C kr (λ_ _ _ _ h=>h) (Ap C) C C ta0 (Bj C C) ?_
   refine Cd 8 C kr kr kr C kr (λ_ _ _ _ h=>h) (Ap C) C C ta0 (Bj C C) ?_
   refine Cd 9 C kr kr kr C kr (λ_ _ _ _ h=>h) (Ap C) C C ta0 (Bj C C) ?_
   refine Ds1 11<|Se C (Eff.sq H2) ?_
   rintro _ _ ⟨rfl,rfl⟩
   refine ⟨ta0,?_⟩
   refine Cd 12 C kr kr kr C kr (λ_ _ _ _ h=>h) (Ap C) C C ta0 (Bh C) ?_
   refine Cd 13 C kr kr kr C kr (λ_ _ _ _ h=>h) (Ap C) C C ta0 (Bh C) ?_
   exact Dz<|Dm (((e_ evs i)),(aa),(Y11),(⟨aq,ap⟩),(b9))<|by dsimp only;exact ⟨rfl,ar,av⟩
  rintro ⟨xe,v2,Z,xv,nb⟩ hp
  obtain ⟨aj,a6,a4⟩:(e_ evs i=xe)/\(KpF κ (Z++(Y++T)) nd (⟨k1.b,(p5 kd wd mo (k1.S,[]) xe).1,xe.tm⟩:EnS) v2)/\(Sl κ (Z++(Y++T)) (.slice xv.a ((p5 kd wd mo (k1.S,[]) xe).2).length xv.c)<|(p5 kd wd mo (k1.S,[]) xe).2):=hp
  show W prog κ 42 _ _ ([(2,.slice ea evs.length ec),(3,pt b1),(4,pt b2),(6,pt b3),(9,.slice oa o.length oc),(10,e7<|(i:Int)),(11,pt nb),(12,.slice xv.a ((p5 kd wd mo (k1.S,[]) xe).2).length xv.c),(13,e7 0)]:Env) (e8 nb (kx kd wd mo bd nd ((⟨k1.b,(p5 kd wd mo (k1.S,[]) xe).1,xe.tm⟩:EnS)) v2) 47::vk 54 oa oc o::e8 b3 zk 47::e8 b2 [e7 bd,e7<|bf.lt,e7<|bf.mr,.slice wa bf.ws.length wc] 32::e8 b1 (kx kd wd mo bd nd k1 M) 47::(Z++(Y++I)))
  have ah:=ai _ (Bp (xs:=evs) (i:=(i:Int)) om om)
  have ae:=ce7 ao (λe he=>(ai e he).2) (i:=i) om
  rw [←an] at ae
  rw [aj] at ah ae
  have au:=bc6 hV.inv hV.tm.1 ae ah.1 hV.win
  have be:=au.len
  refine Ax<|Ak<|Gm C<|Gr (Cb C C)<|Ar<|Am C (λaw=>?_)<|λaw=>?_
  ·exact absurd aw dc
  refine Bc<|Ao<|Ba mixed<|Bx (e8 nb (kx kd wd mo bd nd ((⟨k1.b,(p5 kd wd mo (k1.S,[]) xe).1,xe.tm⟩:EnS)) v2) 47::e8 b3 zk 47::e8 b2 [e7 bd,e7<|bf.lt,e7<|bf.mr,.slice wa bf.ws.length wc] 32::(Z++(Y++I))) 4<|Dr 0 C (j8.lj H2) ?_
  refine C9 (rs:=[1,2]) kr C C<|Ej ?_<|Do ?_
  ·refine Sr C (Aq C) Az ?_
   refine Ds1 2<|Sr C (Aq C) Az ?_
   refine Ds1 3<|Se2 C (Br (α:=Ev) (e:=54) (xs:=o) (ys:=(p5 kd wd mo (k1.S,[]) xe).2) Ad s9 C C C mm (Bg a4<|B0 (κ:=κ)<|by repeat (first|exact hH|exact Bf _|apply Be|apply B4|apply Bn)) om dc C<|λ_ _=>am) λa5 a3=>?_
   refine Cg kr ?_
   refine Ae 4 C (Eff.sq H2) ?_
   rintro _ _ ⟨rfl,rfl⟩
   refine Dg (i:=5) kr C (Ap C) C C (Bh C) ?_
   refine Ch kr ?_
   exact Av<|Ao<|A1 (S6 9 2 3 4 6 10)<|A6<|Gm C<|Gr (Rad C C)<|Ga C<|Bq<|Bt ((i+1),((⟨k1.b,(p5 kd wd mo (k1.S,[]) xe).1,xe.tm⟩:EnS)),(v2),((Z++Y)),(a5),(a3),(o++((p5 kd wd mo (k1.S,[]) xe).2))) (by dsimp only;exact ⟨om,hb,(bq0 ad om aj),(as1 om aj).symm,⟨hV.win,hV.buf,au.inv,ah.1.tm⟩,(by rw [Fr];exact a6),(by rw [By];omega)⟩) (hI:=by (try dsimp only);exact ta7)
  refine Sr C (Aq C) Az ?_
  refine Ds1 1<|Sr C (Aq C) Az ?_
  refine Ds1 3<|Se2 C (Br (α:=Ev) (e:=54) (xs:=o) (ys:=(p5 kd wd mo (k1.S,[]) xe).2) Ad s9 C C C mm (Bg a4<|B0 (κ:=κ)<|by repeat (first|exact hH|exact Bf _|apply Be|apply B4|apply Bn)) om dc C<|λ_ _=>am) λa8 a1=>?_
  refine Cg kr ?_
  refine Ae 4 C (Eff.sq H2) ?_
  rintro _ _ ⟨rfl,rfl⟩
  refine Dg (i:=5) kr C (Ap C) C C (Bh C) ?_
  refine Ch kr ?_
  exact Av<|Ao<|A1 (S6 9 2 3 4 6 10)<|A6<|Gm C<|Gr (Rad C C)<|Ga C<|Bq<|Bt ((i+1),((⟨k1.b,(p5 kd wd mo (k1.S,[]) xe).1,xe.tm⟩:EnS)),(v2),((Z++Y)),(a8),(a1),(o++((p5 kd wd mo (k1.S,[]) xe).2))) (by dsimp only;exact ⟨om,hb,(bq0 ad om aj),(as1 om aj).symm,⟨hV.win,hV.buf,au.inv,ah.1.tm⟩,(by rw [Fr];exact a6),(by rw [By];omega)⟩) (hI:=by (try dsimp only);exact ta7)
 refine Ci<|Aw<|Aw<|Bi<|Ao<|Ak<|Gl4 J4 ?_
 refine Gf aw7 C<|Ge0 (Bs (cs:=[_,_,_,_,_,_,_,_,_,_,_,_,_,_,_,_,_,_,_,_,_,_,_,_,_]) (vs:=[_,_,_,_]) (cs':=[_,_,_,_,_,_,_,_,_,_,_,_,_,_,_,_,_,_,_,_,_,_,_,_,_]) J4) ?_
 refine Ar<|Ak<|Gr (j8.lj H2) ?_
 refine Gm C<|Ge0 (Eff.sq H2) ?_
 refine Ga C<|Ga C<|Ar<|A1 (S3 8 7 6)<|B3 ?_
 rw [show evs.take i=evs from Fv om] at ad an
 have hk:(k.rel kd wd mo bf evs)=⟨bf,k1.S,k1.tm⟩:=by unfold EnS.rel;rw [ad,←an]
 rw [hk,ad]
 exact Cu C H2 C C C mm C (((vk 54 oa oc o::Y)++I)) tb2 ⟨(⟨⟨wa,wc⟩,M.l,M.p⟩:KpV),(vk 54 oa oc o::Y),oa,oc,rfl,(by simp only [Jc,Fr];exact ⟨Bg bc Ah,Bg ak.l Ah,PkR.fit ak.p Ah⟩),Cz<|Gi _ A_,rfl⟩
theorem cy1{e:Ev}{bd:Int}{bf:BfS}(hl:Sl κ I (.slice wa bf.ws.length wc) bf.ws)(hB:az5 bd bf)(hw:bf.ws.length<=4096)(he:z6 e=0)(hT:0<=e.tm/\e.tm<=1048576)(M:bf.ws.length<4096):eu prog κ 67 [.agg #[e7 bd,e7 (bf.lt),e7 (bf.mr),.slice wa bf.ws.length wc],.agg (ez e).toArray] I λr J=>(e.tm<=bf.mr/\∃(a:Option Addr) (c:Nat),r = .tuple #[.agg #[e7 bd,e7 bf.lt,e7 bf.mr,.slice a bf.ws.length c],.slice none 0 0,e7 10]/\I=J)\/(bf.mr<e.tm/\∃(a:Option Addr) (c:Nat) (a2:Option Addr) (c2:Nat),r = .tuple #[.agg #[e7 bd,e7 (bf.push bd e).lt,e7 (bf.push bd e).mr,.slice a (bf.push bd e).ws.length c],.slice a2 ((bf.out bd e)).length c2,e7 0]/\J=vk 54 a2 c2 ((bf.out bd e))::vk 54 a c (bf.push bd e).ws::I):=by
 by_cases ht:e.tm<=bf.mr
 ·exact (cy0 hl hB hw he ht).mono λr J h=> .inl ⟨ht,h⟩
 exact (dp7 hl hB hw he om hT M).mono λr J h=> .inr ⟨by omega,h⟩
end Go.Sl
namespace Go.Sl
open Go.Proofs
set_option maxRecDepth 4000
variable {κ:Ctx}{I:List Item}
attribute [local irreducible] W G V D A j8 Eff
theorem cx9{e:Ev}(T:List Item){bd:Int}{bf:BfS}{wa:Option Addr}{wc:Nat}(hl:Sl κ I (.slice wa bf.ws.length wc) bf.ws)(hB:az5 bd bf)(hw:bf.ws.length<=4096)(he:z6 e=0)(hT:0<=e.tm/\e.tm<=1048576)(M:bf.ws.length<4096):eu prog κ 67 [.agg #[e7 bd,e7 (bf.lt),e7 (bf.mr),.slice wa bf.ws.length wc],.agg (ez e).toArray] I λr J=>(e.tm<=bf.mr/\∃(a:Option Addr) (c:Nat),r = .tuple #[.agg #[e7 bd,e7 bf.lt,e7 bf.mr,.slice a bf.ws.length c],.slice none 0 0,e7 10]/\I=J)\/(bf.mr<e.tm/\∃(a:Option Addr) (c:Nat) (a2:Option Addr) (c2:Nat) (Y:List Item),r = .tuple #[.agg #[e7 bd,e7 (bf.push bd e).lt,e7 (bf.push bd e).mr,.slice a (bf.push bd e).ws.length c],.slice a2 ((bf.out bd e)).length c2,e7 0]/\Sl κ (Y++T) (.slice a (bf.push bd e).ws.length c) (bf.push bd e).ws/\Sl κ (Y++T) (.slice a2 ((bf.out bd e)).length c2) (bf.out bd e)/\J=Y++I):=
 (cy1 hl hB hw he hT M).mono λr J h=>by
  rcases h with ⟨h,h2⟩|⟨h,a,c,a2,c2,h2,h3⟩
  ·exact .inl ⟨h,h2⟩
  exact .inr ⟨h,a,c,a2,c2,[_,_],h2,Cz<|Gi _<|C_ _ A_,Cz<|Gi _ A_,h3⟩
theorem cq9{nd kd wd mo bd:Int}{k:EnS}{v:KpV}{T:List Item}(hH:Has I T)(hF:KpF κ T nd k v)(hK:bj0 nd kd wd mo bd k)(a0:k.b.ws.length<=4000)(h1:1<=nd){xe:Ev}(hx:H7 nd xe):eu prog κ 80 [.agg (kx kd wd mo bd nd k v).toArray,.agg (ez xe).toArray] I (λr J=>(xe.tm<=k.b.mr/\r = .tuple #[.agg zk.toArray,.slice none 0 0,e7 10]/\I=J)\/(k.b.mr<xe.tm/\∃(v':KpV) (Y:List Item) (a:Option Addr) (c:Nat),r = .tuple #[.agg (kx kd wd mo bd nd ((k.feed kd wd mo bd xe)) v').toArray,.slice a ((k.da9 kd wd mo bd xe)).length c,e7 0]/\KpF κ (Y++T) nd (k.feed kd wd mo bd xe) v'/\Sl κ (Y++T) (.slice a ((k.da9 kd wd mo bd xe)).length c) (k.da9 kd wd mo bd xe)/\J=Y++I)):=by
 have ay:=hx.fits
 refine Ce2 Tryz.func80 C C ?_
 refine Ak<|Ge1 (Au (cs:=[_,_,_,_,_,_,_,_,_,_,_,_,_,_,_,_,_,_,_,_,_,_,_,_,_]) C C C) λb1=>Ge1 (Au (cs:=[_,_,_,_,_,_,_]) C C C) λb2=>Ge1 (Aj H2 C) λb3=>Z ?_
 refine Gc0 (Ac c_ C C<|bh8 (k:=k) (v:=v) (KpF.fit hF<|B0 (κ:=κ)<|by repeat (first|exact hH|exact Bf _|apply Be|apply B4|apply Bn)) hK.v om om)<|Z ?_
 refine Gc0 (Ac c_ C C<|Z8 xe)<|Z ?_
 refine Am C (λav=>?_)<|λav=>Z ?_
 ·exact absurd hx.chk av
 refine A3 (d:=27) C (λaw=>?_)<|λaw=>Z ?_
 ·omega
 refine Z ?_
 refine A1 (S4 34 4 3 2)<|Am C (λax=>?_)<|λax=>?_
 ·omega
 refine Bc<|Ao<|Ak<|Gf aw7 C<|Gl4 J4 ?_
 refine Gl7 s9 ?_
 refine G.e (Ac c_ C C<|cx9 T (bf:=k.b) (e:=xe) (Bg hF.w<|B0 (κ:=κ)<|by repeat (first|exact hH|exact Bf _|apply Be|apply B4|apply Bn)) hK.buf om hx.chk hx.tm om) ?_
 rintro _ _ ⟨_,_,(⟨ae,ab,aa,rfl,rfl⟩|⟨ae,ab,aa,ao,an,Y4,rfl,aq,ar,rfl⟩),rfl,rfl⟩
 ·show G prog κ _ _ _ _ ([(40,.tuple #[.agg #[e7 bd,e7<|k.b.lt,e7<|k.b.mr,.slice ab k.b.ws.length aa],.slice none 0 0,e7 10]),(39,.agg (ez xe).toArray),(38,.agg #[e7 bd,e7<|k.b.lt,e7<|k.b.mr,.slice v.w.a k.b.ws.length v.w.c]),(37,.pointer<|some ⟨b1,3,none⟩),(34,.bool<|decide<|nd<=xe.v),(4,pt b3),(3,pt b2),(2,pt b1)]:Env) (e8 b3 zk 47::e8 b2 (ez xe) 54::e8 b1 (kx kd wd mo bd nd k v) 47::I)
  refine Z ?_
  refine Ge1 (Aj J4 C) λaz=>Ge0 (C8 J4)<|Z ?_
  refine Am C (λad=>?_)<|λad=>?_
  ·refine Ak (Gr (Cl (cells:=zk) H2 Et fx4 C kr)<|Gm C<|Ge0 (Eff.sq H2) ?_)
   exact Ga C<|Ga C<|Ar<|B3<|Ck<|Cu C H2 C C C mm C I Ah<|.inl ⟨ae,rfl,rfl⟩
  exact absurd dc ad
 refine Dq (J:=e8 b3 zk 47::e8 b2 (ez xe) 54::e8 b1 (kx kd wd mo bd nd k v) 47::(Y4++I)) (Cj<|C1 (A:=Y4) (L:=[e8 b3 zk 47,e8 b2 (ez xe) 54,e8 b1 (kx kd wd mo bd nd k v) 47]) (T:=I)) ?_
 have au:=co4 hK hx ae
 show G prog κ _ _ _ _ ([(40,.tuple #[.agg #[e7 bd,e7<|(k.b.push bd xe).lt,e7<|(k.b.push bd xe).mr,.slice ab (k.b.push bd xe).ws.length aa],.slice ao ((k.b.out bd xe)).length an,e7 0]),(39,.agg (ez xe).toArray),(38,.agg #[e7 bd,e7<|k.b.lt,e7<|k.b.mr,.slice v.w.a k.b.ws.length v.w.c]),(37,.pointer<|some ⟨b1,3,none⟩),(34,.bool<|decide<|nd<=xe.v),(4,pt b3),(3,pt b2),(2,pt b1)]:Env) (e8 b3 zk 47::e8 b2 (ez xe) 54::e8 b1 (kx kd wd mo bd nd k v) 47::(Y4++I))
 refine Z ?_
 refine Ge1 (Aj J4 C) λah=>Ge0 (C8 J4) ?_
 refine Ga C<|Ga C<|Ar<|A1 (S5 10 9 8 4 2)<|Ax<|Ak<|Gm C<|Gr (Cb C C)<|Ar<|Am C (λad=>?_)<|λad=>?_
 ·exact absurd ad dc
 refine Bc<|Ao<|Ak<|Gr (j8.lj H2) ?_
 refine Gl4 J4 ?_
 refine Gm C<|G.e (Ac c_ C C<|cb4 (T:=(Y4++T)) (k:=k) (v:=v) (bf:=(k.b.push bd xe)) (evs:=(k.b.out bd xe)) ta2 (KpF.fit hF<|Bu _ _) hK.v aq ar au.1 au.2 om (by have h9:=df1 k.b bd xe;omega) h1) ?_
 rintro _ _ ⟨_,_,⟨M,Y13,ai,aj,rfl,ap,ak,rfl⟩,rfl,rfl⟩
 refine Dq (J:=e8 ah [e7 bd,e7<|(k.b.push bd xe).lt,e7<|(k.b.push bd xe).mr,.slice ab (k.b.push bd xe).ws.length aa] 32::e8 b3 zk 47::e8 b2 (ez xe) 54::e8 b1 (kx kd wd mo bd nd k v) 47::(Y13++(Y4++I))) (Cj<|C1 (A:=Y13) (L:=[e8 ah [e7 bd,e7<|(k.b.push bd xe).lt,e7<|(k.b.push bd xe).mr,.slice ab (k.b.push bd xe).ws.length aa] 32,e8 b3 zk 47,e8 b2 (ez xe) 54,e8 b1 (kx kd wd mo bd nd k v) 47]) (T:=(Y4++I))) ?_
 show G prog κ _ _ _ _ ([(51,.tuple #[.agg (kx kd wd mo bd nd ((k.rel kd wd mo (k.b.push bd xe)<|k.b.out bd xe)) M).toArray,.slice ai ((X9 kd wd mo k.S<|k.b.out bd xe).2).length aj,e7 0]),(50,.slice ao ((k.b.out bd xe)).length an),(49,.agg #[e7 bd,e7<|(k.b.push bd xe).lt,e7<|(k.b.push bd xe).mr,.slice ab (k.b.push bd xe).ws.length aa]),(48,.agg (kx kd wd mo bd nd k v).toArray),(45,.bool<|decide<|0≠0),(44,e7 0),(10,e7 0),(9,.slice ao ((k.b.out bd xe)).length an),(8,pt ah),(4,pt b3),(2,pt b1)]:Env) (e8 ah [e7 bd,e7<|(k.b.push bd xe).lt,e7<|(k.b.push bd xe).mr,.slice ab (k.b.push bd xe).ws.length aa] 32::e8 b3 zk 47::e8 b2 (ez xe) 54::e8 b1 (kx kd wd mo bd nd k v) 47::(Y13++(Y4++I)))
 refine Z ?_
 refine Ge0 (Eff.sq H2)<|Z ?_
 exact Cu C H2 C C C mm C (((Y13++Y4)++I)) ta7<|.inr ⟨ae,M,(Y13++Y4),ai,aj,rfl,(by rw [Fr];exact ap),(by rw [Fr];exact ak),rfl⟩
end Go.Sl
