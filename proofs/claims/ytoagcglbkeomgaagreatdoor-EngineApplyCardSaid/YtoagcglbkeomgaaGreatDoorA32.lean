/- A part of the proofs of statements of this seat: contracts of functions, and the plain laws that they lean on. No conditions. -/
import Derived.Test.YtoagcglbkeomgaaGreatDoorA31
set_option linter.unusedVariables false
set_option linter.unusedSimpArgs false
set_option linter.unusedSectionVars false
open Go.Proofs.Tryz (prog)
set_option maxHeartbeats 4000000
namespace Go.Sl
open Go.Proofs
set_option maxRecDepth 4000
variable{κ:Ctx}{I:List Item}{wa:Option Addr}{wc:Nat}
theorem Has.nil(I:List Item):Has I []:=⟨I,by rw [Gv]⟩
theorem ta0{p:Prop}(h:p:=by first|exact A9 (Br _ _) Ai|exact Ai):p:=h
theorem ca9{nd kd wd mo bd:Int}{k:EnS}{v:KpV}{bf:BfS}{evs:List Ev}{ea:Option Addr}{ec:Nat}{T:List Item}(hH:Has I T)(hF:KpF κ T nd k v)(hK:EnV nd kd wd mo bd k)(bc:Sl κ T (.slice wa bf.ws.length wc) bf.ws)(he:Sl κ T (.slice ea evs.length ec) evs)(ao:evs.Pairwise λa b=>a.tm<=b.tm)(ai:∀e∈evs,H4 nd e/\k.tm<=e.tm)(bb:k.b.ws.length<=4000)(bg:evs.length<=5000)(h1:1<=nd):eu prog κ 123 [.agg (kx kd wd mo bd nd k v).toArray,.agg #[e7 bd,e7 (bf.lt),e7 (bf.mr),.slice wa bf.ws.length wc],.slice ea evs.length ec] I (λr J=>∃(v':KpV) (Y:List Item) (a:Option Addr) (c:Nat),r = .tuple #[.agg (kx kd wd mo bd nd ((k.rel kd wd mo bf evs)) v').toArray,.slice a ((X6 kd wd mo k.S evs).2).length c,e7 0]/\KpF κ (Y++T) nd (k.rel kd wd mo bf evs) v'/\Sl κ (Y++T) (.slice a ((X6 kd wd mo k.S evs).2).length c) (X6 kd wd mo k.S evs).2/\J=Y++I):=by
 refine Ce3 Tryz.func123 C C ?_
 refine Al<|Ge1 (Av (cs:=[_,_,_,_,_,_,_,_,_,_,_,_,_,_,_,_,_,_,_,_,_,_,_,_,_]) C C C) λb1=>Ge1 (Av (cs:=[_,_,_,_]) C C C) λb2=>Ge1 (Aj H2 C) λb3=>Ga C<|Ga C<|Ar<|Al<|Ga C<|Ar<|Ax<|Al<|Ga C<|Ar<|A7<|B9 (σ:=Nat×EnS×KpV×(List Item)×(Option Addr)×Nat×(List Ev)) (λs=>([(2,.slice ea evs.length ec),(3,pt b1),(4,pt b2),(6,pt b3),(9,.slice s.2.2.2.2.1 s.2.2.2.2.2.2.length s.2.2.2.2.2.1),(10,e7 ((s.1:Nat):Int))]:Env)) (λs=>vk 54 s.2.2.2.2.1 s.2.2.2.2.2.1 s.2.2.2.2.2.2::e8 b3 zk 47::e8 b2 [e7 bd,e7<|bf.lt,e7<|bf.mr,.slice wa bf.ws.length wc] 32::e8 b1 (kx kd wd mo bd nd s.2.1 s.2.2.1) 47::(s.2.2.2.1++I)) (λs=>(s.1<=evs.length)/\(s.2.1.b=k.b)/\(X6 kd wd mo k.S (evs.take s.1)=(s.2.1.S,s.2.2.2.2.2.2))/\(s.2.1.tm=W7 k.tm (evs.take s.1))/\(EnV nd kd wd mo bd s.2.1)/\(KpF κ (s.2.2.2.1++T) nd s.2.1 s.2.2.1)/\(s.2.2.2.2.2.2.length<=5000*s.1)) (λs=>evs.length - s.1) (0,k,v,[],none,0,[]) (show ((0:Nat)<=evs.length)/\((k:EnS).b=k.b)/\(X6 kd wd mo k.S (evs.take (0:Nat))=((k:EnS).S,([]:List Ev)))/\((k:EnS).tm=W7 k.tm (evs.take (0:Nat)))/\(EnV nd kd wd mo bd (k:EnS))/\(KpF κ (([]:List Item)++T) nd (k:EnS) (v:KpV))/\(([]:List Ev).length<=5000*(0:Nat)) from ⟨om,rfl,rfl,rfl,hK,hF,(by simp)⟩) (cx4<|Aa (Da C<|by first|rfl|simp)<|Aa Cl Bb) (show Fit κ _ (vk 54 none 0 ([])::e8 b3 zk 47::e8 b2 [e7 bd,e7<|bf.lt,e7<|bf.mr,.slice wa bf.ws.length wc] 32::e8 b1 (ky kd wd mo bd ((k).b.lt) ((k).b.mr) (v).w.a (k).b.ws.length (v).w.c nd (v).l.a (k).S.length (v).l.c (j6 (k).S) (v).p ((k).tm)) 47::(([])++I)) from (A9 (show Fit κ _ _ from Az)<|B6 (α:=Ev) _ _)) ?_
 rintro ⟨i,k1,M,Y,oa,oc,o⟩ hp
 dsimp only at hp ⊢
 obtain ⟨hi,hb,ad,ak,hV,an,bh⟩:=hp
 have a9:=q9 (F6 hV.inv.val)
 rw [G0] at a9
 have a5:k1.b.ws.length<=4000:=by rw [hb];exact bb
 refine Ax<|Al<|Gm C<|Gm C<|Gr (Bn Ad C)<|Gr (Bm C C)<|Ar<|Ao C (λba=>?_)<|λba=>?_
 ·refine Bc (Ak<|Ax<|A7<|Fj (σ:=Ev×KpV×(List Item)×SlA×Nat) (λs=>([(2,.slice ea evs.length ec),(3,pt b1),(4,pt b2),(6,pt b3),(9,.slice oa o.length oc),(10,e7<|(i:Int)),(11,pt s.2.2.2.2),(12,.slice s.2.2.2.1.a ((p6 kd wd mo (k1.S,[]) s.1).2).length s.2.2.2.1.c),(13,e7 0)]:Env)) (λs=>e8 s.2.2.2.2 (kx kd wd mo bd nd ((⟨k1.b,(p6 kd wd mo (k1.S,[]) s.1).1,s.1.tm⟩:EnS)) s.2.1) 47::vk 54 oa oc o::e8 b3 zk 47::e8 b2 [e7 bd,e7<|bf.lt,e7<|bf.mr,.slice wa bf.ws.length wc] 32::e8 b1 (kx kd wd mo bd nd k1 M) 47::(s.2.2.1++(Y++I))) (λs=>(e_ evs i=s.1)/\(KpF κ (s.2.2.1++(Y++T)) nd (⟨k1.b,(p6 kd wd mo (k1.S,[]) s.1).1,s.1.tm⟩:EnS) s.2.1)/\(Sl κ (s.2.2.1++(Y++T)) (.slice s.2.2.2.1.a ((p6 kd wd mo (k1.S,[]) s.1).2).length s.2.2.2.1.c)<|(p6 kd wd mo (k1.S,[]) s.1).2)) ?_ ?_)
  ·refine A8 mixed (Bv (vk 54 oa oc o::e8 b3 zk 47::e8 b2 [e7 bd,e7<|bf.lt,e7<|bf.mr,.slice wa bf.ws.length wc] 32::e8 b1 (kx kd wd mo bd nd k1 M) 47::(Y++I)) 14<|Cd 0 C kr kr kr C kr (λ_ _ _ _ h=>h) (Aq C) C C ta0 (j8.lj H2) ?_)
   refine Cd 1 C kr kr kr C kr (λ_ _ _ _ h=>h) (Aq C) C C ta0 (Ap C) ?_
   refine Cd 2 C kr kr kr C kr (λ_ _ _ _ h=>h) (Aq C) C C ta0 (Ap C) ?_
   refine Cd 3 C kr kr kr C kr (λ_ _ _ _ h=>h) (Aq C) C C ta0 (A1 (α:=Ev) (xs:=evs) Ad z6 C C (Bd (Bd he hH.fit) Ah) om om) ?_
   refine Cd 4 C kr kr kr C kr (λ_ _ _ _ h=>h) (Aq C) C C ta0 (C7 (α:=Ev) (xs:=evs) z6 C (Bd (Bd he hH.fit) Ah) om om) ?_
   have ah:=ai _ (Bo (xs:=evs) (i:=(i:Int)) om om)
   have ae:=ce3 ao (λe he=>(ai e he).2) (i:=i) om
   rw [←ak] at ae
   refine C5 (rs:=[5,10]) kr C C<|D5 ?_<|Dl ?_
   ·refine Se C (Ab c_ C C<|bo2 (T:=(Y++T)) (k:=k1) (v:=M) (xe:=(e_ evs i)) ta2 an hV a5 h1 ah.1 ae) ?_
    rintro _ _ ⟨_,_,⟨ab,Y5,a3,a6,rfl,az,a1,rfl⟩,rfl,rfl⟩
    refine ⟨ta0,?_⟩
    refine D.fit (J:=vk 54 oa oc o::e8 b3 zk 47::e8 b2 [e7 bd,e7<|bf.lt,e7<|bf.mr,.slice wa bf.ws.length wc] 32::e8 b1 (kx kd wd mo bd nd k1 M) 47::(Y5++(Y++I))) (Cj<|Cz (A:=Y5) (L:=[vk 54 oa oc o,e8 b3 zk 47,e8 b2 [e7 bd,e7<|bf.lt,e7<|bf.mr,.slice wa bf.ws.length wc] 32,e8 b1 (kx kd wd mo bd nd k1 M) 47]) (T:=(Y++I))) ?_
    show D prog κ _ _ _ _ _ _ _ ([(26,.tuple #[.agg (kx kd wd mo bd nd ((⟨k1.b,(p6 kd wd mo (k1.S,[])<|e_ evs i).1,(e_ evs i).tm⟩:EnS)) ab).toArray,.slice a3 ((p6 kd wd mo (k1.S,[])<|e_ evs i).2).length a6,e7 0]),(25,.agg (ez (e_ evs i)).toArray),(24,F1 (.slice ea evs.length ec)<|((i:Int)).toNat*Enc.sz Ev),(23,e7<|(i:Int)),(22,.slice ea evs.length ec),(21,.agg (kx kd wd mo bd nd k1 M).toArray),(17,.bool<|decide<|(i:Int)<((evs.length:Nat):Int)),(16,e7 ((evs.length:Nat):Int)),(15,.slice ea evs.length ec),(14,e7<|(i:Int)),(2,.slice ea evs.length ec),(3,pt b1),(4,pt b2),(6,pt b3),(9,.slice oa o.length oc),(10,e7<|(i:Int))]:Env) (vk 54 oa oc o::e8 b3 zk 47::e8 b2 [e7 bd,e7<|bf.lt,e7<|bf.mr,.slice wa bf.ws.length wc] 32::e8 b1 (kx kd wd mo bd nd k1 M) 47::(Y5++(Y++I)))
    refine Cd 6 C kr kr kr C kr (λ_ _ _ _ h=>h) (Aq C) C C ta0 (Ap C) ?_
    refine Cd 7 C kr kr kr C kr (λ_ _ _ _ h=>h) (Aq C) C C ta0 (Bf C C) ?_
    refine Cd 8 C kr kr kr C kr (λ_ _ _ _ h=>h) (Aq C) C C ta0 (Bf C C) ?_
    refine Cd 9 C kr kr kr C kr (λ_ _ _ _ h=>h) (Aq C) C C ta0 (Bf C C) ?_
    refine Ds1 10<|Se C (Aj H2 C) ?_
    rintro _ _ ⟨b8,rfl,rfl⟩
    refine ⟨ta0,?_⟩
    refine Ds1 11<|Se C (Eff.sq H2) ?_
    rintro _ _ ⟨rfl,rfl⟩
    refine ⟨ta0,?_⟩
    refine Cd 12 C kr kr kr C kr (λ_ _ _ _ h=>h) (Aq C) C C ta0 (Bj C) ?_
    refine Cd 13 C kr kr kr C kr (λ_ _ _ _ h=>h) (Aq C) C C ta0 (Bj C) ?_
    exact Dz<|Dk (((e_ evs i)),(ab),(Y5),(⟨a3,a6⟩),(b8))<|by dsimp only;exact ⟨rfl,az,a1⟩
   refine Se C (Aj H2 C) ?_
   rintro _ _ ⟨b9,rfl,rfl⟩
   refine ⟨ta0,?_⟩
   refine Ds1 5<|Se C (Ab c_ C C<|bo2 (T:=(Y++T)) (k:=k1) (v:=M) (xe:=(e_ evs i)) ta2 an hV a5 h1 ah.1 ae) ?_
   rintro _ _ ⟨_,_,⟨aa,Y11,ap,aq,rfl,av,au,rfl⟩,rfl,rfl⟩
   refine ⟨ta0,?_⟩
   refine D.fit (J:=e8 b9 zk 47::vk 54 oa oc o::e8 b3 zk 47::e8 b2 [e7 bd,e7<|bf.lt,e7<|bf.mr,.slice wa bf.ws.length wc] 32::e8 b1 (kx kd wd mo bd nd k1 M) 47::(Y11++(Y++I))) (Cj<|Cz (A:=Y11) (L:=[e8 b9 zk 47,vk 54 oa oc o,e8 b3 zk 47,e8 b2 [e7 bd,e7<|bf.lt,e7<|bf.mr,.slice wa bf.ws.length wc] 32,e8 b1 (kx kd wd mo bd nd k1 M) 47]) (T:=(Y++I))) ?_
   show D prog κ _ _ _ _ _ _ _ ([(26,.tuple #[.agg (kx kd wd mo bd nd ((⟨k1.b,(p6 kd wd mo (k1.S,[])<|e_ evs i).1,(e_ evs i).tm⟩:EnS)) aa).toArray,.slice ap ((p6 kd wd mo (k1.S,[])<|e_ evs i).2).length aq,e7 0]),(11,pt b9),(25,.agg (ez (e_ evs i)).toArray),(24,F1 (.slice ea evs.length ec)<|((i:Int)).toNat*Enc.sz Ev),(23,e7<|(i:Int)),(22,.slice ea evs.length ec),(21,.agg (kx kd wd mo bd nd k1 M).toArray),(17,.bool<|decide<|(i:Int)<((evs.length:Nat):Int)),(16,e7 ((evs.length:Nat):Int)),(15,.slice ea evs.length ec),(14,e7<|(i:Int)),(2,.slice ea evs.length ec),(3,pt b1),(4,pt b2),(6,pt b3),(9,.slice oa o.length oc),(10,e7<|(i:Int))]:Env) (e8 b9 zk 47::vk 54 oa oc o::e8 b3 zk 47::e8 b2 [e7 bd,e7<|bf.lt,e7<|bf.mr,.slice wa bf.ws.length wc] 32::e8 b1 (kx kd wd mo bd nd k1 M) 47::(Y11++(Y++I)))
   refine Cd 6 C kr kr kr C kr (λ_ _ _ _ h=>h) (Aq C) C C ta0 (Ap C) ?_
   refine Cd 7 C kr kr kr C kr (λ_ _ _ _ h=>h) (Aq C) C C ta0 (Bf C C) ?_
   refine Cd 8 C kr kr kr C kr (λ_ _ _ _ h=>h) (Aq C) C C ta0 (Bf C C) ?_
   refine Cd 9 C kr kr kr C kr (λ_ _ _ _ h=>h) (Aq C) C C ta0 (Bf C C) ?_
   refine Ds1 11<|Se C (Eff.sq H2) ?_
   rintro _ _ ⟨rfl,rfl⟩
   refine ⟨ta0,?_⟩
   refine Cd 12 C kr kr kr C kr (λ_ _ _ _ h=>h) (Aq C) C C ta0 (Bj C) ?_
   refine Cd 13 C kr kr kr C kr (λ_ _ _ _ h=>h) (Aq C) C C ta0 (Bj C) ?_
   exact Dz<|Dk (((e_ evs i)),(aa),(Y11),(⟨ap,aq⟩),(b9))<|by dsimp only;exact ⟨rfl,av,au⟩
  rintro ⟨xe,v2,Z,xv,nb⟩ hp
  obtain ⟨aj,a7,a0⟩:(e_ evs i=xe)/\(KpF κ (Z++(Y++T)) nd (⟨k1.b,(p6 kd wd mo (k1.S,[]) xe).1,xe.tm⟩:EnS) v2)/\(Sl κ (Z++(Y++T)) (.slice xv.a ((p6 kd wd mo (k1.S,[]) xe).2).length xv.c)<|(p6 kd wd mo (k1.S,[]) xe).2):=hp
  show W prog κ 42 _ _ ([(2,.slice ea evs.length ec),(3,pt b1),(4,pt b2),(6,pt b3),(9,.slice oa o.length oc),(10,e7<|(i:Int)),(11,pt nb),(12,.slice xv.a ((p6 kd wd mo (k1.S,[]) xe).2).length xv.c),(13,e7 0)]:Env) (e8 nb (kx kd wd mo bd nd ((⟨k1.b,(p6 kd wd mo (k1.S,[]) xe).1,xe.tm⟩:EnS)) v2) 47::vk 54 oa oc o::e8 b3 zk 47::e8 b2 [e7 bd,e7<|bf.lt,e7<|bf.mr,.slice wa bf.ws.length wc] 32::e8 b1 (kx kd wd mo bd nd k1 M) 47::(Z++(Y++I)))
  have ah:=ai _ (Bo (xs:=evs) (i:=(i:Int)) om om)
  have ae:=ce3 ao (λe he=>(ai e he).2) (i:=i) om
  rw [←ak] at ae
  rw [aj] at ah ae
  have ar:=bc2 hV.inv hV.tm.1 ae ah.1 hV.win
  have be:=ar.len
  refine Ax<|Al<|Gm C<|Gr (Cb C C)<|Ar<|Ao C (λa8=>?_)<|λa8=>?_
  ·exact absurd a8 dc
  refine Bc<|Ak<|A8 mixed<|Bv (e8 nb (kx kd wd mo bd nd ((⟨k1.b,(p6 kd wd mo (k1.S,[]) xe).1,xe.tm⟩:EnS)) v2) 47::e8 b3 zk 47::e8 b2 [e7 bd,e7<|bf.lt,e7<|bf.mr,.slice wa bf.ws.length wc] 32::(Z++(Y++I))) 4<|Dr 0 C (j8.lj H2) ?_
  refine C5 (rs:=[1,2]) kr C C<|D5 ?_<|Dl ?_
  ·refine Sr C (Ap C) Az ?_
   refine Ds1 2<|Sr C (Ap C) Az ?_
   refine Ds1 3<|Se2 C (Bs (α:=Ev) (e:=54) (xs:=o) (ys:=(p6 kd wd mo (k1.S,[]) xe).2) Ad z6 C C C mm (Bd a0<|B4 (κ:=κ)<|by repeat (first|exact hH|exact Bh _|apply Bg|apply B2|apply Bp)) om dc C<|λ_ _=>am) λay a4=>?_
   refine Ch kr ?_
   refine Ae 4 C (Eff.sq H2) ?_
   rintro _ _ ⟨rfl,rfl⟩
   refine Di (i:=5) kr C (Aq C) C C (Bj C) ?_
   refine Ci kr ?_
   exact Au<|Ak<|A0 (S6 9 2 3 4 6 10)<|A6<|Gm C<|Gr (Rad C C)<|Ga C<|Bq<|Bu ((i+1),((⟨k1.b,(p6 kd wd mo (k1.S,[]) xe).1,xe.tm⟩:EnS)),(v2),((Z++Y)),(ay),(a4),(o++((p6 kd wd mo (k1.S,[]) xe).2))) (by dsimp only;exact ⟨om,hb,(bp5 ad om aj),(ar5 om aj).symm,⟨hV.win,hV.buf,ar.inv,ah.1.tm⟩,(by rw [Fv];exact a7),(by rw [By];omega)⟩) (hI:=by (try dsimp only);exact ta7)
  refine Sr C (Ap C) Az ?_
  refine Ds1 1<|Sr C (Ap C) Az ?_
  refine Ds1 3<|Se2 C (Bs (α:=Ev) (e:=54) (xs:=o) (ys:=(p6 kd wd mo (k1.S,[]) xe).2) Ad z6 C C C mm (Bd a0<|B4 (κ:=κ)<|by repeat (first|exact hH|exact Bh _|apply Bg|apply B2|apply Bp)) om dc C<|λ_ _=>am) λax aw=>?_
  refine Ch kr ?_
  refine Ae 4 C (Eff.sq H2) ?_
  rintro _ _ ⟨rfl,rfl⟩
  refine Di (i:=5) kr C (Aq C) C C (Bj C) ?_
  refine Ci kr ?_
  exact Au<|Ak<|A0 (S6 9 2 3 4 6 10)<|A6<|Gm C<|Gr (Rad C C)<|Ga C<|Bq<|Bu ((i+1),((⟨k1.b,(p6 kd wd mo (k1.S,[]) xe).1,xe.tm⟩:EnS)),(v2),((Z++Y)),(ax),(aw),(o++((p6 kd wd mo (k1.S,[]) xe).2))) (by dsimp only;exact ⟨om,hb,(bp5 ad om aj),(ar5 om aj).symm,⟨hV.win,hV.buf,ar.inv,ah.1.tm⟩,(by rw [Fv];exact a7),(by rw [By];omega)⟩) (hI:=by (try dsimp only);exact ta7)
 refine Cg<|Aw<|Aw<|Bi<|Ak<|Al<|Gl4 J6 ?_
 refine Gf aw3 C<|Ge0 (Bt (cs:=[_,_,_,_,_,_,_,_,_,_,_,_,_,_,_,_,_,_,_,_,_,_,_,_,_]) (vs:=[_,_,_,_]) (cs':=[_,_,_,_,_,_,_,_,_,_,_,_,_,_,_,_,_,_,_,_,_,_,_,_,_]) J6) ?_
 refine Ar<|Al<|Gr (j8.lj H2) ?_
 refine Gm C<|Ge0 (Eff.sq H2) ?_
 refine Ga C<|Ga C<|Ar<|A0 (S3 8 7 6)<|B3 ?_
 rw [show evs.take i=evs from Fz om] at ad ak
 have hk:(k.rel kd wd mo bf evs)=⟨bf,k1.S,k1.tm⟩:=by unfold EnS.rel;rw [ad,←ak]
 rw [hk,ad]
 exact Cs C H2 C C C mm C (((vk 54 oa oc o::Y)++I)) tb2 ⟨(⟨⟨wa,wc⟩,M.l,M.p⟩:KpV),(vk 54 oa oc o::Y),oa,oc,rfl,(by simp only [Jf,Fv];exact ⟨Bd bc Ah,Bd an.l Ah,PkR.fit an.p Ah⟩),Cy<|Gk _ A_,rfl⟩
theorem cx7{e:Ev}{bd:Int}{bf:BfS}(hl:Sl κ I (.slice wa bf.ws.length wc) bf.ws)(hB:az2 bd bf)(hw:bf.ws.length<=4096)(he:z7 e=0)(hT:0<=e.tm/\e.tm<=1048576)(M:bf.ws.length<4096):eu prog κ 67 [.agg #[e7 bd,e7 (bf.lt),e7 (bf.mr),.slice wa bf.ws.length wc],.agg (ez e).toArray] I λr J=>(e.tm<=bf.mr/\∃(a:Option Addr) (c:Nat),r = .tuple #[.agg #[e7 bd,e7 bf.lt,e7 bf.mr,.slice a bf.ws.length c],.slice none 0 0,e7 10]/\I=J)\/(bf.mr<e.tm/\∃(a:Option Addr) (c:Nat) (a2:Option Addr) (c2:Nat),r = .tuple #[.agg #[e7 bd,e7 (bf.push bd e).lt,e7 (bf.push bd e).mr,.slice a (bf.push bd e).ws.length c],.slice a2 ((bf.out bd e)).length c2,e7 0]/\J=vk 54 a2 c2 ((bf.out bd e))::vk 54 a c (bf.push bd e).ws::I):=by
 by_cases ht:e.tm<=bf.mr
 ·exact (cx6 hl hB hw he ht).mono λr J h=> .inl ⟨ht,h⟩
 exact (do8 hl hB hw he om hT M).mono λr J h=> .inr ⟨by omega,h⟩
end Go.Sl
namespace Go.Sl
open Go.Proofs
set_option maxRecDepth 4000
variable {κ:Ctx}{I:List Item}
attribute [local irreducible] W G V D A j8 Eff
theorem cx5{e:Ev}(T:List Item){bd:Int}{bf:BfS}{wa:Option Addr}{wc:Nat}(hl:Sl κ I (.slice wa bf.ws.length wc) bf.ws)(hB:az2 bd bf)(hw:bf.ws.length<=4096)(he:z7 e=0)(hT:0<=e.tm/\e.tm<=1048576)(aa:bf.ws.length<4096):eu prog κ 67 [.agg #[e7 bd,e7 (bf.lt),e7 (bf.mr),.slice wa bf.ws.length wc],.agg (ez e).toArray] I λr J=>(e.tm<=bf.mr/\∃(a:Option Addr) (c:Nat),r = .tuple #[.agg #[e7 bd,e7 bf.lt,e7 bf.mr,.slice a bf.ws.length c],.slice none 0 0,e7 10]/\I=J)\/(bf.mr<e.tm/\∃(a:Option Addr) (c:Nat) (a2:Option Addr) (c2:Nat) (Y:List Item),r = .tuple #[.agg #[e7 bd,e7 (bf.push bd e).lt,e7 (bf.push bd e).mr,.slice a (bf.push bd e).ws.length c],.slice a2 ((bf.out bd e)).length c2,e7 0]/\Sl κ (Y++T) (.slice a (bf.push bd e).ws.length c) (bf.push bd e).ws/\Sl κ (Y++T) (.slice a2 ((bf.out bd e)).length c2) (bf.out bd e)/\J=Y++I):=
 (cx7 hl hB hw he hT aa).mono λr J h=>by
  rcases h with ⟨h,M⟩|⟨h,a,c,a2,c2,M,h3⟩
  ·exact .inl ⟨h,M⟩
  exact .inr ⟨h,a,c,a2,c2,[_,_],M,Cy<|Gk _<|C_ _ A_,Cy<|Gk _ A_,h3⟩
theorem cq8{nd kd wd mo bd:Int}{k:EnS}{v:KpV}{T:List Item}(hH:Has I T)(hF:KpF κ T nd k v)(hK:bi3 nd kd wd mo bd k)(a0:k.b.ws.length<=4000)(h1:1<=nd){xe:Ev}(hx:H4 nd xe):eu prog κ 80 [.agg (kx kd wd mo bd nd k v).toArray,.agg (ez xe).toArray] I (λr J=>(xe.tm<=k.b.mr/\r = .tuple #[.agg zk.toArray,.slice none 0 0,e7 10]/\I=J)\/(k.b.mr<xe.tm/\∃(v':KpV) (Y:List Item) (a:Option Addr) (c:Nat),r = .tuple #[.agg (kx kd wd mo bd nd ((k.feed kd wd mo bd xe)) v').toArray,.slice a ((k.da4 kd wd mo bd xe)).length c,e7 0]/\KpF κ (Y++T) nd (k.feed kd wd mo bd xe) v'/\Sl κ (Y++T) (.slice a ((k.da4 kd wd mo bd xe)).length c) (k.da4 kd wd mo bd xe)/\J=Y++I)):=by
 have ay:=hx.fits
 refine Ce2 Tryz.func80 C C ?_
 refine Al<|Ge1 (Av (cs:=[_,_,_,_,_,_,_,_,_,_,_,_,_,_,_,_,_,_,_,_,_,_,_,_,_]) C C C) λb1=>Ge1 (Av (cs:=[_,_,_,_,_,_,_]) C C C) λb2=>Ge1 (Aj H2 C) λb3=>Z ?_
 refine Gc0 (Ab c_ C C<|bh1 (k:=k) (v:=v) (KpF.fit hF<|B4 (κ:=κ)<|by repeat (first|exact hH|exact Bh _|apply Bg|apply B2|apply Bp)) hK.v om om)<|Z ?_
 refine Gc0 (Ab c_ C C<|Z5 xe)<|Z ?_
 refine Ao C (λar=>?_)<|λar=>Z ?_
 ·exact absurd hx.chk ar
 refine A4 (d:=27) C (λaw=>?_)<|λaw=>Z ?_
 ·omega
 refine Z ?_
 refine A0 (S4 34 4 3 2)<|Ao C (λax=>?_)<|λax=>?_
 ·omega
 refine Bc<|Ak<|Al<|Gf aw3 C<|Gl4 J6 ?_
 refine Gl7 z6 ?_
 refine G.e (Ab c_ C C<|cx5 T (bf:=k.b) (e:=xe) (Bd hF.w<|B4 (κ:=κ)<|by repeat (first|exact hH|exact Bh _|apply Bg|apply B2|apply Bp)) hK.buf om hx.chk hx.tm om) ?_
 rintro _ _ ⟨_,_,(⟨ah,aa,ab,rfl,rfl⟩|⟨ah,aa,ab,ao,ak,Y4,rfl,aq,av,rfl⟩),rfl,rfl⟩
 ·show G prog κ _ _ _ _ ([(40,.tuple #[.agg #[e7 bd,e7<|k.b.lt,e7<|k.b.mr,.slice aa k.b.ws.length ab],.slice none 0 0,e7 10]),(39,.agg (ez xe).toArray),(38,.agg #[e7 bd,e7<|k.b.lt,e7<|k.b.mr,.slice v.w.a k.b.ws.length v.w.c]),(37,.pointer<|some ⟨b1,3,none⟩),(34,.bool<|decide<|nd<=xe.v),(4,pt b3),(3,pt b2),(2,pt b1)]:Env) (e8 b3 zk 47::e8 b2 (ez xe) 54::e8 b1 (kx kd wd mo bd nd k v) 47::I)
  refine Z ?_
  refine Ge1 (Aj J6 C) λaz=>Ge0 (C9 J6)<|Z ?_
  refine Ao C (λad=>?_)<|λad=>?_
  ·refine Al (Gr (Cn (cells:=zk) H2 Et fw0 C kr)<|Gm C<|Ge0 (Eff.sq H2) ?_)
   exact Ga C<|Ga C<|Ar<|B3<|Cu<|Cs C H2 C C C mm C I Ah<|.inl ⟨ah,rfl,rfl⟩
  exact absurd dc ad
 refine Dp (J:=e8 b3 zk 47::e8 b2 (ez xe) 54::e8 b1 (kx kd wd mo bd nd k v) 47::(Y4++I)) (Cj<|Cz (A:=Y4) (L:=[e8 b3 zk 47,e8 b2 (ez xe) 54,e8 b1 (kx kd wd mo bd nd k v) 47]) (T:=I)) ?_
 have au:=co2 hK hx ah
 show G prog κ _ _ _ _ ([(40,.tuple #[.agg #[e7 bd,e7<|(k.b.push bd xe).lt,e7<|(k.b.push bd xe).mr,.slice aa (k.b.push bd xe).ws.length ab],.slice ao ((k.b.out bd xe)).length ak,e7 0]),(39,.agg (ez xe).toArray),(38,.agg #[e7 bd,e7<|k.b.lt,e7<|k.b.mr,.slice v.w.a k.b.ws.length v.w.c]),(37,.pointer<|some ⟨b1,3,none⟩),(34,.bool<|decide<|nd<=xe.v),(4,pt b3),(3,pt b2),(2,pt b1)]:Env) (e8 b3 zk 47::e8 b2 (ez xe) 54::e8 b1 (kx kd wd mo bd nd k v) 47::(Y4++I))
 refine Z ?_
 refine Ge1 (Aj J6 C) λae=>Ge0 (C9 J6) ?_
 refine Ga C<|Ga C<|Ar<|A0 (S5 10 9 8 4 2)<|Ax<|Al<|Gm C<|Gr (Cb C C)<|Ar<|Ao C (λad=>?_)<|λad=>?_
 ·exact absurd ad dc
 refine Bc<|Ak<|Al<|Gr (j8.lj H2) ?_
 refine Gl4 J6 ?_
 refine Gm C<|G.e (Ab c_ C C<|ca9 (T:=(Y4++T)) (k:=k) (v:=v) (bf:=(k.b.push bd xe)) (evs:=(k.b.out bd xe)) ta2 (KpF.fit hF<|Br _ _) hK.v aq av au.1 au.2 om (by have h9:=de4 k.b bd xe;omega) h1) ?_
 rintro _ _ ⟨_,_,⟨M,Y13,aj,ai,rfl,an,ap,rfl⟩,rfl,rfl⟩
 refine Dp (J:=e8 ae [e7 bd,e7<|(k.b.push bd xe).lt,e7<|(k.b.push bd xe).mr,.slice aa (k.b.push bd xe).ws.length ab] 32::e8 b3 zk 47::e8 b2 (ez xe) 54::e8 b1 (kx kd wd mo bd nd k v) 47::(Y13++(Y4++I))) (Cj<|Cz (A:=Y13) (L:=[e8 ae [e7 bd,e7<|(k.b.push bd xe).lt,e7<|(k.b.push bd xe).mr,.slice aa (k.b.push bd xe).ws.length ab] 32,e8 b3 zk 47,e8 b2 (ez xe) 54,e8 b1 (kx kd wd mo bd nd k v) 47]) (T:=(Y4++I))) ?_
 show G prog κ _ _ _ _ ([(51,.tuple #[.agg (kx kd wd mo bd nd ((k.rel kd wd mo (k.b.push bd xe)<|k.b.out bd xe)) M).toArray,.slice aj ((X6 kd wd mo k.S<|k.b.out bd xe).2).length ai,e7 0]),(50,.slice ao ((k.b.out bd xe)).length ak),(49,.agg #[e7 bd,e7<|(k.b.push bd xe).lt,e7<|(k.b.push bd xe).mr,.slice aa (k.b.push bd xe).ws.length ab]),(48,.agg (kx kd wd mo bd nd k v).toArray),(45,.bool<|decide<|0≠0),(44,e7 0),(10,e7 0),(9,.slice ao ((k.b.out bd xe)).length ak),(8,pt ae),(4,pt b3),(2,pt b1)]:Env) (e8 ae [e7 bd,e7<|(k.b.push bd xe).lt,e7<|(k.b.push bd xe).mr,.slice aa (k.b.push bd xe).ws.length ab] 32::e8 b3 zk 47::e8 b2 (ez xe) 54::e8 b1 (kx kd wd mo bd nd k v) 47::(Y13++(Y4++I)))
 refine Z ?_
 refine Ge0 (Eff.sq H2)<|Z ?_
 exact Cs C H2 C C C mm C (((Y13++Y4)++I)) ta7<|.inr ⟨ah,M,(Y13++Y4),aj,ai,rfl,(by rw [Fv];exact an),(by rw [Fv];exact ap),rfl⟩
end Go.Sl
