/- A part of the proofs of statements of this seat: contracts of functions, and the plain laws that they lean on. No conditions. -/
import Derived.Test.YtoagcglbkeomgaaGreatDoorA33
import Derived.ProofKit
import Derived.OpenShut
import Derived.ChangeOld
import Derived.Below
import Derived.SizedLaws
import Derived.JoinedOf
import Derived.Deep.Slices
import Derived.Deep.Fields
set_option linter.unusedVariables false
set_option linter.unusedSimpArgs false
set_option linter.unusedSectionVars false
open Go.Proofs.Tryz (prog)
namespace Go.Sl
open Go.Proofs
set_option maxRecDepth 4000
set_option maxHeartbeats 8000000 in
theorem az1{κ:Ctx}{I:List Item}{la:Option Addr}{ln lc:Nat}{ls:List Int}(hl:Sl κ I (.slice la ln lc) ls)(hT:F4 κ I 0 p5):eu prog κ 8 [.slice la ln lc] I (λr J=>r = .bool true/\I=J):=by
 refine Ce1 Tryz.func8 C C ?_
 refine Al<|Ga C<|Ar<|Ax<|Al<|Gm C<|Gc0 (Ab c_ C C gb4) ?_
 refine Gr (E9 C)<|Ar<|Ao C (λca=>?_)<|λca=>?_
 ·refine Al (G.e (Ab c_ C C<|bo1<|Ba hT Ah) ?_)
  rintro _ _ ⟨_,_,⟨rfl,rfl⟩,rfl,rfl⟩
  exact Ga C<|Ar<|B3<|Cu<|Am C C I (by first|exact Ah|exact Z1) ⟨rfl,rfl⟩
 refine Bc<|Ak<|Al<|Gm C<|G.e (Ab c_ C C ga9) ?_
 rintro _ _ ⟨_,_,⟨ad,rfl,rfl⟩,rfl,rfl⟩
 show G prog κ _ _ _ _ ([(21,pt ad),(20,.slice la ln lc),(18,.bool<|decide<|¬((ln:Int)<=500)),(17,.bool<|decide<|(ln:Int)<=500),(16,.slice la ln lc),(2,.bool false),(0,.slice la ln lc)]:Env) (e8 ad [.slice la ln lc,e7 0] 85::I)
 have cy:(0:Int)<=0:=Hp _
 refine Ga C<|Ar<|Al<|Gm C<|G.e (Ab c_ C C<|dp7 ta1 (λ_=>Bd hl Ah) om) ?_
 rintro _ _ ⟨_,_,⟨⟨M,aj,ak,ah,ai,k7,v8,Y9,az⟩,⟨⟨rfl,hM⟩,bn⟩,rfl⟩,rfl,rfl⟩
 refine Dp (J:=e8 ad [.slice la ln lc,e7 az] 85::(Y9++I)) (Cj<|Cz (A:=Y9) (L:=[e8 ad [.slice la ln lc,e7 az] 85]) (T:=I)) ?_
 show G prog κ _ _ _ _ ([(23,.agg (kx aj ak ah ai M k7 v8).toArray),(22,pt ad),(3,pt ad),(21,pt ad),(20,.slice la ln lc),(18,.bool<|decide<|¬((ln:Int)<=500)),(17,.bool<|decide<|(ln:Int)<=500),(16,.slice la ln lc),(2,.bool false),(0,.slice la ln lc)]:Env) (e8 ad [.slice la ln lc,e7 az] 85::(Y9++I))
 have bn:0<=az:=bn
 have hM:bt9 κ M aj ak ah ai k7 v8 Y9:=hM
 refine Ge1 (Aj H2 C) λae=>Ge0 (Eff.sq H2) ?_
 refine Ar<|Ax<|Al<|Ga C<|Ar<|A7<|B9 (σ:=Nat×Int×EnS×KpV×(List Item)) (λs=>([(3,pt ad),(4,pt ae),(5,e7 ((s.1:Nat):Int))]:Env)) (λs=>e8 ae (kx aj ak ah ai M s.2.2.1 s.2.2.2.1) 47::e8 ad [.slice la ln lc,e7<|s.2.1] 85::(s.2.2.2.2++I)) (λs=>(s.1<=6)/\(0<=s.2.1)/\(EnV M aj ak ah ai s.2.2.1)/\(KpF κ (s.2.2.2.2++I) M s.2.2.1 s.2.2.2.1)/\(s.2.2.1.b.ws.length<=8)/\(s.2.2.1.tm<=60+3*(s.1:Int))) (λs=>6 - s.1) (0,az,k7,v8,Y9) (show ((0:Nat)<=6)/\(0<=(az:Int))/\(EnV M aj ak ah ai (k7:EnS))/\(KpF κ ((Y9:List Item)++I) M (k7:EnS) (v8:KpV))/\((k7:EnS).b.ws.length<=8)/\((k7:EnS).tm<=60+3*((0:Nat):Int)) from ⟨om,om,hM.ok.v,(KpF.fit hM.f<|C4<|by repeat (first|exact Hs _ _|apply List.sublist_append_of_sublist_right)),hM.wl,(by have:=hM.tm;omega)⟩) (cx2<|Aa Cl Bb) (show Fit κ _ (e8 ae (ky aj ak ah ai ((k7).b.lt) ((k7).b.mr) (v8).w.a (k7).b.ws.length (v8).w.c M (v8).l.a (k7).S.length (v8).l.c (j6 (k7).S) (v8).p ((k7).tm)) 47::e8 ad [.slice la ln lc,e7<|(az)] 85::((Y9)++I)) from Az) ?_
 rintro ⟨i,iq,k,v,Y⟩ hp
 dsimp only at hp ⊢
 obtain ⟨hi,ct,hK,hF,b8,cx⟩:=hp
 have cr:=hK.tm
 have cm:=q9 (F6 hK.inv.val)
 rw [G0] at cm
 refine Ax<|Al<|Gm C<|Gr (Bm C C)<|Ar<|Ao C (λcd=>?_)<|λcd=>?_
 ·refine Bc (Ak<|Ax<|A7<|Fj (σ:=Ev×Int×Nat) (λs=>([(3,pt ad),(4,pt ae),(5,e7<|(i:Int)),(6,pt s.2.2)]:Env)) (λs=>e8 s.2.2 (ez s.1) 54::e8 ae (kx aj ak ah ai M k v) 47::e8 ad [.slice la ln lc,e7<|s.2.1] 85::(Y++I)) (λs=>(H4 M s.1)/\(k.tm<=s.1.tm/\s.1.tm<=k.tm+3)/\(0<=s.2.1)) ?_ ?_)
  ·refine A8 mixed (Bv (e8 ae (kx aj ak ah ai M k v) 47::(Y++I)) 13<|Dr 0 C (Ap C)<|Dr 1 C (Af Z8 C)<|Dr 2 C (Af bf2 C)<|Dr 3 C (Be ef) ?_)
   refine Dr 4 C (Fd C C) ?_
   have cz:=hM.rn
   have ch:(if 2<M then M else 2)=M:=by split<;>omega
   rw [ch]
   refine Dr 5 C (Af aw2 C)<|Dr 6 C (Be ef) ?_
   refine Dr 7 C (Ap C)<|C5 (rs:=[8,11]) kr C C<|D5 ?_<|Dl ?_
   ·refine Se C (Ab c_ C C<|P3 ta1 (A3 hl) om om) ?_
    rintro _ _ ⟨_,_,⟨ba,cj,rfl,cn,cp,rfl⟩,rfl,rfl⟩
    refine ⟨Az,?_⟩
    show D prog κ _ _ _ _ _ _ _ ([(36,e7 ba),(35,pt ad),(34,e7<|k.tm),(33,.pointer<|some ⟨ae,24,none⟩),(32,e7 M),(31,e7 M),(30,.pointer<|some ⟨ae,7,none⟩),(29,.pointer<|some ⟨ae,7,none⟩),(28,pt ad),(25,.bool<|decide<|(i:Int)<6),(24,e7<|(i:Int)),(3,pt ad),(4,pt ae),(5,e7<|(i:Int))]:Env) (e8 ae (kx aj ak ah ai M k v) 47::e8 ad [.slice la ln lc,e7 cj] 85::(Y++I))
    refine Dr 9 C (Rad C C)<|C5 (rs:=[10,11]) kr C C<|D5 ?_<|Dl ?_
    ·refine Se C (Ab c_ C C<|am1 ta1 (λ_=>Bd hl Ah) om  om om) ?_
     rintro _ _ ⟨_,_,⟨⟨av,bp⟩,⟨⟨rfl,a4,bc⟩,bk⟩,rfl⟩,rfl,rfl⟩
     refine ⟨Az,?_⟩
     show D prog κ _ _ _ _ _ _ _ ([(38,.agg (ez av).toArray),(37,e7<|k.tm+ba),(36,e7 ba),(35,pt ad),(34,e7<|k.tm),(33,.pointer<|some ⟨ae,24,none⟩),(32,e7 M),(31,e7 M),(30,.pointer<|some ⟨ae,7,none⟩),(29,.pointer<|some ⟨ae,7,none⟩),(28,pt ad),(25,.bool<|decide<|(i:Int)<6),(24,e7<|(i:Int)),(3,pt ad),(4,pt ae),(5,e7<|(i:Int))]:Env) (e8 ae (kx aj ak ah ai M k v) 47::e8 ad [.slice la ln lc,e7 bp] 85::(Y++I))
     have bk:0<=bp:=bk
     dsimp only at a4
     dsimp only at bc
     refine Ds1 11<|Se1 C (Aj z6 C) λck=>?_
     refine Ds1 12<|Se0 C (E5 z6) ?_
     exact Dz<|Dk ((av),(bp),(ck))<|by dsimp only;exact ⟨a4,om,om⟩
    refine Se1 C (Aj z6 C) λbt=>?_
    refine Ds1 10<|Se C (Ab c_ C C<|am1 ta1 (λ_=>Bd hl Ah) om  om om) ?_
    rintro _ _ ⟨_,_,⟨⟨ax,bv⟩,⟨⟨rfl,a5,be⟩,bi⟩,rfl⟩,rfl,rfl⟩
    refine ⟨Az,?_⟩
    show D prog κ _ _ _ _ _ _ _ ([(38,.agg (ez ax).toArray),(6,pt bt),(37,e7<|k.tm+ba),(36,e7 ba),(35,pt ad),(34,e7<|k.tm),(33,.pointer<|some ⟨ae,24,none⟩),(32,e7 M),(31,e7 M),(30,.pointer<|some ⟨ae,7,none⟩),(29,.pointer<|some ⟨ae,7,none⟩),(28,pt ad),(25,.bool<|decide<|(i:Int)<6),(24,e7<|(i:Int)),(3,pt ad),(4,pt ae),(5,e7<|(i:Int))]:Env) (e8 bt [e7 0,e7 0,e7 0,e7 0,e7 0,e7 0,e7 0] 54::e8 ae (kx aj ak ah ai M k v) 47::e8 ad [.slice la ln lc,e7 bv] 85::(Y++I))
    have bi:0<=bv:=bi
    dsimp only at a5
    dsimp only at be
    refine Ds1 12<|Se0 C (E5 z6) ?_
    exact Dz<|Dk ((ax),(bv),(bt))<|by dsimp only;exact ⟨a5,om,om⟩
   refine Se1 C (Aj z6 C) λa7=>?_
   refine Ds1 8<|Se C (Ab c_ C C<|P3 ta1 (A3 hl) om om) ?_
   rintro _ _ ⟨_,_,⟨bq,cc,rfl,co,cq,rfl⟩,rfl,rfl⟩
   refine ⟨Az,?_⟩
   show D prog κ _ _ _ _ _ _ _ ([(36,e7 bq),(6,pt a7),(35,pt ad),(34,e7<|k.tm),(33,.pointer<|some ⟨ae,24,none⟩),(32,e7 M),(31,e7 M),(30,.pointer<|some ⟨ae,7,none⟩),(29,.pointer<|some ⟨ae,7,none⟩),(28,pt ad),(25,.bool<|decide<|(i:Int)<6),(24,e7<|(i:Int)),(3,pt ad),(4,pt ae),(5,e7<|(i:Int))]:Env) (e8 a7 [e7 0,e7 0,e7 0,e7 0,e7 0,e7 0,e7 0] 54::e8 ae (kx aj ak ah ai M k v) 47::e8 ad [.slice la ln lc,e7 cc] 85::(Y++I))
   refine Dr 9 C (Rad C C)<|Ds1 10<|Se C (Ab c_ C C<|am1 ta1 (λ_=>Bd hl Ah) om  om om) ?_
   rintro _ _ ⟨_,_,⟨⟨aw,br⟩,⟨⟨rfl,a6,bb⟩,bf⟩,rfl⟩,rfl,rfl⟩
   refine ⟨Az,?_⟩
   show D prog κ _ _ _ _ _ _ _ ([(38,.agg (ez aw).toArray),(37,e7<|k.tm+bq),(36,e7 bq),(6,pt a7),(35,pt ad),(34,e7<|k.tm),(33,.pointer<|some ⟨ae,24,none⟩),(32,e7 M),(31,e7 M),(30,.pointer<|some ⟨ae,7,none⟩),(29,.pointer<|some ⟨ae,7,none⟩),(28,pt ad),(25,.bool<|decide<|(i:Int)<6),(24,e7<|(i:Int)),(3,pt ad),(4,pt ae),(5,e7<|(i:Int))]:Env) (e8 a7 [e7 0,e7 0,e7 0,e7 0,e7 0,e7 0,e7 0] 54::e8 ae (kx aj ak ah ai M k v) 47::e8 ad [.slice la ln lc,e7 br] 85::(Y++I))
   have bf:0<=br:=bf
   dsimp only at a6
   dsimp only at bb
   refine Ds1 12<|Se0 C (E5 z6) ?_
   exact Dz<|Dk ((aw),(br),(a7))<|by dsimp only;exact ⟨a6,om,om⟩
  rintro ⟨xe,ar,nb⟩ hp
  obtain ⟨b5,b2,bg⟩:(H4 M xe)/\(k.tm<=xe.tm/\xe.tm<=k.tm+3)/\(0<=ar):=hp
  show W prog κ 130 _ _ ([(3,pt ad),(4,pt ae),(5,e7<|(i:Int)),(6,pt nb)]:Env) (e8 nb (ez xe) 54::e8 ae (kx aj ak ah ai M k v) 47::e8 ad [.slice la ln lc,e7 ar] 85::(Y++I))
  refine Al<|Gr (j8.lj H2) ?_
  refine Gl7 z6 ?_
  refine G.e (Ab c_ C C<|cy9 (T:=(Y++I)) (k:=k) (v:=v) (xe:=xe) ta2 hF hK om b5 b2.1<|Ba hT Ah) ?_
  rintro _ _ ⟨_,_,⟨ab,O26,aa,Y28,an,ao,rfl,au,a1,ap,rfl⟩,rfl,rfl⟩
  refine Dp (J:=e8 nb (ez xe) 54::e8 ae (kx aj ak ah ai M k v) 47::e8 ad [.slice la ln lc,e7 ar] 85::(Y28++(Y++I))) (Cj<|Cz (A:=Y28) (L:=[e8 nb (ez xe) 54,e8 ae (kx aj ak ah ai M k v) 47,e8 ad [.slice la ln lc,e7 ar] 85]) (T:=(Y++I))) ?_
  show G prog κ _ _ _ _ ([(42,.tuple #[.agg (kx aj ak ah ai M ab aa).toArray,.slice an O26.length ao,e7 0]),(41,.agg (ez xe).toArray),(40,.agg (kx aj ak ah ai M k v).toArray),(3,pt ad),(4,pt ae),(5,e7<|(i:Int)),(6,pt nb)]:Env) (e8 nb (ez xe) 54::e8 ae (kx aj ak ah ai M k v) 47::e8 ad [.slice la ln lc,e7 ar] 85::(Y28++(Y++I)))
  refine Gm C ?_
  obtain ⟨b7,a0⟩:=hK.next b5 b2.1 au
  have cw:ab.S.length<=k.S.length+1/\O26.length<=2*k.S.length+2:=a0.len
  have cg:ab.S=O26.foldl ep k.S:=a0.st
  refine Gr (Bf C C)<|Gr (Bf C C)<|Gr (Bf C C)<|Ge1 (Aj H2 C) λay=>Ge0 (Eff.sq H2) ?_
  refine Ga C<|Ga C<|Ar<|A0 (S7 9 8 7 3 4 5 6)<|Al<|Gf Z8 C<|Gl2 Q2 ?_
  refine Gm C<|G.e (Ab c_ C C<|fh3 (T:=(Y28++(Y++I))) (nd:=M) (lv:=v.l) (xs:=k.S) ta2 (KpF.fit hF<|Br _ _).l ap hK.inv.val a0.fit (by show O26.length<=_;omega) cg) ?_
  rintro _ _ ⟨_,_,⟨aq,cb,Y34,rfl,bu,rfl⟩,rfl,rfl⟩
  refine Dp (J:=e8 ay (kx aj ak ah ai M ab aa) 47::e8 nb (ez xe) 54::e8 ae (kx aj ak ah ai M k v) 47::e8 ad [.slice la ln lc,e7 ar] 85::(Y34++(Y28++(Y++I)))) (Cj<|Cz (A:=Y34) (L:=[e8 ay (kx aj ak ah ai M ab aa) 47,e8 nb (ez xe) 54,e8 ae (kx aj ak ah ai M k v) 47,e8 ad [.slice la ln lc,e7 ar] 85]) (T:=(Y28++(Y++I)))) ?_
  show G prog κ _ _ _ _ ([(50,.tuple #[.agg #[e7 M,.slice aq.a ab.S.length aq.c],e7 cb,e7 0]),(49,.slice an O26.length ao),(48,.agg #[e7 M,.slice v.l.a k.S.length v.l.c]),(47,.pointer<|some ⟨ae,7,none⟩),(9,e7 0),(8,.slice an O26.length ao),(7,pt ay),(3,pt ad),(4,pt ae),(5,e7<|(i:Int)),(6,pt nb)]:Env) (e8 ay (kx aj ak ah ai M ab aa) 47::e8 nb (ez xe) 54::e8 ae (kx aj ak ah ai M k v) 47::e8 ad [.slice la ln lc,e7 ar] 85::(Y34++(Y28++(Y++I))))
  refine Gm C<|Gr (Bf C C)<|Gr (Bf C C)<|Gr (Bf C C)<|Ge1 (Aj Q2 C) λa8=>Ge0 (Co Q2) ?_
  refine Ga C<|Ga C<|Ar<|A0 (S9 12 10 9 8 7 3 4 5 6)<|Al<|Ga C<|Ar<|Ax<|Al<|Gm C<|Gr (Bn Ad C)<|Gm C<|Ar<|A7<|B9 (σ:=Nat×Bool) (λs=>([(3,pt ad),(4,pt ae),(5,e7<|(i:Int)),(6,pt nb),(7,pt ay),(8,.slice an O26.length ao),(9,e7 0),(10,pt a8),(12,e7 0),(13,.bool<|s.2),(54,.slice an O26.length ao),(55,e7 ((O26.length:Nat):Int)),(56,e7 ((s.1:Nat):Int))]:Env)) (λs=>e8 a8 [e7 M,.slice aq.a ab.S.length aq.c] 35::e8 ay (kx aj ak ah ai M ab aa) 47::e8 nb (ez xe) 54::e8 ae (kx aj ak ah ai M k v) 47::e8 ad [.slice la ln lc,e7 ar] 85::(Y34++(Y28++(Y++I)))) (λs=>(s.1<=O26.length)/\(s.2=decide (xe∈O26.take s.1))) (λs=>O26.length - s.1) (0,false) (show ((0:Nat)<=O26.length)/\((false:Bool)=decide (xe∈O26.take (0:Nat))) from ⟨om,(by simp)⟩) (cx4<|cx4<|Aa C<|Aa (Da C<|by first|rfl|simp)<|cx2<|Aa Cl Bb) (show Fit κ _ (e8 a8 [e7 M,.slice aq.a ab.S.length aq.c] 35::e8 ay (kx aj ak ah ai M ab aa) 47::e8 nb (ez xe) 54::e8 ae (kx aj ak ah ai M k v) 47::e8 ad [.slice la ln lc,e7 ar] 85::(Y34++(Y28++(Y++I)))) from Az) ?_
  rintro ⟨j,q⟩ hp
  dsimp only at hp ⊢
  obtain ⟨hj,hq⟩:=hp
  refine Al<|Gr (Bm C C)<|Ar<|A0 (S14 57 3 4 5 6 7 8 9 10 12 13 54 55 56)<|Ax<|Ao C (λcf=>?_)<|λcf=>?_
  ·refine Bc (Ak<|A0 (S13 3 4 5 6 7 8 9 10 12 13 54 55 56 C C C C C C C C C C C C C)<|Ax<|A7<|Al<|Gm C ?_)
   have c0:=a0.rng _ (Bo (xs:=O26) (i:=(j:Int)) om<|by show (j:Int)<(O26.length:Int);omega)
   have ci:=dy4 a0.asc (j:=j) (by show j<O26.length;omega)
   dsimp only at ci
   refine Gr (A1 (α:=Ev) (xs:=O26) Ad z6 C C (Bd (show Sl κ (Y28++(Y++I)) (.slice an O26.length ao) O26 from ap) Ah) om om)<|Gr (C7 (α:=Ev) (xs:=O26) z6 C (Bd (show Sl κ (Y28++(Y++I)) (.slice an O26.length ao) O26 from ap) Ah) om om)<|Ge1 (Aj z6 C) λb9=>Ga C<|Ge0 (E5 z6) ?_
   refine Ar<|A0 (S15 14 15 3 4 5 6 7 8 9 10 12 13 54 55 56)<|Al<|Gm C<|Gm C<|G.bc3 (d:=62) C (λa9=>?_)<|λa9=>?_
   ·refine eb (eb<|eb<|Gr (B0 C C)<|Ga C<|Ar<|A0 (S15 13 14 15 3 4 5 6 7 8 9 10 12 54 55 56)<|Ax<|A8 mixed<|Bv (e8 b9 (ez (e_ O26 j)) 54::e8 a8 [e7 M,.slice aq.a ab.S.length aq.c] 35::e8 ay (kx aj ak ah ai M ab aa) 47::e8 nb (ez xe) 54::e8 ae (kx aj ak ah ai M k v) 47::e8 ad [.slice la ln lc,e7 ar] 85::(Y34++(Y28++(Y++I)))) 20<|Dr 0 C (Ap C)<|Dr 1 C (Dc C C)<|Dr 2 C (Ap C)<|Df (d:=69) C (λbw=>?_)<|λbw=>?_)
    ·refine Dro 3 C (Ap C) (Dro 4 C (Ap C)<|Dro 5 C (Rsu C C)<|Dro 6 C (A1 (α:=Ev) (xs:=O26) Ad z6 C C (Bd (show Sl κ (Y28++(Y++I)) (.slice an O26.length ao) O26 from ap) Ah) om om)<|Dro 7 C (Fe (α:=Ev) (xs:=O26) H8 C (Bd (show Sl κ (Y28++(Y++I)) (.slice an O26.length ao) O26 from ap) Ah) om)<|Dro 8 C (E3 (α:=Ev) (xs:=O26) (u:=e7 ((e_ O26<|(j:Int) - 1).tm)) ef C (Bd (show Sl κ (Y28++(Y++I)) (.slice an O26.length ao) O26 from ap) Ah) om om C)<|Dro 9 C (Af H8 C)<|Dro 10 C (Be ef) ?_)
     refine Dro 11 C (Dc C C)<|Dr 12 C (B0 C C)<|Dr 13 C (Ap C)<|Df (d:=80) C (λbo=>?_)<|λbo=>?_
     ·omega
     refine Dro 14 C (Af H8 C)<|Dro 15 C (Be ef) ?_
     refine Dro 16 C (Af H8 C)<|Dro 17 C (Be ef) ?_
     refine Dro 18 C (Dc C C)<|Dr 19 C (Bk C C)<|Dz<|Ak<|A0 (S14 86 13 3 4 5 6 7 8 9 10 12 54 55 56)<|Ao C (λa3=>?_)<|λa3=>?_
     ·omega
     exact Bc<|Au<|Ak<|A0 (S13 13 3 4 5 6 7 8 9 10 12 54 55 56 C C C C C C C C C C C C C)<|A6<|Gr (Rad C C)<|Gm C<|Bq<|Bu ((j+1),(true))<|by dsimp only;exact ⟨om,(fy7 hq a9 om)⟩
    refine Dpo 3 C<|Dpo 4 C<|Dpo 5 C<|Dpo 6 C<|Dpo 7 C<|Dpo 8 C<|Dpo 9 C<|Dpo 10 C<|Dpo 11 C<|Dr 12 C (Bk C C)<|Dr 13 C (Ap C)<|Dro 14 C (Af H8 C)<|Dro 15 C (Be ef) ?_
    refine Dro 16 C (Af H8 C)<|Dro 17 C (Be ef) ?_
    refine Dro 18 C (Dc C C)<|Dr 19 C (Bk C C)<|Dz<|Ak<|A0 (S14 86 13 3 4 5 6 7 8 9 10 12 54 55 56)<|Ao C (λa3=>?_)<|λa3=>?_
    ·omega
    exact Bc<|Au<|Ak<|A0 (S13 13 3 4 5 6 7 8 9 10 12 54 55 56 C C C C C C C C C C C C C)<|A6<|Gr (Rad C C)<|Gm C<|Bq<|Bu ((j+1),(true))<|by dsimp only;exact ⟨om,(fy7 hq a9 om)⟩
   refine e9 (Bl (vs:=[_,_,_,_,_,_,_]) z6) ?_
   refine e9 (Bl (vs:=[_,_,_,_,_,_,_]) z6) ?_
   refine e9 (Fm (α:=Ev) (a:=(e_ O26 j)) (b:=xe) fz0 C C)<|Gr (Bk C C)<|Ga C<|Ar<|A0 (S15 13 14 15 3 4 5 6 7 8 9 10 12 54 55 56)<|Ax<|A8 mixed<|Bv (e8 b9 (ez (e_ O26 j)) 54::e8 a8 [e7 M,.slice aq.a ab.S.length aq.c] 35::e8 ay (kx aj ak ah ai M ab aa) 47::e8 nb (ez xe) 54::e8 ae (kx aj ak ah ai M k v) 47::e8 ad [.slice la ln lc,e7 ar] 85::(Y34++(Y28++(Y++I)))) 20<|Dr 0 C (Ap C)<|Dr 1 C (Dc C C)<|Dr 2 C (Ap C)<|Df (d:=69) C (λbw=>?_)<|λbw=>?_
   ·refine Dro 3 C (Ap C) (Dro 4 C (Ap C)<|Dro 5 C (Rsu C C)<|Dro 6 C (A1 (α:=Ev) (xs:=O26) Ad z6 C C (Bd (show Sl κ (Y28++(Y++I)) (.slice an O26.length ao) O26 from ap) Ah) om om)<|Dro 7 C (Fe (α:=Ev) (xs:=O26) H8 C (Bd (show Sl κ (Y28++(Y++I)) (.slice an O26.length ao) O26 from ap) Ah) om)<|Dro 8 C (E3 (α:=Ev) (xs:=O26) (u:=e7 ((e_ O26<|(j:Int) - 1).tm)) ef C (Bd (show Sl κ (Y28++(Y++I)) (.slice an O26.length ao) O26 from ap) Ah) om om C)<|Dro 9 C (Af H8 C)<|Dro 10 C (Be ef) ?_)
    refine Dro 11 C (Dc C C)<|Dr 12 C (B0 C C)<|Dr 13 C (Ap C)<|Df (d:=80) C (λbo=>?_)<|λbo=>?_
    ·omega
    refine Dro 14 C (Af H8 C)<|Dro 15 C (Be ef) ?_
    refine Dro 16 C (Af H8 C)<|Dro 17 C (Be ef) ?_
    refine Dro 18 C (Dc C C)<|Dr 19 C (Bk C C)<|Dz<|Ak<|A0 (S14 86 13 3 4 5 6 7 8 9 10 12 54 55 56)<|Ao C (λa3=>?_)<|λa3=>?_
    ·omega
    exact Bc<|Au<|Ak<|A0 (S13 13 3 4 5 6 7 8 9 10 12 54 55 56 C C C C C C C C C C C C C)<|A6<|Gr (Rad C C)<|Gm C<|Bq<|Bu ((j+1),(decide<|(e_ O26 j)=xe))<|by dsimp only;exact ⟨om,(fy8 hq a9 om)⟩
   refine Dpo 3 C<|Dpo 4 C<|Dpo 5 C<|Dpo 6 C<|Dpo 7 C<|Dpo 8 C<|Dpo 9 C<|Dpo 10 C<|Dpo 11 C<|Dr 12 C (Bk C C)<|Dr 13 C (Ap C)<|Dro 14 C (Af H8 C)<|Dro 15 C (Be ef) ?_
   refine Dro 16 C (Af H8 C)<|Dro 17 C (Be ef) ?_
   refine Dro 18 C (Dc C C)<|Dr 19 C (Bk C C)<|Dz<|Ak<|A0 (S14 86 13 3 4 5 6 7 8 9 10 12 54 55 56)<|Ao C (λa3=>?_)<|λa3=>?_
   ·omega
   exact Bc<|Au<|Ak<|A0 (S13 13 3 4 5 6 7 8 9 10 12 54 55 56 C C C C C C C C C C C C C)<|A6<|Gr (Rad C C)<|Gm C<|Bq<|Bu ((j+1),(decide<|(e_ O26 j)=xe))<|by dsimp only;exact ⟨om,(fy8 hq a9 om)⟩
  refine Cg<|Aw<|Aw<|Bi<|Ak<|A0 (S9 3 4 5 6 7 9 10 12 13)<|Ax<|Al<|Gm C ?_
  have ce:q=true:=by rw [hq,show O26.take j=O26 from Fz om];exact As a0.has
  subst ce
  refine Gr (Cb C C)<|Gm C<|A4 (d:=90) C (λb6=>?_)<|λb6=>?_
  ·exact absurd rfl b6
  refine e9 (Ap C)<|e9 (Cb C C)<|Gr (Bk C C)<|Gm C<|A4 (d:=94) C (λb4=>?_)<|λb4=>?_
  ·exact absurd rfl b4
  refine e9 (Ap C)<|e9 (Ey C)<|Gr (Bk C C)<|Gm C<|e9 (Bl (vs:=[_,_]) Q2) ?_
  refine e9 (Af Z8 C)<|e9 (Bl (vs:=[_,_]) Q2) ?_
  refine Dt (Cm C C C) (Ab c_ C C<|cp8 (Bd (show Sl κ (Y34++(Y28++(Y++I))) (.slice aq.a ab.S.length aq.c) ab.S from bu) Ah) (KpF.fit a1<|B4 (κ:=κ)<|by repeat (first|exact Bh _|apply Bg|apply Bp)).l) ?_
  rintro _ _ ⟨_,_,⟨rfl,rfl⟩,rfl,rfl⟩
  refine e9 (E9 C)<|Gr (Bk C C)<|Gm C<|A4 (d:=105) C (λbj=>?_)<|λbj=>?_
  ·exact absurd ⟨rfl,rfl⟩ bj
  refine e9 (Af aw2 C)<|e9 (Be ef) ?_
  refine e9 (Af H8 C)<|e9 (Be ef) ?_
  refine e9 (Cb C C)<|Gr (Bk C C)<|Gm C<|A4 (d:=112) C (λbh=>?_)<|λbh=>?_
  ·exact absurd au.2.2 bh
  refine e9 (Af aw4 C)<|e9 (Af U8 C)<|e9 (Be ef) ?_
  refine e9 (C3 C C)<|e9 (Ap C)<|A4 (d:=117) C (λbm=>?_)<|λbm=>?_
  ·refine e9 (Af Z8 C) (e9 (Af N6 C)<|e9 (Be au1) ?_)
   refine e9 (Bn A2 C)<|e9 (Af aw4 C)<|e9 (Af aw6 C)<|e9 (Be ef) ?_
   refine e9 (Dc C C)<|e9 (B0 C C)<|Gr (Bk C C)<|Ar<|A0 (S5 127 3 4 5 7)<|Ao C (λb3=>?_)<|λb3=>?_
   ·exfalso;have h9:((ab.S.length:Nat):Int)<=ah:=a0.cnt bm;omega
   refine Bc<|Ak<|A6<|Gr (j8.lj H2) ?_
   refine Ge0 (Eff.sq H2) ?_
   exact Bq<|Au<|Ak<|A6<|Gm C<|Gr (Rad C C)<|Ga C<|Bq<|Bu ((i+1),(ar),(ab),(aa),((Y34++(Y28++Y)))) (by dsimp only;exact ⟨om,bg,b7,(by simp only [Fv];exact KpF.fit a1<|Br _ _),(by rw [au.2.1];exact b8),(by rw [au.2.2];omega)⟩) (hI:=by (try dsimp only);exact (by simp only [Fv];exact Az))
  refine eb<|eb<|eb<|eb<|eb<|eb<|eb<|eb<|e9 (Bk C C)<|Gr (Bk C C)<|Ar<|A0 (S5 127 3 4 5 7)<|W.no C<|Bc<|Ak<|A6<|Gr (j8.lj H2) ?_
  refine Ge0 (Eff.sq H2) ?_
  exact Bq<|Au<|Ak<|A6<|Gm C<|Gr (Rad C C)<|Ga C<|Bq<|Bu ((i+1),(ar),(ab),(aa),((Y34++(Y28++Y)))) (by dsimp only;exact ⟨om,bg,b7,(by simp only [Fv];exact KpF.fit a1<|Br _ _),(by rw [au.2.1];exact b8),(by rw [au.2.2];omega)⟩) (hI:=by (try dsimp only);exact (by simp only [Fv];exact Az))
 refine Cg<|Aw<|Aw<|Bi<|Ak<|Al<|G.e (Ab c_ C C<|bo1<|Ba hT Ah) ?_
 rintro _ _ ⟨_,_,⟨rfl,rfl⟩,rfl,rfl⟩
 exact Ga C<|Ar<|B3<|Am C C I (by first|exact Ah|exact Z1) ⟨rfl,rfl⟩
end Go.Sl
namespace Go.Sl
open Go.ChangeShapes Go.WideShapes Go.ChangeAt Go.RowKit Go.Deep
variable{v:Value}{e:TypeId}{a:Addr}
section
variable {κ:Ctx}{w w':World}{I:List Item}
theorem ck7(hs:Sep κ w' I)(hm:old w.heap.size w∈I){b o:Nat}{u:Value}(M:w.cell? ⟨b,o,none⟩=some u):w'.cell? ⟨b,o,none⟩=some u:=by
 have aa:∀k,k<w.heap.size->w'.heap[k]? = w.heap[k]? :=(hs.ok _ hm).1
 have hb:b<w.heap.size:=by
  refine Nat.not_le.1 λh=>?_
  simp [World.cell?,Array.getElem?_eq_none h] at M
 have:=aa b hb
 simp only [World.cell?,this] at M ⊢
 exact M
def SlW{α:Type}[Enc α](w:World)(v:Value)(xs:List α):Prop:=da2 w (Enc.sz α) v xs.length (cells xs)
theorem SlW.sl{α:Type}[Enc α]{xs:List α}(h:SlW w v xs)(hm:old w.heap.size w∈I):Sl κ I v xs:=λw' hs=>by
 obtain ⟨a,cap,hv,h1,h2,h3,h4⟩:=h
 refine ⟨a,cap,hv,h1,h2,h3,λhc=>?_⟩
 obtain ⟨b,off,ha,M⟩:=h4 hc
 exact ⟨b,off,ha,λj u hj=>ck7 hs hm<|M j u hj⟩
end
section
variable {P:Program}{w:World}{r:Reach}{b0:Nat}{t:TypeId}{H:Type}{enc:TypeId×Value->H}{base:Nat}{spare:Nat->Bool}{held:Bool}
theorem dc3{len cap:Nat}(M:P.underlying t=some (.slice e))(h:Cell.okWide P w r b0 t (.slice (some a) len cap)):a.spot=none:=by
 simp only [Cell.okWide,Cell.ok,M] at h
 exact h.2.2.2.1
theorem gb2{n:Int}(h:(Lit.int .i64 n).wf=true):InR n:=by
 simp only [Lit.wf,Hh,Gs] at h
 exact h
def fr5(P:Program)(t:TypeId)(d:DataW H):Prop:=∀n∈d.weights P t,n<=reachBytes
theorem dg7{M:List TypeId}{ds:List (DataW H)}(h:(DataW.weightsEach P M ds).all (· <= reachBytes)=true){j:Nat}{d:DataW H}(ht:M[j]? = some t)(hd:ds[j]? = some d):fr5 P t d:=λn hn=>by
 have:=List.all_eq_true.1 h _ (DataW.weights_mem_each ht hd n hn)
 simpa using this
theorem ce1{es sp:List (DataW H)}(M:P.underlying t=some (.slice e))(h:fr5 P t (.slice es sp)):es.length*P.bytesOf e<=140737488351232:=by
 have h1:=h ((es.length+sp.length)*P.bytesOf e) (by simp [DataW.weights,M])
 have h2:es.length*P.bytesOf e<=(es.length+sp.length)*P.bytesOf e:=Hm _ (by omega)
 simp only [reachBytes] at h1
 omega
theorem cp6(h:a.spot=none):a=⟨a.block,a.off,none⟩:=by cases a;simp_all
theorem fn4{fuel:Nat}{x:DataW H×List MemPlace}(ht:P.underlying t=some (.slice e))(he:P.underlying e=some (.int .i64))(hc:P.cellsOf e=1)
  (hv:Cell.okWide P w r b0 t v) (h:DataW.trod enc P w base spare held fuel t [v]=some x) (hw:fr5 P t x.1):∃(a:Option Addr) (c:Nat) (xs:List Int),v = .slice a xs.length c/\SlW w (.slice a xs.length c) xs/\(∀n∈xs,InR n)/\xs.length*P.bytesOf e<=140737488351232:=by
 rcases open_ints ht he hc h with ⟨M,_⟩|⟨a,l,c,zs,M,_,hl,hm,hz,hx,ab,ae⟩
 ·obtain rfl:v = .slice none 0 0:=by simpa using M
  exact ⟨none,0,[],rfl,⟨none,0,rfl,by simp [cells],Gi _,by simp,λh=>by omega⟩,by simp,by simp⟩
 obtain rfl:v = .slice (some a) l c:=by simpa using M
 have ad:=dc3 ht hv
 have ah:l<=zs.length:=by rw [hz];split<;>omega
 have aa:(zs.take l).length=l:=by rw [Ft];omega
 refine ⟨some a,c,zs.take l,by rw [aa],⟨some a,c,rfl,r8 _,by rw [aa];exact hl,hm,λai=>⟨a.block,a.off,by rw [←cp6 ad],λj u hj=>?_⟩⟩,λn hn=>gb2 (ae n (Hz hn)),by
  rw [hx] at hw
  have:=ce1 ht hw
  simpa [lits] using this⟩
 have aj:j<l:=by
  have:=(Ha.1 hj).1
  rw [r8,aa] at this
  have e1:Enc.sz Int=1:=rfl
  rw [e1] at this;omega
 have h1:=W0 (zs.take l) j 0 (by omega) (by decide)
 have e1:j*Enc.sz Int+0=j:=by show j*1+0=j;omega
 rw [e1] at h1
 rw [h1] at hj
 have h2:=ab j (by omega)
 rw [cp6 ad,G9] at h2
 have h3:u=e7 (zs.getD j 0):=by
  have h4:some (e7<|(zs.take l)[j]'(by omega))=some u:=hj
  simp only [Jv] at h4
  rw [←h4]
  simp [Hu,Je (show j<zs.length by omega)]
 rw [h3];exact h2
theorem fb2{d:DataW H}{ps:List MemPlace}(M:P.underlying t=some (.slice e))(hv:Value.okWide P w r b0 t v)(h:DataW.Trod enc P w base spare held t v d ps):Cell.okWide P w r b0 t v/\∃fuel,DataW.trod enc P w base spare held fuel t [v]=some (d,ps):=by
 obtain ⟨a,len,cap,rfl⟩:=okWide_slice M hv
 simp only [Value.okWide,M] at hv
 obtain ⟨fuel,hf⟩:=h
 exact ⟨hv,fuel,by simpa [Value.cells] using hf⟩
theorem dh5{P:Program}{f:FuncId}{M:Func}{s:ChangeSpec}{c:OpenClaim}(h1:(c.wf (OpenSpec.ofChange s))=true)(h2:(laidOutB P)=true)(h3:(mapsRowed P)=true)(h4:(M.params.all (P.readableRec ·))=true)(h5:(namedTie P c.named s.vars)=true)(h6:((c.stops==[]))=true)(h7:((P.stops==[]))=true)(h8:((c.knobs==[]))=true)(h9:((P.stopKnobs==[]))=true)(ai:((c.inPlace==P.inPlace f))=true)(ay:((c.unfollowed==P.unfollowed f))=true)(ad:((c.recurses==P.recurses f))=true)(ax:((c.named==P.varsNamed f))=true)(ap:((c.maps==(M.params.toList++s.plain.varTypes P).any (P.mapsRec ·)))=true)(ab:((c.ifaces==(M.params.toList++s.plain.varTypes P).any (P.ifacesRec ·)))=true)(a3:((c.mapsOut==P.mapsAmong M.resultTypes.toList))=true)(ak:((c.loops==(M.params.toList++s.plain.varTypes P).any (P.loopsFrom ·)))=true)(au:((c.wideKeys==(M.params.toList++s.plain.varTypes P++M.resultTypes.toList).any (P.wideKeysFrom ·)))=true)(aa:(s.vars.all (P.varReadable ·))=true)(a4:(M.resultTypes.all (λt=>P.readableRec t&&decide (t<P.types.size)))=true)(aq:((c.ifacesOut==M.resultTypes.toList.any (P.ifacesRec ·)))=true)(a0:((c.loopsOut==M.resultTypes.toList.any (P.loopsFrom ·)))=true)(ar:((c.plainKeys==P.plainKeys))=true)(an:(c.shortTexts.isNone)=true)(a1:(P.stopsHeard)=true)(az:(P.mayEnter)=true)(aj:((c.lifted==P.liftsFinal))=true)(ao:((P.make==some c.make))=true)(av:((c.kinds==(if c.domain.isEmpty then [] else M.params.toList.map λt=>match P.underlying t with |some (.int k)=>some k|_=>none)))=true)(ae:((c.pinned==c.pinnedBy))=true)(aw:((c.veiled==(M.params.toList++s.plain.varTypes P++M.resultTypes.toList).any (P.veiledRec ·)))=true)(ah:(c.veiledFits P M.params.toList (M.params.toList++s.plain.varTypes P++M.resultTypes.toList))=true):joinedFacts P f M s c=true:=by
 unfold joinedFacts
 exact (Gn.2 ⟨(Gn.2 ⟨(Gn.2 ⟨(Gn.2 ⟨(Gn.2 ⟨(Gn.2 ⟨(Gn.2 ⟨(Gn.2 ⟨(Gn.2 ⟨(Gn.2 ⟨(Gn.2 ⟨(Gn.2 ⟨(Gn.2 ⟨(Gn.2 ⟨(Gn.2 ⟨(Gn.2 ⟨(Gn.2 ⟨(Gn.2 ⟨(Gn.2 ⟨(Gn.2 ⟨(Gn.2 ⟨(Gn.2 ⟨(Gn.2 ⟨(Gn.2 ⟨(Gn.2 ⟨(Gn.2 ⟨(Gn.2 ⟨(Gn.2 ⟨(Gn.2 ⟨(Gn.2 ⟨(Gn.2 ⟨h1,h2⟩),h3⟩),h4⟩),h5⟩),h6⟩),h7⟩),h8⟩),h9⟩),ai⟩),ay⟩),ad⟩),ax⟩),ap⟩),ab⟩),a3⟩),ak⟩),au⟩),aa⟩),a4⟩),aq⟩),a0⟩),ar⟩),an⟩),a1⟩),az⟩),aj⟩),ao⟩),av⟩),ae⟩),aw⟩),ah⟩)
theorem cg4{f:FuncId}{M:List Value}(h:eu P ⟨w.os,w.tape,w.output,w.drawn⟩ f M [old w.heap.size w] λr J=>r = .bool true/\[old w.heap.size w]=J) :
  Calls P f M.toArray w λe w'=>e = .returned (.bool true)/\Below w.heap.size w w':=
 (h w<|Sep.begin w).mono λe w' ⟨v,J,he,⟨hv,hJ⟩,hs⟩=>by
  subst hv hJ
  exact ⟨he,hs.below A_⟩
end
end Go.Sl
