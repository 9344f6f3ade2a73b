/- A part of the proofs of statements of this seat: contracts of functions, and the plain laws that they lean on. No conditions. -/
import Derived.Test.YtoagcglbkeomgaaGreatDoorS9
import Derived.Test.YtoagcglbkeomgaaGreatDoorS10
set_option linter.unusedVariables false
set_option linter.unusedSimpArgs false
set_option linter.unusedSectionVars false
set_option maxHeartbeats 4000000
namespace Go.Sl
open Go.Proofs
set_option maxRecDepth 4000
variable{κ:Ctx}{I:List Item}{nd:Int}{va:Value}{xs:List Lk}{q:Bool}
theorem Apply5_ok{e:Ev}(hl:Sl κ I va xs)(ax:checkS nd xs=0)(ao:FitOk nd e)(cp:xs.length<=1000000):eu Tryz.prog κ 73 [.agg #[e7 nd,va],.agg (ez e).toArray] I (λr J=>∃y:Option Addr×Nat×Option Addr×Nat×Nat,(r = .tuple #[.agg #[e7 nd,.slice y.1 (ep xs e).length y.2.1],.slice y.2.2.1 y.2.2.2.1 y.2.2.2.2,e7 0]/\y.2.2.2.1<=2*xs.length+1)/\J=vk 82 y.1 y.2.1 (ep xs e)::I):=by
 refine B5 hl.le λcd=>?_
 refine Ce2 Tryz.func73 C C ?_
 refine Ad<|Ge1 (Bd (cs:=[_,_]) C C C) λb1=>Ge1 (Bd (cs:=[_,_,_,_,_,_,_]) C C C) λb2=>Ge1 (A4 ty35 C) λb3=>Ga C<|Ga C<|Ac<|Ar<|Ad<|Gl2 ty35 ?_
 refine Gc0 (Aj c_ C C<|CheckS5_ok (nd:=nd)<|A8 hl) ?_
 refine Ga C<|Ac<|Ad<|Gm C<|Gr (Be C C)<|Ac<|A7 C (λbc=>?_)<|λbc=>?_
 ·exact absurd ax bc
 refine Aw<|Ah<|Ar<|Ad<|Gl7 ty54 ?_
 refine Gc0 (Aj c_ C C<|CheckE4_ok e) ?_
 refine Ga C<|Ac<|Ap (S4 8 4 3 2)<|Ad<|Gm C<|Gr (Be C C)<|Ac<|A7 C (λbm=>?_)<|λbm=>?_
 ·exact absurd ao.chk bm
 refine Aw<|Ah<|Ar<|Ad<|Gf fld54_2 C<|Gl ef ?_
 refine Gf fld35_0 C<|Gl ef ?_
 refine Gr (Cv C C)<|Gm C<|Bh (d:=33) C (λbw=>?_)<|λbw=>?_
 ·exact absurd ao.fits om
 refine e9 (Ab fld54_3 C)<|e9 (A0 ef) ?_
 refine e9 (Ab fld35_0 C)<|e9 (A0 ef) ?_
 refine e9 (Cv C C)<|Gr (Au C C)<|Ac<|Ap (S4 39 4 3 2)<|A7 C (λbz=>?_)<|λbz=>?_
 ·exact absurd ao.fits om
 refine Aw<|Ah<|Ad<|Gf fld35_0 C<|Gl ef ?_
 refine Gr (Bq (cells:=[_,_]) ty35 Fc pl35 C C)<|Ge1 (A4 ty35 C) λb4=>Ge0 (Cz ty35) ?_
 refine Ac<|Ad<|Ga C ?_
 have ae:=(checkS_ok ax).2.2
 have co:=ao.kind
 refine Ac<|Ad<|Gf fld54_2 C<|Gl ef ?_
 refine Gf fld54_3 C<|Gl ef ?_
 refine Gr (Es C C)<|Gf fld54_2 C<|Gl ef ?_
 refine Gf fld54_3 C<|Gl ef ?_
 refine Gr (Dm C C)<|Gf fld54_4 C<|Gl ef ?_
 refine Gf fld54_5 C<|Gl ef ?_
 refine Gf fld54_6 C<|Gl ef ?_
 refine Gf fld54_1 C<|Gl ef ?_
 refine Gr (Bq (cells:=[_,_,_,_,_,_]) ty82 Tryz.underlying82 pl82 C C)<|Ge1 (A4 ty82 C) λb5=>Ge0 (Es6_6 ty82) ?_
 show G Tryz.prog κ _ _ _ _ ([(11,pt b5),(62,.agg #[e7 (if e.v<e.u then e.v else e.u),e7 (if e.u<e.v then e.v else e.u),e7<|e.w,e7<|e.lb,e7<|e.sg,e7<|e.tm]),(61,e7<|e.tm),(60,.pointer<|some ⟨b2,1,none⟩),(59,e7<|e.sg),(58,.pointer<|some ⟨b2,6,none⟩),(57,e7<|e.lb),(56,.pointer<|some ⟨b2,5,none⟩),(55,e7<|e.w),(54,.pointer<|some ⟨b2,4,none⟩),(53,e7 (if e.u<e.v then e.v else e.u)),(52,e7<|e.v),(51,.pointer<|some ⟨b2,3,none⟩),(50,e7<|e.u),(49,.pointer<|some ⟨b2,2,none⟩),(48,e7 (if e.v<e.u then e.v else e.u)),(47,e7<|e.v),(46,.pointer<|some ⟨b2,3,none⟩),(45,e7<|e.u),(44,.pointer<|some ⟨b2,2,none⟩),(10,.slice none 0 0),(9,pt b4),(43,.agg #[e7 nd,.slice none 0 0]),(42,e7 nd),(41,pt b1),(39,.bool<|decide<|nd<=e.v),(4,pt b3),(3,pt b2),(2,pt b1)]:Env) (e8 b5 (kl (eh e)) 82::e8 b4 [e7 nd,.slice none 0 0] 35::e8 b3 [e7 0,.slice none 0 0] 35::e8 b2 (ez e) 54::e8 b1 [e7 nd,va] 35::I)
 refine Ac<|Ap (S6 11 10 9 4 3 2)<|Ad<|Gf fld54_0 C<|Gl ef ?_
 refine Gr (Be C C)<|Ga C<|Ac<|Ar<|Ad<|Gf fld35_1 C<|Gl ty33 ?_
 refine Gr (Bw (α:=Lk) (xs:=xs) A2 C<|A8 hl)<|Gm C<|Ac<|Ap (S9 69 68 67 12 11 10 9 4 3)<|A5<|B1 (σ:=Nat×(Option Addr)×Nat×(Option Addr)×Nat×(List Lk)×(List Ev)×Bool) (λs=>([(3,pt b2),(4,pt b3),(9,pt b4),(10,.slice s.2.2.2.1 s.2.2.2.2.2.2.1.length s.2.2.2.2.1),(11,pt b5),(12,.bool<|s.2.2.2.2.2.2.2),(67,va),(68,e7 ((xs.length:Nat):Int)),(69,e7 ((s.1:Nat):Int))]:Env)) (λs=>e8 b4 [e7 nd,.slice s.2.1 s.2.2.2.2.2.1.length s.2.2.1] 35::vk 82 s.2.1 s.2.2.1 s.2.2.2.2.2.1::vk 54 s.2.2.2.1 s.2.2.2.2.1 s.2.2.2.2.2.2.1::e8 b5 (kl (eh e)) 82::e8 b3 [e7 0,.slice none 0 0] 35::e8 b2 (ez e) 54::e8 b1 [e7 nd,va] 35::I) (λs=>(s.1<=xs.length)/\(ApI xs e s.1 s.2.2.2.2.2.1 s.2.2.2.2.2.2.2)/\(s.2.2.2.2.2.2.1.length<=2*s.1)) (λs=>xs.length - s.1) (0,none,0,none,0,[],[],decide<|e.kd≠1) (show ((0:Nat)<=xs.length)/\(ApI xs e (0:Nat) ([]:List Lk) (decide (e.kd≠1):Bool))/\(([]:List Ev).length<=2*(0:Nat)) from ⟨om,ApI.start,(by simp)⟩) (cx2<|Aa C<|Aa (C8 C<|by first|rfl|simp)<|Aa C<|Aa (C8 C<|by first|rfl|simp)<|cx2<|Aa Cd Bp) (show Fit κ _ (e8 b4 [e7 nd,.slice none ([]).length 0] 35::vk 82 none 0 ([])::vk 54 none 0 ([])::e8 b5 (kl (eh e)) 82::e8 b3 [e7 0,.slice none 0 0] 35::e8 b2 (ez e) 54::e8 b1 [e7 nd,va] 35::I) from (Co (Cf 54 _)<|Co (Cf 82 _) Bl)) ?_
 rintro ⟨k,a1,c1,a2,c2,O,ak,q⟩ hp
 dsimp only at hp ⊢
 obtain ⟨hk,hA,cn⟩:=hp
 refine Ad<|Gr (A9 C C)<|Ac<|Ar<|A7 C (λb7=>?_)<|λb7=>?_
 ·refine Aw (Ah<|Ar<|A5<|Ad<|Gr (A3 (α:=Lk) (xs:=xs) A2 ty82 C C (A8 hl) om om)<|Gr (Bv (α:=Lk) (xs:=xs) ty82 C (A8 hl) om om)<|Ge1 (A4 ty82 C) λb6=>Ge0 (Es6_6 ty82) ?_)
  refine Ac<|W.cut (σ:=(Option Addr)×Nat×(Option Addr)×Nat×(List Lk)×(List Ev)×Bool) (λs=>([(3,pt b2),(4,pt b3),(9,pt b4),(10,.slice s.2.2.1 s.2.2.2.2.2.1.length s.2.2.2.1),(11,pt b5),(12,.bool<|s.2.2.2.2.2.2),(14,pt b6),(67,va),(68,e7 ((xs.length:Nat):Int)),(69,e7<|(k:Int))]:Env)) (λs=>e8 b4 [e7 nd,.slice s.1 s.2.2.2.2.1.length s.2.1] 35::vk 82 s.1 s.2.1 s.2.2.2.2.1::vk 54 s.2.2.1 s.2.2.2.1 s.2.2.2.2.2.1::e8 b6 (kl (e_ xs k)) 82::e8 b5 (kl (eh e)) 82::e8 b3 [e7 0,.slice none 0 0] 35::e8 b2 (ez e) 54::e8 b1 [e7 nd,va] 35::I) (λs=>(ApI xs e k s.2.2.2.2.1 s.2.2.2.2.2.2)/\((!s.2.2.2.2.2.2)=true->¬Pt.lt (eh e).p (e_ xs k).p)/\(s.2.2.2.2.2.1.length<=2*k+1)) ?_ ?_
  ·refine Ar (Bs mixed<|Cc (e8 b6 (kl (e_ xs k)) 82::e8 b4 [e7 nd,.slice a1 O.length c1] 35::vk 82 a1 c1 O::vk 54 a2 c2 ak::e8 b5 (kl (eh e)) 82::e8 b3 [e7 0,.slice none 0 0] 35::e8 b2 (ez e) 54::e8 b1 [e7 nd,va] 35::I) 9<|Dr 0 C (Ai C)<|Dr 1 C (Cn C)<|Dr 2 C (Ai C)<|D.splitb (d:=75) C (λaj=>?_)<|λaj=>?_)
   ·refine Dro 3 C (Bc (vs:=[_,_,_,_,_,_]) ty82) ?_
    refine Dro 5 C (Bc (vs:=[_,_,_,_,_,_]) ty82) ?_
    refine Ds1 4<|Sc0 C (Aj c_ C C<|Edge5_ok<|eh e) ?_
    refine Ds1 6<|Sc0 C (Aj c_ C C<|Edge5_ok<|e_ xs k) ?_
    refine Ds1 7<|Sc0 C (Aj c_ C C<|Before03_ok (eh e).p (e_ xs k).p) ?_
    refine Dr 8 C (Av C C)<|Dz<|Ah<|Ap (S11 81 14 3 4 9 10 11 12 67 68 69)<|A7 C (λan=>?_)<|λan=>?_
    ·refine Bs mixed (Cc (e8 b6 (kl (e_ xs k)) 82::e8 b5 (kl (eh e)) 82::e8 b3 [e7 0,.slice none 0 0] 35::e8 b2 (ez e) 54::e8 b1 [e7 nd,va] 35::I) 16<|Dr 0 C (Ab fld35_1 C)<|Dr 2 C (Bc (vs:=[_,_,_,_,_,_]) ty82) ?_)
     refine Dr 5 C (Ai C)<|Dr 6 C (Bc (vs:=[_,_,_,_,_,_]) ty82) ?_
     refine Dr 7 C (Ab fld54_1 C)<|Dr 8 C (A0 ef) ?_
     refine Do (rs:=[1,3]) kr C C<|Eu ?_<|D6 ?_
     ·refine Sr C (A0 ty33) Bg ?_
      refine Ds1 3<|Se1 C (Ce (α:=Lk) (cs:=(kl (eh e))) (xs:=[⟨(eh e).u,(eh e).v,(eh e).w,(eh e).lb,(eh e).sg,(eh e).tm⟩]) A2 ty82 C C dc dc C kr C C) λcr=>?_
      refine Ds1 4<|Se2 C (B3 (α:=Lk) (e:=82) (xs:=O) (ys:=([⟨(eh e).u,(eh e).v,(eh e).w,(eh e).lb,(eh e).sg,(eh e).tm⟩]:List Lk)) A2 ty82 C C C mm Bi (by have ai:=hA.len;first|(simp only [List.length_append,List.length_cons,List.length_nil];omega)|(have ah:=aa.len;simp only [List.length_append,List.length_cons,List.length_nil];omega)) dc C<|λ_ _=>am) λb8 bx=>?_
      refine Dr 12 C (Ab fld35_1 C)<|Ds1 9<|Sc0 C (Aj c_ C C<|Set5_ok (eh e) e.tm) ?_
      refine Ds1 10<|Se1 C (Ce (α:=Ev) (cs:=[e7 1,e7<|e.tm,e7<|(eh e).u,e7<|(eh e).v,e7<|(eh e).w,e7<|(eh e).lb,e7<|(eh e).sg]) (xs:=[⟨1,e.tm,(eh e).u,(eh e).v,(eh e).w,(eh e).lb,(eh e).sg⟩]) Al ty54 C C dc dc C kr C C) λcj=>?_
      refine Ds1 11<|Se2 C (B3 (α:=Ev) (e:=54) (xs:=ak) (ys:=([⟨1,e.tm,(eh e).u,(eh e).v,(eh e).w,(eh e).lb,(eh e).sg⟩]:List Ev)) Al ty54 C C C mm Bi (by have ai:=hA.len;first|(simp only [List.length_append,List.length_cons,List.length_nil];omega)|(have ah:=aa.len;simp only [List.length_append,List.length_cons,List.length_nil];omega)) dc C<|λ_ _=>am) λbv br=>?_
      refine Ds1 13<|Se0 C (Es2_1 ty33) ?_
      exact Dr 14 C (Bf C)<|Dr 15 C (Bf C)<|Dz<|Fa ((b8),(bx),(bv),(br),(O++([⟨(eh e).u,(eh e).v,(eh e).w,(eh e).lb,(eh e).sg,(eh e).tm⟩]:List Lk)),(ak++([⟨1,e.tm,(eh e).u,(eh e).v,(eh e).w,(eh e).lb,(eh e).sg⟩]:List Ev)),(true))<|by dsimp only;exact ⟨(by first|exact hA.ins ae om aj an|exact hA),(by intro h;first|exact absurd h dc|exact an|(rw [h] at aj;cases aj)),olp⟩
     refine Se1 C (Ce (α:=Lk) (cs:=(kl (eh e))) (xs:=[⟨(eh e).u,(eh e).v,(eh e).w,(eh e).lb,(eh e).sg,(eh e).tm⟩]) A2 ty82 C C dc dc C kr C C) λch=>?_
     refine Ds1 1<|Sr C (A0 ty33) Bg ?_
     refine Ds1 4<|Se2 C (B3 (α:=Lk) (e:=82) (xs:=O) (ys:=([⟨(eh e).u,(eh e).v,(eh e).w,(eh e).lb,(eh e).sg,(eh e).tm⟩]:List Lk)) A2 ty82 C C C mm Bi (by have ai:=hA.len;first|(simp only [List.length_append,List.length_cons,List.length_nil];omega)|(have ah:=aa.len;simp only [List.length_append,List.length_cons,List.length_nil];omega)) dc C<|λ_ _=>am) λbj a6=>?_
     refine Dr 12 C (Ab fld35_1 C)<|Ds1 9<|Sc0 C (Aj c_ C C<|Set5_ok (eh e) e.tm) ?_
     refine Ds1 10<|Se1 C (Ce (α:=Ev) (cs:=[e7 1,e7<|e.tm,e7<|(eh e).u,e7<|(eh e).v,e7<|(eh e).w,e7<|(eh e).lb,e7<|(eh e).sg]) (xs:=[⟨1,e.tm,(eh e).u,(eh e).v,(eh e).w,(eh e).lb,(eh e).sg⟩]) Al ty54 C C dc dc C kr C C) λcc=>?_
     refine Ds1 11<|Se2 C (B3 (α:=Ev) (e:=54) (xs:=ak) (ys:=([⟨1,e.tm,(eh e).u,(eh e).v,(eh e).w,(eh e).lb,(eh e).sg⟩]:List Ev)) Al ty54 C C C mm Bi (by have ai:=hA.len;first|(simp only [List.length_append,List.length_cons,List.length_nil];omega)|(have ah:=aa.len;simp only [List.length_append,List.length_cons,List.length_nil];omega)) dc C<|λ_ _=>am) λbh bu=>?_
     refine Ds1 13<|Se0 C (Es2_1 ty33) ?_
     exact Dr 14 C (Bf C)<|Dr 15 C (Bf C)<|Dz<|Fa ((bj),(a6),(bh),(bu),(O++([⟨(eh e).u,(eh e).v,(eh e).w,(eh e).lb,(eh e).sg,(eh e).tm⟩]:List Lk)),(ak++([⟨1,e.tm,(eh e).u,(eh e).v,(eh e).w,(eh e).lb,(eh e).sg⟩]:List Ev)),(true))<|by dsimp only;exact ⟨(by first|exact hA.ins ae om aj an|exact hA),(by intro h;first|exact absurd h dc|exact an|(rw [h] at aj;cases aj)),olp⟩
    exact Aw<|Fa ((a1),(c1),(a2),(c2),(O),(ak),(q))<|by dsimp only;exact ⟨(by first|exact hA.ins ae om aj an|exact hA),(by intro h;first|exact absurd h dc|exact an|(rw [h] at aj;cases aj)),olp⟩
   exact Dpo 3 C<|Dpo 5 C<|Dpo 4 C<|Dpo 6 C<|Dpo 7 C<|Dr 8 C (Au C C)<|Dz<|Ah<|Ap (S11 81 14 3 4 9 10 11 12 67 68 69)<|Dg C<|Aw<|Fa ((a1),(c1),(a2),(c2),(O),(ak),(q))<|by dsimp only;exact ⟨(by first|exact hA.ins ae om aj an|exact hA),(by intro h;first|exact absurd h dc|exact an|(rw [h] at aj;cases aj)),olp⟩
  rintro ⟨a3,c3,a4,c4,O2,Z,q2⟩ hp
  obtain ⟨aa,hM,cq⟩:(ApI xs e k O2 q2)/\((!q2)=true->¬Pt.lt (eh e).p (e_ xs k).p)/\(Z.length<=2*k+1):=hp
  show W Tryz.prog κ 180 _ _ ([(3,pt b2),(4,pt b3),(9,pt b4),(10,.slice a4 Z.length c4),(11,pt b5),(12,.bool q2),(14,pt b6),(67,va),(68,e7 ((xs.length:Nat):Int)),(69,e7<|(k:Int))]:Env) (e8 b4 [e7 nd,.slice a3 O2.length c3] 35::vk 82 a3 c3 O2::vk 54 a4 c4 Z::e8 b6 (kl (e_ xs k)) 82::e8 b5 (kl (eh e)) 82::e8 b3 [e7 0,.slice none 0 0] 35::e8 b2 (ez e) 54::e8 b1 [e7 nd,va] 35::I)
  refine Ar<|Bs mixed<|Cc (e8 b4 [e7 nd,.slice a3 O2.length c3] 35::vk 82 a3 c3 O2::vk 54 a4 c4 Z::e8 b6 (kl (e_ xs k)) 82::e8 b5 (kl (eh e)) 82::e8 b3 [e7 0,.slice none 0 0] 35::e8 b2 (ez e) 54::e8 b1 [e7 nd,va] 35::I) 6<|Dr 0 C (Bc (vs:=[_,_,_,_,_,_]) ty82) ?_
  refine Dr 2 C (Bc (vs:=[_,_,_,_,_,_]) ty82) ?_
  refine Ds1 1<|Sc0 C (Aj c_ C C<|Edge5_ok<|e_ xs k) ?_
  refine Ds1 3<|Sc0 C (Aj c_ C C<|Edge5_ok<|eh e) ?_
  refine Dr 4 C (Runs.eqlT (α:=Pt) (a:=(e_ xs k).p) (b:=(eh e).p) eqt105 C C)<|Dr 5 C (Bf C)<|Dz<|Ah<|Ap (S11 15 3 4 9 10 11 12 14 67 68 69)<|A5<|W.cut (σ:=Bool) (λs=>([(3,pt b2),(4,pt b3),(9,pt b4),(10,.slice a4 Z.length c4),(11,pt b5),(12,.bool q2),(14,pt b6),(15,.bool<|decide<|((e_ xs k).p)=((eh e).p)),(67,va),(68,e7 ((xs.length:Nat):Int)),(69,e7<|(k:Int)),(106,.bool s)]:Env)) (λs=>e8 b4 [e7 nd,.slice a3 O2.length c3] 35::vk 82 a3 c3 O2::vk 54 a4 c4 Z::e8 b6 (kl (e_ xs k)) 82::e8 b5 (kl (eh e)) 82::e8 b3 [e7 0,.slice none 0 0] 35::e8 b2 (ez e) 54::e8 b1 [e7 nd,va] 35::I) (λs=>(s=decide (e.kd=1/\(e_ xs k).p=(eh e).p))) ?_ ?_
  ·refine Ay (Gf fld54_0 C<|Gl ef ?_)
   refine Gr (Br C C)<|Gm C<|Bh (d:=110) C (λbp=>?_)<|λbp=>?_
   ·exact e9 (Ai C)<|Gr (Av C C)<|Ga C<|Bj<|Fa ((decide<|((e_ xs k).p)=((eh e).p))) (by first|exact decide_eq_decide.2 ⟨λh=>⟨by omega,h⟩,λh=>h.2⟩|exact (decide_eq_false<|λh=>by omega).symm) (hI:=by (try dsimp only);exact (Dn _))
   exact eb<|Gr (Au C C)<|Ga C<|Bj<|Fa ((false)) (by first|exact decide_eq_decide.2 ⟨λh=>⟨by omega,h⟩,λh=>h.2⟩|exact (decide_eq_false<|λh=>by omega).symm) (hI:=by (try dsimp only);exact (Dn _))
  rintro y hp
  have hy:(y=decide (e.kd=1/\(e_ xs k).p=(eh e).p)):=hp
  show W Tryz.prog κ 180 _ _ ([(3,pt b2),(4,pt b3),(9,pt b4),(10,.slice a4 Z.length c4),(11,pt b5),(12,.bool q2),(14,pt b6),(15,.bool<|decide<|((e_ xs k).p)=((eh e).p)),(67,va),(68,e7 ((xs.length:Nat):Int)),(69,e7<|(k:Int)),(106,.bool y)]:Env) (e8 b4 [e7 nd,.slice a3 O2.length c3] 35::vk 82 a3 c3 O2::vk 54 a4 c4 Z::e8 b6 (kl (e_ xs k)) 82::e8 b5 (kl (eh e)) 82::e8 b3 [e7 0,.slice none 0 0] 35::e8 b2 (ez e) 54::e8 b1 [e7 nd,va] 35::I)
  refine D1 C (λab=>?_)<|λab=>?_
  ·refine Ar (Ad<|Gl6 ty82 ?_)
   refine Gl6 ty82 ?_
   refine Gr (Runs.neqT (α:=Lk) (a:=(e_ xs k)) (b:=(eh e)) eqt82 C C)<|Ac<|Ap (S9 115 3 4 9 10 11 67 68 69)<|A7 C (λbb=>?_)<|λbb=>?_
   ·refine Ay (Gm C<|Gl6 ty82 ?_)
    refine Gf fld54_1 C<|Gl ef ?_
    refine Gc0 (Aj c_ C C<|Set5_ok (eh e) e.tm) ?_
    refine Ge1 (Ce (α:=Ev) (cs:=[e7 1,e7<|e.tm,e7<|(eh e).u,e7<|(eh e).v,e7<|(eh e).w,e7<|(eh e).lb,e7<|(eh e).sg]) (xs:=[⟨1,e.tm,(eh e).u,(eh e).v,(eh e).w,(eh e).lb,(eh e).sg⟩]) Al ty54 C C dc dc C kr C C) λcg=>?_
    refine Ge2 (B3 (α:=Ev) (e:=54) (xs:=Z) (ys:=([⟨1,e.tm,(eh e).u,(eh e).v,(eh e).w,(eh e).lb,(eh e).sg⟩]:List Ev)) Al ty54 C C C mm Bi (by have ai:=hA.len;first|(simp only [List.length_append,List.length_cons,List.length_nil];omega)|(have ah:=aa.len;simp only [List.length_append,List.length_cons,List.length_nil];omega)) dc C<|λ_ _=>am) λa7 bn=>?_
    refine Ga C<|Ac<|Ap (S8 10 3 4 9 11 67 68 69)<|Ay<|Gf fld35_1 C<|Gl ty33 ?_
    refine Gl6 ty82 ?_
    refine Ge1 (Ce (α:=Lk) (cs:=(kl (eh e))) (xs:=[⟨(eh e).u,(eh e).v,(eh e).w,(eh e).lb,(eh e).sg,(eh e).tm⟩]) A2 ty82 C C dc dc C kr C C) λci=>?_
    refine Ge2 (B3 (α:=Lk) (e:=82) (xs:=O2) (ys:=([⟨(eh e).u,(eh e).v,(eh e).w,(eh e).lb,(eh e).sg,(eh e).tm⟩]:List Lk)) A2 ty82 C C C mm Bi (by have ai:=hA.len;first|(simp only [List.length_append,List.length_cons,List.length_nil];omega)|(have ah:=aa.len;simp only [List.length_append,List.length_cons,List.length_nil];omega)) dc C<|λ_ _=>am) λbk ba=>?_
    refine Gf fld35_1 C<|Ge0 (Es2_1 ty33) ?_
    exact Ga C<|Bj<|Am<|Am<|Ah<|Ap (S9 12 10 3 4 9 11 67 68 69)<|Ay<|Gr (Rad C C)<|Gm C<|Bj<|Cb ((k+1),(bk),(ba),(a7),(bn),(O2++([⟨(eh e).u,(eh e).v,(eh e).w,(eh e).lb,(eh e).sg,(eh e).tm⟩]:List Lk)),(Z++([⟨1,e.tm,(eh e).u,(eh e).v,(eh e).w,(eh e).lb,(eh e).sg⟩]:List Ev)),(true))<|by dsimp only;exact ⟨om,(by first|exact aa.hit ae om (of_decide_eq_true<|hy.symm.trans ab).1 (of_decide_eq_true<|hy.symm.trans ab).2|exact aa.drop om (of_decide_eq_true<|hz.symm.trans ad).1 (of_decide_eq_true<|hz.symm.trans ad).2|exact aa.keep ae om hM (λh1 M=>of_decide_eq_false (hy.symm.trans ab) ⟨h1,M⟩) (λh1=>Classical.byContradiction λhh=>of_decide_eq_false (hz.symm.trans ad) ⟨h1,by simpa using hh⟩)),olp⟩
   refine Aw<|Ah<|Ay<|Gf fld35_1 C<|Gl ty33 ?_
   refine Gl6 ty82 ?_
   refine Ge1 (Ce (α:=Lk) (cs:=(kl (eh e))) (xs:=[⟨(eh e).u,(eh e).v,(eh e).w,(eh e).lb,(eh e).sg,(eh e).tm⟩]) A2 ty82 C C dc dc C kr C C) λck=>?_
   refine Ge2 (B3 (α:=Lk) (e:=82) (xs:=O2) (ys:=([⟨(eh e).u,(eh e).v,(eh e).w,(eh e).lb,(eh e).sg,(eh e).tm⟩]:List Lk)) A2 ty82 C C C mm Bi (by have ai:=hA.len;first|(simp only [List.length_append,List.length_cons,List.length_nil];omega)|(have ah:=aa.len;simp only [List.length_append,List.length_cons,List.length_nil];omega)) dc C<|λ_ _=>am) λa0 bi=>?_
   refine Gf fld35_1 C<|Ge0 (Es2_1 ty33) ?_
   exact Ga C<|Bj<|Am<|Am<|Ah<|Ap (S9 12 3 4 9 10 11 67 68 69)<|Ay<|Gr (Rad C C)<|Gm C<|Bj<|Cb ((k+1),(a0),(bi),(a4),(c4),(O2++([⟨(eh e).u,(eh e).v,(eh e).w,(eh e).lb,(eh e).sg,(eh e).tm⟩]:List Lk)),(Z),(true))<|by dsimp only;exact ⟨om,(by first|exact aa.hit ae om (of_decide_eq_true<|hy.symm.trans ab).1 (of_decide_eq_true<|hy.symm.trans ab).2|exact aa.drop om (of_decide_eq_true<|hz.symm.trans ad).1 (of_decide_eq_true<|hz.symm.trans ad).2|exact aa.keep ae om hM (λh1 M=>of_decide_eq_false (hy.symm.trans ab) ⟨h1,M⟩) (λh1=>Classical.byContradiction λhh=>of_decide_eq_false (hz.symm.trans ad) ⟨h1,by simpa using hh⟩)),olp⟩
  refine W.cut (σ:=Bool) (λs=>([(3,pt b2),(4,pt b3),(9,pt b4),(10,.slice a4 Z.length c4),(11,pt b5),(12,.bool q2),(14,pt b6),(67,va),(68,e7 ((xs.length:Nat):Int)),(69,e7<|(k:Int)),(129,.bool s)]:Env)) (λs=>e8 b4 [e7 nd,.slice a3 O2.length c3] 35::vk 82 a3 c3 O2::vk 54 a4 c4 Z::e8 b6 (kl (e_ xs k)) 82::e8 b5 (kl (eh e)) 82::e8 b3 [e7 0,.slice none 0 0] 35::e8 b2 (ez e) 54::e8 b1 [e7 nd,va] 35::I) (λs=>(s=decide (e.kd≠1/\hitE e (e_ xs k)=true))) ?_ ?_
  ·refine Ay (Gf fld54_0 C<|Gl ef ?_)
   refine Gr (Br C C)<|Gm C<|Bh (d:=133) C (λbq=>?_)<|λbq=>?_
   ·refine e9 (Ai C) (Gr (Av C C)<|Gm C<|Bh (d:=136) C (λa8=>?_)<|λa8=>?_)
    ·exact eb<|eb<|eb<|eb<|ee<|ee<|ee<|ee<|ee<|ee<|ee<|ee<|ee<|ee<|ee<|ee<|eb<|Gr (Av C C)<|Ga C<|Bj<|Fa ((true)) (by first|(exfalso;omega)|exact (decide_eq_true ⟨by omega,by first|(rw [hit_two om];exact decide_eq_true asm)|(rw [hit_oth om];exact decide_eq_true om)⟩).symm|exact (decide_eq_false<|λh=>by first|omega|(have M:=h.2;first|(rw [hit_two om] at M;exact absurd (of_decide_eq_true M) asm)|(rw [hit_oth om] at M;have h3:=of_decide_eq_true M;omega))).symm|exact decide_eq_decide.2 ⟨λh=>⟨by omega,by rw [hit_oth om];exact decide_eq_true<|.inr h⟩,λh=>by have M:=h.2;rw [hit_oth om] at M;have h3:=of_decide_eq_true M;omega⟩) (hI:=by (try dsimp only);exact (Dn _))
    refine e9 (Ab fld54_0 C)<|e9 (A0 ef) ?_
    refine e9 (Br C C)<|e9 (Ai C)<|Bh (d:=140) C (λaq=>?_)<|λaq=>?_
    ·refine e9 (Ab fld82_0 C) (e9 (A0 ef) ?_)
     refine e9 (Ab fld54_2 C)<|e9 (A0 ef) ?_
     refine e9 (Br C C)<|e9 (Ai C)<|Bh (d:=146) C (λap=>?_)<|λap=>?_
     ·exact eb<|eb<|eb<|eb<|eb<|e9 (Av C C)<|e9 (Av C C)<|Gr (Au C C)<|Ga C<|Bj<|Fa ((true)) (by first|(exfalso;omega)|exact (decide_eq_true ⟨by omega,by first|(rw [hit_two om];exact decide_eq_true asm)|(rw [hit_oth om];exact decide_eq_true om)⟩).symm|exact (decide_eq_false<|λh=>by first|omega|(have M:=h.2;first|(rw [hit_two om] at M;exact absurd (of_decide_eq_true M) asm)|(rw [hit_oth om] at M;have h3:=of_decide_eq_true M;omega))).symm|exact decide_eq_decide.2 ⟨λh=>⟨by omega,by rw [hit_oth om];exact decide_eq_true<|.inr h⟩,λh=>by have M:=h.2;rw [hit_oth om] at M;have h3:=of_decide_eq_true M;omega⟩) (hI:=by (try dsimp only);exact (Dn _))
     refine e9 (Ab fld82_1 C)<|e9 (A0 ef) ?_
     refine e9 (Ab fld54_2 C)<|e9 (A0 ef) ?_
     exact e9 (Br C C)<|e9 (Au C C)<|e9 (Av C C)<|Gr (Au C C)<|Ga C<|Bj<|Fa ((decide<|((e_ xs k).v)=e.u)) (by first|(exfalso;omega)|exact (decide_eq_true ⟨by omega,by first|(rw [hit_two om];exact decide_eq_true asm)|(rw [hit_oth om];exact decide_eq_true om)⟩).symm|exact (decide_eq_false<|λh=>by first|omega|(have M:=h.2;first|(rw [hit_two om] at M;exact absurd (of_decide_eq_true M) asm)|(rw [hit_oth om] at M;have h3:=of_decide_eq_true M;omega))).symm|exact decide_eq_decide.2 ⟨λh=>⟨by omega,by rw [hit_oth om];exact decide_eq_true<|.inr h⟩,λh=>by have M:=h.2;rw [hit_oth om] at M;have h3:=of_decide_eq_true M;omega⟩) (hI:=by (try dsimp only);exact (Dn _))
    exact eb<|eb<|eb<|eb<|eb<|eb<|ee<|ee<|ee<|ee<|ee<|eb<|e9 (Au C C)<|Gr (Au C C)<|Ga C<|Bj<|Fa ((false)) (by first|(exfalso;omega)|exact (decide_eq_true ⟨by omega,by first|(rw [hit_two om];exact decide_eq_true asm)|(rw [hit_oth om];exact decide_eq_true om)⟩).symm|exact (decide_eq_false<|λh=>by first|omega|(have M:=h.2;first|(rw [hit_two om] at M;exact absurd (of_decide_eq_true M) asm)|(rw [hit_oth om] at M;have h3:=of_decide_eq_true M;omega))).symm|exact decide_eq_decide.2 ⟨λh=>⟨by omega,by rw [hit_oth om];exact decide_eq_true<|.inr h⟩,λh=>by have M:=h.2;rw [hit_oth om] at M;have h3:=of_decide_eq_true M;omega⟩) (hI:=by (try dsimp only);exact (Dn _))
   refine eb<|Gr (Au C C)<|Gm C<|e9 (Ab fld54_0 C)<|e9 (A0 ef) ?_
   refine e9 (Br C C)<|e9 (Ai C)<|Bh (d:=140) C (λaq=>?_)<|λaq=>?_
   ·refine e9 (Ab fld82_0 C) (e9 (A0 ef) ?_)
    refine e9 (Ab fld54_2 C)<|e9 (A0 ef) ?_
    refine e9 (Br C C)<|e9 (Ai C)<|Bh (d:=146) C (λap=>?_)<|λap=>?_
    ·exact eb<|eb<|eb<|eb<|eb<|e9 (Av C C)<|e9 (Av C C)<|Gr (Au C C)<|Ga C<|Bj<|Fa ((true)) (by first|(exfalso;omega)|exact (decide_eq_true ⟨by omega,by first|(rw [hit_two om];exact decide_eq_true asm)|(rw [hit_oth om];exact decide_eq_true om)⟩).symm|exact (decide_eq_false<|λh=>by first|omega|(have M:=h.2;first|(rw [hit_two om] at M;exact absurd (of_decide_eq_true M) asm)|(rw [hit_oth om] at M;have h3:=of_decide_eq_true M;omega))).symm|exact decide_eq_decide.2 ⟨λh=>⟨by omega,by rw [hit_oth om];exact decide_eq_true<|.inr h⟩,λh=>by have M:=h.2;rw [hit_oth om] at M;have h3:=of_decide_eq_true M;omega⟩) (hI:=by (try dsimp only);exact (Dn _))
    refine e9 (Ab fld82_1 C)<|e9 (A0 ef) ?_
    refine e9 (Ab fld54_2 C)<|e9 (A0 ef) ?_
    exact e9 (Br C C)<|e9 (Au C C)<|e9 (Av C C)<|Gr (Au C C)<|Ga C<|Bj<|Fa ((decide<|((e_ xs k).v)=e.u)) (by first|(exfalso;omega)|exact (decide_eq_true ⟨by omega,by first|(rw [hit_two om];exact decide_eq_true asm)|(rw [hit_oth om];exact decide_eq_true om)⟩).symm|exact (decide_eq_false<|λh=>by first|omega|(have M:=h.2;first|(rw [hit_two om] at M;exact absurd (of_decide_eq_true M) asm)|(rw [hit_oth om] at M;have h3:=of_decide_eq_true M;omega))).symm|exact decide_eq_decide.2 ⟨λh=>⟨by omega,by rw [hit_oth om];exact decide_eq_true<|.inr h⟩,λh=>by have M:=h.2;rw [hit_oth om] at M;have h3:=of_decide_eq_true M;omega⟩) (hI:=by (try dsimp only);exact (Dn _))
   exact eb<|eb<|eb<|eb<|eb<|eb<|ee<|ee<|ee<|ee<|ee<|eb<|e9 (Au C C)<|Gr (Au C C)<|Ga C<|Bj<|Fa ((false)) (by first|(exfalso;omega)|exact (decide_eq_true ⟨by omega,by first|(rw [hit_two om];exact decide_eq_true asm)|(rw [hit_oth om];exact decide_eq_true om)⟩).symm|exact (decide_eq_false<|λh=>by first|omega|(have M:=h.2;first|(rw [hit_two om] at M;exact absurd (of_decide_eq_true M) asm)|(rw [hit_oth om] at M;have h3:=of_decide_eq_true M;omega))).symm|exact decide_eq_decide.2 ⟨λh=>⟨by omega,by rw [hit_oth om];exact decide_eq_true<|.inr h⟩,λh=>by have M:=h.2;rw [hit_oth om] at M;have h3:=of_decide_eq_true M;omega⟩) (hI:=by (try dsimp only);exact (Dn _))
  rintro z hp
  have hz:(z=decide (e.kd≠1/\hitE e (e_ xs k)=true)):=hp
  show W Tryz.prog κ 180 _ _ ([(3,pt b2),(4,pt b3),(9,pt b4),(10,.slice a4 Z.length c4),(11,pt b5),(12,.bool q2),(14,pt b6),(67,va),(68,e7 ((xs.length:Nat):Int)),(69,e7<|(k:Int)),(129,.bool z)]:Env) (e8 b4 [e7 nd,.slice a3 O2.length c3] 35::vk 82 a3 c3 O2::vk 54 a4 c4 Z::e8 b6 (kl (e_ xs k)) 82::e8 b5 (kl (eh e)) 82::e8 b3 [e7 0,.slice none 0 0] 35::e8 b2 (ez e) 54::e8 b1 [e7 nd,va] 35::I)
  refine D1 C (λad=>?_)<|λad=>?_
  ·refine Ay (Gm C<|Gl6 ty82 ?_)
   refine Gf fld54_1 C<|Gl ef ?_
   refine Gc0 (Aj c_ C C<|Cut5_ok (e_ xs k) e.tm) ?_
   refine Ge1 (Ce (α:=Ev) (cs:=[e7 2,e7<|e.tm,e7<|(e_ xs k).u,e7<|(e_ xs k).v,e7 0,e7 0,e7 0]) (xs:=[⟨2,e.tm,(e_ xs k).u,(e_ xs k).v,0,0,0⟩]) Al ty54 C C dc dc C kr C C) λcf=>?_
   refine Ge2 (B3 (α:=Ev) (e:=54) (xs:=Z) (ys:=([⟨2,e.tm,(e_ xs k).u,(e_ xs k).v,0,0,0⟩]:List Ev)) Al ty54 C C C mm Bi (by have ai:=hA.len;first|(simp only [List.length_append,List.length_cons,List.length_nil];omega)|(have ah:=aa.len;simp only [List.length_append,List.length_cons,List.length_nil];omega)) dc C<|λ_ _=>am) λbg be=>?_
   exact Ga C<|Bj<|Am<|Am<|Ah<|Ap (S9 10 3 4 9 11 12 67 68 69)<|Ay<|Gr (Rad C C)<|Gm C<|Bj<|Cb ((k+1),(a3),(c3),(bg),(be),(O2),(Z++([⟨2,e.tm,(e_ xs k).u,(e_ xs k).v,0,0,0⟩]:List Ev)),(q2))<|by dsimp only;exact ⟨om,(by first|exact aa.hit ae om (of_decide_eq_true<|hy.symm.trans ab).1 (of_decide_eq_true<|hy.symm.trans ab).2|exact aa.drop om (of_decide_eq_true<|hz.symm.trans ad).1 (of_decide_eq_true<|hz.symm.trans ad).2|exact aa.keep ae om hM (λh1 M=>of_decide_eq_false (hy.symm.trans ab) ⟨h1,M⟩) (λh1=>Classical.byContradiction λhh=>of_decide_eq_false (hz.symm.trans ad) ⟨h1,by simpa using hh⟩)),olp⟩
  refine Ay<|Gf fld35_1 C<|Gl ty33 ?_
  refine Gl6 ty82 ?_
  refine Ge1 (Ce (α:=Lk) (cs:=(kl (e_ xs k))) (xs:=[⟨(e_ xs k).u,(e_ xs k).v,(e_ xs k).w,(e_ xs k).lb,(e_ xs k).sg,(e_ xs k).tm⟩]) A2 ty82 C C dc dc C kr C C) λcm=>?_
  refine Ge2 (B3 (α:=Lk) (e:=82) (xs:=O2) (ys:=([⟨(e_ xs k).u,(e_ xs k).v,(e_ xs k).w,(e_ xs k).lb,(e_ xs k).sg,(e_ xs k).tm⟩]:List Lk)) A2 ty82 C C C mm Bi (by have ai:=hA.len;first|(simp only [List.length_append,List.length_cons,List.length_nil];omega)|(have ah:=aa.len;simp only [List.length_append,List.length_cons,List.length_nil];omega)) dc C<|λ_ _=>am) λay bf=>?_
  refine Gf fld35_1 C<|Ge0 (Es2_1 ty33) ?_
  exact Bj<|Am<|Am<|Ah<|Ap (S9 3 4 9 10 11 12 67 68 69)<|Ay<|Gr (Rad C C)<|Gm C<|Bj<|Cb ((k+1),(ay),(bf),(a4),(c4),(O2++([⟨(e_ xs k).u,(e_ xs k).v,(e_ xs k).w,(e_ xs k).lb,(e_ xs k).sg,(e_ xs k).tm⟩]:List Lk)),(Z),(q2))<|by dsimp only;exact ⟨om,(by first|exact aa.hit ae om (of_decide_eq_true<|hy.symm.trans ab).1 (of_decide_eq_true<|hy.symm.trans ab).2|exact aa.drop om (of_decide_eq_true<|hz.symm.trans ad).1 (of_decide_eq_true<|hz.symm.trans ad).2|exact aa.keep ae om hM (λh1 M=>of_decide_eq_false (hy.symm.trans ab) ⟨h1,M⟩) (λh1=>Classical.byContradiction λhh=>of_decide_eq_false (hz.symm.trans ad) ⟨h1,by simpa using hh⟩)),olp⟩
 refine Bt<|Aq<|Aq<|Bb<|Ah<|Ar<|Ad<|Gm C<|Gr (Cn C)<|Ac<|D1 C (λaz=>?_)<|λaz=>?_
 ·refine Bs mixed (Cc (e8 b5 (kl (eh e)) 82::e8 b3 [e7 0,.slice none 0 0] 35::e8 b2 (ez e) 54::e8 b1 [e7 nd,va] 35::I) 15<|Dr 0 C (Ab fld35_1 C)<|Dr 2 C (Bc (vs:=[_,_,_,_,_,_]) ty82) ?_)
  refine Dr 5 C (Ai C)<|Dr 6 C (Bc (vs:=[_,_,_,_,_,_]) ty82) ?_
  refine Dr 7 C (Ab fld54_1 C)<|Dr 8 C (A0 ef) ?_
  refine Do (rs:=[1,3]) kr C C<|Eu ?_<|D6 ?_
  ·refine Sr C (A0 ty33) Bg ?_
   refine Ds1 3<|Se1 C (Ce (α:=Lk) (cs:=(kl (eh e))) (xs:=[⟨(eh e).u,(eh e).v,(eh e).w,(eh e).lb,(eh e).sg,(eh e).tm⟩]) A2 ty82 C C dc dc C kr C C) λce=>?_
   refine Ds1 4<|Se2 C (B3 (α:=Lk) (e:=82) (xs:=O) (ys:=([⟨(eh e).u,(eh e).v,(eh e).w,(eh e).lb,(eh e).sg,(eh e).tm⟩]:List Lk)) A2 ty82 C C C mm Bi (by have ai:=hA.len;first|(simp only [List.length_append,List.length_cons,List.length_nil];omega)|(have ah:=aa.len;simp only [List.length_append,List.length_cons,List.length_nil];omega)) dc C<|λ_ _=>am) λar av=>?_
   refine Dr 12 C (Ab fld35_1 C)<|Ds1 9<|Sc0 C (Aj c_ C C<|Set5_ok (eh e) e.tm) ?_
   refine Ds1 10<|Se1 C (Ce (α:=Ev) (cs:=[e7 1,e7<|e.tm,e7<|(eh e).u,e7<|(eh e).v,e7<|(eh e).w,e7<|(eh e).lb,e7<|(eh e).sg]) (xs:=[⟨1,e.tm,(eh e).u,(eh e).v,(eh e).w,(eh e).lb,(eh e).sg⟩]) Al ty54 C C dc dc C kr C C) λca=>?_
   refine Ds1 11<|Se2 C (B3 (α:=Ev) (e:=54) (xs:=ak) (ys:=([⟨1,e.tm,(eh e).u,(eh e).v,(eh e).w,(eh e).lb,(eh e).sg⟩]:List Ev)) Al ty54 C C C mm Bi (by have ai:=hA.len;first|(simp only [List.length_append,List.length_cons,List.length_nil];omega)|(have ah:=aa.len;simp only [List.length_append,List.length_cons,List.length_nil];omega)) dc C<|λ_ _=>am) λa9 a5=>?_
   refine Ds1 13<|Se0 C (Es2_1 ty33) ?_
   refine Dr 14 C (Bf C)<|Dz<|Ah<|Ap (S3 10 4 9)<|Ad<|Gl2 ty35 ?_
   refine Gm C<|Ge0 (Cz ty35) ?_
   refine Ga C<|Ga C<|Ac<|Az ?_
   have hE:O++([⟨(eh e).u,(eh e).v,(eh e).w,(eh e).lb,(eh e).sg,(eh e).tm⟩]:List Lk)=(ep xs e):=by first|exact hA.fin om asm|exact hA.finIns om asm
   exact Cy C ty35 C C C mm C (vk 82 ar av (ep xs e)::I) (by unfold vk;rw [←hE];exact Bg) ⟨⟨ar,av,a9,(ak++([⟨1,e.tm,(eh e).u,(eh e).v,(eh e).w,(eh e).lb,(eh e).sg⟩]:List Ev)).length,a5⟩,⟨by rw [←hE]<;>rfl,by first|(show _<=2*xs.length+1;omega)|(show _<=2*xs.length+1;simp only [List.length_append,List.length_cons,List.length_nil];omega)⟩,rfl⟩
  refine Se1 C (Ce (α:=Lk) (cs:=(kl (eh e))) (xs:=[⟨(eh e).u,(eh e).v,(eh e).w,(eh e).lb,(eh e).sg,(eh e).tm⟩]) A2 ty82 C C dc dc C kr C C) λcb=>?_
  refine Ds1 1<|Sr C (A0 ty33) Bg ?_
  refine Ds1 4<|Se2 C (B3 (α:=Lk) (e:=82) (xs:=O) (ys:=([⟨(eh e).u,(eh e).v,(eh e).w,(eh e).lb,(eh e).sg,(eh e).tm⟩]:List Lk)) A2 ty82 C C C mm Bi (by have ai:=hA.len;first|(simp only [List.length_append,List.length_cons,List.length_nil];omega)|(have ah:=aa.len;simp only [List.length_append,List.length_cons,List.length_nil];omega)) dc C<|λ_ _=>am) λaw au=>?_
  refine Dr 12 C (Ab fld35_1 C)<|Ds1 9<|Sc0 C (Aj c_ C C<|Set5_ok (eh e) e.tm) ?_
  refine Ds1 10<|Se1 C (Ce (α:=Ev) (cs:=[e7 1,e7<|e.tm,e7<|(eh e).u,e7<|(eh e).v,e7<|(eh e).w,e7<|(eh e).lb,e7<|(eh e).sg]) (xs:=[⟨1,e.tm,(eh e).u,(eh e).v,(eh e).w,(eh e).lb,(eh e).sg⟩]) Al ty54 C C dc dc C kr C C) λb9=>?_
  refine Ds1 11<|Se2 C (B3 (α:=Ev) (e:=54) (xs:=ak) (ys:=([⟨1,e.tm,(eh e).u,(eh e).v,(eh e).w,(eh e).lb,(eh e).sg⟩]:List Ev)) Al ty54 C C C mm Bi (by have ai:=hA.len;first|(simp only [List.length_append,List.length_cons,List.length_nil];omega)|(have ah:=aa.len;simp only [List.length_append,List.length_cons,List.length_nil];omega)) dc C<|λ_ _=>am) λbt bo=>?_
  refine Ds1 13<|Se0 C (Es2_1 ty33) ?_
  refine Dr 14 C (Bf C)<|Dz<|Ah<|Ap (S3 10 4 9)<|Ad<|Gl2 ty35 ?_
  refine Gm C<|Ge0 (Cz ty35) ?_
  refine Ga C<|Ga C<|Ac<|Az ?_
  have hE:O++([⟨(eh e).u,(eh e).v,(eh e).w,(eh e).lb,(eh e).sg,(eh e).tm⟩]:List Lk)=(ep xs e):=by first|exact hA.fin om asm|exact hA.finIns om asm
  exact Cy C ty35 C C C mm C (vk 82 aw au (ep xs e)::I) (by unfold vk;rw [←hE];exact Bg) ⟨⟨aw,au,bt,(ak++([⟨1,e.tm,(eh e).u,(eh e).v,(eh e).w,(eh e).lb,(eh e).sg⟩]:List Ev)).length,bo⟩,⟨by rw [←hE]<;>rfl,by first|(show _<=2*xs.length+1;omega)|(show _<=2*xs.length+1;simp only [List.length_append,List.length_cons,List.length_nil];omega)⟩,rfl⟩
 refine Aw<|Ah<|Ad<|Gl2 ty35 ?_
 refine Gm C<|Ge0 (Cz ty35) ?_
 refine Ga C<|Ga C<|Ac<|Ap (S3 6 5 4)<|Az ?_
 have hE:O=(ep xs e):=by first|exact hA.fin om asm|exact hA.finIns om asm
 exact Cy C ty35 C C C mm C (vk 82 a1 c1 (ep xs e)::I) (by unfold vk;rw [←hE];exact Bg) ⟨⟨a1,c1,a2,ak.length,c2⟩,⟨by rw [←hE]<;>rfl,by first|(show _<=2*xs.length+1;omega)|(show _<=2*xs.length+1;simp only [List.length_append,List.length_cons,List.length_nil];omega)⟩,rfl⟩
theorem All5_base{a0:Option Addr}{c0:Nat}{es:List Ev}(hl:Sl κ I va es)(M:checkS nd xs=0)(aa:∀j:Nat,j<es.length->FitOk nd (e_ es j))(aq:xs.length+es.length<=1000000):eu Tryz.prog κ 29 [.agg #[e7 nd,.slice a0 xs.length c0],va] (vk 82 a0 c0 xs::I) (λr J=>∃y:Option Addr×Nat×Int,(r = .tuple #[.agg #[e7 nd,.slice y.1 (List.foldl ep xs es).length y.2.1],e7 y.2.2,e7 0])/\J=vk 82 y.1 y.2.1 (List.foldl ep xs es)::I):=by
 refine Ce2 Tryz.func29 C C ?_
 refine Ad<|Ge1 (Bd (cs:=[_,_]) C C C) λb1=>Ge1 (A4 ty35 C) λb2=>Ga C<|Ga C<|Ac<|Ar<|Ad<|Gl2 ty35 ?_
 refine Gc0 (Aj c_ C C<|CheckS5_ok (nd:=nd) Bi) ?_
 refine Ga C<|Ac<|Ad<|Gm C<|Gr (Be C C)<|Ac<|A7 C (λaj=>?_)<|λaj=>?_
 ·exact absurd M aj
 refine Aw<|Ah<|Ad<|Ga C<|Ac<|Ar<|Ad<|Gm C<|Gr (Bw (α:=Ev) (xs:=es) Al C<|A8 hl)<|Gm C<|Ac<|Ap (S6 22 21 20 8 4 2)<|A5<|B1 (σ:=Nat×(Option Addr)×Nat×Int) (λs=>([(2,pt b1),(4,pt b2),(8,e7<|s.2.2.2),(20,va),(21,e7 ((es.length:Nat):Int)),(22,e7 ((s.1:Nat):Int))]:Env)) (λs=>e8 b1 [e7 nd,.slice s.2.1 (List.foldl ep xs<|List.take s.1 es).length s.2.2.1] 35::vk 82 s.2.1 s.2.2.1 (List.foldl ep xs<|List.take s.1 es)::e8 b2 [e7 0,.slice none 0 0] 35::I) (λs=>(s.1<=es.length)/\(checkS nd (List.foldl ep xs<|List.take s.1 es)=0)/\(0<=s.2.2.2/\s.2.2.2<=s.1*2000001)) (λs=>es.length - s.1) (0,a0,c0,0) (show ((0:Nat)<=es.length)/\(checkS nd (List.foldl ep xs<|List.take (0:Nat) es)=0)/\(0<=(0:Int)/\(0:Int)<=(0:Nat)*2000001) from ⟨om,M,om⟩) (cx2<|Aa Cd<|cx2<|Aa Cd Bp) (show Fit κ _ (e8 b1 [e7 nd,.slice a0 (List.foldl ep xs<|List.take 0 es).length c0] 35::vk 82 a0 c0 (List.foldl ep xs<|List.take 0 es)::e8 b2 [e7 0,.slice none 0 0] 35::I) from Bl) ?_
 rintro ⟨k,a1,c1,n⟩ hp
 dsimp only at hp ⊢
 obtain ⟨hk,hv,hn⟩:=hp
 have ae:=steps_len (List.take k es) xs
 rw [List.length_take] at ae
 refine Ad<|Gr (A9 C C)<|Ac<|Ar<|A7 C (λap=>?_)<|λap=>?_
 ·refine Aw (Ah<|Ar<|A5<|Ad<|Gm C<|Gr (A3 (α:=Ev) (xs:=es) Al ty54 C C (A8 hl) om om)<|Gr (Bv (α:=Ev) (xs:=es) ty54 C (A8 hl) om om)<|Ge1 (A4 ty54 C) λb3=>Ga C<|Ge0 (E8 ty54) ?_)
  refine Ac<|Ad<|Gl2 ty35 ?_
  refine Gl7 ty54 ?_
  refine G.e (Aj c_ C C<|Apply5_ok (nd:=nd) (e:=(e_ es k)) Bi hv (aa k om)<|by have ae:=steps_len (List.take k es) xs;rw [List.length_take] at ae;omega) ?_
  rintro _ _ ⟨_,_,⟨⟨ab,ah,an,ad,ao⟩,⟨rfl,Z⟩,rfl⟩,rfl,rfl⟩
  show G Tryz.prog κ _ _ _ _ ([(30,.tuple #[.agg #[e7 nd,.slice ab (ep (List.foldl ep xs<|List.take k es)<|e_ es k).length ah],.slice an ad ao,e7 0]),(29,.agg (ez (e_ es k)).toArray),(28,.agg #[e7 nd,.slice a1 (List.foldl ep xs<|List.take k es).length c1]),(9,e7<|(k:Int)),(10,pt b3),(26,.agg (ez (e_ es k)).toArray),(25,elemPtr va<|((k:Int)).toNat*Enc.sz Ev),(24,e7<|(k:Int)),(23,.bool<|decide<|(k:Int)<((es.length:Nat):Int)),(2,pt b1),(4,pt b2),(8,e7 n),(20,va),(21,e7 ((es.length:Nat):Int)),(22,e7<|(k:Int))]:Env) (vk 82 ab ah (ep (List.foldl ep xs<|List.take k es)<|e_ es k)::e8 b3 (ez (e_ es k)) 54::e8 b1 [e7 nd,.slice a1 (List.foldl ep xs<|List.take k es).length c1] 35::vk 82 a1 c1 (List.foldl ep xs<|List.take k es)::e8 b2 [e7 0,.slice none 0 0] 35::I)
  have Z:ad<=2*(List.foldl ep xs<|List.take k es).length+1:=Z
  refine Gm C<|Gr (Ak C C)<|Gr (Ak C C)<|Gr (Ak C C)<|Ge1 (A4 ty35 C) λb9=>Ge0 (Cz ty35) ?_
  refine Ga C<|Ga C<|Ac<|Ap (S10 13 12 11 9 2 4 8 20 21 22)<|Ar<|Ad<|Gm C<|Gr (Be C C)<|Ac<|A7 C (λak=>?_)<|λak=>?_
  ·exact absurd rfl ak
  refine Aw<|Ah<|Ay<|Gl2 ty35 ?_
  refine Gm C<|Gm C<|Gr (Bk Al C)<|Gr (Rad C C)<|Ge0 (Cz ty35) ?_
  exact Ga C<|Bj<|Am<|Ah<|Ap (S6 8 2 4 20 21 22)<|Ay<|Gr (Rad C C)<|Gm C<|Bj<|Cb ((k+1),(ab),(ah),(n+(ad:Int))) (by dsimp only;exact ⟨om,(by rw [steps_succ om];exact stepL_val hv<|aa k om),om⟩) (hI:=by (try dsimp only);exact (by rw [steps_succ om];exact Bl))
 refine Bt<|Aq<|Aq<|Bb<|Ah<|Ad<|Gl2 ty35 ?_
 refine Gm C<|Ge0 (Cz ty35) ?_
 refine Ga C<|Ga C<|Ac<|Az ?_
 have ai:List.take k es=es:=List.take_of_length_le om
 exact Cy C ty35 C C C mm C (vk 82 a1 c1 (List.foldl ep xs es)::I) (by unfold vk;rw [ai];exact Bg) ⟨⟨a1,c1,n⟩,by rw [ai],rfl⟩
theorem qnot_t{p:Prop}[Decidable p](h:(!q)=true)(M:q=decide p):¬p:=λZ=>by rw [M,decide_eq_true Z] at h;cases h
theorem qnot_f{p:Prop}[Decidable p](h:(!q)=false)(M:q=decide p):p:=Classical.byContradiction λZ=>by rw [M,decide_eq_false Z] at h;cases h
theorem Until7_ok{kd wd mo:Int}(hl:Sl κ I va xs):eu Tryz.prog κ 71 [.agg #[e7 nd,va],.agg #[e7 kd,e7 wd,e7 mo]] I (λr J=>∃z:Int,r = .tuple #[e7 z,.bool (decide (untilC nd xs kd wd mo)),e7 (uErr nd xs kd wd mo)]/\UntilP nd xs kd wd mo z/\I=J):=by
 refine B5 hl.le λan=>?_
 refine Ce2 Tryz.func71 C C ?_
 refine Ad<|Ge1 (Bd (cs:=[_,_]) C C C) λb1=>Ge1 (Bd (cs:=[_,_,_]) C C C) λb2=>Ga C<|Ga C<|Ga C<|Ac<|Ar<|Ad<|Gl3 ty29 ?_
 refine Gc0 (Aj c_ C C<|CheckW7_ok kd wd mo) ?_
 refine Ga C<|Ac<|Ad<|Gm C<|Gr (Be C C)<|Ac<|A7 C (λad=>?_)<|λad=>?_
 ·refine Ad (Gm C<|Ga C<|Ga C<|Ga C<|Ac<|Ap (S3 6 5 4)<|Az<|Ao ?_)
  have hu:uErr nd xs kd wd mo=checkW kd wd mo:=by unfold uErr;rw [if_pos ad]
  have hn:¬untilC nd xs kd wd mo:=λh=>ad (hu▸h.1)
  exact V.ret3 C C C C I Ax ⟨0,by rw [decide_eq_false hn,hu],.none hn,rfl⟩
 refine Aw<|Ah<|Ar<|Ad<|Gl2 ty35 ?_
 refine Gc0 (Aj c_ C C<|CheckS5_ok (nd:=nd)<|A8 hl) ?_
 refine Ga C<|Ac<|Ap (S3 8 3 2)<|Ad<|Gm C<|Gr (Be C C)<|Ac<|A7 C (λah=>?_)<|λah=>?_
 ·refine Ad (Gm C<|Ga C<|Ga C<|Ga C<|Ac<|Az<|Ao ?_)
  have hu:uErr nd xs kd wd mo=checkS nd xs:=by unfold uErr;rw [if_neg ad]
  have hn:¬untilC nd xs kd wd mo:=λh=>ah (hu▸h.1)
  exact V.ret3 C C C C I Ax ⟨0,by rw [decide_eq_false hn,hu],.none hn,rfl⟩
 refine Aw<|Ah<|Ad<|Ga C<|Ga C<|Ac<|Ar<|Ad<|Gf fld35_1 C<|Gl ty33 ?_
 refine Gr (Bw (α:=Lk) (xs:=xs) A2 C<|A8 hl)<|Gm C<|Ac<|A5<|B1 (σ:=Nat×Int×Bool) (λs=>([(3,pt b2),(9,e7<|s.2.1),(10,.bool<|s.2.2),(25,va),(26,e7 ((xs.length:Nat):Int)),(27,e7 ((s.1:Nat):Int))]:Env)) (λs=>e8 b2 [e7 kd,e7 wd,e7 mo] 29::e8 b1 [e7 nd,va] 35::I) (λs=>(s.1<=xs.length)/\(s.2.2=decide (kd=2/\0<s.1))/\(¬(kd=2/\0<s.1)->s.2.1=0)/\(kd=2/\0<s.1->∃x∈xs,s.2.1=x.tm+wd)/\(kd=2->∀j,j<s.1->s.2.1<=(e_ xs j).tm+wd)) (λs=>xs.length - s.1) (0,0,false) (show ((0:Nat)<=xs.length)/\((false:Bool)=decide (kd=2/\0<(0:Nat)))/\(¬(kd=2/\0<(0:Nat))->(0:Int)=0)/\(kd=2/\0<(0:Nat)->∃x∈xs,(0:Int)=x.tm+wd)/\(kd=2->∀j,j<(0:Nat)->(0:Int)<=(e_ xs j).tm+wd) from ⟨om,(decide_eq_false<|λh=>absurd h.2 om).symm,(λ_=>rfl),(λh=>absurd h.2 om),(λ_ j hj=>absurd hj om)⟩) (Aa C<|Aa Cd<|Aa (C8 C<|by first|rfl|simp)<|cx2<|Aa Cd Bp) (show Fit κ _ (e8 b2 [e7 kd,e7 wd,e7 mo] 29::e8 b1 [e7 nd,va] 35::I) from Bg) ?_
 rintro ⟨k,z,q⟩ hp
 dsimp only at hp ⊢
 obtain ⟨hk,hq,ae,aa,ab⟩:=hp
 refine Ad<|Gr (A9 C C)<|Ac<|Ar<|A7 C (λaj=>?_)<|λaj=>?_
 ·refine Aw (Ah<|Ar<|A5<|Ad<|Gr (A3 (α:=Lk) (xs:=xs) A2 ty82 C C (A8 hl) om om)<|Gr (Bv (α:=Lk) (xs:=xs) ty82 C (A8 hl) om om)<|Ge1 (A4 ty82 C) λb3=>Ge0 (Es6_6 ty82) ?_)
  have ao:=checkS_tm (Classical.not_not.1 ah) (k:Int) om om
  have ap:=checkW_wd (Classical.not_not.1 ad)
  refine Ac<|Ad<|Gf fld82_5 C<|Gl ef ?_
  refine Gf fld29_1 C<|Gl ef ?_
  refine Gr (Rad C C)<|Ga C<|Ac<|Ap (S7 13 3 9 10 25 26 27)<|Ad<|Gf fld29_0 C<|Gl ef ?_
  refine Gr (Br C C)<|Gm C<|Bh (d:=39) C (λai=>?_)<|λai=>?_
  ·refine e9 (Ai C) (e9 (Cn C)<|e9 (Ai C)<|G.splitb (d:=42) C (λZ=>?_)<|λZ=>?_)
   ·exact eb<|eb<|eb<|e9 (Av C C)<|Gr (Av C C)<|Ac<|Ap (S8 47 13 3 9 10 25 26 27)<|Cu C<|Ay<|Gm C<|Ga C<|Ga C<|Bj<|Am<|Ah<|Ay<|Gr (Rad C C)<|Gm C<|Bj<|Cb ((k+1),(((e_ xs k).tm)+wd),(true))<|by dsimp only;exact ⟨om,(by first|exact (decide_eq_true om).symm|(rw [hq,decide_eq_decide];omega)|(rw [hq,decide_eq_decide];have hP:=qnot_f Z hq;omega)),(λh=>by first|omega|exact ae om),(λh=>by first|exact ⟨_,B7 (i:=(k:Int)) om om,rfl⟩|exact aa om|(have hP:=qnot_f Z hq;exact aa hP)),(λM=>by first|omega|exact Eh (λj hj=>by first|(have hP:=qnot_t Z hq;omega)|(have h5:=ab M j hj;omega)) (Int.le_refl _)|exact Eh (ab M) om)⟩
   refine e9 (Ai C)<|e9 (Ai C)<|e9 (A9 C C)<|e9 (Au C C)<|Gr (Av C C)<|Ac<|Ap (S8 47 13 3 9 10 25 26 27)<|A7 C (λak=>?_)<|λak=>?_
   ·exact Ay<|Gm C<|Ga C<|Ga C<|Bj<|Am<|Ah<|Ay<|Gr (Rad C C)<|Gm C<|Bj<|Cb ((k+1),(((e_ xs k).tm)+wd),(true))<|by dsimp only;exact ⟨om,(by first|exact (decide_eq_true om).symm|(rw [hq,decide_eq_decide];omega)|(rw [hq,decide_eq_decide];have hP:=qnot_f Z hq;omega)),(λh=>by first|omega|exact ae om),(λh=>by first|exact ⟨_,B7 (i:=(k:Int)) om om,rfl⟩|exact aa om|(have hP:=qnot_f Z hq;exact aa hP)),(λM=>by first|omega|exact Eh (λj hj=>by first|(have hP:=qnot_t Z hq;omega)|(have h5:=ab M j hj;omega)) (Int.le_refl _)|exact Eh (ab M) om)⟩
   exact Aw<|Am<|Ah<|Ay<|Gr (Rad C C)<|Gm C<|Bj<|Cb ((k+1),(z),(q))<|by dsimp only;exact ⟨om,(by first|exact (decide_eq_true om).symm|(rw [hq,decide_eq_decide];omega)|(rw [hq,decide_eq_decide];have hP:=qnot_f Z hq;omega)),(λh=>by first|omega|exact ae om),(λh=>by first|exact ⟨_,B7 (i:=(k:Int)) om om,rfl⟩|exact aa om|(have hP:=qnot_f Z hq;exact aa hP)),(λM=>by first|omega|exact Eh (λj hj=>by first|(have hP:=qnot_t Z hq;omega)|(have h5:=ab M j hj;omega)) (Int.le_refl _)|exact Eh (ab M) om)⟩
  exact eb<|eb<|eb<|ee<|ee<|ee<|eb<|Gr (Au C C)<|Ac<|Ap (S8 47 13 3 9 10 25 26 27)<|Dg C<|Aw<|Am<|Ah<|Ay<|Gr (Rad C C)<|Gm C<|Bj<|Cb ((k+1),(z),(q))<|by dsimp only;exact ⟨om,(by first|exact (decide_eq_true om).symm|(rw [hq,decide_eq_decide];omega)|(rw [hq,decide_eq_decide];have hP:=qnot_f Z hq;omega)),(λh=>by first|omega|exact ae om),(λh=>by first|exact ⟨_,B7 (i:=(k:Int)) om om,rfl⟩|exact aa om|(have hP:=qnot_f Z hq;exact aa hP)),(λM=>by first|omega|exact Eh (λj hj=>by first|(have hP:=qnot_t Z hq;omega)|(have h5:=ab M j hj;omega)) (Int.le_refl _)|exact Eh (ab M) om)⟩
 refine Bt<|Aq<|Aq<|Bb<|Ah<|Ad<|Gm C<|Gm C<|Ga C<|Ga C<|Ga C<|Ac<|Az ?_
 have hu:uErr nd xs kd wd mo=0:=uErr_zero ad ah
 have hc:untilC nd xs kd wd mo↔(kd=2/\0<k):=⟨λh=>⟨h.2.1,by have:=List.length_pos_iff.2 h.2.2;omega⟩,λh=>⟨hu,h.1,List.length_pos_iff.1 om⟩⟩
 exact V.ret3 C C C C I Ax ⟨z,by rw [hq,show decide (untilC nd xs kd wd mo)=decide (kd=2/\0<k) from decide_eq_decide.2 hc,hu],⟨λh=>⟨aa<|hc.1 h,λy hy=>by obtain ⟨j,hj,rfl⟩:=mem_at hy;exact ab (hc.1 h).1 j om⟩,λh=>ae<|λh2=>h<|hc.2 h2⟩,rfl⟩
end Go.Sl
