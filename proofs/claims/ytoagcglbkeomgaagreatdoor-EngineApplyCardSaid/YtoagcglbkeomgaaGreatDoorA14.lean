/- A part of the proofs of statements of this seat: contracts of functions, and the plain laws that they lean on. No conditions. -/
import Derived.Test.YtoagcglbkeomgaaGreatDoorA13
import Derived.OrdersIn
set_option linter.unusedVariables false
set_option linter.unusedSimpArgs false
set_option linter.unusedSectionVars false
namespace Go.Sl
open Go.Proofs
set_option maxRecDepth 4000
set_option maxHeartbeats 4000000 in
theorem cc4{κ:Ctx}{I:List Item}{nd:Int}{e:Ev}{va:Value}{xs:List Lk}(hl:Sl κ I va xs)(au:p9 nd xs=0)(ao:H4 nd e)(cr:xs.length<=1000000):eu Tryz.prog κ 73 [.agg #[e7 nd,va],.agg (ez e).toArray] I (λr J=>∃y:Option Addr×Nat×Option Addr×Nat×Nat,(r = .tuple #[.agg #[e7 nd,.slice y.1 (ep xs e).length y.2.1],.slice y.2.2.1 y.2.2.2.1 y.2.2.2.2,e7 0]/\y.2.2.2.1<=2*xs.length+1)/\J=vk 82 y.1 y.2.1 (ep xs e)::I):=by
 refine Bx hl.le λcn=>?_
 refine Ce2 Tryz.func73 C C ?_
 refine Al<|Ge1 (Av (cs:=[_,_]) C C C) λb1=>Ge1 (Av (cs:=[_,_,_,_,_,_,_]) C C C) λb2=>Ge1 (Aj Q2 C) λb3=>Ga C<|Ga C<|Ar<|Ax<|Al<|Gl2 Q2 ?_
 refine Gc0 (Ab c_ C C<|Z4 (nd:=nd)<|A3 hl) ?_
 refine Ga C<|Ar<|Al<|Gm C<|Gr (Cb C C)<|Ar<|Ao C (λbc=>?_)<|λbc=>?_
 ·exact absurd au bc
 refine Bc<|Ak<|Ax<|Al<|Gl7 z6 ?_
 refine Gc0 (Ab c_ C C<|Z5 e) ?_
 refine Ga C<|Ar<|A0 (S4 8 4 3 2)<|Al<|Gm C<|Gr (Cb C C)<|Ar<|Ao C (λa8=>?_)<|λa8=>?_
 ·exact absurd ao.chk a8
 refine Bc<|Ak<|Ax<|Al<|Gf L7 C<|Gl ef ?_
 refine Gf bf2 C<|Gl ef ?_
 refine Gr (j8.geq C C)<|Gm C<|A4 (d:=33) C (λb8=>?_)<|λb8=>?_
 ·exact absurd ao.fits om
 refine e9 (Af H7 C)<|e9 (Be ef) ?_
 refine e9 (Af bf2 C)<|e9 (Be ef) ?_
 refine e9 (j8.geq C C)<|Gr (Bk C C)<|Ar<|A0 (S4 39 4 3 2)<|Ao C (λb7=>?_)<|λb7=>?_
 ·exact absurd ao.fits om
 refine Bc<|Ak<|Al<|Gf bf2 C<|Gl ef ?_
 refine Gr (Cn (cells:=[_,_]) Q2 Tryz.underlying35 ge4 C C)<|Ge1 (Aj Q2 C) λb4=>Ge0 (Co Q2) ?_
 refine Ar<|Al<|Ga C ?_
 have ah:=(Q5 au).2.2
 have cq:=ao.kind
 refine Ar<|Al<|Gf L7 C<|Gl ef ?_
 refine Gf H7 C<|Gl ef ?_
 refine Gr (j8.min C C)<|Gf L7 C<|Gl ef ?_
 refine Gf H7 C<|Gl ef ?_
 refine Gr (Fd C C)<|Gf br8 C<|Gl ef ?_
 refine Gf be9 C<|Gl ef ?_
 refine Gf be8 C<|Gl ef ?_
 refine Gf H8 C<|Gl ef ?_
 refine Gr (Cn (cells:=[_,_,_,_,_,_]) J8 Tryz.underlying82 gi8 C C)<|Ge1 (Aj J8 C) λb5=>Ge0 (Fo J8) ?_
 show G Tryz.prog κ _ _ _ _ ([(11,pt b5),(62,.agg #[e7 (if e.v<e.u then e.v else e.u),e7 (if e.u<e.v then e.v else e.u),e7<|e.w,e7<|e.lb,e7<|e.sg,e7<|e.tm]),(61,e7<|e.tm),(60,.pointer<|some ⟨b2,1,none⟩),(59,e7<|e.sg),(58,.pointer<|some ⟨b2,6,none⟩),(57,e7<|e.lb),(56,.pointer<|some ⟨b2,5,none⟩),(55,e7<|e.w),(54,.pointer<|some ⟨b2,4,none⟩),(53,e7 (if e.u<e.v then e.v else e.u)),(52,e7<|e.v),(51,.pointer<|some ⟨b2,3,none⟩),(50,e7<|e.u),(49,.pointer<|some ⟨b2,2,none⟩),(48,e7 (if e.v<e.u then e.v else e.u)),(47,e7<|e.v),(46,.pointer<|some ⟨b2,3,none⟩),(45,e7<|e.u),(44,.pointer<|some ⟨b2,2,none⟩),(10,.slice none 0 0),(9,pt b4),(43,.agg #[e7 nd,.slice none 0 0]),(42,e7 nd),(41,pt b1),(39,.bool<|decide<|nd<=e.v),(4,pt b3),(3,pt b2),(2,pt b1)]:Env) (e8 b5 (kl (eh e)) 82::e8 b4 [e7 nd,.slice none 0 0] 35::e8 b3 [e7 0,.slice none 0 0] 35::e8 b2 (ez e) 54::e8 b1 [e7 nd,va] 35::I)
 refine Ar<|A0 (S6 11 10 9 4 3 2)<|Al<|Gf W9 C<|Gl ef ?_
 refine Gr (Cb C C)<|Ga C<|Ar<|Ax<|Al<|Gf N6 C<|Gl au1 ?_
 refine Gr (Fa (α:=Lk) (xs:=xs) A2 C<|A3 hl)<|Gm C<|Ar<|A0 (S9 69 68 67 12 11 10 9 4 3)<|A7<|B9 (σ:=Nat×(Option Addr)×Nat×(Option Addr)×Nat×(List Lk)×(List Ev)×Bool) (λs=>([(3,pt b2),(4,pt b3),(9,pt b4),(10,.slice s.2.2.2.1 s.2.2.2.2.2.2.1.length s.2.2.2.2.1),(11,pt b5),(12,.bool<|s.2.2.2.2.2.2.2),(67,va),(68,e7 ((xs.length:Nat):Int)),(69,e7 ((s.1:Nat):Int))]:Env)) (λs=>e8 b4 [e7 nd,.slice s.2.1 s.2.2.2.2.2.1.length s.2.2.1] 35::vk 82 s.2.1 s.2.2.1 s.2.2.2.2.2.1::vk 54 s.2.2.2.1 s.2.2.2.2.1 s.2.2.2.2.2.2.1::e8 b5 (kl (eh e)) 82::e8 b3 [e7 0,.slice none 0 0] 35::e8 b2 (ez e) 54::e8 b1 [e7 nd,va] 35::I) (λs=>(s.1<=xs.length)/\(ApI xs e s.1 s.2.2.2.2.2.1 s.2.2.2.2.2.2.2)/\(s.2.2.2.2.2.2.1.length<=2*s.1)) (λs=>xs.length - s.1) (0,none,0,none,0,[],[],decide<|e.kd≠1) (show ((0:Nat)<=xs.length)/\(ApI xs e (0:Nat) ([]:List Lk) (decide (e.kd≠1):Bool))/\(([]:List Ev).length<=2*(0:Nat)) from ⟨om,ApI.start,(by simp)⟩) (cx2<|Aa C<|Aa (Da C<|by first|rfl|simp)<|Aa C<|Aa (Da C<|by first|rfl|simp)<|cx2<|Aa Cl Bb) (show Fit κ _ (e8 b4 [e7 nd,.slice none ([]).length 0] 35::vk 82 none 0 ([])::vk 54 none 0 ([])::e8 b5 (kl (eh e)) 82::e8 b3 [e7 0,.slice none 0 0] 35::e8 b2 (ez e) 54::e8 b1 [e7 nd,va] 35::I) from (A9 (B6 54 _)<|A9 (B6 82 _) Az)) ?_
 rintro ⟨k,a1,c1,a2,c2,O,ak,q⟩ hp
 dsimp only at hp ⊢
 obtain ⟨hk,hA,cw⟩:=hp
 refine Al<|Gr (Bm C C)<|Ar<|Ax<|Ao C (λca=>?_)<|λca=>?_
 ·refine Bc (Ak<|Ax<|A7<|Al<|Gr (A1 (α:=Lk) (xs:=xs) A2 J8 C C (A3 hl) om om)<|Gr (C7 (α:=Lk) (xs:=xs) J8 C (A3 hl) om om)<|Ge1 (Aj J8 C) λb6=>Ge0 (Fo J8) ?_)
  refine Ar<|Fj (σ:=(Option Addr)×Nat×(Option Addr)×Nat×(List Lk)×(List Ev)×Bool) (λs=>([(3,pt b2),(4,pt b3),(9,pt b4),(10,.slice s.2.2.1 s.2.2.2.2.2.1.length s.2.2.2.1),(11,pt b5),(12,.bool<|s.2.2.2.2.2.2),(14,pt b6),(67,va),(68,e7 ((xs.length:Nat):Int)),(69,e7<|(k:Int))]:Env)) (λs=>e8 b4 [e7 nd,.slice s.1 s.2.2.2.2.1.length s.2.1] 35::vk 82 s.1 s.2.1 s.2.2.2.2.1::vk 54 s.2.2.1 s.2.2.2.1 s.2.2.2.2.2.1::e8 b6 (kl (e_ xs k)) 82::e8 b5 (kl (eh e)) 82::e8 b3 [e7 0,.slice none 0 0] 35::e8 b2 (ez e) 54::e8 b1 [e7 nd,va] 35::I) (λs=>(ApI xs e k s.2.2.2.2.1 s.2.2.2.2.2.2)/\((!s.2.2.2.2.2.2)=true->¬Pt.lt (eh e).p (e_ xs k).p)/\(s.2.2.2.2.2.1.length<=2*k+1)) ?_ ?_
  ·refine Ax (A8 mixed<|Bv (e8 b6 (kl (e_ xs k)) 82::e8 b4 [e7 nd,.slice a1 O.length c1] 35::vk 82 a1 c1 O::vk 54 a2 c2 ak::e8 b5 (kl (eh e)) 82::e8 b3 [e7 0,.slice none 0 0] 35::e8 b2 (ez e) 54::e8 b1 [e7 nd,va] 35::I) 9<|Dr 0 C (Ap C)<|Dr 1 C (Ey C)<|Dr 2 C (Ap C)<|D.bc3 (d:=75) C (λaj=>?_)<|λaj=>?_)
   ·refine Dro 3 C (Bl (vs:=[_,_,_,_,_,_]) J8) ?_
    refine Dro 5 C (Bl (vs:=[_,_,_,_,_,_]) J8) ?_
    refine Ds1 4<|Sc0 C (Ab c_ C C<|ac2<|eh e) ?_
    refine Ds1 6<|Sc0 C (Ab c_ C C<|ac2<|e_ xs k) ?_
    refine Ds1 7<|Sc0 C (Ab c_ C C<|ag6 (eh e).p (e_ xs k).p) ?_
    refine Dr 8 C (B0 C C)<|Dz<|Ak<|A0 (S11 81 14 3 4 9 10 11 12 67 68 69)<|Ao C (λan=>?_)<|λan=>?_
    ·refine A8 mixed (Bv (e8 b6 (kl (e_ xs k)) 82::e8 b5 (kl (eh e)) 82::e8 b3 [e7 0,.slice none 0 0] 35::e8 b2 (ez e) 54::e8 b1 [e7 nd,va] 35::I) 16<|Dr 0 C (Af N6 C)<|Dr 2 C (Bl (vs:=[_,_,_,_,_,_]) J8) ?_)
     refine Dr 5 C (Ap C)<|Dr 6 C (Bl (vs:=[_,_,_,_,_,_]) J8) ?_
     refine Dr 7 C (Af H8 C)<|Dr 8 C (Be ef) ?_
     refine C5 (rs:=[1,3]) kr C C<|D5 ?_<|Dl ?_
     ·refine Sr C (Be au1) Ai ?_
      refine Ds1 3<|Se1 C (B1 (α:=Lk) (cs:=(kl (eh e))) (xs:=[⟨(eh e).u,(eh e).v,(eh e).w,(eh e).lb,(eh e).sg,(eh e).tm⟩]) A2 J8 C C dc dc C kr C C) λct=>?_
      refine Ds1 4<|Se2 C (Bs (α:=Lk) (e:=82) (xs:=O) (ys:=([⟨(eh e).u,(eh e).v,(eh e).w,(eh e).lb,(eh e).sg,(eh e).tm⟩]:List Lk)) A2 J8 C C C mm A5 (by have ae:=hA.len;first|(simp only [By,E_,Fy];omega)|(have ai:=aa.len;simp only [By,E_,Fy];omega)) dc C<|λ_ _=>am) λb9 bw=>?_
      refine Dr 12 C (Af N6 C)<|Ds1 9<|Sc0 C (Ab c_ C C<|bg9 (eh e) e.tm) ?_
      refine Ds1 10<|Se1 C (B1 (α:=Ev) (cs:=[e7 1,e7<|e.tm,e7<|(eh e).u,e7<|(eh e).v,e7<|(eh e).w,e7<|(eh e).lb,e7<|(eh e).sg]) (xs:=[⟨1,e.tm,(eh e).u,(eh e).v,(eh e).w,(eh e).lb,(eh e).sg⟩]) Ad z6 C C dc dc C kr C C) λcf=>?_
      refine Ds1 11<|Se2 C (Bs (α:=Ev) (e:=54) (xs:=ak) (ys:=([⟨1,e.tm,(eh e).u,(eh e).v,(eh e).w,(eh e).lb,(eh e).sg⟩]:List Ev)) Ad z6 C C C mm A5 (by have ae:=hA.len;first|(simp only [By,E_,Fy];omega)|(have ai:=aa.len;simp only [By,E_,Fy];omega)) dc C<|λ_ _=>am) λbe a6=>?_
      refine Ds1 13<|Se0 C (Fg au1) ?_
      exact Dr 14 C (Bj C)<|Dr 15 C (Bj C)<|Dz<|Dk ((b9),(bw),(be),(a6),(O++([⟨(eh e).u,(eh e).v,(eh e).w,(eh e).lb,(eh e).sg,(eh e).tm⟩]:List Lk)),(ak++([⟨1,e.tm,(eh e).u,(eh e).v,(eh e).w,(eh e).lb,(eh e).sg⟩]:List Ev)),(true))<|by dsimp only;exact ⟨(by first|exact hA.ins ah om aj an|exact hA),(by intro h;first|exact absurd h dc|exact an|(rw [h] at aj;cases aj)),olp⟩
     refine Se1 C (B1 (α:=Lk) (cs:=(kl (eh e))) (xs:=[⟨(eh e).u,(eh e).v,(eh e).w,(eh e).lb,(eh e).sg,(eh e).tm⟩]) A2 J8 C C dc dc C kr C C) λcc=>?_
     refine Ds1 1<|Sr C (Be au1) Ai ?_
     refine Ds1 4<|Se2 C (Bs (α:=Lk) (e:=82) (xs:=O) (ys:=([⟨(eh e).u,(eh e).v,(eh e).w,(eh e).lb,(eh e).sg,(eh e).tm⟩]:List Lk)) A2 J8 C C C mm A5 (by have ae:=hA.len;first|(simp only [By,E_,Fy];omega)|(have ai:=aa.len;simp only [By,E_,Fy];omega)) dc C<|λ_ _=>am) λa5 bf=>?_
     refine Dr 12 C (Af N6 C)<|Ds1 9<|Sc0 C (Ab c_ C C<|bg9 (eh e) e.tm) ?_
     refine Ds1 10<|Se1 C (B1 (α:=Ev) (cs:=[e7 1,e7<|e.tm,e7<|(eh e).u,e7<|(eh e).v,e7<|(eh e).w,e7<|(eh e).lb,e7<|(eh e).sg]) (xs:=[⟨1,e.tm,(eh e).u,(eh e).v,(eh e).w,(eh e).lb,(eh e).sg⟩]) Ad z6 C C dc dc C kr C C) λcb=>?_
     refine Ds1 11<|Se2 C (Bs (α:=Ev) (e:=54) (xs:=ak) (ys:=([⟨1,e.tm,(eh e).u,(eh e).v,(eh e).w,(eh e).lb,(eh e).sg⟩]:List Ev)) Ad z6 C C C mm A5 (by have ae:=hA.len;first|(simp only [By,E_,Fy];omega)|(have ai:=aa.len;simp only [By,E_,Fy];omega)) dc C<|λ_ _=>am) λbt ba=>?_
     refine Ds1 13<|Se0 C (Fg au1) ?_
     exact Dr 14 C (Bj C)<|Dr 15 C (Bj C)<|Dz<|Dk ((a5),(bf),(bt),(ba),(O++([⟨(eh e).u,(eh e).v,(eh e).w,(eh e).lb,(eh e).sg,(eh e).tm⟩]:List Lk)),(ak++([⟨1,e.tm,(eh e).u,(eh e).v,(eh e).w,(eh e).lb,(eh e).sg⟩]:List Ev)),(true))<|by dsimp only;exact ⟨(by first|exact hA.ins ah om aj an|exact hA),(by intro h;first|exact absurd h dc|exact an|(rw [h] at aj;cases aj)),olp⟩
    exact Bc<|Dk ((a1),(c1),(a2),(c2),(O),(ak),(q))<|by dsimp only;exact ⟨(by first|exact hA.ins ah om aj an|exact hA),(by intro h;first|exact absurd h dc|exact an|(rw [h] at aj;cases aj)),olp⟩
   exact Dpo 3 C<|Dpo 5 C<|Dpo 4 C<|Dpo 6 C<|Dpo 7 C<|Dr 8 C (Bk C C)<|Dz<|Ak<|A0 (S11 81 14 3 4 9 10 11 12 67 68 69)<|W.no C<|Bc<|Dk ((a1),(c1),(a2),(c2),(O),(ak),(q))<|by dsimp only;exact ⟨(by first|exact hA.ins ah om aj an|exact hA),(by intro h;first|exact absurd h dc|exact an|(rw [h] at aj;cases aj)),olp⟩
  rintro ⟨a3,c3,a4,c4,O2,M,q2⟩ hp
  obtain ⟨aa,hM,cp⟩:(ApI xs e k O2 q2)/\((!q2)=true->¬Pt.lt (eh e).p (e_ xs k).p)/\(M.length<=2*k+1):=hp
  show W Tryz.prog κ 180 _ _ ([(3,pt b2),(4,pt b3),(9,pt b4),(10,.slice a4 M.length c4),(11,pt b5),(12,.bool q2),(14,pt b6),(67,va),(68,e7 ((xs.length:Nat):Int)),(69,e7<|(k:Int))]:Env) (e8 b4 [e7 nd,.slice a3 O2.length c3] 35::vk 82 a3 c3 O2::vk 54 a4 c4 M::e8 b6 (kl (e_ xs k)) 82::e8 b5 (kl (eh e)) 82::e8 b3 [e7 0,.slice none 0 0] 35::e8 b2 (ez e) 54::e8 b1 [e7 nd,va] 35::I)
  refine Ax<|A8 mixed<|Bv (e8 b4 [e7 nd,.slice a3 O2.length c3] 35::vk 82 a3 c3 O2::vk 54 a4 c4 M::e8 b6 (kl (e_ xs k)) 82::e8 b5 (kl (eh e)) 82::e8 b3 [e7 0,.slice none 0 0] 35::e8 b2 (ez e) 54::e8 b1 [e7 nd,va] 35::I) 6<|Dr 0 C (Bl (vs:=[_,_,_,_,_,_]) J8) ?_
  refine Dr 2 C (Bl (vs:=[_,_,_,_,_,_]) J8) ?_
  refine Ds1 1<|Sc0 C (Ab c_ C C<|ac2<|e_ xs k) ?_
  refine Ds1 3<|Sc0 C (Ab c_ C C<|ac2<|eh e) ?_
  refine Dr 4 C (Fm (α:=Pt) (a:=(e_ xs k).p) (b:=(eh e).p) ay3 C C)<|Dr 5 C (Bj C)<|Dz<|Ak<|A0 (S11 15 3 4 9 10 11 12 14 67 68 69)<|A7<|Fj (σ:=Bool) (λs=>([(3,pt b2),(4,pt b3),(9,pt b4),(10,.slice a4 M.length c4),(11,pt b5),(12,.bool q2),(14,pt b6),(15,.bool<|decide<|((e_ xs k).p)=((eh e).p)),(67,va),(68,e7 ((xs.length:Nat):Int)),(69,e7<|(k:Int)),(106,.bool s)]:Env)) (λs=>e8 b4 [e7 nd,.slice a3 O2.length c3] 35::vk 82 a3 c3 O2::vk 54 a4 c4 M::e8 b6 (kl (e_ xs k)) 82::e8 b5 (kl (eh e)) 82::e8 b3 [e7 0,.slice none 0 0] 35::e8 b2 (ez e) 54::e8 b1 [e7 nd,va] 35::I) (λs=>(s=decide (e.kd=1/\(e_ xs k).p=(eh e).p))) ?_ ?_
  ·refine A6 (Gf W9 C<|Gl ef ?_)
   refine Gr (C3 C C)<|Gm C<|A4 (d:=110) C (λbb=>?_)<|λbb=>?_
   ·exact e9 (Ap C)<|Gr (B0 C C)<|Ga C<|Bq<|Dk ((decide<|((e_ xs k).p)=((eh e).p))) (by first|exact Fw.2 ⟨λh=>⟨by omega,h⟩,λh=>h.2⟩|exact (D_<|λh=>by omega).symm) (hI:=by (try dsimp only);exact (De _))
   exact eb<|Gr (Bk C C)<|Ga C<|Bq<|Dk ((false)) (by first|exact Fw.2 ⟨λh=>⟨by omega,h⟩,λh=>h.2⟩|exact (D_<|λh=>by omega).symm) (hI:=by (try dsimp only);exact (De _))
  rintro y hp
  have hy:(y=decide (e.kd=1/\(e_ xs k).p=(eh e).p)):=hp
  show W Tryz.prog κ 180 _ _ ([(3,pt b2),(4,pt b3),(9,pt b4),(10,.slice a4 M.length c4),(11,pt b5),(12,.bool q2),(14,pt b6),(15,.bool<|decide<|((e_ xs k).p)=((eh e).p)),(67,va),(68,e7 ((xs.length:Nat):Int)),(69,e7<|(k:Int)),(106,.bool y)]:Env) (e8 b4 [e7 nd,.slice a3 O2.length c3] 35::vk 82 a3 c3 O2::vk 54 a4 c4 M::e8 b6 (kl (e_ xs k)) 82::e8 b5 (kl (eh e)) 82::e8 b3 [e7 0,.slice none 0 0] 35::e8 b2 (ez e) 54::e8 b1 [e7 nd,va] 35::I)
  refine Ds C (λab=>?_)<|λab=>?_
  ·refine Ax (Al<|Gl6 J8 ?_)
   refine Gl6 J8 ?_
   refine Gr (j8.fx6 (α:=Lk) (a:=(e_ xs k)) (b:=(eh e)) dy5 C C)<|Ar<|A0 (S9 115 3 4 9 10 11 67 68 69)<|Ao C (λbn=>?_)<|λbn=>?_
   ·refine A6 (Gm C<|Gl6 J8 ?_)
    refine Gf H8 C<|Gl ef ?_
    refine Gc0 (Ab c_ C C<|bg9 (eh e) e.tm) ?_
    refine Ge1 (B1 (α:=Ev) (cs:=[e7 1,e7<|e.tm,e7<|(eh e).u,e7<|(eh e).v,e7<|(eh e).w,e7<|(eh e).lb,e7<|(eh e).sg]) (xs:=[⟨1,e.tm,(eh e).u,(eh e).v,(eh e).w,(eh e).lb,(eh e).sg⟩]) Ad z6 C C dc dc C kr C C) λce=>?_
    refine Ge2 (Bs (α:=Ev) (e:=54) (xs:=M) (ys:=([⟨1,e.tm,(eh e).u,(eh e).v,(eh e).w,(eh e).lb,(eh e).sg⟩]:List Ev)) Ad z6 C C C mm A5 (by have ae:=hA.len;first|(simp only [By,E_,Fy];omega)|(have ai:=aa.len;simp only [By,E_,Fy];omega)) dc C<|λ_ _=>am) λbm a0=>?_
    refine Ga C<|Ar<|A0 (S8 10 3 4 9 11 67 68 69)<|A6<|Gf N6 C<|Gl au1 ?_
    refine Gl6 J8 ?_
    refine Ge1 (B1 (α:=Lk) (cs:=(kl (eh e))) (xs:=[⟨(eh e).u,(eh e).v,(eh e).w,(eh e).lb,(eh e).sg,(eh e).tm⟩]) A2 J8 C C dc dc C kr C C) λch=>?_
    refine Ge2 (Bs (α:=Lk) (e:=82) (xs:=O2) (ys:=([⟨(eh e).u,(eh e).v,(eh e).w,(eh e).lb,(eh e).sg,(eh e).tm⟩]:List Lk)) A2 J8 C C C mm A5 (by have ae:=hA.len;first|(simp only [By,E_,Fy];omega)|(have ai:=aa.len;simp only [By,E_,Fy];omega)) dc C<|λ_ _=>am) λbg bj=>?_
    refine Gf N6 C<|Ge0 (Fg au1) ?_
    exact Ga C<|Bq<|Au<|Au<|Ak<|A0 (S9 12 10 3 4 9 11 67 68 69)<|A6<|Gr (Rad C C)<|Gm C<|Bq<|Bu ((k+1),(bg),(bj),(bm),(a0),(O2++([⟨(eh e).u,(eh e).v,(eh e).w,(eh e).lb,(eh e).sg,(eh e).tm⟩]:List Lk)),(M++([⟨1,e.tm,(eh e).u,(eh e).v,(eh e).w,(eh e).lb,(eh e).sg⟩]:List Ev)),(true))<|by dsimp only;exact ⟨om,(by first|exact aa.hit ah om (Fu<|hy.symm.trans ab).1 (Fu<|hy.symm.trans ab).2|exact aa.drop om (Fu<|hz.symm.trans ad).1 (Fu<|hz.symm.trans ad).2|exact aa.fn3 ah om hM (λh1 h2=>Ja (hy.symm.trans ab) ⟨h1,h2⟩) (λh1=>Gg λhh=>Ja (hz.symm.trans ad) ⟨h1,by simpa using hh⟩)),olp⟩
   refine Bc<|Ak<|A6<|Gf N6 C<|Gl au1 ?_
   refine Gl6 J8 ?_
   refine Ge1 (B1 (α:=Lk) (cs:=(kl (eh e))) (xs:=[⟨(eh e).u,(eh e).v,(eh e).w,(eh e).lb,(eh e).sg,(eh e).tm⟩]) A2 J8 C C dc dc C kr C C) λck=>?_
   refine Ge2 (Bs (α:=Lk) (e:=82) (xs:=O2) (ys:=([⟨(eh e).u,(eh e).v,(eh e).w,(eh e).lb,(eh e).sg,(eh e).tm⟩]:List Lk)) A2 J8 C C C mm A5 (by have ae:=hA.len;first|(simp only [By,E_,Fy];omega)|(have ai:=aa.len;simp only [By,E_,Fy];omega)) dc C<|λ_ _=>am) λbh az=>?_
   refine Gf N6 C<|Ge0 (Fg au1) ?_
   exact Ga C<|Bq<|Au<|Au<|Ak<|A0 (S9 12 3 4 9 10 11 67 68 69)<|A6<|Gr (Rad C C)<|Gm C<|Bq<|Bu ((k+1),(bh),(az),(a4),(c4),(O2++([⟨(eh e).u,(eh e).v,(eh e).w,(eh e).lb,(eh e).sg,(eh e).tm⟩]:List Lk)),(M),(true))<|by dsimp only;exact ⟨om,(by first|exact aa.hit ah om (Fu<|hy.symm.trans ab).1 (Fu<|hy.symm.trans ab).2|exact aa.drop om (Fu<|hz.symm.trans ad).1 (Fu<|hz.symm.trans ad).2|exact aa.fn3 ah om hM (λh1 h2=>Ja (hy.symm.trans ab) ⟨h1,h2⟩) (λh1=>Gg λhh=>Ja (hz.symm.trans ad) ⟨h1,by simpa using hh⟩)),olp⟩
  refine Fj (σ:=Bool) (λs=>([(3,pt b2),(4,pt b3),(9,pt b4),(10,.slice a4 M.length c4),(11,pt b5),(12,.bool q2),(14,pt b6),(67,va),(68,e7 ((xs.length:Nat):Int)),(69,e7<|(k:Int)),(129,.bool s)]:Env)) (λs=>e8 b4 [e7 nd,.slice a3 O2.length c3] 35::vk 82 a3 c3 O2::vk 54 a4 c4 M::e8 b6 (kl (e_ xs k)) 82::e8 b5 (kl (eh e)) 82::e8 b3 [e7 0,.slice none 0 0] 35::e8 b2 (ez e) 54::e8 b1 [e7 nd,va] 35::I) (λs=>(s=decide (e.kd≠1/\ah3 e (e_ xs k)=true))) ?_ ?_
  ·refine A6 (Gf W9 C<|Gl ef ?_)
   refine Gr (C3 C C)<|Gm C<|A4 (d:=133) C (λbr=>?_)<|λbr=>?_
   ·refine e9 (Ap C) (Gr (B0 C C)<|Gm C<|A4 (d:=136) C (λbu=>?_)<|λbu=>?_)
    ·exact eb<|eb<|eb<|eb<|ee<|ee<|ee<|ee<|ee<|ee<|ee<|ee<|ee<|ee<|ee<|ee<|eb<|Gr (B0 C C)<|Ga C<|Bq<|Dk ((true)) (by first|(exfalso;omega)|exact (As ⟨by omega,by first|(rw [T5 om];exact As asm)|(rw [H6 om];exact As om)⟩).symm|exact (D_<|λh=>by first|omega|(have h2:=h.2;first|(rw [T5 om] at h2;exact absurd (Fu h2) asm)|(rw [H6 om] at h2;have h3:=Fu h2;omega))).symm|exact Fw.2 ⟨λh=>⟨by omega,by rw [H6 om];exact As<|.inr h⟩,λh=>by have h2:=h.2;rw [H6 om] at h2;have h3:=Fu h2;omega⟩) (hI:=by (try dsimp only);exact (De _))
    refine e9 (Af W9 C)<|e9 (Be ef) ?_
    refine e9 (C3 C C)<|e9 (Ap C)<|A4 (d:=140) C (λaq=>?_)<|λaq=>?_
    ·refine e9 (Af cf2 C) (e9 (Be ef) ?_)
     refine e9 (Af L7 C)<|e9 (Be ef) ?_
     refine e9 (C3 C C)<|e9 (Ap C)<|A4 (d:=146) C (λap=>?_)<|λap=>?_
     ·exact eb<|eb<|eb<|eb<|eb<|e9 (B0 C C)<|e9 (B0 C C)<|Gr (Bk C C)<|Ga C<|Bq<|Dk ((true)) (by first|(exfalso;omega)|exact (As ⟨by omega,by first|(rw [T5 om];exact As asm)|(rw [H6 om];exact As om)⟩).symm|exact (D_<|λh=>by first|omega|(have h2:=h.2;first|(rw [T5 om] at h2;exact absurd (Fu h2) asm)|(rw [H6 om] at h2;have h3:=Fu h2;omega))).symm|exact Fw.2 ⟨λh=>⟨by omega,by rw [H6 om];exact As<|.inr h⟩,λh=>by have h2:=h.2;rw [H6 om] at h2;have h3:=Fu h2;omega⟩) (hI:=by (try dsimp only);exact (De _))
     refine e9 (Af af9 C)<|e9 (Be ef) ?_
     refine e9 (Af L7 C)<|e9 (Be ef) ?_
     exact e9 (C3 C C)<|e9 (Bk C C)<|e9 (B0 C C)<|Gr (Bk C C)<|Ga C<|Bq<|Dk ((decide<|((e_ xs k).v)=e.u)) (by first|(exfalso;omega)|exact (As ⟨by omega,by first|(rw [T5 om];exact As asm)|(rw [H6 om];exact As om)⟩).symm|exact (D_<|λh=>by first|omega|(have h2:=h.2;first|(rw [T5 om] at h2;exact absurd (Fu h2) asm)|(rw [H6 om] at h2;have h3:=Fu h2;omega))).symm|exact Fw.2 ⟨λh=>⟨by omega,by rw [H6 om];exact As<|.inr h⟩,λh=>by have h2:=h.2;rw [H6 om] at h2;have h3:=Fu h2;omega⟩) (hI:=by (try dsimp only);exact (De _))
    exact eb<|eb<|eb<|eb<|eb<|eb<|ee<|ee<|ee<|ee<|ee<|eb<|e9 (Bk C C)<|Gr (Bk C C)<|Ga C<|Bq<|Dk ((false)) (by first|(exfalso;omega)|exact (As ⟨by omega,by first|(rw [T5 om];exact As asm)|(rw [H6 om];exact As om)⟩).symm|exact (D_<|λh=>by first|omega|(have h2:=h.2;first|(rw [T5 om] at h2;exact absurd (Fu h2) asm)|(rw [H6 om] at h2;have h3:=Fu h2;omega))).symm|exact Fw.2 ⟨λh=>⟨by omega,by rw [H6 om];exact As<|.inr h⟩,λh=>by have h2:=h.2;rw [H6 om] at h2;have h3:=Fu h2;omega⟩) (hI:=by (try dsimp only);exact (De _))
   refine eb<|Gr (Bk C C)<|Gm C<|e9 (Af W9 C)<|e9 (Be ef) ?_
   refine e9 (C3 C C)<|e9 (Ap C)<|A4 (d:=140) C (λaq=>?_)<|λaq=>?_
   ·refine e9 (Af cf2 C) (e9 (Be ef) ?_)
    refine e9 (Af L7 C)<|e9 (Be ef) ?_
    refine e9 (C3 C C)<|e9 (Ap C)<|A4 (d:=146) C (λap=>?_)<|λap=>?_
    ·exact eb<|eb<|eb<|eb<|eb<|e9 (B0 C C)<|e9 (B0 C C)<|Gr (Bk C C)<|Ga C<|Bq<|Dk ((true)) (by first|(exfalso;omega)|exact (As ⟨by omega,by first|(rw [T5 om];exact As asm)|(rw [H6 om];exact As om)⟩).symm|exact (D_<|λh=>by first|omega|(have h2:=h.2;first|(rw [T5 om] at h2;exact absurd (Fu h2) asm)|(rw [H6 om] at h2;have h3:=Fu h2;omega))).symm|exact Fw.2 ⟨λh=>⟨by omega,by rw [H6 om];exact As<|.inr h⟩,λh=>by have h2:=h.2;rw [H6 om] at h2;have h3:=Fu h2;omega⟩) (hI:=by (try dsimp only);exact (De _))
    refine e9 (Af af9 C)<|e9 (Be ef) ?_
    refine e9 (Af L7 C)<|e9 (Be ef) ?_
    exact e9 (C3 C C)<|e9 (Bk C C)<|e9 (B0 C C)<|Gr (Bk C C)<|Ga C<|Bq<|Dk ((decide<|((e_ xs k).v)=e.u)) (by first|(exfalso;omega)|exact (As ⟨by omega,by first|(rw [T5 om];exact As asm)|(rw [H6 om];exact As om)⟩).symm|exact (D_<|λh=>by first|omega|(have h2:=h.2;first|(rw [T5 om] at h2;exact absurd (Fu h2) asm)|(rw [H6 om] at h2;have h3:=Fu h2;omega))).symm|exact Fw.2 ⟨λh=>⟨by omega,by rw [H6 om];exact As<|.inr h⟩,λh=>by have h2:=h.2;rw [H6 om] at h2;have h3:=Fu h2;omega⟩) (hI:=by (try dsimp only);exact (De _))
   exact eb<|eb<|eb<|eb<|eb<|eb<|ee<|ee<|ee<|ee<|ee<|eb<|e9 (Bk C C)<|Gr (Bk C C)<|Ga C<|Bq<|Dk ((false)) (by first|(exfalso;omega)|exact (As ⟨by omega,by first|(rw [T5 om];exact As asm)|(rw [H6 om];exact As om)⟩).symm|exact (D_<|λh=>by first|omega|(have h2:=h.2;first|(rw [T5 om] at h2;exact absurd (Fu h2) asm)|(rw [H6 om] at h2;have h3:=Fu h2;omega))).symm|exact Fw.2 ⟨λh=>⟨by omega,by rw [H6 om];exact As<|.inr h⟩,λh=>by have h2:=h.2;rw [H6 om] at h2;have h3:=Fu h2;omega⟩) (hI:=by (try dsimp only);exact (De _))
  rintro z hp
  have hz:(z=decide (e.kd≠1/\ah3 e (e_ xs k)=true)):=hp
  show W Tryz.prog κ 180 _ _ ([(3,pt b2),(4,pt b3),(9,pt b4),(10,.slice a4 M.length c4),(11,pt b5),(12,.bool q2),(14,pt b6),(67,va),(68,e7 ((xs.length:Nat):Int)),(69,e7<|(k:Int)),(129,.bool z)]:Env) (e8 b4 [e7 nd,.slice a3 O2.length c3] 35::vk 82 a3 c3 O2::vk 54 a4 c4 M::e8 b6 (kl (e_ xs k)) 82::e8 b5 (kl (eh e)) 82::e8 b3 [e7 0,.slice none 0 0] 35::e8 b2 (ez e) 54::e8 b1 [e7 nd,va] 35::I)
  refine Ds C (λad=>?_)<|λad=>?_
  ·refine A6 (Gm C<|Gl6 J8 ?_)
   refine Gf H8 C<|Gl ef ?_
   refine Gc0 (Ab c_ C C<|ci7 (e_ xs k) e.tm) ?_
   refine Ge1 (B1 (α:=Ev) (cs:=[e7 2,e7<|e.tm,e7<|(e_ xs k).u,e7<|(e_ xs k).v,e7 0,e7 0,e7 0]) (xs:=[⟨2,e.tm,(e_ xs k).u,(e_ xs k).v,0,0,0⟩]) Ad z6 C C dc dc C kr C C) λcd=>?_
   refine Ge2 (Bs (α:=Ev) (e:=54) (xs:=M) (ys:=([⟨2,e.tm,(e_ xs k).u,(e_ xs k).v,0,0,0⟩]:List Ev)) Ad z6 C C C mm A5 (by have ae:=hA.len;first|(simp only [By,E_,Fy];omega)|(have ai:=aa.len;simp only [By,E_,Fy];omega)) dc C<|λ_ _=>am) λay bq=>?_
   exact Ga C<|Bq<|Au<|Au<|Ak<|A0 (S9 10 3 4 9 11 12 67 68 69)<|A6<|Gr (Rad C C)<|Gm C<|Bq<|Bu ((k+1),(a3),(c3),(ay),(bq),(O2),(M++([⟨2,e.tm,(e_ xs k).u,(e_ xs k).v,0,0,0⟩]:List Ev)),(q2))<|by dsimp only;exact ⟨om,(by first|exact aa.hit ah om (Fu<|hy.symm.trans ab).1 (Fu<|hy.symm.trans ab).2|exact aa.drop om (Fu<|hz.symm.trans ad).1 (Fu<|hz.symm.trans ad).2|exact aa.fn3 ah om hM (λh1 h2=>Ja (hy.symm.trans ab) ⟨h1,h2⟩) (λh1=>Gg λhh=>Ja (hz.symm.trans ad) ⟨h1,by simpa using hh⟩)),olp⟩
  refine A6<|Gf N6 C<|Gl au1 ?_
  refine Gl6 J8 ?_
  refine Ge1 (B1 (α:=Lk) (cs:=(kl (e_ xs k))) (xs:=[⟨(e_ xs k).u,(e_ xs k).v,(e_ xs k).w,(e_ xs k).lb,(e_ xs k).sg,(e_ xs k).tm⟩]) A2 J8 C C dc dc C kr C C) λcm=>?_
  refine Ge2 (Bs (α:=Lk) (e:=82) (xs:=O2) (ys:=([⟨(e_ xs k).u,(e_ xs k).v,(e_ xs k).w,(e_ xs k).lb,(e_ xs k).sg,(e_ xs k).tm⟩]:List Lk)) A2 J8 C C C mm A5 (by have ae:=hA.len;first|(simp only [By,E_,Fy];omega)|(have ai:=aa.len;simp only [By,E_,Fy];omega)) dc C<|λ_ _=>am) λa9 bk=>?_
  refine Gf N6 C<|Ge0 (Fg au1) ?_
  exact Bq<|Au<|Au<|Ak<|A0 (S9 3 4 9 10 11 12 67 68 69)<|A6<|Gr (Rad C C)<|Gm C<|Bq<|Bu ((k+1),(a9),(bk),(a4),(c4),(O2++([⟨(e_ xs k).u,(e_ xs k).v,(e_ xs k).w,(e_ xs k).lb,(e_ xs k).sg,(e_ xs k).tm⟩]:List Lk)),(M),(q2))<|by dsimp only;exact ⟨om,(by first|exact aa.hit ah om (Fu<|hy.symm.trans ab).1 (Fu<|hy.symm.trans ab).2|exact aa.drop om (Fu<|hz.symm.trans ad).1 (Fu<|hz.symm.trans ad).2|exact aa.fn3 ah om hM (λh1 h2=>Ja (hy.symm.trans ab) ⟨h1,h2⟩) (λh1=>Gg λhh=>Ja (hz.symm.trans ad) ⟨h1,by simpa using hh⟩)),olp⟩
 refine Cg<|Aw<|Aw<|Bi<|Ak<|Ax<|Al<|Gm C<|Gr (Ey C)<|Ar<|Ds C (λa7=>?_)<|λa7=>?_
 ·refine A8 mixed (Bv (e8 b5 (kl (eh e)) 82::e8 b3 [e7 0,.slice none 0 0] 35::e8 b2 (ez e) 54::e8 b1 [e7 nd,va] 35::I) 15<|Dr 0 C (Af N6 C)<|Dr 2 C (Bl (vs:=[_,_,_,_,_,_]) J8) ?_)
  refine Dr 5 C (Ap C)<|Dr 6 C (Bl (vs:=[_,_,_,_,_,_]) J8) ?_
  refine Dr 7 C (Af H8 C)<|Dr 8 C (Be ef) ?_
  refine C5 (rs:=[1,3]) kr C C<|D5 ?_<|Dl ?_
  ·refine Sr C (Be au1) Ai ?_
   refine Ds1 3<|Se1 C (B1 (α:=Lk) (cs:=(kl (eh e))) (xs:=[⟨(eh e).u,(eh e).v,(eh e).w,(eh e).lb,(eh e).sg,(eh e).tm⟩]) A2 J8 C C dc dc C kr C C) λco=>?_
   refine Ds1 4<|Se2 C (Bs (α:=Lk) (e:=82) (xs:=O) (ys:=([⟨(eh e).u,(eh e).v,(eh e).w,(eh e).lb,(eh e).sg,(eh e).tm⟩]:List Lk)) A2 J8 C C C mm A5 (by have ae:=hA.len;first|(simp only [By,E_,Fy];omega)|(have ai:=aa.len;simp only [By,E_,Fy];omega)) dc C<|λ_ _=>am) λar av=>?_
   refine Dr 12 C (Af N6 C)<|Ds1 9<|Sc0 C (Ab c_ C C<|bg9 (eh e) e.tm) ?_
   refine Ds1 10<|Se1 C (B1 (α:=Ev) (cs:=[e7 1,e7<|e.tm,e7<|(eh e).u,e7<|(eh e).v,e7<|(eh e).w,e7<|(eh e).lb,e7<|(eh e).sg]) (xs:=[⟨1,e.tm,(eh e).u,(eh e).v,(eh e).w,(eh e).lb,(eh e).sg⟩]) Ad z6 C C dc dc C kr C C) λcg=>?_
   refine Ds1 11<|Se2 C (Bs (α:=Ev) (e:=54) (xs:=ak) (ys:=([⟨1,e.tm,(eh e).u,(eh e).v,(eh e).w,(eh e).lb,(eh e).sg⟩]:List Ev)) Ad z6 C C C mm A5 (by have ae:=hA.len;first|(simp only [By,E_,Fy];omega)|(have ai:=aa.len;simp only [By,E_,Fy];omega)) dc C<|λ_ _=>am) λbo bi=>?_
   refine Ds1 13<|Se0 C (Fg au1) ?_
   refine Dr 14 C (Bj C)<|Dz<|Ak<|A0 (S3 10 4 9)<|Al<|Gl2 Q2 ?_
   refine Gm C<|Ge0 (Co Q2) ?_
   refine Ga C<|Ga C<|Ar<|B3 ?_
   have hE:O++([⟨(eh e).u,(eh e).v,(eh e).w,(eh e).lb,(eh e).sg,(eh e).tm⟩]:List Lk)=(ep xs e):=by first|exact hA.fin om asm|exact hA.dj4 om asm
   exact Cs C Q2 C C C mm C (vk 82 ar av (ep xs e)::I) (by unfold vk;rw [←hE];exact Ai) ⟨⟨ar,av,bo,(ak++([⟨1,e.tm,(eh e).u,(eh e).v,(eh e).w,(eh e).lb,(eh e).sg⟩]:List Ev)).length,bi⟩,⟨by rw [←hE]<;>rfl,by first|(show _<=2*xs.length+1;omega)|(show _<=2*xs.length+1;simp only [By,E_,Fy];omega)⟩,rfl⟩
  refine Se1 C (B1 (α:=Lk) (cs:=(kl (eh e))) (xs:=[⟨(eh e).u,(eh e).v,(eh e).w,(eh e).lb,(eh e).sg,(eh e).tm⟩]) A2 J8 C C dc dc C kr C C) λci=>?_
  refine Ds1 1<|Sr C (Be au1) Ai ?_
  refine Ds1 4<|Se2 C (Bs (α:=Lk) (e:=82) (xs:=O) (ys:=([⟨(eh e).u,(eh e).v,(eh e).w,(eh e).lb,(eh e).sg,(eh e).tm⟩]:List Lk)) A2 J8 C C C mm A5 (by have ae:=hA.len;first|(simp only [By,E_,Fy];omega)|(have ai:=aa.len;simp only [By,E_,Fy];omega)) dc C<|λ_ _=>am) λax aw=>?_
  refine Dr 12 C (Af N6 C)<|Ds1 9<|Sc0 C (Ab c_ C C<|bg9 (eh e) e.tm) ?_
  refine Ds1 10<|Se1 C (B1 (α:=Ev) (cs:=[e7 1,e7<|e.tm,e7<|(eh e).u,e7<|(eh e).v,e7<|(eh e).w,e7<|(eh e).lb,e7<|(eh e).sg]) (xs:=[⟨1,e.tm,(eh e).u,(eh e).v,(eh e).w,(eh e).lb,(eh e).sg⟩]) Ad z6 C C dc dc C kr C C) λcj=>?_
  refine Ds1 11<|Se2 C (Bs (α:=Ev) (e:=54) (xs:=ak) (ys:=([⟨1,e.tm,(eh e).u,(eh e).v,(eh e).w,(eh e).lb,(eh e).sg⟩]:List Ev)) Ad z6 C C C mm A5 (by have ae:=hA.len;first|(simp only [By,E_,Fy];omega)|(have ai:=aa.len;simp only [By,E_,Fy];omega)) dc C<|λ_ _=>am) λbp bv=>?_
  refine Ds1 13<|Se0 C (Fg au1) ?_
  refine Dr 14 C (Bj C)<|Dz<|Ak<|A0 (S3 10 4 9)<|Al<|Gl2 Q2 ?_
  refine Gm C<|Ge0 (Co Q2) ?_
  refine Ga C<|Ga C<|Ar<|B3 ?_
  have hE:O++([⟨(eh e).u,(eh e).v,(eh e).w,(eh e).lb,(eh e).sg,(eh e).tm⟩]:List Lk)=(ep xs e):=by first|exact hA.fin om asm|exact hA.dj4 om asm
  exact Cs C Q2 C C C mm C (vk 82 ax aw (ep xs e)::I) (by unfold vk;rw [←hE];exact Ai) ⟨⟨ax,aw,bp,(ak++([⟨1,e.tm,(eh e).u,(eh e).v,(eh e).w,(eh e).lb,(eh e).sg⟩]:List Ev)).length,bv⟩,⟨by rw [←hE]<;>rfl,by first|(show _<=2*xs.length+1;omega)|(show _<=2*xs.length+1;simp only [By,E_,Fy];omega)⟩,rfl⟩
 refine Bc<|Ak<|Al<|Gl2 Q2 ?_
 refine Gm C<|Ge0 (Co Q2) ?_
 refine Ga C<|Ga C<|Ar<|A0 (S3 6 5 4)<|B3 ?_
 have hE:O=(ep xs e):=by first|exact hA.fin om asm|exact hA.dj4 om asm
 exact Cs C Q2 C C C mm C (vk 82 a1 c1 (ep xs e)::I) (by unfold vk;rw [←hE];exact Ai) ⟨⟨a1,c1,a2,ak.length,c2⟩,⟨by rw [←hE]<;>rfl,by first|(show _<=2*xs.length+1;omega)|(show _<=2*xs.length+1;simp only [By,E_,Fy];omega)⟩,rfl⟩
end Go.Sl
namespace Go.Sl
open Go.Proofs
set_option maxRecDepth 4000
attribute [local irreducible] W G V D A j8 Eff
theorem ck3{q:Bool}{p:Prop}[Decidable p](h:(!q)=true)(M:q=decide p):¬p:=λhp=>by rw [M,As hp] at h;cases h
theorem ax9{q:Bool}{p:Prop}[Decidable p](h:(!q)=false)(M:q=decide p):p:=Gg λhp=>by rw [M,D_ hp] at h;cases h
theorem dn6{κ:Ctx}{I:List Item}{nd kd wd mo:Int}{va:Value}{xs:List Lk}(hl:Sl κ I va xs):eu Tryz.prog κ 71 [.agg #[e7 nd,va],.agg #[e7 kd,e7 wd,e7 mo]] I (λr J=>∃z:Int,r = .tuple #[e7 z,.bool (decide (ac9 nd xs kd wd mo)),e7 (ds3 nd xs kd wd mo)]/\dn5 nd xs kd wd mo z/\I=J):=by
 refine Bx hl.le λao=>?_
 refine Ce2 Tryz.func71 C C ?_
 refine Al<|Ge1 (Av (cs:=[_,_]) C C C) λb1=>Ge1 (Av (cs:=[_,_,_]) C C C) λb2=>Z ?_
 refine Gc0 (Ab c_ C C<|am2 kd wd mo)<|Z ?_
 refine Ao C (λae=>Z ?_)<|λae=>Z ?_
 ·have hu:ds3 nd xs kd wd mo=s7 kd wd mo:=by unfold ds3;rw [B_ ae]
  have hn:¬ac9 nd xs kd wd mo:=λh=>ae (hu▸h.1)
  exact V.gb8 C C C C I Ah ⟨0,by rw [D_ hn,hu],.none hn,rfl⟩
 refine Gc0 (Ab c_ C C<|Z4 (nd:=nd)<|A3 hl)<|Z ?_
 refine Ao C (λai=>Z ?_)<|λai=>Z ?_
 ·have hu:ds3 nd xs kd wd mo=p9 nd xs:=by unfold ds3;rw [An ae]
  have hn:¬ac9 nd xs kd wd mo:=λh=>ai (hu▸h.1)
  exact V.gb8 C C C C I Ah ⟨0,by rw [D_ hn,hu],.none hn,rfl⟩
 refine Dj (σ:=Nat×Int×Bool) (λs=>[(9,e7<|s.2.1),(10,.bool<|s.2.2),(27,e7 ((s.1:Nat):Int))]) (λ_=>[]) (λs=>(s.1<=xs.length)/\(s.2.2=decide (kd=2/\0<s.1))/\(¬(kd=2/\0<s.1)->s.2.1=0)/\(kd=2/\0<s.1->∃x∈xs,s.2.1=x.tm+wd)/\(kd=2->∀j,j<s.1->s.2.1<=(e_ xs j).tm+wd)) (λs=>xs.length - s.1) (0,0,false) (show ((0:Nat)<=xs.length)/\((false:Bool)=decide (kd=2/\0<(0:Nat)))/\(¬(kd=2/\0<(0:Nat))->(0:Int)=0)/\(kd=2/\0<(0:Nat)->∃x∈xs,(0:Int)=x.tm+wd)/\(kd=2->∀j,j<(0:Nat)->(0:Int)<=(e_ xs j).tm+wd) from ⟨om,(D_<|λh=>absurd h.2 om).symm,(λ_=>rfl),(λh=>absurd h.2 om),(λ_ j hj=>absurd hj om)⟩) ?_
 rintro ⟨k,z,q⟩ hp
 dsimp only at hp ⊢
 obtain ⟨hk,hq,ah,ad,ab⟩:=hp
 refine Z ?_
 refine Ao C (λan=>Z ?_)<|λan=>Z ?_
 ·refine Ge1 (Aj J8 C) λb3=>Ge0 (Fo J8) ?_
  have aq:=bg2 (Fx.1 ai) (k:Int) om om
  have ap:=as8 (Fx.1 ae)
  refine Z ?_
  refine A4 (d:=39) C (λak=>Z ?_)<|λak=>Z ?_
  ·refine G.bc3 (d:=42) C (λM=>Z ?_) (λM=>Z ?_)
   ·exact Bu ((k+1),(((e_ xs k).tm)+wd),(true))<|by dsimp only;exact ⟨om,(by first|exact (As om).symm|(rw [hq,Fw];omega)|(rw [hq,Fw];have hP:=ax9 M hq;omega)),(λh=>by first|omega|exact ah om),(λh=>by first|exact ⟨_,Bo (i:=(k:Int)) om om,rfl⟩|exact ad om|(have hP:=ax9 M hq;exact ad hP)),(λaa=>by first|omega|exact Dq (λj hj=>by first|(have hP:=ck3 M hq;omega)|(have h5:=ab aa j hj;omega)) (Hp _)|exact Dq (ab aa) om)⟩
   refine Ao C (λaj=>Z ?_)<|λaj=>Z ?_
   ·exact Bu ((k+1),(((e_ xs k).tm)+wd),(true))<|by dsimp only;exact ⟨om,(by first|exact (As om).symm|(rw [hq,Fw];omega)|(rw [hq,Fw];have hP:=ax9 M hq;omega)),(λh=>by first|omega|exact ah om),(λh=>by first|exact ⟨_,Bo (i:=(k:Int)) om om,rfl⟩|exact ad om|(have hP:=ax9 M hq;exact ad hP)),(λaa=>by first|omega|exact Dq (λj hj=>by first|(have hP:=ck3 M hq;omega)|(have h5:=ab aa j hj;omega)) (Hp _)|exact Dq (ab aa) om)⟩
   exact Bu ((k+1),(z),(q))<|by dsimp only;exact ⟨om,(by first|exact (As om).symm|(rw [hq,Fw];omega)|(rw [hq,Fw];have hP:=ax9 M hq;omega)),(λh=>by first|omega|exact ah om),(λh=>by first|exact ⟨_,Bo (i:=(k:Int)) om om,rfl⟩|exact ad om|(have hP:=ax9 M hq;exact ad hP)),(λaa=>by first|omega|exact Dq (λj hj=>by first|(have hP:=ck3 M hq;omega)|(have h5:=ab aa j hj;omega)) (Hp _)|exact Dq (ab aa) om)⟩
  exact Bu ((k+1),(z),(q))<|by dsimp only;exact ⟨om,(by first|exact (As om).symm|(rw [hq,Fw];omega)|(rw [hq,Fw];have hP:=ax9 M hq;omega)),(λh=>by first|omega|exact ah om),(λh=>by first|exact ⟨_,Bo (i:=(k:Int)) om om,rfl⟩|exact ad om|(have hP:=ax9 M hq;exact ad hP)),(λaa=>by first|omega|exact Dq (λj hj=>by first|(have hP:=ck3 M hq;omega)|(have h5:=ab aa j hj;omega)) (Hp _)|exact Dq (ab aa) om)⟩
 have hu:ds3 nd xs kd wd mo=0:=bb6 ae ai
 have hc:ac9 nd xs kd wd mo↔(kd=2/\0<k):=⟨λh=>⟨h.2.1,by have:=Lm.2 h.2.2;omega⟩,λh=>⟨hu,h.1,Lm.1 om⟩⟩
 exact V.gb8 C C C C I Ah ⟨z,by rw [hq,show decide (ac9 nd xs kd wd mo)=decide (kd=2/\0<k) from Fw.2 hc,hu],⟨λh=>⟨ad<|hc.1 h,λy hy=>by obtain ⟨j,hj,rfl⟩:=ar2 hy;exact ab (hc.1 h).1 j om⟩,λh=>ah<|λh2=>h<|hc.2 h2⟩,rfl⟩
end Go.Sl
namespace Go.Sl
open Go.Proofs
set_option maxRecDepth 4000
variable{T kd mo wd z:Int}{ys:List Lk}{zs:List Ev}
theorem cv7(hk:kd=2)(h:0<ys.length/\ab4 ys+wd<=T)(M:z=ab4 ys+wd):R6 kd wd mo T (ys,zs)=R6 kd wd mo T (ys.filter (inW kd wd mo z ys),zs++s6 kd wd mo z ys):=by
 subst hk M
 unfold R6
 rw [B_ rfl,B_ rfl]
 exact ae3 h
theorem bn6(h:kd=2->¬(0<ys.length/\ab4 ys+wd<=T)):R6 kd wd mo T (ys,zs)=(ys,zs):=by
 unfold R6
 by_cases hk:kd=2
 ·rw [B_ hk];exact Q6 (h hk)
 rw [An hk]
theorem dn3(hk:kd=2)(h:0<ys.length)(M:z=ab4 ys+wd):(ys.filter (inW kd wd mo z ys)).length<ys.length:=by
 subst hk M
 exact at0 (wd:=wd) (mo:=mo) h
end Go.Sl
namespace Go.Sl
open Go.Proofs
set_option maxRecDepth 4000
attribute [local irreducible] W G V D A j8 Eff
theorem dq7{κ:Ctx}{I:List Item}{nd:Int}{va:Value}{xs:List Lk}(hl:Sl κ I va xs)(hv:p9 nd xs=0)(ao:xs.length<=100000):eu Tryz.prog κ 18 [.agg #[e7 nd,va]] I (λr J=>∃a c,r = .tuple #[.agg #[e7 nd,.slice a (j6 xs).length c],e7 0]/\J=vk 105 a c (j6 xs)::I):=by
 refine Bx hl.le λak=>?_
 refine Ce1 Tryz.func18 C C ?_
 refine Al<|Ge1 (Av (cs:=[_,_]) C C C) λb1=>Ge1 (Aj K0 C) λb2=>Z ?_
 refine Gc0 (Ab c_ C C<|Z4 (nd:=nd)<|A3 hl)<|Z ?_
 refine Ao C (λc11=>?_)<|λc11=>Z ?_
 ·exact absurd hv c11
 refine Ge1 (Aj K0 C) λb3=>Ge0 (Co K0)<|Z ?_
 refine Dj (σ:=Nat×(Option Addr)×Nat×(List Pt)) (λs=>[(20,e7 ((s.1:Nat):Int))]) (λs=>[vk 105 s.2.1 s.2.2.1 s.2.2.2,e8 b3 [e7 nd,.slice s.2.1 s.2.2.2.length s.2.2.1] 38]) (λs=>(s.1<=xs.length)/\(s.2.2.2=j6 (xs.take s.1))) (λs=>xs.length - s.1) (0,none,0,[]) (show ((0:Nat)<=xs.length)/\(([]:List Pt)=j6 (xs.take (0:Nat))) from ⟨om,rfl⟩) (hI:=(A9 (B6 (α:=Pt) _ _) Az)) ?_
 rintro ⟨k,a,c,out⟩ hp
 dsimp only at hp ⊢
 obtain ⟨hk,ho⟩:=hp
 have ap:out.length=k:=by rw [ho,G0,Ft];omega
 refine Z ?_
 refine Ao C (λah=>Z ?_)<|λah=>Z ?_
 ·refine Ge1 (Aj J8 C) λb4=>Ge0 (Fo J8) ?_
  refine Ar<|A8 mixed<|Bv (e8 b4 (kl (e_ xs k)) 82::e8 b2 [e7 0,.slice none 0 0] 38::e8 b1 [e7 nd,va] 35::I) 8<|Z ?_
  refine C5 (rs:=[1,3]) kr C C<|D5 ?_<|Dl ?_
  ·refine Sr C (Be am7) Ai ?_
   refine Ds1 3<|Sc0 C (Ab c_ C C<|ac2<|e_ xs k) ?_
   refine Ds1 4<|Se1 C (B1 (α:=Pt) (cs:=[_,_]) (xs:=[⟨(e_ xs k).p.u,(e_ xs k).p.v⟩]) Ay s9 C C dc dc C C C C) λaq=>?_
   refine Ds1 5<|Se2 C (Bs (α:=Pt) (e:=105) (xs:=out) (ys:=([⟨(e_ xs k).p.u,(e_ xs k).p.v⟩]:List Pt)) Ay s9 C C C mm A5 lcn dc C<|λ_ _=>am) λai ae=>Z ?_
   refine Ds1 7<|Se0 C (Fg am7)<|Z ?_
   exact Bu ((k+1),(ai),(ae),(out++([⟨(e_ xs k).p.u,(e_ xs k).p.v⟩]:List Pt)))<|by dsimp only;exact ⟨om,(by rw [ag1 om,←ho];rfl)⟩
  refine Sc0 C (Ab c_ C C<|ac2<|e_ xs k) ?_
  refine C5 (rs:=[1,4]) kr C C<|D5 ?_<|Dl ?_
  ·refine Sr C (Be am7) Ai ?_
   refine Ds1 4<|Se1 C (B1 (α:=Pt) (cs:=[_,_]) (xs:=[⟨(e_ xs k).p.u,(e_ xs k).p.v⟩]) Ay s9 C C dc dc C C C C) λan=>?_
   refine Ds1 5<|Se2 C (Bs (α:=Pt) (e:=105) (xs:=out) (ys:=([⟨(e_ xs k).p.u,(e_ xs k).p.v⟩]:List Pt)) Ay s9 C C C mm A5 lcn dc C<|λ_ _=>am) λad ab=>Z ?_
   refine Ds1 7<|Se0 C (Fg am7)<|Z ?_
   exact Bu ((k+1),(ad),(ab),(out++([⟨(e_ xs k).p.u,(e_ xs k).p.v⟩]:List Pt)))<|by dsimp only;exact ⟨om,(by rw [ag1 om,←ho];rfl)⟩
  refine Se1 C (B1 (α:=Pt) (cs:=[_,_]) (xs:=[⟨(e_ xs k).p.u,(e_ xs k).p.v⟩]) Ay s9 C C dc dc C C C C) λaj=>?_
  refine Ds1 1<|Sr C (Be am7) Ai ?_
  refine Ds1 5<|Se2 C (Bs (α:=Pt) (e:=105) (xs:=out) (ys:=([⟨(e_ xs k).p.u,(e_ xs k).p.v⟩]:List Pt)) Ay s9 C C C mm A5 lcn dc C<|λ_ _=>am) λaa M=>Z ?_
  refine Ds1 7<|Se0 C (Fg am7)<|Z ?_
  exact Bu ((k+1),(aa),(M),(out++([⟨(e_ xs k).p.u,(e_ xs k).p.v⟩]:List Pt)))<|by dsimp only;exact ⟨om,(by rw [ag1 om,←ho];rfl)⟩
 refine Ge0 (Co K0)<|Z ?_
 have hE:out=j6 xs:=by rw [ho,Fz om]
 exact Cp C K0 C C mm C (vk 105 a c (j6 xs)::I) (by unfold vk;rw [←hE];exact Az) ⟨a,c,by rw [←hE]<;>rfl,rfl⟩
end Go.Sl
namespace Go.Sl
open Go.Proofs
set_option maxRecDepth 4000
end Go.Sl
namespace Go.Sl
end Go.Sl
namespace Go.Sl
open Go.Proofs
set_option maxRecDepth 4000
theorem ai6{nd lv:Int}{es:List Pt}{y:Int}:y∈U9 nd es lv↔(0<=y/\y<(j9 nd es).length)/\lv<=e_ (j9 nd es) y:=by
 unfold U9;rw [ai4,Gs]
theorem bz9{l:List Int}{i:Nat}(hi:i<64):(bd8 l).getLsbD i=true↔(i:Int)∈l:=by
 unfold bd8;rw [ay2 hi];simp
end Go.Sl
namespace Go.Sl
def at7(rows:List (BitVec 64))(k:Nat)(W:BitVec 64):Prop:=∀u∈eo W,k<=Q4 rows W u
theorem bf6{rows:List (BitVec 64)}{W L:BitVec 64}(h:∀u∈eo W,u∈eo L)(v:Int):Q4 rows W v<=Q4 rows L v:=by
 unfold Q4
 refine Ho (R1 _) λx M=>?_
 obtain ⟨h1,h2⟩:=K3.1 M
 exact K3.2 ⟨h1,h x h2⟩
theorem aj3{rows:List (BitVec 64)}{X:BitVec 64->Nat->List (Int×Nat)->Prop}(h0:∀k,X 0#64 k [])
  (hs:∀left k v,ca3 rows left v->X (left &&& ~~~(1#64 <<< v.toNat)) (max k<|Q4 rows left v) (ae2 rows (left &&& ~~~(1#64 <<< v.toNat))<|max k<|Q4 rows left v)->X left k ((v,max k<|Q4 rows left v)::ae2 rows (left &&& ~~~(1#64 <<< v.toNat)) (max k<|Q4 rows left v))) :
  ∀(n:Nat) (left:BitVec 64) (k:Nat),(eo left).length=n->X left k (ae2 rows left k)
 |0,left,k,h=>by
  have:left=0#64:=Gg λhn=>by
   obtain ⟨u,hu⟩:=az9.1 hn
   have:=Kn hu;omega
  subst this
  rw [bm6];exact h0 k
 |n+1,left,k,h=>by
  have M:left≠0#64:=λe=>by subst e;rw [P8] at h;simp at h
  have hT:=bb9 (rows:=rows) M
  rw [bm7 hT]
  have hm:=aa7 hT.mem
  exact hs _ _ _ hT<|aj3 h0 hs n _ _<|by omega
section
variable {rows:List (BitVec 64)}
theorem bm8(left:BitVec 64)(k:Nat):(am5 (ae2 rows left k)).Nodup/\(∀v,v∈am5 (ae2 rows left k)↔v∈eo left):=by
 refine aj3 (rows:=rows) (X:=λleft k l=>(am5 l).Nodup/\∀v,v∈am5 l↔v∈eo left) (λk=>?_) (λleft k v hT ih=>?_) _ left k rfl
 ·refine ⟨List.nodup_nil,λv=>?_⟩
  rw [P8];exact Iff.rfl
 have M:=(T4 hT.mem).1
 obtain ⟨h1,h2⟩:=ih
 refine ⟨Jb.2 ⟨λhm=>((M6 M).1 ((h2 v).1 hm)).2 rfl,h1⟩,λu=>?_⟩
 show u∈v::am5 (ae2 rows _ _)↔_
 rw [F_,h2,M6 M]
 constructor
 ·rintro (rfl|h)
  ·exact hT.mem
  exact h.1
 intro h
 by_cases e:u=v
 ·exact .inl e
 exact .inr ⟨h,e⟩
theorem co8(left:BitVec 64)(k:Nat):∀p∈ae2 rows left k,k<=p.2:=by
 refine aj3 (rows:=rows) (X:=λleft k l=>∀p∈l,k<=p.2) (λk p hp=>by cases hp) (λleft k v hT M p hp=>?_) _ left k rfl
 rcases F_.1 hp with rfl|hp
 ·show k<=max k _;omega
 have:=M p hp;omega
theorem cu8{j:Nat}{W:BitVec 64}(hW:at7 rows j W)(left:BitVec 64)(k:Nat):(∀u∈eo W,u∈eo left)->∀p∈ae2 rows left k,p.1∈eo W->j<=p.2:=by
 refine aj3 (rows:=rows) (X:=λleft k l=>(∀u∈eo W,u∈eo left)->∀p∈l,p.1∈eo W->j<=p.2) (λk _ p hp=>by cases hp) (λleft k v hT ih M p hp aa=>?_) _ left k rfl
 have h0:=(T4 hT.mem).1
 by_cases hv:v∈eo W
 ·have h1:=hW v hv
  have h2:=bf6 (rows:=rows) M v
  rcases F_.1 hp with rfl|hp
  ·show j<=max k _;omega
  have:=co8 _ _ p hp;omega
 rcases F_.1 hp with rfl|hp
 ·exact absurd aa hv
 exact ih (λu hu=>(M6 h0).2 ⟨M u hu,λe=>hv<|e▸hu⟩) p hp aa
theorem cu7(left:BitVec 64)(k0:Nat):∀k,k0<k->∃W:BitVec 64,at7 rows k W/\(∀u∈eo W,u∈eo left)/\∀p∈ae2 rows left k0,k<=p.2↔p.1∈eo W:=by
 refine aj3 (rows:=rows) (X:=λleft k0 l=>∀k,k0<k->∃W:BitVec 64,at7 rows k W/\(∀u∈eo W,u∈eo left)/\∀p∈l,k<=p.2↔p.1∈eo W) (λk0 k hk=>?_) (λleft k0 v M ih k hk=>?_) _ left k0 rfl
 ·refine ⟨0#64,λu hu=>?_,λu hu=>hu,λp hp=>by cases hp⟩
  rw [P8] at hu;cases hu
 have h0:=(T4 M.mem).1
 by_cases hc:k<=max k0 (Q4 rows left v)
 ·refine ⟨left,λu hu=>?_,λu hu=>hu,λp hp=>⟨λ_=>?_,λ_=>?_⟩⟩
  ·have:=M.le u hu;omega
  ·rcases F_.1 hp with rfl|hp
   ·exact M.mem
   have h1:p.1∈am5 (ae2 rows (left &&& ~~~(1#64 <<< v.toNat))<|max k0<|Q4 rows left v):=H1.2 ⟨p,hp,rfl⟩
   exact ((M6 h0).1 (((bm8 _ _).2 _).1 h1)).1
  rcases F_.1 hp with rfl|hp
  ·exact hc
  have:=co8 _ _ p hp;omega
 obtain ⟨W,h1,h2,h3⟩:=ih k (by omega)
 refine ⟨W,h1,λu hu=>((M6 h0).1 (h2 u hu)).1,λp hp=>?_⟩
 rcases F_.1 hp with rfl|hp
 ·exact ⟨λh=>absurd h hc,λh=>absurd rfl ((M6 h0).1 (h2 _ h)).2⟩
 exact h3 p hp
theorem fm5{n:Nat}:∀{l:List (Int×Nat)},(am5 l).Nodup->(∀v∈am5 l,0<=v/\v<(n:Int))->∀p∈l,e_ (bq8 n l) p.1=(p.2:Int):=by
 intro l
 unfold bq8
 have hk:∀(l:List (Int×Nat)) (xs:List Int) (u:Int),0<=u->(∀v∈am5 l,0<=v)->u∉am5 l->e_ (l.foldl (λxs p=>xs.set p.1.toNat (p.2:Int)) xs) u=e_ xs u:=λl=>by
  induction l with
  |nil=>intro xs u _ _ _;rfl
  |cons q l ih=>
   intro xs u hu h0 hn
   have hq:0<=q.1:=h0 q.1 A_
   have ad:u≠q.1:=λe=>hn (by rw [e];exact A_)
   rw [Jc,ih _ u hu (λv hv=>h0 v<|C_ _ hv) λh=>hn<|C_ _ h]
   unfold e_
   rw [Hu,Hu,List.getElem?_set_ne (by omega)]
 have:∀(l:List (Int×Nat)) (xs:List Int),xs.length=n->(am5 l).Nodup->(∀v∈am5 l,0<=v/\v<(n:Int))->∀p∈l,e_ (l.foldl (λxs p=>xs.set p.1.toNat (p.2:Int)) xs) p.1=(p.2:Int):=λl=>by
  induction l with
  |nil=>intro xs _ _ _ p hp;cases hp
  |cons q l ih=>
   intro xs hl hn hr p hp
   obtain ⟨hq,ab⟩:=Jb.1 (show (q.1::am5 l).Nodup from hn)
   have aa:∀v∈am5 l,0<=v/\v<(n:Int):=λv hv=>hr v (C_ _ hv)
   have M:=hr q.1 A_
   rw [Jc]
   rcases F_.1 hp with rfl|hp
   ·rw [hk l _ p.1 M.1 (λv hv=>(aa v hv).1) hq,R5 _ _ _ _ M.1 M.1<|by omega,B_ rfl]
   exact ih _ (by rw [Fs];exact hl) ab aa p hp
 exact λh1 h2=>this l _ Gc h1 h2
end
end Go.Sl
namespace Go.Sl
open Go.Proofs
set_option maxRecDepth 4000
end Go.Sl
