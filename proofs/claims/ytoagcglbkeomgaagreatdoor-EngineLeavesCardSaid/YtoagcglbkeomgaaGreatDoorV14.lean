/- A part of the proofs of statements of this seat: contracts of functions, and the plain laws that they lean on. No conditions. -/
import Derived.Test.YtoagcglbkeomgaaGreatDoorV13
import Derived.OrdersIn
set_option linter.unusedVariables false
set_option linter.unusedSimpArgs false
set_option linter.unusedSectionVars false
namespace Go.Sl
open Go.Proofs
set_option maxRecDepth 4000
set_option maxHeartbeats 4000000 in
theorem ds5{κ:Ctx}{I:List Item}{nd:Int}{e:Ev}{va:Value}{xs:List Lk}(hl:Sl κ I va xs)(aw:q7 nd xs=0)(ao:H7 nd e)(ct:xs.length<=1000000):eu Tryz.prog κ 73 [.agg #[e7 nd,va],.agg (ez e).toArray] I (λr J=>∃y:Option Addr×Nat×Option Addr×Nat×Nat,(r = .tuple #[.agg #[e7 nd,.slice y.1 (ep xs e).length y.2.1],.slice y.2.2.1 y.2.2.2.1 y.2.2.2.2,e7 0]/\y.2.2.2.1<=2*xs.length+1)/\J=vk 82 y.1 y.2.1 (ep xs e)::I):=by
 refine Bv hl.le λcn=>?_
 refine Ce2 Tryz.func73 C C ?_
 refine Ak<|Ge1 (Au (cs:=[_,_]) C C C) λb1=>Ge1 (Au (cs:=[_,_,_,_,_,_,_]) C C C) λb2=>Ge1 (Aj V3 C) λb3=>Ga C<|Ga C<|Ar<|Ax<|Ak<|Gl2 V3 ?_
 refine Gc0 (Ac c_ C C<|Z7 (nd:=nd)<|A4 hl) ?_
 refine Ga C<|Ar<|Ak<|Gm C<|Gr (Cb C C)<|Ar<|Am C (λay=>?_)<|λay=>?_
 ·exact absurd aw ay
 refine Bc<|Ao<|Ax<|Ak<|Gl7 s9 ?_
 refine Gc0 (Ac c_ C C<|Z8 e) ?_
 refine Ga C<|Ar<|A1 (S4 8 4 3 2)<|Ak<|Gm C<|Gr (Cb C C)<|Ar<|Am C (λbk=>?_)<|λbk=>?_
 ·exact absurd ao.chk bk
 refine Bc<|Ao<|Ax<|Ak<|Gf L5 C<|Gl ef ?_
 refine Gf aj4 C<|Gl ef ?_
 refine Gr (j8.geq C C)<|Gm C<|A3 (d:=33) C (λb8=>?_)<|λb8=>?_
 ·exact absurd ao.fits om
 refine e9 (Af H6 C)<|e9 (Bd ef) ?_
 refine e9 (Af aj4 C)<|e9 (Bd ef) ?_
 refine e9 (j8.geq C C)<|Gr (Bo C C)<|Ar<|A1 (S4 39 4 3 2)<|Am C (λbw=>?_)<|λbw=>?_
 ·exact absurd ao.fits om
 refine Bc<|Ao<|Ak<|Gf aj4 C<|Gl ef ?_
 refine Gr (Cl (cells:=[_,_]) V3 Tryz.underlying35 gf5 C C)<|Ge1 (Aj V3 C) λb4=>Ge0 (Cs V3) ?_
 refine Ar<|Ak<|Ga C ?_
 have ae:=(Q4 aw).2.2
 have cw:=ao.kind
 refine Ar<|Ak<|Gf L5 C<|Gl ef ?_
 refine Gf H6 C<|Gl ef ?_
 refine Gr (j8.min C C)<|Gf L5 C<|Gl ef ?_
 refine Gf H6 C<|Gl ef ?_
 refine Gr (E9 C C)<|Gf bs4 C<|Gl ef ?_
 refine Gf bf2 C<|Gl ef ?_
 refine Gf bf1 C<|Gl ef ?_
 refine Gf R0 C<|Gl ef ?_
 refine Gr (Cl (cells:=[_,_,_,_,_,_]) J2 Tryz.underlying82 gj9 C C)<|Ge1 (Aj J2 C) λb5=>Ge0 (Fb J2) ?_
 show G Tryz.prog κ _ _ _ _ ([(11,pt b5),(62,.agg #[e7 (if e.v<e.u then e.v else e.u),e7 (if e.u<e.v then e.v else e.u),e7<|e.w,e7<|e.lb,e7<|e.sg,e7<|e.tm]),(61,e7<|e.tm),(60,.pointer<|some ⟨b2,1,none⟩),(59,e7<|e.sg),(58,.pointer<|some ⟨b2,6,none⟩),(57,e7<|e.lb),(56,.pointer<|some ⟨b2,5,none⟩),(55,e7<|e.w),(54,.pointer<|some ⟨b2,4,none⟩),(53,e7 (if e.u<e.v then e.v else e.u)),(52,e7<|e.v),(51,.pointer<|some ⟨b2,3,none⟩),(50,e7<|e.u),(49,.pointer<|some ⟨b2,2,none⟩),(48,e7 (if e.v<e.u then e.v else e.u)),(47,e7<|e.v),(46,.pointer<|some ⟨b2,3,none⟩),(45,e7<|e.u),(44,.pointer<|some ⟨b2,2,none⟩),(10,.slice none 0 0),(9,pt b4),(43,.agg #[e7 nd,.slice none 0 0]),(42,e7 nd),(41,pt b1),(39,.bool<|decide<|nd<=e.v),(4,pt b3),(3,pt b2),(2,pt b1)]:Env) (e8 b5 (kl (eh e)) 82::e8 b4 [e7 nd,.slice none 0 0] 35::e8 b3 [e7 0,.slice none 0 0] 35::e8 b2 (ez e) 54::e8 b1 [e7 nd,va] 35::I)
 refine Ar<|A1 (S6 11 10 9 4 3 2)<|Ak<|Gf X0 C<|Gl ef ?_
 refine Gr (Cb C C)<|Ga C<|Ar<|Ax<|Ak<|Gf L6 C<|Gl ap3 ?_
 refine Gr (E1 (α:=Lk) (xs:=xs) A0 C<|A4 hl)<|Gm C<|Ar<|A1 (S9 69 68 67 12 11 10 9 4 3)<|A7<|B9 (σ:=Nat×(Option Addr)×Nat×(Option Addr)×Nat×(List Lk)×(List Ev)×Bool) (λs=>([(3,pt b2),(4,pt b3),(9,pt b4),(10,.slice s.2.2.2.1 s.2.2.2.2.2.2.1.length s.2.2.2.2.1),(11,pt b5),(12,.bool<|s.2.2.2.2.2.2.2),(67,va),(68,e7 ((xs.length:Nat):Int)),(69,e7 ((s.1:Nat):Int))]:Env)) (λs=>e8 b4 [e7 nd,.slice s.2.1 s.2.2.2.2.2.1.length s.2.2.1] 35::vk 82 s.2.1 s.2.2.1 s.2.2.2.2.2.1::vk 54 s.2.2.2.1 s.2.2.2.2.1 s.2.2.2.2.2.2.1::e8 b5 (kl (eh e)) 82::e8 b3 [e7 0,.slice none 0 0] 35::e8 b2 (ez e) 54::e8 b1 [e7 nd,va] 35::I) (λs=>(s.1<=xs.length)/\(ApI xs e s.1 s.2.2.2.2.2.1 s.2.2.2.2.2.2.2)/\(s.2.2.2.2.2.2.1.length<=2*s.1)) (λs=>xs.length - s.1) (0,none,0,none,0,[],[],decide<|e.kd≠1) (show ((0:Nat)<=xs.length)/\(ApI xs e (0:Nat) ([]:List Lk) (decide (e.kd≠1):Bool))/\(([]:List Ev).length<=2*(0:Nat)) from ⟨om,ApI.start,(by simp)⟩) (cx2<|Aa C<|Aa (Db C<|by first|rfl|simp)<|Aa C<|Aa (Db C<|by first|rfl|simp)<|cx2<|Aa Co Bb) (show Fit κ _ (e8 b4 [e7 nd,.slice none ([]).length 0] 35::vk 82 none 0 ([])::vk 54 none 0 ([])::e8 b5 (kl (eh e)) 82::e8 b3 [e7 0,.slice none 0 0] 35::e8 b2 (ez e) 54::e8 b1 [e7 nd,va] 35::I) from (A9 (B7 54 _)<|A9 (B7 82 _) Az)) ?_
 rintro ⟨k,a1,c1,a2,c2,O,aj,q⟩ hp
 dsimp only at hp ⊢
 obtain ⟨hk,hA,cp⟩:=hp
 refine Ak<|Gr (Bl C C)<|Ar<|Ax<|Am C (λca=>?_)<|λca=>?_
 ·refine Bc (Ao<|Ax<|A7<|Ak<|Gr (A2 (α:=Lk) (xs:=xs) A0 J2 C C (A4 hl) om om)<|Gr (C6 (α:=Lk) (xs:=xs) J2 C (A4 hl) om om)<|Ge1 (Aj J2 C) λb6=>Ge0 (Fb J2) ?_)
  refine Ar<|W.cut (σ:=(Option Addr)×Nat×(Option Addr)×Nat×(List Lk)×(List Ev)×Bool) (λs=>([(3,pt b2),(4,pt b3),(9,pt b4),(10,.slice s.2.2.1 s.2.2.2.2.2.1.length s.2.2.2.1),(11,pt b5),(12,.bool<|s.2.2.2.2.2.2),(14,pt b6),(67,va),(68,e7 ((xs.length:Nat):Int)),(69,e7<|(k:Int))]:Env)) (λs=>e8 b4 [e7 nd,.slice s.1 s.2.2.2.2.1.length s.2.1] 35::vk 82 s.1 s.2.1 s.2.2.2.2.1::vk 54 s.2.2.1 s.2.2.2.1 s.2.2.2.2.2.1::e8 b6 (kl (e_ xs k)) 82::e8 b5 (kl (eh e)) 82::e8 b3 [e7 0,.slice none 0 0] 35::e8 b2 (ez e) 54::e8 b1 [e7 nd,va] 35::I) (λs=>(ApI xs e k s.2.2.2.2.1 s.2.2.2.2.2.2)/\((!s.2.2.2.2.2.2)=true->¬Pt.lt (eh e).p (e_ xs k).p)/\(s.2.2.2.2.2.1.length<=2*k+1)) ?_ ?_
  ·refine Ax (Ba mixed<|Bx (e8 b6 (kl (e_ xs k)) 82::e8 b4 [e7 nd,.slice a1 O.length c1] 35::vk 82 a1 c1 O::vk 54 a2 c2 aj::e8 b5 (kl (eh e)) 82::e8 b3 [e7 0,.slice none 0 0] 35::e8 b2 (ez e) 54::e8 b1 [e7 nd,va] 35::I) 9<|Dr 0 C (Aq C)<|Dr 1 C (E3 C)<|Dr 2 C (Aq C)<|D.bk8 (d:=75) C (λak=>?_)<|λak=>?_)
   ·refine Dro 3 C (Bm (vs:=[_,_,_,_,_,_]) J2) ?_
    refine Dro 5 C (Bm (vs:=[_,_,_,_,_,_]) J2) ?_
    refine Ds1 4<|Sc0 C (Ac c_ C C<|ac4<|eh e) ?_
    refine Ds1 6<|Sc0 C (Ac c_ C C<|ac4<|e_ xs k) ?_
    refine Ds1 7<|Sc0 C (Ac c_ C C<|ag8 (eh e).p (e_ xs k).p) ?_
    refine Dr 8 C (Bz C C)<|Dz<|Ao<|A1 (S11 81 14 3 4 9 10 11 12 67 68 69)<|Am C (λan=>?_)<|λan=>?_
    ·refine Ba mixed (Bx (e8 b6 (kl (e_ xs k)) 82::e8 b5 (kl (eh e)) 82::e8 b3 [e7 0,.slice none 0 0] 35::e8 b2 (ez e) 54::e8 b1 [e7 nd,va] 35::I) 16<|Dr 0 C (Af L6 C)<|Dr 2 C (Bm (vs:=[_,_,_,_,_,_]) J2) ?_)
     refine Dr 5 C (Aq C)<|Dr 6 C (Bm (vs:=[_,_,_,_,_,_]) J2) ?_
     refine Dr 7 C (Af R0 C)<|Dr 8 C (Bd ef) ?_
     refine C9 (rs:=[1,3]) kr C C<|Ej ?_<|Do ?_
     ·refine Sr C (Bd ap3) Ai ?_
      refine Ds1 3<|Se1 C (B2 (α:=Lk) (cs:=(kl (eh e))) (xs:=[⟨(eh e).u,(eh e).v,(eh e).w,(eh e).lb,(eh e).sg,(eh e).tm⟩]) A0 J2 C C dc dc C kr C C) λcq=>?_
      refine Ds1 4<|Se2 C (Br (α:=Lk) (e:=82) (xs:=O) (ys:=([⟨(eh e).u,(eh e).v,(eh e).w,(eh e).lb,(eh e).sg,(eh e).tm⟩]:List Lk)) A0 J2 C C C mm A5 (by have ah:=hA.len;first|(simp only [By,E_,Fu];omega)|(have ai:=aa.len;simp only [By,E_,Fu];omega)) dc C<|λ_ _=>am) λb9 b7=>?_
      refine Dr 12 C (Af L6 C)<|Ds1 9<|Sc0 C (Ac c_ C C<|bh6 (eh e) e.tm) ?_
      refine Ds1 10<|Se1 C (B2 (α:=Ev) (cs:=[e7 1,e7<|e.tm,e7<|(eh e).u,e7<|(eh e).v,e7<|(eh e).w,e7<|(eh e).lb,e7<|(eh e).sg]) (xs:=[⟨1,e.tm,(eh e).u,(eh e).v,(eh e).w,(eh e).lb,(eh e).sg⟩]) Ad s9 C C dc dc C kr C C) λci=>?_
      refine Ds1 11<|Se2 C (Br (α:=Ev) (e:=54) (xs:=aj) (ys:=([⟨1,e.tm,(eh e).u,(eh e).v,(eh e).w,(eh e).lb,(eh e).sg⟩]:List Ev)) Ad s9 C C C mm A5 (by have ah:=hA.len;first|(simp only [By,E_,Fu];omega)|(have ai:=aa.len;simp only [By,E_,Fu];omega)) dc C<|λ_ _=>am) λbp bc=>?_
      refine Ds1 13<|Se0 C (Fc ap3) ?_
      exact Dr 14 C (Bh C)<|Dr 15 C (Bh C)<|Dz<|Dm ((b9),(b7),(bp),(bc),(O++([⟨(eh e).u,(eh e).v,(eh e).w,(eh e).lb,(eh e).sg,(eh e).tm⟩]:List Lk)),(aj++([⟨1,e.tm,(eh e).u,(eh e).v,(eh e).w,(eh e).lb,(eh e).sg⟩]:List Ev)),(true))<|by dsimp only;exact ⟨(by first|exact hA.ins ae om ak an|exact hA),(by intro h;first|exact absurd h dc|exact an|(rw [h] at ak;cases ak)),olp⟩
     refine Se1 C (B2 (α:=Lk) (cs:=(kl (eh e))) (xs:=[⟨(eh e).u,(eh e).v,(eh e).w,(eh e).lb,(eh e).sg,(eh e).tm⟩]) A0 J2 C C dc dc C kr C C) λcd=>?_
     refine Ds1 1<|Sr C (Bd ap3) Ai ?_
     refine Ds1 4<|Se2 C (Br (α:=Lk) (e:=82) (xs:=O) (ys:=([⟨(eh e).u,(eh e).v,(eh e).w,(eh e).lb,(eh e).sg,(eh e).tm⟩]:List Lk)) A0 J2 C C C mm A5 (by have ah:=hA.len;first|(simp only [By,E_,Fu];omega)|(have ai:=aa.len;simp only [By,E_,Fu];omega)) dc C<|λ_ _=>am) λbg ba=>?_
     refine Dr 12 C (Af L6 C)<|Ds1 9<|Sc0 C (Ac c_ C C<|bh6 (eh e) e.tm) ?_
     refine Ds1 10<|Se1 C (B2 (α:=Ev) (cs:=[e7 1,e7<|e.tm,e7<|(eh e).u,e7<|(eh e).v,e7<|(eh e).w,e7<|(eh e).lb,e7<|(eh e).sg]) (xs:=[⟨1,e.tm,(eh e).u,(eh e).v,(eh e).w,(eh e).lb,(eh e).sg⟩]) Ad s9 C C dc dc C kr C C) λck=>?_
     refine Ds1 11<|Se2 C (Br (α:=Ev) (e:=54) (xs:=aj) (ys:=([⟨1,e.tm,(eh e).u,(eh e).v,(eh e).w,(eh e).lb,(eh e).sg⟩]:List Ev)) Ad s9 C C C mm A5 (by have ah:=hA.len;first|(simp only [By,E_,Fu];omega)|(have ai:=aa.len;simp only [By,E_,Fu];omega)) dc C<|λ_ _=>am) λbj bb=>?_
     refine Ds1 13<|Se0 C (Fc ap3) ?_
     exact Dr 14 C (Bh C)<|Dr 15 C (Bh C)<|Dz<|Dm ((bg),(ba),(bj),(bb),(O++([⟨(eh e).u,(eh e).v,(eh e).w,(eh e).lb,(eh e).sg,(eh e).tm⟩]:List Lk)),(aj++([⟨1,e.tm,(eh e).u,(eh e).v,(eh e).w,(eh e).lb,(eh e).sg⟩]:List Ev)),(true))<|by dsimp only;exact ⟨(by first|exact hA.ins ae om ak an|exact hA),(by intro h;first|exact absurd h dc|exact an|(rw [h] at ak;cases ak)),olp⟩
    exact Bc<|Dm ((a1),(c1),(a2),(c2),(O),(aj),(q))<|by dsimp only;exact ⟨(by first|exact hA.ins ae om ak an|exact hA),(by intro h;first|exact absurd h dc|exact an|(rw [h] at ak;cases ak)),olp⟩
   exact Dpo 3 C<|Dpo 5 C<|Dpo 4 C<|Dpo 6 C<|Dpo 7 C<|Dr 8 C (Bo C C)<|Dz<|Ao<|A1 (S11 81 14 3 4 9 10 11 12 67 68 69)<|W.no C<|Bc<|Dm ((a1),(c1),(a2),(c2),(O),(aj),(q))<|by dsimp only;exact ⟨(by first|exact hA.ins ae om ak an|exact hA),(by intro h;first|exact absurd h dc|exact an|(rw [h] at ak;cases ak)),olp⟩
  rintro ⟨a3,c3,a4,c4,O2,M,q2⟩ hp
  obtain ⟨aa,hM,cr⟩:(ApI xs e k O2 q2)/\((!q2)=true->¬Pt.lt (eh e).p (e_ xs k).p)/\(M.length<=2*k+1):=hp
  show W Tryz.prog κ 180 _ _ ([(3,pt b2),(4,pt b3),(9,pt b4),(10,.slice a4 M.length c4),(11,pt b5),(12,.bool q2),(14,pt b6),(67,va),(68,e7 ((xs.length:Nat):Int)),(69,e7<|(k:Int))]:Env) (e8 b4 [e7 nd,.slice a3 O2.length c3] 35::vk 82 a3 c3 O2::vk 54 a4 c4 M::e8 b6 (kl (e_ xs k)) 82::e8 b5 (kl (eh e)) 82::e8 b3 [e7 0,.slice none 0 0] 35::e8 b2 (ez e) 54::e8 b1 [e7 nd,va] 35::I)
  refine Ax<|Ba mixed<|Bx (e8 b4 [e7 nd,.slice a3 O2.length c3] 35::vk 82 a3 c3 O2::vk 54 a4 c4 M::e8 b6 (kl (e_ xs k)) 82::e8 b5 (kl (eh e)) 82::e8 b3 [e7 0,.slice none 0 0] 35::e8 b2 (ez e) 54::e8 b1 [e7 nd,va] 35::I) 6<|Dr 0 C (Bm (vs:=[_,_,_,_,_,_]) J2) ?_
  refine Dr 2 C (Bm (vs:=[_,_,_,_,_,_]) J2) ?_
  refine Ds1 1<|Sc0 C (Ac c_ C C<|ac4<|e_ xs k) ?_
  refine Ds1 3<|Sc0 C (Ac c_ C C<|ac4<|eh e) ?_
  refine Dr 4 C (j8.fu1 (α:=Pt) (a:=(e_ xs k).p) (b:=(eh e).p) ay7 C C)<|Dr 5 C (Bh C)<|Dz<|Ao<|A1 (S11 15 3 4 9 10 11 12 14 67 68 69)<|A7<|W.cut (σ:=Bool) (λs=>([(3,pt b2),(4,pt b3),(9,pt b4),(10,.slice a4 M.length c4),(11,pt b5),(12,.bool q2),(14,pt b6),(15,.bool<|decide<|((e_ xs k).p)=((eh e).p)),(67,va),(68,e7 ((xs.length:Nat):Int)),(69,e7<|(k:Int)),(106,.bool s)]:Env)) (λs=>e8 b4 [e7 nd,.slice a3 O2.length c3] 35::vk 82 a3 c3 O2::vk 54 a4 c4 M::e8 b6 (kl (e_ xs k)) 82::e8 b5 (kl (eh e)) 82::e8 b3 [e7 0,.slice none 0 0] 35::e8 b2 (ez e) 54::e8 b1 [e7 nd,va] 35::I) (λs=>(s=decide (e.kd=1/\(e_ xs k).p=(eh e).p))) ?_ ?_
  ·refine A6 (Gf X0 C<|Gl ef ?_)
   refine Gr (Cx C C)<|Gm C<|A3 (d:=110) C (λa5=>?_)<|λa5=>?_
   ·exact e9 (Aq C)<|Gr (Bz C C)<|Ga C<|Bq<|Dm ((decide<|((e_ xs k).p)=((eh e).p))) (by first|exact Fs.2 ⟨λh=>⟨by omega,h⟩,λh=>h.2⟩|exact (D_<|λh=>by omega).symm) (hI:=by (try dsimp only);exact (Dd _))
   exact eb<|Gr (Bo C C)<|Ga C<|Bq<|Dm ((false)) (by first|exact Fs.2 ⟨λh=>⟨by omega,h⟩,λh=>h.2⟩|exact (D_<|λh=>by omega).symm) (hI:=by (try dsimp only);exact (Dd _))
  rintro y hp
  have hy:(y=decide (e.kd=1/\(e_ xs k).p=(eh e).p)):=hp
  show W Tryz.prog κ 180 _ _ ([(3,pt b2),(4,pt b3),(9,pt b4),(10,.slice a4 M.length c4),(11,pt b5),(12,.bool q2),(14,pt b6),(15,.bool<|decide<|((e_ xs k).p)=((eh e).p)),(67,va),(68,e7 ((xs.length:Nat):Int)),(69,e7<|(k:Int)),(106,.bool y)]:Env) (e8 b4 [e7 nd,.slice a3 O2.length c3] 35::vk 82 a3 c3 O2::vk 54 a4 c4 M::e8 b6 (kl (e_ xs k)) 82::e8 b5 (kl (eh e)) 82::e8 b3 [e7 0,.slice none 0 0] 35::e8 b2 (ez e) 54::e8 b1 [e7 nd,va] 35::I)
  refine Dp C (λab=>?_)<|λab=>?_
  ·refine Ax (Ak<|Gl6 J2 ?_)
   refine Gl6 J2 ?_
   refine Gr (j8.fz0 (α:=Lk) (a:=(e_ xs k)) (b:=(eh e)) dz5 C C)<|Ar<|A1 (S9 115 3 4 9 10 11 67 68 69)<|Am C (λa8=>?_)<|λa8=>?_
   ·refine A6 (Gm C<|Gl6 J2 ?_)
    refine Gf R0 C<|Gl ef ?_
    refine Gc0 (Ac c_ C C<|bh6 (eh e) e.tm) ?_
    refine Ge1 (B2 (α:=Ev) (cs:=[e7 1,e7<|e.tm,e7<|(eh e).u,e7<|(eh e).v,e7<|(eh e).w,e7<|(eh e).lb,e7<|(eh e).sg]) (xs:=[⟨1,e.tm,(eh e).u,(eh e).v,(eh e).w,(eh e).lb,(eh e).sg⟩]) Ad s9 C C dc dc C kr C C) λch=>?_
    refine Ge2 (Br (α:=Ev) (e:=54) (xs:=M) (ys:=([⟨1,e.tm,(eh e).u,(eh e).v,(eh e).w,(eh e).lb,(eh e).sg⟩]:List Ev)) Ad s9 C C C mm A5 (by have ah:=hA.len;first|(simp only [By,E_,Fu];omega)|(have ai:=aa.len;simp only [By,E_,Fu];omega)) dc C<|λ_ _=>am) λbn bm=>?_
    refine Ga C<|Ar<|A1 (S8 10 3 4 9 11 67 68 69)<|A6<|Gf L6 C<|Gl ap3 ?_
    refine Gl6 J2 ?_
    refine Ge1 (B2 (α:=Lk) (cs:=(kl (eh e))) (xs:=[⟨(eh e).u,(eh e).v,(eh e).w,(eh e).lb,(eh e).sg,(eh e).tm⟩]) A0 J2 C C dc dc C kr C C) λcf=>?_
    refine Ge2 (Br (α:=Lk) (e:=82) (xs:=O2) (ys:=([⟨(eh e).u,(eh e).v,(eh e).w,(eh e).lb,(eh e).sg,(eh e).tm⟩]:List Lk)) A0 J2 C C C mm A5 (by have ah:=hA.len;first|(simp only [By,E_,Fu];omega)|(have ai:=aa.len;simp only [By,E_,Fu];omega)) dc C<|λ_ _=>am) λaz bh=>?_
    refine Gf L6 C<|Ge0 (Fc ap3) ?_
    exact Ga C<|Bq<|Av<|Av<|Ao<|A1 (S9 12 10 3 4 9 11 67 68 69)<|A6<|Gr (Rad C C)<|Gm C<|Bq<|Bt ((k+1),(az),(bh),(bn),(bm),(O2++([⟨(eh e).u,(eh e).v,(eh e).w,(eh e).lb,(eh e).sg,(eh e).tm⟩]:List Lk)),(M++([⟨1,e.tm,(eh e).u,(eh e).v,(eh e).w,(eh e).lb,(eh e).sg⟩]:List Ev)),(true))<|by dsimp only;exact ⟨om,(by first|exact aa.hit ae om (Fq<|hy.symm.trans ab).1 (Fq<|hy.symm.trans ab).2|exact aa.drop om (Fq<|hz.symm.trans ad).1 (Fq<|hz.symm.trans ad).2|exact aa.fo6 ae om hM (λh1 h2=>Ja (hy.symm.trans ab) ⟨h1,h2⟩) (λh1=>Gb λhh=>Ja (hz.symm.trans ad) ⟨h1,by simpa using hh⟩)),olp⟩
   refine Bc<|Ao<|A6<|Gf L6 C<|Gl ap3 ?_
   refine Gl6 J2 ?_
   refine Ge1 (B2 (α:=Lk) (cs:=(kl (eh e))) (xs:=[⟨(eh e).u,(eh e).v,(eh e).w,(eh e).lb,(eh e).sg,(eh e).tm⟩]) A0 J2 C C dc dc C kr C C) λcc=>?_
   refine Ge2 (Br (α:=Lk) (e:=82) (xs:=O2) (ys:=([⟨(eh e).u,(eh e).v,(eh e).w,(eh e).lb,(eh e).sg,(eh e).tm⟩]:List Lk)) A0 J2 C C C mm A5 (by have ah:=hA.len;first|(simp only [By,E_,Fu];omega)|(have ai:=aa.len;simp only [By,E_,Fu];omega)) dc C<|λ_ _=>am) λbu a7=>?_
   refine Gf L6 C<|Ge0 (Fc ap3) ?_
   exact Ga C<|Bq<|Av<|Av<|Ao<|A1 (S9 12 3 4 9 10 11 67 68 69)<|A6<|Gr (Rad C C)<|Gm C<|Bq<|Bt ((k+1),(bu),(a7),(a4),(c4),(O2++([⟨(eh e).u,(eh e).v,(eh e).w,(eh e).lb,(eh e).sg,(eh e).tm⟩]:List Lk)),(M),(true))<|by dsimp only;exact ⟨om,(by first|exact aa.hit ae om (Fq<|hy.symm.trans ab).1 (Fq<|hy.symm.trans ab).2|exact aa.drop om (Fq<|hz.symm.trans ad).1 (Fq<|hz.symm.trans ad).2|exact aa.fo6 ae om hM (λh1 h2=>Ja (hy.symm.trans ab) ⟨h1,h2⟩) (λh1=>Gb λhh=>Ja (hz.symm.trans ad) ⟨h1,by simpa using hh⟩)),olp⟩
  refine W.cut (σ:=Bool) (λs=>([(3,pt b2),(4,pt b3),(9,pt b4),(10,.slice a4 M.length c4),(11,pt b5),(12,.bool q2),(14,pt b6),(67,va),(68,e7 ((xs.length:Nat):Int)),(69,e7<|(k:Int)),(129,.bool s)]:Env)) (λs=>e8 b4 [e7 nd,.slice a3 O2.length c3] 35::vk 82 a3 c3 O2::vk 54 a4 c4 M::e8 b6 (kl (e_ xs k)) 82::e8 b5 (kl (eh e)) 82::e8 b3 [e7 0,.slice none 0 0] 35::e8 b2 (ez e) 54::e8 b1 [e7 nd,va] 35::I) (λs=>(s=decide (e.kd≠1/\ah5 e (e_ xs k)=true))) ?_ ?_
  ·refine A6 (Gf X0 C<|Gl ef ?_)
   refine Gr (Cx C C)<|Gm C<|A3 (d:=133) C (λa9=>?_)<|λa9=>?_
   ·refine e9 (Aq C) (Gr (Bz C C)<|Gm C<|A3 (d:=136) C (λbq=>?_)<|λbq=>?_)
    ·exact eb<|eb<|eb<|eb<|ee<|ee<|ee<|ee<|ee<|ee<|ee<|ee<|ee<|ee<|ee<|ee<|eb<|Gr (Bz C C)<|Ga C<|Bq<|Dm ((true)) (by first|(exfalso;omega)|exact (As ⟨by omega,by first|(rw [T3 om];exact As asm)|(rw [H5 om];exact As om)⟩).symm|exact (D_<|λh=>by first|omega|(have h2:=h.2;first|(rw [T3 om] at h2;exact absurd (Fq h2) asm)|(rw [H5 om] at h2;have h3:=Fq h2;omega))).symm|exact Fs.2 ⟨λh=>⟨by omega,by rw [H5 om];exact As<|.inr h⟩,λh=>by have h2:=h.2;rw [H5 om] at h2;have h3:=Fq h2;omega⟩) (hI:=by (try dsimp only);exact (Dd _))
    refine e9 (Af X0 C)<|e9 (Bd ef) ?_
    refine e9 (Cx C C)<|e9 (Aq C)<|A3 (d:=140) C (λap=>?_)<|λap=>?_
    ·refine e9 (Af aw6 C) (e9 (Bd ef) ?_)
     refine e9 (Af L5 C)<|e9 (Bd ef) ?_
     refine e9 (Cx C C)<|e9 (Aq C)<|A3 (d:=146) C (λaq=>?_)<|λaq=>?_
     ·exact eb<|eb<|eb<|eb<|eb<|e9 (Bz C C)<|e9 (Bz C C)<|Gr (Bo C C)<|Ga C<|Bq<|Dm ((true)) (by first|(exfalso;omega)|exact (As ⟨by omega,by first|(rw [T3 om];exact As asm)|(rw [H5 om];exact As om)⟩).symm|exact (D_<|λh=>by first|omega|(have h2:=h.2;first|(rw [T3 om] at h2;exact absurd (Fq h2) asm)|(rw [H5 om] at h2;have h3:=Fq h2;omega))).symm|exact Fs.2 ⟨λh=>⟨by omega,by rw [H5 om];exact As<|.inr h⟩,λh=>by have h2:=h.2;rw [H5 om] at h2;have h3:=Fq h2;omega⟩) (hI:=by (try dsimp only);exact (Dd _))
     refine e9 (Af W9 C)<|e9 (Bd ef) ?_
     refine e9 (Af L5 C)<|e9 (Bd ef) ?_
     exact e9 (Cx C C)<|e9 (Bo C C)<|e9 (Bz C C)<|Gr (Bo C C)<|Ga C<|Bq<|Dm ((decide<|((e_ xs k).v)=e.u)) (by first|(exfalso;omega)|exact (As ⟨by omega,by first|(rw [T3 om];exact As asm)|(rw [H5 om];exact As om)⟩).symm|exact (D_<|λh=>by first|omega|(have h2:=h.2;first|(rw [T3 om] at h2;exact absurd (Fq h2) asm)|(rw [H5 om] at h2;have h3:=Fq h2;omega))).symm|exact Fs.2 ⟨λh=>⟨by omega,by rw [H5 om];exact As<|.inr h⟩,λh=>by have h2:=h.2;rw [H5 om] at h2;have h3:=Fq h2;omega⟩) (hI:=by (try dsimp only);exact (Dd _))
    exact eb<|eb<|eb<|eb<|eb<|eb<|ee<|ee<|ee<|ee<|ee<|eb<|e9 (Bo C C)<|Gr (Bo C C)<|Ga C<|Bq<|Dm ((false)) (by first|(exfalso;omega)|exact (As ⟨by omega,by first|(rw [T3 om];exact As asm)|(rw [H5 om];exact As om)⟩).symm|exact (D_<|λh=>by first|omega|(have h2:=h.2;first|(rw [T3 om] at h2;exact absurd (Fq h2) asm)|(rw [H5 om] at h2;have h3:=Fq h2;omega))).symm|exact Fs.2 ⟨λh=>⟨by omega,by rw [H5 om];exact As<|.inr h⟩,λh=>by have h2:=h.2;rw [H5 om] at h2;have h3:=Fq h2;omega⟩) (hI:=by (try dsimp only);exact (Dd _))
   refine eb<|Gr (Bo C C)<|Gm C<|e9 (Af X0 C)<|e9 (Bd ef) ?_
   refine e9 (Cx C C)<|e9 (Aq C)<|A3 (d:=140) C (λap=>?_)<|λap=>?_
   ·refine e9 (Af aw6 C) (e9 (Bd ef) ?_)
    refine e9 (Af L5 C)<|e9 (Bd ef) ?_
    refine e9 (Cx C C)<|e9 (Aq C)<|A3 (d:=146) C (λaq=>?_)<|λaq=>?_
    ·exact eb<|eb<|eb<|eb<|eb<|e9 (Bz C C)<|e9 (Bz C C)<|Gr (Bo C C)<|Ga C<|Bq<|Dm ((true)) (by first|(exfalso;omega)|exact (As ⟨by omega,by first|(rw [T3 om];exact As asm)|(rw [H5 om];exact As om)⟩).symm|exact (D_<|λh=>by first|omega|(have h2:=h.2;first|(rw [T3 om] at h2;exact absurd (Fq h2) asm)|(rw [H5 om] at h2;have h3:=Fq h2;omega))).symm|exact Fs.2 ⟨λh=>⟨by omega,by rw [H5 om];exact As<|.inr h⟩,λh=>by have h2:=h.2;rw [H5 om] at h2;have h3:=Fq h2;omega⟩) (hI:=by (try dsimp only);exact (Dd _))
    refine e9 (Af W9 C)<|e9 (Bd ef) ?_
    refine e9 (Af L5 C)<|e9 (Bd ef) ?_
    exact e9 (Cx C C)<|e9 (Bo C C)<|e9 (Bz C C)<|Gr (Bo C C)<|Ga C<|Bq<|Dm ((decide<|((e_ xs k).v)=e.u)) (by first|(exfalso;omega)|exact (As ⟨by omega,by first|(rw [T3 om];exact As asm)|(rw [H5 om];exact As om)⟩).symm|exact (D_<|λh=>by first|omega|(have h2:=h.2;first|(rw [T3 om] at h2;exact absurd (Fq h2) asm)|(rw [H5 om] at h2;have h3:=Fq h2;omega))).symm|exact Fs.2 ⟨λh=>⟨by omega,by rw [H5 om];exact As<|.inr h⟩,λh=>by have h2:=h.2;rw [H5 om] at h2;have h3:=Fq h2;omega⟩) (hI:=by (try dsimp only);exact (Dd _))
   exact eb<|eb<|eb<|eb<|eb<|eb<|ee<|ee<|ee<|ee<|ee<|eb<|e9 (Bo C C)<|Gr (Bo C C)<|Ga C<|Bq<|Dm ((false)) (by first|(exfalso;omega)|exact (As ⟨by omega,by first|(rw [T3 om];exact As asm)|(rw [H5 om];exact As om)⟩).symm|exact (D_<|λh=>by first|omega|(have h2:=h.2;first|(rw [T3 om] at h2;exact absurd (Fq h2) asm)|(rw [H5 om] at h2;have h3:=Fq h2;omega))).symm|exact Fs.2 ⟨λh=>⟨by omega,by rw [H5 om];exact As<|.inr h⟩,λh=>by have h2:=h.2;rw [H5 om] at h2;have h3:=Fq h2;omega⟩) (hI:=by (try dsimp only);exact (Dd _))
  rintro z hp
  have hz:(z=decide (e.kd≠1/\ah5 e (e_ xs k)=true)):=hp
  show W Tryz.prog κ 180 _ _ ([(3,pt b2),(4,pt b3),(9,pt b4),(10,.slice a4 M.length c4),(11,pt b5),(12,.bool q2),(14,pt b6),(67,va),(68,e7 ((xs.length:Nat):Int)),(69,e7<|(k:Int)),(129,.bool z)]:Env) (e8 b4 [e7 nd,.slice a3 O2.length c3] 35::vk 82 a3 c3 O2::vk 54 a4 c4 M::e8 b6 (kl (e_ xs k)) 82::e8 b5 (kl (eh e)) 82::e8 b3 [e7 0,.slice none 0 0] 35::e8 b2 (ez e) 54::e8 b1 [e7 nd,va] 35::I)
  refine Dp C (λad=>?_)<|λad=>?_
  ·refine A6 (Gm C<|Gl6 J2 ?_)
   refine Gf R0 C<|Gl ef ?_
   refine Gc0 (Ac c_ C C<|ci7 (e_ xs k) e.tm) ?_
   refine Ge1 (B2 (α:=Ev) (cs:=[e7 2,e7<|e.tm,e7<|(e_ xs k).u,e7<|(e_ xs k).v,e7 0,e7 0,e7 0]) (xs:=[⟨2,e.tm,(e_ xs k).u,(e_ xs k).v,0,0,0⟩]) Ad s9 C C dc dc C kr C C) λco=>?_
   refine Ge2 (Br (α:=Ev) (e:=54) (xs:=M) (ys:=([⟨2,e.tm,(e_ xs k).u,(e_ xs k).v,0,0,0⟩]:List Ev)) Ad s9 C C C mm A5 (by have ah:=hA.len;first|(simp only [By,E_,Fu];omega)|(have ai:=aa.len;simp only [By,E_,Fu];omega)) dc C<|λ_ _=>am) λa6 bo=>?_
   exact Ga C<|Bq<|Av<|Av<|Ao<|A1 (S9 10 3 4 9 11 12 67 68 69)<|A6<|Gr (Rad C C)<|Gm C<|Bq<|Bt ((k+1),(a3),(c3),(a6),(bo),(O2),(M++([⟨2,e.tm,(e_ xs k).u,(e_ xs k).v,0,0,0⟩]:List Ev)),(q2))<|by dsimp only;exact ⟨om,(by first|exact aa.hit ae om (Fq<|hy.symm.trans ab).1 (Fq<|hy.symm.trans ab).2|exact aa.drop om (Fq<|hz.symm.trans ad).1 (Fq<|hz.symm.trans ad).2|exact aa.fo6 ae om hM (λh1 h2=>Ja (hy.symm.trans ab) ⟨h1,h2⟩) (λh1=>Gb λhh=>Ja (hz.symm.trans ad) ⟨h1,by simpa using hh⟩)),olp⟩
  refine A6<|Gf L6 C<|Gl ap3 ?_
  refine Gl6 J2 ?_
  refine Ge1 (B2 (α:=Lk) (cs:=(kl (e_ xs k))) (xs:=[⟨(e_ xs k).u,(e_ xs k).v,(e_ xs k).w,(e_ xs k).lb,(e_ xs k).sg,(e_ xs k).tm⟩]) A0 J2 C C dc dc C kr C C) λce=>?_
  refine Ge2 (Br (α:=Lk) (e:=82) (xs:=O2) (ys:=([⟨(e_ xs k).u,(e_ xs k).v,(e_ xs k).w,(e_ xs k).lb,(e_ xs k).sg,(e_ xs k).tm⟩]:List Lk)) A0 J2 C C C mm A5 (by have ah:=hA.len;first|(simp only [By,E_,Fu];omega)|(have ai:=aa.len;simp only [By,E_,Fu];omega)) dc C<|λ_ _=>am) λbt br=>?_
  refine Gf L6 C<|Ge0 (Fc ap3) ?_
  exact Bq<|Av<|Av<|Ao<|A1 (S9 3 4 9 10 11 12 67 68 69)<|A6<|Gr (Rad C C)<|Gm C<|Bq<|Bt ((k+1),(bt),(br),(a4),(c4),(O2++([⟨(e_ xs k).u,(e_ xs k).v,(e_ xs k).w,(e_ xs k).lb,(e_ xs k).sg,(e_ xs k).tm⟩]:List Lk)),(M),(q2))<|by dsimp only;exact ⟨om,(by first|exact aa.hit ae om (Fq<|hy.symm.trans ab).1 (Fq<|hy.symm.trans ab).2|exact aa.drop om (Fq<|hz.symm.trans ad).1 (Fq<|hz.symm.trans ad).2|exact aa.fo6 ae om hM (λh1 h2=>Ja (hy.symm.trans ab) ⟨h1,h2⟩) (λh1=>Gb λhh=>Ja (hz.symm.trans ad) ⟨h1,by simpa using hh⟩)),olp⟩
 refine Ci<|Aw<|Aw<|Bi<|Ao<|Ax<|Ak<|Gm C<|Gr (E3 C)<|Ar<|Dp C (λa0=>?_)<|λa0=>?_
 ·refine Ba mixed (Bx (e8 b5 (kl (eh e)) 82::e8 b3 [e7 0,.slice none 0 0] 35::e8 b2 (ez e) 54::e8 b1 [e7 nd,va] 35::I) 15<|Dr 0 C (Af L6 C)<|Dr 2 C (Bm (vs:=[_,_,_,_,_,_]) J2) ?_)
  refine Dr 5 C (Aq C)<|Dr 6 C (Bm (vs:=[_,_,_,_,_,_]) J2) ?_
  refine Dr 7 C (Af R0 C)<|Dr 8 C (Bd ef) ?_
  refine C9 (rs:=[1,3]) kr C C<|Ej ?_<|Do ?_
  ·refine Sr C (Bd ap3) Ai ?_
   refine Ds1 3<|Se1 C (B2 (α:=Lk) (cs:=(kl (eh e))) (xs:=[⟨(eh e).u,(eh e).v,(eh e).w,(eh e).lb,(eh e).sg,(eh e).tm⟩]) A0 J2 C C dc dc C kr C C) λcb=>?_
   refine Ds1 4<|Se2 C (Br (α:=Lk) (e:=82) (xs:=O) (ys:=([⟨(eh e).u,(eh e).v,(eh e).w,(eh e).lb,(eh e).sg,(eh e).tm⟩]:List Lk)) A0 J2 C C C mm A5 (by have ah:=hA.len;first|(simp only [By,E_,Fu];omega)|(have ai:=aa.len;simp only [By,E_,Fu];omega)) dc C<|λ_ _=>am) λau ax=>?_
   refine Dr 12 C (Af L6 C)<|Ds1 9<|Sc0 C (Ac c_ C C<|bh6 (eh e) e.tm) ?_
   refine Ds1 10<|Se1 C (B2 (α:=Ev) (cs:=[e7 1,e7<|e.tm,e7<|(eh e).u,e7<|(eh e).v,e7<|(eh e).w,e7<|(eh e).lb,e7<|(eh e).sg]) (xs:=[⟨1,e.tm,(eh e).u,(eh e).v,(eh e).w,(eh e).lb,(eh e).sg⟩]) Ad s9 C C dc dc C kr C C) λcg=>?_
   refine Ds1 11<|Se2 C (Br (α:=Ev) (e:=54) (xs:=aj) (ys:=([⟨1,e.tm,(eh e).u,(eh e).v,(eh e).w,(eh e).lb,(eh e).sg⟩]:List Ev)) Ad s9 C C C mm A5 (by have ah:=hA.len;first|(simp only [By,E_,Fu];omega)|(have ai:=aa.len;simp only [By,E_,Fu];omega)) dc C<|λ_ _=>am) λbi be=>?_
   refine Ds1 13<|Se0 C (Fc ap3) ?_
   refine Dr 14 C (Bh C)<|Dz<|Ao<|A1 (S3 10 4 9)<|Ak<|Gl2 V3 ?_
   refine Gm C<|Ge0 (Cs V3) ?_
   refine Ga C<|Ga C<|Ar<|B3 ?_
   have hE:O++([⟨(eh e).u,(eh e).v,(eh e).w,(eh e).lb,(eh e).sg,(eh e).tm⟩]:List Lk)=(ep xs e):=by first|exact hA.fin om asm|exact hA.dk2 om asm
   exact Cu C V3 C C C mm C (vk 82 au ax (ep xs e)::I) (by unfold vk;rw [←hE];exact Ai) ⟨⟨au,ax,bi,(aj++([⟨1,e.tm,(eh e).u,(eh e).v,(eh e).w,(eh e).lb,(eh e).sg⟩]:List Ev)).length,be⟩,⟨by rw [←hE]<;>rfl,by first|(show _<=2*xs.length+1;omega)|(show _<=2*xs.length+1;simp only [By,E_,Fu];omega)⟩,rfl⟩
  refine Se1 C (B2 (α:=Lk) (cs:=(kl (eh e))) (xs:=[⟨(eh e).u,(eh e).v,(eh e).w,(eh e).lb,(eh e).sg,(eh e).tm⟩]) A0 J2 C C dc dc C kr C C) λcj=>?_
  refine Ds1 1<|Sr C (Bd ap3) Ai ?_
  refine Ds1 4<|Se2 C (Br (α:=Lk) (e:=82) (xs:=O) (ys:=([⟨(eh e).u,(eh e).v,(eh e).w,(eh e).lb,(eh e).sg,(eh e).tm⟩]:List Lk)) A0 J2 C C C mm A5 (by have ah:=hA.len;first|(simp only [By,E_,Fu];omega)|(have ai:=aa.len;simp only [By,E_,Fu];omega)) dc C<|λ_ _=>am) λav ar=>?_
  refine Dr 12 C (Af L6 C)<|Ds1 9<|Sc0 C (Ac c_ C C<|bh6 (eh e) e.tm) ?_
  refine Ds1 10<|Se1 C (B2 (α:=Ev) (cs:=[e7 1,e7<|e.tm,e7<|(eh e).u,e7<|(eh e).v,e7<|(eh e).w,e7<|(eh e).lb,e7<|(eh e).sg]) (xs:=[⟨1,e.tm,(eh e).u,(eh e).v,(eh e).w,(eh e).lb,(eh e).sg⟩]) Ad s9 C C dc dc C kr C C) λcm=>?_
  refine Ds1 11<|Se2 C (Br (α:=Ev) (e:=54) (xs:=aj) (ys:=([⟨1,e.tm,(eh e).u,(eh e).v,(eh e).w,(eh e).lb,(eh e).sg⟩]:List Ev)) Ad s9 C C C mm A5 (by have ah:=hA.len;first|(simp only [By,E_,Fu];omega)|(have ai:=aa.len;simp only [By,E_,Fu];omega)) dc C<|λ_ _=>am) λbf bv=>?_
  refine Ds1 13<|Se0 C (Fc ap3) ?_
  refine Dr 14 C (Bh C)<|Dz<|Ao<|A1 (S3 10 4 9)<|Ak<|Gl2 V3 ?_
  refine Gm C<|Ge0 (Cs V3) ?_
  refine Ga C<|Ga C<|Ar<|B3 ?_
  have hE:O++([⟨(eh e).u,(eh e).v,(eh e).w,(eh e).lb,(eh e).sg,(eh e).tm⟩]:List Lk)=(ep xs e):=by first|exact hA.fin om asm|exact hA.dk2 om asm
  exact Cu C V3 C C C mm C (vk 82 av ar (ep xs e)::I) (by unfold vk;rw [←hE];exact Ai) ⟨⟨av,ar,bf,(aj++([⟨1,e.tm,(eh e).u,(eh e).v,(eh e).w,(eh e).lb,(eh e).sg⟩]:List Ev)).length,bv⟩,⟨by rw [←hE]<;>rfl,by first|(show _<=2*xs.length+1;omega)|(show _<=2*xs.length+1;simp only [By,E_,Fu];omega)⟩,rfl⟩
 refine Bc<|Ao<|Ak<|Gl2 V3 ?_
 refine Gm C<|Ge0 (Cs V3) ?_
 refine Ga C<|Ga C<|Ar<|A1 (S3 6 5 4)<|B3 ?_
 have hE:O=(ep xs e):=by first|exact hA.fin om asm|exact hA.dk2 om asm
 exact Cu C V3 C C C mm C (vk 82 a1 c1 (ep xs e)::I) (by unfold vk;rw [←hE];exact Ai) ⟨⟨a1,c1,a2,aj.length,c2⟩,⟨by rw [←hE]<;>rfl,by first|(show _<=2*xs.length+1;omega)|(show _<=2*xs.length+1;simp only [By,E_,Fu];omega)⟩,rfl⟩
end Go.Sl
namespace Go.Sl
open Go.Proofs
set_option maxRecDepth 4000
attribute [local irreducible] W G V D A j8 Eff
theorem ck3{q:Bool}{p:Prop}[Decidable p](h:(!q)=true)(hq:q=decide p):¬p:=λM=>by rw [hq,As M] at h;cases h
theorem ay3{q:Bool}{p:Prop}[Decidable p](h:(!q)=false)(hq:q=decide p):p:=Gb λM=>by rw [hq,D_ M] at h;cases h
theorem do5{κ:Ctx}{I:List Item}{nd kd wd mo:Int}{va:Value}{xs:List Lk}(hl:Sl κ I va xs):eu Tryz.prog κ 71 [.agg #[e7 nd,va],.agg #[e7 kd,e7 wd,e7 mo]] I (λr J=>∃z:Int,r = .tuple #[e7 z,.bool (decide (ad2 nd xs kd wd mo)),e7 (dt3 nd xs kd wd mo)]/\do4 nd xs kd wd mo z/\I=J):=by
 refine Bv hl.le λao=>?_
 refine Ce2 Tryz.func71 C C ?_
 refine Ak<|Ge1 (Au (cs:=[_,_]) C C C) λb1=>Ge1 (Au (cs:=[_,_,_]) C C C) λb2=>Z ?_
 refine Gc0 (Ac c_ C C<|am7 kd wd mo)<|Z ?_
 refine Am C (λae=>Z ?_)<|λae=>Z ?_
 ·have hu:dt3 nd xs kd wd mo=s7 kd wd mo:=by unfold dt3;rw [B_ ae]
  have hn:¬ad2 nd xs kd wd mo:=λh=>ae (hu▸h.1)
  exact V.gc9 C C C C I Ah ⟨0,by rw [D_ hn,hu],.none hn,rfl⟩
 refine Gc0 (Ac c_ C C<|Z7 (nd:=nd)<|A4 hl)<|Z ?_
 refine Am C (λai=>Z ?_)<|λai=>Z ?_
 ·have hu:dt3 nd xs kd wd mo=q7 nd xs:=by unfold dt3;rw [An ae]
  have hn:¬ad2 nd xs kd wd mo:=λh=>ai (hu▸h.1)
  exact V.gc9 C C C C I Ah ⟨0,by rw [D_ hn,hu],.none hn,rfl⟩
 refine Dh (σ:=Nat×Int×Bool) (λs=>[(9,e7<|s.2.1),(10,.bool<|s.2.2),(27,e7 ((s.1:Nat):Int))]) (λ_=>[]) (λs=>(s.1<=xs.length)/\(s.2.2=decide (kd=2/\0<s.1))/\(¬(kd=2/\0<s.1)->s.2.1=0)/\(kd=2/\0<s.1->∃x∈xs,s.2.1=x.tm+wd)/\(kd=2->∀j,j<s.1->s.2.1<=(e_ xs j).tm+wd)) (λs=>xs.length - s.1) (0,0,false) (show ((0:Nat)<=xs.length)/\((false:Bool)=decide (kd=2/\0<(0:Nat)))/\(¬(kd=2/\0<(0:Nat))->(0:Int)=0)/\(kd=2/\0<(0:Nat)->∃x∈xs,(0:Int)=x.tm+wd)/\(kd=2->∀j,j<(0:Nat)->(0:Int)<=(e_ xs j).tm+wd) from ⟨om,(D_<|λh=>absurd h.2 om).symm,(λ_=>rfl),(λh=>absurd h.2 om),(λ_ j hj=>absurd hj om)⟩) ?_
 rintro ⟨k,z,q⟩ hp
 dsimp only at hp ⊢
 obtain ⟨hk,hq,ah,ad,ab⟩:=hp
 refine Z ?_
 refine Am C (λak=>Z ?_)<|λak=>Z ?_
 ·refine Ge1 (Aj J2 C) λb3=>Ge0 (Fb J2) ?_
  have ap:=bh0 (Ft.1 ai) (k:Int) om om
  have aq:=at3 (Ft.1 ae)
  refine Z ?_
  refine A3 (d:=39) C (λan=>Z ?_)<|λan=>Z ?_
  ·refine G.bk8 (d:=42) C (λM=>Z ?_) (λM=>Z ?_)
   ·exact Bt ((k+1),(((e_ xs k).tm)+wd),(true))<|by dsimp only;exact ⟨om,(by first|exact (As om).symm|(rw [hq,Fs];omega)|(rw [hq,Fs];have hP:=ay3 M hq;omega)),(λh=>by first|omega|exact ah om),(λh=>by first|exact ⟨_,Bp (i:=(k:Int)) om om,rfl⟩|exact ad om|(have hP:=ay3 M hq;exact ad hP)),(λaa=>by first|omega|exact Di (λj hj=>by first|(have hP:=ck3 M hq;omega)|(have h5:=ab aa j hj;omega)) (Hl _)|exact Di (ab aa) om)⟩
   refine Am C (λaj=>Z ?_)<|λaj=>Z ?_
   ·exact Bt ((k+1),(((e_ xs k).tm)+wd),(true))<|by dsimp only;exact ⟨om,(by first|exact (As om).symm|(rw [hq,Fs];omega)|(rw [hq,Fs];have hP:=ay3 M hq;omega)),(λh=>by first|omega|exact ah om),(λh=>by first|exact ⟨_,Bp (i:=(k:Int)) om om,rfl⟩|exact ad om|(have hP:=ay3 M hq;exact ad hP)),(λaa=>by first|omega|exact Di (λj hj=>by first|(have hP:=ck3 M hq;omega)|(have h5:=ab aa j hj;omega)) (Hl _)|exact Di (ab aa) om)⟩
   exact Bt ((k+1),(z),(q))<|by dsimp only;exact ⟨om,(by first|exact (As om).symm|(rw [hq,Fs];omega)|(rw [hq,Fs];have hP:=ay3 M hq;omega)),(λh=>by first|omega|exact ah om),(λh=>by first|exact ⟨_,Bp (i:=(k:Int)) om om,rfl⟩|exact ad om|(have hP:=ay3 M hq;exact ad hP)),(λaa=>by first|omega|exact Di (λj hj=>by first|(have hP:=ck3 M hq;omega)|(have h5:=ab aa j hj;omega)) (Hl _)|exact Di (ab aa) om)⟩
  exact Bt ((k+1),(z),(q))<|by dsimp only;exact ⟨om,(by first|exact (As om).symm|(rw [hq,Fs];omega)|(rw [hq,Fs];have hP:=ay3 M hq;omega)),(λh=>by first|omega|exact ah om),(λh=>by first|exact ⟨_,Bp (i:=(k:Int)) om om,rfl⟩|exact ad om|(have hP:=ay3 M hq;exact ad hP)),(λaa=>by first|omega|exact Di (λj hj=>by first|(have hP:=ck3 M hq;omega)|(have h5:=ab aa j hj;omega)) (Hl _)|exact Di (ab aa) om)⟩
 have hu:dt3 nd xs kd wd mo=0:=bc0 ae ai
 have hc:ad2 nd xs kd wd mo↔(kd=2/\0<k):=⟨λh=>⟨h.2.1,by have:=Li.2 h.2.2;omega⟩,λh=>⟨hu,h.1,Li.1 om⟩⟩
 exact V.gc9 C C C C I Ah ⟨z,by rw [hq,show decide (ad2 nd xs kd wd mo)=decide (kd=2/\0<k) from Fs.2 hc,hu],⟨λh=>⟨ad<|hc.1 h,λy hy=>by obtain ⟨j,hj,rfl⟩:=an6 hy;exact ab (hc.1 h).1 j om⟩,λh=>ah<|λh2=>h<|hc.2 h2⟩,rfl⟩
end Go.Sl
namespace Go.Sl
open Go.Proofs
set_option maxRecDepth 4000
variable{T kd mo wd z:Int}{ys:List Lk}{zs:List Ev}
theorem cw2(hk:kd=2)(h:0<ys.length/\ab5 ys+wd<=T)(M:z=ab5 ys+wd):Q0 kd wd mo T (ys,zs)=Q0 kd wd mo T (ys.filter (inW kd wd mo z ys),zs++s3 kd wd mo z ys):=by
 subst hk M
 unfold Q0
 rw [B_ rfl,B_ rfl]
 exact ae7 h
theorem ax2(h:kd=2->¬(0<ys.length/\ab5 ys+wd<=T)):Q0 kd wd mo T (ys,zs)=(ys,zs):=by
 unfold Q0
 by_cases hk:kd=2
 ·rw [B_ hk];exact Q5 (h hk)
 rw [An hk]
theorem do2(M:kd=2)(h:0<ys.length)(hz:z=ab5 ys+wd):(ys.filter (inW kd wd mo z ys)).length<ys.length:=by
 subst M hz
 exact at5 (wd:=wd) (mo:=mo) h
end Go.Sl
namespace Go.Sl
open Go.Proofs
set_option maxRecDepth 4000
attribute [local irreducible] W G V D A j8 Eff
theorem dr6{κ:Ctx}{I:List Item}{nd:Int}{va:Value}{xs:List Lk}(hl:Sl κ I va xs)(hv:q7 nd xs=0)(ap:xs.length<=100000):eu Tryz.prog κ 18 [.agg #[e7 nd,va]] I (λr J=>∃a c,r = .tuple #[.agg #[e7 nd,.slice a (j5 xs).length c],e7 0]/\J=vk 105 a c (j5 xs)::I):=by
 refine Bv hl.le λak=>?_
 refine Ce1 Tryz.func18 C C ?_
 refine Ak<|Ge1 (Au (cs:=[_,_]) C C C) λb1=>Ge1 (Aj J8 C) λb2=>Z ?_
 refine Gc0 (Ac c_ C C<|Z7 (nd:=nd)<|A4 hl)<|Z ?_
 refine Am C (λc11=>?_)<|λc11=>Z ?_
 ·exact absurd hv c11
 refine Ge1 (Aj J8 C) λb3=>Ge0 (Cs J8)<|Z ?_
 refine Dh (σ:=Nat×(Option Addr)×Nat×(List Pt)) (λs=>[(20,e7 ((s.1:Nat):Int))]) (λs=>[vk 105 s.2.1 s.2.2.1 s.2.2.2,e8 b3 [e7 nd,.slice s.2.1 s.2.2.2.length s.2.2.1] 38]) (λs=>(s.1<=xs.length)/\(s.2.2.2=j5 (xs.take s.1))) (λs=>xs.length - s.1) (0,none,0,[]) (show ((0:Nat)<=xs.length)/\(([]:List Pt)=j5 (xs.take (0:Nat))) from ⟨om,rfl⟩) (hI:=(A9 (B7 (α:=Pt) _ _) Az)) ?_
 rintro ⟨k,a,c,out⟩ hp
 dsimp only at hp ⊢
 obtain ⟨hk,ho⟩:=hp
 have ao:out.length=k:=by rw [ho,G5,Fp];omega
 refine Z ?_
 refine Am C (λai=>Z ?_)<|λai=>Z ?_
 ·refine Ge1 (Aj J2 C) λb4=>Ge0 (Fb J2) ?_
  refine Ar<|Ba mixed<|Bx (e8 b4 (kl (e_ xs k)) 82::e8 b2 [e7 0,.slice none 0 0] 38::e8 b1 [e7 nd,va] 35::I) 8<|Z ?_
  refine C9 (rs:=[1,3]) kr C C<|Ej ?_<|Do ?_
  ·refine Sr C (Bd an1) Ai ?_
   refine Ds1 3<|Sc0 C (Ac c_ C C<|ac4<|e_ xs k) ?_
   refine Ds1 4<|Se1 C (B2 (α:=Pt) (cs:=[_,_]) (xs:=[⟨(e_ xs k).p.u,(e_ xs k).p.v⟩]) Ay s8 C C dc dc C C C C) λaq=>?_
   refine Ds1 5<|Se2 C (Br (α:=Pt) (e:=105) (xs:=out) (ys:=([⟨(e_ xs k).p.u,(e_ xs k).p.v⟩]:List Pt)) Ay s8 C C C mm A5 lcn dc C<|λ_ _=>am) λad ae=>Z ?_
   refine Ds1 7<|Se0 C (Fc an1)<|Z ?_
   exact Bt ((k+1),(ad),(ae),(out++([⟨(e_ xs k).p.u,(e_ xs k).p.v⟩]:List Pt)))<|by dsimp only;exact ⟨om,(by rw [ag3 om,←ho];rfl)⟩
  refine Sc0 C (Ac c_ C C<|ac4<|e_ xs k) ?_
  refine C9 (rs:=[1,4]) kr C C<|Ej ?_<|Do ?_
  ·refine Sr C (Bd an1) Ai ?_
   refine Ds1 4<|Se1 C (B2 (α:=Pt) (cs:=[_,_]) (xs:=[⟨(e_ xs k).p.u,(e_ xs k).p.v⟩]) Ay s8 C C dc dc C C C C) λan=>?_
   refine Ds1 5<|Se2 C (Br (α:=Pt) (e:=105) (xs:=out) (ys:=([⟨(e_ xs k).p.u,(e_ xs k).p.v⟩]:List Pt)) Ay s8 C C C mm A5 lcn dc C<|λ_ _=>am) λah M=>Z ?_
   refine Ds1 7<|Se0 C (Fc an1)<|Z ?_
   exact Bt ((k+1),(ah),(M),(out++([⟨(e_ xs k).p.u,(e_ xs k).p.v⟩]:List Pt)))<|by dsimp only;exact ⟨om,(by rw [ag3 om,←ho];rfl)⟩
  refine Se1 C (B2 (α:=Pt) (cs:=[_,_]) (xs:=[⟨(e_ xs k).p.u,(e_ xs k).p.v⟩]) Ay s8 C C dc dc C C C C) λaj=>?_
  refine Ds1 1<|Sr C (Bd an1) Ai ?_
  refine Ds1 5<|Se2 C (Br (α:=Pt) (e:=105) (xs:=out) (ys:=([⟨(e_ xs k).p.u,(e_ xs k).p.v⟩]:List Pt)) Ay s8 C C C mm A5 lcn dc C<|λ_ _=>am) λab aa=>Z ?_
  refine Ds1 7<|Se0 C (Fc an1)<|Z ?_
  exact Bt ((k+1),(ab),(aa),(out++([⟨(e_ xs k).p.u,(e_ xs k).p.v⟩]:List Pt)))<|by dsimp only;exact ⟨om,(by rw [ag3 om,←ho];rfl)⟩
 refine Ge0 (Cs J8)<|Z ?_
 have hE:out=j5 xs:=by rw [ho,Fv om]
 exact Cp C J8 C C mm C (vk 105 a c (j5 xs)::I) (by unfold vk;rw [←hE];exact Az) ⟨a,c,by rw [←hE]<;>rfl,rfl⟩
end Go.Sl
namespace Go.Sl
open Go.Proofs
set_option maxRecDepth 4000
end Go.Sl
namespace Go.Sl
end Go.Sl
namespace Go.Sl
open Go.Proofs
set_option maxRecDepth 4000
theorem ai9{nd lv:Int}{es:List Pt}{y:Int}:y∈U9 nd es lv↔(0<=y/\y<(j9 nd es).length)/\lv<=e_ (j9 nd es) y:=by
 unfold U9;rw [ai7,Gn]
theorem ca4{l:List Int}{i:Nat}(hi:i<64):(be1 l).getLsbD i=true↔(i:Int)∈l:=by
 unfold be1;rw [ay6 hi];simp
end Go.Sl
namespace Go.Sl
def au5(rows:List (BitVec 64))(k:Nat)(W:BitVec 64):Prop:=∀u∈eo W,k<=Q3 rows W u
theorem bg3{rows:List (BitVec 64)}{W L:BitVec 64}(h:∀u∈eo W,u∈eo L)(v:Int):Q3 rows W v<=Q3 rows L v:=by
 unfold Q3
 refine Hk (Q9 _) λx M=>?_
 obtain ⟨h1,h2⟩:=K1.1 M
 exact K1.2 ⟨h1,h x h2⟩
theorem aj7{rows:List (BitVec 64)}{X:BitVec 64->Nat->List (Int×Nat)->Prop}(h0:∀k,X 0#64 k [])
  (hs:∀left k v,ca8 rows left v->X (left &&& ~~~(1#64 <<< v.toNat)) (max k<|Q3 rows left v) (ae6 rows (left &&& ~~~(1#64 <<< v.toNat))<|max k<|Q3 rows left v)->X left k ((v,max k<|Q3 rows left v)::ae6 rows (left &&& ~~~(1#64 <<< v.toNat)) (max k<|Q3 rows left v))) :
  ∀(n:Nat) (left:BitVec 64) (k:Nat),(eo left).length=n->X left k (ae6 rows left k)
 |0,left,k,h=>by
  have:left=0#64:=Gb λhn=>by
   obtain ⟨u,hu⟩:=ba2.1 hn
   have:=Kj hu;omega
  subst this
  rw [bn3];exact h0 k
 |n+1,left,k,h=>by
  have M:left≠0#64:=λe=>by subst e;rw [P6] at h;simp at h
  have hT:=bc3 (rows:=rows) M
  rw [bn4 hT]
  have hm:=aa8 hT.mem
  exact hs _ _ _ hT<|aj7 h0 hs n _ _<|by omega
section
variable {rows:List (BitVec 64)}
theorem bn5(left:BitVec 64)(k:Nat):(am9 (ae6 rows left k)).Nodup/\(∀v,v∈am9 (ae6 rows left k)↔v∈eo left):=by
 refine aj7 (rows:=rows) (X:=λleft k l=>(am9 l).Nodup/\∀v,v∈am9 l↔v∈eo left) (λk=>?_) (λleft k v hT ih=>?_) _ left k rfl
 ·refine ⟨List.nodup_nil,λv=>?_⟩
  rw [P6];exact Iff.rfl
 have M:=(T2 hT.mem).1
 obtain ⟨h1,h2⟩:=ih
 refine ⟨Hx.2 ⟨λhm=>((M6 M).1 ((h2 v).1 hm)).2 rfl,h1⟩,λu=>?_⟩
 show u∈v::am9 (ae6 rows _ _)↔_
 rw [Fw,h2,M6 M]
 constructor
 ·rintro (rfl|h)
  ·exact hT.mem
  exact h.1
 intro h
 by_cases e:u=v
 ·exact .inl e
 exact .inr ⟨h,e⟩
theorem cp0(left:BitVec 64)(k:Nat):∀p∈ae6 rows left k,k<=p.2:=by
 refine aj7 (rows:=rows) (X:=λleft k l=>∀p∈l,k<=p.2) (λk p hp=>by cases hp) (λleft k v hT M p hp=>?_) _ left k rfl
 rcases Fw.1 hp with rfl|hp
 ·show k<=max k _;omega
 have:=M p hp;omega
theorem cv2{j:Nat}{W:BitVec 64}(hW:au5 rows j W)(left:BitVec 64)(k:Nat):(∀u∈eo W,u∈eo left)->∀p∈ae6 rows left k,p.1∈eo W->j<=p.2:=by
 refine aj7 (rows:=rows) (X:=λleft k l=>(∀u∈eo W,u∈eo left)->∀p∈l,p.1∈eo W->j<=p.2) (λk _ p hp=>by cases hp) (λleft k v hT ih M p hp aa=>?_) _ left k rfl
 have h0:=(T2 hT.mem).1
 by_cases hv:v∈eo W
 ·have h1:=hW v hv
  have h2:=bg3 (rows:=rows) M v
  rcases Fw.1 hp with rfl|hp
  ·show j<=max k _;omega
  have:=cp0 _ _ p hp;omega
 rcases Fw.1 hp with rfl|hp
 ·exact absurd aa hv
 exact ih (λu hu=>(M6 h0).2 ⟨M u hu,λe=>hv<|e▸hu⟩) p hp aa
theorem cv1(left:BitVec 64)(k0:Nat):∀k,k0<k->∃W:BitVec 64,au5 rows k W/\(∀u∈eo W,u∈eo left)/\∀p∈ae6 rows left k0,k<=p.2↔p.1∈eo W:=by
 refine aj7 (rows:=rows) (X:=λleft k0 l=>∀k,k0<k->∃W:BitVec 64,au5 rows k W/\(∀u∈eo W,u∈eo left)/\∀p∈l,k<=p.2↔p.1∈eo W) (λk0 k hk=>?_) (λleft k0 v hT ih k hk=>?_) _ left k0 rfl
 ·refine ⟨0#64,λu hu=>?_,λu hu=>hu,λp hp=>by cases hp⟩
  rw [P6] at hu;cases hu
 have M:=(T2 hT.mem).1
 by_cases hc:k<=max k0 (Q3 rows left v)
 ·refine ⟨left,λu hu=>?_,λu hu=>hu,λp hp=>⟨λ_=>?_,λ_=>?_⟩⟩
  ·have:=hT.le u hu;omega
  ·rcases Fw.1 hp with rfl|hp
   ·exact hT.mem
   have h1:p.1∈am9 (ae6 rows (left &&& ~~~(1#64 <<< v.toNat))<|max k0<|Q3 rows left v):=Gv.2 ⟨p,hp,rfl⟩
   exact ((M6 M).1 (((bn5 _ _).2 _).1 h1)).1
  rcases Fw.1 hp with rfl|hp
  ·exact hc
  have:=cp0 _ _ p hp;omega
 obtain ⟨W,h1,h2,h3⟩:=ih k (by omega)
 refine ⟨W,h1,λu hu=>((M6 M).1 (h2 u hu)).1,λp hp=>?_⟩
 rcases Fw.1 hp with rfl|hp
 ·exact ⟨λh=>absurd h hc,λh=>absurd rfl ((M6 M).1 (h2 _ h)).2⟩
 exact h3 p hp
theorem fn8{n:Nat}:∀{l:List (Int×Nat)},(am9 l).Nodup->(∀v∈am9 l,0<=v/\v<(n:Int))->∀p∈l,e_ (br3 n l) p.1=(p.2:Int):=by
 intro l
 unfold br3
 have hk:∀(l:List (Int×Nat)) (xs:List Int) (u:Int),0<=u->(∀v∈am9 l,0<=v)->u∉am9 l->e_ (l.foldl (λxs p=>xs.set p.1.toNat (p.2:Int)) xs) u=e_ xs u:=λl=>by
  induction l with
  |nil=>intro xs u _ _ _;rfl
  |cons q l ih=>
   intro xs u hu h0 hn
   have hq:0<=q.1:=h0 q.1 A_
   have ad:u≠q.1:=λe=>hn (by rw [e];exact A_)
   rw [Hy,ih _ u hu (λv hv=>h0 v<|C_ _ hv) λh=>hn<|C_ _ h]
   unfold e_
   rw [Hq,Hq,List.getElem?_set_ne (by omega)]
 have:∀(l:List (Int×Nat)) (xs:List Int),xs.length=n->(am9 l).Nodup->(∀v∈am9 l,0<=v/\v<(n:Int))->∀p∈l,e_ (l.foldl (λxs p=>xs.set p.1.toNat (p.2:Int)) xs) p.1=(p.2:Int):=λl=>by
  induction l with
  |nil=>intro xs _ _ _ p hp;cases hp
  |cons q l ih=>
   intro xs hl hn hr p hp
   obtain ⟨hq,ab⟩:=Hx.1 (show (q.1::am9 l).Nodup from hn)
   have aa:∀v∈am9 l,0<=v/\v<(n:Int):=λv hv=>hr v (C_ _ hv)
   have M:=hr q.1 A_
   rw [Hy]
   rcases Fw.1 hp with rfl|hp
   ·rw [hk l _ p.1 M.1 (λv hv=>(aa v hv).1) hq,R4 _ _ _ _ M.1 M.1<|by omega,B_ rfl]
   exact ih _ (by rw [Fo];exact hl) ab aa p hp
 exact λh1 h2=>this l _ Fy h1 h2
end
end Go.Sl
namespace Go.Sl
open Go.Proofs
set_option maxRecDepth 4000
end Go.Sl
