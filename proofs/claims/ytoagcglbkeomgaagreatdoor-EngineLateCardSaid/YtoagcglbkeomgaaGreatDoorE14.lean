/- A part of the proofs of statements of this seat: contracts of functions, and the plain laws that they lean on. No conditions. -/
import Derived.Test.YtoagcglbkeomgaaGreatDoorE13
import Derived.OrdersIn
set_option linter.unusedVariables false
set_option linter.unusedSimpArgs false
set_option linter.unusedSectionVars false
namespace Go.Sl
open Go.Proofs
set_option maxRecDepth 4000
set_option maxHeartbeats 4000000 in
theorem dr7{κ:Ctx}{I:List Item}{nd:Int}{e:Ev}{va:Value}{xs:List Lk}(hl:Sl κ I va xs)(av:p9 nd xs=0)(ao:J1 nd e)(cq:xs.length<=1000000):eu Tryz.prog κ 73 [.agg #[e7 nd,va],.agg (ez e).toArray] I (λr J=>∃y:Option Addr×Nat×Option Addr×Nat×Nat,(r = .tuple #[.agg #[e7 nd,.slice y.1 (ep xs e).length y.2.1],.slice y.2.2.1 y.2.2.2.1 y.2.2.2.2,e7 0]/\y.2.2.2.1<=2*xs.length+1)/\J=vk 82 y.1 y.2.1 (ep xs e)::I):=by
 refine Bw hl.le λcd=>?_
 refine Ce2 Tryz.func73 C C ?_
 refine Am<|Ge1 (Au (cs:=[_,_]) C C C) λb1=>Ge1 (Au (cs:=[_,_,_,_,_,_,_]) C C C) λb2=>Ge1 (Aj W2 C) λb3=>Ga C<|Ga C<|Ar<|Ay<|Am<|Gl2 W2 ?_
 refine Gc0 (Ac c_ C C<|ae7 (nd:=nd)<|A4 hl) ?_
 refine Ga C<|Ar<|Am<|Gm C<|Gr (Ci C C)<|Ar<|Al C (λbo=>?_)<|λbo=>?_
 ·exact absurd av bo
 refine Bc<|Ao<|Ay<|Am<|Gl7 z6 ?_
 refine Gc0 (Ac c_ C C<|Z6 e) ?_
 refine Ga C<|Ar<|A0 (S4 8 4 3 2)<|Am<|Gm C<|Gr (Ci C C)<|Ar<|Al C (λbp=>?_)<|λbp=>?_
 ·exact absurd ao.chk bp
 refine Bc<|Ao<|Ay<|Am<|Gf L6 C<|Gl ef ?_
 refine Gf br9 C<|Gl ef ?_
 refine Gr (j7.geq C C)<|Gm C<|A1 (d:=33) C (λca=>?_)<|λca=>?_
 ·exact absurd ao.fits om
 refine e9 (Af H6 C)<|e9 (Bf ef) ?_
 refine e9 (Af br9 C)<|e9 (Bf ef) ?_
 refine e9 (j7.geq C C)<|Gr (Bq C C)<|Ar<|A0 (S4 39 4 3 2)<|Al C (λb8=>?_)<|λb8=>?_
 ·exact absurd ao.fits om
 refine Bc<|Ao<|Am<|Gf br9 C<|Gl ef ?_
 refine Gr (Cm (cells:=[_,_]) W2 Tryz.underlying35 ge2 C C)<|Ge1 (Aj W2 C) λb4=>Ge0 (Cr W2) ?_
 refine Ar<|Am<|Ga C ?_
 have ai:=(Q2 av).2.2
 have cw:=ao.kind
 refine Ar<|Am<|Gf L6 C<|Gl ef ?_
 refine Gf H6 C<|Gl ef ?_
 refine Gr (j7.min C C)<|Gf L6 C<|Gl ef ?_
 refine Gf H6 C<|Gl ef ?_
 refine Gr (Fi C C)<|Gf br6 C<|Gl ef ?_
 refine Gf be6 C<|Gl ef ?_
 refine Gf be5 C<|Gl ef ?_
 refine Gf Q9 C<|Gl ef ?_
 refine Gr (Cm (cells:=[_,_,_,_,_,_]) J7 Tryz.underlying82 gi9 C C)<|Ge1 (Aj J7 C) λb5=>Ge0 (Fl J7) ?_
 show G Tryz.prog κ _ _ _ _ ([(11,pt b5),(62,.agg #[e7 (if e.v<e.u then e.v else e.u),e7 (if e.u<e.v then e.v else e.u),e7<|e.w,e7<|e.lb,e7<|e.sg,e7<|e.tm]),(61,e7<|e.tm),(60,.pointer<|some ⟨b2,1,none⟩),(59,e7<|e.sg),(58,.pointer<|some ⟨b2,6,none⟩),(57,e7<|e.lb),(56,.pointer<|some ⟨b2,5,none⟩),(55,e7<|e.w),(54,.pointer<|some ⟨b2,4,none⟩),(53,e7 (if e.u<e.v then e.v else e.u)),(52,e7<|e.v),(51,.pointer<|some ⟨b2,3,none⟩),(50,e7<|e.u),(49,.pointer<|some ⟨b2,2,none⟩),(48,e7 (if e.v<e.u then e.v else e.u)),(47,e7<|e.v),(46,.pointer<|some ⟨b2,3,none⟩),(45,e7<|e.u),(44,.pointer<|some ⟨b2,2,none⟩),(10,.slice none 0 0),(9,pt b4),(43,.agg #[e7 nd,.slice none 0 0]),(42,e7 nd),(41,pt b1),(39,.bool<|decide<|nd<=e.v),(4,pt b3),(3,pt b2),(2,pt b1)]:Env) (e8 b5 (kl (eh e)) 82::e8 b4 [e7 nd,.slice none 0 0] 35::e8 b3 [e7 0,.slice none 0 0] 35::e8 b2 (ez e) 54::e8 b1 [e7 nd,va] 35::I)
 refine Ar<|A0 (S6 11 10 9 4 3 2)<|Am<|Gf W8 C<|Gl ef ?_
 refine Gr (Ci C C)<|Ga C<|Ar<|Ay<|Am<|Gf P1 C<|Gl au7 ?_
 refine Gr (E7 (α:=Lk) (xs:=xs) A3 C<|A4 hl)<|Gm C<|Ar<|A0 (S9 69 68 67 12 11 10 9 4 3)<|A8<|B9 (σ:=Nat×(Option Addr)×Nat×(Option Addr)×Nat×(List Lk)×(List Ev)×Bool) (λs=>([(3,pt b2),(4,pt b3),(9,pt b4),(10,.slice s.2.2.2.1 s.2.2.2.2.2.2.1.length s.2.2.2.2.1),(11,pt b5),(12,.bool<|s.2.2.2.2.2.2.2),(67,va),(68,e7 ((xs.length:Nat):Int)),(69,e7 ((s.1:Nat):Int))]:Env)) (λs=>e8 b4 [e7 nd,.slice s.2.1 s.2.2.2.2.2.1.length s.2.2.1] 35::vk 82 s.2.1 s.2.2.1 s.2.2.2.2.2.1::vk 54 s.2.2.2.1 s.2.2.2.2.1 s.2.2.2.2.2.2.1::e8 b5 (kl (eh e)) 82::e8 b3 [e7 0,.slice none 0 0] 35::e8 b2 (ez e) 54::e8 b1 [e7 nd,va] 35::I) (λs=>(s.1<=xs.length)/\(ApI xs e s.1 s.2.2.2.2.2.1 s.2.2.2.2.2.2.2)/\(s.2.2.2.2.2.2.1.length<=2*s.1)) (λs=>xs.length - s.1) (0,none,0,none,0,[],[],decide<|e.kd≠1) (show ((0:Nat)<=xs.length)/\(ApI xs e (0:Nat) ([]:List Lk) (decide (e.kd≠1):Bool))/\(([]:List Ev).length<=2*(0:Nat)) from ⟨om,ApI.start,(by simp)⟩) (cx2<|Aa C<|Aa (Db C<|by first|rfl|simp)<|Aa C<|Aa (Db C<|by first|rfl|simp)<|cx2<|Aa Cn Bb) (show Fit κ _ (e8 b4 [e7 nd,.slice none ([]).length 0] 35::vk 82 none 0 ([])::vk 54 none 0 ([])::e8 b5 (kl (eh e)) 82::e8 b3 [e7 0,.slice none 0 0] 35::e8 b2 (ez e) 54::e8 b1 [e7 nd,va] 35::I) from (A7 (B6 54 _)<|A7 (B6 82 _) Az)) ?_
 rintro ⟨k,a1,c1,a2,c2,O,aj,q⟩ hp
 dsimp only at hp ⊢
 obtain ⟨hk,hA,cr⟩:=hp
 refine Am<|Gr (Bj C C)<|Ar<|Ay<|Al C (λb9=>?_)<|λb9=>?_
 ·refine Bc (Ao<|Ay<|A8<|Am<|Gr (A2 (α:=Lk) (xs:=xs) A3 J7 C C (A4 hl) om om)<|Gr (Da (α:=Lk) (xs:=xs) J7 C (A4 hl) om om)<|Ge1 (Aj J7 C) λb6=>Ge0 (Fl J7) ?_)
  refine Ar<|Fe (σ:=(Option Addr)×Nat×(Option Addr)×Nat×(List Lk)×(List Ev)×Bool) (λs=>([(3,pt b2),(4,pt b3),(9,pt b4),(10,.slice s.2.2.1 s.2.2.2.2.2.1.length s.2.2.2.1),(11,pt b5),(12,.bool<|s.2.2.2.2.2.2),(14,pt b6),(67,va),(68,e7 ((xs.length:Nat):Int)),(69,e7<|(k:Int))]:Env)) (λs=>e8 b4 [e7 nd,.slice s.1 s.2.2.2.2.1.length s.2.1] 35::vk 82 s.1 s.2.1 s.2.2.2.2.1::vk 54 s.2.2.1 s.2.2.2.1 s.2.2.2.2.2.1::e8 b6 (kl (e_ xs k)) 82::e8 b5 (kl (eh e)) 82::e8 b3 [e7 0,.slice none 0 0] 35::e8 b2 (ez e) 54::e8 b1 [e7 nd,va] 35::I) (λs=>(ApI xs e k s.2.2.2.2.1 s.2.2.2.2.2.2)/\((!s.2.2.2.2.2.2)=true->¬Pt.lt (eh e).p (e_ xs k).p)/\(s.2.2.2.2.2.1.length<=2*k+1)) ?_ ?_
  ·refine Ay (A9 mixed<|Bx (e8 b6 (kl (e_ xs k)) 82::e8 b4 [e7 nd,.slice a1 O.length c1] 35::vk 82 a1 c1 O::vk 54 a2 c2 aj::e8 b5 (kl (eh e)) 82::e8 b3 [e7 0,.slice none 0 0] 35::e8 b2 (ez e) 54::e8 b1 [e7 nd,va] 35::I) 9<|Dr 0 C (Aq C)<|Dr 1 C (Fa C)<|Dr 2 C (Aq C)<|D.bj9 (d:=75) C (λak=>?_)<|λak=>?_)
   ·refine Dro 3 C (Bm (vs:=[_,_,_,_,_,_]) J7) ?_
    refine Dro 5 C (Bm (vs:=[_,_,_,_,_,_]) J7) ?_
    refine Ds1 4<|Sc0 C (Ac c_ C C<|ac2<|eh e) ?_
    refine Ds1 6<|Sc0 C (Ac c_ C C<|ac2<|e_ xs k) ?_
    refine Ds1 7<|Sc0 C (Ac c_ C C<|ag7 (eh e).p (e_ xs k).p) ?_
    refine Dr 8 C (B4 C C)<|Dz<|Ao<|A0 (S11 81 14 3 4 9 10 11 12 67 68 69 C C C C C C C C C C C)<|Al C (λan=>?_)<|λan=>?_
    ·refine A9 mixed (Bx (e8 b6 (kl (e_ xs k)) 82::e8 b5 (kl (eh e)) 82::e8 b3 [e7 0,.slice none 0 0] 35::e8 b2 (ez e) 54::e8 b1 [e7 nd,va] 35::I) 16<|Dr 0 C (Af P1 C)<|Dr 2 C (Bm (vs:=[_,_,_,_,_,_]) J7) ?_)
     refine Dr 5 C (Aq C)<|Dr 6 C (Bm (vs:=[_,_,_,_,_,_]) J7) ?_
     refine Dr 7 C (Af Q9 C)<|Dr 8 C (Bf ef) ?_
     refine C8 (rs:=[1,3]) kr C C<|Ei ?_<|Do ?_
     ·refine Sr C (Bf au7) Ai ?_
      refine Ds1 3<|Se1 C (B0 (α:=Lk) (cs:=(kl (eh e))) (xs:=[⟨(eh e).u,(eh e).v,(eh e).w,(eh e).lb,(eh e).sg,(eh e).tm⟩]) A3 J7 C C dc dc C kr C C) λcp=>?_
      refine Ds1 4<|Se2 C (Bp (α:=Lk) (e:=82) (xs:=O) (ys:=([⟨(eh e).u,(eh e).v,(eh e).w,(eh e).lb,(eh e).sg,(eh e).tm⟩]:List Lk)) A3 J7 C C C mm A5 (by have ah:=hA.len;first|(simp only [By,E_,Fw];omega)|(have ae:=aa.len;simp only [By,E_,Fw];omega)) dc C<|λ_ _=>am) λbw b7=>?_
      refine Dr 12 C (Af P1 C)<|Ds1 9<|Sc0 C (Ac c_ C C<|bg6 (eh e) e.tm) ?_
      refine Ds1 10<|Se1 C (B0 (α:=Ev) (cs:=[e7 1,e7<|e.tm,e7<|(eh e).u,e7<|(eh e).v,e7<|(eh e).w,e7<|(eh e).lb,e7<|(eh e).sg]) (xs:=[⟨1,e.tm,(eh e).u,(eh e).v,(eh e).w,(eh e).lb,(eh e).sg⟩]) Ad z6 C C dc dc C kr C C) λcb=>?_
      refine Ds1 11<|Se2 C (Bp (α:=Ev) (e:=54) (xs:=aj) (ys:=([⟨1,e.tm,(eh e).u,(eh e).v,(eh e).w,(eh e).lb,(eh e).sg⟩]:List Ev)) Ad z6 C C C mm A5 (by have ah:=hA.len;first|(simp only [By,E_,Fw];omega)|(have ae:=aa.len;simp only [By,E_,Fw];omega)) dc C<|λ_ _=>am) λbm a8=>?_
      refine Ds1 13<|Se0 C (Fc au7) ?_
      exact Dr 14 C (Be C)<|Dr 15 C (Be C)<|Dz<|Di ((bw),(b7),(bm),(a8),(O++([⟨(eh e).u,(eh e).v,(eh e).w,(eh e).lb,(eh e).sg,(eh e).tm⟩]:List Lk)),(aj++([⟨1,e.tm,(eh e).u,(eh e).v,(eh e).w,(eh e).lb,(eh e).sg⟩]:List Ev)),(true))<|by dsimp only;exact ⟨(by first|exact hA.ins ai om ak an|exact hA),(by intro h;first|exact absurd h dc|exact an|(rw [h] at ak;cases ak)),olp⟩
     refine Se1 C (B0 (α:=Lk) (cs:=(kl (eh e))) (xs:=[⟨(eh e).u,(eh e).v,(eh e).w,(eh e).lb,(eh e).sg,(eh e).tm⟩]) A3 J7 C C dc dc C kr C C) λci=>?_
     refine Ds1 1<|Sr C (Bf au7) Ai ?_
     refine Ds1 4<|Se2 C (Bp (α:=Lk) (e:=82) (xs:=O) (ys:=([⟨(eh e).u,(eh e).v,(eh e).w,(eh e).lb,(eh e).sg,(eh e).tm⟩]:List Lk)) A3 J7 C C C mm A5 (by have ah:=hA.len;first|(simp only [By,E_,Fw];omega)|(have ae:=aa.len;simp only [By,E_,Fw];omega)) dc C<|λ_ _=>am) λbq bn=>?_
     refine Dr 12 C (Af P1 C)<|Ds1 9<|Sc0 C (Ac c_ C C<|bg6 (eh e) e.tm) ?_
     refine Ds1 10<|Se1 C (B0 (α:=Ev) (cs:=[e7 1,e7<|e.tm,e7<|(eh e).u,e7<|(eh e).v,e7<|(eh e).w,e7<|(eh e).lb,e7<|(eh e).sg]) (xs:=[⟨1,e.tm,(eh e).u,(eh e).v,(eh e).w,(eh e).lb,(eh e).sg⟩]) Ad z6 C C dc dc C kr C C) λck=>?_
     refine Ds1 11<|Se2 C (Bp (α:=Ev) (e:=54) (xs:=aj) (ys:=([⟨1,e.tm,(eh e).u,(eh e).v,(eh e).w,(eh e).lb,(eh e).sg⟩]:List Ev)) Ad z6 C C C mm A5 (by have ah:=hA.len;first|(simp only [By,E_,Fw];omega)|(have ae:=aa.len;simp only [By,E_,Fw];omega)) dc C<|λ_ _=>am) λbv a7=>?_
     refine Ds1 13<|Se0 C (Fc au7) ?_
     exact Dr 14 C (Be C)<|Dr 15 C (Be C)<|Dz<|Di ((bq),(bn),(bv),(a7),(O++([⟨(eh e).u,(eh e).v,(eh e).w,(eh e).lb,(eh e).sg,(eh e).tm⟩]:List Lk)),(aj++([⟨1,e.tm,(eh e).u,(eh e).v,(eh e).w,(eh e).lb,(eh e).sg⟩]:List Ev)),(true))<|by dsimp only;exact ⟨(by first|exact hA.ins ai om ak an|exact hA),(by intro h;first|exact absurd h dc|exact an|(rw [h] at ak;cases ak)),olp⟩
    exact Bc<|Di ((a1),(c1),(a2),(c2),(O),(aj),(q))<|by dsimp only;exact ⟨(by first|exact hA.ins ai om ak an|exact hA),(by intro h;first|exact absurd h dc|exact an|(rw [h] at ak;cases ak)),olp⟩
   exact Dpo 3 C<|Dpo 5 C<|Dpo 4 C<|Dpo 6 C<|Dpo 7 C<|Dr 8 C (Bq C C)<|Dz<|Ao<|A0 (S11 81 14 3 4 9 10 11 12 67 68 69 C C C C C C C C C C C)<|W.no C<|Bc<|Di ((a1),(c1),(a2),(c2),(O),(aj),(q))<|by dsimp only;exact ⟨(by first|exact hA.ins ai om ak an|exact hA),(by intro h;first|exact absurd h dc|exact an|(rw [h] at ak;cases ak)),olp⟩
  rintro ⟨a3,c3,a4,c4,O2,M,q2⟩ hp
  obtain ⟨aa,hM,ct⟩:(ApI xs e k O2 q2)/\((!q2)=true->¬Pt.lt (eh e).p (e_ xs k).p)/\(M.length<=2*k+1):=hp
  show W Tryz.prog κ 180 _ _ ([(3,pt b2),(4,pt b3),(9,pt b4),(10,.slice a4 M.length c4),(11,pt b5),(12,.bool q2),(14,pt b6),(67,va),(68,e7 ((xs.length:Nat):Int)),(69,e7<|(k:Int))]:Env) (e8 b4 [e7 nd,.slice a3 O2.length c3] 35::vk 82 a3 c3 O2::vk 54 a4 c4 M::e8 b6 (kl (e_ xs k)) 82::e8 b5 (kl (eh e)) 82::e8 b3 [e7 0,.slice none 0 0] 35::e8 b2 (ez e) 54::e8 b1 [e7 nd,va] 35::I)
  refine Ay<|A9 mixed<|Bx (e8 b4 [e7 nd,.slice a3 O2.length c3] 35::vk 82 a3 c3 O2::vk 54 a4 c4 M::e8 b6 (kl (e_ xs k)) 82::e8 b5 (kl (eh e)) 82::e8 b3 [e7 0,.slice none 0 0] 35::e8 b2 (ez e) 54::e8 b1 [e7 nd,va] 35::I) 6<|Dr 0 C (Bm (vs:=[_,_,_,_,_,_]) J7) ?_
  refine Dr 2 C (Bm (vs:=[_,_,_,_,_,_]) J7) ?_
  refine Ds1 1<|Sc0 C (Ac c_ C C<|ac2<|e_ xs k) ?_
  refine Ds1 3<|Sc0 C (Ac c_ C C<|ac2<|eh e) ?_
  refine Dr 4 C (j7.ft0 (α:=Pt) (a:=(e_ xs k).p) (b:=(eh e).p) ay3 C C)<|Dr 5 C (Be C)<|Dz<|Ao<|A0 (S11 15 3 4 9 10 11 12 14 67 68 69 C C C C C C C C C C C)<|A8<|Fe (σ:=Bool) (λs=>([(3,pt b2),(4,pt b3),(9,pt b4),(10,.slice a4 M.length c4),(11,pt b5),(12,.bool q2),(14,pt b6),(15,.bool<|decide<|((e_ xs k).p)=((eh e).p)),(67,va),(68,e7 ((xs.length:Nat):Int)),(69,e7<|(k:Int)),(106,.bool s)]:Env)) (λs=>e8 b4 [e7 nd,.slice a3 O2.length c3] 35::vk 82 a3 c3 O2::vk 54 a4 c4 M::e8 b6 (kl (e_ xs k)) 82::e8 b5 (kl (eh e)) 82::e8 b3 [e7 0,.slice none 0 0] 35::e8 b2 (ez e) 54::e8 b1 [e7 nd,va] 35::I) (λs=>(s=decide (e.kd=1/\(e_ xs k).p=(eh e).p))) ?_ ?_
  ·refine Ba (Gf W8 C<|Gl ef ?_)
   refine Gr (C4 C C)<|Gm C<|A1 (d:=110) C (λay=>?_)<|λay=>?_
   ·exact e9 (Aq C)<|Gr (B4 C C)<|Ga C<|Bs<|Di ((decide<|((e_ xs k).p)=((eh e).p))) (by first|exact Ft.2 ⟨λh=>⟨by omega,h⟩,λh=>h.2⟩|exact (D_<|λh=>by omega).symm) (hI:=by (try dsimp only);exact (Dd _))
   exact eb<|Gr (Bq C C)<|Ga C<|Bs<|Di ((false)) (by first|exact Ft.2 ⟨λh=>⟨by omega,h⟩,λh=>h.2⟩|exact (D_<|λh=>by omega).symm) (hI:=by (try dsimp only);exact (Dd _))
  rintro y hp
  have hy:(y=decide (e.kd=1/\(e_ xs k).p=(eh e).p)):=hp
  show W Tryz.prog κ 180 _ _ ([(3,pt b2),(4,pt b3),(9,pt b4),(10,.slice a4 M.length c4),(11,pt b5),(12,.bool q2),(14,pt b6),(15,.bool<|decide<|((e_ xs k).p)=((eh e).p)),(67,va),(68,e7 ((xs.length:Nat):Int)),(69,e7<|(k:Int)),(106,.bool y)]:Env) (e8 b4 [e7 nd,.slice a3 O2.length c3] 35::vk 82 a3 c3 O2::vk 54 a4 c4 M::e8 b6 (kl (e_ xs k)) 82::e8 b5 (kl (eh e)) 82::e8 b3 [e7 0,.slice none 0 0] 35::e8 b2 (ez e) 54::e8 b1 [e7 nd,va] 35::I)
  refine Dq C (λad=>?_)<|λad=>?_
  ·refine Ay (Am<|Gl6 J7 ?_)
   refine Gl6 J7 ?_
   refine Gr (j7.fx9 (α:=Lk) (a:=(e_ xs k)) (b:=(eh e)) dy9 C C)<|Ar<|A0 (S9 115 3 4 9 10 11 67 68 69)<|Al C (λbe=>?_)<|λbe=>?_
   ·refine Ba (Gm C<|Gl6 J7 ?_)
    refine Gf Q9 C<|Gl ef ?_
    refine Gc0 (Ac c_ C C<|bg6 (eh e) e.tm) ?_
    refine Ge1 (B0 (α:=Ev) (cs:=[e7 1,e7<|e.tm,e7<|(eh e).u,e7<|(eh e).v,e7<|(eh e).w,e7<|(eh e).lb,e7<|(eh e).sg]) (xs:=[⟨1,e.tm,(eh e).u,(eh e).v,(eh e).w,(eh e).lb,(eh e).sg⟩]) Ad z6 C C dc dc C kr C C) λcj=>?_
    refine Ge2 (Bp (α:=Ev) (e:=54) (xs:=M) (ys:=([⟨1,e.tm,(eh e).u,(eh e).v,(eh e).w,(eh e).lb,(eh e).sg⟩]:List Ev)) Ad z6 C C C mm A5 (by have ah:=hA.len;first|(simp only [By,E_,Fw];omega)|(have ae:=aa.len;simp only [By,E_,Fw];omega)) dc C<|λ_ _=>am) λba a5=>?_
    refine Ga C<|Ar<|A0 (S8 10 3 4 9 11 67 68 69)<|Ba<|Gf P1 C<|Gl au7 ?_
    refine Gl6 J7 ?_
    refine Ge1 (B0 (α:=Lk) (cs:=(kl (eh e))) (xs:=[⟨(eh e).u,(eh e).v,(eh e).w,(eh e).lb,(eh e).sg,(eh e).tm⟩]) A3 J7 C C dc dc C kr C C) λcm=>?_
    refine Ge2 (Bp (α:=Lk) (e:=82) (xs:=O2) (ys:=([⟨(eh e).u,(eh e).v,(eh e).w,(eh e).lb,(eh e).sg,(eh e).tm⟩]:List Lk)) A3 J7 C C C mm A5 (by have ah:=hA.len;first|(simp only [By,E_,Fw];omega)|(have ae:=aa.len;simp only [By,E_,Fw];omega)) dc C<|λ_ _=>am) λbt a6=>?_
    refine Gf P1 C<|Ge0 (Fc au7) ?_
    exact Ga C<|Bs<|Av<|Av<|Ao<|A0 (S9 12 10 3 4 9 11 67 68 69)<|Ba<|Gr (Rad C C)<|Gm C<|Bs<|Bt ((k+1),(bt),(a6),(ba),(a5),(O2++([⟨(eh e).u,(eh e).v,(eh e).w,(eh e).lb,(eh e).sg,(eh e).tm⟩]:List Lk)),(M++([⟨1,e.tm,(eh e).u,(eh e).v,(eh e).w,(eh e).lb,(eh e).sg⟩]:List Ev)),(true))<|by dsimp only;exact ⟨om,(by first|exact aa.hit ai om (Fs<|hy.symm.trans ad).1 (Fs<|hy.symm.trans ad).2|exact aa.drop om (Fs<|hz.symm.trans ab).1 (Fs<|hz.symm.trans ab).2|exact aa.fn4 ai om hM (λh1 h2=>Jc (hy.symm.trans ad) ⟨h1,h2⟩) (λh1=>Gd λhh=>Jc (hz.symm.trans ab) ⟨h1,by simpa using hh⟩)),olp⟩
   refine Bc<|Ao<|Ba<|Gf P1 C<|Gl au7 ?_
   refine Gl6 J7 ?_
   refine Ge1 (B0 (α:=Lk) (cs:=(kl (eh e))) (xs:=[⟨(eh e).u,(eh e).v,(eh e).w,(eh e).lb,(eh e).sg,(eh e).tm⟩]) A3 J7 C C dc dc C kr C C) λch=>?_
   refine Ge2 (Bp (α:=Lk) (e:=82) (xs:=O2) (ys:=([⟨(eh e).u,(eh e).v,(eh e).w,(eh e).lb,(eh e).sg,(eh e).tm⟩]:List Lk)) A3 J7 C C C mm A5 (by have ah:=hA.len;first|(simp only [By,E_,Fw];omega)|(have ae:=aa.len;simp only [By,E_,Fw];omega)) dc C<|λ_ _=>am) λbh bj=>?_
   refine Gf P1 C<|Ge0 (Fc au7) ?_
   exact Ga C<|Bs<|Av<|Av<|Ao<|A0 (S9 12 3 4 9 10 11 67 68 69)<|Ba<|Gr (Rad C C)<|Gm C<|Bs<|Bt ((k+1),(bh),(bj),(a4),(c4),(O2++([⟨(eh e).u,(eh e).v,(eh e).w,(eh e).lb,(eh e).sg,(eh e).tm⟩]:List Lk)),(M),(true))<|by dsimp only;exact ⟨om,(by first|exact aa.hit ai om (Fs<|hy.symm.trans ad).1 (Fs<|hy.symm.trans ad).2|exact aa.drop om (Fs<|hz.symm.trans ab).1 (Fs<|hz.symm.trans ab).2|exact aa.fn4 ai om hM (λh1 h2=>Jc (hy.symm.trans ad) ⟨h1,h2⟩) (λh1=>Gd λhh=>Jc (hz.symm.trans ab) ⟨h1,by simpa using hh⟩)),olp⟩
  refine Fe (σ:=Bool) (λs=>([(3,pt b2),(4,pt b3),(9,pt b4),(10,.slice a4 M.length c4),(11,pt b5),(12,.bool q2),(14,pt b6),(67,va),(68,e7 ((xs.length:Nat):Int)),(69,e7<|(k:Int)),(129,.bool s)]:Env)) (λs=>e8 b4 [e7 nd,.slice a3 O2.length c3] 35::vk 82 a3 c3 O2::vk 54 a4 c4 M::e8 b6 (kl (e_ xs k)) 82::e8 b5 (kl (eh e)) 82::e8 b3 [e7 0,.slice none 0 0] 35::e8 b2 (ez e) 54::e8 b1 [e7 nd,va] 35::I) (λs=>(s=decide (e.kd≠1/\ah4 e (e_ xs k)=true))) ?_ ?_
  ·refine Ba (Gf W8 C<|Gl ef ?_)
   refine Gr (C4 C C)<|Gm C<|A1 (d:=133) C (λa0=>?_)<|λa0=>?_
   ·refine e9 (Aq C) (Gr (B4 C C)<|Gm C<|A1 (d:=136) C (λbi=>?_)<|λbi=>?_)
    ·exact eb<|eb<|eb<|eb<|ee<|ee<|ee<|ee<|ee<|ee<|ee<|ee<|ee<|ee<|ee<|ee<|eb<|Gr (B4 C C)<|Ga C<|Bs<|Di ((true)) (by first|(exfalso;omega)|exact (As ⟨by omega,by first|(rw [T5 om];exact As asm)|(rw [H5 om];exact As om)⟩).symm|exact (D_<|λh=>by first|omega|(have h2:=h.2;first|(rw [T5 om] at h2;exact absurd (Fs h2) asm)|(rw [H5 om] at h2;have h3:=Fs h2;omega))).symm|exact Ft.2 ⟨λh=>⟨by omega,by rw [H5 om];exact As<|.inr h⟩,λh=>by have h2:=h.2;rw [H5 om] at h2;have h3:=Fs h2;omega⟩) (hI:=by (try dsimp only);exact (Dd _))
    refine e9 (Af W8 C)<|e9 (Bf ef) ?_
    refine e9 (C4 C C)<|e9 (Aq C)<|A1 (d:=140) C (λap=>?_)<|λap=>?_
    ·refine e9 (Af cf3 C) (e9 (Bf ef) ?_)
     refine e9 (Af L6 C)<|e9 (Bf ef) ?_
     refine e9 (C4 C C)<|e9 (Aq C)<|A1 (d:=146) C (λaq=>?_)<|λaq=>?_
     ·exact eb<|eb<|eb<|eb<|eb<|e9 (B4 C C)<|e9 (B4 C C)<|Gr (Bq C C)<|Ga C<|Bs<|Di ((true)) (by first|(exfalso;omega)|exact (As ⟨by omega,by first|(rw [T5 om];exact As asm)|(rw [H5 om];exact As om)⟩).symm|exact (D_<|λh=>by first|omega|(have h2:=h.2;first|(rw [T5 om] at h2;exact absurd (Fs h2) asm)|(rw [H5 om] at h2;have h3:=Fs h2;omega))).symm|exact Ft.2 ⟨λh=>⟨by omega,by rw [H5 om];exact As<|.inr h⟩,λh=>by have h2:=h.2;rw [H5 om] at h2;have h3:=Fs h2;omega⟩) (hI:=by (try dsimp only);exact (Dd _))
     refine e9 (Af ag0 C)<|e9 (Bf ef) ?_
     refine e9 (Af L6 C)<|e9 (Bf ef) ?_
     exact e9 (C4 C C)<|e9 (Bq C C)<|e9 (B4 C C)<|Gr (Bq C C)<|Ga C<|Bs<|Di ((decide<|((e_ xs k).v)=e.u)) (by first|(exfalso;omega)|exact (As ⟨by omega,by first|(rw [T5 om];exact As asm)|(rw [H5 om];exact As om)⟩).symm|exact (D_<|λh=>by first|omega|(have h2:=h.2;first|(rw [T5 om] at h2;exact absurd (Fs h2) asm)|(rw [H5 om] at h2;have h3:=Fs h2;omega))).symm|exact Ft.2 ⟨λh=>⟨by omega,by rw [H5 om];exact As<|.inr h⟩,λh=>by have h2:=h.2;rw [H5 om] at h2;have h3:=Fs h2;omega⟩) (hI:=by (try dsimp only);exact (Dd _))
    exact eb<|eb<|eb<|eb<|eb<|eb<|ee<|ee<|ee<|ee<|ee<|eb<|e9 (Bq C C)<|Gr (Bq C C)<|Ga C<|Bs<|Di ((false)) (by first|(exfalso;omega)|exact (As ⟨by omega,by first|(rw [T5 om];exact As asm)|(rw [H5 om];exact As om)⟩).symm|exact (D_<|λh=>by first|omega|(have h2:=h.2;first|(rw [T5 om] at h2;exact absurd (Fs h2) asm)|(rw [H5 om] at h2;have h3:=Fs h2;omega))).symm|exact Ft.2 ⟨λh=>⟨by omega,by rw [H5 om];exact As<|.inr h⟩,λh=>by have h2:=h.2;rw [H5 om] at h2;have h3:=Fs h2;omega⟩) (hI:=by (try dsimp only);exact (Dd _))
   refine eb<|Gr (Bq C C)<|Gm C<|e9 (Af W8 C)<|e9 (Bf ef) ?_
   refine e9 (C4 C C)<|e9 (Aq C)<|A1 (d:=140) C (λap=>?_)<|λap=>?_
   ·refine e9 (Af cf3 C) (e9 (Bf ef) ?_)
    refine e9 (Af L6 C)<|e9 (Bf ef) ?_
    refine e9 (C4 C C)<|e9 (Aq C)<|A1 (d:=146) C (λaq=>?_)<|λaq=>?_
    ·exact eb<|eb<|eb<|eb<|eb<|e9 (B4 C C)<|e9 (B4 C C)<|Gr (Bq C C)<|Ga C<|Bs<|Di ((true)) (by first|(exfalso;omega)|exact (As ⟨by omega,by first|(rw [T5 om];exact As asm)|(rw [H5 om];exact As om)⟩).symm|exact (D_<|λh=>by first|omega|(have h2:=h.2;first|(rw [T5 om] at h2;exact absurd (Fs h2) asm)|(rw [H5 om] at h2;have h3:=Fs h2;omega))).symm|exact Ft.2 ⟨λh=>⟨by omega,by rw [H5 om];exact As<|.inr h⟩,λh=>by have h2:=h.2;rw [H5 om] at h2;have h3:=Fs h2;omega⟩) (hI:=by (try dsimp only);exact (Dd _))
    refine e9 (Af ag0 C)<|e9 (Bf ef) ?_
    refine e9 (Af L6 C)<|e9 (Bf ef) ?_
    exact e9 (C4 C C)<|e9 (Bq C C)<|e9 (B4 C C)<|Gr (Bq C C)<|Ga C<|Bs<|Di ((decide<|((e_ xs k).v)=e.u)) (by first|(exfalso;omega)|exact (As ⟨by omega,by first|(rw [T5 om];exact As asm)|(rw [H5 om];exact As om)⟩).symm|exact (D_<|λh=>by first|omega|(have h2:=h.2;first|(rw [T5 om] at h2;exact absurd (Fs h2) asm)|(rw [H5 om] at h2;have h3:=Fs h2;omega))).symm|exact Ft.2 ⟨λh=>⟨by omega,by rw [H5 om];exact As<|.inr h⟩,λh=>by have h2:=h.2;rw [H5 om] at h2;have h3:=Fs h2;omega⟩) (hI:=by (try dsimp only);exact (Dd _))
   exact eb<|eb<|eb<|eb<|eb<|eb<|ee<|ee<|ee<|ee<|ee<|eb<|e9 (Bq C C)<|Gr (Bq C C)<|Ga C<|Bs<|Di ((false)) (by first|(exfalso;omega)|exact (As ⟨by omega,by first|(rw [T5 om];exact As asm)|(rw [H5 om];exact As om)⟩).symm|exact (D_<|λh=>by first|omega|(have h2:=h.2;first|(rw [T5 om] at h2;exact absurd (Fs h2) asm)|(rw [H5 om] at h2;have h3:=Fs h2;omega))).symm|exact Ft.2 ⟨λh=>⟨by omega,by rw [H5 om];exact As<|.inr h⟩,λh=>by have h2:=h.2;rw [H5 om] at h2;have h3:=Fs h2;omega⟩) (hI:=by (try dsimp only);exact (Dd _))
  rintro z hp
  have hz:(z=decide (e.kd≠1/\ah4 e (e_ xs k)=true)):=hp
  show W Tryz.prog κ 180 _ _ ([(3,pt b2),(4,pt b3),(9,pt b4),(10,.slice a4 M.length c4),(11,pt b5),(12,.bool q2),(14,pt b6),(67,va),(68,e7 ((xs.length:Nat):Int)),(69,e7<|(k:Int)),(129,.bool z)]:Env) (e8 b4 [e7 nd,.slice a3 O2.length c3] 35::vk 82 a3 c3 O2::vk 54 a4 c4 M::e8 b6 (kl (e_ xs k)) 82::e8 b5 (kl (eh e)) 82::e8 b3 [e7 0,.slice none 0 0] 35::e8 b2 (ez e) 54::e8 b1 [e7 nd,va] 35::I)
  refine Dq C (λab=>?_)<|λab=>?_
  ·refine Ba (Gm C<|Gl6 J7 ?_)
   refine Gf Q9 C<|Gl ef ?_
   refine Gc0 (Ac c_ C C<|ci8 (e_ xs k) e.tm) ?_
   refine Ge1 (B0 (α:=Ev) (cs:=[e7 2,e7<|e.tm,e7<|(e_ xs k).u,e7<|(e_ xs k).v,e7 0,e7 0,e7 0]) (xs:=[⟨2,e.tm,(e_ xs k).u,(e_ xs k).v,0,0,0⟩]) Ad z6 C C dc dc C kr C C) λce=>?_
   refine Ge2 (Bp (α:=Ev) (e:=54) (xs:=M) (ys:=([⟨2,e.tm,(e_ xs k).u,(e_ xs k).v,0,0,0⟩]:List Ev)) Ad z6 C C C mm A5 (by have ah:=hA.len;first|(simp only [By,E_,Fw];omega)|(have ae:=aa.len;simp only [By,E_,Fw];omega)) dc C<|λ_ _=>am) λa9 bu=>?_
   exact Ga C<|Bs<|Av<|Av<|Ao<|A0 (S9 10 3 4 9 11 12 67 68 69)<|Ba<|Gr (Rad C C)<|Gm C<|Bs<|Bt ((k+1),(a3),(c3),(a9),(bu),(O2),(M++([⟨2,e.tm,(e_ xs k).u,(e_ xs k).v,0,0,0⟩]:List Ev)),(q2))<|by dsimp only;exact ⟨om,(by first|exact aa.hit ai om (Fs<|hy.symm.trans ad).1 (Fs<|hy.symm.trans ad).2|exact aa.drop om (Fs<|hz.symm.trans ab).1 (Fs<|hz.symm.trans ab).2|exact aa.fn4 ai om hM (λh1 h2=>Jc (hy.symm.trans ad) ⟨h1,h2⟩) (λh1=>Gd λhh=>Jc (hz.symm.trans ab) ⟨h1,by simpa using hh⟩)),olp⟩
  refine Ba<|Gf P1 C<|Gl au7 ?_
  refine Gl6 J7 ?_
  refine Ge1 (B0 (α:=Lk) (cs:=(kl (e_ xs k))) (xs:=[⟨(e_ xs k).u,(e_ xs k).v,(e_ xs k).w,(e_ xs k).lb,(e_ xs k).sg,(e_ xs k).tm⟩]) A3 J7 C C dc dc C kr C C) λcc=>?_
  refine Ge2 (Bp (α:=Lk) (e:=82) (xs:=O2) (ys:=([⟨(e_ xs k).u,(e_ xs k).v,(e_ xs k).w,(e_ xs k).lb,(e_ xs k).sg,(e_ xs k).tm⟩]:List Lk)) A3 J7 C C C mm A5 (by have ah:=hA.len;first|(simp only [By,E_,Fw];omega)|(have ae:=aa.len;simp only [By,E_,Fw];omega)) dc C<|λ_ _=>am) λbr bg=>?_
  refine Gf P1 C<|Ge0 (Fc au7) ?_
  exact Bs<|Av<|Av<|Ao<|A0 (S9 3 4 9 10 11 12 67 68 69)<|Ba<|Gr (Rad C C)<|Gm C<|Bs<|Bt ((k+1),(br),(bg),(a4),(c4),(O2++([⟨(e_ xs k).u,(e_ xs k).v,(e_ xs k).w,(e_ xs k).lb,(e_ xs k).sg,(e_ xs k).tm⟩]:List Lk)),(M),(q2))<|by dsimp only;exact ⟨om,(by first|exact aa.hit ai om (Fs<|hy.symm.trans ad).1 (Fs<|hy.symm.trans ad).2|exact aa.drop om (Fs<|hz.symm.trans ab).1 (Fs<|hz.symm.trans ab).2|exact aa.fn4 ai om hM (λh1 h2=>Jc (hy.symm.trans ad) ⟨h1,h2⟩) (λh1=>Gd λhh=>Jc (hz.symm.trans ab) ⟨h1,by simpa using hh⟩)),olp⟩
 refine Ck<|Aw<|Aw<|Bi<|Ao<|Ay<|Am<|Gm C<|Gr (Fa C)<|Ar<|Dq C (λaz=>?_)<|λaz=>?_
 ·refine A9 mixed (Bx (e8 b5 (kl (eh e)) 82::e8 b3 [e7 0,.slice none 0 0] 35::e8 b2 (ez e) 54::e8 b1 [e7 nd,va] 35::I) 15<|Dr 0 C (Af P1 C)<|Dr 2 C (Bm (vs:=[_,_,_,_,_,_]) J7) ?_)
  refine Dr 5 C (Aq C)<|Dr 6 C (Bm (vs:=[_,_,_,_,_,_]) J7) ?_
  refine Dr 7 C (Af Q9 C)<|Dr 8 C (Bf ef) ?_
  refine C8 (rs:=[1,3]) kr C C<|Ei ?_<|Do ?_
  ·refine Sr C (Bf au7) Ai ?_
   refine Ds1 3<|Se1 C (B0 (α:=Lk) (cs:=(kl (eh e))) (xs:=[⟨(eh e).u,(eh e).v,(eh e).w,(eh e).lb,(eh e).sg,(eh e).tm⟩]) A3 J7 C C dc dc C kr C C) λcn=>?_
   refine Ds1 4<|Se2 C (Bp (α:=Lk) (e:=82) (xs:=O) (ys:=([⟨(eh e).u,(eh e).v,(eh e).w,(eh e).lb,(eh e).sg,(eh e).tm⟩]:List Lk)) A3 J7 C C C mm A5 (by have ah:=hA.len;first|(simp only [By,E_,Fw];omega)|(have ae:=aa.len;simp only [By,E_,Fw];omega)) dc C<|λ_ _=>am) λaw au=>?_
   refine Dr 12 C (Af P1 C)<|Ds1 9<|Sc0 C (Ac c_ C C<|bg6 (eh e) e.tm) ?_
   refine Ds1 10<|Se1 C (B0 (α:=Ev) (cs:=[e7 1,e7<|e.tm,e7<|(eh e).u,e7<|(eh e).v,e7<|(eh e).w,e7<|(eh e).lb,e7<|(eh e).sg]) (xs:=[⟨1,e.tm,(eh e).u,(eh e).v,(eh e).w,(eh e).lb,(eh e).sg⟩]) Ad z6 C C dc dc C kr C C) λco=>?_
   refine Ds1 11<|Se2 C (Bp (α:=Ev) (e:=54) (xs:=aj) (ys:=([⟨1,e.tm,(eh e).u,(eh e).v,(eh e).w,(eh e).lb,(eh e).sg⟩]:List Ev)) Ad z6 C C C mm A5 (by have ah:=hA.len;first|(simp only [By,E_,Fw];omega)|(have ae:=aa.len;simp only [By,E_,Fw];omega)) dc C<|λ_ _=>am) λbk bf=>?_
   refine Ds1 13<|Se0 C (Fc au7) ?_
   refine Dr 14 C (Be C)<|Dz<|Ao<|A0 (S3 10 4 9)<|Am<|Gl2 W2 ?_
   refine Gm C<|Ge0 (Cr W2) ?_
   refine Ga C<|Ga C<|Ar<|B2 ?_
   have hE:O++([⟨(eh e).u,(eh e).v,(eh e).w,(eh e).lb,(eh e).sg,(eh e).tm⟩]:List Lk)=(ep xs e):=by first|exact hA.fin om asm|exact hA.dj6 om asm
   exact Cu C W2 C C C mm C (vk 82 aw au (ep xs e)::I) (by unfold vk;rw [←hE];exact Ai) ⟨⟨aw,au,bk,(aj++([⟨1,e.tm,(eh e).u,(eh e).v,(eh e).w,(eh e).lb,(eh e).sg⟩]:List Ev)).length,bf⟩,⟨by rw [←hE]<;>rfl,by first|(show _<=2*xs.length+1;omega)|(show _<=2*xs.length+1;simp only [By,E_,Fw];omega)⟩,rfl⟩
  refine Se1 C (B0 (α:=Lk) (cs:=(kl (eh e))) (xs:=[⟨(eh e).u,(eh e).v,(eh e).w,(eh e).lb,(eh e).sg,(eh e).tm⟩]) A3 J7 C C dc dc C kr C C) λcg=>?_
  refine Ds1 1<|Sr C (Bf au7) Ai ?_
  refine Ds1 4<|Se2 C (Bp (α:=Lk) (e:=82) (xs:=O) (ys:=([⟨(eh e).u,(eh e).v,(eh e).w,(eh e).lb,(eh e).sg,(eh e).tm⟩]:List Lk)) A3 J7 C C C mm A5 (by have ah:=hA.len;first|(simp only [By,E_,Fw];omega)|(have ae:=aa.len;simp only [By,E_,Fw];omega)) dc C<|λ_ _=>am) λar ax=>?_
  refine Dr 12 C (Af P1 C)<|Ds1 9<|Sc0 C (Ac c_ C C<|bg6 (eh e) e.tm) ?_
  refine Ds1 10<|Se1 C (B0 (α:=Ev) (cs:=[e7 1,e7<|e.tm,e7<|(eh e).u,e7<|(eh e).v,e7<|(eh e).w,e7<|(eh e).lb,e7<|(eh e).sg]) (xs:=[⟨1,e.tm,(eh e).u,(eh e).v,(eh e).w,(eh e).lb,(eh e).sg⟩]) Ad z6 C C dc dc C kr C C) λcf=>?_
  refine Ds1 11<|Se2 C (Bp (α:=Ev) (e:=54) (xs:=aj) (ys:=([⟨1,e.tm,(eh e).u,(eh e).v,(eh e).w,(eh e).lb,(eh e).sg⟩]:List Ev)) Ad z6 C C C mm A5 (by have ah:=hA.len;first|(simp only [By,E_,Fw];omega)|(have ae:=aa.len;simp only [By,E_,Fw];omega)) dc C<|λ_ _=>am) λbc bb=>?_
  refine Ds1 13<|Se0 C (Fc au7) ?_
  refine Dr 14 C (Be C)<|Dz<|Ao<|A0 (S3 10 4 9)<|Am<|Gl2 W2 ?_
  refine Gm C<|Ge0 (Cr W2) ?_
  refine Ga C<|Ga C<|Ar<|B2 ?_
  have hE:O++([⟨(eh e).u,(eh e).v,(eh e).w,(eh e).lb,(eh e).sg,(eh e).tm⟩]:List Lk)=(ep xs e):=by first|exact hA.fin om asm|exact hA.dj6 om asm
  exact Cu C W2 C C C mm C (vk 82 ar ax (ep xs e)::I) (by unfold vk;rw [←hE];exact Ai) ⟨⟨ar,ax,bc,(aj++([⟨1,e.tm,(eh e).u,(eh e).v,(eh e).w,(eh e).lb,(eh e).sg⟩]:List Ev)).length,bb⟩,⟨by rw [←hE]<;>rfl,by first|(show _<=2*xs.length+1;omega)|(show _<=2*xs.length+1;simp only [By,E_,Fw];omega)⟩,rfl⟩
 refine Bc<|Ao<|Am<|Gl2 W2 ?_
 refine Gm C<|Ge0 (Cr W2) ?_
 refine Ga C<|Ga C<|Ar<|A0 (S3 6 5 4)<|B2 ?_
 have hE:O=(ep xs e):=by first|exact hA.fin om asm|exact hA.dj6 om asm
 exact Cu C W2 C C C mm C (vk 82 a1 c1 (ep xs e)::I) (by unfold vk;rw [←hE];exact Ai) ⟨⟨a1,c1,a2,aj.length,c2⟩,⟨by rw [←hE]<;>rfl,by first|(show _<=2*xs.length+1;omega)|(show _<=2*xs.length+1;simp only [By,E_,Fw];omega)⟩,rfl⟩
end Go.Sl
namespace Go.Sl
open Go.Proofs
set_option maxRecDepth 4000
attribute [local irreducible] W G V D A j7 Eff
theorem ck4{q:Bool}{p:Prop}[Decidable p](h:(!q)=true)(hq:q=decide p):¬p:=λM=>by rw [hq,As M] at h;cases h
theorem ax9{q:Bool}{p:Prop}[Decidable p](h:(!q)=false)(hq:q=decide p):p:=Gd λM=>by rw [hq,D_ M] at h;cases h
theorem dn9{κ:Ctx}{I:List Item}{nd kd wd mo:Int}{va:Value}{xs:List Lk}(hl:Sl κ I va xs):eu Tryz.prog κ 71 [.agg #[e7 nd,va],.agg #[e7 kd,e7 wd,e7 mo]] I (λr J=>∃z:Int,r = .tuple #[e7 z,.bool (decide (ac9 nd xs kd wd mo)),e7 (ds7 nd xs kd wd mo)]/\dn8 nd xs kd wd mo z/\I=J):=by
 refine Bw hl.le λao=>?_
 refine Ce2 Tryz.func71 C C ?_
 refine Am<|Ge1 (Au (cs:=[_,_]) C C C) λb1=>Ge1 (Au (cs:=[_,_,_]) C C C) λb2=>Z ?_
 refine Gc0 (Ac c_ C C<|am3 kd wd mo)<|Z ?_
 refine Al C (λae=>Z ?_)<|λae=>Z ?_
 ·have hu:ds7 nd xs kd wd mo=s7 kd wd mo:=by unfold ds7;rw [B_ ae]
  have hn:¬ac9 nd xs kd wd mo:=λh=>ae (hu▸h.1)
  exact V.gb7 C C C C I Ah ⟨0,by rw [D_ hn,hu],.none hn,rfl⟩
 refine Gc0 (Ac c_ C C<|ae7 (nd:=nd)<|A4 hl)<|Z ?_
 refine Al C (λai=>Z ?_)<|λai=>Z ?_
 ·have hu:ds7 nd xs kd wd mo=p9 nd xs:=by unfold ds7;rw [An ae]
  have hn:¬ac9 nd xs kd wd mo:=λh=>ai (hu▸h.1)
  exact V.gb7 C C C C I Ah ⟨0,by rw [D_ hn,hu],.none hn,rfl⟩
 refine Dh (σ:=Nat×Int×Bool) (λs=>[(9,e7<|s.2.1),(10,.bool<|s.2.2),(27,e7 ((s.1:Nat):Int))]) (λ_=>[]) (λs=>(s.1<=xs.length)/\(s.2.2=decide (kd=2/\0<s.1))/\(¬(kd=2/\0<s.1)->s.2.1=0)/\(kd=2/\0<s.1->∃x∈xs,s.2.1=x.tm+wd)/\(kd=2->∀j,j<s.1->s.2.1<=(e_ xs j).tm+wd)) (λs=>xs.length - s.1) (0,0,false) (show ((0:Nat)<=xs.length)/\((false:Bool)=decide (kd=2/\0<(0:Nat)))/\(¬(kd=2/\0<(0:Nat))->(0:Int)=0)/\(kd=2/\0<(0:Nat)->∃x∈xs,(0:Int)=x.tm+wd)/\(kd=2->∀j,j<(0:Nat)->(0:Int)<=(e_ xs j).tm+wd) from ⟨om,(D_<|λh=>absurd h.2 om).symm,(λ_=>rfl),(λh=>absurd h.2 om),(λ_ j hj=>absurd hj om)⟩) ?_
 rintro ⟨k,z,q⟩ hp
 dsimp only at hp ⊢
 obtain ⟨hk,hq,ah,ab,ad⟩:=hp
 refine Z ?_
 refine Al C (λak=>Z ?_)<|λak=>Z ?_
 ·refine Ge1 (Aj J7 C) λb3=>Ge0 (Fl J7) ?_
  have ap:=bf9 (Fv.1 ai) (k:Int) om om
  have aq:=at0 (Fv.1 ae)
  refine Z ?_
  refine A1 (d:=39) C (λaj=>Z ?_)<|λaj=>Z ?_
  ·refine G.bj9 (d:=42) C (λM=>Z ?_) (λM=>Z ?_)
   ·exact Bt ((k+1),(((e_ xs k).tm)+wd),(true))<|by dsimp only;exact ⟨om,(by first|exact (As om).symm|(rw [hq,Ft];omega)|(rw [hq,Ft];have hP:=ax9 M hq;omega)),(λh=>by first|omega|exact ah om),(λh=>by first|exact ⟨_,Bn (i:=(k:Int)) om om,rfl⟩|exact ab om|(have hP:=ax9 M hq;exact ab hP)),(λaa=>by first|omega|exact Dp (λj hj=>by first|(have hP:=ck4 M hq;omega)|(have h5:=ad aa j hj;omega)) (Hn _)|exact Dp (ad aa) om)⟩
   refine Al C (λan=>Z ?_)<|λan=>Z ?_
   ·exact Bt ((k+1),(((e_ xs k).tm)+wd),(true))<|by dsimp only;exact ⟨om,(by first|exact (As om).symm|(rw [hq,Ft];omega)|(rw [hq,Ft];have hP:=ax9 M hq;omega)),(λh=>by first|omega|exact ah om),(λh=>by first|exact ⟨_,Bn (i:=(k:Int)) om om,rfl⟩|exact ab om|(have hP:=ax9 M hq;exact ab hP)),(λaa=>by first|omega|exact Dp (λj hj=>by first|(have hP:=ck4 M hq;omega)|(have h5:=ad aa j hj;omega)) (Hn _)|exact Dp (ad aa) om)⟩
   exact Bt ((k+1),(z),(q))<|by dsimp only;exact ⟨om,(by first|exact (As om).symm|(rw [hq,Ft];omega)|(rw [hq,Ft];have hP:=ax9 M hq;omega)),(λh=>by first|omega|exact ah om),(λh=>by first|exact ⟨_,Bn (i:=(k:Int)) om om,rfl⟩|exact ab om|(have hP:=ax9 M hq;exact ab hP)),(λaa=>by first|omega|exact Dp (λj hj=>by first|(have hP:=ck4 M hq;omega)|(have h5:=ad aa j hj;omega)) (Hn _)|exact Dp (ad aa) om)⟩
  exact Bt ((k+1),(z),(q))<|by dsimp only;exact ⟨om,(by first|exact (As om).symm|(rw [hq,Ft];omega)|(rw [hq,Ft];have hP:=ax9 M hq;omega)),(λh=>by first|omega|exact ah om),(λh=>by first|exact ⟨_,Bn (i:=(k:Int)) om om,rfl⟩|exact ab om|(have hP:=ax9 M hq;exact ab hP)),(λaa=>by first|omega|exact Dp (λj hj=>by first|(have hP:=ck4 M hq;omega)|(have h5:=ad aa j hj;omega)) (Hn _)|exact Dp (ad aa) om)⟩
 have hu:ds7 nd xs kd wd mo=0:=bb5 ae ai
 have hc:ac9 nd xs kd wd mo↔(kd=2/\0<k):=⟨λh=>⟨h.2.1,by have:=Lj.2 h.2.2;omega⟩,λh=>⟨hu,h.1,Lj.1 om⟩⟩
 exact V.gb7 C C C C I Ah ⟨z,by rw [hq,show decide (ac9 nd xs kd wd mo)=decide (kd=2/\0<k) from Ft.2 hc,hu],⟨λh=>⟨ab<|hc.1 h,λy hy=>by obtain ⟨j,hj,rfl⟩:=ar4 hy;exact ad (hc.1 h).1 j om⟩,λh=>ah<|λh2=>h<|hc.2 h2⟩,rfl⟩
end Go.Sl
namespace Go.Sl
open Go.Proofs
set_option maxRecDepth 4000
variable{T kd mo wd z:Int}{ys:List Lk}{zs:List Ev}
theorem cv9(hk:kd=2)(h:0<ys.length/\ab4 ys+wd<=T)(M:z=ab4 ys+wd):R5 kd wd mo T (ys,zs)=R5 kd wd mo T (ys.filter (inW kd wd mo z ys),zs++s6 kd wd mo z ys):=by
 subst hk M
 unfold R5
 rw [B_ rfl,B_ rfl]
 exact ae3 h
theorem bn4(h:kd=2->¬(0<ys.length/\ab4 ys+wd<=T)):R5 kd wd mo T (ys,zs)=(ys,zs):=by
 unfold R5
 by_cases hk:kd=2
 ·rw [B_ hk];exact Q3 (h hk)
 rw [An hk]
theorem dn6(M:kd=2)(h:0<ys.length)(hz:z=ab4 ys+wd):(ys.filter (inW kd wd mo z ys)).length<ys.length:=by
 subst M hz
 exact at2 (wd:=wd) (mo:=mo) h
end Go.Sl
namespace Go.Sl
open Go.Proofs
set_option maxRecDepth 4000
attribute [local irreducible] W G V D A j7 Eff
theorem dq8{κ:Ctx}{I:List Item}{nd:Int}{va:Value}{xs:List Lk}(hl:Sl κ I va xs)(hv:p9 nd xs=0)(ap:xs.length<=100000):eu Tryz.prog κ 18 [.agg #[e7 nd,va]] I (λr J=>∃a c,r = .tuple #[.agg #[e7 nd,.slice a (j8 xs).length c],e7 0]/\J=vk 105 a c (j8 xs)::I):=by
 refine Bw hl.le λak=>?_
 refine Ce1 Tryz.func18 C C ?_
 refine Am<|Ge1 (Au (cs:=[_,_]) C C C) λb1=>Ge1 (Aj J9 C) λb2=>Z ?_
 refine Gc0 (Ac c_ C C<|ae7 (nd:=nd)<|A4 hl)<|Z ?_
 refine Al C (λc11=>?_)<|λc11=>Z ?_
 ·exact absurd hv c11
 refine Ge1 (Aj J9 C) λb3=>Ge0 (Cr J9)<|Z ?_
 refine Dh (σ:=Nat×(Option Addr)×Nat×(List Pt)) (λs=>[(20,e7 ((s.1:Nat):Int))]) (λs=>[vk 105 s.2.1 s.2.2.1 s.2.2.2,e8 b3 [e7 nd,.slice s.2.1 s.2.2.2.length s.2.2.1] 38]) (λs=>(s.1<=xs.length)/\(s.2.2.2=j8 (xs.take s.1))) (λs=>xs.length - s.1) (0,none,0,[]) (show ((0:Nat)<=xs.length)/\(([]:List Pt)=j8 (xs.take (0:Nat))) from ⟨om,rfl⟩) (hI:=(A7 (B6 (α:=Pt) _ _) Az)) ?_
 rintro ⟨k,a,c,out⟩ hp
 dsimp only at hp ⊢
 obtain ⟨hk,ho⟩:=hp
 have an:out.length=k:=by rw [ho,G7,Fr];omega
 refine Z ?_
 refine Al C (λah=>Z ?_)<|λah=>Z ?_
 ·refine Ge1 (Aj J7 C) λb4=>Ge0 (Fl J7) ?_
  refine Ar<|A9 mixed<|Bx (e8 b4 (kl (e_ xs k)) 82::e8 b2 [e7 0,.slice none 0 0] 38::e8 b1 [e7 nd,va] 35::I) 8<|Z ?_
  refine C8 (rs:=[1,3]) kr C C<|Ei ?_<|Do ?_
  ·refine Sr C (Bf am8) Ai ?_
   refine Ds1 3<|Sc0 C (Ac c_ C C<|ac2<|e_ xs k) ?_
   refine Ds1 4<|Se1 C (B0 (α:=Pt) (cs:=[_,_]) (xs:=[⟨(e_ xs k).p.u,(e_ xs k).p.v⟩]) Ax s9 C C dc dc C C C C) λao=>?_
   refine Ds1 5<|Se2 C (Bp (α:=Pt) (e:=105) (xs:=out) (ys:=([⟨(e_ xs k).p.u,(e_ xs k).p.v⟩]:List Pt)) Ax s9 C C C mm A5 lcn dc C<|λ_ _=>am) λai ae=>Z ?_
   refine Ds1 7<|Se0 C (Fc am8)<|Z ?_
   exact Bt ((k+1),(ai),(ae),(out++([⟨(e_ xs k).p.u,(e_ xs k).p.v⟩]:List Pt)))<|by dsimp only;exact ⟨om,(by rw [ag2 om,←ho];rfl)⟩
  refine Sc0 C (Ac c_ C C<|ac2<|e_ xs k) ?_
  refine C8 (rs:=[1,4]) kr C C<|Ei ?_<|Do ?_
  ·refine Sr C (Bf am8) Ai ?_
   refine Ds1 4<|Se1 C (B0 (α:=Pt) (cs:=[_,_]) (xs:=[⟨(e_ xs k).p.u,(e_ xs k).p.v⟩]) Ax s9 C C dc dc C C C C) λaq=>?_
   refine Ds1 5<|Se2 C (Bp (α:=Pt) (e:=105) (xs:=out) (ys:=([⟨(e_ xs k).p.u,(e_ xs k).p.v⟩]:List Pt)) Ax s9 C C C mm A5 lcn dc C<|λ_ _=>am) λad ab=>Z ?_
   refine Ds1 7<|Se0 C (Fc am8)<|Z ?_
   exact Bt ((k+1),(ad),(ab),(out++([⟨(e_ xs k).p.u,(e_ xs k).p.v⟩]:List Pt)))<|by dsimp only;exact ⟨om,(by rw [ag2 om,←ho];rfl)⟩
  refine Se1 C (B0 (α:=Pt) (cs:=[_,_]) (xs:=[⟨(e_ xs k).p.u,(e_ xs k).p.v⟩]) Ax s9 C C dc dc C C C C) λaj=>?_
  refine Ds1 1<|Sr C (Bf am8) Ai ?_
  refine Ds1 5<|Se2 C (Bp (α:=Pt) (e:=105) (xs:=out) (ys:=([⟨(e_ xs k).p.u,(e_ xs k).p.v⟩]:List Pt)) Ax s9 C C C mm A5 lcn dc C<|λ_ _=>am) λaa M=>Z ?_
  refine Ds1 7<|Se0 C (Fc am8)<|Z ?_
  exact Bt ((k+1),(aa),(M),(out++([⟨(e_ xs k).p.u,(e_ xs k).p.v⟩]:List Pt)))<|by dsimp only;exact ⟨om,(by rw [ag2 om,←ho];rfl)⟩
 refine Ge0 (Cr J9)<|Z ?_
 have hE:out=j8 xs:=by rw [ho,Fx om]
 exact Co C J9 C C mm C (vk 105 a c (j8 xs)::I) (by unfold vk;rw [←hE];exact Az) ⟨a,c,by rw [←hE]<;>rfl,rfl⟩
end Go.Sl
namespace Go.Sl
open Go.Proofs
set_option maxRecDepth 4000
end Go.Sl
namespace Go.Sl
end Go.Sl
namespace Go.Sl
open Go.Proofs
set_option maxRecDepth 4000
theorem ai7{nd lv:Int}{es:List Pt}{y:Int}:y∈U8 nd es lv↔(0<=y/\y<(j9 nd es).length)/\lv<=e_ (j9 nd es) y:=by
 unfold U8;rw [ai5,Gp]
theorem ca1{l:List Int}{i:Nat}(hi:i<64):(bd5 l).getLsbD i=true↔(i:Int)∈l:=by
 unfold bd5;rw [ay2 hi];simp
end Go.Sl
namespace Go.Sl
def au0(rows:List (BitVec 64))(k:Nat)(W:BitVec 64):Prop:=∀u∈eo W,k<=Q1 rows W u
theorem bf3{rows:List (BitVec 64)}{W L:BitVec 64}(h:∀u∈eo W,u∈eo L)(v:Int):Q1 rows W v<=Q1 rows L v:=by
 unfold Q1
 refine Ho (Q8 _) λx M=>?_
 obtain ⟨h1,h2⟩:=K2.1 M
 exact K2.2 ⟨h1,h x h2⟩
theorem aj4{rows:List (BitVec 64)}{X:BitVec 64->Nat->List (Int×Nat)->Prop}(h0:∀k,X 0#64 k [])
  (hs:∀left k v,ca5 rows left v->X (left &&& ~~~(1#64 <<< v.toNat)) (max k<|Q1 rows left v) (ae2 rows (left &&& ~~~(1#64 <<< v.toNat))<|max k<|Q1 rows left v)->X left k ((v,max k<|Q1 rows left v)::ae2 rows (left &&& ~~~(1#64 <<< v.toNat)) (max k<|Q1 rows left v))) :
  ∀(n:Nat) (left:BitVec 64) (k:Nat),(eo left).length=n->X left k (ae2 rows left k)
 |0,left,k,h=>by
  have:left=0#64:=Gd λhn=>by
   obtain ⟨u,hu⟩:=az8.1 hn
   have:=Kl hu;omega
  subst this
  rw [bm4];exact h0 k
 |n+1,left,k,h=>by
  have M:left≠0#64:=λe=>by subst e;rw [P6] at h;simp at h
  have hT:=bb8 (rows:=rows) M
  rw [bm5 hT]
  have hm:=aa7 hT.mem
  exact hs _ _ _ hT<|aj4 h0 hs n _ _<|by omega
section
variable {rows:List (BitVec 64)}
theorem bm6(left:BitVec 64)(k:Nat):(am6 (ae2 rows left k)).Nodup/\(∀v,v∈am6 (ae2 rows left k)↔v∈eo left):=by
 refine aj4 (rows:=rows) (X:=λleft k l=>(am6 l).Nodup/\∀v,v∈am6 l↔v∈eo left) (λk=>?_) (λleft k v hT ih=>?_) _ left k rfl
 ·refine ⟨List.nodup_nil,λv=>?_⟩
  rw [P6];exact Iff.rfl
 have M:=(T3 hT.mem).1
 obtain ⟨h1,h2⟩:=ih
 refine ⟨Hz.2 ⟨λhm=>((M5 M).1 ((h2 v).1 hm)).2 rfl,h1⟩,λu=>?_⟩
 show u∈v::am6 (ae2 rows _ _)↔_
 rw [Fy,h2,M5 M]
 constructor
 ·rintro (rfl|h)
  ·exact hT.mem
  exact h.1
 intro h
 by_cases e:u=v
 ·exact .inl e
 exact .inr ⟨h,e⟩
theorem cp0(left:BitVec 64)(k:Nat):∀p∈ae2 rows left k,k<=p.2:=by
 refine aj4 (rows:=rows) (X:=λleft k l=>∀p∈l,k<=p.2) (λk p hp=>by cases hp) (λleft k v hT M p hp=>?_) _ left k rfl
 rcases Fy.1 hp with rfl|hp
 ·show k<=max k _;omega
 have:=M p hp;omega
theorem cv0{j:Nat}{W:BitVec 64}(hW:au0 rows j W)(left:BitVec 64)(k:Nat):(∀u∈eo W,u∈eo left)->∀p∈ae2 rows left k,p.1∈eo W->j<=p.2:=by
 refine aj4 (rows:=rows) (X:=λleft k l=>(∀u∈eo W,u∈eo left)->∀p∈l,p.1∈eo W->j<=p.2) (λk _ p hp=>by cases hp) (λleft k v hT ih M p hp aa=>?_) _ left k rfl
 have h0:=(T3 hT.mem).1
 by_cases hv:v∈eo W
 ·have h1:=hW v hv
  have h2:=bf3 (rows:=rows) M v
  rcases Fy.1 hp with rfl|hp
  ·show j<=max k _;omega
  have:=cp0 _ _ p hp;omega
 rcases Fy.1 hp with rfl|hp
 ·exact absurd aa hv
 exact ih (λu hu=>(M5 h0).2 ⟨M u hu,λe=>hv<|e▸hu⟩) p hp aa
theorem cu9(left:BitVec 64)(k0:Nat):∀k,k0<k->∃W:BitVec 64,au0 rows k W/\(∀u∈eo W,u∈eo left)/\∀p∈ae2 rows left k0,k<=p.2↔p.1∈eo W:=by
 refine aj4 (rows:=rows) (X:=λleft k0 l=>∀k,k0<k->∃W:BitVec 64,au0 rows k W/\(∀u∈eo W,u∈eo left)/\∀p∈l,k<=p.2↔p.1∈eo W) (λk0 k hk=>?_) (λleft k0 v hT ih k hk=>?_) _ left k0 rfl
 ·refine ⟨0#64,λu hu=>?_,λu hu=>hu,λp hp=>by cases hp⟩
  rw [P6] at hu;cases hu
 have h0:=(T3 hT.mem).1
 by_cases hc:k<=max k0 (Q1 rows left v)
 ·refine ⟨left,λu hu=>?_,λu hu=>hu,λp hp=>⟨λ_=>?_,λ_=>?_⟩⟩
  ·have:=hT.le u hu;omega
  ·rcases Fy.1 hp with rfl|hp
   ·exact hT.mem
   have M:p.1∈am6 (ae2 rows (left &&& ~~~(1#64 <<< v.toNat))<|max k0<|Q1 rows left v):=Gz.2 ⟨p,hp,rfl⟩
   exact ((M5 h0).1 (((bm6 _ _).2 _).1 M)).1
  rcases Fy.1 hp with rfl|hp
  ·exact hc
  have:=cp0 _ _ p hp;omega
 obtain ⟨W,M,h2,h3⟩:=ih k (by omega)
 refine ⟨W,M,λu hu=>((M5 h0).1 (h2 u hu)).1,λp hp=>?_⟩
 rcases Fy.1 hp with rfl|hp
 ·exact ⟨λh=>absurd h hc,λh=>absurd rfl ((M5 h0).1 (h2 _ h)).2⟩
 exact h3 p hp
theorem fm5{n:Nat}:∀{l:List (Int×Nat)},(am6 l).Nodup->(∀v∈am6 l,0<=v/\v<(n:Int))->∀p∈l,e_ (bq6 n l) p.1=(p.2:Int):=by
 intro l
 unfold bq6
 have hk:∀(l:List (Int×Nat)) (xs:List Int) (u:Int),0<=u->(∀v∈am6 l,0<=v)->u∉am6 l->e_ (l.foldl (λxs p=>xs.set p.1.toNat (p.2:Int)) xs) u=e_ xs u:=λl=>by
  induction l with
  |nil=>intro xs u _ _ _;rfl
  |cons q l ih=>
   intro xs u hu h0 hn
   have hq:0<=q.1:=h0 q.1 A_
   have ad:u≠q.1:=λe=>hn (by rw [e];exact A_)
   rw [H_,ih _ u hu (λv hv=>h0 v<|C_ _ hv) λh=>hn<|C_ _ h]
   unfold e_
   rw [Hs,Hs,List.getElem?_set_ne (by omega)]
 have:∀(l:List (Int×Nat)) (xs:List Int),xs.length=n->(am6 l).Nodup->(∀v∈am6 l,0<=v/\v<(n:Int))->∀p∈l,e_ (l.foldl (λxs p=>xs.set p.1.toNat (p.2:Int)) xs) p.1=(p.2:Int):=λl=>by
  induction l with
  |nil=>intro xs _ _ _ p hp;cases hp
  |cons q l ih=>
   intro xs hl hn hr p hp
   obtain ⟨hq,ab⟩:=Hz.1 (show (q.1::am6 l).Nodup from hn)
   have aa:∀v∈am6 l,0<=v/\v<(n:Int):=λv hv=>hr v (C_ _ hv)
   have M:=hr q.1 A_
   rw [H_]
   rcases Fy.1 hp with rfl|hp
   ·rw [hk l _ p.1 M.1 (λv hv=>(aa v hv).1) hq,R4 _ _ _ _ M.1 M.1<|by omega,B_ rfl]
   exact ih _ (by rw [Fq];exact hl) ab aa p hp
 exact λh1 h2=>this l _ F_ h1 h2
end
end Go.Sl
namespace Go.Sl
open Go.Proofs
set_option maxRecDepth 4000
end Go.Sl
