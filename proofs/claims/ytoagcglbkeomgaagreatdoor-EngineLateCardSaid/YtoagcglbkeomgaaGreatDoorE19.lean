/- A part of the proofs of statements of this seat: contracts of functions, and the plain laws that they lean on. No conditions. -/
import Derived.Test.YtoagcglbkeomgaaGreatDoorE18
set_option linter.unusedVariables false
set_option linter.unusedSimpArgs false
set_option linter.unusedSectionVars false
open List (replicate)
set_option maxHeartbeats 2000000
namespace Go.Sl
open Go.Proofs
set_option maxRecDepth 4000
variable{b':Int}{ls num:List Int}{k:Nat}
theorem as0{M out:List Int}(hk:k<ls.length)(ho:out=(M++ls.take k).foldl (X8 b') num):List.set out (e_ ls k).toNat (e_ out (e_ ls k)+b')=(M++ls.take (k+1)).foldl (X8 b') num:=by
 rw [Ca ls k hk,←Fu,Hf (l:=M++ls.take k),←ho];rfl
theorem bm0(x:Int):∀l:List Int,0<=(l.map λw=>ind (decide (w=x))).sum/\(l.map λw=>ind (decide (w=x))).sum<=(l.length:Int)
 |[]=>by simp
 |p::l=>by
  have M:=bm0 x l
  have h2:0<=ind (decide<|p=x)/\ind (decide<|p=x)<=1:=by unfold ind;split<;>omega
  rw [Hi,Je,E_];omega
theorem ba4(hr:∀w∈ls,0<=w/\w<(num.length:Int))(hb : -1<=b'/\b'<=1)(hv:∀x∈num,0<=x/\x<=1000000){x:Int}(M:0<=x/\x<(num.length:Int)) : -(ls.length:Int)<=e_ (ls.foldl (X8 b') num) x/\e_ (ls.foldl (X8 b') num) x<=1000000+(ls.length:Int):=by
 have h1:=hv _ (Bn (xs:=num) (i:=x) M.1 om)
 have h2:=bm0 x ls
 rw [ac6 _ _ hr _ M.1]
 rcases (by omega:b' = -1\/b'=0\/b'=1) with h|h|h<;>rw [h]<;>omega
theorem di7{α β:Type}{f:α->List β}{m:Nat}(h:∀a,(f a).length<=m):∀l:List α,(l.flatMap f).length<=m*l.length
 |[]=>by simp
 |a::l=>by
  have M:=di7 h l
  have h2:=h a
  rw [List.flatMap_cons,By,E_,Nat.mul_succ];omega
section
variable {nd u v:Int}{es:List Pt}
theorem bx1(nd:Int)(es:List Pt)(u v:Int):(p6 nd es u v).length<=4096:=by
 have h1:=K0 nd es u
 have M:=K0 nd es v
 have h3:=di7 (f:=bd0 nd es u v) (m:=64) (λa=>by
  unfold bd0
  split
  ·simp
  rw [Gc];exact Hc (Gw _ _) M) (nbG nd es u)
 unfold p6;omega
theorem aw2(hG:s8 nd es)(hu:p8 nd u)(hv:p8 nd v){p:Pt}(hp:p∈p6 nd es u v):∀w∈N4 u v p,0<=w/\w<nd:=λw M=>by
 have hr:=bq9 hG hp
 unfold p8 at hu hv hr
 unfold N4 at M
 simp only [Fy,Kc,Mq] at M
 rcases M with rfl|rfl|rfl|rfl<;>omega
def bq0(nd:Int)(es:List Pt)(u v:Int)(k j:Nat):List Int:=((p6 nd es u v).take k).flatMap (N4 u v)++(N4 u v (e_ (p6 nd es u v) k)).take j
theorem bp9(hG:s8 nd es)(hu:p8 nd u)(hv:p8 nd v){j:Nat}(M:k<(p6 nd es u v).length\/j=0):∀w∈bq0 nd es u v k j,0<=w/\w<nd:=λw hw=>by
 unfold bq0 at hw
 rcases Gu.1 hw with hw|hw
 ·obtain ⟨p,hp,hw⟩:=Kw.1 hw
  exact aw2 hG hu hv (Hx hp) w hw
 rcases M with M|rfl
 ·exact aw2 hG hu hv (Bn om om) w<|Hx hw
 cases hw
theorem az7(k j:Nat)(hk:k<=(p6 nd es u v).length):(bq0 nd es u v k j).length<=20000:=by
 have h1:=bx1 nd es u v
 have M:=di7 (f:=N4 u v) (m:=4) (λa=>by unfold N4;simp) ((p6 nd es u v).take k)
 have h4:(N4 u v<|e_ (p6 nd es u v) k).length=4:=rfl
 rw [Fr] at M
 unfold bq0
 rw [By,Fr];omega
theorem aq8(M:k<(p6 nd es u v).length):bq0 nd es u v k 4=bq0 nd es u v (k+1) 0:=by
 unfold bq0
 rw [cf2 _ _ M,Ju,Gt];rfl
end
theorem dp2{κ:Ctx}{I:List Item}{nd nd' nd0 u v w0 n0:Int}{va:Value}{ea na ga:Option Addr}{ec nc gn gc:Nat}{es:List Pt}(hl:Sl κ I (.slice ea es.length ec) es)(hm:Sl κ I (.slice na num.length nc) num)(hG:s8 nd es)(hu:p8 nd u)(hv:p8 nd v)(av:(num.length:Int)=nd)(az:∀x∈num,0<=x/\x<=1000000)(bf:0<=w0/\w0<=1000000)(bk:0<=n0/\n0<=1000000000)(hb : -1<=b'/\b'<=1)(hT:F4 κ I 0 p5):eu Tryz.prog κ 307 [.agg #[e7 nd0,va,e7 w0,e7 n0,.slice na num.length nc],.agg #[e7 (nd'),.slice ga gn gc],.agg #[e7 nd,.slice ea es.length ec],e7 u,e7 v,e7 (b')] I (λr J=>∃(a:Option Addr) (c:Nat),r = .tuple #[.agg #[e7 nd',.slice ga gn gc,e7 (w0+b'*(((nbG nd es u).length:Int)+((nbG nd es v).length:Int))),e7 (n0+b'*((p6 nd es u v).length:Int)),.slice a num.length c],e7 ((p6 nd es u v).length:Int),e7 0]/\J=vc 3 (.slice a num.length c) (ah1 b' (p6 nd es u v) u v num)::I):=by
 have bc:=hG.rng
 have bj:0<=u/\u<nd:=hu
 have bg:0<=v/\v<nd:=hv
 have bh:=K0 nd es u
 have bm:=K0 nd es v
 have bb:=bx1 nd es u v
 have bi : -128<=b'*(((nbG nd es u).length:Int)+((nbG nd es v).length:Int))/\b'*(((nbG nd es u).length:Int)+((nbG nd es v).length:Int))<=128:=by rcases (by omega:b' = -1\/b'=0\/b'=1) with h|h|h<;>rw [h]<;>omega
 have be : -4096<=b'*((p6 nd es u v).length:Int)/\b'*((p6 nd es u v).length:Int)<=4096:=by rcases (by omega:b' = -1\/b'=0\/b'=1) with h|h|h<;>rw [h]<;>omega
 refine Ce6 Tryz.func307 C C ?_
 refine Am<|Ge1 (Au (cs:=[_,_,_,_,_]) C C C) λb1=>Ge1 (Au (cs:=[_,_]) C C C) λb2=>Ge1 (Au (cs:=[_,_]) C C C) λb3=>Ge1 (Aj V4 C) λb4=>Ga C<|Ga C<|Ar<|Am<|Gl2 J9 ?_
 refine Gm C<|Gm C<|G.e (Ac c_ C C<|fr4 (nd:=nd) (u:=u) (v:=v) (A4 hl) hG<|A6 hT Ah) ?_
 rintro _ _ ⟨_,_,⟨ad,ae,rfl,rfl⟩,rfl,rfl⟩
 refine Ga C<|Ar<|A0 (S8 15 12 8 7 6 3 4 5)<|Ay<|A9 mixed<|Ed 25<|Dr 0 C (Bm (vs:=[_,_]) J9) ?_
 refine Dr 1 C (Af dj1 C)<|Dr 2 C (Bf ef) ?_
 refine Dr 3 C (Aq C)<|Dr 4 C (Bm (vs:=[_,_]) J9) ?_
 refine Dr 5 C (Aq C)<|Dr 7 C (Bm (vs:=[_,_]) J9) ?_
 refine Dr 8 C (Aq C)<|Dr 13 C (Af dj0 C)<|Dr 14 C (Bf ef) ?_
 refine Dr 15 C (Aq C)<|Dr 16 C (Aq C)<|Dr 17 C (Bl Bv C)<|Dr 18 C (Ep C C<|by first|(unfold InR;omega)|(have h7:=ab om;unfold InR;omega))<|Dr 19 C (Ct C C<|by first|(unfold InR;omega)|(have h7:=ab om;unfold InR;omega))<|Dr 20 C (Af aw5 C)<|Dr 21 C (Bf W4) ?_
 refine C8 (rs:=[6,24]) kr C C<|Ei ?_<|Do ?_
 ·refine Sc0 C (Ac c_ C C<|Z4 (nd:=nd) (A4 hl) u) ?_
  refine C8 (rs:=[9,24]) kr C C<|Ei ?_<|Do ?_
  ·refine Sc0 C (Ac c_ C C<|Z4 (nd:=nd) (A4 hl) v) ?_
   refine Dr 10 C (Ct C C<|by first|(unfold InR;omega)|(have h7:=ab om;unfold InR;omega))<|Dr 11 C (Ep C C<|by first|(unfold InR;omega)|(have h7:=ab om;unfold InR;omega))<|Dr 12 C (Ct C C<|by first|(unfold InR;omega)|(have h7:=ab om;unfold InR;omega))<|C8 (rs:=[22,24]) kr C C<|Ei ?_<|Do ?_
   ·refine Sc2 C (Ac c_ C C<|ah0 (xs:=num) (A4 hm) om) λax aw=>?_
    refine Dr 23 C (Cm (cells:=[_,_,_,_,_]) V4 Ex fw4 C C)<|Ds1 24<|Se1 C (Aj V4 C) λb9=>?_
    refine Cg kr ?_
    refine Ae 25 C (E5 V4) ?_
    rintro _ _ ⟨rfl,rfl⟩
    refine Ch kr ?_
    refine Ao<|A0 (S6 16 15 12 3 4 5)<|Ay<|Am<|Gm C<|Gr (Bl Bv C)<|Gm C<|Ar<|A8<|B9 (σ:=Nat×(List Int)) (λs=>([(3,e7 u),(4,e7 v),(5,e7<|b'),(12,pt b4),(15,.slice ad (p6 nd es u v).length ae),(16,pt b9),(49,.slice ad (p6 nd es u v).length ae),(50,e7<|(((p6 nd es u v).length:Nat):Int)),(51,e7 ((s.1:Nat):Int))]:Env)) (λs=>e8 b9 [e7 (nd'),.slice ga gn gc,e7<|w0+(b'*(((((nbG nd es u).length:Nat)):Int)+((((nbG nd es v).length:Nat)):Int))),e7<|n0+(b'*(((p6 nd es u v).length:Nat):Int)),.slice ax num.length aw] 45::vc 3 (.slice ax num.length aw) (s.2)::vk 200 ad ae (p6 nd es u v)::e8 b4 [e7 0,.slice none 0 0,e7 0,e7 0,.slice none 0 0] 45::e8 b3 [e7 nd,.slice ea es.length ec] 38::e8 b2 [e7 (nd'),.slice ga gn gc] 38::e8 b1 [e7 nd0,va,e7 w0,e7 n0,.slice na num.length nc] 45::I) (λs=>(s.1<=(p6 nd es u v).length)/\(s.2=(bq0 nd es u v s.1 0).foldl (X8 b') num)) (λs=>(p6 nd es u v).length - s.1) (0,num) ⟨om,rfl⟩ (cx4<|cx4<|Aa Cn Bb) Ai ?_
    rintro ⟨k,out⟩ hp
    dsimp only at hp ⊢
    obtain ⟨hk,ho⟩:=hp
    have a5:out.length=num.length:=by rw [ho];exact J3 _ _
    refine Am<|Gr (Bj C C)<|Ar<|Ay<|Al C (λar=>?_)<|λar=>?_
    ·refine Bc (Ao<|Ay<|A8<|Am<|Gr (A2 (α:=Pt) (xs:=p6 nd es u v) Bv L8 C C A5 (by first|omega|(have h8:=aa om;omega))<|by first|omega|(have h8:=aa om;omega))<|Gr (Da (α:=Pt) (xs:=p6 nd es u v) L8 C A5 (by first|omega|(have h8:=aa om;omega))<|by first|omega|(have h8:=aa om;omega))<|Ge1 (Aj L8 C) λa7=>Ge0 (Cr L8) ?_)
     refine Ar<|Am<|Gm C<|Gm C<|Gr (B5 B7 ty2 C C om om)<|Gl ef ?_
     refine Gr (B5 B7 ty2 C C om om)<|Gl ef ?_
     refine Gr (Ef (cells:=[_,_,_,_]) bv1 Cz ef C C)<|Gm C<|Ar<|A0 (S11 62 61 3 4 5 12 15 16 49 50 51 C C C C C C C C C C C)<|A8<|B9 (σ:=Nat×(List Int)) (λs=>([(3,e7 u),(4,e7 v),(5,e7<|b'),(12,pt b4),(15,.slice ad (p6 nd es u v).length ae),(16,pt b9),(49,.slice ad (p6 nd es u v).length ae),(50,e7<|(((p6 nd es u v).length:Nat):Int)),(51,e7<|(k:Int)),(61,.agg #[e7 u,e7 v,e7<|(e_ (p6 nd es u v) k).u,e7<|(e_ (p6 nd es u v) k).v]),(62,e7 ((s.1:Nat):Int))]:Env)) (λs=>e8 a7 [e7 ((e_ (p6 nd es u v) k).u),e7<|(e_ (p6 nd es u v) k).v] 200::e8 b9 [e7 (nd'),.slice ga gn gc,e7<|w0+(b'*(((((nbG nd es u).length:Nat)):Int)+((((nbG nd es v).length:Nat)):Int))),e7<|n0+(b'*(((p6 nd es u v).length:Nat):Int)),.slice ax num.length aw] 45::vc 3 (.slice ax num.length aw) (s.2)::vk 200 ad ae (p6 nd es u v)::e8 b4 [e7 0,.slice none 0 0,e7 0,e7 0,.slice none 0 0] 45::e8 b3 [e7 nd,.slice ea es.length ec] 38::e8 b2 [e7 (nd'),.slice ga gn gc] 38::e8 b1 [e7 nd0,va,e7 w0,e7 n0,.slice na num.length nc] 45::I) (λs=>(s.1<=4)/\(s.2=(bq0 nd es u v k s.1).foldl (X8 b') num)) (λs=>4 - s.1) (0,out) ⟨om,ho⟩ (cx4<|cx4<|cx2<|Aa Cn Bb) Ai ?_
     rintro ⟨k2,M⟩ hp
     dsimp only at hp ⊢
     obtain ⟨a4,ah⟩:=hp
     have ay:M.length=num.length:=by rw [ah];exact J3 _ _
     have aa:=λh:k2<4=>aw2 hG hu hv (Bn (xs:=p6 nd es u v) (i:=(k:Int)) om om) _ (Bn (xs:=(N4 u v<|e_ (p6 nd es u v) k)) (i:=(k2:Int)) om<|by show (k2:Int)<4;omega)
     have ab:=λh:k2<4=>ba4 (b':=b') (num:=num) (λw hw=>by rw [av];exact bp9 hG hu hv (k:=k) (j:=k2) (.inl om) w hw) hb az (x:=e_ (N4 u v<|e_ (p6 nd es u v) k) (k2:Int)) (by have:=aa h;omega)
     rw [←ah] at ab
     have a6:=az7 (nd:=nd) (es:=es) (u:=u) (v:=v) k k2 om
     refine Am<|Gr (Bj C C)<|Ar<|Ay<|Al C (λau=>?_)<|λau=>?_
     ·refine Bc (Ao<|Ay<|A8<|Am<|Gr (show j7 _ _ _ _ _ _ (e7<|e_ (N4 u v<|e_ (p6 nd es u v) k) (k2:Int)) from j7.cm8 Cz ef C C om om)<|Ga C<|Ar<|A0 (S12 20 3 4 5 12 15 16 49 50 51 61 62)<|Ba<|Gf aw5 C<|Gl W4 ?_)
      refine Gm C<|Gr (A2 (α:=Int) (xs:=M) Ab ef C C A5 (by first|omega|(have h8:=aa om;omega))<|by first|omega|(have h8:=aa om;omega))<|Gr (B8 (xs:=M) ef C A5 (by first|omega|(have h8:=aa om;omega))<|by first|omega|(have h8:=aa om;omega))<|Gm C<|Gr (Ct C C<|by first|(unfold InR;omega)|(have h7:=ab om;unfold InR;omega))<|Gr (A2 (α:=Int) (xs:=M) Ab ef C C A5 (by first|omega|(have h8:=aa om;omega))<|by first|omega|(have h8:=aa om;omega))<|Ge0 (Cv (α:=Int) (xs:=M) (e:=3) (new:=(e_ M<|e_ (N4 u v<|e_ (p6 nd es u v) k) (k2:Int))+b') ef C C C (by first|omega|(have h8:=aa om;omega)) (by first|omega|(have h8:=aa om;omega)) am) ?_
      exact Bs<|Av<|Ao<|A0 (S11 3 4 5 12 15 16 49 50 51 61 62 C C C C C C C C C C C)<|Ba<|Gr (Ct C C<|by first|(unfold InR;omega)|(have h7:=ab om;unfold InR;omega))<|Gm C<|Bs<|Bt ((k2+1),(List.set M (e_ (N4 u v<|e_ (p6 nd es u v) k) (k2:Int)).toNat ((e_ M<|e_ (N4 u v<|e_ (p6 nd es u v) k) (k2:Int))+b')))<|by dsimp only;exact ⟨om,(as0 (ls:=(N4 u v<|e_ (p6 nd es u v) k)) (by show k2<4;omega) ah)⟩
     exact Ck<|Aw<|Aw<|Bi<|Av<|Ao<|Ba<|Gr (Ct C C<|by first|(unfold InR;omega)|(have h7:=ab om;unfold InR;omega))<|Gm C<|Bs<|Bt ((k+1),(M))<|by dsimp only;exact ⟨om,(by rw [ah,show k2=4 by omega,aq8 om])⟩
    refine Ck<|Aw<|Aw<|Bi<|Ao<|Am<|Gr (Bm (vs:=[_,_,_,_,_]) V4) ?_
    refine Gm C<|Gr (Bl Bv C)<|Ge0 (E5 V4) ?_
    refine Ga C<|Ga C<|Ar<|A0 (S3 14 13 12)<|B2 ?_
    have aq:out=ah1 b' (p6 nd es u v) u v num:=by rw [ho,show k=(p6 nd es u v).length by omega];unfold bq0 ah1;rw [Hd,Ju,Gt]
    exact Cu C V4 C C C mm C (vc 3 (.slice ax num.length aw) (ah1 b' (p6 nd es u v) u v num)::I) (by rw [←aq];exact Az) ⟨ax,aw,rfl,rfl⟩
   refine Se1 C (Aj V4 C) λa1=>?_
   refine Ds1 22<|Sc2 C (Ac c_ C C<|ah0 (xs:=num) (A4 hm) om) λai ap=>?_
   refine Dr 23 C (Cm (cells:=[_,_,_,_,_]) V4 Ex fw4 C C)<|Cg kr ?_
   refine Ae 25 C (E5 V4) ?_
   rintro _ _ ⟨rfl,rfl⟩
   refine Ch kr ?_
   refine Ao<|A0 (S6 16 15 12 3 4 5)<|Ay<|Am<|Gm C<|Gr (Bl Bv C)<|Gm C<|Ar<|A8<|B9 (σ:=Nat×(List Int)) (λs=>([(3,e7 u),(4,e7 v),(5,e7<|b'),(12,pt b4),(15,.slice ad (p6 nd es u v).length ae),(16,pt a1),(49,.slice ad (p6 nd es u v).length ae),(50,e7<|(((p6 nd es u v).length:Nat):Int)),(51,e7 ((s.1:Nat):Int))]:Env)) (λs=>vc 3 (.slice ai num.length ap) (s.2)::e8 a1 [e7 (nd'),.slice ga gn gc,e7<|w0+(b'*(((((nbG nd es u).length:Nat)):Int)+((((nbG nd es v).length:Nat)):Int))),e7<|n0+(b'*(((p6 nd es u v).length:Nat):Int)),.slice ai num.length ap] 45::vk 200 ad ae (p6 nd es u v)::e8 b4 [e7 0,.slice none 0 0,e7 0,e7 0,.slice none 0 0] 45::e8 b3 [e7 nd,.slice ea es.length ec] 38::e8 b2 [e7 (nd'),.slice ga gn gc] 38::e8 b1 [e7 nd0,va,e7 w0,e7 n0,.slice na num.length nc] 45::I) (λs=>(s.1<=(p6 nd es u v).length)/\(s.2=(bq0 nd es u v s.1 0).foldl (X8 b') num)) (λs=>(p6 nd es u v).length - s.1) (0,num) ⟨om,rfl⟩ (cx4<|cx4<|Aa Cn Bb) Ai ?_
   rintro ⟨k,out⟩ hp
   dsimp only at hp ⊢
   obtain ⟨hk,ho⟩:=hp
   have a5:out.length=num.length:=by rw [ho];exact J3 _ _
   refine Am<|Gr (Bj C C)<|Ar<|Ay<|Al C (λar=>?_)<|λar=>?_
   ·refine Bc (Ao<|Ay<|A8<|Am<|Gr (A2 (α:=Pt) (xs:=p6 nd es u v) Bv L8 C C A5 (by first|omega|(have h8:=aa om;omega))<|by first|omega|(have h8:=aa om;omega))<|Gr (Da (α:=Pt) (xs:=p6 nd es u v) L8 C A5 (by first|omega|(have h8:=aa om;omega))<|by first|omega|(have h8:=aa om;omega))<|Ge1 (Aj L8 C) λa9=>Ge0 (Cr L8) ?_)
    refine Ar<|Am<|Gm C<|Gm C<|Gr (B5 B7 ty2 C C om om)<|Gl ef ?_
    refine Gr (B5 B7 ty2 C C om om)<|Gl ef ?_
    refine Gr (Ef (cells:=[_,_,_,_]) bv1 Cz ef C C)<|Gm C<|Ar<|A0 (S11 62 61 3 4 5 12 15 16 49 50 51 C C C C C C C C C C C)<|A8<|B9 (σ:=Nat×(List Int)) (λs=>([(3,e7 u),(4,e7 v),(5,e7<|b'),(12,pt b4),(15,.slice ad (p6 nd es u v).length ae),(16,pt a1),(49,.slice ad (p6 nd es u v).length ae),(50,e7<|(((p6 nd es u v).length:Nat):Int)),(51,e7<|(k:Int)),(61,.agg #[e7 u,e7 v,e7<|(e_ (p6 nd es u v) k).u,e7<|(e_ (p6 nd es u v) k).v]),(62,e7 ((s.1:Nat):Int))]:Env)) (λs=>e8 a9 [e7 ((e_ (p6 nd es u v) k).u),e7<|(e_ (p6 nd es u v) k).v] 200::vc 3 (.slice ai num.length ap) (s.2)::e8 a1 [e7 (nd'),.slice ga gn gc,e7<|w0+(b'*(((((nbG nd es u).length:Nat)):Int)+((((nbG nd es v).length:Nat)):Int))),e7<|n0+(b'*(((p6 nd es u v).length:Nat):Int)),.slice ai num.length ap] 45::vk 200 ad ae (p6 nd es u v)::e8 b4 [e7 0,.slice none 0 0,e7 0,e7 0,.slice none 0 0] 45::e8 b3 [e7 nd,.slice ea es.length ec] 38::e8 b2 [e7 (nd'),.slice ga gn gc] 38::e8 b1 [e7 nd0,va,e7 w0,e7 n0,.slice na num.length nc] 45::I) (λs=>(s.1<=4)/\(s.2=(bq0 nd es u v k s.1).foldl (X8 b') num)) (λs=>4 - s.1) (0,out) ⟨om,ho⟩ (cx4<|cx4<|cx2<|Aa Cn Bb) Ai ?_
    rintro ⟨k2,M⟩ hp
    dsimp only at hp ⊢
    obtain ⟨a4,ah⟩:=hp
    have ay:M.length=num.length:=by rw [ah];exact J3 _ _
    have aa:=λh:k2<4=>aw2 hG hu hv (Bn (xs:=p6 nd es u v) (i:=(k:Int)) om om) _ (Bn (xs:=(N4 u v<|e_ (p6 nd es u v) k)) (i:=(k2:Int)) om<|by show (k2:Int)<4;omega)
    have ab:=λh:k2<4=>ba4 (b':=b') (num:=num) (λw hw=>by rw [av];exact bp9 hG hu hv (k:=k) (j:=k2) (.inl om) w hw) hb az (x:=e_ (N4 u v<|e_ (p6 nd es u v) k) (k2:Int)) (by have:=aa h;omega)
    rw [←ah] at ab
    have a6:=az7 (nd:=nd) (es:=es) (u:=u) (v:=v) k k2 om
    refine Am<|Gr (Bj C C)<|Ar<|Ay<|Al C (λau=>?_)<|λau=>?_
    ·refine Bc (Ao<|Ay<|A8<|Am<|Gr (show j7 _ _ _ _ _ _ (e7<|e_ (N4 u v<|e_ (p6 nd es u v) k) (k2:Int)) from j7.cm8 Cz ef C C om om)<|Ga C<|Ar<|A0 (S12 20 3 4 5 12 15 16 49 50 51 61 62)<|Ba<|Gf aw5 C<|Gl W4 ?_)
     refine Gm C<|Gr (A2 (α:=Int) (xs:=M) Ab ef C C A5 (by first|omega|(have h8:=aa om;omega))<|by first|omega|(have h8:=aa om;omega))<|Gr (B8 (xs:=M) ef C A5 (by first|omega|(have h8:=aa om;omega))<|by first|omega|(have h8:=aa om;omega))<|Gm C<|Gr (Ct C C<|by first|(unfold InR;omega)|(have h7:=ab om;unfold InR;omega))<|Gr (A2 (α:=Int) (xs:=M) Ab ef C C A5 (by first|omega|(have h8:=aa om;omega))<|by first|omega|(have h8:=aa om;omega))<|Ge0 (Cv (α:=Int) (xs:=M) (e:=3) (new:=(e_ M<|e_ (N4 u v<|e_ (p6 nd es u v) k) (k2:Int))+b') ef C C C (by first|omega|(have h8:=aa om;omega)) (by first|omega|(have h8:=aa om;omega)) am) ?_
     exact Bs<|Av<|Ao<|A0 (S11 3 4 5 12 15 16 49 50 51 61 62 C C C C C C C C C C C)<|Ba<|Gr (Ct C C<|by first|(unfold InR;omega)|(have h7:=ab om;unfold InR;omega))<|Gm C<|Bs<|Bt ((k2+1),(List.set M (e_ (N4 u v<|e_ (p6 nd es u v) k) (k2:Int)).toNat ((e_ M<|e_ (N4 u v<|e_ (p6 nd es u v) k) (k2:Int))+b')))<|by dsimp only;exact ⟨om,(as0 (ls:=(N4 u v<|e_ (p6 nd es u v) k)) (by show k2<4;omega) ah)⟩
    exact Ck<|Aw<|Aw<|Bi<|Av<|Ao<|Ba<|Gr (Ct C C<|by first|(unfold InR;omega)|(have h7:=ab om;unfold InR;omega))<|Gm C<|Bs<|Bt ((k+1),(M))<|by dsimp only;exact ⟨om,(by rw [ah,show k2=4 by omega,aq8 om])⟩
   refine Ck<|Aw<|Aw<|Bi<|Ao<|Am<|Gr (Bm (vs:=[_,_,_,_,_]) V4) ?_
   refine Gm C<|Gr (Bl Bv C)<|Ge0 (E5 V4) ?_
   refine Ga C<|Ga C<|Ar<|A0 (S3 14 13 12)<|B2 ?_
   have aq:out=ah1 b' (p6 nd es u v) u v num:=by rw [ho,show k=(p6 nd es u v).length by omega];unfold bq0 ah1;rw [Hd,Ju,Gt]
   exact Cu C V4 C C C mm C (vc 3 (.slice ai num.length ap) (ah1 b' (p6 nd es u v) u v num)::I) (by rw [←aq];exact Az) ⟨ai,ap,rfl,rfl⟩
  refine Se1 C (Aj V4 C) λa0=>?_
  refine Ds1 9<|Sc0 C (Ac c_ C C<|Z4 (nd:=nd) (A4 hl) v) ?_
  refine Dr 10 C (Ct C C<|by first|(unfold InR;omega)|(have h7:=ab om;unfold InR;omega))<|Dr 11 C (Ep C C<|by first|(unfold InR;omega)|(have h7:=ab om;unfold InR;omega))<|Dr 12 C (Ct C C<|by first|(unfold InR;omega)|(have h7:=ab om;unfold InR;omega))<|Ds1 22<|Sc2 C (Ac c_ C C<|ah0 (xs:=num) (A4 hm) om) λao ak=>?_
  refine Dr 23 C (Cm (cells:=[_,_,_,_,_]) V4 Ex fw4 C C)<|Cg kr ?_
  refine Ae 25 C (E5 V4) ?_
  rintro _ _ ⟨rfl,rfl⟩
  refine Ch kr ?_
  refine Ao<|A0 (S6 16 15 12 3 4 5)<|Ay<|Am<|Gm C<|Gr (Bl Bv C)<|Gm C<|Ar<|A8<|B9 (σ:=Nat×(List Int)) (λs=>([(3,e7 u),(4,e7 v),(5,e7<|b'),(12,pt b4),(15,.slice ad (p6 nd es u v).length ae),(16,pt a0),(49,.slice ad (p6 nd es u v).length ae),(50,e7<|(((p6 nd es u v).length:Nat):Int)),(51,e7 ((s.1:Nat):Int))]:Env)) (λs=>vc 3 (.slice ao num.length ak) (s.2)::e8 a0 [e7 (nd'),.slice ga gn gc,e7<|w0+(b'*(((((nbG nd es u).length:Nat)):Int)+((((nbG nd es v).length:Nat)):Int))),e7<|n0+(b'*(((p6 nd es u v).length:Nat):Int)),.slice ao num.length ak] 45::vk 200 ad ae (p6 nd es u v)::e8 b4 [e7 0,.slice none 0 0,e7 0,e7 0,.slice none 0 0] 45::e8 b3 [e7 nd,.slice ea es.length ec] 38::e8 b2 [e7 (nd'),.slice ga gn gc] 38::e8 b1 [e7 nd0,va,e7 w0,e7 n0,.slice na num.length nc] 45::I) (λs=>(s.1<=(p6 nd es u v).length)/\(s.2=(bq0 nd es u v s.1 0).foldl (X8 b') num)) (λs=>(p6 nd es u v).length - s.1) (0,num) ⟨om,rfl⟩ (cx4<|cx4<|Aa Cn Bb) Ai ?_
  rintro ⟨k,out⟩ hp
  dsimp only at hp ⊢
  obtain ⟨hk,ho⟩:=hp
  have a5:out.length=num.length:=by rw [ho];exact J3 _ _
  refine Am<|Gr (Bj C C)<|Ar<|Ay<|Al C (λar=>?_)<|λar=>?_
  ·refine Bc (Ao<|Ay<|A8<|Am<|Gr (A2 (α:=Pt) (xs:=p6 nd es u v) Bv L8 C C A5 (by first|omega|(have h8:=aa om;omega))<|by first|omega|(have h8:=aa om;omega))<|Gr (Da (α:=Pt) (xs:=p6 nd es u v) L8 C A5 (by first|omega|(have h8:=aa om;omega))<|by first|omega|(have h8:=aa om;omega))<|Ge1 (Aj L8 C) λa8=>Ge0 (Cr L8) ?_)
   refine Ar<|Am<|Gm C<|Gm C<|Gr (B5 B7 ty2 C C om om)<|Gl ef ?_
   refine Gr (B5 B7 ty2 C C om om)<|Gl ef ?_
   refine Gr (Ef (cells:=[_,_,_,_]) bv1 Cz ef C C)<|Gm C<|Ar<|A0 (S11 62 61 3 4 5 12 15 16 49 50 51 C C C C C C C C C C C)<|A8<|B9 (σ:=Nat×(List Int)) (λs=>([(3,e7 u),(4,e7 v),(5,e7<|b'),(12,pt b4),(15,.slice ad (p6 nd es u v).length ae),(16,pt a0),(49,.slice ad (p6 nd es u v).length ae),(50,e7<|(((p6 nd es u v).length:Nat):Int)),(51,e7<|(k:Int)),(61,.agg #[e7 u,e7 v,e7<|(e_ (p6 nd es u v) k).u,e7<|(e_ (p6 nd es u v) k).v]),(62,e7 ((s.1:Nat):Int))]:Env)) (λs=>e8 a8 [e7 ((e_ (p6 nd es u v) k).u),e7<|(e_ (p6 nd es u v) k).v] 200::vc 3 (.slice ao num.length ak) (s.2)::e8 a0 [e7 (nd'),.slice ga gn gc,e7<|w0+(b'*(((((nbG nd es u).length:Nat)):Int)+((((nbG nd es v).length:Nat)):Int))),e7<|n0+(b'*(((p6 nd es u v).length:Nat):Int)),.slice ao num.length ak] 45::vk 200 ad ae (p6 nd es u v)::e8 b4 [e7 0,.slice none 0 0,e7 0,e7 0,.slice none 0 0] 45::e8 b3 [e7 nd,.slice ea es.length ec] 38::e8 b2 [e7 (nd'),.slice ga gn gc] 38::e8 b1 [e7 nd0,va,e7 w0,e7 n0,.slice na num.length nc] 45::I) (λs=>(s.1<=4)/\(s.2=(bq0 nd es u v k s.1).foldl (X8 b') num)) (λs=>4 - s.1) (0,out) ⟨om,ho⟩ (cx4<|cx4<|cx2<|Aa Cn Bb) Ai ?_
   rintro ⟨k2,M⟩ hp
   dsimp only at hp ⊢
   obtain ⟨a4,ah⟩:=hp
   have ay:M.length=num.length:=by rw [ah];exact J3 _ _
   have aa:=λh:k2<4=>aw2 hG hu hv (Bn (xs:=p6 nd es u v) (i:=(k:Int)) om om) _ (Bn (xs:=(N4 u v<|e_ (p6 nd es u v) k)) (i:=(k2:Int)) om<|by show (k2:Int)<4;omega)
   have ab:=λh:k2<4=>ba4 (b':=b') (num:=num) (λw hw=>by rw [av];exact bp9 hG hu hv (k:=k) (j:=k2) (.inl om) w hw) hb az (x:=e_ (N4 u v<|e_ (p6 nd es u v) k) (k2:Int)) (by have:=aa h;omega)
   rw [←ah] at ab
   have a6:=az7 (nd:=nd) (es:=es) (u:=u) (v:=v) k k2 om
   refine Am<|Gr (Bj C C)<|Ar<|Ay<|Al C (λau=>?_)<|λau=>?_
   ·refine Bc (Ao<|Ay<|A8<|Am<|Gr (show j7 _ _ _ _ _ _ (e7<|e_ (N4 u v<|e_ (p6 nd es u v) k) (k2:Int)) from j7.cm8 Cz ef C C om om)<|Ga C<|Ar<|A0 (S12 20 3 4 5 12 15 16 49 50 51 61 62)<|Ba<|Gf aw5 C<|Gl W4 ?_)
    refine Gm C<|Gr (A2 (α:=Int) (xs:=M) Ab ef C C A5 (by first|omega|(have h8:=aa om;omega))<|by first|omega|(have h8:=aa om;omega))<|Gr (B8 (xs:=M) ef C A5 (by first|omega|(have h8:=aa om;omega))<|by first|omega|(have h8:=aa om;omega))<|Gm C<|Gr (Ct C C<|by first|(unfold InR;omega)|(have h7:=ab om;unfold InR;omega))<|Gr (A2 (α:=Int) (xs:=M) Ab ef C C A5 (by first|omega|(have h8:=aa om;omega))<|by first|omega|(have h8:=aa om;omega))<|Ge0 (Cv (α:=Int) (xs:=M) (e:=3) (new:=(e_ M<|e_ (N4 u v<|e_ (p6 nd es u v) k) (k2:Int))+b') ef C C C (by first|omega|(have h8:=aa om;omega)) (by first|omega|(have h8:=aa om;omega)) am) ?_
    exact Bs<|Av<|Ao<|A0 (S11 3 4 5 12 15 16 49 50 51 61 62 C C C C C C C C C C C)<|Ba<|Gr (Ct C C<|by first|(unfold InR;omega)|(have h7:=ab om;unfold InR;omega))<|Gm C<|Bs<|Bt ((k2+1),(List.set M (e_ (N4 u v<|e_ (p6 nd es u v) k) (k2:Int)).toNat ((e_ M<|e_ (N4 u v<|e_ (p6 nd es u v) k) (k2:Int))+b')))<|by dsimp only;exact ⟨om,(as0 (ls:=(N4 u v<|e_ (p6 nd es u v) k)) (by show k2<4;omega) ah)⟩
   exact Ck<|Aw<|Aw<|Bi<|Av<|Ao<|Ba<|Gr (Ct C C<|by first|(unfold InR;omega)|(have h7:=ab om;unfold InR;omega))<|Gm C<|Bs<|Bt ((k+1),(M))<|by dsimp only;exact ⟨om,(by rw [ah,show k2=4 by omega,aq8 om])⟩
  refine Ck<|Aw<|Aw<|Bi<|Ao<|Am<|Gr (Bm (vs:=[_,_,_,_,_]) V4) ?_
  refine Gm C<|Gr (Bl Bv C)<|Ge0 (E5 V4) ?_
  refine Ga C<|Ga C<|Ar<|A0 (S3 14 13 12)<|B2 ?_
  have aq:out=ah1 b' (p6 nd es u v) u v num:=by rw [ho,show k=(p6 nd es u v).length by omega];unfold bq0 ah1;rw [Hd,Ju,Gt]
  exact Cu C V4 C C C mm C (vc 3 (.slice ao num.length ak) (ah1 b' (p6 nd es u v) u v num)::I) (by rw [←aq];exact Az) ⟨ao,ak,rfl,rfl⟩
 refine Se1 C (Aj V4 C) λa3=>?_
 refine Ds1 6<|Sc0 C (Ac c_ C C<|Z4 (nd:=nd) (A4 hl) u) ?_
 refine Ds1 9<|Sc0 C (Ac c_ C C<|Z4 (nd:=nd) (A4 hl) v) ?_
 refine Dr 10 C (Ct C C<|by first|(unfold InR;omega)|(have h7:=ab om;unfold InR;omega))<|Dr 11 C (Ep C C<|by first|(unfold InR;omega)|(have h7:=ab om;unfold InR;omega))<|Dr 12 C (Ct C C<|by first|(unfold InR;omega)|(have h7:=ab om;unfold InR;omega))<|Ds1 22<|Sc2 C (Ac c_ C C<|ah0 (xs:=num) (A4 hm) om) λan aj=>?_
 refine Dr 23 C (Cm (cells:=[_,_,_,_,_]) V4 Ex fw4 C C)<|Cg kr ?_
 refine Ae 25 C (E5 V4) ?_
 rintro _ _ ⟨rfl,rfl⟩
 refine Ch kr ?_
 refine Ao<|A0 (S6 16 15 12 3 4 5)<|Ay<|Am<|Gm C<|Gr (Bl Bv C)<|Gm C<|Ar<|A8<|B9 (σ:=Nat×(List Int)) (λs=>([(3,e7 u),(4,e7 v),(5,e7<|b'),(12,pt b4),(15,.slice ad (p6 nd es u v).length ae),(16,pt a3),(49,.slice ad (p6 nd es u v).length ae),(50,e7<|(((p6 nd es u v).length:Nat):Int)),(51,e7 ((s.1:Nat):Int))]:Env)) (λs=>vc 3 (.slice an num.length aj) (s.2)::e8 a3 [e7 (nd'),.slice ga gn gc,e7<|w0+(b'*(((((nbG nd es u).length:Nat)):Int)+((((nbG nd es v).length:Nat)):Int))),e7<|n0+(b'*(((p6 nd es u v).length:Nat):Int)),.slice an num.length aj] 45::vk 200 ad ae (p6 nd es u v)::e8 b4 [e7 0,.slice none 0 0,e7 0,e7 0,.slice none 0 0] 45::e8 b3 [e7 nd,.slice ea es.length ec] 38::e8 b2 [e7 (nd'),.slice ga gn gc] 38::e8 b1 [e7 nd0,va,e7 w0,e7 n0,.slice na num.length nc] 45::I) (λs=>(s.1<=(p6 nd es u v).length)/\(s.2=(bq0 nd es u v s.1 0).foldl (X8 b') num)) (λs=>(p6 nd es u v).length - s.1) (0,num) ⟨om,rfl⟩ (cx4<|cx4<|Aa Cn Bb) Ai ?_
 rintro ⟨k,out⟩ hp
 dsimp only at hp ⊢
 obtain ⟨hk,ho⟩:=hp
 have a5:out.length=num.length:=by rw [ho];exact J3 _ _
 refine Am<|Gr (Bj C C)<|Ar<|Ay<|Al C (λar=>?_)<|λar=>?_
 ·refine Bc (Ao<|Ay<|A8<|Am<|Gr (A2 (α:=Pt) (xs:=p6 nd es u v) Bv L8 C C A5 (by first|omega|(have h8:=aa om;omega))<|by first|omega|(have h8:=aa om;omega))<|Gr (Da (α:=Pt) (xs:=p6 nd es u v) L8 C A5 (by first|omega|(have h8:=aa om;omega))<|by first|omega|(have h8:=aa om;omega))<|Ge1 (Aj L8 C) λba=>Ge0 (Cr L8) ?_)
  refine Ar<|Am<|Gm C<|Gm C<|Gr (B5 B7 ty2 C C om om)<|Gl ef ?_
  refine Gr (B5 B7 ty2 C C om om)<|Gl ef ?_
  refine Gr (Ef (cells:=[_,_,_,_]) bv1 Cz ef C C)<|Gm C<|Ar<|A0 (S11 62 61 3 4 5 12 15 16 49 50 51 C C C C C C C C C C C)<|A8<|B9 (σ:=Nat×(List Int)) (λs=>([(3,e7 u),(4,e7 v),(5,e7<|b'),(12,pt b4),(15,.slice ad (p6 nd es u v).length ae),(16,pt a3),(49,.slice ad (p6 nd es u v).length ae),(50,e7<|(((p6 nd es u v).length:Nat):Int)),(51,e7<|(k:Int)),(61,.agg #[e7 u,e7 v,e7<|(e_ (p6 nd es u v) k).u,e7<|(e_ (p6 nd es u v) k).v]),(62,e7 ((s.1:Nat):Int))]:Env)) (λs=>e8 ba [e7 ((e_ (p6 nd es u v) k).u),e7<|(e_ (p6 nd es u v) k).v] 200::vc 3 (.slice an num.length aj) (s.2)::e8 a3 [e7 (nd'),.slice ga gn gc,e7<|w0+(b'*(((((nbG nd es u).length:Nat)):Int)+((((nbG nd es v).length:Nat)):Int))),e7<|n0+(b'*(((p6 nd es u v).length:Nat):Int)),.slice an num.length aj] 45::vk 200 ad ae (p6 nd es u v)::e8 b4 [e7 0,.slice none 0 0,e7 0,e7 0,.slice none 0 0] 45::e8 b3 [e7 nd,.slice ea es.length ec] 38::e8 b2 [e7 (nd'),.slice ga gn gc] 38::e8 b1 [e7 nd0,va,e7 w0,e7 n0,.slice na num.length nc] 45::I) (λs=>(s.1<=4)/\(s.2=(bq0 nd es u v k s.1).foldl (X8 b') num)) (λs=>4 - s.1) (0,out) ⟨om,ho⟩ (cx4<|cx4<|cx2<|Aa Cn Bb) Ai ?_
  rintro ⟨k2,M⟩ hp
  dsimp only at hp ⊢
  obtain ⟨a4,ah⟩:=hp
  have ay:M.length=num.length:=by rw [ah];exact J3 _ _
  have aa:=λh:k2<4=>aw2 hG hu hv (Bn (xs:=p6 nd es u v) (i:=(k:Int)) om om) _ (Bn (xs:=(N4 u v<|e_ (p6 nd es u v) k)) (i:=(k2:Int)) om<|by show (k2:Int)<4;omega)
  have ab:=λh:k2<4=>ba4 (b':=b') (num:=num) (λw hw=>by rw [av];exact bp9 hG hu hv (k:=k) (j:=k2) (.inl om) w hw) hb az (x:=e_ (N4 u v<|e_ (p6 nd es u v) k) (k2:Int)) (by have:=aa h;omega)
  rw [←ah] at ab
  have a6:=az7 (nd:=nd) (es:=es) (u:=u) (v:=v) k k2 om
  refine Am<|Gr (Bj C C)<|Ar<|Ay<|Al C (λau=>?_)<|λau=>?_
  ·refine Bc (Ao<|Ay<|A8<|Am<|Gr (show j7 _ _ _ _ _ _ (e7<|e_ (N4 u v<|e_ (p6 nd es u v) k) (k2:Int)) from j7.cm8 Cz ef C C om om)<|Ga C<|Ar<|A0 (S12 20 3 4 5 12 15 16 49 50 51 61 62)<|Ba<|Gf aw5 C<|Gl W4 ?_)
   refine Gm C<|Gr (A2 (α:=Int) (xs:=M) Ab ef C C A5 (by first|omega|(have h8:=aa om;omega))<|by first|omega|(have h8:=aa om;omega))<|Gr (B8 (xs:=M) ef C A5 (by first|omega|(have h8:=aa om;omega))<|by first|omega|(have h8:=aa om;omega))<|Gm C<|Gr (Ct C C<|by first|(unfold InR;omega)|(have h7:=ab om;unfold InR;omega))<|Gr (A2 (α:=Int) (xs:=M) Ab ef C C A5 (by first|omega|(have h8:=aa om;omega))<|by first|omega|(have h8:=aa om;omega))<|Ge0 (Cv (α:=Int) (xs:=M) (e:=3) (new:=(e_ M<|e_ (N4 u v<|e_ (p6 nd es u v) k) (k2:Int))+b') ef C C C (by first|omega|(have h8:=aa om;omega)) (by first|omega|(have h8:=aa om;omega)) am) ?_
   exact Bs<|Av<|Ao<|A0 (S11 3 4 5 12 15 16 49 50 51 61 62 C C C C C C C C C C C)<|Ba<|Gr (Ct C C<|by first|(unfold InR;omega)|(have h7:=ab om;unfold InR;omega))<|Gm C<|Bs<|Bt ((k2+1),(List.set M (e_ (N4 u v<|e_ (p6 nd es u v) k) (k2:Int)).toNat ((e_ M<|e_ (N4 u v<|e_ (p6 nd es u v) k) (k2:Int))+b')))<|by dsimp only;exact ⟨om,(as0 (ls:=(N4 u v<|e_ (p6 nd es u v) k)) (by show k2<4;omega) ah)⟩
  exact Ck<|Aw<|Aw<|Bi<|Av<|Ao<|Ba<|Gr (Ct C C<|by first|(unfold InR;omega)|(have h7:=ab om;unfold InR;omega))<|Gm C<|Bs<|Bt ((k+1),(M))<|by dsimp only;exact ⟨om,(by rw [ah,show k2=4 by omega,aq8 om])⟩
 refine Ck<|Aw<|Aw<|Bi<|Ao<|Am<|Gr (Bm (vs:=[_,_,_,_,_]) V4) ?_
 refine Gm C<|Gr (Bl Bv C)<|Ge0 (E5 V4) ?_
 refine Ga C<|Ga C<|Ar<|A0 (S3 14 13 12)<|B2 ?_
 have aq:out=ah1 b' (p6 nd es u v) u v num:=by rw [ho,show k=(p6 nd es u v).length by omega];unfold bq0 ah1;rw [Hd,Ju,Gt]
 exact Cu C V4 C C C mm C (vc 3 (.slice an num.length aj) (ah1 b' (p6 nd es u v) u v num)::I) (by rw [←aq];exact Az) ⟨an,aj,rfl,rfl⟩
end Go.Sl
namespace Go.Sl
open Go.Proofs
set_option maxRecDepth 4000
variable{w:Nat}{out:List Int}{es':List Pt}{u v:Int}{κ:Ctx}{I:List Item}{va:Value}
attribute [local irreducible] W G V D A j7 Eff
theorem gc8:tyF Tryz.prog 218=some (4096,true,32768,cells (replicate 4096 (0:Int))):=by kernel_rfl
theorem av0(f:Nat->Bool):∀n:Nat,0<=p7 n (λx=>ind (f x))/\p7 n (λx=>ind (f x))<=(n:Int)
 |0=>by simp [p7]
 |n+1=>by
  have M:=av0 f n
  have h2:0<=ind (f n)/\ind (f n)<=1:=by rcases fi6 (f n) with h|h<;>omega
  simp only [p7];omega
theorem ay0{l:List Int}{p:Nat}(h:l.Nodup)(hp:p<l.length):e_ l p∉l.take p:=λhm=>by
 have M:=h.sublist (Ld (p+1) l)
 rw [Ca l p hp] at M
 exact (Mv.1 M).2.2 _ hm _ (Ge.2 rfl) rfl
section
variable {nd:Int}{es:List Pt}{tb:List Int}{k p q:Nat}
def coK(nd:Int)(es:List Pt)(k i j:Nat):Int:=if i=j then 0 else p7 k λx=>ind (N1 nd es x i&&N1 nd es x j)
theorem fa3(k i j:Nat):coK nd es (k+1) i j=coK nd es k i j+ind (decide (i≠j/\(i:Int)∈nbG nd es (k:Int)/\(j:Int)∈nbG nd es (k:Int))):=by
 unfold coK
 by_cases h:i=j
 ·rw [B_ h,B_ h,D_<|λq=>q.1 h];rfl
 rw [An h,An h]
 show p7 k _+ind _=_
 congr 2
 unfold N1
 rw [←Bool.decide_and,Ft]
 exact ⟨λq=>⟨h,q⟩,λq=>q.2⟩
theorem fz6(k i j:Nat):0<=coK nd es k i j/\coK nd es k i j<=(k:Int):=by
 unfold coK
 split
 ·omega
 exact av0 _ k
theorem fo4(M:s8 nd es)(i j:Nat):coK nd es nd.toNat i j=coN nd.toNat (N1 nd es) i j:=by
 unfold coK coN
 split
 ·rfl
 exact Bz _ λx _=>by rw [(ag3 M).sym i x,(ag3 M).sym j x]
theorem fi8(n:Nat)(e:Nat->Nat->Bool)(i j:Nat):0<=coN n e i j/\coN n e i j<=(n:Int):=by
 unfold coN
 split
 ·omega
 exact av0 _ n
structure ba7 (nd:Int) (es:List Pt) (k p q:Nat) (tb:List Int):Prop where
 len:tb.length=4096
 val:∀i j:Nat,i<64->j<64->e_ tb ((i:Int)*64+(j:Int))=coK nd es k i j+ind (decide<|i≠j/\(((i:Int)∈(nbG nd es (k:Int)).take p/\(j:Int)∈nbG nd es (k:Int))\/((i:Int)=e_ (nbG nd es (k:Int)) (p:Int)/\(j:Int)∈(nbG nd es (k:Int)).take q)))
theorem ba7.zero:ba7 nd es 0 0 0 (replicate 4096 (0:Int)):=⟨F_,λi j hi hj=>by
 have M:coK nd es 0 i j=0:=by unfold coK;split<;>rfl
 have h3:((i:Int)*64+(j:Int))=((i*64+j:Nat):Int):=by omega
 rw [M,E4,An (by rintro ⟨_,⟨q,_⟩|⟨_,q⟩⟩<;>cases q),h3,Cs _ _ (by rw [F_];omega),Lw];rfl⟩
theorem az9(M:s8 nd es){x:Int}{p:Nat}(hp:p<(nbG nd es x).length):0<=e_ (nbG nd es x) p/\e_ (nbG nd es x) p<nd/\nd<=64:=by
 have h1:=N3 M (Bn (xs:=nbG nd es x) (i:=(p:Int)) om om)
 have h2:=M.rng
 omega
theorem ba7.yes(hG:s8 nd es)(h:ba7 nd es k p q tb)(hp:p<(nbG nd es (k:Int)).length)(hq:q<(nbG nd es (k:Int)).length)(ab:e_ (nbG nd es (k:Int)) (p:Int)≠e_ (nbG nd es (k:Int)) (q:Int)) :
  ba7 nd es k p (q+1) (List.set tb (e_ (nbG nd es (k:Int)) (p:Int)*64+e_ (nbG nd es (k:Int)) (q:Int)).toNat (e_ tb (e_ (nbG nd es (k:Int)) (p:Int)*64+e_ (nbG nd es (k:Int)) (q:Int))+1)):=by
 have h1:=ay0 (ab9 nd es (k:Int)) hp
 have h2:=ay0 (ab9 nd es (k:Int)) hq
 have ra:=az9 hG hp
 have rb:=az9 hG hq
 have ah:=Bn (xs:=nbG nd es (k:Int)) (i:=(q:Int)) om om
 have ad:=Ca (nbG nd es (k:Int)) q hq
 have hv:=h.val
 have aa:=h.len
 refine ⟨by rw [Fq];exact aa,λi j hi hj=>?_⟩
 generalize e_ (nbG nd es (k:Int)) (p:Int)=a at h1 ra ab hv ⊢
 generalize e_ (nbG nd es (k:Int)) (q:Int)=b at h2 rb ah ad ab ⊢
 rw [Eh _ _ _ _ om om (by rw [aa];omega),ad]
 by_cases e:a*64+b=(i:Int)*64+(j:Int)
 ·have ei:(i:Int)=a:=by omega
  have ej:(j:Int)=b:=by omega
  have ae:i≠j:=λq=>ab om
  rw [B_ e,e,hv i j hi hj,E4,E4,An,B_ ⟨ae,.inr ⟨ei,Ma _<|Ge.2 ej⟩⟩]
  ·omega
  rintro ⟨_,⟨M,_⟩|⟨_,M⟩⟩
  ·exact h1<|ei▸M
  exact h2<|ej▸M
 rw [An e,hv i j hi hj]
 congr 2
 rw [Ft,Gu,Ge]
 constructor
 ·rintro ⟨M,h4|h4⟩
  ·exact ⟨M,.inl h4⟩
  exact ⟨M,.inr ⟨h4.1,.inl h4.2⟩⟩
 rintro ⟨M,h4|⟨h4,h5|h5⟩⟩
 ·exact ⟨M,.inl h4⟩
 ·exact ⟨M,.inr ⟨h4,h5⟩⟩
 exact absurd (by rw [h4,h5]) e
theorem ba7.no(h:ba7 nd es k p q tb)(hq:q<(nbG nd es (k:Int)).length)(he:e_ (nbG nd es (k:Int)) (p:Int)=e_ (nbG nd es (k:Int)) (q:Int)):ba7 nd es k p (q+1) tb:=⟨h.len,λi j hi hj=>by
 rw [h.val i j hi hj,Ca (nbG nd es (k:Int)) q hq]
 congr 2
 rw [Ft,Gu,Ge]
 constructor
 ·rintro ⟨M,h4|h4⟩
  ·exact ⟨M,.inl h4⟩
  exact ⟨M,.inr ⟨h4.1,.inl h4.2⟩⟩
 rintro ⟨M,h4|⟨h4,h5|h5⟩⟩
 ·exact ⟨M,.inl h4⟩
 ·exact ⟨M,.inr ⟨h4,h5⟩⟩
 exact absurd om M⟩
theorem ba7.row(h:ba7 nd es k p (nbG nd es (k:Int)).length tb)(hp:p<(nbG nd es (k:Int)).length):ba7 nd es k (p+1) 0 tb:=⟨h.len,λi j hi hj=>by
 rw [h.val i j hi hj,Ca (nbG nd es (k:Int)) p hp,Hd,Ju]
 congr 2
 rw [Ft,Gu,Ge]
 constructor
 ·rintro ⟨M,h4|h4⟩
  ·exact ⟨M,.inl ⟨.inl h4.1,h4.2⟩⟩
  exact ⟨M,.inl ⟨.inr h4.1,h4.2⟩⟩
 rintro ⟨M,⟨h4|h4,h5⟩|⟨_,h5⟩⟩
 ·exact ⟨M,.inl ⟨h4,h5⟩⟩
 ·exact ⟨M,.inr ⟨h4,h5⟩⟩
 cases h5⟩
theorem ba7.node(h:ba7 nd es k (nbG nd es (k:Int)).length 0 tb):ba7 nd es (k+1) 0 0 tb:=⟨h.len,λi j hi hj=>by
 rw [h.val i j hi hj,fa3,E4,E4,E4]
 by_cases hA:i≠j/\(i:Int)∈nbG nd es (k:Int)/\(j:Int)∈nbG nd es (k:Int)
 ·rw [B_ ⟨hA.1,.inl ⟨by rw [Hd];exact hA.2.1,hA.2.2⟩⟩,B_ hA,An<|by rintro ⟨_,⟨q,_⟩|⟨_,q⟩⟩<;>cases q];omega
 rw [An (by rintro ⟨h3,⟨M,h5⟩|⟨_,q⟩⟩;(· rw [Hd] at M;exact hA ⟨h3,M,h5⟩);(· cases q)),An hA,An (by rintro ⟨_,⟨q,_⟩|⟨_,q⟩⟩<;>cases q)];omega⟩
theorem ba7.bd(h:ba7 nd es k p q tb){i j:Int}(M:0<=i/\i<64)(h1:0<=j/\j<64):0<=e_ tb (i*64+j)/\e_ tb (i*64+j)<=(k:Int)+1:=by
 have h2:=h.val i.toNat j.toNat om om
 rw [H1 M.1,H1 h1.1] at h2
 have h3:=fz6 (nd:=nd) (es:=es) k i.toNat j.toNat
 rcases fi6 (decide<|i.toNat≠j.toNat/\((i∈(nbG nd es (k:Int)).take p/\j∈nbG nd es (k:Int))\/(i=e_ (nbG nd es (k:Int)) (p:Int)/\j∈(nbG nd es (k:Int)).take q))) with h4|h4<;>omega
structure gk0 (nd:Int) (es:List Pt) (tb:List Int):Prop where
 len:tb.length=4096
 val:∀i j:Nat,i<64->j<64->e_ tb ((i:Int)*64+(j:Int))=coN nd.toNat (N1 nd es) i j
theorem ba7.all(hG:s8 nd es)(h:ba7 nd es nd.toNat 0 0 tb):gk0 nd es tb:=⟨h.len,λi j hi hj=>by
 rw [h.val i j hi hj,fo4 hG,E4,An,Ka]
 rintro ⟨_,⟨M,_⟩|⟨_,M⟩⟩<;>cases M⟩
def cK(nd:Int)(es:List Pt)(v w:Nat):Int:=p7 w λx=>prs (coN nd.toNat (N1 nd es) v x)
theorem fo9(M:nd<=64)(v:Nat):∀w:Nat,0<=cK nd es v w/\cK nd es v w<=2016*(w:Int)
 |0=>by simp [cK,p7]
 |w+1=>by
  have h1:=fo9 M v w
  have h2:=fi8 nd.toNat (N1 nd es) v w
  have h3:=bw9 (n:=coN nd.toNat (N1 nd es) v w) ⟨by omega,by omega⟩
  have e:cK nd es v (w+1)=cK nd es v w+prs (coN nd.toNat (N1 nd es) v w):=rfl
  rw [e];omega
theorem du9(v:Nat):am5 nd es v=cK nd es v nd.toNat:=rfl
theorem bp6(M:nd<=64)(v:Nat):0<=am5 nd es v/\am5 nd es v<=129024:=by
 have:=fo9 (es:=es) M v nd.toNat
 rw [du9];omega
theorem cd8(M:nd<=64):∀k:Nat,0<=p7 k (am5 nd es)/\p7 k (am5 nd es)<=129024*(k:Int)
 |0=>by simp [p7]
 |k+1=>by
  have h1:=cd8 M k
  have h2:=bp6 (es:=es) M k
  simp only [p7];omega
theorem ck3(M:s8 nd es):0<=J8 nd es/\J8 nd es<=3000000:=by
 have h1:=cj9 M
 have h2:=cd8 (es:=es) M.rng.2 nd.toNat
 have:=M.rng
 omega
theorem ck2(hG:s8 nd es):∀x∈r9 nd es,0<=x/\x<=1000000:=λx M=>by
 obtain ⟨i,hi,rfl⟩:=av8 M
 rw [G1] at hi
 rw [af2 hi]
 have:=bp6 (es:=es) hG.rng.2 i
 omega
theorem bu9(M:s8 nd es):0<=F7 nd es/\F7 nd es<=1000000:=by
 have h1:=bo2 nd es nd.toNat
 have e:F7 nd es=ds6 nd es nd.toNat:=rfl
 have:=M.rng
 rw [e];omega
structure QdI (nd:Int) (es:List Pt) (k w:Nat) (out:List Int):Prop where
 len:out.length=nd.toNat
 val:∀i:Nat,i<nd.toNat->e_ out i=if i<k then am5 nd es i else if i=k then cK nd es k w else 0
theorem QdI.zero:QdI nd es 0 0 (replicate nd.toNat (0:Int)):=⟨F_,λi hi=>by
 rw [Cs _ i (by rw [F_];exact hi),Lw,An om]
 split<;>rfl⟩
theorem QdI.step(h:QdI nd es k w out)(M:k<nd.toNat):QdI nd es k (w+1) (List.set out ((k:Int)).toNat (e_ out k+prs (coN nd.toNat (N1 nd es) k w))):=⟨by rw [Fq];exact h.len,λi hi=>by
 rw [Eh _ _ _ _ om om (by rw [h.len];omega)]
 by_cases e:(k:Int)=(i:Int)
 ·have e':i=k:=by omega
  subst e'
  rw [B_ rfl,h.val i hi,An om,B_ rfl,An om,B_ rfl];rfl
 rw [An e,h.val i hi,An (show ¬i=k by omega),An (show ¬i=k by omega)]⟩
theorem QdI.next(h:QdI nd es k nd.toNat out):QdI nd es (k+1) 0 out:=⟨h.len,λi hi=>by
 rw [h.val i hi]
 by_cases e:i=k
 ·subst e;rw [An om,B_ rfl,B_ om];rfl
 by_cases e2:i<k
 ·rw [B_ e2,B_ om]
 rw [An e2,An e,An om]
 split
 ·rfl
 rfl⟩
theorem QdI.at(h:QdI nd es k w out)(M:k<nd.toNat):e_ out k=cK nd es k w:=by rw [h.val k M,An om,B_ rfl]
theorem QdI.all(h:QdI nd es nd.toNat 0 out):out=r9 nd es:=E6 (by rw [h.len,G1]) λi hi=>by
 rw [h.len] at hi
 rw [h.val i hi,B_ hi,af2 hi]
theorem du7(h:R6 nd es es' u v):F7 nd es+1*(((nbG nd es u).length:Int)+((nbG nd es v).length:Int))=F7 nd es'/\J8 nd es+1*((p6 nd es u v).length:Int)=J8 nd es':=by have:=h.fs7;omega
theorem du8(h:R6 nd es es' u v):F7 nd es' + -1*(((nbG nd es u).length:Int)+((nbG nd es v).length:Int))=F7 nd es/\J8 nd es' + -1*((p6 nd es u v).length:Int)=J8 nd es:=by have:=h.fs7;omega
end
theorem cx1{nd:Int}{es:List Pt}(hl:Sl κ I va es)(hG:s8 nd es)(hT:F4 κ I 0 p5):eu Tryz.prog κ 134 [.agg #[e7 nd,va]] I (λr J=>∃(b:Nat) (tb:List Int),r = (pt b)/\gk0 nd es tb/\J=e8 b (cells tb) 218::I):=by
 have ao:=hG.rng
 refine Ce1 Tryz.func134 C C ?_
 refine Am<|Ge1 (Au (cs:=[_,_]) C C C) λb1=>Ga C<|Ar<|Am<|Ge1 (Aj gc8 C) λb2=>Z ?_
 refine B9 (σ:=Nat×(List Int)) (λs=>([(1,pt b1),(3,pt b2),(11,e7 nd),(12,e7 ((s.1:Nat):Int))]:Env)) (λs=>e8 b2 (cells (s.2:List Int)) 218::e8 b1 [e7 nd,va] 38::I) (λs=>((s.1:Int)<=nd)/\(ba7 nd es s.1 0 0 s.2)) (λs=>nd.toNat - s.1) (0,replicate 4096 (0:Int)) ⟨om,ba7.zero⟩ (cx2<|Aa C<|Aa Cn Bb) Az ?_
 rintro ⟨k,tb⟩ hp
 dsimp only at hp ⊢
 obtain ⟨hk,ht⟩:=hp
 have ap:=K0 nd es (k:Int)
 refine Z ?_
 refine Al C (λc13=>Z ?_)<|λc13=>Z ?_
 ·refine Gc2 (Ac c_ C C<|bh0 (nd:=nd) (A4 hl) (k:Int)<|A6 hT Ah) λaa ab=>Z ?_
  refine B9 (σ:=Nat×(List Int)) (λs=>([(1,pt b1),(3,pt b2),(5,.slice aa (nbG nd es (k:Int)).length ab),(11,e7 nd),(12,e7<|(k:Int)),(18,.slice aa (nbG nd es (k:Int)).length ab),(19,e7<|(((nbG nd es (k:Int)).length:Nat):Int)),(20,e7 ((s.1:Nat):Int))]:Env)) (λs=>vk 3 aa ab (nbG nd es (k:Int))::e8 b2 (cells (s.2:List Int)) 218::e8 b1 [e7 nd,va] 38::I) (λs=>(s.1<=(nbG nd es (k:Int)).length)/\(ba7 nd es k s.1 0 s.2)) (λs=>(nbG nd es (k:Int)).length - s.1) (0,tb) ⟨om,ht⟩ (cx4<|cx2<|Aa C<|Aa Cn Bb) Az ?_
  rintro ⟨p,ah⟩ hp
  dsimp only at hp ⊢
  obtain ⟨hp,ae⟩:=hp
  refine Z ?_
  refine Al C (λan=>Z ?_)<|λan=>Z ?_
  ·have aq:=az9 hG (x:=(k:Int)) (p:=p) om
   refine Z ?_
   refine A0 (S12 26 25 24 7 1 3 5 11 12 18 19 20)<|Z ?_
   refine B9 (σ:=Nat×(List Int)) (λs=>([(1,pt b1),(3,pt b2),(5,.slice aa (nbG nd es (k:Int)).length ab),(7,e7<|e_ (nbG nd es (k:Int)) (p:Int)),(11,e7 nd),(12,e7<|(k:Int)),(18,.slice aa (nbG nd es (k:Int)).length ab),(19,e7<|(((nbG nd es (k:Int)).length:Nat):Int)),(20,e7<|(p:Int)),(24,.slice aa (nbG nd es (k:Int)).length ab),(25,e7<|(((nbG nd es (k:Int)).length:Nat):Int)),(26,e7 ((s.1:Nat):Int))]:Env)) (λs=>vk 3 aa ab (nbG nd es (k:Int))::e8 b2 (cells (s.2:List Int)) 218::e8 b1 [e7 nd,va] 38::I) (λs=>(s.1<=(nbG nd es (k:Int)).length)/\(ba7 nd es k p s.1 s.2)) (λs=>(nbG nd es (k:Int)).length - s.1) (0,ah) ⟨om,ae⟩ (cx4<|cx4<|cx2<|Aa C<|Aa Cn Bb) Az ?_
   rintro ⟨q,M⟩ hp
   dsimp only at hp ⊢
   obtain ⟨hq,ad⟩:=hp
   have av:=ad.len
   refine Z ?_
   refine Al C (λaj=>Z ?_)<|λaj=>Z ?_
   ·have ar:=az9 hG (x:=(k:Int)) (p:=q) om
    have au:=ad.bd (i:=e_ (nbG nd es (k:Int)) (p:Int)) (j:=e_ (nbG nd es (k:Int)) (q:Int)) om om
    refine Z ?_
    refine Al C (λak=>?_)<|λak=>Z ?_
    ·refine A9 mixed (Ed 8<|Z ?_)
     refine Dr 2 C (B5 Tryz.underlying218 ds9 C C om om)<|Dr 3 C (B5 Tryz.underlying193 ef C C om om)<|Dr 4 C (j7.gj6 (xs:=M) ef C (Dm mm) om om om)<|Z ?_
     refine Ds1 6<|Sr C (B5 Tryz.underlying218 ds9 C C om om) Ah ?_
     refine Dr 7 C (B5 Tryz.underlying193 ef C C om om)<|Cg kr ?_
     refine Ae 8 C (Eff.setT (xs:=M) (i:=e_ (nbG nd es (k:Int)) (p:Int)) (j:=e_ (nbG nd es (k:Int)) (q:Int)) (n:=(e_ M<|(e_ (nbG nd es (k:Int)) (p:Int))*64+(e_ (nbG nd es (k:Int)) (q:Int)))+1) ef C C C om om om am) ?_
     rintro _ _ ⟨rfl,rfl⟩
     refine Ch kr<|Z ?_
     exact Bt ((q+1),(List.set M ((e_ (nbG nd es (k:Int)) (p:Int))*64+(e_ (nbG nd es (k:Int)) (q:Int))).toNat ((e_ M<|(e_ (nbG nd es (k:Int)) (p:Int))*64+(e_ (nbG nd es (k:Int)) (q:Int)))+1)))<|by dsimp only;exact ⟨om,(by first|exact ad.yes hG om om asm|exact ad.no om om)⟩
    exact Bt ((q+1),(M))<|by dsimp only;exact ⟨om,(by first|exact ad.yes hG om om asm|exact ad.no om om)⟩
   exact Bt ((p+1),(M))<|by dsimp only;exact ⟨om,(ba7.row (by rw [show (nbG nd es (k:Int)).length=q by omega];exact ad) om)⟩
  exact Bt ((k+1),(ah))<|by dsimp only;exact ⟨om,(ba7.node<|by rw [show (nbG nd es (k:Int)).length=p by omega];exact ae)⟩
 have ai:k=nd.toNat:=by omega
 subst ai
 exact Ak C C (e8 b2 (cells tb) 218::I) Az ⟨b2,tb,rfl,ht.all hG,rfl⟩
theorem bn6{nd:Int}{es:List Pt}(hl:Sl κ I va es)(hG:s8 nd es)(hT:F4 κ I 0 p5):eu Tryz.prog κ 89 [.agg #[e7 nd,va]] I (λr J=>∃a c,r = .tuple #[e7 (J8 nd es),.slice a (r9 nd es).length c]/\J=vk 3 a c (r9 nd es)::I):=by
 have az:=hG.rng
 refine Ce1 Tryz.func89 C C ?_
 refine Am<|Ge1 (Au (cs:=[_,_]) C C C) λb1=>Z ?_
 refine G.e (Ac c_ C C<|cx1 (nd:=nd) (A4 hl) hG<|A6 hT Ah) ?_
 rintro _ _ ⟨_,_,⟨a9,ae,rfl,ah,rfl⟩,rfl,rfl⟩
 refine Ga C<|Ar<|Ay<|A9 mixed<|Ed 5<|Z ?_
 refine Ds1 2<|Se2 C (Dl (α:=Int) (n:=nd.toNat) Ab ef C C C om om dc C) λad ab=>?_
 have a8:(replicate nd.toNat (default:Int)).length=nd.toNat:=F_
 refine Z ?_
 refine Dh (σ:=Nat×Int×(List Int)) (λs=>[(5,e7<|s.2.1),(16,e7 ((s.1:Nat):Int))]) (λs=>[vc 3 (.slice ad (replicate nd.toNat (default:Int)).length ab) (s.2.2)]) (λs=>(s.1<=nd.toNat)/\(s.2.1=p7 s.1 (am5 nd es))/\(QdI nd es s.1 0 s.2.2)) (λs=>nd.toNat - s.1) (0,0,replicate nd.toNat (default:Int)) ⟨om,rfl,QdI.zero⟩ ?_
 rintro ⟨k,q,out⟩ hp
 dsimp only at hp ⊢
 obtain ⟨hk,hq,ho⟩:=hp
 have a5:=ho.len
 have a3:=cd8 (es:=es) hG.rng.2 k
 refine Z ?_
 refine Al C (λar=>Z ?_)<|λar=>Z ?_
 ·refine Dh (σ:=Nat×(List Int)) (λs=>[(21,e7 ((s.1:Nat):Int))]) (λs=>[vc 3 (.slice ad (replicate nd.toNat (default:Int)).length ab) (s.2)]) (λs=>(s.1<=nd.toNat)/\(QdI nd es k s.1 s.2)) (λs=>nd.toNat - s.1) (0,out) ⟨om,ho⟩ ?_
  rintro ⟨w,M⟩ hp
  dsimp only at hp ⊢
  obtain ⟨hw,aa⟩:=hp
  have ay:=aa.len
  have a7:=fo9 (es:=es) hG.rng.2 k w
  have a0:=aa.at om
  refine Z ?_
  refine Al C (λap=>Z ?_)<|λap=>Z ?_
  ·have ak:=ah.val k w om om
   have a4:=ah.len
   have av:=fi8 nd.toNat (N1 nd es) k w
   have au:=bw9 (n:=coN nd.toNat (N1 nd es) k w) ⟨by omega,by omega⟩
   rw [←ak] at av au
   refine Z ?_
   refine A9 mixed<|Ed 14<|Z ?_
   refine Dr 8 C (B5 Tryz.underlying218 ds9 C C om om)<|Dr 9 C (B5 Tryz.underlying193 ef C C om om)<|Dr 10 C (j7.gj6 (xs:=ae) ef C (Dm mm) om om om)<|Ds1 11<|Se C (Ac c_ C C<|cq1 (e_ ae<|(k:Int)*64+(w:Int)) om) ?_
   rintro _ _ ⟨_,_,⟨rfl,rfl⟩,rfl,rfl⟩
   refine ⟨Ah,?_⟩
   refine Z ?_
   refine Cg kr ?_
   refine Ae 14 C (Cv (α:=Int) (xs:=M) (e:=3) (new:=(e_ M k)+(prs<|e_ ae<|(k:Int)*64+(w:Int))) ef C C C om om am) ?_
   rintro _ _ ⟨rfl,rfl⟩
   refine Ch kr<|Z ?_
   exact Bt ((w+1),(List.set M ((k:Int)).toNat ((e_ M k)+(prs<|e_ ae<|(k:Int)*64+(w:Int)))))<|by dsimp only;exact ⟨om,(by have h8:=aa.step om;rw [←ak] at h8;exact h8)⟩
  have aq:w=nd.toNat:=by omega
  have aj:QdI nd es k nd.toNat M:=aq▸aa
  have ax:e_ M k=am5 nd es k:=aj.at om
  have a6:=bp6 (es:=es) hG.rng.2 k
  refine Z ?_
  exact Bt ((k+1),(q+(e_ M k)),(M))<|by dsimp only;exact ⟨om,(by rw [hq,ax];rfl),aj.next⟩
 refine Gr (j7.quo C C om om<|by unfold InR;omega)<|Z ?_
 have ao:k=nd.toNat:=by omega
 rw [ao] at hq ho
 have an:=ho.all
 have a1:=cj9 hG
 have aw:q / 4=J8 nd es:=by rw [hq];omega
 have ai:(replicate nd.toNat (default:Int)).length=(r9 nd es).length:=by rw [F_,G1]
 exact C3 C C C (vk 3 ad ab (r9 nd es)::I) (by unfold vk;rw [←ai,←an];exact Az) ⟨ad,ab,by rw [←ai,←aw],rfl⟩
end Go.Sl
