/- A part of the proofs of statements of this seat: contracts of functions, and the plain laws that they lean on. No conditions. -/
import Derived.Test.YtoagcglbkeomgaaGreatDoorV18
set_option linter.unusedVariables false
set_option linter.unusedSimpArgs false
set_option linter.unusedSectionVars false
open List (replicate)
set_option maxHeartbeats 2000000
namespace Go.Sl
open Go.Proofs
set_option maxRecDepth 4000
variable{b':Int}{ls num:List Int}{k:Nat}
theorem as4{M out:List Int}(hk:k<ls.length)(ho:out=(M++ls.take k).foldl (Y0 b') num):List.set out (e_ ls k).toNat (e_ out (e_ ls k)+b')=(M++ls.take (k+1)).foldl (Y0 b') num:=by
 rw [Ca ls k hk,←Fr,Hd (l:=M++ls.take k),←ho];rfl
theorem bm9(x:Int):∀l:List Int,0<=(l.map λw=>ind (decide (w=x))).sum/\(l.map λw=>ind (decide (w=x))).sum<=(l.length:Int)
 |[]=>by simp
 |p::l=>by
  have M:=bm9 x l
  have h2:0<=ind (decide<|p=x)/\ind (decide<|p=x)<=1:=by unfold ind;split<;>omega
  rw [Hg,Jb,E_];omega
theorem ba8(hr:∀w∈ls,0<=w/\w<(num.length:Int))(hb : -1<=b'/\b'<=1)(hv:∀x∈num,0<=x/\x<=1000000){x:Int}(M:0<=x/\x<(num.length:Int)) : -(ls.length:Int)<=e_ (ls.foldl (Y0 b') num) x/\e_ (ls.foldl (Y0 b') num) x<=1000000+(ls.length:Int):=by
 have h1:=hv _ (Bp (xs:=num) (i:=x) M.1 om)
 have h2:=bm9 x ls
 rw [ac8 _ _ hr _ M.1]
 rcases (by omega:b' = -1\/b'=0\/b'=1) with h|h|h<;>rw [h]<;>omega
theorem dj4{α β:Type}{f:α->List β}{m:Nat}(h:∀a,(f a).length<=m):∀l:List α,(l.flatMap f).length<=m*l.length
 |[]=>by simp
 |a::l=>by
  have M:=dj4 h l
  have h2:=h a
  rw [List.flatMap_cons,By,E_,Nat.mul_succ];omega
section
variable {nd u v:Int}{es:List Pt}
theorem bx4(nd:Int)(es:List Pt)(u v:Int):(p7 nd es u v).length<=4096:=by
 have h1:=J9 nd es u
 have M:=J9 nd es v
 have h3:=dj4 (f:=bd6 nd es u v) (m:=64) (λa=>by
  unfold bd6
  split
  ·simp
  rw [F_];exact G_ (Gs _ _) M) (nbG nd es u)
 unfold p7;omega
theorem aw4(hG:s6 nd es)(hu:p8 nd u)(hv:p8 nd v){p:Pt}(hp:p∈p7 nd es u v):∀w∈N4 u v p,0<=w/\w<nd:=λw M=>by
 have hr:=br6 hG hp
 unfold p8 at hu hv hr
 unfold N4 at M
 simp only [Fw,Kb,Mo] at M
 rcases M with rfl|rfl|rfl|rfl<;>omega
def bq7(nd:Int)(es:List Pt)(u v:Int)(k j:Nat):List Int:=((p7 nd es u v).take k).flatMap (N4 u v)++(N4 u v (e_ (p7 nd es u v) k)).take j
theorem bq6(M:s6 nd es)(hu:p8 nd u)(hv:p8 nd v){j:Nat}(hk:k<(p7 nd es u v).length\/j=0):∀w∈bq7 nd es u v k j,0<=w/\w<nd:=λw hw=>by
 unfold bq7 at hw
 rcases Gt.1 hw with hw|hw
 ·obtain ⟨p,hp,hw⟩:=Kv.1 hw
  exact aw4 M hu hv (Hw hp) w hw
 rcases hk with hk|rfl
 ·exact aw4 M hu hv (Bp om om) w<|Hw hw
 cases hw
theorem ba1(k j:Nat)(hk:k<=(p7 nd es u v).length):(bq7 nd es u v k j).length<=20000:=by
 have h1:=bx4 nd es u v
 have M:=dj4 (f:=N4 u v) (m:=4) (λa=>by unfold N4;simp) ((p7 nd es u v).take k)
 have h4:(N4 u v<|e_ (p7 nd es u v) k).length=4:=rfl
 rw [Fp] at M
 unfold bq7
 rw [By,Fp];omega
theorem ar3(M:k<(p7 nd es u v).length):bq7 nd es u v k 4=bq7 nd es u v (k+1) 0:=by
 unfold bq7
 rw [cf5 _ _ M,Js,Gq];rfl
end
theorem dp9{κ:Ctx}{I:List Item}{nd nd' nd0 u v w0 n0:Int}{va:Value}{ea na ga:Option Addr}{ec nc gn gc:Nat}{es:List Pt}(hl:Sl κ I (.slice ea es.length ec) es)(hm:Sl κ I (.slice na num.length nc) num)(hG:s6 nd es)(hu:p8 nd u)(hv:p8 nd v)(av:(num.length:Int)=nd)(a0:∀x∈num,0<=x/\x<=1000000)(bm:0<=w0/\w0<=1000000)(bk:0<=n0/\n0<=1000000000)(hb : -1<=b'/\b'<=1)(hT:F4 κ I 0 p6):eu Tryz.prog κ 307 [.agg #[e7 nd0,va,e7 w0,e7 n0,.slice na num.length nc],.agg #[e7 (nd'),.slice ga gn gc],.agg #[e7 nd,.slice ea es.length ec],e7 u,e7 v,e7 (b')] I (λr J=>∃(a:Option Addr) (c:Nat),r = .tuple #[.agg #[e7 nd',.slice ga gn gc,e7 (w0+b'*(((nbG nd es u).length:Int)+((nbG nd es v).length:Int))),e7 (n0+b'*((p7 nd es u v).length:Int)),.slice a num.length c],e7 ((p7 nd es u v).length:Int),e7 0]/\J=vc 3 (.slice a num.length c) (ah3 b' (p7 nd es u v) u v num)::I):=by
 have bb:=hG.rng
 have bj:0<=u/\u<nd:=hu
 have bh:0<=v/\v<nd:=hv
 have bf:=J9 nd es u
 have be:=J9 nd es v
 have bc:=bx4 nd es u v
 have bi : -128<=b'*(((nbG nd es u).length:Int)+((nbG nd es v).length:Int))/\b'*(((nbG nd es u).length:Int)+((nbG nd es v).length:Int))<=128:=by rcases (by omega:b' = -1\/b'=0\/b'=1) with h|h|h<;>rw [h]<;>omega
 have bg : -4096<=b'*((p7 nd es u v).length:Int)/\b'*((p7 nd es u v).length:Int)<=4096:=by rcases (by omega:b' = -1\/b'=0\/b'=1) with h|h|h<;>rw [h]<;>omega
 refine Ce6 Tryz.func307 C C ?_
 refine Ak<|Ge1 (Au (cs:=[_,_,_,_,_]) C C C) λb1=>Ge1 (Au (cs:=[_,_]) C C C) λb2=>Ge1 (Au (cs:=[_,_]) C C C) λb3=>Ge1 (Aj V6 C) λb4=>Ga C<|Ga C<|Ar<|Ak<|Gl2 J8 ?_
 refine Gm C<|Gm C<|G.e (Ac c_ C C<|fs5 (nd:=nd) (u:=u) (v:=v) (A4 hl) hG<|A8 hT Ah) ?_
 rintro _ _ ⟨_,_,⟨ad,ae,rfl,rfl⟩,rfl,rfl⟩
 refine Ga C<|Ar<|A1 (S8 15 12 8 7 6 3 4 5)<|Ax<|Ba mixed<|Ee 25<|Dr 0 C (Bm (vs:=[_,_]) J8) ?_
 refine Dr 1 C (Af dj8 C)<|Dr 2 C (Bd ef) ?_
 refine Dr 3 C (Aq C)<|Dr 4 C (Bm (vs:=[_,_]) J8) ?_
 refine Dr 5 C (Aq C)<|Dr 7 C (Bm (vs:=[_,_]) J8) ?_
 refine Dr 8 C (Aq C)<|Dr 13 C (Af dj7 C)<|Dr 14 C (Bd ef) ?_
 refine Dr 15 C (Aq C)<|Dr 16 C (Aq C)<|Dr 17 C (Bk Bw C)<|Dr 18 C (Eo C C<|by first|(unfold InR;omega)|(have h7:=ab om;unfold InR;omega))<|Dr 19 C (Cv C C<|by first|(unfold InR;omega)|(have h7:=ab om;unfold InR;omega))<|Dr 20 C (Af aj3 C)<|Dr 21 C (Bd U1) ?_
 refine C9 (rs:=[6,24]) kr C C<|Ej ?_<|Do ?_
 ·refine Sc0 C (Ac c_ C C<|Z5 (nd:=nd) (A4 hl) u) ?_
  refine C9 (rs:=[9,24]) kr C C<|Ej ?_<|Do ?_
  ·refine Sc0 C (Ac c_ C C<|Z5 (nd:=nd) (A4 hl) v) ?_
   refine Dr 10 C (Cv C C<|by first|(unfold InR;omega)|(have h7:=ab om;unfold InR;omega))<|Dr 11 C (Eo C C<|by first|(unfold InR;omega)|(have h7:=ab om;unfold InR;omega))<|Dr 12 C (Cv C C<|by first|(unfold InR;omega)|(have h7:=ab om;unfold InR;omega))<|C9 (rs:=[22,24]) kr C C<|Ej ?_<|Do ?_
   ·refine Sc2 C (Ac c_ C C<|ah1 (xs:=num) (A4 hm) om) λaw ax=>?_
    refine Dr 23 C (Cl (cells:=[_,_,_,_,_]) V6 Eu fx5 C C)<|Ds1 24<|Se1 C (Aj V6 C) λb9=>?_
    refine Cg kr ?_
    refine Ae 25 C (E5 V6) ?_
    rintro _ _ ⟨rfl,rfl⟩
    refine Ch kr ?_
    refine Ao<|A1 (S6 16 15 12 3 4 5)<|Ax<|Ak<|Gm C<|Gr (Bk Bw C)<|Gm C<|Ar<|A7<|B9 (σ:=Nat×(List Int)) (λs=>([(3,e7 u),(4,e7 v),(5,e7<|b'),(12,pt b4),(15,.slice ad (p7 nd es u v).length ae),(16,pt b9),(49,.slice ad (p7 nd es u v).length ae),(50,e7<|(((p7 nd es u v).length:Nat):Int)),(51,e7 ((s.1:Nat):Int))]:Env)) (λs=>e8 b9 [e7 (nd'),.slice ga gn gc,e7<|w0+(b'*(((((nbG nd es u).length:Nat)):Int)+((((nbG nd es v).length:Nat)):Int))),e7<|n0+(b'*(((p7 nd es u v).length:Nat):Int)),.slice aw num.length ax] 45::vc 3 (.slice aw num.length ax) (s.2)::vk 200 ad ae (p7 nd es u v)::e8 b4 [e7 0,.slice none 0 0,e7 0,e7 0,.slice none 0 0] 45::e8 b3 [e7 nd,.slice ea es.length ec] 38::e8 b2 [e7 (nd'),.slice ga gn gc] 38::e8 b1 [e7 nd0,va,e7 w0,e7 n0,.slice na num.length nc] 45::I) (λs=>(s.1<=(p7 nd es u v).length)/\(s.2=(bq7 nd es u v s.1 0).foldl (Y0 b') num)) (λs=>(p7 nd es u v).length - s.1) (0,num) ⟨om,rfl⟩ (cx4<|cx4<|Aa Co Bb) Ai ?_
    rintro ⟨k,out⟩ hp
    dsimp only at hp ⊢
    obtain ⟨hk,ho⟩:=hp
    have a5:out.length=num.length:=by rw [ho];exact J3 _ _
    refine Ak<|Gr (Bl C C)<|Ar<|Ax<|Am C (λaq=>?_)<|λaq=>?_
    ·refine Bc (Ao<|Ax<|A7<|Ak<|Gr (A2 (α:=Pt) (xs:=p7 nd es u v) Bw L8 C C A5 (by first|omega|(have h8:=aa om;omega))<|by first|omega|(have h8:=aa om;omega))<|Gr (C6 (α:=Pt) (xs:=p7 nd es u v) L8 C A5 (by first|omega|(have h8:=aa om;omega))<|by first|omega|(have h8:=aa om;omega))<|Ge1 (Aj L8 C) λa8=>Ge0 (Cs L8) ?_)
     refine Ar<|Ak<|Gm C<|Gm C<|Gr (B5 B8 ty2 C C om om)<|Gl ef ?_
     refine Gr (B5 B8 ty2 C C om om)<|Gl ef ?_
     refine Gr (Eg (cells:=[_,_,_,_]) bv4 C0 ef C C)<|Gm C<|Ar<|A1 (S11 62 61 3 4 5 12 15 16 49 50 51)<|A7<|B9 (σ:=Nat×(List Int)) (λs=>([(3,e7 u),(4,e7 v),(5,e7<|b'),(12,pt b4),(15,.slice ad (p7 nd es u v).length ae),(16,pt b9),(49,.slice ad (p7 nd es u v).length ae),(50,e7<|(((p7 nd es u v).length:Nat):Int)),(51,e7<|(k:Int)),(61,.agg #[e7 u,e7 v,e7<|(e_ (p7 nd es u v) k).u,e7<|(e_ (p7 nd es u v) k).v]),(62,e7 ((s.1:Nat):Int))]:Env)) (λs=>e8 a8 [e7 ((e_ (p7 nd es u v) k).u),e7<|(e_ (p7 nd es u v) k).v] 200::e8 b9 [e7 (nd'),.slice ga gn gc,e7<|w0+(b'*(((((nbG nd es u).length:Nat)):Int)+((((nbG nd es v).length:Nat)):Int))),e7<|n0+(b'*(((p7 nd es u v).length:Nat):Int)),.slice aw num.length ax] 45::vc 3 (.slice aw num.length ax) (s.2)::vk 200 ad ae (p7 nd es u v)::e8 b4 [e7 0,.slice none 0 0,e7 0,e7 0,.slice none 0 0] 45::e8 b3 [e7 nd,.slice ea es.length ec] 38::e8 b2 [e7 (nd'),.slice ga gn gc] 38::e8 b1 [e7 nd0,va,e7 w0,e7 n0,.slice na num.length nc] 45::I) (λs=>(s.1<=4)/\(s.2=(bq7 nd es u v k s.1).foldl (Y0 b') num)) (λs=>4 - s.1) (0,out) ⟨om,ho⟩ (cx4<|cx4<|cx2<|Aa Co Bb) Ai ?_
     rintro ⟨k2,M⟩ hp
     dsimp only at hp ⊢
     obtain ⟨a4,ah⟩:=hp
     have ay:M.length=num.length:=by rw [ah];exact J3 _ _
     have aa:=λh:k2<4=>aw4 hG hu hv (Bp (xs:=p7 nd es u v) (i:=(k:Int)) om om) _ (Bp (xs:=(N4 u v<|e_ (p7 nd es u v) k)) (i:=(k2:Int)) om<|by show (k2:Int)<4;omega)
     have ab:=λh:k2<4=>ba8 (b':=b') (num:=num) (λw hw=>by rw [av];exact bq6 hG hu hv (k:=k) (j:=k2) (.inl om) w hw) hb a0 (x:=e_ (N4 u v<|e_ (p7 nd es u v) k) (k2:Int)) (by have:=aa h;omega)
     rw [←ah] at ab
     have a6:=ba1 (nd:=nd) (es:=es) (u:=u) (v:=v) k k2 om
     refine Ak<|Gr (Bl C C)<|Ar<|Ax<|Am C (λar=>?_)<|λar=>?_
     ·refine Bc (Ao<|Ax<|A7<|Ak<|Gr (show j8 _ _ _ _ _ _ (e7<|e_ (N4 u v<|e_ (p7 nd es u v) k) (k2:Int)) from j8.cm8 C0 ef C C om om)<|Ga C<|Ar<|A1 (S12 20 3 4 5 12 15 16 49 50 51 61 62 C C C C C C C C C C C C)<|A6<|Gf aj3 C<|Gl U1 ?_)
      refine Gm C<|Gr (A2 (α:=Int) (xs:=M) Ab ef C C A5 (by first|omega|(have h8:=aa om;omega))<|by first|omega|(have h8:=aa om;omega))<|Gr (B6 (xs:=M) ef C A5 (by first|omega|(have h8:=aa om;omega))<|by first|omega|(have h8:=aa om;omega))<|Gm C<|Gr (Cv C C<|by first|(unfold InR;omega)|(have h7:=ab om;unfold InR;omega))<|Gr (A2 (α:=Int) (xs:=M) Ab ef C C A5 (by first|omega|(have h8:=aa om;omega))<|by first|omega|(have h8:=aa om;omega))<|Ge0 (Cw (α:=Int) (xs:=M) (e:=3) (new:=(e_ M<|e_ (N4 u v<|e_ (p7 nd es u v) k) (k2:Int))+b') ef C C C (by first|omega|(have h8:=aa om;omega)) (by first|omega|(have h8:=aa om;omega)) am) ?_
      exact Bq<|Av<|Ao<|A1 (S11 3 4 5 12 15 16 49 50 51 61 62)<|A6<|Gr (Cv C C<|by first|(unfold InR;omega)|(have h7:=ab om;unfold InR;omega))<|Gm C<|Bq<|Bt ((k2+1),(List.set M (e_ (N4 u v<|e_ (p7 nd es u v) k) (k2:Int)).toNat ((e_ M<|e_ (N4 u v<|e_ (p7 nd es u v) k) (k2:Int))+b')))<|by dsimp only;exact ⟨om,(as4 (ls:=(N4 u v<|e_ (p7 nd es u v) k)) (by show k2<4;omega) ah)⟩
     exact Ci<|Aw<|Aw<|Bi<|Av<|Ao<|A6<|Gr (Cv C C<|by first|(unfold InR;omega)|(have h7:=ab om;unfold InR;omega))<|Gm C<|Bq<|Bt ((k+1),(M))<|by dsimp only;exact ⟨om,(by rw [ah,show k2=4 by omega,ar3 om])⟩
    refine Ci<|Aw<|Aw<|Bi<|Ao<|Ak<|Gr (Bm (vs:=[_,_,_,_,_]) V6) ?_
    refine Gm C<|Gr (Bk Bw C)<|Ge0 (E5 V6) ?_
    refine Ga C<|Ga C<|Ar<|A1 (S3 14 13 12)<|B3 ?_
    have au:out=ah3 b' (p7 nd es u v) u v num:=by rw [ho,show k=(p7 nd es u v).length by omega];unfold bq7 ah3;rw [Hb,Js,Gq]
    exact Cu C V6 C C C mm C (vc 3 (.slice aw num.length ax) (ah3 b' (p7 nd es u v) u v num)::I) (by rw [←au];exact Az) ⟨aw,ax,rfl,rfl⟩
   refine Se1 C (Aj V6 C) λaz=>?_
   refine Ds1 22<|Sc2 C (Ac c_ C C<|ah1 (xs:=num) (A4 hm) om) λao ai=>?_
   refine Dr 23 C (Cl (cells:=[_,_,_,_,_]) V6 Eu fx5 C C)<|Cg kr ?_
   refine Ae 25 C (E5 V6) ?_
   rintro _ _ ⟨rfl,rfl⟩
   refine Ch kr ?_
   refine Ao<|A1 (S6 16 15 12 3 4 5)<|Ax<|Ak<|Gm C<|Gr (Bk Bw C)<|Gm C<|Ar<|A7<|B9 (σ:=Nat×(List Int)) (λs=>([(3,e7 u),(4,e7 v),(5,e7<|b'),(12,pt b4),(15,.slice ad (p7 nd es u v).length ae),(16,pt az),(49,.slice ad (p7 nd es u v).length ae),(50,e7<|(((p7 nd es u v).length:Nat):Int)),(51,e7 ((s.1:Nat):Int))]:Env)) (λs=>vc 3 (.slice ao num.length ai) (s.2)::e8 az [e7 (nd'),.slice ga gn gc,e7<|w0+(b'*(((((nbG nd es u).length:Nat)):Int)+((((nbG nd es v).length:Nat)):Int))),e7<|n0+(b'*(((p7 nd es u v).length:Nat):Int)),.slice ao num.length ai] 45::vk 200 ad ae (p7 nd es u v)::e8 b4 [e7 0,.slice none 0 0,e7 0,e7 0,.slice none 0 0] 45::e8 b3 [e7 nd,.slice ea es.length ec] 38::e8 b2 [e7 (nd'),.slice ga gn gc] 38::e8 b1 [e7 nd0,va,e7 w0,e7 n0,.slice na num.length nc] 45::I) (λs=>(s.1<=(p7 nd es u v).length)/\(s.2=(bq7 nd es u v s.1 0).foldl (Y0 b') num)) (λs=>(p7 nd es u v).length - s.1) (0,num) ⟨om,rfl⟩ (cx4<|cx4<|Aa Co Bb) Ai ?_
   rintro ⟨k,out⟩ hp
   dsimp only at hp ⊢
   obtain ⟨hk,ho⟩:=hp
   have a5:out.length=num.length:=by rw [ho];exact J3 _ _
   refine Ak<|Gr (Bl C C)<|Ar<|Ax<|Am C (λaq=>?_)<|λaq=>?_
   ·refine Bc (Ao<|Ax<|A7<|Ak<|Gr (A2 (α:=Pt) (xs:=p7 nd es u v) Bw L8 C C A5 (by first|omega|(have h8:=aa om;omega))<|by first|omega|(have h8:=aa om;omega))<|Gr (C6 (α:=Pt) (xs:=p7 nd es u v) L8 C A5 (by first|omega|(have h8:=aa om;omega))<|by first|omega|(have h8:=aa om;omega))<|Ge1 (Aj L8 C) λa9=>Ge0 (Cs L8) ?_)
    refine Ar<|Ak<|Gm C<|Gm C<|Gr (B5 B8 ty2 C C om om)<|Gl ef ?_
    refine Gr (B5 B8 ty2 C C om om)<|Gl ef ?_
    refine Gr (Eg (cells:=[_,_,_,_]) bv4 C0 ef C C)<|Gm C<|Ar<|A1 (S11 62 61 3 4 5 12 15 16 49 50 51)<|A7<|B9 (σ:=Nat×(List Int)) (λs=>([(3,e7 u),(4,e7 v),(5,e7<|b'),(12,pt b4),(15,.slice ad (p7 nd es u v).length ae),(16,pt az),(49,.slice ad (p7 nd es u v).length ae),(50,e7<|(((p7 nd es u v).length:Nat):Int)),(51,e7<|(k:Int)),(61,.agg #[e7 u,e7 v,e7<|(e_ (p7 nd es u v) k).u,e7<|(e_ (p7 nd es u v) k).v]),(62,e7 ((s.1:Nat):Int))]:Env)) (λs=>e8 a9 [e7 ((e_ (p7 nd es u v) k).u),e7<|(e_ (p7 nd es u v) k).v] 200::vc 3 (.slice ao num.length ai) (s.2)::e8 az [e7 (nd'),.slice ga gn gc,e7<|w0+(b'*(((((nbG nd es u).length:Nat)):Int)+((((nbG nd es v).length:Nat)):Int))),e7<|n0+(b'*(((p7 nd es u v).length:Nat):Int)),.slice ao num.length ai] 45::vk 200 ad ae (p7 nd es u v)::e8 b4 [e7 0,.slice none 0 0,e7 0,e7 0,.slice none 0 0] 45::e8 b3 [e7 nd,.slice ea es.length ec] 38::e8 b2 [e7 (nd'),.slice ga gn gc] 38::e8 b1 [e7 nd0,va,e7 w0,e7 n0,.slice na num.length nc] 45::I) (λs=>(s.1<=4)/\(s.2=(bq7 nd es u v k s.1).foldl (Y0 b') num)) (λs=>4 - s.1) (0,out) ⟨om,ho⟩ (cx4<|cx4<|cx2<|Aa Co Bb) Ai ?_
    rintro ⟨k2,M⟩ hp
    dsimp only at hp ⊢
    obtain ⟨a4,ah⟩:=hp
    have ay:M.length=num.length:=by rw [ah];exact J3 _ _
    have aa:=λh:k2<4=>aw4 hG hu hv (Bp (xs:=p7 nd es u v) (i:=(k:Int)) om om) _ (Bp (xs:=(N4 u v<|e_ (p7 nd es u v) k)) (i:=(k2:Int)) om<|by show (k2:Int)<4;omega)
    have ab:=λh:k2<4=>ba8 (b':=b') (num:=num) (λw hw=>by rw [av];exact bq6 hG hu hv (k:=k) (j:=k2) (.inl om) w hw) hb a0 (x:=e_ (N4 u v<|e_ (p7 nd es u v) k) (k2:Int)) (by have:=aa h;omega)
    rw [←ah] at ab
    have a6:=ba1 (nd:=nd) (es:=es) (u:=u) (v:=v) k k2 om
    refine Ak<|Gr (Bl C C)<|Ar<|Ax<|Am C (λar=>?_)<|λar=>?_
    ·refine Bc (Ao<|Ax<|A7<|Ak<|Gr (show j8 _ _ _ _ _ _ (e7<|e_ (N4 u v<|e_ (p7 nd es u v) k) (k2:Int)) from j8.cm8 C0 ef C C om om)<|Ga C<|Ar<|A1 (S12 20 3 4 5 12 15 16 49 50 51 61 62 C C C C C C C C C C C C)<|A6<|Gf aj3 C<|Gl U1 ?_)
     refine Gm C<|Gr (A2 (α:=Int) (xs:=M) Ab ef C C A5 (by first|omega|(have h8:=aa om;omega))<|by first|omega|(have h8:=aa om;omega))<|Gr (B6 (xs:=M) ef C A5 (by first|omega|(have h8:=aa om;omega))<|by first|omega|(have h8:=aa om;omega))<|Gm C<|Gr (Cv C C<|by first|(unfold InR;omega)|(have h7:=ab om;unfold InR;omega))<|Gr (A2 (α:=Int) (xs:=M) Ab ef C C A5 (by first|omega|(have h8:=aa om;omega))<|by first|omega|(have h8:=aa om;omega))<|Ge0 (Cw (α:=Int) (xs:=M) (e:=3) (new:=(e_ M<|e_ (N4 u v<|e_ (p7 nd es u v) k) (k2:Int))+b') ef C C C (by first|omega|(have h8:=aa om;omega)) (by first|omega|(have h8:=aa om;omega)) am) ?_
     exact Bq<|Av<|Ao<|A1 (S11 3 4 5 12 15 16 49 50 51 61 62)<|A6<|Gr (Cv C C<|by first|(unfold InR;omega)|(have h7:=ab om;unfold InR;omega))<|Gm C<|Bq<|Bt ((k2+1),(List.set M (e_ (N4 u v<|e_ (p7 nd es u v) k) (k2:Int)).toNat ((e_ M<|e_ (N4 u v<|e_ (p7 nd es u v) k) (k2:Int))+b')))<|by dsimp only;exact ⟨om,(as4 (ls:=(N4 u v<|e_ (p7 nd es u v) k)) (by show k2<4;omega) ah)⟩
    exact Ci<|Aw<|Aw<|Bi<|Av<|Ao<|A6<|Gr (Cv C C<|by first|(unfold InR;omega)|(have h7:=ab om;unfold InR;omega))<|Gm C<|Bq<|Bt ((k+1),(M))<|by dsimp only;exact ⟨om,(by rw [ah,show k2=4 by omega,ar3 om])⟩
   refine Ci<|Aw<|Aw<|Bi<|Ao<|Ak<|Gr (Bm (vs:=[_,_,_,_,_]) V6) ?_
   refine Gm C<|Gr (Bk Bw C)<|Ge0 (E5 V6) ?_
   refine Ga C<|Ga C<|Ar<|A1 (S3 14 13 12)<|B3 ?_
   have au:out=ah3 b' (p7 nd es u v) u v num:=by rw [ho,show k=(p7 nd es u v).length by omega];unfold bq7 ah3;rw [Hb,Js,Gq]
   exact Cu C V6 C C C mm C (vc 3 (.slice ao num.length ai) (ah3 b' (p7 nd es u v) u v num)::I) (by rw [←au];exact Az) ⟨ao,ai,rfl,rfl⟩
  refine Se1 C (Aj V6 C) λa1=>?_
  refine Ds1 9<|Sc0 C (Ac c_ C C<|Z5 (nd:=nd) (A4 hl) v) ?_
  refine Dr 10 C (Cv C C<|by first|(unfold InR;omega)|(have h7:=ab om;unfold InR;omega))<|Dr 11 C (Eo C C<|by first|(unfold InR;omega)|(have h7:=ab om;unfold InR;omega))<|Dr 12 C (Cv C C<|by first|(unfold InR;omega)|(have h7:=ab om;unfold InR;omega))<|Ds1 22<|Sc2 C (Ac c_ C C<|ah1 (xs:=num) (A4 hm) om) λap aj=>?_
  refine Dr 23 C (Cl (cells:=[_,_,_,_,_]) V6 Eu fx5 C C)<|Cg kr ?_
  refine Ae 25 C (E5 V6) ?_
  rintro _ _ ⟨rfl,rfl⟩
  refine Ch kr ?_
  refine Ao<|A1 (S6 16 15 12 3 4 5)<|Ax<|Ak<|Gm C<|Gr (Bk Bw C)<|Gm C<|Ar<|A7<|B9 (σ:=Nat×(List Int)) (λs=>([(3,e7 u),(4,e7 v),(5,e7<|b'),(12,pt b4),(15,.slice ad (p7 nd es u v).length ae),(16,pt a1),(49,.slice ad (p7 nd es u v).length ae),(50,e7<|(((p7 nd es u v).length:Nat):Int)),(51,e7 ((s.1:Nat):Int))]:Env)) (λs=>vc 3 (.slice ap num.length aj) (s.2)::e8 a1 [e7 (nd'),.slice ga gn gc,e7<|w0+(b'*(((((nbG nd es u).length:Nat)):Int)+((((nbG nd es v).length:Nat)):Int))),e7<|n0+(b'*(((p7 nd es u v).length:Nat):Int)),.slice ap num.length aj] 45::vk 200 ad ae (p7 nd es u v)::e8 b4 [e7 0,.slice none 0 0,e7 0,e7 0,.slice none 0 0] 45::e8 b3 [e7 nd,.slice ea es.length ec] 38::e8 b2 [e7 (nd'),.slice ga gn gc] 38::e8 b1 [e7 nd0,va,e7 w0,e7 n0,.slice na num.length nc] 45::I) (λs=>(s.1<=(p7 nd es u v).length)/\(s.2=(bq7 nd es u v s.1 0).foldl (Y0 b') num)) (λs=>(p7 nd es u v).length - s.1) (0,num) ⟨om,rfl⟩ (cx4<|cx4<|Aa Co Bb) Ai ?_
  rintro ⟨k,out⟩ hp
  dsimp only at hp ⊢
  obtain ⟨hk,ho⟩:=hp
  have a5:out.length=num.length:=by rw [ho];exact J3 _ _
  refine Ak<|Gr (Bl C C)<|Ar<|Ax<|Am C (λaq=>?_)<|λaq=>?_
  ·refine Bc (Ao<|Ax<|A7<|Ak<|Gr (A2 (α:=Pt) (xs:=p7 nd es u v) Bw L8 C C A5 (by first|omega|(have h8:=aa om;omega))<|by first|omega|(have h8:=aa om;omega))<|Gr (C6 (α:=Pt) (xs:=p7 nd es u v) L8 C A5 (by first|omega|(have h8:=aa om;omega))<|by first|omega|(have h8:=aa om;omega))<|Ge1 (Aj L8 C) λa7=>Ge0 (Cs L8) ?_)
   refine Ar<|Ak<|Gm C<|Gm C<|Gr (B5 B8 ty2 C C om om)<|Gl ef ?_
   refine Gr (B5 B8 ty2 C C om om)<|Gl ef ?_
   refine Gr (Eg (cells:=[_,_,_,_]) bv4 C0 ef C C)<|Gm C<|Ar<|A1 (S11 62 61 3 4 5 12 15 16 49 50 51)<|A7<|B9 (σ:=Nat×(List Int)) (λs=>([(3,e7 u),(4,e7 v),(5,e7<|b'),(12,pt b4),(15,.slice ad (p7 nd es u v).length ae),(16,pt a1),(49,.slice ad (p7 nd es u v).length ae),(50,e7<|(((p7 nd es u v).length:Nat):Int)),(51,e7<|(k:Int)),(61,.agg #[e7 u,e7 v,e7<|(e_ (p7 nd es u v) k).u,e7<|(e_ (p7 nd es u v) k).v]),(62,e7 ((s.1:Nat):Int))]:Env)) (λs=>e8 a7 [e7 ((e_ (p7 nd es u v) k).u),e7<|(e_ (p7 nd es u v) k).v] 200::vc 3 (.slice ap num.length aj) (s.2)::e8 a1 [e7 (nd'),.slice ga gn gc,e7<|w0+(b'*(((((nbG nd es u).length:Nat)):Int)+((((nbG nd es v).length:Nat)):Int))),e7<|n0+(b'*(((p7 nd es u v).length:Nat):Int)),.slice ap num.length aj] 45::vk 200 ad ae (p7 nd es u v)::e8 b4 [e7 0,.slice none 0 0,e7 0,e7 0,.slice none 0 0] 45::e8 b3 [e7 nd,.slice ea es.length ec] 38::e8 b2 [e7 (nd'),.slice ga gn gc] 38::e8 b1 [e7 nd0,va,e7 w0,e7 n0,.slice na num.length nc] 45::I) (λs=>(s.1<=4)/\(s.2=(bq7 nd es u v k s.1).foldl (Y0 b') num)) (λs=>4 - s.1) (0,out) ⟨om,ho⟩ (cx4<|cx4<|cx2<|Aa Co Bb) Ai ?_
   rintro ⟨k2,M⟩ hp
   dsimp only at hp ⊢
   obtain ⟨a4,ah⟩:=hp
   have ay:M.length=num.length:=by rw [ah];exact J3 _ _
   have aa:=λh:k2<4=>aw4 hG hu hv (Bp (xs:=p7 nd es u v) (i:=(k:Int)) om om) _ (Bp (xs:=(N4 u v<|e_ (p7 nd es u v) k)) (i:=(k2:Int)) om<|by show (k2:Int)<4;omega)
   have ab:=λh:k2<4=>ba8 (b':=b') (num:=num) (λw hw=>by rw [av];exact bq6 hG hu hv (k:=k) (j:=k2) (.inl om) w hw) hb a0 (x:=e_ (N4 u v<|e_ (p7 nd es u v) k) (k2:Int)) (by have:=aa h;omega)
   rw [←ah] at ab
   have a6:=ba1 (nd:=nd) (es:=es) (u:=u) (v:=v) k k2 om
   refine Ak<|Gr (Bl C C)<|Ar<|Ax<|Am C (λar=>?_)<|λar=>?_
   ·refine Bc (Ao<|Ax<|A7<|Ak<|Gr (show j8 _ _ _ _ _ _ (e7<|e_ (N4 u v<|e_ (p7 nd es u v) k) (k2:Int)) from j8.cm8 C0 ef C C om om)<|Ga C<|Ar<|A1 (S12 20 3 4 5 12 15 16 49 50 51 61 62 C C C C C C C C C C C C)<|A6<|Gf aj3 C<|Gl U1 ?_)
    refine Gm C<|Gr (A2 (α:=Int) (xs:=M) Ab ef C C A5 (by first|omega|(have h8:=aa om;omega))<|by first|omega|(have h8:=aa om;omega))<|Gr (B6 (xs:=M) ef C A5 (by first|omega|(have h8:=aa om;omega))<|by first|omega|(have h8:=aa om;omega))<|Gm C<|Gr (Cv C C<|by first|(unfold InR;omega)|(have h7:=ab om;unfold InR;omega))<|Gr (A2 (α:=Int) (xs:=M) Ab ef C C A5 (by first|omega|(have h8:=aa om;omega))<|by first|omega|(have h8:=aa om;omega))<|Ge0 (Cw (α:=Int) (xs:=M) (e:=3) (new:=(e_ M<|e_ (N4 u v<|e_ (p7 nd es u v) k) (k2:Int))+b') ef C C C (by first|omega|(have h8:=aa om;omega)) (by first|omega|(have h8:=aa om;omega)) am) ?_
    exact Bq<|Av<|Ao<|A1 (S11 3 4 5 12 15 16 49 50 51 61 62)<|A6<|Gr (Cv C C<|by first|(unfold InR;omega)|(have h7:=ab om;unfold InR;omega))<|Gm C<|Bq<|Bt ((k2+1),(List.set M (e_ (N4 u v<|e_ (p7 nd es u v) k) (k2:Int)).toNat ((e_ M<|e_ (N4 u v<|e_ (p7 nd es u v) k) (k2:Int))+b')))<|by dsimp only;exact ⟨om,(as4 (ls:=(N4 u v<|e_ (p7 nd es u v) k)) (by show k2<4;omega) ah)⟩
   exact Ci<|Aw<|Aw<|Bi<|Av<|Ao<|A6<|Gr (Cv C C<|by first|(unfold InR;omega)|(have h7:=ab om;unfold InR;omega))<|Gm C<|Bq<|Bt ((k+1),(M))<|by dsimp only;exact ⟨om,(by rw [ah,show k2=4 by omega,ar3 om])⟩
  refine Ci<|Aw<|Aw<|Bi<|Ao<|Ak<|Gr (Bm (vs:=[_,_,_,_,_]) V6) ?_
  refine Gm C<|Gr (Bk Bw C)<|Ge0 (E5 V6) ?_
  refine Ga C<|Ga C<|Ar<|A1 (S3 14 13 12)<|B3 ?_
  have au:out=ah3 b' (p7 nd es u v) u v num:=by rw [ho,show k=(p7 nd es u v).length by omega];unfold bq7 ah3;rw [Hb,Js,Gq]
  exact Cu C V6 C C C mm C (vc 3 (.slice ap num.length aj) (ah3 b' (p7 nd es u v) u v num)::I) (by rw [←au];exact Az) ⟨ap,aj,rfl,rfl⟩
 refine Se1 C (Aj V6 C) λa3=>?_
 refine Ds1 6<|Sc0 C (Ac c_ C C<|Z5 (nd:=nd) (A4 hl) u) ?_
 refine Ds1 9<|Sc0 C (Ac c_ C C<|Z5 (nd:=nd) (A4 hl) v) ?_
 refine Dr 10 C (Cv C C<|by first|(unfold InR;omega)|(have h7:=ab om;unfold InR;omega))<|Dr 11 C (Eo C C<|by first|(unfold InR;omega)|(have h7:=ab om;unfold InR;omega))<|Dr 12 C (Cv C C<|by first|(unfold InR;omega)|(have h7:=ab om;unfold InR;omega))<|Ds1 22<|Sc2 C (Ac c_ C C<|ah1 (xs:=num) (A4 hm) om) λan ak=>?_
 refine Dr 23 C (Cl (cells:=[_,_,_,_,_]) V6 Eu fx5 C C)<|Cg kr ?_
 refine Ae 25 C (E5 V6) ?_
 rintro _ _ ⟨rfl,rfl⟩
 refine Ch kr ?_
 refine Ao<|A1 (S6 16 15 12 3 4 5)<|Ax<|Ak<|Gm C<|Gr (Bk Bw C)<|Gm C<|Ar<|A7<|B9 (σ:=Nat×(List Int)) (λs=>([(3,e7 u),(4,e7 v),(5,e7<|b'),(12,pt b4),(15,.slice ad (p7 nd es u v).length ae),(16,pt a3),(49,.slice ad (p7 nd es u v).length ae),(50,e7<|(((p7 nd es u v).length:Nat):Int)),(51,e7 ((s.1:Nat):Int))]:Env)) (λs=>vc 3 (.slice an num.length ak) (s.2)::e8 a3 [e7 (nd'),.slice ga gn gc,e7<|w0+(b'*(((((nbG nd es u).length:Nat)):Int)+((((nbG nd es v).length:Nat)):Int))),e7<|n0+(b'*(((p7 nd es u v).length:Nat):Int)),.slice an num.length ak] 45::vk 200 ad ae (p7 nd es u v)::e8 b4 [e7 0,.slice none 0 0,e7 0,e7 0,.slice none 0 0] 45::e8 b3 [e7 nd,.slice ea es.length ec] 38::e8 b2 [e7 (nd'),.slice ga gn gc] 38::e8 b1 [e7 nd0,va,e7 w0,e7 n0,.slice na num.length nc] 45::I) (λs=>(s.1<=(p7 nd es u v).length)/\(s.2=(bq7 nd es u v s.1 0).foldl (Y0 b') num)) (λs=>(p7 nd es u v).length - s.1) (0,num) ⟨om,rfl⟩ (cx4<|cx4<|Aa Co Bb) Ai ?_
 rintro ⟨k,out⟩ hp
 dsimp only at hp ⊢
 obtain ⟨hk,ho⟩:=hp
 have a5:out.length=num.length:=by rw [ho];exact J3 _ _
 refine Ak<|Gr (Bl C C)<|Ar<|Ax<|Am C (λaq=>?_)<|λaq=>?_
 ·refine Bc (Ao<|Ax<|A7<|Ak<|Gr (A2 (α:=Pt) (xs:=p7 nd es u v) Bw L8 C C A5 (by first|omega|(have h8:=aa om;omega))<|by first|omega|(have h8:=aa om;omega))<|Gr (C6 (α:=Pt) (xs:=p7 nd es u v) L8 C A5 (by first|omega|(have h8:=aa om;omega))<|by first|omega|(have h8:=aa om;omega))<|Ge1 (Aj L8 C) λba=>Ge0 (Cs L8) ?_)
  refine Ar<|Ak<|Gm C<|Gm C<|Gr (B5 B8 ty2 C C om om)<|Gl ef ?_
  refine Gr (B5 B8 ty2 C C om om)<|Gl ef ?_
  refine Gr (Eg (cells:=[_,_,_,_]) bv4 C0 ef C C)<|Gm C<|Ar<|A1 (S11 62 61 3 4 5 12 15 16 49 50 51)<|A7<|B9 (σ:=Nat×(List Int)) (λs=>([(3,e7 u),(4,e7 v),(5,e7<|b'),(12,pt b4),(15,.slice ad (p7 nd es u v).length ae),(16,pt a3),(49,.slice ad (p7 nd es u v).length ae),(50,e7<|(((p7 nd es u v).length:Nat):Int)),(51,e7<|(k:Int)),(61,.agg #[e7 u,e7 v,e7<|(e_ (p7 nd es u v) k).u,e7<|(e_ (p7 nd es u v) k).v]),(62,e7 ((s.1:Nat):Int))]:Env)) (λs=>e8 ba [e7 ((e_ (p7 nd es u v) k).u),e7<|(e_ (p7 nd es u v) k).v] 200::vc 3 (.slice an num.length ak) (s.2)::e8 a3 [e7 (nd'),.slice ga gn gc,e7<|w0+(b'*(((((nbG nd es u).length:Nat)):Int)+((((nbG nd es v).length:Nat)):Int))),e7<|n0+(b'*(((p7 nd es u v).length:Nat):Int)),.slice an num.length ak] 45::vk 200 ad ae (p7 nd es u v)::e8 b4 [e7 0,.slice none 0 0,e7 0,e7 0,.slice none 0 0] 45::e8 b3 [e7 nd,.slice ea es.length ec] 38::e8 b2 [e7 (nd'),.slice ga gn gc] 38::e8 b1 [e7 nd0,va,e7 w0,e7 n0,.slice na num.length nc] 45::I) (λs=>(s.1<=4)/\(s.2=(bq7 nd es u v k s.1).foldl (Y0 b') num)) (λs=>4 - s.1) (0,out) ⟨om,ho⟩ (cx4<|cx4<|cx2<|Aa Co Bb) Ai ?_
  rintro ⟨k2,M⟩ hp
  dsimp only at hp ⊢
  obtain ⟨a4,ah⟩:=hp
  have ay:M.length=num.length:=by rw [ah];exact J3 _ _
  have aa:=λh:k2<4=>aw4 hG hu hv (Bp (xs:=p7 nd es u v) (i:=(k:Int)) om om) _ (Bp (xs:=(N4 u v<|e_ (p7 nd es u v) k)) (i:=(k2:Int)) om<|by show (k2:Int)<4;omega)
  have ab:=λh:k2<4=>ba8 (b':=b') (num:=num) (λw hw=>by rw [av];exact bq6 hG hu hv (k:=k) (j:=k2) (.inl om) w hw) hb a0 (x:=e_ (N4 u v<|e_ (p7 nd es u v) k) (k2:Int)) (by have:=aa h;omega)
  rw [←ah] at ab
  have a6:=ba1 (nd:=nd) (es:=es) (u:=u) (v:=v) k k2 om
  refine Ak<|Gr (Bl C C)<|Ar<|Ax<|Am C (λar=>?_)<|λar=>?_
  ·refine Bc (Ao<|Ax<|A7<|Ak<|Gr (show j8 _ _ _ _ _ _ (e7<|e_ (N4 u v<|e_ (p7 nd es u v) k) (k2:Int)) from j8.cm8 C0 ef C C om om)<|Ga C<|Ar<|A1 (S12 20 3 4 5 12 15 16 49 50 51 61 62 C C C C C C C C C C C C)<|A6<|Gf aj3 C<|Gl U1 ?_)
   refine Gm C<|Gr (A2 (α:=Int) (xs:=M) Ab ef C C A5 (by first|omega|(have h8:=aa om;omega))<|by first|omega|(have h8:=aa om;omega))<|Gr (B6 (xs:=M) ef C A5 (by first|omega|(have h8:=aa om;omega))<|by first|omega|(have h8:=aa om;omega))<|Gm C<|Gr (Cv C C<|by first|(unfold InR;omega)|(have h7:=ab om;unfold InR;omega))<|Gr (A2 (α:=Int) (xs:=M) Ab ef C C A5 (by first|omega|(have h8:=aa om;omega))<|by first|omega|(have h8:=aa om;omega))<|Ge0 (Cw (α:=Int) (xs:=M) (e:=3) (new:=(e_ M<|e_ (N4 u v<|e_ (p7 nd es u v) k) (k2:Int))+b') ef C C C (by first|omega|(have h8:=aa om;omega)) (by first|omega|(have h8:=aa om;omega)) am) ?_
   exact Bq<|Av<|Ao<|A1 (S11 3 4 5 12 15 16 49 50 51 61 62)<|A6<|Gr (Cv C C<|by first|(unfold InR;omega)|(have h7:=ab om;unfold InR;omega))<|Gm C<|Bq<|Bt ((k2+1),(List.set M (e_ (N4 u v<|e_ (p7 nd es u v) k) (k2:Int)).toNat ((e_ M<|e_ (N4 u v<|e_ (p7 nd es u v) k) (k2:Int))+b')))<|by dsimp only;exact ⟨om,(as4 (ls:=(N4 u v<|e_ (p7 nd es u v) k)) (by show k2<4;omega) ah)⟩
  exact Ci<|Aw<|Aw<|Bi<|Av<|Ao<|A6<|Gr (Cv C C<|by first|(unfold InR;omega)|(have h7:=ab om;unfold InR;omega))<|Gm C<|Bq<|Bt ((k+1),(M))<|by dsimp only;exact ⟨om,(by rw [ah,show k2=4 by omega,ar3 om])⟩
 refine Ci<|Aw<|Aw<|Bi<|Ao<|Ak<|Gr (Bm (vs:=[_,_,_,_,_]) V6) ?_
 refine Gm C<|Gr (Bk Bw C)<|Ge0 (E5 V6) ?_
 refine Ga C<|Ga C<|Ar<|A1 (S3 14 13 12)<|B3 ?_
 have au:out=ah3 b' (p7 nd es u v) u v num:=by rw [ho,show k=(p7 nd es u v).length by omega];unfold bq7 ah3;rw [Hb,Js,Gq]
 exact Cu C V6 C C C mm C (vc 3 (.slice an num.length ak) (ah3 b' (p7 nd es u v) u v num)::I) (by rw [←au];exact Az) ⟨an,ak,rfl,rfl⟩
end Go.Sl
namespace Go.Sl
open Go.Proofs
set_option maxRecDepth 4000
variable{w:Nat}{out:List Int}{es':List Pt}{u v:Int}{κ:Ctx}{I:List Item}{va:Value}
attribute [local irreducible] W G V D A j8 Eff
theorem ge1:tyF Tryz.prog 218=some (4096,true,32768,cells (replicate 4096 (0:Int))):=by kernel_rfl
theorem av2(f:Nat->Bool):∀n:Nat,0<=p9 n (λx=>ind (f x))/\p9 n (λx=>ind (f x))<=(n:Int)
 |0=>by simp [p9]
 |n+1=>by
  have M:=av2 f n
  have h2:0<=ind (f n)/\ind (f n)<=1:=by rcases fj7 (f n) with h|h<;>omega
  simp only [p9];omega
theorem ay4{l:List Int}{p:Nat}(h:l.Nodup)(hp:p<l.length):e_ l p∉l.take p:=λhm=>by
 have M:=h.sublist (Lc (p+1) l)
 rw [Ca l p hp] at M
 exact (Ms.1 M).2.2 _ hm _ (Gc.2 rfl) rfl
section
variable {nd:Int}{es:List Pt}{tb:List Int}{k p q:Nat}
def coK(nd:Int)(es:List Pt)(k i j:Nat):Int:=if i=j then 0 else p9 k λx=>ind (M3 nd es x i&&M3 nd es x j)
theorem fb0(k i j:Nat):coK nd es (k+1) i j=coK nd es k i j+ind (decide (i≠j/\(i:Int)∈nbG nd es (k:Int)/\(j:Int)∈nbG nd es (k:Int))):=by
 unfold coK
 by_cases h:i=j
 ·rw [B_ h,B_ h,D_<|λq=>q.1 h];rfl
 rw [An h,An h]
 show p9 k _+ind _=_
 congr 2
 unfold M3
 rw [←Bool.decide_and,Fs]
 exact ⟨λq=>⟨h,q⟩,λq=>q.2⟩
theorem ga7(k i j:Nat):0<=coK nd es k i j/\coK nd es k i j<=(k:Int):=by
 unfold coK
 split
 ·omega
 exact av2 _ k
theorem fp6(M:s6 nd es)(i j:Nat):coK nd es nd.toNat i j=coN nd.toNat (M3 nd es) i j:=by
 unfold coK coN
 split
 ·rfl
 exact B1 _ λx _=>by rw [(ag4 M).sym i x,(ag4 M).sym j x]
theorem fj9(n:Nat)(e:Nat->Nat->Bool)(i j:Nat):0<=coN n e i j/\coN n e i j<=(n:Int):=by
 unfold coN
 split
 ·omega
 exact av2 _ n
structure bb1 (nd:Int) (es:List Pt) (k p q:Nat) (tb:List Int):Prop where
 len:tb.length=4096
 val:∀i j:Nat,i<64->j<64->e_ tb ((i:Int)*64+(j:Int))=coK nd es k i j+ind (decide<|i≠j/\(((i:Int)∈(nbG nd es (k:Int)).take p/\(j:Int)∈nbG nd es (k:Int))\/((i:Int)=e_ (nbG nd es (k:Int)) (p:Int)/\(j:Int)∈(nbG nd es (k:Int)).take q)))
theorem bb1.zero:bb1 nd es 0 0 0 (replicate 4096 (0:Int)):=⟨Fy,λi j hi hj=>by
 have M:coK nd es 0 i j=0:=by unfold coK;split<;>rfl
 have h3:((i:Int)*64+(j:Int))=((i*64+j:Nat):Int):=by omega
 rw [M,E4,An (by rintro ⟨_,⟨q,_⟩|⟨_,q⟩⟩<;>cases q),h3,Ct _ _ (by rw [Fy];omega),Lt];rfl⟩
theorem ba3(M:s6 nd es){x:Int}{p:Nat}(hp:p<(nbG nd es x).length):0<=e_ (nbG nd es x) p/\e_ (nbG nd es x) p<nd/\nd<=64:=by
 have h1:=N3 M (Bp (xs:=nbG nd es x) (i:=(p:Int)) om om)
 have h2:=M.rng
 omega
theorem bb1.yes(hG:s6 nd es)(h:bb1 nd es k p q tb)(hp:p<(nbG nd es (k:Int)).length)(hq:q<(nbG nd es (k:Int)).length)(ab:e_ (nbG nd es (k:Int)) (p:Int)≠e_ (nbG nd es (k:Int)) (q:Int)) :
  bb1 nd es k p (q+1) (List.set tb (e_ (nbG nd es (k:Int)) (p:Int)*64+e_ (nbG nd es (k:Int)) (q:Int)).toNat (e_ tb (e_ (nbG nd es (k:Int)) (p:Int)*64+e_ (nbG nd es (k:Int)) (q:Int))+1)):=by
 have h1:=ay4 (ac1 nd es (k:Int)) hp
 have h2:=ay4 (ac1 nd es (k:Int)) hq
 have ra:=ba3 hG hp
 have rb:=ba3 hG hq
 have ah:=Bp (xs:=nbG nd es (k:Int)) (i:=(q:Int)) om om
 have ad:=Ca (nbG nd es (k:Int)) q hq
 have hv:=h.val
 have aa:=h.len
 refine ⟨by rw [Fo];exact aa,λi j hi hj=>?_⟩
 generalize e_ (nbG nd es (k:Int)) (p:Int)=a at h1 ra ab hv ⊢
 generalize e_ (nbG nd es (k:Int)) (q:Int)=b at h2 rb ah ad ab ⊢
 rw [Ei _ _ _ _ om om (by rw [aa];omega),ad]
 by_cases e:a*64+b=(i:Int)*64+(j:Int)
 ·have ei:(i:Int)=a:=by omega
  have ej:(j:Int)=b:=by omega
  have ae:i≠j:=λq=>ab om
  rw [B_ e,e,hv i j hi hj,E4,E4,An,B_ ⟨ae,.inr ⟨ei,Lz _<|Gc.2 ej⟩⟩]
  ·omega
  rintro ⟨_,⟨M,_⟩|⟨_,M⟩⟩
  ·exact h1<|ei▸M
  exact h2<|ej▸M
 rw [An e,hv i j hi hj]
 congr 2
 rw [Fs,Gt,Gc]
 constructor
 ·rintro ⟨M,h4|h4⟩
  ·exact ⟨M,.inl h4⟩
  exact ⟨M,.inr ⟨h4.1,.inl h4.2⟩⟩
 rintro ⟨M,h4|⟨h4,h5|h5⟩⟩
 ·exact ⟨M,.inl h4⟩
 ·exact ⟨M,.inr ⟨h4,h5⟩⟩
 exact absurd (by rw [h4,h5]) e
theorem bb1.no(h:bb1 nd es k p q tb)(hq:q<(nbG nd es (k:Int)).length)(he:e_ (nbG nd es (k:Int)) (p:Int)=e_ (nbG nd es (k:Int)) (q:Int)):bb1 nd es k p (q+1) tb:=⟨h.len,λi j hi hj=>by
 rw [h.val i j hi hj,Ca (nbG nd es (k:Int)) q hq]
 congr 2
 rw [Fs,Gt,Gc]
 constructor
 ·rintro ⟨M,h4|h4⟩
  ·exact ⟨M,.inl h4⟩
  exact ⟨M,.inr ⟨h4.1,.inl h4.2⟩⟩
 rintro ⟨M,h4|⟨h4,h5|h5⟩⟩
 ·exact ⟨M,.inl h4⟩
 ·exact ⟨M,.inr ⟨h4,h5⟩⟩
 exact absurd om M⟩
theorem bb1.row(h:bb1 nd es k p (nbG nd es (k:Int)).length tb)(hp:p<(nbG nd es (k:Int)).length):bb1 nd es k (p+1) 0 tb:=⟨h.len,λi j hi hj=>by
 rw [h.val i j hi hj,Ca (nbG nd es (k:Int)) p hp,Hb,Js]
 congr 2
 rw [Fs,Gt,Gc]
 constructor
 ·rintro ⟨M,h4|h4⟩
  ·exact ⟨M,.inl ⟨.inl h4.1,h4.2⟩⟩
  exact ⟨M,.inl ⟨.inr h4.1,h4.2⟩⟩
 rintro ⟨M,⟨h4|h4,h5⟩|⟨_,h5⟩⟩
 ·exact ⟨M,.inl ⟨h4,h5⟩⟩
 ·exact ⟨M,.inr ⟨h4,h5⟩⟩
 cases h5⟩
theorem bb1.node(h:bb1 nd es k (nbG nd es (k:Int)).length 0 tb):bb1 nd es (k+1) 0 0 tb:=⟨h.len,λi j hi hj=>by
 rw [h.val i j hi hj,fb0,E4,E4,E4]
 by_cases hA:i≠j/\(i:Int)∈nbG nd es (k:Int)/\(j:Int)∈nbG nd es (k:Int)
 ·rw [B_ ⟨hA.1,.inl ⟨by rw [Hb];exact hA.2.1,hA.2.2⟩⟩,B_ hA,An<|by rintro ⟨_,⟨q,_⟩|⟨_,q⟩⟩<;>cases q];omega
 rw [An (by rintro ⟨h3,⟨M,h5⟩|⟨_,q⟩⟩;(· rw [Hb] at M;exact hA ⟨h3,M,h5⟩);(· cases q)),An hA,An (by rintro ⟨_,⟨q,_⟩|⟨_,q⟩⟩<;>cases q)];omega⟩
theorem bb1.bd(h:bb1 nd es k p q tb){i j:Int}(h0:0<=i/\i<64)(M:0<=j/\j<64):0<=e_ tb (i*64+j)/\e_ tb (i*64+j)<=(k:Int)+1:=by
 have h2:=h.val i.toNat j.toNat om om
 rw [Gz h0.1,Gz M.1] at h2
 have h3:=ga7 (nd:=nd) (es:=es) k i.toNat j.toNat
 rcases fj7 (decide<|i.toNat≠j.toNat/\((i∈(nbG nd es (k:Int)).take p/\j∈nbG nd es (k:Int))\/(i=e_ (nbG nd es (k:Int)) (p:Int)/\j∈(nbG nd es (k:Int)).take q))) with h4|h4<;>omega
structure gm2 (nd:Int) (es:List Pt) (tb:List Int):Prop where
 len:tb.length=4096
 val:∀i j:Nat,i<64->j<64->e_ tb ((i:Int)*64+(j:Int))=coN nd.toNat (M3 nd es) i j
theorem bb1.all(hG:s6 nd es)(h:bb1 nd es nd.toNat 0 0 tb):gm2 nd es tb:=⟨h.len,λi j hi hj=>by
 rw [h.val i j hi hj,fp6 hG,E4,An,Jz]
 rintro ⟨_,⟨M,_⟩|⟨_,M⟩⟩<;>cases M⟩
def cK(nd:Int)(es:List Pt)(v w:Nat):Int:=p9 w λx=>prs (coN nd.toNat (M3 nd es) v x)
theorem fq1(M:nd<=64)(v:Nat):∀w:Nat,0<=cK nd es v w/\cK nd es v w<=2016*(w:Int)
 |0=>by simp [cK,p9]
 |w+1=>by
  have h1:=fq1 M v w
  have h2:=fj9 nd.toNat (M3 nd es) v w
  have h3:=bx2 (n:=coN nd.toNat (M3 nd es) v w) ⟨by omega,by omega⟩
  have e:cK nd es v (w+1)=cK nd es v w+prs (coN nd.toNat (M3 nd es) v w):=rfl
  rw [e];omega
theorem dv6(v:Nat):ah2 nd es v=cK nd es v nd.toNat:=rfl
theorem bq3(M:nd<=64)(v:Nat):0<=ah2 nd es v/\ah2 nd es v<=129024:=by
 have:=fq1 (es:=es) M v nd.toNat
 rw [dv6];omega
theorem ce1(M:nd<=64):∀k:Nat,0<=p9 k (ah2 nd es)/\p9 k (ah2 nd es)<=129024*(k:Int)
 |0=>by simp [p9]
 |k+1=>by
  have h1:=ce1 M k
  have h2:=bq3 (es:=es) M k
  simp only [p9];omega
theorem ck2(M:s6 nd es):0<=J7 nd es/\J7 nd es<=3000000:=by
 have h1:=cj8 M
 have h2:=ce1 (es:=es) M.rng.2 nd.toNat
 have:=M.rng
 omega
theorem ck1(M:s6 nd es):∀x∈r8 nd es,0<=x/\x<=1000000:=λx hx=>by
 obtain ⟨i,hi,rfl⟩:=aw0 hx
 rw [F7] at hi
 rw [ab9 hi]
 have:=bq3 (es:=es) M.rng.2 i
 omega
theorem bv2(M:s6 nd es):0<=F8 nd es/\F8 nd es<=1000000:=by
 have h1:=bo9 nd es nd.toNat
 have e:F8 nd es=dt2 nd es nd.toNat:=rfl
 have:=M.rng
 rw [e];omega
structure QdI (nd:Int) (es:List Pt) (k w:Nat) (out:List Int):Prop where
 len:out.length=nd.toNat
 val:∀i:Nat,i<nd.toNat->e_ out i=if i<k then ah2 nd es i else if i=k then cK nd es k w else 0
theorem QdI.zero:QdI nd es 0 0 (replicate nd.toNat (0:Int)):=⟨Fy,λi hi=>by
 rw [Ct _ i (by rw [Fy];exact hi),Lt,An om]
 split<;>rfl⟩
theorem QdI.step(h:QdI nd es k w out)(M:k<nd.toNat):QdI nd es k (w+1) (List.set out ((k:Int)).toNat (e_ out k+prs (coN nd.toNat (M3 nd es) k w))):=⟨by rw [Fo];exact h.len,λi hi=>by
 rw [Ei _ _ _ _ om om (by rw [h.len];omega)]
 by_cases e:(k:Int)=(i:Int)
 ·have e':i=k:=by omega
  subst e'
  rw [B_ rfl,h.val i hi,An om,B_ rfl,An om,B_ rfl];rfl
 rw [An e,h.val i hi,An (show ¬i=k by omega),An (show ¬i=k by omega)]⟩
theorem QdI.next(h:QdI nd es k nd.toNat out):QdI nd es (k+1) 0 out:=⟨h.len,λi hi=>by
 rw [h.val i hi]
 by_cases e:i=k
 ·subst e;rw [An om,B_ rfl,B_ om];rfl
 by_cases e2:i<k
 ·rw [B_ e2,B_ om]
 rw [An e2,An e,An om]
 split
 ·rfl
 rfl⟩
theorem QdI.at(h:QdI nd es k w out)(M:k<nd.toNat):e_ out k=cK nd es k w:=by rw [h.val k M,An om,B_ rfl]
theorem QdI.all(h:QdI nd es nd.toNat 0 out):out=r8 nd es:=E6 (by rw [h.len,F7]) λi hi=>by
 rw [h.len] at hi
 rw [h.val i hi,B_ hi,ab9 hi]
theorem dv4(h:R5 nd es es' u v):F8 nd es+1*(((nbG nd es u).length:Int)+((nbG nd es v).length:Int))=F8 nd es'/\J7 nd es+1*((p7 nd es u v).length:Int)=J7 nd es':=by have:=h.ft8;omega
theorem dv5(h:R5 nd es es' u v):F8 nd es' + -1*(((nbG nd es u).length:Int)+((nbG nd es v).length:Int))=F8 nd es/\J7 nd es' + -1*((p7 nd es u v).length:Int)=J7 nd es:=by have:=h.ft8;omega
end
theorem cx5{nd:Int}{es:List Pt}(hl:Sl κ I va es)(hG:s6 nd es)(hT:F4 κ I 0 p6):eu Tryz.prog κ 134 [.agg #[e7 nd,va]] I (λr J=>∃(b:Nat) (tb:List Int),r = (pt b)/\gm2 nd es tb/\J=e8 b (cells tb) 218::I):=by
 have ao:=hG.rng
 refine Ce1 Tryz.func134 C C ?_
 refine Ak<|Ge1 (Au (cs:=[_,_]) C C C) λb1=>Ga C<|Ar<|Ak<|Ge1 (Aj ge1 C) λb2=>Z ?_
 refine B9 (σ:=Nat×(List Int)) (λs=>([(1,pt b1),(3,pt b2),(11,e7 nd),(12,e7 ((s.1:Nat):Int))]:Env)) (λs=>e8 b2 (cells (s.2:List Int)) 218::e8 b1 [e7 nd,va] 38::I) (λs=>((s.1:Int)<=nd)/\(bb1 nd es s.1 0 0 s.2)) (λs=>nd.toNat - s.1) (0,replicate 4096 (0:Int)) ⟨om,bb1.zero⟩ (cx2<|Aa C<|Aa Co Bb) Az ?_
 rintro ⟨k,tb⟩ hp
 dsimp only at hp ⊢
 obtain ⟨hk,ht⟩:=hp
 have aq:=J9 nd es (k:Int)
 refine Z ?_
 refine Am C (λc13=>Z ?_)<|λc13=>Z ?_
 ·refine Gc2 (Ac c_ C C<|bi0 (nd:=nd) (A4 hl) (k:Int)<|A8 hT Ah) λM aa=>Z ?_
  refine B9 (σ:=Nat×(List Int)) (λs=>([(1,pt b1),(3,pt b2),(5,.slice M (nbG nd es (k:Int)).length aa),(11,e7 nd),(12,e7<|(k:Int)),(18,.slice M (nbG nd es (k:Int)).length aa),(19,e7<|(((nbG nd es (k:Int)).length:Nat):Int)),(20,e7 ((s.1:Nat):Int))]:Env)) (λs=>vk 3 M aa (nbG nd es (k:Int))::e8 b2 (cells (s.2:List Int)) 218::e8 b1 [e7 nd,va] 38::I) (λs=>(s.1<=(nbG nd es (k:Int)).length)/\(bb1 nd es k s.1 0 s.2)) (λs=>(nbG nd es (k:Int)).length - s.1) (0,tb) ⟨om,ht⟩ (cx4<|cx2<|Aa C<|Aa Co Bb) Az ?_
  rintro ⟨p,ae⟩ hp
  dsimp only at hp ⊢
  obtain ⟨hp,ah⟩:=hp
  refine Z ?_
  refine Am C (λak=>Z ?_)<|λak=>Z ?_
  ·have au:=ba3 hG (x:=(k:Int)) (p:=p) om
   refine Z ?_
   refine A1 (S12 26 25 24 7 1 3 5 11 12 18 19 20 C C C C C C C C C C C C)<|Z ?_
   refine B9 (σ:=Nat×(List Int)) (λs=>([(1,pt b1),(3,pt b2),(5,.slice M (nbG nd es (k:Int)).length aa),(7,e7<|e_ (nbG nd es (k:Int)) (p:Int)),(11,e7 nd),(12,e7<|(k:Int)),(18,.slice M (nbG nd es (k:Int)).length aa),(19,e7<|(((nbG nd es (k:Int)).length:Nat):Int)),(20,e7<|(p:Int)),(24,.slice M (nbG nd es (k:Int)).length aa),(25,e7<|(((nbG nd es (k:Int)).length:Nat):Int)),(26,e7 ((s.1:Nat):Int))]:Env)) (λs=>vk 3 M aa (nbG nd es (k:Int))::e8 b2 (cells (s.2:List Int)) 218::e8 b1 [e7 nd,va] 38::I) (λs=>(s.1<=(nbG nd es (k:Int)).length)/\(bb1 nd es k p s.1 s.2)) (λs=>(nbG nd es (k:Int)).length - s.1) (0,ae) ⟨om,ah⟩ (cx4<|cx4<|cx2<|Aa C<|Aa Co Bb) Az ?_
   rintro ⟨q,ab⟩ hp
   dsimp only at hp ⊢
   obtain ⟨hq,ad⟩:=hp
   have ap:=ad.len
   refine Z ?_
   refine Am C (λaj=>Z ?_)<|λaj=>Z ?_
   ·have ar:=ba3 hG (x:=(k:Int)) (p:=q) om
    have av:=ad.bd (i:=e_ (nbG nd es (k:Int)) (p:Int)) (j:=e_ (nbG nd es (k:Int)) (q:Int)) om om
    refine Z ?_
    refine Am C (λan=>?_)<|λan=>Z ?_
    ·refine Ba mixed (Ee 8<|Z ?_)
     refine Dr 2 C (B5 Tryz.underlying218 dt5 C C om om)<|Dr 3 C (B5 Tryz.underlying193 ef C C om om)<|Dr 4 C (j8.gk8 (xs:=ab) ef C (Dl mm) om om om)<|Z ?_
     refine Ds1 6<|Sr C (B5 Tryz.underlying218 dt5 C C om om) Ah ?_
     refine Dr 7 C (B5 Tryz.underlying193 ef C C om om)<|Cg kr ?_
     refine Ae 8 C (Eff.setT (xs:=ab) (i:=e_ (nbG nd es (k:Int)) (p:Int)) (j:=e_ (nbG nd es (k:Int)) (q:Int)) (n:=(e_ ab<|(e_ (nbG nd es (k:Int)) (p:Int))*64+(e_ (nbG nd es (k:Int)) (q:Int)))+1) ef C C C om om om am) ?_
     rintro _ _ ⟨rfl,rfl⟩
     refine Ch kr<|Z ?_
     exact Bt ((q+1),(List.set ab ((e_ (nbG nd es (k:Int)) (p:Int))*64+(e_ (nbG nd es (k:Int)) (q:Int))).toNat ((e_ ab<|(e_ (nbG nd es (k:Int)) (p:Int))*64+(e_ (nbG nd es (k:Int)) (q:Int)))+1)))<|by dsimp only;exact ⟨om,(by first|exact ad.yes hG om om asm|exact ad.no om om)⟩
    exact Bt ((q+1),(ab))<|by dsimp only;exact ⟨om,(by first|exact ad.yes hG om om asm|exact ad.no om om)⟩
   exact Bt ((p+1),(ab))<|by dsimp only;exact ⟨om,(bb1.row (by rw [show (nbG nd es (k:Int)).length=q by omega];exact ad) om)⟩
  exact Bt ((k+1),(ae))<|by dsimp only;exact ⟨om,(bb1.node<|by rw [show (nbG nd es (k:Int)).length=p by omega];exact ah)⟩
 have ai:k=nd.toNat:=by omega
 subst ai
 exact Al C C (e8 b2 (cells tb) 218::I) Az ⟨b2,tb,rfl,ht.all hG,rfl⟩
theorem bo4{nd:Int}{es:List Pt}(hl:Sl κ I va es)(hG:s6 nd es)(hT:F4 κ I 0 p6):eu Tryz.prog κ 89 [.agg #[e7 nd,va]] I (λr J=>∃a c,r = .tuple #[e7 (J7 nd es),.slice a (r8 nd es).length c]/\J=vk 3 a c (r8 nd es)::I):=by
 have ay:=hG.rng
 refine Ce1 Tryz.func89 C C ?_
 refine Ak<|Ge1 (Au (cs:=[_,_]) C C C) λb1=>Z ?_
 refine G.e (Ac c_ C C<|cx5 (nd:=nd) (A4 hl) hG<|A8 hT Ah) ?_
 rintro _ _ ⟨_,_,⟨a6,ab,rfl,ai,rfl⟩,rfl,rfl⟩
 refine Ga C<|Ar<|Ax<|Ba mixed<|Ee 5<|Z ?_
 refine Ds1 2<|Se2 C (Dk (α:=Int) (n:=nd.toNat) Ab ef C C C om om dc C) λad aa=>?_
 have a8:(replicate nd.toNat (default:Int)).length=nd.toNat:=Fy
 refine Z ?_
 refine Dh (σ:=Nat×Int×(List Int)) (λs=>[(5,e7<|s.2.1),(16,e7 ((s.1:Nat):Int))]) (λs=>[vc 3 (.slice ad (replicate nd.toNat (default:Int)).length aa) (s.2.2)]) (λs=>(s.1<=nd.toNat)/\(s.2.1=p9 s.1 (ah2 nd es))/\(QdI nd es s.1 0 s.2.2)) (λs=>nd.toNat - s.1) (0,0,replicate nd.toNat (default:Int)) ⟨om,rfl,QdI.zero⟩ ?_
 rintro ⟨k,q,out⟩ hp
 dsimp only at hp ⊢
 obtain ⟨hk,hq,ho⟩:=hp
 have a5:=ho.len
 have a9:=ce1 (es:=es) hG.rng.2 k
 refine Z ?_
 refine Am C (λap=>Z ?_)<|λap=>Z ?_
 ·refine Dh (σ:=Nat×(List Int)) (λs=>[(21,e7 ((s.1:Nat):Int))]) (λs=>[vc 3 (.slice ad (replicate nd.toNat (default:Int)).length aa) (s.2)]) (λs=>(s.1<=nd.toNat)/\(QdI nd es k s.1 s.2)) (λs=>nd.toNat - s.1) (0,out) ⟨om,ho⟩ ?_
  rintro ⟨w,M⟩ hp
  dsimp only at hp ⊢
  obtain ⟨hw,ae⟩:=hp
  have a0:=ae.len
  have a3:=fq1 (es:=es) hG.rng.2 k w
  have az:=ae.at om
  refine Z ?_
  refine Am C (λax=>Z ?_)<|λax=>Z ?_
  ·have aj:=ai.val k w om om
   have a7:=ai.len
   have an:=fj9 nd.toNat (M3 nd es) k w
   have aq:=bx2 (n:=coN nd.toNat (M3 nd es) k w) ⟨by omega,by omega⟩
   rw [←aj] at an aq
   refine Z ?_
   refine Ba mixed<|Ee 14<|Z ?_
   refine Dr 8 C (B5 Tryz.underlying218 dt5 C C om om)<|Dr 9 C (B5 Tryz.underlying193 ef C C om om)<|Dr 10 C (j8.gk8 (xs:=ab) ef C (Dl mm) om om om)<|Ds1 11<|Se C (Ac c_ C C<|cq1 (e_ ab<|(k:Int)*64+(w:Int)) om) ?_
   rintro _ _ ⟨_,_,⟨rfl,rfl⟩,rfl,rfl⟩
   refine ⟨Ah,?_⟩
   refine Z ?_
   refine Cg kr ?_
   refine Ae 14 C (Cw (α:=Int) (xs:=M) (e:=3) (new:=(e_ M k)+(prs<|e_ ab<|(k:Int)*64+(w:Int))) ef C C C om om am) ?_
   rintro _ _ ⟨rfl,rfl⟩
   refine Ch kr<|Z ?_
   exact Bt ((w+1),(List.set M ((k:Int)).toNat ((e_ M k)+(prs<|e_ ab<|(k:Int)*64+(w:Int)))))<|by dsimp only;exact ⟨om,(by have h8:=ae.step om;rw [←aj] at h8;exact h8)⟩
  have av:w=nd.toNat:=by omega
  have ak:QdI nd es k nd.toNat M:=av▸ae
  have ao:e_ M k=ah2 nd es k:=ak.at om
  have a1:=bq3 (es:=es) hG.rng.2 k
  refine Z ?_
  exact Bt ((k+1),(q+(e_ M k)),(M))<|by dsimp only;exact ⟨om,(by rw [hq,ao];rfl),ak.next⟩
 refine Gr (j8.quo C C om om<|by unfold InR;omega)<|Z ?_
 have au:k=nd.toNat:=by omega
 rw [au] at hq ho
 have ar:=ho.all
 have a4:=cj8 hG
 have aw:q / 4=J7 nd es:=by rw [hq];omega
 have ah:(replicate nd.toNat (default:Int)).length=(r8 nd es).length:=by rw [Fy,F7]
 exact C3 C C C (vk 3 ad aa (r8 nd es)::I) (by unfold vk;rw [←ah,←ar];exact Az) ⟨ad,aa,by rw [←ah,←aw],rfl⟩
end Go.Sl
