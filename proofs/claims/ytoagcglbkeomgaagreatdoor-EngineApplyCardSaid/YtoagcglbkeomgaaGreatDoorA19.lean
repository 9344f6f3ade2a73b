/- A part of the proofs of statements of this seat: contracts of functions, and the plain laws that they lean on. No conditions. -/
import Derived.Test.YtoagcglbkeomgaaGreatDoorA18
set_option linter.unusedVariables false
set_option linter.unusedSimpArgs false
set_option linter.unusedSectionVars false
open List (replicate)
set_option maxHeartbeats 2000000
namespace Go.Sl
open Go.Proofs
set_option maxRecDepth 4000
variable{b':Int}{ls num:List Int}{k:Nat}
theorem ar8{M out:List Int}(hk:k<ls.length)(ho:out=(M++ls.take k).foldl (X7 b') num):List.set out (e_ ls k).toNat (e_ out (e_ ls k)+b')=(M++ls.take (k+1)).foldl (X7 b') num:=by
 rw [Ca ls k hk,←Fv,Hf (l:=M++ls.take k),←ho];rfl
theorem bm2(x:Int):∀l:List Int,0<=(l.map λw=>ind (decide (w=x))).sum/\(l.map λw=>ind (decide (w=x))).sum<=(l.length:Int)
 |[]=>by simp
 |p::l=>by
  have M:=bm2 x l
  have h2:0<=ind (decide<|p=x)/\ind (decide<|p=x)<=1:=by unfold ind;split<;>omega
  rw [Hk,Jg,E_];omega
theorem ba5(hr:∀w∈ls,0<=w/\w<(num.length:Int))(hb : -1<=b'/\b'<=1)(hv:∀x∈num,0<=x/\x<=1000000){x:Int}(M:0<=x/\x<(num.length:Int)) : -(ls.length:Int)<=e_ (ls.foldl (X7 b') num) x/\e_ (ls.foldl (X7 b') num) x<=1000000+(ls.length:Int):=by
 have h1:=hv _ (Bo (xs:=num) (i:=x) M.1 om)
 have h2:=bm2 x ls
 rw [ac6 _ _ hr _ M.1]
 rcases (by omega:b' = -1\/b'=0\/b'=1) with h|h|h<;>rw [h]<;>omega
theorem di5{α β:Type}{f:α->List β}{m:Nat}(h:∀a,(f a).length<=m):∀l:List α,(l.flatMap f).length<=m*l.length
 |[]=>by simp
 |a::l=>by
  have h1:=di5 h l
  have M:=h a
  rw [List.flatMap_cons,By,E_,Nat.mul_succ];omega
section
variable {nd u v:Int}{es:List Pt}
theorem bw9(nd:Int)(es:List Pt)(u v:Int):(p7 nd es u v).length<=4096:=by
 have h1:=K1 nd es u
 have M:=K1 nd es v
 have h3:=di5 (f:=bd3 nd es u v) (m:=64) (λa=>by
  unfold bd3
  split
  ·simp
  rw [Ge];exact Hd (G_ _ _) M) (nbG nd es u)
 unfold p7;omega
theorem aw0(hG:s8 nd es)(hu:q7 nd u)(hv:q7 nd v){p:Pt}(hp:p∈p7 nd es u v):∀w∈N5 u v p,0<=w/\w<nd:=λw M=>by
 have hr:=br1 hG hp
 unfold q7 at hu hv hr
 unfold N5 at M
 simp only [F_,Ke,Ms] at M
 rcases M with rfl|rfl|rfl|rfl<;>omega
def bq2(nd:Int)(es:List Pt)(u v:Int)(k j:Nat):List Int:=((p7 nd es u v).take k).flatMap (N5 u v)++(N5 u v (e_ (p7 nd es u v) k)).take j
theorem bq1(M:s8 nd es)(hu:q7 nd u)(hv:q7 nd v){j:Nat}(hk:k<(p7 nd es u v).length\/j=0):∀w∈bq2 nd es u v k j,0<=w/\w<nd:=λw hw=>by
 unfold bq2 at hw
 rcases Gw.1 hw with hw|hw
 ·obtain ⟨p,hp,hw⟩:=Ky.1 hw
  exact aw0 M hu hv (Hz hp) w hw
 rcases hk with hk|rfl
 ·exact aw0 M hu hv (Bo om om) w<|Hz hw
 cases hw
theorem az8(k j:Nat)(hk:k<=(p7 nd es u v).length):(bq2 nd es u v k j).length<=20000:=by
 have h1:=bw9 nd es u v
 have M:=di5 (f:=N5 u v) (m:=4) (λa=>by unfold N5;simp) ((p7 nd es u v).take k)
 have h4:(N5 u v<|e_ (p7 nd es u v) k).length=4:=rfl
 rw [Ft] at M
 unfold bq2
 rw [By,Ft];omega
theorem aq6(M:k<(p7 nd es u v).length):bq2 nd es u v k 4=bq2 nd es u v (k+1) 0:=by
 unfold bq2
 rw [cf1 _ _ M,Jw,Gv];rfl
end
theorem dp0{κ:Ctx}{I:List Item}{nd nd' nd0 u v w0 n0:Int}{va:Value}{ea na ga:Option Addr}{ec nc gn gc:Nat}{es:List Pt}(hl:Sl κ I (.slice ea es.length ec) es)(hm:Sl κ I (.slice na num.length nc) num)(hG:s8 nd es)(hu:q7 nd u)(hv:q7 nd v)(av:(num.length:Int)=nd)(a3:∀x∈num,0<=x/\x<=1000000)(be:0<=w0/\w0<=1000000)(bi:0<=n0/\n0<=1000000000)(hb : -1<=b'/\b'<=1)(hT:F4 κ I 0 p5):eu Tryz.prog κ 307 [.agg #[e7 nd0,va,e7 w0,e7 n0,.slice na num.length nc],.agg #[e7 (nd'),.slice ga gn gc],.agg #[e7 nd,.slice ea es.length ec],e7 u,e7 v,e7 (b')] I (λr J=>∃(a:Option Addr) (c:Nat),r = .tuple #[.agg #[e7 nd',.slice ga gn gc,e7 (w0+b'*(((nbG nd es u).length:Int)+((nbG nd es v).length:Int))),e7 (n0+b'*((p7 nd es u v).length:Int)),.slice a num.length c],e7 ((p7 nd es u v).length:Int),e7 0]/\J=vc 3 (.slice a num.length c) (ah0 b' (p7 nd es u v) u v num)::I):=by
 have bb:=hG.rng
 have bf:0<=u/\u<nd:=hu
 have bj:0<=v/\v<nd:=hv
 have bg:=K1 nd es u
 have bh:=K1 nd es v
 have bc:=bw9 nd es u v
 have bk : -128<=b'*(((nbG nd es u).length:Int)+((nbG nd es v).length:Int))/\b'*(((nbG nd es u).length:Int)+((nbG nd es v).length:Int))<=128:=by rcases (by omega:b' = -1\/b'=0\/b'=1) with h|h|h<;>rw [h]<;>omega
 have bm : -4096<=b'*((p7 nd es u v).length:Int)/\b'*((p7 nd es u v).length:Int)<=4096:=by rcases (by omega:b' = -1\/b'=0\/b'=1) with h|h|h<;>rw [h]<;>omega
 refine Ce6 Tryz.func307 C C ?_
 refine Al<|Ge1 (Av (cs:=[_,_,_,_,_]) C C C) λb1=>Ge1 (Av (cs:=[_,_]) C C C) λb2=>Ge1 (Av (cs:=[_,_]) C C C) λb3=>Ge1 (Aj V5 C) λb4=>Ga C<|Ga C<|Ar<|Al<|Gl2 K0 ?_
 refine Gm C<|Gm C<|G.e (Ab c_ C C<|fr2 (nd:=nd) (u:=u) (v:=v) (A3 hl) hG<|Ba hT Ah) ?_
 rintro _ _ ⟨_,_,⟨ae,ad,rfl,rfl⟩,rfl,rfl⟩
 refine Ga C<|Ar<|A0 (S8 15 12 8 7 6 3 4 5)<|Ax<|A8 mixed<|Ee 25<|Dr 0 C (Bl (vs:=[_,_]) K0) ?_
 refine Dr 1 C (Af di9 C)<|Dr 2 C (Be ef) ?_
 refine Dr 3 C (Ap C)<|Dr 4 C (Bl (vs:=[_,_]) K0) ?_
 refine Dr 5 C (Ap C)<|Dr 7 C (Bl (vs:=[_,_]) K0) ?_
 refine Dr 8 C (Ap C)<|Dr 13 C (Af di8 C)<|Dr 14 C (Be ef) ?_
 refine Dr 15 C (Ap C)<|Dr 16 C (Ap C)<|Dr 17 C (Bn Bw C)<|Dr 18 C (En C C<|by first|(unfold InR;omega)|(have h7:=ab om;unfold InR;omega))<|Dr 19 C (Cv C C<|by first|(unfold InR;omega)|(have h7:=ab om;unfold InR;omega))<|Dr 20 C (Af aw5 C)<|Dr 21 C (Be W4) ?_
 refine C5 (rs:=[6,24]) kr C C<|D5 ?_<|Dl ?_
 ·refine Sc0 C (Ab c_ C C<|Z2 (nd:=nd) (A3 hl) u) ?_
  refine C5 (rs:=[9,24]) kr C C<|D5 ?_<|Dl ?_
  ·refine Sc0 C (Ab c_ C C<|Z2 (nd:=nd) (A3 hl) v) ?_
   refine Dr 10 C (Cv C C<|by first|(unfold InR;omega)|(have h7:=ab om;unfold InR;omega))<|Dr 11 C (En C C<|by first|(unfold InR;omega)|(have h7:=ab om;unfold InR;omega))<|Dr 12 C (Cv C C<|by first|(unfold InR;omega)|(have h7:=ab om;unfold InR;omega))<|C5 (rs:=[22,24]) kr C C<|D5 ?_<|Dl ?_
   ·refine Sc2 C (Ab c_ C C<|ag9 (xs:=num) (A3 hm) om) λax aw=>?_
    refine Dr 23 C (Cn (cells:=[_,_,_,_,_]) V5 Eu fw1 C C)<|Ds1 24<|Se1 C (Aj V5 C) λb9=>?_
    refine Ch kr ?_
    refine Ae 25 C (E7 V5) ?_
    rintro _ _ ⟨rfl,rfl⟩
    refine Ci kr ?_
    refine Ak<|A0 (S6 16 15 12 3 4 5)<|Ax<|Al<|Gm C<|Gr (Bn Bw C)<|Gm C<|Ar<|A7<|B9 (σ:=Nat×(List Int)) (λs=>([(3,e7 u),(4,e7 v),(5,e7<|b'),(12,pt b4),(15,.slice ae (p7 nd es u v).length ad),(16,pt b9),(49,.slice ae (p7 nd es u v).length ad),(50,e7<|(((p7 nd es u v).length:Nat):Int)),(51,e7 ((s.1:Nat):Int))]:Env)) (λs=>e8 b9 [e7 (nd'),.slice ga gn gc,e7<|w0+(b'*(((((nbG nd es u).length:Nat)):Int)+((((nbG nd es v).length:Nat)):Int))),e7<|n0+(b'*(((p7 nd es u v).length:Nat):Int)),.slice ax num.length aw] 45::vc 3 (.slice ax num.length aw) (s.2)::vk 200 ae ad (p7 nd es u v)::e8 b4 [e7 0,.slice none 0 0,e7 0,e7 0,.slice none 0 0] 45::e8 b3 [e7 nd,.slice ea es.length ec] 38::e8 b2 [e7 (nd'),.slice ga gn gc] 38::e8 b1 [e7 nd0,va,e7 w0,e7 n0,.slice na num.length nc] 45::I) (λs=>(s.1<=(p7 nd es u v).length)/\(s.2=(bq2 nd es u v s.1 0).foldl (X7 b') num)) (λs=>(p7 nd es u v).length - s.1) (0,num) ⟨om,rfl⟩ (cx4<|cx4<|Aa Cl Bb) Ai ?_
    rintro ⟨k,out⟩ hp
    dsimp only at hp ⊢
    obtain ⟨hk,ho⟩:=hp
    have a5:out.length=num.length:=by rw [ho];exact J5 _ _
    refine Al<|Gr (Bm C C)<|Ar<|Ax<|Ao C (λau=>?_)<|λau=>?_
    ·refine Bc (Ak<|Ax<|A7<|Al<|Gr (A1 (α:=Pt) (xs:=p7 nd es u v) Bw L9 C C A5 (by first|omega|(have h8:=aa om;omega))<|by first|omega|(have h8:=aa om;omega))<|Gr (C7 (α:=Pt) (xs:=p7 nd es u v) L9 C A5 (by first|omega|(have h8:=aa om;omega))<|by first|omega|(have h8:=aa om;omega))<|Ge1 (Aj L9 C) λa7=>Ge0 (Co L9) ?_)
     refine Ar<|Al<|Gm C<|Gm C<|Gr (B5 B7 ty2 C C om om)<|Gl ef ?_
     refine Gr (B5 B7 ty2 C C om om)<|Gl ef ?_
     refine Gr (Eg (cells:=[_,_,_,_]) bu9 C0 ef C C)<|Gm C<|Ar<|A0 (S11 62 61 3 4 5 12 15 16 49 50 51)<|A7<|B9 (σ:=Nat×(List Int)) (λs=>([(3,e7 u),(4,e7 v),(5,e7<|b'),(12,pt b4),(15,.slice ae (p7 nd es u v).length ad),(16,pt b9),(49,.slice ae (p7 nd es u v).length ad),(50,e7<|(((p7 nd es u v).length:Nat):Int)),(51,e7<|(k:Int)),(61,.agg #[e7 u,e7 v,e7<|(e_ (p7 nd es u v) k).u,e7<|(e_ (p7 nd es u v) k).v]),(62,e7 ((s.1:Nat):Int))]:Env)) (λs=>e8 a7 [e7 ((e_ (p7 nd es u v) k).u),e7<|(e_ (p7 nd es u v) k).v] 200::e8 b9 [e7 (nd'),.slice ga gn gc,e7<|w0+(b'*(((((nbG nd es u).length:Nat)):Int)+((((nbG nd es v).length:Nat)):Int))),e7<|n0+(b'*(((p7 nd es u v).length:Nat):Int)),.slice ax num.length aw] 45::vc 3 (.slice ax num.length aw) (s.2)::vk 200 ae ad (p7 nd es u v)::e8 b4 [e7 0,.slice none 0 0,e7 0,e7 0,.slice none 0 0] 45::e8 b3 [e7 nd,.slice ea es.length ec] 38::e8 b2 [e7 (nd'),.slice ga gn gc] 38::e8 b1 [e7 nd0,va,e7 w0,e7 n0,.slice na num.length nc] 45::I) (λs=>(s.1<=4)/\(s.2=(bq2 nd es u v k s.1).foldl (X7 b') num)) (λs=>4 - s.1) (0,out) ⟨om,ho⟩ (cx4<|cx4<|cx2<|Aa Cl Bb) Ai ?_
     rintro ⟨k2,M⟩ hp
     dsimp only at hp ⊢
     obtain ⟨a6,ah⟩:=hp
     have ay:M.length=num.length:=by rw [ah];exact J5 _ _
     have aa:=λh:k2<4=>aw0 hG hu hv (Bo (xs:=p7 nd es u v) (i:=(k:Int)) om om) _ (Bo (xs:=(N5 u v<|e_ (p7 nd es u v) k)) (i:=(k2:Int)) om<|by show (k2:Int)<4;omega)
     have ab:=λh:k2<4=>ba5 (b':=b') (num:=num) (λw hw=>by rw [av];exact bq1 hG hu hv (k:=k) (j:=k2) (.inl om) w hw) hb a3 (x:=e_ (N5 u v<|e_ (p7 nd es u v) k) (k2:Int)) (by have:=aa h;omega)
     rw [←ah] at ab
     have a4:=az8 (nd:=nd) (es:=es) (u:=u) (v:=v) k k2 om
     refine Al<|Gr (Bm C C)<|Ar<|Ax<|Ao C (λar=>?_)<|λar=>?_
     ·refine Bc (Ak<|Ax<|A7<|Al<|Gr (show j8 _ _ _ _ _ _ (e7<|e_ (N5 u v<|e_ (p7 nd es u v) k) (k2:Int)) from j8.cm7 C0 ef C C om om)<|Ga C<|Ar<|A0 (S12 20 3 4 5 12 15 16 49 50 51 61 62 C C C C C C C C C C C C)<|A6<|Gf aw5 C<|Gl W4 ?_)
      refine Gm C<|Gr (A1 (α:=Int) (xs:=M) Ac ef C C A5 (by first|omega|(have h8:=aa om;omega))<|by first|omega|(have h8:=aa om;omega))<|Gr (B8 (xs:=M) ef C A5 (by first|omega|(have h8:=aa om;omega))<|by first|omega|(have h8:=aa om;omega))<|Gm C<|Gr (Cv C C<|by first|(unfold InR;omega)|(have h7:=ab om;unfold InR;omega))<|Gr (A1 (α:=Int) (xs:=M) Ac ef C C A5 (by first|omega|(have h8:=aa om;omega))<|by first|omega|(have h8:=aa om;omega))<|Ge0 (Cw (α:=Int) (xs:=M) (e:=3) (new:=(e_ M<|e_ (N5 u v<|e_ (p7 nd es u v) k) (k2:Int))+b') ef C C C (by first|omega|(have h8:=aa om;omega)) (by first|omega|(have h8:=aa om;omega)) am) ?_
      exact Bq<|Au<|Ak<|A0 (S11 3 4 5 12 15 16 49 50 51 61 62)<|A6<|Gr (Cv C C<|by first|(unfold InR;omega)|(have h7:=ab om;unfold InR;omega))<|Gm C<|Bq<|Bu ((k2+1),(List.set M (e_ (N5 u v<|e_ (p7 nd es u v) k) (k2:Int)).toNat ((e_ M<|e_ (N5 u v<|e_ (p7 nd es u v) k) (k2:Int))+b')))<|by dsimp only;exact ⟨om,(ar8 (ls:=(N5 u v<|e_ (p7 nd es u v) k)) (by show k2<4;omega) ah)⟩
     exact Cg<|Aw<|Aw<|Bi<|Au<|Ak<|A6<|Gr (Cv C C<|by first|(unfold InR;omega)|(have h7:=ab om;unfold InR;omega))<|Gm C<|Bq<|Bu ((k+1),(M))<|by dsimp only;exact ⟨om,(by rw [ah,show k2=4 by omega,aq6 om])⟩
    refine Cg<|Aw<|Aw<|Bi<|Ak<|Al<|Gr (Bl (vs:=[_,_,_,_,_]) V5) ?_
    refine Gm C<|Gr (Bn Bw C)<|Ge0 (E7 V5) ?_
    refine Ga C<|Ga C<|Ar<|A0 (S3 14 13 12)<|B3 ?_
    have aq:out=ah0 b' (p7 nd es u v) u v num:=by rw [ho,show k=(p7 nd es u v).length by omega];unfold bq2 ah0;rw [Hg,Jw,Gv]
    exact Cs C V5 C C C mm C (vc 3 (.slice ax num.length aw) (ah0 b' (p7 nd es u v) u v num)::I) (by rw [←aq];exact Az) ⟨ax,aw,rfl,rfl⟩
   refine Se1 C (Aj V5 C) λa0=>?_
   refine Ds1 22<|Sc2 C (Ab c_ C C<|ag9 (xs:=num) (A3 hm) om) λao ap=>?_
   refine Dr 23 C (Cn (cells:=[_,_,_,_,_]) V5 Eu fw1 C C)<|Ch kr ?_
   refine Ae 25 C (E7 V5) ?_
   rintro _ _ ⟨rfl,rfl⟩
   refine Ci kr ?_
   refine Ak<|A0 (S6 16 15 12 3 4 5)<|Ax<|Al<|Gm C<|Gr (Bn Bw C)<|Gm C<|Ar<|A7<|B9 (σ:=Nat×(List Int)) (λs=>([(3,e7 u),(4,e7 v),(5,e7<|b'),(12,pt b4),(15,.slice ae (p7 nd es u v).length ad),(16,pt a0),(49,.slice ae (p7 nd es u v).length ad),(50,e7<|(((p7 nd es u v).length:Nat):Int)),(51,e7 ((s.1:Nat):Int))]:Env)) (λs=>vc 3 (.slice ao num.length ap) (s.2)::e8 a0 [e7 (nd'),.slice ga gn gc,e7<|w0+(b'*(((((nbG nd es u).length:Nat)):Int)+((((nbG nd es v).length:Nat)):Int))),e7<|n0+(b'*(((p7 nd es u v).length:Nat):Int)),.slice ao num.length ap] 45::vk 200 ae ad (p7 nd es u v)::e8 b4 [e7 0,.slice none 0 0,e7 0,e7 0,.slice none 0 0] 45::e8 b3 [e7 nd,.slice ea es.length ec] 38::e8 b2 [e7 (nd'),.slice ga gn gc] 38::e8 b1 [e7 nd0,va,e7 w0,e7 n0,.slice na num.length nc] 45::I) (λs=>(s.1<=(p7 nd es u v).length)/\(s.2=(bq2 nd es u v s.1 0).foldl (X7 b') num)) (λs=>(p7 nd es u v).length - s.1) (0,num) ⟨om,rfl⟩ (cx4<|cx4<|Aa Cl Bb) Ai ?_
   rintro ⟨k,out⟩ hp
   dsimp only at hp ⊢
   obtain ⟨hk,ho⟩:=hp
   have a5:out.length=num.length:=by rw [ho];exact J5 _ _
   refine Al<|Gr (Bm C C)<|Ar<|Ax<|Ao C (λau=>?_)<|λau=>?_
   ·refine Bc (Ak<|Ax<|A7<|Al<|Gr (A1 (α:=Pt) (xs:=p7 nd es u v) Bw L9 C C A5 (by first|omega|(have h8:=aa om;omega))<|by first|omega|(have h8:=aa om;omega))<|Gr (C7 (α:=Pt) (xs:=p7 nd es u v) L9 C A5 (by first|omega|(have h8:=aa om;omega))<|by first|omega|(have h8:=aa om;omega))<|Ge1 (Aj L9 C) λba=>Ge0 (Co L9) ?_)
    refine Ar<|Al<|Gm C<|Gm C<|Gr (B5 B7 ty2 C C om om)<|Gl ef ?_
    refine Gr (B5 B7 ty2 C C om om)<|Gl ef ?_
    refine Gr (Eg (cells:=[_,_,_,_]) bu9 C0 ef C C)<|Gm C<|Ar<|A0 (S11 62 61 3 4 5 12 15 16 49 50 51)<|A7<|B9 (σ:=Nat×(List Int)) (λs=>([(3,e7 u),(4,e7 v),(5,e7<|b'),(12,pt b4),(15,.slice ae (p7 nd es u v).length ad),(16,pt a0),(49,.slice ae (p7 nd es u v).length ad),(50,e7<|(((p7 nd es u v).length:Nat):Int)),(51,e7<|(k:Int)),(61,.agg #[e7 u,e7 v,e7<|(e_ (p7 nd es u v) k).u,e7<|(e_ (p7 nd es u v) k).v]),(62,e7 ((s.1:Nat):Int))]:Env)) (λs=>e8 ba [e7 ((e_ (p7 nd es u v) k).u),e7<|(e_ (p7 nd es u v) k).v] 200::vc 3 (.slice ao num.length ap) (s.2)::e8 a0 [e7 (nd'),.slice ga gn gc,e7<|w0+(b'*(((((nbG nd es u).length:Nat)):Int)+((((nbG nd es v).length:Nat)):Int))),e7<|n0+(b'*(((p7 nd es u v).length:Nat):Int)),.slice ao num.length ap] 45::vk 200 ae ad (p7 nd es u v)::e8 b4 [e7 0,.slice none 0 0,e7 0,e7 0,.slice none 0 0] 45::e8 b3 [e7 nd,.slice ea es.length ec] 38::e8 b2 [e7 (nd'),.slice ga gn gc] 38::e8 b1 [e7 nd0,va,e7 w0,e7 n0,.slice na num.length nc] 45::I) (λs=>(s.1<=4)/\(s.2=(bq2 nd es u v k s.1).foldl (X7 b') num)) (λs=>4 - s.1) (0,out) ⟨om,ho⟩ (cx4<|cx4<|cx2<|Aa Cl Bb) Ai ?_
    rintro ⟨k2,M⟩ hp
    dsimp only at hp ⊢
    obtain ⟨a6,ah⟩:=hp
    have ay:M.length=num.length:=by rw [ah];exact J5 _ _
    have aa:=λh:k2<4=>aw0 hG hu hv (Bo (xs:=p7 nd es u v) (i:=(k:Int)) om om) _ (Bo (xs:=(N5 u v<|e_ (p7 nd es u v) k)) (i:=(k2:Int)) om<|by show (k2:Int)<4;omega)
    have ab:=λh:k2<4=>ba5 (b':=b') (num:=num) (λw hw=>by rw [av];exact bq1 hG hu hv (k:=k) (j:=k2) (.inl om) w hw) hb a3 (x:=e_ (N5 u v<|e_ (p7 nd es u v) k) (k2:Int)) (by have:=aa h;omega)
    rw [←ah] at ab
    have a4:=az8 (nd:=nd) (es:=es) (u:=u) (v:=v) k k2 om
    refine Al<|Gr (Bm C C)<|Ar<|Ax<|Ao C (λar=>?_)<|λar=>?_
    ·refine Bc (Ak<|Ax<|A7<|Al<|Gr (show j8 _ _ _ _ _ _ (e7<|e_ (N5 u v<|e_ (p7 nd es u v) k) (k2:Int)) from j8.cm7 C0 ef C C om om)<|Ga C<|Ar<|A0 (S12 20 3 4 5 12 15 16 49 50 51 61 62 C C C C C C C C C C C C)<|A6<|Gf aw5 C<|Gl W4 ?_)
     refine Gm C<|Gr (A1 (α:=Int) (xs:=M) Ac ef C C A5 (by first|omega|(have h8:=aa om;omega))<|by first|omega|(have h8:=aa om;omega))<|Gr (B8 (xs:=M) ef C A5 (by first|omega|(have h8:=aa om;omega))<|by first|omega|(have h8:=aa om;omega))<|Gm C<|Gr (Cv C C<|by first|(unfold InR;omega)|(have h7:=ab om;unfold InR;omega))<|Gr (A1 (α:=Int) (xs:=M) Ac ef C C A5 (by first|omega|(have h8:=aa om;omega))<|by first|omega|(have h8:=aa om;omega))<|Ge0 (Cw (α:=Int) (xs:=M) (e:=3) (new:=(e_ M<|e_ (N5 u v<|e_ (p7 nd es u v) k) (k2:Int))+b') ef C C C (by first|omega|(have h8:=aa om;omega)) (by first|omega|(have h8:=aa om;omega)) am) ?_
     exact Bq<|Au<|Ak<|A0 (S11 3 4 5 12 15 16 49 50 51 61 62)<|A6<|Gr (Cv C C<|by first|(unfold InR;omega)|(have h7:=ab om;unfold InR;omega))<|Gm C<|Bq<|Bu ((k2+1),(List.set M (e_ (N5 u v<|e_ (p7 nd es u v) k) (k2:Int)).toNat ((e_ M<|e_ (N5 u v<|e_ (p7 nd es u v) k) (k2:Int))+b')))<|by dsimp only;exact ⟨om,(ar8 (ls:=(N5 u v<|e_ (p7 nd es u v) k)) (by show k2<4;omega) ah)⟩
    exact Cg<|Aw<|Aw<|Bi<|Au<|Ak<|A6<|Gr (Cv C C<|by first|(unfold InR;omega)|(have h7:=ab om;unfold InR;omega))<|Gm C<|Bq<|Bu ((k+1),(M))<|by dsimp only;exact ⟨om,(by rw [ah,show k2=4 by omega,aq6 om])⟩
   refine Cg<|Aw<|Aw<|Bi<|Ak<|Al<|Gr (Bl (vs:=[_,_,_,_,_]) V5) ?_
   refine Gm C<|Gr (Bn Bw C)<|Ge0 (E7 V5) ?_
   refine Ga C<|Ga C<|Ar<|A0 (S3 14 13 12)<|B3 ?_
   have aq:out=ah0 b' (p7 nd es u v) u v num:=by rw [ho,show k=(p7 nd es u v).length by omega];unfold bq2 ah0;rw [Hg,Jw,Gv]
   exact Cs C V5 C C C mm C (vc 3 (.slice ao num.length ap) (ah0 b' (p7 nd es u v) u v num)::I) (by rw [←aq];exact Az) ⟨ao,ap,rfl,rfl⟩
  refine Se1 C (Aj V5 C) λaz=>?_
  refine Ds1 9<|Sc0 C (Ab c_ C C<|Z2 (nd:=nd) (A3 hl) v) ?_
  refine Dr 10 C (Cv C C<|by first|(unfold InR;omega)|(have h7:=ab om;unfold InR;omega))<|Dr 11 C (En C C<|by first|(unfold InR;omega)|(have h7:=ab om;unfold InR;omega))<|Dr 12 C (Cv C C<|by first|(unfold InR;omega)|(have h7:=ab om;unfold InR;omega))<|Ds1 22<|Sc2 C (Ab c_ C C<|ag9 (xs:=num) (A3 hm) om) λaj ai=>?_
  refine Dr 23 C (Cn (cells:=[_,_,_,_,_]) V5 Eu fw1 C C)<|Ch kr ?_
  refine Ae 25 C (E7 V5) ?_
  rintro _ _ ⟨rfl,rfl⟩
  refine Ci kr ?_
  refine Ak<|A0 (S6 16 15 12 3 4 5)<|Ax<|Al<|Gm C<|Gr (Bn Bw C)<|Gm C<|Ar<|A7<|B9 (σ:=Nat×(List Int)) (λs=>([(3,e7 u),(4,e7 v),(5,e7<|b'),(12,pt b4),(15,.slice ae (p7 nd es u v).length ad),(16,pt az),(49,.slice ae (p7 nd es u v).length ad),(50,e7<|(((p7 nd es u v).length:Nat):Int)),(51,e7 ((s.1:Nat):Int))]:Env)) (λs=>vc 3 (.slice aj num.length ai) (s.2)::e8 az [e7 (nd'),.slice ga gn gc,e7<|w0+(b'*(((((nbG nd es u).length:Nat)):Int)+((((nbG nd es v).length:Nat)):Int))),e7<|n0+(b'*(((p7 nd es u v).length:Nat):Int)),.slice aj num.length ai] 45::vk 200 ae ad (p7 nd es u v)::e8 b4 [e7 0,.slice none 0 0,e7 0,e7 0,.slice none 0 0] 45::e8 b3 [e7 nd,.slice ea es.length ec] 38::e8 b2 [e7 (nd'),.slice ga gn gc] 38::e8 b1 [e7 nd0,va,e7 w0,e7 n0,.slice na num.length nc] 45::I) (λs=>(s.1<=(p7 nd es u v).length)/\(s.2=(bq2 nd es u v s.1 0).foldl (X7 b') num)) (λs=>(p7 nd es u v).length - s.1) (0,num) ⟨om,rfl⟩ (cx4<|cx4<|Aa Cl Bb) Ai ?_
  rintro ⟨k,out⟩ hp
  dsimp only at hp ⊢
  obtain ⟨hk,ho⟩:=hp
  have a5:out.length=num.length:=by rw [ho];exact J5 _ _
  refine Al<|Gr (Bm C C)<|Ar<|Ax<|Ao C (λau=>?_)<|λau=>?_
  ·refine Bc (Ak<|Ax<|A7<|Al<|Gr (A1 (α:=Pt) (xs:=p7 nd es u v) Bw L9 C C A5 (by first|omega|(have h8:=aa om;omega))<|by first|omega|(have h8:=aa om;omega))<|Gr (C7 (α:=Pt) (xs:=p7 nd es u v) L9 C A5 (by first|omega|(have h8:=aa om;omega))<|by first|omega|(have h8:=aa om;omega))<|Ge1 (Aj L9 C) λa9=>Ge0 (Co L9) ?_)
   refine Ar<|Al<|Gm C<|Gm C<|Gr (B5 B7 ty2 C C om om)<|Gl ef ?_
   refine Gr (B5 B7 ty2 C C om om)<|Gl ef ?_
   refine Gr (Eg (cells:=[_,_,_,_]) bu9 C0 ef C C)<|Gm C<|Ar<|A0 (S11 62 61 3 4 5 12 15 16 49 50 51)<|A7<|B9 (σ:=Nat×(List Int)) (λs=>([(3,e7 u),(4,e7 v),(5,e7<|b'),(12,pt b4),(15,.slice ae (p7 nd es u v).length ad),(16,pt az),(49,.slice ae (p7 nd es u v).length ad),(50,e7<|(((p7 nd es u v).length:Nat):Int)),(51,e7<|(k:Int)),(61,.agg #[e7 u,e7 v,e7<|(e_ (p7 nd es u v) k).u,e7<|(e_ (p7 nd es u v) k).v]),(62,e7 ((s.1:Nat):Int))]:Env)) (λs=>e8 a9 [e7 ((e_ (p7 nd es u v) k).u),e7<|(e_ (p7 nd es u v) k).v] 200::vc 3 (.slice aj num.length ai) (s.2)::e8 az [e7 (nd'),.slice ga gn gc,e7<|w0+(b'*(((((nbG nd es u).length:Nat)):Int)+((((nbG nd es v).length:Nat)):Int))),e7<|n0+(b'*(((p7 nd es u v).length:Nat):Int)),.slice aj num.length ai] 45::vk 200 ae ad (p7 nd es u v)::e8 b4 [e7 0,.slice none 0 0,e7 0,e7 0,.slice none 0 0] 45::e8 b3 [e7 nd,.slice ea es.length ec] 38::e8 b2 [e7 (nd'),.slice ga gn gc] 38::e8 b1 [e7 nd0,va,e7 w0,e7 n0,.slice na num.length nc] 45::I) (λs=>(s.1<=4)/\(s.2=(bq2 nd es u v k s.1).foldl (X7 b') num)) (λs=>4 - s.1) (0,out) ⟨om,ho⟩ (cx4<|cx4<|cx2<|Aa Cl Bb) Ai ?_
   rintro ⟨k2,M⟩ hp
   dsimp only at hp ⊢
   obtain ⟨a6,ah⟩:=hp
   have ay:M.length=num.length:=by rw [ah];exact J5 _ _
   have aa:=λh:k2<4=>aw0 hG hu hv (Bo (xs:=p7 nd es u v) (i:=(k:Int)) om om) _ (Bo (xs:=(N5 u v<|e_ (p7 nd es u v) k)) (i:=(k2:Int)) om<|by show (k2:Int)<4;omega)
   have ab:=λh:k2<4=>ba5 (b':=b') (num:=num) (λw hw=>by rw [av];exact bq1 hG hu hv (k:=k) (j:=k2) (.inl om) w hw) hb a3 (x:=e_ (N5 u v<|e_ (p7 nd es u v) k) (k2:Int)) (by have:=aa h;omega)
   rw [←ah] at ab
   have a4:=az8 (nd:=nd) (es:=es) (u:=u) (v:=v) k k2 om
   refine Al<|Gr (Bm C C)<|Ar<|Ax<|Ao C (λar=>?_)<|λar=>?_
   ·refine Bc (Ak<|Ax<|A7<|Al<|Gr (show j8 _ _ _ _ _ _ (e7<|e_ (N5 u v<|e_ (p7 nd es u v) k) (k2:Int)) from j8.cm7 C0 ef C C om om)<|Ga C<|Ar<|A0 (S12 20 3 4 5 12 15 16 49 50 51 61 62 C C C C C C C C C C C C)<|A6<|Gf aw5 C<|Gl W4 ?_)
    refine Gm C<|Gr (A1 (α:=Int) (xs:=M) Ac ef C C A5 (by first|omega|(have h8:=aa om;omega))<|by first|omega|(have h8:=aa om;omega))<|Gr (B8 (xs:=M) ef C A5 (by first|omega|(have h8:=aa om;omega))<|by first|omega|(have h8:=aa om;omega))<|Gm C<|Gr (Cv C C<|by first|(unfold InR;omega)|(have h7:=ab om;unfold InR;omega))<|Gr (A1 (α:=Int) (xs:=M) Ac ef C C A5 (by first|omega|(have h8:=aa om;omega))<|by first|omega|(have h8:=aa om;omega))<|Ge0 (Cw (α:=Int) (xs:=M) (e:=3) (new:=(e_ M<|e_ (N5 u v<|e_ (p7 nd es u v) k) (k2:Int))+b') ef C C C (by first|omega|(have h8:=aa om;omega)) (by first|omega|(have h8:=aa om;omega)) am) ?_
    exact Bq<|Au<|Ak<|A0 (S11 3 4 5 12 15 16 49 50 51 61 62)<|A6<|Gr (Cv C C<|by first|(unfold InR;omega)|(have h7:=ab om;unfold InR;omega))<|Gm C<|Bq<|Bu ((k2+1),(List.set M (e_ (N5 u v<|e_ (p7 nd es u v) k) (k2:Int)).toNat ((e_ M<|e_ (N5 u v<|e_ (p7 nd es u v) k) (k2:Int))+b')))<|by dsimp only;exact ⟨om,(ar8 (ls:=(N5 u v<|e_ (p7 nd es u v) k)) (by show k2<4;omega) ah)⟩
   exact Cg<|Aw<|Aw<|Bi<|Au<|Ak<|A6<|Gr (Cv C C<|by first|(unfold InR;omega)|(have h7:=ab om;unfold InR;omega))<|Gm C<|Bq<|Bu ((k+1),(M))<|by dsimp only;exact ⟨om,(by rw [ah,show k2=4 by omega,aq6 om])⟩
  refine Cg<|Aw<|Aw<|Bi<|Ak<|Al<|Gr (Bl (vs:=[_,_,_,_,_]) V5) ?_
  refine Gm C<|Gr (Bn Bw C)<|Ge0 (E7 V5) ?_
  refine Ga C<|Ga C<|Ar<|A0 (S3 14 13 12)<|B3 ?_
  have aq:out=ah0 b' (p7 nd es u v) u v num:=by rw [ho,show k=(p7 nd es u v).length by omega];unfold bq2 ah0;rw [Hg,Jw,Gv]
  exact Cs C V5 C C C mm C (vc 3 (.slice aj num.length ai) (ah0 b' (p7 nd es u v) u v num)::I) (by rw [←aq];exact Az) ⟨aj,ai,rfl,rfl⟩
 refine Se1 C (Aj V5 C) λa1=>?_
 refine Ds1 6<|Sc0 C (Ab c_ C C<|Z2 (nd:=nd) (A3 hl) u) ?_
 refine Ds1 9<|Sc0 C (Ab c_ C C<|Z2 (nd:=nd) (A3 hl) v) ?_
 refine Dr 10 C (Cv C C<|by first|(unfold InR;omega)|(have h7:=ab om;unfold InR;omega))<|Dr 11 C (En C C<|by first|(unfold InR;omega)|(have h7:=ab om;unfold InR;omega))<|Dr 12 C (Cv C C<|by first|(unfold InR;omega)|(have h7:=ab om;unfold InR;omega))<|Ds1 22<|Sc2 C (Ab c_ C C<|ag9 (xs:=num) (A3 hm) om) λan ak=>?_
 refine Dr 23 C (Cn (cells:=[_,_,_,_,_]) V5 Eu fw1 C C)<|Ch kr ?_
 refine Ae 25 C (E7 V5) ?_
 rintro _ _ ⟨rfl,rfl⟩
 refine Ci kr ?_
 refine Ak<|A0 (S6 16 15 12 3 4 5)<|Ax<|Al<|Gm C<|Gr (Bn Bw C)<|Gm C<|Ar<|A7<|B9 (σ:=Nat×(List Int)) (λs=>([(3,e7 u),(4,e7 v),(5,e7<|b'),(12,pt b4),(15,.slice ae (p7 nd es u v).length ad),(16,pt a1),(49,.slice ae (p7 nd es u v).length ad),(50,e7<|(((p7 nd es u v).length:Nat):Int)),(51,e7 ((s.1:Nat):Int))]:Env)) (λs=>vc 3 (.slice an num.length ak) (s.2)::e8 a1 [e7 (nd'),.slice ga gn gc,e7<|w0+(b'*(((((nbG nd es u).length:Nat)):Int)+((((nbG nd es v).length:Nat)):Int))),e7<|n0+(b'*(((p7 nd es u v).length:Nat):Int)),.slice an num.length ak] 45::vk 200 ae ad (p7 nd es u v)::e8 b4 [e7 0,.slice none 0 0,e7 0,e7 0,.slice none 0 0] 45::e8 b3 [e7 nd,.slice ea es.length ec] 38::e8 b2 [e7 (nd'),.slice ga gn gc] 38::e8 b1 [e7 nd0,va,e7 w0,e7 n0,.slice na num.length nc] 45::I) (λs=>(s.1<=(p7 nd es u v).length)/\(s.2=(bq2 nd es u v s.1 0).foldl (X7 b') num)) (λs=>(p7 nd es u v).length - s.1) (0,num) ⟨om,rfl⟩ (cx4<|cx4<|Aa Cl Bb) Ai ?_
 rintro ⟨k,out⟩ hp
 dsimp only at hp ⊢
 obtain ⟨hk,ho⟩:=hp
 have a5:out.length=num.length:=by rw [ho];exact J5 _ _
 refine Al<|Gr (Bm C C)<|Ar<|Ax<|Ao C (λau=>?_)<|λau=>?_
 ·refine Bc (Ak<|Ax<|A7<|Al<|Gr (A1 (α:=Pt) (xs:=p7 nd es u v) Bw L9 C C A5 (by first|omega|(have h8:=aa om;omega))<|by first|omega|(have h8:=aa om;omega))<|Gr (C7 (α:=Pt) (xs:=p7 nd es u v) L9 C A5 (by first|omega|(have h8:=aa om;omega))<|by first|omega|(have h8:=aa om;omega))<|Ge1 (Aj L9 C) λa8=>Ge0 (Co L9) ?_)
  refine Ar<|Al<|Gm C<|Gm C<|Gr (B5 B7 ty2 C C om om)<|Gl ef ?_
  refine Gr (B5 B7 ty2 C C om om)<|Gl ef ?_
  refine Gr (Eg (cells:=[_,_,_,_]) bu9 C0 ef C C)<|Gm C<|Ar<|A0 (S11 62 61 3 4 5 12 15 16 49 50 51)<|A7<|B9 (σ:=Nat×(List Int)) (λs=>([(3,e7 u),(4,e7 v),(5,e7<|b'),(12,pt b4),(15,.slice ae (p7 nd es u v).length ad),(16,pt a1),(49,.slice ae (p7 nd es u v).length ad),(50,e7<|(((p7 nd es u v).length:Nat):Int)),(51,e7<|(k:Int)),(61,.agg #[e7 u,e7 v,e7<|(e_ (p7 nd es u v) k).u,e7<|(e_ (p7 nd es u v) k).v]),(62,e7 ((s.1:Nat):Int))]:Env)) (λs=>e8 a8 [e7 ((e_ (p7 nd es u v) k).u),e7<|(e_ (p7 nd es u v) k).v] 200::vc 3 (.slice an num.length ak) (s.2)::e8 a1 [e7 (nd'),.slice ga gn gc,e7<|w0+(b'*(((((nbG nd es u).length:Nat)):Int)+((((nbG nd es v).length:Nat)):Int))),e7<|n0+(b'*(((p7 nd es u v).length:Nat):Int)),.slice an num.length ak] 45::vk 200 ae ad (p7 nd es u v)::e8 b4 [e7 0,.slice none 0 0,e7 0,e7 0,.slice none 0 0] 45::e8 b3 [e7 nd,.slice ea es.length ec] 38::e8 b2 [e7 (nd'),.slice ga gn gc] 38::e8 b1 [e7 nd0,va,e7 w0,e7 n0,.slice na num.length nc] 45::I) (λs=>(s.1<=4)/\(s.2=(bq2 nd es u v k s.1).foldl (X7 b') num)) (λs=>4 - s.1) (0,out) ⟨om,ho⟩ (cx4<|cx4<|cx2<|Aa Cl Bb) Ai ?_
  rintro ⟨k2,M⟩ hp
  dsimp only at hp ⊢
  obtain ⟨a6,ah⟩:=hp
  have ay:M.length=num.length:=by rw [ah];exact J5 _ _
  have aa:=λh:k2<4=>aw0 hG hu hv (Bo (xs:=p7 nd es u v) (i:=(k:Int)) om om) _ (Bo (xs:=(N5 u v<|e_ (p7 nd es u v) k)) (i:=(k2:Int)) om<|by show (k2:Int)<4;omega)
  have ab:=λh:k2<4=>ba5 (b':=b') (num:=num) (λw hw=>by rw [av];exact bq1 hG hu hv (k:=k) (j:=k2) (.inl om) w hw) hb a3 (x:=e_ (N5 u v<|e_ (p7 nd es u v) k) (k2:Int)) (by have:=aa h;omega)
  rw [←ah] at ab
  have a4:=az8 (nd:=nd) (es:=es) (u:=u) (v:=v) k k2 om
  refine Al<|Gr (Bm C C)<|Ar<|Ax<|Ao C (λar=>?_)<|λar=>?_
  ·refine Bc (Ak<|Ax<|A7<|Al<|Gr (show j8 _ _ _ _ _ _ (e7<|e_ (N5 u v<|e_ (p7 nd es u v) k) (k2:Int)) from j8.cm7 C0 ef C C om om)<|Ga C<|Ar<|A0 (S12 20 3 4 5 12 15 16 49 50 51 61 62 C C C C C C C C C C C C)<|A6<|Gf aw5 C<|Gl W4 ?_)
   refine Gm C<|Gr (A1 (α:=Int) (xs:=M) Ac ef C C A5 (by first|omega|(have h8:=aa om;omega))<|by first|omega|(have h8:=aa om;omega))<|Gr (B8 (xs:=M) ef C A5 (by first|omega|(have h8:=aa om;omega))<|by first|omega|(have h8:=aa om;omega))<|Gm C<|Gr (Cv C C<|by first|(unfold InR;omega)|(have h7:=ab om;unfold InR;omega))<|Gr (A1 (α:=Int) (xs:=M) Ac ef C C A5 (by first|omega|(have h8:=aa om;omega))<|by first|omega|(have h8:=aa om;omega))<|Ge0 (Cw (α:=Int) (xs:=M) (e:=3) (new:=(e_ M<|e_ (N5 u v<|e_ (p7 nd es u v) k) (k2:Int))+b') ef C C C (by first|omega|(have h8:=aa om;omega)) (by first|omega|(have h8:=aa om;omega)) am) ?_
   exact Bq<|Au<|Ak<|A0 (S11 3 4 5 12 15 16 49 50 51 61 62)<|A6<|Gr (Cv C C<|by first|(unfold InR;omega)|(have h7:=ab om;unfold InR;omega))<|Gm C<|Bq<|Bu ((k2+1),(List.set M (e_ (N5 u v<|e_ (p7 nd es u v) k) (k2:Int)).toNat ((e_ M<|e_ (N5 u v<|e_ (p7 nd es u v) k) (k2:Int))+b')))<|by dsimp only;exact ⟨om,(ar8 (ls:=(N5 u v<|e_ (p7 nd es u v) k)) (by show k2<4;omega) ah)⟩
  exact Cg<|Aw<|Aw<|Bi<|Au<|Ak<|A6<|Gr (Cv C C<|by first|(unfold InR;omega)|(have h7:=ab om;unfold InR;omega))<|Gm C<|Bq<|Bu ((k+1),(M))<|by dsimp only;exact ⟨om,(by rw [ah,show k2=4 by omega,aq6 om])⟩
 refine Cg<|Aw<|Aw<|Bi<|Ak<|Al<|Gr (Bl (vs:=[_,_,_,_,_]) V5) ?_
 refine Gm C<|Gr (Bn Bw C)<|Ge0 (E7 V5) ?_
 refine Ga C<|Ga C<|Ar<|A0 (S3 14 13 12)<|B3 ?_
 have aq:out=ah0 b' (p7 nd es u v) u v num:=by rw [ho,show k=(p7 nd es u v).length by omega];unfold bq2 ah0;rw [Hg,Jw,Gv]
 exact Cs C V5 C C C mm C (vc 3 (.slice an num.length ak) (ah0 b' (p7 nd es u v) u v num)::I) (by rw [←aq];exact Az) ⟨an,ak,rfl,rfl⟩
end Go.Sl
namespace Go.Sl
open Go.Proofs
set_option maxRecDepth 4000
variable{w:Nat}{out:List Int}{es':List Pt}{u v:Int}{κ:Ctx}{I:List Item}{va:Value}
attribute [local irreducible] W G V D A j8 Eff
theorem gd0:tyF Tryz.prog 218=some (4096,true,32768,cells (replicate 4096 (0:Int))):=by kernel_rfl
theorem au8(f:Nat->Bool):∀n:Nat,0<=p8 n (λx=>ind (f x))/\p8 n (λx=>ind (f x))<=(n:Int)
 |0=>by simp [p8]
 |n+1=>by
  have h1:=au8 f n
  have M:0<=ind (f n)/\ind (f n)<=1:=by rcases fi6 (f n) with h|h<;>omega
  simp only [p8];omega
theorem ay0{l:List Int}{p:Nat}(h:l.Nodup)(hp:p<l.length):e_ l p∉l.take p:=λhm=>by
 have M:=h.sublist (Lf (p+1) l)
 rw [Ca l p hp] at M
 exact (Mw.1 M).2.2 _ hm _ (Gh.2 rfl) rfl
section
variable {nd:Int}{es:List Pt}{tb:List Int}{k p q:Nat}
def coK(nd:Int)(es:List Pt)(k i j:Nat):Int:=if i=j then 0 else p8 k λx=>ind (N2 nd es x i&&N2 nd es x j)
theorem fa0(k i j:Nat):coK nd es (k+1) i j=coK nd es k i j+ind (decide (i≠j/\(i:Int)∈nbG nd es (k:Int)/\(j:Int)∈nbG nd es (k:Int))):=by
 unfold coK
 by_cases h:i=j
 ·rw [B_ h,B_ h,D_<|λq=>q.1 h];rfl
 rw [An h,An h]
 show p8 k _+ind _=_
 congr 2
 unfold N2
 rw [←Bool.decide_and,Fw]
 exact ⟨λq=>⟨h,q⟩,λq=>q.2⟩
theorem fz6(k i j:Nat):0<=coK nd es k i j/\coK nd es k i j<=(k:Int):=by
 unfold coK
 split
 ·omega
 exact au8 _ k
theorem fo3(M:s8 nd es)(i j:Nat):coK nd es nd.toNat i j=coN nd.toNat (N2 nd es) i j:=by
 unfold coK coN
 split
 ·rfl
 exact Bz _ λx _=>by rw [(ag2 M).sym i x,(ag2 M).sym j x]
theorem fi8(n:Nat)(e:Nat->Nat->Bool)(i j:Nat):0<=coN n e i j/\coN n e i j<=(n:Int):=by
 unfold coN
 split
 ·omega
 exact au8 _ n
structure ba8 (nd:Int) (es:List Pt) (k p q:Nat) (tb:List Int):Prop where
 len:tb.length=4096
 val:∀i j:Nat,i<64->j<64->e_ tb ((i:Int)*64+(j:Int))=coK nd es k i j+ind (decide<|i≠j/\(((i:Int)∈(nbG nd es (k:Int)).take p/\(j:Int)∈nbG nd es (k:Int))\/((i:Int)=e_ (nbG nd es (k:Int)) (p:Int)/\(j:Int)∈(nbG nd es (k:Int)).take q)))
theorem ba8.zero:ba8 nd es 0 0 0 (replicate 4096 (0:Int)):=⟨Gc,λi j hi hj=>by
 have h1:coK nd es 0 i j=0:=by unfold coK;split<;>rfl
 have M:((i:Int)*64+(j:Int))=((i*64+j:Nat):Int):=by omega
 rw [h1,E6,An (by rintro ⟨_,⟨q,_⟩|⟨_,q⟩⟩<;>cases q),M,Ct _ _ (by rw [Gc];omega),Ly];rfl⟩
theorem ba0(M:s8 nd es){x:Int}{p:Nat}(hp:p<(nbG nd es x).length):0<=e_ (nbG nd es x) p/\e_ (nbG nd es x) p<nd/\nd<=64:=by
 have h1:=N4 M (Bo (xs:=nbG nd es x) (i:=(p:Int)) om om)
 have h2:=M.rng
 omega
theorem ba8.yes(hG:s8 nd es)(h:ba8 nd es k p q tb)(hp:p<(nbG nd es (k:Int)).length)(hq:q<(nbG nd es (k:Int)).length)(ab:e_ (nbG nd es (k:Int)) (p:Int)≠e_ (nbG nd es (k:Int)) (q:Int)) :
  ba8 nd es k p (q+1) (List.set tb (e_ (nbG nd es (k:Int)) (p:Int)*64+e_ (nbG nd es (k:Int)) (q:Int)).toNat (e_ tb (e_ (nbG nd es (k:Int)) (p:Int)*64+e_ (nbG nd es (k:Int)) (q:Int))+1)):=by
 have h1:=ay0 (ab9 nd es (k:Int)) hp
 have h2:=ay0 (ab9 nd es (k:Int)) hq
 have ra:=ba0 hG hp
 have rb:=ba0 hG hq
 have ah:=Bo (xs:=nbG nd es (k:Int)) (i:=(q:Int)) om om
 have ad:=Ca (nbG nd es (k:Int)) q hq
 have hv:=h.val
 have aa:=h.len
 refine ⟨by rw [Fs];exact aa,λi j hi hj=>?_⟩
 generalize e_ (nbG nd es (k:Int)) (p:Int)=a at h1 ra ab hv ⊢
 generalize e_ (nbG nd es (k:Int)) (q:Int)=b at h2 rb ah ad ab ⊢
 rw [Ei _ _ _ _ om om (by rw [aa];omega),ad]
 by_cases e:a*64+b=(i:Int)*64+(j:Int)
 ·have ei:(i:Int)=a:=by omega
  have ej:(j:Int)=b:=by omega
  have ae:i≠j:=λq=>ab om
  rw [B_ e,e,hv i j hi hj,E6,E6,An,B_ ⟨ae,.inr ⟨ei,Mc _<|Gh.2 ej⟩⟩]
  ·omega
  rintro ⟨_,⟨M,_⟩|⟨_,M⟩⟩
  ·exact h1<|ei▸M
  exact h2<|ej▸M
 rw [An e,hv i j hi hj]
 congr 2
 rw [Fw,Gw,Gh]
 constructor
 ·rintro ⟨M,h4|h4⟩
  ·exact ⟨M,.inl h4⟩
  exact ⟨M,.inr ⟨h4.1,.inl h4.2⟩⟩
 rintro ⟨M,h4|⟨h4,h5|h5⟩⟩
 ·exact ⟨M,.inl h4⟩
 ·exact ⟨M,.inr ⟨h4,h5⟩⟩
 exact absurd (by rw [h4,h5]) e
theorem ba8.no(h:ba8 nd es k p q tb)(hq:q<(nbG nd es (k:Int)).length)(he:e_ (nbG nd es (k:Int)) (p:Int)=e_ (nbG nd es (k:Int)) (q:Int)):ba8 nd es k p (q+1) tb:=⟨h.len,λi j hi hj=>by
 rw [h.val i j hi hj,Ca (nbG nd es (k:Int)) q hq]
 congr 2
 rw [Fw,Gw,Gh]
 constructor
 ·rintro ⟨M,h4|h4⟩
  ·exact ⟨M,.inl h4⟩
  exact ⟨M,.inr ⟨h4.1,.inl h4.2⟩⟩
 rintro ⟨M,h4|⟨h4,h5|h5⟩⟩
 ·exact ⟨M,.inl h4⟩
 ·exact ⟨M,.inr ⟨h4,h5⟩⟩
 exact absurd om M⟩
theorem ba8.row(h:ba8 nd es k p (nbG nd es (k:Int)).length tb)(hp:p<(nbG nd es (k:Int)).length):ba8 nd es k (p+1) 0 tb:=⟨h.len,λi j hi hj=>by
 rw [h.val i j hi hj,Ca (nbG nd es (k:Int)) p hp,Hg,Jw]
 congr 2
 rw [Fw,Gw,Gh]
 constructor
 ·rintro ⟨M,h4|h4⟩
  ·exact ⟨M,.inl ⟨.inl h4.1,h4.2⟩⟩
  exact ⟨M,.inl ⟨.inr h4.1,h4.2⟩⟩
 rintro ⟨M,⟨h4|h4,h5⟩|⟨_,h5⟩⟩
 ·exact ⟨M,.inl ⟨h4,h5⟩⟩
 ·exact ⟨M,.inr ⟨h4,h5⟩⟩
 cases h5⟩
theorem ba8.node(h:ba8 nd es k (nbG nd es (k:Int)).length 0 tb):ba8 nd es (k+1) 0 0 tb:=⟨h.len,λi j hi hj=>by
 rw [h.val i j hi hj,fa0,E6,E6,E6]
 by_cases hA:i≠j/\(i:Int)∈nbG nd es (k:Int)/\(j:Int)∈nbG nd es (k:Int)
 ·rw [B_ ⟨hA.1,.inl ⟨by rw [Hg];exact hA.2.1,hA.2.2⟩⟩,B_ hA,An<|by rintro ⟨_,⟨q,_⟩|⟨_,q⟩⟩<;>cases q];omega
 rw [An (by rintro ⟨h3,⟨M,h5⟩|⟨_,q⟩⟩;(· rw [Hg] at M;exact hA ⟨h3,M,h5⟩);(· cases q)),An hA,An (by rintro ⟨_,⟨q,_⟩|⟨_,q⟩⟩<;>cases q)];omega⟩
theorem ba8.bd(h:ba8 nd es k p q tb){i j:Int}(h0:0<=i/\i<64)(h1:0<=j/\j<64):0<=e_ tb (i*64+j)/\e_ tb (i*64+j)<=(k:Int)+1:=by
 have M:=h.val i.toNat j.toNat om om
 rw [Hb h0.1,Hb h1.1] at M
 have h3:=fz6 (nd:=nd) (es:=es) k i.toNat j.toNat
 rcases fi6 (decide<|i.toNat≠j.toNat/\((i∈(nbG nd es (k:Int)).take p/\j∈nbG nd es (k:Int))\/(i=e_ (nbG nd es (k:Int)) (p:Int)/\j∈(nbG nd es (k:Int)).take q))) with h4|h4<;>omega
structure gk0 (nd:Int) (es:List Pt) (tb:List Int):Prop where
 len:tb.length=4096
 val:∀i j:Nat,i<64->j<64->e_ tb ((i:Int)*64+(j:Int))=coN nd.toNat (N2 nd es) i j
theorem ba8.all(hG:s8 nd es)(h:ba8 nd es nd.toNat 0 0 tb):gk0 nd es tb:=⟨h.len,λi j hi hj=>by
 rw [h.val i j hi hj,fo3 hG,E6,An,Kc]
 rintro ⟨_,⟨M,_⟩|⟨_,M⟩⟩<;>cases M⟩
def cK(nd:Int)(es:List Pt)(v w:Nat):Int:=p8 w λx=>prs (coN nd.toNat (N2 nd es) v x)
theorem fo8(M:nd<=64)(v:Nat):∀w:Nat,0<=cK nd es v w/\cK nd es v w<=2016*(w:Int)
 |0=>by simp [cK,p8]
 |w+1=>by
  have h1:=fo8 M v w
  have h2:=fi8 nd.toNat (N2 nd es) v w
  have h3:=bw7 (n:=coN nd.toNat (N2 nd es) v w) ⟨by omega,by omega⟩
  have e:cK nd es v (w+1)=cK nd es v w+prs (coN nd.toNat (N2 nd es) v w):=rfl
  rw [e];omega
theorem du5(v:Nat):am4 nd es v=cK nd es v nd.toNat:=rfl
theorem bp8(M:nd<=64)(v:Nat):0<=am4 nd es v/\am4 nd es v<=129024:=by
 have:=fo8 (es:=es) M v nd.toNat
 rw [du5];omega
theorem cd7(M:nd<=64):∀k:Nat,0<=p8 k (am4 nd es)/\p8 k (am4 nd es)<=129024*(k:Int)
 |0=>by simp [p8]
 |k+1=>by
  have h1:=cd7 M k
  have h2:=bp8 (es:=es) M k
  simp only [p8];omega
theorem ck2(M:s8 nd es):0<=J9 nd es/\J9 nd es<=3000000:=by
 have h1:=cj8 M
 have h2:=cd7 (es:=es) M.rng.2 nd.toNat
 have:=M.rng
 omega
theorem ck1(hG:s8 nd es):∀x∈r9 nd es,0<=x/\x<=1000000:=λx M=>by
 obtain ⟨i,hi,rfl⟩:=av6 M
 rw [G3] at hi
 rw [af1 hi]
 have:=bp8 (es:=es) hG.rng.2 i
 omega
theorem bu7(M:s8 nd es):0<=F8 nd es/\F8 nd es<=1000000:=by
 have h1:=bo4 nd es nd.toNat
 have e:F8 nd es=ds2 nd es nd.toNat:=rfl
 have:=M.rng
 rw [e];omega
structure QdI (nd:Int) (es:List Pt) (k w:Nat) (out:List Int):Prop where
 len:out.length=nd.toNat
 val:∀i:Nat,i<nd.toNat->e_ out i=if i<k then am4 nd es i else if i=k then cK nd es k w else 0
theorem QdI.zero:QdI nd es 0 0 (replicate nd.toNat (0:Int)):=⟨Gc,λi hi=>by
 rw [Ct _ i (by rw [Gc];exact hi),Ly,An om]
 split<;>rfl⟩
theorem QdI.step(h:QdI nd es k w out)(M:k<nd.toNat):QdI nd es k (w+1) (List.set out ((k:Int)).toNat (e_ out k+prs (coN nd.toNat (N2 nd es) k w))):=⟨by rw [Fs];exact h.len,λi hi=>by
 rw [Ei _ _ _ _ om om (by rw [h.len];omega)]
 by_cases e:(k:Int)=(i:Int)
 ·have e':i=k:=by omega
  subst e'
  rw [B_ rfl,h.val i hi,An om,B_ rfl,An om,B_ rfl];rfl
 rw [An e,h.val i hi,An (show ¬i=k by omega),An (show ¬i=k by omega)]⟩
theorem QdI.next(h:QdI nd es k nd.toNat out):QdI nd es (k+1) 0 out:=⟨h.len,λi hi=>by
 rw [h.val i hi]
 by_cases e:i=k
 ·subst e;rw [An om,B_ rfl,B_ om];rfl
 by_cases e2:i<k
 ·rw [B_ e2,B_ om]
 rw [An e2,An e,An om]
 split
 ·rfl
 rfl⟩
theorem QdI.at(h:QdI nd es k w out)(M:k<nd.toNat):e_ out k=cK nd es k w:=by rw [h.val k M,An om,B_ rfl]
theorem QdI.all(h:QdI nd es nd.toNat 0 out):out=r9 nd es:=E8 (by rw [h.len,G3]) λi hi=>by
 rw [h.len] at hi
 rw [h.val i hi,B_ hi,af1 hi]
theorem du3(h:R7 nd es es' u v):F8 nd es+1*(((nbG nd es u).length:Int)+((nbG nd es v).length:Int))=F8 nd es'/\J9 nd es+1*((p7 nd es u v).length:Int)=J9 nd es':=by have:=h.fs5;omega
theorem du4(h:R7 nd es es' u v):F8 nd es' + -1*(((nbG nd es u).length:Int)+((nbG nd es v).length:Int))=F8 nd es/\J9 nd es' + -1*((p7 nd es u v).length:Int)=J9 nd es:=by have:=h.fs5;omega
end
theorem cw9{nd:Int}{es:List Pt}(hl:Sl κ I va es)(hG:s8 nd es)(hT:F4 κ I 0 p5):eu Tryz.prog κ 134 [.agg #[e7 nd,va]] I (λr J=>∃(b:Nat) (tb:List Int),r = (pt b)/\gk0 nd es tb/\J=e8 b (cells tb) 218::I):=by
 have ao:=hG.rng
 refine Ce1 Tryz.func134 C C ?_
 refine Al<|Ge1 (Av (cs:=[_,_]) C C C) λb1=>Ga C<|Ar<|Al<|Ge1 (Aj gd0 C) λb2=>Z ?_
 refine B9 (σ:=Nat×(List Int)) (λs=>([(1,pt b1),(3,pt b2),(11,e7 nd),(12,e7 ((s.1:Nat):Int))]:Env)) (λs=>e8 b2 (cells (s.2:List Int)) 218::e8 b1 [e7 nd,va] 38::I) (λs=>((s.1:Int)<=nd)/\(ba8 nd es s.1 0 0 s.2)) (λs=>nd.toNat - s.1) (0,replicate 4096 (0:Int)) ⟨om,ba8.zero⟩ (cx2<|Aa C<|Aa Cl Bb) Az ?_
 rintro ⟨k,tb⟩ hp
 dsimp only at hp ⊢
 obtain ⟨hk,ht⟩:=hp
 have ap:=K1 nd es (k:Int)
 refine Z ?_
 refine Ao C (λc13=>Z ?_)<|λc13=>Z ?_
 ·refine Gc2 (Ab c_ C C<|bh3 (nd:=nd) (A3 hl) (k:Int)<|Ba hT Ah) λaa M=>Z ?_
  refine B9 (σ:=Nat×(List Int)) (λs=>([(1,pt b1),(3,pt b2),(5,.slice aa (nbG nd es (k:Int)).length M),(11,e7 nd),(12,e7<|(k:Int)),(18,.slice aa (nbG nd es (k:Int)).length M),(19,e7<|(((nbG nd es (k:Int)).length:Nat):Int)),(20,e7 ((s.1:Nat):Int))]:Env)) (λs=>vk 3 aa M (nbG nd es (k:Int))::e8 b2 (cells (s.2:List Int)) 218::e8 b1 [e7 nd,va] 38::I) (λs=>(s.1<=(nbG nd es (k:Int)).length)/\(ba8 nd es k s.1 0 s.2)) (λs=>(nbG nd es (k:Int)).length - s.1) (0,tb) ⟨om,ht⟩ (cx4<|cx2<|Aa C<|Aa Cl Bb) Az ?_
  rintro ⟨p,ae⟩ hp
  dsimp only at hp ⊢
  obtain ⟨hp,ah⟩:=hp
  refine Z ?_
  refine Ao C (λak=>Z ?_)<|λak=>Z ?_
  ·have au:=ba0 hG (x:=(k:Int)) (p:=p) om
   refine Z ?_
   refine A0 (S12 26 25 24 7 1 3 5 11 12 18 19 20 C C C C C C C C C C C C)<|Z ?_
   refine B9 (σ:=Nat×(List Int)) (λs=>([(1,pt b1),(3,pt b2),(5,.slice aa (nbG nd es (k:Int)).length M),(7,e7<|e_ (nbG nd es (k:Int)) (p:Int)),(11,e7 nd),(12,e7<|(k:Int)),(18,.slice aa (nbG nd es (k:Int)).length M),(19,e7<|(((nbG nd es (k:Int)).length:Nat):Int)),(20,e7<|(p:Int)),(24,.slice aa (nbG nd es (k:Int)).length M),(25,e7<|(((nbG nd es (k:Int)).length:Nat):Int)),(26,e7 ((s.1:Nat):Int))]:Env)) (λs=>vk 3 aa M (nbG nd es (k:Int))::e8 b2 (cells (s.2:List Int)) 218::e8 b1 [e7 nd,va] 38::I) (λs=>(s.1<=(nbG nd es (k:Int)).length)/\(ba8 nd es k p s.1 s.2)) (λs=>(nbG nd es (k:Int)).length - s.1) (0,ae) ⟨om,ah⟩ (cx4<|cx4<|cx2<|Aa C<|Aa Cl Bb) Az ?_
   rintro ⟨q,ab⟩ hp
   dsimp only at hp ⊢
   obtain ⟨hq,ad⟩:=hp
   have aq:=ad.len
   refine Z ?_
   refine Ao C (λaj=>Z ?_)<|λaj=>Z ?_
   ·have ar:=ba0 hG (x:=(k:Int)) (p:=q) om
    have av:=ad.bd (i:=e_ (nbG nd es (k:Int)) (p:Int)) (j:=e_ (nbG nd es (k:Int)) (q:Int)) om om
    refine Z ?_
    refine Ao C (λan=>?_)<|λan=>Z ?_
    ·refine A8 mixed (Ee 8<|Z ?_)
     refine Dr 2 C (B5 Tryz.underlying218 ds5 C C om om)<|Dr 3 C (B5 Tryz.underlying193 ef C C om om)<|Dr 4 C (j8.gj6 (xs:=ab) ef C (Dn mm) om om om)<|Z ?_
     refine Ds1 6<|Sr C (B5 Tryz.underlying218 ds5 C C om om) Ah ?_
     refine Dr 7 C (B5 Tryz.underlying193 ef C C om om)<|Ch kr ?_
     refine Ae 8 C (Eff.setT (xs:=ab) (i:=e_ (nbG nd es (k:Int)) (p:Int)) (j:=e_ (nbG nd es (k:Int)) (q:Int)) (n:=(e_ ab<|(e_ (nbG nd es (k:Int)) (p:Int))*64+(e_ (nbG nd es (k:Int)) (q:Int)))+1) ef C C C om om om am) ?_
     rintro _ _ ⟨rfl,rfl⟩
     refine Ci kr<|Z ?_
     exact Bu ((q+1),(List.set ab ((e_ (nbG nd es (k:Int)) (p:Int))*64+(e_ (nbG nd es (k:Int)) (q:Int))).toNat ((e_ ab<|(e_ (nbG nd es (k:Int)) (p:Int))*64+(e_ (nbG nd es (k:Int)) (q:Int)))+1)))<|by dsimp only;exact ⟨om,(by first|exact ad.yes hG om om asm|exact ad.no om om)⟩
    exact Bu ((q+1),(ab))<|by dsimp only;exact ⟨om,(by first|exact ad.yes hG om om asm|exact ad.no om om)⟩
   exact Bu ((p+1),(ab))<|by dsimp only;exact ⟨om,(ba8.row (by rw [show (nbG nd es (k:Int)).length=q by omega];exact ad) om)⟩
  exact Bu ((k+1),(ae))<|by dsimp only;exact ⟨om,(ba8.node<|by rw [show (nbG nd es (k:Int)).length=p by omega];exact ah)⟩
 have ai:k=nd.toNat:=by omega
 subst ai
 exact Am C C (e8 b2 (cells tb) 218::I) Az ⟨b2,tb,rfl,ht.all hG,rfl⟩
theorem bn8{nd:Int}{es:List Pt}(hl:Sl κ I va es)(hG:s8 nd es)(hT:F4 κ I 0 p5):eu Tryz.prog κ 89 [.agg #[e7 nd,va]] I (λr J=>∃a c,r = .tuple #[e7 (J9 nd es),.slice a (r9 nd es).length c]/\J=vk 3 a c (r9 nd es)::I):=by
 have ay:=hG.rng
 refine Ce1 Tryz.func89 C C ?_
 refine Al<|Ge1 (Av (cs:=[_,_]) C C C) λb1=>Z ?_
 refine G.e (Ab c_ C C<|cw9 (nd:=nd) (A3 hl) hG<|Ba hT Ah) ?_
 rintro _ _ ⟨_,_,⟨a7,aa,rfl,ah,rfl⟩,rfl,rfl⟩
 refine Ga C<|Ar<|Ax<|A8 mixed<|Ee 5<|Z ?_
 refine Ds1 2<|Se2 C (Dm (α:=Int) (n:=nd.toNat) Ac ef C C C om om dc C) λad ab=>?_
 have a3:(replicate nd.toNat (default:Int)).length=nd.toNat:=Gc
 refine Z ?_
 refine Dj (σ:=Nat×Int×(List Int)) (λs=>[(5,e7<|s.2.1),(16,e7 ((s.1:Nat):Int))]) (λs=>[vc 3 (.slice ad (replicate nd.toNat (default:Int)).length ab) (s.2.2)]) (λs=>(s.1<=nd.toNat)/\(s.2.1=p8 s.1 (am4 nd es))/\(QdI nd es s.1 0 s.2.2)) (λs=>nd.toNat - s.1) (0,0,replicate nd.toNat (default:Int)) ⟨om,rfl,QdI.zero⟩ ?_
 rintro ⟨k,q,out⟩ hp
 dsimp only at hp ⊢
 obtain ⟨hk,hq,ho⟩:=hp
 have a6:=ho.len
 have a5:=cd7 (es:=es) hG.rng.2 k
 refine Z ?_
 refine Ao C (λao=>Z ?_)<|λao=>Z ?_
 ·refine Dj (σ:=Nat×(List Int)) (λs=>[(21,e7 ((s.1:Nat):Int))]) (λs=>[vc 3 (.slice ad (replicate nd.toNat (default:Int)).length ab) (s.2)]) (λs=>(s.1<=nd.toNat)/\(QdI nd es k s.1 s.2)) (λs=>nd.toNat - s.1) (0,out) ⟨om,ho⟩ ?_
  rintro ⟨w,M⟩ hp
  dsimp only at hp ⊢
  obtain ⟨hw,ae⟩:=hp
  have a0:=ae.len
  have a1:=fo8 (es:=es) hG.rng.2 k w
  have az:=ae.at om
  refine Z ?_
  refine Ao C (λap=>Z ?_)<|λap=>Z ?_
  ·have ak:=ah.val k w om om
   have a4:=ah.len
   have ax:=fi8 nd.toNat (N2 nd es) k w
   have an:=bw7 (n:=coN nd.toNat (N2 nd es) k w) ⟨by omega,by omega⟩
   rw [←ak] at ax an
   refine Z ?_
   refine A8 mixed<|Ee 14<|Z ?_
   refine Dr 8 C (B5 Tryz.underlying218 ds5 C C om om)<|Dr 9 C (B5 Tryz.underlying193 ef C C om om)<|Dr 10 C (j8.gj6 (xs:=aa) ef C (Dn mm) om om om)<|Ds1 11<|Se C (Ab c_ C C<|cq0 (e_ aa<|(k:Int)*64+(w:Int)) om) ?_
   rintro _ _ ⟨_,_,⟨rfl,rfl⟩,rfl,rfl⟩
   refine ⟨Ah,?_⟩
   refine Z ?_
   refine Ch kr ?_
   refine Ae 14 C (Cw (α:=Int) (xs:=M) (e:=3) (new:=(e_ M k)+(prs<|e_ aa<|(k:Int)*64+(w:Int))) ef C C C om om am) ?_
   rintro _ _ ⟨rfl,rfl⟩
   refine Ci kr<|Z ?_
   exact Bu ((w+1),(List.set M ((k:Int)).toNat ((e_ M k)+(prs<|e_ aa<|(k:Int)*64+(w:Int)))))<|by dsimp only;exact ⟨om,(by have h8:=ae.step om;rw [←ak] at h8;exact h8)⟩
  have av:w=nd.toNat:=by omega
  have aj:QdI nd es k nd.toNat M:=av▸ae
  have aq:e_ M k=am4 nd es k:=aj.at om
  have a8:=bp8 (es:=es) hG.rng.2 k
  refine Z ?_
  exact Bu ((k+1),(q+(e_ M k)),(M))<|by dsimp only;exact ⟨om,(by rw [hq,aq];rfl),aj.next⟩
 refine Gr (j8.quo C C om om<|by unfold InR;omega)<|Z ?_
 have ar:k=nd.toNat:=by omega
 rw [ar] at hq ho
 have au:=ho.all
 have a9:=cj8 hG
 have aw:q / 4=J9 nd es:=by rw [hq];omega
 have ai:(replicate nd.toNat (default:Int)).length=(r9 nd es).length:=by rw [Gc,G3]
 exact C2 C C C (vk 3 ad ab (r9 nd es)::I) (by unfold vk;rw [←ai,←au];exact Az) ⟨ad,ab,by rw [←ai,←aw],rfl⟩
end Go.Sl
