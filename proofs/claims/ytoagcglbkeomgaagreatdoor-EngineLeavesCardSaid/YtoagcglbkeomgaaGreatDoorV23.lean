/- A part of the proofs of statements of this seat: contracts of functions, and the plain laws that they lean on. No conditions. -/
import Derived.Test.YtoagcglbkeomgaaGreatDoorV20
import Derived.Test.YtoagcglbkeomgaaGreatDoorV22
set_option linter.unusedVariables false
set_option linter.unusedSimpArgs false
set_option linter.unusedSectionVars false
open Go.Proofs.Tryz (prog)
namespace Go.Sl
open Go.Proofs
set_option maxRecDepth 4000
variable{b' nd u v x:Int}{es:List Pt}{num:List Int}
variable {κ:Ctx}{I:List Item}
theorem cx3{a0 b0:Option Addr}{n0 m0 c0 d0:Nat}(hn:n0=(nbG nd es u).length)(aa:m0=(nbG nd es v).length)(hl:Sl κ I (.slice a0 n0 c0) (nbG nd es u))(hm:Sl κ I (.slice b0 m0 d0) (nbG nd es v))(M:u≠v):eu prog κ 133 [.slice a0 n0 c0,.slice b0 m0 d0] I λr J=>∃a c,r = .slice a (j3 nd es u v).length c/\J=vk 3 a c (j3 nd es u v)::I:=by
 have h1:=J9 nd es u
 have:=bo3 hn aa hl hm (bd8 _ _ _) (bd8 _ _ _) om
 rw [ay5 M] at this
 exact this
theorem am8{v:Value}(hl:Sl κ I v es)(M:s6 nd es):eu prog κ 86 [.agg #[e7 nd,v]] I λr J=>r=e7 0/\I=J:=by
 have h:=V1 (nd:=nd) hl
 rw [s4.2 M] at h
 exact h
theorem ga5(M : -1<=b'/\b'<=1) : -64<=b'*((j3 nd es u v).length:Int)/\b'*((j3 nd es u v).length:Int)<=64:=by
 have:=M2 nd es u v
 rcases (by omega:b' = -1\/b'=0\/b'=1) with h|h|h<;>rw [h]<;>omega
theorem dj0{ls:List Int}(hn:ls.Nodup)(hr:∀w∈ls,0<=w/\w<(num.length:Int))(hb : -1<=b'/\b'<=1)(hv:∀x∈num,0<=x/\x<=1000000)(M:0<=x/\x<(num.length:Int)) : -1<=e_ (ls.foldl (Y0 b') num) x/\e_ (ls.foldl (Y0 b') num) x<=1000001:=by
 have h1:=hv _ (Bp (xs:=num) (i:=x) M.1 om)
 rw [ac8 _ _ hr _ M.1,M1 hn]
 split
 ·omega
 omega
theorem dj2{d m lo hi:Int}{xs:List Int}(hu:0<=u/\u<(xs.length:Int))(M:0<=x)(hd : -m<=d/\d<=m)(h:lo<=e_ xs x/\e_ xs x<=hi)(hm:0<=m):lo - m<=e_ (List.set xs u.toNat (e_ xs u+d)) x/\e_ (List.set xs u.toNat (e_ xs u+d)) x<=hi+m:=by
 rw [Ei _ _ _ _ hu.1 M om]
 split
 ·subst_vars;omega
 omega
set_option maxHeartbeats 2000000 in
theorem do6{nd' n0:Int}{ea na ga:Option Addr}{ec nc gn gc:Nat}(hl:Sl κ I (.slice ea es.length ec) es)(hm:Sl κ I (.slice na num.length nc) num)(hG:s6 nd es)(hu:p8 nd u)(hv:p8 nd v)(a4:u≠v)(a7:(num.length:Int)=nd)(aq:∀x∈num,0<=x/\x<=1000000)(bc:0<=n0/\n0<=1000000)(hb : -1<=b'/\b'<=1):eu prog κ 300 [.agg #[e7 nd,.slice ea es.length ec,e7 n0,.slice na num.length nc],.agg #[e7 (nd'),.slice ga gn gc],e7 u,e7 v,e7 (b')] I (λr J=>∃(a:Option Addr) (c:Nat),r = .tuple #[.agg #[e7 nd',.slice ga gn gc,e7 (n0+b'*((j3 nd es u v).length:Int)),.slice a num.length c],e7 ((j3 nd es u v).length:Int),e7 0]/\J=vc 3 (.slice a num.length c) (cr7 b' (j3 nd es u v) u v num)::I):=by
 have a6:=hG.rng
 have bb:0<=u/\u<nd:=hu
 have ba:0<=v/\v<nd:=hv
 have a9:=M2 nd es u v
 have a1:=ga5 (nd:=nd) (u:=u) (v:=v) (es:=es) hb
 have hS:∀w∈j3 nd es u v,0<=w/\w<(num.length:Int):=λw hw=>by have:=Z2 hG hw;omega
 refine Ce5 Tryz.func300 C C ?_
 refine Ak<|Ge1 (Au (cs:=[_,_,_,_]) C C C) λb1=>Ge1 (Au (cs:=[_,_]) C C C) λb2=>Ge1 (Aj ad3 C) λb3=>Ga C<|Ga C<|Ar<|Ak<|Gf dk0 C<|Gl2 J8 ?_
 refine G.e (Ac c_ C C<|cq5 (nd:=nd) (A4 hl) hG) ?_
 rintro _ _ ⟨_,_,⟨aw,av,rs,ap,rfl,an,rfl⟩,rfl,rfl⟩
 refine Dq (J:=vk 22 aw av rs::e8 b3 [e7 0,.slice none 0 0,e7 0,.slice none 0 0] 43::e8 b2 [e7 (nd'),.slice ga gn gc] 38::e8 b1 [e7 nd,.slice ea es.length ec,e7 n0,.slice na num.length nc] 43::(ap4 3 ap++I)) (Cj<|List.Perm.cons _<|C1 (A:=ap4 3 ap) (L:=[e8 b3 [e7 0,.slice none 0 0,e7 0,.slice none 0 0] 43,e8 b2 [e7 (nd'),.slice ga gn gc] 38,e8 b1 [e7 nd,.slice ea es.length ec,e7 n0,.slice na num.length nc] 43]) (T:=I)) ?_
 have a8:=an.len
 refine Ga C<|Ar<|A1 (S7 13 10 6 5 2 3 4)<|Ax<|Ba mixed<|Ee 10<|Dr 0 C (Aq C)<|Dr 1 C (Aq C)<|Dr 2 C (A2 (α:=(G1 Int)) (xs:=rs) Cr U1 C C A5 (by first|omega|(have h8:=M om;omega))<|by first|omega|(have h8:=M om;omega)|(simp only [Fo];omega))<|Dr 3 C (Cc (α:=(G1 Int)) (xs:=rs) (u:= .slice (e_ rs u).a (e_ rs u).xs.length (e_ rs u).c) U1 C A5 (by first|omega|(have h8:=M om;omega)) (by first|omega|(have h8:=M om;omega)|(simp only [Fo];omega)) C)<|Dr 4 C (Aq C)<|Dr 5 C (Aq C)<|Dr 6 C (A2 (α:=(G1 Int)) (xs:=rs) Cr U1 C C A5 (by first|omega|(have h8:=M om;omega))<|by first|omega|(have h8:=M om;omega)|(simp only [Fo];omega))<|Dr 7 C (Cc (α:=(G1 Int)) (xs:=rs) (u:= .slice (e_ rs v).a (e_ rs v).xs.length (e_ rs v).c) U1 C A5 (by first|omega|(have h8:=M om;omega)) (by first|omega|(have h8:=M om;omega)|(simp only [Fo];omega)) C)<|Ds1 8<|Sc2 C (Ac c_ C C<|cx3 (an.row _ om om).2 (an.row _ om om).2 (Bg (an.held (I:=I) (i:=u) om om) Ah) (Bg (an.held (I:=I) (i:=v) om om) Ah) a4) λaj ai=>?_
 refine Dr 9 C (Bh C)<|Dz<|Ao<|A1 (S7 14 10 6 5 2 3 4)<|Ax<|Ba mixed<|Ee 13<|Dr 0 C (Bm (vs:=[_,_]) J8) ?_
 refine Dr 1 C (Af dj9 C)<|Dr 2 C (Bd ef) ?_
 refine Dr 3 C (Aq C)<|Dr 4 C (Aq C)<|Dr 5 C (Bk Ab C)<|Dr 6 C (Eo C C<|by first|(unfold InR;omega)|(have h7:=aa om;have h8:=ab om;unfold InR;omega))<|Dr 7 C (Cv C C<|by first|(unfold InR;omega)|(have h7:=aa om;have h8:=ab om;unfold InR;omega))<|Dr 8 C (Af ac9 C)<|Dr 9 C (Bd U1) ?_
 refine C9 (rs:=[10,12]) kr C C<|Ej ?_<|Do ?_
 ·refine Sc2 C (Ac c_ C C<|ah1 (xs:=num) (A4 hm) om) λar ao=>?_
  refine Dr 11 C (Cl (cells:=[_,_,_,_]) ad3 Tryz.underlying43 gf4 C C)<|Ds1 12<|Se1 C (Aj ad3 C) λa0=>?_
  refine Cg kr ?_
  refine Ae 13 C (C8 ad3) ?_
  rintro _ _ ⟨rfl,rfl⟩
  refine Ch kr ?_
  refine Ao<|A1 (S6 15 14 10 2 3 4)<|Ax<|Ak<|Gm C<|Gr (Bk Ab C)<|Gm C<|Ar<|A7<|B9 (σ:=Nat×(List Int)) (λs=>([(2,e7 u),(3,e7 v),(4,e7<|b'),(10,pt b3),(14,.slice aj (j3 nd es u v).length ai),(15,pt a0),(42,.slice aj (j3 nd es u v).length ai),(43,e7<|(((j3 nd es u v).length:Nat):Int)),(44,e7 ((s.1:Nat):Int))]:Env)) (λs=>e8 a0 [e7 (nd'),.slice ga gn gc,e7<|n0+(b'*(((j3 nd es u v).length:Nat):Int)),.slice ar num.length ao] 43::vc 3 (.slice ar num.length ao) (s.2)::vk 3 aj ai (j3 nd es u v)::vk 22 aw av rs::e8 b3 [e7 0,.slice none 0 0,e7 0,.slice none 0 0] 43::e8 b2 [e7 (nd'),.slice ga gn gc] 38::e8 b1 [e7 nd,.slice ea es.length ec,e7 n0,.slice na num.length nc] 43::(ap4 3 ap++I)) (λs=>(s.1<=(j3 nd es u v).length)/\(s.2=((j3 nd es u v).take s.1).foldl (Y0 b') num)) (λs=>(j3 nd es u v).length - s.1) (0,num) ⟨om,rfl⟩ (cx4<|cx4<|Aa Co Bb) Ai ?_
  rintro ⟨k,out⟩ hp
  dsimp only at hp ⊢
  obtain ⟨hk,ho⟩:=hp
  have a5:out.length=num.length:=by rw [ho];exact J3 _ _
  have M:=λh:k<(j3 nd es u v).length=>hS _ (Bp (xs:=(j3 nd es u v)) (i:=(k:Int)) om om)
  have aa:=λh:k<(j3 nd es u v).length=>be9 (b':=b') (num:=num) (H4 nd es u v) hS h
  rw [←ho] at aa
  have ab:=λh:k<(j3 nd es u v).length=>aq _ (Bp (xs:=num) (i:=e_ (j3 nd es u v) k) (M h).1 (M h).2)
  have ad:=fun (x:Int) (hx:0<=x/\x<(num.length:Int))=>dj0 (b':=b') ((H4 nd es u v).sublist (Lc k _)) (λw hw=>hS w<|Hw hw) hb aq hx
  rw [←ho] at ad
  have ay:=ad u om
  have ak:=ad v om
  have a3:=dj2 (x:=v) (u:=u) (xs:=out) (d:=b'*((j3 nd es u v).length:Int)) (m:=64) om om a1 ak om
  refine Ak<|Gr (Bl C C)<|Ar<|Ax<|Am C (λau=>?_)<|λau=>?_
  ·refine Bc (Ao<|Ax<|A7<|Ak<|Gr (A2 (α:=Int) (xs:=j3 nd es u v) Ab ef C C A5 (by first|omega|(have h8:=M om;omega))<|by first|omega|(have h8:=M om;omega)|(simp only [Fo];omega))<|Gr (B6 (xs:=j3 nd es u v) ef C A5 (by first|omega|(have h8:=M om;omega))<|by first|omega|(have h8:=M om;omega)|(simp only [Fo];omega))<|Ga C<|Ar<|A6<|Gf ac9 C<|Gl U1 ?_)
   refine Gm C<|Gr (A2 (α:=Int) (xs:=out) Ab ef C C A5 (by first|omega|(have h8:=M om;omega))<|by first|omega|(have h8:=M om;omega)|(simp only [Fo];omega))<|Gr (B6 (xs:=out) ef C A5 (by first|omega|(have h8:=M om;omega))<|by first|omega|(have h8:=M om;omega)|(simp only [Fo];omega))<|Gm C<|Gr (Cv C C<|by first|(unfold InR;omega)|(have h7:=aa om;have h8:=ab om;unfold InR;omega))<|Gr (A2 (α:=Int) (xs:=out) Ab ef C C A5 (by first|omega|(have h8:=M om;omega))<|by first|omega|(have h8:=M om;omega)|(simp only [Fo];omega))<|Ge0 (Cw (α:=Int) (xs:=out) (e:=3) (new:=(e_ out<|e_ (j3 nd es u v) k)+b') ef C C C (by first|omega|(have h8:=M om;omega)) (by first|omega|(have h8:=M om;omega)|(simp only [Fo];omega)) am) ?_
   exact Bq<|Av<|Ao<|A1 (S9 2 3 4 10 14 15 42 43 44)<|A6<|Gr (Cv C C<|by first|(unfold InR;omega)|(have h7:=aa om;have h8:=ab om;unfold InR;omega))<|Gm C<|Bq<|Bt ((k+1),(List.set out (e_ (j3 nd es u v) k).toNat ((e_ out<|e_ (j3 nd es u v) k)+b')))<|by dsimp only;exact ⟨om,(as5 om ho)⟩
  refine Ci<|Aw<|Aw<|Bi<|Ao<|Ak<|Gf ac9 C<|Gl U1 ?_
  refine Gm C<|Gr (A2 (α:=Int) (xs:=out) Ab ef C C A5 (by first|omega|(have h8:=M om;omega))<|by first|omega|(have h8:=M om;omega)|(simp only [Fo];omega))<|Gr (B6 (xs:=out) ef C A5 (by first|omega|(have h8:=M om;omega))<|by first|omega|(have h8:=M om;omega)|(simp only [Fo];omega))<|Gm C<|Gm C<|Gr (Bk Ab C)<|Gr (Eo C C<|by first|(unfold InR;omega)|(have h7:=aa om;have h8:=ab om;unfold InR;omega))<|Gr (Cv C C<|by first|(unfold InR;omega)|(have h7:=aa om;have h8:=ab om;unfold InR;omega))<|Gr (A2 (α:=Int) (xs:=out) Ab ef C C A5 (by first|omega|(have h8:=M om;omega))<|by first|omega|(have h8:=M om;omega)|(simp only [Fo];omega))<|Ge0 (Cw (α:=Int) (xs:=out) (e:=3) (new:=(e_ out u)+(b'*(((j3 nd es u v).length:Nat):Int))) ef C C C (by first|omega|(have h8:=M om;omega)) (by first|omega|(have h8:=M om;omega)|(simp only [Fo];omega)) am) ?_
  refine Ar<|A1 (S5 3 4 10 14 15)<|Ak<|Gf ac9 C<|Gl U1 ?_
  refine Gm C<|Gr (A2 (α:=Int) (xs:=List.set out (u).toNat ((e_ out u)+(b'*(((j3 nd es u v).length:Nat):Int)))) Ab ef C C A5 (by first|omega|(have h8:=M om;omega))<|by first|omega|(have h8:=M om;omega)|(simp only [Fo];omega))<|Gr (B6 (xs:=List.set out (u).toNat ((e_ out u)+(b'*(((j3 nd es u v).length:Nat):Int)))) ef C A5 (by first|omega|(have h8:=M om;omega))<|by first|omega|(have h8:=M om;omega)|(simp only [Fo];omega))<|Gm C<|Gm C<|Gr (Bk Ab C)<|Gr (Eo C C<|by first|(unfold InR;omega)|(have h7:=aa om;have h8:=ab om;unfold InR;omega))<|Gr (Cv C C<|by first|(unfold InR;omega)|(have h7:=aa om;have h8:=ab om;unfold InR;omega))<|Gr (A2 (α:=Int) (xs:=List.set out (u).toNat ((e_ out u)+(b'*(((j3 nd es u v).length:Nat):Int)))) Ab ef C C A5 (by first|omega|(have h8:=M om;omega))<|by first|omega|(have h8:=M om;omega)|(simp only [Fo];omega))<|Ge0 (Cw (α:=Int) (xs:=List.set out (u).toNat ((e_ out u)+(b'*(((j3 nd es u v).length:Nat):Int)))) (e:=3) (new:=(e_ (List.set out (u).toNat ((e_ out u)+(b'*(((j3 nd es u v).length:Nat):Int)))) v)+(b'*(((j3 nd es u v).length:Nat):Int))) ef C C C (by first|omega|(have h8:=M om;omega)) (by first|omega|(have h8:=M om;omega)|(simp only [Fo];omega)) am) ?_
  refine Ar<|A1 (S3 10 14 15)<|Ak<|Gl4 ad3 ?_
  refine Gm C<|Gr (Bk Ab C)<|Ge0 (C8 ad3) ?_
  refine Ga C<|Ga C<|Ar<|B3 ?_
  have ax:List.set (List.set out (u).toNat ((e_ out u)+(b'*(((j3 nd es u v).length:Nat):Int)))) (v).toNat ((e_ (List.set out (u).toNat ((e_ out u)+(b'*(((j3 nd es u v).length:Nat):Int)))) v)+(b'*(((j3 nd es u v).length:Nat):Int)))=cr7 b' (j3 nd es u v) u v num:=by rw [ho,show k=(j3 nd es u v).length by omega,Hb];rfl
  exact Cu C ad3 C C C mm C (vc 3 (.slice ar num.length ao) (cr7 b' (j3 nd es u v) u v num)::I) (by rw [←ax];exact Az) ⟨ar,ao,rfl,rfl⟩
 refine Se1 C (Aj ad3 C) λaz=>?_
 refine Ds1 10<|Sc2 C (Ac c_ C C<|ah1 (xs:=num) (A4 hm) om) λah ae=>?_
 refine Dr 11 C (Cl (cells:=[_,_,_,_]) ad3 Tryz.underlying43 gf4 C C)<|Cg kr ?_
 refine Ae 13 C (C8 ad3) ?_
 rintro _ _ ⟨rfl,rfl⟩
 refine Ch kr ?_
 refine Ao<|A1 (S6 15 14 10 2 3 4)<|Ax<|Ak<|Gm C<|Gr (Bk Ab C)<|Gm C<|Ar<|A7<|B9 (σ:=Nat×(List Int)) (λs=>([(2,e7 u),(3,e7 v),(4,e7<|b'),(10,pt b3),(14,.slice aj (j3 nd es u v).length ai),(15,pt az),(42,.slice aj (j3 nd es u v).length ai),(43,e7<|(((j3 nd es u v).length:Nat):Int)),(44,e7 ((s.1:Nat):Int))]:Env)) (λs=>vc 3 (.slice ah num.length ae) (s.2)::e8 az [e7 (nd'),.slice ga gn gc,e7<|n0+(b'*(((j3 nd es u v).length:Nat):Int)),.slice ah num.length ae] 43::vk 3 aj ai (j3 nd es u v)::vk 22 aw av rs::e8 b3 [e7 0,.slice none 0 0,e7 0,.slice none 0 0] 43::e8 b2 [e7 (nd'),.slice ga gn gc] 38::e8 b1 [e7 nd,.slice ea es.length ec,e7 n0,.slice na num.length nc] 43::(ap4 3 ap++I)) (λs=>(s.1<=(j3 nd es u v).length)/\(s.2=((j3 nd es u v).take s.1).foldl (Y0 b') num)) (λs=>(j3 nd es u v).length - s.1) (0,num) ⟨om,rfl⟩ (cx4<|cx4<|Aa Co Bb) Ai ?_
 rintro ⟨k,out⟩ hp
 dsimp only at hp ⊢
 obtain ⟨hk,ho⟩:=hp
 have a5:out.length=num.length:=by rw [ho];exact J3 _ _
 have M:=λh:k<(j3 nd es u v).length=>hS _ (Bp (xs:=(j3 nd es u v)) (i:=(k:Int)) om om)
 have aa:=λh:k<(j3 nd es u v).length=>be9 (b':=b') (num:=num) (H4 nd es u v) hS h
 rw [←ho] at aa
 have ab:=λh:k<(j3 nd es u v).length=>aq _ (Bp (xs:=num) (i:=e_ (j3 nd es u v) k) (M h).1 (M h).2)
 have ad:=fun (x:Int) (hx:0<=x/\x<(num.length:Int))=>dj0 (b':=b') ((H4 nd es u v).sublist (Lc k _)) (λw hw=>hS w<|Hw hw) hb aq hx
 rw [←ho] at ad
 have ay:=ad u om
 have ak:=ad v om
 have a3:=dj2 (x:=v) (u:=u) (xs:=out) (d:=b'*((j3 nd es u v).length:Int)) (m:=64) om om a1 ak om
 refine Ak<|Gr (Bl C C)<|Ar<|Ax<|Am C (λau=>?_)<|λau=>?_
 ·refine Bc (Ao<|Ax<|A7<|Ak<|Gr (A2 (α:=Int) (xs:=j3 nd es u v) Ab ef C C A5 (by first|omega|(have h8:=M om;omega))<|by first|omega|(have h8:=M om;omega)|(simp only [Fo];omega))<|Gr (B6 (xs:=j3 nd es u v) ef C A5 (by first|omega|(have h8:=M om;omega))<|by first|omega|(have h8:=M om;omega)|(simp only [Fo];omega))<|Ga C<|Ar<|A6<|Gf ac9 C<|Gl U1 ?_)
  refine Gm C<|Gr (A2 (α:=Int) (xs:=out) Ab ef C C A5 (by first|omega|(have h8:=M om;omega))<|by first|omega|(have h8:=M om;omega)|(simp only [Fo];omega))<|Gr (B6 (xs:=out) ef C A5 (by first|omega|(have h8:=M om;omega))<|by first|omega|(have h8:=M om;omega)|(simp only [Fo];omega))<|Gm C<|Gr (Cv C C<|by first|(unfold InR;omega)|(have h7:=aa om;have h8:=ab om;unfold InR;omega))<|Gr (A2 (α:=Int) (xs:=out) Ab ef C C A5 (by first|omega|(have h8:=M om;omega))<|by first|omega|(have h8:=M om;omega)|(simp only [Fo];omega))<|Ge0 (Cw (α:=Int) (xs:=out) (e:=3) (new:=(e_ out<|e_ (j3 nd es u v) k)+b') ef C C C (by first|omega|(have h8:=M om;omega)) (by first|omega|(have h8:=M om;omega)|(simp only [Fo];omega)) am) ?_
  exact Bq<|Av<|Ao<|A1 (S9 2 3 4 10 14 15 42 43 44)<|A6<|Gr (Cv C C<|by first|(unfold InR;omega)|(have h7:=aa om;have h8:=ab om;unfold InR;omega))<|Gm C<|Bq<|Bt ((k+1),(List.set out (e_ (j3 nd es u v) k).toNat ((e_ out<|e_ (j3 nd es u v) k)+b')))<|by dsimp only;exact ⟨om,(as5 om ho)⟩
 refine Ci<|Aw<|Aw<|Bi<|Ao<|Ak<|Gf ac9 C<|Gl U1 ?_
 refine Gm C<|Gr (A2 (α:=Int) (xs:=out) Ab ef C C A5 (by first|omega|(have h8:=M om;omega))<|by first|omega|(have h8:=M om;omega)|(simp only [Fo];omega))<|Gr (B6 (xs:=out) ef C A5 (by first|omega|(have h8:=M om;omega))<|by first|omega|(have h8:=M om;omega)|(simp only [Fo];omega))<|Gm C<|Gm C<|Gr (Bk Ab C)<|Gr (Eo C C<|by first|(unfold InR;omega)|(have h7:=aa om;have h8:=ab om;unfold InR;omega))<|Gr (Cv C C<|by first|(unfold InR;omega)|(have h7:=aa om;have h8:=ab om;unfold InR;omega))<|Gr (A2 (α:=Int) (xs:=out) Ab ef C C A5 (by first|omega|(have h8:=M om;omega))<|by first|omega|(have h8:=M om;omega)|(simp only [Fo];omega))<|Ge0 (Cw (α:=Int) (xs:=out) (e:=3) (new:=(e_ out u)+(b'*(((j3 nd es u v).length:Nat):Int))) ef C C C (by first|omega|(have h8:=M om;omega)) (by first|omega|(have h8:=M om;omega)|(simp only [Fo];omega)) am) ?_
 refine Ar<|A1 (S5 3 4 10 14 15)<|Ak<|Gf ac9 C<|Gl U1 ?_
 refine Gm C<|Gr (A2 (α:=Int) (xs:=List.set out (u).toNat ((e_ out u)+(b'*(((j3 nd es u v).length:Nat):Int)))) Ab ef C C A5 (by first|omega|(have h8:=M om;omega))<|by first|omega|(have h8:=M om;omega)|(simp only [Fo];omega))<|Gr (B6 (xs:=List.set out (u).toNat ((e_ out u)+(b'*(((j3 nd es u v).length:Nat):Int)))) ef C A5 (by first|omega|(have h8:=M om;omega))<|by first|omega|(have h8:=M om;omega)|(simp only [Fo];omega))<|Gm C<|Gm C<|Gr (Bk Ab C)<|Gr (Eo C C<|by first|(unfold InR;omega)|(have h7:=aa om;have h8:=ab om;unfold InR;omega))<|Gr (Cv C C<|by first|(unfold InR;omega)|(have h7:=aa om;have h8:=ab om;unfold InR;omega))<|Gr (A2 (α:=Int) (xs:=List.set out (u).toNat ((e_ out u)+(b'*(((j3 nd es u v).length:Nat):Int)))) Ab ef C C A5 (by first|omega|(have h8:=M om;omega))<|by first|omega|(have h8:=M om;omega)|(simp only [Fo];omega))<|Ge0 (Cw (α:=Int) (xs:=List.set out (u).toNat ((e_ out u)+(b'*(((j3 nd es u v).length:Nat):Int)))) (e:=3) (new:=(e_ (List.set out (u).toNat ((e_ out u)+(b'*(((j3 nd es u v).length:Nat):Int)))) v)+(b'*(((j3 nd es u v).length:Nat):Int))) ef C C C (by first|omega|(have h8:=M om;omega)) (by first|omega|(have h8:=M om;omega)|(simp only [Fo];omega)) am) ?_
 refine Ar<|A1 (S3 10 14 15)<|Ak<|Gl4 ad3 ?_
 refine Gm C<|Gr (Bk Ab C)<|Ge0 (C8 ad3) ?_
 refine Ga C<|Ga C<|Ar<|B3 ?_
 have ax:List.set (List.set out (u).toNat ((e_ out u)+(b'*(((j3 nd es u v).length:Nat):Int)))) (v).toNat ((e_ (List.set out (u).toNat ((e_ out u)+(b'*(((j3 nd es u v).length:Nat):Int)))) v)+(b'*(((j3 nd es u v).length:Nat):Int)))=cr7 b' (j3 nd es u v) u v num:=by rw [ho,show k=(j3 nd es u v).length by omega,Hb];rfl
 exact Cu C ad3 C C C mm C (vc 3 (.slice ah num.length ae) (cr7 b' (j3 nd es u v) u v num)::I) (by rw [←ax];exact Az) ⟨ah,ae,rfl,rfl⟩
end Go.Sl
namespace Go.Sl
open Go.Proofs
set_option maxRecDepth 4000
variable{ea ga na:Option Addr}{b ec gc nc:Nat}{M aa ab ad ae va vb y0 y1 y2 y3 y4 y5 y6 y7 y8 y9:Value}{xs:List Pt}
attribute [local irreducible] W G V D A j8 Eff
theorem di9(f:Pt->Bool):∀l:List Pt,0<=(l.map λp=>ind (f p)).sum/\(l.map λp=>ind (f p)).sum<=(l.length:Int)
 |[]=>by simp
 |p::l=>by
  have M:=di9 f l
  have h2:0<=ind (f p)/\ind (f p)<=1:=by unfold ind;split<;>omega
  rw [Hg,Jb,E_];omega
section
variable {nd u v:Int}{es es':List Pt}
theorem db9(hG:s6 nd es):∀x∈H3 nd es,0<=x/\x<=1000000:=λx M=>by
 obtain ⟨i,hi,rfl⟩:=aw0 M
 rw [G8] at hi
 rw [an8 hi]
 have h1:=di9 (λp=>decide<|(i:Int)∈j3 nd es p.u p.v) es
 have h2:=q9 hG
 unfold ds7;omega
theorem fk9(h:R5 nd es es' u v):V7 nd es / 3+1*((j3 nd es u v).length:Int)=V7 nd es' / 3:=by have:=h.tri.1;omega
theorem fm0(h:R5 nd es es' u v):V7 nd es' / 3+(-1)*((j3 nd es' u v).length:Int)=V7 nd es / 3:=by have:=h.tri.1;rw [h.common];omega
theorem dt7(h:R5 nd es es' u v):cr7 1 (j3 nd es u v) u v (H3 nd es)=H3 nd es':=h.bw0.1
theorem dt8(h:R5 nd es es' u v):cr7 (-1) (j3 nd es' u v) u v (H3 nd es')=H3 nd es:=by rw [h.common];exact h.bw0.2
end
theorem fr4{κ:Ctx}{I:List Item}{nd:Int}{es:List Pt}(hl:Sl κ I (.slice ea es.length ec) es)(hm:Sl κ I (.slice na (H3 nd es).length nc) (H3 nd es))(hG:s6 nd es)  :
    eu prog κ 299 [.agg #[e7 nd,.slice ea es.length ec,e7<|V7 nd es / 3,.slice na (H3 nd es).length nc]] I (λr J=>r = .bool true/\I=J):=by
 refine Ce1 Tryz.func299 C C ?_
 refine Ak<|Ge1 (Au (cs:=[_,_,_,_]) C C C) λb1=>Z ?_
 refine G.e (Ac c_ C C<|am8 (nd:=nd) (A4 hl) hG) ?_
 rintro _ _ ⟨_,_,⟨rfl,rfl⟩,rfl,rfl⟩
 refine Z ?_
 refine Am C (λc8=>Z ?_)<|λc8=>Z ?_
 ·exact Al C C I Ah ⟨by first|rfl|(simp;done)|exact absurd C asm,rfl⟩
 refine G.e (Ac c_ C C<|bo5 (nd:=nd) (A4 hl) hG) ?_
 rintro _ _ ⟨_,_,⟨ab,aa,rfl,rfl⟩,rfl,rfl⟩
 refine Z ?_
 refine A3 (d:=19) C (λM=>Z ?_)<|λM=>Z ?_
 ·refine Ds (Cn C C C) (Ac c_ C C<|cr0 (xs:=H3 nd es) (ys:=H3 nd es) (A4 hm) A5) ?_
  rintro _ _ ⟨_,_,⟨rfl,rfl⟩,rfl,rfl⟩
  refine Z ?_
  exact Al C C I Ah ⟨by first|rfl|(simp;done)|exact absurd C asm,rfl⟩
 exact Al C C I Ah ⟨by first|rfl|(simp;done)|exact absurd C asm,rfl⟩
theorem cw7{κ:Ctx}{I:List Item}{nd:Int}{es:List Pt}(hl:Sl κ I (.slice ea es.length ec) es)(hm:Sl κ I (.slice na (H3 nd es).length nc) (H3 nd es))(M:s6 nd es){u v:Int}(he:F5 nd u v)(hn:j4 u v∉es):eu prog κ 297 [.agg #[e7 nd,.slice ea es.length ec,e7 (V7 nd es / 3),.slice na (H3 nd es).length nc],e7 u,e7 v] I (λr J=>∃(ga:Option Addr) (gc:Nat) (a:Option Addr) (c:Nat) (w:Value),r = .tuple #[.agg #[e7 nd,.slice ga (z7 Pt.lt es (j4 u v)).length gc,e7 (V7 nd (z7 Pt.lt es (j4 u v)) / 3),.slice a (H3 nd (z7 Pt.lt es (j4 u v))).length c],w,e7 0]/\J=vk 3 a c (H3 nd (z7 Pt.lt es (j4 u v)))::vk 105 ga gc (z7 Pt.lt es (j4 u v))::I):=by
 have ao:=M.rng
 have aj:=he
 unfold F5 at aj
 have ap:=G8 nd es
 have aq:=bp3 M
 refine Ce3 Tryz.func297 C C ?_
 refine Ak<|Ge1 (Au (cs:=[_,_,_,_]) C C C) λb1=>Ge1 (Aj ad3 C) λb2=>Z ?_
 refine G.e (Ac c_ C C<|fr4 (nd:=nd) (A4 hl) (A4 hm) M) ?_
 rintro _ _ ⟨_,_,⟨rfl,rfl⟩,rfl,rfl⟩
 refine Z ?_
 refine G.e (Ac c_ C C<|bb6 (nd:=nd) (u:=u) (v:=v) (A4 hl) (add_zero M he hn)<|by have:=q9 M;omega) ?_
 rintro _ _ ⟨_,_,⟨aa,ad,rfl,rfl⟩,rfl,rfl⟩
 refine Z ?_
 refine Ge1 (Aj J8 C) λb5=>Ge0 (Cs J8)<|Z ?_
 refine Am C (λan=>Z ?_)<|λan=>Z ?_
 ·refine Ge0 (C8 ad3) (Z ?_)
  exact absurd rfl asm
 refine G.e (Ac c_ C C<|do6 (nd:=nd) (nd':=nd) (u:=u) (v:=v) (b':=1) (n0:=V7 nd es / 3) (ga:=aa) (gn:=((z7 Pt.lt es<|j4 u v)).length) (gc:=ad) (A4 hl) (A4 hm) M ta8 ta8 om om (db9 M) om dc) ?_
 rintro _ _ ⟨_,_,⟨ai,ae,rfl,rfl⟩,rfl,rfl⟩
 refine Z ?_
 refine Ge0 (C8 ad3)<|Z ?_
 have ab:=dt7 (R5.add M he hn)
 have ak:=fk9 (R5.add M he hn)
 have ah:(H3 nd<|z7 Pt.lt es<|j4 u v).length=(H3 nd es).length:=by rw [G8,G8]
 exact Cu C ad3 C C C mm C (vk 3 ai ae (H3 nd<|z7 Pt.lt es<|j4 u v)::vk 105 aa ad (z7 Pt.lt es<|j4 u v)::I) (by unfold vk;rw [←ab,ab,ah,←ab];exact Az) ⟨aa,ad,ai,ae,e7 ((j3 nd es u v).length:Int),by rw [←ak,ah];rfl,rfl⟩
theorem cw8{κ:Ctx}{I:List Item}{nd:Int}{es:List Pt}(hl:Sl κ I (.slice ea es.length ec) es)(hm:Sl κ I (.slice na (H3 nd es).length nc) (H3 nd es))(M:s6 nd es){u v:Int}(he:F5 nd u v)(hn:j4 u v∈es):eu prog κ 298 [.agg #[e7 nd,.slice ea es.length ec,e7 (V7 nd es / 3),.slice na (H3 nd es).length nc],e7 u,e7 v] I (λr J=>∃(ga:Option Addr) (gc:Nat) (a:Option Addr) (c:Nat) (w:Value),r = .tuple #[.agg #[e7 nd,.slice ga (j7 es (j4 u v)).length gc,e7 (V7 nd (j7 es (j4 u v)) / 3),.slice a (H3 nd (j7 es (j4 u v))).length c],w,e7 0]/\J=vk 3 a c (H3 nd (j7 es (j4 u v)))::vk 105 ga gc (j7 es (j4 u v))::I):=by
 have ao:=M.rng
 have aj:=he
 unfold F5 at aj
 have ap:=G8 nd es
 have aq:=bp3 M
 refine Ce3 Tryz.func298 C C ?_
 refine Ak<|Ge1 (Au (cs:=[_,_,_,_]) C C C) λb1=>Ge1 (Aj ad3 C) λb2=>Z ?_
 refine G.e (Ac c_ C C<|fr4 (nd:=nd) (A4 hl) (A4 hm) M) ?_
 rintro _ _ ⟨_,_,⟨rfl,rfl⟩,rfl,rfl⟩
 refine Z ?_
 refine Gc2 (Ac c_ C C<|bb4 (nd:=nd) (u:=u) (v:=v) (A4 hl) (ba0 M he hn)<|by have:=q9 M;omega) λaa ad=>Z ?_
 refine Ge1 (Aj J8 C) λb5=>Ge0 (Cs J8)<|Z ?_
 refine Am C (λan=>Z ?_)<|λan=>Z ?_
 ·refine Ge0 (C8 ad3) (Z ?_)
  exact absurd rfl asm
 refine G.e (Ac c_ C C<|do6 (nd:=nd) (nd':=nd) (u:=u) (v:=v) (b':= -1) (n0:=V7 nd es / 3) (ga:=aa) (gn:=((j7 es<|j4 u v)).length) (gc:=ad) (A4 hl) (A4 hm) M ta8 ta8 om om (db9 M) om dc) ?_
 rintro _ _ ⟨_,_,⟨ai,ae,rfl,rfl⟩,rfl,rfl⟩
 refine Z ?_
 refine Ge0 (C8 ad3)<|Z ?_
 have ab:=dt8 (R5.rem M he hn)
 have ak:=fm0 (R5.rem M he hn)
 have ah:(H3 nd<|j7 es<|j4 u v).length=(H3 nd es).length:=by rw [G8,G8]
 exact Cu C ad3 C C C mm C (vk 3 ai ae (H3 nd<|j7 es<|j4 u v)::vk 105 aa ad (j7 es<|j4 u v)::I) (by unfold vk;rw [←ab,ab,ah,←ab];exact Az) ⟨aa,ad,ai,ae,e7 ((j3 nd es u v).length:Int),by rw [←ak,ah];rfl,rfl⟩
theorem cw9{κ:Ctx}{I:List Item}{nd:Int}{es:List Pt}(hl:Sl κ I (.slice ea es.length ec) es)(hb:es.length<=1000000):eu prog κ 88 [.agg #[e7 nd,.slice ea es.length ec]] I (λr J=>∃(a:Option Addr) (c:Nat),r = .agg #[e7 nd,.slice a es.length c]/\J=vk 105 a c es::I):=by
 refine Ce1 Tryz.func88 C C ?_
 refine Ak<|Ge1 (Au (cs:=[_,_]) C C C) λb1=>Ge1 (Aj J8 C) λb2=>Z ?_
 refine Gc2 (Ac c_ C C<|an7 (xs:=es) (A4 hl) om) λM aa=>?_
 refine Gf K4 C<|Ge0 (Fc an1)<|Z ?_
 refine Ge0 (Cs J8) ?_
 exact Ar<|B3<|Ek C J8 C mm C (vk 105 M aa es::I) Az ⟨M,aa,rfl,rfl⟩
theorem fc6{κ:Ctx}{I:List Item}{nd:Int}{es:List Pt}(hl:Sl κ I (.slice ea es.length ec) es)(hG:s6 nd es):eu prog κ 43 [.agg #[e7 nd,.slice ea es.length ec]] I (λr J=>∃(ga:Option Addr) (gc:Nat) (a:Option Addr) (c:Nat),r = .tuple #[.agg #[e7 nd,.slice ga es.length gc,e7 (V7 nd es / 3),.slice a (H3 nd es).length c],e7 0]/\J=vk 3 a c (H3 nd es)::vk 105 ga gc es::I):=by
 have ae:=q9 hG
 refine Ce1 Tryz.func43 C C ?_
 refine Ak<|Ge1 (Au (cs:=[_,_]) C C C) λb1=>Ge1 (Aj ad3 C) λb2=>Z ?_
 refine G.e (Ac c_ C C<|am8 (nd:=nd) (A4 hl) hG) ?_
 rintro _ _ ⟨_,_,⟨rfl,rfl⟩,rfl,rfl⟩
 refine Z ?_
 refine Am C (λc10=>Z ?_)<|λc10=>Z ?_
 ·refine Ge0 (C8 ad3) (Z ?_)
  exact absurd rfl asm
 refine G.e (Ac c_ C C<|bo5 (nd:=nd) (A4 hl) hG) ?_
 rintro _ _ ⟨_,_,⟨aa,M,rfl,rfl⟩,rfl,rfl⟩
 refine Z ?_
 refine Gc2 (Ac c_ C C<|cw9 (nd:=nd) (A4 hl) om) λad ab=>Z ?_
 refine Ge0 (C8 ad3) ?_
 exact Ga C<|Ar<|B3<|Cp C ad3 C C mm C (vk 3 aa M (H3 nd es)::vk 105 ad ab es::I) Az ⟨ad,ab,aa,M,rfl,rfl⟩
variable {κ:Ctx}{I:List Item}
theorem fs4{nd:Int}{es:List Pt}(M:Sl κ I (.slice ea es.length ec) es)(hm:Sl κ I (.slice na (r8 nd es).length nc) (r8 nd es))(hG:s6 nd es)(hT:F4 κ I 0 p6):eu prog κ 306 [.agg #[e7 nd,.slice ea es.length ec,e7 (F8 nd es),e7 (J7 nd es),.slice na (r8 nd es).length nc]] I (λr J=>r = .bool true/\I=J):=by
 have ad:=hG.rng
 refine Ce1 Tryz.func306 C C ?_
 refine Ak<|Ge1 (Au (cs:=[_,_,_,_,_]) C C C) λb1=>Z ?_
 refine G.e (Ac c_ C C<|am8 (nd:=nd) (A4 M) hG) ?_
 rintro _ _ ⟨_,_,⟨rfl,rfl⟩,rfl,rfl⟩
 refine Z ?_
 refine Am C (λc8=>Z ?_)<|λc8=>Z ?_
 ·exact Al C C I Ah ⟨by first|rfl|(simp;done)|exact absurd C asm,rfl⟩
 refine Gc2 (Ac c_ C C<|bo4 (nd:=nd) (A4 M) hG<|A8 hT Ah) λah ae=>Z ?_
 refine Ba mixed<|Ee 19<|Z ?_
 refine Ds1 4<|Sc0 C (Ac c_ C C<|ca7 (nd:=nd) (A4 M) om)<|Z ?_
 refine Dj (d:=21) C (λaa=>Z ?_)<|λaa=>?_
 ·refine Dj (d:=27) C (λab=>Z ?_) (λab=>?_)
  ·refine Ds1 16 (Sc0 C (Ac c_ C C<|cr0 (xs:=r8 nd es) (ys:=r8 nd es) (A4 hm) A5)<|Z ?_)
   exact Al C C I Ah ⟨by first|rfl|(simp;done)|exact absurd C asm,rfl⟩
  refine Dpo 13 C<|Z ?_
  exact Al C C I Ah ⟨by first|rfl|(simp;done)|exact absurd C asm,rfl⟩
 refine Dpo 7 C<|Z ?_
 exact Al C C I Ah ⟨by first|rfl|(simp;done)|exact absurd C asm,rfl⟩
theorem cy2{nd:Int}{es:List Pt}(hl:Sl κ I (.slice ea es.length ec) es)(hm:Sl κ I (.slice na (r8 nd es).length nc) (r8 nd es))(M:s6 nd es){u v:Int}(he:F5 nd u v)(hn:j4 u v∉es)(hT:F4 κ I 0 p6):eu prog κ 304 [.agg #[e7 nd,.slice ea es.length ec,e7 (F8 nd es),e7 (J7 nd es),.slice na (r8 nd es).length nc],e7 u,e7 v] I (λr J=>∃(ga:Option Addr) (gc:Nat) (a:Option Addr) (c:Nat) (w:Value),r = .tuple #[.agg #[e7 nd,.slice ga (z7 Pt.lt es (j4 u v)).length gc,e7 (F8 nd (z7 Pt.lt es (j4 u v))),e7 (J7 nd (z7 Pt.lt es (j4 u v))),.slice a (r8 nd (z7 Pt.lt es (j4 u v))).length c],w,e7 0]/\J=vk 3 a c (r8 nd (z7 Pt.lt es (j4 u v)))::vk 105 ga gc (z7 Pt.lt es (j4 u v))::I):=by
 have ap:=M.rng
 have aj:=he
 unfold F5 at aj
 have aq:=F7 nd es
 have ar:=ck2 M
 have au:=bv2 M
 refine Ce3 Tryz.func304 C C ?_
 refine Ak<|Ge1 (Au (cs:=[_,_,_,_,_]) C C C) λb1=>Ge1 (Aj V6 C) λb2=>Z ?_
 refine Gc0 (Ac c_ C C<|fs4 (nd:=nd) (A4 hl) (A4 hm) M<|A8 hT Ah)<|Z ?_
 refine G.e (Ac c_ C C<|bb6 (nd:=nd) (u:=u) (v:=v) (A4 hl) (add_zero M he hn)<|by have:=q9 M;omega) ?_
 rintro _ _ ⟨_,_,⟨aa,ab,rfl,rfl⟩,rfl,rfl⟩
 refine Z ?_
 refine Ge1 (Aj J8 C) λb5=>Ge0 (Cs J8)<|Z ?_
 refine Am C (λao=>Z ?_)<|λao=>Z ?_
 ·refine Ge0 (E5 V6) (Z ?_)
  exact absurd rfl asm
 refine G.e (Ac c_ C C<|dp9 (nd:=nd) (nd':=nd) (nd0:=nd) (u:=u) (v:=v) (b':=1) (w0:=F8 nd es) (n0:=J7 nd es) (ga:=aa) (gn:=((z7 Pt.lt es<|j4 u v)).length) (gc:=ab) (A4 hl) (A4 hm) M ta8 ta8 om (ck1 M) om om dc<|A8 hT Ah) ?_
 rintro _ _ ⟨_,_,⟨ah,ad,rfl,rfl⟩,rfl,rfl⟩
 refine Z ?_
 refine Ge0 (E5 V6)<|Z ?_
 have ak:=(R5.add M he hn).bm3.1
 obtain ⟨ai,an⟩:=dv4 (R5.add M he hn)
 have ae:(r8 nd<|z7 Pt.lt es<|j4 u v).length=(r8 nd es).length:=by rw [F7,F7]
 exact Cu C V6 C C C mm C (vk 3 ah ad (r8 nd<|z7 Pt.lt es<|j4 u v)::vk 105 aa ab (z7 Pt.lt es<|j4 u v)::I) (by unfold vk;rw [ae,←ak];exact Az) ⟨aa,ab,ah,ad,_,by rw [←ai,←an,ae]<;>rfl,rfl⟩
theorem cy3{nd:Int}{es:List Pt}(hl:Sl κ I (.slice ea es.length ec) es)(hm:Sl κ I (.slice na (r8 nd es).length nc) (r8 nd es))(M:s6 nd es){u v:Int}(he:F5 nd u v)(hn:j4 u v∈es)(hT:F4 κ I 0 p6):eu prog κ 305 [.agg #[e7 nd,.slice ea es.length ec,e7 (F8 nd es),e7 (J7 nd es),.slice na (r8 nd es).length nc],e7 u,e7 v] I (λr J=>∃(ga:Option Addr) (gc:Nat) (a:Option Addr) (c:Nat) (w:Value),r = .tuple #[.agg #[e7 nd,.slice ga (j7 es (j4 u v)).length gc,e7 (F8 nd (j7 es (j4 u v))),e7 (J7 nd (j7 es (j4 u v))),.slice a (r8 nd (j7 es (j4 u v))).length c],w,e7 0]/\J=vk 3 a c (r8 nd (j7 es (j4 u v)))::vk 105 ga gc (j7 es (j4 u v))::I):=by
 have ap:=M.rng
 have aj:=he
 unfold F5 at aj
 have aq:=F7 nd es
 have ar:=ck2 M
 have au:=bv2 M
 refine Ce3 Tryz.func305 C C ?_
 refine Ak<|Ge1 (Au (cs:=[_,_,_,_,_]) C C C) λb1=>Ge1 (Aj V6 C) λb2=>Z ?_
 refine Gc0 (Ac c_ C C<|fs4 (nd:=nd) (A4 hl) (A4 hm) M<|A8 hT Ah)<|Z ?_
 refine Gc2 (Ac c_ C C<|bb4 (nd:=nd) (u:=u) (v:=v) (A4 hl) (ba0 M he hn)<|by have:=q9 M;omega) λaa ab=>Z ?_
 refine Ge1 (Aj J8 C) λb5=>Ge0 (Cs J8)<|Z ?_
 refine Am C (λao=>Z ?_)<|λao=>Z ?_
 ·refine Ge0 (E5 V6) (Z ?_)
  exact absurd rfl asm
 refine G.e (Ac c_ C C<|dp9 (nd:=nd) (nd':=nd) (nd0:=nd) (u:=u) (v:=v) (b':= -1) (w0:=F8 nd es) (n0:=J7 nd es) (ga:=aa) (gn:=((j7 es<|j4 u v)).length) (gc:=ab) A5 (A4 hm) (R5.rem M he hn).ok ta8 ta8 om (ck1 M) om om dc (A8 hT Ah)) ?_
 rintro _ _ ⟨_,_,⟨ah,ad,rfl,rfl⟩,rfl,rfl⟩
 refine Z ?_
 refine Ge0 (E5 V6)<|Z ?_
 have ak:=(R5.rem M he hn).bm3.2
 obtain ⟨ai,an⟩:=dv5 (R5.rem M he hn)
 have ae:(r8 nd<|j7 es<|j4 u v).length=(r8 nd es).length:=by rw [F7,F7]
 exact Cu C V6 C C C mm C (vk 3 ah ad (r8 nd<|j7 es<|j4 u v)::vk 105 aa ab (j7 es<|j4 u v)::I) (by unfold vk;rw [ae,←ak];exact Az) ⟨aa,ab,ah,ad,_,by rw [←ai,←an,ae]<;>rfl,rfl⟩
theorem ff1{nd:Int}{es:List Pt}(hl:Sl κ I (.slice ea es.length ec) es)(hG:s6 nd es)(hT:F4 κ I 0 p6):eu prog κ 44 [.agg #[e7 nd,.slice ea es.length ec]] I (λr J=>∃(ga:Option Addr) (gc:Nat) (a:Option Addr) (c:Nat),r = .tuple #[.agg #[e7 nd,.slice ga es.length gc,e7 (F8 nd es),e7 (J7 nd es),.slice a (r8 nd es).length c],e7 0]/\J=vk 3 a c (r8 nd es)::vk 105 ga gc es::I):=by
 have ah:=q9 hG
 have ae:=hG.rng
 refine Ce1 Tryz.func44 C C ?_
 refine Ak<|Ge1 (Au (cs:=[_,_]) C C C) λb1=>Ge1 (Aj V6 C) λb2=>Z ?_
 refine G.e (Ac c_ C C<|am8 (nd:=nd) (A4 hl) hG) ?_
 rintro _ _ ⟨_,_,⟨rfl,rfl⟩,rfl,rfl⟩
 refine Z ?_
 refine Am C (λc10=>Z ?_)<|λc10=>Z ?_
 ·refine Ge0 (E5 V6) (Z ?_)
  exact absurd rfl asm
 refine Gc2 (Ac c_ C C<|bo4 (nd:=nd) (A4 hl) hG<|A8 hT Ah) λaa M=>Z ?_
 refine Ba mixed<|Ee 11<|Z ?_
 refine Ds1 4<|Sc2 C (Ac c_ C C<|an7 (xs:=es) (A4 hl) om) λad ab=>Z ?_
 refine Ds1 7<|Sc0 C (Ac c_ C C<|ca7 (nd:=nd) (A4 hl) om)<|Z ?_
 refine Cg kr ?_
 refine Ae 11 C (E5 V6) ?_
 rintro _ _ ⟨rfl,rfl⟩
 refine Dg (i:=12) kr C (Ap C) C C (Bh C) ?_
 refine Ch kr<|Z ?_
 exact Cp C V6 C C mm C (vk 3 aa M (r8 nd es)::vk 105 ad ab es::I) Az ⟨ad,ab,aa,M,rfl,rfl⟩
theorem fr9{κ:Ctx}{I:List Item}{nd:Int}{es:List Pt}(hl:Sl κ I (.slice ea es.length ec) es)(hG:s6 nd es)(hT:F4 κ I 0 p6):eu prog κ 41 [.agg #[e7 nd,.slice ea es.length ec]] I (λr J=>∃(ga:Option Addr) (gc:Nat) (a:Option Addr) (c:Nat),r = .tuple #[.agg #[e7 nd,.slice ga es.length gc,.slice a (j9 nd es).length c],e7 0]/\J=vk 3 a c (j9 nd es)::vk 105 ga gc es::I):=by
 have ae:=s4.2 hG
 have ah:=q9 hG
 refine Ce1 Tryz.func41 C C ?_
 refine Ak<|Ge1 (Au (cs:=[_,_]) C C C) λb1=>Ge1 (Aj ab7 C) λb2=>Z ?_
 refine Gc2 (Ac c_ C C<|bi7 (nd:=nd) (A4 hl)<|A8 hT Ah) λaa M=>Z ?_
 refine Am C (λc12=>Z ?_)<|λc12=>?_
 ·refine Ge0 (Da ab7) (Z ?_)
  exact Cp C ab7 C C mm C I Ah<|by exfalso;first|exact absurd ae asm|omega
 refine Bc<|Ao<|Ax<|Ba mixed<|Ee 8<|Z ?_
 refine Ds1 4<|Sc2 C (Ac c_ C C<|an7 (xs:=es) (A4 hl) om) λad ab=>Z ?_
 refine Cg kr ?_
 refine Ae 8 C (Da ab7) ?_
 rintro _ _ ⟨rfl,rfl⟩
 refine Dg (i:=9) kr C (Ap C) C C (Bh C) ?_
 refine Ch kr<|Z ?_
 exact Cp C ab7 C C mm C (vk 3 aa M (j9 nd es)::vk 105 ad ab es::I) Az ⟨ad,ab,aa,M,rfl,rfl⟩
variable {κ:Ctx}{I:List Item}
structure SlA where
 a:Option Addr
 c:Nat
structure PkV where
 e1:SlA
 n1:SlA
 e2:SlA
 n2:SlA
 e3:SlA
 n3:SlA
 e4:SlA
 n4:SlA
abbrev pq(nd:Int)(E:List Pt)(p:PkV):List Value:=[e7 nd,.slice p.e1.a E.length p.e1.c,.slice p.n1.a (j9 nd E).length p.n1.c,e7 nd,.slice p.e2.a E.length p.e2.c,.slice p.n2.a (j6 nd E).length p.n2.c,e7 nd,.slice p.e3.a E.length p.e3.c,e7 (V7 nd E / 3),.slice p.n3.a (H3 nd E).length p.n3.c,e7 nd,.slice p.e4.a E.length p.e4.c,e7 (F8 nd E),e7 (J7 nd E),.slice p.n4.a (r8 nd E).length p.n4.c]
abbrev px(nd:Int)(E0:List Pt)(a0:Option Addr)(c0:Nat)(b0:Option Addr)(d0:Nat)(E1:List Pt)(a1:Option Addr)(c1:Nat)(b1:Option Addr)(d1:Nat)(E2:List Pt)(a2:Option Addr)(c2:Nat)(b2:Option Addr)(d2:Nat)(E3:List Pt)(a3:Option Addr)(c3:Nat)(b3:Option Addr)(d3:Nat):List Value:=[e7 nd,.slice a0 E0.length c0,.slice b0 (j9 nd E0).length d0,e7 nd,.slice a1 E1.length c1,.slice b1 (j6 nd E1).length d1,e7 nd,.slice a2 E2.length c2,e7 (V7 nd E2 / 3),.slice b2 (H3 nd E2).length d2,e7 nd,.slice a3 E3.length c3,e7 (F8 nd E3),e7 (J7 nd E3),.slice b3 (r8 nd E3).length d3]
abbrev ky(kd wd mo bd lt mr:Int)(wa:Option Addr)(wn wc:Nat)(nd:Int)(la:Option Addr)(ln lc:Nat)(E:List Pt)(p:PkV)(tm:Int):List Value:=[e7 kd,e7 wd,e7 mo,e7 bd,e7 lt,e7 mr,.slice wa wn wc,e7 nd,.slice la ln lc,e7 nd,.slice p.e1.a E.length p.e1.c,.slice p.n1.a (j9 nd E).length p.n1.c,e7 nd,.slice p.e2.a E.length p.e2.c,.slice p.n2.a (j6 nd E).length p.n2.c,e7 nd,.slice p.e3.a E.length p.e3.c,e7 (V7 nd E / 3),.slice p.n3.a (H3 nd E).length p.n3.c,e7 nd,.slice p.e4.a E.length p.e4.c,e7 (F8 nd E),e7 (J7 nd E),.slice p.n4.a (r8 nd E).length p.n4.c,e7 tm]
structure PkR (κ:Ctx) (T:List Item) (nd:Int) (es:List Pt) (v:PkV):Prop where
 e1:Sl κ T (.slice v.e1.a es.length v.e1.c) es
 n1:Sl κ T (.slice v.n1.a (j9 nd es).length v.n1.c) (j9 nd es)
 e2:Sl κ T (.slice v.e2.a es.length v.e2.c) es
 n2:Sl κ T (.slice v.n2.a (j6 nd es).length v.n2.c) (j6 nd es)
 e3:Sl κ T (.slice v.e3.a es.length v.e3.c) es
 n3:Sl κ T (.slice v.n3.a (H3 nd es).length v.n3.c) (H3 nd es)
 e4:Sl κ T (.slice v.e4.a es.length v.e4.c) es
 n4:Sl κ T (.slice v.n4.a (r8 nd es).length v.n4.c) (r8 nd es)
theorem PkR.fit{κ:Ctx}{I J:List Item}{nd:Int}{es:List Pt}{v:PkV}(h:PkR κ I nd es v)(f:Fit κ J I):PkR κ J nd es v:=
 ⟨h.e1.fit f,h.n1.fit f,h.e2.fit f,h.n2.fit f,h.e3.fit f,h.n3.fit f,h.e4.fit f,h.n4.fit f⟩
theorem gc6(hl:Sl κ I va xs)(hm:Sl κ I vb xs):eu prog κ 265 [va,vb] I (λr J=>r = .bool true/\I=J):=by
 refine Bv hl.le λab=>?_
 refine Ce2 Tryz.func265 C C<|Z ?_
 refine Am C (λc10=>?_)<|λc10=>Z ?_
 ·omega
 refine Dh (σ:=Nat) (λs=>[(13,e7 ((s:Nat):Int))]) (λ_=>[]) (λs=>(s<=xs.length)) (λs=>xs.length - s) 0 (show ((0:Nat)<=xs.length) from om) ?_
 rintro k hp
 have hk:=hp
 refine Z ?_
 refine Am C (λaa=>Z ?_)<|λaa=>Z ?_
 ·refine Ba mixed (Bx I 9<|Z ?_)
  refine Dr 8 C (j8.fz0 (α:=Pt) (a:=(e_ xs k)) (b:=(e_ xs k)) ay7 C C)<|Z ?_
  refine Am C (λM=>?_)<|λM=>Z ?_
  ·exact absurd rfl M
  exact Bt ((k+1)) om
 exact Al C C I Ah ⟨rfl,rfl⟩
theorem bb3{nd:Int}(hl:Sl κ I va xs)(hm:Sl κ I vb xs):eu prog κ 258 [.agg #[e7 nd,va],.agg #[e7 nd,vb]] I (λr J=>r = .bool true/\I=J):=by
 refine Ce2 Tryz.func258 C C ?_
 refine Ak<|Ge1 (Au (cs:=[_,_]) C C C) λb1=>Ge1 (Au (cs:=[_,_]) C C C) λb2=>Z ?_
 refine A3 (d:=10) C (λM=>Z ?_)<|λM=>?_
 ·refine Ds (Cn C C C) (Ac c_ C C<|gc6 (xs:=xs) (A4 hl)<|A4 hm) ?_
  rintro _ _ ⟨_,_,⟨rfl,rfl⟩,rfl,rfl⟩
  refine Z ?_
  exact Al C C I Ah ⟨rfl,rfl⟩
 exact absurd rfl M
theorem fr3{nd:Int}{es:List Pt}(hl:Sl κ I (.slice ea es.length ec) es)(hm:Sl κ I (.slice na (j9 nd es).length nc) (j9 nd es))(hG:s6 nd es)(hg:Sl κ I (.slice ga es.length gc) es)(hT:F4 κ I 0 p6):eu prog κ 254 [(pt b),.agg #[e7 nd,.slice ga es.length gc]] (e8 b [e7 nd,.slice ea es.length ec,.slice na (j9 nd es).length nc,y3,y4,y5,y6,y7,y8,y9,aa,M,ab,ae,ad] 169::I) (λr J=>r = .bool true/\J=e8 b [e7 nd,.slice ea es.length ec,.slice na (j9 nd es).length nc,y3,y4,y5,y6,y7,y8,y9,aa,M,ab,ae,ad] 169::I):=by
 refine Ce2 Tryz.func254 C C ?_
 refine Ak<|Ge1 (Au (cs:=[_,_]) C C C) λb1=>Ga C<|Ar<|Ax<|Ba mixed<|Ee 15<|Z ?_
 refine Ds1 6<|Sc0 C (Ac c_ C C<|bb3 (nd:=nd) (xs:=es) (A4 hl)<|A4 hg)<|Z ?_
 refine Ds1 12<|Sc0 C (Ac c_ C C<|dp6 (nd:=nd) (A4 hl) (A4 hm) hG<|A8 hT Ah)<|Z ?_
 exact Al C C (e8 b [e7 nd,.slice ea es.length ec,.slice na (j9 nd es).length nc,y3,y4,y5,y6,y7,y8,y9,aa,M,ab,ae,ad] 169::I) Az ⟨rfl,rfl⟩
theorem fr2{nd:Int}{es:List Pt}(hl:Sl κ I (.slice ea es.length ec) es)(hm:Sl κ I (.slice na (j6 nd es).length nc) (j6 nd es))(hG:s6 nd es)(hg:Sl κ I (.slice ga es.length gc) es)(hT:F4 κ I 0 p6):eu prog κ 281 [.pointer (some ⟨b,3,none⟩),.agg #[e7 nd,.slice ga es.length gc]] (e8 b [y0,y1,y2,e7 nd,.slice ea es.length ec,.slice na (j6 nd es).length nc,y6,y7,y8,y9,aa,M,ab,ae,ad] 169::I) (λr J=>r = .bool true/\J=e8 b [y0,y1,y2,e7 nd,.slice ea es.length ec,.slice na (j6 nd es).length nc,y6,y7,y8,y9,aa,M,ab,ae,ad] 169::I):=by
 refine Ce2 Tryz.func281 C C ?_
 refine Ak<|Ge1 (Au (cs:=[_,_]) C C C) λb1=>Ga C<|Ar<|Ax<|Ba mixed<|Ee 15<|Z ?_
 refine Ds1 6<|Sc0 C (Ac c_ C C<|bb3 (nd:=nd) (xs:=es) (A4 hl)<|A4 hg)<|Z ?_
 refine Ds1 12<|Sc0 C (Ac c_ C C<|gc2 (nd:=nd) (A4 hl) (A4 hm) hG<|A8 hT Ah)<|Z ?_
 exact Al C C (e8 b [y0,y1,y2,e7 nd,.slice ea es.length ec,.slice na (j6 nd es).length nc,y6,y7,y8,y9,aa,M,ab,ae,ad] 169::I) Az ⟨rfl,rfl⟩
theorem fr1{nd:Int}{es:List Pt}(hl:Sl κ I (.slice ea es.length ec) es)(hm:Sl κ I (.slice na (H3 nd es).length nc) (H3 nd es))(hG:s6 nd es)(hg:Sl κ I (.slice ga es.length gc) es)  :
    eu prog κ 295 [.pointer (some ⟨b,6,none⟩),.agg #[e7 nd,.slice ga es.length gc]] (e8 b [y0,y1,y2,y3,y4,y5,e7 nd,.slice ea es.length ec,e7<|V7 nd es / 3,.slice na (H3 nd es).length nc,aa,M,ab,ae,ad] 169::I) (λr J=>r = .bool true/\J=e8 b [y0,y1,y2,y3,y4,y5,e7 nd,.slice ea es.length ec,e7<|V7 nd es / 3,.slice na (H3 nd es).length nc,aa,M,ab,ae,ad] 169::I):=by
 refine Ce2 Tryz.func295 C C ?_
 refine Ak<|Ge1 (Au (cs:=[_,_]) C C C) λb1=>Ga C<|Ar<|Ax<|Ba mixed<|Ee 15<|Z ?_
 refine Ds1 6<|Sc0 C (Ac c_ C C<|bb3 (nd:=nd) (xs:=es) (A4 hl)<|A4 hg)<|Z ?_
 refine Ds1 12<|Se C (Ac c_ C C<|fr4 (nd:=nd) (A4 hl) (A4 hm) hG) ?_
 rintro _ _ ⟨_,_,⟨rfl,rfl⟩,rfl,rfl⟩
 refine ⟨Ah,?_⟩
 refine Z ?_
 exact Al C C (e8 b [y0,y1,y2,y3,y4,y5,e7 nd,.slice ea es.length ec,e7<|V7 nd es / 3,.slice na (H3 nd es).length nc,aa,M,ab,ae,ad] 169::I) Az ⟨rfl,rfl⟩
theorem fr0{nd:Int}{M:Nat}{es:List Pt}(hl:Sl κ I (.slice ea es.length ec) es)(hm:Sl κ I (.slice na (r8 nd es).length M) (r8 nd es))(hG:s6 nd es)(hg:Sl κ I (.slice ga es.length gc) es)(hT:F4 κ I 0 p6):eu prog κ 302 [.pointer (some ⟨b,10,none⟩),.agg #[e7 nd,.slice ga es.length gc]] (e8 b [y0,y1,y2,y3,y4,y5,y6,y7,y8,y9,e7 nd,.slice ea es.length ec,e7 (F8 nd es),e7 (J7 nd es),.slice na (r8 nd es).length M] 169::I) (λr J=>r = .bool true/\J=e8 b [y0,y1,y2,y3,y4,y5,y6,y7,y8,y9,e7 nd,.slice ea es.length ec,e7 (F8 nd es),e7 (J7 nd es),.slice na (r8 nd es).length M] 169::I):=by
 refine Ce2 Tryz.func302 C C ?_
 refine Ak<|Ge1 (Au (cs:=[_,_]) C C C) λb1=>Ga C<|Ar<|Ax<|Ba mixed<|Ee 15<|Z ?_
 refine Ds1 6<|Sc0 C (Ac c_ C C<|bb3 (nd:=nd) (xs:=es) (A4 hl)<|A4 hg)<|Z ?_
 refine Ds1 12<|Sc0 C (Ac c_ C C<|fs4 (nd:=nd) (A4 hl) (A4 hm) hG<|A8 hT Ah)<|Z ?_
 exact Al C C (e8 b [y0,y1,y2,y3,y4,y5,y6,y7,y8,y9,e7 nd,.slice ea es.length ec,e7<|F8 nd es,e7<|J7 nd es,.slice na (r8 nd es).length M] 169::I) Az ⟨rfl,rfl⟩
end Go.Sl
