/- A part of the proofs of statements of this seat: contracts of functions, and the plain laws that they lean on. No conditions. -/
import Derived.Test.YtoagcglbkeomgaaGreatDoorE20
import Derived.Test.YtoagcglbkeomgaaGreatDoorE22
set_option linter.unusedVariables false
set_option linter.unusedSimpArgs false
set_option linter.unusedSectionVars false
open Go.Proofs.Tryz (prog)
namespace Go.Sl
open Go.Proofs
set_option maxRecDepth 4000
variable{b' nd u v x:Int}{es:List Pt}{num:List Int}
variable {κ:Ctx}{I:List Item}
theorem cx0{a0 b0:Option Addr}{n0 m0 c0 d0:Nat}(hn:n0=(nbG nd es u).length)(M:m0=(nbG nd es v).length)(hl:Sl κ I (.slice a0 n0 c0) (nbG nd es u))(hm:Sl κ I (.slice b0 m0 d0) (nbG nd es v))(aa:u≠v):eu prog κ 133 [.slice a0 n0 c0,.slice b0 m0 d0] I λr J=>∃a c,r = .slice a (j3 nd es u v).length c/\J=vk 3 a c (j3 nd es u v)::I:=by
 have h1:=K0 nd es u
 have:=bn5 hn M hl hm (bd2 _ _ _) (bd2 _ _ _) om
 rw [ay1 aa] at this
 exact this
theorem am4{v:Value}(M:Sl κ I v es)(hG:s8 nd es):eu prog κ 86 [.agg #[e7 nd,v]] I λr J=>r=e7 0/\I=J:=by
 have h:=V0 (nd:=nd) M
 rw [s4.2 hG] at h
 exact h
theorem fz4(M : -1<=b'/\b'<=1) : -64<=b'*((j3 nd es u v).length:Int)/\b'*((j3 nd es u v).length:Int)<=64:=by
 have:=M2 nd es u v
 rcases (by omega:b' = -1\/b'=0\/b'=1) with h|h|h<;>rw [h]<;>omega
theorem di3{ls:List Int}(hn:ls.Nodup)(hr:∀w∈ls,0<=w/\w<(num.length:Int))(hb : -1<=b'/\b'<=1)(hv:∀x∈num,0<=x/\x<=1000000)(M:0<=x/\x<(num.length:Int)) : -1<=e_ (ls.foldl (X8 b') num) x/\e_ (ls.foldl (X8 b') num) x<=1000001:=by
 have h1:=hv _ (Bn (xs:=num) (i:=x) M.1 om)
 rw [ac6 _ _ hr _ M.1,M1 hn]
 split
 ·omega
 omega
theorem di5{d m lo hi:Int}{xs:List Int}(hu:0<=u/\u<(xs.length:Int))(M:0<=x)(hd : -m<=d/\d<=m)(h:lo<=e_ xs x/\e_ xs x<=hi)(hm:0<=m):lo - m<=e_ (List.set xs u.toNat (e_ xs u+d)) x/\e_ (List.set xs u.toNat (e_ xs u+d)) x<=hi+m:=by
 rw [Eh _ _ _ _ hu.1 M om]
 split
 ·subst_vars;omega
 omega
set_option maxHeartbeats 2000000 in
theorem do0{nd' n0:Int}{ea na ga:Option Addr}{ec nc gn gc:Nat}(hl:Sl κ I (.slice ea es.length ec) es)(hm:Sl κ I (.slice na num.length nc) num)(hG:s8 nd es)(hu:p8 nd u)(hv:p8 nd v)(a4:u≠v)(a6:(num.length:Int)=nd)(ap:∀x∈num,0<=x/\x<=1000000)(bc:0<=n0/\n0<=1000000)(hb : -1<=b'/\b'<=1):eu prog κ 300 [.agg #[e7 nd,.slice ea es.length ec,e7 n0,.slice na num.length nc],.agg #[e7 (nd'),.slice ga gn gc],e7 u,e7 v,e7 (b')] I (λr J=>∃(a:Option Addr) (c:Nat),r = .tuple #[.agg #[e7 nd',.slice ga gn gc,e7 (n0+b'*((j3 nd es u v).length:Int)),.slice a num.length c],e7 ((j3 nd es u v).length:Int),e7 0]/\J=vc 3 (.slice a num.length c) (cr7 b' (j3 nd es u v) u v num)::I):=by
 have a8:=hG.rng
 have bb:0<=u/\u<nd:=hu
 have ba:0<=v/\v<nd:=hv
 have a9:=M2 nd es u v
 have a3:=fz4 (nd:=nd) (u:=u) (v:=v) (es:=es) hb
 have hS:∀w∈j3 nd es u v,0<=w/\w<(num.length:Int):=λw hw=>by have:=Y0 hG hw;omega
 refine Ce5 Tryz.func300 C C ?_
 refine Am<|Ge1 (Au (cs:=[_,_,_,_]) C C C) λb1=>Ge1 (Au (cs:=[_,_]) C C C) λb2=>Ge1 (Aj ad0 C) λb3=>Ga C<|Ga C<|Ar<|Am<|Gf dj3 C<|Gl2 J9 ?_
 refine G.e (Ac c_ C C<|cq5 (nd:=nd) (A4 hl) hG) ?_
 rintro _ _ ⟨_,_,⟨ax,aw,rs,aq,rfl,an,rfl⟩,rfl,rfl⟩
 refine Ds (J:=vk 22 ax aw rs::e8 b3 [e7 0,.slice none 0 0,e7 0,.slice none 0 0] 43::e8 b2 [e7 (nd'),.slice ga gn gc] 38::e8 b1 [e7 nd,.slice ea es.length ec,e7 n0,.slice na num.length nc] 43::(ao8 3 aq++I)) (Cj<|List.Perm.cons _<|C0 (A:=ao8 3 aq) (L:=[e8 b3 [e7 0,.slice none 0 0,e7 0,.slice none 0 0] 43,e8 b2 [e7 (nd'),.slice ga gn gc] 38,e8 b1 [e7 nd,.slice ea es.length ec,e7 n0,.slice na num.length nc] 43]) (T:=I)) ?_
 have a7:=an.len
 refine Ga C<|Ar<|A0 (S7 13 10 6 5 2 3 4)<|Ay<|A9 mixed<|Ed 10<|Dr 0 C (Aq C)<|Dr 1 C (Aq C)<|Dr 2 C (A2 (α:=(F9 Int)) (xs:=rs) Cq W4 C C A5 (by first|omega|(have h8:=M om;omega))<|by first|omega|(have h8:=M om;omega)|(simp only [Fq];omega))<|Dr 3 C (Cc (α:=(F9 Int)) (xs:=rs) (u:= .slice (e_ rs u).a (e_ rs u).xs.length (e_ rs u).c) W4 C A5 (by first|omega|(have h8:=M om;omega)) (by first|omega|(have h8:=M om;omega)|(simp only [Fq];omega)) C)<|Dr 4 C (Aq C)<|Dr 5 C (Aq C)<|Dr 6 C (A2 (α:=(F9 Int)) (xs:=rs) Cq W4 C C A5 (by first|omega|(have h8:=M om;omega))<|by first|omega|(have h8:=M om;omega)|(simp only [Fq];omega))<|Dr 7 C (Cc (α:=(F9 Int)) (xs:=rs) (u:= .slice (e_ rs v).a (e_ rs v).xs.length (e_ rs v).c) W4 C A5 (by first|omega|(have h8:=M om;omega)) (by first|omega|(have h8:=M om;omega)|(simp only [Fq];omega)) C)<|Ds1 8<|Sc2 C (Ac c_ C C<|cx0 (an.row _ om om).2 (an.row _ om om).2 (Bd (an.held (I:=I) (i:=u) om om) Ah) (Bd (an.held (I:=I) (i:=v) om om) Ah) a4) λai aj=>?_
 refine Dr 9 C (Be C)<|Dz<|Ao<|A0 (S7 14 10 6 5 2 3 4)<|Ay<|A9 mixed<|Ed 13<|Dr 0 C (Bm (vs:=[_,_]) J9) ?_
 refine Dr 1 C (Af dj2 C)<|Dr 2 C (Bf ef) ?_
 refine Dr 3 C (Aq C)<|Dr 4 C (Aq C)<|Dr 5 C (Bl Ab C)<|Dr 6 C (Ep C C<|by first|(unfold InR;omega)|(have h7:=aa om;have h8:=ab om;unfold InR;omega))<|Dr 7 C (Ct C C<|by first|(unfold InR;omega)|(have h7:=aa om;have h8:=ab om;unfold InR;omega))<|Dr 8 C (Af aj1 C)<|Dr 9 C (Bf W4) ?_
 refine C8 (rs:=[10,12]) kr C C<|Ei ?_<|Do ?_
 ·refine Sc2 C (Ac c_ C C<|ah0 (xs:=num) (A4 hm) om) λao ar=>?_
  refine Dr 11 C (Cm (cells:=[_,_,_,_]) ad0 Tryz.underlying43 ge1 C C)<|Ds1 12<|Se1 C (Aj ad0 C) λaz=>?_
  refine Cg kr ?_
  refine Ae 13 C (C7 ad0) ?_
  rintro _ _ ⟨rfl,rfl⟩
  refine Ch kr ?_
  refine Ao<|A0 (S6 15 14 10 2 3 4)<|Ay<|Am<|Gm C<|Gr (Bl Ab C)<|Gm C<|Ar<|A8<|B9 (σ:=Nat×(List Int)) (λs=>([(2,e7 u),(3,e7 v),(4,e7<|b'),(10,pt b3),(14,.slice ai (j3 nd es u v).length aj),(15,pt az),(42,.slice ai (j3 nd es u v).length aj),(43,e7<|(((j3 nd es u v).length:Nat):Int)),(44,e7 ((s.1:Nat):Int))]:Env)) (λs=>e8 az [e7 (nd'),.slice ga gn gc,e7<|n0+(b'*(((j3 nd es u v).length:Nat):Int)),.slice ao num.length ar] 43::vc 3 (.slice ao num.length ar) (s.2)::vk 3 ai aj (j3 nd es u v)::vk 22 ax aw rs::e8 b3 [e7 0,.slice none 0 0,e7 0,.slice none 0 0] 43::e8 b2 [e7 (nd'),.slice ga gn gc] 38::e8 b1 [e7 nd,.slice ea es.length ec,e7 n0,.slice na num.length nc] 43::(ao8 3 aq++I)) (λs=>(s.1<=(j3 nd es u v).length)/\(s.2=((j3 nd es u v).take s.1).foldl (X8 b') num)) (λs=>(j3 nd es u v).length - s.1) (0,num) ⟨om,rfl⟩ (cx4<|cx4<|Aa Cn Bb) Ai ?_
  rintro ⟨k,out⟩ hp
  dsimp only at hp ⊢
  obtain ⟨hk,ho⟩:=hp
  have a5:out.length=num.length:=by rw [ho];exact J3 _ _
  have M:=λh:k<(j3 nd es u v).length=>hS _ (Bn (xs:=(j3 nd es u v)) (i:=(k:Int)) om om)
  have aa:=λh:k<(j3 nd es u v).length=>be3 (b':=b') (num:=num) (H4 nd es u v) hS h
  rw [←ho] at aa
  have ab:=λh:k<(j3 nd es u v).length=>ap _ (Bn (xs:=num) (i:=e_ (j3 nd es u v) k) (M h).1 (M h).2)
  have ad:=fun (x:Int) (hx:0<=x/\x<(num.length:Int))=>di3 (b':=b') ((H4 nd es u v).sublist (Ld k _)) (λw hw=>hS w<|Hx hw) hb ap hx
  rw [←ho] at ad
  have ay:=ad u om
  have ak:=ad v om
  have a1:=di5 (x:=v) (u:=u) (xs:=out) (d:=b'*((j3 nd es u v).length:Int)) (m:=64) om om a3 ak om
  refine Am<|Gr (Bj C C)<|Ar<|Ay<|Al C (λav=>?_)<|λav=>?_
  ·refine Bc (Ao<|Ay<|A8<|Am<|Gr (A2 (α:=Int) (xs:=j3 nd es u v) Ab ef C C A5 (by first|omega|(have h8:=M om;omega))<|by first|omega|(have h8:=M om;omega)|(simp only [Fq];omega))<|Gr (B8 (xs:=j3 nd es u v) ef C A5 (by first|omega|(have h8:=M om;omega))<|by first|omega|(have h8:=M om;omega)|(simp only [Fq];omega))<|Ga C<|Ar<|Ba<|Gf aj1 C<|Gl W4 ?_)
   refine Gm C<|Gr (A2 (α:=Int) (xs:=out) Ab ef C C A5 (by first|omega|(have h8:=M om;omega))<|by first|omega|(have h8:=M om;omega)|(simp only [Fq];omega))<|Gr (B8 (xs:=out) ef C A5 (by first|omega|(have h8:=M om;omega))<|by first|omega|(have h8:=M om;omega)|(simp only [Fq];omega))<|Gm C<|Gr (Ct C C<|by first|(unfold InR;omega)|(have h7:=aa om;have h8:=ab om;unfold InR;omega))<|Gr (A2 (α:=Int) (xs:=out) Ab ef C C A5 (by first|omega|(have h8:=M om;omega))<|by first|omega|(have h8:=M om;omega)|(simp only [Fq];omega))<|Ge0 (Cv (α:=Int) (xs:=out) (e:=3) (new:=(e_ out<|e_ (j3 nd es u v) k)+b') ef C C C (by first|omega|(have h8:=M om;omega)) (by first|omega|(have h8:=M om;omega)|(simp only [Fq];omega)) am) ?_
   exact Bs<|Av<|Ao<|A0 (S9 2 3 4 10 14 15 42 43 44)<|Ba<|Gr (Ct C C<|by first|(unfold InR;omega)|(have h7:=aa om;have h8:=ab om;unfold InR;omega))<|Gm C<|Bs<|Bt ((k+1),(List.set out (e_ (j3 nd es u v) k).toNat ((e_ out<|e_ (j3 nd es u v) k)+b')))<|by dsimp only;exact ⟨om,(as1 om ho)⟩
  refine Ck<|Aw<|Aw<|Bi<|Ao<|Am<|Gf aj1 C<|Gl W4 ?_
  refine Gm C<|Gr (A2 (α:=Int) (xs:=out) Ab ef C C A5 (by first|omega|(have h8:=M om;omega))<|by first|omega|(have h8:=M om;omega)|(simp only [Fq];omega))<|Gr (B8 (xs:=out) ef C A5 (by first|omega|(have h8:=M om;omega))<|by first|omega|(have h8:=M om;omega)|(simp only [Fq];omega))<|Gm C<|Gm C<|Gr (Bl Ab C)<|Gr (Ep C C<|by first|(unfold InR;omega)|(have h7:=aa om;have h8:=ab om;unfold InR;omega))<|Gr (Ct C C<|by first|(unfold InR;omega)|(have h7:=aa om;have h8:=ab om;unfold InR;omega))<|Gr (A2 (α:=Int) (xs:=out) Ab ef C C A5 (by first|omega|(have h8:=M om;omega))<|by first|omega|(have h8:=M om;omega)|(simp only [Fq];omega))<|Ge0 (Cv (α:=Int) (xs:=out) (e:=3) (new:=(e_ out u)+(b'*(((j3 nd es u v).length:Nat):Int))) ef C C C (by first|omega|(have h8:=M om;omega)) (by first|omega|(have h8:=M om;omega)|(simp only [Fq];omega)) am) ?_
  refine Ar<|A0 (S5 3 4 10 14 15)<|Am<|Gf aj1 C<|Gl W4 ?_
  refine Gm C<|Gr (A2 (α:=Int) (xs:=List.set out (u).toNat ((e_ out u)+(b'*(((j3 nd es u v).length:Nat):Int)))) Ab ef C C A5 (by first|omega|(have h8:=M om;omega))<|by first|omega|(have h8:=M om;omega)|(simp only [Fq];omega))<|Gr (B8 (xs:=List.set out (u).toNat ((e_ out u)+(b'*(((j3 nd es u v).length:Nat):Int)))) ef C A5 (by first|omega|(have h8:=M om;omega))<|by first|omega|(have h8:=M om;omega)|(simp only [Fq];omega))<|Gm C<|Gm C<|Gr (Bl Ab C)<|Gr (Ep C C<|by first|(unfold InR;omega)|(have h7:=aa om;have h8:=ab om;unfold InR;omega))<|Gr (Ct C C<|by first|(unfold InR;omega)|(have h7:=aa om;have h8:=ab om;unfold InR;omega))<|Gr (A2 (α:=Int) (xs:=List.set out (u).toNat ((e_ out u)+(b'*(((j3 nd es u v).length:Nat):Int)))) Ab ef C C A5 (by first|omega|(have h8:=M om;omega))<|by first|omega|(have h8:=M om;omega)|(simp only [Fq];omega))<|Ge0 (Cv (α:=Int) (xs:=List.set out (u).toNat ((e_ out u)+(b'*(((j3 nd es u v).length:Nat):Int)))) (e:=3) (new:=(e_ (List.set out (u).toNat ((e_ out u)+(b'*(((j3 nd es u v).length:Nat):Int)))) v)+(b'*(((j3 nd es u v).length:Nat):Int))) ef C C C (by first|omega|(have h8:=M om;omega)) (by first|omega|(have h8:=M om;omega)|(simp only [Fq];omega)) am) ?_
  refine Ar<|A0 (S3 10 14 15)<|Am<|Gl4 ad0 ?_
  refine Gm C<|Gr (Bl Ab C)<|Ge0 (C7 ad0) ?_
  refine Ga C<|Ga C<|Ar<|B2 ?_
  have au:List.set (List.set out (u).toNat ((e_ out u)+(b'*(((j3 nd es u v).length:Nat):Int)))) (v).toNat ((e_ (List.set out (u).toNat ((e_ out u)+(b'*(((j3 nd es u v).length:Nat):Int)))) v)+(b'*(((j3 nd es u v).length:Nat):Int)))=cr7 b' (j3 nd es u v) u v num:=by rw [ho,show k=(j3 nd es u v).length by omega,Hd];rfl
  exact Cu C ad0 C C C mm C (vc 3 (.slice ao num.length ar) (cr7 b' (j3 nd es u v) u v num)::I) (by rw [←au];exact Az) ⟨ao,ar,rfl,rfl⟩
 refine Se1 C (Aj ad0 C) λa0=>?_
 refine Ds1 10<|Sc2 C (Ac c_ C C<|ah0 (xs:=num) (A4 hm) om) λae ah=>?_
 refine Dr 11 C (Cm (cells:=[_,_,_,_]) ad0 Tryz.underlying43 ge1 C C)<|Cg kr ?_
 refine Ae 13 C (C7 ad0) ?_
 rintro _ _ ⟨rfl,rfl⟩
 refine Ch kr ?_
 refine Ao<|A0 (S6 15 14 10 2 3 4)<|Ay<|Am<|Gm C<|Gr (Bl Ab C)<|Gm C<|Ar<|A8<|B9 (σ:=Nat×(List Int)) (λs=>([(2,e7 u),(3,e7 v),(4,e7<|b'),(10,pt b3),(14,.slice ai (j3 nd es u v).length aj),(15,pt a0),(42,.slice ai (j3 nd es u v).length aj),(43,e7<|(((j3 nd es u v).length:Nat):Int)),(44,e7 ((s.1:Nat):Int))]:Env)) (λs=>vc 3 (.slice ae num.length ah) (s.2)::e8 a0 [e7 (nd'),.slice ga gn gc,e7<|n0+(b'*(((j3 nd es u v).length:Nat):Int)),.slice ae num.length ah] 43::vk 3 ai aj (j3 nd es u v)::vk 22 ax aw rs::e8 b3 [e7 0,.slice none 0 0,e7 0,.slice none 0 0] 43::e8 b2 [e7 (nd'),.slice ga gn gc] 38::e8 b1 [e7 nd,.slice ea es.length ec,e7 n0,.slice na num.length nc] 43::(ao8 3 aq++I)) (λs=>(s.1<=(j3 nd es u v).length)/\(s.2=((j3 nd es u v).take s.1).foldl (X8 b') num)) (λs=>(j3 nd es u v).length - s.1) (0,num) ⟨om,rfl⟩ (cx4<|cx4<|Aa Cn Bb) Ai ?_
 rintro ⟨k,out⟩ hp
 dsimp only at hp ⊢
 obtain ⟨hk,ho⟩:=hp
 have a5:out.length=num.length:=by rw [ho];exact J3 _ _
 have M:=λh:k<(j3 nd es u v).length=>hS _ (Bn (xs:=(j3 nd es u v)) (i:=(k:Int)) om om)
 have aa:=λh:k<(j3 nd es u v).length=>be3 (b':=b') (num:=num) (H4 nd es u v) hS h
 rw [←ho] at aa
 have ab:=λh:k<(j3 nd es u v).length=>ap _ (Bn (xs:=num) (i:=e_ (j3 nd es u v) k) (M h).1 (M h).2)
 have ad:=fun (x:Int) (hx:0<=x/\x<(num.length:Int))=>di3 (b':=b') ((H4 nd es u v).sublist (Ld k _)) (λw hw=>hS w<|Hx hw) hb ap hx
 rw [←ho] at ad
 have ay:=ad u om
 have ak:=ad v om
 have a1:=di5 (x:=v) (u:=u) (xs:=out) (d:=b'*((j3 nd es u v).length:Int)) (m:=64) om om a3 ak om
 refine Am<|Gr (Bj C C)<|Ar<|Ay<|Al C (λav=>?_)<|λav=>?_
 ·refine Bc (Ao<|Ay<|A8<|Am<|Gr (A2 (α:=Int) (xs:=j3 nd es u v) Ab ef C C A5 (by first|omega|(have h8:=M om;omega))<|by first|omega|(have h8:=M om;omega)|(simp only [Fq];omega))<|Gr (B8 (xs:=j3 nd es u v) ef C A5 (by first|omega|(have h8:=M om;omega))<|by first|omega|(have h8:=M om;omega)|(simp only [Fq];omega))<|Ga C<|Ar<|Ba<|Gf aj1 C<|Gl W4 ?_)
  refine Gm C<|Gr (A2 (α:=Int) (xs:=out) Ab ef C C A5 (by first|omega|(have h8:=M om;omega))<|by first|omega|(have h8:=M om;omega)|(simp only [Fq];omega))<|Gr (B8 (xs:=out) ef C A5 (by first|omega|(have h8:=M om;omega))<|by first|omega|(have h8:=M om;omega)|(simp only [Fq];omega))<|Gm C<|Gr (Ct C C<|by first|(unfold InR;omega)|(have h7:=aa om;have h8:=ab om;unfold InR;omega))<|Gr (A2 (α:=Int) (xs:=out) Ab ef C C A5 (by first|omega|(have h8:=M om;omega))<|by first|omega|(have h8:=M om;omega)|(simp only [Fq];omega))<|Ge0 (Cv (α:=Int) (xs:=out) (e:=3) (new:=(e_ out<|e_ (j3 nd es u v) k)+b') ef C C C (by first|omega|(have h8:=M om;omega)) (by first|omega|(have h8:=M om;omega)|(simp only [Fq];omega)) am) ?_
  exact Bs<|Av<|Ao<|A0 (S9 2 3 4 10 14 15 42 43 44)<|Ba<|Gr (Ct C C<|by first|(unfold InR;omega)|(have h7:=aa om;have h8:=ab om;unfold InR;omega))<|Gm C<|Bs<|Bt ((k+1),(List.set out (e_ (j3 nd es u v) k).toNat ((e_ out<|e_ (j3 nd es u v) k)+b')))<|by dsimp only;exact ⟨om,(as1 om ho)⟩
 refine Ck<|Aw<|Aw<|Bi<|Ao<|Am<|Gf aj1 C<|Gl W4 ?_
 refine Gm C<|Gr (A2 (α:=Int) (xs:=out) Ab ef C C A5 (by first|omega|(have h8:=M om;omega))<|by first|omega|(have h8:=M om;omega)|(simp only [Fq];omega))<|Gr (B8 (xs:=out) ef C A5 (by first|omega|(have h8:=M om;omega))<|by first|omega|(have h8:=M om;omega)|(simp only [Fq];omega))<|Gm C<|Gm C<|Gr (Bl Ab C)<|Gr (Ep C C<|by first|(unfold InR;omega)|(have h7:=aa om;have h8:=ab om;unfold InR;omega))<|Gr (Ct C C<|by first|(unfold InR;omega)|(have h7:=aa om;have h8:=ab om;unfold InR;omega))<|Gr (A2 (α:=Int) (xs:=out) Ab ef C C A5 (by first|omega|(have h8:=M om;omega))<|by first|omega|(have h8:=M om;omega)|(simp only [Fq];omega))<|Ge0 (Cv (α:=Int) (xs:=out) (e:=3) (new:=(e_ out u)+(b'*(((j3 nd es u v).length:Nat):Int))) ef C C C (by first|omega|(have h8:=M om;omega)) (by first|omega|(have h8:=M om;omega)|(simp only [Fq];omega)) am) ?_
 refine Ar<|A0 (S5 3 4 10 14 15)<|Am<|Gf aj1 C<|Gl W4 ?_
 refine Gm C<|Gr (A2 (α:=Int) (xs:=List.set out (u).toNat ((e_ out u)+(b'*(((j3 nd es u v).length:Nat):Int)))) Ab ef C C A5 (by first|omega|(have h8:=M om;omega))<|by first|omega|(have h8:=M om;omega)|(simp only [Fq];omega))<|Gr (B8 (xs:=List.set out (u).toNat ((e_ out u)+(b'*(((j3 nd es u v).length:Nat):Int)))) ef C A5 (by first|omega|(have h8:=M om;omega))<|by first|omega|(have h8:=M om;omega)|(simp only [Fq];omega))<|Gm C<|Gm C<|Gr (Bl Ab C)<|Gr (Ep C C<|by first|(unfold InR;omega)|(have h7:=aa om;have h8:=ab om;unfold InR;omega))<|Gr (Ct C C<|by first|(unfold InR;omega)|(have h7:=aa om;have h8:=ab om;unfold InR;omega))<|Gr (A2 (α:=Int) (xs:=List.set out (u).toNat ((e_ out u)+(b'*(((j3 nd es u v).length:Nat):Int)))) Ab ef C C A5 (by first|omega|(have h8:=M om;omega))<|by first|omega|(have h8:=M om;omega)|(simp only [Fq];omega))<|Ge0 (Cv (α:=Int) (xs:=List.set out (u).toNat ((e_ out u)+(b'*(((j3 nd es u v).length:Nat):Int)))) (e:=3) (new:=(e_ (List.set out (u).toNat ((e_ out u)+(b'*(((j3 nd es u v).length:Nat):Int)))) v)+(b'*(((j3 nd es u v).length:Nat):Int))) ef C C C (by first|omega|(have h8:=M om;omega)) (by first|omega|(have h8:=M om;omega)|(simp only [Fq];omega)) am) ?_
 refine Ar<|A0 (S3 10 14 15)<|Am<|Gl4 ad0 ?_
 refine Gm C<|Gr (Bl Ab C)<|Ge0 (C7 ad0) ?_
 refine Ga C<|Ga C<|Ar<|B2 ?_
 have au:List.set (List.set out (u).toNat ((e_ out u)+(b'*(((j3 nd es u v).length:Nat):Int)))) (v).toNat ((e_ (List.set out (u).toNat ((e_ out u)+(b'*(((j3 nd es u v).length:Nat):Int)))) v)+(b'*(((j3 nd es u v).length:Nat):Int)))=cr7 b' (j3 nd es u v) u v num:=by rw [ho,show k=(j3 nd es u v).length by omega,Hd];rfl
 exact Cu C ad0 C C C mm C (vc 3 (.slice ae num.length ah) (cr7 b' (j3 nd es u v) u v num)::I) (by rw [←au];exact Az) ⟨ae,ah,rfl,rfl⟩
end Go.Sl
namespace Go.Sl
open Go.Proofs
set_option maxRecDepth 4000
variable{ea ga na:Option Addr}{b ec gc nc:Nat}{M aa ab ad ae va vb y0 y1 y2 y3 y4 y5 y6 y7 y8 y9:Value}{xs:List Pt}
attribute [local irreducible] W G V D A j7 Eff
theorem di2(f:Pt->Bool):∀l:List Pt,0<=(l.map λp=>ind (f p)).sum/\(l.map λp=>ind (f p)).sum<=(l.length:Int)
 |[]=>by simp
 |p::l=>by
  have M:=di2 f l
  have h2:0<=ind (f p)/\ind (f p)<=1:=by unfold ind;split<;>omega
  rw [Hi,Je,E_];omega
section
variable {nd u v:Int}{es es':List Pt}
theorem db5(hG:s8 nd es):∀x∈H7 nd es,0<=x/\x<=1000000:=λx M=>by
 obtain ⟨i,hi,rfl⟩:=av8 M
 rw [H2] at hi
 rw [au9 hi]
 have h1:=di2 (λp=>decide<|(i:Int)∈j3 nd es p.u p.v) es
 have h2:=q9 hG
 unfold dt0;omega
theorem fj7(h:R6 nd es es' u v):V5 nd es / 3+1*((j3 nd es u v).length:Int)=V5 nd es' / 3:=by have:=h.tri.1;omega
theorem fj8(h:R6 nd es es' u v):V5 nd es' / 3+(-1)*((j3 nd es' u v).length:Int)=V5 nd es / 3:=by have:=h.tri.1;rw [h.common];omega
theorem dt1(h:R6 nd es es' u v):cr7 1 (j3 nd es u v) u v (H7 nd es)=H7 nd es':=h.bv7.1
theorem dt2(h:R6 nd es es' u v):cr7 (-1) (j3 nd es' u v) u v (H7 nd es')=H7 nd es:=by rw [h.common];exact h.bv7.2
end
theorem fq2{κ:Ctx}{I:List Item}{nd:Int}{es:List Pt}(hl:Sl κ I (.slice ea es.length ec) es)(hm:Sl κ I (.slice na (H7 nd es).length nc) (H7 nd es))(hG:s8 nd es)  :
    eu prog κ 299 [.agg #[e7 nd,.slice ea es.length ec,e7<|V5 nd es / 3,.slice na (H7 nd es).length nc]] I (λr J=>r = .bool true/\I=J):=by
 refine Ce1 Tryz.func299 C C ?_
 refine Am<|Ge1 (Au (cs:=[_,_,_,_]) C C C) λb1=>Z ?_
 refine G.e (Ac c_ C C<|am4 (nd:=nd) (A4 hl) hG) ?_
 rintro _ _ ⟨_,_,⟨rfl,rfl⟩,rfl,rfl⟩
 refine Z ?_
 refine Al C (λc8=>Z ?_)<|λc8=>Z ?_
 ·exact Ak C C I Ah ⟨by first|rfl|(simp;done)|exact absurd C asm,rfl⟩
 refine G.e (Ac c_ C C<|bn8 (nd:=nd) (A4 hl) hG) ?_
 rintro _ _ ⟨_,_,⟨aa,ab,rfl,rfl⟩,rfl,rfl⟩
 refine Z ?_
 refine A1 (d:=19) C (λM=>Z ?_)<|λM=>Z ?_
 ·refine Dj (Cf C C C) (Ac c_ C C<|cr1 (xs:=H7 nd es) (ys:=H7 nd es) (A4 hm) A5) ?_
  rintro _ _ ⟨_,_,⟨rfl,rfl⟩,rfl,rfl⟩
  refine Z ?_
  exact Ak C C I Ah ⟨by first|rfl|(simp;done)|exact absurd C asm,rfl⟩
 exact Ak C C I Ah ⟨by first|rfl|(simp;done)|exact absurd C asm,rfl⟩
theorem cw5{κ:Ctx}{I:List Item}{nd:Int}{es:List Pt}(hl:Sl κ I (.slice ea es.length ec) es)(hm:Sl κ I (.slice na (H7 nd es).length nc) (H7 nd es))(M:s8 nd es){u v:Int}(he:F5 nd u v)(hn:j4 u v∉es):eu prog κ 297 [.agg #[e7 nd,.slice ea es.length ec,e7 (V5 nd es / 3),.slice na (H7 nd es).length nc],e7 u,e7 v] I (λr J=>∃(ga:Option Addr) (gc:Nat) (a:Option Addr) (c:Nat) (w:Value),r = .tuple #[.agg #[e7 nd,.slice ga (z8 Pt.lt es (j4 u v)).length gc,e7 (V5 nd (z8 Pt.lt es (j4 u v)) / 3),.slice a (H7 nd (z8 Pt.lt es (j4 u v))).length c],w,e7 0]/\J=vk 3 a c (H7 nd (z8 Pt.lt es (j4 u v)))::vk 105 ga gc (z8 Pt.lt es (j4 u v))::I):=by
 have ao:=M.rng
 have aj:=he
 unfold F5 at aj
 have ap:=H2 nd es
 have aq:=bo6 M
 refine Ce3 Tryz.func297 C C ?_
 refine Am<|Ge1 (Au (cs:=[_,_,_,_]) C C C) λb1=>Ge1 (Aj ad0 C) λb2=>Z ?_
 refine G.e (Ac c_ C C<|fq2 (nd:=nd) (A4 hl) (A4 hm) M) ?_
 rintro _ _ ⟨_,_,⟨rfl,rfl⟩,rfl,rfl⟩
 refine Z ?_
 refine G.e (Ac c_ C C<|bb2 (nd:=nd) (u:=u) (v:=v) (A4 hl) (add_zero M he hn)<|by have:=q9 M;omega) ?_
 rintro _ _ ⟨_,_,⟨aa,ab,rfl,rfl⟩,rfl,rfl⟩
 refine Z ?_
 refine Ge1 (Aj J9 C) λb5=>Ge0 (Cr J9)<|Z ?_
 refine Al C (λak=>Z ?_)<|λak=>Z ?_
 ·refine Ge0 (C7 ad0) (Z ?_)
  exact absurd rfl asm
 refine G.e (Ac c_ C C<|do0 (nd:=nd) (nd':=nd) (u:=u) (v:=v) (b':=1) (n0:=V5 nd es / 3) (ga:=aa) (gn:=((z8 Pt.lt es<|j4 u v)).length) (gc:=ab) (A4 hl) (A4 hm) M ta8 ta8 om om (db5 M) om dc) ?_
 rintro _ _ ⟨_,_,⟨ah,ai,rfl,rfl⟩,rfl,rfl⟩
 refine Z ?_
 refine Ge0 (C7 ad0)<|Z ?_
 have ad:=dt1 (R6.add M he hn)
 have an:=fj7 (R6.add M he hn)
 have ae:(H7 nd<|z8 Pt.lt es<|j4 u v).length=(H7 nd es).length:=by rw [H2,H2]
 exact Cu C ad0 C C C mm C (vk 3 ah ai (H7 nd<|z8 Pt.lt es<|j4 u v)::vk 105 aa ab (z8 Pt.lt es<|j4 u v)::I) (by unfold vk;rw [←ad,ad,ae,←ad];exact Az) ⟨aa,ab,ah,ai,e7 ((j3 nd es u v).length:Int),by rw [←an,ae];rfl,rfl⟩
theorem cw6{κ:Ctx}{I:List Item}{nd:Int}{es:List Pt}(hl:Sl κ I (.slice ea es.length ec) es)(hm:Sl κ I (.slice na (H7 nd es).length nc) (H7 nd es))(M:s8 nd es){u v:Int}(he:F5 nd u v)(hn:j4 u v∈es):eu prog κ 298 [.agg #[e7 nd,.slice ea es.length ec,e7 (V5 nd es / 3),.slice na (H7 nd es).length nc],e7 u,e7 v] I (λr J=>∃(ga:Option Addr) (gc:Nat) (a:Option Addr) (c:Nat) (w:Value),r = .tuple #[.agg #[e7 nd,.slice ga (j6 es (j4 u v)).length gc,e7 (V5 nd (j6 es (j4 u v)) / 3),.slice a (H7 nd (j6 es (j4 u v))).length c],w,e7 0]/\J=vk 3 a c (H7 nd (j6 es (j4 u v)))::vk 105 ga gc (j6 es (j4 u v))::I):=by
 have ao:=M.rng
 have aj:=he
 unfold F5 at aj
 have ap:=H2 nd es
 have aq:=bo6 M
 refine Ce3 Tryz.func298 C C ?_
 refine Am<|Ge1 (Au (cs:=[_,_,_,_]) C C C) λb1=>Ge1 (Aj ad0 C) λb2=>Z ?_
 refine G.e (Ac c_ C C<|fq2 (nd:=nd) (A4 hl) (A4 hm) M) ?_
 rintro _ _ ⟨_,_,⟨rfl,rfl⟩,rfl,rfl⟩
 refine Z ?_
 refine Gc2 (Ac c_ C C<|bb0 (nd:=nd) (u:=u) (v:=v) (A4 hl) (az6 M he hn)<|by have:=q9 M;omega) λaa ab=>Z ?_
 refine Ge1 (Aj J9 C) λb5=>Ge0 (Cr J9)<|Z ?_
 refine Al C (λak=>Z ?_)<|λak=>Z ?_
 ·refine Ge0 (C7 ad0) (Z ?_)
  exact absurd rfl asm
 refine G.e (Ac c_ C C<|do0 (nd:=nd) (nd':=nd) (u:=u) (v:=v) (b':= -1) (n0:=V5 nd es / 3) (ga:=aa) (gn:=((j6 es<|j4 u v)).length) (gc:=ab) (A4 hl) (A4 hm) M ta8 ta8 om om (db5 M) om dc) ?_
 rintro _ _ ⟨_,_,⟨ah,ai,rfl,rfl⟩,rfl,rfl⟩
 refine Z ?_
 refine Ge0 (C7 ad0)<|Z ?_
 have ad:=dt2 (R6.rem M he hn)
 have an:=fj8 (R6.rem M he hn)
 have ae:(H7 nd<|j6 es<|j4 u v).length=(H7 nd es).length:=by rw [H2,H2]
 exact Cu C ad0 C C C mm C (vk 3 ah ai (H7 nd<|j6 es<|j4 u v)::vk 105 aa ab (j6 es<|j4 u v)::I) (by unfold vk;rw [←ad,ad,ae,←ad];exact Az) ⟨aa,ab,ah,ai,e7 ((j3 nd es u v).length:Int),by rw [←an,ae];rfl,rfl⟩
theorem cw7{κ:Ctx}{I:List Item}{nd:Int}{es:List Pt}(hl:Sl κ I (.slice ea es.length ec) es)(hb:es.length<=1000000):eu prog κ 88 [.agg #[e7 nd,.slice ea es.length ec]] I (λr J=>∃(a:Option Addr) (c:Nat),r = .agg #[e7 nd,.slice a es.length c]/\J=vk 105 a c es::I):=by
 refine Ce1 Tryz.func88 C C ?_
 refine Am<|Ge1 (Au (cs:=[_,_]) C C C) λb1=>Ge1 (Aj J9 C) λb2=>Z ?_
 refine Gc2 (Ac c_ C C<|an3 (xs:=es) (A4 hl) om) λM aa=>?_
 refine Gf K5 C<|Ge0 (Fc am8)<|Z ?_
 refine Ge0 (Cr J9) ?_
 exact Ar<|B2<|Ej C J9 C mm C (vk 105 M aa es::I) Az ⟨M,aa,rfl,rfl⟩
theorem fb9{κ:Ctx}{I:List Item}{nd:Int}{es:List Pt}(hl:Sl κ I (.slice ea es.length ec) es)(hG:s8 nd es):eu prog κ 43 [.agg #[e7 nd,.slice ea es.length ec]] I (λr J=>∃(ga:Option Addr) (gc:Nat) (a:Option Addr) (c:Nat),r = .tuple #[.agg #[e7 nd,.slice ga es.length gc,e7 (V5 nd es / 3),.slice a (H7 nd es).length c],e7 0]/\J=vk 3 a c (H7 nd es)::vk 105 ga gc es::I):=by
 have ae:=q9 hG
 refine Ce1 Tryz.func43 C C ?_
 refine Am<|Ge1 (Au (cs:=[_,_]) C C C) λb1=>Ge1 (Aj ad0 C) λb2=>Z ?_
 refine G.e (Ac c_ C C<|am4 (nd:=nd) (A4 hl) hG) ?_
 rintro _ _ ⟨_,_,⟨rfl,rfl⟩,rfl,rfl⟩
 refine Z ?_
 refine Al C (λc10=>Z ?_)<|λc10=>Z ?_
 ·refine Ge0 (C7 ad0) (Z ?_)
  exact absurd rfl asm
 refine G.e (Ac c_ C C<|bn8 (nd:=nd) (A4 hl) hG) ?_
 rintro _ _ ⟨_,_,⟨ad,aa,rfl,rfl⟩,rfl,rfl⟩
 refine Z ?_
 refine Gc2 (Ac c_ C C<|cw7 (nd:=nd) (A4 hl) om) λab M=>Z ?_
 refine Ge0 (C7 ad0) ?_
 exact Ga C<|Ar<|B2<|Co C ad0 C C mm C (vk 3 ad aa (H7 nd es)::vk 105 ab M es::I) Az ⟨ab,M,ad,aa,rfl,rfl⟩
variable {κ:Ctx}{I:List Item}
theorem fr3{nd:Int}{es:List Pt}(M:Sl κ I (.slice ea es.length ec) es)(hm:Sl κ I (.slice na (r9 nd es).length nc) (r9 nd es))(hG:s8 nd es)(hT:F4 κ I 0 p5):eu prog κ 306 [.agg #[e7 nd,.slice ea es.length ec,e7 (F7 nd es),e7 (J8 nd es),.slice na (r9 nd es).length nc]] I (λr J=>r = .bool true/\I=J):=by
 have ad:=hG.rng
 refine Ce1 Tryz.func306 C C ?_
 refine Am<|Ge1 (Au (cs:=[_,_,_,_,_]) C C C) λb1=>Z ?_
 refine G.e (Ac c_ C C<|am4 (nd:=nd) (A4 M) hG) ?_
 rintro _ _ ⟨_,_,⟨rfl,rfl⟩,rfl,rfl⟩
 refine Z ?_
 refine Al C (λc8=>Z ?_)<|λc8=>Z ?_
 ·exact Ak C C I Ah ⟨by first|rfl|(simp;done)|exact absurd C asm,rfl⟩
 refine Gc2 (Ac c_ C C<|bn6 (nd:=nd) (A4 M) hG<|A6 hT Ah) λae ah=>Z ?_
 refine A9 mixed<|Ed 19<|Z ?_
 refine Ds1 4<|Sc0 C (Ac c_ C C<|ca4 (nd:=nd) (A4 M) om)<|Z ?_
 refine Dk (d:=21) C (λab=>Z ?_)<|λab=>?_
 ·refine Dk (d:=27) C (λaa=>Z ?_) (λaa=>?_)
  ·refine Ds1 16 (Sc0 C (Ac c_ C C<|cr1 (xs:=r9 nd es) (ys:=r9 nd es) (A4 hm) A5)<|Z ?_)
   exact Ak C C I Ah ⟨by first|rfl|(simp;done)|exact absurd C asm,rfl⟩
  refine Dpo 13 C<|Z ?_
  exact Ak C C I Ah ⟨by first|rfl|(simp;done)|exact absurd C asm,rfl⟩
 refine Dpo 7 C<|Z ?_
 exact Ak C C I Ah ⟨by first|rfl|(simp;done)|exact absurd C asm,rfl⟩
theorem cy0{nd:Int}{es:List Pt}(hl:Sl κ I (.slice ea es.length ec) es)(hm:Sl κ I (.slice na (r9 nd es).length nc) (r9 nd es))(M:s8 nd es){u v:Int}(he:F5 nd u v)(hn:j4 u v∉es)(hT:F4 κ I 0 p5):eu prog κ 304 [.agg #[e7 nd,.slice ea es.length ec,e7 (F7 nd es),e7 (J8 nd es),.slice na (r9 nd es).length nc],e7 u,e7 v] I (λr J=>∃(ga:Option Addr) (gc:Nat) (a:Option Addr) (c:Nat) (w:Value),r = .tuple #[.agg #[e7 nd,.slice ga (z8 Pt.lt es (j4 u v)).length gc,e7 (F7 nd (z8 Pt.lt es (j4 u v))),e7 (J8 nd (z8 Pt.lt es (j4 u v))),.slice a (r9 nd (z8 Pt.lt es (j4 u v))).length c],w,e7 0]/\J=vk 3 a c (r9 nd (z8 Pt.lt es (j4 u v)))::vk 105 ga gc (z8 Pt.lt es (j4 u v))::I):=by
 have ap:=M.rng
 have ai:=he
 unfold F5 at ai
 have ar:=G1 nd es
 have aq:=ck3 M
 have au:=bu9 M
 refine Ce3 Tryz.func304 C C ?_
 refine Am<|Ge1 (Au (cs:=[_,_,_,_,_]) C C C) λb1=>Ge1 (Aj V4 C) λb2=>Z ?_
 refine Gc0 (Ac c_ C C<|fr3 (nd:=nd) (A4 hl) (A4 hm) M<|A6 hT Ah)<|Z ?_
 refine G.e (Ac c_ C C<|bb2 (nd:=nd) (u:=u) (v:=v) (A4 hl) (add_zero M he hn)<|by have:=q9 M;omega) ?_
 rintro _ _ ⟨_,_,⟨aa,ab,rfl,rfl⟩,rfl,rfl⟩
 refine Z ?_
 refine Ge1 (Aj J9 C) λb5=>Ge0 (Cr J9)<|Z ?_
 refine Al C (λaj=>Z ?_)<|λaj=>Z ?_
 ·refine Ge0 (E5 V4) (Z ?_)
  exact absurd rfl asm
 refine G.e (Ac c_ C C<|dp2 (nd:=nd) (nd':=nd) (nd0:=nd) (u:=u) (v:=v) (b':=1) (w0:=F7 nd es) (n0:=J8 nd es) (ga:=aa) (gn:=((z8 Pt.lt es<|j4 u v)).length) (gc:=ab) (A4 hl) (A4 hm) M ta8 ta8 om (ck2 M) om om dc<|A6 hT Ah) ?_
 rintro _ _ ⟨_,_,⟨ae,ah,rfl,rfl⟩,rfl,rfl⟩
 refine Z ?_
 refine Ge0 (E5 V4)<|Z ?_
 have an:=(R6.add M he hn).bk4.1
 obtain ⟨ak,ao⟩:=du7 (R6.add M he hn)
 have ad:(r9 nd<|z8 Pt.lt es<|j4 u v).length=(r9 nd es).length:=by rw [G1,G1]
 exact Cu C V4 C C C mm C (vk 3 ae ah (r9 nd<|z8 Pt.lt es<|j4 u v)::vk 105 aa ab (z8 Pt.lt es<|j4 u v)::I) (by unfold vk;rw [ad,←an];exact Az) ⟨aa,ab,ae,ah,_,by rw [←ak,←ao,ad]<;>rfl,rfl⟩
theorem cy1{nd:Int}{es:List Pt}(hl:Sl κ I (.slice ea es.length ec) es)(hm:Sl κ I (.slice na (r9 nd es).length nc) (r9 nd es))(M:s8 nd es){u v:Int}(he:F5 nd u v)(hn:j4 u v∈es)(hT:F4 κ I 0 p5):eu prog κ 305 [.agg #[e7 nd,.slice ea es.length ec,e7 (F7 nd es),e7 (J8 nd es),.slice na (r9 nd es).length nc],e7 u,e7 v] I (λr J=>∃(ga:Option Addr) (gc:Nat) (a:Option Addr) (c:Nat) (w:Value),r = .tuple #[.agg #[e7 nd,.slice ga (j6 es (j4 u v)).length gc,e7 (F7 nd (j6 es (j4 u v))),e7 (J8 nd (j6 es (j4 u v))),.slice a (r9 nd (j6 es (j4 u v))).length c],w,e7 0]/\J=vk 3 a c (r9 nd (j6 es (j4 u v)))::vk 105 ga gc (j6 es (j4 u v))::I):=by
 have ap:=M.rng
 have ai:=he
 unfold F5 at ai
 have ar:=G1 nd es
 have aq:=ck3 M
 have au:=bu9 M
 refine Ce3 Tryz.func305 C C ?_
 refine Am<|Ge1 (Au (cs:=[_,_,_,_,_]) C C C) λb1=>Ge1 (Aj V4 C) λb2=>Z ?_
 refine Gc0 (Ac c_ C C<|fr3 (nd:=nd) (A4 hl) (A4 hm) M<|A6 hT Ah)<|Z ?_
 refine Gc2 (Ac c_ C C<|bb0 (nd:=nd) (u:=u) (v:=v) (A4 hl) (az6 M he hn)<|by have:=q9 M;omega) λaa ab=>Z ?_
 refine Ge1 (Aj J9 C) λb5=>Ge0 (Cr J9)<|Z ?_
 refine Al C (λaj=>Z ?_)<|λaj=>Z ?_
 ·refine Ge0 (E5 V4) (Z ?_)
  exact absurd rfl asm
 refine G.e (Ac c_ C C<|dp2 (nd:=nd) (nd':=nd) (nd0:=nd) (u:=u) (v:=v) (b':= -1) (w0:=F7 nd es) (n0:=J8 nd es) (ga:=aa) (gn:=((j6 es<|j4 u v)).length) (gc:=ab) A5 (A4 hm) (R6.rem M he hn).ok ta8 ta8 om (ck2 M) om om dc (A6 hT Ah)) ?_
 rintro _ _ ⟨_,_,⟨ae,ah,rfl,rfl⟩,rfl,rfl⟩
 refine Z ?_
 refine Ge0 (E5 V4)<|Z ?_
 have an:=(R6.rem M he hn).bk4.2
 obtain ⟨ak,ao⟩:=du8 (R6.rem M he hn)
 have ad:(r9 nd<|j6 es<|j4 u v).length=(r9 nd es).length:=by rw [G1,G1]
 exact Cu C V4 C C C mm C (vk 3 ae ah (r9 nd<|j6 es<|j4 u v)::vk 105 aa ab (j6 es<|j4 u v)::I) (by unfold vk;rw [ad,←an];exact Az) ⟨aa,ab,ae,ah,_,by rw [←ak,←ao,ad]<;>rfl,rfl⟩
theorem fe4{nd:Int}{es:List Pt}(hl:Sl κ I (.slice ea es.length ec) es)(hG:s8 nd es)(hT:F4 κ I 0 p5):eu prog κ 44 [.agg #[e7 nd,.slice ea es.length ec]] I (λr J=>∃(ga:Option Addr) (gc:Nat) (a:Option Addr) (c:Nat),r = .tuple #[.agg #[e7 nd,.slice ga es.length gc,e7 (F7 nd es),e7 (J8 nd es),.slice a (r9 nd es).length c],e7 0]/\J=vk 3 a c (r9 nd es)::vk 105 ga gc es::I):=by
 have ah:=q9 hG
 have ae:=hG.rng
 refine Ce1 Tryz.func44 C C ?_
 refine Am<|Ge1 (Au (cs:=[_,_]) C C C) λb1=>Ge1 (Aj V4 C) λb2=>Z ?_
 refine G.e (Ac c_ C C<|am4 (nd:=nd) (A4 hl) hG) ?_
 rintro _ _ ⟨_,_,⟨rfl,rfl⟩,rfl,rfl⟩
 refine Z ?_
 refine Al C (λc10=>Z ?_)<|λc10=>Z ?_
 ·refine Ge0 (E5 V4) (Z ?_)
  exact absurd rfl asm
 refine Gc2 (Ac c_ C C<|bn6 (nd:=nd) (A4 hl) hG<|A6 hT Ah) λad aa=>Z ?_
 refine A9 mixed<|Ed 11<|Z ?_
 refine Ds1 4<|Sc2 C (Ac c_ C C<|an3 (xs:=es) (A4 hl) om) λab M=>Z ?_
 refine Ds1 7<|Sc0 C (Ac c_ C C<|ca4 (nd:=nd) (A4 hl) om)<|Z ?_
 refine Cg kr ?_
 refine Ae 11 C (E5 V4) ?_
 rintro _ _ ⟨rfl,rfl⟩
 refine Dg (i:=12) kr C (Ap C) C C (Be C) ?_
 refine Ch kr<|Z ?_
 exact Co C V4 C C mm C (vk 3 ad aa (r9 nd es)::vk 105 ab M es::I) Az ⟨ab,M,ad,aa,rfl,rfl⟩
theorem fq8{κ:Ctx}{I:List Item}{nd:Int}{es:List Pt}(hl:Sl κ I (.slice ea es.length ec) es)(hG:s8 nd es)(hT:F4 κ I 0 p5):eu prog κ 41 [.agg #[e7 nd,.slice ea es.length ec]] I (λr J=>∃(ga:Option Addr) (gc:Nat) (a:Option Addr) (c:Nat),r = .tuple #[.agg #[e7 nd,.slice ga es.length gc,.slice a (j9 nd es).length c],e7 0]/\J=vk 3 a c (j9 nd es)::vk 105 ga gc es::I):=by
 have ae:=s4.2 hG
 have ah:=q9 hG
 refine Ce1 Tryz.func41 C C ?_
 refine Am<|Ge1 (Au (cs:=[_,_]) C C C) λb1=>Ge1 (Aj ab6 C) λb2=>Z ?_
 refine Gc2 (Ac c_ C C<|bh8 (nd:=nd) (A4 hl)<|A6 hT Ah) λad aa=>Z ?_
 refine Al C (λc12=>Z ?_)<|λc12=>?_
 ·refine Ge0 (C9 ab6) (Z ?_)
  exact Co C ab6 C C mm C I Ah<|by exfalso;first|exact absurd ae asm|omega
 refine Bc<|Ao<|Ay<|A9 mixed<|Ed 8<|Z ?_
 refine Ds1 4<|Sc2 C (Ac c_ C C<|an3 (xs:=es) (A4 hl) om) λab M=>Z ?_
 refine Cg kr ?_
 refine Ae 8 C (C9 ab6) ?_
 rintro _ _ ⟨rfl,rfl⟩
 refine Dg (i:=9) kr C (Ap C) C C (Be C) ?_
 refine Ch kr<|Z ?_
 exact Co C ab6 C C mm C (vk 3 ad aa (j9 nd es)::vk 105 ab M es::I) Az ⟨ab,M,ad,aa,rfl,rfl⟩
variable {κ:Ctx}{I:List Item}
structure SlA where
 a:Option Addr
 c:Nat
structure PkV where
 e1:SlA
 n1:SlA
 e2:SlA
 n2:SlA
 e3:SlA
 n3:SlA
 e4:SlA
 n4:SlA
abbrev pq(nd:Int)(E:List Pt)(p:PkV):List Value:=[e7 nd,.slice p.e1.a E.length p.e1.c,.slice p.n1.a (j9 nd E).length p.n1.c,e7 nd,.slice p.e2.a E.length p.e2.c,.slice p.n2.a (j5 nd E).length p.n2.c,e7 nd,.slice p.e3.a E.length p.e3.c,e7 (V5 nd E / 3),.slice p.n3.a (H7 nd E).length p.n3.c,e7 nd,.slice p.e4.a E.length p.e4.c,e7 (F7 nd E),e7 (J8 nd E),.slice p.n4.a (r9 nd E).length p.n4.c]
abbrev px(nd:Int)(E0:List Pt)(a0:Option Addr)(c0:Nat)(b0:Option Addr)(d0:Nat)(E1:List Pt)(a1:Option Addr)(c1:Nat)(b1:Option Addr)(d1:Nat)(E2:List Pt)(a2:Option Addr)(c2:Nat)(b2:Option Addr)(d2:Nat)(E3:List Pt)(a3:Option Addr)(c3:Nat)(b3:Option Addr)(d3:Nat):List Value:=[e7 nd,.slice a0 E0.length c0,.slice b0 (j9 nd E0).length d0,e7 nd,.slice a1 E1.length c1,.slice b1 (j5 nd E1).length d1,e7 nd,.slice a2 E2.length c2,e7 (V5 nd E2 / 3),.slice b2 (H7 nd E2).length d2,e7 nd,.slice a3 E3.length c3,e7 (F7 nd E3),e7 (J8 nd E3),.slice b3 (r9 nd E3).length d3]
abbrev ky(kd wd mo bd lt mr:Int)(wa:Option Addr)(wn wc:Nat)(nd:Int)(la:Option Addr)(ln lc:Nat)(E:List Pt)(p:PkV)(tm:Int):List Value:=[e7 kd,e7 wd,e7 mo,e7 bd,e7 lt,e7 mr,.slice wa wn wc,e7 nd,.slice la ln lc,e7 nd,.slice p.e1.a E.length p.e1.c,.slice p.n1.a (j9 nd E).length p.n1.c,e7 nd,.slice p.e2.a E.length p.e2.c,.slice p.n2.a (j5 nd E).length p.n2.c,e7 nd,.slice p.e3.a E.length p.e3.c,e7 (V5 nd E / 3),.slice p.n3.a (H7 nd E).length p.n3.c,e7 nd,.slice p.e4.a E.length p.e4.c,e7 (F7 nd E),e7 (J8 nd E),.slice p.n4.a (r9 nd E).length p.n4.c,e7 tm]
structure PkR (κ:Ctx) (T:List Item) (nd:Int) (es:List Pt) (v:PkV):Prop where
 e1:Sl κ T (.slice v.e1.a es.length v.e1.c) es
 n1:Sl κ T (.slice v.n1.a (j9 nd es).length v.n1.c) (j9 nd es)
 e2:Sl κ T (.slice v.e2.a es.length v.e2.c) es
 n2:Sl κ T (.slice v.n2.a (j5 nd es).length v.n2.c) (j5 nd es)
 e3:Sl κ T (.slice v.e3.a es.length v.e3.c) es
 n3:Sl κ T (.slice v.n3.a (H7 nd es).length v.n3.c) (H7 nd es)
 e4:Sl κ T (.slice v.e4.a es.length v.e4.c) es
 n4:Sl κ T (.slice v.n4.a (r9 nd es).length v.n4.c) (r9 nd es)
theorem PkR.fit{κ:Ctx}{I J:List Item}{nd:Int}{es:List Pt}{v:PkV}(h:PkR κ I nd es v)(f:Fit κ J I):PkR κ J nd es v:=
 ⟨h.e1.fit f,h.n1.fit f,h.e2.fit f,h.n2.fit f,h.e3.fit f,h.n3.fit f,h.e4.fit f,h.n4.fit f⟩
theorem gb4(hl:Sl κ I va xs)(hm:Sl κ I vb xs):eu prog κ 265 [va,vb] I (λr J=>r = .bool true/\I=J):=by
 refine Bw hl.le λab=>?_
 refine Ce2 Tryz.func265 C C<|Z ?_
 refine Al C (λc10=>?_)<|λc10=>Z ?_
 ·omega
 refine Dh (σ:=Nat) (λs=>[(13,e7 ((s:Nat):Int))]) (λ_=>[]) (λs=>(s<=xs.length)) (λs=>xs.length - s) 0 (show ((0:Nat)<=xs.length) from om) ?_
 rintro k hp
 have hk:=hp
 refine Z ?_
 refine Al C (λaa=>Z ?_)<|λaa=>Z ?_
 ·refine A9 mixed (Bx I 9<|Z ?_)
  refine Dr 8 C (j7.fx9 (α:=Pt) (a:=(e_ xs k)) (b:=(e_ xs k)) ay3 C C)<|Z ?_
  refine Al C (λM=>?_)<|λM=>Z ?_
  ·exact absurd rfl M
  exact Bt ((k+1)) om
 exact Ak C C I Ah ⟨rfl,rfl⟩
theorem ba9{nd:Int}(hl:Sl κ I va xs)(hm:Sl κ I vb xs):eu prog κ 258 [.agg #[e7 nd,va],.agg #[e7 nd,vb]] I (λr J=>r = .bool true/\I=J):=by
 refine Ce2 Tryz.func258 C C ?_
 refine Am<|Ge1 (Au (cs:=[_,_]) C C C) λb1=>Ge1 (Au (cs:=[_,_]) C C C) λb2=>Z ?_
 refine A1 (d:=10) C (λM=>Z ?_)<|λM=>?_
 ·refine Dj (Cf C C C) (Ac c_ C C<|gb4 (xs:=xs) (A4 hl)<|A4 hm) ?_
  rintro _ _ ⟨_,_,⟨rfl,rfl⟩,rfl,rfl⟩
  refine Z ?_
  exact Ak C C I Ah ⟨rfl,rfl⟩
 exact absurd rfl M
theorem fq1{nd:Int}{es:List Pt}(hl:Sl κ I (.slice ea es.length ec) es)(hm:Sl κ I (.slice na (j9 nd es).length nc) (j9 nd es))(hG:s8 nd es)(hg:Sl κ I (.slice ga es.length gc) es)(hT:F4 κ I 0 p5):eu prog κ 254 [(pt b),.agg #[e7 nd,.slice ga es.length gc]] (e8 b [e7 nd,.slice ea es.length ec,.slice na (j9 nd es).length nc,y3,y4,y5,y6,y7,y8,y9,ae,M,ad,aa,ab] 169::I) (λr J=>r = .bool true/\J=e8 b [e7 nd,.slice ea es.length ec,.slice na (j9 nd es).length nc,y3,y4,y5,y6,y7,y8,y9,ae,M,ad,aa,ab] 169::I):=by
 refine Ce2 Tryz.func254 C C ?_
 refine Am<|Ge1 (Au (cs:=[_,_]) C C C) λb1=>Ga C<|Ar<|Ay<|A9 mixed<|Ed 15<|Z ?_
 refine Ds1 6<|Sc0 C (Ac c_ C C<|ba9 (nd:=nd) (xs:=es) (A4 hl)<|A4 hg)<|Z ?_
 refine Ds1 12<|Sc0 C (Ac c_ C C<|do9 (nd:=nd) (A4 hl) (A4 hm) hG<|A6 hT Ah)<|Z ?_
 exact Ak C C (e8 b [e7 nd,.slice ea es.length ec,.slice na (j9 nd es).length nc,y3,y4,y5,y6,y7,y8,y9,ae,M,ad,aa,ab] 169::I) Az ⟨rfl,rfl⟩
theorem fq0{nd:Int}{es:List Pt}(hl:Sl κ I (.slice ea es.length ec) es)(hm:Sl κ I (.slice na (j5 nd es).length nc) (j5 nd es))(hG:s8 nd es)(hg:Sl κ I (.slice ga es.length gc) es)(hT:F4 κ I 0 p5):eu prog κ 281 [.pointer (some ⟨b,3,none⟩),.agg #[e7 nd,.slice ga es.length gc]] (e8 b [y0,y1,y2,e7 nd,.slice ea es.length ec,.slice na (j5 nd es).length nc,y6,y7,y8,y9,ae,M,ad,aa,ab] 169::I) (λr J=>r = .bool true/\J=e8 b [y0,y1,y2,e7 nd,.slice ea es.length ec,.slice na (j5 nd es).length nc,y6,y7,y8,y9,ae,M,ad,aa,ab] 169::I):=by
 refine Ce2 Tryz.func281 C C ?_
 refine Am<|Ge1 (Au (cs:=[_,_]) C C C) λb1=>Ga C<|Ar<|Ay<|A9 mixed<|Ed 15<|Z ?_
 refine Ds1 6<|Sc0 C (Ac c_ C C<|ba9 (nd:=nd) (xs:=es) (A4 hl)<|A4 hg)<|Z ?_
 refine Ds1 12<|Sc0 C (Ac c_ C C<|gb0 (nd:=nd) (A4 hl) (A4 hm) hG<|A6 hT Ah)<|Z ?_
 exact Ak C C (e8 b [y0,y1,y2,e7 nd,.slice ea es.length ec,.slice na (j5 nd es).length nc,y6,y7,y8,y9,ae,M,ad,aa,ab] 169::I) Az ⟨rfl,rfl⟩
theorem fp9{nd:Int}{es:List Pt}(hl:Sl κ I (.slice ea es.length ec) es)(hm:Sl κ I (.slice na (H7 nd es).length nc) (H7 nd es))(hG:s8 nd es)(hg:Sl κ I (.slice ga es.length gc) es)  :
    eu prog κ 295 [.pointer (some ⟨b,6,none⟩),.agg #[e7 nd,.slice ga es.length gc]] (e8 b [y0,y1,y2,y3,y4,y5,e7 nd,.slice ea es.length ec,e7<|V5 nd es / 3,.slice na (H7 nd es).length nc,ae,M,ad,aa,ab] 169::I) (λr J=>r = .bool true/\J=e8 b [y0,y1,y2,y3,y4,y5,e7 nd,.slice ea es.length ec,e7<|V5 nd es / 3,.slice na (H7 nd es).length nc,ae,M,ad,aa,ab] 169::I):=by
 refine Ce2 Tryz.func295 C C ?_
 refine Am<|Ge1 (Au (cs:=[_,_]) C C C) λb1=>Ga C<|Ar<|Ay<|A9 mixed<|Ed 15<|Z ?_
 refine Ds1 6<|Sc0 C (Ac c_ C C<|ba9 (nd:=nd) (xs:=es) (A4 hl)<|A4 hg)<|Z ?_
 refine Ds1 12<|Se C (Ac c_ C C<|fq2 (nd:=nd) (A4 hl) (A4 hm) hG) ?_
 rintro _ _ ⟨_,_,⟨rfl,rfl⟩,rfl,rfl⟩
 refine ⟨Ah,?_⟩
 refine Z ?_
 exact Ak C C (e8 b [y0,y1,y2,y3,y4,y5,e7 nd,.slice ea es.length ec,e7<|V5 nd es / 3,.slice na (H7 nd es).length nc,ae,M,ad,aa,ab] 169::I) Az ⟨rfl,rfl⟩
theorem fp8{nd:Int}{M:Nat}{es:List Pt}(hl:Sl κ I (.slice ea es.length M) es)(hm:Sl κ I (.slice na (r9 nd es).length nc) (r9 nd es))(hG:s8 nd es)(hg:Sl κ I (.slice ga es.length gc) es)(hT:F4 κ I 0 p5):eu prog κ 302 [.pointer (some ⟨b,10,none⟩),.agg #[e7 nd,.slice ga es.length gc]] (e8 b [y0,y1,y2,y3,y4,y5,y6,y7,y8,y9,e7 nd,.slice ea es.length M,e7 (F7 nd es),e7 (J8 nd es),.slice na (r9 nd es).length nc] 169::I) (λr J=>r = .bool true/\J=e8 b [y0,y1,y2,y3,y4,y5,y6,y7,y8,y9,e7 nd,.slice ea es.length M,e7 (F7 nd es),e7 (J8 nd es),.slice na (r9 nd es).length nc] 169::I):=by
 refine Ce2 Tryz.func302 C C ?_
 refine Am<|Ge1 (Au (cs:=[_,_]) C C C) λb1=>Ga C<|Ar<|Ay<|A9 mixed<|Ed 15<|Z ?_
 refine Ds1 6<|Sc0 C (Ac c_ C C<|ba9 (nd:=nd) (xs:=es) (A4 hl)<|A4 hg)<|Z ?_
 refine Ds1 12<|Sc0 C (Ac c_ C C<|fr3 (nd:=nd) (A4 hl) (A4 hm) hG<|A6 hT Ah)<|Z ?_
 exact Ak C C (e8 b [y0,y1,y2,y3,y4,y5,y6,y7,y8,y9,e7 nd,.slice ea es.length M,e7<|F7 nd es,e7<|J8 nd es,.slice na (r9 nd es).length nc] 169::I) Az ⟨rfl,rfl⟩
end Go.Sl
