/- A part of the proofs of statements of this seat: contracts of functions, and the plain laws that they lean on. No conditions. -/
import Derived.Test.YtoagcglbkeomgaaGreatDoorA20
import Derived.Test.YtoagcglbkeomgaaGreatDoorA22
set_option linter.unusedVariables false
set_option linter.unusedSimpArgs false
set_option linter.unusedSectionVars false
open Go.Proofs.Tryz (prog)
namespace Go.Sl
open Go.Proofs
set_option maxRecDepth 4000
variable{b' nd u v x:Int}{es:List Pt}{num:List Int}
variable {κ:Ctx}{I:List Item}
theorem cw8{a0 b0:Option Addr}{n0 m0 c0 d0:Nat}(hn:n0=(nbG nd es u).length)(aa:m0=(nbG nd es v).length)(hl:Sl κ I (.slice a0 n0 c0) (nbG nd es u))(hm:Sl κ I (.slice b0 m0 d0) (nbG nd es v))(M:u≠v):eu prog κ 133 [.slice a0 n0 c0,.slice b0 m0 d0] I λr J=>∃a c,r = .slice a (j3 nd es u v).length c/\J=vk 3 a c (j3 nd es u v)::I:=by
 have h1:=K1 nd es u
 have:=bn7 hn aa hl hm (bd5 _ _ _) (bd5 _ _ _) om
 rw [ay1 M] at this
 exact this
theorem am3{v:Value}(M:Sl κ I v es)(hG:s8 nd es):eu prog κ 86 [.agg #[e7 nd,v]] I λr J=>r=e7 0/\I=J:=by
 have h:=V1 (nd:=nd) M
 rw [s4.2 hG] at h
 exact h
theorem fz4(M : -1<=b'/\b'<=1) : -64<=b'*((j3 nd es u v).length:Int)/\b'*((j3 nd es u v).length:Int)<=64:=by
 have:=M3 nd es u v
 rcases (by omega:b' = -1\/b'=0\/b'=1) with h|h|h<;>rw [h]<;>omega
theorem di1{ls:List Int}(hn:ls.Nodup)(hr:∀w∈ls,0<=w/\w<(num.length:Int))(hb : -1<=b'/\b'<=1)(hv:∀x∈num,0<=x/\x<=1000000)(M:0<=x/\x<(num.length:Int)) : -1<=e_ (ls.foldl (X7 b') num) x/\e_ (ls.foldl (X7 b') num) x<=1000001:=by
 have h1:=hv _ (Bo (xs:=num) (i:=x) M.1 om)
 rw [ac6 _ _ hr _ M.1,M2 hn]
 split
 ·omega
 omega
theorem di3{d m lo hi:Int}{xs:List Int}(hu:0<=u/\u<(xs.length:Int))(M:0<=x)(hd : -m<=d/\d<=m)(h:lo<=e_ xs x/\e_ xs x<=hi)(hm:0<=m):lo - m<=e_ (List.set xs u.toNat (e_ xs u+d)) x/\e_ (List.set xs u.toNat (e_ xs u+d)) x<=hi+m:=by
 rw [Ei _ _ _ _ hu.1 M om]
 split
 ·subst_vars;omega
 omega
set_option maxHeartbeats 2000000 in
theorem dn7{nd' n0:Int}{ea na ga:Option Addr}{ec nc gn gc:Nat}(hl:Sl κ I (.slice ea es.length ec) es)(hm:Sl κ I (.slice na num.length nc) num)(hG:s8 nd es)(hu:q7 nd u)(hv:q7 nd v)(a5:u≠v)(a7:(num.length:Int)=nd)(ar:∀x∈num,0<=x/\x<=1000000)(ba:0<=n0/\n0<=1000000)(hb : -1<=b'/\b'<=1):eu prog κ 300 [.agg #[e7 nd,.slice ea es.length ec,e7 n0,.slice na num.length nc],.agg #[e7 (nd'),.slice ga gn gc],e7 u,e7 v,e7 (b')] I (λr J=>∃(a:Option Addr) (c:Nat),r = .tuple #[.agg #[e7 nd',.slice ga gn gc,e7 (n0+b'*((j3 nd es u v).length:Int)),.slice a num.length c],e7 ((j3 nd es u v).length:Int),e7 0]/\J=vc 3 (.slice a num.length c) (cr5 b' (j3 nd es u v) u v num)::I):=by
 have a6:=hG.rng
 have a9:0<=u/\u<nd:=hu
 have bb:0<=v/\v<nd:=hv
 have bc:=M3 nd es u v
 have a1:=fz4 (nd:=nd) (u:=u) (v:=v) (es:=es) hb
 have hS:∀w∈j3 nd es u v,0<=w/\w<(num.length:Int):=λw hw=>by have:=X9 hG hw;omega
 refine Ce5 Tryz.func300 C C ?_
 refine Al<|Ge1 (Av (cs:=[_,_,_,_]) C C C) λb1=>Ge1 (Av (cs:=[_,_]) C C C) λb2=>Ge1 (Aj ad0 C) λb3=>Ga C<|Ga C<|Ar<|Al<|Gf dj1 C<|Gl2 K0 ?_
 refine G.e (Ab c_ C C<|cq4 (nd:=nd) (A3 hl) hG) ?_
 rintro _ _ ⟨_,_,⟨aw,av,rs,ap,rfl,ak,rfl⟩,rfl,rfl⟩
 refine Dp (J:=vk 22 aw av rs::e8 b3 [e7 0,.slice none 0 0,e7 0,.slice none 0 0] 43::e8 b2 [e7 (nd'),.slice ga gn gc] 38::e8 b1 [e7 nd,.slice ea es.length ec,e7 n0,.slice na num.length nc] 43::(ao6 3 ap++I)) (Cj<|List.Perm.cons _<|Cz (A:=ao6 3 ap) (L:=[e8 b3 [e7 0,.slice none 0 0,e7 0,.slice none 0 0] 43,e8 b2 [e7 (nd'),.slice ga gn gc] 38,e8 b1 [e7 nd,.slice ea es.length ec,e7 n0,.slice na num.length nc] 43]) (T:=I)) ?_
 have a8:=ak.len
 refine Ga C<|Ar<|A0 (S7 13 10 6 5 2 3 4)<|Ax<|A8 mixed<|Ee 10<|Dr 0 C (Ap C)<|Dr 1 C (Ap C)<|Dr 2 C (A1 (α:=(G1 Int)) (xs:=rs) Cr W4 C C A5 (by first|omega|(have h8:=M om;omega))<|by first|omega|(have h8:=M om;omega)|(simp only [Fs];omega))<|Dr 3 C (Cc (α:=(G1 Int)) (xs:=rs) (u:= .slice (e_ rs u).a (e_ rs u).xs.length (e_ rs u).c) W4 C A5 (by first|omega|(have h8:=M om;omega)) (by first|omega|(have h8:=M om;omega)|(simp only [Fs];omega)) C)<|Dr 4 C (Ap C)<|Dr 5 C (Ap C)<|Dr 6 C (A1 (α:=(G1 Int)) (xs:=rs) Cr W4 C C A5 (by first|omega|(have h8:=M om;omega))<|by first|omega|(have h8:=M om;omega)|(simp only [Fs];omega))<|Dr 7 C (Cc (α:=(G1 Int)) (xs:=rs) (u:= .slice (e_ rs v).a (e_ rs v).xs.length (e_ rs v).c) W4 C A5 (by first|omega|(have h8:=M om;omega)) (by first|omega|(have h8:=M om;omega)|(simp only [Fs];omega)) C)<|Ds1 8<|Sc2 C (Ab c_ C C<|cw8 (ak.row _ om om).2 (ak.row _ om om).2 (Bd (ak.held (I:=I) (i:=u) om om) Ah) (Bd (ak.held (I:=I) (i:=v) om om) Ah) a5) λai aj=>?_
 refine Dr 9 C (Bj C)<|Dz<|Ak<|A0 (S7 14 10 6 5 2 3 4)<|Ax<|A8 mixed<|Ee 13<|Dr 0 C (Bl (vs:=[_,_]) K0) ?_
 refine Dr 1 C (Af dj0 C)<|Dr 2 C (Be ef) ?_
 refine Dr 3 C (Ap C)<|Dr 4 C (Ap C)<|Dr 5 C (Bn Ac C)<|Dr 6 C (En C C<|by first|(unfold InR;omega)|(have h7:=aa om;have h8:=ab om;unfold InR;omega))<|Dr 7 C (Cv C C<|by first|(unfold InR;omega)|(have h7:=aa om;have h8:=ab om;unfold InR;omega))<|Dr 8 C (Af aj0 C)<|Dr 9 C (Be W4) ?_
 refine C5 (rs:=[10,12]) kr C C<|D5 ?_<|Dl ?_
 ·refine Sc2 C (Ab c_ C C<|ag9 (xs:=num) (A3 hm) om) λaq ao=>?_
  refine Dr 11 C (Cn (cells:=[_,_,_,_]) ad0 Tryz.underlying43 ge3 C C)<|Ds1 12<|Se1 C (Aj ad0 C) λa0=>?_
  refine Ch kr ?_
  refine Ae 13 C (C9 ad0) ?_
  rintro _ _ ⟨rfl,rfl⟩
  refine Ci kr ?_
  refine Ak<|A0 (S6 15 14 10 2 3 4)<|Ax<|Al<|Gm C<|Gr (Bn Ac C)<|Gm C<|Ar<|A7<|B9 (σ:=Nat×(List Int)) (λs=>([(2,e7 u),(3,e7 v),(4,e7<|b'),(10,pt b3),(14,.slice ai (j3 nd es u v).length aj),(15,pt a0),(42,.slice ai (j3 nd es u v).length aj),(43,e7<|(((j3 nd es u v).length:Nat):Int)),(44,e7 ((s.1:Nat):Int))]:Env)) (λs=>e8 a0 [e7 (nd'),.slice ga gn gc,e7<|n0+(b'*(((j3 nd es u v).length:Nat):Int)),.slice aq num.length ao] 43::vc 3 (.slice aq num.length ao) (s.2)::vk 3 ai aj (j3 nd es u v)::vk 22 aw av rs::e8 b3 [e7 0,.slice none 0 0,e7 0,.slice none 0 0] 43::e8 b2 [e7 (nd'),.slice ga gn gc] 38::e8 b1 [e7 nd,.slice ea es.length ec,e7 n0,.slice na num.length nc] 43::(ao6 3 ap++I)) (λs=>(s.1<=(j3 nd es u v).length)/\(s.2=((j3 nd es u v).take s.1).foldl (X7 b') num)) (λs=>(j3 nd es u v).length - s.1) (0,num) ⟨om,rfl⟩ (cx4<|cx4<|Aa Cl Bb) Ai ?_
  rintro ⟨k,out⟩ hp
  dsimp only at hp ⊢
  obtain ⟨hk,ho⟩:=hp
  have a4:out.length=num.length:=by rw [ho];exact J5 _ _
  have M:=λh:k<(j3 nd es u v).length=>hS _ (Bo (xs:=(j3 nd es u v)) (i:=(k:Int)) om om)
  have aa:=λh:k<(j3 nd es u v).length=>be6 (b':=b') (num:=num) (H5 nd es u v) hS h
  rw [←ho] at aa
  have ab:=λh:k<(j3 nd es u v).length=>ar _ (Bo (xs:=num) (i:=e_ (j3 nd es u v) k) (M h).1 (M h).2)
  have ad:=fun (x:Int) (hx:0<=x/\x<(num.length:Int))=>di1 (b':=b') ((H5 nd es u v).sublist (Lf k _)) (λw hw=>hS w<|Hz hw) hb ar hx
  rw [←ho] at ad
  have az:=ad u om
  have an:=ad v om
  have a3:=di3 (x:=v) (u:=u) (xs:=out) (d:=b'*((j3 nd es u v).length:Int)) (m:=64) om om a1 an om
  refine Al<|Gr (Bm C C)<|Ar<|Ax<|Ao C (λax=>?_)<|λax=>?_
  ·refine Bc (Ak<|Ax<|A7<|Al<|Gr (A1 (α:=Int) (xs:=j3 nd es u v) Ac ef C C A5 (by first|omega|(have h8:=M om;omega))<|by first|omega|(have h8:=M om;omega)|(simp only [Fs];omega))<|Gr (B8 (xs:=j3 nd es u v) ef C A5 (by first|omega|(have h8:=M om;omega))<|by first|omega|(have h8:=M om;omega)|(simp only [Fs];omega))<|Ga C<|Ar<|A6<|Gf aj0 C<|Gl W4 ?_)
   refine Gm C<|Gr (A1 (α:=Int) (xs:=out) Ac ef C C A5 (by first|omega|(have h8:=M om;omega))<|by first|omega|(have h8:=M om;omega)|(simp only [Fs];omega))<|Gr (B8 (xs:=out) ef C A5 (by first|omega|(have h8:=M om;omega))<|by first|omega|(have h8:=M om;omega)|(simp only [Fs];omega))<|Gm C<|Gr (Cv C C<|by first|(unfold InR;omega)|(have h7:=aa om;have h8:=ab om;unfold InR;omega))<|Gr (A1 (α:=Int) (xs:=out) Ac ef C C A5 (by first|omega|(have h8:=M om;omega))<|by first|omega|(have h8:=M om;omega)|(simp only [Fs];omega))<|Ge0 (Cw (α:=Int) (xs:=out) (e:=3) (new:=(e_ out<|e_ (j3 nd es u v) k)+b') ef C C C (by first|omega|(have h8:=M om;omega)) (by first|omega|(have h8:=M om;omega)|(simp only [Fs];omega)) am) ?_
   exact Bq<|Au<|Ak<|A0 (S9 2 3 4 10 14 15 42 43 44)<|A6<|Gr (Cv C C<|by first|(unfold InR;omega)|(have h7:=aa om;have h8:=ab om;unfold InR;omega))<|Gm C<|Bq<|Bu ((k+1),(List.set out (e_ (j3 nd es u v) k).toNat ((e_ out<|e_ (j3 nd es u v) k)+b')))<|by dsimp only;exact ⟨om,(ar9 om ho)⟩
  refine Cg<|Aw<|Aw<|Bi<|Ak<|Al<|Gf aj0 C<|Gl W4 ?_
  refine Gm C<|Gr (A1 (α:=Int) (xs:=out) Ac ef C C A5 (by first|omega|(have h8:=M om;omega))<|by first|omega|(have h8:=M om;omega)|(simp only [Fs];omega))<|Gr (B8 (xs:=out) ef C A5 (by first|omega|(have h8:=M om;omega))<|by first|omega|(have h8:=M om;omega)|(simp only [Fs];omega))<|Gm C<|Gm C<|Gr (Bn Ac C)<|Gr (En C C<|by first|(unfold InR;omega)|(have h7:=aa om;have h8:=ab om;unfold InR;omega))<|Gr (Cv C C<|by first|(unfold InR;omega)|(have h7:=aa om;have h8:=ab om;unfold InR;omega))<|Gr (A1 (α:=Int) (xs:=out) Ac ef C C A5 (by first|omega|(have h8:=M om;omega))<|by first|omega|(have h8:=M om;omega)|(simp only [Fs];omega))<|Ge0 (Cw (α:=Int) (xs:=out) (e:=3) (new:=(e_ out u)+(b'*(((j3 nd es u v).length:Nat):Int))) ef C C C (by first|omega|(have h8:=M om;omega)) (by first|omega|(have h8:=M om;omega)|(simp only [Fs];omega)) am) ?_
  refine Ar<|A0 (S5 3 4 10 14 15)<|Al<|Gf aj0 C<|Gl W4 ?_
  refine Gm C<|Gr (A1 (α:=Int) (xs:=List.set out (u).toNat ((e_ out u)+(b'*(((j3 nd es u v).length:Nat):Int)))) Ac ef C C A5 (by first|omega|(have h8:=M om;omega))<|by first|omega|(have h8:=M om;omega)|(simp only [Fs];omega))<|Gr (B8 (xs:=List.set out (u).toNat ((e_ out u)+(b'*(((j3 nd es u v).length:Nat):Int)))) ef C A5 (by first|omega|(have h8:=M om;omega))<|by first|omega|(have h8:=M om;omega)|(simp only [Fs];omega))<|Gm C<|Gm C<|Gr (Bn Ac C)<|Gr (En C C<|by first|(unfold InR;omega)|(have h7:=aa om;have h8:=ab om;unfold InR;omega))<|Gr (Cv C C<|by first|(unfold InR;omega)|(have h7:=aa om;have h8:=ab om;unfold InR;omega))<|Gr (A1 (α:=Int) (xs:=List.set out (u).toNat ((e_ out u)+(b'*(((j3 nd es u v).length:Nat):Int)))) Ac ef C C A5 (by first|omega|(have h8:=M om;omega))<|by first|omega|(have h8:=M om;omega)|(simp only [Fs];omega))<|Ge0 (Cw (α:=Int) (xs:=List.set out (u).toNat ((e_ out u)+(b'*(((j3 nd es u v).length:Nat):Int)))) (e:=3) (new:=(e_ (List.set out (u).toNat ((e_ out u)+(b'*(((j3 nd es u v).length:Nat):Int)))) v)+(b'*(((j3 nd es u v).length:Nat):Int))) ef C C C (by first|omega|(have h8:=M om;omega)) (by first|omega|(have h8:=M om;omega)|(simp only [Fs];omega)) am) ?_
  refine Ar<|A0 (S3 10 14 15)<|Al<|Gl4 ad0 ?_
  refine Gm C<|Gr (Bn Ac C)<|Ge0 (C9 ad0) ?_
  refine Ga C<|Ga C<|Ar<|B3 ?_
  have au:List.set (List.set out (u).toNat ((e_ out u)+(b'*(((j3 nd es u v).length:Nat):Int)))) (v).toNat ((e_ (List.set out (u).toNat ((e_ out u)+(b'*(((j3 nd es u v).length:Nat):Int)))) v)+(b'*(((j3 nd es u v).length:Nat):Int)))=cr5 b' (j3 nd es u v) u v num:=by rw [ho,show k=(j3 nd es u v).length by omega,Hg];rfl
  exact Cs C ad0 C C C mm C (vc 3 (.slice aq num.length ao) (cr5 b' (j3 nd es u v) u v num)::I) (by rw [←au];exact Az) ⟨aq,ao,rfl,rfl⟩
 refine Se1 C (Aj ad0 C) λay=>?_
 refine Ds1 10<|Sc2 C (Ab c_ C C<|ag9 (xs:=num) (A3 hm) om) λae ah=>?_
 refine Dr 11 C (Cn (cells:=[_,_,_,_]) ad0 Tryz.underlying43 ge3 C C)<|Ch kr ?_
 refine Ae 13 C (C9 ad0) ?_
 rintro _ _ ⟨rfl,rfl⟩
 refine Ci kr ?_
 refine Ak<|A0 (S6 15 14 10 2 3 4)<|Ax<|Al<|Gm C<|Gr (Bn Ac C)<|Gm C<|Ar<|A7<|B9 (σ:=Nat×(List Int)) (λs=>([(2,e7 u),(3,e7 v),(4,e7<|b'),(10,pt b3),(14,.slice ai (j3 nd es u v).length aj),(15,pt ay),(42,.slice ai (j3 nd es u v).length aj),(43,e7<|(((j3 nd es u v).length:Nat):Int)),(44,e7 ((s.1:Nat):Int))]:Env)) (λs=>vc 3 (.slice ae num.length ah) (s.2)::e8 ay [e7 (nd'),.slice ga gn gc,e7<|n0+(b'*(((j3 nd es u v).length:Nat):Int)),.slice ae num.length ah] 43::vk 3 ai aj (j3 nd es u v)::vk 22 aw av rs::e8 b3 [e7 0,.slice none 0 0,e7 0,.slice none 0 0] 43::e8 b2 [e7 (nd'),.slice ga gn gc] 38::e8 b1 [e7 nd,.slice ea es.length ec,e7 n0,.slice na num.length nc] 43::(ao6 3 ap++I)) (λs=>(s.1<=(j3 nd es u v).length)/\(s.2=((j3 nd es u v).take s.1).foldl (X7 b') num)) (λs=>(j3 nd es u v).length - s.1) (0,num) ⟨om,rfl⟩ (cx4<|cx4<|Aa Cl Bb) Ai ?_
 rintro ⟨k,out⟩ hp
 dsimp only at hp ⊢
 obtain ⟨hk,ho⟩:=hp
 have a4:out.length=num.length:=by rw [ho];exact J5 _ _
 have M:=λh:k<(j3 nd es u v).length=>hS _ (Bo (xs:=(j3 nd es u v)) (i:=(k:Int)) om om)
 have aa:=λh:k<(j3 nd es u v).length=>be6 (b':=b') (num:=num) (H5 nd es u v) hS h
 rw [←ho] at aa
 have ab:=λh:k<(j3 nd es u v).length=>ar _ (Bo (xs:=num) (i:=e_ (j3 nd es u v) k) (M h).1 (M h).2)
 have ad:=fun (x:Int) (hx:0<=x/\x<(num.length:Int))=>di1 (b':=b') ((H5 nd es u v).sublist (Lf k _)) (λw hw=>hS w<|Hz hw) hb ar hx
 rw [←ho] at ad
 have az:=ad u om
 have an:=ad v om
 have a3:=di3 (x:=v) (u:=u) (xs:=out) (d:=b'*((j3 nd es u v).length:Int)) (m:=64) om om a1 an om
 refine Al<|Gr (Bm C C)<|Ar<|Ax<|Ao C (λax=>?_)<|λax=>?_
 ·refine Bc (Ak<|Ax<|A7<|Al<|Gr (A1 (α:=Int) (xs:=j3 nd es u v) Ac ef C C A5 (by first|omega|(have h8:=M om;omega))<|by first|omega|(have h8:=M om;omega)|(simp only [Fs];omega))<|Gr (B8 (xs:=j3 nd es u v) ef C A5 (by first|omega|(have h8:=M om;omega))<|by first|omega|(have h8:=M om;omega)|(simp only [Fs];omega))<|Ga C<|Ar<|A6<|Gf aj0 C<|Gl W4 ?_)
  refine Gm C<|Gr (A1 (α:=Int) (xs:=out) Ac ef C C A5 (by first|omega|(have h8:=M om;omega))<|by first|omega|(have h8:=M om;omega)|(simp only [Fs];omega))<|Gr (B8 (xs:=out) ef C A5 (by first|omega|(have h8:=M om;omega))<|by first|omega|(have h8:=M om;omega)|(simp only [Fs];omega))<|Gm C<|Gr (Cv C C<|by first|(unfold InR;omega)|(have h7:=aa om;have h8:=ab om;unfold InR;omega))<|Gr (A1 (α:=Int) (xs:=out) Ac ef C C A5 (by first|omega|(have h8:=M om;omega))<|by first|omega|(have h8:=M om;omega)|(simp only [Fs];omega))<|Ge0 (Cw (α:=Int) (xs:=out) (e:=3) (new:=(e_ out<|e_ (j3 nd es u v) k)+b') ef C C C (by first|omega|(have h8:=M om;omega)) (by first|omega|(have h8:=M om;omega)|(simp only [Fs];omega)) am) ?_
  exact Bq<|Au<|Ak<|A0 (S9 2 3 4 10 14 15 42 43 44)<|A6<|Gr (Cv C C<|by first|(unfold InR;omega)|(have h7:=aa om;have h8:=ab om;unfold InR;omega))<|Gm C<|Bq<|Bu ((k+1),(List.set out (e_ (j3 nd es u v) k).toNat ((e_ out<|e_ (j3 nd es u v) k)+b')))<|by dsimp only;exact ⟨om,(ar9 om ho)⟩
 refine Cg<|Aw<|Aw<|Bi<|Ak<|Al<|Gf aj0 C<|Gl W4 ?_
 refine Gm C<|Gr (A1 (α:=Int) (xs:=out) Ac ef C C A5 (by first|omega|(have h8:=M om;omega))<|by first|omega|(have h8:=M om;omega)|(simp only [Fs];omega))<|Gr (B8 (xs:=out) ef C A5 (by first|omega|(have h8:=M om;omega))<|by first|omega|(have h8:=M om;omega)|(simp only [Fs];omega))<|Gm C<|Gm C<|Gr (Bn Ac C)<|Gr (En C C<|by first|(unfold InR;omega)|(have h7:=aa om;have h8:=ab om;unfold InR;omega))<|Gr (Cv C C<|by first|(unfold InR;omega)|(have h7:=aa om;have h8:=ab om;unfold InR;omega))<|Gr (A1 (α:=Int) (xs:=out) Ac ef C C A5 (by first|omega|(have h8:=M om;omega))<|by first|omega|(have h8:=M om;omega)|(simp only [Fs];omega))<|Ge0 (Cw (α:=Int) (xs:=out) (e:=3) (new:=(e_ out u)+(b'*(((j3 nd es u v).length:Nat):Int))) ef C C C (by first|omega|(have h8:=M om;omega)) (by first|omega|(have h8:=M om;omega)|(simp only [Fs];omega)) am) ?_
 refine Ar<|A0 (S5 3 4 10 14 15)<|Al<|Gf aj0 C<|Gl W4 ?_
 refine Gm C<|Gr (A1 (α:=Int) (xs:=List.set out (u).toNat ((e_ out u)+(b'*(((j3 nd es u v).length:Nat):Int)))) Ac ef C C A5 (by first|omega|(have h8:=M om;omega))<|by first|omega|(have h8:=M om;omega)|(simp only [Fs];omega))<|Gr (B8 (xs:=List.set out (u).toNat ((e_ out u)+(b'*(((j3 nd es u v).length:Nat):Int)))) ef C A5 (by first|omega|(have h8:=M om;omega))<|by first|omega|(have h8:=M om;omega)|(simp only [Fs];omega))<|Gm C<|Gm C<|Gr (Bn Ac C)<|Gr (En C C<|by first|(unfold InR;omega)|(have h7:=aa om;have h8:=ab om;unfold InR;omega))<|Gr (Cv C C<|by first|(unfold InR;omega)|(have h7:=aa om;have h8:=ab om;unfold InR;omega))<|Gr (A1 (α:=Int) (xs:=List.set out (u).toNat ((e_ out u)+(b'*(((j3 nd es u v).length:Nat):Int)))) Ac ef C C A5 (by first|omega|(have h8:=M om;omega))<|by first|omega|(have h8:=M om;omega)|(simp only [Fs];omega))<|Ge0 (Cw (α:=Int) (xs:=List.set out (u).toNat ((e_ out u)+(b'*(((j3 nd es u v).length:Nat):Int)))) (e:=3) (new:=(e_ (List.set out (u).toNat ((e_ out u)+(b'*(((j3 nd es u v).length:Nat):Int)))) v)+(b'*(((j3 nd es u v).length:Nat):Int))) ef C C C (by first|omega|(have h8:=M om;omega)) (by first|omega|(have h8:=M om;omega)|(simp only [Fs];omega)) am) ?_
 refine Ar<|A0 (S3 10 14 15)<|Al<|Gl4 ad0 ?_
 refine Gm C<|Gr (Bn Ac C)<|Ge0 (C9 ad0) ?_
 refine Ga C<|Ga C<|Ar<|B3 ?_
 have au:List.set (List.set out (u).toNat ((e_ out u)+(b'*(((j3 nd es u v).length:Nat):Int)))) (v).toNat ((e_ (List.set out (u).toNat ((e_ out u)+(b'*(((j3 nd es u v).length:Nat):Int)))) v)+(b'*(((j3 nd es u v).length:Nat):Int)))=cr5 b' (j3 nd es u v) u v num:=by rw [ho,show k=(j3 nd es u v).length by omega,Hg];rfl
 exact Cs C ad0 C C C mm C (vc 3 (.slice ae num.length ah) (cr5 b' (j3 nd es u v) u v num)::I) (by rw [←au];exact Az) ⟨ae,ah,rfl,rfl⟩
end Go.Sl
namespace Go.Sl
open Go.Proofs
set_option maxRecDepth 4000
variable{ea ga na:Option Addr}{b ec gc nc:Nat}{M aa ab ad ae va vb y0 y1 y2 y3 y4 y5 y6 y7 y8 y9:Value}{xs:List Pt}
attribute [local irreducible] W G V D A j8 Eff
theorem di0(f:Pt->Bool):∀l:List Pt,0<=(l.map λp=>ind (f p)).sum/\(l.map λp=>ind (f p)).sum<=(l.length:Int)
 |[]=>by simp
 |p::l=>by
  have M:=di0 f l
  have h2:0<=ind (f p)/\ind (f p)<=1:=by unfold ind;split<;>omega
  rw [Hk,Jg,E_];omega
section
variable {nd u v:Int}{es es':List Pt}
theorem db4(hG:s8 nd es):∀x∈H9 nd es,0<=x/\x<=1000000:=λx M=>by
 obtain ⟨i,hi,rfl⟩:=av6 M
 rw [H3] at hi
 rw [au7 hi]
 have h1:=di0 (λp=>decide<|(i:Int)∈j3 nd es p.u p.v) es
 have h2:=q9 hG
 unfold ds6;omega
theorem fj7(h:R7 nd es es' u v):V6 nd es / 3+1*((j3 nd es u v).length:Int)=V6 nd es' / 3:=by have:=h.tri.1;omega
theorem fj8(h:R7 nd es es' u v):V6 nd es' / 3+(-1)*((j3 nd es' u v).length:Int)=V6 nd es / 3:=by have:=h.tri.1;rw [h.common];omega
theorem ds7(h:R7 nd es es' u v):cr5 1 (j3 nd es u v) u v (H9 nd es)=H9 nd es':=h.bv5.1
theorem ds8(h:R7 nd es es' u v):cr5 (-1) (j3 nd es' u v) u v (H9 nd es')=H9 nd es:=by rw [h.common];exact h.bv5.2
end
theorem fq1{κ:Ctx}{I:List Item}{nd:Int}{es:List Pt}(hl:Sl κ I (.slice ea es.length ec) es)(hm:Sl κ I (.slice na (H9 nd es).length nc) (H9 nd es))(hG:s8 nd es)  :
    eu prog κ 299 [.agg #[e7 nd,.slice ea es.length ec,e7<|V6 nd es / 3,.slice na (H9 nd es).length nc]] I (λr J=>r = .bool true/\I=J):=by
 refine Ce1 Tryz.func299 C C ?_
 refine Al<|Ge1 (Av (cs:=[_,_,_,_]) C C C) λb1=>Z ?_
 refine G.e (Ab c_ C C<|am3 (nd:=nd) (A3 hl) hG) ?_
 rintro _ _ ⟨_,_,⟨rfl,rfl⟩,rfl,rfl⟩
 refine Z ?_
 refine Ao C (λc8=>Z ?_)<|λc8=>Z ?_
 ·exact Am C C I Ah ⟨by first|rfl|(simp;done)|exact absurd C asm,rfl⟩
 refine G.e (Ab c_ C C<|bn9 (nd:=nd) (A3 hl) hG) ?_
 rintro _ _ ⟨_,_,⟨aa,ab,rfl,rfl⟩,rfl,rfl⟩
 refine Z ?_
 refine A4 (d:=19) C (λM=>Z ?_)<|λM=>Z ?_
 ·refine Dt (Cm C C C) (Ab c_ C C<|cq9 (xs:=H9 nd es) (ys:=H9 nd es) (A3 hm) A5) ?_
  rintro _ _ ⟨_,_,⟨rfl,rfl⟩,rfl,rfl⟩
  refine Z ?_
  exact Am C C I Ah ⟨by first|rfl|(simp;done)|exact absurd C asm,rfl⟩
 exact Am C C I Ah ⟨by first|rfl|(simp;done)|exact absurd C asm,rfl⟩
theorem cw3{κ:Ctx}{I:List Item}{nd:Int}{es:List Pt}(hl:Sl κ I (.slice ea es.length ec) es)(hm:Sl κ I (.slice na (H9 nd es).length nc) (H9 nd es))(M:s8 nd es){u v:Int}(he:F5 nd u v)(hn:j4 u v∉es):eu prog κ 297 [.agg #[e7 nd,.slice ea es.length ec,e7 (V6 nd es / 3),.slice na (H9 nd es).length nc],e7 u,e7 v] I (λr J=>∃(ga:Option Addr) (gc:Nat) (a:Option Addr) (c:Nat) (w:Value),r = .tuple #[.agg #[e7 nd,.slice ga (z8 Pt.lt es (j4 u v)).length gc,e7 (V6 nd (z8 Pt.lt es (j4 u v)) / 3),.slice a (H9 nd (z8 Pt.lt es (j4 u v))).length c],w,e7 0]/\J=vk 3 a c (H9 nd (z8 Pt.lt es (j4 u v)))::vk 105 ga gc (z8 Pt.lt es (j4 u v))::I):=by
 have ao:=M.rng
 have an:=he
 unfold F5 at an
 have aq:=H3 nd es
 have ap:=bo8 M
 refine Ce3 Tryz.func297 C C ?_
 refine Al<|Ge1 (Av (cs:=[_,_,_,_]) C C C) λb1=>Ge1 (Aj ad0 C) λb2=>Z ?_
 refine G.e (Ab c_ C C<|fq1 (nd:=nd) (A3 hl) (A3 hm) M) ?_
 rintro _ _ ⟨_,_,⟨rfl,rfl⟩,rfl,rfl⟩
 refine Z ?_
 refine G.e (Ab c_ C C<|bb3 (nd:=nd) (u:=u) (v:=v) (A3 hl) (add_zero M he hn)<|by have:=q9 M;omega) ?_
 rintro _ _ ⟨_,_,⟨ad,aa,rfl,rfl⟩,rfl,rfl⟩
 refine Z ?_
 refine Ge1 (Aj K0 C) λb5=>Ge0 (Co K0)<|Z ?_
 refine Ao C (λak=>Z ?_)<|λak=>Z ?_
 ·refine Ge0 (C9 ad0) (Z ?_)
  exact absurd rfl asm
 refine G.e (Ab c_ C C<|dn7 (nd:=nd) (nd':=nd) (u:=u) (v:=v) (b':=1) (n0:=V6 nd es / 3) (ga:=ad) (gn:=((z8 Pt.lt es<|j4 u v)).length) (gc:=aa) (A3 hl) (A3 hm) M ta8 ta8 om om (db4 M) om dc) ?_
 rintro _ _ ⟨_,_,⟨ai,ah,rfl,rfl⟩,rfl,rfl⟩
 refine Z ?_
 refine Ge0 (C9 ad0)<|Z ?_
 have ab:=ds7 (R7.add M he hn)
 have aj:=fj7 (R7.add M he hn)
 have ae:(H9 nd<|z8 Pt.lt es<|j4 u v).length=(H9 nd es).length:=by rw [H3,H3]
 exact Cs C ad0 C C C mm C (vk 3 ai ah (H9 nd<|z8 Pt.lt es<|j4 u v)::vk 105 ad aa (z8 Pt.lt es<|j4 u v)::I) (by unfold vk;rw [←ab,ab,ae,←ab];exact Az) ⟨ad,aa,ai,ah,e7 ((j3 nd es u v).length:Int),by rw [←aj,ae];rfl,rfl⟩
theorem cw4{κ:Ctx}{I:List Item}{nd:Int}{es:List Pt}(hl:Sl κ I (.slice ea es.length ec) es)(hm:Sl κ I (.slice na (H9 nd es).length nc) (H9 nd es))(M:s8 nd es){u v:Int}(he:F5 nd u v)(hn:j4 u v∈es):eu prog κ 298 [.agg #[e7 nd,.slice ea es.length ec,e7 (V6 nd es / 3),.slice na (H9 nd es).length nc],e7 u,e7 v] I (λr J=>∃(ga:Option Addr) (gc:Nat) (a:Option Addr) (c:Nat) (w:Value),r = .tuple #[.agg #[e7 nd,.slice ga (j7 es (j4 u v)).length gc,e7 (V6 nd (j7 es (j4 u v)) / 3),.slice a (H9 nd (j7 es (j4 u v))).length c],w,e7 0]/\J=vk 3 a c (H9 nd (j7 es (j4 u v)))::vk 105 ga gc (j7 es (j4 u v))::I):=by
 have ao:=M.rng
 have an:=he
 unfold F5 at an
 have aq:=H3 nd es
 have ap:=bo8 M
 refine Ce3 Tryz.func298 C C ?_
 refine Al<|Ge1 (Av (cs:=[_,_,_,_]) C C C) λb1=>Ge1 (Aj ad0 C) λb2=>Z ?_
 refine G.e (Ab c_ C C<|fq1 (nd:=nd) (A3 hl) (A3 hm) M) ?_
 rintro _ _ ⟨_,_,⟨rfl,rfl⟩,rfl,rfl⟩
 refine Z ?_
 refine Gc2 (Ab c_ C C<|bb1 (nd:=nd) (u:=u) (v:=v) (A3 hl) (az7 M he hn)<|by have:=q9 M;omega) λad aa=>Z ?_
 refine Ge1 (Aj K0 C) λb5=>Ge0 (Co K0)<|Z ?_
 refine Ao C (λak=>Z ?_)<|λak=>Z ?_
 ·refine Ge0 (C9 ad0) (Z ?_)
  exact absurd rfl asm
 refine G.e (Ab c_ C C<|dn7 (nd:=nd) (nd':=nd) (u:=u) (v:=v) (b':= -1) (n0:=V6 nd es / 3) (ga:=ad) (gn:=((j7 es<|j4 u v)).length) (gc:=aa) (A3 hl) (A3 hm) M ta8 ta8 om om (db4 M) om dc) ?_
 rintro _ _ ⟨_,_,⟨ai,ah,rfl,rfl⟩,rfl,rfl⟩
 refine Z ?_
 refine Ge0 (C9 ad0)<|Z ?_
 have ab:=ds8 (R7.rem M he hn)
 have aj:=fj8 (R7.rem M he hn)
 have ae:(H9 nd<|j7 es<|j4 u v).length=(H9 nd es).length:=by rw [H3,H3]
 exact Cs C ad0 C C C mm C (vk 3 ai ah (H9 nd<|j7 es<|j4 u v)::vk 105 ad aa (j7 es<|j4 u v)::I) (by unfold vk;rw [←ab,ab,ae,←ab];exact Az) ⟨ad,aa,ai,ah,e7 ((j3 nd es u v).length:Int),by rw [←aj,ae];rfl,rfl⟩
theorem cw5{κ:Ctx}{I:List Item}{nd:Int}{es:List Pt}(hl:Sl κ I (.slice ea es.length ec) es)(hb:es.length<=1000000):eu prog κ 88 [.agg #[e7 nd,.slice ea es.length ec]] I (λr J=>∃(a:Option Addr) (c:Nat),r = .agg #[e7 nd,.slice a es.length c]/\J=vk 105 a c es::I):=by
 refine Ce1 Tryz.func88 C C ?_
 refine Al<|Ge1 (Av (cs:=[_,_]) C C C) λb1=>Ge1 (Aj K0 C) λb2=>Z ?_
 refine Gc2 (Ab c_ C C<|an2 (xs:=es) (A3 hl) om) λaa M=>?_
 refine Gf K6 C<|Ge0 (Fg am7)<|Z ?_
 refine Ge0 (Co K0) ?_
 exact Ar<|B3<|Ej C K0 C mm C (vk 105 aa M es::I) Az ⟨aa,M,rfl,rfl⟩
theorem fb6{κ:Ctx}{I:List Item}{nd:Int}{es:List Pt}(hl:Sl κ I (.slice ea es.length ec) es)(hG:s8 nd es):eu prog κ 43 [.agg #[e7 nd,.slice ea es.length ec]] I (λr J=>∃(ga:Option Addr) (gc:Nat) (a:Option Addr) (c:Nat),r = .tuple #[.agg #[e7 nd,.slice ga es.length gc,e7 (V6 nd es / 3),.slice a (H9 nd es).length c],e7 0]/\J=vk 3 a c (H9 nd es)::vk 105 ga gc es::I):=by
 have ae:=q9 hG
 refine Ce1 Tryz.func43 C C ?_
 refine Al<|Ge1 (Av (cs:=[_,_]) C C C) λb1=>Ge1 (Aj ad0 C) λb2=>Z ?_
 refine G.e (Ab c_ C C<|am3 (nd:=nd) (A3 hl) hG) ?_
 rintro _ _ ⟨_,_,⟨rfl,rfl⟩,rfl,rfl⟩
 refine Z ?_
 refine Ao C (λc10=>Z ?_)<|λc10=>Z ?_
 ·refine Ge0 (C9 ad0) (Z ?_)
  exact absurd rfl asm
 refine G.e (Ab c_ C C<|bn9 (nd:=nd) (A3 hl) hG) ?_
 rintro _ _ ⟨_,_,⟨ad,ab,rfl,rfl⟩,rfl,rfl⟩
 refine Z ?_
 refine Gc2 (Ab c_ C C<|cw5 (nd:=nd) (A3 hl) om) λaa M=>Z ?_
 refine Ge0 (C9 ad0) ?_
 exact Ga C<|Ar<|B3<|Cp C ad0 C C mm C (vk 3 ad ab (H9 nd es)::vk 105 aa M es::I) Az ⟨aa,M,ad,ab,rfl,rfl⟩
variable {κ:Ctx}{I:List Item}
theorem fr1{nd:Int}{es:List Pt}(M:Sl κ I (.slice ea es.length ec) es)(hm:Sl κ I (.slice na (r9 nd es).length nc) (r9 nd es))(hG:s8 nd es)(hT:F4 κ I 0 p5):eu prog κ 306 [.agg #[e7 nd,.slice ea es.length ec,e7 (F8 nd es),e7 (J9 nd es),.slice na (r9 nd es).length nc]] I (λr J=>r = .bool true/\I=J):=by
 have ad:=hG.rng
 refine Ce1 Tryz.func306 C C ?_
 refine Al<|Ge1 (Av (cs:=[_,_,_,_,_]) C C C) λb1=>Z ?_
 refine G.e (Ab c_ C C<|am3 (nd:=nd) (A3 M) hG) ?_
 rintro _ _ ⟨_,_,⟨rfl,rfl⟩,rfl,rfl⟩
 refine Z ?_
 refine Ao C (λc8=>Z ?_)<|λc8=>Z ?_
 ·exact Am C C I Ah ⟨by first|rfl|(simp;done)|exact absurd C asm,rfl⟩
 refine Gc2 (Ab c_ C C<|bn8 (nd:=nd) (A3 M) hG<|Ba hT Ah) λae ah=>Z ?_
 refine A8 mixed<|Ee 19<|Z ?_
 refine Ds1 4<|Sc0 C (Ab c_ C C<|ca2 (nd:=nd) (A3 M) om)<|Z ?_
 refine Df (d:=21) C (λaa=>Z ?_)<|λaa=>?_
 ·refine Df (d:=27) C (λab=>Z ?_) (λab=>?_)
  ·refine Ds1 16 (Sc0 C (Ab c_ C C<|cq9 (xs:=r9 nd es) (ys:=r9 nd es) (A3 hm) A5)<|Z ?_)
   exact Am C C I Ah ⟨by first|rfl|(simp;done)|exact absurd C asm,rfl⟩
  refine Dpo 13 C<|Z ?_
  exact Am C C I Ah ⟨by first|rfl|(simp;done)|exact absurd C asm,rfl⟩
 refine Dpo 7 C<|Z ?_
 exact Am C C I Ah ⟨by first|rfl|(simp;done)|exact absurd C asm,rfl⟩
theorem cx8{nd:Int}{es:List Pt}(hl:Sl κ I (.slice ea es.length ec) es)(hm:Sl κ I (.slice na (r9 nd es).length nc) (r9 nd es))(M:s8 nd es){u v:Int}(he:F5 nd u v)(hn:j4 u v∉es)(hT:F4 κ I 0 p5):eu prog κ 304 [.agg #[e7 nd,.slice ea es.length ec,e7 (F8 nd es),e7 (J9 nd es),.slice na (r9 nd es).length nc],e7 u,e7 v] I (λr J=>∃(ga:Option Addr) (gc:Nat) (a:Option Addr) (c:Nat) (w:Value),r = .tuple #[.agg #[e7 nd,.slice ga (z8 Pt.lt es (j4 u v)).length gc,e7 (F8 nd (z8 Pt.lt es (j4 u v))),e7 (J9 nd (z8 Pt.lt es (j4 u v))),.slice a (r9 nd (z8 Pt.lt es (j4 u v))).length c],w,e7 0]/\J=vk 3 a c (r9 nd (z8 Pt.lt es (j4 u v)))::vk 105 ga gc (z8 Pt.lt es (j4 u v))::I):=by
 have ap:=M.rng
 have an:=he
 unfold F5 at an
 have au:=G3 nd es
 have aq:=ck2 M
 have ar:=bu7 M
 refine Ce3 Tryz.func304 C C ?_
 refine Al<|Ge1 (Av (cs:=[_,_,_,_,_]) C C C) λb1=>Ge1 (Aj V5 C) λb2=>Z ?_
 refine Gc0 (Ab c_ C C<|fr1 (nd:=nd) (A3 hl) (A3 hm) M<|Ba hT Ah)<|Z ?_
 refine G.e (Ab c_ C C<|bb3 (nd:=nd) (u:=u) (v:=v) (A3 hl) (add_zero M he hn)<|by have:=q9 M;omega) ?_
 rintro _ _ ⟨_,_,⟨ab,aa,rfl,rfl⟩,rfl,rfl⟩
 refine Z ?_
 refine Ge1 (Aj K0 C) λb5=>Ge0 (Co K0)<|Z ?_
 refine Ao C (λak=>Z ?_)<|λak=>Z ?_
 ·refine Ge0 (E7 V5) (Z ?_)
  exact absurd rfl asm
 refine G.e (Ab c_ C C<|dp0 (nd:=nd) (nd':=nd) (nd0:=nd) (u:=u) (v:=v) (b':=1) (w0:=F8 nd es) (n0:=J9 nd es) (ga:=ab) (gn:=((z8 Pt.lt es<|j4 u v)).length) (gc:=aa) (A3 hl) (A3 hm) M ta8 ta8 om (ck1 M) om om dc<|Ba hT Ah) ?_
 rintro _ _ ⟨_,_,⟨ah,ae,rfl,rfl⟩,rfl,rfl⟩
 refine Z ?_
 refine Ge0 (E7 V5)<|Z ?_
 have ai:=(R7.add M he hn).bk6.1
 obtain ⟨ao,aj⟩:=du3 (R7.add M he hn)
 have ad:(r9 nd<|z8 Pt.lt es<|j4 u v).length=(r9 nd es).length:=by rw [G3,G3]
 exact Cs C V5 C C C mm C (vk 3 ah ae (r9 nd<|z8 Pt.lt es<|j4 u v)::vk 105 ab aa (z8 Pt.lt es<|j4 u v)::I) (by unfold vk;rw [ad,←ai];exact Az) ⟨ab,aa,ah,ae,_,by rw [←ao,←aj,ad]<;>rfl,rfl⟩
theorem cx9{nd:Int}{es:List Pt}(hl:Sl κ I (.slice ea es.length ec) es)(hm:Sl κ I (.slice na (r9 nd es).length nc) (r9 nd es))(M:s8 nd es){u v:Int}(he:F5 nd u v)(hn:j4 u v∈es)(hT:F4 κ I 0 p5):eu prog κ 305 [.agg #[e7 nd,.slice ea es.length ec,e7 (F8 nd es),e7 (J9 nd es),.slice na (r9 nd es).length nc],e7 u,e7 v] I (λr J=>∃(ga:Option Addr) (gc:Nat) (a:Option Addr) (c:Nat) (w:Value),r = .tuple #[.agg #[e7 nd,.slice ga (j7 es (j4 u v)).length gc,e7 (F8 nd (j7 es (j4 u v))),e7 (J9 nd (j7 es (j4 u v))),.slice a (r9 nd (j7 es (j4 u v))).length c],w,e7 0]/\J=vk 3 a c (r9 nd (j7 es (j4 u v)))::vk 105 ga gc (j7 es (j4 u v))::I):=by
 have ap:=M.rng
 have an:=he
 unfold F5 at an
 have au:=G3 nd es
 have aq:=ck2 M
 have ar:=bu7 M
 refine Ce3 Tryz.func305 C C ?_
 refine Al<|Ge1 (Av (cs:=[_,_,_,_,_]) C C C) λb1=>Ge1 (Aj V5 C) λb2=>Z ?_
 refine Gc0 (Ab c_ C C<|fr1 (nd:=nd) (A3 hl) (A3 hm) M<|Ba hT Ah)<|Z ?_
 refine Gc2 (Ab c_ C C<|bb1 (nd:=nd) (u:=u) (v:=v) (A3 hl) (az7 M he hn)<|by have:=q9 M;omega) λab aa=>Z ?_
 refine Ge1 (Aj K0 C) λb5=>Ge0 (Co K0)<|Z ?_
 refine Ao C (λak=>Z ?_)<|λak=>Z ?_
 ·refine Ge0 (E7 V5) (Z ?_)
  exact absurd rfl asm
 refine G.e (Ab c_ C C<|dp0 (nd:=nd) (nd':=nd) (nd0:=nd) (u:=u) (v:=v) (b':= -1) (w0:=F8 nd es) (n0:=J9 nd es) (ga:=ab) (gn:=((j7 es<|j4 u v)).length) (gc:=aa) A5 (A3 hm) (R7.rem M he hn).ok ta8 ta8 om (ck1 M) om om dc (Ba hT Ah)) ?_
 rintro _ _ ⟨_,_,⟨ah,ae,rfl,rfl⟩,rfl,rfl⟩
 refine Z ?_
 refine Ge0 (E7 V5)<|Z ?_
 have ai:=(R7.rem M he hn).bk6.2
 obtain ⟨ao,aj⟩:=du4 (R7.rem M he hn)
 have ad:(r9 nd<|j7 es<|j4 u v).length=(r9 nd es).length:=by rw [G3,G3]
 exact Cs C V5 C C C mm C (vk 3 ah ae (r9 nd<|j7 es<|j4 u v)::vk 105 ab aa (j7 es<|j4 u v)::I) (by unfold vk;rw [ad,←ai];exact Az) ⟨ab,aa,ah,ae,_,by rw [←ao,←aj,ad]<;>rfl,rfl⟩
theorem fe0{nd:Int}{es:List Pt}(hl:Sl κ I (.slice ea es.length ec) es)(hG:s8 nd es)(hT:F4 κ I 0 p5):eu prog κ 44 [.agg #[e7 nd,.slice ea es.length ec]] I (λr J=>∃(ga:Option Addr) (gc:Nat) (a:Option Addr) (c:Nat),r = .tuple #[.agg #[e7 nd,.slice ga es.length gc,e7 (F8 nd es),e7 (J9 nd es),.slice a (r9 nd es).length c],e7 0]/\J=vk 3 a c (r9 nd es)::vk 105 ga gc es::I):=by
 have ah:=q9 hG
 have ae:=hG.rng
 refine Ce1 Tryz.func44 C C ?_
 refine Al<|Ge1 (Av (cs:=[_,_]) C C C) λb1=>Ge1 (Aj V5 C) λb2=>Z ?_
 refine G.e (Ab c_ C C<|am3 (nd:=nd) (A3 hl) hG) ?_
 rintro _ _ ⟨_,_,⟨rfl,rfl⟩,rfl,rfl⟩
 refine Z ?_
 refine Ao C (λc10=>Z ?_)<|λc10=>Z ?_
 ·refine Ge0 (E7 V5) (Z ?_)
  exact absurd rfl asm
 refine Gc2 (Ab c_ C C<|bn8 (nd:=nd) (A3 hl) hG<|Ba hT Ah) λab aa=>Z ?_
 refine A8 mixed<|Ee 11<|Z ?_
 refine Ds1 4<|Sc2 C (Ab c_ C C<|an2 (xs:=es) (A3 hl) om) λad M=>Z ?_
 refine Ds1 7<|Sc0 C (Ab c_ C C<|ca2 (nd:=nd) (A3 hl) om)<|Z ?_
 refine Ch kr ?_
 refine Ae 11 C (E7 V5) ?_
 rintro _ _ ⟨rfl,rfl⟩
 refine Di (i:=12) kr C (Aq C) C C (Bj C) ?_
 refine Ci kr<|Z ?_
 exact Cp C V5 C C mm C (vk 3 ab aa (r9 nd es)::vk 105 ad M es::I) Az ⟨ad,M,ab,aa,rfl,rfl⟩
theorem fq6{κ:Ctx}{I:List Item}{nd:Int}{es:List Pt}(hl:Sl κ I (.slice ea es.length ec) es)(hG:s8 nd es)(hT:F4 κ I 0 p5):eu prog κ 41 [.agg #[e7 nd,.slice ea es.length ec]] I (λr J=>∃(ga:Option Addr) (gc:Nat) (a:Option Addr) (c:Nat),r = .tuple #[.agg #[e7 nd,.slice ga es.length gc,.slice a (j9 nd es).length c],e7 0]/\J=vk 3 a c (j9 nd es)::vk 105 ga gc es::I):=by
 have ae:=s4.2 hG
 have ah:=q9 hG
 refine Ce1 Tryz.func41 C C ?_
 refine Al<|Ge1 (Av (cs:=[_,_]) C C C) λb1=>Ge1 (Aj ab6 C) λb2=>Z ?_
 refine Gc2 (Ab c_ C C<|bi0 (nd:=nd) (A3 hl)<|Ba hT Ah) λab aa=>Z ?_
 refine Ao C (λc12=>Z ?_)<|λc12=>?_
 ·refine Ge0 (Db ab6) (Z ?_)
  exact Cp C ab6 C C mm C I Ah<|by exfalso;first|exact absurd ae asm|omega
 refine Bc<|Ak<|Ax<|A8 mixed<|Ee 8<|Z ?_
 refine Ds1 4<|Sc2 C (Ab c_ C C<|an2 (xs:=es) (A3 hl) om) λad M=>Z ?_
 refine Ch kr ?_
 refine Ae 8 C (Db ab6) ?_
 rintro _ _ ⟨rfl,rfl⟩
 refine Di (i:=9) kr C (Aq C) C C (Bj C) ?_
 refine Ci kr<|Z ?_
 exact Cp C ab6 C C mm C (vk 3 ab aa (j9 nd es)::vk 105 ad M es::I) Az ⟨ad,M,ab,aa,rfl,rfl⟩
variable {κ:Ctx}{I:List Item}
structure SlA where
 a:Option Addr
 c:Nat
structure PkV where
 e1:SlA
 n1:SlA
 e2:SlA
 n2:SlA
 e3:SlA
 n3:SlA
 e4:SlA
 n4:SlA
abbrev pq(nd:Int)(E:List Pt)(p:PkV):List Value:=[e7 nd,.slice p.e1.a E.length p.e1.c,.slice p.n1.a (j9 nd E).length p.n1.c,e7 nd,.slice p.e2.a E.length p.e2.c,.slice p.n2.a (j5 nd E).length p.n2.c,e7 nd,.slice p.e3.a E.length p.e3.c,e7 (V6 nd E / 3),.slice p.n3.a (H9 nd E).length p.n3.c,e7 nd,.slice p.e4.a E.length p.e4.c,e7 (F8 nd E),e7 (J9 nd E),.slice p.n4.a (r9 nd E).length p.n4.c]
abbrev px(nd:Int)(E0:List Pt)(a0:Option Addr)(c0:Nat)(b0:Option Addr)(d0:Nat)(E1:List Pt)(a1:Option Addr)(c1:Nat)(b1:Option Addr)(d1:Nat)(E2:List Pt)(a2:Option Addr)(c2:Nat)(b2:Option Addr)(d2:Nat)(E3:List Pt)(a3:Option Addr)(c3:Nat)(b3:Option Addr)(d3:Nat):List Value:=[e7 nd,.slice a0 E0.length c0,.slice b0 (j9 nd E0).length d0,e7 nd,.slice a1 E1.length c1,.slice b1 (j5 nd E1).length d1,e7 nd,.slice a2 E2.length c2,e7 (V6 nd E2 / 3),.slice b2 (H9 nd E2).length d2,e7 nd,.slice a3 E3.length c3,e7 (F8 nd E3),e7 (J9 nd E3),.slice b3 (r9 nd E3).length d3]
abbrev ky(kd wd mo bd lt mr:Int)(wa:Option Addr)(wn wc:Nat)(nd:Int)(la:Option Addr)(ln lc:Nat)(E:List Pt)(p:PkV)(tm:Int):List Value:=[e7 kd,e7 wd,e7 mo,e7 bd,e7 lt,e7 mr,.slice wa wn wc,e7 nd,.slice la ln lc,e7 nd,.slice p.e1.a E.length p.e1.c,.slice p.n1.a (j9 nd E).length p.n1.c,e7 nd,.slice p.e2.a E.length p.e2.c,.slice p.n2.a (j5 nd E).length p.n2.c,e7 nd,.slice p.e3.a E.length p.e3.c,e7 (V6 nd E / 3),.slice p.n3.a (H9 nd E).length p.n3.c,e7 nd,.slice p.e4.a E.length p.e4.c,e7 (F8 nd E),e7 (J9 nd E),.slice p.n4.a (r9 nd E).length p.n4.c,e7 tm]
structure PkR (κ:Ctx) (T:List Item) (nd:Int) (es:List Pt) (v:PkV):Prop where
 e1:Sl κ T (.slice v.e1.a es.length v.e1.c) es
 n1:Sl κ T (.slice v.n1.a (j9 nd es).length v.n1.c) (j9 nd es)
 e2:Sl κ T (.slice v.e2.a es.length v.e2.c) es
 n2:Sl κ T (.slice v.n2.a (j5 nd es).length v.n2.c) (j5 nd es)
 e3:Sl κ T (.slice v.e3.a es.length v.e3.c) es
 n3:Sl κ T (.slice v.n3.a (H9 nd es).length v.n3.c) (H9 nd es)
 e4:Sl κ T (.slice v.e4.a es.length v.e4.c) es
 n4:Sl κ T (.slice v.n4.a (r9 nd es).length v.n4.c) (r9 nd es)
theorem PkR.fit{κ:Ctx}{I J:List Item}{nd:Int}{es:List Pt}{v:PkV}(h:PkR κ I nd es v)(f:Fit κ J I):PkR κ J nd es v:=
 ⟨h.e1.fit f,h.n1.fit f,h.e2.fit f,h.n2.fit f,h.e3.fit f,h.n3.fit f,h.e4.fit f,h.n4.fit f⟩
theorem gb5(hl:Sl κ I va xs)(hm:Sl κ I vb xs):eu prog κ 265 [va,vb] I (λr J=>r = .bool true/\I=J):=by
 refine Bx hl.le λab=>?_
 refine Ce2 Tryz.func265 C C<|Z ?_
 refine Ao C (λc10=>?_)<|λc10=>Z ?_
 ·omega
 refine Dj (σ:=Nat) (λs=>[(13,e7 ((s:Nat):Int))]) (λ_=>[]) (λs=>(s<=xs.length)) (λs=>xs.length - s) 0 (show ((0:Nat)<=xs.length) from om) ?_
 rintro k hp
 have hk:=hp
 refine Z ?_
 refine Ao C (λaa=>Z ?_)<|λaa=>Z ?_
 ·refine A8 mixed (Bv I 9<|Z ?_)
  refine Dr 8 C (j8.fx6 (α:=Pt) (a:=(e_ xs k)) (b:=(e_ xs k)) ay3 C C)<|Z ?_
  refine Ao C (λM=>?_)<|λM=>Z ?_
  ·exact absurd rfl M
  exact Bu ((k+1)) om
 exact Am C C I Ah ⟨rfl,rfl⟩
theorem bb0{nd:Int}(hl:Sl κ I va xs)(hm:Sl κ I vb xs):eu prog κ 258 [.agg #[e7 nd,va],.agg #[e7 nd,vb]] I (λr J=>r = .bool true/\I=J):=by
 refine Ce2 Tryz.func258 C C ?_
 refine Al<|Ge1 (Av (cs:=[_,_]) C C C) λb1=>Ge1 (Av (cs:=[_,_]) C C C) λb2=>Z ?_
 refine A4 (d:=10) C (λM=>Z ?_)<|λM=>?_
 ·refine Dt (Cm C C C) (Ab c_ C C<|gb5 (xs:=xs) (A3 hl)<|A3 hm) ?_
  rintro _ _ ⟨_,_,⟨rfl,rfl⟩,rfl,rfl⟩
  refine Z ?_
  exact Am C C I Ah ⟨rfl,rfl⟩
 exact absurd rfl M
theorem fq0{nd:Int}{es:List Pt}(hl:Sl κ I (.slice ea es.length ec) es)(hm:Sl κ I (.slice na (j9 nd es).length nc) (j9 nd es))(hG:s8 nd es)(hg:Sl κ I (.slice ga es.length gc) es)(hT:F4 κ I 0 p5):eu prog κ 254 [(pt b),.agg #[e7 nd,.slice ga es.length gc]] (e8 b [e7 nd,.slice ea es.length ec,.slice na (j9 nd es).length nc,y3,y4,y5,y6,y7,y8,y9,ad,ae,M,aa,ab] 169::I) (λr J=>r = .bool true/\J=e8 b [e7 nd,.slice ea es.length ec,.slice na (j9 nd es).length nc,y3,y4,y5,y6,y7,y8,y9,ad,ae,M,aa,ab] 169::I):=by
 refine Ce2 Tryz.func254 C C ?_
 refine Al<|Ge1 (Av (cs:=[_,_]) C C C) λb1=>Ga C<|Ar<|Ax<|A8 mixed<|Ee 15<|Z ?_
 refine Ds1 6<|Sc0 C (Ab c_ C C<|bb0 (nd:=nd) (xs:=es) (A3 hl)<|A3 hg)<|Z ?_
 refine Ds1 12<|Sc0 C (Ab c_ C C<|do7 (nd:=nd) (A3 hl) (A3 hm) hG<|Ba hT Ah)<|Z ?_
 exact Am C C (e8 b [e7 nd,.slice ea es.length ec,.slice na (j9 nd es).length nc,y3,y4,y5,y6,y7,y8,y9,ad,ae,M,aa,ab] 169::I) Az ⟨rfl,rfl⟩
theorem fp9{nd:Int}{es:List Pt}(hl:Sl κ I (.slice ea es.length ec) es)(hm:Sl κ I (.slice na (j5 nd es).length nc) (j5 nd es))(hG:s8 nd es)(hg:Sl κ I (.slice ga es.length gc) es)(hT:F4 κ I 0 p5):eu prog κ 281 [.pointer (some ⟨b,3,none⟩),.agg #[e7 nd,.slice ga es.length gc]] (e8 b [y0,y1,y2,e7 nd,.slice ea es.length ec,.slice na (j5 nd es).length nc,y6,y7,y8,y9,ad,ae,M,aa,ab] 169::I) (λr J=>r = .bool true/\J=e8 b [y0,y1,y2,e7 nd,.slice ea es.length ec,.slice na (j5 nd es).length nc,y6,y7,y8,y9,ad,ae,M,aa,ab] 169::I):=by
 refine Ce2 Tryz.func281 C C ?_
 refine Al<|Ge1 (Av (cs:=[_,_]) C C C) λb1=>Ga C<|Ar<|Ax<|A8 mixed<|Ee 15<|Z ?_
 refine Ds1 6<|Sc0 C (Ab c_ C C<|bb0 (nd:=nd) (xs:=es) (A3 hl)<|A3 hg)<|Z ?_
 refine Ds1 12<|Sc0 C (Ab c_ C C<|gb1 (nd:=nd) (A3 hl) (A3 hm) hG<|Ba hT Ah)<|Z ?_
 exact Am C C (e8 b [y0,y1,y2,e7 nd,.slice ea es.length ec,.slice na (j5 nd es).length nc,y6,y7,y8,y9,ad,ae,M,aa,ab] 169::I) Az ⟨rfl,rfl⟩
theorem fp8{nd:Int}{es:List Pt}(hl:Sl κ I (.slice ea es.length ec) es)(hm:Sl κ I (.slice na (H9 nd es).length nc) (H9 nd es))(hG:s8 nd es)(hg:Sl κ I (.slice ga es.length gc) es)  :
    eu prog κ 295 [.pointer (some ⟨b,6,none⟩),.agg #[e7 nd,.slice ga es.length gc]] (e8 b [y0,y1,y2,y3,y4,y5,e7 nd,.slice ea es.length ec,e7<|V6 nd es / 3,.slice na (H9 nd es).length nc,ad,ae,M,aa,ab] 169::I) (λr J=>r = .bool true/\J=e8 b [y0,y1,y2,y3,y4,y5,e7 nd,.slice ea es.length ec,e7<|V6 nd es / 3,.slice na (H9 nd es).length nc,ad,ae,M,aa,ab] 169::I):=by
 refine Ce2 Tryz.func295 C C ?_
 refine Al<|Ge1 (Av (cs:=[_,_]) C C C) λb1=>Ga C<|Ar<|Ax<|A8 mixed<|Ee 15<|Z ?_
 refine Ds1 6<|Sc0 C (Ab c_ C C<|bb0 (nd:=nd) (xs:=es) (A3 hl)<|A3 hg)<|Z ?_
 refine Ds1 12<|Se C (Ab c_ C C<|fq1 (nd:=nd) (A3 hl) (A3 hm) hG) ?_
 rintro _ _ ⟨_,_,⟨rfl,rfl⟩,rfl,rfl⟩
 refine ⟨Ah,?_⟩
 refine Z ?_
 exact Am C C (e8 b [y0,y1,y2,y3,y4,y5,e7 nd,.slice ea es.length ec,e7<|V6 nd es / 3,.slice na (H9 nd es).length nc,ad,ae,M,aa,ab] 169::I) Az ⟨rfl,rfl⟩
theorem fp7{nd:Int}{M:Option Addr}{es:List Pt}(hl:Sl κ I (.slice M es.length ec) es)(hm:Sl κ I (.slice na (r9 nd es).length nc) (r9 nd es))(hG:s8 nd es)(hg:Sl κ I (.slice ga es.length gc) es)(hT:F4 κ I 0 p5):eu prog κ 302 [.pointer (some ⟨b,10,none⟩),.agg #[e7 nd,.slice ga es.length gc]] (e8 b [y0,y1,y2,y3,y4,y5,y6,y7,y8,y9,e7 nd,.slice M es.length ec,e7 (F8 nd es),e7 (J9 nd es),.slice na (r9 nd es).length nc] 169::I) (λr J=>r = .bool true/\J=e8 b [y0,y1,y2,y3,y4,y5,y6,y7,y8,y9,e7 nd,.slice M es.length ec,e7 (F8 nd es),e7 (J9 nd es),.slice na (r9 nd es).length nc] 169::I):=by
 refine Ce2 Tryz.func302 C C ?_
 refine Al<|Ge1 (Av (cs:=[_,_]) C C C) λb1=>Ga C<|Ar<|Ax<|A8 mixed<|Ee 15<|Z ?_
 refine Ds1 6<|Sc0 C (Ab c_ C C<|bb0 (nd:=nd) (xs:=es) (A3 hl)<|A3 hg)<|Z ?_
 refine Ds1 12<|Sc0 C (Ab c_ C C<|fr1 (nd:=nd) (A3 hl) (A3 hm) hG<|Ba hT Ah)<|Z ?_
 exact Am C C (e8 b [y0,y1,y2,y3,y4,y5,y6,y7,y8,y9,e7 nd,.slice M es.length ec,e7<|F8 nd es,e7<|J9 nd es,.slice na (r9 nd es).length nc] 169::I) Az ⟨rfl,rfl⟩
end Go.Sl
