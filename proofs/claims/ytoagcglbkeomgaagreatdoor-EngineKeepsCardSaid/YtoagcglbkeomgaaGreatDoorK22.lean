/- A part of the proofs of statements of this seat: contracts of functions, and the plain laws that they lean on. No conditions. -/
import Derived.Test.YtoagcglbkeomgaaGreatDoorK21
set_option linter.unusedVariables false
set_option linter.unusedSimpArgs false
set_option linter.unusedSectionVars false
open Go.Proofs.Tryz (prog)
namespace Go.Sl
open Go.Proofs
set_option maxRecDepth 4000
variable{b' x:Int}{num:List Int}{ea ga na:Option Addr}{b ec gc nc:Nat}{M Z aa ab ad va y0 y1 y2 y3 y4 y5 y6 y7 y8 y9:Value}{xs:List Pt}
variable {κ:Ctx}{I:List Item}
theorem Shared_com{nd u v:Int}{es:List Pt}{a0 b0:Option Addr}{n0 M c0 d0:Nat}(hn:n0=(nbG nd es u).length)(aa:M=(nbG nd es v).length)(hl:Sl κ I (.slice a0 n0 c0) (nbG nd es u))(hm:Sl κ I (.slice b0 M d0) (nbG nd es v))(Z:u≠v):eu prog κ 133 [.slice a0 n0 c0,.slice b0 M d0] I λr J=>∃a c,r = .slice a (commonG nd es u v).length c/\J=vk 3 a c (commonG nd es u v)::I:=by
 have h1:=nbG_len nd es u
 have:=Shared_any hn aa hl hm (nbG_asc _ _ _) (nbG_asc _ _ _) om
 rw [inter_common Z] at this
 exact this
theorem CheckG_yes{nd:Int}{v:Value}{es:List Pt}(Z:Sl κ I v es)(M:GrOk nd es):eu prog κ 86 [.agg #[e7 nd,v]] I λr J=>r=e7 0/\I=J:=by
 have h:=CheckGen_ok (nd:=nd) Z
 rw [checkG_ok.2 M] at h
 exact h
theorem com_bd{nd u v:Int}{es:List Pt}(Z : -1<=b'/\b'<=1) : -64<=b'*((commonG nd es u v).length:Int)/\b'*((commonG nd es u v).length:Int)<=64:=by
 have:=commonG_len nd es u v
 rcases (by omega:b' = -1\/b'=0\/b'=1) with h|h|h<;>rw [h]<;>omega
theorem incs_bd{ls:List Int}(hn:ls.Nodup)(M:∀w∈ls,0<=w/\w<(num.length:Int))(hb : -1<=b'/\b'<=1)(hv:∀x∈num,0<=x/\x<=1000000)(Z:0<=x/\x<(num.length:Int)) : -1<=e_ (ls.foldl (incL b') num) x/\e_ (ls.foldl (incL b') num) x<=1000001:=by
 have h1:=hv _ (B1 (xs:=num) (i:=x) Z.1 om)
 rw [incs_at _ _ M _ Z.1,sum_ind_nodup hn]
 split
 ·omega
 omega
theorem inc1_bd{d m lo hi:Int}{xs:List Int}{u:Int}(hu:0<=u/\u<(xs.length:Int))(Z:0<=x)(M : -m<=d/\d<=m)(h:lo<=e_ xs x/\e_ xs x<=hi)(hm:0<=m):lo - m<=e_ (List.set xs u.toNat (e_ xs u+d)) x/\e_ (List.set xs u.toNat (e_ xs u+d)) x<=hi+m:=by
 rw [Ee _ _ _ _ hu.1 Z om]
 split
 ·subst_vars;omega
 omega
set_option maxHeartbeats 2000000 in
theorem TChg_ok{nd nd' u v n0:Int}{gn:Nat}{es:List Pt}(hl:Sl κ I (.slice ea es.length ec) es)(hm:Sl κ I (.slice na num.length nc) num)(hG:GrOk nd es)(hu:NodeR nd u)(hv:NodeR nd v)(a5:u≠v)(a6:(num.length:Int)=nd)(aq:∀x∈num,0<=x/\x<=1000000)(bb:0<=n0/\n0<=1000000)(hb : -1<=b'/\b'<=1):eu prog κ 300 [.agg #[e7 nd,.slice ea es.length ec,e7 n0,.slice na num.length nc],.agg #[e7 (nd'),.slice ga gn gc],e7 u,e7 v,e7 (b')] I (λr J=>∃(a:Option Addr) (c:Nat),r = .tuple #[.agg #[e7 nd',.slice ga gn gc,e7 (n0+b'*((commonG nd es u v).length:Int)),.slice a num.length c],e7 ((commonG nd es u v).length:Int),e7 0]/\J=vc 3 (.slice a num.length c) (triU b' (commonG nd es u v) u v num)::I):=by
 have a8:=hG.rng
 have ba:0<=u/\u<nd:=hu
 have a9:0<=v/\v<nd:=hv
 have bc:=commonG_len nd es u v
 have a1:=com_bd (nd:=nd) (u:=u) (v:=v) (es:=es) hb
 have hS:∀w∈commonG nd es u v,0<=w/\w<(num.length:Int):=λw hw=>by have:=common_rng hG hw;omega
 refine Ce5 Tryz.func300 C C ?_
 refine Af<|Ge1 (Bg (cs:=[_,_,_,_]) C C C) λb1=>Ge1 (Bg (cs:=[_,_]) C C C) λb2=>Ge1 (A3 ty43 C) λb3=>Ga C<|Ga C<|Ac<|Af<|Gf fld43_0 C<|Gl2 ty38 ?_
 refine G.e (Ak c_ C C<|Lists_ok (nd:=nd) (A8 hl) hG) ?_
 rintro _ _ ⟨_,_,⟨au,av,rs,ar,rfl,an,rfl⟩,rfl,rfl⟩
 refine Eh (J:=vk 22 au av rs::e8 b3 [e7 0,.slice none 0 0,e7 0,.slice none 0 0] 43::e8 b2 [e7 (nd'),.slice ga gn gc] 38::e8 b1 [e7 nd,.slice ea es.length ec,e7 n0,.slice na num.length nc] 43::(ownR 3 ar++I)) (C2<|List.Perm.cons _<|Dl (A:=ownR 3 ar) (L:=[e8 b3 [e7 0,.slice none 0 0,e7 0,.slice none 0 0] 43,e8 b2 [e7 (nd'),.slice ga gn gc] 38,e8 b1 [e7 nd,.slice ea es.length ec,e7 n0,.slice na num.length nc] 43]) (T:=I)) ?_
 have a7:=an.len
 refine Ga C<|Ac<|Ao (S7 13 10 6 5 2 3 4 C C C C C C C)<|Aq<|Bq mixed<|Ef 10<|Dr 0 C (Ai C)<|Dr 1 C (Ai C)<|Dr 2 C (Ax (α:=(RowG Int)) (xs:=rs) Cl ty22 C C Bf (by first|omega|(have M:=Z om;omega))<|by first|omega|(have M:=Z om;omega)|(simp only [List.length_set];omega))<|Dr 3 C (B7 (α:=(RowG Int)) (xs:=rs) (u:= .slice (e_ rs u).a (e_ rs u).xs.length (e_ rs u).c) ty22 C Bf (by first|omega|(have M:=Z om;omega)) (by first|omega|(have M:=Z om;omega)|(simp only [List.length_set];omega)) C)<|Dr 4 C (Ai C)<|Dr 5 C (Ai C)<|Dr 6 C (Ax (α:=(RowG Int)) (xs:=rs) Cl ty22 C C Bf (by first|omega|(have M:=Z om;omega))<|by first|omega|(have M:=Z om;omega)|(simp only [List.length_set];omega))<|Dr 7 C (B7 (α:=(RowG Int)) (xs:=rs) (u:= .slice (e_ rs v).a (e_ rs v).xs.length (e_ rs v).c) ty22 C Bf (by first|omega|(have M:=Z om;omega)) (by first|omega|(have M:=Z om;omega)|(simp only [List.length_set];omega)) C)<|Ds1 8<|Sc2 C (Ak c_ C C<|Shared_com (an.row _ om om).2 (an.row _ om om).2 (Bz (an.held (I:=I) (i:=u) om om) Ay) (Bz (an.held (I:=I) (i:=v) om om) Ay) a5) λaj ai=>?_
 refine Dr 9 C (Bd C)<|Dz<|Ah<|Ao (S7 14 10 6 5 2 3 4 C C C C C C C)<|Aq<|Bq mixed<|Ef 13<|Dr 0 C (Be (vs:=[_,_]) ty38) ?_
 refine Dr 1 C (Ad fld43_1 C)<|Dr 2 C (Bb ef) ?_
 refine Dr 3 C (Ai C)<|Dr 4 C (Ai C)<|Dr 5 C (Bh Ab C)<|Dr 6 C (Ez C C<|by first|(unfold InR;omega)|(have h7:=aa om;have M:=ab om;unfold InR;omega))<|Dr 7 C (Cp C C<|by first|(unfold InR;omega)|(have h7:=aa om;have M:=ab om;unfold InR;omega))<|Dr 8 C (Ad fld43_2 C)<|Dr 9 C (Bb ty22) ?_
 refine Dt (rs:=[10,12]) kr C C<|E4 ?_<|Ei ?_
 ·refine Sc2 C (Ak c_ C C<|CloneI (xs:=num) (A8 hm) om) λap ao=>?_
  refine Dr 11 C (Bp (cells:=[_,_,_,_]) ty43 Eg pl43 C C)<|Ds1 12<|Se1 C (A3 ty43 C) λa3=>?_
  refine Cs kr ?_
  refine Ae 13 C (Dn ty43) ?_
  rintro _ _ ⟨rfl,rfl⟩
  refine Ct kr ?_
  refine Ah<|Ao (S6 15 14 10 2 3 4 C C C C C C)<|Aq<|Af<|Gm C<|Gr (Bh Ab C)<|Gm C<|Ac<|Aw<|Bu (σ:=Nat×(List Int)) (λs=>([(2,e7 u),(3,e7 v),(4,e7<|b'),(10,pt b3),(14,.slice aj (commonG nd es u v).length ai),(15,pt a3),(42,.slice aj (commonG nd es u v).length ai),(43,e7<|(((commonG nd es u v).length:Nat):Int)),(44,e7 ((s.1:Nat):Int))]:Env)) (λs=>e8 a3 [e7 (nd'),.slice ga gn gc,e7<|n0+(b'*(((commonG nd es u v).length:Nat):Int)),.slice ap num.length ao] 43::vc 3 (.slice ap num.length ao) (s.2)::vk 3 aj ai (commonG nd es u v)::vk 22 au av rs::e8 b3 [e7 0,.slice none 0 0,e7 0,.slice none 0 0] 43::e8 b2 [e7 (nd'),.slice ga gn gc] 38::e8 b1 [e7 nd,.slice ea es.length ec,e7 n0,.slice na num.length nc] 43::(ownR 3 ar++I)) (λs=>(s.1<=(commonG nd es u v).length)/\(s.2=((commonG nd es u v).take s.1).foldl (incL b') num)) (λs=>(commonG nd es u v).length - s.1) (0,num) ⟨om,rfl⟩ (Aa C<|Aa C<|Aa C<|Aa C<|Aa C<|Aa C<|Aa C<|Aa C<|Aa B2 Bi) Bc ?_
  rintro ⟨k,out⟩ hp
  dsimp only at hp ⊢
  obtain ⟨hk,ho⟩:=hp
  have a4:out.length=num.length:=by rw [ho];exact incs_len _ _
  have Z:=λh:k<(commonG nd es u v).length=>hS _ (B1 (xs:=(commonG nd es u v)) (i:=(k:Int)) om om)
  have aa:=λh:k<(commonG nd es u v).length=>inc_fresh (b':=b') (num:=num) (common_nodup nd es u v) hS h
  rw [←ho] at aa
  have ab:=λh:k<(commonG nd es u v).length=>aq _ (B1 (xs:=num) (i:=e_ (commonG nd es u v) k) (Z h).1 (Z h).2)
  have ad:=fun (x:Int) (hx:0<=x/\x<(num.length:Int))=>incs_bd (b':=b') ((common_nodup nd es u v).sublist (List.take_sublist k _)) (λw hw=>hS w<|List.mem_of_mem_take hw) hb aq hx
  rw [←ho] at ad
  have a0:=ad u om
  have ak:=ad v om
  have ay:=inc1_bd (x:=v) (u:=u) (xs:=out) (d:=b'*((commonG nd es u v).length:Int)) (m:=64) om om a1 ak om
  refine Af<|Gr (A4 C C)<|Ac<|Aq<|A5 C (λax=>?_)<|λax=>?_
  ·refine Av (Ah<|Aq<|Aw<|Af<|Gr (Ax (α:=Int) (xs:=commonG nd es u v) Ab ef C C Bf (by first|omega|(have M:=Z om;omega))<|by first|omega|(have M:=Z om;omega)|(simp only [List.length_set];omega))<|Gr (Br (xs:=commonG nd es u v) ef C Bf (by first|omega|(have M:=Z om;omega))<|by first|omega|(have M:=Z om;omega)|(simp only [List.length_set];omega))<|Ga C<|Ac<|Ar<|Gf fld43_2 C<|Gl ty22 ?_)
   refine Gm C<|Gr (Ax (α:=Int) (xs:=out) Ab ef C C Bf (by first|omega|(have M:=Z om;omega))<|by first|omega|(have M:=Z om;omega)|(simp only [List.length_set];omega))<|Gr (Br (xs:=out) ef C Bf (by first|omega|(have M:=Z om;omega))<|by first|omega|(have M:=Z om;omega)|(simp only [List.length_set];omega))<|Gm C<|Gr (Cp C C<|by first|(unfold InR;omega)|(have h7:=aa om;have M:=ab om;unfold InR;omega))<|Gr (Ax (α:=Int) (xs:=out) Ab ef C C Bf (by first|omega|(have M:=Z om;omega))<|by first|omega|(have M:=Z om;omega)|(simp only [List.length_set];omega))<|Ge0 (Cu (α:=Int) (xs:=out) (e:=3) (new:=(e_ out<|e_ (commonG nd es u v) k)+b') ef C C C (by first|omega|(have M:=Z om;omega)) (by first|omega|(have M:=Z om;omega)|(simp only [List.length_set];omega)) am) ?_
   exact Bj<|Aj<|Ah<|Ao (S9 2 3 4 10 14 15 42 43 44 C C C C C C C C C)<|Ar<|Gr (Cp C C<|by first|(unfold InR;omega)|(have h7:=aa om;have M:=ab om;unfold InR;omega))<|Gm C<|Bj<|B3 ((k+1),(List.set out (e_ (commonG nd es u v) k).toNat ((e_ out<|e_ (commonG nd es u v) k)+b')))<|by dsimp only;exact ⟨om,(inc_next om ho)⟩
  refine Bs<|Al<|Al<|A2<|Ah<|Af<|Gf fld43_2 C<|Gl ty22 ?_
  refine Gm C<|Gr (Ax (α:=Int) (xs:=out) Ab ef C C Bf (by first|omega|(have M:=Z om;omega))<|by first|omega|(have M:=Z om;omega)|(simp only [List.length_set];omega))<|Gr (Br (xs:=out) ef C Bf (by first|omega|(have M:=Z om;omega))<|by first|omega|(have M:=Z om;omega)|(simp only [List.length_set];omega))<|Gm C<|Gm C<|Gr (Bh Ab C)<|Gr (Ez C C<|by first|(unfold InR;omega)|(have h7:=aa om;have M:=ab om;unfold InR;omega))<|Gr (Cp C C<|by first|(unfold InR;omega)|(have h7:=aa om;have M:=ab om;unfold InR;omega))<|Gr (Ax (α:=Int) (xs:=out) Ab ef C C Bf (by first|omega|(have M:=Z om;omega))<|by first|omega|(have M:=Z om;omega)|(simp only [List.length_set];omega))<|Ge0 (Cu (α:=Int) (xs:=out) (e:=3) (new:=(e_ out u)+(b'*(((commonG nd es u v).length:Nat):Int))) ef C C C (by first|omega|(have M:=Z om;omega)) (by first|omega|(have M:=Z om;omega)|(simp only [List.length_set];omega)) am) ?_
  refine Ac<|Ao (S5 3 4 10 14 15 C C C C C)<|Af<|Gf fld43_2 C<|Gl ty22 ?_
  refine Gm C<|Gr (Ax (α:=Int) (xs:=List.set out (u).toNat ((e_ out u)+(b'*(((commonG nd es u v).length:Nat):Int)))) Ab ef C C Bf (by first|omega|(have M:=Z om;omega))<|by first|omega|(have M:=Z om;omega)|(simp only [List.length_set];omega))<|Gr (Br (xs:=List.set out (u).toNat ((e_ out u)+(b'*(((commonG nd es u v).length:Nat):Int)))) ef C Bf (by first|omega|(have M:=Z om;omega))<|by first|omega|(have M:=Z om;omega)|(simp only [List.length_set];omega))<|Gm C<|Gm C<|Gr (Bh Ab C)<|Gr (Ez C C<|by first|(unfold InR;omega)|(have h7:=aa om;have M:=ab om;unfold InR;omega))<|Gr (Cp C C<|by first|(unfold InR;omega)|(have h7:=aa om;have M:=ab om;unfold InR;omega))<|Gr (Ax (α:=Int) (xs:=List.set out (u).toNat ((e_ out u)+(b'*(((commonG nd es u v).length:Nat):Int)))) Ab ef C C Bf (by first|omega|(have M:=Z om;omega))<|by first|omega|(have M:=Z om;omega)|(simp only [List.length_set];omega))<|Ge0 (Cu (α:=Int) (xs:=List.set out (u).toNat ((e_ out u)+(b'*(((commonG nd es u v).length:Nat):Int)))) (e:=3) (new:=(e_ (List.set out (u).toNat ((e_ out u)+(b'*(((commonG nd es u v).length:Nat):Int)))) v)+(b'*(((commonG nd es u v).length:Nat):Int))) ef C C C (by first|omega|(have M:=Z om;omega)) (by first|omega|(have M:=Z om;omega)|(simp only [List.length_set];omega)) am) ?_
  refine Ac<|Ao (S3 10 14 15 C C C)<|Af<|Gl4 ty43 ?_
  refine Gm C<|Gr (Bh Ab C)<|Ge0 (Dn ty43) ?_
  refine Ga C<|Ga C<|Ac<|Az ?_
  have aw:List.set (List.set out (u).toNat ((e_ out u)+(b'*(((commonG nd es u v).length:Nat):Int)))) (v).toNat ((e_ (List.set out (u).toNat ((e_ out u)+(b'*(((commonG nd es u v).length:Nat):Int)))) v)+(b'*(((commonG nd es u v).length:Nat):Int)))=triU b' (commonG nd es u v) u v num:=by rw [ho,show k=(commonG nd es u v).length by omega,List.take_length];rfl
  exact C6 C ty43 C C C mm C (vc 3 (.slice ap num.length ao) (triU b' (commonG nd es u v) u v num)::I) (by rw [←aw];exact Bl) ⟨ap,ao,rfl,rfl⟩
 refine Se1 C (A3 ty43 C) λaz=>?_
 refine Ds1 10<|Sc2 C (Ak c_ C C<|CloneI (xs:=num) (A8 hm) om) λae ah=>?_
 refine Dr 11 C (Bp (cells:=[_,_,_,_]) ty43 Eg pl43 C C)<|Cs kr ?_
 refine Ae 13 C (Dn ty43) ?_
 rintro _ _ ⟨rfl,rfl⟩
 refine Ct kr ?_
 refine Ah<|Ao (S6 15 14 10 2 3 4 C C C C C C)<|Aq<|Af<|Gm C<|Gr (Bh Ab C)<|Gm C<|Ac<|Aw<|Bu (σ:=Nat×(List Int)) (λs=>([(2,e7 u),(3,e7 v),(4,e7<|b'),(10,pt b3),(14,.slice aj (commonG nd es u v).length ai),(15,pt az),(42,.slice aj (commonG nd es u v).length ai),(43,e7<|(((commonG nd es u v).length:Nat):Int)),(44,e7 ((s.1:Nat):Int))]:Env)) (λs=>vc 3 (.slice ae num.length ah) (s.2)::e8 az [e7 (nd'),.slice ga gn gc,e7<|n0+(b'*(((commonG nd es u v).length:Nat):Int)),.slice ae num.length ah] 43::vk 3 aj ai (commonG nd es u v)::vk 22 au av rs::e8 b3 [e7 0,.slice none 0 0,e7 0,.slice none 0 0] 43::e8 b2 [e7 (nd'),.slice ga gn gc] 38::e8 b1 [e7 nd,.slice ea es.length ec,e7 n0,.slice na num.length nc] 43::(ownR 3 ar++I)) (λs=>(s.1<=(commonG nd es u v).length)/\(s.2=((commonG nd es u v).take s.1).foldl (incL b') num)) (λs=>(commonG nd es u v).length - s.1) (0,num) ⟨om,rfl⟩ (Aa C<|Aa C<|Aa C<|Aa C<|Aa C<|Aa C<|Aa C<|Aa C<|Aa B2 Bi) Bc ?_
 rintro ⟨k,out⟩ hp
 dsimp only at hp ⊢
 obtain ⟨hk,ho⟩:=hp
 have a4:out.length=num.length:=by rw [ho];exact incs_len _ _
 have Z:=λh:k<(commonG nd es u v).length=>hS _ (B1 (xs:=(commonG nd es u v)) (i:=(k:Int)) om om)
 have aa:=λh:k<(commonG nd es u v).length=>inc_fresh (b':=b') (num:=num) (common_nodup nd es u v) hS h
 rw [←ho] at aa
 have ab:=λh:k<(commonG nd es u v).length=>aq _ (B1 (xs:=num) (i:=e_ (commonG nd es u v) k) (Z h).1 (Z h).2)
 have ad:=fun (x:Int) (hx:0<=x/\x<(num.length:Int))=>incs_bd (b':=b') ((common_nodup nd es u v).sublist (List.take_sublist k _)) (λw hw=>hS w<|List.mem_of_mem_take hw) hb aq hx
 rw [←ho] at ad
 have a0:=ad u om
 have ak:=ad v om
 have ay:=inc1_bd (x:=v) (u:=u) (xs:=out) (d:=b'*((commonG nd es u v).length:Int)) (m:=64) om om a1 ak om
 refine Af<|Gr (A4 C C)<|Ac<|Aq<|A5 C (λax=>?_)<|λax=>?_
 ·refine Av (Ah<|Aq<|Aw<|Af<|Gr (Ax (α:=Int) (xs:=commonG nd es u v) Ab ef C C Bf (by first|omega|(have M:=Z om;omega))<|by first|omega|(have M:=Z om;omega)|(simp only [List.length_set];omega))<|Gr (Br (xs:=commonG nd es u v) ef C Bf (by first|omega|(have M:=Z om;omega))<|by first|omega|(have M:=Z om;omega)|(simp only [List.length_set];omega))<|Ga C<|Ac<|Ar<|Gf fld43_2 C<|Gl ty22 ?_)
  refine Gm C<|Gr (Ax (α:=Int) (xs:=out) Ab ef C C Bf (by first|omega|(have M:=Z om;omega))<|by first|omega|(have M:=Z om;omega)|(simp only [List.length_set];omega))<|Gr (Br (xs:=out) ef C Bf (by first|omega|(have M:=Z om;omega))<|by first|omega|(have M:=Z om;omega)|(simp only [List.length_set];omega))<|Gm C<|Gr (Cp C C<|by first|(unfold InR;omega)|(have h7:=aa om;have M:=ab om;unfold InR;omega))<|Gr (Ax (α:=Int) (xs:=out) Ab ef C C Bf (by first|omega|(have M:=Z om;omega))<|by first|omega|(have M:=Z om;omega)|(simp only [List.length_set];omega))<|Ge0 (Cu (α:=Int) (xs:=out) (e:=3) (new:=(e_ out<|e_ (commonG nd es u v) k)+b') ef C C C (by first|omega|(have M:=Z om;omega)) (by first|omega|(have M:=Z om;omega)|(simp only [List.length_set];omega)) am) ?_
  exact Bj<|Aj<|Ah<|Ao (S9 2 3 4 10 14 15 42 43 44 C C C C C C C C C)<|Ar<|Gr (Cp C C<|by first|(unfold InR;omega)|(have h7:=aa om;have M:=ab om;unfold InR;omega))<|Gm C<|Bj<|B3 ((k+1),(List.set out (e_ (commonG nd es u v) k).toNat ((e_ out<|e_ (commonG nd es u v) k)+b')))<|by dsimp only;exact ⟨om,(inc_next om ho)⟩
 refine Bs<|Al<|Al<|A2<|Ah<|Af<|Gf fld43_2 C<|Gl ty22 ?_
 refine Gm C<|Gr (Ax (α:=Int) (xs:=out) Ab ef C C Bf (by first|omega|(have M:=Z om;omega))<|by first|omega|(have M:=Z om;omega)|(simp only [List.length_set];omega))<|Gr (Br (xs:=out) ef C Bf (by first|omega|(have M:=Z om;omega))<|by first|omega|(have M:=Z om;omega)|(simp only [List.length_set];omega))<|Gm C<|Gm C<|Gr (Bh Ab C)<|Gr (Ez C C<|by first|(unfold InR;omega)|(have h7:=aa om;have M:=ab om;unfold InR;omega))<|Gr (Cp C C<|by first|(unfold InR;omega)|(have h7:=aa om;have M:=ab om;unfold InR;omega))<|Gr (Ax (α:=Int) (xs:=out) Ab ef C C Bf (by first|omega|(have M:=Z om;omega))<|by first|omega|(have M:=Z om;omega)|(simp only [List.length_set];omega))<|Ge0 (Cu (α:=Int) (xs:=out) (e:=3) (new:=(e_ out u)+(b'*(((commonG nd es u v).length:Nat):Int))) ef C C C (by first|omega|(have M:=Z om;omega)) (by first|omega|(have M:=Z om;omega)|(simp only [List.length_set];omega)) am) ?_
 refine Ac<|Ao (S5 3 4 10 14 15 C C C C C)<|Af<|Gf fld43_2 C<|Gl ty22 ?_
 refine Gm C<|Gr (Ax (α:=Int) (xs:=List.set out (u).toNat ((e_ out u)+(b'*(((commonG nd es u v).length:Nat):Int)))) Ab ef C C Bf (by first|omega|(have M:=Z om;omega))<|by first|omega|(have M:=Z om;omega)|(simp only [List.length_set];omega))<|Gr (Br (xs:=List.set out (u).toNat ((e_ out u)+(b'*(((commonG nd es u v).length:Nat):Int)))) ef C Bf (by first|omega|(have M:=Z om;omega))<|by first|omega|(have M:=Z om;omega)|(simp only [List.length_set];omega))<|Gm C<|Gm C<|Gr (Bh Ab C)<|Gr (Ez C C<|by first|(unfold InR;omega)|(have h7:=aa om;have M:=ab om;unfold InR;omega))<|Gr (Cp C C<|by first|(unfold InR;omega)|(have h7:=aa om;have M:=ab om;unfold InR;omega))<|Gr (Ax (α:=Int) (xs:=List.set out (u).toNat ((e_ out u)+(b'*(((commonG nd es u v).length:Nat):Int)))) Ab ef C C Bf (by first|omega|(have M:=Z om;omega))<|by first|omega|(have M:=Z om;omega)|(simp only [List.length_set];omega))<|Ge0 (Cu (α:=Int) (xs:=List.set out (u).toNat ((e_ out u)+(b'*(((commonG nd es u v).length:Nat):Int)))) (e:=3) (new:=(e_ (List.set out (u).toNat ((e_ out u)+(b'*(((commonG nd es u v).length:Nat):Int)))) v)+(b'*(((commonG nd es u v).length:Nat):Int))) ef C C C (by first|omega|(have M:=Z om;omega)) (by first|omega|(have M:=Z om;omega)|(simp only [List.length_set];omega)) am) ?_
 refine Ac<|Ao (S3 10 14 15 C C C)<|Af<|Gl4 ty43 ?_
 refine Gm C<|Gr (Bh Ab C)<|Ge0 (Dn ty43) ?_
 refine Ga C<|Ga C<|Ac<|Az ?_
 have aw:List.set (List.set out (u).toNat ((e_ out u)+(b'*(((commonG nd es u v).length:Nat):Int)))) (v).toNat ((e_ (List.set out (u).toNat ((e_ out u)+(b'*(((commonG nd es u v).length:Nat):Int)))) v)+(b'*(((commonG nd es u v).length:Nat):Int)))=triU b' (commonG nd es u v) u v num:=by rw [ho,show k=(commonG nd es u v).length by omega,List.take_length];rfl
 exact C6 C ty43 C C C mm C (vc 3 (.slice ae num.length ah) (triU b' (commonG nd es u v) u v num)::I) (by rw [←aw];exact Bl) ⟨ae,ah,rfl,rfl⟩
theorem indP_bd(f:Pt->Bool):∀l:List Pt,0<=(l.map λp=>ind (f p)).sum/\(l.map λp=>ind (f p)).sum<=(l.length:Int)
 |[]=>by simp
 |p::l=>by
  have Z:=indP_bd f l
  have M:0<=ind (f p)/\ind (f p)<=1:=by unfold ind;split<;>omega
  rw [List.map_cons,List.sum_cons,List.length_cons];omega
section
variable {nd u v:Int}{es es':List Pt}
theorem triL_bd(Z:GrOk nd es):∀x∈triL nd es,0<=x/\x<=1000000:=λx M=>by
 obtain ⟨i,hi,rfl⟩:=mem_atN M
 rw [triL_len] at hi
 rw [triL_at hi]
 have h1:=indP_bd (λp=>decide<|(i:Int)∈commonG nd es p.u p.v) es
 have h2:=edges_le Z
 unfold triW;omega
theorem tri_ins(h:OneE nd es es' u v):triS nd es / 3+1*((commonG nd es u v).length:Int)=triS nd es' / 3:=by have:=h.tri.1;omega
theorem tri_del(h:OneE nd es es' u v):triS nd es' / 3+(-1)*((commonG nd es' u v).length:Int)=triS nd es / 3:=by have:=h.tri.1;rw [h.common];omega
theorem triU_ins(h:OneE nd es es' u v):triU 1 (commonG nd es u v) u v (triL nd es)=triL nd es':=h.tri_comes.1
theorem triU_del(h:OneE nd es es' u v):triU (-1) (commonG nd es' u v) u v (triL nd es')=triL nd es:=by rw [h.common];exact h.tri_comes.2
end
theorem TV_ok{κ:Ctx}{I:List Item}{nd:Int}{es:List Pt}(hl:Sl κ I (.slice ea es.length ec) es)(hm:Sl κ I (.slice na (triL nd es).length nc) (triL nd es))(M:GrOk nd es)  :
    eu prog κ 299 [.agg #[e7 nd,.slice ea es.length ec,e7<|triS nd es / 3,.slice na (triL nd es).length nc]] I (λr J=>r = .bool true/\I=J):=by
 refine Ce1 Tryz.func299 C C ?_
 refine Af<|Ge1 (Bg (cs:=[_,_,_,_]) C C C) λb1=>Ga C<|Ac<|Aq<|Af<|Gf fld43_0 C<|Gl2 ty38 ?_
 refine G.e (Ak c_ C C<|CheckG_yes (nd:=nd) (A8 hl) M) ?_
 rintro _ _ ⟨_,_,⟨rfl,rfl⟩,rfl,rfl⟩
 refine Gr (Bo C C)<|Ac<|A5 C (λc8=>?_)<|λc8=>?_
 ·exact Af<|Ga C<|Ac<|Az<|Ap<|A1 C C I Ay ⟨by first|rfl|(simp;done)|exact absurd C asm,rfl⟩
 refine Av<|Ah<|Af<|Gf fld43_0 C<|Gl2 ty38 ?_
 refine G.e (Ak c_ C C<|CountsL_ok (nd:=nd) (A8 hl) M) ?_
 rintro _ _ ⟨_,_,⟨aa,ab,rfl,rfl⟩,rfl,rfl⟩
 refine Gm C<|Gr (Am C C)<|Gr (Am C C)<|Ga C<|Ga C<|Ac<|Ao (S3 4 3 1 C C C)<|Af<|Gf fld43_1 C<|Gl ef ?_
 refine Gm C<|Gr (Bw C C)<|Gm C<|Bt (d:=19) C (λZ=>?_)<|λZ=>?_
 ·refine e9 (Ad fld43_2 C) (e9 (Bb ty22) ?_)
  refine e9 (Ai C)<|Ew (C5 C C C) (Ak c_ C C<|EqN_ok (xs:=triL nd es) (ys:=triL nd es) (A8 hm) Bf) ?_
  rintro _ _ ⟨_,_,⟨rfl,rfl⟩,rfl,rfl⟩
  exact Gr (Ba C C)<|Ga C<|Ac<|Ao (S1 2 C)<|Az<|A1 C C I Ay ⟨by first|rfl|(simp;done)|exact absurd C asm,rfl⟩
 exact eb<|eb<|eb<|eb<|Gr (A6 C C)<|Ga C<|Ac<|Ao (S1 2 C)<|Az<|A1 C C I Ay ⟨by first|rfl|(simp;done)|exact absurd C asm,rfl⟩
theorem TInsert_ok{κ:Ctx}{I:List Item}{nd:Int}{ea na:Option Addr}{ec nc:Nat}{es:List Pt}(hl:Sl κ I (.slice ea es.length ec) es)(hm:Sl κ I (.slice na (triL nd es).length nc) (triL nd es))(Z:GrOk nd es){u v:Int}(he:endsP nd u v)(hn:edgeP u v∉es):eu prog κ 297 [.agg #[e7 nd,.slice ea es.length ec,e7 (triS nd es / 3),.slice na (triL nd es).length nc],e7 u,e7 v] I (λr J=>∃(ga:Option Addr) (gc:Nat) (a:Option Addr) (c:Nat) (w:Value),r = .tuple #[.agg #[e7 nd,.slice ga (insB Pt.lt es (edgeP u v)).length gc,e7 (triS nd (insB Pt.lt es (edgeP u v)) / 3),.slice a (triL nd (insB Pt.lt es (edgeP u v))).length c],w,e7 0]/\J=vc 3 (.slice a (triL nd (insB Pt.lt es (edgeP u v))).length c) (triL nd (insB Pt.lt es (edgeP u v)))::vc 105 (.slice ga (insB Pt.lt es (edgeP u v)).length gc) (insB Pt.lt es (edgeP u v))::I):=by
 have an:=Z.rng
 have ai:=he
 unfold endsP at ai
 have ap:=triL_len nd es
 have ao:=triS_bd Z
 refine Ce3 Tryz.func297 C C ?_
 refine Af<|Ge1 (Bg (cs:=[_,_,_,_]) C C C) λb1=>Ge1 (A3 ty43 C) λb2=>Ga C<|Ga C<|Ac<|Aq<|Af<|Gl4 ty43 ?_
 refine G.e (Ak c_ C C<|TV_ok (nd:=nd) (A8 hl) (A8 hm) Z) ?_
 rintro _ _ ⟨_,_,⟨rfl,rfl⟩,rfl,rfl⟩
 refine Gr (Co C)<|Ac<|Dp C<|Av<|Ah<|Af<|Gf fld43_0 C<|Gl2 ty38 ?_
 refine Gm C<|Gm C<|G.e (Ak c_ C C<|AddG_yes (nd:=nd) (u:=u) (v:=v) (A8 hl) (add_zero Z he hn)<|by have:=edges_le Z;omega) ?_
 rintro _ _ ⟨_,_,⟨aa,ab,rfl,rfl⟩,rfl,rfl⟩
 refine Gm C<|Gr (Am C C)<|Gr (Am C C)<|Ge1 (A3 ty38 C) λb5=>Ge0 (Cz ty38) ?_
 refine Ga C<|Ac<|Ao (S6 10 9 6 3 1 2 C C C C C C)<|Aq<|Af<|Gm C<|Gr (Bo C C)<|Ac<|A5 C (λak=>?_)<|λak=>?_
 ·refine Af (Gr (Bp (cells:=[_,_,_,_]) ty43 Eg pl43 C C)<|Gm C<|Ge0 (Dn ty43) ?_)
  refine Ga C<|Ga C<|Ac<|Az<|Ap ?_
  exact absurd rfl asm
 refine Av<|Ah<|Af<|Gl4 ty43 ?_
 refine Gl2 ty38 ?_
 refine Gm C<|Gm C<|G.e (Ak c_ C C<|TChg_ok (nd:=nd) (nd':=nd) (u:=u) (v:=v) (b':=1) (n0:=triS nd es / 3) (ga:=aa) (gn:=((insB Pt.lt es<|edgeP u v)).length) (gc:=ab) (A8 hl) (A8 hm) Z (by unfold NodeR;omega) (by unfold NodeR;omega) om om (triL_bd Z) om dc) ?_
 rintro _ _ ⟨_,_,⟨ah,ae,rfl,rfl⟩,rfl,rfl⟩
 refine Gr (Am C C)<|Gr (Am C C)<|Gr (Am C C)<|Ge0 (Dn ty43) ?_
 refine Ga C<|Ga C<|Ac<|Ao (S3 8 7 6 C C C)<|Az ?_
 have M:=triU_ins (OneE.add Z he hn)
 have aj:=tri_ins (OneE.add Z he hn)
 have ad:(triL nd<|insB Pt.lt es<|edgeP u v).length=(triL nd es).length:=by rw [triL_len,triL_len]
 exact C6 C ty43 C C C mm C (vc 3 (.slice ah (triL nd<|insB Pt.lt es<|edgeP u v).length ae) (triL nd<|insB Pt.lt es<|edgeP u v)::vc 105 (.slice aa (insB Pt.lt es<|edgeP u v).length ab) (insB Pt.lt es<|edgeP u v)::I) (by rw [←M,M,ad,←M];exact Bl) ⟨aa,ab,ah,ae,e7 ((commonG nd es u v).length:Int),by rw [←aj,ad];rfl,rfl⟩
theorem TDelete_ok{κ:Ctx}{I:List Item}{nd:Int}{ea na:Option Addr}{ec nc:Nat}{es:List Pt}(hl:Sl κ I (.slice ea es.length ec) es)(hm:Sl κ I (.slice na (triL nd es).length nc) (triL nd es))(Z:GrOk nd es){u v:Int}(he:endsP nd u v)(hn:edgeP u v∈es):eu prog κ 298 [.agg #[e7 nd,.slice ea es.length ec,e7 (triS nd es / 3),.slice na (triL nd es).length nc],e7 u,e7 v] I (λr J=>∃(ga:Option Addr) (gc:Nat) (a:Option Addr) (c:Nat) (w:Value),r = .tuple #[.agg #[e7 nd,.slice ga (without es (edgeP u v)).length gc,e7 (triS nd (without es (edgeP u v)) / 3),.slice a (triL nd (without es (edgeP u v))).length c],w,e7 0]/\J=vc 3 (.slice a (triL nd (without es (edgeP u v))).length c) (triL nd (without es (edgeP u v)))::vc 105 (.slice ga (without es (edgeP u v)).length gc) (without es (edgeP u v))::I):=by
 have an:=Z.rng
 have ai:=he
 unfold endsP at ai
 have ap:=triL_len nd es
 have ao:=triS_bd Z
 refine Ce3 Tryz.func298 C C ?_
 refine Af<|Ge1 (Bg (cs:=[_,_,_,_]) C C C) λb1=>Ge1 (A3 ty43 C) λb2=>Ga C<|Ga C<|Ac<|Aq<|Af<|Gl4 ty43 ?_
 refine G.e (Ak c_ C C<|TV_ok (nd:=nd) (A8 hl) (A8 hm) Z) ?_
 rintro _ _ ⟨_,_,⟨rfl,rfl⟩,rfl,rfl⟩
 refine Gr (Co C)<|Ac<|Dp C<|Av<|Ah<|Af<|Gf fld43_0 C<|Gl2 ty38 ?_
 refine Gm C<|Gm C<|Gc2 (Ak c_ C C<|RemG_yes (nd:=nd) (u:=u) (v:=v) (A8 hl) (rem_zero Z he hn)<|by have:=edges_le Z;omega) λaa ab=>?_
 refine Gm C<|Gr (Am C C)<|Gr (Am C C)<|Ge1 (A3 ty38 C) λb5=>Ge0 (Cz ty38) ?_
 refine Ga C<|Ac<|Ao (S6 10 9 6 3 1 2 C C C C C C)<|Aq<|Af<|Gm C<|Gr (Bo C C)<|Ac<|A5 C (λak=>?_)<|λak=>?_
 ·refine Af (Gr (Bp (cells:=[_,_,_,_]) ty43 Eg pl43 C C)<|Gm C<|Ge0 (Dn ty43) ?_)
  refine Ga C<|Ga C<|Ac<|Az<|Ap ?_
  exact absurd rfl asm
 refine Av<|Ah<|Af<|Gl4 ty43 ?_
 refine Gl2 ty38 ?_
 refine Gm C<|Gm C<|G.e (Ak c_ C C<|TChg_ok (nd:=nd) (nd':=nd) (u:=u) (v:=v) (b':= -1) (n0:=triS nd es / 3) (ga:=aa) (gn:=((without es<|edgeP u v)).length) (gc:=ab) (A8 hl) (A8 hm) Z (by unfold NodeR;omega) (by unfold NodeR;omega) om om (triL_bd Z) om dc) ?_
 rintro _ _ ⟨_,_,⟨ah,ae,rfl,rfl⟩,rfl,rfl⟩
 refine Gr (Am C C)<|Gr (Am C C)<|Gr (Am C C)<|Ge0 (Dn ty43) ?_
 refine Ga C<|Ga C<|Ac<|Ao (S3 8 7 6 C C C)<|Az ?_
 have M:=triU_del (OneE.rem Z he hn)
 have aj:=tri_del (OneE.rem Z he hn)
 have ad:(triL nd<|without es<|edgeP u v).length=(triL nd es).length:=by rw [triL_len,triL_len]
 exact C6 C ty43 C C C mm C (vc 3 (.slice ah (triL nd<|without es<|edgeP u v).length ae) (triL nd<|without es<|edgeP u v)::vc 105 (.slice aa (without es<|edgeP u v).length ab) (without es<|edgeP u v)::I) (by rw [←M,M,ad,←M];exact Bl) ⟨aa,ab,ah,ae,e7 ((commonG nd es u v).length:Int),by rw [←aj,ad];rfl,rfl⟩
theorem TCopied_ok{κ:Ctx}{I:List Item}{nd:Int}{es:List Pt}(hl:Sl κ I (.slice ea es.length ec) es)(hb:es.length<=1000000):eu prog κ 88 [.agg #[e7 nd,.slice ea es.length ec]] I (λr J=>∃(a:Option Addr) (c:Nat),r = .agg #[e7 nd,.slice a es.length c]/\J=vk 105 a c es::I):=by
 refine Ce1 Tryz.func88 C C ?_
 refine Af<|Ge1 (Bg (cs:=[_,_]) C C C) λb1=>Ge1 (A3 ty38 C) λb2=>Ac<|Af<|Gf fld38_1 C<|Gl ty36 ?_
 refine Gc2 (Ak c_ C C<|CloneE (xs:=es) (A8 hl) om) λZ M=>?_
 refine Gf fld38_1 C<|Ge0 (Es2_1 ty36) ?_
 refine Ac<|Af<|Gl2 ty38 ?_
 refine Ge0 (Cz ty38) ?_
 exact Ac<|Az<|E6 C ty38 C mm C (vk 105 Z M es::I) Bl ⟨Z,M,rfl,rfl⟩
theorem TOpen_ok{κ:Ctx}{I:List Item}{nd:Int}{es:List Pt}(hl:Sl κ I (.slice ea es.length ec) es)(hG:GrOk nd es):eu prog κ 43 [.agg #[e7 nd,.slice ea es.length ec]] I (λr J=>∃(ga:Option Addr) (gc:Nat) (a:Option Addr) (c:Nat),r = .tuple #[.agg #[e7 nd,.slice ga es.length gc,e7 (triS nd es / 3),.slice a (triL nd es).length c],e7 0]/\J=vk 3 a c (triL nd es)::vk 105 ga gc es::I):=by
 have ad:=edges_le hG
 refine Ce1 Tryz.func43 C C ?_
 refine Af<|Ge1 (Bg (cs:=[_,_]) C C C) λb1=>Ge1 (A3 ty43 C) λb2=>Ga C<|Ac<|Aq<|Af<|Gl2 ty38 ?_
 refine G.e (Ak c_ C C<|CheckG_yes (nd:=nd) (A8 hl) hG) ?_
 rintro _ _ ⟨_,_,⟨rfl,rfl⟩,rfl,rfl⟩
 refine Ga C<|Ac<|Af<|Gm C<|Gr (Bo C C)<|Ac<|A5 C (λc10=>?_)<|λc10=>?_
 ·refine Af (Gr (Bp (cells:=[_,_,_,_]) ty43 Eg pl43 C C)<|Gm C<|Ge0 (Dn ty43) ?_)
  refine Ga C<|Ac<|Az<|Ap ?_
  exact absurd rfl asm
 refine Av<|Ah<|Af<|Gl2 ty38 ?_
 refine G.e (Ak c_ C C<|CountsL_ok (nd:=nd) (A8 hl) hG) ?_
 rintro _ _ ⟨_,_,⟨M,aa,rfl,rfl⟩,rfl,rfl⟩
 refine Gm C<|Gr (Am C C)<|Gr (Am C C)<|Ga C<|Ga C<|Ac<|Ao (S4 6 5 2 1 C C C C)<|Af<|Gl2 ty38 ?_
 refine Gc2 (Ak c_ C C<|TCopied_ok (nd:=nd) (A8 hl) om) λZ ab=>?_
 refine Gm C<|Gm C<|Gr (Bp (cells:=[_,_,_,_]) ty43 Eg pl43 C C)<|Ge0 (Dn ty43) ?_
 exact Ga C<|Ac<|Az<|C0 C ty43 C C mm C (vk 3 M aa (triL nd es)::vk 105 Z ab es::I) Bl ⟨Z,ab,M,aa,rfl,rfl⟩
variable {κ:Ctx}{I:List Item}
theorem QV_ok{nd:Int}{es:List Pt}(hl:Sl κ I (.slice ea es.length ec) es)(hm:Sl κ I (.slice na (quadL nd es).length nc) (quadL nd es))(M:GrOk nd es)(hT:TabRd κ I 0 tzCells):eu prog κ 306 [.agg #[e7 nd,.slice ea es.length ec,e7 (wedgeC nd es),e7 (quadC nd es),.slice na (quadL nd es).length nc]] I (λr J=>r = .bool true/\I=J):=by
 have ab:=M.rng
 refine Ce1 Tryz.func306 C C ?_
 refine Af<|Ge1 (Bg (cs:=[_,_,_,_,_]) C C C) λb1=>Ga C<|Ac<|Aq<|Af<|Gf fld45_0 C<|Gl2 ty38 ?_
 refine G.e (Ak c_ C C<|CheckG_yes (nd:=nd) (A8 hl) M) ?_
 rintro _ _ ⟨_,_,⟨rfl,rfl⟩,rfl,rfl⟩
 refine Gr (Bo C C)<|Ac<|A5 C (λc8=>?_)<|λc8=>?_
 ·exact Af<|Ga C<|Ac<|Az<|Ap<|A1 C C I Ay ⟨by first|rfl|(simp;done)|exact absurd C asm,rfl⟩
 refine Av<|Ah<|Af<|Gf fld45_0 C<|Gl2 ty38 ?_
 refine Gc2 (Ak c_ C C<|QCounts_ok (nd:=nd) (A8 hl) M<|Bm hT Ay) λad ae=>?_
 refine Gm C<|Gr (Am C C)<|Gr (Am C C)<|Ga C<|Ga C<|Ac<|Ao (S3 4 3 1 C C C)<|Aq<|Bq mixed<|Ef 19<|Dr 0 C (Ad fld45_1 C)<|Dr 1 C (Bb ef) ?_
 refine Dr 2 C (Ad fld45_0 C)<|Dr 3 C (Be (vs:=[_,_]) ty38) ?_
 refine Ds1 4<|Sc0 C (Ak c_ C C<|Wedges_ok (nd:=nd) (A8 hl) om) ?_
 refine Dr 5 C (Bw C C)<|Dr 6 C (Ai C)<|El (d:=21) C (λZ=>?_)<|λZ=>?_
 ·refine Dro 7 C (Ad fld45_2 C) (Dro 8 C (Bb ef) ?_)
  refine Dro 9 C (Ai C)<|Dro 10 C (Bw C C)<|Dr 11 C (Ba C C)<|Dr 12 C (Ai C)<|El (d:=27) C (λaa=>?_)<|λaa=>?_
  ·refine Dro 13 C (Ad fld45_3 C) (Dro 14 C (Bb ty22) ?_)
   refine Dro 15 C (Ai C)<|Ds1 16<|Sc0 C (Ak c_ C C<|EqN_ok (xs:=quadL nd es) (ys:=quadL nd es) (A8 hm) Bf) ?_
   exact Dr 17 C (Ba C C)<|Dr 18 C (Bd C)<|Dz<|Ah<|Ao (S1 2 C)<|Az<|A1 C C I Ay ⟨by first|rfl|(simp;done)|exact absurd C asm,rfl⟩
  exact Dpo 13 C<|Dpo 14 C<|Dpo 15 C<|Dpo 16 C<|Dr 17 C (A6 C C)<|Dr 18 C (Bd C)<|Dz<|Ah<|Ao (S1 2 C)<|Az<|A1 C C I Ay ⟨by first|rfl|(simp;done)|exact absurd C asm,rfl⟩
 exact Dpo 7 C<|Dpo 8 C<|Dpo 9 C<|Dpo 10 C<|Dr 11 C (A6 C C)<|Dr 12 C (Ai C)<|Dpo 13 C<|Dpo 14 C<|Dpo 15 C<|Dpo 16 C<|Dr 17 C (A6 C C)<|Dr 18 C (Bd C)<|Dz<|Ah<|Ao (S1 2 C)<|Az<|A1 C C I Ay ⟨by first|rfl|(simp;done)|exact absurd C asm,rfl⟩
theorem QInsert_ok{nd:Int}{ea na:Option Addr}{ec nc:Nat}{es:List Pt}(hl:Sl κ I (.slice ea es.length ec) es)(hm:Sl κ I (.slice na (quadL nd es).length nc) (quadL nd es))(Z:GrOk nd es){u v:Int}(he:endsP nd u v)(hn:edgeP u v∉es)(hT:TabRd κ I 0 tzCells):eu prog κ 304 [.agg #[e7 nd,.slice ea es.length ec,e7 (wedgeC nd es),e7 (quadC nd es),.slice na (quadL nd es).length nc],e7 u,e7 v] I (λr J=>∃(ga:Option Addr) (gc:Nat) (a:Option Addr) (c:Nat) (w:Value),r = .tuple #[.agg #[e7 nd,.slice ga (insB Pt.lt es (edgeP u v)).length gc,e7 (wedgeC nd (insB Pt.lt es (edgeP u v))),e7 (quadC nd (insB Pt.lt es (edgeP u v))),.slice a (quadL nd (insB Pt.lt es (edgeP u v))).length c],w,e7 0]/\J=vc 3 (.slice a (quadL nd (insB Pt.lt es (edgeP u v))).length c) (quadL nd (insB Pt.lt es (edgeP u v)))::vc 105 (.slice ga (insB Pt.lt es (edgeP u v)).length gc) (insB Pt.lt es (edgeP u v))::I):=by
 have ao:=Z.rng
 have ak:=he
 unfold endsP at ak
 have ar:=quadL_len nd es
 have ap:=quadC_bd Z
 have aq:=wedgeC_bd Z
 refine Ce3 Tryz.func304 C C ?_
 refine Af<|Ge1 (Bg (cs:=[_,_,_,_,_]) C C C) λb1=>Ge1 (A3 ty45 C) λb2=>Ga C<|Ga C<|Ac<|Aq<|Af<|Gr (Be (vs:=[_,_,_,_,_]) ty45) ?_
 refine Gc0 (Ak c_ C C<|QV_ok (nd:=nd) (A8 hl) (A8 hm) Z<|Bm hT Ay) ?_
 refine Gr (Co C)<|Ac<|Dp C<|Av<|Ah<|Af<|Gf fld45_0 C<|Gl2 ty38 ?_
 refine Gm C<|Gm C<|G.e (Ak c_ C C<|AddG_yes (nd:=nd) (u:=u) (v:=v) (A8 hl) (add_zero Z he hn)<|by have:=edges_le Z;omega) ?_
 rintro _ _ ⟨_,_,⟨M,aa,rfl,rfl⟩,rfl,rfl⟩
 refine Gm C<|Gr (Am C C)<|Gr (Am C C)<|Ge1 (A3 ty38 C) λb5=>Ge0 (Cz ty38) ?_
 refine Ga C<|Ac<|Ao (S6 10 9 6 3 1 2 C C C C C C)<|Aq<|Af<|Gm C<|Gr (Bo C C)<|Ac<|A5 C (λan=>?_)<|λan=>?_
 ·refine Af (Gr (Bp (cells:=[_,_,_,_,_]) ty45 Do pl45 C C)<|Gm C<|Ge0 (Fa ty45) ?_)
  refine Ga C<|Ga C<|Ac<|Az<|Ap ?_
  exact absurd rfl asm
 refine Av<|Ah<|Af<|Gr (Be (vs:=[_,_,_,_,_]) ty45) ?_
 refine Gl2 ty38 ?_
 refine Gf fld45_0 C<|Gl2 ty38 ?_
 refine Gm C<|Gm C<|G.e (Ak c_ C C<|QChg_ok (nd:=nd) (nd':=nd) (nd0:=nd) (u:=u) (v:=v) (b':=1) (w0:=wedgeC nd es) (n0:=quadC nd es) (ga:=M) (gn:=((insB Pt.lt es<|edgeP u v)).length) (gc:=aa) (A8 hl) (A8 hm) Z (by unfold NodeR;omega) (by unfold NodeR;omega) om (quadL_bd Z) om om dc<|Bm hT Ay) ?_
 rintro _ _ ⟨_,_,⟨ae,ad,rfl,rfl⟩,rfl,rfl⟩
 refine Gr (Am C C)<|Gr (Am C C)<|Gr (Am C C)<|Ge0 (Fa ty45) ?_
 refine Ga C<|Ga C<|Ac<|Ao (S3 8 7 6 C C C)<|Az ?_
 have ah:=(OneE.add Z he hn).quad_comes.1
 obtain ⟨ai,aj⟩:=quad_ins (OneE.add Z he hn)
 have ab:(quadL nd<|insB Pt.lt es<|edgeP u v).length=(quadL nd es).length:=by rw [quadL_len,quadL_len]
 exact C6 C ty45 C C C mm C (vc 3 (.slice ae (quadL nd<|insB Pt.lt es<|edgeP u v).length ad) (quadL nd<|insB Pt.lt es<|edgeP u v)::vc 105 (.slice M (insB Pt.lt es<|edgeP u v).length aa) (insB Pt.lt es<|edgeP u v)::I) (by rw [ab,←ah];exact Bl) ⟨M,aa,ae,ad,_,by rw [←ai,←aj,ab]<;>rfl,rfl⟩
theorem QDelete_ok{nd:Int}{ea na:Option Addr}{ec nc:Nat}{es:List Pt}(hl:Sl κ I (.slice ea es.length ec) es)(hm:Sl κ I (.slice na (quadL nd es).length nc) (quadL nd es))(Z:GrOk nd es){u v:Int}(he:endsP nd u v)(hn:edgeP u v∈es)(hT:TabRd κ I 0 tzCells):eu prog κ 305 [.agg #[e7 nd,.slice ea es.length ec,e7 (wedgeC nd es),e7 (quadC nd es),.slice na (quadL nd es).length nc],e7 u,e7 v] I (λr J=>∃(ga:Option Addr) (gc:Nat) (a:Option Addr) (c:Nat) (w:Value),r = .tuple #[.agg #[e7 nd,.slice ga (without es (edgeP u v)).length gc,e7 (wedgeC nd (without es (edgeP u v))),e7 (quadC nd (without es (edgeP u v))),.slice a (quadL nd (without es (edgeP u v))).length c],w,e7 0]/\J=vc 3 (.slice a (quadL nd (without es (edgeP u v))).length c) (quadL nd (without es (edgeP u v)))::vc 105 (.slice ga (without es (edgeP u v)).length gc) (without es (edgeP u v))::I):=by
 have ao:=Z.rng
 have ak:=he
 unfold endsP at ak
 have ar:=quadL_len nd es
 have ap:=quadC_bd Z
 have aq:=wedgeC_bd Z
 refine Ce3 Tryz.func305 C C ?_
 refine Af<|Ge1 (Bg (cs:=[_,_,_,_,_]) C C C) λb1=>Ge1 (A3 ty45 C) λb2=>Ga C<|Ga C<|Ac<|Aq<|Af<|Gr (Be (vs:=[_,_,_,_,_]) ty45) ?_
 refine Gc0 (Ak c_ C C<|QV_ok (nd:=nd) (A8 hl) (A8 hm) Z<|Bm hT Ay) ?_
 refine Gr (Co C)<|Ac<|Dp C<|Av<|Ah<|Af<|Gf fld45_0 C<|Gl2 ty38 ?_
 refine Gm C<|Gm C<|Gc2 (Ak c_ C C<|RemG_yes (nd:=nd) (u:=u) (v:=v) (A8 hl) (rem_zero Z he hn)<|by have:=edges_le Z;omega) λM aa=>?_
 refine Gm C<|Gr (Am C C)<|Gr (Am C C)<|Ge1 (A3 ty38 C) λb5=>Ge0 (Cz ty38) ?_
 refine Ga C<|Ac<|Ao (S6 10 9 6 3 1 2 C C C C C C)<|Aq<|Af<|Gm C<|Gr (Bo C C)<|Ac<|A5 C (λan=>?_)<|λan=>?_
 ·refine Af (Gr (Bp (cells:=[_,_,_,_,_]) ty45 Do pl45 C C)<|Gm C<|Ge0 (Fa ty45) ?_)
  refine Ga C<|Ga C<|Ac<|Az<|Ap ?_
  exact absurd rfl asm
 refine Av<|Ah<|Af<|Gr (Be (vs:=[_,_,_,_,_]) ty45) ?_
 refine Gl2 ty38 ?_
 refine Gl2 ty38 ?_
 refine Gm C<|Gm C<|G.e (Ak c_ C C<|QChg_ok (nd:=nd) (nd':=nd) (nd0:=nd) (u:=u) (v:=v) (b':= -1) (w0:=wedgeC nd es) (n0:=quadC nd es) (ga:=M) (gn:=((without es<|edgeP u v)).length) (gc:=aa) Bf (A8 hm) (OneE.rem Z he hn).ok (by unfold NodeR;omega) (by unfold NodeR;omega) om (quadL_bd Z) om om dc (Bm hT Ay)) ?_
 rintro _ _ ⟨_,_,⟨ae,ad,rfl,rfl⟩,rfl,rfl⟩
 refine Gr (Am C C)<|Gr (Am C C)<|Gr (Am C C)<|Ge0 (Fa ty45) ?_
 refine Ga C<|Ga C<|Ac<|Ao (S3 8 7 6 C C C)<|Az ?_
 have ah:=(OneE.rem Z he hn).quad_comes.2
 obtain ⟨ai,aj⟩:=quad_del (OneE.rem Z he hn)
 have ab:(quadL nd<|without es<|edgeP u v).length=(quadL nd es).length:=by rw [quadL_len,quadL_len]
 exact C6 C ty45 C C C mm C (vc 3 (.slice ae (quadL nd<|without es<|edgeP u v).length ad) (quadL nd<|without es<|edgeP u v)::vc 105 (.slice M (without es<|edgeP u v).length aa) (without es<|edgeP u v)::I) (by rw [ab,←ah];exact Bl) ⟨M,aa,ae,ad,_,by rw [←ai,←aj,ab]<;>rfl,rfl⟩
theorem QOpen_ok{nd:Int}{es:List Pt}(hl:Sl κ I (.slice ea es.length ec) es)(hG:GrOk nd es)(hT:TabRd κ I 0 tzCells):eu prog κ 44 [.agg #[e7 nd,.slice ea es.length ec]] I (λr J=>∃(ga:Option Addr) (gc:Nat) (a:Option Addr) (c:Nat),r = .tuple #[.agg #[e7 nd,.slice ga es.length gc,e7 (wedgeC nd es),e7 (quadC nd es),.slice a (quadL nd es).length c],e7 0]/\J=vk 3 a c (quadL nd es)::vk 105 ga gc es::I):=by
 have ae:=edges_le hG
 have ad:=hG.rng
 refine Ce1 Tryz.func44 C C ?_
 refine Af<|Ge1 (Bg (cs:=[_,_]) C C C) λb1=>Ge1 (A3 ty45 C) λb2=>Ga C<|Ac<|Aq<|Af<|Gl2 ty38 ?_
 refine G.e (Ak c_ C C<|CheckG_yes (nd:=nd) (A8 hl) hG) ?_
 rintro _ _ ⟨_,_,⟨rfl,rfl⟩,rfl,rfl⟩
 refine Ga C<|Ac<|Af<|Gm C<|Gr (Bo C C)<|Ac<|A5 C (λc10=>?_)<|λc10=>?_
 ·refine Af (Gr (Bp (cells:=[_,_,_,_,_]) ty45 Do pl45 C C)<|Gm C<|Ge0 (Fa ty45) ?_)
  refine Ga C<|Ac<|Az<|Ap ?_
  exact absurd rfl asm
 refine Av<|Ah<|Af<|Gl2 ty38 ?_
 refine Gc2 (Ak c_ C C<|QCounts_ok (nd:=nd) (A8 hl) hG<|Bm hT Ay) λM aa=>?_
 refine Gm C<|Gr (Am C C)<|Gr (Am C C)<|Ga C<|Ga C<|Ac<|Ao (S4 6 5 2 1 C C C C)<|Aq<|Bq mixed<|Ef 11<|Dr 0 C (Ad fld38_0 C)<|Dr 1 C (Bb ef) ?_
 refine Dr 2 C (Ad fld38_1 C)<|Dr 3 C (Bb ty36) ?_
 refine Dr 6 C (Be (vs:=[_,_]) ty38) ?_
 refine Dr 8 C (Ai C)<|Dr 9 C (Ai C)<|Ds1 4<|Sc2 C (Ak c_ C C<|CloneE (xs:=es) (A8 hl) om) λZ ab=>?_
 refine Dr 5 C (Bp (cells:=[_,_]) ty38 Cy pl38 C C)<|Ds1 7<|Sc0 C (Ak c_ C C<|Wedges_ok (nd:=nd) (A8 hl) om) ?_
 refine Dr 10 C (Bp (cells:=[_,_,_,_,_]) ty45 Do pl45 C C)<|Cs kr ?_
 refine Ae 11 C (Fa ty45) ?_
 rintro _ _ ⟨rfl,rfl⟩
 refine Dy (i:=12) kr C (Bn C) C C (Bd C) ?_
 refine Ct kr ?_
 exact Ah<|Ao (S2 3 2 C C)<|Az<|C0 C ty45 C C mm C (vk 3 M aa (quadL nd es)::vk 105 Z ab es::I) Bl ⟨Z,ab,M,aa,rfl,rfl⟩
theorem RepO_ok{κ:Ctx}{I:List Item}{nd:Int}{es:List Pt}(hl:Sl κ I (.slice ea es.length ec) es)(hG:GrOk nd es)(hT:TabRd κ I 0 tzCells):eu prog κ 41 [.agg #[e7 nd,.slice ea es.length ec]] I (λr J=>∃(ga:Option Addr) (gc:Nat) (a:Option Addr) (c:Nat),r = .tuple #[.agg #[e7 nd,.slice ga es.length gc,.slice a (coreN nd es).length c],e7 0]/\J=vk 3 a c (coreN nd es)::vk 105 ga gc es::I):=by
 have ad:=checkG_ok.2 hG
 have ae:=edges_le hG
 refine Ce1 Tryz.func41 C C ?_
 refine Af<|Ge1 (Bg (cs:=[_,_]) C C C) λb1=>Ge1 (A3 ty40 C) λb2=>Ga C<|Ac<|Af<|Gl2 ty38 ?_
 refine Gc2 (Ak c_ C C<|CNumbers_ok (nd:=nd) (A8 hl)<|Bm hT Ay) λaa M=>?_
 refine Gm C<|Gr (Am C C)<|Gr (Am C C)<|Ga C<|Ga C<|Ac<|Aq<|Af<|Gm C<|Gr (Bo C C)<|Ac<|A5 C (λc12=>?_)<|λc12=>?_
 ·refine Af (Gr (Bp (cells:=[_,_,_]) ty40 Dv pl40 C C)<|Gm C<|Ge0 (Dc ty40) ?_)
  exact Ga C<|Ac<|Ao (S2 3 2 C C)<|Az<|Ap<|C0 C ty40 C C mm C I Ay<|by exfalso;first|exact absurd ad asm|omega
 refine Av<|Ah<|Aq<|Bq mixed<|Ef 8<|Dr 0 C (Ad fld38_0 C)<|Dr 1 C (Bb ef) ?_
 refine Dr 2 C (Ad fld38_1 C)<|Dr 3 C (Bb ty36) ?_
 refine Dr 6 C (Ai C)<|Ds1 4<|Sc2 C (Ak c_ C C<|CloneE (xs:=es) (A8 hl) om) λZ ab=>?_
 refine Dr 5 C (Bp (cells:=[_,_]) ty38 Cy pl38 C C)<|Dr 7 C (Bp (cells:=[_,_,_]) ty40 Dv pl40 C C)<|Cs kr ?_
 refine Ae 8 C (Dc ty40) ?_
 rintro _ _ ⟨rfl,rfl⟩
 refine Dy (i:=9) kr C (Bn C) C C (Bd C) ?_
 refine Ct kr ?_
 exact Ah<|Ao (S2 3 2 C C)<|Az<|C0 C ty40 C C mm C (vk 3 aa M (coreN nd es)::vk 105 Z ab es::I) Bl ⟨Z,ab,aa,M,rfl,rfl⟩
variable {κ:Ctx}{I:List Item}
structure SlA where
 a:Option Addr
 c:Nat
structure PkV where
 e1:SlA
 n1:SlA
 e2:SlA
 n2:SlA
 e3:SlA
 n3:SlA
 e4:SlA
 n4:SlA
abbrev pq(nd:Int)(E:List Pt)(p:PkV):List Value:=[e7 nd,.slice p.e1.a E.length p.e1.c,.slice p.n1.a (coreN nd E).length p.n1.c,e7 nd,.slice p.e2.a E.length p.e2.c,.slice p.n2.a (trussG nd E).length p.n2.c,e7 nd,.slice p.e3.a E.length p.e3.c,e7 (triS nd E / 3),.slice p.n3.a (triL nd E).length p.n3.c,e7 nd,.slice p.e4.a E.length p.e4.c,e7 (wedgeC nd E),e7 (quadC nd E),.slice p.n4.a (quadL nd E).length p.n4.c]
abbrev px(nd:Int)(E0:List Pt)(a0:Option Addr)(c0:Nat)(b0:Option Addr)(d0:Nat)(E1:List Pt)(a1:Option Addr)(c1:Nat)(b1:Option Addr)(d1:Nat)(E2:List Pt)(a2:Option Addr)(c2:Nat)(b2:Option Addr)(d2:Nat)(E3:List Pt)(a3:Option Addr)(c3:Nat)(b3:Option Addr)(d3:Nat):List Value:=[e7 nd,.slice a0 E0.length c0,.slice b0 (coreN nd E0).length d0,e7 nd,.slice a1 E1.length c1,.slice b1 (trussG nd E1).length d1,e7 nd,.slice a2 E2.length c2,e7 (triS nd E2 / 3),.slice b2 (triL nd E2).length d2,e7 nd,.slice a3 E3.length c3,e7 (wedgeC nd E3),e7 (quadC nd E3),.slice b3 (quadL nd E3).length d3]
abbrev ky(kd wd mo bd lt mr:Int)(wa:Option Addr)(wn wc:Nat)(nd:Int)(la:Option Addr)(ln lc:Nat)(E:List Pt)(p:PkV)(tm:Int):List Value:=[e7 kd,e7 wd,e7 mo,e7 bd,e7 lt,e7 mr,.slice wa wn wc,e7 nd,.slice la ln lc,e7 nd,.slice p.e1.a E.length p.e1.c,.slice p.n1.a (coreN nd E).length p.n1.c,e7 nd,.slice p.e2.a E.length p.e2.c,.slice p.n2.a (trussG nd E).length p.n2.c,e7 nd,.slice p.e3.a E.length p.e3.c,e7 (triS nd E / 3),.slice p.n3.a (triL nd E).length p.n3.c,e7 nd,.slice p.e4.a E.length p.e4.c,e7 (wedgeC nd E),e7 (quadC nd E),.slice p.n4.a (quadL nd E).length p.n4.c,e7 tm]
structure PkR (κ:Ctx) (T:List Item) (nd:Int) (es:List Pt) (v:PkV):Prop where
 e1:Sl κ T (.slice v.e1.a es.length v.e1.c) es
 n1:Sl κ T (.slice v.n1.a (coreN nd es).length v.n1.c) (coreN nd es)
 e2:Sl κ T (.slice v.e2.a es.length v.e2.c) es
 n2:Sl κ T (.slice v.n2.a (trussG nd es).length v.n2.c) (trussG nd es)
 e3:Sl κ T (.slice v.e3.a es.length v.e3.c) es
 n3:Sl κ T (.slice v.n3.a (triL nd es).length v.n3.c) (triL nd es)
 e4:Sl κ T (.slice v.e4.a es.length v.e4.c) es
 n4:Sl κ T (.slice v.n4.a (quadL nd es).length v.n4.c) (quadL nd es)
theorem PkR.fit{κ:Ctx}{I J:List Item}{nd:Int}{es:List Pt}{v:PkV}(h:PkR κ I nd es v)(f:Fit κ J I):PkR κ J nd es v:=
 ⟨h.e1.fit f,h.n1.fit f,h.e2.fit f,h.n2.fit f,h.e3.fit f,h.n3.fit f,h.e4.fit f,h.n4.fit f⟩
theorem EqE_ok{vb:Value}(M:Sl κ I va xs)(hm:Sl κ I vb xs):eu prog κ 265 [va,vb] I (λr J=>r = .bool true/\I=J):=by
 refine B8 M.le λab=>?_
 refine Ce2 Tryz.func265 C C ?_
 refine Af<|Ga C<|Ac<|Aq<|Af<|Gm C<|Gr (B9 (α:=Pt) (xs:=xs) Au C<|A8 M)<|Gm C<|Gr (B9 (α:=Pt) (xs:=xs) Au C<|A8 hm)<|Gr (Bo C C)<|Ac<|A5 C (λc10=>?_)<|λc10=>?_
 ·omega
 refine Av<|Ah<|Aq<|Af<|Gm C<|Gr (B9 (α:=Pt) (xs:=xs) Au C<|A8 M)<|Gm C<|Ac<|Aw<|Bu (σ:=Nat) (λs=>([(0,va),(1,vb),(12,e7 ((xs.length:Nat):Int)),(13,e7 ((s:Nat):Int))]:Env)) (λs=>I) (λs=>(s<=xs.length)) (λs=>xs.length - s) 0 (show ((0:Nat)<=xs.length) from om) (Aa C<|Aa C<|Aa C<|Aa B2 Bi) (show Fit κ _ I from Bc) ?_
 rintro k hp
 have hk:=hp
 refine Af<|Gr (A4 C C)<|Ac<|Aq<|A5 C (λaa=>?_)<|λaa=>?_
 ·refine Av (Ah<|Aq<|Aw<|Af<|Gm C<|Ga C<|Ac<|Aq<|Bq mixed<|Ca I 9<|Dr 0 C (Ai C)<|Dr 1 C (Ai C)<|Dr 2 C (Ax (α:=Pt) (xs:=xs) Au ty105 C C (A8 M) om om)<|Dr 3 C (Bx (α:=Pt) (xs:=xs) ty105 C (A8 M) om om)<|Dr 4 C (Ai C)<|Dr 5 C (Ai C)<|Dr 6 C (Ax (α:=Pt) (xs:=xs) Au ty105 C C (A8 hm) om om)<|Dr 7 C (Bx (α:=Pt) (xs:=xs) ty105 C (A8 hm) om om)<|Dr 8 C (Runs.neqT (α:=Pt) (a:=(e_ xs k)) (b:=(e_ xs k)) eqt105 C C)<|Dz<|Ah<|Ao (S5 24 0 1 12 13 C C C C C)<|A5 C (λZ=>?_)<|λZ=>?_)
  ·exact absurd rfl Z
  exact Av<|Aj<|Ah<|Ar<|Gr (Rad C C)<|Gm C<|Bj<|B3 ((k+1)) om
 exact Bs<|Al<|Al<|A2<|Ah<|Af<|Ga C<|Ac<|Az<|A1 C C I Ay ⟨rfl,rfl⟩
theorem SameG_ok{nd:Int}(hl:Sl κ I va xs)(hm:Sl κ I M xs):eu prog κ 258 [.agg #[e7 nd,va],.agg #[e7 nd,M]] I (λr J=>r = .bool true/\I=J):=by
 refine Ce2 Tryz.func258 C C ?_
 refine Af<|Ge1 (Bg (cs:=[_,_]) C C C) λb1=>Ge1 (Bg (cs:=[_,_]) C C C) λb2=>Ga C<|Ac<|Af<|Gf fld38_0 C<|Gl ef ?_
 refine Gf fld38_0 C<|Gl ef ?_
 refine Gr (Bw C C)<|Gm C<|Bt (d:=10) C (λZ=>?_)<|λZ=>?_
 ·refine e9 (Ad fld38_1 C) (e9 (Bb ty36) ?_)
  refine e9 (Ad fld38_1 C)<|e9 (Bb ty36) ?_
  refine Ew (C5 C C C) (Ak c_ C C<|EqE_ok (xs:=xs) (A8 hl)<|A8 hm) ?_
  rintro _ _ ⟨_,_,⟨rfl,rfl⟩,rfl,rfl⟩
  exact Gr (Ba C C)<|Ga C<|Ac<|Ao (S1 4 C)<|Az<|A1 C C I Ay ⟨rfl,rfl⟩
 exact absurd rfl Z
theorem Val0_ok{nd:Int}{es:List Pt}(hl:Sl κ I (.slice ea es.length ec) es)(hm:Sl κ I (.slice na (coreN nd es).length nc) (coreN nd es))(hG:GrOk nd es)(hg:Sl κ I (.slice ga es.length gc) es)(hT:TabRd κ I 0 tzCells):eu prog κ 254 [(pt b),.agg #[e7 nd,.slice ga es.length gc]] (e8 b [e7 nd,.slice ea es.length ec,.slice na (coreN nd es).length nc,y3,y4,y5,y6,y7,y8,y9,M,ad,Z,aa,ab] 169::I) (λr J=>r = .bool true/\J=e8 b [e7 nd,.slice ea es.length ec,.slice na (coreN nd es).length nc,y3,y4,y5,y6,y7,y8,y9,M,ad,Z,aa,ab] 169::I):=by
 refine Ce2 Tryz.func254 C C ?_
 refine Af<|Ge1 (Bg (cs:=[_,_]) C C C) λb1=>Ga C<|Ac<|Aq<|Bq mixed<|Ef 15<|Dr 0 C (Ai C)<|Dr 1 C (Bk C)<|Dr 2 C (Ad fld161_0 C)<|Dr 3 C (Ad fld40_0 C)<|Dr 4 C (Be (vs:=[_,_]) ty38) ?_
 refine Dr 5 C (Be (vs:=[_,_]) ty38) ?_
 refine Ds1 6<|Sc0 C (Ak c_ C C<|SameG_ok (nd:=nd) (xs:=es) (A8 hl)<|A8 hg) ?_
 refine Dr 7 C (Ai C)<|Dro 8 C (Ai C)<|Dro 9 C (Bk C)<|Dro 10 C (Ad fld161_0 C)<|Dro 11 C (Be (vs:=[_,_,_]) ty40) ?_
 refine Ds1 12<|Sc0 C (Ak c_ C C<|RepV_ok (nd:=nd) (A8 hl) (A8 hm) hG<|Bm hT Ay) ?_
 exact Dr 13 C (Ba C C)<|Dr 14 C (Bd C)<|Dz<|Ah<|Ao (S1 4 C)<|Az<|A1 C C (e8 b [e7 nd,.slice ea es.length ec,.slice na (coreN nd es).length nc,y3,y4,y5,y6,y7,y8,y9,M,ad,Z,aa,ab] 169::I) Bl ⟨rfl,rfl⟩
theorem Val1_ok{nd:Int}{es:List Pt}(hl:Sl κ I (.slice ea es.length ec) es)(hm:Sl κ I (.slice na (trussG nd es).length nc) (trussG nd es))(hG:GrOk nd es)(hg:Sl κ I (.slice ga es.length gc) es)(hT:TabRd κ I 0 tzCells):eu prog κ 281 [.pointer (some ⟨b,3,none⟩),.agg #[e7 nd,.slice ga es.length gc]] (e8 b [y0,y1,y2,e7 nd,.slice ea es.length ec,.slice na (trussG nd es).length nc,y6,y7,y8,y9,aa,ad,Z,M,ab] 169::I) (λr J=>r = .bool true/\J=e8 b [y0,y1,y2,e7 nd,.slice ea es.length ec,.slice na (trussG nd es).length nc,y6,y7,y8,y9,aa,ad,Z,M,ab] 169::I):=by
 refine Ce2 Tryz.func281 C C ?_
 refine Af<|Ge1 (Bg (cs:=[_,_]) C C C) λb1=>Ga C<|Ac<|Aq<|Bq mixed<|Ef 15<|Dr 0 C (Ai C)<|Dr 1 C (Bk C)<|Dr 2 C (Ad fld163_0 C)<|Dr 3 C (Ad fld41_0 C)<|Dr 4 C (Be (vs:=[_,_]) ty38) ?_
 refine Dr 5 C (Be (vs:=[_,_]) ty38) ?_
 refine Ds1 6<|Sc0 C (Ak c_ C C<|SameG_ok (nd:=nd) (xs:=es) (A8 hl)<|A8 hg) ?_
 refine Dr 7 C (Ai C)<|Dro 8 C (Ai C)<|Dro 9 C (Bk C)<|Dro 10 C (Ad fld163_0 C)<|Dro 11 C (Be (vs:=[_,_,_]) ty41) ?_
 refine Ds1 12<|Sc0 C (Ak c_ C C<|MV_ok (nd:=nd) (A8 hl) (A8 hm) hG<|Bm hT Ay) ?_
 exact Dr 13 C (Ba C C)<|Dr 14 C (Bd C)<|Dz<|Ah<|Ao (S1 4 C)<|Az<|A1 C C (e8 b [y0,y1,y2,e7 nd,.slice ea es.length ec,.slice na (trussG nd es).length nc,y6,y7,y8,y9,aa,ad,Z,M,ab] 169::I) Bl ⟨rfl,rfl⟩
theorem Val2_ok{nd:Int}{es:List Pt}(hl:Sl κ I (.slice ea es.length ec) es)(hm:Sl κ I (.slice na (triL nd es).length nc) (triL nd es))(hG:GrOk nd es)(hg:Sl κ I (.slice ga es.length gc) es)  :
    eu prog κ 295 [.pointer (some ⟨b,6,none⟩),.agg #[e7 nd,.slice ga es.length gc]] (e8 b [y0,y1,y2,y3,y4,y5,e7 nd,.slice ea es.length ec,e7<|triS nd es / 3,.slice na (triL nd es).length nc,M,ad,Z,aa,ab] 169::I) (λr J=>r = .bool true/\J=e8 b [y0,y1,y2,y3,y4,y5,e7 nd,.slice ea es.length ec,e7<|triS nd es / 3,.slice na (triL nd es).length nc,M,ad,Z,aa,ab] 169::I):=by
 refine Ce2 Tryz.func295 C C ?_
 refine Af<|Ge1 (Bg (cs:=[_,_]) C C C) λb1=>Ga C<|Ac<|Aq<|Bq mixed<|Ef 15<|Dr 0 C (Ai C)<|Dr 1 C (Bk C)<|Dr 2 C (Ad fld165_0 C)<|Dr 3 C (Ad fld43_0 C)<|Dr 4 C (Be (vs:=[_,_]) ty38) ?_
 refine Dr 5 C (Be (vs:=[_,_]) ty38) ?_
 refine Ds1 6<|Sc0 C (Ak c_ C C<|SameG_ok (nd:=nd) (xs:=es) (A8 hl)<|A8 hg) ?_
 refine Dr 7 C (Ai C)<|Dro 8 C (Ai C)<|Dro 9 C (Bk C)<|Dro 10 C (Ad fld165_0 C)<|Dro 11 C (Be (vs:=[_,_,_,_]) ty43) ?_
 refine Ds1 12<|Se C (Ak c_ C C<|TV_ok (nd:=nd) (A8 hl) (A8 hm) hG) ?_
 rintro _ _ ⟨_,_,⟨rfl,rfl⟩,rfl,rfl⟩
 refine ⟨Ay,?_⟩
 exact Dr 13 C (Ba C C)<|Dr 14 C (Bd C)<|Dz<|Ah<|Ao (S1 4 C)<|Az<|A1 C C (e8 b [y0,y1,y2,y3,y4,y5,e7 nd,.slice ea es.length ec,e7<|triS nd es / 3,.slice na (triL nd es).length nc,M,ad,Z,aa,ab] 169::I) Bl ⟨rfl,rfl⟩
theorem Val3_ok{nd:Int}{M:Option Addr}{Z:Nat}{es:List Pt}(hl:Sl κ I (.slice M es.length ec) es)(hm:Sl κ I (.slice na (quadL nd es).length Z) (quadL nd es))(hG:GrOk nd es)(hg:Sl κ I (.slice ga es.length gc) es)(hT:TabRd κ I 0 tzCells):eu prog κ 302 [.pointer (some ⟨b,10,none⟩),.agg #[e7 nd,.slice ga es.length gc]] (e8 b [y0,y1,y2,y3,y4,y5,y6,y7,y8,y9,e7 nd,.slice M es.length ec,e7 (wedgeC nd es),e7 (quadC nd es),.slice na (quadL nd es).length Z] 169::I) (λr J=>r = .bool true/\J=e8 b [y0,y1,y2,y3,y4,y5,y6,y7,y8,y9,e7 nd,.slice M es.length ec,e7 (wedgeC nd es),e7 (quadC nd es),.slice na (quadL nd es).length Z] 169::I):=by
 refine Ce2 Tryz.func302 C C ?_
 refine Af<|Ge1 (Bg (cs:=[_,_]) C C C) λb1=>Ga C<|Ac<|Aq<|Bq mixed<|Ef 15<|Dr 0 C (Ai C)<|Dr 1 C (Bk C)<|Dr 2 C (Ad fld167_0 C)<|Dr 3 C (Ad fld45_0 C)<|Dr 4 C (Be (vs:=[_,_]) ty38) ?_
 refine Dr 5 C (Be (vs:=[_,_]) ty38) ?_
 refine Ds1 6<|Sc0 C (Ak c_ C C<|SameG_ok (nd:=nd) (xs:=es) (A8 hl)<|A8 hg) ?_
 refine Dr 7 C (Ai C)<|Dro 8 C (Ai C)<|Dro 9 C (Bk C)<|Dro 10 C (Ad fld167_0 C)<|Dro 11 C (Be (vs:=[_,_,_,_,_]) ty45) ?_
 refine Ds1 12<|Sc0 C (Ak c_ C C<|QV_ok (nd:=nd) (A8 hl) (A8 hm) hG<|Bm hT Ay) ?_
 exact Dr 13 C (Ba C C)<|Dr 14 C (Bd C)<|Dz<|Ah<|Ao (S1 4 C)<|Az<|A1 C C (e8 b [y0,y1,y2,y3,y4,y5,y6,y7,y8,y9,e7 nd,.slice M es.length ec,e7<|wedgeC nd es,e7<|quadC nd es,.slice na (quadL nd es).length Z] 169::I) Bl ⟨rfl,rfl⟩
end Go.Sl
