/- A part of the proofs of statements of this seat: contracts of functions, and the plain laws that they lean on. No conditions. -/
import Derived.Test.YtoagcglbkeomgaaGreatDoorS22
set_option linter.unusedVariables false
set_option linter.unusedSimpArgs false
set_option linter.unusedSectionVars false
open Go.Proofs.Tryz (prog)
set_option maxHeartbeats 2000000
open List (length_set take_length sum_cons length_replicate)
namespace Go.Sl
open Go.Proofs
set_option maxRecDepth 4000
variable{b' x:Int}{M Z aa ab ad va y0 y1 y2 y3 y4 y5 y6 y7 y8 y9:Value}{num:List Int}{ea ga na:Option Addr}{b ec gc nc:Nat}{xs:List Pt}
section
variable {nd:Int}{es:List Pt}
def trF(nd:Int)(es:List Pt)(xs:List Int)(p:Pt):List Int:=(commonG nd es p.u p.v).foldl (incL 1) xs
def trC(nd:Int)(es:List Pt)(k:Nat):List Int:=(es.take k).foldl (trF nd es) (List.replicate nd.toNat 0)
theorem trC_succ{k:Nat}(h:k<es.length):trC nd es (k+1)=(commonG nd es (e_ es k).u (e_ es k).v).foldl (incL 1) (trC nd es k):=by
 unfold trC;rw [Cj es k h,List.foldl_append];rfl
theorem trF_len(xs:List Int)(p:Pt):(trF nd es xs p).length=xs.length:=incs_len _ _
theorem trFs_at(Z:GrOk nd es)(M:0<=x):∀(l:List Pt) (xs:List Int),(xs.length:Int)=nd->(l.foldl (trF nd es) xs).length=xs.length/\e_ (l.foldl (trF nd es) xs) x=e_ xs x+(l.map λp=>ind (decide (x∈commonG nd es p.u p.v))).sum
 |[],xs,_=>⟨rfl,by simp⟩
 |p::l,xs,hl=>by
  obtain ⟨h1,h2⟩:=trFs_at Z M l (trF nd es xs p) (by rw [trF_len];exact hl)
  rw [List.foldl_cons,h1,h2,trF_len]
  refine ⟨rfl,?_⟩
  have h3:e_ (trF nd es xs p) x=e_ xs x+ind (decide<|x∈commonG nd es p.u p.v):=by
   unfold trF
   rw [incs_at _ _ (λw hw=>by have:=common_rng Z hw;omega) x M,sum_ind_nodup<|common_nodup nd es p.u p.v,Int.one_mul,ind_d]
  rw [h3,List.map_cons,sum_cons];omega
theorem trC_all(Z:GrOk nd es):trC nd es es.length=triL nd es:=by
 have hr:=Z.rng
 have M:((List.replicate nd.toNat (0:Int)).length:Int)=nd:=by rw [length_replicate];omega
 have hL:(trC nd es es.length).length=nd.toNat:=by
  unfold trC;rw [(trFs_at Z (Int.le_refl 0) _ _ M).1,length_replicate]
 refine Fd (by rw [hL,triL_len]) λi hi=>?_
 rw [hL] at hi
 rw [triL_at hi]
 unfold trC triW
 rw [take_length,(trFs_at Z om _ _ M).2,C7 _ i<|by rw [length_replicate];exact hi,List.getElem_replicate,Int.zero_add]
end
theorem CountsL_ok{κ:Ctx}{I:List Item}{nd:Int}{es:List Pt}(hl:Sl κ I va es)(hG:GrOk nd es):eu prog κ 87 [.agg #[e7 nd,va]] I (λr J=>∃a c,r = .tuple #[e7 (triS nd es / 3),.slice a (triL nd es).length c]/\J=vk 3 a c (triL nd es)::I):=by
 have a8:=hG.rng
 have be:=edges_le hG
 have ba:=triS_bd hG
 refine Ce1 Tryz.func87 C C ?_
 refine Ad<|Ge1 (Bd (cs:=[_,_]) C C C) λb1=>Ga C<|Ga C<|Ac<|Ad<|Gl2 ty38 ?_
 refine G.e (Aj c_ C C<|Lists_ok (nd:=nd) (A8 hl) hG) ?_
 rintro _ _ ⟨_,_,⟨ah,ad,rs,ai,rfl,ae,rfl⟩,rfl,rfl⟩
 refine D9 (J:=vk 22 ah ad rs::e8 b1 [e7 nd,va] 38::(ownR 3 ai++I)) (C4<|List.Perm.cons _<|Dk (A:=ownR 3 ai) (L:=[e8 b1 [e7 nd,va] 38]) (T:=I)) ?_
 have a9:=ae.len
 refine Ga C<|Ac<|Ar<|Bs mixed<|El 5<|Dr 0 C (Ab fld38_0 C)<|Dr 1 C (A0 ef) ?_
 refine Dr 3 C (Bf C)<|Ds1 2<|Se2 C (E7 (α:=Int) (n:=nd.toNat) Af ef C C C om om dc C) λaa ab=>?_
 refine Dr 4 C (Bf C)<|Dz<|Ah<|Ar<|Ad<|Gf fld38_1 C<|Gl ty36 ?_
 refine Gr (Bw (α:=Pt) (xs:=es) A6 C<|A8 hl)<|Gm C<|Ac<|Ap (S6 19 18 17 6 5 4)<|A5<|B1 (σ:=Nat×(List Int)×Int) (λs=>([(4,.slice ah rs.length ad),(5,e7<|s.2.2),(6,.slice aa (List.replicate nd.toNat (default:Int)).length ab),(17,va),(18,e7 ((es.length:Nat):Int)),(19,e7 ((s.1:Nat):Int))]:Env)) (λs=>vc 3 (.slice aa (List.replicate nd.toNat (default:Int)).length ab) (s.2.1)::vk 22 ah ad rs::e8 b1 [e7 nd,va] 38::(ownR 3 ai++I)) (λs=>(s.1<=es.length)/\(s.2.2=triK nd es s.1)/\(s.2.1.length=nd.toNat)/\(s.2.1.sum=s.2.2)/\(∀x∈s.2.1,0<=x)/\(s.2.1=trC nd es s.1)) (λs=>es.length - s.1) (0,List.replicate nd.toNat (default:Int),0) ⟨om,rfl,(by rw [length_replicate]),(sumL_rep _),(λx hx=>by rw [List.eq_of_mem_replicate hx];exact Int.le_refl 0),rfl⟩ (Aa C<|Aa Cd<|cx2<|Aa C<|Aa Cd Bp) Bl ?_
 rintro ⟨k,out,q⟩ hp
 dsimp only at hp ⊢
 obtain ⟨hk,hq,a0,az,aw,aq⟩:=hp
 have a4:=λh:k<=es.length=>triK_bd nd es k h
 have av:=λh:k<es.length=>hG.at h
 refine Ad<|Gr (A9 C C)<|Ac<|Ar<|A7 C (λay=>?_)<|λay=>?_
 ·refine Aw (Ah<|Ar<|A5<|Ad<|Gr (A3 (α:=Pt) (xs:=es) A6 ty105 C C (A8 hl) om oo)<|Gr (Bv (α:=Pt) (xs:=es) ty105 C (A8 hl) om oo)<|Ge1 (A4 ty105 C) λb6=>Ge0 (Cz ty105) ?_)
  refine Ac<|Ar<|Bs mixed<|El 13<|Dr 0 C (Ai C)<|Dr 1 C (Ab fld105_0 C)<|Dr 2 C (A0 ef) ?_
  refine Dr 3 C (A3 (α:=(RowG Int)) (xs:=rs) Cr ty22 C C Bi om oo)<|Dr 4 C (B9 (α:=(RowG Int)) (xs:=rs) (u:= .slice (e_ rs<|(e_ es k).u).a (e_ rs<|(e_ es k).u).xs.length (e_ rs<|(e_ es k).u).c) ty22 C Bi om oo C)<|Dr 5 C (Ai C)<|Dr 6 C (Ab fld105_1 C)<|Dr 7 C (A0 ef) ?_
  refine Dr 8 C (A3 (α:=(RowG Int)) (xs:=rs) Cr ty22 C C Bi om oo)<|Dr 9 C (B9 (α:=(RowG Int)) (xs:=rs) (u:= .slice (e_ rs<|(e_ es k).v).a (e_ rs<|(e_ es k).v).xs.length (e_ rs<|(e_ es k).v).c) ty22 C Bi om oo C)<|Dr 12 C (Ai C)<|Ds1 10<|Se C (Aj c_ C C<|Shared_any (ae.row _ om om).2 (ae.row _ om om).2 (Bu (ae.held (I:=I) (i:=((e_ es k).u)) om om) Ax) (Bu (ae.held (I:=I) (i:=((e_ es k).v)) om om) Ax) (nbG_asc _ _ _) (nbG_asc _ _ _) (by have:=nbG_len nd es (e_ es k).u;omega)) ?_
  rintro _ _ ⟨_,_,⟨au,ap,rfl,rfl⟩,rfl,rfl⟩
  refine ⟨Bg,?_⟩
  have ar:interF (nbG nd es<|(e_ es k).u) (nbG nd es<|(e_ es k).v)=commonG nd es (e_ es k).u (e_ es k).v:=inter_common (by have:=av om;omega)
  rw [ar]
  refine Dr 11 C (Bk Af C)<|Dz<|Ah<|Ap (S9 34 33 35 4 5 6 17 18 19)<|A5<|B1 (σ:=Nat×(List Int)×Int) (λs=>([(4,.slice ah rs.length ad),(5,e7<|s.2.2),(6,.slice aa (List.replicate nd.toNat (default:Int)).length ab),(17,va),(18,e7 ((es.length:Nat):Int)),(19,e7<|(k:Int)),(33,.slice au (commonG nd es (e_ es k).u (e_ es k).v).length ap),(34,e7<|(((commonG nd es (e_ es k).u (e_ es k).v).length:Nat):Int)),(35,e7 ((s.1:Nat):Int))]:Env)) (λs=>vc 3 (.slice aa (List.replicate nd.toNat (default:Int)).length ab) (s.2.1)::vk 3 au ap (commonG nd es (e_ es k).u (e_ es k).v)::e8 b6 [e7 ((e_ es k).u),e7<|(e_ es k).v] 105::vk 22 ah ad rs::e8 b1 [e7 nd,va] 38::(ownR 3 ai++I)) (λs=>(s.1<=(commonG nd es (e_ es k).u (e_ es k).v).length)/\(s.2.2=triK nd es k+(s.1:Int))/\(s.2.1.length=nd.toNat)/\(s.2.1.sum=s.2.2)/\(∀x∈s.2.1,0<=x)/\(s.2.1=((commonG nd es (e_ es k).u (e_ es k).v).take s.1).foldl (incL 1) out)) (λs=>(commonG nd es (e_ es k).u (e_ es k).v).length - s.1) (0,out,q) ⟨om,(by rw [hq];simp),a0,az,aw,rfl⟩ (Aa C<|Aa Cd<|cx4<|cx2<|Aa Cd Bp) Bl ?_
  rintro ⟨k2,Z,q2⟩ hp
  dsimp only at hp ⊢
  obtain ⟨bc,a5,aj,ak,M,ao⟩:=hp
  have a7:k2<(commonG nd es (e_ es k).u (e_ es k).v).length->0<=e_ (commonG nd es (e_ es k).u (e_ es k).v) (k2:Int)/\e_ (commonG nd es (e_ es k).u (e_ es k).v) (k2:Int)<nd:=λh=>common_rng hG (B7 om om)
  have bb:=commonG_len nd es (e_ es k).u (e_ es k).v
  have a1:k2<(commonG nd es (e_ es k).u (e_ es k).v).length->0<=e_ Z (e_ (commonG nd es (e_ es k).u (e_ es k).v) (k2:Int))/\e_ Z (e_ (commonG nd es (e_ es k).u (e_ es k).v) (k2:Int))<=1000000:=λh=>by have h1:=a7 h;have h2:=B7 (xs:=Z) (i:=e_ (commonG nd es (e_ es k).u (e_ es k).v) (k2:Int)) om om;have h3:=mem_le_sum M h2;have h4:=M _ h2;have h5:=a4 om;omega
  refine Ad<|Gr (A9 C C)<|Ac<|Ar<|A7 C (λa3=>?_)<|λa3=>?_
  ·refine Aw (Ah<|Ar<|A5<|Ad<|Gr (A3 (α:=Int) (xs:=commonG nd es (e_ es k).u (e_ es k).v) Af ef C C Bi om oo)<|Gr (Bx (xs:=commonG nd es (e_ es k).u (e_ es k).v) ef C Bi om oo)<|Ga C<|Ac<|Ad<|Gm C<|Gm C<|Gr (A3 (α:=Int) (xs:=Z) Af ef C C Bi om oo)<|Gr (Bx (xs:=Z) ef C Bi om oo)<|Gr (Rad C C)<|Gr (A3 (α:=Int) (xs:=Z) Af ef C C Bi om oo)<|Ge0 (C1 (α:=Int) (xs:=Z) (e:=3) (new:=(e_ Z<|e_ (commonG nd es (e_ es k).u (e_ es k).v) (k2:Int))+1) ef C C C om oo am) ?_)
   exact Ac<|Ap (S9 4 5 6 17 18 19 33 34 35)<|Ay<|Gm C<|Gr (Rad C C)<|Ga C<|Bj<|Am<|Ah<|Ay<|Gr (Rad C C)<|Gm C<|Bj<|Cb ((k2+1),(List.set Z (e_ (commonG nd es (e_ es k).u (e_ es k).v) (k2:Int)).toNat ((e_ Z<|e_ (commonG nd es (e_ es k).u (e_ es k).v) (k2:Int))+1)),(q2+1))<|by dsimp only;exact ⟨om,om,(by rw [length_set];exact aj),(by rw [sumL_set om om,ak];omega),(λx hx=>by rcases List.mem_or_eq_of_mem_set hx with h|h;(· exact M x h);(· rw [h];have:=a1 om;omega)),(inc_next om ao)⟩
  exact Bt<|Aq<|Aq<|Bb<|Am<|Ah<|Ay<|Gr (Rad C C)<|Gm C<|Bj<|Cb ((k+1),(Z),(q2))<|by dsimp only;exact ⟨om,(by rw [triK_succ om,a5,show k2=(commonG nd es (e_ es k).u (e_ es k).v).length by omega]),aj,ak,M,(by rw [trC_succ om,←aq,ao,List.take_of_length_le om])⟩
 refine Bt<|Aq<|Aq<|Bb<|Ah<|Ad<|Gm C<|Gr (Runs.quo C C om om<|by unfold InR;omega)<|Gm C<|Ga C<|Ga C<|Ac<|Az ?_
 have ax:out=triL nd es:=by rw [aq,show k=es.length by omega,trC_all hG]
 subst ax
 have an:(List.replicate nd.toNat (default:Int)).length=(triL nd es).length:=by rw [length_replicate,triL_len]
 have a6:q=triS nd es:=by rw [hq,show k=es.length by omega,triK_all]
 exact C2 C C C (vk 3 aa ab (triL nd es)::I) (by unfold vk;rw [←an];exact FitW) ⟨aa,ab,by rw [←an,a6],rfl⟩
variable {κ:Ctx}{I:List Item}
theorem Shared_com{nd u v:Int}{es:List Pt}{a0 b0:Option Addr}{n0 Z c0 d0:Nat}(hn:n0=(nbG nd es u).length)(aa:Z=(nbG nd es v).length)(hl:Sl κ I (.slice a0 n0 c0) (nbG nd es u))(hm:Sl κ I (.slice b0 Z d0) (nbG nd es v))(M:u≠v):eu prog κ 133 [.slice a0 n0 c0,.slice b0 Z d0] I λr J=>∃a c,r = .slice a (commonG nd es u v).length c/\J=vk 3 a c (commonG nd es u v)::I:=by
 have h1:=nbG_len nd es u
 have:=Shared_any hn aa hl hm (nbG_asc _ _ _) (nbG_asc _ _ _) om
 rw [inter_common M] at this
 exact this
theorem CheckG_yes{nd:Int}{v:Value}{es:List Pt}(Z:Sl κ I v es)(M:GrOk nd es):eu prog κ 86 [.agg #[e7 nd,v]] I λr J=>r=e7 0/\I=J:=by
 have h:=CheckGen_ok (nd:=nd) Z
 rw [checkG_ok.2 M] at h
 exact h
theorem com_bd{nd u v:Int}{es:List Pt}(Z : -1<=b'/\b'<=1) : -64<=b'*((commonG nd es u v).length:Int)/\b'*((commonG nd es u v).length:Int)<=64:=by
 have:=commonG_len nd es u v
 rcases (by omega:b' = -1\/b'=0\/b'=1) with h|h|h<;>rw [h]<;>omega
theorem incs_bd{ls:List Int}(hn:ls.Nodup)(M:∀w∈ls,0<=w/\w<(num.length:Int))(hb : -1<=b'/\b'<=1)(hv:∀x∈num,0<=x/\x<=1000000)(Z:0<=x/\x<(num.length:Int)) : -1<=e_ (ls.foldl (incL b') num) x/\e_ (ls.foldl (incL b') num) x<=1000001:=by
 have h1:=hv _ (B7 (xs:=num) (i:=x) Z.1 om)
 rw [incs_at _ _ M _ Z.1,sum_ind_nodup hn]
 split
 ·omega
 omega
theorem inc1_bd{d m lo hi:Int}{xs:List Int}{u:Int}(hu:0<=u/\u<(xs.length:Int))(Z:0<=x)(M : -m<=d/\d<=m)(h:lo<=e_ xs x/\e_ xs x<=hi)(hm:0<=m):lo - m<=e_ (List.set xs u.toNat (e_ xs u+d)) x/\e_ (List.set xs u.toNat (e_ xs u+d)) x<=hi+m:=by
 rw [En _ _ _ _ hu.1 Z om]
 split
 ·subst_vars;omega
 omega
theorem TChg_ok{nd nd' u v n0:Int}{gn:Nat}{es:List Pt}(hl:Sl κ I (.slice ea es.length ec) es)(hm:Sl κ I (.slice na num.length nc) num)(hG:GrOk nd es)(hu:NodeR nd u)(hv:NodeR nd v)(a4:u≠v)(a7:(num.length:Int)=nd)(ar:∀x∈num,0<=x/\x<=1000000)(bb:0<=n0/\n0<=1000000)(hb : -1<=b'/\b'<=1):eu prog κ 300 [.agg #[e7 nd,.slice ea es.length ec,e7 n0,.slice na num.length nc],.agg #[e7 (nd'),.slice ga gn gc],e7 u,e7 v,e7 (b')] I (λr J=>∃(a:Option Addr) (c:Nat),r = .tuple #[.agg #[e7 nd',.slice ga gn gc,e7 (n0+b'*((commonG nd es u v).length:Int)),.slice a num.length c],e7 ((commonG nd es u v).length:Int),e7 0]/\J=vc 3 (.slice a num.length c) (triU b' (commonG nd es u v) u v num)::I):=by
 have a6:=hG.rng
 have a9:0<=u/\u<nd:=hu
 have bc:0<=v/\v<nd:=hv
 have ba:=commonG_len nd es u v
 have a3:=com_bd (nd:=nd) (u:=u) (v:=v) (es:=es) hb
 have hS:∀w∈commonG nd es u v,0<=w/\w<(num.length:Int):=λw hw=>by have:=common_rng hG hw;omega
 refine Ce5 Tryz.func300 C C ?_
 refine Ad<|Ge1 (Bd (cs:=[_,_,_,_]) C C C) λb1=>Ge1 (Bd (cs:=[_,_]) C C C) λb2=>Ge1 (A4 ty43 C) λb3=>Ga C<|Ga C<|Ac<|Ad<|Gf fld43_0 C<|Gl2 ty38 ?_
 refine G.e (Aj c_ C C<|Lists_ok (nd:=nd) (A8 hl) hG) ?_
 rintro _ _ ⟨_,_,⟨au,ax,rs,ap,rfl,an,rfl⟩,rfl,rfl⟩
 refine D9 (J:=vk 22 au ax rs::e8 b3 [e7 0,.slice none 0 0,e7 0,.slice none 0 0] 43::e8 b2 [e7 (nd'),.slice ga gn gc] 38::e8 b1 [e7 nd,.slice ea es.length ec,e7 n0,.slice na num.length nc] 43::(ownR 3 ap++I)) (C4<|List.Perm.cons _<|Dk (A:=ownR 3 ap) (L:=[e8 b3 [e7 0,.slice none 0 0,e7 0,.slice none 0 0] 43,e8 b2 [e7 (nd'),.slice ga gn gc] 38,e8 b1 [e7 nd,.slice ea es.length ec,e7 n0,.slice na num.length nc] 43]) (T:=I)) ?_
 have a8:=an.len
 refine Ga C<|Ac<|Ap (S7 13 10 6 5 2 3 4)<|Ar<|Bs mixed<|El 10<|Dr 0 C (Ai C)<|Dr 1 C (Ai C)<|Dr 2 C (A3 (α:=(RowG Int)) (xs:=rs) Cr ty22 C C Bi (by first|omega|(have M:=Z om;omega))<|by first|omega|(have M:=Z om;omega)|(simp only [length_set];omega))<|Dr 3 C (B9 (α:=(RowG Int)) (xs:=rs) (u:= .slice (e_ rs u).a (e_ rs u).xs.length (e_ rs u).c) ty22 C Bi (by first|omega|(have M:=Z om;omega)) (by first|omega|(have M:=Z om;omega)|(simp only [length_set];omega)) C)<|Dr 4 C (Ai C)<|Dr 5 C (Ai C)<|Dr 6 C (A3 (α:=(RowG Int)) (xs:=rs) Cr ty22 C C Bi (by first|omega|(have M:=Z om;omega))<|by first|omega|(have M:=Z om;omega)|(simp only [length_set];omega))<|Dr 7 C (B9 (α:=(RowG Int)) (xs:=rs) (u:= .slice (e_ rs v).a (e_ rs v).xs.length (e_ rs v).c) ty22 C Bi (by first|omega|(have M:=Z om;omega)) (by first|omega|(have M:=Z om;omega)|(simp only [length_set];omega)) C)<|Ds1 8<|Sc2 C (Aj c_ C C<|Shared_com (an.row _ om om).2 (an.row _ om om).2 (Bu (an.held (I:=I) (i:=u) om om) Ax) (Bu (an.held (I:=I) (i:=v) om om) Ax) a4) λai aj=>?_
 refine Dr 9 C (Bf C)<|Dz<|Ah<|Ap (S7 14 10 6 5 2 3 4)<|Ar<|Bs mixed<|El 13<|Dr 0 C (Bc (vs:=[_,_]) ty38) ?_
 refine Dr 1 C (Ab fld43_1 C)<|Dr 2 C (A0 ef) ?_
 refine Dr 3 C (Ai C)<|Dr 4 C (Ai C)<|Dr 5 C (Bk Af C)<|Dr 6 C (E1 C C<|by first|(unfold InR;omega)|(have h7:=aa om;have M:=ab om;unfold InR;omega))<|Dr 7 C (Cw C C<|by first|(unfold InR;omega)|(have h7:=aa om;have M:=ab om;unfold InR;omega))<|Dr 8 C (Ab fld43_2 C)<|Dr 9 C (A0 ty22) ?_
 refine Do (rs:=[10,12]) kr C C<|Eu ?_<|D6 ?_
 ·refine Sc2 C (Aj c_ C C<|CloneI (xs:=num) (A8 hm) om) λaq ao=>?_
  refine Dr 11 C (Bq (cells:=[_,_,_,_]) ty43 Em pl43 C C)<|Ds1 12<|Se1 C (A4 ty43 C) λa0=>?_
  refine Cs kr ?_
  refine Ae 13 C (C5 ty43) ?_
  rintro _ _ ⟨rfl,rfl⟩
  refine Ct kr ?_
  refine Ah<|Ap (S6 15 14 10 2 3 4)<|Ar<|Ad<|Gm C<|Gr (Bk Af C)<|Gm C<|Ac<|A5<|B1 (σ:=Nat×(List Int)) (λs=>([(2,e7 u),(3,e7 v),(4,e7<|b'),(10,pt b3),(14,.slice ai (commonG nd es u v).length aj),(15,pt a0),(42,.slice ai (commonG nd es u v).length aj),(43,e7<|(((commonG nd es u v).length:Nat):Int)),(44,e7 ((s.1:Nat):Int))]:Env)) (λs=>e8 a0 [e7 (nd'),.slice ga gn gc,e7<|n0+(b'*(((commonG nd es u v).length:Nat):Int)),.slice aq num.length ao] 43::vc 3 (.slice aq num.length ao) (s.2)::vk 3 ai aj (commonG nd es u v)::vk 22 au ax rs::e8 b3 [e7 0,.slice none 0 0,e7 0,.slice none 0 0] 43::e8 b2 [e7 (nd'),.slice ga gn gc] 38::e8 b1 [e7 nd,.slice ea es.length ec,e7 n0,.slice na num.length nc] 43::(ownR 3 ap++I)) (λs=>(s.1<=(commonG nd es u v).length)/\(s.2=((commonG nd es u v).take s.1).foldl (incL b') num)) (λs=>(commonG nd es u v).length - s.1) (0,num) ⟨om,rfl⟩ (cx4<|cx4<|Aa Cd Bp) Bg ?_
  rintro ⟨k,out⟩ hp
  dsimp only at hp ⊢
  obtain ⟨hk,ho⟩:=hp
  have a5:out.length=num.length:=by rw [ho];exact incs_len _ _
  have Z:=λh:k<(commonG nd es u v).length=>hS _ (B7 (xs:=(commonG nd es u v)) (i:=(k:Int)) om om)
  have aa:=λh:k<(commonG nd es u v).length=>inc_fresh (b':=b') (num:=num) (common_nodup nd es u v) hS h
  rw [←ho] at aa
  have ab:=λh:k<(commonG nd es u v).length=>ar _ (B7 (xs:=num) (i:=e_ (commonG nd es u v) k) (Z h).1 (Z h).2)
  have ad:=fun (x:Int) (hx:0<=x/\x<(num.length:Int))=>incs_bd (b':=b') ((common_nodup nd es u v).sublist (List.take_sublist k _)) (λw hw=>hS w<|List.mem_of_mem_take hw) hb ar hx
  rw [←ho] at ad
  have a1:=ad u om
  have ak:=ad v om
  have az:=inc1_bd (x:=v) (u:=u) (xs:=out) (d:=b'*((commonG nd es u v).length:Int)) (m:=64) om om a3 ak om
  refine Ad<|Gr (A9 C C)<|Ac<|Ar<|A7 C (λaw=>?_)<|λaw=>?_
  ·refine Aw (Ah<|Ar<|A5<|Ad<|Gr (A3 (α:=Int) (xs:=commonG nd es u v) Af ef C C Bi (by first|omega|(have M:=Z om;omega))<|by first|omega|(have M:=Z om;omega)|(simp only [length_set];omega))<|Gr (Bx (xs:=commonG nd es u v) ef C Bi (by first|omega|(have M:=Z om;omega))<|by first|omega|(have M:=Z om;omega)|(simp only [length_set];omega))<|Ga C<|Ac<|Ay<|Gf fld43_2 C<|Gl ty22 ?_)
   refine Gm C<|Gr (A3 (α:=Int) (xs:=out) Af ef C C Bi (by first|omega|(have M:=Z om;omega))<|by first|omega|(have M:=Z om;omega)|(simp only [length_set];omega))<|Gr (Bx (xs:=out) ef C Bi (by first|omega|(have M:=Z om;omega))<|by first|omega|(have M:=Z om;omega)|(simp only [length_set];omega))<|Gm C<|Gr (Cw C C<|by first|(unfold InR;omega)|(have h7:=aa om;have M:=ab om;unfold InR;omega))<|Gr (A3 (α:=Int) (xs:=out) Af ef C C Bi (by first|omega|(have M:=Z om;omega))<|by first|omega|(have M:=Z om;omega)|(simp only [length_set];omega))<|Ge0 (C1 (α:=Int) (xs:=out) (e:=3) (new:=(e_ out<|e_ (commonG nd es u v) k)+b') ef C C C (by first|omega|(have M:=Z om;omega)) (by first|omega|(have M:=Z om;omega)|(simp only [length_set];omega)) am) ?_
   exact Bj<|Am<|Ah<|Ap (S9 2 3 4 10 14 15 42 43 44)<|Ay<|Gr (Cw C C<|by first|(unfold InR;omega)|(have h7:=aa om;have M:=ab om;unfold InR;omega))<|Gm C<|Bj<|Cb ((k+1),(List.set out (e_ (commonG nd es u v) k).toNat ((e_ out<|e_ (commonG nd es u v) k)+b')))<|by dsimp only;exact ⟨om,(inc_next om ho)⟩
  refine Bt<|Aq<|Aq<|Bb<|Ah<|Ad<|Gf fld43_2 C<|Gl ty22 ?_
  refine Gm C<|Gr (A3 (α:=Int) (xs:=out) Af ef C C Bi (by first|omega|(have M:=Z om;omega))<|by first|omega|(have M:=Z om;omega)|(simp only [length_set];omega))<|Gr (Bx (xs:=out) ef C Bi (by first|omega|(have M:=Z om;omega))<|by first|omega|(have M:=Z om;omega)|(simp only [length_set];omega))<|Gm C<|Gm C<|Gr (Bk Af C)<|Gr (E1 C C<|by first|(unfold InR;omega)|(have h7:=aa om;have M:=ab om;unfold InR;omega))<|Gr (Cw C C<|by first|(unfold InR;omega)|(have h7:=aa om;have M:=ab om;unfold InR;omega))<|Gr (A3 (α:=Int) (xs:=out) Af ef C C Bi (by first|omega|(have M:=Z om;omega))<|by first|omega|(have M:=Z om;omega)|(simp only [length_set];omega))<|Ge0 (C1 (α:=Int) (xs:=out) (e:=3) (new:=(e_ out u)+(b'*(((commonG nd es u v).length:Nat):Int))) ef C C C (by first|omega|(have M:=Z om;omega)) (by first|omega|(have M:=Z om;omega)|(simp only [length_set];omega)) am) ?_
  refine Ac<|Ap (S5 3 4 10 14 15)<|Ad<|Gf fld43_2 C<|Gl ty22 ?_
  refine Gm C<|Gr (A3 (α:=Int) (xs:=List.set out (u).toNat ((e_ out u)+(b'*(((commonG nd es u v).length:Nat):Int)))) Af ef C C Bi (by first|omega|(have M:=Z om;omega))<|by first|omega|(have M:=Z om;omega)|(simp only [length_set];omega))<|Gr (Bx (xs:=List.set out (u).toNat ((e_ out u)+(b'*(((commonG nd es u v).length:Nat):Int)))) ef C Bi (by first|omega|(have M:=Z om;omega))<|by first|omega|(have M:=Z om;omega)|(simp only [length_set];omega))<|Gm C<|Gm C<|Gr (Bk Af C)<|Gr (E1 C C<|by first|(unfold InR;omega)|(have h7:=aa om;have M:=ab om;unfold InR;omega))<|Gr (Cw C C<|by first|(unfold InR;omega)|(have h7:=aa om;have M:=ab om;unfold InR;omega))<|Gr (A3 (α:=Int) (xs:=List.set out (u).toNat ((e_ out u)+(b'*(((commonG nd es u v).length:Nat):Int)))) Af ef C C Bi (by first|omega|(have M:=Z om;omega))<|by first|omega|(have M:=Z om;omega)|(simp only [length_set];omega))<|Ge0 (C1 (α:=Int) (xs:=List.set out (u).toNat ((e_ out u)+(b'*(((commonG nd es u v).length:Nat):Int)))) (e:=3) (new:=(e_ (List.set out (u).toNat ((e_ out u)+(b'*(((commonG nd es u v).length:Nat):Int)))) v)+(b'*(((commonG nd es u v).length:Nat):Int))) ef C C C (by first|omega|(have M:=Z om;omega)) (by first|omega|(have M:=Z om;omega)|(simp only [length_set];omega)) am) ?_
  refine Ac<|Ap (S3 10 14 15)<|Ad<|Gl4 ty43 ?_
  refine Gm C<|Gr (Bk Af C)<|Ge0 (C5 ty43) ?_
  refine Ga C<|Ga C<|Ac<|Az ?_
  have av:List.set (List.set out (u).toNat ((e_ out u)+(b'*(((commonG nd es u v).length:Nat):Int)))) (v).toNat ((e_ (List.set out (u).toNat ((e_ out u)+(b'*(((commonG nd es u v).length:Nat):Int)))) v)+(b'*(((commonG nd es u v).length:Nat):Int)))=triU b' (commonG nd es u v) u v num:=by rw [ho,show k=(commonG nd es u v).length by omega,take_length];rfl
  exact Cy C ty43 C C C mm C (vc 3 (.slice aq num.length ao) (triU b' (commonG nd es u v) u v num)::I) (by rw [←av];exact Bl) ⟨aq,ao,rfl,rfl⟩
 refine Se1 C (A4 ty43 C) λay=>?_
 refine Ds1 10<|Sc2 C (Aj c_ C C<|CloneI (xs:=num) (A8 hm) om) λah ae=>?_
 refine Dr 11 C (Bq (cells:=[_,_,_,_]) ty43 Em pl43 C C)<|Cs kr ?_
 refine Ae 13 C (C5 ty43) ?_
 rintro _ _ ⟨rfl,rfl⟩
 refine Ct kr ?_
 refine Ah<|Ap (S6 15 14 10 2 3 4)<|Ar<|Ad<|Gm C<|Gr (Bk Af C)<|Gm C<|Ac<|A5<|B1 (σ:=Nat×(List Int)) (λs=>([(2,e7 u),(3,e7 v),(4,e7<|b'),(10,pt b3),(14,.slice ai (commonG nd es u v).length aj),(15,pt ay),(42,.slice ai (commonG nd es u v).length aj),(43,e7<|(((commonG nd es u v).length:Nat):Int)),(44,e7 ((s.1:Nat):Int))]:Env)) (λs=>vc 3 (.slice ah num.length ae) (s.2)::e8 ay [e7 (nd'),.slice ga gn gc,e7<|n0+(b'*(((commonG nd es u v).length:Nat):Int)),.slice ah num.length ae] 43::vk 3 ai aj (commonG nd es u v)::vk 22 au ax rs::e8 b3 [e7 0,.slice none 0 0,e7 0,.slice none 0 0] 43::e8 b2 [e7 (nd'),.slice ga gn gc] 38::e8 b1 [e7 nd,.slice ea es.length ec,e7 n0,.slice na num.length nc] 43::(ownR 3 ap++I)) (λs=>(s.1<=(commonG nd es u v).length)/\(s.2=((commonG nd es u v).take s.1).foldl (incL b') num)) (λs=>(commonG nd es u v).length - s.1) (0,num) ⟨om,rfl⟩ (cx4<|cx4<|Aa Cd Bp) Bg ?_
 rintro ⟨k,out⟩ hp
 dsimp only at hp ⊢
 obtain ⟨hk,ho⟩:=hp
 have a5:out.length=num.length:=by rw [ho];exact incs_len _ _
 have Z:=λh:k<(commonG nd es u v).length=>hS _ (B7 (xs:=(commonG nd es u v)) (i:=(k:Int)) om om)
 have aa:=λh:k<(commonG nd es u v).length=>inc_fresh (b':=b') (num:=num) (common_nodup nd es u v) hS h
 rw [←ho] at aa
 have ab:=λh:k<(commonG nd es u v).length=>ar _ (B7 (xs:=num) (i:=e_ (commonG nd es u v) k) (Z h).1 (Z h).2)
 have ad:=fun (x:Int) (hx:0<=x/\x<(num.length:Int))=>incs_bd (b':=b') ((common_nodup nd es u v).sublist (List.take_sublist k _)) (λw hw=>hS w<|List.mem_of_mem_take hw) hb ar hx
 rw [←ho] at ad
 have a1:=ad u om
 have ak:=ad v om
 have az:=inc1_bd (x:=v) (u:=u) (xs:=out) (d:=b'*((commonG nd es u v).length:Int)) (m:=64) om om a3 ak om
 refine Ad<|Gr (A9 C C)<|Ac<|Ar<|A7 C (λaw=>?_)<|λaw=>?_
 ·refine Aw (Ah<|Ar<|A5<|Ad<|Gr (A3 (α:=Int) (xs:=commonG nd es u v) Af ef C C Bi (by first|omega|(have M:=Z om;omega))<|by first|omega|(have M:=Z om;omega)|(simp only [length_set];omega))<|Gr (Bx (xs:=commonG nd es u v) ef C Bi (by first|omega|(have M:=Z om;omega))<|by first|omega|(have M:=Z om;omega)|(simp only [length_set];omega))<|Ga C<|Ac<|Ay<|Gf fld43_2 C<|Gl ty22 ?_)
  refine Gm C<|Gr (A3 (α:=Int) (xs:=out) Af ef C C Bi (by first|omega|(have M:=Z om;omega))<|by first|omega|(have M:=Z om;omega)|(simp only [length_set];omega))<|Gr (Bx (xs:=out) ef C Bi (by first|omega|(have M:=Z om;omega))<|by first|omega|(have M:=Z om;omega)|(simp only [length_set];omega))<|Gm C<|Gr (Cw C C<|by first|(unfold InR;omega)|(have h7:=aa om;have M:=ab om;unfold InR;omega))<|Gr (A3 (α:=Int) (xs:=out) Af ef C C Bi (by first|omega|(have M:=Z om;omega))<|by first|omega|(have M:=Z om;omega)|(simp only [length_set];omega))<|Ge0 (C1 (α:=Int) (xs:=out) (e:=3) (new:=(e_ out<|e_ (commonG nd es u v) k)+b') ef C C C (by first|omega|(have M:=Z om;omega)) (by first|omega|(have M:=Z om;omega)|(simp only [length_set];omega)) am) ?_
  exact Bj<|Am<|Ah<|Ap (S9 2 3 4 10 14 15 42 43 44)<|Ay<|Gr (Cw C C<|by first|(unfold InR;omega)|(have h7:=aa om;have M:=ab om;unfold InR;omega))<|Gm C<|Bj<|Cb ((k+1),(List.set out (e_ (commonG nd es u v) k).toNat ((e_ out<|e_ (commonG nd es u v) k)+b')))<|by dsimp only;exact ⟨om,(inc_next om ho)⟩
 refine Bt<|Aq<|Aq<|Bb<|Ah<|Ad<|Gf fld43_2 C<|Gl ty22 ?_
 refine Gm C<|Gr (A3 (α:=Int) (xs:=out) Af ef C C Bi (by first|omega|(have M:=Z om;omega))<|by first|omega|(have M:=Z om;omega)|(simp only [length_set];omega))<|Gr (Bx (xs:=out) ef C Bi (by first|omega|(have M:=Z om;omega))<|by first|omega|(have M:=Z om;omega)|(simp only [length_set];omega))<|Gm C<|Gm C<|Gr (Bk Af C)<|Gr (E1 C C<|by first|(unfold InR;omega)|(have h7:=aa om;have M:=ab om;unfold InR;omega))<|Gr (Cw C C<|by first|(unfold InR;omega)|(have h7:=aa om;have M:=ab om;unfold InR;omega))<|Gr (A3 (α:=Int) (xs:=out) Af ef C C Bi (by first|omega|(have M:=Z om;omega))<|by first|omega|(have M:=Z om;omega)|(simp only [length_set];omega))<|Ge0 (C1 (α:=Int) (xs:=out) (e:=3) (new:=(e_ out u)+(b'*(((commonG nd es u v).length:Nat):Int))) ef C C C (by first|omega|(have M:=Z om;omega)) (by first|omega|(have M:=Z om;omega)|(simp only [length_set];omega)) am) ?_
 refine Ac<|Ap (S5 3 4 10 14 15)<|Ad<|Gf fld43_2 C<|Gl ty22 ?_
 refine Gm C<|Gr (A3 (α:=Int) (xs:=List.set out (u).toNat ((e_ out u)+(b'*(((commonG nd es u v).length:Nat):Int)))) Af ef C C Bi (by first|omega|(have M:=Z om;omega))<|by first|omega|(have M:=Z om;omega)|(simp only [length_set];omega))<|Gr (Bx (xs:=List.set out (u).toNat ((e_ out u)+(b'*(((commonG nd es u v).length:Nat):Int)))) ef C Bi (by first|omega|(have M:=Z om;omega))<|by first|omega|(have M:=Z om;omega)|(simp only [length_set];omega))<|Gm C<|Gm C<|Gr (Bk Af C)<|Gr (E1 C C<|by first|(unfold InR;omega)|(have h7:=aa om;have M:=ab om;unfold InR;omega))<|Gr (Cw C C<|by first|(unfold InR;omega)|(have h7:=aa om;have M:=ab om;unfold InR;omega))<|Gr (A3 (α:=Int) (xs:=List.set out (u).toNat ((e_ out u)+(b'*(((commonG nd es u v).length:Nat):Int)))) Af ef C C Bi (by first|omega|(have M:=Z om;omega))<|by first|omega|(have M:=Z om;omega)|(simp only [length_set];omega))<|Ge0 (C1 (α:=Int) (xs:=List.set out (u).toNat ((e_ out u)+(b'*(((commonG nd es u v).length:Nat):Int)))) (e:=3) (new:=(e_ (List.set out (u).toNat ((e_ out u)+(b'*(((commonG nd es u v).length:Nat):Int)))) v)+(b'*(((commonG nd es u v).length:Nat):Int))) ef C C C (by first|omega|(have M:=Z om;omega)) (by first|omega|(have M:=Z om;omega)|(simp only [length_set];omega)) am) ?_
 refine Ac<|Ap (S3 10 14 15)<|Ad<|Gl4 ty43 ?_
 refine Gm C<|Gr (Bk Af C)<|Ge0 (C5 ty43) ?_
 refine Ga C<|Ga C<|Ac<|Az ?_
 have av:List.set (List.set out (u).toNat ((e_ out u)+(b'*(((commonG nd es u v).length:Nat):Int)))) (v).toNat ((e_ (List.set out (u).toNat ((e_ out u)+(b'*(((commonG nd es u v).length:Nat):Int)))) v)+(b'*(((commonG nd es u v).length:Nat):Int)))=triU b' (commonG nd es u v) u v num:=by rw [ho,show k=(commonG nd es u v).length by omega,take_length];rfl
 exact Cy C ty43 C C C mm C (vc 3 (.slice ah num.length ae) (triU b' (commonG nd es u v) u v num)::I) (by rw [←av];exact Bl) ⟨ah,ae,rfl,rfl⟩
theorem indP_bd(f:Pt->Bool):∀l:List Pt,0<=(l.map λp=>ind (f p)).sum/\(l.map λp=>ind (f p)).sum<=(l.length:Int)
 |[]=>by simp
 |p::l=>by
  have M:=indP_bd f l
  have Z:0<=ind (f p)/\ind (f p)<=1:=by unfold ind;split<;>omega
  rw [List.map_cons,sum_cons,List.length_cons];omega
section
variable {nd u v:Int}{es es':List Pt}
theorem triL_bd(M:GrOk nd es):∀x∈triL nd es,0<=x/\x<=1000000:=λx Z=>by
 obtain ⟨i,hi,rfl⟩:=mem_atN Z
 rw [triL_len] at hi
 rw [triL_at hi]
 have h1:=indP_bd (λp=>decide<|(i:Int)∈commonG nd es p.u p.v) es
 have h2:=edges_le M
 unfold triW;omega
theorem tri_ins(h:OneE nd es es' u v):triS nd es / 3+1*((commonG nd es u v).length:Int)=triS nd es' / 3:=by have:=h.tri.1;omega
theorem tri_del(h:OneE nd es es' u v):triS nd es' / 3+(-1)*((commonG nd es' u v).length:Int)=triS nd es / 3:=by have:=h.tri.1;rw [h.common];omega
theorem triU_ins(h:OneE nd es es' u v):triU 1 (commonG nd es u v) u v (triL nd es)=triL nd es':=h.tri_comes.1
theorem triU_del(h:OneE nd es es' u v):triU (-1) (commonG nd es' u v) u v (triL nd es')=triL nd es:=by rw [h.common];exact h.tri_comes.2
end
theorem TV_ok{κ:Ctx}{I:List Item}{nd:Int}{M:Option Addr}{es:List Pt}(hl:Sl κ I (.slice ea es.length ec) es)(hm:Sl κ I (.slice M (triL nd es).length nc) (triL nd es))(hG:GrOk nd es)  :
    eu prog κ 299 [.agg #[e7 nd,.slice ea es.length ec,e7<|triS nd es / 3,.slice M (triL nd es).length nc]] I (λr J=>r = .bool true/\I=J):=by
 refine Ce1 Tryz.func299 C C ?_
 refine Ad<|Ge1 (Bd (cs:=[_,_,_,_]) C C C) λb1=>Ga C<|Ac<|Ar<|Ad<|Gf fld43_0 C<|Gl2 ty38 ?_
 refine G.e (Aj c_ C C<|CheckG_yes (nd:=nd) (A8 hl) hG) ?_
 rintro _ _ ⟨_,_,⟨rfl,rfl⟩,rfl,rfl⟩
 refine Gr (Be C C)<|Ac<|A7 C (λc8=>?_)<|λc8=>?_
 ·exact Ad<|Ga C<|Ac<|Az<|Ao<|A1 C C I Ax ⟨by first|rfl|(simp;done)|exact absurd C asm,rfl⟩
 refine Aw<|Ah<|Ad<|Gf fld43_0 C<|Gl2 ty38 ?_
 refine G.e (Aj c_ C C<|CountsL_ok (nd:=nd) (A8 hl) hG) ?_
 rintro _ _ ⟨_,_,⟨ab,aa,rfl,rfl⟩,rfl,rfl⟩
 refine Gm C<|Gr (Ak C C)<|Gr (Ak C C)<|Ga C<|Ga C<|Ac<|Ap (S3 4 3 1)<|Ad<|Gf fld43_1 C<|Gl ef ?_
 refine Gm C<|Gr (Br C C)<|Gm C<|Bh (d:=19) C (λZ=>?_)<|λZ=>?_
 ·refine e9 (Ab fld43_2 C) (e9 (A0 ty22) ?_)
  refine e9 (Ai C)<|Dx (Cq C C C) (Aj c_ C C<|EqN_ok (xs:=triL nd es) (ys:=triL nd es) (A8 hm) Bi) ?_
  rintro _ _ ⟨_,_,⟨rfl,rfl⟩,rfl,rfl⟩
  exact Gr (Av C C)<|Ga C<|Ac<|Ap (S1 2)<|Az<|A1 C C I Ax ⟨by first|rfl|(simp;done)|exact absurd C asm,rfl⟩
 exact eb<|eb<|eb<|eb<|Gr (Au C C)<|Ga C<|Ac<|Ap (S1 2)<|Az<|A1 C C I Ax ⟨by first|rfl|(simp;done)|exact absurd C asm,rfl⟩
theorem TInsert_ok{κ:Ctx}{I:List Item}{nd:Int}{es:List Pt}(hl:Sl κ I (.slice ea es.length ec) es)(hm:Sl κ I (.slice na (triL nd es).length nc) (triL nd es))(Z:GrOk nd es){u v:Int}(he:endsP nd u v)(hn:edgeP u v∉es):eu prog κ 297 [.agg #[e7 nd,.slice ea es.length ec,e7 (triS nd es / 3),.slice na (triL nd es).length nc],e7 u,e7 v] I (λr J=>∃(ga:Option Addr) (gc:Nat) (a:Option Addr) (c:Nat) (w:Value),r = .tuple #[.agg #[e7 nd,.slice ga (insB Pt.lt es (edgeP u v)).length gc,e7 (triS nd (insB Pt.lt es (edgeP u v)) / 3),.slice a (triL nd (insB Pt.lt es (edgeP u v))).length c],w,e7 0]/\J=vk 3 a c (triL nd (insB Pt.lt es (edgeP u v)))::vk 105 ga gc (insB Pt.lt es (edgeP u v))::I):=by
 have an:=Z.rng
 have aj:=he
 unfold endsP at aj
 have ap:=triL_len nd es
 have ao:=triS_bd Z
 refine Ce3 Tryz.func297 C C ?_
 refine Ad<|Ge1 (Bd (cs:=[_,_,_,_]) C C C) λb1=>Ge1 (A4 ty43 C) λb2=>Ga C<|Ga C<|Ac<|Ar<|Ad<|Gl4 ty43 ?_
 refine G.e (Aj c_ C C<|TV_ok (nd:=nd) (A8 hl) (A8 hm) Z) ?_
 rintro _ _ ⟨_,_,⟨rfl,rfl⟩,rfl,rfl⟩
 refine Gr (Cn C)<|Ac<|Dg C<|Aw<|Ah<|Ad<|Gf fld43_0 C<|Gl2 ty38 ?_
 refine Gm C<|Gm C<|G.e (Aj c_ C C<|AddG_yes (nd:=nd) (u:=u) (v:=v) (A8 hl) (add_zero Z he hn)<|by have:=edges_le Z;omega) ?_
 rintro _ _ ⟨_,_,⟨ab,aa,rfl,rfl⟩,rfl,rfl⟩
 refine Gm C<|Gr (Ak C C)<|Gr (Ak C C)<|Ge1 (A4 ty38 C) λb5=>Ge0 (Cz ty38) ?_
 refine Ga C<|Ac<|Ap (S6 10 9 6 3 1 2)<|Ar<|Ad<|Gm C<|Gr (Be C C)<|Ac<|A7 C (λak=>?_)<|λak=>?_
 ·refine Ad (Gr (Bq (cells:=[_,_,_,_]) ty43 Em pl43 C C)<|Gm C<|Ge0 (C5 ty43) ?_)
  refine Ga C<|Ga C<|Ac<|Az<|Ao ?_
  exact absurd rfl asm
 refine Aw<|Ah<|Ad<|Gl4 ty43 ?_
 refine Gl2 ty38 ?_
 refine Gm C<|Gm C<|G.e (Aj c_ C C<|TChg_ok (nd:=nd) (nd':=nd) (u:=u) (v:=v) (b':=1) (n0:=triS nd es / 3) (ga:=ab) (gn:=((insB Pt.lt es<|edgeP u v)).length) (gc:=aa) (A8 hl) (A8 hm) Z (by unfold NodeR;omega) (by unfold NodeR;omega) om om (triL_bd Z) om dc) ?_
 rintro _ _ ⟨_,_,⟨ad,ah,rfl,rfl⟩,rfl,rfl⟩
 refine Gr (Ak C C)<|Gr (Ak C C)<|Gr (Ak C C)<|Ge0 (C5 ty43) ?_
 refine Ga C<|Ga C<|Ac<|Ap (S3 8 7 6)<|Az ?_
 have M:=triU_ins (OneE.add Z he hn)
 have ai:=tri_ins (OneE.add Z he hn)
 have ae:(triL nd<|insB Pt.lt es<|edgeP u v).length=(triL nd es).length:=by rw [triL_len,triL_len]
 exact Cy C ty43 C C C mm C (vk 3 ad ah (triL nd<|insB Pt.lt es<|edgeP u v)::vk 105 ab aa (insB Pt.lt es<|edgeP u v)::I) (by unfold vk;rw [←M,M,ae,←M];exact Bl) ⟨ab,aa,ad,ah,e7 ((commonG nd es u v).length:Int),by rw [←ai,ae];rfl,rfl⟩
theorem TDelete_ok{κ:Ctx}{I:List Item}{nd:Int}{es:List Pt}(hl:Sl κ I (.slice ea es.length ec) es)(hm:Sl κ I (.slice na (triL nd es).length nc) (triL nd es))(Z:GrOk nd es){u v:Int}(he:endsP nd u v)(hn:edgeP u v∈es):eu prog κ 298 [.agg #[e7 nd,.slice ea es.length ec,e7 (triS nd es / 3),.slice na (triL nd es).length nc],e7 u,e7 v] I (λr J=>∃(ga:Option Addr) (gc:Nat) (a:Option Addr) (c:Nat) (w:Value),r = .tuple #[.agg #[e7 nd,.slice ga (without es (edgeP u v)).length gc,e7 (triS nd (without es (edgeP u v)) / 3),.slice a (triL nd (without es (edgeP u v))).length c],w,e7 0]/\J=vk 3 a c (triL nd (without es (edgeP u v)))::vk 105 ga gc (without es (edgeP u v))::I):=by
 have an:=Z.rng
 have aj:=he
 unfold endsP at aj
 have ap:=triL_len nd es
 have ao:=triS_bd Z
 refine Ce3 Tryz.func298 C C ?_
 refine Ad<|Ge1 (Bd (cs:=[_,_,_,_]) C C C) λb1=>Ge1 (A4 ty43 C) λb2=>Ga C<|Ga C<|Ac<|Ar<|Ad<|Gl4 ty43 ?_
 refine G.e (Aj c_ C C<|TV_ok (nd:=nd) (A8 hl) (A8 hm) Z) ?_
 rintro _ _ ⟨_,_,⟨rfl,rfl⟩,rfl,rfl⟩
 refine Gr (Cn C)<|Ac<|Dg C<|Aw<|Ah<|Ad<|Gf fld43_0 C<|Gl2 ty38 ?_
 refine Gm C<|Gm C<|Gc2 (Aj c_ C C<|RemG_yes (nd:=nd) (u:=u) (v:=v) (A8 hl) (rem_zero Z he hn)<|by have:=edges_le Z;omega) λab aa=>?_
 refine Gm C<|Gr (Ak C C)<|Gr (Ak C C)<|Ge1 (A4 ty38 C) λb5=>Ge0 (Cz ty38) ?_
 refine Ga C<|Ac<|Ap (S6 10 9 6 3 1 2)<|Ar<|Ad<|Gm C<|Gr (Be C C)<|Ac<|A7 C (λak=>?_)<|λak=>?_
 ·refine Ad (Gr (Bq (cells:=[_,_,_,_]) ty43 Em pl43 C C)<|Gm C<|Ge0 (C5 ty43) ?_)
  refine Ga C<|Ga C<|Ac<|Az<|Ao ?_
  exact absurd rfl asm
 refine Aw<|Ah<|Ad<|Gl4 ty43 ?_
 refine Gl2 ty38 ?_
 refine Gm C<|Gm C<|G.e (Aj c_ C C<|TChg_ok (nd:=nd) (nd':=nd) (u:=u) (v:=v) (b':= -1) (n0:=triS nd es / 3) (ga:=ab) (gn:=((without es<|edgeP u v)).length) (gc:=aa) (A8 hl) (A8 hm) Z (by unfold NodeR;omega) (by unfold NodeR;omega) om om (triL_bd Z) om dc) ?_
 rintro _ _ ⟨_,_,⟨ad,ah,rfl,rfl⟩,rfl,rfl⟩
 refine Gr (Ak C C)<|Gr (Ak C C)<|Gr (Ak C C)<|Ge0 (C5 ty43) ?_
 refine Ga C<|Ga C<|Ac<|Ap (S3 8 7 6)<|Az ?_
 have M:=triU_del (OneE.rem Z he hn)
 have ai:=tri_del (OneE.rem Z he hn)
 have ae:(triL nd<|without es<|edgeP u v).length=(triL nd es).length:=by rw [triL_len,triL_len]
 exact Cy C ty43 C C C mm C (vk 3 ad ah (triL nd<|without es<|edgeP u v)::vk 105 ab aa (without es<|edgeP u v)::I) (by unfold vk;rw [←M,M,ae,←M];exact Bl) ⟨ab,aa,ad,ah,e7 ((commonG nd es u v).length:Int),by rw [←ai,ae];rfl,rfl⟩
theorem TCopied_ok{κ:Ctx}{I:List Item}{nd:Int}{es:List Pt}(hl:Sl κ I (.slice ea es.length ec) es)(hb:es.length<=1000000):eu prog κ 88 [.agg #[e7 nd,.slice ea es.length ec]] I (λr J=>∃(a:Option Addr) (c:Nat),r = .agg #[e7 nd,.slice a es.length c]/\J=vk 105 a c es::I):=by
 refine Ce1 Tryz.func88 C C ?_
 refine Ad<|Ge1 (Bd (cs:=[_,_]) C C C) λb1=>Ge1 (A4 ty38 C) λb2=>Ac<|Ad<|Gf fld38_1 C<|Gl ty36 ?_
 refine Gc2 (Aj c_ C C<|CloneE (xs:=es) (A8 hl) om) λM Z=>?_
 refine Gf fld38_1 C<|Ge0 (Es2_1 ty36) ?_
 refine Ac<|Ad<|Gl2 ty38 ?_
 refine Ge0 (Cz ty38) ?_
 exact Ac<|Az<|Ez C ty38 C mm C (vk 105 M Z es::I) Bl ⟨M,Z,rfl,rfl⟩
theorem TOpen_ok{κ:Ctx}{I:List Item}{nd:Int}{es:List Pt}(hl:Sl κ I (.slice ea es.length ec) es)(hG:GrOk nd es):eu prog κ 43 [.agg #[e7 nd,.slice ea es.length ec]] I (λr J=>∃(ga:Option Addr) (gc:Nat) (a:Option Addr) (c:Nat),r = .tuple #[.agg #[e7 nd,.slice ga es.length gc,e7 (triS nd es / 3),.slice a (triL nd es).length c],e7 0]/\J=vk 3 a c (triL nd es)::vk 105 ga gc es::I):=by
 have ad:=edges_le hG
 refine Ce1 Tryz.func43 C C ?_
 refine Ad<|Ge1 (Bd (cs:=[_,_]) C C C) λb1=>Ge1 (A4 ty43 C) λb2=>Ga C<|Ac<|Ar<|Ad<|Gl2 ty38 ?_
 refine G.e (Aj c_ C C<|CheckG_yes (nd:=nd) (A8 hl) hG) ?_
 rintro _ _ ⟨_,_,⟨rfl,rfl⟩,rfl,rfl⟩
 refine Ga C<|Ac<|Ad<|Gm C<|Gr (Be C C)<|Ac<|A7 C (λc10=>?_)<|λc10=>?_
 ·refine Ad (Gr (Bq (cells:=[_,_,_,_]) ty43 Em pl43 C C)<|Gm C<|Ge0 (C5 ty43) ?_)
  refine Ga C<|Ac<|Az<|Ao ?_
  exact absurd rfl asm
 refine Aw<|Ah<|Ad<|Gl2 ty38 ?_
 refine G.e (Aj c_ C C<|CountsL_ok (nd:=nd) (A8 hl) hG) ?_
 rintro _ _ ⟨_,_,⟨ab,Z,rfl,rfl⟩,rfl,rfl⟩
 refine Gm C<|Gr (Ak C C)<|Gr (Ak C C)<|Ga C<|Ga C<|Ac<|Ap (S4 6 5 2 1)<|Ad<|Gl2 ty38 ?_
 refine Gc2 (Aj c_ C C<|TCopied_ok (nd:=nd) (A8 hl) om) λM aa=>?_
 refine Gm C<|Gm C<|Gr (Bq (cells:=[_,_,_,_]) ty43 Em pl43 C C)<|Ge0 (C5 ty43) ?_
 exact Ga C<|Ac<|Az<|C0 C ty43 C C mm C (vk 3 ab Z (triL nd es)::vk 105 M aa es::I) Bl ⟨M,aa,ab,Z,rfl,rfl⟩
variable {κ:Ctx}{I:List Item}
theorem QV_ok{nd:Int}{es:List Pt}(Z:Sl κ I (.slice ea es.length ec) es)(hm:Sl κ I (.slice na (quadL nd es).length nc) (quadL nd es))(hG:GrOk nd es)(hT:TabRd κ I 0 tzCells):eu prog κ 306 [.agg #[e7 nd,.slice ea es.length ec,e7 (wedgeC nd es),e7 (quadC nd es),.slice na (quadL nd es).length nc]] I (λr J=>r = .bool true/\I=J):=by
 have ab:=hG.rng
 refine Ce1 Tryz.func306 C C ?_
 refine Ad<|Ge1 (Bd (cs:=[_,_,_,_,_]) C C C) λb1=>Ga C<|Ac<|Ar<|Ad<|Gf fld45_0 C<|Gl2 ty38 ?_
 refine G.e (Aj c_ C C<|CheckG_yes (nd:=nd) (A8 Z) hG) ?_
 rintro _ _ ⟨_,_,⟨rfl,rfl⟩,rfl,rfl⟩
 refine Gr (Be C C)<|Ac<|A7 C (λc8=>?_)<|λc8=>?_
 ·exact Ad<|Ga C<|Ac<|Az<|Ao<|A1 C C I Ax ⟨by first|rfl|(simp;done)|exact absurd C asm,rfl⟩
 refine Aw<|Ah<|Ad<|Gf fld45_0 C<|Gl2 ty38 ?_
 refine Gc2 (Aj c_ C C<|QCounts_ok (nd:=nd) (A8 Z) hG<|Bn hT Ax) λae ad=>?_
 refine Gm C<|Gr (Ak C C)<|Gr (Ak C C)<|Ga C<|Ga C<|Ac<|Ap (S3 4 3 1)<|Ar<|Bs mixed<|El 19<|Dr 0 C (Ab fld45_1 C)<|Dr 1 C (A0 ef) ?_
 refine Dr 2 C (Ab fld45_0 C)<|Dr 3 C (Bc (vs:=[_,_]) ty38) ?_
 refine Ds1 4<|Sc0 C (Aj c_ C C<|Wedges_ok (nd:=nd) (A8 Z) om) ?_
 refine Dr 5 C (Br C C)<|Dr 6 C (Ai C)<|Dw (d:=21) C (λaa=>?_)<|λaa=>?_
 ·refine Dro 7 C (Ab fld45_2 C) (Dro 8 C (A0 ef) ?_)
  refine Dro 9 C (Ai C)<|Dro 10 C (Br C C)<|Dr 11 C (Av C C)<|Dr 12 C (Ai C)<|Dw (d:=27) C (λM=>?_)<|λM=>?_
  ·refine Dro 13 C (Ab fld45_3 C) (Dro 14 C (A0 ty22) ?_)
   refine Dro 15 C (Ai C)<|Ds1 16<|Sc0 C (Aj c_ C C<|EqN_ok (xs:=quadL nd es) (ys:=quadL nd es) (A8 hm) Bi) ?_
   exact Dr 17 C (Av C C)<|Dr 18 C (Bf C)<|Dz<|Ah<|Ap (S1 2)<|Az<|A1 C C I Ax ⟨by first|rfl|(simp;done)|exact absurd C asm,rfl⟩
  exact Dpo 13 C<|Dpo 14 C<|Dpo 15 C<|Dpo 16 C<|Dr 17 C (Au C C)<|Dr 18 C (Bf C)<|Dz<|Ah<|Ap (S1 2)<|Az<|A1 C C I Ax ⟨by first|rfl|(simp;done)|exact absurd C asm,rfl⟩
 exact Dpo 7 C<|Dpo 8 C<|Dpo 9 C<|Dpo 10 C<|Dr 11 C (Au C C)<|Dr 12 C (Ai C)<|Dpo 13 C<|Dpo 14 C<|Dpo 15 C<|Dpo 16 C<|Dr 17 C (Au C C)<|Dr 18 C (Bf C)<|Dz<|Ah<|Ap (S1 2)<|Az<|A1 C C I Ax ⟨by first|rfl|(simp;done)|exact absurd C asm,rfl⟩
theorem QInsert_ok{nd:Int}{es:List Pt}(hl:Sl κ I (.slice ea es.length ec) es)(hm:Sl κ I (.slice na (quadL nd es).length nc) (quadL nd es))(Z:GrOk nd es){u v:Int}(he:endsP nd u v)(hn:edgeP u v∉es)(hT:TabRd κ I 0 tzCells):eu prog κ 304 [.agg #[e7 nd,.slice ea es.length ec,e7 (wedgeC nd es),e7 (quadC nd es),.slice na (quadL nd es).length nc],e7 u,e7 v] I (λr J=>∃(ga:Option Addr) (gc:Nat) (a:Option Addr) (c:Nat) (w:Value),r = .tuple #[.agg #[e7 nd,.slice ga (insB Pt.lt es (edgeP u v)).length gc,e7 (wedgeC nd (insB Pt.lt es (edgeP u v))),e7 (quadC nd (insB Pt.lt es (edgeP u v))),.slice a (quadL nd (insB Pt.lt es (edgeP u v))).length c],w,e7 0]/\J=vk 3 a c (quadL nd (insB Pt.lt es (edgeP u v)))::vk 105 ga gc (insB Pt.lt es (edgeP u v))::I):=by
 have ao:=Z.rng
 have aj:=he
 unfold endsP at aj
 have ap:=quadL_len nd es
 have aq:=quadC_bd Z
 have ar:=wedgeC_bd Z
 refine Ce3 Tryz.func304 C C ?_
 refine Ad<|Ge1 (Bd (cs:=[_,_,_,_,_]) C C C) λb1=>Ge1 (A4 ty45 C) λb2=>Ga C<|Ga C<|Ac<|Ar<|Ad<|Gr (Bc (vs:=[_,_,_,_,_]) ty45) ?_
 refine Gc0 (Aj c_ C C<|QV_ok (nd:=nd) (A8 hl) (A8 hm) Z<|Bn hT Ax) ?_
 refine Gr (Cn C)<|Ac<|Dg C<|Aw<|Ah<|Ad<|Gf fld45_0 C<|Gl2 ty38 ?_
 refine Gm C<|Gm C<|G.e (Aj c_ C C<|AddG_yes (nd:=nd) (u:=u) (v:=v) (A8 hl) (add_zero Z he hn)<|by have:=edges_le Z;omega) ?_
 rintro _ _ ⟨_,_,⟨aa,M,rfl,rfl⟩,rfl,rfl⟩
 refine Gm C<|Gr (Ak C C)<|Gr (Ak C C)<|Ge1 (A4 ty38 C) λb5=>Ge0 (Cz ty38) ?_
 refine Ga C<|Ac<|Ap (S6 10 9 6 3 1 2)<|Ar<|Ad<|Gm C<|Gr (Be C C)<|Ac<|A7 C (λak=>?_)<|λak=>?_
 ·refine Ad (Gr (Bq (cells:=[_,_,_,_,_]) ty45 Du pl45 C C)<|Gm C<|Ge0 (Fb ty45) ?_)
  refine Ga C<|Ga C<|Ac<|Az<|Ao ?_
  exact absurd rfl asm
 refine Aw<|Ah<|Ad<|Gr (Bc (vs:=[_,_,_,_,_]) ty45) ?_
 refine Gl2 ty38 ?_
 refine Gf fld45_0 C<|Gl2 ty38 ?_
 refine Gm C<|Gm C<|G.e (Aj c_ C C<|QChg_ok (nd:=nd) (nd':=nd) (nd0:=nd) (u:=u) (v:=v) (b':=1) (w0:=wedgeC nd es) (n0:=quadC nd es) (ga:=aa) (gn:=((insB Pt.lt es<|edgeP u v)).length) (gc:=M) (A8 hl) (A8 hm) Z (by unfold NodeR;omega) (by unfold NodeR;omega) om (quadL_bd Z) om om dc<|Bn hT Ax) ?_
 rintro _ _ ⟨_,_,⟨ab,ae,rfl,rfl⟩,rfl,rfl⟩
 refine Gr (Ak C C)<|Gr (Ak C C)<|Gr (Ak C C)<|Ge0 (Fb ty45) ?_
 refine Ga C<|Ga C<|Ac<|Ap (S3 8 7 6)<|Az ?_
 have ah:=(OneE.add Z he hn).quad_comes.1
 obtain ⟨an,ai⟩:=quad_ins (OneE.add Z he hn)
 have ad:(quadL nd<|insB Pt.lt es<|edgeP u v).length=(quadL nd es).length:=by rw [quadL_len,quadL_len]
 exact Cy C ty45 C C C mm C (vk 3 ab ae (quadL nd<|insB Pt.lt es<|edgeP u v)::vk 105 aa M (insB Pt.lt es<|edgeP u v)::I) (by unfold vk;rw [ad,←ah];exact Bl) ⟨aa,M,ab,ae,_,by rw [←an,←ai,ad]<;>rfl,rfl⟩
theorem QDelete_ok{nd:Int}{es:List Pt}(hl:Sl κ I (.slice ea es.length ec) es)(hm:Sl κ I (.slice na (quadL nd es).length nc) (quadL nd es))(Z:GrOk nd es){u v:Int}(he:endsP nd u v)(hn:edgeP u v∈es)(hT:TabRd κ I 0 tzCells):eu prog κ 305 [.agg #[e7 nd,.slice ea es.length ec,e7 (wedgeC nd es),e7 (quadC nd es),.slice na (quadL nd es).length nc],e7 u,e7 v] I (λr J=>∃(ga:Option Addr) (gc:Nat) (a:Option Addr) (c:Nat) (w:Value),r = .tuple #[.agg #[e7 nd,.slice ga (without es (edgeP u v)).length gc,e7 (wedgeC nd (without es (edgeP u v))),e7 (quadC nd (without es (edgeP u v))),.slice a (quadL nd (without es (edgeP u v))).length c],w,e7 0]/\J=vk 3 a c (quadL nd (without es (edgeP u v)))::vk 105 ga gc (without es (edgeP u v))::I):=by
 have ao:=Z.rng
 have aj:=he
 unfold endsP at aj
 have ap:=quadL_len nd es
 have aq:=quadC_bd Z
 have ar:=wedgeC_bd Z
 refine Ce3 Tryz.func305 C C ?_
 refine Ad<|Ge1 (Bd (cs:=[_,_,_,_,_]) C C C) λb1=>Ge1 (A4 ty45 C) λb2=>Ga C<|Ga C<|Ac<|Ar<|Ad<|Gr (Bc (vs:=[_,_,_,_,_]) ty45) ?_
 refine Gc0 (Aj c_ C C<|QV_ok (nd:=nd) (A8 hl) (A8 hm) Z<|Bn hT Ax) ?_
 refine Gr (Cn C)<|Ac<|Dg C<|Aw<|Ah<|Ad<|Gf fld45_0 C<|Gl2 ty38 ?_
 refine Gm C<|Gm C<|Gc2 (Aj c_ C C<|RemG_yes (nd:=nd) (u:=u) (v:=v) (A8 hl) (rem_zero Z he hn)<|by have:=edges_le Z;omega) λaa M=>?_
 refine Gm C<|Gr (Ak C C)<|Gr (Ak C C)<|Ge1 (A4 ty38 C) λb5=>Ge0 (Cz ty38) ?_
 refine Ga C<|Ac<|Ap (S6 10 9 6 3 1 2)<|Ar<|Ad<|Gm C<|Gr (Be C C)<|Ac<|A7 C (λak=>?_)<|λak=>?_
 ·refine Ad (Gr (Bq (cells:=[_,_,_,_,_]) ty45 Du pl45 C C)<|Gm C<|Ge0 (Fb ty45) ?_)
  refine Ga C<|Ga C<|Ac<|Az<|Ao ?_
  exact absurd rfl asm
 refine Aw<|Ah<|Ad<|Gr (Bc (vs:=[_,_,_,_,_]) ty45) ?_
 refine Gl2 ty38 ?_
 refine Gl2 ty38 ?_
 refine Gm C<|Gm C<|G.e (Aj c_ C C<|QChg_ok (nd:=nd) (nd':=nd) (nd0:=nd) (u:=u) (v:=v) (b':= -1) (w0:=wedgeC nd es) (n0:=quadC nd es) (ga:=aa) (gn:=((without es<|edgeP u v)).length) (gc:=M) Bi (A8 hm) (OneE.rem Z he hn).ok (by unfold NodeR;omega) (by unfold NodeR;omega) om (quadL_bd Z) om om dc (Bn hT Ax)) ?_
 rintro _ _ ⟨_,_,⟨ab,ae,rfl,rfl⟩,rfl,rfl⟩
 refine Gr (Ak C C)<|Gr (Ak C C)<|Gr (Ak C C)<|Ge0 (Fb ty45) ?_
 refine Ga C<|Ga C<|Ac<|Ap (S3 8 7 6)<|Az ?_
 have ah:=(OneE.rem Z he hn).quad_comes.2
 obtain ⟨an,ai⟩:=quad_del (OneE.rem Z he hn)
 have ad:(quadL nd<|without es<|edgeP u v).length=(quadL nd es).length:=by rw [quadL_len,quadL_len]
 exact Cy C ty45 C C C mm C (vk 3 ab ae (quadL nd<|without es<|edgeP u v)::vk 105 aa M (without es<|edgeP u v)::I) (by unfold vk;rw [ad,←ah];exact Bl) ⟨aa,M,ab,ae,_,by rw [←an,←ai,ad]<;>rfl,rfl⟩
theorem QOpen_ok{nd:Int}{es:List Pt}(hl:Sl κ I (.slice ea es.length ec) es)(hG:GrOk nd es)(hT:TabRd κ I 0 tzCells):eu prog κ 44 [.agg #[e7 nd,.slice ea es.length ec]] I (λr J=>∃(ga:Option Addr) (gc:Nat) (a:Option Addr) (c:Nat),r = .tuple #[.agg #[e7 nd,.slice ga es.length gc,e7 (wedgeC nd es),e7 (quadC nd es),.slice a (quadL nd es).length c],e7 0]/\J=vk 3 a c (quadL nd es)::vk 105 ga gc es::I):=by
 have ae:=edges_le hG
 have ad:=hG.rng
 refine Ce1 Tryz.func44 C C ?_
 refine Ad<|Ge1 (Bd (cs:=[_,_]) C C C) λb1=>Ge1 (A4 ty45 C) λb2=>Ga C<|Ac<|Ar<|Ad<|Gl2 ty38 ?_
 refine G.e (Aj c_ C C<|CheckG_yes (nd:=nd) (A8 hl) hG) ?_
 rintro _ _ ⟨_,_,⟨rfl,rfl⟩,rfl,rfl⟩
 refine Ga C<|Ac<|Ad<|Gm C<|Gr (Be C C)<|Ac<|A7 C (λc10=>?_)<|λc10=>?_
 ·refine Ad (Gr (Bq (cells:=[_,_,_,_,_]) ty45 Du pl45 C C)<|Gm C<|Ge0 (Fb ty45) ?_)
  refine Ga C<|Ac<|Az<|Ao ?_
  exact absurd rfl asm
 refine Aw<|Ah<|Ad<|Gl2 ty38 ?_
 refine Gc2 (Aj c_ C C<|QCounts_ok (nd:=nd) (A8 hl) hG<|Bn hT Ax) λab Z=>?_
 refine Gm C<|Gr (Ak C C)<|Gr (Ak C C)<|Ga C<|Ga C<|Ac<|Ap (S4 6 5 2 1)<|Ar<|Bs mixed<|El 11<|Dr 0 C (Ab fld38_0 C)<|Dr 1 C (A0 ef) ?_
 refine Dr 2 C (Ab fld38_1 C)<|Dr 3 C (A0 ty36) ?_
 refine Dr 6 C (Bc (vs:=[_,_]) ty38) ?_
 refine Dr 8 C (Ai C)<|Dr 9 C (Ai C)<|Ds1 4<|Sc2 C (Aj c_ C C<|CloneE (xs:=es) (A8 hl) om) λM aa=>?_
 refine Dr 5 C (Bq (cells:=[_,_]) ty38 Da pl38 C C)<|Ds1 7<|Sc0 C (Aj c_ C C<|Wedges_ok (nd:=nd) (A8 hl) om) ?_
 refine Dr 10 C (Bq (cells:=[_,_,_,_,_]) ty45 Du pl45 C C)<|Cs kr ?_
 refine Ae 11 C (Fb ty45) ?_
 rintro _ _ ⟨rfl,rfl⟩
 refine Dv (i:=12) kr C (Bm C) C C (Bf C) ?_
 refine Ct kr ?_
 exact Ah<|Ap (S2 3 2)<|Az<|C0 C ty45 C C mm C (vk 3 ab Z (quadL nd es)::vk 105 M aa es::I) Bl ⟨M,aa,ab,Z,rfl,rfl⟩
theorem RepO_ok{κ:Ctx}{I:List Item}{nd:Int}{es:List Pt}(hl:Sl κ I (.slice ea es.length ec) es)(hG:GrOk nd es)(hT:TabRd κ I 0 tzCells):eu prog κ 41 [.agg #[e7 nd,.slice ea es.length ec]] I (λr J=>∃(ga:Option Addr) (gc:Nat) (a:Option Addr) (c:Nat),r = .tuple #[.agg #[e7 nd,.slice ga es.length gc,.slice a (coreN nd es).length c],e7 0]/\J=vk 3 a c (coreN nd es)::vk 105 ga gc es::I):=by
 have ad:=checkG_ok.2 hG
 have ae:=edges_le hG
 refine Ce1 Tryz.func41 C C ?_
 refine Ad<|Ge1 (Bd (cs:=[_,_]) C C C) λb1=>Ge1 (A4 ty40 C) λb2=>Ga C<|Ac<|Ad<|Gl2 ty38 ?_
 refine Gc2 (Aj c_ C C<|CNumbers_ok (nd:=nd) (A8 hl)<|Bn hT Ax) λab Z=>?_
 refine Gm C<|Gr (Ak C C)<|Gr (Ak C C)<|Ga C<|Ga C<|Ac<|Ar<|Ad<|Gm C<|Gr (Be C C)<|Ac<|A7 C (λc12=>?_)<|λc12=>?_
 ·refine Ad (Gr (Bq (cells:=[_,_,_]) ty40 Dy pl40 C C)<|Gm C<|Ge0 (Df ty40) ?_)
  exact Ga C<|Ac<|Ap (S2 3 2)<|Az<|Ao<|C0 C ty40 C C mm C I Ax<|by exfalso;first|exact absurd ad asm|omega
 refine Aw<|Ah<|Ar<|Bs mixed<|El 8<|Dr 0 C (Ab fld38_0 C)<|Dr 1 C (A0 ef) ?_
 refine Dr 2 C (Ab fld38_1 C)<|Dr 3 C (A0 ty36) ?_
 refine Dr 6 C (Ai C)<|Ds1 4<|Sc2 C (Aj c_ C C<|CloneE (xs:=es) (A8 hl) om) λM aa=>?_
 refine Dr 5 C (Bq (cells:=[_,_]) ty38 Da pl38 C C)<|Dr 7 C (Bq (cells:=[_,_,_]) ty40 Dy pl40 C C)<|Cs kr ?_
 refine Ae 8 C (Df ty40) ?_
 rintro _ _ ⟨rfl,rfl⟩
 refine Dv (i:=9) kr C (Bm C) C C (Bf C) ?_
 refine Ct kr ?_
 exact Ah<|Ap (S2 3 2)<|Az<|C0 C ty40 C C mm C (vk 3 ab Z (coreN nd es)::vk 105 M aa es::I) Bl ⟨M,aa,ab,Z,rfl,rfl⟩
variable {κ:Ctx}{I:List Item}
structure SlA where
 a:Option Addr
 c:Nat
structure PkV where
 e1:SlA
 n1:SlA
 e2:SlA
 n2:SlA
 e3:SlA
 n3:SlA
 e4:SlA
 n4:SlA
abbrev pq(nd:Int)(E:List Pt)(p:PkV):List Value:=[e7 nd,.slice p.e1.a E.length p.e1.c,.slice p.n1.a (coreN nd E).length p.n1.c,e7 nd,.slice p.e2.a E.length p.e2.c,.slice p.n2.a (trussG nd E).length p.n2.c,e7 nd,.slice p.e3.a E.length p.e3.c,e7 (triS nd E / 3),.slice p.n3.a (triL nd E).length p.n3.c,e7 nd,.slice p.e4.a E.length p.e4.c,e7 (wedgeC nd E),e7 (quadC nd E),.slice p.n4.a (quadL nd E).length p.n4.c]
abbrev px(nd:Int)(E0:List Pt)(a0:Option Addr)(c0:Nat)(b0:Option Addr)(d0:Nat)(E1:List Pt)(a1:Option Addr)(c1:Nat)(b1:Option Addr)(d1:Nat)(E2:List Pt)(a2:Option Addr)(c2:Nat)(b2:Option Addr)(d2:Nat)(E3:List Pt)(a3:Option Addr)(c3:Nat)(b3:Option Addr)(d3:Nat):List Value:=[e7 nd,.slice a0 E0.length c0,.slice b0 (coreN nd E0).length d0,e7 nd,.slice a1 E1.length c1,.slice b1 (trussG nd E1).length d1,e7 nd,.slice a2 E2.length c2,e7 (triS nd E2 / 3),.slice b2 (triL nd E2).length d2,e7 nd,.slice a3 E3.length c3,e7 (wedgeC nd E3),e7 (quadC nd E3),.slice b3 (quadL nd E3).length d3]
abbrev ky(kd wd mo bd lt mr:Int)(wa:Option Addr)(wn wc:Nat)(nd:Int)(la:Option Addr)(ln lc:Nat)(E:List Pt)(p:PkV)(tm:Int):List Value:=[e7 kd,e7 wd,e7 mo,e7 bd,e7 lt,e7 mr,.slice wa wn wc,e7 nd,.slice la ln lc,e7 nd,.slice p.e1.a E.length p.e1.c,.slice p.n1.a (coreN nd E).length p.n1.c,e7 nd,.slice p.e2.a E.length p.e2.c,.slice p.n2.a (trussG nd E).length p.n2.c,e7 nd,.slice p.e3.a E.length p.e3.c,e7 (triS nd E / 3),.slice p.n3.a (triL nd E).length p.n3.c,e7 nd,.slice p.e4.a E.length p.e4.c,e7 (wedgeC nd E),e7 (quadC nd E),.slice p.n4.a (quadL nd E).length p.n4.c,e7 tm]
structure PkR (κ:Ctx) (T:List Item) (nd:Int) (es:List Pt) (v:PkV):Prop where
 e1:Sl κ T (.slice v.e1.a es.length v.e1.c) es
 n1:Sl κ T (.slice v.n1.a (coreN nd es).length v.n1.c) (coreN nd es)
 e2:Sl κ T (.slice v.e2.a es.length v.e2.c) es
 n2:Sl κ T (.slice v.n2.a (trussG nd es).length v.n2.c) (trussG nd es)
 e3:Sl κ T (.slice v.e3.a es.length v.e3.c) es
 n3:Sl κ T (.slice v.n3.a (triL nd es).length v.n3.c) (triL nd es)
 e4:Sl κ T (.slice v.e4.a es.length v.e4.c) es
 n4:Sl κ T (.slice v.n4.a (quadL nd es).length v.n4.c) (quadL nd es)
theorem PkR.fit{κ:Ctx}{I J:List Item}{nd:Int}{es:List Pt}{v:PkV}(h:PkR κ I nd es v)(f:Fit κ J I):PkR κ J nd es v:=
 ⟨h.e1.fit f,h.n1.fit f,h.e2.fit f,h.n2.fit f,h.e3.fit f,h.n3.fit f,h.e4.fit f,h.n4.fit f⟩
theorem EqE_ok{vb:Value}(Z:Sl κ I va xs)(hm:Sl κ I vb xs):eu prog κ 265 [va,vb] I (λr J=>r = .bool true/\I=J):=by
 refine B5 Z.le λab=>?_
 refine Ce2 Tryz.func265 C C ?_
 refine Ad<|Ga C<|Ac<|Ar<|Ad<|Gm C<|Gr (Bw (α:=Pt) (xs:=xs) A6 C<|A8 Z)<|Gm C<|Gr (Bw (α:=Pt) (xs:=xs) A6 C<|A8 hm)<|Gr (Be C C)<|Ac<|A7 C (λc10=>?_)<|λc10=>?_
 ·omega
 refine Aw<|Ah<|Ar<|Ad<|Gm C<|Gr (Bw (α:=Pt) (xs:=xs) A6 C<|A8 Z)<|Gm C<|Ac<|A5<|B1 (σ:=Nat) (λs=>([(0,va),(1,vb),(12,e7 ((xs.length:Nat):Int)),(13,e7 ((s:Nat):Int))]:Env)) (λs=>I) (λs=>(s<=xs.length)) (λs=>xs.length - s) 0 (show ((0:Nat)<=xs.length) from om) (cx2<|Aa C<|Aa Cd Bp) (show Fit κ _ I from Bg) ?_
 rintro k hp
 have hk:=hp
 refine Ad<|Gr (A9 C C)<|Ac<|Ar<|A7 C (λaa=>?_)<|λaa=>?_
 ·refine Aw (Ah<|Ar<|A5<|Ad<|Gm C<|Ga C<|Ac<|Ar<|Bs mixed<|Cc I 9<|Dr 0 C (Ai C)<|Dr 1 C (Ai C)<|Dr 2 C (A3 (α:=Pt) (xs:=xs) A6 ty105 C C (A8 Z) om om)<|Dr 3 C (Bv (α:=Pt) (xs:=xs) ty105 C (A8 Z) om om)<|Dr 4 C (Ai C)<|Dr 5 C (Ai C)<|Dr 6 C (A3 (α:=Pt) (xs:=xs) A6 ty105 C C (A8 hm) om om)<|Dr 7 C (Bv (α:=Pt) (xs:=xs) ty105 C (A8 hm) om om)<|Dr 8 C (Runs.neqT (α:=Pt) (a:=(e_ xs k)) (b:=(e_ xs k)) eqt105 C C)<|Dz<|Ah<|Ap (S5 24 0 1 12 13)<|A7 C (λM=>?_)<|λM=>?_)
  ·exact absurd rfl M
  exact Aw<|Am<|Ah<|Ay<|Gr (Rad C C)<|Gm C<|Bj<|Cb ((k+1)) om
 exact Bt<|Aq<|Aq<|Bb<|Ah<|Ad<|Ga C<|Ac<|Az<|A1 C C I Ax ⟨rfl,rfl⟩
theorem SameG_ok{nd:Int}(hl:Sl κ I va xs)(hm:Sl κ I M xs):eu prog κ 258 [.agg #[e7 nd,va],.agg #[e7 nd,M]] I (λr J=>r = .bool true/\I=J):=by
 refine Ce2 Tryz.func258 C C ?_
 refine Ad<|Ge1 (Bd (cs:=[_,_]) C C C) λb1=>Ge1 (Bd (cs:=[_,_]) C C C) λb2=>Ga C<|Ac<|Ad<|Gf fld38_0 C<|Gl ef ?_
 refine Gf fld38_0 C<|Gl ef ?_
 refine Gr (Br C C)<|Gm C<|Bh (d:=10) C (λZ=>?_)<|λZ=>?_
 ·refine e9 (Ab fld38_1 C) (e9 (A0 ty36) ?_)
  refine e9 (Ab fld38_1 C)<|e9 (A0 ty36) ?_
  refine Dx (Cq C C C) (Aj c_ C C<|EqE_ok (xs:=xs) (A8 hl)<|A8 hm) ?_
  rintro _ _ ⟨_,_,⟨rfl,rfl⟩,rfl,rfl⟩
  exact Gr (Av C C)<|Ga C<|Ac<|Ap (S1 4)<|Az<|A1 C C I Ax ⟨rfl,rfl⟩
 exact absurd rfl Z
theorem Val0_ok{nd:Int}{es:List Pt}(hl:Sl κ I (.slice ea es.length ec) es)(hm:Sl κ I (.slice na (coreN nd es).length nc) (coreN nd es))(hG:GrOk nd es)(hg:Sl κ I (.slice ga es.length gc) es)(hT:TabRd κ I 0 tzCells):eu prog κ 254 [(pt b),.agg #[e7 nd,.slice ga es.length gc]] (e8 b [e7 nd,.slice ea es.length ec,.slice na (coreN nd es).length nc,y3,y4,y5,y6,y7,y8,y9,Z,aa,ad,ab,M] 169::I) (λr J=>r = .bool true/\J=e8 b [e7 nd,.slice ea es.length ec,.slice na (coreN nd es).length nc,y3,y4,y5,y6,y7,y8,y9,Z,aa,ad,ab,M] 169::I):=by
 refine Ce2 Tryz.func254 C C ?_
 refine Ad<|Ge1 (Bd (cs:=[_,_]) C C C) λb1=>Ga C<|Ac<|Ar<|Bs mixed<|El 15<|Dr 0 C (Ai C)<|Dr 1 C (Bo C)<|Dr 2 C (Ab fld161_0 C)<|Dr 3 C (Ab fld40_0 C)<|Dr 4 C (Bc (vs:=[_,_]) ty38) ?_
 refine Dr 5 C (Bc (vs:=[_,_]) ty38) ?_
 refine Ds1 6<|Sc0 C (Aj c_ C C<|SameG_ok (nd:=nd) (xs:=es) (A8 hl)<|A8 hg) ?_
 refine Dr 7 C (Ai C)<|Dro 8 C (Ai C)<|Dro 9 C (Bo C)<|Dro 10 C (Ab fld161_0 C)<|Dro 11 C (Bc (vs:=[_,_,_]) ty40) ?_
 refine Ds1 12<|Sc0 C (Aj c_ C C<|RepV_ok (nd:=nd) (A8 hl) (A8 hm) hG<|Bn hT Ax) ?_
 exact Dr 13 C (Av C C)<|Dr 14 C (Bf C)<|Dz<|Ah<|Ap (S1 4)<|Az<|A1 C C (e8 b [e7 nd,.slice ea es.length ec,.slice na (coreN nd es).length nc,y3,y4,y5,y6,y7,y8,y9,Z,aa,ad,ab,M] 169::I) Bl ⟨rfl,rfl⟩
theorem Val1_ok{nd:Int}{es:List Pt}(hl:Sl κ I (.slice ea es.length ec) es)(hm:Sl κ I (.slice na (trussG nd es).length nc) (trussG nd es))(hG:GrOk nd es)(hg:Sl κ I (.slice ga es.length gc) es)(hT:TabRd κ I 0 tzCells):eu prog κ 281 [.pointer (some ⟨b,3,none⟩),.agg #[e7 nd,.slice ga es.length gc]] (e8 b [y0,y1,y2,e7 nd,.slice ea es.length ec,.slice na (trussG nd es).length nc,y6,y7,y8,y9,Z,aa,ad,ab,M] 169::I) (λr J=>r = .bool true/\J=e8 b [y0,y1,y2,e7 nd,.slice ea es.length ec,.slice na (trussG nd es).length nc,y6,y7,y8,y9,Z,aa,ad,ab,M] 169::I):=by
 refine Ce2 Tryz.func281 C C ?_
 refine Ad<|Ge1 (Bd (cs:=[_,_]) C C C) λb1=>Ga C<|Ac<|Ar<|Bs mixed<|El 15<|Dr 0 C (Ai C)<|Dr 1 C (Bo C)<|Dr 2 C (Ab fld163_0 C)<|Dr 3 C (Ab fld41_0 C)<|Dr 4 C (Bc (vs:=[_,_]) ty38) ?_
 refine Dr 5 C (Bc (vs:=[_,_]) ty38) ?_
 refine Ds1 6<|Sc0 C (Aj c_ C C<|SameG_ok (nd:=nd) (xs:=es) (A8 hl)<|A8 hg) ?_
 refine Dr 7 C (Ai C)<|Dro 8 C (Ai C)<|Dro 9 C (Bo C)<|Dro 10 C (Ab fld163_0 C)<|Dro 11 C (Bc (vs:=[_,_,_]) ty41) ?_
 refine Ds1 12<|Sc0 C (Aj c_ C C<|MV_ok (nd:=nd) (A8 hl) (A8 hm) hG<|Bn hT Ax) ?_
 exact Dr 13 C (Av C C)<|Dr 14 C (Bf C)<|Dz<|Ah<|Ap (S1 4)<|Az<|A1 C C (e8 b [y0,y1,y2,e7 nd,.slice ea es.length ec,.slice na (trussG nd es).length nc,y6,y7,y8,y9,Z,aa,ad,ab,M] 169::I) Bl ⟨rfl,rfl⟩
theorem Val2_ok{nd:Int}{es:List Pt}(hl:Sl κ I (.slice ea es.length ec) es)(hm:Sl κ I (.slice na (triL nd es).length nc) (triL nd es))(hG:GrOk nd es)(hg:Sl κ I (.slice ga es.length gc) es)  :
    eu prog κ 295 [.pointer (some ⟨b,6,none⟩),.agg #[e7 nd,.slice ga es.length gc]] (e8 b [y0,y1,y2,y3,y4,y5,e7 nd,.slice ea es.length ec,e7<|triS nd es / 3,.slice na (triL nd es).length nc,Z,aa,ad,ab,M] 169::I) (λr J=>r = .bool true/\J=e8 b [y0,y1,y2,y3,y4,y5,e7 nd,.slice ea es.length ec,e7<|triS nd es / 3,.slice na (triL nd es).length nc,Z,aa,ad,ab,M] 169::I):=by
 refine Ce2 Tryz.func295 C C ?_
 refine Ad<|Ge1 (Bd (cs:=[_,_]) C C C) λb1=>Ga C<|Ac<|Ar<|Bs mixed<|El 15<|Dr 0 C (Ai C)<|Dr 1 C (Bo C)<|Dr 2 C (Ab fld165_0 C)<|Dr 3 C (Ab fld43_0 C)<|Dr 4 C (Bc (vs:=[_,_]) ty38) ?_
 refine Dr 5 C (Bc (vs:=[_,_]) ty38) ?_
 refine Ds1 6<|Sc0 C (Aj c_ C C<|SameG_ok (nd:=nd) (xs:=es) (A8 hl)<|A8 hg) ?_
 refine Dr 7 C (Ai C)<|Dro 8 C (Ai C)<|Dro 9 C (Bo C)<|Dro 10 C (Ab fld165_0 C)<|Dro 11 C (Bc (vs:=[_,_,_,_]) ty43) ?_
 refine Ds1 12<|Se C (Aj c_ C C<|TV_ok (nd:=nd) (A8 hl) (A8 hm) hG) ?_
 rintro _ _ ⟨_,_,⟨rfl,rfl⟩,rfl,rfl⟩
 refine ⟨Ax,?_⟩
 exact Dr 13 C (Av C C)<|Dr 14 C (Bf C)<|Dz<|Ah<|Ap (S1 4)<|Az<|A1 C C (e8 b [y0,y1,y2,y3,y4,y5,e7 nd,.slice ea es.length ec,e7<|triS nd es / 3,.slice na (triL nd es).length nc,Z,aa,ad,ab,M] 169::I) Bl ⟨rfl,rfl⟩
theorem Val3_ok{nd:Int}{Z:Option Addr}{M:Nat}{es:List Pt}(hl:Sl κ I (.slice ea es.length M) es)(hm:Sl κ I (.slice Z (quadL nd es).length nc) (quadL nd es))(hG:GrOk nd es)(hg:Sl κ I (.slice ga es.length gc) es)(hT:TabRd κ I 0 tzCells):eu prog κ 302 [.pointer (some ⟨b,10,none⟩),.agg #[e7 nd,.slice ga es.length gc]] (e8 b [y0,y1,y2,y3,y4,y5,y6,y7,y8,y9,e7 nd,.slice ea es.length M,e7 (wedgeC nd es),e7 (quadC nd es),.slice Z (quadL nd es).length nc] 169::I) (λr J=>r = .bool true/\J=e8 b [y0,y1,y2,y3,y4,y5,y6,y7,y8,y9,e7 nd,.slice ea es.length M,e7 (wedgeC nd es),e7 (quadC nd es),.slice Z (quadL nd es).length nc] 169::I):=by
 refine Ce2 Tryz.func302 C C ?_
 refine Ad<|Ge1 (Bd (cs:=[_,_]) C C C) λb1=>Ga C<|Ac<|Ar<|Bs mixed<|El 15<|Dr 0 C (Ai C)<|Dr 1 C (Bo C)<|Dr 2 C (Ab fld167_0 C)<|Dr 3 C (Ab fld45_0 C)<|Dr 4 C (Bc (vs:=[_,_]) ty38) ?_
 refine Dr 5 C (Bc (vs:=[_,_]) ty38) ?_
 refine Ds1 6<|Sc0 C (Aj c_ C C<|SameG_ok (nd:=nd) (xs:=es) (A8 hl)<|A8 hg) ?_
 refine Dr 7 C (Ai C)<|Dro 8 C (Ai C)<|Dro 9 C (Bo C)<|Dro 10 C (Ab fld167_0 C)<|Dro 11 C (Bc (vs:=[_,_,_,_,_]) ty45) ?_
 refine Ds1 12<|Sc0 C (Aj c_ C C<|QV_ok (nd:=nd) (A8 hl) (A8 hm) hG<|Bn hT Ax) ?_
 exact Dr 13 C (Av C C)<|Dr 14 C (Bf C)<|Dz<|Ah<|Ap (S1 4)<|Az<|A1 C C (e8 b [y0,y1,y2,y3,y4,y5,y6,y7,y8,y9,e7 nd,.slice ea es.length M,e7<|wedgeC nd es,e7<|quadC nd es,.slice Z (quadL nd es).length nc] 169::I) Bl ⟨rfl,rfl⟩
end Go.Sl
