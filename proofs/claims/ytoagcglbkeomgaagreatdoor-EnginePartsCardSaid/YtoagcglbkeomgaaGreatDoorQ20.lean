/- A part of the proofs of statements of this seat: contracts of functions, and the plain laws that they lean on. No conditions. -/
import Derived.Test.YtoagcglbkeomgaaGreatDoorQ19
set_option linter.unusedVariables false
set_option linter.unusedSimpArgs false
set_option linter.unusedSectionVars false
open Go.Proofs.Tryz (prog)
set_option maxHeartbeats 2000000
namespace Go.Sl
open Go.Proofs
set_option maxRecDepth 4000
variable{b' x:Int}{M Z aa ab ad va y0 y1 y2 y3 y4 y5 y6 y7 y8 y9:Value}{num:List Int}{ea ga na:Option Addr}{b ec gc nc:Nat}{xs:List Pt}
section
variable {nd:Int}{es:List Pt}
def trF(nd:Int)(es:List Pt)(xs:List Int)(p:Pt):List Int:=(commonG nd es p.u p.v).foldl (incL 1) xs
def trC(nd:Int)(es:List Pt)(k:Nat):List Int:=(es.take k).foldl (trF nd es) (List.replicate nd.toNat 0)
theorem trC_succ{k:Nat}(h:k<es.length):trC nd es (k+1)=(commonG nd es (e_ es k).u (e_ es k).v).foldl (incL 1) (trC nd es k):=by
 unfold trC;rw [Cl es k h,List.foldl_append];rfl
theorem trF_len(xs:List Int)(p:Pt):(trF nd es xs p).length=xs.length:=incs_len _ _
theorem trFs_at(M:GrOk nd es)(Z:0<=x):∀(l:List Pt) (xs:List Int),(xs.length:Int)=nd->(l.foldl (trF nd es) xs).length=xs.length/\e_ (l.foldl (trF nd es) xs) x=e_ xs x+(l.map λp=>ind (decide (x∈commonG nd es p.u p.v))).sum
 |[],xs,_=>⟨rfl,by simp⟩
 |p::l,xs,hl=>by
  obtain ⟨h1,h2⟩:=trFs_at M Z l (trF nd es xs p) (by rw [trF_len];exact hl)
  rw [List.foldl_cons,h1,h2,trF_len]
  refine ⟨rfl,?_⟩
  have h3:e_ (trF nd es xs p) x=e_ xs x+ind (decide<|x∈commonG nd es p.u p.v):=by
   unfold trF
   rw [incs_at _ _ (λw hw=>by have:=common_rng M hw;omega) x Z,sum_ind_nodup<|common_nodup nd es p.u p.v,Int.one_mul,ind_d]
  rw [h3,List.map_cons,List.sum_cons];omega
theorem trC_all(Z:GrOk nd es):trC nd es es.length=triL nd es:=by
 have hr:=Z.rng
 have M:((List.replicate nd.toNat (0:Int)).length:Int)=nd:=by rw [List.length_replicate];omega
 have hL:(trC nd es es.length).length=nd.toNat:=by
  unfold trC;rw [(trFs_at Z (Int.le_refl 0) _ _ M).1,List.length_replicate]
 refine E6 (by rw [hL,triL_len]) λi hi=>?_
 rw [hL] at hi
 rw [triL_at hi]
 unfold trC triW
 rw [List.take_length,(trFs_at Z om _ _ M).2,Cy _ i<|by rw [List.length_replicate];exact hi,List.getElem_replicate,Int.zero_add]
end
theorem CountsL_ok{κ:Ctx}{I:List Item}{nd:Int}{es:List Pt}(hl:Sl κ I va es)(hG:GrOk nd es):eu prog κ 87 [.agg #[e7 nd,va]] I (λr J=>∃a c,r = .tuple #[e7 (triS nd es / 3),.slice a (triL nd es).length c]/\J=vc 3 (.slice a (triL nd es).length c) (triL nd es)::I):=by
 have a9:=hG.rng
 have bb:=edges_le hG
 have be:=triS_bd hG
 refine Ce1 Tryz.func87 C C ?_
 refine Af<|Ge1 (Bc (cs:=[_,_]) C C C) λb1=>Ga C<|Ga C<|Ad<|Af<|Gl2 ty38 ?_
 refine G.e (Aj c_ C C<|Lists_ok (nd:=nd) (A6 hl) hG) ?_
 rintro _ _ ⟨_,_,⟨ae,ah,rs,ai,rfl,ad,rfl⟩,rfl,rfl⟩
 refine D9 (J:=vc 22 (.slice ae rs.length ah) (rs)::e8 b1 [e7 nd,va] 38::(ownR 3 ai++I)) (Cw<|List.Perm.cons _<|C6 (A:=ownR 3 ai) (L:=[e8 b1 [e7 nd,va] 38]) (T:=I)) ?_
 have a8:=ad.len
 refine Ga C<|Ad<|Ap<|Bq mixed<|Ee 5<|Dr 0 C (Ac fld38_0 C)<|Dr 1 C (A7 ef) ?_
 refine Dr 3 C (Ba C)<|Ds1 2<|Se2 C (E1 (α:=Int) (n:=nd.toNat) Ab ef C C C om om dc C) λaa ab=>?_
 refine Dr 4 C (Ba C)<|Dz<|Ah<|Ap<|Af<|Gf fld38_1 C<|Gl ty36 ?_
 refine Gr (B5 (α:=Pt) (xs:=es) Ax C<|A6 hl)<|Gm C<|Ad<|Am (S6 19 18 17 6 5 4 C C C C C C)<|A0<|B1 (σ:=Nat×(List Int)×Int) (λs=>([(4,.slice ae rs.length ah),(5,e7<|s.2.2),(6,.slice aa (List.replicate nd.toNat (default:Int)).length ab),(17,va),(18,e7 ((es.length:Nat):Int)),(19,e7 ((s.1:Nat):Int))]:Env)) (λs=>vc 3 (.slice aa (List.replicate nd.toNat (default:Int)).length ab) (s.2.1)::vc 22 (.slice ae rs.length ah) (rs)::e8 b1 [e7 nd,va] 38::(ownR 3 ai++I)) (λs=>(s.1<=es.length)/\(s.2.2=triK nd es s.1)/\(s.2.1.length=nd.toNat)/\(s.2.1.sum=s.2.2)/\(∀x∈s.2.1,0<=x)/\(s.2.1=trC nd es s.1)) (λs=>es.length - s.1) (0,List.replicate nd.toNat (default:Int),0) ⟨om,rfl,(by rw [List.length_replicate]),(sumL_rep _),(λx hx=>by rw [List.eq_of_mem_replicate hx];exact Int.le_refl 0),rfl⟩ (Aa C<|Aa Cd<|Aa C<|Aa C<|Aa C<|Aa Cd Bl) Bm ?_
 rintro ⟨k,out,q⟩ hp
 dsimp only at hp ⊢
 obtain ⟨hk,hq,az,a4,a0,ap⟩:=hp
 have a7:=λh:k<=es.length=>triK_bd nd es k h
 have aw:=λh:k<es.length=>hG.at h
 refine Af<|Gr (Bb C C)<|Ad<|Ap<|A8 C (λa5=>?_)<|λa5=>?_
 ·refine Aw (Ah<|Ap<|A0<|Af<|Gr (Az (α:=Pt) (xs:=es) Ax ty105 C C (A6 hl) om oo)<|Gr (B2 (α:=Pt) (xs:=es) ty105 C (A6 hl) om oo)<|Ge1 (A2 ty105 C) λb6=>Ge0 (Da ty105) ?_)
  refine Ad<|Ap<|Bq mixed<|Ee 13<|Dr 0 C (Ai C)<|Dr 1 C (Ac fld105_0 C)<|Dr 2 C (A7 ef) ?_
  refine Dr 3 C (Az (α:=(RowG Int)) (xs:=rs) Cj ty22 C C Bh om oo)<|Dr 4 C (B4 (α:=(RowG Int)) (xs:=rs) (u:= .slice (e_ rs<|(e_ es k).u).a (e_ rs<|(e_ es k).u).xs.length (e_ rs<|(e_ es k).u).c) ty22 C Bh om oo C)<|Dr 5 C (Ai C)<|Dr 6 C (Ac fld105_1 C)<|Dr 7 C (A7 ef) ?_
  refine Dr 8 C (Az (α:=(RowG Int)) (xs:=rs) Cj ty22 C C Bh om oo)<|Dr 9 C (B4 (α:=(RowG Int)) (xs:=rs) (u:= .slice (e_ rs<|(e_ es k).v).a (e_ rs<|(e_ es k).v).xs.length (e_ rs<|(e_ es k).v).c) ty22 C Bh om oo C)<|Dr 12 C (Ai C)<|Ds1 10<|Se C (Aj c_ C C<|Shared_any (ad.row _ om om).2 (ad.row _ om om).2 (Bv (ad.held (I:=I) (i:=((e_ es k).u)) om om) Av) (Bv (ad.held (I:=I) (i:=((e_ es k).v)) om om) Av) (nbG_asc _ _ _) (nbG_asc _ _ _) (by have:=nbG_len nd es (e_ es k).u;omega)) ?_
  rintro _ _ ⟨_,_,⟨au,ar,rfl,rfl⟩,rfl,rfl⟩
  refine ⟨Bf,?_⟩
  have aq:interF (nbG nd es<|(e_ es k).u) (nbG nd es<|(e_ es k).v)=commonG nd es (e_ es k).u (e_ es k).v:=inter_common (by have:=aw om;omega)
  rw [aq]
  refine Dr 11 C (Bj Ab C)<|Dz<|Ah<|Am (S9 34 33 35 4 5 6 17 18 19 C C C C C C C C C)<|A0<|B1 (σ:=Nat×(List Int)×Int) (λs=>([(4,.slice ae rs.length ah),(5,e7<|s.2.2),(6,.slice aa (List.replicate nd.toNat (default:Int)).length ab),(17,va),(18,e7 ((es.length:Nat):Int)),(19,e7<|(k:Int)),(33,.slice au (commonG nd es (e_ es k).u (e_ es k).v).length ar),(34,e7<|(((commonG nd es (e_ es k).u (e_ es k).v).length:Nat):Int)),(35,e7 ((s.1:Nat):Int))]:Env)) (λs=>vc 3 (.slice aa (List.replicate nd.toNat (default:Int)).length ab) (s.2.1)::vc 3 (.slice au (commonG nd es (e_ es k).u (e_ es k).v).length ar) (commonG nd es (e_ es k).u (e_ es k).v)::e8 b6 [e7 ((e_ es k).u),e7<|(e_ es k).v] 105::vc 22 (.slice ae rs.length ah) (rs)::e8 b1 [e7 nd,va] 38::(ownR 3 ai++I)) (λs=>(s.1<=(commonG nd es (e_ es k).u (e_ es k).v).length)/\(s.2.2=triK nd es k+(s.1:Int))/\(s.2.1.length=nd.toNat)/\(s.2.1.sum=s.2.2)/\(∀x∈s.2.1,0<=x)/\(s.2.1=((commonG nd es (e_ es k).u (e_ es k).v).take s.1).foldl (incL 1) out)) (λs=>(commonG nd es (e_ es k).u (e_ es k).v).length - s.1) (0,out,q) ⟨om,(by rw [hq];simp),az,a4,a0,rfl⟩ (Aa C<|Aa Cd<|Aa C<|Aa C<|Aa C<|Aa C<|Aa C<|Aa C<|Aa Cd Bl) Bm ?_
  rintro ⟨k2,Z,q2⟩ hp
  dsimp only at hp ⊢
  obtain ⟨bc,a6,an,ao,M,aj⟩:=hp
  have a3:k2<(commonG nd es (e_ es k).u (e_ es k).v).length->0<=e_ (commonG nd es (e_ es k).u (e_ es k).v) (k2:Int)/\e_ (commonG nd es (e_ es k).u (e_ es k).v) (k2:Int)<nd:=λh=>common_rng hG (Ca om om)
  have ba:=commonG_len nd es (e_ es k).u (e_ es k).v
  have ax:k2<(commonG nd es (e_ es k).u (e_ es k).v).length->0<=e_ Z (e_ (commonG nd es (e_ es k).u (e_ es k).v) (k2:Int))/\e_ Z (e_ (commonG nd es (e_ es k).u (e_ es k).v) (k2:Int))<=1000000:=λh=>by have h1:=a3 h;have h2:=Ca (xs:=Z) (i:=e_ (commonG nd es (e_ es k).u (e_ es k).v) (k2:Int)) om om;have h3:=mem_le_sum M h2;have h4:=M _ h2;have h5:=a7 om;omega
  refine Af<|Gr (Bb C C)<|Ad<|Ap<|A8 C (λay=>?_)<|λay=>?_
  ·refine Aw (Ah<|Ap<|A0<|Af<|Gr (Az (α:=Int) (xs:=commonG nd es (e_ es k).u (e_ es k).v) Ab ef C C Bh om oo)<|Gr (Bw (xs:=commonG nd es (e_ es k).u (e_ es k).v) ef C Bh om oo)<|Ga C<|Ad<|Af<|Gm C<|Gm C<|Gr (Az (α:=Int) (xs:=Z) Ab ef C C Bh om oo)<|Gr (Bw (xs:=Z) ef C Bh om oo)<|Gr (Rad C C)<|Gr (Az (α:=Int) (xs:=Z) Ab ef C C Bh om oo)<|Ge0 (Cx (α:=Int) (xs:=Z) (e:=3) (new:=(e_ Z<|e_ (commonG nd es (e_ es k).u (e_ es k).v) (k2:Int))+1) ef C C C om oo am) ?_)
   exact Ad<|Am (S9 4 5 6 17 18 19 33 34 35 C C C C C C C C C)<|Au<|Gm C<|Gr (Rad C C)<|Ga C<|Bo<|Al<|Ah<|Au<|Gr (Rad C C)<|Gm C<|Bo<|Cf ((k2+1),(List.set Z (e_ (commonG nd es (e_ es k).u (e_ es k).v) (k2:Int)).toNat ((e_ Z<|e_ (commonG nd es (e_ es k).u (e_ es k).v) (k2:Int))+1)),(q2+1))<|by dsimp only;exact ⟨om,om,(by rw [List.length_set];exact an),(by rw [sumL_set om om,ao];omega),(λx hx=>by rcases List.mem_or_eq_of_mem_set hx with h|h;(· exact M x h);(· rw [h];have:=ax om;omega)),(inc_next om aj)⟩
  exact Bx<|Ao<|Ao<|A9<|Al<|Ah<|Au<|Gr (Rad C C)<|Gm C<|Bo<|Cf ((k+1),(Z),(q2))<|by dsimp only;exact ⟨om,(by rw [triK_succ om,a6,show k2=(commonG nd es (e_ es k).u (e_ es k).v).length by omega]),an,ao,M,(by rw [trC_succ om,←ap,aj,List.take_of_length_le om])⟩
 refine Bx<|Ao<|Ao<|A9<|Ah<|Af<|Gm C<|Gr (Runs.quo C C om om<|by unfold InR;omega)<|Gm C<|Ga C<|Ga C<|Ad<|Ay ?_
 have a1:out=triL nd es:=by rw [ap,show k=es.length by omega,trC_all hG]
 subst a1
 have ak:(List.replicate nd.toNat (default:Int)).length=(triL nd es).length:=by rw [List.length_replicate,triL_len]
 have av:q=triS nd es:=by rw [hq,show k=es.length by omega,triK_all]
 exact De C C C (vc 3 (.slice aa (triL nd es).length ab) (triL nd es)::I) (by rw [←ak];exact FitW) ⟨aa,ab,by rw [←ak,av],rfl⟩
variable {κ:Ctx}{I:List Item}
theorem Shared_com{nd u v:Int}{es:List Pt}{a0 b0:Option Addr}{n0 Z c0 d0:Nat}(hn:n0=(nbG nd es u).length)(M:Z=(nbG nd es v).length)(hl:Sl κ I (.slice a0 n0 c0) (nbG nd es u))(hm:Sl κ I (.slice b0 Z d0) (nbG nd es v))(aa:u≠v):eu prog κ 133 [.slice a0 n0 c0,.slice b0 Z d0] I λr J=>∃a c,r = .slice a (commonG nd es u v).length c/\J=vc 3 (.slice a (commonG nd es u v).length c) (commonG nd es u v)::I:=by
 have h1:=nbG_len nd es u
 have:=Shared_any hn M hl hm (nbG_asc _ _ _) (nbG_asc _ _ _) om
 rw [inter_common aa] at this
 exact this
theorem CheckG_yes{nd:Int}{v:Value}{es:List Pt}(M:Sl κ I v es)(Z:GrOk nd es):eu prog κ 86 [.agg #[e7 nd,v]] I λr J=>r=e7 0/\I=J:=by
 have h:=CheckGen_ok (nd:=nd) M
 rw [checkG_ok.2 Z] at h
 exact h
theorem com_bd{nd u v:Int}{es:List Pt}(Z : -1<=b'/\b'<=1) : -64<=b'*((commonG nd es u v).length:Int)/\b'*((commonG nd es u v).length:Int)<=64:=by
 have:=commonG_len nd es u v
 rcases (by omega:b' = -1\/b'=0\/b'=1) with h|h|h<;>rw [h]<;>omega
theorem incs_bd{ls:List Int}(hn:ls.Nodup)(M:∀w∈ls,0<=w/\w<(num.length:Int))(hb : -1<=b'/\b'<=1)(hv:∀x∈num,0<=x/\x<=1000000)(Z:0<=x/\x<(num.length:Int)) : -1<=e_ (ls.foldl (incL b') num) x/\e_ (ls.foldl (incL b') num) x<=1000001:=by
 have h1:=hv _ (Ca (xs:=num) (i:=x) Z.1 om)
 rw [incs_at _ _ M _ Z.1,sum_ind_nodup hn]
 split
 ·omega
 omega
theorem inc1_bd{d m lo hi:Int}{xs:List Int}{u:Int}(hu:0<=u/\u<(xs.length:Int))(Z:0<=x)(hd : -m<=d/\d<=m)(h:lo<=e_ xs x/\e_ xs x<=hi)(M:0<=m):lo - m<=e_ (List.set xs u.toNat (e_ xs u+d)) x/\e_ (List.set xs u.toNat (e_ xs u+d)) x<=hi+m:=by
 rw [Ef _ _ _ _ hu.1 Z om]
 split
 ·subst_vars;omega
 omega
theorem TChg_ok{nd nd' u v n0:Int}{gn:Nat}{es:List Pt}(hl:Sl κ I (.slice ea es.length ec) es)(hm:Sl κ I (.slice na num.length nc) num)(hG:GrOk nd es)(hu:NodeR nd u)(hv:NodeR nd v)(a4:u≠v)(a6:(num.length:Int)=nd)(ao:∀x∈num,0<=x/\x<=1000000)(ba:0<=n0/\n0<=1000000)(hb : -1<=b'/\b'<=1):eu prog κ 300 [.agg #[e7 nd,.slice ea es.length ec,e7 n0,.slice na num.length nc],.agg #[e7 (nd'),.slice ga gn gc],e7 u,e7 v,e7 (b')] I (λr J=>∃(a:Option Addr) (c:Nat),r = .tuple #[.agg #[e7 nd',.slice ga gn gc,e7 (n0+b'*((commonG nd es u v).length:Int)),.slice a num.length c],e7 ((commonG nd es u v).length:Int),e7 0]/\J=vc 3 (.slice a num.length c) (triU b' (commonG nd es u v) u v num)::I):=by
 have a8:=hG.rng
 have bc:0<=u/\u<nd:=hu
 have a9:0<=v/\v<nd:=hv
 have bb:=commonG_len nd es u v
 have a0:=com_bd (nd:=nd) (u:=u) (v:=v) (es:=es) hb
 have hS:∀w∈commonG nd es u v,0<=w/\w<(num.length:Int):=λw hw=>by have:=common_rng hG hw;omega
 refine Ce5 Tryz.func300 C C ?_
 refine Af<|Ge1 (Bc (cs:=[_,_,_,_]) C C C) λb1=>Ge1 (Bc (cs:=[_,_]) C C C) λb2=>Ge1 (A2 ty43 C) λb3=>Ga C<|Ga C<|Ad<|Af<|Gf fld43_0 C<|Gl2 ty38 ?_
 refine G.e (Aj c_ C C<|Lists_ok (nd:=nd) (A6 hl) hG) ?_
 rintro _ _ ⟨_,_,⟨au,aw,rs,ar,rfl,ak,rfl⟩,rfl,rfl⟩
 refine D9 (J:=vc 22 (.slice au rs.length aw) (rs)::e8 b3 [e7 0,.slice none 0 0,e7 0,.slice none 0 0] 43::e8 b2 [e7 (nd'),.slice ga gn gc] 38::e8 b1 [e7 nd,.slice ea es.length ec,e7 n0,.slice na num.length nc] 43::(ownR 3 ar++I)) (Cw<|List.Perm.cons _<|C6 (A:=ownR 3 ar) (L:=[e8 b3 [e7 0,.slice none 0 0,e7 0,.slice none 0 0] 43,e8 b2 [e7 (nd'),.slice ga gn gc] 38,e8 b1 [e7 nd,.slice ea es.length ec,e7 n0,.slice na num.length nc] 43]) (T:=I)) ?_
 have a7:=ak.len
 refine Ga C<|Ad<|Am (S7 13 10 6 5 2 3 4 C C C C C C C)<|Ap<|Bq mixed<|Ee 10<|Dr 0 C (Ai C)<|Dr 1 C (Ai C)<|Dr 2 C (Az (α:=(RowG Int)) (xs:=rs) Cj ty22 C C Bh (by first|omega|(have M:=Z om;omega))<|by first|omega|(have M:=Z om;omega)|(simp only [List.length_set];omega))<|Dr 3 C (B4 (α:=(RowG Int)) (xs:=rs) (u:= .slice (e_ rs u).a (e_ rs u).xs.length (e_ rs u).c) ty22 C Bh (by first|omega|(have M:=Z om;omega)) (by first|omega|(have M:=Z om;omega)|(simp only [List.length_set];omega)) C)<|Dr 4 C (Ai C)<|Dr 5 C (Ai C)<|Dr 6 C (Az (α:=(RowG Int)) (xs:=rs) Cj ty22 C C Bh (by first|omega|(have M:=Z om;omega))<|by first|omega|(have M:=Z om;omega)|(simp only [List.length_set];omega))<|Dr 7 C (B4 (α:=(RowG Int)) (xs:=rs) (u:= .slice (e_ rs v).a (e_ rs v).xs.length (e_ rs v).c) ty22 C Bh (by first|omega|(have M:=Z om;omega)) (by first|omega|(have M:=Z om;omega)|(simp only [List.length_set];omega)) C)<|Ds1 8<|Sc2 C (Aj c_ C C<|Shared_com (ak.row _ om om).2 (ak.row _ om om).2 (Bv (ak.held (I:=I) (i:=u) om om) Av) (Bv (ak.held (I:=I) (i:=v) om om) Av) a4) λaj ai=>?_
 refine Dr 9 C (Ba C)<|Dz<|Ah<|Am (S7 14 10 6 5 2 3 4 C C C C C C C)<|Ap<|Bq mixed<|Ee 13<|Dr 0 C (A5 (vs:=[_,_]) ty38) ?_
 refine Dr 1 C (Ac fld43_1 C)<|Dr 2 C (A7 ef) ?_
 refine Dr 3 C (Ai C)<|Dr 4 C (Ai C)<|Dr 5 C (Bj Ab C)<|Dr 6 C (Ep C C<|by first|(unfold InR;omega)|(have h7:=aa om;have M:=ab om;unfold InR;omega))<|Dr 7 C (Cq C C<|by first|(unfold InR;omega)|(have h7:=aa om;have M:=ab om;unfold InR;omega))<|Dr 8 C (Ac fld43_2 C)<|Dr 9 C (A7 ty22) ?_
 refine Dl (rs:=[10,12]) kr C C<|Ez ?_<|Ed ?_
 ·refine Sc2 C (Aj c_ C C<|CloneI (xs:=num) (A6 hm) om) λaq ap=>?_
  refine Dr 11 C (Bp (cells:=[_,_,_,_]) ty43 Ec pl43 C C)<|Ds1 12<|Se1 C (A2 ty43 C) λay=>?_
  refine Ct kr ?_
  refine Ae 13 C (Dk ty43) ?_
  rintro _ _ ⟨rfl,rfl⟩
  refine Cu kr ?_
  refine Ah<|Am (S6 15 14 10 2 3 4 C C C C C C)<|Ap<|Af<|Gm C<|Gr (Bj Ab C)<|Gm C<|Ad<|A0<|B1 (σ:=Nat×(List Int)) (λs=>([(2,e7 u),(3,e7 v),(4,e7<|b'),(10,.pointer<|some ⟨b3,0,none⟩),(14,.slice aj (commonG nd es u v).length ai),(15,.pointer<|some ⟨ay,0,none⟩),(42,.slice aj (commonG nd es u v).length ai),(43,e7<|(((commonG nd es u v).length:Nat):Int)),(44,e7 ((s.1:Nat):Int))]:Env)) (λs=>e8 ay [e7 (nd'),.slice ga gn gc,e7<|n0+(b'*(((commonG nd es u v).length:Nat):Int)),.slice aq num.length ap] 43::vc 3 (.slice aq num.length ap) (s.2)::vc 3 (.slice aj (commonG nd es u v).length ai) (commonG nd es u v)::vc 22 (.slice au rs.length aw) (rs)::e8 b3 [e7 0,.slice none 0 0,e7 0,.slice none 0 0] 43::e8 b2 [e7 (nd'),.slice ga gn gc] 38::e8 b1 [e7 nd,.slice ea es.length ec,e7 n0,.slice na num.length nc] 43::(ownR 3 ar++I)) (λs=>(s.1<=(commonG nd es u v).length)/\(s.2=((commonG nd es u v).take s.1).foldl (incL b') num)) (λs=>(commonG nd es u v).length - s.1) (0,num) ⟨om,rfl⟩ (Aa C<|Aa C<|Aa C<|Aa C<|Aa C<|Aa C<|Aa C<|Aa C<|Aa Cd Bl) Bf ?_
  rintro ⟨k,out⟩ hp
  dsimp only at hp ⊢
  obtain ⟨hk,ho⟩:=hp
  have a5:out.length=num.length:=by rw [ho];exact incs_len _ _
  have Z:=λh:k<(commonG nd es u v).length=>hS _ (Ca (xs:=(commonG nd es u v)) (i:=(k:Int)) om om)
  have aa:=λh:k<(commonG nd es u v).length=>inc_fresh (b':=b') (num:=num) (common_nodup nd es u v) hS h
  rw [←ho] at aa
  have ab:=λh:k<(commonG nd es u v).length=>ao _ (Ca (xs:=num) (i:=e_ (commonG nd es u v) k) (Z h).1 (Z h).2)
  have ad:=fun (x:Int) (hx:0<=x/\x<(num.length:Int))=>incs_bd (b':=b') ((common_nodup nd es u v).sublist (List.take_sublist k _)) (λw hw=>hS w<|List.mem_of_mem_take hw) hb ao hx
  rw [←ho] at ad
  have a3:=ad u om
  have an:=ad v om
  have az:=inc1_bd (x:=v) (u:=u) (xs:=out) (d:=b'*((commonG nd es u v).length:Int)) (m:=64) om om a0 an om
  refine Af<|Gr (Bb C C)<|Ad<|Ap<|A8 C (λax=>?_)<|λax=>?_
  ·refine Aw (Ah<|Ap<|A0<|Af<|Gr (Az (α:=Int) (xs:=commonG nd es u v) Ab ef C C Bh (by first|omega|(have M:=Z om;omega))<|by first|omega|(have M:=Z om;omega)|(simp only [List.length_set];omega))<|Gr (Bw (xs:=commonG nd es u v) ef C Bh (by first|omega|(have M:=Z om;omega))<|by first|omega|(have M:=Z om;omega)|(simp only [List.length_set];omega))<|Ga C<|Ad<|Au<|Gf fld43_2 C<|Gl ty22 ?_)
   refine Gm C<|Gr (Az (α:=Int) (xs:=out) Ab ef C C Bh (by first|omega|(have M:=Z om;omega))<|by first|omega|(have M:=Z om;omega)|(simp only [List.length_set];omega))<|Gr (Bw (xs:=out) ef C Bh (by first|omega|(have M:=Z om;omega))<|by first|omega|(have M:=Z om;omega)|(simp only [List.length_set];omega))<|Gm C<|Gr (Cq C C<|by first|(unfold InR;omega)|(have h7:=aa om;have M:=ab om;unfold InR;omega))<|Gr (Az (α:=Int) (xs:=out) Ab ef C C Bh (by first|omega|(have M:=Z om;omega))<|by first|omega|(have M:=Z om;omega)|(simp only [List.length_set];omega))<|Ge0 (Cx (α:=Int) (xs:=out) (e:=3) (new:=(e_ out<|e_ (commonG nd es u v) k)+b') ef C C C (by first|omega|(have M:=Z om;omega)) (by first|omega|(have M:=Z om;omega)|(simp only [List.length_set];omega)) am) ?_
   exact Bo<|Al<|Ah<|Am (S9 2 3 4 10 14 15 42 43 44 C C C C C C C C C)<|Au<|Gr (Cq C C<|by first|(unfold InR;omega)|(have h7:=aa om;have M:=ab om;unfold InR;omega))<|Gm C<|Bo<|Cf ((k+1),(List.set out (e_ (commonG nd es u v) k).toNat ((e_ out<|e_ (commonG nd es u v) k)+b')))<|by dsimp only;exact ⟨om,(inc_next om ho)⟩
  refine Bx<|Ao<|Ao<|A9<|Ah<|Af<|Gf fld43_2 C<|Gl ty22 ?_
  refine Gm C<|Gr (Az (α:=Int) (xs:=out) Ab ef C C Bh (by first|omega|(have M:=Z om;omega))<|by first|omega|(have M:=Z om;omega)|(simp only [List.length_set];omega))<|Gr (Bw (xs:=out) ef C Bh (by first|omega|(have M:=Z om;omega))<|by first|omega|(have M:=Z om;omega)|(simp only [List.length_set];omega))<|Gm C<|Gm C<|Gr (Bj Ab C)<|Gr (Ep C C<|by first|(unfold InR;omega)|(have h7:=aa om;have M:=ab om;unfold InR;omega))<|Gr (Cq C C<|by first|(unfold InR;omega)|(have h7:=aa om;have M:=ab om;unfold InR;omega))<|Gr (Az (α:=Int) (xs:=out) Ab ef C C Bh (by first|omega|(have M:=Z om;omega))<|by first|omega|(have M:=Z om;omega)|(simp only [List.length_set];omega))<|Ge0 (Cx (α:=Int) (xs:=out) (e:=3) (new:=(e_ out u)+(b'*(((commonG nd es u v).length:Nat):Int))) ef C C C (by first|omega|(have M:=Z om;omega)) (by first|omega|(have M:=Z om;omega)|(simp only [List.length_set];omega)) am) ?_
  refine Ad<|Am (S5 3 4 10 14 15 C C C C C)<|Af<|Gf fld43_2 C<|Gl ty22 ?_
  refine Gm C<|Gr (Az (α:=Int) (xs:=List.set out (u).toNat ((e_ out u)+(b'*(((commonG nd es u v).length:Nat):Int)))) Ab ef C C Bh (by first|omega|(have M:=Z om;omega))<|by first|omega|(have M:=Z om;omega)|(simp only [List.length_set];omega))<|Gr (Bw (xs:=List.set out (u).toNat ((e_ out u)+(b'*(((commonG nd es u v).length:Nat):Int)))) ef C Bh (by first|omega|(have M:=Z om;omega))<|by first|omega|(have M:=Z om;omega)|(simp only [List.length_set];omega))<|Gm C<|Gm C<|Gr (Bj Ab C)<|Gr (Ep C C<|by first|(unfold InR;omega)|(have h7:=aa om;have M:=ab om;unfold InR;omega))<|Gr (Cq C C<|by first|(unfold InR;omega)|(have h7:=aa om;have M:=ab om;unfold InR;omega))<|Gr (Az (α:=Int) (xs:=List.set out (u).toNat ((e_ out u)+(b'*(((commonG nd es u v).length:Nat):Int)))) Ab ef C C Bh (by first|omega|(have M:=Z om;omega))<|by first|omega|(have M:=Z om;omega)|(simp only [List.length_set];omega))<|Ge0 (Cx (α:=Int) (xs:=List.set out (u).toNat ((e_ out u)+(b'*(((commonG nd es u v).length:Nat):Int)))) (e:=3) (new:=(e_ (List.set out (u).toNat ((e_ out u)+(b'*(((commonG nd es u v).length:Nat):Int)))) v)+(b'*(((commonG nd es u v).length:Nat):Int))) ef C C C (by first|omega|(have M:=Z om;omega)) (by first|omega|(have M:=Z om;omega)|(simp only [List.length_set];omega)) am) ?_
  refine Ad<|Am (S3 10 14 15 C C C)<|Af<|Gl4 ty43 ?_
  refine Gm C<|Gr (Bj Ab C)<|Ge0 (Dk ty43) ?_
  refine Ga C<|Ga C<|Ad<|Ay ?_
  have av:List.set (List.set out (u).toNat ((e_ out u)+(b'*(((commonG nd es u v).length:Nat):Int)))) (v).toNat ((e_ (List.set out (u).toNat ((e_ out u)+(b'*(((commonG nd es u v).length:Nat):Int)))) v)+(b'*(((commonG nd es u v).length:Nat):Int)))=triU b' (commonG nd es u v) u v num:=by rw [ho,show k=(commonG nd es u v).length by omega,List.take_length];rfl
  exact C4 C ty43 C C C mm C (vc 3 (.slice aq num.length ap) (triU b' (commonG nd es u v) u v num)::I) (by rw [←av];exact Bm) ⟨aq,ap,rfl,rfl⟩
 refine Se1 C (A2 ty43 C) λa1=>?_
 refine Ds1 10<|Sc2 C (Aj c_ C C<|CloneI (xs:=num) (A6 hm) om) λae ah=>?_
 refine Dr 11 C (Bp (cells:=[_,_,_,_]) ty43 Ec pl43 C C)<|Ct kr ?_
 refine Ae 13 C (Dk ty43) ?_
 rintro _ _ ⟨rfl,rfl⟩
 refine Cu kr ?_
 refine Ah<|Am (S6 15 14 10 2 3 4 C C C C C C)<|Ap<|Af<|Gm C<|Gr (Bj Ab C)<|Gm C<|Ad<|A0<|B1 (σ:=Nat×(List Int)) (λs=>([(2,e7 u),(3,e7 v),(4,e7<|b'),(10,.pointer<|some ⟨b3,0,none⟩),(14,.slice aj (commonG nd es u v).length ai),(15,.pointer<|some ⟨a1,0,none⟩),(42,.slice aj (commonG nd es u v).length ai),(43,e7<|(((commonG nd es u v).length:Nat):Int)),(44,e7 ((s.1:Nat):Int))]:Env)) (λs=>vc 3 (.slice ae num.length ah) (s.2)::e8 a1 [e7 (nd'),.slice ga gn gc,e7<|n0+(b'*(((commonG nd es u v).length:Nat):Int)),.slice ae num.length ah] 43::vc 3 (.slice aj (commonG nd es u v).length ai) (commonG nd es u v)::vc 22 (.slice au rs.length aw) (rs)::e8 b3 [e7 0,.slice none 0 0,e7 0,.slice none 0 0] 43::e8 b2 [e7 (nd'),.slice ga gn gc] 38::e8 b1 [e7 nd,.slice ea es.length ec,e7 n0,.slice na num.length nc] 43::(ownR 3 ar++I)) (λs=>(s.1<=(commonG nd es u v).length)/\(s.2=((commonG nd es u v).take s.1).foldl (incL b') num)) (λs=>(commonG nd es u v).length - s.1) (0,num) ⟨om,rfl⟩ (Aa C<|Aa C<|Aa C<|Aa C<|Aa C<|Aa C<|Aa C<|Aa C<|Aa Cd Bl) Bf ?_
 rintro ⟨k,out⟩ hp
 dsimp only at hp ⊢
 obtain ⟨hk,ho⟩:=hp
 have a5:out.length=num.length:=by rw [ho];exact incs_len _ _
 have Z:=λh:k<(commonG nd es u v).length=>hS _ (Ca (xs:=(commonG nd es u v)) (i:=(k:Int)) om om)
 have aa:=λh:k<(commonG nd es u v).length=>inc_fresh (b':=b') (num:=num) (common_nodup nd es u v) hS h
 rw [←ho] at aa
 have ab:=λh:k<(commonG nd es u v).length=>ao _ (Ca (xs:=num) (i:=e_ (commonG nd es u v) k) (Z h).1 (Z h).2)
 have ad:=fun (x:Int) (hx:0<=x/\x<(num.length:Int))=>incs_bd (b':=b') ((common_nodup nd es u v).sublist (List.take_sublist k _)) (λw hw=>hS w<|List.mem_of_mem_take hw) hb ao hx
 rw [←ho] at ad
 have a3:=ad u om
 have an:=ad v om
 have az:=inc1_bd (x:=v) (u:=u) (xs:=out) (d:=b'*((commonG nd es u v).length:Int)) (m:=64) om om a0 an om
 refine Af<|Gr (Bb C C)<|Ad<|Ap<|A8 C (λax=>?_)<|λax=>?_
 ·refine Aw (Ah<|Ap<|A0<|Af<|Gr (Az (α:=Int) (xs:=commonG nd es u v) Ab ef C C Bh (by first|omega|(have M:=Z om;omega))<|by first|omega|(have M:=Z om;omega)|(simp only [List.length_set];omega))<|Gr (Bw (xs:=commonG nd es u v) ef C Bh (by first|omega|(have M:=Z om;omega))<|by first|omega|(have M:=Z om;omega)|(simp only [List.length_set];omega))<|Ga C<|Ad<|Au<|Gf fld43_2 C<|Gl ty22 ?_)
  refine Gm C<|Gr (Az (α:=Int) (xs:=out) Ab ef C C Bh (by first|omega|(have M:=Z om;omega))<|by first|omega|(have M:=Z om;omega)|(simp only [List.length_set];omega))<|Gr (Bw (xs:=out) ef C Bh (by first|omega|(have M:=Z om;omega))<|by first|omega|(have M:=Z om;omega)|(simp only [List.length_set];omega))<|Gm C<|Gr (Cq C C<|by first|(unfold InR;omega)|(have h7:=aa om;have M:=ab om;unfold InR;omega))<|Gr (Az (α:=Int) (xs:=out) Ab ef C C Bh (by first|omega|(have M:=Z om;omega))<|by first|omega|(have M:=Z om;omega)|(simp only [List.length_set];omega))<|Ge0 (Cx (α:=Int) (xs:=out) (e:=3) (new:=(e_ out<|e_ (commonG nd es u v) k)+b') ef C C C (by first|omega|(have M:=Z om;omega)) (by first|omega|(have M:=Z om;omega)|(simp only [List.length_set];omega)) am) ?_
  exact Bo<|Al<|Ah<|Am (S9 2 3 4 10 14 15 42 43 44 C C C C C C C C C)<|Au<|Gr (Cq C C<|by first|(unfold InR;omega)|(have h7:=aa om;have M:=ab om;unfold InR;omega))<|Gm C<|Bo<|Cf ((k+1),(List.set out (e_ (commonG nd es u v) k).toNat ((e_ out<|e_ (commonG nd es u v) k)+b')))<|by dsimp only;exact ⟨om,(inc_next om ho)⟩
 refine Bx<|Ao<|Ao<|A9<|Ah<|Af<|Gf fld43_2 C<|Gl ty22 ?_
 refine Gm C<|Gr (Az (α:=Int) (xs:=out) Ab ef C C Bh (by first|omega|(have M:=Z om;omega))<|by first|omega|(have M:=Z om;omega)|(simp only [List.length_set];omega))<|Gr (Bw (xs:=out) ef C Bh (by first|omega|(have M:=Z om;omega))<|by first|omega|(have M:=Z om;omega)|(simp only [List.length_set];omega))<|Gm C<|Gm C<|Gr (Bj Ab C)<|Gr (Ep C C<|by first|(unfold InR;omega)|(have h7:=aa om;have M:=ab om;unfold InR;omega))<|Gr (Cq C C<|by first|(unfold InR;omega)|(have h7:=aa om;have M:=ab om;unfold InR;omega))<|Gr (Az (α:=Int) (xs:=out) Ab ef C C Bh (by first|omega|(have M:=Z om;omega))<|by first|omega|(have M:=Z om;omega)|(simp only [List.length_set];omega))<|Ge0 (Cx (α:=Int) (xs:=out) (e:=3) (new:=(e_ out u)+(b'*(((commonG nd es u v).length:Nat):Int))) ef C C C (by first|omega|(have M:=Z om;omega)) (by first|omega|(have M:=Z om;omega)|(simp only [List.length_set];omega)) am) ?_
 refine Ad<|Am (S5 3 4 10 14 15 C C C C C)<|Af<|Gf fld43_2 C<|Gl ty22 ?_
 refine Gm C<|Gr (Az (α:=Int) (xs:=List.set out (u).toNat ((e_ out u)+(b'*(((commonG nd es u v).length:Nat):Int)))) Ab ef C C Bh (by first|omega|(have M:=Z om;omega))<|by first|omega|(have M:=Z om;omega)|(simp only [List.length_set];omega))<|Gr (Bw (xs:=List.set out (u).toNat ((e_ out u)+(b'*(((commonG nd es u v).length:Nat):Int)))) ef C Bh (by first|omega|(have M:=Z om;omega))<|by first|omega|(have M:=Z om;omega)|(simp only [List.length_set];omega))<|Gm C<|Gm C<|Gr (Bj Ab C)<|Gr (Ep C C<|by first|(unfold InR;omega)|(have h7:=aa om;have M:=ab om;unfold InR;omega))<|Gr (Cq C C<|by first|(unfold InR;omega)|(have h7:=aa om;have M:=ab om;unfold InR;omega))<|Gr (Az (α:=Int) (xs:=List.set out (u).toNat ((e_ out u)+(b'*(((commonG nd es u v).length:Nat):Int)))) Ab ef C C Bh (by first|omega|(have M:=Z om;omega))<|by first|omega|(have M:=Z om;omega)|(simp only [List.length_set];omega))<|Ge0 (Cx (α:=Int) (xs:=List.set out (u).toNat ((e_ out u)+(b'*(((commonG nd es u v).length:Nat):Int)))) (e:=3) (new:=(e_ (List.set out (u).toNat ((e_ out u)+(b'*(((commonG nd es u v).length:Nat):Int)))) v)+(b'*(((commonG nd es u v).length:Nat):Int))) ef C C C (by first|omega|(have M:=Z om;omega)) (by first|omega|(have M:=Z om;omega)|(simp only [List.length_set];omega)) am) ?_
 refine Ad<|Am (S3 10 14 15 C C C)<|Af<|Gl4 ty43 ?_
 refine Gm C<|Gr (Bj Ab C)<|Ge0 (Dk ty43) ?_
 refine Ga C<|Ga C<|Ad<|Ay ?_
 have av:List.set (List.set out (u).toNat ((e_ out u)+(b'*(((commonG nd es u v).length:Nat):Int)))) (v).toNat ((e_ (List.set out (u).toNat ((e_ out u)+(b'*(((commonG nd es u v).length:Nat):Int)))) v)+(b'*(((commonG nd es u v).length:Nat):Int)))=triU b' (commonG nd es u v) u v num:=by rw [ho,show k=(commonG nd es u v).length by omega,List.take_length];rfl
 exact C4 C ty43 C C C mm C (vc 3 (.slice ae num.length ah) (triU b' (commonG nd es u v) u v num)::I) (by rw [←av];exact Bm) ⟨ae,ah,rfl,rfl⟩
theorem indP_bd(f:Pt->Bool):∀l:List Pt,0<=(l.map λp=>ind (f p)).sum/\(l.map λp=>ind (f p)).sum<=(l.length:Int)
 |[]=>by simp
 |p::l=>by
  have M:=indP_bd f l
  have Z:0<=ind (f p)/\ind (f p)<=1:=by unfold ind;split<;>omega
  rw [List.map_cons,List.sum_cons,List.length_cons];omega
section
variable {nd u v:Int}{es es':List Pt}
theorem triL_bd(Z:GrOk nd es):∀x∈triL nd es,0<=x/\x<=1000000:=λx M=>by
 obtain ⟨i,hi,rfl⟩:=mem_atN M
 rw [triL_len] at hi
 rw [triL_at hi]
 have h1:=indP_bd (λp=>decide<|(i:Int)∈commonG nd es p.u p.v) es
 have h2:=edges_le Z
 unfold triW;omega
theorem tri_ins(h:OneE nd es es' u v):triS nd es / 3+1*((commonG nd es u v).length:Int)=triS nd es' / 3:=by have:=h.tri.1;omega
theorem tri_del(h:OneE nd es es' u v):triS nd es' / 3+(-1)*((commonG nd es' u v).length:Int)=triS nd es / 3:=by have:=h.tri.1;rw [h.common];omega
theorem triU_ins(h:OneE nd es es' u v):triU 1 (commonG nd es u v) u v (triL nd es)=triL nd es':=h.tri_comes.1
theorem triU_del(h:OneE nd es es' u v):triU (-1) (commonG nd es' u v) u v (triL nd es')=triL nd es:=by rw [h.common];exact h.tri_comes.2
end
theorem TV_ok{κ:Ctx}{I:List Item}{nd:Int}{M:Option Addr}{es:List Pt}(hl:Sl κ I (.slice ea es.length ec) es)(hm:Sl κ I (.slice M (triL nd es).length nc) (triL nd es))(hG:GrOk nd es)  :
    eu prog κ 299 [.agg #[e7 nd,.slice ea es.length ec,e7<|triS nd es / 3,.slice M (triL nd es).length nc]] I (λr J=>r = .bool true/\I=J):=by
 refine Ce1 Tryz.func299 C C ?_
 refine Af<|Ge1 (Bc (cs:=[_,_,_,_]) C C C) λb1=>Ga C<|Ad<|Ap<|Af<|Gf fld43_0 C<|Gl2 ty38 ?_
 refine G.e (Aj c_ C C<|CheckG_yes (nd:=nd) (A6 hl) hG) ?_
 rintro _ _ ⟨_,_,⟨rfl,rfl⟩,rfl,rfl⟩
 refine Gr (Bn C C)<|Ad<|A8 C (λc8=>?_)<|λc8=>?_
 ·exact Af<|Ga C<|Ad<|Ay<|Aq<|A1 C C I Av ⟨by first|rfl|(simp;done)|exact absurd C asm,rfl⟩
 refine Aw<|Ah<|Af<|Gf fld43_0 C<|Gl2 ty38 ?_
 refine G.e (Aj c_ C C<|CountsL_ok (nd:=nd) (A6 hl) hG) ?_
 rintro _ _ ⟨_,_,⟨aa,ab,rfl,rfl⟩,rfl,rfl⟩
 refine Gm C<|Gr (Ak C C)<|Gr (Ak C C)<|Ga C<|Ga C<|Ad<|Am (S3 4 3 1 C C C)<|Af<|Gf fld43_1 C<|Gl ef ?_
 refine Gm C<|Gr (Bs C C)<|Gm C<|Br (d:=19) C (λZ=>?_)<|λZ=>?_
 ·refine e9 (Ac fld43_2 C) (e9 (A7 ty22) ?_)
  refine e9 (Ai C)<|Dm (Ch C C C) (Aj c_ C C<|EqN_ok (xs:=triL nd es) (ys:=triL nd es) (A6 hm) Bh) ?_
  rintro _ _ ⟨_,_,⟨rfl,rfl⟩,rfl,rfl⟩
  exact Gr (A3 C C)<|Ga C<|Ad<|Am (S1 2 C)<|Ay<|A1 C C I Av ⟨by first|rfl|(simp;done)|exact absurd C asm,rfl⟩
 exact eb<|eb<|eb<|eb<|Gr (Bd C C)<|Ga C<|Ad<|Am (S1 2 C)<|Ay<|A1 C C I Av ⟨by first|rfl|(simp;done)|exact absurd C asm,rfl⟩
theorem TInsert_ok{κ:Ctx}{I:List Item}{nd:Int}{es:List Pt}(hl:Sl κ I (.slice ea es.length ec) es)(hm:Sl κ I (.slice na (triL nd es).length nc) (triL nd es))(Z:GrOk nd es){u v:Int}(he:endsP nd u v)(hn:edgeP u v∉es):eu prog κ 297 [.agg #[e7 nd,.slice ea es.length ec,e7 (triS nd es / 3),.slice na (triL nd es).length nc],e7 u,e7 v] I (λr J=>∃(ga:Option Addr) (gc:Nat) (a:Option Addr) (c:Nat) (w:Value),r = .tuple #[.agg #[e7 nd,.slice ga (insB Pt.lt es (edgeP u v)).length gc,e7 (triS nd (insB Pt.lt es (edgeP u v)) / 3),.slice a (triL nd (insB Pt.lt es (edgeP u v))).length c],w,e7 0]/\J=vc 3 (.slice a (triL nd (insB Pt.lt es (edgeP u v))).length c) (triL nd (insB Pt.lt es (edgeP u v)))::vc 105 (.slice ga (insB Pt.lt es (edgeP u v)).length gc) (insB Pt.lt es (edgeP u v))::I):=by
 have an:=Z.rng
 have aj:=he
 unfold endsP at aj
 have ao:=triL_len nd es
 have ap:=triS_bd Z
 refine Ce3 Tryz.func297 C C ?_
 refine Af<|Ge1 (Bc (cs:=[_,_,_,_]) C C C) λb1=>Ge1 (A2 ty43 C) λb2=>Ga C<|Ga C<|Ad<|Ap<|Af<|Gl4 ty43 ?_
 refine G.e (Aj c_ C C<|TV_ok (nd:=nd) (A6 hl) (A6 hm) Z) ?_
 rintro _ _ ⟨_,_,⟨rfl,rfl⟩,rfl,rfl⟩
 refine Gr (Cr C)<|Ad<|Dw C<|Aw<|Ah<|Af<|Gf fld43_0 C<|Gl2 ty38 ?_
 refine Gm C<|Gm C<|G.e (Aj c_ C C<|AddG_yes (nd:=nd) (u:=u) (v:=v) (A6 hl) (add_zero Z he hn)<|by have:=edges_le Z;omega) ?_
 rintro _ _ ⟨_,_,⟨M,ab,rfl,rfl⟩,rfl,rfl⟩
 refine Gm C<|Gr (Ak C C)<|Gr (Ak C C)<|Ge1 (A2 ty38 C) λb5=>Ge0 (Da ty38) ?_
 refine Ga C<|Ad<|Am (S6 10 9 6 3 1 2 C C C C C C)<|Ap<|Af<|Gm C<|Gr (Bn C C)<|Ad<|A8 C (λak=>?_)<|λak=>?_
 ·refine Af (Gr (Bp (cells:=[_,_,_,_]) ty43 Ec pl43 C C)<|Gm C<|Ge0 (Dk ty43) ?_)
  refine Ga C<|Ga C<|Ad<|Ay<|Aq ?_
  exact absurd rfl asm
 refine Aw<|Ah<|Af<|Gl4 ty43 ?_
 refine Gl2 ty38 ?_
 refine Gm C<|Gm C<|G.e (Aj c_ C C<|TChg_ok (nd:=nd) (nd':=nd) (u:=u) (v:=v) (b':=1) (n0:=triS nd es / 3) (ga:=M) (gn:=((insB Pt.lt es<|edgeP u v)).length) (gc:=ab) (A6 hl) (A6 hm) Z (by unfold NodeR;omega) (by unfold NodeR;omega) om om (triL_bd Z) om dc) ?_
 rintro _ _ ⟨_,_,⟨ad,ae,rfl,rfl⟩,rfl,rfl⟩
 refine Gr (Ak C C)<|Gr (Ak C C)<|Gr (Ak C C)<|Ge0 (Dk ty43) ?_
 refine Ga C<|Ga C<|Ad<|Am (S3 8 7 6 C C C)<|Ay ?_
 have aa:=triU_ins (OneE.add Z he hn)
 have ai:=tri_ins (OneE.add Z he hn)
 have ah:(triL nd<|insB Pt.lt es<|edgeP u v).length=(triL nd es).length:=by rw [triL_len,triL_len]
 exact C4 C ty43 C C C mm C (vc 3 (.slice ad (triL nd<|insB Pt.lt es<|edgeP u v).length ae) (triL nd<|insB Pt.lt es<|edgeP u v)::vc 105 (.slice M (insB Pt.lt es<|edgeP u v).length ab) (insB Pt.lt es<|edgeP u v)::I) (by rw [←aa,aa,ah,←aa];exact Bm) ⟨M,ab,ad,ae,e7 ((commonG nd es u v).length:Int),by rw [←ai,ah];rfl,rfl⟩
theorem TDelete_ok{κ:Ctx}{I:List Item}{nd:Int}{es:List Pt}(hl:Sl κ I (.slice ea es.length ec) es)(hm:Sl κ I (.slice na (triL nd es).length nc) (triL nd es))(Z:GrOk nd es){u v:Int}(he:endsP nd u v)(hn:edgeP u v∈es):eu prog κ 298 [.agg #[e7 nd,.slice ea es.length ec,e7 (triS nd es / 3),.slice na (triL nd es).length nc],e7 u,e7 v] I (λr J=>∃(ga:Option Addr) (gc:Nat) (a:Option Addr) (c:Nat) (w:Value),r = .tuple #[.agg #[e7 nd,.slice ga (without es (edgeP u v)).length gc,e7 (triS nd (without es (edgeP u v)) / 3),.slice a (triL nd (without es (edgeP u v))).length c],w,e7 0]/\J=vc 3 (.slice a (triL nd (without es (edgeP u v))).length c) (triL nd (without es (edgeP u v)))::vc 105 (.slice ga (without es (edgeP u v)).length gc) (without es (edgeP u v))::I):=by
 have an:=Z.rng
 have aj:=he
 unfold endsP at aj
 have ao:=triL_len nd es
 have ap:=triS_bd Z
 refine Ce3 Tryz.func298 C C ?_
 refine Af<|Ge1 (Bc (cs:=[_,_,_,_]) C C C) λb1=>Ge1 (A2 ty43 C) λb2=>Ga C<|Ga C<|Ad<|Ap<|Af<|Gl4 ty43 ?_
 refine G.e (Aj c_ C C<|TV_ok (nd:=nd) (A6 hl) (A6 hm) Z) ?_
 rintro _ _ ⟨_,_,⟨rfl,rfl⟩,rfl,rfl⟩
 refine Gr (Cr C)<|Ad<|Dw C<|Aw<|Ah<|Af<|Gf fld43_0 C<|Gl2 ty38 ?_
 refine Gm C<|Gm C<|Gc2 (Aj c_ C C<|RemG_yes (nd:=nd) (u:=u) (v:=v) (A6 hl) (rem_zero Z he hn)<|by have:=edges_le Z;omega) λM ab=>?_
 refine Gm C<|Gr (Ak C C)<|Gr (Ak C C)<|Ge1 (A2 ty38 C) λb5=>Ge0 (Da ty38) ?_
 refine Ga C<|Ad<|Am (S6 10 9 6 3 1 2 C C C C C C)<|Ap<|Af<|Gm C<|Gr (Bn C C)<|Ad<|A8 C (λak=>?_)<|λak=>?_
 ·refine Af (Gr (Bp (cells:=[_,_,_,_]) ty43 Ec pl43 C C)<|Gm C<|Ge0 (Dk ty43) ?_)
  refine Ga C<|Ga C<|Ad<|Ay<|Aq ?_
  exact absurd rfl asm
 refine Aw<|Ah<|Af<|Gl4 ty43 ?_
 refine Gl2 ty38 ?_
 refine Gm C<|Gm C<|G.e (Aj c_ C C<|TChg_ok (nd:=nd) (nd':=nd) (u:=u) (v:=v) (b':= -1) (n0:=triS nd es / 3) (ga:=M) (gn:=((without es<|edgeP u v)).length) (gc:=ab) (A6 hl) (A6 hm) Z (by unfold NodeR;omega) (by unfold NodeR;omega) om om (triL_bd Z) om dc) ?_
 rintro _ _ ⟨_,_,⟨ad,ae,rfl,rfl⟩,rfl,rfl⟩
 refine Gr (Ak C C)<|Gr (Ak C C)<|Gr (Ak C C)<|Ge0 (Dk ty43) ?_
 refine Ga C<|Ga C<|Ad<|Am (S3 8 7 6 C C C)<|Ay ?_
 have aa:=triU_del (OneE.rem Z he hn)
 have ai:=tri_del (OneE.rem Z he hn)
 have ah:(triL nd<|without es<|edgeP u v).length=(triL nd es).length:=by rw [triL_len,triL_len]
 exact C4 C ty43 C C C mm C (vc 3 (.slice ad (triL nd<|without es<|edgeP u v).length ae) (triL nd<|without es<|edgeP u v)::vc 105 (.slice M (without es<|edgeP u v).length ab) (without es<|edgeP u v)::I) (by rw [←aa,aa,ah,←aa];exact Bm) ⟨M,ab,ad,ae,e7 ((commonG nd es u v).length:Int),by rw [←ai,ah];rfl,rfl⟩
theorem TCopied_ok{κ:Ctx}{I:List Item}{nd:Int}{es:List Pt}(hl:Sl κ I (.slice ea es.length ec) es)(hb:es.length<=1000000):eu prog κ 88 [.agg #[e7 nd,.slice ea es.length ec]] I (λr J=>∃(a:Option Addr) (c:Nat),r = .agg #[e7 nd,.slice a es.length c]/\J=vc 105 (.slice a es.length c) es::I):=by
 refine Ce1 Tryz.func88 C C ?_
 refine Af<|Ge1 (Bc (cs:=[_,_]) C C C) λb1=>Ge1 (A2 ty38 C) λb2=>Ad<|Af<|Gf fld38_1 C<|Gl ty36 ?_
 refine Gc2 (Aj c_ C C<|CloneE (xs:=es) (A6 hl) om) λM Z=>?_
 refine Gf fld38_1 C<|Ge0 (Es2_1 ty36) ?_
 refine Ad<|Af<|Gl2 ty38 ?_
 refine Ge0 (Da ty38) ?_
 exact Ad<|Ay<|E5 C ty38 C mm C (vc 105 (.slice M es.length Z) es::I) Bm ⟨M,Z,rfl,rfl⟩
theorem TOpen_ok{κ:Ctx}{I:List Item}{nd:Int}{es:List Pt}(hl:Sl κ I (.slice ea es.length ec) es)(hG:GrOk nd es):eu prog κ 43 [.agg #[e7 nd,.slice ea es.length ec]] I (λr J=>∃(ga:Option Addr) (gc:Nat) (a:Option Addr) (c:Nat),r = .tuple #[.agg #[e7 nd,.slice ga es.length gc,e7 (triS nd es / 3),.slice a (triL nd es).length c],e7 0]/\J=vc 3 (.slice a (triL nd es).length c) (triL nd es)::vc 105 (.slice ga es.length gc) es::I):=by
 have ad:=edges_le hG
 refine Ce1 Tryz.func43 C C ?_
 refine Af<|Ge1 (Bc (cs:=[_,_]) C C C) λb1=>Ge1 (A2 ty43 C) λb2=>Ga C<|Ad<|Ap<|Af<|Gl2 ty38 ?_
 refine G.e (Aj c_ C C<|CheckG_yes (nd:=nd) (A6 hl) hG) ?_
 rintro _ _ ⟨_,_,⟨rfl,rfl⟩,rfl,rfl⟩
 refine Ga C<|Ad<|Af<|Gm C<|Gr (Bn C C)<|Ad<|A8 C (λc10=>?_)<|λc10=>?_
 ·refine Af (Gr (Bp (cells:=[_,_,_,_]) ty43 Ec pl43 C C)<|Gm C<|Ge0 (Dk ty43) ?_)
  refine Ga C<|Ad<|Ay<|Aq ?_
  exact absurd rfl asm
 refine Aw<|Ah<|Af<|Gl2 ty38 ?_
 refine G.e (Aj c_ C C<|CountsL_ok (nd:=nd) (A6 hl) hG) ?_
 rintro _ _ ⟨_,_,⟨aa,ab,rfl,rfl⟩,rfl,rfl⟩
 refine Gm C<|Gr (Ak C C)<|Gr (Ak C C)<|Ga C<|Ga C<|Ad<|Am (S4 6 5 2 1 C C C C)<|Af<|Gl2 ty38 ?_
 refine Gc2 (Aj c_ C C<|TCopied_ok (nd:=nd) (A6 hl) om) λZ M=>?_
 refine Gm C<|Gm C<|Gr (Bp (cells:=[_,_,_,_]) ty43 Ec pl43 C C)<|Ge0 (Dk ty43) ?_
 exact Ga C<|Ad<|Ay<|C0 C ty43 C C mm C (vc 3 (.slice aa (triL nd es).length ab) (triL nd es)::vc 105 (.slice Z es.length M) es::I) Bm ⟨Z,M,aa,ab,rfl,rfl⟩
variable {κ:Ctx}{I:List Item}
theorem QV_ok{nd:Int}{es:List Pt}(Z:Sl κ I (.slice ea es.length ec) es)(hm:Sl κ I (.slice na (quadL nd es).length nc) (quadL nd es))(M:GrOk nd es)(hT:TabRd κ I 0 tzCells):eu prog κ 306 [.agg #[e7 nd,.slice ea es.length ec,e7 (wedgeC nd es),e7 (quadC nd es),.slice na (quadL nd es).length nc]] I (λr J=>r = .bool true/\I=J):=by
 have ad:=M.rng
 refine Ce1 Tryz.func306 C C ?_
 refine Af<|Ge1 (Bc (cs:=[_,_,_,_,_]) C C C) λb1=>Ga C<|Ad<|Ap<|Af<|Gf fld45_0 C<|Gl2 ty38 ?_
 refine G.e (Aj c_ C C<|CheckG_yes (nd:=nd) (A6 Z) M) ?_
 rintro _ _ ⟨_,_,⟨rfl,rfl⟩,rfl,rfl⟩
 refine Gr (Bn C C)<|Ad<|A8 C (λc8=>?_)<|λc8=>?_
 ·exact Af<|Ga C<|Ad<|Ay<|Aq<|A1 C C I Av ⟨by first|rfl|(simp;done)|exact absurd C asm,rfl⟩
 refine Aw<|Ah<|Af<|Gf fld45_0 C<|Gl2 ty38 ?_
 refine Gc2 (Aj c_ C C<|QCounts_ok (nd:=nd) (A6 Z) M<|Bg hT Av) λae ah=>?_
 refine Gm C<|Gr (Ak C C)<|Gr (Ak C C)<|Ga C<|Ga C<|Ad<|Am (S3 4 3 1 C C C)<|Ap<|Bq mixed<|Ee 19<|Dr 0 C (Ac fld45_1 C)<|Dr 1 C (A7 ef) ?_
 refine Dr 2 C (Ac fld45_0 C)<|Dr 3 C (A5 (vs:=[_,_]) ty38) ?_
 refine Ds1 4<|Sc0 C (Aj c_ C C<|Wedges_ok (nd:=nd) (A6 Z) om) ?_
 refine Dr 5 C (Bs C C)<|Dr 6 C (Ai C)<|Ey (d:=21) C (λab=>?_)<|λab=>?_
 ·refine Dro 7 C (Ac fld45_2 C) (Dro 8 C (A7 ef) ?_)
  refine Dro 9 C (Ai C)<|Dro 10 C (Bs C C)<|Dr 11 C (A3 C C)<|Dr 12 C (Ai C)<|Ey (d:=27) C (λaa=>?_)<|λaa=>?_
  ·refine Dro 13 C (Ac fld45_3 C) (Dro 14 C (A7 ty22) ?_)
   refine Dro 15 C (Ai C)<|Ds1 16<|Sc0 C (Aj c_ C C<|EqN_ok (xs:=quadL nd es) (ys:=quadL nd es) (A6 hm) Bh) ?_
   exact Dr 17 C (A3 C C)<|Dr 18 C (Ba C)<|Dz<|Ah<|Am (S1 2 C)<|Ay<|A1 C C I Av ⟨by first|rfl|(simp;done)|exact absurd C asm,rfl⟩
  exact Dpo 13 C<|Dpo 14 C<|Dpo 15 C<|Dpo 16 C<|Dr 17 C (Bd C C)<|Dr 18 C (Ba C)<|Dz<|Ah<|Am (S1 2 C)<|Ay<|A1 C C I Av ⟨by first|rfl|(simp;done)|exact absurd C asm,rfl⟩
 exact Dpo 7 C<|Dpo 8 C<|Dpo 9 C<|Dpo 10 C<|Dr 11 C (Bd C C)<|Dr 12 C (Ai C)<|Dpo 13 C<|Dpo 14 C<|Dpo 15 C<|Dpo 16 C<|Dr 17 C (Bd C C)<|Dr 18 C (Ba C)<|Dz<|Ah<|Am (S1 2 C)<|Ay<|A1 C C I Av ⟨by first|rfl|(simp;done)|exact absurd C asm,rfl⟩
theorem QInsert_ok{nd:Int}{es:List Pt}(hl:Sl κ I (.slice ea es.length ec) es)(hm:Sl κ I (.slice na (quadL nd es).length nc) (quadL nd es))(Z:GrOk nd es){u v:Int}(he:endsP nd u v)(hn:edgeP u v∉es)(hT:TabRd κ I 0 tzCells):eu prog κ 304 [.agg #[e7 nd,.slice ea es.length ec,e7 (wedgeC nd es),e7 (quadC nd es),.slice na (quadL nd es).length nc],e7 u,e7 v] I (λr J=>∃(ga:Option Addr) (gc:Nat) (a:Option Addr) (c:Nat) (w:Value),r = .tuple #[.agg #[e7 nd,.slice ga (insB Pt.lt es (edgeP u v)).length gc,e7 (wedgeC nd (insB Pt.lt es (edgeP u v))),e7 (quadC nd (insB Pt.lt es (edgeP u v))),.slice a (quadL nd (insB Pt.lt es (edgeP u v))).length c],w,e7 0]/\J=vc 3 (.slice a (quadL nd (insB Pt.lt es (edgeP u v))).length c) (quadL nd (insB Pt.lt es (edgeP u v)))::vc 105 (.slice ga (insB Pt.lt es (edgeP u v)).length gc) (insB Pt.lt es (edgeP u v))::I):=by
 have ao:=Z.rng
 have aj:=he
 unfold endsP at aj
 have ar:=quadL_len nd es
 have ap:=quadC_bd Z
 have aq:=wedgeC_bd Z
 refine Ce3 Tryz.func304 C C ?_
 refine Af<|Ge1 (Bc (cs:=[_,_,_,_,_]) C C C) λb1=>Ge1 (A2 ty45 C) λb2=>Ga C<|Ga C<|Ad<|Ap<|Af<|Gr (A5 (vs:=[_,_,_,_,_]) ty45) ?_
 refine Gc0 (Aj c_ C C<|QV_ok (nd:=nd) (A6 hl) (A6 hm) Z<|Bg hT Av) ?_
 refine Gr (Cr C)<|Ad<|Dw C<|Aw<|Ah<|Af<|Gf fld45_0 C<|Gl2 ty38 ?_
 refine Gm C<|Gm C<|G.e (Aj c_ C C<|AddG_yes (nd:=nd) (u:=u) (v:=v) (A6 hl) (add_zero Z he hn)<|by have:=edges_le Z;omega) ?_
 rintro _ _ ⟨_,_,⟨M,aa,rfl,rfl⟩,rfl,rfl⟩
 refine Gm C<|Gr (Ak C C)<|Gr (Ak C C)<|Ge1 (A2 ty38 C) λb5=>Ge0 (Da ty38) ?_
 refine Ga C<|Ad<|Am (S6 10 9 6 3 1 2 C C C C C C)<|Ap<|Af<|Gm C<|Gr (Bn C C)<|Ad<|A8 C (λan=>?_)<|λan=>?_
 ·refine Af (Gr (Bp (cells:=[_,_,_,_,_]) ty45 Dj pl45 C C)<|Gm C<|Ge0 (E4 ty45) ?_)
  refine Ga C<|Ga C<|Ad<|Ay<|Aq ?_
  exact absurd rfl asm
 refine Aw<|Ah<|Af<|Gr (A5 (vs:=[_,_,_,_,_]) ty45) ?_
 refine Gl2 ty38 ?_
 refine Gf fld45_0 C<|Gl2 ty38 ?_
 refine Gm C<|Gm C<|G.e (Aj c_ C C<|QChg_ok (nd:=nd) (nd':=nd) (nd0:=nd) (u:=u) (v:=v) (b':=1) (w0:=wedgeC nd es) (n0:=quadC nd es) (ga:=M) (gn:=((insB Pt.lt es<|edgeP u v)).length) (gc:=aa) (A6 hl) (A6 hm) Z (by unfold NodeR;omega) (by unfold NodeR;omega) om (quadL_bd Z) om om dc<|Bg hT Av) ?_
 rintro _ _ ⟨_,_,⟨ab,ad,rfl,rfl⟩,rfl,rfl⟩
 refine Gr (Ak C C)<|Gr (Ak C C)<|Gr (Ak C C)<|Ge0 (E4 ty45) ?_
 refine Ga C<|Ga C<|Ad<|Am (S3 8 7 6 C C C)<|Ay ?_
 have ak:=(OneE.add Z he hn).quad_comes.1
 obtain ⟨ai,ah⟩:=quad_ins (OneE.add Z he hn)
 have ae:(quadL nd<|insB Pt.lt es<|edgeP u v).length=(quadL nd es).length:=by rw [quadL_len,quadL_len]
 exact C4 C ty45 C C C mm C (vc 3 (.slice ab (quadL nd<|insB Pt.lt es<|edgeP u v).length ad) (quadL nd<|insB Pt.lt es<|edgeP u v)::vc 105 (.slice M (insB Pt.lt es<|edgeP u v).length aa) (insB Pt.lt es<|edgeP u v)::I) (by rw [ae,←ak];exact Bm) ⟨M,aa,ab,ad,_,by rw [←ai,←ah,ae]<;>rfl,rfl⟩
theorem QDelete_ok{nd:Int}{es:List Pt}(hl:Sl κ I (.slice ea es.length ec) es)(hm:Sl κ I (.slice na (quadL nd es).length nc) (quadL nd es))(Z:GrOk nd es){u v:Int}(he:endsP nd u v)(hn:edgeP u v∈es)(hT:TabRd κ I 0 tzCells):eu prog κ 305 [.agg #[e7 nd,.slice ea es.length ec,e7 (wedgeC nd es),e7 (quadC nd es),.slice na (quadL nd es).length nc],e7 u,e7 v] I (λr J=>∃(ga:Option Addr) (gc:Nat) (a:Option Addr) (c:Nat) (w:Value),r = .tuple #[.agg #[e7 nd,.slice ga (without es (edgeP u v)).length gc,e7 (wedgeC nd (without es (edgeP u v))),e7 (quadC nd (without es (edgeP u v))),.slice a (quadL nd (without es (edgeP u v))).length c],w,e7 0]/\J=vc 3 (.slice a (quadL nd (without es (edgeP u v))).length c) (quadL nd (without es (edgeP u v)))::vc 105 (.slice ga (without es (edgeP u v)).length gc) (without es (edgeP u v))::I):=by
 have ao:=Z.rng
 have aj:=he
 unfold endsP at aj
 have ar:=quadL_len nd es
 have ap:=quadC_bd Z
 have aq:=wedgeC_bd Z
 refine Ce3 Tryz.func305 C C ?_
 refine Af<|Ge1 (Bc (cs:=[_,_,_,_,_]) C C C) λb1=>Ge1 (A2 ty45 C) λb2=>Ga C<|Ga C<|Ad<|Ap<|Af<|Gr (A5 (vs:=[_,_,_,_,_]) ty45) ?_
 refine Gc0 (Aj c_ C C<|QV_ok (nd:=nd) (A6 hl) (A6 hm) Z<|Bg hT Av) ?_
 refine Gr (Cr C)<|Ad<|Dw C<|Aw<|Ah<|Af<|Gf fld45_0 C<|Gl2 ty38 ?_
 refine Gm C<|Gm C<|Gc2 (Aj c_ C C<|RemG_yes (nd:=nd) (u:=u) (v:=v) (A6 hl) (rem_zero Z he hn)<|by have:=edges_le Z;omega) λM aa=>?_
 refine Gm C<|Gr (Ak C C)<|Gr (Ak C C)<|Ge1 (A2 ty38 C) λb5=>Ge0 (Da ty38) ?_
 refine Ga C<|Ad<|Am (S6 10 9 6 3 1 2 C C C C C C)<|Ap<|Af<|Gm C<|Gr (Bn C C)<|Ad<|A8 C (λan=>?_)<|λan=>?_
 ·refine Af (Gr (Bp (cells:=[_,_,_,_,_]) ty45 Dj pl45 C C)<|Gm C<|Ge0 (E4 ty45) ?_)
  refine Ga C<|Ga C<|Ad<|Ay<|Aq ?_
  exact absurd rfl asm
 refine Aw<|Ah<|Af<|Gr (A5 (vs:=[_,_,_,_,_]) ty45) ?_
 refine Gl2 ty38 ?_
 refine Gl2 ty38 ?_
 refine Gm C<|Gm C<|G.e (Aj c_ C C<|QChg_ok (nd:=nd) (nd':=nd) (nd0:=nd) (u:=u) (v:=v) (b':= -1) (w0:=wedgeC nd es) (n0:=quadC nd es) (ga:=M) (gn:=((without es<|edgeP u v)).length) (gc:=aa) Bh (A6 hm) (OneE.rem Z he hn).ok (by unfold NodeR;omega) (by unfold NodeR;omega) om (quadL_bd Z) om om dc (Bg hT Av)) ?_
 rintro _ _ ⟨_,_,⟨ab,ad,rfl,rfl⟩,rfl,rfl⟩
 refine Gr (Ak C C)<|Gr (Ak C C)<|Gr (Ak C C)<|Ge0 (E4 ty45) ?_
 refine Ga C<|Ga C<|Ad<|Am (S3 8 7 6 C C C)<|Ay ?_
 have ak:=(OneE.rem Z he hn).quad_comes.2
 obtain ⟨ai,ah⟩:=quad_del (OneE.rem Z he hn)
 have ae:(quadL nd<|without es<|edgeP u v).length=(quadL nd es).length:=by rw [quadL_len,quadL_len]
 exact C4 C ty45 C C C mm C (vc 3 (.slice ab (quadL nd<|without es<|edgeP u v).length ad) (quadL nd<|without es<|edgeP u v)::vc 105 (.slice M (without es<|edgeP u v).length aa) (without es<|edgeP u v)::I) (by rw [ae,←ak];exact Bm) ⟨M,aa,ab,ad,_,by rw [←ai,←ah,ae]<;>rfl,rfl⟩
theorem QOpen_ok{nd:Int}{es:List Pt}(hl:Sl κ I (.slice ea es.length ec) es)(hG:GrOk nd es)(hT:TabRd κ I 0 tzCells):eu prog κ 44 [.agg #[e7 nd,.slice ea es.length ec]] I (λr J=>∃(ga:Option Addr) (gc:Nat) (a:Option Addr) (c:Nat),r = .tuple #[.agg #[e7 nd,.slice ga es.length gc,e7 (wedgeC nd es),e7 (quadC nd es),.slice a (quadL nd es).length c],e7 0]/\J=vc 3 (.slice a (quadL nd es).length c) (quadL nd es)::vc 105 (.slice ga es.length gc) es::I):=by
 have ae:=edges_le hG
 have ad:=hG.rng
 refine Ce1 Tryz.func44 C C ?_
 refine Af<|Ge1 (Bc (cs:=[_,_]) C C C) λb1=>Ge1 (A2 ty45 C) λb2=>Ga C<|Ad<|Ap<|Af<|Gl2 ty38 ?_
 refine G.e (Aj c_ C C<|CheckG_yes (nd:=nd) (A6 hl) hG) ?_
 rintro _ _ ⟨_,_,⟨rfl,rfl⟩,rfl,rfl⟩
 refine Ga C<|Ad<|Af<|Gm C<|Gr (Bn C C)<|Ad<|A8 C (λc10=>?_)<|λc10=>?_
 ·refine Af (Gr (Bp (cells:=[_,_,_,_,_]) ty45 Dj pl45 C C)<|Gm C<|Ge0 (E4 ty45) ?_)
  refine Ga C<|Ad<|Ay<|Aq ?_
  exact absurd rfl asm
 refine Aw<|Ah<|Af<|Gl2 ty38 ?_
 refine Gc2 (Aj c_ C C<|QCounts_ok (nd:=nd) (A6 hl) hG<|Bg hT Av) λaa ab=>?_
 refine Gm C<|Gr (Ak C C)<|Gr (Ak C C)<|Ga C<|Ga C<|Ad<|Am (S4 6 5 2 1 C C C C)<|Ap<|Bq mixed<|Ee 11<|Dr 0 C (Ac fld38_0 C)<|Dr 1 C (A7 ef) ?_
 refine Dr 2 C (Ac fld38_1 C)<|Dr 3 C (A7 ty36) ?_
 refine Dr 6 C (A5 (vs:=[_,_]) ty38) ?_
 refine Dr 8 C (Ai C)<|Dr 9 C (Ai C)<|Ds1 4<|Sc2 C (Aj c_ C C<|CloneE (xs:=es) (A6 hl) om) λZ M=>?_
 refine Dr 5 C (Bp (cells:=[_,_]) ty38 C2 pl38 C C)<|Ds1 7<|Sc0 C (Aj c_ C C<|Wedges_ok (nd:=nd) (A6 hl) om) ?_
 refine Dr 10 C (Bp (cells:=[_,_,_,_,_]) ty45 Dj pl45 C C)<|Ct kr ?_
 refine Ae 11 C (E4 ty45) ?_
 rintro _ _ ⟨rfl,rfl⟩
 refine Du (i:=12) kr C (Bk C) C C (Ba C) ?_
 refine Cu kr ?_
 exact Ah<|Am (S2 3 2 C C)<|Ay<|C0 C ty45 C C mm C (vc 3 (.slice aa (quadL nd es).length ab) (quadL nd es)::vc 105 (.slice Z es.length M) es::I) Bm ⟨Z,M,aa,ab,rfl,rfl⟩
theorem RepO_ok{κ:Ctx}{I:List Item}{nd:Int}{es:List Pt}(hl:Sl κ I (.slice ea es.length ec) es)(hG:GrOk nd es)(hT:TabRd κ I 0 tzCells):eu prog κ 41 [.agg #[e7 nd,.slice ea es.length ec]] I (λr J=>∃(ga:Option Addr) (gc:Nat) (a:Option Addr) (c:Nat),r = .tuple #[.agg #[e7 nd,.slice ga es.length gc,.slice a (coreN nd es).length c],e7 0]/\J=vc 3 (.slice a (coreN nd es).length c) (coreN nd es)::vc 105 (.slice ga es.length gc) es::I):=by
 have ad:=checkG_ok.2 hG
 have ae:=edges_le hG
 refine Ce1 Tryz.func41 C C ?_
 refine Af<|Ge1 (Bc (cs:=[_,_]) C C C) λb1=>Ge1 (A2 ty40 C) λb2=>Ga C<|Ad<|Af<|Gl2 ty38 ?_
 refine Gc2 (Aj c_ C C<|CNumbers_ok (nd:=nd) (A6 hl)<|Bg hT Av) λM aa=>?_
 refine Gm C<|Gr (Ak C C)<|Gr (Ak C C)<|Ga C<|Ga C<|Ad<|Ap<|Af<|Gm C<|Gr (Bn C C)<|Ad<|A8 C (λc12=>?_)<|λc12=>?_
 ·refine Af (Gr (Bp (cells:=[_,_,_]) ty40 Dq pl40 C C)<|Gm C<|Ge0 (C9 ty40) ?_)
  exact Ga C<|Ad<|Am (S2 3 2 C C)<|Ay<|Aq<|C0 C ty40 C C mm C I Av<|by exfalso;first|exact absurd ad asm|omega
 refine Aw<|Ah<|Ap<|Bq mixed<|Ee 8<|Dr 0 C (Ac fld38_0 C)<|Dr 1 C (A7 ef) ?_
 refine Dr 2 C (Ac fld38_1 C)<|Dr 3 C (A7 ty36) ?_
 refine Dr 6 C (Ai C)<|Ds1 4<|Sc2 C (Aj c_ C C<|CloneE (xs:=es) (A6 hl) om) λab Z=>?_
 refine Dr 5 C (Bp (cells:=[_,_]) ty38 C2 pl38 C C)<|Dr 7 C (Bp (cells:=[_,_,_]) ty40 Dq pl40 C C)<|Ct kr ?_
 refine Ae 8 C (C9 ty40) ?_
 rintro _ _ ⟨rfl,rfl⟩
 refine Du (i:=9) kr C (Bk C) C C (Ba C) ?_
 refine Cu kr ?_
 exact Ah<|Am (S2 3 2 C C)<|Ay<|C0 C ty40 C C mm C (vc 3 (.slice M (coreN nd es).length aa) (coreN nd es)::vc 105 (.slice ab es.length Z) es::I) Bm ⟨ab,Z,M,aa,rfl,rfl⟩
variable {κ:Ctx}{I:List Item}
structure SlA where
 a:Option Addr
 c:Nat
structure PkV where
 e1:SlA
 n1:SlA
 e2:SlA
 n2:SlA
 e3:SlA
 n3:SlA
 e4:SlA
 n4:SlA
structure PkR (κ:Ctx) (T:List Item) (nd:Int) (es:List Pt) (v:PkV):Prop where
 e1:Sl κ T (.slice v.e1.a es.length v.e1.c) es
 n1:Sl κ T (.slice v.n1.a (coreN nd es).length v.n1.c) (coreN nd es)
 e2:Sl κ T (.slice v.e2.a es.length v.e2.c) es
 n2:Sl κ T (.slice v.n2.a (trussG nd es).length v.n2.c) (trussG nd es)
 e3:Sl κ T (.slice v.e3.a es.length v.e3.c) es
 n3:Sl κ T (.slice v.n3.a (triL nd es).length v.n3.c) (triL nd es)
 e4:Sl κ T (.slice v.e4.a es.length v.e4.c) es
 n4:Sl κ T (.slice v.n4.a (quadL nd es).length v.n4.c) (quadL nd es)
theorem PkR.fit{κ:Ctx}{I J:List Item}{nd:Int}{es:List Pt}{v:PkV}(h:PkR κ I nd es v)(f:Fit κ J I):PkR κ J nd es v:=
 ⟨h.e1.fit f,h.n1.fit f,h.e2.fit f,h.n2.fit f,h.e3.fit f,h.n3.fit f,h.e4.fit f,h.n4.fit f⟩
theorem EqE_ok{vb:Value}(Z:Sl κ I va xs)(hm:Sl κ I vb xs):eu prog κ 265 [va,vb] I (λr J=>r = .bool true/\I=J):=by
 refine B9 Z.le λab=>?_
 refine Ce2 Tryz.func265 C C ?_
 refine Af<|Ga C<|Ad<|Ap<|Af<|Gm C<|Gr (B5 (α:=Pt) (xs:=xs) Ax C<|A6 Z)<|Gm C<|Gr (B5 (α:=Pt) (xs:=xs) Ax C<|A6 hm)<|Gr (Bn C C)<|Ad<|A8 C (λc10=>?_)<|λc10=>?_
 ·omega
 refine Aw<|Ah<|Ap<|Af<|Gm C<|Gr (B5 (α:=Pt) (xs:=xs) Ax C<|A6 Z)<|Gm C<|Ad<|A0<|B1 (σ:=Nat) (λs=>([(0,va),(1,vb),(12,e7 ((xs.length:Nat):Int)),(13,e7 ((s:Nat):Int))]:Env)) (λs=>I) (λs=>(s<=xs.length)) (λs=>xs.length - s) 0 (show ((0:Nat)<=xs.length) from om) (Aa C<|Aa C<|Aa C<|Aa Cd Bl) (show Fit κ _ I from Bf) ?_
 rintro k hp
 have hk:=hp
 refine Af<|Gr (Bb C C)<|Ad<|Ap<|A8 C (λaa=>?_)<|λaa=>?_
 ·refine Aw (Ah<|Ap<|A0<|Af<|Gm C<|Ga C<|Ad<|Ap<|Bq mixed<|Cc I 9<|Dr 0 C (Ai C)<|Dr 1 C (Ai C)<|Dr 2 C (Az (α:=Pt) (xs:=xs) Ax ty105 C C (A6 Z) om om)<|Dr 3 C (B2 (α:=Pt) (xs:=xs) ty105 C (A6 Z) om om)<|Dr 4 C (Ai C)<|Dr 5 C (Ai C)<|Dr 6 C (Az (α:=Pt) (xs:=xs) Ax ty105 C C (A6 hm) om om)<|Dr 7 C (B2 (α:=Pt) (xs:=xs) ty105 C (A6 hm) om om)<|Dr 8 C (Runs.neqT (α:=Pt) (a:=(e_ xs k)) (b:=(e_ xs k)) eqt105 C C)<|Dz<|Ah<|Am (S5 24 0 1 12 13 C C C C C)<|A8 C (λM=>?_)<|λM=>?_)
  ·exact absurd rfl M
  exact Aw<|Al<|Ah<|Au<|Gr (Rad C C)<|Gm C<|Bo<|Cf ((k+1)) om
 exact Bx<|Ao<|Ao<|A9<|Ah<|Af<|Ga C<|Ad<|Ay<|A1 C C I Av ⟨rfl,rfl⟩
theorem SameG_ok{nd:Int}(hl:Sl κ I va xs)(hm:Sl κ I M xs):eu prog κ 258 [.agg #[e7 nd,va],.agg #[e7 nd,M]] I (λr J=>r = .bool true/\I=J):=by
 refine Ce2 Tryz.func258 C C ?_
 refine Af<|Ge1 (Bc (cs:=[_,_]) C C C) λb1=>Ge1 (Bc (cs:=[_,_]) C C C) λb2=>Ga C<|Ad<|Af<|Gf fld38_0 C<|Gl ef ?_
 refine Gf fld38_0 C<|Gl ef ?_
 refine Gr (Bs C C)<|Gm C<|Br (d:=10) C (λZ=>?_)<|λZ=>?_
 ·refine e9 (Ac fld38_1 C) (e9 (A7 ty36) ?_)
  refine e9 (Ac fld38_1 C)<|e9 (A7 ty36) ?_
  refine Dm (Ch C C C) (Aj c_ C C<|EqE_ok (xs:=xs) (A6 hl)<|A6 hm) ?_
  rintro _ _ ⟨_,_,⟨rfl,rfl⟩,rfl,rfl⟩
  exact Gr (A3 C C)<|Ga C<|Ad<|Am (S1 4 C)<|Ay<|A1 C C I Av ⟨rfl,rfl⟩
 exact absurd rfl Z
theorem Val0_ok{nd:Int}{es:List Pt}(hl:Sl κ I (.slice ea es.length ec) es)(hm:Sl κ I (.slice na (coreN nd es).length nc) (coreN nd es))(hG:GrOk nd es)(hg:Sl κ I (.slice ga es.length gc) es)(hT:TabRd κ I 0 tzCells):eu prog κ 254 [.pointer (some ⟨b,0,none⟩),.agg #[e7 nd,.slice ga es.length gc]] (e8 b [e7 nd,.slice ea es.length ec,.slice na (coreN nd es).length nc,y3,y4,y5,y6,y7,y8,y9,M,Z,ab,aa,ad] 169::I) (λr J=>r = .bool true/\J=e8 b [e7 nd,.slice ea es.length ec,.slice na (coreN nd es).length nc,y3,y4,y5,y6,y7,y8,y9,M,Z,ab,aa,ad] 169::I):=by
 refine Ce2 Tryz.func254 C C ?_
 refine Af<|Ge1 (Bc (cs:=[_,_]) C C C) λb1=>Ga C<|Ad<|Ap<|Bq mixed<|Ee 15<|Dr 0 C (Ai C)<|Dr 1 C (Bi C)<|Dr 2 C (Ac fld161_0 C)<|Dr 3 C (Ac fld40_0 C)<|Dr 4 C (A5 (vs:=[_,_]) ty38) ?_
 refine Dr 5 C (A5 (vs:=[_,_]) ty38) ?_
 refine Ds1 6<|Sc0 C (Aj c_ C C<|SameG_ok (nd:=nd) (xs:=es) (A6 hl)<|A6 hg) ?_
 refine Dr 7 C (Ai C)<|Dro 8 C (Ai C)<|Dro 9 C (Bi C)<|Dro 10 C (Ac fld161_0 C)<|Dro 11 C (A5 (vs:=[_,_,_]) ty40) ?_
 refine Ds1 12<|Sc0 C (Aj c_ C C<|RepV_ok (nd:=nd) (A6 hl) (A6 hm) hG<|Bg hT Av) ?_
 exact Dr 13 C (A3 C C)<|Dr 14 C (Ba C)<|Dz<|Ah<|Am (S1 4 C)<|Ay<|A1 C C (e8 b [e7 nd,.slice ea es.length ec,.slice na (coreN nd es).length nc,y3,y4,y5,y6,y7,y8,y9,M,Z,ab,aa,ad] 169::I) Bm ⟨rfl,rfl⟩
theorem Val1_ok{nd:Int}{es:List Pt}(hl:Sl κ I (.slice ea es.length ec) es)(hm:Sl κ I (.slice na (trussG nd es).length nc) (trussG nd es))(hG:GrOk nd es)(hg:Sl κ I (.slice ga es.length gc) es)(hT:TabRd κ I 0 tzCells):eu prog κ 281 [.pointer (some ⟨b,3,none⟩),.agg #[e7 nd,.slice ga es.length gc]] (e8 b [y0,y1,y2,e7 nd,.slice ea es.length ec,.slice na (trussG nd es).length nc,y6,y7,y8,y9,M,Z,ab,aa,ad] 169::I) (λr J=>r = .bool true/\J=e8 b [y0,y1,y2,e7 nd,.slice ea es.length ec,.slice na (trussG nd es).length nc,y6,y7,y8,y9,M,Z,ab,aa,ad] 169::I):=by
 refine Ce2 Tryz.func281 C C ?_
 refine Af<|Ge1 (Bc (cs:=[_,_]) C C C) λb1=>Ga C<|Ad<|Ap<|Bq mixed<|Ee 15<|Dr 0 C (Ai C)<|Dr 1 C (Bi C)<|Dr 2 C (Ac fld163_0 C)<|Dr 3 C (Ac fld41_0 C)<|Dr 4 C (A5 (vs:=[_,_]) ty38) ?_
 refine Dr 5 C (A5 (vs:=[_,_]) ty38) ?_
 refine Ds1 6<|Sc0 C (Aj c_ C C<|SameG_ok (nd:=nd) (xs:=es) (A6 hl)<|A6 hg) ?_
 refine Dr 7 C (Ai C)<|Dro 8 C (Ai C)<|Dro 9 C (Bi C)<|Dro 10 C (Ac fld163_0 C)<|Dro 11 C (A5 (vs:=[_,_,_]) ty41) ?_
 refine Ds1 12<|Sc0 C (Aj c_ C C<|MV_ok (nd:=nd) (A6 hl) (A6 hm) hG<|Bg hT Av) ?_
 exact Dr 13 C (A3 C C)<|Dr 14 C (Ba C)<|Dz<|Ah<|Am (S1 4 C)<|Ay<|A1 C C (e8 b [y0,y1,y2,e7 nd,.slice ea es.length ec,.slice na (trussG nd es).length nc,y6,y7,y8,y9,M,Z,ab,aa,ad] 169::I) Bm ⟨rfl,rfl⟩
theorem Val2_ok{nd:Int}{es:List Pt}(hl:Sl κ I (.slice ea es.length ec) es)(hm:Sl κ I (.slice na (triL nd es).length nc) (triL nd es))(hG:GrOk nd es)(hg:Sl κ I (.slice ga es.length gc) es)  :
    eu prog κ 295 [.pointer (some ⟨b,6,none⟩),.agg #[e7 nd,.slice ga es.length gc]] (e8 b [y0,y1,y2,y3,y4,y5,e7 nd,.slice ea es.length ec,e7<|triS nd es / 3,.slice na (triL nd es).length nc,M,Z,ab,aa,ad] 169::I) (λr J=>r = .bool true/\J=e8 b [y0,y1,y2,y3,y4,y5,e7 nd,.slice ea es.length ec,e7<|triS nd es / 3,.slice na (triL nd es).length nc,M,Z,ab,aa,ad] 169::I):=by
 refine Ce2 Tryz.func295 C C ?_
 refine Af<|Ge1 (Bc (cs:=[_,_]) C C C) λb1=>Ga C<|Ad<|Ap<|Bq mixed<|Ee 15<|Dr 0 C (Ai C)<|Dr 1 C (Bi C)<|Dr 2 C (Ac fld165_0 C)<|Dr 3 C (Ac fld43_0 C)<|Dr 4 C (A5 (vs:=[_,_]) ty38) ?_
 refine Dr 5 C (A5 (vs:=[_,_]) ty38) ?_
 refine Ds1 6<|Sc0 C (Aj c_ C C<|SameG_ok (nd:=nd) (xs:=es) (A6 hl)<|A6 hg) ?_
 refine Dr 7 C (Ai C)<|Dro 8 C (Ai C)<|Dro 9 C (Bi C)<|Dro 10 C (Ac fld165_0 C)<|Dro 11 C (A5 (vs:=[_,_,_,_]) ty43) ?_
 refine Ds1 12<|Se C (Aj c_ C C<|TV_ok (nd:=nd) (A6 hl) (A6 hm) hG) ?_
 rintro _ _ ⟨_,_,⟨rfl,rfl⟩,rfl,rfl⟩
 refine ⟨Av,?_⟩
 exact Dr 13 C (A3 C C)<|Dr 14 C (Ba C)<|Dz<|Ah<|Am (S1 4 C)<|Ay<|A1 C C (e8 b [y0,y1,y2,y3,y4,y5,e7 nd,.slice ea es.length ec,e7<|triS nd es / 3,.slice na (triL nd es).length nc,M,Z,ab,aa,ad] 169::I) Bm ⟨rfl,rfl⟩
theorem Val3_ok{nd:Int}{M Z:Option Addr}{es:List Pt}(hl:Sl κ I (.slice M es.length ec) es)(hm:Sl κ I (.slice Z (quadL nd es).length nc) (quadL nd es))(hG:GrOk nd es)(hg:Sl κ I (.slice ga es.length gc) es)(hT:TabRd κ I 0 tzCells):eu prog κ 302 [.pointer (some ⟨b,10,none⟩),.agg #[e7 nd,.slice ga es.length gc]] (e8 b [y0,y1,y2,y3,y4,y5,y6,y7,y8,y9,e7 nd,.slice M es.length ec,e7 (wedgeC nd es),e7 (quadC nd es),.slice Z (quadL nd es).length nc] 169::I) (λr J=>r = .bool true/\J=e8 b [y0,y1,y2,y3,y4,y5,y6,y7,y8,y9,e7 nd,.slice M es.length ec,e7 (wedgeC nd es),e7 (quadC nd es),.slice Z (quadL nd es).length nc] 169::I):=by
 refine Ce2 Tryz.func302 C C ?_
 refine Af<|Ge1 (Bc (cs:=[_,_]) C C C) λb1=>Ga C<|Ad<|Ap<|Bq mixed<|Ee 15<|Dr 0 C (Ai C)<|Dr 1 C (Bi C)<|Dr 2 C (Ac fld167_0 C)<|Dr 3 C (Ac fld45_0 C)<|Dr 4 C (A5 (vs:=[_,_]) ty38) ?_
 refine Dr 5 C (A5 (vs:=[_,_]) ty38) ?_
 refine Ds1 6<|Sc0 C (Aj c_ C C<|SameG_ok (nd:=nd) (xs:=es) (A6 hl)<|A6 hg) ?_
 refine Dr 7 C (Ai C)<|Dro 8 C (Ai C)<|Dro 9 C (Bi C)<|Dro 10 C (Ac fld167_0 C)<|Dro 11 C (A5 (vs:=[_,_,_,_,_]) ty45) ?_
 refine Ds1 12<|Sc0 C (Aj c_ C C<|QV_ok (nd:=nd) (A6 hl) (A6 hm) hG<|Bg hT Av) ?_
 exact Dr 13 C (A3 C C)<|Dr 14 C (Ba C)<|Dz<|Ah<|Am (S1 4 C)<|Ay<|A1 C C (e8 b [y0,y1,y2,y3,y4,y5,y6,y7,y8,y9,e7 nd,.slice M es.length ec,e7<|wedgeC nd es,e7<|quadC nd es,.slice Z (quadL nd es).length nc] 169::I) Bm ⟨rfl,rfl⟩
end Go.Sl
