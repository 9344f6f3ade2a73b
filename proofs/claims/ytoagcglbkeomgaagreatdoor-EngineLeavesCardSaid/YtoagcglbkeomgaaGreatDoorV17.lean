/- A part of the proofs of statements of this seat: contracts of functions, and the plain laws that they lean on. No conditions. -/
import Derived.Test.YtoagcglbkeomgaaGreatDoorV16
set_option linter.unusedVariables false
set_option linter.unusedSimpArgs false
set_option linter.unusedSectionVars false
open Go.Proofs.Tryz (prog)
set_option maxHeartbeats 2000000
namespace Go.Sl
open Go.Proofs
set_option maxRecDepth 4000
attribute [local irreducible] W G V D A j8 Eff
theorem cg9{κ:Ctx}{I:List Item}{nd:Int}{va:Value}{es:List Pt}{la:Option Addr}{lc:Nat}{l:List Int}(hl:Sl κ I va es)(hs:Sl κ I (.slice la l.length lc) l)(hG:s6 nd es)(i:Int)(h0:0<=i)(h1:i<es.length)(hb:es.length<=1000000):eu prog κ 104 [.agg #[e7 nd,va],e7 i,.slice la l.length lc] I (λr J=>r=e7 ((((ah9 nd es (e_ es i)).filter (λp:Pt=>decide (p.u∈l/\p.v∈l))).length:Nat):Int)/\I=J):=by
 have ae:=hG.rng
 have aj:=dt9 hG (Bp (xs:=es) h0 h1)
 refine Ce3 Tryz.func104 C C ?_
 refine Ak<|Ge1 (Au (cs:=[_,_]) C C C) λb1=>Z ?_
 refine G.e (Ac c_ C C<|cy4 (nd:=nd) (A4 hl) hG i om om om) ?_
 rintro _ _ ⟨_,_,⟨ai,ah,rfl,rfl⟩,rfl,rfl⟩
 refine Z ?_
 refine Dh (σ:=Nat×Int) (λs=>[(7,e7<|s.2),(14,e7 ((s.1:Nat):Int))]) (λ_=>[]) (λs=>(s.1<=(ah9 nd es<|e_ es i).length)/\(s.2=((((ah9 nd es<|e_ es i).take s.1).filter (λp:Pt=>decide<|p.u∈l/\p.v∈l)).length:Int))) (λs=>(ah9 nd es<|e_ es i).length - s.1) (0,0) (show ((0:Nat)<=(ah9 nd es<|e_ es i).length)/\((0:Int)=((((ah9 nd es<|e_ es i).take (0:Nat)).filter (λp:Pt=>decide<|p.u∈l/\p.v∈l)).length:Int)) from ⟨om,rfl⟩) ?_
 rintro ⟨k,n⟩ hp
 dsimp only at hp ⊢
 obtain ⟨hk,hn⟩:=hp
 have ad:=Gs (λp:Pt=>decide<|p.u∈l/\p.v∈l) ((ah9 nd es<|e_ es i).take k)
 rw [Fp] at ad
 refine Z ?_
 refine Am C (λab=>Z ?_)<|λab=>Z ?_
 ·refine Ge1 (Aj L8 C) λb4=>Ge0 (Cs L8) ?_
  refine Ar<|Ak<|Gm C<|Gr (B5 B8 ty2 C C om om)<|Z ?_
  refine Gc0 (Ac c_ C C<|bt9 (A4 hs)<|(e_ (ah9 nd es<|e_ es i) (k:Int)).u) ?_
  refine Gm C<|A3 (d:=22) C (λaa=>?_)<|λaa=>Z ?_
  ·refine e9 (Aq C) (e9 (B5 B8 ty2 C C om om)<|Z ?_)
   refine Ds (Cn C C C) (Ac c_ C C<|bt9 (A4 hs)<|(e_ (ah9 nd es<|e_ es i) (k:Int)).v) ?_
   rintro _ _ ⟨_,_,⟨rfl,rfl⟩,rfl,rfl⟩
   refine Z ?_
   refine Am C (λM=>Z ?_)<|λM=>Z ?_
   ·exact Bt ((k+1),(n+1))<|by dsimp only;exact ⟨om,(by first|(rw [cf4 (λp:Pt=>decide<|p.u∈l/\p.v∈l) om (As ⟨aa,M⟩),hn])|(rw [bn0 (λp:Pt=>decide<|p.u∈l/\p.v∈l) om (D_ λh=>M h.2),hn])|(rw [bn0 (λp:Pt=>decide<|p.u∈l/\p.v∈l) om (D_ λh=>aa h.1),hn]))⟩
   exact Bt ((k+1),(n))<|by dsimp only;exact ⟨om,(by first|(rw [cf4 (λp:Pt=>decide<|p.u∈l/\p.v∈l) om (As ⟨aa,M⟩),hn])|(rw [bn0 (λp:Pt=>decide<|p.u∈l/\p.v∈l) om (D_ λh=>M h.2),hn])|(rw [bn0 (λp:Pt=>decide<|p.u∈l/\p.v∈l) om (D_ λh=>aa h.1),hn]))⟩
  exact Bt ((k+1),(n))<|by dsimp only;exact ⟨om,(by first|(rw [cf4 (λp:Pt=>decide<|p.u∈l/\p.v∈l) om (As ⟨aa,M⟩),hn])|(rw [bn0 (λp:Pt=>decide<|p.u∈l/\p.v∈l) om (D_ λh=>M h.2),hn])|(rw [bn0 (λp:Pt=>decide<|p.u∈l/\p.v∈l) om (D_ λh=>aa h.1),hn]))⟩
 rw [Fv om] at hn
 exact Al C C I Ah ⟨by rw [hn],rfl⟩
end Go.Sl
namespace Go.Sl
open Go.Proofs
set_option maxRecDepth 4000
end Go.Sl
namespace Go.Sl
open Go.Proofs
set_option maxRecDepth 4000
variable{u x:Int}{i:Nat}{va:Value}
attribute [local irreducible] W G V D A j8 Eff
theorem by6{xs:List Pt}{p q:Pt->Bool}(h:∀x∈xs,p x=true->q x=true):(xs.filter p).length<=(xs.filter q).length:=by
 rw [←List.countP_eq_length_filter,←List.countP_eq_length_filter];exact List.countP_mono_left h
theorem bt6{l:List Int}{n:Nat}(h:l.Nodup)(hr:∀x∈l,0<=x/\x<n):l.length<=n:=by
 have:=Hk h (l₂:=(List.range n).map λi=>((i:Nat):Int)) λx M=>by
  have:=hr x M
  exact Gv.2 ⟨x.toNat,Hz.2 om,by omega⟩
 rwa [F_,Jy] at this
section
variable {tri:List (List Pt)}{num ord l:List Int}{k:Int}
theorem ab3.pos(M:ab3 tri num ord)(h0:0<=x)(h1:x<tri.length):∃i:Nat,i<ord.length/\e_ ord i=x:=by
 by_cases hx:x∈ord
 ·obtain ⟨i,hi,e⟩:=aw0 hx
  exact ⟨i,hi,e.symm⟩
 have:=bt6 (n:=tri.length) (Hx.2 ⟨hx,M.nodup⟩) λy hy=>by
  rcases Fw.1 hy with rfl|hy
  ·exact ⟨h0,h1⟩
  exact M.rng y hy
 have:=M.ft9
 simp only [E_] at *
 omega
theorem ab3.le(M:ab3 tri num ord):∀d:Nat,i+d<ord.length->e_ num (e_ ord i)<=e_ num (e_ ord ((i+d:Nat):Int))
 |0,_=>Hl _
 |d+1,h=>La (ab3.le M d om) (M.asc (i+d) om)
theorem dg5{l:List Int}{m:Nat}(h:i<m)(M:m<l.length):e_ l m∈List.drop (i+1) l:=by
 rw [Ct _ m M,Jv]
 refine ⟨m - (i+1),by rw [Fx];omega,?_⟩
 rw [Lu]
 congr 1;omega
theorem dx8(hx:∃j:Nat,j<ord.length/\e_ ord j∈l):∃i:Nat,(∀m:Nat,m<i->e_ ord m∉l)/\e_ ord i∈l/\i<ord.length:=by
 obtain ⟨j,hj,h⟩:=hx
 induction j using Nat.strongRecOn with
 |_ j ih=>
  by_cases h2:∃m:Nat,m<j/\e_ ord m∈l
  ·obtain ⟨m,M,h3⟩:=h2
   exact ih m M om h3
  exact ⟨j,λm M h3=>h2 ⟨m,M,h3⟩,h,hj⟩
theorem ab3.clos(hG:cw6 tri)(hE:ab3 tri num ord)(hl:∀x∈l,0<=x/\x<tri.length)(hc:∀x∈l,k<=(((e_ tri x).filter λp:Pt=>decide (p.u∈l/\p.v∈l)).length:Int)):∀x∈l,k<=e_ num x:=λx hx=>by
 obtain ⟨j,hj,rfl⟩:=hE.pos (hl x hx).1 (hl x hx).2
 obtain ⟨i,h1,M,hi⟩:=dx8 ⟨j,hj,hx⟩
 have ad:i<=j:=by
  rcases Nat.lt_or_ge j i with h|h
  ·exact absurd hx<|h1 j h
  exact h
 have h2:=hE.le (i:=i) (j - i) om
 rw [show i+(j - i)=j by omega] at h2
 refine La (La (hc _ M)<|La (Mn.2<|by6 λp hp h=>?_)<|hE.later i hi) h2
 have hr:=hG.rng _ (hl _ M).1 (hl _ M).2 p hp
 rw [Gn] at h ⊢
 have aa:∀y∈l,y≠e_ ord i->y∈List.drop (i+1) ord:=λy hy ab=>by
  obtain ⟨m,hm,rfl⟩:=hE.pos (hl y hy).1 (hl y hy).2
  rcases Kn m i with h3|h3|h3
  ·exact absurd hy<|h1 m h3
  ·subst h3;exact absurd rfl ab
  exact dg5 h3 hm
 exact ⟨aa _ h.1 hr.2.2.1,aa _ h.2 hr.2.2.2⟩
theorem ab3.set(hG:cw6 tri)(hE:ab3 tri num ord)(h0:0<=x)(h1:x<tri.length)(hk:k<=e_ num x)(hl:∀y:Int,0<=y->y<tri.length->k<=e_ num y->y∈l):k<=(((e_ tri x).filter λp:Pt=>decide (p.u∈l/\p.v∈l)).length:Int):=by
 obtain ⟨i,hi,rfl⟩:=hE.pos h0 h1
 refine La hk<|La (hE.high i hi)<|Mn.2<|by6 λp hp h=>?_
 have M:=hG.rng _ h0 h1 p hp
 rw [Gn] at h ⊢
 exact ⟨hl _ M.1.1 M.1.2.1 om,hl _ M.1.2.2.1 M.1.2.2.2 om⟩
end
section
variable {nd lv:Int}{es:List Pt}{l m:List Int}
theorem bp1(M:s6 nd es):ab3 (G2 nd es) (j6 nd es) (U3 (G2 nd es)):=by
 unfold j6
 rw [An (by rw [s4.2 M];decide)]
 exact db7 (ds9 M)<|av1 M
theorem G3(M:s6 nd es):(j6 nd es).length=es.length:=by
 rw [(bp1 M).fj4];exact F_ ..
theorem ci9(M:0<=x)(h1:x<es.length):e_ (G2 nd es) x=ah9 nd es (e_ es x):=by
 obtain ⟨i,rfl⟩:=Hm M
 rw [Ct _ i (by unfold G2;rw [F_];omega),Ct _ i om]
 unfold G2
 rw [Jj]
def trK(nd:Int)(es:List Pt)(k:Int):List Int:=af2 (j6 nd es).length λv=>decide (k<=e_ (j6 nd es) v)
theorem af7(M:s6 nd es):x∈trK nd es lv↔(0<=x/\x<es.length)/\lv<=e_ (j6 nd es) x:=by
 unfold trK;rw [ai7,Gn,G3 M]
theorem fm6:(trK nd es lv).Pairwise (λx0 M:Int=>x0<M):=by unfold trK;exact (ae8.1 (bc9 _ _)).2
theorem fm5(M:s6 nd es):(trK nd es lv).length<=es.length:=by unfold trK;exact G_ (bw6 _ _) (Nat.le_of_eq (G3 M))
theorem fm3(hG:s6 nd es)(aa:l.Pairwise (λx0 x1:Int=>x0<x1))(M:∀x∈l,0<=x/\x<es.length)(ab:∀x∈l,lv<=((((ah9 nd es (e_ es x)).filter (λp:Pt=>decide (p.u∈l/\p.v∈l))).length:Nat):Int))(ad:∀x∈trK nd es lv,x∈l):l=trK nd es lv:=by
 have hl:(G2 nd es).length=es.length:=F_ ..
 refine as2.uniq aa fm6 λx=>⟨λhx=>(af7 hG).2 ⟨M x hx,?_⟩,ad x⟩
 exact (bp1 hG).clos (ds9 hG) (λy hy=>by rw [hl];exact M y hy) (λy hy=>by rw [ci9 (M y hy).1 (M y hy).2];exact ab y hy) x hx
theorem fm4(hG:s6 nd es)(M:∀x∈trK nd es lv,x∈m)(hx:0<=x/\x<es.length)(hlt:((((ah9 nd es (e_ es x)).filter (λp:Pt=>decide (p.u∈m/\p.v∈m))).length:Nat):Int)<lv):∀y∈trK nd es lv,y∈V9 m [x]:=λy hy=>by
 refine ao2.2 ⟨M y hy,λe=>?_⟩
 subst e
 have hl:(G2 nd es).length=es.length:=F_ ..
 have:=(bp1 hG).set (ds9 hG) hx.1 (by rw [hl];exact hx.2) ((af7 hG).1 hy).2 (l:=m) (λz h0 h1 h2=>M z<|(af7 hG).2 ⟨⟨h0,by rw [hl] at h1;exact h1⟩,h2⟩)
 rw [ci9 hx.1 hx.2] at this
 omega
def cg3(nd:Int)(es:List Pt)(k:Int):List Int:=(j6 nd es).map λx=>min k x
theorem T8(nd:Int)(es:List Pt)(k:Int):(cg3 nd es k).length=(j6 nd es).length:=F_ ..
theorem bt1{k:Int}(M:0<=u)(h1:u<(j6 nd es).length):e_ (cg3 nd es k) u=min k (e_ (j6 nd es) u):=by
 obtain ⟨i,rfl⟩:=Hm M
 rw [Ct _ i (by rw [T8];omega),Ct _ i om]
 unfold cg3
 rw [Jj]
theorem ak7(M:s6 nd es)(h0:0<=u)(h1:u<(j6 nd es).length):0<=e_ (j6 nd es) u/\e_ (j6 nd es) u<=nd - 1:=by
 have hl:=G3 M
 have he:=M.Z1 (e_ es u) (Bp om om)
 exact db6 M om _<|Bp h0 h1
theorem dn4(M:s6 nd es):cg3 nd es 0=List.replicate es.length 0:=by
 have hl:=G3 M
 refine aj6 (by rw [T8,Fy,hl]) λi hi=>?_
 rw [T8] at hi
 rw [bt1 om om,cp5 _ _ _ om om]
 have:=ak7 M (u:=(i:Int)) om om
 omega
theorem cp2(M:s6 nd es){k:Int}(h:nd - 1<=k\/trK nd es (k+1)=[]):cg3 nd es k=j6 nd es:=by
 refine aj6 (T8 _ _ _) λi hi=>?_
 rw [T8] at hi
 rw [bt1 om om]
 have h1:=ak7 M (u:=(i:Int)) om om
 rcases h with h|h
 ·omega
 have:¬k+1<=e_ (j6 nd es) i:=λh2=>by
  have h3:=(af7 M (lv:=k+1)).2 ⟨⟨by omega,by have:=G3 M;omega⟩,h2⟩
  rw [h] at h3;cases h3
 omega
theorem fb3(M:s6 nd es){k:Int}(hk:1<=k):cs7 (cg3 nd es (k - 1)) k (trK nd es k)=cg3 nd es k:=by
 have hl:=G3 M
 refine aj6 (by rw [af5,T8,T8]) λi hi=>?_
 rw [af5,T8] at hi
 rw [ce2 k _ _ _ (λx hx=>by rw [T8,hl];exact ((af7 M).1 hx).1) om,bt1 om om,bt1 om om]
 by_cases h:(i:Int)∈trK nd es k
 ·rw [B_ h]
  have:=((af7 M).1 h).2
  omega
 rw [An h]
 have:¬k<=e_ (j6 nd es) i:=λh2=>h ((af7 M).2 ⟨⟨by omega,by omega⟩,h2⟩)
 omega
theorem bq2(n:Nat):((List.range n).map λi=>((i:Nat):Int)).Pairwise (λx0 M:Int=>x0<M)/\∀x,x∈((List.range n).map λi=>((i:Nat):Int))↔0<=x/\x<n:=by
 constructor
 ·refine Mu _ (λa b h=>?_) List.pairwise_lt_range
  omega
 intro x
 rw [Gv]
 constructor
 ·rintro ⟨i,hi,rfl⟩;have:=Hz.1 hi;omega
 intro h;exact ⟨x.toNat,Hz.2 om,by omega⟩
theorem ce0(k:Nat):((List.range (k+1)).map λi=>((i:Nat):Int))=((List.range k).map λi=>((i:Nat):Int))++[(k:Int)]:=by rw [List.range_succ,Hr];rfl
end
theorem fi5{κ:Ctx}{I:List Item}{nd:Int}{es:List Pt}(hl:Sl κ I va es)(hb:es.length<=1000000):eu prog κ 103 [.agg #[e7 nd,va]] I (λr J=>∃a c,r = .slice a ((List.range es.length).map λi=>((i:Nat):Int)).length c/\J=vk 3 a c ((List.range es.length).map λi=>((i:Nat):Int))::I):=by
 refine Bv hl.le λab=>?_
 refine Ce1 Tryz.func103 C C ?_
 refine Ak<|Ge1 (Au (cs:=[_,_]) C C C) λb1=>Z ?_
 refine Dh (σ:=Nat×(Option Addr)×Nat×(List Int)) (λs=>[(3,.slice s.2.1 s.2.2.2.length s.2.2.1),(8,e7 ((s.1:Nat):Int))]) (λs=>[vk 3 s.2.1 s.2.2.1 s.2.2.2]) (λs=>(s.1<=es.length)/\(s.2.2.2=((List.range s.1).map λi=>((i:Nat):Int)))) (λs=>es.length - s.1) (0,none,0,[]) (show ((0:Nat)<=es.length)/\(([]:List Int)=((List.range (0:Nat)).map λi=>((i:Nat):Int))) from ⟨om,rfl⟩) (hI:=(B7 _ _)) ?_
 rintro ⟨k,a,c,out⟩ hp
 dsimp only at hp ⊢
 obtain ⟨hk,ho⟩:=hp
 have ae:out.length=k:=by rw [ho,F_,Jy]
 refine Z ?_
 refine Am C (λc9=>Z ?_)<|λc9=>Z ?_
 ·refine Ge1 (B2 (α:=Int) (cs:=[_]) (xs:=[(k:Int)]) Ab ef C C dc dc C C C C) λad=>?_
  refine Ge2 (Br (α:=Int) (e:=3) (xs:=out) (ys:=([(k:Int)]:List Int)) Ab ef C C C mm A5 lcn dc C<|λ_ _=>am) λM aa=>Z ?_
  exact Bt ((k+1),(M),(aa),(out++([(k:Int)]:List Int)))<|by dsimp only;exact ⟨om,(by rw [ce0,ho])⟩
 have hE:out=((List.range es.length).map λi=>((i:Nat):Int)):=by rw [ho,show k=es.length by omega]
 exact Al C C (vk 3 a c ((List.range es.length).map λi=>((i:Nat):Int))::I) (by unfold vk;rw [←hE];exact Az) ⟨a,c,by rw [←hE],rfl⟩
variable {κ:Ctx}{I:List Item}
theorem cw5{nd lv:Int}{es:List Pt}(hl:Sl κ I va es)(hG:s6 nd es)(hb:es.length<=1000000):eu prog κ 53 [.agg #[e7 nd,va],e7 lv] I (λr J=>∃a c,r = .slice a (trK nd es lv).length c/\J=vk 3 a c (trK nd es lv)::I):=by
 have hr:=hG.rng
 refine Ce2 Tryz.func53 C C ?_
 refine Ak<|Ge1 (Au (cs:=[_,_]) C C C) λb1=>Ga C<|Ar<|Ak<|Gl2 J8 ?_
 refine G.e (Ac c_ C C<|fi5 (nd:=nd) (A4 hl) om) ?_
 rintro _ _ ⟨_,_,⟨aq,ao,rfl,rfl⟩,rfl,rfl⟩
 refine Ga C<|Ar<|Ax<|Ak<|Ga C<|Ar<|A7<|B9 (σ:=(Option Addr)×Nat×(List Int)×Bool) (λs=>([(1,e7 lv),(2,pt b1),(5,.slice s.1 s.2.2.1.length s.2.1),(6,.bool<|s.2.2.2)]:Env)) (λs=>vk 3 s.1 s.2.1 s.2.2.1::e8 b1 [e7 nd,va] 38::I) (λs=>(s.2.2.1.Pairwise (λx0 x1:Int=>x0<x1))/\(∀x∈s.2.2.1,0<=x/\x<es.length)/\(∀x∈trK nd es lv,x∈s.2.2.1)/\(s.2.2.2=false->∀x∈s.2.2.1,lv<=((((ah9 nd es<|e_ es x).filter (λp:Pt=>decide<|p.u∈s.2.2.1/\p.v∈s.2.2.1)).length:Nat):Int))) (λs=>(2*s.2.2.1.length+s.2.2.2.toNat)) (aq,ao,((List.range es.length).map λi=>((i:Nat):Int)),true) (show ((((List.range es.length).map λi=>((i:Nat):Int)):List Int).Pairwise (λx0 x1:Int=>x0<x1))/\(∀x∈(((List.range es.length).map λi=>((i:Nat):Int)):List Int),0<=x/\x<es.length)/\(∀x∈trK nd es lv,x∈(((List.range es.length).map λi=>((i:Nat):Int)):List Int))/\((true:Bool)=false->∀x∈(((List.range es.length).map λi=>((i:Nat):Int)):List Int),lv<=((((ah9 nd es<|e_ es x).filter (λp:Pt=>decide<|p.u∈(((List.range es.length).map λi=>((i:Nat):Int)):List Int)/\p.v∈(((List.range es.length).map λi=>((i:Nat):Int)):List Int))).length:Nat):Int)) from ⟨(bq2 _).1,(λx hx=>((bq2 _).2 x).1 hx),(λx hx=>((bq2 _).2 x).2 ((af7 hG).1 hx).1),(λh=>by cases h)⟩) (cx2<|Aa (Db C<|by first|rfl|simp)<|Aa (Db C<|by first|rfl|simp) Bb) (show Fit κ _ (vk 3 aq ao (((List.range es.length).map λi=>((i:Nat):Int)))::e8 b1 [e7 nd,va] 38::I) from Az) ?_
 rintro ⟨a,c,l,ag⟩ hp
 dsimp only at hp ⊢
 obtain ⟨aa,ab,ax,a1⟩:=hp
 have a5:l.length<=es.length:=bt6 (aa.imp λh=>by omega) ab
 refine Ax<|Ak<|Gm C<|Ar<|Dp C (λc11=>?_)<|λc11=>?_
 ·refine Bc (Ao<|A7<|Ak<|Ga C<|Ar<|Ak<|Gm C<|Gr (Bk Ab C)<|Gm C<|Ar<|A7<|B9 (σ:=Nat×(Option Addr)×Nat×(List Int)×Bool×(List Item)) (λs=>([(1,e7 lv),(2,pt b1),(5,.slice s.2.1 s.2.2.2.1.length s.2.2.1),(6,.bool<|s.2.2.2.2.1),(12,.slice a l.length c),(13,e7 ((l.length:Nat):Int)),(14,e7 ((s.1:Nat):Int))]:Env)) (λs=>e8 b1 [e7 nd,va] 38::(s.2.2.2.2.2++I)) (λs=>(s.1<=l.length)/\(Sl κ s.2.2.2.2.2 (.slice a l.length c) l)/\(∃R,s.2.2.2.2.2=vk 3 s.2.1 s.2.2.1 s.2.2.2.1::R)/\(s.2.2.2.1.Pairwise (λx0 x1:Int=>x0<x1))/\(∀x∈s.2.2.2.1,x∈l)/\(∀x∈trK nd es lv,x∈s.2.2.2.1)/\(s.2.2.2.2.1=false->s.2.2.2.1=l/\∀i:Nat,i<s.1->lv<=((((ah9 nd es<|e_ es<|e_ l i).filter (λp:Pt=>decide<|p.u∈l/\p.v∈l)).length:Nat):Int))/\(∀i:Nat,s.1<=i->i<l.length->e_ l i∈s.2.2.2.1)/\(s.2.2.2.1.length+s.2.2.2.2.1.toNat<=l.length/\(s.2.2.2.2.1=true->s.2.2.2.1.length<l.length))) (λs=>(l.length - s.1)) (0,a,c,l,false,[vk 3 a c l]) (show ((0:Nat)<=l.length)/\(Sl κ ([vk 3 a c l]:List Item) (.slice a l.length c) l)/\(∃R,([vk 3 a c l]:List Item)=vk 3 (a:Option Addr) (c:Nat) (l:List Int)::R)/\((l:List Int).Pairwise (λx0 x1:Int=>x0<x1))/\(∀x∈(l:List Int),x∈l)/\(∀x∈trK nd es lv,x∈(l:List Int))/\((false:Bool)=false->(l:List Int)=l/\∀i:Nat,i<(0:Nat)->lv<=((((ah9 nd es<|e_ es<|e_ l i).filter (λp:Pt=>decide<|p.u∈l/\p.v∈l)).length:Nat):Int))/\(∀i:Nat,(0:Nat)<=i->i<l.length->e_ l i∈(l:List Int))/\((l:List Int).length+(false:Bool).toNat<=l.length/\((false:Bool)=true->(l:List Int).length<l.length)) from ⟨om,(Cz A_),⟨[],rfl⟩,aa,(λx hx=>hx),ax,(λ_=>⟨rfl,λi hi=>by omega⟩),(λi _ hi=>Bp om om),⟨by simp,λh=>by cases h⟩⟩) (cx2<|Aa (Db C<|by first|rfl|simp)<|Aa (Db C<|by first|rfl|simp)<|cx2<|Aa Co Bb) (show Fit κ _ (e8 b1 [e7 nd,va] 38::(([vk 3 a c l])++I)) from (Fit.gj5 (A:=[e8 b1 [e7 nd,va] 38]))) ?_)
  rintro ⟨j,a2,c2,m,ah,Y2⟩ hp
  dsimp only at hp ⊢
  obtain ⟨hj,ai,ap,M,ad,ae,av,an,ay⟩:=hp
  have a6:m.length<=es.length:=bt6 (M.imp λh=>by omega) (λx hx=>ab x<|ad x hx)
  have au:Sl κ Y2 (.slice a2 m.length c2) m:=by obtain ⟨R,rfl⟩:=ap;exact Cz A_
  refine Ak<|Gr (Bl C C)<|Ar<|Ax<|Am C (λa3=>?_)<|λa3=>?_
  ·refine Bc (Ao<|Ax<|A7<|Ak<|Gr (A2 (α:=Int) (xs:=l) Ab ef C C (Bg ai<|C4<|Kd (Ho _ I)<|Gk ([e8 b1 [e7 nd,va] 38]:List Item)<|Y2++I) om om)<|Gr (B6 (xs:=l) ef C (Bg ai<|C4<|Kd (Ho _ I)<|Gk ([e8 b1 [e7 nd,va] 38]:List Item)<|Y2++I) om om)<|Ga C ?_)
   have a0:=an j (Gd _) om
   have aj:=ab _ (Bp (xs:=l) (i:=(j:Int)) om om)
   refine Ar<|Ak<|Gl2 J8 ?_
   refine Gm C<|Gm C<|Gc0 (Ac c_ C C<|cg9 (nd:=nd) (A4 hl) (Bg au<|C4<|Kd (Ho _ I)<|Gk ([e8 b1 [e7 nd,va] 38]:List Item)<|Y2++I) hG (e_ l j) aj.1 aj.2 om) ?_
   refine Gm C<|Gr (Bl C C)<|Ar<|A1 (S9 23 8 1 2 5 6 12 13 14)<|Am C (λak=>?_)<|λak=>?_
   ·refine A6 (Gm C<|Gm C<|Ge1 (B2 (α:=Int) (cs:=[_]) (xs:=[e_ l j]) Ab ef C C dc dc C C C C) λaz=>?_)
    refine G.e (Ac c_ C C<|cq4 (Bg au<|C4<|Kd (Ho _ I)<|Gk ([vc 3 (.slice az 1 1) (([e_ l j]:List Int)),e8 b1 [e7 nd,va] 38]:List Item)<|Y2++I) A5 om) ?_
    rintro _ _ ⟨_,_,⟨aw,ar,rfl,rfl⟩,rfl,rfl⟩
    exact Ga C<|Ga C<|Bq<|Av<|Ao<|A1 (S7 6 5 1 2 12 13 14)<|A6<|Gr (Rad C C)<|Gm C<|Bq<|Bt ((j+1),(aw),(ar),(V9 m ([e_ l j]:List Int)),(true),((vk 3 aw ar (V9 m ([e_ l j]:List Int))::Y2))) (by dsimp only;exact ⟨om,(Bg ai<|Fa<|Dd _),⟨Y2,rfl⟩,((R9 m).sublist He),(λx hx=>ad x (ao2.1 hx).1),(fm4 hG ae aj ak),(λh=>by cases h),(λi h1 h2=>ao2.2 ⟨an i om h2,λe=>by have:=dn9 aa h2 (show j<l.length by omega) e;omega⟩),(by have:=dg3 M a0;exact ⟨by simp;omega,λ_=>by omega⟩)⟩) (hI:=by (try dsimp only);exact (by first|exact Az|exact Ai))
   exact Bc<|Av<|Ao<|A6<|Gr (Rad C C)<|Gm C<|Bq<|Bt ((j+1),(a2),(c2),(m),(ah),(Y2)) (by dsimp only;exact ⟨om,om,om,om,om,om,(λh=>by obtain ⟨e,h2⟩:=av h;refine ⟨e,λi hi=>?_⟩;by_cases e2:i=j;(· subst e2;rw [e] at ak;omega);(· exact h2 i om)),(λi h1 h2=>an i om h2),om⟩) (hI:=by (try dsimp only);exact (by first|exact Az|exact Ai))
  refine Ci<|Aw<|Aw<|Bi<|Av ?_
  obtain ⟨R,rfl⟩:=ap
  exact Bt ((a2),(c2),(m),(ah)) (by dsimp only;exact ⟨M,(λx hx=>ab x<|ad x hx),ae,(λh=>by obtain ⟨e,h2⟩:=av h;subst e;intro x hx;obtain ⟨i,hi,rfl⟩:=an6 hx;exact h2 i om)⟩) (hlt:=by (try dsimp only);exact (by have a4:ag=true:=(by simpa using c11);subst a4;cases ah<;>simp at ay ⊢ <;>omega)) (hI:=by (try dsimp only);exact (Fit.vcR (A:=[e8 b1 [e7 nd,va] 38])))
 refine Ci<|Aw<|Aw<|Bi<|Ao<|Ak<|Gm C<|Ga C<|Ar<|B3 ?_
 have hE:l=trK nd es lv:=fm3 hG aa ab (a1<|by simpa using c11) ax
 subst hE
 exact Al C C (vk 3 a c (trK nd es lv)::I) Az ⟨a,c,rfl,rfl⟩
theorem cb8{nd:Int}{es:List Pt}(hl:Sl κ I va es)(hG:s6 nd es)(hb:es.length<=1000000):eu Tryz.prog κ 20 [.agg #[e7 nd,va]] I (λr J=>∃a c,r = .tuple #[.slice a (j6 nd es).length c,e7 0]/\J=vk 3 a c (j6 nd es)::I):=by
 have hr:=hG.rng
 have ai:=G3 hG
 refine Ce1 Tryz.func20 C C ?_
 refine Ak<|Ge1 (Au (cs:=[_,_]) C C C) λb1=>Ga C<|Ga C<|Ar<|Ax<|Ak<|Gl2 J8 ?_
 refine G.e (Ac c_ C C<|V2 (nd:=nd)<|A4 hl) ?_
 rintro _ _ ⟨_,_,⟨rfl,rfl⟩,rfl,rfl⟩
 refine Ga C<|Ar<|Ak<|Gm C<|Gr (Cb C C)<|Ar<|Am C (λc13=>?_)<|λc13=>?_
 ·exact absurd (s4.2 hG) c13
 refine Bc<|Ao<|Ak<|Gf K4 C<|Gl an1 ?_
 refine Gr (E1 (α:=Pt) (xs:=es) Ay C<|A4 hl)<|Ge2 (Dk (α:=Int) (n:=es.length) Ab ef C C C om om dc C) λaa M=>?_
 refine Ga C<|Ar<|A1 (S2 5 1)<|Ax<|Ak<|Ga C<|Ar<|A7<|B9 (σ:=Int) (λs=>([(1,pt b1),(5,.slice aa (List.replicate es.length (default:Int)).length M),(6,e7 s)]:Env)) (λs=>vc 3 (.slice aa (List.replicate es.length (default:Int)).length M) ((cg3 nd es<|s - 1))::e8 b1 [e7 nd,va] 38::I) (λs=>(1<=s/\(s<=nd\/s=1))) (λs=>(nd - s).toNat) 1 (show (1<=(1:Int)/\((1:Int)<=nd\/(1:Int)=1)) from om) (cx2<|Aa Co Bb) (show Fit κ _ (vc 3 (.slice aa (List.replicate es.length (default:Int)).length M) ((cg3 nd es<|(1) - 1))::e8 b1 [e7 nd,va] 38::I) from (by rw [show cg3 nd es (1 - 1)=List.replicate es.length 0 from dn4 hG];exact Az)) ?_
 rintro q hp
 have hq:=hp
 have aq:=T8 nd es (q - 1)
 have ar:=fm5 (lv:=q) hG
 have ao:∀x∈trK nd es q,0<=x/\x<es.length:=λx hx=>((af7 hG).1 hx).1
 refine Ax<|Ak<|Gm C<|Gf ag2 C<|Gl ef ?_
 refine Gr (Bl C C)<|Ar<|Am C (λan=>?_)<|λan=>?_
 ·refine Bc (Ao<|Ax<|A7<|Ak<|Gl2 J8 ?_)
  refine Gm C<|Gc2 (Ac c_ C C<|cw5 (nd:=nd) (lv:=q) (A4 hl) hG om) λah ae=>?_
  refine Ga C<|Ar<|Ax<|Ak<|Gm C<|Gr (Bk Ab C)<|Gr (Cx C C)<|Ar<|A1 (S5 30 7 1 5 6)<|Am C (λak=>?_)<|λak=>?_
  ·refine Ci (Aw<|V.ax0 C<|Aw<|Aw<|Bi<|Ao<|Ak<|Gm C<|Ga C<|Ga C<|Ar<|B3 ?_)
   have hE:cg3 nd es (q - 1)=j6 nd es:=cp2 hG (by first|(left;omega)|(right;rw [Int.sub_add_cancel];exact Hn om))
   have ab:(List.replicate es.length (default:Int)).length=(j6 nd es).length:=by rw [Fy,ai]
   exact C3 C C C (vk 3 aa M (j6 nd es)::I) (by unfold vk;rw [←ab,←hE];exact Az) ⟨aa,M,by rw [←ab],rfl⟩
  refine Bc<|Ao<|Ak<|Gm C<|Gr (Bk Ab C)<|Gm C<|Ar<|A7<|B9 (σ:=Nat×(List Int)) (λs=>([(1,pt b1),(5,.slice aa (List.replicate es.length (default:Int)).length M),(6,e7 q),(31,.slice ah (trK nd es q).length ae),(32,e7<|(((trK nd es q).length:Nat):Int)),(33,e7 ((s.1:Nat):Int))]:Env)) (λs=>vc 3 (.slice aa (List.replicate es.length (default:Int)).length M) (s.2)::vk 3 ah ae (trK nd es q)::e8 b1 [e7 nd,va] 38::I) (λs=>(s.1<=(trK nd es q).length)/\(s.2=cs7 (cg3 nd es<|q - 1) q ((trK nd es q).take s.1))) (λs=>(trK nd es q).length - s.1) (0,cg3 nd es<|q - 1) (show ((0:Nat)<=(trK nd es q).length)/\((cg3 nd es (q - 1):List Int)=cs7 (cg3 nd es<|q - 1) q ((trK nd es q).take (0:Nat))) from ⟨om,rfl⟩) (cx4<|Aa C<|Aa Co Bb) (show Fit κ _ (vc 3 (.slice aa (List.replicate es.length (default:Int)).length M) ((cg3 nd es<|q - 1))::vk 3 ah ae (trK nd es q)::e8 b1 [e7 nd,va] 38::I) from Az) ?_
  rintro ⟨k,out⟩ hp
  dsimp only at hp ⊢
  obtain ⟨hk,ad⟩:=hp
  have au:out.length=(j6 nd es).length:=by rw [ad,af5,T8]
  have av:k<(trK nd es q).length->0<=e_ (trK nd es q) k/\e_ (trK nd es q) k<es.length:=λh=>ao _ (Bp om om)
  refine Ak<|Gr (Bl C C)<|Ar<|Ax<|Am C (λap=>?_)<|λap=>?_
  ·refine Bc (Ao<|Ax<|A7<|Ak<|Gr (A2 (α:=Int) (xs:=trK nd es q) Ab ef C C A5 om om)<|Gr (B6 (xs:=trK nd es q) ef C A5 om om)<|Ga C<|Ar<|A6<|Gm C<|Gm C<|Gm C<|Gr (A2 (α:=Int) (xs:=out) Ab ef C C A5 om om)<|Ge0 (Cw (α:=Int) (xs:=out) (e:=3) (new:=q) ef C C C om om am) ?_)
   exact Bq<|Av<|Ao<|A1 (S6 1 5 6 31 32 33)<|A6<|Gr (Rad C C)<|Gm C<|Bq<|Bt ((k+1),(List.set out (e_ (trK nd es q) k).toNat (q)))<|by dsimp only;exact ⟨om,(by rw [bw9 om,←ad])⟩
  refine Ci<|Aw<|Aw<|Bi<|Av<|Ao<|A6<|Gm C<|Gr (Rad C C)<|Ga C<|Bq ?_
  have aj:out=cg3 nd es (q+1 - 1):=by rw [ad,Fv om,fb3 hG hq.1,Int.add_sub_cancel]
  exact Bt ((q+1)) om (hI:=by (try dsimp only);exact (by rw [←aj];exact Az))
 refine Ci<|Aw<|Aw<|Bi<|Ao<|Ak<|Gm C<|Ga C<|Ga C<|Ar<|B3 ?_
 have hE:cg3 nd es (q - 1)=j6 nd es:=cp2 hG (by first|(left;omega)|(right;rw [Int.sub_add_cancel];exact Hn om))
 have ab:(List.replicate es.length (default:Int)).length=(j6 nd es).length:=by rw [Fy,ai]
 exact C3 C C C (vk 3 aa M (j6 nd es)::I) (by unfold vk;rw [←ab,←hE];exact Az) ⟨aa,M,by rw [←ab],rfl⟩
end Go.Sl
namespace Go.Sl
open Go.Proofs
set_option maxRecDepth 4000
variable{by' x:Int}{xs:List Int}{w:Nat}
def Y0(by':Int)(xs:List Int)(w:Int):List Int:=List.set xs w.toNat (e_ xs w+by')
theorem J3:∀(ls xs:List Int),(ls.foldl (Y0 by') xs).length=xs.length
 |[],xs=>rfl
 |w::ls,xs=>by rw [Hy,J3];unfold Y0;rw [Fo]
theorem dj1{w:Int}(M:0<=w/\w<xs.length)(h0:0<=x):e_ (Y0 by' xs w) x=e_ xs x+by'*ind (decide (w=x)):=by
 unfold Y0
 rw [Ei xs w x _ M.1 h0 M.2,E4]
 by_cases h:w=x
 ·subst h;rw [B_ rfl,B_ rfl,Mh]
 rw [An h,An h,K_,Jz]
theorem ac8:∀(ls xs:List Int),(∀w∈ls,0<=w/\w<xs.length)->∀x:Int,0<=x->e_ (ls.foldl (Y0 by') xs) x=e_ xs x+by'*(ls.map λw=>ind (decide (w=x))).sum
 |[],xs,_,x,_=>by rw [Le,Kq,List.sum_nil,K_,Jz]
 |w::ls,xs,h,x,h0=>by
  have M:(Y0 by' xs w).length=xs.length:=by unfold Y0;rw [Fo]
  rw [Hy,ac8 ls _ (λy hy=>by rw [M];exact h y<|C_ _ hy) x h0,dj1 (h w A_) h0,Hg,Jb,Lq,Int.add_assoc]
theorem M1:∀{ls:List Int},ls.Nodup->∀x:Int,(ls.map λw=>ind (decide (w=x))).sum=if x∈ls then 1 else 0
 |[],_,x=>by rw [An (by simp)];rfl
 |w::ls,h,x=>by
  obtain ⟨M,h2⟩:=Hx.1 h
  rw [Hg,Jb,M1 h2,E4]
  by_cases e:w=x
  ·subst e;rw [B_ rfl,An M,B_ A_];rfl
  rw [An e,Mm]
  by_cases hm:x∈ls
  ·rw [B_ hm,B_<|C_ _ hm]
  rw [An hm,An<|λq=>(Fw.1 q).elim (λq=>e q.symm) hm]
section
variable {nd:Int}{es es':List Pt}{u v:Int}
theorem bz7(M:s6 nd es){l:List Int}(hl:(l.length:Int)=nd)(h:∀x,p8 nd x->e_ l x=e_ (j9 nd es) x):l=j9 nd es:=by
 have h1:=G0 M
 exact E6 om λi hi=>h _ ⟨by omega,by omega⟩
def H3(nd:Int)(es:List Pt):List Int:=(List.range nd.toNat).map λw:Nat=>ds7 nd es (w:Int)
def r8(nd:Int)(es:List Pt):List Int:=(List.range nd.toNat).map λw:Nat=>ah2 nd es w
theorem G8(nd:Int)(es:List Pt):(H3 nd es).length=nd.toNat:=by unfold H3;rw [F_,Jy]
theorem F7(nd:Int)(es:List Pt):(r8 nd es).length=nd.toNat:=by unfold r8;rw [F_,Jy]
theorem an8(h:w<nd.toNat):e_ (H3 nd es) w=ds7 nd es (w:Int):=by
 rw [Ct _ w (by rw [G8];exact h)];unfold H3;rw [Jj,List.getElem_range]
theorem ab9(h:w<nd.toNat):e_ (r8 nd es) w=ah2 nd es w:=by
 rw [Ct _ w (by rw [F7];exact h)];unfold r8;rw [Jj,List.getElem_range]
theorem R5.common(h:R5 nd es es' u v):j3 nd es' u v=j3 nd es u v:=by
 have he:=h.ends
 unfold F5 at he
 have M:u≠v:=he.2.2.2.2
 unfold j3
 rw [An M,An M]
 refine as2.uniq ((R9 _).sublist He) ((R9 _).sublist He) λw=>?_
 rw [T1,T1,h.nb,h.nb]
 constructor
 ·rintro ⟨a|⟨_,a⟩|⟨a,_⟩,b|⟨b,_⟩|⟨_,b⟩⟩
  ·exact ⟨a,b⟩
  ·exact absurd b.symm M
  ·exact absurd (b▸a)<|λq=>(N3 h.ok q).2.2 rfl
  ·exact absurd (a▸b)<|λq=>(N3 h.ok q).2.2 rfl
  ·exact absurd b.symm M
  ·omega
  ·exact absurd a M
  ·exact absurd a M
  exact absurd a M
 rintro ⟨a,b⟩;exact ⟨.inl a,.inl b⟩
def cr7(by':Int)(T:List Int)(u v:Int)(xs:List Int):List Int:=Y0 (by'*(T.length:Int)) (Y0 (by'*(T.length:Int)) (T.foldl (Y0 by') xs) u) v
theorem db8{T:List Int}(hn:T.Nodup)(hT:∀w∈T,0<=w/\w<xs.length)(hu:0<=u/\u<xs.length)(hv:0<=v/\v<xs.length)(M:0<=x) :
  e_ (cr7 by' T u v xs) x=e_ xs x+by'*((if x∈T then 1 else 0)+((if x=u then (T.length:Int) else 0)+if x=v then (T.length:Int) else 0)):=by
 unfold cr7
 have hl:=J3 (by':=by') T xs
 have aa:(Y0 (by'*(T.length:Int)) (T.foldl (Y0 by') xs) u).length=xs.length:=by unfold Y0;rw [Fo];exact hl
 rw [dj1 (by rw [aa];exact hv) M,dj1 (by rw [hl];exact hu) M,ac8 T xs hT x M,M1 hn,E4,E4,Lq,Lq]
 by_cases q1:x=u<;>by_cases q2:x=v
 ·rw [B_ q1.symm,B_ q2.symm,B_ q1,B_ q2,Mh];omega
 ·rw [B_ q1.symm,An<|Me q2,B_ q1,An q2,Mh,K_,K_];omega
 ·rw [An (Me q1),B_ q2.symm,An q1,B_ q2,Mh,K_,K_];omega
 rw [An (Me q1),An<|Me q2,An q1,An q2,K_,K_];omega
theorem az6(by':Int)(T:List Int)(u v:Int)(xs:List Int):(cr7 by' T u v xs).length=xs.length:=by unfold cr7 Y0;rw [Fo,Fo];exact J3 _ _
theorem R5.bw0(h:R5 nd es es' u v):cr7 1 (j3 nd es u v) u v (H3 nd es)=H3 nd es'/\cr7 (-1) (j3 nd es u v) u v (H3 nd es')=H3 nd es:=by
 have he:=h.ends
 unfold F5 at he
 have M:u≠v:=he.2.2.2.2
 have hr:∀(fs:List Pt),∀w∈j3 nd es u v,0<=w/\w<(H3 nd fs).length:=λfs w hw=>by
  have:=(N3 h.ok ((P1 h.ok M).1 hw).1).2.1
  rw [G8];omega
 have h2:=h.tri.2
 constructor
 ·refine E6 (by rw [az6,G8,G8]) λi hi=>?_
  rw [az6,G8] at hi
  rw [db8 (H4 nd es u v) (hr es) (by rw [G8];omega) (by rw [G8];omega) om,an8 hi,an8 hi,h2 i];omega
 refine E6 (by rw [az6,G8,G8]) λi hi=>?_
 rw [az6,G8] at hi
 rw [db8 (H4 nd es u v) (hr es') (by rw [G8];omega) (by rw [G8];omega) om,an8 hi,an8 hi,h2 i];omega
def N4(u v:Int)(p:Pt):List Int:=[u,v,p.u,p.v]
def ah3(by':Int)(O:List Pt)(u v:Int)(xs:List Int):List Int:=(O.flatMap (N4 u v)).foldl (Y0 by') xs
theorem ck0(hG:s6 nd es)(hu:p8 nd u)(hv:p8 nd v)(hl:xs.length=nd.toNat)(h0:0<=x) :
  e_ (ah3 by' (p7 nd es u v) u v xs) x=e_ xs x+by'*((p7 nd es u v).map λp=>(((ind (decide<|u=x)+ind (decide<|v=x))+ind (decide<|p.u=x))+ind (decide<|p.v=x))).sum:=by
 unfold ah3
 unfold p8 at hu hv
 rw [ac8 _ xs (λw M=>by
  obtain ⟨p,hp,M⟩:=Kv.1 M
  have hr:=br6 hG hp
  unfold p8 at hr
  unfold N4 at M
  simp only [Fw,Kb,Mo] at M
  rcases M with rfl|rfl|rfl|rfl<;>omega) x h0,bc4]
 congr 3
 refine Ks λp _=>?_
 show ind _+(ind _+(ind _+(ind _+0)))=_
 omega
theorem ar2(by':Int)(O:List Pt)(u v:Int)(xs:List Int):(ah3 by' O u v xs).length=xs.length:=J3 _ _
theorem R5.bm3(h:R5 nd es es' u v):ah3 1 (p7 nd es u v) u v (r8 nd es)=r8 nd es'/\ah3 (-1) (p7 nd es u v) u v (r8 nd es')=r8 nd es:=by
 have M:=h.ends
 unfold F5 at M
 have hu:p8 nd u:=⟨M.1,M.2.2.1⟩
 have hv:p8 nd v:=⟨M.2.1,M.2.2.2.1⟩
 have h2:=h.ft8.2.1
 constructor
 ·refine E6 (by rw [ar2,F7,F7]) λi hi=>?_
  rw [ar2,F7] at hi
  rw [ck0 h.ok hu hv (F7 _ _) om,ab9 hi,ab9 hi,h2 i hi];omega
 refine E6 (by rw [ar2,F7,F7]) λi hi=>?_
 rw [ar2,F7] at hi
 rw [ck0 h.ok hu hv (F7 _ _) om,ab9 hi,ab9 hi,h2 i hi];omega
structure TrB (nd:Int) (es':List Pt) (b:List Int):Prop where
 len:b.length=es'.length
 low:∀i:Int,0<=i->i<es'.length->0<=e_ (j6 nd es') i/\e_ (j6 nd es') i<=e_ b i
theorem ap9(M:s6 nd es){i:Int}(h0:0<=i)(h1:i<es.length):0<=e_ (j6 nd es) i:=(ak7 M h0 (by rw [G3 M];exact h1)).1
end
end Go.Sl
namespace Go.Sl
open Go.Proofs
set_option maxRecDepth 4000
variable{a b m:BitVec 64}{lv u:Int}{va:Value}{num:List Int}{j:Nat}
variable {κ:Ctx}{I:List Item}
attribute [local irreducible] W G V D A j8 Eff
theorem ae0{k:Int}(h:0<=k/\k<64):u∈eo (m ||| H9 k)↔u∈eo m\/u=k:=by rw [ca3 h.1 h.2];exact bx9 h.1 h.2
theorem br8{P:Int->Prop}{k:Nat}(hm:∀x,x∈eo m↔(0<=x/\x<(k:Int))/\P x)(hk:k<64)(h:P (k:Int)):∀x,x∈eo (m ||| H9 (k:Int))↔(0<=x/\x<((k+1:Nat):Int))/\P x:=λx=>by
 rw [ae0 om,hm]
 constructor
 ·rintro (⟨h1,M⟩|rfl)
  ·exact ⟨by omega,M⟩
  exact ⟨by omega,h⟩
 rintro ⟨h1,M⟩
 by_cases e:x=(k:Int)
 ·exact .inr e
 exact .inl ⟨by omega,M⟩
theorem cm5{P:Int->Prop}{k:Nat}(hm:∀x,x∈eo m↔(0<=x/\x<(k:Int))/\P x)(h:¬P (k:Int)):∀x,x∈eo m↔(0<=x/\x<((k+1:Nat):Int))/\P x:=λx=>by
 rw [hm]
 constructor
 ·rintro ⟨h1,M⟩;exact ⟨by omega,M⟩
 rintro ⟨h1,M⟩
 refine ⟨⟨h1.1,?_⟩,M⟩
 by_cases e:x=(k:Int)
 ·subst e;exact absurd M h
 omega
theorem cq7(hl:Sl κ I va num)(ab:num.length<=64):eu prog κ 275 [va,e7 lv] I (λr J=>∃m:BitVec 64,r=U64 m/\(∀x,x∈eo m↔(0<=x/\x<(num.length:Int))/\e_ num x=lv)/\I=J):=by
 refine Ce2 Tryz.func275 C C<|Z ?_
 refine Dh (σ:=Nat×(BitVec 64)) (λs=>[(5,U64<|s.2),(10,e7 ((s.1:Nat):Int))]) (λ_=>[]) (λs=>(s.1<=num.length)/\(∀x,x∈eo s.2↔(0<=x/\x<((s.1:Nat):Int))/\e_ num x=lv)) (λs=>num.length - s.1) (0,0#64) ⟨om,(λx=>by rw [D4];exact ⟨(λh=>by cases h),(λh=>by omega)⟩)⟩ ?_
 rintro ⟨k,m⟩ hp
 dsimp only at hp ⊢
 obtain ⟨hk,hm⟩:=hp
 refine Z ?_
 refine Am C (λc11=>Z ?_)<|λc11=>Z ?_
 ·refine Am C (λM=>Z ?_) (λM=>Z ?_)
  ·refine G.e (Ac c_ C C<|ac5 (k:Int)) ?_
   rintro _ _ ⟨_,_,⟨rfl,rfl⟩,rfl,rfl⟩
   refine Gr (Ec (a:=m) (b:=H9 (k:Int)) C C)<|Z ?_
   exact Bt ((k+1),(m ||| (H9 (k:Int))))<|by dsimp only;exact ⟨om,(by first|exact br8 (P:=(λx:Int=>e_ num x=lv)) hm om M|exact cm5 (P:=(λx:Int=>e_ num x=lv)) hm M)⟩
  exact Bt ((k+1),(m))<|by dsimp only;exact ⟨om,(by first|exact br8 (P:=(λx:Int=>e_ num x=lv)) hm om M|exact cm5 (P:=(λx:Int=>e_ num x=lv)) hm M)⟩
 have aa:k=num.length:=by omega
 exact Al C C I Ah ⟨m,rfl,by rw [←aa];exact hm,rfl⟩
theorem cr3(hl:Sl κ I va num)(ab:num.length<=64):eu prog κ 273 [va,e7 lv] I (λr J=>∃m:BitVec 64,r=U64 m/\(∀x,x∈eo m↔(0<=x/\x<(num.length:Int))/\lv<e_ num x)/\I=J):=by
 refine Ce2 Tryz.func273 C C<|Z ?_
 refine Dh (σ:=Nat×(BitVec 64)) (λs=>[(5,U64<|s.2),(10,e7 ((s.1:Nat):Int))]) (λ_=>[]) (λs=>(s.1<=num.length)/\(∀x,x∈eo s.2↔(0<=x/\x<((s.1:Nat):Int))/\lv<e_ num x)) (λs=>num.length - s.1) (0,0#64) ⟨om,(λx=>by rw [D4];exact ⟨(λh=>by cases h),(λh=>by omega)⟩)⟩ ?_
 rintro ⟨k,m⟩ hp
 dsimp only at hp ⊢
 obtain ⟨hk,hm⟩:=hp
 refine Z ?_
 refine Am C (λc11=>Z ?_)<|λc11=>Z ?_
 ·refine Am C (λM=>Z ?_) (λM=>Z ?_)
  ·refine G.e (Ac c_ C C<|ac5 (k:Int)) ?_
   rintro _ _ ⟨_,_,⟨rfl,rfl⟩,rfl,rfl⟩
   refine Gr (Ec (a:=m) (b:=H9 (k:Int)) C C)<|Z ?_
   exact Bt ((k+1),(m ||| (H9 (k:Int))))<|by dsimp only;exact ⟨om,(by first|exact br8 (P:=(λx:Int=>lv<e_ num x)) hm om M|exact cm5 (P:=(λx:Int=>lv<e_ num x)) hm M)⟩
  exact Bt ((k+1),(m))<|by dsimp only;exact ⟨om,(by first|exact br8 (P:=(λx:Int=>lv<e_ num x)) hm om M|exact cm5 (P:=(λx:Int=>lv<e_ num x)) hm M)⟩
 have aa:k=num.length:=by omega
 exact Al C C I Ah ⟨m,rfl,by rw [←aa];exact hm,rfl⟩
theorem N0:u∈eo (a &&& ~~~b)↔u∈eo a/\u∉eo b:=by
 constructor
 ·intro h
  have hu:=En h
  rw [D3,Ke,Mp,Hc] at h
  rw [D3,D3]
  refine ⟨⟨h.1,h.2.1⟩,λh3=>?_⟩
  rw [h3.2] at h;simp at h
 rintro ⟨M,h2⟩
 have hu:=En M
 rw [D3] at M h2
 rw [D3,Ke,Mp,Hc]
 refine ⟨M.1,M.2,?_⟩
 have h3:b.getLsbD u.toNat=false:=by cases e:b.getLsbD u.toNat with |false=>rfl|true=>exact absurd ⟨M.1,e⟩ h2
 rw [h3];simp;omega
theorem ce6(h:∃u,u∈eo a/\u∈eo b):(eo (a &&& ~~~b)).length<(eo a).length:=by
 obtain ⟨u,h1,h2⟩:=h
 have M:∀x∈u::eo (a &&& ~~~b),x∈eo a:=λx hx=>by
  rcases Fw.1 hx with rfl|hx
  ·exact h1
  exact (N0.1 hx).1
 have:=Hk (Hx.2 ⟨λhx=>(N0.1 hx).2 h2,Df _⟩) M
 simp at this;omega
structure do9 (rows:List (BitVec 64)) (F A:BitVec 64) (k:Int) (S:BitVec 64):Prop where
 sub:∀x∈eo S,x∈eo F
 most:∀T:BitVec 64,(∀x∈eo T,x∈eo F)->(∀x∈eo T,k<=((Q3 rows (T ||| A) x:Nat):Int))->∀x∈eo T,x∈eo S
def da4(rows:List (BitVec 64))(A:BitVec 64)(k:Int)(S bad:BitVec 64)(j:Nat):Prop:=∀x,x∈eo bad↔x∈(eo S).take j/\((Q3 rows (S ||| A) x:Nat):Int)<k
section
variable {rows:List (BitVec 64)}{F A S bad:BitVec 64}{k:Int}
theorem do9.start:do9 rows F A k F:=⟨λx M=>M,λT h _=>h⟩
theorem do9.done(h:do9 rows F A k S)(hb:da4 rows A k S 0#64 (eo S).length):fu7 rows F A k S:=by
 refine ⟨h.sub,λx hx=>?_,h.most⟩
 have M:=(hb x).2
 rw [Hb,D4] at M
 exact Gb λhn=>absurd (M ⟨hx,by omega⟩)<|by simp
theorem do9.step(h:do9 rows F A k S)(hb:da4 rows A k S bad (eo S).length):do9 rows F A k (S &&& ~~~bad):=by
 refine ⟨λx M=>h.sub x (N0.1 M).1,λT h1 h2 x M=>N0.2 ⟨h.most T h1 h2 x M,λaa=>?_⟩⟩
 have h3:=((hb x).1 aa).2
 have h4:=h2 x M
 have h5:=bg3 (rows:=rows) (W:=T ||| A) (L:=S ||| A) (λy hy=>by
  rw [am1] at hy ⊢
  exact hy.imp (λhy=>h.most T h1 h2 y hy) id) x
 omega
theorem do9.less(hb:da4 rows A k S bad (eo S).length)(M:¬bad=0#64):(eo (S &&& ~~~bad)).length<(eo S).length:=by
 obtain ⟨u,hu⟩:=ba2.1 M
 exact ce6 ⟨u,Hw ((hb u).1 hu).1,hu⟩
theorem da4.start:da4 rows A k S 0#64 0:=λx=>by rw [D4,Js];exact ⟨(λh=>by cases h),(λh=>by cases h.1)⟩
theorem co7(v:Int)(W:BitVec 64):ac7 (e_ rows v &&& W)=((Q3 rows W v:Nat):Int):=br0 _
theorem da4.yes(h:da4 rows A k S bad j)(hj:j<(eo S).length)(hc:ac7 (e_ rows (e_ (eo S) j) &&& (S ||| A))<k):da4 rows A k S (bad ||| H9 (e_ (eo S) j)) (j+1):=λx=>by
 have hr:=En (Bp (xs:=eo S) (i:=(j:Int)) om om)
 rw [co7] at hc
 rw [ae0 hr,h x,Ca _ j hj,Gt,Gc]
 constructor
 ·rintro (⟨h1,M⟩|rfl)
  ·exact ⟨.inl h1,M⟩
  exact ⟨.inr rfl,hc⟩
 rintro ⟨h1|h1,M⟩
 ·exact .inl ⟨h1,M⟩
 exact .inr h1
theorem da4.no(h:da4 rows A k S bad j)(hj:j<(eo S).length)(hc:¬ac7 (e_ rows (e_ (eo S) j) &&& (S ||| A))<k):da4 rows A k S bad (j+1):=λx=>by
 rw [co7] at hc
 rw [h x,Ca _ j hj,Gt,Gc]
 constructor
 ·rintro ⟨h1,M⟩;exact ⟨.inl h1,M⟩
 rintro ⟨h1|h1,M⟩
 ·exact ⟨h1,M⟩
 subst h1;exact absurd M hc
end
theorem cb1{κ:Ctx}{I:List Item}{rows:List (BitVec 64)}{F A:BitVec 64}{k:Int}(hl:Sl κ I va rows)(ao:rows.length<=64)(hF:∀x∈eo F,0<=x/\x<(rows.length:Int))(hT:F4 κ I 0 p6):eu prog κ 272 [va,U64 F,U64 A,e7 k] I (λr J=>∃S:BitVec 64,r=U64 S/\fu7 rows F A k S/\I=J):=by
 refine Ce4 Tryz.func272 C C<|Z ?_
 refine Dh (σ:=(BitVec 64)) (λs=>[(1,U64 s)]) (λ_=>[]) (λs=>(do9 rows F A k s)) (λs=>(eo s).length) F do9.start ?_
 rintro S hp
 have hS:=hp
 have ad:=fun (x:Int) hx=>hF x (hS.sub x hx)
 have an:=Es S
 refine Z ?_
 refine Gc2 (Ac c_ C C<|ac3 S<|A8 hT Ah) λaj ap=>Z ?_
 refine Dh (σ:=Nat×(BitVec 64)) (λs=>[(9,U64<|s.2),(15,e7 ((s.1:Nat):Int))]) (λ_=>[]) (λs=>(s.1<=(eo S).length)/\(da4 rows A k S s.2 s.1)) (λs=>(eo S).length - s.1) (0,0#64) ⟨om,da4.start⟩ ?_
 rintro ⟨j,bad⟩ hp
 dsimp only at hp ⊢
 obtain ⟨hj,hb⟩:=hp
 have ak:=λh:j<(eo S).length=>ad _ (Bp (xs:=eo S) (i:=(j:Int)) om om)
 refine Z ?_
 refine Am C (λai=>Z ?_)<|λai=>?_
 ·refine Gr (Ec (a:=S) (b:=A) C C) (Gr (Eh (a:=(e_ rows<|e_ (eo S) j)) (b:=S ||| A) C C)<|Gc0 (Ac c_ C C<|bi1<|(e_ rows<|e_ (eo S) j) &&& (S ||| A))<|Z ?_)
  refine Am C (λaa=>Z ?_)<|λaa=>Z ?_
  ·refine G.e (Ac c_ C C<|ac5<|e_ (eo S) j) ?_
   rintro _ _ ⟨_,_,⟨rfl,rfl⟩,rfl,rfl⟩
   refine Gr (Ec (a:=bad) (b:=H9 (e_ (eo S) j)) C C)<|Z ?_
   exact Bt ((j+1),(bad ||| (H9<|e_ (eo S) j)))<|by dsimp only;exact ⟨om,(by first|exact hb.yes om aa|exact hb.no om aa)⟩
  exact Bt ((j+1),(bad))<|by dsimp only;exact ⟨om,(by first|exact hb.yes om aa|exact hb.no om aa)⟩
 refine Ci<|Aw<|Aw<|Bi<|Ao<|Ax<|Ak<|Gm C ?_
 have ae:j=(eo S).length:=by omega
 have M:=hb
 rw [ae] at M
 refine Gr (j8.eqB (a:=bad) (b:=0#64) C C)<|Ar<|Am C (λab=>Z ?_)<|λab=>Z ?_
 ·have ah:bad=0#64:=ab
  rw [ah] at M
  exact Al C C I Ah ⟨S,rfl,hS.done M,rfl⟩
 exact Gr (Ey (a:=S) (b:=bad) C C)<|Ga C<|Bq<|Av<|Bt ((S &&& ~~~bad)) (hS.step M) (hlt:=by (try dsimp only);exact (do9.less M ab))
end Go.Sl
namespace Go.Sl
open Go.Proofs
set_option maxRecDepth 4000
variable{b':Int}{ls num:List Int}{k:Nat}
theorem be9(hn:ls.Nodup)(M:∀w∈ls,0<=w/\w<(num.length:Int))(hk:k<ls.length):e_ ((ls.take k).foldl (Y0 b') num) (e_ ls k)=e_ num (e_ ls k):=by
 have h0:=M _ (Bp (xs:=ls) (i:=(k:Int)) om om)
 rw [ac8 _ _ (λw hw=>M w<|Hw hw) _ h0.1,M1<|hn.sublist<|Lc _ _,An,K_,Jz]
 intro hm
 obtain ⟨i,hi,e⟩:=Hu hm
 rw [Fp] at hi
 rw [Kh,Ct ls k hk] at e
 exact absurd e<|λe=>(H1.1<|List.nodup_iff_pairwise_ne.1 hn) i k om hk om e
theorem as5{out:List Int}(M:k<ls.length)(ho:out=(ls.take k).foldl (Y0 b') num):List.set out (e_ ls k).toNat (e_ out (e_ ls k)+b')=(ls.take (k+1)).foldl (Y0 b') num:=by
 rw [Ca ls k M,Hd,←ho];rfl
theorem cq3{κ:Ctx}{I:List Item}{nd nd':Int}{va:Value}{ga na:Option Addr}{gn gc nc:Nat}{S:BitVec 64}(hl:Sl κ I (.slice na num.length nc) num)(hS:∀x∈eo S,0<=x/\x<(num.length:Int))(an:∀x∈num,0<=x/\x<=1000)(hb : -1<=b'/\b'<=1)(au:num.length<=64)(hT:F4 κ I 0 p6):eu prog κ 271 [.agg #[e7 nd,va,.slice na num.length nc],.agg #[e7 (nd'),.slice ga gn gc],U64 S,e7 (b')] I (λr J=>∃(a:Option Addr) (c:Nat) (a2:Option Addr) (c2:Nat),r = .tuple #[.agg #[e7 nd',.slice ga gn gc,.slice a num.length c],.slice a2 (eo S).length c2]/\J=vk 3 a2 c2 (eo S)::vc 3 (.slice a num.length c) ((eo S).foldl (Y0 b') num)::I):=by
 have ar:=Es S
 refine Ce4 Tryz.func271 C C ?_
 refine Ak<|Ge1 (Au (cs:=[_,_,_]) C C C) λb1=>Ge1 (Au (cs:=[_,_]) C C C) λb2=>Ge1 (Aj ab7 C) λb3=>Ga C<|Ar<|Ak<|Gf ao5 C<|Gl U1 ?_
 refine Gc2 (Ac c_ C C<|ah1 (xs:=num) (A4 hl) om) λaa ab=>?_
 refine Ga C<|Ar<|Ax<|Ak<|Gm C<|Gc2 (Ac c_ C C<|ac3 S<|A8 hT Ah) λaj ae=>?_
 refine Gr (Bk Ab C)<|Gm C<|Ar<|A1 (S8 19 18 17 10 8 5 2 3)<|A7<|B9 (σ:=Nat×(List Int)) (λs=>([(2,U64 S),(3,e7<|b'),(5,pt b2),(8,pt b3),(10,.slice aa num.length ab),(17,.slice aj (eo S).length ae),(18,e7<|(((eo S).length:Nat):Int)),(19,e7 ((s.1:Nat):Int))]:Env)) (λs=>vk 3 aj ae (eo S)::vc 3 (.slice aa num.length ab) (s.2)::e8 b3 [e7 0,.slice none 0 0,.slice none 0 0] 40::e8 b2 [e7 (nd'),.slice ga gn gc] 38::e8 b1 [e7 nd,va,.slice na num.length nc] 40::I) (λs=>(s.1<=(eo S).length)/\(s.2=((eo S).take s.1).foldl (Y0 b') num)) (λs=>(eo S).length - s.1) (0,num) ⟨om,rfl⟩ (cx4<|cx2<|Aa C<|Aa Co Bb) Ai ?_
 rintro ⟨k,out⟩ hp
 dsimp only at hp ⊢
 obtain ⟨hk,ho⟩:=hp
 have av:out.length=num.length:=by rw [ho];exact J3 _ _
 have M:=λh:k<(eo S).length=>hS _ (Bp (xs:=(eo S)) (i:=(k:Int)) om om)
 have ad:=λh:k<(eo S).length=>be9 (b':=b') (num:=num) (Df S) hS h
 rw [←ho] at ad
 have ah:=λh:k<(eo S).length=>an _ (Bp (xs:=num) (i:=e_ (eo S) k) (M h).1 (M h).2)
 refine Ak<|Gr (Bl C C)<|Ar<|Ax<|Am C (λap=>?_)<|λap=>?_
 ·refine Bc (Ao<|Ax<|A7<|Ak<|Gr (A2 (α:=Int) (xs:=eo S) Ab ef C C A5 (by have h8:=M om;omega)<|by first|omega|(have h8:=M om;omega))<|Gr (B6 (xs:=eo S) ef C A5 (by have h8:=M om;omega)<|by first|omega|(have h8:=M om;omega))<|Ga C<|Ar<|A6<|Gm C<|Gm C<|Gr (A2 (α:=Int) (xs:=out) Ab ef C C A5 (by have h8:=M om;omega)<|by first|omega|(have h8:=M om;omega))<|Gr (B6 (xs:=out) ef C A5 (by have h8:=M om;omega)<|by first|omega|(have h8:=M om;omega))<|Gm C<|Gr (Cv C C<|by first|(unfold InR;omega)|(have h7:=ad om;have h8:=ah om;unfold InR;omega))<|Gr (A2 (α:=Int) (xs:=out) Ab ef C C A5 (by have h8:=M om;omega)<|by first|omega|(have h8:=M om;omega))<|Ge0 (Cw (α:=Int) (xs:=out) (e:=3) (new:=(e_ out<|e_ (eo S) k)+b') ef C C C (by have h8:=M om;omega) (by first|omega|(have h8:=M om;omega)) am) ?_)
  exact Bq<|Av<|Ao<|A1 (S8 2 3 5 8 10 17 18 19)<|A6<|Gr (Cv C C<|by first|(unfold InR;omega)|(have h7:=ad om;have h8:=ah om;unfold InR;omega))<|Gm C<|Bq<|Bt ((k+1),(List.set out (e_ (eo S) k).toNat ((e_ out<|e_ (eo S) k)+b')))<|by dsimp only;exact ⟨om,(as5 om ho)⟩
 refine Ci<|Aw<|Aw<|Bi<|Ao<|Ax<|Ba mixed<|Ee 5<|Dr 0 C (Bm (vs:=[_,_]) J8) ?_
 refine Dr 1 C (Aq C)<|Dr 2 C (Cl (cells:=[_,_,_]) ab7 Tryz.underlying40 gk1 C C)<|Ds1 3<|Sr C (Aq C) Ah ?_
 refine Ds1 4<|Sc2 C (Ac c_ C C<|ac3 S<|A8 hT Ah) λai ak=>?_
 refine Cg kr ?_
 refine Ae 5 C (Da ab7) ?_
 rintro _ _ ⟨rfl,rfl⟩
 refine Dg (i:=6) kr C (Ap C) C C (Bh C) ?_
 refine Ch kr ?_
 refine Ao<|A1 (S2 9 8)<|B3 ?_
 have ao:out=((eo S).foldl (Y0 b') num):=by rw [ho,show k=(eo S).length by omega,Hb]
 have aq:=J3 (by':=b') (eo S) num
 exact Cp C ab7 C C mm C (vk 3 ai ak (eo S)::vc 3 (.slice aa num.length ab) ((eo S).foldl (Y0 b') num)::I) (by unfold vk;rw [←ao];exact Az) ⟨aa,ab,ai,ak,rfl,rfl⟩
end Go.Sl
namespace Go.Sl
open Go.RowKit (Below)
variable{x y y':Operand}{E T by' c h n:Nat}{ag:Bool}{z:List Value}{ad:Option Addr}{m:Int}
section
variable {P:Program}{κ:Ctx}{N:Frm}{Q:Exit->Act->World->Prop}{L:Env}{I J:List Item}
variable {d:Option Tmp}{ty:TypeId}{ps:String}{af:Array Edge}{gd:Option (Nat×Bool)}
theorem j8.gk6{α:Type}[Enc α]{xs:List α}(ht:P.underlying T=some (.slice E))(hE:tyF P E=some (Enc.sz α,ag,by',z))(hx:er L x=some (.slice ad n c))(hy:er L y=some (e7 m))(M:er L y'=some (e7 m))(hm:m=(h:Int))
  (hv:Sl κ J (.slice ad n c) xs) (hh:h<=xs.length):j8 P κ N ⟨d,.slice T x none (some y)<|some y',ty,ps,af,gd⟩ L J (.slice ad (xs.take h).length h):=by
 by_cases h1:0<h
 ·exact j8.hi3 ht hE hx hy M hm hv hh h1
 obtain rfl:h=0:=by omega
 intro a w ha hs
 subst hm
 obtain ⟨_,_,he,_,h2,_⟩:=hv w hs
 cases he
 have aa:(Instr.sliceBounds true xs.length c none (some<|a.eval y)<|some<|a.eval y').run P w = .ok (0,0,0) w:=by
  simp [Instr.sliceBounds,ha.eval hy,ha.eval M,Instr.sliceBound,asIntOf]
 have e:ad.map (λx=>x.add 0)=ad:=by cases ad<;>simp [Addr.add]
 simp [execOp,Instr.sliceAt,Instr.slice,run_underlying ht,ha.eval hx,aa,run_sizeOf hE,e]
theorem j8.gg9{α:Type}[Enc α]{xs:List α}(ht:P.underlying T=some (.slice E))(hE:tyF P E=some (Enc.sz α,ag,by',z))(hx:er L x=some (.slice ad n c))(hy:er L y=some (e7 m))(M:er L y'=some (e7 ((c:Nat):Int)))(hm:m=(h:Int))
  (hv:Sl κ J (.slice ad n c) xs) (hh:h<=xs.length) (h1:0<xs.length):j8 P κ N ⟨d,.slice T x none (some y)<|some y',ty,ps,af,gd⟩ L J (.slice ad (xs.take h).length c):=λa w ha hs=>by
 subst hm
 obtain ⟨_,_,he,_,h2,_⟩:=hv w hs
 cases he
 have hc:h<=c:=by omega
 have h3:((h:Int)<=(c:Int)):=by omega
 have ab:(Instr.sliceBounds true xs.length c none (some<|a.eval y)<|some<|a.eval y').run P w = .ok (0,h,c) w:=by
  simp [Instr.sliceBounds,ha.eval hy,ha.eval M,Instr.sliceBound,asIntOf,hc]
 have aa:¬c=0:=by omega
 have e:ad.map (λx=>x.add 0)=ad:=by cases ad<;>simp [Addr.add]
 simp [execOp,Instr.sliceAt,Instr.slice,run_underlying ht,ha.eval hx,ab,run_sizeOf hE,aa,e,Fp,Mi hh]
theorem dd7{P:Program}{w:World}{t e:TypeId}(ht:P.underlying t=some (.slice e)){sz:Nat}(hT:tyF P e=some (sz,ag,by',z))(M:z.length=sz)(n:Nat)
  (ab:n<=maxLen) (ai:n*by'<=281474976710656) :
  ∃v' w',(Instr.makeSlice t (.int .i64 0)<|.int .i64 n).run P w = .ok v' w'/\av0 w' e sz v' 0 []/\
   w'.os=w.os/\(w'.tape=w.tape/\w.drawn<=w'.drawn)/\w'.output=w.output/\w.heap.size<=w'.heap.size/\
   (∀k,k<w.heap.size->w'.heap[k]? = w.heap[k]?)/\(∀k,cs8 v' k->(w.heap.size<=k/\k<w'.heap.size)):=by
 obtain ⟨i,zv,d,hi,hz,hd,ae,ao,ak,aj⟩:=af1 hT
 have hw:IntKind.i64.wrap (n:Int)=n:=Go.IntWalk.i64_in _ (by simp only [maxLen] at ab;omega)
 have ad:IntKind.i64.wrap (0:Int)=0:=Go.IntWalk.i64_in _ (by omega)
 have h1:¬((n:Int)<0):=by omega
 have h2:¬(281474976710656<(i.bytes:Int)*n):=by
  rw [ak]
  have h:=Mn.2 ai
  rw [Int.natCast_mul,Int.mul_comm] at h
  omega
 have aa:(Array.range<|n*sz).map (λj=>zv.cells[j % zv.cells.size]!)=(List.replicate n z).flatten.toArray:=by
  apply Array.ext'
  simp only [Md,Ll]
  rw [aj]
  apply Mt
  intro j
  simp only [Kr,Ji,M]
  by_cases hj:j<n*sz
  ·have hs:0<sz:=Ky λh=>by subst h;simp at hj
   rw [Ml hj]
   have ah:j % sz<z.length:=by rw [M];exact Nat.mod_lt _ hs
   rw [aa9 z n j (by rw [M];exact hs) (by rw [M];exact hj),M]
   simp [ah]
  rw [Jn (by simpa using hj),Jn (by rw [aw2,M];omega)]
  rfl
 refine ⟨.slice (some ⟨w.heap.size,0,none⟩) 0 n,w.alloc<|.cells (List.replicate n z).flatten.toArray e,?_,?_,rfl,⟨rfl,Gd _⟩,rfl,by simp,λk hk=>Below.heap_alloc w _ k hk,λk hk=>?_⟩
 ·simp only [Instr.makeSlice,Sem.run_bind,run_underlying ht,Result.andThen_ok]
  by_cases hn:n*sz=0
  ·have h0:(List.replicate n z).flatten=[]:=Hn (by rw [aw2,M];exact hn)
   simp [asInt,asIntOf,typeInfo,hi,hw,ad,h1,h2,ae,sizeOf,hn,newRow,h0,Array.range_zero']
  simp [asInt,asIntOf,typeInfo,hi,hw,ad,h1,h2,ae,sizeOf,hn,newRow,zeroValue,hz,aa]
 ·refine ⟨_,n,rfl,by simp,Mq _,ab,λ_=>⟨w.heap.size,0,_,rfl,heap_alloc_new w _,by simp [M],λj u hj=>by simp at hj⟩⟩
 obtain ⟨o,n',c',he,an⟩:=hk
 cases he
 exact ⟨Gd _,by simp⟩
theorem Eff.gg0{α:Type}[Enc α]{t e dd:Nat}(ht:P.underlying t=some (.slice e))(hT:tyF P e=some (Enc.sz α,ag,by',z))(ab:z.length=Enc.sz α)(hx:er L x=some (e7 0))(hy:er L y=some (e7 m))(hm:m=(n:Int))
  (an:n<=1000000) (ae:n*by'<=281474976710656) (hN:Nat.blt dd N.n=true) :
  Eff P κ N Q ⟨some dd,.makeSlice t x y,ty,ps,af,gd⟩ L I λL' I''=>∃ad c,L'=(dd,.slice ad ([]:List α).length c)::L/\I''=vc e (.slice ad ([]:List α).length c) ([]:List α)::I:=
 Eff.Q6 rfl hN λa w ha hs=>by
  subst hm
  obtain ⟨v',w',hr,ah,ho,ak,aa,aj,hk,hf⟩:=dd7 (P:=P) (w:=w) ht hT ab n (by simp only [maxLen];omega) ae
  obtain ⟨ad,c,rfl,M⟩:=ah
  refine ⟨_,w',_,by simp [execOp,ha.eval hx,ha.eval hy,hr],⟨ad,c,rfl,rfl⟩,?_⟩
  refine hs.new (hs.frame ho ak aa aj λx hx k ai=>hk k<|(hs.ok x hx).2 k ai) ⟨ad,c,rfl,M⟩ hf
end
end Go.Sl
namespace Go.Sl
variable{m:Int}{l:List Ev}
structure BfS where
 lt:Int
 mr:Int
 ws:List Ev
structure az5 (bd:Int) (s:BfS):Prop where
 bd:0<=bd/\bd<=1048576
 lt:s.lt<=1048576
 mr : -1<=s.mr/\s.mr<=s.lt
 chk:∀e∈s.ws,z6 e=0
 rng:∀e∈s.ws,s.mr<e.tm/\e.tm<=s.lt
 asc:s.ws.Pairwise λa b=>a.tm<=b.tm
def ah7(bd:Int)(s:BfS)(e:Ev):Int:=max s.lt e.tm - bd - 1
def K3(s:BfS)(e:Ev):List Ev:=be7 evC s.ws e
def ap2(m:Int)(l:List Ev):List Ev:=l.filter λx=>decide (x.tm<=m)
def beyond(m:Int)(l:List Ev):List Ev:=l.filter λx=> !decide (x.tm<=m)
def BfS.push(bd:Int)(s:BfS)(e:Ev):BfS:=⟨max s.lt e.tm,max s.mr (ah7 bd s e),beyond (ah7 bd s e) (K3 s e)⟩
def BfS.out(bd:Int)(s:BfS)(e:Ev):List Ev:=ap2 (ah7 bd s e) (K3 s e)
def BfS.flush(s:BfS):BfS:=⟨s.lt,s.lt,[]⟩
theorem bx1(s:BfS)(e:Ev):(K3 s e).Perm (e::s.ws):=by
 unfold K3 be7
 exact cf0 _ _ _
theorem mem_push{s:BfS}{e x:Ev}:x∈K3 s e↔x=e\/x∈s.ws:=by rw [(bx1 s e).mem_iff,Fw]
theorem ba4{x:Ev}:x∈ap2 m l↔x∈l/\x.tm<=m:=by unfold ap2;rw [Gg,Gn]
theorem av9{x:Ev}:x∈beyond m l↔x∈l/\m<x.tm:=by
 unfold beyond;rw [Gg,J_,Kt]
 exact and_congr_right λ_=>Int.not_le
section
variable {bd:Int}{s:BfS}{e:Ev}
theorem az5.fu5(h:az5 bd s):(K3 s e).Pairwise λa b=>a.tm<=b.tm:=cu0 h.asc e
theorem az5.push(h:az5 bd s)(hc:z6 e=0)(ht:s.mr<e.tm)(hT:e.tm<=1048576):az5 bd (s.push bd e):=by
 have hb:=h.bd
 have hl:=h.lt
 have hm:=h.mr
 refine ⟨h.bd,?_,?_,λx hx=>?_,λx hx=>?_,h.fu5.sublist He⟩
 ·show max s.lt e.tm<=1048576;omega
 ·show -1<=max s.mr (ah7 bd s e)/\max s.mr (ah7 bd s e)<=max s.lt e.tm
  unfold ah7;omega
 ·rcases mem_push.1 (av9.1 hx).1 with rfl|hx
  ·exact hc
  exact h.chk x hx
 show max s.mr (ah7 bd s e)<x.tm/\x.tm<=max s.lt e.tm
 obtain ⟨M,h2⟩:=av9.1 hx
 rcases mem_push.1 M with rfl|h3
 ·omega
 have:=h.rng x h3;omega
theorem az5.all(h:az5 bd s):ap2 s.lt s.ws=s.ws:=Jk.2 λx M=>As (h.rng x M).2
theorem az5.none(h:az5 bd s):beyond s.lt s.ws=[]:=Jd.2 λx M=>by have:=(h.rng x M).2;simp;omega
theorem az5.out(h:az5 bd s)(ht:s.mr<e.tm):(∀x∈s.out bd e,s.mr<x.tm/\x.tm<=(s.push bd e).mr)/\(s.out bd e).Pairwise λa b=>a.tm<=b.tm:=by
 refine ⟨λx M=>?_,h.fu5.sublist He⟩
 obtain ⟨h1,h2⟩:=ba4.1 M
 show s.mr<x.tm/\x.tm<=max s.mr (ah7 bd s e)
 rcases mem_push.1 h1 with rfl|h3
 ·omega
 have:=h.rng x h3;omega
theorem ac0(s:BfS)(e:Ev):(K3 s e).length=s.ws.length+1:=by rw [(bx1 s e).length_eq];rfl
end
end Go.Sl
namespace Go.Sl
open Go.Proofs
set_option maxRecDepth 4000
variable{a wa:Option Addr}{c k wc:Nat}{l ws:List Ev}{bd m:Int}
variable {κ:Ctx}{I:List Item}
attribute [local irreducible] W G V D A j8 Eff
theorem az1{xs:List Ev}(hl:Sl κ I (.slice a xs.length c) xs)(hb:xs.length<=1000000000):eu prog κ 95 [.slice a xs.length c] I (λr J=>∃a' c',r = .slice a' xs.length c'/\J=vk 54 a' c' xs::I):=by
 refine Bv (p:=a.isNone=true->xs=[]/\c=0) (λw hs hn=>hl.isNone w hs hn) λM=>?_
 refine Ce1 Tryz.func95 C C<|Z ?_
 refine Gr (j8.dz6 Ad C C)<|Ar<|Dp C (λc4=>Z ?_)<|λc4=>Z ?_
 ·obtain ⟨ad,_⟩:=M c4
  subst ad
  exact Al C C (vk 54 none 0 ([]:List Ev)::I) (B7 _ _) ⟨none,0,rfl,rfl⟩
 refine Ge1 (Eff.bs0 (α:=Ev) Ad s9 C) λae=>?_
 refine Gm C<|Ge2 (Br (α:=Ev) (e:=54) (xs:=([]:List Ev)) (ys:=xs) Ad s9 C C C mm (A4 hl) tb3 dc C<|λ_ _=>am) λaa ab=>?_
 exact Ga C<|Ar<|B3<|Al C C (vk 54 aa ab xs::I) Ai ⟨aa,ab,rfl,rfl⟩
theorem fk0(h:l.Pairwise λa b=>a.tm<=b.tm){i j:Nat}(aa:i<=j)(M:j<l.length):(e_ l i).tm<=(e_ l j).tm:=by
 by_cases e:i=j
 ·subst e;exact Hl _
 rw [Ct l i om,Ct l j M]
 exact (H1.1 h) i j om M om
theorem bv3(h:l.Pairwise λa b=>a.tm<=b.tm)(hk:k<=l.length)(h1:∀j:Nat,j<k->(e_ l j).tm<=m)(h2:k<l.length->m<(e_ l k).tm):ap2 m l=l.take k/\beyond m l=l.drop k:=by
 have e1:∀x∈l.take k,x.tm<=m:=λx M=>by
  obtain ⟨i,hi,rfl⟩:=Hu M
  rw [Fp] at hi
  rw [Kh,←Ct l i om];exact h1 i om
 have e2:∀x∈l.drop k,m<x.tm:=λx M=>by
  obtain ⟨i,hi,rfl⟩:=Hu M
  rw [Fx] at hi
  rw [Lu,←Ct l (k+i) om]
  have:=fk0 h (i:=k) (j:=k+i) om om
  have:=h2 om;omega
 have hs:l=l.take k++l.drop k:=(Jl k l).symm
 constructor
 ·unfold ap2
  conv=>lhs;rw [hs]
  rw [Gj,Jk.2 λx M=>As<|e1 x M,Jd.2 λx M=>by have:=e2 x M;simp;omega,Gq]
 unfold beyond
 conv=>lhs;rw [hs]
 rw [Gj,Jd.2 λx M=>by have:=e1 x M;simp;omega,Jk.2 λx M=>by have:=e2 x M;simp;omega,Km]
theorem au6{bf:BfS}(hl:Sl κ I (.slice wa bf.ws.length wc) bf.ws)(M:az5 bd bf)(hw:bf.ws.length<=4096):eu prog κ 56 [.agg #[e7 bd,e7 (bf.lt),e7 (bf.mr),.slice wa bf.ws.length wc]] I (λr J=>r = .bool true/\I=J):=by
 have ap:=M.bd
 have aq:=M.lt
 have ao:=M.mr
 refine Ce1 Tryz.func56 C C ?_
 refine Ak<|Ge1 (Au (cs:=[_,_,_,_]) C C C) λb1=>Z ?_
 refine A3 (d:=9) C (λg9=>?_)<|λg9=>Z ?_
 ·omega
 refine A3 (d:=14) C (λan=>?_)<|λan=>Z ?_
 ·omega
 refine A3 (d:=19) C (λae=>?_)<|λae=>Z ?_
 ·omega
 refine A3 (d:=26) C (λai=>?_)<|λai=>Z ?_
 ·omega
 refine A3 (d:=31) C (λaj=>?_)<|λaj=>Z ?_
 ·omega
 refine Am C (λab=>?_)<|λab=>Z ?_
 ·omega
 refine Dh (σ:=Nat×Int) (λs=>[(3,e7<|s.2),(43,e7 ((s.1:Nat):Int))]) (λ_=>[]) (λs=>(s.1<=bf.ws.length)/\(∀j:Nat,s.1<=j->j<bf.ws.length->s.2<=(e_ bf.ws j).tm)) (λs=>bf.ws.length - s.1) (0,(bf.mr+1)) (show ((0:Nat)<=bf.ws.length)/\(∀j:Nat,(0:Nat)<=j->j<bf.ws.length->((bf.mr+1):Int)<=(e_ bf.ws j).tm) from ⟨om,(λj _ hj=>by have:=(M.rng _<|Bp (xs:=bf.ws) (i:=(j:Int)) om om).1;omega)⟩) ?_
 rintro ⟨k,z⟩ hp
 dsimp only at hp ⊢
 obtain ⟨hk,hz⟩:=hp
 refine Z ?_
 refine Am C (λad=>Z ?_)<|λad=>Z ?_
 ·refine Ge1 (Aj s9 C) λb2=>Ge0 (au3 s9) ?_
  refine Ar<|Ax<|Ak<|Gl7 s9 ?_
  refine G.e (Ac c_ C C<|ab4<|e_ bf.ws k) ?_
  rintro _ _ ⟨_,_,⟨rfl,rfl⟩,rfl,rfl⟩
  refine Z ?_
  refine A3 (d:=50) C (λaa=>?_)<|λaa=>Z ?_
  ·exact absurd (M.chk _<|Bp om om) aa
  refine A3 (d:=56) C (λak=>?_)<|λak=>Z ?_
  ·exact absurd (hz k (Gd _) om) om
  refine Am C (λah=>?_)<|λah=>Z ?_
  ·exact absurd (M.rng _<|Bp (xs:=bf.ws) (i:=(k:Int)) om om).2 om
  exact Bt ((k+1),((e_ bf.ws k).tm))<|by dsimp only;exact ⟨om,(λj h1 hj=>fk0 M.asc om hj)⟩
 exact Al C C I Ah ⟨rfl,rfl⟩
theorem ao4(a b:Int):(if a<b then b else a)=max a b:=by split<;>omega
theorem Sl.cast{α:Type}[Enc α]{κ:Ctx}{I:List Item}{xs ys:List α}(h:Sl κ I (.slice a xs.length c) xs)(e:xs=ys):Sl κ I (.slice a ys.length c) ys:=e▸h
theorem Sl.ap2{M:Option Addr}{n:Nat}(hl:Sl κ I (.slice M n wc) ws)(hk:k<=ws.length/\Go.Sl.ap2 m ws=ws.take k):Sl κ I (.slice M (Go.Sl.ap2 m ws).length k) (Go.Sl.ap2 m ws):=by
 rw [hk.2];exact Sl.ge3 hl hk.1
theorem fz6(a b:Int):(if b<a then b else a)=min a b:=by split<;>omega
theorem ap1{lt mr:Int}(hl:Sl κ I (.slice wa ws.length wc) ws)(hA:ws.Pairwise λa b=>a.tm<=b.tm)(hw:ws.length<=5000):eu prog κ 96 [.agg #[e7 bd,e7 lt,e7 mr,.slice wa ws.length wc],e7 m] I (λr J=>∃(a:Option Addr) (c k:Nat),r = .tuple #[.agg #[e7 bd,e7 lt,e7 (max mr m),.slice a (beyond m ws).length c],.slice wa (ap2 m ws).length k]/\(k<=ws.length/\ap2 m ws=ws.take k)/\J=vk 54 a c (beyond m ws)::I):=by
 refine Ce2 Tryz.func96 C C ?_
 refine Ak<|Ge1 (Au (cs:=[_,_,_,_]) C C C) λb1=>Ge1 (Aj J4 C) λb2=>Z ?_
 refine Dh (σ:=Nat) (λs=>[(6,e7 ((s:Nat):Int))]) (λ_=>[]) (λs=>(s<=ws.length)/\(∀j:Nat,j<s->(e_ ws j).tm<=m)) (λs=>ws.length - s) 0 ⟨om,(λj h=>by omega)⟩ ?_
 rintro k hp
 obtain ⟨hk,hj⟩:=hp
 refine Z ?_
 refine A3 (d:=13) C (λai=>Z ?_)<|λai=>Z ?_
 ·refine Am C (λab=>Z ?_) (λab=>Z ?_)
  ·exact Bt ((k+1)) ⟨om,(λj h=>by by_cases e:j=k;(· subst e;exact ab);(· exact hj j om))⟩
  refine Gr (j8.gk6 (α:=Ev) (xs:=ws) (h:=k) Ad s9 C C C om (A4 hl) om)<|Z ?_
  refine Gr (Dn (α:=Ev) (xs:=ws) (l:=k) Ad s9 C C om (A4 hl) om)<|Gc2 (Ac c_ C C<|az1 (xs:=List.drop k ws) (Er (A4 hl) om)<|by simp only [Fx];omega) λad aa=>?_
  refine Gf R1 C<|Ge0 (Bs (cs:=[_,_,_,_]) (vs:=[_]) (cs':=[_,_,_,_]) ap8)<|Z ?_
  refine Ge0 (Bs (cs:=[_,_,_,_]) (vs:=[_]) (cs':=[_,_,_,_]) ef)<|Z ?_
  refine Ge0 (C8 J4)<|Z ?_
  have M:=bv3 hA hk hj (λh=>by omega)
  exact Cp C J4 C C mm C (vk 54 ad aa (beyond m ws)::I) (by unfold vk;rw [M.2];exact Az) ⟨ad,aa,k,by rw [M.1,M.2,←ao4],⟨hk,M.1⟩,rfl⟩
 refine Gr (j8.gk6 (α:=Ev) (xs:=ws) (h:=k) Ad s9 C C C om (A4 hl) om)<|Z ?_
 refine Gr (Dn (α:=Ev) (xs:=ws) (l:=k) Ad s9 C C om (A4 hl) om)<|Gc2 (Ac c_ C C<|az1 (xs:=List.drop k ws) (Er (A4 hl) om)<|by simp only [Fx];omega) λah ae=>?_
 refine Gf R1 C<|Ge0 (Bs (cs:=[_,_,_,_]) (vs:=[_]) (cs':=[_,_,_,_]) ap8)<|Z ?_
 refine Ge0 (Bs (cs:=[_,_,_,_]) (vs:=[_]) (cs':=[_,_,_,_]) ef)<|Z ?_
 refine Ge0 (C8 J4)<|Z ?_
 have M:=bv3 hA hk hj (λh=>by omega)
 exact Cp C J4 C C mm C (vk 54 ah ae (beyond m ws)::I) (by unfold vk;rw [M.2];exact Az) ⟨ah,ae,k,by rw [M.1,M.2,←ao4],⟨hk,M.1⟩,rfl⟩
end Go.Sl
