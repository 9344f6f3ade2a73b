/- A part of the proofs of statements of this seat: contracts of functions, and the plain laws that they lean on. No conditions. -/
import Derived.Test.YtoagcglbkeomgaaGreatDoorA16
set_option linter.unusedVariables false
set_option linter.unusedSimpArgs false
set_option linter.unusedSectionVars false
open Go.Proofs.Tryz (prog)
set_option maxHeartbeats 2000000
namespace Go.Sl
open Go.Proofs
set_option maxRecDepth 4000
attribute [local irreducible] W G V D A j8 Eff
theorem cg9{κ:Ctx}{I:List Item}{nd:Int}{va:Value}{es:List Pt}{la:Option Addr}{lc:Nat}{l:List Int}(hl:Sl κ I va es)(hs:Sl κ I (.slice la l.length lc) l)(hG:s8 nd es)(i:Int)(h0:0<=i)(h1:i<es.length)(hb:es.length<=1000000):eu prog κ 104 [.agg #[e7 nd,va],e7 i,.slice la l.length lc] I (λr J=>r=e7 ((((ah5 nd es (e_ es i)).filter (λp:Pt=>decide (p.u∈l/\p.v∈l))).length:Nat):Int)/\I=J):=by
 have ae:=hG.rng
 have ah:=ds9 hG (Bo (xs:=es) h0 h1)
 refine Ce3 Tryz.func104 C C ?_
 refine Al<|Ge1 (Av (cs:=[_,_]) C C C) λb1=>Z ?_
 refine G.e (Ab c_ C C<|cy0 (nd:=nd) (A3 hl) hG i om om om) ?_
 rintro _ _ ⟨_,_,⟨ai,aj,rfl,rfl⟩,rfl,rfl⟩
 refine Z ?_
 refine Dj (σ:=Nat×Int) (λs=>[(7,e7<|s.2),(14,e7 ((s.1:Nat):Int))]) (λ_=>[]) (λs=>(s.1<=(ah5 nd es<|e_ es i).length)/\(s.2=((((ah5 nd es<|e_ es i).take s.1).filter (λp:Pt=>decide<|p.u∈l/\p.v∈l)).length:Int))) (λs=>(ah5 nd es<|e_ es i).length - s.1) (0,0) (show ((0:Nat)<=(ah5 nd es<|e_ es i).length)/\((0:Int)=((((ah5 nd es<|e_ es i).take (0:Nat)).filter (λp:Pt=>decide<|p.u∈l/\p.v∈l)).length:Int)) from ⟨om,rfl⟩) ?_
 rintro ⟨k,n⟩ hp
 dsimp only at hp ⊢
 obtain ⟨hk,hn⟩:=hp
 have ab:=G_ (λp:Pt=>decide<|p.u∈l/\p.v∈l) ((ah5 nd es<|e_ es i).take k)
 rw [Ft] at ab
 refine Z ?_
 refine Ao C (λad=>Z ?_)<|λad=>Z ?_
 ·refine Ge1 (Aj L9 C) λb4=>Ge0 (Co L9) ?_
  refine Ar<|Al<|Gm C<|Gr (B5 B7 ty2 C C om om)<|Z ?_
  refine Gc0 (Ab c_ C C<|bt4 (A3 hs)<|(e_ (ah5 nd es<|e_ es i) (k:Int)).u) ?_
  refine Gm C<|A4 (d:=22) C (λM=>?_)<|λM=>Z ?_
  ·refine e9 (Ap C) (e9 (B5 B7 ty2 C C om om)<|Z ?_)
   refine Dt (Cm C C C) (Ab c_ C C<|bt4 (A3 hs)<|(e_ (ah5 nd es<|e_ es i) (k:Int)).v) ?_
   rintro _ _ ⟨_,_,⟨rfl,rfl⟩,rfl,rfl⟩
   refine Z ?_
   refine Ao C (λaa=>Z ?_)<|λaa=>Z ?_
   ·exact Bu ((k+1),(n+1))<|by dsimp only;exact ⟨om,(by first|(rw [cf0 (λp:Pt=>decide<|p.u∈l/\p.v∈l) om (As ⟨M,aa⟩),hn])|(rw [bm3 (λp:Pt=>decide<|p.u∈l/\p.v∈l) om (D_ λh=>aa h.2),hn])|(rw [bm3 (λp:Pt=>decide<|p.u∈l/\p.v∈l) om (D_ λh=>M h.1),hn]))⟩
   exact Bu ((k+1),(n))<|by dsimp only;exact ⟨om,(by first|(rw [cf0 (λp:Pt=>decide<|p.u∈l/\p.v∈l) om (As ⟨M,aa⟩),hn])|(rw [bm3 (λp:Pt=>decide<|p.u∈l/\p.v∈l) om (D_ λh=>aa h.2),hn])|(rw [bm3 (λp:Pt=>decide<|p.u∈l/\p.v∈l) om (D_ λh=>M h.1),hn]))⟩
  exact Bu ((k+1),(n))<|by dsimp only;exact ⟨om,(by first|(rw [cf0 (λp:Pt=>decide<|p.u∈l/\p.v∈l) om (As ⟨M,aa⟩),hn])|(rw [bm3 (λp:Pt=>decide<|p.u∈l/\p.v∈l) om (D_ λh=>aa h.2),hn])|(rw [bm3 (λp:Pt=>decide<|p.u∈l/\p.v∈l) om (D_ λh=>M h.1),hn]))⟩
 rw [Fz om] at hn
 exact Am C C I Ah ⟨by rw [hn],rfl⟩
end Go.Sl
namespace Go.Sl
open Go.Proofs
set_option maxRecDepth 4000
end Go.Sl
namespace Go.Sl
open Go.Proofs
set_option maxRecDepth 4000
variable{u x:Int}{i:Nat}{va:Value}
attribute [local irreducible] W G V D A j8 Eff
theorem by1{xs:List Pt}{p q:Pt->Bool}(h:∀x∈xs,p x=true->q x=true):(xs.filter p).length<=(xs.filter q).length:=by
 rw [←List.countP_eq_length_filter,←List.countP_eq_length_filter];exact List.countP_mono_left h
theorem bt1{l:List Int}{n:Nat}(h:l.Nodup)(M:∀x∈l,0<=x/\x<n):l.length<=n:=by
 have:=Ho h (l₂:=(List.range n).map λi=>((i:Nat):Int)) λx hx=>by
  have:=M x hx
  exact H1.2 ⟨x.toNat,Jd.2 om,by omega⟩
 rwa [Ge,Kb] at this
section
variable {tri:List (List Pt)}{num ord l:List Int}{k:Int}
theorem ab2.pos(M:ab2 tri num ord)(h0:0<=x)(h1:x<tri.length):∃i:Nat,i<ord.length/\e_ ord i=x:=by
 by_cases hx:x∈ord
 ·obtain ⟨i,hi,e⟩:=av6 hx
  exact ⟨i,hi,e.symm⟩
 have:=bt1 (n:=tri.length) (Jb.2 ⟨hx,M.nodup⟩) λy hy=>by
  rcases F_.1 hy with rfl|hy
  ·exact ⟨h0,h1⟩
  exact M.rng y hy
 have:=M.fs6
 simp only [E_] at *
 omega
theorem ab2.le(M:ab2 tri num ord):∀d:Nat,i+d<ord.length->e_ num (e_ ord i)<=e_ num (e_ ord ((i+d:Nat):Int))
 |0,_=>Hp _
 |d+1,h=>Ld (ab2.le M d om) (M.asc (i+d) om)
theorem df8{l:List Int}{m:Nat}(h:i<m)(M:m<l.length):e_ l m∈List.drop (i+1) l:=by
 rw [Ct _ m M,Jz]
 refine ⟨m - (i+1),by rw [Gb];omega,?_⟩
 rw [Lz]
 congr 1;omega
theorem dw6(hx:∃j:Nat,j<ord.length/\e_ ord j∈l):∃i:Nat,(∀m:Nat,m<i->e_ ord m∉l)/\e_ ord i∈l/\i<ord.length:=by
 obtain ⟨j,hj,h⟩:=hx
 induction j using Nat.strongRecOn with
 |_ j ih=>
  by_cases h2:∃m:Nat,m<j/\e_ ord m∈l
  ·obtain ⟨m,M,h3⟩:=h2
   exact ih m M om h3
  exact ⟨j,λm M h3=>h2 ⟨m,M,h3⟩,h,hj⟩
theorem ab2.clos(hG:cw2 tri)(hE:ab2 tri num ord)(hl:∀x∈l,0<=x/\x<tri.length)(hc:∀x∈l,k<=(((e_ tri x).filter λp:Pt=>decide (p.u∈l/\p.v∈l)).length:Int)):∀x∈l,k<=e_ num x:=λx hx=>by
 obtain ⟨j,hj,rfl⟩:=hE.pos (hl x hx).1 (hl x hx).2
 obtain ⟨i,h1,M,hi⟩:=dw6 ⟨j,hj,hx⟩
 have ad:i<=j:=by
  rcases Nat.lt_or_ge j i with h|h
  ·exact absurd hx<|h1 j h
  exact h
 have h2:=hE.le (i:=i) (j - i) om
 rw [show i+(j - i)=j by omega] at h2
 refine Ld (Ld (hc _ M)<|Ld (Mr.2<|by1 λp hp h=>?_)<|hE.later i hi) h2
 have hr:=hG.rng _ (hl _ M).1 (hl _ M).2 p hp
 rw [Gs] at h ⊢
 have aa:∀y∈l,y≠e_ ord i->y∈List.drop (i+1) ord:=λy hy ab=>by
  obtain ⟨m,hm,rfl⟩:=hE.pos (hl y hy).1 (hl y hy).2
  rcases Ks m i with h3|h3|h3
  ·exact absurd hy<|h1 m h3
  ·subst h3;exact absurd rfl ab
  exact df8 h3 hm
 exact ⟨aa _ h.1 hr.2.2.1,aa _ h.2 hr.2.2.2⟩
theorem ab2.set(hG:cw2 tri)(hE:ab2 tri num ord)(h0:0<=x)(h1:x<tri.length)(hk:k<=e_ num x)(hl:∀y:Int,0<=y->y<tri.length->k<=e_ num y->y∈l):k<=(((e_ tri x).filter λp:Pt=>decide (p.u∈l/\p.v∈l)).length:Int):=by
 obtain ⟨i,hi,rfl⟩:=hE.pos h0 h1
 refine Ld hk<|Ld (hE.high i hi)<|Mr.2<|by1 λp hp h=>?_
 have M:=hG.rng _ h0 h1 p hp
 rw [Gs] at h ⊢
 exact ⟨hl _ M.1.1 M.1.2.1 om,hl _ M.1.2.2.1 M.1.2.2.2 om⟩
end
section
variable {nd lv:Int}{es:List Pt}{l m:List Int}
theorem bo6(M:s8 nd es):ab2 (G2 nd es) (j5 nd es) (U3 (G2 nd es)):=by
 unfold j5
 rw [An (by rw [s4.2 M];decide)]
 exact db2 (dr7 M)<|au6 M
theorem G4(M:s8 nd es):(j5 nd es).length=es.length:=by
 rw [(bo6 M).fi3];exact Ge ..
theorem ci9(M:0<=x)(h1:x<es.length):e_ (G2 nd es) x=ah5 nd es (e_ es x):=by
 obtain ⟨i,rfl⟩:=Hq M
 rw [Ct _ i (by unfold G2;rw [Ge];omega),Ct _ i om]
 unfold G2
 rw [Jn]
def trK(nd:Int)(es:List Pt)(k:Int):List Int:=ae8 (j5 nd es).length λv=>decide (k<=e_ (j5 nd es) v)
theorem af4(M:s8 nd es):x∈trK nd es lv↔(0<=x/\x<es.length)/\lv<=e_ (j5 nd es) x:=by
 unfold trK;rw [ai4,Gs,G4 M]
theorem fk4:(trK nd es lv).Pairwise (λx0 M:Int=>x0<M):=by unfold trK;exact (ae4.1 (bc6 _ _)).2
theorem fk3(M:s8 nd es):(trK nd es lv).length<=es.length:=by unfold trK;exact Hd (bw1 _ _) (Nat.le_of_eq (G4 M))
theorem fk1(hG:s8 nd es)(aa:l.Pairwise (λx0 x1:Int=>x0<x1))(M:∀x∈l,0<=x/\x<es.length)(ad:∀x∈l,lv<=((((ah5 nd es (e_ es x)).filter (λp:Pt=>decide (p.u∈l/\p.v∈l))).length:Nat):Int))(ab:∀x∈trK nd es lv,x∈l):l=trK nd es lv:=by
 have hl:(G2 nd es).length=es.length:=Ge ..
 refine ar6.uniq aa fk4 λx=>⟨λhx=>(af4 hG).2 ⟨M x hx,?_⟩,ab x⟩
 exact (bo6 hG).clos (dr7 hG) (λy hy=>by rw [hl];exact M y hy) (λy hy=>by rw [ci9 (M y hy).1 (M y hy).2];exact ad y hy) x hx
theorem fk2(hG:s8 nd es)(M:∀x∈trK nd es lv,x∈m)(hx:0<=x/\x<es.length)(hlt:((((ah5 nd es (e_ es x)).filter (λp:Pt=>decide (p.u∈m/\p.v∈m))).length:Nat):Int)<lv):∀y∈trK nd es lv,y∈V8 m [x]:=λy hy=>by
 refine an7.2 ⟨M y hy,λe=>?_⟩
 subst e
 have hl:(G2 nd es).length=es.length:=Ge ..
 have:=(bo6 hG).set (dr7 hG) hx.1 (by rw [hl];exact hx.2) ((af4 hG).1 hy).2 (l:=m) (λz h0 h1 h2=>M z<|(af4 hG).2 ⟨⟨h0,by rw [hl] at h1;exact h1⟩,h2⟩)
 rw [ci9 hx.1 hx.2] at this
 omega
def cg3(nd:Int)(es:List Pt)(k:Int):List Int:=(j5 nd es).map λx=>min k x
theorem T9(nd:Int)(es:List Pt)(k:Int):(cg3 nd es k).length=(j5 nd es).length:=Ge ..
theorem bs6{k:Int}(M:0<=u)(h1:u<(j5 nd es).length):e_ (cg3 nd es k) u=min k (e_ (j5 nd es) u):=by
 obtain ⟨i,rfl⟩:=Hq M
 rw [Ct _ i (by rw [T9];omega),Ct _ i om]
 unfold cg3
 rw [Jn]
theorem ak2(M:s8 nd es)(h0:0<=u)(h1:u<(j5 nd es).length):0<=e_ (j5 nd es) u/\e_ (j5 nd es) u<=nd - 1:=by
 have hl:=G4 M
 have he:=M.aa9 (e_ es u) (Bo om om)
 exact db1 M om _<|Bo h0 h1
theorem dm5(M:s8 nd es):cg3 nd es 0=List.replicate es.length 0:=by
 have hl:=G4 M
 refine aj2 (by rw [T9,Gc,hl]) λi hi=>?_
 rw [T9] at hi
 rw [bs6 om om,cp3 _ _ _ om om]
 have:=ak2 M (u:=(i:Int)) om om
 omega
theorem cp0(M:s8 nd es){k:Int}(h:nd - 1<=k\/trK nd es (k+1)=[]):cg3 nd es k=j5 nd es:=by
 refine aj2 (T9 _ _ _) λi hi=>?_
 rw [T9] at hi
 rw [bs6 om om]
 have h1:=ak2 M (u:=(i:Int)) om om
 rcases h with h|h
 ·omega
 have:¬k+1<=e_ (j5 nd es) i:=λh2=>by
  have h3:=(af4 M (lv:=k+1)).2 ⟨⟨by omega,by have:=G4 M;omega⟩,h2⟩
  rw [h] at h3;cases h3
 omega
theorem fa3(M:s8 nd es){k:Int}(hk:1<=k):cs5 (cg3 nd es (k - 1)) k (trK nd es k)=cg3 nd es k:=by
 have hl:=G4 M
 refine aj2 (by rw [af2,T9,T9]) λi hi=>?_
 rw [af2,T9] at hi
 rw [cd8 k _ _ _ (λx hx=>by rw [T9,hl];exact ((af4 M).1 hx).1) om,bs6 om om,bs6 om om]
 by_cases h:(i:Int)∈trK nd es k
 ·rw [B_ h]
  have:=((af4 M).1 h).2
  omega
 rw [An h]
 have:¬k<=e_ (j5 nd es) i:=λh2=>h ((af4 M).2 ⟨⟨by omega,by omega⟩,h2⟩)
 omega
theorem bp7(n:Nat):((List.range n).map λi=>((i:Nat):Int)).Pairwise (λM x1:Int=>M<x1)/\∀x,x∈((List.range n).map λi=>((i:Nat):Int))↔0<=x/\x<n:=by
 constructor
 ·refine My _ (λa b h=>?_) List.pairwise_lt_range
  omega
 intro x
 rw [H1]
 constructor
 ·rintro ⟨i,hi,rfl⟩;have:=Jd.1 hi;omega
 intro h;exact ⟨x.toNat,Jd.2 om,by omega⟩
theorem cd6(k:Nat):((List.range (k+1)).map λi=>((i:Nat):Int))=((List.range k).map λi=>((i:Nat):Int))++[(k:Int)]:=by rw [List.range_succ,Hv];rfl
end
theorem fh4{κ:Ctx}{I:List Item}{nd:Int}{es:List Pt}(hl:Sl κ I va es)(hb:es.length<=1000000):eu prog κ 103 [.agg #[e7 nd,va]] I (λr J=>∃a c,r = .slice a ((List.range es.length).map λi=>((i:Nat):Int)).length c/\J=vk 3 a c ((List.range es.length).map λi=>((i:Nat):Int))::I):=by
 refine Bx hl.le λab=>?_
 refine Ce1 Tryz.func103 C C ?_
 refine Al<|Ge1 (Av (cs:=[_,_]) C C C) λb1=>Z ?_
 refine Dj (σ:=Nat×(Option Addr)×Nat×(List Int)) (λs=>[(3,.slice s.2.1 s.2.2.2.length s.2.2.1),(8,e7 ((s.1:Nat):Int))]) (λs=>[vk 3 s.2.1 s.2.2.1 s.2.2.2]) (λs=>(s.1<=es.length)/\(s.2.2.2=((List.range s.1).map λi=>((i:Nat):Int)))) (λs=>es.length - s.1) (0,none,0,[]) (show ((0:Nat)<=es.length)/\(([]:List Int)=((List.range (0:Nat)).map λi=>((i:Nat):Int))) from ⟨om,rfl⟩) (hI:=(B6 _ _)) ?_
 rintro ⟨k,a,c,out⟩ hp
 dsimp only at hp ⊢
 obtain ⟨hk,ho⟩:=hp
 have ad:out.length=k:=by rw [ho,Ge,Kb]
 refine Z ?_
 refine Ao C (λc9=>Z ?_)<|λc9=>Z ?_
 ·refine Ge1 (B1 (α:=Int) (cs:=[_]) (xs:=[(k:Int)]) Ac ef C C dc dc C C C C) λae=>?_
  refine Ge2 (Bs (α:=Int) (e:=3) (xs:=out) (ys:=([(k:Int)]:List Int)) Ac ef C C C mm A5 lcn dc C<|λ_ _=>am) λaa M=>Z ?_
  exact Bu ((k+1),(aa),(M),(out++([(k:Int)]:List Int)))<|by dsimp only;exact ⟨om,(by rw [cd6,ho])⟩
 have hE:out=((List.range es.length).map λi=>((i:Nat):Int)):=by rw [ho,show k=es.length by omega]
 exact Am C C (vk 3 a c ((List.range es.length).map λi=>((i:Nat):Int))::I) (by unfold vk;rw [←hE];exact Az) ⟨a,c,by rw [←hE],rfl⟩
variable {κ:Ctx}{I:List Item}
theorem cw1{nd lv:Int}{es:List Pt}(hl:Sl κ I va es)(hG:s8 nd es)(hb:es.length<=1000000):eu prog κ 53 [.agg #[e7 nd,va],e7 lv] I (λr J=>∃a c,r = .slice a (trK nd es lv).length c/\J=vk 3 a c (trK nd es lv)::I):=by
 have hr:=hG.rng
 refine Ce2 Tryz.func53 C C ?_
 refine Al<|Ge1 (Av (cs:=[_,_]) C C C) λb1=>Ga C<|Ar<|Al<|Gl2 K0 ?_
 refine G.e (Ab c_ C C<|fh4 (nd:=nd) (A3 hl) om) ?_
 rintro _ _ ⟨_,_,⟨au,av,rfl,rfl⟩,rfl,rfl⟩
 refine Ga C<|Ar<|Ax<|Al<|Ga C<|Ar<|A7<|B9 (σ:=(Option Addr)×Nat×(List Int)×Bool) (λs=>([(1,e7 lv),(2,pt b1),(5,.slice s.1 s.2.2.1.length s.2.1),(6,.bool<|s.2.2.2)]:Env)) (λs=>vk 3 s.1 s.2.1 s.2.2.1::e8 b1 [e7 nd,va] 38::I) (λs=>(s.2.2.1.Pairwise (λx0 x1:Int=>x0<x1))/\(∀x∈s.2.2.1,0<=x/\x<es.length)/\(∀x∈trK nd es lv,x∈s.2.2.1)/\(s.2.2.2=false->∀x∈s.2.2.1,lv<=((((ah5 nd es<|e_ es x).filter (λp:Pt=>decide<|p.u∈s.2.2.1/\p.v∈s.2.2.1)).length:Nat):Int))) (λs=>(2*s.2.2.1.length+s.2.2.2.toNat)) (au,av,((List.range es.length).map λi=>((i:Nat):Int)),true) (show ((((List.range es.length).map λi=>((i:Nat):Int)):List Int).Pairwise (λx0 x1:Int=>x0<x1))/\(∀x∈(((List.range es.length).map λi=>((i:Nat):Int)):List Int),0<=x/\x<es.length)/\(∀x∈trK nd es lv,x∈(((List.range es.length).map λi=>((i:Nat):Int)):List Int))/\((true:Bool)=false->∀x∈(((List.range es.length).map λi=>((i:Nat):Int)):List Int),lv<=((((ah5 nd es<|e_ es x).filter (λp:Pt=>decide<|p.u∈(((List.range es.length).map λi=>((i:Nat):Int)):List Int)/\p.v∈(((List.range es.length).map λi=>((i:Nat):Int)):List Int))).length:Nat):Int)) from ⟨(bp7 _).1,(λx hx=>((bp7 _).2 x).1 hx),(λx hx=>((bp7 _).2 x).2 ((af4 hG).1 hx).1),(λh=>by cases h)⟩) (cx2<|Aa (Da C<|by first|rfl|simp)<|Aa (Da C<|by first|rfl|simp) Bb) (show Fit κ _ (vk 3 au av (((List.range es.length).map λi=>((i:Nat):Int)))::e8 b1 [e7 nd,va] 38::I) from Az) ?_
 rintro ⟨a,c,l,ag⟩ hp
 dsimp only at hp ⊢
 obtain ⟨aa,ab,ao,a3⟩:=hp
 have a5:l.length<=es.length:=bt1 (aa.imp λh=>by omega) ab
 refine Ax<|Al<|Gm C<|Ar<|Ds C (λc11=>?_)<|λc11=>?_
 ·refine Bc (Ak<|A7<|Al<|Ga C<|Ar<|Al<|Gm C<|Gr (Bn Ac C)<|Gm C<|Ar<|A7<|B9 (σ:=Nat×(Option Addr)×Nat×(List Int)×Bool×(List Item)) (λs=>([(1,e7 lv),(2,pt b1),(5,.slice s.2.1 s.2.2.2.1.length s.2.2.1),(6,.bool<|s.2.2.2.2.1),(12,.slice a l.length c),(13,e7 ((l.length:Nat):Int)),(14,e7 ((s.1:Nat):Int))]:Env)) (λs=>e8 b1 [e7 nd,va] 38::(s.2.2.2.2.2++I)) (λs=>(s.1<=l.length)/\(Sl κ s.2.2.2.2.2 (.slice a l.length c) l)/\(∃R,s.2.2.2.2.2=vk 3 s.2.1 s.2.2.1 s.2.2.2.1::R)/\(s.2.2.2.1.Pairwise (λx0 x1:Int=>x0<x1))/\(∀x∈s.2.2.2.1,x∈l)/\(∀x∈trK nd es lv,x∈s.2.2.2.1)/\(s.2.2.2.2.1=false->s.2.2.2.1=l/\∀i:Nat,i<s.1->lv<=((((ah5 nd es<|e_ es<|e_ l i).filter (λp:Pt=>decide<|p.u∈l/\p.v∈l)).length:Nat):Int))/\(∀i:Nat,s.1<=i->i<l.length->e_ l i∈s.2.2.2.1)/\(s.2.2.2.1.length+s.2.2.2.2.1.toNat<=l.length/\(s.2.2.2.2.1=true->s.2.2.2.1.length<l.length))) (λs=>(l.length - s.1)) (0,a,c,l,false,[vk 3 a c l]) (show ((0:Nat)<=l.length)/\(Sl κ ([vk 3 a c l]:List Item) (.slice a l.length c) l)/\(∃R,([vk 3 a c l]:List Item)=vk 3 (a:Option Addr) (c:Nat) (l:List Int)::R)/\((l:List Int).Pairwise (λx0 x1:Int=>x0<x1))/\(∀x∈(l:List Int),x∈l)/\(∀x∈trK nd es lv,x∈(l:List Int))/\((false:Bool)=false->(l:List Int)=l/\∀i:Nat,i<(0:Nat)->lv<=((((ah5 nd es<|e_ es<|e_ l i).filter (λp:Pt=>decide<|p.u∈l/\p.v∈l)).length:Nat):Int))/\(∀i:Nat,(0:Nat)<=i->i<l.length->e_ l i∈(l:List Int))/\((l:List Int).length+(false:Bool).toNat<=l.length/\((false:Bool)=true->(l:List Int).length<l.length)) from ⟨om,(Cy A_),⟨[],rfl⟩,aa,(λx hx=>hx),ao,(λ_=>⟨rfl,λi hi=>by omega⟩),(λi _ hi=>Bo om om),⟨by simp,λh=>by cases h⟩⟩) (cx2<|Aa (Da C<|by first|rfl|simp)<|Aa (Da C<|by first|rfl|simp)<|cx2<|Aa Cl Bb) (show Fit κ _ (e8 b1 [e7 nd,va] 38::(([vk 3 a c l])++I)) from (Fit.gi4 (A:=[e8 b1 [e7 nd,va] 38]))) ?_)
  rintro ⟨j,a2,c2,m,ai,Y2⟩ hp
  dsimp only at hp ⊢
  obtain ⟨hj,aj,ax,M,ad,ae,ap,ah,a1⟩:=hp
  have a6:m.length<=es.length:=bt1 (M.imp λh=>by omega) (λx hx=>ab x<|ad x hx)
  have aw:Sl κ Y2 (.slice a2 m.length c2) m:=by obtain ⟨R,rfl⟩:=ax;exact Cy A_
  refine Al<|Gr (Bm C C)<|Ar<|Ax<|Ao C (λa4=>?_)<|λa4=>?_
  ·refine Bc (Ak<|Ax<|A7<|Al<|Gr (A1 (α:=Int) (xs:=l) Ac ef C C (Bd aj<|C4<|Kg (Hs _ I)<|Gq ([e8 b1 [e7 nd,va] 38]:List Item)<|Y2++I) om om)<|Gr (B8 (xs:=l) ef C (Bd aj<|C4<|Kg (Hs _ I)<|Gq ([e8 b1 [e7 nd,va] 38]:List Item)<|Y2++I) om om)<|Ga C ?_)
   have az:=ah j (Gi _) om
   have an:=ab _ (Bo (xs:=l) (i:=(j:Int)) om om)
   refine Ar<|Al<|Gl2 K0 ?_
   refine Gm C<|Gm C<|Gc0 (Ab c_ C C<|cg9 (nd:=nd) (A3 hl) (Bd aw<|C4<|Kg (Hs _ I)<|Gq ([e8 b1 [e7 nd,va] 38]:List Item)<|Y2++I) hG (e_ l j) an.1 an.2 om) ?_
   refine Gm C<|Gr (Bm C C)<|Ar<|A0 (S9 23 8 1 2 5 6 12 13 14)<|Ao C (λak=>?_)<|λak=>?_
   ·refine A6 (Gm C<|Gm C<|Ge1 (B1 (α:=Int) (cs:=[_]) (xs:=[e_ l j]) Ac ef C C dc dc C C C C) λa0=>?_)
    refine G.e (Ab c_ C C<|cq3 (Bd aw<|C4<|Kg (Hs _ I)<|Gq ([vc 3 (.slice a0 1 1) (([e_ l j]:List Int)),e8 b1 [e7 nd,va] 38]:List Item)<|Y2++I) A5 om) ?_
    rintro _ _ ⟨_,_,⟨aq,ar,rfl,rfl⟩,rfl,rfl⟩
    exact Ga C<|Ga C<|Bq<|Au<|Ak<|A0 (S7 6 5 1 2 12 13 14)<|A6<|Gr (Rad C C)<|Gm C<|Bq<|Bu ((j+1),(aq),(ar),(V8 m ([e_ l j]:List Int)),(true),((vk 3 aq ar (V8 m ([e_ l j]:List Int))::Y2))) (by dsimp only;exact ⟨om,(Bd aj<|Ff<|De _),⟨Y2,rfl⟩,((T1 m).sublist Hi),(λx hx=>ad x (an7.1 hx).1),(fk2 hG ae an ak),(λh=>by cases h),(λi h1 h2=>an7.2 ⟨ah i om h2,λe=>by have:=dn0 aa h2 (show j<l.length by omega) e;omega⟩),(by have:=df6 M az;exact ⟨by simp;omega,λ_=>by omega⟩)⟩) (hI:=by (try dsimp only);exact (by first|exact Az|exact Ai))
   exact Bc<|Au<|Ak<|A6<|Gr (Rad C C)<|Gm C<|Bq<|Bu ((j+1),(a2),(c2),(m),(ai),(Y2)) (by dsimp only;exact ⟨om,om,om,om,om,om,(λh=>by obtain ⟨e,h2⟩:=ap h;refine ⟨e,λi hi=>?_⟩;by_cases e2:i=j;(· subst e2;rw [e] at ak;omega);(· exact h2 i om)),(λi h1 h2=>ah i om h2),om⟩) (hI:=by (try dsimp only);exact (by first|exact Az|exact Ai))
  refine Cg<|Aw<|Aw<|Bi<|Au ?_
  obtain ⟨R,rfl⟩:=ax
  exact Bu ((a2),(c2),(m),(ai)) (by dsimp only;exact ⟨M,(λx hx=>ab x<|ad x hx),ae,(λh=>by obtain ⟨e,h2⟩:=ap h;subst e;intro x hx;obtain ⟨i,hi,rfl⟩:=ar2 hx;exact h2 i om)⟩) (hlt:=by (try dsimp only);exact (by have ay:ag=true:=(by simpa using c11);subst ay;cases ai<;>simp at a1 ⊢ <;>omega)) (hI:=by (try dsimp only);exact (Fit.vcR (A:=[e8 b1 [e7 nd,va] 38])))
 refine Cg<|Aw<|Aw<|Bi<|Ak<|Al<|Gm C<|Ga C<|Ar<|B3 ?_
 have hE:l=trK nd es lv:=fk1 hG aa ab (a3<|by simpa using c11) ao
 subst hE
 exact Am C C (vk 3 a c (trK nd es lv)::I) Az ⟨a,c,rfl,rfl⟩
theorem cb3{nd:Int}{es:List Pt}(hl:Sl κ I va es)(hG:s8 nd es)(hb:es.length<=1000000):eu Tryz.prog κ 20 [.agg #[e7 nd,va]] I (λr J=>∃a c,r = .tuple #[.slice a (j5 nd es).length c,e7 0]/\J=vk 3 a c (j5 nd es)::I):=by
 have hr:=hG.rng
 have ai:=G4 hG
 refine Ce1 Tryz.func20 C C ?_
 refine Al<|Ge1 (Av (cs:=[_,_]) C C C) λb1=>Ga C<|Ga C<|Ar<|Ax<|Al<|Gl2 K0 ?_
 refine G.e (Ab c_ C C<|V2 (nd:=nd)<|A3 hl) ?_
 rintro _ _ ⟨_,_,⟨rfl,rfl⟩,rfl,rfl⟩
 refine Ga C<|Ar<|Al<|Gm C<|Gr (Cb C C)<|Ar<|Ao C (λc13=>?_)<|λc13=>?_
 ·exact absurd (s4.2 hG) c13
 refine Bc<|Ak<|Al<|Gf K6 C<|Gl am7 ?_
 refine Gr (Fa (α:=Pt) (xs:=es) Ay C<|A3 hl)<|Ge2 (Dm (α:=Int) (n:=es.length) Ac ef C C C om om dc C) λaa M=>?_
 refine Ga C<|Ar<|A0 (S2 5 1)<|Ax<|Al<|Ga C<|Ar<|A7<|B9 (σ:=Int) (λs=>([(1,pt b1),(5,.slice aa (List.replicate es.length (default:Int)).length M),(6,e7 s)]:Env)) (λs=>vc 3 (.slice aa (List.replicate es.length (default:Int)).length M) ((cg3 nd es<|s - 1))::e8 b1 [e7 nd,va] 38::I) (λs=>(1<=s/\(s<=nd\/s=1))) (λs=>(nd - s).toNat) 1 (show (1<=(1:Int)/\((1:Int)<=nd\/(1:Int)=1)) from om) (cx2<|Aa Cl Bb) (show Fit κ _ (vc 3 (.slice aa (List.replicate es.length (default:Int)).length M) ((cg3 nd es<|(1) - 1))::e8 b1 [e7 nd,va] 38::I) from (by rw [show cg3 nd es (1 - 1)=List.replicate es.length 0 from dm5 hG];exact Az)) ?_
 rintro q hp
 have hq:=hp
 have aq:=T9 nd es (q - 1)
 have au:=fk3 (lv:=q) hG
 have aj:∀x∈trK nd es q,0<=x/\x<es.length:=λx hx=>((af4 hG).1 hx).1
 refine Ax<|Al<|Gm C<|Gf ag0 C<|Gl ef ?_
 refine Gr (Bm C C)<|Ar<|Ao C (λao=>?_)<|λao=>?_
 ·refine Bc (Ak<|Ax<|A7<|Al<|Gl2 K0 ?_)
  refine Gm C<|Gc2 (Ab c_ C C<|cw1 (nd:=nd) (lv:=q) (A3 hl) hG om) λae ah=>?_
  refine Ga C<|Ar<|Ax<|Al<|Gm C<|Gr (Bn Ac C)<|Gr (C3 C C)<|Ar<|A0 (S5 30 7 1 5 6)<|Ao C (λap=>?_)<|λap=>?_
  ·refine Cg (Aw<|V.aw9 C<|Aw<|Aw<|Bi<|Ak<|Al<|Gm C<|Ga C<|Ga C<|Ar<|B3 ?_)
   have hE:cg3 nd es (q - 1)=j5 nd es:=cp0 hG (by first|(left;omega)|(right;rw [Int.sub_add_cancel];exact Hr om))
   have ab:(List.replicate es.length (default:Int)).length=(j5 nd es).length:=by rw [Gc,ai]
   exact C2 C C C (vk 3 aa M (j5 nd es)::I) (by unfold vk;rw [←ab,←hE];exact Az) ⟨aa,M,by rw [←ab],rfl⟩
  refine Bc<|Ak<|Al<|Gm C<|Gr (Bn Ac C)<|Gm C<|Ar<|A7<|B9 (σ:=Nat×(List Int)) (λs=>([(1,pt b1),(5,.slice aa (List.replicate es.length (default:Int)).length M),(6,e7 q),(31,.slice ae (trK nd es q).length ah),(32,e7<|(((trK nd es q).length:Nat):Int)),(33,e7 ((s.1:Nat):Int))]:Env)) (λs=>vc 3 (.slice aa (List.replicate es.length (default:Int)).length M) (s.2)::vk 3 ae ah (trK nd es q)::e8 b1 [e7 nd,va] 38::I) (λs=>(s.1<=(trK nd es q).length)/\(s.2=cs5 (cg3 nd es<|q - 1) q ((trK nd es q).take s.1))) (λs=>(trK nd es q).length - s.1) (0,cg3 nd es<|q - 1) (show ((0:Nat)<=(trK nd es q).length)/\((cg3 nd es (q - 1):List Int)=cs5 (cg3 nd es<|q - 1) q ((trK nd es q).take (0:Nat))) from ⟨om,rfl⟩) (cx4<|Aa C<|Aa Cl Bb) (show Fit κ _ (vc 3 (.slice aa (List.replicate es.length (default:Int)).length M) ((cg3 nd es<|q - 1))::vk 3 ae ah (trK nd es q)::e8 b1 [e7 nd,va] 38::I) from Az) ?_
  rintro ⟨k,out⟩ hp
  dsimp only at hp ⊢
  obtain ⟨hk,ad⟩:=hp
  have ar:out.length=(j5 nd es).length:=by rw [ad,af2,T9]
  have av:k<(trK nd es q).length->0<=e_ (trK nd es q) k/\e_ (trK nd es q) k<es.length:=λh=>aj _ (Bo om om)
  refine Al<|Gr (Bm C C)<|Ar<|Ax<|Ao C (λak=>?_)<|λak=>?_
  ·refine Bc (Ak<|Ax<|A7<|Al<|Gr (A1 (α:=Int) (xs:=trK nd es q) Ac ef C C A5 om om)<|Gr (B8 (xs:=trK nd es q) ef C A5 om om)<|Ga C<|Ar<|A6<|Gm C<|Gm C<|Gm C<|Gr (A1 (α:=Int) (xs:=out) Ac ef C C A5 om om)<|Ge0 (Cw (α:=Int) (xs:=out) (e:=3) (new:=q) ef C C C om om am) ?_)
   exact Bq<|Au<|Ak<|A0 (S6 1 5 6 31 32 33)<|A6<|Gr (Rad C C)<|Gm C<|Bq<|Bu ((k+1),(List.set out (e_ (trK nd es q) k).toNat (q)))<|by dsimp only;exact ⟨om,(by rw [bw4 om,←ad])⟩
  refine Cg<|Aw<|Aw<|Bi<|Au<|Ak<|A6<|Gm C<|Gr (Rad C C)<|Ga C<|Bq ?_
  have an:out=cg3 nd es (q+1 - 1):=by rw [ad,Fz om,fa3 hG hq.1,Int.add_sub_cancel]
  exact Bu ((q+1)) om (hI:=by (try dsimp only);exact (by rw [←an];exact Az))
 refine Cg<|Aw<|Aw<|Bi<|Ak<|Al<|Gm C<|Ga C<|Ga C<|Ar<|B3 ?_
 have hE:cg3 nd es (q - 1)=j5 nd es:=cp0 hG (by first|(left;omega)|(right;rw [Int.sub_add_cancel];exact Hr om))
 have ab:(List.replicate es.length (default:Int)).length=(j5 nd es).length:=by rw [Gc,ai]
 exact C2 C C C (vk 3 aa M (j5 nd es)::I) (by unfold vk;rw [←ab,←hE];exact Az) ⟨aa,M,by rw [←ab],rfl⟩
end Go.Sl
namespace Go.Sl
open Go.Proofs
set_option maxRecDepth 4000
variable{by' x:Int}{xs:List Int}{w:Nat}
def X7(by':Int)(xs:List Int)(w:Int):List Int:=List.set xs w.toNat (e_ xs w+by')
theorem J5:∀(ls xs:List Int),(ls.foldl (X7 by') xs).length=xs.length
 |[],xs=>rfl
 |w::ls,xs=>by rw [Jc,J5];unfold X7;rw [Fs]
theorem di2{w:Int}(M:0<=w/\w<xs.length)(h0:0<=x):e_ (X7 by' xs w) x=e_ xs x+by'*ind (decide (w=x)):=by
 unfold X7
 rw [Ei xs w x _ M.1 h0 M.2,E6]
 by_cases h:w=x
 ·subst h;rw [B_ rfl,B_ rfl,Ml]
 rw [An h,An h,Lc,Kc]
theorem ac6:∀(ls xs:List Int),(∀w∈ls,0<=w/\w<xs.length)->∀x:Int,0<=x->e_ (ls.foldl (X7 by') xs) x=e_ xs x+by'*(ls.map λw=>ind (decide (w=x))).sum
 |[],xs,_,x,_=>by rw [Lh,Ku,List.sum_nil,Lc,Kc]
 |w::ls,xs,h,x,h0=>by
  have M:(X7 by' xs w).length=xs.length:=by unfold X7;rw [Fs]
  rw [Jc,ac6 ls _ (λy hy=>by rw [M];exact h y<|C_ _ hy) x h0,di2 (h w A_) h0,Hk,Jg,Lu,Int.add_assoc]
theorem M2:∀{ls:List Int},ls.Nodup->∀x:Int,(ls.map λw=>ind (decide (w=x))).sum=if x∈ls then 1 else 0
 |[],_,x=>by rw [An (by simp)];rfl
 |w::ls,h,x=>by
  obtain ⟨M,h2⟩:=Jb.1 h
  rw [Hk,Jg,M2 h2,E6]
  by_cases e:w=x
  ·subst e;rw [B_ rfl,An M,B_ A_];rfl
  rw [An e,Mq]
  by_cases hm:x∈ls
  ·rw [B_ hm,B_<|C_ _ hm]
  rw [An hm,An<|λq=>(F_.1 q).elim (λq=>e q.symm) hm]
section
variable {nd:Int}{es es':List Pt}{u v:Int}
theorem bz1(M:s8 nd es){l:List Int}(hl:(l.length:Int)=nd)(h:∀x,q7 nd x->e_ l x=e_ (j9 nd es) x):l=j9 nd es:=by
 have h1:=G8 M
 exact E8 om λi hi=>h _ ⟨by omega,by omega⟩
def H9(nd:Int)(es:List Pt):List Int:=(List.range nd.toNat).map λw:Nat=>ds6 nd es (w:Int)
def r9(nd:Int)(es:List Pt):List Int:=(List.range nd.toNat).map λw:Nat=>am4 nd es w
theorem H3(nd:Int)(es:List Pt):(H9 nd es).length=nd.toNat:=by unfold H9;rw [Ge,Kb]
theorem G3(nd:Int)(es:List Pt):(r9 nd es).length=nd.toNat:=by unfold r9;rw [Ge,Kb]
theorem au7(h:w<nd.toNat):e_ (H9 nd es) w=ds6 nd es (w:Int):=by
 rw [Ct _ w (by rw [H3];exact h)];unfold H9;rw [Jn,List.getElem_range]
theorem af1(h:w<nd.toNat):e_ (r9 nd es) w=am4 nd es w:=by
 rw [Ct _ w (by rw [G3];exact h)];unfold r9;rw [Jn,List.getElem_range]
theorem R7.common(h:R7 nd es es' u v):j3 nd es' u v=j3 nd es u v:=by
 have he:=h.ends
 unfold F5 at he
 have M:u≠v:=he.2.2.2.2
 unfold j3
 rw [An M,An M]
 refine ar6.uniq ((T1 _).sublist Hi) ((T1 _).sublist Hi) λw=>?_
 rw [T3,T3,h.nb,h.nb]
 constructor
 ·rintro ⟨a|⟨_,a⟩|⟨a,_⟩,b|⟨b,_⟩|⟨_,b⟩⟩
  ·exact ⟨a,b⟩
  ·exact absurd b.symm M
  ·exact absurd (b▸a)<|λq=>(N4 h.ok q).2.2 rfl
  ·exact absurd (a▸b)<|λq=>(N4 h.ok q).2.2 rfl
  ·exact absurd b.symm M
  ·omega
  ·exact absurd a M
  ·exact absurd a M
  exact absurd a M
 rintro ⟨a,b⟩;exact ⟨.inl a,.inl b⟩
def cr5(by':Int)(T:List Int)(u v:Int)(xs:List Int):List Int:=X7 (by'*(T.length:Int)) (X7 (by'*(T.length:Int)) (T.foldl (X7 by') xs) u) v
theorem db3{T:List Int}(hn:T.Nodup)(hT:∀w∈T,0<=w/\w<xs.length)(hu:0<=u/\u<xs.length)(hv:0<=v/\v<xs.length)(M:0<=x) :
  e_ (cr5 by' T u v xs) x=e_ xs x+by'*((if x∈T then 1 else 0)+((if x=u then (T.length:Int) else 0)+if x=v then (T.length:Int) else 0)):=by
 unfold cr5
 have hl:=J5 (by':=by') T xs
 have aa:(X7 (by'*(T.length:Int)) (T.foldl (X7 by') xs) u).length=xs.length:=by unfold X7;rw [Fs];exact hl
 rw [di2 (by rw [aa];exact hv) M,di2 (by rw [hl];exact hu) M,ac6 T xs hT x M,M2 hn,E6,E6,Lu,Lu]
 by_cases q1:x=u<;>by_cases q2:x=v
 ·rw [B_ q1.symm,B_ q2.symm,B_ q1,B_ q2,Ml];omega
 ·rw [B_ q1.symm,An<|Mi q2,B_ q1,An q2,Ml,Lc,Lc];omega
 ·rw [An (Mi q1),B_ q2.symm,An q1,B_ q2,Ml,Lc,Lc];omega
 rw [An (Mi q1),An<|Mi q2,An q1,An q2,Lc,Lc];omega
theorem az3(by':Int)(T:List Int)(u v:Int)(xs:List Int):(cr5 by' T u v xs).length=xs.length:=by unfold cr5 X7;rw [Fs,Fs];exact J5 _ _
theorem R7.bv5(h:R7 nd es es' u v):cr5 1 (j3 nd es u v) u v (H9 nd es)=H9 nd es'/\cr5 (-1) (j3 nd es u v) u v (H9 nd es')=H9 nd es:=by
 have he:=h.ends
 unfold F5 at he
 have M:u≠v:=he.2.2.2.2
 have hr:∀(fs:List Pt),∀w∈j3 nd es u v,0<=w/\w<(H9 nd fs).length:=λfs w hw=>by
  have:=(N4 h.ok ((R0 h.ok M).1 hw).1).2.1
  rw [H3];omega
 have h2:=h.tri.2
 constructor
 ·refine E8 (by rw [az3,H3,H3]) λi hi=>?_
  rw [az3,H3] at hi
  rw [db3 (H5 nd es u v) (hr es) (by rw [H3];omega) (by rw [H3];omega) om,au7 hi,au7 hi,h2 i];omega
 refine E8 (by rw [az3,H3,H3]) λi hi=>?_
 rw [az3,H3] at hi
 rw [db3 (H5 nd es u v) (hr es') (by rw [H3];omega) (by rw [H3];omega) om,au7 hi,au7 hi,h2 i];omega
def N5(u v:Int)(p:Pt):List Int:=[u,v,p.u,p.v]
def ah0(by':Int)(O:List Pt)(u v:Int)(xs:List Int):List Int:=(O.flatMap (N5 u v)).foldl (X7 by') xs
theorem ck0(hG:s8 nd es)(hu:q7 nd u)(hv:q7 nd v)(hl:xs.length=nd.toNat)(h0:0<=x) :
  e_ (ah0 by' (p7 nd es u v) u v xs) x=e_ xs x+by'*((p7 nd es u v).map λp=>(((ind (decide<|u=x)+ind (decide<|v=x))+ind (decide<|p.u=x))+ind (decide<|p.v=x))).sum:=by
 unfold ah0
 unfold q7 at hu hv
 rw [ac6 _ xs (λw M=>by
  obtain ⟨p,hp,M⟩:=Ky.1 M
  have hr:=br1 hG hp
  unfold q7 at hr
  unfold N5 at M
  simp only [F_,Ke,Ms] at M
  rcases M with rfl|rfl|rfl|rfl<;>omega) x h0,bc0]
 congr 3
 refine Kw λp _=>?_
 show ind _+(ind _+(ind _+(ind _+0)))=_
 omega
theorem aq5(by':Int)(O:List Pt)(u v:Int)(xs:List Int):(ah0 by' O u v xs).length=xs.length:=J5 _ _
theorem R7.bk6(h:R7 nd es es' u v):ah0 1 (p7 nd es u v) u v (r9 nd es)=r9 nd es'/\ah0 (-1) (p7 nd es u v) u v (r9 nd es')=r9 nd es:=by
 have M:=h.ends
 unfold F5 at M
 have hu:q7 nd u:=⟨M.1,M.2.2.1⟩
 have hv:q7 nd v:=⟨M.2.1,M.2.2.2.1⟩
 have h2:=h.fs5.2.1
 constructor
 ·refine E8 (by rw [aq5,G3,G3]) λi hi=>?_
  rw [aq5,G3] at hi
  rw [ck0 h.ok hu hv (G3 _ _) om,af1 hi,af1 hi,h2 i hi];omega
 refine E8 (by rw [aq5,G3,G3]) λi hi=>?_
 rw [aq5,G3] at hi
 rw [ck0 h.ok hu hv (G3 _ _) om,af1 hi,af1 hi,h2 i hi];omega
structure TrB (nd:Int) (es':List Pt) (b:List Int):Prop where
 len:b.length=es'.length
 low:∀i:Int,0<=i->i<es'.length->0<=e_ (j5 nd es') i/\e_ (j5 nd es') i<=e_ b i
theorem ap2(M:s8 nd es){i:Int}(h0:0<=i)(h1:i<es.length):0<=e_ (j5 nd es) i:=(ak2 M h0 (by rw [G4 M];exact h1)).1
end
end Go.Sl
namespace Go.Sl
open Go.Proofs
set_option maxRecDepth 4000
variable{a b m:BitVec 64}{lv u:Int}{va:Value}{num:List Int}{j:Nat}
variable {κ:Ctx}{I:List Item}
attribute [local irreducible] W G V D A j8 Eff
theorem ad7{k:Int}(h:0<=k/\k<64):u∈eo (m ||| J1 k)↔u∈eo m\/u=k:=by rw [bz8 h.1 h.2];exact bx4 h.1 h.2
theorem br3{P:Int->Prop}{k:Nat}(hm:∀x,x∈eo m↔(0<=x/\x<(k:Int))/\P x)(hk:k<64)(h:P (k:Int)):∀x,x∈eo (m ||| J1 (k:Int))↔(0<=x/\x<((k+1:Nat):Int))/\P x:=λx=>by
 rw [ad7 om,hm]
 constructor
 ·rintro (⟨h1,M⟩|rfl)
  ·exact ⟨by omega,M⟩
  exact ⟨by omega,h⟩
 rintro ⟨h1,M⟩
 by_cases e:x=(k:Int)
 ·exact .inr e
 exact .inl ⟨by omega,M⟩
theorem cm5{P:Int->Prop}{k:Nat}(hm:∀x,x∈eo m↔(0<=x/\x<(k:Int))/\P x)(h:¬P (k:Int)):∀x,x∈eo m↔(0<=x/\x<((k+1:Nat):Int))/\P x:=λx=>by
 rw [hm]
 constructor
 ·rintro ⟨h1,M⟩;exact ⟨by omega,M⟩
 rintro ⟨h1,M⟩
 refine ⟨⟨h1.1,?_⟩,M⟩
 by_cases e:x=(k:Int)
 ·subst e;exact absurd M h
 omega
theorem cq6(hl:Sl κ I va num)(ab:num.length<=64):eu prog κ 275 [va,e7 lv] I (λr J=>∃m:BitVec 64,r=U64 m/\(∀x,x∈eo m↔(0<=x/\x<(num.length:Int))/\e_ num x=lv)/\I=J):=by
 refine Ce2 Tryz.func275 C C<|Z ?_
 refine Dj (σ:=Nat×(BitVec 64)) (λs=>[(5,U64<|s.2),(10,e7 ((s.1:Nat):Int))]) (λ_=>[]) (λs=>(s.1<=num.length)/\(∀x,x∈eo s.2↔(0<=x/\x<((s.1:Nat):Int))/\e_ num x=lv)) (λs=>num.length - s.1) (0,0#64) ⟨om,(λx=>by rw [D4];exact ⟨(λh=>by cases h),(λh=>by omega)⟩)⟩ ?_
 rintro ⟨k,m⟩ hp
 dsimp only at hp ⊢
 obtain ⟨hk,hm⟩:=hp
 refine Z ?_
 refine Ao C (λc11=>Z ?_)<|λc11=>Z ?_
 ·refine Ao C (λM=>Z ?_) (λM=>Z ?_)
  ·refine G.e (Ab c_ C C<|ac3 (k:Int)) ?_
   rintro _ _ ⟨_,_,⟨rfl,rfl⟩,rfl,rfl⟩
   refine Gr (Ed (a:=m) (b:=J1 (k:Int)) C C)<|Z ?_
   exact Bu ((k+1),(m ||| (J1 (k:Int))))<|by dsimp only;exact ⟨om,(by first|exact br3 (P:=(λx:Int=>e_ num x=lv)) hm om M|exact cm5 (P:=(λx:Int=>e_ num x=lv)) hm M)⟩
  exact Bu ((k+1),(m))<|by dsimp only;exact ⟨om,(by first|exact br3 (P:=(λx:Int=>e_ num x=lv)) hm om M|exact cm5 (P:=(λx:Int=>e_ num x=lv)) hm M)⟩
 have aa:k=num.length:=by omega
 exact Am C C I Ah ⟨m,rfl,by rw [←aa];exact hm,rfl⟩
theorem cr2(hl:Sl κ I va num)(ab:num.length<=64):eu prog κ 273 [va,e7 lv] I (λr J=>∃m:BitVec 64,r=U64 m/\(∀x,x∈eo m↔(0<=x/\x<(num.length:Int))/\lv<e_ num x)/\I=J):=by
 refine Ce2 Tryz.func273 C C<|Z ?_
 refine Dj (σ:=Nat×(BitVec 64)) (λs=>[(5,U64<|s.2),(10,e7 ((s.1:Nat):Int))]) (λ_=>[]) (λs=>(s.1<=num.length)/\(∀x,x∈eo s.2↔(0<=x/\x<((s.1:Nat):Int))/\lv<e_ num x)) (λs=>num.length - s.1) (0,0#64) ⟨om,(λx=>by rw [D4];exact ⟨(λh=>by cases h),(λh=>by omega)⟩)⟩ ?_
 rintro ⟨k,m⟩ hp
 dsimp only at hp ⊢
 obtain ⟨hk,hm⟩:=hp
 refine Z ?_
 refine Ao C (λc11=>Z ?_)<|λc11=>Z ?_
 ·refine Ao C (λM=>Z ?_) (λM=>Z ?_)
  ·refine G.e (Ab c_ C C<|ac3 (k:Int)) ?_
   rintro _ _ ⟨_,_,⟨rfl,rfl⟩,rfl,rfl⟩
   refine Gr (Ed (a:=m) (b:=J1 (k:Int)) C C)<|Z ?_
   exact Bu ((k+1),(m ||| (J1 (k:Int))))<|by dsimp only;exact ⟨om,(by first|exact br3 (P:=(λx:Int=>lv<e_ num x)) hm om M|exact cm5 (P:=(λx:Int=>lv<e_ num x)) hm M)⟩
  exact Bu ((k+1),(m))<|by dsimp only;exact ⟨om,(by first|exact br3 (P:=(λx:Int=>lv<e_ num x)) hm om M|exact cm5 (P:=(λx:Int=>lv<e_ num x)) hm M)⟩
 have aa:k=num.length:=by omega
 exact Am C C I Ah ⟨m,rfl,by rw [←aa];exact hm,rfl⟩
theorem N0:u∈eo (a &&& ~~~b)↔u∈eo a/\u∉eo b:=by
 constructor
 ·intro h
  have hu:=Em h
  rw [D3,Kh,Mt,Hh] at h
  rw [D3,D3]
  refine ⟨⟨h.1,h.2.1⟩,λh3=>?_⟩
  rw [h3.2] at h;simp at h
 rintro ⟨M,h2⟩
 have hu:=Em M
 rw [D3] at M h2
 rw [D3,Kh,Mt,Hh]
 refine ⟨M.1,M.2,?_⟩
 have h3:b.getLsbD u.toNat=false:=by cases e:b.getLsbD u.toNat with |false=>rfl|true=>exact absurd ⟨M.1,e⟩ h2
 rw [h3];simp;omega
theorem ce2(h:∃u,u∈eo a/\u∈eo b):(eo (a &&& ~~~b)).length<(eo a).length:=by
 obtain ⟨u,h1,M⟩:=h
 have h3:∀x∈u::eo (a &&& ~~~b),x∈eo a:=λx hx=>by
  rcases F_.1 hx with rfl|hx
  ·exact h1
  exact (N0.1 hx).1
 have:=Ho (Jb.2 ⟨λhx=>(N0.1 hx).2 M,Dh _⟩) h3
 simp at this;omega
structure do0 (rows:List (BitVec 64)) (F A:BitVec 64) (k:Int) (S:BitVec 64):Prop where
 sub:∀x∈eo S,x∈eo F
 most:∀T:BitVec 64,(∀x∈eo T,x∈eo F)->(∀x∈eo T,k<=((Q4 rows (T ||| A) x:Nat):Int))->∀x∈eo T,x∈eo S
def cz9(rows:List (BitVec 64))(A:BitVec 64)(k:Int)(S bad:BitVec 64)(j:Nat):Prop:=∀x,x∈eo bad↔x∈(eo S).take j/\((Q4 rows (S ||| A) x:Nat):Int)<k
section
variable {rows:List (BitVec 64)}{F A S bad:BitVec 64}{k:Int}
theorem do0.start:do0 rows F A k F:=⟨λx M=>M,λT h _=>h⟩
theorem do0.done(h:do0 rows F A k S)(hb:cz9 rows A k S 0#64 (eo S).length):ft3 rows F A k S:=by
 refine ⟨h.sub,λx hx=>?_,h.most⟩
 have M:=(hb x).2
 rw [Hg,D4] at M
 exact Gg λhn=>absurd (M ⟨hx,by omega⟩)<|by simp
theorem do0.step(h:do0 rows F A k S)(hb:cz9 rows A k S bad (eo S).length):do0 rows F A k (S &&& ~~~bad):=by
 refine ⟨λx M=>h.sub x (N0.1 M).1,λT h1 h2 x M=>N0.2 ⟨h.most T h1 h2 x M,λaa=>?_⟩⟩
 have h3:=((hb x).1 aa).2
 have h4:=h2 x M
 have h5:=bf6 (rows:=rows) (W:=T ||| A) (L:=S ||| A) (λy hy=>by
  rw [ak6] at hy ⊢
  exact hy.imp (λhy=>h.most T h1 h2 y hy) id) x
 omega
theorem do0.less(hb:cz9 rows A k S bad (eo S).length)(M:¬bad=0#64):(eo (S &&& ~~~bad)).length<(eo S).length:=by
 obtain ⟨u,hu⟩:=az9.1 M
 exact ce2 ⟨u,Hz ((hb u).1 hu).1,hu⟩
theorem cz9.start:cz9 rows A k S 0#64 0:=λx=>by rw [D4,Jw];exact ⟨(λh=>by cases h),(λh=>by cases h.1)⟩
theorem co5(v:Int)(W:BitVec 64):ac5 (e_ rows v &&& W)=((Q4 rows W v:Nat):Int):=bq5 _
theorem cz9.yes(h:cz9 rows A k S bad j)(hj:j<(eo S).length)(hc:ac5 (e_ rows (e_ (eo S) j) &&& (S ||| A))<k):cz9 rows A k S (bad ||| J1 (e_ (eo S) j)) (j+1):=λx=>by
 have hr:=Em (Bo (xs:=eo S) (i:=(j:Int)) om om)
 rw [co5] at hc
 rw [ad7 hr,h x,Ca _ j hj,Gw,Gh]
 constructor
 ·rintro (⟨h1,M⟩|rfl)
  ·exact ⟨.inl h1,M⟩
  exact ⟨.inr rfl,hc⟩
 rintro ⟨h1|h1,M⟩
 ·exact .inl ⟨h1,M⟩
 exact .inr h1
theorem cz9.no(h:cz9 rows A k S bad j)(hj:j<(eo S).length)(hc:¬ac5 (e_ rows (e_ (eo S) j) &&& (S ||| A))<k):cz9 rows A k S bad (j+1):=λx=>by
 rw [co5] at hc
 rw [h x,Ca _ j hj,Gw,Gh]
 constructor
 ·rintro ⟨h1,M⟩;exact ⟨.inl h1,M⟩
 rintro ⟨h1|h1,M⟩
 ·exact ⟨h1,M⟩
 subst h1;exact absurd M hc
end
theorem ca6{κ:Ctx}{I:List Item}{rows:List (BitVec 64)}{F A:BitVec 64}{k:Int}(hl:Sl κ I va rows)(ao:rows.length<=64)(hF:∀x∈eo F,0<=x/\x<(rows.length:Int))(hT:F4 κ I 0 p5):eu prog κ 272 [va,U64 F,U64 A,e7 k] I (λr J=>∃S:BitVec 64,r=U64 S/\ft3 rows F A k S/\I=J):=by
 refine Ce4 Tryz.func272 C C<|Z ?_
 refine Dj (σ:=(BitVec 64)) (λs=>[(1,U64 s)]) (λ_=>[]) (λs=>(do0 rows F A k s)) (λs=>(eo s).length) F do0.start ?_
 rintro S hp
 have hS:=hp
 have ah:=fun (x:Int) hx=>hF x (hS.sub x hx)
 have ak:=Er S
 refine Z ?_
 refine Gc2 (Ab c_ C C<|ac1 S<|Ba hT Ah) λap an=>Z ?_
 refine Dj (σ:=Nat×(BitVec 64)) (λs=>[(9,U64<|s.2),(15,e7 ((s.1:Nat):Int))]) (λ_=>[]) (λs=>(s.1<=(eo S).length)/\(cz9 rows A k S s.2 s.1)) (λs=>(eo S).length - s.1) (0,0#64) ⟨om,cz9.start⟩ ?_
 rintro ⟨j,bad⟩ hp
 dsimp only at hp ⊢
 obtain ⟨hj,hb⟩:=hp
 have aj:=λh:j<(eo S).length=>ah _ (Bo (xs:=eo S) (i:=(j:Int)) om om)
 refine Z ?_
 refine Ao C (λad=>Z ?_)<|λad=>?_
 ·refine Gr (Ed (a:=S) (b:=A) C C) (Gr (Eh (a:=(e_ rows<|e_ (eo S) j)) (b:=S ||| A) C C)<|Gc0 (Ab c_ C C<|bh4<|(e_ rows<|e_ (eo S) j) &&& (S ||| A))<|Z ?_)
  refine Ao C (λaa=>Z ?_)<|λaa=>Z ?_
  ·refine G.e (Ab c_ C C<|ac3<|e_ (eo S) j) ?_
   rintro _ _ ⟨_,_,⟨rfl,rfl⟩,rfl,rfl⟩
   refine Gr (Ed (a:=bad) (b:=J1 (e_ (eo S) j)) C C)<|Z ?_
   exact Bu ((j+1),(bad ||| (J1<|e_ (eo S) j)))<|by dsimp only;exact ⟨om,(by first|exact hb.yes om aa|exact hb.no om aa)⟩
  exact Bu ((j+1),(bad))<|by dsimp only;exact ⟨om,(by first|exact hb.yes om aa|exact hb.no om aa)⟩
 refine Cg<|Aw<|Aw<|Bi<|Ak<|Ax<|Al<|Gm C ?_
 have ae:j=(eo S).length:=by omega
 have M:=hb
 rw [ae] at M
 refine Gr (j8.eqB (a:=bad) (b:=0#64) C C)<|Ar<|Ao C (λab=>Z ?_)<|λab=>Z ?_
 ·have ai:bad=0#64:=ab
  rw [ai] at M
  exact Am C C I Ah ⟨S,rfl,hS.done M,rfl⟩
 exact Gr (Ez (a:=S) (b:=bad) C C)<|Ga C<|Bq<|Au<|Bu ((S &&& ~~~bad)) (hS.step M) (hlt:=by (try dsimp only);exact (do0.less M ab))
end Go.Sl
namespace Go.Sl
open Go.Proofs
set_option maxRecDepth 4000
variable{b':Int}{ls num:List Int}{k:Nat}
theorem be6(hn:ls.Nodup)(M:∀w∈ls,0<=w/\w<(num.length:Int))(hk:k<ls.length):e_ ((ls.take k).foldl (X7 b') num) (e_ ls k)=e_ num (e_ ls k):=by
 have h0:=M _ (Bo (xs:=ls) (i:=(k:Int)) om om)
 rw [ac6 _ _ (λw hw=>M w<|Hz hw) _ h0.1,M2<|hn.sublist<|Lf _ _,An,Lc,Kc]
 intro hm
 obtain ⟨i,hi,e⟩:=Hx hm
 rw [Ft] at hi
 rw [Kk,Ct ls k hk] at e
 exact absurd e<|λe=>(Hc.1<|List.nodup_iff_pairwise_ne.1 hn) i k om hk om e
theorem ar9{out:List Int}(M:k<ls.length)(ho:out=(ls.take k).foldl (X7 b') num):List.set out (e_ ls k).toNat (e_ out (e_ ls k)+b')=(ls.take (k+1)).foldl (X7 b') num:=by
 rw [Ca ls k M,Hf,←ho];rfl
theorem cq2{κ:Ctx}{I:List Item}{nd nd':Int}{va:Value}{ga na:Option Addr}{gn gc nc:Nat}{S:BitVec 64}(hl:Sl κ I (.slice na num.length nc) num)(hS:∀x∈eo S,0<=x/\x<(num.length:Int))(ap:∀x∈num,0<=x/\x<=1000)(hb : -1<=b'/\b'<=1)(au:num.length<=64)(hT:F4 κ I 0 p5):eu prog κ 271 [.agg #[e7 nd,va,.slice na num.length nc],.agg #[e7 (nd'),.slice ga gn gc],U64 S,e7 (b')] I (λr J=>∃(a:Option Addr) (c:Nat) (a2:Option Addr) (c2:Nat),r = .tuple #[.agg #[e7 nd',.slice ga gn gc,.slice a num.length c],.slice a2 (eo S).length c2]/\J=vk 3 a2 c2 (eo S)::vc 3 (.slice a num.length c) ((eo S).foldl (X7 b') num)::I):=by
 have aq:=Er S
 refine Ce4 Tryz.func271 C C ?_
 refine Al<|Ge1 (Av (cs:=[_,_,_]) C C C) λb1=>Ge1 (Av (cs:=[_,_]) C C C) λb2=>Ge1 (Aj ab6 C) λb3=>Ga C<|Ar<|Al<|Gf bf1 C<|Gl W4 ?_
 refine Gc2 (Ab c_ C C<|ag9 (xs:=num) (A3 hl) om) λab aa=>?_
 refine Ga C<|Ar<|Ax<|Al<|Gm C<|Gc2 (Ab c_ C C<|ac1 S<|Ba hT Ah) λaj ah=>?_
 refine Gr (Bn Ac C)<|Gm C<|Ar<|A0 (S8 19 18 17 10 8 5 2 3)<|A7<|B9 (σ:=Nat×(List Int)) (λs=>([(2,U64 S),(3,e7<|b'),(5,pt b2),(8,pt b3),(10,.slice ab num.length aa),(17,.slice aj (eo S).length ah),(18,e7<|(((eo S).length:Nat):Int)),(19,e7 ((s.1:Nat):Int))]:Env)) (λs=>vk 3 aj ah (eo S)::vc 3 (.slice ab num.length aa) (s.2)::e8 b3 [e7 0,.slice none 0 0,.slice none 0 0] 40::e8 b2 [e7 (nd'),.slice ga gn gc] 38::e8 b1 [e7 nd,va,.slice na num.length nc] 40::I) (λs=>(s.1<=(eo S).length)/\(s.2=((eo S).take s.1).foldl (X7 b') num)) (λs=>(eo S).length - s.1) (0,num) ⟨om,rfl⟩ (cx4<|cx2<|Aa C<|Aa Cl Bb) Ai ?_
 rintro ⟨k,out⟩ hp
 dsimp only at hp ⊢
 obtain ⟨hk,ho⟩:=hp
 have ar:out.length=num.length:=by rw [ho];exact J5 _ _
 have M:=λh:k<(eo S).length=>hS _ (Bo (xs:=(eo S)) (i:=(k:Int)) om om)
 have ad:=λh:k<(eo S).length=>be6 (b':=b') (num:=num) (Dh S) hS h
 rw [←ho] at ad
 have ak:=λh:k<(eo S).length=>ap _ (Bo (xs:=num) (i:=e_ (eo S) k) (M h).1 (M h).2)
 refine Al<|Gr (Bm C C)<|Ar<|Ax<|Ao C (λan=>?_)<|λan=>?_
 ·refine Bc (Ak<|Ax<|A7<|Al<|Gr (A1 (α:=Int) (xs:=eo S) Ac ef C C A5 (by have h8:=M om;omega)<|by first|omega|(have h8:=M om;omega))<|Gr (B8 (xs:=eo S) ef C A5 (by have h8:=M om;omega)<|by first|omega|(have h8:=M om;omega))<|Ga C<|Ar<|A6<|Gm C<|Gm C<|Gr (A1 (α:=Int) (xs:=out) Ac ef C C A5 (by have h8:=M om;omega)<|by first|omega|(have h8:=M om;omega))<|Gr (B8 (xs:=out) ef C A5 (by have h8:=M om;omega)<|by first|omega|(have h8:=M om;omega))<|Gm C<|Gr (Cv C C<|by first|(unfold InR;omega)|(have h7:=ad om;have h8:=ak om;unfold InR;omega))<|Gr (A1 (α:=Int) (xs:=out) Ac ef C C A5 (by have h8:=M om;omega)<|by first|omega|(have h8:=M om;omega))<|Ge0 (Cw (α:=Int) (xs:=out) (e:=3) (new:=(e_ out<|e_ (eo S) k)+b') ef C C C (by have h8:=M om;omega) (by first|omega|(have h8:=M om;omega)) am) ?_)
  exact Bq<|Au<|Ak<|A0 (S8 2 3 5 8 10 17 18 19)<|A6<|Gr (Cv C C<|by first|(unfold InR;omega)|(have h7:=ad om;have h8:=ak om;unfold InR;omega))<|Gm C<|Bq<|Bu ((k+1),(List.set out (e_ (eo S) k).toNat ((e_ out<|e_ (eo S) k)+b')))<|by dsimp only;exact ⟨om,(ar9 om ho)⟩
 refine Cg<|Aw<|Aw<|Bi<|Ak<|Ax<|A8 mixed<|Ee 5<|Dr 0 C (Bl (vs:=[_,_]) K0) ?_
 refine Dr 1 C (Ap C)<|Dr 2 C (Cn (cells:=[_,_,_]) ab6 Tryz.underlying40 gi9 C C)<|Ds1 3<|Sr C (Ap C) Ah ?_
 refine Ds1 4<|Sc2 C (Ab c_ C C<|ac1 S<|Ba hT Ah) λai ae=>?_
 refine Ch kr ?_
 refine Ae 5 C (Db ab6) ?_
 rintro _ _ ⟨rfl,rfl⟩
 refine Di (i:=6) kr C (Aq C) C C (Bj C) ?_
 refine Ci kr ?_
 refine Ak<|A0 (S2 9 8)<|B3 ?_
 have ao:out=((eo S).foldl (X7 b') num):=by rw [ho,show k=(eo S).length by omega,Hg]
 have av:=J5 (by':=b') (eo S) num
 exact Cp C ab6 C C mm C (vk 3 ai ae (eo S)::vc 3 (.slice ab num.length aa) ((eo S).foldl (X7 b') num)::I) (by unfold vk;rw [←ao];exact Az) ⟨ab,aa,ai,ae,rfl,rfl⟩
end Go.Sl
namespace Go.Sl
open Go.RowKit (Below)
variable{x y y':Operand}{E T by' c h n:Nat}{ag:Bool}{z:List Value}{ad:Option Addr}{m:Int}
section
variable {P:Program}{κ:Ctx}{N:Frm}{Q:Exit->Act->World->Prop}{L:Env}{I J:List Item}
variable {d:Option Tmp}{ty:TypeId}{ps:String}{af:Array Edge}{gd:Option (Nat×Bool)}
theorem j8.gj4{α:Type}[Enc α]{xs:List α}(ht:P.underlying T=some (.slice E))(hE:tyF P E=some (Enc.sz α,ag,by',z))(hx:er L x=some (.slice ad n c))(hy:er L y=some (e7 m))(M:er L y'=some (e7 m))(hm:m=(h:Int))
  (hv:Sl κ J (.slice ad n c) xs) (hh:h<=xs.length):j8 P κ N ⟨d,.slice T x none (some y)<|some y',ty,ps,af,gd⟩ L J (.slice ad (xs.take h).length h):=by
 by_cases h1:0<h
 ·exact j8.hi3 ht hE hx hy M hm hv hh h1
 obtain rfl:h=0:=by omega
 intro a w ha hs
 subst hm
 obtain ⟨_,_,he,_,h2,_⟩:=hv w hs
 cases he
 have aa:(Instr.sliceBounds true xs.length c none (some<|a.eval y)<|some<|a.eval y').run P w = .ok (0,0,0) w:=by
  simp [Instr.sliceBounds,ha.eval hy,ha.eval M,Instr.sliceBound,asIntOf]
 have e:ad.map (λx=>x.add 0)=ad:=by cases ad<;>simp [Addr.add]
 simp [execOp,Instr.sliceAt,Instr.slice,run_underlying ht,ha.eval hx,aa,run_sizeOf hE,e]
theorem j8.gf8{α:Type}[Enc α]{xs:List α}(ht:P.underlying T=some (.slice E))(hE:tyF P E=some (Enc.sz α,ag,by',z))(hx:er L x=some (.slice ad n c))(hy:er L y=some (e7 m))(aa:er L y'=some (e7 ((c:Nat):Int)))(hm:m=(h:Int))
  (hv:Sl κ J (.slice ad n c) xs) (hh:h<=xs.length) (h1:0<xs.length):j8 P κ N ⟨d,.slice T x none (some y)<|some y',ty,ps,af,gd⟩ L J (.slice ad (xs.take h).length c):=λa w M hs=>by
 subst hm
 obtain ⟨_,_,he,_,h2,_⟩:=hv w hs
 cases he
 have hc:h<=c:=by omega
 have h3:((h:Int)<=(c:Int)):=by omega
 have ae:(Instr.sliceBounds true xs.length c none (some<|a.eval y)<|some<|a.eval y').run P w = .ok (0,h,c) w:=by
  simp [Instr.sliceBounds,M.eval hy,M.eval aa,Instr.sliceBound,asIntOf,hc]
 have ab:¬c=0:=by omega
 have e:ad.map (λx=>x.add 0)=ad:=by cases ad<;>simp [Addr.add]
 simp [execOp,Instr.sliceAt,Instr.slice,run_underlying ht,M.eval hx,ae,run_sizeOf hE,ab,e,Ft,Mm hh]
theorem dd1{P:Program}{w:World}{t e:TypeId}(ht:P.underlying t=some (.slice e)){sz:Nat}(hT:tyF P e=some (sz,ag,by',z))(M:z.length=sz)(n:Nat)
  (ae:n<=maxLen) (ah:n*by'<=281474976710656) :
  ∃v' w',(Instr.makeSlice t (.int .i64 0)<|.int .i64 n).run P w = .ok v' w'/\au5 w' e sz v' 0 []/\
   w'.os=w.os/\(w'.tape=w.tape/\w.drawn<=w'.drawn)/\w'.output=w.output/\w.heap.size<=w'.heap.size/\
   (∀k,k<w.heap.size->w'.heap[k]? = w.heap[k]?)/\(∀k,cs6 v' k->(w.heap.size<=k/\k<w'.heap.size)):=by
 obtain ⟨i,zv,d,hi,hz,hd,ab,an,aj,ai⟩:=ae7 hT
 have hw:IntKind.i64.wrap (n:Int)=n:=Go.IntWalk.i64_in _ (by simp only [maxLen] at ae;omega)
 have ad:IntKind.i64.wrap (0:Int)=0:=Go.IntWalk.i64_in _ (by omega)
 have h1:¬((n:Int)<0):=by omega
 have h2:¬(281474976710656<(i.bytes:Int)*n):=by
  rw [aj]
  have h:=Mr.2 ah
  rw [Int.natCast_mul,Int.mul_comm] at h
  omega
 have aa:(Array.range<|n*sz).map (λj=>zv.cells[j % zv.cells.size]!)=(List.replicate n z).flatten.toArray:=by
  apply Array.ext'
  simp only [Mh,Lo]
  rw [ai]
  apply Mx
  intro j
  simp only [Kv,Jl,M]
  by_cases hj:j<n*sz
  ·have hs:0<sz:=La λh=>by subst h;simp at hj
   rw [Mp hj]
   have ak:j % sz<z.length:=by rw [M];exact Nat.mod_lt _ hs
   rw [aa8 z n j (by rw [M];exact hs) (by rw [M];exact hj),M]
   simp [ak]
  rw [Jq (by simpa using hj),Jq (by rw [av8,M];omega)]
  rfl
 refine ⟨.slice (some ⟨w.heap.size,0,none⟩) 0 n,w.alloc<|.cells (List.replicate n z).flatten.toArray e,?_,?_,rfl,⟨rfl,Gi _⟩,rfl,by simp,λk hk=>Below.heap_alloc w _ k hk,λk hk=>?_⟩
 ·simp only [Instr.makeSlice,Sem.run_bind,run_underlying ht,Result.andThen_ok]
  by_cases hn:n*sz=0
  ·have h0:(List.replicate n z).flatten=[]:=Hr (by rw [av8,M];exact hn)
   simp [asInt,asIntOf,typeInfo,hi,hw,ad,h1,h2,ab,sizeOf,hn,newRow,h0,Array.range_zero']
  simp [asInt,asIntOf,typeInfo,hi,hw,ad,h1,h2,ab,sizeOf,hn,newRow,zeroValue,hz,aa]
 ·refine ⟨_,n,rfl,by simp,Mu _,ae,λ_=>⟨w.heap.size,0,_,rfl,heap_alloc_new w _,by simp [M],λj u hj=>by simp at hj⟩⟩
 obtain ⟨o,n',c',he,ao⟩:=hk
 cases he
 exact ⟨Gi _,by simp⟩
theorem Eff.ge9{α:Type}[Enc α]{t e dd:Nat}(ht:P.underlying t=some (.slice e))(hT:tyF P e=some (Enc.sz α,ag,by',z))(ai:z.length=Enc.sz α)(hx:er L x=some (e7 0))(hy:er L y=some (e7 m))(hm:m=(n:Int))
  (an:n<=1000000) (ab:n*by'<=281474976710656) (hN:Nat.blt dd N.n=true) :
  Eff P κ N Q ⟨some dd,.makeSlice t x y,ty,ps,af,gd⟩ L I λL' I''=>∃ad c,L'=(dd,.slice ad ([]:List α).length c)::L/\I''=vc e (.slice ad ([]:List α).length c) ([]:List α)::I:=
 Eff.Q7 rfl hN λa w ha hs=>by
  subst hm
  obtain ⟨v',w',hr,ah,ho,ak,aa,ae,hk,hf⟩:=dd1 (P:=P) (w:=w) ht hT ai n (by simp only [maxLen];omega) ab
  obtain ⟨ad,c,rfl,M⟩:=ah
  refine ⟨_,w',_,by simp [execOp,ha.eval hx,ha.eval hy,hr],⟨ad,c,rfl,rfl⟩,?_⟩
  refine hs.new (hs.frame ho ak aa ae λx hx k aj=>hk k<|(hs.ok x hx).2 k aj) ⟨ad,c,rfl,M⟩ hf
end
end Go.Sl
namespace Go.Sl
variable{m:Int}{l:List Ev}
structure BfS where
 lt:Int
 mr:Int
 ws:List Ev
structure az2 (bd:Int) (s:BfS):Prop where
 bd:0<=bd/\bd<=1048576
 lt:s.lt<=1048576
 mr : -1<=s.mr/\s.mr<=s.lt
 chk:∀e∈s.ws,z7 e=0
 rng:∀e∈s.ws,s.mr<e.tm/\e.tm<=s.lt
 asc:s.ws.Pairwise λa b=>a.tm<=b.tm
def ah2(bd:Int)(s:BfS)(e:Ev):Int:=max s.lt e.tm - bd - 1
def K5(s:BfS)(e:Ev):List Ev:=be4 evC s.ws e
def ao5(m:Int)(l:List Ev):List Ev:=l.filter λx=>decide (x.tm<=m)
def beyond(m:Int)(l:List Ev):List Ev:=l.filter λx=> !decide (x.tm<=m)
def BfS.push(bd:Int)(s:BfS)(e:Ev):BfS:=⟨max s.lt e.tm,max s.mr (ah2 bd s e),beyond (ah2 bd s e) (K5 s e)⟩
def BfS.out(bd:Int)(s:BfS)(e:Ev):List Ev:=ao5 (ah2 bd s e) (K5 s e)
def BfS.flush(s:BfS):BfS:=⟨s.lt,s.lt,[]⟩
theorem bw6(s:BfS)(e:Ev):(K5 s e).Perm (e::s.ws):=by
 unfold K5 be4
 exact ce6 _ _ _
theorem mem_push{s:BfS}{e x:Ev}:x∈K5 s e↔x=e\/x∈s.ws:=by rw [(bw6 s e).mem_iff,F_]
theorem ba1{x:Ev}:x∈ao5 m l↔x∈l/\x.tm<=m:=by unfold ao5;rw [Gp,Gs]
theorem av5{x:Ev}:x∈beyond m l↔x∈l/\m<x.tm:=by
 unfold beyond;rw [Gp,Kl,Lp]
 exact and_congr_right λ_=>Int.not_le
section
variable {bd:Int}{s:BfS}{e:Ev}
theorem az2.ft1(h:az2 bd s):(K5 s e).Pairwise λa b=>a.tm<=b.tm:=ct7 h.asc e
theorem az2.push(h:az2 bd s)(M:z7 e=0)(ht:s.mr<e.tm)(hT:e.tm<=1048576):az2 bd (s.push bd e):=by
 have hb:=h.bd
 have hl:=h.lt
 have hm:=h.mr
 refine ⟨h.bd,?_,?_,λx hx=>?_,λx hx=>?_,h.ft1.sublist Hi⟩
 ·show max s.lt e.tm<=1048576;omega
 ·show -1<=max s.mr (ah2 bd s e)/\max s.mr (ah2 bd s e)<=max s.lt e.tm
  unfold ah2;omega
 ·rcases mem_push.1 (av5.1 hx).1 with rfl|hx
  ·exact M
  exact h.chk x hx
 show max s.mr (ah2 bd s e)<x.tm/\x.tm<=max s.lt e.tm
 obtain ⟨h1,h2⟩:=av5.1 hx
 rcases mem_push.1 h1 with rfl|h3
 ·omega
 have:=h.rng x h3;omega
theorem az2.all(h:az2 bd s):ao5 s.lt s.ws=s.ws:=Ju.2 λx M=>As (h.rng x M).2
theorem az2.none(h:az2 bd s):beyond s.lt s.ws=[]:=Jm.2 λx M=>by have:=(h.rng x M).2;simp;omega
theorem az2.out(h:az2 bd s)(ht:s.mr<e.tm):(∀x∈s.out bd e,s.mr<x.tm/\x.tm<=(s.push bd e).mr)/\(s.out bd e).Pairwise λa b=>a.tm<=b.tm:=by
 refine ⟨λx M=>?_,h.ft1.sublist Hi⟩
 obtain ⟨h1,h2⟩:=ba1.1 M
 show s.mr<x.tm/\x.tm<=max s.mr (ah2 bd s e)
 rcases mem_push.1 h1 with rfl|h3
 ·omega
 have:=h.rng x h3;omega
theorem ab8(s:BfS)(e:Ev):(K5 s e).length=s.ws.length+1:=by rw [(bw6 s e).length_eq];rfl
end
end Go.Sl
namespace Go.Sl
open Go.Proofs
set_option maxRecDepth 4000
variable{a wa:Option Addr}{c k wc:Nat}{l ws:List Ev}{bd m:Int}
variable {κ:Ctx}{I:List Item}
attribute [local irreducible] W G V D A j8 Eff
theorem ay7{xs:List Ev}(hl:Sl κ I (.slice a xs.length c) xs)(hb:xs.length<=1000000000):eu prog κ 95 [.slice a xs.length c] I (λr J=>∃a' c',r = .slice a' xs.length c'/\J=vk 54 a' c' xs::I):=by
 refine Bx (p:=a.isNone=true->xs=[]/\c=0) (λw hs hn=>hl.isNone w hs hn) λM=>?_
 refine Ce1 Tryz.func95 C C<|Z ?_
 refine Gr (j8.dy6 Ad C C)<|Ar<|Ds C (λc4=>Z ?_)<|λc4=>Z ?_
 ·obtain ⟨ad,_⟩:=M c4
  subst ad
  exact Am C C (vk 54 none 0 ([]:List Ev)::I) (B6 _ _) ⟨none,0,rfl,rfl⟩
 refine Ge1 (Eff.bs0 (α:=Ev) Ad z6 C) λae=>?_
 refine Gm C<|Ge2 (Bs (α:=Ev) (e:=54) (xs:=([]:List Ev)) (ys:=xs) Ad z6 C C C mm (A3 hl) tb3 dc C<|λ_ _=>am) λaa ab=>?_
 exact Ga C<|Ar<|B3<|Am C C (vk 54 aa ab xs::I) Ai ⟨aa,ab,rfl,rfl⟩
theorem fi9(h:l.Pairwise λa b=>a.tm<=b.tm){i j:Nat}(aa:i<=j)(M:j<l.length):(e_ l i).tm<=(e_ l j).tm:=by
 by_cases e:i=j
 ·subst e;exact Hp _
 rw [Ct l i om,Ct l j M]
 exact (Hc.1 h) i j om M om
theorem bu8(h:l.Pairwise λa b=>a.tm<=b.tm)(hk:k<=l.length)(h1:∀j:Nat,j<k->(e_ l j).tm<=m)(h2:k<l.length->m<(e_ l k).tm):ao5 m l=l.take k/\beyond m l=l.drop k:=by
 have e1:∀x∈l.take k,x.tm<=m:=λx M=>by
  obtain ⟨i,hi,rfl⟩:=Hx M
  rw [Ft] at hi
  rw [Kk,←Ct l i om];exact h1 i om
 have e2:∀x∈l.drop k,m<x.tm:=λx M=>by
  obtain ⟨i,hi,rfl⟩:=Hx M
  rw [Gb] at hi
  rw [Lz,←Ct l (k+i) om]
  have:=fi9 h (i:=k) (j:=k+i) om om
  have:=h2 om;omega
 have hs:l=l.take k++l.drop k:=(Jo k l).symm
 constructor
 ·unfold ao5
  conv=>lhs;rw [hs]
  rw [Gu,Ju.2 λx M=>As<|e1 x M,Jm.2 λx M=>by have:=e2 x M;simp;omega,Gv]
 unfold beyond
 conv=>lhs;rw [hs]
 rw [Gu,Jm.2 λx M=>by have:=e1 x M;simp;omega,Ju.2 λx M=>by have:=e2 x M;simp;omega,Kr]
theorem au0{bf:BfS}(hl:Sl κ I (.slice wa bf.ws.length wc) bf.ws)(M:az2 bd bf)(hw:bf.ws.length<=4096):eu prog κ 56 [.agg #[e7 bd,e7 (bf.lt),e7 (bf.mr),.slice wa bf.ws.length wc]] I (λr J=>r = .bool true/\I=J):=by
 have aq:=M.bd
 have ap:=M.lt
 have ao:=M.mr
 refine Ce1 Tryz.func56 C C ?_
 refine Al<|Ge1 (Av (cs:=[_,_,_,_]) C C C) λb1=>Z ?_
 refine A4 (d:=9) C (λg9=>?_)<|λg9=>Z ?_
 ·omega
 refine A4 (d:=14) C (λae=>?_)<|λae=>Z ?_
 ·omega
 refine A4 (d:=19) C (λab=>?_)<|λab=>Z ?_
 ·omega
 refine A4 (d:=26) C (λah=>?_)<|λah=>Z ?_
 ·omega
 refine A4 (d:=31) C (λak=>?_)<|λak=>Z ?_
 ·omega
 refine Ao C (λaj=>?_)<|λaj=>Z ?_
 ·omega
 refine Dj (σ:=Nat×Int) (λs=>[(3,e7<|s.2),(43,e7 ((s.1:Nat):Int))]) (λ_=>[]) (λs=>(s.1<=bf.ws.length)/\(∀j:Nat,s.1<=j->j<bf.ws.length->s.2<=(e_ bf.ws j).tm)) (λs=>bf.ws.length - s.1) (0,(bf.mr+1)) (show ((0:Nat)<=bf.ws.length)/\(∀j:Nat,(0:Nat)<=j->j<bf.ws.length->((bf.mr+1):Int)<=(e_ bf.ws j).tm) from ⟨om,(λj _ hj=>by have:=(M.rng _<|Bo (xs:=bf.ws) (i:=(j:Int)) om om).1;omega)⟩) ?_
 rintro ⟨k,z⟩ hp
 dsimp only at hp ⊢
 obtain ⟨hk,hz⟩:=hp
 refine Z ?_
 refine Ao C (λai=>Z ?_)<|λai=>Z ?_
 ·refine Ge1 (Aj z6 C) λb2=>Ge0 (E5 z6) ?_
  refine Ar<|Ax<|Al<|Gl7 z6 ?_
  refine G.e (Ab c_ C C<|ab3<|e_ bf.ws k) ?_
  rintro _ _ ⟨_,_,⟨rfl,rfl⟩,rfl,rfl⟩
  refine Z ?_
  refine A4 (d:=50) C (λaa=>?_)<|λaa=>Z ?_
  ·exact absurd (M.chk _<|Bo om om) aa
  refine A4 (d:=56) C (λan=>?_)<|λan=>Z ?_
  ·exact absurd (hz k (Gi _) om) om
  refine Ao C (λad=>?_)<|λad=>Z ?_
  ·exact absurd (M.rng _<|Bo (xs:=bf.ws) (i:=(k:Int)) om om).2 om
  exact Bu ((k+1),((e_ bf.ws k).tm))<|by dsimp only;exact ⟨om,(λj h1 hj=>fi9 M.asc om hj)⟩
 exact Am C C I Ah ⟨rfl,rfl⟩
theorem an9(a b:Int):(if a<b then b else a)=max a b:=by split<;>omega
theorem Sl.cast{α:Type}[Enc α]{κ:Ctx}{I:List Item}{xs ys:List α}(h:Sl κ I (.slice a xs.length c) xs)(e:xs=ys):Sl κ I (.slice a ys.length c) ys:=e▸h
theorem Sl.ao5{M:Option Addr}{n:Nat}(hl:Sl κ I (.slice M n wc) ws)(hk:k<=ws.length/\Go.Sl.ao5 m ws=ws.take k):Sl κ I (.slice M (Go.Sl.ao5 m ws).length k) (Go.Sl.ao5 m ws):=by
 rw [hk.2];exact Sl.gd2 hl hk.1
theorem fy2(a b:Int):(if b<a then b else a)=min a b:=by split<;>omega
theorem ao4{lt mr:Int}(hl:Sl κ I (.slice wa ws.length wc) ws)(hA:ws.Pairwise λa b=>a.tm<=b.tm)(hw:ws.length<=5000):eu prog κ 96 [.agg #[e7 bd,e7 lt,e7 mr,.slice wa ws.length wc],e7 m] I (λr J=>∃(a:Option Addr) (c k:Nat),r = .tuple #[.agg #[e7 bd,e7 lt,e7 (max mr m),.slice a (beyond m ws).length c],.slice wa (ao5 m ws).length k]/\(k<=ws.length/\ao5 m ws=ws.take k)/\J=vk 54 a c (beyond m ws)::I):=by
 refine Ce2 Tryz.func96 C C ?_
 refine Al<|Ge1 (Av (cs:=[_,_,_,_]) C C C) λb1=>Ge1 (Aj J6 C) λb2=>Z ?_
 refine Dj (σ:=Nat) (λs=>[(6,e7 ((s:Nat):Int))]) (λ_=>[]) (λs=>(s<=ws.length)/\(∀j:Nat,j<s->(e_ ws j).tm<=m)) (λs=>ws.length - s) 0 ⟨om,(λj h=>by omega)⟩ ?_
 rintro k hp
 obtain ⟨hk,hj⟩:=hp
 refine Z ?_
 refine A4 (d:=13) C (λai=>Z ?_)<|λai=>Z ?_
 ·refine Ao C (λab=>Z ?_) (λab=>Z ?_)
  ·exact Bu ((k+1)) ⟨om,(λj h=>by by_cases e:j=k;(· subst e;exact ab);(· exact hj j om))⟩
  refine Gr (j8.gj4 (α:=Ev) (xs:=ws) (h:=k) Ad z6 C C C om (A3 hl) om)<|Z ?_
  refine Gr (Do (α:=Ev) (xs:=ws) (l:=k) Ad z6 C C om (A3 hl) om)<|Gc2 (Ab c_ C C<|ay7 (xs:=List.drop k ws) (Ep (A3 hl) om)<|by simp only [Gb];omega) λae ad=>?_
  refine Gf R2 C<|Ge0 (Bt (cs:=[_,_,_,_]) (vs:=[_]) (cs':=[_,_,_,_]) ap1)<|Z ?_
  refine Ge0 (Bt (cs:=[_,_,_,_]) (vs:=[_]) (cs':=[_,_,_,_]) ef)<|Z ?_
  refine Ge0 (C9 J6)<|Z ?_
  have M:=bu8 hA hk hj (λh=>by omega)
  exact Cp C J6 C C mm C (vk 54 ae ad (beyond m ws)::I) (by unfold vk;rw [M.2];exact Az) ⟨ae,ad,k,by rw [M.1,M.2,←an9],⟨hk,M.1⟩,rfl⟩
 refine Gr (j8.gj4 (α:=Ev) (xs:=ws) (h:=k) Ad z6 C C C om (A3 hl) om)<|Z ?_
 refine Gr (Do (α:=Ev) (xs:=ws) (l:=k) Ad z6 C C om (A3 hl) om)<|Gc2 (Ab c_ C C<|ay7 (xs:=List.drop k ws) (Ep (A3 hl) om)<|by simp only [Gb];omega) λah aa=>?_
 refine Gf R2 C<|Ge0 (Bt (cs:=[_,_,_,_]) (vs:=[_]) (cs':=[_,_,_,_]) ap1)<|Z ?_
 refine Ge0 (Bt (cs:=[_,_,_,_]) (vs:=[_]) (cs':=[_,_,_,_]) ef)<|Z ?_
 refine Ge0 (C9 J6)<|Z ?_
 have M:=bu8 hA hk hj (λh=>by omega)
 exact Cp C J6 C C mm C (vk 54 ah aa (beyond m ws)::I) (by unfold vk;rw [M.2];exact Az) ⟨ah,aa,k,by rw [M.1,M.2,←an9],⟨hk,M.1⟩,rfl⟩
end Go.Sl
