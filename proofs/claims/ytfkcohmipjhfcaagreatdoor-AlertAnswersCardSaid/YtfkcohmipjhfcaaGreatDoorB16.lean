/- A part of the proofs of statements of this seat: contracts of functions, and the plain laws that they lean on. No conditions. -/
import Derived.Test.YtfkcohmipjhfcaaGreatDoorB15
set_option linter.unusedVariables false
set_option linter.unusedSimpArgs false
set_option linter.unusedSectionVars false
/- The densest set's proof: at the last price every ad7 is given away whole, and no node is given more than the price. No Go. No conditions. -/
open List (replicate)
set_option maxHeartbeats 4000000
namespace Go.Sl
def fy6(es:List Pt)(D:Int)(parts:List Int)(v:Int):Int:=L6 es.length λi=>(if (e_ es i).u=v then e_ parts i else 0)+(if (e_ es i).v=v then D - e_ parts i else 0)
structure da9 (nd N D:Int) (es:List Pt) (parts:List Int):Prop where
 len:parts.length=es.length
 rng:∀i:Nat,i<es.length->0<=e_ parts i/\e_ parts i<=D
 load:∀v:Int,0<=v->v<nd->fy6 es D parts v<=N
def au7(nd:Int)(f:List Int)(i j:Nat):Int:=e_ f ((nd.toNat*2+(3*i+j):Nat):Int)
structure fb8 (nd N D:Int) (es:List Pt) (B:BitVec 64) (parts:List Int):Prop where
 len:parts.length=es.length
 cx9:∃f,ab2 (y3 nd N D es) f/\N*J5 B+D*((es.length:Int) - J7 B es)<=ar5 (y3 nd N D es) f 0/\∀i:Nat,i<es.length->e_ parts i=D - au7 nd f i 2
theorem cp4{α:Type}[Inhabited α](f:Nat->List α)(c:Nat)(h:∀i,(f i).length=c)(i j:Nat)(hj:j<c):∀n:Nat,i<n->e_ ((List.range n).flatMap f) ((c*i+j:Nat):Int)=e_ (f i) j
 |0,hi=>by omega
 |n+1,hi=>by
  have E:=V5 f c h n
  have M:∀m:Nat,i<m->c*i+j<m*c:=λm hm=>by
   have h1:c*(i+1)<=c*m:=Nat.mul_le_mul_left c hm
   rw [Nat.mul_succ,Kh c m] at h1;omega
  have hb:=M (n+1) hi
  have ab:=V5 f c h (n+1)
  rw [Cj _ _ (by rw [ab];exact hb),Cj _ _<|by rw [h];exact hj]
  have e1:(List.range<|n+1).flatMap f=(List.range n).flatMap f++f n:=by rw [Kj,Md];simp
  by_cases hin:i<n
  ·have ih:=cp4 f c h i j hj n hin
   rw [Cj _ _ (by rw [E];exact M n hin),Cj _ _<|by rw [h];exact hj] at ih
   rw [←ih]
   simp only [e1]
   rw [Nr (by rw [E];exact M n hin)]
  have ad:i=n:=by omega
  subst ad
  have aa:((List.range i).flatMap f).length<=c*i+j:=by rw [E,Kh];omega
  simp only [e1]
  rw [Nk aa]
  congr 1
  rw [E,Kh];omega
theorem ct8(a:Nat)(g:Nat->Int):∀b:Nat,L6 (a+b) g=L6 a g+L6 b (λi=>g (a+i))
 |0=>by simp [L6]
 |b+1=>by
  show L6 (a+b+1) g=_
  simp only [L6]
  rw [ct8 a g b];omega
theorem ct5(g:Nat->Int):∀a:Nat,L6 (a*2) g=L6 a λv=>g (2*v)+g (2*v+1)
 |0=>rfl
 |a+1=>by
  have e:(a+1)*2=a*2+1+1:=by omega
  rw [e]
  simp only [L6]
  rw [ct5 g a,Kh a 2];omega
theorem bn6(g:Nat->Int):∀a:Nat,L6 (a*3) g=L6 a λv=>g (3*v)+g (3*v+1)+g (3*v+2)
 |0=>rfl
 |a+1=>by
  have e:(a+1)*3=a*3+1+1+1:=by omega
  rw [e]
  simp only [L6]
  rw [bn6 g a,Kh a 3]
  have M:3*a+1+1=3*a+2:=rfl
  rw [M];omega
section
variable {nd N D:Int}{es:List Pt}
theorem bc5{v j:Nat}(E:v<nd.toNat)(hj:j<2):e_ (s9 nd N D es) ((2*v+j:Nat):Int)=e_ (P8 N v) j:=by
 have M:=V5 (P8 N) 2 (λ_=>rfl) nd.toNat
 have h:=cp4 (P8 N) 2 (λ_=>rfl) v j hj nd.toNat E
 rw [←h]
 unfold s9
 rw [Cj _ _ (by rw [A_,M];omega),Cj _ _<|by rw [M];omega,Nr<|by rw [M];omega]
theorem bc6{i j:Nat}(hi:i<es.length)(hj:j<3):e_ (s9 nd N D es) ((nd.toNat*2+(3*i+j):Nat):Int)=e_ (N8 nd D es i) j:=by
 have E:=V5 (P8 N) 2 (λ_=>rfl) nd.toNat
 have M:=V5 (N8 nd D es) 3 (λ_=>rfl) es.length
 have h:=cp4 (N8 nd D es) 3 (λ_=>rfl) i j hj es.length hi
 rw [←h]
 unfold s9
 rw [Cj _ _ (by rw [A_,E,M];omega),Cj _ _<|by rw [M];omega,Nk<|by rw [E];omega]
 congr 1
 rw [E];omega
theorem bf9(f:List Int)(z:Int):ar5 (y3 nd N D es) f z =
  L6 nd.toNat (λv=>((if 0=z then e_ f ((2*v:Nat):Int) else 0) - (if 2+(v:Int)=z then e_ f ((2*v:Nat):Int) else 0))+((if 2+(v:Int)=z then e_ f ((2*v+1:Nat):Int) else 0) - (if 1=z then e_ f ((2*v+1:Nat):Int) else 0)))
  + L6 es.length (λi=>((if 0=z then au7 nd f i 0 else 0) - (if 2+nd+(i:Int)=z then au7 nd f i 0 else 0))+((if 2+nd+(i:Int)=z then au7 nd f i 1 else 0) - (if 2+(e_ es i).u=z then au7 nd f i 1 else 0))+((if 2+nd+(i:Int)=z then au7 nd f i 2 else 0) - (if 2+(e_ es i).v=z then au7 nd f i 2 else 0))):=by
 unfold ar5
 have el:(y3 nd N D es).j9.length=nd.toNat*2+es.length*3:=aa7 nd N D es
 have ea:(y3 nd N D es).j9=s9 nd N D es:=rfl
 rw [el,ct8,ct5,bn6,ea]
 congr 1
 ·refine Db _ λv hv=>?_
  have M:=bc5 (N:=N) (D:=D) (es:=es) (j:=0) hv dc
  have E:=bc5 (N:=N) (D:=D) (es:=es) (j:=1) hv dc
  rw [Kw] at M
  rw [M,E]
  rfl
 refine Db _ λi hi=>?_
 have M:=bc6 (nd:=nd) (N:=N) (D:=D) (j:=0) hi dc
 have E:=bc6 (nd:=nd) (N:=N) (D:=D) (j:=1) hi dc
 have h2:=bc6 (nd:=nd) (N:=N) (D:=D) (j:=2) hi dc
 rw [Kw] at M
 rw [M,E,h2]
 rfl
theorem cb5(hG:G8 nd es)(hN:0<=N){B:BitVec 64}{parts:List Int}(h:fb8 nd N D es B parts)(hle:J7 B es*D<=N*J5 B):da9 nd N D es parts:=by
 obtain ⟨f,hf,hval,hp⟩:=h.cx9
 have hr:=hG.rng
 have ea:(y3 nd N D es).j9=s9 nd N D es:=rfl
 have el:(y3 nd N D es).j9.length=nd.toNat*2+es.length*3:=aa7 nd N D es
 have cn:∀v:Nat,v<nd.toNat->e_ f ((2*v:Nat):Int)=0/\e_ f ((2*v+1:Nat):Int)<=N:=λv hv=>by
  have a0:=hf.cap (2*v) om
  have a1:=hf.cap (2*v+1) om
  have h0:=bc5 (N:=N) (D:=D) (es:=es) (j:=0) hv dc
  rw [Kw] at h0
  rw [ea,h0] at a0
  rw [ea,bc5 hv dc] at a1
  have e0:(e_ (P8 N v) ((0:Nat):Int)).cap=0:=rfl
  have e1:(e_ (P8 N v) ((1:Nat):Int)).cap=N:=rfl
  omega
 have ce:∀i:Nat,i<es.length->∀j:Nat,j<3->0<=au7 nd f i j/\au7 nd f i j<=D:=λi hi j hj=>by
  have a:=hf.cap (nd.toNat*2+(3*i+j)) om
  rw [ea,bc6 hi hj] at a
  have e:(e_ (N8 nd D es i) j).cap=D:=by
   rcases (show j=0\/j=1\/j=2 by omega) with rfl|rfl|rfl<;>rfl
  rw [e] at a;exact a
 -- the j9 out of the source are full
 have hfull:∀i:Nat,i<es.length->au7 nd f i 0=D:=by
  have hs:ar5 (y3 nd N D es) f 0=L6 es.length λi=>au7 nd f i 0:=by
   rw [bf9]
   rw [Fq (m:=nd.toNat) λv hv=>by
    rw [By rfl,An om,An om,An om,(cn v hv).1];rfl]
   rw [Int.zero_add]
   refine Db _ λi hi=>?_
   have he:=hG.ad7 (e_ es i) (B3 om om)
   rw [By rfl,An om,An om,An om,An om,An om];omega
  have hc:L6 es.length (λ_=>D)=D*es.length:=by
   have:∀m:Nat,L6 m (λ_=>D)=D*m:=λm=>by
    induction m with
    |zero=>simp [L6]
    |succ m ih=>simp only [L6];rw [ih];push_cast;rw [Lx,Int.mul_one]
   exact this _
  have h1:=bd9 es.length (g:=λi=>au7 nd f i 0) (h:=λ_=>D) λi hi=>(ce i hi 0 dc).2
  have e1:D*((es.length:Int) - J7 B es)=D*es.length - D*J7 B es:=Int.mul_sub _ _ _
  have e2:J7 B es*D=D*J7 B es:=Hz _ _
  exact ae7 es.length (λi hi=>(ce i hi 0 dc).2) om
 -- what comes to an ad7 goes to its ends
 have hcons:∀i:Nat,i<es.length->au7 nd f i 1+au7 nd f i 2=D:=λi hi=>by
  have h0:=hf.cons (2+nd+(i:Int)) om (by show 2+nd+(i:Int)<2+nd+(es.length:Int);omega) (by show 2+nd+(i:Int)≠0;omega) (by show 2+nd+(i:Int)≠1;omega)
  rw [bf9] at h0
  rw [Fq (m:=nd.toNat) λv hv=>by
    rw [An om,An om,An om,An om];rfl] at h0
  rw [Int.zero_add] at h0
  rw [Db (h:=λk=>if k=i then au7 nd f i 1+au7 nd f i 2 - au7 nd f i 0 else 0) _ λk hk=>by
    have he:=hG.ad7 (e_ es k) (B3 om om)
    by_cases e:k=i
    ·subst e
     rw [An om,By rfl,By rfl,An om,By rfl,An om,By rfl];omega
    rw [An om,An om,An om,An om,An om,An om,An e];rfl] at h0
  rw [be0 hi] at h0
  have:=hfull i hi
  omega
 refine ⟨h.len,λi hi=>?_,λv h0 h1=>?_⟩
 ·have:=ce i hi 2 dc
  rw [hp i hi];omega
 have hv:=hf.cons (2+v) om (by show 2+v<2+nd+(es.length:Int);omega) (by show 2+v≠0;omega) (by show 2+v≠1;omega)
 rw [bf9] at hv
 obtain ⟨w,rfl⟩:=Hv h0
 rw [Db (h:=λk=>if k=w then e_ f ((2*w+1:Nat):Int) else 0) _ λk hk=>by
   by_cases e:k=w
   ·subst e
    rw [An om,By rfl,By rfl,An om,By rfl,(cn k hk).1];omega
   rw [An om,An om,An om,An om,An e];rfl] at hv
 rw [be0 om] at hv
 have hl:fy6 es D parts (w:Int)+L6 es.length (λi=>((if 0=2+(w:Int) then au7 nd f i 0 else 0) - (if 2+nd+(i:Int)=2+(w:Int) then au7 nd f i 0 else 0))+((if 2+nd+(i:Int)=2+(w:Int) then au7 nd f i 1 else 0) - (if 2+(e_ es i).u=2+(w:Int) then au7 nd f i 1 else 0))+((if 2+nd+(i:Int)=2+(w:Int) then au7 nd f i 2 else 0) - (if 2+(e_ es i).v=2+(w:Int) then au7 nd f i 2 else 0)))=0:=by
  unfold fy6
  rw [←ba3]
  refine Fq _ λi hi=>?_
  rw [hp i hi,An (show ¬(0:Int)=2+(w:Int) by omega),An (show ¬2+nd+(i:Int)=2+(w:Int) by omega),An (show ¬2+nd+(i:Int)=2+(w:Int) by omega),An (show ¬2+nd+(i:Int)=2+(w:Int) by omega)]
  have:=hcons i hi
  by_cases e1:(e_ es i).u=(w:Int)<;>by_cases e2:(e_ es i).v=(w:Int)
  ·rw [By e1,By e2,By om,By om];omega
  ·rw [By e1,An e2,By om,An om];omega
  ·rw [An e1,By e2,An om,By om];omega
  rw [An e1,An e2,An om,An om];omega
 have:=(cn w om).2
 omega
theorem bn9(M:G8 nd es)(h:nd=0):da9 nd 0 1 es []:=by
 have E:es=[]:=by
  cases es with
  |nil=>rfl
  |cons e t=>
   have:=M.ad7 e C_
   omega
 subst E
 exact ⟨rfl,λi hi=>absurd hi<|Kd i,λv h0 h1=>by omega⟩
end
def gn4(nd:Int)(es:List Pt)(N D E:Int)(parts:List Int):Prop:=p9 nd es=0->E=D/\da9 nd N D es parts
end Go.Sl
namespace Go.Sl
open Go.Proofs
set_option maxRecDepth 4000
variable{M es fs:List Pt}{j k k2:Nat}{D N de nd:Int}{f:List Int}{B:BitVec 64}{side:List Bool}
def bu0(q:Int)(j:Nat):Pt:=if j=0 then ⟨-1, -1⟩ else if j=1 then ⟨q, -1⟩ else ⟨q,q+1⟩
theorem dc9{q n:Int}(h:M=fs.set k2 (bu0 q j))(E:k2<fs.length)(hj:j<2)(hn:n=q+(j:Int)):List.set M ((k2:Int)).toNat (dd2 (e_ M k2) (j:Int) n)=fs.set k2 (bu0 q (j+1)):=by
 subst h hn
 rw [Hu,aq7 _ _ _ _ E,By rfl,List.set_set]
 congr 1
 rcases (show j=0\/j=1 by omega) with rfl|rfl<;>simp [dd2,bu0]
theorem dg3(h:M=fs.set k2 (bu0 (2*nd+3*(k2:Int)+1) j))(hj:j=2)(hk:k2<fs.length)(E:∀i:Nat,i<k2->e_ fs i=bu0 (2*nd+3*(i:Int)+1) 2):∀i:Nat,i<k2+1->e_ M i=bu0 (2*nd+3*(i:Int)+1) 2:=λi hi=>by
 subst h hj
 rw [aq7 _ _ _ _ hk]
 by_cases e:k2=i
 ·subst e;rw [By rfl]
 rw [An e];exact E i om
theorem dg1(hN:0<=N/\N<=4096)(hD:0<=D/\D<=4096)(E:ab2 (y3 nd N D es) f):∀x∈f,0<=x/\x<=4096:=λx hx=>by
 obtain ⟨i,hi,rfl⟩:=Ki hx
 have M:i<(y3 nd N D es).j9.length:=by rw [←E.len];exact hi
 have h:=E.cap i M
 rw [Cj f i hi] at h
 have hm:e_ (s9 nd N D es) i∈s9 nd N D es:=B3 om (by have:i<(s9 nd N D es).length:=M;omega)
 have hc:(e_ (s9 nd N D es) i).cap<=4096:=by
  rcases as4.1 hm with ⟨v,hv,h⟩|⟨j,hj,h⟩
  ·simp only [P8,Gh,Hy,Kx] at h
   rcases h with h|h<;>rw [h]<;>simp only<;>omega
  simp only [N8,Gh,Hy,Kx] at h
  rcases h with h|h|h<;>rw [h]<;>simp only<;>omega
 have e:(y3 nd N D es).j9=s9 nd N D es:=rfl
 rw [e] at h
 omega
theorem ft9{p:Int->Prop}(hk:k<64)(h:∀v:Int,v∈em B↔(0<=v/\v<(k:Int))/\p v)(E:p (k:Int)):∀v:Int,v∈em (B ||| Q6 (k:Int))↔(0<=v/\v<((k+1:Nat):Int))/\p v:=λv=>by
 rw [br7 om om]
 rw [aj0 om om,h v]
 constructor
 ·rintro (⟨h1,M⟩|h1)
  ·exact ⟨by omega,M⟩
  have:v=(k:Int):=by omega
  subst this;exact ⟨by omega,E⟩
 rintro ⟨h1,M⟩
 by_cases e:v=(k:Int)
 ·right;omega
 left;exact ⟨by omega,M⟩
theorem gi3{p:Int->Prop}(h:∀v:Int,v∈em B↔(0<=v/\v<(k:Int))/\p v)(E:¬p (k:Int)):∀v:Int,v∈em B↔(0<=v/\v<((k+1:Nat):Int))/\p v:=λv=>by
 rw [h v]
 constructor
 ·rintro ⟨h1,M⟩;exact ⟨by omega,M⟩
 rintro ⟨h1,M⟩
 by_cases e:v=(k:Int)
 ·subst e;exact absurd M E
 exact ⟨by omega,M⟩
theorem ff5(hG:G8 nd es)(hm:es.length<=2016)(hN:0<=N/\N<=4096)(hD:0<=D/\D<=4096)(hB:gd9 (y3 nd N D es) f side)(hk:k=nd.toNat)
  (h:∀v:Int,v∈em B↔(0<=v/\v<(k:Int))/\e_ side (2+v)=true):ch8 nd N D es B:=by
 obtain ⟨T,aa,M⟩:=hB.bm7
 have hr:=hG.rng
 refine co8 hG hm om om hB.cx9 aa λv=>?_
 rw [h v]
 constructor
 ·rintro ⟨h1,E⟩
  rw [M (2+v) om (by show 2+v<2+nd+(es.length:Int);omega)] at E
  exact ⟨by omega,E⟩
 rintro ⟨h1,E⟩
 refine ⟨by omega,?_⟩
 rw [M (2+v) om (by show 2+v<2+nd+(es.length:Int);omega)]
 exact E
theorem fh0(hG:G8 nd es)(hm:es.length<=2016)(hN:0<=N/\N<=4096)(hD:0<=D/\D<=4096)(hB:gd9 (y3 nd N D es) f side)(hk:k=nd.toNat)
  (h:∀v:Int,v∈em B↔(0<=v/\v<(k:Int))/\e_ side (2+v)=true) {M:List Int} (hl:M.length=es.length) (hp:∀i:Nat,i<es.length->e_ M i=D - au7 nd f i 2):fb8 nd N D es B M:=by
 obtain ⟨T,E,aa⟩:=hB.bm7
 have hr:=hG.rng
 have hs:ah5 nd B:=λx hx=>by have:=((h x).1 hx).1;omega
 have hc:aj9 nd N D es (λv=>T<|2+v)=aj9 nd N D es (λv=>B.getLsbD v.toNat):=bq7 hG λv h0 h1=>by
  rw [Lr]
  have a:=h v
  rw [Cz,aa (2+v) om<|by show 2+v<2+nd+(es.length:Int);omega] at a
  constructor
  ·intro hh;exact (a.2 ⟨by omega,hh⟩).2
  intro hh;exact (a.1 ⟨h0,hh⟩).2
 rw [at7 hr.1 hr.2 hs] at hc
 have h1:=bh9 (nd:=nd) (N:=N) (D:=D) (es:=es) hD.1 T E.src E.snk
 have h2:ar5 (y3 nd N D es) f 0=cz7 (y3 nd N D es) T:=E.value (aq5 hG hm om om) hB.cx9
 exact ⟨hl,f,hB.cx9,by omega,hp⟩
theorem de0{fl M:List Int}{k4:Nat}{E:Int}(h0:0<=nd)(hs:e_ fs k4=bu0 (2*nd+3*(k4:Int)+1) 2)(hx:0<=(e_ fs k4).u->0<=(e_ fs k4).v->E=de - e_ fl (e_ fs k4).v)
  (hl:M.length=k4) (aa:∀i:Nat,i<k4->e_ M i=de - au7 nd fl i 2):∀i:Nat,i<k4+1->e_ (M++[E]) i=de - au7 nd fl i 2:=λi hi=>by
 by_cases e:i<k4
 ·rw [D1 _ _ _ om];exact aa i e
 have e2:i=k4:=by omega
 subst e2
 have h1:=cq1 M E
 rw [hl] at h1
 rw [hs] at hx
 have h2:E=de - e_ fl (2*nd+3*(i:Int)+1+1):=hx (show 0<=2*nd+3*(i:Int)+1 by omega) (show 0<=2*nd+3*(i:Int)+1+1 by omega)
 have h3:((nd.toNat*2+(3*i+2):Nat):Int)=2*nd+3*(i:Int)+1+1:=by omega
 unfold au7
 rw [h1,h2,h3]
theorem fp7{κ:Ctx}{I:List Item}{nd:Int}{ve vw vb vk:Value}{es:List Pt}{ws bs cs:List Int}(hl:Sl κ I ve es)(hw:Sl κ I vw ws)(hb:Sl κ I vb bs)(ao:Sl κ I vk cs)(hG:G8 nd es)(hm:es.length<=2016)(hP:bs7 nd es ws bs cs){nu de:Int}(hN:0<=nu/\nu<=4096)(hD:1<=de/\de<=64):er Tryz.prog κ 233 [.agg #[ve,vw,vb,vk,U64 (K2 nd),U64 (0#64)],.agg #[e7 nu,e7 de]] I (λr J=>∃B a c M,r = .agg #[U64 B,.slice a (M:List Int).length c]/\ch8 nd nu de es B/\fb8 nd nu de es B M/\J=vc 3 (.slice a M.length c) M::I):=by
 have a9:=hG.rng
 have ca:=hP.wl
 have ci:=hP.bl
 have cg:=hP.cl
 have ay:0<=de/\de<=4096:=by omega
 refine Ce2 Tryz.func233 C C ?_
 refine Aj<|Ge1 (Ay (cs:=[_,_,_,_,_,_]) C C C) λb1=>Ge1 (Ay (cs:=[_,_]) C C C) λb2=>Ge1 (Ah ai2 C) λb3=>Aq<|Aj<|Gf ag1 C<|Gl ab3 ?_
 refine Gr (C3 (α:=Int) (xs:=cs) Ab C<|Bc ao)<|Gr (Rad C C)<|Gf at5 C<|Gl bm1 ?_
 refine Gr (C3 (α:=Pt) (xs:=es) B2 C<|Bc hl)<|Gr (Rad C C) ?_
 rw [show (2:Int)+((cs.length:Nat):Int)+((es.length:Nat):Int)=2+nd+((es.length:Nat):Int) by omega]
 refine Gr (B1 (cells:=[_,_,_,_]) dc6 Tryz.underlying303 gh4 C C)<|Ge1 (Ah dc6 C) λb4=>Ge0 (gd5 dc6) ?_
 refine Fo (J:=vc 305 (.slice none 0 0) (([]:List Arc))::e8 b4 [e7 (2+nd+((es.length:Nat):Int)),e7 0,e7 1,.slice none 0 0] 303::e8 b3 [.int .u64 0,.slice none 0 0] 208::e8 b2 [e7 nu,e7 de] 40::e8 b1 [ve,vw,vb,vk,U64<|K2 nd,U64<|0#64] 211::I) (Bb (α:=Arc) _ _) ?_
 refine Aq<|A0 (S4 5 4 3 2 C C C C)<|Aj<|Gr (Ei C C)<|Ga C<|Aq<|Ax<|Aj<|Gf ag1 C<|Gl ab3 ?_
 refine Gr (C3 (α:=Int) (xs:=cs) Ab C<|Bc ao)<|Gm C<|Aq<|A3<|B4 (σ:=Nat×(Option Addr)×Nat×(List Arc)) (λs=>([(2,.pointer<|some ⟨b1,0,none⟩),(3,.pointer<|some ⟨b2,0,none⟩),(4,.pointer<|some ⟨b3,0,none⟩),(5,.pointer<|some ⟨b4,0,none⟩),(6,.func (.func 281) #[] #[.pointer (some ⟨b4,0,none⟩)]),(33,vk),(34,e7 ((cs.length:Nat):Int)),(35,e7 ((s.1:Nat):Int))]:Env)) (λs=>e8 b4 [e7 (2+nd+((es.length:Nat):Int)),e7 0,e7 1,.slice s.2.1 s.2.2.2.length s.2.2.1] 303::vc 305 (.slice s.2.1 s.2.2.2.length s.2.2.1) (s.2.2.2)::e8 b3 [.int .u64 0,.slice none 0 0] 208::e8 b2 [e7 nu,e7 de] 40::e8 b1 [ve,vw,vb,vk,U64<|K2 nd,U64<|0#64] 211::I) (λs=>(s.1<=cs.length)/\(s.2.2.2=(List.range s.1).flatMap (P8 nu))) (λs=>cs.length - s.1) (0,none,0,[]) ⟨om,rfl⟩ (Aa C<|Aa C<|Aa C<|Aa C<|Aa C<|Aa C<|Aa C<|Aa Co A9) Bi ?_
 rintro ⟨k,a,c,ar⟩ hp
 dsimp only at hp ⊢
 obtain ⟨cb,a6⟩:=hp
 have bi:ar.length=2*k:=by rw [a6,V5 _ 2<|λ_=>rfl];omega
 refine Aj<|Gr (Bp C C)<|Aq<|Ax<|Am C (λb7=>?_)<|λb7=>?_
 ·refine A4 (Al<|Ax<|A3<|Aj<|Gm C<|Gr (A2 (α:=Int) (xs:=cs) Ab ef C C (Bc ao) om oo)<|Gr (B8 (xs:=cs) ef C (Bc ao) om oo) ?_)
  have cd:k<nd.toNat:=by omega
  rw [hP.c1 (k:Int) om om]
  refine Ga C<|Ga C<|Aq<|A0 (S10 8 7 2 3 4 5 6 33 34 35 C C C C C C C C C C)<|Ax<|A8 mixed<|C1 9<|Dr 0 C (Ad C)<|Dr 2 C (Ai bw6 C)<|Dr 3 C (Bd J8) ?_
  refine Dr 5 C (Ai at3 C)<|Dr 6 C (Bd J8) ?_
  refine Ds1 1<|Se C (Ac c_ C C<|ac4 (k:Int)) ?_
  rintro _ _ ⟨_,_,⟨rfl,rfl⟩,rfl,rfl⟩
  refine ⟨Af,?_⟩
  refine Dr 4 C (C4 (a:=Q6 (k:Int)) (b:=K2 nd) C C)<|Dr 7 C (Ew (a:=(Q6 (k:Int)) &&& (K2 nd)) (b:=0#64) C C)<|Dr 8 C (E3 (a:=((Q6 (k:Int)) &&& (K2 nd)) &&& ~~~(0#64)) (b:=0#64) C C)<|Dz<|Al<|A0 (S11 48 8 7 2 3 4 5 6 33 34 35 C C C C C C C C C C C)<|Am C (λbc=>?_)<|λbc=>?_
  ·refine Ax (A8 mixed<|Cf (e8 b3 [.int .u64 0,.slice none 0 0] 208::e8 b2 [e7 nu,e7 de] 40::e8 b1 [ve,vw,vb,vk,U64<|K2 nd,U64<|0#64] 211::I) 12<|Dr 0 C (Ad C)<|Dr 1 C (Ad C)<|Dr 2 C (Rad C C)<|Dr 3 C (Ai cy2 C)<|Dr 4 C (Bd ab3) ?_)
   refine Dr 5 C (Ad C)<|Dr 6 C (A2 (α:=Int) (xs:=bs) Ab ef C C (Bc hb) om oo)<|Dr 7 C (B8 (xs:=bs) ef C (Bc hb) om oo) ?_
   rw [hP.b0 (k:Int) om om]
   refine Dr 8 C (Ai bw2 C)<|Dr 9 C (Bd ef) ?_
   refine Dr 10 C (Eg C C<|by unfold InR;omega) ?_
   rw [Mc]
   refine Ds1 11<|Sc2 C (C0 c_ C C C<|Cm (J:=e8 b4 [e7 (2+nd+((es.length:Nat):Int)),e7 0,e7 1,.slice a ar.length c] 303::vc 305 (.slice a ar.length c) (ar)::e8 b3 [.int .u64 0,.slice none 0 0] 208::e8 b2 [e7 nu,e7 de] 40::e8 b1 [ve,vw,vb,vk,U64<|K2 nd,U64<|0#64] 211::I) Bi<|dc2 0 (2+(k:Int)) 0 olp) λbb bn=>?_
   refine Dz<|Al<|A0 (S10 8 7 2 3 4 5 6 33 34 35 C C C C C C C C C C)<|A1<|Gm C<|Gm C<|Gr (Rad C C)<|Gm C<|Gf dv6 C<|Gl ef ?_
   refine Gr (Eg C C<|by unfold InR;omega) ?_
   rw [Int.one_mul]
   refine Gc2 (C0 c_ C C C<|Cm (J:=e8 b4 [e7 (2+nd+((es.length:Nat):Int)),e7 0,e7 1,.slice bb (ar++[(⟨0,2+(k:Int),0⟩:Arc)]).length bn] 303::vc 305 (.slice bb (ar++[(⟨0,2+(k:Int),0⟩:Arc)]).length bn) (ar++[(⟨0,2+(k:Int),0⟩:Arc)])::e8 b3 [.int .u64 0,.slice none 0 0] 208::e8 b2 [e7 nu,e7 de] 40::e8 b1 [ve,vw,vb,vk,U64<|K2 nd,U64<|0#64] 211::I) Bi<|dc2 (2+(k:Int)) 1 nu olp) λbu bv=>?_
   exact Bl<|Ap<|Al<|A0 (S8 2 3 4 5 6 33 34 35 C C C C C C C C)<|A1<|Gr (Rad C C)<|Gm C<|Bl<|Bh ((k+1),(bu),(bv),((ar++[(⟨0,2+(k:Int),0⟩:Arc)])++[(⟨2+(k:Int),1,nu⟩:Arc)]))<|by dsimp only;exact ⟨om,(by rw [ce6,←a6,H1];rfl)⟩
  exact absurd (dz2 (u:=(k:Int)) om om om) bc
 refine B6<|Ao<|Ao<|A5<|Al<|Aj<|Gf at5 C<|Gl bm1 ?_
 refine Gr (C3 (α:=Pt) (xs:=es) B2 C<|Bc hl)<|Ge2 (Ca (α:=Pt) (n:=es.length) Cp ar6 C C C om om dc C) λaa E=>?_
 refine Ga C<|Aq<|A0 (S6 9 2 3 4 5 6 C C C C C C)<|Ax<|Aj<|Gf at5 C<|Gl bm1 ?_
 refine Gr (C3 (α:=Pt) (xs:=es) B2 C<|Bc hl)<|Gm C<|Aq<|A3<|B4 (σ:=Nat×(Option Addr)×Nat×(List Arc)×(List Pt)) (λs=>([(2,.pointer<|some ⟨b1,0,none⟩),(3,.pointer<|some ⟨b2,0,none⟩),(4,.pointer<|some ⟨b3,0,none⟩),(5,.pointer<|some ⟨b4,0,none⟩),(6,.func (.func 281) #[] #[.pointer (some ⟨b4,0,none⟩)]),(9,.slice aa (replicate es.length (default:Pt)).length E),(75,ve),(76,e7 ((es.length:Nat):Int)),(77,e7 ((s.1:Nat):Int))]:Env)) (λs=>e8 b4 [e7 (2+nd+((es.length:Nat):Int)),e7 0,e7 1,.slice s.2.1 s.2.2.2.1.length s.2.2.1] 303::vc 305 (.slice s.2.1 s.2.2.2.1.length s.2.2.1) (s.2.2.2.1)::vc 64 (.slice aa (replicate es.length (default:Pt)).length E) (s.2.2.2.2)::e8 b3 [.int .u64 0,.slice none 0 0] 208::e8 b2 [e7 nu,e7 de] 40::e8 b1 [ve,vw,vb,vk,U64<|K2 nd,U64<|0#64] 211::I) (λs=>(s.1<=es.length)/\(s.2.2.2.1=ar++(List.range s.1).flatMap (N8 nd de es))/\(s.2.2.2.2.length=es.length)/\(∀i:Nat,i<s.1->e_ s.2.2.2.2 i=bu0 (2*nd+3*(i:Int)+1) 2)) (λs=>es.length - s.1) (0,a,c,ar,replicate es.length (default:Pt)) ⟨om,(by simp),Fw,(λi h=>by omega)⟩ (Aa C<|Aa C<|Aa C<|Aa C<|Aa C<|Aa C<|Aa C<|Aa C<|Aa Co A9) Bi ?_
 rintro ⟨k2,a2,c2,ai,fs⟩ hp
 dsimp only at hp ⊢
 obtain ⟨cj,aq,bz,a4⟩:=hp
 have a5:ai.length=2*k+3*k2:=by rw [aq,A_,bi,V5 _ 3<|λ_=>rfl];omega
 refine Aj<|Gr (Bp C C)<|Aq<|Ax<|Am C (λbw=>?_)<|λbw=>?_
 ·refine A4 (Al<|Ax<|A3<|Aj<|Gm C<|Gr (A2 (α:=Pt) (xs:=es) B2 H3 C C (Bc hl) om oo)<|Gr (Cd (α:=Pt) (xs:=es) H3 C (Bc hl) om oo) ?_)
  have ch:=hG.ad7 (e_ es k2) (B3 om om)
  refine Ge1 (Ah H3 C) λax=>Ga C<|Ge0 (Ba H3) ?_
  refine Aq<|A0 (S11 10 11 2 3 4 5 6 9 75 76 77 C C C C C C C C C C C)<|Aj<|Gf ag1 C<|Gl ab3 ?_
  refine Gr (C3 (α:=Int) (xs:=cs) Ab C<|Bc ao)<|Gr (Rad C C)<|Gm C<|Gr (Rad C C) ?_
  rw [show (2:Int)+((cs.length:Nat):Int)+(k2:Int)=2+nd+(k2:Int) by omega]
  refine Ga C<|Aq<|A0 (S12 12 10 11 2 3 4 5 6 9 75 76 77 C C C C C C C C C C C C)<|Ax<|A8 mixed<|C1 9<|Dr 0 C (Ai at4 C)<|Dr 1 C (Bd ab3) ?_
  refine Dr 2 C (Ad C)<|Dr 3 C (A2 (α:=Int) (xs:=ws) Ab ef C C (Bc hw) om oo)<|Dr 4 C (B8 (xs:=ws) ef C (Bc hw) om oo) ?_
  rw [hP.w1 k2 om]
  refine Dr 5 C (Ai bw2 C)<|Dr 6 C (Bd ef) ?_
  refine Dr 7 C (Eg C C<|by unfold InR;omega) ?_
  rw [Int.one_mul]
  refine Dr 8 C (Bo C)<|Dz<|Al<|A0 (S13 13 12 10 11 2 3 4 5 6 9 75 76 77 C C C C C C C C C C C C C)<|Aj<|Gm C<|Gm C<|Gm C<|Gc2 (C0 c_ C C C<|Cm (J:=e8 b4 [e7 (2+nd+((es.length:Nat):Int)),e7 0,e7 1,.slice a2 ai.length c2] 303::vc 305 (.slice a2 ai.length c2) (ai)::e8 ax [e7 ((e_ es k2).u),e7<|(e_ es k2).v] 135::vc 64 (.slice aa (replicate es.length (default:Pt)).length E) (fs)::e8 b3 [.int .u64 0,.slice none 0 0] 208::e8 b2 [e7 nu,e7 de] 40::e8 b1 [ve,vw,vb,vk,U64<|K2 nd,U64<|0#64] 211::I) Bi<|dc2 0 (2+nd+(k2:Int)) de olp) λbm ba=>?_
  refine Aq<|A0 (S13 13 12 10 11 2 3 4 5 6 9 75 76 77 C C C C C C C C C C C C C)<|Aj<|Gm C<|Gm C<|Gr (Er (cells:=[_,_]) ar6 B0 ef C C)<|Gr (A2 (α:=Pt) (xs:=fs) Cp ar6 C C A6 om oo)<|Ge0 (Cr (α:=Pt) (xs:=fs) (e:=64) (new:=⟨-1, -1⟩) ar6 C C C om oo am) ?_
  refine Aq<|A0 (S13 13 12 10 11 2 3 4 5 6 9 75 76 77 C C C C C C C C C C C C C)<|Aj<|Gf bb5 C<|Gl ef ?_
  refine Gf bb4 C<|Gl ef ?_
  refine Gr (Er (cells:=[_,_]) ar6 B0 ef C C)<|Gm C<|Aq<|A0 (S14 109 108 13 12 10 2 3 4 5 6 9 75 76 77 C C C C C C C C C C C C C C)<|A3<|B4 (σ:=Nat×(Option Addr)×Nat×(List Arc)×(List Pt)) (λs=>([(2,.pointer<|some ⟨b1,0,none⟩),(3,.pointer<|some ⟨b2,0,none⟩),(4,.pointer<|some ⟨b3,0,none⟩),(5,.pointer<|some ⟨b4,0,none⟩),(6,.func (.func 281) #[] #[.pointer (some ⟨b4,0,none⟩)]),(9,.slice aa (replicate es.length (default:Pt)).length E),(10,e7<|(k2:Int)),(12,e7<|2+nd+(k2:Int)),(13,e7 de),(75,ve),(76,e7 ((es.length:Nat):Int)),(77,e7<|(k2:Int)),(108,.agg #[e7 ((e_ es k2).u),e7<|(e_ es k2).v]),(109,e7 ((s.1:Nat):Int))]:Env)) (λs=>e8 b4 [e7 (2+nd+((es.length:Nat):Int)),e7 0,e7 1,.slice s.2.1 s.2.2.2.1.length s.2.2.1] 303::vc 305 (.slice s.2.1 s.2.2.2.1.length s.2.2.1) (s.2.2.2.1)::e8 ax [e7 ((e_ es k2).u),e7<|(e_ es k2).v] 135::vc 64 (.slice aa (replicate es.length (default:Pt)).length E) (s.2.2.2.2)::e8 b3 [.int .u64 0,.slice none 0 0] 208::e8 b2 [e7 nu,e7 de] 40::e8 b1 [ve,vw,vb,vk,U64<|K2 nd,U64<|0#64] 211::I) (λs=>(s.1<=2)/\(s.2.2.2.1=ai++(N8 nd de es k2).take (1+s.1))/\(s.2.2.2.2=fs.set k2 (bu0 (2*nd+3*(k2:Int)+1) s.1))) (λs=>2 - s.1) (0,bm,ba,ai++[(⟨0,2+nd+(k2:Int),de⟩:Arc)],List.set fs ((k2:Int)).toNat (⟨-1, -1⟩)) ⟨om,rfl,(by rw [Hu];rfl)⟩ (Aa C<|Aa C<|Aa C<|Aa C<|Aa C<|Aa C<|Aa C<|Aa C<|Aa C<|Aa C<|Aa C<|Aa C<|Aa C<|Aa Co A9) Bi ?_
  rintro ⟨j,a3,c3,ad,aj⟩ hp
  dsimp only at hp ⊢
  obtain ⟨hj,aw,av⟩:=hp
  refine W.pull (p:=0<aj.length->aa≠none) (vc.isSome mm) λa8=>?_
  have br:ad.length=2*k+3*k2+1+j:=by rw [aw,A_,Fx,a5];show 2*k+3*k2+min (1+j) 3=_;omega
  have be:aj.length=es.length:=by rw [av,Gd];exact bz
  refine Aj<|Gr (Bp C C)<|Aq<|A0 (S15 110 2 3 4 5 6 9 10 12 13 75 76 77 108 109 C C C C C C C C C C C C C C C)<|Ax<|Am C (λbh=>?_)<|λbh=>?_
  ·refine A4 (Al<|A0 (S14 2 3 4 5 6 9 10 12 13 75 76 77 108 109 C C C C C C C C C C C C C C)<|Ax<|A3<|Aj<|Gm C<|Gr (j0.fu5 (gx1 _ _) (gx0 _ _) C C om)<|Ga C<|Ga C<|Aq<|A0 (S16 15 14 2 3 4 5 6 9 10 12 13 75 76 77 108 109 C C C C C C C C C C C C C C C C)<|Ax<|A8 mixed<|C1 6<|Dr 0 C (Ad C)<|Dr 2 C (Ai at3 C)<|Dr 3 C (Bd J8) ?_)
   refine Ds1 1<|Se C (Ac c_ C C<|ac4 (if (j:Int)=0 then (e_ es k2).u else (e_ es k2).v)) ?_
   rintro _ _ ⟨_,_,⟨rfl,rfl⟩,rfl,rfl⟩
   refine ⟨Af,?_⟩
   refine Dr 4 C (C4 (a:=Q6 (if (j:Int)=0 then (e_ es k2).u else (e_ es k2).v)) (b:=0#64) C C)<|Dr 5 C (j0.eqB (a:=(Q6 (if (j:Int)=0 then (e_ es k2).u else (e_ es k2).v)) &&& (0#64)) (b:=0#64) C C)<|Dz<|Al<|A0 (S17 118 15 14 2 3 4 5 6 9 10 12 13 75 76 77 108 109 C C C C C C C C C C C C C C C C C)<|Am C (λa1=>?_)<|λa1=>?_
   ·refine A8 mixed (Cf (e8 ax [e7 ((e_ es k2).u),e7<|(e_ es k2).v] 135::e8 b3 [.int .u64 0,.slice none 0 0] 208::e8 b2 [e7 nu,e7 de] 40::e8 b1 [ve,vw,vb,vk,U64<|K2 nd,U64<|0#64] 211::I) 12<|Dr 0 C (Ad C)<|Dr 1 C (Ad C)<|Dr 2 C (Ad C)<|Dr 3 C (Ad C)<|Dr 4 C (Ad C)<|Dr 5 C (Ad C)<|Dr 6 C (Rad C C)<|Dr 7 C (Ad C)<|Dr 9 C (j0.gs8 Pt Cp ar6 C C (a8 om) om<|by simp only [Fw];omega)<|Ds1 8<|Sc2 C (C0 c_ C C C<|Cm (J:=e8 b4 [e7 (2+nd+((es.length:Nat):Int)),e7 0,e7 1,.slice a3 ad.length c3] 303::vc 305 (.slice a3 ad.length c3) (ad)::e8 ax [e7 ((e_ es k2).u),e7<|(e_ es k2).v] 135::vc 64 (.slice aa (replicate es.length (default:Pt)).length E) (aj)::e8 b3 [.int .u64 0,.slice none 0 0] 208::e8 b2 [e7 nu,e7 de] 40::e8 b1 [ve,vw,vb,vk,U64<|K2 nd,U64<|0#64] 211::I) Bi<|dc2 (2+nd+(k2:Int)) (2+(if (j:Int)=0 then (e_ es k2).u else (e_ es k2).v)) de olp) λbp bo=>?_)
    refine Dr 10 C (j0.gj5 B0 ef C C (a8 om) om om)<|Ds1 11<|Se0 C (Eff.dd2 (xs:=aj) (i:=(k2:Int)) (j:=(j:Int)) (n:=((ad.length:Nat):Int)) (e:=64) ef C C om om om am) ?_
    exact Dz<|Ap<|Al<|A0 (S14 2 3 4 5 6 9 10 12 13 75 76 77 108 109 C C C C C C C C C C C C C C)<|A1<|Gr (Rad C C)<|Gm C<|Bl<|Bh ((j+1),(bp),(bo),(ad++[(⟨2+nd+(k2:Int),2+(if (j:Int)=0 then (e_ es k2).u else (e_ es k2).v),de⟩:Arc)]),(List.set aj ((k2:Int)).toNat (dd2 (e_ aj k2) (j:Int) ((ad.length:Nat):Int))))<|by dsimp only;exact ⟨om,(by rcases (show j=0\/j=1 by omega) with e|e<;>subst e<;>rw [aw,H1]<;>simp [N8]),(dc9 av om om om)⟩
   exact absurd BitVec.and_zero a1
  exact B6<|Ao<|Ao<|A5<|Ap<|Al<|A0 (S9 2 3 4 5 6 9 75 76 77 C C C C C C C C C)<|A1<|Gr (Rad C C)<|Gm C<|Bl<|Bh ((k2+1),(a3),(c3),(ad),(aj))<|by dsimp only;exact ⟨om,(by rw [aw,aq,ce6,H1,Gb (show (N8 nd de es k2).length<=1+j by show 3<=1+j;omega)]),be,(dg3 av om om a4)⟩
 refine B6<|Ao<|Ao<|A5<|Al<|Aj<|Gl4 dc6 ?_
 have bf:ai=s9 nd nu de es:=by rw [aq,a6,show k=nd.toNat by omega,show k2=es.length by omega];rfl
 rw [bf]
 have bt:=aa7 nd nu de es
 refine G.e (Ac c_ C C<|gd8 (n:=y3 nd nu de es) A6<|aq5 hG hm om om) ?_
 rintro _ _ ⟨_,_,⟨ah,ab,fl,ak,an,side,val,rfl,hB,rfl⟩,rfl,rfl⟩
 have cf:((side.length:Nat):Int)=2+nd+((es.length:Nat):Int):=hB.len
 have b9:fl.length=nd.toNat*2+es.length*3:=hB.cx9.len.trans bt
 refine Gm C<|Gr (Av C C)<|Gr (Av C C)<|Gr (Av C C)<|Ga C<|Ga C<|Ga C<|Aq<|A0 (S6 18 16 2 3 4 9 C C C C C C)<|Aj<|Gf at3 C<|Gl J8 ?_
 refine Gr (B1 (cells:=[_,_]) ai2 Tryz.underlying208 gh6 C C)<|Ge1 (Ah ai2 C) λau=>Ge0 (Ba ai2) ?_
 refine Aq<|Ax<|Aj<|Gf ag1 C<|Gl ab3 ?_
 refine Gr (C3 (α:=Int) (xs:=cs) Ab C<|Bc ao)<|Gm C<|Aq<|A0 (S9 144 143 19 18 16 2 3 4 9 C C C C C C C C C)<|A3<|B4 (σ:=Nat×(BitVec 64)) (λs=>([(2,.pointer<|some ⟨b1,0,none⟩),(3,.pointer<|some ⟨b2,0,none⟩),(4,.pointer<|some ⟨b3,0,none⟩),(9,.slice aa (replicate es.length (default:Pt)).length E),(16,.slice ah fl.length ab),(18,.slice ak side.length an),(19,.pointer<|some ⟨au,0,none⟩),(143,e7 ((cs.length:Nat):Int)),(144,e7 ((s.1:Nat):Int))]:Env)) (λs=>e8 au [U64 (s.2),.slice none 0 0] 208::vc 4 (.slice ak side.length an) (side)::vc 3 (.slice ah fl.length ab) (fl)::e8 b4 [e7 (2+nd+((es.length:Nat):Int)),e7 0,e7 1,.slice a2 (s9 nd nu de es).length c2] 303::vc 305 (.slice a2 (s9 nd nu de es).length c2) ((s9 nd nu de es))::vc 64 (.slice aa (replicate es.length (default:Pt)).length E) (fs)::e8 b3 [.int .u64 0,.slice none 0 0] 208::e8 b2 [e7 nu,e7 de] 40::e8 b1 [ve,vw,vb,vk,U64<|K2 nd,U64<|0#64] 211::I) (λs=>(s.1<=cs.length)/\(∀v:Int,v∈em s.2↔(0<=v/\v<((s.1:Nat):Int))/\e_ side (2+v)=true)) (λs=>cs.length - s.1) (0,0#64) ⟨om,(λv=>by rw [C5];constructor;(· intro h;cases h);(· rintro ⟨h,_⟩;omega))⟩ (Aa C<|Aa C<|Aa C<|Aa C<|Aa C<|Aa C<|Aa C<|Aa C<|Aa Co A9) Ar ?_
 rintro ⟨k3,B⟩ hp
 dsimp only at hp ⊢
 obtain ⟨cc,ap⟩:=hp
 refine Aj<|Gr (Bp C C)<|Aq<|Ax<|Am C (λa7=>?_)<|λa7=>?_
 ·refine A4 (Al<|Ax<|A3<|Aj<|Gm C<|Ga C<|Aq<|Ax<|A8 mixed<|C1 16<|Dr 0 C (Ad C)<|Dr 2 C (Ai bw6 C)<|Dr 3 C (Bd J8) ?_)
  refine Dr 5 C (Ai at3 C)<|Dr 6 C (Bd J8) ?_
  refine Ds1 1<|Se C (Ac c_ C C<|ac4 (k3:Int)) ?_
  rintro _ _ ⟨_,_,⟨rfl,rfl⟩,rfl,rfl⟩
  refine ⟨Af,?_⟩
  refine Dr 4 C (C4 (a:=Q6 (k3:Int)) (b:=K2 nd) C C)<|Dr 7 C (Ew (a:=(Q6 (k3:Int)) &&& (K2 nd)) (b:=0#64) C C)<|Dr 8 C (E3 (a:=((Q6 (k3:Int)) &&& (K2 nd)) &&& ~~~(0#64)) (b:=0#64) C C)<|Dr 9 C (Ad C)<|Cw (d:=156) C (λa0=>?_)<|λa0=>?_
  ·refine Dro 10 C (Ad C) (Dro 11 C (Ad C)<|Dro 12 C (Rad C C)<|Dro 13 C (A2 (α:=Bool) (xs:=side) Bk ty4 C C A6 om oo)<|Dro 14 C (Fl (xs:=side) ty4 C A6 om oo)<|Dr 15 C (Br C C)<|Dz<|Al<|A0 (S11 162 20 2 3 4 9 16 18 19 143 144 C C C C C C C C C C C)<|D8 C (λae=>?_)<|λae=>?_)
   ·refine A8 mixed (C1 6<|Dr 0 C (Ai bw8 C)<|Dr 1 C (Bd J8) ?_)
    refine Dr 2 C (Ad C)<|Ds1 3<|Se C (Ac c_ C C<|ac4 (k3:Int)) ?_
    rintro _ _ ⟨_,_,⟨rfl,rfl⟩,rfl,rfl⟩
    refine ⟨Af,?_⟩
    refine Dr 4 C (Fh (a:=B) (b:=Q6 (k3:Int)) C C)<|Dr 5 C (Ai bw8 C)<|De kr ?_
    refine Ae 6 C (D5 J8) ?_
    rintro _ _ ⟨rfl,rfl⟩
    refine Df kr ?_
    exact Ap<|Al<|A0 (S9 2 3 4 9 16 18 19 143 144 C C C C C C C C C)<|A1<|Gr (Rad C C)<|Gm C<|Bl<|Bh ((k3+1),(B ||| (Q6 (k3:Int))))<|by dsimp only;exact ⟨om,(by first|exact ft9 (p:=λv=>e_ side (2+v)=true) om ap ae|exact gi3 (p:=λv=>e_ side (2+v)=true) ap (by rw [ae];simp))⟩
   exact A4<|Ap<|Al<|A1<|Gr (Rad C C)<|Gm C<|Bl<|Bh ((k3+1),(B))<|by dsimp only;exact ⟨om,(by first|exact ft9 (p:=λv=>e_ side (2+v)=true) om ap ae|exact gi3 (p:=λv=>e_ side (2+v)=true) ap (by rw [ae];simp))⟩
  exact absurd (dz2 (u:=(k3:Int)) om om om) a0
 refine B6<|Ao<|Ao<|A5<|Al<|Ax<|Aj<|Gf at5 C<|Gl bm1 ?_
 refine Gr (C3 (α:=Pt) (xs:=es) B2 C<|Bc hl)<|Gm C<|Aq<|A0 (S8 173 172 2 3 4 9 16 19 C C C C C C C C)<|A3<|B4 (σ:=Nat×(Option Addr)×Nat×(List Int)) (λs=>([(2,.pointer<|some ⟨b1,0,none⟩),(3,.pointer<|some ⟨b2,0,none⟩),(4,.pointer<|some ⟨b3,0,none⟩),(9,.slice aa (replicate es.length (default:Pt)).length E),(16,.slice ah fl.length ab),(19,.pointer<|some ⟨au,0,none⟩),(172,e7 ((es.length:Nat):Int)),(173,e7 ((s.1:Nat):Int))]:Env)) (λs=>vc 3 (.slice s.2.1 s.2.2.2.length s.2.2.1) (s.2.2.2)::e8 au [U64 B,.slice s.2.1 s.2.2.2.length s.2.2.1] 208::vc 4 (.slice ak side.length an) (side)::vc 3 (.slice ah fl.length ab) (fl)::e8 b4 [e7 (2+nd+((es.length:Nat):Int)),e7 0,e7 1,.slice a2 (s9 nd nu de es).length c2] 303::vc 305 (.slice a2 (s9 nd nu de es).length c2) ((s9 nd nu de es))::vc 64 (.slice aa (replicate es.length (default:Pt)).length E) (fs)::e8 b3 [.int .u64 0,.slice none 0 0] 208::e8 b2 [e7 nu,e7 de] 40::e8 b1 [ve,vw,vb,vk,U64<|K2 nd,U64<|0#64] 211::I) (λs=>(s.1<=es.length)/\(s.2.2.2.length=s.1)/\(∀i:Nat,i<s.1->e_ s.2.2.2 i=de - au7 nd fl i 2)) (λs=>es.length - s.1) (0,none,0,[]) ⟨om,rfl,(λi h=>by omega)⟩ (Aa C<|Aa C<|Aa C<|Aa C<|Aa C<|Aa C<|Aa C<|Aa Co A9) (Bb _ _) ?_
 rintro ⟨k4,pa,pc,M⟩ hp
 dsimp only at hp ⊢
 obtain ⟨ce,b5,bj⟩:=hp
 have bx:k4<es.length->(e_ fs k4).u<fl.length/\(e_ fs k4).v<fl.length:=λh=>by rw [a4 k4 om];exact ⟨by show 2*nd+3*(k4:Int)+1<_;omega,by show 2*nd+3*(k4:Int)+1+1<_;omega⟩
 refine Aj<|Gr (Bp C C)<|Aq<|Ax<|Am C (λbk=>?_)<|λbk=>?_
 ·refine A4 (Al<|Ax<|A3<|Aj<|Gm C<|Ga C<|Aq<|A8 mixed<|Cf (e8 au [U64 B,.slice pa M.length pc] 208::vc 4 (.slice ak side.length an) (side)::vc 3 (.slice ah fl.length ab) (fl)::e8 b4 [e7 (2+nd+((es.length:Nat):Int)),e7 0,e7 1,.slice a2 (s9 nd nu de es).length c2] 303::vc 305 (.slice a2 (s9 nd nu de es).length c2) ((s9 nd nu de es))::vc 64 (.slice aa (replicate es.length (default:Pt)).length E) (fs)::e8 b3 [.int .u64 0,.slice none 0 0] 208::e8 b2 [e7 nu,e7 de] 40::e8 b1 [ve,vw,vb,vk,U64<|K2 nd,U64<|0#64] 211::I) 21<|Dr 0 C (Ai bw7 C)<|Dr 1 C (Bd ab3) ?_)
  refine Dr 2 C (Ch (vs:=[_,_,_,_,_,_]) Y3) ?_
  refine Dr 3 C (Ad C)<|Dr 4 C (Ad C)<|Dr 5 C (Ad C)<|Dr 6 C (A2 (α:=Pt) (xs:=fs) Cp ar6 C C A6 om oo)<|Dr 7 C (Cd (α:=Pt) (xs:=fs) ar6 C A6 om oo) ?_
  have az:=bx om
  refine Dr 8 C (Ad C)<|Dr 9 C (Ai at4 C)<|Dr 10 C (Bd ab3) ?_
  refine Dr 11 C (Ad C)<|Dr 12 C (A2 (α:=Int) (xs:=ws) Ab ef C C (Bc hw) om oo)<|Dr 13 C (B8 (xs:=ws) ef C (Bc hw) om oo) ?_
  rw [hP.w1 k4 om]
  refine Dr 14 C (Ai bw2 C)<|Dr 15 C (Bd ef) ?_
  refine Dr 16 C (Eg C C<|by unfold InR;omega) ?_
  rw [Int.one_mul]
  refine Ds1 17<|Se C (Ac c_ C C<|gc8 A6 az.1 az.2 (dg1 hN ay hB.cx9) ay) ?_
  rintro _ _ ⟨_,_,⟨px,rfl,b6,rfl⟩,rfl,rfl⟩
  refine ⟨Ar,?_⟩
  refine Ds1 18<|Se1 C (Bt (α:=Int) (cs:=[_]) (xs:=[px]) Ab ef C C dc dc C C C C) λb8=>?_
  refine Ds1 19<|Se2 C (Bv (α:=Int) (e:=3) (xs:=M) (ys:=([px]:List Int)) Ab ef C C C mm A6 lcn dc C<|λ_ _=>am) λbq bg=>?_
  refine Dr 20 C (Ai bw7 C)<|De kr ?_
  refine Ae 21 C (D5 ab3) ?_
  rintro _ _ ⟨rfl,rfl⟩
  refine Df kr ?_
  exact Ap<|Al<|A0 (S8 2 3 4 9 16 19 172 173 C C C C C C C C)<|A1<|Gr (Rad C C)<|Gm C<|Bl<|Bh ((k4+1),(bq),(bg),(M++([px]:List Int)))<|by dsimp only;exact ⟨om,lap,(de0 a9.1 (a4 k4 om) b6 b5 bj)⟩
 refine B6<|Ao<|Ao<|A5<|Al<|Aj<|Gl2 ai2 ?_
 refine Ge0 (Ba ai2) ?_
 exact Aq<|Bq<|Cv C ai2 C mm C (vc 3 (.slice pa M.length pc) M::I) Bi ⟨B,pa,pc,M,rfl,ff5 hG hm hN ay hB om ap,fh0 hG hm hN ay hB om ap om<|λi hi=>bj i om,rfl⟩
end Go.Sl
namespace Go.Sl
open Go.Proofs
set_option maxRecDepth 4000
variable{nd:Int}{es:List Pt}{ea:Option Addr}{ec:Nat}
variable {κ:Ctx}{I:List Item}
attribute [local irreducible] W G V D A j0 Eff
theorem ds9{a b:Int}(h0:0<=a)(h1:0<b):(mkF a b).den*a=(mkF a b).num*b:=by
 have hg:=at0 (a:=a) h1
 have d1:af8 a b ∣ a:=by
  obtain ⟨x,M⟩:=Nat.gcd_dvd_left a.toNat b.toNat
  exact ⟨(x:Int),by unfold af8;rw [←Lq,←M];omega⟩
 have E:af8 a b ∣ b:=by
  obtain ⟨x,M⟩:=Nat.gcd_dvd_right a.toNat b.toNat
  exact ⟨(x:Int),by unfold af8;rw [←Lq,←M];omega⟩
 show b / af8 a b*a=a / af8 a b*b
 generalize af8 a b=g at hg d1 E
 obtain ⟨x,rfl⟩:=d1
 obtain ⟨y,rfl⟩:=E
 rw [Int.mul_ediv_cancel_left _ om,Int.mul_ediv_cancel_left _ om]
 rw [←Hk,←Hk,Hz y g,Hz x g,Hk,Hk,Hz y x]
theorem bv4{x y m n:Int}(E:0<=x/\x<=m)(M:0<=y/\y<=n):0<=x*y/\x*y<=m*n:=⟨Nf E.1 M.1,Int.mul_le_mul E.2 M.2 M.1 om⟩
theorem ga7(W:BitVec 64):0<=J5 W/\J5 W<=64:=by
 have:=Ee W
 unfold J5;omega
theorem an2(M:G8 nd es):es.length<=2016:=by
 have hs:∀e∈es,e∈(List.range 64).flatMap fun (v:Nat)=>(List.range v).map fun (u:Nat)=>(⟨(u:Int),(v:Int)⟩:Pt):=λe E=>by
  have h:=M.ad7 e E
  have hr:=M.rng
  refine L_.2 ⟨e.v.toNat,Ht.2 om,Ha.2 ⟨e.u.toNat,Ht.2 om,?_⟩⟩
  rw [Pt.ag4]
  exact ⟨by show ((e.u.toNat:Nat):Int)=e.u;omega,by show ((e.v.toNat:Nat):Int)=e.v;omega⟩
 have hl:=H_ (au3 M.asc) hs
 have e:((List.range 64).flatMap fun (v:Nat)=>(List.range v).map fun (u:Nat)=>(⟨(u:Int),(v:Int)⟩:Pt)).length=2016:=by
  rw [List.length_flatMap]
  simp only [Gi,Kq]
  decide+kernel
 omega
structure gp1 (nd:Int) (es:List Pt) (N D:Int) (B:BitVec 64):Prop where
 dens:fd5 nd N D es B
 num:0<=N/\N<=2016
 den:1<=D/\D<=64
 red:∃x y:Int,(0<=x/\x<=2016)/\(1<=y/\y<=64)/\(⟨N,D⟩:Fr)=mkF x y
theorem dz9(E:0<=nd)(h1:nd<=64):ah5 nd (K2 nd):=λx hx=>by
 have h:=s4.1 hx
 have M:x.toNat<64:=Gg λhn=>by rw [Jn _ _ om] at h;cases h.2
 rw [K1 E h1 M,Gn] at h
 omega
theorem gn1(E:1<=nd)(M:nd<=64):K2 nd≠0#64:=V3.2 ⟨0,s4.2 ⟨Hn _,by
 rw [K1 om M dc,Gn];omega⟩⟩
theorem gh3(m:Nat)(es:List Pt):bs7 (m:Int) es (replicate es.length 1) (replicate m (default:Int)) (replicate m 1) where
 wl:=Fw
 w1:=λi hi=>ak4 _ _ _ om om
 bl:=by rw [Fw,Hu]
 b0:=λi M E=>by rw [ak4 _ _ _ M om];rfl
 cl:=by rw [Fw,Hu]
 c1:=λi M E=>ak4 _ _ _ M om
theorem dm3{nd:Int}{ve vw vb vk:Value}{es:List Pt}{ws bs cs:List Int}(hl:Sl κ I ve es)(hw:Sl κ I vw ws)(hb:Sl κ I vb bs)(aj:Sl κ I vk cs)(hG:G8 nd es)(hm:es.length<=2016)(hP:bs7 nd es ws bs cs)(h1:1<=nd)(hT:P6 κ I 0 F3):er Tryz.prog κ 170 [.agg #[ve,vw,vb,vk,U64 (K2 nd),U64 (0#64)]] I (λr J=>∃B a c M N D,r = .tuple #[.agg #[U64 B,.slice a (M:List Int).length c],.agg #[e7 N,e7 D]]/\gp1 nd es N D B/\da9 nd N D es M/\J=vc 3 (.slice a M.length c) M::I):=by
 have ae:=hG.rng
 have ax:=hP.wl
 have a4:=hP.bl
 have a1:=hP.cl
 refine Ce1 Tryz.func170 C C ?_
 refine Aj<|Ge1 (Ay (cs:=[_,_,_,_,_,_]) C C C) λb1=>Ge1 (Ah ai2 C) λb2=>Ge1 (Ah P0 C) λb3=>Z ?_
 refine Dl (σ:=(BitVec 64)) (λs=>[(4,U64 s)]) (λ_=>[]) (λs=>(ah5 nd s)/\(s≠0#64)) (λs=>8257536 - dg7 es s) (K2 nd) ⟨(dz9 ae.1 ae.2),(gn1 h1 ae.2)⟩ ?_
 rintro E hp
 obtain ⟨hW,ah⟩:=hp
 have av:=cz4 hm ah
 have az:=aj4 E es
 have ay:=an6 ah
 refine Z ?_
 refine G.e (Ac c_ C C<|fd1 (Bc hl) (Bc hw) (Bc hb) (Bc aj) hG hm hP E (by first|exact hW|exact hS.sub)<|Cb hT Af) ?_
 rintro _ _ ⟨_,_,⟨rfl,rfl⟩,rfl,rfl⟩
 refine Z ?_
 refine Gc0 (Ac c_ C C<|db2 (J7 E es) (J5 E) om om)<|Z ?_
 have ar:=bg0 (a:=J7 E es) (b:=J5 E) om om
 have aq:=bg1 (a:=J7 E es) (b:=J5 E) om
 have aa:=ds9 (a:=J7 E es) (b:=J5 E) om om
 have ab:(⟨(mkF (J7 E es)<|J5 E).num,(mkF (J7 E es)<|J5 E).den⟩:Fr)=mkF (J7 E es) (J5 E):=rfl
 generalize (mkF (J7 E es)<|J5 E).num=Nn at ar aa ab ⊢
 generalize (mkF (J7 E es)<|J5 E).den=Dd at aq aa ab ⊢
 refine Z ?_
 refine Ge1 (Ah P0 C) λb4=>Ge0 (Ba P0)<|Z ?_
 refine G.e (Ac c_ C C<|fp7 (Bc hl) (Bc hw) (Bc hb) (Bc aj) hG hm hP (nu:=Nn) (de:=Dd) om om) ?_
 rintro _ _ ⟨_,_,⟨Bn,pa,pc,M,rfl,hS,an,rfl⟩,rfl,rfl⟩
 have aw:=aj4 Bn es
 have au:=ga7 Bn
 refine Ge1 (Ah ai2 C) λb5=>Ge0 (Ba ai2)<|Z ?_
 refine G.e (Ac c_ C C<|fd1 (Bc hl) (Bc hw) (Bc hb) (Bc aj) hG hm hP Bn (by first|exact hW|exact hS.sub)<|Cb hT Af) ?_
 rintro _ _ ⟨_,_,⟨rfl,rfl⟩,rfl,rfl⟩
 refine Z ?_
 refine Gr (Eg C C<|by unfold InR;first|omega|(have ap:=bv4 (x:=J7 Bn es) (y:=Dd) (m:=2016) (n:=64) om om;have ao:=bv4 (x:=Nn) (y:=J5 Bn) (m:=2016) (n:=64) om om;omega))<|Z ?_
 refine Gr (Eg C C<|by unfold InR;first|omega|(have ap:=bv4 (x:=J7 Bn es) (y:=Dd) (m:=2016) (n:=64) om om;have ao:=bv4 (x:=Nn) (y:=J5 Bn) (m:=2016) (n:=64) om om;omega))<|Z ?_
 refine Am C (λad=>?_)<|λad=>Z ?_
 ·refine Ax (A8 mixed<|Cf (e8 b5 [U64 Bn,.slice pa M.length pc] 208::vc 3 (.slice pa M.length pc) (M)::e8 b4 [e7 Nn,e7 Dd] 40::e8 b1 [ve,vw,vb,vk,U64<|K2 nd,U64<|0#64] 211::I) 2<|Z ?_)
  refine Cg (rs:=[1,2]) kr C C<|Dk ?_<|Du ?_
  ·refine Sr C (Ch (vs:=[_,_]) P0) Ar ?_
   refine De kr ?_
   refine Ae 2 C (Ba ai2) ?_
   rintro _ _ ⟨rfl,rfl⟩
   refine Ae 3 C (Ba P0) ?_
   rintro _ _ ⟨rfl,rfl⟩
   refine Df kr<|Z ?_
   have ak:=hS.done hW ah aa ad
   exact V.fg5 C ai2 P0 C C mm mm C C (vc 3 (.slice pa M.length pc) M::I) Bi ⟨Bn,pa,pc,M,Nn,Dd,rfl,⟨ak,by omega,by omega,_,_,by omega,by omega,ab⟩,cb5 hG om an ad,rfl⟩
  refine Se0 C (Ba ai2) ?_
  refine Ds1 1<|Sr C (Ch (vs:=[_,_]) P0) Ar ?_
  refine Ds1 3<|Se0 C (Ba P0)<|Z ?_
  have ak:=hS.done hW ah aa ad
  exact V.fg5 C ai2 P0 C C mm mm C C (vc 3 (.slice pa M.length pc) M::I) Bi ⟨Bn,pa,pc,M,Nn,Dd,rfl,⟨ak,by omega,by omega,_,_,by omega,by omega,ab⟩,cb5 hG om an ad,rfl⟩
 have ai:Bn≠0#64:=dq3 (nd:=nd) (N:=Nn) (D:=Dd) (es:=es) (by have e:J7 Bn es*Dd=Dd*J7 Bn es:=Hz _ _;omega)
 have a3:=dg6 (nd:=nd) (B:=Bn) ah om aa ad
 have a0:=cz4 hm ai
 exact Bh ((Bn)) ⟨hS.sub,ai⟩
theorem dk0{m:Nat}(hl:Sl κ I (.slice ea es.length ec) es)(hm:es.length<=2016)(a9:m<=64):er Tryz.prog κ 169 [.agg #[e7 ((m:Int)),.slice ea es.length ec]] I (λr J=>∃aw cw ab E ak ck ws bs cs,r = .agg #[.slice ea es.length ec,.slice aw (ws:List Int).length cw,.slice ab (bs:List Int).length E,.slice ak (cs:List Int).length ck,U64 (K2 (m:Int)),U64 0#64]/\bs7 (m:Int) es ws bs cs/\J=vq 3 ak ck cs::vq 3 aw cw ws::vq 3 ab E bs::I):=by
 refine Bm hl.le λa8=>?_
 refine Ce1 Tryz.func169 C C ?_
 refine Aj<|Ge1 (Ay (cs:=[_,_]) C C C) λb1=>Ge1 (Ah Y3 C) λb2=>Aq<|D2 (σ:=Nat×(Option Addr)×Nat) (λs=>([(1,pt b1),(2,pt b2),(3,pt s.1)]:Env)) (λs=>vq 3 s.2.1 s.2.2 (replicate m (default:Int))::e8 s.1 [.slice ea es.length ec,.slice none 0 0,.slice s.2.1 (replicate m (default:Int)).length s.2.2,.slice none 0 0,U64<|K2 (m:Int),U64<|0#64] 211::e8 b2 [.slice none 0 0,.slice none 0 0,.slice none 0 0,.slice none 0 0,.int .u64 0,.int .u64 0] 211::e8 b1 [e7 ((m:Int)),.slice ea es.length ec] 48::I) (λs=>True) ?_ ?_
 ·refine A8 mixed (C1 10<|Dr 0 C (Ai Z3 C)<|Dr 1 C (Bd bm1) ?_)
  refine Dr 2 C (Ai T2 C)<|Dr 3 C (Bd ef) ?_
  refine Dr 5 C (Ai T2 C)<|Dr 6 C (Bd ef) ?_
  refine Cg (rs:=[4,7,9]) kr C C<|Dk ?_<|Dk ?_<|Du ?_
  ·refine Sc0 C (Ac c_ C C<|R2 (m:Int)) ?_
   refine Cg (rs:=[7,9]) kr C C<|Dk ?_<|Du ?_
   ·refine Se2 C (Ca (α:=Int) (n:=m) Ab ef C C C om om dc C) λao ar=>?_
    refine Dr 8 C (B1 (cells:=[.slice ea es.length ec,.slice none 0 0,.slice ao (replicate m (default:Int)).length ar,.slice none 0 0,U64<|K2 (m:Int),.int .u64 0]) Y3 D3 cn4 C kr)<|Ds1 9<|Se1 C (Ah Y3 C) λb5=>?_
    refine De kr ?_
    refine Ae 10 C (Dp Y3) ?_
    rintro _ _ ⟨rfl,rfl⟩
    refine Df kr ?_
    exact Bu ((b5),(ao),(ar)) trivial
   refine Se1 C (Ah Y3 C) λb6=>?_
   refine Ds1 7<|Se2 C (Ca (α:=Int) (n:=m) Ab ef C C C om om dc C) λax a1=>?_
   refine Dr 8 C (B1 (cells:=[.slice ea es.length ec,.slice none 0 0,.slice ax (replicate m (default:Int)).length a1,.slice none 0 0,U64<|K2 (m:Int),.int .u64 0]) Y3 D3 cn4 C kr)<|De kr ?_
   refine Ae 10 C (Dp Y3) ?_
   rintro _ _ ⟨rfl,rfl⟩
   refine Df kr ?_
   exact Bu ((b6),(ax),(a1)) trivial
  ·refine Se2 C (Ca (α:=Int) (n:=m) Ab ef C C C om om dc C) λaa M=>?_
   refine Cg (rs:=[4,9]) kr C C<|Dk ?_<|Du ?_
   ·refine Sc0 C (Ac c_ C C<|R2 (m:Int)) ?_
    refine Dr 8 C (B1 (cells:=[.slice ea es.length ec,.slice none 0 0,.slice aa (replicate m (default:Int)).length M,.slice none 0 0,U64<|K2 (m:Int),.int .u64 0]) Y3 D3 cn4 C kr)<|Ds1 9<|Se1 C (Ah Y3 C) λa3=>?_
    refine De kr ?_
    refine Ae 10 C (Dp Y3) ?_
    rintro _ _ ⟨rfl,rfl⟩
    refine Df kr ?_
    exact Bu ((a3),(aa),(M)) trivial
   refine Se1 C (Ah Y3 C) λa4=>?_
   refine Ds1 4<|Sc0 C (Ac c_ C C<|R2 (m:Int)) ?_
   refine Dr 8 C (B1 (cells:=[.slice ea es.length ec,.slice none 0 0,.slice aa (replicate m (default:Int)).length M,.slice none 0 0,U64<|K2 (m:Int),.int .u64 0]) Y3 D3 cn4 C kr)<|De kr ?_
   refine Ae 10 C (Dp Y3) ?_
   rintro _ _ ⟨rfl,rfl⟩
   refine Df kr ?_
   exact Bu ((a4),(aa),(M)) trivial
  refine Se1 C (Ah Y3 C) λay=>?_
  refine Cg (rs:=[4,7]) kr C C<|Dk ?_<|Du ?_
  ·refine Sc0 C (Ac c_ C C<|R2 (m:Int)) ?_
   refine Ds1 7<|Se2 C (Ca (α:=Int) (n:=m) Ab ef C C C om om dc C) λai ah=>?_
   refine Dr 8 C (B1 (cells:=[.slice ea es.length ec,.slice none 0 0,.slice ai (replicate m (default:Int)).length ah,.slice none 0 0,U64<|K2 (m:Int),.int .u64 0]) Y3 D3 cn4 C kr)<|De kr ?_
   refine Ae 10 C (Dp Y3) ?_
   rintro _ _ ⟨rfl,rfl⟩
   refine Df kr ?_
   exact Bu ((ay),(ai),(ah)) trivial
  refine Se2 C (Ca (α:=Int) (n:=m) Ab ef C C C om om dc C) λae ad=>?_
  refine Ds1 4<|Sc0 C (Ac c_ C C<|R2 (m:Int)) ?_
  refine Dr 8 C (B1 (cells:=[.slice ea es.length ec,.slice none 0 0,.slice ae (replicate m (default:Int)).length ad,.slice none 0 0,U64<|K2 (m:Int),.int .u64 0]) Y3 D3 cn4 C kr)<|De kr ?_
  refine Ae 10 C (Dp Y3) ?_
  rintro _ _ ⟨rfl,rfl⟩
  refine Df kr ?_
  exact Bu ((ay),(ae),(ad)) trivial
 rintro ⟨pb,ab,E⟩ hp
 refine Ax<|Aj<|Gf Z3 C<|Gl bm1 ?_
 refine Gr (Bj B2 C)<|Gm C<|Aq<|A3<|B4 (σ:=Nat×(Option Addr)×Nat×(List Int)) (λs=>([(1,pt b1),(2,pt b2),(3,pt pb),(15,e7 ((es.length:Nat):Int)),(16,e7 ((s.1:Nat):Int))]:Env)) (λs=>vq 3 s.2.1 s.2.2.1 s.2.2.2::vq 3 ab E (replicate m (default:Int))::e8 pb [.slice ea es.length ec,.slice s.2.1 s.2.2.2.length s.2.2.1,.slice ab (replicate m (default:Int)).length E,.slice none 0 0,U64<|K2 (m:Int),U64<|0#64] 211::e8 b2 [.slice none 0 0,.slice none 0 0,.slice none 0 0,.slice none 0 0,.int .u64 0,.int .u64 0] 211::e8 b1 [e7 ((m:Int)),.slice ea es.length ec] 48::I) (λs=>(s.1<=es.length)/\(s.2.2.2=replicate s.1 1)) (λs=>es.length - s.1) (0,none,0,[]) ⟨om,rfl⟩ (cx4<|Aa Co A9) (Bb _ _) ?_
 rintro ⟨k,aw,cw,ws⟩ hp
 dsimp only at hp ⊢
 obtain ⟨hk,an⟩:=hp
 have bb:ws.length=k:=by rw [an,Fw]
 refine Aj<|Gr (Bp C C)<|Aq<|Ax<|Am C (λa6=>?_)<|λa6=>?_
 ·refine A4 (Al<|Ax<|A3<|A1<|Gf at4 C<|Gl ab3 ?_)
  refine Ge1 (Bt (α:=Int) (cs:=[_]) (xs:=[1]) Ab ef C C dc dc C C C C) λa7=>?_
  refine Ge2 (Bv (α:=Int) (e:=3) (xs:=ws) (ys:=([1]:List Int)) Ab ef C C C mm A6 lcn dc C<|λ_ _=>am) λau ap=>?_
  refine Gf at4 C<|Ge0 (ck0 ab3) ?_
  exact Bl<|Ap<|Al<|A1<|Gr (Rad C C)<|Gm C<|Bl<|Bh ((k+1),(au),(ap),(ws++([1]:List Int)))<|by dsimp only;exact ⟨om,(by rw [an,List.replicate_succ'])⟩
 refine B6<|Ao<|Ao<|A5<|Al<|Ax<|Aj<|Gf T2 C<|Gl ef ?_
 refine Gm C<|Aq<|A3<|B4 (σ:=Nat×(Option Addr)×Nat×(List Int)) (λs=>([(2,pt b2),(3,pt pb),(25,e7<|(m:Int)),(26,e7 ((s.1:Nat):Int))]:Env)) (λs=>vq 3 s.2.1 s.2.2.1 s.2.2.2::vq 3 aw cw ws::vq 3 ab E (replicate m (default:Int))::e8 pb [.slice ea es.length ec,.slice aw ws.length cw,.slice ab (replicate m (default:Int)).length E,.slice s.2.1 s.2.2.2.length s.2.2.1,U64<|K2 (m:Int),U64<|0#64] 211::e8 b2 [.slice none 0 0,.slice none 0 0,.slice none 0 0,.slice none 0 0,.int .u64 0,.int .u64 0] 211::e8 b1 [e7 ((m:Int)),.slice ea es.length ec] 48::I) (λs=>(s.1<=m)/\(s.2.2.2=replicate s.1 1)) (λs=>m - s.1) (0,none,0,[]) ⟨om,rfl⟩ (cx2<|Aa C<|Aa Co A9) (Bb _ _) ?_
 rintro ⟨k2,ak,ck,cs⟩ hp
 dsimp only at hp ⊢
 obtain ⟨be,aj⟩:=hp
 have bc:cs.length=k2:=by rw [aj,Fw]
 refine Aj<|Gr (Bp C C)<|Aq<|Ax<|Am C (λa5=>?_)<|λa5=>?_
 ·refine A4 (Al<|Ax<|A3<|A1<|Gf ag1 C<|Gl ab3 ?_)
  refine Ge1 (Bt (α:=Int) (cs:=[_]) (xs:=[1]) Ab ef C C dc dc C C C C) λba=>?_
  refine Ge2 (Bv (α:=Int) (e:=3) (xs:=cs) (ys:=([1]:List Int)) Ab ef C C C mm A6 lcn dc C<|λ_ _=>am) λaz a0=>?_
  refine Gf ag1 C<|Ge0 (ck0 ab3) ?_
  exact Bl<|Ap<|Al<|A1<|Gr (Rad C C)<|Gm C<|Bl<|Bh ((k2+1),(az),(a0),(cs++([1]:List Int)))<|by dsimp only;exact ⟨om,(by rw [aj,List.replicate_succ'])⟩
 refine B6<|Ao<|Ao<|A5<|Al<|Aj<|Gl6 Y3 ?_
 refine Ge0 (Dp Y3) ?_
 refine Aq<|Bq ?_
 have hP:=gh3 m es
 have aq:ws=replicate es.length 1:=by rw [an,show k=es.length by omega]
 have av:cs=replicate m 1:=by rw [aj,show k2=m by omega]
 exact Cv C Y3 C mm C (vq 3 ak ck cs::vq 3 aw cw ws::vq 3 ab E (replicate m (default:Int))::I) Bi ⟨aw,cw,ab,E,ak,ck,ws,replicate m (default:Int),cs,rfl,by rw [aq,av];exact hP,rfl⟩
theorem fq5(hl:Sl κ I (.slice ea es.length ec) es)(M:es.length<=2016)(E:0<=nd/\nd<=64):er Tryz.prog κ 169 [.agg #[e7 nd,.slice ea es.length ec]] I λr J=>∃aw cw ab cb ak ck ws bs cs,r = .agg #[.slice ea es.length ec,.slice aw (ws:List Int).length cw,.slice ab (bs:List Int).length cb,.slice ak (cs:List Int).length ck,U64 (K2 nd),U64 0#64]/\bs7 nd es ws bs cs/\J=vq 3 ak ck cs::vq 3 aw cw ws::vq 3 ab cb bs::I:=by
 obtain ⟨m,rfl⟩:=Hv E.1
 exact dk0 hl M om
end Go.Sl
namespace Go.Sl
open Go.Proofs
set_option maxRecDepth 4000
end Go.Sl
