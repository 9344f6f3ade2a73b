/- A part of the proofs of statements of this seat: contracts of functions, and the plain laws that they lean on. No conditions. -/
import Derived.Test.YtfkcohmipjhfcaaGreatDoorW14
set_option linter.unusedVariables false
set_option linter.unusedSimpArgs false
set_option linter.unusedSectionVars false
/- The densest set's proof: at the last price every edge is given away whole, and no node is given more than the price. No Go. No conditions. -/
open List (replicate)
namespace Go.Sl
def loadS(es:List Pt)(D:Int)(parts:List Int)(v:Int):Int:=sumN es.length λi=>(if (e_ es i).u=v then e_ parts i else 0)+(if (e_ es i).v=v then D - e_ parts i else 0)
structure SplitP (nd N D:Int) (es:List Pt) (parts:List Int):Prop where
 len:parts.length=es.length
 rng:∀i:Nat,i<es.length->0<=e_ parts i/\e_ parts i<=D
 load:∀v:Int,0<=v->v<nd->loadS es D parts v<=N
def edgF(nd:Int)(f:List Int)(i j:Nat):Int:=e_ f ((nd.toNat*2+(3*i+j):Nat):Int)
structure PartsP (nd N D:Int) (es:List Pt) (B:BitVec 64) (parts:List Int):Prop where
 len:parts.length=es.length
 flow:∃f,IsFlow (denseNet nd N D es) f/\N*cntB B+D*((es.length:Int) - insE B es)<=netF (denseNet nd N D es) f 0/\∀i:Nat,i<es.length->e_ parts i=D - edgF nd f i 2
theorem flat_at{α:Type}[Inhabited α](f:Nat->List α)(c:Nat)(h:∀i,(f i).length=c)(i j:Nat)(hj:j<c):∀n:Nat,i<n->e_ ((List.range n).flatMap f) ((c*i+j:Nat):Int)=e_ (f i) j
 |0,hi=>by omega
 |n+1,hi=>by
  have hl:=flat_len f c h n
  have hmul:∀m:Nat,i<m->c*i+j<m*c:=λm hm=>by
   have h1:c*(i+1)<=c*m:=Nat.mul_le_mul_left c hm
   rw [Nat.mul_succ,Nat.mul_comm c m] at h1;omega
  have hb:=hmul (n+1) hi
  have hl2:=flat_len f c h (n+1)
  rw [Db _ _ (by rw [hl2];exact hb),Db _ _ (by rw [h];exact hj)]
  have e1:(List.range (n+1)).flatMap f=(List.range n).flatMap f++f n:=by rw [List.range_succ,List.flatMap_append];simp
  by_cases hin:i<n
  ·have ih:=flat_at f c h i j hj n hin
   rw [Db _ _ (by rw [hl];exact hmul n hin),Db _ _ (by rw [h];exact hj)] at ih
   rw [←ih]
   simp only [e1]
   rw [List.getElem_append_left (by rw [hl];exact hmul n hin)]
  ·have ein:i=n:=by omega
   subst ein
   have hge:((List.range i).flatMap f).length<=c*i+j:=by rw [hl,Nat.mul_comm];omega
   simp only [e1]
   rw [List.getElem_append_right hge]
   congr 1
   rw [hl,Nat.mul_comm];omega
theorem sumN_app(a:Nat)(g:Nat->Int):∀b:Nat,sumN (a+b) g=sumN a g+sumN b (λi=>g (a+i))
 |0=>by simp [sumN]
 |b+1=>by
  show sumN (a+b+1) g=_
  simp only [sumN]
  rw [sumN_app a g b];omega
theorem sumN_two(g:Nat->Int):∀a:Nat,sumN (a*2) g=sumN a λv=>g (2*v)+g (2*v+1)
 |0=>rfl
 |a+1=>by
  have e:(a+1)*2=a*2+1+1:=by omega
  rw [e]
  simp only [sumN]
  rw [sumN_two g a,Nat.mul_comm a 2];omega
theorem sumN_three(g:Nat->Int):∀a:Nat,sumN (a*3) g=sumN a λv=>g (3*v)+g (3*v+1)+g (3*v+2)
 |0=>rfl
 |a+1=>by
  have e:(a+1)*3=a*3+1+1+1:=by omega
  rw [e]
  simp only [sumN]
  rw [sumN_three g a,Nat.mul_comm a 3]
  have e2:3*a+1+1=3*a+2:=rfl
  rw [e2];omega
section
variable {nd N D:Int}{es:List Pt}
theorem arc_node{v j:Nat}(hv:v<nd.toNat)(hj:j<2):e_ (denseArcs nd N D es) ((2*v+j:Nat):Int)=e_ (nodeArcs N v) j:=by
 have hl:=flat_len (nodeArcs N) 2 (λ_=>rfl) nd.toNat
 have h:=flat_at (nodeArcs N) 2 (λ_=>rfl) v j hj nd.toNat hv
 rw [←h]
 unfold denseArcs
 rw [Db _ _ (by rw [List.length_append,hl];omega),Db _ _ (by rw [hl];omega),List.getElem_append_left (by rw [hl];omega)]
theorem arc_edge{i j:Nat}(hi:i<es.length)(hj:j<3):e_ (denseArcs nd N D es) ((nd.toNat*2+(3*i+j):Nat):Int)=e_ (edgeArcs nd D es i) j:=by
 have hl:=flat_len (nodeArcs N) 2 (λ_=>rfl) nd.toNat
 have hl2:=flat_len (edgeArcs nd D es) 3 (λ_=>rfl) es.length
 have h:=flat_at (edgeArcs nd D es) 3 (λ_=>rfl) i j hj es.length hi
 rw [←h]
 unfold denseArcs
 rw [Db _ _ (by rw [List.length_append,hl,hl2];omega),Db _ _ (by rw [hl2];omega),List.getElem_append_right (by rw [hl];omega)]
 congr 1
 rw [hl];omega
theorem net_dense(f:List Int)(z:Int):netF (denseNet nd N D es) f z =
  sumN nd.toNat (λv=>((if 0=z then e_ f ((2*v:Nat):Int) else 0) - (if 2+(v:Int)=z then e_ f ((2*v:Nat):Int) else 0))+((if 2+(v:Int)=z then e_ f ((2*v+1:Nat):Int) else 0) - (if 1=z then e_ f ((2*v+1:Nat):Int) else 0)))
  + sumN es.length (λi=>((if 0=z then edgF nd f i 0 else 0) - (if 2+nd+(i:Int)=z then edgF nd f i 0 else 0))+((if 2+nd+(i:Int)=z then edgF nd f i 1 else 0) - (if 2+(e_ es i).u=z then edgF nd f i 1 else 0))+((if 2+nd+(i:Int)=z then edgF nd f i 2 else 0) - (if 2+(e_ es i).v=z then edgF nd f i 2 else 0))):=by
 unfold netF
 have el:(denseNet nd N D es).arcs.length=nd.toNat*2+es.length*3:=denseArcs_len nd N D es
 have ea:(denseNet nd N D es).arcs=denseArcs nd N D es:=rfl
 rw [el,sumN_app,sumN_two,sumN_three,ea]
 congr 1
 ·refine Dg _ λv hv=>?_
  have h0:=arc_node (N:=N) (D:=D) (es:=es) (j:=0) hv dc
  have h1:=arc_node (N:=N) (D:=D) (es:=es) (j:=1) hv dc
  rw [Nat.add_zero] at h0
  rw [h0,h1]
  rfl
 ·refine Dg _ λi hi=>?_
  have h0:=arc_edge (nd:=nd) (N:=N) (D:=D) (j:=0) hi dc
  have h1:=arc_edge (nd:=nd) (N:=N) (D:=D) (j:=1) hi dc
  have h2:=arc_edge (nd:=nd) (N:=N) (D:=D) (j:=2) hi dc
  rw [Nat.add_zero] at h0
  rw [h0,h1,h2]
  rfl
theorem splitP_of(hG:GrOk nd es)(hN:0<=N){B:BitVec 64}{parts:List Int}(h:PartsP nd N D es B parts)(hle:insE B es*D<=N*cntB B):SplitP nd N D es parts:=by
 obtain ⟨f,hf,hval,hp⟩:=h.flow
 have hr:=hG.rng
 have ea:(denseNet nd N D es).arcs=denseArcs nd N D es:=rfl
 have el:(denseNet nd N D es).arcs.length=nd.toNat*2+es.length*3:=denseArcs_len nd N D es
 have cn:∀v:Nat,v<nd.toNat->e_ f ((2*v:Nat):Int)=0/\e_ f ((2*v+1:Nat):Int)<=N:=λv hv=>by
  have a0:=hf.cap (2*v) om
  have a1:=hf.cap (2*v+1) om
  have h0:=arc_node (N:=N) (D:=D) (es:=es) (j:=0) hv dc
  rw [Nat.add_zero] at h0
  rw [ea,h0] at a0
  rw [ea,arc_node hv dc] at a1
  have e0:(e_ (nodeArcs N v) ((0:Nat):Int)).cap=0:=rfl
  have e1:(e_ (nodeArcs N v) ((1:Nat):Int)).cap=N:=rfl
  omega
 have ce:∀i:Nat,i<es.length->∀j:Nat,j<3->0<=edgF nd f i j/\edgF nd f i j<=D:=λi hi j hj=>by
  have a:=hf.cap (nd.toNat*2+(3*i+j)) om
  rw [ea,arc_edge hi hj] at a
  have e:(e_ (edgeArcs nd D es i) j).cap=D:=by
   rcases (show j=0\/j=1\/j=2 by omega) with rfl|rfl|rfl<;>rfl
  rw [e] at a;exact a
 -- the arcs out of the source are full
 have hfull:∀i:Nat,i<es.length->edgF nd f i 0=D:=by
  have hs:netF (denseNet nd N D es) f 0=sumN es.length λi=>edgF nd f i 0:=by
   rw [net_dense]
   rw [Fm (m:=nd.toNat) λv hv=>by
    rw [if_pos rfl,if_neg om,if_neg om,if_neg om,(cn v hv).1];rfl]
   rw [Int.zero_add]
   refine Dg _ λi hi=>?_
   have he:=hG.edge (e_ es i) (Cq om om)
   rw [if_pos rfl,if_neg om,if_neg om,if_neg om,if_neg om,if_neg om];omega
  have hc:sumN es.length (λ_=>D)=D*es.length:=by
   have:∀m:Nat,sumN m (λ_=>D)=D*m:=λm=>by
    induction m with
    |zero=>simp [sumN]
    |succ m ih=>simp only [sumN];rw [ih];push_cast;rw [Int.mul_add,Int.mul_one]
   exact this _
  have h1:=sumN_le es.length (g:=λi=>edgF nd f i 0) (h:=λ_=>D) λi hi=>(ce i hi 0 dc).2
  have e1:D*((es.length:Int) - insE B es)=D*es.length - D*insE B es:=Int.mul_sub _ _ _
  have e2:insE B es*D=D*insE B es:=Int.mul_comm _ _
  exact sumN_eq_terms es.length (λi hi=>(ce i hi 0 dc).2) om
 -- what comes to an edge goes to its ends
 have hcons:∀i:Nat,i<es.length->edgF nd f i 1+edgF nd f i 2=D:=λi hi=>by
  have h0:=hf.cons (2+nd+(i:Int)) om (by show 2+nd+(i:Int)<2+nd+(es.length:Int);omega) (by show 2+nd+(i:Int)≠0;omega) (by show 2+nd+(i:Int)≠1;omega)
  rw [net_dense] at h0
  rw [Fm (m:=nd.toNat) λv hv=>by
    rw [if_neg om,if_neg om,if_neg om,if_neg om];rfl] at h0
  rw [Int.zero_add] at h0
  rw [Dg (h:=λk=>if k=i then edgF nd f i 1+edgF nd f i 2 - edgF nd f i 0 else 0) _ λk hk=>by
    have he:=hG.edge (e_ es k) (Cq om om)
    by_cases e:k=i
    ·subst e
     rw [if_neg om,if_pos rfl,if_pos rfl,if_neg om,if_pos rfl,if_neg om,if_pos rfl];omega
    ·rw [if_neg om,if_neg om,if_neg om,if_neg om,if_neg om,if_neg om,if_neg e];rfl] at h0
  rw [sumN_at hi] at h0
  have:=hfull i hi
  omega
 refine ⟨h.len,λi hi=>?_,λv h0 h1=>?_⟩
 ·have:=ce i hi 2 dc
  rw [hp i hi];omega
 ·have hv:=hf.cons (2+v) om (by show 2+v<2+nd+(es.length:Int);omega) (by show 2+v≠0;omega) (by show 2+v≠1;omega)
  rw [net_dense] at hv
  obtain ⟨w,rfl⟩:=Int.eq_ofNat_of_zero_le h0
  rw [Dg (h:=λk=>if k=w then e_ f ((2*w+1:Nat):Int) else 0) _ λk hk=>by
    by_cases e:k=w
    ·subst e
     rw [if_neg om,if_pos rfl,if_pos rfl,if_neg om,if_pos rfl,(cn k hk).1];omega
    ·rw [if_neg om,if_neg om,if_neg om,if_neg om,if_neg e];rfl] at hv
  rw [sumN_at om] at hv
  have hl:loadS es D parts (w:Int)+sumN es.length (λi=>((if 0=2+(w:Int) then edgF nd f i 0 else 0) - (if 2+nd+(i:Int)=2+(w:Int) then edgF nd f i 0 else 0))+((if 2+nd+(i:Int)=2+(w:Int) then edgF nd f i 1 else 0) - (if 2+(e_ es i).u=2+(w:Int) then edgF nd f i 1 else 0))+((if 2+nd+(i:Int)=2+(w:Int) then edgF nd f i 2 else 0) - (if 2+(e_ es i).v=2+(w:Int) then edgF nd f i 2 else 0)))=0:=by
   unfold loadS
   rw [←sumN_add]
   refine Fm _ λi hi=>?_
   rw [hp i hi,if_neg (show ¬(0:Int)=2+(w:Int) by omega),if_neg (show ¬2+nd+(i:Int)=2+(w:Int) by omega),if_neg (show ¬2+nd+(i:Int)=2+(w:Int) by omega),if_neg (show ¬2+nd+(i:Int)=2+(w:Int) by omega)]
   have:=hcons i hi
   by_cases e1:(e_ es i).u=(w:Int)<;>by_cases e2:(e_ es i).v=(w:Int)
   ·rw [if_pos e1,if_pos e2,if_pos om,if_pos om];omega
   ·rw [if_pos e1,if_neg e2,if_pos om,if_neg om];omega
   ·rw [if_neg e1,if_pos e2,if_neg om,if_pos om];omega
   ·rw [if_neg e1,if_neg e2,if_neg om,if_neg om];omega
  have:=(cn w om).2
  omega
theorem splitP_nil(hG:GrOk nd es)(h:nd=0):SplitP nd 0 1 es []:=by
 have he:es=[]:=by
  cases es with
  |nil=>rfl
  |cons e t=>
   have:=hG.edge e List.mem_cons_self
   omega
 subst he
 exact ⟨rfl,λi hi=>absurd hi (Nat.not_lt_zero i),λv h0 h1=>by omega⟩
end
def SplitB(nd:Int)(es:List Pt)(N D E:Int)(parts:List Int):Prop:=checkG nd es=0->E=D/\SplitP nd N D es parts
end Go.Sl
namespace Go.Sl
open Go.Proofs
set_option maxRecDepth 4000
def stepP(q:Int)(j:Nat):Pt:=if j=0 then ⟨-1, -1⟩ else if j=1 then ⟨q, -1⟩ else ⟨q,q+1⟩
theorem step_first{fs fs3:List Pt}{k2 j:Nat}{q n:Int}(h:fs3=fs.set k2 (stepP q j))(hk:k2<fs.length)(hj:j<2)(hn:n=q+(j:Int)):List.set fs3 ((k2:Int)).toNat (setP2 (e_ fs3 k2) (j:Int) n)=fs.set k2 (stepP q (j+1)):=by
 subst h hn
 rw [Int.toNat_natCast,at_setn _ _ _ _ hk,if_pos rfl,List.set_set]
 congr 1
 rcases (show j=0\/j=1 by omega) with rfl|rfl<;>simp [setP2,stepP]
theorem first_next{nd:Int}{fs fs3:List Pt}{k2 j:Nat}(h:fs3=fs.set k2 (stepP (2*nd+3*(k2:Int)+1) j))(hj:j=2)(hk:k2<fs.length)(hfs:∀i:Nat,i<k2->e_ fs i=stepP (2*nd+3*(i:Int)+1) 2):∀i:Nat,i<k2+1->e_ fs3 i=stepP (2*nd+3*(i:Int)+1) 2:=λi hi=>by
 subst h hj
 rw [at_setn _ _ _ _ hk]
 by_cases e:k2=i
 ·subst e;rw [if_pos rfl]
 ·rw [if_neg e];exact hfs i om
theorem flow_small{nd N D:Int}{es:List Pt}{f:List Int}(hN:0<=N/\N<=4096)(hD:0<=D/\D<=4096)(hf:IsFlow (denseNet nd N D es) f):∀x∈f,0<=x/\x<=4096:=λx hx=>by
 obtain ⟨i,hi,rfl⟩:=List.getElem_of_mem hx
 have hi2:i<(denseNet nd N D es).arcs.length:=by rw [←hf.len];exact hi
 have h:=hf.cap i hi2
 rw [Db f i hi] at h
 have hm:e_ (denseArcs nd N D es) i∈denseArcs nd N D es:=Cq om (by have:i<(denseArcs nd N D es).length:=hi2;omega)
 have hc:(e_ (denseArcs nd N D es) i).cap<=4096:=by
  rcases mem_denseArcs.1 hm with ⟨v,hv,h⟩|⟨j,hj,h⟩
  ·simp only [nodeArcs,List.mem_cons,List.not_mem_nil,or_false] at h
   rcases h with h|h<;>rw [h]<;>simp only<;>omega
  ·simp only [edgeArcs,List.mem_cons,List.not_mem_nil,or_false] at h
   rcases h with h|h|h<;>rw [h]<;>simp only<;>omega
 have e:(denseNet nd N D es).arcs=denseArcs nd N D es:=rfl
 rw [e] at h
 omega
theorem or_yes{B:BitVec 64}{k:Nat}{p:Int->Prop}(hk:k<64)(h:∀v:Int,v∈eo B↔(0<=v/\v<(k:Int))/\p v)(hp:p (k:Int)):∀v:Int,v∈eo (B ||| bitB (k:Int))↔(0<=v/\v<((k+1:Nat):Int))/\p v:=λv=>by
 rw [bit_sh om om]
 rw [mem_orbit om om,h v]
 constructor
 ·rintro (⟨h1,h2⟩|h1)
  ·exact ⟨by omega,h2⟩
  ·have:v=(k:Int):=by omega
   subst this;exact ⟨by omega,hp⟩
 ·rintro ⟨h1,h2⟩
  by_cases e:v=(k:Int)
  ·right;omega
  ·left;exact ⟨by omega,h2⟩
theorem or_no{B:BitVec 64}{k:Nat}{p:Int->Prop}(h:∀v:Int,v∈eo B↔(0<=v/\v<(k:Int))/\p v)(hp:¬p (k:Int)):∀v:Int,v∈eo B↔(0<=v/\v<((k+1:Nat):Int))/\p v:=λv=>by
 rw [h v]
 constructor
 ·rintro ⟨h1,h2⟩;exact ⟨by omega,h2⟩
 ·rintro ⟨h1,h2⟩
  by_cases e:v=(k:Int)
  ·subst e;exact absurd h2 hp
  ·exact ⟨by omega,h2⟩
theorem solve_of{nd N D:Int}{es:List Pt}(hG:GrOk nd es)(hm:es.length<=2016)(hN:0<=N/\N<=4096)(hD:0<=D/\D<=4096){f:List Int}{side:List Bool}(hB:BothP (denseNet nd N D es) f side){B:BitVec 64}{k:Nat}(hk:k=nd.toNat)
  (h:∀v:Int,v∈eo B↔(0<=v/\v<(k:Int))/\e_ side (2+v)=true):SolveP nd N D es B:=by
 obtain ⟨T,hT1,hT2⟩:=hB.great
 have hr:=hG.rng
 refine great_solve hG hm om om hB.flow hT1 λv=>?_
 rw [h v]
 constructor
 ·rintro ⟨h1,h2⟩
  rw [hT2 (2+v) om (by show 2+v<2+nd+(es.length:Int);omega)] at h2
  exact ⟨by omega,h2⟩
 ·rintro ⟨h1,h2⟩
  refine ⟨by omega,?_⟩
  rw [hT2 (2+v) om (by show 2+v<2+nd+(es.length:Int);omega)]
  exact h2
theorem parts_of{nd N D:Int}{es:List Pt}(hG:GrOk nd es)(hm:es.length<=2016)(hN:0<=N/\N<=4096)(hD:0<=D/\D<=4096){f:List Int}{side:List Bool}(hB:BothP (denseNet nd N D es) f side){B:BitVec 64}{k:Nat}(hk:k=nd.toNat)
  (h:∀v:Int,v∈eo B↔(0<=v/\v<(k:Int))/\e_ side (2+v)=true) {parts:List Int} (hl:parts.length=es.length) (hp:∀i:Nat,i<es.length->e_ parts i=D - edgF nd f i 2):PartsP nd N D es B parts:=by
 obtain ⟨T,hT1,hT2⟩:=hB.great
 have hr:=hG.rng
 have hs:subN nd B:=λx hx=>by have:=((h x).1 hx).1;omega
 have hc:costW nd N D es (λv=>T (2+v))=costW nd N D es (λv=>B.getLsbD v.toNat):=cost_congr hG λv h0 h1=>by
  rw [Bool.eq_iff_iff]
  have a:=h v
  rw [El,hT2 (2+v) om (by show 2+v<2+nd+(es.length:Int);omega)] at a
  constructor
  ·intro hh;exact (a.2 ⟨by omega,hh⟩).2
  ·intro hh;exact (a.1 ⟨h0,hh⟩).2
 rw [cost_bits hr.1 hr.2 hs] at hc
 have h1:=cost_le_cut (nd:=nd) (N:=N) (D:=D) (es:=es) hD.1 T hT1.src hT1.snk
 have h2:netF (denseNet nd N D es) f 0=cutS (denseNet nd N D es) T:=hT1.value (denseNet_ok hG hm om om) hB.flow
 exact ⟨hl,f,hB.flow,by omega,hp⟩
theorem parts_next{nd de:Int}{fl parts:List Int}{fs:List Pt}{k4:Nat}{px:Int}(h0:0<=nd)(hs:e_ fs k4=stepP (2*nd+3*(k4:Int)+1) 2)(hx:0<=(e_ fs k4).u->0<=(e_ fs k4).v->px=de - e_ fl (e_ fs k4).v)
  (hl:parts.length=k4) (hpp:∀i:Nat,i<k4->e_ parts i=de - edgF nd fl i 2):∀i:Nat,i<k4+1->e_ (parts++[px]) i=de - edgF nd fl i 2:=λi hi=>by
 by_cases e:i<k4
 ·rw [Eg _ _ _ om];exact hpp i e
 ·have e2:i=k4:=by omega
  subst e2
  have h1:=at_last parts px
  rw [hl] at h1
  rw [hs] at hx
  have h2:px=de - e_ fl (2*nd+3*(i:Int)+1+1):=hx (show 0<=2*nd+3*(i:Int)+1 by omega) (show 0<=2*nd+3*(i:Int)+1+1 by omega)
  have h3:((nd.toNat*2+(3*i+2):Nat):Int)=2*nd+3*(i:Int)+1+1:=by omega
  unfold edgF
  rw [h1,h2,h3]
set_option maxHeartbeats 4000000 in
theorem Solve_ok{κ:Ctx}{I:List Item}{nd:Int}{ve vw vb vk:Value}{es:List Pt}{ws bs cs:List Int}(hl:Sl κ I ve es)(hw:Sl κ I vw ws)(hb:Sl κ I vb bs)(hkc:Sl κ I vk cs)(hG:GrOk nd es)(hm:es.length<=2016)(hP:PlainP nd es ws bs cs){nu de:Int}(hN:0<=nu/\nu<=4096)(hD:1<=de/\de<=64):eu Tryz.prog κ 233 [.agg #[ve,vw,vb,vk,U64 (allB nd),U64 (0#64)],.agg #[e7 nu,e7 de]] I (λr J=>∃B a c parts,r = .agg #[U64 B,.slice a (parts:List Int).length c]/\SolveP nd nu de es B/\PartsP nd nu de es B parts/\J=vc 3 (.slice a parts.length c) parts::I):=by
 have hrng:=hG.rng
 have hwl:=hP.wl
 have hbl:=hP.bl
 have hcl:=hP.cl
 have hD4:0<=de/\de<=4096:=by omega
 refine Ce2 Tryz.func233 C C ?_
 refine Aj (Ge1 (Bg (cs:=[_,_,_,_,_,_]) C C C) λb1=>Ge1 (Bg (cs:=[_,_]) C C C) λb2=>Ge1 (A9 ty208 C) λb3=>Ah (Aj (Gf fld211_3 C (Gl ty22 ?_))))
 refine Gr (Cb (α:=Int) (xs:=cs) Ad C (Bj hkc)) (Gr (Rad C C) (Gf fld211_0 C (Gl ty46 ?_)))
 refine Gr (Cb (α:=Pt) (xs:=es) Bu C (Bj hl)) (Gr (Rad C C) ?_)
 rw [show (2:Int)+((cs.length:Nat):Int)+((es.length:Nat):Int)=2+nd+((es.length:Nat):Int) by omega]
 refine Gr (Bc (cells:=[_,_,_,_]) ty303 Tryz.underlying303 pl303 C C) (Ge1 (A9 ty303 C) λb4=>Ge0 (Es4_4 ty303) ?_)
 refine G.fit (J:=vc 305 (.slice none 0 0) (([]:List Arc))::e8 b4 [e7 (2+nd+((es.length:Nat):Int)),e7 0,e7 1,.slice none 0 0] 303::e8 b3 [.int .u64 0,.slice none 0 0] 208::e8 b2 [e7 nu,e7 de] 40::e8 b1 [ve,vw,vb,vk,U64 (allB nd),U64 (0#64)] 211::I) (B9 (α:=Arc) _ _) ?_
 refine Ah (Av (S4 5 4 3 2 C C C C) (Aj (Gr (Er C C) (Ga C (Ah (Au (Aj (Gf fld211_3 C (Gl ty22 ?_)))))))))
 refine Gr (Cb (α:=Int) (xs:=cs) Ad C (Bj hkc)) (Gm C (Ah (A6 (Ca (σ:=Nat×(Option Addr)×Nat×(List Arc)) (λs=>([(2,.pointer (some ⟨b1,0,none⟩)),(3,.pointer (some ⟨b2,0,none⟩)),(4,.pointer (some ⟨b3,0,none⟩)),(5,.pointer (some ⟨b4,0,none⟩)),(6,.func (.func 281) #[] #[.pointer (some ⟨b4,0,none⟩)]),(33,vk),(34,e7 ((cs.length:Nat):Int)),(35,e7 ((s.1:Nat):Int))]:Env)) (λs=>e8 b4 [e7 (2+nd+((es.length:Nat):Int)),e7 0,e7 1,.slice s.2.1 s.2.2.2.length s.2.2.1] 303::vc 305 (.slice s.2.1 s.2.2.2.length s.2.2.1) (s.2.2.2)::e8 b3 [.int .u64 0,.slice none 0 0] 208::e8 b2 [e7 nu,e7 de] 40::e8 b1 [ve,vw,vb,vk,U64 (allB nd),U64 (0#64)] 211::I) (λs=>(s.1<=cs.length)/\(s.2.2.2=(List.range s.1).flatMap (nodeArcs nu))) (λs=>cs.length - s.1) (0,none,0,[]) ⟨om,rfl⟩ (Aa C (Aa C (Aa C (Aa C (Aa C (Aa C (Aa C (Aa Cr Bq)))))))) Bv ?_))))
 rintro ⟨k,a,c,ar⟩ hp
 dsimp only at hp ⊢
 obtain ⟨hkk,har⟩:=hp
 have harl:ar.length=2*k:=by rw [har,flat_len _ 2 (λ_=>rfl)];omega
 refine Aj (Gr (Bi C C) (Ah (Au (Bd C (λc36=>?_) (λc36=>?_)))))
 ·refine A4 (Ai (Au (A6 (Aj (Gm C (Gr (A2 (α:=Int) (xs:=cs) Ad ef C C (Bj hkc) om oo) (Gr (B3 (xs:=cs) ef C (Bj hkc) om oo) ?_)))))))
  have hkn:k<nd.toNat:=by omega
  rw [hP.c1 (k:Int) om om]
  refine Ga C (Ga C (Ah (Av (S10 8 7 2 3 4 5 6 33 34 35 C C C C C C C C C C) (Au (Bt mixed (C7 9 (Dr 0 C (Af C) (Dr 2 C (Ab fld211_4 C) (Dr 3 C (As ty175) ?_)))))))))
  refine Dr 5 C (Ab fld211_5 C) (Dr 6 C (As ty175) ?_)
  refine Ds1 1 (Se C (Am call237 C C (Bit_ok (k:Int))) ?_)
  rintro _ _ ⟨_,_,⟨rfl,rfl⟩,rfl,rfl⟩
  refine ⟨Ay,?_⟩
  refine Dr 4 C (C3 (a:=bitB (k:Int)) (b:=allB nd) C C) (Dr 7 C (D8 (a:=(bitB (k:Int)) &&& (allB nd)) (b:=0#64) C C) (Dr 8 C (Eh (a:=((bitB (k:Int)) &&& (allB nd)) &&& ~~~(0#64)) (b:=0#64) C C) (Dz (Ai (Av (S11 48 8 7 2 3 4 5 6 33 34 35 C C C C C C C C C C C) (Bd C (λc48=>?_) (λc48=>?_)))))))
  ·refine Au (Bt mixed (C9 (e8 b3 [.int .u64 0,.slice none 0 0] 208::e8 b2 [e7 nu,e7 de] 40::e8 b1 [ve,vw,vb,vk,U64 (allB nd),U64 (0#64)] 211::I) 12 (Dr 0 C (Af C) (Dr 1 C (Af C) (Dr 2 C (Rad C C) (Dr 3 C (Ab fld211_2 C) (Dr 4 C (As ty22) ?_)))))))
   refine Dr 5 C (Af C) (Dr 6 C (A2 (α:=Int) (xs:=bs) Ad ef C C (Bj hb) om oo) (Dr 7 C (B3 (xs:=bs) ef C (Bj hb) om oo) ?_))
   rw [hP.b0 (k:Int) om om]
   refine Dr 8 C (Ab fld40_1 C) (Dr 9 C (As ef) ?_)
   refine Dr 10 C (Fj C C (by unfold InR;omega)) ?_
   rw [Int.zero_mul]
   refine Ds1 11 (Sc2 C (C0 call281 C C C (C1 (J:=e8 b4 [e7 (2+nd+((es.length:Nat):Int)),e7 0,e7 1,.slice a ar.length c] 303::vc 305 (.slice a ar.length c) (ar)::e8 b3 [.int .u64 0,.slice none 0 0] 208::e8 b2 [e7 nu,e7 de] 40::e8 b1 [ve,vw,vb,vk,U64 (allB nd),U64 (0#64)] 211::I) Bv (Arc_ok 0 (2+(k:Int)) 0 olp))) λad5 cp6=>?_)
   refine Dz (Ai (Av (S10 8 7 2 3 4 5 6 33 34 35 C C C C C C C C C C) (A0 (Gm C (Gm C (Gr (Rad C C) (Gm C (Gf fld40_0 C (Gl ef ?_)))))))))
   refine Gr (Fj C C (by unfold InR;omega)) ?_
   rw [Int.one_mul]
   refine Gc2 (C0 call281 C C C (C1 (J:=e8 b4 [e7 (2+nd+((es.length:Nat):Int)),e7 0,e7 1,.slice ad5 (ar++[(⟨0,2+(k:Int),0⟩:Arc)]).length cp6] 303::vc 305 (.slice ad5 (ar++[(⟨0,2+(k:Int),0⟩:Arc)]).length cp6) (ar++[(⟨0,2+(k:Int),0⟩:Arc)])::e8 b3 [.int .u64 0,.slice none 0 0] 208::e8 b2 [e7 nu,e7 de] 40::e8 b1 [ve,vw,vb,vk,U64 (allB nd),U64 (0#64)] 211::I) Bv (Arc_ok (2+(k:Int)) 1 nu olp))) λad7 cp8=>?_
   exact Bf (Ak (Ai (Av (S8 2 3 4 5 6 33 34 35 C C C C C C C C) (A0 (Gr (Rad C C) (Gm C (Bf (Ch ((k+1),(ad7),(cp8),((ar++[(⟨0,2+(k:Int),0⟩:Arc)])++[(⟨2+(k:Int),1,nu⟩:Arc)])) (by dsimp only;exact ⟨om,(by rw [flat_succ,←har,List.append_assoc];rfl)⟩)))))))))
  ·exact absurd (bit_all (u:=(k:Int)) om om om) c48
 ·refine Bp (Ac (Ac (Aw (Ai (Aj (Gf fld211_0 C (Gl ty46 ?_)))))))
  refine Gr (Cb (α:=Pt) (xs:=es) Bu C (Bj hl)) (Ge2 (Cw (α:=Pt) (n:=es.length) Dj ty64 C C C om om dc C) λad9 cp10=>?_)
  refine Ga C (Ah (Av (S6 9 2 3 4 5 6 C C C C C C) (Au (Aj (Gf fld211_0 C (Gl ty46 ?_))))))
  refine Gr (Cb (α:=Pt) (xs:=es) Bu C (Bj hl)) (Gm C (Ah (A6 (Ca (σ:=Nat×(Option Addr)×Nat×(List Arc)×(List Pt)) (λs=>([(2,.pointer (some ⟨b1,0,none⟩)),(3,.pointer (some ⟨b2,0,none⟩)),(4,.pointer (some ⟨b3,0,none⟩)),(5,.pointer (some ⟨b4,0,none⟩)),(6,.func (.func 281) #[] #[.pointer (some ⟨b4,0,none⟩)]),(9,.slice ad9 (replicate es.length (default:Pt)).length cp10),(75,ve),(76,e7 ((es.length:Nat):Int)),(77,e7 ((s.1:Nat):Int))]:Env)) (λs=>e8 b4 [e7 (2+nd+((es.length:Nat):Int)),e7 0,e7 1,.slice s.2.1 s.2.2.2.1.length s.2.2.1] 303::vc 305 (.slice s.2.1 s.2.2.2.1.length s.2.2.1) (s.2.2.2.1)::vc 64 (.slice ad9 (replicate es.length (default:Pt)).length cp10) (s.2.2.2.2)::e8 b3 [.int .u64 0,.slice none 0 0] 208::e8 b2 [e7 nu,e7 de] 40::e8 b1 [ve,vw,vb,vk,U64 (allB nd),U64 (0#64)] 211::I) (λs=>(s.1<=es.length)/\(s.2.2.2.1=ar++(List.range s.1).flatMap (edgeArcs nd de es))/\(s.2.2.2.2.length=es.length)/\(∀i:Nat,i<s.1->e_ s.2.2.2.2 i=stepP (2*nd+3*(i:Int)+1) 2)) (λs=>es.length - s.1) (0,a,c,ar,replicate es.length (default:Pt)) ⟨om,(by simp),List.length_replicate,(λi h=>by omega)⟩ (Aa C (Aa C (Aa C (Aa C (Aa C (Aa C (Aa C (Aa C (Aa Cr Bq))))))))) Bv ?_))))
  rintro ⟨k2,a2,c2,ar2,fs⟩ hp
  dsimp only at hp ⊢
  obtain ⟨hk2,har2,hfl,hfs⟩:=hp
  have har2l:ar2.length=2*k+3*k2:=by rw [har2,List.length_append,harl,flat_len _ 3 (λ_=>rfl)];omega
  refine Aj (Gr (Bi C C) (Ah (Au (Bd C (λc78=>?_) (λc78=>?_)))))
  ·refine A4 (Ai (Au (A6 (Aj (Gm C (Gr (A2 (α:=Pt) (xs:=es) Bu ty135 C C (Bj hl) om oo) (Gr (B7 (α:=Pt) (xs:=es) ty135 C (Bj hl) om oo) ?_)))))))
   have hed:=hG.edge (e_ es k2) (Cq om om)
   refine Ge1 (A9 ty135 C) λb11=>Ga C (Ge0 (Cs ty135) ?_)
   refine Ah (Av (S11 10 11 2 3 4 5 6 9 75 76 77 C C C C C C C C C C C) (Aj (Gf fld211_3 C (Gl ty22 ?_))))
   refine Gr (Cb (α:=Int) (xs:=cs) Ad C (Bj hkc)) (Gr (Rad C C) (Gm C (Gr (Rad C C) ?_)))
   rw [show (2:Int)+((cs.length:Nat):Int)+(k2:Int)=2+nd+(k2:Int) by omega]
   refine Ga C (Ah (Av (S12 12 10 11 2 3 4 5 6 9 75 76 77 C C C C C C C C C C C C) (Au (Bt mixed (C7 9 (Dr 0 C (Ab fld211_1 C) (Dr 1 C (As ty22) ?_)))))))
   refine Dr 2 C (Af C) (Dr 3 C (A2 (α:=Int) (xs:=ws) Ad ef C C (Bj hw) om oo) (Dr 4 C (B3 (xs:=ws) ef C (Bj hw) om oo) ?_))
   rw [hP.w1 k2 om]
   refine Dr 5 C (Ab fld40_1 C) (Dr 6 C (As ef) ?_)
   refine Dr 7 C (Fj C C (by unfold InR;omega)) ?_
   rw [Int.one_mul]
   refine Dr 8 C (Bb C) (Dz (Ai (Av (S13 13 12 10 11 2 3 4 5 6 9 75 76 77 C C C C C C C C C C C C C) (Aj (Gm C (Gm C (Gm C (Gc2 (C0 call281 C C C (C1 (J:=e8 b4 [e7 (2+nd+((es.length:Nat):Int)),e7 0,e7 1,.slice a2 ar2.length c2] 303::vc 305 (.slice a2 ar2.length c2) (ar2)::e8 b11 [e7 ((e_ es k2).u),e7 ((e_ es k2).v)] 135::vc 64 (.slice ad9 (replicate es.length (default:Pt)).length cp10) (fs)::e8 b3 [.int .u64 0,.slice none 0 0] 208::e8 b2 [e7 nu,e7 de] 40::e8 b1 [ve,vw,vb,vk,U64 (allB nd),U64 (0#64)] 211::I) Bv (Arc_ok 0 (2+nd+(k2:Int)) de olp))) λad12 cp13=>?_))))))))
   refine Ah (Av (S13 13 12 10 11 2 3 4 5 6 9 75 76 77 C C C C C C C C C C C C C) (Aj (Gm C (Gm C (Gr (Runs.buildArr (cells:=[_,_]) ty64 Cm ef C C) (Gr (A2 (α:=Pt) (xs:=fs) Dj ty64 C C Bk om oo) (Ge0 (Cy (α:=Pt) (xs:=fs) (e:=64) (new:=⟨-1, -1⟩) ty64 C C C om oo am) ?_)))))))
   refine Ah (Av (S13 13 12 10 11 2 3 4 5 6 9 75 76 77 C C C C C C C C C C C C C) (Aj (Gf fld135_0 C (Gl ef ?_))))
   refine Gf fld135_1 C (Gl ef ?_)
   refine Gr (Runs.buildArr (cells:=[_,_]) ty64 Cm ef C C) (Gm C (Ah (Av (S14 109 108 13 12 10 2 3 4 5 6 9 75 76 77 C C C C C C C C C C C C C C) (A6 (Ca (σ:=Nat×(Option Addr)×Nat×(List Arc)×(List Pt)) (λs=>([(2,.pointer (some ⟨b1,0,none⟩)),(3,.pointer (some ⟨b2,0,none⟩)),(4,.pointer (some ⟨b3,0,none⟩)),(5,.pointer (some ⟨b4,0,none⟩)),(6,.func (.func 281) #[] #[.pointer (some ⟨b4,0,none⟩)]),(9,.slice ad9 (replicate es.length (default:Pt)).length cp10),(10,e7 ((k2:Int))),(12,e7 (2+nd+(k2:Int))),(13,e7 de),(75,ve),(76,e7 ((es.length:Nat):Int)),(77,e7 ((k2:Int))),(108,.agg #[e7 ((e_ es k2).u),e7 ((e_ es k2).v)]),(109,e7 ((s.1:Nat):Int))]:Env)) (λs=>e8 b4 [e7 (2+nd+((es.length:Nat):Int)),e7 0,e7 1,.slice s.2.1 s.2.2.2.1.length s.2.2.1] 303::vc 305 (.slice s.2.1 s.2.2.2.1.length s.2.2.1) (s.2.2.2.1)::e8 b11 [e7 ((e_ es k2).u),e7 ((e_ es k2).v)] 135::vc 64 (.slice ad9 (replicate es.length (default:Pt)).length cp10) (s.2.2.2.2)::e8 b3 [.int .u64 0,.slice none 0 0] 208::e8 b2 [e7 nu,e7 de] 40::e8 b1 [ve,vw,vb,vk,U64 (allB nd),U64 (0#64)] 211::I) (λs=>(s.1<=2)/\(s.2.2.2.1=ar2++(edgeArcs nd de es k2).take (1+s.1))/\(s.2.2.2.2=fs.set k2 (stepP (2*nd+3*(k2:Int)+1) s.1))) (λs=>2 - s.1) (0,ad12,cp13,ar2++[(⟨0,2+nd+(k2:Int),de⟩:Arc)],List.set fs ((k2:Int)).toNat (⟨-1, -1⟩)) ⟨om,rfl,(by rw [Int.toNat_natCast];rfl)⟩ (Aa C (Aa C (Aa C (Aa C (Aa C (Aa C (Aa C (Aa C (Aa C (Aa C (Aa C (Aa C (Aa C (Aa Cr Bq)))))))))))))) Bv ?_)))))
   rintro ⟨j,a3,c3,ar3,fs3⟩ hp
   dsimp only at hp ⊢
   obtain ⟨hj,har3,hfs3⟩:=hp
   refine W.pull (p:=0<fs3.length->ad9≠none) (vc.isSome mm) λhsf=>?_
   have har3l:ar3.length=2*k+3*k2+1+j:=by rw [har3,List.length_append,List.length_take,har2l];show 2*k+3*k2+min (1+j) 3=_;omega
   have hf3l:fs3.length=es.length:=by rw [hfs3,List.length_set];exact hfl
   refine Aj (Gr (Bi C C) (Ah (Av (S15 110 2 3 4 5 6 9 10 12 13 75 76 77 108 109 C C C C C C C C C C C C C C C) (Au (Bd C (λc110=>?_) (λc110=>?_))))))
   ·refine A4 (Ai (Av (S14 2 3 4 5 6 9 10 12 13 75 76 77 108 109 C C C C C C C C C C C C C C) (Au (A6 (Aj (Gm C (Gr (Runs.index2 (ix2a _ _) (ix2b _ _) C C om) (Ga C (Ga C (Ah (Av (S16 15 14 2 3 4 5 6 9 10 12 13 75 76 77 108 109 C C C C C C C C C C C C C C C C) (Au (Bt mixed (C7 6 (Dr 0 C (Af C) (Dr 2 C (Ab fld211_5 C) (Dr 3 C (As ty175) ?_)))))))))))))))))
    refine Ds1 1 (Se C (Am call237 C C (Bit_ok (if (j:Int)=0 then (e_ es k2).u else (e_ es k2).v))) ?_)
    rintro _ _ ⟨_,_,⟨rfl,rfl⟩,rfl,rfl⟩
    refine ⟨Ay,?_⟩
    refine Dr 4 C (C3 (a:=bitB (if (j:Int)=0 then (e_ es k2).u else (e_ es k2).v)) (b:=0#64) C C) (Dr 5 C (Runs.eqB (a:=(bitB (if (j:Int)=0 then (e_ es k2).u else (e_ es k2).v)) &&& (0#64)) (b:=0#64) C C) (Dz (Ai (Av (S17 118 15 14 2 3 4 5 6 9 10 12 13 75 76 77 108 109 C C C C C C C C C C C C C C C C C) (Bd C (λc118=>?_) (λc118=>?_))))))
    ·refine Bt mixed (C9 (e8 b11 [e7 ((e_ es k2).u),e7 ((e_ es k2).v)] 135::e8 b3 [.int .u64 0,.slice none 0 0] 208::e8 b2 [e7 nu,e7 de] 40::e8 b1 [ve,vw,vb,vk,U64 (allB nd),U64 (0#64)] 211::I) 12 (Dr 0 C (Af C) (Dr 1 C (Af C) (Dr 2 C (Af C) (Dr 3 C (Af C) (Dr 4 C (Af C) (Dr 5 C (Af C) (Dr 6 C (Rad C C) (Dr 7 C (Af C) (Dr 9 C (Runs.idxsV Pt Dj ty64 C C (hsf om) om (by simp only [List.length_replicate];omega)) (Ds1 8 (Sc2 C (C0 call281 C C C (C1 (J:=e8 b4 [e7 (2+nd+((es.length:Nat):Int)),e7 0,e7 1,.slice a3 ar3.length c3] 303::vc 305 (.slice a3 ar3.length c3) (ar3)::e8 b11 [e7 ((e_ es k2).u),e7 ((e_ es k2).v)] 135::vc 64 (.slice ad9 (replicate es.length (default:Pt)).length cp10) (fs3)::e8 b3 [.int .u64 0,.slice none 0 0] 208::e8 b2 [e7 nu,e7 de] 40::e8 b1 [ve,vw,vb,vk,U64 (allB nd),U64 (0#64)] 211::I) Bv (Arc_ok (2+nd+(k2:Int)) (2+(if (j:Int)=0 then (e_ es k2).u else (e_ es k2).v)) de olp))) λad14 cp15=>?_))))))))))))
     refine Dr 10 C (Runs.idxElF Cm ef C C (hsf om) om om) (Ds1 11 (Se0 C (Eff.setP2 (xs:=fs3) (i:=(k2:Int)) (j:=(j:Int)) (n:=((ar3.length:Nat):Int)) (e:=64) ef C C om om om am) ?_))
     exact Dz (Ak (Ai (Av (S14 2 3 4 5 6 9 10 12 13 75 76 77 108 109 C C C C C C C C C C C C C C) (A0 (Gr (Rad C C) (Gm C (Bf (Ch ((j+1),(ad14),(cp15),(ar3++[(⟨2+nd+(k2:Int),2+(if (j:Int)=0 then (e_ es k2).u else (e_ es k2).v),de⟩:Arc)]),(List.set fs3 ((k2:Int)).toNat (setP2 (e_ fs3 k2) (j:Int) ((ar3.length:Nat):Int)))) (by dsimp only;exact ⟨om,(by rcases (show j=0\/j=1 by omega) with e|e<;>subst e<;>rw [har3,List.append_assoc]<;>simp [edgeArcs]),(step_first hfs3 om om om)⟩)))))))))
    ·exact absurd BitVec.and_zero c118
   ·exact Bp (Ac (Ac (Aw (Ak (Ai (Av (S9 2 3 4 5 6 9 75 76 77 C C C C C C C C C) (A0 (Gr (Rad C C) (Gm C (Bf (Ch ((k2+1),(a3),(c3),(ar3),(fs3)) (by dsimp only;exact ⟨om,(by rw [har3,har2,flat_succ,List.append_assoc,List.take_of_length_le (show (edgeArcs nd de es k2).length<=1+j by show 3<=1+j;omega)]),hf3l,(first_next hfs3 om om hfs)⟩))))))))))))
  ·refine Bp (Ac (Ac (Aw (Ai (Aj (Gl4 ty303 ?_))))))
   have hall:ar2=denseArcs nd nu de es:=by rw [har2,har,show k=nd.toNat by omega,show k2=es.length by omega];rfl
   rw [hall]
   have hdl:=denseArcs_len nd nu de es
   refine G.e (Am call282 C C (Both_ok (n:=denseNet nd nu de es) Bk (denseNet_ok hG hm om om))) ?_
   rintro _ _ ⟨_,_,⟨ad16,cp17,fl,ad18,cp19,side,val,rfl,hB,rfl⟩,rfl,rfl⟩
   have hsl:((side.length:Nat):Int)=2+nd+((es.length:Nat):Int):=hB.len
   have hfl2:fl.length=nd.toNat*2+es.length*3:=hB.flow.len.trans hdl
   refine Gm C (Gr (Ax C C) (Gr (Ax C C) (Gr (Ax C C) (Ga C (Ga C (Ga C (Ah (Av (S6 18 16 2 3 4 9 C C C C C C) (Aj (Gf fld211_5 C (Gl ty175 ?_)))))))))))
   refine Gr (Bc (cells:=[_,_]) ty208 Tryz.underlying208 pl208 C C) (Ge1 (A9 ty208 C) λb20=>Ge0 (Cs ty208) ?_)
   refine Ah (Au (Aj (Gf fld211_3 C (Gl ty22 ?_))))
   refine Gr (Cb (α:=Int) (xs:=cs) Ad C (Bj hkc)) (Gm C (Ah (Av (S9 144 143 19 18 16 2 3 4 9 C C C C C C C C C) (A6 (Ca (σ:=Nat×(BitVec 64)) (λs=>([(2,.pointer (some ⟨b1,0,none⟩)),(3,.pointer (some ⟨b2,0,none⟩)),(4,.pointer (some ⟨b3,0,none⟩)),(9,.slice ad9 (replicate es.length (default:Pt)).length cp10),(16,.slice ad16 fl.length cp17),(18,.slice ad18 side.length cp19),(19,.pointer (some ⟨b20,0,none⟩)),(143,e7 ((cs.length:Nat):Int)),(144,e7 ((s.1:Nat):Int))]:Env)) (λs=>e8 b20 [U64 (s.2),.slice none 0 0] 208::vc 4 (.slice ad18 side.length cp19) (side)::vc 3 (.slice ad16 fl.length cp17) (fl)::e8 b4 [e7 (2+nd+((es.length:Nat):Int)),e7 0,e7 1,.slice a2 (denseArcs nd nu de es).length c2] 303::vc 305 (.slice a2 (denseArcs nd nu de es).length c2) ((denseArcs nd nu de es))::vc 64 (.slice ad9 (replicate es.length (default:Pt)).length cp10) (fs)::e8 b3 [.int .u64 0,.slice none 0 0] 208::e8 b2 [e7 nu,e7 de] 40::e8 b1 [ve,vw,vb,vk,U64 (allB nd),U64 (0#64)] 211::I) (λs=>(s.1<=cs.length)/\(∀v:Int,v∈eo s.2↔(0<=v/\v<((s.1:Nat):Int))/\e_ side (2+v)=true)) (λs=>cs.length - s.1) (0,0#64) ⟨om,(λv=>by rw [Du];constructor;(· intro h;cases h);(· rintro ⟨h,_⟩;omega))⟩ (Aa C (Aa C (Aa C (Aa C (Aa C (Aa C (Aa C (Aa C (Aa Cr Bq))))))))) A5 ?_)))))
   rintro ⟨k3,B⟩ hp
   dsimp only at hp ⊢
   obtain ⟨hk3,hB6⟩:=hp
   refine Aj (Gr (Bi C C) (Ah (Au (Bd C (λc145=>?_) (λc145=>?_)))))
   ·refine A4 (Ai (Au (A6 (Aj (Gm C (Ga C (Ah (Au (Bt mixed (C7 16 (Dr 0 C (Af C) (Dr 2 C (Ab fld211_4 C) (Dr 3 C (As ty175) ?_)))))))))))))
    refine Dr 5 C (Ab fld211_5 C) (Dr 6 C (As ty175) ?_)
    refine Ds1 1 (Se C (Am call237 C C (Bit_ok (k3:Int))) ?_)
    rintro _ _ ⟨_,_,⟨rfl,rfl⟩,rfl,rfl⟩
    refine ⟨Ay,?_⟩
    refine Dr 4 C (C3 (a:=bitB (k3:Int)) (b:=allB nd) C C) (Dr 7 C (D8 (a:=(bitB (k3:Int)) &&& (allB nd)) (b:=0#64) C C) (Dr 8 C (Eh (a:=((bitB (k3:Int)) &&& (allB nd)) &&& ~~~(0#64)) (b:=0#64) C C) (Dr 9 C (Af C) (D4 (d:=156) C (λg156=>?_) (λg156=>?_)))))
    ·refine Dro 10 C (Af C) (Dro 11 C (Af C) (Dro 12 C (Rad C C) (Dro 13 C (A2 (α:=Bool) (xs:=side) Cx ty4 C C Bk om oo) (Dro 14 C (Runs.getB (xs:=side) ty4 C Bk om oo) (Dr 15 C (Ap C C) (Dz (Ai (Av (S11 162 20 2 3 4 9 16 18 19 143 144 C C C C C C C C C C C) (Ez C (λc162=>?_) (λc162=>?_))))))))))
     ·refine Bt mixed (C7 6 (Dr 0 C (Ab fld208_0 C) (Dr 1 C (As ty175) ?_)))
      refine Dr 2 C (Af C) (Ds1 3 (Se C (Am call237 C C (Bit_ok (k3:Int))) ?_))
      rintro _ _ ⟨_,_,⟨rfl,rfl⟩,rfl,rfl⟩
      refine ⟨Ay,?_⟩
      refine Dr 4 C (E0 (a:=B) (b:=bitB (k3:Int)) C C) (Dr 5 C (Ab fld208_0 C) (Dc kr ?_))
      refine Ae 6 C (Es2_1 ty175) ?_
      rintro _ _ ⟨rfl,rfl⟩
      refine De kr ?_
      exact Ak (Ai (Av (S9 2 3 4 9 16 18 19 143 144 C C C C C C C C C) (A0 (Gr (Rad C C) (Gm C (Bf (Ch ((k3+1),(B ||| (bitB (k3:Int)))) (by dsimp only;exact ⟨om,(by first|exact or_yes (p:=λv=>e_ side (2+v)=true) om hB6 c162|exact or_no (p:=λv=>e_ side (2+v)=true) hB6 (by rw [c162];simp))⟩))))))))
     ·exact A4 (Ak (Ai (A0 (Gr (Rad C C) (Gm C (Bf (Ch ((k3+1),(B)) (by dsimp only;exact ⟨om,(by first|exact or_yes (p:=λv=>e_ side (2+v)=true) om hB6 c162|exact or_no (p:=λv=>e_ side (2+v)=true) hB6 (by rw [c162];simp))⟩))))))))
    ·exact absurd (bit_all (u:=(k3:Int)) om om om) g156
   ·refine Bp (Ac (Ac (Aw (Ai (Au (Aj (Gf fld211_0 C (Gl ty46 ?_))))))))
    refine Gr (Cb (α:=Pt) (xs:=es) Bu C (Bj hl)) (Gm C (Ah (Av (S8 173 172 2 3 4 9 16 19 C C C C C C C C) (A6 (Ca (σ:=Nat×(Option Addr)×Nat×(List Int)) (λs=>([(2,.pointer (some ⟨b1,0,none⟩)),(3,.pointer (some ⟨b2,0,none⟩)),(4,.pointer (some ⟨b3,0,none⟩)),(9,.slice ad9 (replicate es.length (default:Pt)).length cp10),(16,.slice ad16 fl.length cp17),(19,.pointer (some ⟨b20,0,none⟩)),(172,e7 ((es.length:Nat):Int)),(173,e7 ((s.1:Nat):Int))]:Env)) (λs=>vc 3 (.slice s.2.1 s.2.2.2.length s.2.2.1) (s.2.2.2)::e8 b20 [U64 B,.slice s.2.1 s.2.2.2.length s.2.2.1] 208::vc 4 (.slice ad18 side.length cp19) (side)::vc 3 (.slice ad16 fl.length cp17) (fl)::e8 b4 [e7 (2+nd+((es.length:Nat):Int)),e7 0,e7 1,.slice a2 (denseArcs nd nu de es).length c2] 303::vc 305 (.slice a2 (denseArcs nd nu de es).length c2) ((denseArcs nd nu de es))::vc 64 (.slice ad9 (replicate es.length (default:Pt)).length cp10) (fs)::e8 b3 [.int .u64 0,.slice none 0 0] 208::e8 b2 [e7 nu,e7 de] 40::e8 b1 [ve,vw,vb,vk,U64 (allB nd),U64 (0#64)] 211::I) (λs=>(s.1<=es.length)/\(s.2.2.2.length=s.1)/\(∀i:Nat,i<s.1->e_ s.2.2.2 i=de - edgF nd fl i 2)) (λs=>es.length - s.1) (0,none,0,[]) ⟨om,rfl,(λi h=>by omega)⟩ (Aa C (Aa C (Aa C (Aa C (Aa C (Aa C (Aa C (Aa Cr Bq)))))))) (B9 _ _) ?_)))))
    rintro ⟨k4,pa,pc,parts⟩ hp
    dsimp only at hp ⊢
    obtain ⟨hk4,hpl,hpp⟩:=hp
    have hfu:k4<es.length->(e_ fs k4).u<fl.length/\(e_ fs k4).v<fl.length:=λh=>by rw [hfs k4 om];exact ⟨by show 2*nd+3*(k4:Int)+1<_;omega,by show 2*nd+3*(k4:Int)+1+1<_;omega⟩
    refine Aj (Gr (Bi C C) (Ah (Au (Bd C (λc174=>?_) (λc174=>?_)))))
    ·refine A4 (Ai (Au (A6 (Aj (Gm C (Ga C (Ah (Bt mixed (C9 (e8 b20 [U64 B,.slice pa parts.length pc] 208::vc 4 (.slice ad18 side.length cp19) (side)::vc 3 (.slice ad16 fl.length cp17) (fl)::e8 b4 [e7 (2+nd+((es.length:Nat):Int)),e7 0,e7 1,.slice a2 (denseArcs nd nu de es).length c2] 303::vc 305 (.slice a2 (denseArcs nd nu de es).length c2) ((denseArcs nd nu de es))::vc 64 (.slice ad9 (replicate es.length (default:Pt)).length cp10) (fs)::e8 b3 [.int .u64 0,.slice none 0 0] 208::e8 b2 [e7 nu,e7 de] 40::e8 b1 [ve,vw,vb,vk,U64 (allB nd),U64 (0#64)] 211::I) 21 (Dr 0 C (Ab fld208_1 C) (Dr 1 C (As ty22) ?_)))))))))))
     refine Dr 2 C (Be (vs:=[_,_,_,_,_,_]) ty211) ?_
     refine Dr 3 C (Af C) (Dr 4 C (Af C) (Dr 5 C (Af C) (Dr 6 C (A2 (α:=Pt) (xs:=fs) Dj ty64 C C Bk om oo) (Dr 7 C (B7 (α:=Pt) (xs:=fs) ty64 C Bk om oo) ?_))))
     have hfu2:=hfu om
     refine Dr 8 C (Af C) (Dr 9 C (Ab fld211_1 C) (Dr 10 C (As ty22) ?_))
     refine Dr 11 C (Af C) (Dr 12 C (A2 (α:=Int) (xs:=ws) Ad ef C C (Bj hw) om oo) (Dr 13 C (B3 (xs:=ws) ef C (Bj hw) om oo) ?_))
     rw [hP.w1 k4 om]
     refine Dr 14 C (Ab fld40_1 C) (Dr 15 C (As ef) ?_)
     refine Dr 16 C (Fj C C (by unfold InR;omega)) ?_
     rw [Int.one_mul]
     refine Ds1 17 (Se C (Am call283 C C (Part_ok Bk hfu2.1 hfu2.2 (flow_small hN hD4 hB.flow) hD4)) ?_)
     rintro _ _ ⟨_,_,⟨px,rfl,hpx,rfl⟩,rfl,rfl⟩
     refine ⟨A5,?_⟩
     refine Ds1 18 (Se1 C (Cj (α:=Int) (cs:=[_]) (xs:=[px]) Ad ef C C dc dc C C C C) λad21=>?_)
     refine Ds1 19 (Se2 C (Cn (α:=Int) (e:=3) (xs:=parts) (ys:=([px]:List Int)) Ad ef C C C mm Bk lcn dc C (λ_ _=>am)) λad22 cp23=>?_)
     refine Dr 20 C (Ab fld208_1 C) (Dc kr ?_)
     refine Ae 21 C (Es2_1 ty22) ?_
     rintro _ _ ⟨rfl,rfl⟩
     refine De kr ?_
     exact Ak (Ai (Av (S8 2 3 4 9 16 19 172 173 C C C C C C C C) (A0 (Gr (Rad C C) (Gm C (Bf (Ch ((k4+1),(ad22),(cp23),(parts++([px]:List Int))) (by dsimp only;exact ⟨om,lap,(parts_next hrng.1 (hfs k4 om) hpx hpl hpp)⟩))))))))
    ·refine Bp (Ac (Ac (Aw (Ai (Aj (Gl2 ty208 ?_))))))
     refine Ge0 (Cs ty208) ?_
     exact Ah (Az (Cf C ty208 C mm C (vc 3 (.slice pa parts.length pc) parts::I) Bv ⟨B,pa,pc,parts,rfl,solve_of hG hm hN hD4 hB om hB6,parts_of hG hm hN hD4 hB om hB6 om (λi hi=>hpp i om),rfl⟩))
variable {κ:Ctx}{I:List Item}
theorem mkF_mul{a b:Int}(h0:0<=a)(h1:0<b):(mkF a b).den*a=(mkF a b).num*b:=by
 have hg:=gcdI_pos (a:=a) h1
 have d1:gcdI a b ∣ a:=by
  obtain ⟨x,hx⟩:=Nat.gcd_dvd_left a.toNat b.toNat
  exact ⟨(x:Int),by unfold gcdI;rw [←Int.natCast_mul,←hx];omega⟩
 have d2:gcdI a b ∣ b:=by
  obtain ⟨x,hx⟩:=Nat.gcd_dvd_right a.toNat b.toNat
  exact ⟨(x:Int),by unfold gcdI;rw [←Int.natCast_mul,←hx];omega⟩
 show b / gcdI a b*a=a / gcdI a b*b
 generalize gcdI a b=g at hg d1 d2
 obtain ⟨x,rfl⟩:=d1
 obtain ⟨y,rfl⟩:=d2
 rw [Int.mul_ediv_cancel_left _ om,Int.mul_ediv_cancel_left _ om]
 rw [←Int.mul_assoc,←Int.mul_assoc,Int.mul_comm y g,Int.mul_comm x g,Int.mul_assoc,Int.mul_assoc,Int.mul_comm y x]
theorem mul_rng{x y m n:Int}(hx:0<=x/\x<=m)(hy:0<=y/\y<=n):0<=x*y/\x*y<=m*n:=⟨Int.mul_nonneg hx.1 hy.1,Int.mul_le_mul hx.2 hy.2 hy.1 om⟩
theorem cntB_le(W:BitVec 64):0<=cntB W/\cntB W<=64:=by
 have:=Em W
 unfold cntB;omega
theorem edges_le{nd:Int}{es:List Pt}(hG:GrOk nd es):es.length<=2016:=by
 have hs:∀e∈es,e∈(List.range 64).flatMap fun (v:Nat)=>(List.range v).map fun (u:Nat)=>(⟨(u:Int),(v:Int)⟩:Pt):=λe he=>by
  have h:=hG.edge e he
  have hr:=hG.rng
  refine List.mem_flatMap.2 ⟨e.v.toNat,List.mem_range.2 om,List.mem_map.2 ⟨e.u.toNat,List.mem_range.2 om,?_⟩⟩
  rw [Pt.ext_iff']
  exact ⟨by show ((e.u.toNat:Nat):Int)=e.u;omega,by show ((e.v.toNat:Nat):Int)=e.v;omega⟩
 have hl:=List.Nodup.length_le_of_subset (asc_nodup hG.asc) hs
 have e:((List.range 64).flatMap fun (v:Nat)=>(List.range v).map fun (u:Nat)=>(⟨(u:Int),(v:Int)⟩:Pt)).length=2016:=by
  rw [List.length_flatMap]
  simp only [List.length_map,List.length_range]
  decide+kernel
 omega
structure DensR (nd:Int) (es:List Pt) (N D:Int) (B:BitVec 64):Prop where
 dens:DensP nd N D es B
 num:0<=N/\N<=2016
 den:1<=D/\D<=64
 red:∃x y:Int,(0<=x/\x<=2016)/\(1<=y/\y<=64)/\(⟨N,D⟩:Fr)=mkF x y
theorem all_sub{nd:Int}(h0:0<=nd)(h1:nd<=64):subN nd (allB nd):=λx hx=>by
 have h:=mem_listB.1 hx
 have h2:x.toNat<64:=Classical.byContradiction λhn=>by rw [BitVec.getLsbD_of_ge _ _ om] at h;cases h.2
 rw [getLsb_allB h0 h1 h2,decide_eq_true_eq] at h
 omega
theorem all_ne{nd:Int}(h0:1<=nd)(h1:nd<=64):allB nd≠0#64:=nz_listB.2 ⟨0,mem_listB.2 ⟨Int.le_refl _,by
 rw [getLsb_allB om h1 dc,decide_eq_true_eq];omega⟩⟩
theorem plainP(m:Nat)(es:List Pt):PlainP (m:Int) es (replicate es.length 1) (replicate m (default:Int)) (replicate m 1) where
 wl:=List.length_replicate
 w1:=λi hi=>at_rep _ _ _ om om
 bl:=by rw [List.length_replicate,Int.toNat_natCast]
 b0:=λi h0 h1=>by rw [at_rep _ _ _ h0 om];rfl
 cl:=by rw [List.length_replicate,Int.toNat_natCast]
 c1:=λi h0 h1=>at_rep _ _ _ h0 om
set_option maxHeartbeats 2000000 in
theorem Densest_ok{nd:Int}{ve vw vb vk:Value}{es:List Pt}{ws bs cs:List Int}(hl:Sl κ I ve es)(hw:Sl κ I vw ws)(hb:Sl κ I vb bs)(hkc:Sl κ I vk cs)(hG:GrOk nd es)(hm:es.length<=2016)(hP:PlainP nd es ws bs cs)(h1:1<=nd)(hT:TabRd κ I 0 tzCells):eu Tryz.prog κ 170 [.agg #[ve,vw,vb,vk,U64 (allB nd),U64 (0#64)]] I (λr J=>∃B a c parts N D,r = .tuple #[.agg #[U64 B,.slice a (parts:List Int).length c],.agg #[e7 N,e7 D]]/\DensR nd es N D B/\SplitP nd N D es parts/\J=vc 3 (.slice a parts.length c) parts::I):=by
 have hrng:=hG.rng
 have hwl:=hP.wl
 have hbl:=hP.bl
 have hcl:=hP.cl
 refine Ce1 Tryz.func170 C C ?_
 refine Aj (Ge1 (Bg (cs:=[_,_,_,_,_,_]) C C C) λb1=>Ge1 (A9 ty208 C) λb2=>Ge1 (A9 ty40 C) λb3=>Ah (Aj (Gf fld211_4 C (Gl ty175 ?_))))
 refine Ga C (Ah (A6 (Ca (σ:=(BitVec 64)) (λs=>([(1,.pointer (some ⟨b1,0,none⟩)),(2,.pointer (some ⟨b2,0,none⟩)),(3,.pointer (some ⟨b3,0,none⟩)),(4,U64 s)]:Env)) (λs=>e8 b3 [e7 0,e7 0] 40::e8 b2 [.int .u64 0,.slice none 0 0] 208::e8 b1 [ve,vw,vb,vk,U64 (allB nd),U64 (0#64)] 211::I) (λs=>(subN nd s)/\(s≠0#64)) (λs=>8257536 - densM es s) (allB nd) ⟨(all_sub hrng.1 hrng.2),(all_ne h1 hrng.2)⟩ (Aa C (Aa C (Aa C (Aa (Da C (by first|rfl|simp)) Bq)))) A5 ?_)))
 rintro wb hp
 obtain ⟨hW,hne⟩:=hp
 have hmle:=densM_le hm hne
 have hib:=insE_bd wb es
 have hcb:=cntB_pos hne
 refine A6 (Aj (Gl6 ty211 ?_))
 refine Gm C (G.e (Am call232 C C (Gain_ok (Bj hl) (Bj hw) (Bj hb) (Bj hkc) hG hm hP wb (by first|exact hW|exact hS.sub) (Bw hT Ay))) ?_)
 rintro _ _ ⟨_,_,⟨rfl,rfl⟩,rfl,rfl⟩
 refine Gm C (Gr (Ax C C) (Gr (Ax C C) (Ga C (Ga C (Ah (Aj (Gm C (Gm C (Gc0 (Am call220 C C (MakeF_ok (insE wb es) (cntB wb) om om)) ?_)))))))))
 refine Gm C ?_
 have hn1:=mkF_num (a:=insE wb es) (b:=cntB wb) om om
 have hd1:=mkF_den (a:=insE wb es) (b:=cntB wb) om
 have hmul:=mkF_mul (a:=insE wb es) (b:=cntB wb) om om
 have hred:(⟨(mkF (insE wb es) (cntB wb)).num,(mkF (insE wb es) (cntB wb)).den⟩:Fr)=mkF (insE wb es) (cntB wb):=rfl
 generalize (mkF (insE wb es) (cntB wb)).num=Nn at hn1 hmul hred ⊢
 generalize (mkF (insE wb es) (cntB wb)).den=Dd at hd1 hmul hred ⊢
 refine Gr (Ax C C) (Gr (Ax C C) (Ge1 (A9 ty40 C) λb4=>Ge0 (Cs ty40) ?_))
 refine Ga C (Ah (Av (S4 7 1 2 3 C C C C) (Aj (Gl6 ty211 ?_))))
 refine Gl2 ty40 ?_
 refine G.e (Am call233 C C (Solve_ok (Bj hl) (Bj hw) (Bj hb) (Bj hkc) hG hm hP (nu:=Nn) (de:=Dd) om om)) ?_
 rintro _ _ ⟨_,_,⟨Bn,pa,pc,parts,rfl,hS,hpl,rfl⟩,rfl,rfl⟩
 have hib2:=insE_bd Bn es
 have hcb2:=cntB_le Bn
 refine Ge1 (A9 ty208 C) λb5=>Ge0 (Cs ty208) ?_
 refine Ah (Aj (Gl6 ty211 ?_))
 refine Gf fld208_0 C (Gl ty175 ?_)
 refine G.e (Am call232 C C (Gain_ok (Bj hl) (Bj hw) (Bj hb) (Bj hkc) hG hm hP Bn (by first|exact hW|exact hS.sub) (Bw hT Ay))) ?_
 rintro _ _ ⟨_,_,⟨rfl,rfl⟩,rfl,rfl⟩
 refine Gm C (Gr (Ax C C) (Gr (Ax C C) (Ga C (Ga C (Ah (Av (S7 6 5 9 7 1 2 3 C C C C C C C) (Au (Aj (Gm C (Gf fld40_1 C (Gl ef ?_)))))))))))
 refine Gr (Fj C C (by unfold InR;first|omega|(have hp1:=mul_rng (x:=insE Bn es) (y:=Dd) (m:=2016) (n:=64) om om;have hp2:=mul_rng (x:=Nn) (y:=cntB Bn) (m:=2016) (n:=64) om om;omega))) (Gf fld40_0 C (Gl ef ?_))
 refine Gm C (Gr (Fj C C (by unfold InR;first|omega|(have hp1:=mul_rng (x:=insE Bn es) (y:=Dd) (m:=2016) (n:=64) om om;have hp2:=mul_rng (x:=Nn) (y:=cntB Bn) (m:=2016) (n:=64) om om;omega))) (Gr (Ei C C) (Ah (Av (S6 42 9 7 1 2 3 C C C C C C) (Bd C (λc42=>?_) (λc42=>?_))))))
 ·refine Au (Bt mixed (C9 (e8 b5 [U64 Bn,.slice pa parts.length pc] 208::vc 3 (.slice pa parts.length pc) (parts)::e8 b4 [e7 Nn,e7 Dd] 40::e8 b1 [ve,vw,vb,vk,U64 (allB nd),U64 (0#64)] 211::I) 2 (Dr 0 C (Be (vs:=[_,_]) ty208) ?_)))
  refine Dv (rs:=[1,2]) kr C C (Ex ?_ (En ?_))
  ·refine Sr C (Be (vs:=[_,_]) ty40) A5 ?_
   refine Dc kr ?_
   refine Ae 2 C (Cs ty208) ?_
   rintro _ _ ⟨rfl,rfl⟩
   refine Ae 3 C (Cs ty40) ?_
   rintro _ _ ⟨rfl,rfl⟩
   refine De kr ?_
   refine Ai (Az (Ar (A3 (Ar (A3 ?_)))))
   have hdn:=hS.done hW hne hmul c42
   exact V.retcc C ty208 ty40 C C mm mm C C (vc 3 (.slice pa parts.length pc) parts::I) Bv ⟨Bn,pa,pc,parts,Nn,Dd,rfl,⟨hdn,by omega,by omega,_,_,by omega,by omega,hred⟩,splitP_of hG om hpl c42,rfl⟩
  ·refine Se0 C (Cs ty208) ?_
   refine Ds1 1 (Sr C (Be (vs:=[_,_]) ty40) A5 ?_)
   refine Ds1 3 (Se0 C (Cs ty40) ?_)
   refine Dz (Ai (Az (Ar (A3 (Ar (A3 ?_))))))
   have hdn:=hS.done hW hne hmul c42
   exact V.retcc C ty208 ty40 C C mm mm C C (vc 3 (.slice pa parts.length pc) parts::I) Bv ⟨Bn,pa,pc,parts,Nn,Dd,rfl,⟨hdn,by omega,by omega,_,_,by omega,by omega,hred⟩,splitP_of hG om hpl c42,rfl⟩
 ·refine A4 (Ai (A0 (Gf fld208_0 C (Gl ty175 ?_))))
  refine Ga C (Bf (Ak ?_))
  have hneB:Bn≠0#64:=pos_set (nd:=nd) (N:=Nn) (D:=Dd) (es:=es) (by have e:insE Bn es*Dd=Dd*insE Bn es:=Int.mul_comm _ _;omega)
  have hgr:=densM_grow (nd:=nd) (B:=Bn) hne om hmul c42
  have hlB:=densM_le hm hneB
  exact Ch ((Bn)) ⟨hS.sub,hneB⟩
set_option maxHeartbeats 1000000 in
theorem Plain_base{m:Nat}{ea:Option Addr}{ec:Nat}{es:List Pt}(hl:Sl κ I (.slice ea es.length ec) es)(hm:es.length<=2016)(hm64:m<=64):eu Tryz.prog κ 169 [.agg #[e7 ((m:Int)),.slice ea es.length ec]] I (λr J=>∃aw cw ab cb ak ck ws bs cs,r = .agg #[.slice ea es.length ec,.slice aw (ws:List Int).length cw,.slice ab (bs:List Int).length cb,.slice ak (cs:List Int).length ck,U64 (allB (m:Int)),U64 0#64]/\PlainP (m:Int) es ws bs cs/\J=vc 3 (.slice ak cs.length ck) cs::vc 3 (.slice aw ws.length cw) ws::vc 3 (.slice ab bs.length cb) bs::I):=by
 refine Cg hl.le λhmax=>?_
 refine Ce1 Tryz.func169 C C ?_
 refine Aj (Ge1 (Bg (cs:=[_,_]) C C C) λb1=>Ge1 (A9 ty211 C) λb2=>Ah (Fe (σ:=Nat×(Option Addr)×Nat) (λs=>([(1,.pointer (some ⟨b1,0,none⟩)),(2,.pointer (some ⟨b2,0,none⟩)),(3,.pointer (some ⟨s.1,0,none⟩))]:Env)) (λs=>vc 3 (.slice s.2.1 (replicate m (default:Int)).length s.2.2) (replicate m (default:Int))::e8 s.1 [.slice ea es.length ec,.slice none 0 0,.slice s.2.1 (replicate m (default:Int)).length s.2.2,.slice none 0 0,U64 (allB (m:Int)),U64 (0#64)] 211::e8 b2 [.slice none 0 0,.slice none 0 0,.slice none 0 0,.slice none 0 0,.int .u64 0,.int .u64 0] 211::e8 b1 [e7 ((m:Int)),.slice ea es.length ec] 48::I) (λs=>True) ?_ ?_))
 ·refine Bt mixed (C7 10 (Dr 0 C (Ab fld48_1 C) (Dr 1 C (As ty46) ?_)))
  refine Dr 2 C (Ab fld48_0 C) (Dr 3 C (As ef) ?_)
  refine Dr 5 C (Ab fld48_0 C) (Dr 6 C (As ef) ?_)
  refine Dv (rs:=[4,7,9]) kr C C (Ex ?_ (Ex ?_ (En ?_)))
  ·refine Sc0 C (Am call200 C C (MaskAll_ok (m:Int))) ?_
   refine Dv (rs:=[7,9]) kr C C (Ex ?_ (En ?_))
   ·refine Se2 C (Cw (α:=Int) (n:=m) Ad ef C C C om om dc C) λad3 cp4=>?_
    refine Dr 8 C (Bc (cells:=[.slice ea es.length ec,.slice none 0 0,.slice ad3 (replicate m (default:Int)).length cp4,.slice none 0 0,U64 (allB (m:Int)),.int .u64 0]) ty211 Ec pl211 C kr) (Ds1 9 (Se1 C (A9 ty211 C) λb5=>?_))
    refine Dc kr ?_
    refine Ae 10 C (E6 ty211) ?_
    rintro _ _ ⟨rfl,rfl⟩
    refine De kr ?_
    exact Cp ((b5),(ad3),(cp4)) trivial
   ·refine Se1 C (A9 ty211 C) λb6=>?_
    refine Ds1 7 (Se2 C (Cw (α:=Int) (n:=m) Ad ef C C C om om dc C) λad7 cp8=>?_)
    refine Dr 8 C (Bc (cells:=[.slice ea es.length ec,.slice none 0 0,.slice ad7 (replicate m (default:Int)).length cp8,.slice none 0 0,U64 (allB (m:Int)),.int .u64 0]) ty211 Ec pl211 C kr) (Dc kr ?_)
    refine Ae 10 C (E6 ty211) ?_
    rintro _ _ ⟨rfl,rfl⟩
    refine De kr ?_
    exact Cp ((b6),(ad7),(cp8)) trivial
  ·refine Se2 C (Cw (α:=Int) (n:=m) Ad ef C C C om om dc C) λad9 cp10=>?_
   refine Dv (rs:=[4,9]) kr C C (Ex ?_ (En ?_))
   ·refine Sc0 C (Am call200 C C (MaskAll_ok (m:Int))) ?_
    refine Dr 8 C (Bc (cells:=[.slice ea es.length ec,.slice none 0 0,.slice ad9 (replicate m (default:Int)).length cp10,.slice none 0 0,U64 (allB (m:Int)),.int .u64 0]) ty211 Ec pl211 C kr) (Ds1 9 (Se1 C (A9 ty211 C) λb11=>?_))
    refine Dc kr ?_
    refine Ae 10 C (E6 ty211) ?_
    rintro _ _ ⟨rfl,rfl⟩
    refine De kr ?_
    exact Cp ((b11),(ad9),(cp10)) trivial
   ·refine Se1 C (A9 ty211 C) λb12=>?_
    refine Ds1 4 (Sc0 C (Am call200 C C (MaskAll_ok (m:Int))) ?_)
    refine Dr 8 C (Bc (cells:=[.slice ea es.length ec,.slice none 0 0,.slice ad9 (replicate m (default:Int)).length cp10,.slice none 0 0,U64 (allB (m:Int)),.int .u64 0]) ty211 Ec pl211 C kr) (Dc kr ?_)
    refine Ae 10 C (E6 ty211) ?_
    rintro _ _ ⟨rfl,rfl⟩
    refine De kr ?_
    exact Cp ((b12),(ad9),(cp10)) trivial
  ·refine Se1 C (A9 ty211 C) λb13=>?_
   refine Dv (rs:=[4,7]) kr C C (Ex ?_ (En ?_))
   ·refine Sc0 C (Am call200 C C (MaskAll_ok (m:Int))) ?_
    refine Ds1 7 (Se2 C (Cw (α:=Int) (n:=m) Ad ef C C C om om dc C) λad14 cp15=>?_)
    refine Dr 8 C (Bc (cells:=[.slice ea es.length ec,.slice none 0 0,.slice ad14 (replicate m (default:Int)).length cp15,.slice none 0 0,U64 (allB (m:Int)),.int .u64 0]) ty211 Ec pl211 C kr) (Dc kr ?_)
    refine Ae 10 C (E6 ty211) ?_
    rintro _ _ ⟨rfl,rfl⟩
    refine De kr ?_
    exact Cp ((b13),(ad14),(cp15)) trivial
   ·refine Se2 C (Cw (α:=Int) (n:=m) Ad ef C C C om om dc C) λad16 cp17=>?_
    refine Ds1 4 (Sc0 C (Am call200 C C (MaskAll_ok (m:Int))) ?_)
    refine Dr 8 C (Bc (cells:=[.slice ea es.length ec,.slice none 0 0,.slice ad16 (replicate m (default:Int)).length cp17,.slice none 0 0,U64 (allB (m:Int)),.int .u64 0]) ty211 Ec pl211 C kr) (Dc kr ?_)
    refine Ae 10 C (E6 ty211) ?_
    rintro _ _ ⟨rfl,rfl⟩
    refine De kr ?_
    exact Cp ((b13),(ad16),(cp17)) trivial
 ·rintro ⟨pb,ab,cb⟩ hp
  refine Au (Aj (Gf fld48_1 C (Gl ty46 ?_)))
  refine Gr (Bz Bu C) (Gm C (Ah (A6 (Ca (σ:=Nat×(Option Addr)×Nat×(List Int)) (λs=>([(1,.pointer (some ⟨b1,0,none⟩)),(2,.pointer (some ⟨b2,0,none⟩)),(3,.pointer (some ⟨pb,0,none⟩)),(15,e7 ((es.length:Nat):Int)),(16,e7 ((s.1:Nat):Int))]:Env)) (λs=>vc 3 (.slice s.2.1 s.2.2.2.length s.2.2.1) (s.2.2.2)::vc 3 (.slice ab (replicate m (default:Int)).length cb) (replicate m (default:Int))::e8 pb [.slice ea es.length ec,.slice s.2.1 s.2.2.2.length s.2.2.1,.slice ab (replicate m (default:Int)).length cb,.slice none 0 0,U64 (allB (m:Int)),U64 (0#64)] 211::e8 b2 [.slice none 0 0,.slice none 0 0,.slice none 0 0,.slice none 0 0,.int .u64 0,.int .u64 0] 211::e8 b1 [e7 ((m:Int)),.slice ea es.length ec] 48::I) (λs=>(s.1<=es.length)/\(s.2.2.2=replicate s.1 1)) (λs=>es.length - s.1) (0,none,0,[]) ⟨om,rfl⟩ (Aa C (Aa C (Aa C (Aa C (Aa Cr Bq))))) (B9 _ _) ?_))))
  rintro ⟨k,aw,cw,ws⟩ hp
  dsimp only at hp ⊢
  obtain ⟨hk,hws⟩:=hp
  have hwsl:ws.length=k:=by rw [hws,List.length_replicate]
  refine Aj (Gr (Bi C C) (Ah (Au (Bd C (λc17=>?_) (λc17=>?_)))))
  ·refine A4 (Ai (Au (A6 (A0 (Gf fld211_1 C (Gl ty22 ?_))))))
   refine Ge1 (Cj (α:=Int) (cs:=[_]) (xs:=[1]) Ad ef C C dc dc C C C C) λad18=>?_
   refine Ge2 (Cn (α:=Int) (e:=3) (xs:=ws) (ys:=([1]:List Int)) Ad ef C C C mm Bk lcn dc C (λ_ _=>am)) λad19 cp20=>?_
   refine Gf fld211_1 C (Ge0 (Es6_1 ty22) ?_)
   exact Bf (Ak (Ai (A0 (Gr (Rad C C) (Gm C (Bf (Ch ((k+1),(ad19),(cp20),(ws++([1]:List Int))) (by dsimp only;exact ⟨om,(by rw [hws,List.replicate_succ'])⟩))))))))
  ·refine Bp (Ac (Ac (Aw (Ai (Au (Aj (Gf fld48_0 C (Gl ef ?_))))))))
   refine Gm C (Ah (A6 (Ca (σ:=Nat×(Option Addr)×Nat×(List Int)) (λs=>([(2,.pointer (some ⟨b2,0,none⟩)),(3,.pointer (some ⟨pb,0,none⟩)),(25,e7 ((m:Int))),(26,e7 ((s.1:Nat):Int))]:Env)) (λs=>vc 3 (.slice s.2.1 s.2.2.2.length s.2.2.1) (s.2.2.2)::vc 3 (.slice aw ws.length cw) (ws)::vc 3 (.slice ab (replicate m (default:Int)).length cb) (replicate m (default:Int))::e8 pb [.slice ea es.length ec,.slice aw ws.length cw,.slice ab (replicate m (default:Int)).length cb,.slice s.2.1 s.2.2.2.length s.2.2.1,U64 (allB (m:Int)),U64 (0#64)] 211::e8 b2 [.slice none 0 0,.slice none 0 0,.slice none 0 0,.slice none 0 0,.int .u64 0,.int .u64 0] 211::e8 b1 [e7 ((m:Int)),.slice ea es.length ec] 48::I) (λs=>(s.1<=m)/\(s.2.2.2=replicate s.1 1)) (λs=>m - s.1) (0,none,0,[]) ⟨om,rfl⟩ (Aa C (Aa C (Aa C (Aa Cr Bq)))) (B9 _ _) ?_)))
   rintro ⟨k2,ak,ck,cs⟩ hp
   dsimp only at hp ⊢
   obtain ⟨hk2,hcs⟩:=hp
   have hcsl:cs.length=k2:=by rw [hcs,List.length_replicate]
   refine Aj (Gr (Bi C C) (Ah (Au (Bd C (λc27=>?_) (λc27=>?_)))))
   ·refine A4 (Ai (Au (A6 (A0 (Gf fld211_3 C (Gl ty22 ?_))))))
    refine Ge1 (Cj (α:=Int) (cs:=[_]) (xs:=[1]) Ad ef C C dc dc C C C C) λad21=>?_
    refine Ge2 (Cn (α:=Int) (e:=3) (xs:=cs) (ys:=([1]:List Int)) Ad ef C C C mm Bk lcn dc C (λ_ _=>am)) λad22 cp23=>?_
    refine Gf fld211_3 C (Ge0 (Es6_1 ty22) ?_)
    exact Bf (Ak (Ai (A0 (Gr (Rad C C) (Gm C (Bf (Ch ((k2+1),(ad22),(cp23),(cs++([1]:List Int))) (by dsimp only;exact ⟨om,(by rw [hcs,List.replicate_succ'])⟩))))))))
   ·refine Bp (Ac (Ac (Aw (Ai (Aj (Gl6 ty211 ?_))))))
    refine Ge0 (E6 ty211) ?_
    refine Ah (Az ?_)
    have hP:=plainP m es
    have hws2:ws=replicate es.length 1:=by rw [hws,show k=es.length by omega]
    have hcs2:cs=replicate m 1:=by rw [hcs,show k2=m by omega]
    exact Cf C ty211 C mm C (vc 3 (.slice ak cs.length ck) cs::vc 3 (.slice aw ws.length cw) ws::vc 3 (.slice ab (replicate m (default:Int)).length cb) (replicate m (default:Int))::I) Bv ⟨aw,cw,ab,cb,ak,ck,ws,replicate m (default:Int),cs,rfl,by rw [hws2,hcs2];exact hP,rfl⟩
theorem Plain_ok{nd:Int}{ea:Option Addr}{ec:Nat}{es:List Pt}(hl:Sl κ I (.slice ea es.length ec) es)(hm:es.length<=2016)(hr:0<=nd/\nd<=64):eu Tryz.prog κ 169 [.agg #[e7 nd,.slice ea es.length ec]] I λr J=>∃aw cw ab cb ak ck ws bs cs,r = .agg #[.slice ea es.length ec,.slice aw (ws:List Int).length cw,.slice ab (bs:List Int).length cb,.slice ak (cs:List Int).length ck,U64 (allB nd),U64 0#64]/\PlainP nd es ws bs cs/\J=vc 3 (.slice ak cs.length ck) cs::vc 3 (.slice aw ws.length cw) ws::vc 3 (.slice ab bs.length cb) bs::I:=by
 obtain ⟨m,rfl⟩:=Int.eq_ofNat_of_zero_le hr.1
 exact Plain_base hl hm om
end Go.Sl
