/- A part of the proofs of statements of this seat: contracts of functions, and the plain laws that they lean on. No conditions. -/
import Derived.Test.YtnbkccjkdpolmaaGreatDoorA20
set_option linter.unusedVariables false
set_option linter.unusedSimpArgs false
set_option linter.unusedSectionVars false
open Go.Proofs.Tryz (prog)
set_option maxHeartbeats 2000000
namespace Go.Sl
open Go.Proofs
set_option maxRecDepth 4000
variable{K den kd lv mo nd node num tq wd:Int}{ea sa:Option Addr}{ec sc:Nat}{es:List Ev}{S:List Int}
attribute [local irreducible] W G V D A Runs Eff
structure AnV where
 fd:Bool
 num:Int
 tm:Int
 sa:Option Addr
 sc:Nat
 S:List Int
 dn:Int
 dd:Int
 pa:Option Addr
 pc:Nat
 P:List Pt
 oa:Option Addr
 oc:Nat
 O:List Int
 na:Option Addr
 nc:Nat
 N:List Int
 E:Int
 qa:Option Addr
 qc:Nat
 Q:List Int
abbrev AnV.val(A:AnV):Value:= .agg #[.bool A.fd,e7 A.num,e7 A.tm,.slice A.sa A.S.length A.sc,e7 A.dn,e7 A.dd,.slice A.pa A.P.length A.pc,.slice A.oa A.O.length A.oc,.slice A.na A.N.length A.nc,e7 A.E,.slice A.qa A.Q.length A.qc]
abbrev AnV.items(A:AnV)(I:List Item):List Item:=vc 3 (.slice A.sa A.S.length A.sc) A.S::vc 51 (.slice A.pa A.P.length A.pc) A.P::vc 3 (.slice A.oa A.O.length A.oc) A.O::vc 3 (.slice A.na A.N.length A.nc) A.N::vc 3 (.slice A.qa A.Q.length A.qc) A.Q::I
def AnV.is(A:AnV)(fd:Bool)(num:Int)(S:List Int)(dn dd:Int)(P:List Pt):Prop:=A.fd=fd/\A.num=num/\A.S=S/\A.dn=dn/\A.dd=dd/\A.P=P
def AnV.ev(A:AnV)(O N:List Int)(E:Int)(Q:List Int):Prop:=A.O=O/\A.N=N/\A.E=E/\A.Q=Q
def AnV.zero(A:AnV):Prop:=A.is false 0 [] 0 0 []/\A.ev [] [] 0 []/\A.tm=0
theorem nv3{κ:Ctx}(J:List Item):Fit κ J (vc 3 (.slice none ([]:List Int).length 0) ([]:List Int)::J):=Bw 3 J
theorem nvp{κ:Ctx}(J:List Item):Fit κ J (vc 51 (.slice none ([]:List Pt).length 0) ([]:List Pt)::J):=Bw _ J
structure GrP (nd:Int) (es:List Pt) (K node lv:Int) (S:List Int) (A:AnV):Prop where
 k1:K=1->A.is true (e_ (coreN nd es) node) [] 0 0 []/\A.ev (coreO nd es) (coreN nd es) 0 []
 k2:K=2->A.is (decide<|0<(((commG nd es node lv).length:Nat):Int)) 0 (commG nd es node lv) 0 0 []/\A.ev (coreO nd es) (coreN nd es) 0 []
 k3:K=3->∃y,EdgeR nd es S y A.fd A.num A.N A.O/\A.S=[]/\A.dn=0/\A.dd=0/\A.P=[]/\A.E=0/\A.Q=[]
 k4:K=4->A.is true 0 [] (densG nd es S).num (densG nd es S).den []/\A.ev [] [] 0 []
 k5:K=5->(∃B,BestR nd es A.dn A.dd B/\SplitB nd es A.dn A.dd A.E A.Q/\A.S=eo B)/\A.fd=true/\A.num=0/\A.P=[]/\A.O=[]/\A.N=[]
 k6:K=6->bestCl nd es A.S/\A.is true ((A.S.length:Nat):Int) A.S 0 0 []/\A.ev [] [] 0 []
 k7:K=7->A.is true (triS nd es / 3) [] 0 0 []/\A.ev [] [] 0 []
def stepS(N:Int->Int)(X:List Pt)(t:Int):List Pt:=if 0<X.length/\(e_ X ((X.length:Int) - 1)).v=N t then X else X++[⟨t,N t⟩]
def spanK(N:Int->Int)(E:List Ev)(j:Nat):List Pt:=((E.take j).map Ev.tm).foldl (stepS N) (stepS N [] 0)
structure AnsP (nd kd wd mo:Int) (es:List Ev) (K node lv tq:Int) (S:List Int) (num den:Int) (A:AnV):Prop where
 g:K<=7->GrP nd (atG kd wd mo es tq) K node lv S A/\A.tm=0
 k8:K=8->∃tv ok,FirstP kd wd mo es (reachQ nd kd wd mo es num den) tv ok/\(ok=true->GrP nd (atG kd wd mo es tv) 5 0 0 [] A/\A.tm=tv)/\(ok=false->A.zero)
 k9:K=9->∃tv ok,FirstP kd wd mo es (togQ nd kd wd mo es S lv) tv ok/\(ok=true->A.is true 0 (commG nd (atG kd wd mo es tv) (e_ S 0) lv) 0 0 []/\A.ev [] [] 0 []/\A.tm=tv)/\(ok=false->A.zero)
 k10:K=10->A.is true 0 [] 0 0 (spanK (numT nd kd wd mo es node) (allE kd wd mo es) (allE kd wd mo es).length)/\A.ev [] [] 0 []/\A.tm=0
section
variable {N:Int->Int}{X:List Pt}{E:List Ev}{fst own:Bool}{j j1:Nat}{tm t:Int}
theorem stepS_len:0<(stepS N X t).length/\(stepS N X t).length<=X.length+1:=by
 unfold stepS
 split
 ·omega
 simp
theorem stepS_twice:stepS N (stepS N X t) t=stepS N X t:=by
 unfold stepS
 split
 ·rfl
 rw [if_pos]
 refine ⟨by simp,?_⟩
 rw [show (((X++[(⟨t,N t⟩:Pt)]).length:Nat):Int) - 1=((X.length:Nat):Int) by (simp<;>omega),at_last]
theorem spanK_succ(h:j<E.length):spanK N E (j+1)=stepS N (spanK N E j) (e_ E j).tm:=by
 unfold spanK
 rw [Ct E j h,List.map_append,List.foldl_append];rfl
theorem spanK_same(hs:∀i:Nat,j<=i->i<j1->(e_ E i).tm=tm)(M:j1<=E.length):∀d:Nat,j+d<=j1->X=stepS N (spanK N E j) tm->stepS N (spanK N E (j+d)) tm=X
 |0,_,e=>e.symm
 |d+1,h,e=>by
  rw [←Nat.add_assoc,spanK_succ om,hs (j+d) om om,stepS_twice]
  exact spanK_same hs M d om e
theorem span_mom(M:MomentX E fst j tm own j1)(hq:(fst=true->X=[])/\(fst=false->X=spanK N E j)):stepS N X tm=spanK N E j1:=by
 have hl:=M.le
 cases hf:fst with
 |true=>
  obtain ⟨e1,e2⟩:=M.first hf
  subst e1 e2
  rw [hq.1 hf]
  have aa:∀d:Nat,d<=j1->spanK N E d=stepS N [] 0:=λd=>by
   induction d with
   |zero=>intro _;rfl
   |succ d ih=>
    intro h
    rw [spanK_succ om,ih om,M.same d om om,stepS_twice]
  exact (aa j1<|Nat.le_refl _).symm
 |false=>
  have ab:=M.adv hf
  rw [hq.2 hf,←spanK_same (N:=N) (λi h1 h2=>M.same i h1 h2) hl.2 (j1 - 1 - j) om rfl,show j+(j1 - 1 - j)=j1 - 1 by omega]
  have:=spanK_succ (N:=N) (E:=E) (j:=j1 - 1) om
  rw [show j1 - 1+1=j1 by omega,M.same (j1 - 1) om om] at this
  exact this.symm
theorem spanK_len:∀j:Nat,j<=E.length->0<(spanK N E j).length/\(spanK N E j).length<=j+1
 |0,_=>by have:=stepS_len (N:=N) (X:=[]) (t:=0);exact ⟨this.1,this.2⟩
 |j+1,h=>by
  rw [spanK_succ om]
  have h1:=stepS_len (N:=N) (X:=spanK N E j) (t:=(e_ E j).tm)
  have M:=spanK_len j om
  omega
theorem spanq_len(hM:MomentX E fst j tm own j1)(M:E.length<=57)(hq:(fst=true->X=[])/\(fst=false->X=spanK N E j)):X.length<=58:=by
 have h1:=hM.le
 cases hf:fst with
 |true=>rw [hq.1 hf];simp
 |false=>
  rw [hq.2 hf]
  have:=(spanK_len (N:=N) (E:=E) j om).2
  omega
end
theorem AHistF_ok{κ:Ctx}{I:List Item}{v:Int}(hl:Sl κ I (.slice ea es.length ec) es)(hH:HistOk nd kd wd mo es)(hlen:es.length<=19)(hv:0<=v/\v<nd)(hT:TabRd κ I 0 tzCells):eu prog κ 31 [e7 nd,.slice ea es.length ec,.agg #[e7 kd,e7 wd,e7 mo],e7 v] I (λr J=>∃a c X,r = .tuple #[.slice a X.length c,e7 0]/\X=spanK (numT nd kd wd mo es v) (allE kd wd mo es) (allE kd wd mo es).length/\J=vc 51 (.slice a X.length c) X::I):=by
 have az:(allE kd wd mo es).length<=57:=allE_len hH hlen
 refine eu.enterM (L:=[(0,e7 nd),(1,.slice ea es.length ec),(2,.agg #[e7 kd,e7 wd,e7 mo]),(3,e7 v)]) Tryz.func31 C C C C ?_
 refine Ar<|Ge1 (Al (cs:=[_,_,_]) C C C) λb1=>Ge1 (Al (cs:=[_]) C C C) λb2=>Ge1 (Am ty38 C) λb3=>Ge1 (Am ty43 C) λb4=>Z ?_
 refine Gc0 (Ac c_ C C<|ACheck_ok (nd:=nd) (kd:=kd) (wd:=wd) (mo:=mo)<|Au hl)<|Z ?_
 refine Ap C (λa4=>?_)<|λa4=>Z ?_
 ·exact absurd (slideE_zeroH hH) a4
 refine A6 (d:=25) C (λbc=>?_)<|λbc=>Z ?_
 ·omega
 refine Z ?_
 refine Bg (S7 29 9 8 7 6 0 1 C C C C C C C)<|Ap C (λa9=>?_)<|λa9=>?_
 ·omega
 refine Bt<|Ay<|Ar<|Ge1 (Am ty38 C) λb5=>As<|A5<|Ar<|Gm C<|Gm C<|Gl3 ty31 ?_
 refine G.e (Ac c_ C C Frames_ok) ?_
 rintro _ _ ⟨_,_,⟨aa,ad,ab,rfl,rfl⟩,rfl,rfl⟩
 refine As<|Bk<|W.fit (J:=e8 b5 [.slice none 0 0] 38::vc 51 (.slice none 0 0) (([]:List Pt))::e8 ab [e7 kd,e7 wd,e7 mo] 31::e8 ad [.slice ea es.length ec] 28::e8 aa [e7 nd] 3::e8 b4 [e7 0] 43::e8 b3 [.slice none 0 0] 38::e8 b2 [e7 v] 3::e8 b1 [e7 kd,e7 wd,e7 mo] 31::I) (Ak (Bw (α:=Pt) 51 _) Bb) ?_
 refine W.rangeFnB (gf:=131) (lb:=[.pointer (some ⟨aa,0,none⟩),.pointer<|some ⟨ad,0,none⟩,.pointer<|some ⟨ab,0,none⟩]) C c_ λDm l rc ae a0 ba a8 bb=>?_
 refine (Frames1_ok (I:=e8 ab [e7 kd,e7 wd,e7 mo] 31::e8 ad [.slice ea es.length ec] 28::e8 aa [e7 nd] 3::e8 b4 [e7 0] 43::e8 b3 [.slice none 0 0] 38::e8 b2 [e7 v] 3::e8 b1 [e7 kd,e7 wd,e7 mo] 31::I) (σ:=(Option Addr)×Nat×(List Pt)) (τ:=Nat) (l:=l) (Lf:=λs=>[recI l rc,dfrI Dm,e8 b5 [.slice s.1 s.2.2.length s.2.1] 38,vc 51 (.slice s.1 s.2.2.length s.2.1)<|s.2.2]) (Pf:=λfst j s=>((fst=true->s.2.2=[])/\(fst=false->s.2.2=spanK (numT nd kd wd mo es v) (allE kd wd mo es) j))) (Xf:=λs=>[recI l {rc with state:= .done,pending:=some .ret},dfrI Dm,e8 b5 [.slice none 0 0] 38]) (Qf:=λs=>(False)) (s0:=(none,0,([]:List Pt))) hH hlen (Cw mm) (Cw mm) (Cw mm) (Au hl) ⟨λ_=>rfl,λh=>(by cases h)⟩ ?_).mono ?_
 ·rintro T ax fst j tm own j1 ga gc hM ⟨a,c,X⟩ hp
  have hq:((fst=true->X=[])/\(fst=false->X=spanK (numT nd kd wd mo es v) (allE kd wd mo es) j)):=hp
  have aw:BlkRd κ T b2 [e7 v] 3:=(Cw (I:=e8 ab [e7 kd,e7 wd,e7 mo] 31::e8 ad [.slice ea es.length ec] 28::e8 aa [e7 nd] 3::e8 b4 [e7 0] 43::e8 b3 [.slice none 0 0] 38::e8 b2 [e7 v] 3::e8 b1 [e7 kd,e7 wd,e7 mo] 31::I) mm).fit ax
  have a7:TabRd κ T 0 tzCells:=(A8 (J:=e8 ab [e7 kd,e7 wd,e7 mo] 31::e8 ad [.slice ea es.length ec] 28::e8 aa [e7 nd] 3::e8 b4 [e7 0] 43::e8 b3 [.slice none 0 0] 38::e8 b2 [e7 v] 3::e8 b1 [e7 kd,e7 wd,e7 mo] 31::I) hT Ah).fit ax
  have ay:=mom_graph hH hM
  have a1:GrOk nd (edgesK<|eh<|(allE kd wd mo es).take j1):=by rw [ay];exact hH.graph tm
  have a6:=checkG_ok.2 a1
  have bk:=coreN_lenG a1
  have M:e_ (coreN nd<|edgesK<|eh<|(allE kd wd mo es).take j1) v=(numT nd kd wd mo es v) tm:=by rw [ay];rfl
  have bj:X.length<=58:=spanq_len hM az hq
  refine YieldB.fit (J:=recI l rc::vc 95 (.slice ga (edgesK<|eh<|(allE kd wd mo es).take j1).length gc) (edgesK<|eh<|(allE kd wd mo es).take j1)::dfrI Dm::e8 b5 [.slice a X.length c] 38::vc 51 (.slice a X.length c) (X)::T) Bb ?_
  refine YieldB.mkA (L₀:=[(35,.agg #[e7 nd,.slice ga (edgesK<|eh<|(allE kd wd mo es).take j1).length gc]),(34,.agg #[e7 tm,.bool own]),(33,.func (.func 131) #[] #[.pointer (some ⟨aa,0,none⟩),.pointer<|some ⟨ad,0,none⟩,.pointer<|some ⟨ab,0,none⟩]),(32,.agg #[e7 kd,e7 wd,e7 mo]),(31,.slice ea es.length ec),(30,e7 nd),(11,.pointer<|some ⟨b5,0,none⟩),(29,.bool<|decide<|nd<=v),(9,.pointer<|some ⟨b4,0,none⟩),(8,.pointer<|some ⟨b3,0,none⟩),(7,.pointer<|some ⟨b2,0,none⟩),(6,.pointer<|some ⟨b1,0,none⟩),(0,e7 nd),(1,.slice ea es.length ec)]) (by rw [a0];rfl) ba a8 (by rw [a0,fold_two];exact ag_two bb C C) ?_
  refine Ex ?_
  refine Dp (λ_ _ h=>False.elim h) C ?_
  refine Ge1 (Am ty115 C) λb9=>Ge0 (Cf ty115) ?_
  refine Bi<|D9 ?_
  refine Fk (L':=[(12,_),(35,_),(11,_),(9,_),(8,_),(7,_)]) (Ab C<|Ab C<|Ab C<|Ab C<|Ab C<|Ab C Bs) ?_
  refine Dp (λ_ _ h=>False.elim h) C ?_
  refine Ge1 (Am ty56 C) λav=>Ge0 (Cf ty56) ?_
  refine Bi<|V.begin (e8 av [e7 nd,.slice ga (edgesK<|eh<|(allE kd wd mo es).take j1).length gc] 56::e8 b9 [e7 tm,.bool own] 115::vc 95 (.slice ga (edgesK<|eh<|(allE kd wd mo es).take j1).length gc) (edgesK<|eh<|(allE kd wd mo es).take j1)::dfrI Dm::e8 b5 [.slice a X.length c] 38::vc 51 (.slice a X.length c) (X)::T) Bb ae ?_
  refine WR.block ?_
  refine Ex ?_
  refine Dp (λ_ _ h=>False.elim h) C<|Z ?_
  refine Gc2 (Ac c_ C C<|CNumbers_ok (nd:=nd) A7<|A8 a7 Ah) λar au=>Z ?_
  refine D9 ?_
  refine Fk (L':=[(15,_),(14,_),(12,_),(11,_),(9,_),(8,_),(7,_)]) (Ab C<|Ab C<|Ab C<|Ab C<|Ab C<|Ab C<|Ab C Bs) ?_
  refine Ex ?_
  refine Ex ?_
  refine Dp (λ_ _ h=>False.elim h) C<|Z ?_
  refine D9 ?_
  refine WR.ite C (λa5=>?_)<|λa5=>?_
  ·exact absurd a6 a5
  refine WR.skip ?_
  refine D9 ?_
  refine Ex ?_
  refine WR.drawn mixed (λ_ _ h=>False.elim h) C ?_
  refine Cr 17<|Z ?_
  refine Du (d:=47) C (λbe=>Z ?_)<|λbe=>?_
  ·refine D9 ?_
   refine Fk (L':=[(60,_),(14,_),(12,_),(11,_),(7,_)]) (Ab C<|Ab C<|Ab C<|Ab C<|Ab C Bs) ?_
   refine WR.yes C ?_
   refine WR.drawn mixed (λ_ _ h=>False.elim h) C ?_
   refine Cm (vc 3 (.slice ar (coreN nd<|edgesK<|eh<|(allE kd wd mo es).take j1).length au) (coreN nd<|edgesK<|eh<|(allE kd wd mo es).take j1)::recI l {rc with state:= .busy}::e8 av [e7 nd,.slice ga (edgesK<|eh<|(allE kd wd mo es).take j1).length gc] 56::e8 b9 [e7 tm,.bool own] 115::vc 95 (.slice ga (edgesK<|eh<|(allE kd wd mo es).take j1).length gc) (edgesK<|eh<|(allE kd wd mo es).take j1)::dfrI Dm::T) 11<|Dr 1 C (Ad fld115_0 C)<|Z ?_
   refine Dr 4 C (Cs ef C (Co aw Ah) C)<|Z ?_
   refine C0 (rs:=[0,8]) kr C C<|D6 ?_<|Dv ?_
   ·refine Sr C (Ax ty38) Aj ?_
    refine Ds1 8<|Se1 C (B9 (α:=Pt) (cs:=[_,_]) (xs:=[⟨tm,e_ (coreN nd<|edgesK<|eh<|(allE kd wd mo es).take j1) v⟩]) C1 ty51 C C dc dc C C C C) λbg=>?_
    refine Ds1 9<|Se2 C (B4 (α:=Pt) (e:=51) (xs:=X) (ys:=([⟨tm,e_ (coreN nd<|edgesK<|eh<|(allE kd wd mo es).take j1) v⟩]:List Pt)) C1 ty51 C C C mm A7 lcn dc C<|λ_ _=>am) λan ao=>?_
    refine Ds1 10<|Se0 C (A3 (cs:=[_]) (vs:=[_]) (cs':=[_]) ty38) ?_
    exact Dz<|Av<|E5 (dfrI Dm::e8 b5 [.slice an (X++([⟨tm,e_ (coreN nd<|edgesK<|eh<|(allE kd wd mo es).take j1) v⟩]:List Pt)).length ao] 38::vc 51 (.slice an (X++([⟨tm,e_ (coreN nd<|edgesK<|eh<|(allE kd wd mo es).take j1) v⟩]:List Pt)).length ao) ((X++([⟨tm,e_ (coreN nd<|edgesK<|eh<|(allE kd wd mo es).take j1) v⟩]:List Pt)))::T) Bb ae<|.inl ⟨rfl,(an,ao,X++([⟨tm,e_ (coreN nd<|edgesK<|eh<|(allE kd wd mo es).take j1) v⟩]:List Pt)),(show ((false=true->(X++([⟨tm,e_ (coreN nd<|edgesK<|eh<|(allE kd wd mo es).take j1) v⟩]:List Pt))=[])/\(false=false->(X++([⟨tm,e_ (coreN nd<|edgesK<|eh<|(allE kd wd mo es).take j1) v⟩]:List Pt))=spanK (numT nd kd wd mo es v) (allE kd wd mo es) j1)) from ⟨(λh=>by cases h),λ_=>by have hS:=span_mom (N:=(numT nd kd wd mo es v)) hM hq;rw [←hS];unfold stepS;rw [if_neg (by first|exact λh=>absurd h.1 om|exact λh=>absurd (M.trans h.2.symm).symm asm|(rintro ⟨h,h2⟩;omega)),M]⟩),rfl⟩
   refine Se1 C (B9 (α:=Pt) (cs:=[_,_]) (xs:=[⟨tm,e_ (coreN nd<|edgesK<|eh<|(allE kd wd mo es).take j1) v⟩]) C1 ty51 C C dc dc C C C C) λbf=>?_
   refine Ds1 0<|Sr C (Ax ty38) Aj ?_
   refine Ds1 9<|Se2 C (B4 (α:=Pt) (e:=51) (xs:=X) (ys:=([⟨tm,e_ (coreN nd<|edgesK<|eh<|(allE kd wd mo es).take j1) v⟩]:List Pt)) C1 ty51 C C C mm A7 lcn dc C<|λ_ _=>am) λaj ah=>?_
   refine Ds1 10<|Se0 C (A3 (cs:=[_]) (vs:=[_]) (cs':=[_]) ty38) ?_
   exact Dz<|Av<|E5 (dfrI Dm::e8 b5 [.slice aj (X++([⟨tm,e_ (coreN nd<|edgesK<|eh<|(allE kd wd mo es).take j1) v⟩]:List Pt)).length ah] 38::vc 51 (.slice aj (X++([⟨tm,e_ (coreN nd<|edgesK<|eh<|(allE kd wd mo es).take j1) v⟩]:List Pt)).length ah) ((X++([⟨tm,e_ (coreN nd<|edgesK<|eh<|(allE kd wd mo es).take j1) v⟩]:List Pt)))::T) Bb ae<|.inl ⟨rfl,(aj,ah,X++([⟨tm,e_ (coreN nd<|edgesK<|eh<|(allE kd wd mo es).take j1) v⟩]:List Pt)),⟨(λh=>by cases h),λ_=>by have hS:=span_mom (N:=(numT nd kd wd mo es v)) hM hq;rw [←hS];unfold stepS;rw [if_neg (by first|exact λh=>absurd h.1 om|exact λh=>absurd (M.trans h.2.symm).symm asm|(rintro ⟨h,h2⟩;omega)),M]⟩,rfl⟩
  refine Dro 4 C (Ax ty38)<|Z ?_
  refine Dro 12 C (Cs ef C (Co aw Ah) C)<|Z ?_
  refine D9 ?_
  refine Fk (L':=[(60,_),(14,_),(12,_),(11,_),(7,_)]) (Ab C<|Ab C<|Ab C<|Ab C<|Ab C Bs) ?_
  refine WR.ite C (λa3=>?_)<|λa3=>?_
  ·refine WR.drawn mixed (λ_ _ h=>False.elim h) C ?_
   refine Cm (vc 3 (.slice ar (coreN nd<|edgesK<|eh<|(allE kd wd mo es).take j1).length au) (coreN nd<|edgesK<|eh<|(allE kd wd mo es).take j1)::recI l {rc with state:= .busy}::e8 av [e7 nd,.slice ga (edgesK<|eh<|(allE kd wd mo es).take j1).length gc] 56::e8 b9 [e7 tm,.bool own] 115::vc 95 (.slice ga (edgesK<|eh<|(allE kd wd mo es).take j1).length gc) (edgesK<|eh<|(allE kd wd mo es).take j1)::dfrI Dm::T) 11<|Dr 1 C (Ad fld115_0 C)<|Dr 2 C (Ax ef) ?_
   refine Dr 3 C (Af C)<|Dr 4 C (Cs ef C (Co aw Ah) C)<|Dr 5 C (Az (α:=Int) (xs:=coreN nd (edgesK<|eh<|(allE kd wd mo es).take j1)) Aa ef C C A7 om om)<|Dr 6 C (Bj (xs:=coreN nd (edgesK<|eh<|(allE kd wd mo es).take j1)) ef C A7 om om)<|Dr 7 C (Br (cells:=[_,_]) ty51 Tryz.underlying51 pl51 C C)<|C0 (rs:=[0,8]) kr C C<|D6 ?_<|Dv ?_
   ·refine Sr C (Ax ty38) Aj ?_
    refine Ds1 8<|Se1 C (B9 (α:=Pt) (cs:=[_,_]) (xs:=[⟨tm,e_ (coreN nd<|edgesK<|eh<|(allE kd wd mo es).take j1) v⟩]) C1 ty51 C C dc dc C C C C) λbh=>?_
    refine Ds1 9<|Se2 C (B4 (α:=Pt) (e:=51) (xs:=X) (ys:=([⟨tm,e_ (coreN nd<|edgesK<|eh<|(allE kd wd mo es).take j1) v⟩]:List Pt)) C1 ty51 C C C mm A7 lcn dc C<|λ_ _=>am) λak aq=>?_
    refine Ds1 10<|Se0 C (A3 (cs:=[_]) (vs:=[_]) (cs':=[_]) ty38) ?_
    exact Dz<|Av<|E5 (dfrI Dm::e8 b5 [.slice ak (X++([⟨tm,e_ (coreN nd<|edgesK<|eh<|(allE kd wd mo es).take j1) v⟩]:List Pt)).length aq] 38::vc 51 (.slice ak (X++([⟨tm,e_ (coreN nd<|edgesK<|eh<|(allE kd wd mo es).take j1) v⟩]:List Pt)).length aq) ((X++([⟨tm,e_ (coreN nd<|edgesK<|eh<|(allE kd wd mo es).take j1) v⟩]:List Pt)))::T) Bb ae<|.inl ⟨rfl,(ak,aq,X++([⟨tm,e_ (coreN nd<|edgesK<|eh<|(allE kd wd mo es).take j1) v⟩]:List Pt)),(show ((false=true->(X++([⟨tm,e_ (coreN nd<|edgesK<|eh<|(allE kd wd mo es).take j1) v⟩]:List Pt))=[])/\(false=false->(X++([⟨tm,e_ (coreN nd<|edgesK<|eh<|(allE kd wd mo es).take j1) v⟩]:List Pt))=spanK (numT nd kd wd mo es v) (allE kd wd mo es) j1)) from ⟨(λh=>by cases h),λ_=>by have hS:=span_mom (N:=(numT nd kd wd mo es v)) hM hq;rw [←hS];unfold stepS;rw [if_neg (by first|exact λh=>absurd h.1 om|exact λh=>absurd (M.trans h.2.symm).symm asm|(rintro ⟨h,h2⟩;omega)),M]⟩),rfl⟩
   refine Se1 C (B9 (α:=Pt) (cs:=[_,_]) (xs:=[⟨tm,e_ (coreN nd<|edgesK<|eh<|(allE kd wd mo es).take j1) v⟩]) C1 ty51 C C dc dc C C C C) λbi=>?_
   refine Ds1 0<|Sr C (Ax ty38) Aj ?_
   refine Ds1 9<|Se2 C (B4 (α:=Pt) (e:=51) (xs:=X) (ys:=([⟨tm,e_ (coreN nd<|edgesK<|eh<|(allE kd wd mo es).take j1) v⟩]:List Pt)) C1 ty51 C C C mm A7 lcn dc C<|λ_ _=>am) λap ai=>?_
   refine Ds1 10<|Se0 C (A3 (cs:=[_]) (vs:=[_]) (cs':=[_]) ty38) ?_
   exact Dz<|Av<|E5 (dfrI Dm::e8 b5 [.slice ap (X++([⟨tm,e_ (coreN nd<|edgesK<|eh<|(allE kd wd mo es).take j1) v⟩]:List Pt)).length ai] 38::vc 51 (.slice ap (X++([⟨tm,e_ (coreN nd<|edgesK<|eh<|(allE kd wd mo es).take j1) v⟩]:List Pt)).length ai) ((X++([⟨tm,e_ (coreN nd<|edgesK<|eh<|(allE kd wd mo es).take j1) v⟩]:List Pt)))::T) Bb ae<|.inl ⟨rfl,(ap,ai,X++([⟨tm,e_ (coreN nd<|edgesK<|eh<|(allE kd wd mo es).take j1) v⟩]:List Pt)),⟨(λh=>by cases h),λ_=>by have hS:=span_mom (N:=(numT nd kd wd mo es v)) hM hq;rw [←hS];unfold stepS;rw [if_neg (by first|exact λh=>absurd h.1 om|exact λh=>absurd (M.trans h.2.symm).symm asm|(rintro ⟨h,h2⟩;omega)),M]⟩,rfl⟩
  refine WR.skip ?_
  exact Av<|E5 (dfrI Dm::e8 b5 [.slice a X.length c] 38::vc 51 (.slice a X.length c) (X)::T) Bb ae<|.inl ⟨rfl,(a,c,X),⟨(λh=>by cases h),λ_=>by have hS:=span_mom (N:=(numT nd kd wd mo es v)) hM hq;rw [←hS];unfold stepS;rw [if_pos ⟨by omega,by rw [←M];exact Classical.not_not.1 a3⟩]⟩,rfl⟩
 rintro v K ⟨rfl,(⟨⟨a,c,X⟩,hp,rfl⟩|⟨z_,hp,rfl⟩)⟩
 ·have hq:((false=true->X=[])/\(false=false->X=spanK (numT nd kd wd mo es v) (allE kd wd mo es) (allE kd wd mo es).length)):=hp
  refine .inl ⟨_,rfl,?_⟩
  show V κ _ _ .normal ([(33,.func (.func 131) #[] #[.pointer (some ⟨aa,0,none⟩),.pointer<|some ⟨ad,0,none⟩,.pointer<|some ⟨ab,0,none⟩]),(32,.agg #[e7 kd,e7 wd,e7 mo]),(31,.slice ea es.length ec),(30,e7 nd),(11,.pointer<|some ⟨b5,0,none⟩),(29,.bool<|decide<|nd<=v),(9,.pointer<|some ⟨b4,0,none⟩),(8,.pointer<|some ⟨b3,0,none⟩),(7,.pointer<|some ⟨b2,0,none⟩),(6,.pointer<|some ⟨b1,0,none⟩),(0,e7 nd),(1,.slice ea es.length ec)]:Env) (dfrI Dm::e8 b5 [.slice a X.length c] 38::vc 51 (.slice a X.length c) (X)::e8 ab [e7 kd,e7 wd,e7 mo] 31::e8 ad [.slice ea es.length ec] 28::e8 aa [e7 nd] 3::e8 b4 [e7 0] 43::e8 b3 [.slice none 0 0] 38::e8 b2 [e7 v] 3::e8 b1 [e7 kd,e7 wd,e7 mo] 31::I)
  have hX:=hq.2 rfl
  refine Z ?_
  refine Ge0 (A3 (cs:=[_]) (vs:=[_]) (cs':=[_]) ty38) ?_
  refine Ge0 (A3 (cs:=[_]) (vs:=[_]) (cs':=[_]) ty43) ?_
  refine As<|Bf<|V.fit (J:=dfrI Dm::e8 b5 [.slice a X.length c] 38::vc 51 (.slice a X.length c) (X)::e8 ab [e7 kd,e7 wd,e7 mo] 31::e8 ad [.slice ea es.length ec] 28::e8 aa [e7 nd] 3::e8 b4 [e7 0] 43::e8 b3 [.slice a X.length c] 38::e8 b2 [e7 v] 3::e8 b1 [e7 kd,e7 wd,e7 mo] 31::I) Bb<|V.leave ?_
  exact V.retvv C ty38 ty43 C C mm mm (vc 51 (.slice a X.length c) X::I) Bb ⟨a,c,X,rfl,hX,rfl⟩
 have hQ:(False):=hp
 refine .inr ⟨_,_,rfl,?_⟩
 refine Z ?_
 exact hQ.elim
variable {κ:Ctx}{I:List Item}
theorem AEdgeG_ok{es:List Pt}(hl:Sl κ I (.slice ea es.length ec) es)(hG:GrOk nd es)(hT:TabRd κ I 0 tzCells)(hs:Sl κ I (.slice sa S.length sc) S)(hv:ValidP S nd)(h2:S.length=2):eu prog κ 63 [.agg #[e7 nd,.slice ea es.length ec],.agg #[e7 3,e7 node,e7 lv,e7 tq,.slice sa S.length sc,e7 num,e7 den]] I (λr J=>∃(y:Int) (fd:Bool) (num:Int) (a:Option Addr) (c:Nat) (Nl:List Int) (a2:Option Addr) (c2:Nat) (Ol:List Int),r = .agg #[.bool fd,e7 num,e7 0,.slice none 0 0,e7 0,e7 0,.slice none 0 0,.slice a2 Ol.length c2,.slice a Nl.length c,e7 0,.slice none 0 0]/\EdgeR nd es S y fd num Nl Ol/\J=vc 3 (.slice a Nl.length c) Nl::vc 3 (.slice a2 Ol.length c2) Ol::I):=by
 have ai:=edges_le hG
 refine Ce2 Tryz.func63 C C ?_
 refine Ar<|Ge1 (Al (cs:=[_,_]) C C C) λb1=>Ge1 (Al (cs:=[_,_,_,_,_,_,_]) C C C) λb2=>Ge1 (Am ty42 C) λb3=>As<|A5<|A4 mixed<|Cr 11<|Z ?_
 refine Ds1 9<|Se C (Ac c_ C C<|FindG_ok (nd:=nd) (Au hl) (e_ S 0) (e_ S 1) om) ?_
 rintro _ _ ⟨_,_,⟨y4,rfl,M,rfl⟩,rfl,rfl⟩
 refine ⟨Aj,?_⟩
 refine Z ?_
 have aj:y4<(trussG nd es).length:=find_lt hG M
 refine Z ?_
 refine Ap C (λah=>Z ?_)<|λah=>Z ?_
 ·refine Ge0 (A3 (cs:=[_,_,_,_,_,_,_,_,_,_,_]) (vs:=[_,_,_,_,_,_,_,_,_,_,_]) (cs':=[_,_,_,_,_,_,_,_,_,_,_]) ty42) ?_
  exact As<|Bf<|Bq<|B0 C ty42 C mm C (vc 3 (.slice none ([]:List Int).length 0) ([]:List Int)::vc 3 (.slice none ([]:List Int).length 0) ([]:List Int)::I) (Ak (show Fit κ _ I from Ah)<|Ak (Bw (α:=Int) 3 _)<|Bw (α:=Int) 3 _) ⟨y4,false,0,none,0,[],none,0,[],rfl,⟨M,(decide_eq_false om).symm,λ_=>⟨rfl,rfl,rfl⟩,λh=>by omega⟩,rfl⟩
 refine G.e (Ac c_ C C<|TNumbers_ok (nd:=nd) (Au hl) om<|A8 hT Ah) ?_
 rintro _ _ ⟨_,_,⟨ad,ab,rfl,rfl⟩,rfl,rfl⟩
 refine Z ?_
 refine Gc2 (Ac c_ C C<|TOrder_ok (nd:=nd) (Au hl) hG<|A8 hT Ah) λae aa=>Z ?_
 refine Ge0 (A3 (cs:=[_,_,_,_,_,_,_,_,_,_,_]) (vs:=[_,_,_,_,_,_,_,_,_,_,_]) (cs':=[_,_,_,_,_,_,_,_,_,_,_]) ty42) ?_
 exact As<|Bf<|B0 C ty42 C mm C (vc 3 (.slice ad (trussG nd es).length ab) (trussG nd es)::vc 3 (.slice ae (trussO<|trisE nd es).length aa) (trussO<|trisE nd es)::I) Bb ⟨y4,true,e_ (trussG nd es) y4,ad,ab,trussG nd es,ae,aa,trussO<|trisE nd es,rfl,⟨M,(decide_eq_true om).symm,λh=>by omega,λ_=>⟨rfl,rfl,rfl⟩⟩,rfl⟩
theorem AnsU1_ok(hl:Sl κ I (.slice ea es.length ec) es)(hs:Sl κ I (.slice sa S.length sc) S)(hH:HistOk nd kd wd mo es)(hlen:es.length<=19)(h7:nd<=7)(hq:QV nd 1 node lv tq S num den)(hT:TabRd κ I 0 tzCells):eu prog κ 57 [.agg #[e7 nd,.slice ea es.length ec,e7 kd,e7 wd,e7 mo],.agg #[e7 1,e7 node,e7 lv,e7 tq,.slice sa S.length sc,e7 num,e7 den]] I (λr J=>∃A:AnV,r=A.val/\AnsP nd kd wd mo es 1 node lv tq S num den A/\J=AnV.items A I):=by
 have ht:=hq.time rfl
 have hn:=hq.node rfl
 refine Ce2 Tryz.func57 C C ?_
 refine Ar<|Ge1 (Al (cs:=[_,_,_,_,_]) C C C) λb1=>Ge1 (Al (cs:=[_,_,_,_,_,_,_]) C C C) λb2=>Ge1 (Am ty42 C) λb3=>Z ?_
 refine Gc2 (Ac c_ C C<|PAt_ok (nd:=nd) (kd:=kd) (wd:=wd) (mo:=mo) (tq:=tq) (Au hl) hH hlen ht) λae ah=>Z ?_
 refine G.e (Ac c_ C C<|Proved_ok (nd:=nd) (n0:=0) (fb:=true) A7 (hH.graph _)<|A8 hT Ah) ?_
 rintro _ _ ⟨_,_,⟨ab,M,ad,aa,rfl,rfl⟩,rfl,rfl⟩
 refine Ge1 (Am ty42 C) λai=>Ge0 (A3 (cs:=[_,_,_,_,_,_,_,_,_,_,_]) (vs:=[_,_,_,_,_,_,_,_,_,_,_]) (cs':=[_,_,_,_,_,_,_,_,_,_,_]) ty42)<|Z ?_
 refine Gr (Az Aa ef C C A7 om<|by have h9:=coreN_lenG (hH.graph tq);omega)<|Gr (Bj ef C A7 om<|by have h9:=coreN_lenG (hH.graph tq);omega)<|Gf fld42_1 C<|Ge0 (A3 (cs:=[_,_,_,_,_,_,_,_,_,_,_]) (vs:=[_]) (cs':=[_,_,_,_,_,_,_,_,_,_,_]) ef)<|Z ?_
 refine Ge0 (A3 (cs:=[_,_,_,_,_,_,_,_,_,_,_]) (vs:=[_,_,_,_,_,_,_,_,_,_,_]) (cs':=[_,_,_,_,_,_,_,_,_,_,_]) ty42) ?_
 exact As<|Bf<|B0 C ty42 C mm C (AnV.items (⟨true,e_ (coreN nd<|atG kd wd mo es tq) node,0,none,0,[],0,0,none,0,[],ad,aa,coreO nd<|atG kd wd mo es tq,ab,M,coreN nd<|atG kd wd mo es tq,0,none,0,[]⟩:AnV) I) (Ak (Ak (Ak (Ak Bb<|nv3 _)<|nvp _)<|nv3 _) Bb) ⟨(⟨true,e_ (coreN nd<|atG kd wd mo es tq) node,0,none,0,[],0,0,none,0,[],ad,aa,coreO nd<|atG kd wd mo es tq,ab,M,coreN nd<|atG kd wd mo es tq,0,none,0,[]⟩:AnV),rfl,(by constructor<;>intro h<;>first|exact absurd h dc|exact ⟨(by constructor<;>intro h<;>first|exact absurd h dc|exact ⟨⟨rfl,rfl,rfl,rfl,rfl,rfl⟩,⟨rfl,rfl,rfl,rfl⟩⟩),rfl⟩),rfl⟩
theorem AnsU2_ok(hl:Sl κ I (.slice ea es.length ec) es)(hs:Sl κ I (.slice sa S.length sc) S)(hH:HistOk nd kd wd mo es)(hlen:es.length<=19)(h7:nd<=7)(hq:QV nd 2 node lv tq S num den)(hT:TabRd κ I 0 tzCells):eu prog κ 60 [.agg #[e7 nd,.slice ea es.length ec,e7 kd,e7 wd,e7 mo],.agg #[e7 2,e7 node,e7 lv,e7 tq,.slice sa S.length sc,e7 num,e7 den]] I (λr J=>∃A:AnV,r=A.val/\AnsP nd kd wd mo es 2 node lv tq S num den A/\J=AnV.items A I):=by
 have ht:=hq.time rfl
 have hn:=hq.node rfl
 have ak:=hq.level rfl
 refine Ce2 Tryz.func60 C C ?_
 refine Ar<|Ge1 (Al (cs:=[_,_,_,_,_]) C C C) λb1=>Ge1 (Al (cs:=[_,_,_,_,_,_,_]) C C C) λb2=>Ge1 (Am ty42 C) λb3=>Z ?_
 refine Gc2 (Ac c_ C C<|PAt_ok (nd:=nd) (kd:=kd) (wd:=wd) (mo:=mo) (tq:=tq) (Au hl) hH hlen ht) λai aj=>?_
 refine Ge1 (Am ty56 C) λb6=>Ge0 (Cf ty56)<|Z ?_
 refine G.e (Ac c_ C C<|Comm_ok (nd:=nd) (v:=node) (lv:=lv) A7 (hH.graph _) hn<|A8 hT Ah) ?_
 rintro _ _ ⟨_,_,⟨ah,ae,rfl,rfl⟩,rfl,rfl⟩
 refine Z ?_
 refine G.e (Ac c_ C C<|Proved_ok (nd:=nd) (n0:=0) (fb:=(decide<|0<(((commG nd (atG kd wd mo es tq) node lv).length:Nat):Int))) A7 (hH.graph _)<|A8 hT Ah) ?_
 rintro _ _ ⟨_,_,⟨ad,ab,M,aa,rfl,rfl⟩,rfl,rfl⟩
 refine Ge0 (A3 (cs:=[_,_,_,_,_,_,_,_,_,_,_]) (vs:=[_,_,_,_,_,_,_,_,_,_,_]) (cs':=[_,_,_,_,_,_,_,_,_,_,_]) ty42) ?_
 exact As<|Bf<|B0 C ty42 C mm C (AnV.items (⟨(decide<|0<(((commG nd (atG kd wd mo es tq) node lv).length:Nat):Int)),0,0,ah,ae,commG nd (atG kd wd mo es tq) node lv,0,0,none,0,[],M,aa,coreO nd<|atG kd wd mo es tq,ad,ab,coreN nd<|atG kd wd mo es tq,0,none,0,[]⟩:AnV) I) (Ak (Ak (Ak Bb<|nvp _)<|nv3 _) Bb) ⟨(⟨(decide<|0<(((commG nd (atG kd wd mo es tq) node lv).length:Nat):Int)),0,0,ah,ae,commG nd (atG kd wd mo es tq) node lv,0,0,none,0,[],M,aa,coreO nd<|atG kd wd mo es tq,ad,ab,coreN nd<|atG kd wd mo es tq,0,none,0,[]⟩:AnV),rfl,(by constructor<;>intro h<;>first|exact absurd h dc|exact ⟨(by constructor<;>intro h<;>first|exact absurd h dc|exact ⟨⟨rfl,rfl,rfl,rfl,rfl,rfl⟩,⟨rfl,rfl,rfl,rfl⟩⟩),rfl⟩),rfl⟩
theorem AnsU3_ok(hl:Sl κ I (.slice ea es.length ec) es)(hs:Sl κ I (.slice sa S.length sc) S)(hH:HistOk nd kd wd mo es)(hlen:es.length<=19)(h7:nd<=7)(hq:QV nd 3 node lv tq S num den)(hT:TabRd κ I 0 tzCells):eu prog κ 62 [.agg #[e7 nd,.slice ea es.length ec,e7 kd,e7 wd,e7 mo],.agg #[e7 3,e7 node,e7 lv,e7 tq,.slice sa S.length sc,e7 num,e7 den]] I (λr J=>∃A:AnV,r=A.val/\AnsP nd kd wd mo es 3 node lv tq S num den A/\J=AnV.items A I):=by
 have ht:=hq.time rfl
 have hv:=(hq.set rfl).1
 have h2:=(hq.set rfl).2.2.resolve_left dc
 refine Ce2 Tryz.func62 C C ?_
 refine Ar<|Ge1 (Al (cs:=[_,_,_,_,_]) C C C) λb1=>Ge1 (Al (cs:=[_,_,_,_,_,_,_]) C C C) λb2=>Ge1 (Am ty42 C) λb3=>As<|A5<|A4 mixed<|Cr 6<|Z ?_
 refine Ds1 3<|Sc2 C (Ac c_ C C<|PAt_ok (nd:=nd) (kd:=kd) (wd:=wd) (mo:=mo) (tq:=tq) (Au hl) hH hlen ht) λak an=>?_
 refine Ds1 5<|Se C (Ac c_ C C<|AEdgeG_ok (node:=node) (lv:=lv) (num:=num) (den:=den) (nd:=nd) (tq:=tq) A7 (hH.graph _) (A8 hT Ah) (Au hs) hv h2) ?_
 rintro _ _ ⟨_,_,⟨aj,ai,ah,ae,aa,NL11,M,ab,OL14,rfl,ad,rfl⟩,rfl,rfl⟩
 refine ⟨Aj,?_⟩
 refine C3 kr ?_
 refine Ae 6 C (A3 (cs:=[_,_,_,_,_,_,_,_,_,_,_]) (vs:=[_,_,_,_,_,_,_,_,_,_,_]) (cs':=[_,_,_,_,_,_,_,_,_,_,_]) ty42) ?_
 rintro _ _ ⟨rfl,rfl⟩
 refine C4 kr ?_
 exact Ay<|Bf<|B0 C ty42 C mm C (AnV.items (⟨ai,ah,0,none,0,[],0,0,none,0,[],M,ab,OL14,ae,aa,NL11,0,none,0,[]⟩:AnV) I) (Ak (Ak (Ak (Ak Bb<|nv3 _)<|nvp _)<|nv3 _) Bb) ⟨(⟨ai,ah,0,none,0,[],0,0,none,0,[],M,ab,OL14,ae,aa,NL11,0,none,0,[]⟩:AnV),rfl,(by constructor<;>intro h<;>first|exact absurd h dc|exact ⟨(by constructor<;>intro h<;>first|exact absurd h dc|exact ⟨aj,ad,rfl,rfl,rfl,rfl,rfl,rfl⟩),rfl⟩),rfl⟩
theorem AnsU4_ok(hl:Sl κ I (.slice ea es.length ec) es)(hs:Sl κ I (.slice sa S.length sc) S)(hH:HistOk nd kd wd mo es)(hlen:es.length<=19)(h7:nd<=7)(M:QV nd 4 node lv tq S num den)(hT:TabRd κ I 0 tzCells):eu prog κ 64 [.agg #[e7 nd,.slice ea es.length ec,e7 kd,e7 wd,e7 mo],.agg #[e7 4,e7 node,e7 lv,e7 tq,.slice sa S.length sc,e7 num,e7 den]] I (λr J=>∃A:AnV,r=A.val/\AnsP nd kd wd mo es 4 node lv tq S num den A/\J=AnV.items A I):=by
 have ht:=M.time rfl
 have hv:=(M.set rfl).1
 have h0:=(M.set rfl).2.1
 refine Ce2 Tryz.func64 C C ?_
 refine Ar<|Ge1 (Al (cs:=[_,_,_,_,_]) C C C) λb1=>Ge1 (Al (cs:=[_,_,_,_,_,_,_]) C C C) λb2=>Ge1 (Am ty42 C) λb3=>As<|A5<|A4 mixed<|Cr 11<|Z ?_
 refine C0 (rs:=[3,10]) kr C C<|D6 ?_<|Dv ?_
 ·refine Sc2 C (Ac c_ C C<|PAt_ok (nd:=nd) (kd:=kd) (wd:=wd) (mo:=mo) (tq:=tq) (Au hl) hH hlen ht) λad ae=>?_
  refine C0 (rs:=[6,10]) kr C C<|D6 ?_<|Dv ?_
  ·refine Sc0 C (Ac c_ C C<|DensityG_ok (nd:=nd) A7 (Au hs)<|by have:=edges_le (hH.graph tq);omega) (Z ?_)
   refine C0 (rs:=[9,10]) kr C C<|D6 ?_<|Dv ?_
   ·refine Sr C (Bv C C) Aj ?_
    refine Ds1 10<|Se1 C (Am ty34 C) λb6=>?_
    refine C3 kr ?_
    refine Ae 11 C (Cf ty34) ?_
    rintro _ _ ⟨rfl,rfl⟩
    refine Fg (i:=12) kr C (Ba C) C C (A0 C) ?_
    refine C4 kr<|Z ?_
    refine Ge0 (A3 (cs:=[_,_,_,_,_,_,_,_,_,_,_]) (vs:=[_,_,_,_,_,_,_,_,_,_,_]) (cs':=[_,_,_,_,_,_,_,_,_,_,_]) ty42) ?_
    exact As<|Bf<|B0 C ty42 C mm C (AnV.items (⟨true,0,0,none,0,[],(densG nd (atG kd wd mo es tq) S).num,(densG nd (atG kd wd mo es tq) S).den,none,0,[],none,0,[],none,0,[],0,none,0,[]⟩:AnV) I) (Ak (Ak (Ak (Ak (Ak (Ak (show Fit κ _ I from Bb)<|nv3 _)<|nvp _)<|nv3 _)<|nv3 _)<|nv3 _) Bb) ⟨(⟨true,0,0,none,0,[],(densG nd (atG kd wd mo es tq) S).num,(densG nd (atG kd wd mo es tq) S).den,none,0,[],none,0,[],none,0,[],0,none,0,[]⟩:AnV),rfl,(by constructor<;>intro h<;>first|exact absurd h dc|exact ⟨(by constructor<;>intro h<;>first|exact absurd h dc|exact ⟨⟨rfl,rfl,rfl,rfl,rfl,rfl⟩,⟨rfl,rfl,rfl,rfl⟩⟩),rfl⟩),rfl⟩
   refine Se1 C (Am ty34 C) λb7=>?_
   refine C0 (rs:=[9,11]) kr C C<|D6 ?_<|Dv ?_
   ·refine Sr C (Bv C C) Aj ?_
    refine C3 kr ?_
    refine Ae 11 C (Cf ty34) ?_
    rintro _ _ ⟨rfl,rfl⟩
    refine Fg (i:=12) kr C (Ba C) C C (A0 C) ?_
    refine C4 kr<|Z ?_
    refine Ge0 (A3 (cs:=[_,_,_,_,_,_,_,_,_,_,_]) (vs:=[_,_,_,_,_,_,_,_,_,_,_]) (cs':=[_,_,_,_,_,_,_,_,_,_,_]) ty42) ?_
    exact As<|Bf<|B0 C ty42 C mm C (AnV.items (⟨true,0,0,none,0,[],(densG nd (atG kd wd mo es tq) S).num,(densG nd (atG kd wd mo es tq) S).den,none,0,[],none,0,[],none,0,[],0,none,0,[]⟩:AnV) I) (Ak (Ak (Ak (Ak (Ak (Ak (show Fit κ _ I from Bb)<|nv3 _)<|nvp _)<|nv3 _)<|nv3 _)<|nv3 _) Bb) ⟨(⟨true,0,0,none,0,[],(densG nd (atG kd wd mo es tq) S).num,(densG nd (atG kd wd mo es tq) S).den,none,0,[],none,0,[],none,0,[],0,none,0,[]⟩:AnV),rfl,(by constructor<;>intro h<;>first|exact absurd h dc|exact ⟨(by constructor<;>intro h<;>first|exact absurd h dc|exact ⟨⟨rfl,rfl,rfl,rfl,rfl,rfl⟩,⟨rfl,rfl,rfl,rfl⟩⟩),rfl⟩),rfl⟩
   refine Se0 C (Cf ty34) ?_
   refine Ds1 9<|Sr C (Bv C C) Aj ?_
   refine Ds1 12<|Sr C (A0 C) Aj<|Z ?_
   refine Ge0 (A3 (cs:=[_,_,_,_,_,_,_,_,_,_,_]) (vs:=[_,_,_,_,_,_,_,_,_,_,_]) (cs':=[_,_,_,_,_,_,_,_,_,_,_]) ty42) ?_
   exact As<|Bf<|B0 C ty42 C mm C (AnV.items (⟨true,0,0,none,0,[],(densG nd (atG kd wd mo es tq) S).num,(densG nd (atG kd wd mo es tq) S).den,none,0,[],none,0,[],none,0,[],0,none,0,[]⟩:AnV) I) (Ak (Ak (Ak (Ak (Ak (Ak (show Fit κ _ I from Bb)<|nv3 _)<|nvp _)<|nv3 _)<|nv3 _)<|nv3 _) Bb) ⟨(⟨true,0,0,none,0,[],(densG nd (atG kd wd mo es tq) S).num,(densG nd (atG kd wd mo es tq) S).den,none,0,[],none,0,[],none,0,[],0,none,0,[]⟩:AnV),rfl,(by constructor<;>intro h<;>first|exact absurd h dc|exact ⟨(by constructor<;>intro h<;>first|exact absurd h dc|exact ⟨⟨rfl,rfl,rfl,rfl,rfl,rfl⟩,⟨rfl,rfl,rfl,rfl⟩⟩),rfl⟩),rfl⟩
  refine Se1 C (Am ty34 C) λb8=>?_
  refine Ds1 6<|Sc0 C (Ac c_ C C<|DensityG_ok (nd:=nd) A7 (Au hs)<|by have:=edges_le (hH.graph tq);omega)<|Z ?_
  refine C0 (rs:=[9,11]) kr C C<|D6 ?_<|Dv ?_
  ·refine Sr C (Bv C C) Aj ?_
   refine C3 kr ?_
   refine Ae 11 C (Cf ty34) ?_
   rintro _ _ ⟨rfl,rfl⟩
   refine Fg (i:=12) kr C (Ba C) C C (A0 C) ?_
   refine C4 kr<|Z ?_
   refine Ge0 (A3 (cs:=[_,_,_,_,_,_,_,_,_,_,_]) (vs:=[_,_,_,_,_,_,_,_,_,_,_]) (cs':=[_,_,_,_,_,_,_,_,_,_,_]) ty42) ?_
   exact As<|Bf<|B0 C ty42 C mm C (AnV.items (⟨true,0,0,none,0,[],(densG nd (atG kd wd mo es tq) S).num,(densG nd (atG kd wd mo es tq) S).den,none,0,[],none,0,[],none,0,[],0,none,0,[]⟩:AnV) I) (Ak (Ak (Ak (Ak (Ak (Ak (show Fit κ _ I from Bb)<|nv3 _)<|nvp _)<|nv3 _)<|nv3 _)<|nv3 _) Bb) ⟨(⟨true,0,0,none,0,[],(densG nd (atG kd wd mo es tq) S).num,(densG nd (atG kd wd mo es tq) S).den,none,0,[],none,0,[],none,0,[],0,none,0,[]⟩:AnV),rfl,(by constructor<;>intro h<;>first|exact absurd h dc|exact ⟨(by constructor<;>intro h<;>first|exact absurd h dc|exact ⟨⟨rfl,rfl,rfl,rfl,rfl,rfl⟩,⟨rfl,rfl,rfl,rfl⟩⟩),rfl⟩),rfl⟩
  refine Se0 C (Cf ty34) ?_
  refine Ds1 9<|Sr C (Bv C C) Aj ?_
  refine Ds1 12<|Sr C (A0 C) Aj<|Z ?_
  refine Ge0 (A3 (cs:=[_,_,_,_,_,_,_,_,_,_,_]) (vs:=[_,_,_,_,_,_,_,_,_,_,_]) (cs':=[_,_,_,_,_,_,_,_,_,_,_]) ty42) ?_
  exact As<|Bf<|B0 C ty42 C mm C (AnV.items (⟨true,0,0,none,0,[],(densG nd (atG kd wd mo es tq) S).num,(densG nd (atG kd wd mo es tq) S).den,none,0,[],none,0,[],none,0,[],0,none,0,[]⟩:AnV) I) (Ak (Ak (Ak (Ak (Ak (Ak (show Fit κ _ I from Bb)<|nv3 _)<|nvp _)<|nv3 _)<|nv3 _)<|nv3 _) Bb) ⟨(⟨true,0,0,none,0,[],(densG nd (atG kd wd mo es tq) S).num,(densG nd (atG kd wd mo es tq) S).den,none,0,[],none,0,[],none,0,[],0,none,0,[]⟩:AnV),rfl,(by constructor<;>intro h<;>first|exact absurd h dc|exact ⟨(by constructor<;>intro h<;>first|exact absurd h dc|exact ⟨⟨rfl,rfl,rfl,rfl,rfl,rfl⟩,⟨rfl,rfl,rfl,rfl⟩⟩),rfl⟩),rfl⟩
 refine Se1 C (Am ty34 C) λb9=>?_
 refine Ds1 3<|Sc2 C (Ac c_ C C<|PAt_ok (nd:=nd) (kd:=kd) (wd:=wd) (mo:=mo) (tq:=tq) (Au hl) hH hlen ht) λaa ab=>?_
 refine Ds1 6<|Sc0 C (Ac c_ C C<|DensityG_ok (nd:=nd) A7 (Au hs)<|by have:=edges_le (hH.graph tq);omega)<|Z ?_
 refine C0 (rs:=[9,11]) kr C C<|D6 ?_<|Dv ?_
 ·refine Sr C (Bv C C) Aj ?_
  refine C3 kr ?_
  refine Ae 11 C (Cf ty34) ?_
  rintro _ _ ⟨rfl,rfl⟩
  refine Fg (i:=12) kr C (Ba C) C C (A0 C) ?_
  refine C4 kr<|Z ?_
  refine Ge0 (A3 (cs:=[_,_,_,_,_,_,_,_,_,_,_]) (vs:=[_,_,_,_,_,_,_,_,_,_,_]) (cs':=[_,_,_,_,_,_,_,_,_,_,_]) ty42) ?_
  exact As<|Bf<|B0 C ty42 C mm C (AnV.items (⟨true,0,0,none,0,[],(densG nd (atG kd wd mo es tq) S).num,(densG nd (atG kd wd mo es tq) S).den,none,0,[],none,0,[],none,0,[],0,none,0,[]⟩:AnV) I) (Ak (Ak (Ak (Ak (Ak (Ak (show Fit κ _ I from Bb)<|nv3 _)<|nvp _)<|nv3 _)<|nv3 _)<|nv3 _) Bb) ⟨(⟨true,0,0,none,0,[],(densG nd (atG kd wd mo es tq) S).num,(densG nd (atG kd wd mo es tq) S).den,none,0,[],none,0,[],none,0,[],0,none,0,[]⟩:AnV),rfl,(by constructor<;>intro h<;>first|exact absurd h dc|exact ⟨(by constructor<;>intro h<;>first|exact absurd h dc|exact ⟨⟨rfl,rfl,rfl,rfl,rfl,rfl⟩,⟨rfl,rfl,rfl,rfl⟩⟩),rfl⟩),rfl⟩
 refine Se0 C (Cf ty34) ?_
 refine Ds1 9<|Sr C (Bv C C) Aj ?_
 refine Ds1 12<|Sr C (A0 C) Aj<|Z ?_
 refine Ge0 (A3 (cs:=[_,_,_,_,_,_,_,_,_,_,_]) (vs:=[_,_,_,_,_,_,_,_,_,_,_]) (cs':=[_,_,_,_,_,_,_,_,_,_,_]) ty42) ?_
 exact As<|Bf<|B0 C ty42 C mm C (AnV.items (⟨true,0,0,none,0,[],(densG nd (atG kd wd mo es tq) S).num,(densG nd (atG kd wd mo es tq) S).den,none,0,[],none,0,[],none,0,[],0,none,0,[]⟩:AnV) I) (Ak (Ak (Ak (Ak (Ak (Ak (show Fit κ _ I from Bb)<|nv3 _)<|nvp _)<|nv3 _)<|nv3 _)<|nv3 _) Bb) ⟨(⟨true,0,0,none,0,[],(densG nd (atG kd wd mo es tq) S).num,(densG nd (atG kd wd mo es tq) S).den,none,0,[],none,0,[],none,0,[],0,none,0,[]⟩:AnV),rfl,(by constructor<;>intro h<;>first|exact absurd h dc|exact ⟨(by constructor<;>intro h<;>first|exact absurd h dc|exact ⟨⟨rfl,rfl,rfl,rfl,rfl,rfl⟩,⟨rfl,rfl,rfl,rfl⟩⟩),rfl⟩),rfl⟩
theorem AnsU5_ok(hl:Sl κ I (.slice ea es.length ec) es)(hs:Sl κ I (.slice sa S.length sc) S)(hH:HistOk nd kd wd mo es)(hlen:es.length<=19)(h7:nd<=7)(hq:QV nd 5 node lv tq S num den)(hT:TabRd κ I 0 tzCells):eu prog κ 66 [.agg #[e7 nd,.slice ea es.length ec,e7 kd,e7 wd,e7 mo],.agg #[e7 5,e7 node,e7 lv,e7 tq,.slice sa S.length sc,e7 num,e7 den]] I (λr J=>∃A:AnV,r=A.val/\AnsP nd kd wd mo es 5 node lv tq S num den A/\J=AnV.items A I):=by
 have ht:=hq.time rfl
 refine Ce2 Tryz.func66 C C ?_
 refine Ar<|Ge1 (Al (cs:=[_,_,_,_,_]) C C C) λb1=>Ge1 (Al (cs:=[_,_,_,_,_,_,_]) C C C) λb2=>Ge1 (Am ty42 C) λb3=>Z ?_
 refine Gc2 (Ac c_ C C<|PAt_ok (nd:=nd) (kd:=kd) (wd:=wd) (mo:=mo) (tq:=tq) (Au hl) hH hlen ht) λaj ak=>Z ?_
 refine G.e (Ac c_ C C<|ADense_ok (nd:=nd) (tv:=0) A7<|A8 hT Ah) ?_
 rintro _ _ ⟨_,_,⟨ad,ae,BB9,aa,ab,M,NN13,DD14,EE15,rfl,⟨ai,ah⟩,rfl⟩,rfl,rfl⟩
 refine Ge0 (A3 (cs:=[_,_,_,_,_,_,_,_,_,_,_]) (vs:=[_,_,_,_,_,_,_,_,_,_,_]) (cs':=[_,_,_,_,_,_,_,_,_,_,_]) ty42) ?_
 exact As<|Bf<|B0 C ty42 C mm C (AnV.items (⟨true,0,0,ad,ae,eo BB9,NN13,DD14,none,0,[],none,0,[],none,0,[],EE15,aa,ab,M⟩:AnV) I) (Ak (Ak (Ak (Ak Bb<|nvp _)<|nv3 _)<|nv3 _) Bb) ⟨(⟨true,0,0,ad,ae,eo BB9,NN13,DD14,none,0,[],none,0,[],none,0,[],EE15,aa,ab,M⟩:AnV),rfl,(by constructor<;>intro h<;>first|exact absurd h dc|exact ⟨(by constructor<;>intro h<;>first|exact absurd h dc|exact ⟨⟨BB9,ai,ah,rfl⟩,rfl,rfl,rfl,rfl,rfl⟩),rfl⟩),rfl⟩
theorem AnsU6_ok(hl:Sl κ I (.slice ea es.length ec) es)(hs:Sl κ I (.slice sa S.length sc) S)(hH:HistOk nd kd wd mo es)(hlen:es.length<=19)(h7:nd<=7)(hq:QV nd 6 node lv tq S num den)(hT:TabRd κ I 0 tzCells):eu prog κ 68 [.agg #[e7 nd,.slice ea es.length ec,e7 kd,e7 wd,e7 mo],.agg #[e7 6,e7 node,e7 lv,e7 tq,.slice sa S.length sc,e7 num,e7 den]] I (λr J=>∃A:AnV,r=A.val/\AnsP nd kd wd mo es 6 node lv tq S num den A/\J=AnV.items A I):=by
 have ht:=hq.time rfl
 refine Ce2 Tryz.func68 C C ?_
 refine Ar<|Ge1 (Al (cs:=[_,_,_,_,_]) C C C) λb1=>Ge1 (Al (cs:=[_,_,_,_,_,_,_]) C C C) λb2=>Ge1 (Am ty42 C) λb3=>Z ?_
 refine Gc2 (Ac c_ C C<|PAt_ok (nd:=nd) (kd:=kd) (wd:=wd) (mo:=mo) (tq:=tq) (Au hl) hH hlen ht) λad ae=>?_
 refine G.e (Ac c_ C C<|CBest_ok (nd:=nd) A7 (hH.graph _) om<|A8 hT Ah) ?_
 rintro _ _ ⟨_,_,⟨ab,aa,XC8,rfl,M,rfl⟩,rfl,rfl⟩
 refine Z ?_
 refine Ge0 (A3 (cs:=[_,_,_,_,_,_,_,_,_,_,_]) (vs:=[_,_,_,_,_,_,_,_,_,_,_]) (cs':=[_,_,_,_,_,_,_,_,_,_,_]) ty42) ?_
 exact As<|Bf<|B0 C ty42 C mm C (AnV.items (⟨true,((XC8.length:Nat):Int),0,ab,aa,XC8,0,0,none,0,[],none,0,[],none,0,[],0,none,0,[]⟩:AnV) I) (Ak (Ak (Ak (Ak (Ak Bb<|nvp _)<|nv3 _)<|nv3 _)<|nv3 _) Bb) ⟨(⟨true,((XC8.length:Nat):Int),0,ab,aa,XC8,0,0,none,0,[],none,0,[],none,0,[],0,none,0,[]⟩:AnV),rfl,(by constructor<;>intro h<;>first|exact absurd h dc|exact ⟨(by constructor<;>intro h<;>first|exact absurd h dc|exact ⟨M,⟨rfl,rfl,rfl,rfl,rfl,rfl⟩,⟨rfl,rfl,rfl,rfl⟩⟩),rfl⟩),rfl⟩
theorem AnsU7_ok{M:Nat}(hl:Sl κ I (.slice ea es.length M) es)(hs:Sl κ I (.slice sa S.length sc) S)(hH:HistOk nd kd wd mo es)(hlen:es.length<=19)(h7:nd<=7)(hq:QV nd 7 node lv tq S num den)(hT:TabRd κ I 0 tzCells):eu prog κ 70 [.agg #[e7 nd,.slice ea es.length M,e7 kd,e7 wd,e7 mo],.agg #[e7 7,e7 node,e7 lv,e7 tq,.slice sa S.length sc,e7 num,e7 den]] I (λr J=>∃A:AnV,r=A.val/\AnsP nd kd wd mo es 7 node lv tq S num den A/\J=AnV.items A I):=by
 have ht:=hq.time rfl
 refine Ce2 Tryz.func70 C C ?_
 refine Ar<|Ge1 (Al (cs:=[_,_,_,_,_]) C C C) λb1=>Ge1 (Al (cs:=[_,_,_,_,_,_,_]) C C C) λb2=>Ge1 (Am ty42 C) λb3=>Z ?_
 refine Gc2 (Ac c_ C C<|PAt_ok (nd:=nd) (kd:=kd) (wd:=wd) (mo:=mo) (tq:=tq) (Au hl) hH hlen ht) λaa ab=>?_
 refine Gc0 (Ac c_ C C<|TCount_ok (nd:=nd) A7<|hH.graph _)<|Z ?_
 refine Ge0 (A3 (cs:=[_,_,_,_,_,_,_,_,_,_,_]) (vs:=[_,_,_,_,_,_,_,_,_,_,_]) (cs':=[_,_,_,_,_,_,_,_,_,_,_]) ty42) ?_
 exact As<|Bf<|B0 C ty42 C mm C (AnV.items (⟨true,triS nd (atG kd wd mo es tq) / 3,0,none,0,[],0,0,none,0,[],none,0,[],none,0,[],0,none,0,[]⟩:AnV) I) (Ak (Ak (Ak (Ak (Ak (Ak (show Fit κ _ I from Bb)<|nv3 _)<|nvp _)<|nv3 _)<|nv3 _)<|nv3 _) Bb) ⟨(⟨true,triS nd (atG kd wd mo es tq) / 3,0,none,0,[],0,0,none,0,[],none,0,[],none,0,[],0,none,0,[]⟩:AnV),rfl,(by constructor<;>intro h<;>first|exact absurd h dc|exact ⟨(by constructor<;>intro h<;>first|exact absurd h dc|exact ⟨⟨rfl,rfl,rfl,rfl,rfl,rfl⟩,⟨rfl,rfl,rfl,rfl⟩⟩),rfl⟩),rfl⟩
theorem AnsU8_ok(hl:Sl κ I (.slice ea es.length ec) es)(hs:Sl κ I (.slice sa S.length sc) S)(hH:HistOk nd kd wd mo es)(hlen:es.length<=19)(h7:nd<=7)(hq:QV nd 8 node lv tq S num den)(hf:densF 8=true->FrV ⟨num,den⟩)(hT:TabRd κ I 0 tzCells):eu prog κ 72 [.agg #[e7 nd,.slice ea es.length ec,e7 kd,e7 wd,e7 mo],.agg #[e7 8,e7 node,e7 lv,e7 tq,.slice sa S.length sc,e7 num,e7 den]] I (λr J=>∃A:AnV,r=A.val/\AnsP nd kd wd mo es 8 node lv tq S num den A/\J=AnV.items A I):=by
 refine Ce2 Tryz.func72 C C ?_
 refine Ar<|Ge1 (Al (cs:=[_,_,_,_,_]) C C C) λb1=>Ge1 (Al (cs:=[_,_,_,_,_,_,_]) C C C) λb2=>Ge1 (Am ty42 C) λb3=>Z ?_
 refine G.e (Ac c_ C C<|AFirst_ok (nd:=nd) (kd:=kd) (wd:=wd) (mo:=mo) (num:=num) (den:=den) (Au hl) hH hlen (hf C)<|A8 hT Ah) ?_
 rintro _ _ ⟨_,_,⟨M,ap,rfl,ah,rfl⟩,rfl,rfl⟩
 refine Z ?_
 have ao:=first_rng hH ah
 refine Z ?_
 refine D8 C (λan=>Z ?_)<|λan=>Z ?_
 ·refine Ge0 (A3 (cs:=[_,_,_,_,_,_,_,_,_,_,_]) (vs:=[_,_,_,_,_,_,_,_,_,_,_]) (cs':=[_,_,_,_,_,_,_,_,_,_,_]) ty42) ?_
  exact As<|Bf<|Bq<|B0 C ty42 C mm C (AnV.items (⟨false,0,0,none,0,[],0,0,none,0,[],none,0,[],none,0,[],0,none,0,[]⟩:AnV) I) (Ak (Ak (Ak (Ak (Ak (Ak (show Fit κ _ I from Bb)<|nv3 _)<|nvp _)<|nv3 _)<|nv3 _)<|nv3 _) Bb) ⟨(⟨false,0,0,none,0,[],0,0,none,0,[],none,0,[],none,0,[],0,none,0,[]⟩:AnV),rfl,(by constructor<;>intro h<;>first|exact absurd h dc|exact ⟨_,_,ah,(λh=>by simp_all),λ_=>⟨⟨rfl,rfl,rfl,rfl,rfl,rfl⟩,⟨rfl,rfl,rfl,rfl⟩,rfl⟩⟩),rfl⟩
 refine Gc2 (Ac c_ C C<|PAt_ok (nd:=nd) (kd:=kd) (wd:=wd) (mo:=mo) (tq:=M) (Au hl) hH hlen ao.1) λar aq=>Z ?_
 refine G.e (Ac c_ C C<|ADense_ok (nd:=nd) (tv:=M) A7<|A8 hT Ah) ?_
 rintro _ _ ⟨_,_,⟨ai,ab,BB11,aa,ae,ad,NN15,DD16,EE17,rfl,⟨ak,aj⟩,rfl⟩,rfl,rfl⟩
 refine Ge0 (A3 (cs:=[_,_,_,_,_,_,_,_,_,_,_]) (vs:=[_,_,_,_,_,_,_,_,_,_,_]) (cs':=[_,_,_,_,_,_,_,_,_,_,_]) ty42) ?_
 exact As<|Bf<|B0 C ty42 C mm C (AnV.items (⟨true,0,M,ai,ab,eo BB11,NN15,DD16,none,0,[],none,0,[],none,0,[],EE17,aa,ae,ad⟩:AnV) I) (Ak (Ak (Ak (Ak Bb<|nvp _)<|nv3 _)<|nv3 _) Bb) ⟨(⟨true,0,M,ai,ab,eo BB11,NN15,DD16,none,0,[],none,0,[],none,0,[],EE17,aa,ae,ad⟩:AnV),rfl,(by constructor<;>intro h<;>first|exact absurd h dc|exact ⟨_,_,ah,(λ_=>⟨(by constructor<;>intro h<;>first|exact absurd h dc|exact ⟨⟨BB11,ak,aj,rfl⟩,rfl,rfl,rfl,rfl,rfl⟩),rfl⟩),λh=>by simp_all⟩),rfl⟩
theorem AnsU9_ok(hl:Sl κ I (.slice ea es.length ec) es)(hs:Sl κ I (.slice sa S.length sc) S)(hH:HistOk nd kd wd mo es)(hlen:es.length<=19)(h7:nd<=7)(hq:QV nd 9 node lv tq S num den)(hT:TabRd κ I 0 tzCells):eu prog κ 73 [.agg #[e7 nd,.slice ea es.length ec,e7 kd,e7 wd,e7 mo],.agg #[e7 9,e7 node,e7 lv,e7 tq,.slice sa S.length sc,e7 num,e7 den]] I (λr J=>∃A:AnV,r=A.val/\AnsP nd kd wd mo es 9 node lv tq S num den A/\J=AnV.items A I):=by
 have hv:=(hq.set rfl).1
 have hx:0<S.length/\S.length<=64:=⟨(hq.set rfl).2.1,asc_len64 (ValidP_iff.1 hv).2 (λx hx=>by have:=(ValidP_iff.1 hv).1 x hx;omega)⟩
 refine Ce2 Tryz.func73 C C ?_
 refine Ar<|Ge1 (Al (cs:=[_,_,_,_,_]) C C C) λb1=>Ge1 (Al (cs:=[_,_,_,_,_,_,_]) C C C) λb2=>Ge1 (Am ty42 C) λb3=>Z ?_
 refine G.e (Ac c_ C C<|ATog_ok (nd:=nd) (kd:=kd) (wd:=wd) (mo:=mo) (lv:=lv) (Au hl) (Au hs) hH hlen hx hv<|A8 hT Ah) ?_
 rintro _ _ ⟨_,_,⟨aa,ai,rfl,M,rfl⟩,rfl,rfl⟩
 refine Z ?_
 have ae:=first_rng hH M
 refine Z ?_
 refine D8 C (λah=>Z ?_)<|λah=>?_
 ·refine Ge0 (A3 (cs:=[_,_,_,_,_,_,_,_,_,_,_]) (vs:=[_,_,_,_,_,_,_,_,_,_,_]) (cs':=[_,_,_,_,_,_,_,_,_,_,_]) ty42) ?_
  exact As<|Bf<|Bq<|B0 C ty42 C mm C (AnV.items (⟨false,0,0,none,0,[],0,0,none,0,[],none,0,[],none,0,[],0,none,0,[]⟩:AnV) I) (Ak (Ak (Ak (Ak (Ak (Ak (show Fit κ _ I from Bb)<|nv3 _)<|nvp _)<|nv3 _)<|nv3 _)<|nv3 _) Bb) ⟨(⟨false,0,0,none,0,[],0,0,none,0,[],none,0,[],none,0,[],0,none,0,[]⟩:AnV),rfl,(by constructor<;>intro h<;>first|exact absurd h dc|exact ⟨_,_,M,(λh=>by simp_all),λ_=>⟨⟨rfl,rfl,rfl,rfl,rfl,rfl⟩,⟨rfl,rfl,rfl,rfl⟩,rfl⟩⟩),rfl⟩
 refine Bt<|Ay<|A5<|A4 mixed<|Cr 15<|Z ?_
 refine Ds1 2<|Sc2 C (Ac c_ C C<|PAt_ok (nd:=nd) (kd:=kd) (wd:=wd) (mo:=mo) (tq:=aa) (Au hl) hH hlen ae.1) λak aj=>?_
 refine Ds1 9<|Se C (Ac c_ C C<|Comm_ok (nd:=nd) (v:=e_ S 0) (lv:=lv) A7 (hH.graph _) (ValidP_mem hv<|Bx om om)<|A8 hT Ah) ?_
 rintro _ _ ⟨_,_,⟨ad,ab,rfl,rfl⟩,rfl,rfl⟩
 refine ⟨Aj,?_⟩
 refine Z ?_
 refine Ge0 (A3 (cs:=[_,_,_,_,_,_,_,_,_,_,_]) (vs:=[_,_,_,_,_,_,_,_,_,_,_]) (cs':=[_,_,_,_,_,_,_,_,_,_,_]) ty42) ?_
 exact As<|Bf<|B0 C ty42 C mm C (AnV.items (⟨true,0,aa,ad,ab,commG nd (atG kd wd mo es aa) (e_ S 0) lv,0,0,none,0,[],none,0,[],none,0,[],0,none,0,[]⟩:AnV) I) (Ak (Ak (Ak (Ak (Ak Bb<|nvp _)<|nv3 _)<|nv3 _)<|nv3 _) Bb) ⟨(⟨true,0,aa,ad,ab,commG nd (atG kd wd mo es aa) (e_ S 0) lv,0,0,none,0,[],none,0,[],none,0,[],0,none,0,[]⟩:AnV),rfl,(by constructor<;>intro h<;>first|exact absurd h dc|exact ⟨_,_,M,(λ_=>⟨⟨rfl,rfl,rfl,rfl,rfl,rfl⟩,⟨rfl,rfl,rfl,rfl⟩,rfl⟩),λh=>by simp_all⟩),rfl⟩
theorem AnsU10_ok(hl:Sl κ I (.slice ea es.length ec) es)(hs:Sl κ I (.slice sa S.length sc) S)(hH:HistOk nd kd wd mo es)(hlen:es.length<=19)(h7:nd<=7)(hq:QV nd 10 node lv tq S num den)(hT:TabRd κ I 0 tzCells):eu prog κ 74 [.agg #[e7 nd,.slice ea es.length ec,e7 kd,e7 wd,e7 mo],.agg #[e7 10,e7 node,e7 lv,e7 tq,.slice sa S.length sc,e7 num,e7 den]] I (λr J=>∃A:AnV,r=A.val/\AnsP nd kd wd mo es 10 node lv tq S num den A/\J=AnV.items A I):=by
 refine Ce2 Tryz.func74 C C ?_
 refine Ar<|Ge1 (Al (cs:=[_,_,_,_,_]) C C C) λb1=>Ge1 (Al (cs:=[_,_,_,_,_,_,_]) C C C) λb2=>Ge1 (Am ty42 C) λb3=>Z ?_
 refine G.e (Ac c_ C C<|AHistF_ok (nd:=nd) (kd:=kd) (wd:=wd) (mo:=mo) (v:=node) (Au hl) hH hlen (hq.node C)<|A8 hT Ah) ?_
 rintro _ _ ⟨_,_,⟨aa,ab,XS6,rfl,M,rfl⟩,rfl,rfl⟩
 refine Z ?_
 refine Ge0 (A3 (cs:=[_,_,_,_,_,_,_,_,_,_,_]) (vs:=[_,_,_,_,_,_,_,_,_,_,_]) (cs':=[_,_,_,_,_,_,_,_,_,_,_]) ty42) ?_
 exact As<|Bf<|B0 C ty42 C mm C (AnV.items (⟨true,0,0,none,0,[],0,0,aa,ab,XS6,none,0,[],none,0,[],0,none,0,[]⟩:AnV) I) (Ak (Ak (Ak (Ak (Ak Bb<|nv3 _)<|nv3 _)<|nv3 _)<|nv3 _) Bb) ⟨(⟨true,0,0,none,0,[],0,0,aa,ab,XS6,none,0,[],none,0,[],0,none,0,[]⟩:AnV),rfl,(by constructor<;>intro h<;>first|exact absurd h dc|exact ⟨⟨rfl,rfl,rfl,rfl,rfl,M⟩,⟨rfl,rfl,rfl,rfl⟩,rfl⟩),rfl⟩
def fnK(K:Int):Nat:=if K=1 then 57 else if K=2 then 60 else if K=3 then 62 else if K=4 then 64 else if K=5 then 66 else if K=6 then 68 else if K=7 then 70 else if K=8 then 72 else if K=9 then 73 else 74
theorem k10{p:Int->Prop}(h:1<=K/\K<=10)(h1:p 1)(h2:p 2)(h3:p 3)(h4:p 4)(h5:p 5)(h6:p 6)(h7:p 7)(h8:p 8)(h9:p 9)(M:p 10):p K:=by
 rcases (show K=1\/K=2\/K=3\/K=4\/K=5\/K=6\/K=7\/K=8\/K=9\/K=10 by omega) with rfl|rfl|rfl|rfl|rfl|rfl|rfl|rfl|rfl|rfl<;>assumption
theorem callK(h:1<=K/\K<=10):callable prog (fnK K)=true:=k10 (p:=λK=>callable prog (fnK K)=true) h c_ c_ c_ c_ c_ c_ c_ c_ c_ c_
theorem AnsU_ok(hl:Sl κ I (.slice ea es.length ec) es)(hs:Sl κ I (.slice sa S.length sc) S)(hH:HistOk nd kd wd mo es)(hlen:es.length<=19)(h7:nd<=7)(M:QV nd K node lv tq S num den)(hf:densF K=true->FrV ⟨num,den⟩)(hT:TabRd κ I 0 tzCells):eu prog κ (fnK K) [.agg #[e7 (nd),.slice ea es.length ec,e7 (kd),e7 (wd),e7 (mo)],.agg #[e7 (K),e7 (node),e7 (lv),e7 (tq),.slice sa S.length sc,e7 (num),e7 (den)]] I (λr J=>∃A:AnV,r=A.val/\AnsP nd kd wd mo es K node lv tq S num den A/\J=AnV.items A I):=
 k10 (p:=λK=>QV nd K node lv tq S num den->(densF K=true->FrV ⟨num,den⟩)->eu prog κ (fnK K) [.agg #[e7 nd,.slice ea es.length ec,e7 kd,e7 wd,e7 mo],.agg #[e7 K,e7 node,e7 lv,e7 tq,.slice sa S.length sc,e7 num,e7 den]] I (λr J=>∃A:AnV,r=A.val/\AnsP nd kd wd mo es K node lv tq S num den A/\J=AnV.items A I)) M.rng (λM hf=>AnsU1_ok hl hs hH hlen h7 M hT) (λM hf=>AnsU2_ok hl hs hH hlen h7 M hT) (λM hf=>AnsU3_ok hl hs hH hlen h7 M hT) (λM hf=>AnsU4_ok hl hs hH hlen h7 M hT) (λM hf=>AnsU5_ok hl hs hH hlen h7 M hT) (λM hf=>AnsU6_ok hl hs hH hlen h7 M hT) (λM hf=>AnsU7_ok hl hs hH hlen h7 M hT) (λM hf=>AnsU8_ok hl hs hH hlen h7 M hf hT) (λM hf=>AnsU9_ok hl hs hH hlen h7 M hT) (λM hf=>AnsU10_ok hl hs hH hlen h7 M hT) M hf
theorem Runs.lookupAny{κ:Ctx}{N:Frm}{L:Env}{J:List Item}{d:Option Tmp}{ty:TypeId}{ps:String}{af:Array Edge}{gd:Option (Nat×Bool)}{x y:Operand}{r:Nat}(h:1<=K/\K<=10)(hx:er L x=some (.map (some r)))(M:er L y=some (e7 K))(hm:mp r [({key:=e7 (1),val:= .func (.func 57) #[] #[],born:=0}:MapEntry),({key:=e7 (2),val:= .func (.func 60) #[] #[],born:=1}:MapEntry),({key:=e7 (3),val:= .func (.func 62) #[] #[],born:=2}:MapEntry),({key:=e7 (4),val:= .func (.func 64) #[] #[],born:=3}:MapEntry),({key:=e7 (5),val:= .func (.func 66) #[] #[],born:=4}:MapEntry),({key:=e7 (6),val:= .func (.func 68) #[] #[],born:=5}:MapEntry),({key:=e7 (7),val:= .func (.func 70) #[] #[],born:=6}:MapEntry),({key:=e7 (8),val:= .func (.func 72) #[] #[],born:=7}:MapEntry),({key:=e7 (9),val:= .func (.func 73) #[] #[],born:=8}:MapEntry),({key:=e7 (10),val:= .func (.func 74) #[] #[],born:=9}:MapEntry)] 10∈J) :
  Runs prog κ N ⟨d,.lookup 73 x y false,ty,ps,af,gd⟩ L J (.func (.func<|fnK K) #[] #[]):=
 k10 (p:=λK=>er L y=some (e7 K)->Runs prog κ N ⟨d,.lookup 73 x y false,ty,ps,af,gd⟩ L J (.func (.func<|fnK K) #[] #[])) h (λM=>Di (i:=0) B8 Bd hx M rfl hm rfl) (λM=>Di (i:=1) B8 Bd hx M rfl hm rfl) (λM=>Di (i:=2) B8 Bd hx M rfl hm rfl) (λM=>Di (i:=3) B8 Bd hx M rfl hm rfl) (λM=>Di (i:=4) B8 Bd hx M rfl hm rfl) (λM=>Di (i:=5) B8 Bd hx M rfl hm rfl) (λM=>Di (i:=6) B8 Bd hx M rfl hm rfl) (λM=>Di (i:=7) B8 Bd hx M rfl hm rfl) (λM=>Di (i:=8) B8 Bd hx M rfl hm rfl) (λM=>Di (i:=9) B8 Bd hx M rfl hm rfl) M
def askQ(nd kd wd mo:Int)(es:List Ev)(K node lv tq:Int)(S:List Int)(num den:Int):Int:=if slideE nd kd wd mo es≠0 then slideE nd kd wd mo es else checkQ nd K node lv tq S num den
theorem hist_of(h:slideE nd kd wd mo es=0):HistOk nd kd wd mo es:=by
 unfold slideE at h
 by_cases hw:checkW kd wd mo=0
 ·rw [if_neg (by simp [hw])] at h;exact ⟨streamE_ok h,hw⟩
 rw [if_pos hw] at h;exact absurd h hw
theorem AskG_ok(hl:Sl κ I (.slice ea es.length ec) es)(hs:Sl κ I (.slice sa S.length sc) S)(hlen:es.length<=19)(h7:nd<=7)(hf:densF K=true->FrV ⟨num,den⟩)(hT:TabRd κ I 0 tzCells):eu prog κ 13 [e7 nd,.slice ea es.length ec,.agg #[e7 kd,e7 wd,e7 mo],.agg #[e7 K,e7 node,e7 lv,e7 tq,.slice sa S.length sc,e7 num,e7 den]] I (λr J=>∃A:AnV,r = .tuple #[A.val,e7 (askQ nd kd wd mo es K node lv tq S num den)]/\(askQ nd kd wd mo es K node lv tq S num den=0->AnsP nd kd wd mo es K node lv tq S num den A)/\(askQ nd kd wd mo es K node lv tq S num den≠0->A.zero)/\J=AnV.items A I):=by
 refine Ce4 Tryz.func13 C C ?_
 refine Ar<|Ge1 (Al (cs:=[_,_,_]) C C C) λb1=>Ge1 (Al (cs:=[_,_,_,_,_,_,_]) C C C) λb2=>Ge1 (Am ty42 C) λb3=>Ga C<|As<|A5<|Ar<|Gm C<|Gm C<|Gl3 ty31 ?_
 refine Gc0 (Ac c_ C C<|ACheck_ok (nd:=nd) (kd:=kd) (wd:=wd) (mo:=mo)<|Au hl) ?_
 refine Ga C<|As<|Ar<|Gm C<|Gr (C9 C C)<|As<|Bg (S7 17 10 8 7 6 0 1 C C C C C C C)<|Ap C (λM=>?_)<|λM=>?_
 ·refine Ar (Gr (Br (cells:=[_,_,_,_,_,_,_,_,_,_,_]) ty42 Tryz.underlying42 pl42 C C)<|Gm C<|Ge0 (A3 (cs:=[_,_,_,_,_,_,_,_,_,_,_]) (vs:=[_,_,_,_,_,_,_,_,_,_,_]) (cs':=[_,_,_,_,_,_,_,_,_,_,_]) ty42) ?_)
  exact Ga C<|As<|Bf<|Bq<|D5 C ty42 C C mm C (AnV.items (⟨false,0,0,none,0,[],0,0,none,0,[],none,0,[],none,0,[],0,none,0,[]⟩:AnV) I) (Ak (show Fit κ _ I from Ah)<|Ak (Ak (Ak (Ak (Ak (nv3 _)<|nv3 _)<|nv3 _)<|nvp _)<|nv3 _) Bb) ⟨(⟨false,0,0,none,0,[],0,0,none,0,[],none,0,[],none,0,[],0,none,0,[]⟩:AnV),congrArg (λn=>Value.tuple #[AnV.val (⟨false,0,0,none,0,[],0,0,none,0,[],none,0,[],none,0,[],0,none,0,[]⟩:AnV),Value.int .i64 n]) (if_pos M).symm,(λh=>absurd h<|by unfold askQ;rw [if_pos M];exact M),(λ_=>⟨⟨rfl,rfl,rfl,rfl,rfl,rfl⟩,⟨rfl,rfl,rfl,rfl⟩,rfl⟩),rfl⟩
 refine Bt<|Ay<|A5<|Ar<|Gl7 ty36 ?_
 refine Gm C<|Gc0 (Ac c_ C C<|QCheckG_ok (nd:=nd) (K:=K) (node:=node) (lv:=lv) (tq:=tq) (num:=num) (den:=den) (S:=S) (Au hs) hf) ?_
 refine Ga C<|As<|Ar<|Gm C<|Gr (C9 C C)<|As<|Ap C (λaa=>?_)<|λaa=>?_
 ·refine Ar (Gr (Br (cells:=[_,_,_,_,_,_,_,_,_,_,_]) ty42 Tryz.underlying42 pl42 C C)<|Gm C<|Ge0 (A3 (cs:=[_,_,_,_,_,_,_,_,_,_,_]) (vs:=[_,_,_,_,_,_,_,_,_,_,_]) (cs':=[_,_,_,_,_,_,_,_,_,_,_]) ty42) ?_)
  exact Ga C<|As<|Bg (S2 9 8 C C)<|Bf<|Bq<|D5 C ty42 C C mm C (AnV.items (⟨false,0,0,none,0,[],0,0,none,0,[],none,0,[],none,0,[],0,none,0,[]⟩:AnV) I) (Ak (show Fit κ _ I from Ah)<|Ak (Ak (Ak (Ak (Ak (nv3 _)<|nv3 _)<|nv3 _)<|nvp _)<|nv3 _) Bb) ⟨(⟨false,0,0,none,0,[],0,0,none,0,[],none,0,[],none,0,[],0,none,0,[]⟩:AnV),congrArg (λn=>Value.tuple #[AnV.val (⟨false,0,0,none,0,[],0,0,none,0,[],none,0,[],none,0,[],0,none,0,[]⟩:AnV),Value.int .i64 n]) (if_neg M).symm,(λh=>absurd h<|by unfold askQ;rw [if_neg M];exact aa),(λ_=>⟨⟨rfl,rfl,rfl,rfl,rfl,rfl⟩,⟨rfl,rfl,rfl,rfl⟩,rfl⟩),rfl⟩
 refine Bt<|Ay<|A5<|A4 mixed<|Cm (e8 b2 [e7 K,e7 node,e7 lv,e7 tq,.slice sa S.length sc,e7 num,e7 den] 36::e8 b1 [e7 kd,e7 wd,e7 mo] 31::I) 12<|Dr 1 C (Ad fld36_0 C)<|Dr 2 C (Ax ef) ?_
 refine Dr 4 C (Af C)<|Dr 5 C (Af C)<|Dr 6 C (Bl (vs:=[_,_,_]) ty31) ?_
 refine Dr 7 C (Br (cells:=[_,_,_,_,_]) ty76 Tryz.underlying76 pl76 C C)<|Dr 8 C (Bl (vs:=[_,_,_,_,_,_,_]) ty36) ?_
 refine Ds1 0<|Se C (Ac c_ C C Answers_ok) ?_
 rintro _ _ ⟨_,_,⟨ab,rfl,rfl⟩,rfl,rfl⟩
 refine ⟨Aj,?_⟩
 refine Ds1 3<|Sr C (Runs.lookupAny (QV.of<|Classical.not_not.1 aa).rng C C mm) Aj ?_
 refine Ds1 9<|Se C (Cu (first:=[]) (caps:=[]) (callK (QV.of<|Classical.not_not.1 aa).rng) C C C<|AnsU_ok (Au hl) (Au hs) (hist_of<|Classical.not_not.1 M) hlen h7 (QV.of<|Classical.not_not.1 aa) hf<|A8 hT Ah) ?_
 rintro _ _ ⟨_,_,⟨AV5,rfl,ad,rfl⟩,rfl,rfl⟩
 refine ⟨Aj,?_⟩
 show D prog κ _ _ _ _ _ _ _ ([(36,.agg #[.bool (AV5.fd),e7<|AV5.num,e7<|AV5.tm,.slice AV5.sa AV5.S.length AV5.sc,e7<|AV5.dn,e7<|AV5.dd,.slice AV5.pa AV5.P.length AV5.pc,.slice AV5.oa AV5.O.length AV5.oc,.slice AV5.na AV5.N.length AV5.nc,e7<|AV5.E,.slice AV5.qa AV5.Q.length AV5.qc]),(30,.func (.func<|fnK K) #[] #[]),(27,.map<|some ab),(35,.agg #[e7 K,e7 node,e7 lv,e7 tq,.slice sa S.length sc,e7 num,e7 den]),(34,.agg #[e7 nd,.slice ea es.length ec,e7 kd,e7 wd,e7 mo]),(33,.agg #[e7 kd,e7 wd,e7 mo]),(32,.slice ea es.length ec),(31,e7 nd),(29,e7 K),(28,.pointer<|some ⟨b2,0,none⟩),(24,.bool<|decide<|(checkQ nd K node lv tq S num den)≠0),(23,e7<|checkQ nd K node lv tq S num den),(11,e7<|checkQ nd K node lv tq S num den),(22,e7<|checkQ nd K node lv tq S num den),(21,e7 nd),(20,.agg #[e7 K,e7 node,e7 lv,e7 tq,.slice sa S.length sc,e7 num,e7 den]),(17,.bool<|decide<|(slideE nd kd wd mo es)≠0),(10,e7<|slideE nd kd wd mo es),(8,.pointer<|some ⟨b3,0,none⟩),(7,.pointer<|some ⟨b2,0,none⟩),(6,.pointer<|some ⟨b1,0,none⟩),(0,e7 nd),(1,.slice ea es.length ec)]:Env) (vc 3 (.slice AV5.sa AV5.S.length AV5.sc) (AV5.S)::vc 51 (.slice AV5.pa AV5.P.length AV5.pc) (AV5.P)::vc 3 (.slice AV5.oa AV5.O.length AV5.oc) (AV5.O)::vc 3 (.slice AV5.na AV5.N.length AV5.nc) (AV5.N)::vc 3 (.slice AV5.qa AV5.Q.length AV5.qc) (AV5.Q)::mp ab [({key:=e7 1,val:= .func (.func 57) #[] #[],born:=0}:MapEntry),({key:=e7 2,val:= .func (.func 60) #[] #[],born:=1}:MapEntry),({key:=e7 3,val:= .func (.func 62) #[] #[],born:=2}:MapEntry),({key:=e7 4,val:= .func (.func 64) #[] #[],born:=3}:MapEntry),({key:=e7 5,val:= .func (.func 66) #[] #[],born:=4}:MapEntry),({key:=e7 6,val:= .func (.func 68) #[] #[],born:=5}:MapEntry),({key:=e7 7,val:= .func (.func 70) #[] #[],born:=6}:MapEntry),({key:=e7 8,val:= .func (.func 72) #[] #[],born:=7}:MapEntry),({key:=e7 9,val:= .func (.func 73) #[] #[],born:=8}:MapEntry),({key:=e7 10,val:= .func (.func 74) #[] #[],born:=9}:MapEntry)] 10::e8 b3 [.bool false,e7 0,e7 0,.slice none 0 0,e7 0,e7 0,.slice none 0 0,.slice none 0 0,.slice none 0 0,e7 0,.slice none 0 0] 42::e8 b2 [e7 K,e7 node,e7 lv,e7 tq,.slice sa S.length sc,e7 num,e7 den] 36::e8 b1 [e7 kd,e7 wd,e7 mo] 31::I)
 refine Ds1 10<|Se0 C (A3 (cs:=[_,_,_,_,_,_,_,_,_,_,_]) (vs:=[_,_,_,_,_,_,_,_,_,_,_]) (cs':=[_,_,_,_,_,_,_,_,_,_,_]) ty42) ?_
 exact Dr 11 C (A0 C)<|Dz<|Ay<|Bg (S2 9 8 C C)<|Bf<|D5 C ty42 C C mm C (AnV.items AV5 I) Bb ⟨AV5,congrArg (λn=>Value.tuple #[AnV.val AV5,Value.int .i64 n]) (((if_neg M).trans (Classical.not_not.1 aa)).symm:(0:Int)=askQ nd kd wd mo es K node lv tq S num den),(λ_=>ad),(λh=>absurd (((if_neg M).trans (Classical.not_not.1 aa)):askQ nd kd wd mo es K node lv tq S num den=0) h),rfl⟩
end Go.Sl
