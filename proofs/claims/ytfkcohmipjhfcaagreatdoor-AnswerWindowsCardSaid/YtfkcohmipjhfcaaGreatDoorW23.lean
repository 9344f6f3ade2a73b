/- A part of the proofs of statements of this seat: contracts of functions, and the plain laws that they lean on. No conditions. -/
import Derived.Test.YtfkcohmipjhfcaaGreatDoorW21
import Derived.Test.YtfkcohmipjhfcaaGreatDoorW22
set_option linter.unusedVariables false
set_option linter.unusedSimpArgs false
set_option linter.unusedSectionVars false
namespace Go.Sl
variable {P:Program}{κ:Ctx}{N:Frm}{L:Env}{I:List Item}
theorem V.retvv{fn:Func}{t u:Tmp}{T U b b' E E' by' by2:Nat}{z z':List Value}{v v':Value}{Post:Value->List Item->Prop}(hr:fn.results = #[.cell t T,.cell u U])(hT:tyF P T=some (1,false,by',z))(hU:tyF P U=some (1,false,by2,z'))
  (hv:look L t=some (.pointer (some ⟨b,0,none⟩))) (hv':look L u=some (.pointer (some ⟨b',0,none⟩))) (hb:e8 b [v] E∈I) (hb':e8 b' [v'] E'∈I)
  (J:List Item) (hf:Fit κ I J) (hp:Post (.tuple #[v,v']) J) (h0:N.ds=[]:=by rfl):V κ N (bodyPost P fn (RetR κ Post)) .ret L I:=
 λa w ha hs=>by
  have hcell:w.cell? ⟨b,0,none⟩=some v:=by rw [cell_blk (w:=w) (hs.ok _ hb).1 0];rfl
  have hcell2:w.cell? ⟨b',0,none⟩=some v':=by rw [cell_blk (w:=w) (hs.ok _ hb').1 0];rfl
  have hload:(loadVar T ⟨b,0,none⟩).run P w = .ok v w:=run_loadVar_one hT hcell
  have hload2:(loadVar U ⟨b',0,none⟩).run P w = .ok v' w:=run_loadVar_one hU hcell2
  refine bodyPost_ret (v:= .tuple #[v,v']) ?_ (ha.defers.trans h0) ⟨_,J,rfl,hp,hf w hs⟩
  simp [results,hr,ha.get t _ hv,ha.get u _ hv',asAddr,hload,hload2]
end Go.Sl
namespace Go.Sl
open Go.Proofs
set_option maxRecDepth 4000
def numT(nd kd wd mo:Int)(es:List Ev)(v t:Int):Int:=e_ (coreN nd (atG kd wd mo es t)) v
theorem allE_len{nd kd wd mo:Int}{es:List Ev}(hH:HistOk nd kd wd mo es)(hlen:es.length<=19):(allE kd wd mo es).length<=57:=by
 have h2:=hH.len2
 have h3:=hH.len
 have h4:=lateL_len kd wd (eh (slideS kd wd mo es).2)
 unfold allE
 rw [List.length_append,(Fa _ _).length_eq]
 omega
structure AnV where
 fd:Bool
 num:Int
 tm:Int
 sa:Option Addr
 sc:Nat
 S:List Int
 dn:Int
 dd:Int
 pa:Option Addr
 pc:Nat
 P:List Pt
 oa:Option Addr
 oc:Nat
 O:List Int
 na:Option Addr
 nc:Nat
 N:List Int
 E:Int
 qa:Option Addr
 qc:Nat
 Q:List Int
abbrev AnV.val(A:AnV):Value:= .agg #[.bool A.fd,e7 A.num,e7 A.tm,.slice A.sa A.S.length A.sc,e7 A.dn,e7 A.dd,.slice A.pa A.P.length A.pc,.slice A.oa A.O.length A.oc,.slice A.na A.N.length A.nc,e7 A.E,.slice A.qa A.Q.length A.qc]
abbrev AnV.items(A:AnV)(I:List Item):List Item:=vc 3 (.slice A.sa A.S.length A.sc) A.S::vc 117 (.slice A.pa A.P.length A.pc) A.P::vc 3 (.slice A.oa A.O.length A.oc) A.O::vc 3 (.slice A.na A.N.length A.nc) A.N::vc 3 (.slice A.qa A.Q.length A.qc) A.Q::I
def AnV.is(A:AnV)(fd:Bool)(num:Int)(S:List Int)(dn dd:Int)(P:List Pt):Prop:=A.fd=fd/\A.num=num/\A.S=S/\A.dn=dn/\A.dd=dd/\A.P=P
def AnV.ev(A:AnV)(O N:List Int)(E:Int)(Q:List Int):Prop:=A.O=O/\A.N=N/\A.E=E/\A.Q=Q
def AnV.zero(A:AnV):Prop:=A.is false 0 [] 0 0 []/\A.ev [] [] 0 []/\A.tm=0
theorem nv3{κ:Ctx}(J:List Item):Fit κ J (vc 3 (.slice none ([]:List Int).length 0) ([]:List Int)::J):=B9 (α:=Int) 3 J
theorem nvp{κ:Ctx}(J:List Item):Fit κ J (vc 117 (.slice none ([]:List Pt).length 0) ([]:List Pt)::J):=B9 (α:=Pt) _ J
structure GrP (nd:Int) (es:List Pt) (K node lv:Int) (S:List Int) (A:AnV):Prop where
 k1:K=1->A.is true (e_ (coreN nd es) node) [] 0 0 []/\A.ev (coreO nd es) (coreN nd es) 0 []
 k2:K=2->A.is (decide (0<(((commG nd es node lv).length:Nat):Int))) 0 (commG nd es node lv) 0 0 []/\A.ev (coreO nd es) (coreN nd es) 0 []
 k3:K=3->∃y,EdgeR nd es S y A.fd A.num A.N A.O/\A.S=[]/\A.dn=0/\A.dd=0/\A.P=[]/\A.E=0/\A.Q=[]
 k4:K=4->A.is true 0 [] (densG nd es S).num (densG nd es S).den []/\A.ev [] [] 0 []
 k5:K=5->(∃B,BestR nd es A.dn A.dd B/\SplitB nd es A.dn A.dd A.E A.Q/\A.S=eo B)/\A.fd=true/\A.num=0/\A.P=[]/\A.O=[]/\A.N=[]
 k6:K=6->bestCl nd es A.S/\A.is true ((A.S.length:Nat):Int) A.S 0 0 []/\A.ev [] [] 0 []
 k7:K=7->A.is true (triS nd es / 3) [] 0 0 []/\A.ev [] [] 0 []
def stepS(N:Int->Int)(X:List Pt)(t:Int):List Pt:=if 0<X.length/\(e_ X ((X.length:Int) - 1)).v=N t then X else X++[⟨t,N t⟩]
def spanK(N:Int->Int)(E:List Ev)(j:Nat):List Pt:=((E.take j).map Ev.tm).foldl (stepS N) (stepS N [] 0)
structure AnsP (nd kd wd mo:Int) (es:List Ev) (K node lv tq:Int) (S:List Int) (num den:Int) (A:AnV):Prop where
 g:K<=7->GrP nd (atG kd wd mo es tq) K node lv S A/\A.tm=0
 k8:K=8->∃tv ok,FirstP kd wd mo es (reachQ nd kd wd mo es num den) tv ok/\(ok=true->GrP nd (atG kd wd mo es tv) 5 0 0 [] A/\A.tm=tv)/\(ok=false->A.zero)
 k9:K=9->∃tv ok,FirstP kd wd mo es (togQ nd kd wd mo es S lv) tv ok/\(ok=true->A.is true 0 (commG nd (atG kd wd mo es tv) (e_ S 0) lv) 0 0 []/\A.ev [] [] 0 []/\A.tm=tv)/\(ok=false->A.zero)
 k10:K=10->A.is true 0 [] 0 0 (spanK (numT nd kd wd mo es node) (allE kd wd mo es) (allE kd wd mo es).length)/\A.ev [] [] 0 []/\A.tm=0
section
variable {N:Int->Int}{X:List Pt}{E:List Ev}{fst own:Bool}{j j1:Nat}{tm t:Int}
theorem stepS_len:0<(stepS N X t).length/\(stepS N X t).length<=X.length+1:=by
 unfold stepS
 split
 ·omega
 ·simp
theorem stepS_twice:stepS N (stepS N X t) t=stepS N X t:=by
 unfold stepS
 split
 ·rfl
 ·rw [if_pos]
  refine ⟨by simp,?_⟩
  rw [show (((X++[(⟨t,N t⟩:Pt)]).length:Nat):Int) - 1=((X.length:Nat):Int) by (simp<;>omega),at_last]
theorem spanK_succ(h:j<E.length):spanK N E (j+1)=stepS N (spanK N E j) (e_ E j).tm:=by
 unfold spanK
 rw [Di E j h,List.map_append,List.foldl_append];rfl
theorem spanK_same(hs:∀i:Nat,j<=i->i<j1->(e_ E i).tm=tm)(hl:j1<=E.length):∀d:Nat,j+d<=j1->X=stepS N (spanK N E j) tm->stepS N (spanK N E (j+d)) tm=X
 |0,_,e=>e.symm
 |d+1,h,e=>by
  rw [←Nat.add_assoc,spanK_succ om,hs (j+d) om om,stepS_twice]
  exact spanK_same hs hl d om e
theorem span_mom(hM:MomentX E fst j tm own j1)(hq:(fst=true->X=[])/\(fst=false->X=spanK N E j)):stepS N X tm=spanK N E j1:=by
 have hl:=hM.le
 cases hf:fst with
 |true=>
  obtain ⟨e1,e2⟩:=hM.first hf
  subst e1 e2
  rw [hq.1 hf]
  have key:∀d:Nat,d<=j1->spanK N E d=stepS N [] 0:=λd=>by
   induction d with
   |zero=>intro _;rfl
   |succ d ih=>
    intro h
    rw [spanK_succ om,ih om,hM.same d om om,stepS_twice]
  exact (key j1 (Nat.le_refl _)).symm
 |false=>
  have hadv:=hM.adv hf
  rw [hq.2 hf,←spanK_same (N:=N) (λi h1 h2=>hM.same i h1 h2) hl.2 (j1 - 1 - j) om rfl,show j+(j1 - 1 - j)=j1 - 1 by omega]
  have:=spanK_succ (N:=N) (E:=E) (j:=j1 - 1) om
  rw [show j1 - 1+1=j1 by omega,hM.same (j1 - 1) om om] at this
  exact this.symm
theorem spanK_len:∀j:Nat,j<=E.length->0<(spanK N E j).length/\(spanK N E j).length<=j+1
 |0,_=>by have:=stepS_len (N:=N) (X:=[]) (t:=0);exact ⟨this.1,this.2⟩
 |j+1,h=>by
  rw [spanK_succ om]
  have h1:=stepS_len (N:=N) (X:=spanK N E j) (t:=(e_ E j).tm)
  have h2:=spanK_len j om
  omega
theorem spanq_len(hM:MomentX E fst j tm own j1)(hall:E.length<=57)(hq:(fst=true->X=[])/\(fst=false->X=spanK N E j)):X.length<=58:=by
 have h1:=hM.le
 cases hf:fst with
 |true=>rw [hq.1 hf];simp
 |false=>
  rw [hq.2 hf]
  have:=(spanK_len (N:=N) (E:=E) j om).2
  omega
end
set_option maxHeartbeats 2000000 in
theorem AHistF_ok{κ:Ctx}{I:List Item}{nd kd wd mo v:Int}{ea:Option Addr}{ec:Nat}{es:List Ev}(hl:Sl κ I (.slice ea es.length ec) es)(hH:HistOk nd kd wd mo es)(hlen:es.length<=19)(hv:0<=v/\v<nd)(hT:TabRd κ I 0 tzCells):eu Tryz.prog κ 52 [e7 nd,.slice ea es.length ec,.agg #[e7 kd,e7 wd,e7 mo],e7 v] I (λr J=>∃a c X,r = .tuple #[.slice a X.length c,e7 0]/\X=spanK (numT nd kd wd mo es v) (allE kd wd mo es) (allE kd wd mo es).length/\J=vc 117 (.slice a X.length c) X::I):=by
 have hall:(allE kd wd mo es).length<=57:=allE_len hH hlen
 refine eu.enterM (L:=[(0,e7 nd),(1,.slice ea es.length ec),(2,.agg #[e7 kd,e7 wd,e7 mo]),(3,e7 v)]) Tryz.func52 C C C C ?_
 refine Aj (Ge1 (Bg (cs:=[_,_,_]) C C C) λb1=>Ge1 (Bg (cs:=[_]) C C C) λb2=>Ge1 (A9 ty81 C) λb3=>Ge1 (A9 ty36 C) λb4=>Ah (Au (Aj (Gm C (Gm C (Gl3 ty31 ?_))))))
 refine Gc0 (Am call97 C C (ACheck_ok (nd:=nd) (kd:=kd) (wd:=wd) (mo:=mo) (Bj hl))) ?_
 refine Ga C (Ah (Aj (Gm C (Gr (Bx C C) (Ah (Av (S8 21 10 9 8 7 6 0 1 C C C C C C C C) (Bd C (λc21=>?_) (λc21=>?_))))))))
 ·exact absurd (slideE_zeroH hH) c21
 ·refine A4 (Ai (Au (Aj (Gl ef ?_))))
  refine Gr (Bi C C) (Gm C (Bs (d:=25) C (λg25=>?_) (λg25=>?_)))
  ·omega
  ·refine e9 (As ef) ?_
   refine e9 (Af C) (e9 (Cu C C) (Gr (Al C C) (Ah (Av (S7 29 9 8 7 6 0 1 C C C C C C C) (Bd C (λc29=>?_) (λc29=>?_))))))
   ·omega
   ·refine A4 (Ai (Aj (Ge1 (A9 ty81 C) λb5=>Ah (Au (Aj (Gm C (Gm C (Gl3 ty31 ?_))))))))
    refine G.e (Am call98 C C Frames_ok) ?_
    rintro _ _ ⟨_,_,⟨qb6,qb7,qb8,rfl,rfl⟩,rfl,rfl⟩
    refine Ah (A6 (W.fit (J:=e8 b5 [.slice none 0 0] 81::vc 117 (.slice none 0 0) (([]:List Pt))::e8 qb8 [e7 kd,e7 wd,e7 mo] 31::e8 qb7 [.slice ea es.length ec] 28::e8 qb6 [e7 nd] 3::e8 b4 [e7 0] 36::e8 b3 [.slice none 0 0] 81::e8 b2 [e7 v] 3::e8 b1 [e7 kd,e7 wd,e7 mo] 31::I) (A8 (B9 (α:=Pt) 117 _) Bv) ?_))
    refine W.rangeFnB (gf:=165) (lb:=[.pointer (some ⟨qb6,0,none⟩),.pointer (some ⟨qb7,0,none⟩),.pointer (some ⟨qb8,0,none⟩)]) C call165 λDm l rc hr1 hr2 hr3 hr4 hta=>?_
    refine (Frames1_ok (I:=e8 qb8 [e7 kd,e7 wd,e7 mo] 31::e8 qb7 [.slice ea es.length ec] 28::e8 qb6 [e7 nd] 3::e8 b4 [e7 0] 36::e8 b3 [.slice none 0 0] 81::e8 b2 [e7 v] 3::e8 b1 [e7 kd,e7 wd,e7 mo] 31::I) (σ:=(Option Addr)×Nat×(List Pt)) (τ:=Nat) (l:=l) (Lf:=λs=>[recI l rc,dfrI Dm,e8 b5 [.slice s.1 s.2.2.length s.2.1] 81,vc 117 (.slice s.1 s.2.2.length s.2.1) (s.2.2)]) (Pf:=λfst j s=>((fst=true->s.2.2=[])/\(fst=false->s.2.2=spanK (numT nd kd wd mo es v) (allE kd wd mo es) j))) (Xf:=λs=>[recI l {rc with state:= .done,pending:=some .ret},dfrI Dm,e8 b5 [.slice none 0 0] 81]) (Qf:=λs=>(False)) (s0:=(none,0,([]:List Pt))) hH hlen (C2 mm) (C2 mm) (C2 mm) (Bj hl) ⟨λ_=>rfl,λh=>(by cases h)⟩ ?_).mono ?_
    ·rintro T hTI fst j tm own j1 ga gc hM ⟨a,c,X⟩ hp
     have hq:((fst=true->X=[])/\(fst=false->X=spanK (numT nd kd wd mo es v) (allE kd wd mo es) j)):=hp
     have hbq:BlkRd κ T b2 [e7 v] 3:=(C2 (I:=e8 qb8 [e7 kd,e7 wd,e7 mo] 31::e8 qb7 [.slice ea es.length ec] 28::e8 qb6 [e7 nd] 3::e8 b4 [e7 0] 36::e8 b3 [.slice none 0 0] 81::e8 b2 [e7 v] 3::e8 b1 [e7 kd,e7 wd,e7 mo] 31::I) mm).fit hTI
     have hTT:TabRd κ T 0 tzCells:=(Bw (J:=e8 qb8 [e7 kd,e7 wd,e7 mo] 31::e8 qb7 [.slice ea es.length ec] 28::e8 qb6 [e7 nd] 3::e8 b4 [e7 0] 36::e8 b3 [.slice none 0 0] 81::e8 b2 [e7 v] 3::e8 b1 [e7 kd,e7 wd,e7 mo] 31::I) hT Ay).fit hTI
     have hmg:=mom_graph hH hM
     have hGr:GrOk nd (edgesK (eh ((allE kd wd mo es).take j1))):=by rw [hmg];exact hH.graph tm
     have hcz:=checkG_ok.2 hGr
     have hcn:=coreN_lenG hGr
     have hNN:e_ (coreN nd (edgesK (eh ((allE kd wd mo es).take j1)))) v=(numT nd kd wd mo es v) tm:=by rw [hmg];rfl
     have hXl:X.length<=58:=spanq_len hM hall hq
     refine YieldB.fit (J:=recI l rc::vc 135 (.slice ga (edgesK (eh ((allE kd wd mo es).take j1))).length gc) (edgesK (eh ((allE kd wd mo es).take j1)))::dfrI Dm::e8 b5 [.slice a X.length c] 81::vc 117 (.slice a X.length c) (X)::T) Bv ?_
     refine YieldB.mkA (L₀:=[(35,.agg #[e7 nd,.slice ga (edgesK (eh ((allE kd wd mo es).take j1))).length gc]),(34,.agg #[e7 tm,.bool own]),(33,.func (.func 165) #[] #[.pointer (some ⟨qb6,0,none⟩),.pointer (some ⟨qb7,0,none⟩),.pointer (some ⟨qb8,0,none⟩)]),(32,.agg #[e7 kd,e7 wd,e7 mo]),(31,.slice ea es.length ec),(30,e7 nd),(11,.pointer (some ⟨b5,0,none⟩)),(29,.bool (decide (nd<=v))),(9,.pointer (some ⟨b4,0,none⟩)),(8,.pointer (some ⟨b3,0,none⟩)),(7,.pointer (some ⟨b2,0,none⟩)),(6,.pointer (some ⟨b1,0,none⟩)),(0,e7 nd),(1,.slice ea es.length ec)]) (by rw [hr2];rfl) hr3 hr4 (by rw [hr2,fold_two];exact ag_two hta C C) ?_
     refine Ey ?_
     refine Dq (λ_ _ h=>False.elim h) C ?_
     refine Ge1 (A9 ty153 C) λb9=>Ge0 (Cs ty153) ?_
     refine Bf (D6 ?_)
     refine Fb (L':=[(12,_),(35,_),(11,_),(9,_),(8,_),(7,_)]) (Aa C (Aa C (Aa C (Aa C (Aa C (Aa C Bq)))))) ?_
     refine Dq (λ_ _ h=>False.elim h) C ?_
     refine Ge1 (A9 ty48 C) λb10=>Ge0 (Cs ty48) ?_
     refine Bf (V.begin (e8 b10 [e7 nd,.slice ga (edgesK (eh ((allE kd wd mo es).take j1))).length gc] 48::e8 b9 [e7 tm,.bool own] 153::vc 135 (.slice ga (edgesK (eh ((allE kd wd mo es).take j1))).length gc) (edgesK (eh ((allE kd wd mo es).take j1)))::dfrI Dm::e8 b5 [.slice a X.length c] 81::vc 117 (.slice a X.length c) (X)::T) Bv hr1 ?_)
     refine WR.block ?_
     refine Ey ?_
     refine Dq (λ_ _ h=>False.elim h) C ?_
     refine Gl2 ty48 ?_
     refine Gc2 (Am call104 C C (CNumbers_ok (nd:=nd) Bk (Bw hTT Ay))) λad11 cp12=>?_
     refine Gm C (Gr (Ax C C) (Gr (Ax C C) (Ga C (Ga C (Bf (D6 ?_))))))
     refine Fb (L':=[(15,_),(14,_),(12,_),(11,_),(9,_),(8,_),(7,_)]) (Aa C (Aa C (Aa C (Aa C (Aa C (Aa C (Aa C Bq))))))) ?_
     refine Ey ?_
     refine Ey ?_
     refine Dq (λ_ _ h=>False.elim h) C ?_
     refine Gm C (Gr (Bx C C) (Bf (D6 ?_)))
     refine WR.ite C (λc42=>?_) (λc42=>?_)
     ·exact absurd hcz c42
     ·refine WR.skip ?_
      refine D6 ?_
      refine Ey ?_
      refine WR.drawn mixed (λ_ _ h=>False.elim h) C ?_
      refine C7 17 (Dr 0 C (As ty81) ?_)
      refine Dr 1 C (Bz Cl C) (Dr 2 C (Bl C C) (Dr 3 C (Af C) (D4 (d:=47) C (λg47=>?_) (λg47=>?_))))
      ·refine Dpo 4 C (Dpo 5 C (Dpo 6 C (Dpo 7 C (Dpo 8 C (Dpo 9 C (Dpo 10 C (Dpo 11 C (Dpo 12 C (Dpo 13 C (Dpo 14 C (Dpo 15 C (Dr 16 C (Ap C C) (Dz (D6 ?_))))))))))))))
       refine Fb (L':=[(60,_),(14,_),(12,_),(11,_),(7,_)]) (Aa C (Aa C (Aa C (Aa C (Aa C Bq))))) ?_
       refine WR.yes C ?_
       refine WR.drawn mixed (λ_ _ h=>False.elim h) C ?_
       refine C9 (vc 3 (.slice ad11 (coreN nd (edgesK (eh ((allE kd wd mo es).take j1)))).length cp12) (coreN nd (edgesK (eh ((allE kd wd mo es).take j1))))::recI l {rc with state:= .busy}::e8 b10 [e7 nd,.slice ga (edgesK (eh ((allE kd wd mo es).take j1))).length gc] 48::e8 b9 [e7 tm,.bool own] 153::vc 135 (.slice ga (edgesK (eh ((allE kd wd mo es).take j1))).length gc) (edgesK (eh ((allE kd wd mo es).take j1)))::dfrI Dm::T) 11 (Dr 1 C (Ab fld153_0 C) (Dr 2 C (As ef) ?_))
       refine Dr 3 C (Af C) (Dr 4 C (C6 ef C (C5 hbq Ay) C) (Dr 5 C (A2 (α:=Int) (xs:=coreN nd (edgesK (eh ((allE kd wd mo es).take j1)))) Ad ef C C Bk om om) (Dr 6 C (B3 (xs:=coreN nd (edgesK (eh ((allE kd wd mo es).take j1)))) ef C Bk om om) (Dr 7 C (Bc (cells:=[_,_]) ty117 Tryz.underlying117 pl117 C C) (Dv (rs:=[0,8]) kr C C (Ex ?_ (En ?_)))))))
       ·refine Sr C (As ty81) A5 ?_
        refine Ds1 8 (Se1 C (Cj (α:=Pt) (cs:=[_,_]) (xs:=[⟨tm,e_ (coreN nd (edgesK (eh ((allE kd wd mo es).take j1)))) v⟩]) Cl ty117 C C dc dc C C C C) λad13=>?_)
        refine Ds1 9 (Se2 C (Cn (α:=Pt) (e:=117) (xs:=X) (ys:=([⟨tm,e_ (coreN nd (edgesK (eh ((allE kd wd mo es).take j1)))) v⟩]:List Pt)) Cl ty117 C C C mm Bk lcn dc C (λ_ _=>am)) λad14 cp15=>?_)
        refine Ds1 10 (Se0 C (B4 (cs:=[_]) (vs:=[_]) (cs':=[_]) ty81) ?_)
        exact Dz (Ak (E5 (dfrI Dm::e8 b5 [.slice ad14 (X++([⟨tm,e_ (coreN nd (edgesK (eh ((allE kd wd mo es).take j1)))) v⟩]:List Pt)).length cp15] 81::vc 117 (.slice ad14 (X++([⟨tm,e_ (coreN nd (edgesK (eh ((allE kd wd mo es).take j1)))) v⟩]:List Pt)).length cp15) ((X++([⟨tm,e_ (coreN nd (edgesK (eh ((allE kd wd mo es).take j1)))) v⟩]:List Pt)))::T) Bv hr1 (.inl ⟨rfl,(ad14,cp15,X++([⟨tm,e_ (coreN nd (edgesK (eh ((allE kd wd mo es).take j1)))) v⟩]:List Pt)),⟨(λh=>by cases h),λ_=>by have hS:=span_mom (N:=(numT nd kd wd mo es v)) hM hq;rw [←hS];unfold stepS;rw [if_neg (by first|exact λh=>absurd h.1 om|exact λh=>absurd (hNN.trans h.2.symm).symm asm|(rintro ⟨h,h2⟩;omega)),hNN]⟩,rfl⟩)))
       ·refine Se1 C (Cj (α:=Pt) (cs:=[_,_]) (xs:=[⟨tm,e_ (coreN nd (edgesK (eh ((allE kd wd mo es).take j1)))) v⟩]) Cl ty117 C C dc dc C C C C) λad16=>?_
        refine Ds1 0 (Sr C (As ty81) A5 ?_)
        refine Ds1 9 (Se2 C (Cn (α:=Pt) (e:=117) (xs:=X) (ys:=([⟨tm,e_ (coreN nd (edgesK (eh ((allE kd wd mo es).take j1)))) v⟩]:List Pt)) Cl ty117 C C C mm Bk lcn dc C (λ_ _=>am)) λad17 cp18=>?_)
        refine Ds1 10 (Se0 C (B4 (cs:=[_]) (vs:=[_]) (cs':=[_]) ty81) ?_)
        exact Dz (Ak (E5 (dfrI Dm::e8 b5 [.slice ad17 (X++([⟨tm,e_ (coreN nd (edgesK (eh ((allE kd wd mo es).take j1)))) v⟩]:List Pt)).length cp18] 81::vc 117 (.slice ad17 (X++([⟨tm,e_ (coreN nd (edgesK (eh ((allE kd wd mo es).take j1)))) v⟩]:List Pt)).length cp18) ((X++([⟨tm,e_ (coreN nd (edgesK (eh ((allE kd wd mo es).take j1)))) v⟩]:List Pt)))::T) Bv hr1 (.inl ⟨rfl,(ad17,cp18,X++([⟨tm,e_ (coreN nd (edgesK (eh ((allE kd wd mo es).take j1)))) v⟩]:List Pt)),⟨(λh=>by cases h),λ_=>by have hS:=span_mom (N:=(numT nd kd wd mo es v)) hM hq;rw [←hS];unfold stepS;rw [if_neg (by first|exact λh=>absurd h.1 om|exact λh=>absurd (hNN.trans h.2.symm).symm asm|(rintro ⟨h,h2⟩;omega)),hNN]⟩,rfl⟩)))
      ·refine Dro 4 C (As ty81) ?_
       refine Dro 5 C (As ty81) ?_
       refine Dro 6 C (Bz Cl C) (Dro 7 C (Rsu C C) (Dro 8 C (A2 (α:=Pt) (xs:=X) Cl ty117 C C Bk om om) (Dro 9 C (Es (α:=Pt) (xs:=X) fld117_1 C Bk om) (Dro 10 C (E3 (α:=Pt) (xs:=X) (u:=e7 ((e_ X (((X.length:Nat):Int) - 1)).v)) ef C Bk om om C) (Dro 11 C (Af C) (Dro 12 C (C6 ef C (C5 hbq Ay) C) (Dro 13 C (A2 (α:=Int) (xs:=coreN nd (edgesK (eh ((allE kd wd mo es).take j1)))) Ad ef C C Bk om om) (Dro 14 C (B3 (xs:=coreN nd (edgesK (eh ((allE kd wd mo es).take j1)))) ef C Bk om om) (Dro 15 C (Bx C C) (Dr 16 C (Al C C) (Dz (D6 ?_))))))))))))
       refine Fb (L':=[(60,_),(14,_),(12,_),(11,_),(7,_)]) (Aa C (Aa C (Aa C (Aa C (Aa C Bq))))) ?_
       refine WR.ite C (λc60=>?_) (λc60=>?_)
       ·refine WR.drawn mixed (λ_ _ h=>False.elim h) C ?_
        refine C9 (vc 3 (.slice ad11 (coreN nd (edgesK (eh ((allE kd wd mo es).take j1)))).length cp12) (coreN nd (edgesK (eh ((allE kd wd mo es).take j1))))::recI l {rc with state:= .busy}::e8 b10 [e7 nd,.slice ga (edgesK (eh ((allE kd wd mo es).take j1))).length gc] 48::e8 b9 [e7 tm,.bool own] 153::vc 135 (.slice ga (edgesK (eh ((allE kd wd mo es).take j1))).length gc) (edgesK (eh ((allE kd wd mo es).take j1)))::dfrI Dm::T) 11 (Dr 1 C (Ab fld153_0 C) (Dr 2 C (As ef) ?_))
        refine Dr 3 C (Af C) (Dr 4 C (C6 ef C (C5 hbq Ay) C) (Dr 5 C (A2 (α:=Int) (xs:=coreN nd (edgesK (eh ((allE kd wd mo es).take j1)))) Ad ef C C Bk om om) (Dr 6 C (B3 (xs:=coreN nd (edgesK (eh ((allE kd wd mo es).take j1)))) ef C Bk om om) (Dr 7 C (Bc (cells:=[_,_]) ty117 Tryz.underlying117 pl117 C C) (Dv (rs:=[0,8]) kr C C (Ex ?_ (En ?_)))))))
        ·refine Sr C (As ty81) A5 ?_
         refine Ds1 8 (Se1 C (Cj (α:=Pt) (cs:=[_,_]) (xs:=[⟨tm,e_ (coreN nd (edgesK (eh ((allE kd wd mo es).take j1)))) v⟩]) Cl ty117 C C dc dc C C C C) λad19=>?_)
         refine Ds1 9 (Se2 C (Cn (α:=Pt) (e:=117) (xs:=X) (ys:=([⟨tm,e_ (coreN nd (edgesK (eh ((allE kd wd mo es).take j1)))) v⟩]:List Pt)) Cl ty117 C C C mm Bk lcn dc C (λ_ _=>am)) λad20 cp21=>?_)
         refine Ds1 10 (Se0 C (B4 (cs:=[_]) (vs:=[_]) (cs':=[_]) ty81) ?_)
         exact Dz (Ak (E5 (dfrI Dm::e8 b5 [.slice ad20 (X++([⟨tm,e_ (coreN nd (edgesK (eh ((allE kd wd mo es).take j1)))) v⟩]:List Pt)).length cp21] 81::vc 117 (.slice ad20 (X++([⟨tm,e_ (coreN nd (edgesK (eh ((allE kd wd mo es).take j1)))) v⟩]:List Pt)).length cp21) ((X++([⟨tm,e_ (coreN nd (edgesK (eh ((allE kd wd mo es).take j1)))) v⟩]:List Pt)))::T) Bv hr1 (.inl ⟨rfl,(ad20,cp21,X++([⟨tm,e_ (coreN nd (edgesK (eh ((allE kd wd mo es).take j1)))) v⟩]:List Pt)),⟨(λh=>by cases h),λ_=>by have hS:=span_mom (N:=(numT nd kd wd mo es v)) hM hq;rw [←hS];unfold stepS;rw [if_neg (by first|exact λh=>absurd h.1 om|exact λh=>absurd (hNN.trans h.2.symm).symm asm|(rintro ⟨h,h2⟩;omega)),hNN]⟩,rfl⟩)))
        ·refine Se1 C (Cj (α:=Pt) (cs:=[_,_]) (xs:=[⟨tm,e_ (coreN nd (edgesK (eh ((allE kd wd mo es).take j1)))) v⟩]) Cl ty117 C C dc dc C C C C) λad22=>?_
         refine Ds1 0 (Sr C (As ty81) A5 ?_)
         refine Ds1 9 (Se2 C (Cn (α:=Pt) (e:=117) (xs:=X) (ys:=([⟨tm,e_ (coreN nd (edgesK (eh ((allE kd wd mo es).take j1)))) v⟩]:List Pt)) Cl ty117 C C C mm Bk lcn dc C (λ_ _=>am)) λad23 cp24=>?_)
         refine Ds1 10 (Se0 C (B4 (cs:=[_]) (vs:=[_]) (cs':=[_]) ty81) ?_)
         exact Dz (Ak (E5 (dfrI Dm::e8 b5 [.slice ad23 (X++([⟨tm,e_ (coreN nd (edgesK (eh ((allE kd wd mo es).take j1)))) v⟩]:List Pt)).length cp24] 81::vc 117 (.slice ad23 (X++([⟨tm,e_ (coreN nd (edgesK (eh ((allE kd wd mo es).take j1)))) v⟩]:List Pt)).length cp24) ((X++([⟨tm,e_ (coreN nd (edgesK (eh ((allE kd wd mo es).take j1)))) v⟩]:List Pt)))::T) Bv hr1 (.inl ⟨rfl,(ad23,cp24,X++([⟨tm,e_ (coreN nd (edgesK (eh ((allE kd wd mo es).take j1)))) v⟩]:List Pt)),⟨(λh=>by cases h),λ_=>by have hS:=span_mom (N:=(numT nd kd wd mo es v)) hM hq;rw [←hS];unfold stepS;rw [if_neg (by first|exact λh=>absurd h.1 om|exact λh=>absurd (hNN.trans h.2.symm).symm asm|(rintro ⟨h,h2⟩;omega)),hNN]⟩,rfl⟩)))
       ·refine WR.skip ?_
        exact Ak (E5 (dfrI Dm::e8 b5 [.slice a X.length c] 81::vc 117 (.slice a X.length c) (X)::T) Bv hr1 (.inl ⟨rfl,(a,c,X),⟨(λh=>by cases h),λ_=>by have hS:=span_mom (N:=(numT nd kd wd mo es v)) hM hq;rw [←hS];unfold stepS;rw [if_pos ⟨by omega,by rw [←hNN];exact Classical.not_not.1 c60⟩]⟩,rfl⟩))
    rintro v K ⟨rfl,(⟨⟨a,c,X⟩,hp,rfl⟩|⟨z_,hp,rfl⟩)⟩
    ·have hq:((false=true->X=[])/\(false=false->X=spanK (numT nd kd wd mo es v) (allE kd wd mo es) (allE kd wd mo es).length)):=hp
     refine .inl ⟨_,rfl,?_⟩
     show V κ _ _ .normal ([(33,.func (.func 165) #[] #[.pointer (some ⟨qb6,0,none⟩),.pointer (some ⟨qb7,0,none⟩),.pointer (some ⟨qb8,0,none⟩)]),(32,.agg #[e7 kd,e7 wd,e7 mo]),(31,.slice ea es.length ec),(30,e7 nd),(11,.pointer (some ⟨b5,0,none⟩)),(29,.bool (decide (nd<=v))),(9,.pointer (some ⟨b4,0,none⟩)),(8,.pointer (some ⟨b3,0,none⟩)),(7,.pointer (some ⟨b2,0,none⟩)),(6,.pointer (some ⟨b1,0,none⟩)),(0,e7 nd),(1,.slice ea es.length ec)]:Env) (dfrI Dm::e8 b5 [.slice a X.length c] 81::vc 117 (.slice a X.length c) (X)::e8 qb8 [e7 kd,e7 wd,e7 mo] 31::e8 qb7 [.slice ea es.length ec] 28::e8 qb6 [e7 nd] 3::e8 b4 [e7 0] 36::e8 b3 [.slice none 0 0] 81::e8 b2 [e7 v] 3::e8 b1 [e7 kd,e7 wd,e7 mo] 31::I)
     have hX:=hq.2 rfl
     refine Ak (Ai (Aj (Gl ty81 ?_)))
     refine Ge0 (B4 (cs:=[_]) (vs:=[_]) (cs':=[_]) ty81) ?_
     refine Ge0 (B4 (cs:=[_]) (vs:=[_]) (cs':=[_]) ty36) ?_
     refine Ah (Az (V.fit (J:=dfrI Dm::e8 b5 [.slice a X.length c] 81::vc 117 (.slice a X.length c) (X)::e8 qb8 [e7 kd,e7 wd,e7 mo] 31::e8 qb7 [.slice ea es.length ec] 28::e8 qb6 [e7 nd] 3::e8 b4 [e7 0] 36::e8 b3 [.slice a X.length c] 81::e8 b2 [e7 v] 3::e8 b1 [e7 kd,e7 wd,e7 mo] 31::I) Bv (V.leave ?_)))
     exact V.retvv C ty81 ty36 C C mm mm (vc 117 (.slice a X.length c) X::I) Bv ⟨a,c,X,rfl,hX,rfl⟩
    ·have hQ:(False):=hp
     refine .inr ⟨_,_,rfl,?_⟩
     refine Az (A3 (Ar ?_))
     exact hQ.elim
end Go.Sl
