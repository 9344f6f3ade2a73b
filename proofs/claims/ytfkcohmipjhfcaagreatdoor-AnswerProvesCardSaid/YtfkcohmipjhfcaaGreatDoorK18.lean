/- A part of the proofs of statements of this seat: contracts of functions, and the plain laws that they lean on. No conditions. -/
import Derived.Test.YtfkcohmipjhfcaaGreatDoorK17
set_option linter.unusedVariables false
set_option linter.unusedSimpArgs false
set_option linter.unusedSectionVars false
open Go.Proofs.Tryz (prog)
open List (replicate)
namespace Go.Sl
open Go.Proofs
set_option maxRecDepth 4000
variable {κ:Ctx}{I:List Item}
theorem HCheck_ok{nd:Int}{va:Value}{es:List Ev}(hl:Sl κ I va es):eu prog κ 79 [e7 nd,va] I (λr J=>r=e7 (streamE nd es)/\I=J):=by
 refine Ce2 Tryz.func79 C C ?_
 refine Ai (Ga C (Af (Ai (Gm C (Gm C (G.e (Ah call139 C C (Stream_ok (nd:=nd) (Ba hl))) ?_))))))
 rintro _ _ ⟨_,_,⟨rfl,rfl⟩,rfl,rfl⟩
 exact Ga C (Af (A2 (A6 C C I A3 ⟨rfl,rfl⟩)))
theorem ACheck_ok{nd kd wd mo:Int}{va:Value}{es:List Ev}(hl:Sl κ I va es):eu prog κ 97 [e7 nd,va,.agg #[e7 kd,e7 wd,e7 mo]] I (λr J=>r=e7 (slideE nd kd wd mo es)/\I=J):=by
 refine Ce3 Tryz.func97 C C ?_
 refine Ai (Ge1 (A9 (cs:=[_,_,_]) C C C) λb1=>Ga C (Af (Ap (Ai (Gl3 ty31 ?_)))))
 refine G.e (Ah call78 C C (CheckW_ok kd wd mo)) ?_
 rintro _ _ ⟨_,_,⟨rfl,rfl⟩,rfl,rfl⟩
 refine Ga C (Af (Ai (Gm C (Gr (Br C C) (Af (A8 C (λc11=>?_) (λc11=>?_)))))))
 ·exact Ai (Gm C (Ga C (Af (A2 (Am (A6 C C I A3 ⟨by unfold slideE;rw [if_pos c11],rfl⟩))))))
 ·refine Ay (Aj (Ai (Gm C (Gm C (Gc0 (Ah call79 C C (HCheck_ok (nd:=nd) (Ba hl))) ?_)))))
  exact Ga C (Af (Aq (S1 6 C) (A2 (A6 C C I A3 ⟨by unfold slideE;rw [if_neg c11],rfl⟩))))
theorem Frames_ok{nd kd wd mo:Int}{ea:Option Addr}{en ec:Nat} :
    eu prog κ 98 [e7 nd,.slice ea en ec,.agg #[e7 kd,e7 wd,e7 mo]] I (λr J=>∃q1 q2 q3,r = .func (.func 165) #[] #[.pointer (some ⟨q1,0,none⟩),.pointer (some ⟨q2,0,none⟩),.pointer (some ⟨q3,0,none⟩)]/\J=e8 q3 [e7 kd,e7 wd,e7 mo] 31::e8 q2 [.slice ea en ec] 28::e8 q1 [e7 nd] 3::I):=by
 refine Ce3 Tryz.func98 C C ?_
 exact Ai (Ge1 (A9 (cs:=[_]) C C C) λb1=>Ge1 (A9 (cs:=[_]) C C C) λb2=>Ge1 (A9 (cs:=[_,_,_]) C C C) λb3=>Ga C (Af (Ai (Gr (Ej C C) (Ga C (Af (A2 (A6 C C (e8 b3 [e7 kd,e7 wd,e7 mo] 31::e8 b2 [.slice ea en ec] 28::e8 b1 [e7 nd] 3::I) (Fit.refl _) ⟨b1,b2,b3,rfl,rfl⟩))))))))
theorem at_end{kd wd mo tq:Int}{es:List Ev}(h:∀i:Nat,i<(allE kd wd mo es).length->(e_ (allE kd wd mo es) i).tm<=tq):edgesK (eh ((allE kd wd mo es).take (allE kd wd mo es).length))=atG kd wd mo es tq:=by
 unfold atG
 rw [atK_stop (Nat.le_refl _) h λhlt=>absurd hlt (Nat.lt_irrefl _)]
theorem at_stop{kd wd mo tq:Int}{es:List Ev}{j:Nat}(hj:j<(allE kd wd mo es).length)(h:∀i:Nat,i<j->(e_ (allE kd wd mo es) i).tm<=tq)(h2:tq<(e_ (allE kd wd mo es) j).tm):edgesK (eh ((allE kd wd mo es).take j))=atG kd wd mo es tq:=by
 unfold atG
 rw [atK_stop (Nat.le_of_lt hj) h λ_=>h2]
theorem atm_all{E:List Ev}{fst own:Bool}{j j1:Nat}{tm tq:Int}(hM:MomentX E fst j tm own j1)(hle:tm<=tq)(hq:fst=false->∀i:Nat,i<j->(e_ E i).tm<=tq):∀i:Nat,i<j1->(e_ E i).tm<=tq:=λi hi=>by
 by_cases h:i<j
 ·cases hf:fst with
  |true=>have:=(hM.first hf).2;omega
  |false=>exact hq hf i h
 ·rw [hM.same i om hi];exact hle
theorem at_left{kd wd mo nd gn tm tq:Int}{es:List Ev}{X:List Pt}{fst own:Bool}{j j1:Nat}(hM:MomentX (allE kd wd mo es) fst j tm own j1)(hjl:j<=(allE kd wd mo es).length)(hlt:tq<tm)(h0:0<=tq)
  (hq:fst=false->gn=nd/\X=edgesK (eh ((allE kd wd mo es).take j))/\∀i:Nat,i<j->(e_ (allE kd wd mo es) i).tm<=tq):gn=nd/\X=atG kd wd mo es tq:=by
 cases hf:fst with
 |true=>have:=(hM.first hf).1;omega
 |false=>
  obtain ⟨h1,h2⟩:=hM.next hf
  obtain ⟨q1,q2,q3⟩:=hq hf
  exact ⟨q1,q2.trans (at_stop h1 q3 om)⟩
set_option maxHeartbeats 2000000 in
theorem At_ok{nd kd wd mo tq:Int}{ea:Option Addr}{ec:Nat}{es:List Ev}(hl:Sl κ I (.slice ea es.length ec) es)(hH:HistOk nd kd wd mo es)(hlen:es.length<=19)(ht:0<=tq/\tq<=1048576):eu prog κ 44 [e7 nd,.slice ea es.length ec,.agg #[e7 kd,e7 wd,e7 mo],e7 tq] I (λr J=>∃a c,r = .tuple #[.agg #[e7 nd,.slice a (atG kd wd mo es tq).length c],e7 0]/\J=vc 135 (.slice a (atG kd wd mo es tq).length c) (atG kd wd mo es tq)::I):=by
 refine eu.enterM (L:=[(0,e7 nd),(1,.slice ea es.length ec),(2,.agg #[e7 kd,e7 wd,e7 mo]),(3,e7 tq)]) Tryz.func44 C C C C ?_
 refine Ai (Ge1 (A9 (cs:=[_,_,_]) C C C) λb1=>Ge1 (A9 (cs:=[_]) C C C) λb2=>Ge1 (Au ty48 C) λb3=>Ga C (Af (Ap (Ai (Gm C (Gm C (Gl3 ty31 ?_)))))))
 refine Gc0 (Ah call97 C C (ACheck_ok (nd:=nd) (kd:=kd) (wd:=wd) (mo:=mo) (Ba hl))) ?_
 refine Ga C (Af (Ai (Gm C (Gr (Br C C) (Af (Aq (S7 19 10 8 7 6 0 1 C C C C C C C) (A8 C (λc19=>?_) (λc19=>?_))))))))
 ·exact absurd (slideE_zeroH hH) c19
 ·refine Ay (Aj (Ap (Ai (Gl ef ?_))))
  refine Gr (A7 C C) (Gm C (Bg (d:=24) C (λg24=>?_) (λg24=>?_)))
  ·omega
  ·refine e9 (As ef) ?_
   refine e9 (Bw C C) (Gr (Ao C C) (Af (Aq (S6 27 8 7 6 0 1 C C C C C C) (A8 C (λc27=>?_) (λc27=>?_)))))
   ·omega
   ·refine Ay (Aj (Ai (Ge1 (Au ty48 C) λb4=>Af (Ap (Ai (Gm C (Gm C (Gl3 ty31 ?_))))))))
    refine G.e (Ah call98 C C Frames_ok) ?_
    rintro _ _ ⟨_,_,⟨qb5,qb6,qb7,rfl,rfl⟩,rfl,rfl⟩
    refine Af (A0 (W.fit (J:=e8 b4 [e7 0,.slice none 0 0] 48::vc 135 (.slice none 0 0) (([]:List Pt))::e8 qb7 [e7 kd,e7 wd,e7 mo] 31::e8 qb6 [.slice ea es.length ec] 28::e8 qb5 [e7 nd] 3::e8 b3 [e7 0,.slice none 0 0] 48::e8 b2 [e7 tq] 3::e8 b1 [e7 kd,e7 wd,e7 mo] 31::I) (Cn (B2 (α:=Pt) 135 _) B7) ?_))
    refine W.rangeFnB (gf:=165) (lb:=[.pointer (some ⟨qb5,0,none⟩),.pointer (some ⟨qb6,0,none⟩),.pointer (some ⟨qb7,0,none⟩)]) C call165 λDm l rc hr1 hr2 hr3 hr4 hta=>?_
    refine (Frames1_ok (I:=e8 qb7 [e7 kd,e7 wd,e7 mo] 31::e8 qb6 [.slice ea es.length ec] 28::e8 qb5 [e7 nd] 3::e8 b3 [e7 0,.slice none 0 0] 48::e8 b2 [e7 tq] 3::e8 b1 [e7 kd,e7 wd,e7 mo] 31::I) (σ:=Int×(Option Addr)×Nat×(List Pt)) (τ:=Int×(Option Addr)×Nat×(List Pt)) (l:=l) (Lf:=λs=>[recI l rc,dfrI Dm,e8 b4 [e7 (s.1),.slice s.2.1 s.2.2.2.length s.2.2.1] 48,vc 135 (.slice s.2.1 s.2.2.2.length s.2.2.1) (s.2.2.2)]) (Pf:=λfst j s=>(fst=false->s.1=nd/\s.2.2.2=edgesK (eh ((allE kd wd mo es).take j))/\∀i:Nat,i<j->(e_ (allE kd wd mo es) i).tm<=tq)/\(j<=(allE kd wd mo es).length)) (Xf:=λs=>[recI l {rc with state:= .done,pending:=some (.exit 0)},dfrI Dm,e8 b4 [e7 (s.1),.slice s.2.1 s.2.2.2.length s.2.2.1] 48,vc 135 (.slice s.2.1 s.2.2.2.length s.2.2.1) (s.2.2.2)]) (Qf:=λs=>(s.1=nd/\s.2.2.2=atG kd wd mo es tq)) (s0:=(0,none,0,([]:List Pt))) hH hlen (Do mm) (Do mm) (Do mm) (Ba hl) ⟨λh=>(by cases h),Nat.zero_le _⟩ ?_).mono ?_
    ·rintro T hTI fst j tm own j1 ga gc hM ⟨gn,a,c,X⟩ hp
     obtain ⟨hq,hjl⟩:(fst=false->gn=nd/\X=edgesK (eh ((allE kd wd mo es).take j))/\∀i:Nat,i<j->(e_ (allE kd wd mo es) i).tm<=tq)/\(j<=(allE kd wd mo es).length):=hp
     have hbq:BlkRd κ T b2 [e7 tq] 3:=(Do (I:=e8 qb7 [e7 kd,e7 wd,e7 mo] 31::e8 qb6 [.slice ea es.length ec] 28::e8 qb5 [e7 nd] 3::e8 b3 [e7 0,.slice none 0 0] 48::e8 b2 [e7 tq] 3::e8 b1 [e7 kd,e7 wd,e7 mo] 31::I) mm).fit hTI
     refine YieldB.fit (J:=recI l rc::vc 135 (.slice ga (edgesK (eh ((allE kd wd mo es).take j1))).length gc) (edgesK (eh ((allE kd wd mo es).take j1)))::dfrI Dm::e8 b4 [e7 gn,.slice a X.length c] 48::vc 135 (.slice a X.length c) (X)::T) B7 ?_
     refine YieldB.mkA (L₀:=[(34,.agg #[e7 nd,.slice ga (edgesK (eh ((allE kd wd mo es).take j1))).length gc]),(33,.agg #[e7 tm,.bool own]),(32,.func (.func 165) #[] #[.pointer (some ⟨qb5,0,none⟩),.pointer (some ⟨qb6,0,none⟩),.pointer (some ⟨qb7,0,none⟩)]),(31,.agg #[e7 kd,e7 wd,e7 mo]),(30,.slice ea es.length ec),(29,e7 nd),(11,.pointer (some ⟨b4,0,none⟩)),(27,.bool (decide (1048576<tq))),(8,.pointer (some ⟨b3,0,none⟩)),(7,.pointer (some ⟨b2,0,none⟩)),(6,.pointer (some ⟨b1,0,none⟩)),(0,e7 nd),(1,.slice ea es.length ec)]) (by rw [hr2];rfl) hr3 hr4 (by rw [hr2,fold_two];exact ag_two hta C C) ?_
     refine WR.seq ?_
     refine Eg (λ_ _ h=>False.elim h) C ?_
     refine Ge1 (Au ty153 C) λb8=>Ge0 (Bq ty153) ?_
     refine Bi (V.thenR ?_)
     refine WR.sub (L':=[(12,_),(34,_),(11,_),(7,_)]) (Aa C (Aa C (Aa C (Aa C Bp)))) ?_
     refine Eg (λ_ _ h=>False.elim h) C ?_
     refine Ge1 (Au ty48 C) λb9=>Ge0 (Bq ty48) ?_
     refine Bi (V.begin (e8 b9 [e7 nd,.slice ga (edgesK (eh ((allE kd wd mo es).take j1))).length gc] 48::e8 b8 [e7 tm,.bool own] 153::vc 135 (.slice ga (edgesK (eh ((allE kd wd mo es).take j1))).length gc) (edgesK (eh ((allE kd wd mo es).take j1)))::dfrI Dm::e8 b4 [e7 gn,.slice a X.length c] 48::vc 135 (.slice a X.length c) (X)::T) B7 hr1 ?_)
     refine WR.block ?_
     refine WR.seq ?_
     refine WR.seq ?_
     refine Eg (λ_ _ h=>False.elim h) C ?_
     refine Gf fld153_0 C (Gl ef ?_)
     refine Gr (Dq ef C (Dk hbq A3) C) (Gr (Bw C C) (Bi (V.thenR ?_)))
     refine WR.ite C (λc38=>?_) (λc38=>?_)
     ·refine WR.exit ?_
      exact Al (B6 C (V.roundX (dfrI Dm::e8 b4 [e7 gn,.slice a X.length c] 48::vc 135 (.slice a X.length c) (X)::T) B7 (.inr ⟨rfl,(gn,a,c,X),(show (gn=nd/\X=atG kd wd mo es tq) from (at_left hM hjl om om hq)),rfl⟩)))
     ·refine WR.skip ?_
      refine V.thenR ?_
      refine Eg (λ_ _ h=>False.elim h) C ?_
      refine Gl2 ty48 ?_
      refine Ge0 (Bq ty48) ?_
      refine Bi (Ak ?_)
      have hall:∀i:Nat,i<j1->(e_ (allE kd wd mo es) i).tm<=tq:=atm_all hM om (λh=>(hq h).2.2)
      exact V.roundB (dfrI Dm::e8 b4 [e7 nd,.slice ga (edgesK (eh ((allE kd wd mo es).take j1))).length gc] 48::vc 135 (.slice ga (edgesK (eh ((allE kd wd mo es).take j1))).length gc) ((edgesK (eh ((allE kd wd mo es).take j1))))::T) B7 hr1 (.inl ⟨rfl,(nd,ga,gc,edgesK (eh ((allE kd wd mo es).take j1))),(show (false=false->nd=nd/\(edgesK (eh ((allE kd wd mo es).take j1)))=edgesK (eh ((allE kd wd mo es).take j1))/\∀i:Nat,i<j1->(e_ (allE kd wd mo es) i).tm<=tq)/\(j1<=(allE kd wd mo es).length) from ⟨(λ_=>⟨rfl,rfl,hall⟩),hM.le.2⟩),rfl⟩)
    rintro v K ⟨rfl,(⟨⟨gn,a,c,X⟩,hp,rfl⟩|⟨⟨gn,a,c,X⟩,hp,rfl⟩)⟩
    ·obtain ⟨hq,hjl⟩:(false=false->gn=nd/\X=edgesK (eh ((allE kd wd mo es).take (allE kd wd mo es).length))/\∀i:Nat,i<(allE kd wd mo es).length->(e_ (allE kd wd mo es) i).tm<=tq)/\((allE kd wd mo es).length<=(allE kd wd mo es).length):=hp
     refine .inl ⟨_,rfl,?_⟩
     show V κ _ _ .normal ([(32,.func (.func 165) #[] #[.pointer (some ⟨qb5,0,none⟩),.pointer (some ⟨qb6,0,none⟩),.pointer (some ⟨qb7,0,none⟩)]),(31,.agg #[e7 kd,e7 wd,e7 mo]),(30,.slice ea es.length ec),(29,e7 nd),(11,.pointer (some ⟨b4,0,none⟩)),(27,.bool (decide (1048576<tq))),(8,.pointer (some ⟨b3,0,none⟩)),(7,.pointer (some ⟨b2,0,none⟩)),(6,.pointer (some ⟨b1,0,none⟩)),(0,e7 nd),(1,.slice ea es.length ec)]:Env) (dfrI Dm::e8 b4 [e7 gn,.slice a X.length c] 48::vc 135 (.slice a X.length c) (X)::e8 qb7 [e7 kd,e7 wd,e7 mo] 31::e8 qb6 [.slice ea es.length ec] 28::e8 qb5 [e7 nd] 3::e8 b3 [e7 0,.slice none 0 0] 48::e8 b2 [e7 tq] 3::e8 b1 [e7 kd,e7 wd,e7 mo] 31::I)
     have hX:X=atG kd wd mo es tq:=(hq rfl).2.1.trans (at_end (hq rfl).2.2)
     have hgn:=(hq rfl).1
     refine Ak (Aj (Ai (Gl2 ty48 ?_)))
     refine Ge0 (Bq ty48) ?_
     refine Ga C (Af (A2 ?_))
     rw [hX,hgn]
     refine V.fit (J:=dfrI Dm::e8 b4 [e7 nd,.slice a (atG kd wd mo es tq).length c] 48::vc 135 (.slice a (atG kd wd mo es tq).length c) ((atG kd wd mo es tq))::e8 qb7 [e7 kd,e7 wd,e7 mo] 31::e8 qb6 [.slice ea es.length ec] 28::e8 qb5 [e7 nd] 3::e8 b3 [e7 nd,.slice a (atG kd wd mo es tq).length c] 48::e8 b2 [e7 tq] 3::e8 b1 [e7 kd,e7 wd,e7 mo] 31::I) B7 (V.leave ?_)
     exact C3 C ty48 C C mm C (vc 135 (.slice a (atG kd wd mo es tq).length c) (atG kd wd mo es tq)::I) B7 ⟨a,c,rfl,rfl⟩
    ·have hQ:(gn=nd/\X=atG kd wd mo es tq):=hp
     refine .inr ⟨_,_,rfl,?_⟩
     show W prog κ _ _ _ ([(32,.func (.func 165) #[] #[.pointer (some ⟨qb5,0,none⟩),.pointer (some ⟨qb6,0,none⟩),.pointer (some ⟨qb7,0,none⟩)]),(31,.agg #[e7 kd,e7 wd,e7 mo]),(30,.slice ea es.length ec),(29,e7 nd),(11,.pointer (some ⟨b4,0,none⟩)),(27,.bool (decide (1048576<tq))),(8,.pointer (some ⟨b3,0,none⟩)),(7,.pointer (some ⟨b2,0,none⟩)),(6,.pointer (some ⟨b1,0,none⟩)),(0,e7 nd),(1,.slice ea es.length ec)]:Env) (dfrI Dm::e8 b4 [e7 gn,.slice a X.length c] 48::vc 135 (.slice a X.length c) (X)::e8 qb7 [e7 kd,e7 wd,e7 mo] 31::e8 qb6 [.slice ea es.length ec] 28::e8 qb5 [e7 nd] 3::e8 b3 [e7 0,.slice none 0 0] 48::e8 b2 [e7 tq] 3::e8 b1 [e7 kd,e7 wd,e7 mo] 31::I)
     have hX:=hQ.2
     have hgn:=hQ.1
     refine Bv (A5 (Aj (Ai (Gl2 ty48 ?_))))
     refine Ge0 (Bq ty48) ?_
     refine Ga C (Af (A2 ?_))
     rw [hX,hgn]
     refine V.fit (J:=dfrI Dm::e8 b4 [e7 nd,.slice a (atG kd wd mo es tq).length c] 48::vc 135 (.slice a (atG kd wd mo es tq).length c) ((atG kd wd mo es tq))::e8 qb7 [e7 kd,e7 wd,e7 mo] 31::e8 qb6 [.slice ea es.length ec] 28::e8 qb5 [e7 nd] 3::e8 b3 [e7 nd,.slice a (atG kd wd mo es tq).length c] 48::e8 b2 [e7 tq] 3::e8 b1 [e7 kd,e7 wd,e7 mo] 31::I) B7 (V.leave ?_)
     exact C3 C ty48 C C mm C (vc 135 (.slice a (atG kd wd mo es tq).length c) (atG kd wd mo es tq)::I) B7 ⟨a,c,rfl,rfl⟩
end Go.Sl
/- The links at a time, asked from the events of the window up to it and from what has expired by then. No conditions. -/
namespace Go.Sl
theorem gone_mem{kd wd mo nw:Int}{xs:List Lk}{e:Ev}(he:e∈goneL kd wd mo nw xs):e.kd=2/\e.tm=nw:=by
 unfold goneL at he
 obtain ⟨z,hz,rfl⟩:=List.mem_map.1 he
 exact ⟨rfl,rfl⟩
theorem slide3_asc{nd mo:Int}{es:List Ev}(h:StOk nd es):∀k,k<=es.length->(slideS 3 0 mo (es.take k)).2.Pairwise (λa b=>a.tm<=b.tm)/\∀e∈(slideS 3 0 mo (es.take k)).2,e.tm<=lastT es k
 |0,_=>⟨List.Pairwise.nil,λe he=>(by cases he)⟩
 |k+1,hk=>by
  have ih:=slide3_asc (mo:=mo) h k om
  have hto:=h.asc k om
  rw [slideS_succ om,evStep3]
  generalize slideS 3 0 mo (es.take k)=s at ih ⊢
  generalize hee:e_ es k=e at hto ⊢
  have hlt:lastT es (k+1)=e.tm:=by rw [lastT_succ,hee]
  rw [hlt]
  have hg:∀y∈goneL 3 0 mo e.tm (ep s.1 e),y.tm=e.tm:=λy hy=>(gone_mem hy).2
  have hb:∀y∈s.2++[e],y.tm<=e.tm:=λy hy=>by
   rcases List.mem_append.1 hy with hy|hy
   ·have:=ih.2 y hy;omega
   ·rw [List.mem_singleton.1 hy];exact Int.le_refl _
  refine ⟨List.pairwise_append.2 ⟨List.pairwise_append.2 ⟨ih.1,List.pairwise_singleton _ _,λx hx y hy=>?_⟩,?_,λx hx y hy=>?_⟩,λy hy=>?_⟩
  ·rw [List.mem_singleton.1 hy];exact hb x (List.mem_append_left _ hx)
  ·refine List.Pairwise.imp_of_mem (R:=λ_ _=>True) (λhx hy _=>?_) (List.pairwise_of_forall (λ_ _=>trivial))
   rw [hg _ hx,hg _ hy];exact Int.le_refl _
  ·rw [hg y hy];exact hb x hx
  ·rcases List.mem_append.1 hy with hy|hy
   ·exact hb y hy
   ·rw [hg y hy];exact Int.le_refl _
section
variable {nd kd wd mo:Int}{es:List Ev}
theorem StOk.pw(h:StOk nd es):es.Pairwise λa b=>a.tm<=b.tm:=by
 rw [List.pairwise_iff_getElem]
 intro i j hi hj hij
 have h1:=h.up j om i hij
 have h2:=h.asc j hj
 rw [C4 es i hi] at h1
 rw [C4 es j hj] at h2
 omega
theorem HistOk.asc(h:HistOk nd kd wd mo es):(slideS kd wd mo es).2.Pairwise λa b=>a.tm<=b.tm:=by
 have he:es.take es.length=es:=List.take_length
 rcases checkW_cases h.win with ⟨rfl,rfl,rfl⟩|⟨rfl,hw,rfl⟩|⟨rfl,rfl,hm⟩
 ·rw [all_same];exact h.st.pw
 ·have:=(BehB.all (mo:=0) h.st hw.1 es.length (Nat.le_refl _)).asc
  rwa [he] at this
 ·have:=(slide3_asc (mo:=mo) h.st es.length (Nat.le_refl _)).1
  rwa [he] at this
end
theorem place_spec(l:List Ev)(x:Ev):∀n,n<=l.length->placeG evC l x n<=n/\(∀i:Nat,placeG evC l x n<=i->i<n->x.tm<(e_ l i).tm)/\(0<placeG evC l x n->(e_ l ((placeG evC l x n - 1:Nat):Int)).tm<=x.tm)
 |0,_=>⟨Nat.le_refl _,λi h1 h2=>by omega,λh=>absurd h (Nat.lt_irrefl 0)⟩
 |n+1,hn=>by
  unfold placeG
  split
  ·rename_i h
   obtain ⟨h1,h2,h3⟩:=place_spec l x n om
   refine ⟨by omega,λi hi hlt=>?_,h3⟩
   by_cases e:i=n
   ·subst e;exact evC_neg.1 h
   ·exact h2 i hi om
  ·rename_i h
   refine ⟨Nat.le_refl _,λi h1 h2=>by omega,λ_=>?_⟩
   have:¬x.tm<(e_ l n).tm:=λhh=>h (evC_neg.2 hh)
   show (e_ l n).tm<=x.tm
   omega
theorem insert_asc{l:List Ev}(h:l.Pairwise λa b=>a.tm<=b.tm)(x:Ev):(insertG evC l x).Pairwise λa b=>a.tm<=b.tm:=by
 obtain ⟨h1,h2,h3⟩:=place_spec l x l.length (Nat.le_refl _)
 unfold insertG insG
 generalize placeG evC l x l.length=p at h1 h2 h3
 have hg:=List.pairwise_iff_getElem.1 h
 have ha:∀a∈l.take p,a.tm<=x.tm:=λa ha=>by
  obtain ⟨i,hi,rfl⟩:=List.getElem_of_mem ha
  rw [List.length_take] at hi
  rw [List.getElem_take]
  have h4:=h3 om
  rw [C4 l (p - 1) om] at h4
  by_cases e:i=p - 1
  ·subst e;exact h4
  ·have:=hg i (p - 1) om om om;omega
 have hb:∀b∈l.drop p,x.tm<=b.tm:=λb hb=>by
  obtain ⟨i,hi,rfl⟩:=List.getElem_of_mem hb
  rw [List.length_drop] at hi
  rw [List.getElem_drop]
  have h4:=h2 (p+i) om om
  rw [C4 l (p+i) om] at h4
  omega
 refine List.pairwise_append.2 ⟨h.sublist (List.take_sublist _ _),List.pairwise_cons.2 ⟨hb,h.sublist (List.drop_sublist _ _)⟩,λa ha' b hb'=>?_⟩
 rcases List.mem_cons.1 hb' with rfl|hb'
 ·exact ha a ha'
 ·have h5:=ha a ha';have h6:=hb b hb';omega
theorem isortC_acc:∀(xs acc:List Ev),acc.Pairwise (λa b=>a.tm<=b.tm)->(xs.foldl (insertG evC) acc).Pairwise λa b=>a.tm<=b.tm
 |[],acc,h=>h
 |x::xs,acc,h=>isortC_acc xs _ (insert_asc h x)
theorem isortC_asc(xs:List Ev):(isortG evC xs).Pairwise λa b=>a.tm<=b.tm:=isortC_acc xs [] List.Pairwise.nil
section
variable {nd kd wd mo T:Int}{es:List Ev}
theorem HistOk.all_asc(h:HistOk nd kd wd mo es):(allE kd wd mo es).Pairwise λa b=>a.tm<=b.tm:=by
 unfold allE
 refine List.pairwise_append.2 ⟨h.asc,isortC_asc _,λx hx y hy=>?_⟩
 have hy:=(isort_permG _ _).mem_iff.1 hy
 unfold lateL at hy
 obtain ⟨z,hz,rfl⟩:=List.mem_map.1 hy
 obtain ⟨h1,h2⟩:=List.mem_filter.1 hz
 unfold lateP at h2
 have h2:=of_decide_eq_true h2
 show x.tm<=z.tm+wd
 rcases checkW_cases h.win with ⟨e1,_⟩|⟨e1,hw,e3⟩|⟨e1,_⟩
 ·omega
 ·subst e1
  have he:es.take es.length=es:=List.take_length
  have hB:=BehB.all (mo:=mo) h.st hw.1 es.length (Nat.le_refl _)
  rw [he] at hB
  rw [←h.links] at h1
  have h3:=hB.le x hx
  have h4:=hB.inv.al rfl z h1
  omega
 ·omega
end
end Go.Sl
namespace Go.Sl
variable {P:Program}{κ:Ctx}{N:Frm}{L:Env}{I:List Item}
end Go.Sl
namespace Go.Sl
variable {P:Program}{κ:Ctx}{N:Frm}{L:Env}{I:List Item}
theorem V.retv3{fn:Func}{t u s:Tmp}{T U S b b' b2 E E' E2 by' by2 by3:Nat}{z z' z2:List Value}{v v' v2:Value}{Post:Value->List Item->Prop}(hr:fn.results = #[.cell t T,.cell u U,.cell s S])(hT:tyF P T=some (1,false,by',z))(hU:tyF P U=some (1,false,by2,z'))(hS:tyF P S=some (1,false,by3,z2))
  (hv:look L t=some (.pointer (some ⟨b,0,none⟩))) (hv':look L u=some (.pointer (some ⟨b',0,none⟩))) (hv2:look L s=some (.pointer (some ⟨b2,0,none⟩))) (hb:e8 b [v] E∈I) (hb':e8 b' [v'] E'∈I) (hb2:e8 b2 [v2] E2∈I)
  (J:List Item) (hf:Fit κ I J) (hp:Post (.tuple #[v,v',v2]) J) (h0:N.ds=[]:=by rfl):V κ N (bodyPost P fn (RetR κ Post)) .ret L I:=
 λa w ha hs=>by
  have hcell:w.cell? ⟨b,0,none⟩=some v:=by rw [cell_blk (w:=w) (hs.ok _ hb).1 0];rfl
  have hcell2:w.cell? ⟨b',0,none⟩=some v':=by rw [cell_blk (w:=w) (hs.ok _ hb').1 0];rfl
  have hcell3:w.cell? ⟨b2,0,none⟩=some v2:=by rw [cell_blk (w:=w) (hs.ok _ hb2).1 0];rfl
  have hload:(loadVar T ⟨b,0,none⟩).run P w = .ok v w:=run_loadVar_one hT hcell
  have hload2:(loadVar U ⟨b',0,none⟩).run P w = .ok v' w:=run_loadVar_one hU hcell2
  have hload3:(loadVar S ⟨b2,0,none⟩).run P w = .ok v2 w:=run_loadVar_one hS hcell3
  refine bodyPost_ret (v:= .tuple #[v,v',v2]) ?_ (ha.defers.trans h0) ⟨_,J,rfl,hp,hf w hs⟩
  simp [results,hr,ha.get t _ hv,ha.get u _ hv',ha.get s _ hv2,asAddr,hload,hload2,hload3]
theorem V.retttc{fn:Func}{t u s:Tmp}{T b E sz by':Nat}{z cs:List Value}{v v':Value}{Post:Value->List Item->Prop}(hr:fn.results = #[.tmp t,.tmp u,.cell s T])(hT:tyF P T=some (sz,true,by',z))(hv:look L t=some v)(hv':look L u=some v')(hs':look L s=some (.pointer (some ⟨b,0,none⟩)))(hb:e8 b cs E∈I)(hl:cs.length=sz)
  (J:List Item) (hf:Fit κ I J) (hp:Post (.tuple #[v,v',.agg cs.toArray]) J) (h0:N.ds=[]:=by rfl):V κ N (bodyPost P fn (RetR κ Post)) .ret L I:=
 λa w ha hs=>by
  have hcell:=λj=>cell_blk (w:=w) (hs.ok _ hb).1 j
  have hload:(loadVar T ⟨b,0,none⟩).run P w = .ok (.agg cs.toArray) w:=run_loadVar_agg hT hl λj u hj=>by rw [addr_add,hcell,←hj];simp
  refine bodyPost_ret (v:= .tuple #[v,v',.agg cs.toArray]) ?_ (ha.defers.trans h0) ⟨_,J,rfl,hp,hf w hs⟩
  simp [results,hr,ha.get t _ hv,ha.get u _ hv',ha.get s _ hs',asAddr,hload]
end Go.Sl
namespace Go.Sl
open Go.Proofs
set_option maxRecDepth 4000
variable {κ:Ctx}{I:List Item}
theorem Nothing_ok  :
    eu prog κ 168 [] I (λr J=>r = .agg #[.slice none 0 0,e7 0,e7 1,e7 1,.slice none 0 0]/\I=J):=by
 refine Ce0 Tryz.func168 C C ?_
 refine Ai (Ge1 (Au ty102 C) λb1=>Af (Ai (Gr (Bc (cells:=[_,_]) ty40 Ct pl40 C C) (Gr (Bc (cells:=[_,_]) ty88 Tryz.underlying88 pl88 C C) (Gr (Bc (cells:=[_,_,_,_,_]) ty102 Ec pl102 C C) (Ge0 (Ep ty102) ?_))))))
 exact Af (A2 (C5 C ty102 C mm C I A3 ⟨rfl,rfl⟩))
structure BestR (nd:Int) (es:List Pt) (N D:Int) (B:BitVec 64):Prop where
 err:checkG nd es≠0->N=0/\D=0/\B=0#64
 none:checkG nd es=0->nd=0->N=0/\D=1/\B=0#64
 some:checkG nd es=0->nd≠0->DensR nd es N D B
set_option maxHeartbeats 1000000 in
theorem BestD_ok{nd:Int}{ea:Option Addr}{ec:Nat}{es:List Pt}(hl:Sl κ I (.slice ea es.length ec) es)(hT:TabRd κ I 0 tzCells):eu prog κ 100 [.agg #[e7 nd,.slice ea es.length ec]] I (λr J=>∃a c B a2 c2 parts N D E,r = .tuple #[.agg #[.slice a (eo B).length c,e7 N,e7 D,e7 E,.slice a2 (parts:List Int).length c2],e7 (checkG nd es)]/\(BestR nd es N D B/\SplitB nd es N D E parts)/\J=vc 3 (.slice a (eo B).length c) (eo B)::vc 3 (.slice a2 parts.length c2) parts::I):=by
 refine Ce1 Tryz.func100 C C ?_
 refine Ai (Ge1 (A9 (cs:=[_,_]) C C C) λb1=>Ge1 (Au ty102 C) λb2=>Ga C (Af (Ap (Ai (Gl2 ty48 ?_)))))
 refine Gc0 (Ah call83 C C (CheckGen_ok (Ba hl))) ?_
 refine Ga C (Af (Ai (Gm C (Gr (Br C C) (Gm C (Bg (d:=11) C (λg11=>?_) (λg11=>?_)))))))
 ·refine eb (eb (eb (Gr (Ar C C) (Af (Aq (S4 15 4 2 1 C C C C) (Cq C (Ap (Ai (Gm C (Gr (Br C C) (Af (A8 C (λc17=>?_) (λc17=>?_)))))))))))))
  ·refine Ai (Gr (Bc (cells:=[_,_,_,_,_]) ty102 Ec pl102 C C) (Gm C (Ge0 (Ep ty102) ?_)))
   exact Ga C (Af (A2 (Am (Am (C3 C ty102 C C mm C (vc 3 (.slice none (eo 0#64).length 0) (eo 0#64)::vc 3 (.slice none ([]:List Int).length 0) ([]:List Int)::I) (by rw [Df];exact Cn (show Fit κ _ I from A3) (Cn (B2 (α:=Int) _ _) (B2 (α:=Int) _ _))) ⟨none,0,0#64,none,0,[],0,0,0,by rw [Df];rfl,⟨⟨λ_=>⟨rfl,rfl,rfl⟩,λh=>absurd h c17,λh=>absurd h c17⟩,λh=>absurd h c17⟩,rfl⟩)))))
  ·refine Ay (Aj (Ai (Gc0 (Ah call168 C C Nothing_ok) ?_)))
   refine Ge0 (Ep ty102) ?_
   refine Ga C (Af (A2 (Am ?_)))
   have hz:checkG nd es=0:=Classical.not_not.1 c17
   have hn0:nd=0:=by first|exact c15|exact absurd g11 c17
   exact C3 C ty102 C C mm C (vc 3 (.slice none (eo 0#64).length 0) (eo 0#64)::vc 3 (.slice none ([]:List Int).length 0) ([]:List Int)::I) (by rw [Df];exact Cn (show Fit κ _ I from A3) (Cn (B2 (α:=Int) _ _) (B2 (α:=Int) _ _))) ⟨none,0,0#64,none,0,[],0,1,1,by rw [Df,hz];rfl,⟨⟨λh=>absurd hz h,λ_ _=>⟨rfl,rfl,rfl⟩,λ_ h=>absurd hn0 h⟩,λ_=>⟨rfl,splitP_nil (checkG_ok.1 hz) hn0⟩⟩,rfl⟩
 ·refine e9 (Ab fld48_0 C) (e9 (As ef) ?_)
  refine e9 (Bu C C) (Gr (Ao C C) (Af (Aq (S4 15 4 2 1 C C C C) (A8 C (λc15=>?_) (λc15=>?_)))))
  ·refine Ap (Ai (Gm C (Gr (Br C C) (Af (A8 C (λc17=>?_) (λc17=>?_))))))
   ·refine Ai (Gr (Bc (cells:=[_,_,_,_,_]) ty102 Ec pl102 C C) (Gm C (Ge0 (Ep ty102) ?_)))
    exact Ga C (Af (A2 (Am (Am (C3 C ty102 C C mm C (vc 3 (.slice none (eo 0#64).length 0) (eo 0#64)::vc 3 (.slice none ([]:List Int).length 0) ([]:List Int)::I) (by rw [Df];exact Cn (show Fit κ _ I from A3) (Cn (B2 (α:=Int) _ _) (B2 (α:=Int) _ _))) ⟨none,0,0#64,none,0,[],0,0,0,by rw [Df];rfl,⟨⟨λ_=>⟨rfl,rfl,rfl⟩,λh=>absurd h c17,λh=>absurd h c17⟩,λh=>absurd h c17⟩,rfl⟩)))))
   ·refine Ay (Aj (Ai (Gc0 (Ah call168 C C Nothing_ok) ?_)))
    refine Ge0 (Ep ty102) ?_
    refine Ga C (Af (A2 (Am ?_)))
    have hz:checkG nd es=0:=Classical.not_not.1 c17
    have hn0:nd=0:=by first|exact c15|exact absurd g11 c17
    exact C3 C ty102 C C mm C (vc 3 (.slice none (eo 0#64).length 0) (eo 0#64)::vc 3 (.slice none ([]:List Int).length 0) ([]:List Int)::I) (by rw [Df];exact Cn (show Fit κ _ I from A3) (Cn (B2 (α:=Int) _ _) (B2 (α:=Int) _ _))) ⟨none,0,0#64,none,0,[],0,1,1,by rw [Df,hz];rfl,⟨⟨λh=>absurd hz h,λ_ _=>⟨rfl,rfl,rfl⟩,λ_ h=>absurd hn0 h⟩,λ_=>⟨rfl,splitP_nil (checkG_ok.1 hz) hn0⟩⟩,rfl⟩
  ·refine Ay (Aj (Ai (Gl2 ty48 ?_)))
   have hz:checkG nd es=0:=by first|exact Classical.not_not.1 g11|omega
   have hG:=checkG_ok.1 hz
   have hm:=edges_le hG
   have hrng:=hG.rng
   have hnd:1<=nd:=by omega
   refine G.e (Ah call169 C C (Plain_ok (Ba hl) hm hG.rng)) ?_
   rintro _ _ ⟨_,_,⟨aw,cw,ab,cb,ak,ck,ws,bs,cs,rfl,hPl,rfl⟩,rfl,rfl⟩
   refine G.e (Ah call170 C C (Densest_ok (Ba hl) Bk Bk Bk hG hm hPl om (Bx hT A3))) ?_
   rintro _ _ ⟨_,_,⟨Bn,pa,pc,parts,Nn,Dd,rfl,hS,hpl,rfl⟩,rfl,rfl⟩
   refine Gm C (Gr (Aw C C) (Gr (Aw C C) (Ge1 (Au ty208 C) λb3=>Ge1 (Au ty40 C) λb4=>Ge0 (Bq ty208) ?_)))
   refine Ge0 (Bq ty40) ?_
   refine Af (Ap (Bl mixed (Bt (e8 b4 [e7 Nn,e7 Dd] 40::e8 b3 [U64 Bn,.slice pa parts.length pc] 208::vc 3 (.slice pa parts.length pc) (parts)::vc 3 (.slice ak cs.length ck) (cs)::vc 3 (.slice aw ws.length cw) (ws)::vc 3 (.slice ab bs.length cb) (bs)::e8 b2 [.slice none 0 0,e7 0,e7 0,e7 0,.slice none 0 0] 102::e8 b1 [e7 nd,.slice ea es.length ec] 48::I) 10 (Dr 0 C (Ab fld208_0 C) (Dr 1 C (As ty175) ?_)))))
   refine Dr 3 C (Bd (vs:=[_,_]) ty40) ?_
   refine Dr 4 C (Ab fld40_1 C) (Dr 5 C (As ef) ?_)
   refine Dr 6 C (Ab fld208_1 C) (Dr 7 C (As ty22) ?_)
   refine Dr 8 C (Bc (cells:=[_,_]) ty88 Tryz.underlying88 pl88 C C) (Ds1 2 (Sc2 C (Ah call171 C C (MList_ok Bn (Bx hT A3))) λad5 cp6=>?_))
   refine Dr 9 C (Bc (cells:=[_,_,_,_,_]) ty102 Ec pl102 C C) (C0 kr ?_)
   refine Ae 10 C (Ep ty102) ?_
   rintro _ _ ⟨rfl,rfl⟩
   refine E4 (i:=11) kr C (Cg C) C C (Bb C) ?_
   refine C1 kr ?_
   exact Aj (Aq (S2 3 2 C C) (A2 (C3 C ty102 C C mm C (vc 3 (.slice ad5 (eo Bn).length cp6) (eo Bn)::vc 3 (.slice pa parts.length pc) parts::I) B7 ⟨ad5,cp6,Bn,pa,pc,parts,Nn,Dd,Dd,by rw [hz]<;>rfl,⟨⟨λh=>absurd hz h,λ_ h=>absurd h om,λ_ _=>hS⟩,λ_=>⟨rfl,hpl⟩⟩,rfl⟩)))
end Go.Sl
namespace Go.Sl
def bestT(sup:List Int)(gone:List Bool):Nat->Int
 |0=> -1
 |i+1=>if e_ gone i=false/\(bestT sup gone i<0\/e_ sup i<e_ sup (bestT sup gone i)) then (i:Int) else bestT sup gone i
theorem bestT_lt(sup:List Int)(gone:List Bool)(n:Nat) : -1<=bestT sup gone n/\bestT sup gone n<n:=by
 induction n with
 |zero=>simp [bestT]
 |succ n ih=>unfold bestT;split<;>omega
theorem bestT_there(sup:List Int)(gone:List Bool)(n:Nat):bestT sup gone n<0\/e_ gone (bestT sup gone n)=false:=by
 induction n with
 |zero=>left;simp [bestT]
 |succ n ih=>
  unfold bestT;split
  ·rename_i h;exact .inr h.1
  ·exact ih
theorem bestT_some{sup:List Int}{gone:List Bool}{n:Nat}(h:∃i:Nat,i<n/\e_ gone i=false):0<=bestT sup gone n:=by
 induction n with
 |zero=>obtain ⟨i,hi,_⟩:=h;omega
 |succ n ih=>
  unfold bestT
  by_cases hb:bestT sup gone n<0
  ·obtain ⟨i,hi,hg⟩:=h
   have hin:i=n:=by
    refine Classical.byContradiction λhne=>?_
    have:=ih ⟨i,by omega,hg⟩
    omega
   subst hin
   rw [if_pos ⟨hg,.inl hb⟩];omega
  ·split<;>omega
def lowT(gone:List Bool)(sup:List Int)(p:Pt):List Int:=
 if e_ gone p.u=false/\e_ gone p.v=false then (sup.set p.u.toNat (e_ sup p.u - 1)).set p.v.toNat (e_ (sup.set p.u.toNat (e_ sup p.u - 1)) p.v - 1) else sup
structure TrS where
 sup:List Int
 gone:List Bool
 num:List Int
 ord:List Int
 k:Int
def startT(tri:List (List Pt)):TrS:=⟨tri.map λl=>(l.length:Int),replicate tri.length false,replicate tri.length 0,[],0⟩
def stepTr(tri:List (List Pt))(s:TrS):TrS:=
  ⟨(e_ tri (bestT s.sup s.gone tri.length)).foldl (lowT (s.gone.set (bestT s.sup s.gone tri.length).toNat true)) s.sup,s.gone.set (bestT s.sup s.gone tri.length).toNat true,
   s.num.set (bestT s.sup s.gone tri.length).toNat (max s.k (e_ s.sup (bestT s.sup s.gone tri.length))),s.ord++[bestT s.sup s.gone tri.length],max s.k (e_ s.sup (bestT s.sup s.gone tri.length))⟩
def runTr(tri:List (List Pt)):Nat->TrS
 |0=>startT tri
 |j+1=>stepTr tri (runTr tri j)
def trussN(tri:List (List Pt)):List Int:=(runTr tri tri.length).num
def trussO(tri:List (List Pt)):List Int:=(runTr tri tri.length).ord
structure TriOk (m:Nat) (tri:List (List Pt)):Prop where
 len:∀l∈tri,l.length<=m
 rng:∀l∈tri,∀p∈l,0<=p.u/\p.u<tri.length/\0<=p.v/\p.v<tri.length
structure TrOk (m n j:Nat) (s:TrS):Prop where
 slen:s.sup.length=n
 glen:s.gone.length=n
 nlen:s.num.length=n
 olen:s.ord.length=j
 cnt:s.gone.count false+j=n
 sup:∀x∈s.sup, -(2*(m:Int)*j)<=x/\x<=m
 k:0<=s.k/\s.k<=m
 num:∀x∈s.num,0<=x/\x<=m
theorem lowT_len(gone:List Bool)(sup:List Int)(p:Pt):(lowT gone sup p).length=sup.length:=by unfold lowT;split<;>simp
theorem lowT_rng{gone:List Bool}{sup:List Int}{p:Pt}{a b:Int}(hp:0<=p.u/\p.u<sup.length/\0<=p.v/\p.v<sup.length)(h:∀x∈sup,a<=x/\x<=b):∀x∈lowT gone sup p,a - 2<=x/\x<=b:=by
 unfold lowT
 split
 ·intro x hx
  have hu:=h _ (at_mem hp.1 hp.2.1)
  have hv:=h _ (at_mem hp.2.2.1 hp.2.2.2)
  rcases List.mem_or_eq_of_mem_set hx with hx|rfl
  ·rcases List.mem_or_eq_of_mem_set hx with hx|rfl
   ·have:=h x hx;omega
   ·omega
  ·rw [at_set _ p.u p.v _ hp.1 hp.2.2.1 hp.2.1]
   split<;>omega
 ·intro x hx;have:=h x hx;omega
theorem low_all{gone:List Bool}{b:Int}{n:Nat}:∀(l:List Pt) {sup:List Int} {a:Int},sup.length=n->(∀p∈l,0<=p.u/\p.u<n/\0<=p.v/\p.v<n)->(∀x∈sup,a<=x/\x<=b)->(l.foldl (lowT gone) sup).length=n/\∀x∈l.foldl (lowT gone) sup,a - 2*l.length<=x/\x<=b
 |[],sup,a,hs,_,h=>⟨hs,λx hx=>by have:=h x hx;simp only [List.length_nil];omega⟩
 |p::l,sup,a,hs,hp,h=>by
  have h1:=lowT_rng (gone:=gone) (p:=p) (by have:=hp p List.mem_cons_self;omega) h
  obtain ⟨h2,h3⟩:=low_all (gone:=gone) (b:=b) (n:=n) l (sup:=lowT gone sup p) (a:=a - 2) (by rw [lowT_len];exact hs) (λq hq=>hp q (List.mem_cons_of_mem _ hq)) h1
  refine ⟨h2,λx hx=>?_⟩
  have:=h3 x hx
  simp only [List.length_cons];omega
theorem TrOk.start{m:Nat}{tri:List (List Pt)}(h:TriOk m tri):TrOk m tri.length 0 (startT tri):=by
 refine ⟨by simp [startT],by simp [startT],by simp [startT],rfl,by simp [startT],λx hx=>?_,by simp [startT],λx hx=>?_⟩
 ·obtain ⟨l,hl,rfl⟩:=List.mem_map.1 hx
  have:=h.len l hl
  simp;omega
 ·have:=List.eq_of_mem_replicate hx;omega
theorem TrOk.best{m j:Nat}{tri:List (List Pt)}{s:TrS}(hs:TrOk m tri.length j s)(hj:j<tri.length):0<=bestT s.sup s.gone tri.length/\bestT s.sup s.gone tri.length<tri.length/\e_ s.gone (bestT s.sup s.gone tri.length)=false:=by
 have hc:=hs.cnt
 have h0:0<=bestT s.sup s.gone tri.length:=by
  refine bestT_some ?_
  have hm:false∈s.gone:=List.count_pos_iff.1 (by omega)
  obtain ⟨i,hi,e⟩:=List.mem_iff_getElem.1 hm
  exact ⟨i,by have:=hs.glen;omega,by rw [at_get _ _ hi,e]⟩
 exact ⟨h0,(bestT_lt _ _ _).2,(bestT_there _ _ _).resolve_left (by omega)⟩
theorem TrOk.step{m j:Nat}{tri:List (List Pt)}{s:TrS}(h:TriOk m tri)(hs:TrOk m tri.length j s)(hj:j<tri.length):TrOk m tri.length (j+1) (stepTr tri s):=by
 obtain ⟨h0,h1,h2⟩:=hs.best hj
 unfold stepTr
 generalize bestT s.sup s.gone tri.length=b at h0 h1 h2
 have hrow:=at_mem (xs:=tri) h0 h1
 have hsb:=hs.sup _ (at_mem (xs:=s.sup) (i:=b) h0 (by have:=hs.slen;omega))
 obtain ⟨l1,l2⟩:=low_all (gone:=s.gone.set b.toNat true) (b:=(m:Int)) (n:=tri.length) (e_ tri b) hs.slen (λp hp=>h.rng _ hrow p hp) hs.sup
 have hl:=h.len _ hrow
 have hk:=hs.k
 have hg:b.toNat<s.gone.length:=by have:=hs.glen;omega
 have hgb:s.gone[b.toNat]=false:=by rw [←at_get _ _ hg,show ((b.toNat:Nat):Int)=b by omega];exact h2
 have hcnt:=hs.cnt
 refine ⟨l1,by rw [List.length_set];exact hs.glen,by rw [List.length_set];exact hs.nlen,by simp [hs.olen],?_,λx hx=>?_,?_,λx hx=>?_⟩
 ·show (s.gone.set b.toNat true).count false+(j+1)=_
  rw [List.count_set hg,hgb]
  have:0<s.gone.count false:=List.count_pos_iff.2 (hgb▸List.getElem_mem hg)
  simp;omega
 ·have:=l2 x hx
  have e:2*(m:Int)*((j+1:Nat):Int)=2*m*j+2*m:=by rw [Int.natCast_add,Int.mul_add];omega
  omega
 ·show 0<=max s.k _/\max s.k _<=(m:Int);omega
 ·rcases List.mem_or_eq_of_mem_set hx with hx|rfl
  ·exact hs.num x hx
  ·omega
theorem runTr_ok{m:Nat}{tri:List (List Pt)}(h:TriOk m tri):∀j,j<=tri.length->TrOk m tri.length j (runTr tri j)
 |0,_=>TrOk.start h
 |j+1,hj=>(runTr_ok h j (by omega)).step h (by omega)
theorem trussN_bound{m:Nat}{tri:List (List Pt)}(h:TriOk m tri):(trussN tri).length=tri.length/\∀x∈trussN tri,0<=x/\x<=m:=⟨(runTr_ok h _ (Nat.le_refl _)).nlen,(runTr_ok h _ (Nat.le_refl _)).num⟩
end Go.Sl
namespace Go.Sl
open Go.RowKit (Below)
section
variable {α:Type}[Enc α][DecidableEq α]
def entF:Nat->List α->List MapEntry
 |_,[]=>[]
 |i,x::xs=>{key:= .agg (Enc.enc x).toArray,val:=e7 (i:Nat),born:=i}::entF (i+1) xs
theorem entF_snoc:∀(xs:List α) (i:Nat) (x:α),entF i (xs++[x])=entF i xs++[{key:= .agg (Enc.enc x).toArray,val:=e7 ((i+xs.length:Nat):Int),born:=i+xs.length}]
 |[],i,x=>by simp [entF]
 |y::ys,i,x=>by
  have h:=entF_snoc ys (i+1) x
  rw [show i+1+ys.length=i+(ys.length+1) by omega] at h
  show _::entF (i+1) (ys++[x])=_
  rw [h];rfl
def KeyT(P:Program)(T:TypeId)(α:Type)[Enc α]:Prop:=∀(x:α) (e:Bool) (w:World),(Instr.checkKey e 10000 T (.agg (Enc.enc x).toArray)).run P w = .ok () w
theorem run_asking{P:Program}{T:TypeId}{w:World}(h:EqT P T α)(k:α):∀(xs:List α) (i j:Nat),(Instr.findAsking T (.agg (Enc.enc k).toArray) (entF i xs) j).run P w = .ok (if k∈xs then some (j+xs.idxOf k,e7 ((i+xs.idxOf k:Nat):Int)) else none) w
 |[],i,j=>by simp [entF,Instr.findAsking]
 |x::xs,i,j=>by
  have ih:=run_asking (w:=w) h k xs (i+1) (j+1)
  have he:(Op.equal T (.agg (Enc.enc k).toArray) (.agg (Enc.enc x).toArray)).run P w = .ok (decide (k=x)) w:=h.1 k x w
  unfold entF Instr.findAsking
  simp only [Sem.run_bind,he,Result.andThen]
  by_cases hx:k=x
  ·subst hx
   simp
  ·rw [decide_eq_false hx]
   simp only [Bool.false_eq_true,if_false]
   rw [ih]
   have hb:(x==k)=false:=by simpa using λe=>hx e.symm
   by_cases hm:k∈xs
   ·rw [if_pos hm,if_pos (List.mem_cons_of_mem _ hm),List.idxOf_cons,hb]
    simp only [cond_false]
    rw [show j+1+List.idxOf k xs=j+(List.idxOf k xs+1) by omega,show i+1+List.idxOf k xs=i+(List.idxOf k xs+1) by omega]
   ·rw [if_neg hm,if_neg (by simp [hx,hm])]
theorem run_findStruct{P:Program}{T:TypeId}{fs:Array Field}{w:World}(hT:P.underlying T=some (.struct fs))(h:EqT P T α)(k:α)(xs:List α):(Instr.findKey T (.agg (Enc.enc k).toArray) (entF 0 xs)).run P w = .ok (if k∈xs then some (xs.idxOf k,e7 ((xs.idxOf k:Nat):Int)) else none) w:=by
 unfold Instr.findKey
 simp only [Sem.run_bind,run_underlying hT,Result.andThen]
 cases xs with
 |nil=>simp [entF,Instr.findNow]
 |cons x xs=>
  have e:Instr.findNow (.struct fs) (.agg (Enc.enc k).toArray) (entF 0 (x::xs)) 0=none:=by
   simp [entF,Instr.findNow,Instr.sameNow]
  rw [e]
  have:=run_asking (w:=w) h k (x::xs) 0 0
  simp only [Nat.zero_add] at this
  exact this
def mpE(r:Nat)(xs:List α):Item:=mp r (entF 0 xs) xs.length
section
variable {P:Program}{κ:Ctx}{N:Frm}{Q:Exit->Act->World->Prop}{L:Env}{I J:List Item}{ops:Array Oper}{rest:List Oper}
variable {d:Option Tmp}{ty:TypeId}{ps:String}{af:Array Edge}{gd:Option (Nat×Bool)}
theorem Eff.makeMapE{T dd:Nat}(hN:Nat.blt dd N.n=true) :
  Eff P κ N Q ⟨some dd,.makeMap T none,ty,ps,af,gd⟩ L I λL' I'=>∃r,L'=(dd,.map (some r))::L/\I'=mpE (α:=α) r []::I:=Eff.makeMap hN
theorem Eff.updateE{x y z:Operand}{T kt et r:Nat}{fs:Array Field}{xs:List α}{k:α}{v:Value}{I':List Item}(ht:P.underlying T=some (.map kt et))(hkt:P.underlying kt=some (.struct fs))(he:EqT P kt α)(hc:KeyT P kt α)(hx:er L x=some (.map (some r)))
  (hy:er L y=some (.agg (Enc.enc k).toArray)) (hz:er L z=some v) (hv:v=e7 ((xs.length:Nat):Int)) (hk:k∉xs) (hat:At I (mpE r xs) (mpE r (xs++[k])) I') :
  Eff P κ N Q ⟨none,.mapUpdate T x y z,ty,ps,af,gd⟩ L I λL' I''=>L'=L/\I''=I':=
 Eff.of_skip rfl λa w ha hs=>by
  have hb:=(hs.ok _ hat.mem).1
  have hf:=run_findStruct (w:=w) hkt he k xs
  rw [if_neg hk] at hf
  have hsn:=entF_snoc xs 0 k
  simp only [Nat.zero_add] at hsn
  refine ⟨{w with heap:=w.heap.setIfInBounds r (.map (entF 0 (xs++[k])).toArray (xs++[k]).length)},I',?_,⟨rfl,rfl⟩,?_⟩
  ·subst hv
   have hpush:(entF 0 xs).toArray.push {key:= .agg (Enc.enc k).toArray,val:=e7 ((xs.length:Nat):Int),born:=xs.length}=(entF 0 (xs++[k])).toArray:=by
    rw [hsn];simp
   have hl:xs.length+1=(xs++[k]).length:=by simp
   simp [execOp,ha.eval hx,ha.eval hy,ha.eval hz,Instr.mapUpdate,run_underlying ht,MapKept.run_getObj_map hb,hc k,hf,MapKept.run_setObj_map _ hb,Result.andThen,hsn]
  ·exact hs.upd hat rfl ⟨rfl,Nat.le_refl _⟩ rfl (by simp) (λk _ hne=>(MapKept.heap_set hb).2 k λe=>hne e) (MapKept.heap_set hb).1 λk hk=> .inl hk
theorem Runs.lookupE{x y:Operand}{T kt et r:Nat}{fs:Array Field}{xs:List α}{k:α}(ht:P.underlying T=some (.map kt et))(hkt:P.underlying kt=some (.struct fs))(he:EqT P kt α)(hc:KeyT P kt α)(hx:er L x=some (.map (some r)))
  (hy:er L y=some (.agg (Enc.enc k).toArray)) (hm:mpE r xs∈J) (hk:k∈xs):Runs P κ N ⟨d,.lookup T x y false,ty,ps,af,gd⟩ L J (e7 ((xs.idxOf k:Nat):Int)):=
 λa w ha hs=>by
  have hb:=(hs.ok _ hm).1
  have hf:=run_findStruct (w:=w) hkt he k xs
  rw [if_pos hk] at hf
  simp [execOp,ha.eval hx,ha.eval hy,Instr.lookup,run_underlying ht,MapKept.run_getObj_map hb,hc k,hf,Result.andThen]
end
end
end Go.Sl
namespace Go.Sl
open Go.Proofs
set_option maxRecDepth 4000
variable {κ:Ctx}{I:List Item}
def triE(nd:Int)(es:List Pt)(e:Pt):List Pt:=(commonG nd es e.u e.v).map λw=>(⟨((es.idxOf (edgeP e.u w):Nat):Int),((es.idxOf (edgeP e.v w):Nat):Int)⟩:Pt)
def trisE(nd:Int)(es:List Pt):List (List Pt):=es.map (triE nd es)
theorem ck135:KeyT prog 135 Pt:=λx e w=>by
 cases x;kernel_rfl
theorem common_mem{nd:Int}{es:List Pt}(hG:GrOk nd es){e:Pt}(he:e∈es){w:Int}(hw:w∈commonG nd es e.u e.v):edgeP e.u w∈es/\edgeP e.v w∈es:=by
 have hed:=hG.edge e he
 have hr:=hG.rows
 have hne:e.u≠e.v:=by omega
 have hc:¬checkG nd es≠0:=λh=>h (checkG_ok.2 hG)
 have hrow:∀u:Int,0<=u->u<nd->rowG nd es u=e_ (ek nd es) u:=λu h0 h1=>by
  have hlr:=hG.rows.len
  unfold rowG
  rw [if_neg (by rintro (h|h|h);(· omega);(· omega);(· exact hc h))]
 rw [←common_eq hne,mem_andB,hrow _ hed.1 om,hrow _ om hed.2.2,hr.mem hed.1 om,hr.mem om hed.2.2] at hw
 have key:∀a b:Int,((⟨a,b⟩:Pt)∈es\/(⟨b,a⟩:Pt)∈es)->edgeP a b∈es:=λa b h=>by
  unfold edgeP
  rcases h with h|h
  ·have:=hG.edge _ h
   simp only at this
   rw [if_neg om,if_pos om];exact h
  ·have:=hG.edge _ h
   simp only at this
   rw [if_pos om,if_neg om];exact h
 exact ⟨key _ _ hw.1.2,key _ _ hw.2.2⟩
theorem common_len{nd:Int}{es:List Pt}(hG:GrOk nd es){e:Pt}(he:e∈es):(commonG nd es e.u e.v).length<=nd.toNat - 1:=by
 have hed:=hG.edge e he
 have hne:e.u≠e.v:=by omega
 have hc:¬checkG nd es≠0:=λh=>h (checkG_ok.2 hG)
 have hrow:∀u:Int,0<=u->u<nd->rowG nd es u=e_ (ek nd es) u:=λu h0 h1=>by
  have hlr:=hG.rows.len
  unfold rowG
  rw [if_neg (by rintro (h|h|h);(· omega);(· omega);(· exact hc h))]
 rw [←common_eq hne,hrow _ hed.1 om,hrow _ om hed.2.2]
 have hS:=rows_sym hG
 have hl:=hG.rows.len
 have:=degB_lt hS (e_ (ek nd es) e.v) hed.1 om
 unfold degB at this
 omega
theorem tris_ok{nd:Int}{es:List Pt}(hG:GrOk nd es):TriOk (nd.toNat - 1) (trisE nd es):=by
 refine ⟨λl hl=>?_,λl hl p hp=>?_⟩
 ·obtain ⟨e,he,rfl⟩:=List.mem_map.1 hl
  unfold triE;rw [List.length_map];exact common_len hG he
 ·obtain ⟨e,he,rfl⟩:=List.mem_map.1 hl
  obtain ⟨w,hw,rfl⟩:=List.mem_map.1 hp
  obtain ⟨h1,h2⟩:=common_mem hG he hw
  have a:=List.idxOf_lt_length_of_mem h1
  have b:=List.idxOf_lt_length_of_mem h2
  have hl:(trisE nd es).length=es.length:=List.length_map ..
  simp only
  omega
def rgI(rs:List (RowG Pt)):List Item:=rs.map λr=>vc 64 (.slice r.a r.xs.length r.c) r.xs
theorem At.rg{I:List Item}{ad:Option Addr}{c:Nat}{xs:List Pt}:∀{rs:List (RowG Pt)} {i:Int},0<=i->i<rs.length->
  At (rgI rs++I) (vc 64 (.slice (e_ rs i).a (e_ rs i).xs.length (e_ rs i).c) (e_ rs i).xs) (vc 64 (.slice ad xs.length c) xs) (rgI (List.set rs i.toNat ⟨ad,c,xs⟩)++I):=fun {rs} {i} h0 h=>by
 obtain ⟨k,rfl⟩:∃k:Nat,i=(k:Int):=⟨i.toNat,by omega⟩
 rw [Int.toNat_natCast]
 clear h0
 induction rs generalizing k with
 |nil=>simp at h;omega
 |cons r rs ih=>
  cases k with
  |zero=>exact At.head _ _ _
  |succ k=>exact At.tail _ (ih k (by simp at h;omega))
theorem rgI_mem{I:List Item}{rs:List (RowG Pt)}{i:Int}(h0:0<=i)(h:i<rs.length):vc 64 (.slice (e_ rs i).a (e_ rs i).xs.length (e_ rs i).c) (e_ rs i).xs∈rgI rs++I:=(At.rg (ad:=none) (c:=0) (xs:=[]) h0 h).mem
theorem Fit.nilrg:∀(rs:List (RowG Pt)),(∀r∈rs,r=default)->Fit κ I (rgI rs++I)
 |[],_=>Fit.refl _
 |r::rs,h=>by
  refine Cn (Fit.nilrg rs λx hx=>h x (List.mem_cons_of_mem _ hx)) ?_
  show Fit κ _ (vc 64 (.slice r.a r.xs.length r.c) r.xs::_)
  rw [h r List.mem_cons_self]
  exact B2 _ _
theorem rows_tri{nd:Int}{es:List Pt}{rs:List (RowG Pt)}(hl:rs.length=es.length)(h:∀i:Nat,i<es.length->(e_ rs i).xs=triE nd es (e_ es i)):rs.map RowG.xs=trisE nd es:=by
 show rs.map RowG.xs=es.map (triE nd es)
 refine List.ext_getElem (by rw [List.length_map,List.length_map];exact hl) λi h1 h2=>?_
 rw [List.length_map] at h1
 have:=h i om
 rw [C4 _ _ h1,C4 _ _ om] at this
 rw [List.getElem_map,List.getElem_map];exact this
theorem not_take{es:List Pt}(h:es.Nodup){k:Nat}(hk:k<es.length):e_ es k∉es.take k:=by
 rw [C4 es k hk]
 intro hm
 obtain ⟨i,hi,e⟩:=List.mem_iff_getElem.1 hm
 rw [List.length_take] at hi
 rw [List.getElem_take] at e
 exact (List.pairwise_iff_getElem.1 h) i k om hk om e
set_option maxHeartbeats 2000000 in
theorem Triangles_ok{nd:Int}{va:Value}{es:List Pt}(hl:Sl κ I va es)(hG:GrOk nd es)(hb:es.length<=1000000)(hT:TabRd κ I 0 tzCells):eu prog κ 276 [.agg #[e7 nd,va]] I (λr J=>∃a c rs,r = .slice a (rs.length) c/\rs.map RowG.xs=trisE nd es/\J=vc 65 (.slice a rs.length c) rs::(rgI rs++I)):=by
 refine B8 hl.le λhmax=>?_
 have hrng:=hG.rng
 refine Ce1 Tryz.func276 C C ?_
 refine Ai (Ge1 (A9 (cs:=[_,_]) C C C) λb1=>Ga C (Af (Ai (Ge1 (Eff.makeMapE (α:=Pt) C) λmr2=>?_))))
 refine Ga C (Af (Ap (Ai (Gf fld48_1 C (Gl ty46 ?_)))))
 refine Gr (B0 (α:=Pt) (xs:=es) Bh C (Ba hl)) (Gm C (Af (A0 (B1 (σ:=Nat) (λs=>([(1,.pointer (some ⟨b1,0,none⟩)),(3,.map (some mr2)),(15,va),(16,e7 ((es.length:Nat):Int)),(17,e7 ((s:Nat):Int))]:Env)) (λs=>mpE (α:=Pt) mr2 (es.take s)::e8 b1 [e7 nd,va] 48::I) (λs=>(s<=es.length)) (λs=>es.length - s) 0 (show ((0:Nat)<=es.length) from om) (Aa C (Aa C (Aa C (Aa C (Aa Ca Bp))))) (show Fit κ _ (mpE (α:=Pt) mr2 (es.take 0)::e8 b1 [e7 nd,va] 48::I) from A1) ?_))))
 rintro k hp
 have hk:=hp
 refine Ai (Gr (A7 C C) (Af (Ap (A8 C (λc18=>?_) (λc18=>?_)))))
 ·refine Ay (Aj (Ap (A0 (Ai (Gm C (Gr (Az (α:=Pt) (xs:=es) Bh ty135 C C (Ba hl) om om) (Gr (Bz (α:=Pt) (xs:=es) ty135 C (Ba hl) om om) (Ge1 (Au ty135 C) λb3=>Ga C (Ge0 (Bq ty135) ?_)))))))))
  refine Af (Ax (Gm C (Gl2 ty135 ?_)))
  refine Gm C (Ge0 (Eff.updateE (α:=Pt) (k:=(e_ es k)) Tryz.underlying329 Di eqt135 ck135 C C C (by rw [List.length_take,Nat.min_eq_left om]) (not_take (asc_nodup hG.asc) om) am) ?_)
  exact Bi (Ak (Aj (Aq (S5 1 3 15 16 17 C C C C C) (Ax (Gr (Rad C C) (Gm C (Bi (B5 ((k+1)) om (hI:=by (try dsimp only);exact (by rw [C6 es k om];exact A1))))))))))
 ·refine Bv (Al (Al (A5 (Aj (Ai (Gf fld48_1 C ?_))))))
  have hk0:es.take k=es:=List.take_of_length_le om
  rw [hk0]
  refine Gl ty46 ?_
  refine Gr (B0 (α:=Pt) (xs:=es) Bh C (Ba hl)) (Ge2 (Cp (α:=(RowG Pt)) (n:=es.length) Du ty65 C C C om om dc C) λad4 cp5=>?_)
  refine Ga C (Af (Ap (Ai (Gf fld48_1 C (Gl ty46 ?_)))))
  refine Gr (B0 (α:=Pt) (xs:=es) Bh C (Ba hl)) (Gm C (Af (Aq (S6 33 32 31 6 1 3 C C C C C C) (A0 (B1 (σ:=Nat×(List (RowG Pt))) (λs=>([(1,.pointer (some ⟨b1,0,none⟩)),(3,.map (some mr2)),(6,.slice ad4 (replicate es.length (default:(RowG Pt))).length cp5),(31,va),(32,e7 ((es.length:Nat):Int)),(33,e7 ((s.1:Nat):Int))]:Env)) (λs=>vc 65 (.slice ad4 (replicate es.length (default:(RowG Pt))).length cp5) (s.2)::mpE (α:=Pt) mr2 (es)::e8 b1 [e7 nd,va] 48::(rgI s.2++I)) (λs=>(s.1<=es.length)/\(s.2.length=es.length)/\(∀i:Nat,i<s.1->(e_ s.2 i).xs=triE nd es (e_ es i))/\(∀i:Nat,s.1<=i->i<es.length->(e_ s.2 i).xs=[])) (λs=>es.length - s.1) (0,replicate es.length (default:RowG Pt)) (show ((0:Nat)<=es.length)/\((replicate es.length (default:RowG Pt):List (RowG Pt)).length=es.length)/\(∀i:Nat,i<(0:Nat)->(e_ (replicate es.length (default:RowG Pt):List (RowG Pt)) (i:Int)).xs=triE nd es (e_ es i))/\(∀i:Nat,(0:Nat)<=i->i<es.length->(e_ (replicate es.length (default:RowG Pt):List (RowG Pt)) (i:Int)).xs=[]) from ⟨om,List.length_replicate,(λi h=>by omega),(λi h1 h2=>by rw [at_rep _ _ _ om om];rfl)⟩) (Aa C (Aa C (Aa C (Aa C (Aa C (Aa Ca Bp)))))) (show Fit κ _ (vc 65 (.slice ad4 (replicate es.length (default:(RowG Pt))).length cp5) ((replicate es.length (default:RowG Pt)))::mpE (α:=Pt) mr2 (es)::e8 b1 [e7 nd,va] 48::(rgI (replicate es.length (default:RowG Pt))++I)) from (Cn (Fit.nilrg (replicate es.length (default:RowG Pt)) (λr hr=>List.eq_of_mem_replicate hr)) B7)) ?_)))))
  rintro ⟨k2,rs⟩ hp
  dsimp only at hp ⊢
  obtain ⟨hk2,hrl,hdn,hrs⟩:=hp
  refine Ai (Gr (A7 C C) (Af (Ap (A8 C (λc34=>?_) (λc34=>?_)))))
  ·refine Ay (Aj (Ap (A0 (Ai (Gm C (Gr (Az (α:=Pt) (xs:=es) Bh ty135 C C (Ba hl) om om) (Gr (Bz (α:=Pt) (xs:=es) ty135 C (Ba hl) om om) (Ge1 (Au ty135 C) λb6=>Ga C (Ge0 (Bq ty135) ?_)))))))))
   refine Af (Ai (Gl2 ty48 ?_))
   refine Gf fld135_0 C (Gl ef ?_)
   refine Gf fld135_1 C (Gl ef ?_)
   refine Gc2 (Ah call314 C C (CommonG_ok (nd:=nd) (Ba hl) ((e_ es k2).u) ((e_ es k2).v) (Bx hT A3))) λad7 cp8=>?_
   refine Gr (Bs Ac C) (Gm C (Af (Aq (S11 45 44 43 7 8 1 3 6 31 32 33 C C C C C C C C C C C) (A0 (B1 (σ:=Nat×(List (RowG Pt))) (λs=>([(1,.pointer (some ⟨b1,0,none⟩)),(3,.map (some mr2)),(6,.slice ad4 (replicate es.length (default:(RowG Pt))).length cp5),(7,e7 ((k2:Nat):Int)),(8,.pointer (some ⟨b6,0,none⟩)),(31,va),(32,e7 ((es.length:Nat):Int)),(33,e7 ((k2:Nat):Int)),(43,.slice ad7 (commonG nd es ((e_ es ((k2:Nat):Int)).u) ((e_ es ((k2:Nat):Int)).v)).length cp8),(44,e7 ((((commonG nd es ((e_ es ((k2:Nat):Int)).u) ((e_ es ((k2:Nat):Int)).v)).length:Nat):Int))),(45,e7 ((s.1:Nat):Int))]:Env)) (λs=>vc 3 (.slice ad7 (commonG nd es ((e_ es ((k2:Nat):Int)).u) ((e_ es ((k2:Nat):Int)).v)).length cp8) (commonG nd es ((e_ es ((k2:Nat):Int)).u) ((e_ es ((k2:Nat):Int)).v))::e8 b6 [e7 ((e_ es ((k2:Nat):Int)).u),e7 ((e_ es ((k2:Nat):Int)).v)] 135::vc 65 (.slice ad4 (replicate es.length (default:(RowG Pt))).length cp5) (s.2)::mpE (α:=Pt) mr2 (es)::e8 b1 [e7 nd,va] 48::(rgI s.2++I)) (λs=>(s.1<=(commonG nd es (e_ es ((k2:Nat):Int)).u (e_ es ((k2:Nat):Int)).v).length)/\(s.2.length=es.length)/\(∀i:Nat,i<k2->(e_ s.2 i).xs=triE nd es (e_ es i))/\(∀i:Nat,k2<i->i<es.length->(e_ s.2 i).xs=[])/\((e_ s.2 ((k2:Nat):Int)).xs=((commonG nd es (e_ es ((k2:Nat):Int)).u (e_ es ((k2:Nat):Int)).v).take s.1).map (λw=>(⟨((es.idxOf (edgeP (e_ es ((k2:Nat):Int)).u w):Nat):Int),((es.idxOf (edgeP (e_ es ((k2:Nat):Int)).v w):Nat):Int)⟩:Pt)))) (λs=>(commonG nd es (e_ es ((k2:Nat):Int)).u (e_ es ((k2:Nat):Int)).v).length - s.1) (0,rs) (show ((0:Nat)<=(commonG nd es (e_ es ((k2:Nat):Int)).u (e_ es ((k2:Nat):Int)).v).length)/\((rs:List (RowG Pt)).length=es.length)/\(∀i:Nat,i<k2->(e_ (rs:List (RowG Pt)) (i:Int)).xs=triE nd es (e_ es i))/\(∀i:Nat,k2<i->i<es.length->(e_ (rs:List (RowG Pt)) (i:Int)).xs=[])/\((e_ (rs:List (RowG Pt)) ((k2:Nat):Int)).xs=((commonG nd es (e_ es ((k2:Nat):Int)).u (e_ es ((k2:Nat):Int)).v).take (0:Nat)).map (λw=>(⟨((es.idxOf (edgeP (e_ es ((k2:Nat):Int)).u w):Nat):Int),((es.idxOf (edgeP (e_ es ((k2:Nat):Int)).v w):Nat):Int)⟩:Pt))) from ⟨om,hrl,hdn,(λi h1 h2=>hrs i om h2),(by rw [hrs k2 (Nat.le_refl _) om];simp)⟩) (Aa C (Aa C (Aa C (Aa C (Aa C (Aa C (Aa C (Aa C (Aa C (Aa C (Aa Ca Bp))))))))))) (show Fit κ _ (vc 3 (.slice ad7 (commonG nd es ((e_ es ((k2:Nat):Int)).u) ((e_ es ((k2:Nat):Int)).v)).length cp8) (commonG nd es ((e_ es ((k2:Nat):Int)).u) ((e_ es ((k2:Nat):Int)).v))::e8 b6 [e7 ((e_ es ((k2:Nat):Int)).u),e7 ((e_ es ((k2:Nat):Int)).v)] 135::vc 65 (.slice ad4 (replicate es.length (default:(RowG Pt))).length cp5) ((rs))::mpE (α:=Pt) mr2 (es)::e8 b1 [e7 nd,va] 48::(rgI (rs)++I)) from A1) ?_)))))
   rintro ⟨j,rs1⟩ hp
   dsimp only at hp ⊢
   obtain ⟨hj,hr1l,hd1,hq1,hcu⟩:=hp
   have hcl:=common_len hG (e:=(e_ es k2)) (Bf om om)
   have hwa:j<(commonG nd es (e_ es k2).u (e_ es k2).v).length->edgeP (e_ es k2).u (e_ (commonG nd es (e_ es k2).u (e_ es k2).v) (j:Int))∈es/\edgeP (e_ es k2).v (e_ (commonG nd es (e_ es k2).u (e_ es k2).v) (j:Int))∈es:=λh=>common_mem hG (Bf om om) (Bf om om)
   have hcul:((e_ rs1 k2).xs).length=j:=by rw [hcu,List.length_map,List.length_take];omega
   refine Ai (Gr (A7 C C) (Af (Ap (A8 C (λc46=>?_) (λc46=>?_)))))
   ·refine Ay (Aj (Ap (A0 (Ai (Gr (Az (α:=Int) (xs:=commonG nd es ((e_ es k2).u) ((e_ es k2).v)) Ac ef C C Bk om om) (Gr (Bo (xs:=commonG nd es ((e_ es k2).u) ((e_ es k2).v)) ef C Bk om om) (Ga C ?_)))))))
    have hw:=hwa om
    refine Af (Aq (S12 10 1 3 6 7 8 31 32 33 43 44 45 C C C C C C C C C C C C) (Ai (Gm C (Gf fld135_0 C (Gl ef ?_)))))
    refine Gm C (Gr (Ex C C) (Gf fld135_0 C (Gl ef ?_)))
    refine Gm C (Gr (D2 C C) (Gr (Bc (cells:=[_,_]) ty135 Di pl135 C C) (Gr (Runs.lookupE (α:=Pt) (k:=(edgeP (e_ es k2).u (e_ (commonG nd es ((e_ es k2).u) ((e_ es k2).v)) (j:Int)))) (xs:=es) Tryz.underlying329 Di eqt135 ck135 C C mm hw.1) (Ga C (Af (Aq (S13 11 10 1 3 6 7 8 31 32 33 43 44 45 C C C C C C C C C C C C C) (Ai (Gm C (Gf fld135_1 C (Gl ef ?_))))))))))
    refine Gm C (Gr (Ex C C) (Gf fld135_1 C (Gl ef ?_)))
    refine Gm C (Gr (D2 C C) (Gr (Bc (cells:=[_,_]) ty135 Di pl135 C C) (Gr (Runs.lookupE (α:=Pt) (k:=(edgeP (e_ es k2).v (e_ (commonG nd es ((e_ es k2).u) ((e_ es k2).v)) (j:Int)))) (xs:=es) Tryz.underlying329 Di eqt135 ck135 C C mm hw.2) (Ga C (Af (Aq (S13 12 11 1 3 6 7 8 31 32 33 43 44 45 C C C C C C C C C C C C C) (Ax (Gm C (Gm C (Gm C (Gm C (Gr (Az (α:=(RowG Pt)) (xs:=rs1) Du ty65 C C Bk om om) (Gr (Dj (α:=(RowG Pt)) (xs:=rs1) (u:= .slice (e_ rs1 k2).a (e_ rs1 k2).xs.length (e_ rs1 k2).c) ty65 C Bk om om C) (Gm C (Gm C (Gr (Runs.buildArr (cells:=[_,_]) ty64 B3 ef C C) (Ge1 (Cf (α:=Pt) (cs:=[_,_]) (xs:=[⟨((List.idxOf (edgeP (e_ es k2).u (e_ (commonG nd es ((e_ es k2).u) ((e_ es k2).v)) (j:Int))) es:Nat):Int),((List.idxOf (edgeP (e_ es k2).v (e_ (commonG nd es ((e_ es k2).u) ((e_ es k2).v)) (j:Int))) es:Nat):Int)⟩]) Ch ty64 C C dc dc C C C C) λad9=>?_)))))))))))))))))
    refine Ge2 (Cm (α:=Pt) (e:=64) (xs:=(e_ rs1 k2).xs) (ys:=([⟨((List.idxOf (edgeP (e_ es k2).u (e_ (commonG nd es ((e_ es k2).u) ((e_ es k2).v)) (j:Int))) es:Nat):Int),((List.idxOf (edgeP (e_ es k2).v (e_ (commonG nd es ((e_ es k2).u) ((e_ es k2).v)) (j:Int))) es:Nat):Int)⟩]:List Pt)) Ch ty64 C C C (by repeat (first|exact rgI_mem (rs:=rs1) (i:=(k2:Int)) om om|apply List.mem_cons_of_mem)) Bk lcn dc C (λ_ _=>(by repeat (first|exact At.rg (rs:=rs1) (i:=(k2:Int)) om om|apply At.tail)))) λad10 cp11=>?_
    show G prog κ _ _ _ _ ([(81,.slice ad10 ((e_ rs1 k2).xs++([⟨((List.idxOf (edgeP (e_ es k2).u (e_ (commonG nd es ((e_ es k2).u) ((e_ es k2).v)) (j:Int))) es:Nat):Int),((List.idxOf (edgeP (e_ es k2).v (e_ (commonG nd es ((e_ es k2).u) ((e_ es k2).v)) (j:Int))) es:Nat):Int)⟩]:List Pt)).length cp11),(80,.slice ad9 1 1),(79,.agg #[e7 (((List.idxOf (edgeP (e_ es k2).u (e_ (commonG nd es ((e_ es k2).u) ((e_ es k2).v)) (j:Int))) es:Nat):Int)),e7 (((List.idxOf (edgeP (e_ es k2).v (e_ (commonG nd es ((e_ es k2).u) ((e_ es k2).v)) (j:Int))) es:Nat):Int))]),(78,e7 (((List.idxOf (edgeP (e_ es k2).v (e_ (commonG nd es ((e_ es k2).u) ((e_ es k2).v)) (j:Int))) es:Nat):Int))),(77,e7 (((List.idxOf (edgeP (e_ es k2).u (e_ (commonG nd es ((e_ es k2).u) ((e_ es k2).v)) (j:Int))) es:Nat):Int))),(76,.slice (e_ rs1 k2).a (e_ rs1 k2).xs.length (e_ rs1 k2).c),(75,elemPtr (.slice ad4 (replicate es.length (default:(RowG Pt))).length cp5) (((k2:Int)).toNat*Enc.sz (RowG Pt))),(74,e7 ((k2:Int))),(73,.slice ad4 (replicate es.length (default:(RowG Pt))).length cp5),(72,e7 ((k2:Int))),(71,.slice ad4 (replicate es.length (default:(RowG Pt))).length cp5),(12,e7 (((List.idxOf (edgeP (e_ es k2).v (e_ (commonG nd es ((e_ es k2).u) ((e_ es k2).v)) (j:Int))) es:Nat):Int))),(11,e7 (((List.idxOf (edgeP (e_ es k2).u (e_ (commonG nd es ((e_ es k2).u) ((e_ es k2).v)) (j:Int))) es:Nat):Int))),(1,.pointer (some ⟨b1,0,none⟩)),(3,.map (some mr2)),(6,.slice ad4 (replicate es.length (default:(RowG Pt))).length cp5),(7,e7 ((k2:Int))),(8,.pointer (some ⟨b6,0,none⟩)),(31,va),(32,e7 ((es.length:Nat):Int)),(33,e7 ((k2:Int))),(43,.slice ad7 (commonG nd es ((e_ es k2).u) ((e_ es k2).v)).length cp8),(44,e7 ((((commonG nd es ((e_ es k2).u) ((e_ es k2).v)).length:Nat):Int))),(45,e7 ((j:Int)))]:Env) (vc 64 (.slice ad9 1 1) (([⟨((List.idxOf (edgeP (e_ es k2).u (e_ (commonG nd es ((e_ es k2).u) ((e_ es k2).v)) (j:Int))) es:Nat):Int),((List.idxOf (edgeP (e_ es k2).v (e_ (commonG nd es ((e_ es k2).u) ((e_ es k2).v)) (j:Int))) es:Nat):Int)⟩]:List Pt))::vc 3 (.slice ad7 (commonG nd es ((e_ es k2).u) ((e_ es k2).v)).length cp8) (commonG nd es ((e_ es k2).u) ((e_ es k2).v))::e8 b6 [e7 ((e_ es k2).u),e7 ((e_ es k2).v)] 135::vc 65 (.slice ad4 (replicate es.length (default:(RowG Pt))).length cp5) (rs1)::mpE (α:=Pt) mr2 (es)::e8 b1 [e7 nd,va] 48::(rgI (List.set rs1 ((k2:Int)).toNat (⟨ad10,cp11,((e_ rs1 k2).xs++([⟨((List.idxOf (edgeP (e_ es k2).u (e_ (commonG nd es ((e_ es k2).u) ((e_ es k2).v)) (j:Int))) es:Nat):Int),((List.idxOf (edgeP (e_ es k2).v (e_ (commonG nd es ((e_ es k2).u) ((e_ es k2).v)) (j:Int))) es:Nat):Int)⟩]:List Pt))⟩:RowG Pt))++I))
    refine Gr (Az (α:=(RowG Pt)) (xs:=rs1) Du ty65 C C Bk om om) (Ge0 (Cx (α:=(RowG Pt)) (xs:=rs1) (e:=65) (new:=(⟨ad10,cp11,((e_ rs1 k2).xs++([⟨((List.idxOf (edgeP (e_ es k2).u (e_ (commonG nd es ((e_ es k2).u) ((e_ es k2).v)) (j:Int))) es:Nat):Int),((List.idxOf (edgeP (e_ es k2).v (e_ (commonG nd es ((e_ es k2).u) ((e_ es k2).v)) (j:Int))) es:Nat):Int)⟩]:List Pt))⟩:RowG Pt)) ty65 C C C om om am) ?_)
    exact Bi (Ak (Aj (Aq (S11 1 3 6 7 8 31 32 33 43 44 45 C C C C C C C C C C C) (Ax (Gr (Rad C C) (Gm C (Bi (B5 ((j+1),(List.set rs1 ((k2:Int)).toNat (⟨ad10,cp11,((e_ rs1 k2).xs++([⟨((List.idxOf (edgeP (e_ es k2).u (e_ (commonG nd es ((e_ es k2).u) ((e_ es k2).v)) (j:Int))) es:Nat):Int),((List.idxOf (edgeP (e_ es k2).v (e_ (commonG nd es ((e_ es k2).u) ((e_ es k2).v)) (j:Int))) es:Nat):Int)⟩]:List Pt))⟩:RowG Pt))) (by dsimp only;exact ⟨om,(by rw [List.length_set];exact hr1l),(λi h=>by rw [C8 _ _ _ _ om om om,if_neg om];exact hd1 i h),(λi h1 h2=>by rw [C8 _ _ _ _ om om om,if_neg om];exact hq1 i h1 h2),(by rw [C8 _ _ _ _ om om om,if_pos rfl,C6 _ j om,List.map_append];show (e_ rs1 k2).xs++_=_;rw [hcu];rfl)⟩)))))))))
   ·exact Bv (Al (Al (A5 (Ak (Aj (Ax (Gr (Rad C C) (Gm C (Bi (B5 ((k2+1),(rs1)) (by dsimp only;exact ⟨om,hr1l,(λi h=>by by_cases e:i=k2;(· subst e;rw [hcu,List.take_of_length_le om];rfl);(· exact hd1 i om)),(λi h1 h2=>hq1 i om h2)⟩)))))))))))
  ·refine Bv (Al (Al (A5 (Aj (Ai (Gm C (Ga C (Af (A2 ?_)))))))))
   have hkl:k2=es.length:=by omega
   have hrt:=rows_tri hrl (λi h=>hdn i om)
   exact A6 C C (vc 65 (.slice ad4 rs.length cp5) rs::(rgI rs++I)) (by rw [hrl];simp only [List.length_replicate];exact B7) ⟨ad4,cp5,rs,by rw [hrl];simp only [List.length_replicate],hrt,rfl⟩
end Go.Sl
