/- A part of the proofs of statements of this seat: contracts of functions, and the plain laws that they lean on. No conditions. -/
import Derived.Test.YtfkcohmipjhfcaaGreatDoorH18
set_option linter.unusedVariables false
set_option linter.unusedSimpArgs false
set_option linter.unusedSectionVars false
namespace Go.Sl
open Go.Proofs
set_option maxRecDepth 4000
variable {κ:Ctx}{I:List Item}
theorem HCheck_ok{nd:Int}{va:Value}{es:List Ev}(hl:Sl κ I va es) :
    CallS Tryz.prog κ 79 [I64 (nd),va] I (fun r J=>r=I64 (streamE nd es)∧I=J):=by
 refine Ce2 Tryz.func79 rfl rfl ?_
 refine Ai (Ga rfl (Af (Ai (Gm rfl (Gm rfl (G.e (Ap call139 rfl rfl (Stream_ok (nd:=nd) (Bj hl))) ?_))))))
 rintro _ _ ⟨_,_,⟨rfl,rfl⟩,rfl,rfl⟩
 exact Ga rfl (Af (Ax (Ay rfl rfl (I) A0 ⟨rfl,rfl⟩)))
theorem ACheck_ok{nd kd wd mo:Int}{va:Value}{es:List Ev}(hl:Sl κ I va es) :
    CallS Tryz.prog κ 97 [I64 (nd),va,.agg #[I64 (kd),I64 (wd),I64 (mo)]] I (fun r J=>r=I64 (slideE nd kd wd mo es)∧I=J):=by
 refine Ce3 Tryz.func97 rfl rfl ?_
 refine Ai (Ge1 (Bd (cs:=[_,_,_]) rfl rfl rfl) fun b1=>Ga rfl (Af (Au (Ai (Gl3 ty31 ?_)))))
 refine G.e (Ap call78 rfl rfl (CheckW_ok kd wd mo)) ?_
 rintro _ _ ⟨_,_,⟨rfl,rfl⟩,rfl,rfl⟩
 refine Ga rfl (Af (Ai (Gm rfl (Gr (Be rfl rfl) (Af (A7 rfl (fun c11=>?_) (fun c11=>?_)))))))
 ·exact Ai (Gm rfl (Ga rfl (Af (Ax (Ah (Ay rfl rfl (I) A0 ⟨by unfold slideE;rw [if_pos c11],rfl⟩))))))
 ·refine Aw (Aj (Ai (Gm rfl (Gm rfl (Gc0 (Ap call79 rfl rfl (HCheck_ok (nd:=nd) (Bj hl))) ?_)))))
  exact Ga rfl (Af (Ar (S1 6 rfl) (Ax (Ay rfl rfl (I) A0 ⟨by unfold slideE;rw [if_neg c11],rfl⟩))))
theorem Frames_ok{nd kd wd mo:Int}{ea:Option Addr}{en ec:Nat} :
    CallS Tryz.prog κ 98 [I64 (nd),.slice ea en ec,.agg #[I64 (kd),I64 (wd),I64 (mo)]] I (fun r J=>∃q1 q2 q3,r = .func (.func 165) #[] #[.pointer (some ⟨q1,0,none⟩),.pointer (some ⟨q2,0,none⟩),.pointer (some ⟨q3,0,none⟩)]∧J=blk q3 [I64 kd,I64 wd,I64 mo] 31::blk q2 [.slice ea en ec] 28::blk q1 [I64 nd] 3::I):=by
 refine Ce3 Tryz.func98 rfl rfl ?_
 exact Ai (Ge1 (Bd (cs:=[_]) rfl rfl rfl) fun b1=>Ge1 (Bd (cs:=[_]) rfl rfl rfl) fun b2=>Ge1 (Bd (cs:=[_,_,_]) rfl rfl rfl) fun b3=>Ga rfl (Af (Ai (Gr (Eb rfl rfl) (Ga rfl (Af (Ax (Ay rfl rfl (blk b3 [I64 (kd),I64 (wd),I64 (mo)] 31::blk b2 [.slice ea en ec] 28::blk b1 [I64 (nd)] 3::I) (Df _) ⟨b1,b2,b3,rfl,rfl⟩))))))))
theorem at_end{kd wd mo tq:Int}{es:List Ev}(h:∀i:Nat,i<(allE kd wd mo es).length→(at_ (allE kd wd mo es) (i:Int)).tm≤tq):edgesK (linksL ((allE kd wd mo es).take (allE kd wd mo es).length))=atG kd wd mo es tq:=by
 unfold atG
 rw [atK_stop (Nat.le_refl _) h fun hlt=>absurd hlt (Nat.lt_irrefl _)]
theorem at_stop{kd wd mo tq:Int}{es:List Ev}{j:Nat}(hj:j<(allE kd wd mo es).length)(h:∀i:Nat,i<j→(at_ (allE kd wd mo es) (i:Int)).tm≤tq)(h2:tq<(at_ (allE kd wd mo es) (j:Int)).tm):edgesK (linksL ((allE kd wd mo es).take j))=atG kd wd mo es tq:=by
 unfold atG
 rw [atK_stop (Nat.le_of_lt hj) h fun _=>h2]
theorem atm_all{E:List Ev}{fst own:Bool}{j j1:Nat}{tm tq:Int}(hM:MomentX E fst j tm own j1)(hle:tm≤tq)(hq:fst=false→∀i:Nat,i<j→(at_ E (i:Int)).tm≤tq):∀i:Nat,i<j1→(at_ E (i:Int)).tm≤tq:=fun i hi=>by
 by_cases h:i<j
 ·cases hf:fst with
  |true=>have:=(hM.first hf).2;omega
  |false=>exact hq hf i h
 ·rw [hM.same i om hi];exact hle
theorem at_left{kd wd mo nd gn tm tq:Int}{es:List Ev}{X:List Pt}{fst own:Bool}{j j1:Nat}(hM:MomentX (allE kd wd mo es) fst j tm own j1)(hjl:j≤(allE kd wd mo es).length)(hlt:tq<tm)(h0:0≤tq)
  (hq:fst=false→gn=nd∧X=edgesK (linksL ((allE kd wd mo es).take j))∧∀i:Nat,i<j→(at_ (allE kd wd mo es) (i:Int)).tm≤tq):gn=nd∧X=atG kd wd mo es tq:=by
 cases hf:fst with
 |true=>have:=(hM.first hf).1;omega
 |false=>
  obtain ⟨h1,h2⟩:=hM.next hf
  obtain ⟨q1,q2,q3⟩:=hq hf
  exact ⟨q1,q2.trans (at_stop h1 q3 om)⟩
set_option maxHeartbeats 2000000 in
theorem At_ok{nd kd wd mo tq:Int}{ea:Option Addr}{ec:Nat}{es:List Ev}(hl:Sl κ I (.slice ea es.length ec) es)(hH:HistOk nd kd wd mo es)(hlen:es.length≤19)(ht:0≤tq∧tq≤1048576) :
    CallS Tryz.prog κ 44 [I64 (nd),.slice ea es.length ec,.agg #[I64 (kd),I64 (wd),I64 (mo)],I64 (tq)] I (fun r J=>∃a c,r = .tuple #[.agg #[I64 nd,.slice a (atG kd wd mo es tq).length c],I64 0]∧J=vc 135 (.slice a (atG kd wd mo es tq).length c) (atG kd wd mo es tq)::I):=by
 refine CallS.enterM (L:=[(0,I64 (nd)),(1,.slice ea es.length ec),(2,.agg #[I64 (kd),I64 (wd),I64 (mo)]),(3,I64 (tq))]) Tryz.func44 rfl rfl rfl rfl ?_
 refine Ai (Ge1 (Bd (cs:=[_,_,_]) rfl rfl rfl) fun b1=>Ge1 (Bd (cs:=[_]) rfl rfl rfl) fun b2=>Ge1 (A8 ty48 rfl) fun b3=>Ga rfl (Af (Au (Ai (Gm rfl (Gm rfl (Gl3 ty31 ?_)))))))
 refine Gc0 (Ap call97 rfl rfl (ACheck_ok (nd:=nd) (kd:=kd) (wd:=wd) (mo:=mo) (Bj hl))) ?_
 refine Ga rfl (Af (Ai (Gm rfl (Gr (Be rfl rfl) (Af (Ar (S7 19 10 8 7 6 0 1 rfl rfl rfl rfl rfl rfl rfl) (A7 rfl (fun c19=>?_) (fun c19=>?_))))))))
 ·exact absurd (slideE_zeroH hH) c19
 ·refine Aw (Aj (Au (Ai (Gl ty3 ?_))))
  refine Gr (A9 rfl rfl) (Gm rfl (Bb (d:=24) rfl (fun g24=>?_) (fun g24=>?_)))
  ·omega
  ·refine Gro (As ty3) ?_
   refine Gro (Bz rfl rfl) (Gr (Al rfl rfl) (Af (Ar (S6 27 8 7 6 0 1 rfl rfl rfl rfl rfl rfl) (A7 rfl (fun c27=>?_) (fun c27=>?_)))))
   ·omega
   ·refine Aw (Aj (Ai (Ge1 (A8 ty48 rfl) fun b4=>Af (Au (Ai (Gm rfl (Gm rfl (Gl3 ty31 ?_))))))))
    refine G.e (Ap call98 rfl rfl Frames_ok) ?_
    rintro _ _ ⟨_,_,⟨qb5,qb6,qb7,rfl,rfl⟩,rfl,rfl⟩
    refine Af (A4 (W.fit (J:=blk b4 [I64 (0),.slice none 0 0] 48::vc 135 (.slice none 0 0) (([]:List Pt))::blk qb7 [I64 (kd),I64 (wd),I64 (mo)] 31::blk qb6 [.slice ea es.length ec] 28::blk qb5 [I64 (nd)] 3::blk b3 [I64 (0),.slice none 0 0] 48::blk b2 [I64 (tq)] 3::blk b1 [I64 (kd),I64 (wd),I64 (mo)] 31::I) (Cg (Bw (α:=Pt) 135 _) Bt) ?_))
    refine W.rangeFnB (gf:=165) (lb:=[.pointer (some ⟨qb5,0,none⟩),.pointer (some ⟨qb6,0,none⟩),.pointer (some ⟨qb7,0,none⟩)]) rfl call165 fun Dm l rc hr1 hr2 hr3 hr4 hta=>?_
    refine (Frames1_ok (I:=blk qb7 [I64 (kd),I64 (wd),I64 (mo)] 31::blk qb6 [.slice ea es.length ec] 28::blk qb5 [I64 (nd)] 3::blk b3 [I64 (0),.slice none 0 0] 48::blk b2 [I64 (tq)] 3::blk b1 [I64 (kd),I64 (wd),I64 (mo)] 31::I) (σ:=Int×(Option Addr)×Nat×(List Pt)) (τ:=Int×(Option Addr)×Nat×(List Pt)) (l:=l) (Lf:=fun s=>[recI l rc,dfrI Dm,blk b4 [I64 (s.1),.slice s.2.1 s.2.2.2.length s.2.2.1] 48,vc 135 (.slice s.2.1 s.2.2.2.length s.2.2.1) (s.2.2.2)]) (Pf:=fun fst j s=>(fst=false→s.1=nd∧s.2.2.2=edgesK (linksL ((allE kd wd mo es).take j))∧∀i:Nat,i<j→(at_ (allE kd wd mo es) (i:Int)).tm≤tq)∧(j≤(allE kd wd mo es).length)) (Xf:=fun s=>[recI l {rc with state:= .done,pending:=some (.exit 0)},dfrI Dm,blk b4 [I64 (s.1),.slice s.2.1 s.2.2.2.length s.2.2.1] 48,vc 135 (.slice s.2.1 s.2.2.2.length s.2.2.1) (s.2.2.2)]) (Qf:=fun s=>(s.1=nd∧s.2.2.2=atG kd wd mo es tq)) (s0:=(0,none,0,([]:List Pt))) hH hlen (Ci mm) (Ci mm) (Ci mm) (Bj hl) ⟨fun h=>(by cases h),Nat.zero_le _⟩ ?_).mono ?_
    ·rintro T hTI fst j tm own j1 ga gc hM ⟨gn,a,c,X⟩ hp
     obtain ⟨hq,hjl⟩:(fst=false→gn=nd∧X=edgesK (linksL ((allE kd wd mo es).take j))∧∀i:Nat,i<j→(at_ (allE kd wd mo es) (i:Int)).tm≤tq)∧(j≤(allE kd wd mo es).length):=hp
     have hbq:BlkRd κ T b2 [I64 (tq)] 3:=(Ci (I:=blk qb7 [I64 (kd),I64 (wd),I64 (mo)] 31::blk qb6 [.slice ea es.length ec] 28::blk qb5 [I64 (nd)] 3::blk b3 [I64 (0),.slice none 0 0] 48::blk b2 [I64 (tq)] 3::blk b1 [I64 (kd),I64 (wd),I64 (mo)] 31::I) mm).fit hTI
     refine YieldB.fit (J:=recI l rc::vc 135 (.slice ga (edgesK (linksL ((allE kd wd mo es).take j1))).length gc) (edgesK (linksL ((allE kd wd mo es).take j1)))::dfrI Dm::blk b4 [I64 (gn),.slice a X.length c] 48::vc 135 (.slice a X.length c) (X)::T) Bt ?_
     refine YieldB.mkA (L₀:=[(34,.agg #[I64 (nd),.slice ga (edgesK (linksL ((allE kd wd mo es).take j1))).length gc]),(33,.agg #[I64 (tm),.bool (own)]),(32,.func (.func 165) #[] #[.pointer (some ⟨qb5,0,none⟩),.pointer (some ⟨qb6,0,none⟩),.pointer (some ⟨qb7,0,none⟩)]),(31,.agg #[I64 (kd),I64 (wd),I64 (mo)]),(30,.slice ea es.length ec),(29,I64 (nd)),(11,.pointer (some ⟨b4,0,none⟩)),(27,.bool (decide (1048576<tq))),(8,.pointer (some ⟨b3,0,none⟩)),(7,.pointer (some ⟨b2,0,none⟩)),(6,.pointer (some ⟨b1,0,none⟩)),(0,I64 (nd)),(1,.slice ea es.length ec)]) (by rw [hr2];rfl) hr3 hr4 (by rw [hr2,fold_two];exact ag_two hta rfl rfl) ?_
     refine D7 ?_
     refine C3 (fun _ _ h=>False.elim h) rfl ?_
     refine Ge1 (A8 ty153 rfl) fun b8=>Ge0 (Ce ty153) ?_
     refine Bc (Dn ?_)
     refine Ex (L':=[(12,_),(34,_),(11,_),(7,_)]) (Aa rfl (Aa rfl (Aa rfl (Aa rfl Bg)))) ?_
     refine C3 (fun _ _ h=>False.elim h) rfl ?_
     refine Ge1 (A8 ty48 rfl) fun b9=>Ge0 (Ce ty48) ?_
     refine Bc (V.begin (blk b9 [I64 (nd),.slice ga (edgesK (linksL ((allE kd wd mo es).take j1))).length gc] 48::blk b8 [I64 (tm),.bool (own)] 153::vc 135 (.slice ga (edgesK (linksL ((allE kd wd mo es).take j1))).length gc) (edgesK (linksL ((allE kd wd mo es).take j1)))::dfrI Dm::blk b4 [I64 (gn),.slice a X.length c] 48::vc 135 (.slice a X.length c) (X)::T) Bt hr1 ?_)
     refine WR.block ?_
     refine D7 ?_
     refine D7 ?_
     refine C3 (fun _ _ h=>False.elim h) rfl ?_
     refine Gf fld153_0 rfl (Gl ty3 ?_)
     refine Gr (Co ty3 rfl (Cm hbq A0) rfl) (Gr (Bz rfl rfl) (Bc (Dn ?_)))
     refine WR.ite rfl (fun c38=>?_) (fun c38=>?_)
     ·refine WR.exit ?_
      exact Am (Dg rfl (V.roundX (dfrI Dm::blk b4 [I64 (gn),.slice a X.length c] 48::vc 135 (.slice a X.length c) (X)::T) Bt (.inr ⟨rfl,(gn,a,c,X),(show (gn=nd∧X=atG kd wd mo es tq) from (at_left hM hjl om om hq)),rfl⟩)))
     ·refine WR.skip ?_
      refine Dn ?_
      refine C3 (fun _ _ h=>False.elim h) rfl ?_
      refine Gl2 ty48 ?_
      refine Ge0 (Ce ty48) ?_
      refine Bc (Ak ?_)
      have hall:∀i:Nat,i<j1→(at_ (allE kd wd mo es) (i:Int)).tm≤tq:=atm_all hM om (fun h=>(hq h).2.2)
      exact Ef (dfrI Dm::blk b4 [I64 (nd),.slice ga (edgesK (linksL ((allE kd wd mo es).take j1))).length gc] 48::vc 135 (.slice ga (edgesK (linksL ((allE kd wd mo es).take j1))).length gc) ((edgesK (linksL ((allE kd wd mo es).take j1))))::T) Bt hr1 (.inl ⟨rfl,(nd,ga,gc,edgesK (linksL ((allE kd wd mo es).take j1))),(show (false=false→nd=nd∧(edgesK (linksL ((allE kd wd mo es).take j1)))=edgesK (linksL ((allE kd wd mo es).take j1))∧∀i:Nat,i<j1→(at_ (allE kd wd mo es) (i:Int)).tm≤tq)∧(j1≤(allE kd wd mo es).length) from ⟨(fun _=>⟨rfl,rfl,hall⟩),hM.le.2⟩),rfl⟩)
    rintro v K ⟨rfl,(⟨⟨gn,a,c,X⟩,hp,rfl⟩|⟨⟨gn,a,c,X⟩,hp,rfl⟩)⟩
    ·obtain ⟨hq,hjl⟩:(false=false→gn=nd∧X=edgesK (linksL ((allE kd wd mo es).take (allE kd wd mo es).length))∧∀i:Nat,i<(allE kd wd mo es).length→(at_ (allE kd wd mo es) (i:Int)).tm≤tq)∧((allE kd wd mo es).length≤(allE kd wd mo es).length):=hp
     refine .inl ⟨_,rfl,?_⟩
     show V κ _ _ .normal ([(32,.func (.func 165) #[] #[.pointer (some ⟨qb5,0,none⟩),.pointer (some ⟨qb6,0,none⟩),.pointer (some ⟨qb7,0,none⟩)]),(31,.agg #[I64 (kd),I64 (wd),I64 (mo)]),(30,.slice ea es.length ec),(29,I64 (nd)),(11,.pointer (some ⟨b4,0,none⟩)),(27,.bool (decide (1048576<tq))),(8,.pointer (some ⟨b3,0,none⟩)),(7,.pointer (some ⟨b2,0,none⟩)),(6,.pointer (some ⟨b1,0,none⟩)),(0,I64 (nd)),(1,.slice ea es.length ec)]:Env) (dfrI Dm::blk b4 [I64 (gn),.slice a X.length c] 48::vc 135 (.slice a X.length c) (X)::blk qb7 [I64 (kd),I64 (wd),I64 (mo)] 31::blk qb6 [.slice ea es.length ec] 28::blk qb5 [I64 (nd)] 3::blk b3 [I64 (0),.slice none 0 0] 48::blk b2 [I64 (tq)] 3::blk b1 [I64 (kd),I64 (wd),I64 (mo)] 31::I)
     have hX:X=atG kd wd mo es tq:=(hq rfl).2.1.trans (at_end (hq rfl).2.2)
     have hgn:=(hq rfl).1
     refine Ak (Aj (Ai (Gl2 ty48 ?_)))
     refine Ge0 (Ce ty48) ?_
     refine Ga rfl (Af (Ax ?_))
     rw [hX,hgn]
     refine V.fit (J:=dfrI Dm::blk b4 [I64 (nd),.slice a (atG kd wd mo es tq).length c] 48::vc 135 (.slice a (atG kd wd mo es tq).length c) ((atG kd wd mo es tq))::blk qb7 [I64 (kd),I64 (wd),I64 (mo)] 31::blk qb6 [.slice ea es.length ec] 28::blk qb5 [I64 (nd)] 3::blk b3 [I64 (nd),.slice a (atG kd wd mo es tq).length c] 48::blk b2 [I64 (tq)] 3::blk b1 [I64 (kd),I64 (wd),I64 (mo)] 31::I) Bt (V.leave ?_)
     exact D4 rfl ty48 rfl rfl mm rfl (vc 135 (.slice a (atG kd wd mo es tq).length c) (atG kd wd mo es tq)::I) Bt ⟨a,c,rfl,rfl⟩
    ·have hQ:(gn=nd∧X=atG kd wd mo es tq):=hp
     refine .inr ⟨_,_,rfl,?_⟩
     show W Tryz.prog κ _ _ _ ([(32,.func (.func 165) #[] #[.pointer (some ⟨qb5,0,none⟩),.pointer (some ⟨qb6,0,none⟩),.pointer (some ⟨qb7,0,none⟩)]),(31,.agg #[I64 (kd),I64 (wd),I64 (mo)]),(30,.slice ea es.length ec),(29,I64 (nd)),(11,.pointer (some ⟨b4,0,none⟩)),(27,.bool (decide (1048576<tq))),(8,.pointer (some ⟨b3,0,none⟩)),(7,.pointer (some ⟨b2,0,none⟩)),(6,.pointer (some ⟨b1,0,none⟩)),(0,I64 (nd)),(1,.slice ea es.length ec)]:Env) (dfrI Dm::blk b4 [I64 (gn),.slice a X.length c] 48::vc 135 (.slice a X.length c) (X)::blk qb7 [I64 (kd),I64 (wd),I64 (mo)] 31::blk qb6 [.slice ea es.length ec] 28::blk qb5 [I64 (nd)] 3::blk b3 [I64 (0),.slice none 0 0] 48::blk b2 [I64 (tq)] 3::blk b1 [I64 (kd),I64 (wd),I64 (mo)] 31::I)
     have hX:=hQ.2
     have hgn:=hQ.1
     refine Bs (A6 (Aj (Ai (Gl2 ty48 ?_))))
     refine Ge0 (Ce ty48) ?_
     refine Ga rfl (Af (Ax ?_))
     rw [hX,hgn]
     refine V.fit (J:=dfrI Dm::blk b4 [I64 (nd),.slice a (atG kd wd mo es tq).length c] 48::vc 135 (.slice a (atG kd wd mo es tq).length c) ((atG kd wd mo es tq))::blk qb7 [I64 (kd),I64 (wd),I64 (mo)] 31::blk qb6 [.slice ea es.length ec] 28::blk qb5 [I64 (nd)] 3::blk b3 [I64 (nd),.slice a (atG kd wd mo es tq).length c] 48::blk b2 [I64 (tq)] 3::blk b1 [I64 (kd),I64 (wd),I64 (mo)] 31::I) Bt (V.leave ?_)
     exact D4 rfl ty48 rfl rfl mm rfl (vc 135 (.slice a (atG kd wd mo es tq).length c) (atG kd wd mo es tq)::I) Bt ⟨a,c,rfl,rfl⟩
end Go.Sl
/- The links at a time, asked from the events of the window up to it and from what has expired by then. No conditions. -/
namespace Go.Sl
theorem gone_mem{kd wd mo nw:Int}{xs:List Lk}{e:Ev}(he:e∈goneL kd wd mo nw xs):e.kd=2∧e.tm=nw:=by
 unfold goneL at he
 obtain ⟨z,hz,rfl⟩:=List.mem_map.1 he
 exact ⟨rfl,rfl⟩
theorem slide3_asc{nd mo:Int}{es:List Ev}(h:StOk nd es):∀k,k≤es.length→(slideS 3 0 mo (es.take k)).2.Pairwise (fun a b=>a.tm≤b.tm)∧∀e∈(slideS 3 0 mo (es.take k)).2,e.tm≤lastT es k
 |0,_=>⟨List.Pairwise.nil,fun e he=>(by cases he)⟩
 |k+1,hk=>by
  have ih:=slide3_asc (mo:=mo) h k om
  have hto:=h.asc k om
  rw [slideS_succ om,evStep3]
  generalize slideS 3 0 mo (es.take k)=s at ih ⊢
  generalize hee:at_ es (k:Int)=e at hto ⊢
  have hlt:lastT es (k+1)=e.tm:=by rw [lastT_succ,hee]
  rw [hlt]
  have hg:∀y∈goneL 3 0 mo e.tm (stepL s.1 e),y.tm=e.tm:=fun y hy=>(gone_mem hy).2
  have hb:∀y∈s.2++[e],y.tm≤e.tm:=fun y hy=>by
   rcases List.mem_append.1 hy with hy|hy
   ·have:=ih.2 y hy;omega
   ·rw [List.mem_singleton.1 hy];exact Int.le_refl _
  refine ⟨List.pairwise_append.2 ⟨List.pairwise_append.2 ⟨ih.1,List.pairwise_singleton _ _,fun x hx y hy=>?_⟩,?_,fun x hx y hy=>?_⟩,fun y hy=>?_⟩
  ·rw [List.mem_singleton.1 hy];exact hb x (List.mem_append_left _ hx)
  ·refine List.Pairwise.imp_of_mem (R:=fun _ _=>True) (fun hx hy _=>?_) (List.pairwise_of_forall (fun _ _=>trivial))
   rw [hg _ hx,hg _ hy];exact Int.le_refl _
  ·rw [hg y hy];exact hb x hx
  ·rcases List.mem_append.1 hy with hy|hy
   ·exact hb y hy
   ·rw [hg y hy];exact Int.le_refl _
section
variable {nd kd wd mo:Int}{es:List Ev}
theorem StOk.pw(h:StOk nd es):es.Pairwise fun a b=>a.tm≤b.tm:=by
 rw [List.pairwise_iff_getElem]
 intro i j hi hj hij
 have h1:=h.up j om i hij
 have h2:=h.asc j hj
 rw [Ds es i hi] at h1
 rw [Ds es j hj] at h2
 omega
theorem HistOk.asc(h:HistOk nd kd wd mo es):(slideS kd wd mo es).2.Pairwise fun a b=>a.tm≤b.tm:=by
 have he:es.take es.length=es:=List.take_length
 rcases checkW_cases h.win with ⟨rfl,rfl,rfl⟩|⟨rfl,hw,rfl⟩|⟨rfl,rfl,hm⟩
 ·rw [all_same];exact h.st.pw
 ·have:=(BehB.all (mo:=0) h.st hw.1 es.length (Nat.le_refl _)).asc
  rwa [he] at this
 ·have:=(slide3_asc (mo:=mo) h.st es.length (Nat.le_refl _)).1
  rwa [he] at this
end
theorem place_spec(l:List Ev)(x:Ev):∀n,n≤l.length→placeG evC l x n≤n∧(∀i:Nat,placeG evC l x n≤i→i<n→x.tm<(at_ l (i:Int)).tm)∧(0<placeG evC l x n→(at_ l ((placeG evC l x n - 1:Nat):Int)).tm≤x.tm)
 |0,_=>⟨Nat.le_refl _,fun i h1 h2=>by omega,fun h=>absurd h (Nat.lt_irrefl 0)⟩
 |n+1,hn=>by
  unfold placeG
  split
  ·rename_i h
   obtain ⟨h1,h2,h3⟩:=place_spec l x n om
   refine ⟨by omega,fun i hi hlt=>?_,h3⟩
   by_cases e:i=n
   ·subst e;exact evC_neg.1 h
   ·exact h2 i hi om
  ·rename_i h
   refine ⟨Nat.le_refl _,fun i h1 h2=>by omega,fun _=>?_⟩
   have:¬x.tm<(at_ l (n:Int)).tm:=fun hh=>h (evC_neg.2 hh)
   show (at_ l (n:Int)).tm≤x.tm
   omega
theorem insert_asc{l:List Ev}(h:l.Pairwise fun a b=>a.tm≤b.tm)(x:Ev):(insertG evC l x).Pairwise fun a b=>a.tm≤b.tm:=by
 obtain ⟨h1,h2,h3⟩:=place_spec l x l.length (Nat.le_refl _)
 unfold insertG insG
 generalize placeG evC l x l.length=p at h1 h2 h3
 have hg:=List.pairwise_iff_getElem.1 h
 have ha:∀a∈l.take p,a.tm≤x.tm:=fun a ha=>by
  obtain ⟨i,hi,rfl⟩:=List.getElem_of_mem ha
  rw [List.length_take] at hi
  rw [List.getElem_take]
  have h4:=h3 om
  rw [Ds l (p - 1) om] at h4
  by_cases e:i=p - 1
  ·subst e;exact h4
  ·have:=hg i (p - 1) om om om;omega
 have hb:∀b∈l.drop p,x.tm≤b.tm:=fun b hb=>by
  obtain ⟨i,hi,rfl⟩:=List.getElem_of_mem hb
  rw [List.length_drop] at hi
  rw [List.getElem_drop]
  have h4:=h2 (p+i) om om
  rw [Ds l (p+i) om] at h4
  omega
 refine List.pairwise_append.2 ⟨h.sublist (List.take_sublist _ _),List.pairwise_cons.2 ⟨hb,h.sublist (List.drop_sublist _ _)⟩,fun a ha' b hb'=>?_⟩
 rcases List.mem_cons.1 hb' with rfl|hb'
 ·exact ha a ha'
 ·have h5:=ha a ha';have h6:=hb b hb';omega
theorem isortC_acc:∀(xs acc:List Ev),acc.Pairwise (fun a b=>a.tm≤b.tm)→(xs.foldl (insertG evC) acc).Pairwise fun a b=>a.tm≤b.tm
 |[],acc,h=>h
 |x::xs,acc,h=>isortC_acc xs _ (insert_asc h x)
theorem isortC_asc(xs:List Ev):(isortG evC xs).Pairwise fun a b=>a.tm≤b.tm:=isortC_acc xs [] List.Pairwise.nil
section
variable {nd kd wd mo T:Int}{es:List Ev}
theorem HistOk.all_asc(h:HistOk nd kd wd mo es):(allE kd wd mo es).Pairwise fun a b=>a.tm≤b.tm:=by
 unfold allE
 refine List.pairwise_append.2 ⟨h.asc,isortC_asc _,fun x hx y hy=>?_⟩
 have hy:=(Ee _ _).mem_iff.1 hy
 unfold lateL at hy
 obtain ⟨z,hz,rfl⟩:=List.mem_map.1 hy
 obtain ⟨h1,h2⟩:=List.mem_filter.1 hz
 unfold lateP at h2
 have h2:=of_decide_eq_true h2
 show x.tm≤z.tm+wd
 rcases checkW_cases h.win with ⟨e1,_⟩|⟨e1,hw,e3⟩|⟨e1,_⟩
 ·omega
 ·subst e1
  have he:es.take es.length=es:=List.take_length
  have hB:=BehB.all (mo:=mo) h.st hw.1 es.length (Nat.le_refl _)
  rw [he] at hB
  rw [←h.links] at h1
  have h3:=hB.le x hx
  have h4:=hB.inv.al rfl z h1
  omega
 ·omega
end
end Go.Sl
namespace Go.Sl
variable {P:Program}{κ:Ctx}{N:Frm}{L:Env}{I:List Item}
end Go.Sl
namespace Go.Sl
variable {P:Program}{κ:Ctx}{N:Frm}{L:Env}{I:List Item}
theorem V.retv3{fn:Func}{t u s:Tmp}{T U S b b' b2 E E' E2 by' by2 by3:Nat}{z z' z2:List Value}{v v' v2:Value}{Post:Value→List Item→Prop}(hr:fn.results = #[.cell t T,.cell u U,.cell s S])(hT:tyF P T=some (1,false,by',z))(hU:tyF P U=some (1,false,by2,z'))(hS:tyF P S=some (1,false,by3,z2))
  (hv:look L t=some (.pointer (some ⟨b,0,none⟩))) (hv':look L u=some (.pointer (some ⟨b',0,none⟩))) (hv2:look L s=some (.pointer (some ⟨b2,0,none⟩))) (hb:blk b [v] E∈I) (hb':blk b' [v'] E'∈I) (hb2:blk b2 [v2] E2∈I)
  (J:List Item) (hf:Fit κ I J) (hp:Post (.tuple #[v,v',v2]) J) (h0:N.ds=[]:=by rfl):V κ N (bodyPost P fn (RetR κ Post)) .ret L I:=
 fun a w ha hs=>by
  have hcell:w.cell? ⟨b,0,none⟩=some v:=by rw [cell_blk (w:=w) (hs.ok _ hb).1 0];rfl
  have hcell2:w.cell? ⟨b',0,none⟩=some v':=by rw [cell_blk (w:=w) (hs.ok _ hb').1 0];rfl
  have hcell3:w.cell? ⟨b2,0,none⟩=some v2:=by rw [cell_blk (w:=w) (hs.ok _ hb2).1 0];rfl
  have hload:(loadVar T ⟨b,0,none⟩).run P w = .ok v w:=run_loadVar_one hT hcell
  have hload2:(loadVar U ⟨b',0,none⟩).run P w = .ok v' w:=run_loadVar_one hU hcell2
  have hload3:(loadVar S ⟨b2,0,none⟩).run P w = .ok v2 w:=run_loadVar_one hS hcell3
  refine bodyPost_ret (v:= .tuple #[v,v',v2]) ?_ (ha.defers.trans h0) ⟨_,J,rfl,hp,hf w hs⟩
  simp [results,hr,ha.get t _ hv,ha.get u _ hv',ha.get s _ hv2,asAddr,hload,hload2,hload3]
theorem V.retttc{fn:Func}{t u s:Tmp}{T b E sz by':Nat}{z cs:List Value}{v v':Value}{Post:Value→List Item→Prop}(hr:fn.results = #[.tmp t,.tmp u,.cell s T])(hT:tyF P T=some (sz,true,by',z))(hv:look L t=some v)(hv':look L u=some v')(hs':look L s=some (.pointer (some ⟨b,0,none⟩)))(hb:blk b cs E∈I)(hl:cs.length=sz)
  (J:List Item) (hf:Fit κ I J) (hp:Post (.tuple #[v,v',.agg cs.toArray]) J) (h0:N.ds=[]:=by rfl):V κ N (bodyPost P fn (RetR κ Post)) .ret L I:=
 fun a w ha hs=>by
  have hcell:=fun j=>cell_blk (w:=w) (hs.ok _ hb).1 j
  have hload:(loadVar T ⟨b,0,none⟩).run P w = .ok (.agg cs.toArray) w:=run_loadVar_agg hT hl fun j u hj=>by rw [addr_add,hcell,←hj];simp
  refine bodyPost_ret (v:= .tuple #[v,v',.agg cs.toArray]) ?_ (ha.defers.trans h0) ⟨_,J,rfl,hp,hf w hs⟩
  simp [results,hr,ha.get t _ hv,ha.get u _ hv',ha.get s _ hs',asAddr,hload]
end Go.Sl
namespace Go.Sl
open Go.Proofs
set_option maxRecDepth 4000
structure MgI (za zb:List Int) (i j:Nat) (out:List Int):Prop where
 hi:i≤za.length
 hj:j≤zb.length
 out:out=(za.take i).filter fun x=>decide (x∉zb)
 lo:∀p:Nat,p<i→j<zb.length→at_ za (p:Int)<at_ zb (j:Int)
 up:∀q:Nat,q<j→i<za.length→at_ zb (q:Int)<at_ za (i:Int)
theorem ascI_at{zs:List Int}(h:zs.Pairwise (· < ·)){p q:Nat}(hpq:p<q)(hq:q<zs.length):at_ zs (p:Int)<at_ zs (q:Int):=by
 rw [Ds zs p om,Ds zs q hq]
 exact (List.pairwise_iff_getElem.1 h) p q om hq hpq
theorem mem_atN{zs:List Int}{x:Int}(h:x∈zs):∃q:Nat,q<zs.length∧x=at_ zs (q:Int):=by
 obtain ⟨q,hq,rfl⟩:=List.getElem_of_mem h
 exact ⟨q,hq,(Ds zs q hq).symm⟩
section
variable {za zb:List Int}{i j:Nat}{out:List Int}
theorem MgI.start:MgI za zb 0 0 []:=⟨Nat.zero_le _,Nat.zero_le _,rfl,fun p h=>absurd h (Nat.not_lt_zero _),fun q h=>absurd h (Nat.not_lt_zero _)⟩
theorem MgI.one(h:MgI za zb i j out)(ha:za.Pairwise (· < ·))(hb:zb.Pairwise (· < ·))(hi:i<za.length)(hc:j<zb.length→at_ za (i:Int)<at_ zb (j:Int)):MgI za zb (i+1) j (out++[at_ za (i:Int)]):=by
 refine ⟨by omega,h.hj,?_,fun p hp hj=>?_,fun q hq hi2=>?_⟩
 ·have hn:at_ za (i:Int)∉zb:=fun hm=>by
   obtain ⟨q,hq,e⟩:=mem_atN hm
   by_cases hqj:q<j
   ·have:=h.up q hqj hi;omega
   ·have h1:=hc om
    by_cases hqe:q=j
    ·rw [hqe] at e;omega
    ·have:=ascI_at hb (show j<q by omega) hq;omega
  rw [Cz za i hi,List.filter_append,←h.out]
  simp [List.filter_cons,hn]
 ·by_cases hpi:p=i
  ·rw [hpi];exact hc hj
  ·exact h.lo p om hj
 ·have h1:=h.up q hq hi
  have h2:=ascI_at ha (show i<i+1 by omega) hi2
  omega
theorem MgI.two(h:MgI za zb i j out)(ha:za.Pairwise (· < ·))(hb:zb.Pairwise (· < ·))(hj:j<zb.length)(hc:i<za.length→at_ zb (j:Int)<at_ za (i:Int)):MgI za zb i (j+1) out:=by
 refine ⟨h.hi,by omega,h.out,fun p hp hj2=>?_,fun q hq hi2=>?_⟩
 ·have h1:=h.lo p hp hj
  have h2:=ascI_at hb (show j<j+1 by omega) hj2
  omega
 ·by_cases hqj:q=j
  ·rw [hqj];exact hc hi2
  ·exact h.up q om hi2
theorem MgI.both(h:MgI za zb i j out)(ha:za.Pairwise (· < ·))(hb:zb.Pairwise (· < ·))(hi:i<za.length)(hj:j<zb.length)(he:at_ za (i:Int)=at_ zb (j:Int)):MgI za zb (i+1) (j+1) out:=by
 refine ⟨by omega,by omega,?_,fun p hp hj2=>?_,fun q hq hi2=>?_⟩
 ·have hm:at_ za (i:Int)∈zb:=by rw [he];exact Cf om om
  rw [Cz za i hi,List.filter_append,←h.out]
  simp [List.filter_cons,hm]
 ·have h2:=ascI_at hb (show j<j+1 by omega) hj2
  by_cases hpi:p=i
  ·rw [hpi,he];exact h2
  ·have:=h.lo p om hj;omega
 ·have h2:=ascI_at ha (show i<i+1 by omega) hi2
  by_cases hqj:q=j
  ·rw [hqj,←he];exact h2
  ·have:=h.up q om hi;omega
end
def ascZ(xs:List Int):List Int:=compG (sortZ xs) (sortZ xs).length
theorem ascZ_asc(xs:List Int):(ascZ xs).Pairwise (· < ·):=compZ_asc (sortZ_asc xs)
theorem mem_ascZ{xs:List Int}{x:Int}:x∈ascZ xs↔x∈xs:=(mem_compZ (sortZ_asc xs)).trans mem_sortZ
theorem ascZ_len(xs:List Int):(ascZ xs).length≤xs.length:=Nat.le_trans (compG_len _ _) (Nat.le_of_eq (sortZ_len xs))
def minusZ(xs ys:List Int):List Int:=(ascZ xs).filter fun x=>decide (x∉ascZ ys)
theorem minusZ_nil{xs ys:List Int}:(minusZ xs ys).length=0↔∀x∈xs,x∈ys:=by
 unfold minusZ
 rw [List.length_eq_zero_iff,List.filter_eq_nil_iff]
 constructor
 ·intro h x hx
  have:=h x (mem_ascZ.2 hx)
  exact mem_ascZ.1 (Classical.byContradiction fun hn=>this (decide_eq_true hn))
 ·intro h x hx hd
  exact of_decide_eq_true hd (mem_ascZ.2 (h x (mem_ascZ.1 hx)))
theorem CompactI_n{κ:Ctx}{I:List Item}{a:Option Addr}{n c:Nat}{xs:List Int}(hn:n=xs.length)(hsz:xs.length<1000000000000):CallS Tryz.prog κ 143 [.slice a n c] (vc 3 (.slice a n c) xs::I) fun r J=>r = .slice a (compG xs xs.length).length c∧J=vc 3 (.slice a (compG xs xs.length).length c) (compG xs xs.length)::I:=by
 subst hn;exact CompactI_ok hsz
theorem Minus1_b{κ:Ctx}{I:List Item}(p q:Bool) :
    CallS Tryz.prog κ 236 [.bool (p),.bool (q)] I (fun r J=>r = .bool (!q)∧I=J):=by
 refine Ce2 Tryz.func236 rfl rfl ?_
 exact Ai (Ga rfl (Af (Ai (Gm rfl (Gr (Cu rfl) (Ga rfl (Af (Ax (Ay rfl rfl (I) A0 ⟨rfl,rfl⟩)))))))))
theorem Minus1_d{κ:Ctx}{I:List Item}(p:Bool)(q:Prop)[Decidable q]:CallS Tryz.prog κ 236 [.bool p,.bool (decide q)] I fun r J=>r = .bool (decide (¬q))∧I=J:=
 (Minus1_b p (decide q)).mono fun r J h=>⟨by rw [h.1,decide_not],h.2⟩
set_option maxHeartbeats 2000000 in
theorem MergedI_ok{κ:Ctx}{I:List Item}{a0 b0:Option Addr}{c0 d0:Nat}{xs ys:List Int}(hl:Sl κ I (.slice a0 xs.length c0) xs)(hm:Sl κ I (.slice b0 ys.length d0) ys)(hx:xs.length≤100000)(hy:ys.length≤100000) :
    CallS Tryz.prog κ 235 [.slice a0 xs.length c0,.slice b0 ys.length d0,.func (.func 236) #[] #[]] I (fun r J=>∃a c,r = .slice a (minusZ xs ys).length c∧J=vc 3 (.slice a (minusZ xs ys).length c) (minusZ xs ys)::I):=by
 refine Ce3 Tryz.func235 rfl rfl ?_
 refine Ai (Ga rfl (Af (Ai (Gm rfl (Gc2 (Ap call284 rfl rfl (CloneI (xs:=xs) (Bj hl) om)) fun ad1 cp2=>?_)))))
 refine Gm rfl (Gc2 (Ap call284 rfl rfl (CloneI (xs:=ys) (Bj hm) om)) fun ad3 cp4=>?_)
 refine Ga rfl (Ga rfl (Af (Ai (Gm rfl (Gc1 (Ap call142 rfl rfl (Cj (J:=vc 3 (.slice ad1 xs.length cp2) (xs)::vc 3 (.slice ad3 ys.length cp4) (ys)::I) Bt (sortI_ok om))) ?_)))))
 refine Af (Ai (Gm rfl (Gc1 (Ap call142 rfl rfl (Cj (J:=vc 3 (.slice ad3 ys.length cp4) (ys)::vc 3 (.slice ad1 xs.length cp2) (sortZ xs)::I) Bt (sortI_ok om))) ?_)))
 refine Af (Ar (S3 1 0 2 rfl rfl rfl) (Ai (Gm rfl (G.e (Ap call143 rfl rfl (Cj (J:=vc 3 (.slice ad1 xs.length cp2) (sortZ xs)::vc 3 (.slice ad3 ys.length cp4) (sortZ ys)::I) Bt (CompactI_n (xs:=sortZ xs) (by first|rfl|exact (sortZ_len _).symm) (by first|omega|(rw [sortZ_len];omega))))) ?_))))
 rintro _ _ ⟨_,_,⟨rfl,rfl⟩,rfl,rfl⟩
 show G Tryz.prog κ _ _ _ _ ([(20,.slice ad1 (ascZ xs).length cp2),(19,.slice ad1 xs.length cp2),(1,.slice ad3 ys.length cp4),(0,.slice ad1 xs.length cp2),(2,.func (.func 236) #[] #[])]:Env) (vc 3 (.slice ad1 (ascZ xs).length cp2) (ascZ xs)::vc 3 (.slice ad3 ys.length cp4) (sortZ ys)::I)
 refine Gm rfl (G.e (Ap call143 rfl rfl (Cj (J:=vc 3 (.slice ad3 ys.length cp4) (sortZ ys)::vc 3 (.slice ad1 (ascZ xs).length cp2) (ascZ xs)::I) Bt (CompactI_n (xs:=sortZ ys) (by first|rfl|exact (sortZ_len _).symm) (by first|omega|(rw [sortZ_len];omega))))) ?_)
 rintro _ _ ⟨_,_,⟨rfl,rfl⟩,rfl,rfl⟩
 show G Tryz.prog κ _ _ _ _ ([(22,.slice ad3 (ascZ ys).length cp4),(21,.slice ad3 ys.length cp4),(20,.slice ad1 (ascZ xs).length cp2),(19,.slice ad1 xs.length cp2),(1,.slice ad3 ys.length cp4),(0,.slice ad1 xs.length cp2),(2,.func (.func 236) #[] #[])]:Env) (vc 3 (.slice ad3 (ascZ ys).length cp4) (ascZ ys)::vc 3 (.slice ad1 (ascZ xs).length cp2) (ascZ xs)::I)
 refine Ga rfl (Ga rfl (Af (Ai (Ga rfl ?_))))
 generalize hza:ascZ xs=za
 generalize hzb:ascZ ys=zb
 have hzal:za.length≤xs.length:=by rw [←hza];exact ascZ_len xs
 have hzbl:zb.length≤ys.length:=by rw [←hzb];exact ascZ_len ys
 have hasa:za.Pairwise (· < ·):=by rw [←hza];exact ascZ_asc xs
 have hasb:zb.Pairwise (· < ·):=by rw [←hzb];exact ascZ_asc ys
 have he0:Sl κ [vc 3 (.slice ad1 za.length cp2) za] (.slice ad1 (List.drop 0 za).length cp2) (List.drop 0 za):=E5 List.mem_cons_self
 have hf0:Sl κ [vc 3 (.slice ad3 zb.length cp4) zb] (.slice ad3 (List.drop 0 zb).length cp4) (List.drop 0 zb):=E5 List.mem_cons_self
 refine Af (Au (A4 (Bv (σ:=Nat×Nat×(Option Addr)×Nat×(Option Addr)×Nat×(Option Addr)×Nat×(List Int)) (fun s=>([(0,.slice s.2.2.1 (List.drop s.1 za).length s.2.2.2.1),(1,.slice s.2.2.2.2.1 (List.drop s.2.1 zb).length s.2.2.2.2.2.1),(2,.func (.func 236) #[] #[]),(7,.slice s.2.2.2.2.2.2.1 s.2.2.2.2.2.2.2.2.length s.2.2.2.2.2.2.2.1)]:Env)) (fun s=>vc 3 (.slice s.2.2.2.2.2.2.1 s.2.2.2.2.2.2.2.2.length s.2.2.2.2.2.2.2.1) (s.2.2.2.2.2.2.2.2)::vc 3 (.slice ad3 zb.length cp4) (zb)::vc 3 (.slice ad1 za.length cp2) (za)::I) (fun s=>(MgI za zb s.1 s.2.1 s.2.2.2.2.2.2.2.2)∧(Sl κ [vc 3 (.slice ad1 za.length cp2) za] (.slice s.2.2.1 (List.drop s.1 za).length s.2.2.2.1) (List.drop s.1 za))∧(Sl κ [vc 3 (.slice ad3 zb.length cp4) zb] (.slice s.2.2.2.2.1 (List.drop s.2.1 zb).length s.2.2.2.2.2.1) (List.drop s.2.1 zb))) (fun s=>(za.length - s.1)+(zb.length - s.2.1)) (0,0,ad1,cp2,ad3,cp4,none,0,[]) (show (MgI za zb (0:Nat) (0:Nat) ([]:List Int))∧(Sl κ [vc 3 (.slice ad1 za.length cp2) za] (.slice (ad1:Option Addr) (List.drop (0:Nat) za).length (cp2:Nat)) (List.drop (0:Nat) za))∧(Sl κ [vc 3 (.slice ad3 zb.length cp4) zb] (.slice (ad3:Option Addr) (List.drop (0:Nat) zb).length (cp4:Nat)) (List.drop (0:Nat) zb)) from ⟨MgI.start,he0,hf0⟩) (Aa (Cp rfl (by first|rfl|simp)) (Aa (Cp rfl (by first|rfl|simp)) (Aa rfl (Aa (Cp rfl (by first|rfl|simp)) Bg)))) (show Fit κ _ (vc 3 (.slice (none) ([]).length (0)) (([]))::vc 3 (.slice ad3 zb.length cp4) (zb)::vc 3 (.slice ad1 za.length cp2) (za)::I) from (Bw _ _)) ?_)))
 rintro ⟨i,j,ea,ec,fa,fc,a,c,out⟩ hp
 dsimp only at hp ⊢
 obtain ⟨hM,hea,hfb⟩:=hp
 have hi1:=hM.hi
 have hj1:=hM.hj
 have hla:(List.drop i za).length=za.length - i:=List.length_drop
 have hlb:(List.drop j zb).length=zb.length - j:=List.length_drop
 have hol:out.length≤i:=by rw [hM.out];refine Nat.le_trans (List.length_filter_le _ _) ?_;rw [List.length_take];omega
 have hda:at_ (List.drop i za) 0=at_ za (i:Int):=at_zero_drop za i
 have hdb:at_ (List.drop j zb) 0=at_ zb (j:Int):=at_zero_drop zb j
 refine Au (Eq (σ:=Bool) (fun s=>([(0,.slice ea (List.drop i za).length ec),(1,.slice fa (List.drop j zb).length fc),(2,.func (.func 236) #[] #[]),(7,.slice a out.length c),(30,.bool (decide (s=true)))]:Env)) (fun s=>vc 3 (.slice a out.length c) (out)::vc 3 (.slice ad3 zb.length cp4) (zb)::vc 3 (.slice ad1 za.length cp2) (za)::I) (fun s=>(s=true↔(i<za.length∨j<zb.length))) ?_ ?_)
 ·refine Az (Gm rfl (Gr (Bp Ac rfl) (Gr (Bz rfl rfl) (Gm rfl (Bb (d:=26) rfl (fun g26=>?_) (fun g26=>?_))))))
  ·exact Gpo (Gpo (Gpo (Gr (Ao rfl rfl) (Bc (Dh ((true)) (by first|exact ⟨fun _=>by omega,fun _=>rfl⟩|exact ⟨fun h=>(by cases h),fun h=>by exfalso;omega⟩|(rw [decide_eq_true_eq];omega)))))))
  ·exact Gro (Ad rfl) (Gro (Bp Ac rfl) (Gro (Bz rfl rfl) (Gr (Al rfl rfl) (Bc (Dh ((decide (0<(((List.drop j zb).length:Nat):Int)))) (by first|exact ⟨fun _=>by omega,fun _=>rfl⟩|exact ⟨fun h=>(by cases h),fun h=>by exfalso;omega⟩|(rw [decide_eq_true_eq];omega)))))))
 ·rintro pk hp
  have hpk:(pk=true↔(i<za.length∨j<zb.length)):=hp
  show W Tryz.prog κ 86 _ _ ([(0,.slice ea (List.drop i za).length ec),(1,.slice fa (List.drop j zb).length fc),(2,.func (.func 236) #[] #[]),(7,.slice a out.length c),(30,.bool (decide (pk=true)))]:Env) (vc 3 (.slice a out.length c) (out)::vc 3 (.slice ad3 zb.length cp4) (zb)::vc 3 (.slice ad1 za.length cp2) (za)::I)
  refine A7 rfl (fun c30=>?_) (fun c30=>?_)
  ·refine Aw (Aj (A4 (Eq (σ:=Bool) (fun s=>([(0,.slice ea (List.drop i za).length ec),(1,.slice fa (List.drop j zb).length fc),(2,.func (.func 236) #[] #[]),(7,.slice a out.length c),(8,.bool (decide (s=true)))]:Env)) (fun s=>vc 3 (.slice a out.length c) (out)::vc 3 (.slice ad3 zb.length cp4) (zb)::vc 3 (.slice ad1 za.length cp2) (za)::I) (fun s=>(s=true↔(zb.length≤j∨(i<za.length∧at_ za (i:Int)≤at_ zb (j:Int))))) ?_ ?_)))
   ·refine Bk mixed (Bo (vc 3 (.slice a out.length c) (out)::vc 3 (.slice ad3 zb.length cp4) (zb)::vc 3 (.slice ad1 za.length cp2) (za)::I) 18 (Dr 0 rfl (Ad rfl) ?_))
    have e0:=hpk.1 c30
    refine Dr 1 rfl (Bp Ac rfl) (Dr 2 rfl (Bi rfl rfl) (Dr 3 rfl (Ad rfl) (C7 (d:=34) rfl (fun g34=>?_) (fun g34=>?_))))
    ·exact Dpo 4 rfl (Dpo 5 rfl (Dpo 6 rfl (Dpo 7 rfl (Dpu 8 rfl (Dpu 9 rfl (Dpu 10 rfl (Dpu 11 rfl (Dpu 12 rfl (Dpu 13 rfl (Dpu 14 rfl (Dpo 15 rfl (Dr 16 rfl (Ao rfl rfl) (Dr 17 rfl (Ba rfl) (Dz (Dh ((true)) (by first|exact ⟨fun _=>by omega,fun _=>rfl⟩|exact ⟨fun h=>(by cases h),fun h=>by exfalso;omega⟩|(rw [decide_eq_true_eq];omega)))))))))))))))))
    ·refine Dro 4 rfl (Ad rfl) (Dro 5 rfl (Bp Ac rfl) (Dro 6 rfl (Bz rfl rfl) (Dro 7 rfl (Ad rfl) (C7 (d:=38) rfl (fun g38=>?_) (fun g38=>?_)))))
     ·exact Dro 8 rfl (Ad rfl) (Dro 9 rfl (A3 (α:=Int) (xs:=List.drop i za) Ac ty3 rfl rfl (B7 hea f1) om om) (Dro 10 rfl (Br (xs:=List.drop i za) ty3 rfl (B7 hea f1) om om) (Dro 11 rfl (Ad rfl) (Dro 12 rfl (A3 (α:=Int) (xs:=List.drop j zb) Ac ty3 rfl rfl (B7 hfb f1) om om) (Dro 13 rfl (Br (xs:=List.drop j zb) ty3 rfl (B7 hfb f1) om om) (Dro 14 rfl (Dt rfl rfl) (Dro 15 rfl (Ao rfl rfl) (Dr 16 rfl (Al rfl rfl) (Dr 17 rfl (Ba rfl) (Dz (Dh ((decide ((at_ (List.drop i za) 0)≤(at_ (List.drop j zb) 0)))) (by first|exact ⟨fun _=>by omega,fun _=>rfl⟩|exact ⟨fun h=>(by cases h),fun h=>by exfalso;omega⟩|(rw [decide_eq_true_eq];omega)))))))))))))
     ·exact Dpo 8 rfl (Dpo 9 rfl (Dpo 10 rfl (Dpo 11 rfl (Dpo 12 rfl (Dpo 13 rfl (Dpo 14 rfl (Dro 15 rfl (Al rfl rfl) (Dr 16 rfl (Al rfl rfl) (Dr 17 rfl (Ba rfl) (Dz (Dh ((false)) (by first|exact ⟨fun _=>by omega,fun _=>rfl⟩|exact ⟨fun h=>(by cases h),fun h=>by exfalso;omega⟩|(rw [decide_eq_true_eq];omega)))))))))))))
   ·rintro pf hp
    have hpf:(pf=true↔(zb.length≤j∨(i<za.length∧at_ za (i:Int)≤at_ zb (j:Int)))):=hp
    show W Tryz.prog κ 86 _ _ ([(0,.slice ea (List.drop i za).length ec),(1,.slice fa (List.drop j zb).length fc),(2,.func (.func 236) #[] #[]),(7,.slice a out.length c),(8,.bool (decide (pf=true)))]:Env) (vc 3 (.slice a out.length c) (out)::vc 3 (.slice ad3 zb.length cp4) (zb)::vc 3 (.slice ad1 za.length cp2) (za)::I)
    refine Eq (σ:=Bool) (fun s=>([(0,.slice ea (List.drop i za).length ec),(1,.slice fa (List.drop j zb).length fc),(2,.func (.func 236) #[] #[]),(7,.slice a out.length c),(8,.bool (decide (pf=true))),(9,.bool (decide (s=true)))]:Env)) (fun s=>vc 3 (.slice a out.length c) (out)::vc 3 (.slice ad3 zb.length cp4) (zb)::vc 3 (.slice ad1 za.length cp2) (za)::I) (fun s=>(s=true↔(za.length≤i∨(j<zb.length∧at_ zb (j:Int)≤at_ za (i:Int))))) ?_ ?_
    ·refine Bk mixed (Bo (vc 3 (.slice a out.length c) (out)::vc 3 (.slice ad3 zb.length cp4) (zb)::vc 3 (.slice ad1 za.length cp2) (za)::I) 18 (Dr 0 rfl (Ad rfl) ?_))
     have e0:=hpk.1 c30
     refine Dr 1 rfl (Bp Ac rfl) (Dr 2 rfl (Bi rfl rfl) (Dr 3 rfl (Ad rfl) (C7 (d:=51) rfl (fun g51=>?_) (fun g51=>?_))))
     ·exact Dpo 4 rfl (Dpo 5 rfl (Dpo 6 rfl (Dpo 7 rfl (Dpu 8 rfl (Dpu 9 rfl (Dpu 10 rfl (Dpu 11 rfl (Dpu 12 rfl (Dpu 13 rfl (Dpu 14 rfl (Dpo 15 rfl (Dr 16 rfl (Ao rfl rfl) (Dr 17 rfl (Ba rfl) (Dz (Dh ((true)) (by first|exact ⟨fun _=>by omega,fun _=>rfl⟩|exact ⟨fun h=>(by cases h),fun h=>by exfalso;omega⟩|(rw [decide_eq_true_eq];omega)))))))))))))))))
     ·refine Dro 4 rfl (Ad rfl) (Dro 5 rfl (Bp Ac rfl) (Dro 6 rfl (Bz rfl rfl) (Dro 7 rfl (Ad rfl) (C7 (d:=55) rfl (fun g55=>?_) (fun g55=>?_)))))
      ·exact Dro 8 rfl (Ad rfl) (Dro 9 rfl (A3 (α:=Int) (xs:=List.drop j zb) Ac ty3 rfl rfl (B7 hfb f1) om om) (Dro 10 rfl (Br (xs:=List.drop j zb) ty3 rfl (B7 hfb f1) om om) (Dro 11 rfl (Ad rfl) (Dro 12 rfl (A3 (α:=Int) (xs:=List.drop i za) Ac ty3 rfl rfl (B7 hea f1) om om) (Dro 13 rfl (Br (xs:=List.drop i za) ty3 rfl (B7 hea f1) om om) (Dro 14 rfl (Dt rfl rfl) (Dro 15 rfl (Ao rfl rfl) (Dr 16 rfl (Al rfl rfl) (Dr 17 rfl (Ba rfl) (Dz (Dh ((decide ((at_ (List.drop j zb) 0)≤(at_ (List.drop i za) 0)))) (by first|exact ⟨fun _=>by omega,fun _=>rfl⟩|exact ⟨fun h=>(by cases h),fun h=>by exfalso;omega⟩|(rw [decide_eq_true_eq];omega)))))))))))))
      ·exact Dpo 8 rfl (Dpo 9 rfl (Dpo 10 rfl (Dpo 11 rfl (Dpo 12 rfl (Dpo 13 rfl (Dpo 14 rfl (Dro 15 rfl (Al rfl rfl) (Dr 16 rfl (Al rfl rfl) (Dr 17 rfl (Ba rfl) (Dz (Dh ((false)) (by first|exact ⟨fun _=>by omega,fun _=>rfl⟩|exact ⟨fun h=>(by cases h),fun h=>by exfalso;omega⟩|(rw [decide_eq_true_eq];omega)))))))))))))
    ·rintro ps hp
     have hps:(ps=true↔(za.length≤i∨(j<zb.length∧at_ zb (j:Int)≤at_ za (i:Int)))):=hp
     show W Tryz.prog κ 86 _ _ ([(0,.slice ea (List.drop i za).length ec),(1,.slice fa (List.drop j zb).length fc),(2,.func (.func 236) #[] #[]),(7,.slice a out.length c),(8,.bool (decide (pf=true))),(9,.bool (decide (ps=true)))]:Env) (vc 3 (.slice a out.length c) (out)::vc 3 (.slice ad3 zb.length cp4) (zb)::vc 3 (.slice ad1 za.length cp2) (za)::I)
     refine Ai (Ga rfl ?_)
     have e0:=hpk.1 c30
     refine Af (Au (Ai (Gm rfl ?_)))
     have hpq:pf=true∨ps=true:=by rw [hpf,hps];omega
     refine Af (A7 rfl (fun c65=>?_) (fun c65=>?_))
     ·refine Bk mixed (Bo (vc 3 (.slice a out.length c) (out)::vc 3 (.slice ad3 zb.length cp4) (zb)::vc 3 (.slice ad1 za.length cp2) (za)::I) 7 (Dr 0 rfl (Ad rfl) ?_))
      have e1:=hpf.1 c65
      refine Dr 1 rfl (A3 (α:=Int) (xs:=List.drop i za) Ac ty3 rfl rfl (B7 hea f1) om om) (Dr 2 rfl (Br (xs:=List.drop i za) ty3 rfl (B7 hea f1) om om) ?_)
      rw [hda]
      refine Dr 3 rfl (Ad rfl) (Dr 4 rfl (Ec (α:=Int) (xs:=List.drop i za) (l:=1) Ac ty3 rfl rfl om (B7 hea f1) om) (Dr 5 rfl (Ba rfl) (Dr 6 rfl (Ba rfl) (Dz (Aj (Ar (S7 0 10 1 2 7 8 9 rfl rfl rfl rfl rfl rfl rfl) (Au (Ai (Gm rfl (Af (A7 rfl (fun c71=>?_) (fun c71=>?_))))))))))))
      ·refine Bk mixed (Bo (vc 3 (.slice a out.length c) (out)::vc 3 (.slice ad3 zb.length cp4) (zb)::vc 3 (.slice ad1 za.length cp2) (za)::I) 7 (Dr 0 rfl (Ad rfl) ?_))
       have e2:=hps.1 c71
       refine Dr 1 rfl (A3 (α:=Int) (xs:=List.drop j zb) Ac ty3 rfl rfl (B7 hfb f1) om om) (Dr 2 rfl (Br (xs:=List.drop j zb) ty3 rfl (B7 hfb f1) om om) (Dr 3 rfl (Ad rfl) (Dr 4 rfl (Ec (α:=Int) (xs:=List.drop j zb) (l:=1) Ac ty3 rfl rfl om (B7 hfb f1) om) (Dr 5 rfl (Ba rfl) (Dr 6 rfl (Ba rfl) (Dz (Aj (Ar (S7 1 10 0 2 7 8 9 rfl rfl rfl rfl rfl rfl rfl) (Ai (Gm rfl ?_))))))))))
       first|have e1:=hpf.1 c65|have e1:=mt hpf.2 c65
       first|have e2:=hps.1 c71|have e2:=mt hps.2 c71
       refine Gm rfl (Gm rfl (Gc0 (Cx call236 rfl rfl rfl (Minus1_d (decide (pf=true)) (ps=true))) ?_))
       refine Af (A7 rfl (fun c80=>?_) (fun c80=>?_))
       ·refine Az (Gm rfl (Gm rfl (Ge1 (B1 (α:=Int) (cs:=[_]) (xs:=[at_ (List.drop j zb) 0]) Ac ty3 rfl rfl dc dc rfl rfl rfl rfl) fun ad5=>?_)))
        refine Ge2 (B0 (α:=Int) (e:=3) (xs:=out) (ys:=([at_ (List.drop j zb) 0]:List Int)) Ac ty3 rfl rfl rfl mm Bf lcn dc rfl (fun _ _=>am)) fun ad6 cp7=>?_
        exact Ga rfl (Bc (Ak (B3 ((i+1),(j+1),((adrop ea ec 1 (Enc.sz Int))),((ec - 1)),((adrop fa fc 1 (Enc.sz Int))),((fc - 1)),(ad6),(cp7),(out++([at_ (List.drop j zb) 0]:List Int))) (by dsimp only;exact ⟨(by first|exact hM.one hasa hasb om om|exact hM.two hasa hasb om om|exact hM.both hasa hasb om om om|(exfalso;first|omega|exact c80 c71)),(by first|exact hea|(have h:=Do (l:=1) hea om;rw [List.drop_drop] at h;exact h)),(by first|exact hfb|(have h:=Do (l:=1) hfb om;rw [List.drop_drop] at h;exact h))⟩))))
       ·exact Aw (Ak (B3 ((i+1),(j+1),((adrop ea ec 1 (Enc.sz Int))),((ec - 1)),((adrop fa fc 1 (Enc.sz Int))),((fc - 1)),(a),(c),(out)) (by dsimp only;exact ⟨(by first|exact hM.one hasa hasb om om|exact hM.two hasa hasb om om|exact hM.both hasa hasb om om om|(exfalso;first|omega|exact c80 c71)),(by first|exact hea|(have h:=Do (l:=1) hea om;rw [List.drop_drop] at h;exact h)),(by first|exact hfb|(have h:=Do (l:=1) hfb om;rw [List.drop_drop] at h;exact h))⟩)))
      ·refine Aw (Aj (Ai (Gm rfl ?_)))
       first|have e1:=hpf.1 c65|have e1:=mt hpf.2 c65
       first|have e2:=hps.1 c71|have e2:=mt hps.2 c71
       refine Gm rfl (Gm rfl (Gc0 (Cx call236 rfl rfl rfl (Minus1_d (decide (pf=true)) (ps=true))) ?_))
       refine Af (A7 rfl (fun c80=>?_) (fun c80=>?_))
       ·refine Az (Gm rfl (Gm rfl (Ge1 (B1 (α:=Int) (cs:=[_]) (xs:=[at_ za (i:Int)]) Ac ty3 rfl rfl dc dc rfl rfl rfl rfl) fun ad8=>?_)))
        refine Ge2 (B0 (α:=Int) (e:=3) (xs:=out) (ys:=([at_ za (i:Int)]:List Int)) Ac ty3 rfl rfl rfl mm Bf lcn dc rfl (fun _ _=>am)) fun ad9 cp10=>?_
        exact Ga rfl (Bc (Ak (B3 ((i+1),(j),((adrop ea ec 1 (Enc.sz Int))),((ec - 1)),(fa),(fc),(ad9),(cp10),(out++([at_ za (i:Int)]:List Int))) (by dsimp only;exact ⟨(by first|exact hM.one hasa hasb om om|exact hM.two hasa hasb om om|exact hM.both hasa hasb om om om|(exfalso;first|omega|exact c80 c71)),(by first|exact hea|(have h:=Do (l:=1) hea om;rw [List.drop_drop] at h;exact h)),(by first|exact hfb|(have h:=Do (l:=1) hfb om;rw [List.drop_drop] at h;exact h))⟩))))
       ·exact Aw (Ak (B3 ((i+1),(j),((adrop ea ec 1 (Enc.sz Int))),((ec - 1)),(fa),(fc),(a),(c),(out)) (by dsimp only;exact ⟨(by first|exact hM.one hasa hasb om om|exact hM.two hasa hasb om om|exact hM.both hasa hasb om om om|(exfalso;first|omega|exact c80 c71)),(by first|exact hea|(have h:=Do (l:=1) hea om;rw [List.drop_drop] at h;exact h)),(by first|exact hfb|(have h:=Do (l:=1) hfb om;rw [List.drop_drop] at h;exact h))⟩)))
     ·refine Aw (Aj (Au (Ai (Gm rfl (Af (A7 rfl (fun c71=>?_) (fun c71=>?_)))))))
      ·refine Bk mixed (Bo (vc 3 (.slice a out.length c) (out)::vc 3 (.slice ad3 zb.length cp4) (zb)::vc 3 (.slice ad1 za.length cp2) (za)::I) 7 (Dr 0 rfl (Ad rfl) ?_))
       have e2:=hps.1 c71
       refine Dr 1 rfl (A3 (α:=Int) (xs:=List.drop j zb) Ac ty3 rfl rfl (B7 hfb f1) om om) (Dr 2 rfl (Br (xs:=List.drop j zb) ty3 rfl (B7 hfb f1) om om) (Dr 3 rfl (Ad rfl) (Dr 4 rfl (Ec (α:=Int) (xs:=List.drop j zb) (l:=1) Ac ty3 rfl rfl om (B7 hfb f1) om) (Dr 5 rfl (Ba rfl) (Dr 6 rfl (Ba rfl) (Dz (Aj (Ar (S7 1 10 0 2 7 8 9 rfl rfl rfl rfl rfl rfl rfl) (Ai (Gm rfl ?_))))))))))
       first|have e1:=hpf.1 c65|have e1:=mt hpf.2 c65
       first|have e2:=hps.1 c71|have e2:=mt hps.2 c71
       refine Gm rfl (Gm rfl (Gc0 (Cx call236 rfl rfl rfl (Minus1_d (decide (pf=true)) (ps=true))) ?_))
       refine Af (A7 rfl (fun c80=>?_) (fun c80=>?_))
       ·refine Az (Gm rfl (Gm rfl (Ge1 (B1 (α:=Int) (cs:=[_]) (xs:=[at_ (List.drop j zb) 0]) Ac ty3 rfl rfl dc dc rfl rfl rfl rfl) fun ad11=>?_)))
        refine Ge2 (B0 (α:=Int) (e:=3) (xs:=out) (ys:=([at_ (List.drop j zb) 0]:List Int)) Ac ty3 rfl rfl rfl mm Bf lcn dc rfl (fun _ _=>am)) fun ad12 cp13=>?_
        exact Ga rfl (Bc (Ak (B3 ((i),(j+1),(ea),(ec),((adrop fa fc 1 (Enc.sz Int))),((fc - 1)),(ad12),(cp13),(out++([at_ (List.drop j zb) 0]:List Int))) (by dsimp only;exact ⟨(by first|exact hM.one hasa hasb om om|exact hM.two hasa hasb om om|exact hM.both hasa hasb om om om|(exfalso;first|omega|exact c80 c71)),(by first|exact hea|(have h:=Do (l:=1) hea om;rw [List.drop_drop] at h;exact h)),(by first|exact hfb|(have h:=Do (l:=1) hfb om;rw [List.drop_drop] at h;exact h))⟩))))
       ·exact Aw (Ak (B3 ((i),(j+1),(ea),(ec),((adrop fa fc 1 (Enc.sz Int))),((fc - 1)),(a),(c),(out)) (by dsimp only;exact ⟨(by first|exact hM.one hasa hasb om om|exact hM.two hasa hasb om om|exact hM.both hasa hasb om om om|(exfalso;first|omega|exact c80 c71)),(by first|exact hea|(have h:=Do (l:=1) hea om;rw [List.drop_drop] at h;exact h)),(by first|exact hfb|(have h:=Do (l:=1) hfb om;rw [List.drop_drop] at h;exact h))⟩)))
      ·refine Aw (Aj (Ai (Gm rfl ?_)))
       first|have e1:=hpf.1 c65|have e1:=mt hpf.2 c65
       first|have e2:=hps.1 c71|have e2:=mt hps.2 c71
       refine Gm rfl (Gm rfl (Gc0 (Cx call236 rfl rfl rfl (Minus1_d (decide (pf=true)) (ps=true))) ?_))
       refine Af (A7 rfl (fun c80=>?_) (fun c80=>?_))
       ·refine Az (Gm rfl (Gm rfl (Ge1 (B1 (α:=Int) (cs:=[_]) (xs:=[0]) Ac ty3 rfl rfl dc dc rfl rfl rfl rfl) fun ad14=>?_)))
        refine Ge2 (B0 (α:=Int) (e:=3) (xs:=out) (ys:=([0]:List Int)) Ac ty3 rfl rfl rfl mm Bf lcn dc rfl (fun _ _=>am)) fun ad15 cp16=>?_
        exact Ga rfl (Bc (Ak (B3 ((i),(j),(ea),(ec),(fa),(fc),(ad15),(cp16),(out++([0]:List Int))) (by dsimp only;exact ⟨(by first|exact hM.one hasa hasb om om|exact hM.two hasa hasb om om|exact hM.both hasa hasb om om om|(exfalso;first|omega|exact c80 c71)),(by first|exact hea|(have h:=Do (l:=1) hea om;rw [List.drop_drop] at h;exact h)),(by first|exact hfb|(have h:=Do (l:=1) hfb om;rw [List.drop_drop] at h;exact h))⟩))))
       ·exact Aw (Ak (B3 ((i),(j),(ea),(ec),(fa),(fc),(a),(c),(out)) (by dsimp only;exact ⟨(by first|exact hM.one hasa hasb om om|exact hM.two hasa hasb om om|exact hM.both hasa hasb om om om|(exfalso;first|omega|exact c80 c71)),(by first|exact hea|(have h:=Do (l:=1) hea om;rw [List.drop_drop] at h;exact h)),(by first|exact hfb|(have h:=Do (l:=1) hfb om;rw [List.drop_drop] at h;exact h))⟩)))
  ·refine Bs (Am (Am (A6 (Aj (Ai (Gm rfl (Ga rfl (Af (Ax ?_)))))))))
   have e0:=mt hpk.2 c30
   have hE:out=minusZ xs ys:=by rw [hM.out,show i=za.length by omega,List.take_length];unfold minusZ;rw [hza,hzb]
   exact Ay rfl rfl (vc 3 (.slice a (minusZ xs ys).length c) (minusZ xs ys)::I) (by rw [←hE];exact Bt) ⟨a,c,by rw [←hE],rfl⟩
theorem MinusI_ok{κ:Ctx}{I:List Item}{a0 b0:Option Addr}{c0 d0:Nat}{xs ys:List Int}(hl:Sl κ I (.slice a0 xs.length c0) xs)(hm:Sl κ I (.slice b0 ys.length d0) ys)(hx:xs.length≤100000)(hy:ys.length≤100000) :
    CallS Tryz.prog κ 174 [.slice a0 xs.length c0,.slice b0 ys.length d0] I (fun r J=>∃a c,r = .slice a (minusZ xs ys).length c∧J=vc 3 (.slice a (minusZ xs ys).length c) (minusZ xs ys)::I):=by
 refine Ce2 Tryz.func174 rfl rfl ?_
 refine Ai (Ga rfl (Af (Ai (Gm rfl (Gm rfl (Gc2 (Ap call235 rfl rfl (MergedI_ok (Bj hl) (Bj hm) om om)) fun ad1 cp2=>?_))))))
 exact Ga rfl (Af (Ax (Ay rfl rfl (vc 3 (.slice ad1 (minusZ xs ys).length cp2) (minusZ xs ys)::I) A5 ⟨ad1,cp2,rfl,rfl⟩)))
theorem WithinI_ok{κ:Ctx}{I:List Item}{a0 b0:Option Addr}{c0 d0:Nat}{xs ys:List Int}(hl:Sl κ I (.slice a0 xs.length c0) xs)(hm:Sl κ I (.slice b0 ys.length d0) ys)(hx:xs.length≤100000)(hy:ys.length≤100000) :
    CallS Tryz.prog κ 102 [.slice a0 xs.length c0,.slice b0 ys.length d0] I (fun r J=>r = .bool (decide (∀x∈xs,x∈ys))∧I=J):=by
 refine Ce2 Tryz.func102 rfl rfl ?_
 refine Ai (Ga rfl (Af (Ai (Gm rfl (Gm rfl (Gc2 (Ap call174 rfl rfl (MinusI_ok (Bj hl) (Bj hm) om om)) fun ad1 cp2=>?_))))))
 exact Gr (Bp Ac rfl) (Gr (Bi rfl rfl) (Ga rfl (Af (Ax (Ay rfl rfl (I) A0 ⟨by rw [decide_eq_decide.2 (show (((minusZ xs ys).length:Nat):Int)=0↔∀x∈xs,x∈ys from by rw [←minusZ_nil];omega)],rfl⟩)))))
variable {κ:Ctx}{I:List Item}
theorem Nothing_ok  :
    CallS Tryz.prog κ 168 [] I (fun r J=>r = .agg #[.slice none 0 0,I64 0,I64 1,I64 1,.slice none 0 0]∧I=J):=by
 refine Ce0 Tryz.func168 rfl rfl ?_
 refine Ai (Ge1 (A8 ty102 rfl) fun b1=>Af (Ai (Gr (Bl (cells:=[_,_]) ty40 Es pl40 rfl rfl) (Gr (Bl (cells:=[_,_]) ty88 Tryz.underlying88 pl88 rfl rfl) (Gr (Bl (cells:=[_,_,_,_,_]) ty102 Em pl102 rfl rfl) (Ge0 (Es5_5 ty102) ?_))))))
 exact Af (Ax (D1 rfl ty102 rfl mm rfl (I) A0 ⟨rfl,rfl⟩))
structure BestR (nd:Int) (es:List Pt) (N D:Int) (B:BitVec 64):Prop where
 err:checkG nd es≠0→N=0∧D=0∧B=0#64
 none:checkG nd es=0→nd=0→N=0∧D=1∧B=0#64
 some:checkG nd es=0→nd≠0→DensR nd es N D B
set_option maxHeartbeats 1000000 in
theorem BestD_ok{nd:Int}{ea:Option Addr}{ec:Nat}{es:List Pt}(hl:Sl κ I (.slice ea es.length ec) es)(hT:TabRd κ I 0 tzCells) :
    CallS Tryz.prog κ 100 [.agg #[I64 (nd),.slice ea es.length ec]] I (fun r J=>∃a c B a2 c2 parts N D E,r = .tuple #[.agg #[.slice a (listB B).length c,I64 N,I64 D,I64 E,.slice a2 (parts:List Int).length c2],I64 (checkG nd es)]∧BestR nd es N D B∧J=vc 3 (.slice a (listB B).length c) (listB B)::vc 3 (.slice a2 parts.length c2) parts::I):=by
 refine Ce1 Tryz.func100 rfl rfl ?_
 refine Ai (Ge1 (Bd (cs:=[_,_]) rfl rfl rfl) fun b1=>Ge1 (A8 ty102 rfl) fun b2=>Ga rfl (Af (Au (Ai (Gl2 ty48 ?_)))))
 refine Gc0 (Ap call83 rfl rfl (CheckGen_ok (Bj hl))) ?_
 refine Ga rfl (Af (Ai (Gm rfl (Gr (Be rfl rfl) (Gm rfl (Bb (d:=11) rfl (fun g11=>?_) (fun g11=>?_)))))))
 ·refine Gpo (Gpo (Gpo (Gr (Ao rfl rfl) (Af (Ar (S4 15 4 2 1 rfl rfl rfl rfl) (Ca rfl (Au (Ai (Gm rfl (Gr (Be rfl rfl) (Af (A7 rfl (fun c17=>?_) (fun c17=>?_)))))))))))))
  ·refine Ai (Gr (Bl (cells:=[_,_,_,_,_]) ty102 Em pl102 rfl rfl) (Gm rfl (Ge0 (Es5_5 ty102) ?_)))
   exact Ga rfl (Af (Ax (Ah (Ah (D4 rfl ty102 rfl rfl mm rfl (vc 3 (.slice none (listB 0#64).length 0) (listB 0#64)::vc 3 (.slice none ([]:List Int).length 0) ([]:List Int)::I) (by rw [C2];exact Cg (show Fit κ _ I from A0) (Cg (Bw (α:=Int) _ _) (Bw (α:=Int) _ _))) ⟨none,0,0#64,none,0,[],0,0,0,by rw [C2];rfl,⟨fun _=>⟨rfl,rfl,rfl⟩,fun h=>absurd h c17,fun h=>absurd h c17⟩,rfl⟩)))))
  ·refine Aw (Aj (Ai (Gc0 (Ap call168 rfl rfl Nothing_ok) ?_)))
   refine Ge0 (Es5_5 ty102) ?_
   refine Ga rfl (Af (Ax (Ah ?_)))
   have hz:checkG nd es=0:=Classical.not_not.1 c17
   have hn0:nd=0:=by first|exact c15|exact absurd g11 c17
   exact D4 rfl ty102 rfl rfl mm rfl (vc 3 (.slice none (listB 0#64).length 0) (listB 0#64)::vc 3 (.slice none ([]:List Int).length 0) ([]:List Int)::I) (by rw [C2];exact Cg (show Fit κ _ I from A0) (Cg (Bw (α:=Int) _ _) (Bw (α:=Int) _ _))) ⟨none,0,0#64,none,0,[],0,1,1,by rw [C2,hz];rfl,⟨fun h=>absurd hz h,fun _ _=>⟨rfl,rfl,rfl⟩,fun _ h=>absurd hn0 h⟩,rfl⟩
 ·refine Gro (Ab fld48_0 rfl) (Gro (As ty3) ?_)
  refine Gro (Bi rfl rfl) (Gr (Al rfl rfl) (Af (Ar (S4 15 4 2 1 rfl rfl rfl rfl) (A7 rfl (fun c15=>?_) (fun c15=>?_)))))
  ·refine Au (Ai (Gm rfl (Gr (Be rfl rfl) (Af (A7 rfl (fun c17=>?_) (fun c17=>?_))))))
   ·refine Ai (Gr (Bl (cells:=[_,_,_,_,_]) ty102 Em pl102 rfl rfl) (Gm rfl (Ge0 (Es5_5 ty102) ?_)))
    exact Ga rfl (Af (Ax (Ah (Ah (D4 rfl ty102 rfl rfl mm rfl (vc 3 (.slice none (listB 0#64).length 0) (listB 0#64)::vc 3 (.slice none ([]:List Int).length 0) ([]:List Int)::I) (by rw [C2];exact Cg (show Fit κ _ I from A0) (Cg (Bw (α:=Int) _ _) (Bw (α:=Int) _ _))) ⟨none,0,0#64,none,0,[],0,0,0,by rw [C2];rfl,⟨fun _=>⟨rfl,rfl,rfl⟩,fun h=>absurd h c17,fun h=>absurd h c17⟩,rfl⟩)))))
   ·refine Aw (Aj (Ai (Gc0 (Ap call168 rfl rfl Nothing_ok) ?_)))
    refine Ge0 (Es5_5 ty102) ?_
    refine Ga rfl (Af (Ax (Ah ?_)))
    have hz:checkG nd es=0:=Classical.not_not.1 c17
    have hn0:nd=0:=by first|exact c15|exact absurd g11 c17
    exact D4 rfl ty102 rfl rfl mm rfl (vc 3 (.slice none (listB 0#64).length 0) (listB 0#64)::vc 3 (.slice none ([]:List Int).length 0) ([]:List Int)::I) (by rw [C2];exact Cg (show Fit κ _ I from A0) (Cg (Bw (α:=Int) _ _) (Bw (α:=Int) _ _))) ⟨none,0,0#64,none,0,[],0,1,1,by rw [C2,hz];rfl,⟨fun h=>absurd hz h,fun _ _=>⟨rfl,rfl,rfl⟩,fun _ h=>absurd hn0 h⟩,rfl⟩
  ·refine Aw (Aj (Ai (Gl2 ty48 ?_)))
   have hz:checkG nd es=0:=by first|exact Classical.not_not.1 g11|omega
   have hG:=checkG_ok.1 hz
   have hm:=edges_le hG
   have hrng:=hG.rng
   have hnd:1≤nd:=by omega
   refine G.e (Ap call169 rfl rfl (Plain_ok (Bj hl) hm hG.rng)) ?_
   rintro _ _ ⟨_,_,⟨aw,cw,ab,cb,ak,ck,ws,bs,cs,rfl,hPl,rfl⟩,rfl,rfl⟩
   refine G.e (Ap call170 rfl rfl (Densest_ok (Bj hl) Bf Bf Bf hG hm hPl om (B9 hT A0))) ?_
   rintro _ _ ⟨_,_,⟨Bn,pa,pc,parts,Nn,Dd,rfl,hS,hpl,rfl⟩,rfl,rfl⟩
   refine Gm rfl (Gr (A2 rfl rfl) (Gr (A2 rfl rfl) (Ge1 (A8 ty208 rfl) fun b3=>Ge1 (A8 ty40 rfl) fun b4=>Ge0 (Ce ty208) ?_)))
   refine Ge0 (Ce ty40) ?_
   refine Af (Au (Bk mixed (Bo (blk b4 [I64 (Nn),I64 (Dd)] 40::blk b3 [U64 (Bn),.slice pa parts.length pc] 208::vc 3 (.slice pa parts.length pc) (parts)::vc 3 (.slice ak cs.length ck) (cs)::vc 3 (.slice aw ws.length cw) (ws)::vc 3 (.slice ab bs.length cb) (bs)::blk b2 [.slice none 0 0,I64 (0),I64 (0),I64 (0),.slice none 0 0] 102::blk b1 [I64 (nd),.slice ea es.length ec] 48::I) 10 (Dr 0 rfl (Ab fld208_0 rfl) (Dr 1 rfl (As ty175) ?_)))))
   refine Dr 3 rfl (Bq (vs:=[_,_]) ty40) ?_
   refine Dr 4 rfl (Ab fld40_1 rfl) (Dr 5 rfl (As ty3) ?_)
   refine Dr 6 rfl (Ab fld208_1 rfl) (Dr 7 rfl (As ty22) ?_)
   refine Dr 8 rfl (Bl (cells:=[_,_]) ty88 Tryz.underlying88 pl88 rfl rfl) (Ds1 2 (Sc2 rfl (Ap call171 rfl rfl (MList_ok Bn (B9 hT A0))) fun ad5 cp6=>?_))
   refine Dr 9 rfl (Bl (cells:=[_,_,_,_,_]) ty102 Em pl102 rfl rfl) (Dc kr ?_)
   refine Ae 10 rfl (Es5_5 ty102) ?_
   rintro _ _ ⟨rfl,rfl⟩
   refine A.read (i:=11) kr rfl (Ch rfl) rfl rfl (Ba rfl) ?_
   refine De kr ?_
   exact Aj (Ar (S2 3 2 rfl rfl) (Ax (D4 rfl ty102 rfl rfl mm rfl (vc 3 (.slice ad5 (listB Bn).length cp6) (listB Bn)::vc 3 (.slice pa parts.length pc) parts::I) Bt ⟨ad5,cp6,Bn,pa,pc,parts,Nn,Dd,Dd,by rw [hz]<;>rfl,⟨fun h=>absurd hz h,fun _ h=>absurd h om,fun _ _=>hS⟩,rfl⟩)))
end Go.Sl
namespace Go.Sl
end Go.Sl
namespace Go.Sl
open Go.RowKit (Below)
section
variable {α:Type}[Enc α][DecidableEq α]
end
end Go.Sl
namespace Go.Sl
open Go.Proofs
set_option maxRecDepth 4000
theorem nbL_len(es:List Pt)(v:Int):(nbL es v).length≤2*es.length:=by
 induction es with
 |nil=>simp [nbL]
 |cons e es ih=>
  have e1:nbL (e::es) v=((if e.u=v then [e.v] else [])++(if e.v=v then [e.u] else []))++nbL es v:=rfl
  rw [e1,List.length_append,List.length_append,List.length_cons]
  have h1:(if e.u=v then [e.v] else ([]:List Int)).length≤1:=by split<;>simp
  have h2:(if e.v=v then [e.u] else ([]:List Int)).length≤1:=by split<;>simp
  omega
theorem Neigh03_ok{κ:Ctx}{I:List Item}{nd:Int}{va:Value}{es:List Pt}(hl:Sl κ I va es)(v:Int)(hb:es.length≤1000000) :
    CallS Tryz.prog κ 115 [.agg #[I64 (nd),va],I64 (v)] I (fun r J=>∃a c,r = .slice a (nbG nd es v).length c∧J=vc 3 (.slice a (nbG nd es v).length c) (nbG nd es v)::I):=by
 refine B4 hl.le fun hmax=>?_
 refine Ce2 Tryz.func115 rfl rfl ?_
 refine Ai (Ge1 (Bd (cs:=[_,_]) rfl rfl rfl) fun b1=>Ga rfl (Af (Au (Ai (Gl2 ty48 ?_)))))
 refine G.e (Ap call30 rfl rfl (Check03G_ok (nd:=nd) (Bj hl))) ?_
 rintro _ _ ⟨_,_,⟨rfl,rfl⟩,rfl,rfl⟩
 refine Gr (Be rfl rfl) (Af (A7 rfl (fun c10=>?_) (fun c10=>?_)))
 ·refine Ai (Ga rfl (Af (Ax (Ah ?_))))
  have hX:(nbG nd es v)=[]:=if_pos c10
  exact Ay rfl rfl (vc 3 (.slice none (nbG nd es v).length 0) (nbG nd es v)::I) (by rw [hX];exact Cg (show Fit κ _ I from A0) (Bw (α:=Int) _ _)) ⟨none,0,by rw [hX];rfl,rfl⟩
 ·refine Aw (Aj (Ai (Ga rfl (Af (Au (Ai (Gf fld48_1 rfl (Gl ty46 ?_))))))))
  refine Gr (Bx (α:=Pt) (xs:=es) B2 rfl (Bj hl)) (Gm rfl (Af (A4 (Bv (σ:=Nat×(Option Addr)×Nat×(List Int)) (fun s=>([(1,I64 (v)),(5,.slice s.2.1 s.2.2.2.length s.2.2.1),(12,va),(13,I64 (((es.length:Nat):Int))),(14,I64 (((s.1:Nat):Int)))]:Env)) (fun s=>vc 3 (.slice s.2.1 s.2.2.2.length s.2.2.1) (s.2.2.2)::blk b1 [I64 (nd),va] 48::I) (fun s=>(s.1≤es.length)∧(s.2.2.2=nbL (es.take s.1) v)) (fun s=>es.length - s.1) (0,none,0,[]) (show ((0:Nat)≤es.length)∧(([]:List Int)=nbL (es.take (0:Nat)) v) from ⟨om,rfl⟩) (Aa rfl (Aa (Cp rfl (by first|rfl|simp)) (Aa rfl (Aa rfl (Aa B8 Bg))))) (show Fit κ _ (vc 3 (.slice (none) ([]).length (0)) (([]))::blk b1 [I64 (nd),va] 48::I) from (Bw _ _)) ?_))))
  rintro ⟨k,a,c,out⟩ hp
  dsimp only at hp ⊢
  obtain ⟨hk,ho⟩:=hp
  have hol:out.length≤2*es.length:=by rw [ho];refine Nat.le_trans (nbL_len _ _) ?_;simp only [List.length_take];omega
  refine Ai (Gr (A9 rfl rfl) (Af (Au (A7 rfl (fun c15=>?_) (fun c15=>?_)))))
  ·refine Aw (Aj (Au (A4 (Ai (Gr (A3 (α:=Pt) (xs:=es) B2 ty135 rfl rfl (Bj hl) om om) (Gr (Bu (α:=Pt) (xs:=es) ty135 rfl (Bj hl) om om) (Ge1 (A8 ty135 rfl) fun b2=>Ge0 (Ce ty135) ?_)))))))
   refine Af (Au (Ai (Gf fld135_0 rfl (Gl ty3 ?_))))
   refine Gm rfl (Gr (Bi rfl rfl) (Af (A7 rfl (fun c21=>?_) (fun c21=>?_))))
   ·refine Az (Gm rfl (Gf fld135_1 rfl (Gl ty3 ?_)))
    refine Ge1 (B1 (α:=Int) (cs:=[_]) (xs:=[(at_ es (k:Int)).v]) Ac ty3 rfl rfl dc dc rfl rfl rfl rfl) fun ad3=>?_
    refine Ge2 (B0 (α:=Int) (e:=3) (xs:=out) (ys:=([(at_ es (k:Int)).v]:List Int)) Ac ty3 rfl rfl rfl mm Bf lap dc rfl (fun _ _=>am)) fun ad4 cp5=>?_
    refine Ga rfl (Af (Ar (S6 5 7 1 12 13 14 rfl rfl rfl rfl rfl rfl) (Ai (Gf fld135_1 rfl (Gl ty3 ?_)))))
    refine Gm rfl (Gr (Bi rfl rfl) (Af (A7 rfl (fun c30=>?_) (fun c30=>?_))))
    ·refine Az (Gm rfl (Gf fld135_0 rfl (Gl ty3 ?_)))
     refine Ge1 (B1 (α:=Int) (cs:=[_]) (xs:=[(at_ es (k:Int)).u]) Ac ty3 rfl rfl dc dc rfl rfl rfl rfl) fun ad6=>?_
     refine Ge2 (B0 (α:=Int) (e:=3) (xs:=out++([(at_ es (k:Int)).v]:List Int)) (ys:=([(at_ es (k:Int)).u]:List Int)) Ac ty3 rfl rfl rfl mm Bf lap dc rfl (fun _ _=>am)) fun ad7 cp8=>?_
     exact Ga rfl (Bc (Ak (Aj (Ar (S5 5 1 12 13 14 rfl rfl rfl rfl rfl) (Az (Gr (Rad rfl rfl) (Gm rfl (Bc (B3 ((k+1),(ad7),(cp8),((out++([(at_ es (k:Int)).v]:List Int))++([(at_ es (k:Int)).u]:List Int))) (by dsimp only;exact ⟨om,(by rw [nbL_take om,←ho];(first|rw [if_pos c21,if_pos c30]|rw [if_pos c21,if_neg c30]|rw [if_neg c21,if_pos c30]|rw [if_neg c21,if_neg c30])<;>simp)⟩))))))))))
    ·exact Aw (Ak (Aj (Az (Gr (Rad rfl rfl) (Gm rfl (Bc (B3 ((k+1),(ad4),(cp5),(out++([(at_ es (k:Int)).v]:List Int))) (by dsimp only;exact ⟨om,(by rw [nbL_take om,←ho];(first|rw [if_pos c21,if_pos c30]|rw [if_pos c21,if_neg c30]|rw [if_neg c21,if_pos c30]|rw [if_neg c21,if_neg c30])<;>simp)⟩))))))))
   ·refine Aw (Aj (Ai (Gf fld135_1 rfl (Gl ty3 ?_))))
    refine Gm rfl (Gr (Bi rfl rfl) (Af (Ar (S7 30 7 1 5 12 13 14 rfl rfl rfl rfl rfl rfl rfl) (A7 rfl (fun c30=>?_) (fun c30=>?_)))))
    ·refine Az (Gm rfl (Gf fld135_0 rfl (Gl ty3 ?_)))
     refine Ge1 (B1 (α:=Int) (cs:=[_]) (xs:=[(at_ es (k:Int)).u]) Ac ty3 rfl rfl dc dc rfl rfl rfl rfl) fun ad9=>?_
     refine Ge2 (B0 (α:=Int) (e:=3) (xs:=out) (ys:=([(at_ es (k:Int)).u]:List Int)) Ac ty3 rfl rfl rfl mm Bf lap dc rfl (fun _ _=>am)) fun ad10 cp11=>?_
     exact Ga rfl (Bc (Ak (Aj (Az (Gr (Rad rfl rfl) (Gm rfl (Bc (B3 ((k+1),(ad10),(cp11),(out++([(at_ es (k:Int)).u]:List Int))) (by dsimp only;exact ⟨om,(by rw [nbL_take om,←ho];(first|rw [if_pos c21,if_pos c30]|rw [if_pos c21,if_neg c30]|rw [if_neg c21,if_pos c30]|rw [if_neg c21,if_neg c30])<;>simp)⟩)))))))))
    ·exact Aw (Ak (Aj (Az (Gr (Rad rfl rfl) (Gm rfl (Bc (B3 ((k+1),(a),(c),(out)) (by dsimp only;exact ⟨om,(by rw [nbL_take om,←ho];(first|rw [if_pos c21,if_pos c30]|rw [if_pos c21,if_neg c30]|rw [if_neg c21,if_pos c30]|rw [if_neg c21,if_neg c30])<;>simp)⟩))))))))
  ·refine Bs (Am (Am (A6 (Aj (Ai (Gm rfl (Gc2 (Ap call82 rfl rfl (Of_ok Bf om)) fun ad12 cp13=>?_)))))))
   refine Ga rfl (Af (Ax ?_))
   have ho2:out=nbL es v:=by rw [ho,List.take_of_length_le om]
   subst ho2
   have hX:nbG nd es v=ofL (nbL es v):=if_neg c10
   exact Ay rfl rfl (vc 3 (.slice ad12 (nbG nd es v).length cp13) (nbG nd es v)::I) (by rw [hX];exact A5) ⟨ad12,cp13,by rw [hX],rfl⟩
end Go.Sl
