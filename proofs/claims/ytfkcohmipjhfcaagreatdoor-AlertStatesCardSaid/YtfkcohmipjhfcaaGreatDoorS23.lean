/- A part of the proofs of statements of this seat: contracts of functions, and the plain laws that they lean on. No conditions. -/
import Derived.Test.YtfkcohmipjhfcaaGreatDoorS22
set_option linter.unusedVariables false
set_option linter.unusedSimpArgs false
set_option linter.unusedSectionVars false
open Go.Proofs.Tryz (prog)
open List (replicate)
namespace Go.Sl
open Go.Proofs
set_option maxRecDepth 4000
def timesR(kd wd mo:Int)(es:List Ev):List Int:=ofL ((slideS kd wd mo es).2.map Ev.tm++(lateL kd wd (eh (slideS kd wd mo es).2)).map Ev.tm)
theorem late_none{kd wd:Int}{xs:List Lk}(h:¬kd=2):lateL kd wd xs=[]:=by
 unfold lateL
 rw [List.filter_eq_nil_iff.2 λx _ hx=>by unfold lateP at hx;exact h (of_decide_eq_true hx).1]
 rfl
theorem mem_times{kd wd mo t:Int}{es:List Ev}:t∈timesR kd wd mo es↔∃e∈allE kd wd mo es,e.tm=t:=by
 unfold timesR allE
 rw [mem_ofL,List.mem_append,List.mem_map,List.mem_map]
 constructor
 ·rintro (⟨e,h1,h2⟩|⟨e,h1,h2⟩)
  ·exact ⟨e,List.mem_append_left _ h1,h2⟩
  ·exact ⟨e,List.mem_append_right _ ((D3 _ _).mem_iff.2 h1),h2⟩
 ·rintro ⟨e,h1,h2⟩
  rcases List.mem_append.1 h1 with h1|h1
  ·exact .inl ⟨e,h1,h2⟩
  ·exact .inr ⟨e,(D3 _ _).mem_iff.1 h1,h2⟩
theorem timesR_rng{nd kd wd mo:Int}{es:List Ev}(hH:HistOk nd kd wd mo es):∀t∈timesR kd wd mo es,0<=t/\t<=1048576:=λt ht=>by
 obtain ⟨e,he,rfl⟩:=mem_times.1 ht
 exact (hH.allFit e he).tm
theorem timesR_len{nd kd wd mo:Int}{es:List Ev}(hH:HistOk nd kd wd mo es)(hlen:es.length<=19):(timesR kd wd mo es).length<=57:=by
 have h2:=hH.len2
 have h3:=hH.len
 have h4:=lateL_len kd wd (eh (slideS kd wd mo es).2)
 have h1:=ofL_len ((slideS kd wd mo es).2.map Ev.tm++(lateL kd wd (eh (slideS kd wd mo es).2)).map Ev.tm)
 rw [List.length_append,List.length_map,List.length_map] at h1
 unfold timesR
 omega
set_option maxHeartbeats 2000000 in
theorem Times43_ok{κ:Ctx}{I:List Item}{nd kd wd mo:Int}{ea:Option Addr}{ec:Nat}{es:List Ev}(hl:Sl κ I (.slice ea es.length ec) es)(hH:HistOk nd kd wd mo es)(hlen:es.length<=19):ep prog κ 39 [e7 nd,.slice ea es.length ec,.agg #[e7 kd,e7 wd,e7 mo]] I (λr J=>∃a c,r = .slice a (timesR kd wd mo es).length c/\J=vc 3 (.slice a (timesR kd wd mo es).length c) (timesR kd wd mo es)::I):=by
 refine Ce3 Tryz.func39 C C ?_
 refine Ah (Ge1 (Bc (cs:=[_,_,_]) C C C) λb1=>Ga C (Af (Ah (Ga C (Af (Ah (Gm C (Gr (Bf (cells:=[_,_]) ty111 Cw pl111 C C) (Ge1 (A8 ty111 C) λb2=>Ge0 (Cd ty111) ?_)))))))))
 refine Af (Ah (Gm C (Gm C (Gl3 ty31 ?_))))
 refine Gc2 (Ao call93 C C (Slide7_hist (nd:=nd) (kd:=kd) (wd:=wd) (mo:=mo) (es:=es) (Bh hl) hH)) λad3 cp4=>?_
 refine Gm C (Gr (A2 C C) (Gr (A2 C C) (Ga C (Ga C ?_))))
 generalize hSE:(slideS kd wd mo es).2=SE
 have hfS:∀e∈SE,FitOk nd e:=by rw [←hSE];exact hH.fit
 have hSl:SE.length<=38:=by rw [←hSE];have:=hH.len2;omega
 have hlS:(eh SE).length<=19:=by rw [←hSE];have:=hH.len;omega
 refine Af (Aq (S4 9 8 7 5 C C C C) (Au (Ah (Ga C (Af (A4 (Bu (σ:=Nat×(Option Addr)×Nat×(Option Addr)×Nat×(List Int)) (λs=>([(5,.pointer (some ⟨b1,0,none⟩)),(7,.slice s.2.2.2.1 s.2.2.2.2.2.length s.2.2.2.2.1),(8,.pointer (some ⟨b2,0,none⟩)),(9,.slice ad3 (SE).length cp4),(11,e7 ((s.1:Nat):Int))]:Env)) (λs=>vc 146 (.slice s.2.1 (eh (SE.take s.1)).length s.2.2.1) (eh (SE.take s.1))::vc 3 (.slice s.2.2.2.1 s.2.2.2.2.2.length s.2.2.2.2.1) (s.2.2.2.2.2)::vc 108 (.slice ad3 (SE).length cp4) (SE)::e8 b2 [e7 nd,.slice s.2.1 (eh (SE.take s.1)).length s.2.2.1] 111::e8 b1 [e7 kd,e7 wd,e7 mo] 31::I) (λs=>(s.1<=SE.length)/\(s.2.2.2.2.2=(SE.take s.1).map Ev.tm)) (λs=>SE.length - s.1) (0,none,0,none,0,[]) (show ((0:Nat)<=SE.length)/\(([]:List Int)=(SE.take (0:Nat)).map Ev.tm) from ⟨om,rfl⟩) (Aa C (Aa (Cr C (by first|rfl|simp)) (Aa C (Aa C (Aa B9 Bj))))) (show Fit κ _ (vc 146 (.slice none (eh (SE.take 0)).length 0) (eh (SE.take 0))::vc 3 (.slice none ([]).length 0) (([]))::vc 108 (.slice ad3 (SE).length cp4) (SE)::e8 b2 [e7 nd,.slice none (eh (SE.take 0)).length 0] 111::e8 b1 [e7 kd,e7 wd,e7 mo] 31::I) from (Cc (Bt (α:=Int) 3 _) (Cc (Bt (α:=Lk) 146 _) B4))) ?_)))))))
 rintro ⟨k,a,c,oa,oc,out⟩ hp
 dsimp only at hp ⊢
 obtain ⟨hk,ho⟩:=hp
 have hol:out.length=k:=by rw [ho,List.length_map,List.length_take];omega
 refine Au (Ah (Gm C (Gm C (Gr (Bm Az C) (Gr (A9 C C) (Af (A6 C (λc26=>?_) (λc26=>?_))))))))
 ·refine Ay (Aj (Au (A4 (Ah (Gm C (Gm C (Gm C (Gr (A3 (α:=Ev) (xs:=SE) Az ty108 C C Bg om om) (Gr (Dc (α:=Ev) (xs:=SE) fld108_1 C Bg om) (Gr (De (α:=Ev) (xs:=SE) (u:=e7 ((e_ SE k).tm)) ef C Bg om om C) (Ge1 (B0 (α:=Int) (cs:=[_]) (xs:=[(e_ SE k).tm]) Ac ef C C dc dc C C C C) λad5=>?_)))))))))))
  refine Ge2 (B1 (α:=Int) (e:=3) (xs:=out) (ys:=([(e_ SE k).tm]:List Int)) Ac ef C C C mm Bg lcn dc C (λ_ _=>am)) λad6 cp7=>?_
  refine Ga C (Af (Aq (S5 7 5 8 9 11 C C C C C) (Bl mixed (Br (vc 3 (.slice ad5 1 1) (([(e_ SE k).tm]:List Int))::vc 146 (.slice a (eh (SE.take k)).length c) (eh (SE.take k))::vc 3 (.slice ad6 (out++([(e_ SE k).tm]:List Int)).length cp7) (out++([(e_ SE k).tm]:List Int))::vc 108 (.slice ad3 (SE).length cp4) (SE)::e8 b1 [e7 kd,e7 wd,e7 mo] 31::I) 11 (Dr 1 C (Ad C) (Dr 2 C (Ad C) (Dr 3 C (A3 (α:=Ev) (xs:=SE) Az ty108 C C Bg om om) (Dr 4 C (Bp (α:=Ev) (xs:=SE) ty108 C Bg om om) (Ds1 0 (Sr C (Bq (vs:=[_,_]) ty111) A5 ?_))))))))))
  refine Ds1 5 (Se C (Ao call94 C C (Apply5_ok (nd:=nd) (e:=(e_ SE k)) Bg (links_val hH.st.nodes hfS k) (hfS _ (Ca om om)) (by have:=links_len (links_val hH.st.nodes hfS k);omega))) ?_)
  rintro _ _ ⟨_,_,⟨⟨ad8,cp9,ad10,nn11,cp12⟩,⟨rfl,hnn11⟩,rfl⟩,rfl,rfl⟩
  refine ⟨A5,?_⟩
  show D prog κ _ _ _ _ _ _ _ ([(43,.tuple #[.agg #[e7 nd,.slice ad8 (em (eh (SE.take k)) (e_ SE k)).length cp9],.slice ad10 nn11 cp12,e7 0]),(38,.agg #[e7 nd,.slice a (eh (SE.take k)).length c]),(42,.agg #[e7 ((e_ SE k).kd),e7 ((e_ SE k).tm),e7 ((e_ SE k).u),e7 ((e_ SE k).v),e7 ((e_ SE k).w),e7 ((e_ SE k).lb),e7 ((e_ SE k).sg)]),(41,elemPtr (.slice ad3 (SE).length cp4) (((k:Int)).toNat*Enc.sz Ev)),(40,e7 ((k:Int))),(39,.slice ad3 (SE).length cp4),(7,.slice ad6 (out++([(e_ SE k).tm]:List Int)).length cp7),(5,.pointer (some ⟨b1,0,none⟩)),(8,.pointer (some ⟨b2,0,none⟩)),(9,.slice ad3 (SE).length cp4),(11,e7 ((k:Int)))]:Env) (vc 146 (.slice ad8 (em (eh (SE.take k)) (e_ SE k)).length cp9) (em (eh (SE.take k)) (e_ SE k))::vc 3 (.slice ad5 1 1) (([(e_ SE k).tm]:List Int))::vc 146 (.slice a (eh (SE.take k)).length c) (eh (SE.take k))::vc 3 (.slice ad6 (out++([(e_ SE k).tm]:List Int)).length cp7) (out++([(e_ SE k).tm]:List Int))::vc 108 (.slice ad3 (SE).length cp4) (SE)::e8 b2 [e7 nd,.slice a (eh (SE.take k)).length c] 111::e8 b1 [e7 kd,e7 wd,e7 mo] 31::I)
  have hnn11:nn11<=2*(eh (SE.take k)).length+1:=hnn11
  refine Dr 6 C (Ad C) (Dr 7 C (A2 C C) (Dr 8 C (A2 C C) (Dr 9 C (A2 C C) (Ds1 10 (Se0 C (Cd ty111) ?_)))))
  exact Dz (Ak (Aj (Aq (S5 7 5 8 9 11 C C C C C) (Ax (Gm C (Gr (Rad C C) (Ga C (Bd (B2 ((k+1),(ad8),(cp9),(ad6),(cp7),(out++([(e_ SE k).tm]:List Int))) (by dsimp only;exact ⟨om,(by rw [ho,Cu SE k om,List.map_append];rfl)⟩) (hI:=by (try dsimp only);exact (by rw [linksL_take om];exact B4)))))))))))
 ·refine Bs (Ap (Ap (A7 (Aj (Au (Ah (Ga C ?_)))))))
  have hfull:SE.take k=SE:=List.take_of_length_le om
  rw [hfull] at ho ⊢
  have hvL:checkS nd (eh SE)=0:=by have:=links_val hH.st.nodes hfS k;rwa [hfull] at this
  refine Af (A4 (Bu (σ:=Nat×(Option Addr)×Nat×(List Int)) (λs=>([(5,.pointer (some ⟨b1,0,none⟩)),(7,.slice s.2.1 s.2.2.2.length s.2.2.1),(8,.pointer (some ⟨b2,0,none⟩)),(12,e7 ((s.1:Nat):Int))]:Env)) (λs=>vc 146 (.slice a (eh SE).length c) (eh SE)::vc 3 (.slice s.2.1 s.2.2.2.length s.2.2.1) (s.2.2.2)::vc 108 (.slice ad3 (SE).length cp4) (SE)::e8 b2 [e7 nd,.slice a (eh SE).length c] 111::e8 b1 [e7 kd,e7 wd,e7 mo] 31::I) (λs=>(s.1<=(eh SE).length)/\(s.2.2.2=SE.map Ev.tm++(lateL kd wd ((eh SE).take s.1)).map Ev.tm)) (λs=>(eh SE).length - s.1) (0,oa,oc,out) (show ((0:Nat)<=(eh SE).length)/\((out:List Int)=SE.map Ev.tm++(lateL kd wd ((eh SE).take (0:Nat))).map Ev.tm) from ⟨om,(by rw [ho];simp [lateL])⟩) (Aa C (Aa (Cr C (by first|rfl|simp)) (Aa C (Aa B9 Bj)))) (show Fit κ _ (vc 146 (.slice a (eh SE).length c) (eh SE)::vc 3 (.slice oa (out).length oc) ((out))::vc 108 (.slice ad3 (SE).length cp4) (SE)::e8 b2 [e7 nd,.slice a (eh SE).length c] 111::e8 b1 [e7 kd,e7 wd,e7 mo] 31::I) from A5) ?_))
  rintro ⟨k2,oa2,oc2,out2⟩ hp
  dsimp only at hp ⊢
  obtain ⟨hk2,ho2⟩:=hp
  have hol2:out2.length<=SE.length+k2:=by rw [ho2,List.length_append,List.length_map,List.length_map];have h1:=lateL_len kd wd ((eh SE).take k2);rw [List.length_take] at h1;omega
  have hww:=checkW_wd hH.win
  refine Au (Ah (Gf fld31_0 C (Gl ef ?_)))
  refine Gr (Bi C C) (Gm C (Ba (d:=50) C (λg50=>?_) (λg50=>?_)))
  ·refine e9 (Ad C) (e9 (Ab fld111_1 C) (e9 (As ty109) ?_))
   refine e9 (Bm Ar C) (e9 (A9 C C) (Gr (Am C C) (Af (Aq (S5 56 5 7 8 12 C C C C C) (A6 C (λc56=>?_) (λc56=>?_))))))
   ·refine Ay (Aj (Au (A4 (Au (Bl mixed (Br (vc 146 (.slice a (eh SE).length c) (eh SE)::vc 3 (.slice oa2 out2.length oc2) (out2)::vc 108 (.slice ad3 (SE).length cp4) (SE)::e8 b2 [e7 nd,.slice a (eh SE).length c] 111::e8 b1 [e7 kd,e7 wd,e7 mo] 31::I) 10 (Dr 0 C (Ab fld111_1 C) ?_)))))))
    have htk:=checkS_tm hvL (k2:Int) om om
    refine Dr 1 C (As ty109) ?_
    refine Dr 2 C (Ad C) (Dr 3 C (A3 (α:=Lk) (xs:=eh SE) Ar ty146 C C Bg om om) (Dr 4 C (Dc (α:=Lk) (xs:=eh SE) fld146_5 C Bg om) (Dr 5 C (De (α:=Lk) (xs:=eh SE) (u:=e7 ((e_ (eh SE) k2).tm)) ef C Bg om om C) (Dr 6 C (Ab fld31_1 C) (Dr 7 C (As ef) ?_)))))
    refine Dr 8 C (Rad C C) (Dr 9 C (Bb C) (Dz (Aj (Aq (S5 13 5 7 8 12 C C C C C) (Ah (Gm C (Gr (Du C C) (Af (A6 C (λc69=>?_) (λc69=>?_))))))))))
    ·refine Ax (Gm C (Gm C (Ge1 (B0 (α:=Int) (cs:=[_]) (xs:=[((e_ (eh SE) k2).tm)+wd]) Ac ef C C dc dc C C C C) λad13=>?_)))
     refine Ge2 (B1 (α:=Int) (e:=3) (xs:=out2) (ys:=([((e_ (eh SE) k2).tm)+wd]:List Int)) Ac ef C C C mm Bg lcn dc C (λ_ _=>am)) λad14 cp15=>?_
     exact Ga C (Bd (Ak (Aj (Ax (Gm C (Gr (Rad C C) (Ga C (Bd (B2 ((k2+1),(ad14),(cp15),(out2++([((e_ (eh SE) k2).tm)+wd]:List Int))) (by dsimp only;exact ⟨om,(by first|(rw [ho2,lateTm_yes om g50 asm,List.append_assoc])|(rw [ho2,lateTm_no om (.inr asm)]))⟩))))))))))
    ·exact Ay (Ak (Aj (Ax (Gm C (Gr (Rad C C) (Ga C (Bd (B2 ((k2+1),(oa2),(oc2),(out2)) (by dsimp only;exact ⟨om,(by first|(rw [ho2,lateTm_yes om g50 asm,List.append_assoc])|(rw [ho2,lateTm_no om (.inr asm)]))⟩)))))))))
   ·refine Bs (Ap (Ap (A7 (Aj (Ah (Gm C (Gc2 (Ao call82 C C (Of_ok Bg om)) λad16 cp17=>?_)))))))
    refine Ga C (Af (Aw ?_))
    have hE:ofL out2=timesR kd wd mo es:=by unfold timesR;rw [hSE,ho2];first|rw [List.take_of_length_le om]|rw [late_none g50,late_none g50]
    exact A1 C C (vc 3 (.slice ad16 (timesR kd wd mo es).length cp17) (timesR kd wd mo es)::I) (by rw [←hE];exact B4) ⟨ad16,cp17,by rw [←hE],rfl⟩
  ·refine eb (eb (eb (eb (eb (Gr (Al C C) (Af (Aq (S5 56 5 7 8 12 C C C C C) (C2 C (Bs (Ap (Ap (A7 (Aj (Ah (Gm C (Gc2 (Ao call82 C C (Of_ok Bg om)) λad18 cp19=>?_))))))))))))))))
   refine Ga C (Af (Aw ?_))
   have hE:ofL out2=timesR kd wd mo es:=by unfold timesR;rw [hSE,ho2];first|rw [List.take_of_length_le om]|rw [late_none g50,late_none g50]
   exact A1 C C (vc 3 (.slice ad18 (timesR kd wd mo es).length cp19) (timesR kd wd mo es)::I) (by rw [←hE];exact B4) ⟨ad18,cp19,by rw [←hE],rfl⟩
end Go.Sl
namespace Go.Sl
def foldOn(rs:List Rg)(on:List Bool):List Bool:=rs.foldl (λl r=>l.set r.al.toNat r.on) on
def stepT(T:Int)(st:List Bool×List Bool)(r:Rg):List Bool×List Bool:=(st.1.set r.al.toNat r.on,if r.tm<=T then st.2.set r.al.toNat r.on else st.2)
def statS(T:Int)(st:List Bool×List Bool)(rs:List Rg):List Bool×List Bool:=rs.foldl (stepT T) st
theorem statS_take{T:Int}{st:List Bool×List Bool}{rs:List Rg}{k:Nat}(hk:k<rs.length):statS T st (rs.take (k+1))=stepT T (statS T st (rs.take k)) (e_ rs k):=by
 unfold statS;rw [take_at rs k hk,List.foldl_append];rfl
theorem statS_len(T:Int):∀(rs:List Rg) (st:List Bool×List Bool),(statS T st rs).1.length=st.1.length/\(statS T st rs).2.length=st.2.length
 |[],st=>⟨rfl,rfl⟩
 |r::rs,st=>by
  obtain ⟨h1,h2⟩:=statS_len T rs (stepT T st r)
  have e1:(stepT T st r).1.length=st.1.length:=List.length_set
  have e2:(stepT T st r).2.length=st.2.length:=by
   unfold stepT;simp only;split
   ·exact List.length_set
   ·rfl
  exact ⟨h1.trans e1,h2.trans e2⟩
theorem statS_fst(T:Int):∀(rs:List Rg) (st:List Bool×List Bool),(statS T st rs).1=foldOn rs st.1
 |[],st=>rfl
 |r::rs,st=>statS_fst T rs (stepT T st r)
theorem statS_early{T:Int}:∀(rs:List Rg) (st:List Bool×List Bool),(∀r∈rs,r.tm<=T)->(statS T st rs).2=foldOn rs st.2
 |[],st,_=>rfl
 |r::rs,st,h=>by
  have h1:=statS_early rs (stepT T st r) λx hx=>h x (List.mem_cons_of_mem _ hx)
  refine h1.trans ?_
  show foldOn rs (if r.tm<=T then _ else _)=_
  rw [if_pos (h r List.mem_cons_self)];rfl
theorem statS_late{T:Int}:∀(rs:List Rg) (st:List Bool×List Bool),(∀r∈rs,¬r.tm<=T)->(statS T st rs).2=st.2
 |[],st,_=>rfl
 |r::rs,st,h=>by
  have h1:=statS_late rs (stepT T st r) λx hx=>h x (List.mem_cons_of_mem _ hx)
  refine h1.trans ?_
  show (if r.tm<=T then _ else _)=_
  rw [if_neg (h r List.mem_cons_self)]
def rokS:List Bool->List Rg->Prop
 |_,[]=>True
 |on,r::rs=>((0<=r.al/\r.al<on.length)/\e_ on r.al≠r.on)/\rokS (on.set r.al.toNat r.on) rs
theorem rokS_app:∀{a b:List Rg} {on:List Bool},rokS on a->rokS (foldOn a on) b->rokS on (a++b)
 |[],b,on,_,h=>h
 |r::a,b,on,h1,h2=>⟨h1.1,rokS_app h1.2 h2⟩
theorem rokS_at:∀{rs:List Rg} {on:List Bool},rokS on rs->∀k:Nat,k<rs.length->(0<=(e_ rs k).al/\(e_ rs k).al<on.length)/\e_ (foldOn (rs.take k) on) (e_ rs k).al≠(e_ rs k).on
 |[],on,_,k,hk=>by simp at hk
 |r::rs,on,h,0,_=>h.1
 |r::rs,on,h,k+1,hk=>by
  have h1:=rokS_at h.2 k (by simpa using hk)
  have e:e_ (r::rs) ((k+1:Nat):Int)=e_ rs k:=by rw [at_nat,at_nat];rfl
  rw [e]
  rw [List.length_set] at h1
  exact h1
theorem relR_succ(p:Nat->Bool)(t:Int)(h:Nat->Bool)(k:Nat):relR p t h (k+1)=relR p t h k++if h k !=p k then [⟨t,(k:Int),h k⟩] else []:=by
 unfold relR
 rw [List.range_succ,List.filter_append,List.map_append]
 congr 1
 cases hc:(h k !=p k)<;>simp [List.filter_cons,hc]
theorem foldOn_app(a b:List Rg)(on:List Bool):foldOn (a++b) on=foldOn b (foldOn a on):=by unfold foldOn;rw [List.foldl_append]
theorem relR_on(t:Int)(h:Nat->Bool){n:Nat}{on:List Bool}(hl:on.length=n){p:Nat->Bool}(hp:∀i,i<n->e_ on i=p i):∀k,k<=n->
  (foldOn (relR p t h k) on).length=n/\(∀i,i<n->e_ (foldOn (relR p t h k) on) (i:Int)=if i<k then h i else p i)/\rokS on (relR p t h k)
 |0,_=>⟨hl,λi hi=>by rw [if_neg (by omega)];exact hp i hi,trivial⟩
 |k+1,hk=>by
  obtain ⟨h1,h2,h3⟩:=relR_on t h hl hp k (by omega)
  have h2k:=h2 k (by omega)
  rw [if_neg (by omega)] at h2k
  rw [relR_succ,foldOn_app]
  by_cases he:h k=p k
  ·have e:(if (h k !=p k)=true then [(⟨t,(k:Int),h k⟩:Rg)] else [])=[]:=by rw [he];simp
   rw [e]
   refine ⟨h1,λi hi=>?_,by rw [List.append_nil];exact h3⟩
   show e_ (foldOn (relR p t h k) on) (i:Int)=_
   rw [h2 i hi]
   by_cases hik:i=k
   ·subst hik;rw [if_neg (by omega),if_pos (by omega),he]
   ·by_cases hlt:i<k
    ·rw [if_pos hlt,if_pos (by omega)]
    ·rw [if_neg hlt,if_neg (by omega)]
  ·have e:(if (h k !=p k)=true then [(⟨t,(k:Int),h k⟩:Rg)] else [])=[⟨t,(k:Int),h k⟩]:=if_pos (by simpa using he)
   rw [e]
   have e2:foldOn [(⟨t,(k:Int),h k⟩:Rg)] (foldOn (relR p t h k) on)=(foldOn (relR p t h k) on).set k (h k):=by
    show List.set _ ((k:Int)).toNat _=_
    rw [Int.toNat_natCast]
   rw [e2]
   refine ⟨by rw [List.length_set];exact h1,λi hi=>?_,rokS_app h3 ⟨⟨⟨by show (0:Int)<=(k:Int);omega,by show (k:Int)<_;rw [h1];omega⟩,?_⟩,trivial⟩⟩
   ·rw [at_setn _ _ _ _ (by rw [h1];omega)]
    by_cases hik:k=i
    ·subst hik;rw [if_pos rfl,if_pos (by omega)]
    ·rw [if_neg hik,h2 i hi]
     by_cases hlt:i<k
     ·rw [if_pos hlt,if_pos (by omega)]
     ·rw [if_neg hlt,if_neg (by omega)]
   ·show e_ _ k≠h k
    rw [h2k];exact λe=>he e.symm
def lastP(H:Int->Nat->Bool)(p:Nat->Bool)(ts:List Int):Nat->Bool:=ts.foldl (λ_ t=>H t) p
theorem relA_on(H:Int->Nat->Bool){n:Nat}:∀(ts:List Int) (p:Nat->Bool) (on:List Bool),on.length=n->(∀i,i<n->e_ on i=p i)->
  (foldOn (relA H n p ts) on).length=n/\(∀i,i<n->e_ (foldOn (relA H n p ts) on) (i:Int)=lastP H p ts i)/\rokS on (relA H n p ts)
 |[],p,on,hl,hp=>⟨hl,hp,trivial⟩
 |t::ts,p,on,hl,hp=>by
  obtain ⟨h1,h2,h3⟩:=relR_on t (H t) hl hp n (Nat.le_refl _)
  obtain ⟨h4,h5,h6⟩:=relA_on H ts (H t) (foldOn (relR p t (H t) n) on) h1 λi hi=>by rw [h2 i hi,if_pos hi]
  simp only [relA]
  rw [foldOn_app]
  exact ⟨h4,h5,rokS_app h3 h6⟩
theorem relA_app(H:Int->Nat->Bool)(n:Nat):∀(a b:List Int) (p:Nat->Bool),relA H n p (a++b)=relA H n p a++relA H n (lastP H p a) b
 |[],b,p=>rfl
 |t::a,b,p=>by
  rw [List.cons_append]
  simp only [relA]
  rw [relA_app H n a b (H t),List.append_assoc];rfl
theorem stat_rel(H:Int->Nat->Bool){n:Nat}{T:Int}{a b:List Int}(ha:∀t∈a,t<=T)(hb:∀t∈b,¬t<=T) :
  (statS T (replicate n false,replicate n false) (relA H n (λ_=>false) (a++b))).2.length=n/\
  (∀i,i<n->e_ (statS T (replicate n false,replicate n false) (relA H n (λ_=>false) (a++b))).2 (i:Int)=lastP H (λ_=>false) a i)/\
  rokS (replicate n false) (relA H n (λ_=>false) (a++b)):=by
 have hl:(replicate n false).length=n:=List.length_replicate
 have hp:∀i,i<n->e_ (replicate n false) i=(λ_=>false) i:=λi hi=>at_rep _ _ _ (by omega) (by omega)
 have hR:=relA_on H (a++b) (λ_=>false) _ hl hp
 obtain ⟨h1,h2,h3⟩:=relA_on H a (λ_=>false) _ hl hp
 have e:(statS T (replicate n false,replicate n false) (relA H n (λ_=>false) (a++b))).2=foldOn (relA H n (λ_=>false) a) (replicate n false):=by
  rw [relA_app]
  unfold statS
  rw [List.foldl_append]
  refine (statS_late (T:=T) _ _ λr hr=>hb _ (relA_time H n b _ r hr).1).trans ?_
  exact statS_early _ _ λr hr=>ha _ (relA_time H n a _ r hr).1
 rw [e]
 exact ⟨h1,h2,hR.2.2⟩
theorem lastP_snoc(H:Int->Nat->Bool)(p:Nat->Bool)(a:List Int)(t:Int):lastP H p (a++[t])=H t:=by unfold lastP;rw [List.foldl_append];rfl
end Go.Sl
namespace Go.Sl
def valM:Int ⊕ Bool->Value
 | .inl n=>e7 n
 | .inr b=> .bool b
def kndM:Int ⊕ Bool->Bool
 | .inl _=>true
 | .inr _=>false
section
variable {P:Program}
def flatM(P:Program):List Field->List Bool->Nat->Bool
 |[],_,_=>true
 |f::fs,[],_=>false
 | f :: fs, k :: ks, o => (f.name != "_") && (match P.underlying f.type with | some (.int .i64) => k | some .bool => !k | _ => false) && (f.offset == o) && flatM P fs ks (o + 1)
theorem run_eqMix(d:Nat)(w:World)(ns ms:List (Int ⊕ Bool)):∀(fs:List Field) (ks:List Bool) (o:Nat),flatM P fs ks o=true->ns.length=o+fs.length->ms.length=o+fs.length->(ns.drop o).map kndM=ks->(ms.drop o).map kndM=ks->
  (Op.eqFields (d+1) (ns.map valM).toArray (ms.map valM).toArray fs).run P w = .ok (decide (ns.drop o=ms.drop o)) w
 |[],ks,o,_,hn,hm,_,_=>by
  have h1:ns.drop o=[]:=List.drop_eq_nil_of_le (by simp at hn;omega)
  have h2:ms.drop o=[]:=List.drop_eq_nil_of_le (by simp at hm;omega)
  simp [Op.eqFields,h1,h2]
 |f::fs,[],o,h,_,_,_,_=>by simp [flatM] at h
 |f::fs,k::ks,o,h,hn,hm,kn,km=>by
  simp only [flatM,Bool.and_eq_true,bne_iff_ne,beq_iff_eq] at h
  obtain ⟨⟨⟨h1,h2⟩,h3⟩,h4⟩:=h
  simp only [List.length_cons] at hn hm
  have hno:o<ns.length:=by omega
  have hmo:o<ms.length:=by omega
  rw [List.drop_eq_getElem_cons hno,List.map_cons,List.cons.injEq] at kn
  rw [List.drop_eq_getElem_cons hmo,List.map_cons,List.cons.injEq] at km
  have ih:=run_eqMix d w ns ms fs ks (o+1) h4 (by omega) (by omega) kn.2 km.2
  have key:(ns.drop o=ms.drop o)↔(ns[o]=ms[o]/\ns.drop (o+1)=ms.drop (o+1)):=by rw [List.drop_eq_getElem_cons hno,List.drop_eq_getElem_cons hmo,List.cons.injEq]
  have key2:decide (ns.drop o=ms.drop o)=decide (ns[o]=ms[o]/\ns.drop (o+1)=ms.drop (o+1)):=decide_eq_decide.2 key
  rw [key2]
  have ha:(isAgg f.type).run P w = .ok false w:=by
   revert h2;split<;>intro h2
   ·rename_i hu;simp [isAgg,run_underlying hu]
   ·rename_i hu;simp [isAgg,run_underlying hu]
   ·cases h2
  have hp:∀(xs:List (Int ⊕ Bool)) (hk:o<xs.length),(part f.type (xs.map valM).toArray f.offset).run P w = .ok (valM xs[o]) w:=λxs hk=>by
   have hcell:(valM xs[o]).cells = #[valM xs[o]]\/True:= .inr trivial
   simp [part,ha,h3,hk]
  have he:(Op.equalIn (d+1) f.type (valM ns[o]) (valM ms[o])).run P w = .ok (decide (ns[o]=ms[o])) w:=by
   have kn1:=kn.1
   have km1:=km.1
   generalize ns[o]=n at kn1
   generalize ms[o]=m at km1
   revert h2;split<;>intro h2
   ·rename_i hu
    subst h2
    cases n with
    |inl a=>cases m with
     |inl b=>show (Op.equalIn (d+1) f.type (e7 a) (e7 b)).run P w=_;rw [run_equalIn_int _ _ _ _ _ _ _ hu];congr 1;by_cases e:a=b<;>simp [e]
     |inr b=>cases km1
    |inr a=>cases kn1
   ·rename_i hu
    have hk:k=false:=by simpa using h2
    subst hk
    cases n with
    |inr a=>cases m with
     |inr b=>show (Op.equalIn (d+1) f.type (.bool a) (.bool b)).run P w=_;rw [run_equalIn_bool' w d f.type a b hu];cases a<;>cases b<;>rfl
     |inl b=>cases km1
    |inl a=>cases kn1
   ·cases h2
  simp only [Op.eqFields,if_pos h1,Sem.run_bind,hp ns hno,hp ms hmo,Result.andThen_ok,he]
  by_cases hd:ns[o]=ms[o]
  ·simp [hd,ih]
  ·simp [hd]
theorem EqT.mix{α:Type}[Enc α][DecidableEq α]{T n:Nat}(vs:α->List (Int ⊕ Bool))(ks:List Bool)(henc:∀x,Enc.enc x=(vs x).map valM)(hinj:∀x y,vs x=vs y->x=y)(hlen:∀x,(vs x).length=n)(hk:∀x,(vs x).map kndM=ks)
  (ht:P.underlying T=some (.struct (P.fieldsOf T))) (hp:P.stoodInHeld T=false) (hf:flatM P (P.fieldsOf T).toList ks 0=true) (hn:(P.fieldsOf T).size=n) (hg:P.eqGuardType P.depth T=false):EqT P T α:=by
 refine ⟨λx y w=>?_,hg⟩
 rw [show (10000:Nat)=9999+1 from rfl,run_equalIn_struct w 9999 T _ _ ht hp,henc,henc,show (9999:Nat)=9998+1 from rfl,
  run_eqMix 9998 w (vs x) (vs y) _ ks 0 hf (by rw [hlen,Array.length_toList,hn];omega) (by rw [hlen,Array.length_toList,hn];omega) (by rw [List.drop_zero];exact hk x) (by rw [List.drop_zero];exact hk y)]
 congr 1
 rw [List.drop_zero,List.drop_zero,decide_eq_decide]
 exact ⟨hinj x y,λe=>by rw [e]⟩
end
end Go.Sl
namespace Go.Sl
open Go.Proofs
set_option maxRecDepth 4000
variable {κ:Ctx}{I:List Item}
theorem eqt44:EqT prog 44 Rg:=EqT.mix (λp:Rg=>[.inl p.tm,.inl p.al,.inr p.on]) [true,true,false] (λ_=>rfl) (λx y h=>by cases x;cases y;simpa using h) (n:=3) (λ_=>rfl) (λ_=>rfl) kr kr kr kr kr
theorem list_eqR{xs ys:List Rg}(hl:xs.length=ys.length)(h:∀j:Nat,j<xs.length->e_ xs j=e_ ys j):xs=ys:=by
 refine List.ext_getElem hl λi h1 h2=>?_
 have:=h i h1
 rwa [Dx xs i h1,Dx ys i h2] at this
theorem Same44_ok{va vb:Value}{xs ys:List Rg}(hl:Sl κ I va xs)(hm:Sl κ I vb ys):ep prog κ 24 [va,vb] I (λr J=>r = .bool (decide (xs=ys))/\I=J):=by
 refine B3 hl.le λhmax=>?_
 refine B3 hm.le λhmax2=>?_
 refine Ce2 Tryz.func24 C C ?_
 refine Ah (Ga C (Af (Au (Ah (Gm C (Gr (Bx (α:=Rg) (xs:=xs) Cy C (Bh hl)) (Gm C (Gr (Bx (α:=Rg) (xs:=ys) Cy C (Bh hm)) (Gr (Be C C) (Af (A6 C (λc10=>?_) (λc10=>?_))))))))))))
 ·refine Ah (Ga C (Af (Aw (Ai ?_))))
  have hne:xs≠ys:=λe=>by subst e;omega
  exact A1 C C I A0 ⟨by rw [decide_eq_false hne],rfl⟩
 ·refine Ay (Aj (Au (Ah (Ga C (Af (A4 (Bu (σ:=Nat) (λs=>([(0,va),(1,vb),(5,e7 ((s:Nat):Int))]:Env)) (λs=>I) (λs=>(s<=xs.length)/\(∀j:Nat,j<s->e_ xs j=e_ ys j)) (λs=>xs.length - s) 0 (show ((0:Nat)<=xs.length)/\(∀j:Nat,j<(0:Nat)->e_ xs j=e_ ys j) from ⟨om,(λj h=>by omega)⟩) (Aa C (Aa C (Aa B9 Bj))) (show Fit κ _ I from A5) ?_)))))))
  rintro k hp
  obtain ⟨hk,hn⟩:=hp
  refine Au (Ah (Gm C (Gm C (Gr (Bx (α:=Rg) (xs:=xs) Cy C (Bh hl)) (Gr (A9 C C) (Af (A6 C (λc14=>?_) (λc14=>?_))))))))
  ·refine Ay (Aj (Au (A4 (Au (Bl mixed (Br I 9 (Dr 0 C (Ad C) (Dr 1 C (Ad C) (Dr 2 C (A3 (α:=Rg) (xs:=xs) Cy ty44 C C (Bh hl) om om) (Dr 3 C (Bp (α:=Rg) (xs:=xs) ty44 C (Bh hl) om om) (Dr 4 C (Ad C) (Dr 5 C (Ad C) (Dr 6 C (A3 (α:=Rg) (xs:=ys) Cy ty44 C C (Bh hm) om om) (Dr 7 C (Bp (α:=Rg) (xs:=ys) ty44 C (Bh hm) om om) (Dr 8 C (Runs.neqT (α:=Rg) (a:=(⟨(e_ xs k).tm,(e_ xs k).al,(e_ xs k).on⟩:Rg)) (b:=(⟨(e_ ys k).tm,(e_ ys k).al,(e_ ys k).on⟩:Rg)) eqt44 C C) (Dz (Aj (Aq (S4 25 0 1 5 C C C C) (A6 C (λc25=>?_) (λc25=>?_))))))))))))))))))))
   ·refine Ah (Ga C (Af (Aw (Av (Ai (Ai (Av (Ai ?_))))))))
    have hne:xs≠ys:=λe=>by subst e;exact c25 rfl
    exact A1 C C I A0 ⟨by rw [decide_eq_false hne],rfl⟩
   ·exact Ay (Ak (Aj (Ax (Gm C (Gr (Rad C C) (Ga C (Bd (B2 ((k+1)) ⟨om,(λj h=>by by_cases e:j=k;(· subst e;exact Classical.not_not.1 c25);(· exact hn j om))⟩))))))))
  ·refine Bs (Ap (Ap (A7 (Aj (Ah (Ga C (Af (Aw ?_))))))))
   have he:xs=ys:=list_eqR om (λj hj=>hn j om)
   exact A1 C C I A0 ⟨by rw [decide_eq_true he],rfl⟩
theorem MkWindowV_base{b:Nat}{lv:Value}{ls:List Int}{i:Int}(hl:∀q,Sl κ (deck b lv q::I) lv ls)(h0:0<=i)   :
    ep prog κ 21 [.pointer (some ⟨b,0,none⟩)] (e8 b [lv,e7 i] 125::I) (λr J=>∃y:Int×Int×Int×Int,((r = .agg #[e7 y.1,e7 y.2.1,e7 y.2.2.1]/\checkW y.1 y.2.1 y.2.2.1=0)/\0<=y.2.2.2)/\J=[]++deck b lv y.2.2.2::I):=by
 refine Ce1 Tryz.func21 C C ?_
 refine Ah (Ge1 (A8 ty31 C) λb1=>Af (Au (Ah (Gm C (G.e (Ao call19 C C (Next_ok (by repeat (first|exact AtF.head _ _|apply AtF.tail)) (B5 (hl _) A0) om om)) ?_)))))
 rintro _ _ ⟨_,_,⟨x2,i3,rfl,hx2,hi3,rfl⟩,rfl,rfl⟩
 show G prog κ _ _ _ _ ([(4,e7 x2),(3,.pointer (some ⟨b,0,none⟩)),(2,.pointer (some ⟨b1,0,none⟩)),(0,.pointer (some ⟨b,0,none⟩))]:Env) (e8 b1 [e7 0,e7 0,e7 0] 31::e8 b [lv,e7 i3] 125::I)
 refine Af (A4 (Ah (Gr (Bi C C) (Ga C (Af (A6 C (λc5=>?_) (λc5=>?_)))))))
 ·refine Ah (Gm C (G.e (Ao call19 C C (Next_ok (by repeat (first|exact AtF.head _ _|apply AtF.tail)) (B5 (hl _) A0) om om)) ?_))
  rintro _ _ ⟨_,_,⟨x4,i5,rfl,hx4,hi5,rfl⟩,rfl,rfl⟩
  show G prog κ _ _ _ _ ([(8,e7 x4),(7,.pointer (some ⟨b,0,none⟩)),(5,.bool (decide (x2=1))),(6,.bool (decide (x2=1))),(4,e7 x2),(3,.pointer (some ⟨b,0,none⟩)),(2,.pointer (some ⟨b1,0,none⟩)),(0,.pointer (some ⟨b,0,none⟩))]:Env) (e8 b1 [e7 0,e7 0,e7 0] 31::e8 b [lv,e7 i5] 125::I)
  refine Gr (Rad C C) (Gr (Bf (cells:=[_,_,_]) ty31 Ew pl31 C C) (Ge0 (Es3_3 ty31) ?_))
  exact Af (Aw (Av (Ai (Db C ty31 C mm C (e8 b [lv,e7 i5] 125::I) A5 ⟨(2,1+x4,0,i5),⟨⟨rfl,by show checkW 2 (1+x4) (0)=0;unfold checkW;rw [if_neg om,if_neg om]⟩,by show 0<=i5;omega⟩,rfl⟩))))
 ·refine Ah (Gr (Bi C C) (Ga C (Af (A6 C (λc11=>?_) (λc11=>?_)))))
  ·refine Ah (Gm C (G.e (Ao call19 C C (Next_ok (by repeat (first|exact AtF.head _ _|apply AtF.tail)) (B5 (hl _) A0) om om)) ?_))
   rintro _ _ ⟨_,_,⟨x6,i7,rfl,hx6,hi7,rfl⟩,rfl,rfl⟩
   show G prog κ _ _ _ _ ([(14,e7 x6),(13,.pointer (some ⟨b,0,none⟩)),(11,.bool (decide (x2=2))),(12,.bool (decide (x2=2))),(5,.bool (decide (x2=1))),(6,.bool (decide (x2=1))),(4,e7 x2),(3,.pointer (some ⟨b,0,none⟩)),(2,.pointer (some ⟨b1,0,none⟩)),(0,.pointer (some ⟨b,0,none⟩))]:Env) (e8 b1 [e7 0,e7 0,e7 0] 31::e8 b [lv,e7 i7] 125::I)
   refine Gr (Bf (cells:=[_,_,_]) ty31 Ew pl31 C C) (Ge0 (Es3_3 ty31) ?_)
   exact Af (Aw (Av (Ai (Db C ty31 C mm C (e8 b [lv,e7 i7] 125::I) A5 ⟨(3,0,x6,i7),⟨⟨rfl,by show checkW 3 0 (x6)=0;unfold checkW;rw [if_neg om,if_neg om]⟩,by show 0<=i7;omega⟩,rfl⟩))))
  ·refine Ay (Ak (Aj (Ah (Gr (Bf (cells:=[_,_,_]) ty31 Ew pl31 C C) (Ge0 (Es3_3 ty31) ?_)))))
   exact Af (Aw (Db C ty31 C mm C (e8 b [lv,e7 i3] 125::I) A5 ⟨(1,0,0,i3),⟨⟨rfl,by show checkW 1 0 (0)=0;unfold checkW;rw [if_neg om,if_neg om]⟩,by show 0<=i3;omega⟩,rfl⟩))
theorem MkWindowV_at{F:Item->List Item}{b:Nat}{lv:Value}{ls:List Int}{i:Int}(hat:AtF I (deck b lv i) F)(hl:∀q,Sl κ (F (deck b lv q)) lv ls)(h0:0<=i)   :
  ep prog κ 21 [.pointer (some ⟨b,0,none⟩)] I λr J=>∃y:Int×Int×Int×Int,((r = .agg #[e7 y.1,e7 y.2.1,e7 y.2.2.1]/\checkW y.1 y.2.1 y.2.2.1=0)/\0<=y.2.2.2)/\J=[]++F (deck b lv y.2.2.2):=
 D4 (Post:=λr (y:Int×Int×Int×Int)=>(r = .agg #[e7 y.1,e7 y.2.1,e7 y.2.2.1]/\checkW y.1 y.2.1 y.2.2.1=0)/\0<=y.2.2.2) (Z:=λy:Int×Int×Int×Int=>[]) (X:=λy:Int×Int×Int×Int=>deck b lv y.2.2.2) hat λJ _ hF=>MkWindowV_base (λq=>(hl q).fit (hF _)) h0  
def evA:Ev:=⟨1,4,0,1,1,0,1⟩
theorem ascZ_of{xs:List Int}(h:xs.Pairwise (· < ·)):ascZ xs=xs:=intLin.uniq (ascZ_asc xs) h λ_=>mem_ascZ
theorem slide_one:slideS 2 3 0 [evA]=([ei evA],[evA]):=by
 show evStep 2 3 0 ([],[]) evA=_
 unfold evStep agedL windL
 rw [if_pos rfl,ageL_stop (by simp)]
 decide
theorem all_one:allE 2 3 0 [evA]=[evA,cutAt 3 (ei evA)]:=by
 unfold allE;rw [slide_one];decide
theorem times_one:timesZ 2 3 0 [evA]=[0,4,7]:=by
 unfold timesZ timesL
 rw [slide_one]
 exact ascZ_of dc
theorem ev_at0:atG 2 3 0 [evA] 0=[]:=by unfold atG atK;rw [all_one];decide
theorem ev_at4:atG 2 3 0 [evA] 4=[⟨0,1⟩]:=by unfold atG atK;rw [all_one];decide
theorem ev_at7:atG 2 3 0 [evA] 7=[]:=by unfold atG atK;rw [all_one];decide
theorem core_e0:coreN 2 []=[0,0]:=by decide+kernel
theorem core_e1:coreN 2 [⟨0,1⟩]=[1,1]:=by decide+kernel
theorem hist_one:HistOk 2 2 3 0 [evA]:=⟨⟨by decide,by decide,λj hj=>by
 obtain rfl:j=0:=by simp at hj;exact hj
 exact fitE_ok.1 dc,λj hj=>by
 obtain rfl:j=0:=by simp at hj;exact hj
 decide⟩,by decide⟩
theorem cond1{nd:Int}{es:List Pt}{x:AlV}(h:x.kd=1):condP nd es x↔x.lv<=e_ (coreN nd es) x.no:=by unfold condP;rw [if_pos h]
theorem cond3{nd:Int}{es:List Pt}{x:AlV}(h:x.kd=3):condP nd es x↔0<=cmpF (densG nd es x.xs) ⟨x.num,x.den⟩:=by unfold condP;rw [if_neg om,if_neg om,if_pos h]
theorem holdV_no{nd:Int}{es:List Pt}{x:AlV}(h:¬condP nd es x):holdV nd es x=false:=by
 rw [Bool.eq_false_iff];exact λh2=>h ((holdV_iff _ _ _).1 h2)
theorem dens0{nd:Int}{es:List Pt}{x:AlV}(hG:GrOk nd es)(hk:x.kd=3)(hn:x.num=0)(hd:0<=x.den):holdV nd es x=true:=(holdV_iff _ _ _).2 ((cond3 hk).2 (by
 rw [cmpF_ge,hn]
 have h:=densG_frv hG x.xs
 have:=Int.mul_nonneg h.n0 hd
 show (0:Int)*_<=_
 rw [Int.zero_mul];exact this))
theorem awake_rings(a0:Option Addr)(c0:Nat):ringsV 2 2 3 0 [evA] [⟨3,0,0,a0,c0,[0,1],0,1⟩,⟨1,0,1,none,0,[],0,0⟩]=[⟨0,0,true⟩,⟨4,1,true⟩,⟨7,1,false⟩]:=by
 have h0:∀t,alH 2 2 3 0 [evA] [⟨3,0,0,a0,c0,[0,1],0,1⟩,⟨1,0,1,none,0,[],0,0⟩] t 0=true:=λt=>dens0 (hist_one.graph t) rfl rfl (show (0:Int)<=1 by decide)
 have h1:∀t,alH 2 2 3 0 [evA] [⟨3,0,0,a0,c0,[0,1],0,1⟩,⟨1,0,1,none,0,[],0,0⟩] t 1=holdV 2 (atG 2 3 0 [evA] t) ⟨1,0,1,none,0,[],0,0⟩:=λt=>rfl
 have ha:holdV 2 (atG 2 3 0 [evA] 0) ⟨1,0,1,none,0,[],0,0⟩=false:=holdV_no (by rw [cond1 rfl,ev_at0,core_e0];decide)
 have hb:holdV 2 (atG 2 3 0 [evA] 4) ⟨1,0,1,none,0,[],0,0⟩=true:=(holdV_iff _ _ _).2 (by rw [cond1 rfl,ev_at4,core_e1];decide)
 have hc:holdV 2 (atG 2 3 0 [evA] 7) ⟨1,0,1,none,0,[],0,0⟩=false:=holdV_no (by rw [cond1 rfl,ev_at7,core_e0];decide)
 unfold ringsV
 rw [ringS_eq,times_one]
 simp only [relA,relR,List.length_cons,List.length_nil,Nat.zero_add,Nat.reduceAdd]
 have hr:List.range 2=[0,1]:=rfl
 simp [hr,List.filter_cons,h0,h1,ha,hb,hc]
theorem al1{n no lv:Int}(h1:0<=no/\no<n)(h2:0<=lv/\lv<=64)(a:Option Addr)(c:Nat):AlOk n ⟨1,no,lv,a,c,[],0,0⟩ where
 kind:=by show 1<=(1:Int)/\(1:Int)<=5;decide
 k1:=λ_=>⟨h1,h2,rfl,rfl,rfl⟩
 k2:=λh=>absurd h (by show ¬(1:Int)=2;decide)
 k3:=λh=>absurd h (by show ¬(1:Int)=3;decide)
 k4:=λh=>absurd h (by show ¬(1:Int)=4;decide)
 k5:=λh=>absurd h (by show ¬(1:Int)=5;decide)
theorem al2{n num den:Int}(h:FrV ⟨num,den⟩)(a:Option Addr)(c:Nat):AlOk n ⟨2,0,0,a,c,[],num,den⟩ where
 kind:=by show 1<=(2:Int)/\(2:Int)<=5;decide
 k1:=λh=>absurd h (by show ¬(2:Int)=1;decide)
 k2:=λ_=>⟨rfl,rfl,rfl,h⟩
 k3:=λh=>absurd h (by show ¬(2:Int)=3;decide)
 k4:=λh=>absurd h (by show ¬(2:Int)=4;decide)
 k5:=λh=>absurd h (by show ¬(2:Int)=5;decide)
theorem al3'{n num den:Int}{xs:List Int}(h1:0<xs.length/\xs.length<=64)(h2:ValidP xs n)(h:FrV ⟨num,den⟩)(a:Option Addr)(c:Nat):AlOk n ⟨3,0,0,a,c,xs,num,den⟩ where
 kind:=by show 1<=(3:Int)/\(3:Int)<=5;decide
 k1:=λh=>absurd h (by show ¬(3:Int)=1;decide)
 k2:=λh=>absurd h (by show ¬(3:Int)=2;decide)
 k3:=λ_=>⟨rfl,rfl,h1,h2,h⟩
 k4:=λh=>absurd h (by show ¬(3:Int)=4;decide)
 k5:=λh=>absurd h (by show ¬(3:Int)=5;decide)
theorem al3(a0:Option Addr)(c0:Nat):AlOk 2 ⟨3,0,0,a0,c0,[0,1],0,1⟩:=al3' (n:=2) (num:=0) (den:=1) (xs:=[0,1]) dc dc ⟨by decide,by decide,by decide,by decide,by decide⟩ a0 c0
theorem al4{n lv:Int}(h2:0<=lv/\lv<=64)(a:Option Addr)(c:Nat):AlOk n ⟨4,0,lv,a,c,[],0,0⟩ where
 kind:=by show 1<=(4:Int)/\(4:Int)<=5;decide
 k1:=λh=>absurd h (by show ¬(4:Int)=1;decide)
 k2:=λh=>absurd h (by show ¬(4:Int)=2;decide)
 k3:=λh=>absurd h (by show ¬(4:Int)=3;decide)
 k4:=λ_=>⟨rfl,h2,rfl,rfl,rfl⟩
 k5:=λh=>absurd h (by show ¬(4:Int)=5;decide)
theorem al5{n lv:Int}{xs:List Int}(h1:0<xs.length/\xs.length<=64)(hv:ValidP xs n)(h2:0<=lv/\lv<=64)(a:Option Addr)(c:Nat):AlOk n ⟨5,0,lv,a,c,xs,0,0⟩ where
 kind:=by show 1<=(5:Int)/\(5:Int)<=5;decide
 k1:=λh=>absurd h (by show ¬(5:Int)=1;decide)
 k2:=λh=>absurd h (by show ¬(5:Int)=2;decide)
 k3:=λh=>absurd h (by show ¬(5:Int)=3;decide)
 k4:=λh=>absurd h (by show ¬(5:Int)=4;decide)
 k5:=λ_=>⟨rfl,h2,h1,hv,rfl,rfl⟩
set_option maxHeartbeats 1000000 in
theorem Awake44_ok{κ:Ctx}{I:List Item}(hT:TabRd κ I 0 tzCells):ep prog κ 17 [] I (λr J=>r = .bool true/\I=J):=by
 refine Ce0 Tryz.func17 C C ?_
 refine Ah (Ga C (Af (Ah (Ge1 (B0 (α:=Int) (cs:=[_,_]) (xs:=[0,1]) Ac ef C C dc dc C C C C) λad1=>?_))))
 refine Gr (Bf (cells:=[_,_]) ty40 Ch pl40 C C) (Gr (Bf (cells:=[_,_,_,_,_,_]) ty42 Tryz.underlying42 pl42 C C) (Ge1 (A8 ty42 C) λb2=>Ge0 (C5 ty42) ?_))
 refine Af (Ah (Gr (Bf (cells:=[_,_,_,_,_,_]) ty42 Tryz.underlying42 pl42 C C) (Ge1 (A8 ty42 C) λb3=>Ge0 (C5 ty42) ?_)))
 refine Af (Ah (Gr (Bf (cells:=[_,_,_,_,_,_,_]) ty108 C6 pl108 C C) (Ge1 (B0 (α:=Ev) (cs:=[e7 1,e7 4,e7 0,e7 1,e7 1,e7 0,e7 1]) (xs:=[⟨1,4,0,1,1,0,1⟩]) Az ty108 C C dc dc C kr C C) λad4=>?_)))
 refine Gr (Bf (cells:=[_,_,_]) ty31 Ew pl31 C C) (Gl6 ty42 ?_)
 refine Gl6 ty42 ?_
 refine Ge1 (B0 (α:=AlV) (cs:=[e7 3,e7 0,e7 0,.slice ad1 2 2,e7 0,e7 1,e7 1,e7 0,e7 1,.slice none 0 0,e7 0,e7 0]) (xs:=[⟨3,0,0,ad1,2,([0,1]:List Int),0,1⟩,⟨1,0,1,none,0,[],0,0⟩]) Cn ty42 C C dc dc C kr C C) λad5=>?_
 refine G.e (Ao call23 C C (Watch_ok (nd:=2) (kd:=2) (wd:=3) (mo:=0) (es:=([⟨1,4,0,1,1,0,1⟩]:List Ev)) (als:=([⟨3,0,0,ad1,2,([0,1]:List Int),0,1⟩,⟨1,0,1,none,0,[],0,0⟩]:List AlV)) (ea:=ad4) (ec:=1) (aa:=ad5) (ac:=2) Bg Bg (by intro x hx;simp only [List.mem_cons,List.not_mem_nil,or_false] at hx;rcases hx with rfl|rfl;(· exact Eq (xs:=[0,1]) mm);(· exact Sl.nil _)) hist_one dc (by intro x hx;simp only [List.mem_cons,List.not_mem_nil,or_false] at hx;rcases hx with rfl|rfl;(· exact al3 _ _);(· exact al1 dc dc _ _)) (Nat.le_of_ble_eq_true C) (Cg hT A0))) ?_
 rintro _ _ ⟨_,_,⟨ad6,cp7,rfl,rfl⟩,rfl,rfl⟩
 refine Gm C (Gr (A2 C C) (Gr (A2 C C) (Ga C (Ga C (Af (Aq (S2 4 3 C C) (Ah (Gm C (Gr (Bi C C) (Gm C (Ba (d:=21) C (λg21=>?_) (λg21=>?_))))))))))))
 ·refine e9 (Ad C) (e9 (Bf (cells:=[_,_,_]) ty44 Eu pl44 C C) (e9 (Bf (cells:=[_,_,_]) ty44 Eu pl44 C C) (e9 (Bf (cells:=[_,_,_]) ty44 Eu pl44 C C) (Ec (Cq C C C) (B0 (α:=Rg) (cs:=[e7 0,e7 0,.bool true,e7 4,e7 1,.bool true,e7 7,e7 1,.bool false]) (xs:=[⟨0,0,true⟩,⟨4,1,true⟩,⟨7,1,false⟩]) Cy ty44 C C dc dc C kr C C) ?_))))
  rintro _ _ ⟨ad8,rfl,rfl⟩
  refine Ec (Cq C C C) (Ao call24 C C (Same44_ok Bg Bg)) ?_
  rintro _ _ ⟨_,_,⟨rfl,rfl⟩,rfl,rfl⟩
  exact Gr (Am C C) (Ga C (Af (Aq (S1 0 C) (Aw (A1 C C I A0 ⟨by rw [decide_eq_true (by exact awake_rings _ _)],rfl⟩)))))
 ·exact absurd rfl g21
section
variable {n kd wd mo:Int}{es:List Ev}(hH:HistOk n kd wd mo es)(hn:2<=n)(a a2:Option Addr)(c c2:Nat)
include hH hn
end
theorem hist_nil{n kd wd mo:Int}{es:List Ev}(h:HistOk n kd wd mo es):HistOk n kd wd mo []:=⟨⟨h.st.nodes,by simp,λj hj=>absurd hj (Nat.not_lt_zero _),λj hj=>absurd hj (Nat.not_lt_zero _)⟩,h.win⟩
variable {κ:Ctx}{I:List Item}
abbrev frL:List Fr:=[⟨0,1⟩,⟨1,2⟩,⟨2,3⟩,⟨1,1⟩,⟨4,3⟩,⟨3,2⟩,⟨5,4⟩,⟨2,1⟩]
theorem frL_ok:∀x∈frL,FrV x:=by
 have h:∀x∈frL,0<=x.num/\x.num<=1073741824/\1<=x.den/\x.den<=1073741824/\gcdI x.num x.den=1:=by decide
 exact λx hx=>⟨(h x hx).1,(h x hx).2.1,(h x hx).2.2.1,(h x hx).2.2.2.1,(h x hx).2.2.2.2⟩
theorem frL_num:∀x∈frL,x.num<=5:=by decide
theorem MkFrac_base{b:Nat}{lv:Value}{ls:List Int}{i:Int}(hl:∀q,Sl κ (deck b lv q::I) lv ls)(h0:0<=i)   :
    ep prog κ 46 [.pointer (some ⟨b,0,none⟩)] (e8 b [lv,e7 i] 125::I) (λr J=>∃y:Int×Int×Int,((r = .agg #[e7 y.1,e7 y.2.1]/\FrV ⟨y.1,y.2.1⟩/\y.1<=5)/\0<=y.2.2)/\J=[]++deck b lv y.2.2::I):=by
 refine Ce1 Tryz.func46 C C ?_
 refine Ah (Ge1 (A8 ty40 C) λb1=>Af (Ah (Gr (Bf (cells:=[_,_]) ty40 Ch pl40 C C) (Gr (Bf (cells:=[_,_]) ty40 Ch pl40 C C) (Gr (Bf (cells:=[_,_]) ty40 Ch pl40 C C) (Gr (Bf (cells:=[_,_]) ty40 Ch pl40 C C) (Gr (Bf (cells:=[_,_]) ty40 Ch pl40 C C) (Gr (Bf (cells:=[_,_]) ty40 Ch pl40 C C) (Gr (Bf (cells:=[_,_]) ty40 Ch pl40 C C) (Gr (Bf (cells:=[_,_]) ty40 Ch pl40 C C) (Ge1 (B0 (α:=Fr) (cs:=[e7 0,e7 1,e7 1,e7 2,e7 2,e7 3,e7 1,e7 1,e7 4,e7 3,e7 3,e7 2,e7 5,e7 4,e7 2,e7 1]) (xs:=[⟨0,1⟩,⟨1,2⟩,⟨2,3⟩,⟨1,1⟩,⟨4,3⟩,⟨3,2⟩,⟨5,4⟩,⟨2,1⟩]) Tryz.underlying76 ty40 C C dc dc C kr C C) λad2=>?_)))))))))))
 refine Ga C (Af (Ah (Gm C (Gm C (Gm C (Gr (Bm Tryz.underlying76 C) (G.e (Ao call19 C C (Next_ok (by repeat (first|exact AtF.head _ _|apply AtF.tail)) (B5 (hl _) A0) om om)) ?_)))))))
 rintro _ _ ⟨_,_,⟨x3,i4,rfl,hx3,hi4,rfl⟩,rfl,rfl⟩
 show G prog κ _ _ _ _ ([(17,e7 x3),(16,e7 ((8:Nat):Int)),(15,.slice ad2 8 8),(14,.pointer (some ⟨b,0,none⟩)),(13,.slice ad2 8 8),(3,.slice ad2 8 8),(12,.slice ad2 8 8),(11,.agg #[e7 2,e7 1]),(10,.agg #[e7 5,e7 4]),(9,.agg #[e7 3,e7 2]),(8,.agg #[e7 4,e7 3]),(7,.agg #[e7 1,e7 1]),(6,.agg #[e7 2,e7 3]),(5,.agg #[e7 1,e7 2]),(4,.agg #[e7 0,e7 1]),(2,.pointer (some ⟨b1,0,none⟩)),(0,.pointer (some ⟨b,0,none⟩))]:Env) (vc 40 (.slice ad2 8 8) (([⟨0,1⟩,⟨1,2⟩,⟨2,3⟩,⟨1,1⟩,⟨4,3⟩,⟨3,2⟩,⟨5,4⟩,⟨2,1⟩]:List Fr))::e8 b1 [e7 0,e7 0] 40::e8 b [lv,e7 i4] 125::I)
 refine Gr (A3 (α:=Fr) (xs:=([⟨0,1⟩,⟨1,2⟩,⟨2,3⟩,⟨1,1⟩,⟨4,3⟩,⟨3,2⟩,⟨5,4⟩,⟨2,1⟩]:List Fr)) Tryz.underlying76 ty40 C C Bg om (by first|omega|(simp only [List.length_cons,List.length_nil];omega))) (Gr (Bp (α:=Fr) (xs:=([⟨0,1⟩,⟨1,2⟩,⟨2,3⟩,⟨1,1⟩,⟨4,3⟩,⟨3,2⟩,⟨5,4⟩,⟨2,1⟩]:List Fr)) ty40 C Bg om (by first|omega|(simp only [List.length_cons,List.length_nil];omega))) (Ge0 (Cd ty40) ?_))
 exact Af (Aq (S1 2 C) (Aw (Db C ty40 C mm C (e8 b [lv,e7 i4] 125::I) A5 ⟨((e_ ([⟨0,1⟩,⟨1,2⟩,⟨2,3⟩,⟨1,1⟩,⟨4,3⟩,⟨3,2⟩,⟨5,4⟩,⟨2,1⟩]:List Fr) x3).num,(e_ ([⟨0,1⟩,⟨1,2⟩,⟨2,3⟩,⟨1,1⟩,⟨4,3⟩,⟨3,2⟩,⟨5,4⟩,⟨2,1⟩]:List Fr) x3).den,i4),⟨⟨rfl,frL_ok _ (Ca (xs:=frL) om (by show _<(8:Int);omega)),frL_num _ (Ca (xs:=frL) om (by show _<(8:Int);omega))⟩,by show 0<=i4;omega⟩,rfl⟩)))
theorem MkFrac_at{F:Item->List Item}{b:Nat}{lv:Value}{ls:List Int}{i:Int}(hat:AtF I (deck b lv i) F)(hl:∀q,Sl κ (F (deck b lv q)) lv ls)(h0:0<=i)   :
  ep prog κ 46 [.pointer (some ⟨b,0,none⟩)] I λr J=>∃y:Int×Int×Int,((r = .agg #[e7 y.1,e7 y.2.1]/\FrV ⟨y.1,y.2.1⟩/\y.1<=5)/\0<=y.2.2)/\J=[]++F (deck b lv y.2.2):=
 D4 (Post:=λr (y:Int×Int×Int)=>(r = .agg #[e7 y.1,e7 y.2.1]/\FrV ⟨y.1,y.2.1⟩/\y.1<=5)/\0<=y.2.2) (Z:=λy:Int×Int×Int=>[]) (X:=λy:Int×Int×Int=>deck b lv y.2.2) hat λJ _ hF=>MkFrac_base (λq=>(hl q).fit (hF _)) h0  
theorem one_valid{x n:Int}(h:0<=x/\x<n):ValidP [x] n:=λj hj=>by
 have hj2:j<1:=hj
 obtain rfl:j=0:=by omega
 exact ⟨h,λh=>absurd h dc⟩
theorem MkSome_base{b:Nat}{lv:Value}{ls:List Int}{i:Int}{nodes:Int}(hl:∀q,Sl κ (deck b lv q::I) lv ls)(h0:0<=i)(hn:1<=nodes/\nodes<=64):ep prog κ 49 [.pointer (some ⟨b,0,none⟩),e7 nodes] (e8 b [lv,e7 i] 125::I) (λr J=>∃y:(Option Addr)×Nat×(List Int)×Int,((r = .slice y.1 y.2.2.1.length y.2.1/\ValidP y.2.2.1 nodes/\(0<y.2.2.1.length/\(y.2.2.1.length:Int)<=nodes))/\0<=y.2.2.2)/\J=[vc 3 (.slice y.1 y.2.2.1.length y.2.1) y.2.2.1]++deck b lv y.2.2.2::I):=by
 refine Ce2 Tryz.func49 C C ?_
 refine Ah (Ga C (Af (Ah (Gm C (Gm C (G.e (Ao call28 C C (Set_at (by repeat (first|exact AtF.head _ _|apply AtF.tail)) (λ_=>B5 (hl _) A0) om om)) ?_))))))
 rintro _ _ ⟨_,_,⟨ad2,cp3,o4,i1,rfl,ho4,hlo4,hi1,rfl⟩,rfl,rfl⟩
 show G prog κ _ _ _ _ ([(8,.slice ad2 o4.length cp3),(7,e7 nodes),(6,.pointer (some ⟨b,0,none⟩)),(4,.slice none 0 0),(0,.pointer (some ⟨b,0,none⟩)),(1,e7 nodes)]:Env) (vc 3 (.slice ad2 o4.length cp3) (o4)::e8 b [lv,e7 i1] 125::I)
 refine Ga C (Af (Au (Ah (Gm C (Gr (Bm Ac C) (Gr (Bi C C) (Gm C (Ba (d:=12) C (λg12=>?_) (λg12=>?_)))))))))
 ·refine e9 (Ad C) (e9 (Bv C C) (Gr (Am C C) (Af (Aq (S4 15 5 0 1 C C C C) (A6 C (λc15=>?_) (λc15=>?_))))))
  ·refine Ah (Gm C (Gm C (G.e (Ao call19 C C (Next_ok (by repeat (first|exact AtF.head _ _|apply AtF.tail)) (B5 (hl _) A0) om om)) ?_)))
   rintro _ _ ⟨_,_,⟨x5,i6,rfl,hx5,hi6,rfl⟩,rfl,rfl⟩
   show G prog κ _ _ _ _ ([(18,e7 x5),(17,e7 nodes),(16,.pointer (some ⟨b,0,none⟩)),(15,.bool (decide (0<nodes))),(5,.slice ad2 o4.length cp3),(0,.pointer (some ⟨b,0,none⟩)),(1,e7 nodes)]:Env) (vc 3 (.slice ad2 o4.length cp3) (o4)::e8 b [lv,e7 i6] 125::I)
   refine Ge1 (B0 (α:=Int) (cs:=[_]) (xs:=[x5]) Ac ef C C dc dc C C C C) λad7=>?_
   exact Ga C (Af (Aw (Ai (A1 C C (vc 3 (.slice ad7 1 1) (([x5]:List Int))::e8 b [lv,e7 i6] 125::I) A5 ⟨(ad7,1,([x5]:List Int),i6),⟨⟨rfl,one_valid om,by show 0<1/\((1:Nat):Int)<=nodes;omega⟩,by show 0<=i6;omega⟩,rfl⟩))))
  ·exact Ay (Aj (Ah (Gm C (Ga C (Af (Aw (A1 C C (vc 3 (.slice ad2 o4.length cp3) (o4)::e8 b [lv,e7 i1] 125::I) A5 ⟨(ad2,cp3,o4,i1),⟨⟨rfl,ho4,by show 0<o4.length/\(o4.length:Int)<=nodes;omega⟩,by show 0<=i1;omega⟩,rfl⟩)))))))
 ·exact eb (eb (Gr (Al C C) (Af (Aq (S4 15 5 0 1 C C C C) (C2 C (Ay (Aj (Ah (Gm C (Ga C (Af (Aw (A1 C C (vc 3 (.slice ad2 o4.length cp3) (o4)::e8 b [lv,e7 i1] 125::I) A5 ⟨(ad2,cp3,o4,i1),⟨⟨rfl,ho4,by show 0<o4.length/\(o4.length:Int)<=nodes;omega⟩,by show 0<=i1;omega⟩,rfl⟩)))))))))))))
theorem MkSome_at{F:Item->List Item}{b:Nat}{lv:Value}{ls:List Int}{i:Int}{nodes:Int}(hat:AtF I (deck b lv i) F)(hl:∀q,Sl κ (F (deck b lv q)) lv ls)(h0:0<=i)(hn:1<=nodes/\nodes<=64):ep prog κ 49 [.pointer (some ⟨b,0,none⟩),e7 nodes] I λr J=>∃y:(Option Addr)×Nat×(List Int)×Int,((r = .slice y.1 y.2.2.1.length y.2.1/\ValidP y.2.2.1 nodes/\(0<y.2.2.1.length/\(y.2.2.1.length:Int)<=nodes))/\0<=y.2.2.2)/\J=[vc 3 (.slice y.1 y.2.2.1.length y.2.1) y.2.2.1]++F (deck b lv y.2.2.2):=
 D4 (Post:=λr (y:(Option Addr)×Nat×(List Int)×Int)=>(r = .slice y.1 y.2.2.1.length y.2.1/\ValidP y.2.2.1 nodes/\(0<y.2.2.1.length/\(y.2.2.1.length:Int)<=nodes))/\0<=y.2.2.2) (Z:=λy:(Option Addr)×Nat×(List Int)×Int=>[vc 3 (.slice y.1 y.2.2.1.length y.2.1) y.2.2.1]) (X:=λy:(Option Addr)×Nat×(List Int)×Int=>deck b lv y.2.2.2) hat λJ _ hF=>MkSome_base (λq=>(hl q).fit (hF _)) h0  hn
theorem al1e{n kd no lv num den:Int}(e:kd=1)(e2:num=0)(e3:den=0)(h1:0<=no/\no<n)(h2:0<=lv/\lv<=64)(a:Option Addr)(c:Nat):AlOk n ⟨kd,no,lv,a,c,[],num,den⟩:=by subst e e2 e3;exact al1 h1 h2 a c
theorem al2e{n kd num den:Int}(e:kd=2)(h:FrV ⟨num,den⟩)(a:Option Addr)(c:Nat):AlOk n ⟨kd,0,0,a,c,[],num,den⟩:=by subst e;exact al2 h a c
theorem al3e{n kd num den:Int}{xs:List Int}(e:kd=3)(h1:0<xs.length/\(xs.length:Int)<=n)(hn:n<=64)(h2:ValidP xs n)(h:FrV ⟨num,den⟩)(a:Option Addr)(c:Nat):AlOk n ⟨kd,0,0,a,c,xs,num,den⟩:=by subst e;exact al3' ⟨h1.1,by omega⟩ h2 h a c
theorem al4e{n kd lv:Int}(e:kd=4)(h2:0<=lv/\lv<=64)(a:Option Addr)(c:Nat):AlOk n ⟨kd,0,lv,a,c,[],0,0⟩:=by subst e;exact al4 h2 a c
theorem al5e{n kd lv:Int}{xs:List Int}(e:kd=5)(h1:0<xs.length/\(xs.length:Int)<=n)(hn:n<=64)(hv:ValidP xs n)(h2:0<=lv/\lv<=64)(a:Option Addr)(c:Nat):AlOk n ⟨kd,0,lv,a,c,xs,0,0⟩:=by subst e;exact al5 ⟨h1.1,by omega⟩ hv h2 a c
set_option maxHeartbeats 2000000 in
theorem MkAlarm_base{b:Nat}{lv:Value}{ls:List Int}{i:Int}{nodes:Int}(hl:∀q,Sl κ (deck b lv q::I) lv ls)(h0:0<=i)(hn:1<=nodes/\nodes<=64):ep prog κ 26 [.pointer (some ⟨b,0,none⟩),e7 nodes] (e8 b [lv,e7 i] 125::I) (λr J=>∃y:AlV×Int,((r = .agg #[e7 y.1.kd,e7 y.1.no,e7 y.1.lv,.slice y.1.a y.1.xs.length y.1.c,e7 y.1.num,e7 y.1.den]/\AlOk nodes y.1/\(y.1.lv<=3/\y.1.num<=5))/\0<=y.2)/\J=[vc 3 (.slice y.1.a y.1.xs.length y.1.c) y.1.xs]++deck b lv y.2::I):=by
 refine Ce2 Tryz.func26 C C ?_
 refine Ah (Ge1 (A8 ty42 C) λb1=>Af (Ah (Gm C (G.e (Ao call19 C C (Next_ok (by repeat (first|exact AtF.head _ _|apply AtF.tail)) (B5 (hl _) A0) om om)) ?_))))
 rintro _ _ ⟨_,_,⟨x2,i3,rfl,hx2,hi3,rfl⟩,rfl,rfl⟩
 show G prog κ _ _ _ _ ([(8,e7 x2),(7,.pointer (some ⟨b,0,none⟩)),(4,.pointer (some ⟨b1,0,none⟩)),(0,.pointer (some ⟨b,0,none⟩)),(1,e7 nodes)]:Env) (e8 b1 [e7 0,e7 0,e7 0,.slice none 0 0,e7 0,e7 0] 42::e8 b [lv,e7 i3] 125::I)
 refine Gr (Rad C C) (Gr (Bf (cells:=[_,_,_,_,_,_]) ty42 Tryz.underlying42 pl42 C C) (Ge1 (A8 ty42 C) λb4=>Ge0 (C5 ty42) ?_))
 refine Af (Ah (Gm C (Gr (D2 C C) ?_)))
 have hmx:(if 1<nodes then nodes else 1)=nodes:=by split<;>omega
 rw [hmx]
 refine Ga C (Af (Au (Ah (Gf fld42_0 C (Gl ef ?_)))))
 refine Af (Aq (S5 14 6 5 4 0 C C C C C) (A4 (Ah (Gr (Bi C C) (Ga C (Af (A6 C (λc15=>?_) (λc15=>?_))))))))
 ·refine Ax (Gm C (Gm C (G.e (Ao call19 C C (Next_ok (by repeat (first|exact AtF.head _ _|apply AtF.tail)) (B5 (hl _) A0) om om)) ?_)))
  rintro _ _ ⟨_,_,⟨x5,i6,rfl,hx5,hi6,rfl⟩,rfl,rfl⟩
  show G prog κ _ _ _ _ ([(19,e7 x5),(18,e7 nodes),(17,.pointer (some ⟨b,0,none⟩)),(15,.bool (decide ((1+x2)=1))),(16,.bool (decide ((1+x2)=1))),(14,e7 (1+x2)),(6,e7 nodes),(5,.pointer (some ⟨b4,0,none⟩)),(4,.pointer (some ⟨b1,0,none⟩)),(0,.pointer (some ⟨b,0,none⟩))]:Env) (e8 b4 [e7 (1+x2),e7 0,e7 0,.slice none 0 0,e7 0,e7 0] 42::e8 b1 [e7 0,e7 0,e7 0,.slice none 0 0,e7 0,e7 0] 42::e8 b [lv,e7 i6] 125::I)
  refine Gm C (G.e (Ao call19 C C (Next_ok (by repeat (first|exact AtF.head _ _|apply AtF.tail)) (B5 (hl _) A0) om om)) ?_)
  rintro _ _ ⟨_,_,⟨x7,i8,rfl,hx7,hi8,rfl⟩,rfl,rfl⟩
  show G prog κ _ _ _ _ ([(21,e7 x7),(20,.pointer (some ⟨b,0,none⟩)),(19,e7 x5),(18,e7 nodes),(17,.pointer (some ⟨b,0,none⟩)),(15,.bool (decide ((1+x2)=1))),(16,.bool (decide ((1+x2)=1))),(14,e7 (1+x2)),(6,e7 nodes),(5,.pointer (some ⟨b4,0,none⟩)),(4,.pointer (some ⟨b1,0,none⟩)),(0,.pointer (some ⟨b,0,none⟩))]:Env) (e8 b4 [e7 (1+x2),e7 0,e7 0,.slice none 0 0,e7 0,e7 0] 42::e8 b1 [e7 0,e7 0,e7 0,.slice none 0 0,e7 0,e7 0] 42::e8 b [lv,e7 i8] 125::I)
  refine Gf fld42_1 C (Ge0 (Es6_1 ef) ?_)
  refine Gf fld42_2 C (Ge0 (Es6_1 ef) ?_)
  refine Bd (Ak (Aj (Aq (S2 5 4 C C) (Ah (Gl6 ty42 ?_)))))
  refine Ge0 (C5 ty42) ?_
  exact Af (Aw (Db C ty42 C mm C (vc 3 (.slice none ([]:List Int).length 0) ([]:List Int)::e8 b [lv,e7 i8] 125::I) (Cc (Bt (α:=Int) _ _) A5) ⟨((⟨1+x2,x5,x7,none,0,[],0,0⟩:AlV),i8),⟨⟨rfl,(by first|exact al1e c15 C C om om _ _|exact al2e c24 asm _ _|exact al4e c38 om _ _),by show x7<=3/\0<=5;omega⟩,by show 0<=i8;omega⟩,rfl⟩))
 ·refine Ah (Gr (Bi C C) (Ga C (Af (A6 C (λc24=>?_) (λc24=>?_)))))
  ·refine Ax (Gm C (G.e (Ao call46 C C (MkFrac_at (by repeat (first|exact AtF.head _ _|apply AtF.tail)) (λ_=>B5 (hl _) A0) om  )) ?_))
   rintro _ _ ⟨_,_,⟨⟨nu9,de10,i11⟩,⟨⟨rfl,hfnu9,hfnnu9⟩,hi11⟩,rfl⟩,rfl,rfl⟩
   show G prog κ _ _ _ _ ([(27,.agg #[e7 nu9,e7 de10]),(26,.pointer (some ⟨b,0,none⟩)),(24,.bool (decide ((1+x2)=2))),(25,.bool (decide ((1+x2)=2))),(15,.bool (decide ((1+x2)=1))),(16,.bool (decide ((1+x2)=1))),(14,e7 (1+x2)),(6,e7 nodes),(5,.pointer (some ⟨b4,0,none⟩)),(4,.pointer (some ⟨b1,0,none⟩)),(0,.pointer (some ⟨b,0,none⟩))]:Env) (e8 b4 [e7 (1+x2),e7 0,e7 0,.slice none 0 0,e7 0,e7 0] 42::e8 b1 [e7 0,e7 0,e7 0,.slice none 0 0,e7 0,e7 0] 42::e8 b [lv,e7 i11] 125::I)
   have hi11:0<=i11:=hi11
   dsimp only at hfnu9
   dsimp only at hfnnu9
   refine Gf fld42_4 C (Ge0 (Eff.st (cs:=[_,_,_,_,_,_]) (vs:=[_,_]) (cs':=[_,_,_,_,_,_]) ty40) ?_)
   refine Bd (Ak (Aj (Ah (Gl6 ty42 ?_))))
   refine Ge0 (C5 ty42) ?_
   exact Af (Aw (Db C ty42 C mm C (vc 3 (.slice none ([]:List Int).length 0) ([]:List Int)::e8 b [lv,e7 i11] 125::I) (Cc (Bt (α:=Int) _ _) A5) ⟨((⟨1+x2,0,0,none,0,[],nu9,de10⟩:AlV),i11),⟨⟨rfl,(by first|exact al1e c15 C C om om _ _|exact al2e c24 asm _ _|exact al4e c38 om _ _),by show 0<=3/\nu9<=5;omega⟩,by show 0<=i11;omega⟩,rfl⟩))
  ·refine Ah (Gr (Bi C C) (Ga C (Af (A6 C (λc29=>?_) (λc29=>?_)))))
   ·refine Ax (Gm C (Gm C (G.e (Ao call49 C C (MkSome_at (by repeat (first|exact AtF.head _ _|apply AtF.tail)) (λ_=>B5 (hl _) A0) om  om)) ?_)))
    rintro _ _ ⟨_,_,⟨⟨ad12,cp13,sx14,i15⟩,⟨⟨rfl,hvsx14,hlsx14⟩,hi15⟩,rfl⟩,rfl,rfl⟩
    show G prog κ _ _ _ _ ([(33,.slice ad12 sx14.length cp13),(32,e7 nodes),(31,.pointer (some ⟨b,0,none⟩)),(29,.bool (decide ((1+x2)=3))),(30,.bool (decide ((1+x2)=3))),(24,.bool (decide ((1+x2)=2))),(25,.bool (decide ((1+x2)=2))),(15,.bool (decide ((1+x2)=1))),(16,.bool (decide ((1+x2)=1))),(14,e7 (1+x2)),(6,e7 nodes),(5,.pointer (some ⟨b4,0,none⟩)),(4,.pointer (some ⟨b1,0,none⟩)),(0,.pointer (some ⟨b,0,none⟩))]:Env) (vc 3 (.slice ad12 sx14.length cp13) (sx14)::e8 b4 [e7 (1+x2),e7 0,e7 0,.slice none 0 0,e7 0,e7 0] 42::e8 b1 [e7 0,e7 0,e7 0,.slice none 0 0,e7 0,e7 0] 42::e8 b [lv,e7 i15] 125::I)
    have hi15:0<=i15:=hi15
    dsimp only at hvsx14
    dsimp only at hlsx14
    refine Gm C (G.e (Ao call46 C C (MkFrac_at (by repeat (first|exact AtF.head _ _|apply AtF.tail)) (λ_=>B5 (hl _) A0) om  )) ?_)
    rintro _ _ ⟨_,_,⟨⟨nu16,de17,i18⟩,⟨⟨rfl,hfnu16,hfnnu16⟩,hi18⟩,rfl⟩,rfl,rfl⟩
    show G prog κ _ _ _ _ ([(35,.agg #[e7 nu16,e7 de17]),(34,.pointer (some ⟨b,0,none⟩)),(33,.slice ad12 sx14.length cp13),(32,e7 nodes),(31,.pointer (some ⟨b,0,none⟩)),(29,.bool (decide ((1+x2)=3))),(30,.bool (decide ((1+x2)=3))),(24,.bool (decide ((1+x2)=2))),(25,.bool (decide ((1+x2)=2))),(15,.bool (decide ((1+x2)=1))),(16,.bool (decide ((1+x2)=1))),(14,e7 (1+x2)),(6,e7 nodes),(5,.pointer (some ⟨b4,0,none⟩)),(4,.pointer (some ⟨b1,0,none⟩)),(0,.pointer (some ⟨b,0,none⟩))]:Env) (vc 3 (.slice ad12 sx14.length cp13) (sx14)::e8 b4 [e7 (1+x2),e7 0,e7 0,.slice none 0 0,e7 0,e7 0] 42::e8 b1 [e7 0,e7 0,e7 0,.slice none 0 0,e7 0,e7 0] 42::e8 b [lv,e7 i18] 125::I)
    have hi18:0<=i18:=hi18
    dsimp only at hfnu16
    dsimp only at hfnnu16
    refine Gf fld42_3 C (Ge0 (Es6_1 ty22) ?_)
    refine Gf fld42_4 C (Ge0 (Eff.st (cs:=[_,_,_,_,_,_]) (vs:=[_,_]) (cs':=[_,_,_,_,_,_]) ty40) ?_)
    refine Bd (Ak (Aj (Aq (S2 5 4 C C) (Ah (Gl6 ty42 ?_)))))
    refine Ge0 (C5 ty42) ?_
    exact Af (Aw (Db C ty42 C mm C (vc 3 (.slice ad12 sx14.length cp13) (sx14)::e8 b [lv,e7 i18] 125::I) A5 ⟨((⟨1+x2,0,0,ad12,cp13,sx14,nu16,de17⟩:AlV),i18),⟨⟨rfl,(by first|exact al3e c29 hlsx14 hn.2 hvsx14 asm _ _|exact al5e c43 hlsx14 hn.2 hvsx14 om _ _),by show 0<=3/\nu16<=5;omega⟩,by show 0<=i18;omega⟩,rfl⟩))
   ·refine Ah (Gr (Bi C C) (Ga C (Af (A6 C (λc38=>?_) (λc38=>?_)))))
    ·refine Ax (Gm C (G.e (Ao call19 C C (Next_ok (by repeat (first|exact AtF.head _ _|apply AtF.tail)) (B5 (hl _) A0) om om)) ?_))
     rintro _ _ ⟨_,_,⟨x19,i20,rfl,hx19,hi20,rfl⟩,rfl,rfl⟩
     show G prog κ _ _ _ _ ([(41,e7 x19),(40,.pointer (some ⟨b,0,none⟩)),(38,.bool (decide ((1+x2)=4))),(39,.bool (decide ((1+x2)=4))),(29,.bool (decide ((1+x2)=3))),(30,.bool (decide ((1+x2)=3))),(24,.bool (decide ((1+x2)=2))),(25,.bool (decide ((1+x2)=2))),(15,.bool (decide ((1+x2)=1))),(16,.bool (decide ((1+x2)=1))),(14,e7 (1+x2)),(6,e7 nodes),(5,.pointer (some ⟨b4,0,none⟩)),(4,.pointer (some ⟨b1,0,none⟩)),(0,.pointer (some ⟨b,0,none⟩))]:Env) (e8 b4 [e7 (1+x2),e7 0,e7 0,.slice none 0 0,e7 0,e7 0] 42::e8 b1 [e7 0,e7 0,e7 0,.slice none 0 0,e7 0,e7 0] 42::e8 b [lv,e7 i20] 125::I)
     refine Gf fld42_2 C (Ge0 (Es6_1 ef) ?_)
     refine Bd (Ak (Aj (Aq (S2 5 4 C C) (Ah (Gl6 ty42 ?_)))))
     refine Ge0 (C5 ty42) ?_
     exact Af (Aw (Db C ty42 C mm C (vc 3 (.slice none ([]:List Int).length 0) ([]:List Int)::e8 b [lv,e7 i20] 125::I) (Cc (Bt (α:=Int) _ _) A5) ⟨((⟨1+x2,0,x19,none,0,[],0,0⟩:AlV),i20),⟨⟨rfl,(by first|exact al1e c15 C C om om _ _|exact al2e c24 asm _ _|exact al4e c38 om _ _),by show x19<=3/\0<=5;omega⟩,by show 0<=i20;omega⟩,rfl⟩))
    ·refine Ah (Gr (Bi C C) (Ga C (Af (Aq (S5 43 6 5 4 0 C C C C C) (A6 C (λc43=>?_) (λc43=>?_))))))
     ·refine Ax (Gm C (Gm C (G.e (Ao call49 C C (MkSome_at (by repeat (first|exact AtF.head _ _|apply AtF.tail)) (λ_=>B5 (hl _) A0) om  om)) ?_)))
      rintro _ _ ⟨_,_,⟨⟨ad21,cp22,sx23,i24⟩,⟨⟨rfl,hvsx23,hlsx23⟩,hi24⟩,rfl⟩,rfl,rfl⟩
      show G prog κ _ _ _ _ ([(47,.slice ad21 sx23.length cp22),(46,e7 nodes),(45,.pointer (some ⟨b,0,none⟩)),(43,.bool (decide ((1+x2)=5))),(6,e7 nodes),(5,.pointer (some ⟨b4,0,none⟩)),(4,.pointer (some ⟨b1,0,none⟩)),(0,.pointer (some ⟨b,0,none⟩))]:Env) (vc 3 (.slice ad21 sx23.length cp22) (sx23)::e8 b4 [e7 (1+x2),e7 0,e7 0,.slice none 0 0,e7 0,e7 0] 42::e8 b1 [e7 0,e7 0,e7 0,.slice none 0 0,e7 0,e7 0] 42::e8 b [lv,e7 i24] 125::I)
      have hi24:0<=i24:=hi24
      dsimp only at hvsx23
      dsimp only at hlsx23
      refine Gm C (G.e (Ao call19 C C (Next_ok (by repeat (first|exact AtF.head _ _|apply AtF.tail)) (B5 (hl _) A0) om om)) ?_)
      rintro _ _ ⟨_,_,⟨x25,i26,rfl,hx25,hi26,rfl⟩,rfl,rfl⟩
      show G prog κ _ _ _ _ ([(49,e7 x25),(48,.pointer (some ⟨b,0,none⟩)),(47,.slice ad21 sx23.length cp22),(46,e7 nodes),(45,.pointer (some ⟨b,0,none⟩)),(43,.bool (decide ((1+x2)=5))),(6,e7 nodes),(5,.pointer (some ⟨b4,0,none⟩)),(4,.pointer (some ⟨b1,0,none⟩)),(0,.pointer (some ⟨b,0,none⟩))]:Env) (vc 3 (.slice ad21 sx23.length cp22) (sx23)::e8 b4 [e7 (1+x2),e7 0,e7 0,.slice none 0 0,e7 0,e7 0] 42::e8 b1 [e7 0,e7 0,e7 0,.slice none 0 0,e7 0,e7 0] 42::e8 b [lv,e7 i26] 125::I)
      refine Gf fld42_3 C (Ge0 (Es6_1 ty22) ?_)
      refine Gf fld42_2 C (Ge0 (Es6_1 ef) ?_)
      refine Bd (Ak (Aj (Ah (Gl6 ty42 ?_))))
      refine Ge0 (C5 ty42) ?_
      exact Af (Aw (Db C ty42 C mm C (vc 3 (.slice ad21 sx23.length cp22) (sx23)::e8 b [lv,e7 i26] 125::I) A5 ⟨((⟨1+x2,0,x25,ad21,cp22,sx23,0,0⟩:AlV),i26),⟨⟨rfl,(by first|exact al3e c29 hlsx23 hn.2 hvsx23 asm _ _|exact al5e c43 hlsx23 hn.2 hvsx23 om _ _),by show x25<=3/\0<=5;omega⟩,by show 0<=i26;omega⟩,rfl⟩))
     ·omega
theorem MkAlarm_at{F:Item->List Item}{b:Nat}{lv:Value}{ls:List Int}{i:Int}{nodes:Int}(hat:AtF I (deck b lv i) F)(hl:∀q,Sl κ (F (deck b lv q)) lv ls)(h0:0<=i)(hn:1<=nodes/\nodes<=64):ep prog κ 26 [.pointer (some ⟨b,0,none⟩),e7 nodes] I λr J=>∃y:AlV×Int,((r = .agg #[e7 y.1.kd,e7 y.1.no,e7 y.1.lv,.slice y.1.a y.1.xs.length y.1.c,e7 y.1.num,e7 y.1.den]/\AlOk nodes y.1/\(y.1.lv<=3/\y.1.num<=5))/\0<=y.2)/\J=[vc 3 (.slice y.1.a y.1.xs.length y.1.c) y.1.xs]++F (deck b lv y.2):=
 D4 (Post:=λr (y:AlV×Int)=>(r = .agg #[e7 y.1.kd,e7 y.1.no,e7 y.1.lv,.slice y.1.a y.1.xs.length y.1.c,e7 y.1.num,e7 y.1.den]/\AlOk nodes y.1/\(y.1.lv<=3/\y.1.num<=5))/\0<=y.2) (Z:=λy:AlV×Int=>[vc 3 (.slice y.1.a y.1.xs.length y.1.c) y.1.xs]) (X:=λy:AlV×Int=>deck b lv y.2) hat λJ _ hF=>MkAlarm_base (λq=>(hl q).fit (hF _)) h0  hn
section
variable {n nd d:Int}{es:List Pt}{x:AlV}
end
theorem AHolds_ok{κ:Ctx}{I:List Item}{nd:Int}{ea:Option Addr}{ec:Nat}{es:List Pt}{x:AlV}(hl:Sl κ I (.slice ea es.length ec) es)(hs:Sl κ I (.slice x.a x.xs.length x.c) x.xs)(hG:GrOk nd es)(hok:AlOk nd x)(hT:TabRd κ I 0 tzCells):ep prog κ 29 [.agg #[e7 nd,.slice ea es.length ec],.agg #[e7 (x.kd),e7 (x.no),e7 (x.lv),.slice x.a x.xs.length x.c,e7 (x.num),e7 (x.den)]] I (λr J=>r = .tuple #[.bool (holdV nd es x),e7 0]/\I=J):=by
 refine Ce2 Tryz.func29 C C ?_
 refine Ah (Ge1 (Bc (cs:=[_,_]) C C C) λb1=>Ge1 (Bc (cs:=[_,_,_,_,_,_]) C C C) λb2=>Ga C (Ga C (Af (Au (Ah (Gl2 ty48 ?_))))))
 refine Gc0 (Ao call83 C C (CheckGen_ok (Bh hl))) ?_
 refine Ga C (Af (Ah (Gm C (Gr (Be C C) (Af (A6 C (λc11=>?_) (λc11=>?_)))))))
 ·exact absurd (checkG_ok.2 hG) c11
 ·refine Ay (Aj (Au (Ah (Gl6 ty42 ?_))))
  refine Gf fld48_0 C (Gl ef ?_)
  refine G.e (Ao call37 C C (CheckAny_ok (x:=x) (Bh hs) hok)) ?_
  rintro _ _ ⟨_,_,⟨rfl,rfl⟩,rfl,rfl⟩
  refine Ga C (Af (Aq (S3 7 3 2 C C C) (Ah (Gm C (Gr (Be C C) (Af (A6 C (λc18=>?_) (λc18=>?_))))))))
  ·exact absurd rfl c18
  ·refine Ay (Aj (Au (Bl mixed (Br (e8 b2 [e7 (x.kd),e7 (x.no),e7 (x.lv),.slice x.a x.xs.length x.c,e7 (x.num),e7 (x.den)] 42::e8 b1 [e7 nd,.slice ea es.length ec] 48::I) 9 (Dr 0 C (Ab fld42_0 C) (Dr 1 C (As ef) ?_))))))
   refine Dr 4 C (Bq (vs:=[_,_]) ty48) ?_
   refine Dr 5 C (Bq (vs:=[_,_,_,_,_,_]) ty42) ?_
   refine Ds1 2 (Se C (Ao call81 C C (OfAny_ok hok.kind)) ?_)
   rintro _ _ ⟨_,_,⟨rfl,rfl⟩,rfl,rfl⟩
   refine ⟨A5,?_⟩
   refine Dr 3 C (Runs.fieldV (λw=>fieldK _ _ _ _ _ w) C) ?_
   refine Ds1 6 (Se C (Ct (fK_call hok.kind) (first:=[]) (caps:=[]) C C C (HoldAny_ok (x:=x) (Bh hl) (Bh hs) hG hok (Cg hT A0))) ?_)
   rintro _ _ ⟨_,_,⟨rfl,rfl⟩,rfl,rfl⟩
   refine ⟨A5,?_⟩
   exact Dr 7 C (Bb C) (Dr 8 C (Bb C) (Dz (Aj (Aq (S2 5 4 C C) (Aw (Co C C C I A0 ⟨rfl,rfl⟩))))))
end Go.Sl
