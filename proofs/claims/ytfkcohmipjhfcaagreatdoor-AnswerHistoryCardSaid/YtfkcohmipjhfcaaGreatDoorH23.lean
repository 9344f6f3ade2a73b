/- A part of the proofs of statements of this seat: contracts of functions, and the plain laws that they lean on. No conditions. -/
import Derived.Test.YtfkcohmipjhfcaaGreatDoorH22
set_option linter.unusedVariables false
set_option linter.unusedSimpArgs false
set_option linter.unusedSectionVars false
namespace Go.Sl
open Go.Proofs
set_option maxRecDepth 4000
def timesR(kd wd mo:Int)(es:List Ev):List Int:=ofL ((slideS kd wd mo es).2.map Ev.tm++(lateL kd wd (linksL (slideS kd wd mo es).2)).map Ev.tm)
theorem late_none{kd wd:Int}{xs:List Lk}(h:¬kd=2):lateL kd wd xs=[]:=by
 unfold lateL
 rw [List.filter_eq_nil_iff.2 fun x _ hx=>by unfold lateP at hx;exact h (of_decide_eq_true hx).1]
 rfl
theorem mem_times{kd wd mo t:Int}{es:List Ev}:t∈timesR kd wd mo es↔∃e∈allE kd wd mo es,e.tm=t:=by
 unfold timesR allE
 rw [mem_ofL,List.mem_append,List.mem_map,List.mem_map]
 constructor
 ·rintro (⟨e,h1,h2⟩|⟨e,h1,h2⟩)
  ·exact ⟨e,List.mem_append_left _ h1,h2⟩
  ·exact ⟨e,List.mem_append_right _ ((Ee _ _).mem_iff.2 h1),h2⟩
 ·rintro ⟨e,h1,h2⟩
  rcases List.mem_append.1 h1 with h1|h1
  ·exact .inl ⟨e,h1,h2⟩
  ·exact .inr ⟨e,(Ee _ _).mem_iff.1 h1,h2⟩
theorem timesR_rng{nd kd wd mo:Int}{es:List Ev}(hH:HistOk nd kd wd mo es):∀t∈timesR kd wd mo es,0≤t∧t≤1048576:=fun t ht=>by
 obtain ⟨e,he,rfl⟩:=mem_times.1 ht
 exact (hH.allFit e he).tm
theorem timesR_len{nd kd wd mo:Int}{es:List Ev}(hH:HistOk nd kd wd mo es)(hlen:es.length≤19):(timesR kd wd mo es).length≤57:=by
 have h2:=hH.len2
 have h3:=hH.len
 have h4:=lateL_len kd wd (linksL (slideS kd wd mo es).2)
 have h1:=ofL_len ((slideS kd wd mo es).2.map Ev.tm++(lateL kd wd (linksL (slideS kd wd mo es).2)).map Ev.tm)
 rw [List.length_append,List.length_map,List.length_map] at h1
 unfold timesR
 omega
set_option maxHeartbeats 2000000 in
theorem Times43_ok{κ:Ctx}{I:List Item}{nd kd wd mo:Int}{ea:Option Addr}{ec:Nat}{es:List Ev}(hl:Sl κ I (.slice ea es.length ec) es)(hH:HistOk nd kd wd mo es)(hlen:es.length≤19) :
    CallS Tryz.prog κ 39 [I64 (nd),.slice ea es.length ec,.agg #[I64 (kd),I64 (wd),I64 (mo)]] I (fun r J=>∃a c,r = .slice a (timesR kd wd mo es).length c∧J=vc 3 (.slice a (timesR kd wd mo es).length c) (timesR kd wd mo es)::I):=by
 refine Ce3 Tryz.func39 rfl rfl ?_
 refine Ai (Ge1 (Bd (cs:=[_,_,_]) rfl rfl rfl) fun b1=>Ga rfl (Af (Ai (Ga rfl (Af (Ai (Gm rfl (Gr (Bl (cells:=[_,_]) ty111 Dx pl111 rfl rfl) (Ge1 (A8 ty111 rfl) fun b2=>Ge0 (Ce ty111) ?_)))))))))
 refine Af (Ai (Gm rfl (Gm rfl (Gl3 ty31 ?_))))
 refine Gc2 (Ap call93 rfl rfl (Slide7_hist (nd:=nd) (kd:=kd) (wd:=wd) (mo:=mo) (es:=es) (Bj hl) hH)) fun ad3 cp4=>?_
 refine Gm rfl (Gr (A2 rfl rfl) (Gr (A2 rfl rfl) (Ga rfl (Ga rfl ?_))))
 generalize hSE:(slideS kd wd mo es).2=SE
 have hfS:∀e∈SE,FitOk nd e:=by rw [←hSE];exact hH.fit
 have hSl:SE.length≤38:=by rw [←hSE];have:=hH.len2;omega
 have hlS:(linksL SE).length≤19:=by rw [←hSE];have:=hH.len;omega
 refine Af (Ar (S4 9 8 7 5 rfl rfl rfl rfl) (Au (Ai (Ga rfl (Af (A4 (Bv (σ:=Nat×(Option Addr)×Nat×(Option Addr)×Nat×(List Int)) (fun s=>([(5,.pointer (some ⟨b1,0,none⟩)),(7,.slice s.2.2.2.1 s.2.2.2.2.2.length s.2.2.2.2.1),(8,.pointer (some ⟨b2,0,none⟩)),(9,.slice ad3 (SE).length cp4),(11,I64 (((s.1:Nat):Int)))]:Env)) (fun s=>vc 146 (.slice s.2.1 (linksL (SE.take s.1)).length s.2.2.1) (linksL (SE.take s.1))::vc 3 (.slice s.2.2.2.1 s.2.2.2.2.2.length s.2.2.2.2.1) (s.2.2.2.2.2)::vc 108 (.slice ad3 (SE).length cp4) (SE)::blk b2 [I64 (nd),.slice s.2.1 (linksL (SE.take s.1)).length s.2.2.1] 111::blk b1 [I64 (kd),I64 (wd),I64 (mo)] 31::I) (fun s=>(s.1≤SE.length)∧(s.2.2.2.2.2=(SE.take s.1).map Ev.tm)) (fun s=>SE.length - s.1) (0,none,0,none,0,[]) (show ((0:Nat)≤SE.length)∧(([]:List Int)=(SE.take (0:Nat)).map Ev.tm) from ⟨om,rfl⟩) (Aa rfl (Aa (Cp rfl (by first|rfl|simp)) (Aa rfl (Aa rfl (Aa B8 Bg))))) (show Fit κ _ (vc 146 (.slice (none) (linksL (SE.take (0))).length (0)) (linksL (SE.take (0)))::vc 3 (.slice (none) ([]).length (0)) (([]))::vc 108 (.slice ad3 (SE).length cp4) (SE)::blk b2 [I64 (nd),.slice (none) (linksL (SE.take (0))).length (0)] 111::blk b1 [I64 (kd),I64 (wd),I64 (mo)] 31::I) from (Cg (Bw (α:=Int) 3 _) (Cg (Bw (α:=Lk) 146 _) Bt))) ?_)))))))
 rintro ⟨k,a,c,oa,oc,out⟩ hp
 dsimp only at hp ⊢
 obtain ⟨hk,ho⟩:=hp
 have hol:out.length=k:=by rw [ho,List.length_map,List.length_take];omega
 refine Au (Ai (Gm rfl (Gm rfl (Gr (Bp A1 rfl) (Gr (A9 rfl rfl) (Af (A7 rfl (fun c26=>?_) (fun c26=>?_))))))))
 ·refine Aw (Aj (Au (A4 (Ai (Gm rfl (Gm rfl (Gm rfl (Gr (A3 (α:=Ev) (xs:=SE) A1 ty108 rfl rfl Bf om om) (Gr (C0 (α:=Ev) (xs:=SE) fld108_1 rfl Bf om) (Gr (C1 (α:=Ev) (xs:=SE) (u:=I64 ((at_ SE (k:Int)).tm)) ty3 rfl Bf om om rfl) (Ge1 (B1 (α:=Int) (cs:=[_]) (xs:=[(at_ SE (k:Int)).tm]) Ac ty3 rfl rfl dc dc rfl rfl rfl rfl) fun ad5=>?_)))))))))))
  refine Ge2 (B0 (α:=Int) (e:=3) (xs:=out) (ys:=([(at_ SE (k:Int)).tm]:List Int)) Ac ty3 rfl rfl rfl mm Bf lcn dc rfl (fun _ _=>am)) fun ad6 cp7=>?_
  refine Ga rfl (Af (Ar (S5 7 5 8 9 11 rfl rfl rfl rfl rfl) (Bk mixed (Bo (vc 3 (.slice ad5 1 1) (([(at_ SE (k:Int)).tm]:List Int))::vc 146 (.slice a (linksL (SE.take k)).length c) (linksL (SE.take k))::vc 3 (.slice ad6 (out++([(at_ SE (k:Int)).tm]:List Int)).length cp7) (out++([(at_ SE (k:Int)).tm]:List Int))::vc 108 (.slice ad3 (SE).length cp4) (SE)::blk b1 [I64 (kd),I64 (wd),I64 (mo)] 31::I) 11 (Dr 1 rfl (Ad rfl) (Dr 2 rfl (Ad rfl) (Dr 3 rfl (A3 (α:=Ev) (xs:=SE) A1 ty108 rfl rfl Bf om om) (Dr 4 rfl (Bu (α:=Ev) (xs:=SE) ty108 rfl Bf om om) (Ds1 0 (Sr rfl (Bq (vs:=[_,_]) ty111) A5 ?_))))))))))
  refine Ds1 5 (Se rfl (Ap call94 rfl rfl (Apply5_ok (nd:=nd) (e:=(at_ SE (k:Int))) Bf (links_val hH.st.nodes hfS k) (hfS _ (Cf om om)) (by have:=links_len (links_val hH.st.nodes hfS k);omega))) ?_)
  rintro _ _ ⟨_,_,⟨⟨ad8,cp9,ad10,nn11,cp12⟩,⟨rfl,hnn11⟩,rfl⟩,rfl,rfl⟩
  refine ⟨A5,?_⟩
  show D Tryz.prog κ _ _ _ _ _ _ _ ([(43,.tuple #[.agg #[I64 (nd),.slice ad8 (stepL (linksL (SE.take k)) (at_ SE (k:Int))).length cp9],.slice ad10 nn11 cp12,I64 (0)]),(38,.agg #[I64 (nd),.slice a (linksL (SE.take k)).length c]),(42,.agg #[I64 ((at_ SE (k:Int)).kd),I64 ((at_ SE (k:Int)).tm),I64 ((at_ SE (k:Int)).u),I64 ((at_ SE (k:Int)).v),I64 ((at_ SE (k:Int)).w),I64 ((at_ SE (k:Int)).lb),I64 ((at_ SE (k:Int)).sg)]),(41,elemPtr (.slice ad3 (SE).length cp4) (((k:Int)).toNat*Enc.sz Ev)),(40,I64 ((k:Int))),(39,.slice ad3 (SE).length cp4),(7,.slice ad6 (out++([(at_ SE (k:Int)).tm]:List Int)).length cp7),(5,.pointer (some ⟨b1,0,none⟩)),(8,.pointer (some ⟨b2,0,none⟩)),(9,.slice ad3 (SE).length cp4),(11,I64 ((k:Int)))]:Env) (vc 146 (.slice ad8 (stepL (linksL (SE.take k)) (at_ SE (k:Int))).length cp9) (stepL (linksL (SE.take k)) (at_ SE (k:Int)))::vc 3 (.slice ad5 1 1) (([(at_ SE (k:Int)).tm]:List Int))::vc 146 (.slice a (linksL (SE.take k)).length c) (linksL (SE.take k))::vc 3 (.slice ad6 (out++([(at_ SE (k:Int)).tm]:List Int)).length cp7) (out++([(at_ SE (k:Int)).tm]:List Int))::vc 108 (.slice ad3 (SE).length cp4) (SE)::blk b2 [I64 (nd),.slice a (linksL (SE.take k)).length c] 111::blk b1 [I64 (kd),I64 (wd),I64 (mo)] 31::I)
  have hnn11:nn11≤2*(linksL (SE.take k)).length+1:=hnn11
  refine Dr 6 rfl (Ad rfl) (Dr 7 rfl (A2 rfl rfl) (Dr 8 rfl (A2 rfl rfl) (Dr 9 rfl (A2 rfl rfl) (Ds1 10 (Se0 rfl (Ce ty111) ?_)))))
  exact Dz (Ak (Aj (Ar (S5 7 5 8 9 11 rfl rfl rfl rfl rfl) (Az (Gm rfl (Gr (Rad rfl rfl) (Ga rfl (Bc (B3 ((k+1),(ad8),(cp9),(ad6),(cp7),(out++([(at_ SE (k:Int)).tm]:List Int))) (by dsimp only;exact ⟨om,(by rw [ho,Cz SE k om,List.map_append];rfl)⟩) (hI:=by (try dsimp only);exact (by rw [linksL_take om];exact Bt)))))))))))
 ·refine Bs (Am (Am (A6 (Aj (Au (Ai (Ga rfl ?_)))))))
  have hfull:SE.take k=SE:=List.take_of_length_le om
  rw [hfull] at ho ⊢
  have hvL:checkS nd (linksL SE)=0:=by have:=links_val hH.st.nodes hfS k;rwa [hfull] at this
  refine Af (A4 (Bv (σ:=Nat×(Option Addr)×Nat×(List Int)) (fun s=>([(5,.pointer (some ⟨b1,0,none⟩)),(7,.slice s.2.1 s.2.2.2.length s.2.2.1),(8,.pointer (some ⟨b2,0,none⟩)),(12,I64 (((s.1:Nat):Int)))]:Env)) (fun s=>vc 146 (.slice a (linksL (SE)).length c) (linksL (SE))::vc 3 (.slice s.2.1 s.2.2.2.length s.2.2.1) (s.2.2.2)::vc 108 (.slice ad3 (SE).length cp4) (SE)::blk b2 [I64 (nd),.slice a (linksL (SE)).length c] 111::blk b1 [I64 (kd),I64 (wd),I64 (mo)] 31::I) (fun s=>(s.1≤(linksL SE).length)∧(s.2.2.2=SE.map Ev.tm++(lateL kd wd ((linksL SE).take s.1)).map Ev.tm)) (fun s=>(linksL SE).length - s.1) (0,oa,oc,out) (show ((0:Nat)≤(linksL SE).length)∧((out:List Int)=SE.map Ev.tm++(lateL kd wd ((linksL SE).take (0:Nat))).map Ev.tm) from ⟨om,(by rw [ho];simp [lateL])⟩) (Aa rfl (Aa (Cp rfl (by first|rfl|simp)) (Aa rfl (Aa B8 Bg)))) (show Fit κ _ (vc 146 (.slice a (linksL (SE)).length c) (linksL (SE))::vc 3 (.slice (oa) (out).length (oc)) ((out))::vc 108 (.slice ad3 (SE).length cp4) (SE)::blk b2 [I64 (nd),.slice a (linksL (SE)).length c] 111::blk b1 [I64 (kd),I64 (wd),I64 (mo)] 31::I) from A5) ?_))
  rintro ⟨k2,oa2,oc2,out2⟩ hp
  dsimp only at hp ⊢
  obtain ⟨hk2,ho2⟩:=hp
  have hol2:out2.length≤SE.length+k2:=by rw [ho2,List.length_append,List.length_map,List.length_map];have h1:=lateL_len kd wd ((linksL SE).take k2);rw [List.length_take] at h1;omega
  have hww:=checkW_wd hH.win
  refine Au (Ai (Gf fld31_0 rfl (Gl ty3 ?_)))
  refine Gr (Bi rfl rfl) (Gm rfl (Bb (d:=50) rfl (fun g50=>?_) (fun g50=>?_)))
  ·refine Gro (Ad rfl) (Gro (Ab fld111_1 rfl) (Gro (As ty109) ?_))
   refine Gro (Bp Aq rfl) (Gro (A9 rfl rfl) (Gr (Ao rfl rfl) (Af (Ar (S5 56 5 7 8 12 rfl rfl rfl rfl rfl) (A7 rfl (fun c56=>?_) (fun c56=>?_))))))
   ·refine Aw (Aj (Au (A4 (Au (Bk mixed (Bo (vc 146 (.slice a (linksL (SE)).length c) (linksL (SE))::vc 3 (.slice oa2 out2.length oc2) (out2)::vc 108 (.slice ad3 (SE).length cp4) (SE)::blk b2 [I64 (nd),.slice a (linksL (SE)).length c] 111::blk b1 [I64 (kd),I64 (wd),I64 (mo)] 31::I) 10 (Dr 0 rfl (Ab fld111_1 rfl) ?_)))))))
    have htk:=checkS_tm hvL (k2:Int) om om
    refine Dr 1 rfl (As ty109) ?_
    refine Dr 2 rfl (Ad rfl) (Dr 3 rfl (A3 (α:=Lk) (xs:=linksL (SE)) Aq ty146 rfl rfl Bf om om) (Dr 4 rfl (C0 (α:=Lk) (xs:=linksL (SE)) fld146_5 rfl Bf om) (Dr 5 rfl (C1 (α:=Lk) (xs:=linksL (SE)) (u:=I64 ((at_ (linksL (SE)) (k2:Int)).tm)) ty3 rfl Bf om om rfl) (Dr 6 rfl (Ab fld31_1 rfl) (Dr 7 rfl (As ty3) ?_)))))
    refine Dr 8 rfl (Rad rfl rfl) (Dr 9 rfl (Ba rfl) (Dz (Aj (Ar (S5 13 5 7 8 12 rfl rfl rfl rfl rfl) (Ai (Gm rfl (Gr (Dt rfl rfl) (Af (A7 rfl (fun c69=>?_) (fun c69=>?_))))))))))
    ·refine Az (Gm rfl (Gm rfl (Ge1 (B1 (α:=Int) (cs:=[_]) (xs:=[((at_ (linksL (SE)) (k2:Int)).tm)+wd]) Ac ty3 rfl rfl dc dc rfl rfl rfl rfl) fun ad13=>?_)))
     refine Ge2 (B0 (α:=Int) (e:=3) (xs:=out2) (ys:=([((at_ (linksL (SE)) (k2:Int)).tm)+wd]:List Int)) Ac ty3 rfl rfl rfl mm Bf lcn dc rfl (fun _ _=>am)) fun ad14 cp15=>?_
     exact Ga rfl (Bc (Ak (Aj (Az (Gm rfl (Gr (Rad rfl rfl) (Ga rfl (Bc (B3 ((k2+1),(ad14),(cp15),(out2++([((at_ (linksL (SE)) (k2:Int)).tm)+wd]:List Int))) (by dsimp only;exact ⟨om,(by first|(rw [ho2,lateTm_yes om g50 asm,List.append_assoc])|(rw [ho2,lateTm_no om (.inr asm)]))⟩))))))))))
    ·exact Aw (Ak (Aj (Az (Gm rfl (Gr (Rad rfl rfl) (Ga rfl (Bc (B3 ((k2+1),(oa2),(oc2),(out2)) (by dsimp only;exact ⟨om,(by first|(rw [ho2,lateTm_yes om g50 asm,List.append_assoc])|(rw [ho2,lateTm_no om (.inr asm)]))⟩)))))))))
   ·refine Bs (Am (Am (A6 (Aj (Ai (Gm rfl (Gc2 (Ap call82 rfl rfl (Of_ok Bf om)) fun ad16 cp17=>?_)))))))
    refine Ga rfl (Af (Ax ?_))
    have hE:ofL out2=timesR kd wd mo es:=by unfold timesR;rw [hSE,ho2];first|rw [List.take_of_length_le om]|rw [late_none g50,late_none g50]
    exact Ay rfl rfl (vc 3 (.slice ad16 (timesR kd wd mo es).length cp17) (timesR kd wd mo es)::I) (by rw [←hE];exact Bt) ⟨ad16,cp17,by rw [←hE],rfl⟩
  ·refine Gpo (Gpo (Gpo (Gpo (Gpo (Gr (Al rfl rfl) (Af (Ar (S5 56 5 7 8 12 rfl rfl rfl rfl rfl) (C9 rfl (Bs (Am (Am (A6 (Aj (Ai (Gm rfl (Gc2 (Ap call82 rfl rfl (Of_ok Bf om)) fun ad18 cp19=>?_))))))))))))))))
   refine Ga rfl (Af (Ax ?_))
   have hE:ofL out2=timesR kd wd mo es:=by unfold timesR;rw [hSE,ho2];first|rw [List.take_of_length_le om]|rw [late_none g50,late_none g50]
   exact Ay rfl rfl (vc 3 (.slice ad18 (timesR kd wd mo es).length cp19) (timesR kd wd mo es)::I) (by rw [←hE];exact Bt) ⟨ad18,cp19,by rw [←hE],rfl⟩
section
variable {nd:Int}{es:List Pt}
theorem coreL_at(hG:GrOk nd es){u:Int}(h0:0≤u)(h1:u<nd):∃p∈coreR0 nd es,p.1=u∧at_ (coreN nd es) u=(p.2:Int):=by
 have hl:=hG.rows.len
 have hS:=rows_sym hG
 have hk:=coreR_keys (rows:=rowsB nd es) (allB ((rowsB nd es).length:Int)) 0
 have hm:u∈ordL (coreR0 nd es):=(hk.2 u).2 ((mem_allN hS.le).2 om)
 obtain ⟨p,hp,rfl⟩:=List.mem_map.1 hm
 refine ⟨p,hp,rfl,?_⟩
 unfold coreN
 rw [if_neg (by rw [checkG_ok.2 hG];decide)]
 exact numL_at hk.1 (fun v hv=>by have:=(mem_allN hS.le).1 ((hk.2 v).1 hv);omega) p hp
theorem core_clos(hG:GrOk nd es){k:Nat}{W:BitVec 64}(hc:ClosB (rowsB nd es) k W)(hs:subN nd W){u:Int}(hu:u∈listB W):(k:Int)≤at_ (coreN nd es) u:=by
 have hl:=hG.rows.len
 have hr:=hG.rng
 have hS:=rows_sym hG
 obtain ⟨p,hp,e,h⟩:=coreL_at hG (listB_lt hu).1 (hs u hu)
 have:=coreR_clos hc (allB ((rowsB nd es).length:Int)) 0 (fun x hx=>(mem_allN hS.le).2 ⟨(listB_lt hx).1,by have:=hs x hx;omega⟩) p hp (by rw [e];exact hu)
 omega
theorem core_some(hG:GrOk nd es){k:Nat}(hk:1≤k):∃W,ClosB (rowsB nd es) k W∧subN nd W∧∀u,0≤u→u<nd→(k:Int)≤at_ (coreN nd es) u→u∈listB W:=by
 have hl:=hG.rows.len
 have hr:=hG.rng
 have hS:=rows_sym hG
 obtain ⟨W,h1,h2,h3⟩:=coreR_core (rows:=rowsB nd es) (allB ((rowsB nd es).length:Int)) 0 k om
 refine ⟨W,h1,fun x hx=>by have:=(mem_allN hS.le).1 (h2 x hx);omega,fun u h0 h4 h5=>?_⟩
 obtain ⟨p,hp,e,h⟩:=coreL_at hG h0 h4
 have:=(h3 p hp).1 om
 rwa [e] at this
theorem core_pos(hG:GrOk nd es){u:Int}(h0:0≤u)(h1:u<nd):0≤at_ (coreN nd es) u∧at_ (coreN nd es) u<nd:=by
 have hl:=hG.rows.len
 have hr:=hG.rng
 have hS:=rows_sym hG
 obtain ⟨p,hp,e,h⟩:=coreL_at hG h0 h1
 have:=coreF_bound (degB_all hS om) _ _ _ (Nat.zero_le _) p hp
 omega
theorem deg_meet(hG:GrOk nd es){l:List Int}{W:BitVec 64}(hW:∀x,x∈listB W↔x∈l){u:Int}(h0:0≤u)(h1:u<nd):degB (rowsB nd es) W u=(meetL (nbG nd es u) l).length:=by
 unfold degB
 have hr:=hG.rng
 refine ((List.perm_ext_iff_of_nodup (Ep _) ?_).2 fun x=>?_).length_eq
 ·unfold meetL
  exact ((ofL_asc _).imp fun h=>by omega:(ofL (nbG nd es u)).Nodup).filter _
 ·rw [mem_andB,mem_meetL,hW,hG.rows.mem h0 h1]
  unfold nbG
  rw [if_neg (by rw [checkG_ok.2 hG];decide),mem_ofL,mem_nbL]
  refine and_congr_left fun _=>⟨fun h=>h.2,fun h=>⟨?_,h⟩⟩
  rcases h with h|h
  ·have:=hG.edge _ h;simp only at this;omega
  ·have:=hG.edge _ h;simp only at this;omega
theorem mask_list{l:List Int}{n:Int}(hn:n≤64)(h:∀x∈l,0≤x∧x<n)(x:Int):x∈listB (maskB l)↔x∈l:=by
 rw [mem_listB]
 constructor
 ·rintro ⟨h0,h1⟩
  have hlt:=BitVec.lt_of_getLsbD h1
  rw [bit_maskB hlt,Int.toNat_of_nonneg h0] at h1
  exact h1
 ·intro hx
  have:=h x hx
  refine ⟨this.1,(bit_maskB om).2 ?_⟩
  rw [Int.toNat_of_nonneg this.1];exact hx
theorem core_list(hG:GrOk nd es){l:List Int}{lv:Int}(hasc:l.Pairwise (fun x0 x1:Int=>x0<x1))(hrg:∀x∈l,0≤x∧x<nd)(hcl:∀x∈l,lv≤((meetL (nbG nd es x) l).length:Int))(hgr:∀W:BitVec 64,ClosB (rowsB nd es) lv.toNat W→subN nd W→∀u∈listB W,u∈l):l=coreK nd es lv:=by
 have hr:=hG.rng
 have hl:=hG.rows.len
 have hlen:((coreN nd es).length:Int)=nd:=by
  unfold coreN
  rw [if_neg (by rw [checkG_ok.2 hG];decide),coreL_len];omega
 have hW:=mask_list hr.2 hrg
 have hasc2:(coreK nd es lv).Pairwise (fun x0 x1:Int=>x0<x1):=by
  unfold coreK
  exact (ValidP_iff.1 (sideL_valid _ _)).2
 refine intLin.uniq hasc hasc2 fun x=>?_
 rw [mem_coreK]
 constructor
 ·intro hx
  have hxr:=hrg x hx
  have hc:ClosB (rowsB nd es) lv.toNat (maskB l):=fun u hu=>by
   have hu2:=(hW u).1 hu
   have hur:=hrg u hu2
   rw [deg_meet hG hW hur.1 hur.2]
   have:=hcl u hu2
   omega
  have:=core_clos hG hc (fun u hu=>(hrg u ((hW u).1 hu)).2) ((hW x).2 hx)
  exact ⟨by omega,by omega⟩
 ·rintro ⟨hxr,hx⟩
  by_cases h0:lv≤0
  ·refine hgr (allB nd) (fun u hu=>by omega) (all_sub hr.1 hr.2) x (mem_listB.2 ⟨hxr.1,?_⟩)
   rw [getLsb_allB hr.1 hr.2 om,decide_eq_true_eq];omega
  ·obtain ⟨W,h1,h2,h3⟩:=core_some hG (k:=lv.toNat) om
   exact hgr W h1 h2 x (h3 x hxr.1 om om)
theorem core_drop(hG:GrOk nd es){m:List Int}{lv x:Int}(hrg:∀y∈m,0≤y∧y<nd)(hgr:∀W:BitVec 64,ClosB (rowsB nd es) lv.toNat W→subN nd W→∀u∈listB W,u∈m)(hx:x∈m)(hlt:((meetL (nbG nd es x) m).length:Int)<lv):∀W:BitVec 64,ClosB (rowsB nd es) lv.toNat W→subN nd W→∀u∈listB W,u∈minusL m [x]:=fun W h1 h2 u hu=>by
 have hr:=hG.rng
 have hum:=hgr W h1 h2 u hu
 rw [show u∈minusL m [x]↔u∈m∧u∉[x] by simp [minusL,mem_ofL]]
 refine ⟨hum,fun e=>?_⟩
 rw [List.mem_singleton] at e
 subst e
 have hur:=hrg u hx
 have h3:=h1 u hu
 have h4:=degB_mono (rows:=rowsB nd es) (W:=W) (L:=maskB m) (fun y hy=>(mask_list hr.2 hrg y).2 (hgr W h1 h2 y hy)) u
 rw [deg_meet hG (mask_list hr.2 hrg) hur.1 hur.2] at h4
 omega
end
theorem Fit.vcR{κ:Ctx}{A R I:List Item}{x:Item}:Fit κ (A++((x::R)++I)) (x::(A++I)):=
 Cg (Fit.perm List.perm_middle) (D2 (List.Sublist.cons_cons _ (List.Sublist.append_left (List.sublist_append_right R I) A)))
theorem Fit.vcIn{κ:Ctx}{A I:List Item}{x:Item}:Fit κ (x::(A++I)) (A++([x]++I)):=Fit.perm List.perm_middle.symm
theorem mem_mnC{m:List Int}{x u:Int}:u∈minusL m [x]↔u∈m∧u≠x:=by simp [minusL,mem_ofL]
theorem asc_len64{l:List Int}(h:l.Pairwise (fun x0 x1:Int=>x0<x1))(hr:∀x∈l,0≤x∧x<64):l.length≤64:=by
 have hs:∀x∈l,x∈(List.range 64).map fun (i:Nat)=>(i:Int):=fun x hx=>by
  have:=hr x hx
  exact List.mem_map.2 ⟨x.toNat,List.mem_range.2 om,by omega⟩
 have:=List.Nodup.length_le_of_subset (h.imp fun h=>by omega:l.Nodup) hs
 rwa [List.length_map,List.length_range] at this
theorem asc_inj{l:List Int}(h:l.Pairwise (fun x0 x1:Int=>x0<x1)){i j:Nat}(hi:i<l.length)(hj:j<l.length)(e:at_ l (i:Int)=at_ l (j:Int)):i=j:=by
 rw [Ds _ i hi,Ds _ j hj] at e
 rcases Nat.lt_trichotomy i j with h1|h1|h1
 ·have:=(List.pairwise_iff_getElem.1 h) i j hi hj h1;omega
 ·exact h1
 ·have:=(List.pairwise_iff_getElem.1 h) j i hj hi h1;omega
theorem mnC_len{m:List Int}{x:Int}(h:m.Pairwise (fun x0 x1:Int=>x0<x1))(hx:x∈m):(minusL m [x]).length+1=m.length:=by
 have hn:(minusL m [x]).Nodup:=((ofL_asc m).imp fun h=>by omega:(ofL m).Nodup).filter _
 have hp:m.Perm (x::minusL m [x]):=(List.perm_ext_iff_of_nodup (h.imp fun h=>by omega) (List.nodup_cons.2 ⟨fun e=>(mem_mnC.1 e).2 rfl,hn⟩)).2 fun u=>by
  rw [List.mem_cons,mem_mnC]
  by_cases e:u=x
  ·subst e;simp [hx]
  ·simp [e]
 have:=hp.length_eq
 rw [List.length_cons] at this;omega
theorem range_valid{n:Int}(hr:0≤n∧n≤64):ValidP (rangeI n) n:=by
 refine ValidP_iff.2 ⟨fun x hx=>by have:=mem_rangeI.1 hx;omega,?_⟩
 unfold rangeI
 refine List.Pairwise.map _ (fun a b h=>?_) (List.pairwise_lt_range (n:=(min n 64).toNat))
 omega
set_option maxHeartbeats 2000000 in
theorem Core10_ok{κ:Ctx}{I:List Item}{nd lv:Int}{va:Value}{es:List Pt}(hl:Sl κ I va es)(hG:GrOk nd es)(hb:es.length≤1000000) :
    CallS Tryz.prog κ 133 [.agg #[I64 (nd),va],I64 (lv)] I (fun r J=>∃a c,r = .slice a (coreK nd es lv).length c∧J=vc 3 (.slice a (coreK nd es lv).length c) (coreK nd es lv)::I):=by
 have hr:=hG.rng
 refine Ce2 Tryz.func133 rfl rfl ?_
 refine Ai (Ge1 (Bd (cs:=[_,_]) rfl rfl rfl) fun b1=>Ga rfl (Af (Ai (Gf fld48_0 rfl (Gl ty3 ?_)))))
 refine Gc2 (Ap call135 rfl rfl (Range_ok nd)) fun ad2 cp3=>?_
 refine Ga rfl (Af (Au (Ai (Ga rfl (Af (A4 (Bv (σ:=(Option Addr)×Nat×(List Int)×Bool) (fun s=>([(1,I64 (lv)),(2,.pointer (some ⟨b1,0,none⟩)),(5,.slice s.1 s.2.2.1.length s.2.1),(6,.bool (s.2.2.2))]:Env)) (fun s=>vc 3 (.slice s.1 s.2.2.1.length s.2.1) (s.2.2.1)::blk b1 [I64 (nd),va] 48::I) (fun s=>(s.2.2.1.Pairwise (fun x0 x1:Int=>x0<x1))∧(∀x∈s.2.2.1,0≤x∧x<nd)∧(∀W:BitVec 64,ClosB (rowsB nd es) lv.toNat W→subN nd W→∀u∈listB W,u∈s.2.2.1)∧(s.2.2.2=false→∀x∈s.2.2.1,lv≤((meetL (nbG nd es x) s.2.2.1).length:Int))) (fun s=>(2*s.2.2.1.length+s.2.2.2.toNat)) (ad2,cp3,rangeI nd,true) (show ((rangeI nd:List Int).Pairwise (fun x0 x1:Int=>x0<x1))∧(∀x∈(rangeI nd:List Int),0≤x∧x<nd)∧(∀W:BitVec 64,ClosB (rowsB nd es) lv.toNat W→subN nd W→∀u∈listB W,u∈(rangeI nd:List Int))∧((true:Bool)=false→∀x∈(rangeI nd:List Int),lv≤((meetL (nbG nd es x) (rangeI nd:List Int)).length:Int)) from ⟨(ValidP_iff.1 (range_valid hr)).2,(ValidP_iff.1 (range_valid hr)).1,(fun W h1 h2 u hu=>mem_rangeI.2 (by have:=h2 u hu;have:=listB_lt hu;omega)),(fun h=>by cases h)⟩) (Aa rfl (Aa rfl (Aa (Cp rfl (by first|rfl|simp)) (Aa (Cp rfl (by first|rfl|simp)) Bg)))) (show Fit κ _ (vc 3 (.slice (ad2) (rangeI nd).length (cp3)) ((rangeI nd))::blk b1 [I64 (nd),va] 48::I) from Bt) ?_)))))))
 rintro ⟨a,c,l,ag⟩ hp
 dsimp only at hp ⊢
 obtain ⟨hasc,hrg,hgr,hcl⟩:=hp
 have hll:l.length≤64:=asc_len64 hasc (fun x hx=>by have:=hrg x hx;omega)
 refine Au (Ai (Gm rfl (Af (Ek rfl (fun c12=>?_) (fun c12=>?_)))))
 ·refine Aw (Aj (A4 (Ai (Ga rfl (Af (Ai (Gm rfl (Gr (Bp Ac rfl) (Gm rfl (Af (A4 (Bv (σ:=Nat×(Option Addr)×Nat×(List Int)×Bool×(List Item)) (fun s=>([(1,I64 (lv)),(2,.pointer (some ⟨b1,0,none⟩)),(5,.slice s.2.1 s.2.2.2.1.length s.2.2.1),(6,.bool (s.2.2.2.2.1)),(13,.slice a l.length c),(14,I64 (((l.length:Nat):Int))),(15,I64 (((s.1:Nat):Int)))]:Env)) (fun s=>blk b1 [I64 (nd),va] 48::(s.2.2.2.2.2++I)) (fun s=>(s.1≤l.length)∧(Sl κ s.2.2.2.2.2 (.slice a l.length c) l)∧(∃R,s.2.2.2.2.2=vc 3 (.slice s.2.1 s.2.2.2.1.length s.2.2.1) s.2.2.2.1::R)∧(s.2.2.2.1.Pairwise (fun x0 x1:Int=>x0<x1))∧(∀x∈s.2.2.2.1,x∈l)∧(∀W:BitVec 64,ClosB (rowsB nd es) lv.toNat W→subN nd W→∀u∈listB W,u∈s.2.2.2.1)∧(s.2.2.2.2.1=false→s.2.2.2.1=l∧∀i:Nat,i<s.1→lv≤((meetL (nbG nd es (at_ l (i:Int))) l).length:Int))∧(∀i:Nat,s.1≤i→i<l.length→at_ l (i:Int)∈s.2.2.2.1)∧(s.2.2.2.1.length+s.2.2.2.2.1.toNat≤l.length∧(s.2.2.2.2.1=true→s.2.2.2.1.length<l.length))) (fun s=>(l.length - s.1)) (0,a,c,l,false,[vc 3 (.slice a l.length c) l]) (show ((0:Nat)≤l.length)∧(Sl κ ([vc 3 (.slice a l.length c) l]:List Item) (.slice a l.length c) l)∧(∃R,([vc 3 (.slice a l.length c) l]:List Item)=vc 3 (.slice (a:Option Addr) (l:List Int).length (c:Nat)) (l:List Int)::R)∧((l:List Int).Pairwise (fun x0 x1:Int=>x0<x1))∧(∀x∈(l:List Int),x∈l)∧(∀W:BitVec 64,ClosB (rowsB nd es) lv.toNat W→subN nd W→∀u∈listB W,u∈(l:List Int))∧((false:Bool)=false→(l:List Int)=l∧∀i:Nat,i<(0:Nat)→lv≤((meetL (nbG nd es (at_ l (i:Int))) l).length:Int))∧(∀i:Nat,(0:Nat)≤i→i<l.length→at_ l (i:Int)∈(l:List Int))∧((l:List Int).length+(false:Bool).toNat≤l.length∧((false:Bool)=true→(l:List Int).length<l.length)) from ⟨om,(E5 List.mem_cons_self),⟨[],rfl⟩,hasc,(fun x hx=>hx),hgr,(fun _=>⟨rfl,fun i hi=>by omega⟩),(fun i _ hi=>Cf om om),⟨by simp,fun h=>by cases h⟩⟩) (Aa rfl (Aa rfl (Aa (Cp rfl (by first|rfl|simp)) (Aa (Cp rfl (by first|rfl|simp)) (Aa rfl (Aa rfl (Aa B8 Bg))))))) (show Fit κ _ (blk b1 [I64 (nd),va] 48::(([vc 3 (.slice a l.length c) l])++I)) from (Fit.vcIn (A:=[blk b1 [I64 (nd),va] 48]))) ?_))))))))))))
  rintro ⟨j,a2,c2,m,ag2,Y2⟩ hp
  dsimp only at hp ⊢
  obtain ⟨hj,hY1,hYm,hasc2,hsub,hgr2,hno,hin,hmu⟩:=hp
  have hml:m.length≤64:=asc_len64 hasc2 (fun x hx=>by have:=hrg x (hsub x hx);omega)
  have hY2:Sl κ Y2 (.slice a2 m.length c2) m:=by obtain ⟨R,rfl⟩:=hYm;exact E5 List.mem_cons_self
  refine Ai (Gr (A9 rfl rfl) (Af (Au (A7 rfl (fun c16=>?_) (fun c16=>?_)))))
  ·refine Aw (Aj (Au (A4 (Ai (Gr (A3 (α:=Int) (xs:=l) Ac ty3 rfl rfl (B7 hY1 (D2 (List.Sublist.trans (List.sublist_append_left _ I) (List.sublist_append_right ([blk b1 [I64 (nd),va] 48]:List Item) (Y2++I))))) om om) (Gr (Br (xs:=l) ty3 rfl (B7 hY1 (D2 (List.Sublist.trans (List.sublist_append_left _ I) (List.sublist_append_right ([blk b1 [I64 (nd),va] 48]:List Item) (Y2++I))))) om om) (Ga rfl ?_)))))))
   have hxm:=hin j (Nat.le_refl _) om
   refine Af (Ai (Gl2 ty48 ?_))
   refine Gm rfl (G.e (Ap call115 rfl rfl (Neigh03_ok (nd:=nd) (Bj hl) (at_ l (j:Int)) om)) ?_)
   rintro _ _ ⟨_,_,⟨ad4,cp5,rfl,rfl⟩,rfl,rfl⟩
   have hnl21:=nbG_len nd es (at_ l (j:Int))
   refine Gm rfl (G.e (Ap call134 rfl rfl (Meet_ok Bf (B7 hY2 (D2 (List.Sublist.trans (List.sublist_append_left _ I) (List.sublist_append_right ([vc 3 (.slice ad4 (nbG nd es (at_ l (j:Int))).length cp5) (nbG nd es (at_ l (j:Int))),blk b1 [I64 (nd),va] 48]:List Item) (Y2++I))))) (by first|omega|(have:=nbG_len nd es (at_ l (j:Int));omega)))) ?_)
   rintro _ _ ⟨_,_,⟨ad6,cp7,rfl,rfl⟩,rfl,rfl⟩
   refine Gr (Bp Ac rfl) (Gm rfl (Gr (A9 rfl rfl) (Af (Ar (S9 26 8 1 2 5 6 13 14 15 rfl rfl rfl rfl rfl rfl rfl rfl rfl) (A7 rfl (fun c26=>?_) (fun c26=>?_))))))
   ·refine Az (Gm rfl (Gm rfl (Ge1 (B1 (α:=Int) (cs:=[_]) (xs:=[at_ l (j:Int)]) Ac ty3 rfl rfl dc dc rfl rfl rfl rfl) fun ad8=>?_)))
    refine G.e (Ap call206 rfl rfl (Minus_ok (B7 hY2 (D2 (List.Sublist.trans (List.sublist_append_left _ I) (List.sublist_append_right ([vc 3 (.slice ad8 1 1) (([at_ l (j:Int)]:List Int)),vc 3 (.slice ad6 (meetL (nbG nd es (at_ l (j:Int))) m).length cp7) (meetL (nbG nd es (at_ l (j:Int))) m),vc 3 (.slice ad4 (nbG nd es (at_ l (j:Int))).length cp5) (nbG nd es (at_ l (j:Int))),blk b1 [I64 (nd),va] 48]:List Item) (Y2++I))))) Bf (by first|omega|(have:=nbG_len nd es (at_ l (j:Int));omega)))) ?_
    rintro _ _ ⟨_,_,⟨ad9,cp10,rfl,rfl⟩,rfl,rfl⟩
    exact Ga rfl (Ga rfl (Bc (Ak (Aj (Ar (S7 6 5 1 2 13 14 15 rfl rfl rfl rfl rfl rfl rfl) (Az (Gr (Rad rfl rfl) (Gm rfl (Bc (B3 ((j+1),(ad9),(cp10),(minusL m ([at_ l (j:Int)]:List Int)),(true),((vc 3 (.slice ad9 (minusL m ([at_ l (j:Int)]:List Int)).length cp10) (minusL m ([at_ l (j:Int)]:List Int))::Y2))) (by dsimp only;exact ⟨om,(B7 hY1 (Fit.tail (Df _))),⟨Y2,rfl⟩,((ofL_asc m).sublist List.filter_sublist),(fun x hx=>hsub x (mem_mnC.1 hx).1),(core_drop hG (fun y hy=>hrg y (hsub y hy)) hgr2 hxm c26),(fun h=>by cases h),(fun i h1 h2=>mem_mnC.2 ⟨hin i om h2,fun e=>by have:=asc_inj hasc h2 (show j<l.length by omega) e;omega⟩),(by have:=mnC_len hasc2 hxm;exact ⟨by simp;omega,fun _=>by omega⟩)⟩) (hI:=by (try dsimp only);exact (by first|exact Bt|exact A5))))))))))))
   ·exact Aw (Ak (Aj (Az (Gr (Rad rfl rfl) (Gm rfl (Bc (B3 ((j+1),(a2),(c2),(m),(ag2),(Y2)) (by dsimp only;exact ⟨om,om,om,om,om,om,(fun h=>by obtain ⟨e,h2⟩:=hno h;refine ⟨e,fun i hi=>?_⟩;by_cases e2:i=j;(· subst e2;rw [e] at c26;omega);(· exact h2 i om)),(fun i h1 h2=>hin i om h2),om⟩) (hI:=by (try dsimp only);exact (by first|exact Bt|exact A5)))))))))
  ·refine Bs (Am (Am (A6 (Ak ?_))))
   obtain ⟨R,rfl⟩:=hYm
   exact B3 ((a2),(c2),(m),(ag2)) (by dsimp only;exact ⟨hasc2,(fun x hx=>hrg x (hsub x hx)),hgr2,(fun h=>by obtain ⟨e,h2⟩:=hno h;subst e;intro x hx;obtain ⟨i,hi,rfl⟩:=Ei hx;exact h2 i om)⟩) (hlt:=by (try dsimp only);exact (by have hag:ag=true:=(by simpa using c12);subst hag;cases ag2<;>simp at hmu ⊢ <;>omega)) (hI:=by (try dsimp only);exact (Fit.vcR (A:=[blk b1 [I64 (nd),va] 48])))
 ·refine Bs (Am (Am (A6 (Aj (Ai (Gm rfl (Ga rfl (Af (Ax ?_)))))))))
  have hE:l=coreK nd es lv:=core_list hG hasc hrg (hcl (by simpa using c12)) hgr
  subst hE
  exact Ay rfl rfl (vc 3 (.slice a (coreK nd es lv).length c) (coreK nd es lv)::I) Bt ⟨a,c,rfl,rfl⟩
section
variable {nd:Int}{es:List Pt}
def capN(nd:Int)(es:List Pt)(k:Int):List Int:=(coreN nd es).map fun x=>min k x
theorem capN_len(nd:Int)(es:List Pt)(k:Int):(capN nd es k).length=(coreN nd es).length:=List.length_map ..
theorem coreN_lenG(hG:GrOk nd es):((coreN nd es).length:Int)=nd:=by
 have hr:=hG.rng
 have hl:=hG.rows.len
 unfold coreN
 rw [if_neg (by rw [checkG_ok.2 hG];decide),coreL_len];omega
theorem capN_at{k:Int}{u:Int}(h0:0≤u)(h1:u<(coreN nd es).length):at_ (capN nd es k) u=min k (at_ (coreN nd es) u):=by
 obtain ⟨i,rfl⟩:=Int.eq_ofNat_of_zero_le h0
 rw [Ds _ i (by rw [capN_len];omega),Ds _ i om]
 unfold capN
 rw [List.getElem_map]
theorem capN_zero(hG:GrOk nd es):capN nd es 0=List.replicate (coreN nd es).length 0:=by
 have hl:=coreN_lenG hG
 refine ext_atw (by rw [capN_len,List.length_replicate]) fun i hi=>?_
 rw [capN_len] at hi
 rw [capN_at om om,at_rep _ _ _ om om]
 have:=core_pos hG (u:=(i:Int)) om om
 omega
theorem capN_all(hG:GrOk nd es)(h:1≤nd):capN nd es (nd - 1)=coreN nd es:=by
 have hl:=coreN_lenG hG
 refine ext_atw (capN_len _ _ _) fun i hi=>?_
 rw [capN_len] at hi
 rw [capN_at om om]
 have:=core_pos hG (u:=(i:Int)) om om
 omega
def putN(l:List Int)(k:Int)(xs:List Int):List Int:=xs.foldl (fun l v=>l.set v.toNat k) l
theorem putN_take{l xs:List Int}{k:Int}{j:Nat}(h:j<xs.length):putN l k (xs.take (j+1))=(putN l k (xs.take j)).set (at_ xs (j:Int)).toNat k:=by
 unfold putN
 rw [Cz xs j h,List.foldl_append];rfl
theorem putN_len(k:Int):∀(xs l:List Int),(putN l k xs).length=l.length
 |[],l=>rfl
 |x::xs,l=>by
  show (putN (l.set x.toNat k) k xs).length=_
  rw [putN_len k xs,List.length_set]
theorem putN_at(k:Int):∀(xs l:List Int) (u:Int),(∀x∈xs,0≤x∧x<l.length)→0≤u→at_ (putN l k xs) u=if u∈xs then k else at_ l u
 |[],l,u,_,_=>rfl
 |x::xs,l,u,hx,hu=>by
  have h0:=hx x List.mem_cons_self
  show at_ (putN (l.set x.toNat k) k xs) u=_
  rw [putN_at k xs _ u (fun y hy=>by rw [List.length_set];exact hx y (List.mem_cons_of_mem _ hy)) hu,Dl _ _ _ _ h0.1 hu h0.2]
  by_cases h1:u∈xs
  ·rw [if_pos h1,if_pos (List.mem_cons_of_mem _ h1)]
  ·rw [if_neg h1]
   by_cases h2:x=u
   ·subst h2;rw [if_pos rfl,if_pos List.mem_cons_self]
   ·rw [if_neg h2,if_neg (fun h=>by rcases List.mem_cons.1 h with h|h;(· exact h2 h.symm);(· exact h1 h))]
theorem capN_put(hG:GrOk nd es){k:Int}(hk:1≤k):putN (capN nd es (k - 1)) k (coreK nd es k)=capN nd es k:=by
 have hl:=coreN_lenG hG
 refine ext_atw (by rw [putN_len,capN_len,capN_len]) fun i hi=>?_
 rw [putN_len,capN_len] at hi
 rw [putN_at k _ _ _ (fun x hx=>by rw [capN_len];exact (mem_coreK.1 hx).1) om,capN_at om om,capN_at om om]
 by_cases h:(i:Int)∈coreK nd es k
 ·rw [if_pos h]
  have:=(mem_coreK.1 h).2
  omega
 ·rw [if_neg h]
  have:¬k≤at_ (coreN nd es) (i:Int):=fun h2=>h (mem_coreK.2 ⟨⟨by omega,by omega⟩,h2⟩)
  omega
end
theorem coreK_len(nd:Int)(es:List Pt)(k:Int):(coreK nd es k).length≤64:=by
 unfold coreK
 exact Nat.le_trans (sideL_len _ _) (coreN_len nd es)
set_option maxHeartbeats 2000000 in
theorem Numbers10_ok{κ:Ctx}{I:List Item}{nd:Int}{va:Value}{es:List Pt}(hl:Sl κ I va es)(hG:GrOk nd es)(hb:es.length≤1000000)(h1:1≤nd) :
    CallS Tryz.prog κ 71 [.agg #[I64 (nd),va]] I (fun r J=>∃a c,r = .tuple #[.slice a (coreN nd es).length c,I64 0]∧J=vc 3 (.slice a (coreN nd es).length c) (coreN nd es)::I):=by
 have hr:=hG.rng
 have hcl0:=coreN_lenG hG
 have hcl:(coreN nd es).length=nd.toNat:=by omega
 refine Ce1 Tryz.func71 rfl rfl ?_
 refine Ai (Ge1 (Bd (cs:=[_,_]) rfl rfl rfl) fun b1=>Ga rfl (Ga rfl (Af (Au (Ai (Gl2 ty48 ?_))))))
 refine G.e (Ap call30 rfl rfl (Check03G_ok (nd:=nd) (Bj hl))) ?_
 rintro _ _ ⟨_,_,⟨rfl,rfl⟩,rfl,rfl⟩
 refine Ga rfl (Af (Ai (Gm rfl (Gr (Be rfl rfl) (Af (A7 rfl (fun c12=>?_) (fun c12=>?_)))))))
 ·exact absurd (checkG_ok.2 hG) c12
 ·refine Aw (Aj (Ai (Gf fld48_0 rfl (Gl ty3 ?_))))
  refine Ge2 (Cr (α:=Int) (n:=nd.toNat) Ac ty3 rfl rfl rfl om om dc rfl) fun ad2 cp3=>?_
  refine Ga rfl (Af (Au (Ai (Ga rfl (Af (Ar (S3 6 5 1 rfl rfl rfl) (A4 (Bv (σ:=Int) (fun s=>([(1,.pointer (some ⟨b1,0,none⟩)),(5,.slice ad2 (List.replicate nd.toNat (default:Int)).length cp3),(6,I64 (s))]:Env)) (fun s=>vc 3 (.slice ad2 (List.replicate nd.toNat (default:Int)).length cp3) ((capN nd es (s - 1)))::blk b1 [I64 (nd),va] 48::I) (fun s=>(1≤s∧(s≤nd∨s=1))) (fun s=>(nd - s).toNat) (1) (show (1≤(1:Int)∧((1:Int)≤nd∨(1:Int)=1)) from om) (Aa rfl (Aa rfl (Aa B8 Bg))) (show Fit κ _ (vc 3 (.slice ad2 (List.replicate nd.toNat (default:Int)).length cp3) ((capN nd es ((1) - 1)))::blk b1 [I64 (nd),va] 48::I) from (by rw [show capN nd es (1 - 1)=List.replicate (coreN nd es).length 0 from capN_zero hG,hcl];exact Bt)) ?_))))))))
  rintro q hp
  have hq:=hp
  have hcap:=capN_len nd es (q - 1)
  have hkl:=coreK_len nd es q
  have hkm:∀x∈coreK nd es q,0≤x∧x<nd:=fun x hx=>by have:=(mem_coreK.1 hx).1;omega
  refine Au (Ai (Gm rfl (Gf fld48_0 rfl (Gl ty3 ?_))))
  refine Gr (A9 rfl rfl) (Af (A7 rfl (fun c20=>?_) (fun c20=>?_)))
  ·refine Aw (Aj (Au (A4 (Ai (Gl2 ty48 ?_)))))
   refine Gm rfl (G.e (Ap call133 rfl rfl (Core10_ok (nd:=nd) (lv:=q) (Bj hl) hG om)) ?_)
   rintro _ _ ⟨_,_,⟨ad4,cp5,rfl,rfl⟩,rfl,rfl⟩
   refine Gr (Bp Ac rfl) (Gm rfl (Af (A4 (Bv (σ:=Nat×(List Int)) (fun s=>([(1,.pointer (some ⟨b1,0,none⟩)),(5,.slice ad2 (List.replicate nd.toNat (default:Int)).length cp3),(6,I64 (q)),(25,.slice ad4 (coreK nd es q).length cp5),(26,I64 ((((coreK nd es q).length:Nat):Int))),(27,I64 (((s.1:Nat):Int)))]:Env)) (fun s=>vc 3 (.slice ad2 (List.replicate nd.toNat (default:Int)).length cp3) (s.2)::vc 3 (.slice ad4 (coreK nd es q).length cp5) (coreK nd es q)::blk b1 [I64 (nd),va] 48::I) (fun s=>(s.1≤(coreK nd es q).length)∧(s.2=putN (capN nd es (q - 1)) q ((coreK nd es q).take s.1))) (fun s=>(coreK nd es q).length - s.1) (0,capN nd es (q - 1)) (show ((0:Nat)≤(coreK nd es q).length)∧((capN nd es (q - 1):List Int)=putN (capN nd es (q - 1)) q ((coreK nd es q).take (0:Nat))) from ⟨om,rfl⟩) (Aa rfl (Aa rfl (Aa rfl (Aa rfl (Aa rfl (Aa B8 Bg)))))) (show Fit κ _ (vc 3 (.slice ad2 (List.replicate nd.toNat (default:Int)).length cp3) ((capN nd es (q - 1)))::vc 3 (.slice ad4 (coreK nd es q).length cp5) (coreK nd es q)::blk b1 [I64 (nd),va] 48::I) from Bt) ?_))))
   rintro ⟨k,out⟩ hp
   dsimp only at hp ⊢
   obtain ⟨hk,hout⟩:=hp
   have hol:out.length=(coreN nd es).length:=by rw [hout,putN_len,capN_len]
   have hkx:k<(coreK nd es q).length→0≤at_ (coreK nd es q) (k:Int)∧at_ (coreK nd es q) (k:Int)<nd:=fun h=>hkm _ (Cf om om)
   refine Ai (Gr (A9 rfl rfl) (Af (Au (A7 rfl (fun c28=>?_) (fun c28=>?_)))))
   ·refine Aw (Aj (Au (A4 (Ai (Gr (A3 (α:=Int) (xs:=coreK nd es q) Ac ty3 rfl rfl Bf om om) (Gr (Br (xs:=coreK nd es q) ty3 rfl Bf om om) (Ga rfl (Af (Az (Gm rfl (Gm rfl (Gm rfl (Gr (A3 (α:=Int) (xs:=out) Ac ty3 rfl rfl Bf om om) (Ge0 (C6 (α:=Int) (xs:=out) (e:=3) (new:=q) ty3 rfl rfl rfl om om am) ?_))))))))))))))
    exact Bc (Ak (Aj (Ar (S6 1 5 6 25 26 27 rfl rfl rfl rfl rfl rfl) (Az (Gr (Rad rfl rfl) (Gm rfl (Bc (B3 ((k+1),(List.set out (at_ (coreK nd es q) (k:Int)).toNat (q))) (by dsimp only;exact ⟨om,(by rw [putN_take om,←hout])⟩)))))))))
   ·refine Bs (Am (Am (A6 (Ak (Aj (Az (Gm rfl (Gr (Rad rfl rfl) (Ga rfl (Bc ?_))))))))))
    have hpE:out=capN nd es (q+1 - 1):=by rw [hout,List.take_of_length_le om,capN_put hG hq.1,Int.add_sub_cancel]
    exact B3 ((q+1)) om (hI:=by (try dsimp only);exact (by rw [←hpE];exact Bt))
  ·refine Bs (Am (Am (A6 (Aj (Ai (Gm rfl (Ga rfl (Ga rfl (Af (Ax ?_))))))))))
   have hE:capN nd es (q - 1)=coreN nd es:=by rw [show q - 1=nd - 1 by omega];exact capN_all hG h1
   have hcl3:(List.replicate nd.toNat (default:Int)).length=(coreN nd es).length:=by rw [List.length_replicate,hcl]
   exact Cl rfl rfl rfl (vc 3 (.slice ad2 (coreN nd es).length cp3) (coreN nd es)::I) (by rw [←hcl3,←hE];exact Bt) ⟨ad2,cp3,by rw [←hcl3],rfl⟩
end Go.Sl
namespace Go.Sl
variable {P:Program}{κ:Ctx}{N:Frm}{L:Env}{I:List Item}
theorem V.retvv{fn:Func}{t u:Tmp}{T U b b' E E' by' by2:Nat}{z z':List Value}{v v':Value}{Post:Value→List Item→Prop}(hr:fn.results = #[.cell t T,.cell u U])(hT:tyF P T=some (1,false,by',z))(hU:tyF P U=some (1,false,by2,z'))
  (hv:look L t=some (.pointer (some ⟨b,0,none⟩))) (hv':look L u=some (.pointer (some ⟨b',0,none⟩))) (hb:blk b [v] E∈I) (hb':blk b' [v'] E'∈I)
  (J:List Item) (hf:Fit κ I J) (hp:Post (.tuple #[v,v']) J) (h0:N.ds=[]:=by rfl):V κ N (bodyPost P fn (RetR κ Post)) .ret L I:=
 fun a w ha hs=>by
  have hcell:w.cell? ⟨b,0,none⟩=some v:=by rw [cell_blk (w:=w) (hs.ok _ hb).1 0];rfl
  have hcell2:w.cell? ⟨b',0,none⟩=some v':=by rw [cell_blk (w:=w) (hs.ok _ hb').1 0];rfl
  have hload:(loadVar T ⟨b,0,none⟩).run P w = .ok v w:=run_loadVar_one hT hcell
  have hload2:(loadVar U ⟨b',0,none⟩).run P w = .ok v' w:=run_loadVar_one hU hcell2
  refine bodyPost_ret (v:= .tuple #[v,v']) ?_ (ha.defers.trans h0) ⟨_,J,rfl,hp,hf w hs⟩
  simp [results,hr,ha.get t _ hv,ha.get u _ hv',asAddr,hload,hload2]
end Go.Sl
namespace Go.Sl
open Go.Proofs
set_option maxRecDepth 4000
def nowF(t:Int)(X:List Pt):Int:=X.foldl (fun n s=>if s.u≤t then s.v else n) 0
theorem nowF_snoc(t:Int)(X:List Pt)(s:Pt):nowF t (X++[s])=if s.u≤t then s.v else nowF t X:=by unfold nowF;rw [List.foldl_append];rfl
theorem nowF_take{t:Int}{X:List Pt}{k:Nat}(h:k<X.length):nowF t (X.take (k+1))=if (at_ X (k:Int)).u≤t then (at_ X (k:Int)).v else nowF t (X.take k):=by rw [Cz X k h,nowF_snoc]
structure SpanI (N:Int→Int) (E:List Ev) (X:List Pt) (j:Nat):Prop where
 ne:0<X.length
 h0:(at_ X 0).u=0
 up:∀i:Nat,i+1<X.length→(at_ X (i:Int)).u<(at_ X ((i+1:Nat):Int)).u∧(at_ X (i:Int)).v≠(at_ X ((i+1:Nat):Int)).v
 lt:j<E.length→(∀x∈X,x.u<(at_ E (j:Int)).tm)∧0<(at_ E (j:Int)).tm∧∀i:Nat,i<j→(at_ E (i:Int)).tm<(at_ E (j:Int)).tm
 now0:nowF 0 X=N 0
 now:∀i:Nat,i<j→nowF (at_ E (i:Int)).tm X=N (at_ E (i:Int)).tm
 cnt:X.length≤j+1
section
variable {nd kd wd mo tm:Int}{es:List Ev}{fst own:Bool}{j j1:Nat}{N:Int→Int}{X:List Pt}
theorem span_add(hH:HistOk nd kd wd mo es)(hM:MomentX (allE kd wd mo es) fst j tm own j1)(hq:(fst=true→X=[])∧(fst=false→SpanI N (allE kd wd mo es) X j))(hc:0<X.length→(at_ X ((X.length:Int) - 1)).v≠N tm):SpanI N (allE kd wd mo es) (X++[⟨tm,N tm⟩]) j1:=by
 have hle:=hM.le
 have hst:j1<(allE kd wd mo es).length→tm<(at_ (allE kd wd mo es) (j1:Int)).tm:=mom_next hH hM
 have hbef:=mom_bef hH hM
 have h0:0≤tm:=by
  cases hf:fst with
  |true=>rw [(hM.first hf).1];exact Int.le_refl _
  |false=>
   obtain ⟨h1,h2⟩:=hM.next hf
   rw [h2];exact (hH.allFit _ (Cf (xs:=allE kd wd mo es) (i:=(j:Int)) om om)).tm.1
 have hlast:at_ (X++[(⟨tm,N tm⟩:Pt)]) ((X.length:Nat):Int)=⟨tm,N tm⟩:=at_last X _
 have hlf:∀i:Nat,i<X.length→at_ (X++[(⟨tm,N tm⟩:Pt)]) (i:Int)=at_ X (i:Int):=fun i hi=>D0 X _ i hi
 have hlen:(X++[(⟨tm,N tm⟩:Pt)]).length=X.length+1:=by simp
 cases hf:fst with
 |true=>
  obtain ⟨e1,e2⟩:=hM.first hf
  have hX:=hq.1 hf
  subst hX e2
  refine ⟨by rw [hlen];omega,by show tm=0;exact e1,fun i hi=>by rw [hlen] at hi;simp at hi,fun hj=>⟨fun x hx=>?_,?_,fun i hi=>?_⟩,?_,fun i hi=>?_,by rw [hlen];simp⟩
  ·have:=List.mem_singleton.1 hx
   rw [this];exact hst hj
  ·have:=hst hj;omega
  ·have:=hM.same i om hi
   rw [this];exact hst hj
  ·rw [nowF_snoc,e1,if_pos (Int.le_refl _)]
  ·have:=hM.same i om hi
   rw [this,nowF_snoc,if_pos (Int.le_refl _)]
 |false=>
  obtain ⟨n1,n2⟩:=hM.next hf
  have hS:=hq.2 hf
  obtain ⟨l1,l2,l3⟩:=hS.lt n1
  have hne:=hS.ne
  have hadv:=hM.adv hf
  refine ⟨by rw [hlen];omega,?_,fun i hi=>?_,fun hj=>⟨fun x hx=>?_,?_,fun i hi=>?_⟩,?_,fun i hi=>?_,by rw [hlen];have:=hS.cnt;omega⟩
  ·have:=hlf 0 hne
   rw [show ((0:Nat):Int)=0 from rfl] at this
   rw [this];exact hS.h0
  ·rw [hlen] at hi
   by_cases e:i+1<X.length
   ·rw [hlf i om,hlf (i+1) e];exact hS.up i e
   ·have e2:i+1=X.length:=by omega
    rw [hlf i om,e2,hlast]
    have hm:at_ X (i:Int)∈X:=Cf om om
    have hc2:=hc hne
    rw [show ((X.length:Int) - 1)=(i:Int) by omega] at hc2
    exact ⟨by have:=l1 _ hm;show (at_ X (i:Int)).u<tm;omega,hc2⟩
  ·have:=hst hj
   rcases List.mem_append.1 hx with h|h
   ·have:=l1 x h;omega
   ·rw [List.mem_singleton.1 h];exact hst hj
  ·have:=hst hj;omega
  ·have:=hbef i hi;have:=hst hj;omega
  ·rw [nowF_snoc,if_neg (by show ¬tm≤0;omega)];exact hS.now0
  ·by_cases h:i<j
   ·rw [nowF_snoc,if_neg (by have:=l3 i h;show ¬tm≤_;omega)];exact hS.now i h
   ·rw [hM.same i om hi,nowF_snoc,if_pos (Int.le_refl _)]
theorem nowF_last{t:Int}:∀{X:List Pt},(∀x∈X,x.u≤t)→0<X.length→nowF t X=(at_ X ((X.length:Int) - 1)).v:=fun {X} h h0=>by
 rcases List.eq_nil_or_concat X with rfl|⟨Y,s,rfl⟩
 ·cases h0
 ·rw [List.concat_eq_append] at h ⊢
  rw [nowF_snoc,if_pos (h s (by simp)),show (((Y++[s]).length:Nat):Int) - 1=((Y.length:Nat):Int) by (simp<;>omega),at_last]
theorem span_keep(hH:HistOk nd kd wd mo es)(hM:MomentX (allE kd wd mo es) fst j tm own j1)(hq:(fst=true→X=[])∧(fst=false→SpanI N (allE kd wd mo es) X j))(h0:0<X.length)(hc:(at_ X ((X.length:Int) - 1)).v=N tm):SpanI N (allE kd wd mo es) X j1:=by
 have hle:=hM.le
 have hst:j1<(allE kd wd mo es).length→tm<(at_ (allE kd wd mo es) (j1:Int)).tm:=mom_next hH hM
 have hbef:=mom_bef hH hM
 cases hf:fst with
 |true=>rw [hq.1 hf] at h0;cases h0
 |false=>
  obtain ⟨n1,n2⟩:=hM.next hf
  have hS:=hq.2 hf
  obtain ⟨l1,l2,l3⟩:=hS.lt n1
  have hadv:=hM.adv hf
  refine ⟨h0,hS.h0,hS.up,fun hj=>⟨fun x hx=>?_,?_,fun i hi=>?_⟩,hS.now0,fun i hi=>?_,by have:=hS.cnt;omega⟩
  ·have:=l1 x hx;have:=hst hj;omega
  ·have:=hst hj;omega
  ·have:=hbef i hi;have:=hst hj;omega
  ·by_cases h:i<j
   ·exact hS.now i h
   ·rw [hM.same i om hi,nowF_last (fun x hx=>by have:=l1 x hx;omega) h0,hc]
end
def numT(nd kd wd mo:Int)(es:List Ev)(v t:Int):Int:=at_ (coreN nd (atG kd wd mo es t)) v
theorem allE_len{nd kd wd mo:Int}{es:List Ev}(hH:HistOk nd kd wd mo es)(hlen:es.length≤19):(allE kd wd mo es).length≤57:=by
 have h2:=hH.len2
 have h3:=hH.len
 have h4:=lateL_len kd wd (linksL (slideS kd wd mo es).2)
 unfold allE
 rw [List.length_append,(Ee _ _).length_eq]
 omega
theorem span_len{kd wd mo tm:Int}{es:List Ev}{fst own:Bool}{j j1:Nat}{N:Int→Int}{X:List Pt}(hM:MomentX (allE kd wd mo es) fst j tm own j1)(hall:(allE kd wd mo es).length≤57)(hq:(fst=true→X=[])∧(fst=false→SpanI N (allE kd wd mo es) X j)):X.length≤58:=by
 have h1:=hM.le
 cases hf:fst with
 |true=>rw [hq.1 hf];simp
 |false=>have h2:=(hq.2 hf).cnt;omega
set_option maxHeartbeats 2000000 in
theorem AHist_ok{κ:Ctx}{I:List Item}{nd kd wd mo v:Int}{ea:Option Addr}{ec:Nat}{es:List Ev}(hl:Sl κ I (.slice ea es.length ec) es)(hH:HistOk nd kd wd mo es)(hlen:es.length≤19)(hv:0≤v∧v<nd)(hT:TabRd κ I 0 tzCells) :
    CallS Tryz.prog κ 52 [I64 (nd),.slice ea es.length ec,.agg #[I64 (kd),I64 (wd),I64 (mo)],I64 (v)] I (fun r J=>∃a c X,r = .tuple #[.slice a X.length c,I64 0]∧SpanI (numT nd kd wd mo es v) (allE kd wd mo es) X (allE kd wd mo es).length∧J=vc 117 (.slice a X.length c) X::I):=by
 have hall:(allE kd wd mo es).length≤57:=allE_len hH hlen
 refine CallS.enterM (L:=[(0,I64 (nd)),(1,.slice ea es.length ec),(2,.agg #[I64 (kd),I64 (wd),I64 (mo)]),(3,I64 (v))]) Tryz.func52 rfl rfl rfl rfl ?_
 refine Ai (Ge1 (Bd (cs:=[_,_,_]) rfl rfl rfl) fun b1=>Ge1 (Bd (cs:=[_]) rfl rfl rfl) fun b2=>Ge1 (A8 ty81 rfl) fun b3=>Ge1 (A8 ty36 rfl) fun b4=>Af (Au (Ai (Gm rfl (Gm rfl (Gl3 ty31 ?_))))))
 refine Gc0 (Ap call97 rfl rfl (ACheck_ok (nd:=nd) (kd:=kd) (wd:=wd) (mo:=mo) (Bj hl))) ?_
 refine Ga rfl (Af (Ai (Gm rfl (Gr (Be rfl rfl) (Af (Ar (S8 21 10 9 8 7 6 0 1 rfl rfl rfl rfl rfl rfl rfl rfl) (A7 rfl (fun c21=>?_) (fun c21=>?_))))))))
 ·exact absurd (slideE_zeroH hH) c21
 ·refine Aw (Aj (Au (Ai (Gl ty3 ?_))))
  refine Gr (A9 rfl rfl) (Gm rfl (Bb (d:=25) rfl (fun g25=>?_) (fun g25=>?_)))
  ·omega
  ·refine Gro (As ty3) ?_
   refine Gro (Ad rfl) (Gro (B6 rfl rfl) (Gr (Al rfl rfl) (Af (Ar (S7 29 9 8 7 6 0 1 rfl rfl rfl rfl rfl rfl rfl) (A7 rfl (fun c29=>?_) (fun c29=>?_))))))
   ·omega
   ·refine Aw (Aj (Ai (Ge1 (A8 ty81 rfl) fun b5=>Af (Au (Ai (Gm rfl (Gm rfl (Gl3 ty31 ?_))))))))
    refine G.e (Ap call98 rfl rfl Frames_ok) ?_
    rintro _ _ ⟨_,_,⟨qb6,qb7,qb8,rfl,rfl⟩,rfl,rfl⟩
    refine Af (A4 (W.fit (J:=blk b5 [.slice none 0 0] 81::vc 117 (.slice none 0 0) (([]:List Pt))::blk qb8 [I64 (kd),I64 (wd),I64 (mo)] 31::blk qb7 [.slice ea es.length ec] 28::blk qb6 [I64 (nd)] 3::blk b4 [I64 (0)] 36::blk b3 [.slice none 0 0] 81::blk b2 [I64 (v)] 3::blk b1 [I64 (kd),I64 (wd),I64 (mo)] 31::I) (Cg (Bw (α:=Pt) 117 _) Bt) ?_))
    refine W.rangeFnB (gf:=165) (lb:=[.pointer (some ⟨qb6,0,none⟩),.pointer (some ⟨qb7,0,none⟩),.pointer (some ⟨qb8,0,none⟩)]) rfl call165 fun Dm l rc hr1 hr2 hr3 hr4 hta=>?_
    refine (Frames1_ok (I:=blk qb8 [I64 (kd),I64 (wd),I64 (mo)] 31::blk qb7 [.slice ea es.length ec] 28::blk qb6 [I64 (nd)] 3::blk b4 [I64 (0)] 36::blk b3 [.slice none 0 0] 81::blk b2 [I64 (v)] 3::blk b1 [I64 (kd),I64 (wd),I64 (mo)] 31::I) (σ:=(Option Addr)×Nat×(List Pt)) (τ:=Nat) (l:=l) (Lf:=fun s=>[recI l rc,dfrI Dm,blk b5 [.slice s.1 s.2.2.length s.2.1] 81,vc 117 (.slice s.1 s.2.2.length s.2.1) (s.2.2)]) (Pf:=fun fst j s=>((fst=true→s.2.2=[])∧(fst=false→SpanI (numT nd kd wd mo es v) (allE kd wd mo es) s.2.2 j))) (Xf:=fun s=>[recI l {rc with state:= .done,pending:=some .ret},dfrI Dm,blk b5 [.slice none 0 0] 81]) (Qf:=fun s=>(False)) (s0:=(none,0,([]:List Pt))) hH hlen (Ci mm) (Ci mm) (Ci mm) (Bj hl) ⟨fun _=>rfl,fun h=>(by cases h)⟩ ?_).mono ?_
    ·rintro T hTI fst j tm own j1 ga gc hM ⟨a,c,X⟩ hp
     have hq:((fst=true→X=[])∧(fst=false→SpanI (numT nd kd wd mo es v) (allE kd wd mo es) X j)):=hp
     have hbq:BlkRd κ T b2 [I64 (v)] 3:=(Ci (I:=blk qb8 [I64 (kd),I64 (wd),I64 (mo)] 31::blk qb7 [.slice ea es.length ec] 28::blk qb6 [I64 (nd)] 3::blk b4 [I64 (0)] 36::blk b3 [.slice none 0 0] 81::blk b2 [I64 (v)] 3::blk b1 [I64 (kd),I64 (wd),I64 (mo)] 31::I) mm).fit hTI
     have hTT:TabRd κ T 0 tzCells:=(B9 (J:=blk qb8 [I64 (kd),I64 (wd),I64 (mo)] 31::blk qb7 [.slice ea es.length ec] 28::blk qb6 [I64 (nd)] 3::blk b4 [I64 (0)] 36::blk b3 [.slice none 0 0] 81::blk b2 [I64 (v)] 3::blk b1 [I64 (kd),I64 (wd),I64 (mo)] 31::I) hT A0).fit hTI
     have hmg:=mom_graph hH hM
     have hGr:GrOk nd (edgesK (linksL ((allE kd wd mo es).take j1))):=by rw [hmg];exact hH.graph tm
     have hcz:=checkG_ok.2 hGr
     have hcn:=coreN_lenG hGr
     have hNN:at_ (coreN nd (edgesK (linksL ((allE kd wd mo es).take j1)))) v=(numT nd kd wd mo es v) tm:=by rw [hmg];rfl
     have hXl:X.length≤58:=span_len hM hall hq
     refine YieldB.fit (J:=recI l rc::vc 135 (.slice ga (edgesK (linksL ((allE kd wd mo es).take j1))).length gc) (edgesK (linksL ((allE kd wd mo es).take j1)))::dfrI Dm::blk b5 [.slice a X.length c] 81::vc 117 (.slice a X.length c) (X)::T) Bt ?_
     refine YieldB.mkA (L₀:=[(35,.agg #[I64 (nd),.slice ga (edgesK (linksL ((allE kd wd mo es).take j1))).length gc]),(34,.agg #[I64 (tm),.bool (own)]),(33,.func (.func 165) #[] #[.pointer (some ⟨qb6,0,none⟩),.pointer (some ⟨qb7,0,none⟩),.pointer (some ⟨qb8,0,none⟩)]),(32,.agg #[I64 (kd),I64 (wd),I64 (mo)]),(31,.slice ea es.length ec),(30,I64 (nd)),(11,.pointer (some ⟨b5,0,none⟩)),(29,.bool (decide (nd≤v))),(9,.pointer (some ⟨b4,0,none⟩)),(8,.pointer (some ⟨b3,0,none⟩)),(7,.pointer (some ⟨b2,0,none⟩)),(6,.pointer (some ⟨b1,0,none⟩)),(0,I64 (nd)),(1,.slice ea es.length ec)]) (by rw [hr2];rfl) hr3 hr4 (by rw [hr2,fold_two];exact ag_two hta rfl rfl) ?_
     refine D7 ?_
     refine C3 (fun _ _ h=>False.elim h) rfl ?_
     refine Ge1 (A8 ty153 rfl) fun b9=>Ge0 (Ce ty153) ?_
     refine Bc (Dn ?_)
     refine Ex (L':=[(12,_),(35,_),(11,_),(9,_),(8,_),(7,_)]) (Aa rfl (Aa rfl (Aa rfl (Aa rfl (Aa rfl (Aa rfl Bg)))))) ?_
     refine C3 (fun _ _ h=>False.elim h) rfl ?_
     refine Ge1 (A8 ty48 rfl) fun b10=>Ge0 (Ce ty48) ?_
     refine Bc (V.begin (blk b10 [I64 (nd),.slice ga (edgesK (linksL ((allE kd wd mo es).take j1))).length gc] 48::blk b9 [I64 (tm),.bool (own)] 153::vc 135 (.slice ga (edgesK (linksL ((allE kd wd mo es).take j1))).length gc) (edgesK (linksL ((allE kd wd mo es).take j1)))::dfrI Dm::blk b5 [.slice a X.length c] 81::vc 117 (.slice a X.length c) (X)::T) Bt hr1 ?_)
     refine WR.block ?_
     refine D7 ?_
     refine C3 (fun _ _ h=>False.elim h) rfl ?_
     refine Gl2 ty48 ?_
     refine Gc2 (Ap call104 rfl rfl (CNumbers_ok (nd:=nd) Bf (B9 hTT A0))) fun ad11 cp12=>?_
     refine Gm rfl (Gr (A2 rfl rfl) (Gr (A2 rfl rfl) (Ga rfl (Ga rfl (Bc (Dn ?_))))))
     refine Ex (L':=[(15,_),(14,_),(12,_),(11,_),(9,_),(8,_),(7,_)]) (Aa rfl (Aa rfl (Aa rfl (Aa rfl (Aa rfl (Aa rfl (Aa rfl Bg))))))) ?_
     refine D7 ?_
     refine D7 ?_
     refine C3 (fun _ _ h=>False.elim h) rfl ?_
     refine Gm rfl (Gr (Be rfl rfl) (Bc (Dn ?_)))
     refine WR.ite rfl (fun c42=>?_) (fun c42=>?_)
     ·exact absurd hcz c42
     ·refine WR.skip ?_
      refine Dn ?_
      refine D7 ?_
      refine WR.drawn mixed (fun _ _ h=>False.elim h) rfl ?_
      refine Bo (vc 3 (.slice ad11 (coreN nd (edgesK (linksL ((allE kd wd mo es).take j1)))).length cp12) (coreN nd (edgesK (linksL ((allE kd wd mo es).take j1))))::recI l {rc with state:= .busy}::blk b10 [I64 (nd),.slice ga (edgesK (linksL ((allE kd wd mo es).take j1))).length gc] 48::blk b9 [I64 (tm),.bool (own)] 153::vc 135 (.slice ga (edgesK (linksL ((allE kd wd mo es).take j1))).length gc) (edgesK (linksL ((allE kd wd mo es).take j1)))::dfrI Dm::blk b5 [.slice a X.length c] 81::vc 117 (.slice a X.length c) (X)::T) 17 (Dr 0 rfl (As ty81) ?_)
      refine Dr 1 rfl (Bp B5 rfl) (Dr 2 rfl (Bi rfl rfl) (Dr 3 rfl (Ad rfl) (C7 (d:=47) rfl (fun g47=>?_) (fun g47=>?_))))
      ·refine Dpo 4 rfl (Dpo 5 rfl (Dpo 6 rfl (Dpo 7 rfl (Dpo 8 rfl (Dpo 9 rfl (Dpo 10 rfl (Dpo 11 rfl (Dpo 12 rfl (Dpo 13 rfl (Dpo 14 rfl (Dpo 15 rfl (Dr 16 rfl (Ao rfl rfl) (Dz (Dn ?_))))))))))))))
       refine Ex (L':=[(60,_),(14,_),(12,_),(11,_),(7,_)]) (Aa rfl (Aa rfl (Aa rfl (Aa rfl (Aa rfl Bg))))) ?_
       refine WR.yes rfl ?_
       refine WR.drawn mixed (fun _ _ h=>False.elim h) rfl ?_
       refine Bo (vc 3 (.slice ad11 (coreN nd (edgesK (linksL ((allE kd wd mo es).take j1)))).length cp12) (coreN nd (edgesK (linksL ((allE kd wd mo es).take j1))))::recI l {rc with state:= .busy}::blk b10 [I64 (nd),.slice ga (edgesK (linksL ((allE kd wd mo es).take j1))).length gc] 48::blk b9 [I64 (tm),.bool (own)] 153::vc 135 (.slice ga (edgesK (linksL ((allE kd wd mo es).take j1))).length gc) (edgesK (linksL ((allE kd wd mo es).take j1)))::dfrI Dm::T) 11 (Dr 1 rfl (Ab fld153_0 rfl) (Dr 2 rfl (As ty3) ?_))
       refine Dr 3 rfl (Ad rfl) (Dr 4 rfl (Co ty3 rfl (Cm hbq A0) rfl) (Dr 5 rfl (A3 (α:=Int) (xs:=coreN nd (edgesK (linksL ((allE kd wd mo es).take j1)))) Ac ty3 rfl rfl Bf om om) (Dr 6 rfl (Br (xs:=coreN nd (edgesK (linksL ((allE kd wd mo es).take j1)))) ty3 rfl Bf om om) (Dr 7 rfl (Bl (cells:=[_,_]) ty117 Tryz.underlying117 pl117 rfl rfl) (Dq (rs:=[0,8]) kr rfl rfl (Ej ?_ (Ew ?_)))))))
       ·refine Sr rfl (As ty81) A5 ?_
        refine Ds1 8 (Se1 rfl (B1 (α:=Pt) (cs:=[_,_]) (xs:=[⟨tm,at_ (coreN nd (edgesK (linksL ((allE kd wd mo es).take j1)))) v⟩]) B5 ty117 rfl rfl dc dc rfl rfl rfl rfl) fun ad13=>?_)
        refine Ds1 9 (Se2 rfl (B0 (α:=Pt) (e:=117) (xs:=X) (ys:=([⟨tm,at_ (coreN nd (edgesK (linksL ((allE kd wd mo es).take j1)))) v⟩]:List Pt)) B5 ty117 rfl rfl rfl mm Bf lcn dc rfl (fun _ _=>am)) fun ad14 cp15=>?_)
        refine Ds1 10 (Se0 rfl (Cy (cs:=[_]) (vs:=[_]) (cs':=[_]) ty81) ?_)
        exact Dz (Ak (Ef (dfrI Dm::blk b5 [.slice ad14 (X++([⟨tm,at_ (coreN nd (edgesK (linksL ((allE kd wd mo es).take j1)))) v⟩]:List Pt)).length cp15] 81::vc 117 (.slice ad14 (X++([⟨tm,at_ (coreN nd (edgesK (linksL ((allE kd wd mo es).take j1)))) v⟩]:List Pt)).length cp15) ((X++([⟨tm,at_ (coreN nd (edgesK (linksL ((allE kd wd mo es).take j1)))) v⟩]:List Pt)))::T) Bt hr1 (.inl ⟨rfl,(ad14,cp15,X++([⟨tm,at_ (coreN nd (edgesK (linksL ((allE kd wd mo es).take j1)))) v⟩]:List Pt)),(show ((false=true→(X++([⟨tm,at_ (coreN nd (edgesK (linksL ((allE kd wd mo es).take j1)))) v⟩]:List Pt))=[])∧(false=false→SpanI (numT nd kd wd mo es v) (allE kd wd mo es) (X++([⟨tm,at_ (coreN nd (edgesK (linksL ((allE kd wd mo es).take j1)))) v⟩]:List Pt)) j1)) from ⟨(fun h=>by cases h),fun _=>(by have hS:=span_add hH hM hq (by first|exact fun h=>absurd h om|exact fun _=>by rw [←hNN];assumption);rw [←hNN] at hS;exact hS)⟩),rfl⟩)))
       ·refine Se1 rfl (B1 (α:=Pt) (cs:=[_,_]) (xs:=[⟨tm,at_ (coreN nd (edgesK (linksL ((allE kd wd mo es).take j1)))) v⟩]) B5 ty117 rfl rfl dc dc rfl rfl rfl rfl) fun ad16=>?_
        refine Ds1 0 (Sr rfl (As ty81) A5 ?_)
        refine Ds1 9 (Se2 rfl (B0 (α:=Pt) (e:=117) (xs:=X) (ys:=([⟨tm,at_ (coreN nd (edgesK (linksL ((allE kd wd mo es).take j1)))) v⟩]:List Pt)) B5 ty117 rfl rfl rfl mm Bf lcn dc rfl (fun _ _=>am)) fun ad17 cp18=>?_)
        refine Ds1 10 (Se0 rfl (Cy (cs:=[_]) (vs:=[_]) (cs':=[_]) ty81) ?_)
        exact Dz (Ak (Ef (dfrI Dm::blk b5 [.slice ad17 (X++([⟨tm,at_ (coreN nd (edgesK (linksL ((allE kd wd mo es).take j1)))) v⟩]:List Pt)).length cp18] 81::vc 117 (.slice ad17 (X++([⟨tm,at_ (coreN nd (edgesK (linksL ((allE kd wd mo es).take j1)))) v⟩]:List Pt)).length cp18) ((X++([⟨tm,at_ (coreN nd (edgesK (linksL ((allE kd wd mo es).take j1)))) v⟩]:List Pt)))::T) Bt hr1 (.inl ⟨rfl,(ad17,cp18,X++([⟨tm,at_ (coreN nd (edgesK (linksL ((allE kd wd mo es).take j1)))) v⟩]:List Pt)),(show ((false=true→(X++([⟨tm,at_ (coreN nd (edgesK (linksL ((allE kd wd mo es).take j1)))) v⟩]:List Pt))=[])∧(false=false→SpanI (numT nd kd wd mo es v) (allE kd wd mo es) (X++([⟨tm,at_ (coreN nd (edgesK (linksL ((allE kd wd mo es).take j1)))) v⟩]:List Pt)) j1)) from ⟨(fun h=>by cases h),fun _=>(by have hS:=span_add hH hM hq (by first|exact fun h=>absurd h om|exact fun _=>by rw [←hNN];assumption);rw [←hNN] at hS;exact hS)⟩),rfl⟩)))
      ·refine Dro 4 rfl (As ty81) ?_
       refine Dro 5 rfl (As ty81) ?_
       refine Dro 6 rfl (Bp B5 rfl) (Dro 7 rfl (Rsu rfl rfl) (Dro 8 rfl (A3 (α:=Pt) (xs:=X) B5 ty117 rfl rfl Bf om om) (Dro 9 rfl (C0 (α:=Pt) (xs:=X) fld117_1 rfl Bf om) (Dro 10 rfl (C1 (α:=Pt) (xs:=X) (u:=I64 ((at_ X (((X.length:Nat):Int) - 1)).v)) ty3 rfl Bf om om rfl) (Dro 11 rfl (Ad rfl) (Dro 12 rfl (Co ty3 rfl (Cm hbq A0) rfl) (Dro 13 rfl (A3 (α:=Int) (xs:=coreN nd (edgesK (linksL ((allE kd wd mo es).take j1)))) Ac ty3 rfl rfl Bf om om) (Dro 14 rfl (Br (xs:=coreN nd (edgesK (linksL ((allE kd wd mo es).take j1)))) ty3 rfl Bf om om) (Dro 15 rfl (Be rfl rfl) (Dr 16 rfl (Al rfl rfl) (Dz (Dn ?_))))))))))))
       refine Ex (L':=[(60,_),(14,_),(12,_),(11,_),(7,_)]) (Aa rfl (Aa rfl (Aa rfl (Aa rfl (Aa rfl Bg))))) ?_
       refine WR.ite rfl (fun c60=>?_) (fun c60=>?_)
       ·refine WR.drawn mixed (fun _ _ h=>False.elim h) rfl ?_
        refine Bo (vc 3 (.slice ad11 (coreN nd (edgesK (linksL ((allE kd wd mo es).take j1)))).length cp12) (coreN nd (edgesK (linksL ((allE kd wd mo es).take j1))))::recI l {rc with state:= .busy}::blk b10 [I64 (nd),.slice ga (edgesK (linksL ((allE kd wd mo es).take j1))).length gc] 48::blk b9 [I64 (tm),.bool (own)] 153::vc 135 (.slice ga (edgesK (linksL ((allE kd wd mo es).take j1))).length gc) (edgesK (linksL ((allE kd wd mo es).take j1)))::dfrI Dm::T) 11 (Dr 1 rfl (Ab fld153_0 rfl) (Dr 2 rfl (As ty3) ?_))
        refine Dr 3 rfl (Ad rfl) (Dr 4 rfl (Co ty3 rfl (Cm hbq A0) rfl) (Dr 5 rfl (A3 (α:=Int) (xs:=coreN nd (edgesK (linksL ((allE kd wd mo es).take j1)))) Ac ty3 rfl rfl Bf om om) (Dr 6 rfl (Br (xs:=coreN nd (edgesK (linksL ((allE kd wd mo es).take j1)))) ty3 rfl Bf om om) (Dr 7 rfl (Bl (cells:=[_,_]) ty117 Tryz.underlying117 pl117 rfl rfl) (Dq (rs:=[0,8]) kr rfl rfl (Ej ?_ (Ew ?_)))))))
        ·refine Sr rfl (As ty81) A5 ?_
         refine Ds1 8 (Se1 rfl (B1 (α:=Pt) (cs:=[_,_]) (xs:=[⟨tm,at_ (coreN nd (edgesK (linksL ((allE kd wd mo es).take j1)))) v⟩]) B5 ty117 rfl rfl dc dc rfl rfl rfl rfl) fun ad19=>?_)
         refine Ds1 9 (Se2 rfl (B0 (α:=Pt) (e:=117) (xs:=X) (ys:=([⟨tm,at_ (coreN nd (edgesK (linksL ((allE kd wd mo es).take j1)))) v⟩]:List Pt)) B5 ty117 rfl rfl rfl mm Bf lcn dc rfl (fun _ _=>am)) fun ad20 cp21=>?_)
         refine Ds1 10 (Se0 rfl (Cy (cs:=[_]) (vs:=[_]) (cs':=[_]) ty81) ?_)
         exact Dz (Ak (Ef (dfrI Dm::blk b5 [.slice ad20 (X++([⟨tm,at_ (coreN nd (edgesK (linksL ((allE kd wd mo es).take j1)))) v⟩]:List Pt)).length cp21] 81::vc 117 (.slice ad20 (X++([⟨tm,at_ (coreN nd (edgesK (linksL ((allE kd wd mo es).take j1)))) v⟩]:List Pt)).length cp21) ((X++([⟨tm,at_ (coreN nd (edgesK (linksL ((allE kd wd mo es).take j1)))) v⟩]:List Pt)))::T) Bt hr1 (.inl ⟨rfl,(ad20,cp21,X++([⟨tm,at_ (coreN nd (edgesK (linksL ((allE kd wd mo es).take j1)))) v⟩]:List Pt)),(show ((false=true→(X++([⟨tm,at_ (coreN nd (edgesK (linksL ((allE kd wd mo es).take j1)))) v⟩]:List Pt))=[])∧(false=false→SpanI (numT nd kd wd mo es v) (allE kd wd mo es) (X++([⟨tm,at_ (coreN nd (edgesK (linksL ((allE kd wd mo es).take j1)))) v⟩]:List Pt)) j1)) from ⟨(fun h=>by cases h),fun _=>(by have hS:=span_add hH hM hq (by first|exact fun h=>absurd h om|exact fun _=>by rw [←hNN];assumption);rw [←hNN] at hS;exact hS)⟩),rfl⟩)))
        ·refine Se1 rfl (B1 (α:=Pt) (cs:=[_,_]) (xs:=[⟨tm,at_ (coreN nd (edgesK (linksL ((allE kd wd mo es).take j1)))) v⟩]) B5 ty117 rfl rfl dc dc rfl rfl rfl rfl) fun ad22=>?_
         refine Ds1 0 (Sr rfl (As ty81) A5 ?_)
         refine Ds1 9 (Se2 rfl (B0 (α:=Pt) (e:=117) (xs:=X) (ys:=([⟨tm,at_ (coreN nd (edgesK (linksL ((allE kd wd mo es).take j1)))) v⟩]:List Pt)) B5 ty117 rfl rfl rfl mm Bf lcn dc rfl (fun _ _=>am)) fun ad23 cp24=>?_)
         refine Ds1 10 (Se0 rfl (Cy (cs:=[_]) (vs:=[_]) (cs':=[_]) ty81) ?_)
         exact Dz (Ak (Ef (dfrI Dm::blk b5 [.slice ad23 (X++([⟨tm,at_ (coreN nd (edgesK (linksL ((allE kd wd mo es).take j1)))) v⟩]:List Pt)).length cp24] 81::vc 117 (.slice ad23 (X++([⟨tm,at_ (coreN nd (edgesK (linksL ((allE kd wd mo es).take j1)))) v⟩]:List Pt)).length cp24) ((X++([⟨tm,at_ (coreN nd (edgesK (linksL ((allE kd wd mo es).take j1)))) v⟩]:List Pt)))::T) Bt hr1 (.inl ⟨rfl,(ad23,cp24,X++([⟨tm,at_ (coreN nd (edgesK (linksL ((allE kd wd mo es).take j1)))) v⟩]:List Pt)),(show ((false=true→(X++([⟨tm,at_ (coreN nd (edgesK (linksL ((allE kd wd mo es).take j1)))) v⟩]:List Pt))=[])∧(false=false→SpanI (numT nd kd wd mo es v) (allE kd wd mo es) (X++([⟨tm,at_ (coreN nd (edgesK (linksL ((allE kd wd mo es).take j1)))) v⟩]:List Pt)) j1)) from ⟨(fun h=>by cases h),fun _=>(by have hS:=span_add hH hM hq (by first|exact fun h=>absurd h om|exact fun _=>by rw [←hNN];assumption);rw [←hNN] at hS;exact hS)⟩),rfl⟩)))
       ·refine WR.skip ?_
        exact Ak (Ef (dfrI Dm::blk b5 [.slice a X.length c] 81::vc 117 (.slice a X.length c) (X)::T) Bt hr1 (.inl ⟨rfl,(a,c,X),(show ((false=true→X=[])∧(false=false→SpanI (numT nd kd wd mo es v) (allE kd wd mo es) X j1)) from ⟨(fun h=>by cases h),fun _=>span_keep hH hM hq om (Classical.not_not.1 (by rw [←hNN];exact c60))⟩),rfl⟩))
    rintro v K ⟨rfl,(⟨⟨a,c,X⟩,hp,rfl⟩|⟨z_,hp,rfl⟩)⟩
    ·have hq:((false=true→X=[])∧(false=false→SpanI (numT nd kd wd mo es v) (allE kd wd mo es) X (allE kd wd mo es).length)):=hp
     refine .inl ⟨_,rfl,?_⟩
     show V κ _ _ .normal ([(33,.func (.func 165) #[] #[.pointer (some ⟨qb6,0,none⟩),.pointer (some ⟨qb7,0,none⟩),.pointer (some ⟨qb8,0,none⟩)]),(32,.agg #[I64 (kd),I64 (wd),I64 (mo)]),(31,.slice ea es.length ec),(30,I64 (nd)),(11,.pointer (some ⟨b5,0,none⟩)),(29,.bool (decide (nd≤v))),(9,.pointer (some ⟨b4,0,none⟩)),(8,.pointer (some ⟨b3,0,none⟩)),(7,.pointer (some ⟨b2,0,none⟩)),(6,.pointer (some ⟨b1,0,none⟩)),(0,I64 (nd)),(1,.slice ea es.length ec)]:Env) (dfrI Dm::blk b5 [.slice a X.length c] 81::vc 117 (.slice a X.length c) (X)::blk qb8 [I64 (kd),I64 (wd),I64 (mo)] 31::blk qb7 [.slice ea es.length ec] 28::blk qb6 [I64 (nd)] 3::blk b4 [I64 (0)] 36::blk b3 [.slice none 0 0] 81::blk b2 [I64 (v)] 3::blk b1 [I64 (kd),I64 (wd),I64 (mo)] 31::I)
     have hX:=hq.2 rfl
     refine Ak (Aj (Ai (Gl ty81 ?_)))
     refine Ge0 (Cy (cs:=[_]) (vs:=[_]) (cs':=[_]) ty81) ?_
     refine Ge0 (Cy (cs:=[_]) (vs:=[_]) (cs':=[_]) ty36) ?_
     refine Af (Ax (V.fit (J:=dfrI Dm::blk b5 [.slice a X.length c] 81::vc 117 (.slice a X.length c) (X)::blk qb8 [I64 (kd),I64 (wd),I64 (mo)] 31::blk qb7 [.slice ea es.length ec] 28::blk qb6 [I64 (nd)] 3::blk b4 [I64 (0)] 36::blk b3 [.slice a X.length c] 81::blk b2 [I64 (v)] 3::blk b1 [I64 (kd),I64 (wd),I64 (mo)] 31::I) Bt (V.leave ?_)))
     exact V.retvv rfl ty81 ty36 rfl rfl mm mm (vc 117 (.slice a X.length c) X::I) Bt ⟨a,c,X,rfl,hX,rfl⟩
    ·have hQ:(False):=hp
     refine .inr ⟨_,_,rfl,?_⟩
     show W Tryz.prog κ _ _ _ ([(33,.func (.func 165) #[] #[.pointer (some ⟨qb6,0,none⟩),.pointer (some ⟨qb7,0,none⟩),.pointer (some ⟨qb8,0,none⟩)]),(32,.agg #[I64 (kd),I64 (wd),I64 (mo)]),(31,.slice ea es.length ec),(30,I64 (nd)),(11,.pointer (some ⟨b5,0,none⟩)),(29,.bool (decide (nd≤v))),(9,.pointer (some ⟨b4,0,none⟩)),(8,.pointer (some ⟨b3,0,none⟩)),(7,.pointer (some ⟨b2,0,none⟩)),(6,.pointer (some ⟨b1,0,none⟩)),(0,I64 (nd)),(1,.slice ea es.length ec)]:Env) (dfrI Dm::blk b5 [.slice none 0 0] 81::blk qb8 [I64 (kd),I64 (wd),I64 (mo)] 31::blk qb7 [.slice ea es.length ec] 28::blk qb6 [I64 (nd)] 3::blk b4 [I64 (0)] 36::blk b3 [.slice none 0 0] 81::blk b2 [I64 (v)] 3::blk b1 [I64 (kd),I64 (wd),I64 (mo)] 31::I)
     refine Ax (Av (Ah ?_))
     exact hQ.elim
end Go.Sl
/- The densest set as the best of all sets, each once: the greatest set of the greatest density. No Go. No conditions. -/
namespace Go.Sl
end Go.Sl
namespace Go.Sl
open Go.Proofs
set_option maxRecDepth 4000
theorem edges_sq{nd:Int}{es:List Pt}(hG:GrOk nd es):es.length≤nd.toNat*nd.toNat:=by
 have hs:∀e∈es,e∈(List.range nd.toNat).flatMap fun (v:Nat)=>(List.range nd.toNat).map fun (u:Nat)=>(⟨(u:Int),(v:Int)⟩:Pt):=fun e he=>by
  have h:=hG.edge e he
  have hr:=hG.rng
  refine List.mem_flatMap.2 ⟨e.v.toNat,List.mem_range.2 om,List.mem_map.2 ⟨e.u.toNat,List.mem_range.2 om,?_⟩⟩
  rw [Pt.ext_iff']
  exact ⟨by show ((e.u.toNat:Nat):Int)=e.u;omega,by show ((e.v.toNat:Nat):Int)=e.v;omega⟩
 have hl:=List.Nodup.length_le_of_subset (asc_nodup hG.asc) hs
 rw [flat_len _ nd.toNat (fun v=>by rw [List.length_map,List.length_range])] at hl
 exact hl
theorem edges_7{nd:Int}{es:List Pt}(hG:GrOk nd es)(h7:nd≤7):es.length≤1000:=by
 have h1:=edges_sq hG
 have h2:nd.toNat*nd.toNat≤7*7:=Nat.mul_le_mul om om
 omega
end Go.Sl
