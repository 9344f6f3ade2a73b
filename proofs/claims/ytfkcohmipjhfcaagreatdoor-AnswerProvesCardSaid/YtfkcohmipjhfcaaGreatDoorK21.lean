/- A part of the proofs of statements of this seat: contracts of functions, and the plain laws that they lean on. No conditions. -/
import Derived.Test.YtfkcohmipjhfcaaGreatDoorK20
import Derived.OrdersIn
set_option linter.unusedVariables false
set_option linter.unusedSimpArgs false
set_option linter.unusedSectionVars false
open Go.Proofs.Tryz (prog)
namespace Go.Sl
open Go.Proofs
set_option maxRecDepth 4000
variable {κ:Ctx}{I:List Item}
theorem small3{W:BitVec 64}(h:subN 3 W):∃k:Fin 8,W=BitVec.ofNat 64 k.val:=by
 have hb:∀i:Nat,3<=i->W.getLsbD i=false:=λi hi=>by
  by_cases h64:i<64
  ·cases hc:W.getLsbD i with
   |false=>rfl
   |true=>
    have:=h (i:Int) (mem_listB.2 ⟨by omega,by rw [Int.toNat_natCast];exact hc⟩)
    omega
  ·exact BitVec.getLsbD_of_ge _ _ om
 have hlt:W.toNat<2 ^ 3:=by
  refine Nat.lt_pow_two_of_testBit _ λi hi=>?_
  have:=hb i hi
  rwa [←BitVec.testBit_toNat] at this
 exact ⟨⟨W.toNat,hlt⟩,by simp⟩
abbrev gB:List Pt:=[⟨0,1⟩]
theorem densB:DensP 3 1 2 gB 3#64 where
 sub:=by unfold subN;decide+kernel
 ne:=by decide
 eq:=by decide+kernel
 max:=λW h=>by
  obtain ⟨k,rfl⟩:=small3 h
  have:∀k:Fin 8,2*insE (BitVec.ofNat 64 k.val) gB<=1*cntB (BitVec.ofNat 64 k.val):=by decide+kernel
  exact this k
 great:=λW h e=>by
  obtain ⟨k,rfl⟩:=small3 h
  have:∀k:Fin 8,2*insE (BitVec.ofNat 64 k.val) gB=1*cntB (BitVec.ofNat 64 k.val)->∀x∈eo (BitVec.ofNat 64 k.val),x∈eo 3#64:=by decide+kernel
  exact this k e
theorem grB:GrOk 3 gB:=checkG_ok.1 (by decide+kernel)
theorem bestB{N D:Int}{B:BitVec 64}(h:BestR 3 gB N D B):eo B=[0,1]/\N=1/\D=2:=by
 have hz:=checkG_ok.2 grB
 have hR:=h.some hz dc
 have hf:=h.frv grB
 have hu:=densB.uniq dc hR.den.1 hR.dens
 have hd:=hR.den
 have hD:D=2*N:=by omega
 have hN:0<N:=by omega
 have hc:gcdI N (2*N)=1:=by have:=hf.cop;simp only at this;rw [←hD];exact this
 have h1:N=1:=by
  have h2:=gcdI_step (a:=2*N) (b:=N) om hN
  have h3:Int.tmod (2*N) N=0:=by rw [Int.mul_comm];exact Int.mul_tmod_right N 2
  rw [h3,gcdI_zero om] at h2
  have h4:=gcdI_step (a:=N) (b:=2*N) om om
  rw [Int.tmod_eq_of_lt om om] at h4
  omega
 subst h1
 have hD2:D=2:=by omega
 subst hD2
 refine ⟨?_,rfl,rfl⟩
 refine intLin.uniq (listB_asc _) dc λx=>?_
 have e3:eo 3#64=[0,1]:=by decide+kernel
 rw [←e3]
 exact ⟨λhx=>densB.great B hR.dens.sub (by have:=hR.dens.eq;exact this) x hx,λhx=>hR.dens.great 3#64 densB.sub (by have:=densB.eq;exact this) x hx⟩
abbrev evB:Ev:=⟨1,5,0,1,1,0,1⟩
theorem hist_B:HistOk 3 1 0 0 [evB]:=⟨⟨by decide,by decide,λj hj=>by
 obtain rfl:j=0:=by simp at hj;exact hj
 exact fitE_ok.1 dc,λj hj=>by
 obtain rfl:j=0:=by simp at hj;exact hj
 decide⟩,by decide⟩
theorem all_B:allE 1 0 0 [evB]=[evB]:=by unfold allE;rw [all_same];decide
theorem at_B:atG 1 0 0 [evB] 5=gB:=by unfold atG atK;rw [all_B];decide
theorem reach_B:reachQ 3 1 0 0 [evB] 1 2 5:=by
 unfold reachQ densQ
 rw [at_B,if_neg dc]
 exact ⟨3#64,densB.sub,densB.ne,by decide+kernel⟩
theorem first_B(tv:Int)(ok:Bool)(h:FirstP 1 0 0 [evB] (reachQ 3 1 0 0 [evB] 1 2) tv ok):tv=5/\ok=true:=by
 rcases h with ⟨h1,⟨e,he,h2⟩,_⟩|⟨_,_,h3⟩
 ·rw [all_B,List.mem_singleton] at he
  subst he
  exact ⟨h2.symm,h1⟩
 ·exact absurd reach_B (h3 evB (by rw [all_B];exact List.mem_singleton.2 rfl))
set_option maxHeartbeats 1000000 in
theorem AnsFirst_ok{nd kd wd mo num den T0:Int}{ea:Option Addr}{ec:Nat}{es:List Ev}(hl:Sl κ I (.slice ea es.length ec) es)(hH:HistOk nd kd wd mo es)(hlen:es.length<=19)(hf:FrV ⟨num,den⟩)(hT0:∀tv ok,FirstP kd wd mo es (reachQ nd kd wd mo es num den) tv ok->tv=T0/\ok=true)(ht0:0<=T0/\T0<=1048576)(hT:TabRd κ I 0 tzCells):eu prog κ 191 [.agg #[e7 nd,.slice ea es.length ec,e7 kd,e7 wd,e7 mo],.agg #[e7 8,e7 0,e7 0,e7 0,.slice none 0 0,e7 num,e7 den]] I (λr J=>∃a c B a2 c2 parts N D E,r = .agg #[.bool true,e7 0,e7 T0,.slice a (eo B).length c,e7 N,e7 D,.slice none 0 0,.slice none 0 0,.slice none 0 0,e7 E,.slice a2 (parts:List Int).length c2]/\(BestR nd (atG kd wd mo es T0) N D B/\SplitB nd (atG kd wd mo es T0) N D E parts)/\J=vc 3 (.slice a (eo B).length c) (eo B)::vc 3 (.slice a2 parts.length c2) parts::I):=by
 refine Ce2 Tryz.func191 C C ?_
 refine Ai (Ge1 (A9 (cs:=[_,_,_,_,_]) C C C) λb1=>Ge1 (A9 (cs:=[_,_,_,_,_,_,_]) C C C) λb2=>Ge1 (Au ty90 C) λb3=>Af (Ai (Gf fld163_0 C (Gl ef ?_))))
 refine Gf fld163_1 C (Gl ty28 ?_)
 refine Gf fld163_2 C (Gl3 ty31 ?_)
 refine Gf fld71_5 C (Gl2 ty40 ?_)
 refine G.e (Ah call47 C C (AFirst_ok (nd:=nd) (kd:=kd) (wd:=wd) (mo:=mo) (num:=num) (den:=den) (Ba hl) hH hlen hf (Bx hT A3))) ?_
 rintro _ _ ⟨_,_,⟨tv4,ok5,rfl,hFPtv4,rfl⟩,rfl,rfl⟩
 obtain ⟨htvtv4,hoktv4⟩:=hT0 _ _ hFPtv4
 rw [htvtv4,hoktv4]
 refine Gm C (Gr (Aw C C) (Gr (Aw C C) (Gr (Aw C C) (Ga C (Ga C (Ga C (Af (Aq (S4 6 5 4 2 C C C C) (Ap (Ai (Gm C (Gr (B4 C) (Af (C2 C (Ay (Aj (Ai (Gr (Bd (vs:=[_,_,_,_,_]) ty163) ?_))))))))))))))))))
 refine Gm C (Gc2 (Ah call180 C C (PAt_ok (nd:=nd) (kd:=kd) (wd:=wd) (mo:=mo) (tq:=T0) (Ba hl) hH hlen ht0)) λad6 cp7=>?_)
 refine Gm C (Gr (Bc (cells:=[_,_,_,_,_,_,_,_,_,_,_]) ty90 D3 pl90 C C) (G.e (Ah call186 C C (ADense_ok (nd:=nd) (tv:=T0) Bk (Bx hT A3))) ?_))
 rintro _ _ ⟨_,_,⟨ad8,cp10,BB11,ad12,cp13,pt14,NN15,DD16,EE17,rfl,⟨hBR,hSB⟩,rfl⟩,rfl,rfl⟩
 refine Ge0 (Ce (cs:=[_,_,_,_,_,_,_,_,_,_,_]) (vs:=[_,_,_,_,_,_,_,_,_,_,_]) (cs':=[_,_,_,_,_,_,_,_,_,_,_]) ty90) ?_
 exact Af (A2 (C5 C ty90 C mm C (vc 3 (.slice ad8 (eo BB11).length cp10) (eo BB11)::vc 3 (.slice ad12 pt14.length cp13) pt14::I) B7 ⟨ad8,cp10,BB11,ad12,cp13,pt14,NN15,DD16,EE17,rfl,⟨hBR,hSB⟩,rfl⟩))
theorem Answers_ok  :
    eu prog κ 106 [] I (λr J=>∃m_:Nat,r = .map (some m_)/\J=mp m_ [({key:=e7 1,val:= .func (.func 178) #[] #[],born:=0}:MapEntry),({key:=e7 2,val:= .func (.func 181) #[] #[],born:=1}:MapEntry),({key:=e7 3,val:= .func (.func 182) #[] #[],born:=2}:MapEntry),({key:=e7 4,val:= .func (.func 184) #[] #[],born:=3}:MapEntry),({key:=e7 5,val:= .func (.func 185) #[] #[],born:=4}:MapEntry),({key:=e7 6,val:= .func (.func 187) #[] #[],born:=5}:MapEntry),({key:=e7 7,val:= .func (.func 189) #[] #[],born:=6}:MapEntry),({key:=e7 8,val:= .func (.func 191) #[] #[],born:=7}:MapEntry),({key:=e7 9,val:= .func (.func 192) #[] #[],born:=8}:MapEntry),({key:=e7 10,val:= .func (.func 193) #[] #[],born:=9}:MapEntry)] 10::I):=by
 refine Ce0 Tryz.func106 C C ?_
 refine Ai (Ga C (Af (Ai (Ge1 (Eff.makeMap C) λmr1=>?_))))
 refine Ge0 (Dn Cd Bj C C C C C am) ?_
 refine Ge0 (Dn Cd Bj C C C C C am) ?_
 refine Ge0 (Dn Cd Bj C C C C C am) ?_
 refine Ge0 (Dn Cd Bj C C C C C am) ?_
 refine Ge0 (Dn Cd Bj C C C C C am) ?_
 refine Ge0 (Dn Cd Bj C C C C C am) ?_
 refine Ge0 (Dn Cd Bj C C C C C am) ?_
 refine Ge0 (Dn Cd Bj C C C C C am) ?_
 refine Ge0 (Dn Cd Bj C C C C C am) ?_
 refine Ge0 (Dn Cd Bj C C C C C am) ?_
 exact Gm C (Ga C (Af (A2 (A6 C C (mp mr1 [({key:=e7 1,val:= .func (.func 178) #[] #[],born:=0}:MapEntry),({key:=e7 2,val:= .func (.func 181) #[] #[],born:=1}:MapEntry),({key:=e7 3,val:= .func (.func 182) #[] #[],born:=2}:MapEntry),({key:=e7 4,val:= .func (.func 184) #[] #[],born:=3}:MapEntry),({key:=e7 5,val:= .func (.func 185) #[] #[],born:=4}:MapEntry),({key:=e7 6,val:= .func (.func 187) #[] #[],born:=5}:MapEntry),({key:=e7 7,val:= .func (.func 189) #[] #[],born:=6}:MapEntry),({key:=e7 8,val:= .func (.func 191) #[] #[],born:=7}:MapEntry),({key:=e7 9,val:= .func (.func 192) #[] #[],born:=8}:MapEntry),({key:=e7 10,val:= .func (.func 193) #[] #[],born:=9}:MapEntry)] 10::I) B7 ⟨mr1,rfl,rfl⟩))))
set_option maxHeartbeats 1000000 in
theorem Ask8_ok{nd kd wd mo num den T0:Int}{ea:Option Addr}{ec:Nat}{es:List Ev}(hl:Sl κ I (.slice ea es.length ec) es)(hH:HistOk nd kd wd mo es)(hlen:es.length<=19)(hf:FrV ⟨num,den⟩)(hT0:∀tv ok,FirstP kd wd mo es (reachQ nd kd wd mo es num den) tv ok->tv=T0/\ok=true)(ht0:0<=T0/\T0<=1048576)(hT:TabRd κ I 0 tzCells):eu prog κ 56 [e7 nd,.slice ea es.length ec,.agg #[e7 kd,e7 wd,e7 mo],.agg #[e7 8,e7 0,e7 0,e7 0,.slice none 0 0,e7 num,e7 den]] I (λr J=>∃a c B a2 c2 parts N D E,r = .tuple #[.agg #[.bool true,e7 0,e7 T0,.slice a (eo B).length c,e7 N,e7 D,.slice none 0 0,.slice none 0 0,.slice none 0 0,e7 E,.slice a2 (parts:List Int).length c2],e7 0]/\(BestR nd (atG kd wd mo es T0) N D B/\SplitB nd (atG kd wd mo es T0) N D E parts)/\J=vc 3 (.slice a (eo B).length c) (eo B)::vc 3 (.slice a2 parts.length c2) parts::I):=by
 refine Ce4 Tryz.func56 C C ?_
 refine Ai (Ge1 (A9 (cs:=[_,_,_]) C C C) λb1=>Ge1 (A9 (cs:=[_,_,_,_,_,_,_]) C C C) λb2=>Ge1 (Au ty90 C) λb3=>Ga C (Af (Ap (Ai (Gm C (Gm C (Gl3 ty31 ?_)))))))
 refine Gc0 (Ah call97 C C (ACheck_ok (nd:=nd) (kd:=kd) (wd:=wd) (mo:=mo) (Ba hl))) ?_
 refine Ga C (Af (Ai (Gm C (Gr (Br C C) (Af (Aq (S7 17 10 8 7 6 0 1 C C C C C C C) (A8 C (λc17=>?_) (λc17=>?_))))))))
 ·exact absurd (slideE_zeroH hH) c17
 ·refine Ay (Aj (Ap (Ai (Gl7 ty71 ?_))))
  refine Gm C (Gc0 (Ah call105 C C (QCheck8_ok (n:=nd) hf)) ?_)
  refine Ga C (Af (Ai (Gm C (Gr (Br C C) (Af (A8 C (λc24=>?_) (λc24=>?_)))))))
  ·exact absurd rfl c24
  ·refine Ay (Aj (Ap (Bl mixed (Bt (e8 b2 [e7 8,e7 0,e7 0,e7 0,.slice none 0 0,e7 num,e7 den] 71::e8 b1 [e7 kd,e7 wd,e7 mo] 31::I) 12 (Dr 1 C (Ab fld71_0 C) (Dr 2 C (As ef) ?_))))))
   refine Dr 4 C (Ad C) (Dr 5 C (Ad C) (Dr 6 C (Bd (vs:=[_,_,_]) ty31) ?_))
   refine Dr 7 C (Bc (cells:=[_,_,_,_,_]) ty163 Eb pl163 C C) (Dr 8 C (Bd (vs:=[_,_,_,_,_,_,_]) ty71) ?_)
   refine Ds1 0 (Se C (Ah call106 C C Answers_ok) ?_)
   rintro _ _ ⟨_,_,⟨mp4,rfl,rfl⟩,rfl,rfl⟩
   refine ⟨A1,?_⟩
   refine Ds1 3 (Sr C (D7 (i:=7) Cd Bj C C C mm C) A1 ?_)
   refine Ds1 9 (Se C (Cw call191 C C C (AnsFirst_ok (nd:=nd) (kd:=kd) (wd:=wd) (mo:=mo) (num:=num) (den:=den) (T0:=T0) (ea:=ea) (ec:=ec) (es:=es) (Ba hl) hH hlen hf hT0 ht0 (Bx hT A3))) ?_)
   rintro _ _ ⟨_,_,⟨ad5,cp6,BB7,ad8,cp9,pt10,NN11,DD12,EE13,rfl,⟨hBR,hSB⟩,rfl⟩,rfl,rfl⟩
   refine ⟨A1,?_⟩
   refine Ds1 10 (Se0 C (Ce (cs:=[_,_,_,_,_,_,_,_,_,_,_]) (vs:=[_,_,_,_,_,_,_,_,_,_,_]) (cs':=[_,_,_,_,_,_,_,_,_,_,_]) ty90) ?_)
   exact Dr 11 C (Bb C) (Dz (Aj (Aq (S2 9 8 C C) (A2 (C3 C ty90 C C mm C (vc 3 (.slice ad5 (eo BB7).length cp6) (eo BB7)::vc 3 (.slice ad8 pt10.length cp9) pt10::I) B7 ⟨ad5,cp6,BB7,ad8,cp9,pt10,NN11,DD12,EE13,rfl,⟨hBR,hSB⟩,rfl⟩)))))
set_option maxHeartbeats 1000000 in
theorem Awake43_ok(hT:TabRd κ I 0 tzCells):eu prog κ 41 [] I (λr J=>r = .bool true/\I=J):=by
 refine Ce0 Tryz.func41 C C ?_
 refine Ai (Ga C (Af (Ai (Gr (Bc (cells:=[_,_,_,_,_,_,_]) ty108 D1 pl108 C C) (Ge1 (Cf (α:=Ev) (cs:=[e7 1,e7 5,e7 0,e7 1,e7 1,e7 0,e7 1]) (xs:=[⟨1,5,0,1,1,0,1⟩]) Be ty108 C C dc dc C kr C C) λad1=>?_)))))
 refine Ga C (Af (Ai (Gm C (Gr (Bc (cells:=[_,_,_]) ty31 Ez pl31 C C) (Gr (Bc (cells:=[_,_]) ty40 Ct pl40 C C) (Gr (Bc (cells:=[_,_,_,_,_,_,_]) ty71 D4 pl71 C C) (G.e (Ah call56 C C (Ask8_ok (nd:=3) (kd:=1) (wd:=0) (mo:=0) (num:=1) (den:=2) (T0:=5) (ea:=ad1) (ec:=1) (es:=([⟨1,5,0,1,1,0,1⟩]:List Ev)) Bk hist_B dc ⟨by decide,by decide,by decide,by decide,by decide⟩ first_B dc (Bx hT A3))) ?_)))))))
 rintro _ _ ⟨_,_,⟨ad2,cp3,BB4,ad5,cp6,pt7,NN8,DD9,EE10,rfl,⟨hBR,hSB⟩,rfl⟩,rfl,rfl⟩
 refine Gm C (Gr (Aw C C) (Gr (Aw C C) (Ge1 (Au ty90 C) λb11=>Ge0 (Ce (cs:=[_,_,_,_,_,_,_,_,_,_,_]) (vs:=[_,_,_,_,_,_,_,_,_,_,_]) (cs':=[_,_,_,_,_,_,_,_,_,_,_]) ty90) ?_)))
 rw [at_B] at hBR
 obtain ⟨hBl,hN1,hD2⟩:=bestB hBR
 refine Ga C (Af (Aq (S2 3 2 C C) (Ai (Gm C (Gr (Bu C C) (Gm C (Bg (d:=16) C (λg16=>?_) (λg16=>?_))))))))
 ·refine e9 (Ab fld90_0 C) (e9 (As ty4) ?_)
  refine Gr (Ar C C) (Gm C (e9 (Ab fld90_2 C) (e9 (As ef) ?_)))
  refine e9 (Bu C C) (Gr (Ar C C) (Gm C (Bg (d:=25) C (λg25=>?_) (λg25=>?_))))
  ·refine e9 (Ab fld90_3 C) (e9 (As ty22) ?_)
   refine D5 (Ck C C C) (Cf (α:=Int) (cs:=[_,_]) (xs:=[0,1]) Ac ef C C dc dc C C C C) ?_
   rintro _ _ ⟨ad12,rfl,rfl⟩
   refine D5 (Ck C C C) (Ah call61 C C (Cmp_ok Bk Bk)) ?_
   rintro _ _ ⟨_,_,⟨rfl,rfl⟩,rfl,rfl⟩
   refine e9 (Bu C C) (Gr (Ar C C) (Gm C (Bg (d:=32) C (λg32=>?_) (λg32=>?_))))
   ·refine e9 (Ab fld90_4 C) (e9 (Bd (vs:=[_,_]) ty40) ?_)
    exact e9 (Bc (cells:=[_,_]) ty40 Ct pl40 C C) (e9 (Eu (α:=Fr) (a:=(⟨NN8,DD9⟩:Fr)) (b:=(⟨1,2⟩:Fr)) eqt40 C C) (Gr (Ar C C) (Ga C (Af (Aq (S1 0 C) (A2 (A6 C C I A3 ⟨by rw [decide_eq_true (by rw [hN1,hD2])],rfl⟩)))))))
   ·exact absurd ((cmpL_eq _ _).2 hBl) g32
  ·exact absurd rfl g25
 ·exact absurd rfl g16
set_option maxHeartbeats 1000000 in
theorem Some43_base{κ:Ctx}{I:List Item}{b:Nat}{lv:Value}{ls:List Int}{i:Int}(hl:∀q,Sl κ (deck b lv q::I) lv ls)(h0:0<=i)   :
    eu prog κ 42 [.pointer (some ⟨b,0,none⟩)] (e8 b [lv,e7 i] 125::I) (λr J=>∃y:Int×(Option Addr)×Nat×(List Ev)×Int×Int×Int×Int,((r = .tuple #[e7 y.1,.slice y.2.1 y.2.2.2.1.length y.2.2.1,.agg #[e7 y.2.2.2.2.1,e7 y.2.2.2.2.2.1,e7 y.2.2.2.2.2.2.1]]/\HistOk y.1 y.2.2.2.2.1 y.2.2.2.2.2.1 y.2.2.2.2.2.2.1 y.2.2.2.1/\y.2.2.2.1.length<=12/\(2<=y.1/\y.1<=6))/\0<=y.2.2.2.2.2.2.2)/\J=[vc 108 (.slice y.2.1 y.2.2.2.1.length y.2.2.1) y.2.2.2.1]++deck b lv y.2.2.2.2.2.2.2::I):=by
 refine Ce1 Tryz.func42 C C ?_
 refine Ai (Ga C (Ga C (Ge1 (Au ty31 C) λb1=>Af (Ai (Gm C (G.e (Ah call19 C C (Next_ok (by repeat (first|exact AtF.head _ _|apply AtF.tail)) (Cv (hl _) A3) om om)) ?_))))))
 rintro _ _ ⟨_,_,⟨x2,i3,rfl,hx2,hi3,rfl⟩,rfl,rfl⟩
 show G prog κ _ _ _ _ ([(7,e7 x2),(6,.pointer (some ⟨b,0,none⟩)),(4,.pointer (some ⟨b1,0,none⟩)),(3,.slice none 0 0),(2,e7 0),(0,.pointer (some ⟨b,0,none⟩))]:Env) (e8 b1 [e7 0,e7 0,e7 0] 31::e8 b [lv,e7 i3] 125::I)
 refine Gr (Rad C C) (Ga C (Af (Ai (Gm C (Gm C (Gm C (G.e (Ah call20 C C (MkEvents_at (by repeat (first|exact AtF.head _ _|apply AtF.tail)) (λ_=>Cv (hl _) A3) om  om om)) ?_)))))))
 rintro _ _ ⟨_,_,⟨⟨ad4,cp5,es6,i7⟩,⟨⟨rfl,hses6⟩,hi7⟩,rfl⟩,rfl,rfl⟩
 show G prog κ _ _ _ _ ([(12,.slice ad4 es6.length cp5),(11,e7 (2+x2)),(10,.pointer (some ⟨b,0,none⟩)),(9,e7 (2+x2)),(5,e7 (2+x2)),(8,e7 (2+x2)),(7,e7 x2),(6,.pointer (some ⟨b,0,none⟩)),(4,.pointer (some ⟨b1,0,none⟩)),(3,.slice none 0 0),(2,e7 0),(0,.pointer (some ⟨b,0,none⟩))]:Env) (vc 108 (.slice ad4 es6.length cp5) (es6)::e8 b1 [e7 0,e7 0,e7 0] 31::e8 b [lv,e7 i7] 125::I)
 have hi7:0<=i7:=hi7
 dsimp only at hses6
 refine Gm C (G.e (Ah call21 C C (MkWindowV_at (by repeat (first|exact AtF.head _ _|apply AtF.tail)) (λ_=>Cv (hl _) A3) om  )) ?_)
 rintro _ _ ⟨_,_,⟨⟨kd8,wd9,mo10,i11⟩,⟨⟨rfl,hwkd8⟩,hi11⟩,rfl⟩,rfl,rfl⟩
 show G prog κ _ _ _ _ ([(14,.agg #[e7 kd8,e7 wd9,e7 mo10]),(13,.pointer (some ⟨b,0,none⟩)),(12,.slice ad4 es6.length cp5),(11,e7 (2+x2)),(10,.pointer (some ⟨b,0,none⟩)),(9,e7 (2+x2)),(5,e7 (2+x2)),(8,e7 (2+x2)),(7,e7 x2),(6,.pointer (some ⟨b,0,none⟩)),(4,.pointer (some ⟨b1,0,none⟩)),(3,.slice none 0 0),(2,e7 0),(0,.pointer (some ⟨b,0,none⟩))]:Env) (vc 108 (.slice ad4 es6.length cp5) (es6)::e8 b1 [e7 0,e7 0,e7 0] 31::e8 b [lv,e7 i11] 125::I)
 have hi11:0<=i11:=hi11
 refine Ga C (Ga C (Ge0 (Es3_3 ty31) ?_))
 exact Af (Aq (S3 3 2 4 C C C) (A2 (V.retttc C ty31 C C C mm C (vc 108 (.slice ad4 es6.length cp5) (es6)::e8 b [lv,e7 i11] 125::I) B7 ⟨(2+x2,ad4,cp5,es6,kd8,wd9,mo10,i11),⟨⟨rfl,⟨hses6.1.st om om,hwkd8⟩,by show es6.length<=12;have h9:=hses6.2;omega,by show 2<=2+x2/\2+x2<=6;omega⟩,by show 0<=i11;omega⟩,rfl⟩)))
theorem Some43_at{κ:Ctx}{I:List Item}{F:Item->List Item}{b:Nat}{lv:Value}{ls:List Int}{i:Int}(hat:AtF I (deck b lv i) F)(hl:∀q,Sl κ (F (deck b lv q)) lv ls)(h0:0<=i)   :
  eu prog κ 42 [.pointer (some ⟨b,0,none⟩)] I λr J=>∃y:Int×(Option Addr)×Nat×(List Ev)×Int×Int×Int×Int,((r = .tuple #[e7 y.1,.slice y.2.1 y.2.2.2.1.length y.2.2.1,.agg #[e7 y.2.2.2.2.1,e7 y.2.2.2.2.2.1,e7 y.2.2.2.2.2.2.1]]/\HistOk y.1 y.2.2.2.2.1 y.2.2.2.2.2.1 y.2.2.2.2.2.2.1 y.2.2.2.1/\y.2.2.2.1.length<=12/\(2<=y.1/\y.1<=6))/\0<=y.2.2.2.2.2.2.2)/\J=[vc 108 (.slice y.2.1 y.2.2.2.1.length y.2.2.1) y.2.2.2.1]++F (deck b lv y.2.2.2.2.2.2.2):=
 En (Post:=λr (y:Int×(Option Addr)×Nat×(List Ev)×Int×Int×Int×Int)=>(r = .tuple #[e7 y.1,.slice y.2.1 y.2.2.2.1.length y.2.2.1,.agg #[e7 y.2.2.2.2.1,e7 y.2.2.2.2.2.1,e7 y.2.2.2.2.2.2.1]]/\HistOk y.1 y.2.2.2.2.1 y.2.2.2.2.2.1 y.2.2.2.2.2.2.1 y.2.2.2.1/\y.2.2.2.1.length<=12/\(2<=y.1/\y.1<=6))/\0<=y.2.2.2.2.2.2.2) (Z:=λy:Int×(Option Addr)×Nat×(List Ev)×Int×Int×Int×Int=>[vc 108 (.slice y.2.1 y.2.2.2.1.length y.2.2.1) y.2.2.2.1]) (X:=λy:Int×(Option Addr)×Nat×(List Ev)×Int×Int×Int×Int=>deck b lv y.2.2.2.2.2.2.2) hat λJ _ hF=>Some43_base (λq=>(hl q).fit (hF _)) h0  
end Go.Sl
namespace Go.Sl
end Go.Sl
namespace Go.Sl
open Go.Proofs
set_option maxRecDepth 4000
section
variable {n kd wd mo:Int}{es:List Ev}(hH:HistOk n kd wd mo es)(hn:2<=n)(a a2:Option Addr)(c c2:Nat)
include hH hn
end
end Go.Sl
namespace Go.Sl
end Go.Sl
namespace Go.Sl
open Go.Proofs
set_option maxRecDepth 4000
end Go.Sl
namespace Go.Sl
open Go
end Go.Sl
namespace Go.Sl
open Go.Proofs
set_option maxRecDepth 4000
section
variable {nd:Int}{es:List Pt}{X S Y:List Int}{v:Int}
theorem edgeP_comm(u v:Int):edgeP u v=edgeP v u:=by
 unfold edgeP
 rcases Int.lt_trichotomy u v with h|h|h
 ·rw [if_neg om,if_pos h,if_pos h,if_neg om]
 ·subst h;rfl
 ·rw [if_pos h,if_neg om,if_neg om,if_pos h]
end
variable {κ:Ctx}{I:List Item}
theorem COrder_ok{nd:Int}{va:Value}{es:List Pt}(hl:Sl κ I va es)(hG:GrOk nd es)(hT:TabRd κ I 0 tzCells):eu prog κ 239 [.agg #[e7 nd,va]] I (λr J=>∃a c,r = .tuple #[.slice a (coreO nd es).length c,e7 0]/\J=vc 3 (.slice a (coreO nd es).length c) (coreO nd es)::I):=by
 refine Ce1 Tryz.func239 C C ?_
 refine Ai (Ge1 (A9 (cs:=[_,_]) C C C) λb1=>Ga C (Ga C (Af (Ap (Ai (Gl2 ty48 ?_))))))
 refine Gc0 (Ah call83 C C (CheckGen_ok (Ba hl))) ?_
 refine Ga C (Af (Ai (Gm C (Gr (Br C C) (Af (A8 C (λc10=>?_) (λc10=>?_)))))))
 ·exact absurd (checkG_ok.2 hG) c10
 ·refine Ay (Aj (Ai (Gl2 ty48 ?_)))
  refine G.e (Ah call175 C C (CPeel_ok (nd:=nd) (Ba hl) hG (Bx hT A3))) ?_
  rintro _ _ ⟨_,_,⟨ad2,cp3,ad4,cp5,rfl,rfl⟩,rfl,rfl⟩
  exact Gm C (Gr (Aw C C) (Gr (Aw C C) (Ga C (Ga C (Af (Aq (S1 5 C) (Ai (Gm C (Ga C (Ga C (Af (A2 (Cu C C C (vc 3 (.slice ad2 (coreO nd es).length cp3) (coreO nd es)::I) B7 ⟨ad2,cp3,rfl,rfl⟩)))))))))))))
theorem TOrder_ok{nd:Int}{va:Value}{es:List Pt}(hl:Sl κ I va es)(hG:GrOk nd es)(hT:TabRd κ I 0 tzCells):eu prog κ 241 [.agg #[e7 nd,va]] I (λr J=>∃a c,r = .tuple #[.slice a (trussO (trisE nd es)).length c,e7 0]/\J=vc 3 (.slice a (trussO (trisE nd es)).length c) (trussO (trisE nd es))::I):=by
 have hle:=edges_le hG
 refine Ce1 Tryz.func241 C C ?_
 refine Ai (Ge1 (A9 (cs:=[_,_]) C C C) λb1=>Ga C (Ga C (Af (Ap (Ai (Gl2 ty48 ?_))))))
 refine Gc0 (Ah call83 C C (CheckGen_ok (Ba hl))) ?_
 refine Ga C (Af (Ai (Gm C (Gr (Br C C) (Af (A8 C (λc10=>?_) (λc10=>?_)))))))
 ·exact absurd (checkG_ok.2 hG) c10
 ·refine Ay (Aj (Ai (Gl2 ty48 ?_)))
  refine G.e (Ah call222 C C (TPeel_ok (nd:=nd) (Ba hl) hG om (Bx hT A3))) ?_
  rintro _ _ ⟨_,_,⟨ad2,cp3,ad4,cp5,rfl,rfl⟩,rfl,rfl⟩
  exact Gm C (Gr (Aw C C) (Gr (Aw C C) (Ga C (Ga C (Af (Aq (S1 5 C) (Ai (Gm C (Ga C (Ga C (Af (A2 (Cu C C C (vc 3 (.slice ad2 (trussO (trisE nd es)).length cp3) (trussO (trisE nd es))::I) B7 ⟨ad2,cp3,rfl,rfl⟩)))))))))))))
set_option maxHeartbeats 1000000 in
theorem Proved_ok{nd n0:Int}{fb:Bool}{xa:Option Addr}{xn xc:Nat}{ea:Option Addr}{ec:Nat}{es:List Pt}(hl:Sl κ I (.slice ea es.length ec) es)(hG:GrOk nd es)(hT:TabRd κ I 0 tzCells):eu prog κ 179 [.agg #[e7 nd,.slice ea es.length ec],.agg #[.bool fb,e7 n0,e7 0,.slice xa xn xc,e7 0,e7 0,.slice none 0 0,.slice none 0 0,.slice none 0 0,e7 0,.slice none 0 0]] I (λr J=>∃a c a2 c2,r = .agg #[.bool fb,e7 n0,e7 0,.slice xa xn xc,e7 0,e7 0,.slice none 0 0,.slice a2 (coreO nd es).length c2,.slice a (coreN nd es).length c,e7 0,.slice none 0 0]/\J=vc 3 (.slice a (coreN nd es).length c) (coreN nd es)::vc 3 (.slice a2 (coreO nd es).length c2) (coreO nd es)::I):=by
 refine Ce2 Tryz.func179 C C ?_
 refine Ai (Ge1 (A9 (cs:=[_,_]) C C C) λb1=>Ge1 (A9 (cs:=[_,_,_,_,_,_,_,_,_,_,_]) C C C) λb2=>Ge1 (Au ty90 C) λb3=>Af (Ai (Gl2 ty48 ?_)))
 refine Gc2 (Ah call104 C C (CNumbers_ok (nd:=nd) (Ba hl) (Bx hT A3))) λad4 cp5=>?_
 refine Gm C (Gr (Aw C C) (Gr (Aw C C) (Gf fld90_7 C (Ge0 (Ce (cs:=[_,_,_,_,_,_,_,_,_,_,_]) (vs:=[_]) (cs':=[_,_,_,_,_,_,_,_,_,_,_]) ty22) ?_))))
 refine Af (Ai (Gl2 ty48 ?_))
 refine G.e (Ah call239 C C (COrder_ok (nd:=nd) (Ba hl) hG (Bx hT A3))) ?_
 rintro _ _ ⟨_,_,⟨ad6,cp7,rfl,rfl⟩,rfl,rfl⟩
 refine Gm C (Gr (Aw C C) (Gr (Aw C C) (Gf fld90_6 C (Ge0 (Ce (cs:=[_,_,_,_,_,_,_,_,_,_,_]) (vs:=[_]) (cs':=[_,_,_,_,_,_,_,_,_,_,_]) ty22) ?_))))
 refine Af (Aq (S2 4 3 C C) (Ai (Gr (Bd (vs:=[_,_,_,_,_,_,_,_,_,_,_]) ty90) ?_)))
 refine Ge0 (Ce (cs:=[_,_,_,_,_,_,_,_,_,_,_]) (vs:=[_,_,_,_,_,_,_,_,_,_,_]) (cs':=[_,_,_,_,_,_,_,_,_,_,_]) ty90) ?_
 exact Af (A2 (C5 C ty90 C mm C (vc 3 (.slice ad4 (coreN nd es).length cp5) (coreN nd es)::vc 3 (.slice ad6 (coreO nd es).length cp7) (coreO nd es)::I) B7 ⟨ad4,cp5,ad6,cp7,rfl,rfl⟩))
variable {κ:Ctx}{I:List Item}
theorem QOf1_ok  :
    eu prog κ 176 [e7 1] I (λr J=>r = .agg #[.bool true,.bool false,.bool false,.bool true,.bool false]/\I=J):=by
 refine Ce1 Fd C C ?_
 refine Ai (Ge1 (Au ty220 C) λb1=>Af (Ai (Ge1 (Au ty220 C) λb2=>Af (Ap (Ai (Gm C (Af (A0 (Ap (A0 (Ap (A0 (Ap (A0 (Ap (A0 (Ap (A0 (Ap (A0 (Ap (A0 (Ap (Ap (Ai (Gr (Runs.eqC (λw=>by kernel_rfl) (λw=>by kernel_rfl) C C) (Ga C (Af (C2 C (Ay (Aj (Ap (Ai (Gr (Runs.eqC (λw=>by kernel_rfl) (λw=>by kernel_rfl) C C) (Ga C (Af (Cq C (Bv (Al (Al (B6 C (Al (A5 (Aj (Ax (Gf fld220_3 C (Ge0 (Ce (cs:=[_,_,_,_,_]) (vs:=[_]) (cs':=[_,_,_,_,_]) ty4) ?_)))))))))))))))))))))))))))))))))))))))))))))))
 refine Bi (Ak (Aj (Ai (Gf fld220_0 C (Ge0 (Ce (cs:=[_,_,_,_,_]) (vs:=[_]) (cs':=[_,_,_,_,_]) ty4) ?_)))))
 refine Af (Bv (B6 C (Al (B6 C (Al (B6 C (Al (B6 C (Al (A5 (Aj (Ai (Gr (Bd (vs:=[_,_,_,_,_]) ty220) ?_)))))))))))))
 refine Ge0 (Ep ty220) ?_
 exact Af (A2 (C5 C ty220 C mm C I A3 ⟨rfl,rfl⟩))
theorem QOf2_ok  :
    eu prog κ 176 [e7 2] I (λr J=>r = .agg #[.bool true,.bool false,.bool true,.bool true,.bool false]/\I=J):=by
 refine Ce1 Fd C C ?_
 refine Ai (Ge1 (Au ty220 C) λb1=>Af (Ai (Ge1 (Au ty220 C) λb2=>Af (Ap (Ai (Gm C (Af (A0 (Ap (A0 (Ap (A0 (Ap (A0 (Ap (A0 (Ap (A0 (Ap (A0 (Ap (A0 (Ap (Ap (Ai (Gr (Runs.eqC (λw=>by kernel_rfl) (λw=>by kernel_rfl) C C) (Ga C (Af (Cq C (Bv (Al (Al (A5 (Aj (Ax (Gf fld220_2 C (Ge0 (Ce (cs:=[_,_,_,_,_]) (vs:=[_]) (cs':=[_,_,_,_,_]) ty4) ?_)))))))))))))))))))))))))))))))))))))
 refine Bi (Ak (Aj (Ax (Gf fld220_3 C (Ge0 (Ce (cs:=[_,_,_,_,_]) (vs:=[_]) (cs':=[_,_,_,_,_]) ty4) ?_)))))
 refine Bi (Ak (Aj (Ai (Gf fld220_0 C (Ge0 (Ce (cs:=[_,_,_,_,_]) (vs:=[_]) (cs':=[_,_,_,_,_]) ty4) ?_)))))
 refine Af (Bv (B6 C (Al (B6 C (Al (B6 C (Al (B6 C (Al (A5 (Aj (Ai (Gr (Bd (vs:=[_,_,_,_,_]) ty220) ?_)))))))))))))
 refine Ge0 (Ep ty220) ?_
 exact Af (A2 (C5 C ty220 C mm C I A3 ⟨rfl,rfl⟩))
theorem QOf3_ok  :
    eu prog κ 176 [e7 3] I (λr J=>r = .agg #[.bool false,.bool true,.bool false,.bool true,.bool false]/\I=J):=by
 refine Ce1 Fd C C ?_
 refine Ai (Ge1 (Au ty220 C) λb1=>Af (Ai (Ge1 (Au ty220 C) λb2=>Af (Ap (Ai (Gm C (Af (A0 (Ap (A0 (Ap (A0 (Ap (A0 (Ap (A0 (Ap (A0 (Ap (A0 (Ap (A0 (Ap (Ap (Ai (Gr (Runs.eqC (λw=>by kernel_rfl) (λw=>by kernel_rfl) C C) (Ga C (Af (C2 C (Ay (Aj (Ap (Ai (Gr (Runs.eqC (λw=>by kernel_rfl) (λw=>by kernel_rfl) C C) (Ga C (Af (C2 C (Ay (Aj (Ap (Ai (Gr (Runs.eqC (λw=>by kernel_rfl) (λw=>by kernel_rfl) C C) (Ga C (Af (C2 C (Ay (Aj (Ap (Ap (Ai (Gr (Runs.eqC (λw=>by kernel_rfl) (λw=>by kernel_rfl) C C) (Ga C (Af (Cq C (Ay (Aj (Cq C (Bv (Al (Al (B6 C (Al (B6 C (Al (B6 C (Al (A5 (Aj (Ax (Gf fld220_1 C (Ge0 (Ce (cs:=[_,_,_,_,_]) (vs:=[_]) (cs':=[_,_,_,_,_]) ty4) ?_)))))))))))))))))))))))))))))))))))))))))))))))))))))))))))))))))))))))
 refine Bi (Ak (Aj (Ai (Gf fld220_3 C (Ge0 (Ce (cs:=[_,_,_,_,_]) (vs:=[_]) (cs':=[_,_,_,_,_]) ty4) ?_)))))
 refine Af (Aq (S2 3 2 C C) (Bv (B6 C (Al (B6 C (Al (A5 (Aj (Ai (Gr (Bd (vs:=[_,_,_,_,_]) ty220) ?_))))))))))
 refine Ge0 (Ep ty220) ?_
 exact Af (A2 (C5 C ty220 C mm C I A3 ⟨rfl,rfl⟩))
theorem QOf5_ok  :
    eu prog κ 176 [e7 5] I (λr J=>r = .agg #[.bool false,.bool false,.bool false,.bool true,.bool false]/\I=J):=by
 refine Ce1 Fd C C ?_
 refine Ai (Ge1 (Au ty220 C) λb1=>Af (Ai (Ge1 (Au ty220 C) λb2=>Af (Ap (Ai (Gm C (Af (A0 (Ap (A0 (Ap (A0 (Ap (A0 (Ap (A0 (Ap (A0 (Ap (A0 (Ap (A0 (Ap (Ap (Ai (Gr (Runs.eqC (λw=>by kernel_rfl) (λw=>by kernel_rfl) C C) (Ga C (Af (C2 C (Ay (Aj (Ap (Ai (Gr (Runs.eqC (λw=>by kernel_rfl) (λw=>by kernel_rfl) C C) (Ga C (Af (C2 C (Ay (Aj (Ap (Ai (Gr (Runs.eqC (λw=>by kernel_rfl) (λw=>by kernel_rfl) C C) (Ga C (Af (C2 C (Ay (Aj (Ap (Ap (Ai (Gr (Runs.eqC (λw=>by kernel_rfl) (λw=>by kernel_rfl) C C) (Ga C (Af (C2 C (Ax (Gr (Runs.eqC (λw=>by kernel_rfl) (λw=>by kernel_rfl) C C) (Ga C (Af (Aq (S4 11 4 3 2 C C C C) (C2 C (Ay (Aj (Ap (Ap (Ai (Gr (Runs.eqC (λw=>by kernel_rfl) (λw=>by kernel_rfl) C C) (Ga C (Af (Cq C (Ay (Aj (Cq C (Bv (Al (Al (B6 C (Al (B6 C (Al (B6 C (Al (B6 C (Al (A5 (Aj (Ai (Gf fld220_3 C (Ge0 (Ce (cs:=[_,_,_,_,_]) (vs:=[_]) (cs':=[_,_,_,_,_]) ty4) ?_))))))))))))))))))))))))))))))))))))))))))))))))))))))))))))))))))))))))))))))))))))))))
 refine Af (Bv (B6 C (Al (B6 C (Al (A5 (Aj (Ai (Gr (Bd (vs:=[_,_,_,_,_]) ty220) ?_)))))))))
 refine Ge0 (Ep ty220) ?_
 exact Af (A2 (C5 C ty220 C mm C I A3 ⟨rfl,rfl⟩))
theorem QSet3_ok{xs:List Int}{n:Int}{sa:Option Addr}{sc:Nat}(hs:Sl κ I (.slice sa xs.length sc) xs)(hv:ValidP xs n)(h2:xs.length=2):eu prog κ 177 [e7 3,.slice sa xs.length sc,e7 n] I (λr J=>r = .bool true/\I=J):=by
 refine Ce3 Tryz.func177 C C ?_
 refine Ai (Ga C (Af (Ai (Gm C (Gm C (Gc0 (Ah call88 C C (NValid_ok (Ba hs) n)) ?_))))))
 refine Gm C (Bg (d:=10) C (λg10=>?_) (λg10=>?_))
 ·refine e9 (Ad C) (e9 (Bs Ac C) (e9 (Bw C C) (Gr (Ar C C) (Gm C (Bg (d:=15) C (λg15=>?_) (λg15=>?_))))))
  ·refine e9 (Ad C) (e9 (Br C C) (e9 (Ad C) (Bg (d:=18) C (λg18=>?_) (λg18=>?_))))
   ·exact absurd rfl g18
   ·exact e9 (Ad C) (e9 (Bs Ac C) (e9 (Bu C C) (e9 (Ao C C) (Gr (Ar C C) (Ga C (Af (Aq (S1 6 C) (A2 (A6 C C I A3 ⟨by first|rfl|(rw [decide_eq_true om])|simp [h2],rfl⟩)))))))))
  ·exfalso;omega
 ·exact absurd hv (by simpa using g10)
theorem QCheck1_ok{nd tq:Int}{node:Int}(ht:0<=tq/\tq<=1048576)(hn:0<=node/\node<nd):eu prog κ 105 [.agg #[e7 1,e7 node,e7 0,e7 tq,.slice none 0 0,e7 0,e7 0],e7 nd] I (λr J=>r=e7 0/\I=J):=by
 refine Ce2 Fe C C ?_
 refine Ai (Ge1 (A9 (cs:=[_,_,_,_,_,_,_]) C C C) λb1=>Ga C (Af (Ai (Gf fld71_0 C (Gl ef ?_)))))
 refine Gc0 (Ah call176 C C QOf1_ok) ?_
 refine Ge1 (Au ty220 C) λb2=>Ge0 (Ep ty220) ?_
 refine Af (Ap (A0 (Ai (Gr (Bd (vs:=[_,_,_,_,_]) ty220) ?_))))
 refine Gr (Bc (cells:=[_,_,_,_,_]) ty220 Ea pl220 C C) (Gr (Runs.eqC (λw=>by kernel_rfl) (λw=>by kernel_rfl) C C) (Ga C (Af (C2 C (Ai (Gf fld220_0 C (Gl ty4 ?_)))))))
 refine Gm C (e9 (Ab fld71_1 C) (e9 (As ef) ?_))
 refine e9 (A7 C C) (e9 (Ad C) (Bg (d:=20) C (λg20=>?_) (λg20=>?_)))
 ·exfalso;omega
 ·refine e9 (Ab fld71_1 C) (e9 (As ef) ?_)
  refine e9 (Ad C) (e9 (B9 C C) (e9 (Ao C C) (Gr (Ar C C) (Gm C (Bg (d:=27) C (λg27=>?_) (λg27=>?_))))))
  ·refine eb (eb (eb (ee (ee (ee (ee (ee (ee (ee (eb (Gr (Ar C C) (Ga C (Af (Aq (S3 13 5 2 C C C) (Cq C (Ai (Ga C (Af (A2 (Av (Am ?_)))))))))))))))))))))
   exfalso;first|omega|(exact absurd rfl asm)|(simp_all;done)
  ·refine e9 (Ab fld220_1 C) (e9 (As ty4) ?_)
   refine e9 (Ad C) (eb (eb (eb (eb (eb (eb (eb (e9 (Ao C C) (Gr (Ao C C) (Ga C (Af (Aq (S3 13 5 2 C C C) (C2 C (Ai (Gf fld220_3 C (Gl ty4 ?_))))))))))))))))
   refine Gm C (e9 (Ab fld71_3 C) (e9 (As ef) ?_))
   refine e9 (A7 C C) (e9 (Ad C) (Bg (d:=47) C (λg47=>?_) (λg47=>?_)))
   ·exfalso;omega
   ·refine e9 (Ab fld71_3 C) (e9 (As ef) ?_)
    refine e9 (Bw C C) (e9 (Ao C C) (Gr (Ar C C) (Ga C (Af (Aq (S3 40 5 2 C C C) (A8 C (λc40=>?_) (λc40=>?_)))))))
    ·exfalso;omega
    ·refine Ai (Gf fld220_2 C (Gl ty4 ?_))
     refine Gm C (eb (eb (eb (eb (ee (ee (ee (eb (Gr (Ao C C) (Gm C (e9 (Ab fld220_4 C) (e9 (As ty4) ?_))))))))))))
     refine e9 (Ad C) (eb (eb (eb (eb (eb (ee (ee (ee (ee (eb (e9 (Ao C C) (Gr (Ao C C) (Ga C (Af (Aq (S3 53 5 2 C C C) (C2 C (Ai (Gf fld220_0 C (Gl ty4 ?_)))))))))))))))))))
     refine Gr (B4 C) (Gm C (eb (eb (eb (Gr (Ao C C) (Gm C (e9 (Ab fld220_1 C) (e9 (As ty4) ?_))))))))
     refine e9 (B4 C) (e9 (Ad C) (e9 (Ab fld71_4 C) (e9 (As ty22) ?_)))
     refine e9 (Bs Ac C) (e9 (Bw C C) (e9 (Ar C C) (Gr (Ao C C) (Gm C (Bg (d:=102) C (λg102=>?_) (λg102=>?_))))))
     ·refine eb (eb (eb (eb (ee (ee (ee (eb (Gr (Ar C C) (Gm C (eb (eb (eb (eb (ee (ee (ee (eb (Gr (Ar C C) (Gm C (eb (eb (eb (eb (ee (ee (ee (ee (eb (Gr (Ar C C) (Ga C (Af (Aq (S1 82 C) (Cq C (Ai (Ga C (Af (A2 (Av (Am ?_)))))))))))))))))))))))))))))))))))))))
      exfalso;first|omega|(exact absurd rfl asm)|(simp_all;done)
     ·refine e9 (Ab fld220_3 C) (e9 (As ty4) ?_)
      refine e9 (B4 C) (e9 (Ad C) (eb (eb (eb (e9 (Ao C C) (Gr (Ao C C) (Gm C (e9 (Ab fld220_2 C) (e9 (As ty4) ?_)))))))))
      refine e9 (B4 C) (e9 (Ad C) (e9 (Ab fld71_2 C) (e9 (As ef) ?_)))
      refine e9 (Br C C) (e9 (Ar C C) (Gr (Ao C C) (Gm C (Bg (d:=122) C (λg122=>?_) (λg122=>?_)))))
      ·refine eb (eb (eb (eb (ee (ee (ee (ee (eb (Gr (Ar C C) (Ga C (Af (Aq (S1 82 C) (Cq C (Ai (Ga C (Af (A2 (Av (Am ?_)))))))))))))))))))
       exfalso;first|omega|(exact absurd rfl asm)|(simp_all;done)
      ·refine e9 (Ab fld220_4 C) (e9 (As ty4) ?_)
       refine e9 (B4 C) (e9 (Ad C) (e9 (Ab fld71_5 C) (e9 (Bd (vs:=[_,_]) ty40) ?_)))
       refine e9 (Bc (cells:=[_,_]) ty40 Ct pl40 C C) (e9 (E9 (α:=Fr) (a:=(⟨0,0⟩:Fr)) (b:=(⟨0,0⟩:Fr)) eqt40 C C) (e9 (Ar C C) (Gr (Ao C C) (Ga C (Af (Aq (S1 82 C) (A8 C (λc82=>?_) (λc82=>?_))))))))
       ·refine Ai (Ga C (Af (A2 (Av (Am ?_)))))
        exfalso;first|omega|(exact absurd rfl asm)|(simp_all;done)
       ·exact Ay (Ak (Aj (Ai (Ga C (Af (A2 (A6 C C I A3 ⟨rfl,rfl⟩)))))))
theorem QCheck2_ok{nd tq:Int}{node lv:Int}(ht:0<=tq/\tq<=1048576)(hn:0<=node/\node<nd)(hlv:0<=lv/\lv<=64):eu prog κ 105 [.agg #[e7 2,e7 node,e7 lv,e7 tq,.slice none 0 0,e7 0,e7 0],e7 nd] I (λr J=>r=e7 0/\I=J):=by
 refine Ce2 Fe C C ?_
 refine Ai (Ge1 (A9 (cs:=[_,_,_,_,_,_,_]) C C C) λb1=>Ga C (Af (Ai (Gf fld71_0 C (Gl ef ?_)))))
 refine Gc0 (Ah call176 C C QOf2_ok) ?_
 refine Ge1 (Au ty220 C) λb2=>Ge0 (Ep ty220) ?_
 refine Af (Ap (A0 (Ai (Gr (Bd (vs:=[_,_,_,_,_]) ty220) ?_))))
 refine Gr (Bc (cells:=[_,_,_,_,_]) ty220 Ea pl220 C C) (Gr (Runs.eqC (λw=>by kernel_rfl) (λw=>by kernel_rfl) C C) (Ga C (Af (C2 C (Ai (Gf fld220_0 C (Gl ty4 ?_)))))))
 refine Gm C (e9 (Ab fld71_1 C) (e9 (As ef) ?_))
 refine e9 (A7 C C) (e9 (Ad C) (Bg (d:=20) C (λg20=>?_) (λg20=>?_)))
 ·exfalso;omega
 ·refine e9 (Ab fld71_1 C) (e9 (As ef) ?_)
  refine e9 (Ad C) (e9 (B9 C C) (e9 (Ao C C) (Gr (Ar C C) (Gm C (Bg (d:=27) C (λg27=>?_) (λg27=>?_))))))
  ·refine eb (eb (eb (ee (ee (ee (ee (ee (ee (ee (eb (Gr (Ar C C) (Ga C (Af (Aq (S3 13 5 2 C C C) (Cq C (Ai (Ga C (Af (A2 (Av (Am ?_)))))))))))))))))))))
   exfalso;first|omega|(exact absurd rfl asm)|(simp_all;done)
  ·refine e9 (Ab fld220_1 C) (e9 (As ty4) ?_)
   refine e9 (Ad C) (eb (eb (eb (eb (eb (eb (eb (e9 (Ao C C) (Gr (Ao C C) (Ga C (Af (Aq (S3 13 5 2 C C C) (C2 C (Ai (Gf fld220_3 C (Gl ty4 ?_))))))))))))))))
   refine Gm C (e9 (Ab fld71_3 C) (e9 (As ef) ?_))
   refine e9 (A7 C C) (e9 (Ad C) (Bg (d:=47) C (λg47=>?_) (λg47=>?_)))
   ·exfalso;omega
   ·refine e9 (Ab fld71_3 C) (e9 (As ef) ?_)
    refine e9 (Bw C C) (e9 (Ao C C) (Gr (Ar C C) (Ga C (Af (Aq (S3 40 5 2 C C C) (A8 C (λc40=>?_) (λc40=>?_)))))))
    ·exfalso;omega
    ·refine Ai (Gf fld220_2 C (Gl ty4 ?_))
     refine Gm C (e9 (Ab fld71_2 C) (e9 (As ef) ?_))
     refine e9 (A7 C C) (e9 (Ad C) (Bg (d:=60) C (λg60=>?_) (λg60=>?_)))
     ·exfalso;omega
     ·refine e9 (Ab fld71_2 C) (e9 (As ef) ?_)
      refine e9 (Bw C C) (e9 (Ao C C) (Gr (Ar C C) (Gm C (Bg (d:=66) C (λg66=>?_) (λg66=>?_)))))
      ·refine eb (eb (eb (ee (ee (ee (ee (ee (ee (ee (ee (ee (ee (eb (Gr (Ar C C) (Ga C (Af (Aq (S3 53 5 2 C C C) (Cq C (Ai (Ga C (Af (A2 (Av (Am ?_))))))))))))))))))))))))
       exfalso;first|omega|(exact absurd rfl asm)|(simp_all;done)
      ·refine e9 (Ab fld220_4 C) (e9 (As ty4) ?_)
       refine e9 (Ad C) (eb (eb (eb (eb (eb (ee (ee (ee (ee (eb (e9 (Ao C C) (Gr (Ao C C) (Ga C (Af (Aq (S3 53 5 2 C C C) (C2 C (Ai (Gf fld220_0 C (Gl ty4 ?_)))))))))))))))))))
       refine Gr (B4 C) (Gm C (eb (eb (eb (Gr (Ao C C) (Gm C (e9 (Ab fld220_1 C) (e9 (As ty4) ?_))))))))
       refine e9 (B4 C) (e9 (Ad C) (e9 (Ab fld71_4 C) (e9 (As ty22) ?_)))
       refine e9 (Bs Ac C) (e9 (Bw C C) (e9 (Ar C C) (Gr (Ao C C) (Gm C (Bg (d:=102) C (λg102=>?_) (λg102=>?_))))))
       ·refine eb (eb (eb (eb (ee (ee (ee (eb (Gr (Ar C C) (Gm C (eb (eb (eb (eb (ee (ee (ee (eb (Gr (Ar C C) (Gm C (eb (eb (eb (eb (ee (ee (ee (ee (eb (Gr (Ar C C) (Ga C (Af (Aq (S1 82 C) (Cq C (Ai (Ga C (Af (A2 (Av (Am ?_)))))))))))))))))))))))))))))))))))))))
        exfalso;first|omega|(exact absurd rfl asm)|(simp_all;done)
       ·refine e9 (Ab fld220_3 C) (e9 (As ty4) ?_)
        refine e9 (B4 C) (e9 (Ad C) (eb (eb (eb (e9 (Ao C C) (Gr (Ao C C) (Gm C (e9 (Ab fld220_2 C) (e9 (As ty4) ?_)))))))))
        refine e9 (B4 C) (e9 (Ad C) (eb (eb (eb (e9 (Ao C C) (Gr (Ao C C) (Gm C (e9 (Ab fld220_4 C) (e9 (As ty4) ?_)))))))))
        refine e9 (B4 C) (e9 (Ad C) (e9 (Ab fld71_5 C) (e9 (Bd (vs:=[_,_]) ty40) ?_)))
        refine e9 (Bc (cells:=[_,_]) ty40 Ct pl40 C C) (e9 (E9 (α:=Fr) (a:=(⟨0,0⟩:Fr)) (b:=(⟨0,0⟩:Fr)) eqt40 C C) (e9 (Ar C C) (Gr (Ao C C) (Ga C (Af (Aq (S1 82 C) (A8 C (λc82=>?_) (λc82=>?_))))))))
        ·refine Ai (Ga C (Af (A2 (Av (Am ?_)))))
         exfalso;first|omega|(exact absurd rfl asm)|(simp_all;done)
        ·exact Ay (Ak (Aj (Ai (Ga C (Af (A2 (A6 C C I A3 ⟨rfl,rfl⟩)))))))
theorem QCheck3_ok{nd tq:Int}(ht:0<=tq/\tq<=1048576){S:List Int}{sa:Option Addr}{sc:Nat}(hs:Sl κ I (.slice sa S.length sc) S)(hv:ValidP S nd)(h2:S.length=2):eu prog κ 105 [.agg #[e7 3,e7 0,e7 0,e7 tq,.slice sa S.length sc,e7 0,e7 0],e7 nd] I (λr J=>r=e7 0/\I=J):=by
 refine Ce2 Fe C C ?_
 refine Ai (Ge1 (A9 (cs:=[_,_,_,_,_,_,_]) C C C) λb1=>Ga C (Af (Ai (Gf fld71_0 C (Gl ef ?_)))))
 refine Gc0 (Ah call176 C C QOf3_ok) ?_
 refine Ge1 (Au ty220 C) λb2=>Ge0 (Ep ty220) ?_
 refine Af (Ap (A0 (Ai (Gr (Bd (vs:=[_,_,_,_,_]) ty220) ?_))))
 refine Gr (Bc (cells:=[_,_,_,_,_]) ty220 Ea pl220 C C) (Gr (Runs.eqC (λw=>by kernel_rfl) (λw=>by kernel_rfl) C C) (Ga C (Af (C2 C (Ai (Gf fld220_0 C (Gl ty4 ?_)))))))
 refine Gm C (eb (eb (eb (eb (ee (ee (ee (ee (eb (Gr (Ao C C) (Gm C (e9 (Ab fld220_1 C) (e9 (As ty4) ?_)))))))))))))
 refine e9 (Ad C) (e9 (Ab fld71_0 C) (e9 (As ef) ?_))
 refine e9 (Ab fld71_4 C) (e9 (As ty22) ?_)
 refine e9 (Ad C) (D5 (Ck C C C) (Ah call177 C C (QSet3_ok (xs:=S) (n:=nd) (Ba hs) hv h2)) ?_)
 rintro _ _ ⟨_,_,⟨rfl,rfl⟩,rfl,rfl⟩
 refine e9 (B4 C) (e9 (Ar C C) (Gr (Ao C C) (Ga C (Af (Aq (S3 13 5 2 C C C) (C2 C (Ai (Gf fld220_3 C (Gl ty4 ?_)))))))))
 refine Gm C (e9 (Ab fld71_3 C) (e9 (As ef) ?_))
 refine e9 (A7 C C) (e9 (Ad C) (Bg (d:=47) C (λg47=>?_) (λg47=>?_)))
 ·exfalso;omega
 ·refine e9 (Ab fld71_3 C) (e9 (As ef) ?_)
  refine e9 (Bw C C) (e9 (Ao C C) (Gr (Ar C C) (Ga C (Af (Aq (S3 40 5 2 C C C) (A8 C (λc40=>?_) (λc40=>?_)))))))
  ·exfalso;omega
  ·refine Ai (Gf fld220_2 C (Gl ty4 ?_))
   refine Gm C (eb (eb (eb (eb (ee (ee (ee (eb (Gr (Ao C C) (Gm C (e9 (Ab fld220_4 C) (e9 (As ty4) ?_))))))))))))
   refine e9 (Ad C) (eb (eb (eb (eb (eb (ee (ee (ee (ee (eb (e9 (Ao C C) (Gr (Ao C C) (Ga C (Af (Aq (S3 53 5 2 C C C) (C2 C (Ai (Gf fld220_0 C (Gl ty4 ?_)))))))))))))))))))
   refine Gr (B4 C) (Gm C (e9 (Ab fld71_1 C) (e9 (As ef) ?_)))
   refine e9 (Br C C) (Gr (Ar C C) (Gm C (Bg (d:=91) C (λg91=>?_) (λg91=>?_))))
   ·refine eb (eb (eb (eb (ee (ee (ee (ee (eb (Gr (Ar C C) (Gm C (eb (eb (eb (eb (ee (ee (ee (eb (Gr (Ar C C) (Gm C (eb (eb (eb (eb (ee (ee (ee (eb (Gr (Ar C C) (Gm C (eb (eb (eb (eb (ee (ee (ee (ee (eb (Gr (Ar C C) (Ga C (Af (Aq (S1 82 C) (Cq C (Ai (Ga C (Af (A2 (Av (Am ?_))))))))))))))))))))))))))))))))))))))))))))))))))
    exfalso;first|omega|(exact absurd rfl asm)|(simp_all;done)
   ·refine e9 (Ab fld220_1 C) (e9 (As ty4) ?_)
    refine e9 (B4 C) (e9 (Ad C) (eb (eb (eb (eb (e9 (Ao C C) (Gr (Ao C C) (Gm C (e9 (Ab fld220_3 C) (e9 (As ty4) ?_))))))))))
    refine e9 (B4 C) (e9 (Ad C) (eb (eb (eb (e9 (Ao C C) (Gr (Ao C C) (Gm C (e9 (Ab fld220_2 C) (e9 (As ty4) ?_)))))))))
    refine e9 (B4 C) (e9 (Ad C) (e9 (Ab fld71_2 C) (e9 (As ef) ?_)))
    refine e9 (Br C C) (e9 (Ar C C) (Gr (Ao C C) (Gm C (Bg (d:=122) C (λg122=>?_) (λg122=>?_)))))
    ·refine eb (eb (eb (eb (ee (ee (ee (ee (eb (Gr (Ar C C) (Ga C (Af (Aq (S1 82 C) (Cq C (Ai (Ga C (Af (A2 (Av (Am ?_)))))))))))))))))))
     exfalso;first|omega|(exact absurd rfl asm)|(simp_all;done)
    ·refine e9 (Ab fld220_4 C) (e9 (As ty4) ?_)
     refine e9 (B4 C) (e9 (Ad C) (e9 (Ab fld71_5 C) (e9 (Bd (vs:=[_,_]) ty40) ?_)))
     refine e9 (Bc (cells:=[_,_]) ty40 Ct pl40 C C) (e9 (E9 (α:=Fr) (a:=(⟨0,0⟩:Fr)) (b:=(⟨0,0⟩:Fr)) eqt40 C C) (e9 (Ar C C) (Gr (Ao C C) (Ga C (Af (Aq (S1 82 C) (A8 C (λc82=>?_) (λc82=>?_))))))))
     ·refine Ai (Ga C (Af (A2 (Av (Am ?_)))))
      exfalso;first|omega|(exact absurd rfl asm)|(simp_all;done)
     ·exact Ay (Ak (Aj (Ai (Ga C (Af (A2 (A6 C C I A3 ⟨rfl,rfl⟩)))))))
theorem QCheck5_ok{nd tq:Int}(ht:0<=tq/\tq<=1048576):eu prog κ 105 [.agg #[e7 5,e7 0,e7 0,e7 tq,.slice none 0 0,e7 0,e7 0],e7 nd] I (λr J=>r=e7 0/\I=J):=by
 refine Ce2 Fe C C ?_
 refine Ai (Ge1 (A9 (cs:=[_,_,_,_,_,_,_]) C C C) λb1=>Ga C (Af (Ai (Gf fld71_0 C (Gl ef ?_)))))
 refine Gc0 (Ah call176 C C QOf5_ok) ?_
 refine Ge1 (Au ty220 C) λb2=>Ge0 (Ep ty220) ?_
 refine Af (Ap (A0 (Ai (Gr (Bd (vs:=[_,_,_,_,_]) ty220) ?_))))
 refine Gr (Bc (cells:=[_,_,_,_,_]) ty220 Ea pl220 C C) (Gr (Runs.eqC (λw=>by kernel_rfl) (λw=>by kernel_rfl) C C) (Ga C (Af (C2 C (Ai (Gf fld220_0 C (Gl ty4 ?_)))))))
 refine Gm C (eb (eb (eb (eb (ee (ee (ee (ee (eb (Gr (Ao C C) (Gm C (e9 (Ab fld220_1 C) (e9 (As ty4) ?_)))))))))))))
 refine e9 (Ad C) (eb (eb (eb (eb (eb (eb (eb (e9 (Ao C C) (Gr (Ao C C) (Ga C (Af (Aq (S3 13 5 2 C C C) (C2 C (Ai (Gf fld220_3 C (Gl ty4 ?_))))))))))))))))
 refine Gm C (e9 (Ab fld71_3 C) (e9 (As ef) ?_))
 refine e9 (A7 C C) (e9 (Ad C) (Bg (d:=47) C (λg47=>?_) (λg47=>?_)))
 ·exfalso;omega
 ·refine e9 (Ab fld71_3 C) (e9 (As ef) ?_)
  refine e9 (Bw C C) (e9 (Ao C C) (Gr (Ar C C) (Ga C (Af (Aq (S3 40 5 2 C C C) (A8 C (λc40=>?_) (λc40=>?_)))))))
  ·exfalso;omega
  ·refine Ai (Gf fld220_2 C (Gl ty4 ?_))
   refine Gm C (eb (eb (eb (eb (ee (ee (ee (eb (Gr (Ao C C) (Gm C (e9 (Ab fld220_4 C) (e9 (As ty4) ?_))))))))))))
   refine e9 (Ad C) (eb (eb (eb (eb (eb (ee (ee (ee (ee (eb (e9 (Ao C C) (Gr (Ao C C) (Ga C (Af (Aq (S3 53 5 2 C C C) (C2 C (Ai (Gf fld220_0 C (Gl ty4 ?_)))))))))))))))))))
   refine Gr (B4 C) (Gm C (e9 (Ab fld71_1 C) (e9 (As ef) ?_)))
   refine e9 (Br C C) (Gr (Ar C C) (Gm C (Bg (d:=91) C (λg91=>?_) (λg91=>?_))))
   ·refine eb (eb (eb (eb (ee (ee (ee (ee (eb (Gr (Ar C C) (Gm C (eb (eb (eb (eb (ee (ee (ee (eb (Gr (Ar C C) (Gm C (eb (eb (eb (eb (ee (ee (ee (eb (Gr (Ar C C) (Gm C (eb (eb (eb (eb (ee (ee (ee (ee (eb (Gr (Ar C C) (Ga C (Af (Aq (S1 82 C) (Cq C (Ai (Ga C (Af (A2 (Av (Am ?_))))))))))))))))))))))))))))))))))))))))))))))))))
    exfalso;first|omega|(exact absurd rfl asm)|(simp_all;done)
   ·refine e9 (Ab fld220_1 C) (e9 (As ty4) ?_)
    refine e9 (B4 C) (e9 (Ad C) (e9 (Ab fld71_4 C) (e9 (As ty22) ?_)))
    refine e9 (Bs Ac C) (e9 (Bw C C) (e9 (Ar C C) (Gr (Ao C C) (Gm C (Bg (d:=102) C (λg102=>?_) (λg102=>?_))))))
    ·refine eb (eb (eb (eb (ee (ee (ee (eb (Gr (Ar C C) (Gm C (eb (eb (eb (eb (ee (ee (ee (eb (Gr (Ar C C) (Gm C (eb (eb (eb (eb (ee (ee (ee (ee (eb (Gr (Ar C C) (Ga C (Af (Aq (S1 82 C) (Cq C (Ai (Ga C (Af (A2 (Av (Am ?_)))))))))))))))))))))))))))))))))))))))
     exfalso;first|omega|(exact absurd rfl asm)|(simp_all;done)
    ·refine e9 (Ab fld220_3 C) (e9 (As ty4) ?_)
     refine e9 (B4 C) (e9 (Ad C) (eb (eb (eb (e9 (Ao C C) (Gr (Ao C C) (Gm C (e9 (Ab fld220_2 C) (e9 (As ty4) ?_)))))))))
     refine e9 (B4 C) (e9 (Ad C) (e9 (Ab fld71_2 C) (e9 (As ef) ?_)))
     refine e9 (Br C C) (e9 (Ar C C) (Gr (Ao C C) (Gm C (Bg (d:=122) C (λg122=>?_) (λg122=>?_)))))
     ·refine eb (eb (eb (eb (ee (ee (ee (ee (eb (Gr (Ar C C) (Ga C (Af (Aq (S1 82 C) (Cq C (Ai (Ga C (Af (A2 (Av (Am ?_)))))))))))))))))))
      exfalso;first|omega|(exact absurd rfl asm)|(simp_all;done)
     ·refine e9 (Ab fld220_4 C) (e9 (As ty4) ?_)
      refine e9 (B4 C) (e9 (Ad C) (e9 (Ab fld71_5 C) (e9 (Bd (vs:=[_,_]) ty40) ?_)))
      refine e9 (Bc (cells:=[_,_]) ty40 Ct pl40 C C) (e9 (E9 (α:=Fr) (a:=(⟨0,0⟩:Fr)) (b:=(⟨0,0⟩:Fr)) eqt40 C C) (e9 (Ar C C) (Gr (Ao C C) (Ga C (Af (Aq (S1 82 C) (A8 C (λc82=>?_) (λc82=>?_))))))))
      ·refine Ai (Ga C (Af (A2 (Av (Am ?_)))))
       exfalso;first|omega|(exact absurd rfl asm)|(simp_all;done)
      ·exact Ay (Ak (Aj (Ai (Ga C (Af (A2 (A6 C C I A3 ⟨rfl,rfl⟩)))))))
structure EdgeR (nd:Int) (es:List Pt) (S:List Int) (y:Int) (fd:Bool) (num:Int) (Nl Ol:List Int):Prop where
 find:FindP nd es (e_ S 0) (e_ S 1) y
 fd:fd=decide (0<=y)
 none:y<0->num=0/\Nl=[]/\Ol=[]
 some:0<=y->num=e_ (trussG nd es) y/\Nl=trussG nd es/\Ol=trussO (trisE nd es)
theorem find_lt{nd u v y:Int}{es:List Pt}(hG:GrOk nd es)(h:FindP nd es u v y):y<(trussG nd es).length:=by
 have hl:(trussG nd es).length=es.length:=by
  unfold trussG
  rw [if_neg (by rw [checkG_ok.2 hG];decide)]
  have h1:=(trussN_bound (tris_ok hG)).1
  rw [h1];exact List.length_map ..
 rcases h with ⟨_,j,rfl,hj,_⟩|⟨rfl,_⟩
 ·omega
 ·omega
set_option maxHeartbeats 1000000 in
theorem AEdge_ok{nd tq:Int}{ea:Option Addr}{ec:Nat}{es:List Pt}(hl:Sl κ I (.slice ea es.length ec) es)(hG:GrOk nd es)(hT:TabRd κ I 0 tzCells){S:List Int}{sa:Option Addr}{sc:Nat}(hs:Sl κ I (.slice sa S.length sc) S)(hv:ValidP S nd)(h2:S.length=2):eu prog κ 183 [.agg #[e7 nd,.slice ea es.length ec],.agg #[e7 3,e7 0,e7 0,e7 tq,.slice sa S.length sc,e7 0,e7 0]] I (λr J=>∃(y:Int) (fd:Bool) (num:Int) (a:Option Addr) (c:Nat) (Nl:List Int) (a2:Option Addr) (c2:Nat) (Ol:List Int),r = .agg #[.bool fd,e7 num,e7 0,.slice none 0 0,e7 0,e7 0,.slice none 0 0,.slice a2 Ol.length c2,.slice a Nl.length c,e7 0,.slice none 0 0]/\EdgeR nd es S y fd num Nl Ol/\J=vc 3 (.slice a Nl.length c) Nl::vc 3 (.slice a2 Ol.length c2) Ol::I):=by
 have hle:=edges_le hG
 refine Ce2 Tryz.func183 C C ?_
 refine Ai (Ge1 (A9 (cs:=[_,_]) C C C) λb1=>Ge1 (A9 (cs:=[_,_,_,_,_,_,_]) C C C) λb2=>Ge1 (Au ty90 C) λb3=>Af (Ap (Bl mixed (Bt (e8 b3 [.bool false,e7 0,e7 0,.slice none 0 0,e7 0,e7 0,.slice none 0 0,.slice none 0 0,.slice none 0 0,e7 0,.slice none 0 0] 90::e8 b2 [e7 3,e7 0,e7 0,e7 tq,.slice sa S.length sc,e7 0,e7 0] 71::e8 b1 [e7 nd,.slice ea es.length ec] 48::I) 11 (Dr 0 C (Bd (vs:=[_,_]) ty48) ?_)))))
 refine Dr 1 C (Ab fld71_4 C) (Dr 2 C (As ty22) ?_)
 refine Dr 3 C (Az (α:=Int) (xs:=S) Ac ef C C (Ba hs) om om) (Dr 4 C (Bo (xs:=S) ef C (Ba hs) om om) (Dr 5 C (Ab fld71_4 C) (Dr 6 C (As ty22) ?_)))
 refine Dr 7 C (Az (α:=Int) (xs:=S) Ac ef C C (Ba hs) om om) (Dr 8 C (Bo (xs:=S) ef C (Ba hs) om om) (Ds1 9 (Se C (Ah call240 C C (FindG_ok (nd:=nd) (Ba hl) (e_ S 0) (e_ S 1) om)) ?_)))
 rintro _ _ ⟨_,_,⟨y4,rfl,hy4,rfl⟩,rfl,rfl⟩
 refine ⟨A1,?_⟩
 refine Dr 10 C (Bb C) ?_
 have hyb:y4<(trussG nd es).length:=find_lt hG hy4
 refine Dz (Aj (Aq (S3 5 4 2 C C C) (Ap (Ai (Gm C (Gr (A7 C C) (Af (A8 C (λc21=>?_) (λc21=>?_)))))))))
 ·refine Ai (Gr (Bc (cells:=[_,_,_,_,_,_,_,_,_,_,_]) ty90 D3 pl90 C C) (Ge0 (Ce (cs:=[_,_,_,_,_,_,_,_,_,_,_]) (vs:=[_,_,_,_,_,_,_,_,_,_,_]) (cs':=[_,_,_,_,_,_,_,_,_,_,_]) ty90) ?_))
  exact Af (A2 (Am (C5 C ty90 C mm C (vc 3 (.slice none ([]:List Int).length 0) ([]:List Int)::vc 3 (.slice none ([]:List Int).length 0) ([]:List Int)::I) (Cn (show Fit κ _ I from A3) (Cn (B2 (α:=Int) 3 _) (B2 (α:=Int) 3 _))) ⟨y4,false,0,none,0,[],none,0,[],rfl,⟨hy4,(decide_eq_false om).symm,λ_=>⟨rfl,rfl,rfl⟩,λh=>by omega⟩,rfl⟩)))
 ·refine Ay (Aj (Ai (Gl2 ty48 ?_)))
  refine G.e (Ah call149 C C (TNumbers_ok (nd:=nd) (Ba hl) om (Bx hT A3))) ?_
  rintro _ _ ⟨_,_,⟨ad5,cp6,rfl,rfl⟩,rfl,rfl⟩
  refine Gm C (Gr (Aw C C) (Gr (Aw C C) (Ga C (Ga C (Af (Ai (Gl2 ty48 ?_)))))))
  refine Gc2 (Ah call241 C C (TOrder_ok (nd:=nd) (Ba hl) hG (Bx hT A3))) λad7 cp8=>?_
  refine Gm C (Gr (Aw C C) (Gr (Aw C C) (Ga C (Ga C (Af (Aq (S4 8 6 5 4 C C C C) (Ai (Gm C (Gm C (Gr (Az (α:=Int) (xs:=trussG nd es) Ac ef C C Bk om om) (Gr (Bo (xs:=trussG nd es) ef C Bk om om) (Gm C (Gm C (Gr (Bc (cells:=[_,_,_,_,_,_,_,_,_,_,_]) ty90 D3 pl90 C C) (Ge0 (Ce (cs:=[_,_,_,_,_,_,_,_,_,_,_]) (vs:=[_,_,_,_,_,_,_,_,_,_,_]) (cs':=[_,_,_,_,_,_,_,_,_,_,_]) ty90) ?_)))))))))))))))
  exact Af (A2 (C5 C ty90 C mm C (vc 3 (.slice ad5 (trussG nd es).length cp6) (trussG nd es)::vc 3 (.slice ad7 (trussO (trisE nd es)).length cp8) (trussO (trisE nd es))::I) B7 ⟨y4,true,e_ (trussG nd es) y4,ad5,cp6,trussG nd es,ad7,cp8,trussO (trisE nd es),rfl,⟨hy4,(decide_eq_true om).symm,λh=>by omega,λ_=>⟨rfl,rfl,rfl⟩⟩,rfl⟩))
end Go.Sl
namespace Go.Sl
def ClosB(rows:List (BitVec 64))(k:Nat)(W:BitVec 64):Prop:=∀u∈eo W,k<=degB rows W u
theorem degB_mono{rows:List (BitVec 64)}{W L:BitVec 64}(h:∀u∈eo W,u∈eo L)(v:Int):degB rows W v<=degB rows L v:=by
 unfold degB
 refine List.Nodup.length_le_of_subset (listB_nodup _) λx hx=>?_
 obtain ⟨h1,h2⟩:=mem_andB.1 hx
 exact mem_andB.2 ⟨h1,h x h2⟩
theorem coreR_ind{rows:List (BitVec 64)}{X:BitVec 64->Nat->List (Int×Nat)->Prop}(h0:∀k,X 0#64 k [])
  (hs:∀left k v,Takes rows left v->X (left &&& ~~~(1#64 <<< v.toNat)) (max k (degB rows left v)) (coreR rows (left &&& ~~~(1#64 <<< v.toNat)) (max k (degB rows left v)))->X left k ((v,max k (degB rows left v))::coreR rows (left &&& ~~~(1#64 <<< v.toNat)) (max k (degB rows left v)))) :
  ∀(n:Nat) (left:BitVec 64) (k:Nat),(eo left).length=n->X left k (coreR rows left k)
 |0,left,k,h=>by
  have:left=0#64:=Classical.byContradiction λhn=>by
   obtain ⟨u,hu⟩:=nz_listB.1 hn
   have:=List.length_pos_of_mem hu;omega
  subst this
  rw [coreR_zero];exact h0 k
 |n+1,left,k,h=>by
  have hne:left≠0#64:=λe=>by subst e;rw [listB_zero] at h;simp at h
  have hT:=takeF_takes (rows:=rows) hne
  rw [coreR_step hT]
  have hm:=listB_minus hT.mem
  exact hs _ _ _ hT (coreR_ind h0 hs n _ _ (by omega))
section
variable {rows:List (BitVec 64)}
theorem coreR_keys(left:BitVec 64)(k:Nat):(ordL (coreR rows left k)).Nodup/\(∀v,v∈ordL (coreR rows left k)↔v∈eo left):=by
 refine coreR_ind (rows:=rows) (X:=λleft k l=>(ordL l).Nodup/\∀v,v∈ordL l↔v∈eo left) (λk=>?_) (λleft k v hT ih=>?_) _ left k rfl
 ·refine ⟨List.nodup_nil,λv=>?_⟩
  rw [listB_zero];exact Iff.rfl
 ·have h0:=(listB_lt hT.mem).1
  obtain ⟨h1,h2⟩:=ih
  refine ⟨List.nodup_cons.2 ⟨λhm=>((mem_minus h0).1 ((h2 v).1 hm)).2 rfl,h1⟩,λu=>?_⟩
  show u∈v::ordL (coreR rows _ _)↔_
  rw [List.mem_cons,h2,mem_minus h0]
  constructor
  ·rintro (rfl|h)
   ·exact hT.mem
   ·exact h.1
  ·intro h
   by_cases e:u=v
   ·exact .inl e
   ·exact .inr ⟨h,e⟩
theorem coreR_ge(left:BitVec 64)(k:Nat):∀p∈coreR rows left k,k<=p.2:=by
 refine coreR_ind (rows:=rows) (X:=λleft k l=>∀p∈l,k<=p.2) (λk p hp=>by cases hp) (λleft k v hT ih p hp=>?_) _ left k rfl
 rcases List.mem_cons.1 hp with rfl|hp
 ·show k<=max k _;omega
 ·have:=ih p hp;omega
theorem coreR_core(left:BitVec 64)(k0:Nat):∀k,k0<k->∃W:BitVec 64,ClosB rows k W/\(∀u∈eo W,u∈eo left)/\∀p∈coreR rows left k0,k<=p.2↔p.1∈eo W:=by
 refine coreR_ind (rows:=rows) (X:=λleft k0 l=>∀k,k0<k->∃W:BitVec 64,ClosB rows k W/\(∀u∈eo W,u∈eo left)/\∀p∈l,k<=p.2↔p.1∈eo W) (λk0 k hk=>?_) (λleft k0 v hT ih k hk=>?_) _ left k0 rfl
 ·refine ⟨0#64,λu hu=>?_,λu hu=>hu,λp hp=>by cases hp⟩
  rw [listB_zero] at hu;cases hu
 ·have h0:=(listB_lt hT.mem).1
  by_cases hc:k<=max k0 (degB rows left v)
  ·refine ⟨left,λu hu=>?_,λu hu=>hu,λp hp=>⟨λ_=>?_,λ_=>?_⟩⟩
   ·have:=hT.le u hu;omega
   ·rcases List.mem_cons.1 hp with rfl|hp
    ·exact hT.mem
    ·have h1:p.1∈ordL (coreR rows (left &&& ~~~(1#64 <<< v.toNat)) (max k0 (degB rows left v))):=List.mem_map.2 ⟨p,hp,rfl⟩
     exact ((mem_minus h0).1 (((coreR_keys _ _).2 _).1 h1)).1
   ·rcases List.mem_cons.1 hp with rfl|hp
    ·exact hc
    ·have:=coreR_ge _ _ p hp;omega
  ·obtain ⟨W,h1,h2,h3⟩:=ih k (by omega)
   refine ⟨W,h1,λu hu=>((mem_minus h0).1 (h2 u hu)).1,λp hp=>?_⟩
   rcases List.mem_cons.1 hp with rfl|hp
   ·exact ⟨λh=>absurd h hc,λh=>absurd rfl ((mem_minus h0).1 (h2 _ h)).2⟩
   ·exact h3 p hp
theorem numL_at{n:Nat}:∀{l:List (Int×Nat)},(ordL l).Nodup->(∀v∈ordL l,0<=v/\v<(n:Int))->∀p∈l,e_ (numL n l) p.1=(p.2:Int):=by
 intro l
 unfold numL
 have hk:∀(l:List (Int×Nat)) (xs:List Int) (u:Int),0<=u->(∀v∈ordL l,0<=v)->u∉ordL l->e_ (l.foldl (λxs p=>xs.set p.1.toNat (p.2:Int)) xs) u=e_ xs u:=λl=>by
  induction l with
  |nil=>intro xs u _ _ _;rfl
  |cons q l ih=>
   intro xs u hu h0 hn
   have hq:0<=q.1:=h0 q.1 List.mem_cons_self
   have hne:u≠q.1:=λe=>hn (by rw [e];exact List.mem_cons_self)
   rw [List.foldl_cons,ih _ u hu (λv hv=>h0 v (List.mem_cons_of_mem _ hv)) λh=>hn (List.mem_cons_of_mem _ h)]
   unfold e_
   rw [List.getD_eq_getElem?_getD,List.getD_eq_getElem?_getD,List.getElem?_set_ne (by omega)]
 have:∀(l:List (Int×Nat)) (xs:List Int),xs.length=n->(ordL l).Nodup->(∀v∈ordL l,0<=v/\v<(n:Int))->∀p∈l,e_ (l.foldl (λxs p=>xs.set p.1.toNat (p.2:Int)) xs) p.1=(p.2:Int):=λl=>by
  induction l with
  |nil=>intro xs _ _ _ p hp;cases hp
  |cons q l ih=>
   intro xs hl hn hr p hp
   obtain ⟨hq,hn'⟩:=List.nodup_cons.1 (show (q.1::ordL l).Nodup from hn)
   have hr':∀v∈ordL l,0<=v/\v<(n:Int):=λv hv=>hr v (List.mem_cons_of_mem _ hv)
   have hq0:=hr q.1 List.mem_cons_self
   rw [List.foldl_cons]
   rcases List.mem_cons.1 hp with rfl|hp
   ·rw [hk l _ p.1 hq0.1 (λv hv=>(hr' v hv).1) hq,at_set _ _ _ _ hq0.1 hq0.1 (by omega),if_pos rfl]
   ·exact ih _ (by rw [List.length_set];exact hl) hn' hr' p hp
 exact λh1 h2=>this l _ List.length_replicate h1 h2
end
end Go.Sl
namespace Go.Sl
open Go.Proofs
set_option maxRecDepth 4000
section
variable {nd:Int}{es:List Pt}
theorem coreL_at(hG:GrOk nd es){u:Int}(h0:0<=u)(h1:u<nd):∃p∈coreR0 nd es,p.1=u/\e_ (coreN nd es) u=(p.2:Int):=by
 have hl:=hG.rows.len
 have hS:=rows_sym hG
 have hk:=coreR_keys (rows:=ek nd es) (allB ((ek nd es).length:Int)) 0
 have hm:u∈ordL (coreR0 nd es):=(hk.2 u).2 ((mem_allN hS.le).2 om)
 obtain ⟨p,hp,rfl⟩:=List.mem_map.1 hm
 refine ⟨p,hp,rfl,?_⟩
 unfold coreN
 rw [if_neg (by rw [checkG_ok.2 hG];decide)]
 exact numL_at hk.1 (λv hv=>by have:=(mem_allN hS.le).1 ((hk.2 v).1 hv);omega) p hp
theorem deg_meet(hG:GrOk nd es){l:List Int}{W:BitVec 64}(hW:∀x,x∈eo W↔x∈l){u:Int}(h0:0<=u)(h1:u<nd):degB (ek nd es) W u=(meetL (nbG nd es u) l).length:=by
 unfold degB
 have hr:=hG.rng
 refine ((List.perm_ext_iff_of_nodup (Ee _) ?_).2 λx=>?_).length_eq
 ·unfold meetL
  exact ((ofL_asc _).imp λh=>by omega:(ofL (nbG nd es u)).Nodup).filter _
 ·rw [mem_andB,mem_meetL,hW,hG.rows.mem h0 h1]
  unfold nbG
  rw [if_neg (by rw [checkG_ok.2 hG];decide),mem_ofL,mem_nbL]
  refine and_congr_left λ_=>⟨λh=>h.2,λh=>⟨?_,h⟩⟩
  rcases h with h|h
  ·have:=hG.edge _ h;simp only at this;omega
  ·have:=hG.edge _ h;simp only at this;omega
end
theorem range_valid{n:Int}(hr:0<=n/\n<=64):ValidP (rangeI n) n:=by
 refine ValidP_iff.2 ⟨λx hx=>by have:=mem_rangeI.1 hx;omega,?_⟩
 unfold rangeI
 refine List.Pairwise.map _ (λa b h=>?_) (List.pairwise_lt_range (n:=(min n 64).toNat))
 omega
section
variable {nd:Int}{es:List Pt}
theorem coreN_lenG(hG:GrOk nd es):((coreN nd es).length:Int)=nd:=by
 have hr:=hG.rng
 have hl:=hG.rows.len
 unfold coreN
 rw [if_neg (by rw [checkG_ok.2 hG];decide),coreL_len];omega
end
end Go.Sl
