/- A part of the proofs of statements of this seat: contracts of functions, and the plain laws that they lean on. No conditions. -/
import Derived.Test.YtfkcohmipjhfcaaGreatDoorF18
set_option linter.unusedVariables false
set_option linter.unusedSimpArgs false
set_option linter.unusedSectionVars false
namespace Go.Sl
open Go.Proofs
set_option maxRecDepth 4000
variable {κ:Ctx}{I:List Item}
theorem small3{W:BitVec 64}(h:subN 3 W):∃k:Fin 8,W=BitVec.ofNat 64 k.val:=by
 have hb:∀i:Nat,3≤i→W.getLsbD i=false:=fun i hi=>by
  by_cases h64:i<64
  ·cases hc:W.getLsbD i with
   |false=>rfl
   |true=>
    have:=h (i:Int) (mem_listB.2 ⟨by omega,by rw [Int.toNat_natCast];exact hc⟩)
    omega
  ·exact BitVec.getLsbD_of_ge _ _ om
 have hlt:W.toNat<2 ^ 3:=by
  refine Nat.lt_pow_two_of_testBit _ fun i hi=>?_
  have:=hb i hi
  rwa [←BitVec.testBit_toNat] at this
 exact ⟨⟨W.toNat,hlt⟩,by simp⟩
abbrev gB:List Pt:=[⟨0,1⟩]
theorem densB:DensP 3 1 2 gB 3#64 where
 sub:=by unfold subN;decide+kernel
 ne:=by decide
 eq:=by decide+kernel
 max:=fun W h=>by
  obtain ⟨k,rfl⟩:=small3 h
  have:∀k:Fin 8,2*insE (BitVec.ofNat 64 k.val) gB≤1*cntB (BitVec.ofNat 64 k.val):=by decide+kernel
  exact this k
 great:=fun W h e=>by
  obtain ⟨k,rfl⟩:=small3 h
  have:∀k:Fin 8,2*insE (BitVec.ofNat 64 k.val) gB=1*cntB (BitVec.ofNat 64 k.val)→∀x∈listB (BitVec.ofNat 64 k.val),x∈listB 3#64:=by decide+kernel
  exact this k e
theorem grB:GrOk 3 gB:=checkG_ok.1 (by decide+kernel)
theorem bestB{N D:Int}{B:BitVec 64}(h:BestR 3 gB N D B):listB B=[0,1]∧N=1∧D=2:=by
 have hz:=checkG_ok.2 grB
 have hR:=h.some hz dc
 have hf:=h.frv grB
 have hu:=densB.uniq dc hR.den.1 hR.dens
 have hd:=hR.den
 have hD:D=2*N:=by omega
 have hN:0<N:=by omega
 have hc:gcdI N (2*N)=1:=by have:=hf.cop;simp only at this;rw [←hD];exact this
 have h1:N=1:=by
  have h2:=gcdI_step (a:=2*N) (b:=N) om hN
  have h3:Int.tmod (2*N) N=0:=by rw [Int.mul_comm];exact Int.mul_tmod_right N 2
  rw [h3,gcdI_zero om] at h2
  have h4:=gcdI_step (a:=N) (b:=2*N) om om
  rw [Int.tmod_eq_of_lt om om] at h4
  omega
 subst h1
 have hD2:D=2:=by omega
 subst hD2
 refine ⟨?_,rfl,rfl⟩
 refine intLin.uniq (listB_asc _) dc fun x=>?_
 have e3:listB 3#64=[0,1]:=by decide+kernel
 rw [←e3]
 exact ⟨fun hx=>densB.great B hR.dens.sub (by have:=hR.dens.eq;exact this) x hx,fun hx=>hR.dens.great 3#64 densB.sub (by have:=densB.eq;exact this) x hx⟩
abbrev evB:Ev:=⟨1,5,0,1,1,0,1⟩
theorem hist_B:HistOk 3 1 0 0 [evB]:=⟨⟨by decide,by decide,fun j hj=>by
 obtain rfl:j=0:=by simp at hj;exact hj
 exact fitE_ok.1 dc,fun j hj=>by
 obtain rfl:j=0:=by simp at hj;exact hj
 decide⟩,by decide⟩
theorem all_B:allE 1 0 0 [evB]=[evB]:=by unfold allE;rw [all_same];decide
theorem at_B:atG 1 0 0 [evB] 5=gB:=by unfold atG atK;rw [all_B];decide
theorem reach_B:reachQ 3 1 0 0 [evB] 1 2 5:=by
 unfold reachQ densQ
 rw [at_B,if_neg dc]
 exact ⟨3#64,densB.sub,densB.ne,by decide+kernel⟩
theorem first_B(tv:Int)(ok:Bool)(h:FirstP 1 0 0 [evB] (reachQ 3 1 0 0 [evB] 1 2) tv ok):tv=5∧ok=true:=by
 rcases h with ⟨h1,⟨e,he,h2⟩,_⟩|⟨_,_,h3⟩
 ·rw [all_B,List.mem_singleton] at he
  subst he
  exact ⟨h2.symm,h1⟩
 ·exact absurd reach_B (h3 evB (by rw [all_B];exact List.mem_singleton.2 rfl))
set_option maxHeartbeats 1000000 in
theorem AnsFirst_ok{nd kd wd mo num den T0:Int}{ea:Option Addr}{ec:Nat}{es:List Ev}(hl:Sl κ I (.slice ea es.length ec) es)(hH:HistOk nd kd wd mo es)(hlen:es.length≤19)(hf:FrV ⟨num,den⟩)(hT0:∀tv ok,FirstP kd wd mo es (reachQ nd kd wd mo es num den) tv ok→tv=T0∧ok=true)(ht0:0≤T0∧T0≤1048576)(hT:TabRd κ I 0 tzCells) :
    CallS Tryz.prog κ 191 [.agg #[I64 (nd),.slice ea es.length ec,I64 (kd),I64 (wd),I64 (mo)],.agg #[I64 (8),I64 (0),I64 (0),I64 (0),.slice none 0 0,I64 (num),I64 (den)]] I (fun r J=>∃a c B a2 c2 parts N D E,r = .agg #[.bool true,I64 0,I64 (T0),.slice a (listB B).length c,I64 N,I64 D,.slice none 0 0,.slice none 0 0,.slice none 0 0,I64 E,.slice a2 (parts:List Int).length c2]∧BestR nd (atG kd wd mo es T0) N D B∧J=vc 3 (.slice a (listB B).length c) (listB B)::vc 3 (.slice a2 parts.length c2) parts::I):=by
 refine Ce2 Tryz.func191 rfl rfl ?_
 refine Ah (Ge1 (Bb (cs:=[_,_,_,_,_]) rfl rfl rfl) fun b1=>Ge1 (Bb (cs:=[_,_,_,_,_,_,_]) rfl rfl rfl) fun b2=>Ge1 (Ax ty90 rfl) fun b3=>Af (Ah (Gf fld163_0 rfl (Gl ty3 ?_))))
 refine Gf fld163_1 rfl (Gl ty28 ?_)
 refine Gf fld163_2 rfl (Gl3 ty31 ?_)
 refine Gf fld71_5 rfl (Gl2 ty40 ?_)
 refine G.e (Aj call47 rfl rfl (AFirst_ok (nd:=nd) (kd:=kd) (wd:=wd) (mo:=mo) (num:=num) (den:=den) (Bl hl) hH hlen hf (Cv hT A1))) ?_
 rintro _ _ ⟨_,_,⟨tv4,ok5,rfl,hFPtv4,rfl⟩,rfl,rfl⟩
 obtain ⟨htvtv4,hoktv4⟩:=hT0 _ _ hFPtv4
 rw [htvtv4,hoktv4]
 refine Gm rfl (Gr (A3 rfl rfl) (Gr (A3 rfl rfl) (Gr (A3 rfl rfl) (Ga rfl (Ga rfl (Ga rfl (Af (Ar (S4 6 5 4 2 rfl rfl rfl rfl) (Av (Ah (Gm rfl (Gr (Ck rfl) (Af (Cw rfl (Az (Ai (Ah (Gr (Bm (vs:=[_,_,_,_,_]) ty163) ?_))))))))))))))))))
 refine Gm rfl (Gc2 (Aj call180 rfl rfl (PAt_ok (nd:=nd) (kd:=kd) (wd:=wd) (mo:=mo) (tq:=T0) (Bl hl) hH hlen ht0)) fun ad6 cp7=>?_)
 refine Gm rfl (Gr (Bc (cells:=[_,_,_,_,_,_,_,_,_,_,_]) ty90 Tryz.underlying90 pl90 rfl rfl) (G.e (Aj call186 rfl rfl (ADense_ok (nd:=nd) (tv:=T0) Bo (Cv hT A1))) ?_))
 rintro _ _ ⟨_,_,⟨ad8,cp10,BB11,ad12,cp13,pt14,NN15,DD16,EE17,rfl,hBR,rfl⟩,rfl,rfl⟩
 refine Ge0 (Dq (cs:=[_,_,_,_,_,_,_,_,_,_,_]) (vs:=[_,_,_,_,_,_,_,_,_,_,_]) (cs':=[_,_,_,_,_,_,_,_,_,_,_]) ty90) ?_
 exact Af (Ay (C6 rfl ty90 rfl mm rfl (vc 3 (.slice ad8 (listB BB11).length cp10) (listB BB11)::vc 3 (.slice ad12 pt14.length cp13) pt14::I) Bz ⟨ad8,cp10,BB11,ad12,cp13,pt14,NN15,DD16,EE17,rfl,hBR,rfl⟩))
theorem Answers_ok  :
    CallS Tryz.prog κ 106 [] I (fun r J=>∃m_:Nat,r = .map (some m_)∧J=mp m_ [({key:=I64 (1),val:= .func (.func 178) #[] #[],born:=0}:MapEntry),({key:=I64 (2),val:= .func (.func 181) #[] #[],born:=1}:MapEntry),({key:=I64 (3),val:= .func (.func 182) #[] #[],born:=2}:MapEntry),({key:=I64 (4),val:= .func (.func 184) #[] #[],born:=3}:MapEntry),({key:=I64 (5),val:= .func (.func 185) #[] #[],born:=4}:MapEntry),({key:=I64 (6),val:= .func (.func 187) #[] #[],born:=5}:MapEntry),({key:=I64 (7),val:= .func (.func 189) #[] #[],born:=6}:MapEntry),({key:=I64 (8),val:= .func (.func 191) #[] #[],born:=7}:MapEntry),({key:=I64 (9),val:= .func (.func 192) #[] #[],born:=8}:MapEntry),({key:=I64 (10),val:= .func (.func 193) #[] #[],born:=9}:MapEntry)] 10::I):=by
 refine Ce0 Tryz.func106 rfl rfl ?_
 refine Ah (Ga rfl (Af (Ah (Ge1 (Eff.makeMap rfl) fun mr1=>?_))))
 refine Ge0 (C0 Ci Bf rfl rfl rfl rfl rfl am) ?_
 refine Ge0 (C0 Ci Bf rfl rfl rfl rfl rfl am) ?_
 refine Ge0 (C0 Ci Bf rfl rfl rfl rfl rfl am) ?_
 refine Ge0 (C0 Ci Bf rfl rfl rfl rfl rfl am) ?_
 refine Ge0 (C0 Ci Bf rfl rfl rfl rfl rfl am) ?_
 refine Ge0 (C0 Ci Bf rfl rfl rfl rfl rfl am) ?_
 refine Ge0 (C0 Ci Bf rfl rfl rfl rfl rfl am) ?_
 refine Ge0 (C0 Ci Bf rfl rfl rfl rfl rfl am) ?_
 refine Ge0 (C0 Ci Bf rfl rfl rfl rfl rfl am) ?_
 refine Ge0 (C0 Ci Bf rfl rfl rfl rfl rfl am) ?_
 exact Gm rfl (Ga rfl (Af (Ay (A0 rfl rfl (mp mr1 [({key:=I64 (1),val:= .func (.func 178) #[] #[],born:=0}:MapEntry),({key:=I64 (2),val:= .func (.func 181) #[] #[],born:=1}:MapEntry),({key:=I64 (3),val:= .func (.func 182) #[] #[],born:=2}:MapEntry),({key:=I64 (4),val:= .func (.func 184) #[] #[],born:=3}:MapEntry),({key:=I64 (5),val:= .func (.func 185) #[] #[],born:=4}:MapEntry),({key:=I64 (6),val:= .func (.func 187) #[] #[],born:=5}:MapEntry),({key:=I64 (7),val:= .func (.func 189) #[] #[],born:=6}:MapEntry),({key:=I64 (8),val:= .func (.func 191) #[] #[],born:=7}:MapEntry),({key:=I64 (9),val:= .func (.func 192) #[] #[],born:=8}:MapEntry),({key:=I64 (10),val:= .func (.func 193) #[] #[],born:=9}:MapEntry)] 10::I) Bz ⟨mr1,rfl,rfl⟩))))
set_option maxHeartbeats 1000000 in
theorem Ask8_ok{nd kd wd mo num den T0:Int}{ea:Option Addr}{ec:Nat}{es:List Ev}(hl:Sl κ I (.slice ea es.length ec) es)(hH:HistOk nd kd wd mo es)(hlen:es.length≤19)(hf:FrV ⟨num,den⟩)(hT0:∀tv ok,FirstP kd wd mo es (reachQ nd kd wd mo es num den) tv ok→tv=T0∧ok=true)(ht0:0≤T0∧T0≤1048576)(hT:TabRd κ I 0 tzCells) :
    CallS Tryz.prog κ 56 [I64 (nd),.slice ea es.length ec,.agg #[I64 (kd),I64 (wd),I64 (mo)],.agg #[I64 (8),I64 (0),I64 (0),I64 (0),.slice none 0 0,I64 (num),I64 (den)]] I (fun r J=>∃a c B a2 c2 parts N D E,r = .tuple #[.agg #[.bool true,I64 0,I64 (T0),.slice a (listB B).length c,I64 N,I64 D,.slice none 0 0,.slice none 0 0,.slice none 0 0,I64 E,.slice a2 (parts:List Int).length c2],I64 0]∧BestR nd (atG kd wd mo es T0) N D B∧J=vc 3 (.slice a (listB B).length c) (listB B)::vc 3 (.slice a2 parts.length c2) parts::I):=by
 refine Ce4 Tryz.func56 rfl rfl ?_
 refine Ah (Ge1 (Bb (cs:=[_,_,_]) rfl rfl rfl) fun b1=>Ge1 (Bb (cs:=[_,_,_,_,_,_,_]) rfl rfl rfl) fun b2=>Ge1 (Ax ty90 rfl) fun b3=>Ga rfl (Af (Av (Ah (Gm rfl (Gm rfl (Gl3 ty31 ?_)))))))
 refine Gc0 (Aj call97 rfl rfl (ACheck_ok (nd:=nd) (kd:=kd) (wd:=wd) (mo:=mo) (Bl hl))) ?_
 refine Ga rfl (Af (Ah (Gm rfl (Gr (Bh rfl rfl) (Af (Ar (S7 17 10 8 7 6 0 1 rfl rfl rfl rfl rfl rfl rfl) (A6 rfl (fun c17=>?_) (fun c17=>?_))))))))
 ·exact absurd (slideE_zeroH hH) c17
 ·refine Az (Ai (Av (Ah (Gl7 ty71 ?_))))
  refine Gm rfl (Gc0 (Aj call105 rfl rfl (QCheck8_ok (n:=nd) hf)) ?_)
  refine Ga rfl (Af (Ah (Gm rfl (Gr (Bh rfl rfl) (Af (A6 rfl (fun c24=>?_) (fun c24=>?_)))))))
  ·exact absurd rfl c24
  ·refine Az (Ai (Av (Bk mixed (Bq (blk b2 [I64 (8),I64 (0),I64 (0),I64 (0),.slice none 0 0,I64 (num),I64 (den)] 71::blk b1 [I64 (kd),I64 (wd),I64 (mo)] 31::I) 12 (Dr 1 rfl (Aa fld71_0 rfl) (Dr 2 rfl (As ty3) ?_))))))
   refine Dr 4 rfl (Ac rfl) (Dr 5 rfl (Ac rfl) (Dr 6 rfl (Bm (vs:=[_,_,_]) ty31) ?_))
   refine Dr 7 rfl (Bc (cells:=[_,_,_,_,_]) ty163 Tryz.underlying163 pl163 rfl rfl) (Dr 8 rfl (Bm (vs:=[_,_,_,_,_,_,_]) ty71) ?_)
   refine Ds1 0 (Se rfl (Aj call106 rfl rfl Answers_ok) ?_)
   rintro _ _ ⟨_,_,⟨mp4,rfl,rfl⟩,rfl,rfl⟩
   refine ⟨A4,?_⟩
   refine Ds1 3 (Sr rfl (Runs.lookupK (i:=7) Ci Bf rfl rfl rfl mm rfl) A4 ?_)
   refine Ds1 9 (Se rfl (C3 call191 rfl rfl rfl (AnsFirst_ok (nd:=nd) (kd:=kd) (wd:=wd) (mo:=mo) (num:=num) (den:=den) (T0:=T0) (ea:=ea) (ec:=ec) (es:=es) (Bl hl) hH hlen hf hT0 ht0 (Cv hT A1))) ?_)
   rintro _ _ ⟨_,_,⟨ad5,cp6,BB7,ad8,cp9,pt10,NN11,DD12,EE13,rfl,hBR,rfl⟩,rfl,rfl⟩
   refine ⟨A4,?_⟩
   refine Ds1 10 (Se0 rfl (Dq (cs:=[_,_,_,_,_,_,_,_,_,_,_]) (vs:=[_,_,_,_,_,_,_,_,_,_,_]) (cs':=[_,_,_,_,_,_,_,_,_,_,_]) ty90) ?_)
   exact Dr 11 rfl (Bd rfl) (Dz (Ai (Ar (S2 9 8 rfl rfl) (Ay (Dg rfl ty90 rfl rfl mm rfl (vc 3 (.slice ad5 (listB BB7).length cp6) (listB BB7)::vc 3 (.slice ad8 pt10.length cp9) pt10::I) Bz ⟨ad5,cp6,BB7,ad8,cp9,pt10,NN11,DD12,EE13,rfl,hBR,rfl⟩)))))
set_option maxHeartbeats 1000000 in
theorem Awake43_ok(hT:TabRd κ I 0 tzCells) :
    CallS Tryz.prog κ 41 [] I (fun r J=>r = .bool true∧I=J):=by
 refine Ce0 Tryz.func41 rfl rfl ?_
 refine Ah (Ga rfl (Af (Ah (Gr (Bc (cells:=[_,_,_,_,_,_,_]) ty108 Cy pl108 rfl rfl) (Ge1 (B1 (α:=Ev) (cs:=[I64 (1),I64 (5),I64 (0),I64 (1),I64 (1),I64 (0),I64 (1)]) (xs:=[⟨1,5,0,1,1,0,1⟩]) Aw ty108 rfl rfl dc dc rfl kr rfl rfl) fun ad1=>?_)))))
 refine Ga rfl (Af (Ah (Gm rfl (Gr (Bc (cells:=[_,_,_]) ty31 Em pl31 rfl rfl) (Gr (Bc (cells:=[_,_]) ty40 B9 pl40 rfl rfl) (Gr (Bc (cells:=[_,_,_,_,_,_,_]) ty71 Tryz.underlying71 pl71 rfl rfl) (G.e (Aj call56 rfl rfl (Ask8_ok (nd:=3) (kd:=1) (wd:=0) (mo:=0) (num:=1) (den:=2) (T0:=5) (ea:=ad1) (ec:=1) (es:=([⟨1,5,0,1,1,0,1⟩]:List Ev)) Bo hist_B dc ⟨by decide,by decide,by decide,by decide,by decide⟩ first_B dc (Cv hT A1))) ?_)))))))
 rintro _ _ ⟨_,_,⟨ad2,cp3,BB4,ad5,cp6,pt7,NN8,DD9,EE10,rfl,hBR,rfl⟩,rfl,rfl⟩
 refine Gm rfl (Gr (A3 rfl rfl) (Gr (A3 rfl rfl) (Ge1 (Ax ty90 rfl) fun b11=>Ge0 (Dq (cs:=[_,_,_,_,_,_,_,_,_,_,_]) (vs:=[_,_,_,_,_,_,_,_,_,_,_]) (cs':=[_,_,_,_,_,_,_,_,_,_,_]) ty90) ?_)))
 rw [at_B] at hBR
 obtain ⟨hBl,hN1,hD2⟩:=bestB hBR
 refine Ga rfl (Af (Ar (S2 3 2 rfl rfl) (Ah (Gm rfl (Gr (Bi rfl rfl) (Gm rfl (A7 (d:=16) rfl (fun g16=>?_) (fun g16=>?_))))))))
 ·refine Gro (Aa fld90_0 rfl) (Gro (As ty4) ?_)
  refine Gr (Ao rfl rfl) (Gm rfl (Gro (Aa fld90_2 rfl) (Gro (As ty3) ?_)))
  refine Gro (Bi rfl rfl) (Gr (Ao rfl rfl) (Gm rfl (A7 (d:=25) rfl (fun g25=>?_) (fun g25=>?_))))
  ·refine Gro (Aa fld90_3 rfl) (Gro (As ty22) ?_)
   refine Et (Cu rfl rfl rfl) (B1 (α:=Int) (cs:=[_,_]) (xs:=[0,1]) Am ty3 rfl rfl dc dc rfl rfl rfl rfl) ?_
   rintro _ _ ⟨ad12,rfl,rfl⟩
   refine Et (Cu rfl rfl rfl) (Aj call61 rfl rfl (Cmp_ok Bo Bo)) ?_
   rintro _ _ ⟨_,_,⟨rfl,rfl⟩,rfl,rfl⟩
   refine Gro (Bi rfl rfl) (Gr (Ao rfl rfl) (Gm rfl (A7 (d:=32) rfl (fun g32=>?_) (fun g32=>?_))))
   ·refine Gro (Aa fld90_4 rfl) (Gro (Bm (vs:=[_,_]) ty40) ?_)
    exact Gro (Bc (cells:=[_,_]) ty40 B9 pl40 rfl rfl) (Gro (Er (α:=Fr) (a:=(⟨NN8,DD9⟩:Fr)) (b:=(⟨1,2⟩:Fr)) eqt40 rfl rfl) (Gr (Ao rfl rfl) (Ga rfl (Af (Ar (S1 0 rfl) (Ay (A0 rfl rfl (I) A1 ⟨by rw [decide_eq_true (by rw [hN1,hD2])],rfl⟩)))))))
   ·exact absurd ((cmpL_eq _ _).2 hBl) g32
  ·exact absurd rfl g25
 ·exact absurd rfl g16
set_option maxHeartbeats 4000000 in
theorem Apply5_ok{κ:Ctx}{I:List Item}{nd:Int}{e:Ev}{va:Value}{xs:List Lk}(hl:Sl κ I va xs)(hval:checkS nd xs=0)(hfit:FitOk nd e)(hsz:xs.length≤1000000) :
    CallS Tryz.prog κ 94 [.agg #[I64 (nd),va],.agg #[I64 (e.kd),I64 (e.tm),I64 (e.u),I64 (e.v),I64 (e.w),I64 (e.lb),I64 (e.sg)]] I (fun r J=>∃y:Option Addr×Nat×Option Addr×Nat×Nat,(r = .tuple #[.agg #[I64 nd,.slice y.1 (stepL xs e).length y.2.1],.slice y.2.2.1 y.2.2.2.1 y.2.2.2.2,I64 0]∧y.2.2.2.1≤2*xs.length+1)∧J=vc 146 (.slice y.1 (stepL xs e).length y.2.1) (stepL xs e)::I):=by
 refine B4 hl.le fun hmax=>?_
 refine Ce2 Tryz.func94 rfl rfl ?_
 refine Ah (Ge1 (Bb (cs:=[_,_]) rfl rfl rfl) fun b1=>Ge1 (Bb (cs:=[_,_,_,_,_,_,_]) rfl rfl rfl) fun b2=>Ge1 (Ax ty111 rfl) fun b3=>Ga rfl (Ga rfl (Af (Av (Ah (Gl2 ty111 ?_))))))
 refine Gc0 (Aj call129 rfl rfl (CheckS5_ok (nd:=nd) (Bl hl))) ?_
 refine Ga rfl (Af (Ah (Gm rfl (Gr (Bh rfl rfl) (Af (A6 rfl (fun c19=>?_) (fun c19=>?_)))))))
 ·exact absurd hval c19
 ·refine Az (Ai (Av (Ah (Gl7 ty108 ?_))))
  refine Gc0 (Aj call155 rfl rfl (CheckE4_ok e)) ?_
  refine Ga rfl (Af (Ar (S4 8 4 3 2 rfl rfl rfl rfl) (Ah (Gm rfl (Gr (Bh rfl rfl) (Af (A6 rfl (fun c25=>?_) (fun c25=>?_))))))))
  ·exact absurd hfit.chk c25
  ·refine Az (Ai (Av (Ah (Gf fld108_2 rfl (Gl ty3 ?_)))))
   refine Gf fld111_0 rfl (Gl ty3 ?_)
   refine Gr (B5 rfl rfl) (Gm rfl (A7 (d:=33) rfl (fun g33=>?_) (fun g33=>?_)))
   ·exact absurd hfit.fits om
   ·refine Gro (Aa fld108_3 rfl) (Gro (As ty3) ?_)
    refine Gro (Aa fld111_0 rfl) (Gro (As ty3) ?_)
    refine Gro (B5 rfl rfl) (Gr (Ak rfl rfl) (Af (Ar (S4 39 4 3 2 rfl rfl rfl rfl) (A6 rfl (fun c39=>?_) (fun c39=>?_)))))
    ·exact absurd hfit.fits om
    ·refine Az (Ai (Ah (Gf fld111_0 rfl (Gl ty3 ?_))))
     refine Gr (Bc (cells:=[_,_]) ty111 Dp pl111 rfl rfl) (Ge1 (Ax ty111 rfl) fun b4=>Ge0 (Bj ty111) ?_)
     refine Af (Ah (Ga rfl ?_))
     have hasc:=(checkS_ok hval).2.2
     have hfk:=hfit.kind
     refine Af (Ah (Gf fld108_2 rfl (Gl ty3 ?_)))
     refine Gf fld108_3 rfl (Gl ty3 ?_)
     refine Gr (Runs.min rfl rfl) (Gf fld108_2 rfl (Gl ty3 ?_))
     refine Gf fld108_3 rfl (Gl ty3 ?_)
     refine Gr (Runs.max rfl rfl) (Gf fld108_4 rfl (Gl ty3 ?_))
     refine Gf fld108_5 rfl (Gl ty3 ?_)
     refine Gf fld108_6 rfl (Gl ty3 ?_)
     refine Gf fld108_1 rfl (Gl ty3 ?_)
     refine Gr (Bc (cells:=[_,_,_,_,_,_]) ty146 Tryz.underlying146 pl146 rfl rfl) (Ge1 (Ax ty146 rfl) fun b5=>Ge0 (Dw ty146) ?_)
     show G Tryz.prog κ _ _ _ _ ([(11,.pointer (some ⟨b5,0,none⟩)),(62,.agg #[I64 (if e.v<e.u then e.v else e.u),I64 (if e.u<e.v then e.v else e.u),I64 (e.w),I64 (e.lb),I64 (e.sg),I64 (e.tm)]),(61,I64 (e.tm)),(60,.pointer (some ⟨b2,1,none⟩)),(59,I64 (e.sg)),(58,.pointer (some ⟨b2,6,none⟩)),(57,I64 (e.lb)),(56,.pointer (some ⟨b2,5,none⟩)),(55,I64 (e.w)),(54,.pointer (some ⟨b2,4,none⟩)),(53,I64 (if e.u<e.v then e.v else e.u)),(52,I64 (e.v)),(51,.pointer (some ⟨b2,3,none⟩)),(50,I64 (e.u)),(49,.pointer (some ⟨b2,2,none⟩)),(48,I64 (if e.v<e.u then e.v else e.u)),(47,I64 (e.v)),(46,.pointer (some ⟨b2,3,none⟩)),(45,I64 (e.u)),(44,.pointer (some ⟨b2,2,none⟩)),(10,.slice none 0 0),(9,.pointer (some ⟨b4,0,none⟩)),(43,.agg #[I64 (nd),.slice none 0 0]),(42,I64 (nd)),(41,.pointer (some ⟨b1,0,none⟩)),(39,.bool (decide (nd≤e.v))),(4,.pointer (some ⟨b3,0,none⟩)),(3,.pointer (some ⟨b2,0,none⟩)),(2,.pointer (some ⟨b1,0,none⟩))]:Env) (blk b5 [I64 ((lkOf e).u),I64 ((lkOf e).v),I64 ((lkOf e).w),I64 ((lkOf e).lb),I64 ((lkOf e).sg),I64 ((lkOf e).tm)] 146::blk b4 [I64 (nd),.slice none 0 0] 111::blk b3 [I64 (0),.slice none 0 0] 111::blk b2 [I64 (e.kd),I64 (e.tm),I64 (e.u),I64 (e.v),I64 (e.w),I64 (e.lb),I64 (e.sg)] 108::blk b1 [I64 (nd),va] 111::I)
     refine Af (Ar (S6 11 10 9 4 3 2 rfl rfl rfl rfl rfl rfl) (Ah (Gf fld108_0 rfl (Gl ty3 ?_))))
     refine Gr (Bh rfl rfl) (Ga rfl (Af (Av (Ah (Gf fld111_1 rfl (Gl ty109 ?_))))))
     refine Gr (Bu (α:=Lk) (xs:=xs) Ap rfl (Bl hl)) (Gm rfl (Af (Ar (S9 69 68 67 12 11 10 9 4 3 rfl rfl rfl rfl rfl rfl rfl rfl rfl) (A5 (Bv (σ:=Nat×(Option Addr)×Nat×(Option Addr)×Nat×(List Lk)×(List Ev)×Bool) (fun s=>([(3,.pointer (some ⟨b2,0,none⟩)),(4,.pointer (some ⟨b3,0,none⟩)),(9,.pointer (some ⟨b4,0,none⟩)),(10,.slice s.2.2.2.1 s.2.2.2.2.2.2.1.length s.2.2.2.2.1),(11,.pointer (some ⟨b5,0,none⟩)),(12,.bool (s.2.2.2.2.2.2.2)),(67,va),(68,I64 (((xs.length:Nat):Int))),(69,I64 (((s.1:Nat):Int)))]:Env)) (fun s=>blk b4 [I64 (nd),.slice s.2.1 s.2.2.2.2.2.1.length s.2.2.1] 111::vc 146 (.slice s.2.1 s.2.2.2.2.2.1.length s.2.2.1) (s.2.2.2.2.2.1)::vc 108 (.slice s.2.2.2.1 s.2.2.2.2.2.2.1.length s.2.2.2.2.1) (s.2.2.2.2.2.2.1)::blk b5 [I64 ((lkOf e).u),I64 ((lkOf e).v),I64 ((lkOf e).w),I64 ((lkOf e).lb),I64 ((lkOf e).sg),I64 ((lkOf e).tm)] 146::blk b3 [I64 (0),.slice none 0 0] 111::blk b2 [I64 (e.kd),I64 (e.tm),I64 (e.u),I64 (e.v),I64 (e.w),I64 (e.lb),I64 (e.sg)] 108::blk b1 [I64 (nd),va] 111::I) (fun s=>(s.1≤xs.length)∧(ApI xs e s.1 s.2.2.2.2.2.1 s.2.2.2.2.2.2.2)∧(s.2.2.2.2.2.2.1.length≤2*s.1)) (fun s=>xs.length - s.1) (0,none,0,none,0,[],[],decide (e.kd≠1)) (show ((0:Nat)≤xs.length)∧(ApI xs e (0:Nat) ([]:List Lk) (decide (e.kd≠1):Bool))∧(([]:List Ev).length≤2*(0:Nat)) from ⟨om,ApI.start,(by simp)⟩) (Ab rfl (Ab rfl (Ab rfl (Ab (Db rfl (by first|rfl|simp)) (Ab rfl (Ab (Db rfl (by first|rfl|simp)) (Ab rfl (Ab rfl (Ab Ca Bp))))))))) (show Fit κ _ (blk b4 [I64 (nd),.slice (none) ([]).length (0)] 111::vc 146 (.slice (none) ([]).length (0)) (([]))::vc 108 (.slice (none) ([]).length (0)) (([]))::blk b5 [I64 ((lkOf e).u),I64 ((lkOf e).v),I64 ((lkOf e).w),I64 ((lkOf e).lb),I64 ((lkOf e).sg),I64 ((lkOf e).tm)] 146::blk b3 [I64 (0),.slice none 0 0] 111::blk b2 [I64 (e.kd),I64 (e.tm),I64 (e.u),I64 (e.v),I64 (e.w),I64 (e.lb),I64 (e.sg)] 108::blk b1 [I64 (nd),va] 111::I) from (Cp (Bw 108 _) (Cp (Bw 146 _) Bz))) ?_)))))
     rintro ⟨k,a1,c1,a2,c2,O,chg,q⟩ hp
     dsimp only at hp ⊢
     obtain ⟨hk,hA,hcg⟩:=hp
     refine Ah (Gr (A8 rfl rfl) (Af (Av (A6 rfl (fun c70=>?_) (fun c70=>?_)))))
     ·refine Az (Ai (Av (A5 (Ah (Gr (Ba (α:=Lk) (xs:=xs) Ap ty146 rfl rfl (Bl hl) om om) (Gr (Bs (α:=Lk) (xs:=xs) ty146 rfl (Bl hl) om om) (Ge1 (Ax ty146 rfl) fun b6=>Ge0 (Dw ty146) ?_)))))))
      refine Af (Ek (σ:=(Option Addr)×Nat×(Option Addr)×Nat×(List Lk)×(List Ev)×Bool) (fun s=>([(3,.pointer (some ⟨b2,0,none⟩)),(4,.pointer (some ⟨b3,0,none⟩)),(9,.pointer (some ⟨b4,0,none⟩)),(10,.slice s.2.2.1 s.2.2.2.2.2.1.length s.2.2.2.1),(11,.pointer (some ⟨b5,0,none⟩)),(12,.bool (s.2.2.2.2.2.2)),(14,.pointer (some ⟨b6,0,none⟩)),(67,va),(68,I64 (((xs.length:Nat):Int))),(69,I64 ((k:Int)))]:Env)) (fun s=>blk b4 [I64 (nd),.slice s.1 s.2.2.2.2.1.length s.2.1] 111::vc 146 (.slice s.1 s.2.2.2.2.1.length s.2.1) (s.2.2.2.2.1)::vc 108 (.slice s.2.2.1 s.2.2.2.2.2.1.length s.2.2.2.1) (s.2.2.2.2.2.1)::blk b6 [I64 ((at_ xs (k:Int)).u),I64 ((at_ xs (k:Int)).v),I64 ((at_ xs (k:Int)).w),I64 ((at_ xs (k:Int)).lb),I64 ((at_ xs (k:Int)).sg),I64 ((at_ xs (k:Int)).tm)] 146::blk b5 [I64 ((lkOf e).u),I64 ((lkOf e).v),I64 ((lkOf e).w),I64 ((lkOf e).lb),I64 ((lkOf e).sg),I64 ((lkOf e).tm)] 146::blk b3 [I64 (0),.slice none 0 0] 111::blk b2 [I64 (e.kd),I64 (e.tm),I64 (e.u),I64 (e.v),I64 (e.w),I64 (e.lb),I64 (e.sg)] 108::blk b1 [I64 (nd),va] 111::I) (fun s=>(ApI xs e k s.2.2.2.2.1 s.2.2.2.2.2.2)∧((!s.2.2.2.2.2.2)=true→¬Pt.lt (lkOf e).p (at_ xs (k:Int)).p)∧(s.2.2.2.2.2.1.length≤2*k+1)) ?_ ?_)
      ·refine Av (Bk mixed (Bq (blk b6 [I64 ((at_ xs (k:Int)).u),I64 ((at_ xs (k:Int)).v),I64 ((at_ xs (k:Int)).w),I64 ((at_ xs (k:Int)).lb),I64 ((at_ xs (k:Int)).sg),I64 ((at_ xs (k:Int)).tm)] 146::blk b4 [I64 (nd),.slice a1 O.length c1] 111::vc 146 (.slice a1 O.length c1) (O)::vc 108 (.slice a2 chg.length c2) (chg)::blk b5 [I64 ((lkOf e).u),I64 ((lkOf e).v),I64 ((lkOf e).w),I64 ((lkOf e).lb),I64 ((lkOf e).sg),I64 ((lkOf e).tm)] 146::blk b3 [I64 (0),.slice none 0 0] 111::blk b2 [I64 (e.kd),I64 (e.tm),I64 (e.u),I64 (e.v),I64 (e.w),I64 (e.lb),I64 (e.sg)] 108::blk b1 [I64 (nd),va] 111::I) 9 (Dr 0 rfl (Ac rfl) (Dr 1 rfl (Ck rfl) (Dr 2 rfl (Ac rfl) (D.splitb (d:=75) rfl (fun g75=>?_) (fun g75=>?_)))))))
       ·refine Dro 3 rfl (Bm (vs:=[_,_,_,_,_,_]) ty146) ?_
        refine Dro 5 rfl (Bm (vs:=[_,_,_,_,_,_]) ty146) ?_
        refine Ds1 4 (Sc0 rfl (Aj call130 rfl rfl (Edge5_ok (lkOf e))) ?_)
        refine Ds1 6 (Sc0 rfl (Aj call130 rfl rfl (Edge5_ok (at_ xs (k:Int)))) ?_)
        refine Ds1 7 (Sc0 rfl (Aj call84 rfl rfl (Before03_ok (lkOf e).p (at_ xs (k:Int)).p)) ?_)
        refine Dr 8 rfl (Ao rfl rfl) (Dz (Ai (Ar (S11 81 14 3 4 9 10 11 12 67 68 69 rfl rfl rfl rfl rfl rfl rfl rfl rfl rfl rfl) (A6 rfl (fun c81=>?_) (fun c81=>?_)))))
        ·refine Bk mixed (Bq (blk b6 [I64 ((at_ xs (k:Int)).u),I64 ((at_ xs (k:Int)).v),I64 ((at_ xs (k:Int)).w),I64 ((at_ xs (k:Int)).lb),I64 ((at_ xs (k:Int)).sg),I64 ((at_ xs (k:Int)).tm)] 146::blk b5 [I64 ((lkOf e).u),I64 ((lkOf e).v),I64 ((lkOf e).w),I64 ((lkOf e).lb),I64 ((lkOf e).sg),I64 ((lkOf e).tm)] 146::blk b3 [I64 (0),.slice none 0 0] 111::blk b2 [I64 (e.kd),I64 (e.tm),I64 (e.u),I64 (e.v),I64 (e.w),I64 (e.lb),I64 (e.sg)] 108::blk b1 [I64 (nd),va] 111::I) 16 (Dr 0 rfl (Aa fld111_1 rfl) (Dr 2 rfl (Bm (vs:=[_,_,_,_,_,_]) ty146) ?_)))
         refine Dr 5 rfl (Ac rfl) (Dr 6 rfl (Bm (vs:=[_,_,_,_,_,_]) ty146) ?_)
         refine Dr 7 rfl (Aa fld108_1 rfl) (Dr 8 rfl (As ty3) ?_)
         refine Cc (rs:=[1,3]) kr rfl rfl (C4 ?_ (Dc ?_))
         ·refine Sr rfl (As ty109) A4 ?_
          refine Ds1 3 (Se1 rfl (B1 (α:=Lk) (cs:=[I64 ((lkOf e).u),I64 ((lkOf e).v),I64 ((lkOf e).w),I64 ((lkOf e).lb),I64 ((lkOf e).sg),I64 ((lkOf e).tm)]) (xs:=[⟨(lkOf e).u,(lkOf e).v,(lkOf e).w,(lkOf e).lb,(lkOf e).sg,(lkOf e).tm⟩]) Ap ty146 rfl rfl dc dc rfl kr rfl rfl) fun ad7=>?_)
          refine Ds1 4 (Se2 rfl (B2 (α:=Lk) (e:=146) (xs:=O) (ys:=([⟨(lkOf e).u,(lkOf e).v,(lkOf e).w,(lkOf e).lb,(lkOf e).sg,(lkOf e).tm⟩]:List Lk)) Ap ty146 rfl rfl rfl mm Bo (by have hol3:=hA.len;first|(simp only [List.length_append,List.length_cons,List.length_nil];omega)|(have hol4:=hA2.len;simp only [List.length_append,List.length_cons,List.length_nil];omega)) dc rfl (fun _ _=>am)) fun ad8 cp9=>?_)
          refine Dr 12 rfl (Aa fld111_1 rfl) (Ds1 9 (Sc0 rfl (Aj call163 rfl rfl (Set5_ok (lkOf e) e.tm)) ?_))
          refine Ds1 10 (Se1 rfl (B1 (α:=Ev) (cs:=[I64 (1),I64 (e.tm),I64 ((lkOf e).u),I64 ((lkOf e).v),I64 ((lkOf e).w),I64 ((lkOf e).lb),I64 ((lkOf e).sg)]) (xs:=[⟨1,e.tm,(lkOf e).u,(lkOf e).v,(lkOf e).w,(lkOf e).lb,(lkOf e).sg⟩]) Aw ty108 rfl rfl dc dc rfl kr rfl rfl) fun ad10=>?_)
          refine Ds1 11 (Se2 rfl (B2 (α:=Ev) (e:=108) (xs:=chg) (ys:=([⟨1,e.tm,(lkOf e).u,(lkOf e).v,(lkOf e).w,(lkOf e).lb,(lkOf e).sg⟩]:List Ev)) Aw ty108 rfl rfl rfl mm Bo (by have hol3:=hA.len;first|(simp only [List.length_append,List.length_cons,List.length_nil];omega)|(have hol4:=hA2.len;simp only [List.length_append,List.length_cons,List.length_nil];omega)) dc rfl (fun _ _=>am)) fun ad11 cp12=>?_)
          refine Ds1 13 (Se0 rfl (Dy ty109) ?_)
          exact Dr 14 rfl (Bd rfl) (Dr 15 rfl (Bd rfl) (Dz (Cl ((ad8),(cp9),(ad11),(cp12),(O++([⟨(lkOf e).u,(lkOf e).v,(lkOf e).w,(lkOf e).lb,(lkOf e).sg,(lkOf e).tm⟩]:List Lk)),(chg++([⟨1,e.tm,(lkOf e).u,(lkOf e).v,(lkOf e).w,(lkOf e).lb,(lkOf e).sg⟩]:List Ev)),(true)) (by dsimp only;exact ⟨(by first|exact hA.ins hasc om g75 c81|exact hA),(by intro h;first|exact absurd h dc|exact c81|(rw [h] at g75;cases g75)),olp⟩))))
         ·refine Se1 rfl (B1 (α:=Lk) (cs:=[I64 ((lkOf e).u),I64 ((lkOf e).v),I64 ((lkOf e).w),I64 ((lkOf e).lb),I64 ((lkOf e).sg),I64 ((lkOf e).tm)]) (xs:=[⟨(lkOf e).u,(lkOf e).v,(lkOf e).w,(lkOf e).lb,(lkOf e).sg,(lkOf e).tm⟩]) Ap ty146 rfl rfl dc dc rfl kr rfl rfl) fun ad13=>?_
          refine Ds1 1 (Sr rfl (As ty109) A4 ?_)
          refine Ds1 4 (Se2 rfl (B2 (α:=Lk) (e:=146) (xs:=O) (ys:=([⟨(lkOf e).u,(lkOf e).v,(lkOf e).w,(lkOf e).lb,(lkOf e).sg,(lkOf e).tm⟩]:List Lk)) Ap ty146 rfl rfl rfl mm Bo (by have hol3:=hA.len;first|(simp only [List.length_append,List.length_cons,List.length_nil];omega)|(have hol4:=hA2.len;simp only [List.length_append,List.length_cons,List.length_nil];omega)) dc rfl (fun _ _=>am)) fun ad14 cp15=>?_)
          refine Dr 12 rfl (Aa fld111_1 rfl) (Ds1 9 (Sc0 rfl (Aj call163 rfl rfl (Set5_ok (lkOf e) e.tm)) ?_))
          refine Ds1 10 (Se1 rfl (B1 (α:=Ev) (cs:=[I64 (1),I64 (e.tm),I64 ((lkOf e).u),I64 ((lkOf e).v),I64 ((lkOf e).w),I64 ((lkOf e).lb),I64 ((lkOf e).sg)]) (xs:=[⟨1,e.tm,(lkOf e).u,(lkOf e).v,(lkOf e).w,(lkOf e).lb,(lkOf e).sg⟩]) Aw ty108 rfl rfl dc dc rfl kr rfl rfl) fun ad16=>?_)
          refine Ds1 11 (Se2 rfl (B2 (α:=Ev) (e:=108) (xs:=chg) (ys:=([⟨1,e.tm,(lkOf e).u,(lkOf e).v,(lkOf e).w,(lkOf e).lb,(lkOf e).sg⟩]:List Ev)) Aw ty108 rfl rfl rfl mm Bo (by have hol3:=hA.len;first|(simp only [List.length_append,List.length_cons,List.length_nil];omega)|(have hol4:=hA2.len;simp only [List.length_append,List.length_cons,List.length_nil];omega)) dc rfl (fun _ _=>am)) fun ad17 cp18=>?_)
          refine Ds1 13 (Se0 rfl (Dy ty109) ?_)
          exact Dr 14 rfl (Bd rfl) (Dr 15 rfl (Bd rfl) (Dz (Cl ((ad14),(cp15),(ad17),(cp18),(O++([⟨(lkOf e).u,(lkOf e).v,(lkOf e).w,(lkOf e).lb,(lkOf e).sg,(lkOf e).tm⟩]:List Lk)),(chg++([⟨1,e.tm,(lkOf e).u,(lkOf e).v,(lkOf e).w,(lkOf e).lb,(lkOf e).sg⟩]:List Ev)),(true)) (by dsimp only;exact ⟨(by first|exact hA.ins hasc om g75 c81|exact hA),(by intro h;first|exact absurd h dc|exact c81|(rw [h] at g75;cases g75)),olp⟩))))
        ·exact Az (Cl ((a1),(c1),(a2),(c2),(O),(chg),(q)) (by dsimp only;exact ⟨(by first|exact hA.ins hasc om g75 c81|exact hA),(by intro h;first|exact absurd h dc|exact c81|(rw [h] at g75;cases g75)),olp⟩))
       ·exact Dpo 3 rfl (Dpo 5 rfl (Dpo 4 rfl (Dpo 6 rfl (Dpo 7 rfl (Dr 8 rfl (Ak rfl rfl) (Dz (Ai (Ar (S11 81 14 3 4 9 10 11 12 67 68 69 rfl rfl rfl rfl rfl rfl rfl rfl rfl rfl rfl) (Cw rfl (Az (Cl ((a1),(c1),(a2),(c2),(O),(chg),(q)) (by dsimp only;exact ⟨(by first|exact hA.ins hasc om g75 c81|exact hA),(by intro h;first|exact absurd h dc|exact c81|(rw [h] at g75;cases g75)),olp⟩))))))))))))
      ·rintro ⟨a3,c3,a4,c4,O2,chg2,q2⟩ hp
       obtain ⟨hA2,hM,hc2⟩:(ApI xs e k O2 q2)∧((!q2)=true→¬Pt.lt (lkOf e).p (at_ xs (k:Int)).p)∧(chg2.length≤2*k+1):=hp
       show W Tryz.prog κ 180 _ _ ([(3,.pointer (some ⟨b2,0,none⟩)),(4,.pointer (some ⟨b3,0,none⟩)),(9,.pointer (some ⟨b4,0,none⟩)),(10,.slice a4 chg2.length c4),(11,.pointer (some ⟨b5,0,none⟩)),(12,.bool (q2)),(14,.pointer (some ⟨b6,0,none⟩)),(67,va),(68,I64 (((xs.length:Nat):Int))),(69,I64 ((k:Int)))]:Env) (blk b4 [I64 (nd),.slice a3 O2.length c3] 111::vc 146 (.slice a3 O2.length c3) (O2)::vc 108 (.slice a4 chg2.length c4) (chg2)::blk b6 [I64 ((at_ xs (k:Int)).u),I64 ((at_ xs (k:Int)).v),I64 ((at_ xs (k:Int)).w),I64 ((at_ xs (k:Int)).lb),I64 ((at_ xs (k:Int)).sg),I64 ((at_ xs (k:Int)).tm)] 146::blk b5 [I64 ((lkOf e).u),I64 ((lkOf e).v),I64 ((lkOf e).w),I64 ((lkOf e).lb),I64 ((lkOf e).sg),I64 ((lkOf e).tm)] 146::blk b3 [I64 (0),.slice none 0 0] 111::blk b2 [I64 (e.kd),I64 (e.tm),I64 (e.u),I64 (e.v),I64 (e.w),I64 (e.lb),I64 (e.sg)] 108::blk b1 [I64 (nd),va] 111::I)
       refine Av (Bk mixed (Bq (blk b4 [I64 (nd),.slice a3 O2.length c3] 111::vc 146 (.slice a3 O2.length c3) (O2)::vc 108 (.slice a4 chg2.length c4) (chg2)::blk b6 [I64 ((at_ xs (k:Int)).u),I64 ((at_ xs (k:Int)).v),I64 ((at_ xs (k:Int)).w),I64 ((at_ xs (k:Int)).lb),I64 ((at_ xs (k:Int)).sg),I64 ((at_ xs (k:Int)).tm)] 146::blk b5 [I64 ((lkOf e).u),I64 ((lkOf e).v),I64 ((lkOf e).w),I64 ((lkOf e).lb),I64 ((lkOf e).sg),I64 ((lkOf e).tm)] 146::blk b3 [I64 (0),.slice none 0 0] 111::blk b2 [I64 (e.kd),I64 (e.tm),I64 (e.u),I64 (e.v),I64 (e.w),I64 (e.lb),I64 (e.sg)] 108::blk b1 [I64 (nd),va] 111::I) 6 (Dr 0 rfl (Bm (vs:=[_,_,_,_,_,_]) ty146) ?_)))
       refine Dr 2 rfl (Bm (vs:=[_,_,_,_,_,_]) ty146) ?_
       refine Ds1 1 (Sc0 rfl (Aj call130 rfl rfl (Edge5_ok (at_ xs (k:Int)))) ?_)
       refine Ds1 3 (Sc0 rfl (Aj call130 rfl rfl (Edge5_ok (lkOf e))) ?_)
       refine Dr 4 rfl (Er (α:=Pt) (a:=(at_ xs (k:Int)).p) (b:=(lkOf e).p) eqt135 rfl rfl) (Dr 5 rfl (Bd rfl) (Dz (Ai (Ar (S11 15 3 4 9 10 11 12 14 67 68 69 rfl rfl rfl rfl rfl rfl rfl rfl rfl rfl rfl) (A5 (Ek (σ:=Bool) (fun s=>([(3,.pointer (some ⟨b2,0,none⟩)),(4,.pointer (some ⟨b3,0,none⟩)),(9,.pointer (some ⟨b4,0,none⟩)),(10,.slice a4 chg2.length c4),(11,.pointer (some ⟨b5,0,none⟩)),(12,.bool (q2)),(14,.pointer (some ⟨b6,0,none⟩)),(15,.bool (decide (((at_ xs (k:Int)).p)=((lkOf e).p)))),(67,va),(68,I64 (((xs.length:Nat):Int))),(69,I64 ((k:Int))),(106,.bool (s))]:Env)) (fun s=>blk b4 [I64 (nd),.slice a3 O2.length c3] 111::vc 146 (.slice a3 O2.length c3) (O2)::vc 108 (.slice a4 chg2.length c4) (chg2)::blk b6 [I64 ((at_ xs (k:Int)).u),I64 ((at_ xs (k:Int)).v),I64 ((at_ xs (k:Int)).w),I64 ((at_ xs (k:Int)).lb),I64 ((at_ xs (k:Int)).sg),I64 ((at_ xs (k:Int)).tm)] 146::blk b5 [I64 ((lkOf e).u),I64 ((lkOf e).v),I64 ((lkOf e).w),I64 ((lkOf e).lb),I64 ((lkOf e).sg),I64 ((lkOf e).tm)] 146::blk b3 [I64 (0),.slice none 0 0] 111::blk b2 [I64 (e.kd),I64 (e.tm),I64 (e.u),I64 (e.v),I64 (e.w),I64 (e.lb),I64 (e.sg)] 108::blk b1 [I64 (nd),va] 111::I) (fun s=>(s=decide (e.kd=1∧(at_ xs (k:Int)).p=(lkOf e).p))) ?_ ?_))))))
       ·refine A2 (Gf fld108_0 rfl (Gl ty3 ?_))
        refine Gr (Bi rfl rfl) (Gm rfl (A7 (d:=110) rfl (fun g110=>?_) (fun g110=>?_)))
        ·exact Gro (Ac rfl) (Gr (Ao rfl rfl) (Ga rfl (Be (Cl ((decide (((at_ xs (k:Int)).p)=((lkOf e).p)))) (by first|exact decide_eq_decide.2 ⟨fun h=>⟨by omega,h⟩,fun h=>h.2⟩|exact (decide_eq_false (fun h=>by omega)).symm) (hI:=by (try dsimp only);exact (C9 _))))))
        ·exact Gpo (Gr (Ak rfl rfl) (Ga rfl (Be (Cl ((false)) (by first|exact decide_eq_decide.2 ⟨fun h=>⟨by omega,h⟩,fun h=>h.2⟩|exact (decide_eq_false (fun h=>by omega)).symm) (hI:=by (try dsimp only);exact (C9 _))))))
       ·rintro y hp
        have hy:(y=decide (e.kd=1∧(at_ xs (k:Int)).p=(lkOf e).p)):=hp
        show W Tryz.prog κ 180 _ _ ([(3,.pointer (some ⟨b2,0,none⟩)),(4,.pointer (some ⟨b3,0,none⟩)),(9,.pointer (some ⟨b4,0,none⟩)),(10,.slice a4 chg2.length c4),(11,.pointer (some ⟨b5,0,none⟩)),(12,.bool (q2)),(14,.pointer (some ⟨b6,0,none⟩)),(15,.bool (decide (((at_ xs (k:Int)).p)=((lkOf e).p)))),(67,va),(68,I64 (((xs.length:Nat):Int))),(69,I64 ((k:Int))),(106,.bool (y))]:Env) (blk b4 [I64 (nd),.slice a3 O2.length c3] 111::vc 146 (.slice a3 O2.length c3) (O2)::vc 108 (.slice a4 chg2.length c4) (chg2)::blk b6 [I64 ((at_ xs (k:Int)).u),I64 ((at_ xs (k:Int)).v),I64 ((at_ xs (k:Int)).w),I64 ((at_ xs (k:Int)).lb),I64 ((at_ xs (k:Int)).sg),I64 ((at_ xs (k:Int)).tm)] 146::blk b5 [I64 ((lkOf e).u),I64 ((lkOf e).v),I64 ((lkOf e).w),I64 ((lkOf e).lb),I64 ((lkOf e).sg),I64 ((lkOf e).tm)] 146::blk b3 [I64 (0),.slice none 0 0] 111::blk b2 [I64 (e.kd),I64 (e.tm),I64 (e.u),I64 (e.v),I64 (e.w),I64 (e.lb),I64 (e.sg)] 108::blk b1 [I64 (nd),va] 111::I)
        refine Ew rfl (fun c106=>?_) (fun c106=>?_)
        ·refine Av (Ah (Gl6 ty146 ?_))
         refine Gl6 ty146 ?_
         refine Gr (Runs.neqT (α:=Lk) (a:=(at_ xs (k:Int))) (b:=(lkOf e)) eqt146 rfl rfl) (Af (Ar (S9 115 3 4 9 10 11 67 68 69 rfl rfl rfl rfl rfl rfl rfl rfl rfl) (A6 rfl (fun c115=>?_) (fun c115=>?_))))
         ·refine A2 (Gm rfl (Gl6 ty146 ?_))
          refine Gf fld108_1 rfl (Gl ty3 ?_)
          refine Gc0 (Aj call163 rfl rfl (Set5_ok (lkOf e) e.tm)) ?_
          refine Ge1 (B1 (α:=Ev) (cs:=[I64 (1),I64 (e.tm),I64 ((lkOf e).u),I64 ((lkOf e).v),I64 ((lkOf e).w),I64 ((lkOf e).lb),I64 ((lkOf e).sg)]) (xs:=[⟨1,e.tm,(lkOf e).u,(lkOf e).v,(lkOf e).w,(lkOf e).lb,(lkOf e).sg⟩]) Aw ty108 rfl rfl dc dc rfl kr rfl rfl) fun ad19=>?_
          refine Ge2 (B2 (α:=Ev) (e:=108) (xs:=chg2) (ys:=([⟨1,e.tm,(lkOf e).u,(lkOf e).v,(lkOf e).w,(lkOf e).lb,(lkOf e).sg⟩]:List Ev)) Aw ty108 rfl rfl rfl mm Bo (by have hol3:=hA.len;first|(simp only [List.length_append,List.length_cons,List.length_nil];omega)|(have hol4:=hA2.len;simp only [List.length_append,List.length_cons,List.length_nil];omega)) dc rfl (fun _ _=>am)) fun ad20 cp21=>?_
          refine Ga rfl (Af (Ar (S8 10 3 4 9 11 67 68 69 rfl rfl rfl rfl rfl rfl rfl rfl) (A2 (Gf fld111_1 rfl (Gl ty109 ?_)))))
          refine Gl6 ty146 ?_
          refine Ge1 (B1 (α:=Lk) (cs:=[I64 ((lkOf e).u),I64 ((lkOf e).v),I64 ((lkOf e).w),I64 ((lkOf e).lb),I64 ((lkOf e).sg),I64 ((lkOf e).tm)]) (xs:=[⟨(lkOf e).u,(lkOf e).v,(lkOf e).w,(lkOf e).lb,(lkOf e).sg,(lkOf e).tm⟩]) Ap ty146 rfl rfl dc dc rfl kr rfl rfl) fun ad22=>?_
          refine Ge2 (B2 (α:=Lk) (e:=146) (xs:=O2) (ys:=([⟨(lkOf e).u,(lkOf e).v,(lkOf e).w,(lkOf e).lb,(lkOf e).sg,(lkOf e).tm⟩]:List Lk)) Ap ty146 rfl rfl rfl mm Bo (by have hol3:=hA.len;first|(simp only [List.length_append,List.length_cons,List.length_nil];omega)|(have hol4:=hA2.len;simp only [List.length_append,List.length_cons,List.length_nil];omega)) dc rfl (fun _ _=>am)) fun ad23 cp24=>?_
          refine Gf fld111_1 rfl (Ge0 (Dy ty109) ?_)
          exact Ga rfl (Be (Al (Al (Ai (Ar (S9 12 10 3 4 9 11 67 68 69 rfl rfl rfl rfl rfl rfl rfl rfl rfl) (A2 (Gr (Rad rfl rfl) (Gm rfl (Be (B0 ((k+1),(ad23),(cp24),(ad20),(cp21),(O2++([⟨(lkOf e).u,(lkOf e).v,(lkOf e).w,(lkOf e).lb,(lkOf e).sg,(lkOf e).tm⟩]:List Lk)),(chg2++([⟨1,e.tm,(lkOf e).u,(lkOf e).v,(lkOf e).w,(lkOf e).lb,(lkOf e).sg⟩]:List Ev)),(true)) (by dsimp only;exact ⟨om,(by first|exact hA2.hit hasc om (of_decide_eq_true (hy.symm.trans c106)).1 (of_decide_eq_true (hy.symm.trans c106)).2|exact hA2.drop om (of_decide_eq_true (hz.symm.trans c129)).1 (of_decide_eq_true (hz.symm.trans c129)).2|exact hA2.keep hasc om hM (fun h1 h2=>of_decide_eq_false (hy.symm.trans c106) ⟨h1,h2⟩) (fun h1=>Classical.byContradiction fun hh=>of_decide_eq_false (hz.symm.trans c129) ⟨h1,by simpa using hh⟩)),olp⟩)))))))))))
         ·refine Az (Ai (A2 (Gf fld111_1 rfl (Gl ty109 ?_))))
          refine Gl6 ty146 ?_
          refine Ge1 (B1 (α:=Lk) (cs:=[I64 ((lkOf e).u),I64 ((lkOf e).v),I64 ((lkOf e).w),I64 ((lkOf e).lb),I64 ((lkOf e).sg),I64 ((lkOf e).tm)]) (xs:=[⟨(lkOf e).u,(lkOf e).v,(lkOf e).w,(lkOf e).lb,(lkOf e).sg,(lkOf e).tm⟩]) Ap ty146 rfl rfl dc dc rfl kr rfl rfl) fun ad25=>?_
          refine Ge2 (B2 (α:=Lk) (e:=146) (xs:=O2) (ys:=([⟨(lkOf e).u,(lkOf e).v,(lkOf e).w,(lkOf e).lb,(lkOf e).sg,(lkOf e).tm⟩]:List Lk)) Ap ty146 rfl rfl rfl mm Bo (by have hol3:=hA.len;first|(simp only [List.length_append,List.length_cons,List.length_nil];omega)|(have hol4:=hA2.len;simp only [List.length_append,List.length_cons,List.length_nil];omega)) dc rfl (fun _ _=>am)) fun ad26 cp27=>?_
          refine Gf fld111_1 rfl (Ge0 (Dy ty109) ?_)
          exact Ga rfl (Be (Al (Al (Ai (Ar (S9 12 3 4 9 10 11 67 68 69 rfl rfl rfl rfl rfl rfl rfl rfl rfl) (A2 (Gr (Rad rfl rfl) (Gm rfl (Be (B0 ((k+1),(ad26),(cp27),(a4),(c4),(O2++([⟨(lkOf e).u,(lkOf e).v,(lkOf e).w,(lkOf e).lb,(lkOf e).sg,(lkOf e).tm⟩]:List Lk)),(chg2),(true)) (by dsimp only;exact ⟨om,(by first|exact hA2.hit hasc om (of_decide_eq_true (hy.symm.trans c106)).1 (of_decide_eq_true (hy.symm.trans c106)).2|exact hA2.drop om (of_decide_eq_true (hz.symm.trans c129)).1 (of_decide_eq_true (hz.symm.trans c129)).2|exact hA2.keep hasc om hM (fun h1 h2=>of_decide_eq_false (hy.symm.trans c106) ⟨h1,h2⟩) (fun h1=>Classical.byContradiction fun hh=>of_decide_eq_false (hz.symm.trans c129) ⟨h1,by simpa using hh⟩)),olp⟩)))))))))))
        ·refine Ek (σ:=Bool) (fun s=>([(3,.pointer (some ⟨b2,0,none⟩)),(4,.pointer (some ⟨b3,0,none⟩)),(9,.pointer (some ⟨b4,0,none⟩)),(10,.slice a4 chg2.length c4),(11,.pointer (some ⟨b5,0,none⟩)),(12,.bool (q2)),(14,.pointer (some ⟨b6,0,none⟩)),(67,va),(68,I64 (((xs.length:Nat):Int))),(69,I64 ((k:Int))),(129,.bool (s))]:Env)) (fun s=>blk b4 [I64 (nd),.slice a3 O2.length c3] 111::vc 146 (.slice a3 O2.length c3) (O2)::vc 108 (.slice a4 chg2.length c4) (chg2)::blk b6 [I64 ((at_ xs (k:Int)).u),I64 ((at_ xs (k:Int)).v),I64 ((at_ xs (k:Int)).w),I64 ((at_ xs (k:Int)).lb),I64 ((at_ xs (k:Int)).sg),I64 ((at_ xs (k:Int)).tm)] 146::blk b5 [I64 ((lkOf e).u),I64 ((lkOf e).v),I64 ((lkOf e).w),I64 ((lkOf e).lb),I64 ((lkOf e).sg),I64 ((lkOf e).tm)] 146::blk b3 [I64 (0),.slice none 0 0] 111::blk b2 [I64 (e.kd),I64 (e.tm),I64 (e.u),I64 (e.v),I64 (e.w),I64 (e.lb),I64 (e.sg)] 108::blk b1 [I64 (nd),va] 111::I) (fun s=>(s=decide (e.kd≠1∧hitE e (at_ xs (k:Int))=true))) ?_ ?_
         ·refine A2 (Gf fld108_0 rfl (Gl ty3 ?_))
          refine Gr (Bi rfl rfl) (Gm rfl (A7 (d:=133) rfl (fun g133=>?_) (fun g133=>?_)))
          ·refine Gro (Ac rfl) (Gr (Ao rfl rfl) (Gm rfl (A7 (d:=136) rfl (fun g136=>?_) (fun g136=>?_))))
           ·exact Gpo (Gpo (Gpo (Gpo (Gpu (Gpu (Gpu (Gpu (Gpu (Gpu (Gpu (Gpu (Gpu (Gpu (Gpu (Gpu (Gpo (Gr (Ao rfl rfl) (Ga rfl (Be (Cl ((true)) (by first|(exfalso;omega)|exact (decide_eq_true ⟨by omega,by first|(rw [hit_two om];exact decide_eq_true asm)|(rw [hit_oth om];exact decide_eq_true om)⟩).symm|exact (decide_eq_false (fun h=>by first|omega|(have h2:=h.2;first|(rw [hit_two om] at h2;exact absurd (of_decide_eq_true h2) asm)|(rw [hit_oth om] at h2;have h3:=of_decide_eq_true h2;omega)))).symm|exact decide_eq_decide.2 ⟨fun h=>⟨by omega,by rw [hit_oth om];exact decide_eq_true (.inr h)⟩,fun h=>by have h2:=h.2;rw [hit_oth om] at h2;have h3:=of_decide_eq_true h2;omega⟩) (hI:=by (try dsimp only);exact (C9 _))))))))))))))))))))))
           ·refine Gro (Aa fld108_0 rfl) (Gro (As ty3) ?_)
            refine Gro (Bi rfl rfl) (Gro (Ac rfl) (A7 (d:=140) rfl (fun g140=>?_) (fun g140=>?_)))
            ·refine Gro (Aa fld146_0 rfl) (Gro (As ty3) ?_)
             refine Gro (Aa fld108_2 rfl) (Gro (As ty3) ?_)
             refine Gro (Bi rfl rfl) (Gro (Ac rfl) (A7 (d:=146) rfl (fun g146=>?_) (fun g146=>?_)))
             ·exact Gpo (Gpo (Gpo (Gpo (Gpo (Gro (Ao rfl rfl) (Gro (Ao rfl rfl) (Gr (Ak rfl rfl) (Ga rfl (Be (Cl ((true)) (by first|(exfalso;omega)|exact (decide_eq_true ⟨by omega,by first|(rw [hit_two om];exact decide_eq_true asm)|(rw [hit_oth om];exact decide_eq_true om)⟩).symm|exact (decide_eq_false (fun h=>by first|omega|(have h2:=h.2;first|(rw [hit_two om] at h2;exact absurd (of_decide_eq_true h2) asm)|(rw [hit_oth om] at h2;have h3:=of_decide_eq_true h2;omega)))).symm|exact decide_eq_decide.2 ⟨fun h=>⟨by omega,by rw [hit_oth om];exact decide_eq_true (.inr h)⟩,fun h=>by have h2:=h.2;rw [hit_oth om] at h2;have h3:=of_decide_eq_true h2;omega⟩) (hI:=by (try dsimp only);exact (C9 _))))))))))))
             ·refine Gro (Aa fld146_1 rfl) (Gro (As ty3) ?_)
              refine Gro (Aa fld108_2 rfl) (Gro (As ty3) ?_)
              exact Gro (Bi rfl rfl) (Gro (Ak rfl rfl) (Gro (Ao rfl rfl) (Gr (Ak rfl rfl) (Ga rfl (Be (Cl ((decide (((at_ xs (k:Int)).v)=e.u))) (by first|(exfalso;omega)|exact (decide_eq_true ⟨by omega,by first|(rw [hit_two om];exact decide_eq_true asm)|(rw [hit_oth om];exact decide_eq_true om)⟩).symm|exact (decide_eq_false (fun h=>by first|omega|(have h2:=h.2;first|(rw [hit_two om] at h2;exact absurd (of_decide_eq_true h2) asm)|(rw [hit_oth om] at h2;have h3:=of_decide_eq_true h2;omega)))).symm|exact decide_eq_decide.2 ⟨fun h=>⟨by omega,by rw [hit_oth om];exact decide_eq_true (.inr h)⟩,fun h=>by have h2:=h.2;rw [hit_oth om] at h2;have h3:=of_decide_eq_true h2;omega⟩) (hI:=by (try dsimp only);exact (C9 _))))))))
            ·exact Gpo (Gpo (Gpo (Gpo (Gpo (Gpo (Gpu (Gpu (Gpu (Gpu (Gpu (Gpo (Gro (Ak rfl rfl) (Gr (Ak rfl rfl) (Ga rfl (Be (Cl ((false)) (by first|(exfalso;omega)|exact (decide_eq_true ⟨by omega,by first|(rw [hit_two om];exact decide_eq_true asm)|(rw [hit_oth om];exact decide_eq_true om)⟩).symm|exact (decide_eq_false (fun h=>by first|omega|(have h2:=h.2;first|(rw [hit_two om] at h2;exact absurd (of_decide_eq_true h2) asm)|(rw [hit_oth om] at h2;have h3:=of_decide_eq_true h2;omega)))).symm|exact decide_eq_decide.2 ⟨fun h=>⟨by omega,by rw [hit_oth om];exact decide_eq_true (.inr h)⟩,fun h=>by have h2:=h.2;rw [hit_oth om] at h2;have h3:=of_decide_eq_true h2;omega⟩) (hI:=by (try dsimp only);exact (C9 _))))))))))))))))))
          ·refine Gpo (Gr (Ak rfl rfl) (Gm rfl (Gro (Aa fld108_0 rfl) (Gro (As ty3) ?_))))
           refine Gro (Bi rfl rfl) (Gro (Ac rfl) (A7 (d:=140) rfl (fun g140=>?_) (fun g140=>?_)))
           ·refine Gro (Aa fld146_0 rfl) (Gro (As ty3) ?_)
            refine Gro (Aa fld108_2 rfl) (Gro (As ty3) ?_)
            refine Gro (Bi rfl rfl) (Gro (Ac rfl) (A7 (d:=146) rfl (fun g146=>?_) (fun g146=>?_)))
            ·exact Gpo (Gpo (Gpo (Gpo (Gpo (Gro (Ao rfl rfl) (Gro (Ao rfl rfl) (Gr (Ak rfl rfl) (Ga rfl (Be (Cl ((true)) (by first|(exfalso;omega)|exact (decide_eq_true ⟨by omega,by first|(rw [hit_two om];exact decide_eq_true asm)|(rw [hit_oth om];exact decide_eq_true om)⟩).symm|exact (decide_eq_false (fun h=>by first|omega|(have h2:=h.2;first|(rw [hit_two om] at h2;exact absurd (of_decide_eq_true h2) asm)|(rw [hit_oth om] at h2;have h3:=of_decide_eq_true h2;omega)))).symm|exact decide_eq_decide.2 ⟨fun h=>⟨by omega,by rw [hit_oth om];exact decide_eq_true (.inr h)⟩,fun h=>by have h2:=h.2;rw [hit_oth om] at h2;have h3:=of_decide_eq_true h2;omega⟩) (hI:=by (try dsimp only);exact (C9 _))))))))))))
            ·refine Gro (Aa fld146_1 rfl) (Gro (As ty3) ?_)
             refine Gro (Aa fld108_2 rfl) (Gro (As ty3) ?_)
             exact Gro (Bi rfl rfl) (Gro (Ak rfl rfl) (Gro (Ao rfl rfl) (Gr (Ak rfl rfl) (Ga rfl (Be (Cl ((decide (((at_ xs (k:Int)).v)=e.u))) (by first|(exfalso;omega)|exact (decide_eq_true ⟨by omega,by first|(rw [hit_two om];exact decide_eq_true asm)|(rw [hit_oth om];exact decide_eq_true om)⟩).symm|exact (decide_eq_false (fun h=>by first|omega|(have h2:=h.2;first|(rw [hit_two om] at h2;exact absurd (of_decide_eq_true h2) asm)|(rw [hit_oth om] at h2;have h3:=of_decide_eq_true h2;omega)))).symm|exact decide_eq_decide.2 ⟨fun h=>⟨by omega,by rw [hit_oth om];exact decide_eq_true (.inr h)⟩,fun h=>by have h2:=h.2;rw [hit_oth om] at h2;have h3:=of_decide_eq_true h2;omega⟩) (hI:=by (try dsimp only);exact (C9 _))))))))
           ·exact Gpo (Gpo (Gpo (Gpo (Gpo (Gpo (Gpu (Gpu (Gpu (Gpu (Gpu (Gpo (Gro (Ak rfl rfl) (Gr (Ak rfl rfl) (Ga rfl (Be (Cl ((false)) (by first|(exfalso;omega)|exact (decide_eq_true ⟨by omega,by first|(rw [hit_two om];exact decide_eq_true asm)|(rw [hit_oth om];exact decide_eq_true om)⟩).symm|exact (decide_eq_false (fun h=>by first|omega|(have h2:=h.2;first|(rw [hit_two om] at h2;exact absurd (of_decide_eq_true h2) asm)|(rw [hit_oth om] at h2;have h3:=of_decide_eq_true h2;omega)))).symm|exact decide_eq_decide.2 ⟨fun h=>⟨by omega,by rw [hit_oth om];exact decide_eq_true (.inr h)⟩,fun h=>by have h2:=h.2;rw [hit_oth om] at h2;have h3:=of_decide_eq_true h2;omega⟩) (hI:=by (try dsimp only);exact (C9 _))))))))))))))))))
         ·rintro z hp
          have hz:(z=decide (e.kd≠1∧hitE e (at_ xs (k:Int))=true)):=hp
          show W Tryz.prog κ 180 _ _ ([(3,.pointer (some ⟨b2,0,none⟩)),(4,.pointer (some ⟨b3,0,none⟩)),(9,.pointer (some ⟨b4,0,none⟩)),(10,.slice a4 chg2.length c4),(11,.pointer (some ⟨b5,0,none⟩)),(12,.bool (q2)),(14,.pointer (some ⟨b6,0,none⟩)),(67,va),(68,I64 (((xs.length:Nat):Int))),(69,I64 ((k:Int))),(129,.bool (z))]:Env) (blk b4 [I64 (nd),.slice a3 O2.length c3] 111::vc 146 (.slice a3 O2.length c3) (O2)::vc 108 (.slice a4 chg2.length c4) (chg2)::blk b6 [I64 ((at_ xs (k:Int)).u),I64 ((at_ xs (k:Int)).v),I64 ((at_ xs (k:Int)).w),I64 ((at_ xs (k:Int)).lb),I64 ((at_ xs (k:Int)).sg),I64 ((at_ xs (k:Int)).tm)] 146::blk b5 [I64 ((lkOf e).u),I64 ((lkOf e).v),I64 ((lkOf e).w),I64 ((lkOf e).lb),I64 ((lkOf e).sg),I64 ((lkOf e).tm)] 146::blk b3 [I64 (0),.slice none 0 0] 111::blk b2 [I64 (e.kd),I64 (e.tm),I64 (e.u),I64 (e.v),I64 (e.w),I64 (e.lb),I64 (e.sg)] 108::blk b1 [I64 (nd),va] 111::I)
          refine Ew rfl (fun c129=>?_) (fun c129=>?_)
          ·refine A2 (Gm rfl (Gl6 ty146 ?_))
           refine Gf fld108_1 rfl (Gl ty3 ?_)
           refine Gc0 (Aj call164 rfl rfl (Cut5_ok (at_ xs (k:Int)) e.tm)) ?_
           refine Ge1 (B1 (α:=Ev) (cs:=[I64 (2),I64 (e.tm),I64 ((at_ xs (k:Int)).u),I64 ((at_ xs (k:Int)).v),I64 (0),I64 (0),I64 (0)]) (xs:=[⟨2,e.tm,(at_ xs (k:Int)).u,(at_ xs (k:Int)).v,0,0,0⟩]) Aw ty108 rfl rfl dc dc rfl kr rfl rfl) fun ad28=>?_
           refine Ge2 (B2 (α:=Ev) (e:=108) (xs:=chg2) (ys:=([⟨2,e.tm,(at_ xs (k:Int)).u,(at_ xs (k:Int)).v,0,0,0⟩]:List Ev)) Aw ty108 rfl rfl rfl mm Bo (by have hol3:=hA.len;first|(simp only [List.length_append,List.length_cons,List.length_nil];omega)|(have hol4:=hA2.len;simp only [List.length_append,List.length_cons,List.length_nil];omega)) dc rfl (fun _ _=>am)) fun ad29 cp30=>?_
           exact Ga rfl (Be (Al (Al (Ai (Ar (S9 10 3 4 9 11 12 67 68 69 rfl rfl rfl rfl rfl rfl rfl rfl rfl) (A2 (Gr (Rad rfl rfl) (Gm rfl (Be (B0 ((k+1),(a3),(c3),(ad29),(cp30),(O2),(chg2++([⟨2,e.tm,(at_ xs (k:Int)).u,(at_ xs (k:Int)).v,0,0,0⟩]:List Ev)),(q2)) (by dsimp only;exact ⟨om,(by first|exact hA2.hit hasc om (of_decide_eq_true (hy.symm.trans c106)).1 (of_decide_eq_true (hy.symm.trans c106)).2|exact hA2.drop om (of_decide_eq_true (hz.symm.trans c129)).1 (of_decide_eq_true (hz.symm.trans c129)).2|exact hA2.keep hasc om hM (fun h1 h2=>of_decide_eq_false (hy.symm.trans c106) ⟨h1,h2⟩) (fun h1=>Classical.byContradiction fun hh=>of_decide_eq_false (hz.symm.trans c129) ⟨h1,by simpa using hh⟩)),olp⟩)))))))))))
          ·refine A2 (Gf fld111_1 rfl (Gl ty109 ?_))
           refine Gl6 ty146 ?_
           refine Ge1 (B1 (α:=Lk) (cs:=[I64 ((at_ xs (k:Int)).u),I64 ((at_ xs (k:Int)).v),I64 ((at_ xs (k:Int)).w),I64 ((at_ xs (k:Int)).lb),I64 ((at_ xs (k:Int)).sg),I64 ((at_ xs (k:Int)).tm)]) (xs:=[⟨(at_ xs (k:Int)).u,(at_ xs (k:Int)).v,(at_ xs (k:Int)).w,(at_ xs (k:Int)).lb,(at_ xs (k:Int)).sg,(at_ xs (k:Int)).tm⟩]) Ap ty146 rfl rfl dc dc rfl kr rfl rfl) fun ad31=>?_
           refine Ge2 (B2 (α:=Lk) (e:=146) (xs:=O2) (ys:=([⟨(at_ xs (k:Int)).u,(at_ xs (k:Int)).v,(at_ xs (k:Int)).w,(at_ xs (k:Int)).lb,(at_ xs (k:Int)).sg,(at_ xs (k:Int)).tm⟩]:List Lk)) Ap ty146 rfl rfl rfl mm Bo (by have hol3:=hA.len;first|(simp only [List.length_append,List.length_cons,List.length_nil];omega)|(have hol4:=hA2.len;simp only [List.length_append,List.length_cons,List.length_nil];omega)) dc rfl (fun _ _=>am)) fun ad32 cp33=>?_
           refine Gf fld111_1 rfl (Ge0 (Dy ty109) ?_)
           exact Be (Al (Al (Ai (Ar (S9 3 4 9 10 11 12 67 68 69 rfl rfl rfl rfl rfl rfl rfl rfl rfl) (A2 (Gr (Rad rfl rfl) (Gm rfl (Be (B0 ((k+1),(ad32),(cp33),(a4),(c4),(O2++([⟨(at_ xs (k:Int)).u,(at_ xs (k:Int)).v,(at_ xs (k:Int)).w,(at_ xs (k:Int)).lb,(at_ xs (k:Int)).sg,(at_ xs (k:Int)).tm⟩]:List Lk)),(chg2),(q2)) (by dsimp only;exact ⟨om,(by first|exact hA2.hit hasc om (of_decide_eq_true (hy.symm.trans c106)).1 (of_decide_eq_true (hy.symm.trans c106)).2|exact hA2.drop om (of_decide_eq_true (hz.symm.trans c129)).1 (of_decide_eq_true (hz.symm.trans c129)).2|exact hA2.keep hasc om hM (fun h1 h2=>of_decide_eq_false (hy.symm.trans c106) ⟨h1,h2⟩) (fun h1=>Classical.byContradiction fun hh=>of_decide_eq_false (hz.symm.trans c129) ⟨h1,by simpa using hh⟩)),olp⟩))))))))))
     ·refine Bt (Aq (Aq (A9 (Ai (Av (Ah (Gm rfl (Gr (Ck rfl) (Af (Ew rfl (fun c164=>?_) (fun c164=>?_)))))))))))
      ·refine Bk mixed (Bq (blk b5 [I64 ((lkOf e).u),I64 ((lkOf e).v),I64 ((lkOf e).w),I64 ((lkOf e).lb),I64 ((lkOf e).sg),I64 ((lkOf e).tm)] 146::blk b3 [I64 (0),.slice none 0 0] 111::blk b2 [I64 (e.kd),I64 (e.tm),I64 (e.u),I64 (e.v),I64 (e.w),I64 (e.lb),I64 (e.sg)] 108::blk b1 [I64 (nd),va] 111::I) 15 (Dr 0 rfl (Aa fld111_1 rfl) (Dr 2 rfl (Bm (vs:=[_,_,_,_,_,_]) ty146) ?_)))
       refine Dr 5 rfl (Ac rfl) (Dr 6 rfl (Bm (vs:=[_,_,_,_,_,_]) ty146) ?_)
       refine Dr 7 rfl (Aa fld108_1 rfl) (Dr 8 rfl (As ty3) ?_)
       refine Cc (rs:=[1,3]) kr rfl rfl (C4 ?_ (Dc ?_))
       ·refine Sr rfl (As ty109) A4 ?_
        refine Ds1 3 (Se1 rfl (B1 (α:=Lk) (cs:=[I64 ((lkOf e).u),I64 ((lkOf e).v),I64 ((lkOf e).w),I64 ((lkOf e).lb),I64 ((lkOf e).sg),I64 ((lkOf e).tm)]) (xs:=[⟨(lkOf e).u,(lkOf e).v,(lkOf e).w,(lkOf e).lb,(lkOf e).sg,(lkOf e).tm⟩]) Ap ty146 rfl rfl dc dc rfl kr rfl rfl) fun ad34=>?_)
        refine Ds1 4 (Se2 rfl (B2 (α:=Lk) (e:=146) (xs:=O) (ys:=([⟨(lkOf e).u,(lkOf e).v,(lkOf e).w,(lkOf e).lb,(lkOf e).sg,(lkOf e).tm⟩]:List Lk)) Ap ty146 rfl rfl rfl mm Bo (by have hol3:=hA.len;first|(simp only [List.length_append,List.length_cons,List.length_nil];omega)|(have hol4:=hA2.len;simp only [List.length_append,List.length_cons,List.length_nil];omega)) dc rfl (fun _ _=>am)) fun ad35 cp36=>?_)
        refine Dr 12 rfl (Aa fld111_1 rfl) (Ds1 9 (Sc0 rfl (Aj call163 rfl rfl (Set5_ok (lkOf e) e.tm)) ?_))
        refine Ds1 10 (Se1 rfl (B1 (α:=Ev) (cs:=[I64 (1),I64 (e.tm),I64 ((lkOf e).u),I64 ((lkOf e).v),I64 ((lkOf e).w),I64 ((lkOf e).lb),I64 ((lkOf e).sg)]) (xs:=[⟨1,e.tm,(lkOf e).u,(lkOf e).v,(lkOf e).w,(lkOf e).lb,(lkOf e).sg⟩]) Aw ty108 rfl rfl dc dc rfl kr rfl rfl) fun ad37=>?_)
        refine Ds1 11 (Se2 rfl (B2 (α:=Ev) (e:=108) (xs:=chg) (ys:=([⟨1,e.tm,(lkOf e).u,(lkOf e).v,(lkOf e).w,(lkOf e).lb,(lkOf e).sg⟩]:List Ev)) Aw ty108 rfl rfl rfl mm Bo (by have hol3:=hA.len;first|(simp only [List.length_append,List.length_cons,List.length_nil];omega)|(have hol4:=hA2.len;simp only [List.length_append,List.length_cons,List.length_nil];omega)) dc rfl (fun _ _=>am)) fun ad38 cp39=>?_)
        refine Ds1 13 (Se0 rfl (Dy ty109) ?_)
        refine Dr 14 rfl (Bd rfl) (Dz (Ai (Ar (S3 10 4 9 rfl rfl rfl) (Ah (Gl2 ty111 ?_)))))
        refine Gm rfl (Ge0 (Bj ty111) ?_)
        refine Ga rfl (Ga rfl (Af (Ay ?_)))
        have hE:O++([⟨(lkOf e).u,(lkOf e).v,(lkOf e).w,(lkOf e).lb,(lkOf e).sg,(lkOf e).tm⟩]:List Lk)=(stepL xs e):=by first|exact hA.fin om asm|exact hA.finIns om asm
        exact V.retc2 rfl ty111 rfl rfl rfl mm rfl (vc 146 (.slice ad35 (stepL xs e).length cp36) (stepL xs e)::I) (by rw [←hE];exact A4) ⟨⟨ad35,cp36,ad38,(chg++([⟨1,e.tm,(lkOf e).u,(lkOf e).v,(lkOf e).w,(lkOf e).lb,(lkOf e).sg⟩]:List Ev)).length,cp39⟩,⟨by rw [←hE]<;>rfl,by first|(show _≤2*xs.length+1;omega)|(show _≤2*xs.length+1;simp only [List.length_append,List.length_cons,List.length_nil];omega)⟩,rfl⟩
       ·refine Se1 rfl (B1 (α:=Lk) (cs:=[I64 ((lkOf e).u),I64 ((lkOf e).v),I64 ((lkOf e).w),I64 ((lkOf e).lb),I64 ((lkOf e).sg),I64 ((lkOf e).tm)]) (xs:=[⟨(lkOf e).u,(lkOf e).v,(lkOf e).w,(lkOf e).lb,(lkOf e).sg,(lkOf e).tm⟩]) Ap ty146 rfl rfl dc dc rfl kr rfl rfl) fun ad40=>?_
        refine Ds1 1 (Sr rfl (As ty109) A4 ?_)
        refine Ds1 4 (Se2 rfl (B2 (α:=Lk) (e:=146) (xs:=O) (ys:=([⟨(lkOf e).u,(lkOf e).v,(lkOf e).w,(lkOf e).lb,(lkOf e).sg,(lkOf e).tm⟩]:List Lk)) Ap ty146 rfl rfl rfl mm Bo (by have hol3:=hA.len;first|(simp only [List.length_append,List.length_cons,List.length_nil];omega)|(have hol4:=hA2.len;simp only [List.length_append,List.length_cons,List.length_nil];omega)) dc rfl (fun _ _=>am)) fun ad41 cp42=>?_)
        refine Dr 12 rfl (Aa fld111_1 rfl) (Ds1 9 (Sc0 rfl (Aj call163 rfl rfl (Set5_ok (lkOf e) e.tm)) ?_))
        refine Ds1 10 (Se1 rfl (B1 (α:=Ev) (cs:=[I64 (1),I64 (e.tm),I64 ((lkOf e).u),I64 ((lkOf e).v),I64 ((lkOf e).w),I64 ((lkOf e).lb),I64 ((lkOf e).sg)]) (xs:=[⟨1,e.tm,(lkOf e).u,(lkOf e).v,(lkOf e).w,(lkOf e).lb,(lkOf e).sg⟩]) Aw ty108 rfl rfl dc dc rfl kr rfl rfl) fun ad43=>?_)
        refine Ds1 11 (Se2 rfl (B2 (α:=Ev) (e:=108) (xs:=chg) (ys:=([⟨1,e.tm,(lkOf e).u,(lkOf e).v,(lkOf e).w,(lkOf e).lb,(lkOf e).sg⟩]:List Ev)) Aw ty108 rfl rfl rfl mm Bo (by have hol3:=hA.len;first|(simp only [List.length_append,List.length_cons,List.length_nil];omega)|(have hol4:=hA2.len;simp only [List.length_append,List.length_cons,List.length_nil];omega)) dc rfl (fun _ _=>am)) fun ad44 cp45=>?_)
        refine Ds1 13 (Se0 rfl (Dy ty109) ?_)
        refine Dr 14 rfl (Bd rfl) (Dz (Ai (Ar (S3 10 4 9 rfl rfl rfl) (Ah (Gl2 ty111 ?_)))))
        refine Gm rfl (Ge0 (Bj ty111) ?_)
        refine Ga rfl (Ga rfl (Af (Ay ?_)))
        have hE:O++([⟨(lkOf e).u,(lkOf e).v,(lkOf e).w,(lkOf e).lb,(lkOf e).sg,(lkOf e).tm⟩]:List Lk)=(stepL xs e):=by first|exact hA.fin om asm|exact hA.finIns om asm
        exact V.retc2 rfl ty111 rfl rfl rfl mm rfl (vc 146 (.slice ad41 (stepL xs e).length cp42) (stepL xs e)::I) (by rw [←hE];exact A4) ⟨⟨ad41,cp42,ad44,(chg++([⟨1,e.tm,(lkOf e).u,(lkOf e).v,(lkOf e).w,(lkOf e).lb,(lkOf e).sg⟩]:List Ev)).length,cp45⟩,⟨by rw [←hE]<;>rfl,by first|(show _≤2*xs.length+1;omega)|(show _≤2*xs.length+1;simp only [List.length_append,List.length_cons,List.length_nil];omega)⟩,rfl⟩
      ·refine Az (Ai (Ah (Gl2 ty111 ?_)))
       refine Gm rfl (Ge0 (Bj ty111) ?_)
       refine Ga rfl (Ga rfl (Af (Ar (S3 6 5 4 rfl rfl rfl) (Ay ?_))))
       have hE:O=(stepL xs e):=by first|exact hA.fin om asm|exact hA.finIns om asm
       exact V.retc2 rfl ty111 rfl rfl rfl mm rfl (vc 146 (.slice a1 (stepL xs e).length c1) (stepL xs e)::I) (by rw [←hE];exact A4) ⟨⟨a1,c1,a2,chg.length,c2⟩,⟨by rw [←hE]<;>rfl,by first|(show _≤2*xs.length+1;omega)|(show _≤2*xs.length+1;simp only [List.length_append,List.length_cons,List.length_nil];omega)⟩,rfl⟩
set_option maxHeartbeats 1000000 in
theorem All5_base{κ:Ctx}{I:List Item}{nd:Int}{a0:Option Addr}{c0:Nat}{xs:List Lk}{va:Value}{es:List Ev}(hl:Sl κ I va es)(hval:checkS nd xs=0)(hfit:∀j:Nat,j<es.length→FitOk nd (at_ es (j:Int)))(hsz:xs.length+es.length≤1000000) :
    CallS Tryz.prog κ 162 [.agg #[I64 (nd),.slice a0 xs.length c0],va] (vc 146 (.slice a0 xs.length c0) (xs)::I) (fun r J=>∃y:Option Addr×Nat×Int,(r = .tuple #[.agg #[I64 nd,.slice y.1 (List.foldl stepL xs es).length y.2.1],I64 y.2.2,I64 0])∧J=vc 146 (.slice y.1 (List.foldl stepL xs es).length y.2.1) (List.foldl stepL xs es)::I):=by
 refine Ce2 Tryz.func162 rfl rfl ?_
 refine Ah (Ge1 (Bb (cs:=[_,_]) rfl rfl rfl) fun b1=>Ge1 (Ax ty111 rfl) fun b2=>Ga rfl (Ga rfl (Af (Av (Ah (Gl2 ty111 ?_))))))
 refine Gc0 (Aj call129 rfl rfl (CheckS5_ok (nd:=nd) Bo)) ?_
 refine Ga rfl (Af (Ah (Gm rfl (Gr (Bh rfl rfl) (Af (A6 rfl (fun c17=>?_) (fun c17=>?_)))))))
 ·exact absurd hval c17
 ·refine Az (Ai (Ah (Ga rfl (Af (Av (Ah (Gm rfl (Gr (Bu (α:=Ev) (xs:=es) Aw rfl (Bl hl)) (Gm rfl (Af (Ar (S6 22 21 20 8 4 2 rfl rfl rfl rfl rfl rfl) (A5 (Bv (σ:=Nat×(Option Addr)×Nat×Int) (fun s=>([(2,.pointer (some ⟨b1,0,none⟩)),(4,.pointer (some ⟨b2,0,none⟩)),(8,I64 (s.2.2.2)),(20,va),(21,I64 (((es.length:Nat):Int))),(22,I64 (((s.1:Nat):Int)))]:Env)) (fun s=>blk b1 [I64 (nd),.slice s.2.1 (List.foldl stepL xs (List.take s.1 es)).length s.2.2.1] 111::vc 146 (.slice s.2.1 (List.foldl stepL xs (List.take s.1 es)).length s.2.2.1) (List.foldl stepL xs (List.take s.1 es))::blk b2 [I64 (0),.slice none 0 0] 111::I) (fun s=>(s.1≤es.length)∧(checkS nd (List.foldl stepL xs (List.take s.1 es))=0)∧(0≤s.2.2.2∧s.2.2.2≤s.1*2000001)) (fun s=>es.length - s.1) (0,a0,c0,0) (show ((0:Nat)≤es.length)∧(checkS nd (List.foldl stepL xs (List.take (0:Nat) es))=0)∧(0≤(0:Int)∧(0:Int)≤(0:Nat)*2000001) from ⟨om,hval,om⟩) (Ab rfl (Ab rfl (Ab Ca (Ab rfl (Ab rfl (Ab Ca Bp)))))) (show Fit κ _ (blk b1 [I64 (nd),.slice (a0) (List.foldl stepL xs (List.take (0) es)).length (c0)] 111::vc 146 (.slice (a0) (List.foldl stepL xs (List.take (0) es)).length (c0)) (List.foldl stepL xs (List.take (0) es))::blk b2 [I64 (0),.slice none 0 0] 111::I) from Bz) ?_)))))))))))))
  rintro ⟨k,a1,c1,n⟩ hp
  dsimp only at hp ⊢
  obtain ⟨hk,hv,hn⟩:=hp
  have hlk:=steps_len (List.take k es) xs
  rw [List.length_take] at hlk
  refine Ah (Gr (A8 rfl rfl) (Af (Av (A6 rfl (fun c23=>?_) (fun c23=>?_)))))
  ·refine Az (Ai (Av (A5 (Ah (Gm rfl (Gr (Ba (α:=Ev) (xs:=es) Aw ty108 rfl rfl (Bl hl) om om) (Gr (Bs (α:=Ev) (xs:=es) ty108 rfl (Bl hl) om om) (Ge1 (Ax ty108 rfl) fun b3=>Ga rfl (Ge0 (Es7_7 ty108) ?_)))))))))
   refine Af (Ah (Gl2 ty111 ?_))
   refine Gl7 ty108 ?_
   refine G.e (Aj call94 rfl rfl (Apply5_ok (nd:=nd) (e:=(at_ es (k:Int))) Bo hv (hfit k om) (by have hlk:=steps_len (List.take k es) xs;rw [List.length_take] at hlk;omega))) ?_
   rintro _ _ ⟨_,_,⟨⟨ad4,cp5,ad6,nn7,cp8⟩,⟨rfl,hnn7⟩,rfl⟩,rfl,rfl⟩
   show G Tryz.prog κ _ _ _ _ ([(30,.tuple #[.agg #[I64 (nd),.slice ad4 (stepL (List.foldl stepL xs (List.take k es)) (at_ es (k:Int))).length cp5],.slice ad6 nn7 cp8,I64 (0)]),(29,.agg #[I64 ((at_ es (k:Int)).kd),I64 ((at_ es (k:Int)).tm),I64 ((at_ es (k:Int)).u),I64 ((at_ es (k:Int)).v),I64 ((at_ es (k:Int)).w),I64 ((at_ es (k:Int)).lb),I64 ((at_ es (k:Int)).sg)]),(28,.agg #[I64 (nd),.slice a1 (List.foldl stepL xs (List.take k es)).length c1]),(9,I64 ((k:Int))),(10,.pointer (some ⟨b3,0,none⟩)),(26,.agg #[I64 ((at_ es (k:Int)).kd),I64 ((at_ es (k:Int)).tm),I64 ((at_ es (k:Int)).u),I64 ((at_ es (k:Int)).v),I64 ((at_ es (k:Int)).w),I64 ((at_ es (k:Int)).lb),I64 ((at_ es (k:Int)).sg)]),(25,elemPtr (va) (((k:Int)).toNat*Enc.sz Ev)),(24,I64 ((k:Int))),(23,.bool (decide ((k:Int)<((es.length:Nat):Int)))),(2,.pointer (some ⟨b1,0,none⟩)),(4,.pointer (some ⟨b2,0,none⟩)),(8,I64 (n)),(20,va),(21,I64 (((es.length:Nat):Int))),(22,I64 ((k:Int)))]:Env) (vc 146 (.slice ad4 (stepL (List.foldl stepL xs (List.take k es)) (at_ es (k:Int))).length cp5) (stepL (List.foldl stepL xs (List.take k es)) (at_ es (k:Int)))::blk b3 [I64 ((at_ es (k:Int)).kd),I64 ((at_ es (k:Int)).tm),I64 ((at_ es (k:Int)).u),I64 ((at_ es (k:Int)).v),I64 ((at_ es (k:Int)).w),I64 ((at_ es (k:Int)).lb),I64 ((at_ es (k:Int)).sg)] 108::blk b1 [I64 (nd),.slice a1 (List.foldl stepL xs (List.take k es)).length c1] 111::vc 146 (.slice a1 (List.foldl stepL xs (List.take k es)).length c1) (List.foldl stepL xs (List.take k es))::blk b2 [I64 (0),.slice none 0 0] 111::I)
   have hnn7:nn7≤2*(List.foldl stepL xs (List.take k es)).length+1:=hnn7
   refine Gm rfl (Gr (A3 rfl rfl) (Gr (A3 rfl rfl) (Gr (A3 rfl rfl) (Ge1 (Ax ty111 rfl) fun b9=>Ge0 (Bj ty111) ?_))))
   refine Ga rfl (Ga rfl (Af (Ar (S10 13 12 11 9 2 4 8 20 21 22 rfl rfl rfl rfl rfl rfl rfl rfl rfl rfl) (Av (Ah (Gm rfl (Gr (Bh rfl rfl) (Af (A6 rfl (fun c35=>?_) (fun c35=>?_))))))))))
   ·exact absurd rfl c35
   ·refine Az (Ai (A2 (Gl2 ty111 ?_)))
    refine Gm rfl (Gm rfl (Gr (B3 Aw rfl) (Gr (Rad rfl rfl) (Ge0 (Bj ty111) ?_))))
    exact Ga rfl (Be (Al (Ai (Ar (S6 8 2 4 20 21 22 rfl rfl rfl rfl rfl rfl) (A2 (Gr (Rad rfl rfl) (Gm rfl (Be (B0 ((k+1),(ad4),(cp5),(n+(nn7:Int))) (by dsimp only;exact ⟨om,(by rw [steps_succ om];exact stepL_val hv (hfit k om)),om⟩) (hI:=by (try dsimp only);exact (by rw [steps_succ om];exact Bz)))))))))))
  ·refine Bt (Aq (Aq (A9 (Ai (Ah (Gl2 ty111 ?_))))))
   refine Gm rfl (Ge0 (Bj ty111) ?_)
   refine Ga rfl (Ga rfl (Af (Ay ?_)))
   have hk2:List.take k es=es:=List.take_of_length_le om
   exact V.retc2 rfl ty111 rfl rfl rfl mm rfl (vc 146 (.slice a1 (List.foldl stepL xs es).length c1) (List.foldl stepL xs es)::I) (by rw [hk2];exact A4) ⟨⟨a1,c1,n⟩,by rw [hk2],rfl⟩
end Go.Sl
