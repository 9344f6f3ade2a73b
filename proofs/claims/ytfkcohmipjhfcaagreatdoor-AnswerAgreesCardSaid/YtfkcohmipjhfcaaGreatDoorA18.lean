/- A part of the proofs of statements of this seat: contracts of functions, and the plain laws that they lean on. No conditions. -/
import Derived.Test.YtfkcohmipjhfcaaGreatDoorA17
import Derived.OrdersIn
set_option linter.unusedVariables false
set_option linter.unusedSimpArgs false
set_option linter.unusedSectionVars false
namespace Go.Sl
open Go.Proofs
set_option maxRecDepth 4000
variable {κ:Ctx}{I:List Item}
theorem MkWindowV_base{b:Nat}{lv:Value}{ls:List Int}{i:Int}(hl:∀q,Sl κ (deck b lv q::I) lv ls)(h0:0≤i)   :
    CallS Tryz.prog κ 21 [.pointer (some ⟨b,0,none⟩)] (blk b [lv,I64 (i)] 125::I) (fun r J=>∃y:Int×Int×Int×Int,((r = .agg #[I64 y.1,I64 y.2.1,I64 y.2.2.1]∧checkW y.1 y.2.1 y.2.2.1=0)∧0≤y.2.2.2)∧J=[]++deck b lv y.2.2.2::I):=by
 refine Ce1 Tryz.func21 rfl rfl ?_
 refine Ah (Ge1 (A5 ty31 rfl) fun b1=>Af (Ao (Ah (Gm rfl (G.e (Am call19 rfl rfl (Next_ok (by repeat (first|exact AtF.head _ _|apply AtF.tail)) (Ch (hl _) A4) om om)) ?_)))))
 rintro _ _ ⟨_,_,⟨x2,i3,rfl,hx2,hi3,rfl⟩,rfl,rfl⟩
 show G Tryz.prog κ _ _ _ _ ([(4,I64 (x2)),(3,.pointer (some ⟨b,0,none⟩)),(2,.pointer (some ⟨b1,0,none⟩)),(0,.pointer (some ⟨b,0,none⟩))]:Env) (blk b1 [I64 (0),I64 (0),I64 (0)] 31::blk b [lv,I64 (i3)] 125::I)
 refine Af (Ax (Ah (Gr (Bs rfl rfl) (Ga rfl (Af (A9 rfl (fun c5=>?_) (fun c5=>?_)))))))
 ·refine Ah (Gm rfl (G.e (Am call19 rfl rfl (Next_ok (by repeat (first|exact AtF.head _ _|apply AtF.tail)) (Ch (hl _) A4) om om)) ?_))
  rintro _ _ ⟨_,_,⟨x4,i5,rfl,hx4,hi5,rfl⟩,rfl,rfl⟩
  show G Tryz.prog κ _ _ _ _ ([(8,I64 (x4)),(7,.pointer (some ⟨b,0,none⟩)),(5,.bool (decide (x2=1))),(6,.bool (decide (x2=1))),(4,I64 (x2)),(3,.pointer (some ⟨b,0,none⟩)),(2,.pointer (some ⟨b1,0,none⟩)),(0,.pointer (some ⟨b,0,none⟩))]:Env) (blk b1 [I64 (0),I64 (0),I64 (0)] 31::blk b [lv,I64 (i5)] 125::I)
  refine Gr (Rad rfl rfl) (Gr (Be (cells:=[_,_,_]) ty31 Ey pl31 rfl rfl) (Ge0 (Es3_3 ty31) ?_))
  exact Af (A2 (Ar (Al (Cw rfl ty31 rfl mm rfl (blk b [lv,I64 (i5)] 125::I) Ay ⟨(2,1+x4,0,i5),⟨⟨rfl,by show checkW (2) (1+x4) (0)=0;unfold checkW;rw [if_neg om,if_neg om]⟩,by show 0≤i5;omega⟩,rfl⟩))))
 ·refine Ah (Gr (Bs rfl rfl) (Ga rfl (Af (A9 rfl (fun c11=>?_) (fun c11=>?_)))))
  ·refine Ah (Gm rfl (G.e (Am call19 rfl rfl (Next_ok (by repeat (first|exact AtF.head _ _|apply AtF.tail)) (Ch (hl _) A4) om om)) ?_))
   rintro _ _ ⟨_,_,⟨x6,i7,rfl,hx6,hi7,rfl⟩,rfl,rfl⟩
   show G Tryz.prog κ _ _ _ _ ([(14,I64 (x6)),(13,.pointer (some ⟨b,0,none⟩)),(11,.bool (decide (x2=2))),(12,.bool (decide (x2=2))),(5,.bool (decide (x2=1))),(6,.bool (decide (x2=1))),(4,I64 (x2)),(3,.pointer (some ⟨b,0,none⟩)),(2,.pointer (some ⟨b1,0,none⟩)),(0,.pointer (some ⟨b,0,none⟩))]:Env) (blk b1 [I64 (0),I64 (0),I64 (0)] 31::blk b [lv,I64 (i7)] 125::I)
   refine Gr (Be (cells:=[_,_,_]) ty31 Ey pl31 rfl rfl) (Ge0 (Es3_3 ty31) ?_)
   exact Af (A2 (Ar (Al (Cw rfl ty31 rfl mm rfl (blk b [lv,I64 (i7)] 125::I) Ay ⟨(3,0,x6,i7),⟨⟨rfl,by show checkW (3) (0) (x6)=0;unfold checkW;rw [if_neg om,if_neg om]⟩,by show 0≤i7;omega⟩,rfl⟩))))
  ·refine A0 (Aj (Ai (Ah (Gr (Be (cells:=[_,_,_]) ty31 Ey pl31 rfl rfl) (Ge0 (Es3_3 ty31) ?_)))))
   exact Af (A2 (Cw rfl ty31 rfl mm rfl (blk b [lv,I64 (i3)] 125::I) Ay ⟨(1,0,0,i3),⟨⟨rfl,by show checkW (1) (0) (0)=0;unfold checkW;rw [if_neg om,if_neg om]⟩,by show 0≤i3;omega⟩,rfl⟩))
theorem MkWindowV_at{F:Item→List Item}{b:Nat}{lv:Value}{ls:List Int}{i:Int}(hat:AtF I (deck b lv i) F)(hl:∀q,Sl κ (F (deck b lv q)) lv ls)(h0:0≤i)   :
  CallS Tryz.prog κ 21 [.pointer (some ⟨b,0,none⟩)] I fun r J=>∃y:Int×Int×Int×Int,((r = .agg #[I64 y.1,I64 y.2.1,I64 y.2.2.1]∧checkW y.1 y.2.1 y.2.2.1=0)∧0≤y.2.2.2)∧J=[]++F (deck b lv y.2.2.2):=
 Dy (Post:=fun r (y:Int×Int×Int×Int)=>(r = .agg #[I64 y.1,I64 y.2.1,I64 y.2.2.1]∧checkW y.1 y.2.1 y.2.2.1=0)∧0≤y.2.2.2) (Z:=fun y:Int×Int×Int×Int=>[]) (X:=fun y:Int×Int×Int×Int=>deck b lv y.2.2.2) hat fun J _ hF=>MkWindowV_base (fun q=>(hl q).fit (hF _)) h0  
variable {κ:Ctx}{I:List Item}
theorem small3{W:BitVec 64}(h:subN 3 W):∃k:Fin 8,W=BitVec.ofNat 64 k.val:=by
 have hb:∀i:Nat,3≤i→W.getLsbD i=false:=fun i hi=>by
  by_cases h64:i<64
  ·cases hc:W.getLsbD i with
   |false=>rfl
   |true=>
    have:=h (i:Int) (mem_listB.2 ⟨by omega,by rw [Int.toNat_natCast];exact hc⟩)
    omega
  ·exact BitVec.getLsbD_of_ge _ _ om
 have hlt:W.toNat<2 ^ 3:=by
  refine Nat.lt_pow_two_of_testBit _ fun i hi=>?_
  have:=hb i hi
  rwa [←BitVec.testBit_toNat] at this
 exact ⟨⟨W.toNat,hlt⟩,by simp⟩
abbrev gB:List Pt:=[⟨0,1⟩]
theorem densB:DensP 3 1 2 gB 3#64 where
 sub:=by unfold subN;decide+kernel
 ne:=by decide
 eq:=by decide+kernel
 max:=fun W h=>by
  obtain ⟨k,rfl⟩:=small3 h
  have:∀k:Fin 8,2*insE (BitVec.ofNat 64 k.val) gB≤1*cntB (BitVec.ofNat 64 k.val):=by decide+kernel
  exact this k
 great:=fun W h e=>by
  obtain ⟨k,rfl⟩:=small3 h
  have:∀k:Fin 8,2*insE (BitVec.ofNat 64 k.val) gB=1*cntB (BitVec.ofNat 64 k.val)→∀x∈listB (BitVec.ofNat 64 k.val),x∈listB 3#64:=by decide+kernel
  exact this k e
theorem grB:GrOk 3 gB:=checkG_ok.1 (by decide+kernel)
theorem bestB{N D:Int}{B:BitVec 64}(h:BestR 3 gB N D B):listB B=[0,1]∧N=1∧D=2:=by
 have hz:=checkG_ok.2 grB
 have hR:=h.some hz dc
 have hf:=h.frv grB
 have hu:=densB.uniq dc hR.den.1 hR.dens
 have hd:=hR.den
 have hD:D=2*N:=by omega
 have hN:0<N:=by omega
 have hc:gcdI N (2*N)=1:=by have:=hf.cop;simp only at this;rw [←hD];exact this
 have h1:N=1:=by
  have h2:=gcdI_step (a:=2*N) (b:=N) om hN
  have h3:Int.tmod (2*N) N=0:=by rw [Int.mul_comm];exact Int.mul_tmod_right N 2
  rw [h3,gcdI_zero om] at h2
  have h4:=gcdI_step (a:=N) (b:=2*N) om om
  rw [Int.tmod_eq_of_lt om om] at h4
  omega
 subst h1
 have hD2:D=2:=by omega
 subst hD2
 refine ⟨?_,rfl,rfl⟩
 refine intLin.uniq (listB_asc _) dc fun x=>?_
 have e3:listB 3#64=[0,1]:=by decide+kernel
 rw [←e3]
 exact ⟨fun hx=>densB.great B hR.dens.sub (by have:=hR.dens.eq;exact this) x hx,fun hx=>hR.dens.great 3#64 densB.sub (by have:=densB.eq;exact this) x hx⟩
abbrev evB:Ev:=⟨1,5,0,1,1,0,1⟩
theorem hist_B:HistOk 3 1 0 0 [evB]:=⟨⟨by decide,by decide,fun j hj=>by
 obtain rfl:j=0:=by simp at hj;exact hj
 exact fitE_ok.1 dc,fun j hj=>by
 obtain rfl:j=0:=by simp at hj;exact hj
 decide⟩,by decide⟩
theorem all_B:allE 1 0 0 [evB]=[evB]:=by unfold allE;rw [all_same];decide
theorem at_B:atG 1 0 0 [evB] 5=gB:=by unfold atG atK;rw [all_B];decide
theorem reach_B:reachQ 3 1 0 0 [evB] 1 2 5:=by
 unfold reachQ densQ
 rw [at_B,if_neg dc]
 exact ⟨3#64,densB.sub,densB.ne,by decide+kernel⟩
theorem first_B(tv:Int)(ok:Bool)(h:FirstP 1 0 0 [evB] (reachQ 3 1 0 0 [evB] 1 2) tv ok):tv=5∧ok=true:=by
 rcases h with ⟨h1,⟨e,he,h2⟩,_⟩|⟨_,_,h3⟩
 ·rw [all_B,List.mem_singleton] at he
  subst he
  exact ⟨h2.symm,h1⟩
 ·exact absurd reach_B (h3 evB (by rw [all_B];exact List.mem_singleton.2 rfl))
set_option maxHeartbeats 1000000 in
theorem AnsFirst_ok{nd kd wd mo num den T0:Int}{ea:Option Addr}{ec:Nat}{es:List Ev}(hl:Sl κ I (.slice ea es.length ec) es)(hH:HistOk nd kd wd mo es)(hlen:es.length≤19)(hf:FrV ⟨num,den⟩)(hT0:∀tv ok,FirstP kd wd mo es (reachQ nd kd wd mo es num den) tv ok→tv=T0∧ok=true)(ht0:0≤T0∧T0≤1048576)(hT:TabRd κ I 0 tzCells) :
    CallS Tryz.prog κ 191 [.agg #[I64 (nd),.slice ea es.length ec,I64 (kd),I64 (wd),I64 (mo)],.agg #[I64 (8),I64 (0),I64 (0),I64 (0),.slice none 0 0,I64 (num),I64 (den)]] I (fun r J=>∃a c B a2 c2 parts N D E,r = .agg #[.bool true,I64 0,I64 (T0),.slice a (listB B).length c,I64 N,I64 D,.slice none 0 0,.slice none 0 0,.slice none 0 0,I64 E,.slice a2 (parts:List Int).length c2]∧BestR nd (atG kd wd mo es T0) N D B∧J=vc 3 (.slice a (listB B).length c) (listB B)::vc 3 (.slice a2 parts.length c2) parts::I):=by
 refine Ce2 Tryz.func191 rfl rfl ?_
 refine Ah (Ge1 (Bb (cs:=[_,_,_,_,_]) rfl rfl rfl) fun b1=>Ge1 (Bb (cs:=[_,_,_,_,_,_,_]) rfl rfl rfl) fun b2=>Ge1 (A5 ty90 rfl) fun b3=>Af (Ah (Gf fld163_0 rfl (Gl ty3 ?_))))
 refine Gf fld163_1 rfl (Gl ty28 ?_)
 refine Gf fld163_2 rfl (Gl3 ty31 ?_)
 refine Gf fld71_5 rfl (Gl2 ty40 ?_)
 refine G.e (Am call47 rfl rfl (AFirst_ok (nd:=nd) (kd:=kd) (wd:=wd) (mo:=mo) (num:=num) (den:=den) (Bf hl) hH hlen hf (Cc hT A4))) ?_
 rintro _ _ ⟨_,_,⟨tv4,ok5,rfl,hFPtv4,rfl⟩,rfl,rfl⟩
 obtain ⟨htvtv4,hoktv4⟩:=hT0 _ _ hFPtv4
 rw [htvtv4,hoktv4]
 refine Gm rfl (Gr (Az rfl rfl) (Gr (Az rfl rfl) (Gr (Az rfl rfl) (Ga rfl (Ga rfl (Ga rfl (Af (As (S4 6 5 4 2 rfl rfl rfl rfl) (Ao (Ah (Gm rfl (Gr (Cd rfl) (Af (Cx rfl (A0 (Ai (Ah (Gr (Bm (vs:=[_,_,_,_,_]) ty163) ?_))))))))))))))))))
 refine Gm rfl (Gc2 (Am call180 rfl rfl (PAt_ok (nd:=nd) (kd:=kd) (wd:=wd) (mo:=mo) (tq:=T0) (Bf hl) hH hlen ht0)) fun ad6 cp7=>?_)
 refine Gm rfl (Gr (Be (cells:=[_,_,_,_,_,_,_,_,_,_,_]) ty90 Cu pl90 rfl rfl) (G.e (Am call186 rfl rfl (ADense_ok (nd:=nd) (tv:=T0) Br (Cc hT A4))) ?_))
 rintro _ _ ⟨_,_,⟨ad8,cp10,BB11,ad12,cp13,pt14,NN15,DD16,EE17,rfl,hBR,rfl⟩,rfl,rfl⟩
 refine Ge0 (Ci (cs:=[_,_,_,_,_,_,_,_,_,_,_]) (vs:=[_,_,_,_,_,_,_,_,_,_,_]) (cs':=[_,_,_,_,_,_,_,_,_,_,_]) ty90) ?_
 exact Af (A2 (Cw rfl ty90 rfl mm rfl (vc 3 (.slice ad8 (listB BB11).length cp10) (listB BB11)::vc 3 (.slice ad12 pt14.length cp13) pt14::I) B7 ⟨ad8,cp10,BB11,ad12,cp13,pt14,NN15,DD16,EE17,rfl,hBR,rfl⟩))
theorem Answers_ok  :
    CallS Tryz.prog κ 106 [] I (fun r J=>∃m_:Nat,r = .map (some m_)∧J=mp m_ [({key:=I64 (1),val:= .func (.func 178) #[] #[],born:=0}:MapEntry),({key:=I64 (2),val:= .func (.func 181) #[] #[],born:=1}:MapEntry),({key:=I64 (3),val:= .func (.func 182) #[] #[],born:=2}:MapEntry),({key:=I64 (4),val:= .func (.func 184) #[] #[],born:=3}:MapEntry),({key:=I64 (5),val:= .func (.func 185) #[] #[],born:=4}:MapEntry),({key:=I64 (6),val:= .func (.func 187) #[] #[],born:=5}:MapEntry),({key:=I64 (7),val:= .func (.func 189) #[] #[],born:=6}:MapEntry),({key:=I64 (8),val:= .func (.func 191) #[] #[],born:=7}:MapEntry),({key:=I64 (9),val:= .func (.func 192) #[] #[],born:=8}:MapEntry),({key:=I64 (10),val:= .func (.func 193) #[] #[],born:=9}:MapEntry)] 10::I):=by
 refine Ce0 Tryz.func106 rfl rfl ?_
 refine Ah (Ga rfl (Af (Ah (Ge1 (Eff.makeMap rfl) fun mr1=>?_))))
 refine Ge0 (C3 Cf Bl rfl rfl rfl rfl rfl am) ?_
 refine Ge0 (C3 Cf Bl rfl rfl rfl rfl rfl am) ?_
 refine Ge0 (C3 Cf Bl rfl rfl rfl rfl rfl am) ?_
 refine Ge0 (C3 Cf Bl rfl rfl rfl rfl rfl am) ?_
 refine Ge0 (C3 Cf Bl rfl rfl rfl rfl rfl am) ?_
 refine Ge0 (C3 Cf Bl rfl rfl rfl rfl rfl am) ?_
 refine Ge0 (C3 Cf Bl rfl rfl rfl rfl rfl am) ?_
 refine Ge0 (C3 Cf Bl rfl rfl rfl rfl rfl am) ?_
 refine Ge0 (C3 Cf Bl rfl rfl rfl rfl rfl am) ?_
 refine Ge0 (C3 Cf Bl rfl rfl rfl rfl rfl am) ?_
 exact Gm rfl (Ga rfl (Af (A2 (A7 rfl rfl (mp mr1 [({key:=I64 (1),val:= .func (.func 178) #[] #[],born:=0}:MapEntry),({key:=I64 (2),val:= .func (.func 181) #[] #[],born:=1}:MapEntry),({key:=I64 (3),val:= .func (.func 182) #[] #[],born:=2}:MapEntry),({key:=I64 (4),val:= .func (.func 184) #[] #[],born:=3}:MapEntry),({key:=I64 (5),val:= .func (.func 185) #[] #[],born:=4}:MapEntry),({key:=I64 (6),val:= .func (.func 187) #[] #[],born:=5}:MapEntry),({key:=I64 (7),val:= .func (.func 189) #[] #[],born:=6}:MapEntry),({key:=I64 (8),val:= .func (.func 191) #[] #[],born:=7}:MapEntry),({key:=I64 (9),val:= .func (.func 192) #[] #[],born:=8}:MapEntry),({key:=I64 (10),val:= .func (.func 193) #[] #[],born:=9}:MapEntry)] 10::I) B7 ⟨mr1,rfl,rfl⟩))))
set_option maxHeartbeats 1000000 in
theorem Ask8_ok{nd kd wd mo num den T0:Int}{ea:Option Addr}{ec:Nat}{es:List Ev}(hl:Sl κ I (.slice ea es.length ec) es)(hH:HistOk nd kd wd mo es)(hlen:es.length≤19)(hf:FrV ⟨num,den⟩)(hT0:∀tv ok,FirstP kd wd mo es (reachQ nd kd wd mo es num den) tv ok→tv=T0∧ok=true)(ht0:0≤T0∧T0≤1048576)(hT:TabRd κ I 0 tzCells) :
    CallS Tryz.prog κ 56 [I64 (nd),.slice ea es.length ec,.agg #[I64 (kd),I64 (wd),I64 (mo)],.agg #[I64 (8),I64 (0),I64 (0),I64 (0),.slice none 0 0,I64 (num),I64 (den)]] I (fun r J=>∃a c B a2 c2 parts N D E,r = .tuple #[.agg #[.bool true,I64 0,I64 (T0),.slice a (listB B).length c,I64 N,I64 D,.slice none 0 0,.slice none 0 0,.slice none 0 0,I64 E,.slice a2 (parts:List Int).length c2],I64 0]∧BestR nd (atG kd wd mo es T0) N D B∧J=vc 3 (.slice a (listB B).length c) (listB B)::vc 3 (.slice a2 parts.length c2) parts::I):=by
 refine Ce4 Tryz.func56 rfl rfl ?_
 refine Ah (Ge1 (Bb (cs:=[_,_,_]) rfl rfl rfl) fun b1=>Ge1 (Bb (cs:=[_,_,_,_,_,_,_]) rfl rfl rfl) fun b2=>Ge1 (A5 ty90 rfl) fun b3=>Ga rfl (Af (Ao (Ah (Gm rfl (Gm rfl (Gl3 ty31 ?_)))))))
 refine Gc0 (Am call97 rfl rfl (ACheck_ok (nd:=nd) (kd:=kd) (wd:=wd) (mo:=mo) (Bf hl))) ?_
 refine Ga rfl (Af (Ah (Gm rfl (Gr (Bv rfl rfl) (Af (As (S7 17 10 8 7 6 0 1 rfl rfl rfl rfl rfl rfl rfl) (A9 rfl (fun c17=>?_) (fun c17=>?_))))))))
 ·exact absurd (slideE_zeroH hH) c17
 ·refine A0 (Ai (Ao (Ah (Gl7 ty71 ?_))))
  refine Gm rfl (Gc0 (Am call105 rfl rfl (QCheck8_ok (n:=nd) hf)) ?_)
  refine Ga rfl (Af (Ah (Gm rfl (Gr (Bv rfl rfl) (Af (A9 rfl (fun c24=>?_) (fun c24=>?_)))))))
  ·exact absurd rfl c24
  ·refine A0 (Ai (Ao (Bo mixed (Bu (blk b2 [I64 (8),I64 (0),I64 (0),I64 (0),.slice none 0 0,I64 (num),I64 (den)] 71::blk b1 [I64 (kd),I64 (wd),I64 (mo)] 31::I) 12 (Dr 1 rfl (Aa fld71_0 rfl) (Dr 2 rfl (Au ty3) ?_))))))
   refine Dr 4 rfl (Ad rfl) (Dr 5 rfl (Ad rfl) (Dr 6 rfl (Bm (vs:=[_,_,_]) ty31) ?_))
   refine Dr 7 rfl (Be (cells:=[_,_,_,_,_]) ty163 Er pl163 rfl rfl) (Dr 8 rfl (Bm (vs:=[_,_,_,_,_,_,_]) ty71) ?_)
   refine Ds1 0 (Se rfl (Am call106 rfl rfl Answers_ok) ?_)
   rintro _ _ ⟨_,_,⟨mp4,rfl,rfl⟩,rfl,rfl⟩
   refine ⟨Ay,?_⟩
   refine Ds1 3 (Sr rfl (D9 (i:=7) Cf Bl rfl rfl rfl mm rfl) Ay ?_)
   refine Ds1 9 (Se rfl (Cr call191 rfl rfl rfl (AnsFirst_ok (nd:=nd) (kd:=kd) (wd:=wd) (mo:=mo) (num:=num) (den:=den) (T0:=T0) (ea:=ea) (ec:=ec) (es:=es) (Bf hl) hH hlen hf hT0 ht0 (Cc hT A4))) ?_)
   rintro _ _ ⟨_,_,⟨ad5,cp6,BB7,ad8,cp9,pt10,NN11,DD12,EE13,rfl,hBR,rfl⟩,rfl,rfl⟩
   refine ⟨Ay,?_⟩
   refine Ds1 10 (Se0 rfl (Ci (cs:=[_,_,_,_,_,_,_,_,_,_,_]) (vs:=[_,_,_,_,_,_,_,_,_,_,_]) (cs':=[_,_,_,_,_,_,_,_,_,_,_]) ty90) ?_)
   exact Dr 11 rfl (Bd rfl) (Dz (Ai (As (S2 9 8 rfl rfl) (A2 (Ct rfl ty90 rfl rfl mm rfl (vc 3 (.slice ad5 (listB BB7).length cp6) (listB BB7)::vc 3 (.slice ad8 pt10.length cp9) pt10::I) B7 ⟨ad5,cp6,BB7,ad8,cp9,pt10,NN11,DD12,EE13,rfl,hBR,rfl⟩)))))
set_option maxHeartbeats 1000000 in
theorem Awake43_ok(hT:TabRd κ I 0 tzCells) :
    CallS Tryz.prog κ 41 [] I (fun r J=>r = .bool true∧I=J):=by
 refine Ce0 Tryz.func41 rfl rfl ?_
 refine Ah (Ga rfl (Af (Ah (Gr (Be (cells:=[_,_,_,_,_,_,_]) ty108 Do pl108 rfl rfl) (Ge1 (B9 (α:=Ev) (cs:=[I64 (1),I64 (5),I64 (0),I64 (1),I64 (1),I64 (0),I64 (1)]) (xs:=[⟨1,5,0,1,1,0,1⟩]) Ba ty108 rfl rfl dc dc rfl kr rfl rfl) fun ad1=>?_)))))
 refine Ga rfl (Af (Ah (Gm rfl (Gr (Be (cells:=[_,_,_]) ty31 Ey pl31 rfl rfl) (Gr (Be (cells:=[_,_]) ty40 Cj pl40 rfl rfl) (Gr (Be (cells:=[_,_,_,_,_,_,_]) ty71 Ew pl71 rfl rfl) (G.e (Am call56 rfl rfl (Ask8_ok (nd:=3) (kd:=1) (wd:=0) (mo:=0) (num:=1) (den:=2) (T0:=5) (ea:=ad1) (ec:=1) (es:=([⟨1,5,0,1,1,0,1⟩]:List Ev)) Br hist_B dc ⟨by decide,by decide,by decide,by decide,by decide⟩ first_B dc (Cc hT A4))) ?_)))))))
 rintro _ _ ⟨_,_,⟨ad2,cp3,BB4,ad5,cp6,pt7,NN8,DD9,EE10,rfl,hBR,rfl⟩,rfl,rfl⟩
 refine Gm rfl (Gr (Az rfl rfl) (Gr (Az rfl rfl) (Ge1 (A5 ty90 rfl) fun b11=>Ge0 (Ci (cs:=[_,_,_,_,_,_,_,_,_,_,_]) (vs:=[_,_,_,_,_,_,_,_,_,_,_]) (cs':=[_,_,_,_,_,_,_,_,_,_,_]) ty90) ?_)))
 rw [at_B] at hBR
 obtain ⟨hBl,hN1,hD2⟩:=bestB hBR
 refine Ga rfl (Af (As (S2 3 2 rfl rfl) (Ah (Gm rfl (Gr (Bs rfl rfl) (Gm rfl (Bi (d:=16) rfl (fun g16=>?_) (fun g16=>?_))))))))
 ·refine Gro (Aa fld90_0 rfl) (Gro (Au ty4) ?_)
  refine Gr (Ap rfl rfl) (Gm rfl (Gro (Aa fld90_2 rfl) (Gro (Au ty3) ?_)))
  refine Gro (Bs rfl rfl) (Gr (Ap rfl rfl) (Gm rfl (Bi (d:=25) rfl (fun g25=>?_) (fun g25=>?_))))
  ·refine Gro (Aa fld90_3 rfl) (Gro (Au ty22) ?_)
   refine Eu (Cv rfl rfl rfl) (B9 (α:=Int) (cs:=[_,_]) (xs:=[0,1]) Ab ty3 rfl rfl dc dc rfl rfl rfl rfl) ?_
   rintro _ _ ⟨ad12,rfl,rfl⟩
   refine Eu (Cv rfl rfl rfl) (Am call61 rfl rfl (Cmp_ok Br Br)) ?_
   rintro _ _ ⟨_,_,⟨rfl,rfl⟩,rfl,rfl⟩
   refine Gro (Bs rfl rfl) (Gr (Ap rfl rfl) (Gm rfl (Bi (d:=32) rfl (fun g32=>?_) (fun g32=>?_))))
   ·refine Gro (Aa fld90_4 rfl) (Gro (Bm (vs:=[_,_]) ty40) ?_)
    exact Gro (Be (cells:=[_,_]) ty40 Cj pl40 rfl rfl) (Gro (Runs.eqlT (α:=Fr) (a:=(⟨NN8,DD9⟩:Fr)) (b:=(⟨1,2⟩:Fr)) eqt40 rfl rfl) (Gr (Ap rfl rfl) (Ga rfl (Af (As (S1 0 rfl) (A2 (A7 rfl rfl (I) A4 ⟨by rw [decide_eq_true (by rw [hN1,hD2])],rfl⟩)))))))
   ·exact absurd ((cmpL_eq _ _).2 hBl) g32
  ·exact absurd rfl g25
 ·exact absurd rfl g16
set_option maxHeartbeats 1000000 in
theorem Some43_base{κ:Ctx}{I:List Item}{b:Nat}{lv:Value}{ls:List Int}{i:Int}(hl:∀q,Sl κ (deck b lv q::I) lv ls)(h0:0≤i)   :
    CallS Tryz.prog κ 42 [.pointer (some ⟨b,0,none⟩)] (blk b [lv,I64 (i)] 125::I) (fun r J=>∃y:Int×(Option Addr)×Nat×(List Ev)×Int×Int×Int×Int,((r = .tuple #[I64 y.1,.slice y.2.1 y.2.2.2.1.length y.2.2.1,.agg #[I64 y.2.2.2.2.1,I64 y.2.2.2.2.2.1,I64 y.2.2.2.2.2.2.1]]∧HistOk y.1 y.2.2.2.2.1 y.2.2.2.2.2.1 y.2.2.2.2.2.2.1 y.2.2.2.1∧y.2.2.2.1.length≤12∧(2≤y.1∧y.1≤6))∧0≤y.2.2.2.2.2.2.2)∧J=[vc 108 (.slice y.2.1 y.2.2.2.1.length y.2.2.1) y.2.2.2.1]++deck b lv y.2.2.2.2.2.2.2::I):=by
 refine Ce1 Tryz.func42 rfl rfl ?_
 refine Ah (Ga rfl (Ga rfl (Ge1 (A5 ty31 rfl) fun b1=>Af (Ah (Gm rfl (G.e (Am call19 rfl rfl (Next_ok (by repeat (first|exact AtF.head _ _|apply AtF.tail)) (Ch (hl _) A4) om om)) ?_))))))
 rintro _ _ ⟨_,_,⟨x2,i3,rfl,hx2,hi3,rfl⟩,rfl,rfl⟩
 show G Tryz.prog κ _ _ _ _ ([(7,I64 (x2)),(6,.pointer (some ⟨b,0,none⟩)),(4,.pointer (some ⟨b1,0,none⟩)),(3,.slice none 0 0),(2,I64 (0)),(0,.pointer (some ⟨b,0,none⟩))]:Env) (blk b1 [I64 (0),I64 (0),I64 (0)] 31::blk b [lv,I64 (i3)] 125::I)
 refine Gr (Rad rfl rfl) (Ga rfl (Af (Ah (Gm rfl (Gm rfl (Gm rfl (G.e (Am call20 rfl rfl (MkEvents_at (by repeat (first|exact AtF.head _ _|apply AtF.tail)) (fun _=>Ch (hl _) A4) om  om om)) ?_)))))))
 rintro _ _ ⟨_,_,⟨⟨ad4,cp5,es6,i7⟩,⟨⟨rfl,hses6⟩,hi7⟩,rfl⟩,rfl,rfl⟩
 show G Tryz.prog κ _ _ _ _ ([(12,.slice ad4 es6.length cp5),(11,I64 (2+x2)),(10,.pointer (some ⟨b,0,none⟩)),(9,I64 (2+x2)),(5,I64 (2+x2)),(8,I64 (2+x2)),(7,I64 (x2)),(6,.pointer (some ⟨b,0,none⟩)),(4,.pointer (some ⟨b1,0,none⟩)),(3,.slice none 0 0),(2,I64 (0)),(0,.pointer (some ⟨b,0,none⟩))]:Env) (vc 108 (.slice ad4 es6.length cp5) (es6)::blk b1 [I64 (0),I64 (0),I64 (0)] 31::blk b [lv,I64 (i7)] 125::I)
 have hi7:0≤i7:=hi7
 dsimp only at hses6
 refine Gm rfl (G.e (Am call21 rfl rfl (MkWindowV_at (by repeat (first|exact AtF.head _ _|apply AtF.tail)) (fun _=>Ch (hl _) A4) om  )) ?_)
 rintro _ _ ⟨_,_,⟨⟨kd8,wd9,mo10,i11⟩,⟨⟨rfl,hwkd8⟩,hi11⟩,rfl⟩,rfl,rfl⟩
 show G Tryz.prog κ _ _ _ _ ([(14,.agg #[I64 (kd8),I64 (wd9),I64 (mo10)]),(13,.pointer (some ⟨b,0,none⟩)),(12,.slice ad4 es6.length cp5),(11,I64 (2+x2)),(10,.pointer (some ⟨b,0,none⟩)),(9,I64 (2+x2)),(5,I64 (2+x2)),(8,I64 (2+x2)),(7,I64 (x2)),(6,.pointer (some ⟨b,0,none⟩)),(4,.pointer (some ⟨b1,0,none⟩)),(3,.slice none 0 0),(2,I64 (0)),(0,.pointer (some ⟨b,0,none⟩))]:Env) (vc 108 (.slice ad4 es6.length cp5) (es6)::blk b1 [I64 (0),I64 (0),I64 (0)] 31::blk b [lv,I64 (i11)] 125::I)
 have hi11:0≤i11:=hi11
 refine Ga rfl (Ga rfl (Ge0 (Es3_3 ty31) ?_))
 exact Af (As (S3 3 2 4 rfl rfl rfl) (A2 (V.retttc rfl ty31 rfl rfl rfl mm rfl (vc 108 (.slice ad4 es6.length cp5) (es6)::blk b [lv,I64 (i11)] 125::I) B7 ⟨(2+x2,ad4,cp5,es6,kd8,wd9,mo10,i11),⟨⟨rfl,⟨hses6.1.st om om,hwkd8⟩,by show es6.length≤12;have h9:=hses6.2;omega,by show 2≤2+x2∧2+x2≤6;omega⟩,by show 0≤i11;omega⟩,rfl⟩)))
theorem Some43_at{κ:Ctx}{I:List Item}{F:Item→List Item}{b:Nat}{lv:Value}{ls:List Int}{i:Int}(hat:AtF I (deck b lv i) F)(hl:∀q,Sl κ (F (deck b lv q)) lv ls)(h0:0≤i)   :
  CallS Tryz.prog κ 42 [.pointer (some ⟨b,0,none⟩)] I fun r J=>∃y:Int×(Option Addr)×Nat×(List Ev)×Int×Int×Int×Int,((r = .tuple #[I64 y.1,.slice y.2.1 y.2.2.2.1.length y.2.2.1,.agg #[I64 y.2.2.2.2.1,I64 y.2.2.2.2.2.1,I64 y.2.2.2.2.2.2.1]]∧HistOk y.1 y.2.2.2.2.1 y.2.2.2.2.2.1 y.2.2.2.2.2.2.1 y.2.2.2.1∧y.2.2.2.1.length≤12∧(2≤y.1∧y.1≤6))∧0≤y.2.2.2.2.2.2.2)∧J=[vc 108 (.slice y.2.1 y.2.2.2.1.length y.2.2.1) y.2.2.2.1]++F (deck b lv y.2.2.2.2.2.2.2):=
 Dy (Post:=fun r (y:Int×(Option Addr)×Nat×(List Ev)×Int×Int×Int×Int)=>(r = .tuple #[I64 y.1,.slice y.2.1 y.2.2.2.1.length y.2.2.1,.agg #[I64 y.2.2.2.2.1,I64 y.2.2.2.2.2.1,I64 y.2.2.2.2.2.2.1]]∧HistOk y.1 y.2.2.2.2.1 y.2.2.2.2.2.1 y.2.2.2.2.2.2.1 y.2.2.2.1∧y.2.2.2.1.length≤12∧(2≤y.1∧y.1≤6))∧0≤y.2.2.2.2.2.2.2) (Z:=fun y:Int×(Option Addr)×Nat×(List Ev)×Int×Int×Int×Int=>[vc 108 (.slice y.2.1 y.2.2.2.1.length y.2.2.1) y.2.2.2.1]) (X:=fun y:Int×(Option Addr)×Nat×(List Ev)×Int×Int×Int×Int=>deck b lv y.2.2.2.2.2.2.2) hat fun J _ hF=>Some43_base (fun q=>(hl q).fit (hF _)) h0  
end Go.Sl
namespace Go.Sl
end Go.Sl
namespace Go.Sl
open Go.Proofs
set_option maxRecDepth 4000
section
variable {n kd wd mo:Int}{es:List Ev}(hH:HistOk n kd wd mo es)(hn:2≤n)(a a2:Option Addr)(c c2:Nat)
include hH hn
end
variable {κ:Ctx}{I:List Item}
theorem one_valid{x n:Int}(h:0≤x∧x<n):ValidP [x] n:=fun j hj=>by
 have hj2:j<1:=hj
 obtain rfl:j=0:=by omega
 exact ⟨h,fun h=>absurd h dc⟩
theorem MkSome_base{b:Nat}{lv:Value}{ls:List Int}{i:Int}{nodes:Int}(hl:∀q,Sl κ (deck b lv q::I) lv ls)(h0:0≤i)(hn:1≤nodes∧nodes≤64) :
    CallS Tryz.prog κ 49 [.pointer (some ⟨b,0,none⟩),I64 (nodes)] (blk b [lv,I64 (i)] 125::I) (fun r J=>∃y:(Option Addr)×Nat×(List Int)×Int,((r = .slice y.1 y.2.2.1.length y.2.1∧ValidP y.2.2.1 nodes∧(0<y.2.2.1.length∧(y.2.2.1.length:Int)≤nodes))∧0≤y.2.2.2)∧J=[vc 3 (.slice y.1 y.2.2.1.length y.2.1) y.2.2.1]++deck b lv y.2.2.2::I):=by
 refine Ce2 Tryz.func49 rfl rfl ?_
 refine Ah (Ga rfl (Af (Ah (Gm rfl (Gm rfl (G.e (Am call28 rfl rfl (Set_at (by repeat (first|exact AtF.head _ _|apply AtF.tail)) (fun _=>Ch (hl _) A4) om om)) ?_))))))
 rintro _ _ ⟨_,_,⟨ad2,cp3,o4,i1,rfl,ho4,hlo4,hi1,rfl⟩,rfl,rfl⟩
 show G Tryz.prog κ _ _ _ _ ([(8,.slice ad2 o4.length cp3),(7,I64 (nodes)),(6,.pointer (some ⟨b,0,none⟩)),(4,.slice none 0 0),(0,.pointer (some ⟨b,0,none⟩)),(1,I64 (nodes))]:Env) (vc 3 (.slice ad2 o4.length cp3) (o4)::blk b [lv,I64 (i1)] 125::I)
 refine Ga rfl (Af (Ao (Ah (Gm rfl (Gr (Bw Ab rfl) (Gr (Bs rfl rfl) (Gm rfl (Bi (d:=12) rfl (fun g12=>?_) (fun g12=>?_)))))))))
 ·refine Gro (Ad rfl) (Gro (B5 rfl rfl) (Gr (Ap rfl rfl) (Af (As (S4 15 5 0 1 rfl rfl rfl rfl) (A9 rfl (fun c15=>?_) (fun c15=>?_))))))
  ·refine Ah (Gm rfl (Gm rfl (G.e (Am call19 rfl rfl (Next_ok (by repeat (first|exact AtF.head _ _|apply AtF.tail)) (Ch (hl _) A4) om om)) ?_)))
   rintro _ _ ⟨_,_,⟨x5,i6,rfl,hx5,hi6,rfl⟩,rfl,rfl⟩
   show G Tryz.prog κ _ _ _ _ ([(18,I64 (x5)),(17,I64 (nodes)),(16,.pointer (some ⟨b,0,none⟩)),(15,.bool (decide (0<nodes))),(5,.slice ad2 o4.length cp3),(0,.pointer (some ⟨b,0,none⟩)),(1,I64 (nodes))]:Env) (vc 3 (.slice ad2 o4.length cp3) (o4)::blk b [lv,I64 (i6)] 125::I)
   refine Ge1 (B9 (α:=Int) (cs:=[_]) (xs:=[x5]) Ab ty3 rfl rfl dc dc rfl rfl rfl rfl) fun ad7=>?_
   exact Ga rfl (Af (A2 (Al (A7 rfl rfl (vc 3 (.slice ad7 1 1) (([x5]:List Int))::blk b [lv,I64 (i6)] 125::I) Ay ⟨(ad7,1,([x5]:List Int),i6),⟨⟨rfl,one_valid om,by show 0<1∧((1:Nat):Int)≤nodes;omega⟩,by show 0≤i6;omega⟩,rfl⟩))))
  ·exact A0 (Ai (Ah (Gm rfl (Ga rfl (Af (A2 (A7 rfl rfl (vc 3 (.slice ad2 o4.length cp3) (o4)::blk b [lv,I64 (i1)] 125::I) Ay ⟨(ad2,cp3,o4,i1),⟨⟨rfl,ho4,by show 0<o4.length∧(o4.length:Int)≤nodes;omega⟩,by show 0≤i1;omega⟩,rfl⟩)))))))
 ·exact Gpo (Gpo (Gr (Av rfl rfl) (Af (As (S4 15 5 0 1 rfl rfl rfl rfl) (Cx rfl (A0 (Ai (Ah (Gm rfl (Ga rfl (Af (A2 (A7 rfl rfl (vc 3 (.slice ad2 o4.length cp3) (o4)::blk b [lv,I64 (i1)] 125::I) Ay ⟨(ad2,cp3,o4,i1),⟨⟨rfl,ho4,by show 0<o4.length∧(o4.length:Int)≤nodes;omega⟩,by show 0≤i1;omega⟩,rfl⟩)))))))))))))
theorem MkSome_at{F:Item→List Item}{b:Nat}{lv:Value}{ls:List Int}{i:Int}{nodes:Int}(hat:AtF I (deck b lv i) F)(hl:∀q,Sl κ (F (deck b lv q)) lv ls)(h0:0≤i)(hn:1≤nodes∧nodes≤64) :
  CallS Tryz.prog κ 49 [.pointer (some ⟨b,0,none⟩),I64 (nodes)] I fun r J=>∃y:(Option Addr)×Nat×(List Int)×Int,((r = .slice y.1 y.2.2.1.length y.2.1∧ValidP y.2.2.1 nodes∧(0<y.2.2.1.length∧(y.2.2.1.length:Int)≤nodes))∧0≤y.2.2.2)∧J=[vc 3 (.slice y.1 y.2.2.1.length y.2.1) y.2.2.1]++F (deck b lv y.2.2.2):=
 Dy (Post:=fun r (y:(Option Addr)×Nat×(List Int)×Int)=>(r = .slice y.1 y.2.2.1.length y.2.1∧ValidP y.2.2.1 nodes∧(0<y.2.2.1.length∧(y.2.2.1.length:Int)≤nodes))∧0≤y.2.2.2) (Z:=fun y:(Option Addr)×Nat×(List Int)×Int=>[vc 3 (.slice y.1 y.2.2.1.length y.2.1) y.2.2.1]) (X:=fun y:(Option Addr)×Nat×(List Int)×Int=>deck b lv y.2.2.2) hat fun J _ hF=>MkSome_base (fun q=>(hl q).fit (hF _)) h0  hn
end Go.Sl
namespace Go.Sl
def Clq(rows:List (BitVec 64))(X:List Int):Prop:=X.Pairwise fun a b=>a<b∧b∈listB (at_ rows a)
structure ClqIn (rows:List (BitVec 64)) (W:BitVec 64) (X:List Int):Prop where
 clq:Clq rows X
 sub:∀x∈X,x∈listB W
section
variable {n:Nat}{rows:List (BitVec 64)}{W A B F:BitVec 64}{X Y:List Int}
theorem Clq.nodup(h:Clq rows X):X.Nodup:=h.imp fun h=>by omega
theorem Clq.adj(h:Clq rows X)(hS:SymB n rows)(hX:∀x∈X,0≤x∧x<n){x y:Int}(hx:x∈X)(hy:y∈X)(hne:x≠y):y∈listB (at_ rows x):=by
 obtain ⟨i,hi,rfl⟩:=List.getElem_of_mem hx
 obtain ⟨j,hj,rfl⟩:=List.getElem_of_mem hy
 rcases Nat.lt_trichotomy i j with h1|h1|h1
 ·exact ((List.pairwise_iff_getElem.1 h) i j hi hj h1).2
 ·subst h1;exact absurd rfl hne
 ·have h2:=((List.pairwise_iff_getElem.1 h) j i hj hi h1).2
  have h3:=hX _ hy
  exact hS.sym _ _ h3.1 h3.2 h2
theorem ClqIn.nil(rows:List (BitVec 64))(W:BitVec 64):ClqIn rows W []:=⟨List.Pairwise.nil,fun x h=>by cases h⟩
theorem ClqIn.mono(h:ClqIn rows A X)(hs:∀x∈listB A,x∈listB B):ClqIn rows B X:=⟨h.clq,fun x hx=>hs x (h.sub x hx)⟩
theorem ClqIn.len(h:ClqIn rows W X):X.length≤(listB W).length:=List.Nodup.length_le_of_subset h.clq.nodup h.sub
theorem ClqIn.zero(h:ClqIn rows 0#64 X):X=[]:=by
 cases X with
 |nil=>rfl
 |cons x xs=>have:=h.sub x List.mem_cons_self;rw [listB_zero] at this;cases this
theorem ClqIn.split{v:Int}(h:ClqIn rows W X)(hm:v∈listB W)(hv:∀u∈listB W,v≤u):(∃Y,X=v::Y∧ClqIn rows ((W &&& ~~~(1#64 <<< v.toNat)) &&& at_ rows v) Y)∨ClqIn rows (W &&& ~~~(1#64 <<< v.toNat)) X:=by
 have h0:=(listB_lt hm).1
 cases X with
 |nil=>exact .inr (ClqIn.nil _ _)
 |cons x Y=>
  obtain ⟨h1,h2⟩:=List.pairwise_cons.1 h.clq
  by_cases e:x=v
  ·subst e
   refine .inl ⟨Y,rfl,h2,fun y hy=>?_⟩
   have h3:=h1 y hy
   exact mem_andB.2 ⟨(mem_minus h0).2 ⟨h.sub y (List.mem_cons_of_mem _ hy),by omega⟩,h3.2⟩
  ·refine .inr ⟨h.clq,fun y hy=>(mem_minus h0).2 ⟨h.sub y hy,fun e2=>?_⟩⟩
   have hx:=hv x (h.sub x List.mem_cons_self)
   rcases List.mem_cons.1 hy with rfl|hy
   ·exact e e2
   ·have:=(h1 y hy).1;omega
theorem ClqIn.cons{v:Int}(h:ClqIn rows ((W &&& ~~~(1#64 <<< v.toNat)) &&& at_ rows v) Y)(hm:v∈listB W)(hv:∀u∈listB W,v≤u):ClqIn rows W (v::Y):=by
 have h0:=(listB_lt hm).1
 refine ⟨List.pairwise_cons.2 ⟨fun y hy=>?_,h.clq⟩,fun y hy=>?_⟩
 ·obtain ⟨h1,h2⟩:=mem_andB.1 (h.sub y hy)
  obtain ⟨h3,h4⟩:=(mem_minus h0).1 h1
  have:=hv y h3
  exact ⟨by omega,h2⟩
 ·rcases List.mem_cons.1 hy with rfl|hy
  ·exact hm
  ·exact ((mem_minus h0).1 (mem_andB.1 (h.sub y hy)).1).1
def inC(X:List Int)(A:BitVec 64):Nat:=(X.filter fun x=>decide (x∈listB A)).length
theorem inC_all(h:∀x∈X,x∈listB W):inC X W=X.length:=by
 unfold inC
 rw [List.filter_eq_self.2 fun x hx=>decide_eq_true (h x hx)]
theorem inC_zero:inC X 0#64=0:=by
 unfold inC
 rw [List.length_eq_zero_iff,List.filter_eq_nil_iff]
 intro x _
 rw [listB_zero];simp
theorem inC_out{v:Int}(h0:0≤v)(hv:v∉X):inC X (A &&& ~~~(1#64 <<< v.toNat))=inC X A:=by
 unfold inC
 congr 1
 refine List.filter_congr fun x hx=>?_
 rw [decide_eq_decide,mem_minus h0]
 exact ⟨fun h=>h.1,fun h=>⟨h,fun e=>hv (e▸hx)⟩⟩
theorem inC_one{v:Int}(h0:0≤v)(hn:X.Nodup):inC X A≤inC X (A &&& ~~~(1#64 <<< v.toNat))+1:=by
 have key:∀X:List Int,X.Nodup→inC X A≤inC X (A &&& ~~~(1#64 <<< v.toNat))+1∧(v∉X→inC X (A &&& ~~~(1#64 <<< v.toNat))=inC X A):=fun X=>by
  induction X with
  |nil=>exact fun _=>⟨by unfold inC;simp,fun _=>rfl⟩
  |cons x xs ih=>
   intro hn
   obtain ⟨h1,h2⟩:=List.nodup_cons.1 hn
   obtain ⟨i1,i2⟩:=ih h2
   refine ⟨?_,inC_out h0⟩
   unfold inC at i1 i2 ⊢
   rw [List.filter_cons,List.filter_cons]
   by_cases hx:x∈listB A
   ·rw [if_pos (decide_eq_true hx)]
    by_cases e:x=v
    ·subst e
     have:=i2 h1
     rw [if_neg (by simp [mem_minus h0]),List.length_cons];omega
    ·rw [if_pos (decide_eq_true ((mem_minus h0).2 ⟨hx,e⟩)),List.length_cons,List.length_cons];omega
   ·rw [if_neg (by simp [hx]),if_neg (by simp [mem_minus h0,hx])]
    exact i1
 exact (key X hn).1
structure TakeI (rows:List (BitVec 64)) (W A A1 F:BitVec 64):Prop where
 sub:∀x∈listB F,x∈listB A1
 sub2:∀x∈listB A1,x∈listB A
 lt:(F=A∧A1=A)∨(listB A1).length<(listB A).length
 clq:∀X,ClqIn rows W X→inC X A1=inC X A∨(inC X A≤inC X A1+1∧∀x∈X,x∉listB F)
theorem TakeI.start(rows:List (BitVec 64))(W A:BitVec 64):TakeI rows W A A A:=⟨fun _ h=>h,fun _ h=>h,.inl ⟨rfl,rfl⟩,fun _ _=> .inl rfl⟩
theorem TakeI.step(hS:SymB n rows)(hW:∀x∈listB W,x<n){A1:BitVec 64}(h:TakeI rows W A A1 F){v:Int}(hv:v∈listB F):TakeI rows W A (A1 &&& ~~~(1#64 <<< v.toNat)) (F &&& ~~~(1#64 <<< v.toNat ||| at_ rows v)):=by
 have h0:=(listB_lt hv).1
 have hF:∀x,x∈listB (F &&& ~~~(1#64 <<< v.toNat ||| at_ rows v))→x∈listB F∧x≠v∧x∉listB (at_ rows v):=fun x hx=>by
  have hr:=listB_lt hx
  rw [mem_listB,BitVec.getLsbD_and,BitVec.getLsbD_not,BitVec.getLsbD_or,getLsb_shl _ _ (by omega),Bool.and_eq_true,Bool.and_eq_true,Bool.not_eq_true',Bool.or_eq_false_iff] at hx
  refine ⟨mem_listB.2 ⟨hx.1,hx.2.1⟩,fun e=>?_,fun hm=>?_⟩
  ·subst e
   have:=hx.2.2.2.1
   simp at this
  ·have:=hx.2.2.2.2
   rw [mem_listB] at hm
   rw [hm.2] at this;cases this
 have hvA:=h.sub v hv
 refine ⟨fun x hx=>?_,fun x hx=>h.sub2 x ((mem_minus h0).1 hx).1,.inr ?_,fun X hX=>?_⟩
 ·obtain ⟨h1,h2,_⟩:=hF x hx
  exact (mem_minus h0).2 ⟨h.sub x h1,h2⟩
 ·have h1:=listB_minus hvA
  have h2:=List.Nodup.length_le_of_subset (listB_nodup A1) h.sub2
  omega
 ·by_cases hm:v∈X
  ·rcases h.clq X hX with h1|⟨_,h1⟩
   ·refine .inr ⟨?_,fun x hx hxF=>?_⟩
    ·have:=inC_one (A:=A1) h0 hX.clq.nodup;omega
    ·obtain ⟨_,h3,h4⟩:=hF x hxF
     exact h4 (hX.clq.adj hS (fun y hy=>⟨(listB_lt (hX.sub y hy)).1,hW y (hX.sub y hy)⟩) hm hx (fun e=>h3 e.symm))
   ·exact absurd hv (h1 v hm)
  ·rw [inC_out h0 hm]
   rcases h.clq X hX with h1|⟨h1,h2⟩
   ·exact .inl h1
   ·exact .inr ⟨h1,fun x hx hxF=>h2 x hx (hF x hxF).1⟩
structure BdI (rows:List (BitVec 64)) (W A:BitVec 64) (q:Nat):Prop where
 sub:∀x∈listB A,x∈listB W
 bd:∀X,ClqIn rows W X→X.length≤q+inC X A
 len:q+(listB A).length≤(listB W).length
theorem BdI.start(rows:List (BitVec 64))(W:BitVec 64):BdI rows W W 0:=⟨fun _ h=>h,fun X hX=>by rw [inC_all hX.sub];omega,by omega⟩
theorem BdI.step{q:Nat}{A1:BitVec 64}(h:BdI rows W A q)(hT:TakeI rows W A A1 0#64)(hA:A≠0#64):BdI rows W A1 (q+1)∧(listB A1).length<(listB A).length:=by
 have hlt:(listB A1).length<(listB A).length:=by
  rcases hT.lt with ⟨e,_⟩|h1
  ·exact absurd e.symm hA
  ·exact h1
 refine ⟨⟨fun x hx=>h.sub x (hT.sub2 x hx),fun X hX=>?_,by have:=h.len;omega⟩,hlt⟩
 have h1:=h.bd X hX
 rcases hT.clq X hX with h2|⟨h2,_⟩<;>omega
theorem BdI.done{q:Nat}(h:BdI rows W 0#64 q):∀X,ClqIn rows W X→X.length≤q:=fun X hX=>by
 have:=h.bd X hX
 rw [inC_zero] at this;omega
structure GrowR (rows:List (BitVec 64)) (W:BitVec 64) (size b b':Int):Prop where
 le:b≤b'
 all:∀X,ClqIn rows W X→size+X.length≤b'
 real:b'=b∨∃X,ClqIn rows W X∧b'=size+X.length
structure SrchI (rows:List (BitVec 64)) (W A:BitVec 64) (size b b1:Int):Prop where
 le:b≤b1∧size≤b1
 sub:∀x∈listB A,x∈listB W
 all:∀X,ClqIn rows W X→size+X.length≤b1∨ClqIn rows A X
 real:b1=b∨∃X,ClqIn rows W X∧b1=size+X.length
theorem SrchI.start(rows:List (BitVec 64))(W:BitVec 64)(size b:Int):SrchI rows W W size b (max b size):=
 ⟨by omega,fun _ h=>h,fun X hX=> .inr hX,by
  by_cases h:size≤b
  ·exact .inl (by omega)
  ·exact .inr ⟨[],ClqIn.nil _ _,by simp;omega⟩⟩
theorem SrchI.stop{size b b1:Int}(h:SrchI rows W A size b b1)(hq:∀X,ClqIn rows A X→size+X.length≤b1):GrowR rows W size b b1:=
 ⟨h.le.1,fun X hX=>(h.all X hX).elim id (hq X),h.real⟩
theorem SrchI.ones{size b b1:Int}(h:SrchI rows W A size b b1)(hq:size+((listB A).length:Int)≤b1):GrowR rows W size b b1:=h.stop fun X hX=>by
 have:=hX.len;omega
theorem SrchI.step{size b b1 b2:Int}(h:SrchI rows W A size b b1){v:Int}(hm:v∈listB A)(hv:∀u∈listB A,v≤u)(hg:GrowR rows ((A &&& ~~~(1#64 <<< v.toNat)) &&& at_ rows v) (size+1) b1 b2):SrchI rows W (A &&& ~~~(1#64 <<< v.toNat)) size b b2:=by
 have h0:=(listB_lt hm).1
 have hle:=hg.le
 refine ⟨⟨by have:=h.le;omega,by have:=h.le;omega⟩,fun x hx=>h.sub x ((mem_minus h0).1 hx).1,fun X hX=>?_,?_⟩
 ·rcases h.all X hX with h1|h1
  ·exact .inl (by omega)
  ·rcases h1.split hm hv with ⟨Y,rfl,hY⟩|h2
   ·have:=hg.all Y hY
    refine .inl ?_
    rw [List.length_cons];omega
   ·exact .inr h2
 ·rcases hg.real with e|⟨Y,hY,e⟩
  ·rw [e];exact h.real
  ·refine .inr ⟨v::Y,(hY.cons hm hv).mono h.sub,?_⟩
   rw [List.length_cons,e];omega
def Lx(X Z:List Int):Prop:=X=Z∨∃p x z r s,X=p++x::r∧Z=p++z::s∧x<z
theorem Lx.antisymm:∀{X Z:List Int},Lx X Z→Lx Z X→X=Z:=fun {X Z} h1 h2=>by
 rcases h1 with h1|⟨p,x,z,r,s,rfl,rfl,hlt⟩
 ·exact h1
 ·rcases h2 with h2|⟨p',x',z',r',s',e1,e2,hlt'⟩
  ·exact h2.symm
  ·exfalso
   have key:∀(p p':List Int) (x z x' z':Int) (r s r' s':List Int),p++z::s=p'++x'::r'→p++x::r=p'++z'::s'→x<z→x'<z'→False:=by
    intro p
    induction p with
    |nil=>
     intro p' x z x' z' r s r' s' e1 e2 h1 h2
     cases p' with
     |nil=>
      simp only [List.nil_append,List.cons.injEq] at e1 e2
      omega
     |cons a p'=>
      simp only [List.nil_append,List.cons_append,List.cons.injEq] at e1 e2
      omega
    |cons a p ih=>
     intro p' x z x' z' r s r' s' e1 e2 h1 h2
     cases p' with
     |nil=>
      simp only [List.nil_append,List.cons_append,List.cons.injEq] at e1 e2
      omega
     |cons a' p'=>
      simp only [List.cons_append,List.cons.injEq] at e1 e2
      exact ih p' x z x' z' r s r' s' e1.2 e2.2 h1 h2
   exact key p p' x z x' z' r s r' s' e1 e2 hlt hlt'
structure MaxClR (rows:List (BitVec 64)) (W:BitVec 64) (X:List Int):Prop where
 clq:ClqIn rows W X
 max:∀Z,ClqIn rows W Z→Z.length≤X.length
 first:∀Z,ClqIn rows W Z→Z.length=X.length→Lx X Z
theorem MaxClR.uniq{X Z:List Int}(h:MaxClR rows W X)(h':MaxClR rows W Z):X=Z:=by
 have h1:=h.max Z h'.clq
 have h2:=h'.max X h.clq
 exact (h.first Z h'.clq (by omega)).antisymm (h'.first X h.clq (by omega))
structure PickI (rows:List (BitVec 64)) (W A:BitVec 64) (out:List Int) (left:Nat):Prop where
 join:∀Y,ClqIn rows A Y→ClqIn rows W (out++Y)
 some:∃Y,ClqIn rows A Y∧Y.length=left
 max:∀Z,ClqIn rows W Z→Z.length≤out.length+left
 most:∀Y,ClqIn rows A Y→Y.length≤left
 first:∀Z,ClqIn rows W Z→Z.length=out.length+left→(∃Y,ClqIn rows A Y∧Z=out++Y)∨∃p x z r s,out=p++x::r∧Z=p++z::s∧x<z
theorem PickI.start{m:Nat}(h1:∃Y,ClqIn rows W Y∧Y.length=m)(h2:∀Y,ClqIn rows W Y→Y.length≤m):PickI rows W W [] m:=
 ⟨fun Y h=>h,h1,fun Z h=>by have:=h2 Z h;simp;omega,h2,fun Z h _=> .inl ⟨Z,h,rfl⟩⟩
theorem PickI.done{out:List Int}(h:PickI rows W A out 0):MaxClR rows W out:=by
 have hc:=h.join [] (ClqIn.nil _ _)
 rw [List.append_nil] at hc
 refine ⟨hc,fun Z hZ=>by have:=h.max Z hZ;omega,fun Z hZ hl=>?_⟩
 rcases h.first Z hZ (by omega) with ⟨Y,_,rfl⟩|⟨p,x,z,r,s,e1,e2,hlt⟩
 ·rw [List.length_append] at hl
  have:Y=[]:=List.length_eq_zero_iff.1 (by omega)
  subst this
  exact .inl (List.append_nil _).symm
 ·exact .inr ⟨p,x,z,r,s,e1,e2,hlt⟩
structure ScanI (rows:List (BitVec 64)) (A M:BitVec 64) (left:Nat):Prop where
 sub:∀x∈listB M,x∈listB A
 all:∀Y,ClqIn rows A Y→Y.length=left→ClqIn rows M Y
theorem ScanI.start(rows:List (BitVec 64))(A:BitVec 64)(left:Nat):ScanI rows A A left:=⟨fun _ h=>h,fun _ h _=>h⟩
theorem ScanI.ne{M:BitVec 64}{left:Nat}{out:List Int}(h:ScanI rows A M left)(hp:PickI rows W A out left)(hl:0<left):M≠0#64:=fun e=>by
 subst e
 obtain ⟨Y,hY,hYl⟩:=hp.some
 have:=(h.all Y hY hYl).zero
 subst this
 simp at hYl;omega
theorem ScanI.skip{M:BitVec 64}{left:Nat}(h:ScanI rows A M left){v:Int}(hm:v∈listB M)(hv:∀u∈listB M,v≤u)(hno:∀Y,ClqIn rows ((M &&& ~~~(1#64 <<< v.toNat)) &&& at_ rows v) Y→Y.length+1<left):ScanI rows A (M &&& ~~~(1#64 <<< v.toNat)) left:=by
 have h0:=(listB_lt hm).1
 refine ⟨fun x hx=>h.sub x ((mem_minus h0).1 hx).1,fun Y hY hl=>?_⟩
 rcases (h.all Y hY hl).split hm hv with ⟨Z,rfl,hZ⟩|h2
 ·have:=hno Z hZ
  rw [List.length_cons] at hl;omega
 ·exact h2
theorem ScanI.take{M:BitVec 64}{left:Nat}{out:List Int}(h:ScanI rows A M left)(hp:PickI rows W A out left)(hl:0<left){v:Int}(hm:v∈listB M)(hv:∀u∈listB M,v≤u)(hyes:∃Y,ClqIn rows ((M &&& ~~~(1#64 <<< v.toNat)) &&& at_ rows v) Y∧left≤Y.length+1):PickI rows W ((M &&& ~~~(1#64 <<< v.toNat)) &&& at_ rows v) (out++[v]) (left - 1):=by
 have up:∀Y,ClqIn rows ((M &&& ~~~(1#64 <<< v.toNat)) &&& at_ rows v) Y→ClqIn rows A (v::Y):=fun Y hY=>(hY.cons hm hv).mono h.sub
 have hmost:∀Y,ClqIn rows ((M &&& ~~~(1#64 <<< v.toNat)) &&& at_ rows v) Y→Y.length≤left - 1:=fun Y hY=>by
  have:=hp.most _ (up Y hY)
  rw [List.length_cons] at this;omega
 refine ⟨fun Y hY=>?_,?_,fun Z hZ=>?_,hmost,fun Z hZ hZl=>?_⟩
 ·have:=hp.join _ (up Y hY)
  rwa [List.append_assoc]
 ·obtain ⟨Y,hY,hYl⟩:=hyes
  exact ⟨Y,hY,by have:=hmost Y hY;omega⟩
 ·have:=hp.max Z hZ
  rw [List.length_append,List.length_singleton];omega
 ·rw [List.length_append,List.length_singleton] at hZl
  rcases hp.first Z hZ (by omega) with ⟨Y,hY,rfl⟩|⟨p,x,z,r,s,e1,e2,hlt⟩
  ·rw [List.length_append] at hZl
   have hYM:=h.all Y hY (by omega)
   rcases hYM.split hm hv with ⟨Y',rfl,hY'⟩|h2
   ·exact .inl ⟨Y',hY',by rw [List.append_assoc];rfl⟩
   ·cases Y with
    |nil=>rw [List.length_nil] at hZl;omega
    |cons y Y'=>
     have h0:=(listB_lt hm).1
     have h3:=(mem_minus h0).1 (h2.sub y List.mem_cons_self)
     have h4:=hv y h3.1
     exact .inr ⟨out,v,y,[],Y',rfl,rfl,by omega⟩
  ·exact .inr ⟨p,x,z,r++[v],s,by rw [e1,List.append_assoc];rfl,e2,hlt⟩
end
end Go.Sl
namespace Go.Sl
open Go.Proofs
set_option maxRecDepth 4000
variable {κ:Ctx}{I:List Item}
theorem CMasks_ok{nd:Int}{va:Value}{es:List Pt}(hl:Sl κ I va es)(hG:GrOk nd es) :
    CallS Tryz.prog κ 242 [.agg #[I64 (nd),va]] I (fun r J=>∃a c,r = .slice a (rowsB nd es).length c∧J=vc 175 (.slice a (rowsB nd es).length c) (rowsB nd es)::I):=by
 refine B4 hl.le fun hmax=>?_
 have hrng:=hG.rng
 refine Ce1 Tryz.func242 rfl rfl ?_
 refine Ah (Ge1 (Bb (cs:=[_,_]) rfl rfl rfl) fun b1=>Ga rfl (Af (Ah (Gf fld48_0 rfl (Gl ty3 ?_)))))
 refine Ge2 (Cp (α:=(BitVec 64)) (n:=nd.toNat) C1 ty175 rfl rfl rfl om om dc rfl) fun ad2 cp3=>?_
 refine Ga rfl ?_
 have hrep:(List.replicate nd.toNat (default:(BitVec 64))).length=nd.toNat:=List.length_replicate
 refine Af (Ao (Ah (Gf fld48_1 rfl (Gl ty46 ?_))))
 refine Gr (Bz (α:=Pt) (xs:=es) Bh rfl (Bf hl)) (Gm rfl (Af (Ax (Bx (σ:=Nat×(List (BitVec 64))) (fun s=>([(3,.slice ad2 (List.replicate nd.toNat (default:(BitVec 64))).length cp3),(10,va),(11,I64 (((es.length:Nat):Int))),(12,I64 (((s.1:Nat):Int)))]:Env)) (fun s=>vc 175 (.slice ad2 (List.replicate nd.toNat (default:(BitVec 64))).length cp3) (s.2)::blk b1 [I64 (nd),va] 48::I) (fun s=>(s.1≤es.length)∧(s.2=rowsB nd (es.take s.1))∧(s.2.length=nd.toNat)) (fun s=>es.length - s.1) (0,List.replicate nd.toNat (default:(BitVec 64))) (show ((0:Nat)≤es.length)∧((List.replicate nd.toNat (default:(BitVec 64)):List (BitVec 64))=rowsB nd (es.take (0:Nat)))∧((List.replicate nd.toNat (default:(BitVec 64)):List (BitVec 64)).length=nd.toNat) from ⟨om,(by unfold rowsB rows0;rw [show (min (max nd 0) 64).toNat=nd.toNat by omega];rfl),(by simp)⟩) (Ac rfl (Ac rfl (Ac rfl (Ac Cb Bq)))) (show Fit κ _ (vc 175 (.slice ad2 (List.replicate nd.toNat (default:(BitVec 64))).length cp3) ((List.replicate nd.toNat (default:(BitVec 64))))::blk b1 [I64 (nd),va] 48::I) from Ay) ?_))))
 rintro ⟨k,rows⟩ hp
 dsimp only at hp ⊢
 obtain ⟨hk,hr,hrl⟩:=hp
 have hed:=fun h:k<es.length=>hG.at h
 refine Ah (Gr (Bc rfl rfl) (Af (Ao (A9 rfl (fun c13=>?_) (fun c13=>?_)))))
 ·refine A0 (Ai (Ao (Ax (Ah (Gr (A8 (α:=Pt) (xs:=es) Bh ty135 rfl rfl (Bf hl) om oo) (Gr (B0 (α:=Pt) (xs:=es) ty135 rfl (Bf hl) om oo) (Ge1 (A5 ty135 rfl) fun b4=>Ge0 (B1 ty135) ?_)))))))
  refine Af (Ao (Bo mixed (Bu (blk b4 [I64 ((at_ es (k:Int)).u),I64 ((at_ es (k:Int)).v)] 135::vc 175 (.slice ad2 (List.replicate nd.toNat (default:(BitVec 64))).length cp3) (rows)::blk b1 [I64 (nd),va] 48::I) 10 (Dr 0 rfl (Ad rfl) (Dr 1 rfl (Aa fld135_0 rfl) (Dr 2 rfl (Au ty3) ?_))))))
  refine Dr 3 rfl (A8 (α:=(BitVec 64)) (xs:=rows) C1 ty175 rfl rfl Br om oo) (Dr 4 rfl (Cs (α:=(BitVec 64)) (xs:=rows) (u:=U64 ((at_ rows ((at_ es (k:Int)).u)))) ty175 rfl Br om oo rfl) (Dr 5 rfl (Aa fld135_1 rfl) (Dr 6 rfl (Au ty3) ?_)))
  refine Dr 7 rfl (Ef (a:=1#64) rfl rfl om om) (Dr 8 rfl (Runs.orB (a:=(at_ rows ((at_ es (k:Int)).u))) (b:=(1#64) <<< ((at_ es (k:Int)).v).toNat) rfl rfl) (Dr 9 rfl (A8 (α:=(BitVec 64)) (xs:=rows) C1 ty175 rfl rfl Br om oo) (C4 kr ?_)))
  refine Ae 10 rfl (Cy (α:=(BitVec 64)) (xs:=rows) (e:=175) (new:=(at_ rows ((at_ es (k:Int)).u)) ||| ((1#64) <<< ((at_ es (k:Int)).v).toNat)) ty175 rfl rfl rfl om oo am) ?_
  rintro _ _ ⟨rfl,rfl⟩
  refine C5 kr ?_
  refine Ai (As (S5 5 3 10 11 12 rfl rfl rfl rfl rfl) (Bo mixed (Bu (blk b4 [I64 ((at_ es (k:Int)).u),I64 ((at_ es (k:Int)).v)] 135::vc 175 (.slice ad2 (List.replicate nd.toNat (default:(BitVec 64))).length cp3) (List.set rows ((at_ es (k:Int)).u).toNat ((at_ rows ((at_ es (k:Int)).u)) ||| ((1#64) <<< ((at_ es (k:Int)).v).toNat)))::blk b1 [I64 (nd),va] 48::I) 10 (Dr 0 rfl (Ad rfl) (Dr 1 rfl (Aa fld135_1 rfl) (Dr 2 rfl (Au ty3) ?_))))))
  refine Dr 3 rfl (A8 (α:=(BitVec 64)) (xs:=List.set rows ((at_ es (k:Int)).u).toNat ((at_ rows ((at_ es (k:Int)).u)) ||| ((1#64) <<< ((at_ es (k:Int)).v).toNat))) C1 ty175 rfl rfl Br om oo) (Dr 4 rfl (Cs (α:=(BitVec 64)) (xs:=List.set rows ((at_ es (k:Int)).u).toNat ((at_ rows ((at_ es (k:Int)).u)) ||| ((1#64) <<< ((at_ es (k:Int)).v).toNat))) (u:=U64 ((at_ (List.set rows ((at_ es (k:Int)).u).toNat ((at_ rows ((at_ es (k:Int)).u)) ||| ((1#64) <<< ((at_ es (k:Int)).v).toNat))) ((at_ es (k:Int)).v)))) ty175 rfl Br om oo rfl) (Dr 5 rfl (Aa fld135_0 rfl) (Dr 6 rfl (Au ty3) ?_)))
  refine Dr 7 rfl (Ef (a:=1#64) rfl rfl om om) (Dr 8 rfl (Runs.orB (a:=(at_ (List.set rows ((at_ es (k:Int)).u).toNat ((at_ rows ((at_ es (k:Int)).u)) ||| ((1#64) <<< ((at_ es (k:Int)).v).toNat))) ((at_ es (k:Int)).v))) (b:=(1#64) <<< ((at_ es (k:Int)).u).toNat) rfl rfl) (Dr 9 rfl (A8 (α:=(BitVec 64)) (xs:=List.set rows ((at_ es (k:Int)).u).toNat ((at_ rows ((at_ es (k:Int)).u)) ||| ((1#64) <<< ((at_ es (k:Int)).v).toNat))) C1 ty175 rfl rfl Br om oo) (C4 kr ?_)))
  refine Ae 10 rfl (Cy (α:=(BitVec 64)) (xs:=List.set rows ((at_ es (k:Int)).u).toNat ((at_ rows ((at_ es (k:Int)).u)) ||| ((1#64) <<< ((at_ es (k:Int)).v).toNat))) (e:=175) (new:=(at_ (List.set rows ((at_ es (k:Int)).u).toNat ((at_ rows ((at_ es (k:Int)).u)) ||| ((1#64) <<< ((at_ es (k:Int)).v).toNat))) ((at_ es (k:Int)).v)) ||| ((1#64) <<< ((at_ es (k:Int)).u).toNat)) ty175 rfl rfl rfl om oo am) ?_
  rintro _ _ ⟨rfl,rfl⟩
  refine C5 kr ?_
  refine Aj (Ai (As (S4 3 10 11 12 rfl rfl rfl rfl) (Aw (Gr (Rad rfl rfl) (Gm rfl (Bj ?_))))))
  have hset:List.set (List.set rows ((at_ es (k:Int)).u).toNat ((at_ rows ((at_ es (k:Int)).u)) ||| ((1#64) <<< ((at_ es (k:Int)).v).toNat))) ((at_ es (k:Int)).v).toNat ((at_ (List.set rows ((at_ es (k:Int)).u).toNat ((at_ rows ((at_ es (k:Int)).u)) ||| ((1#64) <<< ((at_ es (k:Int)).v).toNat))) ((at_ es (k:Int)).v)) ||| ((1#64) <<< ((at_ es (k:Int)).u).toNat))=addRow rows (at_ es (k:Int)):=by unfold addRow;rw [if_pos om]
  rw [hset]
  exact B6 ((k+1),(addRow rows (at_ es (k:Int)))) (by dsimp only;exact ⟨om,(by rw [rowsB_take om,←hr]),(by rw [addRow_len];exact hrl)⟩)
 ·refine Bt (Ak (Ak (A6 (Ai (Ah (Gm rfl (Ga rfl (Af (A2 ?_)))))))))
  rw [List.take_of_length_le om] at hr
  subst hr
  have hle:(rowsB nd es).length=(List.replicate nd.toNat (default:(BitVec 64))).length:=by omega
  exact A7 rfl rfl (vc 175 (.slice ad2 (rowsB nd es).length cp3) (rowsB nd es)::I) (by rw [hle];exact Ay) ⟨_,_,by rw [hle],rfl⟩
theorem free_lt{F G:BitVec 64}{v:Int}(hv:v∈listB F):(listB (F &&& ~~~(1#64 <<< v.toNat ||| G))).length<(listB F).length:=by
 have h0:=(listB_lt hv).1
 have h1:=listB_minus hv
 have h2:(listB (F &&& ~~~(1#64 <<< v.toNat ||| G))).length≤(listB (F &&& ~~~(1#64 <<< v.toNat))).length:=by
  refine List.Nodup.length_le_of_subset (listB_nodup _) fun x hx=>?_
  rw [En,BitVec.getLsbD_and,BitVec.getLsbD_not,BitVec.getLsbD_or,Bool.and_eq_true,Bool.and_eq_true,Bool.not_eq_true',Bool.or_eq_false_iff] at hx
  rw [En,BitVec.getLsbD_and,BitVec.getLsbD_not,Bool.and_eq_true,Bool.and_eq_true,Bool.not_eq_true']
  exact ⟨hx.1,hx.2.1,hx.2.2.1,hx.2.2.2.1⟩
 omega
theorem CBound_ok{ra:Option Addr}{rc n:Nat}{rows:List (BitVec 64)}(hr:Sl κ I (.slice ra rows.length rc) rows)(hS:SymB n rows){Wq:BitVec 64}(hW:∀x∈listB Wq,x<n)(hT:TabRd κ I 0 tzCells) :
    CallS Tryz.prog κ 287 [.slice ra rows.length rc,U64 (Wq)] I (fun r J=>∃q:Nat,r=I64 ((q:Nat):Int)∧(∀X,ClqIn rows Wq X→X.length≤q)∧q≤(listB Wq).length∧I=J):=by
 have hSl:=hS.len
 refine Ce2 Tryz.func287 rfl rfl ?_
 refine Ah (Ga rfl (Af (Ah (Ga rfl (Af (Ao (Ax (Bx (σ:=(BitVec 64)×Nat) (fun s=>([(0,.slice ra rows.length rc),(1,U64 (s.1)),(5,I64 (((s.2:Nat):Int)))]:Env)) (fun s=>I) (fun s=>(BdI rows Wq s.1 s.2)) (fun s=>(listB s.1).length) (Wq,0) (show (BdI rows Wq (Wq:BitVec 64) (0:Nat)) from (BdI.start rows Wq)) (Ac rfl (Ac (Cz rfl (by first|rfl|simp)) (Ac Cb Bq))) (show Fit κ _ (I) from Ay) ?_))))))))
 rintro ⟨Aq,q⟩ hp
 dsimp only at hp ⊢
 have hB:=hp
 have hq64:q≤64:=by have h1:=hB.len;have h2:=Ed Wq;omega
 refine Ao (Ah (Gm rfl (Gr (D8 (a:=Aq) (b:=0#64) rfl rfl) (Af (A9 rfl (fun c9=>?_) (fun c9=>?_))))))
 ·refine A0 (Ai (Ao (Ax (Ah (Gm rfl (Ga rfl (Af (Ax (Bx (σ:=(BitVec 64)×(BitVec 64)) (fun s=>([(0,.slice ra rows.length rc),(1,U64 (s.2)),(5,I64 ((q:Int))),(6,U64 (s.1))]:Env)) (fun s=>I) (fun s=>(TakeI rows Wq Aq s.2 s.1)) (fun s=>(listB s.1).length) (Aq,Aq) (show (TakeI rows Wq Aq (Aq:BitVec 64) (Aq:BitVec 64)) from (TakeI.start rows Wq Aq)) (Ac rfl (Ac (Cz rfl (by first|rfl|simp)) (Ac rfl (Ac (Cz rfl (by first|rfl|simp)) Bq)))) (show Fit κ _ (I) from Ay) ?_)))))))))
  rintro ⟨F,A1⟩ hp
  dsimp only at hp ⊢
  have hTk:=hp
  refine Ao (Ah (Gm rfl (Gr (D8 (a:=F) (b:=0#64) rfl rfl) (Af (A9 rfl (fun c14=>?_) (fun c14=>?_))))))
  ·refine A0 (Ai (Ax (Ah (Gm rfl (G.e (Am call234 rfl rfl (Tz_ok F (Cc hT A4))) ?_)))))
   rintro _ _ ⟨_,_,⟨rfl,rfl⟩,rfl,rfl⟩
   refine Ga rfl ?_
   have hv0:=tzB_le (m:=F) c14
   generalize hvE:tzB F=v at hv0 ⊢
   obtain ⟨hvm,hvl⟩:=hv0
   have hvr:=listB_lt hvm
   have hvn:=hW v (hB.sub v (hTk.sub2 v (hTk.sub v hvm)))
   exact Af (Ah (Gm rfl (Gm rfl (Gr (Ef (a:=1#64) rfl rfl om om) (Gr (Em (a:=A1) (b:=(1#64) <<< (v).toNat) rfl rfl) (Ga rfl (Af (As (S5 1 7 0 5 6 rfl rfl rfl rfl rfl) (Bo mixed (Bu (I) 10 (Dr 0 rfl (Ad rfl) (Dr 1 rfl (Ad rfl) (Dr 2 rfl (Ef (a:=1#64) rfl rfl om om) (Dr 3 rfl (Ad rfl) (Dr 4 rfl (Ad rfl) (Dr 5 rfl (A8 (α:=(BitVec 64)) (xs:=rows) C1 ty175 rfl rfl (Bf hr) om om) (Dr 6 rfl (Cs (α:=(BitVec 64)) (xs:=rows) (u:=U64 ((at_ rows v))) ty175 rfl (Bf hr) om om rfl) (Dr 7 rfl (Runs.orB (a:=(1#64) <<< (v).toNat) (b:=(at_ rows v)) rfl rfl) (Dr 8 rfl (Em (a:=F) (b:=((1#64) <<< (v).toNat) ||| (at_ rows v)) rfl rfl) (Dr 9 rfl (Bd rfl) (Dz (Aj (B6 ((F &&& ~~~(((1#64) <<< (v).toNat) ||| (at_ rows v))),(A1 &&& ~~~((1#64) <<< (v).toNat))) (by dsimp only;exact (hTk.step hS hW hvm)) (hlt:=by (try dsimp only);exact (free_lt hvm)))))))))))))))))))))))))
  ·refine Bt (Ak (Ak (A6 (Aj (Ai (Aw (Gm rfl (Gr (Rad rfl rfl) (Ga rfl (Bj ?_))))))))))
   have hF0:F=0#64:=Classical.not_not.1 c14
   subst hF0
   obtain ⟨hB1,hBl⟩:=hB.step hTk c9
   exact B6 ((A1),(q+1)) (by dsimp only;exact hB1)
 ·refine Bt (Ak (Ak (A6 (Ai (Ah (Gm rfl (Ga rfl (Af (A2 ?_)))))))))
  have hA0:Aq=0#64:=Classical.not_not.1 c9
  subst hA0
  exact A7 rfl rfl (I) A4 ⟨q,rfl,hB.done,by have:=hB.len;omega,rfl⟩
def GrowC(κ:Ctx)(bb ba bs:Nat)(ra:Option Addr)(rc n:Nat)(rows:List (BitVec 64))(N:Nat):Prop:=
 ∀(I:List Item) (Wq:BitVec 64) (size b:Int),Sl κ I (.slice ra rows.length rc) rows→(listB Wq).length≤N→(∀x∈listB Wq,x<n)→(0≤size∧size+(listB Wq).length≤64)→TabRd κ I 0 tzCells→
  CallS Tryz.prog κ 286 [U64 (Wq),I64 (size),.pointer (some ⟨bb,0,none⟩),.pointer (some ⟨ba,0,none⟩),.pointer (some ⟨bs,0,none⟩)] (blk bb [I64 (b)] 3::blk ba [.slice ra rows.length rc] 228::blk bs [.func (.func 286) #[] #[.pointer (some ⟨bb,0,none⟩),.pointer (some ⟨ba,0,none⟩),.pointer (some ⟨bs,0,none⟩)]] 312::I) (fun r J=>∃b':Int,r = .tuple #[]∧GrowR rows Wq size b b'∧(b'≤b∨b'≤64)∧J=blk bb [I64 (b')] 3::blk ba [.slice ra rows.length rc] 228::blk bs [.func (.func 286) #[] #[.pointer (some ⟨bb,0,none⟩),.pointer (some ⟨ba,0,none⟩),.pointer (some ⟨bs,0,none⟩)]] 312::I)
set_option maxHeartbeats 2000000 in
theorem Grow_step{bb ba bs:Nat}{ra:Option Addr}{rc n:Nat}{rows:List (BitVec 64)}(hr:Sl κ I (.slice ra rows.length rc) rows)(hS:SymB n rows){Wq:BitVec 64}{size b:Int}(ih:1≤(listB Wq).length→GrowC κ bb ba bs ra rc n rows ((listB Wq).length - 1))(hW:∀x∈listB Wq,x<n)(hsz:0≤size∧size+(listB Wq).length≤64)(hT:TabRd κ I 0 tzCells) :
    CallS Tryz.prog κ 286 [U64 (Wq),I64 (size),.pointer (some ⟨bb,0,none⟩),.pointer (some ⟨ba,0,none⟩),.pointer (some ⟨bs,0,none⟩)] (blk bb [I64 (b)] 3::blk ba [.slice ra rows.length rc] 228::blk bs [.func (.func 286) #[] #[.pointer (some ⟨bb,0,none⟩),.pointer (some ⟨ba,0,none⟩),.pointer (some ⟨bs,0,none⟩)]] 312::I) (fun r J=>∃b':Int,r = .tuple #[]∧GrowR rows Wq size b b'∧(b'≤b∨b'≤64)∧J=blk bb [I64 (b')] 3::blk ba [.slice ra rows.length rc] 228::blk bs [.func (.func 286) #[] #[.pointer (some ⟨bb,0,none⟩),.pointer (some ⟨ba,0,none⟩),.pointer (some ⟨bs,0,none⟩)]] 312::I):=by
 have hSl:=hS.len
 refine Ce5 Tryz.func286 rfl rfl ?_
 refine W.scope0 (l:=0) rfl ?_
 refine Ah (Gl ty3 ?_)
 refine Gm rfl (Gr (Et rfl rfl) ?_)
 have hmx:(if b<size then size else b)=max b size:=by split<;>omega
 rw [hmx]
 refine Ge0 (Ci (cs:=[_]) (vs:=[_]) (cs':=[_]) ty3) ?_
 refine Af (Ao (W.label ?_))
 refine Ai (Ax (Bx (σ:=(BitVec 64)×Int) (fun s=>([(0,U64 (s.1)),(1,I64 (size)),(2,.pointer (some ⟨bb,0,none⟩)),(3,.pointer (some ⟨ba,0,none⟩)),(4,.pointer (some ⟨bs,0,none⟩))]:Env)) (fun s=>blk bb [I64 (s.2)] 3::blk ba [.slice ra rows.length rc] 228::blk bs [.func (.func 286) #[] #[.pointer (some ⟨bb,0,none⟩),.pointer (some ⟨ba,0,none⟩),.pointer (some ⟨bs,0,none⟩)]] 312::I) (fun s=>(SrchI rows Wq s.1 size b s.2)∧(s.2≤b∨s.2≤64)) (fun s=>(listB s.1).length) (Wq,max b size) (show (SrchI rows Wq (Wq:BitVec 64) size b (max b size:Int))∧((max b size:Int)≤b∨(max b size:Int)≤64) from ⟨(SrchI.start rows Wq size b),om⟩) (Ac (Cz rfl (by first|rfl|simp)) (Ac rfl (Ac rfl (Ac rfl (Ac rfl Bq))))) (show Fit κ _ (blk bb [I64 ((max b size))] 3::blk ba [.slice ra rows.length rc] 228::blk bs [.func (.func 286) #[] #[.pointer (some ⟨bb,0,none⟩),.pointer (some ⟨ba,0,none⟩),.pointer (some ⟨bs,0,none⟩)]] 312::I) from B7) ?_))
 rintro ⟨Aq,b1⟩ hp
 dsimp only at hp ⊢
 obtain ⟨hSr,hSb⟩:=hp
 have hop:=ones_pop Aq
 have hWA:=List.Nodup.length_le_of_subset (listB_nodup Aq) hSr.sub
 refine Ao (Ah (Gm rfl (Gr (D8 (a:=Aq) (b:=0#64) rfl rfl) (Af (A9 rfl (fun c12=>?_) (fun c12=>?_))))))
 ·refine A0 (Ai (Ax (Ao (Ao (Bo mixed (Bu (blk bb [I64 (b1)] 3::blk ba [.slice ra rows.length rc] 228::blk bs [.func (.func 286) #[] #[.pointer (some ⟨bb,0,none⟩),.pointer (some ⟨ba,0,none⟩),.pointer (some ⟨bs,0,none⟩)]] 312::I) 15 (Dr 0 rfl (Ad rfl) (Dr 1 rfl (Ad rfl) (Dr 4 rfl (Au ty3) ?_)))))))))
  refine Ds1 2 (Sc0 rfl (Am call271 rfl rfl (OnesCount_ok Aq)) ?_)
  refine Dr 3 rfl (Rad rfl rfl) (Dr 5 rfl (Dw rfl rfl) (Dr 6 rfl (Ad rfl) (D1 (d:=19) rfl (fun g19=>?_) (fun g19=>?_))))
  ·refine Dpo 7 rfl (Dpo 8 rfl (Dpo 9 rfl (Dpo 12 rfl (Dpo 10 rfl (Dpo 11 rfl (Dpo 13 rfl (Dr 14 rfl (Ap rfl rfl) (Dz (Ai (As (S6 27 0 1 2 3 4 rfl rfl rfl rfl rfl rfl) (Cl rfl (Bt (Ak (B8 rfl (Ak (A6 (V.jump_normal ?_)))))))))))))))))
   exact V.end0 rfl (blk bb [I64 (b1)] 3::blk ba [.slice ra rows.length rc] 228::blk bs [.func (.func 286) #[] #[.pointer (some ⟨bb,0,none⟩),.pointer (some ⟨ba,0,none⟩),.pointer (some ⟨bs,0,none⟩)]] 312::I) B7 ⟨b1,rfl,(by first|exact hSr.ones (by rw [←ones_pop];exact g19)|exact hSr.stop (fun X hX=>by have:=hbqb X hX;omega)|exact hSr.stop (fun X hX=>by have hA0:Aq=0#64:=Classical.not_not.1 c12;subst hA0;rw [hX.zero];have:=hSr.le;simp;omega)),hSb,rfl⟩
  ·refine Dro 7 rfl (Ad rfl) (Dro 8 rfl (Au ty228) ?_)
   refine Dro 9 rfl (Ad rfl) (Dro 12 rfl (Au ty3) ?_)
   refine Ds1 10 (Se rfl (Am call287 rfl rfl (CBound_ok (Bf hr) hS (Wq:=Aq) (fun x hx=>hW x (hSr.sub x hx)) (Cc hT A4))) ?_)
   rintro _ _ ⟨_,_,⟨qb1,rfl,hbqb1,hlqb1,rfl⟩,rfl,rfl⟩
   refine ⟨A4,?_⟩
   refine Dro 11 rfl (Rad rfl rfl) (Dro 13 rfl (Dw rfl rfl) (Dr 14 rfl (Av rfl rfl) (Dz (Ai (As (S6 27 0 1 2 3 4 rfl rfl rfl rfl rfl rfl) (A9 rfl (fun c27=>?_) (fun c27=>?_)))))))
   ·refine Bt (Ak (B8 rfl (Ak (A6 (V.jump_normal ?_)))))
    exact V.end0 rfl (blk bb [I64 (b1)] 3::blk ba [.slice ra rows.length rc] 228::blk bs [.func (.func 286) #[] #[.pointer (some ⟨bb,0,none⟩),.pointer (some ⟨ba,0,none⟩),.pointer (some ⟨bs,0,none⟩)]] 312::I) B7 ⟨b1,rfl,(by first|exact hSr.ones (by rw [←ones_pop];exact g19)|exact hSr.stop (fun X hX=>by have:=hbqb1 X hX;omega)|exact hSr.stop (fun X hX=>by have hA0:Aq=0#64:=Classical.not_not.1 c12;subst hA0;rw [hX.zero];have:=hSr.le;simp;omega)),hSb,rfl⟩
   ·refine A0 (Ai (Ah (Gm rfl (G.e (Am call234 rfl rfl (Tz_ok Aq (Cc hT A4))) ?_))))
    rintro _ _ ⟨_,_,⟨rfl,rfl⟩,rfl,rfl⟩
    refine Ga rfl ?_
    have hv0:=tzB_le (m:=Aq) c12
    generalize hvE:tzB Aq=v at hv0 ⊢
    obtain ⟨hvm,hvl⟩:=hv0
    have hvr:=listB_lt hvm
    have hvn:=hW v (hSr.sub v hvm)
    have hmin:=listB_minus hvm
    have hWl:=List.Nodup.length_le_of_subset (listB_nodup Aq) hSr.sub
    have hal:=List.Nodup.length_le_of_subset (listB_nodup ((Aq &&& ~~~(1#64 <<< v.toNat)) &&& at_ rows v)) (l₂:=listB (Aq &&& ~~~(1#64 <<< v.toNat))) (fun x hx=>(mem_andB.1 hx).1)
    refine Af (Ah (Gm rfl (Gm rfl (Gr (Ef (a:=1#64) rfl rfl om om) (Gr (Em (a:=Aq) (b:=(1#64) <<< (v).toNat) rfl rfl) (Ga rfl (Af (As (S6 0 7 1 2 3 4 rfl rfl rfl rfl rfl rfl) (Bo mixed (Bu (blk ba [.slice ra rows.length rc] 228::blk bs [.func (.func 286) #[] #[.pointer (some ⟨bb,0,none⟩),.pointer (some ⟨ba,0,none⟩),.pointer (some ⟨bs,0,none⟩)]] 312::I) 10 (Dr 0 rfl (Au ty312) ?_)))))))))))
    refine Dr 1 rfl (Ad rfl) (Dr 2 rfl (Au ty228) ?_)
    refine Dr 3 rfl (Ad rfl) (Dr 4 rfl (A8 (α:=(BitVec 64)) (xs:=rows) C1 ty175 rfl rfl (Bf hr) om om) (Dr 5 rfl (Cs (α:=(BitVec 64)) (xs:=rows) (u:=U64 ((at_ rows v))) ty175 rfl (Bf hr) om om rfl) (Dr 6 rfl (C0 (a:=Aq &&& ~~~((1#64) <<< (v).toNat)) (b:=(at_ rows v)) rfl rfl) (Dr 7 rfl (Ad rfl) (Dr 8 rfl (Rad rfl rfl) (Ds1 9 (Se rfl (Cr (first:=[]) (caps:=[.pointer (some ⟨bb,0,none⟩),.pointer (some ⟨ba,0,none⟩),.pointer (some ⟨bs,0,none⟩)]) call286 rfl rfl rfl (Cn (show Fit κ _ (blk bb [I64 (b1)] 3::blk ba [.slice ra rows.length rc] 228::blk bs [.func (.func 286) #[] #[.pointer (some ⟨bb,0,none⟩),.pointer (some ⟨ba,0,none⟩),.pointer (some ⟨bs,0,none⟩)]] 312::I) from B7) ((ih om) (I) ((Aq &&& ~~~((1#64) <<< (v).toNat)) &&& (at_ rows v)) (size+1) b1 (Bf hr) om (fun x hx=>hW x (hSr.sub x ((mem_minus hvr.1).1 (mem_andB.1 hx).1).1)) om (Cc hT A4)))) ?_)))))))
    rintro _ _ ⟨_,_,⟨bg2,rfl,hgbg2,hmbg2,rfl⟩,rfl,rfl⟩
    refine ⟨Ay,?_⟩
    exact Dz (Aj (B6 ((Aq &&& ~~~((1#64) <<< (v).toNat)),(bg2)) (by dsimp only;exact ⟨(hSr.step hvm hvl asm),om⟩)))
 ·refine Bt (Ak (Ak (A6 (V.jump_normal ?_))))
  exact V.end0 rfl (blk bb [I64 (b1)] 3::blk ba [.slice ra rows.length rc] 228::blk bs [.func (.func 286) #[] #[.pointer (some ⟨bb,0,none⟩),.pointer (some ⟨ba,0,none⟩),.pointer (some ⟨bs,0,none⟩)]] 312::I) B7 ⟨b1,rfl,(by first|exact hSr.ones (by rw [←ones_pop];exact g19)|exact hSr.stop (fun X hX=>by have:=hbqb1 X hX;omega)|exact hSr.stop (fun X hX=>by have hA0:Aq=0#64:=Classical.not_not.1 c12;subst hA0;rw [hX.zero];have:=hSr.le;simp;omega)),hSb,rfl⟩
theorem grow_all{κ:Ctx}{bb ba bs:Nat}{ra:Option Addr}{rc n:Nat}{rows:List (BitVec 64)}(hS:SymB n rows):∀N,GrowC κ bb ba bs ra rc n rows N:=fun N=>by
 induction N with
 |zero=>exact fun I Wq size b hr hN hW hs hT=>Grow_step hr hS (fun h=>absurd h om) hW hs hT
 |succ N ih=>exact fun I Wq size b hr hN hW hs hT=>Grow_step hr hS (fun h=>fun I' Wq' size' b' hr' hN'=>ih I' Wq' size' b' hr' om) hW hs hT
structure LongR (rows:List (BitVec 64)) (Wq:BitVec 64) (least m:Int):Prop where
 le:least≤m
 all:∀X,ClqIn rows Wq X→(X.length:Int)≤m
 real:m=least∨∃X,ClqIn rows Wq X∧m=X.length
theorem Longest_ok{ra:Option Addr}{rc n:Nat}{rows:List (BitVec 64)}(hr:Sl κ I (.slice ra rows.length rc) rows)(hS:SymB n rows){Wq:BitVec 64}{least:Int}(hW:∀x∈listB Wq,x<n)(hT:TabRd κ I 0 tzCells) :
    CallS Tryz.prog κ 243 [.slice ra rows.length rc,U64 (Wq),I64 (least)] I (fun r J=>∃m:Int,r=I64 m∧LongR rows Wq least m∧(m≤least∨m≤64)∧I=J):=by
 refine Ce3 Tryz.func243 rfl rfl ?_
 refine Ah (Ge1 (Bb (cs:=[_]) rfl rfl rfl) fun b1=>Ga rfl (Af (Ah (Gm rfl (Ge1 (A5 ty3 rfl) fun b2=>Ge0 (Ci (cs:=[_]) (vs:=[_]) (cs':=[_]) ty3) ?_)))))
 refine Af (Ah (Ge1 (A5 ty312 rfl) fun b3=>Af (Ah (Gr (Dv rfl rfl) (Ge0 (Ci (cs:=[_]) (vs:=[_]) (cs':=[_]) ty312) ?_)))))
 refine Af (Ah (Gl ty312 ?_))
 refine Gm rfl (G.e (Cr (first:=[]) (caps:=[.pointer (some ⟨b2,0,none⟩),.pointer (some ⟨b1,0,none⟩),.pointer (some ⟨b3,0,none⟩)]) call286 rfl rfl rfl (Cn (show Fit κ _ (blk b2 [I64 (least)] 3::blk b1 [.slice ra rows.length rc] 228::blk b3 [.func (.func 286) #[] #[.pointer (some ⟨b2,0,none⟩),.pointer (some ⟨b1,0,none⟩),.pointer (some ⟨b3,0,none⟩)]] 312::I) from B7) (grow_all hS (listB Wq).length (I) Wq 0 least (Bf hr) (Nat.le_refl _) hW (by have:=Ed Wq;omega) (Cc hT A4)))) ?_)
 rintro _ _ ⟨_,_,⟨bg4,rfl,hgR,hgm,rfl⟩,rfl,rfl⟩
 refine Af (Ah (Gl ty3 ?_))
 exact Ga rfl (Af (As (S1 6 rfl) (A2 (A7 rfl rfl (I) A4 ⟨bg4,rfl,⟨hgR.le,fun X hX=>by have:=hgR.all X hX;omega,hgR.real.imp id fun ⟨X,h1,h2⟩=>⟨X,h1,by omega⟩⟩,hgm,rfl⟩))))
end Go.Sl
