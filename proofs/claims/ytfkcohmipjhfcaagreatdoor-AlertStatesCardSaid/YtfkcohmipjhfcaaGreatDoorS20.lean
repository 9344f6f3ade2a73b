/- A part of the proofs of statements of this seat: contracts of functions, and the plain laws that they lean on. No conditions. -/
import Derived.Test.YtfkcohmipjhfcaaGreatDoorS19
set_option linter.unusedVariables false
set_option linter.unusedSimpArgs false
set_option linter.unusedSectionVars false
open Go.Proofs.Tryz (prog)
namespace Go.Sl
open Go.Proofs
set_option maxRecDepth 4000
variable {κ:Ctx}{I:List Item}
theorem BestR.frv{nd N D:Int}{es:List Pt}{B:BitVec 64}(h:BestR nd es N D B)(hG:GrOk nd es):FrV ⟨N,D⟩:=by
 by_cases hn:nd=0
 ·obtain ⟨h1,h2,_⟩:=h.none (checkG_ok.2 hG) hn
  subst h1 h2
  exact ⟨by decide,by decide,by decide,by decide,by decide⟩
 ·obtain ⟨x,y,hx,hy,e⟩:=(h.some (checkG_ok.2 hG) hn).red
  rw [e]
  exact mkF_val hx.1 om om om
theorem cmpF_ge{x y:Fr}:0<=cmpF x y↔y.num*x.den<=x.num*y.den:=by unfold cmpF;repeat (first|omega|split)
def densQ(nd:Int)(es:List Pt)(num den:Int):Prop:=if nd=0 then num<=0 else ∃W,subN nd W/\W≠0#64/\num*cntB W<=den*insE W es
theorem BestR.holds{nd N D num den:Int}{es:List Pt}{B:BitVec 64}(h:BestR nd es N D B)(hG:GrOk nd es)(hf:FrV ⟨num,den⟩):0<=cmpF ⟨N,D⟩ ⟨num,den⟩↔densQ nd es num den:=by
 rw [cmpF_ge]
 unfold densQ
 by_cases hn:nd=0
 ·obtain ⟨h1,h2,_⟩:=h.none (checkG_ok.2 hG) hn
  subst h1 h2
  rw [if_pos hn]
  show num*1<=0*den↔_
  omega
 ·rw [if_neg hn]
  have hd:=h.some (checkG_ok.2 hG) hn
  exact hd.dens.reach hd.den.1 hf.d0
theorem densG_frv{nd:Int}{es:List Pt}(hG:GrOk nd es)(set:List Int):FrV (densG nd es set):=by
 unfold densG
 rw [if_neg (λh=>h (checkG_ok.2 hG))]
 split
 ·exact ⟨by decide,by decide,by decide,by decide,by decide⟩
 ·rename_i hm
  have h1:=insideN_le nd es set
  have h2:=edges_le hG
  have h3:(meetL set (rangeI nd)).length<=1073741824:=by
   have hl:=dens_count (nd:=nd) (es:=es) set (λh=>h (checkG_ok.2 hG))
   have hb:=onesB_bd (maskB set &&& allB nd)
   omega
  exact mkF_val om om om om
theorem coreN_leng{nd:Int}{es:List Pt}(hG:GrOk nd es):(coreN nd es).length=nd.toNat:=by
 unfold coreN
 have hr:=hG.rng
 rw [if_neg (λh=>h (checkG_ok.2 hG)),coreL_len,rowsB_len]
 omega
def commG(nd:Int)(es:List Pt)(v lv:Int):List Int:=rchG nd es [v] (coreK nd es lv)
theorem rchG_len(nd:Int)(es:List Pt)(f s:List Int):(rchG nd es f s).length<=64:=by
 unfold rchG
 split
 ·simp
 ·exact listB_len _
theorem Comm_ok{nd v lv:Int}{ea:Option Addr}{ec:Nat}{es:List Pt}(hl:Sl κ I (.slice ea es.length ec) es)(hG:GrOk nd es)(hv:0<=v/\v<nd)(hT:TabRd κ I 0 tzCells):ep prog κ 59 [.agg #[e7 nd,.slice ea es.length ec],e7 v,e7 lv] I (λr J=>∃a c,r = .tuple #[.slice a (commG nd es v lv).length c,e7 0]/\J=vc 3 (.slice a (commG nd es v lv).length c) (commG nd es v lv)::I):=by
 refine Ce3 Tryz.func59 C C ?_
 refine Ah (Ge1 (Bc (cs:=[_,_]) C C C) λb1=>Ga C (Ga C (Af (Au (Ah (Gl2 ty48 ?_))))))
 refine Gc0 (Ao call83 C C (CheckGen_ok (Bh hl))) ?_
 refine Ga C (Af (Ah (Gm C (Gr (Be C C) (Af (A6 C (λc14=>?_) (λc14=>?_)))))))
 ·exact absurd (checkG_ok.2 hG) c14
 ·refine Ay (Aj (Au (Ah (Gm C (Gr (A9 C C) (Gm C (Ba (d:=18) C (λg18=>?_) (λg18=>?_))))))))
  ·omega
  ·refine e9 (Ad C) (e9 (Ab fld48_0 C) (e9 (As ef) ?_))
   refine e9 (B8 C C) (Gr (Al C C) (Af (Aq (S4 23 3 1 2 C C C C) (A6 C (λc23=>?_) (λc23=>?_)))))
   ·omega
   ·refine Ay (Aj (Ah (Gl2 ty48 ?_)))
    refine Gm C (G.e (Ao call109 C C (CCore_ok (nd:=nd) (lv:=lv) (Bh hl) (Cg hT A0))) ?_)
    rintro _ _ ⟨_,_,⟨ad2,cp3,rfl,rfl⟩,rfl,rfl⟩
    refine Gm C (Gr (A2 C C) (Gr (A2 C C) (Ga C (Ga C (Af (Au (Ah (Gm C (Gr (Be C C) (Af (Aq (S5 31 10 9 3 1 C C C C C) (A6 C (λc31=>?_) (λc31=>?_)))))))))))))
    ·exact absurd (checkG_ok.2 hG) c31
    ·refine Ay (Aj (Ah (Gl2 ty48 ?_)))
     refine Gm C (Ge1 (B0 (α:=Int) (cs:=[_]) (xs:=[v]) Ac ef C C dc dc C C C C) λad4=>?_)
     refine Gm C (Gc2 (Ao call110 C C (CReach_ok (nd:=nd) (Bh hl) Bg Bg (Cg hT A0))) λad5 cp6=>?_)
     exact Gr (A2 C C) (Gr (A2 C C) (Ga C (Ga C (Af (Aq (S2 7 6 C C) (Aw (Co C C C (vc 3 (.slice ad5 (rchG nd es ([v]:List Int) (coreK nd es lv)).length cp6) (commG nd es v lv)::I) B4 ⟨ad5,cp6,by rw [checkG_ok.2 hG]<;>rfl,rfl⟩)))))))
theorem Truss1_ok{kd no lv num den:Int}{sa:Option Addr}{n sc b:Nat}(hb:BlkRd κ I b [e7 kd,e7 no,e7 lv,.slice sa n sc,e7 num,e7 den] 42)(t:Int):ep prog κ 151 [e7 t,.pointer (some ⟨b,0,none⟩)] I (λr J=>r = .bool (decide (lv<=t))/\I=J):=by
 refine Ce2 Tryz.func151 C C ?_
 exact Ah (Ga C (Af (Ah (Gm C (Gf fld42_2 C (Gr (C7 ef C (C1 hb A0) C) (Gr (B8 C C) (Ga C (Af (Aw (A1 C C I A0 ⟨rfl,rfl⟩)))))))))))
theorem IndexFT_ok{v:Value}{ts:List Int}(hl:Sl κ I v ts){kd no lv num den:Int}{sa:Option Addr}{n sc b:Nat}(hb:BlkRd κ I b [e7 kd,e7 no,e7 lv,.slice sa n sc,e7 num,e7 den] 42):ep prog κ 223 [v,.func (.func 151) #[] #[.pointer (some ⟨b,0,none⟩)]] I (λr J=>∃y:Int,r=e7 y/\(0<=y↔∃t∈ts,lv<=t)/\I=J):=by
 refine B3 hl.le λhmax=>?_
 refine Ce2 Tryz.func223 C C ?_
 refine Ah (Ga C (Af (Au (Ah (Gm C (Gr (Bx (α:=Int) (xs:=ts) Ac C (Bh hl)) (Gm C (Af (A4 (Bu (σ:=Nat) (λs=>([(0,v),(1,.func (.func 151) #[] #[.pointer (some ⟨b,0,none⟩)]),(7,e7 ((ts.length:Nat):Int)),(8,e7 ((s:Nat):Int))]:Env)) (λs=>I) (λs=>(s<=ts.length)/\(∀j,j<s->¬lv<=e_ ts j)) (λs=>ts.length - s) 0 (show ((0:Nat)<=ts.length)/\(∀j,j<(0:Nat)->¬lv<=e_ ts j) from ⟨om,all_zero⟩) (Aa C (Aa C (Aa C (Aa B9 Bj)))) (show Fit κ _ I from A5) ?_))))))))))
 rintro k hp
 obtain ⟨hk,hn⟩:=hp
 refine Ah (Gr (A9 C C) (Af (Au (A6 C (λc9=>?_) (λc9=>?_)))))
 ·refine Ay (Aj (Au (A4 (Ah (Gm C (Ga C (Af (Ah (Gm C (Gm C (Gm C (Gr (A3 (α:=Int) (xs:=ts) Ac ef C C (Bh hl) om om) (Gr (Bz (xs:=ts) ef C (Bh hl) om om) (Gc0 (Ct call151 C C C (Truss1_ok (C1 hb A0) (e_ ts k))) ?_))))))))))))))
  refine Af (A6 C (λc16=>?_) (λc16=>?_))
  ·exact Ah (Gm C (Ga C (Af (Aq (S1 4 C) (Aw (Av (Ai (Ai (Av (Ai (A1 C C I A0 ⟨_,rfl,⟨λ_=>⟨_,Ca om om,c16⟩,λ_=>by omega⟩,rfl⟩)))))))))))
  ·exact Ay (Ak (Aj (Ax (Gr (Rad C C) (Gm C (Bd (B2 ((k+1)) ⟨om,(Dk hn c16)⟩)))))))
 ·exact Bs (Ap (Ap (A7 (Aj (Ah (Ga C (Af (Aw (A1 C C I A0 ⟨_,rfl,⟨λh=>absurd h dc,λ⟨t,ht,h2⟩=>by obtain ⟨q,hq,e⟩:=mem_atN ht;rw [e] at h2;exact absurd h2 (hn q om)⟩,rfl⟩)))))))))
theorem ContainsFT_ok{v:Value}{ts:List Int}(hl:Sl κ I v ts){kd no lv num den:Int}{sa:Option Addr}{n sc b:Nat}(hb:BlkRd κ I b [e7 kd,e7 no,e7 lv,.slice sa n sc,e7 num,e7 den] 42):ep prog κ 150 [v,.func (.func 151) #[] #[.pointer (some ⟨b,0,none⟩)]] I (λr J=>r = .bool (decide (∃t∈ts,lv<=t))/\I=J):=by
 refine Ce2 Tryz.func150 C C ?_
 refine Ah (Ga C (Af (Ah (Gm C (Gm C (G.e (Ao call223 C C (IndexFT_ok (Bh hl) (C1 hb A0))) ?_))))))
 rintro _ _ ⟨_,_,⟨y1,rfl,hy1,rfl⟩,rfl,rfl⟩
 exact Gr (B8 C C) (Ga C (Af (Aw (A1 C C I A0 ⟨by rw [decide_eq_decide.2 asm],rfl⟩))))
set_option maxHeartbeats 1000000 in
theorem Hold1_ok{nd:Int}{ea sa:Option Addr}{ec sc:Nat}{es:List Pt}{xs:List Int}(hl:Sl κ I (.slice ea es.length ec) es)(hs:Sl κ I (.slice sa xs.length sc) xs)(hG:GrOk nd es){no lv:Int}(hno:0<=no/\no<nd)(hT:TabRd κ I 0 tzCells):ep prog κ 144 [.agg #[e7 nd,.slice ea es.length ec],.agg #[e7 1,e7 no,e7 lv,.slice sa xs.length sc,e7 0,e7 0]] I (λr J=>∃t:Bool,r = .bool t/\(t=true↔lv<=e_ (coreN nd es) no)/\I=J):=by
 have hcn:=coreN_leng hG
 have hrng:=hG.rng
 refine Ce2 Tryz.func144 C C ?_
 refine Ah (Ge1 (Bc (cs:=[_,_]) C C C) λb1=>Ge1 (Bc (cs:=[_,_,_,_,_,_]) C C C) λb2=>Ga C (Af (Ah (Gl2 ty48 ?_))))
 refine Gc2 (Ao call104 C C (CNumbers_ok (nd:=nd) (Bh hl) (Cg hT A0))) λad3 cp4=>?_
 refine Gm C (Gr (A2 C C) (Gr (A2 C C) (Ga C (Ga C (Af (Au (Bl mixed (Br (vc 3 (.slice ad3 (coreN nd es).length cp4) (coreN nd es)::e8 b2 [e7 1,e7 no,e7 lv,.slice sa xs.length sc,e7 0,e7 0] 42::e8 b1 [e7 nd,.slice ea es.length ec] 48::I) 13 (Dr 0 C (Ad C) (Dr 1 C (Bi C C) (Dr 2 C (Ad C) (C9 (d:=14) C (λg14=>?_) (λg14=>?_)))))))))))))
 ·refine Dro 3 C (Ad C) (Dro 4 C (Ab fld42_1 C) (Dro 5 C (As ef) ?_))
  refine Dro 6 C (A3 (α:=Int) (xs:=coreN nd es) Ac ef C C Bg om om) (Dro 7 C (Bz (xs:=coreN nd es) ef C Bg om om) (Dro 8 C (Ab fld42_2 C) (Dro 9 C (As ef) ?_)))
  exact Dro 10 C (B8 C C) (Dr 11 C (Am C C) (Dr 12 C (Bb C) (Dz (Aj (Aq (S1 4 C) (Aw (A1 C C I A0 ⟨decide (lv<=(e_ (coreN nd es) no)),rfl,by rw [decide_eq_true_iff],rfl⟩)))))))
 ·exact absurd (checkG_ok.2 hG) g14
set_option maxHeartbeats 1000000 in
theorem Hold2_ok{nd:Int}{ea sa:Option Addr}{ec sc:Nat}{es:List Pt}{xs:List Int}(hl:Sl κ I (.slice ea es.length ec) es)(hs:Sl κ I (.slice sa xs.length sc) xs)(hG:GrOk nd es){num den:Int}(hf:FrV ⟨num,den⟩)(hT:TabRd κ I 0 tzCells):ep prog κ 145 [.agg #[e7 nd,.slice ea es.length ec],.agg #[e7 2,e7 0,e7 0,.slice sa xs.length sc,e7 num,e7 den]] I (λr J=>∃t:Bool,r = .bool t/\(t=true↔densQ nd es num den)/\I=J):=by
 refine Ce2 Tryz.func145 C C ?_
 refine Ah (Ge1 (Bc (cs:=[_,_]) C C C) λb1=>Ge1 (Bc (cs:=[_,_,_,_,_,_]) C C C) λb2=>Ga C (Af (Ah (Gl2 ty48 ?_))))
 refine G.e (Ao call100 C C (BestD_ok (nd:=nd) (Bh hl) (Cg hT A0))) ?_
 rintro _ _ ⟨_,_,⟨ad3,cp4,Bqq7,ad5,cp6,ptq7,Nqq7,Dqq7,Eqq7,rfl,hBR,rfl⟩,rfl,rfl⟩
 have hfv:=hBR.frv hG
 refine Gm C (Gr (A2 C C) (Gr (A2 C C) (Ge1 (A8 ty102 C) λb8=>Ge0 (Es ty102) ?_)))
 refine Ga C (Af (Ah (Gm C (Gr (Bi C C) (Gm C (Ba (d:=14) C (λg14=>?_) (λg14=>?_)))))))
 ·refine e9 (Ab fld102_1 C) (e9 (Bq (vs:=[_,_]) ty40) ?_)
  refine e9 (Ab fld42_4 C) (e9 (Bq (vs:=[_,_]) ty40) ?_)
  refine Ec (Cq C C C) (Ao call101 C C (RatCmp_ok (⟨Nqq7,Dqq7⟩:Fr) (⟨num,den⟩:Fr) asm asm)) ?_
  rintro _ _ ⟨_,_,⟨rfl,rfl⟩,rfl,rfl⟩
  exact e9 (B8 C C) (Gr (Am C C) (Ga C (Af (Aq (S1 4 C) (Aw (A1 C C I A0 ⟨decide (0<=(cmpF (⟨Nqq7,Dqq7⟩:Fr) (⟨num,den⟩:Fr))),rfl,by rw [decide_eq_true_iff];exact hBR.holds hG hf,rfl⟩))))))
 ·exact absurd (checkG_ok.2 hG) g14
set_option maxHeartbeats 1000000 in
theorem Hold3_ok{nd:Int}{ea sa:Option Addr}{ec sc:Nat}{es:List Pt}{xs:List Int}(hl:Sl κ I (.slice ea es.length ec) es)(hs:Sl κ I (.slice sa xs.length sc) xs)(hG:GrOk nd es){num den:Int}(hx:0<xs.length/\xs.length<=64)(hval:ValidP xs nd)(hf:FrV ⟨num,den⟩)(hT:TabRd κ I 0 tzCells):ep prog κ 146 [.agg #[e7 nd,.slice ea es.length ec],.agg #[e7 3,e7 0,e7 0,.slice sa xs.length sc,e7 num,e7 den]] I (λr J=>∃t:Bool,r = .bool t/\(t=true↔0<=cmpF (densG nd es xs) ⟨num,den⟩)/\I=J):=by
 refine Ce2 Tryz.func146 C C ?_
 refine Ah (Ge1 (Bc (cs:=[_,_]) C C C) λb1=>Ge1 (Bc (cs:=[_,_,_,_,_,_]) C C C) λb2=>Ga C (Af (Ah (Gl2 ty48 ?_))))
 refine Gf fld42_3 C (Gl ty22 ?_)
 refine Gc0 (Ao call147 C C (DensityG_ok (nd:=nd) (Bh hl) (Bh hs) (by have:=edges_le hG;omega))) ?_
 refine Gm C (Gr (A2 C C) (Gr (A2 C C) (Ge1 (A8 ty40 C) λb3=>Ge0 (Cd ty40) ?_)))
 refine Ga C (Af (Aq (S3 6 5 3 C C C) (Ah (Gm C (Gr (Bi C C) (Gm C (Ba (d:=16) C (λg16=>?_) (λg16=>?_))))))))
 ·refine e9 (Bq (vs:=[_,_]) ty40) ?_
  refine e9 (Ab fld42_4 C) (e9 (Bq (vs:=[_,_]) ty40) ?_)
  refine Ec (Cq C C C) (Ao call101 C C (RatCmp_ok (densG nd es xs) (⟨num,den⟩:Fr) (densG_frv hG xs) asm)) ?_
  rintro _ _ ⟨_,_,⟨rfl,rfl⟩,rfl,rfl⟩
  exact e9 (B8 C C) (Gr (Am C C) (Ga C (Af (Aq (S1 4 C) (Aw (A1 C C I A0 ⟨decide (0<=(cmpF (densG nd es xs) (⟨num,den⟩:Fr))),rfl,by rw [decide_eq_true_iff],rfl⟩))))))
 ·exact absurd (checkG_ok.2 hG) g16
set_option maxHeartbeats 1000000 in
theorem Hold4_ok{nd:Int}{ea sa:Option Addr}{ec sc:Nat}{es:List Pt}{xs:List Int}(hl:Sl κ I (.slice ea es.length ec) es)(hs:Sl κ I (.slice sa xs.length sc) xs)(hG:GrOk nd es){lv:Int}(hT:TabRd κ I 0 tzCells):ep prog κ 148 [.agg #[e7 nd,.slice ea es.length ec],.agg #[e7 4,e7 0,e7 lv,.slice sa xs.length sc,e7 0,e7 0]] I (λr J=>∃t:Bool,r = .bool t/\(t=true↔∃t∈trussG nd es,lv<=t)/\I=J):=by
 have hbE:es.length<=1000000:=by have:=edges_le hG;omega
 refine Ce2 Tryz.func148 C C ?_
 refine Ah (Ge1 (Bc (cs:=[_,_]) C C C) λb1=>Ge1 (Bc (cs:=[_,_,_,_,_,_]) C C C) λb2=>Ga C (Af (Ah (Gl2 ty48 ?_))))
 refine G.e (Ao call149 C C (TNumbers_ok (nd:=nd) (Bh hl) om (Cg hT A0))) ?_
 rintro _ _ ⟨_,_,⟨ad3,cp4,rfl,rfl⟩,rfl,rfl⟩
 refine Gm C (Gr (A2 C C) (Gr (A2 C C) (Ga C (Ga C (Af (Ah (Gm C (Gr (Bi C C) (Gm C (Ba (d:=14) C (λg14=>?_) (λg14=>?_)))))))))))
 ·refine e9 (Ad C) (e9 (D8 C C) (Ec (Cq C C C) (Ao call150 C C (ContainsFT_ok Bg (Dv mm))) ?_))
  rintro _ _ ⟨_,_,⟨rfl,rfl⟩,rfl,rfl⟩
  exact Gr (Am C C) (Ga C (Af (Aq (S1 4 C) (Aw (A1 C C I A0 ⟨decide (∃t∈(trussG nd es),lv<=t),rfl,by rw [decide_eq_true_iff],rfl⟩)))))
 ·exact absurd (checkG_ok.2 hG) g14
set_option maxHeartbeats 1000000 in
theorem Hold5_ok{nd:Int}{ea sa:Option Addr}{ec sc:Nat}{es:List Pt}{xs:List Int}(hl:Sl κ I (.slice ea es.length ec) es)(hs:Sl κ I (.slice sa xs.length sc) xs)(hG:GrOk nd es){lv:Int}(hx:0<xs.length/\xs.length<=64)(hval:ValidP xs nd)(hT:TabRd κ I 0 tzCells):ep prog κ 152 [.agg #[e7 nd,.slice ea es.length ec],.agg #[e7 5,e7 0,e7 lv,.slice sa xs.length sc,e7 0,e7 0]] I (λr J=>∃t:Bool,r = .bool t/\(t=true↔∀x∈xs,x∈commG nd es (e_ xs 0) lv)/\I=J):=by
 refine Ce2 Tryz.func152 C C ?_
 refine Ah (Ge1 (Bc (cs:=[_,_]) C C C) λb1=>Ge1 (Bc (cs:=[_,_,_,_,_,_]) C C C) λb2=>Ga C (Af (Au (Bl mixed (Br (e8 b2 [e7 5,e7 0,e7 lv,.slice sa xs.length sc,e7 0,e7 0] 42::e8 b1 [e7 nd,.slice ea es.length ec] 48::I) 13 (Dr 0 C (Bq (vs:=[_,_]) ty48) ?_))))))
 refine Dr 1 C (Ab fld42_3 C) (Dr 2 C (As ty22) ?_)
 refine Dr 3 C (A3 (α:=Int) (xs:=xs) Ac ef C C (Bh hs) om om) (Dr 4 C (Bz (xs:=xs) ef C (Bh hs) om om) (Dr 5 C (Ab fld42_2 C) (Dr 6 C (As ef) ?_)))
 refine Ds1 7 (Se C (Ao call59 C C (Comm_ok (nd:=nd) (v:=e_ xs 0) (lv:=lv) (Bh hl) hG (by have h:=(hval 0 om).1;exact h) (Cg hT A0))) ?_)
 rintro _ _ ⟨_,_,⟨ad3,cp4,rfl,rfl⟩,rfl,rfl⟩
 refine ⟨A5,?_⟩
 refine Dr 8 C (Ad C) (Dr 9 C (A2 C C) (Dr 10 C (A2 C C) (Dr 11 C (Bb C) (Dr 12 C (Bb C) (Dz (Aj (Aq (S3 6 5 3 C C C) (Ah (Gm C (Gr (Bi C C) (Gm C (Ba (d:=20) C (λg20=>?_) (λg20=>?_)))))))))))))
 ·refine e9 (Ab fld42_3 C) (e9 (As ty22) ?_)
  refine e9 (Ad C) (Ec (Cq C C C) (Ao call102 C C (WithinI_ok (Bh hs) Bg om (by have:=rchG_len nd es [e_ xs 0] (coreK nd es lv);show (rchG _ _ _ _).length<=_;omega))) ?_)
  rintro _ _ ⟨_,_,⟨rfl,rfl⟩,rfl,rfl⟩
  exact Gr (Am C C) (Ga C (Af (Aw (A1 C C I A0 ⟨decide (∀x∈xs,x∈(commG nd es (e_ xs 0) lv)),rfl,by rw [decide_eq_true_iff],rfl⟩))))
 ·exact absurd rfl g20
end Go.Sl
namespace Go.Sl
structure Rg where
 tm:Int
 al:Int
 on:Bool
deriving DecidableEq
instance:Inhabited Rg:=⟨⟨0,0,false⟩⟩
def ring1(t:Int)(h:Nat->Bool)(st:List Bool×List Rg)(i:Nat):List Bool×List Rg:=if h i=e_ st.1 i then st else (st.1.set i (h i),st.2++[⟨t,(i:Int),h i⟩])
def ringK(t:Int)(h:Nat->Bool)(k:Nat)(st:List Bool×List Rg):List Bool×List Rg:=(List.range k).foldl (ring1 t h) st
def ringS(H:Int->Nat->Bool)(n:Nat)(ts:List Int):List Bool×List Rg:=ts.foldl (λst t=>ringK t (H t) n st) (List.replicate n false,[])
theorem ringK_succ(t:Int)(h:Nat->Bool)(k:Nat)(st:List Bool×List Rg):ringK t h (k+1) st=ring1 t h (ringK t h k st) k:=by
 unfold ringK;rw [List.range_succ,List.foldl_append];rfl
theorem ringS_take{H:Int->Nat->Bool}{n:Nat}{ts:List Int}{k:Nat}(hk:k<ts.length):ringS H n (ts.take (k+1))=ringK (e_ ts k) (H (e_ ts k)) n (ringS H n (ts.take k)):=by
 unfold ringS;rw [take_at ts k hk,List.foldl_append];rfl
def relR(p:Nat->Bool)(t:Int)(h:Nat->Bool)(n:Nat):List Rg:=((List.range n).filter fun (i:Nat)=>h i !=p i).map fun (i:Nat)=>(⟨t,(i:Int),h i⟩:Rg)
def relA(H:Int->Nat->Bool)(n:Nat):(Nat->Bool)->List Int->List Rg
 |_,[]=>[]
 |p,t::ts=>relR p t (H t) n++relA H n (H t) ts
theorem ringK_eq(t:Int)(h:Nat->Bool){n:Nat}{on:List Bool}{out:List Rg}(hl:on.length=n){p:Nat->Bool}(hp:∀i,i<n->e_ on i=p i):∀k,k<=n->
  (ringK t h k (on,out)).1.length=n/\(∀i,i<n->e_ (ringK t h k (on,out)).1 (i:Int)=if i<k then h i else p i)/\(ringK t h k (on,out)).2=out++relR p t h k
 |0,_=>⟨hl,λi hi=>by rw [if_neg (by omega)];exact hp i hi,by simp [ringK,relR]⟩
 |k+1,hk=>by
  obtain ⟨h1,h2,h3⟩:=ringK_eq t h (out:=out) hl hp k (by omega)
  have h2k:=h2 k (by omega)
  rw [if_neg (by omega)] at h2k
  rw [ringK_succ]
  unfold ring1
  have hr:relR p t h (k+1)=relR p t h k++if h k !=p k then [⟨t,(k:Int),h k⟩] else []:=by
   unfold relR
   rw [List.range_succ,List.filter_append,List.map_append]
   congr 1
   cases hc:(h k !=p k)<;>simp [List.filter_cons,hc]
  by_cases he:h k=e_ (ringK t h k (on,out)).1 (k:Int)
  ·rw [if_pos he]
   rw [h2k] at he
   refine ⟨h1,λi hi=>?_,?_⟩
   ·rw [h2 i hi]
    by_cases hik:i=k
    ·subst hik;rw [if_neg (by omega),if_pos (by omega)];exact he.symm
    ·by_cases hlt:i<k
     ·rw [if_pos hlt,if_pos (by omega)]
     ·rw [if_neg hlt,if_neg (by omega)]
   ·rw [h3,hr,he];simp
  ·rw [if_neg he]
   rw [h2k] at he
   refine ⟨by rw [List.length_set];exact h1,λi hi=>?_,?_⟩
   ·show e_ ((ringK t h k (on,out)).1.set k (h k)) (i:Int)=_
    rw [at_setn _ _ _ _ (by rw [h1];omega)]
    by_cases hik:k=i
    ·subst hik;rw [if_pos rfl,if_pos (by omega)]
    ·rw [if_neg hik,h2 i hi]
     by_cases hlt:i<k
     ·rw [if_pos hlt,if_pos (by omega)]
     ·rw [if_neg hlt,if_neg (by omega)]
   ·show (ringK t h k (on,out)).2++_=_
    rw [h3,hr,List.append_assoc]
    have hb:(h k !=p k)=true:=by simpa using he
    rw [if_pos hb]
theorem ringS_from(H:Int->Nat->Bool)(n:Nat):∀(ts:List Int) (on:List Bool) (out:List Rg) (p:Nat->Bool),on.length=n->(∀i,i<n->e_ on i=p i)->(ts.foldl (λst t=>ringK t (H t) n st) (on,out)).2=out++relA H n p ts
 |[],on,out,p,_,_=>by simp [relA]
 |t::ts,on,out,p,hl,hp=>by
  obtain ⟨h1,h2,h3⟩:=ringK_eq t (H t) (out:=out) hl hp n (Nat.le_refl _)
  rw [List.foldl_cons]
  have h4:=ringS_from H n ts (ringK t (H t) n (on,out)).1 (ringK t (H t) n (on,out)).2 (H t) h1 λi hi=>by rw [h2 i hi,if_pos hi]
  rw [Prod.eta] at h4
  rw [h4,h3,List.append_assoc];rfl
theorem ringS_eq(H:Int->Nat->Bool)(n:Nat)(ts:List Int):(ringS H n ts).2=relA H n (λ_=>false) ts:=by
 unfold ringS
 rw [ringS_from H n ts _ [] (λ_=>false) List.length_replicate λi hi=>at_rep _ _ _ (by omega) (by omega)];rfl
theorem mem_relR{p:Nat->Bool}{t:Int}{h:Nat->Bool}{n:Nat}{r:Rg}:r∈relR p t h n↔∃i,i<n/\(h i !=p i)=true/\r=⟨t,(i:Int),h i⟩:=by
 unfold relR
 rw [List.mem_map]
 constructor
 ·rintro ⟨i,hi,rfl⟩
  have:=List.mem_filter.1 hi
  exact ⟨i,List.mem_range.1 this.1,this.2,rfl⟩
 ·rintro ⟨i,h1,h2,rfl⟩
  exact ⟨i,List.mem_filter.2 ⟨List.mem_range.2 h1,h2⟩,rfl⟩
theorem relA_time(H:Int->Nat->Bool)(n:Nat):∀(ts:List Int) (p:Nat->Bool),∀r∈relA H n p ts,r.tm∈ts/\0<=r.al/\r.al<n
 |[],p,r,hr=>by cases hr
 |t::ts,p,r,hr=>by
  rcases List.mem_append.1 hr with hr|hr
  ·obtain ⟨i,hi,_,rfl⟩:=mem_relR.1 hr
   exact ⟨List.mem_cons_self,by show (0:Int)<=(i:Int);omega,by show (i:Int)<n;omega⟩
  ·obtain ⟨h1,h2⟩:=relA_time H n ts _ r hr
   exact ⟨List.mem_cons_of_mem _ h1,h2⟩
end Go.Sl
namespace Go.Sl
open Go.Proofs
set_option maxRecDepth 4000
structure AlV where
 kd:Int
 no:Int
 lv:Int
 a:Option Addr
 c:Nat
 xs:List Int
 num:Int
 den:Int
instance:Inhabited AlV:=⟨⟨0,0,0,none,0,[],0,0⟩⟩
instance:Enc AlV:=⟨λr=>[e7 r.kd,e7 r.no,e7 r.lv,.slice r.a r.xs.length r.c,e7 r.num,e7 r.den],6,by omega,λ_=>rfl,λr u hu=>by
 simp only [List.mem_cons,List.not_mem_nil,or_false] at hu
 rcases hu with rfl|rfl|rfl|rfl|rfl|rfl<;>rfl⟩
def AlV.cells(x:AlV):Value:= .agg #[e7 x.kd,e7 x.no,e7 x.lv,.slice x.a x.xs.length x.c,e7 x.num,e7 x.den]
structure AlOk (n:Int) (x:AlV):Prop where
 kind:1<=x.kd/\x.kd<=5
 k1:x.kd=1->(0<=x.no/\x.no<n)/\(0<=x.lv/\x.lv<=64)/\x.xs=[]/\x.num=0/\x.den=0
 k2:x.kd=2->x.no=0/\x.lv=0/\x.xs=[]/\FrV ⟨x.num,x.den⟩
 k3:x.kd=3->x.no=0/\x.lv=0/\(0<x.xs.length/\x.xs.length<=64)/\ValidP x.xs n/\FrV ⟨x.num,x.den⟩
 k4:x.kd=4->x.no=0/\(0<=x.lv/\x.lv<=64)/\x.xs=[]/\x.num=0/\x.den=0
 k5:x.kd=5->x.no=0/\(0<=x.lv/\x.lv<=64)/\(0<x.xs.length/\x.xs.length<=64)/\ValidP x.xs n/\x.num=0/\x.den=0
def condP(nd:Int)(es:List Pt)(x:AlV):Prop:=
 if x.kd=1 then x.lv<=e_ (coreN nd es) x.no else if x.kd=2 then densQ nd es x.num x.den else if x.kd=3 then 0<=cmpF (densG nd es x.xs) ⟨x.num,x.den⟩
 else if x.kd=4 then ∃t∈trussG nd es,x.lv<=t else ∀y∈x.xs,y∈commG nd es (e_ x.xs 0) x.lv
noncomputable def holdV(nd:Int)(es:List Pt)(x:AlV):Bool:= @decide (condP nd es x) (Classical.propDecidable _)
theorem holdV_iff(nd:Int)(es:List Pt)(x:AlV):holdV nd es x=true↔condP nd es x:=by unfold holdV;exact @decide_eq_true_iff _ (Classical.propDecidable _)
def fK(kd:Int):FuncId:=if kd=1 then 144 else if kd=2 then 145 else if kd=3 then 146 else if kd=4 then 148 else 152
def kindV(kd:Int):Value:= .agg #[.bool (decide (kd=1)),.bool (decide (kd=1\/kd=4\/kd=5)),.bool (decide (kd=3\/kd=5)),.bool (decide (kd=2\/kd=3)),.func (.func (fK kd)) #[] #[]]
theorem fieldK(a b c d f:Value)(w:World):(Instr.field 132 (.agg #[a,b,c,d,f]) 4).run prog w = .ok f w:=by kernel_rfl
theorem fK_call{kd:Int}(h:1<=kd/\kd<=5):callable prog (fK kd)=true:=by
 obtain h|h|h|h|h:kd=1\/kd=2\/kd=3\/kd=4\/kd=5:=by omega
 all_goals subst h
 ·exact call144
 ·exact call145
 ·exact call146
 ·exact call148
 ·exact call152
section
variable {P:Program}{κ:Ctx}{N:Frm}{L:Env}{J:List Item}{d:Option Tmp}{ty:TypeId}{ps:String}{af:Array Edge}{gd:Option (Nat×Bool)}
theorem Runs.eqFn{x y:Operand}{T U:TypeId}{f:FuncId}(hT:∀w:World,(binOp .eql T (.func (.func f) #[] #[]) .nilFunc).run P w = .ok (.bool false) w)(hx:eo L x=some (.func (.func f) #[] #[]))(hy:eo L y=some .nilFunc) :
  Runs P κ N ⟨d,.binOp .eql T x y U,ty,ps,af,gd⟩ L J (.bool false):=λa w ha _=>by
 have hg:(eqGuard .eql T x y (.func (.func f) #[] #[]) .nilFunc).run P w = .ok () w:=by simp [eqGuard]
 simp only [execOp,ha.eval hx,ha.eval hy]
 simp [hg,hT w]
theorem Runs.fieldV{x:Operand}{T:TypeId}{k:Nat}{v u:Value}(hT:∀w:World,(Instr.field T v k).run P w = .ok u w)(hx:eo L x=some v):Runs P κ N ⟨d,.field T x k,ty,ps,af,gd⟩ L J u:=λa w ha _=>by
 simp only [execOp,ha.eval hx]
 simp [hT w]
end
theorem Of1_ok{κ:Ctx}{I:List Item}  :
    ep prog κ 81 [e7 1] I (λr J=>r = .agg #[.bool true,.bool true,.bool false,.bool false,.func (.func 144) #[] #[]]/\I=J):=by
 refine Ce1 Tryz.func81 C C ?_
 refine Ah (Ge1 (A8 ty132 C) λb1=>Af (Au (Ah (Gm C (Af (A4 (Ah (Gr (Bi C C) (Ga C (Af (A6 C (λc4=>?_) (λc4=>?_))))))))))))
 ·refine Ah (Gr (Bf (cells:=[_,_,_,_,_]) ty132 Ea pl132 C C) (Ge0 (Es ty132) ?_))
  exact Af (Aw (Av (Ai (Db C ty132 C mm C I A0 ⟨rfl,rfl⟩))))
 ·exact absurd rfl c4
theorem Of2_ok{κ:Ctx}{I:List Item}  :
    ep prog κ 81 [e7 2] I (λr J=>r = .agg #[.bool false,.bool false,.bool false,.bool true,.func (.func 145) #[] #[]]/\I=J):=by
 refine Ce1 Tryz.func81 C C ?_
 refine Ah (Ge1 (A8 ty132 C) λb1=>Af (Au (Ah (Gm C (Af (A4 (Ah (Gr (Bi C C) (Ga C (Af (A6 C (λc4=>?_) (λc4=>?_))))))))))))
 ·exact absurd c4 dc
 ·refine Ah (Gr (Bi C C) (Ga C (Af (A6 C (λc7=>?_) (λc7=>?_)))))
  ·refine Ah (Gr (Bf (cells:=[_,_,_,_,_]) ty132 Ea pl132 C C) (Ge0 (Es ty132) ?_))
   exact Af (Aw (Av (Ai (Db C ty132 C mm C I A0 ⟨rfl,rfl⟩))))
  ·exact absurd rfl c7
theorem Of3_ok{κ:Ctx}{I:List Item}  :
    ep prog κ 81 [e7 3] I (λr J=>r = .agg #[.bool false,.bool false,.bool true,.bool true,.func (.func 146) #[] #[]]/\I=J):=by
 refine Ce1 Tryz.func81 C C ?_
 refine Ah (Ge1 (A8 ty132 C) λb1=>Af (Au (Ah (Gm C (Af (A4 (Ah (Gr (Bi C C) (Ga C (Af (A6 C (λc4=>?_) (λc4=>?_))))))))))))
 ·exact absurd c4 dc
 ·refine Ah (Gr (Bi C C) (Ga C (Af (A6 C (λc7=>?_) (λc7=>?_)))))
  ·exact absurd c7 dc
  ·refine Ah (Gr (Bi C C) (Ga C (Af (A6 C (λc10=>?_) (λc10=>?_)))))
   ·refine Ah (Gr (Bf (cells:=[_,_,_,_,_]) ty132 Ea pl132 C C) (Ge0 (Es ty132) ?_))
    exact Af (Aw (Av (Ai (Db C ty132 C mm C I A0 ⟨rfl,rfl⟩))))
   ·exact absurd rfl c10
theorem Of4_ok{κ:Ctx}{I:List Item}  :
    ep prog κ 81 [e7 4] I (λr J=>r = .agg #[.bool false,.bool true,.bool false,.bool false,.func (.func 148) #[] #[]]/\I=J):=by
 refine Ce1 Tryz.func81 C C ?_
 refine Ah (Ge1 (A8 ty132 C) λb1=>Af (Au (Ah (Gm C (Af (A4 (Ah (Gr (Bi C C) (Ga C (Af (A6 C (λc4=>?_) (λc4=>?_))))))))))))
 ·exact absurd c4 dc
 ·refine Ah (Gr (Bi C C) (Ga C (Af (A6 C (λc7=>?_) (λc7=>?_)))))
  ·exact absurd c7 dc
  ·refine Ah (Gr (Bi C C) (Ga C (Af (A6 C (λc10=>?_) (λc10=>?_)))))
   ·exact absurd c10 dc
   ·refine Ah (Gr (Bi C C) (Ga C (Af (A6 C (λc13=>?_) (λc13=>?_)))))
    ·refine Ah (Gr (Bf (cells:=[_,_,_,_,_]) ty132 Ea pl132 C C) (Ge0 (Es ty132) ?_))
     exact Af (Aw (Av (Ai (Db C ty132 C mm C I A0 ⟨rfl,rfl⟩))))
    ·exact absurd rfl c13
theorem Of5_ok{κ:Ctx}{I:List Item}  :
    ep prog κ 81 [e7 5] I (λr J=>r = .agg #[.bool false,.bool true,.bool true,.bool false,.func (.func 152) #[] #[]]/\I=J):=by
 refine Ce1 Tryz.func81 C C ?_
 refine Ah (Ge1 (A8 ty132 C) λb1=>Af (Au (Ah (Gm C (Af (A4 (Ah (Gr (Bi C C) (Ga C (Af (A6 C (λc4=>?_) (λc4=>?_))))))))))))
 ·exact absurd c4 dc
 ·refine Ah (Gr (Bi C C) (Ga C (Af (A6 C (λc7=>?_) (λc7=>?_)))))
  ·exact absurd c7 dc
  ·refine Ah (Gr (Bi C C) (Ga C (Af (A6 C (λc10=>?_) (λc10=>?_)))))
   ·exact absurd c10 dc
   ·refine Ah (Gr (Bi C C) (Ga C (Af (A6 C (λc13=>?_) (λc13=>?_)))))
    ·exact absurd c13 dc
    ·refine Ah (Gr (Bi C C) (Ga C (Af (A6 C (λc16=>?_) (λc16=>?_)))))
     ·refine Ah (Gr (Bf (cells:=[_,_,_,_,_]) ty132 Ea pl132 C C) (Ge0 (Es ty132) ?_))
      exact Af (Aq (S1 2 C) (Aw (Av (Ai (Db C ty132 C mm C I A0 ⟨rfl,rfl⟩)))))
     ·exact absurd rfl c16
theorem OfAny_ok{κ:Ctx}{I:List Item}{kd:Int}(h:1<=kd/\kd<=5):ep prog κ 81 [e7 kd] I λr J=>r=kindV kd/\I=J:=by
 obtain h|h|h|h|h:kd=1\/kd=2\/kd=3\/kd=4\/kd=5:=by omega
 all_goals subst h
 ·exact Of1_ok
 ·exact Of2_ok
 ·exact Of3_ok
 ·exact Of4_ok
 ·exact Of5_ok
set_option maxHeartbeats 1000000 in
theorem Check1_ok{κ:Ctx}{I:List Item}{n:Int}{sa:Option Addr}{sc:Nat}{xs:List Int}(hs:Sl κ I (.slice sa xs.length sc) xs){no lv:Int}(hno:0<=no/\no<n)(hlv:0<=lv/\lv<=64)(hx:xs.length=0):ep prog κ 37 [.agg #[e7 1,e7 no,e7 lv,.slice sa xs.length sc,e7 0,e7 0],e7 n] I (λr J=>r=e7 0/\I=J):=by
 refine Ce2 Tryz.func37 C C ?_
 refine Ah (Ge1 (Bc (cs:=[_,_,_,_,_,_]) C C C) λb1=>Ga C (Af (Ah (Gf fld42_0 C (Gl ef ?_)))))
 refine G.e (Ao call81 C C Of1_ok) ?_
 rintro _ _ ⟨_,_,⟨rfl,rfl⟩,rfl,rfl⟩
 refine Ge1 (A8 ty132 C) λb2=>Ge0 (Es ty132) ?_
 refine Af (Au (A4 (Ah (Gf fld132_4 C (Gl ty130 ?_)))))
 refine Gr (Runs.eqFn (λw=>by kernel_rfl) C C) (Ga C (Af (C2 C (Ah (Gf fld132_0 C (Gl ty4 ?_))))))
 refine Gm C (e9 (Ab fld42_1 C) (e9 (As ef) ?_))
 refine e9 (A9 C C) (e9 (Ad C) (Ba (d:=20) C (λg20=>?_) (λg20=>?_)))
 ·refine eb (eb (eb (eb (e9 (Am C C) (Gr (Am C C) (Gm C (eb (eb (eb (ee (ee (ee (ee (ee (ee (ee (ee (ee (ee (ee (eb (Gr (Am C C) (Ga C (Af (Aq (S3 13 5 2 C C C) (B7 C (Ah (Ga C (Af (Aw (Av (Ai ?_))))))))))))))))))))))))))))))))
  first|(exfalso;omega)|(exfalso;exact absurd hval asm)|(exfalso;exact absurd rfl asm)|contradiction|(exfalso;simp_all;done)
 ·refine e9 (Ab fld42_1 C) (e9 (As ef) ?_)
  refine e9 (Ad C) (e9 (B8 C C) (e9 (Al C C) (Gr (Am C C) (Gm C (Ba (d:=27) C (λg27=>?_) (λg27=>?_))))))
  ·refine eb (eb (eb (ee (ee (ee (ee (ee (ee (ee (ee (ee (ee (ee (eb (Gr (Am C C) (Ga C (Af (Aq (S3 13 5 2 C C C) (B7 C (Ah (Ga C (Af (Aw (Av (Ai ?_)))))))))))))))))))))))))
   first|(exfalso;omega)|(exfalso;exact absurd hval asm)|(exfalso;exact absurd rfl asm)|contradiction|(exfalso;simp_all;done)
  ·refine e9 (Ab fld132_2 C) (e9 (As ty4) ?_)
   refine e9 (Ad C) (eb (eb (eb (eb (eb (ee (ee (ee (ee (ee (eb (e9 (Al C C) (Gr (Al C C) (Ga C (Af (Aq (S3 13 5 2 C C C) (C2 C (Ah (Gf fld132_1 C (Gl ty4 ?_))))))))))))))))))))
   refine Gm C (e9 (Ab fld42_2 C) (e9 (As ef) ?_))
   refine e9 (A9 C C) (e9 (Ad C) (Ba (d:=51) C (λg51=>?_) (λg51=>?_)))
   ·refine eb (eb (eb (e9 (Am C C) (Gr (Am C C) (Gm C (eb (eb (eb (ee (ee (ee (ee (ee (ee (ee (ee (ee (ee (eb (Gr (Am C C) (Ga C (Af (Aq (S3 44 5 2 C C C) (B7 C (Ah (Ga C (Af (Aw (Av (Ai ?_))))))))))))))))))))))))))))))
    first|(exfalso;omega)|(exfalso;exact absurd hval asm)|(exfalso;exact absurd rfl asm)|contradiction|(exfalso;simp_all;done)
   ·refine e9 (Ab fld42_2 C) (e9 (As ef) ?_)
    refine e9 (Bv C C) (e9 (Al C C) (Gr (Am C C) (Gm C (Ba (d:=57) C (λg57=>?_) (λg57=>?_)))))
    ·refine eb (eb (eb (ee (ee (ee (ee (ee (ee (ee (ee (ee (ee (eb (Gr (Am C C) (Ga C (Af (Aq (S3 44 5 2 C C C) (B7 C (Ah (Ga C (Af (Aw (Av (Ai ?_))))))))))))))))))))))))
     first|(exfalso;omega)|(exfalso;exact absurd hval asm)|(exfalso;exact absurd rfl asm)|contradiction|(exfalso;simp_all;done)
    ·refine e9 (Ab fld132_3 C) (e9 (As ty4) ?_)
     refine e9 (Ad C) (eb (eb (eb (eb (eb (ee (ee (ee (ee (eb (e9 (Al C C) (Gr (Al C C) (Ga C (Af (Aq (S3 44 5 2 C C C) (C2 C (Ah (Gf fld132_0 C (Gl ty4 ?_)))))))))))))))))))
     refine Gr (Cb C) (Gm C (eb (eb (eb (Gr (Al C C) (Gm C (e9 (Ab fld132_2 C) (e9 (As ty4) ?_))))))))
     refine e9 (Cb C) (e9 (Ad C) (e9 (Ab fld42_3 C) (e9 (As ty22) ?_)))
     refine e9 (Bm Ac C) (e9 (Bv C C) (e9 (Am C C) (Gr (Al C C) (Gm C (Ba (d:=93) C (λg93=>?_) (λg93=>?_))))))
     ·refine eb (eb (eb (eb (ee (ee (ee (eb (Gr (Am C C) (Gm C (eb (eb (eb (eb (ee (ee (ee (ee (eb (Gr (Am C C) (Ga C (Af (Aq (S1 73 C) (B7 C (Ah (Ga C (Af (Aw (Av (Ai ?_)))))))))))))))))))))))))))))
      first|(exfalso;omega)|(exfalso;exact absurd hval asm)|(exfalso;exact absurd rfl asm)|contradiction|(exfalso;simp_all;done)
     ·refine e9 (Ab fld132_1 C) (e9 (As ty4) ?_)
      refine e9 (Cb C) (e9 (Ad C) (eb (eb (eb (e9 (Al C C) (Gr (Al C C) (Gm C (e9 (Ab fld132_3 C) (e9 (As ty4) ?_)))))))))
      refine e9 (Cb C) (e9 (Ad C) (e9 (Ab fld42_4 C) (e9 (Bq (vs:=[_,_]) ty40) ?_)))
      refine e9 (Bf (cells:=[_,_]) ty40 Ch pl40 C C) (e9 (Runs.neqT (α:=Fr) (a:=(⟨0,0⟩:Fr)) (b:=(⟨0,0⟩:Fr)) eqt40 C C) (e9 (Am C C) (Gr (Al C C) (Ga C (Af (Aq (S1 73 C) (A6 C (λc73=>?_) (λc73=>?_))))))))
      ·refine Ah (Ga C (Af (Aw (Av (Ai ?_)))))
       first|(exfalso;omega)|(exfalso;exact absurd hval asm)|(exfalso;exact absurd rfl asm)|contradiction|(exfalso;simp_all;done)
      ·exact Ay (Ak (Aj (Ah (Ga C (Af (Aw (A1 C C I A0 ⟨rfl,rfl⟩)))))))
set_option maxHeartbeats 1000000 in
theorem Check2_ok{κ:Ctx}{I:List Item}{n:Int}{sa:Option Addr}{sc:Nat}{xs:List Int}(hs:Sl κ I (.slice sa xs.length sc) xs){num den:Int}(hx:xs.length=0)(hf:FrV ⟨num,den⟩):ep prog κ 37 [.agg #[e7 2,e7 0,e7 0,.slice sa xs.length sc,e7 num,e7 den],e7 n] I (λr J=>r=e7 0/\I=J):=by
 have hfn:0<=num:=hf.n0
 refine Ce2 Tryz.func37 C C ?_
 refine Ah (Ge1 (Bc (cs:=[_,_,_,_,_,_]) C C C) λb1=>Ga C (Af (Ah (Gf fld42_0 C (Gl ef ?_)))))
 refine Gc0 (Ao call81 C C Of2_ok) ?_
 refine Ge1 (A8 ty132 C) λb2=>Ge0 (Es ty132) ?_
 refine Af (Au (A4 (Ah (Gf fld132_4 C (Gl ty130 ?_)))))
 refine Gr (Runs.eqFn (λw=>by kernel_rfl) C C) (Ga C (Af (C2 C (Ah (Gf fld132_0 C (Gl ty4 ?_))))))
 refine Gm C (eb (eb (eb (eb (ee (ee (ee (ee (eb (Gr (Al C C) (Gm C (e9 (Ab fld132_2 C) (e9 (As ty4) ?_)))))))))))))
 refine e9 (Ad C) (eb (eb (eb (eb (eb (ee (ee (ee (ee (ee (eb (e9 (Al C C) (Gr (Al C C) (Ga C (Af (Aq (S3 13 5 2 C C C) (C2 C (Ah (Gf fld132_1 C (Gl ty4 ?_))))))))))))))))))))
 refine Gm C (eb (eb (eb (eb (ee (ee (ee (eb (Gr (Al C C) (Gm C (e9 (Ab fld132_3 C) (e9 (As ty4) ?_))))))))))))
 refine e9 (Ad C) (e9 (Ab fld42_4 C) (e9 (Bq (vs:=[_,_]) ty40) ?_))
 refine Ec (Cq C C C) (Ao call89 C C (RatValid_ok (⟨num,den⟩:Fr) asm)) ?_
 rintro _ _ ⟨_,_,⟨rfl,rfl⟩,rfl,rfl⟩
 refine e9 (Cb C) (e9 (Ad C) (e9 (Ab fld42_4 C) (e9 (Ab fld40_0 C) (e9 (As ef) ?_))))
 refine e9 (A9 C C) (e9 (Al C C) (e9 (Am C C) (Gr (Al C C) (Ga C (Af (Aq (S3 44 5 2 C C C) (A6 C (λc44=>?_) (λc44=>?_))))))))
 ·refine Ah (Ga C (Af (Aw (Av (Ai ?_)))))
  first|(exfalso;omega)|(exfalso;exact absurd hval asm)|(exfalso;exact absurd rfl asm)|contradiction|(exfalso;simp_all;done)
 ·refine Ah (Gf fld132_0 C (Gl ty4 ?_))
  refine Gr (Cb C) (Gm C (e9 (Ab fld42_1 C) (e9 (As ef) ?_)))
  refine e9 (Be C C) (Gr (Am C C) (Gm C (Ba (d:=82) C (λg82=>?_) (λg82=>?_))))
  ·refine eb (eb (eb (eb (ee (ee (ee (ee (eb (Gr (Am C C) (Gm C (eb (eb (eb (eb (ee (ee (ee (eb (Gr (Am C C) (Gm C (eb (eb (eb (eb (ee (ee (ee (ee (eb (Gr (Am C C) (Ga C (Af (Aq (S1 73 C) (B7 C (Ah (Ga C (Af (Aw (Av (Ai ?_))))))))))))))))))))))))))))))))))))))))
   first|(exfalso;omega)|(exfalso;exact absurd hval asm)|(exfalso;exact absurd rfl asm)|contradiction|(exfalso;simp_all;done)
  ·refine e9 (Ab fld132_2 C) (e9 (As ty4) ?_)
   refine e9 (Cb C) (e9 (Ad C) (e9 (Ab fld42_3 C) (e9 (As ty22) ?_)))
   refine e9 (Bm Ac C) (e9 (Bv C C) (e9 (Am C C) (Gr (Al C C) (Gm C (Ba (d:=93) C (λg93=>?_) (λg93=>?_))))))
   ·refine eb (eb (eb (eb (ee (ee (ee (eb (Gr (Am C C) (Gm C (eb (eb (eb (eb (ee (ee (ee (ee (eb (Gr (Am C C) (Ga C (Af (Aq (S1 73 C) (B7 C (Ah (Ga C (Af (Aw (Av (Ai ?_)))))))))))))))))))))))))))))
    first|(exfalso;omega)|(exfalso;exact absurd hval asm)|(exfalso;exact absurd rfl asm)|contradiction|(exfalso;simp_all;done)
   ·refine e9 (Ab fld132_1 C) (e9 (As ty4) ?_)
    refine e9 (Cb C) (e9 (Ad C) (e9 (Ab fld42_2 C) (e9 (As ef) ?_)))
    refine e9 (Be C C) (e9 (Am C C) (Gr (Al C C) (Gm C (Ba (d:=103) C (λg103=>?_) (λg103=>?_)))))
    ·refine eb (eb (eb (eb (ee (ee (ee (ee (eb (Gr (Am C C) (Ga C (Af (Aq (S1 73 C) (B7 C (Ah (Ga C (Af (Aw (Av (Ai ?_)))))))))))))))))))
     first|(exfalso;omega)|(exfalso;exact absurd hval asm)|(exfalso;exact absurd rfl asm)|contradiction|(exfalso;simp_all;done)
    ·refine e9 (Ab fld132_3 C) (e9 (As ty4) ?_)
     exact e9 (Cb C) (e9 (Ad C) (eb (eb (eb (eb (e9 (Al C C) (Gr (Al C C) (Ga C (Af (Aq (S1 73 C) (C2 C (Ay (Ak (Aj (Ah (Ga C (Af (Aw (A1 C C I A0 ⟨rfl,rfl⟩)))))))))))))))))))
set_option maxHeartbeats 1000000 in
theorem Check3_ok{κ:Ctx}{I:List Item}{n:Int}{sa:Option Addr}{sc:Nat}{xs:List Int}(hs:Sl κ I (.slice sa xs.length sc) xs){num den:Int}(hx:0<xs.length)(hval:ValidP xs n)(hf:FrV ⟨num,den⟩):ep prog κ 37 [.agg #[e7 3,e7 0,e7 0,.slice sa xs.length sc,e7 num,e7 den],e7 n] I (λr J=>r=e7 0/\I=J):=by
 have hfn:0<=num:=hf.n0
 refine Ce2 Tryz.func37 C C ?_
 refine Ah (Ge1 (Bc (cs:=[_,_,_,_,_,_]) C C C) λb1=>Ga C (Af (Ah (Gf fld42_0 C (Gl ef ?_)))))
 refine Gc0 (Ao call81 C C Of3_ok) ?_
 refine Ge1 (A8 ty132 C) λb2=>Ge0 (Es ty132) ?_
 refine Af (Au (A4 (Ah (Gf fld132_4 C (Gl ty130 ?_)))))
 refine Gr (Runs.eqFn (λw=>by kernel_rfl) C C) (Ga C (Af (C2 C (Ah (Gf fld132_0 C (Gl ty4 ?_))))))
 refine Gm C (eb (eb (eb (eb (ee (ee (ee (ee (eb (Gr (Al C C) (Gm C (e9 (Ab fld132_2 C) (e9 (As ty4) ?_)))))))))))))
 refine e9 (Ad C) (e9 (Ab fld42_3 C) (e9 (As ty22) ?_))
 refine e9 (Bm Ac C) (e9 (Bi C C) (e9 (Ad C) (Ba (d:=35) C (λg35=>?_) (λg35=>?_))))
 ·refine eb (eb (eb (eb (eb (e9 (Am C C) (e9 (Am C C) (Gr (Al C C) (Ga C (Af (Aq (S3 13 5 2 C C C) (B7 C (Ah (Ga C (Af (Aw (Av (Ai ?_)))))))))))))))))
  first|(exfalso;omega)|(exfalso;exact absurd hval asm)|(exfalso;exact absurd rfl asm)|contradiction|(exfalso;simp_all;done)
 ·refine e9 (Ab fld42_3 C) (e9 (As ty22) ?_)
  refine e9 (Ad C) (Ec (Cq C C C) (Ao call88 C C (NValid_ok (Bh hs) n)) ?_)
  rintro _ _ ⟨_,_,⟨rfl,rfl⟩,rfl,rfl⟩
  refine e9 (C0 C) (e9 (Al C C) (e9 (Am C C) (Gr (Al C C) (Ga C (Af (Aq (S3 13 5 2 C C C) (A6 C (λc13=>?_) (λc13=>?_))))))))
  ·refine Ah (Ga C (Af (Aw (Av (Ai ?_)))))
   first|(exfalso;omega)|(exfalso;exact absurd hval asm)|(exfalso;exact absurd rfl asm)|contradiction|(exfalso;simp_all;done)
  ·refine Ah (Gf fld132_1 C (Gl ty4 ?_))
   refine Gm C (eb (eb (eb (eb (ee (ee (ee (eb (Gr (Al C C) (Gm C (e9 (Ab fld132_3 C) (e9 (As ty4) ?_))))))))))))
   refine e9 (Ad C) (e9 (Ab fld42_4 C) (e9 (Bq (vs:=[_,_]) ty40) ?_))
   refine Ec (Cq C C C) (Ao call89 C C (RatValid_ok (⟨num,den⟩:Fr) asm)) ?_
   rintro _ _ ⟨_,_,⟨rfl,rfl⟩,rfl,rfl⟩
   refine e9 (Cb C) (e9 (Ad C) (e9 (Ab fld42_4 C) (e9 (Ab fld40_0 C) (e9 (As ef) ?_))))
   refine e9 (A9 C C) (e9 (Al C C) (e9 (Am C C) (Gr (Al C C) (Ga C (Af (Aq (S3 44 5 2 C C C) (A6 C (λc44=>?_) (λc44=>?_))))))))
   ·refine Ah (Ga C (Af (Aw (Av (Ai ?_)))))
    first|(exfalso;omega)|(exfalso;exact absurd hval asm)|(exfalso;exact absurd rfl asm)|contradiction|(exfalso;simp_all;done)
   ·refine Ah (Gf fld132_0 C (Gl ty4 ?_))
    refine Gr (Cb C) (Gm C (e9 (Ab fld42_1 C) (e9 (As ef) ?_)))
    refine e9 (Be C C) (Gr (Am C C) (Gm C (Ba (d:=82) C (λg82=>?_) (λg82=>?_))))
    ·refine eb (eb (eb (eb (ee (ee (ee (ee (eb (Gr (Am C C) (Gm C (eb (eb (eb (eb (ee (ee (ee (eb (Gr (Am C C) (Gm C (eb (eb (eb (eb (ee (ee (ee (ee (eb (Gr (Am C C) (Ga C (Af (Aq (S1 73 C) (B7 C (Ah (Ga C (Af (Aw (Av (Ai ?_))))))))))))))))))))))))))))))))))))))))
     first|(exfalso;omega)|(exfalso;exact absurd hval asm)|(exfalso;exact absurd rfl asm)|contradiction|(exfalso;simp_all;done)
    ·refine e9 (Ab fld132_2 C) (e9 (As ty4) ?_)
     refine e9 (Cb C) (e9 (Ad C) (eb (eb (eb (eb (e9 (Al C C) (Gr (Al C C) (Gm C (e9 (Ab fld132_1 C) (e9 (As ty4) ?_))))))))))
     refine e9 (Cb C) (e9 (Ad C) (e9 (Ab fld42_2 C) (e9 (As ef) ?_)))
     refine e9 (Be C C) (e9 (Am C C) (Gr (Al C C) (Gm C (Ba (d:=103) C (λg103=>?_) (λg103=>?_)))))
     ·refine eb (eb (eb (eb (ee (ee (ee (ee (eb (Gr (Am C C) (Ga C (Af (Aq (S1 73 C) (B7 C (Ah (Ga C (Af (Aw (Av (Ai ?_)))))))))))))))))))
      first|(exfalso;omega)|(exfalso;exact absurd hval asm)|(exfalso;exact absurd rfl asm)|contradiction|(exfalso;simp_all;done)
     ·refine e9 (Ab fld132_3 C) (e9 (As ty4) ?_)
      exact e9 (Cb C) (e9 (Ad C) (eb (eb (eb (eb (e9 (Al C C) (Gr (Al C C) (Ga C (Af (Aq (S1 73 C) (C2 C (Ay (Ak (Aj (Ah (Ga C (Af (Aw (A1 C C I A0 ⟨rfl,rfl⟩)))))))))))))))))))
set_option maxHeartbeats 1000000 in
theorem Check4_ok{κ:Ctx}{I:List Item}{n:Int}{sa:Option Addr}{sc:Nat}{xs:List Int}(hs:Sl κ I (.slice sa xs.length sc) xs){lv:Int}(hlv:0<=lv/\lv<=64)(hx:xs.length=0):ep prog κ 37 [.agg #[e7 4,e7 0,e7 lv,.slice sa xs.length sc,e7 0,e7 0],e7 n] I (λr J=>r=e7 0/\I=J):=by
 refine Ce2 Tryz.func37 C C ?_
 refine Ah (Ge1 (Bc (cs:=[_,_,_,_,_,_]) C C C) λb1=>Ga C (Af (Ah (Gf fld42_0 C (Gl ef ?_)))))
 refine Gc0 (Ao call81 C C Of4_ok) ?_
 refine Ge1 (A8 ty132 C) λb2=>Ge0 (Es ty132) ?_
 refine Af (Au (A4 (Ah (Gf fld132_4 C (Gl ty130 ?_)))))
 refine Gr (Runs.eqFn (λw=>by kernel_rfl) C C) (Ga C (Af (C2 C (Ah (Gf fld132_0 C (Gl ty4 ?_))))))
 refine Gm C (eb (eb (eb (eb (ee (ee (ee (ee (eb (Gr (Al C C) (Gm C (e9 (Ab fld132_2 C) (e9 (As ty4) ?_)))))))))))))
 refine e9 (Ad C) (eb (eb (eb (eb (eb (ee (ee (ee (ee (ee (eb (e9 (Al C C) (Gr (Al C C) (Ga C (Af (Aq (S3 13 5 2 C C C) (C2 C (Ah (Gf fld132_1 C (Gl ty4 ?_))))))))))))))))))))
 refine Gm C (e9 (Ab fld42_2 C) (e9 (As ef) ?_))
 refine e9 (A9 C C) (e9 (Ad C) (Ba (d:=51) C (λg51=>?_) (λg51=>?_)))
 ·refine eb (eb (eb (e9 (Am C C) (Gr (Am C C) (Gm C (eb (eb (eb (ee (ee (ee (ee (ee (ee (ee (ee (ee (ee (eb (Gr (Am C C) (Ga C (Af (Aq (S3 44 5 2 C C C) (B7 C (Ah (Ga C (Af (Aw (Av (Ai ?_))))))))))))))))))))))))))))))
  first|(exfalso;omega)|(exfalso;exact absurd hval asm)|(exfalso;exact absurd rfl asm)|contradiction|(exfalso;simp_all;done)
 ·refine e9 (Ab fld42_2 C) (e9 (As ef) ?_)
  refine e9 (Bv C C) (e9 (Al C C) (Gr (Am C C) (Gm C (Ba (d:=57) C (λg57=>?_) (λg57=>?_)))))
  ·refine eb (eb (eb (ee (ee (ee (ee (ee (ee (ee (ee (ee (ee (eb (Gr (Am C C) (Ga C (Af (Aq (S3 44 5 2 C C C) (B7 C (Ah (Ga C (Af (Aw (Av (Ai ?_))))))))))))))))))))))))
   first|(exfalso;omega)|(exfalso;exact absurd hval asm)|(exfalso;exact absurd rfl asm)|contradiction|(exfalso;simp_all;done)
  ·refine e9 (Ab fld132_3 C) (e9 (As ty4) ?_)
   refine e9 (Ad C) (eb (eb (eb (eb (eb (ee (ee (ee (ee (eb (e9 (Al C C) (Gr (Al C C) (Ga C (Af (Aq (S3 44 5 2 C C C) (C2 C (Ah (Gf fld132_0 C (Gl ty4 ?_)))))))))))))))))))
   refine Gr (Cb C) (Gm C (e9 (Ab fld42_1 C) (e9 (As ef) ?_)))
   refine e9 (Be C C) (Gr (Am C C) (Gm C (Ba (d:=82) C (λg82=>?_) (λg82=>?_))))
   ·refine eb (eb (eb (eb (ee (ee (ee (ee (eb (Gr (Am C C) (Gm C (eb (eb (eb (eb (ee (ee (ee (eb (Gr (Am C C) (Gm C (eb (eb (eb (eb (ee (ee (ee (ee (eb (Gr (Am C C) (Ga C (Af (Aq (S1 73 C) (B7 C (Ah (Ga C (Af (Aw (Av (Ai ?_))))))))))))))))))))))))))))))))))))))))
    first|(exfalso;omega)|(exfalso;exact absurd hval asm)|(exfalso;exact absurd rfl asm)|contradiction|(exfalso;simp_all;done)
   ·refine e9 (Ab fld132_2 C) (e9 (As ty4) ?_)
    refine e9 (Cb C) (e9 (Ad C) (e9 (Ab fld42_3 C) (e9 (As ty22) ?_)))
    refine e9 (Bm Ac C) (e9 (Bv C C) (e9 (Am C C) (Gr (Al C C) (Gm C (Ba (d:=93) C (λg93=>?_) (λg93=>?_))))))
    ·refine eb (eb (eb (eb (ee (ee (ee (eb (Gr (Am C C) (Gm C (eb (eb (eb (eb (ee (ee (ee (ee (eb (Gr (Am C C) (Ga C (Af (Aq (S1 73 C) (B7 C (Ah (Ga C (Af (Aw (Av (Ai ?_)))))))))))))))))))))))))))))
     first|(exfalso;omega)|(exfalso;exact absurd hval asm)|(exfalso;exact absurd rfl asm)|contradiction|(exfalso;simp_all;done)
    ·refine e9 (Ab fld132_1 C) (e9 (As ty4) ?_)
     refine e9 (Cb C) (e9 (Ad C) (eb (eb (eb (e9 (Al C C) (Gr (Al C C) (Gm C (e9 (Ab fld132_3 C) (e9 (As ty4) ?_)))))))))
     refine e9 (Cb C) (e9 (Ad C) (e9 (Ab fld42_4 C) (e9 (Bq (vs:=[_,_]) ty40) ?_)))
     refine e9 (Bf (cells:=[_,_]) ty40 Ch pl40 C C) (e9 (Runs.neqT (α:=Fr) (a:=(⟨0,0⟩:Fr)) (b:=(⟨0,0⟩:Fr)) eqt40 C C) (e9 (Am C C) (Gr (Al C C) (Ga C (Af (Aq (S1 73 C) (A6 C (λc73=>?_) (λc73=>?_))))))))
     ·refine Ah (Ga C (Af (Aw (Av (Ai ?_)))))
      first|(exfalso;omega)|(exfalso;exact absurd hval asm)|(exfalso;exact absurd rfl asm)|contradiction|(exfalso;simp_all;done)
     ·exact Ay (Ak (Aj (Ah (Ga C (Af (Aw (A1 C C I A0 ⟨rfl,rfl⟩)))))))
set_option maxHeartbeats 1000000 in
theorem Check5_ok{κ:Ctx}{I:List Item}{n:Int}{sa:Option Addr}{sc:Nat}{xs:List Int}(hs:Sl κ I (.slice sa xs.length sc) xs){lv:Int}(hlv:0<=lv/\lv<=64)(hx:0<xs.length)(hval:ValidP xs n):ep prog κ 37 [.agg #[e7 5,e7 0,e7 lv,.slice sa xs.length sc,e7 0,e7 0],e7 n] I (λr J=>r=e7 0/\I=J):=by
 refine Ce2 Tryz.func37 C C ?_
 refine Ah (Ge1 (Bc (cs:=[_,_,_,_,_,_]) C C C) λb1=>Ga C (Af (Ah (Gf fld42_0 C (Gl ef ?_)))))
 refine Gc0 (Ao call81 C C Of5_ok) ?_
 refine Ge1 (A8 ty132 C) λb2=>Ge0 (Es ty132) ?_
 refine Af (Au (A4 (Ah (Gf fld132_4 C (Gl ty130 ?_)))))
 refine Gr (Runs.eqFn (λw=>by kernel_rfl) C C) (Ga C (Af (C2 C (Ah (Gf fld132_0 C (Gl ty4 ?_))))))
 refine Gm C (eb (eb (eb (eb (ee (ee (ee (ee (eb (Gr (Al C C) (Gm C (e9 (Ab fld132_2 C) (e9 (As ty4) ?_)))))))))))))
 refine e9 (Ad C) (e9 (Ab fld42_3 C) (e9 (As ty22) ?_))
 refine e9 (Bm Ac C) (e9 (Bi C C) (e9 (Ad C) (Ba (d:=35) C (λg35=>?_) (λg35=>?_))))
 ·refine eb (eb (eb (eb (eb (e9 (Am C C) (e9 (Am C C) (Gr (Al C C) (Ga C (Af (Aq (S3 13 5 2 C C C) (B7 C (Ah (Ga C (Af (Aw (Av (Ai ?_)))))))))))))))))
  first|(exfalso;omega)|(exfalso;exact absurd hval asm)|(exfalso;exact absurd rfl asm)|contradiction|(exfalso;simp_all;done)
 ·refine e9 (Ab fld42_3 C) (e9 (As ty22) ?_)
  refine e9 (Ad C) (Ec (Cq C C C) (Ao call88 C C (NValid_ok (Bh hs) n)) ?_)
  rintro _ _ ⟨_,_,⟨rfl,rfl⟩,rfl,rfl⟩
  refine e9 (C0 C) (e9 (Al C C) (e9 (Am C C) (Gr (Al C C) (Ga C (Af (Aq (S3 13 5 2 C C C) (A6 C (λc13=>?_) (λc13=>?_))))))))
  ·refine Ah (Ga C (Af (Aw (Av (Ai ?_)))))
   first|(exfalso;omega)|(exfalso;exact absurd hval asm)|(exfalso;exact absurd rfl asm)|contradiction|(exfalso;simp_all;done)
  ·refine Ah (Gf fld132_1 C (Gl ty4 ?_))
   refine Gm C (e9 (Ab fld42_2 C) (e9 (As ef) ?_))
   refine e9 (A9 C C) (e9 (Ad C) (Ba (d:=51) C (λg51=>?_) (λg51=>?_)))
   ·refine eb (eb (eb (e9 (Am C C) (Gr (Am C C) (Gm C (eb (eb (eb (ee (ee (ee (ee (ee (ee (ee (ee (ee (ee (eb (Gr (Am C C) (Ga C (Af (Aq (S3 44 5 2 C C C) (B7 C (Ah (Ga C (Af (Aw (Av (Ai ?_))))))))))))))))))))))))))))))
    first|(exfalso;omega)|(exfalso;exact absurd hval asm)|(exfalso;exact absurd rfl asm)|contradiction|(exfalso;simp_all;done)
   ·refine e9 (Ab fld42_2 C) (e9 (As ef) ?_)
    refine e9 (Bv C C) (e9 (Al C C) (Gr (Am C C) (Gm C (Ba (d:=57) C (λg57=>?_) (λg57=>?_)))))
    ·refine eb (eb (eb (ee (ee (ee (ee (ee (ee (ee (ee (ee (ee (eb (Gr (Am C C) (Ga C (Af (Aq (S3 44 5 2 C C C) (B7 C (Ah (Ga C (Af (Aw (Av (Ai ?_))))))))))))))))))))))))
     first|(exfalso;omega)|(exfalso;exact absurd hval asm)|(exfalso;exact absurd rfl asm)|contradiction|(exfalso;simp_all;done)
    ·refine e9 (Ab fld132_3 C) (e9 (As ty4) ?_)
     refine e9 (Ad C) (eb (eb (eb (eb (eb (ee (ee (ee (ee (eb (e9 (Al C C) (Gr (Al C C) (Ga C (Af (Aq (S3 44 5 2 C C C) (C2 C (Ah (Gf fld132_0 C (Gl ty4 ?_)))))))))))))))))))
     refine Gr (Cb C) (Gm C (e9 (Ab fld42_1 C) (e9 (As ef) ?_)))
     refine e9 (Be C C) (Gr (Am C C) (Gm C (Ba (d:=82) C (λg82=>?_) (λg82=>?_))))
     ·refine eb (eb (eb (eb (ee (ee (ee (ee (eb (Gr (Am C C) (Gm C (eb (eb (eb (eb (ee (ee (ee (eb (Gr (Am C C) (Gm C (eb (eb (eb (eb (ee (ee (ee (ee (eb (Gr (Am C C) (Ga C (Af (Aq (S1 73 C) (B7 C (Ah (Ga C (Af (Aw (Av (Ai ?_))))))))))))))))))))))))))))))))))))))))
      first|(exfalso;omega)|(exfalso;exact absurd hval asm)|(exfalso;exact absurd rfl asm)|contradiction|(exfalso;simp_all;done)
     ·refine e9 (Ab fld132_2 C) (e9 (As ty4) ?_)
      refine e9 (Cb C) (e9 (Ad C) (eb (eb (eb (eb (e9 (Al C C) (Gr (Al C C) (Gm C (e9 (Ab fld132_1 C) (e9 (As ty4) ?_))))))))))
      refine e9 (Cb C) (e9 (Ad C) (eb (eb (eb (e9 (Al C C) (Gr (Al C C) (Gm C (e9 (Ab fld132_3 C) (e9 (As ty4) ?_)))))))))
      refine e9 (Cb C) (e9 (Ad C) (e9 (Ab fld42_4 C) (e9 (Bq (vs:=[_,_]) ty40) ?_)))
      refine e9 (Bf (cells:=[_,_]) ty40 Ch pl40 C C) (e9 (Runs.neqT (α:=Fr) (a:=(⟨0,0⟩:Fr)) (b:=(⟨0,0⟩:Fr)) eqt40 C C) (e9 (Am C C) (Gr (Al C C) (Ga C (Af (Aq (S1 73 C) (A6 C (λc73=>?_) (λc73=>?_))))))))
      ·refine Ah (Ga C (Af (Aw (Av (Ai ?_)))))
       first|(exfalso;omega)|(exfalso;exact absurd hval asm)|(exfalso;exact absurd rfl asm)|contradiction|(exfalso;simp_all;done)
      ·exact Ay (Ak (Aj (Ah (Ga C (Af (Aw (A1 C C I A0 ⟨rfl,rfl⟩)))))))
theorem CheckAny_ok{κ:Ctx}{I:List Item}{n:Int}{x:AlV}(hs:Sl κ I (.slice x.a x.xs.length x.c) x.xs)(h:AlOk n x):ep prog κ 37 [x.cells,e7 n] I λr J=>r=e7 0/\I=J:=by
 obtain ⟨kd,no,lv,a,c,xs,num,den⟩:=x
 unfold AlV.cells
 have hk:=h.kind
 simp only at hk hs ⊢
 obtain e|e|e|e|e:kd=1\/kd=2\/kd=3\/kd=4\/kd=5:=by omega
 all_goals subst e
 ·obtain ⟨h1,h2,h3,h4,h5⟩:=h.k1 rfl
  simp only at h1 h2 h3 h4 h5
  subst h3 h4 h5
  exact Check1_ok hs h1 h2 rfl
 ·obtain ⟨h1,h2,h3,h4⟩:=h.k2 rfl
  simp only at h1 h2 h3 h4
  subst h1 h2 h3
  exact Check2_ok hs C h4
 ·obtain ⟨h1,h2,h3,h4,h5⟩:=h.k3 rfl
  simp only at h1 h2 h3 h4 h5
  subst h1 h2
  exact Check3_ok hs h3.1 h4 h5
 ·obtain ⟨h1,h2,h3,h4,h5⟩:=h.k4 rfl
  simp only at h1 h2 h3 h4 h5
  subst h1 h3 h4 h5
  exact Check4_ok hs h2 rfl
 ·obtain ⟨h1,h2,h3,h4,h5,h6⟩:=h.k5 rfl
  simp only at h1 h2 h3 h4 h5 h6
  subst h1 h5 h6
  exact Check5_ok hs h2 h3.1 h4
theorem hold_of{κ:Ctx}{I:List Item}{f:FuncId}{args:List Value}{nd:Int}{es:List Pt}{x:AlV}(h:ep prog κ f args I λr J=>∃t:Bool,r = .bool t/\(t=true↔condP nd es x)/\I=J):ep prog κ f args I λr J=>r = .bool (holdV nd es x)/\I=J:=
 h.mono λr J ⟨t,h1,h2,h3⟩=>⟨by rw [h1];congr 1;rw [Bool.eq_iff_iff,holdV_iff];exact h2,h3⟩
theorem HoldAny_ok{κ:Ctx}{I:List Item}{nd:Int}{ea:Option Addr}{ec:Nat}{es:List Pt}{x:AlV}(hl:Sl κ I (.slice ea es.length ec) es)(hs:Sl κ I (.slice x.a x.xs.length x.c) x.xs)(hG:GrOk nd es)(h:AlOk nd x)(hT:TabRd κ I 0 tzCells):ep prog κ (fK x.kd) [.agg #[e7 nd,.slice ea es.length ec],x.cells] I λr J=>r = .bool (holdV nd es x)/\I=J:=by
 refine hold_of ?_
 obtain ⟨kd,no,lv,a,c,xs,num,den⟩:=x
 unfold AlV.cells condP
 have hk:=h.kind
 simp only at hk hs ⊢
 obtain e|e|e|e|e:kd=1\/kd=2\/kd=3\/kd=4\/kd=5:=by omega
 all_goals subst e
 ·obtain ⟨h1,h2,h3,h4,h5⟩:=h.k1 rfl
  simp only at h1 h2 h3 h4 h5
  subst h3 h4 h5
  exact Hold1_ok hl hs hG h1 hT
 ·obtain ⟨h1,h2,h3,h4⟩:=h.k2 rfl
  simp only at h1 h2 h3 h4
  subst h1 h2 h3
  exact Hold2_ok hl hs hG h4 hT
 ·obtain ⟨h1,h2,h3,h4,h5⟩:=h.k3 rfl
  simp only at h1 h2 h3 h4 h5
  subst h1 h2
  exact Hold3_ok hl hs hG h3 h4 h5 hT
 ·obtain ⟨h1,h2,h3,h4,h5⟩:=h.k4 rfl
  simp only at h1 h2 h3 h4 h5
  subst h1 h3 h4 h5
  exact Hold4_ok hl hs hG hT
 ·obtain ⟨h1,h2,h3,h4,h5,h6⟩:=h.k5 rfl
  simp only at h1 h2 h3 h4 h5 h6
  subst h1 h5 h6
  exact Hold5_ok hl hs hG h3 h4 hT
def timesZ(kd wd mo:Int)(es:List Ev):List Int:=ascZ (timesL kd wd mo es)
theorem lateTm_yes{kd wd:Int}{xs:List Lk}{k:Nat}(h:k<xs.length)(h1:kd=2)(h2:(e_ xs k).tm+wd<=1048576):(lateL kd wd (xs.take (k+1))).map Ev.tm=(lateL kd wd (xs.take k)).map Ev.tm++[(e_ xs k).tm+wd]:=by
 rw [late_yes h h1 h2,List.map_append];rfl
theorem lateTm_no{kd wd:Int}{xs:List Lk}{k:Nat}(h:k<xs.length)(h1:¬kd=2\/¬(e_ xs k).tm+wd<=1048576):(lateL kd wd (xs.take (k+1))).map Ev.tm=(lateL kd wd (xs.take k)).map Ev.tm:=by rw [late_no h h1]
set_option maxHeartbeats 2000000 in
theorem Times_ok{κ:Ctx}{I:List Item}{nd kd wd mo:Int}{ea:Option Addr}{ec:Nat}{es:List Ev}(hl:Sl κ I (.slice ea es.length ec) es)(hH:HistOk nd kd wd mo es)(hlen:es.length<=19):ep prog κ 80 [e7 nd,.slice ea es.length ec,.agg #[e7 kd,e7 wd,e7 mo]] I (λr J=>∃a c,r = .slice a (timesZ kd wd mo es).length c/\J=vc 3 (.slice a (timesZ kd wd mo es).length c) (timesZ kd wd mo es)::I):=by
 refine Ce3 Tryz.func80 C C ?_
 refine Ah (Ge1 (Bc (cs:=[_,_,_]) C C C) λb1=>Ga C (Af (Ah (Ge1 (B0 (α:=Int) (cs:=[_]) (xs:=[0]) Ac ef C C dc dc C C C C) λad2=>?_))))
 refine Ga C (Af (Ah (Gm C (Gm C (Gl3 ty31 ?_)))))
 refine G.e (Ao call140 C C (Slide_hist (nd:=nd) (kd:=kd) (wd:=wd) (mo:=mo) (es:=es) (Bh hl) hH)) ?_
 rintro _ _ ⟨_,_,⟨ad3,cp4,rfl,rfl⟩,rfl,rfl⟩
 refine Gm C (Gr (A2 C C) (Gr (A2 C C) (Ga C (Ga C ?_))))
 generalize hSE:(slideS kd wd mo es).2=SE
 have hfS:∀e∈SE,FitOk nd e:=by rw [←hSE];exact hH.fit
 have hSl:SE.length<=38:=by rw [←hSE];have:=hH.len2;omega
 have hlS:(eh SE).length<=19:=by rw [←hSE];have:=hH.len;omega
 refine Af (Aq (S4 8 7 5 0 C C C C) (Ah (Gm C (Gr (Bf (cells:=[_,_]) ty111 Cw pl111 C C) (Ge1 (A8 ty111 C) λb5=>Ge0 (Cd ty111) ?_)))))
 refine G.fit (J:=vc 146 (.slice none 0 0) (([]:List Lk))::e8 b5 [e7 nd,.slice none 0 0] 111::vc 108 (.slice ad3 (SE).length cp4) (SE)::vc 3 (.slice ad2 1 1) (([0]:List Int))::e8 b1 [e7 kd,e7 wd,e7 mo] 31::I) (Bt (α:=Lk) _ _) ?_
 refine Af (Au (Ah (Gm C (Gr (Bm Az C) (Gm C (Af (A4 (Bu (σ:=Nat×(Option Addr)×Nat×(Option Addr)×Nat×(List Int)) (λs=>([(5,.pointer (some ⟨b1,0,none⟩)),(7,.slice s.2.2.2.1 s.2.2.2.2.2.length s.2.2.2.2.1),(10,.pointer (some ⟨b5,0,none⟩)),(26,.slice ad3 (SE).length cp4),(27,e7 ((((SE).length:Nat):Int))),(28,e7 ((s.1:Nat):Int))]:Env)) (λs=>vc 146 (.slice s.2.1 (eh (SE.take s.1)).length s.2.2.1) (eh (SE.take s.1))::vc 3 (.slice s.2.2.2.1 s.2.2.2.2.2.length s.2.2.2.2.1) (s.2.2.2.2.2)::e8 b5 [e7 nd,.slice s.2.1 (eh (SE.take s.1)).length s.2.2.1] 111::vc 108 (.slice ad3 (SE).length cp4) (SE)::e8 b1 [e7 kd,e7 wd,e7 mo] 31::I) (λs=>(s.1<=SE.length)/\(s.2.2.2.2.2=0::(SE.take s.1).map Ev.tm)) (λs=>SE.length - s.1) (0,none,0,ad2,1,[0]) (show ((0:Nat)<=SE.length)/\(([0]:List Int)=0::(SE.take (0:Nat)).map Ev.tm) from ⟨om,rfl⟩) (Aa C (Aa (Cr C (by first|rfl|simp)) (Aa C (Aa C (Aa C (Aa B9 Bj)))))) (show Fit κ _ (vc 146 (.slice none (eh (SE.take 0)).length 0) (eh (SE.take 0))::vc 3 (.slice ad2 ([0]).length 1) (([0]))::e8 b5 [e7 nd,.slice none (eh (SE.take 0)).length 0] 111::vc 108 (.slice ad3 (SE).length cp4) (SE)::e8 b1 [e7 kd,e7 wd,e7 mo] 31::I) from B4) ?_))))))))
 rintro ⟨k,a,c,oa,oc,out⟩ hp
 dsimp only at hp ⊢
 obtain ⟨hk,ho⟩:=hp
 have hol:out.length=k+1:=by rw [ho,List.length_cons,List.length_map,List.length_take];omega
 refine Ah (Gr (A9 C C) (Af (Au (A6 C (λc29=>?_) (λc29=>?_)))))
 ·refine Ay (Aj (Au (A4 (Ah (Gr (A3 (α:=Ev) (xs:=SE) Az ty108 C C Bg om om) (Gr (Bp (α:=Ev) (xs:=SE) ty108 C Bg om om) (Ge1 (A8 ty108 C) λb6=>Ge0 (E2 ty108) ?_)))))))
  refine Af (Ah (Gl2 ty111 ?_))
  refine Gl7 ty108 ?_
  refine G.e (Ao call141 C C (Cm (J:=vc 146 (.slice a (eh (SE.take k)).length c) (eh (SE.take k))::e8 b6 [e7 ((e_ SE k).kd),e7 ((e_ SE k).tm),e7 ((e_ SE k).u),e7 ((e_ SE k).v),e7 ((e_ SE k).w),e7 ((e_ SE k).lb),e7 ((e_ SE k).sg)] 108::vc 3 (.slice oa out.length oc) (out)::e8 b5 [e7 nd,.slice a (eh (SE.take k)).length c] 111::vc 108 (.slice ad3 (SE).length cp4) (SE)::e8 b1 [e7 kd,e7 wd,e7 mo] 31::I) B4 (ApplyP_ok (nd:=nd) (e:=(e_ SE k)) (xs:=eh (SE.take k)) (links_val hH.st.nodes hfS k) (hfS _ (Ca om om)) (by have:=links_len (links_val hH.st.nodes hfS k);omega)))) ?_
  rintro _ _ ⟨_,_,⟨ad7,cp8,wv9,rfl,rfl⟩,rfl,rfl⟩
  refine Gm C (Gr (A2 C C) (Gr (A2 C C) (Gr (A2 C C) (Ge0 (Cd ty111) ?_))))
  refine Af (Aq (S7 12 5 7 10 26 27 28 C C C C C C C) (Ax (Gm C (Gf fld108_1 C (Gl ef ?_)))))
  refine Ge1 (B0 (α:=Int) (cs:=[_]) (xs:=[(e_ SE k).tm]) Ac ef C C dc dc C C C C) λad10=>?_
  refine Ge2 (B1 (α:=Int) (e:=3) (xs:=out) (ys:=([(e_ SE k).tm]:List Int)) Ac ef C C C mm Bg lcn dc C (λ_ _=>am)) λad11 cp12=>?_
  exact Ga C (Bd (Ak (Aj (Ax (Gr (Rad C C) (Gm C (Bd (B2 ((k+1),(ad7),(cp8),(ad11),(cp12),(out++([(e_ SE k).tm]:List Int))) (by dsimp only;exact ⟨om,(by rw [ho,Cu SE k om,List.map_append];rfl)⟩) (hI:=by (try dsimp only);exact (by rw [linksL_take om];exact B4))))))))))
 ·refine Bs (Ap (Ap (A7 (Aj (Au (Ah (Gf fld111_1 C ?_)))))))
  have hfull:SE.take k=SE:=List.take_of_length_le om
  rw [hfull] at ho ⊢
  have hvL:checkS nd (eh SE)=0:=by have:=links_val hH.st.nodes hfS k;rwa [hfull] at this
  refine Gl ty109 ?_
  refine Gr (Bm Ar C) (Gm C (Af (A4 (Bu (σ:=Nat×(Option Addr)×Nat×(List Int)) (λs=>([(5,.pointer (some ⟨b1,0,none⟩)),(7,.slice s.2.1 s.2.2.2.length s.2.2.1),(46,.slice a (eh SE).length c),(47,e7 ((((eh SE).length:Nat):Int))),(48,e7 ((s.1:Nat):Int))]:Env)) (λs=>vc 146 (.slice a (eh SE).length c) (eh SE)::vc 3 (.slice s.2.1 s.2.2.2.length s.2.2.1) (s.2.2.2)::e8 b5 [e7 nd,.slice a (eh SE).length c] 111::vc 108 (.slice ad3 (SE).length cp4) (SE)::e8 b1 [e7 kd,e7 wd,e7 mo] 31::I) (λs=>(s.1<=(eh SE).length)/\(s.2.2.2=0::(SE.map Ev.tm++(lateL kd wd ((eh SE).take s.1)).map Ev.tm))) (λs=>(eh SE).length - s.1) (0,oa,oc,out) (show ((0:Nat)<=(eh SE).length)/\((out:List Int)=0::(SE.map Ev.tm++(lateL kd wd ((eh SE).take (0:Nat))).map Ev.tm)) from ⟨om,(by rw [ho];simp [lateL])⟩) (Aa C (Aa (Cr C (by first|rfl|simp)) (Aa C (Aa C (Aa B9 Bj))))) (show Fit κ _ (vc 146 (.slice a (eh SE).length c) (eh SE)::vc 3 (.slice oa (out).length oc) ((out))::e8 b5 [e7 nd,.slice a (eh SE).length c] 111::vc 108 (.slice ad3 (SE).length cp4) (SE)::e8 b1 [e7 kd,e7 wd,e7 mo] 31::I) from A5) ?_))))
  rintro ⟨k2,oa2,oc2,out2⟩ hp
  dsimp only at hp ⊢
  obtain ⟨hk2,ho2⟩:=hp
  have hol2:out2.length<=SE.length+k2+1:=by rw [ho2,List.length_cons,List.length_append,List.length_map,List.length_map];have h1:=lateL_len kd wd ((eh SE).take k2);rw [List.length_take] at h1;omega
  have hww:=checkW_wd hH.win
  refine Ah (Gr (A9 C C) (Af (Au (A6 C (λc49=>?_) (λc49=>?_)))))
  ·refine Ay (Aj (Au (A4 (Ah (Gr (A3 (α:=Lk) (xs:=eh SE) Ar ty146 C C Bg om om) (Gr (Bp (α:=Lk) (xs:=eh SE) ty146 C Bg om om) (Ge1 (A8 ty146 C) λb13=>Ge0 (C5 ty146) ?_)))))))
   have htk:=checkS_tm hvL (k2:Int) om om
   refine Af (Ah (Gf fld146_5 C (Gl ef ?_)))
   refine Gf fld31_1 C (Gl ef ?_)
   refine Gr (Rad C C) (Ga C (Af (Aq (S6 15 5 7 46 47 48 C C C C C C) (Ah (Gf fld31_0 C (Gl ef ?_))))))
   refine Gr (Bi C C) (Gm C (Ba (d:=60) C (λg60=>?_) (λg60=>?_)))
   ·refine e9 (Ad C) (e9 (Du C C) (Gr (Am C C) (Af (Aq (S7 63 15 5 7 46 47 48 C C C C C C C) (A6 C (λc63=>?_) (λc63=>?_))))))
    ·refine Ax (Gm C (Gm C (Ge1 (B0 (α:=Int) (cs:=[_]) (xs:=[((e_ (eh SE) k2).tm)+wd]) Ac ef C C dc dc C C C C) λad14=>?_)))
     refine Ge2 (B1 (α:=Int) (e:=3) (xs:=out2) (ys:=([((e_ (eh SE) k2).tm)+wd]:List Int)) Ac ef C C C mm Bg lcn dc C (λ_ _=>am)) λad15 cp16=>?_
     exact Ga C (Bd (Ak (Aj (Ax (Gr (Rad C C) (Gm C (Bd (B2 ((k2+1),(ad15),(cp16),(out2++([((e_ (eh SE) k2).tm)+wd]:List Int))) (by dsimp only;exact ⟨om,(by first|(rw [ho2,lateTm_yes om g60 asm,List.cons_append,List.append_assoc])|(rw [ho2,lateTm_no om (.inl g60)])|(rw [ho2,lateTm_no om (.inr asm)]))⟩)))))))))
    ·exact Ay (Ak (Aj (Ax (Gr (Rad C C) (Gm C (Bd (B2 ((k2+1),(oa2),(oc2),(out2)) (by dsimp only;exact ⟨om,(by first|(rw [ho2,lateTm_yes om g60 asm,List.cons_append,List.append_assoc])|(rw [ho2,lateTm_no om (.inl g60)])|(rw [ho2,lateTm_no om (.inr asm)]))⟩))))))))
   ·exact eb (eb (Gr (Al C C) (Af (Aq (S7 63 15 5 7 46 47 48 C C C C C C C) (C2 C (Ay (Ak (Aj (Ax (Gr (Rad C C) (Gm C (Bd (B2 ((k2+1),(oa2),(oc2),(out2)) (by dsimp only;exact ⟨om,(by first|(rw [ho2,lateTm_yes om g60 asm,List.cons_append,List.append_assoc])|(rw [ho2,lateTm_no om (.inl g60)])|(rw [ho2,lateTm_no om (.inr asm)]))⟩))))))))))))))
  ·refine Bs (Ap (Ap (A7 (Aj (Ah (Gm C (Gc1 (Ao call142 C C (Cm (J:=vc 3 (.slice oa2 out2.length oc2) (out2)::vc 146 (.slice a (eh SE).length c) (eh SE)::e8 b5 [e7 nd,.slice a (eh SE).length c] 111::vc 108 (.slice ad3 (SE).length cp4) (SE)::e8 b1 [e7 kd,e7 wd,e7 mo] 31::I) B4 (sortI_ok om))) ?_)))))))
   refine Af (Ah (Gm C (G.e (Ao call143 C C (Cm (J:=vc 3 (.slice oa2 out2.length oc2) (sortZ out2)::vc 146 (.slice a (eh SE).length c) (eh SE)::e8 b5 [e7 nd,.slice a (eh SE).length c] 111::vc 108 (.slice ad3 (SE).length cp4) (SE)::e8 b1 [e7 kd,e7 wd,e7 mo] 31::I) B4 (CompactI_n (xs:=sortZ out2) (by exact (El _).symm) (by first|omega|(rw [El];omega))))) ?_)))
   rintro _ _ ⟨_,_,⟨rfl,rfl⟩,rfl,rfl⟩
   show G prog κ _ _ _ _ ([(72,.slice oa2 (ascZ out2).length oc2),(71,.slice oa2 out2.length oc2),(70,.tuple #[]),(69,.slice oa2 out2.length oc2),(49,.bool (decide ((k2:Int)<(((eh SE).length:Nat):Int)))),(5,.pointer (some ⟨b1,0,none⟩)),(7,.slice oa2 out2.length oc2),(46,.slice a (eh SE).length c),(47,e7 ((((eh SE).length:Nat):Int))),(48,e7 ((k2:Int)))]:Env) (vc 3 (.slice oa2 (ascZ out2).length oc2) (ascZ out2)::vc 146 (.slice a (eh SE).length c) (eh SE)::e8 b5 [e7 nd,.slice a (eh SE).length c] 111::vc 108 (.slice ad3 (SE).length cp4) (SE)::e8 b1 [e7 kd,e7 wd,e7 mo] 31::I)
   refine Ga C (Af (Aw ?_))
   have hE:out2=timesL kd wd mo es:=by rw [ho2,List.take_of_length_le om];unfold timesL;rw [hSE]
   exact A1 C C (vc 3 (.slice oa2 (timesZ kd wd mo es).length oc2) (timesZ kd wd mo es)::I) (by unfold timesZ;rw [←hE];exact B4) ⟨oa2,oc2,by unfold timesZ;rw [←hE],rfl⟩
end Go.Sl
