/- A part of the proofs of statements of this seat: contracts of functions, and the plain laws that they lean on. No conditions. -/
import Derived.Test.YtfkcohmipjhfcaaGreatDoorH19
set_option linter.unusedVariables false
set_option linter.unusedSimpArgs false
set_option linter.unusedSectionVars false
namespace Go.Sl
open Go.Proofs
set_option maxRecDepth 4000
variable {κ:Ctx}{I:List Item}
structure FrV (x:Fr):Prop where
 n0:0≤x.num
 n1:x.num≤1073741824
 d0:1≤x.den
 d1:x.den≤1073741824
 cop:gcdI x.num x.den=1
theorem mkF_val{a b:Int}(h0:0≤a)(h1:a≤1073741824)(h2:0<b)(h3:b≤1073741824):FrV (mkF a b):=by
 have hn:=mkF_num h0 h2
 have hd:=mkF_den (a:=a) h2
 refine ⟨hn.1,by omega,hd.1,by omega,?_⟩
 obtain ⟨m,rfl⟩:=Int.eq_ofNat_of_zero_le h0
 obtain ⟨n,rfl⟩:=Int.eq_ofNat_of_zero_le (show 0≤b by omega)
 have hg:0<m.gcd n:=Nat.gcd_pos_of_pos_right _ om
 have hc:=Nat.coprime_div_gcd_div_gcd hg
 unfold mkF gcdI
 simp only [Int.toNat_natCast,Int.ofNat_eq_natCast,←Int.natCast_ediv]
 rw [hc.gcd_eq_one];rfl
def cmpF(x y:Fr):Int:=if x.num*y.den<y.num*x.den then -1 else if y.num*x.den<x.num*y.den then 1 else 0
def sgnI(n:Int):Int:=if n<0 then -1 else if 0<n then 1 else 0
theorem sgn_bd(n:Int) : -1≤sgnI n∧sgnI n≤1:=by unfold sgnI;split<;>(try split)<;>omega
theorem mul_small{x y:Int}(hx:0≤x∧x≤1073741824)(hy:0≤y∧y≤1073741824):0≤x*y∧x*y≤1152921504606846976:=by
 refine ⟨Int.mul_nonneg hx.1 hy.1,?_⟩
 have h1:=Int.mul_le_mul hx.2 hy.2 hy.1 dc
 omega
theorem FrV.mul{x y:Fr}(hx:FrV x)(hy:FrV y):(0≤x.num*y.den∧x.num*y.den≤1152921504606846976)∧(0<x.num→0<x.num*y.den):=by
 have h1:=hx.n0;have h2:=hx.n1;have h3:=hy.d0;have h4:=hy.d1
 exact ⟨mul_small ⟨h1,h2⟩ ⟨by omega,h4⟩,fun h=>Int.mul_pos h om⟩
theorem Mul64_ok(x y:Int)(hx:0≤x∧x≤1073741824)(hy:0≤y∧y≤1073741824) :
    CallS Tryz.prog κ 173 [.int .u64 (x),.int .u64 (y)] I (fun r J=>r = .tuple #[.int .u64 0,.int .u64 (x*y)]∧I=J):=by
 have hxy:=mul_small hx hy
 refine Ce2 Tryz.func173 rfl rfl ?_
 exact Ai (Ga rfl (Ga rfl (Af (Ai (Gm rfl (Gr (Runs.lowU (m:=x) (r:=x) rfl rfl om om om) (Ga rfl (Af (Ai (Gm rfl (Gr (Runs.shr32 (m:=x) (r:=0) rfl rfl om) (Ga rfl (Af (Ai (Gm rfl (Gr (Runs.lowU (m:=y) (r:=y) rfl rfl om om om) (Ga rfl (Af (Ai (Gm rfl (Gr (Runs.shr32 (m:=y) (r:=0) rfl rfl om) (Ga rfl (Af (Ar (S6 9 8 7 6 0 1 rfl rfl rfl rfl rfl rfl) (Ai (Gm rfl (Gm rfl (Gr (Runs.mulU (m:=x) (n:=y) (r:=x*y) rfl rfl rfl om om) (Ga rfl (Af (Ai (Gm rfl (Gm rfl (Gr (Runs.mulU (m:=0) (n:=y) (r:=0) rfl rfl (Int.zero_mul _) om om) (Gm rfl (Gr (Runs.shr32 (m:=x*y) (r:=x*y / 4294967296) rfl rfl om) (Gr (Runs.addU (m:=0) (n:=x*y / 4294967296) (r:=x*y / 4294967296) rfl rfl om om om) (Ga rfl (Af (Ar (S6 11 9 7 6 0 1 rfl rfl rfl rfl rfl rfl) (Ai (Gm rfl (Gr (Runs.lowU (m:=x*y / 4294967296) (r:=x*y / 4294967296) rfl rfl om om om) (Ga rfl (Af (Ai (Gm rfl (Gr (Runs.shr32 (m:=x*y / 4294967296) (r:=0) rfl rfl om) (Ga rfl (Af (Ai (Gm rfl (Gm rfl (Gm rfl (Gr (Runs.mulU (m:=x) (n:=0) (r:=0) rfl rfl (Int.mul_zero _) om om) (Gr (Runs.addU (m:=x*y / 4294967296) (n:=0) (r:=x*y / 4294967296) rfl rfl om om om) (Ga rfl (Af (Ar (S6 12 13 9 7 0 1 rfl rfl rfl rfl rfl rfl) (Ai (Gm rfl (Gm rfl (Gr (Runs.mulU (m:=0) (n:=0) (r:=0) rfl rfl (Int.zero_mul _) om om) (Gm rfl (Gr (Runs.addU (m:=0) (n:=0) (r:=0) rfl rfl om om om) (Gm rfl (Gr (Runs.shr32 (m:=x*y / 4294967296) (r:=0) rfl rfl om) (Gr (Runs.addU (m:=0) (n:=0) (r:=0) rfl rfl om om om) (Ga rfl (Af (Ar (S3 4 0 1 rfl rfl rfl) (Ai (Gm rfl (Gm rfl (Gr (Runs.mulU (m:=x) (n:=y) (r:=x*y) rfl rfl rfl om om) (Ga rfl (Af (Ax (Cl rfl rfl rfl (I) A0 ⟨rfl,rfl⟩)))))))))))))))))))))))))))))))))))))))))))))))))))))))))))))))))))))))))))))))
theorem Sign_ok(n:Int) :
    CallS Tryz.prog κ 172 [I64 (n)] I (fun r J=>r=I64 (sgnI n)∧I=J):=by
 refine Ce1 Tryz.func172 rfl rfl ?_
 refine Ai (Ga rfl (Af (Au (A4 (Ai (Gm rfl (Gr (A9 rfl rfl) (Ga rfl (Af (A7 rfl (fun c3=>?_) (fun c3=>?_)))))))))))
 ·exact Ai (Ga rfl (Af (Ax (Av (Ah (Ay rfl rfl (I) A0 ⟨by unfold sgnI;first|rw [if_pos c3]|rw [if_neg c3,if_pos c6]|rw [if_neg c3,if_neg c6],rfl⟩))))))
 ·refine Ai (Gm rfl (Gr (Bz rfl rfl) (Ga rfl (Af (A7 rfl (fun c6=>?_) (fun c6=>?_))))))
  ·exact Ai (Ga rfl (Af (Ax (Av (Ah (Ay rfl rfl (I) A0 ⟨by unfold sgnI;first|rw [if_pos c3]|rw [if_neg c3,if_pos c6]|rw [if_neg c3,if_neg c6],rfl⟩))))))
  ·exact Aw (Ak (Aj (Ai (Ga rfl (Af (Ax (Ay rfl rfl (I) A0 ⟨by unfold sgnI;first|rw [if_pos c3]|rw [if_neg c3,if_pos c6]|rw [if_neg c3,if_neg c6],rfl⟩)))))))
theorem RatValid_ok(x:Fr)(hx:FrV x) :
    CallS Tryz.prog κ 89 [.agg #[I64 (x.num),I64 (x.den)]] I (fun r J=>r = .bool true∧I=J):=by
 have hn0x:=hx.n0
 have hn1x:=hx.n1
 have hd0x:=hx.d0
 have hd1x:=hx.d1
 refine Ce1 Tryz.func89 rfl rfl ?_
 refine Ai (Ge1 (Bd (cs:=[_,_]) rfl rfl rfl) fun b1=>Ga rfl (Af (Ai (Gf fld40_0 rfl (Gl ty3 ?_)))))
 refine G.e (Ap call157 rfl rfl (RWithin_ok x.num 1152921504606846976 om)) ?_
 rintro _ _ ⟨_,_,⟨rfl,rfl⟩,rfl,rfl⟩
 refine Gm rfl (Bb (d:=6) rfl (fun g6=>?_) (fun g6=>?_))
 ·refine Gro (Ab fld40_1 rfl) (Gro (As ty3) ?_)
  refine Gro (B6 rfl rfl) (Gr (Ao rfl rfl) (Gm rfl (Bb (d:=11) rfl (fun g11=>?_) (fun g11=>?_))))
  ·refine Gro (Ab fld40_1 rfl) (Gro (As ty3) ?_)
   refine Gro (Dt rfl rfl) (Gr (Ao rfl rfl) (Gm rfl (Bb (d:=16) rfl (fun g16=>?_) (fun g16=>?_))))
   ·refine Gro (Ab fld40_0 rfl) (Gro (As ty3) ?_)
    refine Gro (Ab fld40_0 rfl) (Gro (As ty3) ?_)
    refine Gro (Runs.neg rfl (by unfold InR;omega)) (Gro (En rfl rfl) ?_)
    have hmx22:(if x.num < -(x.num) then -(x.num) else x.num)=x.num:=by rw [if_neg om]
    rw [hmx22]
    refine Gro (Ab fld40_1 rfl) (Gro (As ty3) ?_)
    refine Eo (Cv rfl rfl rfl) (Ap call158 rfl rfl (Common_ok x.num x.den om om)) ?_
    rintro _ _ ⟨_,_,⟨rfl,rfl⟩,rfl,rfl⟩
    exact Gro (Bi rfl rfl) (Gr (Ao rfl rfl) (Ga rfl (Af (Ar (S1 2 rfl) (Ax (Ay rfl rfl (I) A0 ⟨by rw [decide_eq_true hx.cop],rfl⟩))))))
   ·exact absurd om g16
  ·exact absurd om g11
 ·exact absurd om g6
set_option maxHeartbeats 1000000 in
theorem RatCmp_ok(x y:Fr)(hx:FrV x)(hy:FrV y) :
    CallS Tryz.prog κ 101 [.agg #[I64 (x.num),I64 (x.den)],.agg #[I64 (y.num),I64 (y.den)]] I (fun r J=>r=I64 (cmpF x y)∧I=J):=by
 have hn0x:=hx.n0
 have hn1x:=hx.n1
 have hd0x:=hx.d0
 have hd1x:=hx.d1
 have hn0y:=hy.n0
 have hn1y:=hy.n1
 have hd0y:=hy.d0
 have hd1y:=hy.d1
 have hb1:=sgn_bd x.num
 have hb2:=sgn_bd y.num
 have hm1:=hx.mul hy
 have hm2:=hy.mul hx
 have hz1:x.num=0→x.num*y.den=0:=fun h=>by rw [h,Int.zero_mul]
 have hz2:y.num=0→y.num*x.den=0:=fun h=>by rw [h,Int.zero_mul]
 refine Ce2 Tryz.func101 rfl rfl ?_
 refine Ai (Ge1 (Bd (cs:=[_,_]) rfl rfl rfl) fun b1=>Ge1 (Bd (cs:=[_,_]) rfl rfl rfl) fun b2=>Ga rfl (Af (Au (Ai (Gl2 ty40 ?_)))))
 refine Gc0 (Ap call89 rfl rfl (RatValid_ok x asm)) ?_
 refine Gr (Cu rfl) (Gm rfl (Gro (Bq (vs:=[_,_]) ty40) ?_))
 refine Eo (Cv rfl rfl rfl) (Ap call89 rfl rfl (RatValid_ok y asm)) ?_
 rintro _ _ ⟨_,_,⟨rfl,rfl⟩,rfl,rfl⟩
 refine Gro (Cu rfl) (Gr (Al rfl rfl) (Af (C9 rfl (Aw (Aj (Ai (Gf fld40_0 rfl (Gl ty3 ?_))))))))
 refine Gc0 (Ap call172 rfl rfl (Sign_ok x.num)) ?_
 refine Ga rfl (Af (Ar (S3 5 3 2 rfl rfl rfl) (Au (Ai (Gf fld40_0 rfl (Gl ty3 ?_))))))
 refine Gc0 (Ap call172 rfl rfl (Sign_ok y.num)) ?_
 refine Ga rfl (Af (Ai (Gm rfl (Gm rfl (Gr (Be rfl rfl) (Gm rfl (Bb (d:=28) rfl (fun g28=>?_) (fun g28=>?_))))))))
 ·refine Gpo (Gpo (Gr (Ao rfl rfl) (Af (Ar (S5 31 6 5 3 2 rfl rfl rfl rfl rfl) (Ca rfl (Ai (Gm rfl (Gm rfl (Gr (Rsu rfl rfl) (Gc0 (Ap call172 rfl rfl (Sign_ok ((sgnI x.num) - (sgnI y.num)))) ?_))))))))))
  refine Ga rfl (Af (Ax (Ah ?_)))
  have hsx:sgnI x.num=if x.num<0 then -1 else if 0<x.num then 1 else 0:=rfl
  have hsy:sgnI y.num=if y.num<0 then -1 else if 0<y.num then 1 else 0:=rfl
  exact Ay rfl rfl (I) A0 ⟨congrArg I64 (by first|(have hss:sgnI (sgnI x.num - sgnI y.num)=if sgnI x.num - sgnI y.num<0 then -1 else if 0<sgnI x.num - sgnI y.num then 1 else 0:=rfl;unfold cmpF;rw [hss];repeat (first|omega|split))|(unfold cmpF;repeat (first|omega|split))),rfl⟩
 ·refine Gro (Ad rfl) (Gro (Bi rfl rfl) (Gr (Al rfl rfl) (Af (Ar (S5 31 6 5 3 2 rfl rfl rfl rfl rfl) (A7 rfl (fun c31=>?_) (fun c31=>?_))))))
  ·refine Ai (Gm rfl (Gm rfl (Gr (Rsu rfl rfl) (Gc0 (Ap call172 rfl rfl (Sign_ok ((sgnI x.num) - (sgnI y.num)))) ?_))))
   refine Ga rfl (Af (Ax (Ah ?_)))
   have hsx:sgnI x.num=if x.num<0 then -1 else if 0<x.num then 1 else 0:=rfl
   have hsy:sgnI y.num=if y.num<0 then -1 else if 0<y.num then 1 else 0:=rfl
   exact Ay rfl rfl (I) A0 ⟨congrArg I64 (by first|(have hss:sgnI (sgnI x.num - sgnI y.num)=if sgnI x.num - sgnI y.num<0 then -1 else if 0<sgnI x.num - sgnI y.num then 1 else 0:=rfl;unfold cmpF;rw [hss];repeat (first|omega|split))|(unfold cmpF;repeat (first|omega|split))),rfl⟩
  ·refine Aw (Aj (Ai (Gf fld40_0 rfl (Gl ty3 ?_))))
   refine Gf fld40_0 rfl (Gl ty3 ?_)
   refine Gr (Runs.neg rfl (by unfold InR;omega)) (Gr (En rfl rfl) ?_)
   have hmx42:(if x.num < -(x.num) then -(x.num) else x.num)=x.num:=by rw [if_neg om]
   rw [hmx42]
   refine Gr (Runs.convU Bm Dk rfl om) (Gf fld40_1 rfl (Gl ty3 ?_))
   refine Gr (Runs.convU Bm Dk rfl om) (G.e (Ap call173 rfl rfl (Mul64_ok x.num y.den om om)) ?_)
   rintro _ _ ⟨_,_,⟨rfl,rfl⟩,rfl,rfl⟩
   refine Gm rfl (Gr (A2 rfl rfl) (Gr (A2 rfl rfl) (Ga rfl (Ga rfl (Af (Ar (S5 8 7 5 3 2 rfl rfl rfl rfl rfl) (Ai (Gf fld40_0 rfl (Gl ty3 ?_)))))))))
   refine Gf fld40_0 rfl (Gl ty3 ?_)
   refine Gr (Runs.neg rfl (by unfold InR;omega)) (Gr (En rfl rfl) ?_)
   have hmx56:(if y.num < -(y.num) then -(y.num) else y.num)=y.num:=by rw [if_neg om]
   rw [hmx56]
   refine Gr (Runs.convU Bm Dk rfl om) (Gf fld40_1 rfl (Gl ty3 ?_))
   refine Gr (Runs.convU Bm Dk rfl om) (G.e (Ap call173 rfl rfl (Mul64_ok y.num x.den om om)) ?_)
   rintro _ _ ⟨_,_,⟨rfl,rfl⟩,rfl,rfl⟩
   refine Gm rfl (Gr (A2 rfl rfl) (Gr (A2 rfl rfl) (Ga rfl (Ga rfl (Af (Ar (S5 10 9 8 7 5 rfl rfl rfl rfl rfl) (Au (A4 (Ai (Gm rfl (Gm rfl (Gr (Bi rfl rfl) (Gm rfl (Bb (d:=68) rfl (fun g68=>?_) (fun g68=>?_)))))))))))))))
   ·refine Gro (Ad rfl) (Gro (Ad rfl) (Gro (Bi rfl rfl) (Gr (Ao rfl rfl) (Ga rfl (Af (Ar (S6 64 10 9 8 7 5 rfl rfl rfl rfl rfl rfl) (A7 rfl (fun c64=>?_) (fun c64=>?_))))))))
    ·refine Ai (Ga rfl (Af (Ax (Av (Ah ?_)))))
     have hsx:sgnI x.num=if x.num<0 then -1 else if 0<x.num then 1 else 0:=rfl
     have hsy:sgnI y.num=if y.num<0 then -1 else if 0<y.num then 1 else 0:=rfl
     exact Ay rfl rfl (I) A0 ⟨congrArg I64 (by first|(have hss:sgnI (sgnI x.num - sgnI y.num)=if sgnI x.num - sgnI y.num<0 then -1 else if 0<sgnI x.num - sgnI y.num then 1 else 0:=rfl;unfold cmpF;rw [hss];repeat (first|omega|split))|(unfold cmpF;repeat (first|omega|split))),rfl⟩
    ·refine Ai (Gm rfl (Gm rfl (Gr (A9 rfl rfl) (Gm rfl (Bb (d:=77) rfl (fun g77=>?_) (fun g77=>?_))))))
     ·exact absurd g77 dc
     ·refine Gro (Ad rfl) (Gro (Ad rfl) (Gro (Bi rfl rfl) (Gro (Ad rfl) (Bb (d:=81) rfl (fun g81=>?_) (fun g81=>?_)))))
      ·refine Gro (Ad rfl) (Gro (Ad rfl) (Gro (A9 rfl rfl) (Gro (Ao rfl rfl) (Gr (Al rfl rfl) (Ga rfl (Af (Ar (S2 73 5 rfl rfl) (A7 rfl (fun c73=>?_) (fun c73=>?_)))))))))
       ·refine Ai (Gm rfl (Gr (Runs.neg rfl (by unfold InR;omega)) (Ga rfl (Af (Ax (Av (Ah ?_)))))))
        have hsx:sgnI x.num=if x.num<0 then -1 else if 0<x.num then 1 else 0:=rfl
        have hsy:sgnI y.num=if y.num<0 then -1 else if 0<y.num then 1 else 0:=rfl
        exact Ay rfl rfl (I) A0 ⟨congrArg I64 (by first|(have hss:sgnI (sgnI x.num - sgnI y.num)=if sgnI x.num - sgnI y.num<0 then -1 else if 0<sgnI x.num - sgnI y.num then 1 else 0:=rfl;unfold cmpF;rw [hss];repeat (first|omega|split))|(unfold cmpF;repeat (first|omega|split))),rfl⟩
       ·refine Aw (Ak (Aj (Ai (Gm rfl (Ga rfl (Af (Ax ?_)))))))
        have hsx:sgnI x.num=if x.num<0 then -1 else if 0<x.num then 1 else 0:=rfl
        have hsy:sgnI y.num=if y.num<0 then -1 else if 0<y.num then 1 else 0:=rfl
        exact Ay rfl rfl (I) A0 ⟨congrArg I64 (by first|(have hss:sgnI (sgnI x.num - sgnI y.num)=if sgnI x.num - sgnI y.num<0 then -1 else if 0<sgnI x.num - sgnI y.num then 1 else 0:=rfl;unfold cmpF;rw [hss];repeat (first|omega|split))|(unfold cmpF;repeat (first|omega|split))),rfl⟩
      ·exact absurd rfl g81
   ·exact absurd rfl g68
theorem BestR.frv{nd N D:Int}{es:List Pt}{B:BitVec 64}(h:BestR nd es N D B)(hG:GrOk nd es):FrV ⟨N,D⟩:=by
 by_cases hn:nd=0
 ·obtain ⟨h1,h2,_⟩:=h.none (checkG_ok.2 hG) hn
  subst h1 h2
  exact ⟨by decide,by decide,by decide,by decide,by decide⟩
 ·obtain ⟨x,y,hx,hy,e⟩:=(h.some (checkG_ok.2 hG) hn).red
  rw [e]
  exact mkF_val hx.1 om om om
theorem cmpF_ge{x y:Fr}:0≤cmpF x y↔y.num*x.den≤x.num*y.den:=by unfold cmpF;repeat (first|omega|split)
def densQ(nd:Int)(es:List Pt)(num den:Int):Prop:=if nd=0 then num≤0 else ∃W,subN nd W∧W≠0#64∧num*cntB W≤den*insE W es
theorem BestR.holds{nd N D num den:Int}{es:List Pt}{B:BitVec 64}(h:BestR nd es N D B)(hG:GrOk nd es)(hf:FrV ⟨num,den⟩):0≤cmpF ⟨N,D⟩ ⟨num,den⟩↔densQ nd es num den:=by
 rw [cmpF_ge]
 unfold densQ
 by_cases hn:nd=0
 ·obtain ⟨h1,h2,_⟩:=h.none (checkG_ok.2 hG) hn
  subst h1 h2
  rw [if_pos hn]
  show num*1≤0*den↔_
  omega
 ·rw [if_neg hn]
  have hd:=h.some (checkG_ok.2 hG) hn
  exact hd.dens.reach hd.den.1 hf.d0
def commG(nd:Int)(es:List Pt)(v lv:Int):List Int:=rchG nd es [v] (coreK nd es lv)
theorem rchG_len(nd:Int)(es:List Pt)(f s:List Int):(rchG nd es f s).length≤64:=by
 unfold rchG
 split
 ·simp
 ·exact Ey _
theorem Comm_ok{κ:Ctx}{I:List Item}{nd v lv:Int}{ea:Option Addr}{ec:Nat}{es:List Pt}(hl:Sl κ I (.slice ea es.length ec) es)(hG:GrOk nd es)(hv:0≤v∧v<nd)(hT:TabRd κ I 0 tzCells) :
    CallS Tryz.prog κ 59 [.agg #[I64 (nd),.slice ea es.length ec],I64 (v),I64 (lv)] I (fun r J=>∃a c,r = .tuple #[.slice a (commG nd es v lv).length c,I64 0]∧J=vc 3 (.slice a (commG nd es v lv).length c) (commG nd es v lv)::I):=by
 refine Ce3 Tryz.func59 rfl rfl ?_
 refine Ai (Ge1 (Bd (cs:=[_,_]) rfl rfl rfl) fun b1=>Ga rfl (Ga rfl (Af (Au (Ai (Gl2 ty48 ?_))))))
 refine Gc0 (Ap call83 rfl rfl (CheckGen_ok (Bj hl))) ?_
 refine Ga rfl (Af (Ai (Gm rfl (Gr (Be rfl rfl) (Af (A7 rfl (fun c14=>?_) (fun c14=>?_)))))))
 ·exact absurd (checkG_ok.2 hG) c14
 ·refine Aw (Aj (Au (Ai (Gm rfl (Gr (A9 rfl rfl) (Gm rfl (Bb (d:=18) rfl (fun g18=>?_) (fun g18=>?_))))))))
  ·omega
  ·refine Gro (Ad rfl) (Gro (Ab fld48_0 rfl) (Gro (As ty3) ?_))
   refine Gro (B6 rfl rfl) (Gr (Al rfl rfl) (Af (Ar (S4 23 3 1 2 rfl rfl rfl rfl) (A7 rfl (fun c23=>?_) (fun c23=>?_)))))
   ·omega
   ·refine Aw (Aj (Ai (Gl2 ty48 ?_)))
    refine Gm rfl (G.e (Ap call109 rfl rfl (CCore_ok (nd:=nd) (lv:=lv) (Bj hl) (B9 hT A0))) ?_)
    rintro _ _ ⟨_,_,⟨ad2,cp3,rfl,rfl⟩,rfl,rfl⟩
    refine Gm rfl (Gr (A2 rfl rfl) (Gr (A2 rfl rfl) (Ga rfl (Ga rfl (Af (Au (Ai (Gm rfl (Gr (Be rfl rfl) (Af (Ar (S5 31 10 9 3 1 rfl rfl rfl rfl rfl) (A7 rfl (fun c31=>?_) (fun c31=>?_)))))))))))))
    ·exact absurd (checkG_ok.2 hG) c31
    ·refine Aw (Aj (Ai (Gl2 ty48 ?_)))
     refine Gm rfl (Ge1 (B1 (α:=Int) (cs:=[_]) (xs:=[v]) Ac ty3 rfl rfl dc dc rfl rfl rfl rfl) fun ad4=>?_)
     refine Gm rfl (Gc2 (Ap call110 rfl rfl (CReach_ok (nd:=nd) (Bj hl) Bf Bf (B9 hT A0))) fun ad5 cp6=>?_)
     exact Gr (A2 rfl rfl) (Gr (A2 rfl rfl) (Ga rfl (Ga rfl (Af (Ar (S2 7 6 rfl rfl) (Ax (Cl rfl rfl rfl (vc 3 (.slice ad5 (rchG nd es ([v]:List Int) (coreK nd es lv)).length cp6) (commG nd es v lv)::I) Bt ⟨ad5,cp6,by rw [checkG_ok.2 hG]<;>rfl,rfl⟩)))))))
section
variable {nd kd wd mo tm:Int}{es:List Ev}{fst own:Bool}{j j1:Nat}
theorem all_le(hH:HistOk nd kd wd mo es){i k:Nat}(h:i≤k)(hk:k<(allE kd wd mo es).length):(at_ (allE kd wd mo es) (i:Int)).tm≤(at_ (allE kd wd mo es) (k:Int)).tm:=by
 by_cases e:i=k
 ·subst e;exact Int.le_refl _
 ·rw [Ds _ i om,Ds _ k hk]
  exact (List.pairwise_iff_getElem.1 hH.all_asc) i k om hk om
theorem mom_bef(hH:HistOk nd kd wd mo es)(hM:MomentX (allE kd wd mo es) fst j tm own j1):∀i:Nat,i<j1→(at_ (allE kd wd mo es) (i:Int)).tm≤tm:=fun i hi=>by
 by_cases h:i<j
 ·cases hf:fst with
  |true=>have:=(hM.first hf).2;omega
  |false=>
   obtain ⟨h1,h2⟩:=hM.next hf
   rw [h2];exact all_le hH om h1
 ·exact Int.le_of_eq (hM.same i om hi)
theorem mom_next(hH:HistOk nd kd wd mo es)(hM:MomentX (allE kd wd mo es) fst j tm own j1)(h:j1<(allE kd wd mo es).length):tm<(at_ (allE kd wd mo es) (j1:Int)).tm:=by
 have hne:=hM.stop h
 have hle:tm≤(at_ (allE kd wd mo es) (j1:Int)).tm:=by
  cases hf:fst with
  |true=>
   rw [(hM.first hf).1]
   exact (hH.allFit _ (Cf (xs:=allE kd wd mo es) (i:=(j1:Int)) om om)).tm.1
  |false=>
   obtain ⟨h1,h2⟩:=hM.next hf
   rw [h2];exact all_le hH (by have:=hM.le.1;omega) h
 omega
theorem mom_graph(hH:HistOk nd kd wd mo es)(hM:MomentX (allE kd wd mo es) fst j tm own j1):edgesK (linksL ((allE kd wd mo es).take j1))=atG kd wd mo es tm:=by
 unfold atG
 rw [atK_stop hM.le.2 (mom_bef hH hM) (mom_next hH hM)]
def FirstYes(kd wd mo:Int)(es:List Ev)(p:Int→Prop)(t:Int):Prop:=(∃e∈allE kd wd mo es,e.tm=t)∧p t∧∀e∈allE kd wd mo es,e.tm<t→¬p e.tm
def FirstP(kd wd mo:Int)(es:List Ev)(p:Int→Prop)(t:Int)(ok:Bool):Prop:=(ok=true∧FirstYes kd wd mo es p t)∨(ok=false∧t=0∧∀e∈allE kd wd mo es,¬p e.tm)
theorem fi_next{p:Int→Prop}(hM:MomentX (allE kd wd mo es) fst j tm own j1)(hq:∀i:Nat,i<j→¬p (at_ (allE kd wd mo es) (i:Int)).tm)(hn:own=true→¬p tm):∀i:Nat,i<j1→¬p (at_ (allE kd wd mo es) (i:Int)).tm:=fun i hi=>by
 by_cases h:i<j
 ·exact hq i h
 ·rw [hM.same i om hi]
  exact hn (by rw [hM.own,decide_eq_true om])
theorem fi_yes{p:Int→Prop}(hH:HistOk nd kd wd mo es)(hM:MomentX (allE kd wd mo es) fst j tm own j1)(hq:∀i:Nat,i<j→¬p (at_ (allE kd wd mo es) (i:Int)).tm)(ho:own=true)(hp:p tm):FirstYes kd wd mo es p tm:=by
 have hj:j<j1:=by have:=hM.own;rw [ho] at this;exact of_decide_eq_true this.symm
 have hl:=hM.le.2
 refine ⟨⟨_,Cf (xs:=allE kd wd mo es) (i:=(j:Int)) om om,hM.same j (Nat.le_refl _) hj⟩,hp,fun e he hlt=>?_⟩
 obtain ⟨i,hi,rfl⟩:=Ei he
 by_cases h:i<j
 ·exact hq i h
 ·have h1:=all_le hH (i:=j) (k:=i) om hi
  rw [hM.same j (Nat.le_refl _) hj] at h1
  omega
theorem fi_no{p:Int→Prop}(hq:∀i:Nat,i<(allE kd wd mo es).length→¬p (at_ (allE kd wd mo es) (i:Int)).tm):∀e∈allE kd wd mo es,¬p e.tm:=fun e he=>by
 obtain ⟨i,hi,rfl⟩:=Ei he
 exact hq i hi
end
def reachQ(nd kd wd mo:Int)(es:List Ev)(num den t:Int):Prop:=densQ nd (atG kd wd mo es t) num den
set_option maxHeartbeats 2000000 in
theorem AFirst_ok{κ:Ctx}{I:List Item}{nd kd wd mo num den:Int}{ea:Option Addr}{ec:Nat}{es:List Ev}(hl:Sl κ I (.slice ea es.length ec) es)(hH:HistOk nd kd wd mo es)(hlen:es.length≤19)(hf:FrV ⟨num,den⟩)(hT:TabRd κ I 0 tzCells) :
    CallS Tryz.prog κ 47 [I64 (nd),.slice ea es.length ec,.agg #[I64 (kd),I64 (wd),I64 (mo)],.agg #[I64 (num),I64 (den)]] I (fun r J=>∃tv ok,r = .tuple #[I64 tv,.bool ok,I64 0]∧FirstP kd wd mo es (reachQ nd kd wd mo es num den) tv ok∧I=J):=by
 refine CallS.enterM (L:=[(0,I64 (nd)),(1,.slice ea es.length ec),(2,.agg #[I64 (kd),I64 (wd),I64 (mo)]),(3,.agg #[I64 (num),I64 (den)])]) Tryz.func47 rfl rfl rfl rfl ?_
 refine Ai (Ge1 (Bd (cs:=[_,_,_]) rfl rfl rfl) fun b1=>Ge1 (Bd (cs:=[_,_]) rfl rfl rfl) fun b2=>Ge1 (A8 ty3 rfl) fun b3=>Ge1 (A8 ty4 rfl) fun b4=>Ge1 (A8 ty36 rfl) fun b5=>Af (Au (Ai (Gm rfl (Gm rfl (Gl3 ty31 ?_))))))
 refine Gc0 (Ap call97 rfl rfl (ACheck_ok (nd:=nd) (kd:=kd) (wd:=wd) (mo:=mo) (Bj hl))) ?_
 refine Ga rfl (Af (Ar (S8 11 10 9 8 7 6 0 1 rfl rfl rfl rfl rfl rfl rfl rfl) (Ai (Gm rfl (Gr (Be rfl rfl) (Af (A7 rfl (fun c21=>?_) (fun c21=>?_))))))))
 ·exact absurd (slideE_zeroH hH) c21
 ·refine Aw (Aj (Au (Ai (Gl2 ty40 ?_))))
  refine Gc0 (Ap call89 rfl rfl (RatValid_ok (⟨num,den⟩:Fr) (by first|exact hf|exact hBR.frv hGr))) ?_
  refine Gr (Cu rfl) (Af (C9 rfl (Aw (Aj (Au (Ai (Gm rfl (Gm rfl (Gl3 ty31 ?_)))))))))
  refine G.e (Ap call98 rfl rfl Frames_ok) ?_
  rintro _ _ ⟨_,_,⟨qb6,qb7,qb8,rfl,rfl⟩,rfl,rfl⟩
  refine Af (Ar (S5 29 10 9 8 7 rfl rfl rfl rfl rfl) (A4 (W.fit (J:=blk b3 [I64 (0)] 3::blk b4 [.bool false] 4::blk b5 [I64 (0)] 36::blk qb8 [I64 (kd),I64 (wd),I64 (mo)] 31::blk qb7 [.slice ea es.length ec] 28::blk qb6 [I64 (nd)] 3::blk b2 [I64 (num),I64 (den)] 40::blk b1 [I64 (kd),I64 (wd),I64 (mo)] 31::I) Bt ?_)))
  refine W.rangeFnB (gf:=165) (lb:=[.pointer (some ⟨qb6,0,none⟩),.pointer (some ⟨qb7,0,none⟩),.pointer (some ⟨qb8,0,none⟩)]) rfl call165 fun Dm l rc hr1 hr2 hr3 hr4 hta=>?_
  refine (Frames1_ok (I:=blk qb8 [I64 (kd),I64 (wd),I64 (mo)] 31::blk qb7 [.slice ea es.length ec] 28::blk qb6 [I64 (nd)] 3::blk b2 [I64 (num),I64 (den)] 40::blk b1 [I64 (kd),I64 (wd),I64 (mo)] 31::I) (σ:=Unit) (τ:=Int) (l:=l) (Lf:=fun s=>[recI l rc,dfrI Dm,blk b3 [I64 (0)] 3,blk b4 [.bool false] 4,blk b5 [I64 (0)] 36]) (Pf:=fun fst j s=>(∀i:Nat,i<j→¬(reachQ nd kd wd mo es num den) (at_ (allE kd wd mo es) (i:Int)).tm)) (Xf:=fun s=>[recI l {rc with state:= .done,pending:=some .ret},dfrI Dm,blk b3 [I64 (s)] 3,blk b4 [.bool true] 4,blk b5 [I64 (0)] 36]) (Qf:=fun s=>(FirstYes kd wd mo es (reachQ nd kd wd mo es num den) s)) (s0:=()) hH hlen (Ci mm) (Ci mm) (Ci mm) (Bj hl) (fun i h=>absurd h (Nat.not_lt_zero i)) ?_).mono ?_
  ·rintro T hTI fst j tm own j1 ga gc hM _ hp
   have hq:(∀i:Nat,i<j→¬(reachQ nd kd wd mo es num den) (at_ (allE kd wd mo es) (i:Int)).tm):=hp
   have hbq0:BlkRd κ T b2 [I64 (num),I64 (den)] 40:=(Ci (I:=blk qb8 [I64 (kd),I64 (wd),I64 (mo)] 31::blk qb7 [.slice ea es.length ec] 28::blk qb6 [I64 (nd)] 3::blk b2 [I64 (num),I64 (den)] 40::blk b1 [I64 (kd),I64 (wd),I64 (mo)] 31::I) mm).fit hTI
   have hTT:TabRd κ T 0 tzCells:=(B9 (J:=blk qb8 [I64 (kd),I64 (wd),I64 (mo)] 31::blk qb7 [.slice ea es.length ec] 28::blk qb6 [I64 (nd)] 3::blk b2 [I64 (num),I64 (den)] 40::blk b1 [I64 (kd),I64 (wd),I64 (mo)] 31::I) hT A0).fit hTI
   have hmg:=mom_graph hH hM
   have hGr:GrOk nd (edgesK (linksL ((allE kd wd mo es).take j1))):=by rw [hmg];exact hH.graph tm
   refine YieldB.fit (J:=recI l rc::vc 135 (.slice ga (edgesK (linksL ((allE kd wd mo es).take j1))).length gc) (edgesK (linksL ((allE kd wd mo es).take j1)))::dfrI Dm::blk b3 [I64 (0)] 3::blk b4 [.bool false] 4::blk b5 [I64 (0)] 36::T) Bt ?_
   refine YieldB.mkA (L₀:=[(31,.agg #[I64 (nd),.slice ga (edgesK (linksL ((allE kd wd mo es).take j1))).length gc]),(30,.agg #[I64 (tm),.bool (own)]),(29,.func (.func 165) #[] #[.pointer (some ⟨qb6,0,none⟩),.pointer (some ⟨qb7,0,none⟩),.pointer (some ⟨qb8,0,none⟩)]),(10,.pointer (some ⟨b5,0,none⟩)),(9,.pointer (some ⟨b4,0,none⟩)),(8,.pointer (some ⟨b3,0,none⟩)),(7,.pointer (some ⟨b2,0,none⟩))]) (by rw [hr2];rfl) hr3 hr4 (by rw [hr2,fold_two];exact ag_two hta rfl rfl) ?_
   refine D7 ?_
   refine C3 (fun _ _ h=>False.elim h) rfl ?_
   refine Ge1 (A8 ty153 rfl) fun b9=>Ge0 (Ce ty153) ?_
   refine Bc (Dn ?_)
   refine C3 (fun _ _ h=>False.elim h) rfl ?_
   refine Ge1 (A8 ty48 rfl) fun b10=>Ge0 (Ce ty48) ?_
   refine Bc (V.begin (blk b10 [I64 (nd),.slice ga (edgesK (linksL ((allE kd wd mo es).take j1))).length gc] 48::blk b9 [I64 (tm),.bool (own)] 153::vc 135 (.slice ga (edgesK (linksL ((allE kd wd mo es).take j1))).length gc) (edgesK (linksL ((allE kd wd mo es).take j1)))::dfrI Dm::blk b3 [I64 (0)] 3::blk b4 [.bool false] 4::blk b5 [I64 (0)] 36::T) Bt hr1 ?_)
   refine WR.block ?_
   refine D7 ?_
   refine C3 (fun _ _ h=>False.elim h) rfl ?_
   refine Gl2 ty48 ?_
   refine G.e (Ap call100 rfl rfl (BestD_ok (nd:=nd) Bf (B9 hTT A0))) ?_
   rintro _ _ ⟨_,_,⟨ad11,cp12,Bqq15,ad13,cp14,ptq15,Nqq15,Dqq15,Eqq15,rfl,hBR,rfl⟩,rfl,rfl⟩
   refine Gm rfl (Gr (A2 rfl rfl) (Gr (A2 rfl rfl) (Ge1 (A8 ty102 rfl) fun b16=>Ge0 (Es5_5 ty102) ?_)))
   refine Ga rfl (Bc (Dn ?_))
   refine Ex (L':=[(15,_),(14,_),(12,_),(10,_),(9,_),(8,_),(7,_)]) (Aa rfl (Aa rfl (Aa rfl (Aa rfl (Aa rfl (Aa rfl (Aa rfl Bg))))))) ?_
   refine D7 ?_
   refine C3 (fun _ _ h=>False.elim h) rfl ?_
   refine Gf fld153_1 rfl (Gl ty4 ?_)
   refine Gm rfl (G.splitb (d:=39) rfl (fun g39=>?_) (fun g39=>?_))
   ·refine Gro (Ad rfl) (Gro (Bi rfl rfl) (Gr (Ao rfl rfl) (Gm rfl (Bb (d:=43) rfl (fun g43=>?_) (fun g43=>?_)))))
    ·refine Gro (Ab fld102_1 rfl) (Gro (Bq (vs:=[_,_]) ty40) ?_)
     refine Gro (Runs.loadBs (vs:=[_,_]) ty40 rfl (Cm hbq0 A0) rfl rfl) ?_
     refine Eo (Cv rfl rfl rfl) (Ap call101 rfl rfl (RatCmp_ok (⟨Nqq15,Dqq15⟩:Fr) (⟨num,den⟩:Fr) (by first|exact hf|exact hBR.frv hGr) (by first|exact hf|exact hBR.frv hGr))) ?_
     rintro _ _ ⟨_,_,⟨rfl,rfl⟩,rfl,rfl⟩
     refine Gro (B6 rfl rfl) (Gr (Ao rfl rfl) (Bc (Dn ?_)))
     refine Ex (L':=[(49,_),(12,_),(10,_),(9,_),(8,_)]) (Aa rfl (Aa rfl (Aa rfl (Aa rfl (Aa rfl Bg))))) ?_
     refine WR.ite rfl (fun c49=>?_) (fun c49=>?_)
     ·refine D7 ?_
      refine C3 (fun _ _ h=>False.elim h) rfl ?_
      refine Gf fld153_0 rfl (Gl ty3 ?_)
      refine Ge0 (Cy (cs:=[_]) (vs:=[_]) (cs':=[_]) ty3) ?_
      refine Ge0 (Cy (cs:=[_]) (vs:=[_]) (cs':=[_]) ty4) ?_
      refine Ge0 (Cy (cs:=[_]) (vs:=[_]) (cs':=[_]) ty36) ?_
      refine Bc (Dn ?_)
      refine WR.ret ?_
      exact Av (V.roundRet (dfrI Dm::blk b3 [I64 (tm)] 3::blk b4 [.bool true] 4::blk b5 [I64 (0)] 36::T) Bt (.inr ⟨rfl,(tm),(show (FirstYes kd wd mo es (reachQ nd kd wd mo es num den) tm) from (fi_yes hH hM hq g39 (by have h:=(hBR.holds hGr hf).1 c49;rw [hmg] at h;exact h))),rfl⟩))
     ·refine WR.skip ?_
      exact Ak (Ef (dfrI Dm::blk b3 [I64 (0)] 3::blk b4 [.bool false] 4::blk b5 [I64 (0)] 36::T) Bt hr1 (.inl ⟨rfl,(),(show (∀i:Nat,i<j1→¬(reachQ nd kd wd mo es num den) (at_ (allE kd wd mo es) (i:Int)).tm) from (fi_next hM hq (by first|exact fun h=>absurd (g39.symm.trans h) dc|exact fun _ h=>c49 ((hBR.holds hGr hf).2 (by rw [hmg];exact h))))),rfl⟩))
    ·exact absurd (checkG_ok.2 hGr) g43
   ·refine Gpo (Gpo (Gr (Al rfl rfl) (Gm rfl (Gpo (Gpo (Gpo (Gpo (Gpo (Gr (Al rfl rfl) (Bc (Dn ?_)))))))))))
    refine Ex (L':=[(49,_),(12,_),(10,_),(9,_),(8,_)]) (Aa rfl (Aa rfl (Aa rfl (Aa rfl (Aa rfl Bg))))) ?_
    refine WR.no rfl ?_
    refine WR.skip ?_
    exact Ak (Ef (dfrI Dm::blk b3 [I64 (0)] 3::blk b4 [.bool false] 4::blk b5 [I64 (0)] 36::T) Bt hr1 (.inl ⟨rfl,(),(show (∀i:Nat,i<j1→¬(reachQ nd kd wd mo es num den) (at_ (allE kd wd mo es) (i:Int)).tm) from (fi_next hM hq (by first|exact fun h=>absurd (g39.symm.trans h) dc|exact fun _ h=>c49 ((hBR.holds hGr hf).2 (by rw [hmg];exact h))))),rfl⟩))
  rintro v K ⟨rfl,(⟨_,hp,rfl⟩|⟨tv,hp,rfl⟩)⟩
  ·have hq:(∀i:Nat,i<(allE kd wd mo es).length→¬(reachQ nd kd wd mo es num den) (at_ (allE kd wd mo es) (i:Int)).tm):=hp
   refine .inl ⟨_,rfl,?_⟩
   show V κ _ _ .normal ([(29,.func (.func 165) #[] #[.pointer (some ⟨qb6,0,none⟩),.pointer (some ⟨qb7,0,none⟩),.pointer (some ⟨qb8,0,none⟩)]),(10,.pointer (some ⟨b5,0,none⟩)),(9,.pointer (some ⟨b4,0,none⟩)),(8,.pointer (some ⟨b3,0,none⟩)),(7,.pointer (some ⟨b2,0,none⟩))]:Env) (dfrI Dm::blk b3 [I64 (0)] 3::blk b4 [.bool false] 4::blk b5 [I64 (0)] 36::blk qb8 [I64 (kd),I64 (wd),I64 (mo)] 31::blk qb7 [.slice ea es.length ec] 28::blk qb6 [I64 (nd)] 3::blk b2 [I64 (num),I64 (den)] 40::blk b1 [I64 (kd),I64 (wd),I64 (mo)] 31::I)
   refine Ak (Aj (Ai (Ge0 (Cy (cs:=[_]) (vs:=[_]) (cs':=[_]) ty3) ?_)))
   refine Ge0 (Cy (cs:=[_]) (vs:=[_]) (cs':=[_]) ty4) ?_
   refine Ge0 (Cy (cs:=[_]) (vs:=[_]) (cs':=[_]) ty36) ?_
   refine Af (Ax (V.fit (J:=dfrI Dm::blk b3 [I64 (0)] 3::blk b4 [.bool false] 4::blk b5 [I64 (0)] 36::blk qb8 [I64 (kd),I64 (wd),I64 (mo)] 31::blk qb7 [.slice ea es.length ec] 28::blk qb6 [I64 (nd)] 3::blk b2 [I64 (num),I64 (den)] 40::blk b1 [I64 (kd),I64 (wd),I64 (mo)] 31::I) Bt (V.leave ?_)))
   exact V.retv3 rfl ty3 ty4 ty36 rfl rfl rfl mm mm mm (I) A0 ⟨0,false,rfl,.inr ⟨rfl,rfl,fi_no hq⟩,rfl⟩
  ·have hQ:(FirstYes kd wd mo es (reachQ nd kd wd mo es num den) tv):=hp
   refine .inr ⟨_,_,rfl,?_⟩
   show W Tryz.prog κ _ _ _ ([(29,.func (.func 165) #[] #[.pointer (some ⟨qb6,0,none⟩),.pointer (some ⟨qb7,0,none⟩),.pointer (some ⟨qb8,0,none⟩)]),(10,.pointer (some ⟨b5,0,none⟩)),(9,.pointer (some ⟨b4,0,none⟩)),(8,.pointer (some ⟨b3,0,none⟩)),(7,.pointer (some ⟨b2,0,none⟩))]:Env) (dfrI Dm::blk b3 [I64 (tv)] 3::blk b4 [.bool true] 4::blk b5 [I64 (0)] 36::blk qb8 [I64 (kd),I64 (wd),I64 (mo)] 31::blk qb7 [.slice ea es.length ec] 28::blk qb6 [I64 (nd)] 3::blk b2 [I64 (num),I64 (den)] 40::blk b1 [I64 (kd),I64 (wd),I64 (mo)] 31::I)
   refine Ax (Av (Ah (V.fit (J:=dfrI Dm::blk b3 [I64 (tv)] 3::blk b4 [.bool true] 4::blk b5 [I64 (0)] 36::blk qb8 [I64 (kd),I64 (wd),I64 (mo)] 31::blk qb7 [.slice ea es.length ec] 28::blk qb6 [I64 (nd)] 3::blk b2 [I64 (num),I64 (den)] 40::blk b1 [I64 (kd),I64 (wd),I64 (mo)] 31::I) Bt (V.leave ?_))))
   exact V.retv3 rfl ty3 ty4 ty36 rfl rfl rfl mm mm mm (I) A0 ⟨tv,true,rfl,.inl ⟨rfl,hQ⟩,rfl⟩
end Go.Sl
/- The links at a time depend on the events up to it alone. No conditions. -/
namespace Go.Sl
end Go.Sl
namespace Go.Sl
open Go.Proofs
set_option maxRecDepth 4000
section
variable {P:Program}{κ:Ctx}{N:Frm}{L:Env}{J:List Item}{d:Option Tmp}{ty:TypeId}{ps:String}{af:Array Edge}{gd:Option (Nat×Bool)}
theorem Runs.eqC{x y:Operand}{T U:TypeId}{v u:Value}{b:Bool}(hg:∀w:World,(eqGuard .eql T x y v u).run P w = .ok () w)(hT:∀w:World,(binOp .eql T v u).run P w = .ok (.bool b) w)(hx:evalO L x=some v)(hy:evalO L y=some u) :
  Runs P κ N ⟨d,.binOp .eql T x y U,ty,ps,af,gd⟩ L J (.bool b):=fun a w ha _=>by
 simp only [execOp,ha.eval hx,ha.eval hy]
 simp [hg w,hT w]
end
theorem QOf8_ok{κ:Ctx}{I:List Item}  :
    CallS Tryz.prog κ 176 [I64 (8)] I (fun r J=>r = .agg #[.bool false,.bool false,.bool false,.bool false,.bool true]∧I=J):=by
 refine Ce1 Tryz.func176 rfl rfl ?_
 refine Ai (Ge1 (A8 ty220 rfl) fun b1=>Af (Ai (Ge1 (A8 ty220 rfl) fun b2=>Af (Au (Ai (Gm rfl (Af (A4 (Au (A4 (Au (A4 (Au (A4 (Au (A4 (Au (A4 (Au (A4 (Au (A4 (Au (Au (Ai (Gr (Bi rfl rfl) (Ga rfl (Af (A7 rfl (fun c5=>?_) (fun c5=>?_))))))))))))))))))))))))))))))
 ·exact absurd c5 dc
 ·refine Aw (Aj (Au (Ai (Gr (Bi rfl rfl) (Ga rfl (Af (A7 rfl (fun c7=>?_) (fun c7=>?_))))))))
  ·exact absurd c7 dc
  ·refine Aw (Aj (Au (Ai (Gr (Bi rfl rfl) (Ga rfl (Af (A7 rfl (fun c9=>?_) (fun c9=>?_))))))))
   ·exact absurd c9 dc
   ·refine Aw (Aj (Au (Au (Ai (Gr (Bi rfl rfl) (Ga rfl (Af (A7 rfl (fun c11=>?_) (fun c11=>?_)))))))))
    ·exact absurd c11 dc
    ·refine Az (Gr (Bi rfl rfl) (Ga rfl (Af (Ar (S4 11 4 3 2 rfl rfl rfl rfl) (A7 rfl (fun c11=>?_) (fun c11=>?_))))))
     ·exact absurd c11 dc
     ·refine Aw (Aj (Au (Au (Ai (Gr (Bi rfl rfl) (Ga rfl (Af (A7 rfl (fun c14=>?_) (fun c14=>?_)))))))))
      ·exact absurd c14 dc
      ·refine Ai (Gr (Bi rfl rfl) (Ga rfl (Af (A7 rfl (fun c14=>?_) (fun c14=>?_)))))
       ·exact absurd c14 dc
       ·refine Az (Gr (Bi rfl rfl) (Ga rfl (Af (A7 rfl (fun c14=>?_) (fun c14=>?_)))))
        ·exact absurd c14 dc
        ·refine Aw (Aj (Au (Ai (Gr (Bi rfl rfl) (Ga rfl (Af (A7 rfl (fun c18=>?_) (fun c18=>?_))))))))
         ·refine Bs (Am (Am (Dg rfl (Am (Dg rfl (Am (Dg rfl (Am (Dg rfl (Am (Dg rfl (Am (A6 (Aj (Ai (Gf fld220_4 rfl (Ge0 (Cy (cs:=[_,_,_,_,_]) (vs:=[_]) (cs':=[_,_,_,_,_]) ty4) ?_)))))))))))))))))
          refine Af (Bs (Dg rfl (Am (A6 (Aj (Ai (Gr (Bq (vs:=[_,_,_,_,_]) ty220) ?_)))))))
          refine Ge0 (Es5_5 ty220) ?_
          exact Af (Ar (S1 2 rfl) (Ax (D1 rfl ty220 rfl mm rfl (I) A0 ⟨rfl,rfl⟩)))
         ·exact absurd rfl c18
theorem QCheck8_ok{κ:Ctx}{I:List Item}{n num den:Int}(hf:FrV ⟨num,den⟩) :
    CallS Tryz.prog κ 105 [.agg #[I64 (8),I64 (0),I64 (0),I64 (0),.slice none 0 0,I64 (num),I64 (den)],I64 (n)] I (fun r J=>r=I64 0∧I=J):=by
 have hn0:0≤num:=hf.n0
 refine Ce2 Tryz.func105 rfl rfl ?_
 refine Ai (Ge1 (Bd (cs:=[_,_,_,_,_,_,_]) rfl rfl rfl) fun b1=>Ga rfl (Af (Ai (Gf fld71_0 rfl (Gl ty3 ?_)))))
 refine G.e (Ap call176 rfl rfl QOf8_ok) ?_
 rintro _ _ ⟨_,_,⟨rfl,rfl⟩,rfl,rfl⟩
 refine Ge1 (A8 ty220 rfl) fun b2=>Ge0 (Es5_5 ty220) ?_
 refine Af (Au (A4 (Ai (Gr (Bq (vs:=[_,_,_,_,_]) ty220) ?_))))
 refine Gr (Bl (cells:=[_,_,_,_,_]) ty220 Tryz.underlying220 pl220 rfl rfl) (Gr (Runs.eqC (fun w=>by kernel_rfl) (fun w=>by kernel_rfl) rfl rfl) (Ga rfl (Af (C9 rfl (Ai (Gf fld220_0 rfl (Gl ty4 ?_)))))))
 refine Gm rfl (Gpo (Gpo (Gpo (Gpo (Gpu (Gpu (Gpu (Gpu (Gpo (Gr (Al rfl rfl) (Gm rfl (Gro (Ab fld220_1 rfl) (Gro (As ty4) ?_)))))))))))))
 refine Gro (Ad rfl) (Gpo (Gpo (Gpo (Gpo (Gpo (Gpo (Gpo (Gro (Al rfl rfl) (Gr (Al rfl rfl) (Ga rfl (Af (Ar (S3 13 5 2 rfl rfl rfl) (C9 rfl (Ai (Gf fld220_3 rfl (Gl ty4 ?_))))))))))))))))
 refine Gm rfl (Gpo (Gpo (Gpo (Gpo (Gpu (Gpu (Gpu (Gpo (Gr (Al rfl rfl) (Ga rfl (Af (Ar (S3 40 5 2 rfl rfl rfl) (C9 rfl (Ai (Gf fld220_2 rfl (Gl ty4 ?_))))))))))))))))
 refine Gm rfl (Gpo (Gpo (Gpo (Gpo (Gpu (Gpu (Gpu (Gpo (Gr (Al rfl rfl) (Gm rfl (Gro (Ab fld220_4 rfl) (Gro (As ty4) ?_))))))))))))
 refine Gro (Ad rfl) (Gro (Ab fld71_5 rfl) (Gro (Bq (vs:=[_,_]) ty40) ?_))
 refine Eo (Cv rfl rfl rfl) (Ap call89 rfl rfl (RatValid_ok (⟨num,den⟩:Fr) hf)) ?_
 rintro _ _ ⟨_,_,⟨rfl,rfl⟩,rfl,rfl⟩
 refine Gro (Cu rfl) (Gro (Ad rfl) (Gro (Ab fld71_5 rfl) (Gro (Ab fld40_0 rfl) (Gro (As ty3) ?_))))
 refine Gro (A9 rfl rfl) (Gro (Al rfl rfl) (Gro (Ao rfl rfl) (Gr (Al rfl rfl) (Ga rfl (Af (Ar (S3 53 5 2 rfl rfl rfl) (A7 rfl (fun c53=>?_) (fun c53=>?_))))))))
 ·refine Ai (Ga rfl (Af (Ax (Av (Ah ?_)))))
  exfalso;first|omega|(exact absurd rfl asm)|(simp_all;done)
 ·refine Ai (Gf fld220_0 rfl (Gl ty4 ?_))
  refine Gr (Cu rfl) (Gm rfl (Gro (Ab fld71_1 rfl) (Gro (As ty3) ?_)))
  refine Gro (Be rfl rfl) (Gr (Ao rfl rfl) (Gm rfl (Bb (d:=91) rfl (fun g91=>?_) (fun g91=>?_))))
  ·refine Gpo (Gpo (Gpo (Gpo (Gpu (Gpu (Gpu (Gpu (Gpo (Gr (Ao rfl rfl) (Gm rfl (Gpo (Gpo (Gpo (Gpo (Gpu (Gpu (Gpu (Gpo (Gr (Ao rfl rfl) (Gm rfl (Gpo (Gpo (Gpo (Gpo (Gpu (Gpu (Gpu (Gpo (Gr (Ao rfl rfl) (Gm rfl (Gpo (Gpo (Gpo (Gpo (Gpu (Gpu (Gpu (Gpu (Gpo (Gr (Ao rfl rfl) (Ga rfl (Af (Ar (S1 82 rfl) (Ca rfl (Ai (Ga rfl (Af (Ax (Av (Ah ?_))))))))))))))))))))))))))))))))))))))))))))))))))
   exfalso;first|omega|(exact absurd rfl asm)|(simp_all;done)
  ·refine Gro (Ab fld220_1 rfl) (Gro (As ty4) ?_)
   refine Gro (Cu rfl) (Gro (Ad rfl) (Gro (Ab fld71_4 rfl) (Gro (As ty22) ?_)))
   refine Gro (Bp Ac rfl) (Gro (Bz rfl rfl) (Gro (Ao rfl rfl) (Gr (Al rfl rfl) (Gm rfl (Bb (d:=102) rfl (fun g102=>?_) (fun g102=>?_))))))
   ·refine Gpo (Gpo (Gpo (Gpo (Gpu (Gpu (Gpu (Gpo (Gr (Ao rfl rfl) (Gm rfl (Gpo (Gpo (Gpo (Gpo (Gpu (Gpu (Gpu (Gpo (Gr (Ao rfl rfl) (Gm rfl (Gpo (Gpo (Gpo (Gpo (Gpu (Gpu (Gpu (Gpu (Gpo (Gr (Ao rfl rfl) (Ga rfl (Af (Ar (S1 82 rfl) (Ca rfl (Ai (Ga rfl (Af (Ax (Av (Ah ?_)))))))))))))))))))))))))))))))))))))))
    exfalso;first|omega|(exact absurd rfl asm)|(simp_all;done)
   ·refine Gro (Ab fld220_3 rfl) (Gro (As ty4) ?_)
    refine Gro (Cu rfl) (Gro (Ad rfl) (Gro (Ab fld71_3 rfl) (Gro (As ty3) ?_)))
    refine Gro (Be rfl rfl) (Gro (Ao rfl rfl) (Gr (Al rfl rfl) (Gm rfl (Bb (d:=112) rfl (fun g112=>?_) (fun g112=>?_)))))
    ·refine Gpo (Gpo (Gpo (Gpo (Gpu (Gpu (Gpu (Gpo (Gr (Ao rfl rfl) (Gm rfl (Gpo (Gpo (Gpo (Gpo (Gpu (Gpu (Gpu (Gpu (Gpo (Gr (Ao rfl rfl) (Ga rfl (Af (Ar (S1 82 rfl) (Ca rfl (Ai (Ga rfl (Af (Ax (Av (Ah ?_)))))))))))))))))))))))))))))
     exfalso;first|omega|(exact absurd rfl asm)|(simp_all;done)
    ·refine Gro (Ab fld220_2 rfl) (Gro (As ty4) ?_)
     refine Gro (Cu rfl) (Gro (Ad rfl) (Gro (Ab fld71_2 rfl) (Gro (As ty3) ?_)))
     refine Gro (Be rfl rfl) (Gro (Ao rfl rfl) (Gr (Al rfl rfl) (Gm rfl (Bb (d:=122) rfl (fun g122=>?_) (fun g122=>?_)))))
     ·refine Gpo (Gpo (Gpo (Gpo (Gpu (Gpu (Gpu (Gpu (Gpo (Gr (Ao rfl rfl) (Ga rfl (Af (Ar (S1 82 rfl) (Ca rfl (Ai (Ga rfl (Af (Ax (Av (Ah ?_)))))))))))))))))))
      exfalso;first|omega|(exact absurd rfl asm)|(simp_all;done)
     ·refine Gro (Ab fld220_4 rfl) (Gro (As ty4) ?_)
      exact Gro (Cu rfl) (Gro (Ad rfl) (Gpo (Gpo (Gpo (Gpo (Gro (Al rfl rfl) (Gr (Al rfl rfl) (Ga rfl (Af (Ar (S1 82 rfl) (C9 rfl (Aw (Ak (Aj (Ai (Ga rfl (Af (Ax (Ay rfl rfl (I) A0 ⟨rfl,rfl⟩)))))))))))))))))))
theorem PAt_ok{κ:Ctx}{I:List Item}{nd kd wd mo tq:Int}{ea:Option Addr}{ec:Nat}{es:List Ev}(hl:Sl κ I (.slice ea es.length ec) es)(hH:HistOk nd kd wd mo es)(hlen:es.length≤19)(ht:0≤tq∧tq≤1048576) :
    CallS Tryz.prog κ 180 [.agg #[I64 (nd),.slice ea es.length ec,I64 (kd),I64 (wd),I64 (mo)],I64 (tq)] I (fun r J=>∃a c,r = .agg #[I64 nd,.slice a (atG kd wd mo es tq).length c]∧J=vc 135 (.slice a (atG kd wd mo es tq).length c) (atG kd wd mo es tq)::I):=by
 refine Ce2 Tryz.func180 rfl rfl ?_
 refine Ai (Ge1 (Bd (cs:=[_,_,_,_,_]) rfl rfl rfl) fun b1=>Ge1 (A8 ty48 rfl) fun b2=>Af (Ai (Gf fld163_0 rfl (Gl ty3 ?_))))
 refine Gf fld163_1 rfl (Gl ty28 ?_)
 refine Gf fld163_2 rfl (Gl3 ty31 ?_)
 refine Gm rfl (G.e (Ap call44 rfl rfl (At_ok (nd:=nd) (kd:=kd) (wd:=wd) (mo:=mo) (tq:=tq) (Bj hl) hH hlen ht)) ?_)
 rintro _ _ ⟨_,_,⟨ad3,cp4,rfl,rfl⟩,rfl,rfl⟩
 refine Gm rfl (Gr (A2 rfl rfl) (Gr (A2 rfl rfl) (Ge1 (A8 ty48 rfl) fun b5=>Ge0 (Ce ty48) ?_)))
 refine Ga rfl (Af (Ar (S2 5 4 rfl rfl) (Ai (Gl2 ty48 ?_))))
 refine Ge0 (Ce ty48) ?_
 exact Af (Ax (D1 rfl ty48 rfl mm rfl (vc 135 (.slice ad3 (atG kd wd mo es tq).length cp4) (atG kd wd mo es tq)::I) Bt ⟨ad3,cp4,rfl,rfl⟩))
set_option maxHeartbeats 1000000 in
theorem ADense_ok{κ:Ctx}{I:List Item}{nd tv:Int}{ea:Option Addr}{ec:Nat}{es:List Pt}(hl:Sl κ I (.slice ea es.length ec) es)(hT:TabRd κ I 0 tzCells) :
    CallS Tryz.prog κ 186 [.agg #[I64 (nd),.slice ea es.length ec],.agg #[.bool false,I64 (0),I64 (tv),.slice none 0 0,I64 (0),I64 (0),.slice none 0 0,.slice none 0 0,.slice none 0 0,I64 (0),.slice none 0 0]] I (fun r J=>∃a c B a2 c2 parts N D E,r = .agg #[.bool true,I64 0,I64 (tv),.slice a (listB B).length c,I64 N,I64 D,.slice none 0 0,.slice none 0 0,.slice none 0 0,I64 E,.slice a2 (parts:List Int).length c2]∧BestR nd es N D B∧J=vc 3 (.slice a (listB B).length c) (listB B)::vc 3 (.slice a2 parts.length c2) parts::I):=by
 refine Ce2 Tryz.func186 rfl rfl ?_
 refine Ai (Ge1 (Bd (cs:=[_,_]) rfl rfl rfl) fun b1=>Ge1 (Bd (cs:=[_,_,_,_,_,_,_,_,_,_,_]) rfl rfl rfl) fun b2=>Ge1 (A8 ty90 rfl) fun b3=>Af (Ai (Gl2 ty48 ?_)))
 refine G.e (Ap call100 rfl rfl (BestD_ok (nd:=nd) (Bj hl) (B9 hT A0))) ?_
 rintro _ _ ⟨_,_,⟨ad4,cp5,Bqq8,ad6,cp7,ptq8,Nqq8,Dqq8,Eqq8,rfl,hBR,rfl⟩,rfl,rfl⟩
 refine Gm rfl (Gr (A2 rfl rfl) (Gr (A2 rfl rfl) (Ge1 (A8 ty102 rfl) fun b9=>Ge0 (Es5_5 ty102) ?_)))
 refine Ga rfl (Af (Au (Bk mixed (Bo (blk b9 [.slice ad4 (listB Bqq8).length cp5,I64 (Nqq8),I64 (Dqq8),I64 (Eqq8),.slice ad6 ptq8.length cp7] 102::vc 3 (.slice ad4 (listB Bqq8).length cp5) (listB Bqq8)::vc 3 (.slice ad6 ptq8.length cp7) (ptq8)::blk b3 [.bool false,I64 (0),I64 (0),.slice none 0 0,I64 (0),I64 (0),.slice none 0 0,.slice none 0 0,.slice none 0 0,I64 (0),.slice none 0 0] 90::blk b1 [I64 (nd),.slice ea es.length ec] 48::I) 14 (Dr 0 rfl (Ab fld102_0 rfl) (Dr 1 rfl (As ty22) ?_))))))
 refine Dr 2 rfl (Ab fld102_1 rfl) (Dr 3 rfl (Bq (vs:=[_,_]) ty40) ?_)
 refine Dr 4 rfl (Ab fld102_2 rfl) (Dr 5 rfl (Bq (vs:=[_,_]) ty88) ?_)
 refine Dr 6 rfl (Ab fld90_0 rfl) (Ds1 7 (Se0 rfl (Cy (cs:=[_,_,_,_,_,_,_,_,_,_,_]) (vs:=[_]) (cs':=[_,_,_,_,_,_,_,_,_,_,_]) ty4) ?_))
 refine Dr 8 rfl (Ab fld90_3 rfl) (Ds1 9 (Se0 rfl (Cy (cs:=[_,_,_,_,_,_,_,_,_,_,_]) (vs:=[_]) (cs':=[_,_,_,_,_,_,_,_,_,_,_]) ty22) ?_))
 refine Dr 10 rfl (Ab fld90_4 rfl) (Ds1 11 (Se0 rfl (Cy (cs:=[_,_,_,_,_,_,_,_,_,_,_]) (vs:=[_,_]) (cs':=[_,_,_,_,_,_,_,_,_,_,_]) ty40) ?_))
 refine Dr 12 rfl (Ab fld90_8 rfl) (Ds1 13 (Se0 rfl (Cy (cs:=[_,_,_,_,_,_,_,_,_,_,_]) (vs:=[_,_]) (cs':=[_,_,_,_,_,_,_,_,_,_,_]) ty88) ?_))
 refine Dz (Aj (Ar (S2 4 3 rfl rfl) (Ai (Gr (Bq (vs:=[_,_,_,_,_,_,_,_,_,_,_]) ty90) ?_))))
 refine Ge0 (Cy (cs:=[_,_,_,_,_,_,_,_,_,_,_]) (vs:=[_,_,_,_,_,_,_,_,_,_,_]) (cs':=[_,_,_,_,_,_,_,_,_,_,_]) ty90) ?_
 exact Af (Ax (D1 rfl ty90 rfl mm rfl (vc 3 (.slice ad4 (listB Bqq8).length cp5) (listB Bqq8)::vc 3 (.slice ad6 ptq8.length cp7) ptq8::I) Bt ⟨ad4,cp5,Bqq8,ad6,cp7,ptq8,Nqq8,Dqq8,Eqq8,rfl,hBR,rfl⟩))
end Go.Sl
namespace Go.Sl
end Go.Sl
namespace Go.Sl
open Go.Proofs
set_option maxRecDepth 4000
theorem lateTm_yes{kd wd:Int}{xs:List Lk}{k:Nat}(h:k<xs.length)(h1:kd=2)(h2:(at_ xs (k:Int)).tm+wd≤1048576):(lateL kd wd (xs.take (k+1))).map Ev.tm=(lateL kd wd (xs.take k)).map Ev.tm++[(at_ xs (k:Int)).tm+wd]:=by
 rw [late_yes h h1 h2,List.map_append];rfl
theorem lateTm_no{kd wd:Int}{xs:List Lk}{k:Nat}(h:k<xs.length)(h1:¬kd=2∨¬(at_ xs (k:Int)).tm+wd≤1048576):(lateL kd wd (xs.take (k+1))).map Ev.tm=(lateL kd wd (xs.take k)).map Ev.tm:=by rw [late_no h h1]
end Go.Sl
namespace Go.Sl
end Go.Sl
namespace Go.Sl
open Go.Proofs
set_option maxRecDepth 4000
variable {κ:Ctx}{I:List Item}
theorem MkWindowV_base{b:Nat}{lv:Value}{ls:List Int}{i:Int}(hl:∀q,Sl κ (deck b lv q::I) lv ls)(h0:0≤i)   :
    CallS Tryz.prog κ 21 [.pointer (some ⟨b,0,none⟩)] (blk b [lv,I64 (i)] 125::I) (fun r J=>∃y:Int×Int×Int×Int,((r = .agg #[I64 y.1,I64 y.2.1,I64 y.2.2.1]∧checkW y.1 y.2.1 y.2.2.1=0)∧0≤y.2.2.2)∧J=[]++deck b lv y.2.2.2::I):=by
 refine Ce1 Tryz.func21 rfl rfl ?_
 refine Ai (Ge1 (A8 ty31 rfl) fun b1=>Af (Au (Ai (Gm rfl (G.e (Ap call19 rfl rfl (Next_ok (by repeat (first|exact AtF.head _ _|apply AtF.tail)) (B7 (hl _) A0) om om)) ?_)))))
 rintro _ _ ⟨_,_,⟨x2,i3,rfl,hx2,hi3,rfl⟩,rfl,rfl⟩
 show G Tryz.prog κ _ _ _ _ ([(4,I64 (x2)),(3,.pointer (some ⟨b,0,none⟩)),(2,.pointer (some ⟨b1,0,none⟩)),(0,.pointer (some ⟨b,0,none⟩))]:Env) (blk b1 [I64 (0),I64 (0),I64 (0)] 31::blk b [lv,I64 (i3)] 125::I)
 refine Af (A4 (Ai (Gr (Bi rfl rfl) (Ga rfl (Af (A7 rfl (fun c5=>?_) (fun c5=>?_)))))))
 ·refine Ai (Gm rfl (G.e (Ap call19 rfl rfl (Next_ok (by repeat (first|exact AtF.head _ _|apply AtF.tail)) (B7 (hl _) A0) om om)) ?_))
  rintro _ _ ⟨_,_,⟨x4,i5,rfl,hx4,hi5,rfl⟩,rfl,rfl⟩
  show G Tryz.prog κ _ _ _ _ ([(8,I64 (x4)),(7,.pointer (some ⟨b,0,none⟩)),(5,.bool (decide (x2=1))),(6,.bool (decide (x2=1))),(4,I64 (x2)),(3,.pointer (some ⟨b,0,none⟩)),(2,.pointer (some ⟨b1,0,none⟩)),(0,.pointer (some ⟨b,0,none⟩))]:Env) (blk b1 [I64 (0),I64 (0),I64 (0)] 31::blk b [lv,I64 (i5)] 125::I)
  refine Gr (Rad rfl rfl) (Gr (Bl (cells:=[_,_,_]) ty31 Et pl31 rfl rfl) (Ge0 (Es3_3 ty31) ?_))
  exact Af (Ax (Av (Ah (D1 rfl ty31 rfl mm rfl (blk b [lv,I64 (i5)] 125::I) A5 ⟨(2,1+x4,0,i5),⟨⟨rfl,by show checkW (2) (1+x4) (0)=0;unfold checkW;rw [if_neg om,if_neg om]⟩,by show 0≤i5;omega⟩,rfl⟩))))
 ·refine Ai (Gr (Bi rfl rfl) (Ga rfl (Af (A7 rfl (fun c11=>?_) (fun c11=>?_)))))
  ·refine Ai (Gm rfl (G.e (Ap call19 rfl rfl (Next_ok (by repeat (first|exact AtF.head _ _|apply AtF.tail)) (B7 (hl _) A0) om om)) ?_))
   rintro _ _ ⟨_,_,⟨x6,i7,rfl,hx6,hi7,rfl⟩,rfl,rfl⟩
   show G Tryz.prog κ _ _ _ _ ([(14,I64 (x6)),(13,.pointer (some ⟨b,0,none⟩)),(11,.bool (decide (x2=2))),(12,.bool (decide (x2=2))),(5,.bool (decide (x2=1))),(6,.bool (decide (x2=1))),(4,I64 (x2)),(3,.pointer (some ⟨b,0,none⟩)),(2,.pointer (some ⟨b1,0,none⟩)),(0,.pointer (some ⟨b,0,none⟩))]:Env) (blk b1 [I64 (0),I64 (0),I64 (0)] 31::blk b [lv,I64 (i7)] 125::I)
   refine Gr (Bl (cells:=[_,_,_]) ty31 Et pl31 rfl rfl) (Ge0 (Es3_3 ty31) ?_)
   exact Af (Ax (Av (Ah (D1 rfl ty31 rfl mm rfl (blk b [lv,I64 (i7)] 125::I) A5 ⟨(3,0,x6,i7),⟨⟨rfl,by show checkW (3) (0) (x6)=0;unfold checkW;rw [if_neg om,if_neg om]⟩,by show 0≤i7;omega⟩,rfl⟩))))
  ·refine Aw (Ak (Aj (Ai (Gr (Bl (cells:=[_,_,_]) ty31 Et pl31 rfl rfl) (Ge0 (Es3_3 ty31) ?_)))))
   exact Af (Ax (D1 rfl ty31 rfl mm rfl (blk b [lv,I64 (i3)] 125::I) A5 ⟨(1,0,0,i3),⟨⟨rfl,by show checkW (1) (0) (0)=0;unfold checkW;rw [if_neg om,if_neg om]⟩,by show 0≤i3;omega⟩,rfl⟩))
theorem MkWindowV_at{F:Item→List Item}{b:Nat}{lv:Value}{ls:List Int}{i:Int}(hat:AtF I (deck b lv i) F)(hl:∀q,Sl κ (F (deck b lv q)) lv ls)(h0:0≤i)   :
  CallS Tryz.prog κ 21 [.pointer (some ⟨b,0,none⟩)] I fun r J=>∃y:Int×Int×Int×Int,((r = .agg #[I64 y.1,I64 y.2.1,I64 y.2.2.1]∧checkW y.1 y.2.1 y.2.2.1=0)∧0≤y.2.2.2)∧J=[]++F (deck b lv y.2.2.2):=
 Eg (Post:=fun r (y:Int×Int×Int×Int)=>(r = .agg #[I64 y.1,I64 y.2.1,I64 y.2.2.1]∧checkW y.1 y.2.1 y.2.2.1=0)∧0≤y.2.2.2) (Z:=fun y:Int×Int×Int×Int=>[]) (X:=fun y:Int×Int×Int×Int=>deck b lv y.2.2.2) hat fun J _ hF=>MkWindowV_base (fun q=>(hl q).fit (hF _)) h0  
variable {κ:Ctx}{I:List Item}
theorem small3{W:BitVec 64}(h:subN 3 W):∃k:Fin 8,W=BitVec.ofNat 64 k.val:=by
 have hb:∀i:Nat,3≤i→W.getLsbD i=false:=fun i hi=>by
  by_cases h64:i<64
  ·cases hc:W.getLsbD i with
   |false=>rfl
   |true=>
    have:=h (i:Int) (mem_listB.2 ⟨by omega,by rw [Int.toNat_natCast];exact hc⟩)
    omega
  ·exact BitVec.getLsbD_of_ge _ _ om
 have hlt:W.toNat<2 ^ 3:=by
  refine Nat.lt_pow_two_of_testBit _ fun i hi=>?_
  have:=hb i hi
  rwa [←BitVec.testBit_toNat] at this
 exact ⟨⟨W.toNat,hlt⟩,by simp⟩
abbrev gB:List Pt:=[⟨0,1⟩]
theorem densB:DensP 3 1 2 gB 3#64 where
 sub:=by unfold subN;decide+kernel
 ne:=by decide
 eq:=by decide+kernel
 max:=fun W h=>by
  obtain ⟨k,rfl⟩:=small3 h
  have:∀k:Fin 8,2*insE (BitVec.ofNat 64 k.val) gB≤1*cntB (BitVec.ofNat 64 k.val):=by decide+kernel
  exact this k
 great:=fun W h e=>by
  obtain ⟨k,rfl⟩:=small3 h
  have:∀k:Fin 8,2*insE (BitVec.ofNat 64 k.val) gB=1*cntB (BitVec.ofNat 64 k.val)→∀x∈listB (BitVec.ofNat 64 k.val),x∈listB 3#64:=by decide+kernel
  exact this k e
theorem grB:GrOk 3 gB:=checkG_ok.1 (by decide+kernel)
theorem bestB{N D:Int}{B:BitVec 64}(h:BestR 3 gB N D B):listB B=[0,1]∧N=1∧D=2:=by
 have hz:=checkG_ok.2 grB
 have hR:=h.some hz dc
 have hf:=h.frv grB
 have hu:=densB.uniq dc hR.den.1 hR.dens
 have hd:=hR.den
 have hD:D=2*N:=by omega
 have hN:0<N:=by omega
 have hc:gcdI N (2*N)=1:=by have:=hf.cop;simp only at this;rw [←hD];exact this
 have h1:N=1:=by
  have h2:=gcdI_step (a:=2*N) (b:=N) om hN
  have h3:Int.tmod (2*N) N=0:=by rw [Int.mul_comm];exact Int.mul_tmod_right N 2
  rw [h3,gcdI_zero om] at h2
  have h4:=gcdI_step (a:=N) (b:=2*N) om om
  rw [Int.tmod_eq_of_lt om om] at h4
  omega
 subst h1
 have hD2:D=2:=by omega
 subst hD2
 refine ⟨?_,rfl,rfl⟩
 refine intLin.uniq (listB_asc _) dc fun x=>?_
 have e3:listB 3#64=[0,1]:=by decide+kernel
 rw [←e3]
 exact ⟨fun hx=>densB.great B hR.dens.sub (by have:=hR.dens.eq;exact this) x hx,fun hx=>hR.dens.great 3#64 densB.sub (by have:=densB.eq;exact this) x hx⟩
abbrev evB:Ev:=⟨1,5,0,1,1,0,1⟩
theorem hist_B:HistOk 3 1 0 0 [evB]:=⟨⟨by decide,by decide,fun j hj=>by
 obtain rfl:j=0:=by simp at hj;exact hj
 exact fitE_ok.1 dc,fun j hj=>by
 obtain rfl:j=0:=by simp at hj;exact hj
 decide⟩,by decide⟩
theorem all_B:allE 1 0 0 [evB]=[evB]:=by unfold allE;rw [all_same];decide
theorem at_B:atG 1 0 0 [evB] 5=gB:=by unfold atG atK;rw [all_B];decide
theorem reach_B:reachQ 3 1 0 0 [evB] 1 2 5:=by
 unfold reachQ densQ
 rw [at_B,if_neg dc]
 exact ⟨3#64,densB.sub,densB.ne,by decide+kernel⟩
theorem first_B(tv:Int)(ok:Bool)(h:FirstP 1 0 0 [evB] (reachQ 3 1 0 0 [evB] 1 2) tv ok):tv=5∧ok=true:=by
 rcases h with ⟨h1,⟨e,he,h2⟩,_⟩|⟨_,_,h3⟩
 ·rw [all_B,List.mem_singleton] at he
  subst he
  exact ⟨h2.symm,h1⟩
 ·exact absurd reach_B (h3 evB (by rw [all_B];exact List.mem_singleton.2 rfl))
set_option maxHeartbeats 1000000 in
theorem AnsFirst_ok{nd kd wd mo num den T0:Int}{ea:Option Addr}{ec:Nat}{es:List Ev}(hl:Sl κ I (.slice ea es.length ec) es)(hH:HistOk nd kd wd mo es)(hlen:es.length≤19)(hf:FrV ⟨num,den⟩)(hT0:∀tv ok,FirstP kd wd mo es (reachQ nd kd wd mo es num den) tv ok→tv=T0∧ok=true)(ht0:0≤T0∧T0≤1048576)(hT:TabRd κ I 0 tzCells) :
    CallS Tryz.prog κ 191 [.agg #[I64 (nd),.slice ea es.length ec,I64 (kd),I64 (wd),I64 (mo)],.agg #[I64 (8),I64 (0),I64 (0),I64 (0),.slice none 0 0,I64 (num),I64 (den)]] I (fun r J=>∃a c B a2 c2 parts N D E,r = .agg #[.bool true,I64 0,I64 (T0),.slice a (listB B).length c,I64 N,I64 D,.slice none 0 0,.slice none 0 0,.slice none 0 0,I64 E,.slice a2 (parts:List Int).length c2]∧BestR nd (atG kd wd mo es T0) N D B∧J=vc 3 (.slice a (listB B).length c) (listB B)::vc 3 (.slice a2 parts.length c2) parts::I):=by
 refine Ce2 Tryz.func191 rfl rfl ?_
 refine Ai (Ge1 (Bd (cs:=[_,_,_,_,_]) rfl rfl rfl) fun b1=>Ge1 (Bd (cs:=[_,_,_,_,_,_,_]) rfl rfl rfl) fun b2=>Ge1 (A8 ty90 rfl) fun b3=>Af (Ai (Gf fld163_0 rfl (Gl ty3 ?_))))
 refine Gf fld163_1 rfl (Gl ty28 ?_)
 refine Gf fld163_2 rfl (Gl3 ty31 ?_)
 refine Gf fld71_5 rfl (Gl2 ty40 ?_)
 refine G.e (Ap call47 rfl rfl (AFirst_ok (nd:=nd) (kd:=kd) (wd:=wd) (mo:=mo) (num:=num) (den:=den) (Bj hl) hH hlen hf (B9 hT A0))) ?_
 rintro _ _ ⟨_,_,⟨tv4,ok5,rfl,hFPtv4,rfl⟩,rfl,rfl⟩
 obtain ⟨htvtv4,hoktv4⟩:=hT0 _ _ hFPtv4
 rw [htvtv4,hoktv4]
 refine Gm rfl (Gr (A2 rfl rfl) (Gr (A2 rfl rfl) (Gr (A2 rfl rfl) (Ga rfl (Ga rfl (Ga rfl (Af (Ar (S4 6 5 4 2 rfl rfl rfl rfl) (Au (Ai (Gm rfl (Gr (Cu rfl) (Af (C9 rfl (Aw (Aj (Ai (Gr (Bq (vs:=[_,_,_,_,_]) ty163) ?_))))))))))))))))))
 refine Gm rfl (Gc2 (Ap call180 rfl rfl (PAt_ok (nd:=nd) (kd:=kd) (wd:=wd) (mo:=mo) (tq:=T0) (Bj hl) hH hlen ht0)) fun ad6 cp7=>?_)
 refine Gm rfl (Gr (Bl (cells:=[_,_,_,_,_,_,_,_,_,_,_]) ty90 Tryz.underlying90 pl90 rfl rfl) (G.e (Ap call186 rfl rfl (ADense_ok (nd:=nd) (tv:=T0) Bf (B9 hT A0))) ?_))
 rintro _ _ ⟨_,_,⟨ad8,cp10,BB11,ad12,cp13,pt14,NN15,DD16,EE17,rfl,hBR,rfl⟩,rfl,rfl⟩
 refine Ge0 (Cy (cs:=[_,_,_,_,_,_,_,_,_,_,_]) (vs:=[_,_,_,_,_,_,_,_,_,_,_]) (cs':=[_,_,_,_,_,_,_,_,_,_,_]) ty90) ?_
 exact Af (Ax (D1 rfl ty90 rfl mm rfl (vc 3 (.slice ad8 (listB BB11).length cp10) (listB BB11)::vc 3 (.slice ad12 pt14.length cp13) pt14::I) Bt ⟨ad8,cp10,BB11,ad12,cp13,pt14,NN15,DD16,EE17,rfl,hBR,rfl⟩))
theorem Answers_ok  :
    CallS Tryz.prog κ 106 [] I (fun r J=>∃m_:Nat,r = .map (some m_)∧J=mp m_ [({key:=I64 (1),val:= .func (.func 178) #[] #[],born:=0}:MapEntry),({key:=I64 (2),val:= .func (.func 181) #[] #[],born:=1}:MapEntry),({key:=I64 (3),val:= .func (.func 182) #[] #[],born:=2}:MapEntry),({key:=I64 (4),val:= .func (.func 184) #[] #[],born:=3}:MapEntry),({key:=I64 (5),val:= .func (.func 185) #[] #[],born:=4}:MapEntry),({key:=I64 (6),val:= .func (.func 187) #[] #[],born:=5}:MapEntry),({key:=I64 (7),val:= .func (.func 189) #[] #[],born:=6}:MapEntry),({key:=I64 (8),val:= .func (.func 191) #[] #[],born:=7}:MapEntry),({key:=I64 (9),val:= .func (.func 192) #[] #[],born:=8}:MapEntry),({key:=I64 (10),val:= .func (.func 193) #[] #[],born:=9}:MapEntry)] 10::I):=by
 refine Ce0 Tryz.func106 rfl rfl ?_
 refine Ai (Ga rfl (Af (Ai (Ge1 (Eff.makeMap rfl) fun mr1=>?_))))
 refine Ge0 (C8 Ck Bm rfl rfl rfl rfl rfl am) ?_
 refine Ge0 (C8 Ck Bm rfl rfl rfl rfl rfl am) ?_
 refine Ge0 (C8 Ck Bm rfl rfl rfl rfl rfl am) ?_
 refine Ge0 (C8 Ck Bm rfl rfl rfl rfl rfl am) ?_
 refine Ge0 (C8 Ck Bm rfl rfl rfl rfl rfl am) ?_
 refine Ge0 (C8 Ck Bm rfl rfl rfl rfl rfl am) ?_
 refine Ge0 (C8 Ck Bm rfl rfl rfl rfl rfl am) ?_
 refine Ge0 (C8 Ck Bm rfl rfl rfl rfl rfl am) ?_
 refine Ge0 (C8 Ck Bm rfl rfl rfl rfl rfl am) ?_
 refine Ge0 (C8 Ck Bm rfl rfl rfl rfl rfl am) ?_
 exact Gm rfl (Ga rfl (Af (Ax (Ay rfl rfl (mp mr1 [({key:=I64 (1),val:= .func (.func 178) #[] #[],born:=0}:MapEntry),({key:=I64 (2),val:= .func (.func 181) #[] #[],born:=1}:MapEntry),({key:=I64 (3),val:= .func (.func 182) #[] #[],born:=2}:MapEntry),({key:=I64 (4),val:= .func (.func 184) #[] #[],born:=3}:MapEntry),({key:=I64 (5),val:= .func (.func 185) #[] #[],born:=4}:MapEntry),({key:=I64 (6),val:= .func (.func 187) #[] #[],born:=5}:MapEntry),({key:=I64 (7),val:= .func (.func 189) #[] #[],born:=6}:MapEntry),({key:=I64 (8),val:= .func (.func 191) #[] #[],born:=7}:MapEntry),({key:=I64 (9),val:= .func (.func 192) #[] #[],born:=8}:MapEntry),({key:=I64 (10),val:= .func (.func 193) #[] #[],born:=9}:MapEntry)] 10::I) Bt ⟨mr1,rfl,rfl⟩))))
set_option maxHeartbeats 1000000 in
theorem Ask8_ok{nd kd wd mo num den T0:Int}{ea:Option Addr}{ec:Nat}{es:List Ev}(hl:Sl κ I (.slice ea es.length ec) es)(hH:HistOk nd kd wd mo es)(hlen:es.length≤19)(hf:FrV ⟨num,den⟩)(hT0:∀tv ok,FirstP kd wd mo es (reachQ nd kd wd mo es num den) tv ok→tv=T0∧ok=true)(ht0:0≤T0∧T0≤1048576)(hT:TabRd κ I 0 tzCells) :
    CallS Tryz.prog κ 56 [I64 (nd),.slice ea es.length ec,.agg #[I64 (kd),I64 (wd),I64 (mo)],.agg #[I64 (8),I64 (0),I64 (0),I64 (0),.slice none 0 0,I64 (num),I64 (den)]] I (fun r J=>∃a c B a2 c2 parts N D E,r = .tuple #[.agg #[.bool true,I64 0,I64 (T0),.slice a (listB B).length c,I64 N,I64 D,.slice none 0 0,.slice none 0 0,.slice none 0 0,I64 E,.slice a2 (parts:List Int).length c2],I64 0]∧BestR nd (atG kd wd mo es T0) N D B∧J=vc 3 (.slice a (listB B).length c) (listB B)::vc 3 (.slice a2 parts.length c2) parts::I):=by
 refine Ce4 Tryz.func56 rfl rfl ?_
 refine Ai (Ge1 (Bd (cs:=[_,_,_]) rfl rfl rfl) fun b1=>Ge1 (Bd (cs:=[_,_,_,_,_,_,_]) rfl rfl rfl) fun b2=>Ge1 (A8 ty90 rfl) fun b3=>Ga rfl (Af (Au (Ai (Gm rfl (Gm rfl (Gl3 ty31 ?_)))))))
 refine Gc0 (Ap call97 rfl rfl (ACheck_ok (nd:=nd) (kd:=kd) (wd:=wd) (mo:=mo) (Bj hl))) ?_
 refine Ga rfl (Af (Ai (Gm rfl (Gr (Be rfl rfl) (Af (Ar (S7 17 10 8 7 6 0 1 rfl rfl rfl rfl rfl rfl rfl) (A7 rfl (fun c17=>?_) (fun c17=>?_))))))))
 ·exact absurd (slideE_zeroH hH) c17
 ·refine Aw (Aj (Au (Ai (Gl7 ty71 ?_))))
  refine Gm rfl (Gc0 (Ap call105 rfl rfl (QCheck8_ok (n:=nd) hf)) ?_)
  refine Ga rfl (Af (Ai (Gm rfl (Gr (Be rfl rfl) (Af (A7 rfl (fun c24=>?_) (fun c24=>?_)))))))
  ·exact absurd rfl c24
  ·refine Aw (Aj (Au (Bk mixed (Bo (blk b2 [I64 (8),I64 (0),I64 (0),I64 (0),.slice none 0 0,I64 (num),I64 (den)] 71::blk b1 [I64 (kd),I64 (wd),I64 (mo)] 31::I) 12 (Dr 1 rfl (Ab fld71_0 rfl) (Dr 2 rfl (As ty3) ?_))))))
   refine Dr 4 rfl (Ad rfl) (Dr 5 rfl (Ad rfl) (Dr 6 rfl (Bq (vs:=[_,_,_]) ty31) ?_))
   refine Dr 7 rfl (Bl (cells:=[_,_,_,_,_]) ty163 Tryz.underlying163 pl163 rfl rfl) (Dr 8 rfl (Bq (vs:=[_,_,_,_,_,_,_]) ty71) ?_)
   refine Ds1 0 (Se rfl (Ap call106 rfl rfl Answers_ok) ?_)
   rintro _ _ ⟨_,_,⟨mp4,rfl,rfl⟩,rfl,rfl⟩
   refine ⟨A5,?_⟩
   refine Ds1 3 (Sr rfl (Runs.lookupK (i:=7) Ck Bm rfl rfl rfl mm rfl) A5 ?_)
   refine Ds1 9 (Se rfl (Cx call191 rfl rfl rfl (AnsFirst_ok (nd:=nd) (kd:=kd) (wd:=wd) (mo:=mo) (num:=num) (den:=den) (T0:=T0) (ea:=ea) (ec:=ec) (es:=es) (Bj hl) hH hlen hf hT0 ht0 (B9 hT A0))) ?_)
   rintro _ _ ⟨_,_,⟨ad5,cp6,BB7,ad8,cp9,pt10,NN11,DD12,EE13,rfl,hBR,rfl⟩,rfl,rfl⟩
   refine ⟨A5,?_⟩
   refine Ds1 10 (Se0 rfl (Cy (cs:=[_,_,_,_,_,_,_,_,_,_,_]) (vs:=[_,_,_,_,_,_,_,_,_,_,_]) (cs':=[_,_,_,_,_,_,_,_,_,_,_]) ty90) ?_)
   exact Dr 11 rfl (Ba rfl) (Dz (Aj (Ar (S2 9 8 rfl rfl) (Ax (D4 rfl ty90 rfl rfl mm rfl (vc 3 (.slice ad5 (listB BB7).length cp6) (listB BB7)::vc 3 (.slice ad8 pt10.length cp9) pt10::I) Bt ⟨ad5,cp6,BB7,ad8,cp9,pt10,NN11,DD12,EE13,rfl,hBR,rfl⟩)))))
set_option maxHeartbeats 1000000 in
theorem Awake43_ok(hT:TabRd κ I 0 tzCells) :
    CallS Tryz.prog κ 41 [] I (fun r J=>r = .bool true∧I=J):=by
 refine Ce0 Tryz.func41 rfl rfl ?_
 refine Ai (Ga rfl (Af (Ai (Gr (Bl (cells:=[_,_,_,_,_,_,_]) ty108 C4 pl108 rfl rfl) (Ge1 (B1 (α:=Ev) (cs:=[I64 (1),I64 (5),I64 (0),I64 (1),I64 (1),I64 (0),I64 (1)]) (xs:=[⟨1,5,0,1,1,0,1⟩]) A1 ty108 rfl rfl dc dc rfl kr rfl rfl) fun ad1=>?_)))))
 refine Ga rfl (Af (Ai (Gm rfl (Gr (Bl (cells:=[_,_,_]) ty31 Et pl31 rfl rfl) (Gr (Bl (cells:=[_,_]) ty40 Es pl40 rfl rfl) (Gr (Bl (cells:=[_,_,_,_,_,_,_]) ty71 Tryz.underlying71 pl71 rfl rfl) (G.e (Ap call56 rfl rfl (Ask8_ok (nd:=3) (kd:=1) (wd:=0) (mo:=0) (num:=1) (den:=2) (T0:=5) (ea:=ad1) (ec:=1) (es:=([⟨1,5,0,1,1,0,1⟩]:List Ev)) Bf hist_B dc ⟨by decide,by decide,by decide,by decide,by decide⟩ first_B dc (B9 hT A0))) ?_)))))))
 rintro _ _ ⟨_,_,⟨ad2,cp3,BB4,ad5,cp6,pt7,NN8,DD9,EE10,rfl,hBR,rfl⟩,rfl,rfl⟩
 refine Gm rfl (Gr (A2 rfl rfl) (Gr (A2 rfl rfl) (Ge1 (A8 ty90 rfl) fun b11=>Ge0 (Cy (cs:=[_,_,_,_,_,_,_,_,_,_,_]) (vs:=[_,_,_,_,_,_,_,_,_,_,_]) (cs':=[_,_,_,_,_,_,_,_,_,_,_]) ty90) ?_)))
 rw [at_B] at hBR
 obtain ⟨hBl,hN1,hD2⟩:=bestB hBR
 refine Ga rfl (Af (Ar (S2 3 2 rfl rfl) (Ai (Gm rfl (Gr (Bi rfl rfl) (Gm rfl (Bb (d:=16) rfl (fun g16=>?_) (fun g16=>?_))))))))
 ·refine Gro (Ab fld90_0 rfl) (Gro (As ty4) ?_)
  refine Gr (Ao rfl rfl) (Gm rfl (Gro (Ab fld90_2 rfl) (Gro (As ty3) ?_)))
  refine Gro (Bi rfl rfl) (Gr (Ao rfl rfl) (Gm rfl (Bb (d:=25) rfl (fun g25=>?_) (fun g25=>?_))))
  ·refine Gro (Ab fld90_3 rfl) (Gro (As ty22) ?_)
   refine Eo (Cv rfl rfl rfl) (B1 (α:=Int) (cs:=[_,_]) (xs:=[0,1]) Ac ty3 rfl rfl dc dc rfl rfl rfl rfl) ?_
   rintro _ _ ⟨ad12,rfl,rfl⟩
   refine Eo (Cv rfl rfl rfl) (Ap call61 rfl rfl (Cmp_ok Bf Bf)) ?_
   rintro _ _ ⟨_,_,⟨rfl,rfl⟩,rfl,rfl⟩
   refine Gro (Bi rfl rfl) (Gr (Ao rfl rfl) (Gm rfl (Bb (d:=32) rfl (fun g32=>?_) (fun g32=>?_))))
   ·refine Gro (Ab fld90_4 rfl) (Gro (Bq (vs:=[_,_]) ty40) ?_)
    exact Gro (Bl (cells:=[_,_]) ty40 Es pl40 rfl rfl) (Gro (Runs.eqlT (α:=Fr) (a:=(⟨NN8,DD9⟩:Fr)) (b:=(⟨1,2⟩:Fr)) eqt40 rfl rfl) (Gr (Ao rfl rfl) (Ga rfl (Af (Ar (S1 0 rfl) (Ax (Ay rfl rfl (I) A0 ⟨by rw [decide_eq_true (by rw [hN1,hD2])],rfl⟩)))))))
   ·exact absurd ((cmpL_eq _ _).2 hBl) g32
  ·exact absurd rfl g25
 ·exact absurd rfl g16
end Go.Sl
