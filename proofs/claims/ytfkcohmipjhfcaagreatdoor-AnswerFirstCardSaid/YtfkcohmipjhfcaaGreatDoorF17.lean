/- A part of the proofs of statements of this seat: contracts of functions, and the plain laws that they lean on. No conditions. -/
import Derived.Test.YtfkcohmipjhfcaaGreatDoorF16
set_option linter.unusedVariables false
set_option linter.unusedSimpArgs false
set_option linter.unusedSectionVars false
namespace Go.Sl
open Go.Proofs
set_option maxRecDepth 4000
variable {κ:Ctx}{I:List Item}
structure FrV (x:Fr):Prop where
 n0:0≤x.num
 n1:x.num≤1073741824
 d0:1≤x.den
 d1:x.den≤1073741824
 cop:gcdI x.num x.den=1
theorem mkF_val{a b:Int}(h0:0≤a)(h1:a≤1073741824)(h2:0<b)(h3:b≤1073741824):FrV (mkF a b):=by
 have hn:=mkF_num h0 h2
 have hd:=mkF_den (a:=a) h2
 refine ⟨hn.1,by omega,hd.1,by omega,?_⟩
 obtain ⟨m,rfl⟩:=Int.eq_ofNat_of_zero_le h0
 obtain ⟨n,rfl⟩:=Int.eq_ofNat_of_zero_le (show 0≤b by omega)
 have hg:0<m.gcd n:=Nat.gcd_pos_of_pos_right _ om
 have hc:=Nat.coprime_div_gcd_div_gcd hg
 unfold mkF gcdI
 simp only [Int.toNat_natCast,Int.ofNat_eq_natCast,←Int.natCast_ediv]
 rw [hc.gcd_eq_one];rfl
def cmpF(x y:Fr):Int:=if x.num*y.den<y.num*x.den then -1 else if y.num*x.den<x.num*y.den then 1 else 0
def sgnI(n:Int):Int:=if n<0 then -1 else if 0<n then 1 else 0
theorem sgn_bd(n:Int) : -1≤sgnI n∧sgnI n≤1:=by unfold sgnI;split<;>(try split)<;>omega
theorem mul_small{x y:Int}(hx:0≤x∧x≤1073741824)(hy:0≤y∧y≤1073741824):0≤x*y∧x*y≤1152921504606846976:=by
 refine ⟨Int.mul_nonneg hx.1 hy.1,?_⟩
 have h1:=Int.mul_le_mul hx.2 hy.2 hy.1 dc
 omega
theorem FrV.mul{x y:Fr}(hx:FrV x)(hy:FrV y):(0≤x.num*y.den∧x.num*y.den≤1152921504606846976)∧(0<x.num→0<x.num*y.den):=by
 have h1:=hx.n0;have h2:=hx.n1;have h3:=hy.d0;have h4:=hy.d1
 exact ⟨mul_small ⟨h1,h2⟩ ⟨by omega,h4⟩,fun h=>Int.mul_pos h om⟩
theorem Mul64_ok(x y:Int)(hx:0≤x∧x≤1073741824)(hy:0≤y∧y≤1073741824) :
    CallS Tryz.prog κ 173 [.int .u64 (x),.int .u64 (y)] I (fun r J=>r = .tuple #[.int .u64 0,.int .u64 (x*y)]∧I=J):=by
 have hxy:=mul_small hx hy
 refine Ce2 Tryz.func173 rfl rfl ?_
 exact Ah (Ga rfl (Ga rfl (Af (Ah (Gm rfl (Gr (Eq (m:=x) (r:=x) rfl rfl om om om) (Ga rfl (Af (Ah (Gm rfl (Gr (Dv (m:=x) (r:=0) rfl rfl om) (Ga rfl (Af (Ah (Gm rfl (Gr (Eq (m:=y) (r:=y) rfl rfl om om om) (Ga rfl (Af (Ah (Gm rfl (Gr (Dv (m:=y) (r:=0) rfl rfl om) (Ga rfl (Af (Ar (S6 9 8 7 6 0 1 rfl rfl rfl rfl rfl rfl) (Ah (Gm rfl (Gm rfl (Gr (Ea (m:=x) (n:=y) (r:=x*y) rfl rfl rfl om om) (Ga rfl (Af (Ah (Gm rfl (Gm rfl (Gr (Ea (m:=0) (n:=y) (r:=0) rfl rfl (Int.zero_mul _) om om) (Gm rfl (Gr (Dv (m:=x*y) (r:=x*y / 4294967296) rfl rfl om) (Gr (Ef (m:=0) (n:=x*y / 4294967296) (r:=x*y / 4294967296) rfl rfl om om om) (Ga rfl (Af (Ar (S6 11 9 7 6 0 1 rfl rfl rfl rfl rfl rfl) (Ah (Gm rfl (Gr (Eq (m:=x*y / 4294967296) (r:=x*y / 4294967296) rfl rfl om om om) (Ga rfl (Af (Ah (Gm rfl (Gr (Dv (m:=x*y / 4294967296) (r:=0) rfl rfl om) (Ga rfl (Af (Ah (Gm rfl (Gm rfl (Gm rfl (Gr (Ea (m:=x) (n:=0) (r:=0) rfl rfl (Int.mul_zero _) om om) (Gr (Ef (m:=x*y / 4294967296) (n:=0) (r:=x*y / 4294967296) rfl rfl om om om) (Ga rfl (Af (Ar (S6 12 13 9 7 0 1 rfl rfl rfl rfl rfl rfl) (Ah (Gm rfl (Gm rfl (Gr (Ea (m:=0) (n:=0) (r:=0) rfl rfl (Int.zero_mul _) om om) (Gm rfl (Gr (Ef (m:=0) (n:=0) (r:=0) rfl rfl om om om) (Gm rfl (Gr (Dv (m:=x*y / 4294967296) (r:=0) rfl rfl om) (Gr (Ef (m:=0) (n:=0) (r:=0) rfl rfl om om om) (Ga rfl (Af (Ar (S3 4 0 1 rfl rfl rfl) (Ah (Gm rfl (Gm rfl (Gr (Ea (m:=x) (n:=y) (r:=x*y) rfl rfl rfl om om) (Ga rfl (Af (Ay (Ct rfl rfl rfl (I) A1 ⟨rfl,rfl⟩)))))))))))))))))))))))))))))))))))))))))))))))))))))))))))))))))))))))))))))))
theorem WMul_ok(x y:Int)(hx:0≤x∧x≤1073741824)(hy:0≤y∧y≤1073741824) :
    CallS Tryz.prog κ 122 [.int .u64 (x),.int .u64 (y)] I (fun r J=>r = .agg #[.int .u64 0,.int .u64 (x*y)]∧I=J):=by
 have hxy:=mul_small hx hy
 refine Ce2 Tryz.func122 rfl rfl ?_
 refine Ah (Ge1 (Ax ty177 rfl) fun b1=>Af (Ah (Gm rfl (Gr (Dv (m:=x) (r:=0) rfl rfl om) (Gm rfl (Gr (Eq (m:=x) (r:=x) rfl rfl om om om) (Gm rfl (Gr (Dv (m:=y) (r:=0) rfl rfl om) (Gm rfl (Gr (Eq (m:=y) (r:=y) rfl rfl om om om) (Ga rfl (Ga rfl (Ga rfl (Ga rfl (Af (Ar (S5 8 7 6 5 4 rfl rfl rfl rfl rfl) (Ah (Gm rfl (Gm rfl (Gr (Ea (m:=x) (n:=y) (r:=x*y) rfl rfl rfl om om) (Ga rfl (Af (Ah (Gm rfl (Gm rfl (Gr (Ea (m:=0) (n:=y) (r:=0) rfl rfl (Int.zero_mul _) om om) (Gm rfl (Gr (Dv (m:=x*y) (r:=x*y / 4294967296) rfl rfl om) (Gr (Ef (m:=0) (n:=x*y / 4294967296) (r:=x*y / 4294967296) rfl rfl om om om) (Ga rfl (Af (Ar (S6 10 9 7 6 5 4 rfl rfl rfl rfl rfl rfl) (Ah (Gm rfl (Gm rfl (Gr (Ea (m:=x) (n:=0) (r:=0) rfl rfl (Int.mul_zero _) om om) (Gm rfl (Gr (Eq (m:=x*y / 4294967296) (r:=x*y / 4294967296) rfl rfl om om om) (Gr (Ef (m:=0) (n:=x*y / 4294967296) (r:=x*y / 4294967296) rfl rfl om om om) (Ga rfl (Af (Ah (Gm rfl (Gm rfl (Gr (Ea (m:=0) (n:=0) (r:=0) rfl rfl (Int.zero_mul _) om om) (Gm rfl (Gr (Dv (m:=x*y / 4294967296) (r:=0) rfl rfl om) (Gr (Ef (m:=0) (n:=0) (r:=0) rfl rfl om om om) (Gm rfl (Gr (Dv (m:=x*y / 4294967296) (r:=0) rfl rfl om) (Gr (Ef (m:=0) (n:=0) (r:=0) rfl rfl om om om) (Gm rfl (Gr (Runs.shl32 (m:=x*y / 4294967296) rfl rfl om om) (Gm rfl (Gr (Eq (m:=x*y) (r:=x*y % 4294967296) rfl rfl om om om) (Gr (Runs.orLow (m:=x*y / 4294967296) (n:=x*y % 4294967296) (r:=x*y) rfl rfl om om om om om) (Gr (Bc (cells:=[_,_]) ty177 Co pl177 rfl rfl) (Ge0 (Bj ty177) ?_))))))))))))))))))))))))))))))))))))))))))))))))))))))))))
 exact Af (Ar (S1 4 rfl) (Ay (C6 rfl ty177 rfl mm rfl (I) A1 ⟨rfl,rfl⟩)))
theorem Sign_ok(n:Int) :
    CallS Tryz.prog κ 172 [I64 (n)] I (fun r J=>r=I64 (sgnI n)∧I=J):=by
 refine Ce1 Tryz.func172 rfl rfl ?_
 refine Ah (Ga rfl (Af (Av (A5 (Ah (Gm rfl (Gr (A8 rfl rfl) (Ga rfl (Af (A6 rfl (fun c3=>?_) (fun c3=>?_)))))))))))
 ·exact Ah (Ga rfl (Af (Ay (Au (Ad (A0 rfl rfl (I) A1 ⟨by unfold sgnI;first|rw [if_pos c3]|rw [if_neg c3,if_pos c6]|rw [if_neg c3,if_neg c6],rfl⟩))))))
 ·refine Ah (Gm rfl (Gr (Br rfl rfl) (Ga rfl (Af (A6 rfl (fun c6=>?_) (fun c6=>?_))))))
  ·exact Ah (Ga rfl (Af (Ay (Au (Ad (A0 rfl rfl (I) A1 ⟨by unfold sgnI;first|rw [if_pos c3]|rw [if_neg c3,if_pos c6]|rw [if_neg c3,if_neg c6],rfl⟩))))))
  ·exact Az (Al (Ai (Ah (Ga rfl (Af (Ay (A0 rfl rfl (I) A1 ⟨by unfold sgnI;first|rw [if_pos c3]|rw [if_neg c3,if_pos c6]|rw [if_neg c3,if_neg c6],rfl⟩)))))))
theorem RatValid_ok(x:Fr)(hx:FrV x) :
    CallS Tryz.prog κ 89 [.agg #[I64 (x.num),I64 (x.den)]] I (fun r J=>r = .bool true∧I=J):=by
 have hn0x:=hx.n0
 have hn1x:=hx.n1
 have hd0x:=hx.d0
 have hd1x:=hx.d1
 refine Ce1 Tryz.func89 rfl rfl ?_
 refine Ah (Ge1 (Bb (cs:=[_,_]) rfl rfl rfl) fun b1=>Ga rfl (Af (Ah (Gf fld40_0 rfl (Gl ty3 ?_)))))
 refine G.e (Aj call157 rfl rfl (RWithin_ok x.num 1152921504606846976 om)) ?_
 rintro _ _ ⟨_,_,⟨rfl,rfl⟩,rfl,rfl⟩
 refine Gm rfl (A7 (d:=6) rfl (fun g6=>?_) (fun g6=>?_))
 ·refine Gro (Aa fld40_1 rfl) (Gro (As ty3) ?_)
  refine Gro (B5 rfl rfl) (Gr (Ao rfl rfl) (Gm rfl (A7 (d:=11) rfl (fun g11=>?_) (fun g11=>?_))))
  ·refine Gro (Aa fld40_1 rfl) (Gro (As ty3) ?_)
   refine Gro (D3 rfl rfl) (Gr (Ao rfl rfl) (Gm rfl (A7 (d:=16) rfl (fun g16=>?_) (fun g16=>?_))))
   ·refine Gro (Aa fld40_0 rfl) (Gro (As ty3) ?_)
    refine Gro (Aa fld40_0 rfl) (Gro (As ty3) ?_)
    refine Gro (Runs.neg rfl (by unfold InR;omega)) (Gro (Runs.max rfl rfl) ?_)
    have hmx22:(if x.num < -(x.num) then -(x.num) else x.num)=x.num:=by rw [if_neg om]
    rw [hmx22]
    refine Gro (Aa fld40_1 rfl) (Gro (As ty3) ?_)
    refine Et (Cu rfl rfl rfl) (Aj call158 rfl rfl (Common_ok x.num x.den om om)) ?_
    rintro _ _ ⟨_,_,⟨rfl,rfl⟩,rfl,rfl⟩
    exact Gro (Bi rfl rfl) (Gr (Ao rfl rfl) (Ga rfl (Af (Ar (S1 2 rfl) (Ay (A0 rfl rfl (I) A1 ⟨by rw [decide_eq_true hx.cop],rfl⟩))))))
   ·exact absurd om g16
  ·exact absurd om g11
 ·exact absurd om g6
set_option maxHeartbeats 1000000 in
theorem RatCmp_ok(x y:Fr)(hx:FrV x)(hy:FrV y) :
    CallS Tryz.prog κ 101 [.agg #[I64 (x.num),I64 (x.den)],.agg #[I64 (y.num),I64 (y.den)]] I (fun r J=>r=I64 (cmpF x y)∧I=J):=by
 have hn0x:=hx.n0
 have hn1x:=hx.n1
 have hd0x:=hx.d0
 have hd1x:=hx.d1
 have hn0y:=hy.n0
 have hn1y:=hy.n1
 have hd0y:=hy.d0
 have hd1y:=hy.d1
 have hb1:=sgn_bd x.num
 have hb2:=sgn_bd y.num
 have hm1:=hx.mul hy
 have hm2:=hy.mul hx
 have hz1:x.num=0→x.num*y.den=0:=fun h=>by rw [h,Int.zero_mul]
 have hz2:y.num=0→y.num*x.den=0:=fun h=>by rw [h,Int.zero_mul]
 refine Ce2 Tryz.func101 rfl rfl ?_
 refine Ah (Ge1 (Bb (cs:=[_,_]) rfl rfl rfl) fun b1=>Ge1 (Bb (cs:=[_,_]) rfl rfl rfl) fun b2=>Ga rfl (Af (Av (Ah (Gl2 ty40 ?_)))))
 refine Gc0 (Aj call89 rfl rfl (RatValid_ok x asm)) ?_
 refine Gr (Ck rfl) (Gm rfl (Gro (Bm (vs:=[_,_]) ty40) ?_))
 refine Et (Cu rfl rfl rfl) (Aj call89 rfl rfl (RatValid_ok y asm)) ?_
 rintro _ _ ⟨_,_,⟨rfl,rfl⟩,rfl,rfl⟩
 refine Gro (Ck rfl) (Gr (Ak rfl rfl) (Af (Cw rfl (Az (Ai (Ah (Gf fld40_0 rfl (Gl ty3 ?_))))))))
 refine Gc0 (Aj call172 rfl rfl (Sign_ok x.num)) ?_
 refine Ga rfl (Af (Ar (S3 5 3 2 rfl rfl rfl) (Av (Ah (Gf fld40_0 rfl (Gl ty3 ?_))))))
 refine Gc0 (Aj call172 rfl rfl (Sign_ok y.num)) ?_
 refine Ga rfl (Af (Ah (Gm rfl (Gm rfl (Gr (Bh rfl rfl) (Gm rfl (A7 (d:=28) rfl (fun g28=>?_) (fun g28=>?_))))))))
 ·refine Gpo (Gpo (Gr (Ao rfl rfl) (Af (Ar (S5 31 6 5 3 2 rfl rfl rfl rfl rfl) (B6 rfl (Ah (Gm rfl (Gm rfl (Gr (Rsu rfl rfl) (Gc0 (Aj call172 rfl rfl (Sign_ok ((sgnI x.num) - (sgnI y.num)))) ?_))))))))))
  refine Ga rfl (Af (Ay (Ad ?_)))
  have hsx:sgnI x.num=if x.num<0 then -1 else if 0<x.num then 1 else 0:=rfl
  have hsy:sgnI y.num=if y.num<0 then -1 else if 0<y.num then 1 else 0:=rfl
  exact A0 rfl rfl (I) A1 ⟨congrArg I64 (by first|(have hss:sgnI (sgnI x.num - sgnI y.num)=if sgnI x.num - sgnI y.num<0 then -1 else if 0<sgnI x.num - sgnI y.num then 1 else 0:=rfl;unfold cmpF;rw [hss];repeat (first|omega|split))|(unfold cmpF;repeat (first|omega|split))),rfl⟩
 ·refine Gro (Ac rfl) (Gro (Bi rfl rfl) (Gr (Ak rfl rfl) (Af (Ar (S5 31 6 5 3 2 rfl rfl rfl rfl rfl) (A6 rfl (fun c31=>?_) (fun c31=>?_))))))
  ·refine Ah (Gm rfl (Gm rfl (Gr (Rsu rfl rfl) (Gc0 (Aj call172 rfl rfl (Sign_ok ((sgnI x.num) - (sgnI y.num)))) ?_))))
   refine Ga rfl (Af (Ay (Ad ?_)))
   have hsx:sgnI x.num=if x.num<0 then -1 else if 0<x.num then 1 else 0:=rfl
   have hsy:sgnI y.num=if y.num<0 then -1 else if 0<y.num then 1 else 0:=rfl
   exact A0 rfl rfl (I) A1 ⟨congrArg I64 (by first|(have hss:sgnI (sgnI x.num - sgnI y.num)=if sgnI x.num - sgnI y.num<0 then -1 else if 0<sgnI x.num - sgnI y.num then 1 else 0:=rfl;unfold cmpF;rw [hss];repeat (first|omega|split))|(unfold cmpF;repeat (first|omega|split))),rfl⟩
  ·refine Az (Ai (Ah (Gf fld40_0 rfl (Gl ty3 ?_))))
   refine Gf fld40_0 rfl (Gl ty3 ?_)
   refine Gr (Runs.neg rfl (by unfold InR;omega)) (Gr (Runs.max rfl rfl) ?_)
   have hmx42:(if x.num < -(x.num) then -(x.num) else x.num)=x.num:=by rw [if_neg om]
   rw [hmx42]
   refine Gr (Cr Bf Ch rfl om) (Gf fld40_1 rfl (Gl ty3 ?_))
   refine Gr (Cr Bf Ch rfl om) (G.e (Aj call173 rfl rfl (Mul64_ok x.num y.den om om)) ?_)
   rintro _ _ ⟨_,_,⟨rfl,rfl⟩,rfl,rfl⟩
   refine Gm rfl (Gr (A3 rfl rfl) (Gr (A3 rfl rfl) (Ga rfl (Ga rfl (Af (Ar (S5 8 7 5 3 2 rfl rfl rfl rfl rfl) (Ah (Gf fld40_0 rfl (Gl ty3 ?_)))))))))
   refine Gf fld40_0 rfl (Gl ty3 ?_)
   refine Gr (Runs.neg rfl (by unfold InR;omega)) (Gr (Runs.max rfl rfl) ?_)
   have hmx56:(if y.num < -(y.num) then -(y.num) else y.num)=y.num:=by rw [if_neg om]
   rw [hmx56]
   refine Gr (Cr Bf Ch rfl om) (Gf fld40_1 rfl (Gl ty3 ?_))
   refine Gr (Cr Bf Ch rfl om) (G.e (Aj call173 rfl rfl (Mul64_ok y.num x.den om om)) ?_)
   rintro _ _ ⟨_,_,⟨rfl,rfl⟩,rfl,rfl⟩
   refine Gm rfl (Gr (A3 rfl rfl) (Gr (A3 rfl rfl) (Ga rfl (Ga rfl (Af (Ar (S5 10 9 8 7 5 rfl rfl rfl rfl rfl) (Av (A5 (Ah (Gm rfl (Gm rfl (Gr (Bi rfl rfl) (Gm rfl (A7 (d:=68) rfl (fun g68=>?_) (fun g68=>?_)))))))))))))))
   ·refine Gro (Ac rfl) (Gro (Ac rfl) (Gro (Bi rfl rfl) (Gr (Ao rfl rfl) (Ga rfl (Af (Ar (S6 64 10 9 8 7 5 rfl rfl rfl rfl rfl rfl) (A6 rfl (fun c64=>?_) (fun c64=>?_))))))))
    ·refine Ah (Ga rfl (Af (Ay (Au (Ad ?_)))))
     have hsx:sgnI x.num=if x.num<0 then -1 else if 0<x.num then 1 else 0:=rfl
     have hsy:sgnI y.num=if y.num<0 then -1 else if 0<y.num then 1 else 0:=rfl
     exact A0 rfl rfl (I) A1 ⟨congrArg I64 (by first|(have hss:sgnI (sgnI x.num - sgnI y.num)=if sgnI x.num - sgnI y.num<0 then -1 else if 0<sgnI x.num - sgnI y.num then 1 else 0:=rfl;unfold cmpF;rw [hss];repeat (first|omega|split))|(unfold cmpF;repeat (first|omega|split))),rfl⟩
    ·refine Ah (Gm rfl (Gm rfl (Gr (A8 rfl rfl) (Gm rfl (A7 (d:=77) rfl (fun g77=>?_) (fun g77=>?_))))))
     ·exact absurd g77 dc
     ·refine Gro (Ac rfl) (Gro (Ac rfl) (Gro (Bi rfl rfl) (Gro (Ac rfl) (A7 (d:=81) rfl (fun g81=>?_) (fun g81=>?_)))))
      ·refine Gro (Ac rfl) (Gro (Ac rfl) (Gro (A8 rfl rfl) (Gro (Ao rfl rfl) (Gr (Ak rfl rfl) (Ga rfl (Af (Ar (S2 73 5 rfl rfl) (A6 rfl (fun c73=>?_) (fun c73=>?_)))))))))
       ·refine Ah (Gm rfl (Gr (Runs.neg rfl (by unfold InR;omega)) (Ga rfl (Af (Ay (Au (Ad ?_)))))))
        have hsx:sgnI x.num=if x.num<0 then -1 else if 0<x.num then 1 else 0:=rfl
        have hsy:sgnI y.num=if y.num<0 then -1 else if 0<y.num then 1 else 0:=rfl
        exact A0 rfl rfl (I) A1 ⟨congrArg I64 (by first|(have hss:sgnI (sgnI x.num - sgnI y.num)=if sgnI x.num - sgnI y.num<0 then -1 else if 0<sgnI x.num - sgnI y.num then 1 else 0:=rfl;unfold cmpF;rw [hss];repeat (first|omega|split))|(unfold cmpF;repeat (first|omega|split))),rfl⟩
       ·refine Az (Al (Ai (Ah (Gm rfl (Ga rfl (Af (Ay ?_)))))))
        have hsx:sgnI x.num=if x.num<0 then -1 else if 0<x.num then 1 else 0:=rfl
        have hsy:sgnI y.num=if y.num<0 then -1 else if 0<y.num then 1 else 0:=rfl
        exact A0 rfl rfl (I) A1 ⟨congrArg I64 (by first|(have hss:sgnI (sgnI x.num - sgnI y.num)=if sgnI x.num - sgnI y.num<0 then -1 else if 0<sgnI x.num - sgnI y.num then 1 else 0:=rfl;unfold cmpF;rw [hss];repeat (first|omega|split))|(unfold cmpF;repeat (first|omega|split))),rfl⟩
      ·exact absurd rfl g81
   ·exact absurd rfl g68
theorem Valid01_ok(x:Fr)(hx:FrV x) :
    CallS Tryz.prog κ 92 [.agg #[I64 (x.num),I64 (x.den)]] I (fun r J=>r = .bool true∧I=J):=by
 have hn0x:=hx.n0
 have hn1x:=hx.n1
 have hd0x:=hx.d0
 have hd1x:=hx.d1
 refine Ce1 Tryz.func92 rfl rfl ?_
 refine Ah (Ge1 (Bb (cs:=[_,_]) rfl rfl rfl) fun b1=>Ga rfl (Af (Av (Ah (Gf fld40_0 rfl (Gl ty3 ?_))))))
 refine Gr (A8 rfl rfl) (Gm rfl (A7 (d:=6) rfl (fun g6=>?_) (fun g6=>?_)))
 ·exact absurd g6 om
 ·refine Gro (Aa fld40_0 rfl) (Gro (As ty3) ?_)
  refine Gro (Br rfl rfl) (Gr (Ak rfl rfl) (Gm rfl (A7 (d:=11) rfl (fun g11=>?_) (fun g11=>?_))))
  ·exact absurd g11 om
  ·refine Gro (Aa fld40_1 rfl) (Gro (As ty3) ?_)
   refine Gro (A8 rfl rfl) (Gr (Ak rfl rfl) (Gm rfl (A7 (d:=16) rfl (fun g16=>?_) (fun g16=>?_))))
   ·exact absurd g16 om
   ·refine Gro (Aa fld40_1 rfl) (Gro (As ty3) ?_)
    refine Gro (Br rfl rfl) (Gr (Ak rfl rfl) (Af (Ar (S2 20 1 rfl rfl) (A6 rfl (fun c20=>?_) (fun c20=>?_)))))
    ·exact absurd c20 om
    ·refine Az (Ai (Av (Bk mixed (Bq (blk b1 [I64 (x.num),I64 (x.den)] 40::I) 12 (Dr 0 rfl (Aa fld40_0 rfl) (Dr 1 rfl (As ty3) ?_))))))
     refine Dr 4 rfl (Aa fld40_1 rfl) (Dr 5 rfl (As ty3) ?_)
     refine Dr 6 rfl (Cr Bf Ch rfl om) (Dr 7 rfl (Bc (cells:=[_,_]) ty177 Co pl177 rfl rfl) (Dr 9 rfl (Bc (cells:=[_,_]) ty177 Co pl177 rfl rfl) (Ds1 2 (Sc0 rfl (Aj call123 rfl rfl (WSize_ok x.num om)) ?_))))
     refine Dr 3 rfl (Bc (cells:=[_,_]) ty177 Co pl177 rfl rfl) (Ds1 8 (Sc0 rfl (Aj call159 rfl rfl (WGcd_ok x.num x.den om om)) ?_))
     exact Dr 10 rfl (Er (α:=Wd) (a:=(⟨0,gcdI x.num x.den⟩:Wd)) (b:=(⟨0,1⟩:Wd)) eqt177 rfl rfl) (Dr 11 rfl (Bd rfl) (Dz (Ai (Ar (S1 2 rfl) (Ay (A0 rfl rfl (I) A1 ⟨by rw [hx.cop,decide_eq_true rfl],rfl⟩))))))
set_option maxHeartbeats 1000000 in
theorem Cmp01_ok(x y:Fr)(hx:FrV x)(hy:FrV y) :
    CallS Tryz.prog κ 66 [.agg #[I64 (x.num),I64 (x.den)],.agg #[I64 (y.num),I64 (y.den)]] I (fun r J=>r=I64 (cmpF x y)∧I=J):=by
 have hn0x:=hx.n0
 have hn1x:=hx.n1
 have hd0x:=hx.d0
 have hd1x:=hx.d1
 have hn0y:=hy.n0
 have hn1y:=hy.n1
 have hd0y:=hy.d0
 have hd1y:=hy.d1
 have hb1:=sgn_bd x.num
 have hb2:=sgn_bd y.num
 have hm1:=hx.mul hy
 have hm2:=hy.mul hx
 have hz1:x.num=0→x.num*y.den=0:=fun h=>by rw [h,Int.zero_mul]
 have hz2:y.num=0→y.num*x.den=0:=fun h=>by rw [h,Int.zero_mul]
 refine Ce2 Tryz.func66 rfl rfl ?_
 refine Ah (Ge1 (Bb (cs:=[_,_]) rfl rfl rfl) fun b1=>Ge1 (Bb (cs:=[_,_]) rfl rfl rfl) fun b2=>Ga rfl (Af (Av (Ah (Gl2 ty40 ?_)))))
 refine Gc0 (Aj call92 rfl rfl (Valid01_ok x asm)) ?_
 refine Gr (Ck rfl) (Gm rfl (Gro (Bm (vs:=[_,_]) ty40) ?_))
 refine Et (Cu rfl rfl rfl) (Aj call92 rfl rfl (Valid01_ok y asm)) ?_
 rintro _ _ ⟨_,_,⟨rfl,rfl⟩,rfl,rfl⟩
 refine Gro (Ck rfl) (Gr (Ak rfl rfl) (Af (Cw rfl (Az (Ai (Av (Ah (Gf fld40_0 rfl (Gl ty3 ?_)))))))))
 refine Gr (A8 rfl rfl) (Gf fld40_0 rfl (Gl ty3 ?_))
 refine Gr (A8 rfl rfl) (Gr (Runs.neqb Ep rfl rfl) (Af (Ar (S3 21 3 2 rfl rfl rfl) (A6 rfl (fun c21=>?_) (fun c21=>?_)))))
 ·exact absurd (by rw [decide_eq_false (show ¬x.num<0 by omega),decide_eq_false (show ¬y.num<0 by omega)]) c21
 ·refine Az (Ai (Ek (σ:=Nat×Nat) (fun s=>([(2,.pointer (some ⟨b1,0,none⟩)),(5,.pointer (some ⟨s.1,0,none⟩)),(6,.pointer (some ⟨s.2,0,none⟩))]:Env)) (fun s=>blk s.1 [.int .u64 (0),.int .u64 (x.num*y.den)] 177::blk s.2 [.int .u64 (0),.int .u64 (y.num*x.den)] 177::blk b2 [I64 (y.num),I64 (y.den)] 40::blk b1 [I64 (x.num),I64 (x.den)] 40::I) (fun s=>True) ?_ ?_))
  ·refine Bk mixed (Bq (blk b2 [I64 (y.num),I64 (y.den)] 40::blk b1 [I64 (x.num),I64 (x.den)] 40::I) 18 (Dr 0 rfl (Aa fld40_0 rfl) (Dr 1 rfl (As ty3) ?_)))
   refine Dr 3 rfl (Aa fld40_1 rfl) (Dr 4 rfl (As ty3) ?_)
   refine Dr 5 rfl (Cr Bf Ch rfl om) (Dr 7 rfl (Aa fld40_0 rfl) (Dr 8 rfl (As ty3) ?_))
   refine Dr 10 rfl (Aa fld40_1 rfl) (Dr 11 rfl (As ty3) ?_)
   refine Dr 12 rfl (Cr Bf Ch rfl om) (Cc (rs:=[2,14,15]) kr rfl rfl (C4 ?_ (C4 ?_ (Dc ?_))))
   ·refine Sc0 rfl (Aj call123 rfl rfl (WSize_ok x.num om)) ?_
    refine Cc (rs:=[6,14,15]) kr rfl rfl (C4 ?_ (C4 ?_ (Dc ?_)))
    ·refine Sc0 rfl (Aj call122 rfl rfl (WMul_ok x.num y.den om om)) ?_
     refine Cc (rs:=[9,14,15]) kr rfl rfl (C4 ?_ (C4 ?_ (Dc ?_)))
     ·refine Sc0 rfl (Aj call123 rfl rfl (WSize_ok y.num om)) ?_
      refine Cc (rs:=[13,14,15]) kr rfl rfl (C4 ?_ (C4 ?_ (Dc ?_)))
      ·refine Sc0 rfl (Aj call122 rfl rfl (WMul_ok y.num x.den om om)) ?_
       refine Cc (rs:=[14,15]) kr rfl rfl (C4 ?_ (Dc ?_))
       ·refine Se1 rfl (Ax ty177 rfl) fun b3=>?_
        refine Ds1 15 (Se1 rfl (Ax ty177 rfl) fun b4=>?_)
        refine Ds1 16 (Se0 rfl (Bj ty177) ?_)
        refine Ds1 17 (Se0 rfl (Bj ty177) ?_)
        exact Dz (Cl ((b3),(b4)) trivial)
       ·refine Se1 rfl (Ax ty177 rfl) fun b5=>?_
        refine Ds1 14 (Se1 rfl (Ax ty177 rfl) fun b6=>?_)
        refine Ds1 16 (Se0 rfl (Bj ty177) ?_)
        refine Ds1 17 (Se0 rfl (Bj ty177) ?_)
        exact Dz (Cl ((b6),(b5)) trivial)
      ·refine Se1 rfl (Ax ty177 rfl) fun b7=>?_
       refine Cc (rs:=[13,15]) kr rfl rfl (C4 ?_ (Dc ?_))
       ·refine Sc0 rfl (Aj call122 rfl rfl (WMul_ok y.num x.den om om)) ?_
        refine Ds1 15 (Se1 rfl (Ax ty177 rfl) fun b8=>?_)
        refine Ds1 16 (Se0 rfl (Bj ty177) ?_)
        refine Ds1 17 (Se0 rfl (Bj ty177) ?_)
        exact Dz (Cl ((b7),(b8)) trivial)
       ·refine Se1 rfl (Ax ty177 rfl) fun b9=>?_
        refine Ds1 13 (Sc0 rfl (Aj call122 rfl rfl (WMul_ok y.num x.den om om)) ?_)
        refine Ds1 16 (Se0 rfl (Bj ty177) ?_)
        refine Ds1 17 (Se0 rfl (Bj ty177) ?_)
        exact Dz (Cl ((b7),(b9)) trivial)
      ·refine Se1 rfl (Ax ty177 rfl) fun b10=>?_
       refine Cc (rs:=[13,14]) kr rfl rfl (C4 ?_ (Dc ?_))
       ·refine Sc0 rfl (Aj call122 rfl rfl (WMul_ok y.num x.den om om)) ?_
        refine Ds1 14 (Se1 rfl (Ax ty177 rfl) fun b11=>?_)
        refine Ds1 16 (Se0 rfl (Bj ty177) ?_)
        refine Ds1 17 (Se0 rfl (Bj ty177) ?_)
        exact Dz (Cl ((b11),(b10)) trivial)
       ·refine Se1 rfl (Ax ty177 rfl) fun b12=>?_
        refine Ds1 13 (Sc0 rfl (Aj call122 rfl rfl (WMul_ok y.num x.den om om)) ?_)
        refine Ds1 16 (Se0 rfl (Bj ty177) ?_)
        refine Ds1 17 (Se0 rfl (Bj ty177) ?_)
        exact Dz (Cl ((b12),(b10)) trivial)
     ·refine Se1 rfl (Ax ty177 rfl) fun b13=>?_
      refine Cc (rs:=[9,15]) kr rfl rfl (C4 ?_ (Dc ?_))
      ·refine Sc0 rfl (Aj call123 rfl rfl (WSize_ok y.num om)) ?_
       refine Cc (rs:=[13,15]) kr rfl rfl (C4 ?_ (Dc ?_))
       ·refine Sc0 rfl (Aj call122 rfl rfl (WMul_ok y.num x.den om om)) ?_
        refine Ds1 15 (Se1 rfl (Ax ty177 rfl) fun b14=>?_)
        refine Ds1 16 (Se0 rfl (Bj ty177) ?_)
        refine Ds1 17 (Se0 rfl (Bj ty177) ?_)
        exact Dz (Cl ((b13),(b14)) trivial)
       ·refine Se1 rfl (Ax ty177 rfl) fun b15=>?_
        refine Ds1 13 (Sc0 rfl (Aj call122 rfl rfl (WMul_ok y.num x.den om om)) ?_)
        refine Ds1 16 (Se0 rfl (Bj ty177) ?_)
        refine Ds1 17 (Se0 rfl (Bj ty177) ?_)
        exact Dz (Cl ((b13),(b15)) trivial)
      ·refine Se1 rfl (Ax ty177 rfl) fun b16=>?_
       refine Ds1 9 (Sc0 rfl (Aj call123 rfl rfl (WSize_ok y.num om)) ?_)
       refine Ds1 13 (Sc0 rfl (Aj call122 rfl rfl (WMul_ok y.num x.den om om)) ?_)
       refine Ds1 16 (Se0 rfl (Bj ty177) ?_)
       refine Ds1 17 (Se0 rfl (Bj ty177) ?_)
       exact Dz (Cl ((b13),(b16)) trivial)
     ·refine Se1 rfl (Ax ty177 rfl) fun b17=>?_
      refine Cc (rs:=[9,14]) kr rfl rfl (C4 ?_ (Dc ?_))
      ·refine Sc0 rfl (Aj call123 rfl rfl (WSize_ok y.num om)) ?_
       refine Cc (rs:=[13,14]) kr rfl rfl (C4 ?_ (Dc ?_))
       ·refine Sc0 rfl (Aj call122 rfl rfl (WMul_ok y.num x.den om om)) ?_
        refine Ds1 14 (Se1 rfl (Ax ty177 rfl) fun b18=>?_)
        refine Ds1 16 (Se0 rfl (Bj ty177) ?_)
        refine Ds1 17 (Se0 rfl (Bj ty177) ?_)
        exact Dz (Cl ((b18),(b17)) trivial)
       ·refine Se1 rfl (Ax ty177 rfl) fun b19=>?_
        refine Ds1 13 (Sc0 rfl (Aj call122 rfl rfl (WMul_ok y.num x.den om om)) ?_)
        refine Ds1 16 (Se0 rfl (Bj ty177) ?_)
        refine Ds1 17 (Se0 rfl (Bj ty177) ?_)
        exact Dz (Cl ((b19),(b17)) trivial)
      ·refine Se1 rfl (Ax ty177 rfl) fun b20=>?_
       refine Ds1 9 (Sc0 rfl (Aj call123 rfl rfl (WSize_ok y.num om)) ?_)
       refine Ds1 13 (Sc0 rfl (Aj call122 rfl rfl (WMul_ok y.num x.den om om)) ?_)
       refine Ds1 16 (Se0 rfl (Bj ty177) ?_)
       refine Ds1 17 (Se0 rfl (Bj ty177) ?_)
       exact Dz (Cl ((b20),(b17)) trivial)
    ·refine Se1 rfl (Ax ty177 rfl) fun b21=>?_
     refine Cc (rs:=[6,15]) kr rfl rfl (C4 ?_ (Dc ?_))
     ·refine Sc0 rfl (Aj call122 rfl rfl (WMul_ok x.num y.den om om)) ?_
      refine Cc (rs:=[9,15]) kr rfl rfl (C4 ?_ (Dc ?_))
      ·refine Sc0 rfl (Aj call123 rfl rfl (WSize_ok y.num om)) ?_
       refine Cc (rs:=[13,15]) kr rfl rfl (C4 ?_ (Dc ?_))
       ·refine Sc0 rfl (Aj call122 rfl rfl (WMul_ok y.num x.den om om)) ?_
        refine Ds1 15 (Se1 rfl (Ax ty177 rfl) fun b22=>?_)
        refine Ds1 16 (Se0 rfl (Bj ty177) ?_)
        refine Ds1 17 (Se0 rfl (Bj ty177) ?_)
        exact Dz (Cl ((b21),(b22)) trivial)
       ·refine Se1 rfl (Ax ty177 rfl) fun b23=>?_
        refine Ds1 13 (Sc0 rfl (Aj call122 rfl rfl (WMul_ok y.num x.den om om)) ?_)
        refine Ds1 16 (Se0 rfl (Bj ty177) ?_)
        refine Ds1 17 (Se0 rfl (Bj ty177) ?_)
        exact Dz (Cl ((b21),(b23)) trivial)
      ·refine Se1 rfl (Ax ty177 rfl) fun b24=>?_
       refine Ds1 9 (Sc0 rfl (Aj call123 rfl rfl (WSize_ok y.num om)) ?_)
       refine Ds1 13 (Sc0 rfl (Aj call122 rfl rfl (WMul_ok y.num x.den om om)) ?_)
       refine Ds1 16 (Se0 rfl (Bj ty177) ?_)
       refine Ds1 17 (Se0 rfl (Bj ty177) ?_)
       exact Dz (Cl ((b21),(b24)) trivial)
     ·refine Se1 rfl (Ax ty177 rfl) fun b25=>?_
      refine Ds1 6 (Sc0 rfl (Aj call122 rfl rfl (WMul_ok x.num y.den om om)) ?_)
      refine Ds1 9 (Sc0 rfl (Aj call123 rfl rfl (WSize_ok y.num om)) ?_)
      refine Ds1 13 (Sc0 rfl (Aj call122 rfl rfl (WMul_ok y.num x.den om om)) ?_)
      refine Ds1 16 (Se0 rfl (Bj ty177) ?_)
      refine Ds1 17 (Se0 rfl (Bj ty177) ?_)
      exact Dz (Cl ((b21),(b25)) trivial)
    ·refine Se1 rfl (Ax ty177 rfl) fun b26=>?_
     refine Cc (rs:=[6,14]) kr rfl rfl (C4 ?_ (Dc ?_))
     ·refine Sc0 rfl (Aj call122 rfl rfl (WMul_ok x.num y.den om om)) ?_
      refine Cc (rs:=[9,14]) kr rfl rfl (C4 ?_ (Dc ?_))
      ·refine Sc0 rfl (Aj call123 rfl rfl (WSize_ok y.num om)) ?_
       refine Cc (rs:=[13,14]) kr rfl rfl (C4 ?_ (Dc ?_))
       ·refine Sc0 rfl (Aj call122 rfl rfl (WMul_ok y.num x.den om om)) ?_
        refine Ds1 14 (Se1 rfl (Ax ty177 rfl) fun b27=>?_)
        refine Ds1 16 (Se0 rfl (Bj ty177) ?_)
        refine Ds1 17 (Se0 rfl (Bj ty177) ?_)
        exact Dz (Cl ((b27),(b26)) trivial)
       ·refine Se1 rfl (Ax ty177 rfl) fun b28=>?_
        refine Ds1 13 (Sc0 rfl (Aj call122 rfl rfl (WMul_ok y.num x.den om om)) ?_)
        refine Ds1 16 (Se0 rfl (Bj ty177) ?_)
        refine Ds1 17 (Se0 rfl (Bj ty177) ?_)
        exact Dz (Cl ((b28),(b26)) trivial)
      ·refine Se1 rfl (Ax ty177 rfl) fun b29=>?_
       refine Ds1 9 (Sc0 rfl (Aj call123 rfl rfl (WSize_ok y.num om)) ?_)
       refine Ds1 13 (Sc0 rfl (Aj call122 rfl rfl (WMul_ok y.num x.den om om)) ?_)
       refine Ds1 16 (Se0 rfl (Bj ty177) ?_)
       refine Ds1 17 (Se0 rfl (Bj ty177) ?_)
       exact Dz (Cl ((b29),(b26)) trivial)
     ·refine Se1 rfl (Ax ty177 rfl) fun b30=>?_
      refine Ds1 6 (Sc0 rfl (Aj call122 rfl rfl (WMul_ok x.num y.den om om)) ?_)
      refine Ds1 9 (Sc0 rfl (Aj call123 rfl rfl (WSize_ok y.num om)) ?_)
      refine Ds1 13 (Sc0 rfl (Aj call122 rfl rfl (WMul_ok y.num x.den om om)) ?_)
      refine Ds1 16 (Se0 rfl (Bj ty177) ?_)
      refine Ds1 17 (Se0 rfl (Bj ty177) ?_)
      exact Dz (Cl ((b30),(b26)) trivial)
   ·refine Se1 rfl (Ax ty177 rfl) fun b31=>?_
    refine Cc (rs:=[2,15]) kr rfl rfl (C4 ?_ (Dc ?_))
    ·refine Sc0 rfl (Aj call123 rfl rfl (WSize_ok x.num om)) ?_
     refine Cc (rs:=[6,15]) kr rfl rfl (C4 ?_ (Dc ?_))
     ·refine Sc0 rfl (Aj call122 rfl rfl (WMul_ok x.num y.den om om)) ?_
      refine Cc (rs:=[9,15]) kr rfl rfl (C4 ?_ (Dc ?_))
      ·refine Sc0 rfl (Aj call123 rfl rfl (WSize_ok y.num om)) ?_
       refine Cc (rs:=[13,15]) kr rfl rfl (C4 ?_ (Dc ?_))
       ·refine Sc0 rfl (Aj call122 rfl rfl (WMul_ok y.num x.den om om)) ?_
        refine Ds1 15 (Se1 rfl (Ax ty177 rfl) fun b32=>?_)
        refine Ds1 16 (Se0 rfl (Bj ty177) ?_)
        refine Ds1 17 (Se0 rfl (Bj ty177) ?_)
        exact Dz (Cl ((b31),(b32)) trivial)
       ·refine Se1 rfl (Ax ty177 rfl) fun b33=>?_
        refine Ds1 13 (Sc0 rfl (Aj call122 rfl rfl (WMul_ok y.num x.den om om)) ?_)
        refine Ds1 16 (Se0 rfl (Bj ty177) ?_)
        refine Ds1 17 (Se0 rfl (Bj ty177) ?_)
        exact Dz (Cl ((b31),(b33)) trivial)
      ·refine Se1 rfl (Ax ty177 rfl) fun b34=>?_
       refine Ds1 9 (Sc0 rfl (Aj call123 rfl rfl (WSize_ok y.num om)) ?_)
       refine Ds1 13 (Sc0 rfl (Aj call122 rfl rfl (WMul_ok y.num x.den om om)) ?_)
       refine Ds1 16 (Se0 rfl (Bj ty177) ?_)
       refine Ds1 17 (Se0 rfl (Bj ty177) ?_)
       exact Dz (Cl ((b31),(b34)) trivial)
     ·refine Se1 rfl (Ax ty177 rfl) fun b35=>?_
      refine Ds1 6 (Sc0 rfl (Aj call122 rfl rfl (WMul_ok x.num y.den om om)) ?_)
      refine Ds1 9 (Sc0 rfl (Aj call123 rfl rfl (WSize_ok y.num om)) ?_)
      refine Ds1 13 (Sc0 rfl (Aj call122 rfl rfl (WMul_ok y.num x.den om om)) ?_)
      refine Ds1 16 (Se0 rfl (Bj ty177) ?_)
      refine Ds1 17 (Se0 rfl (Bj ty177) ?_)
      exact Dz (Cl ((b31),(b35)) trivial)
    ·refine Se1 rfl (Ax ty177 rfl) fun b36=>?_
     refine Ds1 2 (Sc0 rfl (Aj call123 rfl rfl (WSize_ok x.num om)) ?_)
     refine Ds1 6 (Sc0 rfl (Aj call122 rfl rfl (WMul_ok x.num y.den om om)) ?_)
     refine Ds1 9 (Sc0 rfl (Aj call123 rfl rfl (WSize_ok y.num om)) ?_)
     refine Ds1 13 (Sc0 rfl (Aj call122 rfl rfl (WMul_ok y.num x.den om om)) ?_)
     refine Ds1 16 (Se0 rfl (Bj ty177) ?_)
     refine Ds1 17 (Se0 rfl (Bj ty177) ?_)
     exact Dz (Cl ((b31),(b36)) trivial)
   ·refine Se1 rfl (Ax ty177 rfl) fun b37=>?_
    refine Cc (rs:=[2,14]) kr rfl rfl (C4 ?_ (Dc ?_))
    ·refine Sc0 rfl (Aj call123 rfl rfl (WSize_ok x.num om)) ?_
     refine Cc (rs:=[6,14]) kr rfl rfl (C4 ?_ (Dc ?_))
     ·refine Sc0 rfl (Aj call122 rfl rfl (WMul_ok x.num y.den om om)) ?_
      refine Cc (rs:=[9,14]) kr rfl rfl (C4 ?_ (Dc ?_))
      ·refine Sc0 rfl (Aj call123 rfl rfl (WSize_ok y.num om)) ?_
       refine Cc (rs:=[13,14]) kr rfl rfl (C4 ?_ (Dc ?_))
       ·refine Sc0 rfl (Aj call122 rfl rfl (WMul_ok y.num x.den om om)) ?_
        refine Ds1 14 (Se1 rfl (Ax ty177 rfl) fun b38=>?_)
        refine Ds1 16 (Se0 rfl (Bj ty177) ?_)
        refine Ds1 17 (Se0 rfl (Bj ty177) ?_)
        exact Dz (Cl ((b38),(b37)) trivial)
       ·refine Se1 rfl (Ax ty177 rfl) fun b39=>?_
        refine Ds1 13 (Sc0 rfl (Aj call122 rfl rfl (WMul_ok y.num x.den om om)) ?_)
        refine Ds1 16 (Se0 rfl (Bj ty177) ?_)
        refine Ds1 17 (Se0 rfl (Bj ty177) ?_)
        exact Dz (Cl ((b39),(b37)) trivial)
      ·refine Se1 rfl (Ax ty177 rfl) fun b40=>?_
       refine Ds1 9 (Sc0 rfl (Aj call123 rfl rfl (WSize_ok y.num om)) ?_)
       refine Ds1 13 (Sc0 rfl (Aj call122 rfl rfl (WMul_ok y.num x.den om om)) ?_)
       refine Ds1 16 (Se0 rfl (Bj ty177) ?_)
       refine Ds1 17 (Se0 rfl (Bj ty177) ?_)
       exact Dz (Cl ((b40),(b37)) trivial)
     ·refine Se1 rfl (Ax ty177 rfl) fun b41=>?_
      refine Ds1 6 (Sc0 rfl (Aj call122 rfl rfl (WMul_ok x.num y.den om om)) ?_)
      refine Ds1 9 (Sc0 rfl (Aj call123 rfl rfl (WSize_ok y.num om)) ?_)
      refine Ds1 13 (Sc0 rfl (Aj call122 rfl rfl (WMul_ok y.num x.den om om)) ?_)
      refine Ds1 16 (Se0 rfl (Bj ty177) ?_)
      refine Ds1 17 (Se0 rfl (Bj ty177) ?_)
      exact Dz (Cl ((b41),(b37)) trivial)
    ·refine Se1 rfl (Ax ty177 rfl) fun b42=>?_
     refine Ds1 2 (Sc0 rfl (Aj call123 rfl rfl (WSize_ok x.num om)) ?_)
     refine Ds1 6 (Sc0 rfl (Aj call122 rfl rfl (WMul_ok x.num y.den om om)) ?_)
     refine Ds1 9 (Sc0 rfl (Aj call123 rfl rfl (WSize_ok y.num om)) ?_)
     refine Ds1 13 (Sc0 rfl (Aj call122 rfl rfl (WMul_ok y.num x.den om om)) ?_)
     refine Ds1 16 (Se0 rfl (Bj ty177) ?_)
     refine Ds1 17 (Se0 rfl (Bj ty177) ?_)
     exact Dz (Cl ((b42),(b37)) trivial)
  ·rintro ⟨b51,b61⟩ hp
   show W Tryz.prog κ 52 _ _ ([(2,.pointer (some ⟨b1,0,none⟩)),(5,.pointer (some ⟨b51,0,none⟩)),(6,.pointer (some ⟨b61,0,none⟩))]:Env) (blk b51 [.int .u64 (0),.int .u64 (x.num*y.den)] 177::blk b61 [.int .u64 (0),.int .u64 (y.num*x.den)] 177::blk b2 [I64 (y.num),I64 (y.den)] 40::blk b1 [I64 (x.num),I64 (x.den)] 40::I)
   refine Av (Ah (Gf fld40_0 rfl (Gl ty3 ?_)))
   refine Gr (A8 rfl rfl) (Af (A6 rfl (fun c41=>?_) (fun c41=>?_)))
   ·exact absurd c41 om
   ·refine Az (Ai (Av (A5 (Ah (Gl2 ty177 ?_)))))
    refine Gl2 ty177 ?_
    refine Gc0 (Aj call124 rfl rfl (WLess_ok (x.num*y.den) (y.num*x.den))) ?_
    refine Ga rfl (Af (A6 rfl (fun c44=>?_) (fun c44=>?_)))
    ·exact Ah (Ga rfl (Af (Ay (Au (Ad (A0 rfl rfl (I) A1 ⟨congrArg I64 (by unfold cmpF;repeat (first|omega|split)),rfl⟩))))))
    ·refine Ah (Gl2 ty177 ?_)
     refine Gl2 ty177 ?_
     refine Gr (Er (α:=Wd) (a:=(⟨0,x.num*y.den⟩:Wd)) (b:=(⟨0,y.num*x.den⟩:Wd)) eqt177 rfl rfl) (Ga rfl (Af (Ar (S1 48 rfl) (A6 rfl (fun c48=>?_) (fun c48=>?_)))))
     ·refine Ah (Ga rfl (Af (Ay (Au (Ad ?_)))))
      have hcq:=c48
      rw [Wd.mk.injEq] at hcq
      exact A0 rfl rfl (I) A1 ⟨congrArg I64 (by unfold cmpF;repeat (first|omega|split)),rfl⟩
     ·refine Az (Al (Ai (Ah (Ga rfl (Af (Ay ?_))))))
      have hcq:=c48
      rw [Wd.mk.injEq] at hcq
      exact A0 rfl rfl (I) A1 ⟨congrArg I64 (by unfold cmpF;repeat (first|omega|split)),rfl⟩
theorem BestR.frv{nd N D:Int}{es:List Pt}{B:BitVec 64}(h:BestR nd es N D B)(hG:GrOk nd es):FrV ⟨N,D⟩:=by
 by_cases hn:nd=0
 ·obtain ⟨h1,h2,_⟩:=h.none (checkG_ok.2 hG) hn
  subst h1 h2
  exact ⟨by decide,by decide,by decide,by decide,by decide⟩
 ·obtain ⟨x,y,hx,hy,e⟩:=(h.some (checkG_ok.2 hG) hn).red
  rw [e]
  exact mkF_val hx.1 om om om
theorem cmpF_ge{x y:Fr}:0≤cmpF x y↔y.num*x.den≤x.num*y.den:=by unfold cmpF;repeat (first|omega|split)
def densQ(nd:Int)(es:List Pt)(num den:Int):Prop:=if nd=0 then num≤0 else ∃W,subN nd W∧W≠0#64∧num*cntB W≤den*insE W es
theorem BestR.holds{nd N D num den:Int}{es:List Pt}{B:BitVec 64}(h:BestR nd es N D B)(hG:GrOk nd es)(hf:FrV ⟨num,den⟩):0≤cmpF ⟨N,D⟩ ⟨num,den⟩↔densQ nd es num den:=by
 rw [cmpF_ge]
 unfold densQ
 by_cases hn:nd=0
 ·obtain ⟨h1,h2,_⟩:=h.none (checkG_ok.2 hG) hn
  subst h1 h2
  rw [if_pos hn]
  show num*1≤0*den↔_
  omega
 ·rw [if_neg hn]
  have hd:=h.some (checkG_ok.2 hG) hn
  exact hd.dens.reach hd.den.1 hf.d0
end Go.Sl
namespace Go.Sl
end Go.Sl
namespace Go.Sl
open Go.Proofs
set_option maxRecDepth 4000
theorem lateTm_yes{kd wd:Int}{xs:List Lk}{k:Nat}(h:k<xs.length)(h1:kd=2)(h2:(at_ xs (k:Int)).tm+wd≤1048576):(lateL kd wd (xs.take (k+1))).map Ev.tm=(lateL kd wd (xs.take k)).map Ev.tm++[(at_ xs (k:Int)).tm+wd]:=by
 rw [late_yes h h1 h2,List.map_append];rfl
theorem lateTm_no{kd wd:Int}{xs:List Lk}{k:Nat}(h:k<xs.length)(h1:¬kd=2∨¬(at_ xs (k:Int)).tm+wd≤1048576):(lateL kd wd (xs.take (k+1))).map Ev.tm=(lateL kd wd (xs.take k)).map Ev.tm:=by rw [late_no h h1]
end Go.Sl
namespace Go.Sl
end Go.Sl
namespace Go.Sl
open Go.Proofs
set_option maxRecDepth 4000
variable {κ:Ctx}{I:List Item}
theorem MkWindowV_base{b:Nat}{lv:Value}{ls:List Int}{i:Int}(hl:∀q,Sl κ (deck b lv q::I) lv ls)(h0:0≤i)   :
    CallS Tryz.prog κ 21 [.pointer (some ⟨b,0,none⟩)] (blk b [lv,I64 (i)] 125::I) (fun r J=>∃y:Int×Int×Int×Int,((r = .agg #[I64 y.1,I64 y.2.1,I64 y.2.2.1]∧checkW y.1 y.2.1 y.2.2.1=0)∧0≤y.2.2.2)∧J=[]++deck b lv y.2.2.2::I):=by
 refine Ce1 Tryz.func21 rfl rfl ?_
 refine Ah (Ge1 (Ax ty31 rfl) fun b1=>Af (Av (Ah (Gm rfl (G.e (Aj call19 rfl rfl (Next_ok (by repeat (first|exact AtF.head _ _|apply AtF.tail)) (Cj (hl _) A1) om om)) ?_)))))
 rintro _ _ ⟨_,_,⟨x2,i3,rfl,hx2,hi3,rfl⟩,rfl,rfl⟩
 show G Tryz.prog κ _ _ _ _ ([(4,I64 (x2)),(3,.pointer (some ⟨b,0,none⟩)),(2,.pointer (some ⟨b1,0,none⟩)),(0,.pointer (some ⟨b,0,none⟩))]:Env) (blk b1 [I64 (0),I64 (0),I64 (0)] 31::blk b [lv,I64 (i3)] 125::I)
 refine Af (A5 (Ah (Gr (Bi rfl rfl) (Ga rfl (Af (A6 rfl (fun c5=>?_) (fun c5=>?_)))))))
 ·refine Ah (Gm rfl (G.e (Aj call19 rfl rfl (Next_ok (by repeat (first|exact AtF.head _ _|apply AtF.tail)) (Cj (hl _) A1) om om)) ?_))
  rintro _ _ ⟨_,_,⟨x4,i5,rfl,hx4,hi5,rfl⟩,rfl,rfl⟩
  show G Tryz.prog κ _ _ _ _ ([(8,I64 (x4)),(7,.pointer (some ⟨b,0,none⟩)),(5,.bool (decide (x2=1))),(6,.bool (decide (x2=1))),(4,I64 (x2)),(3,.pointer (some ⟨b,0,none⟩)),(2,.pointer (some ⟨b1,0,none⟩)),(0,.pointer (some ⟨b,0,none⟩))]:Env) (blk b1 [I64 (0),I64 (0),I64 (0)] 31::blk b [lv,I64 (i5)] 125::I)
  refine Gr (Rad rfl rfl) (Gr (Bc (cells:=[_,_,_]) ty31 Em pl31 rfl rfl) (Ge0 (Es3_3 ty31) ?_))
  exact Af (Ay (Au (Ad (C6 rfl ty31 rfl mm rfl (blk b [lv,I64 (i5)] 125::I) A4 ⟨(2,1+x4,0,i5),⟨⟨rfl,by show checkW (2) (1+x4) (0)=0;unfold checkW;rw [if_neg om,if_neg om]⟩,by show 0≤i5;omega⟩,rfl⟩))))
 ·refine Ah (Gr (Bi rfl rfl) (Ga rfl (Af (A6 rfl (fun c11=>?_) (fun c11=>?_)))))
  ·refine Ah (Gm rfl (G.e (Aj call19 rfl rfl (Next_ok (by repeat (first|exact AtF.head _ _|apply AtF.tail)) (Cj (hl _) A1) om om)) ?_))
   rintro _ _ ⟨_,_,⟨x6,i7,rfl,hx6,hi7,rfl⟩,rfl,rfl⟩
   show G Tryz.prog κ _ _ _ _ ([(14,I64 (x6)),(13,.pointer (some ⟨b,0,none⟩)),(11,.bool (decide (x2=2))),(12,.bool (decide (x2=2))),(5,.bool (decide (x2=1))),(6,.bool (decide (x2=1))),(4,I64 (x2)),(3,.pointer (some ⟨b,0,none⟩)),(2,.pointer (some ⟨b1,0,none⟩)),(0,.pointer (some ⟨b,0,none⟩))]:Env) (blk b1 [I64 (0),I64 (0),I64 (0)] 31::blk b [lv,I64 (i7)] 125::I)
   refine Gr (Bc (cells:=[_,_,_]) ty31 Em pl31 rfl rfl) (Ge0 (Es3_3 ty31) ?_)
   exact Af (Ay (Au (Ad (C6 rfl ty31 rfl mm rfl (blk b [lv,I64 (i7)] 125::I) A4 ⟨(3,0,x6,i7),⟨⟨rfl,by show checkW (3) (0) (x6)=0;unfold checkW;rw [if_neg om,if_neg om]⟩,by show 0≤i7;omega⟩,rfl⟩))))
  ·refine Az (Al (Ai (Ah (Gr (Bc (cells:=[_,_,_]) ty31 Em pl31 rfl rfl) (Ge0 (Es3_3 ty31) ?_)))))
   exact Af (Ay (C6 rfl ty31 rfl mm rfl (blk b [lv,I64 (i3)] 125::I) A4 ⟨(1,0,0,i3),⟨⟨rfl,by show checkW (1) (0) (0)=0;unfold checkW;rw [if_neg om,if_neg om]⟩,by show 0≤i3;omega⟩,rfl⟩))
theorem MkWindowV_at{F:Item→List Item}{b:Nat}{lv:Value}{ls:List Int}{i:Int}(hat:AtF I (deck b lv i) F)(hl:∀q,Sl κ (F (deck b lv q)) lv ls)(h0:0≤i)   :
  CallS Tryz.prog κ 21 [.pointer (some ⟨b,0,none⟩)] I fun r J=>∃y:Int×Int×Int×Int,((r = .agg #[I64 y.1,I64 y.2.1,I64 y.2.2.1]∧checkW y.1 y.2.1 y.2.2.1=0)∧0≤y.2.2.2)∧J=[]++F (deck b lv y.2.2.2):=
 D4 (Post:=fun r (y:Int×Int×Int×Int)=>(r = .agg #[I64 y.1,I64 y.2.1,I64 y.2.2.1]∧checkW y.1 y.2.1 y.2.2.1=0)∧0≤y.2.2.2) (Z:=fun y:Int×Int×Int×Int=>[]) (X:=fun y:Int×Int×Int×Int=>deck b lv y.2.2.2) hat fun J _ hF=>MkWindowV_base (fun q=>(hl q).fit (hF _)) h0  
end Go.Sl
namespace Go.Sl
variable {P:Program}{κ:Ctx}{N:Frm}{L:Env}{I:List Item}
theorem V.rettct{fn:Func}{t u s:Tmp}{T b E sz by':Nat}{z cs:List Value}{v' v'':Value}{Post:Value→List Item→Prop}(hr:fn.results = #[.tmp u,.cell t T,.tmp s])(hT:tyF P T=some (sz,true,by',z))(hv:look L t=some (.pointer (some ⟨b,0,none⟩)))(hv':look L u=some v')(hv'':look L s=some v'')(hb:blk b cs E∈I)
  (hl:cs.length=sz) (J:List Item) (hf:Fit κ I J) (hp:Post (.tuple #[v',.agg cs.toArray,v'']) J) (h0:N.ds=[]:=by rfl):V κ N (bodyPost P fn (RetR κ Post)) .ret L I:=
 fun a w ha hs=>by
  have hcell:=fun j=>cell_blk (w:=w) (hs.ok _ hb).1 j
  have hload:(loadVar T ⟨b,0,none⟩).run P w = .ok (.agg cs.toArray) w:=run_loadVar_agg hT hl fun j u hj=>by rw [addr_add,hcell,←hj];simp
  refine bodyPost_ret (v:= .tuple #[v',.agg cs.toArray,v'']) ?_ (ha.defers.trans h0) ⟨_,J,rfl,hp,hf w hs⟩
  simp [results,hr,ha.get t _ hv,ha.get u _ hv',ha.get s _ hv'',asAddr,hload]
end Go.Sl
/- The densest set as the best of all sets, each once: the greatest set of the greatest density. No Go. No conditions. -/
namespace Go.Sl
theorem insE_super(A B:BitVec 64):∀es:List Pt,insE A es+insE B es≤insE (A ||| B) es+insE (A &&& B) es
 |[]=>by unfold insE;simp
 |e::es=>by
  have ih:=insE_super A B es
  have step:∀W:BitVec 64,insE W (e::es)=insE W es+if W.getLsbD e.u.toNat&&W.getLsbD e.v.toNat then 1 else 0:=fun W=>by
   unfold insE
   rw [List.filter_cons]
   split<;>simp
  rw [step,step,step,step]
  simp only [BitVec.getLsbD_or,BitVec.getLsbD_and]
  cases A.getLsbD e.u.toNat<;>cases A.getLsbD e.v.toNat<;>cases B.getLsbD e.u.toNat<;>cases B.getLsbD e.v.toNat<;>simp<;>omega
theorem filter_two{α:Type}(p:α→Bool):∀l:List α,(l.filter p).length+(l.filter fun x=> !p x).length=l.length
 |[]=>rfl
 |x::xs=>by
  have:=filter_two p xs
  simp only [List.filter_cons]
  cases p x<;>simp<;>omega
theorem cntB_union(A B:BitVec 64):cntB (A ||| B)+cntB (A &&& B)=cntB A+cntB B:=by
 have h1:(listB (A ||| B)).Perm (listB A++(listB B).filter fun x=> !decide (x∈listB A)):=by
  refine (List.perm_ext_iff_of_nodup (Ei _) ?_).2 fun u=>?_
  ·refine List.nodup_append.2 ⟨Ei _,(Ei _).filter _,fun a ha b hb e=>?_⟩
   have:=(List.mem_filter.1 hb).2
   rw [←e] at this
   simp [ha] at this
  ·rw [List.mem_append,List.mem_filter]
   by_cases hA:u∈listB A
   ·refine ⟨fun _=> .inl hA,fun _=>?_⟩
    rw [D7] at hA ⊢
    rw [BitVec.getLsbD_or,hA.2];simp [hA.1]
   ·rw [decide_eq_false hA]
    constructor
    ·intro hu
     rw [D7,BitVec.getLsbD_or] at hu
     refine .inr ⟨mem_listB.2 ⟨hu.1,?_⟩,rfl⟩
     rcases Bool.or_eq_true_iff.1 hu.2 with h|h
     ·exact absurd (mem_listB.2 ⟨hu.1,h⟩) hA
     ·exact h
    ·rintro (h|⟨h,_⟩)
     ·exact absurd h hA
     ·rw [D7] at h ⊢
      rw [BitVec.getLsbD_or,h.2];simp [h.1]
 have h2:(listB (A &&& B)).Perm ((listB B).filter fun x=>decide (x∈listB A)):=by
  refine (List.perm_ext_iff_of_nodup (Ei _) ((Ei _).filter _)).2 fun u=>?_
  rw [List.mem_filter,mem_andB,decide_eq_true_eq]
  exact and_comm
 have h3:=filter_two (fun x=>decide (x∈listB A)) (listB B)
 have e1:=h1.length_eq
 have e2:=h2.length_eq
 rw [List.length_append] at e1
 unfold cntB
 omega
theorem sub_or{nd:Int}{A B:BitVec 64}(ha:subN nd A)(hb:subN nd B):subN nd (A ||| B):=fun x hx=>by
 rw [D7,BitVec.getLsbD_or] at hx
 rcases Bool.or_eq_true_iff.1 hx.2 with h|h
 ·exact ha x (mem_listB.2 ⟨hx.1,h⟩)
 ·exact hb x (mem_listB.2 ⟨hx.1,h⟩)
theorem sub_and{nd:Int}{A B:BitVec 64}(ha:subN nd A):subN nd (A &&& B):=fun x hx=>ha x (mem_andB.1 hx).1
theorem dens_great{nd N D:Int}{es:List Pt}{B:BitVec 64}(hsub:subN nd B)(hne:B≠0#64)(heq:D*insE B es=N*cntB B)(hmax:∀W,subN nd W→W≠0#64→D*insE W es≤N*cntB W)(hbig:∀W,subN nd W→W≠0#64→D*insE W es=N*cntB W→cntB W≤cntB B)(hD:0≤D):DensP nd N D es B:=by
 have hz:∀W,subN nd W→D*insE W es≤N*cntB W:=fun W hW=>by
  by_cases e:W=0#64
  ·subst e;rw [insE_zero,cntB_zero];simp
  ·exact hmax W hW e
 refine ⟨hsub,hne,heq,hz,fun W hW hw x hx=>?_⟩
 have hU:=sub_or hW hsub
 have hUn:W ||| B≠0#64:=by
  obtain ⟨u,hu⟩:=nz_listB.1 hne
  refine nz_listB.2 ⟨u,?_⟩
  rw [D7] at hu ⊢
  rw [BitVec.getLsbD_or,hu.2];simp [hu.1]
 have h1:=hz (W ||| B) hU
 have h2:=hz (W &&& B) (sub_and hW)
 have h3:=Int.mul_le_mul_of_nonneg_left (insE_super W B es) hD
 have h4:N*(cntB (W ||| B)+cntB (W &&& B))=N*(cntB W+cntB B):=by rw [cntB_union]
 rw [Int.mul_add,Int.mul_add] at h3 h4
 have h5:=hbig (W ||| B) hU hUn om
 have hp:(listB B).Sublist (listB B):=List.Sublist.refl _
 have hin:∀u∈listB B,u∈listB (W ||| B):=fun u hu=>by
  rw [D7] at hu ⊢
  rw [BitVec.getLsbD_or,hu.2];simp [hu.1]
 have hx2:x∈listB (W ||| B):=by
  rw [D7] at hx ⊢
  rw [BitVec.getLsbD_or,hx.2];simp [hx.1]
 refine Classical.byContradiction fun hn=>?_
 have hnd:(x::listB B).Nodup:=List.nodup_cons.2 ⟨hn,Ei _⟩
 have:=List.Nodup.length_le_of_subset hnd (l₂:=listB (W ||| B)) fun u hu=>by
  rcases List.mem_cons.1 hu with rfl|hu
  ·exact hx2
  ·exact hin u hu
 rw [List.length_cons] at this
 unfold cntB at h5
 omega
end Go.Sl
