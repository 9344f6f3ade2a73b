/- A part of the proofs of statements of this seat: contracts of functions, and the plain laws that they lean on. No conditions. -/
import Derived.Test.YtfkcohmipjhfcaaGreatDoorK19
set_option linter.unusedVariables false
set_option linter.unusedSimpArgs false
set_option linter.unusedSectionVars false
open Go.Proofs.Tryz (prog)
namespace Go.Sl
open Go.Proofs
set_option maxRecDepth 4000
variable {κ:Ctx}{I:List Item}
structure FrV (x:Fr):Prop where
 n0:0<=x.num
 n1:x.num<=1073741824
 d0:1<=x.den
 d1:x.den<=1073741824
 cop:gcdI x.num x.den=1
theorem mkF_val{a b:Int}(h0:0<=a)(h1:a<=1073741824)(h2:0<b)(h3:b<=1073741824):FrV (mkF a b):=by
 have hn:=mkF_num h0 h2
 have hd:=mkF_den (a:=a) h2
 refine ⟨hn.1,by omega,hd.1,by omega,?_⟩
 obtain ⟨m,rfl⟩:=Int.eq_ofNat_of_zero_le h0
 obtain ⟨n,rfl⟩:=Int.eq_ofNat_of_zero_le (show 0<=b by omega)
 have hg:0<m.gcd n:=Nat.gcd_pos_of_pos_right _ om
 have hc:=Nat.coprime_div_gcd_div_gcd hg
 unfold mkF gcdI
 simp only [Int.toNat_natCast,Int.ofNat_eq_natCast,←Int.natCast_ediv]
 rw [hc.gcd_eq_one];rfl
def cmpF(x y:Fr):Int:=if x.num*y.den<y.num*x.den then -1 else if y.num*x.den<x.num*y.den then 1 else 0
def sgnI(n:Int):Int:=if n<0 then -1 else if 0<n then 1 else 0
theorem sgn_bd(n:Int) : -1<=sgnI n/\sgnI n<=1:=by unfold sgnI;split<;>(try split)<;>omega
theorem mul_small{x y:Int}(hx:0<=x/\x<=1073741824)(hy:0<=y/\y<=1073741824):0<=x*y/\x*y<=1152921504606846976:=by
 refine ⟨Int.mul_nonneg hx.1 hy.1,?_⟩
 have h1:=Int.mul_le_mul hx.2 hy.2 hy.1 dc
 omega
theorem FrV.mul{x y:Fr}(hx:FrV x)(hy:FrV y):(0<=x.num*y.den/\x.num*y.den<=1152921504606846976)/\(0<x.num->0<x.num*y.den):=by
 have h1:=hx.n0;have h2:=hx.n1;have h3:=hy.d0;have h4:=hy.d1
 exact ⟨mul_small ⟨h1,h2⟩ ⟨by omega,h4⟩,λh=>Int.mul_pos h om⟩
theorem Mul64_ok(x y:Int)(hx:0<=x/\x<=1073741824)(hy:0<=y/\y<=1073741824):eu prog κ 173 [.int .u64 x,.int .u64 y] I (λr J=>r = .tuple #[.int .u64 0,.int .u64 (x*y)]/\I=J):=by
 have hxy:=mul_small hx hy
 refine Ce2 Tryz.func173 C C ?_
 exact Ai (Ga C (Ga C (Af (Ai (Gm C (Gr (Fa (m:=x) (r:=x) C C om om om) (Ga C (Af (Ai (Gm C (Gr (D6 (m:=x) (r:=0) C C om) (Ga C (Af (Ai (Gm C (Gr (Fa (m:=y) (r:=y) C C om om om) (Ga C (Af (Ai (Gm C (Gr (D6 (m:=y) (r:=0) C C om) (Ga C (Af (Aq (S6 9 8 7 6 0 1 C C C C C C) (Ai (Gm C (Gm C (Gr (Eh (m:=x) (n:=y) (r:=x*y) C C C om om) (Ga C (Af (Ai (Gm C (Gm C (Gr (Eh (m:=0) (n:=y) (r:=0) C C (Int.zero_mul _) om om) (Gm C (Gr (D6 (m:=x*y) (r:=x*y / 4294967296) C C om) (Gr (Ew (m:=0) (n:=x*y / 4294967296) (r:=x*y / 4294967296) C C om om om) (Ga C (Af (Aq (S6 11 9 7 6 0 1 C C C C C C) (Ai (Gm C (Gr (Fa (m:=x*y / 4294967296) (r:=x*y / 4294967296) C C om om om) (Ga C (Af (Ai (Gm C (Gr (D6 (m:=x*y / 4294967296) (r:=0) C C om) (Ga C (Af (Ai (Gm C (Gm C (Gm C (Gr (Eh (m:=x) (n:=0) (r:=0) C C (Int.mul_zero _) om om) (Gr (Ew (m:=x*y / 4294967296) (n:=0) (r:=x*y / 4294967296) C C om om om) (Ga C (Af (Aq (S6 12 13 9 7 0 1 C C C C C C) (Ai (Gm C (Gm C (Gr (Eh (m:=0) (n:=0) (r:=0) C C (Int.zero_mul _) om om) (Gm C (Gr (Ew (m:=0) (n:=0) (r:=0) C C om om om) (Gm C (Gr (D6 (m:=x*y / 4294967296) (r:=0) C C om) (Gr (Ew (m:=0) (n:=0) (r:=0) C C om om om) (Ga C (Af (Aq (S3 4 0 1 C C C) (Ai (Gm C (Gm C (Gr (Eh (m:=x) (n:=y) (r:=x*y) C C C om om) (Ga C (Af (A2 (Cu C C C I A3 ⟨rfl,rfl⟩)))))))))))))))))))))))))))))))))))))))))))))))))))))))))))))))))))))))))))))))
theorem WMul_ok(x y:Int)(hx:0<=x/\x<=1073741824)(hy:0<=y/\y<=1073741824):eu prog κ 122 [.int .u64 x,.int .u64 y] I (λr J=>r = .agg #[.int .u64 0,.int .u64 (x*y)]/\I=J):=by
 have hxy:=mul_small hx hy
 refine Ce2 Tryz.func122 C C ?_
 refine Ai (Ge1 (Au ty177 C) λb1=>Af (Ai (Gm C (Gr (D6 (m:=x) (r:=0) C C om) (Gm C (Gr (Fa (m:=x) (r:=x) C C om om om) (Gm C (Gr (D6 (m:=y) (r:=0) C C om) (Gm C (Gr (Fa (m:=y) (r:=y) C C om om om) (Ga C (Ga C (Ga C (Ga C (Af (Aq (S5 8 7 6 5 4 C C C C C) (Ai (Gm C (Gm C (Gr (Eh (m:=x) (n:=y) (r:=x*y) C C C om om) (Ga C (Af (Ai (Gm C (Gm C (Gr (Eh (m:=0) (n:=y) (r:=0) C C (Int.zero_mul _) om om) (Gm C (Gr (D6 (m:=x*y) (r:=x*y / 4294967296) C C om) (Gr (Ew (m:=0) (n:=x*y / 4294967296) (r:=x*y / 4294967296) C C om om om) (Ga C (Af (Aq (S6 10 9 7 6 5 4 C C C C C C) (Ai (Gm C (Gm C (Gr (Eh (m:=x) (n:=0) (r:=0) C C (Int.mul_zero _) om om) (Gm C (Gr (Fa (m:=x*y / 4294967296) (r:=x*y / 4294967296) C C om om om) (Gr (Ew (m:=0) (n:=x*y / 4294967296) (r:=x*y / 4294967296) C C om om om) (Ga C (Af (Ai (Gm C (Gm C (Gr (Eh (m:=0) (n:=0) (r:=0) C C (Int.zero_mul _) om om) (Gm C (Gr (D6 (m:=x*y / 4294967296) (r:=0) C C om) (Gr (Ew (m:=0) (n:=0) (r:=0) C C om om om) (Gm C (Gr (D6 (m:=x*y / 4294967296) (r:=0) C C om) (Gr (Ew (m:=0) (n:=0) (r:=0) C C om om om) (Gm C (Gr (Runs.shl32 (m:=x*y / 4294967296) C C om om) (Gm C (Gr (Fa (m:=x*y) (r:=x*y % 4294967296) C C om om om) (Gr (Runs.orLow (m:=x*y / 4294967296) (n:=x*y % 4294967296) (r:=x*y) C C om om om om om) (Gr (Bc (cells:=[_,_]) ty177 Cz pl177 C C) (Ge0 (Bq ty177) ?_))))))))))))))))))))))))))))))))))))))))))))))))))))))))))
 exact Af (Aq (S1 4 C) (A2 (C5 C ty177 C mm C I A3 ⟨rfl,rfl⟩)))
theorem Sign_ok(n:Int):eu prog κ 172 [e7 n] I (λr J=>r=e7 (sgnI n)/\I=J):=by
 refine Ce1 Tryz.func172 C C ?_
 refine Ai (Ga C (Af (Ap (A0 (Ai (Gm C (Gr (A7 C C) (Ga C (Af (A8 C (λc3=>?_) (λc3=>?_)))))))))))
 ·exact Ai (Ga C (Af (A2 (Av (Am (A6 C C I A3 ⟨by unfold sgnI;first|rw [if_pos c3]|rw [if_neg c3,if_pos c6]|rw [if_neg c3,if_neg c6],rfl⟩))))))
 ·refine Ai (Gm C (Gr (Bw C C) (Ga C (Af (A8 C (λc6=>?_) (λc6=>?_))))))
  ·exact Ai (Ga C (Af (A2 (Av (Am (A6 C C I A3 ⟨by unfold sgnI;first|rw [if_pos c3]|rw [if_neg c3,if_pos c6]|rw [if_neg c3,if_neg c6],rfl⟩))))))
  ·exact Ay (Ak (Aj (Ai (Ga C (Af (A2 (A6 C C I A3 ⟨by unfold sgnI;first|rw [if_pos c3]|rw [if_neg c3,if_pos c6]|rw [if_neg c3,if_neg c6],rfl⟩)))))))
theorem RatValid_ok(x:Fr)(hx:FrV x):eu prog κ 89 [.agg #[e7 (x.num),e7 (x.den)]] I (λr J=>r = .bool true/\I=J):=by
 have hn0x:=hx.n0
 have hn1x:=hx.n1
 have hd0x:=hx.d0
 have hd1x:=hx.d1
 refine Ce1 Tryz.func89 C C ?_
 refine Ai (Ge1 (A9 (cs:=[_,_]) C C C) λb1=>Ga C (Af (Ai (Gf fld40_0 C (Gl ef ?_)))))
 refine G.e (Ah call157 C C (RWithin_ok x.num 1152921504606846976 om)) ?_
 rintro _ _ ⟨_,_,⟨rfl,rfl⟩,rfl,rfl⟩
 refine Gm C (Bg (d:=6) C (λg6=>?_) (λg6=>?_))
 ·refine e9 (Ab fld40_1 C) (e9 (As ef) ?_)
  refine e9 (B9 C C) (Gr (Ar C C) (Gm C (Bg (d:=11) C (λg11=>?_) (λg11=>?_))))
  ·refine e9 (Ab fld40_1 C) (e9 (As ef) ?_)
   refine e9 (Ey C C) (Gr (Ar C C) (Gm C (Bg (d:=16) C (λg16=>?_) (λg16=>?_))))
   ·refine e9 (Ab fld40_0 C) (e9 (As ef) ?_)
    refine e9 (Ab fld40_0 C) (e9 (As ef) ?_)
    refine e9 (Runs.neg C (by unfold InR;omega)) (e9 (D2 C C) ?_)
    have hmx22:(if x.num < -(x.num) then -(x.num) else x.num)=x.num:=by rw [if_neg om]
    rw [hmx22]
    refine e9 (Ab fld40_1 C) (e9 (As ef) ?_)
    refine D5 (Ck C C C) (Ah call158 C C (Common_ok x.num x.den om om)) ?_
    rintro _ _ ⟨_,_,⟨rfl,rfl⟩,rfl,rfl⟩
    exact e9 (Bu C C) (Gr (Ar C C) (Ga C (Af (Aq (S1 2 C) (A2 (A6 C C I A3 ⟨by rw [decide_eq_true hx.cop],rfl⟩))))))
   ·exact absurd om g16
  ·exact absurd om g11
 ·exact absurd om g6
set_option maxHeartbeats 1000000 in
theorem RatCmp_ok(x y:Fr)(hx:FrV x)(hy:FrV y):eu prog κ 101 [.agg #[e7 (x.num),e7 (x.den)],.agg #[e7 (y.num),e7 (y.den)]] I (λr J=>r=e7 (cmpF x y)/\I=J):=by
 have hn0x:=hx.n0
 have hn1x:=hx.n1
 have hd0x:=hx.d0
 have hd1x:=hx.d1
 have hn0y:=hy.n0
 have hn1y:=hy.n1
 have hd0y:=hy.d0
 have hd1y:=hy.d1
 have hb1:=sgn_bd x.num
 have hb2:=sgn_bd y.num
 have hm1:=hx.mul hy
 have hm2:=hy.mul hx
 have hz1:x.num=0->x.num*y.den=0:=λh=>by rw [h,Int.zero_mul]
 have hz2:y.num=0->y.num*x.den=0:=λh=>by rw [h,Int.zero_mul]
 refine Ce2 Tryz.func101 C C ?_
 refine Ai (Ge1 (A9 (cs:=[_,_]) C C C) λb1=>Ge1 (A9 (cs:=[_,_]) C C C) λb2=>Ga C (Af (Ap (Ai (Gl2 ty40 ?_)))))
 refine Gc0 (Ah call89 C C (RatValid_ok x asm)) ?_
 refine Gr (B4 C) (Gm C (e9 (Bd (vs:=[_,_]) ty40) ?_))
 refine D5 (Ck C C C) (Ah call89 C C (RatValid_ok y asm)) ?_
 rintro _ _ ⟨_,_,⟨rfl,rfl⟩,rfl,rfl⟩
 refine e9 (B4 C) (Gr (Ao C C) (Af (C2 C (Ay (Aj (Ai (Gf fld40_0 C (Gl ef ?_))))))))
 refine Gc0 (Ah call172 C C (Sign_ok x.num)) ?_
 refine Ga C (Af (Aq (S3 5 3 2 C C C) (Ap (Ai (Gf fld40_0 C (Gl ef ?_))))))
 refine Gc0 (Ah call172 C C (Sign_ok y.num)) ?_
 refine Ga C (Af (Ai (Gm C (Gm C (Gr (Br C C) (Gm C (Bg (d:=28) C (λg28=>?_) (λg28=>?_))))))))
 ·refine eb (eb (Gr (Ar C C) (Af (Aq (S5 31 6 5 3 2 C C C C C) (Cq C (Ai (Gm C (Gm C (Gr (Rsu C C) (Gc0 (Ah call172 C C (Sign_ok ((sgnI x.num) - (sgnI y.num)))) ?_))))))))))
  refine Ga C (Af (A2 (Am ?_)))
  have hsx:sgnI x.num=if x.num<0 then -1 else if 0<x.num then 1 else 0:=rfl
  have hsy:sgnI y.num=if y.num<0 then -1 else if 0<y.num then 1 else 0:=rfl
  exact A6 C C I A3 ⟨congrArg e7 (by first|(have hss:sgnI (sgnI x.num - sgnI y.num)=if sgnI x.num - sgnI y.num<0 then -1 else if 0<sgnI x.num - sgnI y.num then 1 else 0:=rfl;unfold cmpF;rw [hss];repeat (first|omega|split))|(unfold cmpF;repeat (first|omega|split))),rfl⟩
 ·refine e9 (Ad C) (e9 (Bu C C) (Gr (Ao C C) (Af (Aq (S5 31 6 5 3 2 C C C C C) (A8 C (λc31=>?_) (λc31=>?_))))))
  ·refine Ai (Gm C (Gm C (Gr (Rsu C C) (Gc0 (Ah call172 C C (Sign_ok ((sgnI x.num) - (sgnI y.num)))) ?_))))
   refine Ga C (Af (A2 (Am ?_)))
   have hsx:sgnI x.num=if x.num<0 then -1 else if 0<x.num then 1 else 0:=rfl
   have hsy:sgnI y.num=if y.num<0 then -1 else if 0<y.num then 1 else 0:=rfl
   exact A6 C C I A3 ⟨congrArg e7 (by first|(have hss:sgnI (sgnI x.num - sgnI y.num)=if sgnI x.num - sgnI y.num<0 then -1 else if 0<sgnI x.num - sgnI y.num then 1 else 0:=rfl;unfold cmpF;rw [hss];repeat (first|omega|split))|(unfold cmpF;repeat (first|omega|split))),rfl⟩
  ·refine Ay (Aj (Ai (Gf fld40_0 C (Gl ef ?_))))
   refine Gf fld40_0 C (Gl ef ?_)
   refine Gr (Runs.neg C (by unfold InR;omega)) (Gr (D2 C C) ?_)
   have hmx42:(if x.num < -(x.num) then -(x.num) else x.num)=x.num:=by rw [if_neg om]
   rw [hmx42]
   refine Gr (Dv Bj Cr C om) (Gf fld40_1 C (Gl ef ?_))
   refine Gr (Dv Bj Cr C om) (G.e (Ah call173 C C (Mul64_ok x.num y.den om om)) ?_)
   rintro _ _ ⟨_,_,⟨rfl,rfl⟩,rfl,rfl⟩
   refine Gm C (Gr (Aw C C) (Gr (Aw C C) (Ga C (Ga C (Af (Aq (S5 8 7 5 3 2 C C C C C) (Ai (Gf fld40_0 C (Gl ef ?_)))))))))
   refine Gf fld40_0 C (Gl ef ?_)
   refine Gr (Runs.neg C (by unfold InR;omega)) (Gr (D2 C C) ?_)
   have hmx56:(if y.num < -(y.num) then -(y.num) else y.num)=y.num:=by rw [if_neg om]
   rw [hmx56]
   refine Gr (Dv Bj Cr C om) (Gf fld40_1 C (Gl ef ?_))
   refine Gr (Dv Bj Cr C om) (G.e (Ah call173 C C (Mul64_ok y.num x.den om om)) ?_)
   rintro _ _ ⟨_,_,⟨rfl,rfl⟩,rfl,rfl⟩
   refine Gm C (Gr (Aw C C) (Gr (Aw C C) (Ga C (Ga C (Af (Aq (S5 10 9 8 7 5 C C C C C) (Ap (A0 (Ai (Gm C (Gm C (Gr (Bu C C) (Gm C (Bg (d:=68) C (λg68=>?_) (λg68=>?_)))))))))))))))
   ·refine e9 (Ad C) (e9 (Ad C) (e9 (Bu C C) (Gr (Ar C C) (Ga C (Af (Aq (S6 64 10 9 8 7 5 C C C C C C) (A8 C (λc64=>?_) (λc64=>?_))))))))
    ·refine Ai (Ga C (Af (A2 (Av (Am ?_)))))
     have hsx:sgnI x.num=if x.num<0 then -1 else if 0<x.num then 1 else 0:=rfl
     have hsy:sgnI y.num=if y.num<0 then -1 else if 0<y.num then 1 else 0:=rfl
     exact A6 C C I A3 ⟨congrArg e7 (by first|(have hss:sgnI (sgnI x.num - sgnI y.num)=if sgnI x.num - sgnI y.num<0 then -1 else if 0<sgnI x.num - sgnI y.num then 1 else 0:=rfl;unfold cmpF;rw [hss];repeat (first|omega|split))|(unfold cmpF;repeat (first|omega|split))),rfl⟩
    ·refine Ai (Gm C (Gm C (Gr (A7 C C) (Gm C (Bg (d:=77) C (λg77=>?_) (λg77=>?_))))))
     ·exact absurd g77 dc
     ·refine e9 (Ad C) (e9 (Ad C) (e9 (Bu C C) (e9 (Ad C) (Bg (d:=81) C (λg81=>?_) (λg81=>?_)))))
      ·refine e9 (Ad C) (e9 (Ad C) (e9 (A7 C C) (e9 (Ar C C) (Gr (Ao C C) (Ga C (Af (Aq (S2 73 5 C C) (A8 C (λc73=>?_) (λc73=>?_)))))))))
       ·refine Ai (Gm C (Gr (Runs.neg C (by unfold InR;omega)) (Ga C (Af (A2 (Av (Am ?_)))))))
        have hsx:sgnI x.num=if x.num<0 then -1 else if 0<x.num then 1 else 0:=rfl
        have hsy:sgnI y.num=if y.num<0 then -1 else if 0<y.num then 1 else 0:=rfl
        exact A6 C C I A3 ⟨congrArg e7 (by first|(have hss:sgnI (sgnI x.num - sgnI y.num)=if sgnI x.num - sgnI y.num<0 then -1 else if 0<sgnI x.num - sgnI y.num then 1 else 0:=rfl;unfold cmpF;rw [hss];repeat (first|omega|split))|(unfold cmpF;repeat (first|omega|split))),rfl⟩
       ·refine Ay (Ak (Aj (Ai (Gm C (Ga C (Af (A2 ?_)))))))
        have hsx:sgnI x.num=if x.num<0 then -1 else if 0<x.num then 1 else 0:=rfl
        have hsy:sgnI y.num=if y.num<0 then -1 else if 0<y.num then 1 else 0:=rfl
        exact A6 C C I A3 ⟨congrArg e7 (by first|(have hss:sgnI (sgnI x.num - sgnI y.num)=if sgnI x.num - sgnI y.num<0 then -1 else if 0<sgnI x.num - sgnI y.num then 1 else 0:=rfl;unfold cmpF;rw [hss];repeat (first|omega|split))|(unfold cmpF;repeat (first|omega|split))),rfl⟩
      ·exact absurd rfl g81
   ·exact absurd rfl g68
theorem Valid01_ok(x:Fr)(hx:FrV x):eu prog κ 92 [.agg #[e7 (x.num),e7 (x.den)]] I (λr J=>r = .bool true/\I=J):=by
 have hn0x:=hx.n0
 have hn1x:=hx.n1
 have hd0x:=hx.d0
 have hd1x:=hx.d1
 refine Ce1 Tryz.func92 C C ?_
 refine Ai (Ge1 (A9 (cs:=[_,_]) C C C) λb1=>Ga C (Af (Ap (Ai (Gf fld40_0 C (Gl ef ?_))))))
 refine Gr (A7 C C) (Gm C (Bg (d:=6) C (λg6=>?_) (λg6=>?_)))
 ·exact absurd g6 om
 ·refine e9 (Ab fld40_0 C) (e9 (As ef) ?_)
  refine e9 (Bw C C) (Gr (Ao C C) (Gm C (Bg (d:=11) C (λg11=>?_) (λg11=>?_))))
  ·exact absurd g11 om
  ·refine e9 (Ab fld40_1 C) (e9 (As ef) ?_)
   refine e9 (A7 C C) (Gr (Ao C C) (Gm C (Bg (d:=16) C (λg16=>?_) (λg16=>?_))))
   ·exact absurd g16 om
   ·refine e9 (Ab fld40_1 C) (e9 (As ef) ?_)
    refine e9 (Bw C C) (Gr (Ao C C) (Af (Aq (S2 20 1 C C) (A8 C (λc20=>?_) (λc20=>?_)))))
    ·exact absurd c20 om
    ·refine Ay (Aj (Ap (Bl mixed (Bt (e8 b1 [e7 (x.num),e7 (x.den)] 40::I) 12 (Dr 0 C (Ab fld40_0 C) (Dr 1 C (As ef) ?_))))))
     refine Dr 4 C (Ab fld40_1 C) (Dr 5 C (As ef) ?_)
     refine Dr 6 C (Dv Bj Cr C om) (Dr 7 C (Bc (cells:=[_,_]) ty177 Cz pl177 C C) (Dr 9 C (Bc (cells:=[_,_]) ty177 Cz pl177 C C) (Ds1 2 (Sc0 C (Ah call123 C C (WSize_ok x.num om)) ?_))))
     refine Dr 3 C (Bc (cells:=[_,_]) ty177 Cz pl177 C C) (Ds1 8 (Sc0 C (Ah call159 C C (WGcd_ok x.num x.den om om)) ?_))
     exact Dr 10 C (Eu (α:=Wd) (a:=(⟨0,gcdI x.num x.den⟩:Wd)) (b:=(⟨0,1⟩:Wd)) eqt177 C C) (Dr 11 C (Bb C) (Dz (Aj (Aq (S1 2 C) (A2 (A6 C C I A3 ⟨by rw [hx.cop,decide_eq_true rfl],rfl⟩))))))
set_option maxHeartbeats 1000000 in
theorem Cmp01_ok(x y:Fr)(hx:FrV x)(hy:FrV y):eu prog κ 66 [.agg #[e7 (x.num),e7 (x.den)],.agg #[e7 (y.num),e7 (y.den)]] I (λr J=>r=e7 (cmpF x y)/\I=J):=by
 have hn0x:=hx.n0
 have hn1x:=hx.n1
 have hd0x:=hx.d0
 have hd1x:=hx.d1
 have hn0y:=hy.n0
 have hn1y:=hy.n1
 have hd0y:=hy.d0
 have hd1y:=hy.d1
 have hb1:=sgn_bd x.num
 have hb2:=sgn_bd y.num
 have hm1:=hx.mul hy
 have hm2:=hy.mul hx
 have hz1:x.num=0->x.num*y.den=0:=λh=>by rw [h,Int.zero_mul]
 have hz2:y.num=0->y.num*x.den=0:=λh=>by rw [h,Int.zero_mul]
 refine Ce2 Tryz.func66 C C ?_
 refine Ai (Ge1 (A9 (cs:=[_,_]) C C C) λb1=>Ge1 (A9 (cs:=[_,_]) C C C) λb2=>Ga C (Af (Ap (Ai (Gl2 ty40 ?_)))))
 refine Gc0 (Ah call92 C C (Valid01_ok x asm)) ?_
 refine Gr (B4 C) (Gm C (e9 (Bd (vs:=[_,_]) ty40) ?_))
 refine D5 (Ck C C C) (Ah call92 C C (Valid01_ok y asm)) ?_
 rintro _ _ ⟨_,_,⟨rfl,rfl⟩,rfl,rfl⟩
 refine e9 (B4 C) (Gr (Ao C C) (Af (C2 C (Ay (Aj (Ap (Ai (Gf fld40_0 C (Gl ef ?_)))))))))
 refine Gr (A7 C C) (Gf fld40_0 C (Gl ef ?_))
 refine Gr (A7 C C) (Gr (Runs.neqb E6 C C) (Af (Aq (S3 21 3 2 C C C) (A8 C (λc21=>?_) (λc21=>?_)))))
 ·exact absurd (by rw [decide_eq_false (show ¬x.num<0 by omega),decide_eq_false (show ¬y.num<0 by omega)]) c21
 ·refine Ay (Aj (W.cut (σ:=Nat×Nat) (λs=>([(2,.pointer (some ⟨b1,0,none⟩)),(5,.pointer (some ⟨s.1,0,none⟩)),(6,.pointer (some ⟨s.2,0,none⟩))]:Env)) (λs=>e8 s.1 [.int .u64 0,.int .u64 (x.num*y.den)] 177::e8 s.2 [.int .u64 0,.int .u64 (y.num*x.den)] 177::e8 b2 [e7 (y.num),e7 (y.den)] 40::e8 b1 [e7 (x.num),e7 (x.den)] 40::I) (λs=>True) ?_ ?_))
  ·refine Bl mixed (Bt (e8 b2 [e7 (y.num),e7 (y.den)] 40::e8 b1 [e7 (x.num),e7 (x.den)] 40::I) 18 (Dr 0 C (Ab fld40_0 C) (Dr 1 C (As ef) ?_)))
   refine Dr 3 C (Ab fld40_1 C) (Dr 4 C (As ef) ?_)
   refine Dr 5 C (Dv Bj Cr C om) (Dr 7 C (Ab fld40_0 C) (Dr 8 C (As ef) ?_))
   refine Dr 10 C (Ab fld40_1 C) (Dr 11 C (As ef) ?_)
   refine Dr 12 C (Dv Bj Cr C om) (Cj (rs:=[2,14,15]) kr C C (Dg ?_ (Dg ?_ (Ds ?_))))
   ·refine Sc0 C (Ah call123 C C (WSize_ok x.num om)) ?_
    refine Cj (rs:=[6,14,15]) kr C C (Dg ?_ (Dg ?_ (Ds ?_)))
    ·refine Sc0 C (Ah call122 C C (WMul_ok x.num y.den om om)) ?_
     refine Cj (rs:=[9,14,15]) kr C C (Dg ?_ (Dg ?_ (Ds ?_)))
     ·refine Sc0 C (Ah call123 C C (WSize_ok y.num om)) ?_
      refine Cj (rs:=[13,14,15]) kr C C (Dg ?_ (Dg ?_ (Ds ?_)))
      ·refine Sc0 C (Ah call122 C C (WMul_ok y.num x.den om om)) ?_
       refine Cj (rs:=[14,15]) kr C C (Dg ?_ (Ds ?_))
       ·refine Se1 C (Au ty177 C) λb3=>?_
        refine Ds1 15 (Se1 C (Au ty177 C) λb4=>?_)
        refine Ds1 16 (Se0 C (Bq ty177) ?_)
        refine Ds1 17 (Se0 C (Bq ty177) ?_)
        exact Dz (C9 ((b3),(b4)) trivial)
       ·refine Se1 C (Au ty177 C) λb5=>?_
        refine Ds1 14 (Se1 C (Au ty177 C) λb6=>?_)
        refine Ds1 16 (Se0 C (Bq ty177) ?_)
        refine Ds1 17 (Se0 C (Bq ty177) ?_)
        exact Dz (C9 ((b6),(b5)) trivial)
      ·refine Se1 C (Au ty177 C) λb7=>?_
       refine Cj (rs:=[13,15]) kr C C (Dg ?_ (Ds ?_))
       ·refine Sc0 C (Ah call122 C C (WMul_ok y.num x.den om om)) ?_
        refine Ds1 15 (Se1 C (Au ty177 C) λb8=>?_)
        refine Ds1 16 (Se0 C (Bq ty177) ?_)
        refine Ds1 17 (Se0 C (Bq ty177) ?_)
        exact Dz (C9 ((b7),(b8)) trivial)
       ·refine Se1 C (Au ty177 C) λb9=>?_
        refine Ds1 13 (Sc0 C (Ah call122 C C (WMul_ok y.num x.den om om)) ?_)
        refine Ds1 16 (Se0 C (Bq ty177) ?_)
        refine Ds1 17 (Se0 C (Bq ty177) ?_)
        exact Dz (C9 ((b7),(b9)) trivial)
      ·refine Se1 C (Au ty177 C) λb10=>?_
       refine Cj (rs:=[13,14]) kr C C (Dg ?_ (Ds ?_))
       ·refine Sc0 C (Ah call122 C C (WMul_ok y.num x.den om om)) ?_
        refine Ds1 14 (Se1 C (Au ty177 C) λb11=>?_)
        refine Ds1 16 (Se0 C (Bq ty177) ?_)
        refine Ds1 17 (Se0 C (Bq ty177) ?_)
        exact Dz (C9 ((b11),(b10)) trivial)
       ·refine Se1 C (Au ty177 C) λb12=>?_
        refine Ds1 13 (Sc0 C (Ah call122 C C (WMul_ok y.num x.den om om)) ?_)
        refine Ds1 16 (Se0 C (Bq ty177) ?_)
        refine Ds1 17 (Se0 C (Bq ty177) ?_)
        exact Dz (C9 ((b12),(b10)) trivial)
     ·refine Se1 C (Au ty177 C) λb13=>?_
      refine Cj (rs:=[9,15]) kr C C (Dg ?_ (Ds ?_))
      ·refine Sc0 C (Ah call123 C C (WSize_ok y.num om)) ?_
       refine Cj (rs:=[13,15]) kr C C (Dg ?_ (Ds ?_))
       ·refine Sc0 C (Ah call122 C C (WMul_ok y.num x.den om om)) ?_
        refine Ds1 15 (Se1 C (Au ty177 C) λb14=>?_)
        refine Ds1 16 (Se0 C (Bq ty177) ?_)
        refine Ds1 17 (Se0 C (Bq ty177) ?_)
        exact Dz (C9 ((b13),(b14)) trivial)
       ·refine Se1 C (Au ty177 C) λb15=>?_
        refine Ds1 13 (Sc0 C (Ah call122 C C (WMul_ok y.num x.den om om)) ?_)
        refine Ds1 16 (Se0 C (Bq ty177) ?_)
        refine Ds1 17 (Se0 C (Bq ty177) ?_)
        exact Dz (C9 ((b13),(b15)) trivial)
      ·refine Se1 C (Au ty177 C) λb16=>?_
       refine Ds1 9 (Sc0 C (Ah call123 C C (WSize_ok y.num om)) ?_)
       refine Ds1 13 (Sc0 C (Ah call122 C C (WMul_ok y.num x.den om om)) ?_)
       refine Ds1 16 (Se0 C (Bq ty177) ?_)
       refine Ds1 17 (Se0 C (Bq ty177) ?_)
       exact Dz (C9 ((b13),(b16)) trivial)
     ·refine Se1 C (Au ty177 C) λb17=>?_
      refine Cj (rs:=[9,14]) kr C C (Dg ?_ (Ds ?_))
      ·refine Sc0 C (Ah call123 C C (WSize_ok y.num om)) ?_
       refine Cj (rs:=[13,14]) kr C C (Dg ?_ (Ds ?_))
       ·refine Sc0 C (Ah call122 C C (WMul_ok y.num x.den om om)) ?_
        refine Ds1 14 (Se1 C (Au ty177 C) λb18=>?_)
        refine Ds1 16 (Se0 C (Bq ty177) ?_)
        refine Ds1 17 (Se0 C (Bq ty177) ?_)
        exact Dz (C9 ((b18),(b17)) trivial)
       ·refine Se1 C (Au ty177 C) λb19=>?_
        refine Ds1 13 (Sc0 C (Ah call122 C C (WMul_ok y.num x.den om om)) ?_)
        refine Ds1 16 (Se0 C (Bq ty177) ?_)
        refine Ds1 17 (Se0 C (Bq ty177) ?_)
        exact Dz (C9 ((b19),(b17)) trivial)
      ·refine Se1 C (Au ty177 C) λb20=>?_
       refine Ds1 9 (Sc0 C (Ah call123 C C (WSize_ok y.num om)) ?_)
       refine Ds1 13 (Sc0 C (Ah call122 C C (WMul_ok y.num x.den om om)) ?_)
       refine Ds1 16 (Se0 C (Bq ty177) ?_)
       refine Ds1 17 (Se0 C (Bq ty177) ?_)
       exact Dz (C9 ((b20),(b17)) trivial)
    ·refine Se1 C (Au ty177 C) λb21=>?_
     refine Cj (rs:=[6,15]) kr C C (Dg ?_ (Ds ?_))
     ·refine Sc0 C (Ah call122 C C (WMul_ok x.num y.den om om)) ?_
      refine Cj (rs:=[9,15]) kr C C (Dg ?_ (Ds ?_))
      ·refine Sc0 C (Ah call123 C C (WSize_ok y.num om)) ?_
       refine Cj (rs:=[13,15]) kr C C (Dg ?_ (Ds ?_))
       ·refine Sc0 C (Ah call122 C C (WMul_ok y.num x.den om om)) ?_
        refine Ds1 15 (Se1 C (Au ty177 C) λb22=>?_)
        refine Ds1 16 (Se0 C (Bq ty177) ?_)
        refine Ds1 17 (Se0 C (Bq ty177) ?_)
        exact Dz (C9 ((b21),(b22)) trivial)
       ·refine Se1 C (Au ty177 C) λb23=>?_
        refine Ds1 13 (Sc0 C (Ah call122 C C (WMul_ok y.num x.den om om)) ?_)
        refine Ds1 16 (Se0 C (Bq ty177) ?_)
        refine Ds1 17 (Se0 C (Bq ty177) ?_)
        exact Dz (C9 ((b21),(b23)) trivial)
      ·refine Se1 C (Au ty177 C) λb24=>?_
       refine Ds1 9 (Sc0 C (Ah call123 C C (WSize_ok y.num om)) ?_)
       refine Ds1 13 (Sc0 C (Ah call122 C C (WMul_ok y.num x.den om om)) ?_)
       refine Ds1 16 (Se0 C (Bq ty177) ?_)
       refine Ds1 17 (Se0 C (Bq ty177) ?_)
       exact Dz (C9 ((b21),(b24)) trivial)
     ·refine Se1 C (Au ty177 C) λb25=>?_
      refine Ds1 6 (Sc0 C (Ah call122 C C (WMul_ok x.num y.den om om)) ?_)
      refine Ds1 9 (Sc0 C (Ah call123 C C (WSize_ok y.num om)) ?_)
      refine Ds1 13 (Sc0 C (Ah call122 C C (WMul_ok y.num x.den om om)) ?_)
      refine Ds1 16 (Se0 C (Bq ty177) ?_)
      refine Ds1 17 (Se0 C (Bq ty177) ?_)
      exact Dz (C9 ((b21),(b25)) trivial)
    ·refine Se1 C (Au ty177 C) λb26=>?_
     refine Cj (rs:=[6,14]) kr C C (Dg ?_ (Ds ?_))
     ·refine Sc0 C (Ah call122 C C (WMul_ok x.num y.den om om)) ?_
      refine Cj (rs:=[9,14]) kr C C (Dg ?_ (Ds ?_))
      ·refine Sc0 C (Ah call123 C C (WSize_ok y.num om)) ?_
       refine Cj (rs:=[13,14]) kr C C (Dg ?_ (Ds ?_))
       ·refine Sc0 C (Ah call122 C C (WMul_ok y.num x.den om om)) ?_
        refine Ds1 14 (Se1 C (Au ty177 C) λb27=>?_)
        refine Ds1 16 (Se0 C (Bq ty177) ?_)
        refine Ds1 17 (Se0 C (Bq ty177) ?_)
        exact Dz (C9 ((b27),(b26)) trivial)
       ·refine Se1 C (Au ty177 C) λb28=>?_
        refine Ds1 13 (Sc0 C (Ah call122 C C (WMul_ok y.num x.den om om)) ?_)
        refine Ds1 16 (Se0 C (Bq ty177) ?_)
        refine Ds1 17 (Se0 C (Bq ty177) ?_)
        exact Dz (C9 ((b28),(b26)) trivial)
      ·refine Se1 C (Au ty177 C) λb29=>?_
       refine Ds1 9 (Sc0 C (Ah call123 C C (WSize_ok y.num om)) ?_)
       refine Ds1 13 (Sc0 C (Ah call122 C C (WMul_ok y.num x.den om om)) ?_)
       refine Ds1 16 (Se0 C (Bq ty177) ?_)
       refine Ds1 17 (Se0 C (Bq ty177) ?_)
       exact Dz (C9 ((b29),(b26)) trivial)
     ·refine Se1 C (Au ty177 C) λb30=>?_
      refine Ds1 6 (Sc0 C (Ah call122 C C (WMul_ok x.num y.den om om)) ?_)
      refine Ds1 9 (Sc0 C (Ah call123 C C (WSize_ok y.num om)) ?_)
      refine Ds1 13 (Sc0 C (Ah call122 C C (WMul_ok y.num x.den om om)) ?_)
      refine Ds1 16 (Se0 C (Bq ty177) ?_)
      refine Ds1 17 (Se0 C (Bq ty177) ?_)
      exact Dz (C9 ((b30),(b26)) trivial)
   ·refine Se1 C (Au ty177 C) λb31=>?_
    refine Cj (rs:=[2,15]) kr C C (Dg ?_ (Ds ?_))
    ·refine Sc0 C (Ah call123 C C (WSize_ok x.num om)) ?_
     refine Cj (rs:=[6,15]) kr C C (Dg ?_ (Ds ?_))
     ·refine Sc0 C (Ah call122 C C (WMul_ok x.num y.den om om)) ?_
      refine Cj (rs:=[9,15]) kr C C (Dg ?_ (Ds ?_))
      ·refine Sc0 C (Ah call123 C C (WSize_ok y.num om)) ?_
       refine Cj (rs:=[13,15]) kr C C (Dg ?_ (Ds ?_))
       ·refine Sc0 C (Ah call122 C C (WMul_ok y.num x.den om om)) ?_
        refine Ds1 15 (Se1 C (Au ty177 C) λb32=>?_)
        refine Ds1 16 (Se0 C (Bq ty177) ?_)
        refine Ds1 17 (Se0 C (Bq ty177) ?_)
        exact Dz (C9 ((b31),(b32)) trivial)
       ·refine Se1 C (Au ty177 C) λb33=>?_
        refine Ds1 13 (Sc0 C (Ah call122 C C (WMul_ok y.num x.den om om)) ?_)
        refine Ds1 16 (Se0 C (Bq ty177) ?_)
        refine Ds1 17 (Se0 C (Bq ty177) ?_)
        exact Dz (C9 ((b31),(b33)) trivial)
      ·refine Se1 C (Au ty177 C) λb34=>?_
       refine Ds1 9 (Sc0 C (Ah call123 C C (WSize_ok y.num om)) ?_)
       refine Ds1 13 (Sc0 C (Ah call122 C C (WMul_ok y.num x.den om om)) ?_)
       refine Ds1 16 (Se0 C (Bq ty177) ?_)
       refine Ds1 17 (Se0 C (Bq ty177) ?_)
       exact Dz (C9 ((b31),(b34)) trivial)
     ·refine Se1 C (Au ty177 C) λb35=>?_
      refine Ds1 6 (Sc0 C (Ah call122 C C (WMul_ok x.num y.den om om)) ?_)
      refine Ds1 9 (Sc0 C (Ah call123 C C (WSize_ok y.num om)) ?_)
      refine Ds1 13 (Sc0 C (Ah call122 C C (WMul_ok y.num x.den om om)) ?_)
      refine Ds1 16 (Se0 C (Bq ty177) ?_)
      refine Ds1 17 (Se0 C (Bq ty177) ?_)
      exact Dz (C9 ((b31),(b35)) trivial)
    ·refine Se1 C (Au ty177 C) λb36=>?_
     refine Ds1 2 (Sc0 C (Ah call123 C C (WSize_ok x.num om)) ?_)
     refine Ds1 6 (Sc0 C (Ah call122 C C (WMul_ok x.num y.den om om)) ?_)
     refine Ds1 9 (Sc0 C (Ah call123 C C (WSize_ok y.num om)) ?_)
     refine Ds1 13 (Sc0 C (Ah call122 C C (WMul_ok y.num x.den om om)) ?_)
     refine Ds1 16 (Se0 C (Bq ty177) ?_)
     refine Ds1 17 (Se0 C (Bq ty177) ?_)
     exact Dz (C9 ((b31),(b36)) trivial)
   ·refine Se1 C (Au ty177 C) λb37=>?_
    refine Cj (rs:=[2,14]) kr C C (Dg ?_ (Ds ?_))
    ·refine Sc0 C (Ah call123 C C (WSize_ok x.num om)) ?_
     refine Cj (rs:=[6,14]) kr C C (Dg ?_ (Ds ?_))
     ·refine Sc0 C (Ah call122 C C (WMul_ok x.num y.den om om)) ?_
      refine Cj (rs:=[9,14]) kr C C (Dg ?_ (Ds ?_))
      ·refine Sc0 C (Ah call123 C C (WSize_ok y.num om)) ?_
       refine Cj (rs:=[13,14]) kr C C (Dg ?_ (Ds ?_))
       ·refine Sc0 C (Ah call122 C C (WMul_ok y.num x.den om om)) ?_
        refine Ds1 14 (Se1 C (Au ty177 C) λb38=>?_)
        refine Ds1 16 (Se0 C (Bq ty177) ?_)
        refine Ds1 17 (Se0 C (Bq ty177) ?_)
        exact Dz (C9 ((b38),(b37)) trivial)
       ·refine Se1 C (Au ty177 C) λb39=>?_
        refine Ds1 13 (Sc0 C (Ah call122 C C (WMul_ok y.num x.den om om)) ?_)
        refine Ds1 16 (Se0 C (Bq ty177) ?_)
        refine Ds1 17 (Se0 C (Bq ty177) ?_)
        exact Dz (C9 ((b39),(b37)) trivial)
      ·refine Se1 C (Au ty177 C) λb40=>?_
       refine Ds1 9 (Sc0 C (Ah call123 C C (WSize_ok y.num om)) ?_)
       refine Ds1 13 (Sc0 C (Ah call122 C C (WMul_ok y.num x.den om om)) ?_)
       refine Ds1 16 (Se0 C (Bq ty177) ?_)
       refine Ds1 17 (Se0 C (Bq ty177) ?_)
       exact Dz (C9 ((b40),(b37)) trivial)
     ·refine Se1 C (Au ty177 C) λb41=>?_
      refine Ds1 6 (Sc0 C (Ah call122 C C (WMul_ok x.num y.den om om)) ?_)
      refine Ds1 9 (Sc0 C (Ah call123 C C (WSize_ok y.num om)) ?_)
      refine Ds1 13 (Sc0 C (Ah call122 C C (WMul_ok y.num x.den om om)) ?_)
      refine Ds1 16 (Se0 C (Bq ty177) ?_)
      refine Ds1 17 (Se0 C (Bq ty177) ?_)
      exact Dz (C9 ((b41),(b37)) trivial)
    ·refine Se1 C (Au ty177 C) λb42=>?_
     refine Ds1 2 (Sc0 C (Ah call123 C C (WSize_ok x.num om)) ?_)
     refine Ds1 6 (Sc0 C (Ah call122 C C (WMul_ok x.num y.den om om)) ?_)
     refine Ds1 9 (Sc0 C (Ah call123 C C (WSize_ok y.num om)) ?_)
     refine Ds1 13 (Sc0 C (Ah call122 C C (WMul_ok y.num x.den om om)) ?_)
     refine Ds1 16 (Se0 C (Bq ty177) ?_)
     refine Ds1 17 (Se0 C (Bq ty177) ?_)
     exact Dz (C9 ((b42),(b37)) trivial)
  ·rintro ⟨b51,b61⟩ hp
   show W prog κ 52 _ _ ([(2,.pointer (some ⟨b1,0,none⟩)),(5,.pointer (some ⟨b51,0,none⟩)),(6,.pointer (some ⟨b61,0,none⟩))]:Env) (e8 b51 [.int .u64 0,.int .u64 (x.num*y.den)] 177::e8 b61 [.int .u64 0,.int .u64 (y.num*x.den)] 177::e8 b2 [e7 (y.num),e7 (y.den)] 40::e8 b1 [e7 (x.num),e7 (x.den)] 40::I)
   refine Ap (Ai (Gf fld40_0 C (Gl ef ?_)))
   refine Gr (A7 C C) (Af (A8 C (λc41=>?_) (λc41=>?_)))
   ·exact absurd c41 om
   ·refine Ay (Aj (Ap (A0 (Ai (Gl2 ty177 ?_)))))
    refine Gl2 ty177 ?_
    refine Gc0 (Ah call124 C C (WLess_ok (x.num*y.den) (y.num*x.den))) ?_
    refine Ga C (Af (A8 C (λc44=>?_) (λc44=>?_)))
    ·exact Ai (Ga C (Af (A2 (Av (Am (A6 C C I A3 ⟨congrArg e7 (by unfold cmpF;repeat (first|omega|split)),rfl⟩))))))
    ·refine Ai (Gl2 ty177 ?_)
     refine Gl2 ty177 ?_
     refine Gr (Eu (α:=Wd) (a:=(⟨0,x.num*y.den⟩:Wd)) (b:=(⟨0,y.num*x.den⟩:Wd)) eqt177 C C) (Ga C (Af (Aq (S1 48 C) (A8 C (λc48=>?_) (λc48=>?_)))))
     ·refine Ai (Ga C (Af (A2 (Av (Am ?_)))))
      have hcq:=c48
      rw [Wd.mk.injEq] at hcq
      exact A6 C C I A3 ⟨congrArg e7 (by unfold cmpF;repeat (first|omega|split)),rfl⟩
     ·refine Ay (Ak (Aj (Ai (Ga C (Af (A2 ?_))))))
      have hcq:=c48
      rw [Wd.mk.injEq] at hcq
      exact A6 C C I A3 ⟨congrArg e7 (by unfold cmpF;repeat (first|omega|split)),rfl⟩
theorem BestR.frv{nd N D:Int}{es:List Pt}{B:BitVec 64}(h:BestR nd es N D B)(hG:GrOk nd es):FrV ⟨N,D⟩:=by
 by_cases hn:nd=0
 ·obtain ⟨h1,h2,_⟩:=h.none (checkG_ok.2 hG) hn
  subst h1 h2
  exact ⟨by decide,by decide,by decide,by decide,by decide⟩
 ·obtain ⟨x,y,hx,hy,e⟩:=(h.some (checkG_ok.2 hG) hn).red
  rw [e]
  exact mkF_val hx.1 om om om
theorem cmpF_ge{x y:Fr}:0<=cmpF x y↔y.num*x.den<=x.num*y.den:=by unfold cmpF;repeat (first|omega|split)
def densQ(nd:Int)(es:List Pt)(num den:Int):Prop:=if nd=0 then num<=0 else ∃W,subN nd W/\W≠0#64/\num*cntB W<=den*insE W es
theorem BestR.holds{nd N D num den:Int}{es:List Pt}{B:BitVec 64}(h:BestR nd es N D B)(hG:GrOk nd es)(hf:FrV ⟨num,den⟩):0<=cmpF ⟨N,D⟩ ⟨num,den⟩↔densQ nd es num den:=by
 rw [cmpF_ge]
 unfold densQ
 by_cases hn:nd=0
 ·obtain ⟨h1,h2,_⟩:=h.none (checkG_ok.2 hG) hn
  subst h1 h2
  rw [if_pos hn]
  show num*1<=0*den↔_
  omega
 ·rw [if_neg hn]
  have hd:=h.some (checkG_ok.2 hG) hn
  exact hd.dens.reach hd.den.1 hf.d0
def commG(nd:Int)(es:List Pt)(v lv:Int):List Int:=rchG nd es [v] (coreK nd es lv)
theorem Comm_ok{κ:Ctx}{I:List Item}{nd v lv:Int}{ea:Option Addr}{ec:Nat}{es:List Pt}(hl:Sl κ I (.slice ea es.length ec) es)(hG:GrOk nd es)(hv:0<=v/\v<nd)(hT:TabRd κ I 0 tzCells):eu prog κ 59 [.agg #[e7 nd,.slice ea es.length ec],e7 v,e7 lv] I (λr J=>∃a c,r = .tuple #[.slice a (commG nd es v lv).length c,e7 0]/\J=vc 3 (.slice a (commG nd es v lv).length c) (commG nd es v lv)::I):=by
 refine Ce3 Tryz.func59 C C ?_
 refine Ai (Ge1 (A9 (cs:=[_,_]) C C C) λb1=>Ga C (Ga C (Af (Ap (Ai (Gl2 ty48 ?_))))))
 refine Gc0 (Ah call83 C C (CheckGen_ok (Ba hl))) ?_
 refine Ga C (Af (Ai (Gm C (Gr (Br C C) (Af (A8 C (λc14=>?_) (λc14=>?_)))))))
 ·exact absurd (checkG_ok.2 hG) c14
 ·refine Ay (Aj (Ap (Ai (Gm C (Gr (A7 C C) (Gm C (Bg (d:=18) C (λg18=>?_) (λg18=>?_))))))))
  ·omega
  ·refine e9 (Ad C) (e9 (Ab fld48_0 C) (e9 (As ef) ?_))
   refine e9 (B9 C C) (Gr (Ao C C) (Af (Aq (S4 23 3 1 2 C C C C) (A8 C (λc23=>?_) (λc23=>?_)))))
   ·omega
   ·refine Ay (Aj (Ai (Gl2 ty48 ?_)))
    refine Gm C (G.e (Ah call109 C C (CCore_ok (nd:=nd) (lv:=lv) (Ba hl) (Bx hT A3))) ?_)
    rintro _ _ ⟨_,_,⟨ad2,cp3,rfl,rfl⟩,rfl,rfl⟩
    refine Gm C (Gr (Aw C C) (Gr (Aw C C) (Ga C (Ga C (Af (Ap (Ai (Gm C (Gr (Br C C) (Af (Aq (S5 31 10 9 3 1 C C C C C) (A8 C (λc31=>?_) (λc31=>?_)))))))))))))
    ·exact absurd (checkG_ok.2 hG) c31
    ·refine Ay (Aj (Ai (Gl2 ty48 ?_)))
     refine Gm C (Ge1 (Cf (α:=Int) (cs:=[_]) (xs:=[v]) Ac ef C C dc dc C C C C) λad4=>?_)
     refine Gm C (Gc2 (Ah call110 C C (CReach_ok (nd:=nd) (Ba hl) Bk Bk (Bx hT A3))) λad5 cp6=>?_)
     exact Gr (Aw C C) (Gr (Aw C C) (Ga C (Ga C (Af (Aq (S2 7 6 C C) (A2 (Cu C C C (vc 3 (.slice ad5 (rchG nd es ([v]:List Int) (coreK nd es lv)).length cp6) (commG nd es v lv)::I) B7 ⟨ad5,cp6,by rw [checkG_ok.2 hG]<;>rfl,rfl⟩)))))))
section
variable {nd kd wd mo tm:Int}{es:List Ev}{fst own:Bool}{j j1:Nat}
theorem all_le(hH:HistOk nd kd wd mo es){i k:Nat}(h:i<=k)(hk:k<(allE kd wd mo es).length):(e_ (allE kd wd mo es) i).tm<=(e_ (allE kd wd mo es) k).tm:=by
 by_cases e:i=k
 ·subst e;exact Int.le_refl _
 ·rw [C4 _ i om,C4 _ k hk]
  exact (List.pairwise_iff_getElem.1 hH.all_asc) i k om hk om
theorem mom_bef(hH:HistOk nd kd wd mo es)(hM:MomentX (allE kd wd mo es) fst j tm own j1):∀i:Nat,i<j1->(e_ (allE kd wd mo es) i).tm<=tm:=λi hi=>by
 by_cases h:i<j
 ·cases hf:fst with
  |true=>have:=(hM.first hf).2;omega
  |false=>
   obtain ⟨h1,h2⟩:=hM.next hf
   rw [h2];exact all_le hH om h1
 ·exact Int.le_of_eq (hM.same i om hi)
theorem mom_next(hH:HistOk nd kd wd mo es)(hM:MomentX (allE kd wd mo es) fst j tm own j1)(h:j1<(allE kd wd mo es).length):tm<(e_ (allE kd wd mo es) j1).tm:=by
 have hne:=hM.stop h
 have hle:tm<=(e_ (allE kd wd mo es) j1).tm:=by
  cases hf:fst with
  |true=>
   rw [(hM.first hf).1]
   exact (hH.allFit _ (Bf (xs:=allE kd wd mo es) (i:=(j1:Int)) om om)).tm.1
  |false=>
   obtain ⟨h1,h2⟩:=hM.next hf
   rw [h2];exact all_le hH (by have:=hM.le.1;omega) h
 omega
theorem mom_graph(hH:HistOk nd kd wd mo es)(hM:MomentX (allE kd wd mo es) fst j tm own j1):edgesK (eh ((allE kd wd mo es).take j1))=atG kd wd mo es tm:=by
 unfold atG
 rw [atK_stop hM.le.2 (mom_bef hH hM) (mom_next hH hM)]
def FirstYes(kd wd mo:Int)(es:List Ev)(p:Int->Prop)(t:Int):Prop:=(∃e∈allE kd wd mo es,e.tm=t)/\p t/\∀e∈allE kd wd mo es,e.tm<t->¬p e.tm
def FirstP(kd wd mo:Int)(es:List Ev)(p:Int->Prop)(t:Int)(ok:Bool):Prop:=(ok=true/\FirstYes kd wd mo es p t)\/(ok=false/\t=0/\∀e∈allE kd wd mo es,¬p e.tm)
theorem fi_next{p:Int->Prop}(hM:MomentX (allE kd wd mo es) fst j tm own j1)(hq:∀i:Nat,i<j->¬p (e_ (allE kd wd mo es) i).tm)(hn:own=true->¬p tm):∀i:Nat,i<j1->¬p (e_ (allE kd wd mo es) i).tm:=λi hi=>by
 by_cases h:i<j
 ·exact hq i h
 ·rw [hM.same i om hi]
  exact hn (by rw [hM.own,decide_eq_true om])
theorem fi_yes{p:Int->Prop}(hH:HistOk nd kd wd mo es)(hM:MomentX (allE kd wd mo es) fst j tm own j1)(hq:∀i:Nat,i<j->¬p (e_ (allE kd wd mo es) i).tm)(ho:own=true)(hp:p tm):FirstYes kd wd mo es p tm:=by
 have hj:j<j1:=by have:=hM.own;rw [ho] at this;exact of_decide_eq_true this.symm
 have hl:=hM.le.2
 refine ⟨⟨_,Bf (xs:=allE kd wd mo es) (i:=(j:Int)) om om,hM.same j (Nat.le_refl _) hj⟩,hp,λe he hlt=>?_⟩
 obtain ⟨i,hi,rfl⟩:=mem_at he
 by_cases h:i<j
 ·exact hq i h
 ·have h1:=all_le hH (i:=j) (k:=i) om hi
  rw [hM.same j (Nat.le_refl _) hj] at h1
  omega
theorem fi_no{p:Int->Prop}(hq:∀i:Nat,i<(allE kd wd mo es).length->¬p (e_ (allE kd wd mo es) i).tm):∀e∈allE kd wd mo es,¬p e.tm:=λe he=>by
 obtain ⟨i,hi,rfl⟩:=mem_at he
 exact hq i hi
end
def reachQ(nd kd wd mo:Int)(es:List Ev)(num den t:Int):Prop:=densQ nd (atG kd wd mo es t) num den
set_option maxHeartbeats 2000000 in
theorem AFirst_ok{κ:Ctx}{I:List Item}{nd kd wd mo num den:Int}{ea:Option Addr}{ec:Nat}{es:List Ev}(hl:Sl κ I (.slice ea es.length ec) es)(hH:HistOk nd kd wd mo es)(hlen:es.length<=19)(hf:FrV ⟨num,den⟩)(hT:TabRd κ I 0 tzCells):eu prog κ 47 [e7 nd,.slice ea es.length ec,.agg #[e7 kd,e7 wd,e7 mo],.agg #[e7 num,e7 den]] I (λr J=>∃tv ok,r = .tuple #[e7 tv,.bool ok,e7 0]/\FirstP kd wd mo es (reachQ nd kd wd mo es num den) tv ok/\I=J):=by
 refine eu.enterM (L:=[(0,e7 nd),(1,.slice ea es.length ec),(2,.agg #[e7 kd,e7 wd,e7 mo]),(3,.agg #[e7 num,e7 den])]) Tryz.func47 C C C C ?_
 refine Ai (Ge1 (A9 (cs:=[_,_,_]) C C C) λb1=>Ge1 (A9 (cs:=[_,_]) C C C) λb2=>Ge1 (Au ef C) λb3=>Ge1 (Au ty4 C) λb4=>Ge1 (Au ty36 C) λb5=>Af (Ap (Ai (Gm C (Gm C (Gl3 ty31 ?_))))))
 refine Gc0 (Ah call97 C C (ACheck_ok (nd:=nd) (kd:=kd) (wd:=wd) (mo:=mo) (Ba hl))) ?_
 refine Ga C (Af (Aq (S8 11 10 9 8 7 6 0 1 C C C C C C C C) (Ai (Gm C (Gr (Br C C) (Af (A8 C (λc21=>?_) (λc21=>?_))))))))
 ·exact absurd (slideE_zeroH hH) c21
 ·refine Ay (Aj (Ap (Ai (Gl2 ty40 ?_))))
  refine Gc0 (Ah call89 C C (RatValid_ok (⟨num,den⟩:Fr) (by first|exact hf|exact hBR.frv hGr))) ?_
  refine Gr (B4 C) (Af (C2 C (Ay (Aj (Ap (Ai (Gm C (Gm C (Gl3 ty31 ?_)))))))))
  refine G.e (Ah call98 C C Frames_ok) ?_
  rintro _ _ ⟨_,_,⟨qb6,qb7,qb8,rfl,rfl⟩,rfl,rfl⟩
  refine Af (Aq (S5 29 10 9 8 7 C C C C C) (A0 (W.fit (J:=e8 b3 [e7 0] 3::e8 b4 [.bool false] 4::e8 b5 [e7 0] 36::e8 qb8 [e7 kd,e7 wd,e7 mo] 31::e8 qb7 [.slice ea es.length ec] 28::e8 qb6 [e7 nd] 3::e8 b2 [e7 num,e7 den] 40::e8 b1 [e7 kd,e7 wd,e7 mo] 31::I) B7 ?_)))
  refine W.rangeFnB (gf:=165) (lb:=[.pointer (some ⟨qb6,0,none⟩),.pointer (some ⟨qb7,0,none⟩),.pointer (some ⟨qb8,0,none⟩)]) C call165 λDm l rc hr1 hr2 hr3 hr4 hta=>?_
  refine (Frames1_ok (I:=e8 qb8 [e7 kd,e7 wd,e7 mo] 31::e8 qb7 [.slice ea es.length ec] 28::e8 qb6 [e7 nd] 3::e8 b2 [e7 num,e7 den] 40::e8 b1 [e7 kd,e7 wd,e7 mo] 31::I) (σ:=Unit) (τ:=Int) (l:=l) (Lf:=λs=>[recI l rc,dfrI Dm,e8 b3 [e7 0] 3,e8 b4 [.bool false] 4,e8 b5 [e7 0] 36]) (Pf:=λfst j s=>(∀i:Nat,i<j->¬(reachQ nd kd wd mo es num den) (e_ (allE kd wd mo es) i).tm)) (Xf:=λs=>[recI l {rc with state:= .done,pending:=some .ret},dfrI Dm,e8 b3 [e7 s] 3,e8 b4 [.bool true] 4,e8 b5 [e7 0] 36]) (Qf:=λs=>(FirstYes kd wd mo es (reachQ nd kd wd mo es num den) s)) (s0:=()) hH hlen (Do mm) (Do mm) (Do mm) (Ba hl) (λi h=>absurd h (Nat.not_lt_zero i)) ?_).mono ?_
  ·rintro T hTI fst j tm own j1 ga gc hM _ hp
   have hq:(∀i:Nat,i<j->¬(reachQ nd kd wd mo es num den) (e_ (allE kd wd mo es) i).tm):=hp
   have hbq0:BlkRd κ T b2 [e7 num,e7 den] 40:=(Do (I:=e8 qb8 [e7 kd,e7 wd,e7 mo] 31::e8 qb7 [.slice ea es.length ec] 28::e8 qb6 [e7 nd] 3::e8 b2 [e7 num,e7 den] 40::e8 b1 [e7 kd,e7 wd,e7 mo] 31::I) mm).fit hTI
   have hTT:TabRd κ T 0 tzCells:=(Bx (J:=e8 qb8 [e7 kd,e7 wd,e7 mo] 31::e8 qb7 [.slice ea es.length ec] 28::e8 qb6 [e7 nd] 3::e8 b2 [e7 num,e7 den] 40::e8 b1 [e7 kd,e7 wd,e7 mo] 31::I) hT A3).fit hTI
   have hmg:=mom_graph hH hM
   have hGr:GrOk nd (edgesK (eh ((allE kd wd mo es).take j1))):=by rw [hmg];exact hH.graph tm
   refine YieldB.fit (J:=recI l rc::vc 135 (.slice ga (edgesK (eh ((allE kd wd mo es).take j1))).length gc) (edgesK (eh ((allE kd wd mo es).take j1)))::dfrI Dm::e8 b3 [e7 0] 3::e8 b4 [.bool false] 4::e8 b5 [e7 0] 36::T) B7 ?_
   refine YieldB.mkA (L₀:=[(31,.agg #[e7 nd,.slice ga (edgesK (eh ((allE kd wd mo es).take j1))).length gc]),(30,.agg #[e7 tm,.bool own]),(29,.func (.func 165) #[] #[.pointer (some ⟨qb6,0,none⟩),.pointer (some ⟨qb7,0,none⟩),.pointer (some ⟨qb8,0,none⟩)]),(10,.pointer (some ⟨b5,0,none⟩)),(9,.pointer (some ⟨b4,0,none⟩)),(8,.pointer (some ⟨b3,0,none⟩)),(7,.pointer (some ⟨b2,0,none⟩))]) (by rw [hr2];rfl) hr3 hr4 (by rw [hr2,fold_two];exact ag_two hta C C) ?_
   refine WR.seq ?_
   refine Eg (λ_ _ h=>False.elim h) C ?_
   refine Ge1 (Au ty153 C) λb9=>Ge0 (Bq ty153) ?_
   refine Bi (V.thenR ?_)
   refine Eg (λ_ _ h=>False.elim h) C ?_
   refine Ge1 (Au ty48 C) λb10=>Ge0 (Bq ty48) ?_
   refine Bi (V.begin (e8 b10 [e7 nd,.slice ga (edgesK (eh ((allE kd wd mo es).take j1))).length gc] 48::e8 b9 [e7 tm,.bool own] 153::vc 135 (.slice ga (edgesK (eh ((allE kd wd mo es).take j1))).length gc) (edgesK (eh ((allE kd wd mo es).take j1)))::dfrI Dm::e8 b3 [e7 0] 3::e8 b4 [.bool false] 4::e8 b5 [e7 0] 36::T) B7 hr1 ?_)
   refine WR.block ?_
   refine WR.seq ?_
   refine Eg (λ_ _ h=>False.elim h) C ?_
   refine Gl2 ty48 ?_
   refine G.e (Ah call100 C C (BestD_ok (nd:=nd) Bk (Bx hTT A3))) ?_
   rintro _ _ ⟨_,_,⟨ad11,cp12,Bqq15,ad13,cp14,ptq15,Nqq15,Dqq15,Eqq15,rfl,⟨hBR,hSB⟩,rfl⟩,rfl,rfl⟩
   refine Gm C (Gr (Aw C C) (Gr (Aw C C) (Ge1 (Au ty102 C) λb16=>Ge0 (Ep ty102) ?_)))
   refine Ga C (Bi (V.thenR ?_))
   refine WR.sub (L':=[(15,_),(14,_),(12,_),(10,_),(9,_),(8,_),(7,_)]) (Aa C (Aa C (Aa C (Aa C (Aa C (Aa C (Aa C Bp))))))) ?_
   refine WR.seq ?_
   refine Eg (λ_ _ h=>False.elim h) C ?_
   refine Gf fld153_1 C (Gl ty4 ?_)
   refine Gm C (G.splitb (d:=39) C (λg39=>?_) (λg39=>?_))
   ·refine e9 (Ad C) (e9 (Bu C C) (Gr (Ar C C) (Gm C (Bg (d:=43) C (λg43=>?_) (λg43=>?_)))))
    ·refine e9 (Ab fld102_1 C) (e9 (Bd (vs:=[_,_]) ty40) ?_)
     refine e9 (Runs.loadBs (vs:=[_,_]) ty40 C (Dk hbq0 A3) C C) ?_
     refine D5 (Ck C C C) (Ah call101 C C (RatCmp_ok (⟨Nqq15,Dqq15⟩:Fr) (⟨num,den⟩:Fr) (by first|exact hf|exact hBR.frv hGr) (by first|exact hf|exact hBR.frv hGr))) ?_
     rintro _ _ ⟨_,_,⟨rfl,rfl⟩,rfl,rfl⟩
     refine e9 (B9 C C) (Gr (Ar C C) (Bi (V.thenR ?_)))
     refine WR.sub (L':=[(49,_),(12,_),(10,_),(9,_),(8,_)]) (Aa C (Aa C (Aa C (Aa C (Aa C Bp))))) ?_
     refine WR.ite C (λc49=>?_) (λc49=>?_)
     ·refine WR.seq ?_
      refine Eg (λ_ _ h=>False.elim h) C ?_
      refine Gf fld153_0 C (Gl ef ?_)
      refine Ge0 (Ce (cs:=[_]) (vs:=[_]) (cs':=[_]) ef) ?_
      refine Ge0 (Ce (cs:=[_]) (vs:=[_]) (cs':=[_]) ty4) ?_
      refine Ge0 (Ce (cs:=[_]) (vs:=[_]) (cs':=[_]) ty36) ?_
      refine Bi (V.thenR ?_)
      refine WR.ret ?_
      exact Av (V.roundRet (dfrI Dm::e8 b3 [e7 tm] 3::e8 b4 [.bool true] 4::e8 b5 [e7 0] 36::T) B7 (.inr ⟨rfl,(tm),(show (FirstYes kd wd mo es (reachQ nd kd wd mo es num den) tm) from (fi_yes hH hM hq g39 (by have h:=(hBR.holds hGr hf).1 c49;rw [hmg] at h;exact h))),rfl⟩))
     ·refine WR.skip ?_
      exact Ak (V.roundB (dfrI Dm::e8 b3 [e7 0] 3::e8 b4 [.bool false] 4::e8 b5 [e7 0] 36::T) B7 hr1 (.inl ⟨rfl,(),(show (∀i:Nat,i<j1->¬(reachQ nd kd wd mo es num den) (e_ (allE kd wd mo es) i).tm) from (fi_next hM hq (by first|exact λh=>absurd (g39.symm.trans h) dc|exact λ_ h=>c49 ((hBR.holds hGr hf).2 (by rw [hmg];exact h))))),rfl⟩))
    ·exact absurd (checkG_ok.2 hGr) g43
   ·refine eb (eb (Gr (Ao C C) (Gm C (eb (eb (eb (eb (eb (Gr (Ao C C) (Bi (V.thenR ?_)))))))))))
    refine WR.sub (L':=[(49,_),(12,_),(10,_),(9,_),(8,_)]) (Aa C (Aa C (Aa C (Aa C (Aa C Bp))))) ?_
    refine WR.no C ?_
    refine WR.skip ?_
    exact Ak (V.roundB (dfrI Dm::e8 b3 [e7 0] 3::e8 b4 [.bool false] 4::e8 b5 [e7 0] 36::T) B7 hr1 (.inl ⟨rfl,(),(show (∀i:Nat,i<j1->¬(reachQ nd kd wd mo es num den) (e_ (allE kd wd mo es) i).tm) from (fi_next hM hq (by first|exact λh=>absurd (g39.symm.trans h) dc|exact λ_ h=>c49 ((hBR.holds hGr hf).2 (by rw [hmg];exact h))))),rfl⟩))
  rintro v K ⟨rfl,(⟨_,hp,rfl⟩|⟨tv,hp,rfl⟩)⟩
  ·have hq:(∀i:Nat,i<(allE kd wd mo es).length->¬(reachQ nd kd wd mo es num den) (e_ (allE kd wd mo es) i).tm):=hp
   refine .inl ⟨_,rfl,?_⟩
   show V κ _ _ .normal ([(29,.func (.func 165) #[] #[.pointer (some ⟨qb6,0,none⟩),.pointer (some ⟨qb7,0,none⟩),.pointer (some ⟨qb8,0,none⟩)]),(10,.pointer (some ⟨b5,0,none⟩)),(9,.pointer (some ⟨b4,0,none⟩)),(8,.pointer (some ⟨b3,0,none⟩)),(7,.pointer (some ⟨b2,0,none⟩))]:Env) (dfrI Dm::e8 b3 [e7 0] 3::e8 b4 [.bool false] 4::e8 b5 [e7 0] 36::e8 qb8 [e7 kd,e7 wd,e7 mo] 31::e8 qb7 [.slice ea es.length ec] 28::e8 qb6 [e7 nd] 3::e8 b2 [e7 num,e7 den] 40::e8 b1 [e7 kd,e7 wd,e7 mo] 31::I)
   refine Ak (Aj (Ai (Ge0 (Ce (cs:=[_]) (vs:=[_]) (cs':=[_]) ef) ?_)))
   refine Ge0 (Ce (cs:=[_]) (vs:=[_]) (cs':=[_]) ty4) ?_
   refine Ge0 (Ce (cs:=[_]) (vs:=[_]) (cs':=[_]) ty36) ?_
   refine Af (A2 (V.fit (J:=dfrI Dm::e8 b3 [e7 0] 3::e8 b4 [.bool false] 4::e8 b5 [e7 0] 36::e8 qb8 [e7 kd,e7 wd,e7 mo] 31::e8 qb7 [.slice ea es.length ec] 28::e8 qb6 [e7 nd] 3::e8 b2 [e7 num,e7 den] 40::e8 b1 [e7 kd,e7 wd,e7 mo] 31::I) B7 (V.leave ?_)))
   exact V.retv3 C ef ty4 ty36 C C C mm mm mm I A3 ⟨0,false,rfl,.inr ⟨rfl,rfl,fi_no hq⟩,rfl⟩
  ·have hQ:(FirstYes kd wd mo es (reachQ nd kd wd mo es num den) tv):=hp
   refine .inr ⟨_,_,rfl,?_⟩
   show W prog κ _ _ _ ([(29,.func (.func 165) #[] #[.pointer (some ⟨qb6,0,none⟩),.pointer (some ⟨qb7,0,none⟩),.pointer (some ⟨qb8,0,none⟩)]),(10,.pointer (some ⟨b5,0,none⟩)),(9,.pointer (some ⟨b4,0,none⟩)),(8,.pointer (some ⟨b3,0,none⟩)),(7,.pointer (some ⟨b2,0,none⟩))]:Env) (dfrI Dm::e8 b3 [e7 tv] 3::e8 b4 [.bool true] 4::e8 b5 [e7 0] 36::e8 qb8 [e7 kd,e7 wd,e7 mo] 31::e8 qb7 [.slice ea es.length ec] 28::e8 qb6 [e7 nd] 3::e8 b2 [e7 num,e7 den] 40::e8 b1 [e7 kd,e7 wd,e7 mo] 31::I)
   refine A2 (Av (Am (V.fit (J:=dfrI Dm::e8 b3 [e7 tv] 3::e8 b4 [.bool true] 4::e8 b5 [e7 0] 36::e8 qb8 [e7 kd,e7 wd,e7 mo] 31::e8 qb7 [.slice ea es.length ec] 28::e8 qb6 [e7 nd] 3::e8 b2 [e7 num,e7 den] 40::e8 b1 [e7 kd,e7 wd,e7 mo] 31::I) B7 (V.leave ?_))))
   exact V.retv3 C ef ty4 ty36 C C C mm mm mm I A3 ⟨tv,true,rfl,.inl ⟨rfl,hQ⟩,rfl⟩
end Go.Sl
/- The links at a time depend on the events up to it alone. No conditions. -/
namespace Go.Sl
end Go.Sl
namespace Go.Sl
open Go.Proofs
set_option maxRecDepth 4000
section
variable {P:Program}{κ:Ctx}{N:Frm}{L:Env}{J:List Item}{d:Option Tmp}{ty:TypeId}{ps:String}{af:Array Edge}{gd:Option (Nat×Bool)}
theorem Runs.eqC{x y:Operand}{T U:TypeId}{v u:Value}{b:Bool}(hg:∀w:World,(eqGuard .eql T x y v u).run P w = .ok () w)(hT:∀w:World,(binOp .eql T v u).run P w = .ok (.bool b) w)(hx:er L x=some v)(hy:er L y=some u) :
  Runs P κ N ⟨d,.binOp .eql T x y U,ty,ps,af,gd⟩ L J (.bool b):=λa w ha _=>by
 simp only [execOp,ha.eval hx,ha.eval hy]
 simp [hg w,hT w]
end
theorem QOf8_ok{κ:Ctx}{I:List Item}  :
    eu prog κ 176 [e7 8] I (λr J=>r = .agg #[.bool false,.bool false,.bool false,.bool false,.bool true]/\I=J):=by
 refine Ce1 Fd C C ?_
 refine Ai (Ge1 (Au ty220 C) λb1=>Af (Ai (Ge1 (Au ty220 C) λb2=>Af (Ap (Ai (Gm C (Af (A0 (Ap (A0 (Ap (A0 (Ap (A0 (Ap (A0 (Ap (A0 (Ap (A0 (Ap (A0 (Ap (Ap (Ai (Gr (Bu C C) (Ga C (Af (A8 C (λc5=>?_) (λc5=>?_))))))))))))))))))))))))))))))
 ·exact absurd c5 dc
 ·refine Ay (Aj (Ap (Ai (Gr (Bu C C) (Ga C (Af (A8 C (λc7=>?_) (λc7=>?_))))))))
  ·exact absurd c7 dc
  ·refine Ay (Aj (Ap (Ai (Gr (Bu C C) (Ga C (Af (A8 C (λc9=>?_) (λc9=>?_))))))))
   ·exact absurd c9 dc
   ·refine Ay (Aj (Ap (Ap (Ai (Gr (Bu C C) (Ga C (Af (A8 C (λc11=>?_) (λc11=>?_)))))))))
    ·exact absurd c11 dc
    ·refine Ax (Gr (Bu C C) (Ga C (Af (Aq (S4 11 4 3 2 C C C C) (A8 C (λc11=>?_) (λc11=>?_))))))
     ·exact absurd c11 dc
     ·refine Ay (Aj (Ap (Ap (Ai (Gr (Bu C C) (Ga C (Af (A8 C (λc14=>?_) (λc14=>?_)))))))))
      ·exact absurd c14 dc
      ·refine Ai (Gr (Bu C C) (Ga C (Af (A8 C (λc14=>?_) (λc14=>?_)))))
       ·exact absurd c14 dc
       ·refine Ax (Gr (Bu C C) (Ga C (Af (A8 C (λc14=>?_) (λc14=>?_)))))
        ·exact absurd c14 dc
        ·refine Ay (Aj (Ap (Ai (Gr (Bu C C) (Ga C (Af (A8 C (λc18=>?_) (λc18=>?_))))))))
         ·refine Bv (Al (Al (B6 C (Al (B6 C (Al (B6 C (Al (B6 C (Al (B6 C (Al (A5 (Aj (Ai (Gf fld220_4 C (Ge0 (Ce (cs:=[_,_,_,_,_]) (vs:=[_]) (cs':=[_,_,_,_,_]) ty4) ?_)))))))))))))))))
          refine Af (Bv (B6 C (Al (A5 (Aj (Ai (Gr (Bd (vs:=[_,_,_,_,_]) ty220) ?_)))))))
          refine Ge0 (Ep ty220) ?_
          exact Af (Aq (S1 2 C) (A2 (C5 C ty220 C mm C I A3 ⟨rfl,rfl⟩)))
         ·exact absurd rfl c18
theorem QCheck8_ok{κ:Ctx}{I:List Item}{n num den:Int}(hf:FrV ⟨num,den⟩):eu prog κ 105 [.agg #[e7 8,e7 0,e7 0,e7 0,.slice none 0 0,e7 num,e7 den],e7 n] I (λr J=>r=e7 0/\I=J):=by
 have hn0:0<=num:=hf.n0
 refine Ce2 Fe C C ?_
 refine Ai (Ge1 (A9 (cs:=[_,_,_,_,_,_,_]) C C C) λb1=>Ga C (Af (Ai (Gf fld71_0 C (Gl ef ?_)))))
 refine G.e (Ah call176 C C QOf8_ok) ?_
 rintro _ _ ⟨_,_,⟨rfl,rfl⟩,rfl,rfl⟩
 refine Ge1 (Au ty220 C) λb2=>Ge0 (Ep ty220) ?_
 refine Af (Ap (A0 (Ai (Gr (Bd (vs:=[_,_,_,_,_]) ty220) ?_))))
 refine Gr (Bc (cells:=[_,_,_,_,_]) ty220 Ea pl220 C C) (Gr (Runs.eqC (λw=>by kernel_rfl) (λw=>by kernel_rfl) C C) (Ga C (Af (C2 C (Ai (Gf fld220_0 C (Gl ty4 ?_)))))))
 refine Gm C (eb (eb (eb (eb (ee (ee (ee (ee (eb (Gr (Ao C C) (Gm C (e9 (Ab fld220_1 C) (e9 (As ty4) ?_)))))))))))))
 refine e9 (Ad C) (eb (eb (eb (eb (eb (eb (eb (e9 (Ao C C) (Gr (Ao C C) (Ga C (Af (Aq (S3 13 5 2 C C C) (C2 C (Ai (Gf fld220_3 C (Gl ty4 ?_))))))))))))))))
 refine Gm C (eb (eb (eb (eb (ee (ee (ee (eb (Gr (Ao C C) (Ga C (Af (Aq (S3 40 5 2 C C C) (C2 C (Ai (Gf fld220_2 C (Gl ty4 ?_))))))))))))))))
 refine Gm C (eb (eb (eb (eb (ee (ee (ee (eb (Gr (Ao C C) (Gm C (e9 (Ab fld220_4 C) (e9 (As ty4) ?_))))))))))))
 refine e9 (Ad C) (e9 (Ab fld71_5 C) (e9 (Bd (vs:=[_,_]) ty40) ?_))
 refine D5 (Ck C C C) (Ah call89 C C (RatValid_ok (⟨num,den⟩:Fr) hf)) ?_
 rintro _ _ ⟨_,_,⟨rfl,rfl⟩,rfl,rfl⟩
 refine e9 (B4 C) (e9 (Ad C) (e9 (Ab fld71_5 C) (e9 (Ab fld40_0 C) (e9 (As ef) ?_))))
 refine e9 (A7 C C) (e9 (Ao C C) (e9 (Ar C C) (Gr (Ao C C) (Ga C (Af (Aq (S3 53 5 2 C C C) (A8 C (λc53=>?_) (λc53=>?_))))))))
 ·refine Ai (Ga C (Af (A2 (Av (Am ?_)))))
  exfalso;first|omega|(exact absurd rfl asm)|(simp_all;done)
 ·refine Ai (Gf fld220_0 C (Gl ty4 ?_))
  refine Gr (B4 C) (Gm C (e9 (Ab fld71_1 C) (e9 (As ef) ?_)))
  refine e9 (Br C C) (Gr (Ar C C) (Gm C (Bg (d:=91) C (λg91=>?_) (λg91=>?_))))
  ·refine eb (eb (eb (eb (ee (ee (ee (ee (eb (Gr (Ar C C) (Gm C (eb (eb (eb (eb (ee (ee (ee (eb (Gr (Ar C C) (Gm C (eb (eb (eb (eb (ee (ee (ee (eb (Gr (Ar C C) (Gm C (eb (eb (eb (eb (ee (ee (ee (ee (eb (Gr (Ar C C) (Ga C (Af (Aq (S1 82 C) (Cq C (Ai (Ga C (Af (A2 (Av (Am ?_))))))))))))))))))))))))))))))))))))))))))))))))))
   exfalso;first|omega|(exact absurd rfl asm)|(simp_all;done)
  ·refine e9 (Ab fld220_1 C) (e9 (As ty4) ?_)
   refine e9 (B4 C) (e9 (Ad C) (e9 (Ab fld71_4 C) (e9 (As ty22) ?_)))
   refine e9 (Bs Ac C) (e9 (Bw C C) (e9 (Ar C C) (Gr (Ao C C) (Gm C (Bg (d:=102) C (λg102=>?_) (λg102=>?_))))))
   ·refine eb (eb (eb (eb (ee (ee (ee (eb (Gr (Ar C C) (Gm C (eb (eb (eb (eb (ee (ee (ee (eb (Gr (Ar C C) (Gm C (eb (eb (eb (eb (ee (ee (ee (ee (eb (Gr (Ar C C) (Ga C (Af (Aq (S1 82 C) (Cq C (Ai (Ga C (Af (A2 (Av (Am ?_)))))))))))))))))))))))))))))))))))))))
    exfalso;first|omega|(exact absurd rfl asm)|(simp_all;done)
   ·refine e9 (Ab fld220_3 C) (e9 (As ty4) ?_)
    refine e9 (B4 C) (e9 (Ad C) (e9 (Ab fld71_3 C) (e9 (As ef) ?_)))
    refine e9 (Br C C) (e9 (Ar C C) (Gr (Ao C C) (Gm C (Bg (d:=112) C (λg112=>?_) (λg112=>?_)))))
    ·refine eb (eb (eb (eb (ee (ee (ee (eb (Gr (Ar C C) (Gm C (eb (eb (eb (eb (ee (ee (ee (ee (eb (Gr (Ar C C) (Ga C (Af (Aq (S1 82 C) (Cq C (Ai (Ga C (Af (A2 (Av (Am ?_)))))))))))))))))))))))))))))
     exfalso;first|omega|(exact absurd rfl asm)|(simp_all;done)
    ·refine e9 (Ab fld220_2 C) (e9 (As ty4) ?_)
     refine e9 (B4 C) (e9 (Ad C) (e9 (Ab fld71_2 C) (e9 (As ef) ?_)))
     refine e9 (Br C C) (e9 (Ar C C) (Gr (Ao C C) (Gm C (Bg (d:=122) C (λg122=>?_) (λg122=>?_)))))
     ·refine eb (eb (eb (eb (ee (ee (ee (ee (eb (Gr (Ar C C) (Ga C (Af (Aq (S1 82 C) (Cq C (Ai (Ga C (Af (A2 (Av (Am ?_)))))))))))))))))))
      exfalso;first|omega|(exact absurd rfl asm)|(simp_all;done)
     ·refine e9 (Ab fld220_4 C) (e9 (As ty4) ?_)
      exact e9 (B4 C) (e9 (Ad C) (eb (eb (eb (eb (e9 (Ao C C) (Gr (Ao C C) (Ga C (Af (Aq (S1 82 C) (C2 C (Ay (Ak (Aj (Ai (Ga C (Af (A2 (A6 C C I A3 ⟨rfl,rfl⟩)))))))))))))))))))
theorem PAt_ok{κ:Ctx}{I:List Item}{nd kd wd mo tq:Int}{ea:Option Addr}{ec:Nat}{es:List Ev}(hl:Sl κ I (.slice ea es.length ec) es)(hH:HistOk nd kd wd mo es)(hlen:es.length<=19)(ht:0<=tq/\tq<=1048576):eu prog κ 180 [.agg #[e7 nd,.slice ea es.length ec,e7 kd,e7 wd,e7 mo],e7 tq] I (λr J=>∃a c,r = .agg #[e7 nd,.slice a (atG kd wd mo es tq).length c]/\J=vc 135 (.slice a (atG kd wd mo es tq).length c) (atG kd wd mo es tq)::I):=by
 refine Ce2 Tryz.func180 C C ?_
 refine Ai (Ge1 (A9 (cs:=[_,_,_,_,_]) C C C) λb1=>Ge1 (Au ty48 C) λb2=>Af (Ai (Gf fld163_0 C (Gl ef ?_))))
 refine Gf fld163_1 C (Gl ty28 ?_)
 refine Gf fld163_2 C (Gl3 ty31 ?_)
 refine Gm C (G.e (Ah call44 C C (At_ok (nd:=nd) (kd:=kd) (wd:=wd) (mo:=mo) (tq:=tq) (Ba hl) hH hlen ht)) ?_)
 rintro _ _ ⟨_,_,⟨ad3,cp4,rfl,rfl⟩,rfl,rfl⟩
 refine Gm C (Gr (Aw C C) (Gr (Aw C C) (Ge1 (Au ty48 C) λb5=>Ge0 (Bq ty48) ?_)))
 refine Ga C (Af (Aq (S2 5 4 C C) (Ai (Gl2 ty48 ?_))))
 refine Ge0 (Bq ty48) ?_
 exact Af (A2 (C5 C ty48 C mm C (vc 135 (.slice ad3 (atG kd wd mo es tq).length cp4) (atG kd wd mo es tq)::I) B7 ⟨ad3,cp4,rfl,rfl⟩))
set_option maxHeartbeats 1000000 in
theorem ADense_ok{κ:Ctx}{I:List Item}{nd tv:Int}{ea:Option Addr}{ec:Nat}{es:List Pt}(hl:Sl κ I (.slice ea es.length ec) es)(hT:TabRd κ I 0 tzCells):eu prog κ 186 [.agg #[e7 nd,.slice ea es.length ec],.agg #[.bool false,e7 0,e7 tv,.slice none 0 0,e7 0,e7 0,.slice none 0 0,.slice none 0 0,.slice none 0 0,e7 0,.slice none 0 0]] I (λr J=>∃a c B a2 c2 parts N D E,r = .agg #[.bool true,e7 0,e7 tv,.slice a (eo B).length c,e7 N,e7 D,.slice none 0 0,.slice none 0 0,.slice none 0 0,e7 E,.slice a2 (parts:List Int).length c2]/\(BestR nd es N D B/\SplitB nd es N D E parts)/\J=vc 3 (.slice a (eo B).length c) (eo B)::vc 3 (.slice a2 parts.length c2) parts::I):=by
 refine Ce2 Tryz.func186 C C ?_
 refine Ai (Ge1 (A9 (cs:=[_,_]) C C C) λb1=>Ge1 (A9 (cs:=[_,_,_,_,_,_,_,_,_,_,_]) C C C) λb2=>Ge1 (Au ty90 C) λb3=>Af (Ai (Gl2 ty48 ?_)))
 refine G.e (Ah call100 C C (BestD_ok (nd:=nd) (Ba hl) (Bx hT A3))) ?_
 rintro _ _ ⟨_,_,⟨ad4,cp5,Bqq8,ad6,cp7,ptq8,Nqq8,Dqq8,Eqq8,rfl,⟨hBR,hSB⟩,rfl⟩,rfl,rfl⟩
 refine Gm C (Gr (Aw C C) (Gr (Aw C C) (Ge1 (Au ty102 C) λb9=>Ge0 (Ep ty102) ?_)))
 refine Ga C (Af (Ap (Bl mixed (Bt (e8 b9 [.slice ad4 (eo Bqq8).length cp5,e7 Nqq8,e7 Dqq8,e7 Eqq8,.slice ad6 ptq8.length cp7] 102::vc 3 (.slice ad4 (eo Bqq8).length cp5) (eo Bqq8)::vc 3 (.slice ad6 ptq8.length cp7) (ptq8)::e8 b3 [.bool false,e7 0,e7 0,.slice none 0 0,e7 0,e7 0,.slice none 0 0,.slice none 0 0,.slice none 0 0,e7 0,.slice none 0 0] 90::e8 b1 [e7 nd,.slice ea es.length ec] 48::I) 14 (Dr 0 C (Ab fld102_0 C) (Dr 1 C (As ty22) ?_))))))
 refine Dr 2 C (Ab fld102_1 C) (Dr 3 C (Bd (vs:=[_,_]) ty40) ?_)
 refine Dr 4 C (Ab fld102_2 C) (Dr 5 C (Bd (vs:=[_,_]) ty88) ?_)
 refine Dr 6 C (Ab fld90_0 C) (Ds1 7 (Se0 C (Ce (cs:=[_,_,_,_,_,_,_,_,_,_,_]) (vs:=[_]) (cs':=[_,_,_,_,_,_,_,_,_,_,_]) ty4) ?_))
 refine Dr 8 C (Ab fld90_3 C) (Ds1 9 (Se0 C (Ce (cs:=[_,_,_,_,_,_,_,_,_,_,_]) (vs:=[_]) (cs':=[_,_,_,_,_,_,_,_,_,_,_]) ty22) ?_))
 refine Dr 10 C (Ab fld90_4 C) (Ds1 11 (Se0 C (Ce (cs:=[_,_,_,_,_,_,_,_,_,_,_]) (vs:=[_,_]) (cs':=[_,_,_,_,_,_,_,_,_,_,_]) ty40) ?_))
 refine Dr 12 C (Ab fld90_8 C) (Ds1 13 (Se0 C (Ce (cs:=[_,_,_,_,_,_,_,_,_,_,_]) (vs:=[_,_]) (cs':=[_,_,_,_,_,_,_,_,_,_,_]) ty88) ?_))
 refine Dz (Aj (Aq (S2 4 3 C C) (Ai (Gr (Bd (vs:=[_,_,_,_,_,_,_,_,_,_,_]) ty90) ?_))))
 refine Ge0 (Ce (cs:=[_,_,_,_,_,_,_,_,_,_,_]) (vs:=[_,_,_,_,_,_,_,_,_,_,_]) (cs':=[_,_,_,_,_,_,_,_,_,_,_]) ty90) ?_
 exact Af (A2 (C5 C ty90 C mm C (vc 3 (.slice ad4 (eo Bqq8).length cp5) (eo Bqq8)::vc 3 (.slice ad6 ptq8.length cp7) ptq8::I) B7 ⟨ad4,cp5,Bqq8,ad6,cp7,ptq8,Nqq8,Dqq8,Eqq8,rfl,⟨hBR,hSB⟩,rfl⟩))
end Go.Sl
namespace Go.Sl
end Go.Sl
namespace Go.Sl
open Go.Proofs
set_option maxRecDepth 4000
end Go.Sl
namespace Go.Sl
end Go.Sl
namespace Go.Sl
open Go.Proofs
set_option maxRecDepth 4000
variable {κ:Ctx}{I:List Item}
theorem MkWindowV_base{b:Nat}{lv:Value}{ls:List Int}{i:Int}(hl:∀q,Sl κ (deck b lv q::I) lv ls)(h0:0<=i)   :
    eu prog κ 21 [.pointer (some ⟨b,0,none⟩)] (e8 b [lv,e7 i] 125::I) (λr J=>∃y:Int×Int×Int×Int,((r = .agg #[e7 y.1,e7 y.2.1,e7 y.2.2.1]/\checkW y.1 y.2.1 y.2.2.1=0)/\0<=y.2.2.2)/\J=[]++deck b lv y.2.2.2::I):=by
 refine Ce1 Tryz.func21 C C ?_
 refine Ai (Ge1 (Au ty31 C) λb1=>Af (Ap (Ai (Gm C (G.e (Ah call19 C C (Next_ok (by repeat (first|exact AtF.head _ _|apply AtF.tail)) (Cv (hl _) A3) om om)) ?_)))))
 rintro _ _ ⟨_,_,⟨x2,i3,rfl,hx2,hi3,rfl⟩,rfl,rfl⟩
 show G prog κ _ _ _ _ ([(4,e7 x2),(3,.pointer (some ⟨b,0,none⟩)),(2,.pointer (some ⟨b1,0,none⟩)),(0,.pointer (some ⟨b,0,none⟩))]:Env) (e8 b1 [e7 0,e7 0,e7 0] 31::e8 b [lv,e7 i3] 125::I)
 refine Af (A0 (Ai (Gr (Bu C C) (Ga C (Af (A8 C (λc5=>?_) (λc5=>?_)))))))
 ·refine Ai (Gm C (G.e (Ah call19 C C (Next_ok (by repeat (first|exact AtF.head _ _|apply AtF.tail)) (Cv (hl _) A3) om om)) ?_))
  rintro _ _ ⟨_,_,⟨x4,i5,rfl,hx4,hi5,rfl⟩,rfl,rfl⟩
  show G prog κ _ _ _ _ ([(8,e7 x4),(7,.pointer (some ⟨b,0,none⟩)),(5,.bool (decide (x2=1))),(6,.bool (decide (x2=1))),(4,e7 x2),(3,.pointer (some ⟨b,0,none⟩)),(2,.pointer (some ⟨b1,0,none⟩)),(0,.pointer (some ⟨b,0,none⟩))]:Env) (e8 b1 [e7 0,e7 0,e7 0] 31::e8 b [lv,e7 i5] 125::I)
  refine Gr (Rad C C) (Gr (Bc (cells:=[_,_,_]) ty31 Ez pl31 C C) (Ge0 (Es3_3 ty31) ?_))
  exact Af (A2 (Av (Am (C5 C ty31 C mm C (e8 b [lv,e7 i5] 125::I) A1 ⟨(2,1+x4,0,i5),⟨⟨rfl,by show checkW 2 (1+x4) (0)=0;unfold checkW;rw [if_neg om,if_neg om]⟩,by show 0<=i5;omega⟩,rfl⟩))))
 ·refine Ai (Gr (Bu C C) (Ga C (Af (A8 C (λc11=>?_) (λc11=>?_)))))
  ·refine Ai (Gm C (G.e (Ah call19 C C (Next_ok (by repeat (first|exact AtF.head _ _|apply AtF.tail)) (Cv (hl _) A3) om om)) ?_))
   rintro _ _ ⟨_,_,⟨x6,i7,rfl,hx6,hi7,rfl⟩,rfl,rfl⟩
   show G prog κ _ _ _ _ ([(14,e7 x6),(13,.pointer (some ⟨b,0,none⟩)),(11,.bool (decide (x2=2))),(12,.bool (decide (x2=2))),(5,.bool (decide (x2=1))),(6,.bool (decide (x2=1))),(4,e7 x2),(3,.pointer (some ⟨b,0,none⟩)),(2,.pointer (some ⟨b1,0,none⟩)),(0,.pointer (some ⟨b,0,none⟩))]:Env) (e8 b1 [e7 0,e7 0,e7 0] 31::e8 b [lv,e7 i7] 125::I)
   refine Gr (Bc (cells:=[_,_,_]) ty31 Ez pl31 C C) (Ge0 (Es3_3 ty31) ?_)
   exact Af (A2 (Av (Am (C5 C ty31 C mm C (e8 b [lv,e7 i7] 125::I) A1 ⟨(3,0,x6,i7),⟨⟨rfl,by show checkW 3 0 (x6)=0;unfold checkW;rw [if_neg om,if_neg om]⟩,by show 0<=i7;omega⟩,rfl⟩))))
  ·refine Ay (Ak (Aj (Ai (Gr (Bc (cells:=[_,_,_]) ty31 Ez pl31 C C) (Ge0 (Es3_3 ty31) ?_)))))
   exact Af (A2 (C5 C ty31 C mm C (e8 b [lv,e7 i3] 125::I) A1 ⟨(1,0,0,i3),⟨⟨rfl,by show checkW 1 0 (0)=0;unfold checkW;rw [if_neg om,if_neg om]⟩,by show 0<=i3;omega⟩,rfl⟩))
theorem MkWindowV_at{F:Item->List Item}{b:Nat}{lv:Value}{ls:List Int}{i:Int}(hat:AtF I (deck b lv i) F)(hl:∀q,Sl κ (F (deck b lv q)) lv ls)(h0:0<=i)   :
  eu prog κ 21 [.pointer (some ⟨b,0,none⟩)] I λr J=>∃y:Int×Int×Int×Int,((r = .agg #[e7 y.1,e7 y.2.1,e7 y.2.2.1]/\checkW y.1 y.2.1 y.2.2.1=0)/\0<=y.2.2.2)/\J=[]++F (deck b lv y.2.2.2):=
 En (Post:=λr (y:Int×Int×Int×Int)=>(r = .agg #[e7 y.1,e7 y.2.1,e7 y.2.2.1]/\checkW y.1 y.2.1 y.2.2.1=0)/\0<=y.2.2.2) (Z:=λy:Int×Int×Int×Int=>[]) (X:=λy:Int×Int×Int×Int=>deck b lv y.2.2.2) hat λJ _ hF=>MkWindowV_base (λq=>(hl q).fit (hF _)) h0  
end Go.Sl
