/- A part of the proofs of statements of this seat: contracts of functions, and the plain laws that they lean on. No conditions. -/
import Derived.Test.YtfkcohmipjhfcaaGreatDoorW9
set_option linter.unusedVariables false
set_option linter.unusedSimpArgs false
set_option linter.unusedSectionVars false
open Go.Proofs.Tryz (prog)
open List (replicate)
namespace Go.Sl
open Go.Proofs
set_option maxRecDepth 4000
variable {κ:Ctx}{I:List Item}
structure Fr where
 num:Int
 den:Int
deriving DecidableEq
instance:Inhabited Fr:=⟨⟨0,0⟩⟩
instance:Enc Fr:=⟨λr=>[e7 r.num,e7 r.den],2,by omega,λ_=>rfl,λr u hu=>by
 simp only [List.mem_cons,List.not_mem_nil,or_false] at hu
 rcases hu with rfl|rfl<;>rfl⟩
theorem eqt40:EqT prog 40 Fr:=EqT.flat (λp:Fr=>[p.num,p.den]) (λ_=>rfl) (λx y h=>by cases x;cases y;simpa using h) (n:=2) (λ_=>rfl) kr kr kr kr kr
def gcdI(a b:Int):Int:=((a.toNat.gcd b.toNat:Nat):Int)
theorem gcdI_step{a b:Int}(h0:0<=a)(h1:0<b):gcdI b (Int.tmod a b)=gcdI a b:=by
 unfold gcdI
 rw [Int.tmod_eq_emod_of_nonneg h0,show (a % b).toNat=a.toNat % b.toNat by rw [Int.toNat_emod h0 om]]
 congr 1
 rw [Nat.gcd_comm a.toNat b.toNat,Nat.gcd_rec b.toNat a.toNat,Nat.gcd_comm]
theorem gcdI_zero{a:Int}(h0:0<=a):gcdI a 0=a:=by unfold gcdI;simp;omega
theorem gcdI_pos{a b:Int}(h1:0<b):0<gcdI a b:=by
 unfold gcdI
 have:0<a.toNat.gcd b.toNat:=Nat.gcd_pos_of_pos_right _ om
 omega
theorem gcdI_le{a b:Int}(h1:0<b):gcdI a b<=b:=by
 unfold gcdI
 have:a.toNat.gcd b.toNat<=b.toNat:=Nat.le_of_dvd om (Nat.gcd_dvd_right _ _)
 omega
def mkF(a b:Int):Fr:=⟨a / gcdI a b,b / gcdI a b⟩
theorem mkF_num{a b:Int}(h0:0<=a)(h1:0<b):0<=(mkF a b).num/\(mkF a b).num<=a:=⟨Int.ediv_nonneg h0 (by have:=gcdI_pos (a:=a) h1;omega),Int.ediv_le_self _ h0⟩
theorem mkF_den{a b:Int}(h1:0<b):1<=(mkF a b).den/\(mkF a b).den<=b:=by
 have hg:=gcdI_pos (a:=a) h1
 have hl:=gcdI_le (a:=a) h1
 exact ⟨(Int.le_ediv_iff_mul_le hg).2 om,Int.ediv_le_self _ om⟩
theorem RWithin_ok(n m:Int)(h:0<=m/\m<=9223372036854775807):eu prog κ 157 [e7 n,e7 m] I (λr J=>r = .bool (decide (-m<=n/\n<=m))/\I=J):=by
 refine Ce2 Tryz.func157 C C ?_
 refine Aj (Ga C (Ah (Aj (Gm C (Gm C (Gr (Runs.neg C (by unfold InR;omega)) (Gr (Cu C C) (Gm C (Bs (d:=9) C (λg9=>?_) (λg9=>?_))))))))))
 ·exact e9 (Af C) (e9 (Af C) (e9 (Ei C C) (Gr (Ap C C) (Ga C (Ah (Av (S1 4 C) (Az (Ba C C I Ay ⟨(by first|exact congrArg Value.bool (decide_eq_decide.2 (by skip;omega))|exact congrArg Value.bool (decide_eq_true (by skip;omega)).symm|exact congrArg Value.bool (decide_eq_false (by skip;omega)).symm),rfl⟩))))))))
 ·exact eb (eb (eb (Gr (Al C C) (Ga C (Ah (Av (S1 4 C) (Az (Ba C C I Ay ⟨(by first|exact congrArg Value.bool (decide_eq_decide.2 (by skip;omega))|exact congrArg Value.bool (decide_eq_true (by skip;omega)).symm|exact congrArg Value.bool (decide_eq_false (by skip;omega)).symm),rfl⟩))))))))
theorem Common_ok(a b:Int)(h0:0<=a)(h1:0<=b):eu prog κ 158 [e7 a,e7 b] I (λr J=>r=e7 (gcdI a b)/\I=J):=by
 refine Ce2 Tryz.func158 C C ?_
 refine Aj (Ga C (Ah (Au (A6 (Ca (σ:=Int×Int) (λs=>([(0,e7 (s.1)),(1,e7 (s.2))]:Env)) (λs=>I) (λs=>(0<=s.1)/\(0<=s.2)/\(gcdI s.1 s.2=gcdI a b)) (λs=>s.2.toNat) (a,b) ⟨om,om,rfl⟩ (Aa Cr (Aa Cr Bq)) (show Fit κ _ I from A5) ?_)))))
 rintro ⟨x,y⟩ hp
 dsimp only at hp ⊢
 obtain ⟨hx,hy,hg⟩:=hp
 refine Au (Aj (Gm C (Gr (Bx C C) (Ah (Bd C (λc6=>?_) (λc6=>?_))))))
 ·refine A4 (Ai (A6 (Bt mixed (C9 I 6 (Dr 0 C (Af C) (Dr 1 C (Af C) (Dr 2 C (Af C) (Dr 3 C (Runs.rem C C om) (Dr 4 C (Bb C) (Dr 5 C (Bb C) (Dz (Ak ?_))))))))))))
  have hm0:=Int.tmod_nonneg y (a:=x) hx
  have hm1:=Int.tmod_lt_of_pos x (b:=y) om
  exact Ch ((y),(Int.tmod x y)) (by dsimp only;exact ⟨om,om,((gcdI_step hx om).trans hg)⟩)
 ·refine Bp (Ac (Ac (Aw (Ai (Aj (Gm C (Ga C (Ah (Az ?_)))))))))
  have hy0:y=0:=by omega
  subst hy0
  exact Ba C C I Ay ⟨by rw [←hg,gcdI_zero hx],rfl⟩
theorem Checked_ok(x:Fr)(h:0<=x.num/\x.num<=1152921504606846976/\x.den<=1152921504606846976):eu prog κ 309 [.agg #[e7 (x.num),e7 (x.den)]] I (λr J=>r = .tuple #[.agg #[e7 x.num,e7 x.den],e7 0]/\I=J):=by
 refine Ce1 Tryz.func309 C C ?_
 refine Aj (Ge1 (Bg (cs:=[_,_]) C C C) λb1=>Ge1 (A9 ty40 C) λb2=>Ga C (Ah (Au (Aj (Gf fld40_0 C (Gl ef ?_))))))
 refine G.e (Am call157 C C (RWithin_ok x.num 1152921504606846976 om)) ?_
 rintro _ _ ⟨_,_,⟨rfl,rfl⟩,rfl,rfl⟩
 refine Gr (D5 C) (Gm C (Bs (d:=8) C (λg8=>?_) (λg8=>?_)))
 ·exact absurd h om
 ·refine e9 (Ab fld40_1 C) (e9 (As ef) ?_)
  refine e9 (Ci C C) (Gr (Al C C) (Ah (Av (S3 12 2 1 C C C) (Bd C (λc12=>?_) (λc12=>?_)))))
  ·exact absurd h om
  ·refine A4 (Ai (Aj (Gl2 ty40 ?_)))
   refine Ge0 (Cs ty40) ?_
   exact Ga C (Ah (Az (D3 C ty40 C C mm C I Ay ⟨rfl,rfl⟩)))
theorem Lowest_ok(a b:Int)(h0:0<=a/\a<=1152921504606846976)(h1:0<b/\b<=1152921504606846976):eu prog κ 272 [e7 a,e7 b] I (λr J=>r = .tuple #[.agg #[e7 (mkF a b).num,e7 (mkF a b).den],e7 0]/\I=J):=by
 refine Ce2 Tryz.func272 C C ?_
 refine Aj (Ge1 (A9 ty40 C) λb1=>Ga C (Ah (Au (Aj (Gm C (Gr (Bi C C) (Ah (Bd C (λc8=>?_) (λc8=>?_)))))))))
 ·exact absurd c8 om
 ·refine A4 (Ai (Aj (Gm C (Gm C (Gr (Runs.neg C (by unfold InR;omega)) (Gr (D7 C C) (Gm C (Gc0 (Am call158 C C (Common_ok (if a<(-(a)) then (-(a)) else a) b (by split<;>omega) om)) ?_))))))))
  refine Ga C ?_
  have hmx:(if a < -a then -a else a)=a:=by rw [if_neg om]
  rw [hmx]
  refine Ah (Av (S4 6 4 0 1 C C C C) (Au (Bt mixed (C7 10 (Dr 0 C (Af C) ?_)))))
  have hgp:=gcdI_pos (a:=a) h1.1
  refine Dr 1 C (Af C) (Dr 2 C (Runs.quo C C om om (by unfold InR;omega)) (Dr 3 C (Af C) (Dr 4 C (Af C) (Dr 5 C (Runs.quo C C om om (by unfold InR;omega)) (Dr 6 C (Bc (cells:=[_,_]) ty40 B0 pl40 C C) (Ds1 7 (Sc0 C (Am call309 C C (Checked_ok (⟨a / (gcdI a b),b / (gcdI a b)⟩:Fr) (by have hn:=mkF_num h0.1 h1.1;have hd:=mkF_den (a:=a) h1.1;exact ⟨hn.1,by have:=hn.2;show (mkF a b).num<=_;omega,by have:=hd.2;show (mkF a b).den<=_;omega⟩))) ?_)))))))
  refine Dr 8 C (Ax C C) (Dr 9 C (Ax C C) (Dc kr ?_))
  refine Ae 10 C (Cs ty40) ?_
  rintro _ _ ⟨rfl,rfl⟩
  refine Fc (i:=11) kr C (Bm C) C C (Bb C) ?_
  refine De kr ?_
  exact Ai (Av (S2 5 4 C C) (Az (D3 C ty40 C C mm C I Ay ⟨rfl,rfl⟩)))
theorem MakeF_ok(a b:Int)(h0:0<=a/\a<=1152921504606846976)(h1:0<b/\b<=1152921504606846976):eu prog κ 220 [e7 a,e7 b] I (λr J=>r = .tuple #[.agg #[e7 (mkF a b).num,e7 (mkF a b).den],e7 0]/\I=J):=by
 refine Ce2 Tryz.func220 C C ?_
 refine Aj (Ge1 (A9 ty40 C) λb1=>Ga C (Ah (Au (A6 (Aj (Gm C (Gr (Bl C C) (Ga C (Ah (Bd C (λc6=>?_) (λc6=>?_)))))))))))
 ·exact absurd c6 om
 ·refine Aj (Gm C (G.e (Am call157 C C (RWithin_ok a 4611686018427387904 om)) ?_))
  rintro _ _ ⟨_,_,⟨rfl,rfl⟩,rfl,rfl⟩
  refine Gm C (Bs (d:=13) C (λg13=>?_) (λg13=>?_))
  ·refine e9 (Af C) (Et (Cz C C C) (Am call157 C C (RWithin_ok b 4611686018427387904 om)) ?_)
   rintro _ _ ⟨_,_,⟨rfl,rfl⟩,rfl,rfl⟩
   refine Gr (Ap C C) (Ga C (Ah (Av (S4 10 4 0 1 C C C C) (Bd C (λc10=>?_) (λc10=>?_)))))
   ·refine Aj (Gm C (Gm C (Gc0 (Am call272 C C (Lowest_ok a b om om)) ?_)))
    refine Gr (Ax C C) (Gr (Ax C C) (Ge0 (Cs ty40) ?_))
    exact Ga C (Ah (Az (A3 (Ar (D3 C ty40 C C mm C I Ay ⟨rfl,rfl⟩)))))
   ·exact absurd om c10
  ·exact absurd om g13
theorem onesB_bd(m:BitVec 64):0<=onesB m/\onesB m<128:=by unfold onesB;omega
theorem addRow_no{rows:List (BitVec 64)}{e:Pt}(h:¬(0<=e.u/\e.u<e.v/\e.v<rows.length)):addRow rows e=rows:=by unfold addRow;rw [if_neg h]
theorem MRows_ok{κ:Ctx}{I:List Item}{nd:Int}{v:Value}{es:List Pt}(hl:Sl κ I v es):eu prog κ 198 [.agg #[e7 nd,v]] I (λr J=>∃a c,r = .slice a (ek nd es).length c/\J=vc 175 (.slice a (ek nd es).length c) (ek nd es)::I):=by
 refine Cg hl.le λhmax=>?_
 refine Ce1 Tryz.func198 C C ?_
 refine Aj (Ge1 (Bg (cs:=[_,_]) C C C) λb1=>Ga C (Ah (Aj (Gf fld48_0 C (Gl ef ?_)))))
 refine Gr (D7 C C) (Gr (E9 C C) (Ge2 (Cw (α:=(BitVec 64)) (n:=(min (max nd 0) 64).toNat) B6 ty175 C C C om om dc C) λad2 cp3=>?_))
 refine Ga C ?_
 have hrep:(replicate (min (max nd 0) 64).toNat (default:(BitVec 64))).length=(min (max nd 0) 64).toNat:=List.length_replicate
 refine Ah (Au (Aj (Gf fld48_1 C (Gl ty46 ?_))))
 refine Gr (Cb (α:=Pt) (xs:=es) Bu C (Bj hl)) (Gm C (Ah (A6 (Ca (σ:=Nat×(List (BitVec 64))) (λs=>([(3,.slice ad2 (replicate ((min (max nd 0) 64).toNat) (default:(BitVec 64))).length cp3),(12,v),(13,e7 ((es.length:Nat):Int)),(14,e7 ((s.1:Nat):Int))]:Env)) (λs=>vc 175 (.slice ad2 (replicate ((min (max nd 0) 64).toNat) (default:(BitVec 64))).length cp3) (s.2)::e8 b1 [e7 nd,v] 48::I) (λs=>(s.1<=es.length)/\(s.2=ek nd (es.take s.1))/\(s.2.length=(min (max nd 0) 64).toNat)) (λs=>es.length - s.1) (0,replicate (min (max nd 0) 64).toNat (default:(BitVec 64))) ⟨om,rfl,(by simp)⟩ (Aa C (Aa C (Aa C (Aa Cr Bq)))) A5 ?_))))
 rintro ⟨k,rows⟩ hp
 dsimp only at hp ⊢
 obtain ⟨hk,hr,hrl⟩:=hp
 refine Aj (Gr (Bi C C) (Ah (Au (Bd C (λc15=>?_) (λc15=>?_)))))
 ·refine A4 (Ai (Au (A6 (Aj (Gr (A2 (α:=Pt) (xs:=es) Bu ty135 C C (Bj hl) om oo) (Gr (B7 (α:=Pt) (xs:=es) ty135 C (Bj hl) om oo) (Ge1 (A9 ty135 C) λb4=>Ge0 (Cs ty135) ?_)))))))
  refine Ah (Aj (Gf fld135_0 C (Gl ef ?_)))
  refine Gr (Cu C C) (Gm C (Bs (d:=21) C (λg21=>?_) (λg21=>?_)))
  ·refine e9 (Ab fld135_0 C) (e9 (As ef) ?_)
   refine e9 (Ab fld135_1 C) (e9 (As ef) ?_)
   refine e9 (Bi C C) (Gr (Ap C C) (Gm C (Bs (d:=28) C (λg28=>?_) (λg28=>?_))))
   ·refine e9 (Ab fld135_1 C) (e9 (As ef) ?_)
    refine e9 (Af C) (e9 (Bz B6 C) (e9 (Bi C C) (Gr (Ap C C) (Ah (Av (S6 34 5 3 12 13 14 C C C C C C) (Bd C (λc34=>?_) (λc34=>?_)))))))
    ·refine Au (Bt mixed (C7 10 (Dr 0 C (Af C) (Dr 1 C (Ab fld135_0 C) (Dr 2 C (As ef) ?_)))))
     refine Dr 3 C (A2 (α:=(BitVec 64)) (xs:=rows) B6 ty175 C C Bk om oo) (Dr 4 C (Ct (α:=(BitVec 64)) (xs:=rows) (u:=U64 ((e_ rows ((e_ es k).u)))) ty175 C Bk om oo C) (Dr 5 C (Ab fld135_1 C) (Dr 6 C (As ef) ?_)))
     refine Dr 7 C (Eq (a:=1#64) C C om om) (Dr 8 C (E0 (a:=(e_ rows ((e_ es k).u))) (b:=(1#64) <<< ((e_ es k).v).toNat) C C) (Dr 9 C (A2 (α:=(BitVec 64)) (xs:=rows) B6 ty175 C C Bk om oo) (Dc kr ?_)))
     refine Ae 10 C (Cy (α:=(BitVec 64)) (xs:=rows) (e:=175) (new:=(e_ rows ((e_ es k).u)) ||| ((1#64) <<< ((e_ es k).v).toNat)) ty175 C C C om oo am) ?_
     rintro _ _ ⟨rfl,rfl⟩
     refine De kr ?_
     refine Ai (Av (S5 5 3 12 13 14 C C C C C) (Bt mixed (C7 10 (Dr 0 C (Af C) (Dr 1 C (Ab fld135_1 C) (Dr 2 C (As ef) ?_))))))
     refine Dr 3 C (A2 (α:=(BitVec 64)) (xs:=List.set rows ((e_ es k).u).toNat ((e_ rows ((e_ es k).u)) ||| ((1#64) <<< ((e_ es k).v).toNat))) B6 ty175 C C Bk om oo) (Dr 4 C (Ct (α:=(BitVec 64)) (xs:=List.set rows ((e_ es k).u).toNat ((e_ rows ((e_ es k).u)) ||| ((1#64) <<< ((e_ es k).v).toNat))) (u:=U64 ((e_ (List.set rows ((e_ es k).u).toNat ((e_ rows ((e_ es k).u)) ||| ((1#64) <<< ((e_ es k).v).toNat))) ((e_ es k).v)))) ty175 C Bk om oo C) (Dr 5 C (Ab fld135_0 C) (Dr 6 C (As ef) ?_)))
     refine Dr 7 C (Eq (a:=1#64) C C om om) (Dr 8 C (E0 (a:=(e_ (List.set rows ((e_ es k).u).toNat ((e_ rows ((e_ es k).u)) ||| ((1#64) <<< ((e_ es k).v).toNat))) ((e_ es k).v))) (b:=(1#64) <<< ((e_ es k).u).toNat) C C) (Dr 9 C (A2 (α:=(BitVec 64)) (xs:=List.set rows ((e_ es k).u).toNat ((e_ rows ((e_ es k).u)) ||| ((1#64) <<< ((e_ es k).v).toNat))) B6 ty175 C C Bk om oo) (Dc kr ?_)))
     refine Ae 10 C (Cy (α:=(BitVec 64)) (xs:=List.set rows ((e_ es k).u).toNat ((e_ rows ((e_ es k).u)) ||| ((1#64) <<< ((e_ es k).v).toNat))) (e:=175) (new:=(e_ (List.set rows ((e_ es k).u).toNat ((e_ rows ((e_ es k).u)) ||| ((1#64) <<< ((e_ es k).v).toNat))) ((e_ es k).v)) ||| ((1#64) <<< ((e_ es k).u).toNat)) ty175 C C C om oo am) ?_
     rintro _ _ ⟨rfl,rfl⟩
     refine De kr ?_
     refine Ak (Ai (Av (S4 3 12 13 14 C C C C) (A0 (Gr (Rad C C) (Gm C (Bf ?_))))))
     have hset:List.set (List.set rows ((e_ es k).u).toNat ((e_ rows ((e_ es k).u)) ||| ((1#64) <<< ((e_ es k).v).toNat))) ((e_ es k).v).toNat ((e_ (List.set rows ((e_ es k).u).toNat ((e_ rows ((e_ es k).u)) ||| ((1#64) <<< ((e_ es k).v).toNat))) ((e_ es k).v)) ||| ((1#64) <<< ((e_ es k).u).toNat))=addRow rows (e_ es k):=by unfold addRow;rw [if_pos om]
     rw [hset]
     exact Ch ((k+1),(addRow rows (e_ es k))) (by dsimp only;exact ⟨om,(by rw [rowsB_take om,←hr];first|done|exact hset),(by first|exact hrl|(rw [addRow_len];exact hrl))⟩)
    ·refine A4 (Ak (Ai (A0 (Gr (Rad C C) (Gm C (Bf ?_))))))
     have hset:rows=addRow rows (e_ es k):=(addRow_no om).symm
     exact Ch ((k+1),(rows)) (by dsimp only;exact ⟨om,(by rw [rowsB_take om,←hr];first|done|exact hset),(by first|exact hrl|(rw [addRow_len];exact hrl))⟩)
   ·refine eb (eb (eb (eb (eb (Gr (Al C C) (Ah (Av (S6 34 5 3 12 13 14 C C C C C C) (Eo C (A4 (Ak (Ai (A0 (Gr (Rad C C) (Gm C (Bf ?_)))))))))))))))
    have hset:rows=addRow rows (e_ es k):=(addRow_no om).symm
    exact Ch ((k+1),(rows)) (by dsimp only;exact ⟨om,(by rw [rowsB_take om,←hr];first|done|exact hset),(by first|exact hrl|(rw [addRow_len];exact hrl))⟩)
  ·refine eb (eb (eb (eb (eb (Gr (Al C C) (Gm C (eb (eb (eb (eb (eb (Gr (Al C C) (Ah (Av (S6 34 5 3 12 13 14 C C C C C C) (Eo C (A4 (Ak (Ai (A0 (Gr (Rad C C) (Gm C (Bf ?_))))))))))))))))))))))
   have hset:rows=addRow rows (e_ es k):=(addRow_no om).symm
   exact Ch ((k+1),(rows)) (by dsimp only;exact ⟨om,(by rw [rowsB_take om,←hr];first|done|exact hset),(by first|exact hrl|(rw [addRow_len];exact hrl))⟩)
 ·refine Bp (Ac (Ac (Aw (Ai (Aj (Gm C (Ga C (Ah (Az ?_)))))))))
  rw [List.take_of_length_le om] at hr
  subst hr
  have hle:(ek nd es).length=(replicate (min (max nd 0) 64).toNat (default:(BitVec 64))).length:=by omega
  exact Ba C C (vc 175 (.slice ad2 (ek nd es).length cp3) (ek nd es)::I) (by rw [hle];exact A5) ⟨_,_,by rw [hle],rfl⟩
section
variable {P:Program}{κ:Ctx}{N:Frm}{L:Env}{I J:List Item}{d:Option Tmp}{ty:TypeId}{ps:String}{af:Array Edge}{gd:Option (Nat×Bool)}
theorem vc.isSome{α:Type}[Enc α]{xs:List α}{e:TypeId}{ad:Option Addr}{n c:Nat}(h:vc e (.slice ad n c) xs∈I):∀w,Sep κ w I->(0<xs.length->ad≠none):=λw hs hlt=>by
 obtain ⟨b,o,cap,h0,_⟩:=((Fo (κ:=κ) h) w hs).some hlt
 cases h0
 exact λhh=>by cases hh
theorem Runs.idxs(α:Type)[Enc α]{x y:Operand}{T E by' n c:Nat}{ag:Bool}{z:List Value}{ad:Option Addr}{i:Int}(ht:P.underlying T=some (.slice E))(hE:tyF P E=some (Enc.sz α,ag,by',z))(hx:er L x=some (.slice ad n c))
  (hy:er L y=some (e7 i)) (ha:ad≠none) (h0:0<=i) (hn:i<n):Runs P κ N ⟨d,.indexAddr T x y,ty,ps,af,gd⟩ L J (elemPtr (.slice ad n c) (i.toNat*Enc.sz α)):=by
 cases ad with
 |none=>exact absurd rfl ha
 |some ad=>exact λa w ha hs=>by simp [execOp,ha.eval hx,ha.eval hy,Instr.indexAt,asIntOf,run_underlying ht,h0,hn,run_sizeOf hE,elemPtr]
end
variable {κ:Ctx}{I:List Item}
theorem ApplyP_ok{nd:Int}{e:Ev}{a0:Option Addr}{c0:Nat}{xs:List Lk}(hv:checkS nd xs=0)(hf:FitOk nd e)(hsz:xs.length<=100000):eu prog κ 141 [.agg #[e7 nd,.slice a0 xs.length c0],.agg #[e7 (e.kd),e7 (e.tm),e7 (e.u),e7 (e.v),e7 (e.w),e7 (e.lb),e7 (e.sg)]] (vc 146 (.slice a0 xs.length c0) (xs)::I) (λr J=>∃a c w,r = .tuple #[.agg #[e7 nd,.slice a (ep xs e).length c],w,e7 0]/\J=vc 146 (.slice a (ep xs e).length c) (ep xs e)::I):=by
 refine Ce2 Tryz.func141 C C ?_
 refine Aj (Ge1 (Bg (cs:=[_,_]) C C C) λb1=>Ge1 (Bg (cs:=[_,_,_,_,_,_,_]) C C C) λb2=>Ge1 (A9 ty111 C) λb3=>Ga C (Ga C (Ah (Aj (Gl2 ty111 ?_)))))
 refine G.e (Am call214 C C (CheckS_ok (nd:=nd) Bk)) ?_
 rintro _ _ ⟨_,_,⟨rfl,rfl⟩,rfl,rfl⟩
 refine Ga C (Ah (Au (Aj (Gm C (Gr (Bl C C) (Ah (Bd C (λc13=>?_) (λc13=>?_))))))))
 ·refine A0 (Gf fld111_0 C (Gl ef ?_))
  refine Gl7 ty108 ?_
  refine Gc0 (Am call210 C C (FitsE_ok nd e)) ?_
  refine Ga C (Ah (Av (S4 7 4 3 2 C C C C) (Au (Aj (Gm C (Gr (Bx C C) (Ah (Bd C (λc19=>?_) (λc19=>?_)))))))))
  ·exact absurd (fitE_ok.2 hf) c19
  ·refine A4 (Ai (Aj (Gl2 ty111 ?_)))
   refine Gl7 ty108 ?_
   refine G.e (Am call215 C C (StepP_at (by repeat (first|exact AtF.head _ _|apply AtF.tail)) C (checkS_ok hv).2.2 om)) ?_
   rintro _ _ ⟨_,_,⟨⟨ad4,cp5,wv6⟩,rfl,rfl⟩,rfl,rfl⟩
   refine Gm C (Gr (Ax C C) (Gr (Ax C C) (Ge1 (A9 ty111 C) λb7=>Ge0 (Cs ty111) ?_)))
   refine Ga C (Ah (Av (S3 9 8 4 C C C) (Aj (Gf fld111_1 C (Gl ty109 ?_)))))
   refine G.e (Am call216 C C (CloneL (xs:=ep xs e) Bk (by have h:=stepL_len xs e;omega))) ?_
   rintro _ _ ⟨_,_,⟨ad8,cp9,rfl,rfl⟩,rfl,rfl⟩
   refine Gf fld111_1 C (Ge0 (Es2_1 ty109) ?_)
   refine Ah (Aj (Gl2 ty111 ?_))
   refine Gm C (Ge0 (Cs ty111) ?_)
   exact Ga C (Ga C (Ah (Az (V.retc2 C ty111 C C C mm C (vc 146 (.slice ad8 (ep xs e).length cp9) (ep xs e)::I) Bv ⟨ad8,cp9,wv6,rfl,rfl⟩))))
 ·exact absurd hv c13
theorem edgesK_take{xs:List Lk}{k:Nat}(h:k<xs.length):edgesK (xs.take (k+1))=edgesK (xs.take k)++[(⟨(e_ xs k).u,(e_ xs k).v⟩:Pt)]:=by
 unfold edgesK;rw [Di xs k h,List.map_append];rfl
theorem LEdges_ok{nd:Int}{va:Value}{xs:List Lk}(hl:Sl κ I va xs)(hsz:xs.length<=100000):eu prog κ 231 [.agg #[e7 nd,va]] I (λr J=>∃a c,r = .agg #[e7 nd,.slice a (edgesK xs).length c]/\J=vc 135 (.slice a (edgesK xs).length c) (edgesK xs)::I):=by
 refine Cg hl.le λhmax=>?_
 refine Ce1 Tryz.func231 C C ?_
 refine Aj (Ge1 (Bg (cs:=[_,_]) C C C) λb1=>Ge1 (A9 ty48 C) λb2=>Ah (Aj (Gf fld111_0 C (Gl ef ?_))))
 refine Gr (Bc (cells:=[_,_]) ty48 Tryz.underlying48 pl48 C C) (Ge1 (A9 ty48 C) λb3=>Ge0 (Cs ty48) ?_)
 refine Ah (Au (Aj (Gf fld111_1 C (Gl ty109 ?_))))
 refine Gr (Cb (α:=Lk) (xs:=xs) A7 C (Bj hl)) (Gm C (Ah (A6 (Ca (σ:=Nat×(Option Addr)×Nat×(List Pt)) (λs=>([(2,.pointer (some ⟨b2,0,none⟩)),(3,.pointer (some ⟨b3,0,none⟩)),(10,va),(11,e7 ((xs.length:Nat):Int)),(12,e7 ((s.1:Nat):Int))]:Env)) (λs=>vc 135 (.slice s.2.1 s.2.2.2.length s.2.2.1) (s.2.2.2)::e8 b3 [e7 nd,.slice s.2.1 s.2.2.2.length s.2.2.1] 48::e8 b2 [e7 0,.slice none 0 0] 48::e8 b1 [e7 nd,va] 111::I) (λs=>(s.1<=xs.length)/\(s.2.2.2=edgesK (xs.take s.1))) (λs=>xs.length - s.1) (0,none,0,[]) ⟨om,rfl⟩ (Aa C (Aa C (Aa C (Aa C (Aa Cr Bq))))) (B9 _ _) ?_))))
 rintro ⟨k,a,c,out⟩ hp
 dsimp only at hp ⊢
 obtain ⟨hk,ho⟩:=hp
 have hol:out.length=k:=by rw [ho,edgesK_len,List.length_take];omega
 refine Aj (Gr (Bi C C) (Ah (Au (Bd C (λc13=>?_) (λc13=>?_)))))
 ·refine A4 (Ai (Au (A6 (Aj (Gr (A2 (α:=Lk) (xs:=xs) A7 ty146 C C (Bj hl) om om) (Gr (B7 (α:=Lk) (xs:=xs) ty146 C (Bj hl) om om) (Ge1 (A9 ty146 C) λb4=>Ge0 (E6 ty146) ?_)))))))
  refine Ah (A0 (Gf fld48_1 C (Gl ty46 ?_)))
  refine Gf fld146_0 C (Gl ef ?_)
  refine Gf fld146_1 C (Gl ef ?_)
  refine Gr (Bc (cells:=[_,_]) ty135 D1 pl135 C C) (Ge1 (Cj (α:=Pt) (cs:=[_,_]) (xs:=[⟨(e_ xs k).u,(e_ xs k).v⟩]) Bu ty135 C C dc dc C C C C) λad5=>?_)
  refine Ge2 (Cn (α:=Pt) (e:=135) (xs:=out) (ys:=([⟨(e_ xs k).u,(e_ xs k).v⟩]:List Pt)) Bu ty135 C C C mm Bk lcn dc C (λ_ _=>am)) λad6 cp7=>?_
  refine Gf fld48_1 C (Ge0 (Es2_1 ty46) ?_)
  exact Bf (Ak (Ai (Av (S5 2 3 10 11 12 C C C C C) (A0 (Gr (Rad C C) (Gm C (Bf (Ch ((k+1),(ad6),(cp7),(out++([⟨(e_ xs k).u,(e_ xs k).v⟩]:List Pt))) (by dsimp only;exact ⟨om,(by rw [edgesK_take om,←ho])⟩)))))))))
 ·refine Bp (Ac (Ac (Aw (Ai (Aj (Gl2 ty48 ?_))))))
  refine Ge0 (Cs ty48) ?_
  refine Ah (Az ?_)
  have hE:out=edgesK xs:=by rw [ho,List.take_of_length_le om]
  exact Cf C ty48 C mm C (vc 135 (.slice a (edgesK xs).length c) (edgesK xs)::I) (by rw [←hE];exact Bv) ⟨a,c,by rw [←hE]<;>rfl,rfl⟩
theorem LGraph_ok{nd:Int}{va:Value}{xs:List Lk}(hl:Sl κ I va xs)(hv:checkS nd xs=0)(hsz:xs.length<=100000):eu prog κ 167 [.agg #[e7 nd,va]] I (λr J=>∃a c,r = .tuple #[.agg #[e7 nd,.slice a (edgesK xs).length c],e7 0]/\J=vc 135 (.slice a (edgesK xs).length c) (edgesK xs)::I):=by
 refine Ce1 Tryz.func167 C C ?_
 refine Aj (Ge1 (Bg (cs:=[_,_]) C C C) λb1=>Ge1 (A9 ty48 C) λb2=>Ga C (Ah (Au (Aj (Gl2 ty111 ?_)))))
 refine G.e (Am call214 C C (CheckS_ok (nd:=nd) (Bj hl))) ?_
 rintro _ _ ⟨_,_,⟨rfl,rfl⟩,rfl,rfl⟩
 refine Ga C (Ah (Aj (Gm C (Gr (Bx C C) (Ah (Bd C (λc8=>?_) (λc8=>?_)))))))
 ·exact absurd hv c8
 ·refine A4 (Ai (Aj (Gl2 ty111 ?_)))
  refine G.e (Am call231 C C (LEdges_ok (nd:=nd) (Bj hl) om)) ?_
  rintro _ _ ⟨_,_,⟨ad3,cp4,rfl,rfl⟩,rfl,rfl⟩
  refine Ge0 (Cs ty48) ?_
  exact Ga C (Ah (Az (D3 C ty48 C C mm C (vc 135 (.slice ad3 (edgesK xs).length cp4) (edgesK xs)::I) Bv ⟨ad3,cp4,rfl,rfl⟩)))
theorem LateC_ok(x y:Ev):eu prog κ 230 [.agg #[e7 (x.kd),e7 (x.tm),e7 (x.u),e7 (x.v),e7 (x.w),e7 (x.lb),e7 (x.sg)],.agg #[e7 (y.kd),e7 (y.tm),e7 (y.u),e7 (y.v),e7 (y.w),e7 (y.lb),e7 (y.sg)]] I (λr J=>r=e7 (evC x y)/\I=J):=by
 refine Ce2 Tryz.func230 C C ?_
 refine Aj (Ge1 (Bg (cs:=[_,_,_,_,_,_,_]) C C C) λb1=>Ge1 (Bg (cs:=[_,_,_,_,_,_,_]) C C C) λb2=>Ga C (Ah (Aj (Gf fld108_1 C (Gl ef ?_)))))
 refine Gf fld108_1 C (Gl ef ?_)
 refine Gc0 (Am call225 C C (Compare_ok x.tm y.tm)) ?_
 exact Ga C (Ah (Az (Ba C C I Ay ⟨by first|rfl|(unfold evC;repeat (first|rfl|omega|split))|(unfold evC;congr 1;repeat (first|rfl|omega|split)),rfl⟩)))
variable {κ:Ctx}{I:List Item}
theorem InsSortE_ok{a:Option Addr}{c:Nat}{xs:List Ev}(hn:xs.length<=1000):eu prog κ 315 [.slice a xs.length c,e7 0,e7 ((xs.length:Nat):Int),.func (.func 230) #[] #[]] (vc 108 (.slice a xs.length c) (xs)::I) (λr J=>r = .tuple #[]/\J=vc 108 (.slice a xs.length c) (isortG evC xs)::I):=by
 refine Cg (p:=0<xs.length->a≠none) (vc.isSome mm) λhsm=>?_
 refine Ce4 Tryz.func315 C C ?_
 refine Aj (Gm C (Gr (Rad C C) (Ga C (Ah (A6 (Ca (σ:=Nat×(List Ev)) (λs=>([(0,.slice a xs.length c),(1,e7 0),(2,e7 ((xs.length:Nat):Int)),(3,.func (.func 230) #[] #[]),(8,e7 ((s.1:Nat):Int))]:Env)) (λs=>vc 108 (.slice a xs.length c) (s.2)::I) (λs=>(1<=s.1/\(s.1<=xs.length\/s.1=1))/\(s.2=(isortG evC (xs.take s.1))++xs.drop s.1)) (λs=>xs.length - s.1) (1,xs) ⟨om,(by cases xs<;>rfl)⟩ (Aa C (Aa C (Aa C (Aa C (Aa Cr Bq))))) A5 ?_))))))
 rintro ⟨i,ys⟩ hp
 dsimp only at hp ⊢
 obtain ⟨hi,hy⟩:=hp
 have hil:=λh:i<=xs.length=>isort_tlenG evC h
 have hyl:ys.length=xs.length:=by rw [hy,List.length_append,List.length_drop];rcases hi.2 with h|h;(· have:=hil h;omega);(· subst h;cases xs with |nil=>rfl|cons x t=>(have:=hil (by simp);simp at this ⊢; omega))
 refine Au (Aj (Gm C (Gm C (Gr (Bi C C) (Ah (Bd C (λc14=>?_) (λc14=>?_)))))))
 ·refine A4 (Ai (Au (A6 (Aj (Gm C (Ga C (Ah (A6 (Ca (σ:=Nat×(List Ev)) (λs=>([(0,.slice a xs.length c),(1,e7 0),(2,e7 ((xs.length:Nat):Int)),(3,.func (.func 230) #[] #[]),(8,e7 ((i:Int))),(9,e7 ((s.1:Nat):Int))]:Env)) (λs=>vc 108 (.slice a xs.length c) (s.2)::I) (λs=>(s.1<=i)/\(s.2=insG (isortG evC (xs.take i)) s.1 (e_ xs i)++xs.drop (i+1))/\(placeG evC (isortG evC (xs.take i)) (e_ xs i) s.1=placeG evC (isortG evC (xs.take i)) (e_ xs i) i)) (λs=>s.1) (i,ys) ⟨om,(by rw [hy];exact ins_startG om),rfl⟩ (Aa C (Aa C (Aa C (Aa C (Aa C (Aa Cr Bq)))))) A5 ?_)))))))))
  rintro ⟨j,zs⟩ hp
  dsimp only at hp ⊢
  obtain ⟨hj,hzs,hpl⟩:=hp
  have hil2:=hil om
  have hz0:e_ zs j=(e_ xs i):=by rw [hzs];exact at_midG om
  have hz1:0<j->e_ zs ((j:Int) - 1)=e_ (isortG evC (xs.take i)) ((j:Int) - 1):=λh=>by rw [hzs];exact at_prevG h om
  have hzl:zs.length=xs.length:=by rw [hzs,List.length_append,List.length_drop];unfold insG;rw [List.length_append,List.length_cons,List.length_take,List.length_drop];omega
  refine Au (Au (Bt mixed (C7 17 (Dr 0 C (Af C) (Dr 1 C (Af C) (Dr 2 C (Ci C C) (Dr 3 C (Af C) (D4 (d:=21) C (λg21=>?_) (λg21=>?_)))))))))
  ·refine Dro 4 C (Af C) (Dro 5 C (Af C) (Dro 6 C (Af C) (Dro 7 C (A2 (α:=Ev) (xs:=zs) Bh ty108 C C Bk om oo) (Dro 8 C (B7 (α:=Ev) (xs:=zs) ty108 C Bk om oo) (Dro 9 C (Af C) (Dro 10 C (Af C) (Dro 11 C (Rsu C C) (Dro 12 C (A2 (α:=Ev) (xs:=zs) Bh ty108 C C Bk om oo) (Dro 13 C (B7 (α:=Ev) (xs:=zs) ty108 C Bk om oo) (Ds1 14 (Sc0 C (C0 call230 C C C (LateC_ok (e_ zs j) (e_ zs ((j:Int) - 1)))) ?_)))))))))))
   refine Dro 15 C (Bi C C) (Dr 16 C (Ap C C) (Dz (Ai (Av (S7 34 0 1 2 3 8 9 C C C C C C C) (Bd C (λc34=>?_) (λc34=>?_))))))
   ·refine A4 (Ai (Au (A6 (Bt mixed (C9 I 18 (Dr 0 C (Af C) (Dr 1 C (Af C) (Dr 2 C (Af C) (Dr 3 C (Af C) (Dr 4 C (Rsu C C) (Dr 5 C (Af C) (Dr 6 C (Af C) (Dr 7 C (Rsu C C) (Dr 8 C (Runs.idxs Ev Bh ty108 C C (hsm om) om om) (Dr 10 C (Af C) (Dr 11 C (Af C) (Dr 12 C (Runs.idxs Ev Bh ty108 C C (hsm om) om om) (Dv (rs:=[9,13]) kr C C (Ex ?_ (En ?_))))))))))))))))))))
    ·refine Sr C (B7 (α:=Ev) (xs:=zs) ty108 C Bk om oo) A5 ?_
     refine Ds1 13 (Sr C (B7 (α:=Ev) (xs:=zs) ty108 C Bk om oo) A5 ?_)
     refine Dr 14 C (Runs.idxs Ev Bh ty108 C C (hsm om) om om) (Ds1 15 (Se0 C (Cy (α:=Ev) (xs:=zs) (e:=108) (new:=⟨(e_ zs ((j:Int) - 1)).kd,(e_ zs ((j:Int) - 1)).tm,(e_ zs ((j:Int) - 1)).u,(e_ zs ((j:Int) - 1)).v,(e_ zs ((j:Int) - 1)).w,(e_ zs ((j:Int) - 1)).lb,(e_ zs ((j:Int) - 1)).sg⟩) ty108 C C C om oo am) ?_))
     refine Dr 16 C (Runs.idxs Ev Bh ty108 C C (hsm om) om om) (Ds1 17 (Se0 C (Cy (α:=Ev) (xs:=List.set zs ((j:Int)).toNat (⟨(e_ zs ((j:Int) - 1)).kd,(e_ zs ((j:Int) - 1)).tm,(e_ zs ((j:Int) - 1)).u,(e_ zs ((j:Int) - 1)).v,(e_ zs ((j:Int) - 1)).w,(e_ zs ((j:Int) - 1)).lb,(e_ zs ((j:Int) - 1)).sg⟩)) (e:=108) (new:=⟨(e_ zs j).kd,(e_ zs j).tm,(e_ zs j).u,(e_ zs j).v,(e_ zs j).w,(e_ zs j).lb,(e_ zs j).sg⟩) ty108 C C C om oo am) ?_))
     exact Dz (Ak (Ai (Av (S6 0 1 2 3 8 9 C C C C C C) (A0 (Gm C (Gr (Rsu C C) (Ga C (Bf (Ch ((j - 1),(List.set (List.set zs ((j:Int)).toNat (⟨(e_ zs ((j:Int) - 1)).kd,(e_ zs ((j:Int) - 1)).tm,(e_ zs ((j:Int) - 1)).u,(e_ zs ((j:Int) - 1)).v,(e_ zs ((j:Int) - 1)).w,(e_ zs ((j:Int) - 1)).lb,(e_ zs ((j:Int) - 1)).sg⟩)) ((j:Int) - 1).toNat (⟨(e_ zs j).kd,(e_ zs j).tm,(e_ zs j).u,(e_ zs j).v,(e_ zs j).w,(e_ zs j).lb,(e_ zs j).sg⟩))) (by dsimp only;exact ⟨om,(by have hsw:=ins_swapG (l:=(isortG evC (xs.take i))) (r:=xs.drop (i+1)) (x:=(e_ xs i)) (show 0<j by omega) om;rw [←hzs,←hz0,←hz1 om] at hsw;rw [hz0] at hsw ⊢; rw [show (((j:Int)).toNat)=j by omega,show (((j:Int) - 1).toNat)=j - 1 by omega];exact hsw),((place_stepG om (by rw [←hz1 om,←hz0];assumption)).trans hpl)⟩))))))))))
    ·refine Sr C (B7 (α:=Ev) (xs:=zs) ty108 C Bk om oo) A5 ?_
     refine Ds1 9 (Sr C (B7 (α:=Ev) (xs:=zs) ty108 C Bk om oo) A5 ?_)
     refine Dr 14 C (Runs.idxs Ev Bh ty108 C C (hsm om) om om) (Ds1 15 (Se0 C (Cy (α:=Ev) (xs:=zs) (e:=108) (new:=⟨(e_ zs ((j:Int) - 1)).kd,(e_ zs ((j:Int) - 1)).tm,(e_ zs ((j:Int) - 1)).u,(e_ zs ((j:Int) - 1)).v,(e_ zs ((j:Int) - 1)).w,(e_ zs ((j:Int) - 1)).lb,(e_ zs ((j:Int) - 1)).sg⟩) ty108 C C C om oo am) ?_))
     refine Dr 16 C (Runs.idxs Ev Bh ty108 C C (hsm om) om om) (Ds1 17 (Se0 C (Cy (α:=Ev) (xs:=List.set zs ((j:Int)).toNat (⟨(e_ zs ((j:Int) - 1)).kd,(e_ zs ((j:Int) - 1)).tm,(e_ zs ((j:Int) - 1)).u,(e_ zs ((j:Int) - 1)).v,(e_ zs ((j:Int) - 1)).w,(e_ zs ((j:Int) - 1)).lb,(e_ zs ((j:Int) - 1)).sg⟩)) (e:=108) (new:=⟨(e_ zs j).kd,(e_ zs j).tm,(e_ zs j).u,(e_ zs j).v,(e_ zs j).w,(e_ zs j).lb,(e_ zs j).sg⟩) ty108 C C C om oo am) ?_))
     exact Dz (Ak (Ai (Av (S6 0 1 2 3 8 9 C C C C C C) (A0 (Gm C (Gr (Rsu C C) (Ga C (Bf (Ch ((j - 1),(List.set (List.set zs ((j:Int)).toNat (⟨(e_ zs ((j:Int) - 1)).kd,(e_ zs ((j:Int) - 1)).tm,(e_ zs ((j:Int) - 1)).u,(e_ zs ((j:Int) - 1)).v,(e_ zs ((j:Int) - 1)).w,(e_ zs ((j:Int) - 1)).lb,(e_ zs ((j:Int) - 1)).sg⟩)) ((j:Int) - 1).toNat (⟨(e_ zs j).kd,(e_ zs j).tm,(e_ zs j).u,(e_ zs j).v,(e_ zs j).w,(e_ zs j).lb,(e_ zs j).sg⟩))) (by dsimp only;exact ⟨om,(by have hsw:=ins_swapG (l:=(isortG evC (xs.take i))) (r:=xs.drop (i+1)) (x:=(e_ xs i)) (show 0<j by omega) om;rw [←hzs,←hz0,←hz1 om] at hsw;rw [hz0] at hsw ⊢; rw [show (((j:Int)).toNat)=j by omega,show (((j:Int) - 1).toNat)=j - 1 by omega];exact hsw),((place_stepG om (by rw [←hz1 om,←hz0];assumption)).trans hpl)⟩))))))))))
   ·exact Bp (Ac (Ac (Aw (Ak (Ai (A0 (Gm C (Gr (Rad C C) (Ga C (Bf (Ch ((i+1),(zs)) (by dsimp only;exact ⟨om,(by rw [hzs];exact ins_endsG om hpl (by first|exact .inl om|(by_cases h0:j=0;(· exact .inl h0);(· exact .inr ⟨by omega,by rw [←hz0,←hz1 om];assumption⟩))))⟩))))))))))))
  ·exact Dpo 4 C (Dpo 5 C (Dpo 6 C (Dpo 7 C (Dpo 8 C (Dpo 9 C (Dpo 10 C (Dpo 11 C (Dpo 12 C (Dpo 13 C (Dpo 14 C (Dpo 15 C (Dr 16 C (Al C C) (Dz (Ai (Av (S7 34 0 1 2 3 8 9 C C C C C C C) (Eo C (Bp (Ac (Ac (Aw (Ak (Ai (A0 (Gm C (Gr (Rad C C) (Ga C (Bf (Ch ((i+1),(zs)) (by dsimp only;exact ⟨om,(by rw [hzs];exact ins_endsG om hpl (by first|exact .inl om|(by_cases h0:j=0;(· exact .inl h0);(· exact .inr ⟨by omega,by rw [←hz0,←hz1 om];assumption⟩))))⟩)))))))))))))))))))))))))))))
 ·refine Bp (Ac (Ac (Aw ?_)))
  have hE:ys=isortG evC xs:=by rw [hy];rcases hi.2 with h|h;(· have e:i=xs.length:=om;rw [e,List.take_length,List.drop_length,List.append_nil]);(· rw [List.take_of_length_le om,List.drop_eq_nil_of_le om,List.append_nil])
  exact V.end0 C (vc 108 (.slice a xs.length c) (isortG evC xs)::I) (by rw [hE];exact A5) ⟨rfl,rfl⟩
theorem StableE_ok{a:Option Addr}{c:Nat}{xs:List Ev}(hn:xs.length<=19):eu prog κ 280 [.slice a xs.length c,e7 ((xs.length:Nat):Int),.func (.func 230) #[] #[]] (vc 108 (.slice a xs.length c) (xs)::I) (λr J=>r = .tuple #[]/\J=vc 108 (.slice a xs.length c) (isortG evC xs)::I):=by
 refine Ce3 Tryz.func280 C C ?_
 refine Aj (Ga C (Ah (Aj (Gm C (Ga C (Ga C (Ah (Au (A6 (Ca (σ:=Nat) (λs=>([(0,.slice a xs.length c),(1,e7 ((xs.length:Nat):Int)),(2,.func (.func 230) #[] #[]),(6,e7 20),(7,e7 0),(8,e7 20)]:Env)) (λs=>vc 108 (.slice a xs.length c) (xs)::I) (λs=>True) (λs=>0) 0 (show True from trivial) (Aa C (Aa C (Aa C (Aa C (Aa C (Aa C Bq)))))) A5 ?_))))))))))
 rintro z hp
 refine Au (Aj (Gm C (Gm C (Gr (Ei C C) (Ah (Bd C (λc13=>?_) (λc13=>?_)))))))
 ·omega
 ·refine Bp (Ac (Ac (Aw (Ai (Aj (Gm C (Gm C (Gm C (Gm C (Gc1 (Am call315 C C (C1 (J:=vc 108 (.slice a xs.length c) (xs)::I) Bv (InsSortE_ok (xs:=xs) om))) ?_))))))))))
  refine Ah (Av (S4 0 1 2 6 C C C C) (A6 (Ca (σ:=Nat) (λs=>([(0,.slice a xs.length c),(1,e7 ((xs.length:Nat):Int)),(2,.func (.func 230) #[] #[]),(6,e7 20)]:Env)) (λs=>vc 108 (.slice a xs.length c) (isortG evC xs)::I) (λs=>True) (λs=>0) 0 (show True from trivial) (Aa C (Aa C (Aa C (Aa C Bq)))) A5 ?_)))
  rintro z hp
  refine Au (Aj (Gm C (Gm C (Gr (Bi C C) (Ah (Bd C (λc30=>?_) (λc30=>?_)))))))
  ·omega
  ·exact Bp (Ac (Ac (Aw (V.end0 C (vc 108 (.slice a xs.length c) (isortG evC xs)::I) A5 ⟨rfl,rfl⟩))))
theorem SortStableE_ok{a:Option Addr}{c:Nat}{xs:List Ev}(hn:xs.length<=19):eu prog κ 229 [.slice a xs.length c,.func (.func 230) #[] #[]] (vc 108 (.slice a xs.length c) (xs)::I) (λr J=>r = .tuple #[]/\J=vc 108 (.slice a xs.length c) (isortG evC xs)::I):=by
 refine Ce2 Tryz.func229 C C ?_
 refine A0 (Gm C (Gm C (Gr (Bz Bh C) (Gm C (Gc1 (Am call280 C C (C1 (J:=vc 108 (.slice a xs.length c) (xs)::I) Bv (StableE_ok (xs:=xs) om))) ?_)))))
 exact Bf (V.end0 C (vc 108 (.slice a xs.length c) (isortG evC xs)::I) A5 ⟨rfl,rfl⟩)
theorem late_yes{kd wd:Int}{xs:List Lk}{k:Nat}(h:k<xs.length)(h1:kd=2)(h2:(e_ xs k).tm+wd<=1048576):lateL kd wd (xs.take (k+1))=lateL kd wd (xs.take k)++[cutAt wd (e_ xs k)]:=by
 rw [lateL_take h,if_pos (show lateP kd wd (e_ xs k)=true from decide_eq_true ⟨h1,h2⟩)]
theorem late_no{kd wd:Int}{xs:List Lk}{k:Nat}(h:k<xs.length)(h1:¬kd=2\/¬(e_ xs k).tm+wd<=1048576):lateL kd wd (xs.take (k+1))=lateL kd wd (xs.take k):=by
 rw [lateL_take h,if_neg (λh=>by have h3:=of_decide_eq_true h;rcases h1 with h1|h1<;>omega),List.append_nil]
theorem Late_ok{nd kd wd mo:Int}{va:Value}{xs:List Lk}(hl:Sl κ I va xs)(hv:checkS nd xs=0)(hw:0<=wd/\wd<=1048576)(hsz:xs.length<=19):eu prog κ 166 [.agg #[e7 nd,va],.agg #[e7 kd,e7 wd,e7 mo]] I (λr J=>∃a c,r = .slice a (isortG evC (lateL kd wd xs)).length c/\J=vc 108 (.slice a (isortG evC (lateL kd wd xs)).length c) (isortG evC (lateL kd wd xs))::I):=by
 refine Cg hl.le λhmax=>?_
 refine Ce2 Tryz.func166 C C ?_
 refine Aj (Ge1 (Bg (cs:=[_,_]) C C C) λb1=>Ge1 (Bg (cs:=[_,_,_]) C C C) λb2=>Ga C (Ah (Aj (Ga C (Ah (Au (Aj (Gf fld111_1 C (Gl ty109 ?_)))))))))
 refine Gr (Cb (α:=Lk) (xs:=xs) A7 C (Bj hl)) (Gm C (Ah (A6 (Ca (σ:=Nat×(Option Addr)×Nat×(List Ev)) (λs=>([(3,.pointer (some ⟨b2,0,none⟩)),(5,.slice s.2.1 s.2.2.2.length s.2.2.1),(10,va),(11,e7 ((xs.length:Nat):Int)),(12,e7 ((s.1:Nat):Int))]:Env)) (λs=>vc 108 (.slice s.2.1 s.2.2.2.length s.2.2.1) (s.2.2.2)::e8 b2 [e7 kd,e7 wd,e7 mo] 31::e8 b1 [e7 nd,va] 111::I) (λs=>(s.1<=xs.length)/\(s.2.2.2=lateL kd wd (xs.take s.1))) (λs=>xs.length - s.1) (0,none,0,[]) ⟨om,rfl⟩ (Aa C (Aa (Da C (by first|rfl|simp)) (Aa C (Aa C (Aa Cr Bq))))) (B9 _ _) ?_))))
 rintro ⟨k,a,c,out⟩ hp
 dsimp only at hp ⊢
 obtain ⟨hk,ho⟩:=hp
 have hol:out.length<=k:=by rw [ho];have h1:=lateL_len kd wd (xs.take k);rw [List.length_take] at h1;omega
 refine Aj (Gr (Bi C C) (Ah (Au (Bd C (λc13=>?_) (λc13=>?_)))))
 ·refine A4 (Ai (Au (A6 (Aj (Gr (A2 (α:=Lk) (xs:=xs) A7 ty146 C C (Bj hl) om om) (Gr (B7 (α:=Lk) (xs:=xs) ty146 C (Bj hl) om om) (Ge1 (A9 ty146 C) λb3=>Ge0 (E6 ty146) ?_)))))))
  have htk:=checkS_tm hv (k:Int) om om
  refine Ah (Aj (Gf fld146_5 C (Gl ef ?_)))
  refine Gf fld31_1 C (Gl ef ?_)
  refine Gr (Rad C C) (Ga C (Ah (Av (S7 8 7 3 5 10 11 12 C C C C C C C) (Aj (Gf fld31_0 C (Gl ef ?_))))))
  refine Gr (Bl C C) (Gm C (Bs (d:=24) C (λg24=>?_) (λg24=>?_)))
  ·refine e9 (Af C) (e9 (Ei C C) (Gr (Ap C C) (Ah (Av (S8 27 8 7 3 5 10 11 12 C C C C C C C C) (Bd C (λc27=>?_) (λc27=>?_))))))
   ·refine A0 (Gm C (Gm C (Gf fld146_0 C (Gl ef ?_))))
    refine Gf fld146_1 C (Gl ef ?_)
    refine Gr (Bc (cells:=[_,_,_,_,_,_,_]) ty108 Ee pl108 C C) (Ge1 (Cj (α:=Ev) (cs:=[e7 2,e7 (((e_ xs k).tm)+wd),e7 ((e_ xs k).u),e7 ((e_ xs k).v),e7 0,e7 0,e7 0]) (xs:=[⟨2,((e_ xs k).tm)+wd,(e_ xs k).u,(e_ xs k).v,0,0,0⟩]) Bh ty108 C C dc dc C kr C C) λad4=>?_)
    refine Ge2 (Cn (α:=Ev) (e:=108) (xs:=out) (ys:=([⟨2,((e_ xs k).tm)+wd,(e_ xs k).u,(e_ xs k).v,0,0,0⟩]:List Ev)) Bh ty108 C C C mm Bk lcn dc C (λ_ _=>am)) λad5 cp6=>?_
    exact Ga C (Bf (Ak (Ai (Av (S5 5 3 10 11 12 C C C C C) (A0 (Gr (Rad C C) (Gm C (Bf (Ch ((k+1),(ad5),(cp6),(out++([⟨2,((e_ xs k).tm)+wd,(e_ xs k).u,(e_ xs k).v,0,0,0⟩]:List Ev))) (by dsimp only;exact ⟨om,(by first|(rw [late_yes om g24 asm,←ho];rfl)|(rw [late_no om (.inl g24),←ho])|(rw [late_no om (.inr asm),←ho]))⟩))))))))))
   ·exact A4 (Ak (Ai (A0 (Gr (Rad C C) (Gm C (Bf (Ch ((k+1),(a),(c),(out)) (by dsimp only;exact ⟨om,(by first|(rw [late_yes om g24 asm,←ho];rfl)|(rw [late_no om (.inl g24),←ho])|(rw [late_no om (.inr asm),←ho]))⟩))))))))
  ·exact eb (eb (Gr (Al C C) (Ah (Av (S8 27 8 7 3 5 10 11 12 C C C C C C C C) (Eo C (A4 (Ak (Ai (A0 (Gr (Rad C C) (Gm C (Bf (Ch ((k+1),(a),(c),(out)) (by dsimp only;exact ⟨om,(by first|(rw [late_yes om g24 asm,←ho];rfl)|(rw [late_no om (.inl g24),←ho])|(rw [late_no om (.inr asm),←ho]))⟩))))))))))))))
 ·refine Bp (Ac (Ac (Aw (Ai (Aj (Gm C (Gc1 (Am call229 C C (C1 (J:=vc 108 (.slice a out.length c) (out)::e8 b2 [e7 kd,e7 wd,e7 mo] 31::e8 b1 [e7 nd,va] 111::I) Bv (SortStableE_ok (xs:=out) om))) ?_)))))))
  refine Ah (Aj (Gm C (Ga C (Ah (Az ?_)))))
  have hE:out=lateL kd wd xs:=by rw [ho,List.take_of_length_le om]
  have hEl:(isortG evC out).length=out.length:=(Fa evC out).length_eq
  exact Ba C C (vc 108 (.slice a (isortG evC (lateL kd wd xs)).length c) (isortG evC (lateL kd wd xs))::I) (by rw [←hE,hEl];exact Bv) ⟨a,c,by rw [←hE,hEl],rfl⟩
end Go.Sl
/- Searching what is left of a network: the plain law of the search by layers. No Go. -/
namespace Go.Sl
section
variable (n:Net)(f out:List Int)
def un:Nat:=out.count (-1)
end
section
variable {n:Net}{f out todo:List Int}{x:Int}{k1 k2:Nat}
theorem un_set{y i:Int}(hy:0<=y/\y<out.length)(h:e_ out y = -1)(hi:i ≠ -1):un (out.set y.toNat i)+1=un out:=by
 unfold un
 have hl:y.toNat<out.length:=by omega
 have hg:out[y.toNat] = -1:=by rw [at_eq hy.1 hy.2] at h;exact h
 rw [List.count_set hl]
 have hpos:0<out.count (-1):=List.count_pos_iff.2 (hg▸List.getElem_mem hl)
 have e1:(out[y.toNat]==(-1:Int))=true:=by simp [hg]
 have e2:(i==(-1:Int))=false:=by simpa using hi
 rw [e1,e2]
 simp only [if_true,Bool.false_eq_true,if_false]
 omega
end
end Go.Sl
/- Flows and cuts: the plain law. No Go. -/
namespace Go.Sl
def netF(n:Net)(f:List Int)(v:Int):Int:=
 sumN n.arcs.length λk=>(if (e_ n.arcs k).frm=v then e_ f k else 0) - (if (e_ n.arcs k).dst=v then e_ f k else 0)
structure IsFlow (n:Net) (f:List Int):Prop where
 len:f.length=n.arcs.length
 cap:∀k:Nat,k<n.arcs.length->0<=e_ f k/\e_ f k<=(e_ n.arcs k).cap
 cons:∀v,0<=v->v<n.nodes->v≠n.source->v≠n.sink->netF n f v=0
def cutS(n:Net)(S:Int->Bool):Int:=sumN n.arcs.length λk=>if S (e_ n.arcs k).frm && !S (e_ n.arcs k).dst then (e_ n.arcs k).cap else 0
theorem arc_at{n:Net}(hok:n.Ok){k:Nat}(hk:k<n.arcs.length):(0<=(e_ n.arcs k).frm/\(e_ n.arcs k).frm<n.nodes)/\(0<=(e_ n.arcs k).dst/\(e_ n.arcs k).dst<n.nodes)/\(e_ n.arcs k).frm≠(e_ n.arcs k).dst/\0<=(e_ n.arcs k).cap/\(e_ n.arcs k).cap<=1099511627776:=
 hok.arc _ (Cq om om)
theorem sumN_ind{m:Nat}{v:Int}(h0:0<=v)(h1:v<m)(S:Int->Bool)(c:Int):sumN m (λj=>if S (j:Int) then (if v=(j:Int) then c else 0) else 0)=if S v then c else 0:=by
 have e:v=((v.toNat:Nat):Int):=by omega
 rw [Dg m (h:=λj=>if j=v.toNat then (if S v then c else 0) else 0) λj hj=>?_]
 ·exact sumN_at om _
 ·by_cases hj:j=v.toNat
  ·subst hj;rw [if_pos rfl,←e,if_pos rfl]
  ·rw [if_neg hj,if_neg (show ¬v=(j:Int) by omega)];split<;>rfl
theorem value_cut{n:Net}(hok:n.Ok){f:List Int}(hf:IsFlow n f)(S:Int->Bool)(hs:S n.source=true)(ht:S n.sink=false) :
  netF n f n.source=sumN n.arcs.length λk=>(if S (e_ n.arcs k).frm && !S (e_ n.arcs k).dst then e_ f k else 0) - (if S (e_ n.arcs k).dst && !S (e_ n.arcs k).frm then e_ f k else 0):=by
 have hsrc:=hok.src
 -- the sum of what goes out of the nodes of S
 have h1:sumN n.nodes.toNat (λv=>if S (v:Int) then netF n f (v:Int) else 0)=netF n f n.source:=by
  rw [Dg n.nodes.toNat (h:=λj=>if j=n.source.toNat then netF n f n.source else 0) λj hj=>?_]
  ·exact sumN_at om _
  ·by_cases hj':j=n.source.toNat
   ·subst hj'
    rw [if_pos rfl,show ((n.source.toNat:Nat):Int)=n.source from by omega,hs];simp
   ·rw [if_neg hj']
    by_cases hS:S (j:Int)=true
    ·rw [if_pos hS]
     refine hf.cons _ om om (λe=>hj' om) λe=>?_
     rw [e,ht] at hS;cases hS
    ·rw [if_neg hS]
 rw [←h1]
 have h2:sumN n.nodes.toNat (λv=>if S (v:Int) then netF n f (v:Int) else 0) =
   sumN n.nodes.toNat (λv=>sumN n.arcs.length λk=>(if S (v:Int) then (if (e_ n.arcs k).frm=(v:Int) then e_ f k else 0) else 0) - (if S (v:Int) then (if (e_ n.arcs k).dst=(v:Int) then e_ f k else 0) else 0)):=
  Dg _ λv _=>by
   by_cases hS:S (v:Int)=true
   ·rw [if_pos hS];unfold netF
    exact Dg _ λk _=>by rw [if_pos hS,if_pos hS]
   ·rw [if_neg hS]
    exact (Fm _ λk _=>by rw [if_neg hS,if_neg hS];rfl).symm
 rw [h2,sumN_swap]
 refine Dg _ λk hk=>?_
 have ha:=arc_at hok hk
 rw [sumN_sub,sumN_ind ha.1.1 om,sumN_ind ha.2.1.1 om]
 cases S (e_ n.arcs k).frm<;>cases S (e_ n.arcs k).dst<;>simp
theorem value_le{n:Net}(hok:n.Ok){f:List Int}(hf:IsFlow n f)(S:Int->Bool)(hs:S n.source=true)(ht:S n.sink=false):netF n f n.source<=cutS n S:=by
 rw [value_cut hok hf S hs ht]
 refine sumN_le _ λk hk=>?_
 have hc:=hf.cap k hk
 cases S (e_ n.arcs k).frm<;>cases S (e_ n.arcs k).dst<;>simp<;>omega
def Shut(n:Net)(f:List Int)(S:Int->Bool):Prop:=∀k:Nat,k<n.arcs.length->
 (S (e_ n.arcs k).frm=true->e_ f k<(e_ n.arcs k).cap->S (e_ n.arcs k).dst=true)/\
 (S (e_ n.arcs k).dst=true->0<e_ f k->S (e_ n.arcs k).frm=true)
theorem shut_value{n:Net}(hok:n.Ok){f:List Int}(hf:IsFlow n f){S:Int->Bool}(hs:S n.source=true)(ht:S n.sink=false):netF n f n.source=cutS n S↔Shut n f S:=by
 rw [value_cut hok hf S hs ht]
 have hle:∀k,k<n.arcs.length->((if S (e_ n.arcs k).frm && !S (e_ n.arcs k).dst then e_ f k else 0) - (if S (e_ n.arcs k).dst && !S (e_ n.arcs k).frm then e_ f k else 0))<=(if S (e_ n.arcs k).frm && !S (e_ n.arcs k).dst then (e_ n.arcs k).cap else 0):=λk hk=>by
  have hc:=hf.cap k hk
  cases S (e_ n.arcs k).frm<;>cases S (e_ n.arcs k).dst<;>simp<;>omega
 constructor
 ·intro h k hk
  have:=sumN_eq_terms _ hle h k hk
  have hc:=hf.cap k hk
  revert this
  cases h1:S (e_ n.arcs k).frm<;>cases h2:S (e_ n.arcs k).dst<;>simp<;>omega
 ·intro h
  refine Dg _ λk hk=>?_
  have hc:=hf.cap k hk
  have:=h k hk
  revert this
  cases h1:S (e_ n.arcs k).frm<;>cases h2:S (e_ n.arcs k).dst<;>simp<;>omega
end Go.Sl
/- Sending along a way: the plain law. No Go. -/
namespace Go.Sl
section
variable {n:Net}{f out:List Int}{rk:Int->Nat}
theorem netF_set{k:Nat}(hk:k<n.arcs.length){f1:List Int}(hl:f1.length=n.arcs.length)(c v:Int) :
  netF n (f1.set k c) v=netF n f1 v+(if (e_ n.arcs k).frm=v then c - e_ f1 k else 0) - (if (e_ n.arcs k).dst=v then c - e_ f1 k else 0):=by
 have hat:∀j:Nat,e_ (f1.set k c) j=if k=j then c else e_ f1 j:=λj=>at_setn f1 k j c om
 unfold netF
 rw [sumN_upd hk (g:=λk=>(if (e_ n.arcs k).frm=v then e_ f1 k else 0) - (if (e_ n.arcs k).dst=v then e_ f1 k else 0)) (λj hj hjk=>by simp only [hat j,if_neg (λe=>hjk e.symm:¬k=j)])]
 simp only [hat k,if_true]
 split<;>split<;>omega
theorem at_all{p:Int->Prop}{i:Int}{m:Nat}(h:∀k:Nat,k<m->p (k:Int))(h0:0<=i)(hi:i<m):p i:=by
 have:=h i.toNat om
 rwa [show ((i.toNat:Nat):Int)=i from by omega] at this
theorem arc_ok(hok:n.Ok){i:Int}(h0:0<=i)(hi:i<n.arcs.length):(0<=(e_ n.arcs i).frm/\(e_ n.arcs i).frm<n.nodes)/\(0<=(e_ n.arcs i).dst/\(e_ n.arcs i).dst<n.nodes)/\(e_ n.arcs i).frm≠(e_ n.arcs i).dst/\0<=(e_ n.arcs i).cap/\(e_ n.arcs i).cap<=1099511627776:=hok.arc _ (Cq h0 hi)
theorem cap_ok(hf:∀k:Nat,k<n.arcs.length->0<=e_ f k/\e_ f k<=(e_ n.arcs k).cap){i:Int}(h0:0<=i)(hi:i<n.arcs.length):0<=e_ f i/\e_ f i<=(e_ n.arcs i).cap:=at_all (p:=λi=>0<=e_ f i/\e_ f i<=(e_ n.arcs i).cap) hf h0 hi
end
end Go.Sl
/- The least and the greatest side of a cut: the plain law. No Go. -/
namespace Go.Sl
def sideL(N:Nat)(R:Int->Bool):List Int:=((List.range N).map λk=>((k:Nat):Int)).filter R
theorem sideL_succ(N:Nat)(R:Int->Bool):sideL (N+1) R=sideL N R++if R (N:Int) then [(N:Int)] else []:=by
 unfold sideL
 rw [List.range_succ,List.map_append,List.filter_append]
 congr 1
 by_cases h:R (N:Int)<;>simp [h]
theorem sideL_yes{N:Nat}{R:Int->Bool}(h:R (N:Int)=true):sideL (N+1) R=sideL N R++[(N:Int)]:=by rw [sideL_succ,if_pos h]
theorem sideL_no{N:Nat}{R:Int->Bool}(h:R (N:Int)=false):sideL (N+1) R=sideL N R:=by rw [sideL_succ,h];simp
theorem sideL_len(N:Nat)(R:Int->Bool):(sideL N R).length<=N:=by
 have:=List.length_filter_le R ((List.range N).map λk=>((k:Nat):Int))
 simpa [sideL] using this
structure Great (n:Net) (f:List Int) (T:Int->Bool):Prop where
 src:T n.source=true
 snk:T n.sink=false
 shut:Shut n f T
 great:∀S:Int->Bool,Shut n f S->S n.sink=false->∀z,0<=z->z<n.nodes->S z=true->T z=true
section
variable {n:Net}{f g:List Int}{R R':Int->Bool}
theorem Great.value(hok:n.Ok)(hf:IsFlow n f)(h:Great n f R):netF n f n.source=cutS n R:=(shut_value hok hf h.src h.snk).2 h.shut
end
theorem cut_nonneg_le{n:Net}(hok:n.Ok)(S:Int->Bool):0<=cutS n S/\cutS n S<=18014398509481984:=by
 have h:∀m:Nat,m<=n.arcs.length->0<=sumN m (λk=>if S (e_ n.arcs k).frm && !S (e_ n.arcs k).dst then (e_ n.arcs k).cap else 0)/\sumN m (λk=>if S (e_ n.arcs k).frm && !S (e_ n.arcs k).dst then (e_ n.arcs k).cap else 0)<=(m:Int)*1099511627776:=λm=>by
  induction m with
  |zero=>intro _;simp [sumN]
  |succ m ih=>
   intro hm
   have:=ih om
   have:=arc_at hok (k:=m) om
   simp only [sumN]
   split<;>omega
 have:=h n.arcs.length (Nat.le_refl _)
 have:=hok.lim
 unfold cutS
 omega
theorem flow_zero(n:Net)(hok:n.Ok):IsFlow n (replicate n.arcs.length (0:Int))/\netF n (replicate n.arcs.length (0:Int)) n.source=0:=by
 have h0:∀k:Nat,k<n.arcs.length->e_ (replicate n.arcs.length (0:Int)) (k:Int)=0:=λk hk=>at_rep _ _ _ om om
 have hn:∀v,netF n (replicate n.arcs.length (0:Int)) v=0:=λv=>Fm _ λk hk=>by rw [h0 k hk];simp
 exact ⟨⟨by simp,λk hk=>by rw [h0 k hk];have:=arc_at hok hk;omega,λv _ _ _ _=>hn v⟩,hn _⟩
end Go.Sl
/- Searching back from the sink: the plain law. No Go. -/
namespace Go.Sl
end Go.Sl
/- What a check of a flow accepts: the plain law. No Go. -/
namespace Go.Sl
end Go.Sl
/- Networks with one arc more, and turned round; sets between the least and the greatest side: the plain law. No Go. -/
namespace Go.Sl
end Go.Sl
namespace Go.Sl
open Go.Proofs
set_option maxRecDepth 4000
theorem intLin:LinO (λa b:Int=>a<b):=⟨λa h=>by omega,λa b c h1 h2=>by omega,λa b=>by omega⟩
theorem putL_eq(x:Int):∀l,putL l x=insB (λa b:Int=>a<b) l x
 |[]=>rfl
 |y::ys=>by simp only [putL,insB,putL_eq x ys]
theorem ofL_eq(l:List Int):ofL l=sortB (λa b:Int=>a<b) l:=by
 unfold ofL sortB
 congr 1
 funext acc x
 exact putL_eq x acc
theorem ofL_asc(l:List Int):(ofL l).Pairwise (λa b:Int=>a<b):=by rw [ofL_eq];exact intLin.sortB l
theorem ValidP_iff{l:List Int}{N:Int}:ValidP l N↔(∀x∈l,0<=x/\x<N)/\l.Pairwise (λa b:Int=>a<b):=by
 constructor
 ·intro h
  refine ⟨λx hx=>ValidP_mem h hx,pairwise_next intLin.tr λi hi=>?_⟩
  have:=(h (i+1) hi).2 om
  rwa [show ((i+1:Nat):Int) - 1=(i:Int) from by omega] at this
 ·rintro ⟨h1,h2⟩ j hj
  refine ⟨h1 _ (Cq om om),λh0=>?_⟩
  have:=(pairwise_at l).1 h2 (j - 1) j om hj
  rwa [show ((j - 1:Nat):Int)=(j:Int) - 1 from by omega] at this
end Go.Sl
/- Cuts of graphs: how many edges a set separates; least cuts; which nodes few edges cannot separate. No Go. No conditions. -/
namespace Go.Sl
theorem sumN_list{α:Type}[Inhabited α](g:α->Int)(l:List α):sumN l.length (λk=>g (e_ l k))=(l.map g).sum:=by
 have key:∀m,m<=l.length->sumN m (λk=>g (e_ l k))=((l.take m).map g).sum:=λm=>by
  induction m with
  |zero=>intro _;simp [sumN]
  |succ m ih=>
   intro hm
   rw [Di l m om,List.map_append,List.sum_append,←ih om]
   simp [sumN]
 have:=key l.length (Nat.le_refl _)
 rwa [List.take_length] at this
end Go.Sl
/- The greatest set for which the edges inside, less a price for each node, are most, by a least cut. The plain law. No Go. No conditions. -/
namespace Go.Sl
def nodeArcs(N:Int)(v:Nat):List Arc:=[⟨0,2+(v:Int),0⟩,⟨2+(v:Int),1,N⟩]
def edgeArcs(nd D:Int)(es:List Pt)(i:Nat):List Arc:=[⟨0,2+nd+(i:Int),D⟩,⟨2+nd+(i:Int),2+(e_ es i).u,D⟩,⟨2+nd+(i:Int),2+(e_ es i).v,D⟩]
def denseArcs(nd N D:Int)(es:List Pt):List Arc:=(List.range nd.toNat).flatMap (nodeArcs N)++(List.range es.length).flatMap (edgeArcs nd D es)
def denseNet(nd N D:Int)(es:List Pt):Net:=⟨2+nd+(es.length:Int),0,1,denseArcs nd N D es⟩
theorem flat_len{α:Type}(f:Nat->List α)(c:Nat)(h:∀i,(f i).length=c)(n:Nat):((List.range n).flatMap f).length=n*c:=by
 induction n with
 |zero=>simp
 |succ n ih=>rw [List.range_succ,List.flatMap_append,List.length_append,ih,Nat.succ_mul];simp [h]
theorem denseArcs_len(nd N D:Int)(es:List Pt):(denseArcs nd N D es).length=nd.toNat*2+es.length*3:=by
 unfold denseArcs
 rw [List.length_append,flat_len _ 2 (λ_=>rfl),flat_len _ 3 (λ_=>rfl)]
theorem mem_denseArcs{nd N D:Int}{es:List Pt}{a:Arc}:a∈denseArcs nd N D es↔(∃v:Nat,(v:Int)<nd/\a∈nodeArcs N v)\/∃i:Nat,i<es.length/\a∈edgeArcs nd D es i:=by
 unfold denseArcs
 rw [List.mem_append,List.mem_flatMap,List.mem_flatMap]
 constructor
 ·rintro (⟨v,h1,h2⟩|⟨i,h1,h2⟩)
  ·exact .inl ⟨v,by have:=List.mem_range.1 h1;omega,h2⟩
  ·exact .inr ⟨i,List.mem_range.1 h1,h2⟩
 ·rintro (⟨v,h1,h2⟩|⟨i,h1,h2⟩)
  ·exact .inl ⟨v,List.mem_range.2 om,h2⟩
  ·exact .inr ⟨i,List.mem_range.2 h1,h2⟩
theorem denseNet_ok{nd N D:Int}{es:List Pt}(hG:GrOk nd es)(hm:es.length<=2016)(hN:0<=N/\N<=1099511627776)(hD:0<=D/\D<=1099511627776):(denseNet nd N D es).Ok:=by
 have hr:=hG.rng
 have hl:=denseArcs_len nd N D es
 refine ⟨⟨by show 2+nd+(es.length:Int)<=4200;omega,by show (denseArcs nd N D es).length<=16384;omega⟩,by show 2<=2+nd+(es.length:Int);omega,⟨Int.le_refl _,by show (0:Int)<2+nd+(es.length:Int);omega⟩,⟨by show (0:Int)<=1;decide,by show (1:Int)<2+nd+(es.length:Int);omega⟩,by show (0:Int)≠1;decide,λa ha=>?_⟩
 show (0<=a.frm/\a.frm<2+nd+(es.length:Int))/\(0<=a.dst/\a.dst<2+nd+(es.length:Int))/\a.frm≠a.dst/\0<=a.cap/\a.cap<=1099511627776
 rcases mem_denseArcs.1 ha with ⟨v,hv,h⟩|⟨i,hi,h⟩
 ·simp only [nodeArcs,List.mem_cons,List.not_mem_nil,or_false] at h
  rcases h with rfl|rfl<;>simp only<;>omega
 ·have he:=hG.edge _ (Cq (xs:=es) (i:=(i:Int)) om om)
  simp only [edgeArcs,List.mem_cons,List.not_mem_nil,or_false] at h
  rcases h with rfl|rfl|rfl<;>simp only<;>omega
def costW(nd N D:Int)(es:List Pt)(W:Int->Bool):Int:=sumN nd.toNat (λv=>if W (v:Int) then N else 0)+sumN es.length λi=>if W (e_ es i).u&&W (e_ es i).v then 0 else D
def cutA(S:Int->Bool)(a:Arc):Int:=if S a.frm && !S a.dst then a.cap else 0
theorem sum_flat{α:Type}(φ:α->Int)(f:Nat->List α)(n:Nat):(((List.range n).flatMap f).map φ).sum=sumN n λi=>((f i).map φ).sum:=by
 induction n with
 |zero=>rfl
 |succ n ih=>rw [List.range_succ,List.flatMap_append,List.map_append,List.sum_append,ih];simp [sumN]
theorem cut_dense(nd N D:Int)(es:List Pt)(S:Int->Bool)(h0:S 0=true)(h1:S 1=false):cutS (denseNet nd N D es) S =
  sumN nd.toNat (λv=>if S (2+(v:Int)) then N else 0)+sumN es.length λi=>(if S (2+nd+(i:Int)) then (if S (2+(e_ es i).u) then 0 else D)+(if S (2+(e_ es i).v) then 0 else D) else D):=by
 have e:cutS (denseNet nd N D es) S=((denseArcs nd N D es).map (cutA S)).sum:=by
  rw [←sumN_list];rfl
 rw [e]
 unfold denseArcs
 rw [List.map_append,List.sum_append,sum_flat,sum_flat]
 congr 1
 ·refine Dg _ λv _=>?_
  simp [nodeArcs,cutA,h0,h1]
 ·refine Dg _ λi _=>?_
  simp only [edgeArcs,cutA,List.map_cons,List.map_nil,List.sum_cons,List.sum_nil,h0]
  cases S (2+nd+(i:Int))<;>cases S (2+(e_ es i).u)<;>cases S (2+(e_ es i).v)<;>simp
def liftW(nd:Int)(es:List Pt)(W:Int->Bool)(z:Int):Bool:=
 decide (z=0)||(decide (2<=z/\z<2+nd)&&W (z - 2))||(decide (2+nd<=z/\z<2+nd+(es.length:Int))&&W (e_ es (z - 2 - nd)).u&&W (e_ es (z - 2 - nd)).v)
theorem liftW_node{nd:Int}{es:List Pt}{W:Int->Bool}{v:Int}(h0:0<=v)(h1:v<nd):liftW nd es W (2+v)=W v:=by
 unfold liftW
 rw [decide_eq_false (show ¬2+v=0 by omega),decide_eq_true (show 2<=2+v/\2+v<2+nd by omega),decide_eq_false (show ¬(2+nd<=2+v/\2+v<2+nd+(es.length:Int)) by omega),show 2+v - 2=v by omega]
 simp
theorem liftW_edge{nd:Int}{es:List Pt}{W:Int->Bool}{i:Nat}(hnd:0<=nd)(hi:i<es.length):liftW nd es W (2+nd+(i:Int))=(W (e_ es i).u&&W (e_ es i).v):=by
 unfold liftW
 rw [decide_eq_false (show ¬2+nd+(i:Int)=0 by omega),decide_eq_false (show ¬(2<=2+nd+(i:Int)/\2+nd+(i:Int)<2+nd) by omega),decide_eq_true (show 2+nd<=2+nd+(i:Int)/\2+nd+(i:Int)<2+nd+(es.length:Int) by omega),show 2+nd+(i:Int) - 2 - nd=(i:Int) by omega]
 simp
theorem cut_lift{nd N D:Int}{es:List Pt}(hG:GrOk nd es)(W:Int->Bool):liftW nd es W 0=true/\liftW nd es W 1=false/\cutS (denseNet nd N D es) (liftW nd es W)=costW nd N D es W:=by
 have hr:=hG.rng
 have a0:liftW nd es W 0=true:=by unfold liftW;simp
 have a1:liftW nd es W 1=false:=by
  unfold liftW
  rw [decide_eq_false (show ¬(1:Int)=0 by decide),decide_eq_false (show ¬(2<=(1:Int)/\(1:Int)<2+nd) by omega),decide_eq_false (show ¬(2+nd<=(1:Int)/\(1:Int)<2+nd+(es.length:Int)) by omega)];simp
 refine ⟨a0,a1,?_⟩
 rw [cut_dense _ _ _ _ _ a0 a1]
 unfold costW
 congr 1
 ·refine Dg _ λv hv=>?_
  rw [liftW_node om om]
 ·refine Dg _ λi hi=>?_
  have he:=hG.edge _ (Cq (xs:=es) (i:=(i:Int)) om om)
  rw [liftW_edge hr.1 hi,liftW_node om om,liftW_node om om]
  cases W (e_ es i).u<;>cases W (e_ es i).v<;>simp
theorem cost_le_cut{nd N D:Int}{es:List Pt}(hD:0<=D)(S:Int->Bool)(h0:S 0=true)(h1:S 1=false):costW nd N D es (λv=>S (2+v))<=cutS (denseNet nd N D es) S:=by
 rw [cut_dense _ _ _ _ _ h0 h1]
 unfold costW
 dsimp only
 have:=sumN_le es.length (g:=λi=>if S (2+(e_ es i).u)&&S (2+(e_ es i).v) then 0 else D)
  (h:=λi=>(if S (2+nd+(i:Int)) then (if S (2+(e_ es i).u) then 0 else D)+(if S (2+(e_ es i).v) then 0 else D) else D)) λi hi=>by
  cases S (2+nd+(i:Int))<;>cases S (2+(e_ es i).u)<;>cases S (2+(e_ es i).v)<;>simp<;>omega
 omega
theorem great_cost{nd N D:Int}{es:List Pt}(hG:GrOk nd es)(hm:es.length<=2016)(hN:0<=N/\N<=1099511627776)(hD:0<=D/\D<=1099511627776){f:List Int}{T:Int->Bool}(hf:IsFlow (denseNet nd N D es) f)(hT:Great (denseNet nd N D es) f T)(W:Int->Bool) :
  costW nd N D es (λv=>T (2+v))<=costW nd N D es W/\(costW nd N D es W<=costW nd N D es (λv=>T (2+v))->∀v,0<=v->v<nd->W v=true->T (2+v)=true):=by
 have hok:=denseNet_ok hG hm hN hD
 obtain ⟨l0,l1,l2⟩:=cut_lift (N:=N) (D:=D) hG W
 have h1:=cost_le_cut (nd:=nd) (N:=N) (es:=es) hD.1 T hT.src hT.snk
 have h2:cutS (denseNet nd N D es) T<=cutS (denseNet nd N D es) (liftW nd es W):=by
  rw [←hT.value hok hf];exact value_le hok hf _ l0 l1
 rw [l2] at h2
 refine ⟨by omega,λhle v v0 v1 hv=>?_⟩
 have h3:netF (denseNet nd N D es) f (denseNet nd N D es).source=cutS (denseNet nd N D es) (liftW nd es W):=by
  rw [hT.value hok hf,l2];omega
 have h4:=(shut_value hok hf (S:=liftW nd es W) l0 l1).1 h3
 exact hT.great _ h4 l1 (2+v) om (by show 2+v<2+nd+(es.length:Int);omega) (by rw [liftW_node v0 v1];exact hv)
end Go.Sl
