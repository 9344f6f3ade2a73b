/- A part of the proofs of statements of this seat: contracts of functions, and the plain laws that they lean on. No conditions. -/
import Derived.Test.YtfkcohmipjhfcaaGreatDoorK9
set_option linter.unusedVariables false
set_option linter.unusedSimpArgs false
set_option linter.unusedSectionVars false
open Go.Proofs.Tryz (prog)
open List (replicate)
namespace Go.Sl
open Go.Proofs
set_option maxRecDepth 4000
variable {κ:Ctx}{I:List Item}
structure Fr where
 num:Int
 den:Int
deriving DecidableEq
instance:Inhabited Fr:=⟨⟨0,0⟩⟩
instance:Enc Fr:=⟨λr=>[e7 r.num,e7 r.den],2,by omega,λ_=>rfl,λr u hu=>by
 simp only [List.mem_cons,List.not_mem_nil,or_false] at hu
 rcases hu with rfl|rfl<;>rfl⟩
theorem eqt40:EqT prog 40 Fr:=EqT.flat (λp:Fr=>[p.num,p.den]) (λ_=>rfl) (λx y h=>by cases x;cases y;simpa using h) (n:=2) (λ_=>rfl) kr kr kr kr kr
def gcdI(a b:Int):Int:=((a.toNat.gcd b.toNat:Nat):Int)
theorem gcdI_step{a b:Int}(h0:0<=a)(h1:0<b):gcdI b (Int.tmod a b)=gcdI a b:=by
 unfold gcdI
 rw [Int.tmod_eq_emod_of_nonneg h0,show (a % b).toNat=a.toNat % b.toNat by rw [Int.toNat_emod h0 om]]
 congr 1
 rw [Nat.gcd_comm a.toNat b.toNat,Nat.gcd_rec b.toNat a.toNat,Nat.gcd_comm]
theorem gcdI_zero{a:Int}(h0:0<=a):gcdI a 0=a:=by unfold gcdI;simp;omega
theorem gcdI_pos{a b:Int}(h1:0<b):0<gcdI a b:=by
 unfold gcdI
 have:0<a.toNat.gcd b.toNat:=Nat.gcd_pos_of_pos_right _ om
 omega
theorem gcdI_le{a b:Int}(h1:0<b):gcdI a b<=b:=by
 unfold gcdI
 have:a.toNat.gcd b.toNat<=b.toNat:=Nat.le_of_dvd om (Nat.gcd_dvd_right _ _)
 omega
def mkF(a b:Int):Fr:=⟨a / gcdI a b,b / gcdI a b⟩
theorem mkF_num{a b:Int}(h0:0<=a)(h1:0<b):0<=(mkF a b).num/\(mkF a b).num<=a:=⟨Int.ediv_nonneg h0 (by have:=gcdI_pos (a:=a) h1;omega),Int.ediv_le_self _ h0⟩
theorem mkF_den{a b:Int}(h1:0<b):1<=(mkF a b).den/\(mkF a b).den<=b:=by
 have hg:=gcdI_pos (a:=a) h1
 have hl:=gcdI_le (a:=a) h1
 exact ⟨(Int.le_ediv_iff_mul_le hg).2 om,Int.ediv_le_self _ om⟩
theorem RWithin_ok(n m:Int)(h:0<=m/\m<=9223372036854775807):eu prog κ 157 [e7 n,e7 m] I (λr J=>r = .bool (decide (-m<=n/\n<=m))/\I=J):=by
 refine Ce2 Tryz.func157 C C ?_
 refine Ai (Ga C (Af (Ai (Gm C (Gm C (Gr (Runs.neg C (by unfold InR;omega)) (Gr (B9 C C) (Gm C (Bg (d:=9) C (λg9=>?_) (λg9=>?_))))))))))
 ·exact e9 (Ad C) (e9 (Ad C) (e9 (Ey C C) (Gr (Ar C C) (Ga C (Af (Aq (S1 4 C) (A2 (A6 C C I A3 ⟨(by first|exact congrArg Value.bool (decide_eq_decide.2 (by skip;omega))|exact congrArg Value.bool (decide_eq_true (by skip;omega)).symm|exact congrArg Value.bool (decide_eq_false (by skip;omega)).symm),rfl⟩))))))))
 ·exact eb (eb (eb (Gr (Ao C C) (Ga C (Af (Aq (S1 4 C) (A2 (A6 C C I A3 ⟨(by first|exact congrArg Value.bool (decide_eq_decide.2 (by skip;omega))|exact congrArg Value.bool (decide_eq_true (by skip;omega)).symm|exact congrArg Value.bool (decide_eq_false (by skip;omega)).symm),rfl⟩))))))))
theorem Common_ok(a b:Int)(h0:0<=a)(h1:0<=b):eu prog κ 158 [e7 a,e7 b] I (λr J=>r=e7 (gcdI a b)/\I=J):=by
 refine Ce2 Tryz.func158 C C ?_
 refine Ai (Ga C (Af (Ap (A0 (B1 (σ:=Int×Int) (λs=>([(0,e7 (s.1)),(1,e7 (s.2))]:Env)) (λs=>I) (λs=>(0<=s.1)/\(0<=s.2)/\(gcdI s.1 s.2=gcdI a b)) (λs=>s.2.toNat) (a,b) (show (0<=(a:Int))/\(0<=(b:Int))/\(gcdI (a:Int) (b:Int)=gcdI a b) from ⟨om,om,rfl⟩) (Aa Ca (Aa Ca Bp)) (show Fit κ _ I from A1) ?_)))))
 rintro ⟨x,y⟩ hp
 dsimp only at hp ⊢
 obtain ⟨hx,hy,hg⟩:=hp
 refine Ap (Ai (Gm C (Gr (Br C C) (Af (A8 C (λc6=>?_) (λc6=>?_))))))
 ·refine Ay (Aj (A0 (Bl mixed (Bt I 6 (Dr 0 C (Ad C) (Dr 1 C (Ad C) (Dr 2 C (Ad C) (Dr 3 C (Runs.rem C C om) (Dr 4 C (Bb C) (Dr 5 C (Bb C) (Dz (Ak ?_))))))))))))
  have hm0:=Int.tmod_nonneg y (a:=x) hx
  have hm1:=Int.tmod_lt_of_pos x (b:=y) om
  exact B5 ((y),(Int.tmod x y)) (by dsimp only;exact ⟨om,om,((gcdI_step hx om).trans hg)⟩)
 ·refine Bv (Al (Al (A5 (Aj (Ai (Gm C (Ga C (Af (A2 ?_)))))))))
  have hy0:y=0:=by omega
  subst hy0
  exact A6 C C I A3 ⟨by rw [←hg,gcdI_zero hx],rfl⟩
theorem Checked_ok(x:Fr)(h:0<=x.num/\x.num<=1152921504606846976/\x.den<=1152921504606846976):eu prog κ 309 [.agg #[e7 (x.num),e7 (x.den)]] I (λr J=>r = .tuple #[.agg #[e7 x.num,e7 x.den],e7 0]/\I=J):=by
 refine Ce1 Tryz.func309 C C ?_
 refine Ai (Ge1 (A9 (cs:=[_,_]) C C C) λb1=>Ge1 (Au ty40 C) λb2=>Ga C (Af (Ap (Ai (Gf fld40_0 C (Gl ef ?_))))))
 refine G.e (Ah call157 C C (RWithin_ok x.num 1152921504606846976 om)) ?_
 rintro _ _ ⟨_,_,⟨rfl,rfl⟩,rfl,rfl⟩
 refine Gr (Dp C) (Gm C (Bg (d:=8) C (λg8=>?_) (λg8=>?_)))
 ·exact absurd h om
 ·refine e9 (Ab fld40_1 C) (e9 (As ef) ?_)
  refine e9 (Bw C C) (Gr (Ao C C) (Af (Aq (S3 12 2 1 C C C) (A8 C (λc12=>?_) (λc12=>?_)))))
  ·exact absurd h om
  ·refine Ay (Aj (Ai (Gl2 ty40 ?_)))
   refine Ge0 (Bq ty40) ?_
   exact Ga C (Af (A2 (C3 C ty40 C C mm C I A3 ⟨rfl,rfl⟩)))
theorem Lowest_ok(a b:Int)(h0:0<=a/\a<=1152921504606846976)(h1:0<b/\b<=1152921504606846976):eu prog κ 272 [e7 a,e7 b] I (λr J=>r = .tuple #[.agg #[e7 (mkF a b).num,e7 (mkF a b).den],e7 0]/\I=J):=by
 refine Ce2 Tryz.func272 C C ?_
 refine Ai (Ge1 (Au ty40 C) λb1=>Ga C (Af (Ap (Ai (Gm C (Gr (A7 C C) (Af (A8 C (λc8=>?_) (λc8=>?_)))))))))
 ·exact absurd c8 om
 ·refine Ay (Aj (Ai (Gm C (Gm C (Gr (Runs.neg C (by unfold InR;omega)) (Gr (D2 C C) (Gm C (Gc0 (Ah call158 C C (Common_ok (if a<(-(a)) then (-(a)) else a) b (by split<;>omega) om)) ?_))))))))
  refine Ga C ?_
  have hmx:(if a < -a then -a else a)=a:=by rw [if_neg om]
  rw [hmx]
  refine Af (Aq (S4 6 4 0 1 C C C C) (Ap (Bl mixed (Bt (e8 b1 [e7 0,e7 0] 40::I) 10 (Dr 0 C (Ad C) ?_)))))
  have hgp:=gcdI_pos (a:=a) h1.1
  refine Dr 1 C (Ad C) (Dr 2 C (Runs.quo C C om om (by unfold InR;omega)) (Dr 3 C (Ad C) (Dr 4 C (Ad C) (Dr 5 C (Runs.quo C C om om (by unfold InR;omega)) (Dr 6 C (Bc (cells:=[_,_]) ty40 Ct pl40 C C) (Ds1 7 (Sc0 C (Ah call309 C C (Checked_ok (⟨a / (gcdI a b),b / (gcdI a b)⟩:Fr) (by have hn:=mkF_num h0.1 h1.1;have hd:=mkF_den (a:=a) h1.1;exact ⟨hn.1,by have:=hn.2;show (mkF a b).num<=_;omega,by have:=hd.2;show (mkF a b).den<=_;omega⟩))) ?_)))))))
  refine Dr 8 C (Aw C C) (Dr 9 C (Aw C C) (C0 kr ?_))
  refine Ae 10 C (Bq ty40) ?_
  rintro _ _ ⟨rfl,rfl⟩
  refine E4 (i:=11) kr C (Cg C) C C (Bb C) ?_
  refine C1 kr ?_
  exact Aj (Aq (S2 5 4 C C) (A2 (C3 C ty40 C C mm C I A3 ⟨rfl,rfl⟩)))
theorem MakeF_ok(a b:Int)(h0:0<=a/\a<=1152921504606846976)(h1:0<b/\b<=1152921504606846976):eu prog κ 220 [e7 a,e7 b] I (λr J=>r = .tuple #[.agg #[e7 (mkF a b).num,e7 (mkF a b).den],e7 0]/\I=J):=by
 refine Ce2 Tryz.func220 C C ?_
 refine Ai (Ge1 (Au ty40 C) λb1=>Ga C (Af (Ap (A0 (Ai (Gm C (Gr (Bu C C) (Ga C (Af (A8 C (λc6=>?_) (λc6=>?_)))))))))))
 ·exact absurd c6 om
 ·refine Ai (Gm C (G.e (Ah call157 C C (RWithin_ok a 4611686018427387904 om)) ?_))
  rintro _ _ ⟨_,_,⟨rfl,rfl⟩,rfl,rfl⟩
  refine Gm C (Bg (d:=13) C (λg13=>?_) (λg13=>?_))
  ·refine e9 (Ad C) (D5 (Ck C C C) (Ah call157 C C (RWithin_ok b 4611686018427387904 om)) ?_)
   rintro _ _ ⟨_,_,⟨rfl,rfl⟩,rfl,rfl⟩
   refine Gr (Ar C C) (Ga C (Af (Aq (S4 10 4 0 1 C C C C) (A8 C (λc10=>?_) (λc10=>?_)))))
   ·refine Ai (Gm C (Gm C (Gc0 (Ah call272 C C (Lowest_ok a b om om)) ?_)))
    refine Gr (Aw C C) (Gr (Aw C C) (Ge0 (Bq ty40) ?_))
    exact Ga C (Af (A2 (Av (Am (C3 C ty40 C C mm C I A3 ⟨rfl,rfl⟩)))))
   ·exact absurd om c10
  ·exact absurd om g13
theorem addRow_no{rows:List (BitVec 64)}{e:Pt}(h:¬(0<=e.u/\e.u<e.v/\e.v<rows.length)):addRow rows e=rows:=by unfold addRow;rw [if_neg h]
theorem MRows_ok{κ:Ctx}{I:List Item}{nd:Int}{v:Value}{es:List Pt}(hl:Sl κ I v es):eu prog κ 198 [.agg #[e7 nd,v]] I (λr J=>∃a c,r = .slice a (ek nd es).length c/\J=vc 175 (.slice a (ek nd es).length c) (ek nd es)::I):=by
 refine B8 hl.le λhmax=>?_
 refine Ce1 Tryz.func198 C C ?_
 refine Ai (Ge1 (A9 (cs:=[_,_]) C C C) λb1=>Ga C (Af (Ai (Gf fld48_0 C (Gl ef ?_)))))
 refine Gr (D2 C C) (Gr (Ex C C) (Ge2 (Cp (α:=(BitVec 64)) (n:=(min (max nd 0) 64).toNat) Cc ty175 C C C om om dc C) λad2 cp3=>?_))
 refine Ga C ?_
 have hrep:(replicate (min (max nd 0) 64).toNat (default:(BitVec 64))).length=(min (max nd 0) 64).toNat:=List.length_replicate
 refine Af (Ap (Ai (Gf fld48_1 C (Gl ty46 ?_))))
 refine Gr (B0 (α:=Pt) (xs:=es) Bh C (Ba hl)) (Gm C (Af (A0 (B1 (σ:=Nat×(List (BitVec 64))) (λs=>([(3,.slice ad2 (replicate ((min (max nd 0) 64).toNat) (default:(BitVec 64))).length cp3),(12,v),(13,e7 ((es.length:Nat):Int)),(14,e7 ((s.1:Nat):Int))]:Env)) (λs=>vc 175 (.slice ad2 (replicate ((min (max nd 0) 64).toNat) (default:(BitVec 64))).length cp3) (s.2)::e8 b1 [e7 nd,v] 48::I) (λs=>(s.1<=es.length)/\(s.2=ek nd (es.take s.1))/\(s.2.length=(min (max nd 0) 64).toNat)) (λs=>es.length - s.1) (0,replicate (min (max nd 0) 64).toNat (default:(BitVec 64))) (show ((0:Nat)<=es.length)/\((replicate (min (max nd 0) 64).toNat (default:(BitVec 64)):List (BitVec 64))=ek nd (es.take (0:Nat)))/\((replicate (min (max nd 0) 64).toNat (default:(BitVec 64)):List (BitVec 64)).length=(min (max nd 0) 64).toNat) from ⟨om,rfl,(by simp)⟩) (Aa C (Aa C (Aa C (Aa Ca Bp)))) (show Fit κ _ (vc 175 (.slice ad2 (replicate ((min (max nd 0) 64).toNat) (default:(BitVec 64))).length cp3) ((replicate (min (max nd 0) 64).toNat (default:(BitVec 64))))::e8 b1 [e7 nd,v] 48::I) from A1) ?_))))
 rintro ⟨k,rows⟩ hp
 dsimp only at hp ⊢
 obtain ⟨hk,hr,hrl⟩:=hp
 refine Ai (Gr (A7 C C) (Af (Ap (A8 C (λc15=>?_) (λc15=>?_)))))
 ·refine Ay (Aj (Ap (A0 (Ai (Gr (Az (α:=Pt) (xs:=es) Bh ty135 C C (Ba hl) om oo) (Gr (Bz (α:=Pt) (xs:=es) ty135 C (Ba hl) om oo) (Ge1 (Au ty135 C) λb4=>Ge0 (Bq ty135) ?_)))))))
  refine Af (Ai (Gf fld135_0 C (Gl ef ?_)))
  refine Gr (B9 C C) (Gm C (Bg (d:=21) C (λg21=>?_) (λg21=>?_)))
  ·refine e9 (Ab fld135_0 C) (e9 (As ef) ?_)
   refine e9 (Ab fld135_1 C) (e9 (As ef) ?_)
   refine e9 (A7 C C) (Gr (Ar C C) (Gm C (Bg (d:=28) C (λg28=>?_) (λg28=>?_))))
   ·refine e9 (Ab fld135_1 C) (e9 (As ef) ?_)
    refine e9 (Ad C) (e9 (Bs Cc C) (e9 (A7 C C) (Gr (Ar C C) (Af (Aq (S6 34 5 3 12 13 14 C C C C C C) (A8 C (λc34=>?_) (λc34=>?_)))))))
    ·refine Ap (Bl mixed (Bt (e8 b4 [e7 ((e_ es k).u),e7 ((e_ es k).v)] 135::vc 175 (.slice ad2 (replicate ((min (max nd 0) 64).toNat) (default:(BitVec 64))).length cp3) (rows)::e8 b1 [e7 nd,v] 48::I) 10 (Dr 0 C (Ad C) (Dr 1 C (Ab fld135_0 C) (Dr 2 C (As ef) ?_)))))
     refine Dr 3 C (Az (α:=(BitVec 64)) (xs:=rows) Cc ty175 C C Bk om oo) (Dr 4 C (Dj (α:=(BitVec 64)) (xs:=rows) (u:=U64 ((e_ rows ((e_ es k).u)))) ty175 C Bk om oo C) (Dr 5 C (Ab fld135_1 C) (Dr 6 C (As ef) ?_)))
     refine Dr 7 C (Runs.shlB (a:=1#64) C C om om) (Dr 8 C (E8 (a:=(e_ rows ((e_ es k).u))) (b:=(1#64) <<< ((e_ es k).v).toNat) C C) (Dr 9 C (Az (α:=(BitVec 64)) (xs:=rows) Cc ty175 C C Bk om oo) (C0 kr ?_)))
     refine Ae 10 C (Cx (α:=(BitVec 64)) (xs:=rows) (e:=175) (new:=(e_ rows ((e_ es k).u)) ||| ((1#64) <<< ((e_ es k).v).toNat)) ty175 C C C om oo am) ?_
     rintro _ _ ⟨rfl,rfl⟩
     refine C1 kr ?_
     refine Aj (Aq (S5 5 3 12 13 14 C C C C C) (Bl mixed (Bt (e8 b4 [e7 ((e_ es k).u),e7 ((e_ es k).v)] 135::vc 175 (.slice ad2 (replicate ((min (max nd 0) 64).toNat) (default:(BitVec 64))).length cp3) (List.set rows ((e_ es k).u).toNat ((e_ rows ((e_ es k).u)) ||| ((1#64) <<< ((e_ es k).v).toNat)))::e8 b1 [e7 nd,v] 48::I) 10 (Dr 0 C (Ad C) (Dr 1 C (Ab fld135_1 C) (Dr 2 C (As ef) ?_))))))
     refine Dr 3 C (Az (α:=(BitVec 64)) (xs:=List.set rows ((e_ es k).u).toNat ((e_ rows ((e_ es k).u)) ||| ((1#64) <<< ((e_ es k).v).toNat))) Cc ty175 C C Bk om oo) (Dr 4 C (Dj (α:=(BitVec 64)) (xs:=List.set rows ((e_ es k).u).toNat ((e_ rows ((e_ es k).u)) ||| ((1#64) <<< ((e_ es k).v).toNat))) (u:=U64 ((e_ (List.set rows ((e_ es k).u).toNat ((e_ rows ((e_ es k).u)) ||| ((1#64) <<< ((e_ es k).v).toNat))) ((e_ es k).v)))) ty175 C Bk om oo C) (Dr 5 C (Ab fld135_0 C) (Dr 6 C (As ef) ?_)))
     refine Dr 7 C (Runs.shlB (a:=1#64) C C om om) (Dr 8 C (E8 (a:=(e_ (List.set rows ((e_ es k).u).toNat ((e_ rows ((e_ es k).u)) ||| ((1#64) <<< ((e_ es k).v).toNat))) ((e_ es k).v))) (b:=(1#64) <<< ((e_ es k).u).toNat) C C) (Dr 9 C (Az (α:=(BitVec 64)) (xs:=List.set rows ((e_ es k).u).toNat ((e_ rows ((e_ es k).u)) ||| ((1#64) <<< ((e_ es k).v).toNat))) Cc ty175 C C Bk om oo) (C0 kr ?_)))
     refine Ae 10 C (Cx (α:=(BitVec 64)) (xs:=List.set rows ((e_ es k).u).toNat ((e_ rows ((e_ es k).u)) ||| ((1#64) <<< ((e_ es k).v).toNat))) (e:=175) (new:=(e_ (List.set rows ((e_ es k).u).toNat ((e_ rows ((e_ es k).u)) ||| ((1#64) <<< ((e_ es k).v).toNat))) ((e_ es k).v)) ||| ((1#64) <<< ((e_ es k).u).toNat)) ty175 C C C om oo am) ?_
     rintro _ _ ⟨rfl,rfl⟩
     refine C1 kr ?_
     refine Ak (Aj (Aq (S4 3 12 13 14 C C C C) (Ax (Gr (Rad C C) (Gm C (Bi ?_))))))
     have hset:List.set (List.set rows ((e_ es k).u).toNat ((e_ rows ((e_ es k).u)) ||| ((1#64) <<< ((e_ es k).v).toNat))) ((e_ es k).v).toNat ((e_ (List.set rows ((e_ es k).u).toNat ((e_ rows ((e_ es k).u)) ||| ((1#64) <<< ((e_ es k).v).toNat))) ((e_ es k).v)) ||| ((1#64) <<< ((e_ es k).u).toNat))=addRow rows (e_ es k):=by unfold addRow;rw [if_pos om]
     rw [hset]
     exact B5 ((k+1),(addRow rows (e_ es k))) (by dsimp only;exact ⟨om,(by rw [rowsB_take om,←hr];first|done|exact hset),(by first|exact hrl|(rw [addRow_len];exact hrl))⟩)
    ·refine Ay (Ak (Aj (Ax (Gr (Rad C C) (Gm C (Bi ?_))))))
     have hset:rows=addRow rows (e_ es k):=(addRow_no om).symm
     exact B5 ((k+1),(rows)) (by dsimp only;exact ⟨om,(by rw [rowsB_take om,←hr];first|done|exact hset),(by first|exact hrl|(rw [addRow_len];exact hrl))⟩)
   ·refine eb (eb (eb (eb (eb (Gr (Ao C C) (Af (Aq (S6 34 5 3 12 13 14 C C C C C C) (C2 C (Ay (Ak (Aj (Ax (Gr (Rad C C) (Gm C (Bi ?_)))))))))))))))
    have hset:rows=addRow rows (e_ es k):=(addRow_no om).symm
    exact B5 ((k+1),(rows)) (by dsimp only;exact ⟨om,(by rw [rowsB_take om,←hr];first|done|exact hset),(by first|exact hrl|(rw [addRow_len];exact hrl))⟩)
  ·refine eb (eb (eb (eb (eb (Gr (Ao C C) (Gm C (eb (eb (eb (eb (eb (Gr (Ao C C) (Af (Aq (S6 34 5 3 12 13 14 C C C C C C) (C2 C (Ay (Ak (Aj (Ax (Gr (Rad C C) (Gm C (Bi ?_))))))))))))))))))))))
   have hset:rows=addRow rows (e_ es k):=(addRow_no om).symm
   exact B5 ((k+1),(rows)) (by dsimp only;exact ⟨om,(by rw [rowsB_take om,←hr];first|done|exact hset),(by first|exact hrl|(rw [addRow_len];exact hrl))⟩)
 ·refine Bv (Al (Al (A5 (Aj (Ai (Gm C (Ga C (Af (A2 ?_)))))))))
  rw [List.take_of_length_le om] at hr
  subst hr
  have hle:(ek nd es).length=(replicate (min (max nd 0) 64).toNat (default:(BitVec 64))).length:=by omega
  exact A6 C C (vc 175 (.slice ad2 (ek nd es).length cp3) (ek nd es)::I) (by rw [hle];exact A1) ⟨_,_,by rw [hle],rfl⟩
variable {κ:Ctx}{I:List Item}
theorem Check03G_ok{nd:Int}{v:Value}{es:List Pt}(hl:Sl κ I v es):eu prog κ 30 [.agg #[e7 nd,v]] I (λr J=>r=e7 (checkG nd es)/\I=J):=by
 refine B8 hl.le λhmax=>?_
 refine Ce1 Tryz.func30 C C ?_
 refine Ai (Ge1 (A9 (cs:=[_,_]) C C C) λb1=>Ga C (Af (Ap (Ai (Gf fld48_0 C (Gl ef ?_))))))
 refine Gr (A7 C C) (Gm C (Bg (d:=8) C (λg8=>?_) (λg8=>?_)))
 ·exact eb (eb (eb (Gr (Ar C C) (Af (Cq C (Ai (Ga C (Af (A2 (Am (A6 C C I A3 ⟨by rw [show checkG nd es=1 from (by unfold checkG;rw [if_pos om])],rfl⟩)))))))))))
 ·refine e9 (Ab fld48_0 C) (e9 (As ef) ?_)
  refine e9 (Bw C C) (Gr (Ao C C) (Af (A8 C (λc12=>?_) (λc12=>?_))))
  ·exact Ai (Ga C (Af (A2 (Am (A6 C C I A3 ⟨by rw [show checkG nd es=1 from (by unfold checkG;rw [if_pos om])],rfl⟩)))))
  ·refine Ay (Aj (Ap (Ai (Gf fld48_1 C (Gl ty46 ?_)))))
   refine Gr (B0 (α:=Pt) (xs:=es) Bh C (Ba hl)) (Gm C (Af (Aq (S4 16 15 14 1 C C C C) (A0 (B1 (σ:=Nat) (λs=>([(1,.pointer (some ⟨b1,0,none⟩)),(14,v),(15,e7 ((es.length:Nat):Int)),(16,e7 ((s:Nat):Int))]:Env)) (λs=>e8 b1 [e7 nd,v] 48::I) (λs=>(s<=es.length)/\(checkG nd es=scanL (badE nd) Pt.lt (prevAt es s) (es.drop s))) (λs=>es.length - s) 0 (show ((0:Nat)<=es.length)/\(checkG nd es=scanL (badE nd) Pt.lt (prevAt es (0:Nat)) (es.drop (0:Nat))) from ⟨om,(by unfold checkG;rw [if_neg om];rfl)⟩) (Aa C (Aa C (Aa C (Aa Ca Bp)))) (show Fit κ _ (e8 b1 [e7 nd,v] 48::I) from A1) ?_)))))
   rintro k hp
   obtain ⟨hk,hs⟩:=hp
   refine Ai (Gr (A7 C C) (Af (Ap (A8 C (λc17=>?_) (λc17=>?_)))))
   ·refine Ay (Aj (Ap (A0 (Ai (Gm C (Gr (Az (α:=Pt) (xs:=es) Bh ty135 C C (Ba hl) om om) (Gr (Bz (α:=Pt) (xs:=es) ty135 C (Ba hl) om om) (Ge1 (Au ty135 C) λb2=>Ga C (Ge0 (Bq ty135) ?_)))))))))
    refine Af (Ap (Ai (Gf fld135_0 C (Gl ef ?_))))
    refine Gr (A7 C C) (Gm C (Bg (d:=24) C (λg24=>?_) (λg24=>?_)))
    ·exact eb (eb (eb (eb (eb (Gr (Ar C C) (Gm C (eb (eb (eb (eb (eb (Gr (Ar C C) (Af (Aq (S7 37 3 4 1 14 15 16 C C C C C C C) (Cq C (Ai (Ga C (Af (A2 (Am (Av (Am (Am (Av (Am (A6 C C I A3 ⟨by rw [show checkG nd es=6 from (hs.trans ((Dw om (by unfold badE;rw [if_pos om];decide)).trans (by unfold badE;rw [if_pos om])))],rfl⟩))))))))))))))))))))))))))
    ·refine e9 (Ab fld135_0 C) (e9 (As ef) ?_)
     refine e9 (Ab fld135_1 C) (e9 (As ef) ?_)
     refine e9 (B9 C C) (Gr (Ao C C) (Gm C (Bg (d:=31) C (λg31=>?_) (λg31=>?_))))
     ·exact eb (eb (eb (eb (eb (Gr (Ar C C) (Af (Aq (S7 37 3 4 1 14 15 16 C C C C C C C) (Cq C (Ai (Ga C (Af (A2 (Am (Av (Am (Am (Av (Am (A6 C C I A3 ⟨by rw [show checkG nd es=6 from (hs.trans ((Dw om (by unfold badE;rw [if_pos om];decide)).trans (by unfold badE;rw [if_pos om])))],rfl⟩)))))))))))))))))))
     ·refine e9 (Ab fld135_1 C) (e9 (As ef) ?_)
      refine e9 (Ab fld48_0 C) (e9 (As ef) ?_)
      refine e9 (B9 C C) (Gr (Ao C C) (Af (Aq (S7 37 3 4 1 14 15 16 C C C C C C C) (A8 C (λc37=>?_) (λc37=>?_)))))
      ·exact Ai (Ga C (Af (A2 (Am (Av (Am (Am (Av (Am (A6 C C I A3 ⟨by rw [show checkG nd es=6 from (hs.trans ((Dw om (by unfold badE;rw [if_pos om];decide)).trans (by unfold badE;rw [if_pos om])))],rfl⟩))))))))))
      ·refine Ay (Aj (Ap (Bl mixed (Bt (e8 b2 [e7 ((e_ es k).u),e7 ((e_ es k).v)] 135::e8 b1 [e7 nd,v] 48::I) 13 (Dr 0 C (Ad C) (Dr 1 C (Bw C C) (Dr 2 C (Ad C) (Cs (d:=40) C (λg40=>?_) (λg40=>?_)))))))))
       ·refine Dro 3 C (Ab fld48_1 C) (Dro 4 C (As ty46) ?_)
        refine Dro 5 C (Ad C) (Dro 6 C (Rsu C C) (Dro 7 C (Az (α:=Pt) (xs:=es) Bh ty135 C C (Ba hl) om om) (Dro 8 C (Bz (α:=Pt) (xs:=es) ty135 C (Ba hl) om om) (Dro 9 C (Bd (vs:=[_,_]) ty135) ?_))))
        refine Ds1 10 (Sc0 C (Ah call84 C C (Before03_ok (e_ es ((k:Int) - 1)) (e_ es k))) ?_)
        refine Dro 11 C (Dp C) (Dr 12 C (Ar C C) (Dz (Aj (Aq (S5 50 1 14 15 16 C C C C C) (A8 C (λc50=>?_) (λc50=>?_))))))
        ·exact Ai (Ga C (Af (A2 (Av (Am (Am (Av (Am (A6 C C I A3 ⟨by rw [show checkG nd es=5 from (hs.trans (scanL_order om (badE_zero.2 om) om (by first|assumption|simpa using c50)))],rfl⟩)))))))))
        ·exact Ay (Ak (Aj (Ax (Gr (Rad C C) (Gm C (Bi (B5 ((k+1)) ⟨om,(hs.trans (Fc om (badE_zero.2 om) (λh0=>by first|omega|exact Classical.not_not.1 asm|assumption)))⟩)))))))
       ·exact Dpo 3 C (Dpo 4 C (Dpo 5 C (Dpo 6 C (Dpo 7 C (Dpo 8 C (Dpo 9 C (Dpo 10 C (Dpo 11 C (Dr 12 C (Ao C C) (Dz (Aj (Aq (S5 50 1 14 15 16 C C C C C) (C2 C (Ay (Ak (Aj (Ax (Gr (Rad C C) (Gm C (Bi (B5 ((k+1)) ⟨om,(hs.trans (Fc om (badE_zero.2 om) (λh0=>by first|omega|exact Classical.not_not.1 asm|assumption)))⟩)))))))))))))))))))))
   ·exact Bv (Al (Al (A5 (Aj (Ai (Ga C (Af (A2 (A6 C C I A3 ⟨by rw [show checkG nd es=0 from (hs.trans (scanL_end om))],rfl⟩)))))))))
theorem Edge03_ok(u v:Int):eu prog κ 119 [e7 u,e7 v] I (λr J=>r = .agg #[e7 (edgeP u v).u,e7 (edgeP u v).v]/\I=J):=by
 refine Ce2 Tryz.func119 C C ?_
 refine Ai (Ge1 (Au ty135 C) λb1=>Af (Ai (Gm C (Gm C (Gr (Ex C C) (Gm C (Gm C (Gr (D2 C C) (Gr (Bc (cells:=[_,_]) ty135 Di pl135 C C) (Ge0 (Bq ty135) ?_))))))))))
 exact Af (A2 (C5 C ty135 C mm C I A3 ⟨rfl,rfl⟩))
section
variable {P:Program}{κ:Ctx}{N:Frm}{L:Env}{I J:List Item}{d:Option Tmp}{ty:TypeId}{ps:String}{af:Array Edge}{gd:Option (Nat×Bool)}
theorem vc.isSome{α:Type}[Enc α]{xs:List α}{e:TypeId}{ad:Option Addr}{n c:Nat}(h:vc e (.slice ad n c) xs∈I):∀w,Sep κ w I->(0<xs.length->ad≠none):=λw hs hlt=>by
 obtain ⟨b,o,cap,h0,_⟩:=((Sl.vec (κ:=κ) h) w hs).some hlt
 cases h0
 exact λhh=>by cases hh
theorem Runs.idxs(α:Type)[Enc α]{x y:Operand}{T E by' n c:Nat}{ag:Bool}{z:List Value}{ad:Option Addr}{i:Int}(ht:P.underlying T=some (.slice E))(hE:tyF P E=some (Enc.sz α,ag,by',z))(hx:er L x=some (.slice ad n c))
  (hy:er L y=some (e7 i)) (ha:ad≠none) (h0:0<=i) (hn:i<n):Runs P κ N ⟨d,.indexAddr T x y,ty,ps,af,gd⟩ L J (elemPtr (.slice ad n c) (i.toNat*Enc.sz α)):=by
 cases ad with
 |none=>exact absurd rfl ha
 |some ad=>exact λa w ha hs=>by simp [execOp,ha.eval hx,ha.eval hy,Instr.indexAt,asIntOf,run_underlying ht,h0,hn,run_sizeOf hE,elemPtr]
end
variable {κ:Ctx}{I:List Item}
theorem ApplyP_ok{nd:Int}{e:Ev}{a0:Option Addr}{c0:Nat}{xs:List Lk}(hv:checkS nd xs=0)(hf:FitOk nd e)(hsz:xs.length<=100000):eu prog κ 141 [.agg #[e7 nd,.slice a0 xs.length c0],.agg #[e7 (e.kd),e7 (e.tm),e7 (e.u),e7 (e.v),e7 (e.w),e7 (e.lb),e7 (e.sg)]] (vc 146 (.slice a0 xs.length c0) (xs)::I) (λr J=>∃a c w,r = .tuple #[.agg #[e7 nd,.slice a (ep xs e).length c],w,e7 0]/\J=vc 146 (.slice a (ep xs e).length c) (ep xs e)::I):=by
 refine Ce2 Tryz.func141 C C ?_
 refine Ai (Ge1 (A9 (cs:=[_,_]) C C C) λb1=>Ge1 (A9 (cs:=[_,_,_,_,_,_,_]) C C C) λb2=>Ge1 (Au ty111 C) λb3=>Ga C (Ga C (Af (Ai (Gl2 ty111 ?_)))))
 refine G.e (Ah call214 C C (CheckS_ok (nd:=nd) Bk)) ?_
 rintro _ _ ⟨_,_,⟨rfl,rfl⟩,rfl,rfl⟩
 refine Ga C (Af (Ap (Ai (Gm C (Gr (Bu C C) (Af (A8 C (λc13=>?_) (λc13=>?_))))))))
 ·refine Ax (Gf fld111_0 C (Gl ef ?_))
  refine Gl7 ty108 ?_
  refine Gc0 (Ah call210 C C (FitsE_ok nd e)) ?_
  refine Ga C (Af (Aq (S4 7 4 3 2 C C C C) (Ap (Ai (Gm C (Gr (Br C C) (Af (A8 C (λc19=>?_) (λc19=>?_)))))))))
  ·exact absurd (fitE_ok.2 hf) c19
  ·refine Ay (Aj (Ai (Gl2 ty111 ?_)))
   refine Gl7 ty108 ?_
   refine G.e (Ah call215 C C (StepP_at (by repeat (first|exact AtF.head _ _|apply AtF.tail)) C (checkS_ok hv).2.2 om)) ?_
   rintro _ _ ⟨_,_,⟨⟨ad4,cp5,wv6⟩,rfl,rfl⟩,rfl,rfl⟩
   show G prog κ _ _ _ _ ([(25,.tuple #[.agg #[e7 nd,.slice ad4 (ep xs e).length cp5],wv6]),(24,.agg #[e7 (e.kd),e7 (e.tm),e7 (e.u),e7 (e.v),e7 (e.w),e7 (e.lb),e7 (e.sg)]),(23,.agg #[e7 nd,.slice a0 xs.length c0]),(19,.bool (decide ((fitE nd e)≠0))),(18,e7 (fitE nd e)),(7,e7 (fitE nd e)),(4,.pointer (some ⟨b3,0,none⟩)),(3,.pointer (some ⟨b2,0,none⟩)),(2,.pointer (some ⟨b1,0,none⟩))]:Env) (e8 b3 [e7 0,.slice none 0 0] 111::e8 b2 [e7 (e.kd),e7 (e.tm),e7 (e.u),e7 (e.v),e7 (e.w),e7 (e.lb),e7 (e.sg)] 108::e8 b1 [e7 nd,.slice a0 xs.length c0] 111::vc 146 (.slice ad4 (ep xs e).length cp5) (ep xs e)::I)
   refine Gm C (Gr (Aw C C) (Gr (Aw C C) (Ge1 (Au ty111 C) λb7=>Ge0 (Bq ty111) ?_)))
   refine Ga C (Af (Aq (S3 9 8 4 C C C) (Ai (Gf fld111_1 C (Gl ty109 ?_)))))
   refine G.e (Ah call216 C C (CloneL (xs:=ep xs e) Bk (by have h:=stepL_len xs e;omega))) ?_
   rintro _ _ ⟨_,_,⟨ad8,cp9,rfl,rfl⟩,rfl,rfl⟩
   refine Gf fld111_1 C (Ge0 (Eq ty109) ?_)
   refine Af (Ai (Gl2 ty111 ?_))
   refine Gm C (Ge0 (Bq ty111) ?_)
   exact Ga C (Ga C (Af (A2 (V.retc2 C ty111 C C C mm C (vc 146 (.slice ad8 (ep xs e).length cp9) (ep xs e)::I) B7 ⟨ad8,cp9,wv6,rfl,rfl⟩))))
 ·exact absurd hv c13
theorem edgesK_take{xs:List Lk}{k:Nat}(h:k<xs.length):edgesK (xs.take (k+1))=edgesK (xs.take k)++[(⟨(e_ xs k).u,(e_ xs k).v⟩:Pt)]:=by
 unfold edgesK;rw [C6 xs k h,List.map_append];rfl
theorem LEdges_ok{nd:Int}{va:Value}{xs:List Lk}(hl:Sl κ I va xs)(hsz:xs.length<=100000):eu prog κ 231 [.agg #[e7 nd,va]] I (λr J=>∃a c,r = .agg #[e7 nd,.slice a (edgesK xs).length c]/\J=vc 135 (.slice a (edgesK xs).length c) (edgesK xs)::I):=by
 refine B8 hl.le λhmax=>?_
 refine Ce1 Tryz.func231 C C ?_
 refine Ai (Ge1 (A9 (cs:=[_,_]) C C C) λb1=>Ge1 (Au ty48 C) λb2=>Af (Ai (Gf fld111_0 C (Gl ef ?_))))
 refine Gr (Bc (cells:=[_,_]) ty48 Tryz.underlying48 pl48 C C) (Ge1 (Au ty48 C) λb3=>Ge0 (Bq ty48) ?_)
 refine Af (Ap (Ai (Gf fld111_1 C (Gl ty109 ?_))))
 refine Gr (B0 (α:=Lk) (xs:=xs) A4 C (Ba hl)) (Gm C (Af (A0 (B1 (σ:=Nat×(Option Addr)×Nat×(List Pt)) (λs=>([(2,.pointer (some ⟨b2,0,none⟩)),(3,.pointer (some ⟨b3,0,none⟩)),(10,va),(11,e7 ((xs.length:Nat):Int)),(12,e7 ((s.1:Nat):Int))]:Env)) (λs=>vc 135 (.slice s.2.1 s.2.2.2.length s.2.2.1) (s.2.2.2)::e8 b3 [e7 nd,.slice s.2.1 s.2.2.2.length s.2.2.1] 48::e8 b2 [e7 0,.slice none 0 0] 48::e8 b1 [e7 nd,va] 111::I) (λs=>(s.1<=xs.length)/\(s.2.2.2=edgesK (xs.take s.1))) (λs=>xs.length - s.1) (0,none,0,[]) (show ((0:Nat)<=xs.length)/\(([]:List Pt)=edgesK (xs.take (0:Nat))) from ⟨om,rfl⟩) (Aa C (Aa C (Aa C (Aa C (Aa Ca Bp))))) (show Fit κ _ (vc 135 (.slice none ([]).length 0) (([]))::e8 b3 [e7 nd,.slice none ([]).length 0] 48::e8 b2 [e7 0,.slice none 0 0] 48::e8 b1 [e7 nd,va] 111::I) from (B2 _ _)) ?_))))
 rintro ⟨k,a,c,out⟩ hp
 dsimp only at hp ⊢
 obtain ⟨hk,ho⟩:=hp
 have hol:out.length=k:=by rw [ho,edgesK_len,List.length_take];omega
 refine Ai (Gr (A7 C C) (Af (Ap (A8 C (λc13=>?_) (λc13=>?_)))))
 ·refine Ay (Aj (Ap (A0 (Ai (Gr (Az (α:=Lk) (xs:=xs) A4 ty146 C C (Ba hl) om om) (Gr (Bz (α:=Lk) (xs:=xs) ty146 C (Ba hl) om om) (Ge1 (Au ty146 C) λb4=>Ge0 (Eo ty146) ?_)))))))
  refine Af (Ax (Gf fld48_1 C (Gl ty46 ?_)))
  refine Gf fld146_0 C (Gl ef ?_)
  refine Gf fld146_1 C (Gl ef ?_)
  refine Gr (Bc (cells:=[_,_]) ty135 Di pl135 C C) (Ge1 (Cf (α:=Pt) (cs:=[_,_]) (xs:=[⟨(e_ xs k).u,(e_ xs k).v⟩]) Bh ty135 C C dc dc C C C C) λad5=>?_)
  refine Ge2 (Cm (α:=Pt) (e:=135) (xs:=out) (ys:=([⟨(e_ xs k).u,(e_ xs k).v⟩]:List Pt)) Bh ty135 C C C mm Bk lcn dc C (λ_ _=>am)) λad6 cp7=>?_
  refine Gf fld48_1 C (Ge0 (Eq ty46) ?_)
  exact Bi (Ak (Aj (Aq (S5 2 3 10 11 12 C C C C C) (Ax (Gr (Rad C C) (Gm C (Bi (B5 ((k+1),(ad6),(cp7),(out++([⟨(e_ xs k).u,(e_ xs k).v⟩]:List Pt))) (by dsimp only;exact ⟨om,(by rw [edgesK_take om,←ho])⟩)))))))))
 ·refine Bv (Al (Al (A5 (Aj (Ai (Gl2 ty48 ?_))))))
  refine Ge0 (Bq ty48) ?_
  refine Af (A2 ?_)
  have hE:out=edgesK xs:=by rw [ho,List.take_of_length_le om]
  exact C5 C ty48 C mm C (vc 135 (.slice a (edgesK xs).length c) (edgesK xs)::I) (by rw [←hE];exact B7) ⟨a,c,by rw [←hE]<;>rfl,rfl⟩
theorem LGraph_ok{nd:Int}{va:Value}{xs:List Lk}(hl:Sl κ I va xs)(hv:checkS nd xs=0)(hsz:xs.length<=100000):eu prog κ 167 [.agg #[e7 nd,va]] I (λr J=>∃a c,r = .tuple #[.agg #[e7 nd,.slice a (edgesK xs).length c],e7 0]/\J=vc 135 (.slice a (edgesK xs).length c) (edgesK xs)::I):=by
 refine Ce1 Tryz.func167 C C ?_
 refine Ai (Ge1 (A9 (cs:=[_,_]) C C C) λb1=>Ge1 (Au ty48 C) λb2=>Ga C (Af (Ap (Ai (Gl2 ty111 ?_)))))
 refine G.e (Ah call214 C C (CheckS_ok (nd:=nd) (Ba hl))) ?_
 rintro _ _ ⟨_,_,⟨rfl,rfl⟩,rfl,rfl⟩
 refine Ga C (Af (Ai (Gm C (Gr (Br C C) (Af (A8 C (λc8=>?_) (λc8=>?_)))))))
 ·exact absurd hv c8
 ·refine Ay (Aj (Ai (Gl2 ty111 ?_)))
  refine G.e (Ah call231 C C (LEdges_ok (nd:=nd) (Ba hl) om)) ?_
  rintro _ _ ⟨_,_,⟨ad3,cp4,rfl,rfl⟩,rfl,rfl⟩
  refine Ge0 (Bq ty48) ?_
  exact Ga C (Af (A2 (C3 C ty48 C C mm C (vc 135 (.slice ad3 (edgesK xs).length cp4) (edgesK xs)::I) B7 ⟨ad3,cp4,rfl,rfl⟩)))
theorem LateC_ok(x y:Ev):eu prog κ 230 [.agg #[e7 (x.kd),e7 (x.tm),e7 (x.u),e7 (x.v),e7 (x.w),e7 (x.lb),e7 (x.sg)],.agg #[e7 (y.kd),e7 (y.tm),e7 (y.u),e7 (y.v),e7 (y.w),e7 (y.lb),e7 (y.sg)]] I (λr J=>r=e7 (evC x y)/\I=J):=by
 refine Ce2 Tryz.func230 C C ?_
 refine Ai (Ge1 (A9 (cs:=[_,_,_,_,_,_,_]) C C C) λb1=>Ge1 (A9 (cs:=[_,_,_,_,_,_,_]) C C C) λb2=>Ga C (Af (Ai (Gf fld108_1 C (Gl ef ?_)))))
 refine Gf fld108_1 C (Gl ef ?_)
 refine Gc0 (Ah call225 C C (Compare_ok x.tm y.tm)) ?_
 exact Ga C (Af (A2 (A6 C C I A3 ⟨by first|rfl|(unfold evC;repeat (first|rfl|omega|split))|(unfold evC;congr 1;repeat (first|rfl|omega|split)),rfl⟩)))
variable {κ:Ctx}{I:List Item}
theorem InsSortE_ok{a:Option Addr}{c:Nat}{xs:List Ev}(hn:xs.length<=1000):eu prog κ 315 [.slice a xs.length c,e7 0,e7 ((xs.length:Nat):Int),.func (.func 230) #[] #[]] (vc 108 (.slice a xs.length c) (xs)::I) (λr J=>r = .tuple #[]/\J=vc 108 (.slice a xs.length c) (isortG evC xs)::I):=by
 refine B8 (p:=0<xs.length->a≠none) (vc.isSome mm) λhsm=>?_
 refine Ce4 Tryz.func315 C C ?_
 refine Ai (Gm C (Gr (Rad C C) (Ga C (Af (A0 (B1 (σ:=Nat×(List Ev)) (λs=>([(0,.slice a xs.length c),(1,e7 0),(2,e7 ((xs.length:Nat):Int)),(3,.func (.func 230) #[] #[]),(8,e7 ((s.1:Nat):Int))]:Env)) (λs=>vc 108 (.slice a xs.length c) (s.2)::I) (λs=>(1<=s.1/\(s.1<=xs.length\/s.1=1))/\(s.2=(isortG evC (xs.take s.1))++xs.drop s.1)) (λs=>xs.length - s.1) (1,xs) (show (1<=(1:Nat)/\((1:Nat)<=xs.length\/(1:Nat)=1))/\((xs:List Ev)=(isortG evC (xs.take (1:Nat)))++xs.drop (1:Nat)) from ⟨om,(by cases xs<;>rfl)⟩) (Aa C (Aa C (Aa C (Aa C (Aa Ca Bp))))) (show Fit κ _ (vc 108 (.slice a xs.length c) ((xs))::I) from A1) ?_))))))
 rintro ⟨i,ys⟩ hp
 dsimp only at hp ⊢
 obtain ⟨hi,hy⟩:=hp
 have hil:=λh:i<=xs.length=>isort_tlenG evC h
 have hyl:ys.length=xs.length:=by rw [hy,List.length_append,List.length_drop];rcases hi.2 with h|h;(· have:=hil h;omega);(· subst h;cases xs with |nil=>rfl|cons x t=>(have:=hil (by simp);simp at this ⊢; omega))
 refine Ap (Ai (Gm C (Gm C (Gr (A7 C C) (Af (A8 C (λc14=>?_) (λc14=>?_)))))))
 ·refine Ay (Aj (Ap (A0 (Ai (Gm C (Ga C (Af (A0 (B1 (σ:=Nat×(List Ev)) (λs=>([(0,.slice a xs.length c),(1,e7 0),(2,e7 ((xs.length:Nat):Int)),(3,.func (.func 230) #[] #[]),(8,e7 ((i:Int))),(9,e7 ((s.1:Nat):Int))]:Env)) (λs=>vc 108 (.slice a xs.length c) (s.2)::I) (λs=>(s.1<=i)/\(s.2=insG (isortG evC (xs.take i)) s.1 (e_ xs i)++xs.drop (i+1))/\(placeG evC (isortG evC (xs.take i)) (e_ xs i) s.1=placeG evC (isortG evC (xs.take i)) (e_ xs i) i)) (λs=>s.1) (i,ys) (show ((i:Nat)<=i)/\((ys:List Ev)=insG (isortG evC (xs.take i)) (i:Nat) (e_ xs i)++xs.drop (i+1))/\(placeG evC (isortG evC (xs.take i)) (e_ xs i) (i:Nat)=placeG evC (isortG evC (xs.take i)) (e_ xs i) i) from ⟨om,(by rw [hy];exact ins_startG om),rfl⟩) (Aa C (Aa C (Aa C (Aa C (Aa C (Aa Ca Bp)))))) (show Fit κ _ (vc 108 (.slice a xs.length c) ((ys))::I) from A1) ?_)))))))))
  rintro ⟨j,zs⟩ hp
  dsimp only at hp ⊢
  obtain ⟨hj,hzs,hpl⟩:=hp
  have hil2:=hil om
  have hz0:e_ zs j=(e_ xs i):=by rw [hzs];exact at_midG om
  have hz1:0<j->e_ zs ((j:Int) - 1)=e_ (isortG evC (xs.take i)) ((j:Int) - 1):=λh=>by rw [hzs];exact at_prevG h om
  have hzl:zs.length=xs.length:=by rw [hzs,List.length_append,List.length_drop];unfold insG;rw [List.length_append,List.length_cons,List.length_take,List.length_drop];omega
  refine Ap (Ap (Bl mixed (Bt (vc 108 (.slice a xs.length c) (zs)::I) 17 (Dr 0 C (Ad C) (Dr 1 C (Ad C) (Dr 2 C (Bw C C) (Dr 3 C (Ad C) (Cs (d:=21) C (λg21=>?_) (λg21=>?_)))))))))
  ·refine Dro 4 C (Ad C) (Dro 5 C (Ad C) (Dro 6 C (Ad C) (Dro 7 C (Az (α:=Ev) (xs:=zs) Be ty108 C C Bk om oo) (Dro 8 C (Bz (α:=Ev) (xs:=zs) ty108 C Bk om oo) (Dro 9 C (Ad C) (Dro 10 C (Ad C) (Dro 11 C (Rsu C C) (Dro 12 C (Az (α:=Ev) (xs:=zs) Be ty108 C C Bk om oo) (Dro 13 C (Bz (α:=Ev) (xs:=zs) ty108 C Bk om oo) (Ds1 14 (Sc0 C (Cw call230 C C C (LateC_ok (e_ zs j) (e_ zs ((j:Int) - 1)))) ?_)))))))))))
   refine Dro 15 C (A7 C C) (Dr 16 C (Ar C C) (Dz (Aj (Aq (S7 34 0 1 2 3 8 9 C C C C C C C) (A8 C (λc34=>?_) (λc34=>?_))))))
   ·refine Ay (Aj (Ap (A0 (Bl mixed (Bt I 18 (Dr 0 C (Ad C) (Dr 1 C (Ad C) (Dr 2 C (Ad C) (Dr 3 C (Ad C) (Dr 4 C (Rsu C C) (Dr 5 C (Ad C) (Dr 6 C (Ad C) (Dr 7 C (Rsu C C) (Dr 8 C (Runs.idxs Ev Be ty108 C C (hsm om) om om) (Dr 10 C (Ad C) (Dr 11 C (Ad C) (Dr 12 C (Runs.idxs Ev Be ty108 C C (hsm om) om om) (Cj (rs:=[9,13]) kr C C (Dg ?_ (Ds ?_))))))))))))))))))))
    ·refine Sr C (Bz (α:=Ev) (xs:=zs) ty108 C Bk om oo) A1 ?_
     refine Ds1 13 (Sr C (Bz (α:=Ev) (xs:=zs) ty108 C Bk om oo) A1 ?_)
     refine Dr 14 C (Runs.idxs Ev Be ty108 C C (hsm om) om om) (Ds1 15 (Se0 C (Cx (α:=Ev) (xs:=zs) (e:=108) (new:=⟨(e_ zs ((j:Int) - 1)).kd,(e_ zs ((j:Int) - 1)).tm,(e_ zs ((j:Int) - 1)).u,(e_ zs ((j:Int) - 1)).v,(e_ zs ((j:Int) - 1)).w,(e_ zs ((j:Int) - 1)).lb,(e_ zs ((j:Int) - 1)).sg⟩) ty108 C C C om oo am) ?_))
     refine Dr 16 C (Runs.idxs Ev Be ty108 C C (hsm om) om om) (Ds1 17 (Se0 C (Cx (α:=Ev) (xs:=List.set zs ((j:Int)).toNat (⟨(e_ zs ((j:Int) - 1)).kd,(e_ zs ((j:Int) - 1)).tm,(e_ zs ((j:Int) - 1)).u,(e_ zs ((j:Int) - 1)).v,(e_ zs ((j:Int) - 1)).w,(e_ zs ((j:Int) - 1)).lb,(e_ zs ((j:Int) - 1)).sg⟩)) (e:=108) (new:=⟨(e_ zs j).kd,(e_ zs j).tm,(e_ zs j).u,(e_ zs j).v,(e_ zs j).w,(e_ zs j).lb,(e_ zs j).sg⟩) ty108 C C C om oo am) ?_))
     exact Dz (Ak (Aj (Aq (S6 0 1 2 3 8 9 C C C C C C) (Ax (Gm C (Gr (Rsu C C) (Ga C (Bi (B5 ((j - 1),(List.set (List.set zs ((j:Int)).toNat (⟨(e_ zs ((j:Int) - 1)).kd,(e_ zs ((j:Int) - 1)).tm,(e_ zs ((j:Int) - 1)).u,(e_ zs ((j:Int) - 1)).v,(e_ zs ((j:Int) - 1)).w,(e_ zs ((j:Int) - 1)).lb,(e_ zs ((j:Int) - 1)).sg⟩)) ((j:Int) - 1).toNat (⟨(e_ zs j).kd,(e_ zs j).tm,(e_ zs j).u,(e_ zs j).v,(e_ zs j).w,(e_ zs j).lb,(e_ zs j).sg⟩))) (by dsimp only;exact ⟨om,(by have hsw:=ins_swapG (l:=(isortG evC (xs.take i))) (r:=xs.drop (i+1)) (x:=(e_ xs i)) (show 0<j by omega) om;rw [←hzs,←hz0,←hz1 om] at hsw;rw [hz0] at hsw ⊢; rw [show (((j:Int)).toNat)=j by omega,show (((j:Int) - 1).toNat)=j - 1 by omega];exact hsw),((place_stepG om (by rw [←hz1 om,←hz0];assumption)).trans hpl)⟩))))))))))
    ·refine Sr C (Bz (α:=Ev) (xs:=zs) ty108 C Bk om oo) A1 ?_
     refine Ds1 9 (Sr C (Bz (α:=Ev) (xs:=zs) ty108 C Bk om oo) A1 ?_)
     refine Dr 14 C (Runs.idxs Ev Be ty108 C C (hsm om) om om) (Ds1 15 (Se0 C (Cx (α:=Ev) (xs:=zs) (e:=108) (new:=⟨(e_ zs ((j:Int) - 1)).kd,(e_ zs ((j:Int) - 1)).tm,(e_ zs ((j:Int) - 1)).u,(e_ zs ((j:Int) - 1)).v,(e_ zs ((j:Int) - 1)).w,(e_ zs ((j:Int) - 1)).lb,(e_ zs ((j:Int) - 1)).sg⟩) ty108 C C C om oo am) ?_))
     refine Dr 16 C (Runs.idxs Ev Be ty108 C C (hsm om) om om) (Ds1 17 (Se0 C (Cx (α:=Ev) (xs:=List.set zs ((j:Int)).toNat (⟨(e_ zs ((j:Int) - 1)).kd,(e_ zs ((j:Int) - 1)).tm,(e_ zs ((j:Int) - 1)).u,(e_ zs ((j:Int) - 1)).v,(e_ zs ((j:Int) - 1)).w,(e_ zs ((j:Int) - 1)).lb,(e_ zs ((j:Int) - 1)).sg⟩)) (e:=108) (new:=⟨(e_ zs j).kd,(e_ zs j).tm,(e_ zs j).u,(e_ zs j).v,(e_ zs j).w,(e_ zs j).lb,(e_ zs j).sg⟩) ty108 C C C om oo am) ?_))
     exact Dz (Ak (Aj (Aq (S6 0 1 2 3 8 9 C C C C C C) (Ax (Gm C (Gr (Rsu C C) (Ga C (Bi (B5 ((j - 1),(List.set (List.set zs ((j:Int)).toNat (⟨(e_ zs ((j:Int) - 1)).kd,(e_ zs ((j:Int) - 1)).tm,(e_ zs ((j:Int) - 1)).u,(e_ zs ((j:Int) - 1)).v,(e_ zs ((j:Int) - 1)).w,(e_ zs ((j:Int) - 1)).lb,(e_ zs ((j:Int) - 1)).sg⟩)) ((j:Int) - 1).toNat (⟨(e_ zs j).kd,(e_ zs j).tm,(e_ zs j).u,(e_ zs j).v,(e_ zs j).w,(e_ zs j).lb,(e_ zs j).sg⟩))) (by dsimp only;exact ⟨om,(by have hsw:=ins_swapG (l:=(isortG evC (xs.take i))) (r:=xs.drop (i+1)) (x:=(e_ xs i)) (show 0<j by omega) om;rw [←hzs,←hz0,←hz1 om] at hsw;rw [hz0] at hsw ⊢; rw [show (((j:Int)).toNat)=j by omega,show (((j:Int) - 1).toNat)=j - 1 by omega];exact hsw),((place_stepG om (by rw [←hz1 om,←hz0];assumption)).trans hpl)⟩))))))))))
   ·exact Bv (Al (Al (A5 (Ak (Aj (Ax (Gm C (Gr (Rad C C) (Ga C (Bi (B5 ((i+1),(zs)) (by dsimp only;exact ⟨om,(by rw [hzs];exact ins_endsG om hpl (by first|exact .inl om|(by_cases h0:j=0;(· exact .inl h0);(· exact .inr ⟨by omega,by rw [←hz0,←hz1 om];assumption⟩))))⟩))))))))))))
  ·exact Dpo 4 C (Dpo 5 C (Dpo 6 C (Dpo 7 C (Dpo 8 C (Dpo 9 C (Dpo 10 C (Dpo 11 C (Dpo 12 C (Dpo 13 C (Dpo 14 C (Dpo 15 C (Dr 16 C (Ao C C) (Dz (Aj (Aq (S7 34 0 1 2 3 8 9 C C C C C C C) (C2 C (Bv (Al (Al (A5 (Ak (Aj (Ax (Gm C (Gr (Rad C C) (Ga C (Bi (B5 ((i+1),(zs)) (by dsimp only;exact ⟨om,(by rw [hzs];exact ins_endsG om hpl (by first|exact .inl om|(by_cases h0:j=0;(· exact .inl h0);(· exact .inr ⟨by omega,by rw [←hz0,←hz1 om];assumption⟩))))⟩)))))))))))))))))))))))))))))
 ·refine Bv (Al (Al (A5 ?_)))
  have hE:ys=isortG evC xs:=by rw [hy];rcases hi.2 with h|h;(· have e:i=xs.length:=om;rw [e,List.take_length,List.drop_length,List.append_nil]);(· rw [List.take_of_length_le om,List.drop_eq_nil_of_le om,List.append_nil])
  exact V.end0 C (vc 108 (.slice a xs.length c) (isortG evC xs)::I) (by rw [hE];exact A1) ⟨rfl,rfl⟩
theorem StableE_ok{a:Option Addr}{c:Nat}{xs:List Ev}(hn:xs.length<=19):eu prog κ 280 [.slice a xs.length c,e7 ((xs.length:Nat):Int),.func (.func 230) #[] #[]] (vc 108 (.slice a xs.length c) (xs)::I) (λr J=>r = .tuple #[]/\J=vc 108 (.slice a xs.length c) (isortG evC xs)::I):=by
 refine Ce3 Tryz.func280 C C ?_
 refine Ai (Ga C (Af (Ai (Gm C (Ga C (Ga C (Af (Ap (A0 (B1 (σ:=Nat) (λs=>([(0,.slice a xs.length c),(1,e7 ((xs.length:Nat):Int)),(2,.func (.func 230) #[] #[]),(6,e7 20),(7,e7 0),(8,e7 20)]:Env)) (λs=>vc 108 (.slice a xs.length c) (xs)::I) (λs=>True) (λs=>0) 0 (show True from trivial) (Aa C (Aa C (Aa C (Aa C (Aa C (Aa C Bp)))))) (show Fit κ _ (vc 108 (.slice a xs.length c) (xs)::I) from A1) ?_))))))))))
 rintro z hp
 refine Ap (Ai (Gm C (Gm C (Gr (Ey C C) (Af (A8 C (λc13=>?_) (λc13=>?_)))))))
 ·omega
 ·refine Bv (Al (Al (A5 (Aj (Ai (Gm C (Gm C (Gm C (Gm C (Gc1 (Ah call315 C C (Db (J:=vc 108 (.slice a xs.length c) (xs)::I) B7 (InsSortE_ok (xs:=xs) om))) ?_))))))))))
  refine Af (Aq (S4 0 1 2 6 C C C C) (A0 (B1 (σ:=Nat) (λs=>([(0,.slice a xs.length c),(1,e7 ((xs.length:Nat):Int)),(2,.func (.func 230) #[] #[]),(6,e7 20)]:Env)) (λs=>vc 108 (.slice a xs.length c) (isortG evC xs)::I) (λs=>True) (λs=>0) 0 (show True from trivial) (Aa C (Aa C (Aa C (Aa C Bp)))) (show Fit κ _ (vc 108 (.slice a xs.length c) (isortG evC xs)::I) from A1) ?_)))
  rintro z hp
  refine Ap (Ai (Gm C (Gm C (Gr (A7 C C) (Af (A8 C (λc30=>?_) (λc30=>?_)))))))
  ·omega
  ·exact Bv (Al (Al (A5 (V.end0 C (vc 108 (.slice a xs.length c) (isortG evC xs)::I) A1 ⟨rfl,rfl⟩))))
theorem SortStableE_ok{a:Option Addr}{c:Nat}{xs:List Ev}(hn:xs.length<=19):eu prog κ 229 [.slice a xs.length c,.func (.func 230) #[] #[]] (vc 108 (.slice a xs.length c) (xs)::I) (λr J=>r = .tuple #[]/\J=vc 108 (.slice a xs.length c) (isortG evC xs)::I):=by
 refine Ce2 Tryz.func229 C C ?_
 refine Ax (Gm C (Gm C (Gr (Bs Be C) (Gm C (Gc1 (Ah call280 C C (Db (J:=vc 108 (.slice a xs.length c) (xs)::I) B7 (StableE_ok (xs:=xs) om))) ?_)))))
 exact Bi (V.end0 C (vc 108 (.slice a xs.length c) (isortG evC xs)::I) A1 ⟨rfl,rfl⟩)
theorem late_yes{kd wd:Int}{xs:List Lk}{k:Nat}(h:k<xs.length)(h1:kd=2)(h2:(e_ xs k).tm+wd<=1048576):lateL kd wd (xs.take (k+1))=lateL kd wd (xs.take k)++[cutAt wd (e_ xs k)]:=by
 rw [lateL_take h,if_pos (show lateP kd wd (e_ xs k)=true from decide_eq_true ⟨h1,h2⟩)]
theorem late_no{kd wd:Int}{xs:List Lk}{k:Nat}(h:k<xs.length)(h1:¬kd=2\/¬(e_ xs k).tm+wd<=1048576):lateL kd wd (xs.take (k+1))=lateL kd wd (xs.take k):=by
 rw [lateL_take h,if_neg (λh=>by have h3:=of_decide_eq_true h;rcases h1 with h1|h1<;>omega),List.append_nil]
theorem Late_ok{nd kd wd mo:Int}{va:Value}{xs:List Lk}(hl:Sl κ I va xs)(hv:checkS nd xs=0)(hw:0<=wd/\wd<=1048576)(hsz:xs.length<=19):eu prog κ 166 [.agg #[e7 nd,va],.agg #[e7 kd,e7 wd,e7 mo]] I (λr J=>∃a c,r = .slice a (isortG evC (lateL kd wd xs)).length c/\J=vc 108 (.slice a (isortG evC (lateL kd wd xs)).length c) (isortG evC (lateL kd wd xs))::I):=by
 refine B8 hl.le λhmax=>?_
 refine Ce2 Tryz.func166 C C ?_
 refine Ai (Ge1 (A9 (cs:=[_,_]) C C C) λb1=>Ge1 (A9 (cs:=[_,_,_]) C C C) λb2=>Ga C (Af (Ai (Ga C (Af (Ap (Ai (Gf fld111_1 C (Gl ty109 ?_)))))))))
 refine Gr (B0 (α:=Lk) (xs:=xs) A4 C (Ba hl)) (Gm C (Af (A0 (B1 (σ:=Nat×(Option Addr)×Nat×(List Ev)) (λs=>([(3,.pointer (some ⟨b2,0,none⟩)),(5,.slice s.2.1 s.2.2.2.length s.2.2.1),(10,va),(11,e7 ((xs.length:Nat):Int)),(12,e7 ((s.1:Nat):Int))]:Env)) (λs=>vc 108 (.slice s.2.1 s.2.2.2.length s.2.2.1) (s.2.2.2)::e8 b2 [e7 kd,e7 wd,e7 mo] 31::e8 b1 [e7 nd,va] 111::I) (λs=>(s.1<=xs.length)/\(s.2.2.2=lateL kd wd (xs.take s.1))) (λs=>xs.length - s.1) (0,none,0,[]) (show ((0:Nat)<=xs.length)/\(([]:List Ev)=lateL kd wd (xs.take (0:Nat))) from ⟨om,rfl⟩) (Aa C (Aa (Dl C (by first|rfl|simp)) (Aa C (Aa C (Aa Ca Bp))))) (show Fit κ _ (vc 108 (.slice none ([]).length 0) (([]))::e8 b2 [e7 kd,e7 wd,e7 mo] 31::e8 b1 [e7 nd,va] 111::I) from (B2 _ _)) ?_))))
 rintro ⟨k,a,c,out⟩ hp
 dsimp only at hp ⊢
 obtain ⟨hk,ho⟩:=hp
 have hol:out.length<=k:=by rw [ho];have h1:=lateL_len kd wd (xs.take k);rw [List.length_take] at h1;omega
 refine Ai (Gr (A7 C C) (Af (Ap (A8 C (λc13=>?_) (λc13=>?_)))))
 ·refine Ay (Aj (Ap (A0 (Ai (Gr (Az (α:=Lk) (xs:=xs) A4 ty146 C C (Ba hl) om om) (Gr (Bz (α:=Lk) (xs:=xs) ty146 C (Ba hl) om om) (Ge1 (Au ty146 C) λb3=>Ge0 (Eo ty146) ?_)))))))
  have htk:=checkS_tm hv (k:Int) om om
  refine Af (Ai (Gf fld146_5 C (Gl ef ?_)))
  refine Gf fld31_1 C (Gl ef ?_)
  refine Gr (Rad C C) (Ga C (Af (Aq (S7 8 7 3 5 10 11 12 C C C C C C C) (Ai (Gf fld31_0 C (Gl ef ?_))))))
  refine Gr (Bu C C) (Gm C (Bg (d:=24) C (λg24=>?_) (λg24=>?_)))
  ·refine e9 (Ad C) (e9 (Ey C C) (Gr (Ar C C) (Af (Aq (S8 27 8 7 3 5 10 11 12 C C C C C C C C) (A8 C (λc27=>?_) (λc27=>?_))))))
   ·refine Ax (Gm C (Gm C (Gf fld146_0 C (Gl ef ?_))))
    refine Gf fld146_1 C (Gl ef ?_)
    refine Gr (Bc (cells:=[_,_,_,_,_,_,_]) ty108 D1 pl108 C C) (Ge1 (Cf (α:=Ev) (cs:=[e7 2,e7 (((e_ xs k).tm)+wd),e7 ((e_ xs k).u),e7 ((e_ xs k).v),e7 0,e7 0,e7 0]) (xs:=[⟨2,((e_ xs k).tm)+wd,(e_ xs k).u,(e_ xs k).v,0,0,0⟩]) Be ty108 C C dc dc C kr C C) λad4=>?_)
    refine Ge2 (Cm (α:=Ev) (e:=108) (xs:=out) (ys:=([⟨2,((e_ xs k).tm)+wd,(e_ xs k).u,(e_ xs k).v,0,0,0⟩]:List Ev)) Be ty108 C C C mm Bk lcn dc C (λ_ _=>am)) λad5 cp6=>?_
    exact Ga C (Bi (Ak (Aj (Aq (S5 5 3 10 11 12 C C C C C) (Ax (Gr (Rad C C) (Gm C (Bi (B5 ((k+1),(ad5),(cp6),(out++([⟨2,((e_ xs k).tm)+wd,(e_ xs k).u,(e_ xs k).v,0,0,0⟩]:List Ev))) (by dsimp only;exact ⟨om,(by first|(rw [late_yes om g24 asm,←ho];rfl)|(rw [late_no om (.inl g24),←ho])|(rw [late_no om (.inr asm),←ho]))⟩))))))))))
   ·exact Ay (Ak (Aj (Ax (Gr (Rad C C) (Gm C (Bi (B5 ((k+1),(a),(c),(out)) (by dsimp only;exact ⟨om,(by first|(rw [late_yes om g24 asm,←ho];rfl)|(rw [late_no om (.inl g24),←ho])|(rw [late_no om (.inr asm),←ho]))⟩))))))))
  ·exact eb (eb (Gr (Ao C C) (Af (Aq (S8 27 8 7 3 5 10 11 12 C C C C C C C C) (C2 C (Ay (Ak (Aj (Ax (Gr (Rad C C) (Gm C (Bi (B5 ((k+1),(a),(c),(out)) (by dsimp only;exact ⟨om,(by first|(rw [late_yes om g24 asm,←ho];rfl)|(rw [late_no om (.inl g24),←ho])|(rw [late_no om (.inr asm),←ho]))⟩))))))))))))))
 ·refine Bv (Al (Al (A5 (Aj (Ai (Gm C (Gc1 (Ah call229 C C (Db (J:=vc 108 (.slice a out.length c) (out)::e8 b2 [e7 kd,e7 wd,e7 mo] 31::e8 b1 [e7 nd,va] 111::I) B7 (SortStableE_ok (xs:=out) om))) ?_)))))))
  refine Af (Ai (Gm C (Ga C (Af (A2 ?_)))))
  have hE:out=lateL kd wd xs:=by rw [ho,List.take_of_length_le om]
  have hEl:(isortG evC out).length=out.length:=(isort_permG evC out).length_eq
  exact A6 C C (vc 108 (.slice a (isortG evC (lateL kd wd xs)).length c) (isortG evC (lateL kd wd xs))::I) (by rw [←hE,hEl];exact B7) ⟨a,c,by rw [←hE,hEl],rfl⟩
end Go.Sl
namespace Go.Sl
open Go.RowKit (Below)
section
variable {P:Program}{κ:Ctx}{N:Frm}{Q:Exit->Act->World->Prop}{L:Env}{I J:List Item}{ops:Array Oper}{l m:Nat}
theorem WR.cond{c:Operand}{x y:Code}{t:Bool}(hc:er L c=some (.bool t))(h1:t=true->WR P κ N l m x Q L I)(h2:t=false->WR P κ N l m y Q L I):WR P κ N l m (.cond c x y) Q L I:=
 λa w ha hs=>wpIn_cond_split (ha.eval hc) (λh=>h1 h a w ha hs) (λh=>h2 h a w ha hs)
theorem WR.ite{c:Operand}{x y:Code}{p:Prop}[Decidable p](hc:er L c=some (.bool (decide p)))(h1:p->WR P κ N l m x Q L I)(h2:¬p->WR P κ N l m y Q L I):WR P κ N l m (.cond c x y) Q L I:=
 WR.cond hc (λh=>h1 (of_decide_eq_true h)) (λh=>h2 (of_decide_eq_false h))
theorem WR.no{c:Operand}{x y:Code}(hc:er L c=some (.bool false))(h:WR P κ N l m y Q L I):WR P κ N l m (.cond c x y) Q L I:=WR.cond hc (λe=>by cases e) (λ_=>h)
theorem WR.skip(h:V κ N Q .normal L I):WR P κ N l m .skip Q L I:=λa w ha hs=>wpIn_skip (h a w ha hs)
theorem WR.exit{id:Nat}(h:V κ N Q (.exit id) L I):WR P κ N l m (.exit id) Q L I:=λa w ha hs=>wpIn_exit (h a w ha hs)
theorem WR.ret(h:V κ N Q .ret L I):WR P κ N l m .ret Q L I:=λa w ha hs=>wpIn_ret (h a w ha hs)
def YieldB(P:Program)(κ:Ctx)(l:Nat)(args:List Value)(I:List Item)(Post:Bool->List Item->Prop):Prop:=∀w,Sep κ w I->YieldAt Fence.wide 0 P l args.toArray w λe w'=>∃b,e = .returned (.bool b)/\∃J,Post b J/\Sep κ w' J
theorem V.roundB{r:Loop}{Post:Bool->List Item->Prop}(J:List Item)(hf:Fit κ I (recI l {r with state:= .busy}::J))(hp:r.state = .ready/\r.pending=none)(hP:Post true (recI l r::J)):V κ N (roundPost P l λe w'=>∃b,e = .returned (.bool b)/\∃K,Post b K/\Sep κ w' K) .normal L I:=λa w ha hs=>by
 have hs':=hf w hs
 have hl:=(hs'.ok _ List.mem_cons_self).1
 refine ⟨_,_,run_endRound none hl,true,rfl,?_⟩
 have e:({({r with state:= .busy}:Loop) with state:=if (none:Option Code).isNone then .ready else .done,pending:=none}:Loop)=r:=by
  obtain ⟨h1,h2⟩:=hp
  cases r;simp_all
 rw [e]
 exact ⟨_,hP,hs'.putRec⟩
theorem V.roundX{r:Loop}{Post:Bool->List Item->Prop}{id:Nat}(J:List Item)(hf:Fit κ I (recI l {r with state:= .busy}::J))(hP:Post false (recI l {r with state:= .done,pending:=some (.exit id)}::J)):V κ N (roundPost P l λe w'=>∃b,e = .returned (.bool b)/\∃K,Post b K/\Sep κ w' K) (.exit id) L I:=λa w ha hs=>by
 have hs':=hf w hs
 have hl:=(hs'.ok _ List.mem_cons_self).1
 exact ⟨_,_,run_endRound (some (.exit id)) hl,false,rfl,_,hP,hs'.putRec⟩
theorem V.roundRet{r:Loop}{Post:Bool->List Item->Prop}(J:List Item)(hf:Fit κ I (recI l {r with state:= .busy}::J))(hP:Post false (recI l {r with state:= .done,pending:=some .ret}::J)):V κ N (roundPost P l λe w'=>∃b,e = .returned (.bool b)/\∃K,Post b K/\Sep κ w' K) .ret L I:=λa w ha hs=>by
 have hs':=hf w hs
 have hl:=(hs'.ok _ List.mem_cons_self).1
 exact ⟨_,_,run_endRound (some .ret) hl,false,rfl,_,hP,hs'.putRec⟩
theorem YieldB.mk{r:Loop}{Post:Bool->List Item->Prop}{args:List Value}{L₁:Env}(hps:args.length=r.params.size)(hrd:r.state = .ready/\r.pending=none){body:Code}(hb:r.body=body)
  (hassign:∀(w:World) (K:Act->World->Prop),(∀a₁,Ag N a₁ L₁->K a₁ w)->r.assign.wpIn (Fence.wide.inRound l) 0 P (Exit.then K (λ_ _ _=>False)) {tmps:=(r.params.zip args.toArray).foldl (λt (p,v)=>t.setIfInBounds p v) r.tmps,defers:=[]} w)
  (hbody:WR P κ N l 0 body (roundPost P l λe w'=>∃b,e = .returned (.bool b)/\∃K,Post b K/\Sep κ w' K) L₁ (recI l {r with state:= .busy}::I)) :
  YieldB P κ l args (recI l r::I) Post:=λw hs=>by
 have hl:=(hs.ok _ List.mem_cons_self).1
 refine ⟨_,_,_,_,run_yield hl (by simpa using hps),roundIn_of_wpIn trivial ?_⟩
 refine hassign w _ λa₁ ha=>⟨_,run_beginRound hl hrd.1,?_⟩
 have h:=hbody a₁ _ ha hs.putRec
 rw [←hb] at h
 exact h
theorem fold_two(tm:Array Value)(p q:Tmp)(v u:Value):(#[p,q].zip [v,u].toArray).foldl (λt (p,v)=>t.setIfInBounds p v) tm=(tm.setIfInBounds p v).setIfInBounds q u:=by simp
theorem GY.yieldB{rest:List Oper}{Post:Bool->List Item->Prop}{l dd:Nat}{x:Operand}{xs:List Operand}{vs:List Value}{ats:Array TypeId}{ty:TypeId}{ps:String}{af:Array Edge}{gd:Option (Nat×Bool)}
  (hw:Wanted N ops ⟨some dd,.call {callee:= .value x,args:=xs.toArray,argTypes:=ats},ty,ps,af,gd⟩ L) (hfv:er L x=some (.func (.yield l) #[] #[])) (hx:evalL L xs=some vs) (hN:Nat.blt dd N.n=true) (hy:YieldB P κ l vs I Post)
  (h:∀b J,Post b J->GY P κ N ops Q rest ((dd,.bool b)::L) J):GY P κ N ops Q (⟨some dd,.call {callee:= .value x,args:=xs.toArray,argTypes:=ats},ty,ps,af,gd⟩::rest) L I:=λa w ha hs=>by
 obtain ⟨fn,tmps,assign,body,hyr,hR⟩:=hy w hs
 have he:(execOp a.eval ⟨some dd,.call {callee:= .value x,args:=xs.toArray,argTypes:=ats},ty,ps,af,gd⟩).run P w = .ok (.round l fn tmps assign body) w:=by
  simp only [execOp,resolve,ha.eval hfv,Deferred.ofValue,invoke,Sem.run_bind,Sem.run_pure,Result.andThen_ok,List.map_toArray,ha.evalL hx]
  simpa using hyr
 unfold wpListIn
 rw [if_pos (hw a ha)]
 refine ⟨λ_ _=>trivial,?_⟩
 simp only [Fence.wide_round,Oper.semAt_none,he,Oper.uponIn]
 refine ⟨λhd=>by simp [Fence.wide] at hd,hR.mono λe w' ⟨b,h1,J,hP,h2⟩=>?_⟩
 subst h1
 exact h b J hP _ w' (ha.put dd hN _) h2
theorem GY.pass{o:Oper}{rest:List Oper}{d:Nat}(hw:Unwanted N ops o L)(hd:o.dst=some d)(hN:Nat.blt d N.n=true)(h:GY P κ N ops Q rest ((d,undef)::L) I):GY P κ N ops Q (o::rest) L I:=
 λa w ha hs=>by
  unfold wpListIn
  rw [if_neg (by simp [hw a ha])]
  rw [hd]
  exact ⟨λ_ _=>trivial,h _ w (ha.put d hN _) hs⟩
theorem YieldB.fit{l:Nat}{args:List Value}{Post:Bool->List Item->Prop}(hf:Fit κ I J)(h:YieldB P κ l args J Post):YieldB P κ l args I Post:=λw hs=>h w (hf w hs)
theorem perm_fr{A L T:List Item}:(A++(L++T)).Perm (L++(A++T)):=by
 rw [←List.append_assoc,←List.append_assoc];exact List.perm_append_comm.append_right T
theorem W.rangeFnB{g:Operand}{ps:Array Tmp}{assign body:Code}{gf:FuncId}{lb:List Value}(hg:er L g=some (.func (.func gf) #[] lb.toArray))(hc:callable P gf=true)
  (h:∀(D l:Nat) (r:Loop),(r.state = .ready/\r.pending=none)->r.params=ps->r.assign=assign->r.body=body->Ag ⟨N.n,[]⟩ {tmps:=r.tmps,defers:=[]} L->
   eu P κ gf (.func (.yield l) #[] #[]::lb) (recI l r::dfrI D::I) λv K=>
    (∃J,K=recI l r::dfrI D::J/\V κ ⟨N.n,markD D::N.ds⟩ Q .normal L (dfrI D::J))\/
    ∃c J,K=recI l {r with state:= .done,pending:=some c}::dfrI D::J/\W P κ ⟨N.n,markD D::N.ds⟩ c Q L (dfrI D::J)) :
  W P κ N (.rangeFunc g ps assign body) Q L I:=λa w ha hs=>by
 refine (wpIn_wide (n:=0)).1 (wpIn_rangeFunc ?_)
 intro fn _
 obtain ⟨r,hr⟩:∃r:Loop,r={state:= .ready,pending:=none,fn,tmps:=a.tmps,params:=ps,assign,body,defers:=w.heap.size}:=⟨_,rfl⟩
 obtain ⟨W1,hW1⟩:∃W1,(w.alloc (.deferred (some []))).alloc (.loop r)=W1:=⟨_,rfl⟩
 have hD1:(w.alloc (.deferred (some []))).heap[w.heap.size]? = some (.deferred (some [])):=World.alloc_heap_new w _
 have s1:Sep κ (w.alloc (.deferred (some []))) (dfrI w.heap.size::I):=hs.new (hs.alloc _) hD1 λk hk=>by obtain rfl:k=_:=hk;exact ⟨Nat.le_refl _,by simp⟩
 have hL1:W1.heap[w.heap.size+1]? = some (.loop r):=by
  rw [←hW1];have:=World.alloc_heap_new (w.alloc (.deferred (some []))) (.loop r);rwa [World.size_alloc] at this
 have s2:Sep κ W1 (recI (w.heap.size+1) r::dfrI w.heap.size::I):=by
  rw [←hW1]
  exact s1.new (s1.alloc _) (by rw [hW1];exact hL1) λk hk=>by obtain rfl:k=_:=hk;exact ⟨by simp,by simp⟩
 have hcall:=h w.heap.size (w.heap.size+1) r (by rw [hr];exact ⟨rfl,rfl⟩) (by rw [hr]) (by rw [hr]) (by rw [hr]) ⟨rfl,by rw [hr];exact ha.size,by rw [hr];exact ha.get⟩ W1 s2
 refine ⟨w.heap.size+1,[markD w.heap.size],W1,{target:= .fn (.func gf) lb.toArray,args:= #[.func (.yield (w.heap.size+1)) #[] #[]]},W1,gf, #[.func (.yield (w.heap.size+1)) #[] #[]]++lb.toArray,W1,?_,?_,λ_ _=>trivial,?_,λhd=>by simp [Fence.wide] at hd,?_⟩
 ·rw [←hW1,hr];exact run_enterLoop_outer _ _ _ _ _
 ·simp only [resolve,ha.eval hg]
  simp [go_sem]
 ·simp [invoke,go_sem,run_callFunc hc]
 ·refine callsIn_wide.2 ?_
  have e1:(#[.func (.yield (w.heap.size+1)) #[] #[]]++lb.toArray:Array Value)=(Value.func (.yield (w.heap.size+1)) #[] #[]::lb).toArray:=by simp
  rw [e1]
  have hag:∀(N':Frm) (t:Array Value),True->True:=λ_ _ _=>trivial
  refine hcall.mono λe w' ⟨v,K,he,hK,hs'⟩=>?_
  subst he
  rcases hK with ⟨J,hK,hV⟩|⟨c,J,hK,hW⟩
  ·subst hK
   have hl:=(hs'.ok _ List.mem_cons_self).1
   have hst:r.state ≠ .busy:=by rw [hr];exact λh=>by cases h
   refine ⟨_,_,run_endLoop hl hst,?_⟩
   have hp:r.pending=none:=by rw [hr]
   rw [hp]
   exact hV _ _ ⟨by show [markD w.heap.size]++a.defers=_;rw [ha.defers];rfl,ha.size,ha.get⟩ hs'.putRec.tail
  ·subst hK
   have hl:=(hs'.ok _ List.mem_cons_self).1
   refine ⟨_,_,run_endLoop hl (λh=>by cases h),?_⟩
   exact wpIn_wide.2 (hW _ _ ⟨by show [markD w.heap.size]++a.defers=_;rw [ha.defers];rfl,ha.size,ha.get⟩ hs'.putRec.tail)
end
end Go.Sl
/- Searching what is left of a network: the plain law of the search by layers. No Go. -/
namespace Go.Sl
section
variable (n:Net)(f out:List Int)
def un:Nat:=out.count (-1)
end
section
variable {n:Net}{f out todo:List Int}{x:Int}{k1 k2:Nat}
theorem un_set{y i:Int}(hy:0<=y/\y<out.length)(h:e_ out y = -1)(hi:i ≠ -1):un (out.set y.toNat i)+1=un out:=by
 unfold un
 have hl:y.toNat<out.length:=by omega
 have hg:out[y.toNat] = -1:=by rw [at_eq hy.1 hy.2] at h;exact h
 rw [List.count_set hl]
 have hpos:0<out.count (-1):=List.count_pos_iff.2 (hg▸List.getElem_mem hl)
 have e1:(out[y.toNat]==(-1:Int))=true:=by simp [hg]
 have e2:(i==(-1:Int))=false:=by simpa using hi
 rw [e1,e2]
 simp only [if_true,Bool.false_eq_true,if_false]
 omega
end
end Go.Sl
/- Flows and cuts: the plain law. No Go. -/
namespace Go.Sl
def netF(n:Net)(f:List Int)(v:Int):Int:=
 sumN n.arcs.length λk=>(if (e_ n.arcs k).frm=v then e_ f k else 0) - (if (e_ n.arcs k).dst=v then e_ f k else 0)
structure IsFlow (n:Net) (f:List Int):Prop where
 len:f.length=n.arcs.length
 cap:∀k:Nat,k<n.arcs.length->0<=e_ f k/\e_ f k<=(e_ n.arcs k).cap
 cons:∀v,0<=v->v<n.nodes->v≠n.source->v≠n.sink->netF n f v=0
def cutS(n:Net)(S:Int->Bool):Int:=sumN n.arcs.length λk=>if S (e_ n.arcs k).frm && !S (e_ n.arcs k).dst then (e_ n.arcs k).cap else 0
theorem arc_at{n:Net}(hok:n.Ok){k:Nat}(hk:k<n.arcs.length):(0<=(e_ n.arcs k).frm/\(e_ n.arcs k).frm<n.nodes)/\(0<=(e_ n.arcs k).dst/\(e_ n.arcs k).dst<n.nodes)/\(e_ n.arcs k).frm≠(e_ n.arcs k).dst/\0<=(e_ n.arcs k).cap/\(e_ n.arcs k).cap<=1099511627776:=
 hok.arc _ (Bf om om)
theorem sumN_ind{m:Nat}{v:Int}(h0:0<=v)(h1:v<m)(S:Int->Bool)(c:Int):sumN m (λj=>if S (j:Int) then (if v=(j:Int) then c else 0) else 0)=if S v then c else 0:=by
 have e:v=((v.toNat:Nat):Int):=by omega
 rw [C7 m (h:=λj=>if j=v.toNat then (if S v then c else 0) else 0) λj hj=>?_]
 ·exact sumN_at om _
 ·by_cases hj:j=v.toNat
  ·subst hj;rw [if_pos rfl,←e,if_pos rfl]
  ·rw [if_neg hj,if_neg (show ¬v=(j:Int) by omega)];split<;>rfl
theorem value_cut{n:Net}(hok:n.Ok){f:List Int}(hf:IsFlow n f)(S:Int->Bool)(hs:S n.source=true)(ht:S n.sink=false) :
  netF n f n.source=sumN n.arcs.length λk=>(if S (e_ n.arcs k).frm && !S (e_ n.arcs k).dst then e_ f k else 0) - (if S (e_ n.arcs k).dst && !S (e_ n.arcs k).frm then e_ f k else 0):=by
 have hsrc:=hok.src
 -- the sum of what goes out of the nodes of S
 have h1:sumN n.nodes.toNat (λv=>if S (v:Int) then netF n f (v:Int) else 0)=netF n f n.source:=by
  rw [C7 n.nodes.toNat (h:=λj=>if j=n.source.toNat then netF n f n.source else 0) λj hj=>?_]
  ·exact sumN_at om _
  ·by_cases hj':j=n.source.toNat
   ·subst hj'
    rw [if_pos rfl,show ((n.source.toNat:Nat):Int)=n.source from by omega,hs];simp
   ·rw [if_neg hj']
    by_cases hS:S (j:Int)=true
    ·rw [if_pos hS]
     refine hf.cons _ om om (λe=>hj' om) λe=>?_
     rw [e,ht] at hS;cases hS
    ·rw [if_neg hS]
 rw [←h1]
 have h2:sumN n.nodes.toNat (λv=>if S (v:Int) then netF n f (v:Int) else 0) =
   sumN n.nodes.toNat (λv=>sumN n.arcs.length λk=>(if S (v:Int) then (if (e_ n.arcs k).frm=(v:Int) then e_ f k else 0) else 0) - (if S (v:Int) then (if (e_ n.arcs k).dst=(v:Int) then e_ f k else 0) else 0)):=
  C7 _ λv _=>by
   by_cases hS:S (v:Int)=true
   ·rw [if_pos hS];unfold netF
    exact C7 _ λk _=>by rw [if_pos hS,if_pos hS]
   ·rw [if_neg hS]
    exact (Fb _ λk _=>by rw [if_neg hS,if_neg hS];rfl).symm
 rw [h2,sumN_swap]
 refine C7 _ λk hk=>?_
 have ha:=arc_at hok hk
 rw [sumN_sub,sumN_ind ha.1.1 om,sumN_ind ha.2.1.1 om]
 cases S (e_ n.arcs k).frm<;>cases S (e_ n.arcs k).dst<;>simp
theorem value_le{n:Net}(hok:n.Ok){f:List Int}(hf:IsFlow n f)(S:Int->Bool)(hs:S n.source=true)(ht:S n.sink=false):netF n f n.source<=cutS n S:=by
 rw [value_cut hok hf S hs ht]
 refine sumN_le _ λk hk=>?_
 have hc:=hf.cap k hk
 cases S (e_ n.arcs k).frm<;>cases S (e_ n.arcs k).dst<;>simp<;>omega
def Shut(n:Net)(f:List Int)(S:Int->Bool):Prop:=∀k:Nat,k<n.arcs.length->
 (S (e_ n.arcs k).frm=true->e_ f k<(e_ n.arcs k).cap->S (e_ n.arcs k).dst=true)/\
 (S (e_ n.arcs k).dst=true->0<e_ f k->S (e_ n.arcs k).frm=true)
theorem shut_value{n:Net}(hok:n.Ok){f:List Int}(hf:IsFlow n f){S:Int->Bool}(hs:S n.source=true)(ht:S n.sink=false):netF n f n.source=cutS n S↔Shut n f S:=by
 rw [value_cut hok hf S hs ht]
 have hle:∀k,k<n.arcs.length->((if S (e_ n.arcs k).frm && !S (e_ n.arcs k).dst then e_ f k else 0) - (if S (e_ n.arcs k).dst && !S (e_ n.arcs k).frm then e_ f k else 0))<=(if S (e_ n.arcs k).frm && !S (e_ n.arcs k).dst then (e_ n.arcs k).cap else 0):=λk hk=>by
  have hc:=hf.cap k hk
  cases S (e_ n.arcs k).frm<;>cases S (e_ n.arcs k).dst<;>simp<;>omega
 constructor
 ·intro h k hk
  have:=sumN_eq_terms _ hle h k hk
  have hc:=hf.cap k hk
  revert this
  cases h1:S (e_ n.arcs k).frm<;>cases h2:S (e_ n.arcs k).dst<;>simp<;>omega
 ·intro h
  refine C7 _ λk hk=>?_
  have hc:=hf.cap k hk
  have:=h k hk
  revert this
  cases h1:S (e_ n.arcs k).frm<;>cases h2:S (e_ n.arcs k).dst<;>simp<;>omega
end Go.Sl
/- Sending along a way: the plain law. No Go. -/
namespace Go.Sl
section
variable {n:Net}{f out:List Int}{rk:Int->Nat}
theorem netF_set{k:Nat}(hk:k<n.arcs.length){f1:List Int}(hl:f1.length=n.arcs.length)(c v:Int) :
  netF n (f1.set k c) v=netF n f1 v+(if (e_ n.arcs k).frm=v then c - e_ f1 k else 0) - (if (e_ n.arcs k).dst=v then c - e_ f1 k else 0):=by
 have hat:∀j:Nat,e_ (f1.set k c) j=if k=j then c else e_ f1 j:=λj=>at_setn f1 k j c om
 unfold netF
 rw [sumN_upd hk (g:=λk=>(if (e_ n.arcs k).frm=v then e_ f1 k else 0) - (if (e_ n.arcs k).dst=v then e_ f1 k else 0)) (λj hj hjk=>by simp only [hat j,if_neg (λe=>hjk e.symm:¬k=j)])]
 simp only [hat k,if_true]
 split<;>split<;>omega
theorem at_all{p:Int->Prop}{i:Int}{m:Nat}(h:∀k:Nat,k<m->p (k:Int))(h0:0<=i)(hi:i<m):p i:=by
 have:=h i.toNat om
 rwa [show ((i.toNat:Nat):Int)=i from by omega] at this
theorem arc_ok(hok:n.Ok){i:Int}(h0:0<=i)(hi:i<n.arcs.length):(0<=(e_ n.arcs i).frm/\(e_ n.arcs i).frm<n.nodes)/\(0<=(e_ n.arcs i).dst/\(e_ n.arcs i).dst<n.nodes)/\(e_ n.arcs i).frm≠(e_ n.arcs i).dst/\0<=(e_ n.arcs i).cap/\(e_ n.arcs i).cap<=1099511627776:=hok.arc _ (Bf h0 hi)
theorem cap_ok(hf:∀k:Nat,k<n.arcs.length->0<=e_ f k/\e_ f k<=(e_ n.arcs k).cap){i:Int}(h0:0<=i)(hi:i<n.arcs.length):0<=e_ f i/\e_ f i<=(e_ n.arcs i).cap:=at_all (p:=λi=>0<=e_ f i/\e_ f i<=(e_ n.arcs i).cap) hf h0 hi
end
end Go.Sl
