/- A part of the proofs of statements of this seat: contracts of functions, and the plain laws that they lean on. No conditions. -/
import Derived.Test.YtnbkccjkdpolmaaGreatDoorA9
set_option linter.unusedVariables false
set_option linter.unusedSimpArgs false
set_option linter.unusedSectionVars false
open Go.Proofs.Tryz (prog)
namespace Go.Sl
open Go.Proofs
set_option maxRecDepth 4000
variable{a b:Int}
variable {κ:Ctx}{I:List Item}
attribute [local irreducible] W G V D A Runs Eff
structure Fr where
 num:Int
 den:Int
deriving DecidableEq
instance:Inhabited Fr:=⟨⟨0,0⟩⟩
instance:Enc Fr:=⟨λr=>[e7 r.num,e7 r.den],2,by omega,λ_=>rfl,λr u hu=>by
 simp only [List.mem_cons,List.not_mem_nil,or_false] at hu
 rcases hu with rfl|rfl<;>rfl⟩
theorem eqt34:EqT prog 34 Fr:=EqT.flat (λp:Fr=>[p.num,p.den]) (λ_=>rfl) (λx y h=>by cases x;cases y;simpa using h) (n:=2) (λ_=>rfl) kr kr kr kr kr
def gcdI(a b:Int):Int:=((a.toNat.gcd b.toNat:Nat):Int)
theorem gcdI_step(M:0<=a)(h1:0<b):gcdI b (Int.tmod a b)=gcdI a b:=by
 unfold gcdI
 rw [Int.tmod_eq_emod_of_nonneg M,show (a % b).toNat=a.toNat % b.toNat by rw [Int.toNat_emod M om]]
 congr 1
 rw [Nat.gcd_comm a.toNat b.toNat,Nat.gcd_rec b.toNat a.toNat,Nat.gcd_comm]
theorem gcdI_zero(M:0<=a):gcdI a 0=a:=by unfold gcdI;simp;omega
theorem gcdI_pos(M:0<b):0<gcdI a b:=by
 unfold gcdI
 have:0<a.toNat.gcd b.toNat:=Nat.gcd_pos_of_pos_right _ om
 omega
theorem gcdI_le(M:0<b):gcdI a b<=b:=by
 unfold gcdI
 have:a.toNat.gcd b.toNat<=b.toNat:=Nat.le_of_dvd om (Nat.gcd_dvd_right _ _)
 omega
def mkF(a b:Int):Fr:=⟨a / gcdI a b,b / gcdI a b⟩
theorem mkF_num(M:0<=a)(h1:0<b):0<=(mkF a b).num/\(mkF a b).num<=a:=⟨Int.ediv_nonneg M (by have:=gcdI_pos (a:=a) h1;omega),Int.ediv_le_self _ M⟩
theorem mkF_den(M:0<b):1<=(mkF a b).den/\(mkF a b).den<=b:=by
 have hg:=gcdI_pos (a:=a) M
 have hl:=gcdI_le (a:=a) M
 exact ⟨(Int.le_ediv_iff_mul_le hg).2 om,Int.ediv_le_self _ om⟩
theorem RWithin_ok(n m:Int)(h:0<=m/\m<=9223372036854775807):eu prog κ 112 [e7 n,e7 m] I (λr J=>r = .bool (decide (-m<=n/\n<=m))/\I=J):=by
 refine Ce2 Tryz.func112 C C<|Z ?_
 refine Gr (Runs.neg C<|by unfold InR;omega)<|Z ?_
 refine A6 (d:=9) C (λM=>Z ?_)<|λM=>Z ?_
 ·exact Ai C C I Ah ⟨(by first|exact congrArg Value.bool (decide_eq_decide.2<|by skip;omega)|exact congrArg Value.bool (decide_eq_true<|by skip;omega).symm|exact congrArg Value.bool (decide_eq_false<|by skip;omega).symm),rfl⟩
 exact Ai C C I Ah ⟨(by first|exact congrArg Value.bool (decide_eq_decide.2<|by skip;omega)|exact congrArg Value.bool (decide_eq_true<|by skip;omega).symm|exact congrArg Value.bool (decide_eq_false<|by skip;omega).symm),rfl⟩
theorem Common_ok(a b:Int)(h0:0<=a)(h1:0<=b):eu prog κ 113 [e7 a,e7 b] I (λr J=>r=e7 (gcdI a b)/\I=J):=by
 refine Ce2 Tryz.func113 C C<|Z ?_
 refine D7 (σ:=Int×Int) (λs=>[(0,e7<|s.1),(1,e7<|s.2)]) (λ_=>[]) (λs=>(0<=s.1)/\(0<=s.2)/\(gcdI s.1 s.2=gcdI a b)) (λs=>s.2.toNat) (a,b) ⟨om,om,rfl⟩ ?_
 rintro ⟨x,y⟩ hp
 dsimp only at hp ⊢
 obtain ⟨M,hy,hg⟩:=hp
 refine Z ?_
 refine Ap C (λc6=>?_)<|λc6=>Z ?_
 ·refine Bt (Ay<|Bk<|A4 mixed<|Cm I 6<|Z ?_)
  refine Dr 3 C (Runs.rem C C om)<|Z ?_
  have ad:=Int.tmod_nonneg y (a:=x) M
  have ab:=Int.tmod_lt_of_pos x (b:=y) om
  exact B5 ((y),(Int.tmod x y))<|by dsimp only;exact ⟨om,om,((gcdI_step M om).trans hg)⟩
 have aa:y=0:=by omega
 subst aa
 exact Ai C C I Ah ⟨by rw [←hg,gcdI_zero M],rfl⟩
theorem Checked_ok(x:Fr)(h:0<=x.num/\x.num<=1152921504606846976/\x.den<=1152921504606846976):eu prog κ 232 [.agg #[e7 (x.num),e7 (x.den)]] I (λr J=>r = .tuple #[.agg #[e7 x.num,e7 x.den],e7 0]/\I=J):=by
 refine Ce1 Tryz.func232 C C ?_
 refine Ar<|Ge1 (Al (cs:=[_,_]) C C C) λb1=>Ge1 (Am ty34 C) λb2=>Z ?_
 refine G.e (Ac c_ C C<|RWithin_ok x.num 1152921504606846976 om) ?_
 rintro _ _ ⟨_,_,⟨rfl,rfl⟩,rfl,rfl⟩
 refine Z ?_
 refine A6 (d:=8) C (λM=>?_)<|λM=>Z ?_
 ·exact absurd h om
 refine Ap C (λc12=>?_)<|λc12=>Z ?_
 ·exact absurd h om
 refine Ge0 (Cf ty34) ?_
 exact Ga C<|As<|Bf<|D5 C ty34 C C mm C I Ah ⟨rfl,rfl⟩
theorem Lowest_ok(a b:Int)(h0:0<=a/\a<=1152921504606846976)(h1:0<b/\b<=1152921504606846976):eu prog κ 193 [e7 a,e7 b] I (λr J=>r = .tuple #[.agg #[e7 (mkF a b).num,e7 (mkF a b).den],e7 0]/\I=J):=by
 refine Ce2 Tryz.func193 C C ?_
 refine Ar<|Ge1 (Am ty34 C) λb1=>Z ?_
 refine Ap C (λc8=>?_)<|λc8=>Z ?_
 ·exact absurd c8 om
 refine Gr (Runs.neg C<|by unfold InR;omega)<|Z ?_
 refine Gc0 (Ac c_ C C<|Common_ok (if a<(-(a)) then (-(a)) else a) b (by split<;>omega) om)<|Z ?_
 have M:(if a < -a then -a else a)=a:=by rw [if_neg om]
 rw [M]
 refine Z ?_
 refine A4 mixed<|Cr 10<|Z ?_
 have aa:=gcdI_pos (a:=a) h1.1
 refine Z ?_
 refine Dr 2 C (Runs.quo C C om om<|by unfold InR;omega)<|Z ?_
 refine Dr 5 C (Runs.quo C C om om<|by unfold InR;omega)<|Z ?_
 refine Ds1 7<|Sc0 C (Ac c_ C C<|Checked_ok (⟨a / (gcdI a b),b / (gcdI a b)⟩:Fr)<|by have hn:=mkF_num h0.1 h1.1;have hd:=mkF_den (a:=a) h1.1;exact ⟨hn.1,by have:=hn.2;show (mkF a b).num<=_;omega,by have:=hd.2;show (mkF a b).den<=_;omega⟩)<|Z ?_
 refine C3 kr ?_
 refine Ae 10 C (Cf ty34) ?_
 rintro _ _ ⟨rfl,rfl⟩
 refine Fg (i:=11) kr C (Ba C) C C (A0 C) ?_
 refine C4 kr<|Z ?_
 exact D5 C ty34 C C mm C I Ah ⟨rfl,rfl⟩
theorem MakeF_ok(a b:Int)(h0:0<=a/\a<=1152921504606846976)(h1:0<b/\b<=1152921504606846976):eu prog κ 123 [e7 a,e7 b] I (λr J=>r = .tuple #[.agg #[e7 (mkF a b).num,e7 (mkF a b).den],e7 0]/\I=J):=by
 refine Ce2 Tryz.func123 C C ?_
 refine Ar<|Ge1 (Am ty34 C) λb1=>Z ?_
 refine Ap C (λc6=>?_)<|λc6=>?_
 ·exact absurd c6 om
 refine Ar<|Gm C<|G.e (Ac c_ C C<|RWithin_ok a 4611686018427387904 om) ?_
 rintro _ _ ⟨_,_,⟨rfl,rfl⟩,rfl,rfl⟩
 refine Gm C<|A6 (d:=13) C (λM=>?_)<|λM=>?_
 ·refine e9 (Af C) (Dn (B7 C C C) (Ac c_ C C<|RWithin_ok b 4611686018427387904 om) ?_)
  rintro _ _ ⟨_,_,⟨rfl,rfl⟩,rfl,rfl⟩
  refine Z ?_
  refine Ap C (λc10=>Z ?_)<|λc10=>?_
  ·refine Gc0 (Ac c_ C C<|Lowest_ok a b om om) (Z ?_)
   refine Ge0 (Cf ty34)<|Z ?_
   exact D5 C ty34 C C mm C I Ah ⟨rfl,rfl⟩
  exact absurd om c10
 exact absurd om M
end Go.Sl
namespace Go.Sl
open Go.Proofs
set_option maxRecDepth 4000
theorem onesB_bd(m:BitVec 64):0<=onesB m/\onesB m<128:=by unfold onesB;omega

end Go.Sl
namespace Go.Sl
open Go.Proofs
set_option maxRecDepth 4000
attribute [local irreducible] W G V D A Runs Eff
theorem addRow_no{rows:List (BitVec 64)}{e:Pt}(h:¬(0<=e.u/\e.u<e.v/\e.v<rows.length)):addRow rows e=rows:=by unfold addRow;rw [if_neg h]
theorem MRows_ok{κ:Ctx}{I:List Item}{nd:Int}{v:Value}{es:List Pt}(hl:Sl κ I v es):eu prog κ 188 [.agg #[e7 nd,v]] I (λr J=>∃a c,r = .slice a (ek nd es).length c/\J=vc 152 (.slice a (ek nd es).length c) (ek nd es)::I):=by
 refine Bu hl.le λao=>?_
 refine Ce1 Tryz.func188 C C ?_
 refine Ar<|Ge1 (Al (cs:=[_,_]) C C C) λb1=>Z ?_
 refine Ge2 (Cj (α:=(BitVec 64)) (n:=(min (max nd 0) 64).toNat) Cl ty152 C C C om om dc C) λae ab=>Z ?_
 have an:(List.replicate (min (max nd 0) 64).toNat (default:(BitVec 64))).length=(min (max nd 0) 64).toNat:=List.length_replicate
 refine Z ?_
 refine D7 (σ:=Nat×(List<|BitVec 64)) (λs=>[(14,e7 ((s.1:Nat):Int))]) (λs=>[vc 152 (.slice ae (List.replicate ((min (max nd 0) 64).toNat) (default:(BitVec 64))).length ab) (s.2)]) (λs=>(s.1<=es.length)/\(s.2=ek nd (es.take s.1))/\(s.2.length=(min (max nd 0) 64).toNat)) (λs=>es.length - s.1) (0,List.replicate (min (max nd 0) 64).toNat (default:(BitVec 64))) ⟨om,rfl,(by simp)⟩ ?_
 rintro ⟨k,rows⟩ hp
 dsimp only at hp ⊢
 obtain ⟨hk,hr,aa⟩:=hp
 refine Z ?_
 refine Ap C (λaj=>Z ?_)<|λaj=>Z ?_
 ·refine Ge1 (Am ty95 C) λb4=>Ge0 (Cf ty95) (Z ?_)
  refine A6 (d:=21) C (λai=>Z ?_)<|λai=>Z ?_
  ·refine A6 (d:=28) C (λak=>Z ?_) (λak=>Z ?_)
   ·refine Ap C (λah=>?_) (λah=>Z ?_)
    ·refine A5 (A4 mixed<|Cr 10<|Z ?_)
     refine Dr 7 C (Es (a:=1#64) C C om om)<|Dr 8 C (Ey (a:=(e_ rows<|(e_ es k).u)) (b:=(1#64) <<< ((e_ es k).v).toNat) C C)<|Z ?_
     refine C3 kr ?_
     refine Ae 10 C (Ci (α:=(BitVec 64)) (xs:=rows) (e:=152) (new:=(e_ rows<|(e_ es k).u) ||| ((1#64) <<< ((e_ es k).v).toNat)) ty152 C C C om oo am) ?_
     rintro _ _ ⟨rfl,rfl⟩
     refine C4 kr<|Z ?_
     refine A4 mixed<|Cr 10<|Z ?_
     refine Dr 7 C (Es (a:=1#64) C C om om)<|Dr 8 C (Ey (a:=(e_ (List.set rows ((e_ es k).u).toNat ((e_ rows<|(e_ es k).u) ||| ((1#64) <<< ((e_ es k).v).toNat)))<|(e_ es k).v)) (b:=(1#64) <<< ((e_ es k).u).toNat) C C)<|Z ?_
     refine C3 kr ?_
     refine Ae 10 C (Ci (α:=(BitVec 64)) (xs:=List.set rows ((e_ es k).u).toNat ((e_ rows<|(e_ es k).u) ||| ((1#64) <<< ((e_ es k).v).toNat))) (e:=152) (new:=(e_ (List.set rows ((e_ es k).u).toNat ((e_ rows<|(e_ es k).u) ||| ((1#64) <<< ((e_ es k).v).toNat)))<|(e_ es k).v) ||| ((1#64) <<< ((e_ es k).u).toNat)) ty152 C C C om oo am) ?_
     rintro _ _ ⟨rfl,rfl⟩
     refine C4 kr<|Z ?_
     have M:List.set (List.set rows ((e_ es k).u).toNat ((e_ rows<|(e_ es k).u) ||| ((1#64) <<< ((e_ es k).v).toNat))) ((e_ es k).v).toNat ((e_ (List.set rows ((e_ es k).u).toNat ((e_ rows<|(e_ es k).u) ||| ((1#64) <<< ((e_ es k).v).toNat)))<|(e_ es k).v) ||| ((1#64) <<< ((e_ es k).u).toNat))=addRow rows (e_ es k):=by unfold addRow;rw [if_pos om]
     rw [M]
     exact B5 ((k+1),(addRow rows<|e_ es k))<|by dsimp only;exact ⟨om,(by rw [rowsB_take om,←hr];first|done|exact M),(by first|exact aa|(rw [addRow_len];exact aa))⟩
    have M:rows=addRow rows (e_ es k):=(addRow_no om).symm
    exact B5 ((k+1),(rows))<|by dsimp only;exact ⟨om,(by rw [rowsB_take om,←hr];first|done|exact M),(by first|exact aa|(rw [addRow_len];exact aa))⟩
   have M:rows=addRow rows (e_ es k):=(addRow_no om).symm
   exact B5 ((k+1),(rows))<|by dsimp only;exact ⟨om,(by rw [rowsB_take om,←hr];first|done|exact M),(by first|exact aa|(rw [addRow_len];exact aa))⟩
  have M:rows=addRow rows (e_ es k):=(addRow_no om).symm
  exact B5 ((k+1),(rows))<|by dsimp only;exact ⟨om,(by rw [rowsB_take om,←hr];first|done|exact M),(by first|exact aa|(rw [addRow_len];exact aa))⟩
 rw [List.take_of_length_le om] at hr
 subst hr
 have ad:(ek nd es).length=(List.replicate (min (max nd 0) 64).toNat (default:(BitVec 64))).length:=by omega
 exact Ai C C (vc 152 (.slice ae (ek nd es).length ab) (ek nd es)::I) (by rw [ad];exact Aj) ⟨_,_,by rw [ad],rfl⟩
end Go.Sl
namespace Go.Sl
open Go.Proofs
set_option maxRecDepth 4000
variable{ad:Option Addr}{c n:Nat}
section
variable {P:Program}{κ:Ctx}{N:Frm}{L:Env}{I J:List Item}{d:Option Tmp}{ty:TypeId}{ps:String}{af:Array Edge}{gd:Option (Nat×Bool)}
theorem vc.isSome{α:Type}[Enc α]{xs:List α}{e:TypeId}(h:vc e (.slice ad n c) xs∈I):∀w,Sep κ w I->(0<xs.length->ad≠none):=λw hs hlt=>by
 obtain ⟨b,o,cap,h0,_⟩:=((Em (κ:=κ) h) w hs).some hlt
 cases h0
 exact λM=>by cases M
theorem Runs.idxs(α:Type)[Enc α]{x y:Operand}{T E by':Nat}{ag:Bool}{z:List Value}{i:Int}(ht:P.underlying T=some (.slice E))(hE:tyF P E=some (Enc.sz α,ag,by',z))(hx:er L x=some (.slice ad n c))
  (hy:er L y=some (e7 i)) (M:ad≠none) (h0:0<=i) (hn:i<n):Runs P κ N ⟨d,.indexAddr T x y,ty,ps,af,gd⟩ L J (elemPtr (.slice ad n c)<|i.toNat*Enc.sz α):=by
 cases ad with
 |none=>exact absurd rfl M
 |some ad=>exact λa w M hs=>by simp [execOp,M.eval hx,M.eval hy,Instr.indexAt,asIntOf,run_underlying ht,h0,hn,run_sizeOf hE,elemPtr]
end
end Go.Sl
namespace Go.Sl
open Go.Proofs
set_option maxRecDepth 4000
variable{kd nd wd:Int}{xs:List Lk}{c k:Nat}{va:Value}{a:Option Addr}
variable {κ:Ctx}{I:List Item}
attribute [local irreducible] W G V D A Runs Eff
theorem ApplyP_ok{e:Ev}{a0:Option Addr}{c0:Nat}(hv:checkS nd xs=0)(hf:FitOk nd e)(ah:xs.length<=100000):eu prog κ 133 [.agg #[e7 nd,.slice a0 xs.length c0],.agg #[e7 (e.kd),e7 (e.tm),e7 (e.u),e7 (e.v),e7 (e.w),e7 (e.lb),e7 (e.sg)]] (vc 192 (.slice a0 xs.length c0) (xs)::I) (λr J=>∃a c w,r = .tuple #[.agg #[e7 nd,.slice a (ep xs e).length c],w,e7 0]/\J=vc 192 (.slice a (ep xs e).length c) (ep xs e)::I):=by
 refine Ce2 Tryz.func133 C C ?_
 refine Ar<|Ge1 (Al (cs:=[_,_]) C C C) λb1=>Ge1 (Al (cs:=[_,_,_,_,_,_,_]) C C C) λb2=>Ge1 (Am ty130 C) λb3=>Z ?_
 refine G.e (Ac c_ C C<|CheckS_ok (nd:=nd) A7) ?_
 rintro _ _ ⟨_,_,⟨rfl,rfl⟩,rfl,rfl⟩
 refine Z ?_
 refine Ap C (λc13=>Z ?_)<|λc13=>?_
 ·refine Gc0 (Ac c_ C C<|FitsE_ok nd e) (Z ?_)
  refine Ap C (λM=>?_)<|λM=>Z ?_
  ·exact absurd (fitE_ok.2 hf) M
  refine G.e (Ac c_ C C<|StepP_at (by repeat (first|exact AtF.head _ _|apply AtF.tail)) C (checkS_ok hv).2.2 om) ?_
  rintro _ _ ⟨_,_,⟨⟨ae,ai,ad⟩,rfl,rfl⟩,rfl,rfl⟩
  refine Z ?_
  refine Ge1 (Am ty130 C) λb7=>Ge0 (Cf ty130)<|Z ?_
  refine G.e (Ac c_ C C<|CloneL (xs:=ep xs e) A7<|by have h:=stepL_len xs e;omega) ?_
  rintro _ _ ⟨_,_,⟨aa,ab,rfl,rfl⟩,rfl,rfl⟩
  refine Gf fld130_1 C<|Ge0 (Es2_1 ty128)<|Z ?_
  refine Ge0 (Cf ty130)<|Z ?_
  exact D0 C ty130 C C C mm C (vc 192 (.slice aa (ep xs e).length ab) (ep xs e)::I) Bb ⟨aa,ab,ad,rfl,rfl⟩
 exact absurd hv c13
theorem edgesK_take(h:k<xs.length):edgesK (xs.take (k+1))=edgesK (xs.take k)++[(⟨(e_ xs k).u,(e_ xs k).v⟩:Pt)]:=by
 unfold edgesK;rw [Ct xs k h,List.map_append];rfl
theorem LEdges_ok(hl:Sl κ I va xs)(ae:xs.length<=100000):eu prog κ 211 [.agg #[e7 nd,va]] I (λr J=>∃a c,r = .agg #[e7 nd,.slice a (edgesK xs).length c]/\J=vc 95 (.slice a (edgesK xs).length c) (edgesK xs)::I):=by
 refine Bu hl.le λab=>?_
 refine Ce1 Tryz.func211 C C ?_
 refine Ar<|Ge1 (Al (cs:=[_,_]) C C C) λb1=>Ge1 (Am ty56 C) λb2=>Z ?_
 refine Ge1 (Am ty56 C) λb3=>Ge0 (Cf ty56)<|Z ?_
 refine D7 (σ:=Nat×(Option Addr)×Nat×(List Pt)) (λs=>[(12,e7 ((s.1:Nat):Int))]) (λs=>[vc 95 (.slice s.2.1 s.2.2.2.length s.2.2.1) (s.2.2.2),e8 b3 [e7 nd,.slice s.2.1 s.2.2.2.length s.2.2.1] 56]) (λs=>(s.1<=xs.length)/\(s.2.2.2=edgesK (xs.take s.1))) (λs=>xs.length - s.1) (0,none,0,[]) ⟨om,rfl⟩ (hI:=(Bw _ _)) ?_
 rintro ⟨k,a,c,out⟩ hp
 dsimp only at hp ⊢
 obtain ⟨hk,ho⟩:=hp
 have ah:out.length=k:=by rw [ho,edgesK_len,List.length_take];omega
 refine Z ?_
 refine Ap C (λc13=>Z ?_)<|λc13=>Z ?_
 ·refine Ge1 (Am ty192 C) λb4=>Ge0 (E9 ty192) (Z ?_)
  refine Ge1 (B9 (α:=Pt) (cs:=[_,_]) (xs:=[⟨(e_ xs k).u,(e_ xs k).v⟩]) Cp ty95 C C dc dc C C C C) λad=>?_
  refine Ge2 (B4 (α:=Pt) (e:=95) (xs:=out) (ys:=([⟨(e_ xs k).u,(e_ xs k).v⟩]:List Pt)) Cp ty95 C C C mm A7 lcn dc C<|λ_ _=>am) λaa M=>?_
  refine Gf fld56_1 C<|Ge0 (Es2_1 ty54)<|Z ?_
  exact B5 ((k+1),(aa),(M),(out++([⟨(e_ xs k).u,(e_ xs k).v⟩]:List Pt)))<|by dsimp only;exact ⟨om,(by rw [edgesK_take om,←ho])⟩
 refine Ge0 (Cf ty56)<|Z ?_
 have hE:out=edgesK xs:=by rw [ho,List.take_of_length_le om]
 exact B0 C ty56 C mm C (vc 95 (.slice a (edgesK xs).length c) (edgesK xs)::I) (by rw [←hE];exact Bb) ⟨a,c,by rw [←hE]<;>rfl,rfl⟩
theorem LGraph_ok(hl:Sl κ I va xs)(hv:checkS nd xs=0)(ab:xs.length<=100000):eu prog κ 135 [.agg #[e7 nd,va]] I (λr J=>∃a c,r = .tuple #[.agg #[e7 nd,.slice a (edgesK xs).length c],e7 0]/\J=vc 95 (.slice a (edgesK xs).length c) (edgesK xs)::I):=by
 refine Ce1 Tryz.func135 C C ?_
 refine Ar<|Ge1 (Al (cs:=[_,_]) C C C) λb1=>Ge1 (Am ty56 C) λb2=>Z ?_
 refine G.e (Ac c_ C C<|CheckS_ok (nd:=nd)<|Au hl) ?_
 rintro _ _ ⟨_,_,⟨rfl,rfl⟩,rfl,rfl⟩
 refine Z ?_
 refine Ap C (λc8=>?_)<|λc8=>Z ?_
 ·exact absurd hv c8
 refine G.e (Ac c_ C C<|LEdges_ok (nd:=nd) (Au hl) om) ?_
 rintro _ _ ⟨_,_,⟨M,aa,rfl,rfl⟩,rfl,rfl⟩
 refine Ge0 (Cf ty56) ?_
 exact Ga C<|As<|Bf<|D5 C ty56 C C mm C (vc 95 (.slice M (edgesK xs).length aa) (edgesK xs)::I) Bb ⟨M,aa,rfl,rfl⟩
theorem LateC_ok(x y:Ev):eu prog κ 210 [.agg #[e7 (x.kd),e7 (x.tm),e7 (x.u),e7 (x.v),e7 (x.w),e7 (x.lb),e7 (x.sg)],.agg #[e7 (y.kd),e7 (y.tm),e7 (y.u),e7 (y.v),e7 (y.w),e7 (y.lb),e7 (y.sg)]] I (λr J=>r=e7 (evC x y)/\I=J):=by
 refine Ce2 Tryz.func210 C C ?_
 refine Ar<|Ge1 (Al (cs:=[_,_,_,_,_,_,_]) C C C) λb1=>Ge1 (Al (cs:=[_,_,_,_,_,_,_]) C C C) λM=>Z ?_
 refine Gc0 (Ac c_ C C<|Compare_ok x.tm y.tm) ?_
 exact Ga C<|As<|Bf<|Ai C C I Ah ⟨by first|rfl|(unfold evC;repeat (first|rfl|omega|split))|(unfold evC;congr 1;repeat (first|rfl|omega|split)),rfl⟩
variable {κ:Ctx}{I:List Item}
theorem InsSortE_ok{xs:List Ev}(hn:xs.length<=1000):eu prog κ 281 [.slice a xs.length c,e7 0,e7 ((xs.length:Nat):Int),.func (.func 210) #[] #[]] (vc 63 (.slice a xs.length c) (xs)::I) (λr J=>r = .tuple #[]/\J=vc 63 (.slice a xs.length c) (isortG evC xs)::I):=by
 refine Bu (p:=0<xs.length->a≠none) (vc.isSome mm) λad=>?_
 refine Ce4 Tryz.func281 C C<|Z ?_
 refine D7 (σ:=Nat×(List Ev)) (λs=>[(8,e7 ((s.1:Nat):Int))]) (λs=>[vc 63 (.slice a xs.length c) (s.2)]) (λs=>(1<=s.1/\(s.1<=xs.length\/s.1=1))/\(s.2=(isortG evC<|xs.take s.1)++xs.drop s.1)) (λs=>xs.length - s.1) (1,xs) ⟨om,(by cases xs<;>rfl)⟩ ?_
 rintro ⟨i,ys⟩ hp
 dsimp only at hp ⊢
 obtain ⟨hi,hy⟩:=hp
 have ai:=λh:i<=xs.length=>isort_tlenG evC h
 have ap:ys.length=xs.length:=by rw [hy,List.length_append,List.length_drop];rcases hi.2 with h|h;(· have:=ai h;omega);(· subst h;cases xs with |nil=>rfl|cons x t=>(have:=ai (by simp);simp at this ⊢; omega))
 refine Z ?_
 refine Ap C (λak=>Z ?_)<|λak=>Z ?_
 ·refine D7 (σ:=Nat×(List Ev)) (λs=>[(9,e7 ((s.1:Nat):Int))]) (λs=>[vc 63 (.slice a xs.length c) (s.2)]) (λs=>(s.1<=i)/\(s.2=insG (isortG evC<|xs.take i) s.1 (e_ xs i)++xs.drop (i+1))/\(placeG evC (isortG evC<|xs.take i) (e_ xs i) s.1=placeG evC (isortG evC<|xs.take i) (e_ xs i) i)) (λs=>s.1) (i,ys) ⟨om,(by rw [hy];exact ins_startG om),rfl⟩ ?_
  rintro ⟨j,zs⟩ hp
  dsimp only at hp ⊢
  obtain ⟨hj,ab,ah⟩:=hp
  have ao:=ai om
  have M:e_ zs j=(e_ xs i):=by rw [ab];exact at_midG om
  have ae:0<j->e_ zs ((j:Int) - 1)=e_ (isortG evC<|xs.take i) ((j:Int) - 1):=λh=>by rw [ab];exact at_prevG h om
  have aq:zs.length=xs.length:=by rw [ab,List.length_append,List.length_drop];unfold insG;rw [List.length_append,List.length_cons,List.length_take,List.length_drop];omega
  refine A5<|A5<|A4 mixed<|Cr 17<|Z ?_
  refine Du (d:=21) C (λan=>Z ?_)<|λan=>?_
  ·refine Ds1 14 (Sc0 C (Cu c_ C C C<|LateC_ok (e_ zs j)<|e_ zs<|(j:Int) - 1)<|Z ?_)
   refine Ap C (λaj=>Z ?_)<|λaj=>Z ?_
   ·refine A4 mixed (Cm I 18<|Z ?_)
    refine Dr 8 C (Runs.idxs Ev Bc ty63 C C (ad om) om om)<|Z ?_
    refine Dr 12 C (Runs.idxs Ev Bc ty63 C C (ad om) om om)<|C0 (rs:=[9,13]) kr C C<|D6 ?_<|Dv ?_
    ·refine Sr C (Dt (α:=Ev) (xs:=zs) ty63 C A7 om oo) Aj ?_
     refine Ds1 13<|Sr C (Dt (α:=Ev) (xs:=zs) ty63 C A7 om oo) Aj ?_
     refine Dr 14 C (Runs.idxs Ev Bc ty63 C C (ad om) om om)<|Ds1 15<|Se0 C (Ci (α:=Ev) (xs:=zs) (e:=63) (new:=⟨(e_ zs<|(j:Int) - 1).kd,(e_ zs<|(j:Int) - 1).tm,(e_ zs<|(j:Int) - 1).u,(e_ zs<|(j:Int) - 1).v,(e_ zs<|(j:Int) - 1).w,(e_ zs<|(j:Int) - 1).lb,(e_ zs<|(j:Int) - 1).sg⟩) ty63 C C C om oo am) ?_
     refine Dr 16 C (Runs.idxs Ev Bc ty63 C C (ad om) om om)<|Ds1 17<|Se0 C (Ci (α:=Ev) (xs:=List.set zs ((j:Int)).toNat (⟨(e_ zs<|(j:Int) - 1).kd,(e_ zs<|(j:Int) - 1).tm,(e_ zs<|(j:Int) - 1).u,(e_ zs<|(j:Int) - 1).v,(e_ zs<|(j:Int) - 1).w,(e_ zs<|(j:Int) - 1).lb,(e_ zs<|(j:Int) - 1).sg⟩)) (e:=63) (new:=⟨(e_ zs j).kd,(e_ zs j).tm,(e_ zs j).u,(e_ zs j).v,(e_ zs j).w,(e_ zs j).lb,(e_ zs j).sg⟩) ty63 C C C om oo am)<|Z ?_
     exact B5 ((j - 1),(List.set (List.set zs ((j:Int)).toNat (⟨(e_ zs<|(j:Int) - 1).kd,(e_ zs<|(j:Int) - 1).tm,(e_ zs<|(j:Int) - 1).u,(e_ zs<|(j:Int) - 1).v,(e_ zs<|(j:Int) - 1).w,(e_ zs<|(j:Int) - 1).lb,(e_ zs<|(j:Int) - 1).sg⟩)) ((j:Int) - 1).toNat (⟨(e_ zs j).kd,(e_ zs j).tm,(e_ zs j).u,(e_ zs j).v,(e_ zs j).w,(e_ zs j).lb,(e_ zs j).sg⟩)))<|by dsimp only;exact ⟨om,(by have aa:=ins_swapG (l:=(isortG evC<|xs.take i)) (r:=xs.drop (i+1)) (x:=(e_ xs i)) (show 0<j by omega) om;rw [←ab,←M,←ae om] at aa;rw [M] at aa ⊢; rw [show (((j:Int)).toNat)=j by omega,show (((j:Int) - 1).toNat)=j - 1 by omega];exact aa),((place_stepG om<|by rw [←ae om,←M];assumption).trans ah)⟩
    refine Sr C (Dt (α:=Ev) (xs:=zs) ty63 C A7 om oo) Aj ?_
    refine Ds1 9<|Sr C (Dt (α:=Ev) (xs:=zs) ty63 C A7 om oo) Aj ?_
    refine Dr 14 C (Runs.idxs Ev Bc ty63 C C (ad om) om om)<|Ds1 15<|Se0 C (Ci (α:=Ev) (xs:=zs) (e:=63) (new:=⟨(e_ zs<|(j:Int) - 1).kd,(e_ zs<|(j:Int) - 1).tm,(e_ zs<|(j:Int) - 1).u,(e_ zs<|(j:Int) - 1).v,(e_ zs<|(j:Int) - 1).w,(e_ zs<|(j:Int) - 1).lb,(e_ zs<|(j:Int) - 1).sg⟩) ty63 C C C om oo am) ?_
    refine Dr 16 C (Runs.idxs Ev Bc ty63 C C (ad om) om om)<|Ds1 17<|Se0 C (Ci (α:=Ev) (xs:=List.set zs ((j:Int)).toNat (⟨(e_ zs<|(j:Int) - 1).kd,(e_ zs<|(j:Int) - 1).tm,(e_ zs<|(j:Int) - 1).u,(e_ zs<|(j:Int) - 1).v,(e_ zs<|(j:Int) - 1).w,(e_ zs<|(j:Int) - 1).lb,(e_ zs<|(j:Int) - 1).sg⟩)) (e:=63) (new:=⟨(e_ zs j).kd,(e_ zs j).tm,(e_ zs j).u,(e_ zs j).v,(e_ zs j).w,(e_ zs j).lb,(e_ zs j).sg⟩) ty63 C C C om oo am)<|Z ?_
    exact B5 ((j - 1),(List.set (List.set zs ((j:Int)).toNat (⟨(e_ zs<|(j:Int) - 1).kd,(e_ zs<|(j:Int) - 1).tm,(e_ zs<|(j:Int) - 1).u,(e_ zs<|(j:Int) - 1).v,(e_ zs<|(j:Int) - 1).w,(e_ zs<|(j:Int) - 1).lb,(e_ zs<|(j:Int) - 1).sg⟩)) ((j:Int) - 1).toNat (⟨(e_ zs j).kd,(e_ zs j).tm,(e_ zs j).u,(e_ zs j).v,(e_ zs j).w,(e_ zs j).lb,(e_ zs j).sg⟩)))<|by dsimp only;exact ⟨om,(by have aa:=ins_swapG (l:=(isortG evC<|xs.take i)) (r:=xs.drop (i+1)) (x:=(e_ xs i)) (show 0<j by omega) om;rw [←ab,←M,←ae om] at aa;rw [M] at aa ⊢; rw [show (((j:Int)).toNat)=j by omega,show (((j:Int) - 1).toNat)=j - 1 by omega];exact aa),((place_stepG om<|by rw [←ae om,←M];assumption).trans ah)⟩
   exact B5 ((i+1),(zs))<|by dsimp only;exact ⟨om,(by rw [ab];exact ins_endsG om ah<|by first|exact .inl om|(by_cases h0:j=0;(· exact .inl h0);(· exact .inr ⟨by omega,by rw [←M,←ae om];assumption⟩)))⟩
  refine Dpo 4 C<|Z ?_
  exact B5 ((i+1),(zs))<|by dsimp only;exact ⟨om,(by rw [ab];exact ins_endsG om ah<|by first|exact .inl om|(by_cases h0:j=0;(· exact .inl h0);(· exact .inr ⟨by omega,by rw [←M,←ae om];assumption⟩)))⟩
 have hE:ys=isortG evC xs:=by rw [hy];rcases hi.2 with h|h;(· have e:i=xs.length:=om;rw [e,List.take_length,List.drop_length,List.append_nil]);(· rw [List.take_of_length_le om,List.drop_eq_nil_of_le om,List.append_nil])
 exact V.end0 C (vc 63 (.slice a xs.length c) (isortG evC xs)::I) (by rw [hE];exact Aj) ⟨rfl,rfl⟩
theorem StableE_ok{xs:List Ev}(hn:xs.length<=19):eu prog κ 247 [.slice a xs.length c,e7 ((xs.length:Nat):Int),.func (.func 210) #[] #[]] (vc 63 (.slice a xs.length c) (xs)::I) (λr J=>r = .tuple #[]/\J=vc 63 (.slice a xs.length c) (isortG evC xs)::I):=by
 refine Ce3 Tryz.func247 C C<|Z ?_
 refine D7 (σ:=Nat) (λ_=>[]) (λ_=>[]) (λs=>True) (λs=>0) 0 (show True from trivial) (E:=[0,1,2,6,7,8]) ?_
 rintro z hp
 refine A5<|Ar<|Gm C<|Gm C<|Gr (Runs.leq C C)<|As<|Ap C (λc13=>?_)<|λc13=>Z ?_
 ·omega
 refine Gc1 (Ac c_ C C<|Cv (J:=vc 63 (.slice a xs.length c) (xs)::I) Bb<|InsSortE_ok (xs:=xs) om)<|Z ?_
 refine D7 (σ:=Nat) (λ_=>[]) (λ_=>[]) (λs=>True) (λs=>0) 0 (show True from trivial) (E:=[0,1,2,6]) ?_
 rintro z hp
 refine A5<|Ar<|Gm C<|Gm C<|Gr (Ch C C)<|As<|Ap C (λM=>?_)<|λM=>Z ?_
 ·omega
 exact V.end0 C (vc 63 (.slice a xs.length c) (isortG evC xs)::I) Aj ⟨rfl,rfl⟩
theorem SortStableE_ok{xs:List Ev}(hn:xs.length<=19):eu prog κ 209 [.slice a xs.length c,.func (.func 210) #[] #[]] (vc 63 (.slice a xs.length c) (xs)::I) (λr J=>r = .tuple #[]/\J=vc 63 (.slice a xs.length c) (isortG evC xs)::I):=by
 refine Ce2 Tryz.func209 C C<|Z ?_
 refine Gc1 (Ac c_ C C<|Cv (J:=vc 63 (.slice a xs.length c) (xs)::I) Bb<|StableE_ok om) ?_
 exact Bi<|V.end0 C (vc 63 (.slice a xs.length c) (isortG evC xs)::I) Aj ⟨rfl,rfl⟩
theorem late_yes(h:k<xs.length)(h1:kd=2)(M:(e_ xs k).tm+wd<=1048576):lateL kd wd (xs.take (k+1))=lateL kd wd (xs.take k)++[cutAt wd (e_ xs k)]:=by
 rw [lateL_take h,if_pos (show lateP kd wd (e_ xs k)=true from decide_eq_true ⟨h1,M⟩)]
theorem late_no(h:k<xs.length)(h1:¬kd=2\/¬(e_ xs k).tm+wd<=1048576):lateL kd wd (xs.take (k+1))=lateL kd wd (xs.take k):=by
 rw [lateL_take h,if_neg (λh=>by have M:=of_decide_eq_true h;rcases h1 with h1|h1<;>omega),List.append_nil]
theorem Late_ok{mo:Int}(hl:Sl κ I va xs)(hv:checkS nd xs=0)(hw:0<=wd/\wd<=1048576)(ak:xs.length<=19):eu prog κ 134 [.agg #[e7 nd,va],.agg #[e7 kd,e7 wd,e7 mo]] I (λr J=>∃a c,r = .slice a (isortG evC (lateL kd wd xs)).length c/\J=vc 63 (.slice a (isortG evC (lateL kd wd xs)).length c) (isortG evC (lateL kd wd xs))::I):=by
 refine Bu hl.le λah=>?_
 refine Ce2 Tryz.func134 C C ?_
 refine Ar<|Ge1 (Al (cs:=[_,_]) C C C) λb1=>Ge1 (Al (cs:=[_,_,_]) C C C) λb2=>Z ?_
 refine D7 (σ:=Nat×(Option Addr)×Nat×(List Ev)) (λs=>[(5,.slice s.2.1 s.2.2.2.length s.2.2.1),(12,e7 ((s.1:Nat):Int))]) (λs=>[vc 63 (.slice s.2.1 s.2.2.2.length s.2.2.1) (s.2.2.2)]) (λs=>(s.1<=xs.length)/\(s.2.2.2=lateL kd wd (xs.take s.1))) (λs=>xs.length - s.1) (0,none,0,[]) ⟨om,rfl⟩ (hI:=(Bw _ _)) ?_
 rintro ⟨k,a,c,out⟩ hp
 dsimp only at hp ⊢
 obtain ⟨hk,ho⟩:=hp
 have an:out.length<=k:=by rw [ho];have h1:=lateL_len kd wd (xs.take k);rw [List.length_take] at h1;omega
 refine Z ?_
 refine Ap C (λc13=>Z ?_)<|λc13=>Z ?_
 ·refine Ge1 (Am ty192 C) λb3=>Ge0 (E9 ty192) ?_
  have ai:=checkS_tm hv (k:Int) om om
  refine Z ?_
  refine A6 (d:=24) C (λM=>Z ?_)<|λM=>Z ?_
  ·refine Ap C (λad=>Z ?_) (λad=>Z ?_)
   ·refine Ge1 (B9 (α:=Ev) (cs:=[e7 2,e7<|((e_ xs k).tm)+wd,e7<|(e_ xs k).u,e7<|(e_ xs k).v,e7 0,e7 0,e7 0]) (xs:=[⟨2,((e_ xs k).tm)+wd,(e_ xs k).u,(e_ xs k).v,0,0,0⟩]) Bc ty63 C C dc dc C kr C C) λaj=>?_
    refine Ge2 (B4 (α:=Ev) (e:=63) (xs:=out) (ys:=([⟨2,((e_ xs k).tm)+wd,(e_ xs k).u,(e_ xs k).v,0,0,0⟩]:List Ev)) Bc ty63 C C C mm A7 lcn dc C<|λ_ _=>am) λae ab=>Z ?_
    exact B5 ((k+1),(ae),(ab),(out++([⟨2,((e_ xs k).tm)+wd,(e_ xs k).u,(e_ xs k).v,0,0,0⟩]:List Ev)))<|by dsimp only;exact ⟨om,(by first|(rw [late_yes om M asm,←ho];rfl)|(rw [late_no om (.inl M),←ho])|(rw [late_no om (.inr asm),←ho]))⟩
   exact B5 ((k+1),(a),(c),(out))<|by dsimp only;exact ⟨om,(by first|(rw [late_yes om M asm,←ho];rfl)|(rw [late_no om (.inl M),←ho])|(rw [late_no om (.inr asm),←ho]))⟩
  exact B5 ((k+1),(a),(c),(out))<|by dsimp only;exact ⟨om,(by first|(rw [late_yes om M asm,←ho];rfl)|(rw [late_no om (.inl M),←ho])|(rw [late_no om (.inr asm),←ho]))⟩
 refine Gc1 (Ac c_ C C<|Cv (J:=vc 63 (.slice a out.length c) (out)::e8 b2 [e7 kd,e7 wd,e7 mo] 31::e8 b1 [e7 nd,va] 130::I) Bb<|SortStableE_ok (xs:=out) om)<|Z ?_
 have hE:out=lateL kd wd xs:=by rw [ho,List.take_of_length_le om]
 have aa:(isortG evC out).length=out.length:=(isort_permG evC out).length_eq
 exact Ai C C (vc 63 (.slice a (isortG evC<|lateL kd wd xs).length c) (isortG evC<|lateL kd wd xs)::I) (by rw [←hE,aa];exact Bb) ⟨a,c,by rw [←hE,aa],rfl⟩
end Go.Sl
/- Searching what is left of a network: the plain law of the search by layers. No Go. -/
namespace Go.Sl
section
variable (n:Net)(f out:List Int)
def un:Nat:=out.count (-1)
end
section
variable {n:Net}{f out todo:List Int}{x:Int}{k1 k2:Nat}
theorem un_set{y i:Int}(hy:0<=y/\y<out.length)(h:e_ out y = -1)(hi:i ≠ -1):un (out.set y.toNat i)+1=un out:=by
 unfold un
 have hl:y.toNat<out.length:=by omega
 have M:out[y.toNat] = -1:=by rw [at_eq hy.1 hy.2] at h;exact h
 rw [List.count_set hl]
 have aa:0<out.count (-1):=List.count_pos_iff.2 (M▸List.getElem_mem hl)
 have e1:(out[y.toNat]==(-1:Int))=true:=by simp [M]
 have e2:(i==(-1:Int))=false:=by simpa using hi
 rw [e1,e2]
 simp only [if_true,Bool.false_eq_true,if_false]
 omega
end
end Go.Sl
/- Flows and cuts: the plain law. No Go. -/
namespace Go.Sl
variable{f:List Int}
def netF(n:Net)(f:List Int)(v:Int):Int:=
 sumN n.arcs.length λk=>(if (e_ n.arcs k).frm=v then e_ f k else 0) - (if (e_ n.arcs k).dst=v then e_ f k else 0)
structure IsFlow (n:Net) (f:List Int):Prop where
 len:f.length=n.arcs.length
 cap:∀k:Nat,k<n.arcs.length->0<=e_ f k/\e_ f k<=(e_ n.arcs k).cap
 cons:∀v,0<=v->v<n.nodes->v≠n.source->v≠n.sink->netF n f v=0
def cutS(n:Net)(S:Int->Bool):Int:=sumN n.arcs.length λk=>if S (e_ n.arcs k).frm && !S (e_ n.arcs k).dst then (e_ n.arcs k).cap else 0
theorem arc_at{n:Net}(M:n.Ok){k:Nat}(hk:k<n.arcs.length):(0<=(e_ n.arcs k).frm/\(e_ n.arcs k).frm<n.nodes)/\(0<=(e_ n.arcs k).dst/\(e_ n.arcs k).dst<n.nodes)/\(e_ n.arcs k).frm≠(e_ n.arcs k).dst/\0<=(e_ n.arcs k).cap/\(e_ n.arcs k).cap<=1099511627776:=
 M.arc _ (Bx om om)
theorem sumN_ind{m:Nat}{v:Int}(M:0<=v)(h1:v<m)(S:Int->Bool)(c:Int):sumN m (λj=>if S (j:Int) then (if v=(j:Int) then c else 0) else 0)=if S v then c else 0:=by
 have e:v=((v.toNat:Nat):Int):=by omega
 rw [Db m (h:=λj=>if j=v.toNat then (if S v then c else 0) else 0) λj hj=>?_]
 ·exact sumN_at om _
 by_cases hj:j=v.toNat
 ·subst hj;rw [if_pos rfl,←e,if_pos rfl]
 rw [if_neg hj,if_neg (show ¬v=(j:Int) by omega)];split<;>rfl
theorem value_cut{n:Net}(hok:n.Ok)(hf:IsFlow n f)(S:Int->Bool)(hs:S n.source=true)(ht:S n.sink=false) :
  netF n f n.source=sumN n.arcs.length λk=>(if S (e_ n.arcs k).frm && !S (e_ n.arcs k).dst then e_ f k else 0) - (if S (e_ n.arcs k).dst && !S (e_ n.arcs k).frm then e_ f k else 0):=by
 have hsrc:=hok.src
 -- the sum of what goes out of the nodes of S
 have h1:sumN n.nodes.toNat (λv=>if S (v:Int) then netF n f (v:Int) else 0)=netF n f n.source:=by
  rw [Db n.nodes.toNat (h:=λj=>if j=n.source.toNat then netF n f n.source else 0) λj hj=>?_]
  ·exact sumN_at om _
  by_cases hj':j=n.source.toNat
  ·subst hj'
   rw [if_pos rfl,show ((n.source.toNat:Nat):Int)=n.source from by omega,hs];simp
  rw [if_neg hj']
  by_cases hS:S (j:Int)=true
  ·rw [if_pos hS]
   refine hf.cons _ om om (λe=>hj' om) λe=>?_
   rw [e,ht] at hS;cases hS
  rw [if_neg hS]
 rw [←h1]
 have h2:sumN n.nodes.toNat (λv=>if S (v:Int) then netF n f (v:Int) else 0) =
   sumN n.nodes.toNat (λv=>sumN n.arcs.length λk=>(if S (v:Int) then (if (e_ n.arcs k).frm=(v:Int) then e_ f k else 0) else 0) - (if S (v:Int) then (if (e_ n.arcs k).dst=(v:Int) then e_ f k else 0) else 0)):=
  Db _ λv _=>by
   by_cases hS:S (v:Int)=true
   ·rw [if_pos hS];unfold netF
    exact Db _ λk _=>by rw [if_pos hS,if_pos hS]
   rw [if_neg hS]
   exact (Fx _ λk _=>by rw [if_neg hS,if_neg hS];rfl).symm
 rw [h2,sumN_swap]
 refine Db _ λk hk=>?_
 have ha:=arc_at hok hk
 rw [sumN_sub,sumN_ind ha.1.1 om,sumN_ind ha.2.1.1 om]
 cases S (e_ n.arcs k).frm<;>cases S (e_ n.arcs k).dst<;>simp
theorem value_le{n:Net}(M:n.Ok)(hf:IsFlow n f)(S:Int->Bool)(hs:S n.source=true)(ht:S n.sink=false):netF n f n.source<=cutS n S:=by
 rw [value_cut M hf S hs ht]
 refine sumN_le _ λk hk=>?_
 have hc:=hf.cap k hk
 cases S (e_ n.arcs k).frm<;>cases S (e_ n.arcs k).dst<;>simp<;>omega
def Shut(n:Net)(f:List Int)(S:Int->Bool):Prop:=∀k:Nat,k<n.arcs.length->
 (S (e_ n.arcs k).frm=true->e_ f k<(e_ n.arcs k).cap->S (e_ n.arcs k).dst=true)/\
 (S (e_ n.arcs k).dst=true->0<e_ f k->S (e_ n.arcs k).frm=true)
theorem shut_value{n:Net}(aa:n.Ok)(hf:IsFlow n f){S:Int->Bool}(hs:S n.source=true)(ht:S n.sink=false):netF n f n.source=cutS n S↔Shut n f S:=by
 rw [value_cut aa hf S hs ht]
 have ab:∀k,k<n.arcs.length->((if S (e_ n.arcs k).frm && !S (e_ n.arcs k).dst then e_ f k else 0) - (if S (e_ n.arcs k).dst && !S (e_ n.arcs k).frm then e_ f k else 0))<=(if S (e_ n.arcs k).frm && !S (e_ n.arcs k).dst then (e_ n.arcs k).cap else 0):=λk M=>by
  have hc:=hf.cap k M
  cases S (e_ n.arcs k).frm<;>cases S (e_ n.arcs k).dst<;>simp<;>omega
 constructor
 ·intro h k M
  have:=sumN_eq_terms _ ab h k M
  have hc:=hf.cap k M
  revert this
  cases h1:S (e_ n.arcs k).frm<;>cases h2:S (e_ n.arcs k).dst<;>simp<;>omega
 intro h
 refine Db _ λk M=>?_
 have hc:=hf.cap k M
 have:=h k M
 revert this
 cases h1:S (e_ n.arcs k).frm<;>cases h2:S (e_ n.arcs k).dst<;>simp<;>omega
end Go.Sl
/- Sending along a way: the plain law. No Go. -/
namespace Go.Sl
variable{i:Int}
section
variable {n:Net}{f out:List Int}{rk:Int->Nat}
theorem netF_set{k:Nat}(hk:k<n.arcs.length){f1:List Int}(hl:f1.length=n.arcs.length)(c v:Int) :
  netF n (f1.set k c) v=netF n f1 v+(if (e_ n.arcs k).frm=v then c - e_ f1 k else 0) - (if (e_ n.arcs k).dst=v then c - e_ f1 k else 0):=by
 have M:∀j:Nat,e_ (f1.set k c) j=if k=j then c else e_ f1 j:=λj=>at_setn f1 k j c om
 unfold netF
 rw [sumN_upd hk (g:=λk=>(if (e_ n.arcs k).frm=v then e_ f1 k else 0) - (if (e_ n.arcs k).dst=v then e_ f1 k else 0)) (λj hj aa=>by simp only [M j,if_neg (λe=>aa e.symm:¬k=j)])]
 simp only [M k,if_true]
 split<;>split<;>omega
theorem at_all{p:Int->Prop}{m:Nat}(h:∀k:Nat,k<m->p (k:Int))(M:0<=i)(hi:i<m):p i:=by
 have:=h i.toNat om
 rwa [show ((i.toNat:Nat):Int)=i from by omega] at this
theorem arc_ok(M:n.Ok)(h0:0<=i)(hi:i<n.arcs.length):(0<=(e_ n.arcs i).frm/\(e_ n.arcs i).frm<n.nodes)/\(0<=(e_ n.arcs i).dst/\(e_ n.arcs i).dst<n.nodes)/\(e_ n.arcs i).frm≠(e_ n.arcs i).dst/\0<=(e_ n.arcs i).cap/\(e_ n.arcs i).cap<=1099511627776:=M.arc _ (Bx h0 hi)
theorem cap_ok(M:∀k:Nat,k<n.arcs.length->0<=e_ f k/\e_ f k<=(e_ n.arcs k).cap)(h0:0<=i)(hi:i<n.arcs.length):0<=e_ f i/\e_ f i<=(e_ n.arcs i).cap:=at_all (p:=λi=>0<=e_ f i/\e_ f i<=(e_ n.arcs i).cap) M h0 hi
end
end Go.Sl
/- The least and the greatest side of a cut: the plain law. No Go. -/
namespace Go.Sl
def sideL(N:Nat)(R:Int->Bool):List Int:=((List.range N).map λk=>((k:Nat):Int)).filter R
theorem sideL_succ(N:Nat)(R:Int->Bool):sideL (N+1) R=sideL N R++if R (N:Int) then [(N:Int)] else []:=by
 unfold sideL
 rw [List.range_succ,List.map_append,List.filter_append]
 congr 1
 by_cases h:R (N:Int)<;>simp [h]
theorem sideL_yes{N:Nat}{R:Int->Bool}(h:R (N:Int)=true):sideL (N+1) R=sideL N R++[(N:Int)]:=by rw [sideL_succ,if_pos h]
theorem sideL_no{N:Nat}{R:Int->Bool}(h:R (N:Int)=false):sideL (N+1) R=sideL N R:=by rw [sideL_succ,h];simp
theorem sideL_len(N:Nat)(R:Int->Bool):(sideL N R).length<=N:=by
 have:=List.length_filter_le R ((List.range N).map λk=>((k:Nat):Int))
 simpa [sideL] using this
structure Great (n:Net) (f:List Int) (T:Int->Bool):Prop where
 src:T n.source=true
 snk:T n.sink=false
 shut:Shut n f T
 great:∀S:Int->Bool,Shut n f S->S n.sink=false->∀z,0<=z->z<n.nodes->S z=true->T z=true
section
variable {n:Net}{f g:List Int}{R R':Int->Bool}
theorem Great.value(M:n.Ok)(hf:IsFlow n f)(h:Great n f R):netF n f n.source=cutS n R:=(shut_value M hf h.src h.snk).2 h.shut
end
theorem cut_nonneg_le{n:Net}(M:n.Ok)(S:Int->Bool):0<=cutS n S/\cutS n S<=18014398509481984:=by
 have h:∀m:Nat,m<=n.arcs.length->0<=sumN m (λk=>if S (e_ n.arcs k).frm && !S (e_ n.arcs k).dst then (e_ n.arcs k).cap else 0)/\sumN m (λk=>if S (e_ n.arcs k).frm && !S (e_ n.arcs k).dst then (e_ n.arcs k).cap else 0)<=(m:Int)*1099511627776:=λm=>by
  induction m with
  |zero=>intro _;simp [sumN]
  |succ m ih=>
   intro hm
   have:=ih om
   have:=arc_at M (k:=m) om
   simp only [sumN]
   split<;>omega
 have:=h n.arcs.length (Nat.le_refl _)
 have:=M.lim
 unfold cutS
 omega
theorem flow_zero(n:Net)(aa:n.Ok):IsFlow n (List.replicate n.arcs.length (0:Int))/\netF n (List.replicate n.arcs.length (0:Int)) n.source=0:=by
 have h0:∀k:Nat,k<n.arcs.length->e_ (List.replicate n.arcs.length (0:Int)) (k:Int)=0:=λk M=>Fy _ _ _ om om
 have hn:∀v,netF n (List.replicate n.arcs.length (0:Int)) v=0:=λv=>Fx _ λk M=>by rw [h0 k M];simp
 exact ⟨⟨by simp,λk M=>by rw [h0 k M];have:=arc_at aa M;omega,λv _ _ _ _=>hn v⟩,hn _⟩
end Go.Sl
/- Searching back from the sink: the plain law. No Go. -/
namespace Go.Sl
end Go.Sl
/- What a check of a flow accepts: the plain law. No Go. -/
namespace Go.Sl
end Go.Sl
/- Networks with one arc more, and turned round; sets between the least and the greatest side: the plain law. No Go. -/
namespace Go.Sl
end Go.Sl
namespace Go.Sl
open Go.Proofs
set_option maxRecDepth 4000
theorem intLin:LinO (λa b:Int=>a<b):=⟨λa h=>by omega,λa b c h1 M=>by omega,λa b=>by omega⟩
theorem putL_eq(x:Int):∀l,putL l x=insB (λa b:Int=>a<b) l x
 |[]=>rfl
 |y::ys=>by simp only [putL,insB,putL_eq x ys]
theorem ofL_eq(l:List Int):ofL l=sortB (λa b:Int=>a<b) l:=by
 unfold ofL sortB
 congr 1
 funext acc x
 exact putL_eq x acc
theorem ofL_asc(l:List Int):(ofL l).Pairwise (λa b:Int=>a<b):=by rw [ofL_eq];exact intLin.sortB l
theorem ValidP_iff{l:List Int}{N:Int}:ValidP l N↔(∀x∈l,0<=x/\x<N)/\l.Pairwise (λa b:Int=>a<b):=by
 constructor
 ·intro h
  refine ⟨λx hx=>ValidP_mem h hx,pairwise_next intLin.tr λi hi=>?_⟩
  have:=(h (i+1) hi).2 om
  rwa [show ((i+1:Nat):Int) - 1=(i:Int) from by omega] at this
 rintro ⟨M,h2⟩ j hj
 refine ⟨M _<|Bx om om,λh0=>?_⟩
 have:=(pairwise_at l).1 h2 (j - 1) j om hj
 rwa [show ((j - 1:Nat):Int)=(j:Int) - 1 from by omega] at this
end Go.Sl
/- Cuts of graphs: how many edges a set separates; least cuts; which nodes few edges cannot separate. No Go. No conditions. -/
namespace Go.Sl
theorem sumN_list{α:Type}[Inhabited α](g:α->Int)(l:List α):sumN l.length (λk=>g (e_ l k))=(l.map g).sum:=by
 have M:∀m,m<=l.length->sumN m (λk=>g<|e_ l k)=((l.take m).map g).sum:=λm=>by
  induction m with
  |zero=>intro _;simp [sumN]
  |succ m ih=>
   intro hm
   rw [Ct l m om,List.map_append,List.sum_append,←ih om]
   simp [sumN]
 have:=M l.length (Nat.le_refl _)
 rwa [List.take_length] at this
end Go.Sl
/- The greatest set for which the edges inside, less a price for each node, are most, by a least cut. The plain law. No Go. No conditions. -/
namespace Go.Sl
variable{D N nd:Int}{es:List Pt}
def nodeArcs(N:Int)(v:Nat):List Arc:=[⟨0,2+(v:Int),0⟩,⟨2+(v:Int),1,N⟩]
def edgeArcs(nd D:Int)(es:List Pt)(i:Nat):List Arc:=[⟨0,2+nd+(i:Int),D⟩,⟨2+nd+(i:Int),2+(e_ es i).u,D⟩,⟨2+nd+(i:Int),2+(e_ es i).v,D⟩]
def denseArcs(nd N D:Int)(es:List Pt):List Arc:=(List.range nd.toNat).flatMap (nodeArcs N)++(List.range es.length).flatMap (edgeArcs nd D es)
def denseNet(nd N D:Int)(es:List Pt):Net:=⟨2+nd+(es.length:Int),0,1,denseArcs nd N D es⟩
theorem flat_len{α:Type}(f:Nat->List α)(c:Nat)(h:∀i,(f i).length=c)(n:Nat):((List.range n).flatMap f).length=n*c:=by
 induction n with
 |zero=>simp
 |succ n ih=>rw [List.range_succ,List.flatMap_append,List.length_append,ih,Nat.succ_mul];simp [h]
theorem denseArcs_len(nd N D:Int)(es:List Pt):(denseArcs nd N D es).length=nd.toNat*2+es.length*3:=by
 unfold denseArcs
 rw [List.length_append,flat_len _ 2<|λ_=>rfl,flat_len _ 3<|λ_=>rfl]
theorem mem_denseArcs{a:Arc}:a∈denseArcs nd N D es↔(∃v:Nat,(v:Int)<nd/\a∈nodeArcs N v)\/∃i:Nat,i<es.length/\a∈edgeArcs nd D es i:=by
 unfold denseArcs
 rw [List.mem_append,List.mem_flatMap,List.mem_flatMap]
 constructor
 ·rintro (⟨v,h1,M⟩|⟨i,h1,M⟩)
  ·exact .inl ⟨v,by have:=List.mem_range.1 h1;omega,M⟩
  exact .inr ⟨i,List.mem_range.1 h1,M⟩
 rintro (⟨v,h1,M⟩|⟨i,h1,M⟩)
 ·exact .inl ⟨v,List.mem_range.2 om,M⟩
 exact .inr ⟨i,List.mem_range.2 h1,M⟩
theorem denseNet_ok(M:GrOk nd es)(hm:es.length<=2016)(hN:0<=N/\N<=1099511627776)(hD:0<=D/\D<=1099511627776):(denseNet nd N D es).Ok:=by
 have hr:=M.rng
 have hl:=denseArcs_len nd N D es
 refine ⟨⟨by show 2+nd+(es.length:Int)<=4200;omega,by show (denseArcs nd N D es).length<=16384;omega⟩,by show 2<=2+nd+(es.length:Int);omega,⟨Int.le_refl _,by show (0:Int)<2+nd+(es.length:Int);omega⟩,⟨by show (0:Int)<=1;decide,by show (1:Int)<2+nd+(es.length:Int);omega⟩,by show (0:Int)≠1;decide,λa ha=>?_⟩
 show (0<=a.frm/\a.frm<2+nd+(es.length:Int))/\(0<=a.dst/\a.dst<2+nd+(es.length:Int))/\a.frm≠a.dst/\0<=a.cap/\a.cap<=1099511627776
 rcases mem_denseArcs.1 ha with ⟨v,hv,h⟩|⟨i,hi,h⟩
 ·simp only [nodeArcs,List.mem_cons,List.not_mem_nil,or_false] at h
  rcases h with rfl|rfl<;>simp only<;>omega
 have he:=M.edge _ (Bx (i:=(i:Int)) om om)
 simp only [edgeArcs,List.mem_cons,List.not_mem_nil,or_false] at h
 rcases h with rfl|rfl|rfl<;>simp only<;>omega
def costW(nd N D:Int)(es:List Pt)(W:Int->Bool):Int:=sumN nd.toNat (λv=>if W (v:Int) then N else 0)+sumN es.length λi=>if W (e_ es i).u&&W (e_ es i).v then 0 else D
def cutA(S:Int->Bool)(a:Arc):Int:=if S a.frm && !S a.dst then a.cap else 0
theorem sum_flat{α:Type}(φ:α->Int)(f:Nat->List α)(n:Nat):(((List.range n).flatMap f).map φ).sum=sumN n λi=>((f i).map φ).sum:=by
 induction n with
 |zero=>rfl
 |succ n ih=>rw [List.range_succ,List.flatMap_append,List.map_append,List.sum_append,ih];simp [sumN]
theorem cut_dense(nd N D:Int)(es:List Pt)(S:Int->Bool)(M:S 0=true)(h1:S 1=false):cutS (denseNet nd N D es) S =
  sumN nd.toNat (λv=>if S (2+(v:Int)) then N else 0)+sumN es.length λi=>(if S (2+nd+(i:Int)) then (if S (2+(e_ es i).u) then 0 else D)+(if S (2+(e_ es i).v) then 0 else D) else D):=by
 have e:cutS (denseNet nd N D es) S=((denseArcs nd N D es).map (cutA S)).sum:=by
  rw [←sumN_list];rfl
 rw [e]
 unfold denseArcs
 rw [List.map_append,List.sum_append,sum_flat,sum_flat]
 congr 1
 ·refine Db _ λv _=>?_
  simp [nodeArcs,cutA,M,h1]
 refine Db _ λi _=>?_
 simp only [edgeArcs,cutA,List.map_cons,List.map_nil,List.sum_cons,List.sum_nil,M]
 cases S (2+nd+(i:Int))<;>cases S (2+(e_ es i).u)<;>cases S (2+(e_ es i).v)<;>simp
def liftW(nd:Int)(es:List Pt)(W:Int->Bool)(z:Int):Bool:=
 decide (z=0)||(decide (2<=z/\z<2+nd)&&W (z - 2))||(decide (2+nd<=z/\z<2+nd+(es.length:Int))&&W (e_ es<|z - 2 - nd).u&&W (e_ es<|z - 2 - nd).v)
theorem liftW_node{W:Int->Bool}{v:Int}(M:0<=v)(h1:v<nd):liftW nd es W (2+v)=W v:=by
 unfold liftW
 rw [decide_eq_false (show ¬2+v=0 by omega),decide_eq_true (show 2<=2+v/\2+v<2+nd by omega),decide_eq_false (show ¬(2+nd<=2+v/\2+v<2+nd+(es.length:Int)) by omega),show 2+v - 2=v by omega]
 simp
theorem liftW_edge{W:Int->Bool}{i:Nat}(M:0<=nd)(hi:i<es.length):liftW nd es W (2+nd+(i:Int))=(W (e_ es i).u&&W (e_ es i).v):=by
 unfold liftW
 rw [decide_eq_false (show ¬2+nd+(i:Int)=0 by omega),decide_eq_false (show ¬(2<=2+nd+(i:Int)/\2+nd+(i:Int)<2+nd) by omega),decide_eq_true (show 2+nd<=2+nd+(i:Int)/\2+nd+(i:Int)<2+nd+(es.length:Int) by omega),show 2+nd+(i:Int) - 2 - nd=(i:Int) by omega]
 simp
theorem cut_lift(hG:GrOk nd es)(W:Int->Bool):liftW nd es W 0=true/\liftW nd es W 1=false/\cutS (denseNet nd N D es) (liftW nd es W)=costW nd N D es W:=by
 have hr:=hG.rng
 have M:liftW nd es W 0=true:=by unfold liftW;simp
 have a1:liftW nd es W 1=false:=by
  unfold liftW
  rw [decide_eq_false (show ¬(1:Int)=0 by decide),decide_eq_false (show ¬(2<=(1:Int)/\(1:Int)<2+nd) by omega),decide_eq_false (show ¬(2+nd<=(1:Int)/\(1:Int)<2+nd+(es.length:Int)) by omega)];simp
 refine ⟨M,a1,?_⟩
 rw [cut_dense _ _ _ _ _ M a1]
 unfold costW
 congr 1
 ·refine Db _ λv hv=>?_
  rw [liftW_node om om]
 refine Db _ λi hi=>?_
 have he:=hG.edge _ (Bx (i:=(i:Int)) om om)
 rw [liftW_edge hr.1 hi,liftW_node om om,liftW_node om om]
 cases W (e_ es i).u<;>cases W (e_ es i).v<;>simp
theorem cost_le_cut(hD:0<=D)(S:Int->Bool)(M:S 0=true)(h1:S 1=false):costW nd N D es (λv=>S (2+v))<=cutS (denseNet nd N D es) S:=by
 rw [cut_dense _ _ _ _ _ M h1]
 unfold costW
 dsimp only
 have:=sumN_le es.length (g:=λi=>if S (2+(e_ es i).u)&&S (2+(e_ es i).v) then 0 else D)
  (h:=λi=>(if S (2+nd+(i:Int)) then (if S (2+(e_ es i).u) then 0 else D)+(if S (2+(e_ es i).v) then 0 else D) else D)) λi hi=>by
  cases S (2+nd+(i:Int))<;>cases S (2+(e_ es i).u)<;>cases S (2+(e_ es i).v)<;>simp<;>omega
 omega
theorem great_cost(hG:GrOk nd es)(hm:es.length<=2016)(hN:0<=N/\N<=1099511627776)(hD:0<=D/\D<=1099511627776){f:List Int}{T:Int->Bool}(hf:IsFlow (denseNet nd N D es) f)(hT:Great (denseNet nd N D es) f T)(W:Int->Bool) :
  costW nd N D es (λv=>T<|2+v)<=costW nd N D es W/\(costW nd N D es W<=costW nd N D es (λv=>T<|2+v)->∀v,0<=v->v<nd->W v=true->T (2+v)=true):=by
 have M:=denseNet_ok hG hm hN hD
 obtain ⟨l0,l1,l2⟩:=cut_lift (N:=N) (D:=D) hG W
 have h1:=cost_le_cut (nd:=nd) (N:=N) (es:=es) hD.1 T hT.src hT.snk
 have h2:cutS (denseNet nd N D es) T<=cutS (denseNet nd N D es) (liftW nd es W):=by
  rw [←hT.value M hf];exact value_le M hf _ l0 l1
 rw [l2] at h2
 refine ⟨by omega,λaa v v0 v1 hv=>?_⟩
 have h3:netF (denseNet nd N D es) f (denseNet nd N D es).source=cutS (denseNet nd N D es) (liftW nd es W):=by
  rw [hT.value M hf,l2];omega
 have h4:=(shut_value M hf (S:=liftW nd es W) l0 l1).1 h3
 exact hT.great _ h4 l1 (2+v) om (by show 2+v<2+nd+(es.length:Int);omega)<|by rw [liftW_node v0 v1];exact hv
end Go.Sl
/- The densest set by prices that grow. The plain law. No Go. No conditions. -/
namespace Go.Sl
variable{B S W:BitVec 64}{es:List Pt}{D N nd:Int}
def insE(W:BitVec 64)(es:List Pt):Int:=((es.filter λe=>W.getLsbD e.u.toNat&&W.getLsbD e.v.toNat).length:Int)
def subN(nd:Int)(W:BitVec 64):Prop:=∀x∈eo W,x<nd
def cntB(W:BitVec 64):Int:=((eo W).length:Int)
theorem insE_bd(W:BitVec 64)(es:List Pt):0<=insE W es/\insE W es<=es.length:=by
 unfold insE
 have:=List.length_filter_le (λe:Pt=>W.getLsbD e.u.toNat&&W.getLsbD e.v.toNat) es
 omega
theorem insE_take{k:Nat}(h:k<es.length):insE W (es.take (k+1))=insE W (es.take k)+if W.getLsbD (e_ es k).u.toNat&&W.getLsbD (e_ es k).v.toNat then 1 else 0:=by
 unfold insE
 rw [Ct es k h,List.filter_append,List.length_append]
 cases hc:(W.getLsbD (e_ es k).u.toNat&&W.getLsbD (e_ es k).v.toNat)<;>simp [List.filter_cons,hc]
theorem sum_ins(D:Int)(W:BitVec 64)(es:List Pt):(es.map λe=>if W.getLsbD e.u.toNat&&W.getLsbD e.v.toNat then (0:Int) else D).sum=D*((es.length:Int) - insE W es):=by
 induction es with
 |nil=>simp [insE]
 |cons e es ih=>
  rw [List.map_cons,List.sum_cons,ih]
  unfold insE
  rw [List.filter_cons]
  cases hc:(W.getLsbD e.u.toNat&&W.getLsbD e.v.toNat)
  ·rw [if_neg dc,if_neg dc,List.length_cons]
   rw [show (((es.length+1:Nat):Int) - ((es.filter λe=>W.getLsbD e.u.toNat&&W.getLsbD e.v.toNat).length:Int))=((es.length:Int) - ((es.filter λe=>W.getLsbD e.u.toNat&&W.getLsbD e.v.toNat).length:Int))+1 by omega,Int.mul_add]
   omega
  rw [if_pos rfl,if_pos rfl,List.length_cons,List.length_cons]
  rw [show (((es.length+1:Nat):Int) - (((es.filter λe=>W.getLsbD e.u.toNat&&W.getLsbD e.v.toNat).length+1:Nat):Int))=((es.length:Int) - ((es.filter λe=>W.getLsbD e.u.toNat&&W.getLsbD e.v.toNat).length:Int)) by omega]
  omega
theorem sum_cnt(N:Int)(p:Nat->Bool)(n:Nat):sumN n (λv=>if p v then N else 0)=N*(((List.range n).filter p).length:Int):=by
 induction n with
 |zero=>simp [sumN]
 |succ n ih=>
  rw [List.range_succ,List.filter_append,List.length_append]
  simp only [sumN]
  rw [ih]
  cases hc:p n
  ·simp [List.filter_cons,hc]
  rw [if_pos rfl,show ([n].filter p).length=1 by simp [List.filter_cons,hc],Int.natCast_add,Int.mul_add]
  simp
theorem listN_range(h:subN nd W)(h0:0<=nd)(h1:nd<=64):listN W=(List.range nd.toNat).filter λi=>W.getLsbD i:=by
 unfold listN
 have hs:List.range 64=List.range nd.toNat++(List.range<|64 - nd.toNat).map (nd.toNat + ·):=by
  rw [←List.range_add];congr 1;omega
 rw [hs,List.filter_append]
 have:(((List.range<|64 - nd.toNat).map (nd.toNat + ·)).filter λi=>W.getLsbD i)=[]:=by
  rw [List.filter_eq_nil_iff]
  intro i hi M
  obtain ⟨j,_,rfl⟩:=List.mem_map.1 hi
  have:=h ((nd.toNat+j:Nat):Int) (mem_listB.2 ⟨by omega,by rw [Int.toNat_natCast];exact M⟩)
  omega
 rw [this,List.append_nil]
theorem cost_bits(h0:0<=nd)(h1:nd<=64)(h:subN nd W):costW nd N D es (λv=>W.getLsbD v.toNat)=N*cntB W+D*((es.length:Int) - insE W es):=by
 unfold costW
 have M:=sum_cnt N (λi=>W.getLsbD i) nd.toNat
 rw [←listN_range h h0 h1] at M
 have e2:=sumN_list (λe:Pt=>if W.getLsbD e.u.toNat&&W.getLsbD e.v.toNat then (0:Int) else D) es
 rw [sum_ins] at e2
 have e3:cntB W=((listN W).length:Int):=by unfold cntB eo;rw [List.length_map]
 rw [e3,←M,←e2]
 congr 1
theorem cost_congr{W W':Int->Bool}(hG:GrOk nd es)(h:∀v,0<=v->v<nd->W v=W' v):costW nd N D es W=costW nd N D es W':=by
 unfold costW
 congr 1
 ·exact Db _ λv hv=>by rw [h _ om om]
 refine Db _ λi hi=>?_
 have M:=hG.edge _ (Bx (i:=(i:Int)) om om)
 rw [h _ M.1 om,h _ om M.2.2]
structure SolveP (nd N D:Int) (es:List Pt) (B:BitVec 64):Prop where
 sub:subN nd B
 max:∀W,subN nd W->D*insE W es - N*cntB W<=D*insE B es - N*cntB B
 great:∀W,subN nd W->D*insE B es - N*cntB B<=D*insE W es - N*cntB W->∀x∈eo W,x∈eo B
theorem great_solve(hG:GrOk nd es)(hm:es.length<=2016)(hN:0<=N/\N<=1099511627776)(hD:0<=D/\D<=1099511627776){f:List Int}{T:Int->Bool}(hf:IsFlow (denseNet nd N D es) f)(hT:Great (denseNet nd N D es) f T)
  {B:BitVec 64} (hB:∀v,v∈eo B↔(0<=v/\v<nd)/\T (2+v)=true):SolveP nd N D es B:=by
 have hr:=hG.rng
 have hs:subN nd B:=λx hx=>((hB x).1 hx).1.2
 have hc:costW nd N D es (λv=>T<|2+v)=costW nd N D es (λv=>B.getLsbD v.toNat):=cost_congr hG λv h0 h1=>by
  rw [Bool.eq_iff_iff]
  have:=hB v
  rw [Ed] at this
  constructor
  ·intro h;exact (this.2 ⟨⟨h0,h1⟩,h⟩).2
  intro h;exact (this.1 ⟨h0,h⟩).2
 rw [cost_bits hr.1 hr.2 hs] at hc
 have M:∀x y:Int,D*((es.length:Int) - x)=D*es.length - D*x:=λx y=>Int.mul_sub _ _ _
 refine ⟨hs,λW hW=>?_,λW hW ab x hx=>?_⟩
 ·have h:=(great_cost hG hm hN hD hf hT λv=>W.getLsbD v.toNat).1
  rw [hc,cost_bits hr.1 hr.2 hW,M _ 0,M _ 0] at h
  omega
 have h:=(great_cost hG hm hN hD hf hT λv=>W.getLsbD v.toNat).2
 rw [hc,cost_bits hr.1 hr.2 hW,M _ 0,M _ 0] at h
 have aa:=mem_listB.1 hx
 have h0:=aa.1
 have h1:=hW x hx
 exact (hB x).2 ⟨⟨h0,h1⟩,h om x h0 h1 aa.2⟩
structure DensP (nd N D:Int) (es:List Pt) (B:BitVec 64):Prop where
 sub:subN nd B
 ne:B≠0#64
 eq:D*insE B es=N*cntB B
 max:∀W,subN nd W->D*insE W es<=N*cntB W
 great:∀W,subN nd W->D*insE W es=N*cntB W->∀x∈eo W,x∈eo B
theorem cntB_pos(h:W≠0#64):1<=cntB W/\cntB W<=64:=by
 obtain ⟨u,M⟩:=nz_listB.1 h
 have:=List.length_pos_of_mem M
 have:=Ee W
 unfold cntB;omega
theorem insE_zero(es:List Pt):insE 0#64 es=0:=by
 unfold insE;simp
theorem cntB_zero:cntB 0#64=0:=by unfold cntB;rw [Dh];rfl
theorem pos_set{nd:Int}(h:0<D*insE B es - N*cntB B):B≠0#64:=λe=>by
 subst e
 rw [insE_zero,cntB_zero] at h;omega
theorem SolveP.done(h:SolveP nd N D es B)(hS:subN nd S)(aa:S≠0#64)(hp:D*insE S es=N*cntB S)(ab:insE B es*D<=N*cntB B):DensP nd N D es B:=by
 have h1:=h.max S hS
 have e:insE B es*D=D*insE B es:=Int.mul_comm _ _
 have hz:D*insE B es=N*cntB B:=by omega
 refine ⟨h.sub,λe0=>?_,hz,λW M=>by have:=h.max W M;omega,λW M hw=>h.great W M om⟩
 obtain ⟨u,hu⟩:=nz_listB.1 aa
 have:=h.great S hS om u hu
 rw [e0,Dh] at this;cases this
def densM(es:List Pt)(W:BitVec 64):Nat:=(4096*(insE W es).toNat) / (cntB W).toNat
theorem dens_grow{a b s t:Nat}(hs:1<=s/\s<=64)(ht:1<=t/\t<=64)(h:a*t<b*s):4096*a / s<4096*b / t:=by
 have h1:(4096*a / s)*s<=4096*a:=Nat.div_mul_le_self _ _
 refine Nat.lt_of_succ_le<|(Nat.le_div_iff_mul_le om).2 ?_
 generalize 4096*a / s=q at h1
 have h2:(q+1)*s<=4096*a+s:=by rw [Nat.add_mul];omega
 have h3:((q+1)*s)*t<=(4096*a+s)*t:=Nat.mul_le_mul_right _ h2
 have h4:(4096*a+s)*t=4096*(a*t)+s*t:=by rw [Nat.add_mul,Nat.mul_assoc]
 have h5:s*t<=64*64:=Nat.mul_le_mul hs.2 ht.2
 have M:((q+1)*t)*s<=(4096*b)*s:=by
  have e1:((q+1)*t)*s=((q+1)*s)*t:=by rw [Nat.mul_assoc,Nat.mul_comm t s,←Nat.mul_assoc]
  have e2:(4096*b)*s=4096*(b*s):=Nat.mul_assoc _ _ _
  rw [e1,e2];omega
 exact Nat.le_of_mul_le_mul_right M om
theorem densM_grow{nd:Int}(hS:S≠0#64)(hD:1<=D)(hp:D*insE S es=N*cntB S)(hlt:¬insE B es*D<=N*cntB B):densM es S<densM es B:=by
 have hB:B≠0#64:=pos_set (nd:=nd) (N:=N) (D:=D) (es:=es) (by have e:insE B es*D=D*insE B es:=Int.mul_comm _ _;omega)
 have s1:=cntB_pos hS
 have s2:=cntB_pos hB
 have i1:=insE_bd S es
 have i2:=insE_bd B es
 unfold densM
 refine dens_grow om om ?_
 have M:insE S es*cntB B<insE B es*cntB S:=by
  refine Int.lt_of_mul_lt_mul_left (a:=D) ?_ om
  rw [←Int.mul_assoc,hp,←Int.mul_assoc,Int.mul_comm D<|insE B es,Int.mul_assoc N,Int.mul_comm (cntB S)<|cntB B,←Int.mul_assoc N]
  exact Int.mul_lt_mul_of_pos_right om om
 have c1:((insE S es).toNat:Int)=insE S es:=Int.toNat_of_nonneg i1.1
 have c2:((insE B es).toNat:Int)=insE B es:=Int.toNat_of_nonneg i2.1
 have c3:((cntB S).toNat:Int)=cntB S:=Int.toNat_of_nonneg om
 have c4:((cntB B).toNat:Int)=cntB B:=Int.toNat_of_nonneg om
 have:(((insE S es).toNat*(cntB B).toNat:Nat):Int)<(((insE B es).toNat*(cntB S).toNat:Nat):Int):=by
  rw [Int.natCast_mul,Int.natCast_mul,c1,c2,c3,c4];exact M
 exact Int.ofNat_lt.1 this
theorem densM_le(M:es.length<=2016)(h:W≠0#64):densM es W<=8257536:=by
 have i1:=insE_bd W es
 have s1:=cntB_pos h
 unfold densM
 refine Nat.le_trans (Nat.div_le_self _ _) ?_
 omega
theorem DensP.uniq{N' D':Int}{B':BitVec 64}(hD:1<=D)(hD':1<=D')(h:DensP nd N D es B)(h':DensP nd N' D' es B'):N*D'=N'*D:=by
 have s1:=cntB_pos h.ne
 have s2:=cntB_pos h'.ne
 have a:=h'.max B h.sub
 have b:=h.max B' h'.sub
 have e:=h.eq
 have e':=h'.eq
 -- N / D = insE B / cntB B ≤ N' / D'
 have k1:N*D'*cntB B<=N'*D*cntB B:=by
  have:D'*(D*insE B es)<=D*(N'*cntB B):=by
   rw [←Int.mul_assoc,Int.mul_comm D' D,Int.mul_assoc]
   exact Int.mul_le_mul_of_nonneg_left a om
  rw [e] at this
  rw [show N*D'*cntB B=D'*(N*cntB B) by rw [Int.mul_comm N D',Int.mul_assoc],show N'*D*cntB B=D*(N'*cntB B) by rw [Int.mul_comm N' D,Int.mul_assoc]]
  exact this
 have k2:N'*D*cntB B'<=N*D'*cntB B':=by
  have:D*(D'*insE B' es)<=D'*(N*cntB B'):=by
   rw [←Int.mul_assoc,Int.mul_comm D D',Int.mul_assoc]
   exact Int.mul_le_mul_of_nonneg_left b om
  rw [e'] at this
  rw [show N*D'*cntB B'=D'*(N*cntB B') by rw [Int.mul_comm N D',Int.mul_assoc],show N'*D*cntB B'=D*(N'*cntB B') by rw [Int.mul_comm N' D,Int.mul_assoc]]
  exact this
 have j1:=Int.le_of_mul_le_mul_right k1 om
 have j2:=Int.le_of_mul_le_mul_right k2 om
 omega
theorem DensP.reach(hD:1<=D)(h:DensP nd N D es B){a b:Int}(hb:1<=b):a*D<=N*b↔∃W,subN nd W/\W≠0#64/\a*cntB W<=b*insE W es:=by
 have s1:=cntB_pos h.ne
 have e:=h.eq
 constructor
 ·intro M
  refine ⟨B,h.sub,h.ne,Int.le_of_mul_le_mul_right (a:=D) ?_ om⟩
  rw [Int.mul_assoc b,Int.mul_comm (insE B es) D,e,show a*cntB B*D=a*D*cntB B by rw [Int.mul_assoc,Int.mul_comm<|cntB B,←Int.mul_assoc],show b*(N*cntB B)=N*b*cntB B by rw [←Int.mul_assoc,Int.mul_comm b N]]
  exact Int.mul_le_mul_of_nonneg_right M om
 rintro ⟨W,hW,aa,M⟩
 have s2:=cntB_pos aa
 have hm:=h.max W hW
 refine Int.le_of_mul_le_mul_right (a:=cntB W) ?_ om
 have h1:a*cntB W*D<=b*insE W es*D:=Int.mul_le_mul_of_nonneg_right M om
 have h2:b*(D*insE W es)<=b*(N*cntB W):=Int.mul_le_mul_of_nonneg_left hm om
 rw [show a*D*cntB W=a*cntB W*D by rw [Int.mul_assoc,Int.mul_comm D,←Int.mul_assoc],show N*b*cntB W=b*(N*cntB W) by rw [Int.mul_comm N b,Int.mul_assoc]]
 rw [show b*insE W es*D=b*(D*insE W es) by rw [Int.mul_assoc,Int.mul_comm<|insE W es]] at h1
 omega
end Go.Sl
/- Fewer edges lie inside a set than it has nodes, times all nodes. The plain law. No Go. No conditions. -/
namespace Go.Sl
end Go.Sl
