/- A part of the proofs of statements of this seat: contracts of functions, and the plain laws that they lean on. No conditions. -/
import Derived.Test.YtoagcglbkeomgaaGreatDoorK5
import Derived.Shelf.SlSortCmp.NoneTotal
import Derived.Shelf.SlSortCmp.WholeK
set_option linter.unusedVariables false
set_option linter.unusedSimpArgs false
set_option linter.unusedSectionVars false
open Go.Proofs.Tryz (prog)
namespace Go.Sl
open Go.Proofs
set_option maxRecDepth 4000
variable{u v:Value}{xs ys:List Int}{a:Option Addr}{c:Nat}{w:Int}
variable {κ:Ctx}{I:List Item}
theorem Before03_ok(a c:Pt):eu prog κ 98 [.agg #[e7 (a.u),e7 (a.v)],.agg #[e7 (c.u),e7 (c.v)]] I (λr J=>r = .bool (decide (Pt.lt a c))/\I=J):=by
 refine Ce2 Tryz.func98 C C ?_
 refine Af<|Ge1 (Bg (cs:=[_,_]) C C C) λb1=>Ge1 (Bg (cs:=[_,_]) C C C) λb2=>Ga C<|Ac<|Af<|Gf fld105_0 C<|Gl ef ?_
 refine Gf fld105_0 C<|Gl ef ?_
 refine Gr (A4 C C)<|Gm C<|Bt (d:=10) C (λM=>?_)<|λM=>?_
 ·exact eb<|eb<|eb<|eb<|eb<|eb<|ee<|ee<|ee<|ee<|ee<|eb<|Gr (Ba C C)<|Ga C<|Ac<|Ao (S1 4 C)<|Az<|A1 C C I Ay ⟨(by first|exact congrArg Value.bool (decide_eq_decide.2<|by unfold Pt.lt;omega)|exact congrArg Value.bool (decide_eq_true<|by unfold Pt.lt;omega).symm|exact congrArg Value.bool (decide_eq_false<|by unfold Pt.lt;omega).symm),rfl⟩
 refine e9 (Ad fld105_0 C)<|e9 (Bb ef) ?_
 refine e9 (Ad fld105_0 C)<|e9 (Bb ef) ?_
 refine e9 (Bw C C)<|e9 (Ai C)<|Bt (d:=16) C (λZ=>?_)<|λZ=>?_
 ·refine e9 (Ad fld105_1 C) (e9 (Bb ef) ?_)
  refine e9 (Ad fld105_1 C)<|e9 (Bb ef) ?_
  exact e9 (A4 C C)<|e9 (Ba C C)<|Gr (A6 C C)<|Ga C<|Ac<|Ao (S1 4 C)<|Az<|A1 C C I Ay ⟨(by first|exact congrArg Value.bool (decide_eq_decide.2<|by unfold Pt.lt;omega)|exact congrArg Value.bool (decide_eq_true<|by unfold Pt.lt;omega).symm|exact congrArg Value.bool (decide_eq_false<|by unfold Pt.lt;omega).symm),rfl⟩
 exact eb<|eb<|eb<|eb<|eb<|e9 (A6 C C)<|Gr (A6 C C)<|Ga C<|Ac<|Ao (S1 4 C)<|Az<|A1 C C I Ay ⟨(by first|exact congrArg Value.bool (decide_eq_decide.2<|by unfold Pt.lt;omega)|exact congrArg Value.bool (decide_eq_true<|by unfold Pt.lt;omega).symm|exact congrArg Value.bool (decide_eq_false<|by unfold Pt.lt;omega).symm),rfl⟩
theorem Check03_ok{nd:Int}{es:List Pt}(M:Sl κ I v es)(Z:GrOk nd es):eu prog κ 51 [.agg #[e7 nd,v]] I (λr J=>r=e7 0/\I=J):=by
 refine B8 M.le λaj=>?_
 refine Ce1 Tryz.func51 C C ?_
 refine Af<|Ge1 (Bg (cs:=[_,_]) C C C) λb1=>Ga C<|Ac<|Aq<|Af<|Gf fld38_0 C<|Gl ef ?_
 refine Gr (A4 C C)<|Gm C<|Bt (d:=8) C (λg8=>?_)<|λg8=>?_
 ·exact absurd Z.rng om
 refine e9 (Ad fld38_0 C)<|e9 (Bb ef) ?_
 refine e9 (Cc C C)<|Gr (A6 C C)<|Ac<|A5 C (λc12=>?_)<|λc12=>?_
 ·exact absurd Z.rng om
 refine Av<|Ah<|Aq<|Af<|Gf fld38_1 C<|Gl ty36 ?_
 refine Gr (B9 (α:=Pt) (xs:=es) Au C<|A8 M)<|Gm C<|Ac<|Ao (S4 16 15 14 1 C C C C)<|Aw<|Bu (σ:=Nat) (λs=>([(1,pt b1),(14,v),(15,e7 ((es.length:Nat):Int)),(16,e7 ((s:Nat):Int))]:Env)) (λs=>e8 b1 [e7 nd,v] 38::I) (λs=>(s<=es.length)) (λs=>es.length - s) 0 (show ((0:Nat)<=es.length) from om) (Aa C<|Aa C<|Aa C<|Aa B2 Bi) (show Fit κ _ (e8 b1 [e7 nd,v] 38::I) from Bc) ?_
 rintro k hp
 have hk:=hp
 refine Af<|Gr (A4 C C)<|Ac<|Aq<|A5 C (λah=>?_)<|λah=>?_
 ·refine Av (Ah<|Aq<|Aw<|Af<|Gm C<|Gr (Ax (α:=Pt) (xs:=es) Au ty105 C C (A8 M) om om)<|Gr (Bx (α:=Pt) (xs:=es) ty105 C (A8 M) om om)<|Ge1 (A3 ty105 C) λb2=>Ga C<|Ge0 (Cz ty105) ?_)
  refine Ac<|Aq<|Af<|Gf fld105_0 C<|Gl ef ?_
  refine Gr (A4 C C)<|Gm C<|Bt (d:=24) C (λai=>?_)<|λai=>?_
  ·exact absurd (Z.at (k:=k) om) om
  refine e9 (Ad fld105_0 C)<|e9 (Bb ef) ?_
  refine e9 (Ad fld105_1 C)<|e9 (Bb ef) ?_
  refine e9 (Cr C C)<|Gr (A6 C C)<|Gm C<|Bt (d:=31) C (λae=>?_)<|λae=>?_
  ·exact absurd (Z.at (k:=k) om) om
  refine e9 (Ad fld105_1 C)<|e9 (Bb ef) ?_
  refine e9 (Ad fld38_0 C)<|e9 (Bb ef) ?_
  refine e9 (Cr C C)<|Gr (A6 C C)<|Ac<|Ao (S7 37 3 4 1 14 15 16 C C C C C C C)<|A5 C (λab=>?_)<|λab=>?_
  ·exact absurd (Z.at (k:=k) om) om
  refine Av<|Ah<|Aq<|Bq mixed<|Ca (e8 b2 [e7 ((e_ es k).u),e7<|(e_ es k).v] 105::e8 b1 [e7 nd,v] 38::I) 13<|Dr 0 C (Ai C)<|Dr 1 C (Cc C C)<|Dr 2 C (Ai C)<|El (d:=40) C (λad=>?_)<|λad=>?_
  ·refine Dro 3 C (Ad fld38_1 C) (Dro 4 C (Bb ty36) ?_)
   refine Dro 5 C (Ai C)<|Dro 6 C (Rsu C C)<|Dro 7 C (Ax (α:=Pt) (xs:=es) Au ty105 C C (A8 M) om om)<|Dro 8 C (Bx (α:=Pt) (xs:=es) ty105 C (A8 M) om om)<|Dro 9 C (Be (vs:=[_,_]) ty105) ?_
   refine Ds1 10<|Sc0 C (Ak c_ C C<|Before03_ok (e_ es<|(k:Int) - 1)<|e_ es k) ?_
   refine Dro 11 C (Dk C)<|Dr 12 C (Ba C C)<|Dz<|Ah<|Ao (S5 50 1 14 15 16 C C C C C)<|A5 C (λaa=>?_)<|λaa=>?_
   ·exact absurd (Z.prev (k:=k) om om) aa
   exact Av<|Aj<|Ah<|Ar<|Gr (Rad C C)<|Gm C<|Bj<|B3 ((k+1)) om
  exact Dpo 3 C<|Dpo 4 C<|Dpo 5 C<|Dpo 6 C<|Dpo 7 C<|Dpo 8 C<|Dpo 9 C<|Dpo 10 C<|Dpo 11 C<|Dr 12 C (A6 C C)<|Dz<|Ah<|Ao (S5 50 1 14 15 16 C C C C C)<|Dp C<|Av<|Aj<|Ah<|Ar<|Gr (Rad C C)<|Gm C<|Bj<|B3 ((k+1)) om
 exact Bs<|Al<|Al<|A2<|Ah<|Af<|Ga C<|Ac<|Az<|A1 C C I Ay ⟨rfl,rfl⟩
def cmpL:List Int->List Int->Int
 |[],[]=>0
 |[],_::_=> -1
 |_::_,[]=>1
 |x::xs,y::ys=>if y<x then 1 else if x<y then -1 else cmpL xs ys
theorem cmpL_self:∀xs,cmpL xs xs=0
 |[]=>rfl
 |x::xs=>by simp only [cmpL];rw [if_neg om,if_neg om];exact cmpL_self xs
theorem cmpL_drop(xs ys:List Int)(k:Nat)(hx:k<xs.length)(hy:k<ys.length)(Z:¬e_ ys k<e_ xs k)(M:¬e_ xs k<e_ ys k):cmpL (xs.drop k) (ys.drop k)=cmpL (xs.drop (k+1)) (ys.drop (k+1)):=by
 rw [E8 xs k hx,E8 ys k hy]
 simp only [cmpL]
 rw [if_neg Z,if_neg M]
theorem cmpL_drop1(xs ys:List Int)(k:Nat)(M:k<xs.length)(h:ys.length<=k\/(k<ys.length/\e_ ys k<e_ xs k)):cmpL (xs.drop k) (ys.drop k)=1:=by
 rw [E8 xs k M]
 rcases h with h|⟨Z,h⟩
 ·rw [List.drop_eq_nil_of_le h];rfl
 rw [E8 ys k Z];simp only [cmpL];rw [if_pos h]
theorem cmpL_dropn(xs ys:List Int)(k:Nat)(hx:k<xs.length)(M:k<ys.length)(Z:¬e_ ys k<e_ xs k)(h:e_ xs k<e_ ys k):cmpL (xs.drop k) (ys.drop k) = -1:=by
 rw [E8 xs k hx,E8 ys k M];simp only [cmpL];rw [if_neg Z,if_pos h]
theorem cmpL_end(xs ys:List Int)(k:Nat)(Z:xs.length<=k):cmpL (xs.drop k) (ys.drop k)=if k<ys.length then -1 else 0:=by
 rw [List.drop_eq_nil_of_le Z]
 split
 ·rename_i h;rw [E8 ys k h];rfl
 rename_i h;rw [List.drop_eq_nil_of_le om];rfl
theorem Cmp_ok{κ:Ctx}{I:List Item}(hu:Sl κ I u xs)(hv:Sl κ I v ys):eu prog κ 25 [u,v] I (λr J=>r=e7 (cmpL xs ys)/\I=J):=by
 refine B8 hu.le λae=>?_
 refine B8 hv.le λab=>?_
 refine Ce2 Tryz.func25 C C ?_
 refine Af<|Ga C<|Ac<|Aq<|Af<|Gm C<|Gr (B9 (α:=Int) (xs:=xs) Ab C<|A8 hu)<|Gm C<|Ac<|Aw<|Bu (σ:=Nat) (λs=>([(0,u),(1,v),(7,e7 ((xs.length:Nat):Int)),(8,e7 ((s:Nat):Int))]:Env)) (λs=>I) (λs=>(s<=xs.length)/\(cmpL xs ys=cmpL (xs.drop s) (ys.drop s))) (λs=>xs.length - s) 0 (show ((0:Nat)<=xs.length)/\(cmpL xs ys=cmpL (xs.drop (0:Nat)) (ys.drop (0:Nat))) from ⟨om,rfl⟩) (Aa C<|Aa C<|Aa C<|Aa B2 Bi) (show Fit κ _ I from Bc) ?_
 rintro k hp
 obtain ⟨hk,Z⟩:=hp
 refine Af<|Gr (A4 C C)<|Ac<|Aq<|A5 C (λc9=>?_)<|λc9=>?_
 ·refine Av (Ah<|Aq<|Aw<|Af<|Gm C<|Ga C<|Ac<|Aw<|Aq<|Bq mixed<|Ca I 16<|Dr 0 C (Ai C)<|Dr 1 C (Ai C)<|Dr 2 C (B9 (α:=Int) (xs:=ys) Ab C<|A8 hv)<|Dr 3 C (Cr C C)<|Dr 4 C (Ai C)<|El (d:=16) C (λad=>?_)<|λad=>?_)
  ·exact Dpo 5 C<|Dpo 6 C<|Dpo 7 C<|Dpo 8 C<|Dpo 9 C<|Dpo 10 C<|Dpo 11 C<|Dpo 12 C<|Dpo 13 C<|Dr 14 C (Ba C C)<|Dr 15 C (Bd C)<|Dz<|Ah<|Ao (S6 11 5 0 1 7 8 C C C C C C)<|Dj C<|Af<|Ga C<|Ac<|Az<|A7<|A7<|Ap<|Ap<|A7<|Ap<|A1 C C _ Ay ⟨by rw [Z,cmpL_drop1 xs ys k om<|.inl om],rfl⟩
  refine Dro 5 C (Ai C)<|Dro 6 C (Ai C)<|Dro 7 C (Ax (α:=Int) (xs:=xs) Ab ef C C (A8 hu) om om)<|Dro 8 C (Br (xs:=xs) ef C (A8 hu) om om)<|Dro 9 C (Ai C)<|Dro 10 C (Ai C)<|Dro 11 C (Ax (α:=Int) (xs:=ys) Ab ef C C (A8 hv) om om)<|Dro 12 C (Br (xs:=ys) ef C (A8 hv) om om)<|Dro 13 C (Cc C C)<|Dr 14 C (A6 C C)<|Dr 15 C (Bd C)<|Dz<|Ah<|Ao (S6 11 5 0 1 7 8 C C C C C C)<|A5 C (λc11=>?_)<|λc11=>?_
  ·exact Af<|Ga C<|Ac<|Az<|A7<|A7<|Ap<|Ap<|A7<|Ap<|A1 C C _ Ay ⟨by rw [Z,cmpL_drop1 xs ys k om<|.inr ⟨by omega,by omega⟩],rfl⟩
  refine Aq<|Bq mixed<|Ca I 10<|Dr 0 C (Ai C)<|Dr 1 C (Ai C)<|Dr 2 C (Ax (α:=Int) (xs:=xs) Ab ef C C (A8 hu) om om)<|Dr 3 C (Br (xs:=xs) ef C (A8 hu) om om)<|Dr 4 C (Ai C)<|Dr 5 C (Ai C)<|Dr 6 C (Ax (α:=Int) (xs:=ys) Ab ef C C (A8 hv) om om)<|Dr 7 C (Br (xs:=ys) ef C (A8 hv) om om)<|Dr 8 C (A4 C C)<|Dr 9 C (Bd C)<|Dz<|Ah<|Ao (S5 27 0 1 7 8 C C C C C)<|A5 C (λaa=>?_)<|λaa=>?_
  ·exact Af<|Ga C<|Ac<|Az<|A7<|A7<|Ap<|Ap<|A7<|Ap<|A1 C C _ Ay ⟨by rw [Z,cmpL_dropn xs ys k om om om om],rfl⟩
  exact Av<|Aj<|Aj<|Ah<|Ar<|Gr (Rad C C)<|Gm C<|Bj<|B3 ((k+1)) ⟨om,(Z.trans<|cmpL_drop xs ys k om om om om)⟩
 refine Bs<|Al<|Al<|A2<|Ah<|Aq<|Af<|Gm C<|Gr (B9 (α:=Int) (xs:=xs) Ab C<|A8 hu)<|Gm C<|Gr (B9 (α:=Int) (xs:=ys) Ab C<|A8 hv)<|Gr (A4 C C)<|Ac<|A5 C (λM=>?_)<|λM=>?_
 ·exact Af<|Ga C<|Ac<|Az<|Ap<|A1 C C _ Ay ⟨by rw [Z,cmpL_end xs ys k om,if_pos om],rfl⟩
 exact Av<|Ah<|Af<|Ga C<|Ac<|Az<|A1 C C _ Ay ⟨by rw [Z,cmpL_end xs ys k om,if_neg om],rfl⟩
variable {κ:Ctx}{I:List Item}
def putL:List Int->Int->List Int
 |[],x=>[x]
 |y::ys,x=>if y<x then y::putL ys x else if y=x then y::ys else x::y::ys
def ofL(l:List Int):List Int:=l.foldl putL []
theorem putL_at:∀(xs:List Int) (i:Nat) (x:Int),i<=xs.length->(∀j,j<i->e_ xs j<x)->
  (i<xs.length->e_ xs i=x->putL xs x=xs)/\((i=xs.length\/(i<xs.length/\x<e_ xs i))->putL xs x=(xs.take i++[x])++xs.drop i)
 |[],i,x,hi,h=>by
  obtain rfl:i=0:=by simpa using hi
  exact ⟨λh=>by simp at h,λ_=>rfl⟩
 |y::ys,0,x,hi,h=>by
  refine ⟨λ_ e=>?_,λe=>?_⟩
  ·have e':y=x:=e
   simp only [putL];rw [if_neg om,if_pos e']
  rcases e with e|⟨_,e⟩
  ·simp at e
  have e':x<y:=e
  simp only [putL];rw [if_neg om,if_neg om];rfl
 |y::ys,i+1,x,hi,h=>by
  have M:y<x:=h 0 om
  have Z:∀j:Nat,e_ (y::ys) ((j+1:Nat):Int)=e_ ys j:=λj=>by rw [at_nat,at_nat];simp
  obtain ⟨h1,h2⟩:=putL_at ys i x (by simpa using hi) λj hj=>by have:=h (j+1) om;rwa [Z] at this
  refine ⟨λhl e=>?_,λe=>?_⟩
  ·simp only [putL];rw [if_pos M,h1 (by simpa using hl)<|by rwa [Z] at e]
  simp only [putL];rw [if_pos M,h2<|by rw [Z] at e;simpa using e];rfl
theorem ofL_take(xs:List Int)(k:Nat)(h:k<xs.length):ofL (xs.take (k+1))=putL (ofL (xs.take k)) (e_ xs k):=by
 rw [Cj xs k h];simp [ofL]
theorem mem_putL(x y:Int):∀l,y∈putL l x↔y=x\/y∈l
 |[]=>by simp [putL]
 |z::zs=>by
  simp only [putL]
  split
  ·simp only [List.mem_cons,mem_putL x y zs]
   constructor
   ·rintro (h|h|h)<;>simp [h]
   rintro (h|h|h)<;>simp [h]
  split
  ·rename_i e;subst e;simp
  simp
theorem mem_foldl_putL(y:Int):∀(l acc:List Int),y∈l.foldl putL acc↔y∈l\/y∈acc
 |[],acc=>by simp
 |x::l,acc=>by
  rw [List.foldl_cons,mem_foldl_putL y l,mem_putL]
  simp only [List.mem_cons]
  constructor
  ·rintro (h|h|h)<;>simp [h]
  rintro ((h|h)|h)<;>simp [h]
theorem mem_ofL(l:List Int)(y:Int):y∈ofL l↔y∈l:=by simp [ofL,mem_foldl_putL]
theorem putL_len(x:Int):∀l,(putL l x).length<=l.length+1
 |[]=>by simp [putL]
 |y::ys=>by
  simp only [putL]
  split
  ·have:=putL_len x ys;simp;omega
  split<;>simp
theorem ofL_len(l:List Int):(ofL l).length<=l.length:=by
 have h:∀(l Z:List Int),(l.foldl putL Z).length<=l.length+Z.length:=λl=>by
  induction l with
  |nil=>intro Z;simp
  |cons x l ih=>intro Z;have:=ih (putL Z x);have:=putL_len x Z;simp;omega
 have:=h l []
 simpa [ofL] using this
theorem Put_ok(hb:xs.length<17592186044415)(x:Int):eu prog κ 167 [.slice a xs.length c,e7 x] (vk 3 a c xs::I) (λr J=>∃a' c',r = .slice a' (putL xs x).length c'/\J=vk 3 a' c' (putL xs x)::I):=by
 refine B8 (λw hs=>(C3 (κ:=κ)<|List.mem_cons_self).le w hs) λao=>?_
 refine Ce2 Tryz.func167 C C ?_
 refine Af<|Ga C<|Ac<|Af<|Ga C<|Ac<|W.cut (σ:=Nat) (λs=>([(0,.slice a xs.length c),(1,e7 x),(5,e7 ((s:Nat):Int))]:Env)) (λs=>vk 3 a c xs::I) (λs=>(s<=xs.length)/\(∀j,j<s->e_ xs j<x)/\(s=xs.length\/(s<xs.length/\¬e_ xs s<x))) ?_ ?_
 ·refine Aw (Bu (σ:=Nat) (λs=>([(0,.slice a xs.length c),(1,e7 x),(5,e7 ((s:Nat):Int))]:Env)) (λs=>vk 3 a c xs::I) (λs=>(s<=xs.length)/\(∀j,j<s->e_ xs j<x)) (λs=>xs.length - s) 0 (show ((0:Nat)<=xs.length)/\(∀j,j<(0:Nat)->e_ xs j<x) from ⟨om,all_zero⟩) (Aa C<|Aa C<|Aa B2 Bi) (show Fit κ _ (vk 3 a c xs::I) from Bc) ?_)
  rintro i Z
  obtain ⟨hi,hlt⟩:=Z
  refine Aq<|Af<|Gm C<|Gm C<|Gr (Bh Ab C)<|Gr (A4 C C)<|Gm C<|Bt (d:=11) C (λae=>?_)<|λae=>?_
  ·refine e9 (Ai C) (e9 (Ai C)<|e9 (Ax (α:=Int) (xs:=xs) Ab ef C C Bf om om)<|e9 (Br (xs:=xs) ef C Bf om om)<|e9 (Ai C)<|e9 (A4 C C)<|Gr (Ba C C)<|Ac<|Ao (S4 18 0 1 5 C C C C)<|A5 C (λah=>?_)<|λah=>?_)
   ·exact Av<|Ah<|Aw<|Ar<|Gm C<|Gr (Rad C C)<|Ga C<|Bj<|Aj<|B3 ((i+1)) ⟨om,(all_succ hlt om)⟩
   exact Bs<|Al<|Al<|A2<|V.mi ((i)) ⟨om,hlt,om⟩
  exact eb<|eb<|eb<|eb<|eb<|eb<|Gr (A6 C C)<|Ac<|Ao (S4 18 0 1 5 C C C C)<|Dp C<|Bs<|Al<|Al<|A2<|V.mi ((i)) ⟨om,hlt,om⟩
 rintro i Z
 obtain ⟨hi,hlt,ax⟩:(i<=xs.length)/\(∀j,j<i->e_ xs j<x)/\(i=xs.length\/(i<xs.length/\¬e_ xs i<x)):=Z
 show W prog κ 46 _ _ ([(0,.slice a xs.length c),(1,e7 x),(5,e7<|(i:Int))]:Env) (vk 3 a c xs::I)
 refine Aq<|Af<|Gm C<|Gm C<|Gr (Bh Ab C)<|Gr (A4 C C)<|Gm C<|Bt (d:=25) C (λai=>?_)<|λai=>?_
 ·refine e9 (Ai C) (e9 (Ai C)<|e9 (Ax (α:=Int) (xs:=xs) Ab ef C C Bf om om)<|e9 (Br (xs:=xs) ef C Bf om om)<|e9 (Ai C)<|e9 (Bw C C)<|Gr (Ba C C)<|Ac<|Ao (S4 32 0 1 5 C C C C)<|A5 C (λaj=>?_)<|λaj=>?_)
  ·refine Af (Gm C<|Ga C<|Ac<|Az<|Ap ?_)
   have Z:=(putL_at xs i x hi hlt).1 om om
   exact A1 C C _ Ay ⟨a,c,by rw [Z],by rw [Z]⟩
  refine Av<|Ah<|Af<|Gm C<|Gm C<|Gr (Runs.hi (α:=Int) (xs:=xs) (h:=i) Ab ef C C om Bf om)<|Ge2 (Eff.clone (α:=Int) (ys:=List.take i xs) Ab ef C C C (Sl.take Bf om) (by simp only [List.length_append,List.length_cons,List.length_nil,List.length_take,List.length_drop];omega) dc C) λaq aw=>?_
  refine Ga C<|Ac<|Aq<|Bq mixed<|Ca (vk 3 a c xs::I) 9<|Dr 0 C (Ai C)<|Dr 1 C (Ai C)<|Dr 4 C (Ai C)<|Dr 5 C (Ai C)<|Dr 6 C (Ek (α:=Int) (xs:=xs) (l:=i) Ab ef C C om Bf om)<|Ds1 2<|Se1 C (Cf (α:=Int) (cs:=[_]) (xs:=[x]) Ab ef C C dc dc C C C C) λay=>?_
  refine Ds1 3<|Se2 C (Cg (α:=Int) (e:=3) (xs:=List.take i xs) (ys:=([x]:List Int)) Ab ef C C C mm Bf (by simp only [List.length_append,List.length_cons,List.length_nil,List.length_take,List.length_drop];omega) dc C<|λ_ _=>am) λau az=>?_
  refine Ds1 7<|Se2 C (Cg (α:=Int) (e:=3) (xs:=(List.take i xs)++([x]:List Int)) (ys:=List.drop i xs) Ab ef C C C mm (Sl.drop Bf om) (by simp only [List.length_append,List.length_cons,List.length_nil,List.length_take,List.length_drop];omega) dc C<|λ_ _=>am) λab ad=>?_
  refine Dr 8 C (Bd C)<|Dz<|Ah<|Ao (S1 4 C)<|Az ?_
  have Z:=(putL_at xs i x hi hlt).2 om
  exact A1 C C (vk 3 ab ad (putL xs x)::I) (by rw [Z];exact Bc) ⟨ab,ad,by rw [Z],rfl⟩
 refine eb<|eb<|eb<|eb<|eb<|eb<|Gr (A6 C C)<|Ac<|Ao (S4 32 0 1 5 C C C C)<|Dp C<|Av<|Ah<|Af<|Gm C<|Gm C<|Gr (Runs.hi (α:=Int) (xs:=xs) (h:=i) Ab ef C C om Bf om)<|Ge2 (Eff.clone (α:=Int) (ys:=List.take i xs) Ab ef C C C (Sl.take Bf om) (by simp only [List.length_append,List.length_cons,List.length_nil,List.length_take,List.length_drop];omega) dc C) λav ar=>?_
 refine Ga C<|Ac<|Aq<|Bq mixed<|Ca (vk 3 a c xs::I) 9<|Dr 0 C (Ai C)<|Dr 1 C (Ai C)<|Dr 4 C (Ai C)<|Dr 5 C (Ai C)<|Dr 6 C (Ek (α:=Int) (xs:=xs) (l:=i) Ab ef C C om Bf om)<|Ds1 2<|Se1 C (Cf (α:=Int) (cs:=[_]) (xs:=[x]) Ab ef C C dc dc C C C C) λak=>?_
 refine Ds1 3<|Se2 C (Cg (α:=Int) (e:=3) (xs:=List.take i xs) (ys:=([x]:List Int)) Ab ef C C C mm Bf (by simp only [List.length_append,List.length_cons,List.length_nil,List.length_take,List.length_drop];omega) dc C<|λ_ _=>am) λan ap=>?_
 refine Ds1 7<|Se2 C (Cg (α:=Int) (e:=3) (xs:=(List.take i xs)++([x]:List Int)) (ys:=List.drop i xs) Ab ef C C C mm (Sl.drop Bf om) (by simp only [List.length_append,List.length_cons,List.length_nil,List.length_take,List.length_drop];omega) dc C<|λ_ _=>am) λaa M=>?_
 refine Dr 8 C (Bd C)<|Dz<|Ah<|Ao (S1 4 C)<|Az ?_
 have Z:=(putL_at xs i x hi hlt).2 om
 exact A1 C C (vk 3 aa M (putL xs x)::I) (by rw [Z];exact Bc) ⟨aa,M,by rw [Z],rfl⟩
theorem Put_at{F:Item->List Item}(aa:AtF I (vk 3 a c xs) F)(hb:xs.length<17592186044415)(x:Int):eu prog κ 167 [.slice a xs.length c,e7 x] I λr J=>∃M c',r = .slice M (putL xs x).length c'/\J=F (vk 3 M c' (putL xs x)):=
 (eu.at (Z:=λ_=>[]) (X:=λy:Option Addr×Nat=>vc 3 (.slice y.1 (putL xs x).length y.2)<|putL xs x) (Post:=λr y=>r = .slice y.1 (putL xs x).length y.2) aa λJ _ _=>(Put_ok (a:=a) (c:=c) hb x).mono λr J' ⟨M,c',h1,h2⟩=>⟨(M,c'),h1,h2⟩).mono λ_ _ ⟨y,h1,h2⟩=>⟨y.1,y.2,h1,h2⟩
theorem Of_ok(hl:Sl κ I v xs)(hb:xs.length<17592186044415):eu prog κ 140 [v] I (λr J=>∃a c,r = .slice a (ofL xs).length c/\J=vk 3 a c (ofL xs)::I):=by
 refine B8 hl.le λab=>?_
 refine Ce1 Tryz.func140 C C ?_
 refine Af<|Ga C<|Ac<|Af<|Ga C<|Ac<|Aq<|Af<|Gm C<|Gr (B9 (α:=Int) (xs:=xs) Ab C<|A8 hl)<|Gm C<|Ac<|Aw<|Bu (σ:=Nat×(Option Addr)×Nat×(List Int)) (λs=>([(3,.slice s.2.1 s.2.2.2.length s.2.2.1),(6,v),(7,e7 ((xs.length:Nat):Int)),(8,e7 ((s.1:Nat):Int))]:Env)) (λs=>vk 3 s.2.1 s.2.2.1 s.2.2.2::I) (λs=>(s.1<=xs.length)/\(s.2.2.2=ofL (xs.take s.1))) (λs=>xs.length - s.1) (0,none,0,[]) (show ((0:Nat)<=xs.length)/\(([]:List Int)=ofL (xs.take (0:Nat))) from ⟨om,rfl⟩) (Aa (Cx C<|by first|rfl|simp)<|Aa C<|Aa C<|Aa B2 Bi) (show Fit κ _ (vk 3 none 0 ([])::I) from (Cb _ _)) ?_
 rintro ⟨k,a,c,out⟩ hp
 dsimp only at hp ⊢
 obtain ⟨hk,ho⟩:=hp
 refine Af<|Gr (A4 C C)<|Ac<|Aq<|A5 C (λc9=>?_)<|λc9=>?_
 ·refine Av (Ah<|Aq<|Aw<|Af<|Gr (Ax (α:=Int) (xs:=xs) Ab ef C C (A8 hl) om om)<|Gr (Br (xs:=xs) ef C (A8 hl) om om)<|Ga C<|Ac<|Ar<|Gm C<|Gm C<|Gc2 (Ak c_ C C<|Put_at (by repeat (first|exact AtF.head _ _|apply AtF.tail)) (by rw [ho];have:=ofL_len (xs.take k);simp only [List.length_take] at this;omega)<|e_ xs k) λZ M=>?_)
  show G prog κ _ _ _ _ ([(14,.slice Z (putL out<|e_ xs k).length M),(13,e7<|e_ xs k),(12,.slice a out.length c),(5,e7<|e_ xs k),(11,e7<|e_ xs k),(10,elemPtr v<|((k:Int)).toNat*Enc.sz Int),(9,.bool<|decide<|(k:Int)<((xs.length:Nat):Int)),(3,.slice a out.length c),(6,v),(7,e7 ((xs.length:Nat):Int)),(8,e7<|(k:Int))]:Env) (vk 3 Z M (putL out<|e_ xs k)::I)
  exact Ga C<|Bj<|Aj<|Ah<|Ar<|Gr (Rad C C)<|Gm C<|Bj<|B3 ((k+1),(Z),(M),(putL out<|e_ xs k))<|by dsimp only;exact ⟨om,(by rw [ofL_take xs k om,←ho])⟩
 refine Bs<|Al<|Al<|A2<|Ah<|Af<|Gm C<|Ga C<|Ac<|Az ?_
 have aa:xs.take k=xs:=List.take_of_length_le om
 rw [aa] at ho
 subst ho
 exact A1 C C _ Ay ⟨a,c,rfl,rfl⟩
def minusL(xs ys:List Int):List Int:=(ofL xs).filter λx=>decide (x∉ys)
theorem filter_take(xs:List Int)(p:Int->Bool)(k:Nat)(h:k<xs.length):(xs.take (k+1)).filter p=(xs.take k).filter p++if p (e_ xs k) then [e_ xs k] else []:=by
 rw [Cj xs k h,List.filter_append]
 congr 1
 by_cases hp:p (e_ xs k)<;>simp [List.filter_cons,hp]
theorem filter_take_yes(xs:List Int)(p:Int->Bool)(k:Nat)(h:k<xs.length)(Z:p (e_ xs k)=true):(xs.take (k+1)).filter p=(xs.take k).filter p++[e_ xs k]:=by
 rw [filter_take xs p k h,if_pos Z]
theorem filter_take_no(xs:List Int)(p:Int->Bool)(k:Nat)(h:k<xs.length)(Z:p (e_ xs k)=false):(xs.take (k+1)).filter p=(xs.take k).filter p:=by
 rw [filter_take xs p k h,Z];simp
theorem filter_take_len(xs:List Int)(p:Int->Bool)(k:Nat):((xs.take k).filter p).length<=xs.length:=by
 have Z:=List.length_filter_le p (xs.take k)
 have M:=List.length_take_le' k xs
 omega
theorem Minus_ok(hu:Sl κ I u xs)(hv:Sl κ I v ys)(hb:xs.length<17592186044415):eu prog κ 102 [u,v] I (λr J=>∃a c,r = .slice a (minusL xs ys).length c/\J=vk 3 a c (minusL xs ys)::I):=by
 have ai:=ofL_len xs
 refine Ce2 Tryz.func102 C C ?_
 refine Af<|Ga C<|Ac<|Af<|Ga C<|Ac<|Aq<|Af<|Gm C<|Gc2 (Ak c_ C C<|Of_ok (A8 hu) om) λM aa=>?_
 refine Gr (Bh Ab C)<|Gm C<|Ac<|Aw<|Bu (σ:=Nat×(Option Addr)×Nat×(List Int)) (λs=>([(1,v),(5,.slice s.2.1 s.2.2.2.length s.2.2.1),(9,.slice M (ofL xs).length aa),(10,e7<|(((ofL xs).length:Nat):Int)),(11,e7 ((s.1:Nat):Int))]:Env)) (λs=>vk 3 s.2.1 s.2.2.1 s.2.2.2::vk 3 M aa (ofL xs)::I) (λs=>(s.1<=(ofL xs).length)/\(s.2.2.2=((ofL xs).take s.1).filter (λx=>decide<|x∉ys))) (λs=>(ofL xs).length - s.1) (0,none,0,[]) (show ((0:Nat)<=(ofL xs).length)/\(([]:List Int)=((ofL xs).take (0:Nat)).filter (λx=>decide<|x∉ys)) from ⟨om,rfl⟩) (Aa C<|Aa (Cx C<|by first|rfl|simp)<|Aa C<|Aa C<|Aa B2 Bi) (show Fit κ _ (vk 3 none 0 ([])::vk 3 M aa (ofL xs)::I) from (Cb _ _)) ?_
 rintro ⟨k,a,c,out⟩ hp
 dsimp only at hp ⊢
 obtain ⟨hk,ho⟩:=hp
 refine Af<|Gr (A4 C C)<|Ac<|Aq<|A5 C (λc12=>?_)<|λc12=>?_
 ·refine Av (Ah<|Aq<|Aw<|Af<|Gr (Ax (α:=Int) (xs:=ofL xs) Ab ef C C Bf om om)<|Gr (Br (xs:=ofL xs) ef C Bf om om)<|Ga C<|Ac<|Af<|Gm C<|Gm C<|Gc0 (Ak c_ C C<|RHas_ok (A8 hv)<|e_ (ofL xs) k) ?_)
  refine Gr (Dk C)<|Ac<|A5 C (λZ=>?_)<|λZ=>?_
  ·refine Ar (Gm C<|Gm C<|Ge1 (Cf (α:=Int) (cs:=[_]) (xs:=[e_ (ofL xs) k]) Ab ef C C dc dc C C C C) λaj=>?_)
   refine Ge2 (Cg (α:=Int) (e:=3) (xs:=out) (ys:=([e_ (ofL xs) k]:List Int)) Ab ef C C C mm Bf (by have:=ofL_len xs;simp only [List.length_cons,List.length_nil];rw [ho];have:=filter_take_len (ofL xs) (λx=>decide<|x∉ys) k;omega) dc C<|λ_ _=>am) λab ah=>?_
   exact Ga C<|Bj<|Aj<|Ah<|Ao (S5 5 1 9 10 11 C C C C C)<|Ar<|Gr (Rad C C)<|Gm C<|Bj<|B3 ((k+1),(ab),(ah),(out++([e_ (ofL xs) k]:List Int)))<|by dsimp only;exact ⟨om,(by first|rw [filter_take_yes _ _ k om (decide_eq_true Z),←ho]|rw [filter_take_no _ _ k om (decide_eq_false Z),←ho])⟩
  exact Av<|Aj<|Ah<|Ar<|Gr (Rad C C)<|Gm C<|Bj<|B3 ((k+1),(a),(c),(out))<|by dsimp only;exact ⟨om,(by first|rw [filter_take_yes _ _ k om (decide_eq_true Z),←ho]|rw [filter_take_no _ _ k om (decide_eq_false Z),←ho])⟩
 refine Bs<|Al<|Al<|A2<|Ah<|Af<|Gm C<|Ga C<|Ac<|Az ?_
 have ad:(ofL xs).take k=ofL xs:=List.take_of_length_le om
 rw [ad] at ho
 have ae:out=minusL xs ys:=ho
 subst ae
 exact A1 C C (vk 3 a c (minusL xs ys)::I) Bc ⟨a,c,rfl,rfl⟩
theorem ValidP_nil(w:Int):ValidP [] w:=λj Z=>absurd Z (Nat.not_lt_zero j)
theorem ValidP_mono{w':Int}(h:ValidP xs w)(M:w<=w'):ValidP xs w':=λj Z=>⟨⟨(h j Z).1.1,by have:=(h j Z).1.2;omega⟩,(h j Z).2⟩
theorem ValidP_push(h:ValidP xs w)(h0:0<=w):ValidP (xs++[w]) (w+1):=λj hj=>by
 by_cases hl:j<xs.length
 ·obtain ⟨⟨M,h2⟩,h3⟩:=h j hl
  rw [at_append_left xs [w] j hl]
  refine ⟨⟨M,by omega⟩,λZ=>?_⟩
  have e:((j:Int) - 1)=((j - 1:Nat):Int):=by omega
  rw [e,at_append_left xs [w] (j - 1) om,←e]
  exact h3 Z
 obtain rfl:j=xs.length:=by simp at hj;omega
 rw [at_last]
 refine ⟨⟨h0,by omega⟩,λZ=>?_⟩
 have e:((xs.length:Int) - 1)=((xs.length - 1:Nat):Int):=by omega
 rw [e,at_append_left xs [w] (xs.length - 1) om]
 exact (h _ om).1.2
theorem ValidP_mem{x:Int}(h:ValidP xs w)(Z:x∈xs):0<=x/\x<w:=by
 obtain ⟨j,hj,M⟩:=mem_at Z
 rw [←M];exact (h j hj).1
end Go.Sl
namespace Go.Sl
open Go.Proofs Go.Shelf Go.RowKit Go.Lib Go.Sort
variable{P:Program}{κ:Ctx}{I:List Item}
section
variable {α:Type}[Enc α][Inhabited α]
theorem flat_cells(d:Array α):flatK Enc.enc (Enc.sz α) d=(cells d.toList).toArray:=by
 apply Array.ext
 ·simp [cells_length]
 intro t h1 h2
 have aa:t<d.size*Enc.sz α:=by simpa using h1
 have M:0<Enc.sz α:=Enc.pos
 have hi:t / Enc.sz α<d.size:=Nat.div_lt_of_lt_mul (by rw [Nat.mul_comm];exact aa)
 have hj:t % Enc.sz α<Enc.sz α:=Nat.mod_lt _ M
 have e1:t=t / Enc.sz α*Enc.sz α+t % Enc.sz α:=by rw [Nat.mul_comm];exact (Nat.div_add_mod t<|Enc.sz α).symm
 have e2:=cells_get d.toList (t / Enc.sz α) (t % Enc.sz α) (by simpa using hi) hj
 rw [←e1] at e2
 have e3:(cells d.toList)[t]? = some ((cells d.toList)[t]'(by simpa using h2)):=List.getElem?_eq_getElem _
 rw [e3] at e2
 have Z:t % Enc.sz α<(Enc.enc<|d.toList[t / Enc.sz α]'(by simpa using hi)).length:=by rw [Enc.len];exact hj
 rw [List.getElem?_eq_getElem Z] at e2
 have e4:=Option.some.inj e2
 simp only [List.getElem_toArray]
 rw [e4]
 simp [flatK,getElem!_pos,hi,Enc.len,hj]
theorem sort_base{ρ:Ren}(L:SlLaysF0.n6 P ρ)(aE:∀w,(isAgg (ρ.t 24)).run P w = .ok true w)(zE:∀w,(Go.sizeOf (ρ.t 24)).run P w = .ok (Enc.sz α) w)(cf:α->α->Int)(hO:SWO (ltOf cf))(g:Nat)(cb:Array Value)
  (eg:∀args w,(callFunc g args).run P w = .ok (.enter g args) w) (ap:∀(x y:α) (W:World),Calls P g (#[.agg (Enc.enc x).toArray,.agg (Enc.enc y).toArray]++cb) W λe w'=>e = .returned (.int .i64<|cf x y)/\∃q os',w'=grow (W.drewN q) os')
  {e:TypeId} {ad:Option Addr} {c:Nat} {xs:List α} (hc:0<c) (a4:xs.length<4611686018427387904):eu P κ (ρ.f 6) [.slice ad xs.length c,.func (.func g) #[] cb] (vc e (.slice ad xs.length c) xs::I) λr J=>∃ys:List α,(r = .tuple #[]/\ys.Perm xs/\ys.Pairwise λa b=>ltOf cf b a=false)/\J=[]++vc e (.slice ad ys.length c) ys::I:=by
 intro w hs
 obtain ⟨a0,_⟩:=hs.ok _ List.mem_cons_self
 obtain ⟨a',a5,hv,hl,an,aw,aq⟩:=a0
 cases hv
 obtain ⟨b,off,ak,rfl,hb,ai,ao⟩:=aq hc
 have av:b<w.heap.size:=(Array.getElem?_eq_some_iff.1 hb).1
 have a7:=cells_length xs
 have a8:xs.length*Enc.sz α<=c*Enc.sz α:=Nat.mul_le_mul_right _ an
 have hH:HoldsK Enc.enc (Enc.sz α) w b off xs.toArray:=λj hj=>by
  rw [flat_cells] at hj ⊢
  have Z:j<(cells xs).length:=by simpa using hj
  have h1:=ao j ((cells xs)[j]) (List.getElem?_eq_getElem Z)
  refine ⟨?_,by simp [World.frozen?,hb]⟩
  rw [cell_of_row w b (off+j) ak e (0,0) hb,h1]
  simp [getElem!_pos,Z]
 have h:=AnyQ.slices_SortFunc L (Enc.sz α) aE zE Enc.enc Enc.len Enc.one cf hO g cb b off c xs.toArray w eg (λm os dk _ x y=>ap x y _) hH av (by simpa using a4)
 refine Calls.mono h ?_
 rintro e' w' ⟨rfl,M,n,os,⟨ar,_,aa⟩,aj,rfl⟩
 have ah:M.size=xs.length:=by simpa using ar
 have ab:M.toList.Perm xs:=by
  have e1:M.extract 0 xs.toArray.size=M:=by rw [←ar];simp
  have e2:xs.toArray.extract 0 xs.toArray.size=xs.toArray:=by simp
  rw [e1,e2] at aa
  exact aa
 have ae:M.toList.length=xs.length:=by simpa using ah
 refine ⟨_,_,rfl,⟨M.toList,⟨rfl,ab,?_⟩,rfl⟩,?_⟩
 ·rw [List.pairwise_iff_getElem]
  intro i j hi hj ax
  have:=aj i j (Nat.zero_le _) ax (by simpa [ah] using hj)
  simp only [Array.length_toList] at hi hj
  rw [getElem!_pos M i hi,getElem!_pos M j hj] at this
  simpa using this
 show Sep κ _ (vc e (.slice (some ⟨b,off,none⟩) M.toList.length c) M.toList::I)
 refine hs.upd (At.head _ _ _) rfl ⟨rfl,by simp [sortWorldK,putRowK,Sort.grow]⟩ rfl (by simp [sortWorldK,putRowK]) (λk hk az=>?_) ?_ λk hk=> .inl ?_
 ·have a3:k≠b:=λay=>az (by subst ay;exact ⟨off,xs.length,c,rfl,hc⟩)
  simp only [sortWorldK,Sort.grow,putRowK,putRow,mapBlock]
  rw [Array.getElem?_append_left (by simpa using hk),Array.getElem?_modify,if_neg<|λe=>a3 e.symm]
  rfl
 ·refine ⟨_,c,rfl,cells_length _,by rw [ae];exact an,aw,λ_=>⟨b,off,putCells id off (flatK Enc.enc (Enc.sz α) M) ak,rfl,?_,?_,λj u hj=>?_⟩⟩
  ·simp only [sortWorldK,Sort.grow,putRowK,putRow,mapBlock]
   rw [Array.getElem?_append_left (by simpa using av),Array.getElem?_modify,if_pos rfl]
   show (w.heap[b]?).map _=_
   rw [hb];rfl
  ·simpa [putCells] using ai
  have Z:j<(cells M.toList).length:=(List.getElem?_eq_some_iff.1 hj).1
  have a6:j<xs.length*Enc.sz α:=by rw [cells_length,ae] at Z;exact Z
  have au:off+j<ak.size:=by omega
  rw [flat_cells]
  simp only [putCells,Array.getElem?_mapIdx,Array.getElem?_eq_getElem au,Option.map_some]
  rw [if_pos ⟨by omega,by simpa using Z⟩,Nat.add_sub_cancel_left]
  rw [List.getElem?_eq_getElem Z] at hj
  simpa [getElem!_pos,Z] using hj
 obtain ⟨o',n',c',a1,a9⟩:=hk
 cases a1
 exact ⟨off,xs.length,c,rfl,hc⟩
theorem sort_any{ρ:Ren}(L:SlLaysF0.n6 P ρ)(aE:∀w,(isAgg (ρ.t 24)).run P w = .ok true w)(zE:∀w,(Go.sizeOf (ρ.t 24)).run P w = .ok (Enc.sz α) w)(M:α->α->Int)(hO:SWO (ltOf M))(g:Nat)(cb:Array Value)
  (eg:∀args w,(callFunc g args).run P w = .ok (.enter g args) w) (Z:∀(x y:α) (W:World),Calls P g (#[.agg (Enc.enc x).toArray,.agg (Enc.enc y).toArray]++cb) W λe w'=>e = .returned (.int .i64<|M x y)/\∃q os',w'=grow (W.drewN q) os')
  {e:TypeId} {ad:Option Addr} {c:Nat} {xs:List α} (ab:xs.length<4611686018427387904):eu P κ (ρ.f 6) [.slice ad xs.length c,.func (.func g) #[] cb] (vc e (.slice ad xs.length c) xs::I) λr J=>∃ys:List α,(r = .tuple #[]/\ys.Perm xs/\ys.Pairwise λa b=>ltOf M b a=false)/\J=[]++vc e (.slice ad ys.length c) ys::I:=by
 by_cases hc:0<c
 ·exact sort_base L aE zE M hO g cb eg Z hc ab
 intro w hs
 obtain ⟨aa,_⟩:=hs.ok _ List.mem_cons_self
 obtain ⟨a',ah,hv,hl,aj,ai,ae⟩:=aa
 cases hv
 obtain rfl:xs=[]:=List.eq_nil_of_length_eq_zero (by omega)
 refine Calls.mono (AnyF.slices_SortFunc_none L ad c _ w) ?_
 rintro e' w' ⟨rfl,rfl⟩
 exact ⟨_,_,rfl,⟨[],⟨rfl,List.Perm.nil,List.Pairwise.nil⟩,rfl⟩,hs⟩
end
theorem lays_of{f:FuncId}{Z:List Value}{v:Value}{W:World}(h:eu P ⟨W.os,W.tape,W.output,W.drawn⟩ f Z [old W.heap.size W] λr J=>r=v/\[old W.heap.size W]=J) :
  Calls P f Z.toArray W λe w'=>e = .returned v/\∃q aa,w'=Sort.grow (W.drewN q) aa:=(h W<|Sep.begin W).mono λe w' ⟨r,J,he,⟨hv,hJ⟩,hs⟩=>by
 subst hv hJ
 refine ⟨he,w'.drawn - W.drawn,w'.heap.extract W.heap.size w'.heap.size,?_⟩
 have hb:=hs.below List.mem_cons_self
 have ad:∀k,k<W.heap.size->w'.heap[k]? = W.heap[k]? :=(hs.ok _ List.mem_cons_self).1
 have hd:=hs.tape.2
 have M:w'.heap=W.heap++w'.heap.extract W.heap.size w'.heap.size:=by
  apply Array.ext_getElem?
  intro k
  by_cases hk:k<W.heap.size
  ·rw [Array.getElem?_append_left hk];exact ad k hk
  rw [Array.getElem?_append_right (by omega),Array.getElem?_extract]
  have ao:=hb.size
  by_cases hk2:k<w'.heap.size
  ·rw [if_pos (by omega)];congr 1;omega
  rw [Array.getElem?_eq_none (by omega)]
  split
  ·omega
  rfl
 have e:W.drawn+(w'.drawn - W.drawn)=w'.drawn:=by have:W.drawn<=w'.drawn:=hd;omega
 have ai:w'.os=W.os:=hs.os
 have ak:w'.tape=W.tape:=hs.tape.1
 have aj:w'.output=W.output:=hs.output
 obtain ⟨ah,ae,ab,aa,an⟩:=w'
 simp only [Sort.grow,World.drewN] at *
 subst ai ak aj
 rw [e,←M]
end Go.Sl
namespace Go.Proofs
def Tryz.sort211_ren:Go.Shelf.Ren:=⟨fun |6=>211|15=>181|14=>221|28=>207|29=>208|20=>224|21=>225|22=>226|23=>227|24=>228|25=>229|26=>230|27=>231|46=>233|47=>215|48=>216|49=>234|50=>235|57=>236|n=>n,fun |22=>33|24=>82|25=>202|3=>3|39=>233|0=>0|53=>251|55=>207|4=>4|46=>244|45=>243|50=>225|5=>5|9=>9|66=>256|70=>260|76=>265|77=>266|n=>n,fun |n=>n⟩
theorem Tryz.sort211:Go.Proofs.SlLaysF0.n6 prog Tryz.sort211_ren:={
 mixed:=by kernel_rfl,
 f6:=⟨Tryz.f211.name,by decide,Tryz.func211.trans<|congrArg some<|by kernel_rfl⟩,
 f14:=⟨Tryz.f221.name,by decide,Tryz.func221.trans<|congrArg some<|by kernel_rfl⟩,
 f15:=Tryz.func181.trans (congrArg some<|by kernel_rfl),
 f20:=⟨Tryz.f224.name,by decide,Tryz.func224.trans<|congrArg some<|by kernel_rfl⟩,
 f21:=⟨Tryz.f225.name,by decide,Tryz.func225.trans<|congrArg some<|by kernel_rfl⟩,
 f22:=⟨Tryz.f226.name,by decide,Tryz.func226.trans<|congrArg some<|by kernel_rfl⟩,
 f23:=⟨Tryz.f227.name,by decide,Tryz.func227.trans<|congrArg some<|by kernel_rfl⟩,
 f24:=⟨Tryz.f228.name,by decide,Tryz.func228.trans<|congrArg some<|by kernel_rfl⟩,
 f25:=⟨Tryz.f229.name,by decide,Tryz.func229.trans<|congrArg some<|by kernel_rfl⟩,
 f26:=⟨Tryz.f230.name,by decide,Tryz.func230.trans<|congrArg some<|by kernel_rfl⟩,
 f27:=⟨Tryz.f231.name,by decide,Tryz.func231.trans<|congrArg some<|by kernel_rfl⟩,
 f28:=Tryz.func207.trans (congrArg some<|by kernel_rfl),
 f29:=Tryz.func208.trans (congrArg some<|by kernel_rfl),
 f46:=⟨Tryz.f233.name,by decide,Tryz.func233.trans<|congrArg some<|by kernel_rfl⟩,
 f47:=Tryz.func215.trans (congrArg some<|by kernel_rfl),
 f48:=Tryz.func216.trans (congrArg some<|by kernel_rfl),
 f49:=⟨Tryz.f234.name,by decide,Tryz.func234.trans<|congrArg some<|by kernel_rfl⟩,
 f50:=⟨Tryz.f235.name,by decide,Tryz.func235.trans<|congrArg some<|by kernel_rfl⟩,
 f57:=⟨Tryz.f236.name,by decide,Tryz.func236.trans<|congrArg some<|by kernel_rfl⟩,
 t0:=Tryz.underlying0,
 a0:=Tryz.isAgg0,
 z0:=Tryz.sizeOf0,
 v0:=Tryz.zeroValue0,
 t3:=Tryz.underlying3,
 a3:=Tryz.isAgg3,
 z3:=Tryz.sizeOf3,
 v3:=Tryz.zeroValue3,
 t4:=Tryz.underlying4,
 a4:=Tryz.isAgg4,
 z4:=Tryz.sizeOf4,
 v4:=Tryz.zeroValue4,
 t5:=Tryz.underlying5,
 a5:=Tryz.isAgg5,
 z5:=Tryz.sizeOf5,
 v5:=Tryz.zeroValue5,
 t9:=Tryz.underlying9,
 a9:=Tryz.isAgg9,
 z9:=Tryz.sizeOf9,
 v9:=Tryz.zeroValue9,
 t22:=Tryz.underlying33,
 a22:=Tryz.isAgg33,
 z22:=Tryz.sizeOf33,
 v22:=Tryz.zeroValue33,
 t25:=Tryz.underlying202,
 a25:=Tryz.isAgg202,
 z25:=Tryz.sizeOf202,
 v25:=Tryz.zeroValue202,
 t39:=Tryz.underlying233,
 a39:=Tryz.isAgg233,
 z39:=Tryz.sizeOf233,
 v39:=Tryz.zeroValue233,
 t45:=Tryz.underlying243,
 a45:=Tryz.isAgg243,
 z45:=Tryz.sizeOf243,
 v45:=Tryz.zeroValue243,
 t46:=Tryz.underlying244,
 a46:=Tryz.isAgg244,
 z46:=Tryz.sizeOf244,
 v46:=Tryz.zeroValue244,
 t50:=Tryz.underlying225,
 a50:=Tryz.isAgg225,
 z50:=Tryz.sizeOf225,
 v50:=Tryz.zeroValue225,
 t53:=Tryz.underlying251,
 a53:=Tryz.isAgg251,
 z53:=Tryz.sizeOf251,
 v53:=Tryz.zeroValue251,
 t55:=Tryz.underlying207,
 a55:=Tryz.isAgg207,
 z55:=Tryz.sizeOf207,
 v55:=Tryz.zeroValue207,
 t66:=Tryz.underlying256,
 a66:=Tryz.isAgg256,
 z66:=Tryz.sizeOf256,
 v66:=Tryz.zeroValue256,
 t70:=Tryz.underlying260,
 a70:=Tryz.isAgg260,
 z70:=Tryz.sizeOf260,
 v70:=Tryz.zeroValue260,
 t76:=Tryz.underlying265,
 a76:=Tryz.isAgg265,
 z76:=Tryz.sizeOf265,
 v76:=Tryz.zeroValue265,
 t77:=Tryz.underlying266,
 a77:=Tryz.isAgg266,
 z77:=Tryz.sizeOf266,
 v77:=Tryz.zeroValue266}
end Go.Proofs
namespace Go.Sl
open Go.Proofs
set_option maxRecDepth 4000
variable{n:Int}
theorem Order_ok{κ:Ctx}{I:List Item}(a c:Pt):eu prog κ 131 [.agg #[e7 (a.u),e7 (a.v)],.agg #[e7 (c.u),e7 (c.v)]] I (λr J=>r=e7 (Pt.cmp a c)/\I=J):=by
 refine Ce2 Tryz.func131 C C ?_
 refine Af<|Ge1 (Bg (cs:=[_,_]) C C C) λb1=>Ge1 (Bg (cs:=[_,_]) C C C) λM=>Ga C<|Ac<|Aq<|Bq mixed<|Ca (e8 M [e7 (c.u),e7<|c.v] 105::e8 b1 [e7 (a.u),e7<|a.v] 105::I) 12<|Dr 0 C (Ad fld105_0 C)<|Dr 1 C (Bb ef) ?_
 refine Dr 2 C (Ad fld105_0 C)<|Dr 3 C (Bb ef) ?_
 refine Dr 5 C (Ad fld105_1 C)<|Dr 6 C (Bb ef) ?_
 refine Dr 7 C (Ad fld105_1 C)<|Dr 8 C (Bb ef) ?_
 refine Ds1 4<|Sc0 C (Ak c_ C C<|Compare_ok a.u c.u) ?_
 refine Ds1 9<|Sc0 C (Ak c_ C C<|Compare_ok a.v c.v) ?_
 refine Ds1 10<|Se1 C (Cf (α:=Int) (cs:=[_,_]) (xs:=[cmpI a.u c.u,cmpI a.v c.v]) Ab ef C C dc dc C C C C) λZ=>?_
 refine Ds1 11<|Sc0 C (Ak c_ C C<|Or_ok Bf) ?_
 refine Cs kr ?_
 refine Dy (i:=12) kr C (Bn C) C C (Bd C) ?_
 refine Ct kr ?_
 exact Ah<|Ao (S1 4 C)<|Az<|A1 C C I Ay ⟨by rw [←orL_cmp],rfl⟩
variable {κ:Ctx}{I:List Item}
structure Lk where
 u:Int
 v:Int
 w:Int
 lb:Int
 sg:Int
 tm:Int
deriving DecidableEq,Inhabited
instance:Enc Lk:=⟨λx=>[e7 x.u,e7 x.v,e7 x.w,e7 x.lb,e7 x.sg,e7 x.tm],6,by omega,λ_=>rfl,λx u h=>by
 simp only [List.mem_cons,List.not_mem_nil,or_false] at h
 rcases h with rfl|rfl|rfl|rfl|rfl|rfl<;>rfl⟩
theorem eqt82:EqT prog 82 Lk:=EqT.flat (λp:Lk=>[p.u,p.v,p.w,p.lb,p.sg,p.tm]) (λ_=>rfl) (λx y h=>by cases x;cases y;simpa using h) (n:=6) (λ_=>rfl) kr kr kr kr kr
structure Ev where
 kd:Int
 tm:Int
 u:Int
 v:Int
 w:Int
 lb:Int
 sg:Int
deriving DecidableEq,Inhabited
abbrev ez(x:Ev):List Value:=[e7 x.kd,e7 x.tm,e7 x.u,e7 x.v,e7 x.w,e7 x.lb,e7 x.sg]
instance:Enc Ev:=⟨λx=>(ez x),7,by omega,λ_=>rfl,λx u h=>by
 simp only [List.mem_cons,List.not_mem_nil,or_false] at h
 rcases h with rfl|rfl|rfl|rfl|rfl|rfl|rfl<;>rfl⟩
def Lk.p(l:Lk):Pt:=⟨l.u,l.v⟩
def Lk.cmp(a c:Lk):Int:=Pt.cmp a.p c.p
def Lk.lt(a c:Lk):Prop:=Pt.lt a.p c.p
instance:DecidableRel Lk.lt:=λa c=>by unfold Lk.lt;infer_instance
def rightW(w lb sg:Int):Prop:=1<=w/\w<=1000/\0<=lb/\lb<=15/\(sg=1\/sg = -1)
instance (w lb sg:Int):Decidable (rightW w lb sg):=by unfold rightW;infer_instance
def badL(n:Int)(l:Lk):Int:=if l.u<0\/l.v<=l.u\/n<=l.v then 6 else if ¬rightW l.w l.lb l.sg then 1 else if l.tm<0\/1048576<l.tm then 9 else 0
def checkS(n:Int)(xs:List Lk):Int:=if n<0\/64<n then 1 else scanL (badL n) Lk.lt none xs
theorem badL_zero{l:Lk}(Z:¬(l.u<0\/l.v<=l.u\/n<=l.v))(h2:rightW l.w l.lb l.sg)(M:¬(l.tm<0\/1048576<l.tm)):badL n l=0:=by
 unfold badL;rw [if_neg Z,if_neg<|λh=>h h2,if_neg M]
theorem badL_six{l:Lk}(Z:l.u<0\/l.v<=l.u\/n<=l.v):badL n l=6:=by unfold badL;rw [if_pos Z]
theorem badL_one{l:Lk}(Z:¬(l.u<0\/l.v<=l.u\/n<=l.v))(M:¬rightW l.w l.lb l.sg):badL n l=1:=by unfold badL;rw [if_neg Z,if_pos M]
theorem badL_nine{l:Lk}(Z:¬(l.u<0\/l.v<=l.u\/n<=l.v))(h2:rightW l.w l.lb l.sg)(M:l.tm<0\/1048576<l.tm):badL n l=9:=by unfold badL;rw [if_neg Z,if_neg (λh=>h h2),if_pos M]
def checkW(kd wd mo:Int):Int:=if kd<1\/3<kd then 8 else if (kd=2/\(wd<1\/1048576<wd))\/(kd≠2/\wd≠0)\/(kd=3/\(mo<0\/2016<mo))\/(kd≠3/\mo≠0) then 1 else 0
theorem CheckW_ok(kd wd mo:Int):eu prog κ 40 [.agg #[e7 kd,e7 wd,e7 mo]] I (λr J=>r=e7 (checkW kd wd mo)/\I=J):=by
 refine Ce1 Tryz.func40 C C ?_
 refine Af<|Ge1 (Bg (cs:=[_,_,_]) C C C) λb1=>Ga C<|Ac<|Af<|Ga C<|Ga C<|Ac<|Aq<|Af<|Gf fld29_0 C<|Gl ef ?_
 refine Ac<|Aw<|Af<|Gr (Bw C C)<|Ga C<|Ac<|A5 C (λc7=>?_)<|λc7=>?_
 ·refine Av (Aj<|Ah<|Aq<|Af<|Gf fld29_1 C<|Gl ef ?_)
  refine Gm C<|Gr (Bo C C)<|Gm C<|Bt (d:=37) C (λM=>?_)<|λM=>?_
  ·exact eb<|eb<|eb<|eb<|Gr (Ba C C)<|Ac<|Ao (S1 42 C)<|Dj C<|Af<|Ga C<|Ac<|Az<|Ap<|A1 C C I Ay ⟨by rw [show checkW kd wd mo=1 from by unfold checkW;split<;>first|rfl|omega|(split<;>first|rfl|omega)],rfl⟩
  refine e9 (Ad fld29_2 C)<|e9 (Bb ef) ?_
  refine e9 (Ai C)<|e9 (Bo C C)<|Gr (A6 C C)<|Ac<|Ao (S1 42 C)<|A5 C (λZ=>?_)<|λZ=>?_
  ·exact Af<|Ga C<|Ac<|Az<|Ap<|A1 C C I Ay ⟨by rw [show checkW kd wd mo=1 from by unfold checkW;split<;>first|rfl|omega|(split<;>first|rfl|omega)],rfl⟩
  exact Av<|Ah<|Af<|Ga C<|Ac<|Az<|A1 C C I Ay ⟨by rw [show checkW kd wd mo=0 from by unfold checkW;split<;>first|rfl|omega|(split<;>first|rfl|omega)],rfl⟩
 refine Af<|Gr (Bw C C)<|Ga C<|Ac<|A5 C (λc9=>?_)<|λc9=>?_
 ·refine Aq (Af<|Gf fld29_1 C<|Gl ef ?_)
  refine Gr (A4 C C)<|Gm C<|Bt (d:=14) C (λah=>?_)<|λah=>?_
  ·exact eb<|eb<|eb<|Gr (Ba C C)<|Ac<|Ao (S3 18 4 1 C C C)<|Dj C<|Af<|Ga C<|Ac<|Az<|Ap<|A7<|Ap<|A1 C C I Ay ⟨by rw [show checkW kd wd mo=1 from by unfold checkW;split<;>first|rfl|omega|(split<;>first|rfl|omega)],rfl⟩
  refine e9 (Ad fld29_1 C)<|e9 (Bb ef) ?_
  refine e9 (Cc C C)<|Gr (A6 C C)<|Ac<|Ao (S3 18 4 1 C C C)<|A5 C (λaa=>?_)<|λaa=>?_
  ·exact Af<|Ga C<|Ac<|Az<|Ap<|A7<|Ap<|A1 C C I Ay ⟨by rw [show checkW kd wd mo=1 from by unfold checkW;split<;>first|rfl|omega|(split<;>first|rfl|omega)],rfl⟩
  refine Av<|Ah<|Ar<|Gf fld29_1 C<|Gl ef ?_
  refine Ga C<|Bj<|Aj<|Ah<|Aq<|Af<|Gf fld29_1 C<|Gl ef ?_
  refine Gm C<|Gr (Bo C C)<|Gm C<|Bt (d:=37) C (λM=>?_)<|λM=>?_
  ·exact eb<|eb<|eb<|eb<|Gr (Ba C C)<|Ac<|Ao (S1 42 C)<|Dj C<|Af<|Ga C<|Ac<|Az<|Ap<|A1 C C I Ay ⟨by rw [show checkW kd wd mo=1 from by unfold checkW;split<;>first|rfl|omega|(split<;>first|rfl|omega)],rfl⟩
  refine e9 (Ad fld29_2 C)<|e9 (Bb ef) ?_
  refine e9 (Ai C)<|e9 (Bo C C)<|Gr (A6 C C)<|Ac<|Ao (S1 42 C)<|A5 C (λZ=>?_)<|λZ=>?_
  ·exact Af<|Ga C<|Ac<|Az<|Ap<|A1 C C I Ay ⟨by rw [show checkW kd wd mo=1 from by unfold checkW;split<;>first|rfl|omega|(split<;>first|rfl|omega)],rfl⟩
  exact Av<|Ah<|Af<|Ga C<|Ac<|Az<|A1 C C I Ay ⟨by rw [show checkW kd wd mo=0 from by unfold checkW;split<;>first|rfl|omega|(split<;>first|rfl|omega)],rfl⟩
 refine Af<|Gr (Bw C C)<|Ga C<|Ac<|A5 C (λad=>?_)<|λad=>?_
 ·refine Aq (Af<|Gf fld29_2 C<|Gl ef ?_)
  refine Gr (A4 C C)<|Gm C<|Bt (d:=26) C (λae=>?_)<|λae=>?_
  ·exact eb<|eb<|eb<|Gr (Ba C C)<|Ac<|Ao (S3 30 3 1 C C C)<|Dj C<|Af<|Ga C<|Ac<|Az<|Ap<|A7<|Ap<|A1 C C I Ay ⟨by rw [show checkW kd wd mo=1 from by unfold checkW;split<;>first|rfl|omega|(split<;>first|rfl|omega)],rfl⟩
  refine e9 (Ad fld29_2 C)<|e9 (Bb ef) ?_
  refine e9 (Cc C C)<|Gr (A6 C C)<|Ac<|Ao (S3 30 3 1 C C C)<|A5 C (λab=>?_)<|λab=>?_
  ·exact Af<|Ga C<|Ac<|Az<|Ap<|A7<|Ap<|A1 C C I Ay ⟨by rw [show checkW kd wd mo=1 from by unfold checkW;split<;>first|rfl|omega|(split<;>first|rfl|omega)],rfl⟩
  refine Av<|Ah<|Ar<|Gf fld29_2 C<|Gl ef ?_
  refine Ga C<|Bj<|Aj<|Ah<|Aq<|Af<|Gf fld29_1 C<|Gl ef ?_
  refine Gm C<|Gr (Bo C C)<|Gm C<|Bt (d:=37) C (λM=>?_)<|λM=>?_
  ·exact eb<|eb<|eb<|eb<|Gr (Ba C C)<|Ac<|Ao (S1 42 C)<|Dj C<|Af<|Ga C<|Ac<|Az<|Ap<|A1 C C I Ay ⟨by rw [show checkW kd wd mo=1 from by unfold checkW;split<;>first|rfl|omega|(split<;>first|rfl|omega)],rfl⟩
  refine e9 (Ad fld29_2 C)<|e9 (Bb ef) ?_
  refine e9 (Ai C)<|e9 (Bo C C)<|Gr (A6 C C)<|Ac<|Ao (S1 42 C)<|A5 C (λZ=>?_)<|λZ=>?_
  ·exact Af<|Ga C<|Ac<|Az<|Ap<|A1 C C I Ay ⟨by rw [show checkW kd wd mo=1 from by unfold checkW;split<;>first|rfl|omega|(split<;>first|rfl|omega)],rfl⟩
  exact Av<|Ah<|Af<|Ga C<|Ac<|Az<|A1 C C I Ay ⟨by rw [show checkW kd wd mo=0 from by unfold checkW;split<;>first|rfl|omega|(split<;>first|rfl|omega)],rfl⟩
 exact Af<|Ga C<|Ac<|Ao (S1 2 C)<|Az<|A7<|Ap<|A1 C C I Ay ⟨by rw [show checkW kd wd mo=8 from by unfold checkW;split<;>first|rfl|omega|(split<;>first|rfl|omega)],rfl⟩
theorem RightW_ok(w lb sg:Int):eu prog κ 92 [e7 w,e7 lb,e7 sg] I (λr J=>r = .bool (decide (rightW w lb sg))/\I=J):=by
 refine Ce3 Tryz.func92 C C ?_
 refine Af<|Ga C<|Ac<|Af<|Gm C<|Gr (Cr C C)<|Gm C<|Bt (d:=9) C (λg9=>?_)<|λg9=>?_
 ·refine e9 (Ai C) (e9 (E5 C C)<|Gr (Ba C C)<|Gm C<|Bt (d:=13) C (λM=>?_)<|λM=>?_)
  ·refine e9 (Ai C) (e9 (Cr C C)<|Gr (Ba C C)<|Gm C<|Bt (d:=17) C (λab=>?_)<|λab=>?_)
   ·refine e9 (Ai C) (e9 (E5 C C)<|Gr (Ba C C)<|Gm C<|Bt (d:=21) C (λZ=>?_)<|λZ=>?_)
    ·refine e9 (Ai C) (e9 (Bw C C)<|e9 (Ai C)<|Bt (d:=24) C (λaa=>?_)<|λaa=>?_)
     ·exact eb<|eb<|e9 (Ba C C)<|Gr (Ba C C)<|Ga C<|Ac<|Ao (S1 6 C)<|Az<|A1 C C I Ay ⟨(by first|exact congrArg Value.bool (decide_eq_decide.2<|by unfold rightW;omega)|exact congrArg Value.bool (decide_eq_true<|by unfold rightW;omega).symm|exact congrArg Value.bool (decide_eq_false<|by unfold rightW;omega).symm),rfl⟩
     exact e9 (Ai C)<|e9 (Bw C C)<|e9 (A6 C C)<|Gr (Ba C C)<|Ga C<|Ac<|Ao (S1 6 C)<|Az<|A1 C C I Ay ⟨(by first|exact congrArg Value.bool (decide_eq_decide.2<|by unfold rightW;omega)|exact congrArg Value.bool (decide_eq_true<|by unfold rightW;omega).symm|exact congrArg Value.bool (decide_eq_false<|by unfold rightW;omega).symm),rfl⟩
    exact eb<|eb<|eb<|ee<|ee<|eb<|Gr (A6 C C)<|Ga C<|Ac<|Ao (S1 6 C)<|Az<|A1 C C I Ay ⟨(by first|exact congrArg Value.bool (decide_eq_decide.2<|by unfold rightW;omega)|exact congrArg Value.bool (decide_eq_true<|by unfold rightW;omega).symm|exact congrArg Value.bool (decide_eq_false<|by unfold rightW;omega).symm),rfl⟩
   exact eb<|eb<|Gr (A6 C C)<|Gm C<|eb<|eb<|eb<|ee<|ee<|eb<|Gr (A6 C C)<|Ga C<|Ac<|Ao (S1 6 C)<|Az<|A1 C C I Ay ⟨(by first|exact congrArg Value.bool (decide_eq_decide.2<|by unfold rightW;omega)|exact congrArg Value.bool (decide_eq_true<|by unfold rightW;omega).symm|exact congrArg Value.bool (decide_eq_false<|by unfold rightW;omega).symm),rfl⟩
  exact eb<|eb<|Gr (A6 C C)<|Gm C<|eb<|eb<|Gr (A6 C C)<|Gm C<|eb<|eb<|eb<|ee<|ee<|eb<|Gr (A6 C C)<|Ga C<|Ac<|Ao (S1 6 C)<|Az<|A1 C C I Ay ⟨(by first|exact congrArg Value.bool (decide_eq_decide.2<|by unfold rightW;omega)|exact congrArg Value.bool (decide_eq_true<|by unfold rightW;omega).symm|exact congrArg Value.bool (decide_eq_false<|by unfold rightW;omega).symm),rfl⟩
 exact eb<|eb<|Gr (A6 C C)<|Gm C<|eb<|eb<|Gr (A6 C C)<|Gm C<|eb<|eb<|Gr (A6 C C)<|Gm C<|eb<|eb<|eb<|ee<|ee<|eb<|Gr (A6 C C)<|Ga C<|Ac<|Ao (S1 6 C)<|Az<|A1 C C I Ay ⟨(by first|exact congrArg Value.bool (decide_eq_decide.2<|by unfold rightW;omega)|exact congrArg Value.bool (decide_eq_true<|by unfold rightW;omega).symm|exact congrArg Value.bool (decide_eq_false<|by unfold rightW;omega).symm),rfl⟩
theorem From4_ok(n a c:Int):eu prog κ 114 [e7 n,e7 a,e7 c] I (λr J=>r = .bool (decide (a<=n/\n<=c))/\I=J):=by
 refine Ce3 Tryz.func114 C C ?_
 refine Af<|Ga C<|Ac<|Af<|Gm C<|Gm C<|Gr (Cr C C)<|Gm C<|Bt (d:=10) C (λZ=>?_)<|λZ=>?_
 ·exact e9 (Ai C)<|e9 (Ai C)<|e9 (E5 C C)<|Gr (Ba C C)<|Ga C<|Ac<|Ao (S1 6 C)<|Az<|A1 C C I Ay ⟨(by first|exact congrArg Value.bool (decide_eq_decide.2<|by skip;omega)|exact congrArg Value.bool (decide_eq_true<|by skip;omega).symm|exact congrArg Value.bool (decide_eq_false<|by skip;omega).symm),rfl⟩
 exact eb<|eb<|eb<|Gr (A6 C C)<|Ga C<|Ac<|Ao (S1 6 C)<|Az<|A1 C C I Ay ⟨(by first|exact congrArg Value.bool (decide_eq_decide.2<|by skip;omega)|exact congrArg Value.bool (decide_eq_true<|by skip;omega).symm|exact congrArg Value.bool (decide_eq_false<|by skip;omega).symm),rfl⟩
theorem Attr4_ok(w lb sg:Int):eu prog κ 97 [e7 w,e7 lb,e7 sg] I (λr J=>r=e7 (if rightW w lb sg then 0 else 1)/\I=J):=by
 refine Ce3 Tryz.func97 C C ?_
 refine Af<|Ga C<|Ac<|Aq<|Af<|Gm C<|Gc0 (Ak c_ C C<|From4_ok w 1 1000) ?_
 refine Gr (Dk C)<|Gm C<|Bt (d:=10) C (λM=>?_)<|λM=>?_
 ·exact eb<|eb<|eb<|Gr (Ba C C)<|Gm C<|eb<|eb<|eb<|ee<|ee<|eb<|Gr (Ba C C)<|Ac<|Ao (S1 22 C)<|Dj C<|Af<|Ga C<|Ac<|Az<|Ap<|A1 C C I Ay ⟨by rw [if_neg (by unfold rightW;omega)],rfl⟩
 refine e9 (Ai C)<|Ew (C5 C C C) (Ak c_ C C<|From4_ok lb 0 15) ?_
 rintro _ _ ⟨_,_,⟨rfl,rfl⟩,rfl,rfl⟩
 refine e9 (Dk C)<|Gr (A6 C C)<|Gm C<|Bt (d:=15) C (λab=>?_)<|λab=>?_
 ·exact eb<|eb<|eb<|ee<|ee<|eb<|Gr (Ba C C)<|Ac<|Ao (S1 22 C)<|Dj C<|Af<|Ga C<|Ac<|Az<|Ap<|A1 C C I Ay ⟨by rw [if_neg (by unfold rightW;omega)],rfl⟩
 refine e9 (Ai C)<|e9 (Bo C C)<|e9 (Ai C)<|Bt (d:=18) C (λZ=>?_)<|λZ=>?_
 ·refine e9 (Ai C) (e9 (Bo C C)<|e9 (Ba C C)<|Gr (A6 C C)<|Ac<|Ao (S1 22 C)<|A5 C (λaa=>?_)<|λaa=>?_)
  ·exact Af<|Ga C<|Ac<|Az<|Ap<|A1 C C I Ay ⟨by rw [if_neg (by unfold rightW;omega)],rfl⟩
  exact Av<|Ah<|Af<|Ga C<|Ac<|Az<|A1 C C I Ay ⟨by rw [if_pos (by unfold rightW;omega)],rfl⟩
 exact eb<|eb<|e9 (A6 C C)<|Gr (A6 C C)<|Ac<|Ao (S1 22 C)<|Dp C<|Av<|Ah<|Af<|Ga C<|Ac<|Az<|A1 C C I Ay ⟨by rw [if_pos (by unfold rightW;omega)],rfl⟩
theorem OrderL_ok(a c:Lk):eu prog κ 144 [.agg #[e7 (a.u),e7 (a.v),e7 (a.w),e7 (a.lb),e7 (a.sg),e7 (a.tm)],.agg #[e7 (c.u),e7 (c.v),e7 (c.w),e7 (c.lb),e7 (c.sg),e7 (c.tm)]] I (λr J=>r=e7 (Lk.cmp a c)/\I=J):=by
 refine Ce2 Tryz.func144 C C ?_
 refine Af<|Ge1 (Bg (cs:=[_,_,_,_,_,_]) C C C) λb1=>Ge1 (Bg (cs:=[_,_,_,_,_,_]) C C C) λM=>Ga C<|Ac<|Aq<|Bq mixed<|Ca (e8 M [e7 (c.u),e7<|c.v,e7<|c.w,e7<|c.lb,e7<|c.sg,e7<|c.tm] 82::e8 b1 [e7 (a.u),e7<|a.v,e7<|a.w,e7<|a.lb,e7<|a.sg,e7<|a.tm] 82::I) 12<|Dr 0 C (Ad fld82_0 C)<|Dr 1 C (Bb ef) ?_
 refine Dr 2 C (Ad fld82_0 C)<|Dr 3 C (Bb ef) ?_
 refine Dr 5 C (Ad fld82_1 C)<|Dr 6 C (Bb ef) ?_
 refine Dr 7 C (Ad fld82_1 C)<|Dr 8 C (Bb ef) ?_
 refine Ds1 4<|Sc0 C (Ak c_ C C<|Compare_ok a.u c.u) ?_
 refine Ds1 9<|Sc0 C (Ak c_ C C<|Compare_ok a.v c.v) ?_
 refine Ds1 10<|Se1 C (Cf (α:=Int) (cs:=[_,_]) (xs:=[cmpI a.u c.u,cmpI a.v c.v]) Ab ef C C dc dc C C C C) λZ=>?_
 refine Ds1 11<|Sc0 C (Ak c_ C C<|Or_ok Bf) ?_
 refine Cs kr ?_
 refine Dy (i:=12) kr C (Bn C) C C (Bd C) ?_
 refine Ct kr ?_
 exact Ah<|Ao (S1 4 C)<|Az<|A1 C C I Ay ⟨by rw [show Lk.cmp a c=Pt.cmp ⟨a.u,a.v⟩ ⟨c.u,c.v⟩ from rfl,←orL_cmp],rfl⟩
theorem Edge5_ok(l:Lk):eu prog κ 50 [.agg #[e7 (l.u),e7 (l.v),e7 (l.w),e7 (l.lb),e7 (l.sg),e7 (l.tm)]] I (λr J=>r = .agg #[e7 l.p.u,e7 l.p.v]/\I=J):=by
 refine Ce1 Tryz.func50 C C ?_
 refine Af<|Ge1 (Bg (cs:=[_,_,_,_,_,_]) C C C) λb1=>Ge1 (A3 ty105 C) λZ=>Ac<|Af<|Gf fld82_0 C<|Gl ef ?_
 refine Gf fld82_1 C<|Gl ef ?_
 refine Gr (Bp (cells:=[_,_]) ty105 De pl105 C C)<|Ge0 (Cz ty105) ?_
 exact Ac<|Az<|E6 C ty105 C mm C I Ay ⟨rfl,rfl⟩
end Go.Sl
namespace Go.Sl
end Go.Sl
namespace Go.Sl
open Go.Proofs
set_option maxRecDepth 4000
def IdxF{α:Type}[Inhabited α](p:α->Bool)(xs:List α)(y:Int):Prop:=
 (y = -1/\∀j:Nat,j<xs.length->p (e_ xs j)=false)\/(0<=y/\y<xs.length/\(∀j:Nat,(j:Int)<y->p (e_ xs j)=false)/\p (e_ xs y)=true)
theorem IdxF.any{α:Type}[Inhabited α]{p:α->Bool}{xs:List α}{y:Int}(h:IdxF p xs y):decide (0<=y)=xs.any p:=by
 rcases h with ⟨rfl,h⟩|⟨Z,hl,_,h⟩
 ·have:xs.any p=false:=by
   rw [List.any_eq_false];intro x M
   obtain ⟨j,hj,rfl⟩:=mem_at M
   rw [h j hj];decide
  rw [this];rfl
 rw [decide_eq_true Z]
 exact (List.any_eq_true.2 ⟨_,B1 Z om,h⟩).symm
end Go.Sl
