/- A part of the proofs of statements of this seat: contracts of functions, and the plain laws that they lean on. No conditions. -/
import Derived.Test.YtnbkccjkdpolmaaGreatDoorA5
import Derived.Shelf.SlSortCmp.NoneTotal
import Derived.Shelf.SlSortCmp.WholeK
set_option linter.unusedVariables false
set_option linter.unusedSimpArgs false
set_option linter.unusedSectionVars false
open Go.Proofs.Tryz (prog)
namespace Go.Sl
open Go.Proofs
instance:SlcI prog 22 3:=⟨Aa⟩
instance:SlcI prog 28 63:=⟨Bc⟩
instance:StrI prog 31:=⟨⟨_,Tryz.underlying31⟩⟩
instance:StrI prog 34:=⟨⟨_,Cc⟩⟩
instance:StrI prog 36:=⟨⟨_,Tryz.underlying36⟩⟩
instance:SlcI prog 38 51:=⟨C1⟩
instance:StrI prog 40:=⟨⟨_,Tryz.underlying40⟩⟩
instance:StrI prog 42:=⟨⟨_,Tryz.underlying42⟩⟩
instance:StrI prog 51:=⟨⟨_,Tryz.underlying51⟩⟩
instance:SlcI prog 54 95:=⟨Cp⟩
instance:StrI prog 56:=⟨⟨_,Tryz.underlying56⟩⟩
instance:StrI prog 63:=⟨⟨_,Tryz.underlying63⟩⟩
instance:StrI prog 65:=⟨⟨_,Tryz.underlying65⟩⟩
instance:StrI prog 95:=⟨⟨_,Fi⟩⟩
instance:SlcI prog 96 34:=⟨Tryz.underlying96⟩
instance:StrI prog 115:=⟨⟨_,Tryz.underlying115⟩⟩
instance:StrI prog 118:=⟨⟨_,Fe⟩⟩
instance:SlcI prog 128 192:=⟨Bh⟩
instance:StrI prog 130:=⟨⟨_,Tryz.underlying130⟩⟩
instance:SlcI prog 157 152:=⟨Cl⟩
instance:StrI prog 172:=⟨⟨_,Fd⟩⟩
instance:StrI prog 192:=⟨⟨_,Tryz.underlying192⟩⟩
instance:SlcI prog 205 207:=⟨C6⟩
instance:SlcI prog 218 22:=⟨Bp⟩
instance:SlcI prog 263 205:=⟨Fc⟩
instance:SlcI prog 265 4:=⟨Cq⟩
instance:SlcI prog 280 284:=⟨D3⟩
instance:StrI prog 284:=⟨⟨_,Tryz.underlying284⟩⟩
instance:TyI prog 3 (1,false,8,[e7 (0)]):=⟨ef⟩
instance:TyI prog 4 (1,false,1,[.bool false]):=⟨ty4⟩
instance:TyI prog 22 (1,false,24,[.slice none 0 0]):=⟨ty22⟩
instance:TyI prog 28 (1,false,24,[.slice none 0 0]):=⟨ty28⟩
instance:TyI prog 31 (3,true,24,[e7 (0),e7 (0),e7 (0)]):=⟨ty31⟩
instance:FldI prog 31 0 0:=⟨fld31_0⟩
instance:FldI prog 31 1 1:=⟨fld31_1⟩
instance:FldI prog 31 2 2:=⟨by kernel_rfl⟩
instance:PlI prog 31 #[(0,1),(1,1),(2,1)]:=⟨λ_=>by kernel_rfl⟩
instance:TyI prog 34 (2,true,16,[e7 (0),e7 (0)]):=⟨ty34⟩
instance:FldI prog 34 0 0:=⟨fld34_0⟩
instance:FldI prog 34 1 1:=⟨fld34_1⟩
instance:PlI prog 34 #[(0,1),(1,1)]:=⟨pl34⟩
instance:TyI prog 36 (7,true,72,[e7 (0),e7 (0),e7 (0),e7 (0),.slice none 0 0,e7 (0),e7 (0)]):=⟨ty36⟩
instance:FldI prog 36 0 0:=⟨fld36_0⟩
instance:FldI prog 36 1 1:=⟨fld36_1⟩
instance:FldI prog 36 2 2:=⟨fld36_2⟩
instance:FldI prog 36 3 3:=⟨fld36_3⟩
instance:FldI prog 36 4 4:=⟨fld36_4⟩
instance:FldI prog 36 5 5:=⟨fld36_5⟩
instance:PlI prog 36 #[(0,1),(1,1),(2,1),(3,1),(4,1),(5,2)]:=⟨λ_=>by kernel_rfl⟩
instance:TyI prog 38 (1,false,24,[.slice none 0 0]):=⟨ty38⟩
instance:TyI prog 40 (2,true,32,[e7 (0),.slice none 0 0]):=⟨ty40⟩
instance:FldI prog 40 0 0:=⟨fld40_0⟩
instance:FldI prog 40 1 1:=⟨fld40_1⟩
instance:PlI prog 40 #[(0,1),(1,1)]:=⟨λ_=>by kernel_rfl⟩
instance:TyI prog 42 (11,true,168,[.bool false,e7 (0),e7 (0),.slice none 0 0,e7 (0),e7 (0),.slice none 0 0,.slice none 0 0,.slice none 0 0,e7 (0),.slice none 0 0]):=⟨ty42⟩
instance:FldI prog 42 0 0:=⟨fld42_0⟩
instance:FldI prog 42 1 1:=⟨fld42_1⟩
instance:FldI prog 42 2 2:=⟨by kernel_rfl⟩
instance:FldI prog 42 3 3:=⟨fld42_3⟩
instance:FldI prog 42 4 4:=⟨fld42_4⟩
instance:FldI prog 42 5 6:=⟨fld42_5⟩
instance:FldI prog 42 6 7:=⟨fld42_6⟩
instance:FldI prog 42 7 8:=⟨fld42_7⟩
instance:FldI prog 42 8 9:=⟨fld42_8⟩
instance:PlI prog 42 #[(0,1),(1,1),(2,1),(3,1),(4,2),(6,1),(7,1),(8,1),(9,2)]:=⟨pl42⟩
instance:TyI prog 51 (2,true,16,[e7 (0),e7 (0)]):=⟨ty51⟩
instance:FldI prog 51 1 1:=⟨by kernel_rfl⟩
instance:PlI prog 51 #[(0,1),(1,1)]:=⟨pl51⟩
instance:TyI prog 54 (1,false,24,[.slice none 0 0]):=⟨ty54⟩
instance:TyI prog 56 (2,true,32,[e7 (0),.slice none 0 0]):=⟨ty56⟩
instance:FldI prog 56 0 0:=⟨fld56_0⟩
instance:FldI prog 56 1 1:=⟨fld56_1⟩
instance:PlI prog 56 #[(0,1),(1,1)]:=⟨λ_=>by kernel_rfl⟩
instance:TyI prog 63 (7,true,56,[e7 (0),e7 (0),e7 (0),e7 (0),e7 (0),e7 (0),e7 (0)]):=⟨ty63⟩
instance:FldI prog 63 0 0:=⟨by kernel_rfl⟩
instance:FldI prog 63 1 1:=⟨fld63_1⟩
instance:FldI prog 63 2 2:=⟨by kernel_rfl⟩
instance:FldI prog 63 3 3:=⟨fld63_3⟩
instance:FldI prog 63 4 4:=⟨by kernel_rfl⟩
instance:FldI prog 63 5 5:=⟨fld63_5⟩
instance:FldI prog 63 6 6:=⟨fld63_6⟩
instance:PlI prog 63 #[(0,1),(1,1),(2,1),(3,1),(4,1),(5,1),(6,1)]:=⟨λ_=>by kernel_rfl⟩
instance:TyI prog 65 (2,true,32,[.slice none 0 0,e7 (0)]):=⟨by kernel_rfl⟩
instance:FldI prog 65 0 0:=⟨by kernel_rfl⟩
instance:FldI prog 65 1 1:=⟨by kernel_rfl⟩
instance:PlI prog 65 #[(0,1),(1,1)]:=⟨λ_=>by kernel_rfl⟩
instance:TyI prog 76 (5,true,56,[e7 (0),.slice none 0 0,e7 (0),e7 (0),e7 (0)]):=⟨ty76⟩
instance:FldI prog 76 0 0:=⟨by kernel_rfl⟩
instance:FldI prog 76 1 1:=⟨by kernel_rfl⟩
instance:FldI prog 76 2 2:=⟨by kernel_rfl⟩
instance:TyI prog 95 (2,true,16,[e7 (0),e7 (0)]):=⟨ty95⟩
instance:FldI prog 95 0 0:=⟨fld95_0⟩
instance:FldI prog 95 1 1:=⟨fld95_1⟩
instance:PlI prog 95 #[(0,1),(1,1)]:=⟨λ_=>by kernel_rfl⟩
instance:TyI prog 98 (5,true,5,[.bool false,.bool false,.bool false,.bool false,.bool false]):=⟨ty98⟩
instance:FldI prog 98 0 0:=⟨fld98_0⟩
instance:FldI prog 98 1 1:=⟨fld98_1⟩
instance:FldI prog 98 2 2:=⟨fld98_2⟩
instance:FldI prog 98 3 3:=⟨fld98_3⟩
instance:FldI prog 98 4 4:=⟨fld98_4⟩
instance:TyI prog 115 (2,true,16,[e7 (0),.bool false]):=⟨ty115⟩
instance:FldI prog 115 0 0:=⟨fld115_0⟩
instance:FldI prog 115 1 1:=⟨by kernel_rfl⟩
instance:PlI prog 115 #[(0,1),(1,1)]:=⟨λ_=>by kernel_rfl⟩
instance:TyI prog 118 (5,true,72,[.slice none 0 0,e7 (0),e7 (0),e7 (0),.slice none 0 0]):=⟨ty118⟩
instance:FldI prog 118 0 0:=⟨fld118_0⟩
instance:FldI prog 118 1 1:=⟨fld118_1⟩
instance:FldI prog 118 2 3:=⟨by kernel_rfl⟩
instance:PlI prog 118 #[(0,1),(1,2),(3,2)]:=⟨pl118⟩
instance:TyI prog 128 (1,false,24,[.slice none 0 0]):=⟨ty128⟩
instance:TyI prog 130 (2,true,32,[e7 (0),.slice none 0 0]):=⟨ty130⟩
instance:FldI prog 130 0 0:=⟨by kernel_rfl⟩
instance:FldI prog 130 1 1:=⟨fld130_1⟩
instance:PlI prog 130 #[(0,1),(1,1)]:=⟨pl130⟩
instance:TyI prog 152 (1,false,8,[.int .u64 (0)]):=⟨ty152⟩
instance:TyI prog 157 (1,false,24,[.slice none 0 0]):=⟨by kernel_rfl⟩
instance:TyI prog 169 (2,true,32,[.int .u64 (0),.slice none 0 0]):=⟨ty169⟩
instance:FldI prog 169 0 0:=⟨fld169_0⟩
instance:FldI prog 169 1 1:=⟨fld169_1⟩
instance:TyI prog 172 (6,true,112,[.slice none 0 0,.slice none 0 0,.slice none 0 0,.slice none 0 0,.int .u64 (0),.int .u64 (0)]):=⟨ty172⟩
instance:FldI prog 172 0 0:=⟨fld172_0⟩
instance:FldI prog 172 1 1:=⟨fld172_1⟩
instance:FldI prog 172 2 2:=⟨fld172_2⟩
instance:FldI prog 172 3 3:=⟨fld172_3⟩
instance:FldI prog 172 4 4:=⟨fld172_4⟩
instance:PlI prog 172 #[(0,1),(1,1),(2,1),(3,1),(4,1),(5,1)]:=⟨pl172⟩
instance:FldI prog 180 0 0:=⟨by kernel_rfl⟩
instance:FldI prog 180 1 1:=⟨by kernel_rfl⟩
instance:FldI prog 181 0 0:=⟨by kernel_rfl⟩
instance:FldI prog 181 1 1:=⟨by kernel_rfl⟩
instance:FldI prog 183 0 0:=⟨by kernel_rfl⟩
instance:TyI prog 192 (6,true,48,[e7 (0),e7 (0),e7 (0),e7 (0),e7 (0),e7 (0)]):=⟨ty192⟩
instance:FldI prog 192 0 0:=⟨by kernel_rfl⟩
instance:FldI prog 192 1 1:=⟨fld192_1⟩
instance:FldI prog 192 2 2:=⟨by kernel_rfl⟩
instance:FldI prog 192 3 3:=⟨by kernel_rfl⟩
instance:FldI prog 192 4 4:=⟨by kernel_rfl⟩
instance:FldI prog 192 5 5:=⟨by kernel_rfl⟩
instance:PlI prog 192 #[(0,1),(1,1),(2,1),(3,1),(4,1),(5,1)]:=⟨λ_=>by kernel_rfl⟩
instance:TyI prog 205 (1,false,24,[.slice none 0 0]):=⟨ty205⟩
instance:TyI prog 207 (2,true,16,[e7 (0),e7 (0)]):=⟨ty207⟩
instance:TyI prog 228 (1,false,8,[.nilFunc]):=⟨ty228⟩
instance:FldI prog 235 0 0:=⟨fld235_0⟩
instance:FldI prog 235 1 2:=⟨fld235_1⟩
instance:TyI prog 280 (1,false,24,[.slice none 0 0]):=⟨ty280⟩
instance:TyI prog 282 (4,true,48,[e7 (0),e7 (0),e7 (0),.slice none 0 0]):=⟨ty282⟩
instance:FldI prog 282 1 1:=⟨by kernel_rfl⟩
instance:FldI prog 282 3 3:=⟨fld282_3⟩
instance:TyI prog 284 (3,true,24,[e7 (0),e7 (0),e7 (0)]):=⟨ty284⟩
instance:PlI prog 284 #[(0,1),(1,1),(2,1)]:=⟨pl284⟩
end Go.Sl
namespace Go.Sl
open Go.Proofs
set_option maxRecDepth 4000
variable{i n:Int}{b:Nat}{lv:Value}{ls:List Int}
variable {κ:Ctx}{I:List Item}
attribute [local irreducible] W G V D A Runs Eff
abbrev deck(b:Nat)(lv:Value)(i:Int):Item:=e8 b [lv,e7 i] 65
theorem Mod_ok{k:Int}(h1:1<=k)(h2:k<=1000000000000):eu prog κ 22 [e7 n,e7 k] I (λr J=>∃x:Int,r=e7 x/\(0<=x/\x<k)/\I=J):=by
 have q1:=Int.tmod_lt_of_pos n (b:=k) om
 have q2:=Int.lt_tmod_of_pos n (b:=k) om
 refine Ce2 Tryz.func22 C C<|Z ?_
 refine Gr (Runs.rem C C om)<|Z ?_
 refine Gr (Runs.rem C C om)<|Z ?_
 have t1:=Int.tmod_nonneg k (a:=Int.tmod n k+k) om
 have M:=Int.tmod_lt_of_pos (Int.tmod n k+k) (b:=k) om
 exact Ai C C _ Ah ⟨_,rfl,⟨t1,M⟩,rfl⟩
theorem Next_base(hl:Sl κ (deck b lv i::I) lv ls)(h0:0<=i)(hn:n<=1000000000000):eu prog κ 9 [.pointer (some ⟨b,0,none⟩),e7 n] (e8 b [lv,e7 i] 65::I) (λr J=>∃y:Int×Int,(r=e7 y.1/\(0<=y.1/\(1<=n->y.1<n)/\(n<1->y.1=0))/\0<=y.2)/\J=[]++deck b lv y.2::I):=by
 refine Bu hl.le λaa=>?_
 refine Ce2 Tryz.func9 C C<|Z ?_
 refine A4 mixed<|Cr 14<|Z ?_
 refine Du (d:=8) C (λg8=>Z ?_)<|λg8=>?_
 ·exact Ai C C _ Ah ⟨(0,i),⟨rfl,⟨Int.le_refl _,by intro _;show (0:Int)<n;omega,λ_=>rfl⟩,h0⟩,rfl⟩
 refine Dro 3 C (Af C)<|Z ?_
 refine Ap C (λM=>Z ?_)<|λM=>?_
 ·exact Ai C C _ Ah ⟨(0,i),⟨rfl,⟨Int.le_refl _,by intro _;show (0:Int)<n;omega,λ_=>rfl⟩,h0⟩,rfl⟩
 refine Bt<|Ay<|A5<|A4 mixed<|Cr 11<|Z ?_
 refine Ge0 (Es2_1 ef)<|Z ?_
 refine G.e (Ac c_ C C<|Mod_ok om om) ?_
 rintro _ _ ⟨_,_,⟨x1,rfl,ab,rfl⟩,rfl,rfl⟩
 refine Z ?_
 exact Ai C C _ Ah ⟨(x1,i+1),⟨rfl,⟨by omega,by omega,by omega⟩,by show 0<=i+1;omega⟩,rfl⟩
theorem Next_ok{F:Item->List Item}(M:AtF I (deck b lv i) F)(hl:Sl κ I lv ls)(h0:0<=i)(hn:n<=1000000000000):eu prog κ 9 [.pointer (some ⟨b,0,none⟩),e7 n] I λr J=>∃x i',r=e7 x/\(0<=x/\(1<=n->x<n)/\(n<1->x=0))/\0<=i'/\J=F (deck b lv i'):=
 (Ep (Z:=λ_=>[]) (X:=λy:Int×Int=>deck b lv y.2) M λ_ hJ _=>Next_base (hl.fit hJ) h0 hn).mono λ_ _ ⟨y,⟨h1,h2,h3⟩,h4⟩=>⟨y.1,y.2,h1,h2,h3,h4⟩
theorem New_ok{a:Option Addr}{n c:Nat} :
    eu prog κ 8 [.slice a n c] I (λr J=>∃b,r = .pointer (some ⟨b,0,none⟩)/\J=deck b (.slice a n c) 0::I):=by
 refine Ce1 Tryz.func8 C C<|Z ?_
 exact Ge1 (Al (cs:=[_,_]) C C C) λb1=>Ga C<|As<|Bf<|Ai C C _ Ah ⟨b1,rfl,rfl⟩
def ValidP(xs:List Int)(nodes:Int):Prop:=∀j,j<xs.length->(0<=e_ xs j/\e_ xs j<nodes)/\(0<j->e_ xs ((j:Int) - 1)<e_ xs j)
instance (xs:List Int) (nodes:Int):Decidable (ValidP xs nodes):=by unfold ValidP;infer_instance
theorem NValid_ok{v:Value}{xs:List Int}(hl:Sl κ I v xs)(nodes:Int):eu prog κ 82 [v,e7 nodes] I (λr J=>r = .bool (decide (ValidP xs nodes))/\I=J):=by
 refine Bu hl.le λah=>?_
 refine Ce2 Tryz.func82 C C<|Z ?_
 refine D7 (σ:=Nat) (λs=>[(9,e7 ((s:Nat):Int))]) (λ_=>[]) (λs=>(s<=xs.length)/\(∀j,j<s->(0<=e_ xs j/\e_ xs j<nodes)/\(0<j->e_ xs ((j:Int) - 1)<e_ xs j))) (λs=>xs.length - s) 0 ⟨om,all_zero⟩ ?_
 rintro k hp
 obtain ⟨hk,hn⟩:=hp
 refine Z ?_
 refine Ap C (λc10=>Z ?_)<|λc10=>Z ?_
 ·refine A6 (d:=16) C (λaa=>Z ?_) (λaa=>Z ?_)
  ·have M:¬ValidP xs nodes:=λhv=>by have:=hv k om;omega
   exact Ai C C _ Ah ⟨by rw [decide_eq_false M],rfl⟩
  refine A6 (d:=21) C (λae=>Z ?_)<|λae=>Z ?_
  ·have M:¬ValidP xs nodes:=λhv=>by have:=hv k om;omega
   exact Ai C C _ Ah ⟨by rw [decide_eq_false M],rfl⟩
  refine A6 (d:=24) C (λad=>Z ?_)<|λad=>Z ?_
  ·refine Ap C (λab=>Z ?_) (λab=>Z ?_)
   ·have M:¬ValidP xs nodes:=λhv=>by have:=hv k om;have:=this.2 om;omega
    exact Ai C C _ Ah ⟨by rw [decide_eq_false M],rfl⟩
   exact B5 ((k+1)) ⟨om,(all_succ hn ⟨by omega,λ_=>by omega⟩)⟩
  exact B5 ((k+1)) ⟨om,(all_succ hn ⟨by omega,λ_=>by omega⟩)⟩
 have M:ValidP xs nodes:=λj hj=>hn j om
 exact Ai C C _ Ah ⟨by rw [decide_eq_true M],rfl⟩
end Go.Sl
namespace Go.Sl
open Go.Proofs
set_option maxRecDepth 4000
end Go.Sl
namespace Go.Sl
open Go.Proofs
set_option maxRecDepth 4000
variable {κ:Ctx}{I:List Item}
attribute [local irreducible] W G V D A Runs Eff
theorem IsNaN_ok(n:Int):eu prog κ 225 [e7 n] I (λr J=>r = .bool false/\I=J):=by
 refine Ce1 Tryz.func225 C C<|Z ?_
 exact Ai C C I Ah ⟨by simp,rfl⟩
theorem Compare_ok(m n:Int):eu prog κ 172 [e7 m,e7 n] I (λr J=>r=e7 (cmpI m n)/\I=J):=by
 refine Ce2 Tryz.func172 C C<|Z ?_
 refine Gc0 (Ac c_ C C<|IsNaN_ok m)<|Z ?_
 refine Gc0 (Ac c_ C C<|IsNaN_ok n)<|Z ?_
 refine Ap C (λM=>Z ?_)<|λM=>Z ?_
 ·exact Ai C C I Ah ⟨by unfold cmpI;rw [if_pos M],rfl⟩
 refine Ap C (λaa=>Z ?_)<|λaa=>Z ?_
 ·exact Ai C C I Ah ⟨by unfold cmpI;rw [if_neg M,if_pos aa],rfl⟩
 exact Ai C C I Ah ⟨by unfold cmpI;rw [if_neg M,if_neg aa],rfl⟩
theorem Or_ok{v:Value}{xs:List Int}(hl:Sl κ I v xs):eu prog κ 171 [v] I (λr J=>r=e7 (orL xs)/\I=J):=by
 refine Bu hl.le λaa=>?_
 refine Ce1 Tryz.func171 C C<|Z ?_
 refine D7 (σ:=Nat) (λs=>[(8,e7 ((s:Nat):Int))]) (λ_=>[]) (λs=>(s<=xs.length)/\(orL xs=orL (xs.drop s))) (λs=>xs.length - s) 0 ⟨om,rfl⟩ ?_
 rintro k hp
 obtain ⟨hk,ho⟩:=hp
 refine Z ?_
 refine Ap C (λc9=>Z ?_)<|λc9=>Z ?_
 ·refine Ap C (λM=>Z ?_) (λM=>Z ?_)
  ·exact Ai C C I Ah ⟨by rw [ho,orL_stop om M],rfl⟩
  exact B5 ((k+1)) ⟨om,(ho.trans<|orL_step om<|Decidable.of_not_not M)⟩
 exact Ai C C I Ah ⟨by rw [ho,orL_end om],rfl⟩
end Go.Sl
namespace Go.Sl
open Go.Proofs
set_option maxRecDepth 4000



end Go.Sl
namespace Go.Sl
open Go.Proofs
set_option maxRecDepth 4000
variable{ls xs:List Int}{i nodes w:Int}{b:Nat}{lv:Value}
attribute [local irreducible] W G V D A Runs Eff
def cmpL:List Int->List Int->Int
 |[],[]=>0
 |[],_::_=> -1
 |_::_,[]=>1
 |x::xs,y::ys=>if y<x then 1 else if x<y then -1 else cmpL xs ys
theorem cmpL_eq:∀xs ys,cmpL xs ys=0↔xs=ys
 |[],[]=>by simp [cmpL]
 |[],_::_=>by simp [cmpL]
 |_::_,[]=>by simp [cmpL]
 |x::xs,y::ys=>by
  simp only [cmpL]
  split
  ·simp;omega
  split
  ·simp;omega
  rw [cmpL_eq xs ys]
  have:x=y:=by omega
  simp [this]
theorem cmpL_drop(xs ys:List Int)(k:Nat)(M:k<xs.length)(hy:k<ys.length)(h1:¬e_ ys k<e_ xs k)(h2:¬e_ xs k<e_ ys k):cmpL (xs.drop k) (ys.drop k)=cmpL (xs.drop (k+1)) (ys.drop (k+1)):=by
 rw [Eu xs k M,Eu ys k hy]
 simp only [cmpL]
 rw [if_neg h1,if_neg h2]
theorem cmpL_drop1(xs ys:List Int)(k:Nat)(M:k<xs.length)(h:ys.length<=k\/(k<ys.length/\e_ ys k<e_ xs k)):cmpL (xs.drop k) (ys.drop k)=1:=by
 rw [Eu xs k M]
 rcases h with h|⟨hy,h⟩
 ·rw [List.drop_eq_nil_of_le h];rfl
 rw [Eu ys k hy];simp only [cmpL];rw [if_pos h]
theorem cmpL_dropn(xs ys:List Int)(k:Nat)(M:k<xs.length)(hy:k<ys.length)(h1:¬e_ ys k<e_ xs k)(h:e_ xs k<e_ ys k):cmpL (xs.drop k) (ys.drop k) = -1:=by
 rw [Eu xs k M,Eu ys k hy];simp only [cmpL];rw [if_neg h1,if_pos h]
theorem cmpL_end(xs ys:List Int)(k:Nat)(M:xs.length<=k):cmpL (xs.drop k) (ys.drop k)=if k<ys.length then -1 else 0:=by
 rw [List.drop_eq_nil_of_le M]
 split
 ·rename_i h;rw [Eu ys k h];rfl
 rename_i h;rw [List.drop_eq_nil_of_le om];rfl
theorem Cmp_ok{κ:Ctx}{I:List Item}{u v:Value}{ys:List Int}(hu:Sl κ I u xs)(hv:Sl κ I v ys):eu prog κ 41 [u,v] I (λr J=>r=e7 (cmpL xs ys)/\I=J):=by
 refine Bu hu.le λah=>?_
 refine Bu hv.le λad=>?_
 refine Ce2 Tryz.func41 C C<|Z ?_
 refine D7 (σ:=Nat) (λs=>[(8,e7 ((s:Nat):Int))]) (λ_=>[]) (λs=>(s<=xs.length)/\(cmpL xs ys=cmpL (xs.drop s) (ys.drop s))) (λs=>xs.length - s) 0 ⟨om,rfl⟩ ?_
 rintro k hp
 obtain ⟨hk,M⟩:=hp
 refine Z ?_
 refine Ap C (λc9=>Z ?_)<|λc9=>Z ?_
 ·refine A4 mixed (Cm I 16<|Z ?_)
  refine Du (d:=16) C (λaa=>Z ?_)<|λaa=>?_
  ·exact Ai C C _ Ah ⟨by rw [M,cmpL_drop1 xs ys k om<|.inl om],rfl⟩
  refine Dro 5 C (Af C)<|Z ?_
  refine Ap C (λc11=>Z ?_)<|λc11=>?_
  ·exact Ai C C _ Ah ⟨by rw [M,cmpL_drop1 xs ys k om<|.inr ⟨by omega,by omega⟩],rfl⟩
  refine A5<|A4 mixed<|Cm I 10<|Z ?_
  refine Ap C (λae=>Z ?_)<|λae=>Z ?_
  ·exact Ai C C _ Ah ⟨by rw [M,cmpL_dropn xs ys k om om om om],rfl⟩
  exact B5 ((k+1)) ⟨om,(M.trans<|cmpL_drop xs ys k om om om om)⟩
 refine Ap C (λab=>Z ?_)<|λab=>Z ?_
 ·exact Ai C C _ Ah ⟨by rw [M,cmpL_end xs ys k om,if_pos om],rfl⟩
 exact Ai C C _ Ah ⟨by rw [M,cmpL_end xs ys k om,if_neg om],rfl⟩
def putL:List Int->Int->List Int
 |[],x=>[x]
 |y::ys,x=>if y<x then y::putL ys x else if y=x then y::ys else x::y::ys
def ofL(l:List Int):List Int:=l.foldl putL []
theorem mem_putL(x y:Int):∀l,y∈putL l x↔y=x\/y∈l
 |[]=>by simp [putL]
 |z::zs=>by
  simp only [putL]
  split
  ·simp only [List.mem_cons,mem_putL x y zs]
   constructor
   ·rintro (h|h|h)<;>simp [h]
   rintro (h|h|h)<;>simp [h]
  split
  ·rename_i e;subst e;simp
  simp
theorem mem_foldl_putL(y:Int):∀(l acc:List Int),y∈l.foldl putL acc↔y∈l\/y∈acc
 |[],acc=>by simp
 |x::l,acc=>by
  rw [List.foldl_cons,mem_foldl_putL y l,mem_putL]
  simp only [List.mem_cons]
  constructor
  ·rintro (h|h|h)<;>simp [h]
  rintro ((h|h)|h)<;>simp [h]
theorem mem_ofL(l:List Int)(y:Int):y∈ofL l↔y∈l:=by simp [ofL,mem_foldl_putL]
variable {κ:Ctx}{I:List Item}
theorem ValidP_nil(w:Int):ValidP [] w:=λj hj=>absurd hj (Nat.not_lt_zero j)
theorem ValidP_mono{w':Int}(h:ValidP xs w)(M:w<=w'):ValidP xs w':=λj hj=>⟨⟨(h j hj).1.1,by have:=(h j hj).1.2;omega⟩,(h j hj).2⟩
theorem ValidP_push(h:ValidP xs w)(h0:0<=w):ValidP (xs++[w]) (w+1):=λj hj=>by
 by_cases hl:j<xs.length
 ·obtain ⟨⟨h1,h2⟩,h3⟩:=h j hl
  rw [En xs [w] j hl]
  refine ⟨⟨h1,by omega⟩,λM=>?_⟩
  have e:((j:Int) - 1)=((j - 1:Nat):Int):=by omega
  rw [e,En xs [w] (j - 1) om,←e]
  exact h3 M
 obtain rfl:j=xs.length:=by simp at hj;omega
 rw [at_last]
 refine ⟨⟨h0,by omega⟩,λM=>?_⟩
 have e:((xs.length:Int) - 1)=((xs.length - 1:Nat):Int):=by omega
 rw [e,En xs [w] (xs.length - 1) om]
 exact (h _ om).1.2
theorem ValidP_mem{x:Int}(h:ValidP xs w)(M:x∈xs):0<=x/\x<w:=by
 obtain ⟨j,hj,he⟩:=E7 M
 rw [←he];exact (h j hj).1
theorem ValidP_of{n:Int}(h:ValidP xs w)(M:xs.length<=w.toNat)(hw:w<=n\/w=0):ValidP xs n:=by
 rcases hw with hw|hw
 ·exact ValidP_mono h hw
 subst hw
 have:xs=[]:=List.eq_nil_of_length_eq_zero (by simpa using M)
 subst this;exact ValidP_nil n
theorem Set_base(hl:∀q,Sl κ (deck b lv q::I) lv ls)(h0:0<=i)(hn:nodes<=1000000000):eu prog κ 39 [.pointer (some ⟨b,0,none⟩),e7 nodes] (e8 b [lv,e7 i] 65::I) (λr J=>∃y:Option Addr×Nat×List Int×Int,(r = .slice y.1 y.2.2.1.length y.2.1/\ValidP y.2.2.1 nodes/\(y.2.2.1.length:Int)<=max nodes 0/\0<=y.2.2.2)/\J=[vc 3 (.slice y.1 y.2.2.1.length y.2.1) y.2.2.1]++deck b lv y.2.2.2::I):=by
 refine Ce2 Tryz.func39 C C<|Z ?_
 refine D7 (σ:=Int×Int×(Option Addr)×Nat×(List Int)) (λs=>[(5,.slice s.2.2.1 s.2.2.2.2.length s.2.2.2.1),(6,e7<|s.1)]) (λs=>[vc 3 (.slice s.2.2.1 s.2.2.2.2.length s.2.2.2.1) (s.2.2.2.2),e8 b [lv,e7<|s.2.1] 65]) (λs=>(0<=s.1/\(s.1<=nodes\/s.1=0))/\(0<=s.2.1)/\(ValidP s.2.2.2.2 s.1)/\(s.2.2.2.2.length<=s.1.toNat)) (λs=>(nodes - s.1).toNat) (0,i,none,0,[]) ⟨⟨by omega,.inr rfl⟩,om,(ValidP_nil _),(Nat.le_refl _)⟩ (hI:=(Bw _ _)) ?_
 rintro ⟨w,q,a,c,out⟩ hp
 dsimp only at hp ⊢
 obtain ⟨hw,hq,M,ae⟩:=hp
 refine Z ?_
 refine Ap C (λc9=>Z ?_)<|λc9=>Z ?_
 ·refine G.e (Ac c_ C C<|Next_ok (by repeat (first|exact AtF.head _ _|apply AtF.tail)) (Bm (hl _) Ah) om om) ?_
  rintro _ _ ⟨_,_,⟨x1,i2,rfl,aj,ai,rfl⟩,rfl,rfl⟩
  refine Z ?_
  refine Ap C (λaa=>Z ?_)<|λaa=>Z ?_
  ·refine Ge1 (B9 (α:=Int) (cs:=[_]) (xs:=[w]) Aa ef C C dc dc C C C C) λah=>?_
   refine Ge2 (B4 (α:=Int) (e:=3) (xs:=out) (ys:=([w]:List Int)) Aa ef C C C mm A7 lcn dc C<|λ_ _=>am) λab ad=>Z ?_
   exact B5 ((w+1),(i2),(ab),(ad),(out++([w]:List Int)))<|by dsimp only;exact ⟨om,om,(by first|exact ValidP_push M hw.1|exact ValidP_mono M om),olp⟩
  exact B5 ((w+1),(i2),(a),(c),(out))<|by dsimp only;exact ⟨om,om,(by first|exact ValidP_push M hw.1|exact ValidP_mono M om),olp⟩
 exact Ai C C _ Ah ⟨(a,c,out,q),⟨rfl,ValidP_of M ae hw.2,by show (out.length:Int)<=max nodes 0;omega,hq⟩,rfl⟩
theorem Set_at{F:Item->List Item}(M:AtF I (deck b lv i) F)(hl:∀q,Sl κ (F (deck b lv q)) lv ls)(h0:0<=i)(hn:nodes<=1000000000):eu prog κ 39 [.pointer (some ⟨b,0,none⟩),e7 nodes] I λr J=>∃a c out i',r = .slice a out.length c/\ValidP out nodes/\(out.length:Int)<=max nodes 0/\0<=i'/\J=vc 3 (.slice a out.length c) out::F (deck b lv i'):=
 (Ep (Post:=λr (y:Option Addr×Nat×List Int×Int)=>r = .slice y.1 y.2.2.1.length y.2.1/\ValidP y.2.2.1 nodes/\(y.2.2.1.length:Int)<=max nodes 0/\0<=y.2.2.2) (Z:=λy:Option Addr×Nat×List Int×Int=>[vc 3 (.slice y.1 y.2.2.1.length y.2.1) y.2.2.1]) (X:=λy:Option Addr×Nat×List Int×Int=>deck b lv y.2.2.2) M λJ _ hF=>Set_base (λq=>(hl q).fit (hF _)) h0 hn).mono λ_ _ ⟨y,⟨h1,h2,h3,h4⟩,h5⟩=>⟨y.1,y.2.1,y.2.2.1,y.2.2.2,h1,h2,h3,h4,h5⟩
structure Arc where
 frm:Int
 dst:Int
 cap:Int
deriving Inhabited
instance:Enc Arc:=⟨λa=>[e7 a.frm,e7 a.dst,e7 a.cap],3,by omega,λ_=>rfl,λa u h=>by
 simp only [List.mem_cons,List.not_mem_nil,or_false] at h
 rcases h with rfl|rfl|rfl<;>rfl⟩
structure Net where
 nodes:Int
 source:Int
 sink:Int
 arcs:List Arc
structure Net.Ok (n:Net):Prop where
 lim:n.nodes<=4200/\n.arcs.length<=16384
 two:2<=n.nodes
 src:0<=n.source/\n.source<n.nodes
 snk:0<=n.sink/\n.sink<n.nodes
 ne:n.source≠n.sink
 arc:∀a∈n.arcs,(0<=a.frm/\a.frm<n.nodes)/\(0<=a.dst/\a.dst<n.nodes)/\a.frm≠a.dst/\0<=a.cap/\a.cap<=1099511627776
end Go.Sl
namespace Go.Sl
open Go.Proofs
set_option maxRecDepth 4000



end Go.Sl
namespace Go.Sl
open Go.Proofs Go.Shelf Go.RowKit Go.Lib Go.Sort
variable{P:Program}{κ:Ctx}{I:List Item}
section
variable {α:Type}[Enc α][Inhabited α]
theorem flat_cells(d:Array α):flatK Enc.enc (Enc.sz α) d=(cells d.toList).toArray:=by
 apply Array.ext
 ·simp [cells_length]
 intro t h1 h2
 have aa:t<d.size*Enc.sz α:=by simpa using h1
 have M:0<Enc.sz α:=Enc.pos
 have hi:t / Enc.sz α<d.size:=Nat.div_lt_of_lt_mul (by rw [Nat.mul_comm];exact aa)
 have hj:t % Enc.sz α<Enc.sz α:=Nat.mod_lt _ M
 have e1:t=t / Enc.sz α*Enc.sz α+t % Enc.sz α:=by rw [Nat.mul_comm];exact (Nat.div_add_mod t<|Enc.sz α).symm
 have e2:=cells_get d.toList (t / Enc.sz α) (t % Enc.sz α) (by simpa using hi) hj
 rw [←e1] at e2
 have e3:(cells d.toList)[t]? = some ((cells d.toList)[t]'(by simpa using h2)):=List.getElem?_eq_getElem _
 rw [e3] at e2
 have hlen:t % Enc.sz α<(Enc.enc<|d.toList[t / Enc.sz α]'(by simpa using hi)).length:=by rw [Enc.len];exact hj
 rw [List.getElem?_eq_getElem hlen] at e2
 have e4:=Option.some.inj e2
 simp only [List.getElem_toArray]
 rw [e4]
 simp [flatK,getElem!_pos,hi,Enc.len,hj]
theorem sort_base{ρ:Ren}(L:SlLaysF0.n6 P ρ)(aE:∀w,(isAgg (ρ.t 24)).run P w = .ok true w)(zE:∀w,(Go.sizeOf (ρ.t 24)).run P w = .ok (Enc.sz α) w)(cf:α->α->Int)(hO:SWO (ltOf cf))(g:Nat)(cb:Array Value)
  (eg:∀args w,(callFunc g args).run P w = .ok (.enter g args) w) (an:∀(x y:α) (W:World),Calls P g (#[.agg (Enc.enc x).toArray,.agg (Enc.enc y).toArray]++cb) W λe w'=>e = .returned (.int .i64<|cf x y)/\∃q os',w'=grow (W.drewN q) os')
  {e:TypeId} {ad:Option Addr} {c:Nat} {xs:List α} (hc:0<c) (a1:xs.length<4611686018427387904):eu P κ (ρ.f 6) [.slice ad xs.length c,.func (.func g) #[] cb] (vc e (.slice ad xs.length c) xs::I) λr J=>∃ys:List α,(r = .tuple #[]/\ys.Perm xs/\ys.Pairwise λa b=>ltOf cf b a=false)/\J=[]++vc e (.slice ad ys.length c) ys::I:=by
 intro w hs
 obtain ⟨az,_⟩:=hs.ok _ List.mem_cons_self
 obtain ⟨a',a3,hv,hl,ao,ay,aq⟩:=az
 cases hv
 obtain ⟨b,off,cur,rfl,hb,ah,ak⟩:=aq hc
 have ar:b<w.heap.size:=(Array.getElem?_eq_some_iff.1 hb).1
 have a6:=cells_length xs
 have a7:xs.length*Enc.sz α<=c*Enc.sz α:=Nat.mul_le_mul_right _ ao
 have hH:HoldsK Enc.enc (Enc.sz α) w b off xs.toArray:=λj hj=>by
  rw [flat_cells] at hj ⊢
  have M:j<(cells xs).length:=by simpa using hj
  have h1:=ak j ((cells xs)[j]) (List.getElem?_eq_getElem M)
  refine ⟨?_,by simp [World.frozen?,hb]⟩
  rw [cell_of_row w b (off+j) cur e (0,0) hb,h1]
  simp [getElem!_pos,M]
 have h:=AnyQ.slices_SortFunc L (Enc.sz α) aE zE Enc.enc Enc.len Enc.one cf hO g cb b off c xs.toArray w eg (λm os dk _ x y=>an x y _) hH ar (by simpa using a1)
 refine Calls.mono h ?_
 rintro e' w' ⟨rfl,d',n,os,⟨aj,_,aa⟩,ai,rfl⟩
 have ae:d'.size=xs.length:=by simpa using aj
 have ab:d'.toList.Perm xs:=by
  have e1:d'.extract 0 xs.toArray.size=d':=by rw [←aj];simp
  have e2:xs.toArray.extract 0 xs.toArray.size=xs.toArray:=by simp
  rw [e1,e2] at aa
  exact aa
 have hlen:d'.toList.length=xs.length:=by simpa using ae
 refine ⟨_,_,rfl,⟨d'.toList,⟨rfl,ab,?_⟩,rfl⟩,?_⟩
 ·rw [List.pairwise_iff_getElem]
  intro i j hi hj ax
  have:=ai i j (Nat.zero_le _) ax (by simpa [ae] using hj)
  simp only [Array.length_toList] at hi hj
  rw [getElem!_pos d' i hi,getElem!_pos d' j hj] at this
  simpa using this
 show Sep κ _ (vc e (.slice (some ⟨b,off,none⟩) d'.toList.length c) d'.toList::I)
 refine hs.upd (At.head _ _ _) rfl ⟨rfl,by simp [sortWorldK,putRowK,Sort.grow]⟩ rfl (by simp [sortWorldK,putRowK]) (λk hk a0=>?_) ?_ λk hk=> .inl ?_
 ·have aw:k≠b:=λav=>a0 (by subst av;exact ⟨off,xs.length,c,rfl,hc⟩)
  simp only [sortWorldK,Sort.grow,putRowK,putRow,mapBlock]
  rw [Array.getElem?_append_left (by simpa using hk),Array.getElem?_modify,if_neg<|λe=>aw e.symm]
  rfl
 ·refine ⟨_,c,rfl,cells_length _,by rw [hlen];exact ao,ay,λ_=>⟨b,off,putCells id off (flatK Enc.enc (Enc.sz α) d') cur,rfl,?_,?_,λj u hj=>?_⟩⟩
  ·simp only [sortWorldK,Sort.grow,putRowK,putRow,mapBlock]
   rw [Array.getElem?_append_left (by simpa using ar),Array.getElem?_modify,if_pos rfl]
   show (w.heap[b]?).map _=_
   rw [hb];rfl
  ·simpa [putCells] using ah
  have M:j<(cells d'.toList).length:=(List.getElem?_eq_some_iff.1 hj).1
  have a5:j<xs.length*Enc.sz α:=by rw [cells_length,hlen] at M;exact M
  have ap:off+j<cur.size:=by omega
  rw [flat_cells]
  simp only [putCells,Array.getElem?_mapIdx,Array.getElem?_eq_getElem ap,Option.map_some]
  rw [if_pos ⟨by omega,by simpa using M⟩,Nat.add_sub_cancel_left]
  rw [List.getElem?_eq_getElem M] at hj
  simpa [getElem!_pos,M] using hj
 obtain ⟨o',n',c',au,a4⟩:=hk
 cases au
 exact ⟨off,xs.length,c,rfl,hc⟩
theorem sort_any{ρ:Ren}(L:SlLaysF0.n6 P ρ)(aE:∀w,(isAgg (ρ.t 24)).run P w = .ok true w)(zE:∀w,(Go.sizeOf (ρ.t 24)).run P w = .ok (Enc.sz α) w)(cf:α->α->Int)(hO:SWO (ltOf cf))(g:Nat)(cb:Array Value)
  (eg:∀args w,(callFunc g args).run P w = .ok (.enter g args) w) (M:∀(x y:α) (W:World),Calls P g (#[.agg (Enc.enc x).toArray,.agg (Enc.enc y).toArray]++cb) W λe w'=>e = .returned (.int .i64<|cf x y)/\∃q os',w'=grow (W.drewN q) os')
  {e:TypeId} {ad:Option Addr} {c:Nat} {xs:List α} (aa:xs.length<4611686018427387904):eu P κ (ρ.f 6) [.slice ad xs.length c,.func (.func g) #[] cb] (vc e (.slice ad xs.length c) xs::I) λr J=>∃ys:List α,(r = .tuple #[]/\ys.Perm xs/\ys.Pairwise λa b=>ltOf cf b a=false)/\J=[]++vc e (.slice ad ys.length c) ys::I:=by
 by_cases hc:0<c
 ·exact sort_base L aE zE cf hO g cb eg M hc aa
 intro w hs
 obtain ⟨ab,_⟩:=hs.ok _ List.mem_cons_self
 obtain ⟨a',ae,hv,hl,ai,aj,ah⟩:=ab
 cases hv
 obtain rfl:xs=[]:=List.eq_nil_of_length_eq_zero (by omega)
 refine Calls.mono (AnyF.slices_SortFunc_none L ad c _ w) ?_
 rintro e' w' ⟨rfl,rfl⟩
 exact ⟨_,_,rfl,⟨[],⟨rfl,List.Perm.nil,List.Pairwise.nil⟩,rfl⟩,hs⟩
end
theorem lays_of{f:FuncId}{M:List Value}{v:Value}{W:World}(h:eu P ⟨W.os,W.tape,W.output,W.drawn⟩ f M [old W.heap.size W] λr J=>r=v/\[old W.heap.size W]=J) :
  Calls P f M.toArray W λe w'=>e = .returned v/\∃q ab,w'=Sort.grow (W.drewN q) ab:=(h W<|Sep.begin W).mono λe w' ⟨r,J,he,⟨hv,hJ⟩,hs⟩=>by
 subst hv hJ
 refine ⟨he,w'.drawn - W.drawn,w'.heap.extract W.heap.size w'.heap.size,?_⟩
 have hb:=hs.below List.mem_cons_self
 have an:∀k,k<W.heap.size->w'.heap[k]? = W.heap[k]? :=(hs.ok _ List.mem_cons_self).1
 have hd:=hs.tape.2
 have aa:w'.heap=W.heap++w'.heap.extract W.heap.size w'.heap.size:=by
  apply Array.ext_getElem?
  intro k
  by_cases hk:k<W.heap.size
  ·rw [Array.getElem?_append_left hk];exact an k hk
  rw [Array.getElem?_append_right (by omega),Array.getElem?_extract]
  have ap:=hb.size
  by_cases hk2:k<w'.heap.size
  ·rw [if_pos (by omega)];congr 1;omega
  rw [Array.getElem?_eq_none (by omega)]
  split
  ·omega
  rfl
 have e:W.drawn+(w'.drawn - W.drawn)=w'.drawn:=by have:W.drawn<=w'.drawn:=hd;omega
 have ak:w'.os=W.os:=hs.os
 have aj:w'.tape=W.tape:=hs.tape.1
 have ah:w'.output=W.output:=hs.output
 obtain ⟨ai,ae,ad,ab,ao⟩:=w'
 simp only [Sort.grow,World.drewN] at *
 subst ak aj ah
 rw [e,←aa]
end Go.Sl
namespace Go.Proofs
def Tryz.sort299_ren:Go.Shelf.Ren:=⟨fun |6=>299|15=>268|14=>312|28=>297|29=>298|20=>318|21=>319|22=>320|23=>321|24=>322|25=>323|26=>324|27=>325|46=>327|47=>308|48=>309|49=>328|50=>329|57=>330|n=>n,fun |22=>128|24=>192|25=>275|3=>3|39=>216|0=>0|53=>327|55=>152|4=>4|46=>321|45=>320|50=>221|5=>5|9=>9|66=>333|70=>337|76=>340|77=>246|n=>n,fun |n=>n⟩
theorem Tryz.sort299:Go.Proofs.SlLaysF0.n6 prog Tryz.sort299_ren:={
 mixed:=by kernel_rfl,
 f6:=⟨Tryz.f299.name,by decide,Tryz.func299.trans<|congrArg some<|by kernel_rfl⟩,
 f14:=⟨Tryz.f312.name,by decide,Tryz.func312.trans<|congrArg some<|by kernel_rfl⟩,
 f15:=Tryz.func268.trans (congrArg some<|by kernel_rfl),
 f20:=⟨Tryz.f318.name,by decide,Tryz.func318.trans<|congrArg some<|by kernel_rfl⟩,
 f21:=⟨Tryz.f319.name,by decide,Tryz.func319.trans<|congrArg some<|by kernel_rfl⟩,
 f22:=⟨Tryz.f320.name,by decide,Tryz.func320.trans<|congrArg some<|by kernel_rfl⟩,
 f23:=⟨Tryz.f321.name,by decide,Tryz.func321.trans<|congrArg some<|by kernel_rfl⟩,
 f24:=⟨Tryz.f322.name,by decide,Tryz.func322.trans<|congrArg some<|by kernel_rfl⟩,
 f25:=⟨Tryz.f323.name,by decide,Tryz.func323.trans<|congrArg some<|by kernel_rfl⟩,
 f26:=⟨Tryz.f324.name,by decide,Tryz.func324.trans<|congrArg some<|by kernel_rfl⟩,
 f27:=⟨Tryz.f325.name,by decide,Tryz.func325.trans<|congrArg some<|by kernel_rfl⟩,
 f28:=Tryz.func297.trans (congrArg some<|by kernel_rfl),
 f29:=Tryz.func298.trans (congrArg some<|by kernel_rfl),
 f46:=⟨Tryz.f327.name,by decide,Tryz.func327.trans<|congrArg some<|by kernel_rfl⟩,
 f47:=Tryz.func308.trans (congrArg some<|by kernel_rfl),
 f48:=Tryz.func309.trans (congrArg some<|by kernel_rfl),
 f49:=⟨Tryz.f328.name,by decide,Tryz.func328.trans<|congrArg some<|by kernel_rfl⟩,
 f50:=⟨Tryz.f329.name,by decide,Tryz.func329.trans<|congrArg some<|by kernel_rfl⟩,
 f57:=⟨Tryz.f330.name,by decide,Tryz.func330.trans<|congrArg some<|by kernel_rfl⟩,
 t0:=Tryz.underlying0,
 a0:=Tryz.isAgg0,
 z0:=Tryz.sizeOf0,
 v0:=Tryz.zeroValue0,
 t3:=Tryz.underlying3,
 a3:=Tryz.isAgg3,
 z3:=Tryz.sizeOf3,
 v3:=Tryz.zeroValue3,
 t4:=Tryz.underlying4,
 a4:=Tryz.isAgg4,
 z4:=Tryz.sizeOf4,
 v4:=Tryz.zeroValue4,
 t5:=Tryz.underlying5,
 a5:=Tryz.isAgg5,
 z5:=Tryz.sizeOf5,
 v5:=Tryz.zeroValue5,
 t9:=Tryz.underlying9,
 a9:=Tryz.isAgg9,
 z9:=Tryz.sizeOf9,
 v9:=Tryz.zeroValue9,
 t22:=Tryz.underlying128,
 a22:=Tryz.isAgg128,
 z22:=Tryz.sizeOf128,
 v22:=Tryz.zeroValue128,
 t25:=Tryz.underlying275,
 a25:=Tryz.isAgg275,
 z25:=Tryz.sizeOf275,
 v25:=Tryz.zeroValue275,
 t39:=Tryz.underlying216,
 a39:=Tryz.isAgg216,
 z39:=Tryz.sizeOf216,
 v39:=Tryz.zeroValue216,
 t45:=Tryz.underlying320,
 a45:=Tryz.isAgg320,
 z45:=Tryz.sizeOf320,
 v45:=Tryz.zeroValue320,
 t46:=Tryz.underlying321,
 a46:=Tryz.isAgg321,
 z46:=Tryz.sizeOf321,
 v46:=Tryz.zeroValue321,
 t50:=Tryz.underlying221,
 a50:=Tryz.isAgg221,
 z50:=Tryz.sizeOf221,
 v50:=Tryz.zeroValue221,
 t53:=Tryz.underlying327,
 a53:=Tryz.isAgg327,
 z53:=Tryz.sizeOf327,
 v53:=Tryz.zeroValue327,
 t55:=Tryz.underlying152,
 a55:=Tryz.isAgg152,
 z55:=Tryz.sizeOf152,
 v55:=Tryz.zeroValue152,
 t66:=Tryz.underlying333,
 a66:=Tryz.isAgg333,
 z66:=Tryz.sizeOf333,
 v66:=Tryz.zeroValue333,
 t70:=Tryz.underlying337,
 a70:=Tryz.isAgg337,
 z70:=Tryz.sizeOf337,
 v70:=Tryz.zeroValue337,
 t76:=Tryz.underlying340,
 a76:=Tryz.isAgg340,
 z76:=Tryz.sizeOf340,
 v76:=Tryz.zeroValue340,
 t77:=Tryz.underlying246,
 a77:=Tryz.isAgg246,
 z77:=Tryz.sizeOf246,
 v77:=Tryz.zeroValue246}
end Go.Proofs
namespace Go.Sl
open Go.Proofs
set_option maxRecDepth 4000
variable{n:Int}
attribute [local irreducible] W G V D A Runs Eff
theorem Order_ok{κ:Ctx}{I:List Item}(a c:Pt):eu prog κ 101 [.agg #[e7 (a.u),e7 (a.v)],.agg #[e7 (c.u),e7 (c.v)]] I (λr J=>r=e7 (Pt.cmp a c)/\I=J):=by
 refine Ce2 Tryz.func101 C C ?_
 refine Ar<|Ge1 (Al (cs:=[_,_]) C C C) λb1=>Ge1 (Al (cs:=[_,_]) C C C) λb2=>Ga C<|As<|A5<|A4 mixed<|Cr 12<|Z ?_
 refine Ds1 4<|Sc0 C (Ac c_ C C<|Compare_ok a.u c.u) ?_
 refine Ds1 9<|Sc0 C (Ac c_ C C<|Compare_ok a.v c.v) ?_
 refine Ds1 10<|Se1 C (B9 (α:=Int) (cs:=[_,_]) (xs:=[cmpI a.u c.u,cmpI a.v c.v]) Aa ef C C dc dc C C C C) λM=>?_
 refine Ds1 11<|Sc0 C (Ac c_ C C<|Or_ok A7) ?_
 refine C3 kr ?_
 refine Fg (i:=12) kr C (Ba C) C C (A0 C) ?_
 refine C4 kr<|Z ?_
 exact Ai C C I Ah ⟨by rw [←orL_cmp],rfl⟩
variable {κ:Ctx}{I:List Item}
structure Lk where
 u:Int
 v:Int
 w:Int
 lb:Int
 sg:Int
 tm:Int
deriving DecidableEq,Inhabited
instance:Enc Lk:=⟨λx=>[e7 x.u,e7 x.v,e7 x.w,e7 x.lb,e7 x.sg,e7 x.tm],6,by omega,λ_=>rfl,λx u h=>by
 simp only [List.mem_cons,List.not_mem_nil,or_false] at h
 rcases h with rfl|rfl|rfl|rfl|rfl|rfl<;>rfl⟩
theorem eqt192:EqT prog 192 Lk:=EqT.flat (λp:Lk=>[p.u,p.v,p.w,p.lb,p.sg,p.tm]) (λ_=>rfl) (λx y h=>by cases x;cases y;simpa using h) (n:=6) (λ_=>rfl) kr kr kr kr kr
structure Ev where
 kd:Int
 tm:Int
 u:Int
 v:Int
 w:Int
 lb:Int
 sg:Int
deriving DecidableEq,Inhabited
instance:Enc Ev:=⟨λx=>[e7 x.kd,e7 x.tm,e7 x.u,e7 x.v,e7 x.w,e7 x.lb,e7 x.sg],7,by omega,λ_=>rfl,λx u h=>by
 simp only [List.mem_cons,List.not_mem_nil,or_false] at h
 rcases h with rfl|rfl|rfl|rfl|rfl|rfl|rfl<;>rfl⟩
def Lk.p(l:Lk):Pt:=⟨l.u,l.v⟩
def Lk.cmp(a c:Lk):Int:=Pt.cmp a.p c.p
def Lk.lt(a c:Lk):Prop:=Pt.lt a.p c.p
instance:DecidableRel Lk.lt:=λa c=>by unfold Lk.lt;infer_instance
def rightW(w lb sg:Int):Prop:=1<=w/\w<=1000/\0<=lb/\lb<=15/\(sg=1\/sg = -1)
instance (w lb sg:Int):Decidable (rightW w lb sg):=by unfold rightW;infer_instance
def badL(n:Int)(l:Lk):Int:=if l.u<0\/l.v<=l.u\/n<=l.v then 6 else if ¬rightW l.w l.lb l.sg then 1 else if l.tm<0\/1048576<l.tm then 9 else 0
def checkS(n:Int)(xs:List Lk):Int:=if n<0\/64<n then 1 else scanL (badL n) Lk.lt none xs
theorem badL_zero{l:Lk}(h1:¬(l.u<0\/l.v<=l.u\/n<=l.v))(h2:rightW l.w l.lb l.sg)(M:¬(l.tm<0\/1048576<l.tm)):badL n l=0:=by
 unfold badL;rw [if_neg h1,if_neg<|λh=>h h2,if_neg M]
theorem badL_six{l:Lk}(M:l.u<0\/l.v<=l.u\/n<=l.v):badL n l=6:=by unfold badL;rw [if_pos M]
theorem badL_one{l:Lk}(h1:¬(l.u<0\/l.v<=l.u\/n<=l.v))(M:¬rightW l.w l.lb l.sg):badL n l=1:=by unfold badL;rw [if_neg h1,if_pos M]
theorem badL_nine{l:Lk}(h1:¬(l.u<0\/l.v<=l.u\/n<=l.v))(h2:rightW l.w l.lb l.sg)(M:l.tm<0\/1048576<l.tm):badL n l=9:=by unfold badL;rw [if_neg h1,if_neg (λh=>h h2),if_pos M]
def checkW(kd wd mo:Int):Int:=if kd<1\/3<kd then 8 else if (kd=2/\(wd<1\/1048576<wd))\/(kd≠2/\wd≠0)\/(kd=3/\(mo<0\/2016<mo))\/(kd≠3/\mo≠0) then 1 else 0
theorem CheckW_ok(kd wd mo:Int):eu prog κ 29 [.agg #[e7 kd,e7 wd,e7 mo]] I (λr J=>r=e7 (checkW kd wd mo)/\I=J):=by
 refine Ce1 Tryz.func29 C C ?_
 refine Ar<|Ge1 (Al (cs:=[_,_,_]) C C C) λb1=>Z ?_
 refine Ap C (λc7=>Z ?_)<|λc7=>Z ?_
 ·refine A6 (d:=37) C (λaa=>Z ?_) (λaa=>Z ?_)
  ·exact Ai C C I Ah ⟨by rw [show checkW kd wd mo=1 from by unfold checkW;split<;>first|rfl|omega|(split<;>first|rfl|omega)],rfl⟩
  refine Ap C (λM=>Z ?_)<|λM=>Z ?_
  ·exact Ai C C I Ah ⟨by rw [show checkW kd wd mo=1 from by unfold checkW;split<;>first|rfl|omega|(split<;>first|rfl|omega)],rfl⟩
  exact Ai C C I Ah ⟨by rw [show checkW kd wd mo=0 from by unfold checkW;split<;>first|rfl|omega|(split<;>first|rfl|omega)],rfl⟩
 refine Ap C (λc9=>Z ?_)<|λc9=>Z ?_
 ·refine A6 (d:=14) C (λab=>Z ?_) (λab=>Z ?_)
  ·exact Ai C C I Ah ⟨by rw [show checkW kd wd mo=1 from by unfold checkW;split<;>first|rfl|omega|(split<;>first|rfl|omega)],rfl⟩
  refine Ap C (λai=>Z ?_)<|λai=>Z ?_
  ·exact Ai C C I Ah ⟨by rw [show checkW kd wd mo=1 from by unfold checkW;split<;>first|rfl|omega|(split<;>first|rfl|omega)],rfl⟩
  refine A6 (d:=37) C (λaa=>Z ?_)<|λaa=>Z ?_
  ·exact Ai C C I Ah ⟨by rw [show checkW kd wd mo=1 from by unfold checkW;split<;>first|rfl|omega|(split<;>first|rfl|omega)],rfl⟩
  refine Ap C (λM=>Z ?_)<|λM=>Z ?_
  ·exact Ai C C I Ah ⟨by rw [show checkW kd wd mo=1 from by unfold checkW;split<;>first|rfl|omega|(split<;>first|rfl|omega)],rfl⟩
  exact Ai C C I Ah ⟨by rw [show checkW kd wd mo=0 from by unfold checkW;split<;>first|rfl|omega|(split<;>first|rfl|omega)],rfl⟩
 refine Ap C (λae=>Z ?_)<|λae=>Z ?_
 ·refine A6 (d:=26) C (λad=>Z ?_) (λad=>Z ?_)
  ·exact Ai C C I Ah ⟨by rw [show checkW kd wd mo=1 from by unfold checkW;split<;>first|rfl|omega|(split<;>first|rfl|omega)],rfl⟩
  refine Ap C (λah=>Z ?_)<|λah=>Z ?_
  ·exact Ai C C I Ah ⟨by rw [show checkW kd wd mo=1 from by unfold checkW;split<;>first|rfl|omega|(split<;>first|rfl|omega)],rfl⟩
  refine A6 (d:=37) C (λaa=>Z ?_)<|λaa=>Z ?_
  ·exact Ai C C I Ah ⟨by rw [show checkW kd wd mo=1 from by unfold checkW;split<;>first|rfl|omega|(split<;>first|rfl|omega)],rfl⟩
  refine Ap C (λM=>Z ?_)<|λM=>Z ?_
  ·exact Ai C C I Ah ⟨by rw [show checkW kd wd mo=1 from by unfold checkW;split<;>first|rfl|omega|(split<;>first|rfl|omega)],rfl⟩
  exact Ai C C I Ah ⟨by rw [show checkW kd wd mo=0 from by unfold checkW;split<;>first|rfl|omega|(split<;>first|rfl|omega)],rfl⟩
 exact Ai C C I Ah ⟨by rw [show checkW kd wd mo=8 from by unfold checkW;split<;>first|rfl|omega|(split<;>first|rfl|omega)],rfl⟩
theorem RightW_ok(w lb sg:Int):eu prog κ 202 [e7 w,e7 lb,e7 sg] I (λr J=>r = .bool (decide (rightW w lb sg))/\I=J):=by
 refine Ce3 Tryz.func202 C C<|Z ?_
 refine A6 (d:=9) C (λg9=>Z ?_)<|λg9=>Z ?_
 ·refine A6 (d:=13) C (λM=>Z ?_) (λM=>Z ?_)
  ·refine A6 (d:=17) C (λaa=>Z ?_) (λaa=>Z ?_)
   ·refine A6 (d:=21) C (λad=>Z ?_) (λad=>Z ?_)
    ·refine A6 (d:=24) C (λab=>Z ?_) (λab=>Z ?_)
     ·exact Ai C C I Ah ⟨(by first|exact congrArg Value.bool (decide_eq_decide.2<|by unfold rightW;omega)|exact congrArg Value.bool (decide_eq_true<|by unfold rightW;omega).symm|exact congrArg Value.bool (decide_eq_false<|by unfold rightW;omega).symm),rfl⟩
     exact Ai C C I Ah ⟨(by first|exact congrArg Value.bool (decide_eq_decide.2<|by unfold rightW;omega)|exact congrArg Value.bool (decide_eq_true<|by unfold rightW;omega).symm|exact congrArg Value.bool (decide_eq_false<|by unfold rightW;omega).symm),rfl⟩
    exact Ai C C I Ah ⟨(by first|exact congrArg Value.bool (decide_eq_decide.2<|by unfold rightW;omega)|exact congrArg Value.bool (decide_eq_true<|by unfold rightW;omega).symm|exact congrArg Value.bool (decide_eq_false<|by unfold rightW;omega).symm),rfl⟩
   exact Ai C C I Ah ⟨(by first|exact congrArg Value.bool (decide_eq_decide.2<|by unfold rightW;omega)|exact congrArg Value.bool (decide_eq_true<|by unfold rightW;omega).symm|exact congrArg Value.bool (decide_eq_false<|by unfold rightW;omega).symm),rfl⟩
  exact Ai C C I Ah ⟨(by first|exact congrArg Value.bool (decide_eq_decide.2<|by unfold rightW;omega)|exact congrArg Value.bool (decide_eq_true<|by unfold rightW;omega).symm|exact congrArg Value.bool (decide_eq_false<|by unfold rightW;omega).symm),rfl⟩
 exact Ai C C I Ah ⟨(by first|exact congrArg Value.bool (decide_eq_decide.2<|by unfold rightW;omega)|exact congrArg Value.bool (decide_eq_true<|by unfold rightW;omega).symm|exact congrArg Value.bool (decide_eq_false<|by unfold rightW;omega).symm),rfl⟩
theorem OrderL_ok(a c:Lk):eu prog κ 242 [.agg #[e7 (a.u),e7 (a.v),e7 (a.w),e7 (a.lb),e7 (a.sg),e7 (a.tm)],.agg #[e7 (c.u),e7 (c.v),e7 (c.w),e7 (c.lb),e7 (c.sg),e7 (c.tm)]] I (λr J=>r=e7 (Lk.cmp a c)/\I=J):=by
 refine Ce2 Tryz.func242 C C ?_
 refine Ar<|Ge1 (Al (cs:=[_,_,_,_,_,_]) C C C) λb1=>Ge1 (Al (cs:=[_,_,_,_,_,_]) C C C) λb2=>Ga C<|As<|A5<|A4 mixed<|Cr 12<|Z ?_
 refine Ds1 4<|Sc0 C (Ac c_ C C<|Compare_ok a.u c.u) ?_
 refine Ds1 9<|Sc0 C (Ac c_ C C<|Compare_ok a.v c.v) ?_
 refine Ds1 10<|Se1 C (B9 (α:=Int) (cs:=[_,_]) (xs:=[cmpI a.u c.u,cmpI a.v c.v]) Aa ef C C dc dc C C C C) λM=>?_
 refine Ds1 11<|Sc0 C (Ac c_ C C<|Or_ok A7) ?_
 refine C3 kr ?_
 refine Fg (i:=12) kr C (Ba C) C C (A0 C) ?_
 refine C4 kr<|Z ?_
 exact Ai C C I Ah ⟨by rw [show Lk.cmp a c=Pt.cmp ⟨a.u,a.v⟩ ⟨c.u,c.v⟩ from rfl,←orL_cmp],rfl⟩
end Go.Sl
namespace Go.Sl
end Go.Sl
namespace Go.Sl
open Go.Proofs
set_option maxRecDepth 4000
theorem at_drop{α:Type}[Inhabited α](xs:List α)(l:Nat)(i:Int)(M:0<=i):e_ (xs.drop l) i=e_ xs ((l:Int)+i):=by
 unfold e_
 rw [List.getD_eq_getElem?_getD,List.getD_eq_getElem?_getD,List.getElem?_drop]
 congr 2;omega

end Go.Sl
namespace Go.Sl
open Go.Proofs
set_option maxRecDepth 4000
attribute [local irreducible] W G V D A Runs Eff
theorem Lk.cmp_lt(a c:Lk):Lk.cmp a c<0↔Lk.lt a c:=Pt.cmp_lt _ _
def askE(nd:Int)(xs:List Lk)(kd wd mo nw:Int):Int:=if checkW kd wd mo≠0 then checkW kd wd mo else if checkS nd xs≠0 then checkS nd xs else if nw<0\/1048576<nw\/xs.any (λx=>decide (nw<x.tm))=true then 9 else 0
theorem CheckS_ok{κ:Ctx}{I:List Item}{nd:Int}{va:Value}{xs:List Lk}(hl:Sl κ I va xs):eu prog κ 206 [.agg #[e7 nd,va]] I (λr J=>r=e7 (checkS nd xs)/\I=J):=by
 refine Bu hl.le λan=>?_
 refine Ce1 Tryz.func206 C C ?_
 refine Ar<|Ge1 (Al (cs:=[_,_]) C C C) λb1=>Z ?_
 refine A6 (d:=8) C (λg8=>Z ?_)<|λg8=>Z ?_
 ·exact Ai C C I Ah ⟨by rw [show checkS nd xs=1 from (by first|(unfold checkS;rw [if_pos om];done)|exact hs.trans ((Eq om<|by rw [badL_one om asm];decide).trans (badL_one om asm)))],rfl⟩
 refine Ap C (λc12=>Z ?_)<|λc12=>Z ?_
 ·exact Ai C C I Ah ⟨by rw [show checkS nd xs=1 from (by first|(unfold checkS;rw [if_pos om];done)|exact hs.trans ((Eq om<|by rw [badL_one om asm];decide).trans (badL_one om asm)))],rfl⟩
 refine D7 (σ:=Nat) (λs=>[(16,e7 ((s:Nat):Int))]) (λ_=>[]) (λs=>(s<=xs.length)/\(checkS nd xs=scanL (badL nd) Lk.lt (prevAt xs s) (xs.drop s))) (λs=>xs.length - s) 0 ⟨om,(by unfold checkS;rw [if_neg om];rfl)⟩ ?_
 rintro k hp
 obtain ⟨hk,hs⟩:=hp
 refine Z ?_
 refine Ap C (λae=>Z ?_)<|λae=>Z ?_
 ·refine Ge1 (Am ty192 C) λb2=>Ga C (Ge0 (E9 ty192)<|Z ?_)
  refine A6 (d:=25) C (λai=>Z ?_)<|λai=>Z ?_
  ·exact Ai C C I Ah ⟨by rw [show checkS nd xs=6 from (hs.trans<|(Eq om<|by rw [badL_six om];decide).trans (badL_six om))],rfl⟩
  refine A6 (d:=32) C (λah=>Z ?_)<|λah=>Z ?_
  ·exact Ai C C I Ah ⟨by rw [show checkS nd xs=6 from (hs.trans<|(Eq om<|by rw [badL_six om];decide).trans (badL_six om))],rfl⟩
  refine Ap C (λM=>Z ?_)<|λM=>Z ?_
  ·exact Ai C C I Ah ⟨by rw [show checkS nd xs=6 from (hs.trans<|(Eq om<|by rw [badL_six om];decide).trans (badL_six om))],rfl⟩
  refine Gc0 (Ac c_ C C<|RightW_ok ((e_ xs k).w) ((e_ xs k).lb)<|(e_ xs k).sg)<|Z ?_
  refine Ap C (λak=>Z ?_)<|λak=>Z ?_
  ·exact Ai C C I Ah ⟨by rw [show checkS nd xs=1 from (by first|(unfold checkS;rw [if_pos om];done)|exact hs.trans ((Eq om<|by rw [badL_one om asm];decide).trans (badL_one om asm)))],rfl⟩
  refine A6 (d:=52) C (λaj=>Z ?_)<|λaj=>Z ?_
  ·exact Ai C C I Ah ⟨by rw [show checkS nd xs=9 from (hs.trans<|(Eq om<|by rw [badL_nine om (by first|assumption|exact Classical.not_not.1 asm|exact Classical.byContradiction λh=>c47<|by rw [if_neg h];decide) om];decide).trans (badL_nine om (by first|assumption|exact Classical.not_not.1 asm|exact Classical.byContradiction λh=>c47<|by rw [if_neg h];decide) om))],rfl⟩
  refine Ap C (λaa=>Z ?_)<|λaa=>?_
  ·exact Ai C C I Ah ⟨by rw [show checkS nd xs=9 from (hs.trans<|(Eq om<|by rw [badL_nine om (by first|assumption|exact Classical.not_not.1 asm|exact Classical.byContradiction λh=>c47<|by rw [if_neg h];decide) om];decide).trans (badL_nine om (by first|assumption|exact Classical.not_not.1 asm|exact Classical.byContradiction λh=>c47<|by rw [if_neg h];decide) om))],rfl⟩
  refine A5<|A4 mixed<|Cr 14<|Z ?_
  refine Du (d:=60) C (λad=>Z ?_)<|λad=>?_
  ·refine Ds1 10 (Sc0 C (Ac c_ C C<|OrderL_ok (e_ xs<|(k:Int) - 1)<|e_ xs k)<|Z ?_)
   refine Ap C (λab=>Z ?_)<|λab=>Z ?_
   ·exact Ai C C I Ah ⟨by rw [show checkS nd xs=5 from (hs.trans<|scanL_order om (badL_zero om (by first|assumption|exact Classical.not_not.1 asm|exact Classical.byContradiction λh=>c47<|by rw [if_neg h];decide) om) om<|by first|assumption|(intro h;have:=(Lk.cmp_lt _ _).2 h;omega))],rfl⟩
   exact B5 ((k+1)) ⟨om,(hs.trans<|scanL_step om (badL_zero om (by first|assumption|exact Classical.not_not.1 asm|exact Classical.byContradiction λh=>c47<|by rw [if_neg h];decide) om)<|λh0=>by first|omega|exact (Lk.cmp_lt _ _).1 om|exact Classical.not_not.1 asm)⟩
  refine Dpo 3 C<|Z ?_
  exact B5 ((k+1)) ⟨om,(hs.trans<|scanL_step om (badL_zero om (by first|assumption|exact Classical.not_not.1 asm|exact Classical.byContradiction λh=>c47<|by rw [if_neg h];decide) om)<|λh0=>by first|omega|exact (Lk.cmp_lt _ _).1 om|exact Classical.not_not.1 asm)⟩
 exact Ai C C I Ah ⟨by rw [show checkS nd xs=0 from (hs.trans<|scanL_end om)],rfl⟩
end Go.Sl
namespace Go.Sl
open Go.Proofs
set_option maxRecDepth 4000

end Go.Sl
namespace Go.Sl
open Go.Proofs
set_option maxRecDepth 4000
variable{b c c0:Nat}{kd mo nd nw wd:Int}{v va:Value}{a a0:Option Addr}{xs:List Lk}
variable {κ:Ctx}{I:List Item}
attribute [local irreducible] W G V D A Runs Eff
theorem All1_ok(x:Lk):eu prog κ 272 [.agg #[e7 (x.u),e7 (x.v),e7 (x.w),e7 (x.lb),e7 (x.sg),e7 (x.tm)]] I (λr J=>r = .bool true/\I=J):=by
 refine Ce1 Tryz.func272 C C ?_
 refine Ar<|Ge1 (Al (cs:=[_,_,_,_,_,_]) C C C) λb1=>Z ?_
 exact Ai C C I Ah ⟨rfl,rfl⟩
theorem Age1_ok(hb:BlkRd κ I b [e7 nw] 3)(M:BlkRd κ I c [e7 kd,e7 wd,e7 mo] 31)(x:Lk):eu prog κ 274 [.agg #[e7 (x.u),e7 (x.v),e7 (x.w),e7 (x.lb),e7 (x.sg),e7 (x.tm)],.pointer (some ⟨b,0,none⟩),.pointer (some ⟨c,0,none⟩)] I (λr J=>r = .bool (decide (IntKind.i64.wrap (nw - x.tm)<wd))/\I=J):=by
 refine Ce3 Tryz.func274 C C ?_
 refine Ar<|Ge1 (Al (cs:=[_,_,_,_,_,_]) C C C) λb1=>Ga C<|As<|Ar<|Gr (Cs ef C (Co hb Ah) C)<|Z ?_
 refine Gr (Runs.subw C C)<|Gf fld31_1 C<|Gr (Cs ef C (Co M Ah) C)<|Z ?_
 exact Ai C C I Ah ⟨rfl,rfl⟩
theorem Rule1_ok :
    eu prog κ 271 [.agg #[e7 nd,va],.agg #[e7 kd,e7 wd,e7 mo],e7 nw] I (λr J=>r = .func (.func 272) #[] #[]/\I=J):=by
 refine Ce3 Tryz.func271 C C ?_
 refine Ar<|Ge1 (Al (cs:=[_,_]) C C C) λb1=>Ge1 (Al (cs:=[_,_,_]) C C C) λM=>Z ?_
 exact Ai C C I Ah ⟨rfl,rfl⟩
theorem Rule2_ok :
    eu prog κ 273 [.agg #[e7 nd,va],.agg #[e7 kd,e7 wd,e7 mo],e7 nw] I (λr J=>∃b c,r = .func (.func 274) #[] #[.pointer (some ⟨b,0,none⟩),.pointer<|some ⟨c,0,none⟩]/\J=e8 b [e7 nw] 3::e8 c [e7 kd,e7 wd,e7 mo] 31::I):=by
 refine Ce3 Tryz.func273 C C ?_
 exact Ar<|Ge1 (Al (cs:=[_,_]) C C C) λb1=>Ge1 (Al (cs:=[_,_,_]) C C C) λb2=>Ge1 (Al (cs:=[_]) C C C) λM=>Ga C<|As<|Ar<|Gr (Ec C C)<|Ga C<|As<|Bf<|Ai C C (e8 M [e7 nw] 3::e8 b2 [e7 kd,e7 wd,e7 mo] 31::I) Aj ⟨M,b2,rfl,rfl⟩
theorem Rules_ok  :
    eu prog κ 240 [] I (λr J=>∃m,r = .map (some m)/\J=mp m [({key:=e7 1,val:= .func (.func 271) #[] #[],born:=0}:MapEntry),({key:=e7 2,val:= .func (.func 273) #[] #[],born:=1}:MapEntry),({key:=e7 3,val:= .func (.func 275) #[] #[],born:=2}:MapEntry)] 3::I):=by
 refine Ce0 Tryz.func240 C C<|Z ?_
 refine Ge1 (Eff.makeMap C) λM=>?_
 refine Ge0 (Ds Ei Bd C C C C C am) ?_
 refine Ge0 (Ds Ei Bd C C C C C am) ?_
 refine Ge0 (Ds Ei Bd C C C C C am)<|Z ?_
 exact Ai C C (mp M [({key:=e7 1,val:= .func (.func 271) #[] #[],born:=0}:MapEntry),({key:=e7 2,val:= .func (.func 273) #[] #[],born:=1}:MapEntry),({key:=e7 3,val:= .func (.func 275) #[] #[],born:=2}:MapEntry)] 3::I) Aj ⟨M,rfl,rfl⟩
variable {κ:Ctx}{I:List Item}
def Lk.lcmp(a c:Lk):Int:=orL [cmpI c.tm a.tm,Lk.cmp c a]
def Lk.late(a c:Lk):Prop:=c.tm<a.tm\/(a.tm=c.tm/\Lk.lt c a)
instance:DecidableRel Lk.late:=λa c=>by unfold Lk.late;infer_instance
theorem Lk.lcmp_lt(a c:Lk):Lk.lcmp a c<0↔Lk.late a c:=by
 unfold Lk.lcmp Lk.late
 rw [←Lk.cmp_lt]
 simp only [orL,cmpI]
 generalize Lk.cmp c a=z
 (repeat' split)<;>omega
def SortedK(xs ys:List Lk):Prop:=ys.Perm xs/\ys.Pairwise λa b=>¬Lk.late b a
open Go.Proofs Go.Shelf Go.Sort in
theorem swo_lk:SWO (ltOf Lk.lcmp) where
 irrefl x:=decide_eq_false λh=>by rw [Lk.lcmp_lt] at h;unfold Lk.late Lk.lt Pt.lt Lk.p at h;simp only at h;omega
 trans x y z h1 h2:=decide_eq_true (by
  have a:=of_decide_eq_true h1
  have b:=of_decide_eq_true h2
  rw [Lk.lcmp_lt] at a b ⊢
  unfold Lk.late Lk.lt Pt.lt Lk.p at a b ⊢
  simp only at a b ⊢
  omega)
 ntrans x y z h1 h2:=decide_eq_false λh=>by
  have a:=of_decide_eq_false h1
  have b:=of_decide_eq_false h2
  rw [Lk.lcmp_lt] at a b h
  unfold Lk.late Lk.lt Pt.lt Lk.p at a b h
  simp only at a b h
  omega
theorem CloneL(hl:Sl κ I (.slice a xs.length c) xs)(hb:xs.length<=1000000000):eu prog κ 208 [.slice a xs.length c] I (λr J=>∃a' c',r = .slice a' xs.length c'/\J=vc 192 (.slice a' xs.length c') xs::I):=by
 refine Bu (p:=a.isNone=true->xs=[]/\c=0) (λw hs hn=>hl.isNone w hs hn) λM=>?_
 refine Ce1 Tryz.func208 C C<|Z ?_
 refine Gr (Runs.eqnil Bh C C)<|As<|D8 C (λc4=>Z ?_)<|λc4=>Z ?_
 ·obtain ⟨ad,_⟩:=M c4
  subst ad
  exact Ai C C (vc 192 (.slice none ([]:List Lk).length 0) ([]:List Lk)::I) (Bw _ _) ⟨none,0,rfl,rfl⟩
 refine Ge1 (Eff.bs0 (α:=Lk) Bh ty192 C) λae=>?_
 refine Gm C<|Ge2 (B4 (α:=Lk) (e:=192) (xs:=([]:List Lk)) (ys:=xs) Bh ty192 C C C mm (Au hl) (by simp only [List.length_nil];omega) dc C<|λ_ _=>am) λab aa=>?_
 exact Ga C<|As<|Bf<|Ai C C (vc 192 (.slice ab xs.length aa) xs::I) Aj ⟨ab,aa,rfl,rfl⟩
theorem LastCmp_ok(a c:Lk):eu prog κ 300 [.agg #[e7 (a.u),e7 (a.v),e7 (a.w),e7 (a.lb),e7 (a.sg),e7 (a.tm)],.agg #[e7 (c.u),e7 (c.v),e7 (c.w),e7 (c.lb),e7 (c.sg),e7 (c.tm)]] I (λr J=>r=e7 (Lk.lcmp a c)/\I=J):=by
 refine Ce2 Tryz.func300 C C ?_
 refine Ar<|Ge1 (Al (cs:=[_,_,_,_,_,_]) C C C) λb1=>Ge1 (Al (cs:=[_,_,_,_,_,_]) C C C) λb2=>Ga C<|As<|A5<|A4 mixed<|Cr 10<|Z ?_
 refine Ds1 4<|Sc0 C (Ac c_ C C<|Compare_ok c.tm a.tm) ?_
 refine Ds1 7<|Sc0 C (Ac c_ C C<|OrderL_ok c a) ?_
 refine Ds1 8<|Se1 C (B9 (α:=Int) (cs:=[_,_]) (xs:=[cmpI c.tm a.tm,Lk.cmp c a]) Aa ef C C dc dc C C C C) λM=>?_
 refine Ds1 9<|Sc0 C (Ac c_ C C<|Or_ok A7) ?_
 refine C3 kr ?_
 refine Fg (i:=10) kr C (Ba C) C C (A0 C) ?_
 refine C4 kr<|Z ?_
 exact Ai C C I Ah ⟨rfl,rfl⟩
open Go.Proofs Go.Shelf Go.Sort in
theorem SortK_ok{κ:Ctx}{I:List Item}(aa:xs.length<1000000000):eu prog κ 299 [.slice a xs.length c,.func (.func 300) #[] #[]] (vc 192 (.slice a xs.length c) xs::I) λr J=>∃ys:List Lk,(r = .tuple #[]/\SortedK xs ys/\ys.length=xs.length)/\J=[]++vc 192 (.slice a xs.length c) ys::I:=
 (sort_any (α:=Lk) (ρ:=Tryz.sort299_ren) Tryz.sort299 Tryz.isAgg192 Tryz.sizeOf192 Lk.lcmp swo_lk 300 #[] (enters_of Tryz.func300 (by kernel_rfl) rfl) (λx y W=>lays_of<|LastCmp_ok x y) om).mono λr J ⟨ys,⟨h1,M,h3⟩,h4⟩=>
  ⟨ys,⟨h1,⟨M,h3.imp fun {a b} h=>by rw [←Lk.lcmp_lt];exact of_decide_eq_false h⟩,M.length_eq⟩,by rw [h4,M.length_eq]⟩
theorem SortK_at{F:Item->List Item}{n:Nat}(aa:AtF I (vc 192 (.slice a n c) xs) F)(hn:xs.length=n)(M:xs.length<1000000000):eu prog κ 299 [.slice a n c,.func (.func 300) #[] #[]] I λr J=>∃ys:List Lk,(r = .tuple #[]/\SortedK xs ys/\ys.length=n)/\J=[]++F (vc 192 (.slice a n c) ys):=
 Ep (Z:=λ_=>[]) (X:=λys:List Lk=>vc 192 (.slice a n c) ys) (Post:=λr ys=>r = .tuple #[]/\SortedK xs ys/\ys.length=n) aa λJ _ _=>by subst hn;exact SortK_ok M
theorem Last_ok(hl:Sl κ I (.slice a0 xs.length c0) xs)(h0:0<=mo)(ai:xs.length<=1000000):eu prog κ 276 [.agg #[e7 nd,.slice a0 xs.length c0],e7 mo] I (λr J=>∃(a:Option Addr) (c:Nat) (ys:List Lk) (m:Nat),r = .slice a (List.take m ys).length c/\(SortedK xs ys/\ys.length=xs.length/\(m:Int)<=mo/\m<=xs.length/\((m:Int)=mo\/m=xs.length))/\J=vc 192 (.slice a xs.length c) ys::I):=by
 refine Ce2 Tryz.func276 C C ?_
 refine Ar<|Ge1 (Al (cs:=[_,_]) C C C) λb1=>Z ?_
 refine G.e (Ac c_ C C<|CloneL (xs:=xs) (Au hl) om) ?_
 rintro _ _ ⟨_,_,⟨ae,ad,rfl,rfl⟩,rfl,rfl⟩
 refine Z ?_
 refine G.e (Ac c_ C C<|SortK_at (by repeat (first|exact AtF.head _ _|apply AtF.tail)) C om) ?_
 rintro _ _ ⟨_,_,⟨aa,⟨rfl,M,ab⟩,rfl⟩,rfl,rfl⟩
 refine Z ?_
 refine Gr (Runs.hi (α:=Lk) (xs:=aa) (h:=(if ((xs.length:Nat):Int)<mo then ((xs.length:Nat):Int) else mo).toNat) Bh ty192 C C om A7<|by split<;>omega)<|Z ?_
 have ah:(((((if ((xs.length:Nat):Int)<mo then ((xs.length:Nat):Int) else mo).toNat)):Nat):Int)<=mo/\(((if ((xs.length:Nat):Int)<mo then ((xs.length:Nat):Int) else mo).toNat))<=xs.length/\((((((if ((xs.length:Nat):Int)<mo then ((xs.length:Nat):Int) else mo).toNat)):Nat):Int)=mo\/(((if ((xs.length:Nat):Int)<mo then ((xs.length:Nat):Int) else mo).toNat))=xs.length):=by split<;>omega
 exact Ai C C (vc 192 (.slice ae xs.length ad) (aa)::I) Aj ⟨ae,ad,aa,((if ((xs.length:Nat):Int)<mo then ((xs.length:Nat):Int) else mo).toNat),rfl,⟨M,ab,ah⟩,rfl⟩
theorem IndexL_ok(hl:Sl κ I v xs)(x:Lk):eu prog κ 301 [v,.agg #[e7 (x.u),e7 (x.v),e7 (x.w),e7 (x.lb),e7 (x.sg),e7 (x.tm)]] I (λr J=>∃y:Int,r=e7 y/\(0<=y↔x∈xs)/\I=J):=by
 refine Bu hl.le λaa=>?_
 refine Ce2 Tryz.func301 C C ?_
 refine Ar<|Ge1 (Al (cs:=[_,_,_,_,_,_]) C C C) λb1=>Z ?_
 refine D7 (σ:=Nat) (λs=>[(8,e7 ((s:Nat):Int))]) (λ_=>[]) (λs=>(s<=xs.length)/\(∀j,j<s->e_ xs j≠x)) (λs=>xs.length - s) 0 ⟨om,all_zero⟩ ?_
 rintro k hp
 obtain ⟨hk,hn⟩:=hp
 refine Z ?_
 refine Ap C (λc9=>Z ?_)<|λc9=>Z ?_
 ·refine A4 mixed (Cr 6<|Z ?_)
  refine Dr 5 C (Runs.eqlT (α:=Lk) (a:=x) (b:=(e_ xs k)) eqt192 C C)<|Dz<|Ay<|Ap C (λM=>Z ?_)<|λM=>Z ?_
  ·have hm:x∈xs:=by rw [show x=e_ xs k from M];exact Bx om om
   exact Ai C C I Ah ⟨_,rfl,⟨λ_=>hm,λ_=>by omega⟩,rfl⟩
  exact B5 ((k+1)) ⟨om,(all_succ hn<|λe=>M e.symm)⟩
 have hm:x∉xs:=not_mem_at hn om
 exact Ai C C I Ah ⟨_,rfl,⟨λh=>absurd h dc,λh=>absurd h hm⟩,rfl⟩
theorem ContainsL_ok(M:Sl κ I v xs)(x:Lk):eu prog κ 278 [v,.agg #[e7 (x.u),e7 (x.v),e7 (x.w),e7 (x.lb),e7 (x.sg),e7 (x.tm)]] I (λr J=>r = .bool (decide (x∈xs))/\I=J):=by
 refine Ce2 Tryz.func278 C C ?_
 refine Ar<|Ge1 (Al (cs:=[_,_,_,_,_,_]) C C C) λb1=>Z ?_
 refine G.e (Ac c_ C C<|IndexL_ok (Au M) x) ?_
 rintro _ _ ⟨_,_,⟨y2,rfl,aa,rfl⟩,rfl,rfl⟩
 refine Z ?_
 exact Ai C C I Ah ⟨by rw [decide_eq_decide.2 asm],rfl⟩
theorem Last1_ok{zs:List Lk}(hb:BlkRd κ I b [v] 128)(M:Sl κ I v zs)(x:Lk):eu prog κ 277 [.agg #[e7 (x.u),e7 (x.v),e7 (x.w),e7 (x.lb),e7 (x.sg),e7 (x.tm)],.pointer (some ⟨b,0,none⟩)] I (λr J=>r = .bool (decide (x∈zs))/\I=J):=by
 refine Ce2 Tryz.func277 C C ?_
 refine Ar<|Ge1 (Al (cs:=[_,_,_,_,_,_]) C C C) λb1=>Ga C<|As<|Ar<|Gr (Cs ty128 C (Co hb Ah) C)<|Z ?_
 refine Gc0 (Ac c_ C C<|ContainsL_ok (Au M) x) ?_
 exact Ga C<|As<|Bf<|Ai C C I Ah ⟨rfl,rfl⟩
theorem Rule3_ok(hl:Sl κ I (.slice a0 xs.length c0) xs)(h0:0<=mo)(ah:xs.length<=1000000):eu prog κ 275 [.agg #[e7 nd,.slice a0 xs.length c0],.agg #[e7 kd,e7 wd,e7 mo],e7 nw] I (λr J=>∃(b:Nat) (a:Option Addr) (c:Nat) (ys:List Lk) (m:Nat),r = .func (.func 277) #[] #[.pointer (some ⟨b,0,none⟩)]/\(SortedK xs ys/\ys.length=xs.length/\(m:Int)<=mo/\m<=xs.length/\((m:Int)=mo\/m=xs.length))/\J=e8 b [.slice a (List.take m ys).length c] 128::vc 192 (.slice a xs.length c) ys::I):=by
 refine Ce3 Tryz.func275 C C ?_
 refine Ar<|Ge1 (Al (cs:=[_,_]) C C C) λb1=>Ge1 (Al (cs:=[_,_,_]) C C C) λb2=>Z ?_
 refine G.e (Ac c_ C C<|Last_ok (nd:=nd) (Au hl) h0 om) ?_
 rintro _ _ ⟨_,_,⟨M,ab,aa,ae,rfl,ad,rfl⟩,rfl,rfl⟩
 refine Ge1 (Am ty128 C) λb7=>Ge0 (A3 (cs:=[_]) (vs:=[_]) (cs':=[_]) ty128) ?_
 exact As<|Ar<|Gr (Ec C C)<|Ga C<|As<|Bf<|Ai C C (e8 b7 [.slice M (List.take ae aa).length ab] 128::vc 192 (.slice M xs.length ab) (aa)::I) Aj ⟨b7,M,ab,aa,ae,rfl,ad,rfl⟩
end Go.Sl
