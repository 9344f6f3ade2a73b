/- A part of the proofs of statements of this seat: contracts of functions, and the plain laws that they lean on. No conditions. -/
import Derived.Test.YtfkcohmipjhfcaaGreatDoorH4
import Derived.Shelf.SlSortCmp.NoneTotal
import Derived.Shelf.SlSortCmp.WholeK
set_option linter.unusedVariables false
set_option linter.unusedSimpArgs false
set_option linter.unusedSectionVars false
namespace Go.Sl
open Go.Proofs
set_option maxRecDepth 4000
theorem Before03_ok{κ:Ctx}{I:List Item}(a c:Pt) :
    CallS Tryz.prog κ 84 [.agg #[I64 (a.u),I64 (a.v)],.agg #[I64 (c.u),I64 (c.v)]] I (fun r J=>r = .bool (decide (Pt.lt a c))∧I=J):=by
 refine Ce2 Tryz.func84 rfl rfl ?_
 refine Ai (Ge1 (Bd (cs:=[_,_]) rfl rfl rfl) fun b1=>Ge1 (Bd (cs:=[_,_]) rfl rfl rfl) fun b2=>Ga rfl (Af (Ai (Gf fld135_0 rfl (Gl ty3 ?_)))))
 refine Gf fld135_0 rfl (Gl ty3 ?_)
 refine Gr (A9 rfl rfl) (Gm rfl (Bb (d:=10) rfl (fun g10=>?_) (fun g10=>?_)))
 ·exact Gpo (Gpo (Gpo (Gpo (Gpo (Gpo (Gpu (Gpu (Gpu (Gpu (Gpu (Gpo (Gr (Ao rfl rfl) (Ga rfl (Af (Ar (S1 4 rfl) (Ax (Ay rfl rfl (I) A0 ⟨(by first|exact congrArg Value.bool (decide_eq_decide.2 (by unfold Pt.lt;omega))|exact congrArg Value.bool (decide_eq_true (by unfold Pt.lt;omega)).symm|exact congrArg Value.bool (decide_eq_false (by unfold Pt.lt;omega)).symm),rfl⟩)))))))))))))))))
 ·refine Gro (Ab fld135_0 rfl) (Gro (As ty3) ?_)
  refine Gro (Ab fld135_0 rfl) (Gro (As ty3) ?_)
  refine Gro (Bi rfl rfl) (Gro (Ad rfl) (Bb (d:=16) rfl (fun g16=>?_) (fun g16=>?_)))
  ·refine Gro (Ab fld135_1 rfl) (Gro (As ty3) ?_)
   refine Gro (Ab fld135_1 rfl) (Gro (As ty3) ?_)
   exact Gro (A9 rfl rfl) (Gro (Ao rfl rfl) (Gr (Al rfl rfl) (Ga rfl (Af (Ar (S1 4 rfl) (Ax (Ay rfl rfl (I) A0 ⟨(by first|exact congrArg Value.bool (decide_eq_decide.2 (by unfold Pt.lt;omega))|exact congrArg Value.bool (decide_eq_true (by unfold Pt.lt;omega)).symm|exact congrArg Value.bool (decide_eq_false (by unfold Pt.lt;omega)).symm),rfl⟩)))))))
  ·exact Gpo (Gpo (Gpo (Gpo (Gpo (Gro (Al rfl rfl) (Gr (Al rfl rfl) (Ga rfl (Af (Ar (S1 4 rfl) (Ax (Ay rfl rfl (I) A0 ⟨(by first|exact congrArg Value.bool (decide_eq_decide.2 (by unfold Pt.lt;omega))|exact congrArg Value.bool (decide_eq_true (by unfold Pt.lt;omega)).symm|exact congrArg Value.bool (decide_eq_false (by unfold Pt.lt;omega)).symm),rfl⟩)))))))))))
def cmpL:List Int→List Int→Int
 |[],[]=>0
 |[],_::_=> -1
 |_::_,[]=>1
 |x::xs,y::ys=>if y<x then 1 else if x<y then -1 else cmpL xs ys
theorem cmpL_eq:∀xs ys,cmpL xs ys=0↔xs=ys
 |[],[]=>by simp [cmpL]
 |[],_::_=>by simp [cmpL]
 |_::_,[]=>by simp [cmpL]
 |x::xs,y::ys=>by
  simp only [cmpL]
  split
  ·simp;omega
  ·split
   ·simp;omega
   ·rw [cmpL_eq xs ys]
    have:x=y:=by omega
    simp [this]
theorem cmpL_drop(xs ys:List Int)(k:Nat)(hx:k<xs.length)(hy:k<ys.length)(h1:¬at_ ys (k:Int)<at_ xs (k:Int))(h2:¬at_ xs (k:Int)<at_ ys (k:Int)):cmpL (xs.drop k) (ys.drop k)=cmpL (xs.drop (k+1)) (ys.drop (k+1)):=by
 rw [Da xs k hx,Da ys k hy]
 simp only [cmpL]
 rw [if_neg h1,if_neg h2]
theorem cmpL_drop1(xs ys:List Int)(k:Nat)(hx:k<xs.length)(h:ys.length≤k∨(k<ys.length∧at_ ys (k:Int)<at_ xs (k:Int))):cmpL (xs.drop k) (ys.drop k)=1:=by
 rw [Da xs k hx]
 rcases h with h|⟨hy,h⟩
 ·rw [List.drop_eq_nil_of_le h];rfl
 ·rw [Da ys k hy];simp only [cmpL];rw [if_pos h]
theorem cmpL_dropn(xs ys:List Int)(k:Nat)(hx:k<xs.length)(hy:k<ys.length)(h1:¬at_ ys (k:Int)<at_ xs (k:Int))(h:at_ xs (k:Int)<at_ ys (k:Int)):cmpL (xs.drop k) (ys.drop k) = -1:=by
 rw [Da xs k hx,Da ys k hy];simp only [cmpL];rw [if_neg h1,if_pos h]
theorem cmpL_end(xs ys:List Int)(k:Nat)(hx:xs.length≤k):cmpL (xs.drop k) (ys.drop k)=if k<ys.length then -1 else 0:=by
 rw [List.drop_eq_nil_of_le hx]
 split
 ·rename_i h;rw [Da ys k h];rfl
 ·rename_i h;rw [List.drop_eq_nil_of_le om];rfl
theorem Cmp_ok{κ:Ctx}{I:List Item}{u v:Value}{xs ys:List Int}(hu:Sl κ I u xs)(hv:Sl κ I v ys) :
    CallS Tryz.prog κ 61 [u,v] I (fun r J=>r=I64 (cmpL xs ys)∧I=J):=by
 refine B4 hu.le fun hmax=>?_
 refine B4 hv.le fun hmax2=>?_
 refine Ce2 Tryz.func61 rfl rfl ?_
 refine Ai (Ga rfl (Af (Au (Ai (Gm rfl (Gr (Bx (α:=Int) (xs:=xs) Ac rfl (Bj hu)) (Gm rfl (Af (A4 (Bv (σ:=Nat) (fun s=>([(0,u),(1,v),(7,I64 (((xs.length:Nat):Int))),(8,I64 (((s:Nat):Int)))]:Env)) (fun s=>I) (fun s=>(s≤xs.length)∧(cmpL xs ys=cmpL (xs.drop s) (ys.drop s))) (fun s=>xs.length - s) (0) (show ((0:Nat)≤xs.length)∧(cmpL xs ys=cmpL (xs.drop (0:Nat)) (ys.drop (0:Nat))) from ⟨om,rfl⟩) (Aa rfl (Aa rfl (Aa rfl (Aa B8 Bg)))) (show Fit κ _ (I) from A5) ?_))))))))))
 rintro k hp
 obtain ⟨hk,hc⟩:=hp
 refine Ai (Gr (A9 rfl rfl) (Af (Au (A7 rfl (fun c9=>?_) (fun c9=>?_)))))
 ·refine Aw (Aj (Au (A4 (Ai (Gm rfl (Ga rfl (Af (A4 (Au (Bk mixed (Bo (I) 16 (Dr 0 rfl (Ad rfl) (Dr 1 rfl (Ad rfl) (Dr 2 rfl (Bx (α:=Int) (xs:=ys) Ac rfl (Bj hv)) (Dr 3 rfl (B6 rfl rfl) (Dr 4 rfl (Ad rfl) (C7 (d:=16) rfl (fun g16=>?_) (fun g16=>?_))))))))))))))))))
  ·exact Dpo 5 rfl (Dpo 6 rfl (Dpo 7 rfl (Dpo 8 rfl (Dpo 9 rfl (Dpo 10 rfl (Dpo 11 rfl (Dpo 12 rfl (Dpo 13 rfl (Dr 14 rfl (Ao rfl rfl) (Dr 15 rfl (Ba rfl) (Dz (Aj (Ar (S6 11 5 0 1 7 8 rfl rfl rfl rfl rfl rfl) (Ca rfl (Ai (Ga rfl (Af (Ax (Av (Av (Ah (Ah (Av (Ah (Ay rfl rfl (_) A0 ⟨by rw [hc,cmpL_drop1 xs ys k om (.inl om)],rfl⟩)))))))))))))))))))))))))
  ·refine Dro 5 rfl (Ad rfl) (Dro 6 rfl (Ad rfl) (Dro 7 rfl (A3 (α:=Int) (xs:=xs) Ac ty3 rfl rfl (Bj hu) om om) (Dro 8 rfl (Br (xs:=xs) ty3 rfl (Bj hu) om om) (Dro 9 rfl (Ad rfl) (Dro 10 rfl (Ad rfl) (Dro 11 rfl (A3 (α:=Int) (xs:=ys) Ac ty3 rfl rfl (Bj hv) om om) (Dro 12 rfl (Br (xs:=ys) ty3 rfl (Bj hv) om om) (Dro 13 rfl (Bz rfl rfl) (Dr 14 rfl (Al rfl rfl) (Dr 15 rfl (Ba rfl) (Dz (Aj (Ar (S6 11 5 0 1 7 8 rfl rfl rfl rfl rfl rfl) (A7 rfl (fun c11=>?_) (fun c11=>?_)))))))))))))))
   ·exact Ai (Ga rfl (Af (Ax (Av (Av (Ah (Ah (Av (Ah (Ay rfl rfl (_) A0 ⟨by rw [hc,cmpL_drop1 xs ys k om (.inr ⟨by omega,by omega⟩)],rfl⟩))))))))))
   ·refine Au (Bk mixed (Bo (I) 10 (Dr 0 rfl (Ad rfl) (Dr 1 rfl (Ad rfl) (Dr 2 rfl (A3 (α:=Int) (xs:=xs) Ac ty3 rfl rfl (Bj hu) om om) (Dr 3 rfl (Br (xs:=xs) ty3 rfl (Bj hu) om om) (Dr 4 rfl (Ad rfl) (Dr 5 rfl (Ad rfl) (Dr 6 rfl (A3 (α:=Int) (xs:=ys) Ac ty3 rfl rfl (Bj hv) om om) (Dr 7 rfl (Br (xs:=ys) ty3 rfl (Bj hv) om om) (Dr 8 rfl (A9 rfl rfl) (Dr 9 rfl (Ba rfl) (Dz (Aj (Ar (S5 27 0 1 7 8 rfl rfl rfl rfl rfl) (A7 rfl (fun c27=>?_) (fun c27=>?_)))))))))))))))))
    ·exact Ai (Ga rfl (Af (Ax (Av (Av (Ah (Ah (Av (Ah (Ay rfl rfl (_) A0 ⟨by rw [hc,cmpL_dropn xs ys k om om om om],rfl⟩))))))))))
    ·exact Aw (Ak (Ak (Aj (Az (Gr (Rad rfl rfl) (Gm rfl (Bc (B3 ((k+1)) ⟨om,(hc.trans (cmpL_drop xs ys k om om om om))⟩))))))))
 ·refine Bs (Am (Am (A6 (Aj (Au (Ai (Gm rfl (Gr (Bx (α:=Int) (xs:=xs) Ac rfl (Bj hu)) (Gm rfl (Gr (Bx (α:=Int) (xs:=ys) Ac rfl (Bj hv)) (Gr (A9 rfl rfl) (Af (A7 rfl (fun c42=>?_) (fun c42=>?_))))))))))))))
  ·exact Ai (Ga rfl (Af (Ax (Ah (Ay rfl rfl (_) A0 ⟨by rw [hc,cmpL_end xs ys k om,if_pos om],rfl⟩)))))
  ·exact Aw (Aj (Ai (Ga rfl (Af (Ax (Ay rfl rfl (_) A0 ⟨by rw [hc,cmpL_end xs ys k om,if_neg om],rfl⟩))))))
variable {κ:Ctx}{I:List Item}
def putL:List Int→Int→List Int
 |[],x=>[x]
 |y::ys,x=>if y<x then y::putL ys x else if y=x then y::ys else x::y::ys
def ofL(l:List Int):List Int:=l.foldl putL []
theorem putL_at:∀(xs:List Int) (i:Nat) (x:Int),i≤xs.length→(∀j,j<i→at_ xs (j:Int)<x)→
  (i<xs.length→at_ xs (i:Int)=x→putL xs x=xs)∧((i=xs.length∨(i<xs.length∧x<at_ xs (i:Int)))→putL xs x=(xs.take i++[x])++xs.drop i)
 |[],i,x,hi,h=>by
  obtain rfl:i=0:=by simpa using hi
  exact ⟨fun h=>by simp at h,fun _=>rfl⟩
 |y::ys,0,x,hi,h=>by
  refine ⟨fun _ e=>?_,fun e=>?_⟩
  ·have e':y=x:=e
   simp only [putL];rw [if_neg om,if_pos e']
  ·rcases e with e|⟨_,e⟩
   ·simp at e
   ·have e':x<y:=e
    simp only [putL];rw [if_neg om,if_neg om];rfl
 |y::ys,i+1,x,hi,h=>by
  have h0:y<x:=h 0 om
  have ha:∀j:Nat,at_ (y::ys) ((j+1:Nat):Int)=at_ ys (j:Int):=fun j=>by rw [at_nat,at_nat];simp
  obtain ⟨h1,h2⟩:=putL_at ys i x (by simpa using hi) fun j hj=>by have:=h (j+1) om;rwa [ha] at this
  refine ⟨fun hl e=>?_,fun e=>?_⟩
  ·simp only [putL];rw [if_pos h0,h1 (by simpa using hl) (by rwa [ha] at e)]
  ·simp only [putL];rw [if_pos h0,h2 (by rw [ha] at e;simpa using e)];rfl
theorem ofL_take(xs:List Int)(k:Nat)(h:k<xs.length):ofL (xs.take (k+1))=putL (ofL (xs.take k)) (at_ xs (k:Int)):=by
 rw [Cz xs k h];simp [ofL]
theorem mem_putL(x y:Int):∀l,y∈putL l x↔y=x∨y∈l
 |[]=>by simp [putL]
 |z::zs=>by
  simp only [putL]
  split
  ·simp only [List.mem_cons,mem_putL x y zs]
   constructor
   ·rintro (h|h|h)<;>simp [h]
   ·rintro (h|h|h)<;>simp [h]
  ·split
   ·rename_i e;subst e;simp
   ·simp
theorem mem_foldl_putL(y:Int):∀(l acc:List Int),y∈l.foldl putL acc↔y∈l∨y∈acc
 |[],acc=>by simp
 |x::l,acc=>by
  rw [List.foldl_cons,mem_foldl_putL y l,mem_putL]
  simp only [List.mem_cons]
  constructor
  ·rintro (h|h|h)<;>simp [h]
  ·rintro ((h|h)|h)<;>simp [h]
theorem mem_ofL(l:List Int)(y:Int):y∈ofL l↔y∈l:=by simp [ofL,mem_foldl_putL]
theorem putL_len(x:Int):∀l,(putL l x).length≤l.length+1
 |[]=>by simp [putL]
 |y::ys=>by
  simp only [putL]
  split
  ·have:=putL_len x ys;simp;omega
  ·split<;>simp
theorem ofL_len(l:List Int):(ofL l).length≤l.length:=by
 have h:∀(l acc:List Int),(l.foldl putL acc).length≤l.length+acc.length:=fun l=>by
  induction l with
  |nil=>intro acc;simp
  |cons x l ih=>intro acc;have:=ih (putL acc x);have:=putL_len x acc;simp;omega
 have:=h l []
 simpa [ofL] using this
theorem Put_ok{a:Option Addr}{c:Nat}{xs:List Int}(hb:xs.length<17592186044415)(x:Int) :
    CallS Tryz.prog κ 153 [.slice a xs.length c,I64 (x)] (vc 3 (.slice a xs.length c) (xs)::I) (fun r J=>∃a' c',r = .slice a' (putL xs x).length c'∧J=vc 3 (.slice a' (putL xs x).length c') (putL xs x)::I):=by
 refine B4 (fun w hs=>(E5 (κ:=κ) (List.mem_cons_self)).le w hs) fun hmax=>?_
 refine Ce2 Tryz.func153 rfl rfl ?_
 refine Ai (Ga rfl (Af (Ai (Ga rfl (Af (Eq (σ:=Nat) (fun s=>([(0,.slice a xs.length c),(1,I64 (x)),(5,I64 (((s:Nat):Int)))]:Env)) (fun s=>vc 3 (.slice a xs.length c) (xs)::I) (fun s=>(s≤xs.length)∧(∀j,j<s→at_ xs (j:Int)<x)∧(s=xs.length∨(s<xs.length∧¬at_ xs (s:Int)<x))) ?_ ?_))))))
 ·refine A4 (Bv (σ:=Nat) (fun s=>([(0,.slice a xs.length c),(1,I64 (x)),(5,I64 (((s:Nat):Int)))]:Env)) (fun s=>vc 3 (.slice a xs.length c) (xs)::I) (fun s=>(s≤xs.length)∧(∀j,j<s→at_ xs (j:Int)<x)) (fun s=>xs.length - s) (0) (show ((0:Nat)≤xs.length)∧(∀j,j<(0:Nat)→at_ xs (j:Int)<x) from ⟨om,all_zero⟩) (Aa rfl (Aa rfl (Aa B8 Bg))) (show Fit κ _ (vc 3 (.slice a xs.length c) (xs)::I) from A5) ?_)
  rintro i hp
  obtain ⟨hi,hlt⟩:=hp
  refine Au (Ai (Gm rfl (Gm rfl (Gr (Bp Ac rfl) (Gr (A9 rfl rfl) (Gm rfl (Bb (d:=11) rfl (fun g11=>?_) (fun g11=>?_))))))))
  ·refine Gro (Ad rfl) (Gro (Ad rfl) (Gro (A3 (α:=Int) (xs:=xs) Ac ty3 rfl rfl Bf om om) (Gro (Br (xs:=xs) ty3 rfl Bf om om) (Gro (Ad rfl) (Gro (A9 rfl rfl) (Gr (Ao rfl rfl) (Af (Ar (S4 18 0 1 5 rfl rfl rfl rfl) (A7 rfl (fun c18=>?_) (fun c18=>?_))))))))))
   ·exact Aw (Aj (A4 (Az (Gm rfl (Gr (Rad rfl rfl) (Ga rfl (Bc (Ak (B3 ((i+1)) ⟨om,(Di hlt om)⟩)))))))))
   ·exact Bs (Am (Am (A6 (Dh ((i)) ⟨om,hlt,om⟩))))
  ·exact Gpo (Gpo (Gpo (Gpo (Gpo (Gpo (Gr (Al rfl rfl) (Af (Ar (S4 18 0 1 5 rfl rfl rfl rfl) (C9 rfl (Bs (Am (Am (A6 (Dh ((i)) ⟨om,hlt,om⟩))))))))))))))
 ·rintro i hp
  obtain ⟨hi,hlt,hst⟩:(i≤xs.length)∧(∀j,j<i→at_ xs (j:Int)<x)∧(i=xs.length∨(i<xs.length∧¬at_ xs (i:Int)<x)):=hp
  show W Tryz.prog κ 46 _ _ ([(0,.slice a xs.length c),(1,I64 (x)),(5,I64 ((i:Int)))]:Env) (vc 3 (.slice a xs.length c) (xs)::I)
  refine Au (Ai (Gm rfl (Gm rfl (Gr (Bp Ac rfl) (Gr (A9 rfl rfl) (Gm rfl (Bb (d:=25) rfl (fun g25=>?_) (fun g25=>?_))))))))
  ·refine Gro (Ad rfl) (Gro (Ad rfl) (Gro (A3 (α:=Int) (xs:=xs) Ac ty3 rfl rfl Bf om om) (Gro (Br (xs:=xs) ty3 rfl Bf om om) (Gro (Ad rfl) (Gro (Bi rfl rfl) (Gr (Ao rfl rfl) (Af (Ar (S4 32 0 1 5 rfl rfl rfl rfl) (A7 rfl (fun c32=>?_) (fun c32=>?_))))))))))
   ·refine Ai (Gm rfl (Ga rfl (Af (Ax (Ah ?_)))))
    have hp:=(putL_at xs i x hi hlt).1 om om
    exact Ay rfl rfl (_) A0 ⟨a,c,by rw [hp],by rw [hp]⟩
   ·refine Aw (Aj (Ai (Gm rfl (Gm rfl (Gr (Runs.hi (α:=Int) (xs:=xs) (h:=i) Ac ty3 rfl rfl om Bf om) (Ge2 (Eff.clone (α:=Int) (ys:=List.take i xs) Ac ty3 rfl rfl rfl (Sl.take Bf om) (by simp only [List.length_append,List.length_cons,List.length_nil,List.length_take,List.length_drop];omega) dc rfl) fun ad1 cp2=>?_))))))
    refine Ga rfl (Af (Au (Bk mixed (Bo (vc 3 (.slice a xs.length c) (xs)::I) 9 (Dr 0 rfl (Ad rfl) (Dr 1 rfl (Ad rfl) (Dr 4 rfl (Ad rfl) (Dr 5 rfl (Ad rfl) (Dr 6 rfl (Ec (α:=Int) (xs:=xs) (l:=i) Ac ty3 rfl rfl om Bf om) (Ds1 2 (Se1 rfl (B1 (α:=Int) (cs:=[_]) (xs:=[x]) Ac ty3 rfl rfl dc dc rfl rfl rfl rfl) fun ad3=>?_)))))))))))
    refine Ds1 3 (Se2 rfl (B0 (α:=Int) (e:=3) (xs:=List.take i xs) (ys:=([x]:List Int)) Ac ty3 rfl rfl rfl mm Bf (by simp only [List.length_append,List.length_cons,List.length_nil,List.length_take,List.length_drop];omega) dc rfl (fun _ _=>am)) fun ad4 cp5=>?_)
    refine Ds1 7 (Se2 rfl (B0 (α:=Int) (e:=3) (xs:=(List.take i xs)++([x]:List Int)) (ys:=List.drop i xs) Ac ty3 rfl rfl rfl mm (Do Bf om) (by simp only [List.length_append,List.length_cons,List.length_nil,List.length_take,List.length_drop];omega) dc rfl (fun _ _=>am)) fun ad6 cp7=>?_)
    refine Dr 8 rfl (Ba rfl) (Dz (Aj (Ar (S1 4 rfl) (Ax ?_))))
    have hp:=(putL_at xs i x hi hlt).2 om
    exact Ay rfl rfl (vc 3 (.slice ad6 (putL xs x).length cp7) (putL xs x)::I) (by rw [hp];exact A5) ⟨ad6,cp7,by rw [hp],rfl⟩
  ·refine Gpo (Gpo (Gpo (Gpo (Gpo (Gpo (Gr (Al rfl rfl) (Af (Ar (S4 32 0 1 5 rfl rfl rfl rfl) (C9 rfl (Aw (Aj (Ai (Gm rfl (Gm rfl (Gr (Runs.hi (α:=Int) (xs:=xs) (h:=i) Ac ty3 rfl rfl om Bf om) (Ge2 (Eff.clone (α:=Int) (ys:=List.take i xs) Ac ty3 rfl rfl rfl (Sl.take Bf om) (by simp only [List.length_append,List.length_cons,List.length_nil,List.length_take,List.length_drop];omega) dc rfl) fun ad8 cp9=>?_))))))))))))))))
   refine Ga rfl (Af (Au (Bk mixed (Bo (vc 3 (.slice a xs.length c) (xs)::I) 9 (Dr 0 rfl (Ad rfl) (Dr 1 rfl (Ad rfl) (Dr 4 rfl (Ad rfl) (Dr 5 rfl (Ad rfl) (Dr 6 rfl (Ec (α:=Int) (xs:=xs) (l:=i) Ac ty3 rfl rfl om Bf om) (Ds1 2 (Se1 rfl (B1 (α:=Int) (cs:=[_]) (xs:=[x]) Ac ty3 rfl rfl dc dc rfl rfl rfl rfl) fun ad10=>?_)))))))))))
   refine Ds1 3 (Se2 rfl (B0 (α:=Int) (e:=3) (xs:=List.take i xs) (ys:=([x]:List Int)) Ac ty3 rfl rfl rfl mm Bf (by simp only [List.length_append,List.length_cons,List.length_nil,List.length_take,List.length_drop];omega) dc rfl (fun _ _=>am)) fun ad11 cp12=>?_)
   refine Ds1 7 (Se2 rfl (B0 (α:=Int) (e:=3) (xs:=(List.take i xs)++([x]:List Int)) (ys:=List.drop i xs) Ac ty3 rfl rfl rfl mm (Do Bf om) (by simp only [List.length_append,List.length_cons,List.length_nil,List.length_take,List.length_drop];omega) dc rfl (fun _ _=>am)) fun ad13 cp14=>?_)
   refine Dr 8 rfl (Ba rfl) (Dz (Aj (Ar (S1 4 rfl) (Ax ?_))))
   have hp:=(putL_at xs i x hi hlt).2 om
   exact Ay rfl rfl (vc 3 (.slice ad13 (putL xs x).length cp14) (putL xs x)::I) (by rw [hp];exact A5) ⟨ad13,cp14,by rw [hp],rfl⟩
theorem Put_at{F:Item→List Item}{a:Option Addr}{c:Nat}{xs:List Int}(hat:AtF I (vc 3 (.slice a xs.length c) xs) F)(hb:xs.length<17592186044415)(x:Int) :
  CallS Tryz.prog κ 153 [.slice a xs.length c,I64 x] I fun r J=>∃a' c',r = .slice a' (putL xs x).length c'∧J=F (vc 3 (.slice a' (putL xs x).length c') (putL xs x)):=
 (Eg (Z:=fun _=>[]) (X:=fun y:Option Addr×Nat=>vc 3 (.slice y.1 (putL xs x).length y.2) (putL xs x)) (Post:=fun r y=>r = .slice y.1 (putL xs x).length y.2) hat fun J _ _=>(Put_ok (a:=a) (c:=c) hb x).mono fun r J' ⟨a',c',h1,h2⟩=>⟨(a',c'),h1,h2⟩).mono fun _ _ ⟨y,h1,h2⟩=>⟨y.1,y.2,h1,h2⟩
theorem Of_ok{v:Value}{xs:List Int}(hl:Sl κ I v xs)(hb:xs.length<17592186044415) :
    CallS Tryz.prog κ 82 [v] I (fun r J=>∃a c,r = .slice a (ofL xs).length c∧J=vc 3 (.slice a (ofL xs).length c) (ofL xs)::I):=by
 refine B4 hl.le fun hmax=>?_
 refine Ce1 Tryz.func82 rfl rfl ?_
 refine Ai (Ga rfl (Af (Ai (Ga rfl (Af (Au (Ai (Gm rfl (Gr (Bx (α:=Int) (xs:=xs) Ac rfl (Bj hl)) (Gm rfl (Af (A4 (Bv (σ:=Nat×(Option Addr)×Nat×(List Int)) (fun s=>([(3,.slice s.2.1 s.2.2.2.length s.2.2.1),(6,v),(7,I64 (((xs.length:Nat):Int))),(8,I64 (((s.1:Nat):Int)))]:Env)) (fun s=>vc 3 (.slice s.2.1 s.2.2.2.length s.2.2.1) (s.2.2.2)::I) (fun s=>(s.1≤xs.length)∧(s.2.2.2=ofL (xs.take s.1))) (fun s=>xs.length - s.1) (0,none,0,[]) (show ((0:Nat)≤xs.length)∧(([]:List Int)=ofL (xs.take (0:Nat))) from ⟨om,rfl⟩) (Aa (Cp rfl (by first|rfl|simp)) (Aa rfl (Aa rfl (Aa B8 Bg)))) (show Fit κ _ (vc 3 (.slice (none) ([]).length (0)) (([]))::I) from (Bw _ _)) ?_)))))))))))))
 rintro ⟨k,a,c,out⟩ hp
 dsimp only at hp ⊢
 obtain ⟨hk,ho⟩:=hp
 refine Ai (Gr (A9 rfl rfl) (Af (Au (A7 rfl (fun c9=>?_) (fun c9=>?_)))))
 ·refine Aw (Aj (Au (A4 (Ai (Gr (A3 (α:=Int) (xs:=xs) Ac ty3 rfl rfl (Bj hl) om om) (Gr (Br (xs:=xs) ty3 rfl (Bj hl) om om) (Ga rfl (Af (Az (Gm rfl (Gm rfl (Gc2 (Ap call153 rfl rfl (Put_at (by repeat (first|exact AtF.head _ _|apply AtF.tail)) (by rw [ho];have:=ofL_len (xs.take k);simp only [List.length_take] at this;omega) (at_ xs (k:Int)))) fun ad1 cp2=>?_))))))))))))
  show G Tryz.prog κ _ _ _ _ ([(14,.slice ad1 (putL out (at_ xs (k:Int))).length cp2),(13,I64 (at_ xs (k:Int))),(12,.slice a out.length c),(5,I64 (at_ xs (k:Int))),(11,I64 (at_ xs (k:Int))),(10,elemPtr (v) (((k:Int)).toNat*Enc.sz Int)),(9,.bool (decide ((k:Int)<((xs.length:Nat):Int)))),(3,.slice a out.length c),(6,v),(7,I64 (((xs.length:Nat):Int))),(8,I64 ((k:Int)))]:Env) (vc 3 (.slice ad1 (putL out (at_ xs (k:Int))).length cp2) (putL out (at_ xs (k:Int)))::I)
  exact Ga rfl (Bc (Ak (Aj (Az (Gr (Rad rfl rfl) (Gm rfl (Bc (B3 ((k+1),(ad1),(cp2),(putL out (at_ xs (k:Int)))) (by dsimp only;exact ⟨om,(by rw [ofL_take xs k om,←ho])⟩)))))))))
 ·refine Bs (Am (Am (A6 (Aj (Ai (Gm rfl (Ga rfl (Af (Ax ?_)))))))))
  have hk2:xs.take k=xs:=List.take_of_length_le om
  rw [hk2] at ho
  subst ho
  exact Ay rfl rfl (_) A0 ⟨a,c,rfl,rfl⟩
theorem Union_ok{u v:Value}{xs ys:List Int}(hu:Sl κ I u xs)(hv:Sl κ I v ys)(hb:xs.length+ys.length<17592186044415) :
    CallS Tryz.prog κ 27 [u,v] I (fun r J=>∃a c,r = .slice a (ofL (xs++ys)).length c∧J=vc 3 (.slice a (ofL (xs++ys)).length c) (ofL (xs++ys))::I):=by
 refine Ce2 Tryz.func27 rfl rfl ?_
 refine Ai (Ga rfl (Af (Ai (Gm rfl (Ge2 (Eff.clone (α:=Int) (ys:=xs) Ac ty3 rfl rfl rfl (Bj hu) om dc rfl) fun ad1 cp2=>?_)))))
 refine Gm rfl (Ge2 (B0 (α:=Int) (e:=3) (xs:=xs) (ys:=ys) Ac ty3 rfl rfl rfl mm (Bj hv) om dc rfl (fun _ _=>am)) fun ad3 cp4=>?_)
 refine Gc2 (Ap call82 rfl rfl (Of_ok Bf (by simp only [List.length_append];omega))) fun ad5 cp6=>?_
 exact Ga rfl (Af (Ax (Ay rfl rfl (vc 3 (.slice ad5 (ofL (xs++ys)).length cp6) (ofL (xs++ys))::I) A5 ⟨ad5,cp6,rfl,rfl⟩)))
def minusL(xs ys:List Int):List Int:=(ofL xs).filter fun x=>decide (x∉ys)
theorem filter_take(xs:List Int)(p:Int→Bool)(k:Nat)(h:k<xs.length):(xs.take (k+1)).filter p=(xs.take k).filter p++if p (at_ xs (k:Int)) then [at_ xs (k:Int)] else []:=by
 rw [Cz xs k h,List.filter_append]
 congr 1
 by_cases hp:p (at_ xs (k:Int))<;>simp [List.filter_cons,hp]
theorem filter_take_yes(xs:List Int)(p:Int→Bool)(k:Nat)(h:k<xs.length)(hp:p (at_ xs (k:Int))=true):(xs.take (k+1)).filter p=(xs.take k).filter p++[at_ xs (k:Int)]:=by
 rw [filter_take xs p k h,if_pos hp]
theorem filter_take_no(xs:List Int)(p:Int→Bool)(k:Nat)(h:k<xs.length)(hp:p (at_ xs (k:Int))=false):(xs.take (k+1)).filter p=(xs.take k).filter p:=by
 rw [filter_take xs p k h,hp];simp
theorem filter_take_len(xs:List Int)(p:Int→Bool)(k:Nat):((xs.take k).filter p).length≤xs.length:=by
 have h1:=List.length_filter_le p (xs.take k)
 have h2:=List.length_take_le' k xs
 omega
theorem Minus_ok{u v:Value}{xs ys:List Int}(hu:Sl κ I u xs)(hv:Sl κ I v ys)(hb:xs.length<17592186044415) :
    CallS Tryz.prog κ 206 [u,v] I (fun r J=>∃a c,r = .slice a (minusL xs ys).length c∧J=vc 3 (.slice a (minusL xs ys).length c) (minusL xs ys)::I):=by
 have hol:=ofL_len xs
 refine Ce2 Tryz.func206 rfl rfl ?_
 refine Ai (Ga rfl (Af (Ai (Ga rfl (Af (Au (Ai (Gm rfl (Gc2 (Ap call82 rfl rfl (Of_ok (Bj hu) om)) fun ad1 cp2=>?_)))))))))
 refine Gr (Bp Ac rfl) (Gm rfl (Af (A4 (Bv (σ:=Nat×(Option Addr)×Nat×(List Int)) (fun s=>([(1,v),(5,.slice s.2.1 s.2.2.2.length s.2.2.1),(9,.slice ad1 (ofL xs).length cp2),(10,I64 ((((ofL xs).length:Nat):Int))),(11,I64 (((s.1:Nat):Int)))]:Env)) (fun s=>vc 3 (.slice s.2.1 s.2.2.2.length s.2.2.1) (s.2.2.2)::vc 3 (.slice ad1 (ofL xs).length cp2) (ofL xs)::I) (fun s=>(s.1≤(ofL xs).length)∧(s.2.2.2=((ofL xs).take s.1).filter (fun x=>decide (x∉ys)))) (fun s=>(ofL xs).length - s.1) (0,none,0,[]) (show ((0:Nat)≤(ofL xs).length)∧(([]:List Int)=((ofL xs).take (0:Nat)).filter (fun x=>decide (x∉ys))) from ⟨om,rfl⟩) (Aa rfl (Aa (Cp rfl (by first|rfl|simp)) (Aa rfl (Aa rfl (Aa B8 Bg))))) (show Fit κ _ (vc 3 (.slice (none) ([]).length (0)) (([]))::vc 3 (.slice ad1 (ofL xs).length cp2) (ofL xs)::I) from (Bw _ _)) ?_))))
 rintro ⟨k,a,c,out⟩ hp
 dsimp only at hp ⊢
 obtain ⟨hk,ho⟩:=hp
 refine Ai (Gr (A9 rfl rfl) (Af (Au (A7 rfl (fun c12=>?_) (fun c12=>?_)))))
 ·refine Aw (Aj (Au (A4 (Ai (Gr (A3 (α:=Int) (xs:=ofL xs) Ac ty3 rfl rfl Bf om om) (Gr (Br (xs:=ofL xs) ty3 rfl Bf om om) (Ga rfl (Af (Ai (Gm rfl (Gm rfl (Gc0 (Ap call72 rfl rfl (RHas_ok (Bj hv) (at_ (ofL xs) (k:Int)))) ?_))))))))))))
  refine Gr (Cw rfl) (Af (A7 rfl (fun c18=>?_) (fun c18=>?_)))
  ·refine Az (Gm rfl (Gm rfl (Ge1 (B1 (α:=Int) (cs:=[_]) (xs:=[at_ (ofL xs) (k:Int)]) Ac ty3 rfl rfl dc dc rfl rfl rfl rfl) fun ad3=>?_)))
   refine Ge2 (B0 (α:=Int) (e:=3) (xs:=out) (ys:=([at_ (ofL xs) (k:Int)]:List Int)) Ac ty3 rfl rfl rfl mm Bf (by have:=ofL_len xs;simp only [List.length_cons,List.length_nil];rw [ho];have:=filter_take_len (ofL xs) (fun x=>decide (x∉ys)) k;omega) dc rfl (fun _ _=>am)) fun ad4 cp5=>?_
   exact Ga rfl (Bc (Ak (Aj (Ar (S5 5 1 9 10 11 rfl rfl rfl rfl rfl) (Az (Gr (Rad rfl rfl) (Gm rfl (Bc (B3 ((k+1),(ad4),(cp5),(out++([at_ (ofL xs) (k:Int)]:List Int))) (by dsimp only;exact ⟨om,(by first|rw [filter_take_yes _ _ k om (decide_eq_true c18),←ho]|rw [filter_take_no _ _ k om (decide_eq_false c18),←ho])⟩))))))))))
  ·exact Aw (Ak (Aj (Az (Gr (Rad rfl rfl) (Gm rfl (Bc (B3 ((k+1),(a),(c),(out)) (by dsimp only;exact ⟨om,(by first|rw [filter_take_yes _ _ k om (decide_eq_true c18),←ho]|rw [filter_take_no _ _ k om (decide_eq_false c18),←ho])⟩))))))))
 ·refine Bs (Am (Am (A6 (Aj (Ai (Gm rfl (Ga rfl (Af (Ax ?_)))))))))
  have hk2:(ofL xs).take k=ofL xs:=List.take_of_length_le om
  rw [hk2] at ho
  have ho2:out=minusL xs ys:=ho
  subst ho2
  exact Ay rfl rfl (vc 3 (.slice a (minusL xs ys).length c) (minusL xs ys)::I) A5 ⟨a,c,rfl,rfl⟩
theorem ValidP_nil(w:Int):ValidP [] w:=fun j hj=>absurd hj (Nat.not_lt_zero j)
theorem ValidP_mono{xs:List Int}{w w':Int}(h:ValidP xs w)(hw:w≤w'):ValidP xs w':=fun j hj=>⟨⟨(h j hj).1.1,by have:=(h j hj).1.2;omega⟩,(h j hj).2⟩
theorem ValidP_push{xs:List Int}{w:Int}(h:ValidP xs w)(h0:0≤w):ValidP (xs++[w]) (w+1):=fun j hj=>by
 by_cases hl:j<xs.length
 ·obtain ⟨⟨h1,h2⟩,h3⟩:=h j hl
  rw [D0 xs [w] j hl]
  refine ⟨⟨h1,by omega⟩,fun hp=>?_⟩
  have e:((j:Int) - 1)=((j - 1:Nat):Int):=by omega
  rw [e,D0 xs [w] (j - 1) om,←e]
  exact h3 hp
 ·obtain rfl:j=xs.length:=by simp at hj;omega
  rw [at_last]
  refine ⟨⟨h0,by omega⟩,fun hp=>?_⟩
  have e:((xs.length:Int) - 1)=((xs.length - 1:Nat):Int):=by omega
  rw [e,D0 xs [w] (xs.length - 1) om]
  exact (h _ om).1.2
theorem ValidP_mem{xs:List Int}{w x:Int}(h:ValidP xs w)(hx:x∈xs):0≤x∧x<w:=by
 obtain ⟨j,hj,he⟩:=Ei hx
 rw [←he];exact (h j hj).1
structure Arc where
 frm:Int
 dst:Int
 cap:Int
deriving Inhabited
instance:Enc Arc:=⟨fun a=>[I64 a.frm,I64 a.dst,I64 a.cap],3,by omega,fun _=>rfl,fun a u h=>by
 simp only [List.mem_cons,List.not_mem_nil,or_false] at h
 rcases h with rfl|rfl|rfl<;>rfl⟩
structure Net where
 nodes:Int
 source:Int
 sink:Int
 arcs:List Arc
structure Net.Ok (n:Net):Prop where
 lim:n.nodes≤4200∧n.arcs.length≤16384
 two:2≤n.nodes
 src:0≤n.source∧n.source<n.nodes
 snk:0≤n.sink∧n.sink<n.nodes
 ne:n.source≠n.sink
 arc:∀a∈n.arcs,(0≤a.frm∧a.frm<n.nodes)∧(0≤a.dst∧a.dst<n.nodes)∧a.frm≠a.dst∧0≤a.cap∧a.cap≤1099511627776
end Go.Sl
namespace Go.Sl
open Go.Proofs Go.Shelf Go.RowKit Go.Lib Go.Sort
section
variable {α:Type}[Enc α][Inhabited α]
theorem flat_cells(d:Array α):flatK Enc.enc (Enc.sz α) d=(cells d.toList).toArray:=by
 apply Array.ext
 ·simp [cells_length]
 ·intro t h1 h2
  have h1':t<d.size*Enc.sz α:=by simpa using h1
  have hpos:0<Enc.sz α:=Enc.pos
  have hi:t / Enc.sz α<d.size:=Nat.div_lt_of_lt_mul (by rw [Nat.mul_comm];exact h1')
  have hj:t % Enc.sz α<Enc.sz α:=Nat.mod_lt _ hpos
  have e1:t=t / Enc.sz α*Enc.sz α+t % Enc.sz α:=by rw [Nat.mul_comm];exact (Nat.div_add_mod t (Enc.sz α)).symm
  have e2:=cells_get d.toList (t / Enc.sz α) (t % Enc.sz α) (by simpa using hi) hj
  rw [←e1] at e2
  have e3:(cells d.toList)[t]? = some ((cells d.toList)[t]'(by simpa using h2)):=List.getElem?_eq_getElem _
  rw [e3] at e2
  have hlen:t % Enc.sz α<(Enc.enc (d.toList[t / Enc.sz α]'(by simpa using hi))).length:=by rw [Enc.len];exact hj
  rw [List.getElem?_eq_getElem hlen] at e2
  have e4:=Option.some.inj e2
  simp only [List.getElem_toArray]
  rw [e4]
  simp [flatK,getElem!_pos,hi,Enc.len,hj]
theorem sort_base{P:Program}{ρ:Ren}{κ:Ctx}{I:List Item}(L:SlLaysF0.n6 P ρ)(aE:∀w,(isAgg (ρ.t 24)).run P w = .ok true w)(zE:∀w,(Go.sizeOf (ρ.t 24)).run P w = .ok (Enc.sz α) w)(cf:α→α→Int)(hO:SWO (ltOf cf))(g:Nat)(cb:Array Value)
  (eg:∀args w,(callFunc g args).run P w = .ok (.enter g args) w) (hcmp:∀(x y:α) (W:World),Calls P g (#[.agg (Enc.enc x).toArray,.agg (Enc.enc y).toArray]++cb) W fun e w'=>e = .returned (.int .i64 (cf x y))∧∃q os',w'=grow (W.drewN q) os')
  {e:TypeId} {ad:Option Addr} {c:Nat} {xs:List α} (hc:0<c) (hsz:xs.length<4611686018427387904) :
  CallS P κ (ρ.f 6) [.slice ad xs.length c,.func (.func g) #[] cb] (vc e (.slice ad xs.length c) xs::I) fun r J=>∃ys:List α,(r = .tuple #[]∧ys.Perm xs∧ys.Pairwise fun a b=>ltOf cf b a=false)∧J=[]++vc e (.slice ad ys.length c) ys::I:=by
 intro w hs
 obtain ⟨hok,_⟩:=hs.ok _ List.mem_cons_self
 obtain ⟨a',cap',hv,hl,hnc,hcm,hcap⟩:=hok
 cases hv
 obtain ⟨b,off,cur,rfl,hb,hsize,hcur⟩:=hcap hc
 have hbw:b<w.heap.size:=(Array.getElem?_eq_some_iff.1 hb).1
 have hcl:=cells_length xs
 have hle:xs.length*Enc.sz α≤c*Enc.sz α:=Nat.mul_le_mul_right _ hnc
 have hH:HoldsK Enc.enc (Enc.sz α) w b off xs.toArray:=fun j hj=>by
  rw [flat_cells] at hj ⊢
  have hj':j<(cells xs).length:=by simpa using hj
  have h1:=hcur j ((cells xs)[j]) (List.getElem?_eq_getElem hj')
  refine ⟨?_,by simp [World.frozen?,hb]⟩
  rw [cell_of_row w b (off+j) cur e (0,0) hb,h1]
  simp [getElem!_pos,hj']
 have h:=AnyQ.slices_SortFunc L (Enc.sz α) aE zE Enc.enc Enc.len Enc.one cf hO g cb b off c xs.toArray w eg (fun m os dk _ x y=>hcmp x y _) hH hbw (by simpa using hsz)
 refine Calls.mono h ?_
 rintro e' w' ⟨rfl,d',n,os,⟨hs1,_,hperm⟩,hsort,rfl⟩
 have hs1':d'.size=xs.length:=by simpa using hs1
 have hperm':d'.toList.Perm xs:=by
  have e1:d'.extract 0 xs.toArray.size=d':=by rw [←hs1];simp
  have e2:xs.toArray.extract 0 xs.toArray.size=xs.toArray:=by simp
  rw [e1,e2] at hperm
  exact hperm
 have hlen:d'.toList.length=xs.length:=by simpa using hs1'
 refine ⟨_,_,rfl,⟨d'.toList,⟨rfl,hperm',?_⟩,rfl⟩,?_⟩
 ·rw [List.pairwise_iff_getElem]
  intro i j hi hj hij
  have:=hsort i j (Nat.zero_le _) hij (by simpa [hs1'] using hj)
  simp only [Array.length_toList] at hi hj
  rw [getElem!_pos d' i hi,getElem!_pos d' j hj] at this
  simpa using this
 ·show Sep κ _ (vc e (.slice (some ⟨b,off,none⟩) d'.toList.length c) d'.toList::I)
  refine hs.upd (At.head _ _ _) rfl ⟨rfl,by simp [sortWorldK,putRowK,Sort.grow]⟩ rfl (by simp [sortWorldK,putRowK]) (fun k hk hne=>?_) ?_ fun k hk=> .inl ?_
  ·have hkb:k≠b:=fun ekb=>hne (by subst ekb;exact ⟨off,xs.length,c,rfl,hc⟩)
   simp only [sortWorldK,Sort.grow,putRowK,putRow,mapBlock]
   rw [Array.getElem?_append_left (by simpa using hk),Array.getElem?_modify,if_neg (fun e=>hkb e.symm)]
   rfl
  ·refine ⟨_,c,rfl,cells_length _,by rw [hlen];exact hnc,hcm,fun _=>⟨b,off,putCells id off (flatK Enc.enc (Enc.sz α) d') cur,rfl,?_,?_,fun j u hj=>?_⟩⟩
   ·simp only [sortWorldK,Sort.grow,putRowK,putRow,mapBlock]
    rw [Array.getElem?_append_left (by simpa using hbw),Array.getElem?_modify,if_pos rfl]
    show (w.heap[b]?).map _=_
    rw [hb];rfl
   ·simpa [putCells] using hsize
   ·have hj':j<(cells d'.toList).length:=(List.getElem?_eq_some_iff.1 hj).1
    have hj2:j<xs.length*Enc.sz α:=by rw [cells_length,hlen] at hj';exact hj'
    have hoff:off+j<cur.size:=by omega
    rw [flat_cells]
    simp only [putCells,Array.getElem?_mapIdx,Array.getElem?_eq_getElem hoff,Option.map_some]
    rw [if_pos ⟨by omega,by simpa using hj'⟩,Nat.add_sub_cancel_left]
    rw [List.getElem?_eq_getElem hj'] at hj
    simpa [getElem!_pos,hj'] using hj
  ·obtain ⟨o',n',c',hv',hc'⟩:=hk
   cases hv'
   exact ⟨off,xs.length,c,rfl,hc⟩
theorem sort_any{P:Program}{ρ:Ren}{κ:Ctx}{I:List Item}(L:SlLaysF0.n6 P ρ)(aE:∀w,(isAgg (ρ.t 24)).run P w = .ok true w)(zE:∀w,(Go.sizeOf (ρ.t 24)).run P w = .ok (Enc.sz α) w)(cf:α→α→Int)(hO:SWO (ltOf cf))(g:Nat)(cb:Array Value)
  (eg:∀args w,(callFunc g args).run P w = .ok (.enter g args) w) (hcmp:∀(x y:α) (W:World),Calls P g (#[.agg (Enc.enc x).toArray,.agg (Enc.enc y).toArray]++cb) W fun e w'=>e = .returned (.int .i64 (cf x y))∧∃q os',w'=grow (W.drewN q) os')
  {e:TypeId} {ad:Option Addr} {c:Nat} {xs:List α} (hsz:xs.length<4611686018427387904) :
  CallS P κ (ρ.f 6) [.slice ad xs.length c,.func (.func g) #[] cb] (vc e (.slice ad xs.length c) xs::I) fun r J=>∃ys:List α,(r = .tuple #[]∧ys.Perm xs∧ys.Pairwise fun a b=>ltOf cf b a=false)∧J=[]++vc e (.slice ad ys.length c) ys::I:=by
 by_cases hc:0<c
 ·exact sort_base L aE zE cf hO g cb eg hcmp hc hsz
 ·intro w hs
  obtain ⟨hok,_⟩:=hs.ok _ List.mem_cons_self
  obtain ⟨a',cap',hv,hl,hnc,hcm,hcap⟩:=hok
  cases hv
  obtain rfl:xs=[]:=List.eq_nil_of_length_eq_zero (by omega)
  refine Calls.mono (AnyF.slices_SortFunc_none L ad c _ w) ?_
  rintro e' w' ⟨rfl,rfl⟩
  exact ⟨_,_,rfl,⟨[],⟨rfl,List.Perm.nil,List.Pairwise.nil⟩,rfl⟩,hs⟩
end
theorem lays_of{P:Program}{f:FuncId}{args:List Value}{v:Value}{W:World}(h:CallS P ⟨W.os,W.tape,W.output,W.drawn⟩ f args [old W.heap.size W] fun r J=>r=v∧[old W.heap.size W]=J) :
  Calls P f args.toArray W fun e w'=>e = .returned v∧∃q os',w'=Sort.grow (W.drewN q) os':=(h W (Sep.begin W)).mono fun e w' ⟨r,J,he,⟨hv,hJ⟩,hs⟩=>by
 subst hv hJ
 refine ⟨he,w'.drawn - W.drawn,w'.heap.extract W.heap.size w'.heap.size,?_⟩
 have hb:=hs.below List.mem_cons_self
 have hok:∀k,k<W.heap.size→w'.heap[k]? = W.heap[k]? :=(hs.ok _ List.mem_cons_self).1
 have hd:=hs.tape.2
 have hheap:w'.heap=W.heap++w'.heap.extract W.heap.size w'.heap.size:=by
  apply Array.ext_getElem?
  intro k
  by_cases hk:k<W.heap.size
  ·rw [Array.getElem?_append_left hk];exact hok k hk
  ·rw [Array.getElem?_append_right (by omega),Array.getElem?_extract]
   have hsz:=hb.size
   by_cases hk2:k<w'.heap.size
   ·rw [if_pos (by omega)];congr 1;omega
   ·rw [Array.getElem?_eq_none (by omega)]
    split
    ·omega
    ·rfl
 have e:W.drawn+(w'.drawn - W.drawn)=w'.drawn:=by have:W.drawn≤w'.drawn:=hd;omega
 have hos:w'.os=W.os:=hs.os
 have htp:w'.tape=W.tape:=hs.tape.1
 have hou:w'.output=W.output:=hs.output
 obtain ⟨heap',tape',drawn',os',out'⟩:=w'
 simp only [Sort.grow,World.drewN] at *
 subst hos htp hou
 rw [e,←hheap]
end Go.Sl
namespace Go.Proofs
def Tryz.sort321_ren:Go.Shelf.Ren:=⟨fun |6=>321|15=>218|14=>337|28=>269|29=>270|20=>343|21=>344|22=>345|23=>346|24=>347|25=>348|26=>349|27=>350|46=>352|47=>305|48=>306|49=>353|50=>354|57=>355|n=>n,fun |22=>109|24=>146|25=>279|3=>3|39=>181|0=>0|53=>291|55=>175|4=>4|46=>285|45=>284|50=>273|5=>5|9=>9|66=>320|70=>324|76=>346|77=>259|n=>n,fun |n=>n⟩
theorem Tryz.sort321:Go.Proofs.SlLaysF0.n6 Tryz.prog Tryz.sort321_ren:={
 mixed:=by kernel_rfl,
 f6:=⟨Tryz.f321.name,by decide,Tryz.func321.trans (congrArg some (by kernel_rfl))⟩,
 f14:=⟨Tryz.f337.name,by decide,Tryz.func337.trans (congrArg some (by kernel_rfl))⟩,
 f15:=Tryz.func218.trans (congrArg some (by kernel_rfl)),
 f20:=⟨Tryz.f343.name,by decide,Tryz.func343.trans (congrArg some (by kernel_rfl))⟩,
 f21:=⟨Tryz.f344.name,by decide,Tryz.func344.trans (congrArg some (by kernel_rfl))⟩,
 f22:=⟨Tryz.f345.name,by decide,Tryz.func345.trans (congrArg some (by kernel_rfl))⟩,
 f23:=⟨Tryz.f346.name,by decide,Tryz.func346.trans (congrArg some (by kernel_rfl))⟩,
 f24:=⟨Tryz.f347.name,by decide,Tryz.func347.trans (congrArg some (by kernel_rfl))⟩,
 f25:=⟨Tryz.f348.name,by decide,Tryz.func348.trans (congrArg some (by kernel_rfl))⟩,
 f26:=⟨Tryz.f349.name,by decide,Tryz.func349.trans (congrArg some (by kernel_rfl))⟩,
 f27:=⟨Tryz.f350.name,by decide,Tryz.func350.trans (congrArg some (by kernel_rfl))⟩,
 f28:=Tryz.func269.trans (congrArg some (by kernel_rfl)),
 f29:=Tryz.func270.trans (congrArg some (by kernel_rfl)),
 f46:=⟨Tryz.f352.name,by decide,Tryz.func352.trans (congrArg some (by kernel_rfl))⟩,
 f47:=Tryz.func305.trans (congrArg some (by kernel_rfl)),
 f48:=Tryz.func306.trans (congrArg some (by kernel_rfl)),
 f49:=⟨Tryz.f353.name,by decide,Tryz.func353.trans (congrArg some (by kernel_rfl))⟩,
 f50:=⟨Tryz.f354.name,by decide,Tryz.func354.trans (congrArg some (by kernel_rfl))⟩,
 f57:=⟨Tryz.f355.name,by decide,Tryz.func355.trans (congrArg some (by kernel_rfl))⟩,
 t0:=Tryz.underlying0,
 a0:=Tryz.isAgg0,
 z0:=Tryz.sizeOf0,
 v0:=Tryz.zeroValue0,
 t3:=Tryz.underlying3,
 a3:=Tryz.isAgg3,
 z3:=Tryz.sizeOf3,
 v3:=Tryz.zeroValue3,
 t4:=Tryz.underlying4,
 a4:=Tryz.isAgg4,
 z4:=Tryz.sizeOf4,
 v4:=Tryz.zeroValue4,
 t5:=Tryz.underlying5,
 a5:=Tryz.isAgg5,
 z5:=Tryz.sizeOf5,
 v5:=Tryz.zeroValue5,
 t9:=Tryz.underlying9,
 a9:=Tryz.isAgg9,
 z9:=Tryz.sizeOf9,
 v9:=Tryz.zeroValue9,
 t22:=Tryz.underlying109,
 a22:=Tryz.isAgg109,
 z22:=Tryz.sizeOf109,
 v22:=Tryz.zeroValue109,
 t25:=Tryz.underlying279,
 a25:=Tryz.isAgg279,
 z25:=Tryz.sizeOf279,
 v25:=Tryz.zeroValue279,
 t39:=Tryz.underlying181,
 a39:=Tryz.isAgg181,
 z39:=Tryz.sizeOf181,
 v39:=Tryz.zeroValue181,
 t45:=Tryz.underlying284,
 a45:=Tryz.isAgg284,
 z45:=Tryz.sizeOf284,
 v45:=Tryz.zeroValue284,
 t46:=Tryz.underlying285,
 a46:=Tryz.isAgg285,
 z46:=Tryz.sizeOf285,
 v46:=Tryz.zeroValue285,
 t50:=Tryz.underlying273,
 a50:=Tryz.isAgg273,
 z50:=Tryz.sizeOf273,
 v50:=Tryz.zeroValue273,
 t53:=Tryz.underlying291,
 a53:=Tryz.isAgg291,
 z53:=Tryz.sizeOf291,
 v53:=Tryz.zeroValue291,
 t55:=Tryz.underlying175,
 a55:=Tryz.isAgg175,
 z55:=Tryz.sizeOf175,
 v55:=Tryz.zeroValue175,
 t66:=Tryz.underlying320,
 a66:=Tryz.isAgg320,
 z66:=Tryz.sizeOf320,
 v66:=Tryz.zeroValue320,
 t70:=Tryz.underlying324,
 a70:=Tryz.isAgg324,
 z70:=Tryz.sizeOf324,
 v70:=Tryz.zeroValue324,
 t76:=Tryz.underlying346,
 a76:=Tryz.isAgg346,
 z76:=Tryz.sizeOf346,
 v76:=Tryz.zeroValue346,
 t77:=Tryz.underlying259,
 a77:=Tryz.isAgg259,
 z77:=Tryz.sizeOf259,
 v77:=Tryz.zeroValue259}
end Go.Proofs
namespace Go.Sl
open Go.Proofs
set_option maxRecDepth 4000
theorem Order_ok{κ:Ctx}{I:List Item}(a c:Pt) :
    CallS Tryz.prog κ 154 [.agg #[I64 (a.u),I64 (a.v)],.agg #[I64 (c.u),I64 (c.v)]] I (fun r J=>r=I64 (Pt.cmp a c)∧I=J):=by
 refine Ce2 Tryz.func154 rfl rfl ?_
 refine Ai (Ge1 (Bd (cs:=[_,_]) rfl rfl rfl) fun b1=>Ge1 (Bd (cs:=[_,_]) rfl rfl rfl) fun b2=>Ga rfl (Af (Au (Bk mixed (Bo (blk b2 [I64 (c.u),I64 (c.v)] 135::blk b1 [I64 (a.u),I64 (a.v)] 135::I) 12 (Dr 0 rfl (Ab fld135_0 rfl) (Dr 1 rfl (As ty3) ?_)))))))
 refine Dr 2 rfl (Ab fld135_0 rfl) (Dr 3 rfl (As ty3) ?_)
 refine Dr 5 rfl (Ab fld135_1 rfl) (Dr 6 rfl (As ty3) ?_)
 refine Dr 7 rfl (Ab fld135_1 rfl) (Dr 8 rfl (As ty3) ?_)
 refine Ds1 4 (Sc0 rfl (Ap call225 rfl rfl (Compare_ok a.u c.u)) ?_)
 refine Ds1 9 (Sc0 rfl (Ap call225 rfl rfl (Compare_ok a.v c.v)) ?_)
 refine Ds1 10 (Se1 rfl (B1 (α:=Int) (cs:=[_,_]) (xs:=[cmpI a.u c.u,cmpI a.v c.v]) Ac ty3 rfl rfl dc dc rfl rfl rfl rfl) fun ad3=>?_)
 refine Ds1 11 (Sc0 rfl (Ap call224 rfl rfl (Or_ok Bf)) ?_)
 refine Dc kr ?_
 refine A.read (i:=12) kr rfl (Ch rfl) rfl rfl (Ba rfl) ?_
 refine De kr ?_
 exact Aj (Ar (S1 4 rfl) (Ax (Ay rfl rfl (I) A0 ⟨by rw [←orL_cmp],rfl⟩)))
end Go.Sl
