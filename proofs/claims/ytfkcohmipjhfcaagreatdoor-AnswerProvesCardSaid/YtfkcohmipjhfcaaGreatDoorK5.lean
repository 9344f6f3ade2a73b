/- A part of the proofs of statements of this seat: contracts of functions, and the plain laws that they lean on. No conditions. -/
import Derived.Test.YtfkcohmipjhfcaaGreatDoorK4
import Derived.Shelf.SlSortCmp.NoneTotal
import Derived.Shelf.SlSortCmp.WholeK
set_option linter.unusedVariables false
set_option linter.unusedSimpArgs false
set_option linter.unusedSectionVars false
open Go.Proofs.Tryz (prog)
namespace Go.Sl
open Go.Proofs
set_option maxRecDepth 4000
variable {κ:Ctx}{I:List Item}
abbrev deck(b:Nat)(lv:Value)(i:Int):Item:=e8 b [lv,e7 i] 125
theorem Mod_ok{n k:Int}(h1:1<=k)(h2:k<=1000000000000):eu prog κ 76 [e7 n,e7 k] I (λr J=>∃x:Int,r=e7 x/\(0<=x/\x<k)/\I=J):=by
 have q1:=Int.tmod_lt_of_pos n (b:=k) om
 have q2:=Int.lt_tmod_of_pos n (b:=k) om
 refine Ce2 Tryz.func76 C C ?_
 refine Ai (Ga C (Af (Ai (Gm C (Gm C (Gr (Runs.rem C C om) (Gm C (Gr (Rad C C) (Gm C (Gr (Runs.rem C C om) (Ga C (Af (A2 ?_)))))))))))))
 have t1:=Int.tmod_nonneg k (a:=Int.tmod n k+k) om
 have t2:=Int.tmod_lt_of_pos (Int.tmod n k+k) (b:=k) om
 exact A6 C C _ A3 ⟨_,rfl,⟨t1,t2⟩,rfl⟩
theorem Next_base{b:Nat}{lv:Value}{ls:List Int}{i:Int}(hl:Sl κ (deck b lv i::I) lv ls)(h0:0<=i){n:Int}(hn:n<=1000000000000):eu prog κ 19 [.pointer (some ⟨b,0,none⟩),e7 n] (e8 b [lv,e7 i] 125::I) (λr J=>∃y:Int×Int,(r=e7 y.1/\(0<=y.1/\(1<=n->y.1<n)/\(n<1->y.1=0))/\0<=y.2)/\J=[]++deck b lv y.2::I):=by
 refine B8 hl.le λhmax=>?_
 refine Ce2 Tryz.func19 C C ?_
 refine Ai (Ga C (Af (Ap (Ap (Bl mixed (Bt (e8 b [lv,e7 i] 125::I) 14 (Dr 0 C (Ad C) (Dr 1 C (A7 C C) (Dr 2 C (Ad C) (Cs (d:=8) C (λg8=>?_) (λg8=>?_)))))))))))
 ·exact Dpo 3 C (Dpo 4 C (Dpo 5 C (Dpo 6 C (Dpo 7 C (Dpo 8 C (Dpo 9 C (Dpo 10 C (Dpo 11 C (Dpo 12 C (Dr 13 C (Ar C C) (Dz (Aj (Aq (S3 19 0 1 C C C) (Cq C (Ai (Ga C (Af (A2 (Am (A6 C C _ A3 ⟨(0,i),⟨rfl,⟨Int.le_refl _,by intro _;show (0:Int)<n;omega,λ_=>rfl⟩,h0⟩,rfl⟩))))))))))))))))))))
 ·refine Dro 3 C (Ad C) (Dro 4 C (Bm C) (Dro 5 C (Ab fld125_1 C) (Dro 6 C (As ef) ?_)))
  refine Dro 7 C (Ad C) (Dro 8 C (Bm C) (Dro 9 C (Ab fld125_0 C) (Dro 10 C (As ty22) ?_)))
  refine Dro 11 C (B0 (α:=Int) (xs:=ls) Ac C (Ba hl)) (Dro 12 C (B9 C C) (Dr 13 C (Ao C C) (Dz (Aj (Aq (S3 19 0 1 C C C) (A8 C (λc19=>?_) (λc19=>?_)))))))
  ·exact Ai (Ga C (Af (A2 (Am (A6 C C _ A3 ⟨(0,i),⟨rfl,⟨Int.le_refl _,by intro _;show (0:Int)<n;omega,λ_=>rfl⟩,h0⟩,rfl⟩)))))
  ·refine Ay (Aj (Ap (Bl mixed (Bt (e8 b [lv,e7 i] 125::I) 11 (Dr 0 C (Ad C) (Dr 1 C (Bm C) (Dr 2 C (Ab fld125_0 C) (Dr 3 C (As ty22) ?_))))))))
   refine Dr 4 C (Ad C) (Dr 5 C (Bm C) (Dr 6 C (Ab fld125_1 C) (Dr 7 C (As ef) ?_)))
   refine Dr 8 C (Az (α:=Int) (xs:=ls) Ac ef C C (Ba hl) om om) (Dr 9 C (Bo (xs:=ls) ef C (Ba hl) om om) (Dr 10 C (Bb C) (Dz (Aj (Aq (S3 5 0 1 C C C) (Ai (Gm C (Gr (Bm C) (Gf fld125_1 C (Gl ef ?_))))))))))
   refine Gr (Rad C C) (Gr (Bm C) (Gf fld125_1 C (Ge0 (Eq ef) ?_)))
   refine Af (Ai (Gm C (Gm C (G.e (Ah call76 C C (Mod_ok om om)) ?_))))
   rintro _ _ ⟨_,_,⟨x1,rfl,hx1,rfl⟩,rfl,rfl⟩
   exact Ga C (Af (Aq (S1 4 C) (A2 (A6 C C _ A3 ⟨(x1,i+1),⟨rfl,⟨by omega,by omega,by omega⟩,by show 0<=i+1;omega⟩,rfl⟩))))
theorem Next_ok{F:Item->List Item}{b:Nat}{lv:Value}{ls:List Int}{i:Int}(hat:AtF I (deck b lv i) F)(hl:Sl κ I lv ls)(h0:0<=i){n:Int}(hn:n<=1000000000000):eu prog κ 19 [.pointer (some ⟨b,0,none⟩),e7 n] I λr J=>∃x i',r=e7 x/\(0<=x/\(1<=n->x<n)/\(n<1->x=0))/\0<=i'/\J=F (deck b lv i'):=
 (En (Z:=λ_=>[]) (X:=λy:Int×Int=>deck b lv y.2) hat λ_ hJ _=>Next_base (hl.fit hJ) h0 hn).mono λ_ _ ⟨y,⟨h1,h2,h3⟩,h4⟩=>⟨y.1,y.2,h1,h2,h3,h4⟩
theorem New_ok{a:Option Addr}{n c:Nat} :
    eu prog κ 18 [.slice a n c] I (λr J=>∃b,r = .pointer (some ⟨b,0,none⟩)/\J=deck b (.slice a n c) 0::I):=by
 refine Ce1 Tryz.func18 C C ?_
 exact Ai (Ga C (Af (Ai (Gm C (Gr (Bc (cells:=[_,_]) ty125 Tryz.underlying125 pl125 C C) (Ge1 (A9 (cs:=[_,_]) C C C) λb1=>Ga C (Af (A2 (A6 C C _ A3 ⟨b1,rfl,rfl⟩)))))))))
theorem RHas_ok{v:Value}{xs:List Int}(hl:Sl κ I v xs)(x:Int):eu prog κ 72 [v,e7 x] I (λr J=>r = .bool (decide (x∈xs))/\I=J):=by
 refine B8 hl.le λhmax=>?_
 refine Ce2 Tryz.func72 C C ?_
 refine Ai (Ga C (Af (Ap (Ai (Gm C (Gr (B0 (α:=Int) (xs:=xs) Ac C (Ba hl)) (Gm C (Af (A0 (B1 (σ:=Nat) (λs=>([(1,e7 x),(7,v),(8,e7 ((xs.length:Nat):Int)),(9,e7 ((s:Nat):Int))]:Env)) (λs=>I) (λs=>(s<=xs.length)/\(∀j,j<s->e_ xs j≠x)) (λs=>xs.length - s) 0 (show ((0:Nat)<=xs.length)/\(∀j,j<(0:Nat)->e_ xs j≠x) from ⟨om,all_zero⟩) (Aa C (Aa C (Aa C (Aa Ca Bp)))) (show Fit κ _ I from A1) ?_))))))))))
 rintro k hp
 obtain ⟨hk,hn⟩:=hp
 refine Ai (Gr (A7 C C) (Af (Ap (A8 C (λc10=>?_) (λc10=>?_)))))
 ·refine Ay (Aj (Ap (A0 (Ai (Gr (Az (α:=Int) (xs:=xs) Ac ef C C (Ba hl) om om) (Gr (Bo (xs:=xs) ef C (Ba hl) om om) (Ga C (Af (Ai (Gm C (Gm C (Gr (Bu C C) (Af (A8 C (λc15=>?_) (λc15=>?_)))))))))))))))
  ·refine Ai (Ga C (Af (A2 (Av (Am (Am (Av (Am ?_))))))))
   have hm:x∈xs:=by subst c15;exact Bf om om
   exact A6 C C _ A3 ⟨by rw [decide_eq_true hm],rfl⟩
  ·exact Ay (Ak (Aj (Ax (Gr (Rad C C) (Gm C (Bi (B5 ((k+1)) ⟨om,(El hn c15)⟩)))))))
 ·refine Bv (Al (Al (A5 (Aj (Ai (Ga C (Af (A2 ?_))))))))
  have hm:x∉xs:=not_mem_at hn om
  exact A6 C C _ A3 ⟨by rw [decide_eq_false hm],rfl⟩
def ValidP(xs:List Int)(nodes:Int):Prop:=∀j,j<xs.length->(0<=e_ xs j/\e_ xs j<nodes)/\(0<j->e_ xs ((j:Int) - 1)<e_ xs j)
instance (xs:List Int) (nodes:Int):Decidable (ValidP xs nodes):=by unfold ValidP;infer_instance
theorem NValid_ok{v:Value}{xs:List Int}(hl:Sl κ I v xs)(nodes:Int):eu prog κ 88 [v,e7 nodes] I (λr J=>r = .bool (decide (ValidP xs nodes))/\I=J):=by
 refine B8 hl.le λhmax=>?_
 refine Ce2 Tryz.func88 C C ?_
 refine Ai (Ga C (Af (Ap (Ai (Gm C (Gr (B0 (α:=Int) (xs:=xs) Ac C (Ba hl)) (Gm C (Af (A0 (B1 (σ:=Nat) (λs=>([(0,v),(1,e7 nodes),(7,v),(8,e7 ((xs.length:Nat):Int)),(9,e7 ((s:Nat):Int))]:Env)) (λs=>I) (λs=>(s<=xs.length)/\(∀j,j<s->(0<=e_ xs j/\e_ xs j<nodes)/\(0<j->e_ xs ((j:Int) - 1)<e_ xs j))) (λs=>xs.length - s) 0 (show ((0:Nat)<=xs.length)/\(∀j,j<(0:Nat)->(0<=e_ xs j/\e_ xs j<nodes)/\(0<j->e_ xs ((j:Int) - 1)<e_ xs j)) from ⟨om,all_zero⟩) (Aa C (Aa C (Aa C (Aa C (Aa Ca Bp))))) (show Fit κ _ I from A1) ?_))))))))))
 rintro k hp
 obtain ⟨hk,hn⟩:=hp
 refine Ai (Gr (A7 C C) (Af (Ap (A8 C (λc10=>?_) (λc10=>?_)))))
 ·refine Ay (Aj (Ap (A0 (Ai (Gm C (Gr (Az (α:=Int) (xs:=xs) Ac ef C C (Ba hl) om om) (Gr (Bo (xs:=xs) ef C (Ba hl) om om) (Ga C (Ga C (Af (Ai (Gm C (Gr (A7 C C) (Gm C (Bg (d:=16) C (λg16=>?_) (λg16=>?_))))))))))))))))
  ·refine eb (eb (eb (Gr (Ar C C) (Gm C (eb (eb (eb (ee (ee (ee (ee (ee (ee (ee (eb (Gr (Ar C C) (Af (Aq (S6 33 0 1 7 8 9 C C C C C C) (Cq C (Ai (Ga C (Af (A2 (Av (Am (Am (Av (Am ?_))))))))))))))))))))))))))))
   have hm:¬ValidP xs nodes:=λhv=>by have:=hv k om;omega
   exact A6 C C _ A3 ⟨by rw [decide_eq_false hm],rfl⟩
  ·refine e9 (Ad C) (e9 (Ad C) (e9 (B9 C C) (Gr (Ao C C) (Gm C (Bg (d:=21) C (λg21=>?_) (λg21=>?_))))))
   ·refine eb (eb (eb (ee (ee (ee (ee (ee (ee (ee (eb (Gr (Ar C C) (Af (Aq (S6 33 0 1 7 8 9 C C C C C C) (Cq C (Ai (Ga C (Af (A2 (Av (Am (Am (Av (Am ?_)))))))))))))))))))))))
    have hm:¬ValidP xs nodes:=λhv=>by have:=hv k om;omega
    exact A6 C C _ A3 ⟨by rw [decide_eq_false hm],rfl⟩
   ·refine e9 (Ad C) (e9 (Bw C C) (e9 (Ad C) (Bg (d:=24) C (λg24=>?_) (λg24=>?_))))
    ·refine e9 (Ad C) (e9 (Ad C) (e9 (Rsu C C) (e9 (Az (α:=Int) (xs:=xs) Ac ef C C (Ba hl) om om) (e9 (Bo (xs:=xs) ef C (Ba hl) om om) (e9 (Ad C) (e9 (B9 C C) (e9 (Ar C C) (Gr (Ao C C) (Af (Aq (S6 33 0 1 7 8 9 C C C C C C) (A8 C (λc33=>?_) (λc33=>?_))))))))))))
     ·refine Ai (Ga C (Af (A2 (Av (Am (Am (Av (Am ?_))))))))
      have hm:¬ValidP xs nodes:=λhv=>by have:=hv k om;have:=this.2 om;omega
      exact A6 C C _ A3 ⟨by rw [decide_eq_false hm],rfl⟩
     ·exact Ay (Ak (Aj (Ax (Gr (Rad C C) (Gm C (Bi (B5 ((k+1)) ⟨om,(El hn ⟨by omega,λ_=>by omega⟩)⟩)))))))
    ·exact eb (eb (eb (eb (eb (eb (eb (e9 (Ao C C) (Gr (Ao C C) (Af (Aq (S6 33 0 1 7 8 9 C C C C C C) (C2 C (Ay (Ak (Aj (Ax (Gr (Rad C C) (Gm C (Bi (B5 ((k+1)) ⟨om,(El hn ⟨by omega,λ_=>by omega⟩)⟩)))))))))))))))))))
 ·refine Bv (Al (Al (A5 (Aj (Ai (Ga C (Af (A2 ?_))))))))
  have hm:ValidP xs nodes:=λj hj=>hn j om
  exact A6 C C _ A3 ⟨by rw [decide_eq_true hm],rfl⟩
theorem RValid_ok{v:Value}{xs:List Int}(hl:Sl κ I v xs)(nodes:Int):eu prog κ 91 [v,e7 nodes] I (λr J=>r = .bool (decide (ValidP xs nodes))/\I=J):=by
 refine B8 hl.le λhmax=>?_
 refine Ce2 Tryz.func91 C C ?_
 refine Ai (Ga C (Af (Ap (Ai (Gm C (Gr (B0 (α:=Int) (xs:=xs) Ac C (Ba hl)) (Gm C (Af (A0 (B1 (σ:=Nat) (λs=>([(0,v),(1,e7 nodes),(7,v),(8,e7 ((xs.length:Nat):Int)),(9,e7 ((s:Nat):Int))]:Env)) (λs=>I) (λs=>(s<=xs.length)/\(∀j,j<s->(0<=e_ xs j/\e_ xs j<nodes)/\(0<j->e_ xs ((j:Int) - 1)<e_ xs j))) (λs=>xs.length - s) 0 (show ((0:Nat)<=xs.length)/\(∀j,j<(0:Nat)->(0<=e_ xs j/\e_ xs j<nodes)/\(0<j->e_ xs ((j:Int) - 1)<e_ xs j)) from ⟨om,all_zero⟩) (Aa C (Aa C (Aa C (Aa C (Aa Ca Bp))))) (show Fit κ _ I from A1) ?_))))))))))
 rintro k hp
 obtain ⟨hk,hn⟩:=hp
 refine Ai (Gr (A7 C C) (Af (Ap (A8 C (λc10=>?_) (λc10=>?_)))))
 ·refine Ay (Aj (Ap (A0 (Ai (Gm C (Gr (Az (α:=Int) (xs:=xs) Ac ef C C (Ba hl) om om) (Gr (Bo (xs:=xs) ef C (Ba hl) om om) (Ga C (Ga C (Af (Ai (Gm C (Gr (A7 C C) (Gm C (Bg (d:=16) C (λg16=>?_) (λg16=>?_))))))))))))))))
  ·refine eb (eb (eb (Gr (Ar C C) (Gm C (eb (eb (eb (ee (ee (ee (ee (ee (ee (ee (eb (Gr (Ar C C) (Af (Aq (S6 33 0 1 7 8 9 C C C C C C) (Cq C (Ai (Ga C (Af (A2 (Av (Am (Am (Av (Am ?_))))))))))))))))))))))))))))
   have hm:¬ValidP xs nodes:=λhv=>by have:=hv k om;omega
   exact A6 C C _ A3 ⟨by rw [decide_eq_false hm],rfl⟩
  ·refine e9 (Ad C) (e9 (Ad C) (e9 (B9 C C) (Gr (Ao C C) (Gm C (Bg (d:=21) C (λg21=>?_) (λg21=>?_))))))
   ·refine eb (eb (eb (ee (ee (ee (ee (ee (ee (ee (eb (Gr (Ar C C) (Af (Aq (S6 33 0 1 7 8 9 C C C C C C) (Cq C (Ai (Ga C (Af (A2 (Av (Am (Am (Av (Am ?_)))))))))))))))))))))))
    have hm:¬ValidP xs nodes:=λhv=>by have:=hv k om;omega
    exact A6 C C _ A3 ⟨by rw [decide_eq_false hm],rfl⟩
   ·refine e9 (Ad C) (e9 (Bw C C) (e9 (Ad C) (Bg (d:=24) C (λg24=>?_) (λg24=>?_))))
    ·refine e9 (Ad C) (e9 (Ad C) (e9 (Rsu C C) (e9 (Az (α:=Int) (xs:=xs) Ac ef C C (Ba hl) om om) (e9 (Bo (xs:=xs) ef C (Ba hl) om om) (e9 (Ad C) (e9 (B9 C C) (e9 (Ar C C) (Gr (Ao C C) (Af (Aq (S6 33 0 1 7 8 9 C C C C C C) (A8 C (λc33=>?_) (λc33=>?_))))))))))))
     ·refine Ai (Ga C (Af (A2 (Av (Am (Am (Av (Am ?_))))))))
      have hm:¬ValidP xs nodes:=λhv=>by have:=hv k om;have:=this.2 om;omega
      exact A6 C C _ A3 ⟨by rw [decide_eq_false hm],rfl⟩
     ·exact Ay (Ak (Aj (Ax (Gr (Rad C C) (Gm C (Bi (B5 ((k+1)) ⟨om,(El hn ⟨by omega,λ_=>by omega⟩)⟩)))))))
    ·exact eb (eb (eb (eb (eb (eb (eb (e9 (Ao C C) (Gr (Ao C C) (Af (Aq (S6 33 0 1 7 8 9 C C C C C C) (C2 C (Ay (Ak (Aj (Ax (Gr (Rad C C) (Gm C (Bi (B5 ((k+1)) ⟨om,(El hn ⟨by omega,λ_=>by omega⟩)⟩)))))))))))))))))))
 ·refine Bv (Al (Al (A5 (Aj (Ai (Ga C (Af (A2 ?_))))))))
  have hm:ValidP xs nodes:=λj hj=>hn j om
  exact A6 C C _ A3 ⟨by rw [decide_eq_true hm],rfl⟩
variable {κ:Ctx}{I:List Item}
theorem IsNaN_ok(n:Int):eu prog κ 277 [e7 n] I (λr J=>r = .bool false/\I=J):=by
 refine Ce1 Tryz.func277 C C ?_
 exact Ai (Ga C (Af (Ai (Gm C (Gm C (Gr (Br C C) (Ga C (Af (A2 (A6 C C I A3 ⟨by simp,rfl⟩))))))))))
theorem Compare_ok(m n:Int):eu prog κ 225 [e7 m,e7 n] I (λr J=>r=e7 (cmpI m n)/\I=J):=by
 refine Ce2 Tryz.func225 C C ?_
 refine Ai (Ga C (Af (Ai (Gm C (Gc0 (Ah call277 C C (IsNaN_ok m)) ?_)))))
 refine Ga C (Af (Ai (Gm C (Gc0 (Ah call277 C C (IsNaN_ok n)) ?_))))
 refine Ga C (Af (Ap (Ai (Gm C (Af (C2 C (Ay (Aj (Ap (Ai (Gm C (Af (C2 C (Ay (Aj (Ap (Ai (Gm C (Gm C (Gr (A7 C C) (Af (Aq (S3 16 0 1 C C C) (A8 C (λc16=>?_) (λc16=>?_))))))))))))))))))))))))
 ·exact Ai (Ga C (Af (A2 (Am (A6 C C I A3 ⟨by unfold cmpI;rw [if_pos c16],rfl⟩)))))
 ·refine Ay (Aj (Ap (Ai (Gm C (Gm C (Gr (Bw C C) (Af (A8 C (λc19=>?_) (λc19=>?_)))))))))
  ·exact Ai (Ga C (Af (A2 (Am (A6 C C I A3 ⟨by unfold cmpI;rw [if_neg c16,if_pos c19],rfl⟩)))))
  ·exact Ay (Aj (Ai (Ga C (Af (A2 (A6 C C I A3 ⟨by unfold cmpI;rw [if_neg c16,if_neg c19],rfl⟩))))))
theorem Or_ok{v:Value}{xs:List Int}(hl:Sl κ I v xs):eu prog κ 224 [v] I (λr J=>r=e7 (orL xs)/\I=J):=by
 refine B8 hl.le λhmax=>?_
 refine Ce1 Tryz.func224 C C ?_
 refine Ai (Ga C (Af (Ai (Ga C (Af (Ap (Ai (Gm C (Gr (B0 (α:=Int) (xs:=xs) Ac C (Ba hl)) (Gm C (Af (A0 (B1 (σ:=Nat) (λs=>([(3,e7 0),(6,v),(7,e7 ((xs.length:Nat):Int)),(8,e7 ((s:Nat):Int))]:Env)) (λs=>I) (λs=>(s<=xs.length)/\(orL xs=orL (xs.drop s))) (λs=>xs.length - s) 0 (show ((0:Nat)<=xs.length)/\(orL xs=orL (xs.drop (0:Nat))) from ⟨om,rfl⟩) (Aa C (Aa C (Aa C (Aa Ca Bp)))) (show Fit κ _ I from A1) ?_)))))))))))))
 rintro k hp
 obtain ⟨hk,ho⟩:=hp
 refine Ai (Gr (A7 C C) (Af (Ap (A8 C (λc9=>?_) (λc9=>?_)))))
 ·refine Ay (Aj (Ap (A0 (Ai (Gr (Az (α:=Int) (xs:=xs) Ac ef C C (Ba hl) om om) (Gr (Bo (xs:=xs) ef C (Ba hl) om om) (Ga C (Af (Ai (Gm C (Gm C (Gr (Br C C) (Af (A8 C (λc14=>?_) (λc14=>?_)))))))))))))))
  ·exact Ai (Gm C (Ga C (Af (A2 (Av (Am (Am (Av (Am (A6 C C I A3 ⟨by rw [ho,orL_stop om c14],rfl⟩))))))))))
  ·exact Ay (Ak (Aj (Ax (Gr (Rad C C) (Gm C (Bi (B5 ((k+1)) ⟨om,(ho.trans (orL_step om (Decidable.of_not_not c14)))⟩)))))))
 ·exact Bv (Al (Al (A5 (Aj (Ai (Gm C (Ga C (Af (A2 (A6 C C I A3 ⟨by rw [ho,orL_end om],rfl⟩))))))))))
theorem Before03_ok{κ:Ctx}{I:List Item}(a c:Pt):eu prog κ 84 [.agg #[e7 (a.u),e7 (a.v)],.agg #[e7 (c.u),e7 (c.v)]] I (λr J=>r = .bool (decide (Pt.lt a c))/\I=J):=by
 refine Ce2 Tryz.func84 C C ?_
 refine Ai (Ge1 (A9 (cs:=[_,_]) C C C) λb1=>Ge1 (A9 (cs:=[_,_]) C C C) λb2=>Ga C (Af (Ai (Gf fld135_0 C (Gl ef ?_)))))
 refine Gf fld135_0 C (Gl ef ?_)
 refine Gr (A7 C C) (Gm C (Bg (d:=10) C (λg10=>?_) (λg10=>?_)))
 ·exact eb (eb (eb (eb (eb (eb (ee (ee (ee (ee (ee (eb (Gr (Ar C C) (Ga C (Af (Aq (S1 4 C) (A2 (A6 C C I A3 ⟨(by first|exact congrArg Value.bool (decide_eq_decide.2 (by unfold Pt.lt;omega))|exact congrArg Value.bool (decide_eq_true (by unfold Pt.lt;omega)).symm|exact congrArg Value.bool (decide_eq_false (by unfold Pt.lt;omega)).symm),rfl⟩)))))))))))))))))
 ·refine e9 (Ab fld135_0 C) (e9 (As ef) ?_)
  refine e9 (Ab fld135_0 C) (e9 (As ef) ?_)
  refine e9 (Bu C C) (e9 (Ad C) (Bg (d:=16) C (λg16=>?_) (λg16=>?_)))
  ·refine e9 (Ab fld135_1 C) (e9 (As ef) ?_)
   refine e9 (Ab fld135_1 C) (e9 (As ef) ?_)
   exact e9 (A7 C C) (e9 (Ar C C) (Gr (Ao C C) (Ga C (Af (Aq (S1 4 C) (A2 (A6 C C I A3 ⟨(by first|exact congrArg Value.bool (decide_eq_decide.2 (by unfold Pt.lt;omega))|exact congrArg Value.bool (decide_eq_true (by unfold Pt.lt;omega)).symm|exact congrArg Value.bool (decide_eq_false (by unfold Pt.lt;omega)).symm),rfl⟩)))))))
  ·exact eb (eb (eb (eb (eb (e9 (Ao C C) (Gr (Ao C C) (Ga C (Af (Aq (S1 4 C) (A2 (A6 C C I A3 ⟨(by first|exact congrArg Value.bool (decide_eq_decide.2 (by unfold Pt.lt;omega))|exact congrArg Value.bool (decide_eq_true (by unfold Pt.lt;omega)).symm|exact congrArg Value.bool (decide_eq_false (by unfold Pt.lt;omega)).symm),rfl⟩)))))))))))
def cmpL:List Int->List Int->Int
 |[],[]=>0
 |[],_::_=> -1
 |_::_,[]=>1
 |x::xs,y::ys=>if y<x then 1 else if x<y then -1 else cmpL xs ys
theorem cmpL_eq:∀xs ys,cmpL xs ys=0↔xs=ys
 |[],[]=>by simp [cmpL]
 |[],_::_=>by simp [cmpL]
 |_::_,[]=>by simp [cmpL]
 |x::xs,y::ys=>by
  simp only [cmpL]
  split
  ·simp;omega
  ·split
   ·simp;omega
   ·rw [cmpL_eq xs ys]
    have:x=y:=by omega
    simp [this]
theorem cmpL_drop(xs ys:List Int)(k:Nat)(hx:k<xs.length)(hy:k<ys.length)(h1:¬e_ ys k<e_ xs k)(h2:¬e_ xs k<e_ ys k):cmpL (xs.drop k) (ys.drop k)=cmpL (xs.drop (k+1)) (ys.drop (k+1)):=by
 rw [D9 xs k hx,D9 ys k hy]
 simp only [cmpL]
 rw [if_neg h1,if_neg h2]
theorem cmpL_drop1(xs ys:List Int)(k:Nat)(hx:k<xs.length)(h:ys.length<=k\/(k<ys.length/\e_ ys k<e_ xs k)):cmpL (xs.drop k) (ys.drop k)=1:=by
 rw [D9 xs k hx]
 rcases h with h|⟨hy,h⟩
 ·rw [List.drop_eq_nil_of_le h];rfl
 ·rw [D9 ys k hy];simp only [cmpL];rw [if_pos h]
theorem cmpL_dropn(xs ys:List Int)(k:Nat)(hx:k<xs.length)(hy:k<ys.length)(h1:¬e_ ys k<e_ xs k)(h:e_ xs k<e_ ys k):cmpL (xs.drop k) (ys.drop k) = -1:=by
 rw [D9 xs k hx,D9 ys k hy];simp only [cmpL];rw [if_neg h1,if_pos h]
theorem cmpL_end(xs ys:List Int)(k:Nat)(hx:xs.length<=k):cmpL (xs.drop k) (ys.drop k)=if k<ys.length then -1 else 0:=by
 rw [List.drop_eq_nil_of_le hx]
 split
 ·rename_i h;rw [D9 ys k h];rfl
 ·rename_i h;rw [List.drop_eq_nil_of_le om];rfl
theorem Cmp_ok{κ:Ctx}{I:List Item}{u v:Value}{xs ys:List Int}(hu:Sl κ I u xs)(hv:Sl κ I v ys):eu prog κ 61 [u,v] I (λr J=>r=e7 (cmpL xs ys)/\I=J):=by
 refine B8 hu.le λhmax=>?_
 refine B8 hv.le λhmax2=>?_
 refine Ce2 Tryz.func61 C C ?_
 refine Ai (Ga C (Af (Ap (Ai (Gm C (Gr (B0 (α:=Int) (xs:=xs) Ac C (Ba hu)) (Gm C (Af (A0 (B1 (σ:=Nat) (λs=>([(0,u),(1,v),(7,e7 ((xs.length:Nat):Int)),(8,e7 ((s:Nat):Int))]:Env)) (λs=>I) (λs=>(s<=xs.length)/\(cmpL xs ys=cmpL (xs.drop s) (ys.drop s))) (λs=>xs.length - s) 0 (show ((0:Nat)<=xs.length)/\(cmpL xs ys=cmpL (xs.drop (0:Nat)) (ys.drop (0:Nat))) from ⟨om,rfl⟩) (Aa C (Aa C (Aa C (Aa Ca Bp)))) (show Fit κ _ I from A1) ?_))))))))))
 rintro k hp
 obtain ⟨hk,hc⟩:=hp
 refine Ai (Gr (A7 C C) (Af (Ap (A8 C (λc9=>?_) (λc9=>?_)))))
 ·refine Ay (Aj (Ap (A0 (Ai (Gm C (Ga C (Af (A0 (Ap (Bl mixed (Bt I 16 (Dr 0 C (Ad C) (Dr 1 C (Ad C) (Dr 2 C (B0 (α:=Int) (xs:=ys) Ac C (Ba hv)) (Dr 3 C (B9 C C) (Dr 4 C (Ad C) (Cs (d:=16) C (λg16=>?_) (λg16=>?_))))))))))))))))))
  ·exact Dpo 5 C (Dpo 6 C (Dpo 7 C (Dpo 8 C (Dpo 9 C (Dpo 10 C (Dpo 11 C (Dpo 12 C (Dpo 13 C (Dr 14 C (Ar C C) (Dr 15 C (Bb C) (Dz (Aj (Aq (S6 11 5 0 1 7 8 C C C C C C) (Cq C (Ai (Ga C (Af (A2 (Av (Av (Am (Am (Av (Am (A6 C C _ A3 ⟨by rw [hc,cmpL_drop1 xs ys k om (.inl om)],rfl⟩)))))))))))))))))))))))))
  ·refine Dro 5 C (Ad C) (Dro 6 C (Ad C) (Dro 7 C (Az (α:=Int) (xs:=xs) Ac ef C C (Ba hu) om om) (Dro 8 C (Bo (xs:=xs) ef C (Ba hu) om om) (Dro 9 C (Ad C) (Dro 10 C (Ad C) (Dro 11 C (Az (α:=Int) (xs:=ys) Ac ef C C (Ba hv) om om) (Dro 12 C (Bo (xs:=ys) ef C (Ba hv) om om) (Dro 13 C (Bw C C) (Dr 14 C (Ao C C) (Dr 15 C (Bb C) (Dz (Aj (Aq (S6 11 5 0 1 7 8 C C C C C C) (A8 C (λc11=>?_) (λc11=>?_)))))))))))))))
   ·exact Ai (Ga C (Af (A2 (Av (Av (Am (Am (Av (Am (A6 C C _ A3 ⟨by rw [hc,cmpL_drop1 xs ys k om (.inr ⟨by omega,by omega⟩)],rfl⟩))))))))))
   ·refine Ap (Bl mixed (Bt I 10 (Dr 0 C (Ad C) (Dr 1 C (Ad C) (Dr 2 C (Az (α:=Int) (xs:=xs) Ac ef C C (Ba hu) om om) (Dr 3 C (Bo (xs:=xs) ef C (Ba hu) om om) (Dr 4 C (Ad C) (Dr 5 C (Ad C) (Dr 6 C (Az (α:=Int) (xs:=ys) Ac ef C C (Ba hv) om om) (Dr 7 C (Bo (xs:=ys) ef C (Ba hv) om om) (Dr 8 C (A7 C C) (Dr 9 C (Bb C) (Dz (Aj (Aq (S5 27 0 1 7 8 C C C C C) (A8 C (λc27=>?_) (λc27=>?_)))))))))))))))))
    ·exact Ai (Ga C (Af (A2 (Av (Av (Am (Am (Av (Am (A6 C C _ A3 ⟨by rw [hc,cmpL_dropn xs ys k om om om om],rfl⟩))))))))))
    ·exact Ay (Ak (Ak (Aj (Ax (Gr (Rad C C) (Gm C (Bi (B5 ((k+1)) ⟨om,(hc.trans (cmpL_drop xs ys k om om om om))⟩))))))))
 ·refine Bv (Al (Al (A5 (Aj (Ap (Ai (Gm C (Gr (B0 (α:=Int) (xs:=xs) Ac C (Ba hu)) (Gm C (Gr (B0 (α:=Int) (xs:=ys) Ac C (Ba hv)) (Gr (A7 C C) (Af (A8 C (λc42=>?_) (λc42=>?_))))))))))))))
  ·exact Ai (Ga C (Af (A2 (Am (A6 C C _ A3 ⟨by rw [hc,cmpL_end xs ys k om,if_pos om],rfl⟩)))))
  ·exact Ay (Aj (Ai (Ga C (Af (A2 (A6 C C _ A3 ⟨by rw [hc,cmpL_end xs ys k om,if_neg om],rfl⟩))))))
variable {κ:Ctx}{I:List Item}
def putL:List Int->Int->List Int
 |[],x=>[x]
 |y::ys,x=>if y<x then y::putL ys x else if y=x then y::ys else x::y::ys
def ofL(l:List Int):List Int:=l.foldl putL []
theorem putL_at:∀(xs:List Int) (i:Nat) (x:Int),i<=xs.length->(∀j,j<i->e_ xs j<x)->
  (i<xs.length->e_ xs i=x->putL xs x=xs)/\((i=xs.length\/(i<xs.length/\x<e_ xs i))->putL xs x=(xs.take i++[x])++xs.drop i)
 |[],i,x,hi,h=>by
  obtain rfl:i=0:=by simpa using hi
  exact ⟨λh=>by simp at h,λ_=>rfl⟩
 |y::ys,0,x,hi,h=>by
  refine ⟨λ_ e=>?_,λe=>?_⟩
  ·have e':y=x:=e
   simp only [putL];rw [if_neg om,if_pos e']
  ·rcases e with e|⟨_,e⟩
   ·simp at e
   ·have e':x<y:=e
    simp only [putL];rw [if_neg om,if_neg om];rfl
 |y::ys,i+1,x,hi,h=>by
  have h0:y<x:=h 0 om
  have ha:∀j:Nat,e_ (y::ys) ((j+1:Nat):Int)=e_ ys j:=λj=>by rw [at_nat,at_nat];simp
  obtain ⟨h1,h2⟩:=putL_at ys i x (by simpa using hi) λj hj=>by have:=h (j+1) om;rwa [ha] at this
  refine ⟨λhl e=>?_,λe=>?_⟩
  ·simp only [putL];rw [if_pos h0,h1 (by simpa using hl) (by rwa [ha] at e)]
  ·simp only [putL];rw [if_pos h0,h2 (by rw [ha] at e;simpa using e)];rfl
theorem ofL_take(xs:List Int)(k:Nat)(h:k<xs.length):ofL (xs.take (k+1))=putL (ofL (xs.take k)) (e_ xs k):=by
 rw [C6 xs k h];simp [ofL]
theorem mem_putL(x y:Int):∀l,y∈putL l x↔y=x\/y∈l
 |[]=>by simp [putL]
 |z::zs=>by
  simp only [putL]
  split
  ·simp only [List.mem_cons,mem_putL x y zs]
   constructor
   ·rintro (h|h|h)<;>simp [h]
   ·rintro (h|h|h)<;>simp [h]
  ·split
   ·rename_i e;subst e;simp
   ·simp
theorem mem_foldl_putL(y:Int):∀(l acc:List Int),y∈l.foldl putL acc↔y∈l\/y∈acc
 |[],acc=>by simp
 |x::l,acc=>by
  rw [List.foldl_cons,mem_foldl_putL y l,mem_putL]
  simp only [List.mem_cons]
  constructor
  ·rintro (h|h|h)<;>simp [h]
  ·rintro ((h|h)|h)<;>simp [h]
theorem mem_ofL(l:List Int)(y:Int):y∈ofL l↔y∈l:=by simp [ofL,mem_foldl_putL]
theorem putL_len(x:Int):∀l,(putL l x).length<=l.length+1
 |[]=>by simp [putL]
 |y::ys=>by
  simp only [putL]
  split
  ·have:=putL_len x ys;simp;omega
  ·split<;>simp
theorem ofL_len(l:List Int):(ofL l).length<=l.length:=by
 have h:∀(l acc:List Int),(l.foldl putL acc).length<=l.length+acc.length:=λl=>by
  induction l with
  |nil=>intro acc;simp
  |cons x l ih=>intro acc;have:=ih (putL acc x);have:=putL_len x acc;simp;omega
 have:=h l []
 simpa [ofL] using this
theorem Put_ok{a:Option Addr}{c:Nat}{xs:List Int}(hb:xs.length<17592186044415)(x:Int):eu prog κ 153 [.slice a xs.length c,e7 x] (vc 3 (.slice a xs.length c) (xs)::I) (λr J=>∃a' c',r = .slice a' (putL xs x).length c'/\J=vc 3 (.slice a' (putL xs x).length c') (putL xs x)::I):=by
 refine B8 (λw hs=>(Sl.vec (κ:=κ) (List.mem_cons_self)).le w hs) λhmax=>?_
 refine Ce2 Tryz.func153 C C ?_
 refine Ai (Ga C (Af (Ai (Ga C (Af (W.cut (σ:=Nat) (λs=>([(0,.slice a xs.length c),(1,e7 x),(5,e7 ((s:Nat):Int))]:Env)) (λs=>vc 3 (.slice a xs.length c) (xs)::I) (λs=>(s<=xs.length)/\(∀j,j<s->e_ xs j<x)/\(s=xs.length\/(s<xs.length/\¬e_ xs s<x))) ?_ ?_))))))
 ·refine A0 (B1 (σ:=Nat) (λs=>([(0,.slice a xs.length c),(1,e7 x),(5,e7 ((s:Nat):Int))]:Env)) (λs=>vc 3 (.slice a xs.length c) (xs)::I) (λs=>(s<=xs.length)/\(∀j,j<s->e_ xs j<x)) (λs=>xs.length - s) 0 (show ((0:Nat)<=xs.length)/\(∀j,j<(0:Nat)->e_ xs j<x) from ⟨om,all_zero⟩) (Aa C (Aa C (Aa Ca Bp))) (show Fit κ _ (vc 3 (.slice a xs.length c) (xs)::I) from A1) ?_)
  rintro i hp
  obtain ⟨hi,hlt⟩:=hp
  refine Ap (Ai (Gm C (Gm C (Gr (Bs Ac C) (Gr (A7 C C) (Gm C (Bg (d:=11) C (λg11=>?_) (λg11=>?_))))))))
  ·refine e9 (Ad C) (e9 (Ad C) (e9 (Az (α:=Int) (xs:=xs) Ac ef C C Bk om om) (e9 (Bo (xs:=xs) ef C Bk om om) (e9 (Ad C) (e9 (A7 C C) (Gr (Ar C C) (Af (Aq (S4 18 0 1 5 C C C C) (A8 C (λc18=>?_) (λc18=>?_))))))))))
   ·exact Ay (Aj (A0 (Ax (Gm C (Gr (Rad C C) (Ga C (Bi (Ak (B5 ((i+1)) ⟨om,(El hlt om)⟩)))))))))
   ·exact Bv (Al (Al (A5 (C9 ((i)) ⟨om,hlt,om⟩))))
  ·exact eb (eb (eb (eb (eb (eb (Gr (Ao C C) (Af (Aq (S4 18 0 1 5 C C C C) (C2 C (Bv (Al (Al (A5 (C9 ((i)) ⟨om,hlt,om⟩))))))))))))))
 ·rintro i hp
  obtain ⟨hi,hlt,hst⟩:(i<=xs.length)/\(∀j,j<i->e_ xs j<x)/\(i=xs.length\/(i<xs.length/\¬e_ xs i<x)):=hp
  show W prog κ 46 _ _ ([(0,.slice a xs.length c),(1,e7 x),(5,e7 ((i:Int)))]:Env) (vc 3 (.slice a xs.length c) (xs)::I)
  refine Ap (Ai (Gm C (Gm C (Gr (Bs Ac C) (Gr (A7 C C) (Gm C (Bg (d:=25) C (λg25=>?_) (λg25=>?_))))))))
  ·refine e9 (Ad C) (e9 (Ad C) (e9 (Az (α:=Int) (xs:=xs) Ac ef C C Bk om om) (e9 (Bo (xs:=xs) ef C Bk om om) (e9 (Ad C) (e9 (Bu C C) (Gr (Ar C C) (Af (Aq (S4 32 0 1 5 C C C C) (A8 C (λc32=>?_) (λc32=>?_))))))))))
   ·refine Ai (Gm C (Ga C (Af (A2 (Am ?_)))))
    have hp:=(putL_at xs i x hi hlt).1 om om
    exact A6 C C _ A3 ⟨a,c,by rw [hp],by rw [hp]⟩
   ·refine Ay (Aj (Ai (Gm C (Gm C (Gr (Runs.hi (α:=Int) (xs:=xs) (h:=i) Ac ef C C om Bk om) (Ge2 (Eff.clone (α:=Int) (ys:=List.take i xs) Ac ef C C C (Sl.take Bk om) (by simp only [List.length_append,List.length_cons,List.length_nil,List.length_take,List.length_drop];omega) dc C) λad1 cp2=>?_))))))
    refine Ga C (Af (Ap (Bl mixed (Bt (vc 3 (.slice a xs.length c) (xs)::I) 9 (Dr 0 C (Ad C) (Dr 1 C (Ad C) (Dr 4 C (Ad C) (Dr 5 C (Ad C) (Dr 6 C (E0 (α:=Int) (xs:=xs) (l:=i) Ac ef C C om Bk om) (Ds1 2 (Se1 C (Cf (α:=Int) (cs:=[_]) (xs:=[x]) Ac ef C C dc dc C C C C) λad3=>?_)))))))))))
    refine Ds1 3 (Se2 C (Cm (α:=Int) (e:=3) (xs:=List.take i xs) (ys:=([x]:List Int)) Ac ef C C C mm Bk (by simp only [List.length_append,List.length_cons,List.length_nil,List.length_take,List.length_drop];omega) dc C (λ_ _=>am)) λad4 cp5=>?_)
    refine Ds1 7 (Se2 C (Cm (α:=Int) (e:=3) (xs:=(List.take i xs)++([x]:List Int)) (ys:=List.drop i xs) Ac ef C C C mm (Sl.drop Bk om) (by simp only [List.length_append,List.length_cons,List.length_nil,List.length_take,List.length_drop];omega) dc C (λ_ _=>am)) λad6 cp7=>?_)
    refine Dr 8 C (Bb C) (Dz (Aj (Aq (S1 4 C) (A2 ?_))))
    have hp:=(putL_at xs i x hi hlt).2 om
    exact A6 C C (vc 3 (.slice ad6 (putL xs x).length cp7) (putL xs x)::I) (by rw [hp];exact A1) ⟨ad6,cp7,by rw [hp],rfl⟩
  ·refine eb (eb (eb (eb (eb (eb (Gr (Ao C C) (Af (Aq (S4 32 0 1 5 C C C C) (C2 C (Ay (Aj (Ai (Gm C (Gm C (Gr (Runs.hi (α:=Int) (xs:=xs) (h:=i) Ac ef C C om Bk om) (Ge2 (Eff.clone (α:=Int) (ys:=List.take i xs) Ac ef C C C (Sl.take Bk om) (by simp only [List.length_append,List.length_cons,List.length_nil,List.length_take,List.length_drop];omega) dc C) λad8 cp9=>?_))))))))))))))))
   refine Ga C (Af (Ap (Bl mixed (Bt (vc 3 (.slice a xs.length c) (xs)::I) 9 (Dr 0 C (Ad C) (Dr 1 C (Ad C) (Dr 4 C (Ad C) (Dr 5 C (Ad C) (Dr 6 C (E0 (α:=Int) (xs:=xs) (l:=i) Ac ef C C om Bk om) (Ds1 2 (Se1 C (Cf (α:=Int) (cs:=[_]) (xs:=[x]) Ac ef C C dc dc C C C C) λad10=>?_)))))))))))
   refine Ds1 3 (Se2 C (Cm (α:=Int) (e:=3) (xs:=List.take i xs) (ys:=([x]:List Int)) Ac ef C C C mm Bk (by simp only [List.length_append,List.length_cons,List.length_nil,List.length_take,List.length_drop];omega) dc C (λ_ _=>am)) λad11 cp12=>?_)
   refine Ds1 7 (Se2 C (Cm (α:=Int) (e:=3) (xs:=(List.take i xs)++([x]:List Int)) (ys:=List.drop i xs) Ac ef C C C mm (Sl.drop Bk om) (by simp only [List.length_append,List.length_cons,List.length_nil,List.length_take,List.length_drop];omega) dc C (λ_ _=>am)) λad13 cp14=>?_)
   refine Dr 8 C (Bb C) (Dz (Aj (Aq (S1 4 C) (A2 ?_))))
   have hp:=(putL_at xs i x hi hlt).2 om
   exact A6 C C (vc 3 (.slice ad13 (putL xs x).length cp14) (putL xs x)::I) (by rw [hp];exact A1) ⟨ad13,cp14,by rw [hp],rfl⟩
theorem Put_at{F:Item->List Item}{a:Option Addr}{c:Nat}{xs:List Int}(hat:AtF I (vc 3 (.slice a xs.length c) xs) F)(hb:xs.length<17592186044415)(x:Int):eu prog κ 153 [.slice a xs.length c,e7 x] I λr J=>∃a' c',r = .slice a' (putL xs x).length c'/\J=F (vc 3 (.slice a' (putL xs x).length c') (putL xs x)):=
 (En (Z:=λ_=>[]) (X:=λy:Option Addr×Nat=>vc 3 (.slice y.1 (putL xs x).length y.2) (putL xs x)) (Post:=λr y=>r = .slice y.1 (putL xs x).length y.2) hat λJ _ _=>(Put_ok (a:=a) (c:=c) hb x).mono λr J' ⟨a',c',h1,h2⟩=>⟨(a',c'),h1,h2⟩).mono λ_ _ ⟨y,h1,h2⟩=>⟨y.1,y.2,h1,h2⟩
theorem Of_ok{v:Value}{xs:List Int}(hl:Sl κ I v xs)(hb:xs.length<17592186044415):eu prog κ 82 [v] I (λr J=>∃a c,r = .slice a (ofL xs).length c/\J=vc 3 (.slice a (ofL xs).length c) (ofL xs)::I):=by
 refine B8 hl.le λhmax=>?_
 refine Ce1 Tryz.func82 C C ?_
 refine Ai (Ga C (Af (Ai (Ga C (Af (Ap (Ai (Gm C (Gr (B0 (α:=Int) (xs:=xs) Ac C (Ba hl)) (Gm C (Af (A0 (B1 (σ:=Nat×(Option Addr)×Nat×(List Int)) (λs=>([(3,.slice s.2.1 s.2.2.2.length s.2.2.1),(6,v),(7,e7 ((xs.length:Nat):Int)),(8,e7 ((s.1:Nat):Int))]:Env)) (λs=>vc 3 (.slice s.2.1 s.2.2.2.length s.2.2.1) (s.2.2.2)::I) (λs=>(s.1<=xs.length)/\(s.2.2.2=ofL (xs.take s.1))) (λs=>xs.length - s.1) (0,none,0,[]) (show ((0:Nat)<=xs.length)/\(([]:List Int)=ofL (xs.take (0:Nat))) from ⟨om,rfl⟩) (Aa (Dl C (by first|rfl|simp)) (Aa C (Aa C (Aa Ca Bp)))) (show Fit κ _ (vc 3 (.slice none ([]).length 0) (([]))::I) from (B2 _ _)) ?_)))))))))))))
 rintro ⟨k,a,c,out⟩ hp
 dsimp only at hp ⊢
 obtain ⟨hk,ho⟩:=hp
 refine Ai (Gr (A7 C C) (Af (Ap (A8 C (λc9=>?_) (λc9=>?_)))))
 ·refine Ay (Aj (Ap (A0 (Ai (Gr (Az (α:=Int) (xs:=xs) Ac ef C C (Ba hl) om om) (Gr (Bo (xs:=xs) ef C (Ba hl) om om) (Ga C (Af (Ax (Gm C (Gm C (Gc2 (Ah call153 C C (Put_at (by repeat (first|exact AtF.head _ _|apply AtF.tail)) (by rw [ho];have:=ofL_len (xs.take k);simp only [List.length_take] at this;omega) (e_ xs k))) λad1 cp2=>?_))))))))))))
  show G prog κ _ _ _ _ ([(14,.slice ad1 (putL out (e_ xs k)).length cp2),(13,e7 (e_ xs k)),(12,.slice a out.length c),(5,e7 (e_ xs k)),(11,e7 (e_ xs k)),(10,elemPtr v (((k:Int)).toNat*Enc.sz Int)),(9,.bool (decide ((k:Int)<((xs.length:Nat):Int)))),(3,.slice a out.length c),(6,v),(7,e7 ((xs.length:Nat):Int)),(8,e7 ((k:Int)))]:Env) (vc 3 (.slice ad1 (putL out (e_ xs k)).length cp2) (putL out (e_ xs k))::I)
  exact Ga C (Bi (Ak (Aj (Ax (Gr (Rad C C) (Gm C (Bi (B5 ((k+1),(ad1),(cp2),(putL out (e_ xs k))) (by dsimp only;exact ⟨om,(by rw [ofL_take xs k om,←ho])⟩)))))))))
 ·refine Bv (Al (Al (A5 (Aj (Ai (Gm C (Ga C (Af (A2 ?_)))))))))
  have hk2:xs.take k=xs:=List.take_of_length_le om
  rw [hk2] at ho
  subst ho
  exact A6 C C _ A3 ⟨a,c,rfl,rfl⟩
theorem filter_take(xs:List Int)(p:Int->Bool)(k:Nat)(h:k<xs.length):(xs.take (k+1)).filter p=(xs.take k).filter p++if p (e_ xs k) then [e_ xs k] else []:=by
 rw [C6 xs k h,List.filter_append]
 congr 1
 by_cases hp:p (e_ xs k)<;>simp [List.filter_cons,hp]
theorem filter_take_yes(xs:List Int)(p:Int->Bool)(k:Nat)(h:k<xs.length)(hp:p (e_ xs k)=true):(xs.take (k+1)).filter p=(xs.take k).filter p++[e_ xs k]:=by
 rw [filter_take xs p k h,if_pos hp]
theorem filter_take_no(xs:List Int)(p:Int->Bool)(k:Nat)(h:k<xs.length)(hp:p (e_ xs k)=false):(xs.take (k+1)).filter p=(xs.take k).filter p:=by
 rw [filter_take xs p k h,hp];simp
theorem filter_take_len(xs:List Int)(p:Int->Bool)(k:Nat):((xs.take k).filter p).length<=xs.length:=by
 have h1:=List.length_filter_le p (xs.take k)
 have h2:=List.length_take_le' k xs
 omega
theorem ValidP_mem{xs:List Int}{w x:Int}(h:ValidP xs w)(hx:x∈xs):0<=x/\x<w:=by
 obtain ⟨j,hj,he⟩:=mem_at hx
 rw [←he];exact (h j hj).1
structure Arc where
 frm:Int
 dst:Int
 cap:Int
deriving Inhabited
instance:Enc Arc:=⟨λa=>[e7 a.frm,e7 a.dst,e7 a.cap],3,by omega,λ_=>rfl,λa u h=>by
 simp only [List.mem_cons,List.not_mem_nil,or_false] at h
 rcases h with rfl|rfl|rfl<;>rfl⟩
structure Net where
 nodes:Int
 source:Int
 sink:Int
 arcs:List Arc
structure Net.Ok (n:Net):Prop where
 lim:n.nodes<=4200/\n.arcs.length<=16384
 two:2<=n.nodes
 src:0<=n.source/\n.source<n.nodes
 snk:0<=n.sink/\n.sink<n.nodes
 ne:n.source≠n.sink
 arc:∀a∈n.arcs,(0<=a.frm/\a.frm<n.nodes)/\(0<=a.dst/\a.dst<n.nodes)/\a.frm≠a.dst/\0<=a.cap/\a.cap<=1099511627776
end Go.Sl
namespace Go.Sl
open Go.Proofs Go.Shelf Go.RowKit Go.Lib Go.Sort
section
variable {α:Type}[Enc α][Inhabited α]
theorem flat_cells(d:Array α):flatK Enc.enc (Enc.sz α) d=(cells d.toList).toArray:=by
 apply Array.ext
 ·simp [cells_length]
 ·intro t h1 h2
  have h1':t<d.size*Enc.sz α:=by simpa using h1
  have hpos:0<Enc.sz α:=Enc.pos
  have hi:t / Enc.sz α<d.size:=Nat.div_lt_of_lt_mul (by rw [Nat.mul_comm];exact h1')
  have hj:t % Enc.sz α<Enc.sz α:=Nat.mod_lt _ hpos
  have e1:t=t / Enc.sz α*Enc.sz α+t % Enc.sz α:=by rw [Nat.mul_comm];exact (Nat.div_add_mod t (Enc.sz α)).symm
  have e2:=cells_get d.toList (t / Enc.sz α) (t % Enc.sz α) (by simpa using hi) hj
  rw [←e1] at e2
  have e3:(cells d.toList)[t]? = some ((cells d.toList)[t]'(by simpa using h2)):=List.getElem?_eq_getElem _
  rw [e3] at e2
  have hlen:t % Enc.sz α<(Enc.enc (d.toList[t / Enc.sz α]'(by simpa using hi))).length:=by rw [Enc.len];exact hj
  rw [List.getElem?_eq_getElem hlen] at e2
  have e4:=Option.some.inj e2
  simp only [List.getElem_toArray]
  rw [e4]
  simp [flatK,getElem!_pos,hi,Enc.len,hj]
theorem sort_base{P:Program}{ρ:Ren}{κ:Ctx}{I:List Item}(L:SlLaysF0.n6 P ρ)(aE:∀w,(isAgg (ρ.t 24)).run P w = .ok true w)(zE:∀w,(Go.sizeOf (ρ.t 24)).run P w = .ok (Enc.sz α) w)(cf:α->α->Int)(hO:SWO (ltOf cf))(g:Nat)(cb:Array Value)
  (eg:∀args w,(callFunc g args).run P w = .ok (.enter g args) w) (hcmp:∀(x y:α) (W:World),Calls P g (#[.agg (Enc.enc x).toArray,.agg (Enc.enc y).toArray]++cb) W λe w'=>e = .returned (.int .i64 (cf x y))/\∃q os',w'=grow (W.drewN q) os')
  {e:TypeId} {ad:Option Addr} {c:Nat} {xs:List α} (hc:0<c) (hsz:xs.length<4611686018427387904):eu P κ (ρ.f 6) [.slice ad xs.length c,.func (.func g) #[] cb] (vc e (.slice ad xs.length c) xs::I) λr J=>∃ys:List α,(r = .tuple #[]/\ys.Perm xs/\ys.Pairwise λa b=>ltOf cf b a=false)/\J=[]++vc e (.slice ad ys.length c) ys::I:=by
 intro w hs
 obtain ⟨hok,_⟩:=hs.ok _ List.mem_cons_self
 obtain ⟨a',cap',hv,hl,hnc,hcm,hcap⟩:=hok
 cases hv
 obtain ⟨b,off,cur,rfl,hb,hsize,hcur⟩:=hcap hc
 have hbw:b<w.heap.size:=(Array.getElem?_eq_some_iff.1 hb).1
 have hcl:=cells_length xs
 have hle:xs.length*Enc.sz α<=c*Enc.sz α:=Nat.mul_le_mul_right _ hnc
 have hH:HoldsK Enc.enc (Enc.sz α) w b off xs.toArray:=λj hj=>by
  rw [flat_cells] at hj ⊢
  have hj':j<(cells xs).length:=by simpa using hj
  have h1:=hcur j ((cells xs)[j]) (List.getElem?_eq_getElem hj')
  refine ⟨?_,by simp [World.frozen?,hb]⟩
  rw [cell_of_row w b (off+j) cur e (0,0) hb,h1]
  simp [getElem!_pos,hj']
 have h:=AnyQ.slices_SortFunc L (Enc.sz α) aE zE Enc.enc Enc.len Enc.one cf hO g cb b off c xs.toArray w eg (λm os dk _ x y=>hcmp x y _) hH hbw (by simpa using hsz)
 refine Calls.mono h ?_
 rintro e' w' ⟨rfl,d',n,os,⟨hs1,_,hperm⟩,hsort,rfl⟩
 have hs1':d'.size=xs.length:=by simpa using hs1
 have hperm':d'.toList.Perm xs:=by
  have e1:d'.extract 0 xs.toArray.size=d':=by rw [←hs1];simp
  have e2:xs.toArray.extract 0 xs.toArray.size=xs.toArray:=by simp
  rw [e1,e2] at hperm
  exact hperm
 have hlen:d'.toList.length=xs.length:=by simpa using hs1'
 refine ⟨_,_,rfl,⟨d'.toList,⟨rfl,hperm',?_⟩,rfl⟩,?_⟩
 ·rw [List.pairwise_iff_getElem]
  intro i j hi hj hij
  have:=hsort i j (Nat.zero_le _) hij (by simpa [hs1'] using hj)
  simp only [Array.length_toList] at hi hj
  rw [getElem!_pos d' i hi,getElem!_pos d' j hj] at this
  simpa using this
 ·show Sep κ _ (vc e (.slice (some ⟨b,off,none⟩) d'.toList.length c) d'.toList::I)
  refine hs.upd (At.head _ _ _) rfl ⟨rfl,by simp [sortWorldK,putRowK,Sort.grow]⟩ rfl (by simp [sortWorldK,putRowK]) (λk hk hne=>?_) ?_ λk hk=> .inl ?_
  ·have hkb:k≠b:=λekb=>hne (by subst ekb;exact ⟨off,xs.length,c,rfl,hc⟩)
   simp only [sortWorldK,Sort.grow,putRowK,putRow,mapBlock]
   rw [Array.getElem?_append_left (by simpa using hk),Array.getElem?_modify,if_neg (λe=>hkb e.symm)]
   rfl
  ·refine ⟨_,c,rfl,cells_length _,by rw [hlen];exact hnc,hcm,λ_=>⟨b,off,putCells id off (flatK Enc.enc (Enc.sz α) d') cur,rfl,?_,?_,λj u hj=>?_⟩⟩
   ·simp only [sortWorldK,Sort.grow,putRowK,putRow,mapBlock]
    rw [Array.getElem?_append_left (by simpa using hbw),Array.getElem?_modify,if_pos rfl]
    show (w.heap[b]?).map _=_
    rw [hb];rfl
   ·simpa [putCells] using hsize
   ·have hj':j<(cells d'.toList).length:=(List.getElem?_eq_some_iff.1 hj).1
    have hj2:j<xs.length*Enc.sz α:=by rw [cells_length,hlen] at hj';exact hj'
    have hoff:off+j<cur.size:=by omega
    rw [flat_cells]
    simp only [putCells,Array.getElem?_mapIdx,Array.getElem?_eq_getElem hoff,Option.map_some]
    rw [if_pos ⟨by omega,by simpa using hj'⟩,Nat.add_sub_cancel_left]
    rw [List.getElem?_eq_getElem hj'] at hj
    simpa [getElem!_pos,hj'] using hj
  ·obtain ⟨o',n',c',hv',hc'⟩:=hk
   cases hv'
   exact ⟨off,xs.length,c,rfl,hc⟩
theorem sort_any{P:Program}{ρ:Ren}{κ:Ctx}{I:List Item}(L:SlLaysF0.n6 P ρ)(aE:∀w,(isAgg (ρ.t 24)).run P w = .ok true w)(zE:∀w,(Go.sizeOf (ρ.t 24)).run P w = .ok (Enc.sz α) w)(cf:α->α->Int)(hO:SWO (ltOf cf))(g:Nat)(cb:Array Value)
  (eg:∀args w,(callFunc g args).run P w = .ok (.enter g args) w) (hcmp:∀(x y:α) (W:World),Calls P g (#[.agg (Enc.enc x).toArray,.agg (Enc.enc y).toArray]++cb) W λe w'=>e = .returned (.int .i64 (cf x y))/\∃q os',w'=grow (W.drewN q) os')
  {e:TypeId} {ad:Option Addr} {c:Nat} {xs:List α} (hsz:xs.length<4611686018427387904):eu P κ (ρ.f 6) [.slice ad xs.length c,.func (.func g) #[] cb] (vc e (.slice ad xs.length c) xs::I) λr J=>∃ys:List α,(r = .tuple #[]/\ys.Perm xs/\ys.Pairwise λa b=>ltOf cf b a=false)/\J=[]++vc e (.slice ad ys.length c) ys::I:=by
 by_cases hc:0<c
 ·exact sort_base L aE zE cf hO g cb eg hcmp hc hsz
 ·intro w hs
  obtain ⟨hok,_⟩:=hs.ok _ List.mem_cons_self
  obtain ⟨a',cap',hv,hl,hnc,hcm,hcap⟩:=hok
  cases hv
  obtain rfl:xs=[]:=List.eq_nil_of_length_eq_zero (by omega)
  refine Calls.mono (AnyF.slices_SortFunc_none L ad c _ w) ?_
  rintro e' w' ⟨rfl,rfl⟩
  exact ⟨_,_,rfl,⟨[],⟨rfl,List.Perm.nil,List.Pairwise.nil⟩,rfl⟩,hs⟩
end
theorem lays_of{P:Program}{f:FuncId}{args:List Value}{v:Value}{W:World}(h:eu P ⟨W.os,W.tape,W.output,W.drawn⟩ f args [old W.heap.size W] λr J=>r=v/\[old W.heap.size W]=J) :
  Calls P f args.toArray W λe w'=>e = .returned v/\∃q os',w'=Sort.grow (W.drewN q) os':=(h W (Sep.begin W)).mono λe w' ⟨r,J,he,⟨hv,hJ⟩,hs⟩=>by
 subst hv hJ
 refine ⟨he,w'.drawn - W.drawn,w'.heap.extract W.heap.size w'.heap.size,?_⟩
 have hb:=hs.below List.mem_cons_self
 have hok:∀k,k<W.heap.size->w'.heap[k]? = W.heap[k]? :=(hs.ok _ List.mem_cons_self).1
 have hd:=hs.tape.2
 have hheap:w'.heap=W.heap++w'.heap.extract W.heap.size w'.heap.size:=by
  apply Array.ext_getElem?
  intro k
  by_cases hk:k<W.heap.size
  ·rw [Array.getElem?_append_left hk];exact hok k hk
  ·rw [Array.getElem?_append_right (by omega),Array.getElem?_extract]
   have hsz:=hb.size
   by_cases hk2:k<w'.heap.size
   ·rw [if_pos (by omega)];congr 1;omega
   ·rw [Array.getElem?_eq_none (by omega)]
    split
    ·omega
    ·rfl
 have e:W.drawn+(w'.drawn - W.drawn)=w'.drawn:=by have:W.drawn<=w'.drawn:=hd;omega
 have hos:w'.os=W.os:=hs.os
 have htp:w'.tape=W.tape:=hs.tape.1
 have hou:w'.output=W.output:=hs.output
 obtain ⟨heap',tape',drawn',os',out'⟩:=w'
 simp only [Sort.grow,World.drewN] at *
 subst hos htp hou
 rw [e,←hheap]
end Go.Sl
namespace Go.Proofs
def Tryz.sort321_ren:Go.Shelf.Ren:=⟨fun |6=>321|15=>218|14=>337|28=>269|29=>270|20=>343|21=>344|22=>345|23=>346|24=>347|25=>348|26=>349|27=>350|46=>352|47=>305|48=>306|49=>353|50=>354|57=>355|n=>n,fun |22=>109|24=>146|25=>279|3=>3|39=>181|0=>0|53=>291|55=>175|4=>4|46=>285|45=>284|50=>273|5=>5|9=>9|66=>320|70=>324|76=>346|77=>259|n=>n,fun |n=>n⟩
theorem Tryz.sort321:Go.Proofs.SlLaysF0.n6 prog Tryz.sort321_ren:={
 mixed:=by kernel_rfl,
 f6:=⟨Tryz.f321.name,by decide,Tryz.func321.trans (congrArg some (by kernel_rfl))⟩,
 f14:=⟨Tryz.f337.name,by decide,Tryz.func337.trans (congrArg some (by kernel_rfl))⟩,
 f15:=Tryz.func218.trans (congrArg some (by kernel_rfl)),
 f20:=⟨Tryz.f343.name,by decide,Tryz.func343.trans (congrArg some (by kernel_rfl))⟩,
 f21:=⟨Tryz.f344.name,by decide,Tryz.func344.trans (congrArg some (by kernel_rfl))⟩,
 f22:=⟨Tryz.f345.name,by decide,Tryz.func345.trans (congrArg some (by kernel_rfl))⟩,
 f23:=⟨Tryz.f346.name,by decide,Tryz.func346.trans (congrArg some (by kernel_rfl))⟩,
 f24:=⟨Tryz.f347.name,by decide,Tryz.func347.trans (congrArg some (by kernel_rfl))⟩,
 f25:=⟨Tryz.f348.name,by decide,Tryz.func348.trans (congrArg some (by kernel_rfl))⟩,
 f26:=⟨Tryz.f349.name,by decide,Tryz.func349.trans (congrArg some (by kernel_rfl))⟩,
 f27:=⟨Tryz.f350.name,by decide,Tryz.func350.trans (congrArg some (by kernel_rfl))⟩,
 f28:=Tryz.func269.trans (congrArg some (by kernel_rfl)),
 f29:=Tryz.func270.trans (congrArg some (by kernel_rfl)),
 f46:=⟨Tryz.f352.name,by decide,Tryz.func352.trans (congrArg some (by kernel_rfl))⟩,
 f47:=Tryz.func305.trans (congrArg some (by kernel_rfl)),
 f48:=Tryz.func306.trans (congrArg some (by kernel_rfl)),
 f49:=⟨Tryz.f353.name,by decide,Tryz.func353.trans (congrArg some (by kernel_rfl))⟩,
 f50:=⟨Tryz.f354.name,by decide,Tryz.func354.trans (congrArg some (by kernel_rfl))⟩,
 f57:=⟨Tryz.f355.name,by decide,Tryz.func355.trans (congrArg some (by kernel_rfl))⟩,
 t0:=Tryz.underlying0,
 a0:=Tryz.isAgg0,
 z0:=Tryz.sizeOf0,
 v0:=Tryz.zeroValue0,
 t3:=Tryz.underlying3,
 a3:=Tryz.isAgg3,
 z3:=Tryz.sizeOf3,
 v3:=Tryz.zeroValue3,
 t4:=Tryz.underlying4,
 a4:=Tryz.isAgg4,
 z4:=Tryz.sizeOf4,
 v4:=Tryz.zeroValue4,
 t5:=Tryz.underlying5,
 a5:=Tryz.isAgg5,
 z5:=Tryz.sizeOf5,
 v5:=Tryz.zeroValue5,
 t9:=Tryz.underlying9,
 a9:=Tryz.isAgg9,
 z9:=Tryz.sizeOf9,
 v9:=Tryz.zeroValue9,
 t22:=Tryz.underlying109,
 a22:=Tryz.isAgg109,
 z22:=Tryz.sizeOf109,
 v22:=Tryz.zeroValue109,
 t25:=Tryz.underlying279,
 a25:=Tryz.isAgg279,
 z25:=Tryz.sizeOf279,
 v25:=Tryz.zeroValue279,
 t39:=Tryz.underlying181,
 a39:=Tryz.isAgg181,
 z39:=Tryz.sizeOf181,
 v39:=Tryz.zeroValue181,
 t45:=Tryz.underlying284,
 a45:=Tryz.isAgg284,
 z45:=Tryz.sizeOf284,
 v45:=Tryz.zeroValue284,
 t46:=Tryz.underlying285,
 a46:=Tryz.isAgg285,
 z46:=Tryz.sizeOf285,
 v46:=Tryz.zeroValue285,
 t50:=Tryz.underlying273,
 a50:=Tryz.isAgg273,
 z50:=Tryz.sizeOf273,
 v50:=Tryz.zeroValue273,
 t53:=Tryz.underlying291,
 a53:=Tryz.isAgg291,
 z53:=Tryz.sizeOf291,
 v53:=Tryz.zeroValue291,
 t55:=Tryz.underlying175,
 a55:=Tryz.isAgg175,
 z55:=Tryz.sizeOf175,
 v55:=Tryz.zeroValue175,
 t66:=Tryz.underlying320,
 a66:=Tryz.isAgg320,
 z66:=Tryz.sizeOf320,
 v66:=Tryz.zeroValue320,
 t70:=Tryz.underlying324,
 a70:=Tryz.isAgg324,
 z70:=Tryz.sizeOf324,
 v70:=Tryz.zeroValue324,
 t76:=Tryz.underlying346,
 a76:=Tryz.isAgg346,
 z76:=Tryz.sizeOf346,
 v76:=Tryz.zeroValue346,
 t77:=Tryz.underlying259,
 a77:=Tryz.isAgg259,
 z77:=Tryz.sizeOf259,
 v77:=Tryz.zeroValue259}
end Go.Proofs
namespace Go.Sl
open Go.Proofs
set_option maxRecDepth 4000
theorem Order_ok{κ:Ctx}{I:List Item}(a c:Pt):eu prog κ 154 [.agg #[e7 (a.u),e7 (a.v)],.agg #[e7 (c.u),e7 (c.v)]] I (λr J=>r=e7 (Pt.cmp a c)/\I=J):=by
 refine Ce2 Tryz.func154 C C ?_
 refine Ai (Ge1 (A9 (cs:=[_,_]) C C C) λb1=>Ge1 (A9 (cs:=[_,_]) C C C) λb2=>Ga C (Af (Ap (Bl mixed (Bt (e8 b2 [e7 (c.u),e7 (c.v)] 135::e8 b1 [e7 (a.u),e7 (a.v)] 135::I) 12 (Dr 0 C (Ab fld135_0 C) (Dr 1 C (As ef) ?_)))))))
 refine Dr 2 C (Ab fld135_0 C) (Dr 3 C (As ef) ?_)
 refine Dr 5 C (Ab fld135_1 C) (Dr 6 C (As ef) ?_)
 refine Dr 7 C (Ab fld135_1 C) (Dr 8 C (As ef) ?_)
 refine Ds1 4 (Sc0 C (Ah call225 C C (Compare_ok a.u c.u)) ?_)
 refine Ds1 9 (Sc0 C (Ah call225 C C (Compare_ok a.v c.v)) ?_)
 refine Ds1 10 (Se1 C (Cf (α:=Int) (cs:=[_,_]) (xs:=[cmpI a.u c.u,cmpI a.v c.v]) Ac ef C C dc dc C C C C) λad3=>?_)
 refine Ds1 11 (Sc0 C (Ah call224 C C (Or_ok Bk)) ?_)
 refine C0 kr ?_
 refine E4 (i:=12) kr C (Cg C) C C (Bb C) ?_
 refine C1 kr ?_
 exact Aj (Aq (S1 4 C) (A2 (A6 C C I A3 ⟨by rw [←orL_cmp],rfl⟩)))
variable {κ:Ctx}{I:List Item}
structure Lk where
 u:Int
 v:Int
 w:Int
 lb:Int
 sg:Int
 tm:Int
deriving DecidableEq,Inhabited
instance:Enc Lk:=⟨λx=>[e7 x.u,e7 x.v,e7 x.w,e7 x.lb,e7 x.sg,e7 x.tm],6,by omega,λ_=>rfl,λx u h=>by
 simp only [List.mem_cons,List.not_mem_nil,or_false] at h
 rcases h with rfl|rfl|rfl|rfl|rfl|rfl<;>rfl⟩
theorem eqt146:EqT prog 146 Lk:=EqT.flat (λp:Lk=>[p.u,p.v,p.w,p.lb,p.sg,p.tm]) (λ_=>rfl) (λx y h=>by cases x;cases y;simpa using h) (n:=6) (λ_=>rfl) kr kr kr kr kr
structure Ev where
 kd:Int
 tm:Int
 u:Int
 v:Int
 w:Int
 lb:Int
 sg:Int
deriving DecidableEq,Inhabited
instance:Enc Ev:=⟨λx=>[e7 x.kd,e7 x.tm,e7 x.u,e7 x.v,e7 x.w,e7 x.lb,e7 x.sg],7,by omega,λ_=>rfl,λx u h=>by
 simp only [List.mem_cons,List.not_mem_nil,or_false] at h
 rcases h with rfl|rfl|rfl|rfl|rfl|rfl|rfl<;>rfl⟩
def Lk.p(l:Lk):Pt:=⟨l.u,l.v⟩
def Lk.cmp(a c:Lk):Int:=Pt.cmp a.p c.p
def Lk.lt(a c:Lk):Prop:=Pt.lt a.p c.p
instance:DecidableRel Lk.lt:=λa c=>by unfold Lk.lt;infer_instance
def rightW(w lb sg:Int):Prop:=1<=w/\w<=1000/\0<=lb/\lb<=15/\(sg=1\/sg = -1)
instance (w lb sg:Int):Decidable (rightW w lb sg):=by unfold rightW;infer_instance
def badL(n:Int)(l:Lk):Int:=if l.u<0\/l.v<=l.u\/n<=l.v then 6 else if ¬rightW l.w l.lb l.sg then 1 else if l.tm<0\/1048576<l.tm then 9 else 0
def checkS(n:Int)(xs:List Lk):Int:=if n<0\/64<n then 1 else scanL (badL n) Lk.lt none xs
theorem badL_zero{n:Int}{l:Lk}(h1:¬(l.u<0\/l.v<=l.u\/n<=l.v))(h2:rightW l.w l.lb l.sg)(h3:¬(l.tm<0\/1048576<l.tm)):badL n l=0:=by
 unfold badL;rw [if_neg h1,if_neg (λh=>h h2),if_neg h3]
theorem badL_six{n:Int}{l:Lk}(h1:l.u<0\/l.v<=l.u\/n<=l.v):badL n l=6:=by unfold badL;rw [if_pos h1]
theorem badL_one{n:Int}{l:Lk}(h1:¬(l.u<0\/l.v<=l.u\/n<=l.v))(h2:¬rightW l.w l.lb l.sg):badL n l=1:=by unfold badL;rw [if_neg h1,if_pos h2]
theorem badL_nine{n:Int}{l:Lk}(h1:¬(l.u<0\/l.v<=l.u\/n<=l.v))(h2:rightW l.w l.lb l.sg)(h3:l.tm<0\/1048576<l.tm):badL n l=9:=by unfold badL;rw [if_neg h1,if_neg (λh=>h h2),if_pos h3]
def checkW(kd wd mo:Int):Int:=if kd<1\/3<kd then 8 else if (kd=2/\(wd<1\/1048576<wd))\/(kd≠2/\wd≠0)\/(kd=3/\(mo<0\/2016<mo))\/(kd≠3/\mo≠0) then 1 else 0
theorem CheckW_ok(kd wd mo:Int):eu prog κ 78 [.agg #[e7 kd,e7 wd,e7 mo]] I (λr J=>r=e7 (checkW kd wd mo)/\I=J):=by
 refine Ce1 Tryz.func78 C C ?_
 refine Ai (Ge1 (A9 (cs:=[_,_,_]) C C C) λb1=>Ga C (Af (Ai (Ga C (Ga C (Af (Ap (Ai (Gf fld31_0 C (Gl ef ?_))))))))))
 refine Af (A0 (Ai (Gr (Bu C C) (Ga C (Af (A8 C (λc7=>?_) (λc7=>?_)))))))
 ·refine Ay (Ak (Aj (Ap (Ai (Gf fld31_1 C (Gl ef ?_))))))
  refine Gm C (Gr (Br C C) (Gm C (Bg (d:=37) C (λg37=>?_) (λg37=>?_))))
  ·exact eb (eb (eb (eb (Gr (Ar C C) (Af (Aq (S1 42 C) (Cq C (Ai (Ga C (Af (A2 (Am (A6 C C I A3 ⟨by rw [show checkW kd wd mo=1 from by unfold checkW;split<;>first|rfl|omega|(split<;>first|rfl|omega)],rfl⟩)))))))))))))
  ·refine e9 (Ab fld31_2 C) (e9 (As ef) ?_)
   refine e9 (Ad C) (e9 (Br C C) (Gr (Ao C C) (Af (Aq (S1 42 C) (A8 C (λc42=>?_) (λc42=>?_))))))
   ·exact Ai (Ga C (Af (A2 (Am (A6 C C I A3 ⟨by rw [show checkW kd wd mo=1 from by unfold checkW;split<;>first|rfl|omega|(split<;>first|rfl|omega)],rfl⟩)))))
   ·exact Ay (Aj (Ai (Ga C (Af (A2 (A6 C C I A3 ⟨by rw [show checkW kd wd mo=0 from by unfold checkW;split<;>first|rfl|omega|(split<;>first|rfl|omega)],rfl⟩))))))
 ·refine Ai (Gr (Bu C C) (Ga C (Af (A8 C (λc9=>?_) (λc9=>?_)))))
  ·refine Ap (Ai (Gf fld31_1 C (Gl ef ?_)))
   refine Gr (A7 C C) (Gm C (Bg (d:=14) C (λg14=>?_) (λg14=>?_)))
   ·exact eb (eb (eb (Gr (Ar C C) (Af (Aq (S3 18 4 1 C C C) (Cq C (Ai (Ga C (Af (A2 (Am (Av (Am (A6 C C I A3 ⟨by rw [show checkW kd wd mo=1 from by unfold checkW;split<;>first|rfl|omega|(split<;>first|rfl|omega)],rfl⟩))))))))))))))
   ·refine e9 (Ab fld31_1 C) (e9 (As ef) ?_)
    refine e9 (Bw C C) (Gr (Ao C C) (Af (Aq (S3 18 4 1 C C C) (A8 C (λc18=>?_) (λc18=>?_)))))
    ·exact Ai (Ga C (Af (A2 (Am (Av (Am (A6 C C I A3 ⟨by rw [show checkW kd wd mo=1 from by unfold checkW;split<;>first|rfl|omega|(split<;>first|rfl|omega)],rfl⟩)))))))
    ·refine Ay (Aj (Ax (Gf fld31_1 C (Gl ef ?_))))
     refine Ga C (Bi (Ak (Aj (Ap (Ai (Gf fld31_1 C (Gl ef ?_)))))))
     refine Gm C (Gr (Br C C) (Gm C (Bg (d:=37) C (λg37=>?_) (λg37=>?_))))
     ·exact eb (eb (eb (eb (Gr (Ar C C) (Af (Aq (S1 42 C) (Cq C (Ai (Ga C (Af (A2 (Am (A6 C C I A3 ⟨by rw [show checkW kd wd mo=1 from by unfold checkW;split<;>first|rfl|omega|(split<;>first|rfl|omega)],rfl⟩)))))))))))))
     ·refine e9 (Ab fld31_2 C) (e9 (As ef) ?_)
      refine e9 (Ad C) (e9 (Br C C) (Gr (Ao C C) (Af (Aq (S1 42 C) (A8 C (λc42=>?_) (λc42=>?_))))))
      ·exact Ai (Ga C (Af (A2 (Am (A6 C C I A3 ⟨by rw [show checkW kd wd mo=1 from by unfold checkW;split<;>first|rfl|omega|(split<;>first|rfl|omega)],rfl⟩)))))
      ·exact Ay (Aj (Ai (Ga C (Af (A2 (A6 C C I A3 ⟨by rw [show checkW kd wd mo=0 from by unfold checkW;split<;>first|rfl|omega|(split<;>first|rfl|omega)],rfl⟩))))))
  ·refine Ai (Gr (Bu C C) (Ga C (Af (A8 C (λc21=>?_) (λc21=>?_)))))
   ·refine Ap (Ai (Gf fld31_2 C (Gl ef ?_)))
    refine Gr (A7 C C) (Gm C (Bg (d:=26) C (λg26=>?_) (λg26=>?_)))
    ·exact eb (eb (eb (Gr (Ar C C) (Af (Aq (S3 30 3 1 C C C) (Cq C (Ai (Ga C (Af (A2 (Am (Av (Am (A6 C C I A3 ⟨by rw [show checkW kd wd mo=1 from by unfold checkW;split<;>first|rfl|omega|(split<;>first|rfl|omega)],rfl⟩))))))))))))))
    ·refine e9 (Ab fld31_2 C) (e9 (As ef) ?_)
     refine e9 (Bw C C) (Gr (Ao C C) (Af (Aq (S3 30 3 1 C C C) (A8 C (λc30=>?_) (λc30=>?_)))))
     ·exact Ai (Ga C (Af (A2 (Am (Av (Am (A6 C C I A3 ⟨by rw [show checkW kd wd mo=1 from by unfold checkW;split<;>first|rfl|omega|(split<;>first|rfl|omega)],rfl⟩)))))))
     ·refine Ay (Aj (Ax (Gf fld31_2 C (Gl ef ?_))))
      refine Ga C (Bi (Ak (Aj (Ap (Ai (Gf fld31_1 C (Gl ef ?_)))))))
      refine Gm C (Gr (Br C C) (Gm C (Bg (d:=37) C (λg37=>?_) (λg37=>?_))))
      ·exact eb (eb (eb (eb (Gr (Ar C C) (Af (Aq (S1 42 C) (Cq C (Ai (Ga C (Af (A2 (Am (A6 C C I A3 ⟨by rw [show checkW kd wd mo=1 from by unfold checkW;split<;>first|rfl|omega|(split<;>first|rfl|omega)],rfl⟩)))))))))))))
      ·refine e9 (Ab fld31_2 C) (e9 (As ef) ?_)
       refine e9 (Ad C) (e9 (Br C C) (Gr (Ao C C) (Af (Aq (S1 42 C) (A8 C (λc42=>?_) (λc42=>?_))))))
       ·exact Ai (Ga C (Af (A2 (Am (A6 C C I A3 ⟨by rw [show checkW kd wd mo=1 from by unfold checkW;split<;>first|rfl|omega|(split<;>first|rfl|omega)],rfl⟩)))))
       ·exact Ay (Aj (Ai (Ga C (Af (A2 (A6 C C I A3 ⟨by rw [show checkW kd wd mo=0 from by unfold checkW;split<;>first|rfl|omega|(split<;>first|rfl|omega)],rfl⟩))))))
   ·exact Ai (Ga C (Af (Aq (S1 2 C) (A2 (Av (Am (A6 C C I A3 ⟨by rw [show checkW kd wd mo=8 from by unfold checkW;split<;>first|rfl|omega|(split<;>first|rfl|omega)],rfl⟩)))))))
theorem RightW_ok(w lb sg:Int):eu prog κ 251 [e7 w,e7 lb,e7 sg] I (λr J=>r = .bool (decide (rightW w lb sg))/\I=J):=by
 refine Ce3 Tryz.func251 C C ?_
 refine Ai (Ga C (Af (Ai (Gm C (Gr (B9 C C) (Gm C (Bg (d:=9) C (λg9=>?_) (λg9=>?_))))))))
 ·refine e9 (Ad C) (e9 (Ey C C) (Gr (Ar C C) (Gm C (Bg (d:=13) C (λg13=>?_) (λg13=>?_)))))
  ·refine e9 (Ad C) (e9 (B9 C C) (Gr (Ar C C) (Gm C (Bg (d:=17) C (λg17=>?_) (λg17=>?_)))))
   ·refine e9 (Ad C) (e9 (Ey C C) (Gr (Ar C C) (Gm C (Bg (d:=21) C (λg21=>?_) (λg21=>?_)))))
    ·refine e9 (Ad C) (e9 (Bu C C) (e9 (Ad C) (Bg (d:=24) C (λg24=>?_) (λg24=>?_))))
     ·exact eb (eb (e9 (Ar C C) (Gr (Ar C C) (Ga C (Af (Aq (S1 6 C) (A2 (A6 C C I A3 ⟨(by first|exact congrArg Value.bool (decide_eq_decide.2 (by unfold rightW;omega))|exact congrArg Value.bool (decide_eq_true (by unfold rightW;omega)).symm|exact congrArg Value.bool (decide_eq_false (by unfold rightW;omega)).symm),rfl⟩))))))))
     ·exact e9 (Ad C) (e9 (Bu C C) (e9 (Ao C C) (Gr (Ar C C) (Ga C (Af (Aq (S1 6 C) (A2 (A6 C C I A3 ⟨(by first|exact congrArg Value.bool (decide_eq_decide.2 (by unfold rightW;omega))|exact congrArg Value.bool (decide_eq_true (by unfold rightW;omega)).symm|exact congrArg Value.bool (decide_eq_false (by unfold rightW;omega)).symm),rfl⟩))))))))
    ·exact eb (eb (eb (ee (ee (eb (Gr (Ao C C) (Ga C (Af (Aq (S1 6 C) (A2 (A6 C C I A3 ⟨(by first|exact congrArg Value.bool (decide_eq_decide.2 (by unfold rightW;omega))|exact congrArg Value.bool (decide_eq_true (by unfold rightW;omega)).symm|exact congrArg Value.bool (decide_eq_false (by unfold rightW;omega)).symm),rfl⟩)))))))))))
   ·exact eb (eb (Gr (Ao C C) (Gm C (eb (eb (eb (ee (ee (eb (Gr (Ao C C) (Ga C (Af (Aq (S1 6 C) (A2 (A6 C C I A3 ⟨(by first|exact congrArg Value.bool (decide_eq_decide.2 (by unfold rightW;omega))|exact congrArg Value.bool (decide_eq_true (by unfold rightW;omega)).symm|exact congrArg Value.bool (decide_eq_false (by unfold rightW;omega)).symm),rfl⟩)))))))))))))))
  ·exact eb (eb (Gr (Ao C C) (Gm C (eb (eb (Gr (Ao C C) (Gm C (eb (eb (eb (ee (ee (eb (Gr (Ao C C) (Ga C (Af (Aq (S1 6 C) (A2 (A6 C C I A3 ⟨(by first|exact congrArg Value.bool (decide_eq_decide.2 (by unfold rightW;omega))|exact congrArg Value.bool (decide_eq_true (by unfold rightW;omega)).symm|exact congrArg Value.bool (decide_eq_false (by unfold rightW;omega)).symm),rfl⟩)))))))))))))))))))
 ·exact eb (eb (Gr (Ao C C) (Gm C (eb (eb (Gr (Ao C C) (Gm C (eb (eb (Gr (Ao C C) (Gm C (eb (eb (eb (ee (ee (eb (Gr (Ao C C) (Ga C (Af (Aq (S1 6 C) (A2 (A6 C C I A3 ⟨(by first|exact congrArg Value.bool (decide_eq_decide.2 (by unfold rightW;omega))|exact congrArg Value.bool (decide_eq_true (by unfold rightW;omega)).symm|exact congrArg Value.bool (decide_eq_false (by unfold rightW;omega)).symm),rfl⟩)))))))))))))))))))))))
theorem OrderL_ok(a c:Lk):eu prog κ 255 [.agg #[e7 (a.u),e7 (a.v),e7 (a.w),e7 (a.lb),e7 (a.sg),e7 (a.tm)],.agg #[e7 (c.u),e7 (c.v),e7 (c.w),e7 (c.lb),e7 (c.sg),e7 (c.tm)]] I (λr J=>r=e7 (Lk.cmp a c)/\I=J):=by
 refine Ce2 Tryz.func255 C C ?_
 refine Ai (Ge1 (A9 (cs:=[_,_,_,_,_,_]) C C C) λb1=>Ge1 (A9 (cs:=[_,_,_,_,_,_]) C C C) λb2=>Ga C (Af (Ap (Bl mixed (Bt (e8 b2 [e7 (c.u),e7 (c.v),e7 (c.w),e7 (c.lb),e7 (c.sg),e7 (c.tm)] 146::e8 b1 [e7 (a.u),e7 (a.v),e7 (a.w),e7 (a.lb),e7 (a.sg),e7 (a.tm)] 146::I) 12 (Dr 0 C (Ab fld146_0 C) (Dr 1 C (As ef) ?_)))))))
 refine Dr 2 C (Ab fld146_0 C) (Dr 3 C (As ef) ?_)
 refine Dr 5 C (Ab fld146_1 C) (Dr 6 C (As ef) ?_)
 refine Dr 7 C (Ab fld146_1 C) (Dr 8 C (As ef) ?_)
 refine Ds1 4 (Sc0 C (Ah call225 C C (Compare_ok a.u c.u)) ?_)
 refine Ds1 9 (Sc0 C (Ah call225 C C (Compare_ok a.v c.v)) ?_)
 refine Ds1 10 (Se1 C (Cf (α:=Int) (cs:=[_,_]) (xs:=[cmpI a.u c.u,cmpI a.v c.v]) Ac ef C C dc dc C C C C) λad3=>?_)
 refine Ds1 11 (Sc0 C (Ah call224 C C (Or_ok Bk)) ?_)
 refine C0 kr ?_
 refine E4 (i:=12) kr C (Cg C) C C (Bb C) ?_
 refine C1 kr ?_
 exact Aj (Aq (S1 4 C) (A2 (A6 C C I A3 ⟨by rw [show Lk.cmp a c=Pt.cmp ⟨a.u,a.v⟩ ⟨c.u,c.v⟩ from rfl,←orL_cmp],rfl⟩)))
end Go.Sl
namespace Go.Sl
end Go.Sl
namespace Go.Sl
open Go.Proofs
set_option maxRecDepth 4000
theorem at_drop{α:Type}[Inhabited α](xs:List α)(l:Nat)(i:Int)(h0:0<=i):e_ (xs.drop l) i=e_ xs ((l:Int)+i):=by
 unfold e_
 rw [List.getD_eq_getElem?_getD,List.getD_eq_getElem?_getD,List.getElem?_drop]
 congr 2;omega
end Go.Sl
