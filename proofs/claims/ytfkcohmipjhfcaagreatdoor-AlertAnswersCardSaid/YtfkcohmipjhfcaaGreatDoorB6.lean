/- A part of the proofs of statements of this seat: contracts of functions, and the plain laws that they lean on. No conditions. -/
import Derived.Test.YtfkcohmipjhfcaaGreatDoorB5
import Derived.Shelf.SlSortCmp.NoneTotal
import Derived.Shelf.SlSortCmp.WholeK
set_option linter.unusedVariables false
set_option linter.unusedSimpArgs false
set_option linter.unusedSectionVars false
open Go.Proofs.Tryz (prog)
namespace Go.Sl
open Go.Proofs
set_option maxRecDepth 4000
attribute [local irreducible] W G V D A j0 Eff
theorem ar1{κ:Ctx}{I:List Item}(a c:Pt):er prog κ 84 [.agg #[e7 (a.u),e7 (a.v)],.agg #[e7 (c.u),e7 (c.v)]] I (λr J=>r = .bool (decide (Pt.lt a c))/\I=J):=by
 refine Ce2 Tryz.func84 C C ?_
 refine Aj<|Ge1 (Ay (cs:=[_,_]) C C C) λb1=>Ge1 (Ay (cs:=[_,_]) C C C) λb2=>Z ?_
 refine Au (d:=10) C (λM=>Z ?_)<|λM=>Z ?_
 ·exact Ak C C I Af ⟨(by first|exact Fz Value.bool (Fy.2<|by unfold Pt.lt;omega)|exact Fz Value.bool (D_<|by unfold Pt.lt;omega).symm|exact Fz Value.bool (E_<|by unfold Pt.lt;omega).symm),rfl⟩
 refine Au (d:=16) C (λE=>Z ?_)<|λE=>Z ?_
 ·exact Ak C C I Af ⟨(by first|exact Fz Value.bool (Fy.2<|by unfold Pt.lt;omega)|exact Fz Value.bool (D_<|by unfold Pt.lt;omega).symm|exact Fz Value.bool (E_<|by unfold Pt.lt;omega).symm),rfl⟩
 exact Ak C C I Af ⟨(by first|exact Fz Value.bool (Fy.2<|by unfold Pt.lt;omega)|exact Fz Value.bool (D_<|by unfold Pt.lt;omega).symm|exact Fz Value.bool (E_<|by unfold Pt.lt;omega).symm),rfl⟩
end Go.Sl
namespace Go.Sl
open Go.Proofs
set_option maxRecDepth 4000
end Go.Sl
namespace Go.Sl
open Go.Proofs
set_option maxRecDepth 4000
variable{a:Option Addr}{b c:Nat}{ls xs ys:List Int}{lv u v:Value}{i nodes w:Int}
variable {κ:Ctx}{I:List Item}
attribute [local irreducible] W G V D A j0 Eff
def ar4:List Int->Int->List Int
 |[],x=>[x]
 |y::ys,x=>if y<x then y::ar4 ys x else if y=x then y::ys else x::y::ys
def ofL(l:List Int):List Int:=l.foldl ar4 []
theorem bu8:∀(xs:List Int) (i:Nat) (x:Int),i<=xs.length->(∀j,j<i->e_ xs j<x)->
  (i<xs.length->e_ xs i=x->ar4 xs x=xs)/\((i=xs.length\/(i<xs.length/\x<e_ xs i))->ar4 xs x=(xs.take i++[x])++xs.drop i)
 |[],i,x,hi,h=>by
  obtain rfl:i=0:=by simpa using hi
  exact ⟨λh=>by simp at h,λ_=>rfl⟩
 |y::ys,0,x,hi,h=>by
  refine ⟨λ_ e=>?_,λe=>?_⟩
  ·have e':y=x:=e
   simp only [ar4];rw [An om,By e']
  rcases e with e|⟨_,e⟩
  ·simp at e
  have e':x<y:=e
  simp only [ar4];rw [An om,An om];rfl
 |y::ys,i+1,x,hi,h=>by
  have E:y<x:=h 0 om
  have M:∀j:Nat,e_ (y::ys) ((j+1:Nat):Int)=e_ ys j:=λj=>by rw [au2,au2];simp
  obtain ⟨h1,h2⟩:=bu8 ys i x (by simpa using hi) λj hj=>by have:=h (j+1) om;rwa [M] at this
  refine ⟨λhl e=>?_,λe=>?_⟩
  ·simp only [ar4];rw [By E,h1 (by simpa using hl)<|by rwa [M] at e]
  simp only [ar4];rw [By E,h2<|by rw [M] at e;simpa using e];rfl
theorem fh6(xs:List Int)(k:Nat)(h:k<xs.length):ofL (xs.take (k+1))=ar4 (ofL (xs.take k)) (e_ xs k):=by
 rw [Cn xs k h];simp [ofL]
theorem cw5(x y:Int):∀l,y∈ar4 l x↔y=x\/y∈l
 |[]=>by simp [ar4]
 |z::zs=>by
  simp only [ar4]
  split
  ·simp only [Gh,cw5 x y zs]
   constructor
   ·rintro (h|h|h)<;>simp [h]
   rintro (h|h|h)<;>simp [h]
  split
  ·rename_i e;subst e;simp
  simp
theorem ap1(y:Int):∀(l acc:List Int),y∈l.foldl ar4 acc↔y∈l\/y∈acc
 |[],acc=>by simp
 |x::l,acc=>by
  rw [Jp,ap1 y l,cw5]
  simp only [Gh]
  constructor
  ·rintro (h|h|h)<;>simp [h]
  rintro ((h|h)|h)<;>simp [h]
theorem af4(l:List Int)(y:Int):y∈ofL l↔y∈l:=by simp [ofL,ap1]
theorem cv1(x:Int):∀l,(ar4 l x).length<=l.length+1
 |[]=>by simp [ar4]
 |y::ys=>by
  simp only [ar4]
  split
  ·have:=cv1 x ys;simp;omega
  split<;>simp
theorem ap5(l:List Int):(ofL l).length<=l.length:=by
 have h:∀(l M:List Int),(l.foldl ar4 M).length<=l.length+M.length:=λl=>by
  induction l with
  |nil=>intro M;simp
  |cons x l ih=>intro M;have:=ih (ar4 M x);have:=cv1 x M;simp;omega
 have:=h l []
 simpa [ofL] using this
theorem gn6(hb:xs.length<17592186044415)(x:Int):er prog κ 153 [.slice a xs.length c,e7 x] (vq 3 a c xs::I) (λr J=>∃a' c',r = .slice a' (ar4 xs x).length c'/\J=vq 3 a' c' (ar4 xs x)::I):=by
 refine Bm (λw hs=>(Ed (κ:=κ)<|C_).le w hs) λao=>?_
 refine Ce2 Tryz.func153 C C ?_
 refine Aj<|Ga C<|Aq<|Aj<|Ga C<|Aq<|D2 (σ:=Nat) (λs=>([(0,.slice a xs.length c),(1,e7 x),(5,e7 ((s:Nat):Int))]:Env)) (λs=>vq 3 a c xs::I) (λs=>(s<=xs.length)/\(∀j,j<s->e_ xs j<x)/\(s=xs.length\/(s<xs.length/\¬e_ xs s<x))) ?_ ?_
 ·refine A3 (Dl (σ:=Nat) (λs=>[(5,e7 ((s:Nat):Int))]) (λ_=>[]) (λs=>(s<=xs.length)/\(∀j,j<s->e_ xs j<x)) (λs=>xs.length - s) 0 ⟨om,Et⟩ ?_)
  rintro i M
  obtain ⟨hi,hlt⟩:=M
  refine Z ?_
  refine Au (d:=11) C (λae=>Z ?_)<|λae=>Z ?_
  ·refine Am C (λaj=>Z ?_) (λaj=>Z ?_)
   ·exact Bh ((i+1)) ⟨om,(Dg hlt om)⟩
   exact Bu ((i)) ⟨om,hlt,om⟩
  exact Bu ((i)) ⟨om,hlt,om⟩
 rintro i M
 obtain ⟨hi,hlt,ax⟩:(i<=xs.length)/\(∀j,j<i->e_ xs j<x)/\(i=xs.length\/(i<xs.length/\¬e_ xs i<x)):=M
 refine Z ?_
 refine Au (d:=25) C (λah=>Z ?_)<|λah=>Z ?_
 ·refine Am C (λai=>Z ?_) (λai=>Z ?_)
  ·have M:=(bu8 xs i x hi hlt).1 om om
   exact Ak C C _ Af ⟨a,c,by rw [M],by rw [M]⟩
  refine Gr (j0.hi (α:=Int) (xs:=xs) (h:=i) Ab ef C C om A6 om)<|Ge2 (Eff.clone (α:=Int) (ys:=List.take i xs) Ab ef C C C (Sl.take A6 om) (by simp only [A_,Fu,F_,Fx,Ge];omega) dc C) λaz ay=>?_
  refine Ga C<|Aq<|Ax<|A8 mixed<|Cf (vq 3 a c xs::I) 9<|Z ?_
  refine Dr 6 C (En (α:=Int) (xs:=xs) (l:=i) Ab ef C C om A6 om)<|Ds1 2<|Se1 C (Bt (α:=Int) (cs:=[_]) (xs:=[x]) Ab ef C C dc dc C C C C) λaq=>?_
  refine Ds1 3<|Se2 C (Bv (α:=Int) (e:=3) (xs:=List.take i xs) (ys:=([x]:List Int)) Ab ef C C C mm A6 (by simp only [A_,Fu,F_,Fx,Ge];omega) dc C<|λ_ _=>am) λaw av=>?_
  refine Ds1 7<|Se2 C (Bv (α:=Int) (e:=3) (xs:=(List.take i xs)++([x]:List Int)) (ys:=List.drop i xs) Ab ef C C C mm (D6 A6 om) (by simp only [A_,Fu,F_,Fx,Ge];omega) dc C<|λ_ _=>am) λab ad=>Z ?_
  have M:=(bu8 xs i x hi hlt).2 om
  exact Ak C C (vq 3 ab ad (ar4 xs x)::I) (by unfold vq;rw [M];exact Ar) ⟨ab,ad,by rw [M],rfl⟩
 refine Gr (j0.hi (α:=Int) (xs:=xs) (h:=i) Ab ef C C om A6 om)<|Ge2 (Eff.clone (α:=Int) (ys:=List.take i xs) Ab ef C C C (Sl.take A6 om) (by simp only [A_,Fu,F_,Fx,Ge];omega) dc C) λar au=>?_
 refine Ga C<|Aq<|Ax<|A8 mixed<|Cf (vq 3 a c xs::I) 9<|Z ?_
 refine Dr 6 C (En (α:=Int) (xs:=xs) (l:=i) Ab ef C C om A6 om)<|Ds1 2<|Se1 C (Bt (α:=Int) (cs:=[_]) (xs:=[x]) Ab ef C C dc dc C C C C) λap=>?_
 refine Ds1 3<|Se2 C (Bv (α:=Int) (e:=3) (xs:=List.take i xs) (ys:=([x]:List Int)) Ab ef C C C mm A6 (by simp only [A_,Fu,F_,Fx,Ge];omega) dc C<|λ_ _=>am) λak an=>?_
 refine Ds1 7<|Se2 C (Bv (α:=Int) (e:=3) (xs:=(List.take i xs)++([x]:List Int)) (ys:=List.drop i xs) Ab ef C C C mm (D6 A6 om) (by simp only [A_,Fu,F_,Fx,Ge];omega) dc C<|λ_ _=>am) λE aa=>Z ?_
 have M:=(bu8 xs i x hi hlt).2 om
 exact Ak C C (vq 3 E aa (ar4 xs x)::I) (by unfold vq;rw [M];exact Ar) ⟨E,aa,by rw [M],rfl⟩
theorem gn7{F:Item->List Item}(aa:AtF I (vq 3 a c xs) F)(hb:xs.length<17592186044415)(x:Int):er prog κ 153 [.slice a xs.length c,e7 x] I λr J=>∃E M,r = .slice E (ar4 xs x).length M/\J=F (vq 3 E M (ar4 xs x)):=
 (Ea (Z:=λ_=>[]) (X:=λy:Option Addr×Nat=>vc 3 (.slice y.1 (ar4 xs x).length y.2)<|ar4 xs x) (Post:=λr y=>r = .slice y.1 (ar4 xs x).length y.2) aa λJ _ _=>(gn6 (a:=a) (c:=c) hb x).mono λr J' ⟨E,M,h1,h2⟩=>⟨(E,M),h1,h2⟩).mono λ_ _ ⟨y,h1,h2⟩=>⟨y.1,y.2,h1,h2⟩
theorem cq8(hl:Sl κ I v xs)(hb:xs.length<17592186044415):er prog κ 82 [v] I (λr J=>∃a c,r = .slice a (ofL xs).length c/\J=vq 3 a c (ofL xs)::I):=by
 refine Bm hl.le λab=>?_
 refine Ce1 Tryz.func82 C C<|Z ?_
 refine Dl (σ:=Nat×(Option Addr)×Nat×(List Int)) (λs=>[(3,.slice s.2.1 s.2.2.2.length s.2.2.1),(8,e7 ((s.1:Nat):Int))]) (λs=>[vq 3 s.2.1 s.2.2.1 s.2.2.2]) (λs=>(s.1<=xs.length)/\(s.2.2.2=ofL (xs.take s.1))) (λs=>xs.length - s.1) (0,none,0,[]) ⟨om,rfl⟩ (hI:=(Bb _ _)) ?_
 rintro ⟨k,a,c,out⟩ hp
 dsimp only at hp ⊢
 obtain ⟨hk,ho⟩:=hp
 refine Z ?_
 refine Am C (λc9=>Z ?_)<|λc9=>Z ?_
 ·refine Gc2 (Ac c_ C C<|gn7 (by repeat (first|exact AtF.head _ _|apply AtF.tail)) (by rw [ho];have:=ap5 (xs.take k);simp only [Fx] at this;omega)<|e_ xs k) λE M=>Z ?_
  exact Bh ((k+1),(E),(M),(ar4 out<|e_ xs k))<|by dsimp only;exact ⟨om,(by rw [fh6 xs k om,←ho])⟩
 have aa:xs.take k=xs:=Gb om
 rw [aa] at ho
 subst ho
 exact Ak C C _ Af ⟨a,c,rfl,rfl⟩
theorem fo9(hu:Sl κ I u xs)(hv:Sl κ I v ys)(hb:xs.length+ys.length<17592186044415):er prog κ 27 [u,v] I (λr J=>∃a c,r = .slice a (ofL (xs++ys)).length c/\J=vq 3 a c (ofL (xs++ys))::I):=by
 refine Ce2 Tryz.func27 C C<|Z ?_
 refine Ge2 (Eff.clone (α:=Int) (ys:=xs) Ab ef C C C (Bc hu) om dc C) λae ad=>?_
 refine Gm C<|Ge2 (Bv (α:=Int) (e:=3) (xs:=xs) (ys:=ys) Ab ef C C C mm (Bc hv) om dc C<|λ_ _=>am) λab aa=>?_
 refine Gc2 (Ac c_ C C<|cq8 A6<|by simp only [A_];omega) λE M=>?_
 exact Ga C<|Aq<|Bq<|Ak C C (vq 3 E M (ofL<|xs++ys)::I) Ar ⟨E,M,rfl,rfl⟩
def W2(xs ys:List Int):List Int:=(ofL xs).filter λx=>decide (x∉ys)
theorem bh5(xs:List Int)(p:Int->Bool)(k:Nat)(h:k<xs.length):(xs.take (k+1)).filter p=(xs.take k).filter p++if p (e_ xs k) then [e_ xs k] else []:=by
 rw [Cn xs k h,Hc]
 congr 1
 by_cases hp:p (e_ xs k)<;>simp [Gw,hp]
theorem aa3(xs:List Int)(p:Int->Bool)(k:Nat)(h:k<xs.length)(M:p (e_ xs k)=true):(xs.take (k+1)).filter p=(xs.take k).filter p++[e_ xs k]:=by
 rw [bh5 xs p k h,By M]
theorem aa5(xs:List Int)(p:Int->Bool)(k:Nat)(h:k<xs.length)(M:p (e_ xs k)=false):(xs.take (k+1)).filter p=(xs.take k).filter p:=by
 rw [bh5 xs p k h,M];simp
theorem aj7(xs:List Int)(p:Int->Bool)(k:Nat):((xs.take k).filter p).length<=xs.length:=by
 have E:=Gz p (xs.take k)
 have M:=List.length_take_le' k xs
 omega
theorem db1(hu:Sl κ I u xs)(hv:Sl κ I v ys)(hb:xs.length<17592186044415):er prog κ 206 [u,v] I (λr J=>∃a c,r = .slice a (W2 xs ys).length c/\J=vq 3 a c (W2 xs ys)::I):=by
 have ae:=ap5 xs
 refine Ce2 Tryz.func206 C C<|Z ?_
 refine Gc2 (Ac c_ C C<|cq8 (Bc hu) om) λaj ai=>Z ?_
 refine Dl (σ:=Nat×(Option Addr)×Nat×(List Int)) (λs=>[(5,.slice s.2.1 s.2.2.2.length s.2.2.1),(11,e7 ((s.1:Nat):Int))]) (λs=>[vq 3 s.2.1 s.2.2.1 s.2.2.2]) (λs=>(s.1<=(ofL xs).length)/\(s.2.2.2=((ofL xs).take s.1).filter (λx=>decide<|x∉ys))) (λs=>(ofL xs).length - s.1) (0,none,0,[]) ⟨om,rfl⟩ (hI:=(Bb _ _)) ?_
 rintro ⟨k,a,c,out⟩ hp
 dsimp only at hp ⊢
 obtain ⟨hk,ho⟩:=hp
 refine Z ?_
 refine Am C (λc12=>Z ?_)<|λc12=>Z ?_
 ·refine Gc0 (Ac c_ C C<|ag7 (Bc hv)<|e_ (ofL xs) k) (Z ?_)
  refine Am C (λM=>Z ?_)<|λM=>Z ?_
  ·refine Ge1 (Bt (α:=Int) (cs:=[_]) (xs:=[e_ (ofL xs) k]) Ab ef C C dc dc C C C C) λah=>?_
   refine Ge2 (Bv (α:=Int) (e:=3) (xs:=out) (ys:=([e_ (ofL xs) k]:List Int)) Ab ef C C C mm A6 (by have:=ap5 xs;simp only [Fu,F_];rw [ho];have:=aj7 (ofL xs) (λx=>decide<|x∉ys) k;omega) dc C<|λ_ _=>am) λaa E=>Z ?_
   exact Bh ((k+1),(aa),(E),(out++([e_ (ofL xs) k]:List Int)))<|by dsimp only;exact ⟨om,(by first|rw [aa3 _ _ k om (D_ M),←ho]|rw [aa5 _ _ k om (E_ M),←ho])⟩
  exact Bh ((k+1),(a),(c),(out))<|by dsimp only;exact ⟨om,(by first|rw [aa3 _ _ k om (D_ M),←ho]|rw [aa5 _ _ k om (E_ M),←ho])⟩
 have ad:(ofL xs).take k=ofL xs:=Gb om
 rw [ad] at ho
 have ab:out=W2 xs ys:=ho
 subst ab
 exact Ak C C (vq 3 a c (W2 xs ys)::I) Ar ⟨a,c,rfl,rfl⟩
theorem fa3(hu:Sl κ I u xs)(hv:Sl κ I v ys):er prog κ 103 [u,v] I (λr J=>r = .bool (decide (∀x∈xs,x∈ys))/\I=J):=by
 refine Bm hu.le λaa=>?_
 refine Ce2 Tryz.func103 C C<|Z ?_
 refine Dl (σ:=Nat) (λs=>[(9,e7 ((s:Nat):Int))]) (λ_=>[]) (λs=>(s<=xs.length)/\(∀j,j<s->e_ xs j∈ys)) (λs=>xs.length - s) 0 ⟨om,Et⟩ ?_
 rintro k hp
 obtain ⟨hk,hn⟩:=hp
 refine Z ?_
 refine Am C (λc10=>Z ?_)<|λc10=>Z ?_
 ·refine Gc0 (Ac c_ C C<|ag7 (Bc hv)<|e_ xs k) (Z ?_)
  refine Am C (λM=>Z ?_)<|λM=>Z ?_
  ·have E:¬∀x∈xs,x∈ys:=λh=>M (h _<|B3 om om)
   exact Ak C C _ Af ⟨by rw [E_ E],rfl⟩
  exact Bh ((k+1)) ⟨om,(Dg hn<|Decidable.of_not_not M)⟩
 have E:∀x∈xs,x∈ys:=λx hx=>by obtain ⟨j,hj,he⟩:=E1 hx;rw [←he];exact hn j om
 exact Ak C C _ Af ⟨by rw [D_ E],rfl⟩
variable {κ:Ctx}{I:List Item}
theorem ax7(w:Int):y7 [] w:=λj hj=>absurd hj (Kd j)
theorem ag6{w':Int}(h:y7 xs w)(M:w<=w'):y7 xs w':=λj hj=>⟨⟨(h j hj).1.1,by have:=(h j hj).1.2;omega⟩,(h j hj).2⟩
theorem aq9(h:y7 xs w)(E:0<=w):y7 (xs++[w]) (w+1):=λj hj=>by
 by_cases hl:j<xs.length
 ·obtain ⟨⟨h1,h2⟩,h3⟩:=h j hl
  rw [D1 xs [w] j hl]
  refine ⟨⟨h1,by omega⟩,λM=>?_⟩
  have e:((j:Int) - 1)=((j - 1:Nat):Int):=by omega
  rw [e,D1 xs [w] (j - 1) om,←e]
  exact h3 M
 obtain rfl:j=xs.length:=by simp at hj;omega
 rw [cq1]
 refine ⟨⟨E,by omega⟩,λM=>?_⟩
 have e:((xs.length:Int) - 1)=((xs.length - 1:Nat):Int):=by omega
 rw [e,D1 xs [w] (xs.length - 1) om]
 exact (h _ om).1.2
theorem di5{x:Int}(h:y7 xs w)(M:x∈xs):0<=x/\x<w:=by
 obtain ⟨j,hj,E⟩:=E1 M
 rw [←E];exact (h j hj).1
theorem fa6{n:Int}(h:y7 xs w)(M:xs.length<=w.toNat)(hw:w<=n\/w=0):y7 xs n:=by
 rcases hw with hw|hw
 ·exact ag6 h hw
 subst hw
 have:xs=[]:=Hr (by simpa using M)
 subst this;exact ax7 n
theorem fq0(hl:∀q,Sl κ (R5 b lv q::I) lv ls)(h0:0<=i)(hn:nodes<=1000000000):er prog κ 28 [(pt b),e7 nodes] (e8 b [lv,e7 i] 125::I) (λr J=>∃y:Option Addr×Nat×List Int×Int,(r = .slice y.1 y.2.2.1.length y.2.1/\y7 y.2.2.1 nodes/\(y.2.2.1.length:Int)<=max nodes 0/\0<=y.2.2.2)/\J=[vq 3 y.1 y.2.1 y.2.2.1]++R5 b lv y.2.2.2::I):=by
 refine Ce2 Tryz.func28 C C<|Z ?_
 refine Dl (σ:=Int×Int×(Option Addr)×Nat×(List Int)) (λs=>[(5,.slice s.2.2.1 s.2.2.2.2.length s.2.2.2.1),(6,e7<|s.1)]) (λs=>[vq 3 s.2.2.1 s.2.2.2.1 s.2.2.2.2,e8 b [lv,e7<|s.2.1] 125]) (λs=>(0<=s.1/\(s.1<=nodes\/s.1=0))/\(0<=s.2.1)/\(y7 s.2.2.2.2 s.1)/\(s.2.2.2.2.length<=s.1.toNat)) (λs=>(nodes - s.1).toNat) (0,i,none,0,[]) ⟨⟨by omega,.inr rfl⟩,om,(ax7 _),(Gk _)⟩ (hI:=(Bb _ _)) ?_
 rintro ⟨w,q,a,c,out⟩ hp
 dsimp only at hp ⊢
 obtain ⟨hw,hq,M,E⟩:=hp
 refine Z ?_
 refine Am C (λc9=>Z ?_)<|λc9=>Z ?_
 ·refine G.e (Ac c_ C C<|F5 (by repeat (first|exact AtF.head _ _|apply AtF.tail)) (Bs (hl _) Af) om om) ?_
  rintro _ _ ⟨_,_,⟨x1,i2,rfl,ah,ai,rfl⟩,rfl,rfl⟩
  refine Z ?_
  refine Am C (λaa=>Z ?_)<|λaa=>Z ?_
  ·refine Ge1 (Bt (α:=Int) (cs:=[_]) (xs:=[w]) Ab ef C C dc dc C C C C) λae=>?_
   refine Ge2 (Bv (α:=Int) (e:=3) (xs:=out) (ys:=([w]:List Int)) Ab ef C C C mm A6 lcn dc C<|λ_ _=>am) λad ab=>Z ?_
   exact Bh ((w+1),(i2),(ad),(ab),(out++([w]:List Int)))<|by dsimp only;exact ⟨om,om,(by first|exact aq9 M hw.1|exact ag6 M om),olp⟩
  exact Bh ((w+1),(i2),(a),(c),(out))<|by dsimp only;exact ⟨om,om,(by first|exact aq9 M hw.1|exact ag6 M om),olp⟩
 exact Ak C C _ Af ⟨(a,c,out,q),⟨rfl,fa6 M E hw.2,by show (out.length:Int)<=max nodes 0;omega,hq⟩,rfl⟩
theorem gn5{F:Item->List Item}(M:AtF I (R5 b lv i) F)(hl:∀q,Sl κ (F (R5 b lv q)) lv ls)(h0:0<=i)(hn:nodes<=1000000000):er prog κ 28 [(pt b),e7 nodes] I λr J=>∃a c out i',r = .slice a out.length c/\y7 out nodes/\(out.length:Int)<=max nodes 0/\0<=i'/\J=vq 3 a c out::F (R5 b lv i'):=
 (Ea (Post:=λr (y:Option Addr×Nat×List Int×Int)=>r = .slice y.1 y.2.2.1.length y.2.1/\y7 y.2.2.1 nodes/\(y.2.2.1.length:Int)<=max nodes 0/\0<=y.2.2.2) (Z:=λy:Option Addr×Nat×List Int×Int=>[vq 3 y.1 y.2.1 y.2.2.1]) (X:=λy:Option Addr×Nat×List Int×Int=>R5 b lv y.2.2.2) M λJ _ hF=>fq0 (λq=>(hl q).fit (hF _)) h0 hn).mono λ_ _ ⟨y,⟨h1,h2,h3,E⟩,h5⟩=>⟨y.1,y.2.1,y.2.2.1,y.2.2.2,h1,h2,h3,E,h5⟩
structure Arc where
 frm:Int
 dst:Int
 cap:Int
deriving Inhabited
instance:Enc Arc:=⟨λa=>[e7 a.frm,e7 a.dst,e7 a.cap],3,by omega,λ_=>rfl,λa u h=>by
 simp only [Gh,Hy,Kx] at h
 rcases h with rfl|rfl|rfl<;>rfl⟩
structure Net where
 nodes:Int
 source:Int
 sink:Int
 j9:List Arc
structure Net.Ok (n:Net):Prop where
 lim:n.nodes<=4200/\n.j9.length<=16384
 two:2<=n.nodes
 src:0<=n.source/\n.source<n.nodes
 snk:0<=n.sink/\n.sink<n.nodes
 ne:n.source≠n.sink
 arc:∀a∈n.j9,(0<=a.frm/\a.frm<n.nodes)/\(0<=a.dst/\a.dst<n.nodes)/\a.frm≠a.dst/\0<=a.cap/\a.cap<=1099511627776
end Go.Sl
namespace Go.Sl
open Go.Proofs
set_option maxRecDepth 4000
variable{b:Nat}{lv:Value}{ls:List Int}{i most:Int}
variable {κ:Ctx}{I:List Item}
theorem ci8(hl:∀q,Sl κ (R5 b lv q::I) lv ls)(h0:0<=i)(hm:0<=most/\most<=20):er prog κ 25 [(pt b),e7 most] (e8 b [lv,e7 i] 125::I) (λr J=>∃y:Int×(Option Addr)×Nat×(List Pt)×Int,((r = .agg #[e7 y.1,.slice y.2.1 y.2.2.2.1.length y.2.2.1]/\(y.1<=most/\G8 y.1 y.2.2.2.1/\y.2.2.2.1.length<=400))/\0<=y.2.2.2.2)/\J=[vq 135 y.2.1 y.2.2.1 y.2.2.2.1]++R5 b lv y.2.2.2.2::I):=by
 refine Ce2 Tryz.func25 C C ?_
 refine Aj<|Ge1 (Ah H2 C) λb1=>Aq<|Aj<|Gm C<|Gm C<|Gr (Rad C C)<|G.e (Ac c_ C C<|F5 (by repeat (first|exact AtF.head _ _|apply AtF.tail)) (Bs (hl _) Af) om om) ?_
 rintro _ _ ⟨_,_,⟨x2,i3,rfl,a0,a5,rfl⟩,rfl,rfl⟩
 refine Gr (B1 (cells:=[_,_]) H2 E8 gq1 C C)<|Ge1 (Ah H2 C) λb4=>Ge0 (Ba H2) ?_
 refine Aq<|D2 (σ:=Int×Int) (λs=>([(0,pt b),(4,pt b1),(5,pt b4)]:Env)) (λs=>e8 b4 [e7 (s.1),.slice none 0 0] 48::e8 b1 [e7 0,.slice none 0 0] 48::e8 b [lv,e7<|s.2] 125::I) (λs=>(0<=s.1/\s.1<=most)/\(0<=s.2)) ?_ ?_
 ·refine Aj (Gf T2 C<|Gl ef ?_)
  refine Gr (Bp C C)<|Aq<|Am C (λaq=>?_)<|λaq=>?_
  ·refine A8 mixed (Cf (e8 b4 [e7 x2,.slice none 0 0] 48::e8 b1 [e7 0,.slice none 0 0] 48::I) 10<|Dr 0 C (Ad C)<|Dr 1 C (Ai T2 C)<|Dr 2 C (Bd ef) ?_)
   refine Dr 3 C (Ad C)<|Dr 4 C (Ad C)<|Dr 5 C (Rad C C)<|Ds1 6<|Se C (Ac c_ C C<|F5 (by repeat (first|exact AtF.head _ _|apply AtF.tail)) (Bs (hl _) Af) om om) ?_
   rintro _ _ ⟨_,_,⟨x5,i6,rfl,a1,a3,rfl⟩,rfl,rfl⟩
   refine ⟨Ar,?_⟩
   refine Dr 7 C (Rad C C)<|Dr 8 C (j0.min C C)<|Dr 9 C (Ai T2 C)<|De kr ?_
   refine Ae 10 C (D5 ef) ?_
   rintro _ _ ⟨rfl,rfl⟩
   refine Df kr ?_
   exact Bu ((if (x2+x5)<most then (x2+x5) else most),(i6))<|by dsimp only;exact ⟨(by refine ⟨?_,?_⟩<;>first|omega|(split<;>omega)),om⟩
  exact A4<|Bu ((x2),(i3))<|by dsimp only;exact ⟨(by refine ⟨?_,?_⟩<;>first|omega|(split<;>omega)),om⟩
 rintro ⟨nd,ai⟩ hp
 obtain ⟨ar,ax⟩:(0<=nd/\nd<=most)/\(0<=ai):=hp
 refine Aj<|Gm C<|G.e (Ac c_ C C<|F5 (by repeat (first|exact AtF.head _ _|apply AtF.tail)) (Bs (hl _) Af) om om) ?_
 rintro _ _ ⟨_,_,⟨x7,i8,rfl,az,ay,rfl⟩,rfl,rfl⟩
 refine Gr (Rad C C)<|Ga C<|Aq<|Ax<|Aj<|Ga C<|Aq<|A3<|B4 (σ:=Int×Int×(Option Addr)×Nat×(List Pt)) (λs=>([(0,pt b),(4,pt b1),(5,pt b4),(6,e7<|1+x7),(7,e7<|s.1)]:Env)) (λs=>vq 135 s.2.2.1 s.2.2.2.1 s.2.2.2.2::e8 b4 [e7 nd,.slice s.2.2.1 s.2.2.2.2.length s.2.2.2.1] 48::e8 b1 [e7 0,.slice none 0 0] 48::e8 b [lv,e7<|s.2.1] 125::I) (λs=>(0<=s.1/\s.1<=nd)/\(0<=s.2.1)/\(GI nd s.2.2.2.2 s.1 0)/\((s.2.2.2.2.length:Int)<=s.1*20)) (λs=>(nd - s.1).toNat) (0,i8,none,0,[]) ⟨om,om,GI.start,(by simp)⟩ (cx4<|Aa Co A9) (Bb _ _) ?_
 rintro ⟨u,E,a,c,es⟩ hp
 dsimp only at hp ⊢
 obtain ⟨hu,ad,hG,hlen⟩:=hp
 refine Ax<|Aj<|Gm C<|Gf T2 C<|Gl ef ?_
 refine Gr (Bp C C)<|Aq<|Am C (λaj=>?_)<|λaj=>?_
 ·refine A4 (Al<|Ax<|A3<|Aj<|Gm C<|Gr (Rad C C)<|Ga C<|Aq<|A3<|B4 (σ:=Int×Int×(Option Addr)×Nat×(List Pt)) (λs=>([(0,pt b),(4,pt b1),(5,pt b4),(6,e7<|1+x7),(7,e7 u),(8,e7<|s.1)]:Env)) (λs=>vq 135 s.2.2.1 s.2.2.2.1 s.2.2.2.2::e8 b4 [e7 nd,.slice s.2.2.1 s.2.2.2.2.length s.2.2.2.1] 48::e8 b1 [e7 0,.slice none 0 0] 48::e8 b [lv,e7<|s.2.1] 125::I) (λs=>(u+1<=s.1/\s.1<=nd)/\(0<=s.2.1)/\(GI nd s.2.2.2.2 u s.1)/\((s.2.2.2.2.length:Int)<=u*20+s.1)) (λs=>(nd - s.1).toNat) (u+1,E,a,c,es) (show (u+1<=(u+1:Int)/\(u+1:Int)<=nd)/\(0<=(E:Int))/\(GI nd (es:List Pt) u (u+1:Int))/\(((es:List Pt).length:Int)<=u*20+(u+1:Int)) from ⟨om,om,(hG.mono om),om⟩) (cx4<|Aa C<|Aa Co A9) Ar ?_)
  rintro ⟨v,an,a2,c2,aa⟩ hp
  dsimp only at hp ⊢
  obtain ⟨hw,av,M,ak⟩:=hp
  refine Ax<|Aj<|Gm C<|Gf T2 C<|Gl ef ?_
  refine Gr (Bp C C)<|Aq<|Am C (λap=>?_)<|λap=>?_
  ·refine A4 (Al<|Ax<|A3<|Aj<|Gm C<|G.e (Ac c_ C C<|F5 (by repeat (first|exact AtF.head _ _|apply AtF.tail)) (Bs (hl _) Af) om om) ?_)
   rintro _ _ ⟨_,_,⟨x9,ae,rfl,a4,au,rfl⟩,rfl,rfl⟩
   refine Gm C<|Gr (Rsu C C)<|Gr (Eo C C)<|Aq<|A0 (S7 48 0 4 5 6 7 8)<|Am C (λao=>?_)<|λao=>?_
   ·refine A1 (Gf Z3 C<|Gl bm1 ?_)
    refine Gm C<|Gm C<|Gr (B1 (cells:=[_,_]) H3 Em gh8 C C)<|Ge1 (Bt (α:=Pt) (cs:=[_,_]) (xs:=[⟨u,v⟩]) B2 H3 C C dc dc C C C C) λaw=>?_
    refine Ge2 (Bv (α:=Pt) (e:=135) (xs:=aa) (ys:=([⟨u,v⟩]:List Pt)) B2 H3 C C C mm A6 lcn dc C<|λ_ _=>am) λah ab=>?_
    refine Gf Z3 C<|Ge0 (D5 bm1) ?_
    exact Bl<|Ap<|Al<|A0 (S6 0 4 5 6 7 8)<|A1<|Gm C<|Gr (Rad C C)<|Ga C<|Bl<|Bh ((v+1),(ae),(ah),(ab),(aa++([⟨u,v⟩]:List Pt)))<|by dsimp only;exact ⟨om,om,(by first|exact M.push om om om|exact M.mono om),olp⟩
   exact A4<|Ap<|Al<|A1<|Gm C<|Gr (Rad C C)<|Ga C<|Bl<|Bh ((v+1),(ae),(a2),(c2),(aa))<|by dsimp only;exact ⟨om,om,(by first|exact M.push om om om|exact M.mono om),olp⟩
  exact B6<|Ao<|Ao<|A5<|Ap<|Al<|A1<|Gm C<|Gr (Rad C C)<|Ga C<|Bl<|Bh ((u+1),(an),(a2),(c2),(aa))<|by dsimp only;exact ⟨om,om,M.row,om⟩
 refine B6<|Ao<|Ao<|A5<|Al<|Aj<|Gl2 H2 ?_
 refine Ge0 (Ba H2) ?_
 exact Aq<|Bq<|Cv C H2 C mm C (vq 135 a c es::e8 b [lv,e7 E] 125::I) Bi ⟨(nd,a,c,es,E),⟨⟨rfl,ar.2,hG.ok om,by show es.length<=400;omega⟩,ad⟩,rfl⟩
theorem dk2{F:Item->List Item}(M:AtF I (R5 b lv i) F)(hl:∀q,Sl κ (F (R5 b lv q)) lv ls)(h0:0<=i)(E:0<=most/\most<=20):er prog κ 25 [(pt b),e7 most] I λr J=>∃y:Int×(Option Addr)×Nat×(List Pt)×Int,((r = .agg #[e7 y.1,.slice y.2.1 y.2.2.2.1.length y.2.2.1]/\(y.1<=most/\G8 y.1 y.2.2.2.1/\y.2.2.2.1.length<=400))/\0<=y.2.2.2.2)/\J=[vq 135 y.2.1 y.2.2.1 y.2.2.2.1]++F (R5 b lv y.2.2.2.2):=
 Ea (Post:=λr (y:Int×(Option Addr)×Nat×(List Pt)×Int)=>(r = .agg #[e7 y.1,.slice y.2.1 y.2.2.2.1.length y.2.2.1]/\(y.1<=most/\G8 y.1 y.2.2.2.1/\y.2.2.2.1.length<=400))/\0<=y.2.2.2.2) (Z:=λy:Int×(Option Addr)×Nat×(List Pt)×Int=>[vq 135 y.2.1 y.2.2.1 y.2.2.2.1]) (X:=λy:Int×(Option Addr)×Nat×(List Pt)×Int=>R5 b lv y.2.2.2.2) M λJ _ hF=>ci8 (λq=>(hl q).fit (hF _)) h0  E
end Go.Sl
namespace Go.Sl
open Go.Proofs Go.Shelf Go.RowKit Go.Lib Go.Sort
variable{P:Program}{κ:Ctx}{I:List Item}
section
variable {α:Type}[Enc α][Inhabited α]
theorem bq3(d:Array α):flatK Enc.enc (Enc.sz α) d=(cells d.toList).toArray:=by
 apply Array.ext
 ·simp [n3]
 intro t h1 h2
 have aa:t<d.size*Enc.sz α:=by simpa using h1
 have M:0<Enc.sz α:=Enc.pos
 have hi:t / Enc.sz α<d.size:=Nat.div_lt_of_lt_mul (by rw [Kh];exact aa)
 have hj:t % Enc.sz α<Enc.sz α:=Na _ M
 have e1:t=t / Enc.sz α*Enc.sz α+t % Enc.sz α:=by rw [Kh];exact (Nat.div_add_mod t<|Enc.sz α).symm
 have E:=T5 d.toList (t / Enc.sz α) (t % Enc.sz α) (by simpa using hi) hj
 rw [←e1] at E
 have e3:(cells d.toList)[t]? = some ((cells d.toList)[t]'(by simpa using h2)):=Hd _
 rw [e3] at E
 have hlen:t % Enc.sz α<(Enc.enc<|d.toList[t / Enc.sz α]'(by simpa using hi)).length:=by rw [Enc.len];exact hj
 rw [Hd hlen] at E
 have e4:=Option.some.inj E
 simp only [List.getElem_toArray]
 rw [e4]
 simp [flatK,Ly,hi,Enc.len,hj]
theorem do8{ρ:Ren}(L:SlLaysF0.n6 P ρ)(aE:∀w,(isAgg (ρ.t 24)).run P w = .ok true w)(zE:∀w,(Go.sizeOf (ρ.t 24)).run P w = .ok (Enc.sz α) w)(cf:α->α->Int)(hO:SWO (ltOf cf))(g:Nat)(cb:Array Value)
  (eg:∀args w,(callFunc g args).run P w = .ok (.enter g args) w) (ak:∀(x y:α) (W:World),Calls P g (#[.agg (Enc.enc x).toArray,.agg (Enc.enc y).toArray]++cb) W λe w'=>e = .returned (.int .i64<|cf x y)/\∃q os',w'=grow (W.drewN q) os')
  {e:TypeId} {ad:Option Addr} {c:Nat} {xs:List α} (hc:0<c) (az:xs.length<4611686018427387904):er P κ (ρ.f 6) [.slice ad xs.length c,.func (.func g) #[] cb] (vc e (.slice ad xs.length c) xs::I) λr J=>∃ys:List α,(r = .tuple #[]/\ys.Perm xs/\ys.Pairwise λa b=>ltOf cf b a=false)/\J=[]++vc e (.slice ad ys.length c) ys::I:=by
 intro w hs
 obtain ⟨ay,_⟩:=hs.ok _ C_
 obtain ⟨a',a3,hv,hl,aj,aw,an⟩:=ay
 cases hv
 obtain ⟨b,off,cur,rfl,hb,ai,aq⟩:=an hc
 have ar:b<w.heap.size:=(Jy.1 hb).1
 have a5:=n3 xs
 have a4:xs.length*Enc.sz α<=c*Enc.sz α:=Hs _ aj
 have hH:HoldsK Enc.enc (Enc.sz α) w b off xs.toArray:=λj hj=>by
  rw [bq3] at hj ⊢
  have M:j<(cells xs).length:=by simpa using hj
  have h1:=aq j ((cells xs)[j]) (Hd M)
  refine ⟨?_,by simp [World.frozen?,hb]⟩
  rw [cell_of_row w b (off+j) cur e (0,0) hb,h1]
  simp [Ly,M]
 have h:=AnyQ.slices_SortFunc L (Enc.sz α) aE zE Enc.enc Enc.len Enc.one cf hO g cb b off c xs.toArray w eg (λm os dk _ x y=>ak x y _) hH ar (by simpa using az)
 refine Calls.mono h ?_
 rintro e' w' ⟨rfl,E,n,os,⟨ap,_,aa⟩,ah,rfl⟩
 have ae:E.size=xs.length:=by simpa using ap
 have ab:E.toList.Perm xs:=by
  have e1:E.extract 0 xs.toArray.size=E:=by rw [←ap];simp
  have e2:xs.toArray.extract 0 xs.toArray.size=xs.toArray:=by simp
  rw [e1,e2] at aa
  exact aa
 have hlen:E.toList.length=xs.length:=by simpa using ae
 refine ⟨_,_,rfl,⟨E.toList,⟨rfl,ab,?_⟩,rfl⟩,?_⟩
 ·rw [Ho]
  intro i j hi hj au
  have:=ah i j (Le _) au (by simpa [ae] using hj)
  simp only [Hl] at hi hj
  rw [Ly E i hi,Ly E j hj] at this
  simpa using this
 show Sep κ _ (vc e (.slice (some ⟨b,off,none⟩) E.toList.length c) E.toList::I)
 refine hs.upd (At.head _ _ _) rfl ⟨rfl,by simp [sortWorldK,putRowK,Sort.grow]⟩ rfl (by simp [sortWorldK,putRowK]) (λk hk a0=>?_) ?_ λk hk=> .inl ?_
 ·have a1:k≠b:=λax=>a0 (by subst ax;exact ⟨off,xs.length,c,rfl,hc⟩)
  simp only [sortWorldK,Sort.grow,putRowK,putRow,mapBlock]
  rw [Jr (by simpa using hk),Mn,An<|λe=>a1 e.symm]
  rfl
 ·refine ⟨_,c,rfl,n3 _,by rw [hlen];exact aj,aw,λ_=>⟨b,off,putCells id off (flatK Enc.enc (Enc.sz α) E) cur,rfl,?_,?_,λj u hj=>?_⟩⟩
  ·simp only [sortWorldK,Sort.grow,putRowK,putRow,mapBlock]
   rw [Jr (by simpa using ar),Mn,By rfl]
   show (w.heap[b]?).map _=_
   rw [hb];rfl
  ·simpa [putCells] using ai
  have M:j<(cells E.toList).length:=(He.1 hj).1
  have a7:j<xs.length*Enc.sz α:=by rw [n3,hlen] at M;exact M
  have ao:off+j<cur.size:=by omega
  rw [bq3]
  simp only [putCells,Array.getElem?_mapIdx,Ld ao,Option.map_some]
  rw [By ⟨by omega,by simpa using M⟩,Jj]
  rw [Hd M] at hj
  simpa [Ly,M] using hj
 obtain ⟨o',n',c',av,a6⟩:=hk
 cases av
 exact ⟨off,xs.length,c,rfl,hc⟩
theorem ff4{ρ:Ren}(L:SlLaysF0.n6 P ρ)(aE:∀w,(isAgg (ρ.t 24)).run P w = .ok true w)(zE:∀w,(Go.sizeOf (ρ.t 24)).run P w = .ok (Enc.sz α) w)(E:α->α->Int)(hO:SWO (ltOf E))(g:Nat)(cb:Array Value)
  (eg:∀args w,(callFunc g args).run P w = .ok (.enter g args) w) (M:∀(x y:α) (W:World),Calls P g (#[.agg (Enc.enc x).toArray,.agg (Enc.enc y).toArray]++cb) W λe w'=>e = .returned (.int .i64<|E x y)/\∃q os',w'=grow (W.drewN q) os')
  {e:TypeId} {ad:Option Addr} {c:Nat} {xs:List α} (aa:xs.length<4611686018427387904):er P κ (ρ.f 6) [.slice ad xs.length c,.func (.func g) #[] cb] (vc e (.slice ad xs.length c) xs::I) λr J=>∃ys:List α,(r = .tuple #[]/\ys.Perm xs/\ys.Pairwise λa b=>ltOf E b a=false)/\J=[]++vc e (.slice ad ys.length c) ys::I:=by
 by_cases hc:0<c
 ·exact do8 L aE zE E hO g cb eg M hc aa
 intro w hs
 obtain ⟨ab,_⟩:=hs.ok _ C_
 obtain ⟨a',ah,hv,hl,ai,aj,ae⟩:=ab
 cases hv
 obtain rfl:xs=[]:=Hr (by omega)
 refine Calls.mono (AnyF.slices_SortFunc_none L ad c _ w) ?_
 rintro e' w' ⟨rfl,rfl⟩
 exact ⟨_,_,rfl,⟨[],⟨rfl,List.Perm.nil,List.Pairwise.nil⟩,rfl⟩,hs⟩
end
theorem fy7{f:FuncId}{M:List Value}{v:Value}{W:World}(h:er P ⟨W.os,W.tape,W.output,W.drawn⟩ f M [old W.heap.size W] λr J=>r=v/\[old W.heap.size W]=J) :
  Calls P f M.toArray W λe w'=>e = .returned v/\∃q aa,w'=Sort.grow (W.drewN q) aa:=(h W<|Sep.begin W).mono λe w' ⟨r,J,he,⟨hv,hJ⟩,hs⟩=>by
 subst hv hJ
 refine ⟨he,w'.drawn - W.drawn,w'.heap.extract W.heap.size w'.heap.size,?_⟩
 have hb:=hs.below C_
 have ai:∀k,k<W.heap.size->w'.heap[k]? = W.heap[k]? :=(hs.ok _ C_).1
 have hd:=hs.tape.2
 have E:w'.heap=W.heap++w'.heap.extract W.heap.size w'.heap.size:=by
  apply Array.ext_getElem?
  intro k
  by_cases hk:k<W.heap.size
  ·rw [Jr hk];exact ai k hk
  rw [Array.getElem?_append_right (by omega),Array.getElem?_extract]
  have ao:=hb.size
  by_cases hk2:k<w'.heap.size
  ·rw [By (by omega)];congr 1;omega
  rw [Array.getElem?_eq_none (by omega)]
  split
  ·omega
  rfl
 have e:W.drawn+(w'.drawn - W.drawn)=w'.drawn:=by have:W.drawn<=w'.drawn:=hd;omega
 have ah:w'.os=W.os:=hs.os
 have ad:w'.tape=W.tape:=hs.tape.1
 have aj:w'.output=W.output:=hs.output
 obtain ⟨ae,ak,ab,aa,an⟩:=w'
 simp only [Sort.grow,World.drewN] at *
 subst ah ad aj
 rw [e,←E]
end Go.Sl
namespace Go.Proofs
def Tryz.be6:Go.Shelf.Ren:=⟨fun |6=>321|15=>218|14=>337|28=>269|29=>270|20=>343|21=>344|22=>345|23=>346|24=>347|25=>348|26=>349|27=>350|46=>352|47=>305|48=>306|49=>353|50=>354|57=>355|n=>n,fun |22=>109|24=>146|25=>279|3=>3|39=>181|0=>0|53=>291|55=>175|4=>4|46=>285|45=>284|50=>273|5=>5|9=>9|66=>320|70=>324|76=>346|77=>259|n=>n,fun |n=>n⟩
theorem Tryz.fx3:Go.Proofs.SlLaysF0.n6 prog Tryz.be6:={
 mixed:=by kernel_rfl,
 f6:=⟨Tryz.f321.name,by decide,Tryz.func321.trans<|congrArg some<|by kernel_rfl⟩,
 f14:=⟨Tryz.f337.name,by decide,Tryz.func337.trans<|congrArg some<|by kernel_rfl⟩,
 f15:=Tryz.func218.trans (congrArg some<|by kernel_rfl),
 f20:=⟨Tryz.f343.name,by decide,Tryz.func343.trans<|congrArg some<|by kernel_rfl⟩,
 f21:=⟨Tryz.f344.name,by decide,Tryz.func344.trans<|congrArg some<|by kernel_rfl⟩,
 f22:=⟨Tryz.f345.name,by decide,Tryz.func345.trans<|congrArg some<|by kernel_rfl⟩,
 f23:=⟨Tryz.f346.name,by decide,Tryz.func346.trans<|congrArg some<|by kernel_rfl⟩,
 f24:=⟨Tryz.f347.name,by decide,Tryz.func347.trans<|congrArg some<|by kernel_rfl⟩,
 f25:=⟨Tryz.f348.name,by decide,Tryz.func348.trans<|congrArg some<|by kernel_rfl⟩,
 f26:=⟨Tryz.f349.name,by decide,Tryz.func349.trans<|congrArg some<|by kernel_rfl⟩,
 f27:=⟨Tryz.f350.name,by decide,Tryz.func350.trans<|congrArg some<|by kernel_rfl⟩,
 f28:=Tryz.func269.trans (congrArg some<|by kernel_rfl),
 f29:=Tryz.func270.trans (congrArg some<|by kernel_rfl),
 f46:=⟨Tryz.f352.name,by decide,Tryz.func352.trans<|congrArg some<|by kernel_rfl⟩,
 f47:=Tryz.func305.trans (congrArg some<|by kernel_rfl),
 f48:=Tryz.func306.trans (congrArg some<|by kernel_rfl),
 f49:=⟨Tryz.f353.name,by decide,Tryz.func353.trans<|congrArg some<|by kernel_rfl⟩,
 f50:=⟨Tryz.f354.name,by decide,Tryz.func354.trans<|congrArg some<|by kernel_rfl⟩,
 f57:=⟨Tryz.f355.name,by decide,Tryz.func355.trans<|congrArg some<|by kernel_rfl⟩,
 t0:=Tryz.underlying0,
 a0:=Tryz.isAgg0,
 z0:=Tryz.sizeOf0,
 v0:=Tryz.zeroValue0,
 t3:=Tryz.underlying3,
 a3:=Tryz.isAgg3,
 z3:=Tryz.sizeOf3,
 v3:=Tryz.zeroValue3,
 t4:=Tryz.underlying4,
 a4:=Tryz.isAgg4,
 z4:=Tryz.sizeOf4,
 v4:=Tryz.zeroValue4,
 t5:=Tryz.underlying5,
 a5:=Tryz.isAgg5,
 z5:=Tryz.sizeOf5,
 v5:=Tryz.zeroValue5,
 t9:=Tryz.underlying9,
 a9:=Tryz.isAgg9,
 z9:=Tryz.sizeOf9,
 v9:=Tryz.zeroValue9,
 t22:=Tryz.underlying109,
 a22:=Tryz.isAgg109,
 z22:=Tryz.sizeOf109,
 v22:=Tryz.zeroValue109,
 t25:=Tryz.underlying279,
 a25:=Tryz.isAgg279,
 z25:=Tryz.sizeOf279,
 v25:=Tryz.zeroValue279,
 t39:=Tryz.underlying181,
 a39:=Tryz.isAgg181,
 z39:=Tryz.sizeOf181,
 v39:=Tryz.zeroValue181,
 t45:=Tryz.underlying284,
 a45:=Tryz.isAgg284,
 z45:=Tryz.sizeOf284,
 v45:=Tryz.zeroValue284,
 t46:=Tryz.underlying285,
 a46:=Tryz.isAgg285,
 z46:=Tryz.sizeOf285,
 v46:=Tryz.zeroValue285,
 t50:=Tryz.underlying273,
 a50:=Tryz.isAgg273,
 z50:=Tryz.sizeOf273,
 v50:=Tryz.zeroValue273,
 t53:=Tryz.underlying291,
 a53:=Tryz.isAgg291,
 z53:=Tryz.sizeOf291,
 v53:=Tryz.zeroValue291,
 t55:=Tryz.underlying175,
 a55:=Tryz.isAgg175,
 z55:=Tryz.sizeOf175,
 v55:=Tryz.zeroValue175,
 t66:=Tryz.underlying320,
 a66:=Tryz.isAgg320,
 z66:=Tryz.sizeOf320,
 v66:=Tryz.zeroValue320,
 t70:=Tryz.underlying324,
 a70:=Tryz.isAgg324,
 z70:=Tryz.sizeOf324,
 v70:=Tryz.zeroValue324,
 t76:=Tryz.underlying346,
 a76:=Tryz.isAgg346,
 z76:=Tryz.sizeOf346,
 v76:=Tryz.zeroValue346,
 t77:=Tryz.underlying259,
 a77:=Tryz.isAgg259,
 z77:=Tryz.sizeOf259,
 v77:=Tryz.zeroValue259}
end Go.Proofs
namespace Go.Sl
open Go.Proofs
set_option maxRecDepth 4000
variable{κ:Ctx}{I:List Item}
theorem fq6(a c:Pt):er prog κ 154 [.agg #[e7 (a.u),e7 (a.v)],.agg #[e7 (c.u),e7 (c.v)]] I (λr J=>r=e7 (Pt.cmp a c)/\I=J):=by
 refine Ce2 Tryz.func154 C C ?_
 refine Aj<|Ge1 (Ay (cs:=[_,_]) C C C) λb1=>Ge1 (Ay (cs:=[_,_]) C C C) λE=>Ga C<|Aq<|Ax<|A8 mixed<|C1 12<|Dr 0 C (Ai bb5 C)<|Dr 1 C (Bd ef) ?_
 refine Dr 2 C (Ai bb5 C)<|Dr 3 C (Bd ef) ?_
 refine Dr 5 C (Ai bb4 C)<|Dr 6 C (Bd ef) ?_
 refine Dr 7 C (Ai bb4 C)<|Dr 8 C (Bd ef) ?_
 refine Ds1 4<|Sc0 C (Ac c_ C C<|V0 a.u c.u) ?_
 refine Ds1 9<|Sc0 C (Ac c_ C C<|V0 a.v c.v) ?_
 refine Ds1 10<|Se1 C (Bt (α:=Int) (cs:=[_,_]) (xs:=[cm2 a.u c.u,cm2 a.v c.v]) Ab ef C C dc dc C C C C) λM=>?_
 refine Ds1 11<|Sc0 C (Ac c_ C C<|gc9 A6) ?_
 refine De kr ?_
 refine Ft (i:=12) kr C (Ci C) C C (Bo C) ?_
 refine Df kr ?_
 exact Al<|A0 (S1 4)<|Bq<|Ak C C I Af ⟨by rw [←dq7],rfl⟩
theorem gk4{α:Type}[Inhabited α]{xs ys:List α}(hl:xs.length=ys.length)(h:∀j,j<xs.length->e_ xs j=e_ ys j):xs=ys:=by
 refine Ma hl λj M E=>?_
 have:=h j M
 rwa [Cj xs j M,Cj ys j E] at this
theorem gp0{E:Option Addr}{M lc:Nat} :
    er prog κ 16 [.slice E M lc] I (λr J=>r = .bool (decide<|(M:Int)<=500)/\I=J):=by
 refine Ce1 Tryz.func16 C C ?_
 exact Aj<|Ga C<|Aq<|Aj<|Gm C<|Gr (Bj Ab C)<|Gr (E4 C C)<|Ga C<|Aq<|Bq<|Ak C C I Af ⟨rfl,rfl⟩
end Go.Sl
namespace Go.Sl
open Go.Proofs
set_option maxRecDepth 4000
variable{c:Nat}{xs:List Int}{a:Option Addr}{n:Int}
variable {κ:Ctx}{I:List Item}
attribute [local irreducible] W G V D A j0 Eff
theorem bu1{e:TypeId}{ad:Option Addr}(M:xs.length<4611686018427387904):er prog κ 142 [.slice ad xs.length c] (vc e (.slice ad xs.length c) xs::I) λr J=>r = .tuple #[]/\J=vc e (.slice ad xs.length c) (Y4 xs)::I:=
 (dp0 (κ:=κ) (I:=I) Tryz.gr2 (e:=e) (ad:=ad) (c:=c) M).mono λr J ⟨h1,E⟩=>⟨h1,by rw [E,Ex]⟩
theorem cs2(ar:xs.length<1000000000000):er prog κ 143 [.slice a xs.length c] (vq 3 a c xs::I) (λr J=>r = .slice a (N9 xs xs.length).length c/\J=vq 3 a c (N9 xs xs.length)::I):=by
 refine Bm (vc.cap C_) λaq=>?_
 refine Ce1 Tryz.func143 C C ?_
 refine Aj<|Ga C<|Aq<|Ax<|Aj<|Gm C<|Gr (Bj Ab C)<|Gr (Bp C C)<|Aq<|Am C (λc8=>?_)<|λc8=>?_
 ·refine Aj (Gm C<|Ga C<|Aq<|Bq<|Az ?_)
  have hc:N9 xs xs.length=xs:=(ax1 (λj h1 h2=>by omega)<|Gk _).trans (Hx)
  exact Ak C C (vq 3 a c (N9 xs xs.length)::I) (by unfold vq;rw [hc];exact Ar) ⟨by rw [hc],rfl⟩
 refine A4<|Al<|Ax<|Aj<|Ga C<|Aq<|A3<|B4 (σ:=Nat) (λs=>([(0,.slice a xs.length c),(3,e7 ((s:Nat):Int))]:Env)) (λs=>vq 3 a c xs::I) (λs=>(1<=s/\s<=xs.length)/\(∀j,j<s->0<j->e_ xs j≠e_ xs ((j:Int) - 1))) (λs=>xs.length - s) 1 ⟨om,(λj h1 h2=>by omega)⟩ (Aa C<|Aa Co A9) Ar ?_
 rintro k hp
 obtain ⟨hk,ae⟩:=hp
 refine Ax<|Aj<|Gm C<|Gm C<|Gr (Bj Ab C)<|Gr (Bp C C)<|Aq<|Am C (λc13=>?_)<|λc13=>?_
 ·refine A4 (Al<|Ax<|A3<|Ax<|A8 mixed<|C1 10<|Dr 0 C (Ad C)<|Dr 1 C (Ad C)<|Dr 2 C (A2 (α:=Int) (xs:=xs) Ab ef C C A6 om<|by first|omega|(simp only [Ge];omega))<|Dr 3 C (B8 (xs:=xs) ef C A6 om<|by first|omega|(simp only [Ge];omega))<|Dr 4 C (Ad C)<|Dr 5 C (Ad C)<|Dr 6 C (Rsu C C)<|Dr 7 C (A2 (α:=Int) (xs:=xs) Ab ef C C A6 om<|by first|omega|(simp only [Ge];omega))<|Dr 8 C (B8 (xs:=xs) ef C A6 om<|by first|omega|(simp only [Ge];omega))<|Dr 9 C (B7 C C)<|Dz<|Al<|A0 (S3 25 0 3)<|Am C (λad=>?_)<|λad=>?_)
  ·refine Aj (Gm C<|Gm C<|Gr (En (α:=Int) (xs:=xs) (l:=k) Ab ef C C om A6 om)<|Ga C<|Aq<|Ax<|Aj<|Ga C<|Aq<|A3<|B4 (σ:=Nat×Nat×(List Int)) (λs=>([(0,.slice a xs.length c),(3,e7 ((s.1:Nat):Int)),(4,.slice (M0 a c k<|Enc.sz Int) (List.drop k xs).length (c - k)),(5,e7 ((s.2.1:Nat):Int))]:Env)) (λs=>vc 3 (.slice a xs.length c) (s.2.2)::I) (λs=>(1<=s.2.1/\k+s.2.1<=xs.length)/\(s.2.2.length=xs.length)/\(1<=s.1/\s.1<k+s.2.1)/\(s.2.2.take s.1=N9 xs (k+s.2.1))/\(∀j,k+s.2.1<=j+1->e_ s.2.2 j=e_ xs j)) (λs=>xs.length - (k+s.2.1)) (k,1,xs) (show (1<=(1:Nat)/\k+(1:Nat)<=xs.length)/\((xs:List Int).length=xs.length)/\(1<=(k:Nat)/\(k:Nat)<k+(1:Nat))/\((xs:List Int).take (k:Nat)=N9 xs (k+(1:Nat)))/\(∀j,k+(1:Nat)<=j+1->e_ (xs:List Int) j=e_ xs j) from ⟨om,om,om,(by rw [←ax1 ae om];simp only [N9];rw [By ⟨by omega,ad⟩]),(λ_ _=>rfl)⟩) (Aa C<|Aa Co<|Aa C<|Aa Co A9) Ar ?_)
   rintro ⟨m,q,ys⟩ hp
   dsimp only at hp ⊢
   obtain ⟨hq,an,hm,ah,M⟩:=hp
   have au:(List.drop k xs).length=xs.length - k:=Ge
   have ak:=M (k+q) om
   have ab:=M (k+q - 1) om
   rw [show ((k+q - 1:Nat):Int)=((k+q:Nat):Int) - 1 by omega] at ab
   refine Ax<|Aj<|Gm C<|Gm C<|Gr (Bj Ab C)<|Gr (Bp C C)<|Aq<|Am C (λao=>?_)<|λao=>?_
   ·refine A4 (Al<|Ax<|A3<|Ax<|A8 mixed<|C1 10<|Dr 0 C (Ad C)<|Dr 1 C (Ad C)<|Dr 2 C (A2 (α:=Int) (xs:=List.drop k ys) Ab ef C C (Ff A6 om<|by rw [Ge];omega) om<|by first|omega|(simp only [Ge];omega))<|Dr 3 C (B8 (xs:=List.drop k ys) ef C (Ff A6 om<|by rw [Ge];omega) om<|by first|omega|(simp only [Ge];omega))<|Dr 4 C (Ad C)<|Dr 5 C (Ad C)<|Dr 6 C (Rsu C C)<|Dr 7 C (A2 (α:=Int) (xs:=List.drop k ys) Ab ef C C (Ff A6 om<|by rw [Ge];omega) om<|by first|omega|(simp only [Ge];omega))<|Dr 8 C (B8 (xs:=List.drop k ys) ef C (Ff A6 om<|by rw [Ge];omega) om<|by first|omega|(simp only [Ge];omega))<|Dr 9 C (Cu C C)<|Dz<|Al<|A0 (S5 44 0 3 4 5)<|Am C (λE=>?_)<|λE=>?_)
    ·refine Aj (Gm C<|Gm C<|Gm C<|Gm C<|Gr (A2 (α:=Int) (xs:=List.drop k ys) Ab ef C C (Ff A6 om<|by rw [Ge];omega) om<|by first|omega|(simp only [Ge];omega))<|Gr (B8 (xs:=List.drop k ys) ef C (Ff A6 om<|by rw [Ge];omega) om<|by first|omega|(simp only [Ge];omega))<|Gr (A2 (α:=Int) (xs:=ys) Ab ef C C A6 om<|by first|omega|(simp only [Ge];omega))<|Ge0 (Cr (α:=Int) (xs:=ys) (e:=3) (new:=e_ (List.drop k ys) q) ef C C C om (by first|omega|(simp only [Ge];omega)) am) ?_)
     refine Aq<|A1<|Gm C<|Gr (Rad C C)<|Ga C<|Bl<|Ap<|Al<|A0 (S4 3 0 4 5)<|A1<|Gm C<|Gr (Rad C C)<|Ga C<|Bl ?_
     have aa:e_ (List.drop k ys) q=e_ ys ((k+q:Nat):Int):=by rw [bc2 _ _ _ om];congr 1
     have ai:e_ (List.drop k ys) ((q:Int) - 1)=e_ ys (((k+q:Nat):Int) - 1):=by rw [bc2 _ _ _ om];congr 1;omega
     have aj:List.set ys ((m:Int)).toNat (e_ (List.drop k ys) q)=ys.set m (e_ ys ((k+q:Nat):Int)):=by rw [←aa];rfl
     rw [aj]
     rw [aa,ai] at E
     exact Bh ((m+1),(q+1),(ys.set m<|e_ ys ((k+q:Nat):Int))) (by dsimp only;exact ⟨om,(by rw [Gd];exact an),om,(by rw [show k+(q+1)=k+q+1 by omega];exact dy1 ah om E ak ab),(λj hj=>by rw [aq7 _ _ _ _ om,An om];exact M j om)⟩) (hlt:=by (try dsimp only);exact (by simp only [Ge] at *; omega))
    refine A4<|Ap<|Al<|A1<|Gm C<|Gr (Rad C C)<|Ga C<|Bl ?_
    have aa:e_ (List.drop k ys) q=e_ ys ((k+q:Nat):Int):=by rw [bc2 _ _ _ om];congr 1
    have ai:e_ (List.drop k ys) ((q:Int) - 1)=e_ ys (((k+q:Nat):Int) - 1):=by rw [bc2 _ _ _ om];congr 1;omega
    rw [aa,ai] at E
    exact Bh ((m),(q+1),(ys)) (by dsimp only;exact ⟨om,om,om,(by rw [show k+(q+1)=k+q+1 by omega];exact dh4 ah om E ak ab),(λj hj=>M j om)⟩) (hlt:=by (try dsimp only);exact (by simp only [Ge] at *; omega))
   refine B6<|Ao<|Ao<|A5<|Al<|Aj<|Gm C<|Gm C<|Gr (En (α:=Int) (xs:=ys) (l:=m) Ab ef C C om A6 om)<|Ge0 (Eff.clear (α:=Int) (k:=m) (xs:=ys) Ab ef (z6.cons C z6.nil) C C om am) ?_
   refine Aq<|Aj<|Gm C<|Gm C<|Gr (j0.fk7 (h:=m) Ab ef C C om om)<|Ga C<|Aq<|A0 (S1 2)<|Bq<|Bf<|Az<|Az<|Bf<|Az ?_
   have hc:ys.take m=N9 xs xs.length:=by rw [ah];congr 1;omega
   have ap:(N9 xs xs.length).length=m:=by rw [←hc,Fx,an,Nat.min_eq_left om]
   exact Ak C C (vq 3 a c (N9 xs xs.length)::I) (by unfold vq;rw [←hc];exact Ar) ⟨by rw [ap],rfl⟩
  exact A4<|Ap<|Al<|A1<|Gm C<|Gr (Rad C C)<|Ga C<|Bl<|Bh ((k+1)) ⟨om,(Dg ae<|λ_=>ad)⟩
 refine B6<|Ao<|Ao<|A5<|Al<|Aj<|Gm C<|Ga C<|Aq<|Bq ?_
 have hc:N9 xs xs.length=xs:=(ax1 (λj h1 h2=>ae j om h2)<|Gk _).trans (Hx)
 exact Ak C C (vq 3 a c (N9 xs xs.length)::I) (by unfold vq;rw [hc];exact Ar) ⟨by rw [hc],rfl⟩
theorem fv5(hl:Sl κ I (.slice a xs.length c) xs)(hb:xs.length<=1000000000):er prog κ 284 [.slice a xs.length c] I (λr J=>∃a' c',r = .slice a' xs.length c'/\J=vq 3 a' c' xs::I):=by
 refine Bm (p:=a.isNone=true->xs=[]/\c=0) (λw hs hn=>hl.isNone w hs hn) λM=>?_
 refine Ce1 Tryz.func284 C C<|Z ?_
 refine Gr (j0.gk9 Ab C C)<|Aq<|D8 C (λc4=>Z ?_)<|λc4=>Z ?_
 ·obtain ⟨ab,_⟩:=M c4
  subst ab
  exact Ak C C (vq 3 none 0 ([]:List Int)::I) (Bb _ _) ⟨none,0,rfl,rfl⟩
 refine Ge1 (Eff.bs0 (α:=Int) Ab ef C) λad=>?_
 refine Gm C<|Ge2 (Bv (α:=Int) (e:=3) (xs:=([]:List Int)) (ys:=xs) Ab ef C C C mm (Bc hl) (by simp only [F_];omega) dc C<|λ_ _=>am) λaa E=>?_
 exact Ga C<|Aq<|Bq<|Ak C C (vq 3 aa E xs::I) Ar ⟨aa,E,rfl,rfl⟩
variable {κ:Ctx}{I:List Item}
structure Lk where
 u:Int
 v:Int
 w:Int
 lb:Int
 sg:Int
 tm:Int
deriving DecidableEq,Inhabited
abbrev kl(x:Lk):List Value:=[e7 x.u,e7 x.v,e7 x.w,e7 x.lb,e7 x.sg,e7 x.tm]
instance:Enc Lk:=⟨λx=>(kl x),6,by omega,λ_=>rfl,λx u h=>by
 simp only [Gh,Hy,Kx] at h
 rcases h with rfl|rfl|rfl|rfl|rfl|rfl<;>rfl⟩
theorem dw4:EqT prog 146 Lk:=EqT.flat (λp:Lk=>[p.u,p.v,p.w,p.lb,p.sg,p.tm]) (λ_=>rfl) (λx y h=>by cases x;cases y;simpa using h) (n:=6) (λ_=>rfl) kr kr kr kr kr
structure Ev where
 kd:Int
 tm:Int
 u:Int
 v:Int
 w:Int
 lb:Int
 sg:Int
deriving DecidableEq,Inhabited
abbrev ye(x:Ev):List Value:=[e7 x.kd,e7 x.tm,e7 x.u,e7 x.v,e7 x.w,e7 x.lb,e7 x.sg]
instance:Enc Ev:=⟨λx=>(ye x),7,by omega,λ_=>rfl,λx u h=>by
 simp only [Gh,Hy,Kx] at h
 rcases h with rfl|rfl|rfl|rfl|rfl|rfl|rfl<;>rfl⟩
def Lk.p(l:Lk):Pt:=⟨l.u,l.v⟩
def Lk.cmp(a c:Lk):Int:=Pt.cmp a.p c.p
def Lk.lt(a c:Lk):Prop:=Pt.lt a.p c.p
instance:DecidableRel Lk.lt:=λa c=>by unfold Lk.lt;infer_instance
def F0(w lb sg:Int):Prop:=1<=w/\w<=1000/\0<=lb/\lb<=15/\(sg=1\/sg = -1)
instance (w lb sg:Int):Decidable (F0 w lb sg):=by unfold F0;infer_instance
def az9(n:Int)(l:Lk):Int:=if l.u<0\/l.v<=l.u\/n<=l.v then 6 else if ¬F0 l.w l.lb l.sg then 1 else if l.tm<0\/1048576<l.tm then 9 else 0
def j8(n:Int)(xs:List Lk):Int:=if n<0\/64<n then 1 else R3 (az9 n) Lk.lt none xs
theorem Z7{l:Lk}(E:¬(l.u<0\/l.v<=l.u\/n<=l.v))(M:F0 l.w l.lb l.sg)(h3:¬(l.tm<0\/1048576<l.tm)):az9 n l=0:=by
 unfold az9;rw [An E,An<|λh=>h M,An h3]
theorem P9{l:Lk}(M:l.u<0\/l.v<=l.u\/n<=l.v):az9 n l=6:=by unfold az9;rw [By M]
theorem Q0{l:Lk}(E:¬(l.u<0\/l.v<=l.u\/n<=l.v))(M:¬F0 l.w l.lb l.sg):az9 n l=1:=by unfold az9;rw [An E,By M]
theorem W4{l:Lk}(E:¬(l.u<0\/l.v<=l.u\/n<=l.v))(M:F0 l.w l.lb l.sg)(h3:l.tm<0\/1048576<l.tm):az9 n l=9:=by unfold az9;rw [An E,An (λh=>h M),By h3]
def r7(kd wd mo:Int):Int:=if kd<1\/3<kd then 8 else if (kd=2/\(wd<1\/1048576<wd))\/(kd≠2/\wd≠0)\/(kd=3/\(mo<0\/2016<mo))\/(kd≠3/\mo≠0) then 1 else 0
theorem qw{kd wd mo r:Int}(h:r7 kd wd mo=r:=by unfold r7;split<;>first|rfl|omega|(split<;>first|rfl|omega)):r7 kd wd mo=r:=h
theorem az7{L:Env}{k:Nat}{u:Bool}{p:Prop}[Decidable p](h:look L k=some (.bool u))(e:u=decide p:=by first|exact (D_ om).symm|exact (E_ om).symm|exact Fy.2 om):look L k=some (.bool (decide p)):=by rw [h,e]
theorem bk6(kd wd mo:Int):er prog κ 78 [.agg #[e7 kd,e7 wd,e7 mo]] I (λr J=>r=e7 (r7 kd wd mo)/\I=J):=by
 refine Ce1 Tryz.func78 C C ?_
 refine Aj<|Ge1 (Ay (cs:=[_,_,_]) C C C) λb1=>Z ?_
 refine Am C (λc7=>Z ?_)<|λc7=>Z ?_
 ·refine Au (d:=37) C (λM=>Z ?_) (λM=>Z ?_)
  ·exact Ak C C I Af ⟨by rw [show r7 kd wd mo=1 from qw],rfl⟩
  refine Am C (λE=>Z ?_)<|λE=>Z ?_
  ·exact Ak C C I Af ⟨by rw [show r7 kd wd mo=1 from qw],rfl⟩
  exact Ak C C I Af ⟨by rw [show r7 kd wd mo=0 from qw],rfl⟩
 refine Am C (λc9=>Z ?_)<|λc9=>Z ?_
 ·refine Au (d:=14) C (λab=>Z ?_) (λab=>Z ?_)
  ·exact Ak C C I Af ⟨by rw [show r7 kd wd mo=1 from qw],rfl⟩
  refine Am C (λae=>Z ?_)<|λae=>Z ?_
  ·exact Ak C C I Af ⟨by rw [show r7 kd wd mo=1 from qw],rfl⟩
  refine Au (d:=37) C (λM=>Z ?_)<|λM=>Z ?_
  ·exact Ak C C I Af ⟨by rw [show r7 kd wd mo=1 from qw],rfl⟩
  refine Am C (λE=>Z ?_)<|λE=>Z ?_
  ·exact Ak C C I Af ⟨by rw [show r7 kd wd mo=1 from qw],rfl⟩
  exact Ak C C I Af ⟨by rw [show r7 kd wd mo=0 from qw],rfl⟩
 refine Am C (λad=>Z ?_)<|λad=>Z ?_
 ·refine Au (d:=26) C (λaa=>Z ?_) (λaa=>Z ?_)
  ·exact Ak C C I Af ⟨by rw [show r7 kd wd mo=1 from qw],rfl⟩
  refine Am C (λah=>Z ?_)<|λah=>Z ?_
  ·exact Ak C C I Af ⟨by rw [show r7 kd wd mo=1 from qw],rfl⟩
  refine Au (d:=37) C (λM=>Z ?_)<|λM=>Z ?_
  ·exact Ak C C I Af ⟨by rw [show r7 kd wd mo=1 from qw],rfl⟩
  refine Am C (λE=>Z ?_)<|λE=>Z ?_
  ·exact Ak C C I Af ⟨by rw [show r7 kd wd mo=1 from qw],rfl⟩
  exact Ak C C I Af ⟨by rw [show r7 kd wd mo=0 from qw],rfl⟩
 exact Ak C C I Af ⟨by rw [show r7 kd wd mo=8 from qw],rfl⟩
theorem ae2(kd wd mo:Int):er prog κ 85 [.agg #[e7 kd,e7 wd,e7 mo]] I (λr J=>r=e7 (r7 kd wd mo)/\I=J):=by
 refine Ce1 Tryz.func85 C C ?_
 refine Aj<|Ge1 (Ay (cs:=[_,_,_]) C C C) λb1=>Z ?_
 refine Au (d:=6) C (λg6=>Z ?_)<|λg6=>Z ?_
 ·exact Ak C C I Af ⟨by rw [show r7 kd wd mo=8 from qw],rfl⟩
 refine Am C (λc10=>Z ?_)<|λc10=>?_
 ·exact Ak C C I Af ⟨by rw [show r7 kd wd mo=8 from qw],rfl⟩
 refine A4<|Al<|Ax<|D2 (σ:=Nat) (λs=>([(1,pt b1),(33,.bool<|decide<|(kd=2/\(wd<1\/1048576<wd))\/(kd≠2/\wd≠0))]:Env)) (λs=>e8 b1 [e7 kd,e7 wd,e7 mo] 31::I) (λs=>True) ?_ ?_
 ·refine Z ?_
  refine Au (d:=14) C (λah=>Z ?_)<|λah=>Z ?_
  ·refine Au (d:=18) C (λai=>Z ?_) (λai=>Z ?_)
   ·exact Bu ((0)) trivial (hL:=(Aa C<|Aa (az7 C) A9))
   refine Au (d:=24) C (λad=>Z ?_)<|λad=>Z ?_
   ·exact Bu ((0)) trivial (hL:=(Aa C<|Aa (az7 C) A9))
   refine Au (d:=28) C (λM=>Z ?_)<|λM=>Z ?_
   ·exact Bu ((0)) trivial (hL:=(Aa C<|Aa (az7 C) A9))
   exact Bu ((0)) trivial (hL:=(Aa C<|Aa (az7 C) A9))
  refine Au (d:=28) C (λM=>Z ?_)<|λM=>Z ?_
  ·exact Bu ((0)) trivial (hL:=(Aa C<|Aa (az7 C) A9))
  exact Bu ((0)) trivial (hL:=(Aa C<|Aa (az7 C) A9))
 rintro u0 hp
 show W prog κ 57 _ _ ([(1,pt b1),(33,.bool<|decide<|(kd=2/\(wd<1\/1048576<wd))\/(kd≠2/\wd≠0))]:Env) (e8 b1 [e7 kd,e7 wd,e7 mo] 31::I)
 refine Am C (λaa=>Z ?_)<|λaa=>?_
 ·exact Ak C C I Af ⟨by rw [show r7 kd wd mo=1 from qw],rfl⟩
 refine A4<|Al<|Ax<|D2 (σ:=Nat) (λs=>([(56,.bool<|decide<|(kd=3/\(mo<0\/2016<mo))\/(kd≠3/\mo≠0))]:Env)) (λs=>e8 b1 [e7 kd,e7 wd,e7 mo] 31::I) (λs=>True) ?_ ?_
 ·refine Z ?_
  refine Au (d:=37) C (λak=>Z ?_)<|λak=>Z ?_
  ·refine Au (d:=41) C (λae=>Z ?_) (λae=>Z ?_)
   ·exact Bu ((0)) trivial (hL:=(Aa (az7 C) A9))
   refine Au (d:=47) C (λab=>Z ?_)<|λab=>Z ?_
   ·exact Bu ((0)) trivial (hL:=(Aa (az7 C) A9))
   refine Au (d:=51) C (λE=>Z ?_)<|λE=>Z ?_
   ·exact Bu ((0)) trivial (hL:=(Aa (az7 C) A9))
   exact Bu ((0)) trivial (hL:=(Aa (az7 C) A9))
  refine Au (d:=51) C (λE=>Z ?_)<|λE=>Z ?_
  ·exact Bu ((0)) trivial (hL:=(Aa (az7 C) A9))
  exact Bu ((0)) trivial (hL:=(Aa (az7 C) A9))
 rintro u0 hp
 show W prog κ 57 _ _ ([(56,.bool<|decide<|(kd=3/\(mo<0\/2016<mo))\/(kd≠3/\mo≠0))]:Env) (e8 b1 [e7 kd,e7 wd,e7 mo] 31::I)
 refine Am C (λaj=>Z ?_)<|λaj=>Z ?_
 ·exact Ak C C I Af ⟨by rw [show r7 kd wd mo=1 from qw],rfl⟩
 exact Ak C C I Af ⟨by rw [show r7 kd wd mo=0 from qw],rfl⟩
theorem ch9(w lb sg:Int):er prog κ 251 [e7 w,e7 lb,e7 sg] I (λr J=>r = .bool (decide (F0 w lb sg))/\I=J):=by
 refine Ce3 Tryz.func251 C C<|Z ?_
 refine Au (d:=9) C (λg9=>Z ?_)<|λg9=>Z ?_
 ·refine Au (d:=13) C (λE=>Z ?_) (λE=>Z ?_)
  ·refine Au (d:=17) C (λab=>Z ?_) (λab=>Z ?_)
   ·refine Au (d:=21) C (λM=>Z ?_) (λM=>Z ?_)
    ·refine Au (d:=24) C (λaa=>Z ?_) (λaa=>Z ?_)
     ·exact Ak C C I Af ⟨(by first|exact Fz Value.bool (Fy.2<|by unfold F0;omega)|exact Fz Value.bool (D_<|by unfold F0;omega).symm|exact Fz Value.bool (E_<|by unfold F0;omega).symm),rfl⟩
     exact Ak C C I Af ⟨(by first|exact Fz Value.bool (Fy.2<|by unfold F0;omega)|exact Fz Value.bool (D_<|by unfold F0;omega).symm|exact Fz Value.bool (E_<|by unfold F0;omega).symm),rfl⟩
    exact Ak C C I Af ⟨(by first|exact Fz Value.bool (Fy.2<|by unfold F0;omega)|exact Fz Value.bool (D_<|by unfold F0;omega).symm|exact Fz Value.bool (E_<|by unfold F0;omega).symm),rfl⟩
   exact Ak C C I Af ⟨(by first|exact Fz Value.bool (Fy.2<|by unfold F0;omega)|exact Fz Value.bool (D_<|by unfold F0;omega).symm|exact Fz Value.bool (E_<|by unfold F0;omega).symm),rfl⟩
  exact Ak C C I Af ⟨(by first|exact Fz Value.bool (Fy.2<|by unfold F0;omega)|exact Fz Value.bool (D_<|by unfold F0;omega).symm|exact Fz Value.bool (E_<|by unfold F0;omega).symm),rfl⟩
 exact Ak C C I Af ⟨(by first|exact Fz Value.bool (Fy.2<|by unfold F0;omega)|exact Fz Value.bool (D_<|by unfold F0;omega).symm|exact Fz Value.bool (E_<|by unfold F0;omega).symm),rfl⟩
theorem ag8(n a c:Int):er prog κ 226 [e7 n,e7 a,e7 c] I (λr J=>r = .bool (decide (a<=n/\n<=c))/\I=J):=by
 refine Ce3 Tryz.func226 C C<|Z ?_
 refine Au (d:=10) C (λM=>Z ?_)<|λM=>Z ?_
 ·exact Ak C C I Af ⟨(by first|exact Fz Value.bool (Fy.2<|by skip;omega)|exact Fz Value.bool (D_<|by skip;omega).symm|exact Fz Value.bool (E_<|by skip;omega).symm),rfl⟩
 exact Ak C C I Af ⟨(by first|exact Fz Value.bool (Fy.2<|by skip;omega)|exact Fz Value.bool (D_<|by skip;omega).symm|exact Fz Value.bool (E_<|by skip;omega).symm),rfl⟩
theorem dc1(w lb sg:Int):er prog κ 205 [e7 w,e7 lb,e7 sg] I (λr J=>r=e7 (if F0 w lb sg then 0 else 1)/\I=J):=by
 refine Ce3 Tryz.func205 C C<|Z ?_
 refine Gc0 (Ac c_ C C<|ag8 w 1 1000)<|Z ?_
 refine Au (d:=10) C (λM=>Z ?_)<|λM=>?_
 ·exact Ak C C I Af ⟨by rw [An (by unfold F0;omega)],rfl⟩
 refine e9 (Ad C)<|D0 (B9 C C C) (Ac c_ C C<|ag8 lb 0 15) ?_
 rintro _ _ ⟨_,_,⟨rfl,rfl⟩,rfl,rfl⟩
 refine Z ?_
 refine Au (d:=15) C (λE=>Z ?_)<|λE=>Z ?_
 ·exact Ak C C I Af ⟨by rw [An (by unfold F0;omega)],rfl⟩
 refine Au (d:=18) C (λab=>Z ?_)<|λab=>Z ?_
 ·refine Am C (λaa=>Z ?_) (λaa=>Z ?_)
  ·exact Ak C C I Af ⟨by rw [An (by unfold F0;omega)],rfl⟩
  exact Ak C C I Af ⟨by rw [By (by unfold F0;omega)],rfl⟩
 exact Ak C C I Af ⟨by rw [By (by unfold F0;omega)],rfl⟩
theorem bj9(a c:Lk):er prog κ 255 [.agg (kl a).toArray,.agg (kl c).toArray] I (λr J=>r=e7 (Lk.cmp a c)/\I=J):=by
 refine Ce2 Tryz.func255 C C ?_
 refine Aj<|Ge1 (Ay (cs:=[_,_,_,_,_,_]) C C C) λb1=>Ge1 (Ay (cs:=[_,_,_,_,_,_]) C C C) λE=>Ga C<|Aq<|Ax<|A8 mixed<|C1 12<|Z ?_
 refine Ds1 4<|Sc0 C (Ac c_ C C<|V0 a.u c.u) ?_
 refine Ds1 9<|Sc0 C (Ac c_ C C<|V0 a.v c.v) ?_
 refine Ds1 10<|Se1 C (Bt (α:=Int) (cs:=[_,_]) (xs:=[cm2 a.u c.u,cm2 a.v c.v]) Ab ef C C dc dc C C C C) λM=>?_
 refine Ds1 11<|Sc0 C (Ac c_ C C<|gc9 A6) ?_
 refine De kr ?_
 refine Ft (i:=12) kr C (Ci C) C C (Bo C) ?_
 refine Df kr<|Z ?_
 exact Ak C C I Af ⟨by rw [show Lk.cmp a c=Pt.cmp ⟨a.u,a.v⟩ ⟨c.u,c.v⟩ from rfl,←dq7],rfl⟩
theorem ac3(l:Lk):er prog κ 130 [.agg (kl l).toArray] I (λr J=>r = .agg #[e7 l.p.u,e7 l.p.v]/\I=J):=by
 refine Ce1 Tryz.func130 C C ?_
 refine Aj<|Ge1 (Ay (cs:=[_,_,_,_,_,_]) C C C) λb1=>Ge1 (Ah H3 C) λM=>Z ?_
 refine Ge0 (Ba H3) ?_
 exact Aq<|Bq<|Cv C H3 C mm C I Af ⟨rfl,rfl⟩
end Go.Sl
