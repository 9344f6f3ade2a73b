/- A part of the proofs of statements of this seat: contracts of functions, and the plain laws that they lean on. No conditions. -/
import Derived.Test.YtoagcglbkeomgaaGreatDoorV6
import Derived.Shelf.SlSortCmp.NoneTotal
import Derived.Shelf.SlSortCmp.WholeK
import Derived.MapKept
set_option linter.unusedVariables false
set_option linter.unusedSimpArgs false
set_option linter.unusedSectionVars false
open Go.Proofs.Tryz (prog)
namespace Go.Sl
open Go.Proofs
set_option maxRecDepth 4000
variable{a:Option Addr}{c:Nat}{xs:List Int}{v:Value}
variable {κ:Ctx}{I:List Item}
attribute [local irreducible] W G V D A j8 Eff
def an4:List Int->Int->List Int
 |[],x=>[x]
 |y::ys,x=>if y<x then y::an4 ys x else if y=x then y::ys else x::y::ys
def ofL(l:List Int):List Int:=l.foldl an4 []
theorem bq4:∀(xs:List Int) (i:Nat) (x:Int),i<=xs.length->(∀j,j<i->e_ xs j<x)->
  (i<xs.length->e_ xs i=x->an4 xs x=xs)/\((i=xs.length\/(i<xs.length/\x<e_ xs i))->an4 xs x=(xs.take i++[x])++xs.drop i)
 |[],i,x,hi,h=>by
  obtain rfl:i=0:=by simpa using hi
  exact ⟨λh=>by simp at h,λ_=>rfl⟩
 |y::ys,0,x,hi,h=>by
  refine ⟨λ_ e=>?_,λe=>?_⟩
  ·have e':y=x:=e
   simp only [an4];rw [An om,B_ e']
  rcases e with e|⟨_,e⟩
  ·simp at e
  have e':x<y:=e
  simp only [an4];rw [An om,An om];rfl
 |y::ys,i+1,x,hi,h=>by
  have h0:y<x:=h 0 om
  have M:∀j:Nat,e_ (y::ys) ((j+1:Nat):Int)=e_ ys j:=λj=>by rw [bo1,bo1];simp
  obtain ⟨h1,h2⟩:=bq4 ys i x (by simpa using hi) λj hj=>by have:=h (j+1) om;rwa [M] at this
  refine ⟨λhl e=>?_,λe=>?_⟩
  ·simp only [an4];rw [B_ h0,h1 (by simpa using hl)<|by rwa [M] at e]
  simp only [an4];rw [B_ h0,h2<|by rw [M] at e;simpa using e];rfl
theorem dw8(xs:List Int)(k:Nat)(h:k<xs.length):ofL (xs.take (k+1))=an4 (ofL (xs.take k)) (e_ xs k):=by
 rw [Ca xs k h];simp [ofL]
theorem cm1(x y:Int):∀l,y∈an4 l x↔y=x\/y∈l
 |[]=>by simp [an4]
 |z::zs=>by
  simp only [an4]
  split
  ·simp only [Fw,cm1 x y zs]
   constructor
   ·rintro (h|h|h)<;>simp [h]
   rintro (h|h|h)<;>simp [h]
  split
  ·rename_i e;subst e;simp
  simp
theorem an5(y:Int):∀(l acc:List Int),y∈l.foldl an4 acc↔y∈l\/y∈acc
 |[],acc=>by simp
 |x::l,acc=>by
  rw [Hy,an5 y l,cm1]
  simp only [Fw]
  constructor
  ·rintro (h|h|h)<;>simp [h]
  rintro ((h|h)|h)<;>simp [h]
theorem af8(l:List Int)(y:Int):y∈ofL l↔y∈l:=by simp [ofL,an5]
theorem ck4(x:Int):∀l,(an4 l x).length<=l.length+1
 |[]=>by simp [an4]
 |y::ys=>by
  simp only [an4]
  split
  ·have:=ck4 x ys;simp;omega
  split<;>simp
theorem bd7(l:List Int):(ofL l).length<=l.length:=by
 have h:∀(l M:List Int),(l.foldl an4 M).length<=l.length+M.length:=λl=>by
  induction l with
  |nil=>intro M;simp
  |cons x l ih=>intro M;have:=ih (an4 M x);have:=ck4 x M;simp;omega
 have:=h l []
 simpa [ofL] using this
theorem gb8(hb:xs.length<17592186044415)(x:Int):eu prog κ 167 [.slice a xs.length c,e7 x] (vk 3 a c xs::I) (λr J=>∃a' c',r = .slice a' (an4 xs x).length c'/\J=vk 3 a' c' (an4 xs x)::I):=by
 refine Bv (λw hs=>(Cz (κ:=κ)<|A_).le w hs) λaq=>?_
 refine Ce2 Tryz.func167 C C ?_
 refine Ak<|Ga C<|Ar<|Ak<|Ga C<|Ar<|W.cut (σ:=Nat) (λs=>([(0,.slice a xs.length c),(1,e7 x),(5,e7 ((s:Nat):Int))]:Env)) (λs=>vk 3 a c xs::I) (λs=>(s<=xs.length)/\(∀j,j<s->e_ xs j<x)/\(s=xs.length\/(s<xs.length/\¬e_ xs s<x))) ?_ ?_
 ·refine A7 (Dh (σ:=Nat) (λs=>[(5,e7 ((s:Nat):Int))]) (λ_=>[]) (λs=>(s<=xs.length)/\(∀j,j<s->e_ xs j<x)) (λs=>xs.length - s) 0 (show ((0:Nat)<=xs.length)/\(∀j,j<(0:Nat)->e_ xs j<x) from ⟨om,E8⟩) ?_)
  rintro i M
  obtain ⟨hi,hlt⟩:=M
  refine Z ?_
  refine A3 (d:=11) C (λah=>Z ?_)<|λah=>Z ?_
  ·refine Am C (λai=>Z ?_) (λai=>Z ?_)
   ·exact Bt ((i+1)) ⟨om,(Di hlt om)⟩
   exact Dm ((i)) ⟨om,hlt,om⟩
  exact Dm ((i)) ⟨om,hlt,om⟩
 rintro i M
 obtain ⟨hi,hlt,az⟩:(i<=xs.length)/\(∀j,j<i->e_ xs j<x)/\(i=xs.length\/(i<xs.length/\¬e_ xs i<x)):=M
 show W prog κ 46 _ _ ([(0,.slice a xs.length c),(1,e7 x),(5,e7<|(i:Int))]:Env) (vk 3 a c xs::I)
 refine Z ?_
 refine A3 (d:=25) C (λaj=>Z ?_)<|λaj=>Z ?_
 ·refine Am C (λak=>Z ?_) (λak=>Z ?_)
  ·have M:=(bq4 xs i x hi hlt).1 om om
   exact Al C C _ Ah ⟨a,c,by rw [M],by rw [M]⟩
  refine Gr (j8.hi (α:=Int) (xs:=xs) (h:=i) Ab ef C C om A5 om)<|Ge2 (E7 (α:=Int) (ys:=List.take i xs) Ab ef C C C (Sl.take A5 om) (by simp only [By,E_,Fu,Fp,Fx];omega) dc C) λaw a0=>?_
  refine Ga C<|Ar<|Ax<|Ba mixed<|Bx (vk 3 a c xs::I) 9<|Z ?_
  refine Dr 6 C (Dn (α:=Int) (xs:=xs) (l:=i) Ab ef C C om A5 om)<|Ds1 2<|Se1 C (B2 (α:=Int) (cs:=[_]) (xs:=[x]) Ab ef C C dc dc C C C C) λay=>?_
  refine Ds1 3<|Se2 C (Br (α:=Int) (e:=3) (xs:=List.take i xs) (ys:=([x]:List Int)) Ab ef C C C mm A5 (by simp only [By,E_,Fu,Fp,Fx];omega) dc C<|λ_ _=>am) λau ax=>?_
  refine Ds1 7<|Se2 C (Br (α:=Int) (e:=3) (xs:=(List.take i xs)++([x]:List Int)) (ys:=List.drop i xs) Ab ef C C C mm (Er A5 om) (by simp only [By,E_,Fu,Fp,Fx];omega) dc C<|λ_ _=>am) λad ae=>Z ?_
  have M:=(bq4 xs i x hi hlt).2 om
  exact Al C C (vk 3 ad ae (an4 xs x)::I) (by unfold vk;rw [M];exact Ai) ⟨ad,ae,by rw [M],rfl⟩
 refine Gr (j8.hi (α:=Int) (xs:=xs) (h:=i) Ab ef C C om A5 om)<|Ge2 (E7 (α:=Int) (ys:=List.take i xs) Ab ef C C C (Sl.take A5 om) (by simp only [By,E_,Fu,Fp,Fx];omega) dc C) λar av=>?_
 refine Ga C<|Ar<|Ax<|Ba mixed<|Bx (vk 3 a c xs::I) 9<|Z ?_
 refine Dr 6 C (Dn (α:=Int) (xs:=xs) (l:=i) Ab ef C C om A5 om)<|Ds1 2<|Se1 C (B2 (α:=Int) (cs:=[_]) (xs:=[x]) Ab ef C C dc dc C C C C) λap=>?_
 refine Ds1 3<|Se2 C (Br (α:=Int) (e:=3) (xs:=List.take i xs) (ys:=([x]:List Int)) Ab ef C C C mm A5 (by simp only [By,E_,Fu,Fp,Fx];omega) dc C<|λ_ _=>am) λao an=>?_
 refine Ds1 7<|Se2 C (Br (α:=Int) (e:=3) (xs:=(List.take i xs)++([x]:List Int)) (ys:=List.drop i xs) Ab ef C C C mm (Er A5 om) (by simp only [By,E_,Fu,Fp,Fx];omega) dc C<|λ_ _=>am) λaa ab=>Z ?_
 have M:=(bq4 xs i x hi hlt).2 om
 exact Al C C (vk 3 aa ab (an4 xs x)::I) (by unfold vk;rw [M];exact Ai) ⟨aa,ab,by rw [M],rfl⟩
theorem gb9{F:Item->List Item}(aa:AtF I (vk 3 a c xs) F)(hb:xs.length<17592186044415)(x:Int):eu prog κ 167 [.slice a xs.length c,e7 x] I λr J=>∃M c',r = .slice M (an4 xs x).length c'/\J=F (vk 3 M c' (an4 xs x)):=
 (Fl (Z:=λ_=>[]) (X:=λy:Option Addr×Nat=>vc 3 (.slice y.1 (an4 xs x).length y.2)<|an4 xs x) (Post:=λr y=>r = .slice y.1 (an4 xs x).length y.2) aa λJ _ _=>(gb8 (a:=a) (c:=c) hb x).mono λr J' ⟨M,c',h1,h2⟩=>⟨(M,c'),h1,h2⟩).mono λ_ _ ⟨y,h1,h2⟩=>⟨y.1,y.2,h1,h2⟩
theorem fs7(hl:Sl κ I v xs)(hb:xs.length<17592186044415):eu prog κ 140 [v] I (λr J=>∃a c,r = .slice a (ofL xs).length c/\J=vk 3 a c (ofL xs)::I):=by
 refine Bv hl.le λad=>?_
 refine Ce1 Tryz.func140 C C<|Z ?_
 refine B9 (σ:=Nat×(Option Addr)×Nat×(List Int)) (λs=>([(3,.slice s.2.1 s.2.2.2.length s.2.2.1),(6,v),(7,e7 ((xs.length:Nat):Int)),(8,e7 ((s.1:Nat):Int))]:Env)) (λs=>vk 3 s.2.1 s.2.2.1 s.2.2.2::I) (λs=>(s.1<=xs.length)/\(s.2.2.2=ofL (xs.take s.1))) (λs=>xs.length - s.1) (0,none,0,[]) (show ((0:Nat)<=xs.length)/\(([]:List Int)=ofL (xs.take (0:Nat))) from ⟨om,rfl⟩) (Aa (Db C<|by first|rfl|simp)<|cx2<|Aa Co Bb) (show Fit κ _ (vk 3 none 0 ([])::I) from (B7 _ _)) ?_
 rintro ⟨k,a,c,out⟩ hp
 dsimp only at hp ⊢
 obtain ⟨hk,ho⟩:=hp
 refine Ak<|Gr (Bl C C)<|Ar<|Ax<|Am C (λc9=>?_)<|λc9=>Z ?_
 ·refine Bc (Ao<|Ax<|A7<|Ak<|Gr (A2 (α:=Int) (xs:=xs) Ab ef C C (A4 hl) om om)<|Gr (B6 (xs:=xs) ef C (A4 hl) om om)<|Ga C<|Ar<|A6<|Gm C<|Gm C<|Gc2 (Ac c_ C C<|gb9 (by repeat (first|exact AtF.head _ _|apply AtF.tail)) (by rw [ho];have:=bd7 (xs.take k);simp only [Fp] at this;omega)<|e_ xs k) λM aa=>?_)
  show G prog κ _ _ _ _ ([(14,.slice M (an4 out<|e_ xs k).length aa),(13,e7<|e_ xs k),(12,.slice a out.length c),(5,e7<|e_ xs k),(11,e7<|e_ xs k),(10,F0 v<|((k:Int)).toNat*Enc.sz Int),(9,.bool<|decide<|(k:Int)<((xs.length:Nat):Int)),(3,.slice a out.length c),(6,v),(7,e7 ((xs.length:Nat):Int)),(8,e7<|(k:Int))]:Env) (vk 3 M aa (an4 out<|e_ xs k)::I)
  refine Z ?_
  exact Bt ((k+1),(M),(aa),(an4 out<|e_ xs k))<|by dsimp only;exact ⟨om,(by rw [dw8 xs k om,←ho])⟩
 have ab:xs.take k=xs:=Fv om
 rw [ab] at ho
 subst ho
 exact Al C C _ Ah ⟨a,c,rfl,rfl⟩
def V9(xs ys:List Int):List Int:=(ofL xs).filter λx=>decide (x∉ys)
theorem bg1(xs:List Int)(p:Int->Bool)(k:Nat)(h:k<xs.length):(xs.take (k+1)).filter p=(xs.take k).filter p++if p (e_ xs k) then [e_ xs k] else []:=by
 rw [Ca xs k h,Gj]
 congr 1
 by_cases hp:p (e_ xs k)<;>simp [Hj,hp]
theorem aa4(xs:List Int)(p:Int->Bool)(k:Nat)(h:k<xs.length)(M:p (e_ xs k)=true):(xs.take (k+1)).filter p=(xs.take k).filter p++[e_ xs k]:=by
 rw [bg1 xs p k h,B_ M]
theorem aa6(xs:List Int)(p:Int->Bool)(k:Nat)(h:k<xs.length)(M:p (e_ xs k)=false):(xs.take (k+1)).filter p=(xs.take k).filter p:=by
 rw [bg1 xs p k h,M];simp
theorem aj5(xs:List Int)(p:Int->Bool)(k:Nat):((xs.take k).filter p).length<=xs.length:=by
 have M:=Gs p (xs.take k)
 have h2:=List.length_take_le' k xs
 omega
theorem cq4{u:Value}{ys:List Int}(hu:Sl κ I u xs)(hv:Sl κ I v ys)(hb:xs.length<17592186044415):eu prog κ 102 [u,v] I (λr J=>∃a c,r = .slice a (V9 xs ys).length c/\J=vk 3 a c (V9 xs ys)::I):=by
 have ah:=bd7 xs
 refine Ce2 Tryz.func102 C C<|Z ?_
 refine Gc2 (Ac c_ C C<|fs7 (A4 hu) om) λai ak=>Z ?_
 refine Dh (σ:=Nat×(Option Addr)×Nat×(List Int)) (λs=>[(5,.slice s.2.1 s.2.2.2.length s.2.2.1),(11,e7 ((s.1:Nat):Int))]) (λs=>[vk 3 s.2.1 s.2.2.1 s.2.2.2]) (λs=>(s.1<=(ofL xs).length)/\(s.2.2.2=((ofL xs).take s.1).filter (λx=>decide<|x∉ys))) (λs=>(ofL xs).length - s.1) (0,none,0,[]) (show ((0:Nat)<=(ofL xs).length)/\(([]:List Int)=((ofL xs).take (0:Nat)).filter (λx=>decide<|x∉ys)) from ⟨om,rfl⟩) (hI:=(B7 _ _)) ?_
 rintro ⟨k,a,c,out⟩ hp
 dsimp only at hp ⊢
 obtain ⟨hk,ho⟩:=hp
 refine Z ?_
 refine Am C (λc12=>Z ?_)<|λc12=>Z ?_
 ·refine Gc0 (Ac c_ C C<|bt9 (A4 hv)<|e_ (ofL xs) k) (Z ?_)
  refine Am C (λM=>Z ?_)<|λM=>Z ?_
  ·refine Ge1 (B2 (α:=Int) (cs:=[_]) (xs:=[e_ (ofL xs) k]) Ab ef C C dc dc C C C C) λaj=>?_
   refine Ge2 (Br (α:=Int) (e:=3) (xs:=out) (ys:=([e_ (ofL xs) k]:List Int)) Ab ef C C C mm A5 (by have:=bd7 xs;simp only [E_,Fu];rw [ho];have:=aj5 (ofL xs) (λx=>decide<|x∉ys) k;omega) dc C<|λ_ _=>am) λab ad=>Z ?_
   exact Bt ((k+1),(ab),(ad),(out++([e_ (ofL xs) k]:List Int)))<|by dsimp only;exact ⟨om,(by first|rw [aa4 _ _ k om (As M),←ho]|rw [aa6 _ _ k om (D_ M),←ho])⟩
  exact Bt ((k+1),(a),(c),(out))<|by dsimp only;exact ⟨om,(by first|rw [aa4 _ _ k om (As M),←ho]|rw [aa6 _ _ k om (D_ M),←ho])⟩
 have aa:(ofL xs).take k=ofL xs:=Fv om
 rw [aa] at ho
 have ae:out=V9 xs ys:=ho
 subst ae
 exact Al C C (vk 3 a c (V9 xs ys)::I) Ai ⟨a,c,rfl,rfl⟩
end Go.Sl
namespace Go.Sl
open Go.Proofs
set_option maxRecDepth 4000
variable{xs:List Int}{w:Int}
theorem cw3(w:Int):ak1 [] w:=λj M=>absurd M (Nat.not_lt_zero j)
theorem ch2{w':Int}(h:ak1 xs w)(hw:w<=w'):ak1 xs w':=λj M=>⟨⟨(h j M).1.1,by have:=(h j M).1.2;omega⟩,(h j M).2⟩
theorem ch1(h:ak1 xs w)(h0:0<=w):ak1 (xs++[w]) (w+1):=λj hj=>by
 by_cases hl:j<xs.length
 ·obtain ⟨⟨h1,h2⟩,h3⟩:=h j hl
  rw [ad0 xs [w] j hl]
  refine ⟨⟨h1,by omega⟩,λM=>?_⟩
  have e:((j:Int) - 1)=((j - 1:Nat):Int):=by omega
  rw [e,ad0 xs [w] (j - 1) om,←e]
  exact h3 M
 obtain rfl:j=xs.length:=by simp at hj;omega
 rw [fq2]
 refine ⟨⟨h0,by omega⟩,λM=>?_⟩
 have e:((xs.length:Int) - 1)=((xs.length - 1:Nat):Int):=by omega
 rw [e,ad0 xs [w] (xs.length - 1) om]
 exact (h _ om).1.2
theorem cw4{x:Int}(h:ak1 xs w)(hx:x∈xs):0<=x/\x<w:=by
 obtain ⟨j,M,he⟩:=an6 hx
 rw [←he];exact (h j M).1
end Go.Sl
namespace Go.Sl
open Go.Proofs Go.Shelf Go.RowKit Go.Lib Go.Sort
variable{P:Program}{κ:Ctx}{I:List Item}
section
variable {α:Type}[Enc α][Inhabited α]
theorem bn1(d:Array α):flatK Enc.enc (Enc.sz α) d=(cells d.toList).toArray:=by
 apply Array.ext
 ·simp [r9]
 intro t h1 h2
 have ab:t<d.size*Enc.sz α:=by simpa using h1
 have M:0<Enc.sz α:=Enc.pos
 have hi:t / Enc.sz α<d.size:=Nat.div_lt_of_lt_mul (by rw [Nat.mul_comm];exact ab)
 have hj:t % Enc.sz α<Enc.sz α:=Nat.mod_lt _ M
 have e1:t=t / Enc.sz α*Enc.sz α+t % Enc.sz α:=by rw [Nat.mul_comm];exact (Nat.div_add_mod t<|Enc.sz α).symm
 have e2:=W1 d.toList (t / Enc.sz α) (t % Enc.sz α) (by simpa using hi) hj
 rw [←e1] at e2
 have e3:(cells d.toList)[t]? = some ((cells d.toList)[t]'(by simpa using h2)):=H_ _
 rw [e3] at e2
 have aa:t % Enc.sz α<(Enc.enc<|d.toList[t / Enc.sz α]'(by simpa using hi)).length:=by rw [Enc.len];exact hj
 rw [H_ aa] at e2
 have e4:=Option.some.inj e2
 simp only [List.getElem_toArray]
 rw [e4]
 simp [flatK,Lf,hi,Enc.len,hj]
theorem dd1{ρ:Ren}(L:SlLaysF0.n6 P ρ)(aE:∀w,(isAgg (ρ.t 24)).run P w = .ok true w)(zE:∀w,(Go.sizeOf (ρ.t 24)).run P w = .ok (Enc.sz α) w)(cf:α->α->Int)(hO:SWO (ltOf cf))(g:Nat)(cb:Array Value)
  (eg:∀args w,(callFunc g args).run P w = .ok (.enter g args) w) (ap:∀(x y:α) (W:World),Calls P g (#[.agg (Enc.enc x).toArray,.agg (Enc.enc y).toArray]++cb) W λe w'=>e = .returned (.int .i64<|cf x y)/\∃q os',w'=grow (W.drewN q) os')
  {e:TypeId} {ad:Option Addr} {c:Nat} {xs:List α} (hc:0<c) (a3:xs.length<4611686018427387904):eu P κ (ρ.f 6) [.slice ad xs.length c,.func (.func g) #[] cb] (vc e (.slice ad xs.length c) xs::I) λr J=>∃ys:List α,(r = .tuple #[]/\ys.Perm xs/\ys.Pairwise λa b=>ltOf cf b a=false)/\J=[]++vc e (.slice ad ys.length c) ys::I:=by
 intro w hs
 obtain ⟨ay,_⟩:=hs.ok _ A_
 obtain ⟨a',a5,hv,hl,ar,a1,av⟩:=ay
 cases hv
 obtain ⟨b,off,ak,rfl,hb,aj,an⟩:=av hc
 have aq:b<w.heap.size:=(Array.getElem?_eq_some_iff.1 hb).1
 have a6:=r9 xs
 have a7:xs.length*Enc.sz α<=c*Enc.sz α:=Hi _ ar
 have hH:HoldsK Enc.enc (Enc.sz α) w b off xs.toArray:=λj hj=>by
  rw [bn1] at hj ⊢
  have M:j<(cells xs).length:=by simpa using hj
  have h1:=an j ((cells xs)[j]) (H_ M)
  refine ⟨?_,by simp [World.frozen?,hb]⟩
  rw [cell_of_row w b (off+j) ak e (0,0) hb,h1]
  simp [Lf,M]
 have h:=AnyQ.slices_SortFunc L (Enc.sz α) aE zE Enc.enc Enc.len Enc.one cf hO g cb b off c xs.toArray w eg (λm os dk _ x y=>ap x y _) hH aq (by simpa using a3)
 refine Calls.mono h ?_
 rintro e' w' ⟨rfl,d',n,os,⟨au,_,aa⟩,ai,rfl⟩
 have ae:d'.size=xs.length:=by simpa using au
 have ab:d'.toList.Perm xs:=by
  have e1:d'.extract 0 xs.toArray.size=d':=by rw [←au];simp
  have e2:xs.toArray.extract 0 xs.toArray.size=xs.toArray:=by simp
  rw [e1,e2] at aa
  exact aa
 have ah:d'.toList.length=xs.length:=by simpa using ae
 refine ⟨_,_,rfl,⟨d'.toList,⟨rfl,ab,?_⟩,rfl⟩,?_⟩
 ·rw [H1]
  intro i j hi hj az
  have:=ai i j (Mq _) az (by simpa [ae] using hj)
  simp only [Hh] at hi hj
  rw [Lf d' i hi,Lf d' j hj] at this
  simpa using this
 show Sep κ _ (vc e (.slice (some ⟨b,off,none⟩) d'.toList.length c) d'.toList::I)
 refine hs.upd (At.head _ _ _) rfl ⟨rfl,by simp [sortWorldK,putRowK,Sort.grow]⟩ rfl (by simp [sortWorldK,putRowK]) (λk hk ax=>?_) ?_ λk hk=> .inl ?_
 ·have a4:k≠b:=λa0=>ax (by subst a0;exact ⟨off,xs.length,c,rfl,hc⟩)
  simp only [sortWorldK,Sort.grow,putRowK,putRow,mapBlock]
  rw [Jh (by simpa using hk),Ma,An<|λe=>a4 e.symm]
  rfl
 ·refine ⟨_,c,rfl,r9 _,by rw [ah];exact ar,a1,λ_=>⟨b,off,putCells id off (flatK Enc.enc (Enc.sz α) d') ak,rfl,?_,?_,λj u hj=>?_⟩⟩
  ·simp only [sortWorldK,Sort.grow,putRowK,putRow,mapBlock]
   rw [Jh (by simpa using aq),Ma,B_ rfl]
   show (w.heap[b]?).map _=_
   rw [hb];rfl
  ·simpa [putCells] using aj
  have M:j<(cells d'.toList).length:=(Gw.1 hj).1
  have a8:j<xs.length*Enc.sz α:=by rw [r9,ah] at M;exact M
  have ao:off+j<ak.size:=by omega
  rw [bn1]
  simp only [putCells,Array.getElem?_mapIdx,Array.getElem?_eq_getElem ao,Option.map_some]
  rw [B_ ⟨by omega,by simpa using M⟩,Kg]
  rw [H_ M] at hj
  simpa [Lf,M] using hj
 obtain ⟨o',n',c',aw,a9⟩:=hk
 cases aw
 exact ⟨off,xs.length,c,rfl,hc⟩
theorem du2{ρ:Ren}(L:SlLaysF0.n6 P ρ)(aE:∀w,(isAgg (ρ.t 24)).run P w = .ok true w)(zE:∀w,(Go.sizeOf (ρ.t 24)).run P w = .ok (Enc.sz α) w)(cf:α->α->Int)(hO:SWO (ltOf cf))(g:Nat)(cb:Array Value)
  (eg:∀args w,(callFunc g args).run P w = .ok (.enter g args) w) (M:∀(x y:α) (W:World),Calls P g (#[.agg (Enc.enc x).toArray,.agg (Enc.enc y).toArray]++cb) W λe w'=>e = .returned (.int .i64<|cf x y)/\∃q os',w'=grow (W.drewN q) os')
  {e:TypeId} {ad:Option Addr} {c:Nat} {xs:List α} (aa:xs.length<4611686018427387904):eu P κ (ρ.f 6) [.slice ad xs.length c,.func (.func g) #[] cb] (vc e (.slice ad xs.length c) xs::I) λr J=>∃ys:List α,(r = .tuple #[]/\ys.Perm xs/\ys.Pairwise λa b=>ltOf cf b a=false)/\J=[]++vc e (.slice ad ys.length c) ys::I:=by
 by_cases hc:0<c
 ·exact dd1 L aE zE cf hO g cb eg M hc aa
 intro w hs
 obtain ⟨ab,_⟩:=hs.ok _ A_
 obtain ⟨a',ae,hv,hl,ai,aj,ah⟩:=ab
 cases hv
 obtain rfl:xs=[]:=Hn (by omega)
 refine Calls.mono (AnyF.slices_SortFunc_none L ad c _ w) ?_
 rintro e' w' ⟨rfl,rfl⟩
 exact ⟨_,_,rfl,⟨[],⟨rfl,List.Perm.nil,List.Pairwise.nil⟩,rfl⟩,hs⟩
end
theorem fo3{f:FuncId}{M:List Value}{v:Value}{W:World}(h:eu P ⟨W.os,W.tape,W.output,W.drawn⟩ f M [old W.heap.size W] λr J=>r=v/\[old W.heap.size W]=J) :
  Calls P f M.toArray W λe w'=>e = .returned v/\∃q ab,w'=Sort.grow (W.drewN q) ab:=(h W<|Sep.begin W).mono λe w' ⟨r,J,he,⟨hv,hJ⟩,hs⟩=>by
 subst hv hJ
 refine ⟨he,w'.drawn - W.drawn,w'.heap.extract W.heap.size w'.heap.size,?_⟩
 have hb:=hs.below A_
 have aj:∀k,k<W.heap.size->w'.heap[k]? = W.heap[k]? :=(hs.ok _ A_).1
 have hd:=hs.tape.2
 have aa:w'.heap=W.heap++w'.heap.extract W.heap.size w'.heap.size:=by
  apply Array.ext_getElem?
  intro k
  by_cases hk:k<W.heap.size
  ·rw [Jh hk];exact aj k hk
  rw [Array.getElem?_append_right (by omega),Array.getElem?_extract]
  have ap:=hb.size
  by_cases hk2:k<w'.heap.size
  ·rw [B_ (by omega)];congr 1;omega
  rw [Array.getElem?_eq_none (by omega)]
  split
  ·omega
  rfl
 have e:W.drawn+(w'.drawn - W.drawn)=w'.drawn:=by have:W.drawn<=w'.drawn:=hd;omega
 have ak:w'.os=W.os:=hs.os
 have an:w'.tape=W.tape:=hs.tape.1
 have ai:w'.output=W.output:=hs.output
 obtain ⟨ah,ae,ad,ab,ao⟩:=w'
 simp only [Sort.grow,World.drewN] at *
 subst ak an ai
 rw [e,←aa]
end Go.Sl
namespace Go.Proofs
def Tryz.bc8:Go.Shelf.Ren:=⟨fun |6=>211|15=>181|14=>221|28=>207|29=>208|20=>224|21=>225|22=>226|23=>227|24=>228|25=>229|26=>230|27=>231|46=>233|47=>215|48=>216|49=>234|50=>235|57=>236|n=>n,fun |22=>33|24=>82|25=>202|3=>3|39=>233|0=>0|53=>251|55=>207|4=>4|46=>244|45=>243|50=>225|5=>5|9=>9|66=>256|70=>260|76=>265|77=>266|n=>n,fun |n=>n⟩
theorem Tryz.fn0:Go.Proofs.SlLaysF0.n6 prog Tryz.bc8:={
 mixed:=by kernel_rfl,
 f6:=⟨Tryz.f211.name,by decide,Tryz.func211.trans<|congrArg some<|by kernel_rfl⟩,
 f14:=⟨Tryz.f221.name,by decide,Tryz.func221.trans<|congrArg some<|by kernel_rfl⟩,
 f15:=Tryz.func181.trans (congrArg some<|by kernel_rfl),
 f20:=⟨Tryz.f224.name,by decide,Tryz.func224.trans<|congrArg some<|by kernel_rfl⟩,
 f21:=⟨Tryz.f225.name,by decide,Tryz.func225.trans<|congrArg some<|by kernel_rfl⟩,
 f22:=⟨Tryz.f226.name,by decide,Tryz.func226.trans<|congrArg some<|by kernel_rfl⟩,
 f23:=⟨Tryz.f227.name,by decide,Tryz.func227.trans<|congrArg some<|by kernel_rfl⟩,
 f24:=⟨Tryz.f228.name,by decide,Tryz.func228.trans<|congrArg some<|by kernel_rfl⟩,
 f25:=⟨Tryz.f229.name,by decide,Tryz.func229.trans<|congrArg some<|by kernel_rfl⟩,
 f26:=⟨Tryz.f230.name,by decide,Tryz.func230.trans<|congrArg some<|by kernel_rfl⟩,
 f27:=⟨Tryz.f231.name,by decide,Tryz.func231.trans<|congrArg some<|by kernel_rfl⟩,
 f28:=Tryz.func207.trans (congrArg some<|by kernel_rfl),
 f29:=Tryz.func208.trans (congrArg some<|by kernel_rfl),
 f46:=⟨Tryz.f233.name,by decide,Tryz.func233.trans<|congrArg some<|by kernel_rfl⟩,
 f47:=Tryz.func215.trans (congrArg some<|by kernel_rfl),
 f48:=Tryz.func216.trans (congrArg some<|by kernel_rfl),
 f49:=⟨Tryz.f234.name,by decide,Tryz.func234.trans<|congrArg some<|by kernel_rfl⟩,
 f50:=⟨Tryz.f235.name,by decide,Tryz.func235.trans<|congrArg some<|by kernel_rfl⟩,
 f57:=⟨Tryz.f236.name,by decide,Tryz.func236.trans<|congrArg some<|by kernel_rfl⟩,
 t0:=Tryz.underlying0,
 a0:=Tryz.isAgg0,
 z0:=Tryz.sizeOf0,
 v0:=Tryz.zeroValue0,
 t3:=Tryz.underlying3,
 a3:=Tryz.isAgg3,
 z3:=Tryz.sizeOf3,
 v3:=Tryz.zeroValue3,
 t4:=Tryz.underlying4,
 a4:=Tryz.isAgg4,
 z4:=Tryz.sizeOf4,
 v4:=Tryz.zeroValue4,
 t5:=Tryz.underlying5,
 a5:=Tryz.isAgg5,
 z5:=Tryz.sizeOf5,
 v5:=Tryz.zeroValue5,
 t9:=Tryz.underlying9,
 a9:=Tryz.isAgg9,
 z9:=Tryz.sizeOf9,
 v9:=Tryz.zeroValue9,
 t22:=Tryz.underlying33,
 a22:=Tryz.isAgg33,
 z22:=Tryz.sizeOf33,
 v22:=Tryz.zeroValue33,
 t25:=Tryz.underlying202,
 a25:=Tryz.isAgg202,
 z25:=Tryz.sizeOf202,
 v25:=Tryz.zeroValue202,
 t39:=Tryz.underlying233,
 a39:=Tryz.isAgg233,
 z39:=Tryz.sizeOf233,
 v39:=Tryz.zeroValue233,
 t45:=Tryz.underlying243,
 a45:=Tryz.isAgg243,
 z45:=Tryz.sizeOf243,
 v45:=Tryz.zeroValue243,
 t46:=Tryz.underlying244,
 a46:=Tryz.isAgg244,
 z46:=Tryz.sizeOf244,
 v46:=Tryz.zeroValue244,
 t50:=Tryz.underlying225,
 a50:=Tryz.isAgg225,
 z50:=Tryz.sizeOf225,
 v50:=Tryz.zeroValue225,
 t53:=Tryz.underlying251,
 a53:=Tryz.isAgg251,
 z53:=Tryz.sizeOf251,
 v53:=Tryz.zeroValue251,
 t55:=Tryz.underlying207,
 a55:=Tryz.isAgg207,
 z55:=Tryz.sizeOf207,
 v55:=Tryz.zeroValue207,
 t66:=Tryz.underlying256,
 a66:=Tryz.isAgg256,
 z66:=Tryz.sizeOf256,
 v66:=Tryz.zeroValue256,
 t70:=Tryz.underlying260,
 a70:=Tryz.isAgg260,
 z70:=Tryz.sizeOf260,
 v70:=Tryz.zeroValue260,
 t76:=Tryz.underlying265,
 a76:=Tryz.isAgg265,
 z76:=Tryz.sizeOf265,
 v76:=Tryz.zeroValue265,
 t77:=Tryz.underlying266,
 a77:=Tryz.isAgg266,
 z77:=Tryz.sizeOf266,
 v77:=Tryz.zeroValue266}
end Go.Proofs
namespace Go.Sl
open Go.Proofs
set_option maxRecDepth 4000
theorem cq2{κ:Ctx}{I:List Item}(a c:Pt):eu prog κ 131 [.agg #[e7 (a.u),e7 (a.v)],.agg #[e7 (c.u),e7 (c.v)]] I (λr J=>r=e7 (Pt.cmp a c)/\I=J):=by
 refine Ce2 Tryz.func131 C C ?_
 refine Ak<|Ge1 (Au (cs:=[_,_]) C C C) λb1=>Ge1 (Au (cs:=[_,_]) C C C) λb2=>Ga C<|Ar<|Ax<|Ba mixed<|Bx (e8 b2 [e7 (c.u),e7<|c.v] 105::e8 b1 [e7 (a.u),e7<|a.v] 105::I) 12<|Dr 0 C (Af N8 C)<|Dr 1 C (Bd ef) ?_
 refine Dr 2 C (Af N8 C)<|Dr 3 C (Bd ef) ?_
 refine Dr 5 C (Af N7 C)<|Dr 6 C (Bd ef) ?_
 refine Dr 7 C (Af N7 C)<|Dr 8 C (Bd ef) ?_
 refine Ds1 4<|Sc0 C (Ac c_ C C<|Z6 a.u c.u) ?_
 refine Ds1 9<|Sc0 C (Ac c_ C C<|Z6 a.v c.v) ?_
 refine Ds1 10<|Se1 C (B2 (α:=Int) (cs:=[_,_]) (xs:=[bu7 a.u c.u,bu7 a.v c.v]) Ab ef C C dc dc C C C C) λM=>?_
 refine Ds1 11<|Sc0 C (Ac c_ C C<|fs6 A5) ?_
 refine Cg kr ?_
 refine Dg (i:=12) kr C (Ap C) C C (Bh C) ?_
 refine Ch kr ?_
 exact Ao<|A1 (S1 4)<|B3<|Al C C I Ah ⟨by rw [←df3],rfl⟩
end Go.Sl
namespace Go.Sl
open Go.Proofs
set_option maxRecDepth 4000
variable{n:Int}
variable {κ:Ctx}{I:List Item}
attribute [local irreducible] W G V D A j8 Eff
structure Lk where
 u:Int
 v:Int
 w:Int
 lb:Int
 sg:Int
 tm:Int
deriving DecidableEq,Inhabited
abbrev kl(x:Lk):List Value:=[e7 x.u,e7 x.v,e7 x.w,e7 x.lb,e7 x.sg,e7 x.tm]
instance:Enc Lk:=⟨λx=>(kl x),6,by omega,λ_=>rfl,λx u h=>by
 simp only [Fw,Kb,Mo] at h
 rcases h with rfl|rfl|rfl|rfl|rfl|rfl<;>rfl⟩
theorem dz5:EqT prog 82 Lk:=EqT.flat (λp:Lk=>[p.u,p.v,p.w,p.lb,p.sg,p.tm]) (λ_=>rfl) (λx y h=>by cases x;cases y;simpa using h) (n:=6) (λ_=>rfl) kr kr kr kr kr
structure Ev where
 kd:Int
 tm:Int
 u:Int
 v:Int
 w:Int
 lb:Int
 sg:Int
deriving DecidableEq,Inhabited
abbrev ez(x:Ev):List Value:=[e7 x.kd,e7 x.tm,e7 x.u,e7 x.v,e7 x.w,e7 x.lb,e7 x.sg]
instance:Enc Ev:=⟨λx=>(ez x),7,by omega,λ_=>rfl,λx u h=>by
 simp only [Fw,Kb,Mo] at h
 rcases h with rfl|rfl|rfl|rfl|rfl|rfl|rfl<;>rfl⟩
theorem gh5:EqT prog 54 Ev:=EqT.flat (λp:Ev=>[p.kd,p.tm,p.u,p.v,p.w,p.lb,p.sg]) (λ_=>rfl) (λx y h=>by cases x;cases y;simpa using h) (n:=7) (λ_=>rfl) kr kr kr kr kr
def Lk.p(l:Lk):Pt:=⟨l.u,l.v⟩
def Lk.cmp(a c:Lk):Int:=Pt.cmp a.p c.p
def Lk.lt(a c:Lk):Prop:=Pt.lt a.p c.p
instance:DecidableRel Lk.lt:=λa c=>by unfold Lk.lt;infer_instance
def G4(w lb sg:Int):Prop:=1<=w/\w<=1000/\0<=lb/\lb<=15/\(sg=1\/sg = -1)
instance (w lb sg:Int):Decidable (G4 w lb sg):=by unfold G4;infer_instance
def ax1(n:Int)(l:Lk):Int:=if l.u<0\/l.v<=l.u\/n<=l.v then 6 else if ¬G4 l.w l.lb l.sg then 1 else if l.tm<0\/1048576<l.tm then 9 else 0
def q7(n:Int)(xs:List Lk):Int:=if n<0\/64<n then 1 else P5 (ax1 n) Lk.lt none xs
theorem ab2{l:Lk}(h1:¬(l.u<0\/l.v<=l.u\/n<=l.v))(h2:G4 l.w l.lb l.sg)(M:¬(l.tm<0\/1048576<l.tm)):ax1 n l=0:=by
 unfold ax1;rw [An h1,An<|λh=>h h2,An M]
theorem Q7{l:Lk}(M:l.u<0\/l.v<=l.u\/n<=l.v):ax1 n l=6:=by unfold ax1;rw [B_ M]
theorem Q8{l:Lk}(M:¬(l.u<0\/l.v<=l.u\/n<=l.v))(h2:¬G4 l.w l.lb l.sg):ax1 n l=1:=by unfold ax1;rw [An M,B_ h2]
theorem W2{l:Lk}(h1:¬(l.u<0\/l.v<=l.u\/n<=l.v))(h2:G4 l.w l.lb l.sg)(M:l.tm<0\/1048576<l.tm):ax1 n l=9:=by unfold ax1;rw [An h1,An (λh=>h h2),B_ M]
def s7(kd wd mo:Int):Int:=if kd<1\/3<kd then 8 else if (kd=2/\(wd<1\/1048576<wd))\/(kd≠2/\wd≠0)\/(kd=3/\(mo<0\/2016<mo))\/(kd≠3/\mo≠0) then 1 else 0
theorem qw{kd wd mo r:Int}(h:s7 kd wd mo=r:=by unfold s7;split<;>first|rfl|omega|(split<;>first|rfl|omega)):s7 kd wd mo=r:=h
theorem az3{L:Env}{k:Nat}{u:Bool}{p:Prop}[Decidable p](h:look L k=some (.bool u))(e:u=decide p:=by first|exact (As om).symm|exact (D_ om).symm|exact Fs.2 om):look L k=some (.bool (decide p)):=by rw [h,e]
theorem bi5(kd wd mo:Int):eu prog κ 40 [.agg #[e7 kd,e7 wd,e7 mo]] I (λr J=>r=e7 (s7 kd wd mo)/\I=J):=by
 refine Ce1 Tryz.func40 C C ?_
 refine Ak<|Ge1 (Au (cs:=[_,_,_]) C C C) λb1=>Z ?_
 refine Am C (λc7=>Z ?_)<|λc7=>Z ?_
 ·refine A3 (d:=37) C (λaa=>Z ?_) (λaa=>Z ?_)
  ·exact Al C C I Ah ⟨by rw [show s7 kd wd mo=1 from qw],rfl⟩
  refine Am C (λM=>Z ?_)<|λM=>Z ?_
  ·exact Al C C I Ah ⟨by rw [show s7 kd wd mo=1 from qw],rfl⟩
  exact Al C C I Ah ⟨by rw [show s7 kd wd mo=0 from qw],rfl⟩
 refine Am C (λc9=>Z ?_)<|λc9=>Z ?_
 ·refine A3 (d:=14) C (λah=>Z ?_) (λah=>Z ?_)
  ·exact Al C C I Ah ⟨by rw [show s7 kd wd mo=1 from qw],rfl⟩
  refine Am C (λai=>Z ?_)<|λai=>Z ?_
  ·exact Al C C I Ah ⟨by rw [show s7 kd wd mo=1 from qw],rfl⟩
  refine A3 (d:=37) C (λaa=>Z ?_)<|λaa=>Z ?_
  ·exact Al C C I Ah ⟨by rw [show s7 kd wd mo=1 from qw],rfl⟩
  refine Am C (λM=>Z ?_)<|λM=>Z ?_
  ·exact Al C C I Ah ⟨by rw [show s7 kd wd mo=1 from qw],rfl⟩
  exact Al C C I Ah ⟨by rw [show s7 kd wd mo=0 from qw],rfl⟩
 refine Am C (λab=>Z ?_)<|λab=>Z ?_
 ·refine A3 (d:=26) C (λae=>Z ?_) (λae=>Z ?_)
  ·exact Al C C I Ah ⟨by rw [show s7 kd wd mo=1 from qw],rfl⟩
  refine Am C (λad=>Z ?_)<|λad=>Z ?_
  ·exact Al C C I Ah ⟨by rw [show s7 kd wd mo=1 from qw],rfl⟩
  refine A3 (d:=37) C (λaa=>Z ?_)<|λaa=>Z ?_
  ·exact Al C C I Ah ⟨by rw [show s7 kd wd mo=1 from qw],rfl⟩
  refine Am C (λM=>Z ?_)<|λM=>Z ?_
  ·exact Al C C I Ah ⟨by rw [show s7 kd wd mo=1 from qw],rfl⟩
  exact Al C C I Ah ⟨by rw [show s7 kd wd mo=0 from qw],rfl⟩
 exact Al C C I Ah ⟨by rw [show s7 kd wd mo=8 from qw],rfl⟩
theorem am7(kd wd mo:Int):eu prog κ 69 [.agg #[e7 kd,e7 wd,e7 mo]] I (λr J=>r=e7 (s7 kd wd mo)/\I=J):=by
 refine Ce1 Tryz.func69 C C ?_
 refine Ak<|Ge1 (Au (cs:=[_,_,_]) C C C) λb1=>Ga C<|Ar<|Ax<|Ak<|Gf U8 C<|Gl ef ?_
 refine Gr (Bl C C)<|Gm C<|A3 (d:=6) C (λg6=>?_)<|λg6=>?_
 ·exact eb<|eb<|eb<|Gr (Bz C C)<|Ar<|W.yes C<|Ak<|Ga C<|Ar<|B3<|Ck<|Al C C I Ah ⟨by rw [show s7 kd wd mo=8 from qw],rfl⟩
 refine e9 (Af U8 C)<|e9 (Bd ef) ?_
 refine e9 (Ed C C)<|Gr (Bo C C)<|Ar<|Am C (λc10=>?_)<|λc10=>?_
 ·exact Ak<|Ga C<|Ar<|B3<|Ck<|Al C C I Ah ⟨by rw [show s7 kd wd mo=8 from qw],rfl⟩
 refine Bc<|Ao<|Ax<|W.cut (σ:=Nat) (λs=>([(1,pt b1),(33,.bool<|decide<|(kd=2/\(wd<1\/1048576<wd))\/(kd≠2/\wd≠0))]:Env)) (λs=>e8 b1 [e7 kd,e7 wd,e7 mo] 29::I) (λs=>True) ?_ ?_
 ·refine A6 (Gf U8 C<|Gl ef ?_)
  refine Gr (Cx C C)<|Gm C<|A3 (d:=14) C (λak=>?_)<|λak=>?_
  ·refine e9 (Af ao6 C) (e9 (Bd ef) ?_)
   refine e9 (Bl C C)<|e9 (Aq C)<|A3 (d:=18) C (λai=>?_)<|λai=>?_
   ·exact eb<|eb<|eb<|e9 (Bz C C)<|Gr (Bz C C)<|Gm C<|eb<|eb<|eb<|eb<|ee<|ee<|ee<|eb<|Gr (Bz C C)<|Bq<|Dm ((0)) trivial (hL:=(Aa C<|Aa (az3 C) Bb))
   refine e9 (Af ao6 C)<|e9 (Bd ef) ?_
   refine e9 (Ed C C)<|e9 (Bo C C)<|Gr (Bz C C)<|Gm C<|A3 (d:=24) C (λah=>?_)<|λah=>?_
   ·exact eb<|eb<|eb<|eb<|ee<|ee<|ee<|eb<|Gr (Bz C C)<|Bq<|Dm ((0)) trivial (hL:=(Aa C<|Aa (az3 C) Bb))
   refine e9 (Af U8 C)<|e9 (Bd ef) ?_
   refine e9 (Cb C C)<|e9 (Aq C)<|A3 (d:=28) C (λaa=>?_)<|λaa=>?_
   ·refine e9 (Af ao6 C) (e9 (Bd ef) ?_)
    exact e9 (Cb C C)<|e9 (Bz C C)<|Gr (Bo C C)<|Bq<|Dm ((0)) trivial (hL:=(Aa C<|Aa (az3 C) Bb))
   exact eb<|eb<|eb<|e9 (Bo C C)<|Gr (Bo C C)<|Bq<|Dm ((0)) trivial (hL:=(Aa C<|Aa (az3 C) Bb))
  refine eb<|eb<|eb<|eb<|ee<|ee<|ee<|eb<|Gr (Bo C C)<|Gm C<|e9 (Af U8 C)<|e9 (Bd ef) ?_
  refine e9 (Cb C C)<|e9 (Aq C)<|A3 (d:=28) C (λaa=>?_)<|λaa=>?_
  ·refine e9 (Af ao6 C) (e9 (Bd ef) ?_)
   exact e9 (Cb C C)<|e9 (Bz C C)<|Gr (Bo C C)<|Bq<|Dm ((0)) trivial (hL:=(Aa C<|Aa (az3 C) Bb))
  exact eb<|eb<|eb<|e9 (Bo C C)<|Gr (Bo C C)<|Bq<|Dm ((0)) trivial (hL:=(Aa C<|Aa (az3 C) Bb))
 rintro u0 hp
 show W prog κ 57 _ _ ([(1,pt b1),(33,.bool<|decide<|(kd=2/\(wd<1\/1048576<wd))\/(kd≠2/\wd≠0))]:Env) (e8 b1 [e7 kd,e7 wd,e7 mo] 29::I)
 refine Am C (λad=>?_)<|λad=>?_
 ·exact Ak<|Ga C<|Ar<|B3<|Ck<|Al C C I Ah ⟨by rw [show s7 kd wd mo=1 from qw],rfl⟩
 refine Bc<|Ao<|Ax<|W.cut (σ:=Nat) (λs=>([(56,.bool<|decide<|(kd=3/\(mo<0\/2016<mo))\/(kd≠3/\mo≠0))]:Env)) (λs=>e8 b1 [e7 kd,e7 wd,e7 mo] 29::I) (λs=>True) ?_ ?_
 ·refine A6 (Gf U8 C<|Gl ef ?_)
  refine Gr (Cx C C)<|Gm C<|A3 (d:=37) C (λaj=>?_)<|λaj=>?_
  ·refine e9 (Af bg0 C) (e9 (Bd ef) ?_)
   refine e9 (Bl C C)<|e9 (Aq C)<|A3 (d:=41) C (λab=>?_)<|λab=>?_
   ·exact eb<|eb<|eb<|e9 (Bz C C)<|Gr (Bz C C)<|Gm C<|eb<|eb<|eb<|eb<|ee<|ee<|ee<|eb<|Gr (Bz C C)<|Bq<|Dm ((0)) trivial (hL:=(Aa (az3 C) Bb))
   refine e9 (Af bg0 C)<|e9 (Bd ef) ?_
   refine e9 (Ed C C)<|e9 (Bo C C)<|Gr (Bz C C)<|Gm C<|A3 (d:=47) C (λan=>?_)<|λan=>?_
   ·exact eb<|eb<|eb<|eb<|ee<|ee<|ee<|eb<|Gr (Bz C C)<|Bq<|Dm ((0)) trivial (hL:=(Aa (az3 C) Bb))
   refine e9 (Af U8 C)<|e9 (Bd ef) ?_
   refine e9 (Cb C C)<|e9 (Aq C)<|A3 (d:=51) C (λM=>?_)<|λM=>?_
   ·refine e9 (Af bg0 C) (e9 (Bd ef) ?_)
    exact e9 (Cb C C)<|e9 (Bz C C)<|Gr (Bo C C)<|Bq<|Dm ((0)) trivial (hL:=(Aa (az3 C) Bb))
   exact eb<|eb<|eb<|e9 (Bo C C)<|Gr (Bo C C)<|Bq<|Dm ((0)) trivial (hL:=(Aa (az3 C) Bb))
  refine eb<|eb<|eb<|eb<|ee<|ee<|ee<|eb<|Gr (Bo C C)<|Gm C<|e9 (Af U8 C)<|e9 (Bd ef) ?_
  refine e9 (Cb C C)<|e9 (Aq C)<|A3 (d:=51) C (λM=>?_)<|λM=>?_
  ·refine e9 (Af bg0 C) (e9 (Bd ef) ?_)
   exact e9 (Cb C C)<|e9 (Bz C C)<|Gr (Bo C C)<|Bq<|Dm ((0)) trivial (hL:=(Aa (az3 C) Bb))
  exact eb<|eb<|eb<|e9 (Bo C C)<|Gr (Bo C C)<|Bq<|Dm ((0)) trivial (hL:=(Aa (az3 C) Bb))
 rintro u0 hp
 show W prog κ 57 _ _ ([(56,.bool<|decide<|(kd=3/\(mo<0\/2016<mo))\/(kd≠3/\mo≠0))]:Env) (e8 b1 [e7 kd,e7 wd,e7 mo] 29::I)
 refine Am C (λae=>?_)<|λae=>?_
 ·exact Ak<|Ga C<|Ar<|B3<|Ck<|Al C C I Ah ⟨by rw [show s7 kd wd mo=1 from qw],rfl⟩
 exact Bc<|Ao<|Ak<|Ga C<|Ar<|B3<|Al C C I Ah ⟨by rw [show s7 kd wd mo=0 from qw],rfl⟩
theorem cb3(w lb sg:Int):eu prog κ 92 [e7 w,e7 lb,e7 sg] I (λr J=>r = .bool (decide (G4 w lb sg))/\I=J):=by
 refine Ce3 Tryz.func92 C C<|Z ?_
 refine A3 (d:=9) C (λg9=>Z ?_)<|λg9=>Z ?_
 ·refine A3 (d:=13) C (λad=>Z ?_) (λad=>Z ?_)
  ·refine A3 (d:=17) C (λM=>Z ?_) (λM=>Z ?_)
   ·refine A3 (d:=21) C (λaa=>Z ?_) (λaa=>Z ?_)
    ·refine A3 (d:=24) C (λab=>Z ?_) (λab=>Z ?_)
     ·exact Al C C I Ah ⟨(by first|exact Fz Value.bool (Fs.2<|by unfold G4;omega)|exact Fz Value.bool (As<|by unfold G4;omega).symm|exact Fz Value.bool (D_<|by unfold G4;omega).symm),rfl⟩
     exact Al C C I Ah ⟨(by first|exact Fz Value.bool (Fs.2<|by unfold G4;omega)|exact Fz Value.bool (As<|by unfold G4;omega).symm|exact Fz Value.bool (D_<|by unfold G4;omega).symm),rfl⟩
    exact Al C C I Ah ⟨(by first|exact Fz Value.bool (Fs.2<|by unfold G4;omega)|exact Fz Value.bool (As<|by unfold G4;omega).symm|exact Fz Value.bool (D_<|by unfold G4;omega).symm),rfl⟩
   exact Al C C I Ah ⟨(by first|exact Fz Value.bool (Fs.2<|by unfold G4;omega)|exact Fz Value.bool (As<|by unfold G4;omega).symm|exact Fz Value.bool (D_<|by unfold G4;omega).symm),rfl⟩
  exact Al C C I Ah ⟨(by first|exact Fz Value.bool (Fs.2<|by unfold G4;omega)|exact Fz Value.bool (As<|by unfold G4;omega).symm|exact Fz Value.bool (D_<|by unfold G4;omega).symm),rfl⟩
 exact Al C C I Ah ⟨(by first|exact Fz Value.bool (Fs.2<|by unfold G4;omega)|exact Fz Value.bool (As<|by unfold G4;omega).symm|exact Fz Value.bool (D_<|by unfold G4;omega).symm),rfl⟩
theorem ag6(n a c:Int):eu prog κ 114 [e7 n,e7 a,e7 c] I (λr J=>r = .bool (decide (a<=n/\n<=c))/\I=J):=by
 refine Ce3 Tryz.func114 C C<|Z ?_
 refine A3 (d:=10) C (λM=>Z ?_)<|λM=>Z ?_
 ·exact Al C C I Ah ⟨(by first|exact Fz Value.bool (Fs.2<|by skip;omega)|exact Fz Value.bool (As<|by skip;omega).symm|exact Fz Value.bool (D_<|by skip;omega).symm),rfl⟩
 exact Al C C I Ah ⟨(by first|exact Fz Value.bool (Fs.2<|by skip;omega)|exact Fz Value.bool (As<|by skip;omega).symm|exact Fz Value.bool (D_<|by skip;omega).symm),rfl⟩
theorem cr2(w lb sg:Int):eu prog κ 97 [e7 w,e7 lb,e7 sg] I (λr J=>r=e7 (if G4 w lb sg then 0 else 1)/\I=J):=by
 refine Ce3 Tryz.func97 C C<|Z ?_
 refine Gc0 (Ac c_ C C<|ag6 w 1 1000)<|Z ?_
 refine A3 (d:=10) C (λab=>Z ?_)<|λab=>?_
 ·exact Al C C I Ah ⟨by rw [An (by unfold G4;omega)],rfl⟩
 refine e9 (Aq C)<|Ds (Cn C C C) (Ac c_ C C<|ag6 lb 0 15) ?_
 rintro _ _ ⟨_,_,⟨rfl,rfl⟩,rfl,rfl⟩
 refine Z ?_
 refine A3 (d:=15) C (λad=>Z ?_)<|λad=>Z ?_
 ·exact Al C C I Ah ⟨by rw [An (by unfold G4;omega)],rfl⟩
 refine A3 (d:=18) C (λaa=>Z ?_)<|λaa=>Z ?_
 ·refine Am C (λM=>Z ?_) (λM=>Z ?_)
  ·exact Al C C I Ah ⟨by rw [An (by unfold G4;omega)],rfl⟩
  exact Al C C I Ah ⟨by rw [B_ (by unfold G4;omega)],rfl⟩
 exact Al C C I Ah ⟨by rw [B_ (by unfold G4;omega)],rfl⟩
theorem bh9(a c:Lk):eu prog κ 144 [.agg (kl a).toArray,.agg (kl c).toArray] I (λr J=>r=e7 (Lk.cmp a c)/\I=J):=by
 refine Ce2 Tryz.func144 C C ?_
 refine Ak<|Ge1 (Au (cs:=[_,_,_,_,_,_]) C C C) λb1=>Ge1 (Au (cs:=[_,_,_,_,_,_]) C C C) λb2=>Ga C<|Ar<|Ax<|Ba mixed<|Bx (e8 b2 (kl c) 82::e8 b1 (kl a) 82::I) 12<|Z ?_
 refine Ds1 4<|Sc0 C (Ac c_ C C<|Z6 a.u c.u) ?_
 refine Ds1 9<|Sc0 C (Ac c_ C C<|Z6 a.v c.v) ?_
 refine Ds1 10<|Se1 C (B2 (α:=Int) (cs:=[_,_]) (xs:=[bu7 a.u c.u,bu7 a.v c.v]) Ab ef C C dc dc C C C C) λM=>?_
 refine Ds1 11<|Sc0 C (Ac c_ C C<|fs6 A5) ?_
 refine Cg kr ?_
 refine Dg (i:=12) kr C (Ap C) C C (Bh C) ?_
 refine Ch kr<|Z ?_
 exact Al C C I Ah ⟨by rw [show Lk.cmp a c=Pt.cmp ⟨a.u,a.v⟩ ⟨c.u,c.v⟩ from rfl,←df3],rfl⟩
theorem ac4(l:Lk):eu prog κ 50 [.agg (kl l).toArray] I (λr J=>r = .agg #[e7 l.p.u,e7 l.p.v]/\I=J):=by
 refine Ce1 Tryz.func50 C C ?_
 refine Ak<|Ge1 (Au (cs:=[_,_,_,_,_,_]) C C C) λb1=>Ge1 (Aj s8 C) λM=>Z ?_
 refine Ge0 (Cs s8) ?_
 exact Ar<|B3<|Ek C s8 C mm C I Ah ⟨rfl,rfl⟩
end Go.Sl
namespace Go.Sl
end Go.Sl
namespace Go.Sl
open Go.Proofs
set_option maxRecDepth 4000
def gd8{α:Type}[Inhabited α](p:α->Bool)(xs:List α)(y:Int):Prop:=
 (y = -1/\∀j:Nat,j<xs.length->p (e_ xs j)=false)\/(0<=y/\y<xs.length/\(∀j:Nat,(j:Int)<y->p (e_ xs j)=false)/\p (e_ xs y)=true)
theorem gd8.any{α:Type}[Inhabited α]{p:α->Bool}{xs:List α}{y:Int}(h:gd8 p xs y):decide (0<=y)=xs.any p:=by
 rcases h with ⟨rfl,h⟩|⟨M,hl,_,h⟩
 ·have:xs.any p=false:=by
   rw [List.any_eq_false];intro x hx
   obtain ⟨j,hj,rfl⟩:=an6 hx
   rw [h j hj];decide
  rw [this];rfl
 rw [As M]
 exact (Kc.2 ⟨_,Bp M om,h⟩).symm
end Go.Sl
namespace Go.Sl
open Go.Proofs
set_option maxRecDepth 4000
variable{nd:Int}{va vb:Value}{xs:List Lk}
variable {κ:Ctx}{I:List Item}
attribute [local irreducible] W G V D A j8 Eff
theorem aj6{α:Type}[Inhabited α]{xs ys:List α}(hl:xs.length=ys.length)(h:∀j,j<xs.length->e_ xs j=e_ ys j):xs=ys:=by
 refine Mc hl λj M h2=>?_
 have:=h j M
 rwa [Ct xs j M,Ct ys j h2] at this
theorem Lk.W0(a c:Lk):Lk.cmp a c<0↔Lk.lt a c:=Pt.W0 _ _
def ad1(nd:Int)(xs:List Lk)(kd wd mo nw:Int):Int:=if s7 kd wd mo≠0 then s7 kd wd mo else if q7 nd xs≠0 then q7 nd xs else if nw<0\/1048576<nw\/xs.any (λx=>decide (nw<x.tm))=true then 9 else 0
theorem bi6(hl:Sl κ I va xs):eu prog κ 107 [.agg #[e7 nd,va]] I (λr J=>r=e7 (q7 nd xs)/\I=J):=by
 refine Bv hl.le λan=>?_
 refine Ce1 Tryz.func107 C C ?_
 refine Ak<|Ge1 (Au (cs:=[_,_]) C C C) λb1=>Z ?_
 refine A3 (d:=8) C (λg8=>Z ?_)<|λg8=>Z ?_
 ·exact Al C C I Ah ⟨by rw [show q7 nd xs=1 from (by first|(unfold q7;rw [B_ om];done)|exact hs.trans ((C5 om<|by rw [Q8 om asm];decide).trans (Q8 om asm)))],rfl⟩
 refine Am C (λc12=>Z ?_)<|λc12=>Z ?_
 ·exact Al C C I Ah ⟨by rw [show q7 nd xs=1 from (by first|(unfold q7;rw [B_ om];done)|exact hs.trans ((C5 om<|by rw [Q8 om asm];decide).trans (Q8 om asm)))],rfl⟩
 refine Dh (σ:=Nat) (λs=>[(16,e7 ((s:Nat):Int))]) (λ_=>[]) (λs=>(s<=xs.length)/\(q7 nd xs=P5 (ax1 nd) Lk.lt (R8 xs s) (xs.drop s))) (λs=>xs.length - s) 0 (show ((0:Nat)<=xs.length)/\(q7 nd xs=P5 (ax1 nd) Lk.lt (R8 xs (0:Nat)) (xs.drop (0:Nat))) from ⟨om,(by unfold q7;rw [An om];rfl)⟩) ?_
 rintro k hp
 obtain ⟨hk,hs⟩:=hp
 refine Z ?_
 refine Am C (λM=>Z ?_)<|λM=>Z ?_
 ·refine Ge1 (Aj J2 C) λb2=>Ga C (Ge0 (Fb J2)<|Z ?_)
  refine A3 (d:=25) C (λab=>Z ?_)<|λab=>Z ?_
  ·exact Al C C I Ah ⟨by rw [show q7 nd xs=6 from (hs.trans<|(C5 om<|by rw [Q7 om];decide).trans (Q7 om))],rfl⟩
  refine A3 (d:=32) C (λad=>Z ?_)<|λad=>Z ?_
  ·exact Al C C I Ah ⟨by rw [show q7 nd xs=6 from (hs.trans<|(C5 om<|by rw [Q7 om];decide).trans (Q7 om))],rfl⟩
  refine Am C (λaa=>Z ?_)<|λaa=>Z ?_
  ·exact Al C C I Ah ⟨by rw [show q7 nd xs=6 from (hs.trans<|(C5 om<|by rw [Q7 om];decide).trans (Q7 om))],rfl⟩
  refine Gc0 (Ac c_ C C<|cb3 ((e_ xs k).w) ((e_ xs k).lb)<|(e_ xs k).sg)<|Z ?_
  refine Am C (λah=>Z ?_)<|λah=>Z ?_
  ·exact Al C C I Ah ⟨by rw [show q7 nd xs=1 from (by first|(unfold q7;rw [B_ om];done)|exact hs.trans ((C5 om<|by rw [Q8 om asm];decide).trans (Q8 om asm)))],rfl⟩
  refine A3 (d:=52) C (λai=>Z ?_)<|λai=>Z ?_
  ·exact Al C C I Ah ⟨by rw [show q7 nd xs=9 from (hs.trans<|(C5 om<|by rw [W2 om (by first|assumption|exact Ft.1 asm|exact Gb λh=>c47<|by rw [An h];decide) om];decide).trans (W2 om (by first|assumption|exact Ft.1 asm|exact Gb λh=>c47<|by rw [An h];decide) om))],rfl⟩
  refine Am C (λaj=>Z ?_)<|λaj=>?_
  ·exact Al C C I Ah ⟨by rw [show q7 nd xs=9 from (hs.trans<|(C5 om<|by rw [W2 om (by first|assumption|exact Ft.1 asm|exact Gb λh=>c47<|by rw [An h];decide) om];decide).trans (W2 om (by first|assumption|exact Ft.1 asm|exact Gb λh=>c47<|by rw [An h];decide) om))],rfl⟩
  refine Ax<|Ba mixed<|Bx (e8 b2 (kl (e_ xs k)) 82::e8 b1 [e7 nd,va] 35::I) 14<|Z ?_
  refine Dj (d:=60) C (λae=>Z ?_)<|λae=>?_
  ·refine Ds1 10 (Sc0 C (Ac c_ C C<|bh9 (e_ xs<|(k:Int) - 1)<|e_ xs k)<|Z ?_)
   refine Am C (λak=>Z ?_)<|λak=>Z ?_
   ·exact Al C C I Ah ⟨by rw [show q7 nd xs=5 from (hs.trans<|af4 om (ab2 om (by first|assumption|exact Ft.1 asm|exact Gb λh=>c47<|by rw [An h];decide) om) om<|by first|assumption|(intro h;have:=(Lk.W0 _ _).2 h;omega))],rfl⟩
   exact Bt ((k+1)) ⟨om,(hs.trans<|E0 om (ab2 om (by first|assumption|exact Ft.1 asm|exact Gb λh=>c47<|by rw [An h];decide) om)<|λh0=>by first|omega|exact (Lk.W0 _ _).1 om|exact Ft.1 asm)⟩
  refine Dpo 3 C<|Z ?_
  exact Bt ((k+1)) ⟨om,(hs.trans<|E0 om (ab2 om (by first|assumption|exact Ft.1 asm|exact Gb λh=>c47<|by rw [An h];decide) om)<|λh0=>by first|omega|exact (Lk.W0 _ _).1 om|exact Ft.1 asm)⟩
 exact Al C C I Ah ⟨by rw [show q7 nd xs=0 from (hs.trans<|aq8 om)],rfl⟩
theorem Z7(hl:Sl κ I va xs):eu prog κ 49 [.agg #[e7 nd,va]] I (λr J=>r=e7 (q7 nd xs)/\I=J):=by
 refine Bv hl.le λao=>?_
 refine Ce1 Tryz.func49 C C ?_
 refine Ak<|Ge1 (Au (cs:=[_,_]) C C C) λb1=>Z ?_
 refine A3 (d:=9) C (λg9=>Z ?_)<|λg9=>Z ?_
 ·exact Al C C I Ah ⟨by rw [show q7 nd xs=1 from (by first|(unfold q7;rw [B_ om];done)|exact hs.trans ((C5 om<|by rw [Q8 om asm];decide).trans (Q8 om asm)))],rfl⟩
 refine Am C (λc13=>Z ?_)<|λc13=>Z ?_
 ·exact Al C C I Ah ⟨by rw [show q7 nd xs=1 from (by first|(unfold q7;rw [B_ om];done)|exact hs.trans ((C5 om<|by rw [Q8 om asm];decide).trans (Q8 om asm)))],rfl⟩
 refine Dh (σ:=Nat) (λs=>[(17,e7 ((s:Nat):Int))]) (λ_=>[]) (λs=>(s<=xs.length)/\(q7 nd xs=P5 (ax1 nd) Lk.lt (R8 xs s) (xs.drop s))) (λs=>xs.length - s) 0 (show ((0:Nat)<=xs.length)/\(q7 nd xs=P5 (ax1 nd) Lk.lt (R8 xs (0:Nat)) (xs.drop (0:Nat))) from ⟨om,(by unfold q7;rw [An om];rfl)⟩) ?_
 rintro k hp
 obtain ⟨hk,hs⟩:=hp
 refine Z ?_
 refine Am C (λae=>Z ?_)<|λae=>Z ?_
 ·refine Ge1 (Aj J2 C) λb2=>Ga C (Ge0 (Fb J2)<|Z ?_)
  refine A3 (d:=25) C (λai=>Z ?_)<|λai=>Z ?_
  ·exact Al C C I Ah ⟨by rw [show q7 nd xs=6 from (hs.trans<|(C5 om<|by rw [Q7 om];decide).trans (Q7 om))],rfl⟩
  refine A3 (d:=32) C (λaj=>Z ?_)<|λaj=>Z ?_
  ·exact Al C C I Ah ⟨by rw [show q7 nd xs=6 from (hs.trans<|(C5 om<|by rw [Q7 om];decide).trans (Q7 om))],rfl⟩
  refine Am C (λaa=>Z ?_)<|λaa=>Z ?_
  ·exact Al C C I Ah ⟨by rw [show q7 nd xs=6 from (hs.trans<|(C5 om<|by rw [Q7 om];decide).trans (Q7 om))],rfl⟩
  refine Gc0 (Ac c_ C C<|cr2 ((e_ xs k).w) ((e_ xs k).lb)<|(e_ xs k).sg)<|Z ?_
  refine Am C (λM=>Z ?_)<|λM=>Z ?_
  ·have ah:¬G4 (e_ xs k).w (e_ xs k).lb (e_ xs k).sg:=λh=>M (B_ h)
   exact Al C C I Ah ⟨by rw [An ah,show q7 nd xs=1 from (by first|(unfold q7;rw [B_ om];done)|exact hs.trans ((C5 om<|by rw [Q8 om asm];decide).trans (Q8 om asm)))],rfl⟩
  refine A3 (d:=52) C (λan=>Z ?_)<|λan=>Z ?_
  ·exact Al C C I Ah ⟨by rw [show q7 nd xs=9 from (hs.trans<|(C5 om<|by rw [W2 om (by first|assumption|exact Ft.1 asm|exact Gb λh=>M<|by rw [An h];decide) om];decide).trans (W2 om (by first|assumption|exact Ft.1 asm|exact Gb λh=>M<|by rw [An h];decide) om))],rfl⟩
  refine Am C (λab=>Z ?_)<|λab=>?_
  ·exact Al C C I Ah ⟨by rw [show q7 nd xs=9 from (hs.trans<|(C5 om<|by rw [W2 om (by first|assumption|exact Ft.1 asm|exact Gb λh=>M<|by rw [An h];decide) om];decide).trans (W2 om (by first|assumption|exact Ft.1 asm|exact Gb λh=>M<|by rw [An h];decide) om))],rfl⟩
  refine Bc<|Ao<|Ax<|Ba mixed<|Bx (e8 b2 (kl (e_ xs k)) 82::e8 b1 [e7 nd,va] 35::I) 15<|Z ?_
  refine Dj (d:=59) C (λad=>Z ?_)<|λad=>?_
  ·refine Ds1 9 (Sc0 C (Ac c_ C C<|ac4<|e_ xs<|(k:Int) - 1) ?_)
   refine Ds1 11<|Sc0 C (Ac c_ C C<|ac4<|e_ xs k) ?_
   refine Ds1 12<|Sc0 C (Ac c_ C C<|ag8 (e_ xs<|(k:Int) - 1).p (e_ xs k).p)<|Z ?_
   refine Am C (λak=>Z ?_)<|λak=>Z ?_
   ·exact Al C C I Ah ⟨by rw [show q7 nd xs=5 from (hs.trans<|af4 om (ab2 om (by first|assumption|exact Ft.1 asm|exact Gb λh=>M<|by rw [An h];decide) om) om<|by first|assumption|(intro h;have:=(Lk.W0 _ _).2 h;omega))],rfl⟩
   exact Bt ((k+1)) ⟨om,(hs.trans<|E0 om (ab2 om (by first|assumption|exact Ft.1 asm|exact Gb λh=>M<|by rw [An h];decide) om)<|λh0=>by first|omega|exact (Lk.W0 _ _).1 om|exact Ft.1 asm)⟩
  refine Dpo 3 C<|Dpo 4 C<|Dpo 5 C<|Dpo 6 C<|Dpo 7 C<|Dpo 8 C<|Dpo 10 C<|Dpo 9 C<|Z ?_
  exact Bt ((k+1)) ⟨om,(hs.trans<|E0 om (ab2 om (by first|assumption|exact Ft.1 asm|exact Gb λh=>M<|by rw [An h];decide) om)<|λh0=>by first|omega|exact (Lk.W0 _ _).1 om|exact Ft.1 asm)⟩
 exact Al C C I Ah ⟨by rw [show q7 nd xs=0 from (hs.trans<|aq8 om)],rfl⟩
variable {κ:Ctx}{I:List Item}
theorem fd5{xs ys:List Ev}(hx:Sl κ I va xs)(hy:Sl κ I vb ys):eu prog κ 119 [va,vb] I (λr J=>r = .bool (decide (xs=ys))/\I=J):=by
 refine Bv hx.le λad=>?_
 refine Bv hy.le λab=>?_
 refine Ce2 Tryz.func119 C C<|Z ?_
 refine Am C (λc10=>Z ?_)<|λc10=>Z ?_
 ·exact Al C C I Ah ⟨by rw [D_ (show ¬xs=ys from λe=>by first|(have e2:=Fz List.length e;omega)|(have e3:=Fz (λl=>e_ l k) e;exact absurd e3 asm))],rfl⟩
 refine Dh (σ:=Nat) (λs=>[(13,e7 ((s:Nat):Int))]) (λ_=>[]) (λs=>(s<=xs.length)/\(∀j,j<s->e_ xs j=e_ ys j)) (λs=>xs.length - s) 0 (show ((0:Nat)<=xs.length)/\(∀j,j<(0:Nat)->e_ xs j=e_ ys j) from ⟨om,E8⟩) ?_
 rintro k hp
 obtain ⟨hk,hn⟩:=hp
 refine Z ?_
 refine Am C (λaa=>Z ?_)<|λaa=>Z ?_
 ·refine Ba mixed (Bx I 9<|Z ?_)
  refine Dr 8 C (j8.fz0 (α:=Ev) (a:=(e_ xs k)) (b:=(e_ ys k)) gh5 C C)<|Z ?_
  refine Am C (λM=>Z ?_)<|λM=>Z ?_
  ·exact Al C C I Ah ⟨by rw [D_ (show ¬xs=ys from λe=>by first|(have e2:=Fz List.length e;omega)|(have e3:=Fz (λl=>e_ l k) e;exact absurd e3 asm))],rfl⟩
  exact Bt ((k+1)) ⟨om,(Di hn<|Ft.1 M)⟩
 exact Al C C I Ah ⟨by rw [As (show xs=ys from aj6 om (λj hj=>hn j om))],rfl⟩
theorem fd4{n m:Int}{ys:List Lk}(hx:Sl κ I va xs)(hy:Sl κ I vb ys):eu prog κ 32 [.agg #[e7 n,va],.agg #[e7 m,vb]] I (λr J=>r = .bool (decide (n=m/\xs=ys))/\I=J):=by
 refine Bv hx.le λah=>?_
 refine Bv hy.le λae=>?_
 refine Ce2 Tryz.func32 C C ?_
 refine Ak<|Ge1 (Au (cs:=[_,_]) C C C) λb1=>Ge1 (Au (cs:=[_,_]) C C C) λb2=>Z ?_
 refine A3 (d:=11) C (λaa=>Z ?_)<|λaa=>Z ?_
 ·exact Al C C I Ah ⟨by rw [D_ (show ¬(n=m/\xs=ys) from λe=>by first|(have e2:=Fz List.length e.2;omega)|(have e3:=Fz (λl=>e_ l k) e.2;exact absurd e3 asm)|(have:=e.1;omega))],rfl⟩
 refine Am C (λab=>Z ?_)<|λab=>Z ?_
 ·exact Al C C I Ah ⟨by rw [D_ (show ¬(n=m/\xs=ys) from λe=>by first|(have e2:=Fz List.length e.2;omega)|(have e3:=Fz (λl=>e_ l k) e.2;exact absurd e3 asm)|(have:=e.1;omega))],rfl⟩
 refine Dh (σ:=Nat) (λs=>[(23,e7 ((s:Nat):Int))]) (λ_=>[]) (λs=>(s<=xs.length)/\(∀j,j<s->e_ xs j=e_ ys j)) (λs=>xs.length - s) 0 (show ((0:Nat)<=xs.length)/\(∀j,j<(0:Nat)->e_ xs j=e_ ys j) from ⟨om,E8⟩) ?_
 rintro k hp
 obtain ⟨hk,hn⟩:=hp
 refine Z ?_
 refine Am C (λad=>Z ?_)<|λad=>Z ?_
 ·refine Ba mixed (Bx (e8 b2 [e7 m,vb] 35::e8 b1 [e7 n,va] 35::I) 11<|Z ?_)
  refine Dr 10 C (j8.fz0 (α:=Lk) (a:=(e_ xs k)) (b:=(e_ ys k)) dz5 C C)<|Z ?_
  refine Am C (λM=>Z ?_)<|λM=>Z ?_
  ·exact Al C C I Ah ⟨by rw [D_ (show ¬(n=m/\xs=ys) from λe=>by first|(have e2:=Fz List.length e.2;omega)|(have e3:=Fz (λl=>e_ l k) e.2;exact absurd e3 asm)|(have:=e.1;omega))],rfl⟩
  exact Bt ((k+1)) ⟨om,(Di hn<|Ft.1 M)⟩
 exact Al C C I Ah ⟨by rw [As (show n=m/\xs=ys from ⟨by omega,aj6 om<|λj hj=>hn j om⟩)],rfl⟩
end Go.Sl
namespace Go.Sl
open Go.RowKit (Below)
variable{T cl et kt r:Nat}{x y:Operand}{es:List MapEntry}{k v:Value}
def mp(r:Nat)(es:List MapEntry)(cl:Nat):Item where
 fp k:=k=r
 ok w:=w.heap[r]? = some (.map es.toArray cl)
 loc w w' h hw:=(h r rfl).trans hw
section
variable {P:Program}{κ:Ctx}{N:Frm}{Q:Exit->Act->World->Prop}{L:Env}{I J:List Item}{ops:Array Oper}{rest:List Oper}
variable {d:Option Tmp}{ty:TypeId}{ps:String}{af:Array Edge}{gd:Option (Nat×Bool)}
theorem Eff.makeMap{dd:Nat}(M:Nat.blt dd N.n=true) :
  Eff P κ N Q ⟨some dd,.makeMap T none,ty,ps,af,gd⟩ L I λL' I'=>∃r,L'=(dd,.map<|some r)::L/\I'=mp r [] 0::I:=
 Eff.Q6 rfl M λa w ha hs=>
  ⟨_,_,_,by simp [execOp,Instr.makeMap,Result.andThen],⟨_,rfl,rfl⟩,hs.new (hs.alloc<|.map #[] 0) (heap_alloc_new w _) λk hk=>by obtain rfl:k=_:=hk;exact ⟨Gd _,by simp⟩⟩
theorem Eff.ce8{z:Operand}{kd:IntKind}{I':List Item}(ht:P.underlying T=some (.map kt et))(M:P.underlying kt=some (.int kd))(hx:er L x=some (.map (some r)))
  (hy:er L y=some k) (hz:er L z=some v) (hk:MapKept.IsKey (.int kd) k) (hf:Instr.findNow (.int kd) k es 0=some none) (aa:At I (mp r es cl) (mp r (es++[{key:=k,val:=v,born:=cl}])<|cl+1) I') :
  Eff P κ N Q ⟨none,.insert T x y z,ty,ps,af,gd⟩ L I λL' I''=>L'=L/\I''=I':=
 Eff.br2 rfl λa w ha hs=>by
  have hb:=(hs.ok _ aa.mem).1
  refine ⟨{w with heap:=w.heap.setIfInBounds r (.map (es++[({key:=k,val:=v,born:=cl}:MapEntry)]).toArray (cl+1))},I',?_,⟨rfl,rfl⟩,?_⟩
  ·simp [execOp,ha.eval hx,ha.eval hy,ha.eval hz,Instr.mapUpdate,run_underlying ht,MapKept.run_getObj_map hb,MapKept.run_checkKey M hk,MapKept.run_findKey M hf,MapKept.run_setObj_map _ hb,Result.andThen]
  exact hs.upd aa rfl ⟨rfl,Gd _⟩ rfl (by simp) (λk _ ab=>(MapKept.heap_set hb).2 k λe=>ab e) (MapKept.heap_set hb).1 λk hk=> .inl hk
theorem j8.ce4{i:Nat}{kd:IntKind}(ht:P.underlying T=some (.map kt et))(M:P.underlying kt=some (.int kd))(hx:er L x=some (.map (some r)))
  (hy:er L y=some k) (hk:MapKept.IsKey (.int kd) k) (hm:mp r es cl∈J) (hf:Instr.findNow (.int kd) k es 0=some (some (i,v))):j8 P κ N ⟨d,.lookup T x y false,ty,ps,af,gd⟩ L J v:=
 λa w ha hs=>by
  have hb:=(hs.ok _ hm).1
  simp [execOp,ha.eval hx,ha.eval hy,Instr.lookup,run_underlying ht,MapKept.run_getObj_map hb,MapKept.run_checkKey M hk,MapKept.run_findKey M hf,Result.andThen]
end
end Go.Sl
