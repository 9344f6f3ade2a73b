/- A part of the proofs of statements of this seat: contracts of functions, and the plain laws that they lean on. No conditions. -/
import Derived.Test.YtoagcglbkeomgaaGreatDoorA7
set_option linter.unusedVariables false
set_option linter.unusedSimpArgs false
set_option linter.unusedSectionVars false
open Go.Proofs.Tryz (prog)
namespace Go.Sl
open Go.Proofs
set_option maxRecDepth 4000
variable{v va:Value}{xs:List Lk}{b c c0 k:Nat}{kd mo nd nw wd:Int}{a a0:Option Addr}
variable {κ:Ctx}{I:List Item}
attribute [local irreducible] W G V D A j8 Eff
theorem cz3(hl:Sl κ I v xs){g:FuncId}{aa:List Value}{p:Lk->Bool}(ab:do1 prog κ I g aa p):eu prog κ 109 [v,.func (.func g) #[] aa.toArray] I (λr J=>∃y:Int,r=e7 y/\gc7 p xs y/\I=J):=by
 refine Bx hl.le λad=>?_
 refine Ce2 Tryz.func109 C C<|Z ?_
 refine Dj (σ:=Nat) (λs=>[(8,e7 ((s:Nat):Int))]) (λ_=>[]) (λs=>(s<=xs.length)/\(∀j,j<s->p (e_ xs j)=false)) (λs=>xs.length - s) 0 (show ((0:Nat)<=xs.length)/\(∀j,j<(0:Nat)->p (e_ xs j)=false) from ⟨om,Fc⟩) ?_
 rintro k hp
 obtain ⟨hk,hn⟩:=hp
 refine Z ?_
 refine Ao C (λc9=>Z ?_)<|λc9=>Z ?_
 ·refine G.e (Cx ab.1 (first:=[]) (caps:=aa) C C C<|ab.2 (e_ xs k) _ Ah) ?_
  rintro _ _ ⟨_,_,⟨rfl,rfl⟩,rfl,rfl⟩
  refine Ar<|Ds C (λM=>Z ?_)<|λM=>Z ?_
  ·exact Am C C I Ah ⟨_,rfl,.inr ⟨by omega,by omega,λj hj=>hn j om,M⟩,rfl⟩
  exact Bu ((k+1)) ⟨om,(Dq hn M)⟩
 exact Am C C I Ah ⟨_,rfl,.inl ⟨rfl,λj hj=>hn j om⟩,rfl⟩
theorem at6(hl:Sl κ I v xs){g:FuncId}{M:List Value}{p:Lk->Bool}(aa:do1 prog κ I g M p):eu prog κ 58 [v,.func (.func g) #[] M.toArray] I (λr J=>r = .bool (xs.any p)/\I=J):=by
 refine Ce2 Tryz.func58 C C<|Z ?_
 refine G.e (Ab c_ C C<|cz3 (A3 hl)<|do1.fit aa Ah) ?_
 rintro _ _ ⟨_,_,⟨y1,rfl,ab,rfl⟩,rfl,rfl⟩
 refine Z ?_
 exact Am C C I Ah ⟨by rw [←gc7.any asm],rfl⟩
theorem dr3(M:ab7 κ I b [e7 nw] 3)(x:Lk):eu prog κ 173 [.agg (kl x).toArray,(pt b)] I (λr J=>r = .bool (decide (nw<x.tm))/\I=J):=by
 refine Ce2 Tryz.func173 C C ?_
 refine Al<|Ge1 (Av (cs:=[_,_,_,_,_,_]) C C C) λb1=>Z ?_
 refine Gr (Ec ef C (Ek M Ah) C)<|Z ?_
 exact Am C C I Ah ⟨rfl,rfl⟩
theorem ci8(hb:ab7 κ I b [e7 nw] 3):do1 prog κ I 173 [(pt b)] (λx:Lk=>decide (nw<x.tm)):=⟨c_,λx J M=>dr3 (hb.fit M) x⟩
theorem fh1(hl:Sl κ I va xs):eu prog κ 152 [.agg #[e7 nd,va],.agg #[e7 kd,e7 wd,e7 mo],e7 nw] I (λr J=>r=e7 (ac8 nd xs kd wd mo nw)/\I=J):=by
 refine Bx hl.le λae=>?_
 refine Ce3 Tryz.func152 C C ?_
 refine Al<|Ge1 (Av (cs:=[_,_]) C C C) λb1=>Ge1 (Av (cs:=[_,_,_]) C C C) λb2=>Ge1 (Av (cs:=[_]) C C C) λb3=>Z ?_
 refine G.e (Ab c_ C C<|bh8 kd wd mo) ?_
 rintro _ _ ⟨_,_,⟨rfl,rfl⟩,rfl,rfl⟩
 refine Z ?_
 refine Ao C (λc12=>Z ?_)<|λc12=>Z ?_
 ·exact Am C C I Ah ⟨by rw [show ac8 nd xs kd wd mo nw=s7 kd wd mo from (by unfold ac8;rw [B_ c12])],rfl⟩
 refine G.e (Ab c_ C C<|bh9 (nd:=nd)<|A3 hl) ?_
 rintro _ _ ⟨_,_,⟨rfl,rfl⟩,rfl,rfl⟩
 refine Z ?_
 refine Ao C (λM=>Z ?_)<|λM=>Z ?_
 ·exact Am C C I Ah ⟨by rw [show ac8 nd xs kd wd mo nw=p9 nd xs from (by unfold ac8;rw [An c12,B_ M])],rfl⟩
 refine A4 (d:=21) C (λab=>Z ?_)<|λab=>Z ?_
 ·exact Am C C I Ah ⟨by rw [show ac8 nd xs kd wd mo nw=9 from (by unfold ac8;rw [An c12,An M,B_<|by first|omega|(simp only [*];done)|exact .inr (.inr asm)|exact .inr (.inr aa)])],rfl⟩
 refine A4 (d:=25) C (λad=>Z ?_)<|λad=>Z ?_
 ·exact Am C C I Ah ⟨by rw [show ac8 nd xs kd wd mo nw=9 from (by unfold ac8;rw [An c12,An M,B_<|by first|omega|(simp only [*];done)|exact .inr (.inr asm)|exact .inr (.inr aa)])],rfl⟩
 refine e9 (D0 C C)<|Dt (Cm C C C) (Ab c_ C C<|at6 (A3 hl)<|ci8<|Dn mm) ?_
 rintro _ _ ⟨_,_,⟨rfl,rfl⟩,rfl,rfl⟩
 refine Z ?_
 refine Ds C (λaa=>Z ?_)<|λaa=>Z ?_
 ·exact Am C C I Ah ⟨by rw [show ac8 nd xs kd wd mo nw=9 from (by unfold ac8;rw [An c12,An M,B_<|by first|omega|(simp only [*];done)|exact .inr (.inr asm)|exact .inr (.inr aa)])],rfl⟩
 exact Am C C I Ah ⟨by rw [show ac8 nd xs kd wd mo nw=0 from (by unfold ac8;rw [An c12,An M,An<|by rintro (h|h|h)<;>first|omega|(exact absurd (aa.symm.trans h) dc)])],rfl⟩
theorem fb3(hl:Sl κ I va xs):eu prog κ 115 [.agg #[e7 nd,va],.agg #[e7 kd,e7 wd,e7 mo],e7 nw] I (λr J=>r=e7 (ac8 nd xs kd wd mo nw)/\I=J):=by
 refine Bx hl.le λai=>?_
 refine Ce3 Tryz.func115 C C ?_
 refine Al<|Ge1 (Av (cs:=[_,_]) C C C) λb1=>Ge1 (Av (cs:=[_,_,_]) C C C) λb2=>Z ?_
 refine Gc0 (Ab c_ C C<|am2 kd wd mo)<|Z ?_
 refine Ao C (λM=>Z ?_)<|λM=>Z ?_
 ·exact Am C C I Ah ⟨by rw [show ac8 nd xs kd wd mo nw=s7 kd wd mo from (by unfold ac8;rw [B_ M])],rfl⟩
 refine Gc0 (Ab c_ C C<|Z4 (nd:=nd)<|A3 hl)<|Z ?_
 refine Ao C (λaa=>Z ?_)<|λaa=>Z ?_
 ·exact Am C C I Ah ⟨by rw [show ac8 nd xs kd wd mo nw=p9 nd xs from (by unfold ac8;rw [An M,B_ aa])],rfl⟩
 refine A4 (d:=23) C (λah=>Z ?_)<|λah=>Z ?_
 ·exact Am C C I Ah ⟨by rw [show ac8 nd xs kd wd mo nw=9 from (by unfold ac8;rw [An M,An aa,B_<|by first|omega|(simp only [*];done)|exact .inr (.inr asm)|exact .inr (.inr<|Kf.2 ⟨_,Bo (i:=(k:Int)) om om,As ab⟩)])],rfl⟩
 refine Ao C (λae=>Z ?_)<|λae=>Z ?_
 ·exact Am C C I Ah ⟨by rw [show ac8 nd xs kd wd mo nw=9 from (by unfold ac8;rw [An M,An aa,B_<|by first|omega|(simp only [*];done)|exact .inr (.inr asm)|exact .inr (.inr<|Kf.2 ⟨_,Bo (i:=(k:Int)) om om,As ab⟩)])],rfl⟩
 refine Dj (σ:=Nat) (λs=>[(30,e7 ((s:Nat):Int))]) (λ_=>[]) (λs=>(s<=xs.length)/\(∀j,j<s->¬nw<(e_ xs j).tm)) (λs=>xs.length - s) 0 (show ((0:Nat)<=xs.length)/\(∀j,j<(0:Nat)->¬nw<(e_ xs j).tm) from ⟨om,Fc⟩) ?_
 rintro k hp
 obtain ⟨hk,hn⟩:=hp
 refine Z ?_
 refine Ao C (λad=>Z ?_)<|λad=>Z ?_
 ·refine Ge1 (Aj J8 C) λb3=>Ge0 (Fo J8) (Z ?_)
  refine Ao C (λab=>Z ?_)<|λab=>Z ?_
  ·exact Am C C I Ah ⟨by rw [show ac8 nd xs kd wd mo nw=9 from (by unfold ac8;rw [An M,An aa,B_<|by first|omega|(simp only [*];done)|exact .inr (.inr asm)|exact .inr (.inr<|Kf.2 ⟨_,Bo (i:=(k:Int)) om om,As ab⟩)])],rfl⟩
  exact Bu ((k+1)) ⟨om,(Dq hn ab)⟩
 exact Am C C I Ah ⟨by rw [show ac8 nd xs kd wd mo nw=0 from (by unfold ac8;rw [An M,An aa,An<|by rintro (h|h|h)<;>first|omega|(obtain ⟨x,hx,h2⟩:=Kf.1 h;obtain ⟨j,hj,rfl⟩:=ar2 hx;exact hn j om<|Fu h2)])],rfl⟩
variable {κ:Ctx}{I:List Item}
theorem fs1(x:Lk):eu prog κ 191 [.agg (kl x).toArray] I (λr J=>r = .bool true/\I=J):=by
 refine Ce1 Tryz.func191 C C ?_
 refine Al<|Ge1 (Av (cs:=[_,_,_,_,_,_]) C C C) λb1=>Z ?_
 exact Am C C I Ah ⟨rfl,rfl⟩
theorem fs2(M:ab7 κ I b [e7 nw] 3)(hc:ab7 κ I c [e7 kd,e7 wd,e7 mo] 29)(x:Lk):eu prog κ 193 [.agg (kl x).toArray,(pt b),(pt c)] I (λr J=>r = .bool (decide (IntKind.i64.wrap (nw - x.tm)<wd))/\I=J):=by
 refine Ce3 Tryz.func193 C C ?_
 refine Al<|Ge1 (Av (cs:=[_,_,_,_,_,_]) C C C) λb1=>Ga C<|Ar<|Al<|Gr (Ec ef C (Ek M Ah) C)<|Z ?_
 refine Gr (j8.gd3 C C)<|Gf ao0 C<|Gr (Ec ef C (Ek hc Ah) C)<|Z ?_
 exact Am C C I Ah ⟨rfl,rfl⟩
theorem br6{p:Lk->Bool}(M:k<xs.length)(h:p (e_ xs k)=true):(xs.take (k+1)).filter p=(xs.take k).filter p++[e_ xs k]:=by
 rw [Ca xs k M,Gu];simp [h]
theorem cn2{p:Lk->Bool}(M:k<xs.length)(h:p (e_ xs k)=false):(xs.take (k+1)).filter p=(xs.take k).filter p:=by
 rw [Ca xs k M,Gu];simp [h]
theorem fc7 :
    eu prog κ 190 [.agg #[e7 nd,va],.agg #[e7 kd,e7 wd,e7 mo],e7 nw] I (λr J=>r = .func (.func 191) #[] #[]/\I=J):=by
 refine Ce3 Tryz.func190 C C ?_
 refine Al<|Ge1 (Av (cs:=[_,_]) C C C) λb1=>Ge1 (Av (cs:=[_,_,_]) C C C) λM=>Z ?_
 exact Am C C I Ah ⟨rfl,rfl⟩
theorem fc6 :
    eu prog κ 192 [.agg #[e7 nd,va],.agg #[e7 kd,e7 wd,e7 mo],e7 nw] I (λr J=>∃b c,r = .func (.func 193) #[] #[(pt b),pt c]/\J=e8 b [e7 nw] 3::e8 c [e7 kd,e7 wd,e7 mo] 29::I):=by
 refine Ce3 Tryz.func192 C C ?_
 exact Al<|Ge1 (Av (cs:=[_,_]) C C C) λb1=>Ge1 (Av (cs:=[_,_,_]) C C C) λb2=>Ge1 (Av (cs:=[_]) C C C) λM=>Ga C<|Ar<|Al<|Gr (D0 C C)<|Ga C<|Ar<|B3<|Am C C (e8 M [e7 nw] 3::e8 b2 [e7 kd,e7 wd,e7 mo] 29::I) Ai ⟨M,b2,rfl,rfl⟩
theorem bt3  :
    eu prog κ 174 [] I (λr J=>∃m,r = .map (some m)/\J=mp m [({key:=e7 1,val:= .func (.func 190) #[] #[],born:=0}:MapEntry),({key:=e7 2,val:= .func (.func 192) #[] #[],born:=1}:MapEntry),({key:=e7 3,val:= .func (.func 194) #[] #[],born:=2}:MapEntry)] 3::I):=by
 refine Ce0 Tryz.func174 C C<|Z ?_
 refine Ge1 (Eff.makeMap C) λM=>?_
 refine Ge0 (Eff.ce4 D7 Cf C C C C C am) ?_
 refine Ge0 (Eff.ce4 D7 Cf C C C C C am) ?_
 refine Ge0 (Eff.ce4 D7 Cf C C C C C am)<|Z ?_
 exact Am C C (mp M [({key:=e7 1,val:= .func (.func 190) #[] #[],born:=0}:MapEntry),({key:=e7 2,val:= .func (.func 192) #[] #[],born:=1}:MapEntry),({key:=e7 3,val:= .func (.func 194) #[] #[],born:=2}:MapEntry)] 3::I) Ai ⟨M,rfl,rfl⟩
variable {κ:Ctx}{I:List Item}
def Lk.fy1(a c:Lk):Int:=orL [bu2 c.tm a.tm,Lk.cmp c a]
def Lk.late(a c:Lk):Prop:=c.tm<a.tm\/(a.tm=c.tm/\Lk.lt c a)
instance:DecidableRel Lk.late:=λa c=>by unfold Lk.late;infer_instance
theorem Lk.br4(a c:Lk):Lk.fy1 a c<0↔Lk.late a c:=by
 unfold Lk.fy1 Lk.late
 rw [←Lk.V9]
 simp only [orL,bu2]
 generalize Lk.cmp c a=z
 (repeat' split)<;>omega
def aj7(xs ys:List Lk):Prop:=ys.Perm xs/\ys.Pairwise λa b=>¬Lk.late b a
open Go.Proofs Go.Shelf Go.Sort in
theorem fv0:SWO (ltOf Lk.fy1) where
 irrefl x:=D_ λh=>by rw [Lk.br4] at h;unfold Lk.late Lk.lt Pt.lt Lk.p at h;simp only at h;omega
 trans x y z h1 h2:=As (by
  have a:=Fu h1
  have b:=Fu h2
  rw [Lk.br4] at a b ⊢
  unfold Lk.late Lk.lt Pt.lt Lk.p at a b ⊢
  simp only at a b ⊢
  omega)
 ntrans x y z h1 h2:=D_ λh=>by
  have a:=Ja h1
  have b:=Ja h2
  rw [Lk.br4] at a b h
  unfold Lk.late Lk.lt Pt.lt Lk.p at a b h
  simp only at a b h
  omega
theorem tb3{p:Prop}(h:p:=by simp only [Fy];omega):p:=h
theorem bh7(hl:Sl κ I (.slice a xs.length c) xs)(hb:xs.length<=1000000000):eu prog κ 127 [.slice a xs.length c] I (λr J=>∃a' c',r = .slice a' xs.length c'/\J=vk 82 a' c' xs::I):=by
 refine Bx (p:=a.isNone=true->xs=[]/\c=0) (λw hs hn=>hl.isNone w hs hn) λM=>?_
 refine Ce1 Tryz.func127 C C<|Z ?_
 refine Gr (j8.dy6 A2 C C)<|Ar<|Ds C (λc4=>Z ?_)<|λc4=>Z ?_
 ·obtain ⟨ad,_⟩:=M c4
  subst ad
  exact Am C C (vk 82 none 0 ([]:List Lk)::I) (B6 _ _) ⟨none,0,rfl,rfl⟩
 refine Ge1 (Eff.bs0 (α:=Lk) A2 J8 C) λae=>?_
 refine Gm C<|Ge2 (Bs (α:=Lk) (e:=82) (xs:=([]:List Lk)) (ys:=xs) A2 J8 C C C mm (A3 hl) tb3 dc C<|λ_ _=>am) λaa ab=>?_
 exact Ga C<|Ar<|B3<|Am C C (vk 82 aa ab xs::I) Ai ⟨aa,ab,rfl,rfl⟩
theorem cy7(a c:Lk):eu prog κ 212 [.agg (kl a).toArray,.agg (kl c).toArray] I (λr J=>r=e7 (Lk.fy1 a c)/\I=J):=by
 refine Ce2 Tryz.func212 C C ?_
 refine Al<|Ge1 (Av (cs:=[_,_,_,_,_,_]) C C C) λb1=>Ge1 (Av (cs:=[_,_,_,_,_,_]) C C C) λM=>Ga C<|Ar<|Ax<|A8 mixed<|Bv (e8 M (kl c) 82::e8 b1 (kl a) 82::I) 10<|Z ?_
 refine Ds1 4<|Sc0 C (Ab c_ C C<|Z3 c.tm a.tm) ?_
 refine Ds1 7<|Sc0 C (Ab c_ C C<|bh2 c a) ?_
 refine Ds1 8<|Se1 C (B1 (α:=Int) (cs:=[_,_]) (xs:=[bu2 c.tm a.tm,Lk.cmp c a]) Ac ef C C dc dc C C C C) λaa=>?_
 refine Ds1 9<|Sc0 C (Ab c_ C C<|fr3 A5) ?_
 refine Ch kr ?_
 refine Di (i:=10) kr C (Aq C) C C (Bj C) ?_
 refine Ci kr<|Z ?_
 exact Am C C I Ah ⟨rfl,rfl⟩
open Go.Proofs Go.Shelf Go.Sort in
theorem fc0{κ:Ctx}{I:List Item}(aa:xs.length<1000000000):eu prog κ 211 [.slice a xs.length c,.func (.func 212) #[] #[]] (vk 82 a c xs::I) λr J=>∃ys:List Lk,(r = .tuple #[]/\aj7 xs ys/\ys.length=xs.length)/\J=[]++vc 82 (.slice a xs.length c) ys::I:=
 (dt1 (α:=Lk) (ρ:=Tryz.bc5) Tryz.fk8 Tryz.isAgg82 Tryz.sizeOf82 Lk.fy1 fv0 212 #[] (enters_of Tryz.func212 (by kernel_rfl) rfl) (λx y W=>fn0<|cy7 x y) om).mono λr J ⟨ys,⟨h1,M,h3⟩,h4⟩=>
  ⟨ys,⟨h1,⟨M,h3.imp fun {a b} h=>by rw [←Lk.br4];exact Ja h⟩,M.length_eq⟩,by rw [h4,M.length_eq]⟩
theorem fc1{F:Item->List Item}{n:Nat}(M:AtF I (vc 82 (.slice a n c) xs) F)(hn:xs.length=n)(aa:xs.length<1000000000):eu prog κ 211 [.slice a n c,.func (.func 212) #[] #[]] I λr J=>∃ys:List Lk,(r = .tuple #[]/\aj7 xs ys/\ys.length=n)/\J=[]++F (vc 82 (.slice a n c) ys):=
 Fq (Z:=λ_=>[]) (X:=λys:List Lk=>vc 82 (.slice a n c) ys) (Post:=λr ys=>r = .tuple #[]/\aj7 xs ys/\ys.length=n) M λJ _ _=>by subst hn;exact fc0 aa
theorem ta1{p:Prop}(h:p:=by repeat (first|exact AtF.head _ _|apply AtF.tail)):p:=h
theorem fr6(hl:Sl κ I (.slice a0 xs.length c0) xs)(h0:0<=mo)(ai:xs.length<=1000000):eu prog κ 195 [.agg #[e7 nd,.slice a0 xs.length c0],e7 mo] I (λr J=>∃(a:Option Addr) (c:Nat) (ys:List Lk) (m:Nat),r = .slice a (List.take m ys).length c/\(aj7 xs ys/\ys.length=xs.length/\(m:Int)<=mo/\m<=xs.length/\((m:Int)=mo\/m=xs.length))/\J=vc 82 (.slice a xs.length c) ys::I):=by
 refine Ce2 Tryz.func195 C C ?_
 refine Al<|Ge1 (Av (cs:=[_,_]) C C C) λb1=>Z ?_
 refine G.e (Ab c_ C C<|bh7 (xs:=xs) (A3 hl) om) ?_
 rintro _ _ ⟨_,_,⟨M,aa,rfl,rfl⟩,rfl,rfl⟩
 refine Z ?_
 refine G.e (Ab c_ C C<|fc1 ta1 C om) ?_
 rintro _ _ ⟨_,_,⟨ab,⟨rfl,ad,ae⟩,rfl⟩,rfl,rfl⟩
 show G prog κ _ _ _ _ ([(10,.tuple #[]),(9,.slice M xs.length aa),(5,.slice M xs.length aa),(8,.slice M xs.length aa),(7,.slice a0 xs.length c0),(6,.pointer<|some ⟨b1,1,none⟩),(4,.slice none 0 0),(2,pt b1),(0,.agg #[e7 nd,.slice a0 xs.length c0]),(1,e7 mo)]:Env) (vc 82 (.slice M xs.length aa) (ab)::e8 b1 [e7 nd,.slice a0 xs.length c0] 35::I)
 refine Z ?_
 refine Gr (j8.hi (α:=Lk) (xs:=ab) (h:=(if ((xs.length:Nat):Int)<mo then ((xs.length:Nat):Int) else mo).toNat) A2 J8 C C om A5<|by split<;>omega)<|Z ?_
 have ah:(((((if ((xs.length:Nat):Int)<mo then ((xs.length:Nat):Int) else mo).toNat)):Nat):Int)<=mo/\(((if ((xs.length:Nat):Int)<mo then ((xs.length:Nat):Int) else mo).toNat))<=xs.length/\((((((if ((xs.length:Nat):Int)<mo then ((xs.length:Nat):Int) else mo).toNat)):Nat):Int)=mo\/(((if ((xs.length:Nat):Int)<mo then ((xs.length:Nat):Int) else mo).toNat))=xs.length):=by split<;>omega
 exact Am C C (vc 82 (.slice M xs.length aa) (ab)::I) Ai ⟨M,aa,ab,((if ((xs.length:Nat):Int)<mo then ((xs.length:Nat):Int) else mo).toNat),rfl,⟨ad,ae,ah⟩,rfl⟩
theorem dq6(hl:Sl κ I v xs)(x:Lk):eu prog κ 213 [v,.agg (kl x).toArray] I (λr J=>∃y:Int,r=e7 y/\(0<=y↔x∈xs)/\I=J):=by
 refine Bx hl.le λaa=>?_
 refine Ce2 Tryz.func213 C C ?_
 refine Al<|Ge1 (Av (cs:=[_,_,_,_,_,_]) C C C) λb1=>Z ?_
 refine Dj (σ:=Nat) (λs=>[(8,e7 ((s:Nat):Int))]) (λ_=>[]) (λs=>(s<=xs.length)/\(∀j,j<s->e_ xs j≠x)) (λs=>xs.length - s) 0 (show ((0:Nat)<=xs.length)/\(∀j,j<(0:Nat)->e_ xs j≠x) from ⟨om,Fc⟩) ?_
 rintro k hp
 obtain ⟨hk,hn⟩:=hp
 refine Z ?_
 refine Ao C (λc9=>Z ?_)<|λc9=>Z ?_
 ·refine A8 mixed (Bv (e8 b1 (kl x) 82::I) 6<|Z ?_)
  refine Dr 5 C (Fm (α:=Lk) (a:=x) (b:=(e_ xs k)) dy5 C C)<|Dz<|Ak<|Ao C (λM=>Z ?_)<|λM=>Z ?_
  ·have hm:x∈xs:=by rw [show x=e_ xs k from M];exact Bo om om
   exact Am C C I Ah ⟨_,rfl,⟨λ_=>hm,λ_=>by omega⟩,rfl⟩
  exact Bu ((k+1)) ⟨om,(Dq hn<|λe=>M e.symm)⟩
 have hm:x∉xs:=av4 hn om
 exact Am C C I Ah ⟨_,rfl,⟨λh=>absurd h dc,λh=>absurd h hm⟩,rfl⟩
theorem cc2(M:Sl κ I v xs)(x:Lk):eu prog κ 197 [v,.agg (kl x).toArray] I (λr J=>r = .bool (decide (x∈xs))/\I=J):=by
 refine Ce2 Tryz.func197 C C ?_
 refine Al<|Ge1 (Av (cs:=[_,_,_,_,_,_]) C C C) λb1=>Z ?_
 refine G.e (Ab c_ C C<|dq6 (A3 M) x) ?_
 rintro _ _ ⟨_,_,⟨y2,rfl,aa,rfl⟩,rfl,rfl⟩
 refine Z ?_
 exact Am C C I Ah ⟨by rw [Fw.2 asm],rfl⟩
theorem fe6{zs:List Lk}(hb:ab7 κ I b [v] 33)(M:Sl κ I v zs)(x:Lk):eu prog κ 196 [.agg (kl x).toArray,(pt b)] I (λr J=>r = .bool (decide (x∈zs))/\I=J):=by
 refine Ce2 Tryz.func196 C C ?_
 refine Al<|Ge1 (Av (cs:=[_,_,_,_,_,_]) C C C) λb1=>Ga C<|Ar<|Al<|Gr (Ec au1 C (Ek hb Ah) C)<|Z ?_
 refine Gc0 (Ab c_ C C<|cc2 (A3 M) x) ?_
 exact Ga C<|Ar<|B3<|Am C C I Ah ⟨rfl,rfl⟩
theorem fc5(hl:Sl κ I (.slice a0 xs.length c0) xs)(h0:0<=mo)(ah:xs.length<=1000000):eu prog κ 194 [.agg #[e7 nd,.slice a0 xs.length c0],.agg #[e7 kd,e7 wd,e7 mo],e7 nw] I (λr J=>∃(b:Nat) (a:Option Addr) (c:Nat) (ys:List Lk) (m:Nat),r = .func (.func 196) #[] #[(pt b)]/\(aj7 xs ys/\ys.length=xs.length/\(m:Int)<=mo/\m<=xs.length/\((m:Int)=mo\/m=xs.length))/\J=e8 b [.slice a (List.take m ys).length c] 33::vc 82 (.slice a xs.length c) ys::I):=by
 refine Ce3 Tryz.func194 C C ?_
 refine Al<|Ge1 (Av (cs:=[_,_]) C C C) λb1=>Ge1 (Av (cs:=[_,_,_]) C C C) λb2=>Z ?_
 refine G.e (Ab c_ C C<|fr6 (nd:=nd) (A3 hl) h0 om) ?_
 rintro _ _ ⟨_,_,⟨ad,ab,aa,ae,rfl,M,rfl⟩,rfl,rfl⟩
 refine Ge1 (Aj au1 C) λb7=>Ge0 (Bt (cs:=[_]) (vs:=[_]) (cs':=[_]) au1) ?_
 exact Ar<|Al<|Gr (D0 C C)<|Ga C<|Ar<|B3<|Am C C (e8 b7 [.slice ad (List.take ae aa).length ab] 33::vc 82 (.slice ad xs.length ab) (aa)::I) Ai ⟨b7,ad,ab,aa,ae,rfl,M,rfl⟩
end Go.Sl
namespace Go.Sl
variable{kd mo n nd nw wd:Int}{xs ys:List Lk}
theorem fv7:∀(xs:List Lk) (q:Lk),P7 (ax0 n) Lk.lt (some q) xs=0->(∀x∈xs,ax0 n x=0)/\(q::xs).Pairwise Lk.lt
 |[],q,_=>by simp
 |p::ps,q,h=>by
  simp only [P7] at h
  by_cases hb:ax0 n p=0
  ·rw [An (by simp [hb])] at h
   by_cases hl:Lk.lt q p
   ·rw [B_ hl] at h
    obtain ⟨h1,M⟩:=fv7 ps p h
    refine ⟨λx hx=>?_,Gj.2 ⟨λx hx=>?_,M⟩⟩
    ·rcases F_.1 hx with rfl|hx
     ·exact hb
     exact h1 x hx
    rcases F_.1 hx with rfl|hx
    ·exact hl
    exact Pt.lin.tr _ _ _ hl<|(Gj.1 M).1 x hx
   rw [An hl] at h;cases h
  rw [B_ hb] at h;exact absurd h hb
theorem Q5(h:p9 n xs=0):(0<=n/\n<=64)/\(∀x∈xs,ax0 n x=0)/\xs.Pairwise Lk.lt:=by
 unfold p9 at h
 by_cases hn:n<0\/64<n
 ·rw [B_ hn] at h;cases h
 rw [An hn] at h
 refine ⟨by omega,?_⟩
 cases xs with
 |nil=>exact ⟨(λx hx=>by cases hx),List.Pairwise.nil⟩
 |cons p ps=>
  simp only [P7] at h
  by_cases hb:ax0 n p=0
  ·rw [An (by simp [hb])] at h
   obtain ⟨h1,M⟩:=fv7 ps p h
   exact ⟨λx hx=>by
    rcases F_.1 hx with rfl|hx
    ·exact hb
    exact h1 x hx,M⟩
  rw [B_ hb] at h;exact absurd h hb
theorem cg7{l:Lk}(h:ax0 n l=0):0<=l.tm/\l.tm<=1048576:=by
 unfold ax0 at h
 split at h
 ·cases h
 split at h
 ·cases h
 split at h
 ·cases h
 omega
structure fh2 (nd:Int) (xs:List Lk) (kd wd mo nw:Int):Prop where
 kind:1<=kd/\kd<=3
 width:kd=2->1<=wd/\wd<=1048576
 most:kd=3->0<=mo/\mo<=2016
 nodes:0<=nd/\nd<=64
 asc:xs.Pairwise Lk.lt
 now:0<=nw/\nw<=1048576
 tm:∀x∈xs,0<=x.tm/\x.tm<=nw
theorem bg5(h:ac8 nd xs kd wd mo nw=0):fh2 nd xs kd wd mo nw:=by
 unfold ac8 at h
 by_cases h1:s7 kd wd mo=0
 ·rw [An (by simp [h1])] at h
  by_cases h2:p9 nd xs=0
  ·rw [An (by simp [h2])] at h
   obtain ⟨h3,h4,h5⟩:=Q5 h2
   split at h
   ·cases h
   rename_i h6
   have M:(1<=kd/\kd<=3)/\(kd=2->1<=wd/\wd<=1048576)/\(kd=3->0<=mo/\mo<=2016):=by
    unfold s7 at h1
    split at h1
    ·cases h1
    split at h1
    ·cases h1
    omega
   refine ⟨M.1,M.2.1,M.2.2,h3,h5,by omega,λx hx=>?_⟩
   have h7:=cg7 (h4 x hx)
   refine ⟨h7.1,?_⟩
   by_cases h8:nw<x.tm
   ·exact absurd (.inr<|.inr<|Kf.2 ⟨x,hx,As h8⟩) h6
   omega
  rw [B_ h2] at h;exact absurd h h2
 rw [B_ h1] at h;exact absurd h h1
def an4(xs:List Lk)(x:Lk):Nat:=(xs.filter λy=>decide (Lk.late y x)).length
def inW(kd wd mo nw:Int)(xs:List Lk)(x:Lk):Bool:=if kd=2 then decide (nw - x.tm<wd) else if kd=3 then decide ((an4 xs x:Int)<mo) else true
theorem dw7(x:Lk):¬Lk.late x x:=by unfold Lk.late Lk.lt Pt.lt;omega
theorem ct6{x y:Lk}(h:Lk.late x y):¬Lk.late y x:=by unfold Lk.late Lk.lt Pt.lt at *; omega
theorem bp6:∀(ys:List Lk) (i:Nat) (hi:i<ys.length),ys.Pairwise Lk.late->an4 ys ys[i]=i
 |[],i,hi,_=>absurd hi (by simp)
 |y::ys,0,hi,hp=>by
  obtain ⟨h1,h2⟩:=Gj.1 hp
  unfold an4
  rw [Jm.2 λz hz=>?_]
  ·rfl
  simp only [List.getElem_cons_zero,Gs]
  rcases F_.1 hz with rfl|hz
  ·exact dw7 _
  exact ct6<|h1 z hz
 |y::ys,i+1,hi,hp=>by
  obtain ⟨h1,h2⟩:=Gj.1 hp
  have M:i<ys.length:=by simpa using hi
  have ih:=bp6 ys i M h2
  unfold an4 at ih ⊢
  rw [List.getElem_cons_succ,Hn,B_<|As<|h1 _<|List.getElem_mem M,E_,ih]
theorem ax6(h:aj7 xs ys)(ha:xs.Pairwise Lk.lt):ys.Pairwise Lk.late:=by
 have h1:xs.Pairwise λa b=>Lk.late a b\/Lk.late b a:=ha.imp fun {a b} M=>by unfold Lk.late Lk.lt Pt.lt at *; omega
 have h2:ys.Pairwise λa b=>Lk.late a b\/Lk.late b a:=(h.1.pairwise_iff fun {x y} aa=>aa.symm).2 h1
 exact (h2.and h.2).imp fun {a b} M=>M.1.resolve_right M.2
theorem db7(h:aj7 xs ys)(ha:xs.Pairwise Lk.lt){x:Lk}(hx:x∈xs)(m:Nat):x∈ys.take m↔an4 xs x<m:=by
 have hp:=ax6 h ha
 have hr:∀z,an4 xs z=an4 ys z:=λz=>by unfold an4;exact ((h.1.filter _).length_eq).symm
 constructor
 ·intro hm
  obtain ⟨j,hj,M⟩:=List.mem_take_iff_getElem.1 hm
  rw [hr,←M,bp6 ys j om hp];omega
 intro hm
 obtain ⟨j,hj,M⟩:=Hx (h.1.mem_iff.2 hx)
 rw [hr,←M,bp6 ys j hj hp] at hm
 exact List.mem_take_iff_getElem.2 ⟨j,by omega,M⟩
theorem fn5(hk:kd=1):(xs.filter λ_=>true)=xs.filter (inW kd wd mo nw xs):=
 H_ λx M=>by unfold inW;rw [An om,An om]
theorem fn6(h:fh2 nd xs kd wd mo nw)(hk:kd=2):(xs.filter λx=>decide (IntKind.i64.wrap (nw - x.tm)<wd))=xs.filter (inW kd wd mo nw xs):=
 H_ λx M=>by
  have h1:=h.tm x M
  have h2:=h.now
  unfold inW;rw [B_ hk,InR.wrap<|by unfold InR;omega]
theorem dx5{m:Nat}(h:fh2 nd xs kd wd mo nw)(hk:kd=3)(hs:aj7 xs ys/\ys.length=xs.length/\(m:Int)<=mo/\m<=xs.length/\((m:Int)=mo\/m=xs.length)) :
  (xs.filter λx=>decide<|x∈ys.take m)=xs.filter (inW kd wd mo nw xs):=
 H_ λx M=>by
  unfold inW;rw [An om,B_ hk,Fw,db7 hs.1 h.asc M]
  have hlt:an4 xs x<xs.length:=by
   have h1:=G_ (λy=>decide<|Lk.late y x) xs
   obtain ⟨j,hj,he⟩:=Hx (hs.1.1.mem_iff.2 M)
   have h2:an4 xs x=j:=by
    have:an4 xs x=an4 ys x:=by unfold an4;exact ((hs.1.1.filter _).length_eq).symm
    rw [this,←he,bp6 ys j hj<|ax6 hs.1 h.asc]
   omega
  omega
theorem ai8(ha:xs.Pairwise Lk.lt){i j:Nat}(hi:i<xs.length)(hj:j<xs.length):Lk.late (e_ xs j) (e_ xs i)↔((e_ xs i).tm<(e_ xs j).tm\/((e_ xs j).tm=(e_ xs i).tm/\i<j)):=by
 unfold Lk.late
 have M:Lk.lt (e_ xs i) (e_ xs j)↔i<j:=by
  constructor
  ·intro h
   rcases Ks i j with h1|h1|h1
   ·exact h1
   ·subst h1;exact absurd h (Pt.lin.irr _)
   exact absurd (Pt.lin.tr _ _ _ h<|(E4 xs).1 ha j i h1 hi)<|Pt.lin.irr _
  intro h;exact (E4 xs).1 ha i j h hj
 rw [M]
end Go.Sl
namespace Go.Sl
open Go.Proofs
set_option maxRecDepth 4000
attribute [local irreducible] W G V D A j8 Eff
theorem gb3{κ:Ctx}{I:List Item}{nd kd wd mo nw:Int}{va:Value}{xs:List Lk}(hl:Sl κ I va xs){i:Nat}(hi:i<xs.length)(M:fh2 nd xs kd wd mo nw):eu prog κ 116 [.agg #[e7 nd,va],.agg #[e7 kd,e7 wd,e7 mo],e7 nw,e7 ((i:Int))] I (λr J=>r = .bool (inW kd wd mo nw xs (e_ xs i))/\I=J):=by
 refine Bx hl.le λan=>?_
 have aq:=M.tm _ (Bo (xs:=xs) (i:=(i:Int)) om om)
 have ao:=M.now
 refine Ce4 Tryz.func116 C C ?_
 refine Al<|Ge1 (Av (cs:=[_,_]) C C C) λb1=>Ge1 (Av (cs:=[_,_,_]) C C C) λb2=>Z ?_
 refine Ao C (λaa=>?_)<|λaa=>Z ?_
 ·refine Ax (A8 mixed<|Bv (e8 b2 [e7 kd,e7 wd,e7 mo] 29::e8 b1 [e7 nd,va] 35::I) 12<|Z ?_)
  exact Am C C I Ah ⟨by unfold inW;rw [B_ aa],rfl⟩
 refine Ao C (λab=>Z ?_)<|λab=>Z ?_
 ·refine Dj (σ:=Nat×Int) (λs=>[(9,e7<|s.2),(32,e7 ((s.1:Nat):Int))]) (λ_=>[]) (λs=>(s.1<=xs.length)/\(s.2=((((xs.take s.1).filter (λy=>decide<|Lk.late y<|e_ xs i)).length:Nat):Int))) (λs=>xs.length - s.1) (0,0) (show ((0:Nat)<=xs.length)/\((0:Int)=((((xs.take (0:Nat)).filter (λy=>decide<|Lk.late y<|e_ xs i)).length:Nat):Int)) from ⟨om,(by simp)⟩) ?_
  rintro ⟨k,cn⟩ hp
  dsimp only at hp ⊢
  obtain ⟨hk,hc⟩:=hp
  have ap:0<=cn/\cn<=k:=by rw [hc];have ai:=G_ (λy=>decide<|Lk.late y<|e_ xs i) (xs.take k);rw [Ft] at ai;omega
  refine Z ?_
  refine Ao C (λad=>Z ?_)<|λad=>Z ?_
  ·refine Ge1 (Aj J8 C) λb3=>Ga C (Ge0 (Fo J8) ?_)
   refine Ar<|Ax<|A8 mixed<|Bv (e8 b3 (kl (e_ xs k)) 82::e8 b2 [e7 kd,e7 wd,e7 mo] 29::e8 b1 [e7 nd,va] 35::I) 25<|Z ?_
   refine Df (d:=46) C (λaj=>Z ?_)<|λaj=>?_
   ·exact Bu ((k+1),(cn+1))<|by dsimp only;exact ⟨om,(by first|(rw [br6 om (As<|(ai8 M.asc hi om).2 om),By,Md];omega)|(rw [cn2 om (D_ (λh=>by have:=(ai8 M.asc hi om).1 h;omega))];omega))⟩
   refine Dro 10 C (Af br7 C)<|Z ?_
   refine Df (d:=56) C (λae=>Z ?_)<|λae=>?_
   ·refine Ao C (λah=>Z ?_) (λah=>Z ?_)
    ·exact Bu ((k+1),(cn+1))<|by dsimp only;exact ⟨om,(by first|(rw [br6 om (As<|(ai8 M.asc hi om).2 om),By,Md];omega)|(rw [cn2 om (D_ (λh=>by have:=(ai8 M.asc hi om).1 h;omega))];omega))⟩
    exact Bu ((k+1),(cn))<|by dsimp only;exact ⟨om,(by first|(rw [br6 om (As<|(ai8 M.asc hi om).2 om),By,Md];omega)|(rw [cn2 om (D_ (λh=>by have:=(ai8 M.asc hi om).1 h;omega))];omega))⟩
   refine Dpo 20 C<|Z ?_
   exact Bu ((k+1),(cn))<|by dsimp only;exact ⟨om,(by first|(rw [br6 om (As<|(ai8 M.asc hi om).2 om),By,Md];omega)|(rw [cn2 om (D_ (λh=>by have:=(ai8 M.asc hi om).1 h;omega))];omega))⟩
  have ak:cn=((an4 xs (e_ xs i):Nat):Int):=by rw [hc,Fz om];rfl
  exact Am C C I Ah ⟨by unfold inW;rw [An aa,B_ ab,ak],rfl⟩
 exact Am C C I Ah ⟨by unfold inW;rw [An aa,An ab],rfl⟩
end Go.Sl
namespace Go.Sl
open Go.Proofs
set_option maxRecDepth 4000
end Go.Sl
namespace Go.Sl
open Go.Proofs
set_option maxRecDepth 4000
variable{xs:List Lk}{c0 k:Nat}{kd mo nd nw wd:Int}{a0:Option Addr}
variable {κ:Ctx}{I:List Item}
attribute [local irreducible] W G V D A j8 Eff
def M0(nw:Int)(l:Lk):Ev:=⟨2,nw,l.u,l.v,0,0,0⟩
theorem N8{P:Lk->Bool}{f:Lk->Ev}(M:k<xs.length)(h:P (e_ xs k)=false):((xs.take (k+1)).filter λx=> !P x).map f=((xs.take k).filter λx=> !P x).map f++[f (e_ xs k)]:=by
 rw [Ca xs k M,Gu,Hv];simp [h]
theorem W8{P:Lk->Bool}{f:Lk->Ev}(M:k<xs.length)(h:P (e_ xs k)=true):((xs.take (k+1)).filter λx=> !P x).map f=((xs.take k).filter λx=> !P x).map f:=by
 rw [Ca xs k M,Gu,Hv];simp [h]
theorem bs1{P R:Lk->Bool}(h:xs.filter P=xs.filter R):(xs.filter λx=> !P x)=xs.filter λx=> !R x:=
 H_ λx hx=>by
  have M:x∈xs.filter P↔x∈xs.filter R:=by rw [h]
  rw [Gp,Gp] at M
  simp only [hx,true_and] at M
  cases hp:P x<;>cases hr:R x<;>simp_all
def s6(kd wd mo nw:Int)(xs:List Lk):List Ev:=(xs.filter λx=> !inW kd wd mo nw xs x).map (M0 nw)
theorem ci2(l:Lk)(nw:Int):eu prog κ 175 [.agg (kl l).toArray,e7 nw] I (λr J=>r = .agg #[e7 2,e7 nw,e7 l.u,e7 l.v,e7 0,e7 0,e7 0]/\I=J):=by
 refine Ce2 Tryz.func175 C C ?_
 refine Al<|Ge1 (Av (cs:=[_,_,_,_,_,_]) C C C) λb1=>Ge1 (Aj z6 C) λM=>Z ?_
 refine Ge0 (E5 z6) ?_
 exact Ar<|B3<|Ej C z6 C mm C I Ah ⟨rfl,rfl⟩
theorem ci7(l:Lk)(nw:Int):eu prog κ 117 [.agg (kl l).toArray,e7 nw] I (λr J=>r = .agg #[e7 2,e7 nw,e7 l.u,e7 l.v,e7 0,e7 0,e7 0]/\I=J):=by
 refine Ce2 Tryz.func117 C C ?_
 refine Al<|Ge1 (Av (cs:=[_,_,_,_,_,_]) C C C) λb1=>Ge1 (Aj z6 C) λM=>Z ?_
 refine Ge0 (E5 z6) ?_
 exact Ar<|B3<|Ej C z6 C mm C I Ah ⟨rfl,rfl⟩
theorem ff2{M:Nat}(hl:Sl κ I (.slice a0 xs.length M) xs)(ad:xs.length<=1000000)(hA:ac8 nd xs 1 wd mo nw=0):eu prog κ 153 [.agg #[e7 nd,.slice a0 xs.length M],.agg #[e7 1,e7 wd,e7 mo],e7 nw] I (λr J=>∃a c,r = .slice a (s6 1 wd mo nw xs).length c/\J=vk 54 a c (s6 1 wd mo nw xs)::I):=by
 refine Ce3 Tryz.func153 C C ?_
 refine Al<|Ge1 (Av (cs:=[_,_]) C C C) λb1=>Ge1 (Av (cs:=[_,_,_]) C C C) λb2=>Ga C<|Ar<|Ax<|A8 mixed<|Bv (e8 b2 [e7 1,e7 wd,e7 mo] 29::e8 b1 [e7 nd,.slice a0 xs.length M] 35::I) 9<|Dr 1 C (Af U8 C)<|Z ?_
 refine Ds1 0<|Se C (Ab c_ C C bt3) ?_
 rintro _ _ ⟨_,_,⟨ab,rfl,rfl⟩,rfl,rfl⟩
 refine ⟨Ai,?_⟩
 refine Ds1 3<|Sr C (j8.ce0 (i:=0) D7 Cf C C C mm C) Ai ?_
 refine Ds1 7<|Se C (Cx c_ C C C fc7) ?_
 rintro _ _ ⟨_,_,⟨rfl,rfl⟩,rfl,rfl⟩
 refine ⟨Ai,?_⟩
 refine Z ?_
 refine Dj (σ:=Nat×(Option Addr)×Nat×(List Ev)) (λs=>[(8,.slice s.2.1 s.2.2.2.length s.2.2.1),(22,e7 ((s.1:Nat):Int))]) (λs=>[vk 54 s.2.1 s.2.2.1 s.2.2.2]) (λs=>(s.1<=xs.length)/\(s.2.2.2=((xs.take s.1).filter λx=> !(λ_:Lk=>true) x).map (M0 nw))) (λs=>xs.length - s.1) (0,none,0,[]) (show ((0:Nat)<=xs.length)/\(([]:List Ev)=((xs.take (0:Nat)).filter λx=> !(λ_:Lk=>true) x).map (M0 nw)) from ⟨om,rfl⟩) (hI:=(B6 _ _)) ?_
 rintro ⟨k,a,c,out⟩ hp
 dsimp only at hp ⊢
 obtain ⟨hk,ho⟩:=hp
 have ae:out.length<=xs.length:=by rw [ho,Ge];refine Hd (G_ _ _) ?_;simp only [Ft];omega
 refine Z ?_
 refine Ao C (λaa=>Z ?_)<|λaa=>Z ?_
 ·refine Ge1 (Aj J8 C) λb4=>Ge0 (Fo J8) (Z ?_)
  refine Gc0 (Cx c_ C C C<|fs1<|e_ xs k)<|Z ?_
  exact Bu ((k+1),(a),(c),(out))<|by dsimp only;exact ⟨om,(by first|(rw [N8 (P:=(λ_:Lk=>true)) om (D_ c29),←ho];done)|(rw [N8 (P:=(λ_:Lk=>true)) om (D_ c29),←ho];rfl)|(rw [W8 (P:=(λ_:Lk=>true)) om (As<|Fx.1 c29),←ho])|(rw [W8 (P:=(λ_:Lk=>true)) om rfl,←ho]))⟩
 have hE:out=(s6 1 wd mo nw xs):=by rw [ho,show List.take k xs=xs from Fz om];unfold s6;rw [bs1 (P:=(λ_:Lk=>true)) (fn5 rfl)]
 subst hE
 exact Am C C (vk 54 a c (s6 1 wd mo nw xs)::I) Ai ⟨a,c,rfl,rfl⟩
theorem ff1(hl:Sl κ I (.slice a0 xs.length c0) xs)(ah:xs.length<=1000000)(hA:ac8 nd xs 2 wd mo nw=0):eu prog κ 153 [.agg #[e7 nd,.slice a0 xs.length c0],.agg #[e7 2,e7 wd,e7 mo],e7 nw] I (λr J=>∃a c,r = .slice a (s6 2 wd mo nw xs).length c/\J=vk 54 a c (s6 2 wd mo nw xs)::I):=by
 refine Ce3 Tryz.func153 C C ?_
 refine Al<|Ge1 (Av (cs:=[_,_]) C C C) λb1=>Ge1 (Av (cs:=[_,_,_]) C C C) λb2=>Ga C<|Ar<|Ax<|A8 mixed<|Bv (e8 b2 [e7 2,e7 wd,e7 mo] 29::e8 b1 [e7 nd,.slice a0 xs.length c0] 35::I) 9<|Dr 1 C (Af U8 C)<|Z ?_
 refine Ds1 0<|Se C (Ab c_ C C bt3) ?_
 rintro _ _ ⟨_,_,⟨ae,rfl,rfl⟩,rfl,rfl⟩
 refine ⟨Ai,?_⟩
 refine Ds1 3<|Sr C (j8.ce0 (i:=1) D7 Cf C C C mm C) Ai ?_
 refine Ds1 7<|Sc2 C (Cx c_ C C C fc6) λb4 b5=>Z ?_
 refine Dj (σ:=Nat×(Option Addr)×Nat×(List Ev)) (λs=>[(8,.slice s.2.1 s.2.2.2.length s.2.2.1),(22,e7 ((s.1:Nat):Int))]) (λs=>[vk 54 s.2.1 s.2.2.1 s.2.2.2]) (λs=>(s.1<=xs.length)/\(s.2.2.2=((xs.take s.1).filter λx=> !(λx:Lk=>decide<|IntKind.i64.wrap (nw - x.tm)<wd) x).map (M0 nw))) (λs=>xs.length - s.1) (0,none,0,[]) (show ((0:Nat)<=xs.length)/\(([]:List Ev)=((xs.take (0:Nat)).filter λx=> !(λx:Lk=>decide<|IntKind.i64.wrap (nw - x.tm)<wd) x).map (M0 nw)) from ⟨om,rfl⟩) (hI:=(B6 _ _)) ?_
 rintro ⟨k,a,c,out⟩ hp
 dsimp only at hp ⊢
 obtain ⟨hk,ho⟩:=hp
 have ai:out.length<=xs.length:=by rw [ho,Ge];refine Hd (G_ _ _) ?_;simp only [Ft];omega
 refine Z ?_
 refine Ao C (λad=>Z ?_)<|λad=>Z ?_
 ·refine Ge1 (Aj J8 C) λb6=>Ge0 (Fo J8) (Z ?_)
  refine Gc0 (Cx c_ C C C<|fs2 (Dn mm) (Dn mm)<|e_ xs k)<|Z ?_
  refine Ao C (λM=>Z ?_)<|λM=>Z ?_
  ·refine G.e (Ab c_ C C<|ci2 (e_ xs k) nw) ?_
   rintro _ _ ⟨_,_,⟨rfl,rfl⟩,rfl,rfl⟩
   refine Ge1 (B1 (α:=Ev) (cs:=[e7 2,e7 nw,e7<|(e_ xs k).u,e7<|(e_ xs k).v,e7 0,e7 0,e7 0]) (xs:=[⟨2,nw,(e_ xs k).u,(e_ xs k).v,0,0,0⟩]) Ad z6 C C dc dc C kr C C) λaj=>?_
   refine Ge2 (Bs (α:=Ev) (e:=54) (xs:=out) (ys:=([⟨2,nw,(e_ xs k).u,(e_ xs k).v,0,0,0⟩]:List Ev)) Ad z6 C C C mm A5 lcn dc C<|λ_ _=>am) λaa ab=>Z ?_
   exact Bu ((k+1),(aa),(ab),(out++([⟨2,nw,(e_ xs k).u,(e_ xs k).v,0,0,0⟩]:List Ev)))<|by dsimp only;exact ⟨om,(by first|(rw [N8 (P:=(λx:Lk=>decide<|IntKind.i64.wrap (nw - x.tm)<wd)) om (D_ M),←ho];done)|(rw [N8 (P:=(λx:Lk=>decide<|IntKind.i64.wrap (nw - x.tm)<wd)) om (D_ M),←ho];rfl)|(rw [W8 (P:=(λx:Lk=>decide<|IntKind.i64.wrap (nw - x.tm)<wd)) om (As<|Fx.1 M),←ho])|(rw [W8 (P:=(λx:Lk=>decide<|IntKind.i64.wrap (nw - x.tm)<wd)) om rfl,←ho]))⟩
  exact Bu ((k+1),(a),(c),(out))<|by dsimp only;exact ⟨om,(by first|(rw [N8 (P:=(λx:Lk=>decide<|IntKind.i64.wrap (nw - x.tm)<wd)) om (D_ M),←ho];done)|(rw [N8 (P:=(λx:Lk=>decide<|IntKind.i64.wrap (nw - x.tm)<wd)) om (D_ M),←ho];rfl)|(rw [W8 (P:=(λx:Lk=>decide<|IntKind.i64.wrap (nw - x.tm)<wd)) om (As<|Fx.1 M),←ho])|(rw [W8 (P:=(λx:Lk=>decide<|IntKind.i64.wrap (nw - x.tm)<wd)) om rfl,←ho]))⟩
 have hE:out=(s6 2 wd mo nw xs):=by rw [ho,show List.take k xs=xs from Fz om];unfold s6;rw [bs1 (P:=(λx:Lk=>decide<|IntKind.i64.wrap (nw - x.tm)<wd)) (fn6 (bg5 hA) rfl)]
 subst hE
 exact Am C C (vk 54 a c (s6 2 wd mo nw xs)::I) Ai ⟨a,c,rfl,rfl⟩
theorem ff0(hl:Sl κ I (.slice a0 xs.length c0) xs)(an:xs.length<=1000000)(hA:ac8 nd xs 3 wd mo nw=0):eu prog κ 153 [.agg #[e7 nd,.slice a0 xs.length c0],.agg #[e7 3,e7 wd,e7 mo],e7 nw] I (λr J=>∃a c,r = .slice a (s6 3 wd mo nw xs).length c/\J=vk 54 a c (s6 3 wd mo nw xs)::I):=by
 refine Ce3 Tryz.func153 C C ?_
 refine Al<|Ge1 (Av (cs:=[_,_]) C C C) λb1=>Ge1 (Av (cs:=[_,_,_]) C C C) λb2=>Ga C<|Ar<|Ax<|A8 mixed<|Bv (e8 b2 [e7 3,e7 wd,e7 mo] 29::e8 b1 [e7 nd,.slice a0 xs.length c0] 35::I) 9<|Dr 1 C (Af U8 C)<|Z ?_
 refine Ds1 0<|Se C (Ab c_ C C bt3) ?_
 rintro _ _ ⟨_,_,⟨ak,rfl,rfl⟩,rfl,rfl⟩
 refine ⟨Ai,?_⟩
 refine Ds1 3<|Sr C (j8.ce0 (i:=2) D7 Cf C C C mm C) Ai ?_
 refine Ds1 7<|Se C (Cx c_ C C C<|fc5 (A3 hl) ((bg5 hA).most C).1 om) ?_
 rintro _ _ ⟨_,_,⟨b4,ap,aq,M,aa,rfl,ad,rfl⟩,rfl,rfl⟩
 refine ⟨Ai,?_⟩
 refine Z ?_
 refine Dj (σ:=Nat×(Option Addr)×Nat×(List Ev)) (λs=>[(8,.slice s.2.1 s.2.2.2.length s.2.2.1),(22,e7 ((s.1:Nat):Int))]) (λs=>[vk 54 s.2.1 s.2.2.1 s.2.2.2]) (λs=>(s.1<=xs.length)/\(s.2.2.2=((xs.take s.1).filter λx=> !(λx:Lk=>decide<|x∈List.take aa M) x).map (M0 nw))) (λs=>xs.length - s.1) (0,none,0,[]) (show ((0:Nat)<=xs.length)/\(([]:List Ev)=((xs.take (0:Nat)).filter λx=> !(λx:Lk=>decide<|x∈List.take aa M) x).map (M0 nw)) from ⟨om,rfl⟩) (hI:=(B6 _ _)) ?_
 rintro ⟨k,a,c,out⟩ hp
 dsimp only at hp ⊢
 obtain ⟨hk,ho⟩:=hp
 have ao:out.length<=xs.length:=by rw [ho,Ge];refine Hd (G_ _ _) ?_;simp only [Ft];omega
 refine Z ?_
 refine Ao C (λai=>Z ?_)<|λai=>Z ?_
 ·refine Ge1 (Aj J8 C) λb9=>Ge0 (Fo J8) (Z ?_)
  refine Gc0 (Cx c_ C C C<|fe6 (Dn mm) (Sl.take A5 om)<|e_ xs k)<|Z ?_
  refine Ao C (λab=>Z ?_)<|λab=>Z ?_
  ·refine G.e (Ab c_ C C<|ci2 (e_ xs k) nw) ?_
   rintro _ _ ⟨_,_,⟨rfl,rfl⟩,rfl,rfl⟩
   refine Ge1 (B1 (α:=Ev) (cs:=[e7 2,e7 nw,e7<|(e_ xs k).u,e7<|(e_ xs k).v,e7 0,e7 0,e7 0]) (xs:=[⟨2,nw,(e_ xs k).u,(e_ xs k).v,0,0,0⟩]) Ad z6 C C dc dc C kr C C) λaj=>?_
   refine Ge2 (Bs (α:=Ev) (e:=54) (xs:=out) (ys:=([⟨2,nw,(e_ xs k).u,(e_ xs k).v,0,0,0⟩]:List Ev)) Ad z6 C C C mm A5 lcn dc C<|λ_ _=>am) λah ae=>Z ?_
   exact Bu ((k+1),(ah),(ae),(out++([⟨2,nw,(e_ xs k).u,(e_ xs k).v,0,0,0⟩]:List Ev)))<|by dsimp only;exact ⟨om,(by first|(rw [N8 (P:=(λx:Lk=>decide<|x∈List.take aa M)) om (D_ ab),←ho];done)|(rw [N8 (P:=(λx:Lk=>decide<|x∈List.take aa M)) om (D_ ab),←ho];rfl)|(rw [W8 (P:=(λx:Lk=>decide<|x∈List.take aa M)) om (As<|Fx.1 ab),←ho])|(rw [W8 (P:=(λx:Lk=>decide<|x∈List.take aa M)) om rfl,←ho]))⟩
  exact Bu ((k+1),(a),(c),(out))<|by dsimp only;exact ⟨om,(by first|(rw [N8 (P:=(λx:Lk=>decide<|x∈List.take aa M)) om (D_ ab),←ho];done)|(rw [N8 (P:=(λx:Lk=>decide<|x∈List.take aa M)) om (D_ ab),←ho];rfl)|(rw [W8 (P:=(λx:Lk=>decide<|x∈List.take aa M)) om (As<|Fx.1 ab),←ho])|(rw [W8 (P:=(λx:Lk=>decide<|x∈List.take aa M)) om rfl,←ho]))⟩
 have hE:out=(s6 3 wd mo nw xs):=by rw [ho,show List.take k xs=xs from Fz om];unfold s6;rw [bs1 (P:=(λx:Lk=>decide<|x∈List.take aa M)) (dx5 (bg5 hA) rfl ad)]
 subst hE
 exact Am C C (vk 54 a c (s6 3 wd mo nw xs)::I) Ai ⟨a,c,rfl,rfl⟩
theorem fe9(hl:Sl κ I (.slice a0 xs.length c0) xs)(M:xs.length<=1000000)(hA:ac8 nd xs kd wd mo nw=0):eu prog κ 153 [.agg #[e7 nd,.slice a0 xs.length c0],.agg #[e7 kd,e7 wd,e7 mo],e7 nw] I λr J=>∃a c,r = .slice a (s6 kd wd mo nw xs).length c/\J=vk 54 a c (s6 kd wd mo nw xs)::I:=by
 have hk:=(bg5 hA).kind
 rcases (by omega:kd=1\/kd=2\/kd=3) with rfl|rfl|rfl
 ·exact ff2 hl M hA
 ·exact ff1 hl M hA
 exact ff0 hl M hA
variable {κ:Ctx}{I:List Item}
theorem cz4(hl:Sl κ I (.slice a0 xs.length c0) xs)(ad:xs.length<=1000000):eu prog κ 126 [.agg #[e7 nd,.slice a0 xs.length c0],.agg #[e7 kd,e7 wd,e7 mo],e7 nw] I (λr J=>(ac8 nd xs kd wd mo nw≠0/\r = .tuple #[.slice none 0 0,e7 (ac8 nd xs kd wd mo nw)]/\I=J)\/(∃a c,ac8 nd xs kd wd mo nw=0/\r = .tuple #[.slice a (s6 kd wd mo nw xs).length c,e7 0]/\J=vk 54 a c (s6 kd wd mo nw xs)::I)):=by
 refine Ce3 Tryz.func126 C C ?_
 refine Al<|Ge1 (Av (cs:=[_,_]) C C C) λb1=>Ge1 (Av (cs:=[_,_,_]) C C C) λb2=>Z ?_
 refine G.e (Ab c_ C C<|fh1 (nd:=nd) (kd:=kd) (wd:=wd) (mo:=mo) (nw:=nw)<|A3 hl) ?_
 rintro _ _ ⟨_,_,⟨rfl,rfl⟩,rfl,rfl⟩
 refine Z ?_
 refine Ao C (λM=>Z ?_)<|λM=>Z ?_
 ·exact C2 C C C I Ah<|.inl ⟨M,rfl,rfl⟩
 refine Gc2 (Ab c_ C C<|fe9 (nd:=nd) (A3 hl) om<|Fx.1 M) λab aa=>Z ?_
 exact C2 C C C (vk 54 ab aa (s6 kd wd mo nw xs)::I) Ai<|.inr ⟨ab,aa,Fx.1 M,rfl,rfl⟩
theorem ci4(hl:Sl κ I (.slice a0 xs.length c0) xs)(ai:xs.length<=1000000):eu prog κ 72 [.agg #[e7 nd,.slice a0 xs.length c0],.agg #[e7 kd,e7 wd,e7 mo],e7 nw] I (λr J=>(ac8 nd xs kd wd mo nw≠0/\r = .tuple #[.slice none 0 0,e7 (ac8 nd xs kd wd mo nw)]/\I=J)\/(∃a c,ac8 nd xs kd wd mo nw=0/\r = .tuple #[.slice a (s6 kd wd mo nw xs).length c,e7 0]/\J=vk 54 a c (s6 kd wd mo nw xs)::I)):=by
 refine Ce3 Tryz.func72 C C ?_
 refine Al<|Ge1 (Av (cs:=[_,_]) C C C) λb1=>Ge1 (Av (cs:=[_,_,_]) C C C) λb2=>Z ?_
 refine Gc0 (Ab c_ C C<|fb3 (nd:=nd) (kd:=kd) (wd:=wd) (mo:=mo) (nw:=nw)<|A3 hl)<|Z ?_
 refine Ao C (λaa=>Z ?_)<|λaa=>Z ?_
 ·exact C2 C C C I Ah<|.inl ⟨aa,rfl,rfl⟩
 refine Dj (σ:=Nat×(Option Addr)×Nat×(List Ev)) (λs=>[(9,.slice s.2.1 s.2.2.2.length s.2.2.1),(22,e7 ((s.1:Nat):Int))]) (λs=>[vk 54 s.2.1 s.2.2.1 s.2.2.2]) (λs=>(s.1<=xs.length)/\(s.2.2.2=((xs.take s.1).filter λx=> !(inW kd wd mo nw xs) x).map (M0 nw))) (λs=>xs.length - s.1) (0,none,0,[]) (show ((0:Nat)<=xs.length)/\(([]:List Ev)=((xs.take (0:Nat)).filter λx=> !(inW kd wd mo nw xs) x).map (M0 nw)) from ⟨om,rfl⟩) (hI:=(B6 _ _)) ?_
 rintro ⟨k,a,c,out⟩ hp
 dsimp only at hp ⊢
 obtain ⟨hk,ho⟩:=hp
 have aj:out.length<=xs.length:=by rw [ho,Ge];refine Hd (G_ _ _) ?_;simp only [Ft];omega
 refine Z ?_
 refine Ao C (λad=>Z ?_)<|λad=>Z ?_
 ·refine Ge1 (Aj J8 C) λb3=>Ga C (Ge0 (Fo J8)<|Z ?_)
  refine Gc0 (Ab c_ C C<|gb3 (nd:=nd) (A3 hl) (i:=k) om<|bg5<|Fx.1 aa)<|Z ?_
  refine Ds C (λM=>Z ?_)<|λM=>Z ?_
  ·refine Gc0 (Ab c_ C C<|ci7 (e_ xs k) nw) ?_
   refine Ge1 (B1 (α:=Ev) (cs:=[e7 2,e7 nw,e7<|(e_ xs k).u,e7<|(e_ xs k).v,e7 0,e7 0,e7 0]) (xs:=[⟨2,nw,(e_ xs k).u,(e_ xs k).v,0,0,0⟩]) Ad z6 C C dc dc C kr C C) λah=>?_
   refine Ge2 (Bs (α:=Ev) (e:=54) (xs:=out) (ys:=([⟨2,nw,(e_ xs k).u,(e_ xs k).v,0,0,0⟩]:List Ev)) Ad z6 C C C mm A5 lcn dc C<|λ_ _=>am) λae ab=>Z ?_
   exact Bu ((k+1),(ae),(ab),(out++([⟨2,nw,(e_ xs k).u,(e_ xs k).v,0,0,0⟩]:List Ev)))<|by dsimp only;exact ⟨om,(by first|(rw [N8 (P:=(inW kd wd mo nw xs)) om (by simpa using M),←ho];done)|(rw [N8 (P:=(inW kd wd mo nw xs)) om (by simpa using M),←ho];rfl)|(rw [W8 (P:=(inW kd wd mo nw xs)) om (by simpa using M),←ho]))⟩
  exact Bu ((k+1),(a),(c),(out))<|by dsimp only;exact ⟨om,(by first|(rw [N8 (P:=(inW kd wd mo nw xs)) om (by simpa using M),←ho];done)|(rw [N8 (P:=(inW kd wd mo nw xs)) om (by simpa using M),←ho];rfl)|(rw [W8 (P:=(inW kd wd mo nw xs)) om (by simpa using M),←ho]))⟩
 have hE:out=(s6 kd wd mo nw xs):=by rw [ho,show List.take k xs=xs from Fz om];rfl
 subst hE
 exact C2 C C C (vk 54 a c (s6 kd wd mo nw xs)::I) Ai<|.inr ⟨a,c,Fx.1 aa,rfl,rfl⟩
end Go.Sl
namespace Go.Sl
open Go.Proofs
set_option maxRecDepth 4000
theorem as8{kd wd mo:Int}(h:s7 kd wd mo=0):0<=wd/\wd<=1048576:=by
 unfold s7 at h
 split at h
 ·cases h
 split at h
 ·cases h
 omega
theorem bg2{nd:Int}{xs:List Lk}(h:p9 nd xs=0):∀i:Int,0<=i->i<xs.length->0<=(e_ xs i).tm/\(e_ xs i).tm<=1048576:=λi M h1=>cg7 ((Q5 h).2.1 _ (Bo M h1))
def ds3(nd:Int)(xs:List Lk)(kd wd mo:Int):Int:=if s7 kd wd mo≠0 then s7 kd wd mo else p9 nd xs
def ac9(nd:Int)(xs:List Lk)(kd wd mo:Int):Prop:=ds3 nd xs kd wd mo=0/\kd=2/\xs≠[]
instance (nd:Int) (xs:List Lk) (kd wd mo:Int):Decidable (ac9 nd xs kd wd mo):=by unfold ac9;infer_instance
structure dn5 (nd:Int) (xs:List Lk) (kd wd mo z:Int):Prop where
 yes:ac9 nd xs kd wd mo->(∃x∈xs,z=x.tm+wd)/\∀y∈xs,z<=y.tm+wd
 no:¬ac9 nd xs kd wd mo->z=0
end Go.Sl
namespace Go.Sl
variable{n nw:Int}
def eh(e:Ev):Lk:=⟨if e.v<e.u then e.v else e.u,if e.u<e.v then e.v else e.u,e.w,e.lb,e.sg,e.tm⟩
def Q3(n:Lk):List Lk->List Lk
 |[]=>[n]
 |l::ls=>if Lk.lt n l then n::l::ls else if l.p=n.p then n::ls else l::Q3 n ls
def ah3(e:Ev)(l:Lk):Bool:=if e.kd=2 then decide (l.u=(eh e).u/\l.v=(eh e).v) else decide (l.u=e.u\/l.v=e.u)
def ep(xs:List Lk)(e:Ev):List Lk:=if e.kd=1 then Q3 (eh e) xs else xs.filter λl=> !ah3 e l
def K4(e:Ev):Prop:=(0<=e.u/\e.u<64)/\(e.kd=3->e.v=0)/\(e.kd≠3->(0<=e.v/\e.v<64)/\e.u≠e.v)
instance (e:Ev):Decidable (K4 e):=by unfold K4;infer_instance
def z7(e:Ev):Int:=if e.kd<1\/3<e.kd then 8 else if e.tm<0\/1048576<e.tm then 9 else if ¬K4 e then 6 else if (e.kd=1/\¬G5 e.w e.lb e.sg)\/(e.kd≠1/\(e.w≠0\/e.lb≠0\/e.sg≠0)) then 1 else 0
def ct9(nd:Int)(e:Ev):Int:=if z7 e≠0 then z7 e else if nd<=e.u\/nd<=e.v then 6 else 0
section
variable {e:Ev}{nd:Int}
theorem aj5(h:e.kd<1\/3<e.kd):z7 e=8:=by unfold z7;rw [B_ h]
theorem ao3(M:1<=e.kd/\e.kd<=3)(h:e.tm<0\/1048576<e.tm):z7 e=9:=by unfold z7;rw [An om,B_ h]
theorem bn1(M:1<=e.kd/\e.kd<=3)(h2:0<=e.tm/\e.tm<=1048576)(h:¬K4 e):z7 e=6:=by unfold z7;rw [An om,An om,B_ h]
theorem N1(h1:1<=e.kd/\e.kd<=3)(h2:0<=e.tm/\e.tm<=1048576)(M:K4 e)(h:(e.kd=1/\¬G5 e.w e.lb e.sg)\/(e.kd≠1/\(e.w≠0\/e.lb≠0\/e.sg≠0))):z7 e=1:=by
 unfold z7;rw [An om,An om,An<|λh=>h M,B_ h]
theorem cv2(M:e.kd=1)(h2:0<=e.tm/\e.tm<=1048576)(h3:K4 e):z7 e=if G5 e.w e.lb e.sg then 0 else 1:=by
 unfold z7;rw [An om,An om,An<|λh=>h h3]
 by_cases h4:G5 e.w e.lb e.sg
 ·rw [B_ h4,An];rintro (⟨_,h⟩|⟨h,_⟩)
  ·exact h h4
  exact h M
 rw [An h4,B_<|.inl ⟨M,h4⟩]
theorem ab0(h1:1<=e.kd/\e.kd<=3)(h2:0<=e.tm/\e.tm<=1048576)(M:K4 e)(h:e.kd=1->G5 e.w e.lb e.sg)(h4:e.kd≠1->e.w=0/\e.lb=0/\e.sg=0):z7 e=0:=by
 unfold z7;rw [An om,An om,An<|λh=>h M,An];rintro (⟨a,b⟩|⟨a,b⟩)
 ·exact b<|h a
 have:=h4 a;omega
end
structure H4 (nd:Int) (e:Ev):Prop where
 kind:1<=e.kd/\e.kd<=3
 tm:0<=e.tm/\e.tm<=1048576
 ends:K4 e
 right:e.kd=1->G5 e.w e.lb e.sg
 fits:e.u<nd/\e.v<nd
 zero:e.kd≠1->e.w=0/\e.lb=0/\e.sg=0
theorem cf9{nd:Int}{e:Ev}:ct9 nd e=0↔H4 nd e:=by
 constructor
 ·intro h
  unfold ct9 z7 at h
  by_cases h1:e.kd<1\/3<e.kd
  ·rw [B_ h1] at h;simp at h
  rw [An h1] at h
  by_cases M:e.tm<0\/1048576<e.tm
  ·rw [B_ M] at h;simp at h
  rw [An M] at h
  by_cases h3:¬K4 e
  ·rw [B_ h3] at h;simp at h
  rw [An h3] at h
  by_cases h4:(e.kd=1/\¬G5 e.w e.lb e.sg)\/(e.kd≠1/\(e.w≠0\/e.lb≠0\/e.sg≠0))
  ·rw [B_ h4] at h;simp at h
  rw [An h4] at h
  by_cases h5:nd<=e.u\/nd<=e.v
  ·rw [An (by simp),B_ h5] at h;simp at h
  exact ⟨by omega,by omega,Fx.1 h3,λhk=>Gg λhr=>h4<|.inl ⟨hk,hr⟩,by omega,λhk=>by omega⟩
 intro h
 have h1:=h.kind
 have M:=h.tm
 have h5:=h.fits
 have hc:z7 e=0:=by
  unfold z7
  rw [An om,An om,An<|by simpa using h.ends,An ?_]
  rintro (⟨a,b⟩|⟨a,b⟩)
  ·exact b<|h.right a
  have:=h.zero a;omega
 unfold ct9
 rw [An (by simp [hc]),An om]
theorem gf3{a b:Lk}:Lk.lt a b↔a.u<b.u\/(a.u=b.u/\a.v<b.v):=Iff.rfl
theorem gf2{a b:Lk}:a.p=b.p↔a.u=b.u/\a.v=b.v:=by unfold Lk.p;simp
theorem H4.lk{nd:Int}{e:Ev}(h:H4 nd e)(M:e.kd≠3):0<=(eh e).u/\(eh e).u<(eh e).v/\(eh e).v<nd:=by
 have h1:=h.ends.2.2 M
 have h2:=h.ends.1
 have h3:=h.fits
 unfold eh
 simp only
 refine ⟨?_,?_,?_⟩<;>(repeat' split)<;>omega
theorem H4.ax0{nd:Int}{e:Ev}(h:H4 nd e)(M:e.kd=1):ax0 nd (eh e)=0:=by
 have h1:=h.lk om
 have h2:=h.tm
 exact ab1 om (h.right M)<|by show ¬(e.tm<0\/1048576<e.tm);omega
theorem ba2{n:Lk}{xs:List Lk}{x:Lk}(h:x∈Q3 n xs):x=n\/x∈xs:=by
 induction xs with
 |nil=>simp [Q3] at h;exact .inl h
 |cons l ls ih=>
  unfold Q3 at h
  split at h
  ·simpa using h
  split at h
  ·rcases F_.1 h with h|h
   ·exact .inl h
   exact .inr<|C_ _ h
  rcases F_.1 h with h|h
  ·exact .inr<|by rw [h];exact A_
  rcases ih h with h|h
  ·exact .inl h
  exact .inr<|C_ _ h
theorem dt5{n:Lk}{xs:List Lk}(h:xs.Pairwise Lk.lt):(Q3 n xs).Pairwise Lk.lt:=by
 induction xs with
 |nil=>simp [Q3]
 |cons l ls ih=>
  obtain ⟨M,h2⟩:=Gj.1 h
  unfold Q3
  by_cases hl:Lk.lt n l
  ·rw [B_ hl]
   refine Gj.2 ⟨λx hx=>?_,h⟩
   rcases F_.1 hx with rfl|hx
   ·exact hl
   exact Pt.lin.tr _ _ _ hl<|M x hx
  rw [An hl]
  by_cases he:l.p=n.p
  ·rw [B_ he]
   refine Gj.2 ⟨λx hx=>?_,h2⟩
   have:=M x hx
   unfold Lk.lt at this ⊢
   rw [←he];exact this
  rw [An he]
  refine Gj.2 ⟨λx hx=>?_,ih h2⟩
  rcases ba2 hx with rfl|hx
  ·rw [gf3] at hl ⊢; rw [gf2] at he;omega
  exact M x hx
theorem dt4(n:Lk)(xs:List Lk):(Q3 n xs).length<=xs.length+1:=by
 induction xs with
 |nil=>simp [Q3]
 |cons l ls ih=>
  unfold Q3
  split
  ·simp
  split
  ·simp
  simp;omega
theorem ah6(xs:List Lk)(e:Ev):(ep xs e).length<=xs.length+1:=by
 unfold ep
 split
 ·exact dt4 _ _
 exact Nat.le_succ_of_le<|G_ _ _
theorem bk3:∀(xs:List Lk) (q:Lk),(∀x∈xs,ax0 n x=0)->(q::xs).Pairwise Lk.lt->P7 (ax0 n) Lk.lt (some q) xs=0
 |[],q,_,_=>rfl
 |p::ps,q,h1,h2=>by
  obtain ⟨a,b⟩:=Gj.1 h2
  simp only [P7]
  rw [An (by simp [h1 p A_]),B_<|a p A_]
  exact bk3 ps p (λx M=>h1 x<|C_ _ M) b
theorem Q0{xs:List Lk}:p9 n xs=0↔(0<=n/\n<=64)/\(∀x∈xs,ax0 n x=0)/\xs.Pairwise Lk.lt:=by
 constructor
 ·exact Q5
 rintro ⟨h1,M,h3⟩
 unfold p9
 rw [An om]
 cases xs with
 |nil=>rfl
 |cons p ps=>
  simp only [P7]
  rw [An (by simp [M p A_])]
  exact bk3 ps p (λx hx=>M x<|C_ _ hx) h3
theorem J3{nd:Int}{xs:List Lk}{e:Ev}(h:p9 nd xs=0)(he:H4 nd e):p9 nd (ep xs e)=0:=by
 obtain ⟨h1,M,h3⟩:=Q0.1 h
 refine Q0.2 ⟨h1,?_⟩
 unfold ep
 by_cases hk:e.kd=1
 ·rw [B_ hk]
  refine ⟨λx hx=>?_,dt5 h3⟩
  rcases ba2 hx with rfl|hx
  ·exact he.ax0 hk
  exact M x hx
 rw [An hk]
 exact ⟨λx hx=>M x (Gp.1 hx).1,h3.sublist Hi⟩
theorem bm5{nd:Int}{xs:List Lk}{P:Lk->Bool}(h:p9 nd xs=0):p9 nd (xs.filter P)=0:=by
 obtain ⟨h1,h2,h3⟩:=Q0.1 h
 exact Q0.2 ⟨h1,λx M=>h2 x (Gp.1 M).1,h3.sublist Hi⟩
theorem bj9{nd:Int}{xs:List Lk}(h:p9 nd xs=0):∀x∈xs,0<=x.u/\x.u<x.v/\x.v<nd:=λx hx=>by
 have M:=(Q5 h).2.1 x hx
 unfold Sl.ax0 at M
 split at M
 ·cases M
 omega
theorem fn9(nw:Int){z:Lk}(M:z.u<z.v)(l:Lk):ah3 (M0 nw z) l=decide (l.p=z.p):=by
 unfold ah3 eh M0
 simp only [Lw]
 rw [An om,B_ M,Fw,gf2]
theorem bf8(nw:Int):∀(zs xs:List Lk),(∀z∈zs,z.u<z.v)->(zs.map (M0 nw)).foldl ep xs=xs.filter λx=>zs.all λz=> !decide (x.p=z.p)
 |[],xs,_=>by simp only [Ku,Lh,List.all_nil];exact (Ju.2 λ_ _=>rfl).symm
 |z::zs,xs,h=>by
  have M:=bf8 nw zs (xs.filter λl=> !decide (l.p=z.p)) λy hy=>h y (C_ _ hy)
  have hs:ep xs (M0 nw z)=xs.filter λl=> !decide (l.p=z.p):=by
   unfold ep
   rw [An (by show ¬(2:Int)=1;decide)]
   exact H_ λl _=>by rw [fn9 nw (h z A_)]
  rw [Hk,Jc,hs,M,List.filter_filter]
  exact H_ λx _=>by rw [List.all_cons,Ln]
theorem gh1{xs:List Lk}(h:xs.Pairwise Lk.lt){x y:Lk}(hx:x∈xs)(hy:y∈xs)(he:x.p=y.p):x=y:=by
 induction xs with
 |nil=>cases hx
 |cons l ls ih=>
  obtain ⟨h1,h2⟩:=Gj.1 h
  have M:∀z∈ls,l.p≠z.p:=λz hz e=>by
   have:=h1 z hz
   unfold Lk.lt at this
   rw [e] at this
   exact Pt.lin.irr _ this
  rcases F_.1 hx with e1|e1<;>rcases F_.1 hy with e2|e2
  ·rw [e1,e2]
  ·exact absurd (e1▸he)<|M y e2
  ·exact absurd (e2▸he.symm)<|M x e1
  exact ih h2 e1 e2
theorem ae1{nd kd wd mo:Int}{xs:List Lk}(h:p9 nd xs=0):(s6 kd wd mo nw xs).foldl ep xs=xs.filter (inW kd wd mo nw xs):=by
 unfold s6
 rw [bf8 nw _ _ λz hz=>(bj9 h z (Gp.1 hz).1).2.1]
 refine H_ λx hx=>?_
 cases hp:inW kd wd mo nw xs x
 ·rw [Bool.eq_false_iff]
  intro ha
  have:=List.all_eq_true.1 ha x (Gp.2 ⟨hx,by rw [hp];rfl⟩)
  simp at this
 rw [List.all_eq_true]
 intro z hz
 obtain ⟨aa,M⟩:=Gp.1 hz
 rw [Kl,Lp]
 intro he
 have:=gh1 (Q5 h).2.2 hx aa he
 subst this
 rw [hp] at M
 cases M
theorem af7(kd wd mo nw:Int)(xs:List Lk):(s6 kd wd mo nw xs).length+(xs.filter (inW kd wd mo nw xs)).length=xs.length:=by
 unfold s6
 rw [Ge]
 generalize inW kd wd mo nw xs=P
 induction xs with
 |nil=>rfl
 |cons x xs ih=>simp only [Hn];cases P x<;>simp<;>omega
theorem ak7{nd kd wd mo:Int}{xs:List Lk}(h:p9 nd xs=0)(ht:0<=nw/\nw<=1048576):∀e∈s6 kd wd mo nw xs,H4 nd e:=λe he=>by
 unfold s6 at he
 obtain ⟨x,hx,rfl⟩:=H1.1 he
 have h1:=bj9 h x (Gp.1 hx).1
 have h2:=(Q5 h).1
 exact ⟨by show (1:Int)<=2/\(2:Int)<=3;omega,ht,⟨by show 0<=x.u/\x.u<64;omega,λM=>absurd M (by show ¬(2:Int)=3;decide),λ_=>by show (0<=x.v/\x.v<64)/\x.u≠x.v;omega⟩,
  λM=>absurd M (by show ¬(2:Int)=1;decide),by show x.u<nd/\x.v<nd;omega,λ_=>⟨rfl,rfl,rfl⟩⟩
def ab4:List Lk->Int
 |[]=>0
 |x::xs=>xs.foldl (λm y=>if y.tm<m then y.tm else m) x.tm
theorem bd7:∀(xs:List Lk) (m:Int),xs.foldl (λm y=>if y.tm<m then y.tm else m) m<=m/\(xs.foldl (λm y=>if y.tm<m then y.tm else m) m=m\/∃x∈xs,xs.foldl (λm y=>if y.tm<m then y.tm else m) m=x.tm)/\∀y∈xs,xs.foldl (λm y=>if y.tm<m then y.tm else m) m<=y.tm
 |[],m=>⟨Hp _,.inl rfl,λy hy=>by cases hy⟩
 |x::xs,m=>by
  rw [Jc]
  by_cases hx:x.tm<m
  ·rw [B_ hx]
   obtain ⟨h1,M,h3⟩:=bd7 xs x.tm
   refine ⟨by omega,?_,λy hy=>?_⟩
   ·rcases M with M|⟨y,hy,M⟩
    ·exact .inr ⟨x,A_,M⟩
    exact .inr ⟨y,C_ _ hy,M⟩
   rcases F_.1 hy with rfl|hy
   ·exact h1
   exact h3 y hy
  rw [An hx]
  obtain ⟨h1,M,h3⟩:=bd7 xs m
  refine ⟨h1,?_,λy hy=>?_⟩
  ·rcases M with M|⟨y,hy,M⟩
   ·exact .inl M
   exact .inr ⟨y,C_ _ hy,M⟩
  rcases F_.1 hy with rfl|hy
  ·omega
  exact h3 y hy
theorem T2{xs:List Lk}(h:0<xs.length):(∃x∈xs,ab4 xs=x.tm)/\∀y∈xs,ab4 xs<=y.tm:=by
 cases xs with
 |nil=>cases h
 |cons x xs=>
  obtain ⟨h1,M,h3⟩:=bd7 xs x.tm
  refine ⟨?_,λy hy=>?_⟩
  ·rcases M with M|⟨y,hy,M⟩
   ·exact ⟨x,A_,M⟩
   exact ⟨y,C_ _ hy,M⟩
  rcases F_.1 hy with rfl|hy
  ·exact h1
  exact h3 y hy
theorem bd6{xs:List Lk}{wd z:Int}(h:(∃x∈xs,z=x.tm+wd)/\∀y∈xs,z<=y.tm+wd):z=ab4 xs+wd:=by
 obtain ⟨⟨x,M,e⟩,h1⟩:=h
 obtain ⟨⟨y,hy,e2⟩,h2⟩:=T2 (Kn M)
 have:=h1 y hy
 have:=h2 x M
 omega
theorem gc3(wd mo nw:Int)(xs:List Lk)(x:Lk):inW 2 wd mo nw xs x=decide (nw - x.tm<wd):=by unfold inW;rw [B_ rfl]
def gc6(wd mo:Int)(xs:List Lk):List Lk:=xs.filter (inW 2 wd mo (ab4 xs+wd) xs)
theorem at0{wd mo:Int}{xs:List Lk}(h:0<xs.length):(gc6 wd mo xs).length<xs.length:=by
 unfold gc6
 obtain ⟨⟨x,M,e⟩,_⟩:=T2 h
 have h1:=af7 2 wd mo (ab4 xs+wd) xs
 have h2:0<(s6 2 wd mo (ab4 xs+wd) xs).length:=by
  unfold s6
  rw [Ge]
  refine Kn (a:=x)<|Gp.2 ⟨M,?_⟩
  rw [gc3,D_ om];rfl
 omega
def bi2(wd mo T:Int)(xs:List Lk)(out:List Ev):List Lk×List Ev:=
 if h:0<xs.length/\ab4 xs+wd<=T then bi2 wd mo T (gc6 wd mo xs) (out++s6 2 wd mo (ab4 xs+wd) xs) else (xs,out)
termination_by xs.length
decreasing_by exact at0 h.1
theorem ae3{wd mo T:Int}{xs:List Lk}{out:List Ev}(h:0<xs.length/\ab4 xs+wd<=T):bi2 wd mo T xs out=bi2 wd mo T (xs.filter (inW 2 wd mo (ab4 xs+wd) xs)) (out++s6 2 wd mo (ab4 xs+wd) xs):=by
 rw [bi2,dif_pos h];rfl
theorem Q6{wd mo T:Int}{xs:List Lk}{out:List Ev}(h:¬(0<xs.length/\ab4 xs+wd<=T)):bi2 wd mo T xs out=(xs,out):=by
 rw [bi2,dif_neg h]
def ds1(kd wd mo:Int)(b:List Lk×List Ev)(T:Int):List Lk×List Ev:=if kd=3 then (b.1.filter (inW kd wd mo T b.1),b.2++s6 kd wd mo T b.1) else b
def R6(kd wd mo T:Int)(s:List Lk×List Ev):List Lk×List Ev:=if kd=2 then bi2 wd mo T s.1 s.2 else s
def p6(kd wd mo:Int)(s:List Lk×List Ev)(e:Ev):List Lk×List Ev:=ds1 kd wd mo (ep (R6 kd wd mo e.tm s).1 e,(R6 kd wd mo e.tm s).2++[e]) e.tm
structure SlI (nd kd wd:Int) (last:Int) (xs:List Lk):Prop where
 val:p9 nd xs=0
 tm:∀x∈xs,x.tm<=last
 al:kd=2->∀x∈xs,last<x.tm+wd
section
variable {nd kd wd mo last T:Int}{xs:List Lk}{out:List Ev}
theorem SlI.nil(h:0<=nd/\nd<=64):SlI nd kd wd last []:=⟨Q0.2 ⟨h,λx M=>(by cases M),List.Pairwise.nil⟩,λx M=>(by cases M),λ_ x M=>(by cases M)⟩
theorem SlI.filter(h:SlI nd kd wd last xs)(P:Lk->Bool):SlI nd kd wd last (xs.filter P):=
 ⟨bm5 h.val,λx M=>h.tm x (Gp.1 M).1,λhk x M=>h.al hk x (Gp.1 M).1⟩
theorem SlI.later(h:SlI nd kd wd last xs)(hT:last<=T)(hk:kd=2->¬(0<xs.length/\ab4 xs+wd<=T)):SlI nd kd wd T xs:=
 ⟨h.val,λx M=>by have:=h.tm x M;omega,λh2 x M=>by
  have h3:=hk h2
  have h4:0<xs.length:=Kn M
  have h5:=(T2 h4).2 x M
  omega⟩
theorem SlI.step(h:SlI nd kd wd T xs){e:Ev}(he:H4 nd e)(ht:e.tm=T)(hw:kd=2->1<=wd):SlI nd kd wd T (ep xs e):=by
 have M:∀x∈ep xs e,x.tm=T\/x∈xs:=λx hx=>by
  unfold ep at hx
  split at hx
  ·rcases ba2 hx with rfl|hx
   ·exact .inl ht
   exact .inr hx
  exact .inr (Gp.1 hx).1
 refine ⟨J3 h.val he,λx hx=>?_,λhk x hx=>?_⟩
 ·rcases M x hx with h1|h1
  ·omega
  exact h.tm x h1
 rcases M x hx with h1|h1
 ·have:=hw hk;omega
 exact h.al hk x h1
theorem SlI.ask(h:SlI nd kd wd last xs)(hc:s7 kd wd mo=0){t:Int}(ht:0<=t/\t<=1048576)(hl:last<=t):ac8 nd xs kd wd mo t=0:=by
 unfold ac8
 rw [An (by simp [hc]),An<|by simp [h.val],An]
 rintro (h1|h1|h1)
 ·omega
 ·omega
 obtain ⟨x,M,h2⟩:=Kf.1 h1
 have:=h.tm x M
 have:=Fu h2
 omega
theorem SlI.first(h:SlI nd kd wd last xs)(hk:kd=2)(h0:0<xs.length):last<ab4 xs+wd:=by
 obtain ⟨⟨x,M,e⟩,_⟩:=T2 h0
 have:=h.al hk x M
 omega
end
end Go.Sl
