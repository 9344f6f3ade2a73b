/- A part of the proofs of statements of this seat: contracts of functions, and the plain laws that they lean on. No conditions. -/
import Derived.Test.YtoagcglbkeomgaaGreatDoorV7
set_option linter.unusedVariables false
set_option linter.unusedSimpArgs false
set_option linter.unusedSectionVars false
open Go.Proofs.Tryz (prog)
namespace Go.Sl
open Go.Proofs
set_option maxRecDepth 4000
variable{v va:Value}{xs:List Lk}{M:List Value}{b c c0 k:Nat}{kd mo nd nw wd:Int}{a a0:Option Addr}
variable {κ:Ctx}{I:List Item}
attribute [local irreducible] W G V D A j8 Eff
theorem cz8(hl:Sl κ I v xs){g:FuncId}{p:Lk->Bool}(ab:dp0 prog κ I g M p):eu prog κ 109 [v,.func (.func g) #[] M.toArray] I (λr J=>∃y:Int,r=e7 y/\gd8 p xs y/\I=J):=by
 refine Bv hl.le λad=>?_
 refine Ce2 Tryz.func109 C C<|Z ?_
 refine Dh (σ:=Nat) (λs=>[(8,e7 ((s:Nat):Int))]) (λ_=>[]) (λs=>(s<=xs.length)/\(∀j,j<s->p (e_ xs j)=false)) (λs=>xs.length - s) 0 (show ((0:Nat)<=xs.length)/\(∀j,j<(0:Nat)->p (e_ xs j)=false) from ⟨om,E8⟩) ?_
 rintro k hp
 obtain ⟨hk,hn⟩:=hp
 refine Z ?_
 refine Am C (λc9=>Z ?_)<|λc9=>Z ?_
 ·refine G.e (Cy ab.1 (first:=[]) (caps:=M) C C C<|ab.2 (e_ xs k) _ Ah) ?_
  rintro _ _ ⟨_,_,⟨rfl,rfl⟩,rfl,rfl⟩
  refine Ar<|Dp C (λaa=>Z ?_)<|λaa=>Z ?_
  ·exact Al C C I Ah ⟨_,rfl,.inr ⟨by omega,by omega,λj hj=>hn j om,aa⟩,rfl⟩
  exact Bt ((k+1)) ⟨om,(Di hn aa)⟩
 exact Al C C I Ah ⟨_,rfl,.inl ⟨rfl,λj hj=>hn j om⟩,rfl⟩
theorem au4(hl:Sl κ I v xs){g:FuncId}{p:Lk->Bool}(aa:dp0 prog κ I g M p):eu prog κ 58 [v,.func (.func g) #[] M.toArray] I (λr J=>r = .bool (xs.any p)/\I=J):=by
 refine Ce2 Tryz.func58 C C<|Z ?_
 refine G.e (Ac c_ C C<|cz8 (A4 hl)<|dp0.fit aa Ah) ?_
 rintro _ _ ⟨_,_,⟨y1,rfl,ab,rfl⟩,rfl,rfl⟩
 refine Z ?_
 exact Al C C I Ah ⟨by rw [←gd8.any asm],rfl⟩
theorem ds3(M:ab8 κ I b [e7 nw] 3)(x:Lk):eu prog κ 173 [.agg (kl x).toArray,(pt b)] I (λr J=>r = .bool (decide (nw<x.tm))/\I=J):=by
 refine Ce2 Tryz.func173 C C ?_
 refine Ak<|Ge1 (Au (cs:=[_,_,_,_,_,_]) C C C) λb1=>Z ?_
 refine Gr (Eb ef C (El M Ah) C)<|Z ?_
 exact Al C C I Ah ⟨rfl,rfl⟩
theorem ci8(M:ab8 κ I b [e7 nw] 3):dp0 prog κ I 173 [(pt b)] (λx:Lk=>decide (nw<x.tm)):=⟨c_,λx J hf=>ds3 (M.fit hf) x⟩
theorem fi3(hl:Sl κ I va xs):eu prog κ 152 [.agg #[e7 nd,va],.agg #[e7 kd,e7 wd,e7 mo],e7 nw] I (λr J=>r=e7 (ad1 nd xs kd wd mo nw)/\I=J):=by
 refine Bv hl.le λae=>?_
 refine Ce3 Tryz.func152 C C ?_
 refine Ak<|Ge1 (Au (cs:=[_,_]) C C C) λb1=>Ge1 (Au (cs:=[_,_,_]) C C C) λb2=>Ge1 (Au (cs:=[_]) C C C) λb3=>Z ?_
 refine G.e (Ac c_ C C<|bi5 kd wd mo) ?_
 rintro _ _ ⟨_,_,⟨rfl,rfl⟩,rfl,rfl⟩
 refine Z ?_
 refine Am C (λc12=>Z ?_)<|λc12=>Z ?_
 ·exact Al C C I Ah ⟨by rw [show ad1 nd xs kd wd mo nw=s7 kd wd mo from (by unfold ad1;rw [B_ c12])],rfl⟩
 refine G.e (Ac c_ C C<|bi6 (nd:=nd)<|A4 hl) ?_
 rintro _ _ ⟨_,_,⟨rfl,rfl⟩,rfl,rfl⟩
 refine Z ?_
 refine Am C (λM=>Z ?_)<|λM=>Z ?_
 ·exact Al C C I Ah ⟨by rw [show ad1 nd xs kd wd mo nw=q7 nd xs from (by unfold ad1;rw [An c12,B_ M])],rfl⟩
 refine A3 (d:=21) C (λad=>Z ?_)<|λad=>Z ?_
 ·exact Al C C I Ah ⟨by rw [show ad1 nd xs kd wd mo nw=9 from (by unfold ad1;rw [An c12,An M,B_<|by first|omega|(simp only [*];done)|exact .inr (.inr asm)|exact .inr (.inr aa)])],rfl⟩
 refine A3 (d:=25) C (λab=>Z ?_)<|λab=>Z ?_
 ·exact Al C C I Ah ⟨by rw [show ad1 nd xs kd wd mo nw=9 from (by unfold ad1;rw [An c12,An M,B_<|by first|omega|(simp only [*];done)|exact .inr (.inr asm)|exact .inr (.inr aa)])],rfl⟩
 refine e9 (D0 C C)<|Ds (Cn C C C) (Ac c_ C C<|au4 (A4 hl)<|ci8<|Dl mm) ?_
 rintro _ _ ⟨_,_,⟨rfl,rfl⟩,rfl,rfl⟩
 refine Z ?_
 refine Dp C (λaa=>Z ?_)<|λaa=>Z ?_
 ·exact Al C C I Ah ⟨by rw [show ad1 nd xs kd wd mo nw=9 from (by unfold ad1;rw [An c12,An M,B_<|by first|omega|(simp only [*];done)|exact .inr (.inr asm)|exact .inr (.inr aa)])],rfl⟩
 exact Al C C I Ah ⟨by rw [show ad1 nd xs kd wd mo nw=0 from (by unfold ad1;rw [An c12,An M,An<|by rintro (h|h|h)<;>first|omega|(exact absurd (aa.symm.trans h) dc)])],rfl⟩
theorem fc3(hl:Sl κ I va xs):eu prog κ 115 [.agg #[e7 nd,va],.agg #[e7 kd,e7 wd,e7 mo],e7 nw] I (λr J=>r=e7 (ad1 nd xs kd wd mo nw)/\I=J):=by
 refine Bv hl.le λai=>?_
 refine Ce3 Tryz.func115 C C ?_
 refine Ak<|Ge1 (Au (cs:=[_,_]) C C C) λb1=>Ge1 (Au (cs:=[_,_,_]) C C C) λb2=>Z ?_
 refine Gc0 (Ac c_ C C<|am7 kd wd mo)<|Z ?_
 refine Am C (λM=>Z ?_)<|λM=>Z ?_
 ·exact Al C C I Ah ⟨by rw [show ad1 nd xs kd wd mo nw=s7 kd wd mo from (by unfold ad1;rw [B_ M])],rfl⟩
 refine Gc0 (Ac c_ C C<|Z7 (nd:=nd)<|A4 hl)<|Z ?_
 refine Am C (λaa=>Z ?_)<|λaa=>Z ?_
 ·exact Al C C I Ah ⟨by rw [show ad1 nd xs kd wd mo nw=q7 nd xs from (by unfold ad1;rw [An M,B_ aa])],rfl⟩
 refine A3 (d:=23) C (λah=>Z ?_)<|λah=>Z ?_
 ·exact Al C C I Ah ⟨by rw [show ad1 nd xs kd wd mo nw=9 from (by unfold ad1;rw [An M,An aa,B_<|by first|omega|(simp only [*];done)|exact .inr (.inr asm)|exact .inr (.inr<|Kc.2 ⟨_,Bp (i:=(k:Int)) om om,As ab⟩)])],rfl⟩
 refine Am C (λad=>Z ?_)<|λad=>Z ?_
 ·exact Al C C I Ah ⟨by rw [show ad1 nd xs kd wd mo nw=9 from (by unfold ad1;rw [An M,An aa,B_<|by first|omega|(simp only [*];done)|exact .inr (.inr asm)|exact .inr (.inr<|Kc.2 ⟨_,Bp (i:=(k:Int)) om om,As ab⟩)])],rfl⟩
 refine Dh (σ:=Nat) (λs=>[(30,e7 ((s:Nat):Int))]) (λ_=>[]) (λs=>(s<=xs.length)/\(∀j,j<s->¬nw<(e_ xs j).tm)) (λs=>xs.length - s) 0 (show ((0:Nat)<=xs.length)/\(∀j,j<(0:Nat)->¬nw<(e_ xs j).tm) from ⟨om,E8⟩) ?_
 rintro k hp
 obtain ⟨hk,hn⟩:=hp
 refine Z ?_
 refine Am C (λae=>Z ?_)<|λae=>Z ?_
 ·refine Ge1 (Aj J2 C) λb3=>Ge0 (Fb J2) (Z ?_)
  refine Am C (λab=>Z ?_)<|λab=>Z ?_
  ·exact Al C C I Ah ⟨by rw [show ad1 nd xs kd wd mo nw=9 from (by unfold ad1;rw [An M,An aa,B_<|by first|omega|(simp only [*];done)|exact .inr (.inr asm)|exact .inr (.inr<|Kc.2 ⟨_,Bp (i:=(k:Int)) om om,As ab⟩)])],rfl⟩
  exact Bt ((k+1)) ⟨om,(Di hn ab)⟩
 exact Al C C I Ah ⟨by rw [show ad1 nd xs kd wd mo nw=0 from (by unfold ad1;rw [An M,An aa,An<|by rintro (h|h|h)<;>first|omega|(obtain ⟨x,hx,h2⟩:=Kc.1 h;obtain ⟨j,hj,rfl⟩:=an6 hx;exact hn j om<|Fq h2)])],rfl⟩
variable {κ:Ctx}{I:List Item}
theorem ft4(x:Lk):eu prog κ 191 [.agg (kl x).toArray] I (λr J=>r = .bool true/\I=J):=by
 refine Ce1 Tryz.func191 C C ?_
 refine Ak<|Ge1 (Au (cs:=[_,_,_,_,_,_]) C C C) λb1=>Z ?_
 exact Al C C I Ah ⟨rfl,rfl⟩
theorem ft5(M:ab8 κ I b [e7 nw] 3)(hc:ab8 κ I c [e7 kd,e7 wd,e7 mo] 29)(x:Lk):eu prog κ 193 [.agg (kl x).toArray,(pt b),(pt c)] I (λr J=>r = .bool (decide (IntKind.i64.wrap (nw - x.tm)<wd))/\I=J):=by
 refine Ce3 Tryz.func193 C C ?_
 refine Ak<|Ge1 (Au (cs:=[_,_,_,_,_,_]) C C C) λb1=>Ga C<|Ar<|Ak<|Gr (Eb ef C (El M Ah) C)<|Z ?_
 refine Gr (j8.ge4 C C)<|Gf ao6 C<|Gr (Eb ef C (El hc Ah) C)<|Z ?_
 exact Al C C I Ah ⟨rfl,rfl⟩
theorem bs2{p:Lk->Bool}(M:k<xs.length)(h:p (e_ xs k)=true):(xs.take (k+1)).filter p=(xs.take k).filter p++[e_ xs k]:=by
 rw [Ca xs k M,Gj];simp [h]
theorem cn3{p:Lk->Bool}(M:k<xs.length)(h:p (e_ xs k)=false):(xs.take (k+1)).filter p=(xs.take k).filter p:=by
 rw [Ca xs k M,Gj];simp [h]
theorem fd8 :
    eu prog κ 190 [.agg #[e7 nd,va],.agg #[e7 kd,e7 wd,e7 mo],e7 nw] I (λr J=>r = .func (.func 191) #[] #[]/\I=J):=by
 refine Ce3 Tryz.func190 C C ?_
 refine Ak<|Ge1 (Au (cs:=[_,_]) C C C) λb1=>Ge1 (Au (cs:=[_,_,_]) C C C) λM=>Z ?_
 exact Al C C I Ah ⟨rfl,rfl⟩
theorem fd7 :
    eu prog κ 192 [.agg #[e7 nd,va],.agg #[e7 kd,e7 wd,e7 mo],e7 nw] I (λr J=>∃b c,r = .func (.func 193) #[] #[(pt b),pt c]/\J=e8 b [e7 nw] 3::e8 c [e7 kd,e7 wd,e7 mo] 29::I):=by
 refine Ce3 Tryz.func192 C C ?_
 exact Ak<|Ge1 (Au (cs:=[_,_]) C C C) λb1=>Ge1 (Au (cs:=[_,_,_]) C C C) λb2=>Ge1 (Au (cs:=[_]) C C C) λM=>Ga C<|Ar<|Ak<|Gr (D0 C C)<|Ga C<|Ar<|B3<|Al C C (e8 M [e7 nw] 3::e8 b2 [e7 kd,e7 wd,e7 mo] 29::I) Ai ⟨M,b2,rfl,rfl⟩
theorem bt8  :
    eu prog κ 174 [] I (λr J=>∃m,r = .map (some m)/\J=mp m [({key:=e7 1,val:= .func (.func 190) #[] #[],born:=0}:MapEntry),({key:=e7 2,val:= .func (.func 192) #[] #[],born:=1}:MapEntry),({key:=e7 3,val:= .func (.func 194) #[] #[],born:=2}:MapEntry)] 3::I):=by
 refine Ce0 Tryz.func174 C C<|Z ?_
 refine Ge1 (Eff.makeMap C) λM=>?_
 refine Ge0 (Eff.ce8 D6 Cf C C C C C am) ?_
 refine Ge0 (Eff.ce8 D6 Cf C C C C C am) ?_
 refine Ge0 (Eff.ce8 D6 Cf C C C C C am)<|Z ?_
 exact Al C C (mp M [({key:=e7 1,val:= .func (.func 190) #[] #[],born:=0}:MapEntry),({key:=e7 2,val:= .func (.func 192) #[] #[],born:=1}:MapEntry),({key:=e7 3,val:= .func (.func 194) #[] #[],born:=2}:MapEntry)] 3::I) Ai ⟨M,rfl,rfl⟩
variable {κ:Ctx}{I:List Item}
def Lk.fz5(a c:Lk):Int:=orL [bu7 c.tm a.tm,Lk.cmp c a]
def Lk.late(a c:Lk):Prop:=c.tm<a.tm\/(a.tm=c.tm/\Lk.lt c a)
instance:DecidableRel Lk.late:=λa c=>by unfold Lk.late;infer_instance
theorem Lk.br9(a c:Lk):Lk.fz5 a c<0↔Lk.late a c:=by
 unfold Lk.fz5 Lk.late
 rw [←Lk.W0]
 simp only [orL,bu7]
 generalize Lk.cmp c a=z
 (repeat' split)<;>omega
def ak2(xs ys:List Lk):Prop:=ys.Perm xs/\ys.Pairwise λa b=>¬Lk.late b a
open Go.Proofs Go.Shelf Go.Sort in
theorem fw4:SWO (ltOf Lk.fz5) where
 irrefl x:=D_ λh=>by rw [Lk.br9] at h;unfold Lk.late Lk.lt Pt.lt Lk.p at h;simp only at h;omega
 trans x y z h1 h2:=As (by
  have a:=Fq h1
  have b:=Fq h2
  rw [Lk.br9] at a b ⊢
  unfold Lk.late Lk.lt Pt.lt Lk.p at a b ⊢
  simp only at a b ⊢
  omega)
 ntrans x y z h1 h2:=D_ λh=>by
  have a:=Ja h1
  have b:=Ja h2
  rw [Lk.br9] at a b h
  unfold Lk.late Lk.lt Pt.lt Lk.p at a b h
  simp only at a b h
  omega
theorem tb3{p:Prop}(h:p:=by simp only [Fu];omega):p:=h
theorem bi4(hl:Sl κ I (.slice a xs.length c) xs)(hb:xs.length<=1000000000):eu prog κ 127 [.slice a xs.length c] I (λr J=>∃a' c',r = .slice a' xs.length c'/\J=vk 82 a' c' xs::I):=by
 refine Bv (p:=a.isNone=true->xs=[]/\c=0) (λw hs hn=>hl.isNone w hs hn) λM=>?_
 refine Ce1 Tryz.func127 C C<|Z ?_
 refine Gr (j8.dz6 A0 C C)<|Ar<|Dp C (λc4=>Z ?_)<|λc4=>Z ?_
 ·obtain ⟨ad,_⟩:=M c4
  subst ad
  exact Al C C (vk 82 none 0 ([]:List Lk)::I) (B7 _ _) ⟨none,0,rfl,rfl⟩
 refine Ge1 (Eff.bs0 (α:=Lk) A0 J2 C) λae=>?_
 refine Gm C<|Ge2 (Br (α:=Lk) (e:=82) (xs:=([]:List Lk)) (ys:=xs) A0 J2 C C C mm (A4 hl) tb3 dc C<|λ_ _=>am) λaa ab=>?_
 exact Ga C<|Ar<|B3<|Al C C (vk 82 aa ab xs::I) Ai ⟨aa,ab,rfl,rfl⟩
theorem cz2(a c:Lk):eu prog κ 212 [.agg (kl a).toArray,.agg (kl c).toArray] I (λr J=>r=e7 (Lk.fz5 a c)/\I=J):=by
 refine Ce2 Tryz.func212 C C ?_
 refine Ak<|Ge1 (Au (cs:=[_,_,_,_,_,_]) C C C) λb1=>Ge1 (Au (cs:=[_,_,_,_,_,_]) C C C) λb2=>Ga C<|Ar<|Ax<|Ba mixed<|Bx (e8 b2 (kl c) 82::e8 b1 (kl a) 82::I) 10<|Z ?_
 refine Ds1 4<|Sc0 C (Ac c_ C C<|Z6 c.tm a.tm) ?_
 refine Ds1 7<|Sc0 C (Ac c_ C C<|bh9 c a) ?_
 refine Ds1 8<|Se1 C (B2 (α:=Int) (cs:=[_,_]) (xs:=[bu7 c.tm a.tm,Lk.cmp c a]) Ab ef C C dc dc C C C C) λM=>?_
 refine Ds1 9<|Sc0 C (Ac c_ C C<|fs6 A5) ?_
 refine Cg kr ?_
 refine Dg (i:=10) kr C (Ap C) C C (Bh C) ?_
 refine Ch kr<|Z ?_
 exact Al C C I Ah ⟨rfl,rfl⟩
open Go.Proofs Go.Shelf Go.Sort in
theorem fd0{κ:Ctx}{I:List Item}(aa:xs.length<1000000000):eu prog κ 211 [.slice a xs.length c,.func (.func 212) #[] #[]] (vk 82 a c xs::I) λr J=>∃ys:List Lk,(r = .tuple #[]/\ak2 xs ys/\ys.length=xs.length)/\J=[]++vc 82 (.slice a xs.length c) ys::I:=
 (du2 (α:=Lk) (ρ:=Tryz.bc8) Tryz.fn0 Tryz.isAgg82 Tryz.sizeOf82 Lk.fz5 fw4 212 #[] (enters_of Tryz.func212 (by kernel_rfl) rfl) (λx y W=>fo3<|cz2 x y) om).mono λr J ⟨ys,⟨h1,M,h3⟩,h4⟩=>
  ⟨ys,⟨h1,⟨M,h3.imp fun {a b} h=>by rw [←Lk.br9];exact Ja h⟩,M.length_eq⟩,by rw [h4,M.length_eq]⟩
theorem fd1{F:Item->List Item}{n:Nat}(M:AtF I (vc 82 (.slice a n c) xs) F)(hn:xs.length=n)(aa:xs.length<1000000000):eu prog κ 211 [.slice a n c,.func (.func 212) #[] #[]] I λr J=>∃ys:List Lk,(r = .tuple #[]/\ak2 xs ys/\ys.length=n)/\J=[]++F (vc 82 (.slice a n c) ys):=
 Fl (Z:=λ_=>[]) (X:=λys:List Lk=>vc 82 (.slice a n c) ys) (Post:=λr ys=>r = .tuple #[]/\ak2 xs ys/\ys.length=n) M λJ _ _=>by subst hn;exact fd0 aa
theorem ta1{p:Prop}(h:p:=by repeat (first|exact AtF.head _ _|apply AtF.tail)):p:=h
theorem fs9(hl:Sl κ I (.slice a0 xs.length c0) xs)(h0:0<=mo)(ai:xs.length<=1000000):eu prog κ 195 [.agg #[e7 nd,.slice a0 xs.length c0],e7 mo] I (λr J=>∃(a:Option Addr) (c:Nat) (ys:List Lk) (m:Nat),r = .slice a (List.take m ys).length c/\(ak2 xs ys/\ys.length=xs.length/\(m:Int)<=mo/\m<=xs.length/\((m:Int)=mo\/m=xs.length))/\J=vc 82 (.slice a xs.length c) ys::I):=by
 refine Ce2 Tryz.func195 C C ?_
 refine Ak<|Ge1 (Au (cs:=[_,_]) C C C) λb1=>Z ?_
 refine G.e (Ac c_ C C<|bi4 (xs:=xs) (A4 hl) om) ?_
 rintro _ _ ⟨_,_,⟨aa,M,rfl,rfl⟩,rfl,rfl⟩
 refine Z ?_
 refine G.e (Ac c_ C C<|fd1 ta1 C om) ?_
 rintro _ _ ⟨_,_,⟨ab,⟨rfl,ae,ad⟩,rfl⟩,rfl,rfl⟩
 show G prog κ _ _ _ _ ([(10,.tuple #[]),(9,.slice aa xs.length M),(5,.slice aa xs.length M),(8,.slice aa xs.length M),(7,.slice a0 xs.length c0),(6,.pointer<|some ⟨b1,1,none⟩),(4,.slice none 0 0),(2,pt b1),(0,.agg #[e7 nd,.slice a0 xs.length c0]),(1,e7 mo)]:Env) (vc 82 (.slice aa xs.length M) (ab)::e8 b1 [e7 nd,.slice a0 xs.length c0] 35::I)
 refine Z ?_
 refine Gr (j8.hi (α:=Lk) (xs:=ab) (h:=(if ((xs.length:Nat):Int)<mo then ((xs.length:Nat):Int) else mo).toNat) A0 J2 C C om A5<|by split<;>omega)<|Z ?_
 have ah:(((((if ((xs.length:Nat):Int)<mo then ((xs.length:Nat):Int) else mo).toNat)):Nat):Int)<=mo/\(((if ((xs.length:Nat):Int)<mo then ((xs.length:Nat):Int) else mo).toNat))<=xs.length/\((((((if ((xs.length:Nat):Int)<mo then ((xs.length:Nat):Int) else mo).toNat)):Nat):Int)=mo\/(((if ((xs.length:Nat):Int)<mo then ((xs.length:Nat):Int) else mo).toNat))=xs.length):=by split<;>omega
 exact Al C C (vc 82 (.slice aa xs.length M) (ab)::I) Ai ⟨aa,M,ab,((if ((xs.length:Nat):Int)<mo then ((xs.length:Nat):Int) else mo).toNat),rfl,⟨ae,ad,ah⟩,rfl⟩
theorem dr5(hl:Sl κ I v xs)(x:Lk):eu prog κ 213 [v,.agg (kl x).toArray] I (λr J=>∃y:Int,r=e7 y/\(0<=y↔x∈xs)/\I=J):=by
 refine Bv hl.le λaa=>?_
 refine Ce2 Tryz.func213 C C ?_
 refine Ak<|Ge1 (Au (cs:=[_,_,_,_,_,_]) C C C) λb1=>Z ?_
 refine Dh (σ:=Nat) (λs=>[(8,e7 ((s:Nat):Int))]) (λ_=>[]) (λs=>(s<=xs.length)/\(∀j,j<s->e_ xs j≠x)) (λs=>xs.length - s) 0 (show ((0:Nat)<=xs.length)/\(∀j,j<(0:Nat)->e_ xs j≠x) from ⟨om,E8⟩) ?_
 rintro k hp
 obtain ⟨hk,hn⟩:=hp
 refine Z ?_
 refine Am C (λc9=>Z ?_)<|λc9=>Z ?_
 ·refine Ba mixed (Bx (e8 b1 (kl x) 82::I) 6<|Z ?_)
  refine Dr 5 C (j8.fu1 (α:=Lk) (a:=x) (b:=(e_ xs k)) dz5 C C)<|Dz<|Ao<|Am C (λM=>Z ?_)<|λM=>Z ?_
  ·have hm:x∈xs:=by rw [show x=e_ xs k from M];exact Bp om om
   exact Al C C I Ah ⟨_,rfl,⟨λ_=>hm,λ_=>by omega⟩,rfl⟩
  exact Bt ((k+1)) ⟨om,(Di hn<|λe=>M e.symm)⟩
 have hm:x∉xs:=av8 hn om
 exact Al C C I Ah ⟨_,rfl,⟨λh=>absurd h dc,λh=>absurd h hm⟩,rfl⟩
theorem cc7(hl:Sl κ I v xs)(x:Lk):eu prog κ 197 [v,.agg (kl x).toArray] I (λr J=>r = .bool (decide (x∈xs))/\I=J):=by
 refine Ce2 Tryz.func197 C C ?_
 refine Ak<|Ge1 (Au (cs:=[_,_,_,_,_,_]) C C C) λb1=>Z ?_
 refine G.e (Ac c_ C C<|dr5 (A4 hl) x) ?_
 rintro _ _ ⟨_,_,⟨y2,rfl,M,rfl⟩,rfl,rfl⟩
 refine Z ?_
 exact Al C C I Ah ⟨by rw [Fs.2 asm],rfl⟩
theorem ff7{zs:List Lk}(M:ab8 κ I b [v] 33)(hz:Sl κ I v zs)(x:Lk):eu prog κ 196 [.agg (kl x).toArray,(pt b)] I (λr J=>r = .bool (decide (x∈zs))/\I=J):=by
 refine Ce2 Tryz.func196 C C ?_
 refine Ak<|Ge1 (Au (cs:=[_,_,_,_,_,_]) C C C) λb1=>Ga C<|Ar<|Ak<|Gr (Eb ap3 C (El M Ah) C)<|Z ?_
 refine Gc0 (Ac c_ C C<|cc7 (A4 hz) x) ?_
 exact Ga C<|Ar<|B3<|Al C C I Ah ⟨rfl,rfl⟩
theorem fd6(hl:Sl κ I (.slice a0 xs.length c0) xs)(h0:0<=mo)(ah:xs.length<=1000000):eu prog κ 194 [.agg #[e7 nd,.slice a0 xs.length c0],.agg #[e7 kd,e7 wd,e7 mo],e7 nw] I (λr J=>∃(b:Nat) (a:Option Addr) (c:Nat) (ys:List Lk) (m:Nat),r = .func (.func 196) #[] #[(pt b)]/\(ak2 xs ys/\ys.length=xs.length/\(m:Int)<=mo/\m<=xs.length/\((m:Int)=mo\/m=xs.length))/\J=e8 b [.slice a (List.take m ys).length c] 33::vc 82 (.slice a xs.length c) ys::I):=by
 refine Ce3 Tryz.func194 C C ?_
 refine Ak<|Ge1 (Au (cs:=[_,_]) C C C) λb1=>Ge1 (Au (cs:=[_,_,_]) C C C) λb2=>Z ?_
 refine G.e (Ac c_ C C<|fs9 (nd:=nd) (A4 hl) h0 om) ?_
 rintro _ _ ⟨_,_,⟨ab,aa,ad,ae,rfl,M,rfl⟩,rfl,rfl⟩
 refine Ge1 (Aj ap3 C) λb7=>Ge0 (Bs (cs:=[_]) (vs:=[_]) (cs':=[_]) ap3) ?_
 exact Ar<|Ak<|Gr (D0 C C)<|Ga C<|Ar<|B3<|Al C C (e8 b7 [.slice ab (List.take ae ad).length aa] 33::vc 82 (.slice ab xs.length aa) (ad)::I) Ai ⟨b7,ab,aa,ad,ae,rfl,M,rfl⟩
end Go.Sl
namespace Go.Sl
variable{kd mo n nd nw wd:Int}{xs ys:List Lk}
theorem fx1:∀(xs:List Lk) (q:Lk),P5 (ax1 n) Lk.lt (some q) xs=0->(∀x∈xs,ax1 n x=0)/\(q::xs).Pairwise Lk.lt
 |[],q,_=>by simp
 |p::ps,q,h=>by
  simp only [P5] at h
  by_cases hb:ax1 n p=0
  ·rw [An (by simp [hb])] at h
   by_cases hl:Lk.lt q p
   ·rw [B_ hl] at h
    obtain ⟨h1,M⟩:=fx1 ps p h
    refine ⟨λx hx=>?_,Ge.2 ⟨λx hx=>?_,M⟩⟩
    ·rcases Fw.1 hx with rfl|hx
     ·exact hb
     exact h1 x hx
    rcases Fw.1 hx with rfl|hx
    ·exact hl
    exact Pt.lin.tr _ _ _ hl<|(Ge.1 M).1 x hx
   rw [An hl] at h;cases h
  rw [B_ hb] at h;exact absurd h hb
theorem Q4(h:q7 n xs=0):(0<=n/\n<=64)/\(∀x∈xs,ax1 n x=0)/\xs.Pairwise Lk.lt:=by
 unfold q7 at h
 by_cases hn:n<0\/64<n
 ·rw [B_ hn] at h;cases h
 rw [An hn] at h
 refine ⟨by omega,?_⟩
 cases xs with
 |nil=>exact ⟨(λx hx=>by cases hx),List.Pairwise.nil⟩
 |cons p ps=>
  simp only [P5] at h
  by_cases hb:ax1 n p=0
  ·rw [An (by simp [hb])] at h
   obtain ⟨M,h2⟩:=fx1 ps p h
   exact ⟨λx hx=>by
    rcases Fw.1 hx with rfl|hx
    ·exact hb
    exact M x hx,h2⟩
  rw [B_ hb] at h;exact absurd h hb
theorem cg7{l:Lk}(h:ax1 n l=0):0<=l.tm/\l.tm<=1048576:=by
 unfold ax1 at h
 split at h
 ·cases h
 split at h
 ·cases h
 split at h
 ·cases h
 omega
structure fi4 (nd:Int) (xs:List Lk) (kd wd mo nw:Int):Prop where
 kind:1<=kd/\kd<=3
 width:kd=2->1<=wd/\wd<=1048576
 most:kd=3->0<=mo/\mo<=2016
 nodes:0<=nd/\nd<=64
 asc:xs.Pairwise Lk.lt
 now:0<=nw/\nw<=1048576
 tm:∀x∈xs,0<=x.tm/\x.tm<=nw
theorem bh2(h:ad1 nd xs kd wd mo nw=0):fi4 nd xs kd wd mo nw:=by
 unfold ad1 at h
 by_cases h1:s7 kd wd mo=0
 ·rw [An (by simp [h1])] at h
  by_cases h2:q7 nd xs=0
  ·rw [An (by simp [h2])] at h
   obtain ⟨h3,h4,h5⟩:=Q4 h2
   split at h
   ·cases h
   rename_i h6
   have M:(1<=kd/\kd<=3)/\(kd=2->1<=wd/\wd<=1048576)/\(kd=3->0<=mo/\mo<=2016):=by
    unfold s7 at h1
    split at h1
    ·cases h1
    split at h1
    ·cases h1
    omega
   refine ⟨M.1,M.2.1,M.2.2,h3,h5,by omega,λx hx=>?_⟩
   have h7:=cg7 (h4 x hx)
   refine ⟨h7.1,?_⟩
   by_cases h8:nw<x.tm
   ·exact absurd (.inr<|.inr<|Kc.2 ⟨x,hx,As h8⟩) h6
   omega
  rw [B_ h2] at h;exact absurd h h2
 rw [B_ h1] at h;exact absurd h h1
def ai5(xs:List Lk)(x:Lk):Nat:=(xs.filter λy=>decide (Lk.late y x)).length
def inW(kd wd mo nw:Int)(xs:List Lk)(x:Lk):Bool:=if kd=2 then decide (nw - x.tm<wd) else if kd=3 then decide ((ai5 xs x:Int)<mo) else true
theorem cm7(x:Lk):¬Lk.late x x:=by unfold Lk.late Lk.lt Pt.lt;omega
theorem ct9{x y:Lk}(h:Lk.late x y):¬Lk.late y x:=by unfold Lk.late Lk.lt Pt.lt at *; omega
theorem bq1:∀(ys:List Lk) (i:Nat) (hi:i<ys.length),ys.Pairwise Lk.late->ai5 ys ys[i]=i
 |[],i,hi,_=>absurd hi (by simp)
 |y::ys,0,hi,hp=>by
  obtain ⟨h1,h2⟩:=Ge.1 hp
  unfold ai5
  rw [Jd.2 λz hz=>?_]
  ·rfl
  simp only [List.getElem_cons_zero,Gn]
  rcases Fw.1 hz with rfl|hz
  ·exact cm7 _
  exact ct9<|h1 z hz
 |y::ys,i+1,hi,hp=>by
  obtain ⟨h1,h2⟩:=Ge.1 hp
  have M:i<ys.length:=by simpa using hi
  have ih:=bq1 ys i M h2
  unfold ai5 at ih ⊢
  rw [List.getElem_cons_succ,Hj,B_<|As<|h1 _<|List.getElem_mem M,E_,ih]
theorem ay0(h:ak2 xs ys)(ha:xs.Pairwise Lk.lt):ys.Pairwise Lk.late:=by
 have h1:xs.Pairwise λa b=>Lk.late a b\/Lk.late b a:=ha.imp fun {a b} M=>by unfold Lk.late Lk.lt Pt.lt at *; omega
 have h2:ys.Pairwise λa b=>Lk.late a b\/Lk.late b a:=(h.1.pairwise_iff fun {x y} aa=>aa.symm).2 h1
 exact (h2.and h.2).imp fun {a b} M=>M.1.resolve_right M.2
theorem dc2(h:ak2 xs ys)(ha:xs.Pairwise Lk.lt){x:Lk}(hx:x∈xs)(m:Nat):x∈ys.take m↔ai5 xs x<m:=by
 have hp:=ay0 h ha
 have hr:∀z,ai5 xs z=ai5 ys z:=λz=>by unfold ai5;exact ((h.1.filter _).length_eq).symm
 constructor
 ·intro hm
  obtain ⟨j,hj,M⟩:=List.mem_take_iff_getElem.1 hm
  rw [hr,←M,bq1 ys j om hp];omega
 intro hm
 obtain ⟨j,hj,M⟩:=Hu (h.1.mem_iff.2 hx)
 rw [hr,←M,bq1 ys j hj hp] at hm
 exact List.mem_take_iff_getElem.2 ⟨j,by omega,M⟩
theorem fo8(hk:kd=1):(xs.filter λ_=>true)=xs.filter (inW kd wd mo nw xs):=
 Ht λx M=>by unfold inW;rw [An om,An om]
theorem fo9(h:fi4 nd xs kd wd mo nw)(hk:kd=2):(xs.filter λx=>decide (IntKind.i64.wrap (nw - x.tm)<wd))=xs.filter (inW kd wd mo nw xs):=
 Ht λx M=>by
  have h1:=h.tm x M
  have h2:=h.now
  unfold inW;rw [B_ hk,InR.wrap<|by unfold InR;omega]
theorem dy6{m:Nat}(h:fi4 nd xs kd wd mo nw)(hk:kd=3)(hs:ak2 xs ys/\ys.length=xs.length/\(m:Int)<=mo/\m<=xs.length/\((m:Int)=mo\/m=xs.length)) :
  (xs.filter λx=>decide<|x∈ys.take m)=xs.filter (inW kd wd mo nw xs):=
 Ht λx M=>by
  unfold inW;rw [An om,B_ hk,Fs,dc2 hs.1 h.asc M]
  have hlt:ai5 xs x<xs.length:=by
   have h1:=Gs (λy=>decide<|Lk.late y x) xs
   obtain ⟨j,hj,he⟩:=Hu (hs.1.1.mem_iff.2 M)
   have h2:ai5 xs x=j:=by
    have:ai5 xs x=ai5 ys x:=by unfold ai5;exact ((hs.1.1.filter _).length_eq).symm
    rw [this,←he,bq1 ys j hj<|ay0 hs.1 h.asc]
   omega
  omega
theorem aj1(ha:xs.Pairwise Lk.lt){i j:Nat}(hi:i<xs.length)(hj:j<xs.length):Lk.late (e_ xs j) (e_ xs i)↔((e_ xs i).tm<(e_ xs j).tm\/((e_ xs j).tm=(e_ xs i).tm/\i<j)):=by
 unfold Lk.late
 have M:Lk.lt (e_ xs i) (e_ xs j)↔i<j:=by
  constructor
  ·intro h
   rcases Kn i j with h1|h1|h1
   ·exact h1
   ·subst h1;exact absurd h (Pt.lin.irr _)
   exact absurd (Pt.lin.tr _ _ _ h<|(Fd xs).1 ha j i h1 hi)<|Pt.lin.irr _
  intro h;exact (Fd xs).1 ha i j h hj
 rw [M]
end Go.Sl
namespace Go.Sl
open Go.Proofs
set_option maxRecDepth 4000
attribute [local irreducible] W G V D A j8 Eff
theorem gc4{κ:Ctx}{I:List Item}{nd kd wd mo nw:Int}{va:Value}{xs:List Lk}(hl:Sl κ I va xs){i:Nat}(hi:i<xs.length)(M:fi4 nd xs kd wd mo nw):eu prog κ 116 [.agg #[e7 nd,va],.agg #[e7 kd,e7 wd,e7 mo],e7 nw,e7 ((i:Int))] I (λr J=>r = .bool (inW kd wd mo nw xs (e_ xs i))/\I=J):=by
 refine Bv hl.le λao=>?_
 have ap:=M.tm _ (Bp (xs:=xs) (i:=(i:Int)) om om)
 have an:=M.now
 refine Ce4 Tryz.func116 C C ?_
 refine Ak<|Ge1 (Au (cs:=[_,_]) C C C) λb1=>Ge1 (Au (cs:=[_,_,_]) C C C) λb2=>Z ?_
 refine Am C (λaa=>?_)<|λaa=>Z ?_
 ·refine Ax (Ba mixed<|Bx (e8 b2 [e7 kd,e7 wd,e7 mo] 29::e8 b1 [e7 nd,va] 35::I) 12<|Z ?_)
  exact Al C C I Ah ⟨by unfold inW;rw [B_ aa],rfl⟩
 refine Am C (λab=>Z ?_)<|λab=>Z ?_
 ·refine Dh (σ:=Nat×Int) (λs=>[(9,e7<|s.2),(32,e7 ((s.1:Nat):Int))]) (λ_=>[]) (λs=>(s.1<=xs.length)/\(s.2=((((xs.take s.1).filter (λy=>decide<|Lk.late y<|e_ xs i)).length:Nat):Int))) (λs=>xs.length - s.1) (0,0) (show ((0:Nat)<=xs.length)/\((0:Int)=((((xs.take (0:Nat)).filter (λy=>decide<|Lk.late y<|e_ xs i)).length:Nat):Int)) from ⟨om,(by simp)⟩) ?_
  rintro ⟨k,cn⟩ hp
  dsimp only at hp ⊢
  obtain ⟨hk,hc⟩:=hp
  have aq:0<=cn/\cn<=k:=by rw [hc];have ak:=Gs (λy=>decide<|Lk.late y<|e_ xs i) (xs.take k);rw [Fp] at ak;omega
  refine Z ?_
  refine Am C (λad=>Z ?_)<|λad=>Z ?_
  ·refine Ge1 (Aj J2 C) λb3=>Ga C (Ge0 (Fb J2) ?_)
   refine Ar<|Ax<|Ba mixed<|Bx (e8 b3 (kl (e_ xs k)) 82::e8 b2 [e7 kd,e7 wd,e7 mo] 29::e8 b1 [e7 nd,va] 35::I) 25<|Z ?_
   refine Dj (d:=46) C (λaj=>Z ?_)<|λaj=>?_
   ·exact Bt ((k+1),(cn+1))<|by dsimp only;exact ⟨om,(by first|(rw [bs2 om (As<|(aj1 M.asc hi om).2 om),By,L_];omega)|(rw [cn3 om (D_ (λh=>by have:=(aj1 M.asc hi om).1 h;omega))];omega))⟩
   refine Dro 10 C (Af bs3 C)<|Z ?_
   refine Dj (d:=56) C (λai=>Z ?_)<|λai=>?_
   ·refine Am C (λae=>Z ?_) (λae=>Z ?_)
    ·exact Bt ((k+1),(cn+1))<|by dsimp only;exact ⟨om,(by first|(rw [bs2 om (As<|(aj1 M.asc hi om).2 om),By,L_];omega)|(rw [cn3 om (D_ (λh=>by have:=(aj1 M.asc hi om).1 h;omega))];omega))⟩
    exact Bt ((k+1),(cn))<|by dsimp only;exact ⟨om,(by first|(rw [bs2 om (As<|(aj1 M.asc hi om).2 om),By,L_];omega)|(rw [cn3 om (D_ (λh=>by have:=(aj1 M.asc hi om).1 h;omega))];omega))⟩
   refine Dpo 20 C<|Z ?_
   exact Bt ((k+1),(cn))<|by dsimp only;exact ⟨om,(by first|(rw [bs2 om (As<|(aj1 M.asc hi om).2 om),By,L_];omega)|(rw [cn3 om (D_ (λh=>by have:=(aj1 M.asc hi om).1 h;omega))];omega))⟩
  have ah:cn=((ai5 xs (e_ xs i):Nat):Int):=by rw [hc,Fv om];rfl
  exact Al C C I Ah ⟨by unfold inW;rw [An aa,B_ ab,ah],rfl⟩
 exact Al C C I Ah ⟨by unfold inW;rw [An aa,An ab],rfl⟩
end Go.Sl
namespace Go.Sl
open Go.Proofs
set_option maxRecDepth 4000
end Go.Sl
namespace Go.Sl
open Go.Proofs
set_option maxRecDepth 4000
variable{xs:List Lk}{c0 k:Nat}{kd mo nd nw wd:Int}{a0:Option Addr}
variable {κ:Ctx}{I:List Item}
attribute [local irreducible] W G V D A j8 Eff
def L9(nw:Int)(l:Lk):Ev:=⟨2,nw,l.u,l.v,0,0,0⟩
theorem N6{P:Lk->Bool}{f:Lk->Ev}(M:k<xs.length)(h:P (e_ xs k)=false):((xs.take (k+1)).filter λx=> !P x).map f=((xs.take k).filter λx=> !P x).map f++[f (e_ xs k)]:=by
 rw [Ca xs k M,Gj,Hr];simp [h]
theorem W8{P:Lk->Bool}{f:Lk->Ev}(M:k<xs.length)(h:P (e_ xs k)=true):((xs.take (k+1)).filter λx=> !P x).map f=((xs.take k).filter λx=> !P x).map f:=by
 rw [Ca xs k M,Gj,Hr];simp [h]
theorem bs6{P R:Lk->Bool}(h:xs.filter P=xs.filter R):(xs.filter λx=> !P x)=xs.filter λx=> !R x:=
 Ht λx hx=>by
  have M:x∈xs.filter P↔x∈xs.filter R:=by rw [h]
  rw [Gg,Gg] at M
  simp only [hx,true_and] at M
  cases hp:P x<;>cases hr:R x<;>simp_all
def s3(kd wd mo nw:Int)(xs:List Lk):List Ev:=(xs.filter λx=> !inW kd wd mo nw xs x).map (L9 nw)
theorem ci2(l:Lk)(nw:Int):eu prog κ 175 [.agg (kl l).toArray,e7 nw] I (λr J=>r = .agg #[e7 2,e7 nw,e7 l.u,e7 l.v,e7 0,e7 0,e7 0]/\I=J):=by
 refine Ce2 Tryz.func175 C C ?_
 refine Ak<|Ge1 (Au (cs:=[_,_,_,_,_,_]) C C C) λb1=>Ge1 (Aj s9 C) λM=>Z ?_
 refine Ge0 (au3 s9) ?_
 exact Ar<|B3<|Ek C s9 C mm C I Ah ⟨rfl,rfl⟩
theorem ci7(l:Lk)(nw:Int):eu prog κ 117 [.agg (kl l).toArray,e7 nw] I (λr J=>r = .agg #[e7 2,e7 nw,e7 l.u,e7 l.v,e7 0,e7 0,e7 0]/\I=J):=by
 refine Ce2 Tryz.func117 C C ?_
 refine Ak<|Ge1 (Au (cs:=[_,_,_,_,_,_]) C C C) λb1=>Ge1 (Aj s9 C) λM=>Z ?_
 refine Ge0 (au3 s9) ?_
 exact Ar<|B3<|Ek C s9 C mm C I Ah ⟨rfl,rfl⟩
theorem fg3(hl:Sl κ I (.slice a0 xs.length c0) xs)(ab:xs.length<=1000000)(hA:ad1 nd xs 1 wd mo nw=0):eu prog κ 153 [.agg #[e7 nd,.slice a0 xs.length c0],.agg #[e7 1,e7 wd,e7 mo],e7 nw] I (λr J=>∃a c,r = .slice a (s3 1 wd mo nw xs).length c/\J=vk 54 a c (s3 1 wd mo nw xs)::I):=by
 refine Ce3 Tryz.func153 C C ?_
 refine Ak<|Ge1 (Au (cs:=[_,_]) C C C) λb1=>Ge1 (Au (cs:=[_,_,_]) C C C) λb2=>Ga C<|Ar<|Ax<|Ba mixed<|Bx (e8 b2 [e7 1,e7 wd,e7 mo] 29::e8 b1 [e7 nd,.slice a0 xs.length c0] 35::I) 9<|Dr 1 C (Af U8 C)<|Z ?_
 refine Ds1 0<|Se C (Ac c_ C C bt8) ?_
 rintro _ _ ⟨_,_,⟨ad,rfl,rfl⟩,rfl,rfl⟩
 refine ⟨Ai,?_⟩
 refine Ds1 3<|Sr C (j8.ce4 (i:=0) D6 Cf C C C mm C) Ai ?_
 refine Ds1 7<|Se C (Cy c_ C C C fd8) ?_
 rintro _ _ ⟨_,_,⟨rfl,rfl⟩,rfl,rfl⟩
 refine ⟨Ai,?_⟩
 refine Z ?_
 refine Dh (σ:=Nat×(Option Addr)×Nat×(List Ev)) (λs=>[(8,.slice s.2.1 s.2.2.2.length s.2.2.1),(22,e7 ((s.1:Nat):Int))]) (λs=>[vk 54 s.2.1 s.2.2.1 s.2.2.2]) (λs=>(s.1<=xs.length)/\(s.2.2.2=((xs.take s.1).filter λx=> !(λ_:Lk=>true) x).map (L9 nw))) (λs=>xs.length - s.1) (0,none,0,[]) (show ((0:Nat)<=xs.length)/\(([]:List Ev)=((xs.take (0:Nat)).filter λx=> !(λ_:Lk=>true) x).map (L9 nw)) from ⟨om,rfl⟩) (hI:=(B7 _ _)) ?_
 rintro ⟨k,a,c,out⟩ hp
 dsimp only at hp ⊢
 obtain ⟨hk,ho⟩:=hp
 have aa:out.length<=xs.length:=by rw [ho,F_];refine G_ (Gs _ _) ?_;simp only [Fp];omega
 refine Z ?_
 refine Am C (λM=>Z ?_)<|λM=>Z ?_
 ·refine Ge1 (Aj J2 C) λb4=>Ge0 (Fb J2) (Z ?_)
  refine Gc0 (Cy c_ C C C<|ft4<|e_ xs k)<|Z ?_
  exact Bt ((k+1),(a),(c),(out))<|by dsimp only;exact ⟨om,(by first|(rw [N6 (P:=(λ_:Lk=>true)) om (D_ c29),←ho];done)|(rw [N6 (P:=(λ_:Lk=>true)) om (D_ c29),←ho];rfl)|(rw [W8 (P:=(λ_:Lk=>true)) om (As<|Ft.1 c29),←ho])|(rw [W8 (P:=(λ_:Lk=>true)) om rfl,←ho]))⟩
 have hE:out=(s3 1 wd mo nw xs):=by rw [ho,show List.take k xs=xs from Fv om];unfold s3;rw [bs6 (P:=(λ_:Lk=>true)) (fo8 rfl)]
 subst hE
 exact Al C C (vk 54 a c (s3 1 wd mo nw xs)::I) Ai ⟨a,c,rfl,rfl⟩
theorem fg2(hl:Sl κ I (.slice a0 xs.length c0) xs)(ai:xs.length<=1000000)(hA:ad1 nd xs 2 wd mo nw=0):eu prog κ 153 [.agg #[e7 nd,.slice a0 xs.length c0],.agg #[e7 2,e7 wd,e7 mo],e7 nw] I (λr J=>∃a c,r = .slice a (s3 2 wd mo nw xs).length c/\J=vk 54 a c (s3 2 wd mo nw xs)::I):=by
 refine Ce3 Tryz.func153 C C ?_
 refine Ak<|Ge1 (Au (cs:=[_,_]) C C C) λb1=>Ge1 (Au (cs:=[_,_,_]) C C C) λb2=>Ga C<|Ar<|Ax<|Ba mixed<|Bx (e8 b2 [e7 2,e7 wd,e7 mo] 29::e8 b1 [e7 nd,.slice a0 xs.length c0] 35::I) 9<|Dr 1 C (Af U8 C)<|Z ?_
 refine Ds1 0<|Se C (Ac c_ C C bt8) ?_
 rintro _ _ ⟨_,_,⟨aj,rfl,rfl⟩,rfl,rfl⟩
 refine ⟨Ai,?_⟩
 refine Ds1 3<|Sr C (j8.ce4 (i:=1) D6 Cf C C C mm C) Ai ?_
 refine Ds1 7<|Sc2 C (Cy c_ C C C fd7) λb4 b5=>Z ?_
 refine Dh (σ:=Nat×(Option Addr)×Nat×(List Ev)) (λs=>[(8,.slice s.2.1 s.2.2.2.length s.2.2.1),(22,e7 ((s.1:Nat):Int))]) (λs=>[vk 54 s.2.1 s.2.2.1 s.2.2.2]) (λs=>(s.1<=xs.length)/\(s.2.2.2=((xs.take s.1).filter λx=> !(λx:Lk=>decide<|IntKind.i64.wrap (nw - x.tm)<wd) x).map (L9 nw))) (λs=>xs.length - s.1) (0,none,0,[]) (show ((0:Nat)<=xs.length)/\(([]:List Ev)=((xs.take (0:Nat)).filter λx=> !(λx:Lk=>decide<|IntKind.i64.wrap (nw - x.tm)<wd) x).map (L9 nw)) from ⟨om,rfl⟩) (hI:=(B7 _ _)) ?_
 rintro ⟨k,a,c,out⟩ hp
 dsimp only at hp ⊢
 obtain ⟨hk,ho⟩:=hp
 have ah:out.length<=xs.length:=by rw [ho,F_];refine G_ (Gs _ _) ?_;simp only [Fp];omega
 refine Z ?_
 refine Am C (λab=>Z ?_)<|λab=>Z ?_
 ·refine Ge1 (Aj J2 C) λb6=>Ge0 (Fb J2) (Z ?_)
  refine Gc0 (Cy c_ C C C<|ft5 (Dl mm) (Dl mm)<|e_ xs k)<|Z ?_
  refine Am C (λM=>Z ?_)<|λM=>Z ?_
  ·refine G.e (Ac c_ C C<|ci2 (e_ xs k) nw) ?_
   rintro _ _ ⟨_,_,⟨rfl,rfl⟩,rfl,rfl⟩
   refine Ge1 (B2 (α:=Ev) (cs:=[e7 2,e7 nw,e7<|(e_ xs k).u,e7<|(e_ xs k).v,e7 0,e7 0,e7 0]) (xs:=[⟨2,nw,(e_ xs k).u,(e_ xs k).v,0,0,0⟩]) Ad s9 C C dc dc C kr C C) λae=>?_
   refine Ge2 (Br (α:=Ev) (e:=54) (xs:=out) (ys:=([⟨2,nw,(e_ xs k).u,(e_ xs k).v,0,0,0⟩]:List Ev)) Ad s9 C C C mm A5 lcn dc C<|λ_ _=>am) λaa ad=>Z ?_
   exact Bt ((k+1),(aa),(ad),(out++([⟨2,nw,(e_ xs k).u,(e_ xs k).v,0,0,0⟩]:List Ev)))<|by dsimp only;exact ⟨om,(by first|(rw [N6 (P:=(λx:Lk=>decide<|IntKind.i64.wrap (nw - x.tm)<wd)) om (D_ M),←ho];done)|(rw [N6 (P:=(λx:Lk=>decide<|IntKind.i64.wrap (nw - x.tm)<wd)) om (D_ M),←ho];rfl)|(rw [W8 (P:=(λx:Lk=>decide<|IntKind.i64.wrap (nw - x.tm)<wd)) om (As<|Ft.1 M),←ho])|(rw [W8 (P:=(λx:Lk=>decide<|IntKind.i64.wrap (nw - x.tm)<wd)) om rfl,←ho]))⟩
  exact Bt ((k+1),(a),(c),(out))<|by dsimp only;exact ⟨om,(by first|(rw [N6 (P:=(λx:Lk=>decide<|IntKind.i64.wrap (nw - x.tm)<wd)) om (D_ M),←ho];done)|(rw [N6 (P:=(λx:Lk=>decide<|IntKind.i64.wrap (nw - x.tm)<wd)) om (D_ M),←ho];rfl)|(rw [W8 (P:=(λx:Lk=>decide<|IntKind.i64.wrap (nw - x.tm)<wd)) om (As<|Ft.1 M),←ho])|(rw [W8 (P:=(λx:Lk=>decide<|IntKind.i64.wrap (nw - x.tm)<wd)) om rfl,←ho]))⟩
 have hE:out=(s3 2 wd mo nw xs):=by rw [ho,show List.take k xs=xs from Fv om];unfold s3;rw [bs6 (P:=(λx:Lk=>decide<|IntKind.i64.wrap (nw - x.tm)<wd)) (fo9 (bh2 hA) rfl)]
 subst hE
 exact Al C C (vk 54 a c (s3 2 wd mo nw xs)::I) Ai ⟨a,c,rfl,rfl⟩
theorem fg1(hl:Sl κ I (.slice a0 xs.length c0) xs)(ap:xs.length<=1000000)(hA:ad1 nd xs 3 wd mo nw=0):eu prog κ 153 [.agg #[e7 nd,.slice a0 xs.length c0],.agg #[e7 3,e7 wd,e7 mo],e7 nw] I (λr J=>∃a c,r = .slice a (s3 3 wd mo nw xs).length c/\J=vk 54 a c (s3 3 wd mo nw xs)::I):=by
 refine Ce3 Tryz.func153 C C ?_
 refine Ak<|Ge1 (Au (cs:=[_,_]) C C C) λb1=>Ge1 (Au (cs:=[_,_,_]) C C C) λb2=>Ga C<|Ar<|Ax<|Ba mixed<|Bx (e8 b2 [e7 3,e7 wd,e7 mo] 29::e8 b1 [e7 nd,.slice a0 xs.length c0] 35::I) 9<|Dr 1 C (Af U8 C)<|Z ?_
 refine Ds1 0<|Se C (Ac c_ C C bt8) ?_
 rintro _ _ ⟨_,_,⟨ak,rfl,rfl⟩,rfl,rfl⟩
 refine ⟨Ai,?_⟩
 refine Ds1 3<|Sr C (j8.ce4 (i:=2) D6 Cf C C C mm C) Ai ?_
 refine Ds1 7<|Se C (Cy c_ C C C<|fd6 (A4 hl) ((bh2 hA).most C).1 om) ?_
 rintro _ _ ⟨_,_,⟨b4,aq,an,M,aa,rfl,ad,rfl⟩,rfl,rfl⟩
 refine ⟨Ai,?_⟩
 refine Z ?_
 refine Dh (σ:=Nat×(Option Addr)×Nat×(List Ev)) (λs=>[(8,.slice s.2.1 s.2.2.2.length s.2.2.1),(22,e7 ((s.1:Nat):Int))]) (λs=>[vk 54 s.2.1 s.2.2.1 s.2.2.2]) (λs=>(s.1<=xs.length)/\(s.2.2.2=((xs.take s.1).filter λx=> !(λx:Lk=>decide<|x∈List.take aa M) x).map (L9 nw))) (λs=>xs.length - s.1) (0,none,0,[]) (show ((0:Nat)<=xs.length)/\(([]:List Ev)=((xs.take (0:Nat)).filter λx=> !(λx:Lk=>decide<|x∈List.take aa M) x).map (L9 nw)) from ⟨om,rfl⟩) (hI:=(B7 _ _)) ?_
 rintro ⟨k,a,c,out⟩ hp
 dsimp only at hp ⊢
 obtain ⟨hk,ho⟩:=hp
 have ao:out.length<=xs.length:=by rw [ho,F_];refine G_ (Gs _ _) ?_;simp only [Fp];omega
 refine Z ?_
 refine Am C (λai=>Z ?_)<|λai=>Z ?_
 ·refine Ge1 (Aj J2 C) λb9=>Ge0 (Fb J2) (Z ?_)
  refine Gc0 (Cy c_ C C C<|ff7 (Dl mm) (Sl.take A5 om)<|e_ xs k)<|Z ?_
  refine Am C (λab=>Z ?_)<|λab=>Z ?_
  ·refine G.e (Ac c_ C C<|ci2 (e_ xs k) nw) ?_
   rintro _ _ ⟨_,_,⟨rfl,rfl⟩,rfl,rfl⟩
   refine Ge1 (B2 (α:=Ev) (cs:=[e7 2,e7 nw,e7<|(e_ xs k).u,e7<|(e_ xs k).v,e7 0,e7 0,e7 0]) (xs:=[⟨2,nw,(e_ xs k).u,(e_ xs k).v,0,0,0⟩]) Ad s9 C C dc dc C kr C C) λaj=>?_
   refine Ge2 (Br (α:=Ev) (e:=54) (xs:=out) (ys:=([⟨2,nw,(e_ xs k).u,(e_ xs k).v,0,0,0⟩]:List Ev)) Ad s9 C C C mm A5 lcn dc C<|λ_ _=>am) λah ae=>Z ?_
   exact Bt ((k+1),(ah),(ae),(out++([⟨2,nw,(e_ xs k).u,(e_ xs k).v,0,0,0⟩]:List Ev)))<|by dsimp only;exact ⟨om,(by first|(rw [N6 (P:=(λx:Lk=>decide<|x∈List.take aa M)) om (D_ ab),←ho];done)|(rw [N6 (P:=(λx:Lk=>decide<|x∈List.take aa M)) om (D_ ab),←ho];rfl)|(rw [W8 (P:=(λx:Lk=>decide<|x∈List.take aa M)) om (As<|Ft.1 ab),←ho])|(rw [W8 (P:=(λx:Lk=>decide<|x∈List.take aa M)) om rfl,←ho]))⟩
  exact Bt ((k+1),(a),(c),(out))<|by dsimp only;exact ⟨om,(by first|(rw [N6 (P:=(λx:Lk=>decide<|x∈List.take aa M)) om (D_ ab),←ho];done)|(rw [N6 (P:=(λx:Lk=>decide<|x∈List.take aa M)) om (D_ ab),←ho];rfl)|(rw [W8 (P:=(λx:Lk=>decide<|x∈List.take aa M)) om (As<|Ft.1 ab),←ho])|(rw [W8 (P:=(λx:Lk=>decide<|x∈List.take aa M)) om rfl,←ho]))⟩
 have hE:out=(s3 3 wd mo nw xs):=by rw [ho,show List.take k xs=xs from Fv om];unfold s3;rw [bs6 (P:=(λx:Lk=>decide<|x∈List.take aa M)) (dy6 (bh2 hA) rfl ad)]
 subst hE
 exact Al C C (vk 54 a c (s3 3 wd mo nw xs)::I) Ai ⟨a,c,rfl,rfl⟩
theorem fg0(hl:Sl κ I (.slice a0 xs.length c0) xs)(M:xs.length<=1000000)(hA:ad1 nd xs kd wd mo nw=0):eu prog κ 153 [.agg #[e7 nd,.slice a0 xs.length c0],.agg #[e7 kd,e7 wd,e7 mo],e7 nw] I λr J=>∃a c,r = .slice a (s3 kd wd mo nw xs).length c/\J=vk 54 a c (s3 kd wd mo nw xs)::I:=by
 have hk:=(bh2 hA).kind
 rcases (by omega:kd=1\/kd=2\/kd=3) with rfl|rfl|rfl
 ·exact fg3 hl M hA
 ·exact fg2 hl M hA
 exact fg1 hl M hA
variable {κ:Ctx}{I:List Item}
theorem cz9(hl:Sl κ I (.slice a0 xs.length c0) xs)(ad:xs.length<=1000000):eu prog κ 126 [.agg #[e7 nd,.slice a0 xs.length c0],.agg #[e7 kd,e7 wd,e7 mo],e7 nw] I (λr J=>(ad1 nd xs kd wd mo nw≠0/\r = .tuple #[.slice none 0 0,e7 (ad1 nd xs kd wd mo nw)]/\I=J)\/(∃a c,ad1 nd xs kd wd mo nw=0/\r = .tuple #[.slice a (s3 kd wd mo nw xs).length c,e7 0]/\J=vk 54 a c (s3 kd wd mo nw xs)::I)):=by
 refine Ce3 Tryz.func126 C C ?_
 refine Ak<|Ge1 (Au (cs:=[_,_]) C C C) λb1=>Ge1 (Au (cs:=[_,_,_]) C C C) λb2=>Z ?_
 refine G.e (Ac c_ C C<|fi3 (nd:=nd) (kd:=kd) (wd:=wd) (mo:=mo) (nw:=nw)<|A4 hl) ?_
 rintro _ _ ⟨_,_,⟨rfl,rfl⟩,rfl,rfl⟩
 refine Z ?_
 refine Am C (λM=>Z ?_)<|λM=>Z ?_
 ·exact C3 C C C I Ah<|.inl ⟨M,rfl,rfl⟩
 refine Gc2 (Ac c_ C C<|fg0 (nd:=nd) (A4 hl) om<|Ft.1 M) λab aa=>Z ?_
 exact C3 C C C (vk 54 ab aa (s3 kd wd mo nw xs)::I) Ai<|.inr ⟨ab,aa,Ft.1 M,rfl,rfl⟩
theorem ci4(hl:Sl κ I (.slice a0 xs.length c0) xs)(aj:xs.length<=1000000):eu prog κ 72 [.agg #[e7 nd,.slice a0 xs.length c0],.agg #[e7 kd,e7 wd,e7 mo],e7 nw] I (λr J=>(ad1 nd xs kd wd mo nw≠0/\r = .tuple #[.slice none 0 0,e7 (ad1 nd xs kd wd mo nw)]/\I=J)\/(∃a c,ad1 nd xs kd wd mo nw=0/\r = .tuple #[.slice a (s3 kd wd mo nw xs).length c,e7 0]/\J=vk 54 a c (s3 kd wd mo nw xs)::I)):=by
 refine Ce3 Tryz.func72 C C ?_
 refine Ak<|Ge1 (Au (cs:=[_,_]) C C C) λb1=>Ge1 (Au (cs:=[_,_,_]) C C C) λb2=>Z ?_
 refine Gc0 (Ac c_ C C<|fc3 (nd:=nd) (kd:=kd) (wd:=wd) (mo:=mo) (nw:=nw)<|A4 hl)<|Z ?_
 refine Am C (λaa=>Z ?_)<|λaa=>Z ?_
 ·exact C3 C C C I Ah<|.inl ⟨aa,rfl,rfl⟩
 refine Dh (σ:=Nat×(Option Addr)×Nat×(List Ev)) (λs=>[(9,.slice s.2.1 s.2.2.2.length s.2.2.1),(22,e7 ((s.1:Nat):Int))]) (λs=>[vk 54 s.2.1 s.2.2.1 s.2.2.2]) (λs=>(s.1<=xs.length)/\(s.2.2.2=((xs.take s.1).filter λx=> !(inW kd wd mo nw xs) x).map (L9 nw))) (λs=>xs.length - s.1) (0,none,0,[]) (show ((0:Nat)<=xs.length)/\(([]:List Ev)=((xs.take (0:Nat)).filter λx=> !(inW kd wd mo nw xs) x).map (L9 nw)) from ⟨om,rfl⟩) (hI:=(B7 _ _)) ?_
 rintro ⟨k,a,c,out⟩ hp
 dsimp only at hp ⊢
 obtain ⟨hk,ho⟩:=hp
 have ah:out.length<=xs.length:=by rw [ho,F_];refine G_ (Gs _ _) ?_;simp only [Fp];omega
 refine Z ?_
 refine Am C (λab=>Z ?_)<|λab=>Z ?_
 ·refine Ge1 (Aj J2 C) λb3=>Ga C (Ge0 (Fb J2)<|Z ?_)
  refine Gc0 (Ac c_ C C<|gc4 (nd:=nd) (A4 hl) (i:=k) om<|bh2<|Ft.1 aa)<|Z ?_
  refine Dp C (λM=>Z ?_)<|λM=>Z ?_
  ·refine Gc0 (Ac c_ C C<|ci7 (e_ xs k) nw) ?_
   refine Ge1 (B2 (α:=Ev) (cs:=[e7 2,e7 nw,e7<|(e_ xs k).u,e7<|(e_ xs k).v,e7 0,e7 0,e7 0]) (xs:=[⟨2,nw,(e_ xs k).u,(e_ xs k).v,0,0,0⟩]) Ad s9 C C dc dc C kr C C) λai=>?_
   refine Ge2 (Br (α:=Ev) (e:=54) (xs:=out) (ys:=([⟨2,nw,(e_ xs k).u,(e_ xs k).v,0,0,0⟩]:List Ev)) Ad s9 C C C mm A5 lcn dc C<|λ_ _=>am) λae ad=>Z ?_
   exact Bt ((k+1),(ae),(ad),(out++([⟨2,nw,(e_ xs k).u,(e_ xs k).v,0,0,0⟩]:List Ev)))<|by dsimp only;exact ⟨om,(by first|(rw [N6 (P:=(inW kd wd mo nw xs)) om (by simpa using M),←ho];done)|(rw [N6 (P:=(inW kd wd mo nw xs)) om (by simpa using M),←ho];rfl)|(rw [W8 (P:=(inW kd wd mo nw xs)) om (by simpa using M),←ho]))⟩
  exact Bt ((k+1),(a),(c),(out))<|by dsimp only;exact ⟨om,(by first|(rw [N6 (P:=(inW kd wd mo nw xs)) om (by simpa using M),←ho];done)|(rw [N6 (P:=(inW kd wd mo nw xs)) om (by simpa using M),←ho];rfl)|(rw [W8 (P:=(inW kd wd mo nw xs)) om (by simpa using M),←ho]))⟩
 have hE:out=(s3 kd wd mo nw xs):=by rw [ho,show List.take k xs=xs from Fv om];rfl
 subst hE
 exact C3 C C C (vk 54 a c (s3 kd wd mo nw xs)::I) Ai<|.inr ⟨a,c,Ft.1 aa,rfl,rfl⟩
end Go.Sl
namespace Go.Sl
open Go.Proofs
set_option maxRecDepth 4000
theorem at3{kd wd mo:Int}(h:s7 kd wd mo=0):0<=wd/\wd<=1048576:=by
 unfold s7 at h
 split at h
 ·cases h
 split at h
 ·cases h
 omega
theorem bh0{nd:Int}{xs:List Lk}(h:q7 nd xs=0):∀i:Int,0<=i->i<xs.length->0<=(e_ xs i).tm/\(e_ xs i).tm<=1048576:=λi h0 M=>cg7 ((Q4 h).2.1 _ (Bp h0 M))
def dt3(nd:Int)(xs:List Lk)(kd wd mo:Int):Int:=if s7 kd wd mo≠0 then s7 kd wd mo else q7 nd xs
def ad2(nd:Int)(xs:List Lk)(kd wd mo:Int):Prop:=dt3 nd xs kd wd mo=0/\kd=2/\xs≠[]
instance (nd:Int) (xs:List Lk) (kd wd mo:Int):Decidable (ad2 nd xs kd wd mo):=by unfold ad2;infer_instance
structure do4 (nd:Int) (xs:List Lk) (kd wd mo z:Int):Prop where
 yes:ad2 nd xs kd wd mo->(∃x∈xs,z=x.tm+wd)/\∀y∈xs,z<=y.tm+wd
 no:¬ad2 nd xs kd wd mo->z=0
end Go.Sl
namespace Go.Sl
variable{n nw:Int}
def eh(e:Ev):Lk:=⟨if e.v<e.u then e.v else e.u,if e.u<e.v then e.v else e.u,e.w,e.lb,e.sg,e.tm⟩
def Q2(n:Lk):List Lk->List Lk
 |[]=>[n]
 |l::ls=>if Lk.lt n l then n::l::ls else if l.p=n.p then n::ls else l::Q2 n ls
def ah5(e:Ev)(l:Lk):Bool:=if e.kd=2 then decide (l.u=(eh e).u/\l.v=(eh e).v) else decide (l.u=e.u\/l.v=e.u)
def ep(xs:List Lk)(e:Ev):List Lk:=if e.kd=1 then Q2 (eh e) xs else xs.filter λl=> !ah5 e l
def K2(e:Ev):Prop:=(0<=e.u/\e.u<64)/\(e.kd=3->e.v=0)/\(e.kd≠3->(0<=e.v/\e.v<64)/\e.u≠e.v)
instance (e:Ev):Decidable (K2 e):=by unfold K2;infer_instance
def z6(e:Ev):Int:=if e.kd<1\/3<e.kd then 8 else if e.tm<0\/1048576<e.tm then 9 else if ¬K2 e then 6 else if (e.kd=1/\¬G4 e.w e.lb e.sg)\/(e.kd≠1/\(e.w≠0\/e.lb≠0\/e.sg≠0)) then 1 else 0
def cu2(nd:Int)(e:Ev):Int:=if z6 e≠0 then z6 e else if nd<=e.u\/nd<=e.v then 6 else 0
section
variable {e:Ev}{nd:Int}
theorem aj9(h:e.kd<1\/3<e.kd):z6 e=8:=by unfold z6;rw [B_ h]
theorem ap0(M:1<=e.kd/\e.kd<=3)(h:e.tm<0\/1048576<e.tm):z6 e=9:=by unfold z6;rw [An om,B_ h]
theorem bn8(M:1<=e.kd/\e.kd<=3)(h2:0<=e.tm/\e.tm<=1048576)(h:¬K2 e):z6 e=6:=by unfold z6;rw [An om,An om,B_ h]
theorem N1(h1:1<=e.kd/\e.kd<=3)(h2:0<=e.tm/\e.tm<=1048576)(M:K2 e)(h:(e.kd=1/\¬G4 e.w e.lb e.sg)\/(e.kd≠1/\(e.w≠0\/e.lb≠0\/e.sg≠0))):z6 e=1:=by
 unfold z6;rw [An om,An om,An<|λh=>h M,B_ h]
theorem cv6(M:e.kd=1)(h2:0<=e.tm/\e.tm<=1048576)(h3:K2 e):z6 e=if G4 e.w e.lb e.sg then 0 else 1:=by
 unfold z6;rw [An om,An om,An<|λh=>h h3]
 by_cases h4:G4 e.w e.lb e.sg
 ·rw [B_ h4,An];rintro (⟨_,h⟩|⟨h,_⟩)
  ·exact h h4
  exact h M
 rw [An h4,B_<|.inl ⟨M,h4⟩]
theorem ab1(h1:1<=e.kd/\e.kd<=3)(h2:0<=e.tm/\e.tm<=1048576)(M:K2 e)(h:e.kd=1->G4 e.w e.lb e.sg)(h4:e.kd≠1->e.w=0/\e.lb=0/\e.sg=0):z6 e=0:=by
 unfold z6;rw [An om,An om,An<|λh=>h M,An];rintro (⟨a,b⟩|⟨a,b⟩)
 ·exact b<|h a
 have:=h4 a;omega
end
structure H7 (nd:Int) (e:Ev):Prop where
 kind:1<=e.kd/\e.kd<=3
 tm:0<=e.tm/\e.tm<=1048576
 ends:K2 e
 right:e.kd=1->G4 e.w e.lb e.sg
 fits:e.u<nd/\e.v<nd
 zero:e.kd≠1->e.w=0/\e.lb=0/\e.sg=0
theorem cf9{nd:Int}{e:Ev}:cu2 nd e=0↔H7 nd e:=by
 constructor
 ·intro h
  unfold cu2 z6 at h
  by_cases M:e.kd<1\/3<e.kd
  ·rw [B_ M] at h;simp at h
  rw [An M] at h
  by_cases h2:e.tm<0\/1048576<e.tm
  ·rw [B_ h2] at h;simp at h
  rw [An h2] at h
  by_cases h3:¬K2 e
  ·rw [B_ h3] at h;simp at h
  rw [An h3] at h
  by_cases h4:(e.kd=1/\¬G4 e.w e.lb e.sg)\/(e.kd≠1/\(e.w≠0\/e.lb≠0\/e.sg≠0))
  ·rw [B_ h4] at h;simp at h
  rw [An h4] at h
  by_cases h5:nd<=e.u\/nd<=e.v
  ·rw [An (by simp),B_ h5] at h;simp at h
  exact ⟨by omega,by omega,Ft.1 h3,λhk=>Gb λhr=>h4<|.inl ⟨hk,hr⟩,by omega,λhk=>by omega⟩
 intro h
 have M:=h.kind
 have h2:=h.tm
 have h5:=h.fits
 have hc:z6 e=0:=by
  unfold z6
  rw [An om,An om,An<|by simpa using h.ends,An ?_]
  rintro (⟨a,b⟩|⟨a,b⟩)
  ·exact b<|h.right a
  have:=h.zero a;omega
 unfold cu2
 rw [An (by simp [hc]),An om]
theorem gg4{a b:Lk}:Lk.lt a b↔a.u<b.u\/(a.u=b.u/\a.v<b.v):=Iff.rfl
theorem gg3{a b:Lk}:a.p=b.p↔a.u=b.u/\a.v=b.v:=by unfold Lk.p;simp
theorem H7.lk{nd:Int}{e:Ev}(h:H7 nd e)(M:e.kd≠3):0<=(eh e).u/\(eh e).u<(eh e).v/\(eh e).v<nd:=by
 have h1:=h.ends.2.2 M
 have h2:=h.ends.1
 have h3:=h.fits
 unfold eh
 simp only
 refine ⟨?_,?_,?_⟩<;>(repeat' split)<;>omega
theorem H7.ax1{nd:Int}{e:Ev}(h:H7 nd e)(M:e.kd=1):ax1 nd (eh e)=0:=by
 have h1:=h.lk om
 have h2:=h.tm
 exact ab2 om (h.right M)<|by show ¬(e.tm<0\/1048576<e.tm);omega
theorem ba5{n:Lk}{xs:List Lk}{x:Lk}(h:x∈Q2 n xs):x=n\/x∈xs:=by
 induction xs with
 |nil=>simp [Q2] at h;exact .inl h
 |cons l ls ih=>
  unfold Q2 at h
  split at h
  ·simpa using h
  split at h
  ·rcases Fw.1 h with h|h
   ·exact .inl h
   exact .inr<|C_ _ h
  rcases Fw.1 h with h|h
  ·exact .inr<|by rw [h];exact A_
  rcases ih h with h|h
  ·exact .inl h
  exact .inr<|C_ _ h
theorem du6{n:Lk}{xs:List Lk}(h:xs.Pairwise Lk.lt):(Q2 n xs).Pairwise Lk.lt:=by
 induction xs with
 |nil=>simp [Q2]
 |cons l ls ih=>
  obtain ⟨M,h2⟩:=Ge.1 h
  unfold Q2
  by_cases hl:Lk.lt n l
  ·rw [B_ hl]
   refine Ge.2 ⟨λx hx=>?_,h⟩
   rcases Fw.1 hx with rfl|hx
   ·exact hl
   exact Pt.lin.tr _ _ _ hl<|M x hx
  rw [An hl]
  by_cases he:l.p=n.p
  ·rw [B_ he]
   refine Ge.2 ⟨λx hx=>?_,h2⟩
   have:=M x hx
   unfold Lk.lt at this ⊢
   rw [←he];exact this
  rw [An he]
  refine Ge.2 ⟨λx hx=>?_,ih h2⟩
  rcases ba5 hx with rfl|hx
  ·rw [gg4] at hl ⊢; rw [gg3] at he;omega
  exact M x hx
theorem du5(n:Lk)(xs:List Lk):(Q2 n xs).length<=xs.length+1:=by
 induction xs with
 |nil=>simp [Q2]
 |cons l ls ih=>
  unfold Q2
  split
  ·simp
  split
  ·simp
  simp;omega
theorem ai0(xs:List Lk)(e:Ev):(ep xs e).length<=xs.length+1:=by
 unfold ep
 split
 ·exact du5 _ _
 exact Nat.le_succ_of_le<|Gs _ _
theorem bm0:∀(xs:List Lk) (q:Lk),(∀x∈xs,ax1 n x=0)->(q::xs).Pairwise Lk.lt->P5 (ax1 n) Lk.lt (some q) xs=0
 |[],q,_,_=>rfl
 |p::ps,q,h1,h2=>by
  obtain ⟨a,b⟩:=Ge.1 h2
  simp only [P5]
  rw [An (by simp [h1 p A_]),B_<|a p A_]
  exact bm0 ps p (λx M=>h1 x<|C_ _ M) b
theorem P8{xs:List Lk}:q7 n xs=0↔(0<=n/\n<=64)/\(∀x∈xs,ax1 n x=0)/\xs.Pairwise Lk.lt:=by
 constructor
 ·exact Q4
 rintro ⟨h1,M,h3⟩
 unfold q7
 rw [An om]
 cases xs with
 |nil=>rfl
 |cons p ps=>
  simp only [P5]
  rw [An (by simp [M p A_])]
  exact bm0 ps p (λx hx=>M x<|C_ _ hx) h3
theorem J5{nd:Int}{xs:List Lk}{e:Ev}(h:q7 nd xs=0)(he:H7 nd e):q7 nd (ep xs e)=0:=by
 obtain ⟨h1,h2,M⟩:=P8.1 h
 refine P8.2 ⟨h1,?_⟩
 unfold ep
 by_cases hk:e.kd=1
 ·rw [B_ hk]
  refine ⟨λx hx=>?_,du6 M⟩
  rcases ba5 hx with rfl|hx
  ·exact he.ax1 hk
  exact h2 x hx
 rw [An hk]
 exact ⟨λx hx=>h2 x (Gg.1 hx).1,M.sublist He⟩
theorem bn2{nd:Int}{xs:List Lk}{P:Lk->Bool}(h:q7 nd xs=0):q7 nd (xs.filter P)=0:=by
 obtain ⟨h1,h2,h3⟩:=P8.1 h
 exact P8.2 ⟨h1,λx M=>h2 x (Gg.1 M).1,h3.sublist He⟩
theorem bb9{nd:Int}{xs:List Lk}(h:q7 nd xs=0):∀x∈xs,0<=x.u/\x.u<x.v/\x.v<nd:=λx hx=>by
 have M:=(Q4 h).2.1 x hx
 unfold Sl.ax1 at M
 split at M
 ·cases M
 omega
theorem fp2(nw:Int){z:Lk}(M:z.u<z.v)(l:Lk):ah5 (L9 nw z) l=decide (l.p=z.p):=by
 unfold ah5 eh L9
 simp only [Lr]
 rw [An om,B_ M,Fs,gg3]
theorem bg5(nw:Int):∀(zs xs:List Lk),(∀z∈zs,z.u<z.v)->(zs.map (L9 nw)).foldl ep xs=xs.filter λx=>zs.all λz=> !decide (x.p=z.p)
 |[],xs,_=>by simp only [Kq,Le,List.all_nil];exact (Jk.2 λ_ _=>rfl).symm
 |z::zs,xs,h=>by
  have M:=bg5 nw zs (xs.filter λl=> !decide (l.p=z.p)) λy hy=>h y (C_ _ hy)
  have hs:ep xs (L9 nw z)=xs.filter λl=> !decide (l.p=z.p):=by
   unfold ep
   rw [An (by show ¬(2:Int)=1;decide)]
   exact Ht λl _=>by rw [fp2 nw (h z A_)]
  rw [Hg,Hy,hs,M,List.filter_filter]
  exact Ht λx _=>by rw [List.all_cons,Lj]
theorem gi3{xs:List Lk}(h:xs.Pairwise Lk.lt){x y:Lk}(hx:x∈xs)(hy:y∈xs)(he:x.p=y.p):x=y:=by
 induction xs with
 |nil=>cases hx
 |cons l ls ih=>
  obtain ⟨h1,h2⟩:=Ge.1 h
  have M:∀z∈ls,l.p≠z.p:=λz hz e=>by
   have:=h1 z hz
   unfold Lk.lt at this
   rw [e] at this
   exact Pt.lin.irr _ this
  rcases Fw.1 hx with e1|e1<;>rcases Fw.1 hy with e2|e2
  ·rw [e1,e2]
  ·exact absurd (e1▸he)<|M y e2
  ·exact absurd (e2▸he.symm)<|M x e1
  exact ih h2 e1 e2
theorem ae5{nd kd wd mo:Int}{xs:List Lk}(h:q7 nd xs=0):(s3 kd wd mo nw xs).foldl ep xs=xs.filter (inW kd wd mo nw xs):=by
 unfold s3
 rw [bg5 nw _ _ λz hz=>(bb9 h z (Gg.1 hz).1).2.1]
 refine Ht λx hx=>?_
 cases hp:inW kd wd mo nw xs x
 ·rw [Bool.eq_false_iff]
  intro ha
  have:=List.all_eq_true.1 ha x (Gg.2 ⟨hx,by rw [hp];rfl⟩)
  simp at this
 rw [List.all_eq_true]
 intro z hz
 obtain ⟨aa,M⟩:=Gg.1 hz
 rw [J_,Kt]
 intro he
 have:=gi3 (Q4 h).2.2 hx aa he
 subst this
 rw [hp] at M
 cases M
theorem ag0(kd wd mo nw:Int)(xs:List Lk):(s3 kd wd mo nw xs).length+(xs.filter (inW kd wd mo nw xs)).length=xs.length:=by
 unfold s3
 rw [F_]
 generalize inW kd wd mo nw xs=P
 induction xs with
 |nil=>rfl
 |cons x xs ih=>simp only [Hj];cases P x<;>simp<;>omega
theorem am2{nd kd wd mo:Int}{xs:List Lk}(h:q7 nd xs=0)(ht:0<=nw/\nw<=1048576):∀e∈s3 kd wd mo nw xs,H7 nd e:=λe he=>by
 unfold s3 at he
 obtain ⟨x,hx,rfl⟩:=Gv.1 he
 have h1:=bb9 h x (Gg.1 hx).1
 have h2:=(Q4 h).1
 exact ⟨by show (1:Int)<=2/\(2:Int)<=3;omega,ht,⟨by show 0<=x.u/\x.u<64;omega,λM=>absurd M (by show ¬(2:Int)=3;decide),λ_=>by show (0<=x.v/\x.v<64)/\x.u≠x.v;omega⟩,
  λM=>absurd M (by show ¬(2:Int)=1;decide),by show x.u<nd/\x.v<nd;omega,λ_=>⟨rfl,rfl,rfl⟩⟩
def ab5:List Lk->Int
 |[]=>0
 |x::xs=>xs.foldl (λm y=>if y.tm<m then y.tm else m) x.tm
theorem be0:∀(xs:List Lk) (m:Int),xs.foldl (λm y=>if y.tm<m then y.tm else m) m<=m/\(xs.foldl (λm y=>if y.tm<m then y.tm else m) m=m\/∃x∈xs,xs.foldl (λm y=>if y.tm<m then y.tm else m) m=x.tm)/\∀y∈xs,xs.foldl (λm y=>if y.tm<m then y.tm else m) m<=y.tm
 |[],m=>⟨Hl _,.inl rfl,λy hy=>by cases hy⟩
 |x::xs,m=>by
  rw [Hy]
  by_cases hx:x.tm<m
  ·rw [B_ hx]
   obtain ⟨h1,M,h3⟩:=be0 xs x.tm
   refine ⟨by omega,?_,λy hy=>?_⟩
   ·rcases M with M|⟨y,hy,M⟩
    ·exact .inr ⟨x,A_,M⟩
    exact .inr ⟨y,C_ _ hy,M⟩
   rcases Fw.1 hy with rfl|hy
   ·exact h1
   exact h3 y hy
  rw [An hx]
  obtain ⟨h1,M,h3⟩:=be0 xs m
  refine ⟨h1,?_,λy hy=>?_⟩
  ·rcases M with M|⟨y,hy,M⟩
   ·exact .inl M
   exact .inr ⟨y,C_ _ hy,M⟩
  rcases Fw.1 hy with rfl|hy
  ·omega
  exact h3 y hy
theorem T0{xs:List Lk}(h:0<xs.length):(∃x∈xs,ab5 xs=x.tm)/\∀y∈xs,ab5 xs<=y.tm:=by
 cases xs with
 |nil=>cases h
 |cons x xs=>
  obtain ⟨h1,M,h3⟩:=be0 xs x.tm
  refine ⟨?_,λy hy=>?_⟩
  ·rcases M with M|⟨y,hy,M⟩
   ·exact ⟨x,A_,M⟩
   exact ⟨y,C_ _ hy,M⟩
  rcases Fw.1 hy with rfl|hy
  ·exact h1
  exact h3 y hy
theorem bd9{xs:List Lk}{wd z:Int}(h:(∃x∈xs,z=x.tm+wd)/\∀y∈xs,z<=y.tm+wd):z=ab5 xs+wd:=by
 obtain ⟨⟨x,M,e⟩,h1⟩:=h
 obtain ⟨⟨y,hy,e2⟩,h2⟩:=T0 (Kj M)
 have:=h1 y hy
 have:=h2 x M
 omega
theorem gd4(wd mo nw:Int)(xs:List Lk)(x:Lk):inW 2 wd mo nw xs x=decide (nw - x.tm<wd):=by unfold inW;rw [B_ rfl]
def gd7(wd mo:Int)(xs:List Lk):List Lk:=xs.filter (inW 2 wd mo (ab5 xs+wd) xs)
theorem at5{wd mo:Int}{xs:List Lk}(h:0<xs.length):(gd7 wd mo xs).length<xs.length:=by
 unfold gd7
 obtain ⟨⟨x,M,e⟩,_⟩:=T0 h
 have h1:=ag0 2 wd mo (ab5 xs+wd) xs
 have h2:0<(s3 2 wd mo (ab5 xs+wd) xs).length:=by
  unfold s3
  rw [F_]
  refine Kj (a:=x)<|Gg.2 ⟨M,?_⟩
  rw [gd4,D_ om];rfl
 omega
def bi9(wd mo T:Int)(xs:List Lk)(out:List Ev):List Lk×List Ev:=
 if h:0<xs.length/\ab5 xs+wd<=T then bi9 wd mo T (gd7 wd mo xs) (out++s3 2 wd mo (ab5 xs+wd) xs) else (xs,out)
termination_by xs.length
decreasing_by exact at5 h.1
theorem ae7{wd mo T:Int}{xs:List Lk}{out:List Ev}(h:0<xs.length/\ab5 xs+wd<=T):bi9 wd mo T xs out=bi9 wd mo T (xs.filter (inW 2 wd mo (ab5 xs+wd) xs)) (out++s3 2 wd mo (ab5 xs+wd) xs):=by
 rw [bi9,dif_pos h];rfl
theorem Q5{wd mo T:Int}{xs:List Lk}{out:List Ev}(h:¬(0<xs.length/\ab5 xs+wd<=T)):bi9 wd mo T xs out=(xs,out):=by
 rw [bi9,dif_neg h]
def cr5(kd wd mo:Int)(b:List Lk×List Ev)(T:Int):List Lk×List Ev:=if kd=3 then (b.1.filter (inW kd wd mo T b.1),b.2++s3 kd wd mo T b.1) else b
def Q0(kd wd mo T:Int)(s:List Lk×List Ev):List Lk×List Ev:=if kd=2 then bi9 wd mo T s.1 s.2 else s
def p5(kd wd mo:Int)(s:List Lk×List Ev)(e:Ev):List Lk×List Ev:=cr5 kd wd mo (ep (Q0 kd wd mo e.tm s).1 e,(Q0 kd wd mo e.tm s).2++[e]) e.tm
structure SlI (nd kd wd:Int) (last:Int) (xs:List Lk):Prop where
 val:q7 nd xs=0
 tm:∀x∈xs,x.tm<=last
 al:kd=2->∀x∈xs,last<x.tm+wd
section
variable {nd kd wd mo last T:Int}{xs:List Lk}{out:List Ev}
theorem SlI.nil(h:0<=nd/\nd<=64):SlI nd kd wd last []:=⟨P8.2 ⟨h,λx M=>(by cases M),List.Pairwise.nil⟩,λx M=>(by cases M),λ_ x M=>(by cases M)⟩
theorem SlI.filter(h:SlI nd kd wd last xs)(P:Lk->Bool):SlI nd kd wd last (xs.filter P):=
 ⟨bn2 h.val,λx M=>h.tm x (Gg.1 M).1,λhk x M=>h.al hk x (Gg.1 M).1⟩
theorem SlI.later(h:SlI nd kd wd last xs)(hT:last<=T)(hk:kd=2->¬(0<xs.length/\ab5 xs+wd<=T)):SlI nd kd wd T xs:=
 ⟨h.val,λx M=>by have:=h.tm x M;omega,λh2 x M=>by
  have h3:=hk h2
  have h4:0<xs.length:=Kj M
  have h5:=(T0 h4).2 x M
  omega⟩
theorem SlI.step(h:SlI nd kd wd T xs){e:Ev}(he:H7 nd e)(ht:e.tm=T)(hw:kd=2->1<=wd):SlI nd kd wd T (ep xs e):=by
 have M:∀x∈ep xs e,x.tm=T\/x∈xs:=λx hx=>by
  unfold ep at hx
  split at hx
  ·rcases ba5 hx with rfl|hx
   ·exact .inl ht
   exact .inr hx
  exact .inr (Gg.1 hx).1
 refine ⟨J5 h.val he,λx hx=>?_,λhk x hx=>?_⟩
 ·rcases M x hx with h1|h1
  ·omega
  exact h.tm x h1
 rcases M x hx with h1|h1
 ·have:=hw hk;omega
 exact h.al hk x h1
theorem SlI.ask(h:SlI nd kd wd last xs)(hc:s7 kd wd mo=0){t:Int}(ht:0<=t/\t<=1048576)(hl:last<=t):ad1 nd xs kd wd mo t=0:=by
 unfold ad1
 rw [An (by simp [hc]),An<|by simp [h.val],An]
 rintro (h1|h1|h1)
 ·omega
 ·omega
 obtain ⟨x,M,h2⟩:=Kc.1 h1
 have:=h.tm x M
 have:=Fq h2
 omega
theorem SlI.first(h:SlI nd kd wd last xs)(hk:kd=2)(h0:0<xs.length):last<ab5 xs+wd:=by
 obtain ⟨⟨x,M,e⟩,_⟩:=T0 h0
 have:=h.al hk x M
 omega
end
end Go.Sl
