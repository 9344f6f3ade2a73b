/- A part of the proofs of statements of this seat: contracts of functions, and the plain laws that they lean on. No conditions. -/
import Derived.Test.YtoagcglbkeomgaaGreatDoorQ6
set_option linter.unusedVariables false
set_option linter.unusedSimpArgs false
set_option linter.unusedSectionVars false
open Go.Proofs.Tryz (prog)
namespace Go.Sl
open Go.Proofs
set_option maxRecDepth 4000
variable{a a0:Option Addr}{c c0:Nat}{xs:List Lk}{mo nd:Int}{v:Value}
variable {κ:Ctx}{I:List Item}
def Lk.lcmp(a c:Lk):Int:=orL [cmpI c.tm a.tm,Lk.cmp c a]
def Lk.late(a c:Lk):Prop:=c.tm<a.tm\/(a.tm=c.tm/\Lk.lt c a)
instance:DecidableRel Lk.late:=λa c=>by unfold Lk.late;infer_instance
theorem Lk.lcmp_lt(a c:Lk):Lk.lcmp a c<0↔Lk.late a c:=by
 unfold Lk.lcmp Lk.late
 rw [←Lk.cmp_lt]
 simp only [orL,cmpI]
 generalize Lk.cmp c a=z
 (repeat' split)<;>omega
def SortedK(xs ys:List Lk):Prop:=ys.Perm xs/\ys.Pairwise λa b=>¬Lk.late b a
open Go.Proofs Go.Shelf Go.Sort in
theorem swo_lk:SWO (ltOf Lk.lcmp) where
 irrefl x:=decide_eq_false λh=>by rw [Lk.lcmp_lt] at h;unfold Lk.late Lk.lt Pt.lt Lk.p at h;simp only at h;omega
 trans x y z h1 h2:=decide_eq_true (by
  have a:=of_decide_eq_true h1
  have b:=of_decide_eq_true h2
  rw [Lk.lcmp_lt] at a b ⊢
  unfold Lk.late Lk.lt Pt.lt Lk.p at a b ⊢
  simp only at a b ⊢
  omega)
 ntrans x y z h1 h2:=decide_eq_false λh=>by
  have a:=of_decide_eq_false h1
  have b:=of_decide_eq_false h2
  rw [Lk.lcmp_lt] at a b h
  unfold Lk.late Lk.lt Pt.lt Lk.p at a b h
  simp only at a b h
  omega
theorem CloneL(hl:Sl κ I (.slice a xs.length c) xs)(hb:xs.length<=1000000000):eu prog κ 127 [.slice a xs.length c] I (λr J=>∃a' c',r = .slice a' xs.length c'/\J=vc 82 (.slice a' xs.length c') xs::I):=by
 refine B9 (p:=a.isNone=true->xs=[]/\c=0) (λw hs hn=>hl.isNone w hs hn) λZ=>?_
 refine Ce1 Tryz.func127 C C ?_
 refine Af<|Ga C<|Ad<|Ap<|Af<|Gm C<|Gr (Runs.eqnil A4 C C)<|Ad<|Eg C (λc4=>?_)<|λc4=>?_
 ·refine Af (Ga C<|Ad<|Ay<|Aq ?_)
  obtain ⟨ab,_⟩:=Z c4
  subst ab
  exact A1 C C (vc 82 (.slice none ([]:List Lk).length 0) ([]:List Lk)::I) (Cm _ _) ⟨none,0,rfl,rfl⟩
 refine Aw<|Ah<|Af<|Ge1 (Eff.bs0 (α:=Lk) A4 ty82 C) λad=>?_
 refine Gm C<|Ge2 (Cp (α:=Lk) (e:=82) (xs:=([]:List Lk)) (ys:=xs) A4 ty82 C C C mm (A6 hl) (by simp only [List.length_nil];omega) dc C<|λ_ _=>am) λaa M=>?_
 exact Ga C<|Ad<|Ay<|A1 C C (vc 82 (.slice aa xs.length M) xs::I) Bf ⟨aa,M,rfl,rfl⟩
theorem LastCmp_ok(a c:Lk):eu prog κ 212 [.agg #[e7 (a.u),e7 (a.v),e7 (a.w),e7 (a.lb),e7 (a.sg),e7 (a.tm)],.agg #[e7 (c.u),e7 (c.v),e7 (c.w),e7 (c.lb),e7 (c.sg),e7 (c.tm)]] I (λr J=>r=e7 (Lk.lcmp a c)/\I=J):=by
 refine Ce2 Tryz.func212 C C ?_
 refine Af<|Ge1 (Bc (cs:=[_,_,_,_,_,_]) C C C) λb1=>Ge1 (Bc (cs:=[_,_,_,_,_,_]) C C C) λZ=>Ga C<|Ad<|Ap<|Bq mixed<|Cc (e8 Z [e7 (c.u),e7<|c.v,e7<|c.w,e7<|c.lb,e7<|c.sg,e7<|c.tm] 82::e8 b1 [e7 (a.u),e7<|a.v,e7<|a.w,e7<|a.lb,e7<|a.sg,e7<|a.tm] 82::I) 10<|Dr 0 C (Ac fld82_5 C)<|Dr 1 C (A7 ef) ?_
 refine Dr 2 C (Ac fld82_5 C)<|Dr 3 C (A7 ef) ?_
 refine Dr 5 C (A5 (vs:=[_,_,_,_,_,_]) ty82) ?_
 refine Dr 6 C (A5 (vs:=[_,_,_,_,_,_]) ty82) ?_
 refine Ds1 4<|Sc0 C (Aj c_ C C<|Compare_ok c.tm a.tm) ?_
 refine Ds1 7<|Sc0 C (Aj c_ C C<|OrderL_ok c a) ?_
 refine Ds1 8<|Se1 C (Co (α:=Int) (cs:=[_,_]) (xs:=[cmpI c.tm a.tm,Lk.cmp c a]) Ab ef C C dc dc C C C C) λM=>?_
 refine Ds1 9<|Sc0 C (Aj c_ C C<|Or_ok Bh) ?_
 refine Ct kr ?_
 refine Du (i:=10) kr C (Bk C) C C (Ba C) ?_
 refine Cu kr ?_
 exact Ah<|Am (S1 4 C)<|Ay<|A1 C C I Av ⟨rfl,rfl⟩
open Go.Proofs Go.Shelf Go.Sort in
theorem SortK_ok{κ:Ctx}{I:List Item}(aa:xs.length<1000000000):eu prog κ 211 [.slice a xs.length c,.func (.func 212) #[] #[]] (vc 82 (.slice a xs.length c) xs::I) λr J=>∃ys:List Lk,(r = .tuple #[]/\SortedK xs ys/\ys.length=xs.length)/\J=[]++vc 82 (.slice a xs.length c) ys::I:=
 (sort_any (α:=Lk) (ρ:=Tryz.sort211_ren) Tryz.sort211 Tryz.isAgg82 Tryz.sizeOf82 Lk.lcmp swo_lk 212 #[] (enters_of Tryz.func212 (by kernel_rfl) rfl) (λx y W=>lays_of<|LastCmp_ok x y) om).mono λr J ⟨ys,⟨h1,Z,h3⟩,M⟩=>
  ⟨ys,⟨h1,⟨Z,h3.imp fun {a b} h=>by rw [←Lk.lcmp_lt];exact of_decide_eq_false h⟩,Z.length_eq⟩,by rw [M,Z.length_eq]⟩
theorem SortK_at{F:Item->List Item}{n:Nat}(M:AtF I (vc 82 (.slice a n c) xs) F)(hn:xs.length=n)(aa:xs.length<1000000000):eu prog κ 211 [.slice a n c,.func (.func 212) #[] #[]] I λr J=>∃ys:List Lk,(r = .tuple #[]/\SortedK xs ys/\ys.length=n)/\J=[]++F (vc 82 (.slice a n c) ys):=
 eu.at (Z:=λ_=>[]) (X:=λys:List Lk=>vc 82 (.slice a n c) ys) (Post:=λr ys=>r = .tuple #[]/\SortedK xs ys/\ys.length=n) M λJ _ _=>by subst hn;exact SortK_ok aa
theorem Last_ok(hl:Sl κ I (.slice a0 xs.length c0) xs)(h0:0<=mo)(ah:xs.length<=1000000):eu prog κ 195 [.agg #[e7 nd,.slice a0 xs.length c0],e7 mo] I (λr J=>∃(a:Option Addr) (c:Nat) (ys:List Lk) (m:Nat),r = .slice a (List.take m ys).length c/\(SortedK xs ys/\ys.length=xs.length/\(m:Int)<=mo/\m<=xs.length/\((m:Int)=mo\/m=xs.length))/\J=vc 82 (.slice a xs.length c) ys::I):=by
 refine Ce2 Tryz.func195 C C ?_
 refine Af<|Ge1 (Bc (cs:=[_,_]) C C C) λb1=>Ga C<|Ad<|Af<|Gf fld35_1 C<|Gl ty33 ?_
 refine G.e (Aj c_ C C<|CloneL (xs:=xs) (A6 hl) om) ?_
 rintro _ _ ⟨_,_,⟨Z,M,rfl,rfl⟩,rfl,rfl⟩
 refine Ga C<|Ad<|Af<|Gm C<|G.e (Aj c_ C C<|SortK_at (by repeat (first|exact AtF.head _ _|apply AtF.tail)) C om) ?_
 rintro _ _ ⟨_,_,⟨aa,⟨rfl,ab,ad⟩,rfl⟩,rfl,rfl⟩
 show G prog κ _ _ _ _ ([(10,.tuple #[]),(9,.slice Z xs.length M),(5,.slice Z xs.length M),(8,.slice Z xs.length M),(7,.slice a0 xs.length c0),(6,.pointer<|some ⟨b1,1,none⟩),(4,.slice none 0 0),(2,.pointer<|some ⟨b1,0,none⟩),(0,.agg #[e7 nd,.slice a0 xs.length c0]),(1,e7 mo)]:Env) (vc 82 (.slice Z xs.length M) (aa)::e8 b1 [e7 nd,.slice a0 xs.length c0] 35::I)
 refine Ad<|Af<|Gm C<|Gm C<|Gm C<|Gr (Bj A4 C)<|Gr (Er C C)<|Gr (Runs.hi (α:=Lk) (xs:=aa) (h:=(if ((xs.length:Nat):Int)<mo then ((xs.length:Nat):Int) else mo).toNat) A4 ty82 C C om Bh<|by split<;>omega)<|Ga C<|Ad<|Am (S1 4 C)<|Ay ?_
 have ae:(((((if ((xs.length:Nat):Int)<mo then ((xs.length:Nat):Int) else mo).toNat)):Nat):Int)<=mo/\(((if ((xs.length:Nat):Int)<mo then ((xs.length:Nat):Int) else mo).toNat))<=xs.length/\((((((if ((xs.length:Nat):Int)<mo then ((xs.length:Nat):Int) else mo).toNat)):Nat):Int)=mo\/(((if ((xs.length:Nat):Int)<mo then ((xs.length:Nat):Int) else mo).toNat))=xs.length):=by split<;>omega
 exact A1 C C (vc 82 (.slice Z xs.length M) (aa)::I) Bf ⟨Z,M,aa,((if ((xs.length:Nat):Int)<mo then ((xs.length:Nat):Int) else mo).toNat),rfl,⟨ab,ad,ae⟩,rfl⟩
theorem IndexL_ok(M:Sl κ I v xs)(x:Lk):eu prog κ 213 [v,.agg #[e7 (x.u),e7 (x.v),e7 (x.w),e7 (x.lb),e7 (x.sg),e7 (x.tm)]] I (λr J=>∃y:Int,r=e7 y/\(0<=y↔x∈xs)/\I=J):=by
 refine B9 M.le λaa=>?_
 refine Ce2 Tryz.func213 C C ?_
 refine Af<|Ge1 (Bc (cs:=[_,_,_,_,_,_]) C C C) λb1=>Ga C<|Ad<|Ap<|Af<|Gm C<|Gr (B5 (α:=Lk) (xs:=xs) A4 C<|A6 M)<|Gm C<|Ad<|A0<|B1 (σ:=Nat) (λs=>([(0,v),(3,.pointer<|some ⟨b1,0,none⟩),(7,e7 ((xs.length:Nat):Int)),(8,e7 ((s:Nat):Int))]:Env)) (λs=>e8 b1 [e7 (x.u),e7<|x.v,e7<|x.w,e7<|x.lb,e7<|x.sg,e7<|x.tm] 82::I) (λs=>(s<=xs.length)/\(∀j,j<s->e_ xs j≠x)) (λs=>xs.length - s) 0 (show ((0:Nat)<=xs.length)/\(∀j,j<(0:Nat)->e_ xs j≠x) from ⟨om,all_zero⟩) (Aa C<|Aa C<|Aa C<|Aa Cd Bl) (show Fit κ _ (e8 b1 [e7 (x.u),e7<|x.v,e7<|x.w,e7<|x.lb,e7<|x.sg,e7<|x.tm] 82::I) from Bf) ?_
 rintro k hp
 obtain ⟨hk,hn⟩:=hp
 refine Af<|Gr (Bb C C)<|Ad<|Ap<|A8 C (λc9=>?_)<|λc9=>?_
 ·refine Aw (Ah<|Ap<|A0<|Af<|Gm C<|Ga C<|Ad<|Ap<|Bq mixed<|Cc (e8 b1 [e7 (x.u),e7<|x.v,e7<|x.w,e7<|x.lb,e7<|x.sg,e7<|x.tm] 82::I) 6<|Dr 0 C (A5 (vs:=[_,_,_,_,_,_]) ty82) ?_)
  refine Dr 1 C (Ai C)<|Dr 2 C (Ai C)<|Dr 3 C (Az (α:=Lk) (xs:=xs) A4 ty82 C C (A6 M) om om)<|Dr 4 C (B2 (α:=Lk) (xs:=xs) ty82 C (A6 M) om om)<|Dr 5 C (Runs.eqlT (α:=Lk) (a:=x) (b:=(e_ xs k)) eqt82 C C)<|Dz<|Ah<|A8 C (λZ=>?_)<|λZ=>?_
  ·refine Af (Gm C<|Ga C<|Ad<|Am (S1 4 C)<|Ay<|Be<|Aq<|Aq<|Be<|Aq ?_)
   have hm:x∈xs:=by rw [show x=e_ xs k from Z];exact Ca om om
   exact A1 C C I Av ⟨_,rfl,⟨λ_=>hm,λ_=>by omega⟩,rfl⟩
  exact Aw<|Al<|Ah<|Au<|Gr (Rad C C)<|Gm C<|Bo<|Cf ((k+1)) ⟨om,(all_succ hn<|λe=>Z e.symm)⟩
 refine Bx<|Ao<|Ao<|A9<|Ah<|Af<|Ga C<|Ad<|Ay ?_
 have hm:x∉xs:=not_mem_at hn om
 exact A1 C C I Av ⟨_,rfl,⟨λh=>absurd h dc,λh=>absurd h hm⟩,rfl⟩
theorem ContainsL_ok(Z:Sl κ I v xs)(x:Lk):eu prog κ 197 [v,.agg #[e7 (x.u),e7 (x.v),e7 (x.w),e7 (x.lb),e7 (x.sg),e7 (x.tm)]] I (λr J=>r = .bool (decide (x∈xs))/\I=J):=by
 refine Ce2 Tryz.func197 C C ?_
 refine Af<|Ge1 (Bc (cs:=[_,_,_,_,_,_]) C C C) λb1=>Ga C<|Ad<|Af<|Gm C<|Gl6 ty82 ?_
 refine G.e (Aj c_ C C<|IndexL_ok (A6 Z) x) ?_
 rintro _ _ ⟨_,_,⟨y2,rfl,M,rfl⟩,rfl,rfl⟩
 exact Gr (C3 C C)<|Ga C<|Ad<|Ay<|A1 C C I Av ⟨by rw [decide_eq_decide.2 asm],rfl⟩
theorem Last1_ok{b:Nat}{zs:List Lk}(M:BlkRd κ I b [v] 33)(Z:Sl κ I v zs)(x:Lk):eu prog κ 196 [.agg #[e7 (x.u),e7 (x.v),e7 (x.w),e7 (x.lb),e7 (x.sg),e7 (x.tm)],.pointer (some ⟨b,0,none⟩)] I (λr J=>r = .bool (decide (x∈zs))/\I=J):=by
 refine Ce2 Tryz.func196 C C ?_
 refine Af<|Ge1 (Bc (cs:=[_,_,_,_,_,_]) C C C) λb1=>Ga C<|Ad<|Af<|Gr (D6 ty33 C (Ei M Av) C)<|Gl6 ty82 ?_
 refine Gc0 (Aj c_ C C<|ContainsL_ok (A6 Z) x) ?_
 exact Ga C<|Ad<|Ay<|A1 C C I Av ⟨rfl,rfl⟩
theorem Rule3_ok{kd wd nw:Int}(hl:Sl κ I (.slice a0 xs.length c0) xs)(h0:0<=mo)(ae:xs.length<=1000000):eu prog κ 194 [.agg #[e7 nd,.slice a0 xs.length c0],.agg #[e7 kd,e7 wd,e7 mo],e7 nw] I (λr J=>∃(b:Nat) (a:Option Addr) (c:Nat) (ys:List Lk) (m:Nat),r = .func (.func 196) #[] #[.pointer (some ⟨b,0,none⟩)]/\(SortedK xs ys/\ys.length=xs.length/\(m:Int)<=mo/\m<=xs.length/\((m:Int)=mo\/m=xs.length))/\J=e8 b [.slice a (List.take m ys).length c] 33::vc 82 (.slice a xs.length c) ys::I):=by
 refine Ce3 Tryz.func194 C C ?_
 refine Af<|Ge1 (Bc (cs:=[_,_]) C C C) λb1=>Ge1 (Bc (cs:=[_,_,_]) C C C) λb2=>Ga C<|Ad<|Af<|Gl2 ty35 ?_
 refine Gf fld29_2 C<|Gl ef ?_
 refine G.e (Aj c_ C C<|Last_ok (nd:=nd) (A6 hl) h0 om) ?_
 rintro _ _ ⟨_,_,⟨M,aa,ab,ad,rfl,Z,rfl⟩,rfl,rfl⟩
 refine Ge1 (A2 ty33 C) λb7=>Ge0 (B6 (cs:=[_]) (vs:=[_]) (cs':=[_]) ty33) ?_
 exact Ad<|Af<|Gr (Ds C C)<|Ga C<|Ad<|Ay<|A1 C C (e8 b7 [.slice M (List.take ad ab).length aa] 33::vc 82 (.slice M xs.length aa) (ab)::I) Bf ⟨b7,M,aa,ab,ad,rfl,Z,rfl⟩
end Go.Sl
namespace Go.Sl
variable{kd mo n nd nw wd:Int}{xs ys:List Lk}
theorem scan0:∀(xs:List Lk) (q:Lk),scanL (badL n) Lk.lt (some q) xs=0->(∀x∈xs,badL n x=0)/\(q::xs).Pairwise Lk.lt
 |[],q,_=>by simp
 |p::ps,q,h=>by
  simp only [scanL] at h
  by_cases hb:badL n p=0
  ·rw [if_neg (by simp [hb])] at h
   by_cases hl:Lk.lt q p
   ·rw [if_pos hl] at h
    obtain ⟨M,Z⟩:=scan0 ps p h
    refine ⟨λx hx=>?_,List.pairwise_cons.2 ⟨λx hx=>?_,Z⟩⟩
    ·rcases List.mem_cons.1 hx with rfl|hx
     ·exact hb
     exact M x hx
    rcases List.mem_cons.1 hx with rfl|hx
    ·exact hl
    exact Pt.lin.tr _ _ _ hl<|(List.pairwise_cons.1 Z).1 x hx
   rw [if_neg hl] at h;cases h
  rw [if_pos hb] at h;exact absurd h hb
theorem checkS_ok(h:checkS n xs=0):(0<=n/\n<=64)/\(∀x∈xs,badL n x=0)/\xs.Pairwise Lk.lt:=by
 unfold checkS at h
 by_cases hn:n<0\/64<n
 ·rw [if_pos hn] at h;cases h
 rw [if_neg hn] at h
 refine ⟨by omega,?_⟩
 cases xs with
 |nil=>exact ⟨(λx hx=>by cases hx),List.Pairwise.nil⟩
 |cons p ps=>
  simp only [scanL] at h
  by_cases hb:badL n p=0
  ·rw [if_neg (by simp [hb])] at h
   obtain ⟨M,Z⟩:=scan0 ps p h
   exact ⟨λx hx=>by
    rcases List.mem_cons.1 hx with rfl|hx
    ·exact hb
    exact M x hx,Z⟩
  rw [if_pos hb] at h;exact absurd h hb
theorem badL_tm{l:Lk}(h:badL n l=0):0<=l.tm/\l.tm<=1048576:=by
 unfold badL at h
 split at h
 ·cases h
 split at h
 ·cases h
 split at h
 ·cases h
 omega
structure AskOk (nd:Int) (xs:List Lk) (kd wd mo nw:Int):Prop where
 kind:1<=kd/\kd<=3
 width:kd=2->1<=wd/\wd<=1048576
 most:kd=3->0<=mo/\mo<=2016
 nodes:0<=nd/\nd<=64
 asc:xs.Pairwise Lk.lt
 now:0<=nw/\nw<=1048576
 tm:∀x∈xs,0<=x.tm/\x.tm<=nw
theorem askE_ok(h:askE nd xs kd wd mo nw=0):AskOk nd xs kd wd mo nw:=by
 unfold askE at h
 by_cases h1:checkW kd wd mo=0
 ·rw [if_neg (by simp [h1])] at h
  by_cases h2:checkS nd xs=0
  ·rw [if_neg (by simp [h2])] at h
   obtain ⟨h3,h4,h5⟩:=checkS_ok h2
   split at h
   ·cases h
   rename_i h6
   have Z:(1<=kd/\kd<=3)/\(kd=2->1<=wd/\wd<=1048576)/\(kd=3->0<=mo/\mo<=2016):=by
    unfold checkW at h1
    split at h1
    ·cases h1
    split at h1
    ·cases h1
    omega
   refine ⟨Z.1,Z.2.1,Z.2.2,h3,h5,by omega,λx M=>?_⟩
   have h7:=badL_tm (h4 x M)
   refine ⟨h7.1,?_⟩
   by_cases h8:nw<x.tm
   ·exact absurd (.inr<|.inr<|List.any_eq_true.2 ⟨x,M,decide_eq_true h8⟩) h6
   omega
  rw [if_pos h2] at h;exact absurd h h2
 rw [if_pos h1] at h;exact absurd h h1
def rankL(xs:List Lk)(x:Lk):Nat:=(xs.filter λy=>decide (Lk.late y x)).length
def inW(kd wd mo nw:Int)(xs:List Lk)(x:Lk):Bool:=if kd=2 then decide (nw - x.tm<wd) else if kd=3 then decide ((rankL xs x:Int)<mo) else true
theorem late_irr(x:Lk):¬Lk.late x x:=by unfold Lk.late Lk.lt Pt.lt;omega
theorem late_asymm{x y:Lk}(h:Lk.late x y):¬Lk.late y x:=by unfold Lk.late Lk.lt Pt.lt at *; omega
theorem rank_at:∀(ys:List Lk) (i:Nat) (hi:i<ys.length),ys.Pairwise Lk.late->rankL ys ys[i]=i
 |[],i,hi,_=>absurd hi (by simp)
 |y::ys,0,hi,hp=>by
  obtain ⟨M,h2⟩:=List.pairwise_cons.1 hp
  unfold rankL
  rw [List.filter_eq_nil_iff.2 λz hz=>?_]
  ·rfl
  simp only [List.getElem_cons_zero,decide_eq_true_eq]
  rcases List.mem_cons.1 hz with rfl|hz
  ·exact late_irr _
  exact late_asymm<|M z hz
 |y::ys,i+1,hi,hp=>by
  obtain ⟨M,h2⟩:=List.pairwise_cons.1 hp
  have Z:i<ys.length:=by simpa using hi
  have ih:=rank_at ys i Z h2
  unfold rankL at ih ⊢
  rw [List.getElem_cons_succ,List.filter_cons,if_pos<|decide_eq_true<|M _<|List.getElem_mem Z,List.length_cons,ih]
theorem sortedK_late(h:SortedK xs ys)(ha:xs.Pairwise Lk.lt):ys.Pairwise Lk.late:=by
 have h1:xs.Pairwise λa b=>Lk.late a b\/Lk.late b a:=ha.imp fun {a b} Z=>by unfold Lk.late Lk.lt Pt.lt at *; omega
 have h2:ys.Pairwise λa b=>Lk.late a b\/Lk.late b a:=(h.1.pairwise_iff fun {x y} M=>M.symm).2 h1
 exact (h2.and h.2).imp fun {a b} Z=>Z.1.resolve_right Z.2
theorem take_rank(h:SortedK xs ys)(ha:xs.Pairwise Lk.lt){x:Lk}(hx:x∈xs)(m:Nat):x∈ys.take m↔rankL xs x<m:=by
 have hp:=sortedK_late h ha
 have hr:∀z,rankL xs z=rankL ys z:=λz=>by unfold rankL;exact ((h.1.filter _).length_eq).symm
 constructor
 ·intro M
  obtain ⟨j,hj,Z⟩:=List.mem_take_iff_getElem.1 M
  rw [hr,←Z,rank_at ys j om hp];omega
 intro M
 obtain ⟨j,hj,Z⟩:=List.getElem_of_mem (h.1.mem_iff.2 hx)
 rw [hr,←Z,rank_at ys j hj hp] at M
 exact List.mem_take_iff_getElem.2 ⟨j,by omega,Z⟩
theorem inW_all(Z:kd=1):(xs.filter λ_=>true)=xs.filter (inW kd wd mo nw xs):=
 List.filter_congr λx M=>by unfold inW;rw [if_neg om,if_neg om]
theorem inW_age(h:AskOk nd xs kd wd mo nw)(Z:kd=2):(xs.filter λx=>decide (IntKind.i64.wrap (nw - x.tm)<wd))=xs.filter (inW kd wd mo nw xs):=
 List.filter_congr λx M=>by
  have h1:=h.tm x M
  have h2:=h.now
  unfold inW;rw [if_pos Z,InR.wrap<|by unfold InR;omega]
theorem inW_last{m:Nat}(h:AskOk nd xs kd wd mo nw)(M:kd=3)(hs:SortedK xs ys/\ys.length=xs.length/\(m:Int)<=mo/\m<=xs.length/\((m:Int)=mo\/m=xs.length)) :
  (xs.filter λx=>decide<|x∈ys.take m)=xs.filter (inW kd wd mo nw xs):=
 List.filter_congr λx Z=>by
  unfold inW;rw [if_neg om,if_pos M,decide_eq_decide,take_rank hs.1 h.asc Z]
  have hlt:rankL xs x<xs.length:=by
   have h1:=List.length_filter_le (λy=>decide<|Lk.late y x) xs
   obtain ⟨j,hj,he⟩:=List.getElem_of_mem (hs.1.1.mem_iff.2 Z)
   have h2:rankL xs x=j:=by
    have:rankL xs x=rankL ys x:=by unfold rankL;exact ((hs.1.1.filter _).length_eq).symm
    rw [this,←he,rank_at ys j hj<|sortedK_late hs.1 h.asc]
   omega
  omega
end Go.Sl
namespace Go.Sl
open Go.Proofs
set_option maxRecDepth 4000
variable{xs:List Lk}{c0 k:Nat}{kd mo nd nw wd:Int}{a0:Option Addr}

variable {κ:Ctx}{I:List Item}
def cutEv(nw:Int)(l:Lk):Ev:=⟨2,nw,l.u,l.v,0,0,0⟩
theorem gone_yes{P:Lk->Bool}{f:Lk->Ev}(Z:k<xs.length)(h:P (e_ xs k)=false):((xs.take (k+1)).filter λx=> !P x).map f=((xs.take k).filter λx=> !P x).map f++[f (e_ xs k)]:=by
 rw [Cl xs k Z,List.filter_append,List.map_append];simp [h]
theorem gone_no{P:Lk->Bool}{f:Lk->Ev}(Z:k<xs.length)(h:P (e_ xs k)=true):((xs.take (k+1)).filter λx=> !P x).map f=((xs.take k).filter λx=> !P x).map f:=by
 rw [Cl xs k Z,List.filter_append,List.map_append];simp [h]
theorem filt_not{P R:Lk->Bool}(h:xs.filter P=xs.filter R):(xs.filter λx=> !P x)=xs.filter λx=> !R x:=
 List.filter_congr λx M=>by
  have Z:x∈xs.filter P↔x∈xs.filter R:=by rw [h]
  rw [List.mem_filter,List.mem_filter] at Z
  simp only [M,true_and] at Z
  cases hp:P x<;>cases hr:R x<;>simp_all
def goneL(kd wd mo nw:Int)(xs:List Lk):List Ev:=(xs.filter λx=> !inW kd wd mo nw xs x).map (cutEv nw)
theorem Gone_ok(l:Lk)(nw:Int):eu prog κ 175 [.agg #[e7 (l.u),e7 (l.v),e7 (l.w),e7 (l.lb),e7 (l.sg),e7 (l.tm)],e7 nw] I (λr J=>r = .agg #[e7 2,e7 nw,e7 l.u,e7 l.v,e7 0,e7 0,e7 0]/\I=J):=by
 refine Ce2 Tryz.func175 C C ?_
 refine Af<|Ge1 (Bc (cs:=[_,_,_,_,_,_]) C C C) λb1=>Ge1 (A2 ty54 C) λZ=>Ad<|Af<|Gm C<|Gf fld82_0 C<|Gl ef ?_
 refine Gf fld82_1 C<|Gl ef ?_
 refine Gr (Bp (cells:=[_,_,_,_,_,_,_]) ty54 Dg pl54 C C)<|Ge0 (Es7_7 ty54) ?_
 exact Ad<|Ay<|E5 C ty54 C mm C I Av ⟨rfl,rfl⟩
theorem Gone1_ok{M:Option Addr}{Z:Nat}(hl:Sl κ I (.slice M xs.length Z) xs)(ae:xs.length<=1000000)(hA:askE nd xs 1 wd mo nw=0):eu prog κ 153 [.agg #[e7 nd,.slice M xs.length Z],.agg #[e7 1,e7 wd,e7 mo],e7 nw] I (λr J=>∃a c,r = .slice a (goneL 1 wd mo nw xs).length c/\J=vc 54 (.slice a (goneL 1 wd mo nw xs).length c) (goneL 1 wd mo nw xs)::I):=by
 refine Ce3 Tryz.func153 C C ?_
 refine Af<|Ge1 (Bc (cs:=[_,_]) C C C) λb1=>Ge1 (Bc (cs:=[_,_,_]) C C C) λb2=>Ga C<|Ad<|Ap<|Bq mixed<|Cc (e8 b2 [e7 1,e7 wd,e7 mo] 29::e8 b1 [e7 nd,.slice M xs.length Z] 35::I) 9<|Dr 1 C (Ac fld29_0 C)<|Dr 2 C (A7 ef) ?_
 refine Dr 4 C (A5 (vs:=[_,_]) ty35) ?_
 refine Dr 5 C (A5 (vs:=[_,_,_]) ty29) ?_
 refine Dr 6 C (Ai C)<|Ds1 0<|Se C (Aj c_ C C Rules_ok) ?_
 rintro _ _ ⟨_,_,⟨aa,rfl,rfl⟩,rfl,rfl⟩
 refine ⟨Bf,?_⟩
 refine Ds1 3<|Sr C (Runs.lookupK (i:=0) D3 Cb C C C mm C) Bf ?_
 refine Ds1 7<|Se C (Cs c_ C C C Rule1_ok) ?_
 rintro _ _ ⟨_,_,⟨rfl,rfl⟩,rfl,rfl⟩
 refine ⟨Bf,?_⟩
 refine Dr 8 C (Ba C)<|Dz<|Ah<|Am (S3 7 3 2 C C C)<|Af<|Ga C<|Ad<|Ap<|Af<|Gf fld35_1 C<|Gl ty33 ?_
 refine Gr (Bj A4 C)<|Gm C<|Ad<|A0<|B1 (σ:=Nat×(Option Addr)×Nat×(List Ev)) (λs=>([(2,e7 nw),(7,.func (.func 191) #[] #[]),(8,.slice s.2.1 s.2.2.2.length s.2.2.1),(20,.slice M xs.length Z),(21,e7 ((xs.length:Nat):Int)),(22,e7 ((s.1:Nat):Int))]:Env)) (λs=>vc 54 (.slice s.2.1 s.2.2.2.length s.2.2.1) (s.2.2.2)::mp aa [({key:=e7 1,val:= .func (.func 190) #[] #[],born:=0}:MapEntry),({key:=e7 2,val:= .func (.func 192) #[] #[],born:=1}:MapEntry),({key:=e7 3,val:= .func (.func 194) #[] #[],born:=2}:MapEntry)] 3::e8 b2 [e7 1,e7 wd,e7 mo] 29::e8 b1 [e7 nd,.slice M xs.length Z] 35::I) (λs=>(s.1<=xs.length)/\(s.2.2.2=((xs.take s.1).filter λx=> !(λ_:Lk=>true) x).map (cutEv nw))) (λs=>xs.length - s.1) (0,none,0,[]) (show ((0:Nat)<=xs.length)/\(([]:List Ev)=((xs.take (0:Nat)).filter λx=> !(λ_:Lk=>true) x).map (cutEv nw)) from ⟨om,rfl⟩) (Aa C<|Aa C<|Aa (Dd C<|by first|rfl|simp)<|Aa C<|Aa C<|Aa Cd Bl) (show Fit κ _ (vc 54 (.slice none ([]).length 0) (([]))::mp aa [({key:=e7 1,val:= .func (.func 190) #[] #[],born:=0}:MapEntry),({key:=e7 2,val:= .func (.func 192) #[] #[],born:=1}:MapEntry),({key:=e7 3,val:= .func (.func 194) #[] #[],born:=2}:MapEntry)] 3::e8 b2 [e7 1,e7 wd,e7 mo] 29::e8 b1 [e7 nd,.slice M xs.length Z] 35::I) from (Cm _ _)) ?_
 rintro ⟨k,a,c,out⟩ hp
 dsimp only at hp ⊢
 obtain ⟨hk,ho⟩:=hp
 have ad:out.length<=xs.length:=by rw [ho,List.length_map];refine Nat.le_trans (List.length_filter_le _ _) ?_;simp only [List.length_take];omega
 refine Af<|Gr (Bb C C)<|Ad<|Ap<|A8 C (λab=>?_)<|λab=>?_
 ·refine Aw (Ah<|Ap<|A0<|Af<|Gr (Az (α:=Lk) (xs:=xs) A4 ty82 C C (A6 hl) om om)<|Gr (B2 (α:=Lk) (xs:=xs) ty82 C (A6 hl) om om)<|Ge1 (A2 ty82 C) λb4=>Ge0 (Es6_6 ty82) ?_)
  refine Ad<|Af<|Gm C<|Gl6 ty82 ?_
  refine Gc0 (Cs c_ C C C<|All1_ok<|e_ xs k) ?_
  exact Gr (Cr C)<|Ad<|Am (S8 29 10 2 7 8 20 21 22 C C C C C C C C)<|Dw C<|Aw<|Al<|Ah<|Au<|Gr (Rad C C)<|Gm C<|Bo<|Cf ((k+1),(a),(c),(out))<|by dsimp only;exact ⟨om,(by first|(rw [gone_yes (P:=(λ_:Lk=>true)) om (decide_eq_false c29),←ho];done)|(rw [gone_yes (P:=(λ_:Lk=>true)) om (decide_eq_false c29),←ho];rfl)|(rw [gone_no (P:=(λ_:Lk=>true)) om (decide_eq_true<|Classical.not_not.1 c29),←ho])|(rw [gone_no (P:=(λ_:Lk=>true)) om rfl,←ho]))⟩
 refine Bx<|Ao<|Ao<|A9<|Ah<|Af<|Gm C<|Ga C<|Ad<|Ay ?_
 have hE:out=(goneL 1 wd mo nw xs):=by rw [ho,show List.take k xs=xs from List.take_of_length_le om];unfold goneL;rw [filt_not (P:=(λ_:Lk=>true)) (inW_all rfl)]
 subst hE
 exact A1 C C (vc 54 (.slice a (goneL 1 wd mo nw xs).length c) (goneL 1 wd mo nw xs)::I) Bf ⟨a,c,rfl,rfl⟩
theorem Gone2_ok{M:Nat}(hl:Sl κ I (.slice a0 xs.length M) xs)(aj:xs.length<=1000000)(hA:askE nd xs 2 wd mo nw=0):eu prog κ 153 [.agg #[e7 nd,.slice a0 xs.length M],.agg #[e7 2,e7 wd,e7 mo],e7 nw] I (λr J=>∃a c,r = .slice a (goneL 2 wd mo nw xs).length c/\J=vc 54 (.slice a (goneL 2 wd mo nw xs).length c) (goneL 2 wd mo nw xs)::I):=by
 refine Ce3 Tryz.func153 C C ?_
 refine Af<|Ge1 (Bc (cs:=[_,_]) C C C) λb1=>Ge1 (Bc (cs:=[_,_,_]) C C C) λb2=>Ga C<|Ad<|Ap<|Bq mixed<|Cc (e8 b2 [e7 2,e7 wd,e7 mo] 29::e8 b1 [e7 nd,.slice a0 xs.length M] 35::I) 9<|Dr 1 C (Ac fld29_0 C)<|Dr 2 C (A7 ef) ?_
 refine Dr 4 C (A5 (vs:=[_,_]) ty35) ?_
 refine Dr 5 C (A5 (vs:=[_,_,_]) ty29) ?_
 refine Dr 6 C (Ai C)<|Ds1 0<|Se C (Aj c_ C C Rules_ok) ?_
 rintro _ _ ⟨_,_,⟨aa,rfl,rfl⟩,rfl,rfl⟩
 refine ⟨Bf,?_⟩
 refine Ds1 3<|Sr C (Runs.lookupK (i:=1) D3 Cb C C C mm C) Bf ?_
 refine Ds1 7<|Sc2 C (Cs c_ C C C Rule2_ok) λb4 b5=>?_
 refine Dr 8 C (Ba C)<|Dz<|Ah<|Am (S3 7 3 2 C C C)<|Af<|Ga C<|Ad<|Ap<|Af<|Gf fld35_1 C<|Gl ty33 ?_
 refine Gr (Bj A4 C)<|Gm C<|Ad<|A0<|B1 (σ:=Nat×(Option Addr)×Nat×(List Ev)) (λs=>([(2,e7 nw),(7,.func (.func 193) #[] #[.pointer (some ⟨b4,0,none⟩),.pointer<|some ⟨b5,0,none⟩]),(8,.slice s.2.1 s.2.2.2.length s.2.2.1),(20,.slice a0 xs.length M),(21,e7 ((xs.length:Nat):Int)),(22,e7 ((s.1:Nat):Int))]:Env)) (λs=>vc 54 (.slice s.2.1 s.2.2.2.length s.2.2.1) (s.2.2.2)::e8 b4 [e7 nw] 3::e8 b5 [e7 2,e7 wd,e7 mo] 29::mp aa [({key:=e7 1,val:= .func (.func 190) #[] #[],born:=0}:MapEntry),({key:=e7 2,val:= .func (.func 192) #[] #[],born:=1}:MapEntry),({key:=e7 3,val:= .func (.func 194) #[] #[],born:=2}:MapEntry)] 3::e8 b2 [e7 2,e7 wd,e7 mo] 29::e8 b1 [e7 nd,.slice a0 xs.length M] 35::I) (λs=>(s.1<=xs.length)/\(s.2.2.2=((xs.take s.1).filter λx=> !(λx:Lk=>decide<|IntKind.i64.wrap (nw - x.tm)<wd) x).map (cutEv nw))) (λs=>xs.length - s.1) (0,none,0,[]) (show ((0:Nat)<=xs.length)/\(([]:List Ev)=((xs.take (0:Nat)).filter λx=> !(λx:Lk=>decide<|IntKind.i64.wrap (nw - x.tm)<wd) x).map (cutEv nw)) from ⟨om,rfl⟩) (Aa C<|Aa C<|Aa (Dd C<|by first|rfl|simp)<|Aa C<|Aa C<|Aa Cd Bl) (show Fit κ _ (vc 54 (.slice none ([]).length 0) (([]))::e8 b4 [e7 nw] 3::e8 b5 [e7 2,e7 wd,e7 mo] 29::mp aa [({key:=e7 1,val:= .func (.func 190) #[] #[],born:=0}:MapEntry),({key:=e7 2,val:= .func (.func 192) #[] #[],born:=1}:MapEntry),({key:=e7 3,val:= .func (.func 194) #[] #[],born:=2}:MapEntry)] 3::e8 b2 [e7 2,e7 wd,e7 mo] 29::e8 b1 [e7 nd,.slice a0 xs.length M] 35::I) from (Cm _ _)) ?_
 rintro ⟨k,a,c,out⟩ hp
 dsimp only at hp ⊢
 obtain ⟨hk,ho⟩:=hp
 have ah:out.length<=xs.length:=by rw [ho,List.length_map];refine Nat.le_trans (List.length_filter_le _ _) ?_;simp only [List.length_take];omega
 refine Af<|Gr (Bb C C)<|Ad<|Ap<|A8 C (λad=>?_)<|λad=>?_
 ·refine Aw (Ah<|Ap<|A0<|Af<|Gr (Az (α:=Lk) (xs:=xs) A4 ty82 C C (A6 hl) om om)<|Gr (B2 (α:=Lk) (xs:=xs) ty82 C (A6 hl) om om)<|Ge1 (A2 ty82 C) λb6=>Ge0 (Es6_6 ty82) ?_)
  refine Ad<|Af<|Gm C<|Gl6 ty82 ?_
  refine Gc0 (Cs c_ C C C<|Age1_ok (Dy mm) (Dy mm)<|e_ xs k) ?_
  refine Gr (Ea C)<|Ad<|Am (S8 29 10 2 7 8 20 21 22 C C C C C C C C)<|A8 C (λZ=>?_)<|λZ=>?_
  ·refine Au (Gm C<|Gl6 ty82 ?_)
   refine Gm C<|G.e (Aj c_ C C<|Gone_ok (e_ xs k) nw) ?_
   rintro _ _ ⟨_,_,⟨rfl,rfl⟩,rfl,rfl⟩
   refine Ge1 (Co (α:=Ev) (cs:=[e7 2,e7 nw,e7<|(e_ xs k).u,e7<|(e_ xs k).v,e7 0,e7 0,e7 0]) (xs:=[⟨2,nw,(e_ xs k).u,(e_ xs k).v,0,0,0⟩]) Ar ty54 C C dc dc C kr C C) λai=>?_
   refine Ge2 (Cp (α:=Ev) (e:=54) (xs:=out) (ys:=([⟨2,nw,(e_ xs k).u,(e_ xs k).v,0,0,0⟩]:List Ev)) Ar ty54 C C C mm Bh lcn dc C<|λ_ _=>am) λae ab=>?_
   exact Ga C<|Bo<|Al<|Ah<|Am (S6 8 2 7 20 21 22 C C C C C C)<|Au<|Gr (Rad C C)<|Gm C<|Bo<|Cf ((k+1),(ae),(ab),(out++([⟨2,nw,(e_ xs k).u,(e_ xs k).v,0,0,0⟩]:List Ev)))<|by dsimp only;exact ⟨om,(by first|(rw [gone_yes (P:=(λx:Lk=>decide<|IntKind.i64.wrap (nw - x.tm)<wd)) om (decide_eq_false Z),←ho];done)|(rw [gone_yes (P:=(λx:Lk=>decide<|IntKind.i64.wrap (nw - x.tm)<wd)) om (decide_eq_false Z),←ho];rfl)|(rw [gone_no (P:=(λx:Lk=>decide<|IntKind.i64.wrap (nw - x.tm)<wd)) om (decide_eq_true<|Classical.not_not.1 Z),←ho])|(rw [gone_no (P:=(λx:Lk=>decide<|IntKind.i64.wrap (nw - x.tm)<wd)) om rfl,←ho]))⟩
  exact Aw<|Al<|Ah<|Au<|Gr (Rad C C)<|Gm C<|Bo<|Cf ((k+1),(a),(c),(out))<|by dsimp only;exact ⟨om,(by first|(rw [gone_yes (P:=(λx:Lk=>decide<|IntKind.i64.wrap (nw - x.tm)<wd)) om (decide_eq_false Z),←ho];done)|(rw [gone_yes (P:=(λx:Lk=>decide<|IntKind.i64.wrap (nw - x.tm)<wd)) om (decide_eq_false Z),←ho];rfl)|(rw [gone_no (P:=(λx:Lk=>decide<|IntKind.i64.wrap (nw - x.tm)<wd)) om (decide_eq_true<|Classical.not_not.1 Z),←ho])|(rw [gone_no (P:=(λx:Lk=>decide<|IntKind.i64.wrap (nw - x.tm)<wd)) om rfl,←ho]))⟩
 refine Bx<|Ao<|Ao<|A9<|Ah<|Af<|Gm C<|Ga C<|Ad<|Ay ?_
 have hE:out=(goneL 2 wd mo nw xs):=by rw [ho,show List.take k xs=xs from List.take_of_length_le om];unfold goneL;rw [filt_not (P:=(λx:Lk=>decide<|IntKind.i64.wrap (nw - x.tm)<wd)) (inW_age (askE_ok hA) rfl)]
 subst hE
 exact A1 C C (vc 54 (.slice a (goneL 2 wd mo nw xs).length c) (goneL 2 wd mo nw xs)::I) Bf ⟨a,c,rfl,rfl⟩
theorem Gone3_ok(hl:Sl κ I (.slice a0 xs.length c0) xs)(ap:xs.length<=1000000)(hA:askE nd xs 3 wd mo nw=0):eu prog κ 153 [.agg #[e7 nd,.slice a0 xs.length c0],.agg #[e7 3,e7 wd,e7 mo],e7 nw] I (λr J=>∃a c,r = .slice a (goneL 3 wd mo nw xs).length c/\J=vc 54 (.slice a (goneL 3 wd mo nw xs).length c) (goneL 3 wd mo nw xs)::I):=by
 refine Ce3 Tryz.func153 C C ?_
 refine Af<|Ge1 (Bc (cs:=[_,_]) C C C) λb1=>Ge1 (Bc (cs:=[_,_,_]) C C C) λb2=>Ga C<|Ad<|Ap<|Bq mixed<|Cc (e8 b2 [e7 3,e7 wd,e7 mo] 29::e8 b1 [e7 nd,.slice a0 xs.length c0] 35::I) 9<|Dr 1 C (Ac fld29_0 C)<|Dr 2 C (A7 ef) ?_
 refine Dr 4 C (A5 (vs:=[_,_]) ty35) ?_
 refine Dr 5 C (A5 (vs:=[_,_,_]) ty29) ?_
 refine Dr 6 C (Ai C)<|Ds1 0<|Se C (Aj c_ C C Rules_ok) ?_
 rintro _ _ ⟨_,_,⟨ai,rfl,rfl⟩,rfl,rfl⟩
 refine ⟨Bf,?_⟩
 refine Ds1 3<|Sr C (Runs.lookupK (i:=2) D3 Cb C C C mm C) Bf ?_
 refine Ds1 7<|Se C (Cs c_ C C C<|Rule3_ok (A6 hl) ((askE_ok hA).most C).1 om) ?_
 rintro _ _ ⟨_,_,⟨b4,ab,ad,Z,M,rfl,ae,rfl⟩,rfl,rfl⟩
 refine ⟨Bf,?_⟩
 refine Dr 8 C (Ba C)<|Dz<|Ah<|Am (S3 7 3 2 C C C)<|Af<|Ga C<|Ad<|Ap<|Af<|Gf fld35_1 C<|Gl ty33 ?_
 refine Gr (Bj A4 C)<|Gm C<|Ad<|A0<|B1 (σ:=Nat×(Option Addr)×Nat×(List Ev)) (λs=>([(2,e7 nw),(7,.func (.func 196) #[] #[.pointer (some ⟨b4,0,none⟩)]),(8,.slice s.2.1 s.2.2.2.length s.2.2.1),(20,.slice a0 xs.length c0),(21,e7 ((xs.length:Nat):Int)),(22,e7 ((s.1:Nat):Int))]:Env)) (λs=>vc 54 (.slice s.2.1 s.2.2.2.length s.2.2.1) (s.2.2.2)::e8 b4 [.slice ab (List.take M Z).length ad] 33::vc 82 (.slice ab xs.length ad) (Z)::mp ai [({key:=e7 1,val:= .func (.func 190) #[] #[],born:=0}:MapEntry),({key:=e7 2,val:= .func (.func 192) #[] #[],born:=1}:MapEntry),({key:=e7 3,val:= .func (.func 194) #[] #[],born:=2}:MapEntry)] 3::e8 b2 [e7 3,e7 wd,e7 mo] 29::e8 b1 [e7 nd,.slice a0 xs.length c0] 35::I) (λs=>(s.1<=xs.length)/\(s.2.2.2=((xs.take s.1).filter λx=> !(λx:Lk=>decide<|x∈List.take M Z) x).map (cutEv nw))) (λs=>xs.length - s.1) (0,none,0,[]) (show ((0:Nat)<=xs.length)/\(([]:List Ev)=((xs.take (0:Nat)).filter λx=> !(λx:Lk=>decide<|x∈List.take M Z) x).map (cutEv nw)) from ⟨om,rfl⟩) (Aa C<|Aa C<|Aa (Dd C<|by first|rfl|simp)<|Aa C<|Aa C<|Aa Cd Bl) (show Fit κ _ (vc 54 (.slice none ([]).length 0) (([]))::e8 b4 [.slice ab (List.take M Z).length ad] 33::vc 82 (.slice ab xs.length ad) (Z)::mp ai [({key:=e7 1,val:= .func (.func 190) #[] #[],born:=0}:MapEntry),({key:=e7 2,val:= .func (.func 192) #[] #[],born:=1}:MapEntry),({key:=e7 3,val:= .func (.func 194) #[] #[],born:=2}:MapEntry)] 3::e8 b2 [e7 3,e7 wd,e7 mo] 29::e8 b1 [e7 nd,.slice a0 xs.length c0] 35::I) from (Cm _ _)) ?_
 rintro ⟨k,a,c,out⟩ hp
 dsimp only at hp ⊢
 obtain ⟨hk,ho⟩:=hp
 have ao:out.length<=xs.length:=by rw [ho,List.length_map];refine Nat.le_trans (List.length_filter_le _ _) ?_;simp only [List.length_take];omega
 refine Af<|Gr (Bb C C)<|Ad<|Ap<|A8 C (λak=>?_)<|λak=>?_
 ·refine Aw (Ah<|Ap<|A0<|Af<|Gr (Az (α:=Lk) (xs:=xs) A4 ty82 C C (A6 hl) om om)<|Gr (B2 (α:=Lk) (xs:=xs) ty82 C (A6 hl) om om)<|Ge1 (A2 ty82 C) λb9=>Ge0 (Es6_6 ty82) ?_)
  refine Ad<|Af<|Gm C<|Gl6 ty82 ?_
  refine Gc0 (Cs c_ C C C<|Last1_ok (Dy mm) (Sl.take Bh om)<|e_ xs k) ?_
  refine Gr (Ea C)<|Ad<|Am (S8 29 10 2 7 8 20 21 22 C C C C C C C C)<|A8 C (λaa=>?_)<|λaa=>?_
  ·refine Au (Gm C<|Gl6 ty82 ?_)
   refine Gm C<|G.e (Aj c_ C C<|Gone_ok (e_ xs k) nw) ?_
   rintro _ _ ⟨_,_,⟨rfl,rfl⟩,rfl,rfl⟩
   refine Ge1 (Co (α:=Ev) (cs:=[e7 2,e7 nw,e7<|(e_ xs k).u,e7<|(e_ xs k).v,e7 0,e7 0,e7 0]) (xs:=[⟨2,nw,(e_ xs k).u,(e_ xs k).v,0,0,0⟩]) Ar ty54 C C dc dc C kr C C) λan=>?_
   refine Ge2 (Cp (α:=Ev) (e:=54) (xs:=out) (ys:=([⟨2,nw,(e_ xs k).u,(e_ xs k).v,0,0,0⟩]:List Ev)) Ar ty54 C C C mm Bh lcn dc C<|λ_ _=>am) λaj ah=>?_
   exact Ga C<|Bo<|Al<|Ah<|Am (S6 8 2 7 20 21 22 C C C C C C)<|Au<|Gr (Rad C C)<|Gm C<|Bo<|Cf ((k+1),(aj),(ah),(out++([⟨2,nw,(e_ xs k).u,(e_ xs k).v,0,0,0⟩]:List Ev)))<|by dsimp only;exact ⟨om,(by first|(rw [gone_yes (P:=(λx:Lk=>decide<|x∈List.take M Z)) om (decide_eq_false aa),←ho];done)|(rw [gone_yes (P:=(λx:Lk=>decide<|x∈List.take M Z)) om (decide_eq_false aa),←ho];rfl)|(rw [gone_no (P:=(λx:Lk=>decide<|x∈List.take M Z)) om (decide_eq_true<|Classical.not_not.1 aa),←ho])|(rw [gone_no (P:=(λx:Lk=>decide<|x∈List.take M Z)) om rfl,←ho]))⟩
  exact Aw<|Al<|Ah<|Au<|Gr (Rad C C)<|Gm C<|Bo<|Cf ((k+1),(a),(c),(out))<|by dsimp only;exact ⟨om,(by first|(rw [gone_yes (P:=(λx:Lk=>decide<|x∈List.take M Z)) om (decide_eq_false aa),←ho];done)|(rw [gone_yes (P:=(λx:Lk=>decide<|x∈List.take M Z)) om (decide_eq_false aa),←ho];rfl)|(rw [gone_no (P:=(λx:Lk=>decide<|x∈List.take M Z)) om (decide_eq_true<|Classical.not_not.1 aa),←ho])|(rw [gone_no (P:=(λx:Lk=>decide<|x∈List.take M Z)) om rfl,←ho]))⟩
 refine Bx<|Ao<|Ao<|A9<|Ah<|Af<|Gm C<|Ga C<|Ad<|Ay ?_
 have hE:out=(goneL 3 wd mo nw xs):=by rw [ho,show List.take k xs=xs from List.take_of_length_le om];unfold goneL;rw [filt_not (P:=(λx:Lk=>decide<|x∈List.take M Z)) (inW_last (askE_ok hA) rfl ae)]
 subst hE
 exact A1 C C (vc 54 (.slice a (goneL 3 wd mo nw xs).length c) (goneL 3 wd mo nw xs)::I) Bf ⟨a,c,rfl,rfl⟩
theorem GoneP_ok(hl:Sl κ I (.slice a0 xs.length c0) xs)(Z:xs.length<=1000000)(M:askE nd xs kd wd mo nw=0):eu prog κ 153 [.agg #[e7 nd,.slice a0 xs.length c0],.agg #[e7 kd,e7 wd,e7 mo],e7 nw] I λr J=>∃a c,r = .slice a (goneL kd wd mo nw xs).length c/\J=vc 54 (.slice a (goneL kd wd mo nw xs).length c) (goneL kd wd mo nw xs)::I:=by
 have hk:=(askE_ok M).kind
 rcases (by omega:kd=1\/kd=2\/kd=3) with rfl|rfl|rfl
 ·exact Gone1_ok hl Z M
 ·exact Gone2_ok hl Z M
 exact Gone3_ok hl Z M
theorem Expired_ok{κ:Ctx}{I:List Item}(hl:Sl κ I (.slice a0 xs.length c0) xs)(ab:xs.length<=1000000):eu prog κ 126 [.agg #[e7 nd,.slice a0 xs.length c0],.agg #[e7 kd,e7 wd,e7 mo],e7 nw] I (λr J=>(askE nd xs kd wd mo nw≠0/\r = .tuple #[.slice none 0 0,e7 (askE nd xs kd wd mo nw)]/\I=J)\/(∃a c,askE nd xs kd wd mo nw=0/\r = .tuple #[.slice a (goneL kd wd mo nw xs).length c,e7 0]/\J=vc 54 (.slice a (goneL kd wd mo nw xs).length c) (goneL kd wd mo nw xs)::I)):=by
 refine Ce3 Tryz.func126 C C ?_
 refine Af<|Ge1 (Bc (cs:=[_,_]) C C C) λb1=>Ge1 (Bc (cs:=[_,_,_]) C C C) λb2=>Ga C<|Ga C<|Ad<|Ap<|Af<|Gl2 ty35 ?_
 refine Gl3 ty29 ?_
 refine Gm C<|G.e (Aj c_ C C<|Asked_ok (nd:=nd) (kd:=kd) (wd:=wd) (mo:=mo) (nw:=nw)<|A6 hl) ?_
 rintro _ _ ⟨_,_,⟨rfl,rfl⟩,rfl,rfl⟩
 refine Ga C<|Ad<|Af<|Gm C<|Gr (Bn C C)<|Ad<|Am (S5 14 8 4 3 2 C C C C C)<|A8 C (λZ=>?_)<|λZ=>?_
 ·exact Af<|Gm C<|Ga C<|Ga C<|Ad<|Ay<|Aq<|De C C C I Av<|.inl ⟨Z,rfl,rfl⟩
 refine Aw<|Ah<|Af<|Gl2 ty35 ?_
 refine Gl3 ty29 ?_
 refine Gm C<|Gc2 (Aj c_ C C<|GoneP_ok (nd:=nd) (A6 hl) om<|Classical.not_not.1 Z) λM aa=>?_
 exact Ga C<|Ga C<|Ad<|Ay<|De C C C (vc 54 (.slice M (goneL kd wd mo nw xs).length aa) (goneL kd wd mo nw xs)::I) Bf<|.inr ⟨M,aa,Classical.not_not.1 Z,rfl,rfl⟩
theorem checkW_wd(h:checkW kd wd mo=0):0<=wd/\wd<=1048576:=by
 unfold checkW at h
 split at h
 ·cases h
 split at h
 ·cases h
 omega
theorem checkS_tm(h:checkS nd xs=0):∀i:Int,0<=i->i<xs.length->0<=(e_ xs i).tm/\(e_ xs i).tm<=1048576:=λi Z M=>badL_tm ((checkS_ok h).2.1 _ (Ca Z M))
end Go.Sl
namespace Go.Sl
variable{n nw:Int}
def eh(e:Ev):Lk:=⟨if e.v<e.u then e.v else e.u,if e.u<e.v then e.v else e.u,e.w,e.lb,e.sg,e.tm⟩
def setL(n:Lk):List Lk->List Lk
 |[]=>[n]
 |l::ls=>if Lk.lt n l then n::l::ls else if l.p=n.p then n::ls else l::setL n ls
def hitE(e:Ev)(l:Lk):Bool:=if e.kd=2 then decide (l.u=(eh e).u/\l.v=(eh e).v) else decide (l.u=e.u\/l.v=e.u)
def ep(xs:List Lk)(e:Ev):List Lk:=if e.kd=1 then setL (eh e) xs else xs.filter λl=> !hitE e l
def endsE(e:Ev):Prop:=(0<=e.u/\e.u<64)/\(e.kd=3->e.v=0)/\(e.kd≠3->(0<=e.v/\e.v<64)/\e.u≠e.v)
instance (e:Ev):Decidable (endsE e):=by unfold endsE;infer_instance
def checkE(e:Ev):Int:=if e.kd<1\/3<e.kd then 8 else if e.tm<0\/1048576<e.tm then 9 else if ¬endsE e then 6 else if (e.kd=1/\¬rightW e.w e.lb e.sg)\/(e.kd≠1/\(e.w≠0\/e.lb≠0\/e.sg≠0)) then 1 else 0
def fitE(nd:Int)(e:Ev):Int:=if checkE e≠0 then checkE e else if nd<=e.u\/nd<=e.v then 6 else 0
section
variable {e:Ev}{nd:Int}
theorem checkE_eight(h:e.kd<1\/3<e.kd):checkE e=8:=by unfold checkE;rw [if_pos h]
theorem checkE_nine(Z:1<=e.kd/\e.kd<=3)(h:e.tm<0\/1048576<e.tm):checkE e=9:=by unfold checkE;rw [if_neg om,if_pos h]
theorem checkE_six(M:1<=e.kd/\e.kd<=3)(Z:0<=e.tm/\e.tm<=1048576)(h:¬endsE e):checkE e=6:=by unfold checkE;rw [if_neg om,if_neg om,if_pos h]
theorem checkE_one(h1:1<=e.kd/\e.kd<=3)(M:0<=e.tm/\e.tm<=1048576)(Z:endsE e)(h:(e.kd=1/\¬rightW e.w e.lb e.sg)\/(e.kd≠1/\(e.w≠0\/e.lb≠0\/e.sg≠0))):checkE e=1:=by
 unfold checkE;rw [if_neg om,if_neg om,if_neg<|λh=>h Z,if_pos h]
theorem checkE_zero(h1:1<=e.kd/\e.kd<=3)(h2:0<=e.tm/\e.tm<=1048576)(M:endsE e)(h:e.kd=1->rightW e.w e.lb e.sg)(Z:e.kd≠1->e.w=0/\e.lb=0/\e.sg=0):checkE e=0:=by
 unfold checkE;rw [if_neg om,if_neg om,if_neg<|λh=>h M,if_neg];rintro (⟨a,b⟩|⟨a,b⟩)
 ·exact b<|h a
 have:=Z a;omega
end
structure FitOk (nd:Int) (e:Ev):Prop where
 kind:1<=e.kd/\e.kd<=3
 tm:0<=e.tm/\e.tm<=1048576
 ends:endsE e
 right:e.kd=1->rightW e.w e.lb e.sg
 fits:e.u<nd/\e.v<nd
 zero:e.kd≠1->e.w=0/\e.lb=0/\e.sg=0
theorem fitE_ok{nd:Int}{e:Ev}:fitE nd e=0↔FitOk nd e:=by
 constructor
 ·intro h
  unfold fitE checkE at h
  by_cases Z:e.kd<1\/3<e.kd
  ·rw [if_pos Z] at h;simp at h
  rw [if_neg Z] at h
  by_cases M:e.tm<0\/1048576<e.tm
  ·rw [if_pos M] at h;simp at h
  rw [if_neg M] at h
  by_cases h3:¬endsE e
  ·rw [if_pos h3] at h;simp at h
  rw [if_neg h3] at h
  by_cases h4:(e.kd=1/\¬rightW e.w e.lb e.sg)\/(e.kd≠1/\(e.w≠0\/e.lb≠0\/e.sg≠0))
  ·rw [if_pos h4] at h;simp at h
  rw [if_neg h4] at h
  by_cases h5:nd<=e.u\/nd<=e.v
  ·rw [if_neg (by simp),if_pos h5] at h;simp at h
  exact ⟨by omega,by omega,Classical.not_not.1 h3,λhk=>Classical.byContradiction λhr=>h4<|.inl ⟨hk,hr⟩,by omega,λhk=>by omega⟩
 intro h
 have Z:=h.kind
 have M:=h.tm
 have h5:=h.fits
 have hc:checkE e=0:=by
  unfold checkE
  rw [if_neg om,if_neg om,if_neg<|by simpa using h.ends,if_neg ?_]
  rintro (⟨a,b⟩|⟨a,b⟩)
  ·exact b<|h.right a
  have:=h.zero a;omega
 unfold fitE
 rw [if_neg (by simp [hc]),if_neg om]
theorem lk_lt{a b:Lk}:Lk.lt a b↔a.u<b.u\/(a.u=b.u/\a.v<b.v):=Iff.rfl
theorem lk_p{a b:Lk}:a.p=b.p↔a.u=b.u/\a.v=b.v:=by unfold Lk.p;simp
theorem FitOk.lk{nd:Int}{e:Ev}(h:FitOk nd e)(Z:e.kd≠3):0<=(eh e).u/\(eh e).u<(eh e).v/\(eh e).v<nd:=by
 have h1:=h.ends.2.2 Z
 have M:=h.ends.1
 have h3:=h.fits
 unfold eh
 simp only
 refine ⟨?_,?_,?_⟩<;>(repeat' split)<;>omega
theorem FitOk.badL{nd:Int}{e:Ev}(h:FitOk nd e)(Z:e.kd=1):badL nd (eh e)=0:=by
 have h1:=h.lk om
 have M:=h.tm
 exact badL_zero om (h.right Z)<|by show ¬(e.tm<0\/1048576<e.tm);omega
theorem mem_setL{n:Lk}{xs:List Lk}{x:Lk}(h:x∈setL n xs):x=n\/x∈xs:=by
 induction xs with
 |nil=>simp [setL] at h;exact .inl h
 |cons l ls ih=>
  unfold setL at h
  split at h
  ·simpa using h
  split at h
  ·rcases List.mem_cons.1 h with h|h
   ·exact .inl h
   exact .inr<|List.mem_cons_of_mem _ h
  rcases List.mem_cons.1 h with h|h
  ·exact .inr<|by rw [h];exact List.mem_cons_self
  rcases ih h with h|h
  ·exact .inl h
  exact .inr<|List.mem_cons_of_mem _ h
theorem setL_asc{n:Lk}{xs:List Lk}(h:xs.Pairwise Lk.lt):(setL n xs).Pairwise Lk.lt:=by
 induction xs with
 |nil=>simp [setL]
 |cons l ls ih=>
  obtain ⟨Z,M⟩:=List.pairwise_cons.1 h
  unfold setL
  by_cases hl:Lk.lt n l
  ·rw [if_pos hl]
   refine List.pairwise_cons.2 ⟨λx hx=>?_,h⟩
   rcases List.mem_cons.1 hx with rfl|hx
   ·exact hl
   exact Pt.lin.tr _ _ _ hl<|Z x hx
  rw [if_neg hl]
  by_cases he:l.p=n.p
  ·rw [if_pos he]
   refine List.pairwise_cons.2 ⟨λx hx=>?_,M⟩
   have:=Z x hx
   unfold Lk.lt at this ⊢
   rw [←he];exact this
  rw [if_neg he]
  refine List.pairwise_cons.2 ⟨λx hx=>?_,ih M⟩
  rcases mem_setL hx with rfl|hx
  ·rw [lk_lt] at hl ⊢; rw [lk_p] at he;omega
  exact Z x hx
theorem setL_len(n:Lk)(xs:List Lk):(setL n xs).length<=xs.length+1:=by
 induction xs with
 |nil=>simp [setL]
 |cons l ls ih=>
  unfold setL
  split
  ·simp
  split
  ·simp
  simp;omega
theorem stepL_len(xs:List Lk)(e:Ev):(ep xs e).length<=xs.length+1:=by
 unfold ep
 split
 ·exact setL_len _ _
 exact Nat.le_succ_of_le<|List.length_filter_le _ _
theorem scan0_back:∀(xs:List Lk) (q:Lk),(∀x∈xs,badL n x=0)->(q::xs).Pairwise Lk.lt->scanL (badL n) Lk.lt (some q) xs=0
 |[],q,_,_=>rfl
 |p::ps,q,h1,h2=>by
  obtain ⟨a,b⟩:=List.pairwise_cons.1 h2
  simp only [scanL]
  rw [if_neg (by simp [h1 p List.mem_cons_self]),if_pos<|a p List.mem_cons_self]
  exact scan0_back ps p (λx Z=>h1 x<|List.mem_cons_of_mem _ Z) b
theorem checkS_iff{xs:List Lk}:checkS n xs=0↔(0<=n/\n<=64)/\(∀x∈xs,badL n x=0)/\xs.Pairwise Lk.lt:=by
 constructor
 ·exact checkS_ok
 rintro ⟨h1,Z,h3⟩
 unfold checkS
 rw [if_neg om]
 cases xs with
 |nil=>rfl
 |cons p ps=>
  simp only [scanL]
  rw [if_neg (by simp [Z p List.mem_cons_self])]
  exact scan0_back ps p (λx M=>Z x<|List.mem_cons_of_mem _ M) h3
theorem stepL_val{nd:Int}{xs:List Lk}{e:Ev}(h:checkS nd xs=0)(he:FitOk nd e):checkS nd (ep xs e)=0:=by
 obtain ⟨h1,Z,M⟩:=checkS_iff.1 h
 refine checkS_iff.2 ⟨h1,?_⟩
 unfold ep
 by_cases hk:e.kd=1
 ·rw [if_pos hk]
  refine ⟨λx hx=>?_,setL_asc M⟩
  rcases mem_setL hx with rfl|hx
  ·exact he.badL hk
  exact Z x hx
 rw [if_neg hk]
 exact ⟨λx hx=>Z x (List.mem_filter.1 hx).1,M.sublist List.filter_sublist⟩
theorem filter_val{nd:Int}{xs:List Lk}{P:Lk->Bool}(h:checkS nd xs=0):checkS nd (xs.filter P)=0:=by
 obtain ⟨M,Z,h3⟩:=checkS_iff.1 h
 exact checkS_iff.2 ⟨M,λx hx=>Z x (List.mem_filter.1 hx).1,h3.sublist List.filter_sublist⟩
theorem val_uv{nd:Int}{xs:List Lk}(h:checkS nd xs=0):∀x∈xs,0<=x.u/\x.u<x.v/\x.v<nd:=λx M=>by
 have Z:=(checkS_ok h).2.1 x M
 unfold Sl.badL at Z
 split at Z
 ·cases Z
 omega
theorem cut_hit(nw:Int){z:Lk}(Z:z.u<z.v)(l:Lk):hitE (cutEv nw z) l=decide (l.p=z.p):=by
 unfold hitE eh cutEv
 simp only [if_true]
 rw [if_neg om,if_pos Z,decide_eq_decide,lk_p]
theorem cuts_filter(nw:Int):∀(zs xs:List Lk),(∀z∈zs,z.u<z.v)->(zs.map (cutEv nw)).foldl ep xs=xs.filter λx=>zs.all λz=> !decide (x.p=z.p)
 |[],xs,_=>by simp only [List.map_nil,List.foldl_nil,List.all_nil];exact (List.filter_eq_self.2 λ_ _=>rfl).symm
 |z::zs,xs,h=>by
  have Z:=cuts_filter nw zs (xs.filter λl=> !decide (l.p=z.p)) λy M=>h y (List.mem_cons_of_mem _ M)
  have hs:ep xs (cutEv nw z)=xs.filter λl=> !decide (l.p=z.p):=by
   unfold ep
   rw [if_neg (by show ¬(2:Int)=1;decide)]
   exact List.filter_congr λl _=>by rw [cut_hit nw (h z List.mem_cons_self)]
  rw [List.map_cons,List.foldl_cons,hs,Z,List.filter_filter]
  exact List.filter_congr λx _=>by rw [List.all_cons,Bool.and_comm]
theorem asc_p{xs:List Lk}(h:xs.Pairwise Lk.lt){x y:Lk}(hx:x∈xs)(hy:y∈xs)(M:x.p=y.p):x=y:=by
 induction xs with
 |nil=>cases hx
 |cons l ls ih=>
  obtain ⟨h1,h2⟩:=List.pairwise_cons.1 h
  have Z:∀z∈ls,l.p≠z.p:=λz hz e=>by
   have:=h1 z hz
   unfold Lk.lt at this
   rw [e] at this
   exact Pt.lin.irr _ this
  rcases List.mem_cons.1 hx with e1|e1<;>rcases List.mem_cons.1 hy with e2|e2
  ·rw [e1,e2]
  ·exact absurd (e1▸M)<|Z y e2
  ·exact absurd (e2▸M.symm)<|Z x e1
  exact ih h2 e1 e2
theorem gone_steps{nd kd wd mo:Int}{xs:List Lk}(h:checkS nd xs=0):(goneL kd wd mo nw xs).foldl ep xs=xs.filter (inW kd wd mo nw xs):=by
 unfold goneL
 rw [cuts_filter nw _ _ λz M=>(val_uv h z (List.mem_filter.1 M).1).2.1]
 refine List.filter_congr λx hx=>?_
 cases hp:inW kd wd mo nw xs x
 ·rw [Bool.eq_false_iff]
  intro ha
  have:=List.all_eq_true.1 ha x (List.mem_filter.2 ⟨hx,by rw [hp];rfl⟩)
  simp at this
 rw [List.all_eq_true]
 intro z M
 obtain ⟨aa,Z⟩:=List.mem_filter.1 M
 rw [Bool.not_eq_true',decide_eq_false_iff_not]
 intro he
 have:=asc_p (checkS_ok h).2.2 hx aa he
 subst this
 rw [hp] at Z
 cases Z
theorem gone_len(kd wd mo nw:Int)(xs:List Lk):(goneL kd wd mo nw xs).length+(xs.filter (inW kd wd mo nw xs)).length=xs.length:=by
 unfold goneL
 rw [List.length_map]
 generalize inW kd wd mo nw xs=P
 induction xs with
 |nil=>rfl
 |cons x xs ih=>simp only [List.filter_cons];cases P x<;>simp<;>omega
theorem gone_fit{nd kd wd mo:Int}{xs:List Lk}(h:checkS nd xs=0)(ht:0<=nw/\nw<=1048576):∀e∈goneL kd wd mo nw xs,FitOk nd e:=λe M=>by
 unfold goneL at M
 obtain ⟨x,hx,rfl⟩:=List.mem_map.1 M
 have h1:=val_uv h x (List.mem_filter.1 hx).1
 have h2:=(checkS_ok h).1
 exact ⟨by show (1:Int)<=2/\(2:Int)<=3;omega,ht,⟨by show 0<=x.u/\x.u<64;omega,λZ=>absurd Z (by show ¬(2:Int)=3;decide),λ_=>by show (0<=x.v/\x.v<64)/\x.u≠x.v;omega⟩,
  λZ=>absurd Z (by show ¬(2:Int)=1;decide),by show x.u<nd/\x.v<nd;omega,λ_=>⟨rfl,rfl,rfl⟩⟩
def minT:List Lk->Int
 |[]=>0
 |x::xs=>xs.foldl (λm y=>if y.tm<m then y.tm else m) x.tm
theorem minT_fold:∀(xs:List Lk) (m:Int),xs.foldl (λm y=>if y.tm<m then y.tm else m) m<=m/\(xs.foldl (λm y=>if y.tm<m then y.tm else m) m=m\/∃x∈xs,xs.foldl (λm y=>if y.tm<m then y.tm else m) m=x.tm)/\∀y∈xs,xs.foldl (λm y=>if y.tm<m then y.tm else m) m<=y.tm
 |[],m=>⟨Int.le_refl _,.inl rfl,λy hy=>by cases hy⟩
 |x::xs,m=>by
  rw [List.foldl_cons]
  by_cases hx:x.tm<m
  ·rw [if_pos hx]
   obtain ⟨M,Z,h3⟩:=minT_fold xs x.tm
   refine ⟨by omega,?_,λy hy=>?_⟩
   ·rcases Z with Z|⟨y,hy,Z⟩
    ·exact .inr ⟨x,List.mem_cons_self,Z⟩
    exact .inr ⟨y,List.mem_cons_of_mem _ hy,Z⟩
   rcases List.mem_cons.1 hy with rfl|hy
   ·exact M
   exact h3 y hy
  rw [if_neg hx]
  obtain ⟨M,Z,h3⟩:=minT_fold xs m
  refine ⟨M,?_,λy hy=>?_⟩
  ·rcases Z with Z|⟨y,hy,Z⟩
   ·exact .inl Z
   exact .inr ⟨y,List.mem_cons_of_mem _ hy,Z⟩
  rcases List.mem_cons.1 hy with rfl|hy
  ·omega
  exact h3 y hy
theorem minT_spec{xs:List Lk}(h:0<xs.length):(∃x∈xs,minT xs=x.tm)/\∀y∈xs,minT xs<=y.tm:=by
 cases xs with
 |nil=>cases h
 |cons x xs=>
  obtain ⟨M,Z,h3⟩:=minT_fold xs x.tm
  refine ⟨?_,λy hy=>?_⟩
  ·rcases Z with Z|⟨y,hy,Z⟩
   ·exact ⟨x,List.mem_cons_self,Z⟩
   exact ⟨y,List.mem_cons_of_mem _ hy,Z⟩
  rcases List.mem_cons.1 hy with rfl|hy
  ·exact M
  exact h3 y hy
theorem inW2(wd mo nw:Int)(xs:List Lk)(x:Lk):inW 2 wd mo nw xs x=decide (nw - x.tm<wd):=by unfold inW;rw [if_pos rfl]
def ageX(wd mo:Int)(xs:List Lk):List Lk:=xs.filter (inW 2 wd mo (minT xs+wd) xs)
theorem age_less{wd mo:Int}{xs:List Lk}(h:0<xs.length):(ageX wd mo xs).length<xs.length:=by
 unfold ageX
 obtain ⟨⟨x,Z,e⟩,_⟩:=minT_spec h
 have h1:=gone_len 2 wd mo (minT xs+wd) xs
 have M:0<(goneL 2 wd mo (minT xs+wd) xs).length:=by
  unfold goneL
  rw [List.length_map]
  refine List.length_pos_of_mem (a:=x)<|List.mem_filter.2 ⟨Z,?_⟩
  rw [inW2,decide_eq_false om];rfl
 omega
def ageL(wd mo T:Int)(xs:List Lk)(out:List Ev):List Lk×List Ev:=
 if h:0<xs.length/\minT xs+wd<=T then ageL wd mo T (ageX wd mo xs) (out++goneL 2 wd mo (minT xs+wd) xs) else (xs,out)
termination_by xs.length
decreasing_by exact age_less h.1
theorem ageL_step{wd mo T:Int}{xs:List Lk}{out:List Ev}(h:0<xs.length/\minT xs+wd<=T):ageL wd mo T xs out=ageL wd mo T (xs.filter (inW 2 wd mo (minT xs+wd) xs)) (out++goneL 2 wd mo (minT xs+wd) xs):=by
 rw [ageL,dif_pos h];rfl
theorem ageL_stop{wd mo T:Int}{xs:List Lk}{out:List Ev}(h:¬(0<xs.length/\minT xs+wd<=T)):ageL wd mo T xs out=(xs,out):=by
 rw [ageL,dif_neg h]
def windL(kd wd mo:Int)(b:List Lk×List Ev)(T:Int):List Lk×List Ev:=if kd=3 then (b.1.filter (inW kd wd mo T b.1),b.2++goneL kd wd mo T b.1) else b
def agedL(kd wd mo T:Int)(s:List Lk×List Ev):List Lk×List Ev:=if kd=2 then ageL wd mo T s.1 s.2 else s
def evStep(kd wd mo:Int)(s:List Lk×List Ev)(e:Ev):List Lk×List Ev:=windL kd wd mo (ep (agedL kd wd mo e.tm s).1 e,(agedL kd wd mo e.tm s).2++[e]) e.tm
structure SlI (nd kd wd:Int) (last:Int) (xs:List Lk):Prop where
 val:checkS nd xs=0
 tm:∀x∈xs,x.tm<=last
 al:kd=2->∀x∈xs,last<x.tm+wd
section
variable {nd kd wd mo last T:Int}{xs:List Lk}{out:List Ev}
theorem SlI.nil(h:0<=nd/\nd<=64):SlI nd kd wd last []:=⟨checkS_iff.2 ⟨h,λx Z=>(by cases Z),List.Pairwise.nil⟩,λx Z=>(by cases Z),λ_ x Z=>(by cases Z)⟩
theorem SlI.filter(h:SlI nd kd wd last xs)(P:Lk->Bool):SlI nd kd wd last (xs.filter P):=
 ⟨filter_val h.val,λx Z=>h.tm x (List.mem_filter.1 Z).1,λM x Z=>h.al M x (List.mem_filter.1 Z).1⟩
theorem SlI.later(h:SlI nd kd wd last xs)(hT:last<=T)(hk:kd=2->¬(0<xs.length/\minT xs+wd<=T)):SlI nd kd wd T xs:=
 ⟨h.val,λx Z=>by have:=h.tm x Z;omega,λh2 x Z=>by
  have h3:=hk h2
  have M:0<xs.length:=List.length_pos_of_mem Z
  have h5:=(minT_spec M).2 x Z
  omega⟩
theorem SlI.step(h:SlI nd kd wd T xs){e:Ev}(he:FitOk nd e)(ht:e.tm=T)(hw:kd=2->1<=wd):SlI nd kd wd T (ep xs e):=by
 have Z:∀x∈ep xs e,x.tm=T\/x∈xs:=λx hx=>by
  unfold ep at hx
  split at hx
  ·rcases mem_setL hx with rfl|hx
   ·exact .inl ht
   exact .inr hx
  exact .inr (List.mem_filter.1 hx).1
 refine ⟨stepL_val h.val he,λx hx=>?_,λM x hx=>?_⟩
 ·rcases Z x hx with h1|h1
  ·omega
  exact h.tm x h1
 rcases Z x hx with h1|h1
 ·have:=hw M;omega
 exact h.al M x h1
theorem SlI.first(h:SlI nd kd wd last xs)(M:kd=2)(Z:0<xs.length):last<minT xs+wd:=by
 obtain ⟨⟨x,hx,e⟩,_⟩:=minT_spec Z
 have:=h.al M x hx
 omega
end
end Go.Sl
namespace Go.Sl
theorem Lk.cmp_zero(a b:Lk):Lk.cmp a b=0↔a.p=b.p:=Pt.cmp_zero _ _
theorem setL_app{n:Lk}{ys:List Lk}:∀(xs:List Lk),(∀x∈xs,Lk.lt x n)->setL n (xs++ys)=xs++setL n ys
 |[],_=>rfl
 |x::xs,h=>by
  have Z:=h x List.mem_cons_self
  rw [List.cons_append,List.cons_append]
  conv=>lhs;unfold setL
  rw [if_neg (show ¬Lk.lt n x from λM=>Pt.lin.asymm Z M),if_neg<|λM=>by unfold Lk.lt at Z;rw [M] at Z;exact Pt.lin.irr _ Z,setL_app xs λy hy=>h y<|List.mem_cons_of_mem _ hy]
section
variable {xs:List Lk}{n:Lk}{i:Nat}{q:Bool}
theorem lk_below(h:BFound Lk.cmp xs n i q)(ha:xs.Pairwise Lk.lt):∀x∈xs.take i,Lk.lt x n:=λx hx=>by
 obtain ⟨j,hj,rfl⟩:=List.getElem_of_mem hx
 rw [List.length_take] at hj
 have M:=h.le
 have e:(xs.take i)[j]=e_ xs j:=by rw [Cy xs j om];simp
 rw [e]
 have Z:=(Lk.cmp_lt _ _).1 (h.low om)
 rw [show (i:Int) - 1=((i - 1:Nat):Int) by omega] at Z
 by_cases hq:j=i - 1
 ·rw [hq];exact Z
 exact Pt.lin.tr _ _ _ ((pairwise_at xs).1 ha j (i - 1) om om) Z
theorem setL_new(h:BFound Lk.cmp xs n i q)(ha:xs.Pairwise Lk.lt)(hq:q=false):setL n xs=xs.take i++[n]++xs.drop i:=by
 conv=>lhs;rw [←List.take_append_drop i xs]
 rw [setL_app _ (lk_below h ha),List.append_assoc]
 congr 1
 rcases Nat.lt_or_ge i xs.length with hi|hi
 ·have M:=h.is
  rw [hq] at M
  have Z:=of_decide_eq_false M.symm
  have h3:=h.high hi
  rw [Lk.cmp_lt] at h3
  rw [E2 xs i hi]
  unfold setL
  rw [Lk.cmp_zero] at Z
  have h4:(e_ xs i).p≠n.p:=λe=>Z ⟨hi,e⟩
  rw [if_pos,List.singleton_append]
  rcases Pt.lin.tri n.p (e_ xs i).p with h5|h5|h5
  ·exact h5
  ·exact absurd h5.symm h4
  exact absurd h5 h3
 rw [List.drop_eq_nil_of_le hi];rfl
theorem setL_there(h:BFound Lk.cmp xs n i q)(ha:xs.Pairwise Lk.lt)(hq:q=true):i<xs.length/\setL n xs=xs.set i n:=by
 have h1:=h.is
 rw [hq] at h1
 obtain ⟨hi,Z⟩:=of_decide_eq_true h1.symm
 refine ⟨hi,?_⟩
 rw [Lk.cmp_zero] at Z
 conv=>lhs;rw [←List.take_append_drop i xs]
 rw [setL_app _ (lk_below h ha),E2 xs i hi]
 unfold setL
 rw [if_neg (λM=>by unfold Lk.lt at M;rw [Z] at M;exact Pt.lin.irr _ M),if_pos Z,List.set_eq_take_append_cons_drop,if_pos hi]
theorem set_self(hi:i<xs.length)(h:e_ xs i=n):xs.set i n=xs:=by
 rw [←h,Cy xs i hi];exact List.set_getElem_self hi
end
section
variable {P:Lk->Bool}{xs:List Lk}{j:Nat}
def keptN(P:Lk->Bool)(xs:List Lk)(j:Nat):Nat:=((xs.take j).filter P).length
def keepL(P:Lk->Bool)(xs:List Lk)(j:Nat):List Lk:=(xs.take j).filter P++xs.drop j
theorem keepL_zero:keepL P xs 0=xs:=by simp [keepL]
theorem keptN_zero:keptN P xs 0=0:=by simp [keptN]
theorem keepL_end(h:xs.length<=j):keepL P xs j=xs.filter P:=by unfold keepL;rw [List.take_of_length_le h,List.drop_eq_nil_of_le h,List.append_nil]
theorem keepL_len:(keepL P xs j).length=keptN P xs j+(xs.length - j):=by simp [keepL,keptN]
theorem keptN_le:keptN P xs j<=j:=by
 unfold keptN
 have:=List.length_filter_le P (xs.take j)
 rw [List.length_take] at this
 omega
theorem keepL_at(h:j<xs.length):e_ (keepL P xs j) (keptN P xs j:Int)=e_ xs j:=by
 have Z:=keepL_len (P:=P) (xs:=xs) (j:=j)
 rw [Cy _ _ om,Cy xs j h]
 unfold keepL keptN
 rw [List.getElem_append_right (Nat.le_refl _)]
 simp
theorem keep_yes(h:j<xs.length)(Z:P (e_ xs j)=true):keepL P xs (j+1)=keepL P xs j/\keptN P xs (j+1)=keptN P xs j+1:=by
 unfold keepL keptN
 rw [Cl xs j h,List.filter_append,E2 xs j h]
 simp [Z]
theorem keep_no(h:j<xs.length)(Z:P (e_ xs j)=false):keptN P xs (j+1)=keptN P xs j:=by
 unfold keptN
 rw [Cl xs j h,List.filter_append]
 simp [Z]
theorem keep_copy(h:j<xs.length)(Z:P (e_ xs j)=false){q:Nat}(M:q=xs.length - j - 1) :
  (keepL P xs j).take (keptN P xs j)++((keepL P xs j).drop (keptN P xs j+1)).take q++(keepL P xs j).drop (keptN P xs j+q)=keepL P xs (j+1)++(keepL P xs j).drop (keptN P xs j+q):=by
 congr 1
 have e:keepL P xs j=(xs.take j).filter P++(e_ xs j::xs.drop (j+1)):=by unfold keepL;rw [←E2 xs j h]
 have e2:keepL P xs (j+1)=(xs.take j).filter P++xs.drop (j+1):=by
  unfold keepL
  rw [Cl xs j h,List.filter_append]
  simp [Z]
 have e3:keptN P xs j=((xs.take j).filter P).length:=rfl
 rw [e2,e,e3]
 generalize (xs.take j).filter P=A
 rw [List.take_left' rfl,show A.length+1=(A++[e_ xs j]).length by simp,show A++e_ xs j::xs.drop (j+1)=(A++[e_ xs j])++xs.drop (j+1) by simp,List.drop_left' rfl,List.take_of_length_le<|by rw [List.length_drop];omega]
theorem keep_take{zs:List Lk}{m:Nat}(Z:m=(keepL P xs (j+1)).length):(keepL P xs (j+1)++zs).take m=keepL P xs (j+1):=by
 rw [Z];exact List.take_left' rfl
end
end Go.Sl
namespace Go.Sl
section
variable {xs O:List Lk}{e:Ev}{k:Nat}{q:Bool}
theorem FitOk.chk{nd:Int}(h:FitOk nd e):checkE e=0:=Classical.byContradiction λM=>by
 have Z:=fitE_ok.2 h
 unfold fitE at Z
 rw [if_pos M] at Z
 exact M Z
end
end Go.Sl
namespace Go.Sl
theorem ageL_ind{wd mo T:Int}{P:List Lk->List Ev->Prop}(hs:∀xs out,(0<xs.length/\minT xs+wd<=T)->P xs out->P (xs.filter (inW 2 wd mo (minT xs+wd) xs)) (out++goneL 2 wd mo (minT xs+wd) xs)) :
  ∀(n:Nat) (xs:List Lk) (out:List Ev),xs.length<=n->P xs out->P (ageL wd mo T xs out).1 (ageL wd mo T xs out).2/\¬(0<(ageL wd mo T xs out).1.length/\minT (ageL wd mo T xs out).1+wd<=T)
 |n,xs,out,hn,hP=>by
  by_cases h:0<xs.length/\minT xs+wd<=T
  ·rw [ageL_step h]
   have Z:(xs.filter<|inW 2 wd mo (minT xs+wd) xs).length<xs.length:=age_less h.1
   cases n with
   |zero=>omega
   |succ n=>exact ageL_ind hs n _ _ om (hs xs out h hP)
  rw [ageL_stop h];exact ⟨hP,h⟩
theorem pw_all{α:Type}{R:α->α->Prop}(h:∀a c,R a c):∀l:List α,l.Pairwise R
 |[]=> .nil
 |x::xs=>List.pairwise_cons.2 ⟨λy _=>h x y,pw_all h xs⟩
theorem last_of:∀(K:List Lk),K≠[]->K.Pairwise Lk.lt->∃z∈K,∀y∈K,y=z\/Lk.late y z
 |[],h,_=>absurd rfl h
 |[x],_,_=>⟨x,List.mem_cons_self,λy hy=> .inl<|by simpa using hy⟩
 |x::y::ys,_,hp=>by
  obtain ⟨h1,h2⟩:=List.pairwise_cons.1 hp
  obtain ⟨z,M,hh⟩:=last_of (y::ys) (by simp) h2
  have aa:=h1 z M
  by_cases hl:Lk.late x z
  ·exact ⟨z,List.mem_cons_of_mem _ M,λw hw=>by
    rcases List.mem_cons.1 hw with rfl|hw
    ·exact .inr hl
    exact hh w hw⟩
  have Z:Lk.late z x:=by unfold Lk.late Lk.lt Pt.lt at *; omega
  refine ⟨x,List.mem_cons_self,λw hw=>?_⟩
  rcases List.mem_cons.1 hw with rfl|hw
  ·exact .inl rfl
  rcases hh w hw with rfl|hwz
  ·exact .inr Z
  right;unfold Lk.late Lk.lt Pt.lt at *; omega
theorem one_eq{z:Lk}:∀(K:List Lk),K.Pairwise Lk.lt->(K.filter λy=>decide (y=z)).length<=1
 |[],_=>by simp
 |x::xs,h=>by
  obtain ⟨h1,M⟩:=List.pairwise_cons.1 h
  rw [List.filter_cons]
  by_cases hx:x=z
  ·rw [if_pos (by simpa using hx),List.filter_eq_nil_iff.2 λy hy=>?_]
   ·simp
   intro hd
   have Z:y=z:=of_decide_eq_true hd
   have:=h1 y hy
   rw [hx,Z] at this
   exact Pt.lin.irr _ this
  rw [if_neg (by simpa using hx)];exact one_eq xs M
theorem filt_two(P R:Lk->Bool):∀K:List Lk,(∀y∈K,P y=true\/R y=true)->K.length<=(K.filter P).length+(K.filter R).length
 |[],_=>by simp
 |x::xs,h=>by
  have M:=filt_two P R xs λy Z=>h y (List.mem_cons_of_mem _ Z)
  have hx:=h x List.mem_cons_self
  simp only [List.filter_cons,List.length_cons]
  cases hP:P x<;>cases hR:R x<;>simp_all<;>omega
theorem filt_len{P:Lk->Bool}{K xs:List Lk}(h:K.Sublist xs):(K.filter P).length<=(xs.filter P).length:=(h.filter P).length_le
theorem last_len{wd mo nw:Int}{xs:List Lk}(ha:xs.Pairwise Lk.lt)(hm:0<=mo):((xs.filter (inW 3 wd mo nw xs)).length:Int)<=mo:=by
 generalize hK:xs.filter (inW 3 wd mo nw xs)=K
 have Z:K.Sublist xs:=by rw [←hK];exact List.filter_sublist
 have M:=ha.sublist Z
 by_cases h0:K=[]
 ·rw [h0];simpa using hm
 obtain ⟨z,hz,hl⟩:=last_of K h0 M
 have h1:=filt_two (λy=>decide<|Lk.late y z) (λy=>decide<|y=z) K λy hy=>by
  rcases hl y hy with h|h
  ·exact .inr<|decide_eq_true h
  exact .inl<|decide_eq_true h
 have h2:=one_eq (z:=z) K M
 have h3:=filt_len (P:=λy=>decide<|Lk.late y z) Z
 have h4:inW 3 wd mo nw xs z=true:=by rw [←hK] at hz;exact (List.mem_filter.1 hz).2
 unfold inW at h4
 rw [if_neg dc,if_pos rfl] at h4
 have h5:=of_decide_eq_true h4
 unfold rankL at h5
 omega
end Go.Sl
namespace Go.Sl
variable {α:Type}[Inhabited α]
def insG(l:List α)(j:Nat)(x:α):List α:=l.take j++x::l.drop j
def placeG(cf:α->α->Int)(l:List α)(x:α):Nat->Nat
 |0=>0
 |j+1=>if cf x (e_ l j)<0 then placeG cf l x j else j+1
def insertG(cf:α->α->Int)(l:List α)(x:α):List α:=insG l (placeG cf l x l.length) x
theorem insAt_permG(l:List α)(j:Nat)(x:α):(insG l j x).Perm (x::l):=by
 have:=List.perm_middle (a:=x) (l₁:=l.take j) (l₂:=l.drop j)
 rw [List.take_append_drop] at this;exact this
end Go.Sl
namespace Go.Sl
def evC(a b:Ev):Int:=if a.tm<b.tm then -1 else if b.tm<a.tm then 1 else 0
def edgesK(xs:List Lk):List Pt:=xs.map λl=>⟨l.u,l.v⟩
theorem evC_neg{a b:Ev}:evC a b<0↔a.tm<b.tm:=by unfold evC;repeat (first|omega|split)
end Go.Sl
namespace Go.Sl
open Go.Proofs
set_option maxRecDepth 4000
theorem checkS_tm'{nd:Int}{xs:List Lk}(h:checkS nd xs=0):∀x∈xs,0<=x.tm/\x.tm<=1048576:=λx Z=>badL_tm ((checkS_ok h).2.1 x Z)
end Go.Sl
namespace Go.Sl
theorem checkW_cases{kd wd mo:Int}(h:checkW kd wd mo=0):(kd=1/\wd=0/\mo=0)\/(kd=2/\(1<=wd/\wd<=1048576)/\mo=0)\/(kd=3/\wd=0/\0<=mo/\mo<=2016):=by
 unfold checkW at h
 split at h
 ·cases h
 split at h
 ·cases h
 omega
section
variable {nd kd wd mo:Int}{es:List Ev}
theorem edgesK_ok{X:List Lk}(h:checkS nd X=0):GrOk nd (edgesK X):=by
 have M:=checkS_iff.1 h
 refine ⟨M.1,?_,λe he=>?_⟩
 ·show (edgesK X).Pairwise Pt.lt
  unfold edgesK
  exact List.Pairwise.map _ (λa b Z=>Z) M.2.2
 obtain ⟨l,hl,rfl⟩:=List.mem_map.1 he
 exact val_uv h l hl
theorem edgesK_len(X:List Lk):(edgesK X).length=X.length:=List.length_map ..
end
end Go.Sl
