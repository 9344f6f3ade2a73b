/- A part of the proofs of statements of this seat: contracts of functions, and the plain laws that they lean on. No conditions. -/
import Derived.Test.YtfkcohmipjhfcaaGreatDoorS5
set_option linter.unusedVariables false
set_option linter.unusedSimpArgs false
set_option linter.unusedSectionVars false
open Go.Proofs.Tryz (prog)
namespace Go.Sl
open Go.Proofs
set_option maxRecDepth 4000
theorem Wrong_ok{κ:Ctx}{I:List Item}{nd kd wd mo nw:Int}{va:Value}{xs:List Lk}(hl:Sl κ I va xs):ep prog κ 131 [.agg #[e7 nd,va],.agg #[e7 kd,e7 wd,e7 mo],e7 nw] I (λr J=>r=e7 (askE nd xs kd wd mo nw)/\I=J):=by
 refine B3 hl.le λhmax=>?_
 refine Ce3 Tryz.func131 C C ?_
 refine Ah (Ge1 (Bc (cs:=[_,_]) C C C) λb1=>Ge1 (Bc (cs:=[_,_,_]) C C C) λb2=>Ga C (Af (Au (Ah (Gl3 ty31 ?_)))))
 refine Gc0 (Ao call85 C C (CheckW7_ok kd wd mo)) ?_
 refine Ga C (Af (Ah (Gm C (Gr (Be C C) (Af (A6 C (λc14=>?_) (λc14=>?_)))))))
 ·exact Ah (Gm C (Ga C (Af (Aw (Ai (A1 C C I A0 ⟨by rw [show askE nd xs kd wd mo nw=checkW kd wd mo from (by unfold askE;rw [if_pos c14])],rfl⟩))))))
 ·refine Ay (Aj (Au (Ah (Gl2 ty111 ?_))))
  refine Gc0 (Ao call129 C C (CheckS5_ok (nd:=nd) (Bh hl))) ?_
  refine Ga C (Af (Aq (S3 8 3 2 C C C) (Ah (Gm C (Gr (Be C C) (Af (A6 C (λc19=>?_) (λc19=>?_))))))))
  ·exact Ah (Gm C (Ga C (Af (Aw (Ai (A1 C C I A0 ⟨by rw [show askE nd xs kd wd mo nw=checkS nd xs from (by unfold askE;rw [if_neg c14,if_pos c19])],rfl⟩))))))
  ·refine Ay (Aj (Au (Ah (Gm C (Gr (A9 C C) (Gm C (Ba (d:=23) C (λg23=>?_) (λg23=>?_))))))))
   ·exact eb (eb (Gr (Am C C) (Af (B7 C (Ah (Ga C (Af (Aw (Ai (A1 C C I A0 ⟨by rw [show askE nd xs kd wd mo nw=9 from (by unfold askE;rw [if_neg c14,if_neg c19,if_pos (by first|omega|(simp only [*];done)|exact .inr (.inr asm)|exact .inr (.inr (List.any_eq_true.2 ⟨_,Ca (i:=(k:Int)) om om,decide_eq_true c37⟩)))])],rfl⟩))))))))))
   ·refine e9 (Ad C) (e9 (Bv C C) (Gr (Al C C) (Af (A6 C (λc26=>?_) (λc26=>?_)))))
    ·exact Ah (Ga C (Af (Aw (Ai (A1 C C I A0 ⟨by rw [show askE nd xs kd wd mo nw=9 from (by unfold askE;rw [if_neg c14,if_neg c19,if_pos (by first|omega|(simp only [*];done)|exact .inr (.inr asm)|exact .inr (.inr (List.any_eq_true.2 ⟨_,Ca (i:=(k:Int)) om om,decide_eq_true c37⟩)))])],rfl⟩)))))
    ·refine Ay (Aj (Au (Ah (Gf fld111_1 C (Gl ty109 ?_)))))
     refine Gr (Bx (α:=Lk) (xs:=xs) Ar C (Bh hl)) (Gm C (Af (Aq (S4 30 29 28 2 C C C C) (A4 (Bu (σ:=Nat) (λs=>([(2,e7 nw),(28,va),(29,e7 ((xs.length:Nat):Int)),(30,e7 ((s:Nat):Int))]:Env)) (λs=>e8 b2 [e7 kd,e7 wd,e7 mo] 31::e8 b1 [e7 nd,va] 111::I) (λs=>(s<=xs.length)/\(∀j,j<s->¬nw<(e_ xs j).tm)) (λs=>xs.length - s) 0 (show ((0:Nat)<=xs.length)/\(∀j,j<(0:Nat)->¬nw<(e_ xs j).tm) from ⟨om,all_zero⟩) (Aa C (Aa C (Aa C (Aa B9 Bj)))) (show Fit κ _ (e8 b2 [e7 kd,e7 wd,e7 mo] 31::e8 b1 [e7 nd,va] 111::I) from A5) ?_)))))
     rintro k hp
     obtain ⟨hk,hn⟩:=hp
     refine Ah (Gr (A9 C C) (Af (Au (A6 C (λc31=>?_) (λc31=>?_)))))
     ·refine Ay (Aj (Au (A4 (Ah (Gr (A3 (α:=Lk) (xs:=xs) Ar ty146 C C (Bh hl) om om) (Gr (Bp (α:=Lk) (xs:=xs) ty146 C (Bh hl) om om) (Ge1 (A8 ty146 C) λb3=>Ge0 (C5 ty146) ?_)))))))
      refine Af (Ah (Gf fld146_5 C (Gl ef ?_)))
      refine Gm C (Gr (Bv C C) (Af (A6 C (λc37=>?_) (λc37=>?_))))
      ·exact Ah (Ga C (Af (Aw (Av (Ai (Ai (Av (Ai (A1 C C I A0 ⟨by rw [show askE nd xs kd wd mo nw=9 from (by unfold askE;rw [if_neg c14,if_neg c19,if_pos (by first|omega|(simp only [*];done)|exact .inr (.inr asm)|exact .inr (.inr (List.any_eq_true.2 ⟨_,Ca (i:=(k:Int)) om om,decide_eq_true c37⟩)))])],rfl⟩)))))))))
      ·exact Ay (Ak (Aj (Ax (Gr (Rad C C) (Gm C (Bd (B2 ((k+1)) ⟨om,(Dk hn c37)⟩)))))))
     ·exact Bs (Ap (Ap (A7 (Aj (Ah (Ga C (Af (Aw (A1 C C I A0 ⟨by rw [show askE nd xs kd wd mo nw=0 from (by unfold askE;rw [if_neg c14,if_neg c19,if_neg (by rintro (h|h|h)<;>first|omega|(obtain ⟨x,hx,h2⟩:=List.any_eq_true.1 h;obtain ⟨j,hj,rfl⟩:=mem_at hx;exact hn j om (of_decide_eq_true h2)))])],rfl⟩)))))))))
variable {κ:Ctx}{I:List Item}
theorem All1_ok(x:Lk):ep prog κ 295 [.agg #[e7 (x.u),e7 (x.v),e7 (x.w),e7 (x.lb),e7 (x.sg),e7 (x.tm)]] I (λr J=>r = .bool true/\I=J):=by
 refine Ce1 Tryz.func295 C C ?_
 exact Ah (Ge1 (Bc (cs:=[_,_,_,_,_,_]) C C C) λb1=>Ga C (Af (Ah (Ga C (Af (Aw (A1 C C I A0 ⟨rfl,rfl⟩)))))))
theorem Age1_ok{b c:Nat}{nw kd wd mo:Int}(hb:BlkRd κ I b [e7 nw] 3)(hc:BlkRd κ I c [e7 kd,e7 wd,e7 mo] 31)(x:Lk):ep prog κ 297 [.agg #[e7 (x.u),e7 (x.v),e7 (x.w),e7 (x.lb),e7 (x.sg),e7 (x.tm)],.pointer (some ⟨b,0,none⟩),.pointer (some ⟨c,0,none⟩)] I (λr J=>r = .bool (decide (IntKind.i64.wrap (nw - x.tm)<wd))/\I=J):=by
 refine Ce3 Tryz.func297 C C ?_
 refine Ah (Ge1 (Bc (cs:=[_,_,_,_,_,_]) C C C) λb1=>Ga C (Af (Ah (Gr (C7 ef C (C1 hb A0) C) (Gf fld146_5 C (Gl ef ?_))))))
 exact Gr (Runs.subw C C) (Gf fld31_1 C (Gr (C7 ef C (C1 hc A0) C) (Gr (A9 C C) (Ga C (Af (Aw (A1 C C I A0 ⟨rfl,rfl⟩)))))))
theorem flk_yes{p:Lk->Bool}{xs:List Lk}{k:Nat}(hk:k<xs.length)(h:p (e_ xs k)=true):(xs.take (k+1)).filter p=(xs.take k).filter p++[e_ xs k]:=by
 rw [Cu xs k hk,List.filter_append];simp [h]
theorem flk_no{p:Lk->Bool}{xs:List Lk}{k:Nat}(hk:k<xs.length)(h:p (e_ xs k)=false):(xs.take (k+1)).filter p=(xs.take k).filter p:=by
 rw [Cu xs k hk,List.filter_append];simp [h]
theorem Rule1_ok{nd kd wd mo nw:Int}{va:Value} :
    ep prog κ 294 [.agg #[e7 nd,va],.agg #[e7 kd,e7 wd,e7 mo],e7 nw] I (λr J=>r = .func (.func 295) #[] #[]/\I=J):=by
 refine Ce3 Tryz.func294 C C ?_
 exact Ah (Ge1 (Bc (cs:=[_,_]) C C C) λb1=>Ge1 (Bc (cs:=[_,_,_]) C C C) λb2=>Ga C (Af (Ah (Ga C (Af (Aw (A1 C C I A0 ⟨rfl,rfl⟩)))))))
theorem Rule2_ok{nd kd wd mo nw:Int}{va:Value} :
    ep prog κ 296 [.agg #[e7 nd,va],.agg #[e7 kd,e7 wd,e7 mo],e7 nw] I (λr J=>∃b c,r = .func (.func 297) #[] #[.pointer (some ⟨b,0,none⟩),.pointer (some ⟨c,0,none⟩)]/\J=e8 b [e7 nw] 3::e8 c [e7 kd,e7 wd,e7 mo] 31::I):=by
 refine Ce3 Tryz.func296 C C ?_
 exact Ah (Ge1 (Bc (cs:=[_,_]) C C C) λb1=>Ge1 (Bc (cs:=[_,_,_]) C C C) λb2=>Ge1 (Bc (cs:=[_]) C C C) λb3=>Ga C (Af (Ah (Gr (D8 C C) (Ga C (Af (Aw (A1 C C (e8 b3 [e7 nw] 3::e8 b2 [e7 kd,e7 wd,e7 mo] 31::I) A5 ⟨b3,b2,rfl,rfl⟩))))))))
theorem Rules_ok  :
    ep prog κ 253 [] I (λr J=>∃m,r = .map (some m)/\J=mp m [({key:=e7 1,val:= .func (.func 294) #[] #[],born:=0}:MapEntry),({key:=e7 2,val:= .func (.func 296) #[] #[],born:=1}:MapEntry),({key:=e7 3,val:= .func (.func 298) #[] #[],born:=2}:MapEntry)] 3::I):=by
 refine Ce0 Tryz.func253 C C ?_
 refine Ah (Ga C (Af (Ah (Ge1 (Eff.makeMap C) λmr1=>?_))))
 refine Ge0 (Eff.insertK D0 B6 C C C C C am) ?_
 refine Ge0 (Eff.insertK D0 B6 C C C C C am) ?_
 refine Ge0 (Eff.insertK D0 B6 C C C C C am) ?_
 exact Gm C (Ga C (Af (Aw (A1 C C (mp mr1 [({key:=e7 1,val:= .func (.func 294) #[] #[],born:=0}:MapEntry),({key:=e7 2,val:= .func (.func 296) #[] #[],born:=1}:MapEntry),({key:=e7 3,val:= .func (.func 298) #[] #[],born:=2}:MapEntry)] 3::I) A5 ⟨mr1,rfl,rfl⟩))))
variable {κ:Ctx}{I:List Item}
def Lk.lcmp(a c:Lk):Int:=orL [cmpI c.tm a.tm,Lk.cmp c a]
def Lk.late(a c:Lk):Prop:=c.tm<a.tm\/(a.tm=c.tm/\Lk.lt c a)
instance:DecidableRel Lk.late:=λa c=>by unfold Lk.late;infer_instance
theorem Lk.lcmp_lt(a c:Lk):Lk.lcmp a c<0↔Lk.late a c:=by
 unfold Lk.lcmp Lk.late
 rw [←Lk.cmp_lt]
 simp only [orL,cmpI]
 generalize Lk.cmp c a=z
 (repeat' split)<;>omega
def SortedK(xs ys:List Lk):Prop:=ys.Perm xs/\ys.Pairwise λa b=>¬Lk.late b a
open Go.Proofs Go.Shelf Go.Sort in
theorem swo_lk:SWO (ltOf Lk.lcmp) where
 irrefl x:=decide_eq_false λh=>by rw [Lk.lcmp_lt] at h;unfold Lk.late Lk.lt Pt.lt Lk.p at h;simp only at h;omega
 trans x y z h1 h2:=decide_eq_true (by
  have a:=of_decide_eq_true h1
  have b:=of_decide_eq_true h2
  rw [Lk.lcmp_lt] at a b ⊢
  unfold Lk.late Lk.lt Pt.lt Lk.p at a b ⊢
  simp only at a b ⊢
  omega)
 ntrans x y z h1 h2:=decide_eq_false λh=>by
  have a:=of_decide_eq_false h1
  have b:=of_decide_eq_false h2
  rw [Lk.lcmp_lt] at a b h
  unfold Lk.late Lk.lt Pt.lt Lk.p at a b h
  simp only at a b h
  omega
theorem CloneL{a:Option Addr}{c:Nat}{xs:List Lk}(hl:Sl κ I (.slice a xs.length c) xs)(hb:xs.length<=1000000000):ep prog κ 216 [.slice a xs.length c] I (λr J=>∃a' c',r = .slice a' xs.length c'/\J=vc 146 (.slice a' xs.length c') xs::I):=by
 refine B3 (p:=a.isNone=true->xs=[]/\c=0) (λw hs hn=>hl.isNone w hs hn) λhnone=>?_
 refine Ce1 Tryz.func216 C C ?_
 refine Ah (Ga C (Af (Au (Ah (Gm C (Gr (Runs.eqnil Ar C C) (Af (Ei C (λc4=>?_) (λc4=>?_)))))))))
 ·refine Ah (Ga C (Af (Aw (Ai ?_))))
  obtain ⟨hx0,_⟩:=hnone c4
  subst hx0
  exact A1 C C (vc 146 (.slice none ([]:List Lk).length 0) ([]:List Lk)::I) (Bt _ _) ⟨none,0,rfl,rfl⟩
 ·refine Ay (Aj (Ah (Ge1 (Eff.bs0 (α:=Lk) Ar ty146 C) λad1=>?_)))
  refine Gm C (Ge2 (B1 (α:=Lk) (e:=146) (xs:=([]:List Lk)) (ys:=xs) Ar ty146 C C C mm (Bh hl) (by simp only [List.length_nil];omega) dc C (λ_ _=>am)) λad2 cp3=>?_)
  exact Ga C (Af (Aw (A1 C C (vc 146 (.slice ad2 xs.length cp3) xs::I) A5 ⟨ad2,cp3,rfl,rfl⟩)))
theorem LastCmp_ok(a c:Lk):ep prog κ 322 [.agg #[e7 (a.u),e7 (a.v),e7 (a.w),e7 (a.lb),e7 (a.sg),e7 (a.tm)],.agg #[e7 (c.u),e7 (c.v),e7 (c.w),e7 (c.lb),e7 (c.sg),e7 (c.tm)]] I (λr J=>r=e7 (Lk.lcmp a c)/\I=J):=by
 refine Ce2 Tryz.func322 C C ?_
 refine Ah (Ge1 (Bc (cs:=[_,_,_,_,_,_]) C C C) λb1=>Ge1 (Bc (cs:=[_,_,_,_,_,_]) C C C) λb2=>Ga C (Af (Au (Bl mixed (Br (e8 b2 [e7 (c.u),e7 (c.v),e7 (c.w),e7 (c.lb),e7 (c.sg),e7 (c.tm)] 146::e8 b1 [e7 (a.u),e7 (a.v),e7 (a.w),e7 (a.lb),e7 (a.sg),e7 (a.tm)] 146::I) 10 (Dr 0 C (Ab fld146_5 C) (Dr 1 C (As ef) ?_)))))))
 refine Dr 2 C (Ab fld146_5 C) (Dr 3 C (As ef) ?_)
 refine Dr 5 C (Bq (vs:=[_,_,_,_,_,_]) ty146) ?_
 refine Dr 6 C (Bq (vs:=[_,_,_,_,_,_]) ty146) ?_
 refine Ds1 4 (Sc0 C (Ao call225 C C (Compare_ok c.tm a.tm)) ?_)
 refine Ds1 7 (Sc0 C (Ao call255 C C (OrderL_ok c a)) ?_)
 refine Ds1 8 (Se1 C (B0 (α:=Int) (cs:=[_,_]) (xs:=[cmpI c.tm a.tm,Lk.cmp c a]) Ac ef C C dc dc C C C C) λad3=>?_)
 refine Ds1 9 (Sc0 C (Ao call224 C C (Or_ok Bg)) ?_)
 refine Dg kr ?_
 refine A.read (i:=10) kr C (Cp C) C C (Bb C) ?_
 refine Dh kr ?_
 exact Aj (Aq (S1 4 C) (Aw (A1 C C I A0 ⟨rfl,rfl⟩)))
open Go.Proofs Go.Shelf Go.Sort in
theorem SortK_ok{κ:Ctx}{I:List Item}{a:Option Addr}{c:Nat}{xs:List Lk}(hsz:xs.length<1000000000):ep prog κ 321 [.slice a xs.length c,.func (.func 322) #[] #[]] (vc 146 (.slice a xs.length c) xs::I) λr J=>∃ys:List Lk,(r = .tuple #[]/\SortedK xs ys/\ys.length=xs.length)/\J=[]++vc 146 (.slice a xs.length c) ys::I:=
 (sort_any (α:=Lk) (ρ:=Tryz.sort321_ren) Tryz.sort321 Tryz.isAgg146 Tryz.sizeOf146 Lk.lcmp swo_lk 322 #[] (enters_of Tryz.func322 (by kernel_rfl) rfl) (λx y W=>lays_of (LastCmp_ok x y)) om).mono λr J ⟨ys,⟨h1,h2,h3⟩,h4⟩=>
  ⟨ys,⟨h1,⟨h2,h3.imp fun {a b} h=>by rw [←Lk.lcmp_lt];exact of_decide_eq_false h⟩,h2.length_eq⟩,by rw [h4,h2.length_eq]⟩
theorem SortK_at{F:Item->List Item}{a:Option Addr}{n c:Nat}{xs:List Lk}(hat:AtF I (vc 146 (.slice a n c) xs) F)(hn:xs.length=n)(hsz:xs.length<1000000000):ep prog κ 321 [.slice a n c,.func (.func 322) #[] #[]] I λr J=>∃ys:List Lk,(r = .tuple #[]/\SortedK xs ys/\ys.length=n)/\J=[]++F (vc 146 (.slice a n c) ys):=
 D4 (Z:=λ_=>[]) (X:=λys:List Lk=>vc 146 (.slice a n c) ys) (Post:=λr ys=>r = .tuple #[]/\SortedK xs ys/\ys.length=n) hat λJ _ _=>by subst hn;exact SortK_ok hsz
theorem Last_ok{nd mo:Int}{a0:Option Addr}{c0:Nat}{xs:List Lk}(hl:Sl κ I (.slice a0 xs.length c0) xs)(h0:0<=mo)(hsz:xs.length<=1000000):ep prog κ 299 [.agg #[e7 nd,.slice a0 xs.length c0],e7 mo] I (λr J=>∃(a:Option Addr) (c:Nat) (ys:List Lk) (m:Nat),r = .slice a (List.take m ys).length c/\(SortedK xs ys/\ys.length=xs.length/\(m:Int)<=mo/\m<=xs.length/\((m:Int)=mo\/m=xs.length))/\J=vc 146 (.slice a xs.length c) ys::I):=by
 refine Ce2 Tryz.func299 C C ?_
 refine Ah (Ge1 (Bc (cs:=[_,_]) C C C) λb1=>Ga C (Af (Ah (Gf fld111_1 C (Gl ty109 ?_)))))
 refine G.e (Ao call216 C C (CloneL (xs:=xs) (Bh hl) om)) ?_
 rintro _ _ ⟨_,_,⟨ad2,cp3,rfl,rfl⟩,rfl,rfl⟩
 refine Ga C (Af (Ah (Gm C (G.e (Ao call321 C C (SortK_at (by repeat (first|exact AtF.head _ _|apply AtF.tail)) C om)) ?_))))
 rintro _ _ ⟨_,_,⟨ys4,⟨rfl,hsys4,hlys4⟩,rfl⟩,rfl,rfl⟩
 show G prog κ _ _ _ _ ([(10,.tuple #[]),(9,.slice ad2 xs.length cp3),(5,.slice ad2 xs.length cp3),(8,.slice ad2 xs.length cp3),(7,.slice a0 xs.length c0),(6,.pointer (some ⟨b1,1,none⟩)),(4,.slice none 0 0),(2,.pointer (some ⟨b1,0,none⟩)),(0,.agg #[e7 nd,.slice a0 xs.length c0]),(1,e7 mo)]:Env) (vc 146 (.slice ad2 xs.length cp3) (ys4)::e8 b1 [e7 nd,.slice a0 xs.length c0] 111::I)
 refine Af (Ah (Gm C (Gm C (Gm C (Gr (Bm Ar C) (Gr (E1 C C) (Gr (Runs.hi (α:=Lk) (xs:=ys4) (h:=(if ((xs.length:Nat):Int)<mo then ((xs.length:Nat):Int) else mo).toNat) Ar ty146 C C om Bg (by split<;>omega)) (Ga C (Af (Aq (S1 4 C) (Aw ?_)))))))))))
 have hmn:(((((if ((xs.length:Nat):Int)<mo then ((xs.length:Nat):Int) else mo).toNat)):Nat):Int)<=mo/\(((if ((xs.length:Nat):Int)<mo then ((xs.length:Nat):Int) else mo).toNat))<=xs.length/\((((((if ((xs.length:Nat):Int)<mo then ((xs.length:Nat):Int) else mo).toNat)):Nat):Int)=mo\/(((if ((xs.length:Nat):Int)<mo then ((xs.length:Nat):Int) else mo).toNat))=xs.length):=by split<;>omega
 exact A1 C C (vc 146 (.slice ad2 xs.length cp3) (ys4)::I) A5 ⟨ad2,cp3,ys4,((if ((xs.length:Nat):Int)<mo then ((xs.length:Nat):Int) else mo).toNat),rfl,⟨hsys4,hlys4,hmn⟩,rfl⟩
theorem IndexL_ok{v:Value}{xs:List Lk}(hl:Sl κ I v xs)(x:Lk):ep prog κ 323 [v,.agg #[e7 (x.u),e7 (x.v),e7 (x.w),e7 (x.lb),e7 (x.sg),e7 (x.tm)]] I (λr J=>∃y:Int,r=e7 y/\(0<=y↔x∈xs)/\I=J):=by
 refine B3 hl.le λhmax=>?_
 refine Ce2 Tryz.func323 C C ?_
 refine Ah (Ge1 (Bc (cs:=[_,_,_,_,_,_]) C C C) λb1=>Ga C (Af (Au (Ah (Gm C (Gr (Bx (α:=Lk) (xs:=xs) Ar C (Bh hl)) (Gm C (Af (A4 (Bu (σ:=Nat) (λs=>([(0,v),(3,.pointer (some ⟨b1,0,none⟩)),(7,e7 ((xs.length:Nat):Int)),(8,e7 ((s:Nat):Int))]:Env)) (λs=>e8 b1 [e7 (x.u),e7 (x.v),e7 (x.w),e7 (x.lb),e7 (x.sg),e7 (x.tm)] 146::I) (λs=>(s<=xs.length)/\(∀j,j<s->e_ xs j≠x)) (λs=>xs.length - s) 0 (show ((0:Nat)<=xs.length)/\(∀j,j<(0:Nat)->e_ xs j≠x) from ⟨om,all_zero⟩) (Aa C (Aa C (Aa C (Aa B9 Bj)))) (show Fit κ _ (e8 b1 [e7 (x.u),e7 (x.v),e7 (x.w),e7 (x.lb),e7 (x.sg),e7 (x.tm)] 146::I) from A5) ?_))))))))))
 rintro k hp
 obtain ⟨hk,hn⟩:=hp
 refine Ah (Gr (A9 C C) (Af (Au (A6 C (λc9=>?_) (λc9=>?_)))))
 ·refine Ay (Aj (Au (A4 (Ah (Gm C (Ga C (Af (Au (Bl mixed (Br (e8 b1 [e7 (x.u),e7 (x.v),e7 (x.w),e7 (x.lb),e7 (x.sg),e7 (x.tm)] 146::I) 6 (Dr 0 C (Bq (vs:=[_,_,_,_,_,_]) ty146) ?_)))))))))))
  refine Dr 1 C (Ad C) (Dr 2 C (Ad C) (Dr 3 C (A3 (α:=Lk) (xs:=xs) Ar ty146 C C (Bh hl) om om) (Dr 4 C (Bp (α:=Lk) (xs:=xs) ty146 C (Bh hl) om om) (Dr 5 C (Runs.eqlT (α:=Lk) (a:=x) (b:=(e_ xs k)) eqt146 C C) (Dz (Aj (A6 C (λc16=>?_) (λc16=>?_))))))))
  ·refine Ah (Gm C (Ga C (Af (Aq (S1 4 C) (Aw (Av (Ai (Ai (Av (Ai ?_))))))))))
   have hm:x∈xs:=by rw [show x=e_ xs k from c16];exact Ca om om
   exact A1 C C I A0 ⟨_,rfl,⟨λ_=>hm,λ_=>by omega⟩,rfl⟩
  ·exact Ay (Ak (Aj (Ax (Gr (Rad C C) (Gm C (Bd (B2 ((k+1)) ⟨om,(Dk hn (λe=>c16 e.symm))⟩)))))))
 ·refine Bs (Ap (Ap (A7 (Aj (Ah (Ga C (Af (Aw ?_))))))))
  have hm:x∉xs:=not_mem_at hn om
  exact A1 C C I A0 ⟨_,rfl,⟨λh=>absurd h dc,λh=>absurd h hm⟩,rfl⟩
theorem ContainsL_ok{v:Value}{xs:List Lk}(hl:Sl κ I v xs)(x:Lk):ep prog κ 301 [v,.agg #[e7 (x.u),e7 (x.v),e7 (x.w),e7 (x.lb),e7 (x.sg),e7 (x.tm)]] I (λr J=>r = .bool (decide (x∈xs))/\I=J):=by
 refine Ce2 Tryz.func301 C C ?_
 refine Ah (Ge1 (Bc (cs:=[_,_,_,_,_,_]) C C C) λb1=>Ga C (Af (Ah (Gm C (Gl6 ty146 ?_)))))
 refine G.e (Ao call323 C C (IndexL_ok (Bh hl) x)) ?_
 rintro _ _ ⟨_,_,⟨y2,rfl,hy2,rfl⟩,rfl,rfl⟩
 exact Gr (B8 C C) (Ga C (Af (Aw (A1 C C I A0 ⟨by rw [decide_eq_decide.2 asm],rfl⟩))))
theorem Last1_ok{b:Nat}{v:Value}{zs:List Lk}(hb:BlkRd κ I b [v] 109)(hz:Sl κ I v zs)(x:Lk):ep prog κ 300 [.agg #[e7 (x.u),e7 (x.v),e7 (x.w),e7 (x.lb),e7 (x.sg),e7 (x.tm)],.pointer (some ⟨b,0,none⟩)] I (λr J=>r = .bool (decide (x∈zs))/\I=J):=by
 refine Ce2 Tryz.func300 C C ?_
 refine Ah (Ge1 (Bc (cs:=[_,_,_,_,_,_]) C C C) λb1=>Ga C (Af (Ah (Gr (C7 ty109 C (C1 hb A0) C) (Gl6 ty146 ?_)))))
 refine Gc0 (Ao call301 C C (ContainsL_ok (Bh hz) x)) ?_
 exact Ga C (Af (Aw (A1 C C I A0 ⟨rfl,rfl⟩)))
theorem Rule3_ok{nd kd wd mo nw:Int}{a0:Option Addr}{c0:Nat}{xs:List Lk}(hl:Sl κ I (.slice a0 xs.length c0) xs)(h0:0<=mo)(hsz:xs.length<=1000000):ep prog κ 298 [.agg #[e7 nd,.slice a0 xs.length c0],.agg #[e7 kd,e7 wd,e7 mo],e7 nw] I (λr J=>∃(b:Nat) (a:Option Addr) (c:Nat) (ys:List Lk) (m:Nat),r = .func (.func 300) #[] #[.pointer (some ⟨b,0,none⟩)]/\(SortedK xs ys/\ys.length=xs.length/\(m:Int)<=mo/\m<=xs.length/\((m:Int)=mo\/m=xs.length))/\J=e8 b [.slice a (List.take m ys).length c] 109::vc 146 (.slice a xs.length c) ys::I):=by
 refine Ce3 Tryz.func298 C C ?_
 refine Ah (Ge1 (Bc (cs:=[_,_]) C C C) λb1=>Ge1 (Bc (cs:=[_,_,_]) C C C) λb2=>Ga C (Af (Ah (Gl2 ty111 ?_))))
 refine Gf fld31_2 C (Gl ef ?_)
 refine G.e (Ao call299 C C (Last_ok (nd:=nd) (Bh hl) h0 om)) ?_
 rintro _ _ ⟨_,_,⟨ad3,cp4,ys5,mm6,rfl,hzys5,rfl⟩,rfl,rfl⟩
 refine Ge1 (A8 ty109 C) λb7=>Ge0 (Eff.st (cs:=[_]) (vs:=[_]) (cs':=[_]) ty109) ?_
 exact Af (Ah (Gr (D8 C C) (Ga C (Af (Aw (A1 C C (e8 b7 [.slice ad3 (List.take mm6 ys5).length cp4] 109::vc 146 (.slice ad3 xs.length cp4) (ys5)::I) A5 ⟨b7,ad3,cp4,ys5,mm6,rfl,hzys5,rfl⟩))))))
end Go.Sl
/- Windows: what is present. The plain laws. No Go. No conditions. -/
namespace Go.Sl
theorem scan0{n:Int}:∀(xs:List Lk) (q:Lk),scanL (badL n) Lk.lt (some q) xs=0->(∀x∈xs,badL n x=0)/\(q::xs).Pairwise Lk.lt
 |[],q,_=>by simp
 |p::ps,q,h=>by
  simp only [scanL] at h
  by_cases hb:badL n p=0
  ·rw [if_neg (by simp [hb])] at h
   by_cases hl:Lk.lt q p
   ·rw [if_pos hl] at h
    obtain ⟨h1,h2⟩:=scan0 ps p h
    refine ⟨λx hx=>?_,List.pairwise_cons.2 ⟨λx hx=>?_,h2⟩⟩
    ·rcases List.mem_cons.1 hx with rfl|hx
     ·exact hb
     ·exact h1 x hx
    ·rcases List.mem_cons.1 hx with rfl|hx
     ·exact hl
     ·exact Pt.lin.tr _ _ _ hl ((List.pairwise_cons.1 h2).1 x hx)
   ·rw [if_neg hl] at h;cases h
  ·rw [if_pos hb] at h;exact absurd h hb
theorem checkS_ok{n:Int}{xs:List Lk}(h:checkS n xs=0):(0<=n/\n<=64)/\(∀x∈xs,badL n x=0)/\xs.Pairwise Lk.lt:=by
 unfold checkS at h
 by_cases hn:n<0\/64<n
 ·rw [if_pos hn] at h;cases h
 ·rw [if_neg hn] at h
  refine ⟨by omega,?_⟩
  cases xs with
  |nil=>exact ⟨(λx hx=>by cases hx),List.Pairwise.nil⟩
  |cons p ps=>
   simp only [scanL] at h
   by_cases hb:badL n p=0
   ·rw [if_neg (by simp [hb])] at h
    obtain ⟨h1,h2⟩:=scan0 ps p h
    exact ⟨λx hx=>by
     rcases List.mem_cons.1 hx with rfl|hx
     ·exact hb
     ·exact h1 x hx,h2⟩
   ·rw [if_pos hb] at h;exact absurd h hb
theorem badL_tm{n:Int}{l:Lk}(h:badL n l=0):0<=l.tm/\l.tm<=1048576:=by
 unfold badL at h
 split at h
 ·cases h
 ·split at h
  ·cases h
  ·split at h
   ·cases h
   ·omega
structure AskOk (nd:Int) (xs:List Lk) (kd wd mo nw:Int):Prop where
 kind:1<=kd/\kd<=3
 width:kd=2->1<=wd/\wd<=1048576
 most:kd=3->0<=mo/\mo<=2016
 nodes:0<=nd/\nd<=64
 asc:xs.Pairwise Lk.lt
 now:0<=nw/\nw<=1048576
 tm:∀x∈xs,0<=x.tm/\x.tm<=nw
theorem askE_ok{nd:Int}{xs:List Lk}{kd wd mo nw:Int}(h:askE nd xs kd wd mo nw=0):AskOk nd xs kd wd mo nw:=by
 unfold askE at h
 by_cases h1:checkW kd wd mo=0
 ·rw [if_neg (by simp [h1])] at h
  by_cases h2:checkS nd xs=0
  ·rw [if_neg (by simp [h2])] at h
   obtain ⟨h3,h4,h5⟩:=checkS_ok h2
   split at h
   ·cases h
   ·rename_i h6
    have hw:(1<=kd/\kd<=3)/\(kd=2->1<=wd/\wd<=1048576)/\(kd=3->0<=mo/\mo<=2016):=by
     unfold checkW at h1
     split at h1
     ·cases h1
     ·split at h1
      ·cases h1
      ·omega
    refine ⟨hw.1,hw.2.1,hw.2.2,h3,h5,by omega,λx hx=>?_⟩
    have h7:=badL_tm (h4 x hx)
    refine ⟨h7.1,?_⟩
    by_cases h8:nw<x.tm
    ·exact absurd (.inr (.inr (List.any_eq_true.2 ⟨x,hx,decide_eq_true h8⟩))) h6
    ·omega
  ·rw [if_pos h2] at h;exact absurd h h2
 ·rw [if_pos h1] at h;exact absurd h h1
def rankL(xs:List Lk)(x:Lk):Nat:=(xs.filter λy=>decide (Lk.late y x)).length
def inW(kd wd mo nw:Int)(xs:List Lk)(x:Lk):Bool:=if kd=2 then decide (nw - x.tm<wd) else if kd=3 then decide ((rankL xs x:Int)<mo) else true
theorem late_irr(x:Lk):¬Lk.late x x:=by unfold Lk.late Lk.lt Pt.lt;omega
theorem late_asymm{x y:Lk}(h:Lk.late x y):¬Lk.late y x:=by unfold Lk.late Lk.lt Pt.lt at *; omega
theorem rank_at:∀(ys:List Lk) (i:Nat) (hi:i<ys.length),ys.Pairwise Lk.late->rankL ys ys[i]=i
 |[],i,hi,_=>absurd hi (by simp)
 |y::ys,0,hi,hp=>by
  obtain ⟨h1,h2⟩:=List.pairwise_cons.1 hp
  unfold rankL
  rw [List.filter_eq_nil_iff.2 λz hz=>?_]
  ·rfl
  ·simp only [List.getElem_cons_zero,decide_eq_true_eq]
   rcases List.mem_cons.1 hz with rfl|hz
   ·exact late_irr _
   ·exact late_asymm (h1 z hz)
 |y::ys,i+1,hi,hp=>by
  obtain ⟨h1,h2⟩:=List.pairwise_cons.1 hp
  have hi':i<ys.length:=by simpa using hi
  have ih:=rank_at ys i hi' h2
  unfold rankL at ih ⊢
  rw [List.getElem_cons_succ,List.filter_cons,if_pos (decide_eq_true (h1 _ (List.getElem_mem hi'))),List.length_cons,ih]
theorem sortedK_late{xs ys:List Lk}(h:SortedK xs ys)(ha:xs.Pairwise Lk.lt):ys.Pairwise Lk.late:=by
 have h1:xs.Pairwise λa b=>Lk.late a b\/Lk.late b a:=ha.imp fun {a b} hab=>by unfold Lk.late Lk.lt Pt.lt at *; omega
 have h2:ys.Pairwise λa b=>Lk.late a b\/Lk.late b a:=(h.1.pairwise_iff fun {x y} hxy=>hxy.symm).2 h1
 exact (h2.and h.2).imp fun {a b} hab=>hab.1.resolve_right hab.2
theorem take_rank{xs ys:List Lk}(h:SortedK xs ys)(ha:xs.Pairwise Lk.lt){x:Lk}(hx:x∈xs)(m:Nat):x∈ys.take m↔rankL xs x<m:=by
 have hp:=sortedK_late h ha
 have hr:∀z,rankL xs z=rankL ys z:=λz=>by unfold rankL;exact ((h.1.filter _).length_eq).symm
 constructor
 ·intro hm
  obtain ⟨j,hj,he⟩:=List.mem_take_iff_getElem.1 hm
  rw [hr,←he,rank_at ys j om hp];omega
 ·intro hm
  obtain ⟨j,hj,he⟩:=List.getElem_of_mem (h.1.mem_iff.2 hx)
  rw [hr,←he,rank_at ys j hj hp] at hm
  exact List.mem_take_iff_getElem.2 ⟨j,by omega,he⟩
theorem inW_all{kd wd mo nw:Int}{xs:List Lk}(hk:kd=1):(xs.filter λ_=>true)=xs.filter (inW kd wd mo nw xs):=
 List.filter_congr λx hx=>by unfold inW;rw [if_neg om,if_neg om]
theorem inW_age{nd kd wd mo nw:Int}{xs:List Lk}(h:AskOk nd xs kd wd mo nw)(hk:kd=2):(xs.filter λx=>decide (IntKind.i64.wrap (nw - x.tm)<wd))=xs.filter (inW kd wd mo nw xs):=
 List.filter_congr λx hx=>by
  have h1:=h.tm x hx
  have h2:=h.now
  unfold inW;rw [if_pos hk,InR.wrap (by unfold InR;omega)]
theorem inW_last{nd kd wd mo nw:Int}{xs ys:List Lk}{m:Nat}(h:AskOk nd xs kd wd mo nw)(hk:kd=3)(hs:SortedK xs ys/\ys.length=xs.length/\(m:Int)<=mo/\m<=xs.length/\((m:Int)=mo\/m=xs.length)) :
  (xs.filter λx=>decide (x∈ys.take m))=xs.filter (inW kd wd mo nw xs):=
 List.filter_congr λx hx=>by
  unfold inW;rw [if_neg om,if_pos hk,decide_eq_decide,take_rank hs.1 h.asc hx]
  have hlt:rankL xs x<xs.length:=by
   have h1:=List.length_filter_le (λy=>decide (Lk.late y x)) xs
   obtain ⟨j,hj,he⟩:=List.getElem_of_mem (hs.1.1.mem_iff.2 hx)
   have h2:rankL xs x=j:=by
    have:rankL xs x=rankL ys x:=by unfold rankL;exact ((hs.1.1.filter _).length_eq).symm
    rw [this,←he,rank_at ys j hj (sortedK_late hs.1 h.asc)]
   omega
  omega
theorem late_ix{xs:List Lk}(ha:xs.Pairwise Lk.lt){i j:Nat}(hi:i<xs.length)(hj:j<xs.length):Lk.late (e_ xs j) (e_ xs i)↔((e_ xs i).tm<(e_ xs j).tm\/((e_ xs j).tm=(e_ xs i).tm/\i<j)):=by
 unfold Lk.late
 have key:Lk.lt (e_ xs i) (e_ xs j)↔i<j:=by
  constructor
  ·intro h
   rcases Nat.lt_trichotomy i j with h1|h1|h1
   ·exact h1
   ·subst h1;exact absurd h (Pt.lin.irr _)
   ·exact absurd (Pt.lin.tr _ _ _ h ((pairwise_at xs).1 ha j i h1 hi)) (Pt.lin.irr _)
  ·intro h;exact (pairwise_at xs).1 ha i j h hj
 rw [key]
end Go.Sl
namespace Go.Sl
open Go.Proofs
set_option maxRecDepth 4000
variable {κ:Ctx}{I:List Item}
theorem In7_ok{nd kd wd mo nw:Int}{va:Value}{xs:List Lk}(hl:Sl κ I va xs){i:Nat}(hi:i<xs.length)(hA:AskOk nd xs kd wd mo nw):ep prog κ 132 [.agg #[e7 nd,va],.agg #[e7 kd,e7 wd,e7 mo],e7 nw,e7 ((i:Int))] I (λr J=>r = .bool (inW kd wd mo nw xs (e_ xs i))/\I=J):=by
 refine B3 hl.le λhmax=>?_
 have hti:=hA.tm _ (Ca (xs:=xs) (i:=(i:Int)) om om)
 have hnow:=hA.now
 refine Ce4 Tryz.func132 C C ?_
 refine Ah (Ge1 (Bc (cs:=[_,_]) C C C) λb1=>Ge1 (Bc (cs:=[_,_,_]) C C C) λb2=>Ga C (Af (Au (Ah (Gf fld31_0 C (Gl ef ?_))))))
 refine Af (A4 (Ah (Gr (Bi C C) (Ga C (Af (A6 C (λc14=>?_) (λc14=>?_)))))))
 ·refine Au (Bl mixed (Br (e8 b2 [e7 kd,e7 wd,e7 mo] 31::e8 b1 [e7 nd,va] 111::I) 12 (Dr 0 C (Ad C) (Dr 1 C (Ab fld111_1 C) (Dr 2 C (As ty109) ?_)))))
  refine Dr 3 C (Ad C) (Dr 4 C (A3 (α:=Lk) (xs:=xs) Ar ty146 C C (Bh hl) om om) (Dr 5 C (Dc (α:=Lk) (xs:=xs) fld146_5 C (Bh hl) om) (Dr 6 C (De (α:=Lk) (xs:=xs) (u:=e7 ((e_ xs i).tm)) ef C (Bh hl) om om C) (Dr 7 C (Rsu C C) (Dr 8 C (Ab fld31_1 C) (Dr 9 C (As ef) ?_))))))
  exact Dr 10 C (A9 C C) (Dr 11 C (Bb C) (Dz (Aj (Aq (S1 8 C) (Aw (Av (Ai (A1 C C I A0 ⟨by unfold inW;rw [if_pos c14],rfl⟩))))))))
 ·refine Ah (Gr (Bi C C) (Ga C (Af (A6 C (λc27=>?_) (λc27=>?_)))))
  ·refine Ah (Ga C (Af (Aq (S4 9 5 4 3 C C C C) (Au (Ah (Gf fld111_1 C (Gl ty109 ?_)))))))
   refine Gr (Bx (α:=Lk) (xs:=xs) Ar C (Bh hl)) (Gm C (Af (A4 (Bu (σ:=Nat×Int) (λs=>([(3,e7 ((i:Int))),(4,.pointer (some ⟨b1,0,none⟩)),(5,.pointer (some ⟨b2,0,none⟩)),(9,e7 (s.2)),(30,va),(31,e7 ((xs.length:Nat):Int)),(32,e7 ((s.1:Nat):Int))]:Env)) (λs=>e8 b2 [e7 kd,e7 wd,e7 mo] 31::e8 b1 [e7 nd,va] 111::I) (λs=>(s.1<=xs.length)/\(s.2=((((xs.take s.1).filter (λy=>decide (Lk.late y (e_ xs i)))).length:Nat):Int))) (λs=>xs.length - s.1) (0,0) (show ((0:Nat)<=xs.length)/\((0:Int)=((((xs.take (0:Nat)).filter (λy=>decide (Lk.late y (e_ xs i)))).length:Nat):Int)) from ⟨om,(by simp)⟩) (Aa C (Aa C (Aa C (Aa B9 (Aa C (Aa C (Aa B9 Bj))))))) (show Fit κ _ (e8 b2 [e7 kd,e7 wd,e7 mo] 31::e8 b1 [e7 nd,va] 111::I) from A5) ?_))))
   rintro ⟨k,cn⟩ hp
   dsimp only at hp ⊢
   obtain ⟨hk,hc⟩:=hp
   have hcb:0<=cn/\cn<=k:=by rw [hc];have hfl:=List.length_filter_le (λy=>decide (Lk.late y (e_ xs i))) (xs.take k);rw [List.length_take] at hfl;omega
   refine Ah (Gr (A9 C C) (Af (Au (A6 C (λc33=>?_) (λc33=>?_)))))
   ·refine Ay (Aj (Au (A4 (Ah (Gm C (Gr (A3 (α:=Lk) (xs:=xs) Ar ty146 C C (Bh hl) om om) (Gr (Bp (α:=Lk) (xs:=xs) ty146 C (Bh hl) om om) (Ge1 (A8 ty146 C) λb3=>Ga C (Ge0 (C5 ty146) ?_)))))))))
    refine Af (Au (Bl mixed (Br (e8 b3 [e7 ((e_ xs k).u),e7 ((e_ xs k).v),e7 ((e_ xs k).w),e7 ((e_ xs k).lb),e7 ((e_ xs k).sg),e7 ((e_ xs k).tm)] 146::e8 b2 [e7 kd,e7 wd,e7 mo] 31::e8 b1 [e7 nd,va] 111::I) 25 (Dr 0 C (Ab fld146_5 C) (Dr 1 C (As ef) ?_)))))
    refine Dr 2 C (Ab fld111_1 C) (Dr 3 C (As ty109) ?_)
    refine Dr 4 C (Ad C) (Dr 5 C (A3 (α:=Lk) (xs:=xs) Ar ty146 C C (Bh hl) om om) (Dr 6 C (Dc (α:=Lk) (xs:=xs) fld146_5 C (Bh hl) om) (Dr 7 C (De (α:=Lk) (xs:=xs) (u:=e7 ((e_ xs i).tm)) ef C (Bh hl) om om C) (Dr 8 C (Bv C C) (Dr 9 C (Ad C) (C9 (d:=46) C (λg46=>?_) (λg46=>?_)))))))
    ·exact Dpo 10 C (Dpo 11 C (Dpo 12 C (Dpo 13 C (Dpo 14 C (Dpo 15 C (Dpo 16 C (Dpo 17 C (Dpo 18 C (Dpo 19 C (Dpu 20 C (Dpu 21 C (Dpu 22 C (Dpo 23 C (Dr 24 C (Am C C) (Dz (Aj (Aq (S8 61 3 4 5 9 30 31 32 C C C C C C C C) (B7 C (Ax (Gm C (Gr (Rad C C) (Ga C (Bd (Ak (Aj (Ax (Gr (Rad C C) (Gm C (Bd (B2 ((k+1),(cn+1)) (by dsimp only;exact ⟨om,(by first|(rw [flk_yes om (decide_eq_true ((late_ix hA.asc hi om).2 om)),List.length_append,List.length_singleton];omega)|(rw [flk_no om (decide_eq_false (λh=>by have:=(late_ix hA.asc hi om).1 h;omega))];omega))⟩)))))))))))))))))))))))))))))))
    ·refine Dro 10 C (Ab fld146_5 C) (Dro 11 C (As ef) ?_)
     refine Dro 12 C (Ab fld111_1 C) (Dro 13 C (As ty109) ?_)
     refine Dro 14 C (Ad C) (Dro 15 C (A3 (α:=Lk) (xs:=xs) Ar ty146 C C (Bh hl) om om) (Dro 16 C (Dc (α:=Lk) (xs:=xs) fld146_5 C (Bh hl) om) (Dro 17 C (De (α:=Lk) (xs:=xs) (u:=e7 ((e_ xs i).tm)) ef C (Bh hl) om om C) (Dro 18 C (Bi C C) (Dro 19 C (Ad C) (C9 (d:=56) C (λg56=>?_) (λg56=>?_)))))))
     ·refine Dro 20 C (Ad C) (Dro 21 C (Ad C) (Dro 22 C (Bv C C) (Dro 23 C (Am C C) (Dr 24 C (Al C C) (Dz (Aj (Aq (S8 61 3 4 5 9 30 31 32 C C C C C C C C) (A6 C (λc61=>?_) (λc61=>?_)))))))))
      ·exact Ax (Gm C (Gr (Rad C C) (Ga C (Bd (Ak (Aj (Ax (Gr (Rad C C) (Gm C (Bd (B2 ((k+1),(cn+1)) (by dsimp only;exact ⟨om,(by first|(rw [flk_yes om (decide_eq_true ((late_ix hA.asc hi om).2 om)),List.length_append,List.length_singleton];omega)|(rw [flk_no om (decide_eq_false (λh=>by have:=(late_ix hA.asc hi om).1 h;omega))];omega))⟩))))))))))))
      ·exact Ay (Ak (Aj (Ax (Gr (Rad C C) (Gm C (Bd (B2 ((k+1),(cn)) (by dsimp only;exact ⟨om,(by first|(rw [flk_yes om (decide_eq_true ((late_ix hA.asc hi om).2 om)),List.length_append,List.length_singleton];omega)|(rw [flk_no om (decide_eq_false (λh=>by have:=(late_ix hA.asc hi om).1 h;omega))];omega))⟩))))))))
     ·exact Dpo 20 C (Dpo 21 C (Dpo 22 C (Dro 23 C (Al C C) (Dr 24 C (Al C C) (Dz (Aj (Aq (S8 61 3 4 5 9 30 31 32 C C C C C C C C) (C2 C (Ay (Ak (Aj (Ax (Gr (Rad C C) (Gm C (Bd (B2 ((k+1),(cn)) (by dsimp only;exact ⟨om,(by first|(rw [flk_yes om (decide_eq_true ((late_ix hA.asc hi om).2 om)),List.length_append,List.length_singleton];omega)|(rw [flk_no om (decide_eq_false (λh=>by have:=(late_ix hA.asc hi om).1 h;omega))];omega))⟩)))))))))))))))))
   ·refine Bs (Ap (Ap (A7 (Aj (Ah (Gm C (Gf fld31_2 C (Gl ef ?_))))))))
    refine Gr (A9 C C) (Ga C (Af (Aw (Av (Ai ?_)))))
    have hrk:cn=((rankL xs (e_ xs i):Nat):Int):=by rw [hc,List.take_of_length_le om];rfl
    exact A1 C C I A0 ⟨by unfold inW;rw [if_neg c14,if_pos c27,hrk],rfl⟩
  ·exact Ay (Ak (Aj (Ah (Ga C (Af (Aq (S1 8 C) (Aw (A1 C C I A0 ⟨by unfold inW;rw [if_neg c14,if_neg c27],rfl⟩))))))))
theorem Present7_ok{nd kd wd mo nw:Int}{a0:Option Addr}{c0:Nat}{xs:List Lk}(hl:Sl κ I (.slice a0 xs.length c0) xs)(hsz:xs.length<=1000000):ep prog κ 70 [.agg #[e7 nd,.slice a0 xs.length c0],.agg #[e7 kd,e7 wd,e7 mo],e7 nw] I (λr J=>(askE nd xs kd wd mo nw≠0/\r = .tuple #[.agg #[e7 0,.slice none 0 0],e7 (askE nd xs kd wd mo nw)]/\I=J)\/(∃a c,askE nd xs kd wd mo nw=0/\r = .tuple #[.agg #[e7 nd,.slice a (xs.filter (inW kd wd mo nw xs)).length c],e7 0]/\J=vc 146 (.slice a (xs.filter (inW kd wd mo nw xs)).length c) (xs.filter (inW kd wd mo nw xs))::I)):=by
 refine Ce3 Tryz.func70 C C ?_
 refine Ah (Ge1 (Bc (cs:=[_,_]) C C C) λb1=>Ge1 (Bc (cs:=[_,_,_]) C C C) λb2=>Ge1 (A8 ty111 C) λb3=>Ga C (Af (Au (Ah (Gl2 ty111 ?_)))))
 refine Gl3 ty31 ?_
 refine Gm C (Gc0 (Ao call131 C C (Wrong_ok (nd:=nd) (kd:=kd) (wd:=wd) (mo:=mo) (nw:=nw) (Bh hl))) ?_)
 refine Ga C (Af (Ah (Gm C (Gr (Be C C) (Af (Aq (S6 17 8 6 4 3 2 C C C C C C) (A6 C (λc17=>?_) (λc17=>?_))))))))
 ·refine Ah (Gr (Bf (cells:=[_,_]) ty111 Cw pl111 C C) (Gm C (Ge0 (Cd ty111) ?_)))
  exact Ga C (Af (Aw (Ai (Dq C ty111 C C mm C I A0 (.inl ⟨c17,rfl,rfl⟩)))))
 ·refine Ay (Aj (Ah (Gf fld111_0 C (Gl ef ?_))))
  refine Gr (Bf (cells:=[_,_]) ty111 Cw pl111 C C) (Ge1 (A8 ty111 C) λb4=>Ge0 (Cd ty111) ?_)
  refine Af (Au (Ah (Gf fld111_1 C (Gl ty109 ?_))))
  refine Gr (Bm Ar C) (Gm C (Af (Aq (S8 26 25 24 9 6 4 3 2 C C C C C C C C) (A4 (Bu (σ:=Nat×(Option Addr)×Nat×(List Lk)) (λs=>([(2,e7 nw),(3,.pointer (some ⟨b1,0,none⟩)),(4,.pointer (some ⟨b2,0,none⟩)),(6,.pointer (some ⟨b3,0,none⟩)),(9,.pointer (some ⟨b4,0,none⟩)),(24,.slice a0 xs.length c0),(25,e7 ((xs.length:Nat):Int)),(26,e7 ((s.1:Nat):Int))]:Env)) (λs=>vc 146 (.slice s.2.1 s.2.2.2.length s.2.2.1) (s.2.2.2)::e8 b4 [e7 nd,.slice s.2.1 s.2.2.2.length s.2.2.1] 111::e8 b3 [e7 0,.slice none 0 0] 111::e8 b2 [e7 kd,e7 wd,e7 mo] 31::e8 b1 [e7 nd,.slice a0 xs.length c0] 111::I) (λs=>(s.1<=xs.length)/\(s.2.2.2=(xs.take s.1).filter (inW kd wd mo nw xs))) (λs=>xs.length - s.1) (0,none,0,[]) (show ((0:Nat)<=xs.length)/\(([]:List Lk)=(xs.take (0:Nat)).filter (inW kd wd mo nw xs)) from ⟨om,rfl⟩) (Aa C (Aa C (Aa C (Aa C (Aa C (Aa C (Aa C (Aa B9 Bj)))))))) (show Fit κ _ (vc 146 (.slice none ([]).length 0) (([]))::e8 b4 [e7 nd,.slice none ([]).length 0] 111::e8 b3 [e7 0,.slice none 0 0] 111::e8 b2 [e7 kd,e7 wd,e7 mo] 31::e8 b1 [e7 nd,.slice a0 xs.length c0] 111::I) from (Bt _ _)) ?_)))))
  rintro ⟨k,a,c,out⟩ hp
  dsimp only at hp ⊢
  obtain ⟨hk,ho⟩:=hp
  have hol:out.length<=xs.length:=by rw [ho];refine Nat.le_trans (List.length_filter_le _ _) ?_;simp only [List.length_take];omega
  refine Ah (Gr (A9 C C) (Af (Au (A6 C (λc27=>?_) (λc27=>?_)))))
  ·refine Ay (Aj (Au (A4 (Ah (Gm C (Gr (A3 (α:=Lk) (xs:=xs) Ar ty146 C C (Bh hl) om om) (Gr (Bp (α:=Lk) (xs:=xs) ty146 C (Bh hl) om om) (Ge1 (A8 ty146 C) λb5=>Ga C (Ge0 (C5 ty146) ?_)))))))))
   refine Af (Aq (S10 10 11 2 3 4 6 9 24 25 26 C C C C C C C C C C) (Ah (Gl2 ty111 ?_)))
   refine Gl3 ty31 ?_
   refine Gm C (Gm C (Gc0 (Ao call132 C C (In7_ok (nd:=nd) (Bh hl) (i:=k) om (askE_ok (Classical.not_not.1 c17)))) ?_))
   refine Af (Aq (S10 35 11 2 3 4 6 9 24 25 26 C C C C C C C C C C) (Ei C (λc35=>?_) (λc35=>?_)))
   ·refine Ax (Gf fld111_1 C (Gl ty109 ?_))
    refine Gl6 ty146 ?_
    refine Ge1 (B0 (α:=Lk) (cs:=[e7 ((e_ xs k).u),e7 ((e_ xs k).v),e7 ((e_ xs k).w),e7 ((e_ xs k).lb),e7 ((e_ xs k).sg),e7 ((e_ xs k).tm)]) (xs:=[⟨(e_ xs k).u,(e_ xs k).v,(e_ xs k).w,(e_ xs k).lb,(e_ xs k).sg,(e_ xs k).tm⟩]) Ar ty146 C C dc dc C kr C C) λad6=>?_
    refine Ge2 (B1 (α:=Lk) (e:=146) (xs:=out) (ys:=([⟨(e_ xs k).u,(e_ xs k).v,(e_ xs k).w,(e_ xs k).lb,(e_ xs k).sg,(e_ xs k).tm⟩]:List Lk)) Ar ty146 C C C mm Bg lcn dc C (λ_ _=>am)) λad7 cp8=>?_
    refine Gf fld111_1 C (Ge0 (Ed ty109) ?_)
    exact Bd (Ak (Aj (Aq (S8 2 3 4 6 9 24 25 26 C C C C C C C C) (Ax (Gr (Rad C C) (Gm C (Bd (B2 ((k+1),(ad7),(cp8),(out++([⟨(e_ xs k).u,(e_ xs k).v,(e_ xs k).w,(e_ xs k).lb,(e_ xs k).sg,(e_ xs k).tm⟩]:List Lk))) (by dsimp only;exact ⟨om,(by first|rw [flk_yes om c35,←ho]|rw [flk_no om c35,←ho])⟩)))))))))
   ·exact Ay (Ak (Aj (Ax (Gr (Rad C C) (Gm C (Bd (B2 ((k+1),(a),(c),(out)) (by dsimp only;exact ⟨om,(by first|rw [flk_yes om c35,←ho]|rw [flk_no om c35,←ho])⟩))))))))
  ·refine Bs (Ap (Ap (A7 (Aj (Ah (Gl2 ty111 ?_))))))
   refine Ge0 (Cd ty111) ?_
   refine Ga C (Af (Aw ?_))
   have hE:out=(xs.filter (inW kd wd mo nw xs)):=by rw [ho,List.take_of_length_le om]
   subst hE
   exact Dq C ty111 C C mm C (vc 146 (.slice a (xs.filter (inW kd wd mo nw xs)).length c) (xs.filter (inW kd wd mo nw xs))::I) A5 (.inr ⟨a,c,Classical.not_not.1 c17,rfl,rfl⟩)
variable {κ:Ctx}{I:List Item}
def cutEv(nw:Int)(l:Lk):Ev:=⟨2,nw,l.u,l.v,0,0,0⟩
theorem gone_yes{P:Lk->Bool}{f:Lk->Ev}{xs:List Lk}{k:Nat}(hk:k<xs.length)(h:P (e_ xs k)=false):((xs.take (k+1)).filter λx=> !P x).map f=((xs.take k).filter λx=> !P x).map f++[f (e_ xs k)]:=by
 rw [Cu xs k hk,List.filter_append,List.map_append];simp [h]
theorem gone_no{P:Lk->Bool}{f:Lk->Ev}{xs:List Lk}{k:Nat}(hk:k<xs.length)(h:P (e_ xs k)=true):((xs.take (k+1)).filter λx=> !P x).map f=((xs.take k).filter λx=> !P x).map f:=by
 rw [Cu xs k hk,List.filter_append,List.map_append];simp [h]
theorem filt_not{P R:Lk->Bool}{xs:List Lk}(h:xs.filter P=xs.filter R):(xs.filter λx=> !P x)=xs.filter λx=> !R x:=
 List.filter_congr λx hx=>by
  have h1:x∈xs.filter P↔x∈xs.filter R:=by rw [h]
  rw [List.mem_filter,List.mem_filter] at h1
  simp only [hx,true_and] at h1
  cases hp:P x<;>cases hr:R x<;>simp_all
def goneL(kd wd mo nw:Int)(xs:List Lk):List Ev:=(xs.filter λx=> !inW kd wd mo nw xs x).map (cutEv nw)
theorem Gone_ok(l:Lk)(nw:Int):ep prog κ 254 [.agg #[e7 (l.u),e7 (l.v),e7 (l.w),e7 (l.lb),e7 (l.sg),e7 (l.tm)],e7 nw] I (λr J=>r = .agg #[e7 2,e7 nw,e7 l.u,e7 l.v,e7 0,e7 0,e7 0]/\I=J):=by
 refine Ce2 Tryz.func254 C C ?_
 refine Ah (Ge1 (Bc (cs:=[_,_,_,_,_,_]) C C C) λb1=>Ge1 (A8 ty108 C) λb2=>Af (Ah (Gm C (Gf fld146_0 C (Gl ef ?_)))))
 refine Gf fld146_1 C (Gl ef ?_)
 refine Gr (Bf (cells:=[_,_,_,_,_,_,_]) ty108 C6 pl108 C C) (Ge0 (E2 ty108) ?_)
 exact Af (Aw (Db C ty108 C mm C I A0 ⟨rfl,rfl⟩))
theorem Cut5_ok(l:Lk)(nw:Int):ep prog κ 164 [.agg #[e7 (l.u),e7 (l.v),e7 (l.w),e7 (l.lb),e7 (l.sg),e7 (l.tm)],e7 nw] I (λr J=>r = .agg #[e7 2,e7 nw,e7 l.u,e7 l.v,e7 0,e7 0,e7 0]/\I=J):=by
 refine Ce2 Tryz.func164 C C ?_
 refine Ah (Ge1 (Bc (cs:=[_,_,_,_,_,_]) C C C) λb1=>Ge1 (A8 ty108 C) λb2=>Af (Ah (Gm C (Gf fld146_0 C (Gl ef ?_)))))
 refine Gf fld146_1 C (Gl ef ?_)
 refine Gr (Bf (cells:=[_,_,_,_,_,_,_]) ty108 C6 pl108 C C) (Ge0 (E2 ty108) ?_)
 exact Af (Aw (Db C ty108 C mm C I A0 ⟨rfl,rfl⟩))
theorem Gone1_ok{nd wd mo nw:Int}{a0:Option Addr}{c0:Nat}{xs:List Lk}(hl:Sl κ I (.slice a0 xs.length c0) xs)(hsz:xs.length<=1000000)(hA:askE nd xs 1 wd mo nw=0):ep prog κ 213 [.agg #[e7 nd,.slice a0 xs.length c0],.agg #[e7 1,e7 wd,e7 mo],e7 nw] I (λr J=>∃a c,r = .slice a (goneL 1 wd mo nw xs).length c/\J=vc 108 (.slice a (goneL 1 wd mo nw xs).length c) (goneL 1 wd mo nw xs)::I):=by
 refine Ce3 Tryz.func213 C C ?_
 refine Ah (Ge1 (Bc (cs:=[_,_]) C C C) λb1=>Ge1 (Bc (cs:=[_,_,_]) C C C) λb2=>Ga C (Af (Au (Bl mixed (Br (e8 b2 [e7 1,e7 wd,e7 mo] 31::e8 b1 [e7 nd,.slice a0 xs.length c0] 111::I) 9 (Dr 1 C (Ab fld31_0 C) (Dr 2 C (As ef) ?_)))))))
 refine Dr 4 C (Bq (vs:=[_,_]) ty111) ?_
 refine Dr 5 C (Bq (vs:=[_,_,_]) ty31) ?_
 refine Dr 6 C (Ad C) (Ds1 0 (Se C (Ao call253 C C Rules_ok) ?_))
 rintro _ _ ⟨_,_,⟨mr3,rfl,rfl⟩,rfl,rfl⟩
 refine ⟨A5,?_⟩
 refine Ds1 3 (Sr C (Runs.lookupK (i:=0) D0 B6 C C C mm C) A5 ?_)
 refine Ds1 7 (Se C (Ct call294 C C C Rule1_ok) ?_)
 rintro _ _ ⟨_,_,⟨rfl,rfl⟩,rfl,rfl⟩
 refine ⟨A5,?_⟩
 refine Dr 8 C (Bb C) (Dz (Aj (Aq (S3 7 3 2 C C C) (Ah (Ga C (Af (Au (Ah (Gf fld111_1 C (Gl ty109 ?_))))))))))
 refine Gr (Bm Ar C) (Gm C (Af (A4 (Bu (σ:=Nat×(Option Addr)×Nat×(List Ev)) (λs=>([(2,e7 nw),(7,.func (.func 295) #[] #[]),(8,.slice s.2.1 s.2.2.2.length s.2.2.1),(20,.slice a0 xs.length c0),(21,e7 ((xs.length:Nat):Int)),(22,e7 ((s.1:Nat):Int))]:Env)) (λs=>vc 108 (.slice s.2.1 s.2.2.2.length s.2.2.1) (s.2.2.2)::mp mr3 [({key:=e7 1,val:= .func (.func 294) #[] #[],born:=0}:MapEntry),({key:=e7 2,val:= .func (.func 296) #[] #[],born:=1}:MapEntry),({key:=e7 3,val:= .func (.func 298) #[] #[],born:=2}:MapEntry)] 3::e8 b2 [e7 1,e7 wd,e7 mo] 31::e8 b1 [e7 nd,.slice a0 xs.length c0] 111::I) (λs=>(s.1<=xs.length)/\(s.2.2.2=((xs.take s.1).filter λx=> !(λ_:Lk=>true) x).map (cutEv nw))) (λs=>xs.length - s.1) (0,none,0,[]) (show ((0:Nat)<=xs.length)/\(([]:List Ev)=((xs.take (0:Nat)).filter λx=> !(λ_:Lk=>true) x).map (cutEv nw)) from ⟨om,rfl⟩) (Aa C (Aa C (Aa (Cr C (by first|rfl|simp)) (Aa C (Aa C (Aa B9 Bj)))))) (show Fit κ _ (vc 108 (.slice none ([]).length 0) (([]))::mp mr3 [({key:=e7 1,val:= .func (.func 294) #[] #[],born:=0}:MapEntry),({key:=e7 2,val:= .func (.func 296) #[] #[],born:=1}:MapEntry),({key:=e7 3,val:= .func (.func 298) #[] #[],born:=2}:MapEntry)] 3::e8 b2 [e7 1,e7 wd,e7 mo] 31::e8 b1 [e7 nd,.slice a0 xs.length c0] 111::I) from (Bt _ _)) ?_))))
 rintro ⟨k,a,c,out⟩ hp
 dsimp only at hp ⊢
 obtain ⟨hk,ho⟩:=hp
 have hol:out.length<=xs.length:=by rw [ho,List.length_map];refine Nat.le_trans (List.length_filter_le _ _) ?_;simp only [List.length_take];omega
 refine Ah (Gr (A9 C C) (Af (Au (A6 C (λc23=>?_) (λc23=>?_)))))
 ·refine Ay (Aj (Au (A4 (Ah (Gr (A3 (α:=Lk) (xs:=xs) Ar ty146 C C (Bh hl) om om) (Gr (Bp (α:=Lk) (xs:=xs) ty146 C (Bh hl) om om) (Ge1 (A8 ty146 C) λb4=>Ge0 (C5 ty146) ?_)))))))
  refine Af (Ah (Gm C (Gl6 ty146 ?_)))
  refine Gc0 (Ct call295 C C C (All1_ok (e_ xs k))) ?_
  exact Gr (Cb C) (Af (Aq (S8 29 10 2 7 8 20 21 22 C C C C C C C C) (C2 C (Ay (Ak (Aj (Ax (Gr (Rad C C) (Gm C (Bd (B2 ((k+1),(a),(c),(out)) (by dsimp only;exact ⟨om,(by first|(rw [gone_yes (P:=(λ_:Lk=>true)) om (decide_eq_false c29),←ho];done)|(rw [gone_yes (P:=(λ_:Lk=>true)) om (decide_eq_false c29),←ho];rfl)|(rw [gone_no (P:=(λ_:Lk=>true)) om (decide_eq_true (Classical.not_not.1 c29)),←ho])|(rw [gone_no (P:=(λ_:Lk=>true)) om rfl,←ho]))⟩))))))))))))
 ·refine Bs (Ap (Ap (A7 (Aj (Ah (Gm C (Ga C (Af (Aw ?_)))))))))
  have hE:out=(goneL 1 wd mo nw xs):=by rw [ho,show List.take k xs=xs from List.take_of_length_le om];unfold goneL;rw [filt_not (P:=(λ_:Lk=>true)) (inW_all rfl)]
  subst hE
  exact A1 C C (vc 108 (.slice a (goneL 1 wd mo nw xs).length c) (goneL 1 wd mo nw xs)::I) A5 ⟨a,c,rfl,rfl⟩
theorem Gone2_ok{nd wd mo nw:Int}{a0:Option Addr}{c0:Nat}{xs:List Lk}(hl:Sl κ I (.slice a0 xs.length c0) xs)(hsz:xs.length<=1000000)(hA:askE nd xs 2 wd mo nw=0):ep prog κ 213 [.agg #[e7 nd,.slice a0 xs.length c0],.agg #[e7 2,e7 wd,e7 mo],e7 nw] I (λr J=>∃a c,r = .slice a (goneL 2 wd mo nw xs).length c/\J=vc 108 (.slice a (goneL 2 wd mo nw xs).length c) (goneL 2 wd mo nw xs)::I):=by
 refine Ce3 Tryz.func213 C C ?_
 refine Ah (Ge1 (Bc (cs:=[_,_]) C C C) λb1=>Ge1 (Bc (cs:=[_,_,_]) C C C) λb2=>Ga C (Af (Au (Bl mixed (Br (e8 b2 [e7 2,e7 wd,e7 mo] 31::e8 b1 [e7 nd,.slice a0 xs.length c0] 111::I) 9 (Dr 1 C (Ab fld31_0 C) (Dr 2 C (As ef) ?_)))))))
 refine Dr 4 C (Bq (vs:=[_,_]) ty111) ?_
 refine Dr 5 C (Bq (vs:=[_,_,_]) ty31) ?_
 refine Dr 6 C (Ad C) (Ds1 0 (Se C (Ao call253 C C Rules_ok) ?_))
 rintro _ _ ⟨_,_,⟨mr3,rfl,rfl⟩,rfl,rfl⟩
 refine ⟨A5,?_⟩
 refine Ds1 3 (Sr C (Runs.lookupK (i:=1) D0 B6 C C C mm C) A5 ?_)
 refine Ds1 7 (Sc2 C (Ct call296 C C C Rule2_ok) λb4 b5=>?_)
 refine Dr 8 C (Bb C) (Dz (Aj (Aq (S3 7 3 2 C C C) (Ah (Ga C (Af (Au (Ah (Gf fld111_1 C (Gl ty109 ?_))))))))))
 refine Gr (Bm Ar C) (Gm C (Af (A4 (Bu (σ:=Nat×(Option Addr)×Nat×(List Ev)) (λs=>([(2,e7 nw),(7,.func (.func 297) #[] #[.pointer (some ⟨b4,0,none⟩),.pointer (some ⟨b5,0,none⟩)]),(8,.slice s.2.1 s.2.2.2.length s.2.2.1),(20,.slice a0 xs.length c0),(21,e7 ((xs.length:Nat):Int)),(22,e7 ((s.1:Nat):Int))]:Env)) (λs=>vc 108 (.slice s.2.1 s.2.2.2.length s.2.2.1) (s.2.2.2)::e8 b4 [e7 nw] 3::e8 b5 [e7 2,e7 wd,e7 mo] 31::mp mr3 [({key:=e7 1,val:= .func (.func 294) #[] #[],born:=0}:MapEntry),({key:=e7 2,val:= .func (.func 296) #[] #[],born:=1}:MapEntry),({key:=e7 3,val:= .func (.func 298) #[] #[],born:=2}:MapEntry)] 3::e8 b2 [e7 2,e7 wd,e7 mo] 31::e8 b1 [e7 nd,.slice a0 xs.length c0] 111::I) (λs=>(s.1<=xs.length)/\(s.2.2.2=((xs.take s.1).filter λx=> !(λx:Lk=>decide (IntKind.i64.wrap (nw - x.tm)<wd)) x).map (cutEv nw))) (λs=>xs.length - s.1) (0,none,0,[]) (show ((0:Nat)<=xs.length)/\(([]:List Ev)=((xs.take (0:Nat)).filter λx=> !(λx:Lk=>decide (IntKind.i64.wrap (nw - x.tm)<wd)) x).map (cutEv nw)) from ⟨om,rfl⟩) (Aa C (Aa C (Aa (Cr C (by first|rfl|simp)) (Aa C (Aa C (Aa B9 Bj)))))) (show Fit κ _ (vc 108 (.slice none ([]).length 0) (([]))::e8 b4 [e7 nw] 3::e8 b5 [e7 2,e7 wd,e7 mo] 31::mp mr3 [({key:=e7 1,val:= .func (.func 294) #[] #[],born:=0}:MapEntry),({key:=e7 2,val:= .func (.func 296) #[] #[],born:=1}:MapEntry),({key:=e7 3,val:= .func (.func 298) #[] #[],born:=2}:MapEntry)] 3::e8 b2 [e7 2,e7 wd,e7 mo] 31::e8 b1 [e7 nd,.slice a0 xs.length c0] 111::I) from (Bt _ _)) ?_))))
 rintro ⟨k,a,c,out⟩ hp
 dsimp only at hp ⊢
 obtain ⟨hk,ho⟩:=hp
 have hol:out.length<=xs.length:=by rw [ho,List.length_map];refine Nat.le_trans (List.length_filter_le _ _) ?_;simp only [List.length_take];omega
 refine Ah (Gr (A9 C C) (Af (Au (A6 C (λc23=>?_) (λc23=>?_)))))
 ·refine Ay (Aj (Au (A4 (Ah (Gr (A3 (α:=Lk) (xs:=xs) Ar ty146 C C (Bh hl) om om) (Gr (Bp (α:=Lk) (xs:=xs) ty146 C (Bh hl) om om) (Ge1 (A8 ty146 C) λb6=>Ge0 (C5 ty146) ?_)))))))
  refine Af (Ah (Gm C (Gl6 ty146 ?_)))
  refine Gc0 (Ct call297 C C C (Age1_ok (Dv mm) (Dv mm) (e_ xs k))) ?_
  refine Gr (C0 C) (Af (Aq (S8 29 10 2 7 8 20 21 22 C C C C C C C C) (A6 C (λc29=>?_) (λc29=>?_))))
  ·refine Ax (Gm C (Gl6 ty146 ?_))
   refine Gm C (G.e (Ao call254 C C (Gone_ok (e_ xs k) nw)) ?_)
   rintro _ _ ⟨_,_,⟨rfl,rfl⟩,rfl,rfl⟩
   refine Ge1 (B0 (α:=Ev) (cs:=[e7 2,e7 nw,e7 ((e_ xs k).u),e7 ((e_ xs k).v),e7 0,e7 0,e7 0]) (xs:=[⟨2,nw,(e_ xs k).u,(e_ xs k).v,0,0,0⟩]) Az ty108 C C dc dc C kr C C) λad7=>?_
   refine Ge2 (B1 (α:=Ev) (e:=108) (xs:=out) (ys:=([⟨2,nw,(e_ xs k).u,(e_ xs k).v,0,0,0⟩]:List Ev)) Az ty108 C C C mm Bg lcn dc C (λ_ _=>am)) λad8 cp9=>?_
   exact Ga C (Bd (Ak (Aj (Aq (S6 8 2 7 20 21 22 C C C C C C) (Ax (Gr (Rad C C) (Gm C (Bd (B2 ((k+1),(ad8),(cp9),(out++([⟨2,nw,(e_ xs k).u,(e_ xs k).v,0,0,0⟩]:List Ev))) (by dsimp only;exact ⟨om,(by first|(rw [gone_yes (P:=(λx:Lk=>decide (IntKind.i64.wrap (nw - x.tm)<wd))) om (decide_eq_false c29),←ho];done)|(rw [gone_yes (P:=(λx:Lk=>decide (IntKind.i64.wrap (nw - x.tm)<wd))) om (decide_eq_false c29),←ho];rfl)|(rw [gone_no (P:=(λx:Lk=>decide (IntKind.i64.wrap (nw - x.tm)<wd))) om (decide_eq_true (Classical.not_not.1 c29)),←ho])|(rw [gone_no (P:=(λx:Lk=>decide (IntKind.i64.wrap (nw - x.tm)<wd))) om rfl,←ho]))⟩))))))))))
  ·exact Ay (Ak (Aj (Ax (Gr (Rad C C) (Gm C (Bd (B2 ((k+1),(a),(c),(out)) (by dsimp only;exact ⟨om,(by first|(rw [gone_yes (P:=(λx:Lk=>decide (IntKind.i64.wrap (nw - x.tm)<wd))) om (decide_eq_false c29),←ho];done)|(rw [gone_yes (P:=(λx:Lk=>decide (IntKind.i64.wrap (nw - x.tm)<wd))) om (decide_eq_false c29),←ho];rfl)|(rw [gone_no (P:=(λx:Lk=>decide (IntKind.i64.wrap (nw - x.tm)<wd))) om (decide_eq_true (Classical.not_not.1 c29)),←ho])|(rw [gone_no (P:=(λx:Lk=>decide (IntKind.i64.wrap (nw - x.tm)<wd))) om rfl,←ho]))⟩))))))))
 ·refine Bs (Ap (Ap (A7 (Aj (Ah (Gm C (Ga C (Af (Aw ?_)))))))))
  have hE:out=(goneL 2 wd mo nw xs):=by rw [ho,show List.take k xs=xs from List.take_of_length_le om];unfold goneL;rw [filt_not (P:=(λx:Lk=>decide (IntKind.i64.wrap (nw - x.tm)<wd))) (inW_age (askE_ok hA) rfl)]
  subst hE
  exact A1 C C (vc 108 (.slice a (goneL 2 wd mo nw xs).length c) (goneL 2 wd mo nw xs)::I) A5 ⟨a,c,rfl,rfl⟩
theorem Gone3_ok{nd wd mo nw:Int}{a0:Option Addr}{c0:Nat}{xs:List Lk}(hl:Sl κ I (.slice a0 xs.length c0) xs)(hsz:xs.length<=1000000)(hA:askE nd xs 3 wd mo nw=0):ep prog κ 213 [.agg #[e7 nd,.slice a0 xs.length c0],.agg #[e7 3,e7 wd,e7 mo],e7 nw] I (λr J=>∃a c,r = .slice a (goneL 3 wd mo nw xs).length c/\J=vc 108 (.slice a (goneL 3 wd mo nw xs).length c) (goneL 3 wd mo nw xs)::I):=by
 refine Ce3 Tryz.func213 C C ?_
 refine Ah (Ge1 (Bc (cs:=[_,_]) C C C) λb1=>Ge1 (Bc (cs:=[_,_,_]) C C C) λb2=>Ga C (Af (Au (Bl mixed (Br (e8 b2 [e7 3,e7 wd,e7 mo] 31::e8 b1 [e7 nd,.slice a0 xs.length c0] 111::I) 9 (Dr 1 C (Ab fld31_0 C) (Dr 2 C (As ef) ?_)))))))
 refine Dr 4 C (Bq (vs:=[_,_]) ty111) ?_
 refine Dr 5 C (Bq (vs:=[_,_,_]) ty31) ?_
 refine Dr 6 C (Ad C) (Ds1 0 (Se C (Ao call253 C C Rules_ok) ?_))
 rintro _ _ ⟨_,_,⟨mr3,rfl,rfl⟩,rfl,rfl⟩
 refine ⟨A5,?_⟩
 refine Ds1 3 (Sr C (Runs.lookupK (i:=2) D0 B6 C C C mm C) A5 ?_)
 refine Ds1 7 (Se C (Ct call298 C C C (Rule3_ok (Bh hl) ((askE_ok hA).most C).1 om)) ?_)
 rintro _ _ ⟨_,_,⟨b4,ad5,cp6,ys7,mm8,rfl,hzys7,rfl⟩,rfl,rfl⟩
 refine ⟨A5,?_⟩
 refine Dr 8 C (Bb C) (Dz (Aj (Aq (S3 7 3 2 C C C) (Ah (Ga C (Af (Au (Ah (Gf fld111_1 C (Gl ty109 ?_))))))))))
 refine Gr (Bm Ar C) (Gm C (Af (A4 (Bu (σ:=Nat×(Option Addr)×Nat×(List Ev)) (λs=>([(2,e7 nw),(7,.func (.func 300) #[] #[.pointer (some ⟨b4,0,none⟩)]),(8,.slice s.2.1 s.2.2.2.length s.2.2.1),(20,.slice a0 xs.length c0),(21,e7 ((xs.length:Nat):Int)),(22,e7 ((s.1:Nat):Int))]:Env)) (λs=>vc 108 (.slice s.2.1 s.2.2.2.length s.2.2.1) (s.2.2.2)::e8 b4 [.slice ad5 (List.take mm8 ys7).length cp6] 109::vc 146 (.slice ad5 xs.length cp6) (ys7)::mp mr3 [({key:=e7 1,val:= .func (.func 294) #[] #[],born:=0}:MapEntry),({key:=e7 2,val:= .func (.func 296) #[] #[],born:=1}:MapEntry),({key:=e7 3,val:= .func (.func 298) #[] #[],born:=2}:MapEntry)] 3::e8 b2 [e7 3,e7 wd,e7 mo] 31::e8 b1 [e7 nd,.slice a0 xs.length c0] 111::I) (λs=>(s.1<=xs.length)/\(s.2.2.2=((xs.take s.1).filter λx=> !(λx:Lk=>decide (x∈List.take mm8 ys7)) x).map (cutEv nw))) (λs=>xs.length - s.1) (0,none,0,[]) (show ((0:Nat)<=xs.length)/\(([]:List Ev)=((xs.take (0:Nat)).filter λx=> !(λx:Lk=>decide (x∈List.take mm8 ys7)) x).map (cutEv nw)) from ⟨om,rfl⟩) (Aa C (Aa C (Aa (Cr C (by first|rfl|simp)) (Aa C (Aa C (Aa B9 Bj)))))) (show Fit κ _ (vc 108 (.slice none ([]).length 0) (([]))::e8 b4 [.slice ad5 (List.take mm8 ys7).length cp6] 109::vc 146 (.slice ad5 xs.length cp6) (ys7)::mp mr3 [({key:=e7 1,val:= .func (.func 294) #[] #[],born:=0}:MapEntry),({key:=e7 2,val:= .func (.func 296) #[] #[],born:=1}:MapEntry),({key:=e7 3,val:= .func (.func 298) #[] #[],born:=2}:MapEntry)] 3::e8 b2 [e7 3,e7 wd,e7 mo] 31::e8 b1 [e7 nd,.slice a0 xs.length c0] 111::I) from (Bt _ _)) ?_))))
 rintro ⟨k,a,c,out⟩ hp
 dsimp only at hp ⊢
 obtain ⟨hk,ho⟩:=hp
 have hol:out.length<=xs.length:=by rw [ho,List.length_map];refine Nat.le_trans (List.length_filter_le _ _) ?_;simp only [List.length_take];omega
 refine Ah (Gr (A9 C C) (Af (Au (A6 C (λc23=>?_) (λc23=>?_)))))
 ·refine Ay (Aj (Au (A4 (Ah (Gr (A3 (α:=Lk) (xs:=xs) Ar ty146 C C (Bh hl) om om) (Gr (Bp (α:=Lk) (xs:=xs) ty146 C (Bh hl) om om) (Ge1 (A8 ty146 C) λb9=>Ge0 (C5 ty146) ?_)))))))
  refine Af (Ah (Gm C (Gl6 ty146 ?_)))
  refine Gc0 (Ct call300 C C C (Last1_ok (Dv mm) (Sl.take Bg om) (e_ xs k))) ?_
  refine Gr (C0 C) (Af (Aq (S8 29 10 2 7 8 20 21 22 C C C C C C C C) (A6 C (λc29=>?_) (λc29=>?_))))
  ·refine Ax (Gm C (Gl6 ty146 ?_))
   refine Gm C (G.e (Ao call254 C C (Gone_ok (e_ xs k) nw)) ?_)
   rintro _ _ ⟨_,_,⟨rfl,rfl⟩,rfl,rfl⟩
   refine Ge1 (B0 (α:=Ev) (cs:=[e7 2,e7 nw,e7 ((e_ xs k).u),e7 ((e_ xs k).v),e7 0,e7 0,e7 0]) (xs:=[⟨2,nw,(e_ xs k).u,(e_ xs k).v,0,0,0⟩]) Az ty108 C C dc dc C kr C C) λad10=>?_
   refine Ge2 (B1 (α:=Ev) (e:=108) (xs:=out) (ys:=([⟨2,nw,(e_ xs k).u,(e_ xs k).v,0,0,0⟩]:List Ev)) Az ty108 C C C mm Bg lcn dc C (λ_ _=>am)) λad11 cp12=>?_
   exact Ga C (Bd (Ak (Aj (Aq (S6 8 2 7 20 21 22 C C C C C C) (Ax (Gr (Rad C C) (Gm C (Bd (B2 ((k+1),(ad11),(cp12),(out++([⟨2,nw,(e_ xs k).u,(e_ xs k).v,0,0,0⟩]:List Ev))) (by dsimp only;exact ⟨om,(by first|(rw [gone_yes (P:=(λx:Lk=>decide (x∈List.take mm8 ys7))) om (decide_eq_false c29),←ho];done)|(rw [gone_yes (P:=(λx:Lk=>decide (x∈List.take mm8 ys7))) om (decide_eq_false c29),←ho];rfl)|(rw [gone_no (P:=(λx:Lk=>decide (x∈List.take mm8 ys7))) om (decide_eq_true (Classical.not_not.1 c29)),←ho])|(rw [gone_no (P:=(λx:Lk=>decide (x∈List.take mm8 ys7))) om rfl,←ho]))⟩))))))))))
  ·exact Ay (Ak (Aj (Ax (Gr (Rad C C) (Gm C (Bd (B2 ((k+1),(a),(c),(out)) (by dsimp only;exact ⟨om,(by first|(rw [gone_yes (P:=(λx:Lk=>decide (x∈List.take mm8 ys7))) om (decide_eq_false c29),←ho];done)|(rw [gone_yes (P:=(λx:Lk=>decide (x∈List.take mm8 ys7))) om (decide_eq_false c29),←ho];rfl)|(rw [gone_no (P:=(λx:Lk=>decide (x∈List.take mm8 ys7))) om (decide_eq_true (Classical.not_not.1 c29)),←ho])|(rw [gone_no (P:=(λx:Lk=>decide (x∈List.take mm8 ys7))) om rfl,←ho]))⟩))))))))
 ·refine Bs (Ap (Ap (A7 (Aj (Ah (Gm C (Ga C (Af (Aw ?_)))))))))
  have hE:out=(goneL 3 wd mo nw xs):=by rw [ho,show List.take k xs=xs from List.take_of_length_le om];unfold goneL;rw [filt_not (P:=(λx:Lk=>decide (x∈List.take mm8 ys7))) (inW_last (askE_ok hA) rfl hzys7)]
  subst hE
  exact A1 C C (vc 108 (.slice a (goneL 3 wd mo nw xs).length c) (goneL 3 wd mo nw xs)::I) A5 ⟨a,c,rfl,rfl⟩
theorem GoneP_ok{nd kd wd mo nw:Int}{a0:Option Addr}{c0:Nat}{xs:List Lk}(hl:Sl κ I (.slice a0 xs.length c0) xs)(hsz:xs.length<=1000000)(hA:askE nd xs kd wd mo nw=0):ep prog κ 213 [.agg #[e7 nd,.slice a0 xs.length c0],.agg #[e7 kd,e7 wd,e7 mo],e7 nw] I λr J=>∃a c,r = .slice a (goneL kd wd mo nw xs).length c/\J=vc 108 (.slice a (goneL kd wd mo nw xs).length c) (goneL kd wd mo nw xs)::I:=by
 have hk:=(askE_ok hA).kind
 rcases (by omega:kd=1\/kd=2\/kd=3) with rfl|rfl|rfl
 ·exact Gone1_ok hl hsz hA
 ·exact Gone2_ok hl hsz hA
 ·exact Gone3_ok hl hsz hA
theorem Expired7_ok{κ:Ctx}{I:List Item}{nd kd wd mo nw:Int}{a0:Option Addr}{c0:Nat}{xs:List Lk}(hl:Sl κ I (.slice a0 xs.length c0) xs)(hsz:xs.length<=1000000):ep prog κ 161 [.agg #[e7 nd,.slice a0 xs.length c0],.agg #[e7 kd,e7 wd,e7 mo],e7 nw] I (λr J=>(askE nd xs kd wd mo nw≠0/\r = .tuple #[.slice none 0 0,e7 (askE nd xs kd wd mo nw)]/\I=J)\/(∃a c,askE nd xs kd wd mo nw=0/\r = .tuple #[.slice a (goneL kd wd mo nw xs).length c,e7 0]/\J=vc 108 (.slice a (goneL kd wd mo nw xs).length c) (goneL kd wd mo nw xs)::I)):=by
 refine Ce3 Tryz.func161 C C ?_
 refine Ah (Ge1 (Bc (cs:=[_,_]) C C C) λb1=>Ge1 (Bc (cs:=[_,_,_]) C C C) λb2=>Ga C (Ga C (Af (Au (Ah (Gl2 ty111 ?_))))))
 refine Gl3 ty31 ?_
 refine Gm C (Gc0 (Ao call131 C C (Wrong_ok (nd:=nd) (kd:=kd) (wd:=wd) (mo:=mo) (nw:=nw) (Bh hl))) ?_)
 refine Ga C (Af (Ah (Gm C (Gr (Be C C) (Af (Aq (S5 17 8 4 3 2 C C C C C) (A6 C (λc17=>?_) (λc17=>?_))))))))
 ·exact Ah (Gm C (Ga C (Ga C (Af (Aw (Ai (Co C C C I A0 (.inl ⟨c17,rfl,rfl⟩))))))))
 ·refine Ay (Aj (Ah (Ga C (Af (Au (Ah (Gf fld111_1 C (Gl ty109 ?_))))))))
  refine Gr (Bm Ar C) (Gm C (Af (A4 (Bu (σ:=Nat×(Option Addr)×Nat×(List Ev)) (λs=>([(2,e7 nw),(3,.pointer (some ⟨b1,0,none⟩)),(4,.pointer (some ⟨b2,0,none⟩)),(9,.slice s.2.1 s.2.2.2.length s.2.2.1),(20,.slice a0 xs.length c0),(21,e7 ((xs.length:Nat):Int)),(22,e7 ((s.1:Nat):Int))]:Env)) (λs=>vc 108 (.slice s.2.1 s.2.2.2.length s.2.2.1) (s.2.2.2)::e8 b2 [e7 kd,e7 wd,e7 mo] 31::e8 b1 [e7 nd,.slice a0 xs.length c0] 111::I) (λs=>(s.1<=xs.length)/\(s.2.2.2=((xs.take s.1).filter λx=> !(inW kd wd mo nw xs) x).map (cutEv nw))) (λs=>xs.length - s.1) (0,none,0,[]) (show ((0:Nat)<=xs.length)/\(([]:List Ev)=((xs.take (0:Nat)).filter λx=> !(inW kd wd mo nw xs) x).map (cutEv nw)) from ⟨om,rfl⟩) (Aa C (Aa C (Aa C (Aa (Cr C (by first|rfl|simp)) (Aa C (Aa C (Aa B9 Bj))))))) (show Fit κ _ (vc 108 (.slice none ([]).length 0) (([]))::e8 b2 [e7 kd,e7 wd,e7 mo] 31::e8 b1 [e7 nd,.slice a0 xs.length c0] 111::I) from (Bt _ _)) ?_))))
  rintro ⟨k,a,c,out⟩ hp
  dsimp only at hp ⊢
  obtain ⟨hk,ho⟩:=hp
  have hol:out.length<=xs.length:=by rw [ho,List.length_map];refine Nat.le_trans (List.length_filter_le _ _) ?_;simp only [List.length_take];omega
  refine Ah (Gr (A9 C C) (Af (Au (A6 C (λc23=>?_) (λc23=>?_)))))
  ·refine Ay (Aj (Au (A4 (Ah (Gm C (Gr (A3 (α:=Lk) (xs:=xs) Ar ty146 C C (Bh hl) om om) (Gr (Bp (α:=Lk) (xs:=xs) ty146 C (Bh hl) om om) (Ge1 (A8 ty146 C) λb3=>Ga C (Ge0 (C5 ty146) ?_)))))))))
   refine Af (Ah (Gl2 ty111 ?_))
   refine Gl3 ty31 ?_
   refine Gm C (Gm C (Gc0 (Ao call132 C C (In7_ok (nd:=nd) (Bh hl) (i:=k) om (askE_ok (Classical.not_not.1 c17)))) ?_))
   refine Gr (Cb C) (Af (Aq (S9 32 11 2 3 4 9 20 21 22 C C C C C C C C C) (Ei C (λc32=>?_) (λc32=>?_))))
   ·refine Ax (Gm C (Gl6 ty146 ?_))
    refine Gm C (Gc0 (Ao call164 C C (Cut5_ok (e_ xs k) nw)) ?_)
    refine Ge1 (B0 (α:=Ev) (cs:=[e7 2,e7 nw,e7 ((e_ xs k).u),e7 ((e_ xs k).v),e7 0,e7 0,e7 0]) (xs:=[⟨2,nw,(e_ xs k).u,(e_ xs k).v,0,0,0⟩]) Az ty108 C C dc dc C kr C C) λad4=>?_
    refine Ge2 (B1 (α:=Ev) (e:=108) (xs:=out) (ys:=([⟨2,nw,(e_ xs k).u,(e_ xs k).v,0,0,0⟩]:List Ev)) Az ty108 C C C mm Bg lcn dc C (λ_ _=>am)) λad5 cp6=>?_
    exact Ga C (Bd (Ak (Aj (Aq (S7 9 2 3 4 20 21 22 C C C C C C C) (Ax (Gr (Rad C C) (Gm C (Bd (B2 ((k+1),(ad5),(cp6),(out++([⟨2,nw,(e_ xs k).u,(e_ xs k).v,0,0,0⟩]:List Ev))) (by dsimp only;exact ⟨om,(by first|(rw [gone_yes (P:=(inW kd wd mo nw xs)) om (by simpa using c32),←ho];done)|(rw [gone_yes (P:=(inW kd wd mo nw xs)) om (by simpa using c32),←ho];rfl)|(rw [gone_no (P:=(inW kd wd mo nw xs)) om (by simpa using c32),←ho]))⟩))))))))))
   ·exact Ay (Ak (Aj (Ax (Gr (Rad C C) (Gm C (Bd (B2 ((k+1),(a),(c),(out)) (by dsimp only;exact ⟨om,(by first|(rw [gone_yes (P:=(inW kd wd mo nw xs)) om (by simpa using c32),←ho];done)|(rw [gone_yes (P:=(inW kd wd mo nw xs)) om (by simpa using c32),←ho];rfl)|(rw [gone_no (P:=(inW kd wd mo nw xs)) om (by simpa using c32),←ho]))⟩))))))))
  ·refine Bs (Ap (Ap (A7 (Aj (Ah (Gm C (Ga C (Ga C (Af (Aw ?_))))))))))
   have hE:out=(goneL kd wd mo nw xs):=by rw [ho,show List.take k xs=xs from List.take_of_length_le om];rfl
   subst hE
   exact Co C C C (vc 108 (.slice a (goneL kd wd mo nw xs).length c) (goneL kd wd mo nw xs)::I) A5 (.inr ⟨a,c,Classical.not_not.1 c17,rfl,rfl⟩)
end Go.Sl
