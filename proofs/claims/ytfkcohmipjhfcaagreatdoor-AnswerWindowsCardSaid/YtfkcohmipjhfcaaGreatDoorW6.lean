/- A part of the proofs of statements of this seat: contracts of functions, and the plain laws that they lean on. No conditions. -/
import Derived.Test.YtfkcohmipjhfcaaGreatDoorW5
set_option linter.unusedVariables false
set_option linter.unusedSimpArgs false
set_option linter.unusedSectionVars false
open Go.Proofs.Tryz (prog)
namespace Go.Sl
open Go.Proofs
set_option maxRecDepth 4000
theorem Lk.cmp_lt(a c:Lk):Lk.cmp a c<0↔Lk.lt a c:=Pt.cmp_lt _ _
def askE(nd:Int)(xs:List Lk)(kd wd mo nw:Int):Int:=if checkW kd wd mo≠0 then checkW kd wd mo else if checkS nd xs≠0 then checkS nd xs else if nw<0\/1048576<nw\/xs.any (λx=>decide (nw<x.tm))=true then 9 else 0
theorem CheckS_ok{κ:Ctx}{I:List Item}{nd:Int}{va:Value}{xs:List Lk}(hl:Sl κ I va xs):eu prog κ 214 [.agg #[e7 nd,va]] I (λr J=>r=e7 (checkS nd xs)/\I=J):=by
 refine Cg hl.le λhmax=>?_
 refine Ce1 Tryz.func214 C C ?_
 refine Aj (Ge1 (Bg (cs:=[_,_]) C C C) λb1=>Ga C (Ah (Au (Aj (Gf fld111_0 C (Gl ef ?_))))))
 refine Gr (Bi C C) (Gm C (Bs (d:=8) C (λg8=>?_) (λg8=>?_)))
 ·exact eb (eb (eb (Gr (Ap C C) (Ah (Do C (Aj (Ga C (Ah (Az (Ar (Ba C C I Ay ⟨by rw [show checkS nd xs=1 from (by first|(unfold checkS;rw [if_pos om];done)|exact hs.trans ((Ek om (by rw [badL_one om asm];decide)).trans (badL_one om asm)))],rfl⟩)))))))))))
 ·refine e9 (Ab fld111_0 C) (e9 (As ef) ?_)
  refine e9 (Ci C C) (Gr (Al C C) (Ah (Bd C (λc12=>?_) (λc12=>?_))))
  ·exact Aj (Ga C (Ah (Az (Ar (Ba C C I Ay ⟨by rw [show checkS nd xs=1 from (by first|(unfold checkS;rw [if_pos om];done)|exact hs.trans ((Ek om (by rw [badL_one om asm];decide)).trans (badL_one om asm)))],rfl⟩)))))
  ·refine A4 (Ai (Au (Aj (Gf fld111_1 C (Gl ty109 ?_)))))
   refine Gr (Cb (α:=Lk) (xs:=xs) A7 C (Bj hl)) (Gm C (Ah (Av (S4 16 15 14 1 C C C C) (A6 (Ca (σ:=Nat) (λs=>([(1,.pointer (some ⟨b1,0,none⟩)),(14,va),(15,e7 ((xs.length:Nat):Int)),(16,e7 ((s:Nat):Int))]:Env)) (λs=>e8 b1 [e7 nd,va] 111::I) (λs=>(s<=xs.length)/\(checkS nd xs=scanL (badL nd) Lk.lt (prevAt xs s) (xs.drop s))) (λs=>xs.length - s) 0 ⟨om,(by unfold checkS;rw [if_neg om];rfl)⟩ (Aa C (Aa C (Aa C (Aa Cr Bq)))) A5 ?_)))))
   rintro k hp
   obtain ⟨hk,hs⟩:=hp
   refine Aj (Gr (Bi C C) (Ah (Au (Bd C (λc17=>?_) (λc17=>?_)))))
   ·refine A4 (Ai (Au (A6 (Aj (Gm C (Gr (A2 (α:=Lk) (xs:=xs) A7 ty146 C C (Bj hl) om om) (Gr (B7 (α:=Lk) (xs:=xs) ty146 C (Bj hl) om om) (Ge1 (A9 ty146 C) λb2=>Ga C (Ge0 (E6 ty146) ?_)))))))))
    refine Ah (A6 (Aj (Gf fld146_0 C (Gl ef ?_))))
    refine Gr (Bi C C) (Gm C (Bs (d:=25) C (λg25=>?_) (λg25=>?_)))
    ·exact eb (eb (eb (eb (eb (Gr (Ap C C) (Gm C (eb (eb (eb (eb (eb (Gr (Ap C C) (Ga C (Ah (Av (S7 21 3 4 1 14 15 16 C C C C C C C) (Do C (Aj (Ga C (Ah (Az (A3 (A3 (Ar (Ar (A3 (Ar (Ba C C I Ay ⟨by rw [show checkS nd xs=6 from (hs.trans ((Ek om (by rw [badL_six om];decide)).trans (badL_six om)))],rfl⟩)))))))))))))))))))))))))))
    ·refine e9 (Ab fld146_0 C) (e9 (As ef) ?_)
     refine e9 (Ab fld146_1 C) (e9 (As ef) ?_)
     refine e9 (Cu C C) (Gr (Al C C) (Gm C (Bs (d:=32) C (λg32=>?_) (λg32=>?_))))
     ·exact eb (eb (eb (eb (eb (Gr (Ap C C) (Ga C (Ah (Av (S7 21 3 4 1 14 15 16 C C C C C C C) (Do C (Aj (Ga C (Ah (Az (A3 (A3 (Ar (Ar (A3 (Ar (Ba C C I Ay ⟨by rw [show checkS nd xs=6 from (hs.trans ((Ek om (by rw [badL_six om];decide)).trans (badL_six om)))],rfl⟩))))))))))))))))))))
     ·refine e9 (Ab fld146_1 C) (e9 (As ef) ?_)
      refine e9 (Ab fld111_0 C) (e9 (As ef) ?_)
      refine e9 (Cu C C) (Gr (Al C C) (Ga C (Ah (Av (S7 21 3 4 1 14 15 16 C C C C C C C) (Bd C (λc21=>?_) (λc21=>?_))))))
      ·exact Aj (Ga C (Ah (Az (A3 (A3 (Ar (Ar (A3 (Ar (Ba C C I Ay ⟨by rw [show checkS nd xs=6 from (hs.trans ((Ek om (by rw [badL_six om];decide)).trans (badL_six om)))],rfl⟩))))))))))
      ·refine Aj (Gf fld146_2 C (Gl ef ?_))
       refine Gf fld146_3 C (Gl ef ?_)
       refine Gf fld146_4 C (Gl ef ?_)
       refine Gc0 (Am call251 C C (RightW_ok ((e_ xs k).w) ((e_ xs k).lb) ((e_ xs k).sg))) ?_
       refine Gr (D5 C) (Ga C (Ah (Av (S7 39 3 4 1 14 15 16 C C C C C C C) (Bd C (λc39=>?_) (λc39=>?_)))))
       ·exact Aj (Ga C (Ah (Az (A3 (A3 (Ar (Ar (A3 (Ar (Ba C C I Ay ⟨by rw [show checkS nd xs=1 from (by first|(unfold checkS;rw [if_pos om];done)|exact hs.trans ((Ek om (by rw [badL_one om asm];decide)).trans (badL_one om asm)))],rfl⟩))))))))))
       ·refine Aj (Gf fld146_5 C (Gl ef ?_))
        refine Gr (Bi C C) (Gm C (Bs (d:=52) C (λg52=>?_) (λg52=>?_)))
        ·exact eb (eb (eb (Gr (Ap C C) (Ga C (Ah (Av (S7 48 3 4 1 14 15 16 C C C C C C C) (Do C (Aj (Ga C (Ah (Az (A3 (A3 (Ar (Ar (A3 (Ar (Ba C C I Ay ⟨by rw [show checkS nd xs=9 from (hs.trans ((Ek om (by rw [badL_nine om (by first|assumption|exact Classical.not_not.1 asm|exact Classical.byContradiction λh=>c47 (by rw [if_neg h];decide)) om];decide)).trans (badL_nine om (by first|assumption|exact Classical.not_not.1 asm|exact Classical.byContradiction λh=>c47 (by rw [if_neg h];decide)) om)))],rfl⟩))))))))))))))))))
        ·refine e9 (Ab fld146_5 C) (e9 (As ef) ?_)
         refine e9 (Ci C C) (Gr (Al C C) (Ga C (Ah (Av (S7 48 3 4 1 14 15 16 C C C C C C C) (Bd C (λc48=>?_) (λc48=>?_))))))
         ·exact Aj (Ga C (Ah (Az (A3 (A3 (Ar (Ar (A3 (Ar (Ba C C I Ay ⟨by rw [show checkS nd xs=9 from (hs.trans ((Ek om (by rw [badL_nine om (by first|assumption|exact Classical.not_not.1 asm|exact Classical.byContradiction λh=>c47 (by rw [if_neg h];decide)) om];decide)).trans (badL_nine om (by first|assumption|exact Classical.not_not.1 asm|exact Classical.byContradiction λh=>c47 (by rw [if_neg h];decide)) om)))],rfl⟩))))))))))
         ·refine Au (Bt mixed (C7 14 (Dr 0 C (Af C) (Dr 1 C (Ci C C) (Dr 2 C (Af C) (D4 (d:=60) C (λg60=>?_) (λg60=>?_)))))))
          ·refine Dro 3 C (Ab fld111_1 C) (Dro 4 C (As ty109) ?_)
           refine Dro 5 C (Af C) (Dro 6 C (Rsu C C) (Dro 7 C (A2 (α:=Lk) (xs:=xs) A7 ty146 C C (Bj hl) om om) (Dro 8 C (B7 (α:=Lk) (xs:=xs) ty146 C (Bj hl) om om) (Dro 9 C (Be (vs:=[_,_,_,_,_,_]) ty146) ?_))))
           refine Ds1 10 (Sc0 C (Am call255 C C (OrderL_ok (e_ xs ((k:Int) - 1)) (e_ xs k))) ?_)
           refine Dro 11 C (Cu C C) (Dr 12 C (Ap C C) (Dr 13 C (Bb C) (Dz (Ai (Av (S5 57 1 14 15 16 C C C C C) (Bd C (λc57=>?_) (λc57=>?_)))))))
           ·exact Aj (Ga C (Ah (Az (A3 (A3 (Ar (Ar (A3 (Ar (Ba C C I Ay ⟨by rw [show checkS nd xs=5 from (hs.trans (scanL_order om (badL_zero om (by first|assumption|exact Classical.not_not.1 asm|exact Classical.byContradiction λh=>c47 (by rw [if_neg h];decide)) om) om (by first|assumption|(intro h;have:=(Lk.cmp_lt _ _).2 h;omega))))],rfl⟩))))))))))
           ·exact A4 (Ak (Ak (Ai (A0 (Gr (Rad C C) (Gm C (Bf (Ch ((k+1)) ⟨om,(hs.trans (scanL_step om (badL_zero om (by first|assumption|exact Classical.not_not.1 asm|exact Classical.byContradiction λh=>c47 (by rw [if_neg h];decide)) om) (λh0=>by first|omega|exact (Lk.cmp_lt _ _).1 om|exact Classical.not_not.1 asm)))⟩))))))))
          ·exact Dpo 3 C (Dpo 4 C (Dpo 5 C (Dpo 6 C (Dpo 7 C (Dpo 8 C (Dpo 9 C (Dpo 10 C (Dpo 11 C (Dr 12 C (Al C C) (Dr 13 C (Bb C) (Dz (Ai (Av (S5 57 1 14 15 16 C C C C C) (Eo C (A4 (Ak (Ak (Ai (A0 (Gr (Rad C C) (Gm C (Bf (Ch ((k+1)) ⟨om,(hs.trans (scanL_step om (badL_zero om (by first|assumption|exact Classical.not_not.1 asm|exact Classical.byContradiction λh=>c47 (by rw [if_neg h];decide)) om) (λh0=>by first|omega|exact (Lk.cmp_lt _ _).1 om|exact Classical.not_not.1 asm)))⟩)))))))))))))))))))))))
   ·exact Bp (Ac (Ac (Aw (Ai (Aj (Ga C (Ah (Az (Ba C C I Ay ⟨by rw [show checkS nd xs=0 from (hs.trans (scanL_end om))],rfl⟩)))))))))
variable {κ:Ctx}{I:List Item}
theorem All1_ok(x:Lk):eu prog κ 295 [.agg #[e7 (x.u),e7 (x.v),e7 (x.w),e7 (x.lb),e7 (x.sg),e7 (x.tm)]] I (λr J=>r = .bool true/\I=J):=by
 refine Ce1 Tryz.func295 C C ?_
 exact Aj (Ge1 (Bg (cs:=[_,_,_,_,_,_]) C C C) λb1=>Ga C (Ah (Aj (Ga C (Ah (Az (Ba C C I Ay ⟨rfl,rfl⟩)))))))
theorem Age1_ok{b c:Nat}{nw kd wd mo:Int}(hb:BlkRd κ I b [e7 nw] 3)(hc:BlkRd κ I c [e7 kd,e7 wd,e7 mo] 31)(x:Lk):eu prog κ 297 [.agg #[e7 (x.u),e7 (x.v),e7 (x.w),e7 (x.lb),e7 (x.sg),e7 (x.tm)],.pointer (some ⟨b,0,none⟩),.pointer (some ⟨c,0,none⟩)] I (λr J=>r = .bool (decide (IntKind.i64.wrap (nw - x.tm)<wd))/\I=J):=by
 refine Ce3 Tryz.func297 C C ?_
 refine Aj (Ge1 (Bg (cs:=[_,_,_,_,_,_]) C C C) λb1=>Ga C (Ah (Aj (Gr (C6 ef C (C5 hb Ay) C) (Gf fld146_5 C (Gl ef ?_))))))
 exact Gr (Runs.subw C C) (Gf fld31_1 C (Gr (C6 ef C (C5 hc Ay) C) (Gr (Bi C C) (Ga C (Ah (Az (Ba C C I Ay ⟨rfl,rfl⟩)))))))
theorem Rule1_ok{nd kd wd mo nw:Int}{va:Value} :
    eu prog κ 294 [.agg #[e7 nd,va],.agg #[e7 kd,e7 wd,e7 mo],e7 nw] I (λr J=>r = .func (.func 295) #[] #[]/\I=J):=by
 refine Ce3 Tryz.func294 C C ?_
 exact Aj (Ge1 (Bg (cs:=[_,_]) C C C) λb1=>Ge1 (Bg (cs:=[_,_,_]) C C C) λb2=>Ga C (Ah (Aj (Ga C (Ah (Az (Ba C C I Ay ⟨rfl,rfl⟩)))))))
theorem Rule2_ok{nd kd wd mo nw:Int}{va:Value} :
    eu prog κ 296 [.agg #[e7 nd,va],.agg #[e7 kd,e7 wd,e7 mo],e7 nw] I (λr J=>∃b c,r = .func (.func 297) #[] #[.pointer (some ⟨b,0,none⟩),.pointer (some ⟨c,0,none⟩)]/\J=e8 b [e7 nw] 3::e8 c [e7 kd,e7 wd,e7 mo] 31::I):=by
 refine Ce3 Tryz.func296 C C ?_
 exact Aj (Ge1 (Bg (cs:=[_,_]) C C C) λb1=>Ge1 (Bg (cs:=[_,_,_]) C C C) λb2=>Ge1 (Bg (cs:=[_]) C C C) λb3=>Ga C (Ah (Aj (Gr (Er C C) (Ga C (Ah (Az (Ba C C (e8 b3 [e7 nw] 3::e8 b2 [e7 kd,e7 wd,e7 mo] 31::I) A5 ⟨b3,b2,rfl,rfl⟩))))))))
theorem Rules_ok  :
    eu prog κ 253 [] I (λr J=>∃m,r = .map (some m)/\J=mp m [({key:=e7 1,val:= .func (.func 294) #[] #[],born:=0}:MapEntry),({key:=e7 2,val:= .func (.func 296) #[] #[],born:=1}:MapEntry),({key:=e7 3,val:= .func (.func 298) #[] #[],born:=2}:MapEntry)] 3::I):=by
 refine Ce0 Tryz.func253 C C ?_
 refine Aj (Ga C (Ah (Aj (Ge1 (Eff.makeMap C) λmr1=>?_))))
 refine Ge0 (Dt Eb Bo C C C C C am) ?_
 refine Ge0 (Dt Eb Bo C C C C C am) ?_
 refine Ge0 (Dt Eb Bo C C C C C am) ?_
 exact Gm C (Ga C (Ah (Az (Ba C C (mp mr1 [({key:=e7 1,val:= .func (.func 294) #[] #[],born:=0}:MapEntry),({key:=e7 2,val:= .func (.func 296) #[] #[],born:=1}:MapEntry),({key:=e7 3,val:= .func (.func 298) #[] #[],born:=2}:MapEntry)] 3::I) A5 ⟨mr1,rfl,rfl⟩))))
variable {κ:Ctx}{I:List Item}
def Lk.lcmp(a c:Lk):Int:=orL [cmpI c.tm a.tm,Lk.cmp c a]
def Lk.late(a c:Lk):Prop:=c.tm<a.tm\/(a.tm=c.tm/\Lk.lt c a)
instance:DecidableRel Lk.late:=λa c=>by unfold Lk.late;infer_instance
theorem Lk.lcmp_lt(a c:Lk):Lk.lcmp a c<0↔Lk.late a c:=by
 unfold Lk.lcmp Lk.late
 rw [←Lk.cmp_lt]
 simp only [orL,cmpI]
 generalize Lk.cmp c a=z
 (repeat' split)<;>omega
def SortedK(xs ys:List Lk):Prop:=ys.Perm xs/\ys.Pairwise λa b=>¬Lk.late b a
open Go.Proofs Go.Shelf Go.Sort in
theorem swo_lk:SWO (ltOf Lk.lcmp) where
 irrefl x:=decide_eq_false λh=>by rw [Lk.lcmp_lt] at h;unfold Lk.late Lk.lt Pt.lt Lk.p at h;simp only at h;omega
 trans x y z h1 h2:=decide_eq_true (by
  have a:=of_decide_eq_true h1
  have b:=of_decide_eq_true h2
  rw [Lk.lcmp_lt] at a b ⊢
  unfold Lk.late Lk.lt Pt.lt Lk.p at a b ⊢
  simp only at a b ⊢
  omega)
 ntrans x y z h1 h2:=decide_eq_false λh=>by
  have a:=of_decide_eq_false h1
  have b:=of_decide_eq_false h2
  rw [Lk.lcmp_lt] at a b h
  unfold Lk.late Lk.lt Pt.lt Lk.p at a b h
  simp only at a b h
  omega
theorem CloneL{a:Option Addr}{c:Nat}{xs:List Lk}(hl:Sl κ I (.slice a xs.length c) xs)(hb:xs.length<=1000000000):eu prog κ 216 [.slice a xs.length c] I (λr J=>∃a' c',r = .slice a' xs.length c'/\J=vc 146 (.slice a' xs.length c') xs::I):=by
 refine Cg (p:=a.isNone=true->xs=[]/\c=0) (λw hs hn=>hl.isNone w hs hn) λhnone=>?_
 refine Ce1 Tryz.func216 C C ?_
 refine Aj (Ga C (Ah (Au (Aj (Gm C (Gr (Runs.eqnil A7 C C) (Ah (Ez C (λc4=>?_) (λc4=>?_)))))))))
 ·refine Aj (Ga C (Ah (Az (Ar ?_))))
  obtain ⟨hx0,_⟩:=hnone c4
  subst hx0
  exact Ba C C (vc 146 (.slice none ([]:List Lk).length 0) ([]:List Lk)::I) (B9 _ _) ⟨none,0,rfl,rfl⟩
 ·refine A4 (Ai (Aj (Ge1 (Eff.bs0 (α:=Lk) A7 ty146 C) λad1=>?_)))
  refine Gm C (Ge2 (Cn (α:=Lk) (e:=146) (xs:=([]:List Lk)) (ys:=xs) A7 ty146 C C C mm (Bj hl) (by simp only [List.length_nil];omega) dc C (λ_ _=>am)) λad2 cp3=>?_)
  exact Ga C (Ah (Az (Ba C C (vc 146 (.slice ad2 xs.length cp3) xs::I) A5 ⟨ad2,cp3,rfl,rfl⟩)))
theorem LastCmp_ok(a c:Lk):eu prog κ 322 [.agg #[e7 (a.u),e7 (a.v),e7 (a.w),e7 (a.lb),e7 (a.sg),e7 (a.tm)],.agg #[e7 (c.u),e7 (c.v),e7 (c.w),e7 (c.lb),e7 (c.sg),e7 (c.tm)]] I (λr J=>r=e7 (Lk.lcmp a c)/\I=J):=by
 refine Ce2 Tryz.func322 C C ?_
 refine Aj (Ge1 (Bg (cs:=[_,_,_,_,_,_]) C C C) λb1=>Ge1 (Bg (cs:=[_,_,_,_,_,_]) C C C) λb2=>Ga C (Ah (Au (Bt mixed (C7 10 (Dr 0 C (Ab fld146_5 C) (Dr 1 C (As ef) ?_)))))))
 refine Dr 2 C (Ab fld146_5 C) (Dr 3 C (As ef) ?_)
 refine Dr 5 C (Be (vs:=[_,_,_,_,_,_]) ty146) ?_
 refine Dr 6 C (Be (vs:=[_,_,_,_,_,_]) ty146) ?_
 refine Ds1 4 (Sc0 C (Am call225 C C (Compare_ok c.tm a.tm)) ?_)
 refine Ds1 7 (Sc0 C (Am call255 C C (OrderL_ok c a)) ?_)
 refine Ds1 8 (Se1 C (Cj (α:=Int) (cs:=[_,_]) (xs:=[cmpI c.tm a.tm,Lk.cmp c a]) Ad ef C C dc dc C C C C) λad3=>?_)
 refine Ds1 9 (Sc0 C (Am call224 C C (Or_ok Bk)) ?_)
 refine Dc kr ?_
 refine Fc (i:=10) kr C (Bm C) C C (Bb C) ?_
 refine De kr ?_
 exact Ai (Av (S1 4 C) (Az (Ba C C I Ay ⟨rfl,rfl⟩)))
open Go.Proofs Go.Shelf Go.Sort in
theorem SortK_ok{κ:Ctx}{I:List Item}{a:Option Addr}{c:Nat}{xs:List Lk}(hsz:xs.length<1000000000):eu prog κ 321 [.slice a xs.length c,.func (.func 322) #[] #[]] (vc 146 (.slice a xs.length c) xs::I) λr J=>∃ys:List Lk,(r = .tuple #[]/\SortedK xs ys/\ys.length=xs.length)/\J=[]++vc 146 (.slice a xs.length c) ys::I:=
 (sort_any (α:=Lk) (ρ:=Tryz.sort321_ren) Tryz.sort321 Tryz.isAgg146 Tryz.sizeOf146 Lk.lcmp swo_lk 322 #[] (enters_of Tryz.func322 (by kernel_rfl) rfl) (λx y W=>lays_of (LastCmp_ok x y)) om).mono λr J ⟨ys,⟨h1,h2,h3⟩,h4⟩=>
  ⟨ys,⟨h1,⟨h2,h3.imp fun {a b} h=>by rw [←Lk.lcmp_lt];exact of_decide_eq_false h⟩,h2.length_eq⟩,by rw [h4,h2.length_eq]⟩
theorem SortK_at{F:Item->List Item}{a:Option Addr}{n c:Nat}{xs:List Lk}(hat:AtF I (vc 146 (.slice a n c) xs) F)(hn:xs.length=n)(hsz:xs.length<1000000000):eu prog κ 321 [.slice a n c,.func (.func 322) #[] #[]] I λr J=>∃ys:List Lk,(r = .tuple #[]/\SortedK xs ys/\ys.length=n)/\J=[]++F (vc 146 (.slice a n c) ys):=
 Ej (Z:=λ_=>[]) (X:=λys:List Lk=>vc 146 (.slice a n c) ys) (Post:=λr ys=>r = .tuple #[]/\SortedK xs ys/\ys.length=n) hat λJ _ _=>by subst hn;exact SortK_ok hsz
theorem Last_ok{nd mo:Int}{a0:Option Addr}{c0:Nat}{xs:List Lk}(hl:Sl κ I (.slice a0 xs.length c0) xs)(h0:0<=mo)(hsz:xs.length<=1000000):eu prog κ 299 [.agg #[e7 nd,.slice a0 xs.length c0],e7 mo] I (λr J=>∃(a:Option Addr) (c:Nat) (ys:List Lk) (m:Nat),r = .slice a (List.take m ys).length c/\(SortedK xs ys/\ys.length=xs.length/\(m:Int)<=mo/\m<=xs.length/\((m:Int)=mo\/m=xs.length))/\J=vc 146 (.slice a xs.length c) ys::I):=by
 refine Ce2 Tryz.func299 C C ?_
 refine Aj (Ge1 (Bg (cs:=[_,_]) C C C) λb1=>Ga C (Ah (Aj (Gf fld111_1 C (Gl ty109 ?_)))))
 refine G.e (Am call216 C C (CloneL (xs:=xs) (Bj hl) om)) ?_
 rintro _ _ ⟨_,_,⟨ad2,cp3,rfl,rfl⟩,rfl,rfl⟩
 refine Ga C (Ah (Aj (Gm C (G.e (Am call321 C C (SortK_at (by repeat (first|exact AtF.head _ _|apply AtF.tail)) C om)) ?_))))
 rintro _ _ ⟨_,_,⟨ys4,⟨rfl,hsys4,hlys4⟩,rfl⟩,rfl,rfl⟩
 refine Ah (Aj (Gm C (Gm C (Gm C (Gr (Bz A7 C) (Gr (E9 C C) (Gr (Runs.hi (α:=Lk) (xs:=ys4) (h:=(if ((xs.length:Nat):Int)<mo then ((xs.length:Nat):Int) else mo).toNat) A7 ty146 C C om Bk (by split<;>omega)) (Ga C (Ah (Av (S1 4 C) (Az ?_)))))))))))
 have hmn:(((((if ((xs.length:Nat):Int)<mo then ((xs.length:Nat):Int) else mo).toNat)):Nat):Int)<=mo/\(((if ((xs.length:Nat):Int)<mo then ((xs.length:Nat):Int) else mo).toNat))<=xs.length/\((((((if ((xs.length:Nat):Int)<mo then ((xs.length:Nat):Int) else mo).toNat)):Nat):Int)=mo\/(((if ((xs.length:Nat):Int)<mo then ((xs.length:Nat):Int) else mo).toNat))=xs.length):=by split<;>omega
 exact Ba C C (vc 146 (.slice ad2 xs.length cp3) (ys4)::I) A5 ⟨ad2,cp3,ys4,((if ((xs.length:Nat):Int)<mo then ((xs.length:Nat):Int) else mo).toNat),rfl,⟨hsys4,hlys4,hmn⟩,rfl⟩
theorem IndexL_ok{v:Value}{xs:List Lk}(hl:Sl κ I v xs)(x:Lk):eu prog κ 323 [v,.agg #[e7 (x.u),e7 (x.v),e7 (x.w),e7 (x.lb),e7 (x.sg),e7 (x.tm)]] I (λr J=>∃y:Int,r=e7 y/\(0<=y↔x∈xs)/\I=J):=by
 refine Cg hl.le λhmax=>?_
 refine Ce2 Tryz.func323 C C ?_
 refine Aj (Ge1 (Bg (cs:=[_,_,_,_,_,_]) C C C) λb1=>Ga C (Ah (Au (Aj (Gm C (Gr (Cb (α:=Lk) (xs:=xs) A7 C (Bj hl)) (Gm C (Ah (A6 (Ca (σ:=Nat) (λs=>([(0,v),(3,.pointer (some ⟨b1,0,none⟩)),(7,e7 ((xs.length:Nat):Int)),(8,e7 ((s:Nat):Int))]:Env)) (λs=>e8 b1 [e7 (x.u),e7 (x.v),e7 (x.w),e7 (x.lb),e7 (x.sg),e7 (x.tm)] 146::I) (λs=>(s<=xs.length)/\(∀j,j<s->e_ xs j≠x)) (λs=>xs.length - s) 0 ⟨om,all_zero⟩ (Aa C (Aa C (Aa C (Aa Cr Bq)))) A5 ?_))))))))))
 rintro k hp
 obtain ⟨hk,hn⟩:=hp
 refine Aj (Gr (Bi C C) (Ah (Au (Bd C (λc9=>?_) (λc9=>?_)))))
 ·refine A4 (Ai (Au (A6 (Aj (Gm C (Ga C (Ah (Au (Bt mixed (C7 6 (Dr 0 C (Be (vs:=[_,_,_,_,_,_]) ty146) ?_)))))))))))
  refine Dr 1 C (Af C) (Dr 2 C (Af C) (Dr 3 C (A2 (α:=Lk) (xs:=xs) A7 ty146 C C (Bj hl) om om) (Dr 4 C (B7 (α:=Lk) (xs:=xs) ty146 C (Bj hl) om om) (Dr 5 C (Runs.eqlT (α:=Lk) (a:=x) (b:=(e_ xs k)) eqt146 C C) (Dz (Ai (Bd C (λc16=>?_) (λc16=>?_))))))))
  ·refine Aj (Gm C (Ga C (Ah (Av (S1 4 C) (Az (A3 (Ar (Ar (A3 (Ar ?_))))))))))
   have hm:x∈xs:=by rw [show x=e_ xs k from c16];exact Cq om om
   exact Ba C C I Ay ⟨_,rfl,⟨λ_=>hm,λ_=>by omega⟩,rfl⟩
  ·exact A4 (Ak (Ai (A0 (Gr (Rad C C) (Gm C (Bf (Ch ((k+1)) ⟨om,(all_succ hn (λe=>c16 e.symm))⟩)))))))
 ·refine Bp (Ac (Ac (Aw (Ai (Aj (Ga C (Ah (Az ?_))))))))
  have hm:x∉xs:=not_mem_at hn om
  exact Ba C C I Ay ⟨_,rfl,⟨λh=>absurd h dc,λh=>absurd h hm⟩,rfl⟩
theorem ContainsL_ok{v:Value}{xs:List Lk}(hl:Sl κ I v xs)(x:Lk):eu prog κ 301 [v,.agg #[e7 (x.u),e7 (x.v),e7 (x.w),e7 (x.lb),e7 (x.sg),e7 (x.tm)]] I (λr J=>r = .bool (decide (x∈xs))/\I=J):=by
 refine Ce2 Tryz.func301 C C ?_
 refine Aj (Ge1 (Bg (cs:=[_,_,_,_,_,_]) C C C) λb1=>Ga C (Ah (Aj (Gm C (Gl6 ty146 ?_)))))
 refine G.e (Am call323 C C (IndexL_ok (Bj hl) x)) ?_
 rintro _ _ ⟨_,_,⟨y2,rfl,hy2,rfl⟩,rfl,rfl⟩
 exact Gr (Cu C C) (Ga C (Ah (Az (Ba C C I Ay ⟨by rw [decide_eq_decide.2 asm],rfl⟩))))
theorem Last1_ok{b:Nat}{v:Value}{zs:List Lk}(hb:BlkRd κ I b [v] 109)(hz:Sl κ I v zs)(x:Lk):eu prog κ 300 [.agg #[e7 (x.u),e7 (x.v),e7 (x.w),e7 (x.lb),e7 (x.sg),e7 (x.tm)],.pointer (some ⟨b,0,none⟩)] I (λr J=>r = .bool (decide (x∈zs))/\I=J):=by
 refine Ce2 Tryz.func300 C C ?_
 refine Aj (Ge1 (Bg (cs:=[_,_,_,_,_,_]) C C C) λb1=>Ga C (Ah (Aj (Gr (C6 ty109 C (C5 hb Ay) C) (Gl6 ty146 ?_)))))
 refine Gc0 (Am call301 C C (ContainsL_ok (Bj hz) x)) ?_
 exact Ga C (Ah (Az (Ba C C I Ay ⟨rfl,rfl⟩)))
theorem Rule3_ok{nd kd wd mo nw:Int}{a0:Option Addr}{c0:Nat}{xs:List Lk}(hl:Sl κ I (.slice a0 xs.length c0) xs)(h0:0<=mo)(hsz:xs.length<=1000000):eu prog κ 298 [.agg #[e7 nd,.slice a0 xs.length c0],.agg #[e7 kd,e7 wd,e7 mo],e7 nw] I (λr J=>∃(b:Nat) (a:Option Addr) (c:Nat) (ys:List Lk) (m:Nat),r = .func (.func 300) #[] #[.pointer (some ⟨b,0,none⟩)]/\(SortedK xs ys/\ys.length=xs.length/\(m:Int)<=mo/\m<=xs.length/\((m:Int)=mo\/m=xs.length))/\J=e8 b [.slice a (List.take m ys).length c] 109::vc 146 (.slice a xs.length c) ys::I):=by
 refine Ce3 Tryz.func298 C C ?_
 refine Aj (Ge1 (Bg (cs:=[_,_]) C C C) λb1=>Ge1 (Bg (cs:=[_,_,_]) C C C) λb2=>Ga C (Ah (Aj (Gl2 ty111 ?_))))
 refine Gf fld31_2 C (Gl ef ?_)
 refine G.e (Am call299 C C (Last_ok (nd:=nd) (Bj hl) h0 om)) ?_
 rintro _ _ ⟨_,_,⟨ad3,cp4,ys5,mm6,rfl,hzys5,rfl⟩,rfl,rfl⟩
 refine Ge1 (A9 ty109 C) λb7=>Ge0 (B4 (cs:=[_]) (vs:=[_]) (cs':=[_]) ty109) ?_
 exact Ah (Aj (Gr (Er C C) (Ga C (Ah (Az (Ba C C (e8 b7 [.slice ad3 (List.take mm6 ys5).length cp4] 109::vc 146 (.slice ad3 xs.length cp4) (ys5)::I) A5 ⟨b7,ad3,cp4,ys5,mm6,rfl,hzys5,rfl⟩))))))
end Go.Sl
/- Windows: what is present. The plain laws. No Go. No conditions. -/
namespace Go.Sl
theorem scan0{n:Int}:∀(xs:List Lk) (q:Lk),scanL (badL n) Lk.lt (some q) xs=0->(∀x∈xs,badL n x=0)/\(q::xs).Pairwise Lk.lt
 |[],q,_=>by simp
 |p::ps,q,h=>by
  simp only [scanL] at h
  by_cases hb:badL n p=0
  ·rw [if_neg (by simp [hb])] at h
   by_cases hl:Lk.lt q p
   ·rw [if_pos hl] at h
    obtain ⟨h1,h2⟩:=scan0 ps p h
    refine ⟨λx hx=>?_,List.pairwise_cons.2 ⟨λx hx=>?_,h2⟩⟩
    ·rcases List.mem_cons.1 hx with rfl|hx
     ·exact hb
     ·exact h1 x hx
    ·rcases List.mem_cons.1 hx with rfl|hx
     ·exact hl
     ·exact Pt.lin.tr _ _ _ hl ((List.pairwise_cons.1 h2).1 x hx)
   ·rw [if_neg hl] at h;cases h
  ·rw [if_pos hb] at h;exact absurd h hb
theorem checkS_ok{n:Int}{xs:List Lk}(h:checkS n xs=0):(0<=n/\n<=64)/\(∀x∈xs,badL n x=0)/\xs.Pairwise Lk.lt:=by
 unfold checkS at h
 by_cases hn:n<0\/64<n
 ·rw [if_pos hn] at h;cases h
 ·rw [if_neg hn] at h
  refine ⟨by omega,?_⟩
  cases xs with
  |nil=>exact ⟨(λx hx=>by cases hx),List.Pairwise.nil⟩
  |cons p ps=>
   simp only [scanL] at h
   by_cases hb:badL n p=0
   ·rw [if_neg (by simp [hb])] at h
    obtain ⟨h1,h2⟩:=scan0 ps p h
    exact ⟨λx hx=>by
     rcases List.mem_cons.1 hx with rfl|hx
     ·exact hb
     ·exact h1 x hx,h2⟩
   ·rw [if_pos hb] at h;exact absurd h hb
theorem badL_tm{n:Int}{l:Lk}(h:badL n l=0):0<=l.tm/\l.tm<=1048576:=by
 unfold badL at h
 split at h
 ·cases h
 ·split at h
  ·cases h
  ·split at h
   ·cases h
   ·omega
structure AskOk (nd:Int) (xs:List Lk) (kd wd mo nw:Int):Prop where
 kind:1<=kd/\kd<=3
 width:kd=2->1<=wd/\wd<=1048576
 most:kd=3->0<=mo/\mo<=2016
 nodes:0<=nd/\nd<=64
 asc:xs.Pairwise Lk.lt
 now:0<=nw/\nw<=1048576
 tm:∀x∈xs,0<=x.tm/\x.tm<=nw
theorem askE_ok{nd:Int}{xs:List Lk}{kd wd mo nw:Int}(h:askE nd xs kd wd mo nw=0):AskOk nd xs kd wd mo nw:=by
 unfold askE at h
 by_cases h1:checkW kd wd mo=0
 ·rw [if_neg (by simp [h1])] at h
  by_cases h2:checkS nd xs=0
  ·rw [if_neg (by simp [h2])] at h
   obtain ⟨h3,h4,h5⟩:=checkS_ok h2
   split at h
   ·cases h
   ·rename_i h6
    have hw:(1<=kd/\kd<=3)/\(kd=2->1<=wd/\wd<=1048576)/\(kd=3->0<=mo/\mo<=2016):=by
     unfold checkW at h1
     split at h1
     ·cases h1
     ·split at h1
      ·cases h1
      ·omega
    refine ⟨hw.1,hw.2.1,hw.2.2,h3,h5,by omega,λx hx=>?_⟩
    have h7:=badL_tm (h4 x hx)
    refine ⟨h7.1,?_⟩
    by_cases h8:nw<x.tm
    ·exact absurd (.inr (.inr (List.any_eq_true.2 ⟨x,hx,decide_eq_true h8⟩))) h6
    ·omega
  ·rw [if_pos h2] at h;exact absurd h h2
 ·rw [if_pos h1] at h;exact absurd h h1
def rankL(xs:List Lk)(x:Lk):Nat:=(xs.filter λy=>decide (Lk.late y x)).length
def inW(kd wd mo nw:Int)(xs:List Lk)(x:Lk):Bool:=if kd=2 then decide (nw - x.tm<wd) else if kd=3 then decide ((rankL xs x:Int)<mo) else true
theorem late_irr(x:Lk):¬Lk.late x x:=by unfold Lk.late Lk.lt Pt.lt;omega
theorem late_asymm{x y:Lk}(h:Lk.late x y):¬Lk.late y x:=by unfold Lk.late Lk.lt Pt.lt at *; omega
theorem rank_at:∀(ys:List Lk) (i:Nat) (hi:i<ys.length),ys.Pairwise Lk.late->rankL ys ys[i]=i
 |[],i,hi,_=>absurd hi (by simp)
 |y::ys,0,hi,hp=>by
  obtain ⟨h1,h2⟩:=List.pairwise_cons.1 hp
  unfold rankL
  rw [List.filter_eq_nil_iff.2 λz hz=>?_]
  ·rfl
  ·simp only [List.getElem_cons_zero,decide_eq_true_eq]
   rcases List.mem_cons.1 hz with rfl|hz
   ·exact late_irr _
   ·exact late_asymm (h1 z hz)
 |y::ys,i+1,hi,hp=>by
  obtain ⟨h1,h2⟩:=List.pairwise_cons.1 hp
  have hi':i<ys.length:=by simpa using hi
  have ih:=rank_at ys i hi' h2
  unfold rankL at ih ⊢
  rw [List.getElem_cons_succ,List.filter_cons,if_pos (decide_eq_true (h1 _ (List.getElem_mem hi'))),List.length_cons,ih]
theorem sortedK_late{xs ys:List Lk}(h:SortedK xs ys)(ha:xs.Pairwise Lk.lt):ys.Pairwise Lk.late:=by
 have h1:xs.Pairwise λa b=>Lk.late a b\/Lk.late b a:=ha.imp fun {a b} hab=>by unfold Lk.late Lk.lt Pt.lt at *; omega
 have h2:ys.Pairwise λa b=>Lk.late a b\/Lk.late b a:=(h.1.pairwise_iff fun {x y} hxy=>hxy.symm).2 h1
 exact (h2.and h.2).imp fun {a b} hab=>hab.1.resolve_right hab.2
theorem take_rank{xs ys:List Lk}(h:SortedK xs ys)(ha:xs.Pairwise Lk.lt){x:Lk}(hx:x∈xs)(m:Nat):x∈ys.take m↔rankL xs x<m:=by
 have hp:=sortedK_late h ha
 have hr:∀z,rankL xs z=rankL ys z:=λz=>by unfold rankL;exact ((h.1.filter _).length_eq).symm
 constructor
 ·intro hm
  obtain ⟨j,hj,he⟩:=List.mem_take_iff_getElem.1 hm
  rw [hr,←he,rank_at ys j om hp];omega
 ·intro hm
  obtain ⟨j,hj,he⟩:=List.getElem_of_mem (h.1.mem_iff.2 hx)
  rw [hr,←he,rank_at ys j hj hp] at hm
  exact List.mem_take_iff_getElem.2 ⟨j,by omega,he⟩
theorem inW_all{kd wd mo nw:Int}{xs:List Lk}(hk:kd=1):(xs.filter λ_=>true)=xs.filter (inW kd wd mo nw xs):=
 List.filter_congr λx hx=>by unfold inW;rw [if_neg om,if_neg om]
theorem inW_age{nd kd wd mo nw:Int}{xs:List Lk}(h:AskOk nd xs kd wd mo nw)(hk:kd=2):(xs.filter λx=>decide (IntKind.i64.wrap (nw - x.tm)<wd))=xs.filter (inW kd wd mo nw xs):=
 List.filter_congr λx hx=>by
  have h1:=h.tm x hx
  have h2:=h.now
  unfold inW;rw [if_pos hk,InR.wrap (by unfold InR;omega)]
theorem inW_last{nd kd wd mo nw:Int}{xs ys:List Lk}{m:Nat}(h:AskOk nd xs kd wd mo nw)(hk:kd=3)(hs:SortedK xs ys/\ys.length=xs.length/\(m:Int)<=mo/\m<=xs.length/\((m:Int)=mo\/m=xs.length)) :
  (xs.filter λx=>decide (x∈ys.take m))=xs.filter (inW kd wd mo nw xs):=
 List.filter_congr λx hx=>by
  unfold inW;rw [if_neg om,if_pos hk,decide_eq_decide,take_rank hs.1 h.asc hx]
  have hlt:rankL xs x<xs.length:=by
   have h1:=List.length_filter_le (λy=>decide (Lk.late y x)) xs
   obtain ⟨j,hj,he⟩:=List.getElem_of_mem (hs.1.1.mem_iff.2 hx)
   have h2:rankL xs x=j:=by
    have:rankL xs x=rankL ys x:=by unfold rankL;exact ((hs.1.1.filter _).length_eq).symm
    rw [this,←he,rank_at ys j hj (sortedK_late hs.1 h.asc)]
   omega
  omega
end Go.Sl
namespace Go.Sl
open Go.Proofs
set_option maxRecDepth 4000
variable {κ:Ctx}{I:List Item}
def cutEv(nw:Int)(l:Lk):Ev:=⟨2,nw,l.u,l.v,0,0,0⟩
theorem gone_yes{P:Lk->Bool}{f:Lk->Ev}{xs:List Lk}{k:Nat}(hk:k<xs.length)(h:P (e_ xs k)=false):((xs.take (k+1)).filter λx=> !P x).map f=((xs.take k).filter λx=> !P x).map f++[f (e_ xs k)]:=by
 rw [Di xs k hk,List.filter_append,List.map_append];simp [h]
theorem gone_no{P:Lk->Bool}{f:Lk->Ev}{xs:List Lk}{k:Nat}(hk:k<xs.length)(h:P (e_ xs k)=true):((xs.take (k+1)).filter λx=> !P x).map f=((xs.take k).filter λx=> !P x).map f:=by
 rw [Di xs k hk,List.filter_append,List.map_append];simp [h]
theorem filt_not{P R:Lk->Bool}{xs:List Lk}(h:xs.filter P=xs.filter R):(xs.filter λx=> !P x)=xs.filter λx=> !R x:=
 List.filter_congr λx hx=>by
  have h1:x∈xs.filter P↔x∈xs.filter R:=by rw [h]
  rw [List.mem_filter,List.mem_filter] at h1
  simp only [hx,true_and] at h1
  cases hp:P x<;>cases hr:R x<;>simp_all
def goneL(kd wd mo nw:Int)(xs:List Lk):List Ev:=(xs.filter λx=> !inW kd wd mo nw xs x).map (cutEv nw)
theorem Gone_ok(l:Lk)(nw:Int):eu prog κ 254 [.agg #[e7 (l.u),e7 (l.v),e7 (l.w),e7 (l.lb),e7 (l.sg),e7 (l.tm)],e7 nw] I (λr J=>r = .agg #[e7 2,e7 nw,e7 l.u,e7 l.v,e7 0,e7 0,e7 0]/\I=J):=by
 refine Ce2 Tryz.func254 C C ?_
 refine Aj (Ge1 (Bg (cs:=[_,_,_,_,_,_]) C C C) λb1=>Ge1 (A9 ty108 C) λb2=>Ah (Aj (Gm C (Gf fld146_0 C (Gl ef ?_)))))
 refine Gf fld146_1 C (Gl ef ?_)
 refine Gr (Bc (cells:=[_,_,_,_,_,_,_]) ty108 Ee pl108 C C) (Ge0 (Fl ty108) ?_)
 exact Ah (Az (Cf C ty108 C mm C I Ay ⟨rfl,rfl⟩))
theorem Gone1_ok{nd wd mo nw:Int}{a0:Option Addr}{c0:Nat}{xs:List Lk}(hl:Sl κ I (.slice a0 xs.length c0) xs)(hsz:xs.length<=1000000)(hA:askE nd xs 1 wd mo nw=0):eu prog κ 213 [.agg #[e7 nd,.slice a0 xs.length c0],.agg #[e7 1,e7 wd,e7 mo],e7 nw] I (λr J=>∃a c,r = .slice a (goneL 1 wd mo nw xs).length c/\J=vc 108 (.slice a (goneL 1 wd mo nw xs).length c) (goneL 1 wd mo nw xs)::I):=by
 refine Ce3 Tryz.func213 C C ?_
 refine Aj (Ge1 (Bg (cs:=[_,_]) C C C) λb1=>Ge1 (Bg (cs:=[_,_,_]) C C C) λb2=>Ga C (Ah (Au (Bt mixed (C7 9 (Dr 1 C (Ab fld31_0 C) (Dr 2 C (As ef) ?_)))))))
 refine Dr 4 C (Be (vs:=[_,_]) ty111) ?_
 refine Dr 5 C (Be (vs:=[_,_,_]) ty31) ?_
 refine Dr 6 C (Af C) (Ds1 0 (Se C (Am call253 C C Rules_ok) ?_))
 rintro _ _ ⟨_,_,⟨mr3,rfl,rfl⟩,rfl,rfl⟩
 refine ⟨A5,?_⟩
 refine Ds1 3 (Sr C (Df (i:=0) Eb Bo C C C mm C) A5 ?_)
 refine Ds1 7 (Se C (C0 call294 C C C Rule1_ok) ?_)
 rintro _ _ ⟨_,_,⟨rfl,rfl⟩,rfl,rfl⟩
 refine ⟨A5,?_⟩
 refine Dr 8 C (Bb C) (Dz (Ai (Av (S3 7 3 2 C C C) (Aj (Ga C (Ah (Au (Aj (Gf fld111_1 C (Gl ty109 ?_))))))))))
 refine Gr (Bz A7 C) (Gm C (Ah (A6 (Ca (σ:=Nat×(Option Addr)×Nat×(List Ev)) (λs=>([(2,e7 nw),(7,.func (.func 295) #[] #[]),(8,.slice s.2.1 s.2.2.2.length s.2.2.1),(20,.slice a0 xs.length c0),(21,e7 ((xs.length:Nat):Int)),(22,e7 ((s.1:Nat):Int))]:Env)) (λs=>vc 108 (.slice s.2.1 s.2.2.2.length s.2.2.1) (s.2.2.2)::mp mr3 [({key:=e7 1,val:= .func (.func 294) #[] #[],born:=0}:MapEntry),({key:=e7 2,val:= .func (.func 296) #[] #[],born:=1}:MapEntry),({key:=e7 3,val:= .func (.func 298) #[] #[],born:=2}:MapEntry)] 3::e8 b2 [e7 1,e7 wd,e7 mo] 31::e8 b1 [e7 nd,.slice a0 xs.length c0] 111::I) (λs=>(s.1<=xs.length)/\(s.2.2.2=((xs.take s.1).filter λx=> !(λ_:Lk=>true) x).map (cutEv nw))) (λs=>xs.length - s.1) (0,none,0,[]) ⟨om,rfl⟩ (Aa C (Aa C (Aa (Da C (by first|rfl|simp)) (Aa C (Aa C (Aa Cr Bq)))))) (B9 _ _) ?_))))
 rintro ⟨k,a,c,out⟩ hp
 dsimp only at hp ⊢
 obtain ⟨hk,ho⟩:=hp
 have hol:out.length<=xs.length:=by rw [ho,List.length_map];refine Nat.le_trans (List.length_filter_le _ _) ?_;simp only [List.length_take];omega
 refine Aj (Gr (Bi C C) (Ah (Au (Bd C (λc23=>?_) (λc23=>?_)))))
 ·refine A4 (Ai (Au (A6 (Aj (Gr (A2 (α:=Lk) (xs:=xs) A7 ty146 C C (Bj hl) om om) (Gr (B7 (α:=Lk) (xs:=xs) ty146 C (Bj hl) om om) (Ge1 (A9 ty146 C) λb4=>Ge0 (E6 ty146) ?_)))))))
  refine Ah (Aj (Gm C (Gl6 ty146 ?_)))
  refine Gc0 (C0 call295 C C C (All1_ok (e_ xs k))) ?_
  exact Gr (B8 C) (Ah (Av (S8 29 10 2 7 8 20 21 22 C C C C C C C C) (Eo C (A4 (Ak (Ai (A0 (Gr (Rad C C) (Gm C (Bf (Ch ((k+1),(a),(c),(out)) (by dsimp only;exact ⟨om,(by first|(rw [gone_yes (P:=(λ_:Lk=>true)) om (decide_eq_false c29),←ho];done)|(rw [gone_yes (P:=(λ_:Lk=>true)) om (decide_eq_false c29),←ho];rfl)|(rw [gone_no (P:=(λ_:Lk=>true)) om (decide_eq_true (Classical.not_not.1 c29)),←ho])|(rw [gone_no (P:=(λ_:Lk=>true)) om rfl,←ho]))⟩))))))))))))
 ·refine Bp (Ac (Ac (Aw (Ai (Aj (Gm C (Ga C (Ah (Az ?_)))))))))
  have hE:out=(goneL 1 wd mo nw xs):=by rw [ho,show List.take k xs=xs from List.take_of_length_le om];unfold goneL;rw [filt_not (P:=(λ_:Lk=>true)) (inW_all rfl)]
  subst hE
  exact Ba C C (vc 108 (.slice a (goneL 1 wd mo nw xs).length c) (goneL 1 wd mo nw xs)::I) A5 ⟨a,c,rfl,rfl⟩
theorem Gone2_ok{nd wd mo nw:Int}{a0:Option Addr}{c0:Nat}{xs:List Lk}(hl:Sl κ I (.slice a0 xs.length c0) xs)(hsz:xs.length<=1000000)(hA:askE nd xs 2 wd mo nw=0):eu prog κ 213 [.agg #[e7 nd,.slice a0 xs.length c0],.agg #[e7 2,e7 wd,e7 mo],e7 nw] I (λr J=>∃a c,r = .slice a (goneL 2 wd mo nw xs).length c/\J=vc 108 (.slice a (goneL 2 wd mo nw xs).length c) (goneL 2 wd mo nw xs)::I):=by
 refine Ce3 Tryz.func213 C C ?_
 refine Aj (Ge1 (Bg (cs:=[_,_]) C C C) λb1=>Ge1 (Bg (cs:=[_,_,_]) C C C) λb2=>Ga C (Ah (Au (Bt mixed (C7 9 (Dr 1 C (Ab fld31_0 C) (Dr 2 C (As ef) ?_)))))))
 refine Dr 4 C (Be (vs:=[_,_]) ty111) ?_
 refine Dr 5 C (Be (vs:=[_,_,_]) ty31) ?_
 refine Dr 6 C (Af C) (Ds1 0 (Se C (Am call253 C C Rules_ok) ?_))
 rintro _ _ ⟨_,_,⟨mr3,rfl,rfl⟩,rfl,rfl⟩
 refine ⟨A5,?_⟩
 refine Ds1 3 (Sr C (Df (i:=1) Eb Bo C C C mm C) A5 ?_)
 refine Ds1 7 (Sc2 C (C0 call296 C C C Rule2_ok) λb4 b5=>?_)
 refine Dr 8 C (Bb C) (Dz (Ai (Av (S3 7 3 2 C C C) (Aj (Ga C (Ah (Au (Aj (Gf fld111_1 C (Gl ty109 ?_))))))))))
 refine Gr (Bz A7 C) (Gm C (Ah (A6 (Ca (σ:=Nat×(Option Addr)×Nat×(List Ev)) (λs=>([(2,e7 nw),(7,.func (.func 297) #[] #[.pointer (some ⟨b4,0,none⟩),.pointer (some ⟨b5,0,none⟩)]),(8,.slice s.2.1 s.2.2.2.length s.2.2.1),(20,.slice a0 xs.length c0),(21,e7 ((xs.length:Nat):Int)),(22,e7 ((s.1:Nat):Int))]:Env)) (λs=>vc 108 (.slice s.2.1 s.2.2.2.length s.2.2.1) (s.2.2.2)::e8 b4 [e7 nw] 3::e8 b5 [e7 2,e7 wd,e7 mo] 31::mp mr3 [({key:=e7 1,val:= .func (.func 294) #[] #[],born:=0}:MapEntry),({key:=e7 2,val:= .func (.func 296) #[] #[],born:=1}:MapEntry),({key:=e7 3,val:= .func (.func 298) #[] #[],born:=2}:MapEntry)] 3::e8 b2 [e7 2,e7 wd,e7 mo] 31::e8 b1 [e7 nd,.slice a0 xs.length c0] 111::I) (λs=>(s.1<=xs.length)/\(s.2.2.2=((xs.take s.1).filter λx=> !(λx:Lk=>decide (IntKind.i64.wrap (nw - x.tm)<wd)) x).map (cutEv nw))) (λs=>xs.length - s.1) (0,none,0,[]) ⟨om,rfl⟩ (Aa C (Aa C (Aa (Da C (by first|rfl|simp)) (Aa C (Aa C (Aa Cr Bq)))))) (B9 _ _) ?_))))
 rintro ⟨k,a,c,out⟩ hp
 dsimp only at hp ⊢
 obtain ⟨hk,ho⟩:=hp
 have hol:out.length<=xs.length:=by rw [ho,List.length_map];refine Nat.le_trans (List.length_filter_le _ _) ?_;simp only [List.length_take];omega
 refine Aj (Gr (Bi C C) (Ah (Au (Bd C (λc23=>?_) (λc23=>?_)))))
 ·refine A4 (Ai (Au (A6 (Aj (Gr (A2 (α:=Lk) (xs:=xs) A7 ty146 C C (Bj hl) om om) (Gr (B7 (α:=Lk) (xs:=xs) ty146 C (Bj hl) om om) (Ge1 (A9 ty146 C) λb6=>Ge0 (E6 ty146) ?_)))))))
  refine Ah (Aj (Gm C (Gl6 ty146 ?_)))
  refine Gc0 (C0 call297 C C C (Age1_ok (C2 mm) (C2 mm) (e_ xs k))) ?_
  refine Gr (D5 C) (Ah (Av (S8 29 10 2 7 8 20 21 22 C C C C C C C C) (Bd C (λc29=>?_) (λc29=>?_))))
  ·refine A0 (Gm C (Gl6 ty146 ?_))
   refine Gm C (G.e (Am call254 C C (Gone_ok (e_ xs k) nw)) ?_)
   rintro _ _ ⟨_,_,⟨rfl,rfl⟩,rfl,rfl⟩
   refine Ge1 (Cj (α:=Ev) (cs:=[e7 2,e7 nw,e7 ((e_ xs k).u),e7 ((e_ xs k).v),e7 0,e7 0,e7 0]) (xs:=[⟨2,nw,(e_ xs k).u,(e_ xs k).v,0,0,0⟩]) Bh ty108 C C dc dc C kr C C) λad7=>?_
   refine Ge2 (Cn (α:=Ev) (e:=108) (xs:=out) (ys:=([⟨2,nw,(e_ xs k).u,(e_ xs k).v,0,0,0⟩]:List Ev)) Bh ty108 C C C mm Bk lcn dc C (λ_ _=>am)) λad8 cp9=>?_
   exact Ga C (Bf (Ak (Ai (Av (S6 8 2 7 20 21 22 C C C C C C) (A0 (Gr (Rad C C) (Gm C (Bf (Ch ((k+1),(ad8),(cp9),(out++([⟨2,nw,(e_ xs k).u,(e_ xs k).v,0,0,0⟩]:List Ev))) (by dsimp only;exact ⟨om,(by first|(rw [gone_yes (P:=(λx:Lk=>decide (IntKind.i64.wrap (nw - x.tm)<wd))) om (decide_eq_false c29),←ho];done)|(rw [gone_yes (P:=(λx:Lk=>decide (IntKind.i64.wrap (nw - x.tm)<wd))) om (decide_eq_false c29),←ho];rfl)|(rw [gone_no (P:=(λx:Lk=>decide (IntKind.i64.wrap (nw - x.tm)<wd))) om (decide_eq_true (Classical.not_not.1 c29)),←ho])|(rw [gone_no (P:=(λx:Lk=>decide (IntKind.i64.wrap (nw - x.tm)<wd))) om rfl,←ho]))⟩))))))))))
  ·exact A4 (Ak (Ai (A0 (Gr (Rad C C) (Gm C (Bf (Ch ((k+1),(a),(c),(out)) (by dsimp only;exact ⟨om,(by first|(rw [gone_yes (P:=(λx:Lk=>decide (IntKind.i64.wrap (nw - x.tm)<wd))) om (decide_eq_false c29),←ho];done)|(rw [gone_yes (P:=(λx:Lk=>decide (IntKind.i64.wrap (nw - x.tm)<wd))) om (decide_eq_false c29),←ho];rfl)|(rw [gone_no (P:=(λx:Lk=>decide (IntKind.i64.wrap (nw - x.tm)<wd))) om (decide_eq_true (Classical.not_not.1 c29)),←ho])|(rw [gone_no (P:=(λx:Lk=>decide (IntKind.i64.wrap (nw - x.tm)<wd))) om rfl,←ho]))⟩))))))))
 ·refine Bp (Ac (Ac (Aw (Ai (Aj (Gm C (Ga C (Ah (Az ?_)))))))))
  have hE:out=(goneL 2 wd mo nw xs):=by rw [ho,show List.take k xs=xs from List.take_of_length_le om];unfold goneL;rw [filt_not (P:=(λx:Lk=>decide (IntKind.i64.wrap (nw - x.tm)<wd))) (inW_age (askE_ok hA) rfl)]
  subst hE
  exact Ba C C (vc 108 (.slice a (goneL 2 wd mo nw xs).length c) (goneL 2 wd mo nw xs)::I) A5 ⟨a,c,rfl,rfl⟩
theorem Gone3_ok{nd wd mo nw:Int}{a0:Option Addr}{c0:Nat}{xs:List Lk}(hl:Sl κ I (.slice a0 xs.length c0) xs)(hsz:xs.length<=1000000)(hA:askE nd xs 3 wd mo nw=0):eu prog κ 213 [.agg #[e7 nd,.slice a0 xs.length c0],.agg #[e7 3,e7 wd,e7 mo],e7 nw] I (λr J=>∃a c,r = .slice a (goneL 3 wd mo nw xs).length c/\J=vc 108 (.slice a (goneL 3 wd mo nw xs).length c) (goneL 3 wd mo nw xs)::I):=by
 refine Ce3 Tryz.func213 C C ?_
 refine Aj (Ge1 (Bg (cs:=[_,_]) C C C) λb1=>Ge1 (Bg (cs:=[_,_,_]) C C C) λb2=>Ga C (Ah (Au (Bt mixed (C7 9 (Dr 1 C (Ab fld31_0 C) (Dr 2 C (As ef) ?_)))))))
 refine Dr 4 C (Be (vs:=[_,_]) ty111) ?_
 refine Dr 5 C (Be (vs:=[_,_,_]) ty31) ?_
 refine Dr 6 C (Af C) (Ds1 0 (Se C (Am call253 C C Rules_ok) ?_))
 rintro _ _ ⟨_,_,⟨mr3,rfl,rfl⟩,rfl,rfl⟩
 refine ⟨A5,?_⟩
 refine Ds1 3 (Sr C (Df (i:=2) Eb Bo C C C mm C) A5 ?_)
 refine Ds1 7 (Se C (C0 call298 C C C (Rule3_ok (Bj hl) ((askE_ok hA).most C).1 om)) ?_)
 rintro _ _ ⟨_,_,⟨b4,ad5,cp6,ys7,mm8,rfl,hzys7,rfl⟩,rfl,rfl⟩
 refine ⟨A5,?_⟩
 refine Dr 8 C (Bb C) (Dz (Ai (Av (S3 7 3 2 C C C) (Aj (Ga C (Ah (Au (Aj (Gf fld111_1 C (Gl ty109 ?_))))))))))
 refine Gr (Bz A7 C) (Gm C (Ah (A6 (Ca (σ:=Nat×(Option Addr)×Nat×(List Ev)) (λs=>([(2,e7 nw),(7,.func (.func 300) #[] #[.pointer (some ⟨b4,0,none⟩)]),(8,.slice s.2.1 s.2.2.2.length s.2.2.1),(20,.slice a0 xs.length c0),(21,e7 ((xs.length:Nat):Int)),(22,e7 ((s.1:Nat):Int))]:Env)) (λs=>vc 108 (.slice s.2.1 s.2.2.2.length s.2.2.1) (s.2.2.2)::e8 b4 [.slice ad5 (List.take mm8 ys7).length cp6] 109::vc 146 (.slice ad5 xs.length cp6) (ys7)::mp mr3 [({key:=e7 1,val:= .func (.func 294) #[] #[],born:=0}:MapEntry),({key:=e7 2,val:= .func (.func 296) #[] #[],born:=1}:MapEntry),({key:=e7 3,val:= .func (.func 298) #[] #[],born:=2}:MapEntry)] 3::e8 b2 [e7 3,e7 wd,e7 mo] 31::e8 b1 [e7 nd,.slice a0 xs.length c0] 111::I) (λs=>(s.1<=xs.length)/\(s.2.2.2=((xs.take s.1).filter λx=> !(λx:Lk=>decide (x∈List.take mm8 ys7)) x).map (cutEv nw))) (λs=>xs.length - s.1) (0,none,0,[]) ⟨om,rfl⟩ (Aa C (Aa C (Aa (Da C (by first|rfl|simp)) (Aa C (Aa C (Aa Cr Bq)))))) (B9 _ _) ?_))))
 rintro ⟨k,a,c,out⟩ hp
 dsimp only at hp ⊢
 obtain ⟨hk,ho⟩:=hp
 have hol:out.length<=xs.length:=by rw [ho,List.length_map];refine Nat.le_trans (List.length_filter_le _ _) ?_;simp only [List.length_take];omega
 refine Aj (Gr (Bi C C) (Ah (Au (Bd C (λc23=>?_) (λc23=>?_)))))
 ·refine A4 (Ai (Au (A6 (Aj (Gr (A2 (α:=Lk) (xs:=xs) A7 ty146 C C (Bj hl) om om) (Gr (B7 (α:=Lk) (xs:=xs) ty146 C (Bj hl) om om) (Ge1 (A9 ty146 C) λb9=>Ge0 (E6 ty146) ?_)))))))
  refine Ah (Aj (Gm C (Gl6 ty146 ?_)))
  refine Gc0 (C0 call300 C C C (Last1_ok (C2 mm) (Sl.take Bk om) (e_ xs k))) ?_
  refine Gr (D5 C) (Ah (Av (S8 29 10 2 7 8 20 21 22 C C C C C C C C) (Bd C (λc29=>?_) (λc29=>?_))))
  ·refine A0 (Gm C (Gl6 ty146 ?_))
   refine Gm C (G.e (Am call254 C C (Gone_ok (e_ xs k) nw)) ?_)
   rintro _ _ ⟨_,_,⟨rfl,rfl⟩,rfl,rfl⟩
   refine Ge1 (Cj (α:=Ev) (cs:=[e7 2,e7 nw,e7 ((e_ xs k).u),e7 ((e_ xs k).v),e7 0,e7 0,e7 0]) (xs:=[⟨2,nw,(e_ xs k).u,(e_ xs k).v,0,0,0⟩]) Bh ty108 C C dc dc C kr C C) λad10=>?_
   refine Ge2 (Cn (α:=Ev) (e:=108) (xs:=out) (ys:=([⟨2,nw,(e_ xs k).u,(e_ xs k).v,0,0,0⟩]:List Ev)) Bh ty108 C C C mm Bk lcn dc C (λ_ _=>am)) λad11 cp12=>?_
   exact Ga C (Bf (Ak (Ai (Av (S6 8 2 7 20 21 22 C C C C C C) (A0 (Gr (Rad C C) (Gm C (Bf (Ch ((k+1),(ad11),(cp12),(out++([⟨2,nw,(e_ xs k).u,(e_ xs k).v,0,0,0⟩]:List Ev))) (by dsimp only;exact ⟨om,(by first|(rw [gone_yes (P:=(λx:Lk=>decide (x∈List.take mm8 ys7))) om (decide_eq_false c29),←ho];done)|(rw [gone_yes (P:=(λx:Lk=>decide (x∈List.take mm8 ys7))) om (decide_eq_false c29),←ho];rfl)|(rw [gone_no (P:=(λx:Lk=>decide (x∈List.take mm8 ys7))) om (decide_eq_true (Classical.not_not.1 c29)),←ho])|(rw [gone_no (P:=(λx:Lk=>decide (x∈List.take mm8 ys7))) om rfl,←ho]))⟩))))))))))
  ·exact A4 (Ak (Ai (A0 (Gr (Rad C C) (Gm C (Bf (Ch ((k+1),(a),(c),(out)) (by dsimp only;exact ⟨om,(by first|(rw [gone_yes (P:=(λx:Lk=>decide (x∈List.take mm8 ys7))) om (decide_eq_false c29),←ho];done)|(rw [gone_yes (P:=(λx:Lk=>decide (x∈List.take mm8 ys7))) om (decide_eq_false c29),←ho];rfl)|(rw [gone_no (P:=(λx:Lk=>decide (x∈List.take mm8 ys7))) om (decide_eq_true (Classical.not_not.1 c29)),←ho])|(rw [gone_no (P:=(λx:Lk=>decide (x∈List.take mm8 ys7))) om rfl,←ho]))⟩))))))))
 ·refine Bp (Ac (Ac (Aw (Ai (Aj (Gm C (Ga C (Ah (Az ?_)))))))))
  have hE:out=(goneL 3 wd mo nw xs):=by rw [ho,show List.take k xs=xs from List.take_of_length_le om];unfold goneL;rw [filt_not (P:=(λx:Lk=>decide (x∈List.take mm8 ys7))) (inW_last (askE_ok hA) rfl hzys7)]
  subst hE
  exact Ba C C (vc 108 (.slice a (goneL 3 wd mo nw xs).length c) (goneL 3 wd mo nw xs)::I) A5 ⟨a,c,rfl,rfl⟩
theorem GoneP_ok{nd kd wd mo nw:Int}{a0:Option Addr}{c0:Nat}{xs:List Lk}(hl:Sl κ I (.slice a0 xs.length c0) xs)(hsz:xs.length<=1000000)(hA:askE nd xs kd wd mo nw=0):eu prog κ 213 [.agg #[e7 nd,.slice a0 xs.length c0],.agg #[e7 kd,e7 wd,e7 mo],e7 nw] I λr J=>∃a c,r = .slice a (goneL kd wd mo nw xs).length c/\J=vc 108 (.slice a (goneL kd wd mo nw xs).length c) (goneL kd wd mo nw xs)::I:=by
 have hk:=(askE_ok hA).kind
 rcases (by omega:kd=1\/kd=2\/kd=3) with rfl|rfl|rfl
 ·exact Gone1_ok hl hsz hA
 ·exact Gone2_ok hl hsz hA
 ·exact Gone3_ok hl hsz hA
variable {κ:Ctx}{I:List Item}
theorem checkW_wd{kd wd mo:Int}(h:checkW kd wd mo=0):0<=wd/\wd<=1048576:=by
 unfold checkW at h
 split at h
 ·cases h
 ·split at h
  ·cases h
  ·omega
theorem checkS_tm{nd:Int}{xs:List Lk}(h:checkS nd xs=0):∀i:Int,0<=i->i<xs.length->0<=(e_ xs i).tm/\(e_ xs i).tm<=1048576:=λi h0 h1=>badL_tm ((checkS_ok h).2.1 _ (Cq h0 h1))
def tmC(a c:Lk):Int:=cmpI a.tm c.tm
theorem tmC_lt(a c:Lk):tmC a c<0↔a.tm<c.tm:=by unfold tmC cmpI;split<;>(try split)<;>omega
theorem FirstC_ok(a c:Lk):eu prog κ 293 [.agg #[e7 (a.u),e7 (a.v),e7 (a.w),e7 (a.lb),e7 (a.sg),e7 (a.tm)],.agg #[e7 (c.u),e7 (c.v),e7 (c.w),e7 (c.lb),e7 (c.sg),e7 (c.tm)]] I (λr J=>r=e7 (tmC a c)/\I=J):=by
 refine Ce2 Tryz.func293 C C ?_
 refine Aj (Ge1 (Bg (cs:=[_,_,_,_,_,_]) C C C) λb1=>Ge1 (Bg (cs:=[_,_,_,_,_,_]) C C C) λb2=>Ga C (Ah (Aj (Gf fld146_5 C (Gl ef ?_)))))
 refine Gf fld146_5 C (Gl ef ?_)
 refine Gc0 (Am call225 C C (Compare_ok a.tm c.tm)) ?_
 exact Ga C (Ah (Az (Ba C C I Ay ⟨rfl,rfl⟩)))
theorem FirstC_cmps:Cmps prog κ I 293 [] tmC:=⟨call293,λx y J hf=>FirstC_ok x y⟩
theorem MinF_ok{v:Value}{xs:List Lk}(hl:Sl κ I v xs)(hne:0<xs.length){g:FuncId}{cp_:List Value}(hcb:Cmps prog κ I g cp_ tmC):eu prog κ 292 [v,.func (.func g) #[] cp_.toArray] I (λr J=>∃x:Lk,r = .agg #[e7 x.u,e7 x.v,e7 x.w,e7 x.lb,e7 x.sg,e7 x.tm]/\(x∈xs/\∀y∈xs,x.tm<=y.tm)/\I=J):=by
 refine Cg hl.le λhmax=>?_
 refine Ce2 Tryz.func292 C C ?_
 refine Aj (Ge1 (A9 ty146 C) λb1=>Ah (Au (Aj (Gm C (Gr (Cb (α:=Lk) (xs:=xs) A7 C (Bj hl)) (Gr (Bi C C) (Ah (Bd C (λc9=>?_) (λc9=>?_)))))))))
 ·exact absurd hne om
 ·refine A4 (Ai (Aj (Gm C (Gr (A2 (α:=Lk) (xs:=xs) A7 ty146 C C (Bj hl) om om) (Gr (B7 (α:=Lk) (xs:=xs) ty146 C (Bj hl) om om) (Ge1 (A9 ty146 C) λb2=>Ge0 (E6 ty146) ?_))))))
  refine Ah (Au (Aj (Ga C (Ah (A6 (Ca (σ:=Nat×Lk) (λs=>([(0,v),(1,.func (.func g) #[] cp_.toArray),(4,.pointer (some ⟨b1,0,none⟩)),(5,.pointer (some ⟨b2,0,none⟩)),(6,e7 ((s.1:Nat):Int))]:Env)) (λs=>e8 b2 [e7 (s.2.u),e7 (s.2.v),e7 (s.2.w),e7 (s.2.lb),e7 (s.2.sg),e7 (s.2.tm)] 146::e8 b1 [e7 0,e7 0,e7 0,e7 0,e7 0,e7 0] 146::I) (λs=>(1<=s.1/\s.1<=xs.length)/\(s.2∈xs)/\(∀j,j<s.1->s.2.tm<=(e_ xs j).tm)) (λs=>xs.length - s.1) (1,e_ xs 0) ⟨om,(Cq om om),(λj hj=>by rw [show j=0 by omega];exact Int.le_refl _)⟩ (Aa C (Aa C (Aa C (Aa C (Aa Cr Bq))))) A5 ?_))))))
  rintro ⟨k,m⟩ hp
  dsimp only at hp ⊢
  obtain ⟨hk,hm,hn⟩:=hp
  refine Au (Aj (Gm C (Gm C (Gr (Cb (α:=Lk) (xs:=xs) A7 C (Bj hl)) (Gr (Bi C C) (Ah (Bd C (λc17=>?_) (λc17=>?_))))))))
  ·refine A4 (Ai (Au (A6 (Au (Bt mixed (C7 8 (Dr 0 C (Af C) (Dr 1 C (Af C) (Dr 2 C (Af C) (Dr 3 C (A2 (α:=Lk) (xs:=xs) A7 ty146 C C (Bj hl) om om) (Dr 4 C (B7 (α:=Lk) (xs:=xs) ty146 C (Bj hl) om om) (Dr 5 C (Be (vs:=[_,_,_,_,_,_]) ty146) ?_))))))))))))
   refine Ds1 6 (Se C (C0 hcb.1 (first:=[]) (caps:=cp_) C C C (hcb.2 (e_ xs k) m _ Ay)) ?_)
   rintro _ _ ⟨_,_,⟨rfl,rfl⟩,rfl,rfl⟩
   refine ⟨A5,?_⟩
   refine Dr 7 C (Bi C C) (Dz (Ai (Av (S6 27 0 1 4 5 6 C C C C C C) (Bd C (λc27=>?_) (λc27=>?_)))))
   ·refine A0 (Gm C (Gm C (Gr (A2 (α:=Lk) (xs:=xs) A7 ty146 C C (Bj hl) om om) (Gr (B7 (α:=Lk) (xs:=xs) ty146 C (Bj hl) om om) (Ge0 (E6 ty146) ?_)))))
    exact Bf (Ak (Ai (A0 (Gm C (Gr (Rad C C) (Ga C (Bf (Ch ((k+1),(e_ xs k)) (by dsimp only;exact ⟨om,(by first|exact hm|exact Cq om om),(all_succ (λj hj=>by have hnj:=hn j hj;first|exact hnj|(have hlt:=(tmC_lt _ _).1 c27;omega)) (by first|exact Int.le_refl _|(have hge:=mt (tmC_lt (e_ xs k) m).2 c27;omega)))⟩)))))))))
   ·exact A4 (Ak (Ai (A0 (Gm C (Gr (Rad C C) (Ga C (Bf (Ch ((k+1),(m)) (by dsimp only;exact ⟨om,(by first|exact hm|exact Cq om om),(all_succ (λj hj=>by have hnj:=hn j hj;first|exact hnj|(have hlt:=(tmC_lt _ _).1 c27;omega)) (by first|exact Int.le_refl _|(have hge:=mt (tmC_lt (e_ xs k) m).2 c27;omega)))⟩)))))))))
  ·refine Bp (Ac (Ac (Aw (Ai (Aj (Gl6 ty146 ?_))))))
   refine Ge0 (E6 ty146) ?_
   exact Ah (Az (Cf C ty146 C mm C I Ay ⟨m,rfl,⟨hm,λy hy=>by obtain ⟨j,hj,rfl⟩:=mem_at hy;exact hn j om⟩,rfl⟩))
end Go.Sl
