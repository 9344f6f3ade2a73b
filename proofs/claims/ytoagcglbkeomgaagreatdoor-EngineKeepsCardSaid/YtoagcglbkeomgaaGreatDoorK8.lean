/- A part of the proofs of statements of this seat: contracts of functions, and the plain laws that they lean on. No conditions. -/
import Derived.Test.YtoagcglbkeomgaaGreatDoorK7
import Derived.Shelf.SortM.Plain
set_option linter.unusedVariables false
set_option linter.unusedSimpArgs false
set_option linter.unusedSectionVars false
open Go.Proofs.Tryz (prog)
namespace Go.Sl
open Go.Proofs
set_option maxRecDepth 4000
variable{kd mo nd wd:Int}{xs:List Lk}
theorem Expired_ok{κ:Ctx}{I:List Item}{nw:Int}{a0:Option Addr}{c0:Nat}(hl:Sl κ I (.slice a0 xs.length c0) xs)(ab:xs.length<=1000000):eu prog κ 126 [.agg #[e7 nd,.slice a0 xs.length c0],.agg #[e7 kd,e7 wd,e7 mo],e7 nw] I (λr J=>(askE nd xs kd wd mo nw≠0/\r = .tuple #[.slice none 0 0,e7 (askE nd xs kd wd mo nw)]/\I=J)\/(∃a c,askE nd xs kd wd mo nw=0/\r = .tuple #[.slice a (goneL kd wd mo nw xs).length c,e7 0]/\J=vk 54 a c (goneL kd wd mo nw xs)::I)):=by
 refine Ce3 Tryz.func126 C C ?_
 refine Af<|Ge1 (Bg (cs:=[_,_]) C C C) λb1=>Ge1 (Bg (cs:=[_,_,_]) C C C) λb2=>Ga C<|Ga C<|Ac<|Aq<|Af<|Gl2 ty35 ?_
 refine Gl3 ty29 ?_
 refine Gm C<|G.e (Ak c_ C C<|Asked_ok (nd:=nd) (kd:=kd) (wd:=wd) (mo:=mo) (nw:=nw)<|A8 hl) ?_
 rintro _ _ ⟨_,_,⟨rfl,rfl⟩,rfl,rfl⟩
 refine Ga C<|Ac<|Af<|Gm C<|Gr (Bo C C)<|Ac<|Ao (S5 14 8 4 3 2 C C C C C)<|A5 C (λZ=>?_)<|λZ=>?_
 ·exact Af<|Gm C<|Ga C<|Ga C<|Ac<|Az<|Ap<|C7 C C C I Ay<|.inl ⟨Z,rfl,rfl⟩
 refine Av<|Ah<|Af<|Gl2 ty35 ?_
 refine Gl3 ty29 ?_
 refine Gm C<|Gc2 (Ak c_ C C<|GoneP_ok (nd:=nd) (A8 hl) om<|Classical.not_not.1 Z) λaa M=>?_
 exact Ga C<|Ga C<|Ac<|Az<|C7 C C C (vk 54 aa M (goneL kd wd mo nw xs)::I) Bc<|.inr ⟨aa,M,Classical.not_not.1 Z,rfl,rfl⟩
theorem checkW_wd(h:checkW kd wd mo=0):0<=wd/\wd<=1048576:=by
 unfold checkW at h
 split at h
 ·cases h
 split at h
 ·cases h
 omega
theorem checkS_tm(h:checkS nd xs=0):∀i:Int,0<=i->i<xs.length->0<=(e_ xs i).tm/\(e_ xs i).tm<=1048576:=λi M Z=>badL_tm ((checkS_ok h).2.1 _ (B1 M Z))
end Go.Sl
namespace Go.Sl
variable{n nw:Int}
def eh(e:Ev):Lk:=⟨if e.v<e.u then e.v else e.u,if e.u<e.v then e.v else e.u,e.w,e.lb,e.sg,e.tm⟩
def setL(n:Lk):List Lk->List Lk
 |[]=>[n]
 |l::ls=>if Lk.lt n l then n::l::ls else if l.p=n.p then n::ls else l::setL n ls
def hitE(e:Ev)(l:Lk):Bool:=if e.kd=2 then decide (l.u=(eh e).u/\l.v=(eh e).v) else decide (l.u=e.u\/l.v=e.u)
def ep(xs:List Lk)(e:Ev):List Lk:=if e.kd=1 then setL (eh e) xs else xs.filter λl=> !hitE e l
def endsE(e:Ev):Prop:=(0<=e.u/\e.u<64)/\(e.kd=3->e.v=0)/\(e.kd≠3->(0<=e.v/\e.v<64)/\e.u≠e.v)
instance (e:Ev):Decidable (endsE e):=by unfold endsE;infer_instance
def checkE(e:Ev):Int:=if e.kd<1\/3<e.kd then 8 else if e.tm<0\/1048576<e.tm then 9 else if ¬endsE e then 6 else if (e.kd=1/\¬rightW e.w e.lb e.sg)\/(e.kd≠1/\(e.w≠0\/e.lb≠0\/e.sg≠0)) then 1 else 0
def fitE(nd:Int)(e:Ev):Int:=if checkE e≠0 then checkE e else if nd<=e.u\/nd<=e.v then 6 else 0
section
variable {e:Ev}{nd:Int}
theorem checkE_eight(h:e.kd<1\/3<e.kd):checkE e=8:=by unfold checkE;rw [if_pos h]
theorem checkE_nine(Z:1<=e.kd/\e.kd<=3)(h:e.tm<0\/1048576<e.tm):checkE e=9:=by unfold checkE;rw [if_neg om,if_pos h]
theorem checkE_six(Z:1<=e.kd/\e.kd<=3)(M:0<=e.tm/\e.tm<=1048576)(h:¬endsE e):checkE e=6:=by unfold checkE;rw [if_neg om,if_neg om,if_pos h]
theorem checkE_one(M:1<=e.kd/\e.kd<=3)(h2:0<=e.tm/\e.tm<=1048576)(Z:endsE e)(h:(e.kd=1/\¬rightW e.w e.lb e.sg)\/(e.kd≠1/\(e.w≠0\/e.lb≠0\/e.sg≠0))):checkE e=1:=by
 unfold checkE;rw [if_neg om,if_neg om,if_neg<|λh=>h Z,if_pos h]
theorem checkE_zero(h1:1<=e.kd/\e.kd<=3)(h2:0<=e.tm/\e.tm<=1048576)(Z:endsE e)(h:e.kd=1->rightW e.w e.lb e.sg)(M:e.kd≠1->e.w=0/\e.lb=0/\e.sg=0):checkE e=0:=by
 unfold checkE;rw [if_neg om,if_neg om,if_neg<|λh=>h Z,if_neg];rintro (⟨a,b⟩|⟨a,b⟩)
 ·exact b<|h a
 have:=M a;omega
end
structure FitOk (nd:Int) (e:Ev):Prop where
 kind:1<=e.kd/\e.kd<=3
 tm:0<=e.tm/\e.tm<=1048576
 ends:endsE e
 right:e.kd=1->rightW e.w e.lb e.sg
 fits:e.u<nd/\e.v<nd
 zero:e.kd≠1->e.w=0/\e.lb=0/\e.sg=0
theorem fitE_ok{nd:Int}{e:Ev}:fitE nd e=0↔FitOk nd e:=by
 constructor
 ·intro h
  unfold fitE checkE at h
  by_cases Z:e.kd<1\/3<e.kd
  ·rw [if_pos Z] at h;simp at h
  rw [if_neg Z] at h
  by_cases M:e.tm<0\/1048576<e.tm
  ·rw [if_pos M] at h;simp at h
  rw [if_neg M] at h
  by_cases h3:¬endsE e
  ·rw [if_pos h3] at h;simp at h
  rw [if_neg h3] at h
  by_cases h4:(e.kd=1/\¬rightW e.w e.lb e.sg)\/(e.kd≠1/\(e.w≠0\/e.lb≠0\/e.sg≠0))
  ·rw [if_pos h4] at h;simp at h
  rw [if_neg h4] at h
  by_cases h5:nd<=e.u\/nd<=e.v
  ·rw [if_neg (by simp),if_pos h5] at h;simp at h
  exact ⟨by omega,by omega,Classical.not_not.1 h3,λhk=>Classical.byContradiction λhr=>h4<|.inl ⟨hk,hr⟩,by omega,λhk=>by omega⟩
 intro h
 have Z:=h.kind
 have M:=h.tm
 have h5:=h.fits
 have hc:checkE e=0:=by
  unfold checkE
  rw [if_neg om,if_neg om,if_neg<|by simpa using h.ends,if_neg ?_]
  rintro (⟨a,b⟩|⟨a,b⟩)
  ·exact b<|h.right a
  have:=h.zero a;omega
 unfold fitE
 rw [if_neg (by simp [hc]),if_neg om]
theorem lk_lt{a b:Lk}:Lk.lt a b↔a.u<b.u\/(a.u=b.u/\a.v<b.v):=Iff.rfl
theorem lk_p{a b:Lk}:a.p=b.p↔a.u=b.u/\a.v=b.v:=by unfold Lk.p;simp
theorem FitOk.lk{nd:Int}{e:Ev}(h:FitOk nd e)(Z:e.kd≠3):0<=(eh e).u/\(eh e).u<(eh e).v/\(eh e).v<nd:=by
 have M:=h.ends.2.2 Z
 have h2:=h.ends.1
 have h3:=h.fits
 unfold eh
 simp only
 refine ⟨?_,?_,?_⟩<;>(repeat' split)<;>omega
theorem FitOk.badL{nd:Int}{e:Ev}(h:FitOk nd e)(Z:e.kd=1):badL nd (eh e)=0:=by
 have M:=h.lk om
 have h2:=h.tm
 exact badL_zero om (h.right Z)<|by show ¬(e.tm<0\/1048576<e.tm);omega
theorem mem_setL{n:Lk}{xs:List Lk}{x:Lk}(h:x∈setL n xs):x=n\/x∈xs:=by
 induction xs with
 |nil=>simp [setL] at h;exact .inl h
 |cons l ls ih=>
  unfold setL at h
  split at h
  ·simpa using h
  split at h
  ·rcases List.mem_cons.1 h with h|h
   ·exact .inl h
   exact .inr<|List.mem_cons_of_mem _ h
  rcases List.mem_cons.1 h with h|h
  ·exact .inr<|by rw [h];exact List.mem_cons_self
  rcases ih h with h|h
  ·exact .inl h
  exact .inr<|List.mem_cons_of_mem _ h
theorem setL_asc{n:Lk}{xs:List Lk}(h:xs.Pairwise Lk.lt):(setL n xs).Pairwise Lk.lt:=by
 induction xs with
 |nil=>simp [setL]
 |cons l ls ih=>
  obtain ⟨Z,M⟩:=List.pairwise_cons.1 h
  unfold setL
  by_cases hl:Lk.lt n l
  ·rw [if_pos hl]
   refine List.pairwise_cons.2 ⟨λx hx=>?_,h⟩
   rcases List.mem_cons.1 hx with rfl|hx
   ·exact hl
   exact Pt.lin.tr _ _ _ hl<|Z x hx
  rw [if_neg hl]
  by_cases he:l.p=n.p
  ·rw [if_pos he]
   refine List.pairwise_cons.2 ⟨λx hx=>?_,M⟩
   have:=Z x hx
   unfold Lk.lt at this ⊢
   rw [←he];exact this
  rw [if_neg he]
  refine List.pairwise_cons.2 ⟨λx hx=>?_,ih M⟩
  rcases mem_setL hx with rfl|hx
  ·rw [lk_lt] at hl ⊢; rw [lk_p] at he;omega
  exact Z x hx
theorem setL_len(n:Lk)(xs:List Lk):(setL n xs).length<=xs.length+1:=by
 induction xs with
 |nil=>simp [setL]
 |cons l ls ih=>
  unfold setL
  split
  ·simp
  split
  ·simp
  simp;omega
theorem stepL_len(xs:List Lk)(e:Ev):(ep xs e).length<=xs.length+1:=by
 unfold ep
 split
 ·exact setL_len _ _
 exact Nat.le_succ_of_le<|List.length_filter_le _ _
theorem scan0_back:∀(xs:List Lk) (q:Lk),(∀x∈xs,badL n x=0)->(q::xs).Pairwise Lk.lt->scanL (badL n) Lk.lt (some q) xs=0
 |[],q,_,_=>rfl
 |p::ps,q,h1,h2=>by
  obtain ⟨a,b⟩:=List.pairwise_cons.1 h2
  simp only [scanL]
  rw [if_neg (by simp [h1 p List.mem_cons_self]),if_pos<|a p List.mem_cons_self]
  exact scan0_back ps p (λx Z=>h1 x<|List.mem_cons_of_mem _ Z) b
theorem checkS_iff{xs:List Lk}:checkS n xs=0↔(0<=n/\n<=64)/\(∀x∈xs,badL n x=0)/\xs.Pairwise Lk.lt:=by
 constructor
 ·exact checkS_ok
 rintro ⟨h1,Z,M⟩
 unfold checkS
 rw [if_neg om]
 cases xs with
 |nil=>rfl
 |cons p ps=>
  simp only [scanL]
  rw [if_neg (by simp [Z p List.mem_cons_self])]
  exact scan0_back ps p (λx hx=>Z x<|List.mem_cons_of_mem _ hx) M
theorem stepL_val{nd:Int}{xs:List Lk}{e:Ev}(h:checkS nd xs=0)(he:FitOk nd e):checkS nd (ep xs e)=0:=by
 obtain ⟨h1,M,Z⟩:=checkS_iff.1 h
 refine checkS_iff.2 ⟨h1,?_⟩
 unfold ep
 by_cases hk:e.kd=1
 ·rw [if_pos hk]
  refine ⟨λx hx=>?_,setL_asc Z⟩
  rcases mem_setL hx with rfl|hx
  ·exact he.badL hk
  exact M x hx
 rw [if_neg hk]
 exact ⟨λx hx=>M x (List.mem_filter.1 hx).1,Z.sublist List.filter_sublist⟩
theorem filter_val{nd:Int}{xs:List Lk}{P:Lk->Bool}(h:checkS nd xs=0):checkS nd (xs.filter P)=0:=by
 obtain ⟨Z,h2,h3⟩:=checkS_iff.1 h
 exact checkS_iff.2 ⟨Z,λx M=>h2 x (List.mem_filter.1 M).1,h3.sublist List.filter_sublist⟩
theorem val_uv{nd:Int}{xs:List Lk}(h:checkS nd xs=0):∀x∈xs,0<=x.u/\x.u<x.v/\x.v<nd:=λx M=>by
 have Z:=(checkS_ok h).2.1 x M
 unfold Sl.badL at Z
 split at Z
 ·cases Z
 omega
theorem cut_hit(nw:Int){z:Lk}(Z:z.u<z.v)(l:Lk):hitE (cutEv nw z) l=decide (l.p=z.p):=by
 unfold hitE eh cutEv
 simp only [if_true]
 rw [if_neg om,if_pos Z,decide_eq_decide,lk_p]
theorem cuts_filter(nw:Int):∀(zs xs:List Lk),(∀z∈zs,z.u<z.v)->(zs.map (cutEv nw)).foldl ep xs=xs.filter λx=>zs.all λz=> !decide (x.p=z.p)
 |[],xs,_=>by simp only [List.map_nil,List.foldl_nil,List.all_nil];exact (List.filter_eq_self.2 λ_ _=>rfl).symm
 |z::zs,xs,h=>by
  have M:=cuts_filter nw zs (xs.filter λl=> !decide (l.p=z.p)) λy Z=>h y (List.mem_cons_of_mem _ Z)
  have hs:ep xs (cutEv nw z)=xs.filter λl=> !decide (l.p=z.p):=by
   unfold ep
   rw [if_neg (by show ¬(2:Int)=1;decide)]
   exact List.filter_congr λl _=>by rw [cut_hit nw (h z List.mem_cons_self)]
  rw [List.map_cons,List.foldl_cons,hs,M,List.filter_filter]
  exact List.filter_congr λx _=>by rw [List.all_cons,Bool.and_comm]
theorem asc_p{xs:List Lk}(h:xs.Pairwise Lk.lt){x y:Lk}(M:x∈xs)(hy:y∈xs)(he:x.p=y.p):x=y:=by
 induction xs with
 |nil=>cases M
 |cons l ls ih=>
  obtain ⟨h1,h2⟩:=List.pairwise_cons.1 h
  have Z:∀z∈ls,l.p≠z.p:=λz hz e=>by
   have:=h1 z hz
   unfold Lk.lt at this
   rw [e] at this
   exact Pt.lin.irr _ this
  rcases List.mem_cons.1 M with e1|e1<;>rcases List.mem_cons.1 hy with e2|e2
  ·rw [e1,e2]
  ·exact absurd (e1▸he)<|Z y e2
  ·exact absurd (e2▸he.symm)<|Z x e1
  exact ih h2 e1 e2
theorem gone_steps{nd kd wd mo:Int}{xs:List Lk}(h:checkS nd xs=0):(goneL kd wd mo nw xs).foldl ep xs=xs.filter (inW kd wd mo nw xs):=by
 unfold goneL
 rw [cuts_filter nw _ _ λz M=>(val_uv h z (List.mem_filter.1 M).1).2.1]
 refine List.filter_congr λx hx=>?_
 cases hp:inW kd wd mo nw xs x
 ·rw [Bool.eq_false_iff]
  intro ha
  have:=List.all_eq_true.1 ha x (List.mem_filter.2 ⟨hx,by rw [hp];rfl⟩)
  simp at this
 rw [List.all_eq_true]
 intro z M
 obtain ⟨aa,Z⟩:=List.mem_filter.1 M
 rw [Bool.not_eq_true',decide_eq_false_iff_not]
 intro he
 have:=asc_p (checkS_ok h).2.2 hx aa he
 subst this
 rw [hp] at Z
 cases Z
theorem gone_len(kd wd mo nw:Int)(xs:List Lk):(goneL kd wd mo nw xs).length+(xs.filter (inW kd wd mo nw xs)).length=xs.length:=by
 unfold goneL
 rw [List.length_map]
 generalize inW kd wd mo nw xs=P
 induction xs with
 |nil=>rfl
 |cons x xs ih=>simp only [List.filter_cons];cases P x<;>simp<;>omega
theorem gone_fit{nd kd wd mo:Int}{xs:List Lk}(h:checkS nd xs=0)(ht:0<=nw/\nw<=1048576):∀e∈goneL kd wd mo nw xs,FitOk nd e:=λe M=>by
 unfold goneL at M
 obtain ⟨x,hx,rfl⟩:=List.mem_map.1 M
 have h1:=val_uv h x (List.mem_filter.1 hx).1
 have h2:=(checkS_ok h).1
 exact ⟨by show (1:Int)<=2/\(2:Int)<=3;omega,ht,⟨by show 0<=x.u/\x.u<64;omega,λZ=>absurd Z (by show ¬(2:Int)=3;decide),λ_=>by show (0<=x.v/\x.v<64)/\x.u≠x.v;omega⟩,
  λZ=>absurd Z (by show ¬(2:Int)=1;decide),by show x.u<nd/\x.v<nd;omega,λ_=>⟨rfl,rfl,rfl⟩⟩
def minT:List Lk->Int
 |[]=>0
 |x::xs=>xs.foldl (λm y=>if y.tm<m then y.tm else m) x.tm
theorem minT_fold:∀(xs:List Lk) (m:Int),xs.foldl (λm y=>if y.tm<m then y.tm else m) m<=m/\(xs.foldl (λm y=>if y.tm<m then y.tm else m) m=m\/∃x∈xs,xs.foldl (λm y=>if y.tm<m then y.tm else m) m=x.tm)/\∀y∈xs,xs.foldl (λm y=>if y.tm<m then y.tm else m) m<=y.tm
 |[],m=>⟨Int.le_refl _,.inl rfl,λy hy=>by cases hy⟩
 |x::xs,m=>by
  rw [List.foldl_cons]
  by_cases hx:x.tm<m
  ·rw [if_pos hx]
   obtain ⟨M,Z,h3⟩:=minT_fold xs x.tm
   refine ⟨by omega,?_,λy hy=>?_⟩
   ·rcases Z with Z|⟨y,hy,Z⟩
    ·exact .inr ⟨x,List.mem_cons_self,Z⟩
    exact .inr ⟨y,List.mem_cons_of_mem _ hy,Z⟩
   rcases List.mem_cons.1 hy with rfl|hy
   ·exact M
   exact h3 y hy
  rw [if_neg hx]
  obtain ⟨M,Z,h3⟩:=minT_fold xs m
  refine ⟨M,?_,λy hy=>?_⟩
  ·rcases Z with Z|⟨y,hy,Z⟩
   ·exact .inl Z
   exact .inr ⟨y,List.mem_cons_of_mem _ hy,Z⟩
  rcases List.mem_cons.1 hy with rfl|hy
  ·omega
  exact h3 y hy
theorem minT_spec{xs:List Lk}(h:0<xs.length):(∃x∈xs,minT xs=x.tm)/\∀y∈xs,minT xs<=y.tm:=by
 cases xs with
 |nil=>cases h
 |cons x xs=>
  obtain ⟨M,Z,h3⟩:=minT_fold xs x.tm
  refine ⟨?_,λy hy=>?_⟩
  ·rcases Z with Z|⟨y,hy,Z⟩
   ·exact ⟨x,List.mem_cons_self,Z⟩
   exact ⟨y,List.mem_cons_of_mem _ hy,Z⟩
  rcases List.mem_cons.1 hy with rfl|hy
  ·exact M
  exact h3 y hy
theorem inW2(wd mo nw:Int)(xs:List Lk)(x:Lk):inW 2 wd mo nw xs x=decide (nw - x.tm<wd):=by unfold inW;rw [if_pos rfl]
def ageX(wd mo:Int)(xs:List Lk):List Lk:=xs.filter (inW 2 wd mo (minT xs+wd) xs)
theorem age_less{wd mo:Int}{xs:List Lk}(h:0<xs.length):(ageX wd mo xs).length<xs.length:=by
 unfold ageX
 obtain ⟨⟨x,Z,e⟩,_⟩:=minT_spec h
 have M:=gone_len 2 wd mo (minT xs+wd) xs
 have h2:0<(goneL 2 wd mo (minT xs+wd) xs).length:=by
  unfold goneL
  rw [List.length_map]
  refine List.length_pos_of_mem (a:=x)<|List.mem_filter.2 ⟨Z,?_⟩
  rw [inW2,decide_eq_false om];rfl
 omega
def ageL(wd mo T:Int)(xs:List Lk)(out:List Ev):List Lk×List Ev:=
 if h:0<xs.length/\minT xs+wd<=T then ageL wd mo T (ageX wd mo xs) (out++goneL 2 wd mo (minT xs+wd) xs) else (xs,out)
termination_by xs.length
decreasing_by exact age_less h.1
theorem ageL_step{wd mo T:Int}{xs:List Lk}{out:List Ev}(h:0<xs.length/\minT xs+wd<=T):ageL wd mo T xs out=ageL wd mo T (xs.filter (inW 2 wd mo (minT xs+wd) xs)) (out++goneL 2 wd mo (minT xs+wd) xs):=by
 rw [ageL,dif_pos h];rfl
theorem ageL_stop{wd mo T:Int}{xs:List Lk}{out:List Ev}(h:¬(0<xs.length/\minT xs+wd<=T)):ageL wd mo T xs out=(xs,out):=by
 rw [ageL,dif_neg h]
def windL(kd wd mo:Int)(b:List Lk×List Ev)(T:Int):List Lk×List Ev:=if kd=3 then (b.1.filter (inW kd wd mo T b.1),b.2++goneL kd wd mo T b.1) else b
def agedL(kd wd mo T:Int)(s:List Lk×List Ev):List Lk×List Ev:=if kd=2 then ageL wd mo T s.1 s.2 else s
def evStep(kd wd mo:Int)(s:List Lk×List Ev)(e:Ev):List Lk×List Ev:=windL kd wd mo (ep (agedL kd wd mo e.tm s).1 e,(agedL kd wd mo e.tm s).2++[e]) e.tm
structure SlI (nd kd wd:Int) (last:Int) (xs:List Lk):Prop where
 val:checkS nd xs=0
 tm:∀x∈xs,x.tm<=last
 al:kd=2->∀x∈xs,last<x.tm+wd
section
variable {nd kd wd mo last T:Int}{xs:List Lk}{out:List Ev}
theorem SlI.nil(h:0<=nd/\nd<=64):SlI nd kd wd last []:=⟨checkS_iff.2 ⟨h,λx Z=>(by cases Z),List.Pairwise.nil⟩,λx Z=>(by cases Z),λ_ x Z=>(by cases Z)⟩
theorem SlI.filter(h:SlI nd kd wd last xs)(P:Lk->Bool):SlI nd kd wd last (xs.filter P):=
 ⟨filter_val h.val,λx Z=>h.tm x (List.mem_filter.1 Z).1,λM x Z=>h.al M x (List.mem_filter.1 Z).1⟩
theorem SlI.later(h:SlI nd kd wd last xs)(hT:last<=T)(hk:kd=2->¬(0<xs.length/\minT xs+wd<=T)):SlI nd kd wd T xs:=
 ⟨h.val,λx Z=>by have:=h.tm x Z;omega,λh2 x Z=>by
  have h3:=hk h2
  have M:0<xs.length:=List.length_pos_of_mem Z
  have h5:=(minT_spec M).2 x Z
  omega⟩
theorem SlI.step(h:SlI nd kd wd T xs){e:Ev}(he:FitOk nd e)(ht:e.tm=T)(hw:kd=2->1<=wd):SlI nd kd wd T (ep xs e):=by
 have Z:∀x∈ep xs e,x.tm=T\/x∈xs:=λx hx=>by
  unfold ep at hx
  split at hx
  ·rcases mem_setL hx with rfl|hx
   ·exact .inl ht
   exact .inr hx
  exact .inr (List.mem_filter.1 hx).1
 refine ⟨stepL_val h.val he,λx hx=>?_,λM x hx=>?_⟩
 ·rcases Z x hx with h1|h1
  ·omega
  exact h.tm x h1
 rcases Z x hx with h1|h1
 ·have:=hw M;omega
 exact h.al M x h1
theorem SlI.first(h:SlI nd kd wd last xs)(hk:kd=2)(Z:0<xs.length):last<minT xs+wd:=by
 obtain ⟨⟨x,M,e⟩,_⟩:=minT_spec Z
 have:=h.al hk x M
 omega
end
end Go.Sl
namespace Go.Sl
theorem Lk.cmp_zero(a b:Lk):Lk.cmp a b=0↔a.p=b.p:=Pt.cmp_zero _ _
theorem setL_app{n:Lk}{ys:List Lk}:∀(xs:List Lk),(∀x∈xs,Lk.lt x n)->setL n (xs++ys)=xs++setL n ys
 |[],_=>rfl
 |x::xs,h=>by
  have Z:=h x List.mem_cons_self
  rw [List.cons_append,List.cons_append]
  conv=>lhs;unfold setL
  rw [if_neg (show ¬Lk.lt n x from λM=>Pt.lin.asymm Z M),if_neg<|λM=>by unfold Lk.lt at Z;rw [M] at Z;exact Pt.lin.irr _ Z,setL_app xs λy hy=>h y<|List.mem_cons_of_mem _ hy]
section
variable {xs:List Lk}{n:Lk}{i:Nat}{q:Bool}
theorem lk_below(h:BFound Lk.cmp xs n i q)(ha:xs.Pairwise Lk.lt):∀x∈xs.take i,Lk.lt x n:=λx M=>by
 obtain ⟨j,hj,rfl⟩:=List.getElem_of_mem M
 rw [List.length_take] at hj
 have aa:=h.le
 have e:(xs.take i)[j]=e_ xs j:=by rw [Cn xs j om];simp
 rw [e]
 have Z:=(Lk.cmp_lt _ _).1 (h.low om)
 rw [show (i:Int) - 1=((i - 1:Nat):Int) by omega] at Z
 by_cases hq:j=i - 1
 ·rw [hq];exact Z
 exact Pt.lin.tr _ _ _ ((pairwise_at xs).1 ha j (i - 1) om om) Z
theorem setL_new(h:BFound Lk.cmp xs n i q)(ha:xs.Pairwise Lk.lt)(hq:q=false):setL n xs=xs.take i++[n]++xs.drop i:=by
 conv=>lhs;rw [←List.take_append_drop i xs]
 rw [setL_app _ (lk_below h ha),List.append_assoc]
 congr 1
 rcases Nat.lt_or_ge i xs.length with hi|hi
 ·have Z:=h.is
  rw [hq] at Z
  have h2:=of_decide_eq_false Z.symm
  have M:=h.high hi
  rw [Lk.cmp_lt] at M
  rw [E8 xs i hi]
  unfold setL
  rw [Lk.cmp_zero] at h2
  have h4:(e_ xs i).p≠n.p:=λe=>h2 ⟨hi,e⟩
  rw [if_pos,List.singleton_append]
  rcases Pt.lin.tri n.p (e_ xs i).p with h5|h5|h5
  ·exact h5
  ·exact absurd h5.symm h4
  exact absurd h5 M
 rw [List.drop_eq_nil_of_le hi];rfl
theorem setL_there(h:BFound Lk.cmp xs n i q)(ha:xs.Pairwise Lk.lt)(hq:q=true):i<xs.length/\setL n xs=xs.set i n:=by
 have h1:=h.is
 rw [hq] at h1
 obtain ⟨hi,M⟩:=of_decide_eq_true h1.symm
 refine ⟨hi,?_⟩
 rw [Lk.cmp_zero] at M
 conv=>lhs;rw [←List.take_append_drop i xs]
 rw [setL_app _ (lk_below h ha),E8 xs i hi]
 unfold setL
 rw [if_neg (λZ=>by unfold Lk.lt at Z;rw [M] at Z;exact Pt.lin.irr _ Z),if_pos M,List.set_eq_take_append_cons_drop,if_pos hi]
theorem set_self(hi:i<xs.length)(h:e_ xs i=n):xs.set i n=xs:=by
 rw [←h,Cn xs i hi];exact List.set_getElem_self hi
end
section
variable {P:Lk->Bool}{xs:List Lk}{j:Nat}
def keptN(P:Lk->Bool)(xs:List Lk)(j:Nat):Nat:=((xs.take j).filter P).length
def keepL(P:Lk->Bool)(xs:List Lk)(j:Nat):List Lk:=(xs.take j).filter P++xs.drop j
theorem keepL_zero:keepL P xs 0=xs:=by simp [keepL]
theorem keptN_zero:keptN P xs 0=0:=by simp [keptN]
theorem keepL_end(h:xs.length<=j):keepL P xs j=xs.filter P:=by unfold keepL;rw [List.take_of_length_le h,List.drop_eq_nil_of_le h,List.append_nil]
theorem keepL_len:(keepL P xs j).length=keptN P xs j+(xs.length - j):=by simp [keepL,keptN]
theorem keptN_le:keptN P xs j<=j:=by
 unfold keptN
 have:=List.length_filter_le P (xs.take j)
 rw [List.length_take] at this
 omega
theorem keepL_at(h:j<xs.length):e_ (keepL P xs j) (keptN P xs j:Int)=e_ xs j:=by
 have Z:=keepL_len (P:=P) (xs:=xs) (j:=j)
 rw [Cn _ _ om,Cn xs j h]
 unfold keepL keptN
 rw [List.getElem_append_right (Nat.le_refl _)]
 simp
theorem keep_yes(h:j<xs.length)(Z:P (e_ xs j)=true):keepL P xs (j+1)=keepL P xs j/\keptN P xs (j+1)=keptN P xs j+1:=by
 unfold keepL keptN
 rw [Cj xs j h,List.filter_append,E8 xs j h]
 simp [Z]
theorem keep_no(h:j<xs.length)(Z:P (e_ xs j)=false):keptN P xs (j+1)=keptN P xs j:=by
 unfold keptN
 rw [Cj xs j h,List.filter_append]
 simp [Z]
theorem keep_copy(h:j<xs.length)(Z:P (e_ xs j)=false){q:Nat}(M:q=xs.length - j - 1) :
  (keepL P xs j).take (keptN P xs j)++((keepL P xs j).drop (keptN P xs j+1)).take q++(keepL P xs j).drop (keptN P xs j+q)=keepL P xs (j+1)++(keepL P xs j).drop (keptN P xs j+q):=by
 congr 1
 have e:keepL P xs j=(xs.take j).filter P++(e_ xs j::xs.drop (j+1)):=by unfold keepL;rw [←E8 xs j h]
 have e2:keepL P xs (j+1)=(xs.take j).filter P++xs.drop (j+1):=by
  unfold keepL
  rw [Cj xs j h,List.filter_append]
  simp [Z]
 have e3:keptN P xs j=((xs.take j).filter P).length:=rfl
 rw [e2,e,e3]
 generalize (xs.take j).filter P=A
 rw [List.take_left' rfl,show A.length+1=(A++[e_ xs j]).length by simp,show A++e_ xs j::xs.drop (j+1)=(A++[e_ xs j])++xs.drop (j+1) by simp,List.drop_left' rfl,List.take_of_length_le<|by rw [List.length_drop];omega]
theorem keep_take{zs:List Lk}{m:Nat}(Z:m=(keepL P xs (j+1)).length):(keepL P xs (j+1)++zs).take m=keepL P xs (j+1):=by
 rw [Z];exact List.take_left' rfl
end
end Go.Sl
namespace Go.Sl
section
variable {xs O:List Lk}{e:Ev}{k:Nat}{q:Bool}
theorem FitOk.chk{nd:Int}(h:FitOk nd e):checkE e=0:=Classical.byContradiction λM=>by
 have Z:=fitE_ok.2 h
 unfold fitE at Z
 rw [if_pos M] at Z
 exact M Z
end
end Go.Sl
namespace Go.Sl
theorem ageL_ind{wd mo T:Int}{P:List Lk->List Ev->Prop}(hs:∀xs out,(0<xs.length/\minT xs+wd<=T)->P xs out->P (xs.filter (inW 2 wd mo (minT xs+wd) xs)) (out++goneL 2 wd mo (minT xs+wd) xs)) :
  ∀(n:Nat) (xs:List Lk) (out:List Ev),xs.length<=n->P xs out->P (ageL wd mo T xs out).1 (ageL wd mo T xs out).2/\¬(0<(ageL wd mo T xs out).1.length/\minT (ageL wd mo T xs out).1+wd<=T)
 |n,xs,out,hn,hP=>by
  by_cases h:0<xs.length/\minT xs+wd<=T
  ·rw [ageL_step h]
   have Z:(xs.filter<|inW 2 wd mo (minT xs+wd) xs).length<xs.length:=age_less h.1
   cases n with
   |zero=>omega
   |succ n=>exact ageL_ind hs n _ _ om (hs xs out h hP)
  rw [ageL_stop h];exact ⟨hP,h⟩
theorem pw_all{α:Type}{R:α->α->Prop}(h:∀a c,R a c):∀l:List α,l.Pairwise R
 |[]=> .nil
 |x::xs=>List.pairwise_cons.2 ⟨λy _=>h x y,pw_all h xs⟩
theorem last_of:∀(K:List Lk),K≠[]->K.Pairwise Lk.lt->∃z∈K,∀y∈K,y=z\/Lk.late y z
 |[],h,_=>absurd rfl h
 |[x],_,_=>⟨x,List.mem_cons_self,λy hy=> .inl<|by simpa using hy⟩
 |x::y::ys,_,hp=>by
  obtain ⟨h1,h2⟩:=List.pairwise_cons.1 hp
  obtain ⟨z,M,hh⟩:=last_of (y::ys) (by simp) h2
  have aa:=h1 z M
  by_cases hl:Lk.late x z
  ·exact ⟨z,List.mem_cons_of_mem _ M,λw hw=>by
    rcases List.mem_cons.1 hw with rfl|hw
    ·exact .inr hl
    exact hh w hw⟩
  have Z:Lk.late z x:=by unfold Lk.late Lk.lt Pt.lt at *; omega
  refine ⟨x,List.mem_cons_self,λw hw=>?_⟩
  rcases List.mem_cons.1 hw with rfl|hw
  ·exact .inl rfl
  rcases hh w hw with rfl|hwz
  ·exact .inr Z
  right;unfold Lk.late Lk.lt Pt.lt at *; omega
theorem one_eq{z:Lk}:∀(K:List Lk),K.Pairwise Lk.lt->(K.filter λy=>decide (y=z)).length<=1
 |[],_=>by simp
 |x::xs,h=>by
  obtain ⟨M,h2⟩:=List.pairwise_cons.1 h
  rw [List.filter_cons]
  by_cases hx:x=z
  ·rw [if_pos (by simpa using hx),List.filter_eq_nil_iff.2 λy hy=>?_]
   ·simp
   intro hd
   have Z:y=z:=of_decide_eq_true hd
   have:=M y hy
   rw [hx,Z] at this
   exact Pt.lin.irr _ this
  rw [if_neg (by simpa using hx)];exact one_eq xs h2
theorem filt_two(P R:Lk->Bool):∀K:List Lk,(∀y∈K,P y=true\/R y=true)->K.length<=(K.filter P).length+(K.filter R).length
 |[],_=>by simp
 |x::xs,h=>by
  have ih:=filt_two P R xs λy Z=>h y (List.mem_cons_of_mem _ Z)
  have M:=h x List.mem_cons_self
  simp only [List.filter_cons,List.length_cons]
  cases hP:P x<;>cases hR:R x<;>simp_all<;>omega
theorem filt_len{P:Lk->Bool}{K xs:List Lk}(h:K.Sublist xs):(K.filter P).length<=(xs.filter P).length:=(h.filter P).length_le
theorem last_len{wd mo nw:Int}{xs:List Lk}(ha:xs.Pairwise Lk.lt)(hm:0<=mo):((xs.filter (inW 3 wd mo nw xs)).length:Int)<=mo:=by
 generalize hK:xs.filter (inW 3 wd mo nw xs)=K
 have Z:K.Sublist xs:=by rw [←hK];exact List.filter_sublist
 have M:=ha.sublist Z
 by_cases h0:K=[]
 ·rw [h0];simpa using hm
 obtain ⟨z,hz,hl⟩:=last_of K h0 M
 have h1:=filt_two (λy=>decide<|Lk.late y z) (λy=>decide<|y=z) K λy hy=>by
  rcases hl y hy with h|h
  ·exact .inr<|decide_eq_true h
  exact .inl<|decide_eq_true h
 have h2:=one_eq (z:=z) K M
 have h3:=filt_len (P:=λy=>decide<|Lk.late y z) Z
 have h4:inW 3 wd mo nw xs z=true:=by rw [←hK] at hz;exact (List.mem_filter.1 hz).2
 unfold inW at h4
 rw [if_neg dc,if_pos rfl] at h4
 have h5:=of_decide_eq_true h4
 unfold rankL at h5
 omega
end Go.Sl
namespace Go.Sl
variable {α:Type}[Inhabited α]
def insG(l:List α)(j:Nat)(x:α):List α:=l.take j++x::l.drop j
def placeG(cf:α->α->Int)(l:List α)(x:α):Nat->Nat
 |0=>0
 |j+1=>if cf x (e_ l j)<0 then placeG cf l x j else j+1
def insertG(cf:α->α->Int)(l:List α)(x:α):List α:=insG l (placeG cf l x l.length) x
theorem insAt_permG(l:List α)(j:Nat)(x:α):(insG l j x).Perm (x::l):=by
 have:=List.perm_middle (a:=x) (l₁:=l.take j) (l₂:=l.drop j)
 rw [List.take_append_drop] at this;exact this
end Go.Sl
namespace Go.Sl
def evC(a b:Ev):Int:=if a.tm<b.tm then -1 else if b.tm<a.tm then 1 else 0
def edgesK(xs:List Lk):List Pt:=xs.map λl=>⟨l.u,l.v⟩
theorem evC_neg{a b:Ev}:evC a b<0↔a.tm<b.tm:=by unfold evC;repeat (first|omega|split)
end Go.Sl
namespace Go.Sl
open Go.Proofs
set_option maxRecDepth 4000
theorem checkS_tm'{nd:Int}{xs:List Lk}(h:checkS nd xs=0):∀x∈xs,0<=x.tm/\x.tm<=1048576:=λx Z=>badL_tm ((checkS_ok h).2.1 x Z)
end Go.Sl
namespace Go.Sl
theorem checkW_cases{kd wd mo:Int}(h:checkW kd wd mo=0):(kd=1/\wd=0/\mo=0)\/(kd=2/\(1<=wd/\wd<=1048576)/\mo=0)\/(kd=3/\wd=0/\0<=mo/\mo<=2016):=by
 unfold checkW at h
 split at h
 ·cases h
 split at h
 ·cases h
 omega
section
variable {nd kd wd mo:Int}{es:List Ev}
theorem edgesK_ok{X:List Lk}(h:checkS nd X=0):GrOk nd (edgesK X):=by
 have M:=checkS_iff.1 h
 refine ⟨M.1,?_,λe he=>?_⟩
 ·show (edgesK X).Pairwise Pt.lt
  unfold edgesK
  exact List.Pairwise.map _ (λa b Z=>Z) M.2.2
 obtain ⟨l,hl,rfl⟩:=List.mem_map.1 he
 exact val_uv h l hl
theorem edgesK_len(X:List Lk):(edgesK X).length=X.length:=List.length_map ..
end
end Go.Sl
namespace Go.Sl
open Go.Proofs
set_option maxRecDepth 4000
variable{a va:Option Addr}{Z b c i:Nat}{xs ys:List Lk}
variable {κ:Ctx}{I:List Item}
theorem NodeE_ok(n:Int):eu prog κ 137 [e7 n] I (λr J=>r = .bool (decide (0<=n/\n<64))/\I=J):=by
 refine Ce1 Tryz.func137 C C ?_
 refine Af<|Ga C<|Ac<|Af<|Gm C<|Gr (Cr C C)<|Gm C<|Bt (d:=5) C (λZ=>?_)<|λZ=>?_
 ·exact e9 (Ai C)<|e9 (A4 C C)<|Gr (Ba C C)<|Ga C<|Ac<|Az<|A1 C C I Ay ⟨(by first|exact congrArg Value.bool (decide_eq_decide.2<|by skip;omega)|exact congrArg Value.bool (decide_eq_true<|by skip;omega).symm|exact congrArg Value.bool (decide_eq_false<|by skip;omega).symm),rfl⟩
 exact eb<|eb<|Gr (A6 C C)<|Ga C<|Ac<|Az<|A1 C C I Ay ⟨(by first|exact congrArg Value.bool (decide_eq_decide.2<|by skip;omega)|exact congrArg Value.bool (decide_eq_true<|by skip;omega).symm|exact congrArg Value.bool (decide_eq_false<|by skip;omega).symm),rfl⟩
theorem EndsE_ok(e:Ev):eu prog κ 91 [.agg (ez e).toArray] I (λr J=>r = .bool (decide (endsE e))/\I=J):=by
 refine Ce1 Tryz.func91 C C ?_
 refine Af<|Ge1 (Bg (cs:=[_,_,_,_,_,_,_]) C C C) λb1=>Ga C<|Ac<|Aq<|Af<|Gf fld54_0 C<|Gl ef ?_
 refine Gr (Bw C C)<|Ac<|A5 C (λc5=>?_)<|λc5=>?_
 ·refine Af (Gf fld54_2 C<|Gl ef ?_)
  refine Gc0 (Ak c_ C C<|NodeE_ok e.u) ?_
  refine Gm C<|Bt (d:=9) C (λg9=>?_)<|λg9=>?_
  ·refine e9 (Ad fld54_3 C) (e9 (Bb ef) ?_)
   exact e9 (Bw C C)<|Gr (Ba C C)<|Ga C<|Ac<|Ao (S1 2 C)<|Az<|Ap<|A1 C C I Ay ⟨(by first|exact congrArg Value.bool (decide_eq_decide.2<|by unfold endsE;omega)|exact congrArg Value.bool (decide_eq_true<|by unfold endsE;omega).symm|exact congrArg Value.bool (decide_eq_false<|by unfold endsE;omega).symm),rfl⟩
  exact eb<|eb<|eb<|Gr (A6 C C)<|Ga C<|Ac<|Ao (S1 2 C)<|Az<|Ap<|A1 C C I Ay ⟨(by first|exact congrArg Value.bool (decide_eq_decide.2<|by unfold endsE;omega)|exact congrArg Value.bool (decide_eq_true<|by unfold endsE;omega).symm|exact congrArg Value.bool (decide_eq_false<|by unfold endsE;omega).symm),rfl⟩
 refine Av<|Ah<|Af<|Gf fld54_2 C<|Gl ef ?_
 refine Gc0 (Ak c_ C C<|NodeE_ok e.u) ?_
 refine Gm C<|Bt (d:=17) C (λM=>?_)<|λM=>?_
 ·refine e9 (Ad fld54_3 C) (e9 (Bb ef) ?_)
  refine Ew (C5 C C C) (Ak c_ C C<|NodeE_ok e.v) ?_
  rintro _ _ ⟨_,_,⟨rfl,rfl⟩,rfl,rfl⟩
  refine Gr (Ba C C)<|Gm C<|Bt (d:=22) C (λZ=>?_)<|λZ=>?_
  ·refine e9 (Ad fld54_2 C) (e9 (Bb ef) ?_)
   refine e9 (Ad fld54_3 C)<|e9 (Bb ef) ?_
   exact e9 (Bo C C)<|Gr (Ba C C)<|Ga C<|Ac<|Ao (S1 2 C)<|Az<|A1 C C I Ay ⟨(by first|exact congrArg Value.bool (decide_eq_decide.2<|by unfold endsE;omega)|exact congrArg Value.bool (decide_eq_true<|by unfold endsE;omega).symm|exact congrArg Value.bool (decide_eq_false<|by unfold endsE;omega).symm),rfl⟩
  exact eb<|eb<|eb<|eb<|eb<|Gr (A6 C C)<|Ga C<|Ac<|Ao (S1 2 C)<|Az<|A1 C C I Ay ⟨(by first|exact congrArg Value.bool (decide_eq_decide.2<|by unfold endsE;omega)|exact congrArg Value.bool (decide_eq_true<|by unfold endsE;omega).symm|exact congrArg Value.bool (decide_eq_false<|by unfold endsE;omega).symm),rfl⟩
 exact eb<|eb<|eb<|Gr (A6 C C)<|Gm C<|eb<|eb<|eb<|eb<|eb<|Gr (A6 C C)<|Ga C<|Ac<|Ao (S1 2 C)<|Az<|A1 C C I Ay ⟨(by first|exact congrArg Value.bool (decide_eq_decide.2<|by unfold endsE;omega)|exact congrArg Value.bool (decide_eq_true<|by unfold endsE;omega).symm|exact congrArg Value.bool (decide_eq_false<|by unfold endsE;omega).symm),rfl⟩
theorem CheckE_ok(e:Ev):eu prog κ 45 [.agg (ez e).toArray] I (λr J=>r=e7 (checkE e)/\I=J):=by
 refine Ce1 Tryz.func45 C C ?_
 refine Af<|Ge1 (Bg (cs:=[_,_,_,_,_,_,_]) C C C) λb1=>Ga C<|Ac<|Aq<|Aw<|Af<|Gf fld54_0 C<|Gl ef ?_
 refine Gr (A4 C C)<|Gm C<|Bt (d:=7) C (λg7=>?_)<|λg7=>?_
 ·exact eb<|eb<|eb<|Gr (Ba C C)<|Ga C<|Ac<|Dj C<|Af<|Ga C<|Ac<|Ao (S1 2 C)<|Az<|A7<|Ap<|A1 C C I Ay ⟨by rw [show checkE e=8 from checkE_eight om],rfl⟩
 refine e9 (Ad fld54_0 C)<|e9 (Bb ef) ?_
 refine e9 (Cc C C)<|Gr (A6 C C)<|Ga C<|Ac<|A5 C (λc3=>?_)<|λc3=>?_
 ·exact Af<|Ga C<|Ac<|Ao (S1 2 C)<|Az<|A7<|Ap<|A1 C C I Ay ⟨by rw [show checkE e=8 from checkE_eight om],rfl⟩
 refine Af<|Gf fld54_1 C<|Gl ef ?_
 refine Gr (A4 C C)<|Gm C<|Bt (d:=16) C (λah=>?_)<|λah=>?_
 ·exact eb<|eb<|eb<|Gr (Ba C C)<|Ga C<|Ac<|Ao (S2 12 1 C C)<|Dj C<|Af<|Ga C<|Ac<|Az<|A7<|Ap<|A1 C C I Ay ⟨by rw [show checkE e=9 from checkE_nine om om],rfl⟩
 refine e9 (Ad fld54_1 C)<|e9 (Bb ef) ?_
 refine e9 (Cc C C)<|Gr (A6 C C)<|Ga C<|Ac<|Ao (S2 12 1 C C)<|A5 C (λc12=>?_)<|λc12=>?_
 ·exact Af<|Ga C<|Ac<|Az<|A7<|Ap<|A1 C C I Ay ⟨by rw [show checkE e=9 from checkE_nine om om],rfl⟩
 refine Af<|Gl7 ty54 ?_
 refine Gc0 (Ak c_ C C<|EndsE_ok e) ?_
 refine Gr (Dk C)<|Ga C<|Ac<|A5 C (λad=>?_)<|λad=>?_
 ·exact Af<|Ga C<|Ac<|Az<|A7<|Ap<|A1 C C I Ay ⟨by rw [show checkE e=6 from checkE_six om om (by first|assumption|(unfold endsE;omega))],rfl⟩
 refine Af<|Gf fld54_0 C<|Gl ef ?_
 refine Gr (Bw C C)<|Gm C<|Bt (d:=29) C (λai=>?_)<|λai=>?_
 ·refine e9 (Ad fld54_4 C) (e9 (Bb ef) ?_)
  refine e9 (Ad fld54_5 C)<|e9 (Bb ef) ?_
  refine e9 (Ad fld54_6 C)<|e9 (Bb ef) ?_
  refine Ew (C5 C C C) (Ak c_ C C<|RightW_ok e.w e.lb e.sg) ?_
  rintro _ _ ⟨_,_,⟨rfl,rfl⟩,rfl,rfl⟩
  refine e9 (Dk C)<|Gr (Ba C C)<|Ga C<|Ac<|Ao (S2 25 1 C C)<|A5 C (λae=>?_)<|λae=>?_
  ·exact Af<|Ga C<|Ac<|Az<|A7<|Ap<|A1 C C I Ay ⟨by rw [show checkE e=1 from checkE_one om om (by first|assumption|exact Classical.not_not.1 asm|(unfold endsE;omega)) (by first|(exact .inr om)|exact .inl ⟨by omega,by assumption⟩|exact .inl ⟨by omega,λh=>by simp_all⟩)],rfl⟩
  refine Af<|Gf fld54_0 C<|Gl ef ?_
  refine Gr (Bo C C)<|Gm C<|Bt (d:=43) C (λaa=>?_)<|λaa=>?_
  ·refine e9 (Ad fld54_4 C) (e9 (Bb ef) ?_)
   refine e9 (Bo C C)<|e9 (Ai C)<|Bt (d:=47) C (λZ=>?_)<|λZ=>?_
   ·exact eb<|eb<|eb<|e9 (Ba C C)<|e9 (Ai C)<|eb<|eb<|eb<|e9 (Ba C C)<|Gr (Ba C C)<|Ga C<|Ac<|Ao (S1 39 C)<|Dj C<|Af<|Ga C<|Ac<|Az<|A7<|Ap<|A1 C C I Ay ⟨by rw [show checkE e=1 from checkE_one om om (by first|assumption|exact Classical.not_not.1 asm|(unfold endsE;omega)) (by first|(exact .inr om)|exact .inl ⟨by omega,by assumption⟩|exact .inl ⟨by omega,λh=>by simp_all⟩)],rfl⟩
   refine e9 (Ad fld54_5 C)<|e9 (Bb ef) ?_
   refine e9 (Bo C C)<|e9 (A6 C C)<|e9 (Ai C)<|Bt (d:=52) C (λM=>?_)<|λM=>?_
   ·exact eb<|eb<|eb<|e9 (Ba C C)<|Gr (Ba C C)<|Ga C<|Ac<|Ao (S1 39 C)<|Dj C<|Af<|Ga C<|Ac<|Az<|A7<|Ap<|A1 C C I Ay ⟨by rw [show checkE e=1 from checkE_one om om (by first|assumption|exact Classical.not_not.1 asm|(unfold endsE;omega)) (by first|(exact .inr om)|exact .inl ⟨by omega,by assumption⟩|exact .inl ⟨by omega,λh=>by simp_all⟩)],rfl⟩
   refine e9 (Ad fld54_6 C)<|e9 (Bb ef) ?_
   refine e9 (Bo C C)<|e9 (A6 C C)<|Gr (Ba C C)<|Ga C<|Ac<|Ao (S1 39 C)<|A5 C (λab=>?_)<|λab=>?_
   ·exact Af<|Ga C<|Ac<|Az<|A7<|Ap<|A1 C C I Ay ⟨by rw [show checkE e=1 from checkE_one om om (by first|assumption|exact Classical.not_not.1 asm|(unfold endsE;omega)) (by first|(exact .inr om)|exact .inl ⟨by omega,by assumption⟩|exact .inl ⟨by omega,λh=>by simp_all⟩)],rfl⟩
   exact Av<|Aj<|Ah<|Af<|Ga C<|Ac<|Az<|A1 C C I Ay ⟨by rw [show checkE e=0 from checkE_zero om om (by first|assumption|exact Classical.not_not.1 asm|(unfold endsE;omega)) (λh=>by first|(exfalso;omega)|assumption|exact Classical.not_not.1 asm) (λh=>by omega)],rfl⟩
  exact eb<|eb<|eb<|eb<|ee<|ee<|ee<|eb<|eb<|ee<|ee<|ee<|eb<|Gr (A6 C C)<|Ga C<|Ac<|Ao (S1 39 C)<|Dp C<|Av<|Aj<|Ah<|Af<|Ga C<|Ac<|Az<|A1 C C I Ay ⟨by rw [show checkE e=0 from checkE_zero om om (by first|assumption|exact Classical.not_not.1 asm|(unfold endsE;omega)) (λh=>by first|(exfalso;omega)|assumption|exact Classical.not_not.1 asm) (λh=>by omega)],rfl⟩
 refine eb<|eb<|eb<|eb<|eb<|eb<|eb<|eb<|Gr (A6 C C)<|Ga C<|Ac<|Ao (S2 25 1 C C)<|Dp C<|Af<|Gf fld54_0 C<|Gl ef ?_
 refine Gr (Bo C C)<|Gm C<|Bt (d:=43) C (λaa=>?_)<|λaa=>?_
 ·refine e9 (Ad fld54_4 C) (e9 (Bb ef) ?_)
  refine e9 (Bo C C)<|e9 (Ai C)<|Bt (d:=47) C (λZ=>?_)<|λZ=>?_
  ·exact eb<|eb<|eb<|e9 (Ba C C)<|e9 (Ai C)<|eb<|eb<|eb<|e9 (Ba C C)<|Gr (Ba C C)<|Ga C<|Ac<|Ao (S1 39 C)<|Dj C<|Af<|Ga C<|Ac<|Az<|A7<|Ap<|A1 C C I Ay ⟨by rw [show checkE e=1 from checkE_one om om (by first|assumption|exact Classical.not_not.1 asm|(unfold endsE;omega)) (by first|(exact .inr om)|exact .inl ⟨by omega,by assumption⟩|exact .inl ⟨by omega,λh=>by simp_all⟩)],rfl⟩
  refine e9 (Ad fld54_5 C)<|e9 (Bb ef) ?_
  refine e9 (Bo C C)<|e9 (A6 C C)<|e9 (Ai C)<|Bt (d:=52) C (λM=>?_)<|λM=>?_
  ·exact eb<|eb<|eb<|e9 (Ba C C)<|Gr (Ba C C)<|Ga C<|Ac<|Ao (S1 39 C)<|Dj C<|Af<|Ga C<|Ac<|Az<|A7<|Ap<|A1 C C I Ay ⟨by rw [show checkE e=1 from checkE_one om om (by first|assumption|exact Classical.not_not.1 asm|(unfold endsE;omega)) (by first|(exact .inr om)|exact .inl ⟨by omega,by assumption⟩|exact .inl ⟨by omega,λh=>by simp_all⟩)],rfl⟩
  refine e9 (Ad fld54_6 C)<|e9 (Bb ef) ?_
  refine e9 (Bo C C)<|e9 (A6 C C)<|Gr (Ba C C)<|Ga C<|Ac<|Ao (S1 39 C)<|A5 C (λab=>?_)<|λab=>?_
  ·exact Af<|Ga C<|Ac<|Az<|A7<|Ap<|A1 C C I Ay ⟨by rw [show checkE e=1 from checkE_one om om (by first|assumption|exact Classical.not_not.1 asm|(unfold endsE;omega)) (by first|(exact .inr om)|exact .inl ⟨by omega,by assumption⟩|exact .inl ⟨by omega,λh=>by simp_all⟩)],rfl⟩
  exact Av<|Aj<|Ah<|Af<|Ga C<|Ac<|Az<|A1 C C I Ay ⟨by rw [show checkE e=0 from checkE_zero om om (by first|assumption|exact Classical.not_not.1 asm|(unfold endsE;omega)) (λh=>by first|(exfalso;omega)|assumption|exact Classical.not_not.1 asm) (λh=>by omega)],rfl⟩
 exact eb<|eb<|eb<|eb<|ee<|ee<|ee<|eb<|eb<|ee<|ee<|ee<|eb<|Gr (A6 C C)<|Ga C<|Ac<|Ao (S1 39 C)<|Dp C<|Av<|Aj<|Ah<|Af<|Ga C<|Ac<|Az<|A1 C C I Ay ⟨by rw [show checkE e=0 from checkE_zero om om (by first|assumption|exact Classical.not_not.1 asm|(unfold endsE;omega)) (λh=>by first|(exfalso;omega)|assumption|exact Classical.not_not.1 asm) (λh=>by omega)],rfl⟩
theorem FitsE_ok(nd:Int)(e:Ev):eu prog κ 170 [e7 nd,.agg (ez e).toArray] I (λr J=>r=e7 (fitE nd e)/\I=J):=by
 refine Ce2 Tryz.func170 C C ?_
 refine Af<|Ge1 (Bg (cs:=[_,_,_,_,_,_,_]) C C C) λb1=>Ga C<|Ac<|Aq<|Af<|Gl7 ty54 ?_
 refine Gc0 (Ak c_ C C<|CheckE_ok e) ?_
 refine Ga C<|Ac<|Af<|Gm C<|Gr (Bo C C)<|Ac<|A5 C (λZ=>?_)<|λZ=>?_
 ·exact Af<|Gm C<|Ga C<|Ac<|Az<|Ap<|A1 C C I Ay ⟨by rw [show fitE nd e=checkE e from (by unfold fitE;rw [if_pos Z])],rfl⟩
 refine Av<|Ah<|Aq<|Af<|Gf fld54_2 C<|Gl ef ?_
 refine Gm C<|Gr (Cr C C)<|Gm C<|Bt (d:=15) C (λaa=>?_)<|λaa=>?_
 ·exact eb<|eb<|eb<|eb<|Gr (Ba C C)<|Ac<|Ao (S1 20 C)<|Dj C<|Af<|Ga C<|Ac<|Az<|Ap<|A1 C C I Ay ⟨by rw [show fitE nd e=6 from (by unfold fitE;rw [if_neg Z,if_pos om])],rfl⟩
 refine e9 (Ad fld54_3 C)<|e9 (Bb ef) ?_
 refine e9 (Ai C)<|e9 (Cr C C)<|Gr (A6 C C)<|Ac<|Ao (S1 20 C)<|A5 C (λM=>?_)<|λM=>?_
 ·exact Af<|Ga C<|Ac<|Az<|Ap<|A1 C C I Ay ⟨by rw [show fitE nd e=6 from (by unfold fitE;rw [if_neg Z,if_pos om])],rfl⟩
 exact Av<|Ah<|Af<|Ga C<|Ac<|Az<|A1 C C I Ay ⟨by rw [show fitE nd e=0 from (by unfold fitE;rw [if_neg Z,if_neg om])],rfl⟩
variable {κ:Ctx}{I:List Item}
theorem ov219:∀Z w,(callFunc 219 Z).run prog w=((Extern.SlicesOverlaps.overlaps #[33,33] #[4] Z).run prog w).andThen λv w'=> .ok (.value v) w':=λZ w=>run_callFunc_extern (e:=Extern.SlicesOverlaps.overlaps #[33,33] #[4]) Tryz.func219 kr kr kr kr Z w
set_option maxHeartbeats 8000000 in
theorem InsertL_ok{a va:Option Addr}{c Z i:Nat}{xs ys:List Lk}(hi:i<=xs.length)(hy:0<ys.length)(aq:xs.length+ys.length<=1000000000):eu prog κ 210 [.slice a xs.length c,e7 ((i:Int)),.slice va ys.length Z] (vc 82 (.slice a xs.length c) (xs)::vc 82 (.slice va ys.length Z) (ys)::I) (λr J=>∃a' c',r = .slice a' (List.take i xs++ys++List.drop i xs).length c'/\J=vc 82 (.slice a' (List.take i xs++ys++List.drop i xs).length c') (List.take i xs++ys++List.drop i xs)::I):=by
 refine B8 (vc.cap List.mem_cons_self) λao=>?_
 have aa:(List.take i xs++ys++List.drop i xs).length=xs.length+ys.length:=by simp only [List.length_append,List.length_take,List.length_drop];omega
 refine Ce3 Tryz.func210 C C ?_
 refine Af<|Ga C<|Ac<|Af<|Gm C<|Gm C<|Gr (Ek (α:=Lk) (xs:=xs) (l:=i) A9 ty82 C C om Bf lat)<|Ac<|Af<|Gm C<|Gr (Bh A9 C)<|Ga C<|Ac<|Aq<|Af<|Gm C<|Gr (Bw C C)<|Ac<|A5 C (λah=>?_)<|λah=>?_
 ·exact absurd ah om
 refine Av<|Ah<|Af<|Gm C<|Gr (Bh A9 C)<|Ga C<|Ac<|Ao (S5 8 7 0 1 2 C C C C C)<|Aq<|Af<|Gm C<|Gm C<|Gr (Bw C C)<|Ac<|A5 C (λak=>?_)<|λak=>?_
 ·refine Af (Gm C<|Gm C<|Ge2 (Cg (α:=Lk) (e:=82) (xs:=xs) (ys:=ys) A9 ty82 C C C mm Bf om dc C<|λ_ _=>am) λad ae=>?_)
  refine Ga C<|Ac<|Az<|Ap ?_
  have hR:List.take i xs++ys++List.drop i xs=xs++ys:=by rw [List.take_of_length_le om,List.drop_eq_nil_of_le om,List.append_nil]
  exact A1 C C (vc 82 (.slice ad (List.take i xs++ys++List.drop i xs).length ae) (List.take i xs++ys++List.drop i xs)::I) (by rw [hR];exact Bl) ⟨ad,ae,by rw [hR],rfl⟩
 refine Av<|Ah<|Aq<|Af<|Gm C<|Gm C<|Gr (Rad C C)<|Gm C<|Gr (Runs.caps A9 C)<|Gr (Cc C C)<|Ac<|Ao (S6 31 8 7 0 1 2 C C C C C C)<|A5 C (λai=>?_)<|λai=>?_
 ·refine Af (Gm C<|Gm C<|Gr (E2 (h:=i) A9 ty82 C C om om)<|Gm C<|Gm C<|Gr (Rad C C)<|Gm C<|Gr (Rsu C C)<|Ge2 (Eff.grow (α:=Lk) (xs:=xs) (k:=xs.length+ys.length - i) A9 Ce ty82 C C C om Bf om om om om dc C) λab M=>?_)
  refine Ga C<|G.pull (p:=(List.take i xs++List.replicate (xs.length+ys.length - i) (default:Lk)).length<=M) (vc.cap mm) λan=>?_
  have ap:(List.take i xs++List.replicate (xs.length+ys.length - i) (default:Lk)).length=xs.length+ys.length:=by simp only [List.length_append,List.length_take,List.length_replicate];omega
  refine Ac<|Ao (S5 9 7 0 1 2 C C C C C)<|Af<|Gm C<|Gm C<|Gr (Ek (α:=Lk) (xs:=List.take i xs++List.replicate (xs.length+ys.length - i) (default:Lk)) (l:=i) A9 ty82 C C om Bf lat)<|Gm C<|Ge0 (Fe (α:=Lk) (k:=i) (q:=ys.length) (R:=List.take i xs++ys++List.replicate (xs.length - i) (default:Lk)) (n:=(i+(xs.length+ys.length - i))) A9 ty82 C lat C Bf lat lat C (ins1 hi) lat am) ?_
  refine Ac<|Aq<|Bq mixed<|Ca I 9<|Dr 0 C (Ai C)<|Dr 1 C (Ai C)<|Dr 2 C (Ai C)<|Dr 3 C (Rad C C)<|Dr 4 C (C1 (l:=(i+ys.length)) A9 ty82 C C om om om)<|Dr 5 C (Ai C)<|Dr 6 C (Ai C)<|Dr 7 C (C1 (l:=i) A9 ty82 C C om om om)<|Ds1 8<|Se0 C (Fe (α:=Lk) (k:=(i+ys.length)) (q:=(xs.length - i)) (R:=List.take i xs++ys++List.drop i xs) (n:=(i+(xs.length+ys.length - i))) A9 ty82 C lat C (Sl.dropn (C3 (xs:=xs) mm) om om) lat lat C (ins2 hi) lat am) ?_
  exact Dz<|Ah<|Ao (S1 9 C)<|Af<|Gm C<|Ga C<|Ac<|Az<|Ap<|A1 C C (vc 82 (.slice ab (List.take i xs++ys++List.drop i xs).length M) (List.take i xs++ys++List.drop i xs)::I) (by rw [show (List.take i xs++ys++List.drop i xs).length=i+(xs.length+ys.length - i) by omega];exact Bl) ⟨ab,M,by rw [show (List.take i xs++ys++List.drop i xs).length=i+(xs.length+ys.length - i) by omega],rfl⟩
 refine Av<|Ah<|Af<|Gm C<|Gm C<|Gm C<|Gr (Rad C C)<|Gr (E2 (h:=xs.length+ys.length) A9 ty82 C C om om)<|Ga C<|G.room (h:=xs.length+ys.length) (by repeat (first|exact AtF.head _ _|apply AtF.tail)) C om om<|λjs aj=>?_
 show G prog κ _ _ _ _ ([(0,.slice a (xs.length+ys.length) c),(60,.slice a (xs.length+ys.length) c),(59,e7<|((xs.length:Nat):Int)+((ys.length:Nat):Int)),(58,e7 ((ys.length:Nat):Int)),(57,e7 ((xs.length:Nat):Int)),(56,.slice a xs.length c),(31,.bool<|decide<|(c:Int)<(((xs.length:Nat):Int)+((ys.length:Nat):Int))),(8,e7 ((xs.length:Nat):Int)),(7,e7 ((ys.length:Nat):Int)),(0,.slice a xs.length c),(1,e7<|(i:Int)),(2,.slice va ys.length Z)]:Env) (vec 82 (Enc.sz Lk) (.slice a (xs.length+ys.length) c) (xs.length+ys.length) (cells xs++js)::vc 82 (.slice va ys.length Z) (ys)::I)
 refine Ac<|Aq<|Af<|Gm C<|Gm C<|Gm C<|Gm C<|Gr (Rad C C)<|Gr (C1 (l:=(i+ys.length)) A9 ty82 C C om om om)<|Ge0 (Eff.overlaps (k:=i+ys.length) ov219 A9 ty82 C C om om om (show Fit κ _ (vc 82 (.slice va ys.length Z) ys::vec 82 (Enc.sz Lk) (.slice a (xs.length+ys.length) c) (xs.length+ys.length) (cells xs++js)::I) from Fit.sp (Sp.pick (Pick.tail _<|Pick.head _ _)<|Sp.refl _)) (Nat.mul_pos om Enc.pos) C) ?_
 refine Gr (Co C)<|Ac<|Ao (S6 68 0 8 7 1 2 C C C C C C)<|Dj C<|Aq<|Bq mixed<|Ca I 9<|Dr 0 C (Ai C)<|Dr 1 C (Ai C)<|Dr 2 C (Ai C)<|Dr 3 C (Rad C C)<|Dr 4 C (C1 (l:=(i+ys.length)) A9 ty82 C C om om om)<|Dr 5 C (Ai C)<|Dr 6 C (Ai C)<|Dr 7 C (C1 (l:=i) A9 ty82 C C om om om)<|Ds1 8<|Se0 C (Eff.copyR (sz:=Enc.sz Lk) (n:=xs.length+ys.length) (cs:=(cells xs++js)) (k:=(i+ys.length)) (q:=(xs.length - i)) A9 ty82 C om C (SlRd.dropR (SlRd.vec mm) om) om om (ins_one hi) C am) ?_
 show D prog κ _ _ _ _ _ _ _ ([(77,e7<|(((xs.length - i):Nat):Int)),(76,.slice (adrop a c i<|Enc.sz Lk) ((xs.length+ys.length) - i)<|c - i),(75,e7<|(i:Int)),(74,.slice a (xs.length+ys.length) c),(73,.slice (adrop a c (i+ys.length)<|Enc.sz Lk) ((xs.length+ys.length) - (i+ys.length))<|c - (i+ys.length)),(72,e7<|(i:Int)+((ys.length:Nat):Int)),(71,e7 ((ys.length:Nat):Int)),(70,e7<|(i:Int)),(69,.slice a (xs.length+ys.length) c),(68,.bool true),(0,.slice a (xs.length+ys.length) c),(8,e7 ((xs.length:Nat):Int)),(7,e7 ((ys.length:Nat):Int)),(1,e7<|(i:Int)),(2,.slice va ys.length Z)]:Env) (vec 82 (Enc.sz Lk) (.slice a (xs.length+ys.length) c) (xs.length+ys.length) (List.take ((i+ys.length)*Enc.sz Lk) (cells xs++js)++List.take ((xs.length - i)*Enc.sz Lk) (List.drop (i*Enc.sz Lk)<|cells xs++js)++List.drop ((i+ys.length)*Enc.sz Lk+(xs.length - i)*Enc.sz Lk) (cells xs++js))::vc 82 (.slice va ys.length Z) (ys)::I)
 refine Dz<|Ah<|Ao (S3 0 1 2 C C C)<|Af<|Gm C<|Gm C<|Gr (C1 (l:=i) A9 ty82 C C om om om)<|Gm C<|Ge0 (Eff.copyR (sz:=Enc.sz Lk) (n:=xs.length+ys.length) (cs:=(List.take ((i+ys.length)*Enc.sz Lk) (cells xs++js)++List.take ((xs.length - i)*Enc.sz Lk) (List.drop (i*Enc.sz Lk)<|cells xs++js)++List.drop ((i+ys.length)*Enc.sz Lk+(xs.length - i)*Enc.sz Lk) (cells xs++js))) (k:=i) (q:=ys.length) A9 ty82 C om C (show Sl κ _ (.slice va ys.length Z) ys from (C3 (e:=82) (xs:=ys) mm)) om om (λu hu=>cells_one ys u<|List.mem_of_mem_take hu) C am) ?_
 show G prog κ _ _ _ _ ([(82,e7 ((ys.length:Nat):Int)),(81,.slice va ys.length Z),(80,.slice (adrop a c i<|Enc.sz Lk) ((xs.length+ys.length) - i)<|c - i),(79,e7<|(i:Int)),(78,.slice a (xs.length+ys.length) c),(0,.slice a (xs.length+ys.length) c),(1,e7<|(i:Int)),(2,.slice va ys.length Z)]:Env) (vec 82 (Enc.sz Lk) (.slice a (xs.length+ys.length) c) (xs.length+ys.length) (List.take (i*Enc.sz Lk) (List.take ((i+ys.length)*Enc.sz Lk) (cells xs++js)++List.take ((xs.length - i)*Enc.sz Lk) (List.drop (i*Enc.sz Lk)<|cells xs++js)++List.drop ((i+ys.length)*Enc.sz Lk+(xs.length - i)*Enc.sz Lk) (cells xs++js))++List.take (ys.length*Enc.sz Lk) (cells ys)++List.drop (i*Enc.sz Lk+ys.length*Enc.sz Lk) (List.take ((i+ys.length)*Enc.sz Lk) (cells xs++js)++List.take ((xs.length - i)*Enc.sz Lk) (List.drop (i*Enc.sz Lk)<|cells xs++js)++List.drop ((i+ys.length)*Enc.sz Lk+(xs.length - i)*Enc.sz Lk) (cells xs++js)))::vc 82 (.slice va ys.length Z) (ys)::I)
 refine Ac<|Af<|Gm C<|Ga C<|Ac<|Az<|Ap ?_
 have hC:(List.take (i*Enc.sz Lk) (List.take ((i+ys.length)*Enc.sz Lk) (cells xs++js)++List.take ((xs.length - i)*Enc.sz Lk) (List.drop (i*Enc.sz Lk)<|cells xs++js)++List.drop ((i+ys.length)*Enc.sz Lk+(xs.length - i)*Enc.sz Lk) (cells xs++js))++List.take (ys.length*Enc.sz Lk) (cells ys)++List.drop (i*Enc.sz Lk+ys.length*Enc.sz Lk) (List.take ((i+ys.length)*Enc.sz Lk) (cells xs++js)++List.take ((xs.length - i)*Enc.sz Lk) (List.drop (i*Enc.sz Lk)<|cells xs++js)++List.drop ((i+ys.length)*Enc.sz Lk+(xs.length - i)*Enc.sz Lk) (cells xs++js)))=cells (List.take i xs++ys++List.drop i xs):=ins_cells hi aj
 exact A1 C C (vc 82 (.slice a (List.take i xs++ys++List.drop i xs).length c) (List.take i xs++ys++List.drop i xs)::I) (by rw [hC];show Fit κ _ (vec 82 _ (.slice a (List.take i xs++ys++List.drop i xs).length c) (List.take i xs++ys++List.drop i xs).length (cells<|List.take i xs++ys++List.drop i xs)::I);rw [aa];exact Bl) ⟨a,c,by rw [aa],rfl⟩
theorem InsertL_two{n m:Nat}{K:List Item}(hf:Fit κ I (vc 82 (.slice a n c) xs::vc 82 (.slice va m Z) ys::K))(hn:n=xs.length)(hm:m=ys.length)(hi:i<=xs.length)(hy:0<ys.length)(M:xs.length+ys.length<=1000000000):eu prog κ 210 [.slice a n c,e7 (i:Int),.slice va m Z] I (λr J=>∃a' c',r = .slice a' (List.take i xs++ys++List.drop i xs).length c'/\J=vk 82 a' c' (List.take i xs++ys++List.drop i xs)::K):=by
 subst hn hm
 exact Cm hf<|InsertL_ok hi hy M
theorem BSearchL{v:Value}(hl:Sl κ I v xs)(x:Lk){g:FuncId}{Z:List Value}{cf:Lk->Lk->Int}(M:Cmps prog κ I g Z cf)(an:xs.length<=1000000000000):eu prog κ 209 [v,.agg #[e7 (x.u),e7 (x.v),e7 (x.w),e7 (x.lb),e7 (x.sg),e7 (x.tm)],.func (.func g) #[] Z.toArray] I (λr J=>∃i b,r = .tuple #[e7 ((i:Nat):Int),.bool b]/\BFound cf xs x i b/\I=J):=by
 refine B8 hl.le λaj=>?_
 refine Ce3 Tryz.func209 C C ?_
 refine Af<|Ge1 (Bg (cs:=[_,_,_,_,_,_]) C C C) λb1=>Ga C<|Ga C<|Ac<|Af<|Gm C<|Gr (B9 (α:=Lk) (xs:=xs) A9 C<|A8 hl)<|Ga C<|Ac<|Af<|Gm C<|Ga C<|Ga C<|Ac<|Aq<|Aw<|Bu (σ:=Nat×Nat) (λs=>([(0,v),(2,.func (.func g) #[] Z.toArray),(4,pt b1),(8,e7 ((xs.length:Nat):Int)),(9,e7 ((s.1:Nat):Int)),(10,e7 ((s.2:Nat):Int))]:Env)) (λs=>e8 b1 [e7 (x.u),e7<|x.v,e7<|x.w,e7<|x.lb,e7<|x.sg,e7<|x.tm] 82::I) (λs=>(s.1<=s.2)/\(s.2<=xs.length)/\(0<s.1->cf (e_ xs<|(s.1:Int) - 1) x<0)/\(s.2<xs.length->¬cf (e_ xs s.2) x<0)) (λs=>s.2 - s.1) (0,xs.length) (show ((0:Nat)<=(xs.length:Nat))/\((xs.length:Nat)<=xs.length)/\(0<(0:Nat)->cf (e_ xs<|((0:Nat):Int) - 1) x<0)/\((xs.length:Nat)<xs.length->¬cf (e_ xs ((xs.length:Nat):Int)) x<0) from ⟨om,om,(λh=>absurd h dc),(λh=>absurd h om)⟩) (Aa C<|Aa C<|Aa C<|Aa C<|Aa B2<|Aa B2 Bi) (show Fit κ _ (e8 b1 [e7 (x.u),e7<|x.v,e7<|x.w,e7<|x.lb,e7<|x.sg,e7<|x.tm] 82::I) from Bc) ?_
 rintro ⟨i,j⟩ hp
 dsimp only at hp ⊢
 obtain ⟨ak,hj,aa,ae⟩:=hp
 refine Aq<|Af<|Gm C<|Gm C<|Gr (A4 C C)<|Ac<|A5 C (λai=>?_)<|λai=>?_
 ·refine Av (Ah<|Aw<|Af<|Gm C<|Gm C<|Gr (Rad C C)<|Gr (Runs.convU Ce D5 C om)<|Gr (Runs.shr1 C C)<|Gr (Runs.convI D5 Ce C<|by unfold InR;omega)<|Ga C<|Ac<|Ao (S7 11 0 2 4 8 9 10 C C C C C C C)<|Aq<|Bq mixed<|Ca (e8 b1 [e7 (x.u),e7<|x.v,e7<|x.w,e7<|x.lb,e7<|x.sg,e7<|x.tm] 82::I) 8<|Dr 0 C (Ai C)<|Dr 1 C (Ai C)<|Dr 2 C (Ai C)<|Dr 3 C (Ax (α:=Lk) (xs:=xs) A9 ty82 C C (A8 hl) om om)<|Dr 4 C (Bx (α:=Lk) (xs:=xs) ty82 C (A8 hl) om om)<|Dr 5 C (Be (vs:=[_,_,_,_,_,_]) ty82) ?_)
  refine Ds1 6<|Se C (Cv M.1 (first:=[]) (caps:=Z) C C C<|M.2 (e_ xs<|((i:Int)+(j:Int)) / 2) x _ Ay) ?_
  rintro _ _ ⟨_,_,⟨rfl,rfl⟩,rfl,rfl⟩
  refine ⟨Bc,?_⟩
  refine Dr 7 C (A4 C C)<|Dz<|Ah<|Ao (S8 31 11 0 2 4 8 9 10 C C C C C C C C)<|A5 C (λab=>?_)<|λab=>?_
  ·exact Ar<|Gm C<|Gr (Rad C C)<|Ga C<|Bj<|Aj<|B3 (((i+j) / 2+1),(j))<|by dsimp only;exact ⟨om,om,(λ_=>by rw [show (((i+j) / 2+1:Nat):Int) - 1=((i:Int)+(j:Int)) / 2 by omega];exact ab),ae⟩
  exact Ar<|Gm C<|Ga C<|Bj<|Aj<|B3 ((i),((i+j) / 2))<|by dsimp only;exact ⟨om,om,aa,(λ_=>by rw [show (((i+j) / 2:Nat):Int)=((i:Int)+(j:Int)) / 2 by omega];exact ab)⟩
 refine Bs<|Al<|Al<|A2<|Ah<|Aq<|Bq mixed<|Ca (e8 b1 [e7 (x.u),e7<|x.v,e7<|x.w,e7<|x.lb,e7<|x.sg,e7<|x.tm] 82::I) 16<|Dr 0 C (Ai C)<|Dr 1 C (Ai C)<|Dr 2 C (Ai C)<|Dr 3 C (A4 C C)<|Dr 4 C (Ai C)<|El (d:=39) C (λah=>?_)<|λah=>?_
 ·refine Dro 5 C (Ai C) (Dro 6 C (Ai C)<|Dro 7 C (Ai C)<|Dro 8 C (Ax (α:=Lk) (xs:=xs) A9 ty82 C C (A8 hl) om om)<|Dro 9 C (Bx (α:=Lk) (xs:=xs) ty82 C (A8 hl) om om)<|Dro 10 C (Be (vs:=[_,_,_,_,_,_]) ty82) ?_)
  refine Ds1 11<|Se C (Cv M.1 (first:=[]) (caps:=Z) C C C<|M.2 (e_ xs i) x _ Ay) ?_
  rintro _ _ ⟨_,_,⟨rfl,rfl⟩,rfl,rfl⟩
  refine ⟨Bc,?_⟩
  refine Dro 12 C (Bw C C)<|Dr 13 C (Ba C C)<|Dr 14 C (Bd C)<|Dr 15 C (Bd C)<|Dz<|Ah<|Ao (S2 7 6 C C)<|Az ?_
  have ad:i=j:=by omega
  subst ad
  exact C7 C C C I Ay ⟨i,_,rfl,⟨hj,aa,ae,(decide_eq_decide.2 ⟨λh=>⟨by omega,h⟩,λh=>h.2⟩)⟩,rfl⟩
 refine Dpo 5 C<|Dpo 6 C<|Dpo 7 C<|Dpo 8 C<|Dpo 9 C<|Dpo 10 C<|Dpo 11 C<|Dpo 12 C<|Dr 13 C (A6 C C)<|Dr 14 C (Bd C)<|Dr 15 C (Bd C)<|Dz<|Ah<|Ao (S2 7 6 C C)<|Az ?_
 have ad:i=j:=by omega
 subst ad
 exact C7 C C C I Ay ⟨i,_,rfl,⟨hj,aa,ae,((decide_eq_false<|λh=>by omega).symm)⟩,rfl⟩
theorem OrderL_cmps:Cmps prog κ I 144 [] Lk.cmp:=⟨c_,λx y J Z=>OrderL_ok x y⟩
variable {κ:Ctx}{I:List Item}
theorem hitE_two{e:Ev}{l:Lk}(h:e.kd=2):hitE e l=decide (l.u=(if e.v<e.u then e.v else e.u)/\l.v=(if e.u<e.v then e.v else e.u)):=by unfold hitE;rw [if_pos h];rfl
theorem hitE_oth{e:Ev}{l:Lk}(h:¬e.kd=2):hitE e l=decide (l.u=e.u\/l.v=e.u):=by unfold hitE;rw [if_neg h]
theorem Step1_ok{e:Ev}(hk:e.kd=2)(Z:BlkRd κ I b (ez e) 54)(x:Lk):eu prog κ 186 [.agg #[e7 (x.u),e7 (x.v),e7 (x.w),e7 (x.lb),e7 (x.sg),e7 (x.tm)],(pt b)] I (λr J=>r = .bool (hitE e x)/\I=J):=by
 refine Ce2 Tryz.func186 C C ?_
 refine Af<|Ge1 (Bg (cs:=[_,_,_,_,_,_]) C C C) λb1=>Ga C<|Ac<|Af<|Gf fld82_0 C<|Gl ef ?_
 refine Gf fld54_2 C<|Gr (D9 ef C (Em Z Ay) C)<|Gf fld54_3 C<|Gr (D9 ef C (Em Z Ay) C)<|Gr (Ep C C)<|Gr (Bw C C)<|Gm C<|Bt (d:=12) C (λM=>?_)<|λM=>?_
 ·refine e9 (Ad fld82_1 C) (e9 (Bb ef) ?_)
  exact e9 (Ad fld54_2 C)<|e9 (D9 ef C (Em Z Ay) C)<|e9 (Ad fld54_3 C)<|e9 (D9 ef C (Em Z Ay) C)<|e9 (Dq C C)<|e9 (Bw C C)<|Gr (Ba C C)<|Ga C<|Ac<|Ao (S1 3 C)<|Az<|A1 C C I Ay ⟨by rw [hitE_two hk];exact (by first|exact congrArg Value.bool (decide_eq_decide.2<|by skip;omega)|exact congrArg Value.bool (decide_eq_true<|by skip;omega).symm|exact congrArg Value.bool (decide_eq_false<|by skip;omega).symm),rfl⟩
 exact eb<|eb<|eb<|eb<|eb<|eb<|eb<|eb<|Gr (A6 C C)<|Ga C<|Ac<|Ao (S1 3 C)<|Az<|A1 C C I Ay ⟨by rw [hitE_two hk];exact (by first|exact congrArg Value.bool (decide_eq_decide.2<|by skip;omega)|exact congrArg Value.bool (decide_eq_true<|by skip;omega).symm|exact congrArg Value.bool (decide_eq_false<|by skip;omega).symm),rfl⟩
theorem Step1_says{e:Ev}(M:e.kd=2)(Z:BlkRd κ I b (ez e) 54):Says prog κ I 186 [(pt b)] (hitE e):=⟨c_,λx J hf=>Step1_ok M (Z.fit hf) x⟩
theorem Step2_ok{e:Ev}(M:¬e.kd=2)(Z:BlkRd κ I b (ez e) 54)(x:Lk):eu prog κ 187 [.agg #[e7 (x.u),e7 (x.v),e7 (x.w),e7 (x.lb),e7 (x.sg),e7 (x.tm)],(pt b)] I (λr J=>r = .bool (hitE e x)/\I=J):=by
 refine Ce2 Tryz.func187 C C ?_
 refine Af<|Ge1 (Bg (cs:=[_,_,_,_,_,_]) C C C) λb1=>Ga C<|Ac<|Af<|Gf fld82_0 C<|Gl ef ?_
 refine Gf fld54_2 C<|Gr (D9 ef C (Em Z Ay) C)<|Gr (Bw C C)<|Gm C<|Bt (d:=9) C (λg9=>?_)<|λg9=>?_
 ·exact eb<|eb<|eb<|eb<|eb<|Gr (Ba C C)<|Ga C<|Ac<|Ao (S1 3 C)<|Az<|A1 C C I Ay ⟨by rw [hitE_oth M];exact (by first|exact congrArg Value.bool (decide_eq_decide.2<|by skip;omega)|exact congrArg Value.bool (decide_eq_true<|by skip;omega).symm|exact congrArg Value.bool (decide_eq_false<|by skip;omega).symm),rfl⟩
 refine e9 (Ad fld82_1 C)<|e9 (Bb ef) ?_
 exact e9 (Ad fld54_2 C)<|e9 (D9 ef C (Em Z Ay) C)<|e9 (Bw C C)<|Gr (A6 C C)<|Ga C<|Ac<|Ao (S1 3 C)<|Az<|A1 C C I Ay ⟨by rw [hitE_oth M];exact (by first|exact congrArg Value.bool (decide_eq_decide.2<|by skip;omega)|exact congrArg Value.bool (decide_eq_true<|by skip;omega).symm|exact congrArg Value.bool (decide_eq_false<|by skip;omega).symm),rfl⟩
theorem Step2_says{e:Ev}(M:¬e.kd=2)(Z:BlkRd κ I b (ez e) 54):Says prog κ I 187 [(pt b)] (hitE e):=⟨c_,λx J hf=>Step2_ok M (Z.fit hf) x⟩
end Go.Sl
namespace Go.Proofs
def Tryz.sortI_ren:Go.Shelf.Ren:=⟨fun |5=>163|8=>181|7=>180|19=>207|20=>208|10=>198|11=>199|12=>200|13=>201|14=>202|15=>203|16=>204|17=>205|18=>206|30=>214|31=>215|32=>216|33=>217|34=>218|35=>179|40=>222|n=>n,fun |23=>22|25=>3|3=>3|32=>233|22=>22|0=>0|44=>251|46=>207|4=>4|36=>244|35=>243|41=>225|5=>5|9=>9|53=>256|57=>260|63=>265|64=>266|n=>n,fun |n=>n⟩
theorem Tryz.sortI:Go.Proofs.SlLaysM.n5 prog Tryz.sortI_ren:={
 mixed:=by kernel_rfl,
 f5:=⟨Tryz.f163.name,by decide,Tryz.func163.trans<|congrArg some<|by kernel_rfl⟩,
 f7:=⟨Tryz.f180.name,by decide,Tryz.func180.trans<|congrArg some<|by kernel_rfl⟩,
 f8:=Tryz.func181.trans (congrArg some<|by kernel_rfl),
 f10:=⟨Tryz.f198.name,by decide,Tryz.func198.trans<|congrArg some<|by kernel_rfl⟩,
 f11:=⟨Tryz.f199.name,by decide,Tryz.func199.trans<|congrArg some<|by kernel_rfl⟩,
 f12:=⟨Tryz.f200.name,by decide,Tryz.func200.trans<|congrArg some<|by kernel_rfl⟩,
 f13:=⟨Tryz.f201.name,by decide,Tryz.func201.trans<|congrArg some<|by kernel_rfl⟩,
 f14:=⟨Tryz.f202.name,by decide,Tryz.func202.trans<|congrArg some<|by kernel_rfl⟩,
 f15:=⟨Tryz.f203.name,by decide,Tryz.func203.trans<|congrArg some<|by kernel_rfl⟩,
 f16:=⟨Tryz.f204.name,by decide,Tryz.func204.trans<|congrArg some<|by kernel_rfl⟩,
 f17:=⟨Tryz.f205.name,by decide,Tryz.func205.trans<|congrArg some<|by kernel_rfl⟩,
 f18:=⟨Tryz.f206.name,by decide,Tryz.func206.trans<|congrArg some<|by kernel_rfl⟩,
 f19:=Tryz.func207.trans (congrArg some<|by kernel_rfl),
 f20:=Tryz.func208.trans (congrArg some<|by kernel_rfl),
 f30:=⟨Tryz.f214.name,by decide,Tryz.func214.trans<|congrArg some<|by kernel_rfl⟩,
 f31:=Tryz.func215.trans (congrArg some<|by kernel_rfl),
 f32:=Tryz.func216.trans (congrArg some<|by kernel_rfl),
 f33:=⟨Tryz.f217.name,by decide,Tryz.func217.trans<|congrArg some<|by kernel_rfl⟩,
 f34:=⟨Tryz.f218.name,by decide,Tryz.func218.trans<|congrArg some<|by kernel_rfl⟩,
 f35:=⟨Tryz.f179.name,by decide,Tryz.func179.trans<|congrArg some<|by kernel_rfl⟩,
 f40:=⟨Tryz.f222.name,by decide,Tryz.func222.trans<|congrArg some<|by kernel_rfl⟩,
 t0:=Tryz.underlying0,
 a0:=Tryz.isAgg0,
 z0:=Tryz.sizeOf0,
 v0:=Tryz.zeroValue0,
 t3:=Tryz.underlying3,
 a3:=Tryz.isAgg3,
 z3:=Tryz.sizeOf3,
 v3:=Tryz.zeroValue3,
 t4:=Tryz.underlying4,
 a4:=Tryz.isAgg4,
 z4:=Tryz.sizeOf4,
 v4:=Tryz.zeroValue4,
 t5:=Tryz.underlying5,
 a5:=Tryz.isAgg5,
 z5:=Tryz.sizeOf5,
 v5:=Tryz.zeroValue5,
 t9:=Tryz.underlying9,
 a9:=Tryz.isAgg9,
 z9:=Tryz.sizeOf9,
 v9:=Tryz.zeroValue9,
 t22:=Tryz.underlying22,
 a22:=Tryz.isAgg22,
 z22:=Tryz.sizeOf22,
 v22:=Tryz.zeroValue22,
 t23:=Tryz.underlying22,
 a23:=Tryz.isAgg22,
 z23:=Tryz.sizeOf22,
 v23:=Tryz.zeroValue22,
 t25:=Tryz.underlying3,
 a25:=Tryz.isAgg3,
 z25:=Tryz.sizeOf3,
 v25:=Tryz.zeroValue3,
 t32:=Tryz.underlying233,
 a32:=Tryz.isAgg233,
 z32:=Tryz.sizeOf233,
 v32:=Tryz.zeroValue233,
 t35:=Tryz.underlying243,
 a35:=Tryz.isAgg243,
 z35:=Tryz.sizeOf243,
 v35:=Tryz.zeroValue243,
 t36:=Tryz.underlying244,
 a36:=Tryz.isAgg244,
 z36:=Tryz.sizeOf244,
 v36:=Tryz.zeroValue244,
 t41:=Tryz.underlying225,
 a41:=Tryz.isAgg225,
 z41:=Tryz.sizeOf225,
 v41:=Tryz.zeroValue225,
 t44:=Tryz.underlying251,
 a44:=Tryz.isAgg251,
 z44:=Tryz.sizeOf251,
 v44:=Tryz.zeroValue251,
 t46:=Tryz.underlying207,
 a46:=Tryz.isAgg207,
 z46:=Tryz.sizeOf207,
 v46:=Tryz.zeroValue207,
 t53:=Tryz.underlying256,
 a53:=Tryz.isAgg256,
 z53:=Tryz.sizeOf256,
 v53:=Tryz.zeroValue256,
 t57:=Tryz.underlying260,
 a57:=Tryz.isAgg260,
 z57:=Tryz.sizeOf260,
 v57:=Tryz.zeroValue260,
 t63:=Tryz.underlying265,
 a63:=Tryz.isAgg265,
 z63:=Tryz.sizeOf265,
 v63:=Tryz.zeroValue265,
 t64:=Tryz.underlying266,
 a64:=Tryz.isAgg266,
 z64:=Tryz.sizeOf266,
 v64:=Tryz.zeroValue266}
end Go.Proofs
