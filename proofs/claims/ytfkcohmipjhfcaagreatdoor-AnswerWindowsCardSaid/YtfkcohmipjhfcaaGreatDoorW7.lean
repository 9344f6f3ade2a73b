/- A part of the proofs of statements of this seat: contracts of functions, and the plain laws that they lean on. No conditions. -/
import Derived.Test.YtfkcohmipjhfcaaGreatDoorW6
set_option linter.unusedVariables false
set_option linter.unusedSimpArgs false
set_option linter.unusedSectionVars false
/- Windows: a stream with the cuts of what expires. The plain laws. No Go. No conditions. -/
namespace Go.Sl
def ei(e:Ev):Lk:=⟨if e.v<e.u then e.v else e.u,if e.u<e.v then e.v else e.u,e.w,e.lb,e.sg,e.tm⟩
def setL(n:Lk):List Lk->List Lk
 |[]=>[n]
 |l::ls=>if Lk.lt n l then n::l::ls else if l.p=n.p then n::ls else l::setL n ls
def hitE(e:Ev)(l:Lk):Bool:=if e.kd=2 then decide (l.u=(ei e).u/\l.v=(ei e).v) else decide (l.u=e.u\/l.v=e.u)
def ep(xs:List Lk)(e:Ev):List Lk:=if e.kd=1 then setL (ei e) xs else xs.filter λl=> !hitE e l
def endsE(e:Ev):Prop:=(0<=e.u/\e.u<64)/\(e.kd=3->e.v=0)/\(e.kd≠3->(0<=e.v/\e.v<64)/\e.u≠e.v)
instance (e:Ev):Decidable (endsE e):=by unfold endsE;infer_instance
def checkE(e:Ev):Int:=if e.kd<1\/3<e.kd then 8 else if e.tm<0\/1048576<e.tm then 9 else if ¬endsE e then 6 else if (e.kd=1/\¬rightW e.w e.lb e.sg)\/(e.kd≠1/\(e.w≠0\/e.lb≠0\/e.sg≠0)) then 1 else 0
def fitE(nd:Int)(e:Ev):Int:=if checkE e≠0 then checkE e else if nd<=e.u\/nd<=e.v then 6 else 0
section
variable {e:Ev}{nd:Int}
theorem checkE_eight(h:e.kd<1\/3<e.kd):checkE e=8:=by unfold checkE;rw [if_pos h]
theorem checkE_nine(h1:1<=e.kd/\e.kd<=3)(h:e.tm<0\/1048576<e.tm):checkE e=9:=by unfold checkE;rw [if_neg om,if_pos h]
theorem checkE_six(h1:1<=e.kd/\e.kd<=3)(h2:0<=e.tm/\e.tm<=1048576)(h:¬endsE e):checkE e=6:=by unfold checkE;rw [if_neg om,if_neg om,if_pos h]
theorem checkE_one(h1:1<=e.kd/\e.kd<=3)(h2:0<=e.tm/\e.tm<=1048576)(h3:endsE e)(h:(e.kd=1/\¬rightW e.w e.lb e.sg)\/(e.kd≠1/\(e.w≠0\/e.lb≠0\/e.sg≠0))):checkE e=1:=by
 unfold checkE;rw [if_neg om,if_neg om,if_neg (λh=>h h3),if_pos h]
theorem checkE_zero(h1:1<=e.kd/\e.kd<=3)(h2:0<=e.tm/\e.tm<=1048576)(h3:endsE e)(h:e.kd=1->rightW e.w e.lb e.sg)(h4:e.kd≠1->e.w=0/\e.lb=0/\e.sg=0):checkE e=0:=by
 unfold checkE;rw [if_neg om,if_neg om,if_neg (λh=>h h3),if_neg];rintro (⟨a,b⟩|⟨a,b⟩)
 ·exact b (h a)
 ·have:=h4 a;omega
end
structure FitOk (nd:Int) (e:Ev):Prop where
 kind:1<=e.kd/\e.kd<=3
 tm:0<=e.tm/\e.tm<=1048576
 ends:endsE e
 right:e.kd=1->rightW e.w e.lb e.sg
 fits:e.u<nd/\e.v<nd
 zero:e.kd≠1->e.w=0/\e.lb=0/\e.sg=0
theorem fitE_ok{nd:Int}{e:Ev}:fitE nd e=0↔FitOk nd e:=by
 constructor
 ·intro h
  unfold fitE checkE at h
  by_cases h1:e.kd<1\/3<e.kd
  ·rw [if_pos h1] at h;simp at h
  rw [if_neg h1] at h
  by_cases h2:e.tm<0\/1048576<e.tm
  ·rw [if_pos h2] at h;simp at h
  rw [if_neg h2] at h
  by_cases h3:¬endsE e
  ·rw [if_pos h3] at h;simp at h
  rw [if_neg h3] at h
  by_cases h4:(e.kd=1/\¬rightW e.w e.lb e.sg)\/(e.kd≠1/\(e.w≠0\/e.lb≠0\/e.sg≠0))
  ·rw [if_pos h4] at h;simp at h
  rw [if_neg h4] at h
  by_cases h5:nd<=e.u\/nd<=e.v
  ·rw [if_neg (by simp),if_pos h5] at h;simp at h
  exact ⟨by omega,by omega,Classical.not_not.1 h3,λhk=>Classical.byContradiction λhr=>h4 (.inl ⟨hk,hr⟩),by omega,λhk=>by omega⟩
 ·intro h
  have h1:=h.kind
  have h2:=h.tm
  have h5:=h.fits
  have hc:checkE e=0:=by
   unfold checkE
   rw [if_neg om,if_neg om,if_neg (by simpa using h.ends),if_neg ?_]
   rintro (⟨a,b⟩|⟨a,b⟩)
   ·exact b (h.right a)
   ·have:=h.zero a;omega
  unfold fitE
  rw [if_neg (by simp [hc]),if_neg om]
theorem lk_lt{a b:Lk}:Lk.lt a b↔a.u<b.u\/(a.u=b.u/\a.v<b.v):=Iff.rfl
theorem lk_p{a b:Lk}:a.p=b.p↔a.u=b.u/\a.v=b.v:=by unfold Lk.p;simp
theorem FitOk.lk{nd:Int}{e:Ev}(h:FitOk nd e)(hk:e.kd≠3):0<=(ei e).u/\(ei e).u<(ei e).v/\(ei e).v<nd:=by
 have h1:=h.ends.2.2 hk
 have h2:=h.ends.1
 have h3:=h.fits
 unfold ei
 simp only
 refine ⟨?_,?_,?_⟩<;>(repeat' split)<;>omega
theorem FitOk.badL{nd:Int}{e:Ev}(h:FitOk nd e)(hk:e.kd=1):badL nd (ei e)=0:=by
 have h1:=h.lk om
 have h2:=h.tm
 exact badL_zero om (h.right hk) (by show ¬(e.tm<0\/1048576<e.tm);omega)
theorem mem_setL{n:Lk}{xs:List Lk}{x:Lk}(h:x∈setL n xs):x=n\/x∈xs:=by
 induction xs with
 |nil=>simp [setL] at h;exact .inl h
 |cons l ls ih=>
  unfold setL at h
  split at h
  ·simpa using h
  ·split at h
   ·rcases List.mem_cons.1 h with h|h
    ·exact .inl h
    ·exact .inr (List.mem_cons_of_mem _ h)
   ·rcases List.mem_cons.1 h with h|h
    ·exact .inr (by rw [h];exact List.mem_cons_self)
    ·rcases ih h with h|h
     ·exact .inl h
     ·exact .inr (List.mem_cons_of_mem _ h)
theorem setL_asc{n:Lk}{xs:List Lk}(h:xs.Pairwise Lk.lt):(setL n xs).Pairwise Lk.lt:=by
 induction xs with
 |nil=>simp [setL]
 |cons l ls ih=>
  obtain ⟨h1,h2⟩:=List.pairwise_cons.1 h
  unfold setL
  by_cases hl:Lk.lt n l
  ·rw [if_pos hl]
   refine List.pairwise_cons.2 ⟨λx hx=>?_,h⟩
   rcases List.mem_cons.1 hx with rfl|hx
   ·exact hl
   ·exact Pt.lin.tr _ _ _ hl (h1 x hx)
  ·rw [if_neg hl]
   by_cases he:l.p=n.p
   ·rw [if_pos he]
    refine List.pairwise_cons.2 ⟨λx hx=>?_,h2⟩
    have:=h1 x hx
    unfold Lk.lt at this ⊢
    rw [←he];exact this
   ·rw [if_neg he]
    refine List.pairwise_cons.2 ⟨λx hx=>?_,ih h2⟩
    rcases mem_setL hx with rfl|hx
    ·rw [lk_lt] at hl ⊢; rw [lk_p] at he;omega
    ·exact h1 x hx
theorem setL_len(n:Lk)(xs:List Lk):(setL n xs).length<=xs.length+1:=by
 induction xs with
 |nil=>simp [setL]
 |cons l ls ih=>
  unfold setL
  split
  ·simp
  ·split
   ·simp
   ·simp;omega
theorem stepL_len(xs:List Lk)(e:Ev):(ep xs e).length<=xs.length+1:=by
 unfold ep
 split
 ·exact setL_len _ _
 ·exact Nat.le_succ_of_le (List.length_filter_le _ _)
theorem scan0_back{n:Int}:∀(xs:List Lk) (q:Lk),(∀x∈xs,badL n x=0)->(q::xs).Pairwise Lk.lt->scanL (badL n) Lk.lt (some q) xs=0
 |[],q,_,_=>rfl
 |p::ps,q,h1,h2=>by
  obtain ⟨a,b⟩:=List.pairwise_cons.1 h2
  simp only [scanL]
  rw [if_neg (by simp [h1 p List.mem_cons_self]),if_pos (a p List.mem_cons_self)]
  exact scan0_back ps p (λx hx=>h1 x (List.mem_cons_of_mem _ hx)) b
theorem checkS_iff{n:Int}{xs:List Lk}:checkS n xs=0↔(0<=n/\n<=64)/\(∀x∈xs,badL n x=0)/\xs.Pairwise Lk.lt:=by
 constructor
 ·exact checkS_ok
 ·rintro ⟨h1,h2,h3⟩
  unfold checkS
  rw [if_neg om]
  cases xs with
  |nil=>rfl
  |cons p ps=>
   simp only [scanL]
   rw [if_neg (by simp [h2 p List.mem_cons_self])]
   exact scan0_back ps p (λx hx=>h2 x (List.mem_cons_of_mem _ hx)) h3
theorem stepL_val{nd:Int}{xs:List Lk}{e:Ev}(h:checkS nd xs=0)(he:FitOk nd e):checkS nd (ep xs e)=0:=by
 obtain ⟨h1,h2,h3⟩:=checkS_iff.1 h
 refine checkS_iff.2 ⟨h1,?_⟩
 unfold ep
 by_cases hk:e.kd=1
 ·rw [if_pos hk]
  refine ⟨λx hx=>?_,setL_asc h3⟩
  rcases mem_setL hx with rfl|hx
  ·exact he.badL hk
  ·exact h2 x hx
 ·rw [if_neg hk]
  exact ⟨λx hx=>h2 x (List.mem_filter.1 hx).1,h3.sublist List.filter_sublist⟩
theorem filter_val{nd:Int}{xs:List Lk}{P:Lk->Bool}(h:checkS nd xs=0):checkS nd (xs.filter P)=0:=by
 obtain ⟨h1,h2,h3⟩:=checkS_iff.1 h
 exact checkS_iff.2 ⟨h1,λx hx=>h2 x (List.mem_filter.1 hx).1,h3.sublist List.filter_sublist⟩
theorem val_uv{nd:Int}{xs:List Lk}(h:checkS nd xs=0):∀x∈xs,0<=x.u/\x.u<x.v/\x.v<nd:=λx hx=>by
 have h1:=(checkS_ok h).2.1 x hx
 unfold Sl.badL at h1
 split at h1
 ·cases h1
 ·omega
theorem cut_hit(nw:Int){z:Lk}(hz:z.u<z.v)(l:Lk):hitE (cutEv nw z) l=decide (l.p=z.p):=by
 unfold hitE ei cutEv
 simp only [if_true]
 rw [if_neg om,if_pos hz,decide_eq_decide,lk_p]
theorem cuts_filter(nw:Int):∀(zs xs:List Lk),(∀z∈zs,z.u<z.v)->(zs.map (cutEv nw)).foldl ep xs=xs.filter λx=>zs.all λz=> !decide (x.p=z.p)
 |[],xs,_=>by simp only [List.map_nil,List.foldl_nil,List.all_nil];exact (List.filter_eq_self.2 λ_ _=>rfl).symm
 |z::zs,xs,h=>by
  have ih:=cuts_filter nw zs (xs.filter λl=> !decide (l.p=z.p)) λy hy=>h y (List.mem_cons_of_mem _ hy)
  have hs:ep xs (cutEv nw z)=xs.filter λl=> !decide (l.p=z.p):=by
   unfold ep
   rw [if_neg (by show ¬(2:Int)=1;decide)]
   exact List.filter_congr λl _=>by rw [cut_hit nw (h z List.mem_cons_self)]
  rw [List.map_cons,List.foldl_cons,hs,ih,List.filter_filter]
  exact List.filter_congr λx _=>by rw [List.all_cons,Bool.and_comm]
theorem asc_p{xs:List Lk}(h:xs.Pairwise Lk.lt){x y:Lk}(hx:x∈xs)(hy:y∈xs)(he:x.p=y.p):x=y:=by
 induction xs with
 |nil=>cases hx
 |cons l ls ih=>
  obtain ⟨h1,h2⟩:=List.pairwise_cons.1 h
  have hne:∀z∈ls,l.p≠z.p:=λz hz e=>by
   have:=h1 z hz
   unfold Lk.lt at this
   rw [e] at this
   exact Pt.lin.irr _ this
  rcases List.mem_cons.1 hx with e1|e1<;>rcases List.mem_cons.1 hy with e2|e2
  ·rw [e1,e2]
  ·exact absurd (e1▸he) (hne y e2)
  ·exact absurd (e2▸he.symm) (hne x e1)
  ·exact ih h2 e1 e2
theorem gone_steps{nd kd wd mo nw:Int}{xs:List Lk}(h:checkS nd xs=0):(goneL kd wd mo nw xs).foldl ep xs=xs.filter (inW kd wd mo nw xs):=by
 unfold goneL
 rw [cuts_filter nw _ _ λz hz=>(val_uv h z (List.mem_filter.1 hz).1).2.1]
 refine List.filter_congr λx hx=>?_
 cases hp:inW kd wd mo nw xs x
 ·rw [Bool.eq_false_iff]
  intro ha
  have:=List.all_eq_true.1 ha x (List.mem_filter.2 ⟨hx,by rw [hp];rfl⟩)
  simp at this
 ·rw [List.all_eq_true]
  intro z hz
  obtain ⟨hz1,hz2⟩:=List.mem_filter.1 hz
  rw [Bool.not_eq_true',decide_eq_false_iff_not]
  intro he
  have:=asc_p (checkS_ok h).2.2 hx hz1 he
  subst this
  rw [hp] at hz2
  cases hz2
theorem gone_len(kd wd mo nw:Int)(xs:List Lk):(goneL kd wd mo nw xs).length+(xs.filter (inW kd wd mo nw xs)).length=xs.length:=by
 unfold goneL
 rw [List.length_map]
 generalize inW kd wd mo nw xs=P
 induction xs with
 |nil=>rfl
 |cons x xs ih=>simp only [List.filter_cons];cases P x<;>simp<;>omega
theorem gone_fit{nd kd wd mo nw:Int}{xs:List Lk}(h:checkS nd xs=0)(ht:0<=nw/\nw<=1048576):∀e∈goneL kd wd mo nw xs,FitOk nd e:=λe he=>by
 unfold goneL at he
 obtain ⟨x,hx,rfl⟩:=List.mem_map.1 he
 have h1:=val_uv h x (List.mem_filter.1 hx).1
 have h2:=(checkS_ok h).1
 exact ⟨by show (1:Int)<=2/\(2:Int)<=3;omega,ht,⟨by show 0<=x.u/\x.u<64;omega,λh3=>absurd h3 (by show ¬(2:Int)=3;decide),λ_=>by show (0<=x.v/\x.v<64)/\x.u≠x.v;omega⟩,
  λh3=>absurd h3 (by show ¬(2:Int)=1;decide),by show x.u<nd/\x.v<nd;omega,λ_=>⟨rfl,rfl,rfl⟩⟩
def minT:List Lk->Int
 |[]=>0
 |x::xs=>xs.foldl (λm y=>if y.tm<m then y.tm else m) x.tm
theorem minT_fold:∀(xs:List Lk) (m:Int),xs.foldl (λm y=>if y.tm<m then y.tm else m) m<=m/\(xs.foldl (λm y=>if y.tm<m then y.tm else m) m=m\/∃x∈xs,xs.foldl (λm y=>if y.tm<m then y.tm else m) m=x.tm)/\∀y∈xs,xs.foldl (λm y=>if y.tm<m then y.tm else m) m<=y.tm
 |[],m=>⟨Int.le_refl _,.inl rfl,λy hy=>by cases hy⟩
 |x::xs,m=>by
  rw [List.foldl_cons]
  by_cases hx:x.tm<m
  ·rw [if_pos hx]
   obtain ⟨h1,h2,h3⟩:=minT_fold xs x.tm
   refine ⟨by omega,?_,λy hy=>?_⟩
   ·rcases h2 with h2|⟨y,hy,h2⟩
    ·exact .inr ⟨x,List.mem_cons_self,h2⟩
    ·exact .inr ⟨y,List.mem_cons_of_mem _ hy,h2⟩
   ·rcases List.mem_cons.1 hy with rfl|hy
    ·exact h1
    ·exact h3 y hy
  ·rw [if_neg hx]
   obtain ⟨h1,h2,h3⟩:=minT_fold xs m
   refine ⟨h1,?_,λy hy=>?_⟩
   ·rcases h2 with h2|⟨y,hy,h2⟩
    ·exact .inl h2
    ·exact .inr ⟨y,List.mem_cons_of_mem _ hy,h2⟩
   ·rcases List.mem_cons.1 hy with rfl|hy
    ·omega
    ·exact h3 y hy
theorem minT_spec{xs:List Lk}(h:0<xs.length):(∃x∈xs,minT xs=x.tm)/\∀y∈xs,minT xs<=y.tm:=by
 cases xs with
 |nil=>cases h
 |cons x xs=>
  obtain ⟨h1,h2,h3⟩:=minT_fold xs x.tm
  refine ⟨?_,λy hy=>?_⟩
  ·rcases h2 with h2|⟨y,hy,h2⟩
   ·exact ⟨x,List.mem_cons_self,h2⟩
   ·exact ⟨y,List.mem_cons_of_mem _ hy,h2⟩
  ·rcases List.mem_cons.1 hy with rfl|hy
   ·exact h1
   ·exact h3 y hy
theorem minT_uniq{xs:List Lk}{wd z:Int}(h:(∃x∈xs,z=x.tm+wd)/\∀y∈xs,z<=y.tm+wd):z=minT xs+wd:=by
 obtain ⟨⟨x,hx,e⟩,h1⟩:=h
 obtain ⟨⟨y,hy,e2⟩,h2⟩:=minT_spec (List.length_pos_of_mem hx)
 have:=h1 y hy
 have:=h2 x hx
 omega
theorem inW2(wd mo nw:Int)(xs:List Lk)(x:Lk):inW 2 wd mo nw xs x=decide (nw - x.tm<wd):=by unfold inW;rw [if_pos rfl]
def ageX(wd mo:Int)(xs:List Lk):List Lk:=xs.filter (inW 2 wd mo (minT xs+wd) xs)
theorem age_less{wd mo:Int}{xs:List Lk}(h:0<xs.length):(ageX wd mo xs).length<xs.length:=by
 unfold ageX
 obtain ⟨⟨x,hx,e⟩,_⟩:=minT_spec h
 have h1:=gone_len 2 wd mo (minT xs+wd) xs
 have h2:0<(goneL 2 wd mo (minT xs+wd) xs).length:=by
  unfold goneL
  rw [List.length_map]
  refine List.length_pos_of_mem (a:=x) (List.mem_filter.2 ⟨hx,?_⟩)
  rw [inW2,decide_eq_false om];rfl
 omega
def ageL(wd mo T:Int)(xs:List Lk)(out:List Ev):List Lk×List Ev:=
 if h:0<xs.length/\minT xs+wd<=T then ageL wd mo T (ageX wd mo xs) (out++goneL 2 wd mo (minT xs+wd) xs) else (xs,out)
termination_by xs.length
decreasing_by exact age_less h.1
theorem ageL_step{wd mo T:Int}{xs:List Lk}{out:List Ev}(h:0<xs.length/\minT xs+wd<=T):ageL wd mo T xs out=ageL wd mo T (xs.filter (inW 2 wd mo (minT xs+wd) xs)) (out++goneL 2 wd mo (minT xs+wd) xs):=by
 rw [ageL,dif_pos h];rfl
theorem ageL_stop{wd mo T:Int}{xs:List Lk}{out:List Ev}(h:¬(0<xs.length/\minT xs+wd<=T)):ageL wd mo T xs out=(xs,out):=by
 rw [ageL,dif_neg h]
def windL(kd wd mo:Int)(b:List Lk×List Ev)(T:Int):List Lk×List Ev:=if kd=3 then (b.1.filter (inW kd wd mo T b.1),b.2++goneL kd wd mo T b.1) else b
def agedL(kd wd mo T:Int)(s:List Lk×List Ev):List Lk×List Ev:=if kd=2 then ageL wd mo T s.1 s.2 else s
def evStep(kd wd mo:Int)(s:List Lk×List Ev)(e:Ev):List Lk×List Ev:=windL kd wd mo (ep (agedL kd wd mo e.tm s).1 e,(agedL kd wd mo e.tm s).2++[e]) e.tm
def slideS(kd wd mo:Int)(es:List Ev):List Lk×List Ev:=es.foldl (evStep kd wd mo) ([],[])
def streamS(nd:Int):Int->List Ev->Int
 |_,[]=>0
 |last,e::es=>if fitE nd e≠0 then fitE nd e else if e.tm<last then 9 else streamS nd e.tm es
def streamE(nd:Int)(es:List Ev):Int:=if nd<0\/64<nd then 1 else if 65536<es.length then 3 else streamS nd 0 es
def slideE(nd kd wd mo:Int)(es:List Ev):Int:=if checkW kd wd mo≠0 then checkW kd wd mo else streamE nd es
def lastT(es:List Ev)(k:Nat):Int:=if k=0 then 0 else (e_ es ((k:Int) - 1)).tm
theorem lastT_succ(es:List Ev)(k:Nat):lastT es (k+1)=(e_ es k).tm:=by
 unfold lastT;rw [if_neg om,show ((k+1:Nat):Int) - 1=(k:Int) by omega]
section
variable {nd:Int}{es:List Ev}{k:Nat}
theorem streamS_step(hk:k<es.length)(h1:fitE nd (e_ es k)=0)(h2:¬(e_ es k).tm<lastT es k):streamS nd (lastT es k) (es.drop k)=streamS nd (lastT es (k+1)) (es.drop (k+1)):=by
 rw [Eu es k hk,lastT_succ];simp only [streamS];rw [if_neg (by simp [h1]),if_neg h2]
theorem streamS_bad(hk:k<es.length)(h1:fitE nd (e_ es k)≠0):streamS nd (lastT es k) (es.drop k)=fitE nd (e_ es k):=by
 rw [Eu es k hk];simp only [streamS];rw [if_pos h1]
theorem streamS_late(hk:k<es.length)(h1:fitE nd (e_ es k)=0)(h2:(e_ es k).tm<lastT es k):streamS nd (lastT es k) (es.drop k)=9:=by
 rw [Eu es k hk];simp only [streamS];rw [if_neg (by simp [h1]),if_pos h2]
theorem streamS_end(hk:es.length<=k):streamS nd (lastT es k) (es.drop k)=0:=by rw [List.drop_eq_nil_of_le hk];rfl
theorem streamS_all(h:streamS nd 0 es=0):∀k,k<=es.length->streamS nd (lastT es k) (es.drop k)=0/\∀j,j<k->FitOk nd (e_ es j)/\lastT es j<=(e_ es j).tm
 |0,_=>⟨h,λj hj=>absurd hj (Nat.not_lt_zero _)⟩
 |k+1,hk=>by
  obtain ⟨h1,h2⟩:=streamS_all h k om
  have h3:fitE nd (e_ es k)=0:=Classical.byContradiction λhc=>hc (by rw [streamS_bad om hc] at h1;exact h1)
  have h4:¬(e_ es k).tm<lastT es k:=λhc=>by rw [streamS_late om h3 hc] at h1;cases h1
  refine ⟨by rw [←streamS_step om h3 h4];exact h1,λj hj=>?_⟩
  rcases Nat.lt_succ_iff_lt_or_eq.1 hj with hj|rfl
  ·exact h2 j hj
  ·exact ⟨fitE_ok.1 h3,by omega⟩
structure StOk (nd:Int) (es:List Ev):Prop where
 nodes:0<=nd/\nd<=64
 len:es.length<=65536
 fit:∀j:Nat,j<es.length->FitOk nd (e_ es j)
 asc:∀j:Nat,j<es.length->lastT es j<=(e_ es j).tm
theorem streamE_ok(h:streamE nd es=0):StOk nd es:=by
 unfold streamE at h
 by_cases h1:nd<0\/64<nd
 ·rw [if_pos h1] at h;cases h
 rw [if_neg h1] at h
 by_cases h2:65536<es.length
 ·rw [if_pos h2] at h;cases h
 rw [if_neg h2] at h
 have h3:=(streamS_all h es.length (Nat.le_refl _)).2
 exact ⟨by omega,by omega,λj hj=>(h3 j hj).1,λj hj=>(h3 j hj).2⟩
end
theorem slideS_succ{kd wd mo:Int}{es:List Ev}{k:Nat}(hk:k<es.length):slideS kd wd mo (es.take (k+1))=evStep kd wd mo (slideS kd wd mo (es.take k)) (e_ es k):=by
 unfold slideS;rw [Di es k hk,List.foldl_append];rfl
theorem steps_succ{xs:List Lk}{es:List Ev}{k:Nat}(hk:k<es.length):(es.take (k+1)).foldl ep xs=ep ((es.take k).foldl ep xs) (e_ es k):=by
 rw [Di es k hk,List.foldl_append];rfl
theorem out_succ{out es:List Ev}{k:Nat}(hk:k<es.length):out++es.take (k+1)=out++es.take k++[e_ es k]:=by
 rw [Di es k hk,List.append_assoc]
theorem steps_len:∀(es:List Ev) (xs:List Lk),(es.foldl ep xs).length<=xs.length+es.length
 |[],xs=>Nat.le_refl _
 |e::es,xs=>by
  have h1:=steps_len es (ep xs e)
  have h2:=stepL_len xs e
  rw [List.foldl_cons,List.length_cons];omega
structure SlI (nd kd wd:Int) (last:Int) (xs:List Lk):Prop where
 val:checkS nd xs=0
 tm:∀x∈xs,x.tm<=last
 al:kd=2->∀x∈xs,last<x.tm+wd
section
variable {nd kd wd mo last T:Int}{xs:List Lk}{out:List Ev}
theorem SlI.nil(h:0<=nd/\nd<=64):SlI nd kd wd last []:=⟨checkS_iff.2 ⟨h,λx hx=>(by cases hx),List.Pairwise.nil⟩,λx hx=>(by cases hx),λ_ x hx=>(by cases hx)⟩
theorem SlI.filter(h:SlI nd kd wd last xs)(P:Lk->Bool):SlI nd kd wd last (xs.filter P):=
 ⟨filter_val h.val,λx hx=>h.tm x (List.mem_filter.1 hx).1,λhk x hx=>h.al hk x (List.mem_filter.1 hx).1⟩
theorem SlI.later(h:SlI nd kd wd last xs)(hT:last<=T)(hk:kd=2->¬(0<xs.length/\minT xs+wd<=T)):SlI nd kd wd T xs:=
 ⟨h.val,λx hx=>by have:=h.tm x hx;omega,λh2 x hx=>by
  have h3:=hk h2
  have h4:0<xs.length:=List.length_pos_of_mem hx
  have h5:=(minT_spec h4).2 x hx
  omega⟩
theorem SlI.step(h:SlI nd kd wd T xs){e:Ev}(he:FitOk nd e)(ht:e.tm=T)(hw:kd=2->1<=wd):SlI nd kd wd T (ep xs e):=by
 have key:∀x∈ep xs e,x.tm=T\/x∈xs:=λx hx=>by
  unfold ep at hx
  split at hx
  ·rcases mem_setL hx with rfl|hx
   ·exact .inl ht
   ·exact .inr hx
  ·exact .inr (List.mem_filter.1 hx).1
 refine ⟨stepL_val h.val he,λx hx=>?_,λhk x hx=>?_⟩
 ·rcases key x hx with h1|h1
  ·omega
  ·exact h.tm x h1
 ·rcases key x hx with h1|h1
  ·have:=hw hk;omega
  ·exact h.al hk x h1
theorem SlI.ask(h:SlI nd kd wd last xs)(hc:checkW kd wd mo=0){t:Int}(ht:0<=t/\t<=1048576)(hl:last<=t):askE nd xs kd wd mo t=0:=by
 unfold askE
 rw [if_neg (by simp [hc]),if_neg (by simp [h.val]),if_neg]
 rintro (h1|h1|h1)
 ·omega
 ·omega
 ·obtain ⟨x,hx,h2⟩:=List.any_eq_true.1 h1
  have:=h.tm x hx
  have:=of_decide_eq_true h2
  omega
theorem SlI.first(h:SlI nd kd wd last xs)(hk:kd=2)(h0:0<xs.length):last<minT xs+wd:=by
 obtain ⟨⟨x,hx,e⟩,_⟩:=minT_spec h0
 have:=h.al hk x hx
 omega
end
end Go.Sl
/- Windows: setting and cutting links in place. The plain laws. No Go. No conditions. -/
namespace Go.Sl
theorem Lk.cmp_zero(a b:Lk):Lk.cmp a b=0↔a.p=b.p:=Pt.cmp_zero _ _
theorem setL_app{n:Lk}{ys:List Lk}:∀(xs:List Lk),(∀x∈xs,Lk.lt x n)->setL n (xs++ys)=xs++setL n ys
 |[],_=>rfl
 |x::xs,h=>by
  have h1:=h x List.mem_cons_self
  rw [List.cons_append,List.cons_append]
  conv=>lhs;unfold setL
  rw [if_neg (show ¬Lk.lt n x from λh2=>Pt.lin.asymm h1 h2),if_neg (λh2=>by unfold Lk.lt at h1;rw [h2] at h1;exact Pt.lin.irr _ h1),setL_app xs λy hy=>h y (List.mem_cons_of_mem _ hy)]
section
variable {xs:List Lk}{n:Lk}{i:Nat}{q:Bool}
theorem lk_below(h:BFound Lk.cmp xs n i q)(ha:xs.Pairwise Lk.lt):∀x∈xs.take i,Lk.lt x n:=λx hx=>by
 obtain ⟨j,hj,rfl⟩:=List.getElem_of_mem hx
 rw [List.length_take] at hj
 have hle:=h.le
 have e:(xs.take i)[j]=e_ xs j:=by rw [Db xs j om];simp
 rw [e]
 have h1:=(Lk.cmp_lt _ _).1 (h.low om)
 rw [show (i:Int) - 1=((i - 1:Nat):Int) by omega] at h1
 by_cases hq:j=i - 1
 ·rw [hq];exact h1
 ·exact Pt.lin.tr _ _ _ ((pairwise_at xs).1 ha j (i - 1) om om) h1
theorem setL_new(h:BFound Lk.cmp xs n i q)(ha:xs.Pairwise Lk.lt)(hq:q=false):setL n xs=xs.take i++[n]++xs.drop i:=by
 conv=>lhs;rw [←List.take_append_drop i xs]
 rw [setL_app _ (lk_below h ha),List.append_assoc]
 congr 1
 rcases Nat.lt_or_ge i xs.length with hi|hi
 ·have h1:=h.is
  rw [hq] at h1
  have h2:=of_decide_eq_false h1.symm
  have h3:=h.high hi
  rw [Lk.cmp_lt] at h3
  rw [Eu xs i hi]
  unfold setL
  rw [Lk.cmp_zero] at h2
  have h4:(e_ xs i).p≠n.p:=λe=>h2 ⟨hi,e⟩
  rw [if_pos,List.singleton_append]
  rcases Pt.lin.tri n.p (e_ xs i).p with h5|h5|h5
  ·exact h5
  ·exact absurd h5.symm h4
  ·exact absurd h5 h3
 ·rw [List.drop_eq_nil_of_le hi];rfl
theorem setL_there(h:BFound Lk.cmp xs n i q)(ha:xs.Pairwise Lk.lt)(hq:q=true):i<xs.length/\setL n xs=xs.set i n:=by
 have h1:=h.is
 rw [hq] at h1
 obtain ⟨hi,h2⟩:=of_decide_eq_true h1.symm
 refine ⟨hi,?_⟩
 rw [Lk.cmp_zero] at h2
 conv=>lhs;rw [←List.take_append_drop i xs]
 rw [setL_app _ (lk_below h ha),Eu xs i hi]
 unfold setL
 rw [if_neg (λh3=>by unfold Lk.lt at h3;rw [h2] at h3;exact Pt.lin.irr _ h3),if_pos h2,List.set_eq_take_append_cons_drop,if_pos hi]
theorem set_self(hi:i<xs.length)(h:e_ xs i=n):xs.set i n=xs:=by
 rw [←h,Db xs i hi];exact List.set_getElem_self hi
end
section
variable {P:Lk->Bool}{xs:List Lk}{j:Nat}
def keptN(P:Lk->Bool)(xs:List Lk)(j:Nat):Nat:=((xs.take j).filter P).length
def keepL(P:Lk->Bool)(xs:List Lk)(j:Nat):List Lk:=(xs.take j).filter P++xs.drop j
theorem keepL_zero:keepL P xs 0=xs:=by simp [keepL]
theorem keptN_zero:keptN P xs 0=0:=by simp [keptN]
theorem keepL_end(h:xs.length<=j):keepL P xs j=xs.filter P:=by unfold keepL;rw [List.take_of_length_le h,List.drop_eq_nil_of_le h,List.append_nil]
theorem keepL_len:(keepL P xs j).length=keptN P xs j+(xs.length - j):=by simp [keepL,keptN]
theorem keptN_le:keptN P xs j<=j:=by
 unfold keptN
 have:=List.length_filter_le P (xs.take j)
 rw [List.length_take] at this
 omega
theorem keepL_at(h:j<xs.length):e_ (keepL P xs j) (keptN P xs j:Int)=e_ xs j:=by
 have hl:=keepL_len (P:=P) (xs:=xs) (j:=j)
 rw [Db _ _ om,Db xs j h]
 unfold keepL keptN
 rw [List.getElem_append_right (Nat.le_refl _)]
 simp
theorem keep_yes(h:j<xs.length)(hp:P (e_ xs j)=true):keepL P xs (j+1)=keepL P xs j/\keptN P xs (j+1)=keptN P xs j+1:=by
 unfold keepL keptN
 rw [Di xs j h,List.filter_append,Eu xs j h]
 simp [hp]
theorem keep_no(h:j<xs.length)(hp:P (e_ xs j)=false):keptN P xs (j+1)=keptN P xs j:=by
 unfold keptN
 rw [Di xs j h,List.filter_append]
 simp [hp]
theorem keep_copy(h:j<xs.length)(hp:P (e_ xs j)=false){q:Nat}(hq:q=xs.length - j - 1) :
  (keepL P xs j).take (keptN P xs j)++((keepL P xs j).drop (keptN P xs j+1)).take q++(keepL P xs j).drop (keptN P xs j+q)=keepL P xs (j+1)++(keepL P xs j).drop (keptN P xs j+q):=by
 congr 1
 have e:keepL P xs j=(xs.take j).filter P++(e_ xs j::xs.drop (j+1)):=by unfold keepL;rw [←Eu xs j h]
 have e2:keepL P xs (j+1)=(xs.take j).filter P++xs.drop (j+1):=by
  unfold keepL
  rw [Di xs j h,List.filter_append]
  simp [hp]
 have e3:keptN P xs j=((xs.take j).filter P).length:=rfl
 rw [e2,e,e3]
 generalize (xs.take j).filter P=A
 rw [List.take_left' rfl,show A.length+1=(A++[e_ xs j]).length by simp,show A++e_ xs j::xs.drop (j+1)=(A++[e_ xs j])++xs.drop (j+1) by simp,List.drop_left' rfl,List.take_of_length_le (by rw [List.length_drop];omega)]
theorem keep_take{zs:List Lk}{m:Nat}(hm:m=(keepL P xs (j+1)).length):(keepL P xs (j+1)++zs).take m=keepL P xs (j+1):=by
 rw [hm];exact List.take_left' rfl
end
theorem fitgone{nd kd wd mo nw:Int}{xs:List Lk}(h:checkS nd xs=0)(ht:0<=nw/\nw<=1048576):∀j:Nat,j<(goneL kd wd mo nw xs).length->FitOk nd (e_ (goneL kd wd mo nw xs) j):=λj hj=>gone_fit h ht _ (Cq om om)
theorem fitone{nd:Int}{e:Ev}(h:FitOk nd e):∀j:Nat,j<[e].length->FitOk nd (e_ [e] (j:Int)):=λj hj=>by
 obtain rfl:j=0:=by simpa using hj
 exact h
end Go.Sl
/- Windows: the reference's way to apply an event. The plain laws. No Go. No conditions. -/
namespace Go.Sl
theorem hit_two{e:Ev}{l:Lk}(h:e.kd=2):hitE e l=decide (l.p=(ei e).p):=by unfold hitE;rw [if_pos h,decide_eq_decide,lk_p]
end Go.Sl
/- Windows: what a stream with cuts leads to. The plain laws. No Go. No conditions. -/
namespace Go.Sl
theorem ageL_ind{wd mo T:Int}{P:List Lk->List Ev->Prop}(hs:∀xs out,(0<xs.length/\minT xs+wd<=T)->P xs out->P (xs.filter (inW 2 wd mo (minT xs+wd) xs)) (out++goneL 2 wd mo (minT xs+wd) xs)) :
  ∀(n:Nat) (xs:List Lk) (out:List Ev),xs.length<=n->P xs out->P (ageL wd mo T xs out).1 (ageL wd mo T xs out).2/\¬(0<(ageL wd mo T xs out).1.length/\minT (ageL wd mo T xs out).1+wd<=T)
 |n,xs,out,hn,hP=>by
  by_cases h:0<xs.length/\minT xs+wd<=T
  ·rw [ageL_step h]
   have hl:(xs.filter (inW 2 wd mo (minT xs+wd) xs)).length<xs.length:=age_less h.1
   cases n with
   |zero=>omega
   |succ n=>exact ageL_ind hs n _ _ om (hs xs out h hP)
  ·rw [ageL_stop h];exact ⟨hP,h⟩
theorem setL_filter{n:Lk}{P:Lk->Bool}(hn:P n=true){xs:List Lk}(ha:xs.Pairwise Lk.lt):setL n (xs.filter P)=(setL n xs).filter P:=by
 induction xs with
 |nil=>simp [setL,hn]
 |cons l ls ih=>
  obtain ⟨h1,h2⟩:=List.pairwise_cons.1 ha
  have hlt:∀{z:Lk},(z.p=n.p\/Lk.lt n z)->(∀x∈ls,Lk.lt z x)->setL n (ls.filter P)=n::ls.filter P:=fun {z} hz hx=>by
   cases hf:ls.filter P with
   |nil=>rfl
   |cons y ys=>
    have hy:Lk.lt z y:=hx y (List.mem_filter.1 (by rw [hf];exact List.mem_cons_self)).1
    unfold setL
    rw [if_pos]
    rcases hz with hz|hz
    ·unfold Lk.lt at hy ⊢; rw [←hz];exact hy
    ·exact Pt.lin.tr _ _ _ hz hy
  conv=>rhs;unfold setL
  by_cases hl:Lk.lt n l
  ·rw [if_pos hl,show (n::l::ls).filter P=n::(l::ls).filter P by rw [List.filter_cons,if_pos hn]]
   by_cases hp:P l=true
   ·rw [show (l::ls).filter P=l::ls.filter P by rw [List.filter_cons,if_pos hp]];unfold setL;rw [if_pos hl]
   ·rw [show (l::ls).filter P=ls.filter P by rw [List.filter_cons,if_neg hp]];exact hlt (.inr hl) h1
  ·rw [if_neg hl]
   by_cases he:l.p=n.p
   ·rw [if_pos he,List.filter_cons,List.filter_cons,if_pos hn]
    by_cases hp:P l=true
    ·rw [if_pos hp];unfold setL;rw [if_neg hl,if_pos he]
    ·rw [if_neg hp];exact hlt (.inl he) h1
   ·rw [if_neg he,List.filter_cons,List.filter_cons]
    by_cases hp:P l=true
    ·rw [if_pos hp,if_pos hp];conv=>lhs;unfold setL
     rw [if_neg hl,if_neg he,ih h2]
    ·rw [if_neg hp,if_neg hp];exact ih h2
theorem stepL_filter{e:Ev}{P:Lk->Bool}(hn:P (ei e)=true){xs:List Lk}(ha:xs.Pairwise Lk.lt):ep (xs.filter P) e=(ep xs e).filter P:=by
 unfold ep
 by_cases h:e.kd=1
 ·rw [if_pos h,if_pos h];exact setL_filter hn ha
 ·rw [if_neg h,if_neg h,List.filter_filter,List.filter_filter]
  exact List.filter_congr λx _=>Bool.and_comm _ _
theorem pw_all{α:Type}{R:α->α->Prop}(h:∀a c,R a c):∀l:List α,l.Pairwise R
 |[]=> .nil
 |x::xs=>List.pairwise_cons.2 ⟨λy _=>h x y,pw_all h xs⟩
def aliveB(wd T:Int)(x:Lk):Bool:=decide (T - x.tm<wd)
theorem inW_alive(wd mo T:Int)(ys xs:List Lk):xs.filter (inW 2 wd mo T ys)=xs.filter (aliveB wd T):=List.filter_congr λx _=>inW2 wd mo T ys x
theorem alive_two{wd t T:Int}(h:t<=T)(xs:List Lk):(xs.filter (aliveB wd t)).filter (aliveB wd T)=xs.filter (aliveB wd T):=by
 rw [List.filter_filter]
 refine List.filter_congr λx _=>?_
 unfold aliveB
 by_cases h1:T - x.tm<wd
 ·rw [decide_eq_true h1,decide_eq_true (show t - x.tm<wd by omega)];rfl
 ·rw [decide_eq_false h1];rfl
structure AgB (nd wd last T:Int) (m:Nat) (all xs:List Lk) (out:List Ev):Prop where
 inv:SlI nd 2 wd last xs
 st:xs=out.foldl ep []
 fit:∀e∈out,FitOk nd e
 asc:out.Pairwise λa b=>a.tm<=b.tm
 le:∀e∈out,e.tm<=T
 bef:∀e∈out,∀x∈xs,e.tm<=x.tm+wd
 al:xs.filter (aliveB wd T)=all.filter (aliveB wd T)
 sum:xs.length+out.length<=m
theorem AgB.step{nd wd mo last T:Int}{m:Nat}{all xs:List Lk}{out:List Ev}(h:AgB nd wd last T m all xs out)(h0:0<=last)(hT:T<=1048576)(hs:0<xs.length/\minT xs+wd<=T) :
  AgB nd wd last T m all (xs.filter (inW 2 wd mo (minT xs+wd) xs)) (out++goneL 2 wd mo (minT xs+wd) xs):=by
 have hf:=h.inv.first rfl hs.1
 obtain ⟨⟨x0,hx0,e0⟩,hmin⟩:=minT_spec hs.1
 refine ⟨h.inv.filter _,?_,λe he=>?_,List.pairwise_append.2 ⟨h.asc,?_,λa ha c hc=>?_⟩,λe he=>?_,λe he x hx=>?_,?_,?_⟩
 ·rw [List.foldl_append,←h.st,gone_steps h.inv.val]
 ·rcases List.mem_append.1 he with he|he
  ·exact h.fit e he
  ·exact gone_fit h.inv.val om e he
 ·unfold goneL
  rw [List.pairwise_map]
  exact pw_all (λa c=>Int.le_refl _) _
 ·unfold goneL at hc
  obtain ⟨z,hz,rfl⟩:=List.mem_map.1 hc
  show a.tm<=minT xs+wd
  rw [e0];exact h.bef a ha x0 hx0
 ·rcases List.mem_append.1 he with he|he
  ·exact h.le e he
  ·unfold goneL at he
   obtain ⟨z,hz,rfl⟩:=List.mem_map.1 he
   exact hs.2
 ·obtain ⟨hx1,hx2⟩:=List.mem_filter.1 hx
  rcases List.mem_append.1 he with he|he
  ·exact h.bef e he x hx1
  ·unfold goneL at he
   obtain ⟨z,hz,rfl⟩:=List.mem_map.1 he
   rw [inW2] at hx2
   have:=of_decide_eq_true hx2
   show minT xs+wd<=x.tm+wd
   omega
 ·rw [inW_alive,alive_two hs.2,h.al]
 ·have h1:=gone_len 2 wd mo (minT xs+wd) xs
  have h2:=h.sum
  rw [List.length_append];omega
theorem AgB.aged{nd wd mo last T:Int}{m:Nat}{all xs:List Lk}{out:List Ev}(h:AgB nd wd last T m all xs out)(h0:0<=last)(hl:last<=T)(hT:T<=1048576) :
  AgB nd wd T T m all (ageL wd mo T xs out).1 (ageL wd mo T xs out).2:=by
 obtain ⟨h1,h2⟩:=ageL_ind (mo:=mo) (P:=λxs out=>AgB nd wd last T m all xs out) (λxs out hs hP=>hP.step h0 hT hs) xs.length xs out (Nat.le_refl _) h
 exact {h1 with inv:=h1.inv.later hl λ_=>h2}
structure BehB (nd wd:Int) (es:List Ev) (k:Nat) (s:List Lk×List Ev):Prop where
 inv:SlI nd 2 wd (lastT es k) s.1
 st:s.1=s.2.foldl ep []
 fit:∀e∈s.2,FitOk nd e
 asc:s.2.Pairwise λa b=>a.tm<=b.tm
 le:∀e∈s.2,e.tm<=lastT es k
 al:s.1=((es.take k).foldl ep []).filter (aliveB wd (lastT es k))
 sum:s.1.length+s.2.length<=2*k
theorem filter_alive{nd wd T:Int}{xs:List Lk}(h:SlI nd 2 wd T xs):xs.filter (aliveB wd T)=xs:=List.filter_eq_self.2 λx hx=>by
 have:=h.al rfl x hx
 unfold aliveB
 exact decide_eq_true om
theorem steps_val{nd:Int}(h0:0<=nd/\nd<=64):∀(es:List Ev) (xs:List Lk),checkS nd xs=0->(∀e∈es,FitOk nd e)->checkS nd (es.foldl ep xs)=0
 |[],xs,hx,_=>hx
 |e::es,xs,hx,he=>steps_val h0 es (ep xs e) (stepL_val hx (he e List.mem_cons_self)) λy hy=>he y (List.mem_cons_of_mem _ hy)
theorem valNil{nd:Int}(h0:0<=nd/\nd<=64):checkS nd []=0:=(SlI.nil (kd:=1) (wd:=0) (last:=0) h0).val
theorem StOk.mem{nd:Int}{es:List Ev}(h:StOk nd es):∀e∈es,FitOk nd e:=λe he=>by
 obtain ⟨j,hj,rfl⟩:=mem_at he
 exact h.fit j hj
theorem BehB.all{nd wd mo:Int}{es:List Ev}(h:StOk nd es)(hw:1<=wd):∀k,k<=es.length->BehB nd wd es k (slideS 2 wd mo (es.take k))
 |0,_=>⟨SlI.nil h.nodes,rfl,λe he=>(by cases he),List.Pairwise.nil,λe he=>(by cases he),rfl,Nat.le_refl _⟩
 |k+1,hk=>by
  have ih:=BehB.all (mo:=mo) h hw k om
  have hfe:=h.fit k om
  have hto:=h.asc k om
  have h0:0<=lastT es k:=by
   cases k with
   |zero=>exact Int.le_refl _
   |succ k=>rw [lastT_succ];exact (h.fit k om).tm.1
  rw [slideS_succ om]
  generalize hs:slideS 2 wd mo (es.take k)=s at ih ⊢
  generalize hee:e_ es k=e at hfe hto ⊢
  obtain ⟨xs,out⟩:=s
  have hA:AgB nd wd (lastT es k) e.tm (2*k) ((es.take k).foldl ep []) xs out:=
   ⟨ih.inv,ih.st,ih.fit,ih.asc,λe' he'=>by have:=ih.le e' he';omega,λe' he' x hx=>by have h1:=ih.le e' he';have h2:=ih.inv.al rfl x hx;omega,by
    have:=ih.al
    simp only at this
    rw [this,alive_two hto],ih.sum⟩
  have hG:=hA.aged (mo:=mo) h0 hto hfe.tm.2
  have hev:evStep 2 wd mo (xs,out) e=(ep (ageL wd mo e.tm xs out).1 e,(ageL wd mo e.tm xs out).2++[e]):=rfl
  rw [hev]
  generalize ageL wd mo e.tm xs out=a at hG
  have hlt:lastT es (k+1)=e.tm:=by rw [lastT_succ,hee]
  have hI:=hG.inv.step hfe rfl (λ_=>hw)
  have hall:checkS nd ((es.take k).foldl ep [])=0:=steps_val h.nodes _ _ (valNil h.nodes) λx hx=>h.mem x (List.mem_of_mem_take hx)
  refine ⟨by rw [hlt];exact hI,?_,λx hx=>?_,List.pairwise_append.2 ⟨hG.asc,List.pairwise_singleton _ _,λx hx y hy=>?_⟩,λx hx=>?_,?_,?_⟩
  ·simp only;rw [List.foldl_append,←hG.st];rfl
  ·rcases List.mem_append.1 hx with hx|hx
   ·exact hG.fit x hx
   ·rw [List.mem_singleton.1 hx];exact hfe
  ·rw [List.mem_singleton.1 hy];exact hG.le x hx
  ·rw [hlt]
   rcases List.mem_append.1 hx with hx|hx
   ·exact hG.le x hx
   ·rw [List.mem_singleton.1 hx];exact Int.le_refl _
  ·simp only
   have hal:aliveB wd e.tm (ei e)=true:=by unfold aliveB;exact decide_eq_true (by show e.tm - e.tm<wd;omega)
   rw [hlt,steps_succ om,hee,←stepL_filter hal (checkS_ok hall).2.2,←hG.al,filter_alive hG.inv]
  ·have h1:=stepL_len a.1 e
   have h2:=hG.sum
   simp only [List.length_append,List.length_cons,List.length_nil];omega
theorem last_of:∀(K:List Lk),K≠[]->K.Pairwise Lk.lt->∃z∈K,∀y∈K,y=z\/Lk.late y z
 |[],h,_=>absurd rfl h
 |[x],_,_=>⟨x,List.mem_cons_self,λy hy=> .inl (by simpa using hy)⟩
 |x::y::ys,_,hp=>by
  obtain ⟨h1,h2⟩:=List.pairwise_cons.1 hp
  obtain ⟨z,hz,hh⟩:=last_of (y::ys) (by simp) h2
  have hxz:=h1 z hz
  by_cases hl:Lk.late x z
  ·exact ⟨z,List.mem_cons_of_mem _ hz,λw hw=>by
    rcases List.mem_cons.1 hw with rfl|hw
    ·exact .inr hl
    ·exact hh w hw⟩
  ·have hl':Lk.late z x:=by unfold Lk.late Lk.lt Pt.lt at *; omega
   refine ⟨x,List.mem_cons_self,λw hw=>?_⟩
   rcases List.mem_cons.1 hw with rfl|hw
   ·exact .inl rfl
   ·rcases hh w hw with rfl|hwz
    ·exact .inr hl'
    ·right;unfold Lk.late Lk.lt Pt.lt at *; omega
theorem one_eq{z:Lk}:∀(K:List Lk),K.Pairwise Lk.lt->(K.filter λy=>decide (y=z)).length<=1
 |[],_=>by simp
 |x::xs,h=>by
  obtain ⟨h1,h2⟩:=List.pairwise_cons.1 h
  rw [List.filter_cons]
  by_cases hx:x=z
  ·rw [if_pos (by simpa using hx),List.filter_eq_nil_iff.2 λy hy=>?_]
   ·simp
   ·intro hd
    have hyz:y=z:=of_decide_eq_true hd
    have:=h1 y hy
    rw [hx,hyz] at this
    exact Pt.lin.irr _ this
  ·rw [if_neg (by simpa using hx)];exact one_eq xs h2
theorem filt_two(P R:Lk->Bool):∀K:List Lk,(∀y∈K,P y=true\/R y=true)->K.length<=(K.filter P).length+(K.filter R).length
 |[],_=>by simp
 |x::xs,h=>by
  have ih:=filt_two P R xs λy hy=>h y (List.mem_cons_of_mem _ hy)
  have hx:=h x List.mem_cons_self
  simp only [List.filter_cons,List.length_cons]
  cases hP:P x<;>cases hR:R x<;>simp_all<;>omega
theorem filt_len{P:Lk->Bool}{K xs:List Lk}(h:K.Sublist xs):(K.filter P).length<=(xs.filter P).length:=(h.filter P).length_le
theorem last_len{wd mo nw:Int}{xs:List Lk}(ha:xs.Pairwise Lk.lt)(hm:0<=mo):((xs.filter (inW 3 wd mo nw xs)).length:Int)<=mo:=by
 generalize hK:xs.filter (inW 3 wd mo nw xs)=K
 have hsub:K.Sublist xs:=by rw [←hK];exact List.filter_sublist
 have haK:=ha.sublist hsub
 by_cases h0:K=[]
 ·rw [h0];simpa using hm
 ·obtain ⟨z,hz,hl⟩:=last_of K h0 haK
  have h1:=filt_two (λy=>decide (Lk.late y z)) (λy=>decide (y=z)) K λy hy=>by
   rcases hl y hy with h|h
   ·exact .inr (decide_eq_true h)
   ·exact .inl (decide_eq_true h)
  have h2:=one_eq (z:=z) K haK
  have h3:=filt_len (P:=λy=>decide (Lk.late y z)) hsub
  have h4:inW 3 wd mo nw xs z=true:=by rw [←hK] at hz;exact (List.mem_filter.1 hz).2
  unfold inW at h4
  rw [if_neg dc,if_pos rfl] at h4
  have h5:=of_decide_eq_true h4
  unfold rankL at h5
  omega
structure CntB (nd mo:Int) (es:List Ev) (k:Nat) (s:List Lk×List Ev):Prop where
 inv:SlI nd 3 0 (lastT es k) s.1
 st:s.1=s.2.foldl ep []
 fit:∀e∈s.2,FitOk nd e
 len:(s.1.length:Int)<=mo
 sum:s.1.length+s.2.length<=2*k
theorem evStep3{wd mo:Int}(s:List Lk×List Ev)(e:Ev):evStep 3 wd mo s e=((ep s.1 e).filter (inW 3 wd mo e.tm (ep s.1 e)),s.2++[e]++goneL 3 wd mo e.tm (ep s.1 e)):=rfl
theorem CntB.all{nd mo:Int}{es:List Ev}(h:StOk nd es)(hm:0<=mo):∀k,k<=es.length->CntB nd mo es k (slideS 3 0 mo (es.take k))
 |0,_=>⟨SlI.nil h.nodes,rfl,λe he=>(by cases he),hm,Nat.le_refl _⟩
 |k+1,hk=>by
  have ih:=CntB.all h hm k om
  have hfe:=h.fit k om
  have hto:=h.asc k om
  rw [slideS_succ om,evStep3]
  generalize slideS 3 0 mo (es.take k)=s at ih ⊢
  generalize hee:e_ es k=e at hfe hto ⊢
  have hlt:lastT es (k+1)=e.tm:=by rw [lastT_succ,hee]
  have hI:=(ih.inv.later hto (λh=>absurd h dc)).step hfe rfl (λh=>absurd h dc)
  have hgl:=gone_len 3 0 mo e.tm (ep s.1 e)
  have hsl:=stepL_len s.1 e
  have hsum:=ih.sum
  refine ⟨by rw [hlt];exact hI.filter _,?_,λx hx=>?_,last_len (checkS_ok hI.val).2.2 hm,?_⟩
  ·simp only;rw [List.foldl_append,List.foldl_append,←ih.st,←gone_steps hI.val];rfl
  ·rcases List.mem_append.1 hx with hx|hx
   ·rcases List.mem_append.1 hx with hx|hx
    ·exact ih.fit x hx
    ·rw [List.mem_singleton.1 hx];exact hfe
   ·exact gone_fit hI.val hfe.tm x hx
  ·simp only [List.length_append,List.length_cons,List.length_nil];omega
theorem same_of{kd wd mo:Int}{es:List Ev}(H:∀k:Nat,k<es.length->evStep kd wd mo ((es.take k).foldl ep [],es.take k) (e_ es k)=(ep ((es.take k).foldl ep []) (e_ es k),es.take k++[e_ es k])) :
  ∀k,k<=es.length->slideS kd wd mo (es.take k)=((es.take k).foldl ep [],es.take k)
 |0,_=>rfl
 |k+1,hk=>by
  have hk':k<es.length:=by omega
  rw [slideS_succ hk',same_of H k om,H k hk',steps_succ hk',Di es k hk']
theorem slide_same{kd wd mo:Int}{es:List Ev}(H:∀k:Nat,k<es.length->evStep kd wd mo ((es.take k).foldl ep [],es.take k) (e_ es k)=(ep ((es.take k).foldl ep []) (e_ es k),es.take k++[e_ es k])):(slideS kd wd mo es).2=es:=by
 have:=same_of H es.length (Nat.le_refl _)
 rw [List.take_length] at this
 rw [this]
theorem all_same(wd mo:Int)(es:List Ev):(slideS 1 wd mo es).2=es:=slide_same λk hk=>rfl
theorem many_same{nd wd:Int}{es:List Ev}(h:StOk nd es)(hl:es.length<=50):(slideS 3 wd 100 es).2=es:=slide_same λk hk=>by
 rw [evStep3]
 simp only
 have hlen:=steps_len (es.take k) []
 rw [List.length_take,List.length_nil] at hlen
 have hsl:=stepL_len ((es.take k).foldl ep []) (e_ es k)
 generalize ep ((es.take k).foldl ep []) (e_ es k)=xs at *
 have hin:∀x,inW 3 wd 100 (e_ es k).tm xs x=true:=λx=>by
  unfold inW
  rw [if_neg dc,if_pos rfl]
  refine decide_eq_true ?_
  have:=List.length_filter_le (λy=>decide (Lk.late y x)) xs
  unfold rankL
  omega
 rw [List.filter_eq_self.2 λx _=>hin x]
 unfold goneL
 rw [List.filter_eq_nil_iff.2 λx _=>by rw [hin x];decide]
 simp
theorem StOk.up{nd:Int}{es:List Ev}(h:StOk nd es):∀k,k<=es.length->∀j,j<k->(e_ es j).tm<=lastT es k
 |0,_,j,hj=>absurd hj (Nat.not_lt_zero _)
 |k+1,hk,j,hj=>by
  rw [lastT_succ]
  rcases Nat.lt_succ_iff_lt_or_eq.1 hj with hj|rfl
  ·exact Int.le_trans (h.up k om j hj) (h.asc k om)
  ·exact Int.le_refl _
theorem at_takeN{es:List Ev}{m j:Nat}(hj:j<m)(hl:j<es.length):e_ (es.take m) j=e_ es j:=by
 rw [Db _ j (by rw [List.length_take];omega),Db es j hl,List.getElem_take]
theorem StOk.take{nd:Int}{es:List Ev}(h:StOk nd es)(m:Nat):StOk nd (es.take m):=by
 have hl:∀j,j<(es.take m).length->j<m/\j<es.length:=λj hj=>by rw [List.length_take] at hj;omega
 refine ⟨h.nodes,by have:=h.len;rw [List.length_take];omega,λj hj=>?_,λj hj=>?_⟩
 ·rw [at_takeN (hl j hj).1 (hl j hj).2];exact h.fit j (hl j hj).2
 ·rw [at_takeN (hl j hj).1 (hl j hj).2]
  have h1:=h.asc j (hl j hj).2
  have h2:=hl j hj
  unfold lastT at h1 ⊢
  split
  ·rename_i h0;rw [if_pos h0] at h1;exact h1
  ·rename_i h0
   rw [if_neg h0,show (j:Int) - 1=((j - 1:Nat):Int) by omega] at h1
   rw [show (j:Int) - 1=((j - 1:Nat):Int) by omega,at_takeN om om];exact h1
end Go.Sl
/- The graphs of a history, time by time: the plain functions. No Go. No conditions. -/
namespace Go.Sl
def cutAt(wd:Int)(l:Lk):Ev:=⟨2,l.tm+wd,l.u,l.v,0,0,0⟩
def lateP(kd wd:Int)(l:Lk):Bool:=decide (kd=2/\l.tm+wd<=1048576)
def lateL(kd wd:Int)(xs:List Lk):List Ev:=(xs.filter (lateP kd wd)).map (cutAt wd)
def evC(a b:Ev):Int:=if a.tm<b.tm then -1 else if b.tm<a.tm then 1 else 0
def eh(es:List Ev):List Lk:=es.foldl ep []
def allE(kd wd mo:Int)(es:List Ev):List Ev:=(slideS kd wd mo es).2++isortG evC (lateL kd wd (eh (slideS kd wd mo es).2))
def edgesK(xs:List Lk):List Pt:=xs.map λl=>⟨l.u,l.v⟩
def atK(kd wd mo:Int)(es:List Ev)(T:Int):List Lk:=eh ((allE kd wd mo es).takeWhile λe=>decide (e.tm<=T))
theorem linksL_take{es:List Ev}{k:Nat}(h:k<es.length):eh (es.take (k+1))=ep (eh (es.take k)) (e_ es k):=by
 unfold eh;rw [Di es k h,List.foldl_append];rfl
theorem lateL_take{kd wd:Int}{xs:List Lk}{k:Nat}(h:k<xs.length):lateL kd wd (xs.take (k+1))=lateL kd wd (xs.take k)++if lateP kd wd (e_ xs k)=true then [cutAt wd (e_ xs k)] else []:=by
 unfold lateL
 rw [Di xs k h,List.filter_append,List.map_append]
 congr 1
 by_cases hp:lateP kd wd (e_ xs k)=true
 ·rw [if_pos hp];simp [List.filter_cons,hp]
 ·rw [if_neg hp];simp [List.filter_cons,hp]
theorem lateL_len(kd wd:Int)(xs:List Lk):(lateL kd wd xs).length<=xs.length:=by
 unfold lateL;rw [List.length_map];exact List.length_filter_le _ _
theorem evC_neg{a b:Ev}:evC a b<0↔a.tm<b.tm:=by unfold evC;repeat (first|omega|split)
structure Moment (E:List Ev) (fst:Bool) (j:Nat) (t:Int) (own:Bool) (j':Nat):Prop where
 le:j<=j'/\j'<=E.length
 same:∀i:Nat,j<=i->i<j'->(e_ E i).tm=t
 stop:j'<E.length->(e_ E j').tm≠t
 own:own=decide (j<j')
 first:fst=true->t=0/\j=0
 next:fst=false->j<E.length/\t=(e_ E j).tm
theorem takeWhile_take{α:Type}[Inhabited α]{p:α->Bool}:∀{E:List α} {j:Nat},j<=E.length->(∀i:Nat,i<j->p (e_ E i)=true)->(j<E.length->p (e_ E j)=false)->E.takeWhile p=E.take j
 |[],j,_,_,_=>by simp
 |x::E,0,_,_,h=>by
  have h1:=h (by simp)
  rw [show e_ (x::E) ((0:Nat):Int)=x from rfl] at h1
  simp [List.takeWhile_cons,h1]
 |x::E,j+1,hj,ha,h=>by
  have h0:=ha 0 om
  rw [show e_ (x::E) ((0:Nat):Int)=x from rfl] at h0
  have e:∀i:Nat,e_ (x::E) ((i+1:Nat):Int)=e_ E i:=λi=>by rw [at_nat,at_nat];rfl
  have ih:=takeWhile_take (p:=p) (E:=E) (j:=j) (by simpa using hj) (λi hi=>by rw [←e];exact ha (i+1) om) (λhl=>by rw [←e];exact h (by simpa using hl))
  simp [List.takeWhile_cons,h0,ih]
theorem atK_stop{kd wd mo T:Int}{es:List Ev}{j:Nat}(hj:j<=(allE kd wd mo es).length)(ha:∀i:Nat,i<j->(e_ (allE kd wd mo es) i).tm<=T)(h:j<(allE kd wd mo es).length->T<(e_ (allE kd wd mo es) j).tm):atK kd wd mo es T=eh ((allE kd wd mo es).take j):=by
 unfold atK
 rw [takeWhile_take hj (λi hi=>decide_eq_true (ha i hi)) λhl=>decide_eq_false (by have:=h hl;omega)]
end Go.Sl
namespace Go.Sl
open Go.Proofs
set_option maxRecDepth 4000
theorem checkS_tm'{nd:Int}{xs:List Lk}(h:checkS nd xs=0):∀x∈xs,0<=x.tm/\x.tm<=1048576:=λx hx=>badL_tm ((checkS_ok h).2.1 x hx)
theorem First_ok{κ:Ctx}{I:List Item}{nd wd:Int}{va:Value}{xs:List Lk}(hl:Sl κ I va xs)(hb:∀x∈xs,0<=x.tm/\x.tm<=1048576)(hw:0<=wd/\wd<=1048576):eu Tryz.prog κ 252 [.agg #[e7 nd,va],e7 wd] I (λr J=>∃z:Int,r = .tuple #[e7 z,.bool (decide (0<xs.length))]/\((0<xs.length->(∃x∈xs,z=x.tm+wd)/\∀y∈xs,z<=y.tm+wd)/\(xs.length=0->z=0))/\I=J):=by
 refine Cg hl.le λhmax=>?_
 refine Ce2 Tryz.func252 C C ?_
 refine Aj (Ge1 (Bg (cs:=[_,_]) C C C) λb1=>Ga C (Ga C (Ah (Au (Aj (Gf fld111_1 C (Gl ty109 ?_)))))))
 refine Gr (Cb (α:=Lk) (xs:=xs) A7 C (Bj hl)) (Gr (Bl C C) (Ah (Bd C (λc10=>?_) (λc10=>?_))))
 ·exact Aj (Ga C (Ga C (Ah (Az (Ar (C4 C C C I Ay ⟨0,by rw [decide_eq_false om],⟨λh=>by omega,λ_=>rfl⟩,rfl⟩))))))
 ·refine A4 (Ai (Aj (Gf fld111_1 C (Gl ty109 ?_))))
  refine G.e (Am call292 C C (MinF_ok (Bj hl) om FirstC_cmps)) ?_
  rintro _ _ ⟨_,_,⟨xm2,rfl,hmxm2,rfl⟩,rfl,rfl⟩
  have hxb:=hb _ hmxm2.1
  refine Ge1 (A9 ty146 C) λb3=>Ge0 (E6 ty146) ?_
  refine Ah (Aj (Gf fld146_5 C (Gl ef ?_)))
  exact Gm C (Gr (Rad C C) (Ga C (Ga C (Ah (Av (S2 5 4 C C) (Az (C4 C C C I Ay ⟨_,by rw [decide_eq_true om],⟨λ_=>⟨⟨xm2,hmxm2.1,rfl⟩,λy hy=>by have:=hmxm2.2 y hy;omega⟩,λh=>by omega⟩,rfl⟩)))))))
end Go.Sl
/- What holds of the events of a history, with the cuts of what expires later. The plain laws. No Go. No conditions. -/
namespace Go.Sl
theorem ageL_len(wd mo T:Int)(xs:List Lk)(out:List Ev):(ageL wd mo T xs out).1.length<=xs.length:=by
 have h:=ageL_ind (wd:=wd) (mo:=mo) (T:=T) (P:=λys _=>ys.length<=xs.length) (λys o hs hP=>Nat.le_trans (List.length_filter_le _ _) hP) xs.length xs out (Nat.le_refl _) (Nat.le_refl _)
 exact h.1
theorem slide_take_len{kd wd mo:Int}{es:List Ev}:∀k,k<=es.length->(slideS kd wd mo (es.take k)).1.length<=k
 |0,_=>Nat.le_refl _
 |k+1,hk=>by
  have ih:=slide_take_len (kd:=kd) (wd:=wd) (mo:=mo) (es:=es) k om
  rw [slideS_succ om]
  generalize slideS kd wd mo (es.take k)=s at ih ⊢
  have h1:(agedL kd wd mo (e_ es k).tm s).1.length<=s.1.length:=by
   unfold agedL
   split
   ·exact ageL_len _ _ _ _ _
   ·exact Nat.le_refl _
  have h2:=stepL_len (agedL kd wd mo (e_ es k).tm s).1 (e_ es k)
  unfold evStep windL
  split
  ·have h3:=List.length_filter_le (inW kd wd mo (e_ es k).tm (ep (agedL kd wd mo (e_ es k).tm s).1 (e_ es k))) (ep (agedL kd wd mo (e_ es k).tm s).1 (e_ es k))
   simp only
   omega
  ·simp only
   omega
structure HistOk (nd kd wd mo:Int) (es:List Ev):Prop where
 st:StOk nd es
 win:checkW kd wd mo=0
theorem checkW_cases{kd wd mo:Int}(h:checkW kd wd mo=0):(kd=1/\wd=0/\mo=0)\/(kd=2/\(1<=wd/\wd<=1048576)/\mo=0)\/(kd=3/\wd=0/\0<=mo/\mo<=2016):=by
 unfold checkW at h
 split at h
 ·cases h
 ·split at h
  ·cases h
  ·omega
section
variable {nd kd wd mo:Int}{es:List Ev}
theorem HistOk.fit(h:HistOk nd kd wd mo es):∀e∈(slideS kd wd mo es).2,FitOk nd e:=by
 have he:es.take es.length=es:=List.take_length
 rcases checkW_cases h.win with ⟨rfl,rfl,rfl⟩|⟨rfl,hw,rfl⟩|⟨rfl,rfl,hm⟩
 ·rw [all_same];exact h.st.mem
 ·have:=(BehB.all (mo:=0) h.st hw.1 es.length (Nat.le_refl _)).fit
  rwa [he] at this
 ·have:=(CntB.all h.st hm.1 es.length (Nat.le_refl _)).fit
  rwa [he] at this
theorem HistOk.links(h:HistOk nd kd wd mo es):(slideS kd wd mo es).1=eh (slideS kd wd mo es).2:=by
 have he:es.take es.length=es:=List.take_length
 rcases checkW_cases h.win with ⟨rfl,rfl,rfl⟩|⟨rfl,hw,rfl⟩|⟨rfl,rfl,hm⟩
 ·rw [all_same]
  have:∀k,k<=es.length->(slideS 1 0 0 (es.take k)).1=eh (es.take k):=λk=>by
   induction k with
   |zero=>intro _;rfl
   |succ k ih=>
    intro hk
    rw [slideS_succ om,linksL_take om,←ih om];rfl
  have:=this es.length (Nat.le_refl _)
  rwa [he] at this
 ·have:=(BehB.all (mo:=0) h.st hw.1 es.length (Nat.le_refl _)).st
  rwa [he] at this
 ·have:=(CntB.all h.st hm.1 es.length (Nat.le_refl _)).st
  rwa [he] at this
theorem HistOk.len(h:HistOk nd kd wd mo es):(eh (slideS kd wd mo es).2).length<=es.length:=by
 have he:es.take es.length=es:=List.take_length
 rw [←h.links]
 have:=slide_take_len (kd:=kd) (wd:=wd) (mo:=mo) es.length (Nat.le_refl _)
 rwa [he] at this
theorem HistOk.len2(h:HistOk nd kd wd mo es):(slideS kd wd mo es).2.length<=2*es.length:=by
 have he:es.take es.length=es:=List.take_length
 rcases checkW_cases h.win with ⟨rfl,rfl,rfl⟩|⟨rfl,hw,rfl⟩|⟨rfl,rfl,hm⟩
 ·rw [all_same];omega
 ·have:=(BehB.all (mo:=0) h.st hw.1 es.length (Nat.le_refl _)).sum
  rw [he] at this;omega
 ·have:=(CntB.all h.st hm.1 es.length (Nat.le_refl _)).sum
  rw [he] at this;omega
theorem links_val(h0:0<=nd/\nd<=64){E:List Ev}(hf:∀e∈E,FitOk nd e)(k:Nat):checkS nd (eh (E.take k))=0:=steps_val h0 _ _ (valNil h0) λe he=>hf e (List.mem_of_mem_take he)
theorem cutAt_fit{l:Lk}{X:List Lk}(hv:checkS nd X=0)(hl:l∈X)(hw:0<=wd)(hp:lateP kd wd l=true):FitOk nd (cutAt wd l):=by
 have h1:=of_decide_eq_true hp
 have h2:=val_uv hv l hl
 have h3:=checkS_tm' hv l hl
 have h4:=(checkS_iff.1 hv).1
 refine ⟨by show 1<=(2:Int)/\(2:Int)<=3;decide,?_,⟨?_,λh=>absurd h (by show ¬(2:Int)=3;decide),λ_=>?_⟩,λh=>absurd h (by show ¬(2:Int)=1;decide),?_,λ_=>⟨rfl,rfl,rfl⟩⟩
 ·show 0<=l.tm+wd/\l.tm+wd<=1048576;omega
 ·show 0<=l.u/\l.u<64;omega
 ·show (0<=l.v/\l.v<64)/\l.u≠l.v;omega
 ·show l.u<nd/\l.v<nd;omega
theorem late_fit{X:List Lk}(hv:checkS nd X=0)(hw:0<=wd):∀e∈isortG evC (lateL kd wd X),FitOk nd e:=λe he=>by
 rw [(Fa _ _).mem_iff] at he
 obtain ⟨l,hl,rfl⟩:=List.mem_map.1 he
 have hl2:=List.mem_filter.1 hl
 exact cutAt_fit hv hl2.1 hw hl2.2
theorem HistOk.allFit(h:HistOk nd kd wd mo es):∀e∈allE kd wd mo es,FitOk nd e:=λe he=>by
 rcases List.mem_append.1 he with he|he
 ·exact h.fit e he
 ·have hv:checkS nd (eh (slideS kd wd mo es).2)=0:=by
   have:=links_val h.st.nodes h.fit (slideS kd wd mo es).2.length
   rwa [List.take_length] at this
  exact late_fit hv (checkW_wd h.win).1 e he
theorem edgesK_ok{X:List Lk}(h:checkS nd X=0):GrOk nd (edgesK X):=by
 have h1:=checkS_iff.1 h
 refine ⟨h1.1,?_,λe he=>?_⟩
 ·show (edgesK X).Pairwise Pt.lt
  unfold edgesK
  exact List.Pairwise.map _ (λa b hab=>hab) h1.2.2
 ·obtain ⟨l,hl,rfl⟩:=List.mem_map.1 he
  exact val_uv h l hl
theorem edgesK_len(X:List Lk):(edgesK X).length=X.length:=List.length_map ..
def atG(kd wd mo:Int)(es:List Ev)(T:Int):List Pt:=edgesK (atK kd wd mo es T)
theorem atK_take(kd wd mo T:Int)(es:List Ev):∃j,atK kd wd mo es T=eh ((allE kd wd mo es).take j):=by
 unfold atK
 have hp:(allE kd wd mo es).takeWhile (λe=>decide (e.tm<=T)) <+: allE kd wd mo es:=List.takeWhile_prefix _
 exact ⟨_,by rw [List.prefix_iff_eq_take.1 hp]⟩
theorem HistOk.graph(h:HistOk nd kd wd mo es)(T:Int):GrOk nd (atG kd wd mo es T):=by
 obtain ⟨j,hj⟩:=atK_take kd wd mo T es
 unfold atG
 rw [hj]
 exact edgesK_ok (links_val h.st.nodes h.allFit j)
end
end Go.Sl
namespace Go.Sl
open Go.Proofs
set_option maxRecDepth 4000
variable {κ:Ctx}{I:List Item}
theorem NodeE_ok(n:Int):eu Tryz.prog κ 291 [e7 n] I (λr J=>r = .bool (decide (0<=n/\n<64))/\I=J):=by
 refine Ce1 Tryz.func291 C C ?_
 refine Aj (Ga C (Ah (Aj (Gm C (Gr (Cu C C) (Gm C (Bs (d:=5) C (λg5=>?_) (λg5=>?_))))))))
 ·exact e9 (Af C) (e9 (Bi C C) (Gr (Ap C C) (Ga C (Ah (Az (Ba C C I Ay ⟨(by first|exact congrArg Value.bool (decide_eq_decide.2 (by skip;omega))|exact congrArg Value.bool (decide_eq_true (by skip;omega)).symm|exact congrArg Value.bool (decide_eq_false (by skip;omega)).symm),rfl⟩))))))
 ·exact eb (eb (Gr (Al C C) (Ga C (Ah (Az (Ba C C I Ay ⟨(by first|exact congrArg Value.bool (decide_eq_decide.2 (by skip;omega))|exact congrArg Value.bool (decide_eq_true (by skip;omega)).symm|exact congrArg Value.bool (decide_eq_false (by skip;omega)).symm),rfl⟩))))))
theorem EndsE_ok(e:Ev):eu Tryz.prog κ 250 [.agg #[e7 (e.kd),e7 (e.tm),e7 (e.u),e7 (e.v),e7 (e.w),e7 (e.lb),e7 (e.sg)]] I (λr J=>r = .bool (decide (endsE e))/\I=J):=by
 refine Ce1 Tryz.func250 C C ?_
 refine Aj (Ge1 (Bg (cs:=[_,_,_,_,_,_,_]) C C C) λb1=>Ga C (Ah (Au (Aj (Gf fld108_0 C (Gl ef ?_))))))
 refine Gr (Bl C C) (Ah (Bd C (λc5=>?_) (λc5=>?_)))
 ·refine Aj (Gf fld108_2 C (Gl ef ?_))
  refine Gc0 (Am call291 C C (NodeE_ok e.u)) ?_
  refine Gm C (Bs (d:=9) C (λg9=>?_) (λg9=>?_))
  ·refine e9 (Ab fld108_3 C) (e9 (As ef) ?_)
   exact e9 (Bl C C) (Gr (Ap C C) (Ga C (Ah (Av (S1 2 C) (Az (Ar (Ba C C I Ay ⟨(by first|exact congrArg Value.bool (decide_eq_decide.2 (by unfold endsE;omega))|exact congrArg Value.bool (decide_eq_true (by unfold endsE;omega)).symm|exact congrArg Value.bool (decide_eq_false (by unfold endsE;omega)).symm),rfl⟩)))))))
  ·exact eb (eb (eb (Gr (Al C C) (Ga C (Ah (Av (S1 2 C) (Az (Ar (Ba C C I Ay ⟨(by first|exact congrArg Value.bool (decide_eq_decide.2 (by unfold endsE;omega))|exact congrArg Value.bool (decide_eq_true (by unfold endsE;omega)).symm|exact congrArg Value.bool (decide_eq_false (by unfold endsE;omega)).symm),rfl⟩)))))))))
 ·refine A4 (Ai (Aj (Gf fld108_2 C (Gl ef ?_))))
  refine Gc0 (Am call291 C C (NodeE_ok e.u)) ?_
  refine Gm C (Bs (d:=17) C (λg17=>?_) (λg17=>?_))
  ·refine e9 (Ab fld108_3 C) (e9 (As ef) ?_)
   refine Et (Cz C C C) (Am call291 C C (NodeE_ok e.v)) ?_
   rintro _ _ ⟨_,_,⟨rfl,rfl⟩,rfl,rfl⟩
   refine Gr (Ap C C) (Gm C (Bs (d:=22) C (λg22=>?_) (λg22=>?_)))
   ·refine e9 (Ab fld108_2 C) (e9 (As ef) ?_)
    refine e9 (Ab fld108_3 C) (e9 (As ef) ?_)
    exact e9 (Bx C C) (Gr (Ap C C) (Ga C (Ah (Av (S1 2 C) (Az (Ba C C I Ay ⟨(by first|exact congrArg Value.bool (decide_eq_decide.2 (by unfold endsE;omega))|exact congrArg Value.bool (decide_eq_true (by unfold endsE;omega)).symm|exact congrArg Value.bool (decide_eq_false (by unfold endsE;omega)).symm),rfl⟩))))))
   ·exact eb (eb (eb (eb (eb (Gr (Al C C) (Ga C (Ah (Av (S1 2 C) (Az (Ba C C I Ay ⟨(by first|exact congrArg Value.bool (decide_eq_decide.2 (by unfold endsE;omega))|exact congrArg Value.bool (decide_eq_true (by unfold endsE;omega)).symm|exact congrArg Value.bool (decide_eq_false (by unfold endsE;omega)).symm),rfl⟩))))))))))
  ·exact eb (eb (eb (Gr (Al C C) (Gm C (eb (eb (eb (eb (eb (Gr (Al C C) (Ga C (Ah (Av (S1 2 C) (Az (Ba C C I Ay ⟨(by first|exact congrArg Value.bool (decide_eq_decide.2 (by unfold endsE;omega))|exact congrArg Value.bool (decide_eq_true (by unfold endsE;omega)).symm|exact congrArg Value.bool (decide_eq_false (by unfold endsE;omega)).symm),rfl⟩)))))))))))))))
theorem CheckE_ok(e:Ev):eu Tryz.prog κ 209 [.agg #[e7 (e.kd),e7 (e.tm),e7 (e.u),e7 (e.v),e7 (e.w),e7 (e.lb),e7 (e.sg)]] I (λr J=>r=e7 (checkE e)/\I=J):=by
 refine Ce1 Tryz.func209 C C ?_
 refine Aj (Ge1 (Bg (cs:=[_,_,_,_,_,_,_]) C C C) λb1=>Ga C (Ah (Au (A6 (Aj (Gf fld108_0 C (Gl ef ?_)))))))
 refine Gr (Bi C C) (Gm C (Bs (d:=7) C (λg7=>?_) (λg7=>?_)))
 ·exact eb (eb (eb (Gr (Ap C C) (Ga C (Ah (Do C (Aj (Ga C (Ah (Av (S1 2 C) (Az (A3 (Ar (Ba C C I Ay ⟨by rw [show checkE e=8 from checkE_eight om],rfl⟩))))))))))))))
 ·refine e9 (Ab fld108_0 C) (e9 (As ef) ?_)
  refine e9 (Ci C C) (Gr (Al C C) (Ga C (Ah (Bd C (λc3=>?_) (λc3=>?_)))))
  ·exact Aj (Ga C (Ah (Av (S1 2 C) (Az (A3 (Ar (Ba C C I Ay ⟨by rw [show checkE e=8 from checkE_eight om],rfl⟩)))))))
  ·refine Aj (Gf fld108_1 C (Gl ef ?_))
   refine Gr (Bi C C) (Gm C (Bs (d:=16) C (λg16=>?_) (λg16=>?_)))
   ·exact eb (eb (eb (Gr (Ap C C) (Ga C (Ah (Av (S2 12 1 C C) (Do C (Aj (Ga C (Ah (Az (A3 (Ar (Ba C C I Ay ⟨by rw [show checkE e=9 from checkE_nine om om],rfl⟩))))))))))))))
   ·refine e9 (Ab fld108_1 C) (e9 (As ef) ?_)
    refine e9 (Ci C C) (Gr (Al C C) (Ga C (Ah (Av (S2 12 1 C C) (Bd C (λc12=>?_) (λc12=>?_))))))
    ·exact Aj (Ga C (Ah (Az (A3 (Ar (Ba C C I Ay ⟨by rw [show checkE e=9 from checkE_nine om om],rfl⟩))))))
    ·refine Aj (Gl7 ty108 ?_)
     refine Gc0 (Am call250 C C (EndsE_ok e)) ?_
     refine Gr (D5 C) (Ga C (Ah (Bd C (λc21=>?_) (λc21=>?_))))
     ·exact Aj (Ga C (Ah (Az (A3 (Ar (Ba C C I Ay ⟨by rw [show checkE e=6 from checkE_six om om (by first|assumption|(unfold endsE;omega))],rfl⟩))))))
     ·refine Aj (Gf fld108_0 C (Gl ef ?_))
      refine Gr (Bl C C) (Gm C (Bs (d:=29) C (λg29=>?_) (λg29=>?_)))
      ·refine e9 (Ab fld108_4 C) (e9 (As ef) ?_)
       refine e9 (Ab fld108_5 C) (e9 (As ef) ?_)
       refine e9 (Ab fld108_6 C) (e9 (As ef) ?_)
       refine Et (Cz C C C) (Am call251 C C (RightW_ok e.w e.lb e.sg)) ?_
       rintro _ _ ⟨_,_,⟨rfl,rfl⟩,rfl,rfl⟩
       refine e9 (D5 C) (Gr (Ap C C) (Ga C (Ah (Av (S2 25 1 C C) (Bd C (λc25=>?_) (λc25=>?_))))))
       ·exact Aj (Ga C (Ah (Az (A3 (Ar (Ba C C I Ay ⟨by rw [show checkE e=1 from checkE_one om om (by first|assumption|exact Classical.not_not.1 asm|(unfold endsE;omega)) (by first|(exact .inr om)|exact .inl ⟨by omega,by assumption⟩|exact .inl ⟨by omega,λh=>by simp_all⟩)],rfl⟩))))))
       ·refine Aj (Gf fld108_0 C (Gl ef ?_))
        refine Gr (Bx C C) (Gm C (Bs (d:=43) C (λg43=>?_) (λg43=>?_)))
        ·refine e9 (Ab fld108_4 C) (e9 (As ef) ?_)
         refine e9 (Bx C C) (e9 (Af C) (Bs (d:=47) C (λg47=>?_) (λg47=>?_)))
         ·exact eb (eb (eb (e9 (Ap C C) (e9 (Af C) (eb (eb (eb (e9 (Ap C C) (Gr (Ap C C) (Ga C (Ah (Av (S1 39 C) (Do C (Aj (Ga C (Ah (Az (A3 (Ar (Ba C C I Ay ⟨by rw [show checkE e=1 from checkE_one om om (by first|assumption|exact Classical.not_not.1 asm|(unfold endsE;omega)) (by first|(exact .inr om)|exact .inl ⟨by omega,by assumption⟩|exact .inl ⟨by omega,λh=>by simp_all⟩)],rfl⟩))))))))))))))))))))
         ·refine e9 (Ab fld108_5 C) (e9 (As ef) ?_)
          refine e9 (Bx C C) (e9 (Al C C) (e9 (Af C) (Bs (d:=52) C (λg52=>?_) (λg52=>?_))))
          ·exact eb (eb (eb (e9 (Ap C C) (Gr (Ap C C) (Ga C (Ah (Av (S1 39 C) (Do C (Aj (Ga C (Ah (Az (A3 (Ar (Ba C C I Ay ⟨by rw [show checkE e=1 from checkE_one om om (by first|assumption|exact Classical.not_not.1 asm|(unfold endsE;omega)) (by first|(exact .inr om)|exact .inl ⟨by omega,by assumption⟩|exact .inl ⟨by omega,λh=>by simp_all⟩)],rfl⟩)))))))))))))))
          ·refine e9 (Ab fld108_6 C) (e9 (As ef) ?_)
           refine e9 (Bx C C) (e9 (Al C C) (Gr (Ap C C) (Ga C (Ah (Av (S1 39 C) (Bd C (λc39=>?_) (λc39=>?_)))))))
           ·exact Aj (Ga C (Ah (Az (A3 (Ar (Ba C C I Ay ⟨by rw [show checkE e=1 from checkE_one om om (by first|assumption|exact Classical.not_not.1 asm|(unfold endsE;omega)) (by first|(exact .inr om)|exact .inl ⟨by omega,by assumption⟩|exact .inl ⟨by omega,λh=>by simp_all⟩)],rfl⟩))))))
           ·exact A4 (Ak (Ai (Aj (Ga C (Ah (Az (Ba C C I Ay ⟨by rw [show checkE e=0 from checkE_zero om om (by first|assumption|exact Classical.not_not.1 asm|(unfold endsE;omega)) (λh=>by first|(exfalso;omega)|assumption|exact Classical.not_not.1 asm) (λh=>by omega)],rfl⟩)))))))
        ·exact eb (eb (eb (eb (ee (ee (ee (eb (eb (ee (ee (ee (eb (Gr (Al C C) (Ga C (Ah (Av (S1 39 C) (Eo C (A4 (Ak (Ai (Aj (Ga C (Ah (Az (Ba C C I Ay ⟨by rw [show checkE e=0 from checkE_zero om om (by first|assumption|exact Classical.not_not.1 asm|(unfold endsE;omega)) (λh=>by first|(exfalso;omega)|assumption|exact Classical.not_not.1 asm) (λh=>by omega)],rfl⟩)))))))))))))))))))))))))
      ·refine eb (eb (eb (eb (eb (eb (eb (eb (Gr (Al C C) (Ga C (Ah (Av (S2 25 1 C C) (Eo C (Aj (Gf fld108_0 C (Gl ef ?_)))))))))))))))
       refine Gr (Bx C C) (Gm C (Bs (d:=43) C (λg43=>?_) (λg43=>?_)))
       ·refine e9 (Ab fld108_4 C) (e9 (As ef) ?_)
        refine e9 (Bx C C) (e9 (Af C) (Bs (d:=47) C (λg47=>?_) (λg47=>?_)))
        ·exact eb (eb (eb (e9 (Ap C C) (e9 (Af C) (eb (eb (eb (e9 (Ap C C) (Gr (Ap C C) (Ga C (Ah (Av (S1 39 C) (Do C (Aj (Ga C (Ah (Az (A3 (Ar (Ba C C I Ay ⟨by rw [show checkE e=1 from checkE_one om om (by first|assumption|exact Classical.not_not.1 asm|(unfold endsE;omega)) (by first|(exact .inr om)|exact .inl ⟨by omega,by assumption⟩|exact .inl ⟨by omega,λh=>by simp_all⟩)],rfl⟩))))))))))))))))))))
        ·refine e9 (Ab fld108_5 C) (e9 (As ef) ?_)
         refine e9 (Bx C C) (e9 (Al C C) (e9 (Af C) (Bs (d:=52) C (λg52=>?_) (λg52=>?_))))
         ·exact eb (eb (eb (e9 (Ap C C) (Gr (Ap C C) (Ga C (Ah (Av (S1 39 C) (Do C (Aj (Ga C (Ah (Az (A3 (Ar (Ba C C I Ay ⟨by rw [show checkE e=1 from checkE_one om om (by first|assumption|exact Classical.not_not.1 asm|(unfold endsE;omega)) (by first|(exact .inr om)|exact .inl ⟨by omega,by assumption⟩|exact .inl ⟨by omega,λh=>by simp_all⟩)],rfl⟩)))))))))))))))
         ·refine e9 (Ab fld108_6 C) (e9 (As ef) ?_)
          refine e9 (Bx C C) (e9 (Al C C) (Gr (Ap C C) (Ga C (Ah (Av (S1 39 C) (Bd C (λc39=>?_) (λc39=>?_)))))))
          ·exact Aj (Ga C (Ah (Az (A3 (Ar (Ba C C I Ay ⟨by rw [show checkE e=1 from checkE_one om om (by first|assumption|exact Classical.not_not.1 asm|(unfold endsE;omega)) (by first|(exact .inr om)|exact .inl ⟨by omega,by assumption⟩|exact .inl ⟨by omega,λh=>by simp_all⟩)],rfl⟩))))))
          ·exact A4 (Ak (Ai (Aj (Ga C (Ah (Az (Ba C C I Ay ⟨by rw [show checkE e=0 from checkE_zero om om (by first|assumption|exact Classical.not_not.1 asm|(unfold endsE;omega)) (λh=>by first|(exfalso;omega)|assumption|exact Classical.not_not.1 asm) (λh=>by omega)],rfl⟩)))))))
       ·exact eb (eb (eb (eb (ee (ee (ee (eb (eb (ee (ee (ee (eb (Gr (Al C C) (Ga C (Ah (Av (S1 39 C) (Eo C (A4 (Ak (Ai (Aj (Ga C (Ah (Az (Ba C C I Ay ⟨by rw [show checkE e=0 from checkE_zero om om (by first|assumption|exact Classical.not_not.1 asm|(unfold endsE;omega)) (λh=>by first|(exfalso;omega)|assumption|exact Classical.not_not.1 asm) (λh=>by omega)],rfl⟩)))))))))))))))))))))))))
theorem FitsE_ok(nd:Int)(e:Ev):eu Tryz.prog κ 210 [e7 nd,.agg #[e7 (e.kd),e7 (e.tm),e7 (e.u),e7 (e.v),e7 (e.w),e7 (e.lb),e7 (e.sg)]] I (λr J=>r=e7 (fitE nd e)/\I=J):=by
 refine Ce2 Tryz.func210 C C ?_
 refine Aj (Ge1 (Bg (cs:=[_,_,_,_,_,_,_]) C C C) λb1=>Ga C (Ah (Au (Aj (Gl7 ty108 ?_)))))
 refine Gc0 (Am call209 C C (CheckE_ok e)) ?_
 refine Ga C (Ah (Aj (Gm C (Gr (Bx C C) (Ah (Bd C (λc9=>?_) (λc9=>?_)))))))
 ·exact Aj (Gm C (Ga C (Ah (Az (Ar (Ba C C I Ay ⟨by rw [show fitE nd e=checkE e from (by unfold fitE;rw [if_pos c9])],rfl⟩))))))
 ·refine A4 (Ai (Au (Aj (Gf fld108_2 C (Gl ef ?_)))))
  refine Gm C (Gr (Cu C C) (Gm C (Bs (d:=15) C (λg15=>?_) (λg15=>?_))))
  ·exact eb (eb (eb (eb (Gr (Ap C C) (Ah (Av (S1 20 C) (Do C (Aj (Ga C (Ah (Az (Ar (Ba C C I Ay ⟨by rw [show fitE nd e=6 from (by unfold fitE;rw [if_neg c9,if_pos om])],rfl⟩)))))))))))))
  ·refine e9 (Ab fld108_3 C) (e9 (As ef) ?_)
   refine e9 (Af C) (e9 (Cu C C) (Gr (Al C C) (Ah (Av (S1 20 C) (Bd C (λc20=>?_) (λc20=>?_))))))
   ·exact Aj (Ga C (Ah (Az (Ar (Ba C C I Ay ⟨by rw [show fitE nd e=6 from (by unfold fitE;rw [if_neg c9,if_pos om])],rfl⟩)))))
   ·exact A4 (Ai (Aj (Ga C (Ah (Az (Ba C C I Ay ⟨by rw [show fitE nd e=0 from (by unfold fitE;rw [if_neg c9,if_neg om])],rfl⟩))))))
end Go.Sl
