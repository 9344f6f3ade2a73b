/- A part of the proofs of statements of this seat: contracts of functions, and the plain laws that they lean on. No conditions. -/
import Derived.Test.YtoagcglbkeomgaaGreatDoorS8
set_option linter.unusedVariables false
set_option linter.unusedSimpArgs false
set_option linter.unusedSectionVars false
open Go.Proofs.Tryz (prog)
set_option maxHeartbeats 8000000
namespace Go.Sl
variable{T kd last mo nd wd:Int}{xs:List Lk}{m:Nat}{es out:List Ev}
theorem ageL_ind{P:List Lk->List Ev->Prop}(hs:∀xs out,(0<xs.length/\minT xs+wd<=T)->P xs out->P (xs.filter (inW 2 wd mo (minT xs+wd) xs)) (out++goneL 2 wd mo (minT xs+wd) xs)) :
  ∀(n:Nat) (xs:List Lk) (out:List Ev),xs.length<=n->P xs out->P (ageL wd mo T xs out).1 (ageL wd mo T xs out).2/\¬(0<(ageL wd mo T xs out).1.length/\minT (ageL wd mo T xs out).1+wd<=T)
 |n,xs,out,hn,hP=>by
  by_cases h:0<xs.length/\minT xs+wd<=T
  ·rw [ageL_step h]
   have Z:(xs.filter<|inW 2 wd mo (minT xs+wd) xs).length<xs.length:=age_less h.1
   cases n with
   |zero=>omega
   |succ n=>exact ageL_ind hs n _ _ om (hs xs out h hP)
  rw [ageL_stop h];exact ⟨hP,h⟩
theorem setL_filter{n:Lk}{P:Lk->Bool}(hn:P n=true)(ha:xs.Pairwise Lk.lt):setL n (xs.filter P)=(setL n xs).filter P:=by
 induction xs with
 |nil=>simp [setL,hn]
 |cons l ls ih=>
  obtain ⟨h1,M⟩:=List.pairwise_cons.1 ha
  have hlt:∀{z:Lk},(z.p=n.p\/Lk.lt n z)->(∀x∈ls,Lk.lt z x)->setL n (ls.filter P)=n::ls.filter P:=fun {z} hz hx=>by
   cases hf:ls.filter P with
   |nil=>rfl
   |cons y ys=>
    have Z:Lk.lt z y:=hx y (List.mem_filter.1<|by rw [hf];exact List.mem_cons_self).1
    unfold setL
    rw [if_pos]
    rcases hz with hz|hz
    ·unfold Lk.lt at Z ⊢; rw [←hz];exact Z
    exact Pt.lin.tr _ _ _ hz Z
  conv=>rhs;unfold setL
  by_cases hl:Lk.lt n l
  ·rw [if_pos hl,show (n::l::ls).filter P=n::(l::ls).filter P by rw [List.filter_cons,if_pos hn]]
   by_cases hp:P l=true
   ·rw [show (l::ls).filter P=l::ls.filter P by rw [List.filter_cons,if_pos hp]];unfold setL;rw [if_pos hl]
   rw [show (l::ls).filter P=ls.filter P by rw [List.filter_cons,if_neg hp]];exact hlt (.inr hl) h1
  rw [if_neg hl]
  by_cases he:l.p=n.p
  ·rw [if_pos he,List.filter_cons,List.filter_cons,if_pos hn]
   by_cases hp:P l=true
   ·rw [if_pos hp];unfold setL;rw [if_neg hl,if_pos he]
   rw [if_neg hp];exact hlt (.inl he) h1
  rw [if_neg he,List.filter_cons,List.filter_cons]
  by_cases hp:P l=true
  ·rw [if_pos hp,if_pos hp];conv=>lhs;unfold setL
   rw [if_neg hl,if_neg he,ih M]
  rw [if_neg hp,if_neg hp];exact ih M
theorem stepL_filter{e:Ev}{P:Lk->Bool}(hn:P (eh e)=true)(Z:xs.Pairwise Lk.lt):ep (xs.filter P) e=(ep xs e).filter P:=by
 unfold ep
 by_cases h:e.kd=1
 ·rw [if_pos h,if_pos h];exact setL_filter hn Z
 rw [if_neg h,if_neg h,List.filter_filter,List.filter_filter]
 exact List.filter_congr λx _=>Bool.and_comm _ _
theorem pw_all{α:Type}{R:α->α->Prop}(h:∀a c,R a c):∀l:List α,l.Pairwise R
 |[]=> .nil
 |x::xs=>List.pairwise_cons.2 ⟨λy _=>h x y,pw_all h xs⟩
def aliveB(wd T:Int)(x:Lk):Bool:=decide (T - x.tm<wd)
theorem inW_alive(wd mo T:Int)(ys xs:List Lk):xs.filter (inW 2 wd mo T ys)=xs.filter (aliveB wd T):=List.filter_congr λx _=>inW2 wd mo T ys x
theorem alive_two{t:Int}(h:t<=T)(xs:List Lk):(xs.filter (aliveB wd t)).filter (aliveB wd T)=xs.filter (aliveB wd T):=by
 rw [List.filter_filter]
 refine List.filter_congr λx _=>?_
 unfold aliveB
 by_cases h1:T - x.tm<wd
 ·rw [decide_eq_true h1,decide_eq_true (show t - x.tm<wd by omega)];rfl
 rw [decide_eq_false h1];rfl
structure AgB (nd wd last T:Int) (m:Nat) (all xs:List Lk) (out:List Ev):Prop where
 inv:SlI nd 2 wd last xs
 st:xs=out.foldl ep []
 fit:∀e∈out,FitOk nd e
 asc:out.Pairwise λa b=>a.tm<=b.tm
 le:∀e∈out,e.tm<=T
 bef:∀e∈out,∀x∈xs,e.tm<=x.tm+wd
 al:xs.filter (aliveB wd T)=all.filter (aliveB wd T)
 sum:xs.length+out.length<=m
theorem AgB.step{all:List Lk}(h:AgB nd wd last T m all xs out)(h0:0<=last)(hT:T<=1048576)(hs:0<xs.length/\minT xs+wd<=T) :
  AgB nd wd last T m all (xs.filter<|inW 2 wd mo (minT xs+wd) xs) (out++goneL 2 wd mo (minT xs+wd) xs):=by
 have hf:=h.inv.first rfl hs.1
 obtain ⟨⟨x0,aa,e0⟩,ab⟩:=minT_spec hs.1
 refine ⟨h.inv.filter _,?_,λe he=>?_,List.pairwise_append.2 ⟨h.asc,?_,λa ha c hc=>?_⟩,λe he=>?_,λe he x hx=>?_,?_,?_⟩
 ·rw [List.foldl_append,←h.st,gone_steps h.inv.val]
 ·rcases List.mem_append.1 he with he|he
  ·exact h.fit e he
  exact gone_fit h.inv.val om e he
 ·unfold goneL
  rw [List.pairwise_map]
  exact pw_all (λa c=>Int.le_refl _) _
 ·unfold goneL at hc
  obtain ⟨z,hz,rfl⟩:=List.mem_map.1 hc
  show a.tm<=minT xs+wd
  rw [e0];exact h.bef a ha x0 aa
 ·rcases List.mem_append.1 he with he|he
  ·exact h.le e he
  unfold goneL at he
  obtain ⟨z,hz,rfl⟩:=List.mem_map.1 he
  exact hs.2
 ·obtain ⟨M,Z⟩:=List.mem_filter.1 hx
  rcases List.mem_append.1 he with he|he
  ·exact h.bef e he x M
  unfold goneL at he
  obtain ⟨z,hz,rfl⟩:=List.mem_map.1 he
  rw [inW2] at Z
  have:=of_decide_eq_true Z
  show minT xs+wd<=x.tm+wd
  omega
 ·rw [inW_alive,alive_two hs.2,h.al]
 have h1:=gone_len 2 wd mo (minT xs+wd) xs
 have h2:=h.sum
 rw [List.length_append];omega
theorem AgB.aged{all:List Lk}(h:AgB nd wd last T m all xs out)(h0:0<=last)(M:last<=T)(hT:T<=1048576) :
  AgB nd wd T T m all (ageL wd mo T xs out).1 (ageL wd mo T xs out).2:=by
 obtain ⟨Z,h2⟩:=ageL_ind (mo:=mo) (P:=λxs out=>AgB nd wd last T m all xs out) (λxs out hs hP=>hP.step h0 hT hs) xs.length xs out (Nat.le_refl _) h
 exact {Z with inv:=Z.inv.later M λ_=>h2}
structure BehB (nd wd:Int) (es:List Ev) (k:Nat) (s:List Lk×List Ev):Prop where
 inv:SlI nd 2 wd (lastT es k) s.1
 st:s.1=s.2.foldl ep []
 fit:∀e∈s.2,FitOk nd e
 asc:s.2.Pairwise λa b=>a.tm<=b.tm
 le:∀e∈s.2,e.tm<=lastT es k
 al:s.1=((es.take k).foldl ep []).filter (aliveB wd<|lastT es k)
 sum:s.1.length+s.2.length<=2*k
theorem filter_alive(h:SlI nd 2 wd T xs):xs.filter (aliveB wd T)=xs:=List.filter_eq_self.2 λx Z=>by
 have:=h.al rfl x Z
 unfold aliveB
 exact decide_eq_true om
theorem steps_val(M:0<=nd/\nd<=64):∀(es:List Ev) (xs:List Lk),checkS nd xs=0->(∀e∈es,FitOk nd e)->checkS nd (es.foldl ep xs)=0
 |[],xs,hx,_=>hx
 |e::es,xs,hx,he=>steps_val M es (ep xs e) (stepL_val hx<|he e List.mem_cons_self) λy Z=>he y (List.mem_cons_of_mem _ Z)
theorem valNil(Z:0<=nd/\nd<=64):checkS nd []=0:=(SlI.nil (kd:=1) (wd:=0) (last:=0) Z).val
theorem StOk.mem(h:StOk nd es):∀e∈es,FitOk nd e:=λe M=>by
 obtain ⟨j,Z,rfl⟩:=mem_at M
 exact h.fit j Z
theorem BehB.all{nd wd mo:Int}{es:List Ev}(h:StOk nd es)(hw:1<=wd):∀k,k<=es.length->BehB nd wd es k (slideS 2 wd mo (es.take k))
 |0,_=>⟨SlI.nil h.nodes,rfl,λe he=>(by cases he),List.Pairwise.nil,λe he=>(by cases he),rfl,Nat.le_refl _⟩
 |k+1,hk=>by
  have M:=BehB.all (mo:=mo) h hw k om
  have aa:=h.fit k om
  have ad:=h.asc k om
  have h0:0<=lastT es k:=by
   cases k with
   |zero=>exact Int.le_refl _
   |succ k=>rw [lastT_succ];exact (h.fit k om).tm.1
  rw [slideS_succ om]
  generalize hs:slideS 2 wd mo (es.take k)=s at M ⊢
  generalize hee:e_ es k=e at aa ad ⊢
  obtain ⟨xs,out⟩:=s
  have hA:AgB nd wd (lastT es k) e.tm (2*k) ((es.take k).foldl ep []) xs out:=
   ⟨M.inv,M.st,M.fit,M.asc,λe' ab=>by have:=M.le e' ab;omega,λe' ab x hx=>by have h1:=M.le e' ab;have h2:=M.inv.al rfl x hx;omega,by
    have:=M.al
    simp only at this
    rw [this,alive_two ad],M.sum⟩
  have Z:=hA.aged (mo:=mo) h0 ad aa.tm.2
  have ai:evStep 2 wd mo (xs,out) e=(ep (ageL wd mo e.tm xs out).1 e,(ageL wd mo e.tm xs out).2++[e]):=rfl
  rw [ai]
  generalize ageL wd mo e.tm xs out=a at Z
  have hlt:lastT es (k+1)=e.tm:=by rw [lastT_succ,hee]
  have hI:=Z.inv.step aa rfl (λ_=>hw)
  have ae:checkS nd ((es.take k).foldl ep [])=0:=steps_val h.nodes _ _ (valNil h.nodes) λx hx=>h.mem x (List.mem_of_mem_take hx)
  refine ⟨by rw [hlt];exact hI,?_,λx hx=>?_,List.pairwise_append.2 ⟨Z.asc,List.pairwise_singleton _ _,λx hx y hy=>?_⟩,λx hx=>?_,?_,?_⟩
  ·simp only;rw [List.foldl_append,←Z.st];rfl
  ·rcases List.mem_append.1 hx with hx|hx
   ·exact Z.fit x hx
   rw [List.mem_singleton.1 hx];exact aa
  ·rw [List.mem_singleton.1 hy];exact Z.le x hx
  ·rw [hlt]
   rcases List.mem_append.1 hx with hx|hx
   ·exact Z.le x hx
   rw [List.mem_singleton.1 hx];exact Int.le_refl _
  ·simp only
   have ah:aliveB wd e.tm (eh e)=true:=by unfold aliveB;exact decide_eq_true (by show e.tm - e.tm<wd;omega)
   rw [hlt,steps_succ om,hee,←stepL_filter ah (checkS_ok ae).2.2,←Z.al,filter_alive Z.inv]
  have h1:=stepL_len a.1 e
  have h2:=Z.sum
  simp only [List.length_append,List.length_cons,List.length_nil];omega
theorem last_of:∀(K:List Lk),K≠[]->K.Pairwise Lk.lt->∃z∈K,∀y∈K,y=z\/Lk.late y z
 |[],h,_=>absurd rfl h
 |[x],_,_=>⟨x,List.mem_cons_self,λy hy=> .inl<|by simpa using hy⟩
 |x::y::ys,_,hp=>by
  obtain ⟨h1,h2⟩:=List.pairwise_cons.1 hp
  obtain ⟨z,M,hh⟩:=last_of (y::ys) (by simp) h2
  have aa:=h1 z M
  by_cases hl:Lk.late x z
  ·exact ⟨z,List.mem_cons_of_mem _ M,λw hw=>by
    rcases List.mem_cons.1 hw with rfl|hw
    ·exact .inr hl
    exact hh w hw⟩
  have Z:Lk.late z x:=by unfold Lk.late Lk.lt Pt.lt at *; omega
  refine ⟨x,List.mem_cons_self,λw hw=>?_⟩
  rcases List.mem_cons.1 hw with rfl|hw
  ·exact .inl rfl
  rcases hh w hw with rfl|hwz
  ·exact .inr Z
  right;unfold Lk.late Lk.lt Pt.lt at *; omega
theorem one_eq{z:Lk}:∀(K:List Lk),K.Pairwise Lk.lt->(K.filter λy=>decide (y=z)).length<=1
 |[],_=>by simp
 |x::xs,h=>by
  obtain ⟨h1,h2⟩:=List.pairwise_cons.1 h
  rw [List.filter_cons]
  by_cases hx:x=z
  ·rw [if_pos (by simpa using hx),List.filter_eq_nil_iff.2 λy M=>?_]
   ·simp
   intro hd
   have Z:y=z:=of_decide_eq_true hd
   have:=h1 y M
   rw [hx,Z] at this
   exact Pt.lin.irr _ this
  rw [if_neg (by simpa using hx)];exact one_eq xs h2
theorem filt_two(P R:Lk->Bool):∀K:List Lk,(∀y∈K,P y=true\/R y=true)->K.length<=(K.filter P).length+(K.filter R).length
 |[],_=>by simp
 |x::xs,h=>by
  have M:=filt_two P R xs λy Z=>h y (List.mem_cons_of_mem _ Z)
  have hx:=h x List.mem_cons_self
  simp only [List.filter_cons,List.length_cons]
  cases hP:P x<;>cases hR:R x<;>simp_all<;>omega
theorem filt_len{P:Lk->Bool}{K:List Lk}(h:K.Sublist xs):(K.filter P).length<=(xs.filter P).length:=(h.filter P).length_le
theorem last_len{nw:Int}(ha:xs.Pairwise Lk.lt)(hm:0<=mo):((xs.filter (inW 3 wd mo nw xs)).length:Int)<=mo:=by
 generalize hK:xs.filter (inW 3 wd mo nw xs)=K
 have Z:K.Sublist xs:=by rw [←hK];exact List.filter_sublist
 have M:=ha.sublist Z
 by_cases h0:K=[]
 ·rw [h0];simpa using hm
 obtain ⟨z,hz,hl⟩:=last_of K h0 M
 have h1:=filt_two (λy=>decide<|Lk.late y z) (λy=>decide<|y=z) K λy hy=>by
  rcases hl y hy with h|h
  ·exact .inr<|decide_eq_true h
  exact .inl<|decide_eq_true h
 have h2:=one_eq (z:=z) K M
 have h3:=filt_len (P:=λy=>decide<|Lk.late y z) Z
 have h4:inW 3 wd mo nw xs z=true:=by rw [←hK] at hz;exact (List.mem_filter.1 hz).2
 unfold inW at h4
 rw [if_neg dc,if_pos rfl] at h4
 have h5:=of_decide_eq_true h4
 unfold rankL at h5
 omega
structure CntB (nd mo:Int) (es:List Ev) (k:Nat) (s:List Lk×List Ev):Prop where
 inv:SlI nd 3 0 (lastT es k) s.1
 st:s.1=s.2.foldl ep []
 fit:∀e∈s.2,FitOk nd e
 len:(s.1.length:Int)<=mo
 sum:s.1.length+s.2.length<=2*k
theorem evStep3(s:List Lk×List Ev)(e:Ev):evStep 3 wd mo s e=((ep s.1 e).filter (inW 3 wd mo e.tm (ep s.1 e)),s.2++[e]++goneL 3 wd mo e.tm (ep s.1 e)):=rfl
theorem CntB.all(h:StOk nd es)(hm:0<=mo):∀k,k<=es.length->CntB nd mo es k (slideS 3 0 mo (es.take k))
 |0,_=>⟨SlI.nil h.nodes,rfl,λe he=>(by cases he),hm,Nat.le_refl _⟩
 |k+1,hk=>by
  have M:=CntB.all h hm k om
  have Z:=h.fit k om
  have aa:=h.asc k om
  rw [slideS_succ om,evStep3]
  generalize slideS 3 0 mo (es.take k)=s at M ⊢
  generalize hee:e_ es k=e at Z aa ⊢
  have hlt:lastT es (k+1)=e.tm:=by rw [lastT_succ,hee]
  have hI:=(M.inv.later aa<|λh=>absurd h dc).step Z rfl (λh=>absurd h dc)
  have ad:=gone_len 3 0 mo e.tm (ep s.1 e)
  have ae:=stepL_len s.1 e
  have ab:=M.sum
  refine ⟨by rw [hlt];exact hI.filter _,?_,λx hx=>?_,last_len (checkS_ok hI.val).2.2 hm,?_⟩
  ·simp only;rw [List.foldl_append,List.foldl_append,←M.st,←gone_steps hI.val];rfl
  ·rcases List.mem_append.1 hx with hx|hx
   ·rcases List.mem_append.1 hx with hx|hx
    ·exact M.fit x hx
    rw [List.mem_singleton.1 hx];exact Z
   exact gone_fit hI.val Z.tm x hx
  simp only [List.length_append,List.length_cons,List.length_nil];omega
theorem same_of(H:∀k:Nat,k<es.length->evStep kd wd mo ((es.take k).foldl ep [],es.take k) (e_ es k)=(ep ((es.take k).foldl ep []) (e_ es k),es.take k++[e_ es k])) :
  ∀k,k<=es.length->slideS kd wd mo (es.take k)=((es.take k).foldl ep [],es.take k)
 |0,_=>rfl
 |k+1,hk=>by
  have Z:k<es.length:=by omega
  rw [slideS_succ Z,same_of H k om,H k Z,steps_succ Z,Cj es k Z]
theorem slide_same(H:∀k:Nat,k<es.length->evStep kd wd mo ((es.take k).foldl ep [],es.take k) (e_ es k)=(ep ((es.take k).foldl ep []) (e_ es k),es.take k++[e_ es k])):(slideS kd wd mo es).2=es:=by
 have:=same_of H es.length (Nat.le_refl _)
 rw [List.take_length] at this
 rw [this]
theorem all_same(wd mo:Int)(es:List Ev):(slideS 1 wd mo es).2=es:=slide_same λk Z=>rfl
end Go.Sl
namespace Go.Sl
variable {α:Type}[Inhabited α]
def insG(l:List α)(j:Nat)(x:α):List α:=l.take j++x::l.drop j
def placeG(cf:α->α->Int)(l:List α)(x:α):Nat->Nat
 |0=>0
 |j+1=>if cf x (e_ l j)<0 then placeG cf l x j else j+1
def insertG(cf:α->α->Int)(l:List α)(x:α):List α:=insG l (placeG cf l x l.length) x
theorem insAt_permG(l:List α)(j:Nat)(x:α):(insG l j x).Perm (x::l):=by
 have:=List.perm_middle (a:=x) (l₁:=l.take j) (l₂:=l.drop j)
 rw [List.take_append_drop] at this;exact this
end Go.Sl
namespace Go.Sl
def evC(a b:Ev):Int:=if a.tm<b.tm then -1 else if b.tm<a.tm then 1 else 0
def edgesK(xs:List Lk):List Pt:=xs.map λl=>⟨l.u,l.v⟩
theorem evC_neg{a b:Ev}:evC a b<0↔a.tm<b.tm:=by unfold evC;repeat (first|omega|split)
end Go.Sl
namespace Go.Sl
open Go.Proofs
set_option maxRecDepth 4000
variable{kd mo nd wd:Int}{xs:List Lk}
theorem UntilP.none(h:¬untilC nd xs kd wd mo):UntilP nd xs kd wd mo 0:=⟨λZ=>absurd Z h,λ_=>rfl⟩
theorem checkS_tm'(h:checkS nd xs=0):∀x∈xs,0<=x.tm/\x.tm<=1048576:=λx Z=>badL_tm ((checkS_ok h).2.1 x Z)
theorem uErr_zero(M:¬checkW kd wd mo≠0)(Z:¬checkS nd xs≠0):uErr nd xs kd wd mo=0:=by unfold uErr;rw [if_neg M];exact Classical.not_not.1 Z
end Go.Sl
namespace Go.Sl
structure HistOk (nd kd wd mo:Int) (es:List Ev):Prop where
 st:StOk nd es
 win:checkW kd wd mo=0
theorem checkW_cases{kd wd mo:Int}(h:checkW kd wd mo=0):(kd=1/\wd=0/\mo=0)\/(kd=2/\(1<=wd/\wd<=1048576)/\mo=0)\/(kd=3/\wd=0/\0<=mo/\mo<=2016):=by
 unfold checkW at h
 split at h
 ·cases h
 split at h
 ·cases h
 omega
section
variable {nd kd wd mo:Int}{es:List Ev}
theorem HistOk.len2(h:HistOk nd kd wd mo es):(slideS kd wd mo es).2.length<=2*es.length:=by
 have Z:es.take es.length=es:=List.take_length
 rcases checkW_cases h.win with ⟨rfl,rfl,rfl⟩|⟨rfl,M,rfl⟩|⟨rfl,rfl,hm⟩
 ·rw [all_same];omega
 ·have:=(BehB.all (mo:=0) h.st M.1 es.length<|Nat.le_refl _).sum
  rw [Z] at this;omega
 have:=(CntB.all h.st hm.1 es.length<|Nat.le_refl _).sum
 rw [Z] at this;omega
theorem edgesK_ok{X:List Lk}(h:checkS nd X=0):GrOk nd (edgesK X):=by
 have M:=checkS_iff.1 h
 refine ⟨M.1,?_,λe he=>?_⟩
 ·show (edgesK X).Pairwise Pt.lt
  unfold edgesK
  exact List.Pairwise.map _ (λa b Z=>Z) M.2.2
 obtain ⟨l,hl,rfl⟩:=List.mem_map.1 he
 exact val_uv h l hl
theorem edgesK_len(X:List Lk):(edgesK X).length=X.length:=List.length_map ..
end
end Go.Sl
namespace Go.Sl
open Go.Proofs
set_option maxRecDepth 4000
variable{a va:Option Addr}{Z b c i:Nat}{xs ys:List Lk}{kd mo wd:Int}{out zs:List Ev}
variable {κ:Ctx}{I:List Item}
theorem NodeE_ok(n:Int):eu prog κ 137 [e7 n] I (λr J=>r = .bool (decide (0<=n/\n<64))/\I=J):=by
 refine Ce1 Tryz.func137 C C ?_
 refine Ad<|Ga C<|Ac<|Ad<|Gm C<|Gr (Cv C C)<|Gm C<|Bh (d:=5) C (λZ=>?_)<|λZ=>?_
 ·exact e9 (Ai C)<|e9 (A9 C C)<|Gr (Av C C)<|Ga C<|Ac<|Az<|A1 C C I Ax ⟨(by first|exact congrArg Value.bool (decide_eq_decide.2<|by skip;omega)|exact congrArg Value.bool (decide_eq_true<|by skip;omega).symm|exact congrArg Value.bool (decide_eq_false<|by skip;omega).symm),rfl⟩
 exact eb<|eb<|Gr (Au C C)<|Ga C<|Ac<|Az<|A1 C C I Ax ⟨(by first|exact congrArg Value.bool (decide_eq_decide.2<|by skip;omega)|exact congrArg Value.bool (decide_eq_true<|by skip;omega).symm|exact congrArg Value.bool (decide_eq_false<|by skip;omega).symm),rfl⟩
theorem EndsE_ok(e:Ev):eu prog κ 91 [.agg (ez e).toArray] I (λr J=>r = .bool (decide (endsE e))/\I=J):=by
 refine Ce1 Tryz.func91 C C ?_
 refine Ad<|Ge1 (Bd (cs:=[_,_,_,_,_,_,_]) C C C) λb1=>Ga C<|Ac<|Ar<|Ad<|Gf fld54_0 C<|Gl ef ?_
 refine Gr (Br C C)<|Ac<|A7 C (λc5=>?_)<|λc5=>?_
 ·refine Ad (Gf fld54_2 C<|Gl ef ?_)
  refine Gc0 (Aj c_ C C<|NodeE_ok e.u) ?_
  refine Gm C<|Bh (d:=9) C (λg9=>?_)<|λg9=>?_
  ·refine e9 (Ab fld54_3 C) (e9 (A0 ef) ?_)
   exact e9 (Br C C)<|Gr (Av C C)<|Ga C<|Ac<|Ap (S1 2)<|Az<|Ao<|A1 C C I Ax ⟨(by first|exact congrArg Value.bool (decide_eq_decide.2<|by unfold endsE;omega)|exact congrArg Value.bool (decide_eq_true<|by unfold endsE;omega).symm|exact congrArg Value.bool (decide_eq_false<|by unfold endsE;omega).symm),rfl⟩
  exact eb<|eb<|eb<|Gr (Au C C)<|Ga C<|Ac<|Ap (S1 2)<|Az<|Ao<|A1 C C I Ax ⟨(by first|exact congrArg Value.bool (decide_eq_decide.2<|by unfold endsE;omega)|exact congrArg Value.bool (decide_eq_true<|by unfold endsE;omega).symm|exact congrArg Value.bool (decide_eq_false<|by unfold endsE;omega).symm),rfl⟩
 refine Aw<|Ah<|Ad<|Gf fld54_2 C<|Gl ef ?_
 refine Gc0 (Aj c_ C C<|NodeE_ok e.u) ?_
 refine Gm C<|Bh (d:=17) C (λZ=>?_)<|λZ=>?_
 ·refine e9 (Ab fld54_3 C) (e9 (A0 ef) ?_)
  refine Dx (Cq C C C) (Aj c_ C C<|NodeE_ok e.v) ?_
  rintro _ _ ⟨_,_,⟨rfl,rfl⟩,rfl,rfl⟩
  refine Gr (Av C C)<|Gm C<|Bh (d:=22) C (λM=>?_)<|λM=>?_
  ·refine e9 (Ab fld54_2 C) (e9 (A0 ef) ?_)
   refine e9 (Ab fld54_3 C)<|e9 (A0 ef) ?_
   exact e9 (Be C C)<|Gr (Av C C)<|Ga C<|Ac<|Ap (S1 2)<|Az<|A1 C C I Ax ⟨(by first|exact congrArg Value.bool (decide_eq_decide.2<|by unfold endsE;omega)|exact congrArg Value.bool (decide_eq_true<|by unfold endsE;omega).symm|exact congrArg Value.bool (decide_eq_false<|by unfold endsE;omega).symm),rfl⟩
  exact eb<|eb<|eb<|eb<|eb<|Gr (Au C C)<|Ga C<|Ac<|Ap (S1 2)<|Az<|A1 C C I Ax ⟨(by first|exact congrArg Value.bool (decide_eq_decide.2<|by unfold endsE;omega)|exact congrArg Value.bool (decide_eq_true<|by unfold endsE;omega).symm|exact congrArg Value.bool (decide_eq_false<|by unfold endsE;omega).symm),rfl⟩
 exact eb<|eb<|eb<|Gr (Au C C)<|Gm C<|eb<|eb<|eb<|eb<|eb<|Gr (Au C C)<|Ga C<|Ac<|Ap (S1 2)<|Az<|A1 C C I Ax ⟨(by first|exact congrArg Value.bool (decide_eq_decide.2<|by unfold endsE;omega)|exact congrArg Value.bool (decide_eq_true<|by unfold endsE;omega).symm|exact congrArg Value.bool (decide_eq_false<|by unfold endsE;omega).symm),rfl⟩
theorem CheckE_ok(e:Ev):eu prog κ 45 [.agg (ez e).toArray] I (λr J=>r=e7 (checkE e)/\I=J):=by
 refine Ce1 Tryz.func45 C C ?_
 refine Ad<|Ge1 (Bd (cs:=[_,_,_,_,_,_,_]) C C C) λb1=>Ga C<|Ac<|Ar<|A5<|Ad<|Gf fld54_0 C<|Gl ef ?_
 refine Gr (A9 C C)<|Gm C<|Bh (d:=7) C (λg7=>?_)<|λg7=>?_
 ·exact eb<|eb<|eb<|Gr (Av C C)<|Ga C<|Ac<|Cu C<|Ad<|Ga C<|Ac<|Ap (S1 2)<|Az<|Ba<|Ao<|A1 C C I Ax ⟨by rw [show checkE e=8 from checkE_eight om],rfl⟩
 refine e9 (Ab fld54_0 C)<|e9 (A0 ef) ?_
 refine e9 (B2 C C)<|Gr (Au C C)<|Ga C<|Ac<|A7 C (λc3=>?_)<|λc3=>?_
 ·exact Ad<|Ga C<|Ac<|Ap (S1 2)<|Az<|Ba<|Ao<|A1 C C I Ax ⟨by rw [show checkE e=8 from checkE_eight om],rfl⟩
 refine Ad<|Gf fld54_1 C<|Gl ef ?_
 refine Gr (A9 C C)<|Gm C<|Bh (d:=16) C (λai=>?_)<|λai=>?_
 ·exact eb<|eb<|eb<|Gr (Av C C)<|Ga C<|Ac<|Ap (S2 12 1)<|Cu C<|Ad<|Ga C<|Ac<|Az<|Ba<|Ao<|A1 C C I Ax ⟨by rw [show checkE e=9 from checkE_nine om om],rfl⟩
 refine e9 (Ab fld54_1 C)<|e9 (A0 ef) ?_
 refine e9 (B2 C C)<|Gr (Au C C)<|Ga C<|Ac<|Ap (S2 12 1)<|A7 C (λc12=>?_)<|λc12=>?_
 ·exact Ad<|Ga C<|Ac<|Az<|Ba<|Ao<|A1 C C I Ax ⟨by rw [show checkE e=9 from checkE_nine om om],rfl⟩
 refine Ad<|Gl7 ty54 ?_
 refine Gc0 (Aj c_ C C<|EndsE_ok e) ?_
 refine Gr (Dc C)<|Ga C<|Ac<|A7 C (λae=>?_)<|λae=>?_
 ·exact Ad<|Ga C<|Ac<|Az<|Ba<|Ao<|A1 C C I Ax ⟨by rw [show checkE e=6 from checkE_six om om (by first|assumption|(unfold endsE;omega))],rfl⟩
 refine Ad<|Gf fld54_0 C<|Gl ef ?_
 refine Gr (Br C C)<|Gm C<|Bh (d:=29) C (λad=>?_)<|λad=>?_
 ·refine e9 (Ab fld54_4 C) (e9 (A0 ef) ?_)
  refine e9 (Ab fld54_5 C)<|e9 (A0 ef) ?_
  refine e9 (Ab fld54_6 C)<|e9 (A0 ef) ?_
  refine Dx (Cq C C C) (Aj c_ C C<|RightW_ok e.w e.lb e.sg) ?_
  rintro _ _ ⟨_,_,⟨rfl,rfl⟩,rfl,rfl⟩
  refine e9 (Dc C)<|Gr (Av C C)<|Ga C<|Ac<|Ap (S2 25 1)<|A7 C (λah=>?_)<|λah=>?_
  ·exact Ad<|Ga C<|Ac<|Az<|Ba<|Ao<|A1 C C I Ax ⟨by rw [show checkE e=1 from checkE_one om om (by first|assumption|exact Classical.not_not.1 asm|(unfold endsE;omega)) (by first|(exact .inr om)|exact .inl ⟨by omega,by assumption⟩|exact .inl ⟨by omega,λh=>by simp_all⟩)],rfl⟩
  refine Ad<|Gf fld54_0 C<|Gl ef ?_
  refine Gr (Be C C)<|Gm C<|Bh (d:=43) C (λaa=>?_)<|λaa=>?_
  ·refine e9 (Ab fld54_4 C) (e9 (A0 ef) ?_)
   refine e9 (Be C C)<|e9 (Ai C)<|Bh (d:=47) C (λab=>?_)<|λab=>?_
   ·exact eb<|eb<|eb<|e9 (Av C C)<|e9 (Ai C)<|eb<|eb<|eb<|e9 (Av C C)<|Gr (Av C C)<|Ga C<|Ac<|Ap (S1 39)<|Cu C<|Ad<|Ga C<|Ac<|Az<|Ba<|Ao<|A1 C C I Ax ⟨by rw [show checkE e=1 from checkE_one om om (by first|assumption|exact Classical.not_not.1 asm|(unfold endsE;omega)) (by first|(exact .inr om)|exact .inl ⟨by omega,by assumption⟩|exact .inl ⟨by omega,λh=>by simp_all⟩)],rfl⟩
   refine e9 (Ab fld54_5 C)<|e9 (A0 ef) ?_
   refine e9 (Be C C)<|e9 (Au C C)<|e9 (Ai C)<|Bh (d:=52) C (λZ=>?_)<|λZ=>?_
   ·exact eb<|eb<|eb<|e9 (Av C C)<|Gr (Av C C)<|Ga C<|Ac<|Ap (S1 39)<|Cu C<|Ad<|Ga C<|Ac<|Az<|Ba<|Ao<|A1 C C I Ax ⟨by rw [show checkE e=1 from checkE_one om om (by first|assumption|exact Classical.not_not.1 asm|(unfold endsE;omega)) (by first|(exact .inr om)|exact .inl ⟨by omega,by assumption⟩|exact .inl ⟨by omega,λh=>by simp_all⟩)],rfl⟩
   refine e9 (Ab fld54_6 C)<|e9 (A0 ef) ?_
   refine e9 (Be C C)<|e9 (Au C C)<|Gr (Av C C)<|Ga C<|Ac<|Ap (S1 39)<|A7 C (λM=>?_)<|λM=>?_
   ·exact Ad<|Ga C<|Ac<|Az<|Ba<|Ao<|A1 C C I Ax ⟨by rw [show checkE e=1 from checkE_one om om (by first|assumption|exact Classical.not_not.1 asm|(unfold endsE;omega)) (by first|(exact .inr om)|exact .inl ⟨by omega,by assumption⟩|exact .inl ⟨by omega,λh=>by simp_all⟩)],rfl⟩
   exact Aw<|Am<|Ah<|Ad<|Ga C<|Ac<|Az<|A1 C C I Ax ⟨by rw [show checkE e=0 from checkE_zero om om (by first|assumption|exact Classical.not_not.1 asm|(unfold endsE;omega)) (λh=>by first|(exfalso;omega)|assumption|exact Classical.not_not.1 asm) (λh=>by omega)],rfl⟩
  exact eb<|eb<|eb<|eb<|ee<|ee<|ee<|eb<|eb<|ee<|ee<|ee<|eb<|Gr (Au C C)<|Ga C<|Ac<|Ap (S1 39)<|Dg C<|Aw<|Am<|Ah<|Ad<|Ga C<|Ac<|Az<|A1 C C I Ax ⟨by rw [show checkE e=0 from checkE_zero om om (by first|assumption|exact Classical.not_not.1 asm|(unfold endsE;omega)) (λh=>by first|(exfalso;omega)|assumption|exact Classical.not_not.1 asm) (λh=>by omega)],rfl⟩
 refine eb<|eb<|eb<|eb<|eb<|eb<|eb<|eb<|Gr (Au C C)<|Ga C<|Ac<|Ap (S2 25 1)<|Dg C<|Ad<|Gf fld54_0 C<|Gl ef ?_
 refine Gr (Be C C)<|Gm C<|Bh (d:=43) C (λaa=>?_)<|λaa=>?_
 ·refine e9 (Ab fld54_4 C) (e9 (A0 ef) ?_)
  refine e9 (Be C C)<|e9 (Ai C)<|Bh (d:=47) C (λab=>?_)<|λab=>?_
  ·exact eb<|eb<|eb<|e9 (Av C C)<|e9 (Ai C)<|eb<|eb<|eb<|e9 (Av C C)<|Gr (Av C C)<|Ga C<|Ac<|Ap (S1 39)<|Cu C<|Ad<|Ga C<|Ac<|Az<|Ba<|Ao<|A1 C C I Ax ⟨by rw [show checkE e=1 from checkE_one om om (by first|assumption|exact Classical.not_not.1 asm|(unfold endsE;omega)) (by first|(exact .inr om)|exact .inl ⟨by omega,by assumption⟩|exact .inl ⟨by omega,λh=>by simp_all⟩)],rfl⟩
  refine e9 (Ab fld54_5 C)<|e9 (A0 ef) ?_
  refine e9 (Be C C)<|e9 (Au C C)<|e9 (Ai C)<|Bh (d:=52) C (λZ=>?_)<|λZ=>?_
  ·exact eb<|eb<|eb<|e9 (Av C C)<|Gr (Av C C)<|Ga C<|Ac<|Ap (S1 39)<|Cu C<|Ad<|Ga C<|Ac<|Az<|Ba<|Ao<|A1 C C I Ax ⟨by rw [show checkE e=1 from checkE_one om om (by first|assumption|exact Classical.not_not.1 asm|(unfold endsE;omega)) (by first|(exact .inr om)|exact .inl ⟨by omega,by assumption⟩|exact .inl ⟨by omega,λh=>by simp_all⟩)],rfl⟩
  refine e9 (Ab fld54_6 C)<|e9 (A0 ef) ?_
  refine e9 (Be C C)<|e9 (Au C C)<|Gr (Av C C)<|Ga C<|Ac<|Ap (S1 39)<|A7 C (λM=>?_)<|λM=>?_
  ·exact Ad<|Ga C<|Ac<|Az<|Ba<|Ao<|A1 C C I Ax ⟨by rw [show checkE e=1 from checkE_one om om (by first|assumption|exact Classical.not_not.1 asm|(unfold endsE;omega)) (by first|(exact .inr om)|exact .inl ⟨by omega,by assumption⟩|exact .inl ⟨by omega,λh=>by simp_all⟩)],rfl⟩
  exact Aw<|Am<|Ah<|Ad<|Ga C<|Ac<|Az<|A1 C C I Ax ⟨by rw [show checkE e=0 from checkE_zero om om (by first|assumption|exact Classical.not_not.1 asm|(unfold endsE;omega)) (λh=>by first|(exfalso;omega)|assumption|exact Classical.not_not.1 asm) (λh=>by omega)],rfl⟩
 exact eb<|eb<|eb<|eb<|ee<|ee<|ee<|eb<|eb<|ee<|ee<|ee<|eb<|Gr (Au C C)<|Ga C<|Ac<|Ap (S1 39)<|Dg C<|Aw<|Am<|Ah<|Ad<|Ga C<|Ac<|Az<|A1 C C I Ax ⟨by rw [show checkE e=0 from checkE_zero om om (by first|assumption|exact Classical.not_not.1 asm|(unfold endsE;omega)) (λh=>by first|(exfalso;omega)|assumption|exact Classical.not_not.1 asm) (λh=>by omega)],rfl⟩
theorem CheckE4_ok(e:Ev):eu prog κ 70 [.agg (ez e).toArray] I (λr J=>r=e7 (checkE e)/\I=J):=by
 refine Ce1 Tryz.func70 C C ?_
 refine Ad<|Ge1 (Bd (cs:=[_,_,_,_,_,_,_]) C C C) λb1=>Ga C<|Ac<|Ar<|Ad<|Gf fld54_0 C<|Gl ef ?_
 refine Gc0 (Aj c_ C C<|From4_ok e.kd 1 3) ?_
 refine Gr (Dc C)<|Ac<|A7 C (λc6=>?_)<|λc6=>?_
 ·exact Ad<|Ga C<|Ac<|Az<|Ao<|A1 C C I Ax ⟨by rw [show checkE e=8 from checkE_eight om],rfl⟩
 refine Aw<|Ah<|Ar<|Ad<|Gf fld54_1 C<|Gl ef ?_
 refine Gc0 (Aj c_ C C<|From4_ok e.tm 0 1048576) ?_
 refine Gr (Dc C)<|Ac<|A7 C (λc10=>?_)<|λc10=>?_
 ·exact Ad<|Ga C<|Ac<|Az<|Ao<|A1 C C I Ax ⟨by rw [show checkE e=9 from checkE_nine om om],rfl⟩
 refine Aw<|Ah<|Ar<|Ad<|Gf fld54_2 C<|Gl ef ?_
 refine Gc0 (Aj c_ C C<|From4_ok e.u 0 63) ?_
 refine Gr (Dc C)<|Gm C<|Bh (d:=15) C (λaj=>?_)<|λaj=>?_
 ·exact eb<|eb<|eb<|eb<|ee<|ee<|ee<|eb<|Gr (Av C C)<|Gm C<|eb<|eb<|eb<|eb<|ee<|ee<|ee<|ee<|ee<|ee<|ee<|ee<|ee<|ee<|ee<|eb<|Gr (Av C C)<|Ac<|Ap (S2 42 1)<|Cu C<|Ad<|Ga C<|Ac<|Az<|Ao<|A1 C C I Ax ⟨by rw [show checkE e=6 from checkE_six om om (by first|assumption|(unfold endsE;omega))],rfl⟩
 refine e9 (Ab fld54_0 C)<|e9 (A0 ef) ?_
 refine e9 (Br C C)<|e9 (Ai C)<|Bh (d:=19) C (λak=>?_)<|λak=>?_
 ·refine e9 (Ab fld54_3 C) (e9 (A0 ef) ?_)
  refine e9 (Be C C)<|e9 (Av C C)<|Gr (Au C C)<|Gm C<|Bh (d:=25) C (λai=>?_)<|λai=>?_
  ·exact eb<|eb<|eb<|eb<|ee<|ee<|ee<|ee<|ee<|ee<|ee<|ee<|ee<|ee<|ee<|eb<|Gr (Av C C)<|Ac<|Ap (S2 42 1)<|Cu C<|Ad<|Ga C<|Ac<|Az<|Ao<|A1 C C I Ax ⟨by rw [show checkE e=6 from checkE_six om om (by first|assumption|(unfold endsE;omega))],rfl⟩
  refine e9 (Ab fld54_0 C)<|e9 (A0 ef) ?_
  refine e9 (Be C C)<|e9 (Ai C)<|Bh (d:=29) C (λae=>?_)<|λae=>?_
  ·refine e9 (Ab fld54_3 C) (e9 (A0 ef) ?_)
   refine Dx (Cq C C C) (Aj c_ C C<|From4_ok e.v 0 63) ?_
   rintro _ _ ⟨_,_,⟨rfl,rfl⟩,rfl,rfl⟩
   refine e9 (Dc C)<|e9 (Ai C)<|Bh (d:=34) C (λah=>?_)<|λah=>?_
   ·exact eb<|eb<|eb<|eb<|eb<|e9 (Av C C)<|e9 (Av C C)<|Gr (Au C C)<|Ac<|Ap (S2 42 1)<|Cu C<|Ad<|Ga C<|Ac<|Az<|Ao<|A1 C C I Ax ⟨by rw [show checkE e=6 from checkE_six om om (by first|assumption|(unfold endsE;omega))],rfl⟩
   refine e9 (Ab fld54_2 C)<|e9 (A0 ef) ?_
   refine e9 (Ab fld54_3 C)<|e9 (A0 ef) ?_
   refine e9 (Br C C)<|e9 (Au C C)<|e9 (Av C C)<|Gr (Au C C)<|Ac<|Ap (S2 42 1)<|A7 C (λad=>?_)<|λad=>?_
   ·exact Ad<|Ga C<|Ac<|Az<|Ao<|A1 C C I Ax ⟨by rw [show checkE e=6 from checkE_six om om (by first|assumption|(unfold endsE;omega))],rfl⟩
   refine Aw<|Ah<|Ar<|Ad<|Gf fld54_0 C<|Gl ef ?_
   refine Gr (Br C C)<|Ac<|A7 C (λZ=>?_)<|λZ=>?_
   ·refine Ad (Gf fld54_4 C<|Gl ef ?_)
    refine Gf fld54_5 C<|Gl ef ?_
    refine Gf fld54_6 C<|Gl ef ?_
    refine Gc0 (Aj c_ C C<|Attr4_ok e.w e.lb e.sg) ?_
    exact Ga C<|Ac<|Az<|Ao<|A1 C C I Ax ⟨by rw [show checkE e=if rightW e.w e.lb e.sg then 0 else 1 from checkE_set om om (by first|assumption|exact Classical.not_not.1 asm|(unfold endsE;omega))],rfl⟩
   refine Aw<|Ah<|Ar<|Ad<|Gf fld54_4 C<|Gl ef ?_
   refine Gr (Be C C)<|Gm C<|Bh (d:=56) C (λaa=>?_)<|λaa=>?_
   ·exact eb<|eb<|eb<|Gr (Av C C)<|Gm C<|eb<|eb<|eb<|Gr (Av C C)<|Ac<|Ap (S1 65)<|Cu C<|Ad<|Ga C<|Ac<|Az<|Ao<|A1 C C I Ax ⟨by rw [show checkE e=1 from checkE_one om om (by first|assumption|exact Classical.not_not.1 asm|(unfold endsE;omega)) (by first|(exact .inr om)|exact .inl ⟨by omega,by assumption⟩|exact .inl ⟨by omega,λh=>by simp_all⟩)],rfl⟩
   refine e9 (Ab fld54_5 C)<|e9 (A0 ef) ?_
   refine e9 (Be C C)<|Gr (Au C C)<|Gm C<|Bh (d:=61) C (λab=>?_)<|λab=>?_
   ·exact eb<|eb<|eb<|Gr (Av C C)<|Ac<|Ap (S1 65)<|Cu C<|Ad<|Ga C<|Ac<|Az<|Ao<|A1 C C I Ax ⟨by rw [show checkE e=1 from checkE_one om om (by first|assumption|exact Classical.not_not.1 asm|(unfold endsE;omega)) (by first|(exact .inr om)|exact .inl ⟨by omega,by assumption⟩|exact .inl ⟨by omega,λh=>by simp_all⟩)],rfl⟩
   refine e9 (Ab fld54_6 C)<|e9 (A0 ef) ?_
   refine e9 (Be C C)<|Gr (Au C C)<|Ac<|Ap (S1 65)<|A7 C (λM=>?_)<|λM=>?_
   ·exact Ad<|Ga C<|Ac<|Az<|Ao<|A1 C C I Ax ⟨by rw [show checkE e=1 from checkE_one om om (by first|assumption|exact Classical.not_not.1 asm|(unfold endsE;omega)) (by first|(exact .inr om)|exact .inl ⟨by omega,by assumption⟩|exact .inl ⟨by omega,λh=>by simp_all⟩)],rfl⟩
   exact Aw<|Ah<|Ad<|Ga C<|Ac<|Az<|A1 C C I Ax ⟨by rw [show checkE e=0 from checkE_zero om om (by first|assumption|exact Classical.not_not.1 asm|(unfold endsE;omega)) (λh=>by first|(exfalso;omega)|assumption|exact Classical.not_not.1 asm) (λh=>by omega)],rfl⟩
  refine eb<|eb<|eb<|eb<|eb<|ee<|ee<|ee<|ee<|ee<|eb<|e9 (Au C C)<|Gr (Au C C)<|Ac<|Ap (S2 42 1)<|Dg C<|Aw<|Ah<|Ar<|Ad<|Gf fld54_0 C<|Gl ef ?_
  refine Gr (Br C C)<|Ac<|A7 C (λZ=>?_)<|λZ=>?_
  ·refine Ad (Gf fld54_4 C<|Gl ef ?_)
   refine Gf fld54_5 C<|Gl ef ?_
   refine Gf fld54_6 C<|Gl ef ?_
   refine Gc0 (Aj c_ C C<|Attr4_ok e.w e.lb e.sg) ?_
   exact Ga C<|Ac<|Az<|Ao<|A1 C C I Ax ⟨by rw [show checkE e=if rightW e.w e.lb e.sg then 0 else 1 from checkE_set om om (by first|assumption|exact Classical.not_not.1 asm|(unfold endsE;omega))],rfl⟩
  refine Aw<|Ah<|Ar<|Ad<|Gf fld54_4 C<|Gl ef ?_
  refine Gr (Be C C)<|Gm C<|Bh (d:=56) C (λaa=>?_)<|λaa=>?_
  ·exact eb<|eb<|eb<|Gr (Av C C)<|Gm C<|eb<|eb<|eb<|Gr (Av C C)<|Ac<|Ap (S1 65)<|Cu C<|Ad<|Ga C<|Ac<|Az<|Ao<|A1 C C I Ax ⟨by rw [show checkE e=1 from checkE_one om om (by first|assumption|exact Classical.not_not.1 asm|(unfold endsE;omega)) (by first|(exact .inr om)|exact .inl ⟨by omega,by assumption⟩|exact .inl ⟨by omega,λh=>by simp_all⟩)],rfl⟩
  refine e9 (Ab fld54_5 C)<|e9 (A0 ef) ?_
  refine e9 (Be C C)<|Gr (Au C C)<|Gm C<|Bh (d:=61) C (λab=>?_)<|λab=>?_
  ·exact eb<|eb<|eb<|Gr (Av C C)<|Ac<|Ap (S1 65)<|Cu C<|Ad<|Ga C<|Ac<|Az<|Ao<|A1 C C I Ax ⟨by rw [show checkE e=1 from checkE_one om om (by first|assumption|exact Classical.not_not.1 asm|(unfold endsE;omega)) (by first|(exact .inr om)|exact .inl ⟨by omega,by assumption⟩|exact .inl ⟨by omega,λh=>by simp_all⟩)],rfl⟩
  refine e9 (Ab fld54_6 C)<|e9 (A0 ef) ?_
  refine e9 (Be C C)<|Gr (Au C C)<|Ac<|Ap (S1 65)<|A7 C (λM=>?_)<|λM=>?_
  ·exact Ad<|Ga C<|Ac<|Az<|Ao<|A1 C C I Ax ⟨by rw [show checkE e=1 from checkE_one om om (by first|assumption|exact Classical.not_not.1 asm|(unfold endsE;omega)) (by first|(exact .inr om)|exact .inl ⟨by omega,by assumption⟩|exact .inl ⟨by omega,λh=>by simp_all⟩)],rfl⟩
  exact Aw<|Ah<|Ad<|Ga C<|Ac<|Az<|A1 C C I Ax ⟨by rw [show checkE e=0 from checkE_zero om om (by first|assumption|exact Classical.not_not.1 asm|(unfold endsE;omega)) (λh=>by first|(exfalso;omega)|assumption|exact Classical.not_not.1 asm) (λh=>by omega)],rfl⟩
 refine eb<|eb<|eb<|e9 (Au C C)<|Gr (Au C C)<|Gm C<|e9 (Ab fld54_0 C)<|e9 (A0 ef) ?_
 refine e9 (Be C C)<|e9 (Ai C)<|Bh (d:=29) C (λae=>?_)<|λae=>?_
 ·refine e9 (Ab fld54_3 C) (e9 (A0 ef) ?_)
  refine Dx (Cq C C C) (Aj c_ C C<|From4_ok e.v 0 63) ?_
  rintro _ _ ⟨_,_,⟨rfl,rfl⟩,rfl,rfl⟩
  refine e9 (Dc C)<|e9 (Ai C)<|Bh (d:=34) C (λah=>?_)<|λah=>?_
  ·exact eb<|eb<|eb<|eb<|eb<|e9 (Av C C)<|e9 (Av C C)<|Gr (Au C C)<|Ac<|Ap (S2 42 1)<|Cu C<|Ad<|Ga C<|Ac<|Az<|Ao<|A1 C C I Ax ⟨by rw [show checkE e=6 from checkE_six om om (by first|assumption|(unfold endsE;omega))],rfl⟩
  refine e9 (Ab fld54_2 C)<|e9 (A0 ef) ?_
  refine e9 (Ab fld54_3 C)<|e9 (A0 ef) ?_
  refine e9 (Br C C)<|e9 (Au C C)<|e9 (Av C C)<|Gr (Au C C)<|Ac<|Ap (S2 42 1)<|A7 C (λad=>?_)<|λad=>?_
  ·exact Ad<|Ga C<|Ac<|Az<|Ao<|A1 C C I Ax ⟨by rw [show checkE e=6 from checkE_six om om (by first|assumption|(unfold endsE;omega))],rfl⟩
  refine Aw<|Ah<|Ar<|Ad<|Gf fld54_0 C<|Gl ef ?_
  refine Gr (Br C C)<|Ac<|A7 C (λZ=>?_)<|λZ=>?_
  ·refine Ad (Gf fld54_4 C<|Gl ef ?_)
   refine Gf fld54_5 C<|Gl ef ?_
   refine Gf fld54_6 C<|Gl ef ?_
   refine Gc0 (Aj c_ C C<|Attr4_ok e.w e.lb e.sg) ?_
   exact Ga C<|Ac<|Az<|Ao<|A1 C C I Ax ⟨by rw [show checkE e=if rightW e.w e.lb e.sg then 0 else 1 from checkE_set om om (by first|assumption|exact Classical.not_not.1 asm|(unfold endsE;omega))],rfl⟩
  refine Aw<|Ah<|Ar<|Ad<|Gf fld54_4 C<|Gl ef ?_
  refine Gr (Be C C)<|Gm C<|Bh (d:=56) C (λaa=>?_)<|λaa=>?_
  ·exact eb<|eb<|eb<|Gr (Av C C)<|Gm C<|eb<|eb<|eb<|Gr (Av C C)<|Ac<|Ap (S1 65)<|Cu C<|Ad<|Ga C<|Ac<|Az<|Ao<|A1 C C I Ax ⟨by rw [show checkE e=1 from checkE_one om om (by first|assumption|exact Classical.not_not.1 asm|(unfold endsE;omega)) (by first|(exact .inr om)|exact .inl ⟨by omega,by assumption⟩|exact .inl ⟨by omega,λh=>by simp_all⟩)],rfl⟩
  refine e9 (Ab fld54_5 C)<|e9 (A0 ef) ?_
  refine e9 (Be C C)<|Gr (Au C C)<|Gm C<|Bh (d:=61) C (λab=>?_)<|λab=>?_
  ·exact eb<|eb<|eb<|Gr (Av C C)<|Ac<|Ap (S1 65)<|Cu C<|Ad<|Ga C<|Ac<|Az<|Ao<|A1 C C I Ax ⟨by rw [show checkE e=1 from checkE_one om om (by first|assumption|exact Classical.not_not.1 asm|(unfold endsE;omega)) (by first|(exact .inr om)|exact .inl ⟨by omega,by assumption⟩|exact .inl ⟨by omega,λh=>by simp_all⟩)],rfl⟩
  refine e9 (Ab fld54_6 C)<|e9 (A0 ef) ?_
  refine e9 (Be C C)<|Gr (Au C C)<|Ac<|Ap (S1 65)<|A7 C (λM=>?_)<|λM=>?_
  ·exact Ad<|Ga C<|Ac<|Az<|Ao<|A1 C C I Ax ⟨by rw [show checkE e=1 from checkE_one om om (by first|assumption|exact Classical.not_not.1 asm|(unfold endsE;omega)) (by first|(exact .inr om)|exact .inl ⟨by omega,by assumption⟩|exact .inl ⟨by omega,λh=>by simp_all⟩)],rfl⟩
  exact Aw<|Ah<|Ad<|Ga C<|Ac<|Az<|A1 C C I Ax ⟨by rw [show checkE e=0 from checkE_zero om om (by first|assumption|exact Classical.not_not.1 asm|(unfold endsE;omega)) (λh=>by first|(exfalso;omega)|assumption|exact Classical.not_not.1 asm) (λh=>by omega)],rfl⟩
 refine eb<|eb<|eb<|eb<|eb<|ee<|ee<|ee<|ee<|ee<|eb<|e9 (Au C C)<|Gr (Au C C)<|Ac<|Ap (S2 42 1)<|Dg C<|Aw<|Ah<|Ar<|Ad<|Gf fld54_0 C<|Gl ef ?_
 refine Gr (Br C C)<|Ac<|A7 C (λZ=>?_)<|λZ=>?_
 ·refine Ad (Gf fld54_4 C<|Gl ef ?_)
  refine Gf fld54_5 C<|Gl ef ?_
  refine Gf fld54_6 C<|Gl ef ?_
  refine Gc0 (Aj c_ C C<|Attr4_ok e.w e.lb e.sg) ?_
  exact Ga C<|Ac<|Az<|Ao<|A1 C C I Ax ⟨by rw [show checkE e=if rightW e.w e.lb e.sg then 0 else 1 from checkE_set om om (by first|assumption|exact Classical.not_not.1 asm|(unfold endsE;omega))],rfl⟩
 refine Aw<|Ah<|Ar<|Ad<|Gf fld54_4 C<|Gl ef ?_
 refine Gr (Be C C)<|Gm C<|Bh (d:=56) C (λaa=>?_)<|λaa=>?_
 ·exact eb<|eb<|eb<|Gr (Av C C)<|Gm C<|eb<|eb<|eb<|Gr (Av C C)<|Ac<|Ap (S1 65)<|Cu C<|Ad<|Ga C<|Ac<|Az<|Ao<|A1 C C I Ax ⟨by rw [show checkE e=1 from checkE_one om om (by first|assumption|exact Classical.not_not.1 asm|(unfold endsE;omega)) (by first|(exact .inr om)|exact .inl ⟨by omega,by assumption⟩|exact .inl ⟨by omega,λh=>by simp_all⟩)],rfl⟩
 refine e9 (Ab fld54_5 C)<|e9 (A0 ef) ?_
 refine e9 (Be C C)<|Gr (Au C C)<|Gm C<|Bh (d:=61) C (λab=>?_)<|λab=>?_
 ·exact eb<|eb<|eb<|Gr (Av C C)<|Ac<|Ap (S1 65)<|Cu C<|Ad<|Ga C<|Ac<|Az<|Ao<|A1 C C I Ax ⟨by rw [show checkE e=1 from checkE_one om om (by first|assumption|exact Classical.not_not.1 asm|(unfold endsE;omega)) (by first|(exact .inr om)|exact .inl ⟨by omega,by assumption⟩|exact .inl ⟨by omega,λh=>by simp_all⟩)],rfl⟩
 refine e9 (Ab fld54_6 C)<|e9 (A0 ef) ?_
 refine e9 (Be C C)<|Gr (Au C C)<|Ac<|Ap (S1 65)<|A7 C (λM=>?_)<|λM=>?_
 ·exact Ad<|Ga C<|Ac<|Az<|Ao<|A1 C C I Ax ⟨by rw [show checkE e=1 from checkE_one om om (by first|assumption|exact Classical.not_not.1 asm|(unfold endsE;omega)) (by first|(exact .inr om)|exact .inl ⟨by omega,by assumption⟩|exact .inl ⟨by omega,λh=>by simp_all⟩)],rfl⟩
 exact Aw<|Ah<|Ad<|Ga C<|Ac<|Az<|A1 C C I Ax ⟨by rw [show checkE e=0 from checkE_zero om om (by first|assumption|exact Classical.not_not.1 asm|(unfold endsE;omega)) (λh=>by first|(exfalso;omega)|assumption|exact Classical.not_not.1 asm) (λh=>by omega)],rfl⟩
theorem FitsE_ok(nd:Int)(e:Ev):eu prog κ 170 [e7 nd,.agg (ez e).toArray] I (λr J=>r=e7 (fitE nd e)/\I=J):=by
 refine Ce2 Tryz.func170 C C ?_
 refine Ad<|Ge1 (Bd (cs:=[_,_,_,_,_,_,_]) C C C) λb1=>Ga C<|Ac<|Ar<|Ad<|Gl7 ty54 ?_
 refine Gc0 (Aj c_ C C<|CheckE_ok e) ?_
 refine Ga C<|Ac<|Ad<|Gm C<|Gr (Be C C)<|Ac<|A7 C (λZ=>?_)<|λZ=>?_
 ·exact Ad<|Gm C<|Ga C<|Ac<|Az<|Ao<|A1 C C I Ax ⟨by rw [show fitE nd e=checkE e from (by unfold fitE;rw [if_pos Z])],rfl⟩
 refine Aw<|Ah<|Ar<|Ad<|Gf fld54_2 C<|Gl ef ?_
 refine Gm C<|Gr (Cv C C)<|Gm C<|Bh (d:=15) C (λaa=>?_)<|λaa=>?_
 ·exact eb<|eb<|eb<|eb<|Gr (Av C C)<|Ac<|Ap (S1 20)<|Cu C<|Ad<|Ga C<|Ac<|Az<|Ao<|A1 C C I Ax ⟨by rw [show fitE nd e=6 from (by unfold fitE;rw [if_neg Z,if_pos om])],rfl⟩
 refine e9 (Ab fld54_3 C)<|e9 (A0 ef) ?_
 refine e9 (Ai C)<|e9 (Cv C C)<|Gr (Au C C)<|Ac<|Ap (S1 20)<|A7 C (λM=>?_)<|λM=>?_
 ·exact Ad<|Ga C<|Ac<|Az<|Ao<|A1 C C I Ax ⟨by rw [show fitE nd e=6 from (by unfold fitE;rw [if_neg Z,if_pos om])],rfl⟩
 exact Aw<|Ah<|Ad<|Ga C<|Ac<|Az<|A1 C C I Ax ⟨by rw [show fitE nd e=0 from (by unfold fitE;rw [if_neg Z,if_neg om])],rfl⟩
theorem Set5_ok(l:Lk)(nw:Int):eu prog κ 118 [.agg (kl l).toArray,e7 nw] I (λr J=>r = .agg #[e7 1,e7 nw,e7 l.u,e7 l.v,e7 l.w,e7 l.lb,e7 l.sg]/\I=J):=by
 refine Ce2 Tryz.func118 C C ?_
 refine Ad<|Ge1 (Bd (cs:=[_,_,_,_,_,_]) C C C) λb1=>Ge1 (A4 ty54 C) λZ=>Ac<|Ad<|Gm C<|Gf fld82_0 C<|Gl ef ?_
 refine Gf fld82_1 C<|Gl ef ?_
 refine Gf fld82_2 C<|Gl ef ?_
 refine Gf fld82_3 C<|Gl ef ?_
 refine Gf fld82_4 C<|Gl ef ?_
 refine Gr (Bq (cells:=[_,_,_,_,_,_,_]) ty54 C9 pl54 C C)<|Ge0 (E8 ty54) ?_
 exact Ac<|Ap (S1 4)<|Az<|Ez C ty54 C mm C I Ax ⟨rfl,rfl⟩
variable {κ:Ctx}{I:List Item}
theorem ov219:∀Z w,(callFunc 219 Z).run prog w=((Extern.SlicesOverlaps.overlaps #[33,33] #[4] Z).run prog w).andThen λv w'=> .ok (.value v) w':=λZ w=>run_callFunc_extern (e:=Extern.SlicesOverlaps.overlaps #[33,33] #[4]) Tryz.func219 kr kr kr kr Z w
theorem InsertL_ok(hi:i<=xs.length)(hy:0<ys.length)(aq:xs.length+ys.length<=1000000000):eu prog κ 210 [.slice a xs.length c,e7 ((i:Int)),.slice va ys.length Z] (vc 82 (.slice a xs.length c) (xs)::vc 82 (.slice va ys.length Z) (ys)::I) (λr J=>∃a' c',r = .slice a' (List.take i xs++ys++List.drop i xs).length c'/\J=vc 82 (.slice a' (List.take i xs++ys++List.drop i xs).length c') (List.take i xs++ys++List.drop i xs)::I):=by
 refine B5 (vc.cap List.mem_cons_self) λao=>?_
 have aa:(List.take i xs++ys++List.drop i xs).length=xs.length+ys.length:=by simp only [List.length_append,List.length_take,List.length_drop];omega
 refine Ce3 Tryz.func210 C C ?_
 refine Ad<|Ga C<|Ac<|Ad<|Gm C<|Gm C<|Gr (D0 (α:=Lk) (xs:=xs) (l:=i) A2 ty82 C C om Bi lat)<|Ac<|Ad<|Gm C<|Gr (Bk A2 C)<|Ga C<|Ac<|Ar<|Ad<|Gm C<|Gr (Br C C)<|Ac<|A7 C (λad=>?_)<|λad=>?_
 ·exact absurd ad om
 refine Aw<|Ah<|Ad<|Gm C<|Gr (Bk A2 C)<|Ga C<|Ac<|Ap (S5 8 7 0 1 2)<|Ar<|Ad<|Gm C<|Gm C<|Gr (Br C C)<|Ac<|A7 C (λak=>?_)<|λak=>?_
 ·refine Ad (Gm C<|Gm C<|Ge2 (B3 (α:=Lk) (e:=82) (xs:=xs) (ys:=ys) A2 ty82 C C C mm Bi om dc C<|λ_ _=>am) λab ae=>?_)
  refine Ga C<|Ac<|Az<|Ao ?_
  have hR:List.take i xs++ys++List.drop i xs=xs++ys:=by rw [List.take_of_length_le om,List.drop_eq_nil_of_le om,List.append_nil]
  exact A1 C C (vc 82 (.slice ab (List.take i xs++ys++List.drop i xs).length ae) (List.take i xs++ys++List.drop i xs)::I) (by rw [hR];exact Bl) ⟨ab,ae,by rw [hR],rfl⟩
 refine Aw<|Ah<|Ar<|Ad<|Gm C<|Gm C<|Gr (Rad C C)<|Gm C<|Gr (Runs.caps A2 C)<|Gr (B2 C C)<|Ac<|Ap (S6 31 8 7 0 1 2)<|A7 C (λaj=>?_)<|λaj=>?_
 ·refine Ad (Gm C<|Gm C<|Gr (E3 (h:=i) A2 ty82 C C om om)<|Gm C<|Gm C<|Gr (Rad C C)<|Gm C<|Gr (Rsu C C)<|Ge2 (Eff.grow (α:=Lk) (xs:=xs) (k:=xs.length+ys.length - i) A2 Ci ty82 C C C om Bi om om om om dc C) λah M=>?_)
  refine Ga C<|G.pull (p:=(List.take i xs++List.replicate (xs.length+ys.length - i) (default:Lk)).length<=M) (vc.cap mm) λan=>?_
  have ap:(List.take i xs++List.replicate (xs.length+ys.length - i) (default:Lk)).length=xs.length+ys.length:=by simp only [List.length_append,List.length_take,List.length_replicate];omega
  refine Ac<|Ap (S5 9 7 0 1 2)<|Ad<|Gm C<|Gm C<|Gr (D0 (α:=Lk) (xs:=List.take i xs++List.replicate (xs.length+ys.length - i) (default:Lk)) (l:=i) A2 ty82 C C om Bi lat)<|Gm C<|Ge0 (Fh (α:=Lk) (k:=i) (q:=ys.length) (R:=List.take i xs++ys++List.replicate (xs.length - i) (default:Lk)) (n:=(i+(xs.length+ys.length - i))) A2 ty82 C lat C Bi lat lat C (ins1 hi) lat am) ?_
  refine Ac<|Ar<|Bs mixed<|Cc I 9<|Dr 0 C (Ai C)<|Dr 1 C (Ai C)<|Dr 2 C (Ai C)<|Dr 3 C (Rad C C)<|Dr 4 C (C3 (l:=(i+ys.length)) A2 ty82 C C om om om)<|Dr 5 C (Ai C)<|Dr 6 C (Ai C)<|Dr 7 C (C3 (l:=i) A2 ty82 C C om om om)<|Ds1 8<|Se0 C (Fh (α:=Lk) (k:=(i+ys.length)) (q:=(xs.length - i)) (R:=List.take i xs++ys++List.drop i xs) (n:=(i+(xs.length+ys.length - i))) A2 ty82 C lat C (Sl.dropn (De (xs:=xs) mm) om om) lat lat C (ins2 hi) lat am) ?_
  exact Dz<|Ah<|Ap (S1 9)<|Ad<|Gm C<|Ga C<|Ac<|Az<|Ao<|A1 C C (vc 82 (.slice ah (List.take i xs++ys++List.drop i xs).length M) (List.take i xs++ys++List.drop i xs)::I) (by rw [show (List.take i xs++ys++List.drop i xs).length=i+(xs.length+ys.length - i) by omega];exact Bl) ⟨ah,M,by rw [show (List.take i xs++ys++List.drop i xs).length=i+(xs.length+ys.length - i) by omega],rfl⟩
 refine Aw<|Ah<|Ad<|Gm C<|Gm C<|Gm C<|Gr (Rad C C)<|Gr (E3 (h:=xs.length+ys.length) A2 ty82 C C om om)<|Ga C<|G.room (h:=xs.length+ys.length) (by repeat (first|exact AtF.head _ _|apply AtF.tail)) C om om<|λjs ai=>?_
 show G prog κ _ _ _ _ ([(0,.slice a (xs.length+ys.length) c),(60,.slice a (xs.length+ys.length) c),(59,e7<|((xs.length:Nat):Int)+((ys.length:Nat):Int)),(58,e7 ((ys.length:Nat):Int)),(57,e7 ((xs.length:Nat):Int)),(56,.slice a xs.length c),(31,.bool<|decide<|(c:Int)<(((xs.length:Nat):Int)+((ys.length:Nat):Int))),(8,e7 ((xs.length:Nat):Int)),(7,e7 ((ys.length:Nat):Int)),(0,.slice a xs.length c),(1,e7<|(i:Int)),(2,.slice va ys.length Z)]:Env) (vec 82 (Enc.sz Lk) (.slice a (xs.length+ys.length) c) (xs.length+ys.length) (cells xs++js)::vc 82 (.slice va ys.length Z) (ys)::I)
 refine Ac<|Ar<|Ad<|Gm C<|Gm C<|Gm C<|Gm C<|Gr (Rad C C)<|Gr (C3 (l:=(i+ys.length)) A2 ty82 C C om om om)<|Ge0 (Eff.overlaps (k:=i+ys.length) ov219 A2 ty82 C C om om om (show Fit κ _ (vc 82 (.slice va ys.length Z) ys::vec 82 (Enc.sz Lk) (.slice a (xs.length+ys.length) c) (xs.length+ys.length) (cells xs++js)::I) from Fit.sp (Sp.pick (Pick.tail _<|Pick.head _ _)<|Sp.refl _)) (Nat.mul_pos om Enc.pos) C) ?_
 refine Gr (Cn C)<|Ac<|Ap (S6 68 0 8 7 1 2)<|Cu C<|Ar<|Bs mixed<|Cc I 9<|Dr 0 C (Ai C)<|Dr 1 C (Ai C)<|Dr 2 C (Ai C)<|Dr 3 C (Rad C C)<|Dr 4 C (C3 (l:=(i+ys.length)) A2 ty82 C C om om om)<|Dr 5 C (Ai C)<|Dr 6 C (Ai C)<|Dr 7 C (C3 (l:=i) A2 ty82 C C om om om)<|Ds1 8<|Se0 C (Eff.copyR (sz:=Enc.sz Lk) (n:=xs.length+ys.length) (cs:=(cells xs++js)) (k:=(i+ys.length)) (q:=(xs.length - i)) A2 ty82 C om C (SlRd.dropR (SlRd.vec mm) om) om om (ins_one hi) C am) ?_
 show D prog κ _ _ _ _ _ _ _ ([(77,e7<|(((xs.length - i):Nat):Int)),(76,.slice (adrop a c i<|Enc.sz Lk) ((xs.length+ys.length) - i)<|c - i),(75,e7<|(i:Int)),(74,.slice a (xs.length+ys.length) c),(73,.slice (adrop a c (i+ys.length)<|Enc.sz Lk) ((xs.length+ys.length) - (i+ys.length))<|c - (i+ys.length)),(72,e7<|(i:Int)+((ys.length:Nat):Int)),(71,e7 ((ys.length:Nat):Int)),(70,e7<|(i:Int)),(69,.slice a (xs.length+ys.length) c),(68,.bool true),(0,.slice a (xs.length+ys.length) c),(8,e7 ((xs.length:Nat):Int)),(7,e7 ((ys.length:Nat):Int)),(1,e7<|(i:Int)),(2,.slice va ys.length Z)]:Env) (vec 82 (Enc.sz Lk) (.slice a (xs.length+ys.length) c) (xs.length+ys.length) (List.take ((i+ys.length)*Enc.sz Lk) (cells xs++js)++List.take ((xs.length - i)*Enc.sz Lk) (List.drop (i*Enc.sz Lk)<|cells xs++js)++List.drop ((i+ys.length)*Enc.sz Lk+(xs.length - i)*Enc.sz Lk) (cells xs++js))::vc 82 (.slice va ys.length Z) (ys)::I)
 refine Dz<|Ah<|Ap (S3 0 1 2)<|Ad<|Gm C<|Gm C<|Gr (C3 (l:=i) A2 ty82 C C om om om)<|Gm C<|Ge0 (Eff.copyR (sz:=Enc.sz Lk) (n:=xs.length+ys.length) (cs:=(List.take ((i+ys.length)*Enc.sz Lk) (cells xs++js)++List.take ((xs.length - i)*Enc.sz Lk) (List.drop (i*Enc.sz Lk)<|cells xs++js)++List.drop ((i+ys.length)*Enc.sz Lk+(xs.length - i)*Enc.sz Lk) (cells xs++js))) (k:=i) (q:=ys.length) A2 ty82 C om C (show Sl κ _ (.slice va ys.length Z) ys from (De (e:=82) (xs:=ys) mm)) om om (λu hu=>cells_one ys u<|List.mem_of_mem_take hu) C am) ?_
 show G prog κ _ _ _ _ ([(82,e7 ((ys.length:Nat):Int)),(81,.slice va ys.length Z),(80,.slice (adrop a c i<|Enc.sz Lk) ((xs.length+ys.length) - i)<|c - i),(79,e7<|(i:Int)),(78,.slice a (xs.length+ys.length) c),(0,.slice a (xs.length+ys.length) c),(1,e7<|(i:Int)),(2,.slice va ys.length Z)]:Env) (vec 82 (Enc.sz Lk) (.slice a (xs.length+ys.length) c) (xs.length+ys.length) (List.take (i*Enc.sz Lk) (List.take ((i+ys.length)*Enc.sz Lk) (cells xs++js)++List.take ((xs.length - i)*Enc.sz Lk) (List.drop (i*Enc.sz Lk)<|cells xs++js)++List.drop ((i+ys.length)*Enc.sz Lk+(xs.length - i)*Enc.sz Lk) (cells xs++js))++List.take (ys.length*Enc.sz Lk) (cells ys)++List.drop (i*Enc.sz Lk+ys.length*Enc.sz Lk) (List.take ((i+ys.length)*Enc.sz Lk) (cells xs++js)++List.take ((xs.length - i)*Enc.sz Lk) (List.drop (i*Enc.sz Lk)<|cells xs++js)++List.drop ((i+ys.length)*Enc.sz Lk+(xs.length - i)*Enc.sz Lk) (cells xs++js)))::vc 82 (.slice va ys.length Z) (ys)::I)
 refine Ac<|Ad<|Gm C<|Ga C<|Ac<|Az<|Ao ?_
 have hC:(List.take (i*Enc.sz Lk) (List.take ((i+ys.length)*Enc.sz Lk) (cells xs++js)++List.take ((xs.length - i)*Enc.sz Lk) (List.drop (i*Enc.sz Lk)<|cells xs++js)++List.drop ((i+ys.length)*Enc.sz Lk+(xs.length - i)*Enc.sz Lk) (cells xs++js))++List.take (ys.length*Enc.sz Lk) (cells ys)++List.drop (i*Enc.sz Lk+ys.length*Enc.sz Lk) (List.take ((i+ys.length)*Enc.sz Lk) (cells xs++js)++List.take ((xs.length - i)*Enc.sz Lk) (List.drop (i*Enc.sz Lk)<|cells xs++js)++List.drop ((i+ys.length)*Enc.sz Lk+(xs.length - i)*Enc.sz Lk) (cells xs++js)))=cells (List.take i xs++ys++List.drop i xs):=ins_cells hi ai
 exact A1 C C (vc 82 (.slice a (List.take i xs++ys++List.drop i xs).length c) (List.take i xs++ys++List.drop i xs)::I) (by rw [hC];show Fit κ _ (vec 82 _ (.slice a (List.take i xs++ys++List.drop i xs).length c) (List.take i xs++ys++List.drop i xs).length (cells<|List.take i xs++ys++List.drop i xs)::I);rw [aa];exact Bl) ⟨a,c,by rw [aa],rfl⟩
theorem InsertL_two{n m:Nat}{K:List Item}(hf:Fit κ I (vc 82 (.slice a n c) xs::vc 82 (.slice va m Z) ys::K))(hn:n=xs.length)(hm:m=ys.length)(hi:i<=xs.length)(hy:0<ys.length)(M:xs.length+ys.length<=1000000000):eu prog κ 210 [.slice a n c,e7 (i:Int),.slice va m Z] I (λr J=>∃a' c',r = .slice a' (List.take i xs++ys++List.drop i xs).length c'/\J=vk 82 a' c' (List.take i xs++ys++List.drop i xs)::K):=by
 subst hn hm
 exact Cp hf<|InsertL_ok hi hy M
theorem BSearchL{v:Value}(hl:Sl κ I v xs)(x:Lk){g:FuncId}{Z:List Value}{cf:Lk->Lk->Int}(M:Cmps prog κ I g Z cf)(an:xs.length<=1000000000000):eu prog κ 209 [v,.agg (kl x).toArray,.func (.func g) #[] Z.toArray] I (λr J=>∃i b,r = .tuple #[e7 ((i:Nat):Int),.bool b]/\BFound cf xs x i b/\I=J):=by
 refine B5 hl.le λaj=>?_
 refine Ce3 Tryz.func209 C C ?_
 refine Ad<|Ge1 (Bd (cs:=[_,_,_,_,_,_]) C C C) λb1=>Ga C<|Ga C<|Ac<|Ad<|Gm C<|Gr (Bw (α:=Lk) (xs:=xs) A2 C<|A8 hl)<|Ga C<|Ac<|Ad<|Gm C<|Ga C<|Ga C<|Ac<|Ar<|A5<|B1 (σ:=Nat×Nat) (λs=>([(0,v),(2,.func (.func g) #[] Z.toArray),(4,pt b1),(8,e7 ((xs.length:Nat):Int)),(9,e7 ((s.1:Nat):Int)),(10,e7 ((s.2:Nat):Int))]:Env)) (λs=>e8 b1 (kl x) 82::I) (λs=>(s.1<=s.2)/\(s.2<=xs.length)/\(0<s.1->cf (e_ xs<|(s.1:Int) - 1) x<0)/\(s.2<xs.length->¬cf (e_ xs s.2) x<0)) (λs=>s.2 - s.1) (0,xs.length) (show ((0:Nat)<=(xs.length:Nat))/\((xs.length:Nat)<=xs.length)/\(0<(0:Nat)->cf (e_ xs<|((0:Nat):Int) - 1) x<0)/\((xs.length:Nat)<xs.length->¬cf (e_ xs ((xs.length:Nat):Int)) x<0) from ⟨om,om,(λh=>absurd h dc),(λh=>absurd h om)⟩) (cx4<|Aa Cd<|Aa Cd Bp) (show Fit κ _ (e8 b1 (kl x) 82::I) from Bg) ?_
 rintro ⟨i,j⟩ hp
 dsimp only at hp ⊢
 obtain ⟨ak,hj,ae,ad⟩:=hp
 refine Ar<|Ad<|Gm C<|Gm C<|Gr (A9 C C)<|Ac<|A7 C (λah=>?_)<|λah=>?_
 ·refine Aw (Ah<|A5<|Ad<|Gm C<|Gm C<|Gr (Rad C C)<|Gr (Runs.convU Ci Eb C om)<|Gr (Runs.shr1 C C)<|Gr (Runs.convI Eb Ci C<|by unfold InR;omega)<|Ga C<|Ac<|Ap (S7 11 0 2 4 8 9 10)<|Ar<|Bs mixed<|Cc (e8 b1 (kl x) 82::I) 8<|Dr 0 C (Ai C)<|Dr 1 C (Ai C)<|Dr 2 C (Ai C)<|Dr 3 C (A3 (α:=Lk) (xs:=xs) A2 ty82 C C (A8 hl) om om)<|Dr 4 C (Bv (α:=Lk) (xs:=xs) ty82 C (A8 hl) om om)<|Dr 5 C (Bc (vs:=[_,_,_,_,_,_]) ty82) ?_)
  refine Ds1 6<|Se C (Cx M.1 (first:=[]) (caps:=Z) C C C<|M.2 (e_ xs<|((i:Int)+(j:Int)) / 2) x _ Ax) ?_
  rintro _ _ ⟨_,_,⟨rfl,rfl⟩,rfl,rfl⟩
  refine ⟨Bg,?_⟩
  refine Dr 7 C (A9 C C)<|Dz<|Ah<|Ap (S8 31 11 0 2 4 8 9 10)<|A7 C (λaa=>?_)<|λaa=>?_
  ·exact Ay<|Gm C<|Gr (Rad C C)<|Ga C<|Bj<|Am<|Cb (((i+j) / 2+1),(j))<|by dsimp only;exact ⟨om,om,(λ_=>by rw [show (((i+j) / 2+1:Nat):Int) - 1=((i:Int)+(j:Int)) / 2 by omega];exact aa),ad⟩
  exact Ay<|Gm C<|Ga C<|Bj<|Am<|Cb ((i),((i+j) / 2))<|by dsimp only;exact ⟨om,om,ae,(λ_=>by rw [show (((i+j) / 2:Nat):Int)=((i:Int)+(j:Int)) / 2 by omega];exact aa)⟩
 refine Bt<|Aq<|Aq<|Bb<|Ah<|Ar<|Bs mixed<|Cc (e8 b1 (kl x) 82::I) 16<|Dr 0 C (Ai C)<|Dr 1 C (Ai C)<|Dr 2 C (Ai C)<|Dr 3 C (A9 C C)<|Dr 4 C (Ai C)<|Dw (d:=39) C (λai=>?_)<|λai=>?_
 ·refine Dro 5 C (Ai C) (Dro 6 C (Ai C)<|Dro 7 C (Ai C)<|Dro 8 C (A3 (α:=Lk) (xs:=xs) A2 ty82 C C (A8 hl) om om)<|Dro 9 C (Bv (α:=Lk) (xs:=xs) ty82 C (A8 hl) om om)<|Dro 10 C (Bc (vs:=[_,_,_,_,_,_]) ty82) ?_)
  refine Ds1 11<|Se C (Cx M.1 (first:=[]) (caps:=Z) C C C<|M.2 (e_ xs i) x _ Ax) ?_
  rintro _ _ ⟨_,_,⟨rfl,rfl⟩,rfl,rfl⟩
  refine ⟨Bg,?_⟩
  refine Dro 12 C (Br C C)<|Dr 13 C (Av C C)<|Dr 14 C (Bf C)<|Dr 15 C (Bf C)<|Dz<|Ah<|Ap (S2 7 6)<|Az ?_
  have ab:i=j:=by omega
  subst ab
  exact C2 C C C I Ax ⟨i,_,rfl,⟨hj,ae,ad,(decide_eq_decide.2 ⟨λh=>⟨by omega,h⟩,λh=>h.2⟩)⟩,rfl⟩
 refine Dpo 5 C<|Dpo 6 C<|Dpo 7 C<|Dpo 8 C<|Dpo 9 C<|Dpo 10 C<|Dpo 11 C<|Dpo 12 C<|Dr 13 C (Au C C)<|Dr 14 C (Bf C)<|Dr 15 C (Bf C)<|Dz<|Ah<|Ap (S2 7 6)<|Az ?_
 have ab:i=j:=by omega
 subst ab
 exact C2 C C C I Ax ⟨i,_,rfl,⟨hj,ae,ad,((decide_eq_false<|λh=>by omega).symm)⟩,rfl⟩
theorem OrderL_cmps:Cmps prog κ I 144 [] Lk.cmp:=⟨c_,λx y J Z=>OrderL_ok x y⟩
variable {κ:Ctx}{I:List Item}
theorem hitE_two{e:Ev}{l:Lk}(h:e.kd=2):hitE e l=decide (l.u=(if e.v<e.u then e.v else e.u)/\l.v=(if e.u<e.v then e.v else e.u)):=by unfold hitE;rw [if_pos h];rfl
theorem hitE_oth{e:Ev}{l:Lk}(h:¬e.kd=2):hitE e l=decide (l.u=e.u\/l.v=e.u):=by unfold hitE;rw [if_neg h]
theorem Step1_ok{e:Ev}(hk:e.kd=2)(Z:BlkRd κ I b (ez e) 54)(x:Lk):eu prog κ 186 [.agg (kl x).toArray,(pt b)] I (λr J=>r = .bool (hitE e x)/\I=J):=by
 refine Ce2 Tryz.func186 C C ?_
 refine Ad<|Ge1 (Bd (cs:=[_,_,_,_,_,_]) C C C) λb1=>Ga C<|Ac<|Ad<|Gf fld82_0 C<|Gl ef ?_
 refine Gf fld54_2 C<|Gr (Ef ef C (Ep Z Ax) C)<|Gf fld54_3 C<|Gr (Ef ef C (Ep Z Ax) C)<|Gr (Es C C)<|Gr (Br C C)<|Gm C<|Bh (d:=12) C (λM=>?_)<|λM=>?_
 ·refine e9 (Ab fld82_1 C) (e9 (A0 ef) ?_)
  exact e9 (Ab fld54_2 C)<|e9 (Ef ef C (Ep Z Ax) C)<|e9 (Ab fld54_3 C)<|e9 (Ef ef C (Ep Z Ax) C)<|e9 (Dm C C)<|e9 (Br C C)<|Gr (Av C C)<|Ga C<|Ac<|Ap (S1 3)<|Az<|A1 C C I Ax ⟨by rw [hitE_two hk];exact (by first|exact congrArg Value.bool (decide_eq_decide.2<|by skip;omega)|exact congrArg Value.bool (decide_eq_true<|by skip;omega).symm|exact congrArg Value.bool (decide_eq_false<|by skip;omega).symm),rfl⟩
 exact eb<|eb<|eb<|eb<|eb<|eb<|eb<|eb<|Gr (Au C C)<|Ga C<|Ac<|Ap (S1 3)<|Az<|A1 C C I Ax ⟨by rw [hitE_two hk];exact (by first|exact congrArg Value.bool (decide_eq_decide.2<|by skip;omega)|exact congrArg Value.bool (decide_eq_true<|by skip;omega).symm|exact congrArg Value.bool (decide_eq_false<|by skip;omega).symm),rfl⟩
theorem Step1_says{e:Ev}(M:e.kd=2)(hb:BlkRd κ I b (ez e) 54):Says prog κ I 186 [(pt b)] (hitE e):=⟨c_,λx J Z=>Step1_ok M (hb.fit Z) x⟩
theorem Step2_ok{e:Ev}(Z:¬e.kd=2)(M:BlkRd κ I b (ez e) 54)(x:Lk):eu prog κ 187 [.agg (kl x).toArray,(pt b)] I (λr J=>r = .bool (hitE e x)/\I=J):=by
 refine Ce2 Tryz.func187 C C ?_
 refine Ad<|Ge1 (Bd (cs:=[_,_,_,_,_,_]) C C C) λb1=>Ga C<|Ac<|Ad<|Gf fld82_0 C<|Gl ef ?_
 refine Gf fld54_2 C<|Gr (Ef ef C (Ep M Ax) C)<|Gr (Br C C)<|Gm C<|Bh (d:=9) C (λg9=>?_)<|λg9=>?_
 ·exact eb<|eb<|eb<|eb<|eb<|Gr (Av C C)<|Ga C<|Ac<|Ap (S1 3)<|Az<|A1 C C I Ax ⟨by rw [hitE_oth Z];exact (by first|exact congrArg Value.bool (decide_eq_decide.2<|by skip;omega)|exact congrArg Value.bool (decide_eq_true<|by skip;omega).symm|exact congrArg Value.bool (decide_eq_false<|by skip;omega).symm),rfl⟩
 refine e9 (Ab fld82_1 C)<|e9 (A0 ef) ?_
 exact e9 (Ab fld54_2 C)<|e9 (Ef ef C (Ep M Ax) C)<|e9 (Br C C)<|Gr (Au C C)<|Ga C<|Ac<|Ap (S1 3)<|Az<|A1 C C I Ax ⟨by rw [hitE_oth Z];exact (by first|exact congrArg Value.bool (decide_eq_decide.2<|by skip;omega)|exact congrArg Value.bool (decide_eq_true<|by skip;omega).symm|exact congrArg Value.bool (decide_eq_false<|by skip;omega).symm),rfl⟩
theorem Step2_says{e:Ev}(M:¬e.kd=2)(hb:BlkRd κ I b (ez e) 54):Says prog κ I 187 [(pt b)] (hitE e):=⟨c_,λx J Z=>Step2_ok M (hb.fit Z) x⟩
theorem evStep_three{e:Ev}(h:agedL kd wd mo e.tm (xs,out)=(ys,zs))(Z:kd=3):evStep kd wd mo (xs,out) e=((ep ys e).filter (inW kd wd mo e.tm (ep ys e)),zs++[e]++goneL kd wd mo e.tm (ep ys e)):=by
 unfold evStep windL;rw [h,if_pos Z]
theorem evStep_not{e:Ev}(h:agedL kd wd mo e.tm (xs,out)=(ys,zs))(Z:¬kd=3):evStep kd wd mo (xs,out) e=(ep ys e,zs++[e]):=by
 unfold evStep windL;rw [h,if_neg Z]
theorem checkW_one(h:checkW kd wd mo=0)(Z:kd=2):1<=wd:=by
 unfold checkW at h
 split at h
 ·cases h
 split at h
 ·cases h
 omega
theorem slideE_st{nd:Int}{es:List Ev}(Z:¬checkW kd wd mo≠0):slideE nd kd wd mo es=streamE nd es:=by unfold slideE;rw [if_neg Z]
end Go.Sl
