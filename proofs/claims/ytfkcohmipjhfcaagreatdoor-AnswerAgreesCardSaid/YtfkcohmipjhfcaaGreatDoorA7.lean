/- A part of the proofs of statements of this seat: contracts of functions, and the plain laws that they lean on. No conditions. -/
import Derived.Test.YtfkcohmipjhfcaaGreatDoorA6
set_option linter.unusedVariables false
set_option linter.unusedSimpArgs false
set_option linter.unusedSectionVars false
/- Windows: what a stream with cuts leads to. The plain laws. No Go. No conditions. -/
namespace Go.Sl
theorem ageL_ind{wd mo T:Int}{P:List Lk→List Ev→Prop}(hs:∀xs out,(0<xs.length∧minT xs+wd≤T)→P xs out→P (xs.filter (inW 2 wd mo (minT xs+wd) xs)) (out++goneL 2 wd mo (minT xs+wd) xs)) :
  ∀(n:Nat) (xs:List Lk) (out:List Ev),xs.length≤n→P xs out→P (ageL wd mo T xs out).1 (ageL wd mo T xs out).2∧¬(0<(ageL wd mo T xs out).1.length∧minT (ageL wd mo T xs out).1+wd≤T)
 |n,xs,out,hn,hP=>by
  by_cases h:0<xs.length∧minT xs+wd≤T
  ·rw [ageL_step h]
   have hl:(xs.filter (inW 2 wd mo (minT xs+wd) xs)).length<xs.length:=age_less h.1
   cases n with
   |zero=>omega
   |succ n=>exact ageL_ind hs n _ _ om (hs xs out h hP)
  ·rw [ageL_stop h];exact ⟨hP,h⟩
theorem setL_filter{n:Lk}{P:Lk→Bool}(hn:P n=true){xs:List Lk}(ha:xs.Pairwise Lk.lt):setL n (xs.filter P)=(setL n xs).filter P:=by
 induction xs with
 |nil=>simp [setL,hn]
 |cons l ls ih=>
  obtain ⟨h1,h2⟩:=List.pairwise_cons.1 ha
  have hlt:∀{z:Lk},(z.p=n.p∨Lk.lt n z)→(∀x∈ls,Lk.lt z x)→setL n (ls.filter P)=n::ls.filter P:=fun {z} hz hx=>by
   cases hf:ls.filter P with
   |nil=>rfl
   |cons y ys=>
    have hy:Lk.lt z y:=hx y (List.mem_filter.1 (by rw [hf];exact List.mem_cons_self)).1
    unfold setL
    rw [if_pos]
    rcases hz with hz|hz
    ·unfold Lk.lt at hy ⊢; rw [←hz];exact hy
    ·exact Pt.lin.tr _ _ _ hz hy
  conv=>rhs;unfold setL
  by_cases hl:Lk.lt n l
  ·rw [if_pos hl,show (n::l::ls).filter P=n::(l::ls).filter P by rw [List.filter_cons,if_pos hn]]
   by_cases hp:P l=true
   ·rw [show (l::ls).filter P=l::ls.filter P by rw [List.filter_cons,if_pos hp]];unfold setL;rw [if_pos hl]
   ·rw [show (l::ls).filter P=ls.filter P by rw [List.filter_cons,if_neg hp]];exact hlt (.inr hl) h1
  ·rw [if_neg hl]
   by_cases he:l.p=n.p
   ·rw [if_pos he,List.filter_cons,List.filter_cons,if_pos hn]
    by_cases hp:P l=true
    ·rw [if_pos hp];unfold setL;rw [if_neg hl,if_pos he]
    ·rw [if_neg hp];exact hlt (.inl he) h1
   ·rw [if_neg he,List.filter_cons,List.filter_cons]
    by_cases hp:P l=true
    ·rw [if_pos hp,if_pos hp];conv=>lhs;unfold setL
     rw [if_neg hl,if_neg he,ih h2]
    ·rw [if_neg hp,if_neg hp];exact ih h2
theorem stepL_filter{e:Ev}{P:Lk→Bool}(hn:P (lkOf e)=true){xs:List Lk}(ha:xs.Pairwise Lk.lt):stepL (xs.filter P) e=(stepL xs e).filter P:=by
 unfold stepL
 by_cases h:e.kd=1
 ·rw [if_pos h,if_pos h];exact setL_filter hn ha
 ·rw [if_neg h,if_neg h,List.filter_filter,List.filter_filter]
  exact List.filter_congr fun x _=>Bool.and_comm _ _
theorem pw_all{α:Type}{R:α→α→Prop}(h:∀a c,R a c):∀l:List α,l.Pairwise R
 |[]=> .nil
 |x::xs=>List.pairwise_cons.2 ⟨fun y _=>h x y,pw_all h xs⟩
def aliveB(wd T:Int)(x:Lk):Bool:=decide (T - x.tm<wd)
theorem inW_alive(wd mo T:Int)(ys xs:List Lk):xs.filter (inW 2 wd mo T ys)=xs.filter (aliveB wd T):=List.filter_congr fun x _=>inW2 wd mo T ys x
theorem alive_two{wd t T:Int}(h:t≤T)(xs:List Lk):(xs.filter (aliveB wd t)).filter (aliveB wd T)=xs.filter (aliveB wd T):=by
 rw [List.filter_filter]
 refine List.filter_congr fun x _=>?_
 unfold aliveB
 by_cases h1:T - x.tm<wd
 ·rw [decide_eq_true h1,decide_eq_true (show t - x.tm<wd by omega)];rfl
 ·rw [decide_eq_false h1];rfl
structure AgB (nd wd last T:Int) (m:Nat) (all xs:List Lk) (out:List Ev):Prop where
 inv:SlI nd 2 wd last xs
 st:xs=out.foldl stepL []
 fit:∀e∈out,FitOk nd e
 asc:out.Pairwise fun a b=>a.tm≤b.tm
 le:∀e∈out,e.tm≤T
 bef:∀e∈out,∀x∈xs,e.tm≤x.tm+wd
 al:xs.filter (aliveB wd T)=all.filter (aliveB wd T)
 sum:xs.length+out.length≤m
theorem AgB.step{nd wd mo last T:Int}{m:Nat}{all xs:List Lk}{out:List Ev}(h:AgB nd wd last T m all xs out)(h0:0≤last)(hT:T≤1048576)(hs:0<xs.length∧minT xs+wd≤T) :
  AgB nd wd last T m all (xs.filter (inW 2 wd mo (minT xs+wd) xs)) (out++goneL 2 wd mo (minT xs+wd) xs):=by
 have hf:=h.inv.first rfl hs.1
 obtain ⟨⟨x0,hx0,e0⟩,hmin⟩:=minT_spec hs.1
 refine ⟨h.inv.filter _,?_,fun e he=>?_,List.pairwise_append.2 ⟨h.asc,?_,fun a ha c hc=>?_⟩,fun e he=>?_,fun e he x hx=>?_,?_,?_⟩
 ·rw [List.foldl_append,←h.st,gone_steps h.inv.val]
 ·rcases List.mem_append.1 he with he|he
  ·exact h.fit e he
  ·exact gone_fit h.inv.val om e he
 ·unfold goneL
  rw [List.pairwise_map]
  exact pw_all (fun a c=>Int.le_refl _) _
 ·unfold goneL at hc
  obtain ⟨z,hz,rfl⟩:=List.mem_map.1 hc
  show a.tm≤minT xs+wd
  rw [e0];exact h.bef a ha x0 hx0
 ·rcases List.mem_append.1 he with he|he
  ·exact h.le e he
  ·unfold goneL at he
   obtain ⟨z,hz,rfl⟩:=List.mem_map.1 he
   exact hs.2
 ·obtain ⟨hx1,hx2⟩:=List.mem_filter.1 hx
  rcases List.mem_append.1 he with he|he
  ·exact h.bef e he x hx1
  ·unfold goneL at he
   obtain ⟨z,hz,rfl⟩:=List.mem_map.1 he
   rw [inW2] at hx2
   have:=of_decide_eq_true hx2
   show minT xs+wd≤x.tm+wd
   omega
 ·rw [inW_alive,alive_two hs.2,h.al]
 ·have h1:=gone_len 2 wd mo (minT xs+wd) xs
  have h2:=h.sum
  rw [List.length_append];omega
theorem AgB.aged{nd wd mo last T:Int}{m:Nat}{all xs:List Lk}{out:List Ev}(h:AgB nd wd last T m all xs out)(h0:0≤last)(hl:last≤T)(hT:T≤1048576) :
  AgB nd wd T T m all (ageL wd mo T xs out).1 (ageL wd mo T xs out).2:=by
 obtain ⟨h1,h2⟩:=ageL_ind (mo:=mo) (P:=fun xs out=>AgB nd wd last T m all xs out) (fun xs out hs hP=>hP.step h0 hT hs) xs.length xs out (Nat.le_refl _) h
 exact {h1 with inv:=h1.inv.later hl fun _=>h2}
structure BehB (nd wd:Int) (es:List Ev) (k:Nat) (s:List Lk×List Ev):Prop where
 inv:SlI nd 2 wd (lastT es k) s.1
 st:s.1=s.2.foldl stepL []
 fit:∀e∈s.2,FitOk nd e
 asc:s.2.Pairwise fun a b=>a.tm≤b.tm
 le:∀e∈s.2,e.tm≤lastT es k
 al:s.1=((es.take k).foldl stepL []).filter (aliveB wd (lastT es k))
 sum:s.1.length+s.2.length≤2*k
theorem filter_alive{nd wd T:Int}{xs:List Lk}(h:SlI nd 2 wd T xs):xs.filter (aliveB wd T)=xs:=List.filter_eq_self.2 fun x hx=>by
 have:=h.al rfl x hx
 unfold aliveB
 exact decide_eq_true om
theorem steps_val{nd:Int}(h0:0≤nd∧nd≤64):∀(es:List Ev) (xs:List Lk),checkS nd xs=0→(∀e∈es,FitOk nd e)→checkS nd (es.foldl stepL xs)=0
 |[],xs,hx,_=>hx
 |e::es,xs,hx,he=>steps_val h0 es (stepL xs e) (stepL_val hx (he e List.mem_cons_self)) fun y hy=>he y (List.mem_cons_of_mem _ hy)
theorem valNil{nd:Int}(h0:0≤nd∧nd≤64):checkS nd []=0:=(SlI.nil (kd:=1) (wd:=0) (last:=0) h0).val
theorem StOk.mem{nd:Int}{es:List Ev}(h:StOk nd es):∀e∈es,FitOk nd e:=fun e he=>by
 obtain ⟨j,hj,rfl⟩:=mem_at he
 exact h.fit j hj
theorem BehB.all{nd wd mo:Int}{es:List Ev}(h:StOk nd es)(hw:1≤wd):∀k,k≤es.length→BehB nd wd es k (slideS 2 wd mo (es.take k))
 |0,_=>⟨SlI.nil h.nodes,rfl,fun e he=>(by cases he),List.Pairwise.nil,fun e he=>(by cases he),rfl,Nat.le_refl _⟩
 |k+1,hk=>by
  have ih:=BehB.all (mo:=mo) h hw k om
  have hfe:=h.fit k om
  have hto:=h.asc k om
  have h0:0≤lastT es k:=by
   cases k with
   |zero=>exact Int.le_refl _
   |succ k=>rw [lastT_succ];exact (h.fit k om).tm.1
  rw [slideS_succ om]
  generalize hs:slideS 2 wd mo (es.take k)=s at ih ⊢
  generalize hee:at_ es (k:Int)=e at hfe hto ⊢
  obtain ⟨xs,out⟩:=s
  have hA:AgB nd wd (lastT es k) e.tm (2*k) ((es.take k).foldl stepL []) xs out:=
   ⟨ih.inv,ih.st,ih.fit,ih.asc,fun e' he'=>by have:=ih.le e' he';omega,fun e' he' x hx=>by have h1:=ih.le e' he';have h2:=ih.inv.al rfl x hx;omega,by
    have:=ih.al
    simp only at this
    rw [this,alive_two hto],ih.sum⟩
  have hG:=hA.aged (mo:=mo) h0 hto hfe.tm.2
  have hev:evStep 2 wd mo (xs,out) e=(stepL (ageL wd mo e.tm xs out).1 e,(ageL wd mo e.tm xs out).2++[e]):=rfl
  rw [hev]
  generalize ageL wd mo e.tm xs out=a at hG
  have hlt:lastT es (k+1)=e.tm:=by rw [lastT_succ,hee]
  have hI:=hG.inv.step hfe rfl (fun _=>hw)
  have hall:checkS nd ((es.take k).foldl stepL [])=0:=steps_val h.nodes _ _ (valNil h.nodes) fun x hx=>h.mem x (List.mem_of_mem_take hx)
  refine ⟨by rw [hlt];exact hI,?_,fun x hx=>?_,List.pairwise_append.2 ⟨hG.asc,List.pairwise_singleton _ _,fun x hx y hy=>?_⟩,fun x hx=>?_,?_,?_⟩
  ·simp only;rw [List.foldl_append,←hG.st];rfl
  ·rcases List.mem_append.1 hx with hx|hx
   ·exact hG.fit x hx
   ·rw [List.mem_singleton.1 hx];exact hfe
  ·rw [List.mem_singleton.1 hy];exact hG.le x hx
  ·rw [hlt]
   rcases List.mem_append.1 hx with hx|hx
   ·exact hG.le x hx
   ·rw [List.mem_singleton.1 hx];exact Int.le_refl _
  ·simp only
   have hal:aliveB wd e.tm (lkOf e)=true:=by unfold aliveB;exact decide_eq_true (by show e.tm - e.tm<wd;omega)
   rw [hlt,steps_succ om,hee,←stepL_filter hal (checkS_ok hall).2.2,←hG.al,filter_alive hG.inv]
  ·have h1:=stepL_len a.1 e
   have h2:=hG.sum
   simp only [List.length_append,List.length_cons,List.length_nil];omega
theorem last_of:∀(K:List Lk),K≠[]→K.Pairwise Lk.lt→∃z∈K,∀y∈K,y=z∨Lk.late y z
 |[],h,_=>absurd rfl h
 |[x],_,_=>⟨x,List.mem_cons_self,fun y hy=> .inl (by simpa using hy)⟩
 |x::y::ys,_,hp=>by
  obtain ⟨h1,h2⟩:=List.pairwise_cons.1 hp
  obtain ⟨z,hz,hh⟩:=last_of (y::ys) (by simp) h2
  have hxz:=h1 z hz
  by_cases hl:Lk.late x z
  ·exact ⟨z,List.mem_cons_of_mem _ hz,fun w hw=>by
    rcases List.mem_cons.1 hw with rfl|hw
    ·exact .inr hl
    ·exact hh w hw⟩
  ·have hl':Lk.late z x:=by unfold Lk.late Lk.lt Pt.lt at *; omega
   refine ⟨x,List.mem_cons_self,fun w hw=>?_⟩
   rcases List.mem_cons.1 hw with rfl|hw
   ·exact .inl rfl
   ·rcases hh w hw with rfl|hwz
    ·exact .inr hl'
    ·right;unfold Lk.late Lk.lt Pt.lt at *; omega
theorem one_eq{z:Lk}:∀(K:List Lk),K.Pairwise Lk.lt→(K.filter fun y=>decide (y=z)).length≤1
 |[],_=>by simp
 |x::xs,h=>by
  obtain ⟨h1,h2⟩:=List.pairwise_cons.1 h
  rw [List.filter_cons]
  by_cases hx:x=z
  ·rw [if_pos (by simpa using hx),List.filter_eq_nil_iff.2 fun y hy=>?_]
   ·simp
   ·intro hd
    have hyz:y=z:=of_decide_eq_true hd
    have:=h1 y hy
    rw [hx,hyz] at this
    exact Pt.lin.irr _ this
  ·rw [if_neg (by simpa using hx)];exact one_eq xs h2
theorem filt_two(P R:Lk→Bool):∀K:List Lk,(∀y∈K,P y=true∨R y=true)→K.length≤(K.filter P).length+(K.filter R).length
 |[],_=>by simp
 |x::xs,h=>by
  have ih:=filt_two P R xs fun y hy=>h y (List.mem_cons_of_mem _ hy)
  have hx:=h x List.mem_cons_self
  simp only [List.filter_cons,List.length_cons]
  cases hP:P x<;>cases hR:R x<;>simp_all<;>omega
theorem filt_len{P:Lk→Bool}{K xs:List Lk}(h:K.Sublist xs):(K.filter P).length≤(xs.filter P).length:=(h.filter P).length_le
theorem last_len{wd mo nw:Int}{xs:List Lk}(ha:xs.Pairwise Lk.lt)(hm:0≤mo):((xs.filter (inW 3 wd mo nw xs)).length:Int)≤mo:=by
 generalize hK:xs.filter (inW 3 wd mo nw xs)=K
 have hsub:K.Sublist xs:=by rw [←hK];exact List.filter_sublist
 have haK:=ha.sublist hsub
 by_cases h0:K=[]
 ·rw [h0];simpa using hm
 ·obtain ⟨z,hz,hl⟩:=last_of K h0 haK
  have h1:=filt_two (fun y=>decide (Lk.late y z)) (fun y=>decide (y=z)) K fun y hy=>by
   rcases hl y hy with h|h
   ·exact .inr (decide_eq_true h)
   ·exact .inl (decide_eq_true h)
  have h2:=one_eq (z:=z) K haK
  have h3:=filt_len (P:=fun y=>decide (Lk.late y z)) hsub
  have h4:inW 3 wd mo nw xs z=true:=by rw [←hK] at hz;exact (List.mem_filter.1 hz).2
  unfold inW at h4
  rw [if_neg dc,if_pos rfl] at h4
  have h5:=of_decide_eq_true h4
  unfold rankL at h5
  omega
structure CntB (nd mo:Int) (es:List Ev) (k:Nat) (s:List Lk×List Ev):Prop where
 inv:SlI nd 3 0 (lastT es k) s.1
 st:s.1=s.2.foldl stepL []
 fit:∀e∈s.2,FitOk nd e
 len:(s.1.length:Int)≤mo
 sum:s.1.length+s.2.length≤2*k
theorem evStep3{wd mo:Int}(s:List Lk×List Ev)(e:Ev):evStep 3 wd mo s e=((stepL s.1 e).filter (inW 3 wd mo e.tm (stepL s.1 e)),s.2++[e]++goneL 3 wd mo e.tm (stepL s.1 e)):=rfl
theorem CntB.all{nd mo:Int}{es:List Ev}(h:StOk nd es)(hm:0≤mo):∀k,k≤es.length→CntB nd mo es k (slideS 3 0 mo (es.take k))
 |0,_=>⟨SlI.nil h.nodes,rfl,fun e he=>(by cases he),hm,Nat.le_refl _⟩
 |k+1,hk=>by
  have ih:=CntB.all h hm k om
  have hfe:=h.fit k om
  have hto:=h.asc k om
  rw [slideS_succ om,evStep3]
  generalize slideS 3 0 mo (es.take k)=s at ih ⊢
  generalize hee:at_ es (k:Int)=e at hfe hto ⊢
  have hlt:lastT es (k+1)=e.tm:=by rw [lastT_succ,hee]
  have hI:=(ih.inv.later hto (fun h=>absurd h dc)).step hfe rfl (fun h=>absurd h dc)
  have hgl:=gone_len 3 0 mo e.tm (stepL s.1 e)
  have hsl:=stepL_len s.1 e
  have hsum:=ih.sum
  refine ⟨by rw [hlt];exact hI.filter _,?_,fun x hx=>?_,last_len (checkS_ok hI.val).2.2 hm,?_⟩
  ·simp only;rw [List.foldl_append,List.foldl_append,←ih.st,←gone_steps hI.val];rfl
  ·rcases List.mem_append.1 hx with hx|hx
   ·rcases List.mem_append.1 hx with hx|hx
    ·exact ih.fit x hx
    ·rw [List.mem_singleton.1 hx];exact hfe
   ·exact gone_fit hI.val hfe.tm x hx
  ·simp only [List.length_append,List.length_cons,List.length_nil];omega
theorem same_of{kd wd mo:Int}{es:List Ev}(H:∀k:Nat,k<es.length→evStep kd wd mo ((es.take k).foldl stepL [],es.take k) (at_ es (k:Int))=(stepL ((es.take k).foldl stepL []) (at_ es (k:Int)),es.take k++[at_ es (k:Int)])) :
  ∀k,k≤es.length→slideS kd wd mo (es.take k)=((es.take k).foldl stepL [],es.take k)
 |0,_=>rfl
 |k+1,hk=>by
  have hk':k<es.length:=by omega
  rw [slideS_succ hk',same_of H k om,H k hk',steps_succ hk',Db es k hk']
theorem slide_same{kd wd mo:Int}{es:List Ev}(H:∀k:Nat,k<es.length→evStep kd wd mo ((es.take k).foldl stepL [],es.take k) (at_ es (k:Int))=(stepL ((es.take k).foldl stepL []) (at_ es (k:Int)),es.take k++[at_ es (k:Int)])):(slideS kd wd mo es).2=es:=by
 have:=same_of H es.length (Nat.le_refl _)
 rw [List.take_length] at this
 rw [this]
theorem all_same(wd mo:Int)(es:List Ev):(slideS 1 wd mo es).2=es:=slide_same fun k hk=>rfl
theorem StOk.up{nd:Int}{es:List Ev}(h:StOk nd es):∀k,k≤es.length→∀j,j<k→(at_ es (j:Int)).tm≤lastT es k
 |0,_,j,hj=>absurd hj (Nat.not_lt_zero _)
 |k+1,hk,j,hj=>by
  rw [lastT_succ]
  rcases Nat.lt_succ_iff_lt_or_eq.1 hj with hj|rfl
  ·exact Int.le_trans (h.up k om j hj) (h.asc k om)
  ·exact Int.le_refl _
end Go.Sl
namespace Go.Sl
variable {α:Type}[Inhabited α]
def insG(l:List α)(j:Nat)(x:α):List α:=l.take j++x::l.drop j
def placeG(cf:α→α→Int)(l:List α)(x:α):Nat→Nat
 |0=>0
 |j+1=>if cf x (at_ l (j:Int))<0 then placeG cf l x j else j+1
def insertG(cf:α→α→Int)(l:List α)(x:α):List α:=insG l (placeG cf l x l.length) x
def isortG(cf:α→α→Int)(xs:List α):List α:=xs.foldl (insertG cf) []
theorem insAt_permG(l:List α)(j:Nat)(x:α):(insG l j x).Perm (x::l):=by
 have:=List.perm_middle (a:=x) (l₁:=l.take j) (l₂:=l.drop j)
 rw [List.take_append_drop] at this;exact this
theorem foldI_permG(cf:α→α→Int):∀(xs acc:List α),(xs.foldl (insertG cf) acc).Perm (xs++acc)
 |[],acc=> .refl _
 |x::xs,acc=>by
  rw [List.foldl_cons]
  refine (foldI_permG cf xs _).trans ?_
  refine (List.Perm.append_left xs (insAt_permG acc _ x)).trans ?_
  exact List.perm_middle
theorem isort_permG(cf:α→α→Int)(xs:List α):(isortG cf xs).Perm xs:=by
 have:=foldI_permG cf xs []
 rwa [List.append_nil] at this
theorem isort_takeG(cf:α→α→Int){xs:List α}{i:Nat}(h:i<xs.length):isortG cf (xs.take (i+1))=insertG cf (isortG cf (xs.take i)) (at_ xs (i:Int)):=by
 unfold isortG;rw [take_at xs i h,List.foldl_append];rfl
theorem isort_tlenG(cf:α→α→Int){xs:List α}{i:Nat}(h:i≤xs.length):(isortG cf (xs.take i)).length=i:=by
 rw [(isort_permG cf _).length_eq,List.length_take];omega
theorem at_midG{l r:List α}{j:Nat}{x:α}(h:j≤l.length):at_ (insG l j x++r) (j:Int)=x:=by
 unfold insG
 have hl:(l.take j).length=j:=by rw [List.length_take];omega
 rw [at_nat,List.getD_eq_getElem?_getD,List.append_assoc,List.getElem?_append_right (by omega),hl,Nat.sub_self];rfl
theorem at_prevG{l r:List α}{j:Nat}{x:α}(h0:0<j)(h:j≤l.length):at_ (insG l j x++r) ((j:Int) - 1)=at_ l ((j:Int) - 1):=by
 unfold insG
 have hl:(l.take j).length=j:=by rw [List.length_take];omega
 have e:(j:Int) - 1=((j - 1:Nat):Int):=by omega
 rw [e,at_nat,at_nat,List.getD_eq_getElem?_getD,List.getD_eq_getElem?_getD,List.append_assoc,List.getElem?_append_left (by omega),List.getElem?_take,if_pos (by omega)]
theorem ins_swapG{l r:List α}{j:Nat}{x:α}(h0:0<j)(h:j≤l.length):((insG l j x++r).set j (at_ l ((j:Int) - 1))).set (j - 1) x=insG l (j - 1) x++r:=by
 obtain ⟨m,rfl⟩:∃m,j=m+1:=⟨j - 1,by omega⟩
 have e:((m+1:Nat):Int) - 1=(m:Int):=by omega
 rw [e,Nat.add_sub_cancel]
 have hm:(l.take m).length=m:=by rw [List.length_take];omega
 have e1:insG l (m+1) x++r=l.take m++(at_ l (m:Int)::x::(l.drop (m+1)++r)):=by
  unfold insG;rw [take_at l m (by omega)];simp
 have e2:insG l m x++r=l.take m++(x::at_ l (m:Int)::(l.drop (m+1)++r)):=by
  unfold insG;rw [drop_at l m (by omega)];simp
 rw [e1,e2,List.set_append_right _ _ (by omega),hm,Nat.add_sub_cancel_left,List.set_append_right _ _ (by omega),hm,Nat.sub_self];rfl
theorem ins_startG{cf:α→α→Int}{xs:List α}{i:Nat}(h:i<xs.length):isortG cf (xs.take i)++xs.drop i=insG (isortG cf (xs.take i)) i (at_ xs (i:Int))++xs.drop (i+1):=by
 have hl:=isort_tlenG cf (Nat.le_of_lt h)
 generalize isortG cf (xs.take i)=l at hl ⊢
 unfold insG
 rw [drop_at xs i h,List.take_of_length_le (show l.length≤i by omega),List.drop_eq_nil_of_le (show l.length≤i by omega)];simp
theorem ins_endsG{cf:α→α→Int}{xs:List α}{i j:Nat}(h:i<xs.length)(hp:placeG cf (isortG cf (xs.take i)) (at_ xs (i:Int)) j=placeG cf (isortG cf (xs.take i)) (at_ xs (i:Int)) i)(hj:j=0∨(0<j∧¬cf (at_ xs (i:Int)) (at_ (isortG cf (xs.take i)) ((j:Int) - 1))<0)):insG (isortG cf (xs.take i)) j (at_ xs (i:Int))++xs.drop (i+1)=isortG cf (xs.take (i+1))++xs.drop (i+1):=by
 have hl:=isort_tlenG cf (Nat.le_of_lt h)
 have hpj:placeG cf (isortG cf (xs.take i)) (at_ xs (i:Int)) j=j:=by
  rcases hj with rfl|⟨h0,hn⟩
  ·rfl
  ·obtain ⟨m,rfl⟩:∃m,j=m+1:=⟨j - 1,by omega⟩
   rw [show ((m+1:Nat):Int) - 1=(m:Int) by omega] at hn
   unfold placeG;rw [if_neg hn]
 rw [isort_takeG cf h]
 unfold insertG
 rw [hl,←hp,hpj]
theorem place_stepG{cf:α→α→Int}{l:List α}{x:α}{j:Nat}(h0:0<j)(h:cf x (at_ l ((j:Int) - 1))<0):placeG cf l x (j - 1)=placeG cf l x j:=by
 obtain ⟨m,rfl⟩:∃m,j=m+1:=⟨j - 1,by omega⟩
 rw [show ((m+1:Nat):Int) - 1=(m:Int) by omega] at h
 conv=>rhs;unfold placeG
 rw [if_pos h];rfl
end Go.Sl
/- The graphs of a history, time by time: the plain functions. No Go. No conditions. -/
namespace Go.Sl
def cutAt(wd:Int)(l:Lk):Ev:=⟨2,l.tm+wd,l.u,l.v,0,0,0⟩
def lateP(kd wd:Int)(l:Lk):Bool:=decide (kd=2∧l.tm+wd≤1048576)
def lateL(kd wd:Int)(xs:List Lk):List Ev:=(xs.filter (lateP kd wd)).map (cutAt wd)
def evC(a b:Ev):Int:=if a.tm<b.tm then -1 else if b.tm<a.tm then 1 else 0
def linksL(es:List Ev):List Lk:=es.foldl stepL []
def allE(kd wd mo:Int)(es:List Ev):List Ev:=(slideS kd wd mo es).2++isortG evC (lateL kd wd (linksL (slideS kd wd mo es).2))
def edgesK(xs:List Lk):List Pt:=xs.map fun l=>⟨l.u,l.v⟩
def atK(kd wd mo:Int)(es:List Ev)(T:Int):List Lk:=linksL ((allE kd wd mo es).takeWhile fun e=>decide (e.tm≤T))
theorem linksL_take{es:List Ev}{k:Nat}(h:k<es.length):linksL (es.take (k+1))=stepL (linksL (es.take k)) (at_ es (k:Int)):=by
 unfold linksL;rw [Db es k h,List.foldl_append];rfl
theorem lateL_take{kd wd:Int}{xs:List Lk}{k:Nat}(h:k<xs.length):lateL kd wd (xs.take (k+1))=lateL kd wd (xs.take k)++if lateP kd wd (at_ xs (k:Int))=true then [cutAt wd (at_ xs (k:Int))] else []:=by
 unfold lateL
 rw [Db xs k h,List.filter_append,List.map_append]
 congr 1
 by_cases hp:lateP kd wd (at_ xs (k:Int))=true
 ·rw [if_pos hp];simp [List.filter_cons,hp]
 ·rw [if_neg hp];simp [List.filter_cons,hp]
theorem lateL_len(kd wd:Int)(xs:List Lk):(lateL kd wd xs).length≤xs.length:=by
 unfold lateL;rw [List.length_map];exact List.length_filter_le _ _
theorem evC_neg{a b:Ev}:evC a b<0↔a.tm<b.tm:=by unfold evC;repeat (first|omega|split)
structure Moment (E:List Ev) (fst:Bool) (j:Nat) (t:Int) (own:Bool) (j':Nat):Prop where
 le:j≤j'∧j'≤E.length
 same:∀i:Nat,j≤i→i<j'→(at_ E (i:Int)).tm=t
 stop:j'<E.length→(at_ E (j':Int)).tm≠t
 own:own=decide (j<j')
 first:fst=true→t=0∧j=0
 next:fst=false→j<E.length∧t=(at_ E (j:Int)).tm
theorem takeWhile_take{α:Type}[Inhabited α]{p:α→Bool}:∀{E:List α} {j:Nat},j≤E.length→(∀i:Nat,i<j→p (at_ E (i:Int))=true)→(j<E.length→p (at_ E (j:Int))=false)→E.takeWhile p=E.take j
 |[],j,_,_,_=>by simp
 |x::E,0,_,_,h=>by
  have h1:=h (by simp)
  rw [show at_ (x::E) ((0:Nat):Int)=x from rfl] at h1
  simp [List.takeWhile_cons,h1]
 |x::E,j+1,hj,ha,h=>by
  have h0:=ha 0 om
  rw [show at_ (x::E) ((0:Nat):Int)=x from rfl] at h0
  have e:∀i:Nat,at_ (x::E) ((i+1:Nat):Int)=at_ E (i:Int):=fun i=>by rw [at_nat,at_nat];rfl
  have ih:=takeWhile_take (p:=p) (E:=E) (j:=j) (by simpa using hj) (fun i hi=>by rw [←e];exact ha (i+1) om) (fun hl=>by rw [←e];exact h (by simpa using hl))
  simp [List.takeWhile_cons,h0,ih]
theorem atK_stop{kd wd mo T:Int}{es:List Ev}{j:Nat}(hj:j≤(allE kd wd mo es).length)(ha:∀i:Nat,i<j→(at_ (allE kd wd mo es) (i:Int)).tm≤T)(h:j<(allE kd wd mo es).length→T<(at_ (allE kd wd mo es) (j:Int)).tm):atK kd wd mo es T=linksL ((allE kd wd mo es).take j):=by
 unfold atK
 rw [takeWhile_take hj (fun i hi=>decide_eq_true (ha i hi)) fun hl=>decide_eq_false (by have:=h hl;omega)]
end Go.Sl
namespace Go.Sl
open Go.Proofs
set_option maxRecDepth 4000
theorem checkS_tm'{nd:Int}{xs:List Lk}(h:checkS nd xs=0):∀x∈xs,0≤x.tm∧x.tm≤1048576:=fun x hx=>badL_tm ((checkS_ok h).2.1 x hx)
theorem First_ok{κ:Ctx}{I:List Item}{nd wd:Int}{va:Value}{xs:List Lk}(hl:Sl κ I va xs)(hb:∀x∈xs,0≤x.tm∧x.tm≤1048576)(hw:0≤wd∧wd≤1048576) :
    CallS Tryz.prog κ 252 [.agg #[I64 (nd),va],I64 (wd)] I (fun r J=>∃z:Int,r = .tuple #[I64 z,.bool (decide (0<xs.length))]∧((0<xs.length→(∃x∈xs,z=x.tm+wd)∧∀y∈xs,z≤y.tm+wd)∧(xs.length=0→z=0))∧I=J):=by
 refine B4 hl.le fun hmax=>?_
 refine Ce2 Tryz.func252 rfl rfl ?_
 refine Ah (Ge1 (Bb (cs:=[_,_]) rfl rfl rfl) fun b1=>Ga rfl (Ga rfl (Af (Ao (Ah (Gf fld111_1 rfl (Gl ty109 ?_)))))))
 refine Gr (Bz (α:=Lk) (xs:=xs) A3 rfl (Bf hl)) (Gr (Bs rfl rfl) (Af (A9 rfl (fun c10=>?_) (fun c10=>?_))))
 ·exact Ah (Ga rfl (Ga rfl (Af (A2 (Al (C9 rfl rfl rfl (I) A4 ⟨0,by rw [decide_eq_false om],⟨fun h=>by omega,fun _=>rfl⟩,rfl⟩))))))
 ·refine A0 (Ai (Ah (Gf fld111_1 rfl (Gl ty109 ?_))))
  refine G.e (Am call292 rfl rfl (MinF_ok (Bf hl) om FirstC_cmps)) ?_
  rintro _ _ ⟨_,_,⟨xm2,rfl,hmxm2,rfl⟩,rfl,rfl⟩
  have hxb:=hb _ hmxm2.1
  refine Ge1 (A5 ty146 rfl) fun b3=>Ge0 (Ej ty146) ?_
  refine Af (Ah (Gf fld146_5 rfl (Gl ty3 ?_)))
  exact Gm rfl (Gr (Rad rfl rfl) (Ga rfl (Ga rfl (Af (As (S2 5 4 rfl rfl) (A2 (C9 rfl rfl rfl (I) A4 ⟨_,by rw [decide_eq_true om],⟨fun _=>⟨⟨xm2,hmxm2.1,rfl⟩,fun y hy=>by have:=hmxm2.2 y hy;omega⟩,fun h=>by omega⟩,rfl⟩)))))))
end Go.Sl
/- What holds of the events of a history, with the cuts of what expires later. The plain laws. No Go. No conditions. -/
namespace Go.Sl
theorem ageL_len(wd mo T:Int)(xs:List Lk)(out:List Ev):(ageL wd mo T xs out).1.length≤xs.length:=by
 have h:=ageL_ind (wd:=wd) (mo:=mo) (T:=T) (P:=fun ys _=>ys.length≤xs.length) (fun ys o hs hP=>Nat.le_trans (List.length_filter_le _ _) hP) xs.length xs out (Nat.le_refl _) (Nat.le_refl _)
 exact h.1
theorem slide_take_len{kd wd mo:Int}{es:List Ev}:∀k,k≤es.length→(slideS kd wd mo (es.take k)).1.length≤k
 |0,_=>Nat.le_refl _
 |k+1,hk=>by
  have ih:=slide_take_len (kd:=kd) (wd:=wd) (mo:=mo) (es:=es) k om
  rw [slideS_succ om]
  generalize slideS kd wd mo (es.take k)=s at ih ⊢
  have h1:(agedL kd wd mo (at_ es (k:Int)).tm s).1.length≤s.1.length:=by
   unfold agedL
   split
   ·exact ageL_len _ _ _ _ _
   ·exact Nat.le_refl _
  have h2:=stepL_len (agedL kd wd mo (at_ es (k:Int)).tm s).1 (at_ es (k:Int))
  unfold evStep windL
  split
  ·have h3:=List.length_filter_le (inW kd wd mo (at_ es (k:Int)).tm (stepL (agedL kd wd mo (at_ es (k:Int)).tm s).1 (at_ es (k:Int)))) (stepL (agedL kd wd mo (at_ es (k:Int)).tm s).1 (at_ es (k:Int)))
   simp only
   omega
  ·simp only
   omega
structure HistOk (nd kd wd mo:Int) (es:List Ev):Prop where
 st:StOk nd es
 win:checkW kd wd mo=0
theorem checkW_cases{kd wd mo:Int}(h:checkW kd wd mo=0):(kd=1∧wd=0∧mo=0)∨(kd=2∧(1≤wd∧wd≤1048576)∧mo=0)∨(kd=3∧wd=0∧0≤mo∧mo≤2016):=by
 unfold checkW at h
 split at h
 ·cases h
 ·split at h
  ·cases h
  ·omega
section
variable {nd kd wd mo:Int}{es:List Ev}
theorem HistOk.fit(h:HistOk nd kd wd mo es):∀e∈(slideS kd wd mo es).2,FitOk nd e:=by
 have he:es.take es.length=es:=List.take_length
 rcases checkW_cases h.win with ⟨rfl,rfl,rfl⟩|⟨rfl,hw,rfl⟩|⟨rfl,rfl,hm⟩
 ·rw [all_same];exact h.st.mem
 ·have:=(BehB.all (mo:=0) h.st hw.1 es.length (Nat.le_refl _)).fit
  rwa [he] at this
 ·have:=(CntB.all h.st hm.1 es.length (Nat.le_refl _)).fit
  rwa [he] at this
theorem HistOk.links(h:HistOk nd kd wd mo es):(slideS kd wd mo es).1=linksL (slideS kd wd mo es).2:=by
 have he:es.take es.length=es:=List.take_length
 rcases checkW_cases h.win with ⟨rfl,rfl,rfl⟩|⟨rfl,hw,rfl⟩|⟨rfl,rfl,hm⟩
 ·rw [all_same]
  have:∀k,k≤es.length→(slideS 1 0 0 (es.take k)).1=linksL (es.take k):=fun k=>by
   induction k with
   |zero=>intro _;rfl
   |succ k ih=>
    intro hk
    rw [slideS_succ om,linksL_take om,←ih om];rfl
  have:=this es.length (Nat.le_refl _)
  rwa [he] at this
 ·have:=(BehB.all (mo:=0) h.st hw.1 es.length (Nat.le_refl _)).st
  rwa [he] at this
 ·have:=(CntB.all h.st hm.1 es.length (Nat.le_refl _)).st
  rwa [he] at this
theorem HistOk.len(h:HistOk nd kd wd mo es):(linksL (slideS kd wd mo es).2).length≤es.length:=by
 have he:es.take es.length=es:=List.take_length
 rw [←h.links]
 have:=slide_take_len (kd:=kd) (wd:=wd) (mo:=mo) es.length (Nat.le_refl _)
 rwa [he] at this
theorem HistOk.len2(h:HistOk nd kd wd mo es):(slideS kd wd mo es).2.length≤2*es.length:=by
 have he:es.take es.length=es:=List.take_length
 rcases checkW_cases h.win with ⟨rfl,rfl,rfl⟩|⟨rfl,hw,rfl⟩|⟨rfl,rfl,hm⟩
 ·rw [all_same];omega
 ·have:=(BehB.all (mo:=0) h.st hw.1 es.length (Nat.le_refl _)).sum
  rw [he] at this;omega
 ·have:=(CntB.all h.st hm.1 es.length (Nat.le_refl _)).sum
  rw [he] at this;omega
theorem links_val(h0:0≤nd∧nd≤64){E:List Ev}(hf:∀e∈E,FitOk nd e)(k:Nat):checkS nd (linksL (E.take k))=0:=steps_val h0 _ _ (valNil h0) fun e he=>hf e (List.mem_of_mem_take he)
theorem cutAt_fit{l:Lk}{X:List Lk}(hv:checkS nd X=0)(hl:l∈X)(hw:0≤wd)(hp:lateP kd wd l=true):FitOk nd (cutAt wd l):=by
 have h1:=of_decide_eq_true hp
 have h2:=val_uv hv l hl
 have h3:=checkS_tm' hv l hl
 have h4:=(checkS_iff.1 hv).1
 refine ⟨by show 1≤(2:Int)∧(2:Int)≤3;decide,?_,⟨?_,fun h=>absurd h (by show ¬(2:Int)=3;decide),fun _=>?_⟩,fun h=>absurd h (by show ¬(2:Int)=1;decide),?_,fun _=>⟨rfl,rfl,rfl⟩⟩
 ·show 0≤l.tm+wd∧l.tm+wd≤1048576;omega
 ·show 0≤l.u∧l.u<64;omega
 ·show (0≤l.v∧l.v<64)∧l.u≠l.v;omega
 ·show l.u<nd∧l.v<nd;omega
theorem late_fit{X:List Lk}(hv:checkS nd X=0)(hw:0≤wd):∀e∈isortG evC (lateL kd wd X),FitOk nd e:=fun e he=>by
 rw [(isort_permG _ _).mem_iff] at he
 obtain ⟨l,hl,rfl⟩:=List.mem_map.1 he
 have hl2:=List.mem_filter.1 hl
 exact cutAt_fit hv hl2.1 hw hl2.2
theorem HistOk.allFit(h:HistOk nd kd wd mo es):∀e∈allE kd wd mo es,FitOk nd e:=fun e he=>by
 rcases List.mem_append.1 he with he|he
 ·exact h.fit e he
 ·have hv:checkS nd (linksL (slideS kd wd mo es).2)=0:=by
   have:=links_val h.st.nodes h.fit (slideS kd wd mo es).2.length
   rwa [List.take_length] at this
  exact late_fit hv (checkW_wd h.win).1 e he
theorem edgesK_ok{X:List Lk}(h:checkS nd X=0):GrOk nd (edgesK X):=by
 have h1:=checkS_iff.1 h
 refine ⟨h1.1,?_,fun e he=>?_⟩
 ·show (edgesK X).Pairwise Pt.lt
  unfold edgesK
  exact List.Pairwise.map _ (fun a b hab=>hab) h1.2.2
 ·obtain ⟨l,hl,rfl⟩:=List.mem_map.1 he
  exact val_uv h l hl
theorem edgesK_len(X:List Lk):(edgesK X).length=X.length:=List.length_map ..
def atG(kd wd mo:Int)(es:List Ev)(T:Int):List Pt:=edgesK (atK kd wd mo es T)
theorem atK_take(kd wd mo T:Int)(es:List Ev):∃j,atK kd wd mo es T=linksL ((allE kd wd mo es).take j):=by
 unfold atK
 have hp:(allE kd wd mo es).takeWhile (fun e=>decide (e.tm≤T)) <+: allE kd wd mo es:=List.takeWhile_prefix _
 exact ⟨_,by rw [List.prefix_iff_eq_take.1 hp]⟩
theorem HistOk.graph(h:HistOk nd kd wd mo es)(T:Int):GrOk nd (atG kd wd mo es T):=by
 obtain ⟨j,hj⟩:=atK_take kd wd mo T es
 unfold atG
 rw [hj]
 exact edgesK_ok (links_val h.st.nodes h.allFit j)
end
end Go.Sl
namespace Go.Sl
open Go.Proofs
set_option maxRecDepth 4000
variable {κ:Ctx}{I:List Item}
theorem NodeE_ok(n:Int) :
    CallS Tryz.prog κ 291 [I64 (n)] I (fun r J=>r = .bool (decide (0≤n∧n<64))∧I=J):=by
 refine Ce1 Tryz.func291 rfl rfl ?_
 refine Ah (Ga rfl (Af (Ah (Gm rfl (Gr (Cg rfl rfl) (Gm rfl (Bi (d:=5) rfl (fun g5=>?_) (fun g5=>?_))))))))
 ·exact Gro (Ad rfl) (Gro (Bc rfl rfl) (Gr (Ap rfl rfl) (Ga rfl (Af (A2 (A7 rfl rfl (I) A4 ⟨(by first|exact congrArg Value.bool (decide_eq_decide.2 (by skip;omega))|exact congrArg Value.bool (decide_eq_true (by skip;omega)).symm|exact congrArg Value.bool (decide_eq_false (by skip;omega)).symm),rfl⟩))))))
 ·exact Gpo (Gpo (Gr (Av rfl rfl) (Ga rfl (Af (A2 (A7 rfl rfl (I) A4 ⟨(by first|exact congrArg Value.bool (decide_eq_decide.2 (by skip;omega))|exact congrArg Value.bool (decide_eq_true (by skip;omega)).symm|exact congrArg Value.bool (decide_eq_false (by skip;omega)).symm),rfl⟩))))))
theorem EndsE_ok(e:Ev) :
    CallS Tryz.prog κ 250 [.agg #[I64 (e.kd),I64 (e.tm),I64 (e.u),I64 (e.v),I64 (e.w),I64 (e.lb),I64 (e.sg)]] I (fun r J=>r = .bool (decide (endsE e))∧I=J):=by
 refine Ce1 Tryz.func250 rfl rfl ?_
 refine Ah (Ge1 (Bb (cs:=[_,_,_,_,_,_,_]) rfl rfl rfl) fun b1=>Ga rfl (Af (Ao (Ah (Gf fld108_0 rfl (Gl ty3 ?_))))))
 refine Gr (Bs rfl rfl) (Af (A9 rfl (fun c5=>?_) (fun c5=>?_)))
 ·refine Ah (Gf fld108_2 rfl (Gl ty3 ?_))
  refine Gc0 (Am call291 rfl rfl (NodeE_ok e.u)) ?_
  refine Gm rfl (Bi (d:=9) rfl (fun g9=>?_) (fun g9=>?_))
  ·refine Gro (Aa fld108_3 rfl) (Gro (Au ty3) ?_)
   exact Gro (Bs rfl rfl) (Gr (Ap rfl rfl) (Ga rfl (Af (As (S1 2 rfl) (A2 (Al (A7 rfl rfl (I) A4 ⟨(by first|exact congrArg Value.bool (decide_eq_decide.2 (by unfold endsE;omega))|exact congrArg Value.bool (decide_eq_true (by unfold endsE;omega)).symm|exact congrArg Value.bool (decide_eq_false (by unfold endsE;omega)).symm),rfl⟩)))))))
  ·exact Gpo (Gpo (Gpo (Gr (Av rfl rfl) (Ga rfl (Af (As (S1 2 rfl) (A2 (Al (A7 rfl rfl (I) A4 ⟨(by first|exact congrArg Value.bool (decide_eq_decide.2 (by unfold endsE;omega))|exact congrArg Value.bool (decide_eq_true (by unfold endsE;omega)).symm|exact congrArg Value.bool (decide_eq_false (by unfold endsE;omega)).symm),rfl⟩)))))))))
 ·refine A0 (Ai (Ah (Gf fld108_2 rfl (Gl ty3 ?_))))
  refine Gc0 (Am call291 rfl rfl (NodeE_ok e.u)) ?_
  refine Gm rfl (Bi (d:=17) rfl (fun g17=>?_) (fun g17=>?_))
  ·refine Gro (Aa fld108_3 rfl) (Gro (Au ty3) ?_)
   refine Eu (Cv rfl rfl rfl) (Am call291 rfl rfl (NodeE_ok e.v)) ?_
   rintro _ _ ⟨_,_,⟨rfl,rfl⟩,rfl,rfl⟩
   refine Gr (Ap rfl rfl) (Gm rfl (Bi (d:=22) rfl (fun g22=>?_) (fun g22=>?_)))
   ·refine Gro (Aa fld108_2 rfl) (Gro (Au ty3) ?_)
    refine Gro (Aa fld108_3 rfl) (Gro (Au ty3) ?_)
    exact Gro (Bv rfl rfl) (Gr (Ap rfl rfl) (Ga rfl (Af (As (S1 2 rfl) (A2 (A7 rfl rfl (I) A4 ⟨(by first|exact congrArg Value.bool (decide_eq_decide.2 (by unfold endsE;omega))|exact congrArg Value.bool (decide_eq_true (by unfold endsE;omega)).symm|exact congrArg Value.bool (decide_eq_false (by unfold endsE;omega)).symm),rfl⟩))))))
   ·exact Gpo (Gpo (Gpo (Gpo (Gpo (Gr (Av rfl rfl) (Ga rfl (Af (As (S1 2 rfl) (A2 (A7 rfl rfl (I) A4 ⟨(by first|exact congrArg Value.bool (decide_eq_decide.2 (by unfold endsE;omega))|exact congrArg Value.bool (decide_eq_true (by unfold endsE;omega)).symm|exact congrArg Value.bool (decide_eq_false (by unfold endsE;omega)).symm),rfl⟩))))))))))
  ·exact Gpo (Gpo (Gpo (Gr (Av rfl rfl) (Gm rfl (Gpo (Gpo (Gpo (Gpo (Gpo (Gr (Av rfl rfl) (Ga rfl (Af (As (S1 2 rfl) (A2 (A7 rfl rfl (I) A4 ⟨(by first|exact congrArg Value.bool (decide_eq_decide.2 (by unfold endsE;omega))|exact congrArg Value.bool (decide_eq_true (by unfold endsE;omega)).symm|exact congrArg Value.bool (decide_eq_false (by unfold endsE;omega)).symm),rfl⟩)))))))))))))))
theorem CheckE_ok(e:Ev) :
    CallS Tryz.prog κ 209 [.agg #[I64 (e.kd),I64 (e.tm),I64 (e.u),I64 (e.v),I64 (e.w),I64 (e.lb),I64 (e.sg)]] I (fun r J=>r=I64 (checkE e)∧I=J):=by
 refine Ce1 Tryz.func209 rfl rfl ?_
 refine Ah (Ge1 (Bb (cs:=[_,_,_,_,_,_,_]) rfl rfl rfl) fun b1=>Ga rfl (Af (Ao (Ax (Ah (Gf fld108_0 rfl (Gl ty3 ?_)))))))
 refine Gr (Bc rfl rfl) (Gm rfl (Bi (d:=7) rfl (fun g7=>?_) (fun g7=>?_)))
 ·exact Gpo (Gpo (Gpo (Gr (Ap rfl rfl) (Ga rfl (Af (Cl rfl (Ah (Ga rfl (Af (As (S1 2 rfl) (A2 (Ar (Al (A7 rfl rfl (I) A4 ⟨by rw [show checkE e=8 from checkE_eight om],rfl⟩))))))))))))))
 ·refine Gro (Aa fld108_0 rfl) (Gro (Au ty3) ?_)
  refine Gro (B5 rfl rfl) (Gr (Av rfl rfl) (Ga rfl (Af (A9 rfl (fun c3=>?_) (fun c3=>?_)))))
  ·exact Ah (Ga rfl (Af (As (S1 2 rfl) (A2 (Ar (Al (A7 rfl rfl (I) A4 ⟨by rw [show checkE e=8 from checkE_eight om],rfl⟩)))))))
  ·refine Ah (Gf fld108_1 rfl (Gl ty3 ?_))
   refine Gr (Bc rfl rfl) (Gm rfl (Bi (d:=16) rfl (fun g16=>?_) (fun g16=>?_)))
   ·exact Gpo (Gpo (Gpo (Gr (Ap rfl rfl) (Ga rfl (Af (As (S2 12 1 rfl rfl) (Cl rfl (Ah (Ga rfl (Af (A2 (Ar (Al (A7 rfl rfl (I) A4 ⟨by rw [show checkE e=9 from checkE_nine om om],rfl⟩))))))))))))))
   ·refine Gro (Aa fld108_1 rfl) (Gro (Au ty3) ?_)
    refine Gro (B5 rfl rfl) (Gr (Av rfl rfl) (Ga rfl (Af (As (S2 12 1 rfl rfl) (A9 rfl (fun c12=>?_) (fun c12=>?_))))))
    ·exact Ah (Ga rfl (Af (A2 (Ar (Al (A7 rfl rfl (I) A4 ⟨by rw [show checkE e=9 from checkE_nine om om],rfl⟩))))))
    ·refine Ah (Gl7 ty108 ?_)
     refine Gc0 (Am call250 rfl rfl (EndsE_ok e)) ?_
     refine Gr (C7 rfl) (Ga rfl (Af (A9 rfl (fun c21=>?_) (fun c21=>?_))))
     ·exact Ah (Ga rfl (Af (A2 (Ar (Al (A7 rfl rfl (I) A4 ⟨by rw [show checkE e=6 from checkE_six om om (by first|assumption|(unfold endsE;omega))],rfl⟩))))))
     ·refine Ah (Gf fld108_0 rfl (Gl ty3 ?_))
      refine Gr (Bs rfl rfl) (Gm rfl (Bi (d:=29) rfl (fun g29=>?_) (fun g29=>?_)))
      ·refine Gro (Aa fld108_4 rfl) (Gro (Au ty3) ?_)
       refine Gro (Aa fld108_5 rfl) (Gro (Au ty3) ?_)
       refine Gro (Aa fld108_6 rfl) (Gro (Au ty3) ?_)
       refine Eu (Cv rfl rfl rfl) (Am call251 rfl rfl (RightW_ok e.w e.lb e.sg)) ?_
       rintro _ _ ⟨_,_,⟨rfl,rfl⟩,rfl,rfl⟩
       refine Gro (C7 rfl) (Gr (Ap rfl rfl) (Ga rfl (Af (As (S2 25 1 rfl rfl) (A9 rfl (fun c25=>?_) (fun c25=>?_))))))
       ·exact Ah (Ga rfl (Af (A2 (Ar (Al (A7 rfl rfl (I) A4 ⟨by rw [show checkE e=1 from checkE_one om om (by first|assumption|exact Classical.not_not.1 asm|(unfold endsE;omega)) (by first|(exact .inr om)|exact .inl ⟨by omega,by assumption⟩|exact .inl ⟨by omega,fun h=>by simp_all⟩)],rfl⟩))))))
       ·refine Ah (Gf fld108_0 rfl (Gl ty3 ?_))
        refine Gr (Bv rfl rfl) (Gm rfl (Bi (d:=43) rfl (fun g43=>?_) (fun g43=>?_)))
        ·refine Gro (Aa fld108_4 rfl) (Gro (Au ty3) ?_)
         refine Gro (Bv rfl rfl) (Gro (Ad rfl) (Bi (d:=47) rfl (fun g47=>?_) (fun g47=>?_)))
         ·exact Gpo (Gpo (Gpo (Gro (Ap rfl rfl) (Gro (Ad rfl) (Gpo (Gpo (Gpo (Gro (Ap rfl rfl) (Gr (Ap rfl rfl) (Ga rfl (Af (As (S1 39 rfl) (Cl rfl (Ah (Ga rfl (Af (A2 (Ar (Al (A7 rfl rfl (I) A4 ⟨by rw [show checkE e=1 from checkE_one om om (by first|assumption|exact Classical.not_not.1 asm|(unfold endsE;omega)) (by first|(exact .inr om)|exact .inl ⟨by omega,by assumption⟩|exact .inl ⟨by omega,fun h=>by simp_all⟩)],rfl⟩))))))))))))))))))))
         ·refine Gro (Aa fld108_5 rfl) (Gro (Au ty3) ?_)
          refine Gro (Bv rfl rfl) (Gro (Av rfl rfl) (Gro (Ad rfl) (Bi (d:=52) rfl (fun g52=>?_) (fun g52=>?_))))
          ·exact Gpo (Gpo (Gpo (Gro (Ap rfl rfl) (Gr (Ap rfl rfl) (Ga rfl (Af (As (S1 39 rfl) (Cl rfl (Ah (Ga rfl (Af (A2 (Ar (Al (A7 rfl rfl (I) A4 ⟨by rw [show checkE e=1 from checkE_one om om (by first|assumption|exact Classical.not_not.1 asm|(unfold endsE;omega)) (by first|(exact .inr om)|exact .inl ⟨by omega,by assumption⟩|exact .inl ⟨by omega,fun h=>by simp_all⟩)],rfl⟩)))))))))))))))
          ·refine Gro (Aa fld108_6 rfl) (Gro (Au ty3) ?_)
           refine Gro (Bv rfl rfl) (Gro (Av rfl rfl) (Gr (Ap rfl rfl) (Ga rfl (Af (As (S1 39 rfl) (A9 rfl (fun c39=>?_) (fun c39=>?_)))))))
           ·exact Ah (Ga rfl (Af (A2 (Ar (Al (A7 rfl rfl (I) A4 ⟨by rw [show checkE e=1 from checkE_one om om (by first|assumption|exact Classical.not_not.1 asm|(unfold endsE;omega)) (by first|(exact .inr om)|exact .inl ⟨by omega,by assumption⟩|exact .inl ⟨by omega,fun h=>by simp_all⟩)],rfl⟩))))))
           ·exact A0 (Aj (Ai (Ah (Ga rfl (Af (A2 (A7 rfl rfl (I) A4 ⟨by rw [show checkE e=0 from checkE_zero om om (by first|assumption|exact Classical.not_not.1 asm|(unfold endsE;omega)) (fun h=>by first|(exfalso;omega)|assumption|exact Classical.not_not.1 asm) (fun h=>by omega)],rfl⟩)))))))
        ·exact Gpo (Gpo (Gpo (Gpo (Gpu (Gpu (Gpu (Gpo (Gpo (Gpu (Gpu (Gpu (Gpo (Gr (Av rfl rfl) (Ga rfl (Af (As (S1 39 rfl) (Cx rfl (A0 (Aj (Ai (Ah (Ga rfl (Af (A2 (A7 rfl rfl (I) A4 ⟨by rw [show checkE e=0 from checkE_zero om om (by first|assumption|exact Classical.not_not.1 asm|(unfold endsE;omega)) (fun h=>by first|(exfalso;omega)|assumption|exact Classical.not_not.1 asm) (fun h=>by omega)],rfl⟩)))))))))))))))))))))))))
      ·refine Gpo (Gpo (Gpo (Gpo (Gpo (Gpo (Gpo (Gpo (Gr (Av rfl rfl) (Ga rfl (Af (As (S2 25 1 rfl rfl) (Cx rfl (Ah (Gf fld108_0 rfl (Gl ty3 ?_)))))))))))))))
       refine Gr (Bv rfl rfl) (Gm rfl (Bi (d:=43) rfl (fun g43=>?_) (fun g43=>?_)))
       ·refine Gro (Aa fld108_4 rfl) (Gro (Au ty3) ?_)
        refine Gro (Bv rfl rfl) (Gro (Ad rfl) (Bi (d:=47) rfl (fun g47=>?_) (fun g47=>?_)))
        ·exact Gpo (Gpo (Gpo (Gro (Ap rfl rfl) (Gro (Ad rfl) (Gpo (Gpo (Gpo (Gro (Ap rfl rfl) (Gr (Ap rfl rfl) (Ga rfl (Af (As (S1 39 rfl) (Cl rfl (Ah (Ga rfl (Af (A2 (Ar (Al (A7 rfl rfl (I) A4 ⟨by rw [show checkE e=1 from checkE_one om om (by first|assumption|exact Classical.not_not.1 asm|(unfold endsE;omega)) (by first|(exact .inr om)|exact .inl ⟨by omega,by assumption⟩|exact .inl ⟨by omega,fun h=>by simp_all⟩)],rfl⟩))))))))))))))))))))
        ·refine Gro (Aa fld108_5 rfl) (Gro (Au ty3) ?_)
         refine Gro (Bv rfl rfl) (Gro (Av rfl rfl) (Gro (Ad rfl) (Bi (d:=52) rfl (fun g52=>?_) (fun g52=>?_))))
         ·exact Gpo (Gpo (Gpo (Gro (Ap rfl rfl) (Gr (Ap rfl rfl) (Ga rfl (Af (As (S1 39 rfl) (Cl rfl (Ah (Ga rfl (Af (A2 (Ar (Al (A7 rfl rfl (I) A4 ⟨by rw [show checkE e=1 from checkE_one om om (by first|assumption|exact Classical.not_not.1 asm|(unfold endsE;omega)) (by first|(exact .inr om)|exact .inl ⟨by omega,by assumption⟩|exact .inl ⟨by omega,fun h=>by simp_all⟩)],rfl⟩)))))))))))))))
         ·refine Gro (Aa fld108_6 rfl) (Gro (Au ty3) ?_)
          refine Gro (Bv rfl rfl) (Gro (Av rfl rfl) (Gr (Ap rfl rfl) (Ga rfl (Af (As (S1 39 rfl) (A9 rfl (fun c39=>?_) (fun c39=>?_)))))))
          ·exact Ah (Ga rfl (Af (A2 (Ar (Al (A7 rfl rfl (I) A4 ⟨by rw [show checkE e=1 from checkE_one om om (by first|assumption|exact Classical.not_not.1 asm|(unfold endsE;omega)) (by first|(exact .inr om)|exact .inl ⟨by omega,by assumption⟩|exact .inl ⟨by omega,fun h=>by simp_all⟩)],rfl⟩))))))
          ·exact A0 (Aj (Ai (Ah (Ga rfl (Af (A2 (A7 rfl rfl (I) A4 ⟨by rw [show checkE e=0 from checkE_zero om om (by first|assumption|exact Classical.not_not.1 asm|(unfold endsE;omega)) (fun h=>by first|(exfalso;omega)|assumption|exact Classical.not_not.1 asm) (fun h=>by omega)],rfl⟩)))))))
       ·exact Gpo (Gpo (Gpo (Gpo (Gpu (Gpu (Gpu (Gpo (Gpo (Gpu (Gpu (Gpu (Gpo (Gr (Av rfl rfl) (Ga rfl (Af (As (S1 39 rfl) (Cx rfl (A0 (Aj (Ai (Ah (Ga rfl (Af (A2 (A7 rfl rfl (I) A4 ⟨by rw [show checkE e=0 from checkE_zero om om (by first|assumption|exact Classical.not_not.1 asm|(unfold endsE;omega)) (fun h=>by first|(exfalso;omega)|assumption|exact Classical.not_not.1 asm) (fun h=>by omega)],rfl⟩)))))))))))))))))))))))))
theorem FitsE_ok(nd:Int)(e:Ev) :
    CallS Tryz.prog κ 210 [I64 (nd),.agg #[I64 (e.kd),I64 (e.tm),I64 (e.u),I64 (e.v),I64 (e.w),I64 (e.lb),I64 (e.sg)]] I (fun r J=>r=I64 (fitE nd e)∧I=J):=by
 refine Ce2 Tryz.func210 rfl rfl ?_
 refine Ah (Ge1 (Bb (cs:=[_,_,_,_,_,_,_]) rfl rfl rfl) fun b1=>Ga rfl (Af (Ao (Ah (Gl7 ty108 ?_)))))
 refine Gc0 (Am call209 rfl rfl (CheckE_ok e)) ?_
 refine Ga rfl (Af (Ah (Gm rfl (Gr (Bv rfl rfl) (Af (A9 rfl (fun c9=>?_) (fun c9=>?_)))))))
 ·exact Ah (Gm rfl (Ga rfl (Af (A2 (Al (A7 rfl rfl (I) A4 ⟨by rw [show fitE nd e=checkE e from (by unfold fitE;rw [if_pos c9])],rfl⟩))))))
 ·refine A0 (Ai (Ao (Ah (Gf fld108_2 rfl (Gl ty3 ?_)))))
  refine Gm rfl (Gr (Cg rfl rfl) (Gm rfl (Bi (d:=15) rfl (fun g15=>?_) (fun g15=>?_))))
  ·exact Gpo (Gpo (Gpo (Gpo (Gr (Ap rfl rfl) (Af (As (S1 20 rfl) (Cl rfl (Ah (Ga rfl (Af (A2 (Al (A7 rfl rfl (I) A4 ⟨by rw [show fitE nd e=6 from (by unfold fitE;rw [if_neg c9,if_pos om])],rfl⟩)))))))))))))
  ·refine Gro (Aa fld108_3 rfl) (Gro (Au ty3) ?_)
   refine Gro (Ad rfl) (Gro (Cg rfl rfl) (Gr (Av rfl rfl) (Af (As (S1 20 rfl) (A9 rfl (fun c20=>?_) (fun c20=>?_))))))
   ·exact Ah (Ga rfl (Af (A2 (Al (A7 rfl rfl (I) A4 ⟨by rw [show fitE nd e=6 from (by unfold fitE;rw [if_neg c9,if_pos om])],rfl⟩)))))
   ·exact A0 (Ai (Ah (Ga rfl (Af (A2 (A7 rfl rfl (I) A4 ⟨by rw [show fitE nd e=0 from (by unfold fitE;rw [if_neg c9,if_neg om])],rfl⟩))))))
theorem fitE_chk{nd:Int}{e:Ev}(h:checkE e≠0):fitE nd e=checkE e:=by unfold fitE;rw [if_pos h]
theorem Stream_ok{κ:Ctx}{I:List Item}{nd:Int}{va:Value}{es:List Ev}(hl:Sl κ I va es) :
    CallS Tryz.prog κ 139 [I64 (nd),va] I (fun r J=>r=I64 (streamE nd es)∧I=J):=by
 refine B4 hl.le fun hmax=>?_
 refine Ce2 Tryz.func139 rfl rfl ?_
 refine Ah (Ga rfl (Af (Ao (Ax (Ah (Gm rfl (Gr (Bc rfl rfl) (Gm rfl (Bi (d:=13) rfl (fun g13=>?_) (fun g13=>?_))))))))))
 ·exact Gpo (Gpo (Gr (Ap rfl rfl) (Ga rfl (Af (Cl rfl (Ah (Ga rfl (Af (A2 (Ar (Al (A7 rfl rfl (I) A4 ⟨by rw [show streamE nd es=1 from (by unfold streamE;rw [if_pos om])],rfl⟩))))))))))))
 ·refine Gro (Ad rfl) (Gro (B5 rfl rfl) (Gr (Av rfl rfl) (Ga rfl (Af (A9 rfl (fun c10=>?_) (fun c10=>?_))))))
  ·exact Ah (Ga rfl (Af (A2 (Ar (Al (A7 rfl rfl (I) A4 ⟨by rw [show streamE nd es=1 from (by unfold streamE;rw [if_pos om])],rfl⟩))))))
  ·refine Ah (Gm rfl (Gr (Bz (α:=Ev) (xs:=es) Ba rfl (Bf hl)) (Gr (B5 rfl rfl) (Ga rfl (Af (As (S3 17 0 1 rfl rfl rfl) (A9 rfl (fun c17=>?_) (fun c17=>?_))))))))
   ·exact Ah (Ga rfl (Af (A2 (Ar (Al (A7 rfl rfl (I) A4 ⟨by rw [show streamE nd es=3 from (by unfold streamE;rw [if_neg om,if_pos om])],rfl⟩))))))
   ·refine A0 (Aj (Ai (Ah (Ga rfl (Af (Ao (Ah (Gm rfl (Gr (Bz (α:=Ev) (xs:=es) Ba rfl (Bf hl)) (Gm rfl (Af (Ax (Bx (σ:=Nat) (fun s=>([(0,I64 (nd)),(5,I64 (lastT es s)),(21,va),(22,I64 (((es.length:Nat):Int))),(23,I64 (((s:Nat):Int)))]:Env)) (fun s=>I) (fun s=>(s≤es.length)∧(streamE nd es=streamS nd (lastT es s) (es.drop s))) (fun s=>es.length - s) (0) (show ((0:Nat)≤es.length)∧(streamE nd es=streamS nd (lastT es (0:Nat)) (es.drop (0:Nat))) from ⟨om,(by unfold streamE;rw [if_neg om,if_neg om];rfl)⟩) (Ac rfl (Ac (Ec rfl (by first|omega|(dsimp only<;>omega)|exact (rfl:(0:Int)=lastT es 0)|exact (lastT_succ es k).symm)) (Ac rfl (Ac rfl (Ac (Ec rfl (by first|omega|(dsimp only<;>omega)|exact (rfl:(0:Int)=lastT es 0)|exact (lastT_succ es k).symm)) Bq))))) (show Fit κ _ (I) from Ay) ?_)))))))))))))
    rintro k hp
    obtain ⟨hk,hs⟩:=hp
    refine Ah (Gr (Bc rfl rfl) (Af (Ao (A9 rfl (fun c24=>?_) (fun c24=>?_)))))
    ·refine A0 (Ai (Ao (Ax (Ah (Gr (A8 (α:=Ev) (xs:=es) Ba ty108 rfl rfl (Bf hl) om om) (Gr (B0 (α:=Ev) (xs:=es) ty108 rfl (Bf hl) om om) (Ge1 (A5 ty108 rfl) fun b1=>Ge0 (Es7_7 ty108) ?_)))))))
     refine Af (Ao (Ah (Gl7 ty108 ?_)))
     refine Gc0 (Am call209 rfl rfl (CheckE_ok (at_ es (k:Int)))) ?_
     refine Ga rfl (Af (Ah (Gm rfl (Gr (Bv rfl rfl) (Af (As (S8 30 8 7 0 5 21 22 23 rfl rfl rfl rfl rfl rfl rfl rfl) (A9 rfl (fun c30=>?_) (fun c30=>?_))))))))
     ·exact Ah (Gm rfl (Ga rfl (Af (A2 (Al (Ar (Al (Al (Ar (Al (A7 rfl rfl (I) A4 ⟨by rw [show streamE nd es=checkE (at_ es (k:Int)) from (hs.trans ((streamS_bad om (by rw [fitE_chk c30];exact c30)).trans (fitE_chk c30)))],rfl⟩)))))))))))
     ·refine A0 (Ai (Ao (Ah (Gm rfl (Gl7 ty108 ?_)))))
      refine Gc0 (Am call210 rfl rfl (FitsE_ok nd (at_ es (k:Int)))) ?_
      refine Ga rfl (Af (Ah (Gm rfl (Gr (Bv rfl rfl) (Af (As (S8 36 9 7 0 5 21 22 23 rfl rfl rfl rfl rfl rfl rfl rfl) (A9 rfl (fun c36=>?_) (fun c36=>?_))))))))
      ·exact Ah (Gm rfl (Ga rfl (Af (A2 (Al (Ar (Al (Al (Ar (Al (A7 rfl rfl (I) A4 ⟨by rw [show streamE nd es=fitE nd (at_ es (k:Int)) from (hs.trans (streamS_bad om c36))],rfl⟩)))))))))))
      ·refine A0 (Ai (Ao (Ah (Gf fld108_1 rfl (Gl ty3 ?_)))))
       refine Gm rfl (Gr (Bc rfl rfl) (Af (A9 rfl (fun c41=>?_) (fun c41=>?_))))
       ·exact Ah (Ga rfl (Af (A2 (Al (Ar (Al (Al (Ar (Al (A7 rfl rfl (I) A4 ⟨by rw [show streamE nd es=9 from (hs.trans (streamS_late om (Classical.not_not.1 c36) om))],rfl⟩))))))))))
       ·refine A0 (Ai (Aw (Gf fld108_1 rfl (Gl ty3 ?_))))
        exact Ga rfl (Bj (Aj (Ai (As (S5 5 0 21 22 23 rfl rfl rfl rfl rfl) (Aw (Gr (Rad rfl rfl) (Gm rfl (Bj (B6 ((k+1)) ⟨om,(hs.trans (streamS_step om (Classical.not_not.1 c36) om))⟩ (hL:=(Ac rfl (Ac (Ec rfl (by first|omega|(dsimp only<;>omega)|exact (rfl:(0:Int)=lastT es 0)|exact (lastT_succ es k).symm)) (Ac rfl (Ac rfl (Ac (Ec rfl (by first|omega|(dsimp only<;>omega)|exact (rfl:(0:Int)=lastT es 0)|exact (lastT_succ es k).symm)) Bq)))))))))))))))
    ·exact Bt (Ak (Ak (A6 (Ai (Ah (Ga rfl (Af (A2 (A7 rfl rfl (I) A4 ⟨by rw [show streamE nd es=0 from (hs.trans (streamS_end om))],rfl⟩)))))))))
variable {κ:Ctx}{I:List Item}
theorem ov324:∀args w,(callFunc 324 args).run Tryz.prog w=((Extern.SlicesOverlaps.overlaps #[109,109] #[4] args).run Tryz.prog w).andThen fun v w'=> .ok (.value v) w':=fun args w=>run_callFunc_extern (e:=Extern.SlicesOverlaps.overlaps #[109,109] #[4]) Tryz.func324 kr kr kr kr args w
set_option maxHeartbeats 8000000 in
theorem InsertL_ok{a va:Option Addr}{c vcp i:Nat}{xs ys:List Lk}(hi:i≤xs.length)(hy:0<ys.length)(hsz:xs.length+ys.length≤1000000000) :
    CallS Tryz.prog κ 303 [.slice a xs.length c,I64 ((i:Int)),.slice va ys.length vcp] (vc 146 (.slice a xs.length c) (xs)::vc 146 (.slice va ys.length vcp) (ys)::I) (fun r J=>∃a' c',r = .slice a' (List.take i xs++ys++List.drop i xs).length c'∧J=vc 146 (.slice a' (List.take i xs++ys++List.drop i xs).length c') (List.take i xs++ys++List.drop i xs)::I):=by
 refine B4 (vc.cap List.mem_cons_self) fun hcap=>?_
 have hRl:(List.take i xs++ys++List.drop i xs).length=xs.length+ys.length:=by simp only [List.length_append,List.length_take,List.length_drop];omega
 refine Ce3 Tryz.func303 rfl rfl ?_
 refine Ah (Ga rfl (Af (Ah (Gm rfl (Gm rfl (Gr (El (α:=Lk) (xs:=xs) (l:=i) A3 ty146 rfl rfl om Br lat) (Af (Ah (Gm rfl (Gr (Bw A3 rfl) (Ga rfl (Af (Ao (Ah (Gm rfl (Gr (Bs rfl rfl) (Af (A9 rfl (fun c16=>?_) (fun c16=>?_)))))))))))))))))))
 ·exact absurd c16 om
 ·refine A0 (Ai (Ah (Gm rfl (Gr (Bw A3 rfl) (Ga rfl (Af (As (S5 8 7 0 1 2 rfl rfl rfl rfl rfl) (Ao (Ah (Gm rfl (Gm rfl (Gr (Bs rfl rfl) (Af (A9 rfl (fun c22=>?_) (fun c22=>?_)))))))))))))))
  ·refine Ah (Gm rfl (Gm rfl (Ge2 (Ca (α:=Lk) (e:=146) (xs:=xs) (ys:=ys) A3 ty146 rfl rfl rfl mm Br om dc rfl (fun _ _=>am)) fun ad1 cp2=>?_)))
   refine Ga rfl (Af (A2 (Al ?_)))
   have hR:List.take i xs++ys++List.drop i xs=xs++ys:=by rw [List.take_of_length_le om,List.drop_eq_nil_of_le om,List.append_nil]
   exact A7 rfl rfl (vc 146 (.slice ad1 (List.take i xs++ys++List.drop i xs).length cp2) (List.take i xs++ys++List.drop i xs)::I) (by rw [hR];exact B7) ⟨ad1,cp2,by rw [hR],rfl⟩
  ·refine A0 (Ai (Ao (Ah (Gm rfl (Gm rfl (Gr (Rad rfl rfl) (Gm rfl (Gr (Runs.caps A3 rfl) (Gr (B5 rfl rfl) (Af (As (S6 31 8 7 0 1 2 rfl rfl rfl rfl rfl rfl) (A9 rfl (fun c31=>?_) (fun c31=>?_)))))))))))))
   ·refine Ah (Gm rfl (Gm rfl (Gr (Runs.hiraw (h:=i) A3 ty146 rfl rfl om om) (Gm rfl (Gm rfl (Gr (Rad rfl rfl) (Gm rfl (Gr (Rsu rfl rfl) (Ge2 (Eff.grow (α:=Lk) (xs:=xs) (k:=xs.length+ys.length - i) A3 Bl ty146 rfl rfl rfl om Br om om om om dc rfl) fun ad3 cp4=>?_)))))))))
    refine Ga rfl (G.pull (p:=(List.take i xs++List.replicate (xs.length+ys.length - i) (default:Lk)).length≤cp4) (vc.cap mm) fun hcap2=>?_)
    have hZl:(List.take i xs++List.replicate (xs.length+ys.length - i) (default:Lk)).length=xs.length+ys.length:=by simp only [List.length_append,List.length_take,List.length_replicate];omega
    refine Af (As (S5 9 7 0 1 2 rfl rfl rfl rfl rfl) (Ah (Gm rfl (Gm rfl (Gr (El (α:=Lk) (xs:=List.take i xs++List.replicate (xs.length+ys.length - i) (default:Lk)) (l:=i) A3 ty146 rfl rfl om Br lat) (Gm rfl (Ge0 (Eff.copyT (α:=Lk) (k:=i) (q:=ys.length) (R:=List.take i xs++ys++List.replicate (xs.length - i) (default:Lk)) (n:=(i+(xs.length+ys.length - i))) A3 ty146 rfl lat rfl Br lat lat rfl (ins1 hi) lat am) ?_)))))))
    refine Af (Ao (Bo mixed (Bu (I) 9 (Dr 0 rfl (Ad rfl) (Dr 1 rfl (Ad rfl) (Dr 2 rfl (Ad rfl) (Dr 3 rfl (Rad rfl rfl) (Dr 4 rfl (Eg (l:=(i+ys.length)) A3 ty146 rfl rfl om om om) (Dr 5 rfl (Ad rfl) (Dr 6 rfl (Ad rfl) (Dr 7 rfl (Eg (l:=i) A3 ty146 rfl rfl om om om) (Ds1 8 (Se0 rfl (Eff.copyT (α:=Lk) (k:=(i+ys.length)) (q:=(xs.length - i)) (R:=List.take i xs++ys++List.drop i xs) (n:=(i+(xs.length+ys.length - i))) A3 ty146 rfl lat rfl (Sl.dropn (Sl.vec (xs:=xs) mm) om om) lat lat rfl (ins2 hi) lat am) ?_)))))))))))))
    exact Dz (Ai (As (S1 9 rfl) (Ah (Gm rfl (Ga rfl (Af (A2 (Al (A7 rfl rfl (vc 146 (.slice ad3 (List.take i xs++ys++List.drop i xs).length cp4) (List.take i xs++ys++List.drop i xs)::I) (by rw [show (List.take i xs++ys++List.drop i xs).length=i+(xs.length+ys.length - i) by omega];exact B7) ⟨ad3,cp4,by rw [show (List.take i xs++ys++List.drop i xs).length=i+(xs.length+ys.length - i) by omega],rfl⟩)))))))))
   ·refine A0 (Ai (Ah (Gm rfl (Gm rfl (Gm rfl (Gr (Rad rfl rfl) (Gr (Runs.hiraw (h:=xs.length+ys.length) A3 ty146 rfl rfl om om) (Ga rfl (G.room (h:=xs.length+ys.length) (by repeat (first|exact AtF.head _ _|apply AtF.tail)) rfl om om (fun js hjs=>?_))))))))))
    show G Tryz.prog κ _ _ _ _ ([(0,.slice a (xs.length+ys.length) c),(60,.slice a (xs.length+ys.length) c),(59,I64 (((xs.length:Nat):Int)+((ys.length:Nat):Int))),(58,I64 (((ys.length:Nat):Int))),(57,I64 (((xs.length:Nat):Int))),(56,.slice a xs.length c),(31,.bool (decide ((c:Int)<(((xs.length:Nat):Int)+((ys.length:Nat):Int))))),(8,I64 (((xs.length:Nat):Int))),(7,I64 (((ys.length:Nat):Int))),(0,.slice a xs.length c),(1,I64 ((i:Int))),(2,.slice va ys.length vcp)]:Env) (vec 146 (Enc.sz Lk) (.slice a (xs.length+ys.length) c) (xs.length+ys.length) (cells xs++js)::vc 146 (.slice va ys.length vcp) (ys)::I)
    refine Af (Ao (Ah (Gm rfl (Gm rfl (Gm rfl (Gm rfl (Gr (Rad rfl rfl) (Gr (Eg (l:=(i+ys.length)) A3 ty146 rfl rfl om om om) (Ge0 (Eff.overlaps (k:=i+ys.length) ov324 A3 ty146 rfl rfl om om om (show Fit κ _ (vc 146 (.slice va ys.length vcp) ys::vec 146 (Enc.sz Lk) (.slice a (xs.length+ys.length) c) (xs.length+ys.length) (cells xs++js)::I) from Fit.sp (Sp.pick (Pick.tail _ (Pick.head _ _)) (Sp.refl _))) (Nat.mul_pos om Enc.pos) rfl) ?_)))))))))
    refine Gr (Cd rfl) (Af (As (S6 68 0 8 7 1 2 rfl rfl rfl rfl rfl rfl) (Cl rfl (Ao (Bo mixed (Bu (I) 9 (Dr 0 rfl (Ad rfl) (Dr 1 rfl (Ad rfl) (Dr 2 rfl (Ad rfl) (Dr 3 rfl (Rad rfl rfl) (Dr 4 rfl (Eg (l:=(i+ys.length)) A3 ty146 rfl rfl om om om) (Dr 5 rfl (Ad rfl) (Dr 6 rfl (Ad rfl) (Dr 7 rfl (Eg (l:=i) A3 ty146 rfl rfl om om om) (Ds1 8 (Se0 rfl (Eff.copyR (sz:=Enc.sz Lk) (n:=xs.length+ys.length) (cs:=(cells xs++js)) (k:=(i+ys.length)) (q:=(xs.length - i)) A3 ty146 rfl om rfl (SlRd.dropR (SlRd.vec mm) om) om om (ins_one hi) rfl am) ?_))))))))))))))))
    show D Tryz.prog κ _ _ _ _ _ _ _ ([(77,I64 ((((xs.length - i):Nat):Int))),(76,.slice (adrop a c i (Enc.sz Lk)) ((xs.length+ys.length) - i) (c - i)),(75,I64 ((i:Int))),(74,.slice a (xs.length+ys.length) c),(73,.slice (adrop a c (i+ys.length) (Enc.sz Lk)) ((xs.length+ys.length) - (i+ys.length)) (c - (i+ys.length))),(72,I64 ((i:Int)+((ys.length:Nat):Int))),(71,I64 (((ys.length:Nat):Int))),(70,I64 ((i:Int))),(69,.slice a (xs.length+ys.length) c),(68,.bool true),(0,.slice a (xs.length+ys.length) c),(8,I64 (((xs.length:Nat):Int))),(7,I64 (((ys.length:Nat):Int))),(1,I64 ((i:Int))),(2,.slice va ys.length vcp)]:Env) (vec 146 (Enc.sz Lk) (.slice a (xs.length+ys.length) c) (xs.length+ys.length) (List.take ((i+ys.length)*Enc.sz Lk) (cells xs++js)++List.take ((xs.length - i)*Enc.sz Lk) (List.drop (i*Enc.sz Lk) (cells xs++js))++List.drop ((i+ys.length)*Enc.sz Lk+(xs.length - i)*Enc.sz Lk) (cells xs++js))::vc 146 (.slice va ys.length vcp) (ys)::I)
    refine Dz (Ai (As (S3 0 1 2 rfl rfl rfl) (Ah (Gm rfl (Gm rfl (Gr (Eg (l:=i) A3 ty146 rfl rfl om om om) (Gm rfl (Ge0 (Eff.copyR (sz:=Enc.sz Lk) (n:=xs.length+ys.length) (cs:=(List.take ((i+ys.length)*Enc.sz Lk) (cells xs++js)++List.take ((xs.length - i)*Enc.sz Lk) (List.drop (i*Enc.sz Lk) (cells xs++js))++List.drop ((i+ys.length)*Enc.sz Lk+(xs.length - i)*Enc.sz Lk) (cells xs++js))) (k:=i) (q:=ys.length) A3 ty146 rfl om rfl (show Sl κ _ (.slice va ys.length vcp) ys from (Sl.vec (e:=146) (xs:=ys) mm)) om om (fun u hu=>cells_one ys u (List.mem_of_mem_take hu)) rfl am) ?_))))))))
    show G Tryz.prog κ _ _ _ _ ([(82,I64 (((ys.length:Nat):Int))),(81,.slice va ys.length vcp),(80,.slice (adrop a c i (Enc.sz Lk)) ((xs.length+ys.length) - i) (c - i)),(79,I64 ((i:Int))),(78,.slice a (xs.length+ys.length) c),(0,.slice a (xs.length+ys.length) c),(1,I64 ((i:Int))),(2,.slice va ys.length vcp)]:Env) (vec 146 (Enc.sz Lk) (.slice a (xs.length+ys.length) c) (xs.length+ys.length) (List.take (i*Enc.sz Lk) (List.take ((i+ys.length)*Enc.sz Lk) (cells xs++js)++List.take ((xs.length - i)*Enc.sz Lk) (List.drop (i*Enc.sz Lk) (cells xs++js))++List.drop ((i+ys.length)*Enc.sz Lk+(xs.length - i)*Enc.sz Lk) (cells xs++js))++List.take (ys.length*Enc.sz Lk) (cells ys)++List.drop (i*Enc.sz Lk+ys.length*Enc.sz Lk) (List.take ((i+ys.length)*Enc.sz Lk) (cells xs++js)++List.take ((xs.length - i)*Enc.sz Lk) (List.drop (i*Enc.sz Lk) (cells xs++js))++List.drop ((i+ys.length)*Enc.sz Lk+(xs.length - i)*Enc.sz Lk) (cells xs++js)))::vc 146 (.slice va ys.length vcp) (ys)::I)
    refine Af (Ah (Gm rfl (Ga rfl (Af (A2 (Al ?_))))))
    have hC:(List.take (i*Enc.sz Lk) (List.take ((i+ys.length)*Enc.sz Lk) (cells xs++js)++List.take ((xs.length - i)*Enc.sz Lk) (List.drop (i*Enc.sz Lk) (cells xs++js))++List.drop ((i+ys.length)*Enc.sz Lk+(xs.length - i)*Enc.sz Lk) (cells xs++js))++List.take (ys.length*Enc.sz Lk) (cells ys)++List.drop (i*Enc.sz Lk+ys.length*Enc.sz Lk) (List.take ((i+ys.length)*Enc.sz Lk) (cells xs++js)++List.take ((xs.length - i)*Enc.sz Lk) (List.drop (i*Enc.sz Lk) (cells xs++js))++List.drop ((i+ys.length)*Enc.sz Lk+(xs.length - i)*Enc.sz Lk) (cells xs++js)))=cells (List.take i xs++ys++List.drop i xs):=ins_cells hi hjs
    exact A7 rfl rfl (vc 146 (.slice a (List.take i xs++ys++List.drop i xs).length c) (List.take i xs++ys++List.drop i xs)::I) (by rw [hC];show Fit κ _ (vec 146 _ (.slice a (List.take i xs++ys++List.drop i xs).length c) (List.take i xs++ys++List.drop i xs).length (cells (List.take i xs++ys++List.drop i xs))::I);rw [hRl];exact B7) ⟨a,c,by rw [hRl],rfl⟩
theorem InsertL_two{a va:Option Addr}{n m c vcp i:Nat}{xs ys:List Lk}{K:List Item}(hf:Fit κ I (vc 146 (.slice a n c) xs::vc 146 (.slice va m vcp) ys::K))(hn:n=xs.length)(hm:m=ys.length)(hi:i≤xs.length)(hy:0<ys.length)(hsz:xs.length+ys.length≤1000000000) :
  CallS Tryz.prog κ 303 [.slice a n c,I64 (i:Int),.slice va m vcp] I (fun r J=>∃a' c',r = .slice a' (List.take i xs++ys++List.drop i xs).length c'∧J=vc 146 (.slice a' (List.take i xs++ys++List.drop i xs).length c') (List.take i xs++ys++List.drop i xs)::K):=by
 subst hn hm
 exact Cn hf (InsertL_ok hi hy hsz)
theorem BSearchL{v:Value}{xs:List Lk}(hl:Sl κ I v xs)(x:Lk){g:FuncId}{cp_:List Value}{cf:Lk→Lk→Int}(hcb:Cmps Tryz.prog κ I g cp_ cf)(hsz:xs.length≤1000000000000) :
    CallS Tryz.prog κ 302 [v,.agg #[I64 (x.u),I64 (x.v),I64 (x.w),I64 (x.lb),I64 (x.sg),I64 (x.tm)],.func (.func g) #[] cp_.toArray] I (fun r J=>∃i b,r = .tuple #[I64 ((i:Nat):Int),.bool b]∧BFound cf xs x i b∧I=J):=by
 refine B4 hl.le fun hmax=>?_
 refine Ce3 Tryz.func302 rfl rfl ?_
 refine Ah (Ge1 (Bb (cs:=[_,_,_,_,_,_]) rfl rfl rfl) fun b1=>Ga rfl (Ga rfl (Af (Ah (Gm rfl (Gr (Bz (α:=Lk) (xs:=xs) A3 rfl (Bf hl)) (Ga rfl (Af (Ah (Gm rfl (Ga rfl (Ga rfl (Af (Ao (Ax (Bx (σ:=Nat×Nat) (fun s=>([(0,v),(2,.func (.func g) #[] cp_.toArray),(4,.pointer (some ⟨b1,0,none⟩)),(8,I64 (((xs.length:Nat):Int))),(9,I64 (((s.1:Nat):Int))),(10,I64 (((s.2:Nat):Int)))]:Env)) (fun s=>blk b1 [I64 (x.u),I64 (x.v),I64 (x.w),I64 (x.lb),I64 (x.sg),I64 (x.tm)] 146::I) (fun s=>(s.1≤s.2)∧(s.2≤xs.length)∧(0<s.1→cf (at_ xs ((s.1:Int) - 1)) x<0)∧(s.2<xs.length→¬cf (at_ xs (s.2:Int)) x<0)) (fun s=>s.2 - s.1) (0,xs.length) (show ((0:Nat)≤(xs.length:Nat))∧((xs.length:Nat)≤xs.length)∧(0<(0:Nat)→cf (at_ xs (((0:Nat):Int) - 1)) x<0)∧((xs.length:Nat)<xs.length→¬cf (at_ xs ((xs.length:Nat):Int)) x<0) from ⟨om,om,(fun h=>absurd h dc),(fun h=>absurd h om)⟩) (Ac rfl (Ac rfl (Ac rfl (Ac rfl (Ac Cb (Ac Cb Bq)))))) (show Fit κ _ (blk b1 [I64 (x.u),I64 (x.v),I64 (x.w),I64 (x.lb),I64 (x.sg),I64 (x.tm)] 146::I) from Ay) ?_))))))))))))))))
 rintro ⟨i,j⟩ hp
 dsimp only at hp ⊢
 obtain ⟨hij,hj,hlo,hhi⟩:=hp
 refine Ao (Ah (Gm rfl (Gm rfl (Gr (Bc rfl rfl) (Af (A9 rfl (fun c17=>?_) (fun c17=>?_)))))))
 ·refine A0 (Ai (Ax (Ah (Gm rfl (Gm rfl (Gr (Rad rfl rfl) (Gr (D4 Bl Dg rfl om) (Gr (Runs.shr1 rfl rfl) (Gr (Runs.convI Dg Bl rfl (by unfold InR;omega)) (Ga rfl (Af (As (S7 11 0 2 4 8 9 10 rfl rfl rfl rfl rfl rfl rfl) (Ao (Bo mixed (Bu (blk b1 [I64 (x.u),I64 (x.v),I64 (x.w),I64 (x.lb),I64 (x.sg),I64 (x.tm)] 146::I) 8 (Dr 0 rfl (Ad rfl) (Dr 1 rfl (Ad rfl) (Dr 2 rfl (Ad rfl) (Dr 3 rfl (A8 (α:=Lk) (xs:=xs) A3 ty146 rfl rfl (Bf hl) om om) (Dr 4 rfl (B0 (α:=Lk) (xs:=xs) ty146 rfl (Bf hl) om om) (Dr 5 rfl (Bm (vs:=[_,_,_,_,_,_]) ty146) ?_)))))))))))))))))))))
  refine Ds1 6 (Se rfl (Cr hcb.1 (first:=[]) (caps:=cp_) rfl rfl rfl (hcb.2 (at_ xs (((i:Int)+(j:Int)) / 2)) x _ A4)) ?_)
  rintro _ _ ⟨_,_,⟨rfl,rfl⟩,rfl,rfl⟩
  refine ⟨Ay,?_⟩
  refine Dr 7 rfl (Bc rfl rfl) (Dz (Ai (As (S8 31 11 0 2 4 8 9 10 rfl rfl rfl rfl rfl rfl rfl rfl) (A9 rfl (fun c31=>?_) (fun c31=>?_)))))
  ·exact Aw (Gm rfl (Gr (Rad rfl rfl) (Ga rfl (Bj (Aj (B6 (((i+j) / 2+1),(j)) (by dsimp only;exact ⟨om,om,(fun _=>by rw [show (((i+j) / 2+1:Nat):Int) - 1=((i:Int)+(j:Int)) / 2 by omega];exact c31),hhi⟩)))))))
  ·exact Aw (Gm rfl (Ga rfl (Bj (Aj (B6 ((i),((i+j) / 2)) (by dsimp only;exact ⟨om,om,hlo,(fun _=>by rw [show (((i+j) / 2:Nat):Int)=((i:Int)+(j:Int)) / 2 by omega];exact c31)⟩))))))
 ·refine Bt (Ak (Ak (A6 (Ai (Ao (Bo mixed (Bu (blk b1 [I64 (x.u),I64 (x.v),I64 (x.w),I64 (x.lb),I64 (x.sg),I64 (x.tm)] 146::I) 16 (Dr 0 rfl (Ad rfl) (Dr 1 rfl (Ad rfl) (Dr 2 rfl (Ad rfl) (Dr 3 rfl (Bc rfl rfl) (Dr 4 rfl (Ad rfl) (D1 (d:=39) rfl (fun g39=>?_) (fun g39=>?_))))))))))))))
  ·refine Dro 5 rfl (Ad rfl) (Dro 6 rfl (Ad rfl) (Dro 7 rfl (Ad rfl) (Dro 8 rfl (A8 (α:=Lk) (xs:=xs) A3 ty146 rfl rfl (Bf hl) om om) (Dro 9 rfl (B0 (α:=Lk) (xs:=xs) ty146 rfl (Bf hl) om om) (Dro 10 rfl (Bm (vs:=[_,_,_,_,_,_]) ty146) ?_)))))
   refine Ds1 11 (Se rfl (Cr hcb.1 (first:=[]) (caps:=cp_) rfl rfl rfl (hcb.2 (at_ xs (i:Int)) x _ A4)) ?_)
   rintro _ _ ⟨_,_,⟨rfl,rfl⟩,rfl,rfl⟩
   refine ⟨Ay,?_⟩
   refine Dro 12 rfl (Bs rfl rfl) (Dr 13 rfl (Ap rfl rfl) (Dr 14 rfl (Bd rfl) (Dr 15 rfl (Bd rfl) (Dz (Ai (As (S2 7 6 rfl rfl) (A2 ?_)))))))
   have hie:i=j:=by omega
   subst hie
   exact C9 rfl rfl rfl (I) A4 ⟨i,_,rfl,⟨hj,hlo,hhi,(decide_eq_decide.2 ⟨fun h=>⟨by omega,h⟩,fun h=>h.2⟩)⟩,rfl⟩
  ·refine Dpo 5 rfl (Dpo 6 rfl (Dpo 7 rfl (Dpo 8 rfl (Dpo 9 rfl (Dpo 10 rfl (Dpo 11 rfl (Dpo 12 rfl (Dr 13 rfl (Av rfl rfl) (Dr 14 rfl (Bd rfl) (Dr 15 rfl (Bd rfl) (Dz (Ai (As (S2 7 6 rfl rfl) (A2 ?_))))))))))))))
   have hie:i=j:=by omega
   subst hie
   exact C9 rfl rfl rfl (I) A4 ⟨i,_,rfl,⟨hj,hlo,hhi,((decide_eq_false (fun h=>by omega)).symm)⟩,rfl⟩
theorem OrderL_cmps:Cmps Tryz.prog κ I 255 [] Lk.cmp:=⟨call255,fun x y J hf=>OrderL_ok x y⟩
end Go.Sl
