/- A part of the proofs of statements of this seat: contracts of functions, and the plain laws that they lean on. No conditions. -/
import Derived.Test.YtfkcohmipjhfcaaGreatDoorS7
set_option linter.unusedVariables false
set_option linter.unusedSimpArgs false
set_option linter.unusedSectionVars false
/- The links at a time, asked from the events of the window up to it and from what has expired by then. No conditions. -/
open Go.Proofs.Tryz (prog)
namespace Go.Sl
def Due(wd:Int)(out:List Ev):Prop:=∀p e q,out=p++e::q->∀x∈eh p,e.tm<=x.tm+wd
theorem Due.nil{wd:Int}:Due wd []:=λp e q h=>by simp at h
theorem Due.app{wd:Int}{out new:List Ev}(h:Due wd out)(hn:∀p e q,new=p++e::q->∀x∈eh (out++p),e.tm<=x.tm+wd):Due wd (out++new):=λp e q he x hx=>by
 rcases List.append_eq_append_iff.1 he with ⟨a,h1,h2⟩|⟨c,h1,h2⟩
 ·exact hn a e q h2 x (by rw [←h1];exact hx)
 ·cases c with
  |nil=>
   rw [List.append_nil] at h1
   exact hn [] e q (by simpa using h2.symm) x (by rw [List.append_nil,h1];exact hx)
  |cons y c=>
   rw [List.cons_append] at h2
   injection h2 with h3 h4
   subst h3
   exact h p e c h1 x hx
theorem steps_sub:∀(p:List Ev) (xs:List Lk),(∀e∈p,e.kd≠1)->∀x∈p.foldl em xs,x∈xs
 |[],xs,_,x,h=>h
 |e::p,xs,he,x,h=>by
  have h1:=steps_sub p (em xs e) (λy hy=>he y (List.mem_cons_of_mem _ hy)) x h
  unfold em at h1;rw [if_neg (he e List.mem_cons_self)] at h1
  exact (List.mem_filter.1 h1).1
theorem linksL_app(a b:List Ev):eh (a++b)=b.foldl em (eh a):=by unfold eh;rw [List.foldl_append]
theorem gone_mem{kd wd mo nw:Int}{xs:List Lk}{e:Ev}(he:e∈goneL kd wd mo nw xs):e.kd=2/\e.tm=nw:=by
 unfold goneL at he
 obtain ⟨z,hz,rfl⟩:=List.mem_map.1 he
 exact ⟨rfl,rfl⟩
structure DueS (nd wd:Int) (xs:List Lk) (out:List Ev):Prop where
 st:xs=eh out
 val:checkS nd xs=0
 due:Due wd out
theorem DueS.step{nd wd mo:Int}{xs:List Lk}{out:List Ev}(h:DueS nd wd xs out)(h0:0<xs.length):DueS nd wd (xs.filter (inW 2 wd mo (minT xs+wd) xs)) (out++goneL 2 wd mo (minT xs+wd) xs):=by
 refine ⟨by rw [linksL_app,←h.st,gone_steps h.val],filter_val h.val,h.due.app λp e q he x hx=>?_⟩
 have hall:∀y∈goneL 2 wd mo (minT xs+wd) xs,y.kd=2/\y.tm=minT xs+wd:=λy hy=>gone_mem hy
 rw [he] at hall
 have h1:=(hall e (by simp)).2
 rw [linksL_app,←h.st] at hx
 have h2:=steps_sub p xs (λy hy=>by rw [(hall y (by simp [hy])).1];decide) x hx
 have h3:=(minT_spec h0).2 x h2
 omega
theorem DueS.all{nd wd mo:Int}{es:List Ev}(h:StOk nd es)(hw:1<=wd):∀k,k<=es.length->DueS nd wd (slideS 2 wd mo (es.take k)).1 (slideS 2 wd mo (es.take k)).2
 |0,_=>⟨rfl,valNil h.nodes,.nil⟩
 |k+1,hk=>by
  have ih:=DueS.all (mo:=mo) h hw k om
  have hfe:=h.fit k om
  rw [slideS_succ om]
  generalize slideS 2 wd mo (es.take k)=s at ih ⊢
  generalize e_ es k=e at hfe ⊢
  obtain ⟨xs,out⟩:=s
  have hev:evStep 2 wd mo (xs,out) e=(em (ageL wd mo e.tm xs out).1 e,(ageL wd mo e.tm xs out).2++[e]):=rfl
  rw [hev]
  obtain ⟨h1,h2⟩:=ageL_ind (mo:=mo) (P:=λxs out=>DueS nd wd xs out) (λxs out hs hP=>hP.step hs.1) xs.length xs out (Nat.le_refl _) ih
  generalize ageL wd mo e.tm xs out=a at h1 h2 ⊢
  refine ⟨by simp only;rw [linksL_app,←h1.st];rfl,stepL_val h1.val hfe,h1.due.app λp y q he x hx=>?_⟩
  cases p with
  |nil=>
   rw [List.nil_append] at he
   injection he with h3 h4
   subst h3
   rw [List.append_nil,←h1.st] at hx
   have h5:=(minT_spec (List.length_pos_of_mem hx)).2 x hx
   have h6:=List.length_pos_of_mem hx
   omega
  |cons z p=>simp at he
theorem slide3_asc{nd mo:Int}{es:List Ev}(h:StOk nd es):∀k,k<=es.length->(slideS 3 0 mo (es.take k)).2.Pairwise (λa b=>a.tm<=b.tm)/\∀e∈(slideS 3 0 mo (es.take k)).2,e.tm<=lastT es k
 |0,_=>⟨List.Pairwise.nil,λe he=>(by cases he)⟩
 |k+1,hk=>by
  have ih:=slide3_asc (mo:=mo) h k om
  have hto:=h.asc k om
  rw [slideS_succ om,evStep3]
  generalize slideS 3 0 mo (es.take k)=s at ih ⊢
  generalize hee:e_ es k=e at hto ⊢
  have hlt:lastT es (k+1)=e.tm:=by rw [lastT_succ,hee]
  rw [hlt]
  have hg:∀y∈goneL 3 0 mo e.tm (em s.1 e),y.tm=e.tm:=λy hy=>(gone_mem hy).2
  have hb:∀y∈s.2++[e],y.tm<=e.tm:=λy hy=>by
   rcases List.mem_append.1 hy with hy|hy
   ·have:=ih.2 y hy;omega
   ·rw [List.mem_singleton.1 hy];exact Int.le_refl _
  refine ⟨List.pairwise_append.2 ⟨List.pairwise_append.2 ⟨ih.1,List.pairwise_singleton _ _,λx hx y hy=>?_⟩,?_,λx hx y hy=>?_⟩,λy hy=>?_⟩
  ·rw [List.mem_singleton.1 hy];exact hb x (List.mem_append_left _ hx)
  ·refine List.Pairwise.imp_of_mem (R:=λ_ _=>True) (λhx hy _=>?_) (List.pairwise_of_forall (λ_ _=>trivial))
   rw [hg _ hx,hg _ hy];exact Int.le_refl _
  ·rw [hg y hy];exact hb x hx
  ·rcases List.mem_append.1 hy with hy|hy
   ·exact hb y hy
   ·rw [hg y hy];exact Int.le_refl _
section
variable {nd kd wd mo:Int}{es:List Ev}
theorem StOk.pw(h:StOk nd es):es.Pairwise λa b=>a.tm<=b.tm:=by
 rw [List.pairwise_iff_getElem]
 intro i j hi hj hij
 have h1:=h.up j om i hij
 have h2:=h.asc j hj
 rw [Dx es i hi] at h1
 rw [Dx es j hj] at h2
 omega
theorem HistOk.asc(h:HistOk nd kd wd mo es):(slideS kd wd mo es).2.Pairwise λa b=>a.tm<=b.tm:=by
 have he:es.take es.length=es:=List.take_length
 rcases checkW_cases h.win with ⟨rfl,rfl,rfl⟩|⟨rfl,hw,rfl⟩|⟨rfl,rfl,hm⟩
 ·rw [all_same];exact h.st.pw
 ·have:=(BehB.all (mo:=0) h.st hw.1 es.length (Nat.le_refl _)).asc
  rwa [he] at this
 ·have:=(slide3_asc (mo:=mo) h.st es.length (Nat.le_refl _)).1
  rwa [he] at this
theorem HistOk.due(h:HistOk nd 2 wd mo es):Due wd (slideS 2 wd mo es).2:=by
 have he:es.take es.length=es:=List.take_length
 rcases checkW_cases h.win with ⟨h1,_⟩|⟨_,hw,_⟩|⟨h1,_⟩
 ·exact absurd h1 dc
 ·have:=(DueS.all (mo:=mo) h.st hw.1 es.length (Nat.le_refl _)).due
  rwa [he] at this
 ·exact absurd h1 dc
end
theorem takeWhile_filter{p:Ev->Bool}:∀{E:List Ev},E.Pairwise (λa b=>p b=true->p a=true)->E.takeWhile p=E.filter p
 |[],_=>rfl
 |x::E,h=>by
  obtain ⟨h1,h2⟩:=List.pairwise_cons.1 h
  cases hp:p x with
  |true=>rw [List.takeWhile_cons_of_pos hp,List.filter_cons_of_pos hp,takeWhile_filter h2]
  |false=>
   rw [List.takeWhile_cons_of_neg (by simp [hp]),List.filter_cons_of_neg (by simp [hp])]
   refine (List.filter_eq_nil_iff.2 λy hy hy2=>?_).symm
   rw [h1 y hy hy2] at hp;cases hp
def upT(T:Int)(e:Ev):Bool:=decide (e.tm<=T)
theorem up_asc{E:List Ev}(h:E.Pairwise λa b=>a.tm<=b.tm)(T:Int):E.takeWhile (upT T)=E.filter (upT T):=
 takeWhile_filter (h.imp λhab hb=>by unfold upT at hb ⊢; have:=of_decide_eq_true hb;exact decide_eq_true om)
theorem split_up{E:List Ev}(h:E.Pairwise λa b=>a.tm<=b.tm)(T:Int):(∀e∈E,e.tm<=T)\/∃e q,E=E.filter (upT T)++e::q/\T<e.tm:=by
 rw [←up_asc h]
 have h1:=List.takeWhile_append_dropWhile (p:=upT T) (l:=E)
 cases hd:E.dropWhile (upT T) with
 |nil=>
  left
  rw [hd,List.append_nil,up_asc h] at h1
  intro e he
  rw [←h1] at he
  exact of_decide_eq_true (List.mem_filter.1 he).2
 |cons e q=>
  right
  refine ⟨e,q,by rw [←hd,h1],?_⟩
  have hne:E.dropWhile (upT T)≠[]:=by rw [hd];simp
  have h2:=List.head_dropWhile_not (upT T) hne
  have h3:(E.dropWhile (upT T)).head hne=e:=by simp only [hd,List.head_cons]
  rw [h3] at h2
  unfold upT at h2
  have:=of_decide_eq_false h2
  omega
def refK(kd wd mo:Int)(es:List Ev)(T:Int):List Lk:=
 if kd=2 then (eh ((slideS kd wd mo es).2.filter (upT T))).filter (aliveB wd T) else eh ((slideS kd wd mo es).2.filter (upT T))
theorem place_spec(l:List Ev)(x:Ev):∀n,n<=l.length->placeG evC l x n<=n/\(∀i:Nat,placeG evC l x n<=i->i<n->x.tm<(e_ l i).tm)/\(0<placeG evC l x n->(e_ l ((placeG evC l x n - 1:Nat):Int)).tm<=x.tm)
 |0,_=>⟨Nat.le_refl _,λi h1 h2=>by omega,λh=>absurd h (Nat.lt_irrefl 0)⟩
 |n+1,hn=>by
  unfold placeG
  split
  ·rename_i h
   obtain ⟨h1,h2,h3⟩:=place_spec l x n om
   refine ⟨by omega,λi hi hlt=>?_,h3⟩
   by_cases e:i=n
   ·subst e;exact evC_neg.1 h
   ·exact h2 i hi om
  ·rename_i h
   refine ⟨Nat.le_refl _,λi h1 h2=>by omega,λ_=>?_⟩
   have:¬x.tm<(e_ l n).tm:=λhh=>h (evC_neg.2 hh)
   show (e_ l n).tm<=x.tm
   omega
theorem insert_asc{l:List Ev}(h:l.Pairwise λa b=>a.tm<=b.tm)(x:Ev):(insertG evC l x).Pairwise λa b=>a.tm<=b.tm:=by
 obtain ⟨h1,h2,h3⟩:=place_spec l x l.length (Nat.le_refl _)
 unfold insertG insG
 generalize placeG evC l x l.length=p at h1 h2 h3
 have hg:=List.pairwise_iff_getElem.1 h
 have ha:∀a∈l.take p,a.tm<=x.tm:=λa ha=>by
  obtain ⟨i,hi,rfl⟩:=List.getElem_of_mem ha
  rw [List.length_take] at hi
  rw [List.getElem_take]
  have h4:=h3 om
  rw [Dx l (p - 1) om] at h4
  by_cases e:i=p - 1
  ·subst e;exact h4
  ·have:=hg i (p - 1) om om om;omega
 have hb:∀b∈l.drop p,x.tm<=b.tm:=λb hb=>by
  obtain ⟨i,hi,rfl⟩:=List.getElem_of_mem hb
  rw [List.length_drop] at hi
  rw [List.getElem_drop]
  have h4:=h2 (p+i) om om
  rw [Dx l (p+i) om] at h4
  omega
 refine List.pairwise_append.2 ⟨h.sublist (List.take_sublist _ _),List.pairwise_cons.2 ⟨hb,h.sublist (List.drop_sublist _ _)⟩,λa ha' b hb'=>?_⟩
 rcases List.mem_cons.1 hb' with rfl|hb'
 ·exact ha a ha'
 ·have h5:=ha a ha';have h6:=hb b hb';omega
theorem isortC_acc:∀(xs acc:List Ev),acc.Pairwise (λa b=>a.tm<=b.tm)->(xs.foldl (insertG evC) acc).Pairwise λa b=>a.tm<=b.tm
 |[],acc,h=>h
 |x::xs,acc,h=>isortC_acc xs _ (insert_asc h x)
theorem isortC_asc(xs:List Ev):(isortG evC xs).Pairwise λa b=>a.tm<=b.tm:=isortC_acc xs [] List.Pairwise.nil
theorem cutsE_filter:∀(E:List Ev) (xs:List Lk),(∀e∈E,e.kd≠1)->E.foldl em xs=xs.filter λx=>E.all λe=> !hitE e x
 |[],xs,_=>(List.filter_eq_self.2 λ_ _=>rfl).symm
 |e::E,xs,h=>by
  have h1:em xs e=xs.filter λx=> !hitE e x:=by unfold em;rw [if_neg (h e List.mem_cons_self)]
  rw [List.foldl_cons,h1,cutsE_filter E _ (λy hy=>h y (List.mem_cons_of_mem _ hy)),List.filter_filter]
  refine List.filter_congr λx _=>?_
  rw [List.all_cons,Bool.and_comm]
theorem hit_cutAt{wd:Int}{z x:Lk}(hz:z.u<z.v):hitE (cutAt wd z) x=decide (x.p=z.p):=by
 rw [hit_two (show (cutAt wd z).kd=2 from rfl)]
 have:(ei (cutAt wd z)).p=z.p:=by
  rw [lk_p];unfold ei cutAt;simp only
  rw [if_neg om,if_pos hz];exact ⟨rfl,rfl⟩
 rw [this]
section
variable {nd kd wd mo T:Int}{es:List Ev}
theorem HistOk.all_asc(h:HistOk nd kd wd mo es):(allE kd wd mo es).Pairwise λa b=>a.tm<=b.tm:=by
 unfold allE
 refine List.pairwise_append.2 ⟨h.asc,isortC_asc _,λx hx y hy=>?_⟩
 have hy:=(D3 _ _).mem_iff.1 hy
 unfold lateL at hy
 obtain ⟨z,hz,rfl⟩:=List.mem_map.1 hy
 obtain ⟨h1,h2⟩:=List.mem_filter.1 hz
 unfold lateP at h2
 have h2:=of_decide_eq_true h2
 show x.tm<=z.tm+wd
 rcases checkW_cases h.win with ⟨e1,_⟩|⟨e1,hw,e3⟩|⟨e1,_⟩
 ·omega
 ·subst e1
  have he:es.take es.length=es:=List.take_length
  have hB:=BehB.all (mo:=mo) h.st hw.1 es.length (Nat.le_refl _)
  rw [he] at hB
  rw [←h.links] at h1
  have h3:=hB.le x hx
  have h4:=hB.inv.al rfl z h1
  omega
 ·omega
theorem linksL_val(h:HistOk nd kd wd mo es){E:List Ev}(hE:∀e∈E,FitOk nd e):checkS nd (eh E)=0:=steps_val h.st.nodes _ _ (valNil h.st.nodes) hE
theorem atK_ref(h:HistOk nd kd wd mo es)(hT:0<=T/\T<=1048576):atK kd wd mo es T=refK kd wd mo es T:=by
 have e0:atK kd wd mo es T=eh ((allE kd wd mo es).filter (upT T)):=by
  unfold atK;rw [←up_asc h.all_asc];rfl
 rw [e0]
 unfold allE refK
 rw [List.filter_append]
 by_cases hk:kd=2
 ·rw [if_pos hk]
  subst hk
  have hfit:=h.fit
  have hvS:checkS nd (eh ((slideS 2 wd mo es).2.filter (upT T)))=0:=linksL_val h λe he=>hfit e (List.mem_filter.1 he).1
  rcases split_up h.asc T with hall|⟨e,q,he,hTe⟩
  ·have hS:(slideS 2 wd mo es).2.filter (upT T)=(slideS 2 wd mo es).2:=List.filter_eq_self.2 λe he=>decide_eq_true (hall e he)
   rw [hS] at hvS ⊢
   rw [linksL_app]
   generalize eh (slideS 2 wd mo es).2=X at hvS
   have hm:∀y,y∈(isortG evC (lateL 2 wd X)).filter (upT T)↔∃z∈X,z.tm+wd<=T/\y=cutAt wd z:=λy=>by
    rw [List.mem_filter,(D3 evC (lateL 2 wd X)).mem_iff]
    unfold lateL
    rw [List.mem_map]
    constructor
    ·rintro ⟨⟨z,hz,rfl⟩,h2⟩
     exact ⟨z,(List.mem_filter.1 hz).1,of_decide_eq_true h2,rfl⟩
    ·rintro ⟨z,hz,h2,rfl⟩
     exact ⟨⟨z,List.mem_filter.2 ⟨hz,decide_eq_true ⟨rfl,by omega⟩⟩,rfl⟩,decide_eq_true h2⟩
   rw [cutsE_filter _ X (λy hy=>by obtain ⟨z,_,_,rfl⟩:=(hm y).1 hy;show (2:Int)≠1;decide)]
   refine List.filter_congr λx hx=>?_
   unfold aliveB
   rw [Bool.eq_iff_iff,List.all_eq_true,decide_eq_true_eq]
   constructor
   ·intro hh
    refine Classical.byContradiction λhn=>?_
    have h1:=hh _ ((hm _).2 ⟨x,hx,by omega,rfl⟩)
    rw [hit_cutAt (val_uv hvS x hx).2.1] at h1
    simp at h1
   ·intro hh y hy
    obtain ⟨z,h1,h2,rfl⟩:=(hm y).1 hy
    have hne:x.p≠z.p:=λhp=>by
     have:=asc_p (checkS_ok hvS).2.2 hx h1 hp
     subst this;omega
    rw [hit_cutAt (val_uv hvS z h1).2.1]
    simp [hne]
  ·have hnil:(isortG evC (lateL 2 wd (eh (slideS 2 wd mo es).2))).filter (upT T)=[]:=by
    refine List.filter_eq_nil_iff.2 λy hy hy2=>?_
    have hy3:=of_decide_eq_true hy2
    have h1:=(List.pairwise_append.1 h.all_asc).2.2 e (by rw [he];simp) y hy
    omega
   rw [hnil,List.append_nil]
   refine (List.filter_eq_self.2 λx hx=>?_).symm
   have:=h.due _ e q he x hx
   unfold aliveB
   exact decide_eq_true om
 ·rw [if_neg hk]
  have hl:lateL kd wd (eh (slideS kd wd mo es).2)=[]:=by
   unfold lateL
   rw [List.filter_eq_nil_iff.2 λx _ hx=>by unfold lateP at hx;exact hk (of_decide_eq_true hx).1]
   rfl
  rw [hl]
  have:(isortG evC ([]:List Ev)).filter (upT T)=[]:=rfl
  rw [this,List.append_nil]
end
end Go.Sl
namespace Go.Proofs
def Tryz.sortI_ren:Go.Shelf.Ren:=⟨fun |5=>142|8=>218|7=>217|19=>269|20=>270|10=>260|11=>261|12=>262|13=>263|14=>264|15=>265|16=>266|17=>267|18=>268|30=>304|31=>305|32=>306|33=>307|34=>308|35=>277|40=>326|n=>n,fun |23=>22|25=>3|3=>3|32=>181|22=>22|0=>0|44=>291|46=>175|4=>4|36=>285|35=>284|41=>273|5=>5|9=>9|53=>320|57=>324|63=>346|64=>259|n=>n,fun |n=>n⟩
theorem Tryz.sortI:Go.Proofs.SlLaysM.n5 prog Tryz.sortI_ren:={
 mixed:=by kernel_rfl,
 f5:=⟨Tryz.f142.name,by decide,Tryz.func142.trans (congrArg some (by kernel_rfl))⟩,
 f7:=⟨Tryz.f217.name,by decide,Tryz.func217.trans (congrArg some (by kernel_rfl))⟩,
 f8:=Tryz.func218.trans (congrArg some (by kernel_rfl)),
 f10:=⟨Tryz.f260.name,by decide,Tryz.func260.trans (congrArg some (by kernel_rfl))⟩,
 f11:=⟨Tryz.f261.name,by decide,Tryz.func261.trans (congrArg some (by kernel_rfl))⟩,
 f12:=⟨Tryz.f262.name,by decide,Tryz.func262.trans (congrArg some (by kernel_rfl))⟩,
 f13:=⟨Tryz.f263.name,by decide,Tryz.func263.trans (congrArg some (by kernel_rfl))⟩,
 f14:=⟨Tryz.f264.name,by decide,Tryz.func264.trans (congrArg some (by kernel_rfl))⟩,
 f15:=⟨Tryz.f265.name,by decide,Tryz.func265.trans (congrArg some (by kernel_rfl))⟩,
 f16:=⟨Tryz.f266.name,by decide,Tryz.func266.trans (congrArg some (by kernel_rfl))⟩,
 f17:=⟨Tryz.f267.name,by decide,Tryz.func267.trans (congrArg some (by kernel_rfl))⟩,
 f18:=⟨Tryz.f268.name,by decide,Tryz.func268.trans (congrArg some (by kernel_rfl))⟩,
 f19:=Tryz.func269.trans (congrArg some (by kernel_rfl)),
 f20:=Tryz.func270.trans (congrArg some (by kernel_rfl)),
 f30:=⟨Tryz.f304.name,by decide,Tryz.func304.trans (congrArg some (by kernel_rfl))⟩,
 f31:=Tryz.func305.trans (congrArg some (by kernel_rfl)),
 f32:=Tryz.func306.trans (congrArg some (by kernel_rfl)),
 f33:=⟨Tryz.f307.name,by decide,Tryz.func307.trans (congrArg some (by kernel_rfl))⟩,
 f34:=⟨Tryz.f308.name,by decide,Tryz.func308.trans (congrArg some (by kernel_rfl))⟩,
 f35:=⟨Tryz.f277.name,by decide,Tryz.func277.trans (congrArg some (by kernel_rfl))⟩,
 f40:=⟨Tryz.f326.name,by decide,Tryz.func326.trans (congrArg some (by kernel_rfl))⟩,
 t0:=Tryz.underlying0,
 a0:=Tryz.isAgg0,
 z0:=Tryz.sizeOf0,
 v0:=Tryz.zeroValue0,
 t3:=Tryz.underlying3,
 a3:=Tryz.isAgg3,
 z3:=Tryz.sizeOf3,
 v3:=Tryz.zeroValue3,
 t4:=Tryz.underlying4,
 a4:=Tryz.isAgg4,
 z4:=Tryz.sizeOf4,
 v4:=Tryz.zeroValue4,
 t5:=Tryz.underlying5,
 a5:=Tryz.isAgg5,
 z5:=Tryz.sizeOf5,
 v5:=Tryz.zeroValue5,
 t9:=Tryz.underlying9,
 a9:=Tryz.isAgg9,
 z9:=Tryz.sizeOf9,
 v9:=Tryz.zeroValue9,
 t22:=Tryz.underlying22,
 a22:=Tryz.isAgg22,
 z22:=Tryz.sizeOf22,
 v22:=Tryz.zeroValue22,
 t23:=Tryz.underlying22,
 a23:=Tryz.isAgg22,
 z23:=Tryz.sizeOf22,
 v23:=Tryz.zeroValue22,
 t25:=Tryz.underlying3,
 a25:=Tryz.isAgg3,
 z25:=Tryz.sizeOf3,
 v25:=Tryz.zeroValue3,
 t32:=Tryz.underlying181,
 a32:=Tryz.isAgg181,
 z32:=Tryz.sizeOf181,
 v32:=Tryz.zeroValue181,
 t35:=Tryz.underlying284,
 a35:=Tryz.isAgg284,
 z35:=Tryz.sizeOf284,
 v35:=Tryz.zeroValue284,
 t36:=Tryz.underlying285,
 a36:=Tryz.isAgg285,
 z36:=Tryz.sizeOf285,
 v36:=Tryz.zeroValue285,
 t41:=Tryz.underlying273,
 a41:=Tryz.isAgg273,
 z41:=Tryz.sizeOf273,
 v41:=Tryz.zeroValue273,
 t44:=Tryz.underlying291,
 a44:=Tryz.isAgg291,
 z44:=Tryz.sizeOf291,
 v44:=Tryz.zeroValue291,
 t46:=Tryz.underlying175,
 a46:=Tryz.isAgg175,
 z46:=Tryz.sizeOf175,
 v46:=Tryz.zeroValue175,
 t53:=Tryz.underlying320,
 a53:=Tryz.isAgg320,
 z53:=Tryz.sizeOf320,
 v53:=Tryz.zeroValue320,
 t57:=Tryz.underlying324,
 a57:=Tryz.isAgg324,
 z57:=Tryz.sizeOf324,
 v57:=Tryz.zeroValue324,
 t63:=Tryz.underlying346,
 a63:=Tryz.isAgg346,
 z63:=Tryz.sizeOf346,
 v63:=Tryz.zeroValue346,
 t64:=Tryz.underlying259,
 a64:=Tryz.isAgg259,
 z64:=Tryz.sizeOf259,
 v64:=Tryz.zeroValue259}
end Go.Proofs
namespace Go.Sl
section
variable {α:Type}[Inhabited α][DecidableEq α]
def compG(xs:List α):Nat->List α
 |0=>[]
 |k+1=>if 0<k/\e_ xs k=e_ xs ((k:Int) - 1) then compG xs k else compG xs k++[e_ xs k]
theorem compG_len(xs:List α):∀k,(compG xs k).length<=k
 |0=>by simp [compG]
 |k+1=>by
  have:=compG_len xs k
  simp only [compG]
  split
  ·omega
  ·rw [List.length_append];simp;omega
theorem compG_take{xs:List α}{k:Nat}(h:∀j,j<k->0<j->e_ xs j≠e_ xs ((j:Int) - 1))(hk:k<=xs.length):compG xs k=xs.take k:=by
 induction k with
 |zero=>rfl
 |succ k ih=>
  simp only [compG]
  rw [if_neg λe=>h k (by omega) e.1 e.2,ih (λj hj h0=>h j (by omega) h0) (by omega),take_at xs k (by omega)]
theorem compG_keep{xs ys:List α}{m q:Nat}(h:ys.take m=compG xs q)(h0:0<q)(he:¬e_ ys q≠e_ ys ((q:Int) - 1))(h1:e_ ys q=e_ xs q)(h2:e_ ys ((q:Int) - 1)=e_ xs ((q:Int) - 1)):ys.take m=compG xs (q+1):=by
 rw [h1,h2] at he
 simp only [compG]
 rw [if_pos ⟨h0,Classical.not_not.1 he⟩,h]
theorem compG_put{xs ys:List α}{m q:Nat}(h:ys.take m=compG xs q)(hm:m<ys.length)(he:e_ ys q≠e_ ys ((q:Int) - 1))(h1:e_ ys q=e_ xs q)(h2:e_ ys ((q:Int) - 1)=e_ xs ((q:Int) - 1)):(ys.set m (e_ ys q)).take (m+1)=compG xs (q+1):=by
 rw [h1,h2] at he
 simp only [compG]
 rw [if_neg λe=>he e.2,←h,h1,List.take_add_one,List.take_set_of_le (Nat.le_refl _)]
 simp [hm]
theorem at_dropG(xs:List α)(l:Nat)(i:Int)(h0:0<=i):e_ (xs.drop l) i=e_ xs ((l:Int)+i):=by
 unfold e_
 rw [List.getD_eq_getElem?_getD,List.getD_eq_getElem?_getD,List.getElem?_drop]
 congr 2;omega
end
theorem compZ_spec{xs:List Int}(h:xs.Pairwise (· <= ·)):∀k,k<=xs.length->(compG xs k).Pairwise (· < ·)/\(∀x,x∈compG xs k↔x∈xs.take k)
 |0,_=>by simp [compG]
 |k+1,hk=>by
  obtain ⟨h1,h2⟩:=compZ_spec h k (by omega)
  have hle:∀i j:Nat,i<j->j<xs.length->e_ xs i<=e_ xs j:=λi j hij hj=>by
   rw [at_get xs i (by omega),at_get xs j hj]
   exact (List.pairwise_iff_getElem.1 h) i j (by omega) hj hij
  rw [take_at xs k (by omega)]
  simp only [compG]
  have mem:∀a,a∈xs.take k->∃j:Nat,j<k/\a=e_ xs j:=λa ha=>by
   obtain ⟨j,hj,rfl⟩:=List.getElem_of_mem ha
   rw [List.length_take] at hj
   exact ⟨j,by omega,by rw [List.getElem_take,at_get xs j (by omega)]⟩
  split
  ·rename_i hc
   refine ⟨h1,λx=>?_⟩
   rw [h2,List.mem_append,List.mem_singleton]
   refine ⟨.inl,λe=>e.elim id λe=>?_⟩
   subst e
   rw [hc.2,show (k:Int) - 1=((k - 1:Nat):Int) by omega,at_get xs (k - 1) (by omega)]
   exact List.mem_take_iff_getElem.2 ⟨k - 1,by omega,rfl⟩
  ·rename_i hc
   refine ⟨List.pairwise_append.2 ⟨h1,List.pairwise_singleton _ _,λa ha b hb=>?_⟩,λx=>by rw [List.mem_append,List.mem_append,h2]⟩
   rw [List.mem_singleton.1 hb]
   obtain ⟨j,hj,rfl⟩:=mem a ((h2 a).1 ha)
   have h3:=hle (k - 1) k (by omega) (by omega)
   have h4:e_ xs j<=e_ xs ((k - 1:Nat):Int):=by
    by_cases e:j=k - 1
    ·rw [e];exact Int.le_refl _
    ·exact hle j (k - 1) (by omega) (by omega)
   have h5:e_ xs k≠e_ xs ((k:Int) - 1):=λe=>hc ⟨by omega,e⟩
   rw [show (k:Int) - 1=((k - 1:Nat):Int) by omega] at h5
   omega
theorem compZ_asc{xs:List Int}(h:xs.Pairwise (· <= ·)):(compG xs xs.length).Pairwise (· < ·):=(compZ_spec h _ (Nat.le_refl _)).1
theorem mem_compZ{xs:List Int}(h:xs.Pairwise (· <= ·)){x:Int}:x∈compG xs xs.length↔x∈xs:=by
 have:=(compZ_spec h _ (Nat.le_refl _)).2 x
 rwa [List.take_length] at this
end Go.Sl
namespace Go.Sl
open Go.Proofs
set_option maxRecDepth 4000
theorem ext_at{α:Type}[Inhabited α]{xs ys:List α}(hl:xs.length=ys.length)(h:∀j,j<xs.length->e_ xs j=e_ ys j):xs=ys:=by
 refine List.ext_getElem hl λj h1 h2=>?_
 have:=h j h1
 rwa [Dx xs j h1,Dx ys j h2] at this
theorem Few_ok{κ:Ctx}{I:List Item}{la:Option Addr}{ln lc:Nat} :
    ep prog κ 16 [.slice la ln lc] I (λr J=>r = .bool (decide ((ln:Int)<=500))/\I=J):=by
 refine Ce1 Tryz.func16 C C ?_
 exact Ah (Ga C (Af (Ah (Gm C (Gr (Bm Ac C) (Gr (Du C C) (Ga C (Af (Aw (A1 C C I A0 ⟨rfl,rfl⟩))))))))))
variable {κ:Ctx}{I:List Item}
theorem sortI_ok{e:TypeId}{ad:Option Addr}{c:Nat}{xs:List Int}(hsz:xs.length<4611686018427387904):ep prog κ 142 [.slice ad xs.length c] (vc e (.slice ad xs.length c) xs::I) λr J=>r = .tuple #[]/\J=vc e (.slice ad xs.length c) (sortZ xs)::I:=
 (sortI_any (κ:=κ) (I:=I) Tryz.sortI (e:=e) (ad:=ad) (c:=c) hsz).mono λr J ⟨h1,h2⟩=>⟨h1,by rw [h2,El]⟩
theorem CompactI_ok{a:Option Addr}{c:Nat}{xs:List Int}(hsz:xs.length<1000000000000):ep prog κ 143 [.slice a xs.length c] (vc 3 (.slice a xs.length c) (xs)::I) (λr J=>r = .slice a (compG xs xs.length).length c/\J=vc 3 (.slice a (compG xs xs.length).length c) (compG xs xs.length)::I):=by
 refine B3 (vc.cap List.mem_cons_self) λhcap=>?_
 refine Ce1 Tryz.func143 C C ?_
 refine Ah (Ga C (Af (Au (Ah (Gm C (Gr (Bm Ac C) (Gr (A9 C C) (Af (A6 C (λc8=>?_) (λc8=>?_))))))))))
 ·refine Ah (Gm C (Ga C (Af (Aw (Ai ?_)))))
  have hc:compG xs xs.length=xs:=(compG_take (λj h1 h2=>by omega) (Nat.le_refl _)).trans (List.take_length)
  exact A1 C C (vc 3 (.slice a (compG xs xs.length).length c) (compG xs xs.length)::I) (by rw [hc];exact A5) ⟨by rw [hc],rfl⟩
 ·refine Ay (Aj (Au (Ah (Ga C (Af (A4 (Bu (σ:=Nat) (λs=>([(0,.slice a xs.length c),(3,e7 ((s:Nat):Int))]:Env)) (λs=>vc 3 (.slice a xs.length c) (xs)::I) (λs=>(1<=s/\s<=xs.length)/\(∀j,j<s->0<j->e_ xs j≠e_ xs ((j:Int) - 1))) (λs=>xs.length - s) 1 (show (1<=(1:Nat)/\(1:Nat)<=xs.length)/\(∀j,j<(1:Nat)->0<j->e_ xs j≠e_ xs ((j:Int) - 1)) from ⟨om,(λj h1 h2=>by omega)⟩) (Aa C (Aa B9 Bj)) (show Fit κ _ (vc 3 (.slice a xs.length c) (xs)::I) from A5) ?_)))))))
  rintro k hp
  obtain ⟨hk,hne⟩:=hp
  refine Au (Ah (Gm C (Gm C (Gr (Bm Ac C) (Gr (A9 C C) (Af (A6 C (λc13=>?_) (λc13=>?_))))))))
  ·refine Ay (Aj (Au (A4 (Au (Bl mixed (Br (vc 3 (.slice a xs.length c) (xs)::I) 10 (Dr 0 C (Ad C) (Dr 1 C (Ad C) (Dr 2 C (A3 (α:=Int) (xs:=xs) Ac ef C C Bg om (by first|omega|(simp only [List.length_drop];omega))) (Dr 3 C (Bz (xs:=xs) ef C Bg om (by first|omega|(simp only [List.length_drop];omega))) (Dr 4 C (Ad C) (Dr 5 C (Ad C) (Dr 6 C (Rsu C C) (Dr 7 C (A3 (α:=Int) (xs:=xs) Ac ef C C Bg om (by first|omega|(simp only [List.length_drop];omega))) (Dr 8 C (Bz (xs:=xs) ef C Bg om (by first|omega|(simp only [List.length_drop];omega))) (Dr 9 C (Bi C C) (Dz (Aj (Aq (S3 25 0 3 C C C) (A6 C (λc25=>?_) (λc25=>?_)))))))))))))))))))))
   ·refine Ah (Gm C (Gm C (Gr (Eg (α:=Int) (xs:=xs) (l:=k) Ac ef C C om Bg om) (Ga C (Af (Au (Ah (Ga C (Af (A4 (Bu (σ:=Nat×Nat×(List Int)) (λs=>([(0,.slice a xs.length c),(3,e7 ((s.1:Nat):Int)),(4,.slice (adrop a c k (Enc.sz Int)) (List.drop k xs).length (c - k)),(5,e7 ((s.2.1:Nat):Int))]:Env)) (λs=>vc 3 (.slice a xs.length c) (s.2.2)::I) (λs=>(1<=s.2.1/\k+s.2.1<=xs.length)/\(s.2.2.length=xs.length)/\(1<=s.1/\s.1<k+s.2.1)/\(s.2.2.take s.1=compG xs (k+s.2.1))/\(∀j,k+s.2.1<=j+1->e_ s.2.2 j=e_ xs j)) (λs=>xs.length - (k+s.2.1)) (k,1,xs) (show (1<=(1:Nat)/\k+(1:Nat)<=xs.length)/\((xs:List Int).length=xs.length)/\(1<=(k:Nat)/\(k:Nat)<k+(1:Nat))/\((xs:List Int).take (k:Nat)=compG xs (k+(1:Nat)))/\(∀j,k+(1:Nat)<=j+1->e_ (xs:List Int) j=e_ xs j) from ⟨om,om,om,(by rw [←compG_take hne om];simp only [compG];rw [if_pos ⟨by omega,c25⟩]),(λ_ _=>rfl)⟩) (Aa C (Aa B9 (Aa C (Aa B9 Bj)))) (show Fit κ _ (vc 3 (.slice a xs.length c) ((xs))::I) from A5) ?_)))))))))))
    rintro ⟨m,q,ys⟩ hp
    dsimp only at hp ⊢
    obtain ⟨hq,hyl,hm,htk,hsame⟩:=hp
    have hdl:(List.drop k xs).length=xs.length - k:=List.length_drop
    have hq1:=hsame (k+q) om
    have hq2:=hsame (k+q - 1) om
    rw [show ((k+q - 1:Nat):Int)=((k+q:Nat):Int) - 1 by omega] at hq2
    refine Au (Ah (Gm C (Gm C (Gr (Bm Ac C) (Gr (A9 C C) (Af (A6 C (λc32=>?_) (λc32=>?_))))))))
    ·refine Ay (Aj (Au (A4 (Au (Bl mixed (Br (vc 3 (.slice a xs.length c) (ys)::I) 10 (Dr 0 C (Ad C) (Dr 1 C (Ad C) (Dr 2 C (A3 (α:=Int) (xs:=List.drop k ys) Ac ef C C (Ex Bg om (by rw [List.length_drop];omega)) om (by first|omega|(simp only [List.length_drop];omega))) (Dr 3 C (Bz (xs:=List.drop k ys) ef C (Ex Bg om (by rw [List.length_drop];omega)) om (by first|omega|(simp only [List.length_drop];omega))) (Dr 4 C (Ad C) (Dr 5 C (Ad C) (Dr 6 C (Rsu C C) (Dr 7 C (A3 (α:=Int) (xs:=List.drop k ys) Ac ef C C (Ex Bg om (by rw [List.length_drop];omega)) om (by first|omega|(simp only [List.length_drop];omega))) (Dr 8 C (Bz (xs:=List.drop k ys) ef C (Ex Bg om (by rw [List.length_drop];omega)) om (by first|omega|(simp only [List.length_drop];omega))) (Dr 9 C (Be C C) (Dz (Aj (Aq (S5 44 0 3 4 5 C C C C C) (A6 C (λc44=>?_) (λc44=>?_)))))))))))))))))))))
     ·refine Ah (Gm C (Gm C (Gm C (Gm C (Gr (A3 (α:=Int) (xs:=List.drop k ys) Ac ef C C (Ex Bg om (by rw [List.length_drop];omega)) om (by first|omega|(simp only [List.length_drop];omega))) (Gr (Bz (xs:=List.drop k ys) ef C (Ex Bg om (by rw [List.length_drop];omega)) om (by first|omega|(simp only [List.length_drop];omega))) (Gr (A3 (α:=Int) (xs:=ys) Ac ef C C Bg om (by first|omega|(simp only [List.length_drop];omega))) (Ge0 (Cs (α:=Int) (xs:=ys) (e:=3) (new:=e_ (List.drop k ys) q) ef C C C om (by first|omega|(simp only [List.length_drop];omega)) am) ?_))))))))
      refine Af (Ax (Gm C (Gr (Rad C C) (Ga C (Bd (Ak (Aj (Aq (S4 3 0 4 5 C C C C) (Ax (Gm C (Gr (Rad C C) (Ga C (Bd ?_)))))))))))))
      have hd1:e_ (List.drop k ys) q=e_ ys ((k+q:Nat):Int):=by rw [at_dropG _ _ _ om];congr 1
      have hd2:e_ (List.drop k ys) ((q:Int) - 1)=e_ ys (((k+q:Nat):Int) - 1):=by rw [at_dropG _ _ _ om];congr 1;omega
      have hset:List.set ys ((m:Int)).toNat (e_ (List.drop k ys) q)=ys.set m (e_ ys ((k+q:Nat):Int)):=by rw [←hd1];rfl
      rw [hset]
      rw [hd1,hd2] at c44
      exact B2 ((m+1),(q+1),(ys.set m (e_ ys ((k+q:Nat):Int)))) (by dsimp only;exact ⟨om,(by rw [List.length_set];exact hyl),om,(by rw [show k+(q+1)=k+q+1 by omega];exact compG_put htk om c44 hq1 hq2),(λj hj=>by rw [at_setn _ _ _ _ om,if_neg om];exact hsame j om)⟩) (hlt:=by (try dsimp only);exact (by simp only [List.length_drop] at *; omega))
     ·refine Ay (Ak (Aj (Ax (Gm C (Gr (Rad C C) (Ga C (Bd ?_)))))))
      have hd1:e_ (List.drop k ys) q=e_ ys ((k+q:Nat):Int):=by rw [at_dropG _ _ _ om];congr 1
      have hd2:e_ (List.drop k ys) ((q:Int) - 1)=e_ ys (((k+q:Nat):Int) - 1):=by rw [at_dropG _ _ _ om];congr 1;omega
      rw [hd1,hd2] at c44
      exact B2 ((m),(q+1),(ys)) (by dsimp only;exact ⟨om,om,om,(by rw [show k+(q+1)=k+q+1 by omega];exact compG_keep htk om c44 hq1 hq2),(λj hj=>hsame j om)⟩) (hlt:=by (try dsimp only);exact (by simp only [List.length_drop] at *; omega))
    ·refine Bs (Ap (Ap (A7 (Aj (Ah (Gm C (Gm C (Gr (Eg (α:=Int) (xs:=ys) (l:=m) Ac ef C C om Bg om) (Ge0 (Eff.clear (α:=Int) (k:=m) (xs:=ys) Ac ef (AllOne.cons C AllOne.nil) C C om am) ?_)))))))))
     refine Af (Ah (Gm C (Gm C (Gr (Runs.hiraw (h:=m) Ac ef C C om om) (Ga C (Af (Aq (S1 2 C) (Aw (Av (Ai (Ai (Av (Ai ?_)))))))))))))
     have hc:ys.take m=compG xs xs.length:=by rw [htk];congr 1;omega
     have hcm:(compG xs xs.length).length=m:=by rw [←hc,List.length_take,hyl,Nat.min_eq_left om]
     exact A1 C C (vc 3 (.slice a (compG xs xs.length).length c) (compG xs xs.length)::I) (by rw [←hc];exact A5) ⟨by rw [hcm],rfl⟩
   ·exact Ay (Ak (Aj (Ax (Gm C (Gr (Rad C C) (Ga C (Bd (B2 ((k+1)) ⟨om,(Dk hne (λ_=>c25))⟩))))))))
  ·refine Bs (Ap (Ap (A7 (Aj (Ah (Gm C (Ga C (Af (Aw ?_)))))))))
   have hc:compG xs xs.length=xs:=(compG_take (λj h1 h2=>hne j om h2) (Nat.le_refl _)).trans (List.take_length)
   exact A1 C C (vc 3 (.slice a (compG xs xs.length).length c) (compG xs xs.length)::I) (by rw [hc];exact A5) ⟨by rw [hc],rfl⟩
theorem CloneI{a:Option Addr}{c:Nat}{xs:List Int}(hl:Sl κ I (.slice a xs.length c) xs)(hb:xs.length<=1000000000):ep prog κ 284 [.slice a xs.length c] I (λr J=>∃a' c',r = .slice a' xs.length c'/\J=vc 3 (.slice a' xs.length c') xs::I):=by
 refine B3 (p:=a.isNone=true->xs=[]/\c=0) (λw hs hn=>hl.isNone w hs hn) λhnone=>?_
 refine Ce1 Tryz.func284 C C ?_
 refine Ah (Ga C (Af (Au (Ah (Gm C (Gr (Runs.eqnil Ac C C) (Af (Ei C (λc4=>?_) (λc4=>?_)))))))))
 ·refine Ah (Ga C (Af (Aw (Ai ?_))))
  obtain ⟨hx0,_⟩:=hnone c4
  subst hx0
  exact A1 C C (vc 3 (.slice none ([]:List Int).length 0) ([]:List Int)::I) (Bt _ _) ⟨none,0,rfl,rfl⟩
 ·refine Ay (Aj (Ah (Ge1 (Eff.bs0 (α:=Int) Ac ef C) λad1=>?_)))
  refine Gm C (Ge2 (B1 (α:=Int) (e:=3) (xs:=([]:List Int)) (ys:=xs) Ac ef C C C mm (Bh hl) (by simp only [List.length_nil];omega) dc C (λ_ _=>am)) λad2 cp3=>?_)
  exact Ga C (Af (Aw (A1 C C (vc 3 (.slice ad2 xs.length cp3) xs::I) A5 ⟨ad2,cp3,rfl,rfl⟩)))
variable {κ:Ctx}{I:List Item}
theorem NodeE_ok(n:Int):ep prog κ 291 [e7 n] I (λr J=>r = .bool (decide (0<=n/\n<64))/\I=J):=by
 refine Ce1 Tryz.func291 C C ?_
 refine Ah (Ga C (Af (Ah (Gm C (Gr (B8 C C) (Gm C (Ba (d:=5) C (λg5=>?_) (λg5=>?_))))))))
 ·exact e9 (Ad C) (e9 (A9 C C) (Gr (Am C C) (Ga C (Af (Aw (A1 C C I A0 ⟨(by first|exact congrArg Value.bool (decide_eq_decide.2 (by skip;omega))|exact congrArg Value.bool (decide_eq_true (by skip;omega)).symm|exact congrArg Value.bool (decide_eq_false (by skip;omega)).symm),rfl⟩))))))
 ·exact eb (eb (Gr (Al C C) (Ga C (Af (Aw (A1 C C I A0 ⟨(by first|exact congrArg Value.bool (decide_eq_decide.2 (by skip;omega))|exact congrArg Value.bool (decide_eq_true (by skip;omega)).symm|exact congrArg Value.bool (decide_eq_false (by skip;omega)).symm),rfl⟩))))))
theorem EndsE_ok(e:Ev):ep prog κ 250 [.agg #[e7 (e.kd),e7 (e.tm),e7 (e.u),e7 (e.v),e7 (e.w),e7 (e.lb),e7 (e.sg)]] I (λr J=>r = .bool (decide (endsE e))/\I=J):=by
 refine Ce1 Tryz.func250 C C ?_
 refine Ah (Ge1 (Bc (cs:=[_,_,_,_,_,_,_]) C C C) λb1=>Ga C (Af (Au (Ah (Gf fld108_0 C (Gl ef ?_))))))
 refine Gr (Bi C C) (Af (A6 C (λc5=>?_) (λc5=>?_)))
 ·refine Ah (Gf fld108_2 C (Gl ef ?_))
  refine Gc0 (Ao call291 C C (NodeE_ok e.u)) ?_
  refine Gm C (Ba (d:=9) C (λg9=>?_) (λg9=>?_))
  ·refine e9 (Ab fld108_3 C) (e9 (As ef) ?_)
   exact e9 (Bi C C) (Gr (Am C C) (Ga C (Af (Aq (S1 2 C) (Aw (Ai (A1 C C I A0 ⟨(by first|exact congrArg Value.bool (decide_eq_decide.2 (by unfold endsE;omega))|exact congrArg Value.bool (decide_eq_true (by unfold endsE;omega)).symm|exact congrArg Value.bool (decide_eq_false (by unfold endsE;omega)).symm),rfl⟩)))))))
  ·exact eb (eb (eb (Gr (Al C C) (Ga C (Af (Aq (S1 2 C) (Aw (Ai (A1 C C I A0 ⟨(by first|exact congrArg Value.bool (decide_eq_decide.2 (by unfold endsE;omega))|exact congrArg Value.bool (decide_eq_true (by unfold endsE;omega)).symm|exact congrArg Value.bool (decide_eq_false (by unfold endsE;omega)).symm),rfl⟩)))))))))
 ·refine Ay (Aj (Ah (Gf fld108_2 C (Gl ef ?_))))
  refine Gc0 (Ao call291 C C (NodeE_ok e.u)) ?_
  refine Gm C (Ba (d:=17) C (λg17=>?_) (λg17=>?_))
  ·refine e9 (Ab fld108_3 C) (e9 (As ef) ?_)
   refine Ec (Cq C C C) (Ao call291 C C (NodeE_ok e.v)) ?_
   rintro _ _ ⟨_,_,⟨rfl,rfl⟩,rfl,rfl⟩
   refine Gr (Am C C) (Gm C (Ba (d:=22) C (λg22=>?_) (λg22=>?_)))
   ·refine e9 (Ab fld108_2 C) (e9 (As ef) ?_)
    refine e9 (Ab fld108_3 C) (e9 (As ef) ?_)
    exact e9 (Be C C) (Gr (Am C C) (Ga C (Af (Aq (S1 2 C) (Aw (A1 C C I A0 ⟨(by first|exact congrArg Value.bool (decide_eq_decide.2 (by unfold endsE;omega))|exact congrArg Value.bool (decide_eq_true (by unfold endsE;omega)).symm|exact congrArg Value.bool (decide_eq_false (by unfold endsE;omega)).symm),rfl⟩))))))
   ·exact eb (eb (eb (eb (eb (Gr (Al C C) (Ga C (Af (Aq (S1 2 C) (Aw (A1 C C I A0 ⟨(by first|exact congrArg Value.bool (decide_eq_decide.2 (by unfold endsE;omega))|exact congrArg Value.bool (decide_eq_true (by unfold endsE;omega)).symm|exact congrArg Value.bool (decide_eq_false (by unfold endsE;omega)).symm),rfl⟩))))))))))
  ·exact eb (eb (eb (Gr (Al C C) (Gm C (eb (eb (eb (eb (eb (Gr (Al C C) (Ga C (Af (Aq (S1 2 C) (Aw (A1 C C I A0 ⟨(by first|exact congrArg Value.bool (decide_eq_decide.2 (by unfold endsE;omega))|exact congrArg Value.bool (decide_eq_true (by unfold endsE;omega)).symm|exact congrArg Value.bool (decide_eq_false (by unfold endsE;omega)).symm),rfl⟩)))))))))))))))
theorem CheckE_ok(e:Ev):ep prog κ 209 [.agg #[e7 (e.kd),e7 (e.tm),e7 (e.u),e7 (e.v),e7 (e.w),e7 (e.lb),e7 (e.sg)]] I (λr J=>r=e7 (checkE e)/\I=J):=by
 refine Ce1 Tryz.func209 C C ?_
 refine Ah (Ge1 (Bc (cs:=[_,_,_,_,_,_,_]) C C C) λb1=>Ga C (Af (Au (A4 (Ah (Gf fld108_0 C (Gl ef ?_)))))))
 refine Gr (A9 C C) (Gm C (Ba (d:=7) C (λg7=>?_) (λg7=>?_)))
 ·exact eb (eb (eb (Gr (Am C C) (Ga C (Af (B7 C (Ah (Ga C (Af (Aq (S1 2 C) (Aw (Av (Ai (A1 C C I A0 ⟨by rw [show checkE e=8 from checkE_eight om],rfl⟩))))))))))))))
 ·refine e9 (Ab fld108_0 C) (e9 (As ef) ?_)
  refine e9 (Bv C C) (Gr (Al C C) (Ga C (Af (A6 C (λc3=>?_) (λc3=>?_)))))
  ·exact Ah (Ga C (Af (Aq (S1 2 C) (Aw (Av (Ai (A1 C C I A0 ⟨by rw [show checkE e=8 from checkE_eight om],rfl⟩)))))))
  ·refine Ah (Gf fld108_1 C (Gl ef ?_))
   refine Gr (A9 C C) (Gm C (Ba (d:=16) C (λg16=>?_) (λg16=>?_)))
   ·exact eb (eb (eb (Gr (Am C C) (Ga C (Af (Aq (S2 12 1 C C) (B7 C (Ah (Ga C (Af (Aw (Av (Ai (A1 C C I A0 ⟨by rw [show checkE e=9 from checkE_nine om om],rfl⟩))))))))))))))
   ·refine e9 (Ab fld108_1 C) (e9 (As ef) ?_)
    refine e9 (Bv C C) (Gr (Al C C) (Ga C (Af (Aq (S2 12 1 C C) (A6 C (λc12=>?_) (λc12=>?_))))))
    ·exact Ah (Ga C (Af (Aw (Av (Ai (A1 C C I A0 ⟨by rw [show checkE e=9 from checkE_nine om om],rfl⟩))))))
    ·refine Ah (Gl7 ty108 ?_)
     refine Gc0 (Ao call250 C C (EndsE_ok e)) ?_
     refine Gr (C0 C) (Ga C (Af (A6 C (λc21=>?_) (λc21=>?_))))
     ·exact Ah (Ga C (Af (Aw (Av (Ai (A1 C C I A0 ⟨by rw [show checkE e=6 from checkE_six om om (by first|assumption|(unfold endsE;omega))],rfl⟩))))))
     ·refine Ah (Gf fld108_0 C (Gl ef ?_))
      refine Gr (Bi C C) (Gm C (Ba (d:=29) C (λg29=>?_) (λg29=>?_)))
      ·refine e9 (Ab fld108_4 C) (e9 (As ef) ?_)
       refine e9 (Ab fld108_5 C) (e9 (As ef) ?_)
       refine e9 (Ab fld108_6 C) (e9 (As ef) ?_)
       refine Ec (Cq C C C) (Ao call251 C C (RightW_ok e.w e.lb e.sg)) ?_
       rintro _ _ ⟨_,_,⟨rfl,rfl⟩,rfl,rfl⟩
       refine e9 (C0 C) (Gr (Am C C) (Ga C (Af (Aq (S2 25 1 C C) (A6 C (λc25=>?_) (λc25=>?_))))))
       ·exact Ah (Ga C (Af (Aw (Av (Ai (A1 C C I A0 ⟨by rw [show checkE e=1 from checkE_one om om (by first|assumption|exact Classical.not_not.1 asm|(unfold endsE;omega)) (by first|(exact .inr om)|exact .inl ⟨by omega,by assumption⟩|exact .inl ⟨by omega,λh=>by simp_all⟩)],rfl⟩))))))
       ·refine Ah (Gf fld108_0 C (Gl ef ?_))
        refine Gr (Be C C) (Gm C (Ba (d:=43) C (λg43=>?_) (λg43=>?_)))
        ·refine e9 (Ab fld108_4 C) (e9 (As ef) ?_)
         refine e9 (Be C C) (e9 (Ad C) (Ba (d:=47) C (λg47=>?_) (λg47=>?_)))
         ·exact eb (eb (eb (e9 (Am C C) (e9 (Ad C) (eb (eb (eb (e9 (Am C C) (Gr (Am C C) (Ga C (Af (Aq (S1 39 C) (B7 C (Ah (Ga C (Af (Aw (Av (Ai (A1 C C I A0 ⟨by rw [show checkE e=1 from checkE_one om om (by first|assumption|exact Classical.not_not.1 asm|(unfold endsE;omega)) (by first|(exact .inr om)|exact .inl ⟨by omega,by assumption⟩|exact .inl ⟨by omega,λh=>by simp_all⟩)],rfl⟩))))))))))))))))))))
         ·refine e9 (Ab fld108_5 C) (e9 (As ef) ?_)
          refine e9 (Be C C) (e9 (Al C C) (e9 (Ad C) (Ba (d:=52) C (λg52=>?_) (λg52=>?_))))
          ·exact eb (eb (eb (e9 (Am C C) (Gr (Am C C) (Ga C (Af (Aq (S1 39 C) (B7 C (Ah (Ga C (Af (Aw (Av (Ai (A1 C C I A0 ⟨by rw [show checkE e=1 from checkE_one om om (by first|assumption|exact Classical.not_not.1 asm|(unfold endsE;omega)) (by first|(exact .inr om)|exact .inl ⟨by omega,by assumption⟩|exact .inl ⟨by omega,λh=>by simp_all⟩)],rfl⟩)))))))))))))))
          ·refine e9 (Ab fld108_6 C) (e9 (As ef) ?_)
           refine e9 (Be C C) (e9 (Al C C) (Gr (Am C C) (Ga C (Af (Aq (S1 39 C) (A6 C (λc39=>?_) (λc39=>?_)))))))
           ·exact Ah (Ga C (Af (Aw (Av (Ai (A1 C C I A0 ⟨by rw [show checkE e=1 from checkE_one om om (by first|assumption|exact Classical.not_not.1 asm|(unfold endsE;omega)) (by first|(exact .inr om)|exact .inl ⟨by omega,by assumption⟩|exact .inl ⟨by omega,λh=>by simp_all⟩)],rfl⟩))))))
           ·exact Ay (Ak (Aj (Ah (Ga C (Af (Aw (A1 C C I A0 ⟨by rw [show checkE e=0 from checkE_zero om om (by first|assumption|exact Classical.not_not.1 asm|(unfold endsE;omega)) (λh=>by first|(exfalso;omega)|assumption|exact Classical.not_not.1 asm) (λh=>by omega)],rfl⟩)))))))
        ·exact eb (eb (eb (eb (ee (ee (ee (eb (eb (ee (ee (ee (eb (Gr (Al C C) (Ga C (Af (Aq (S1 39 C) (C2 C (Ay (Ak (Aj (Ah (Ga C (Af (Aw (A1 C C I A0 ⟨by rw [show checkE e=0 from checkE_zero om om (by first|assumption|exact Classical.not_not.1 asm|(unfold endsE;omega)) (λh=>by first|(exfalso;omega)|assumption|exact Classical.not_not.1 asm) (λh=>by omega)],rfl⟩)))))))))))))))))))))))))
      ·refine eb (eb (eb (eb (eb (eb (eb (eb (Gr (Al C C) (Ga C (Af (Aq (S2 25 1 C C) (C2 C (Ah (Gf fld108_0 C (Gl ef ?_)))))))))))))))
       refine Gr (Be C C) (Gm C (Ba (d:=43) C (λg43=>?_) (λg43=>?_)))
       ·refine e9 (Ab fld108_4 C) (e9 (As ef) ?_)
        refine e9 (Be C C) (e9 (Ad C) (Ba (d:=47) C (λg47=>?_) (λg47=>?_)))
        ·exact eb (eb (eb (e9 (Am C C) (e9 (Ad C) (eb (eb (eb (e9 (Am C C) (Gr (Am C C) (Ga C (Af (Aq (S1 39 C) (B7 C (Ah (Ga C (Af (Aw (Av (Ai (A1 C C I A0 ⟨by rw [show checkE e=1 from checkE_one om om (by first|assumption|exact Classical.not_not.1 asm|(unfold endsE;omega)) (by first|(exact .inr om)|exact .inl ⟨by omega,by assumption⟩|exact .inl ⟨by omega,λh=>by simp_all⟩)],rfl⟩))))))))))))))))))))
        ·refine e9 (Ab fld108_5 C) (e9 (As ef) ?_)
         refine e9 (Be C C) (e9 (Al C C) (e9 (Ad C) (Ba (d:=52) C (λg52=>?_) (λg52=>?_))))
         ·exact eb (eb (eb (e9 (Am C C) (Gr (Am C C) (Ga C (Af (Aq (S1 39 C) (B7 C (Ah (Ga C (Af (Aw (Av (Ai (A1 C C I A0 ⟨by rw [show checkE e=1 from checkE_one om om (by first|assumption|exact Classical.not_not.1 asm|(unfold endsE;omega)) (by first|(exact .inr om)|exact .inl ⟨by omega,by assumption⟩|exact .inl ⟨by omega,λh=>by simp_all⟩)],rfl⟩)))))))))))))))
         ·refine e9 (Ab fld108_6 C) (e9 (As ef) ?_)
          refine e9 (Be C C) (e9 (Al C C) (Gr (Am C C) (Ga C (Af (Aq (S1 39 C) (A6 C (λc39=>?_) (λc39=>?_)))))))
          ·exact Ah (Ga C (Af (Aw (Av (Ai (A1 C C I A0 ⟨by rw [show checkE e=1 from checkE_one om om (by first|assumption|exact Classical.not_not.1 asm|(unfold endsE;omega)) (by first|(exact .inr om)|exact .inl ⟨by omega,by assumption⟩|exact .inl ⟨by omega,λh=>by simp_all⟩)],rfl⟩))))))
          ·exact Ay (Ak (Aj (Ah (Ga C (Af (Aw (A1 C C I A0 ⟨by rw [show checkE e=0 from checkE_zero om om (by first|assumption|exact Classical.not_not.1 asm|(unfold endsE;omega)) (λh=>by first|(exfalso;omega)|assumption|exact Classical.not_not.1 asm) (λh=>by omega)],rfl⟩)))))))
       ·exact eb (eb (eb (eb (ee (ee (ee (eb (eb (ee (ee (ee (eb (Gr (Al C C) (Ga C (Af (Aq (S1 39 C) (C2 C (Ay (Ak (Aj (Ah (Ga C (Af (Aw (A1 C C I A0 ⟨by rw [show checkE e=0 from checkE_zero om om (by first|assumption|exact Classical.not_not.1 asm|(unfold endsE;omega)) (λh=>by first|(exfalso;omega)|assumption|exact Classical.not_not.1 asm) (λh=>by omega)],rfl⟩)))))))))))))))))))))))))
theorem CheckE4_ok(e:Ev):ep prog κ 155 [.agg #[e7 (e.kd),e7 (e.tm),e7 (e.u),e7 (e.v),e7 (e.w),e7 (e.lb),e7 (e.sg)]] I (λr J=>r=e7 (checkE e)/\I=J):=by
 refine Ce1 Tryz.func155 C C ?_
 refine Ah (Ge1 (Bc (cs:=[_,_,_,_,_,_,_]) C C C) λb1=>Ga C (Af (Au (Ah (Gf fld108_0 C (Gl ef ?_))))))
 refine Gc0 (Ao call226 C C (From4_ok e.kd 1 3)) ?_
 refine Gr (C0 C) (Af (A6 C (λc6=>?_) (λc6=>?_)))
 ·exact Ah (Ga C (Af (Aw (Ai (A1 C C I A0 ⟨by rw [show checkE e=8 from checkE_eight om],rfl⟩)))))
 ·refine Ay (Aj (Au (Ah (Gf fld108_1 C (Gl ef ?_)))))
  refine Gc0 (Ao call226 C C (From4_ok e.tm 0 1048576)) ?_
  refine Gr (C0 C) (Af (A6 C (λc10=>?_) (λc10=>?_)))
  ·exact Ah (Ga C (Af (Aw (Ai (A1 C C I A0 ⟨by rw [show checkE e=9 from checkE_nine om om],rfl⟩)))))
  ·refine Ay (Aj (Au (Ah (Gf fld108_2 C (Gl ef ?_)))))
   refine Gc0 (Ao call226 C C (From4_ok e.u 0 63)) ?_
   refine Gr (C0 C) (Gm C (Ba (d:=15) C (λg15=>?_) (λg15=>?_)))
   ·exact eb (eb (eb (eb (ee (ee (ee (eb (Gr (Am C C) (Gm C (eb (eb (eb (eb (ee (ee (ee (ee (ee (ee (ee (ee (ee (ee (ee (eb (Gr (Am C C) (Af (Aq (S2 42 1 C C) (B7 C (Ah (Ga C (Af (Aw (Ai (A1 C C I A0 ⟨by rw [show checkE e=6 from checkE_six om om (by first|assumption|(unfold endsE;omega))],rfl⟩)))))))))))))))))))))))))))))))))))
   ·refine e9 (Ab fld108_0 C) (e9 (As ef) ?_)
    refine e9 (Bi C C) (e9 (Ad C) (Ba (d:=19) C (λg19=>?_) (λg19=>?_)))
    ·refine e9 (Ab fld108_3 C) (e9 (As ef) ?_)
     refine e9 (Be C C) (e9 (Am C C) (Gr (Al C C) (Gm C (Ba (d:=25) C (λg25=>?_) (λg25=>?_)))))
     ·exact eb (eb (eb (eb (ee (ee (ee (ee (ee (ee (ee (ee (ee (ee (ee (eb (Gr (Am C C) (Af (Aq (S2 42 1 C C) (B7 C (Ah (Ga C (Af (Aw (Ai (A1 C C I A0 ⟨by rw [show checkE e=6 from checkE_six om om (by first|assumption|(unfold endsE;omega))],rfl⟩)))))))))))))))))))))))))
     ·refine e9 (Ab fld108_0 C) (e9 (As ef) ?_)
      refine e9 (Be C C) (e9 (Ad C) (Ba (d:=29) C (λg29=>?_) (λg29=>?_)))
      ·refine e9 (Ab fld108_3 C) (e9 (As ef) ?_)
       refine Ec (Cq C C C) (Ao call226 C C (From4_ok e.v 0 63)) ?_
       rintro _ _ ⟨_,_,⟨rfl,rfl⟩,rfl,rfl⟩
       refine e9 (C0 C) (e9 (Ad C) (Ba (d:=34) C (λg34=>?_) (λg34=>?_)))
       ·exact eb (eb (eb (eb (eb (e9 (Am C C) (e9 (Am C C) (Gr (Al C C) (Af (Aq (S2 42 1 C C) (B7 C (Ah (Ga C (Af (Aw (Ai (A1 C C I A0 ⟨by rw [show checkE e=6 from checkE_six om om (by first|assumption|(unfold endsE;omega))],rfl⟩))))))))))))))))
       ·refine e9 (Ab fld108_2 C) (e9 (As ef) ?_)
        refine e9 (Ab fld108_3 C) (e9 (As ef) ?_)
        refine e9 (Bi C C) (e9 (Al C C) (e9 (Am C C) (Gr (Al C C) (Af (Aq (S2 42 1 C C) (A6 C (λc42=>?_) (λc42=>?_)))))))
        ·exact Ah (Ga C (Af (Aw (Ai (A1 C C I A0 ⟨by rw [show checkE e=6 from checkE_six om om (by first|assumption|(unfold endsE;omega))],rfl⟩)))))
        ·refine Ay (Aj (Au (Ah (Gf fld108_0 C (Gl ef ?_)))))
         refine Gr (Bi C C) (Af (A6 C (λc45=>?_) (λc45=>?_)))
         ·refine Ah (Gf fld108_4 C (Gl ef ?_))
          refine Gf fld108_5 C (Gl ef ?_)
          refine Gf fld108_6 C (Gl ef ?_)
          refine Gc0 (Ao call205 C C (Attr4_ok e.w e.lb e.sg)) ?_
          exact Ga C (Af (Aw (Ai (A1 C C I A0 ⟨by rw [show checkE e=if rightW e.w e.lb e.sg then 0 else 1 from checkE_set om om (by first|assumption|exact Classical.not_not.1 asm|(unfold endsE;omega))],rfl⟩))))
         ·refine Ay (Aj (Au (Ah (Gf fld108_4 C (Gl ef ?_)))))
          refine Gr (Be C C) (Gm C (Ba (d:=56) C (λg56=>?_) (λg56=>?_)))
          ·exact eb (eb (eb (Gr (Am C C) (Gm C (eb (eb (eb (Gr (Am C C) (Af (Aq (S1 65 C) (B7 C (Ah (Ga C (Af (Aw (Ai (A1 C C I A0 ⟨by rw [show checkE e=1 from checkE_one om om (by first|assumption|exact Classical.not_not.1 asm|(unfold endsE;omega)) (by first|(exact .inr om)|exact .inl ⟨by omega,by assumption⟩|exact .inl ⟨by omega,λh=>by simp_all⟩)],rfl⟩)))))))))))))))))
          ·refine e9 (Ab fld108_5 C) (e9 (As ef) ?_)
           refine e9 (Be C C) (Gr (Al C C) (Gm C (Ba (d:=61) C (λg61=>?_) (λg61=>?_))))
           ·exact eb (eb (eb (Gr (Am C C) (Af (Aq (S1 65 C) (B7 C (Ah (Ga C (Af (Aw (Ai (A1 C C I A0 ⟨by rw [show checkE e=1 from checkE_one om om (by first|assumption|exact Classical.not_not.1 asm|(unfold endsE;omega)) (by first|(exact .inr om)|exact .inl ⟨by omega,by assumption⟩|exact .inl ⟨by omega,λh=>by simp_all⟩)],rfl⟩))))))))))))
           ·refine e9 (Ab fld108_6 C) (e9 (As ef) ?_)
            refine e9 (Be C C) (Gr (Al C C) (Af (Aq (S1 65 C) (A6 C (λc65=>?_) (λc65=>?_)))))
            ·exact Ah (Ga C (Af (Aw (Ai (A1 C C I A0 ⟨by rw [show checkE e=1 from checkE_one om om (by first|assumption|exact Classical.not_not.1 asm|(unfold endsE;omega)) (by first|(exact .inr om)|exact .inl ⟨by omega,by assumption⟩|exact .inl ⟨by omega,λh=>by simp_all⟩)],rfl⟩)))))
            ·exact Ay (Aj (Ah (Ga C (Af (Aw (A1 C C I A0 ⟨by rw [show checkE e=0 from checkE_zero om om (by first|assumption|exact Classical.not_not.1 asm|(unfold endsE;omega)) (λh=>by first|(exfalso;omega)|assumption|exact Classical.not_not.1 asm) (λh=>by omega)],rfl⟩))))))
      ·refine eb (eb (eb (eb (eb (ee (ee (ee (ee (ee (eb (e9 (Al C C) (Gr (Al C C) (Af (Aq (S2 42 1 C C) (C2 C (Ay (Aj (Au (Ah (Gf fld108_0 C (Gl ef ?_)))))))))))))))))))))
       refine Gr (Bi C C) (Af (A6 C (λc45=>?_) (λc45=>?_)))
       ·refine Ah (Gf fld108_4 C (Gl ef ?_))
        refine Gf fld108_5 C (Gl ef ?_)
        refine Gf fld108_6 C (Gl ef ?_)
        refine Gc0 (Ao call205 C C (Attr4_ok e.w e.lb e.sg)) ?_
        exact Ga C (Af (Aw (Ai (A1 C C I A0 ⟨by rw [show checkE e=if rightW e.w e.lb e.sg then 0 else 1 from checkE_set om om (by first|assumption|exact Classical.not_not.1 asm|(unfold endsE;omega))],rfl⟩))))
       ·refine Ay (Aj (Au (Ah (Gf fld108_4 C (Gl ef ?_)))))
        refine Gr (Be C C) (Gm C (Ba (d:=56) C (λg56=>?_) (λg56=>?_)))
        ·exact eb (eb (eb (Gr (Am C C) (Gm C (eb (eb (eb (Gr (Am C C) (Af (Aq (S1 65 C) (B7 C (Ah (Ga C (Af (Aw (Ai (A1 C C I A0 ⟨by rw [show checkE e=1 from checkE_one om om (by first|assumption|exact Classical.not_not.1 asm|(unfold endsE;omega)) (by first|(exact .inr om)|exact .inl ⟨by omega,by assumption⟩|exact .inl ⟨by omega,λh=>by simp_all⟩)],rfl⟩)))))))))))))))))
        ·refine e9 (Ab fld108_5 C) (e9 (As ef) ?_)
         refine e9 (Be C C) (Gr (Al C C) (Gm C (Ba (d:=61) C (λg61=>?_) (λg61=>?_))))
         ·exact eb (eb (eb (Gr (Am C C) (Af (Aq (S1 65 C) (B7 C (Ah (Ga C (Af (Aw (Ai (A1 C C I A0 ⟨by rw [show checkE e=1 from checkE_one om om (by first|assumption|exact Classical.not_not.1 asm|(unfold endsE;omega)) (by first|(exact .inr om)|exact .inl ⟨by omega,by assumption⟩|exact .inl ⟨by omega,λh=>by simp_all⟩)],rfl⟩))))))))))))
         ·refine e9 (Ab fld108_6 C) (e9 (As ef) ?_)
          refine e9 (Be C C) (Gr (Al C C) (Af (Aq (S1 65 C) (A6 C (λc65=>?_) (λc65=>?_)))))
          ·exact Ah (Ga C (Af (Aw (Ai (A1 C C I A0 ⟨by rw [show checkE e=1 from checkE_one om om (by first|assumption|exact Classical.not_not.1 asm|(unfold endsE;omega)) (by first|(exact .inr om)|exact .inl ⟨by omega,by assumption⟩|exact .inl ⟨by omega,λh=>by simp_all⟩)],rfl⟩)))))
          ·exact Ay (Aj (Ah (Ga C (Af (Aw (A1 C C I A0 ⟨by rw [show checkE e=0 from checkE_zero om om (by first|assumption|exact Classical.not_not.1 asm|(unfold endsE;omega)) (λh=>by first|(exfalso;omega)|assumption|exact Classical.not_not.1 asm) (λh=>by omega)],rfl⟩))))))
    ·refine eb (eb (eb (e9 (Al C C) (Gr (Al C C) (Gm C (e9 (Ab fld108_0 C) (e9 (As ef) ?_)))))))
     refine e9 (Be C C) (e9 (Ad C) (Ba (d:=29) C (λg29=>?_) (λg29=>?_)))
     ·refine e9 (Ab fld108_3 C) (e9 (As ef) ?_)
      refine Ec (Cq C C C) (Ao call226 C C (From4_ok e.v 0 63)) ?_
      rintro _ _ ⟨_,_,⟨rfl,rfl⟩,rfl,rfl⟩
      refine e9 (C0 C) (e9 (Ad C) (Ba (d:=34) C (λg34=>?_) (λg34=>?_)))
      ·exact eb (eb (eb (eb (eb (e9 (Am C C) (e9 (Am C C) (Gr (Al C C) (Af (Aq (S2 42 1 C C) (B7 C (Ah (Ga C (Af (Aw (Ai (A1 C C I A0 ⟨by rw [show checkE e=6 from checkE_six om om (by first|assumption|(unfold endsE;omega))],rfl⟩))))))))))))))))
      ·refine e9 (Ab fld108_2 C) (e9 (As ef) ?_)
       refine e9 (Ab fld108_3 C) (e9 (As ef) ?_)
       refine e9 (Bi C C) (e9 (Al C C) (e9 (Am C C) (Gr (Al C C) (Af (Aq (S2 42 1 C C) (A6 C (λc42=>?_) (λc42=>?_)))))))
       ·exact Ah (Ga C (Af (Aw (Ai (A1 C C I A0 ⟨by rw [show checkE e=6 from checkE_six om om (by first|assumption|(unfold endsE;omega))],rfl⟩)))))
       ·refine Ay (Aj (Au (Ah (Gf fld108_0 C (Gl ef ?_)))))
        refine Gr (Bi C C) (Af (A6 C (λc45=>?_) (λc45=>?_)))
        ·refine Ah (Gf fld108_4 C (Gl ef ?_))
         refine Gf fld108_5 C (Gl ef ?_)
         refine Gf fld108_6 C (Gl ef ?_)
         refine Gc0 (Ao call205 C C (Attr4_ok e.w e.lb e.sg)) ?_
         exact Ga C (Af (Aw (Ai (A1 C C I A0 ⟨by rw [show checkE e=if rightW e.w e.lb e.sg then 0 else 1 from checkE_set om om (by first|assumption|exact Classical.not_not.1 asm|(unfold endsE;omega))],rfl⟩))))
        ·refine Ay (Aj (Au (Ah (Gf fld108_4 C (Gl ef ?_)))))
         refine Gr (Be C C) (Gm C (Ba (d:=56) C (λg56=>?_) (λg56=>?_)))
         ·exact eb (eb (eb (Gr (Am C C) (Gm C (eb (eb (eb (Gr (Am C C) (Af (Aq (S1 65 C) (B7 C (Ah (Ga C (Af (Aw (Ai (A1 C C I A0 ⟨by rw [show checkE e=1 from checkE_one om om (by first|assumption|exact Classical.not_not.1 asm|(unfold endsE;omega)) (by first|(exact .inr om)|exact .inl ⟨by omega,by assumption⟩|exact .inl ⟨by omega,λh=>by simp_all⟩)],rfl⟩)))))))))))))))))
         ·refine e9 (Ab fld108_5 C) (e9 (As ef) ?_)
          refine e9 (Be C C) (Gr (Al C C) (Gm C (Ba (d:=61) C (λg61=>?_) (λg61=>?_))))
          ·exact eb (eb (eb (Gr (Am C C) (Af (Aq (S1 65 C) (B7 C (Ah (Ga C (Af (Aw (Ai (A1 C C I A0 ⟨by rw [show checkE e=1 from checkE_one om om (by first|assumption|exact Classical.not_not.1 asm|(unfold endsE;omega)) (by first|(exact .inr om)|exact .inl ⟨by omega,by assumption⟩|exact .inl ⟨by omega,λh=>by simp_all⟩)],rfl⟩))))))))))))
          ·refine e9 (Ab fld108_6 C) (e9 (As ef) ?_)
           refine e9 (Be C C) (Gr (Al C C) (Af (Aq (S1 65 C) (A6 C (λc65=>?_) (λc65=>?_)))))
           ·exact Ah (Ga C (Af (Aw (Ai (A1 C C I A0 ⟨by rw [show checkE e=1 from checkE_one om om (by first|assumption|exact Classical.not_not.1 asm|(unfold endsE;omega)) (by first|(exact .inr om)|exact .inl ⟨by omega,by assumption⟩|exact .inl ⟨by omega,λh=>by simp_all⟩)],rfl⟩)))))
           ·exact Ay (Aj (Ah (Ga C (Af (Aw (A1 C C I A0 ⟨by rw [show checkE e=0 from checkE_zero om om (by first|assumption|exact Classical.not_not.1 asm|(unfold endsE;omega)) (λh=>by first|(exfalso;omega)|assumption|exact Classical.not_not.1 asm) (λh=>by omega)],rfl⟩))))))
     ·refine eb (eb (eb (eb (eb (ee (ee (ee (ee (ee (eb (e9 (Al C C) (Gr (Al C C) (Af (Aq (S2 42 1 C C) (C2 C (Ay (Aj (Au (Ah (Gf fld108_0 C (Gl ef ?_)))))))))))))))))))))
      refine Gr (Bi C C) (Af (A6 C (λc45=>?_) (λc45=>?_)))
      ·refine Ah (Gf fld108_4 C (Gl ef ?_))
       refine Gf fld108_5 C (Gl ef ?_)
       refine Gf fld108_6 C (Gl ef ?_)
       refine Gc0 (Ao call205 C C (Attr4_ok e.w e.lb e.sg)) ?_
       exact Ga C (Af (Aw (Ai (A1 C C I A0 ⟨by rw [show checkE e=if rightW e.w e.lb e.sg then 0 else 1 from checkE_set om om (by first|assumption|exact Classical.not_not.1 asm|(unfold endsE;omega))],rfl⟩))))
      ·refine Ay (Aj (Au (Ah (Gf fld108_4 C (Gl ef ?_)))))
       refine Gr (Be C C) (Gm C (Ba (d:=56) C (λg56=>?_) (λg56=>?_)))
       ·exact eb (eb (eb (Gr (Am C C) (Gm C (eb (eb (eb (Gr (Am C C) (Af (Aq (S1 65 C) (B7 C (Ah (Ga C (Af (Aw (Ai (A1 C C I A0 ⟨by rw [show checkE e=1 from checkE_one om om (by first|assumption|exact Classical.not_not.1 asm|(unfold endsE;omega)) (by first|(exact .inr om)|exact .inl ⟨by omega,by assumption⟩|exact .inl ⟨by omega,λh=>by simp_all⟩)],rfl⟩)))))))))))))))))
       ·refine e9 (Ab fld108_5 C) (e9 (As ef) ?_)
        refine e9 (Be C C) (Gr (Al C C) (Gm C (Ba (d:=61) C (λg61=>?_) (λg61=>?_))))
        ·exact eb (eb (eb (Gr (Am C C) (Af (Aq (S1 65 C) (B7 C (Ah (Ga C (Af (Aw (Ai (A1 C C I A0 ⟨by rw [show checkE e=1 from checkE_one om om (by first|assumption|exact Classical.not_not.1 asm|(unfold endsE;omega)) (by first|(exact .inr om)|exact .inl ⟨by omega,by assumption⟩|exact .inl ⟨by omega,λh=>by simp_all⟩)],rfl⟩))))))))))))
        ·refine e9 (Ab fld108_6 C) (e9 (As ef) ?_)
         refine e9 (Be C C) (Gr (Al C C) (Af (Aq (S1 65 C) (A6 C (λc65=>?_) (λc65=>?_)))))
         ·exact Ah (Ga C (Af (Aw (Ai (A1 C C I A0 ⟨by rw [show checkE e=1 from checkE_one om om (by first|assumption|exact Classical.not_not.1 asm|(unfold endsE;omega)) (by first|(exact .inr om)|exact .inl ⟨by omega,by assumption⟩|exact .inl ⟨by omega,λh=>by simp_all⟩)],rfl⟩)))))
         ·exact Ay (Aj (Ah (Ga C (Af (Aw (A1 C C I A0 ⟨by rw [show checkE e=0 from checkE_zero om om (by first|assumption|exact Classical.not_not.1 asm|(unfold endsE;omega)) (λh=>by first|(exfalso;omega)|assumption|exact Classical.not_not.1 asm) (λh=>by omega)],rfl⟩))))))
theorem FitsE_ok(nd:Int)(e:Ev):ep prog κ 210 [e7 nd,.agg #[e7 (e.kd),e7 (e.tm),e7 (e.u),e7 (e.v),e7 (e.w),e7 (e.lb),e7 (e.sg)]] I (λr J=>r=e7 (fitE nd e)/\I=J):=by
 refine Ce2 Tryz.func210 C C ?_
 refine Ah (Ge1 (Bc (cs:=[_,_,_,_,_,_,_]) C C C) λb1=>Ga C (Af (Au (Ah (Gl7 ty108 ?_)))))
 refine Gc0 (Ao call209 C C (CheckE_ok e)) ?_
 refine Ga C (Af (Ah (Gm C (Gr (Be C C) (Af (A6 C (λc9=>?_) (λc9=>?_)))))))
 ·exact Ah (Gm C (Ga C (Af (Aw (Ai (A1 C C I A0 ⟨by rw [show fitE nd e=checkE e from (by unfold fitE;rw [if_pos c9])],rfl⟩))))))
 ·refine Ay (Aj (Au (Ah (Gf fld108_2 C (Gl ef ?_)))))
  refine Gm C (Gr (B8 C C) (Gm C (Ba (d:=15) C (λg15=>?_) (λg15=>?_))))
  ·exact eb (eb (eb (eb (Gr (Am C C) (Af (Aq (S1 20 C) (B7 C (Ah (Ga C (Af (Aw (Ai (A1 C C I A0 ⟨by rw [show fitE nd e=6 from (by unfold fitE;rw [if_neg c9,if_pos om])],rfl⟩)))))))))))))
  ·refine e9 (Ab fld108_3 C) (e9 (As ef) ?_)
   refine e9 (Ad C) (e9 (B8 C C) (Gr (Al C C) (Af (Aq (S1 20 C) (A6 C (λc20=>?_) (λc20=>?_))))))
   ·exact Ah (Ga C (Af (Aw (Ai (A1 C C I A0 ⟨by rw [show fitE nd e=6 from (by unfold fitE;rw [if_neg c9,if_pos om])],rfl⟩)))))
   ·exact Ay (Aj (Ah (Ga C (Af (Aw (A1 C C I A0 ⟨by rw [show fitE nd e=0 from (by unfold fitE;rw [if_neg c9,if_neg om])],rfl⟩))))))
set_option maxHeartbeats 2000000 in
theorem Set5_ok(l:Lk)(nw:Int):ep prog κ 163 [.agg #[e7 (l.u),e7 (l.v),e7 (l.w),e7 (l.lb),e7 (l.sg),e7 (l.tm)],e7 nw] I (λr J=>r = .agg #[e7 1,e7 nw,e7 l.u,e7 l.v,e7 l.w,e7 l.lb,e7 l.sg]/\I=J):=by
 refine Ce2 Tryz.func163 C C ?_
 refine Ah (Ge1 (Bc (cs:=[_,_,_,_,_,_]) C C C) λb1=>Ge1 (A8 ty108 C) λb2=>Af (Ah (Gm C (Gf fld146_0 C (Gl ef ?_)))))
 refine Gf fld146_1 C (Gl ef ?_)
 refine Gf fld146_2 C (Gl ef ?_)
 refine Gf fld146_3 C (Gl ef ?_)
 refine Gf fld146_4 C (Gl ef ?_)
 refine Gr (Bf (cells:=[_,_,_,_,_,_,_]) ty108 C6 pl108 C C) (Ge0 (E2 ty108) ?_)
 exact Af (Aq (S1 4 C) (Aw (Db C ty108 C mm C I A0 ⟨rfl,rfl⟩)))
theorem fitE_chk{nd:Int}{e:Ev}(h:checkE e≠0):fitE nd e=checkE e:=by unfold fitE;rw [if_pos h]
theorem Stream_ok{κ:Ctx}{I:List Item}{nd:Int}{va:Value}{es:List Ev}(hl:Sl κ I va es):ep prog κ 139 [e7 nd,va] I (λr J=>r=e7 (streamE nd es)/\I=J):=by
 refine B3 hl.le λhmax=>?_
 refine Ce2 Tryz.func139 C C ?_
 refine Ah (Ga C (Af (Au (A4 (Ah (Gm C (Gr (A9 C C) (Gm C (Ba (d:=13) C (λg13=>?_) (λg13=>?_))))))))))
 ·exact eb (eb (Gr (Am C C) (Ga C (Af (B7 C (Ah (Ga C (Af (Aw (Av (Ai (A1 C C I A0 ⟨by rw [show streamE nd es=1 from (by unfold streamE;rw [if_pos om])],rfl⟩))))))))))))
 ·refine e9 (Ad C) (e9 (Bv C C) (Gr (Al C C) (Ga C (Af (A6 C (λc10=>?_) (λc10=>?_))))))
  ·exact Ah (Ga C (Af (Aw (Av (Ai (A1 C C I A0 ⟨by rw [show streamE nd es=1 from (by unfold streamE;rw [if_pos om])],rfl⟩))))))
  ·refine Ah (Gm C (Gr (Bx (α:=Ev) (xs:=es) Az C (Bh hl)) (Gr (Bv C C) (Ga C (Af (Aq (S3 17 0 1 C C C) (A6 C (λc17=>?_) (λc17=>?_))))))))
   ·exact Ah (Ga C (Af (Aw (Av (Ai (A1 C C I A0 ⟨by rw [show streamE nd es=3 from (by unfold streamE;rw [if_neg om,if_pos om])],rfl⟩))))))
   ·refine Ay (Ak (Aj (Ah (Ga C (Af (Au (Ah (Gm C (Gr (Bx (α:=Ev) (xs:=es) Az C (Bh hl)) (Gm C (Af (A4 (Bu (σ:=Nat) (λs=>([(0,e7 nd),(5,e7 (lastT es s)),(21,va),(22,e7 ((es.length:Nat):Int)),(23,e7 ((s:Nat):Int))]:Env)) (λs=>I) (λs=>(s<=es.length)/\(streamE nd es=streamS nd (lastT es s) (es.drop s))) (λs=>es.length - s) 0 (show ((0:Nat)<=es.length)/\(streamE nd es=streamS nd (lastT es (0:Nat)) (es.drop (0:Nat))) from ⟨om,(by unfold streamE;rw [if_neg om,if_neg om];rfl)⟩) (Aa C (Aa (C4 C (by first|omega|(dsimp only<;>omega)|exact (rfl:(0:Int)=lastT es 0)|exact (lastT_succ es k).symm)) (Aa C (Aa C (Aa (C4 C (by first|omega|(dsimp only<;>omega)|exact (rfl:(0:Int)=lastT es 0)|exact (lastT_succ es k).symm)) Bj))))) (show Fit κ _ I from A5) ?_)))))))))))))
    rintro k hp
    obtain ⟨hk,hs⟩:=hp
    refine Ah (Gr (A9 C C) (Af (Au (A6 C (λc24=>?_) (λc24=>?_)))))
    ·refine Ay (Aj (Au (A4 (Ah (Gr (A3 (α:=Ev) (xs:=es) Az ty108 C C (Bh hl) om om) (Gr (Bp (α:=Ev) (xs:=es) ty108 C (Bh hl) om om) (Ge1 (A8 ty108 C) λb1=>Ge0 (E2 ty108) ?_)))))))
     refine Af (Au (Ah (Gl7 ty108 ?_)))
     refine Gc0 (Ao call209 C C (CheckE_ok (e_ es k))) ?_
     refine Ga C (Af (Ah (Gm C (Gr (Be C C) (Af (Aq (S8 30 8 7 0 5 21 22 23 C C C C C C C C) (A6 C (λc30=>?_) (λc30=>?_))))))))
     ·exact Ah (Gm C (Ga C (Af (Aw (Ai (Av (Ai (Ai (Av (Ai (A1 C C I A0 ⟨by rw [show streamE nd es=checkE (e_ es k) from (hs.trans ((streamS_bad om (by rw [fitE_chk c30];exact c30)).trans (fitE_chk c30)))],rfl⟩)))))))))))
     ·refine Ay (Aj (Au (Ah (Gm C (Gl7 ty108 ?_)))))
      refine Gc0 (Ao call210 C C (FitsE_ok nd (e_ es k))) ?_
      refine Ga C (Af (Ah (Gm C (Gr (Be C C) (Af (Aq (S8 36 9 7 0 5 21 22 23 C C C C C C C C) (A6 C (λc36=>?_) (λc36=>?_))))))))
      ·exact Ah (Gm C (Ga C (Af (Aw (Ai (Av (Ai (Ai (Av (Ai (A1 C C I A0 ⟨by rw [show streamE nd es=fitE nd (e_ es k) from (hs.trans (streamS_bad om c36))],rfl⟩)))))))))))
      ·refine Ay (Aj (Au (Ah (Gf fld108_1 C (Gl ef ?_)))))
       refine Gm C (Gr (A9 C C) (Af (A6 C (λc41=>?_) (λc41=>?_))))
       ·exact Ah (Ga C (Af (Aw (Ai (Av (Ai (Ai (Av (Ai (A1 C C I A0 ⟨by rw [show streamE nd es=9 from (hs.trans (streamS_late om (Classical.not_not.1 c36) om))],rfl⟩))))))))))
       ·refine Ay (Aj (Ax (Gf fld108_1 C (Gl ef ?_))))
        exact Ga C (Bd (Ak (Aj (Aq (S5 5 0 21 22 23 C C C C C) (Ax (Gr (Rad C C) (Gm C (Bd (B2 ((k+1)) ⟨om,(hs.trans (streamS_step om (Classical.not_not.1 c36) om))⟩ (hL:=(Aa C (Aa (C4 C (by first|omega|(dsimp only<;>omega)|exact (rfl:(0:Int)=lastT es 0)|exact (lastT_succ es k).symm)) (Aa C (Aa C (Aa (C4 C (by first|omega|(dsimp only<;>omega)|exact (rfl:(0:Int)=lastT es 0)|exact (lastT_succ es k).symm)) Bj)))))))))))))))
    ·exact Bs (Ap (Ap (A7 (Aj (Ah (Ga C (Af (Aw (A1 C C I A0 ⟨by rw [show streamE nd es=0 from (hs.trans (streamS_end om))],rfl⟩)))))))))
end Go.Sl
