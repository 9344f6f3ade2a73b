/- A part of the proofs of statements of this seat: contracts of functions, and the plain laws that they lean on. No conditions. -/
import Derived.Test.YtnbkccjkdpolmaaGreatDoorA7
set_option linter.unusedVariables false
set_option linter.unusedSimpArgs false
set_option linter.unusedSectionVars false
/- The graphs of a history, time by time: the plain functions. No Go. No conditions. -/
open Go.Proofs.Tryz (prog)
set_option maxHeartbeats 8000000
namespace Go.Sl
variable{es:List Ev}{k:Nat}{kd wd:Int}
def cutAt(wd:Int)(l:Lk):Ev:=⟨2,l.tm+wd,l.u,l.v,0,0,0⟩
def lateP(kd wd:Int)(l:Lk):Bool:=decide (kd=2/\l.tm+wd<=1048576)
def lateL(kd wd:Int)(xs:List Lk):List Ev:=(xs.filter (lateP kd wd)).map (cutAt wd)
def evC(a b:Ev):Int:=if a.tm<b.tm then -1 else if b.tm<a.tm then 1 else 0
def eh(es:List Ev):List Lk:=es.foldl ep []
def allE(kd wd mo:Int)(es:List Ev):List Ev:=(slideS kd wd mo es).2++isortG evC (lateL kd wd (eh (slideS kd wd mo es).2))
def edgesK(xs:List Lk):List Pt:=xs.map λl=>⟨l.u,l.v⟩
def atK(kd wd mo:Int)(es:List Ev)(T:Int):List Lk:=eh ((allE kd wd mo es).takeWhile λe=>decide (e.tm<=T))
theorem linksL_take(h:k<es.length):eh (es.take (k+1))=ep (eh (es.take k)) (e_ es k):=by
 unfold eh;rw [Ct es k h,List.foldl_append];rfl
theorem lateL_take{xs:List Lk}(h:k<xs.length):lateL kd wd (xs.take (k+1))=lateL kd wd (xs.take k)++if lateP kd wd (e_ xs k)=true then [cutAt wd (e_ xs k)] else []:=by
 unfold lateL
 rw [Ct xs k h,List.filter_append,List.map_append]
 congr 1
 by_cases hp:lateP kd wd (e_ xs k)=true
 ·rw [if_pos hp];simp [List.filter_cons,hp]
 rw [if_neg hp];simp [List.filter_cons,hp]
theorem lateL_len(kd wd:Int)(xs:List Lk):(lateL kd wd xs).length<=xs.length:=by
 unfold lateL;rw [List.length_map];exact List.length_filter_le _ _
theorem evC_neg{a b:Ev}:evC a b<0↔a.tm<b.tm:=by unfold evC;repeat (first|omega|split)
structure Moment (E:List Ev) (fst:Bool) (j:Nat) (t:Int) (own:Bool) (j':Nat):Prop where
 le:j<=j'/\j'<=E.length
 same:∀i:Nat,j<=i->i<j'->(e_ E i).tm=t
 stop:j'<E.length->(e_ E j').tm≠t
 own:own=decide (j<j')
 first:fst=true->t=0/\j=0
 next:fst=false->j<E.length/\t=(e_ E j).tm
theorem takeWhile_take{α:Type}[Inhabited α]{p:α->Bool}:∀{E:List α} {j:Nat},j<=E.length->(∀i:Nat,i<j->p (e_ E i)=true)->(j<E.length->p (e_ E j)=false)->E.takeWhile p=E.take j
 |[],j,_,_,_=>by simp
 |x::E,0,_,_,h=>by
  have h1:=h (by simp)
  rw [show e_ (x::E) ((0:Nat):Int)=x from rfl] at h1
  simp [List.takeWhile_cons,h1]
 |x::E,j+1,hj,ha,h=>by
  have M:=ha 0 om
  rw [show e_ (x::E) ((0:Nat):Int)=x from rfl] at M
  have e:∀i:Nat,e_ (x::E) ((i+1:Nat):Int)=e_ E i:=λi=>by rw [at_nat,at_nat];rfl
  have ih:=takeWhile_take (p:=p) (E:=E) (j:=j) (by simpa using hj) (λi hi=>by rw [←e];exact ha (i+1) om) (λhl=>by rw [←e];exact h<|by simpa using hl)
  simp [List.takeWhile_cons,M,ih]
theorem atK_stop{mo T:Int}{j:Nat}(hj:j<=(allE kd wd mo es).length)(ha:∀i:Nat,i<j->(e_ (allE kd wd mo es) i).tm<=T)(h:j<(allE kd wd mo es).length->T<(e_ (allE kd wd mo es) j).tm):atK kd wd mo es T=eh ((allE kd wd mo es).take j):=by
 unfold atK
 rw [takeWhile_take hj (λi hi=>decide_eq_true<|ha i hi) λM=>decide_eq_false<|by have:=h M;omega]
end Go.Sl
namespace Go.Sl
open Go.Proofs
set_option maxRecDepth 4000
variable{nd:Int}{xs:List Lk}
attribute [local irreducible] W G V D A Runs Eff
theorem checkS_tm'(h:checkS nd xs=0):∀x∈xs,0<=x.tm/\x.tm<=1048576:=λx M=>badL_tm ((checkS_ok h).2.1 x M)
theorem First_ok{κ:Ctx}{I:List Item}{wd:Int}{va:Value}(hl:Sl κ I va xs)(hb:∀x∈xs,0<=x.tm/\x.tm<=1048576)(hw:0<=wd/\wd<=1048576):eu prog κ 239 [.agg #[e7 nd,va],e7 wd] I (λr J=>∃z:Int,r = .tuple #[e7 z,.bool (decide (0<xs.length))]/\((0<xs.length->(∃x∈xs,z=x.tm+wd)/\∀y∈xs,z<=y.tm+wd)/\(xs.length=0->z=0))/\I=J):=by
 refine Bu hl.le λab=>?_
 refine Ce2 Tryz.func239 C C ?_
 refine Ar<|Ge1 (Al (cs:=[_,_]) C C C) λb1=>Z ?_
 refine Ap C (λc10=>Z ?_)<|λc10=>Z ?_
 ·exact Cy C C C I Ah ⟨0,by rw [decide_eq_false om],⟨λh=>by omega,λ_=>rfl⟩,rfl⟩
 refine G.e (Ac c_ C C<|MinF_ok (Au hl) om FirstC_cmps) ?_
 rintro _ _ ⟨_,_,⟨aa,rfl,M,rfl⟩,rfl,rfl⟩
 have ad:=hb _ M.1
 refine Ge1 (Am ty192 C) λb3=>Ge0 (E9 ty192)<|Z ?_
 exact Cy C C C I Ah ⟨_,by rw [decide_eq_true om],⟨λ_=>⟨⟨aa,M.1,rfl⟩,λy hy=>by have:=M.2 y hy;omega⟩,λh=>by omega⟩,rfl⟩
end Go.Sl
/- What holds of the events of a history, with the cuts of what expires later. The plain laws. No Go. No conditions. -/
namespace Go.Sl
variable{X:List Lk}
theorem ageL_len(wd mo T:Int)(xs:List Lk)(out:List Ev):(ageL wd mo T xs out).1.length<=xs.length:=by
 have h:=ageL_ind (wd:=wd) (mo:=mo) (T:=T) (P:=λys _=>ys.length<=xs.length) (λys o hs M=>Nat.le_trans (List.length_filter_le _ _) M) xs.length xs out (Nat.le_refl _) (Nat.le_refl _)
 exact h.1
theorem slide_take_len{kd wd mo:Int}{es:List Ev}:∀k,k<=es.length->(slideS kd wd mo (es.take k)).1.length<=k
 |0,_=>Nat.le_refl _
 |k+1,hk=>by
  have M:=slide_take_len (kd:=kd) (wd:=wd) (mo:=mo) (es:=es) k om
  rw [slideS_succ om]
  generalize slideS kd wd mo (es.take k)=s at M ⊢
  have h1:(agedL kd wd mo (e_ es k).tm s).1.length<=s.1.length:=by
   unfold agedL
   split
   ·exact ageL_len _ _ _ _ _
   exact Nat.le_refl _
  have h2:=stepL_len (agedL kd wd mo (e_ es k).tm s).1 (e_ es k)
  unfold evStep windL
  split
  ·have h3:=List.length_filter_le (inW kd wd mo (e_ es k).tm (ep (agedL kd wd mo (e_ es k).tm s).1 (e_ es k))) (ep (agedL kd wd mo (e_ es k).tm s).1 (e_ es k))
   simp only
   omega
  simp only
  omega
structure HistOk (nd kd wd mo:Int) (es:List Ev):Prop where
 st:StOk nd es
 win:checkW kd wd mo=0
theorem checkW_cases{kd wd mo:Int}(h:checkW kd wd mo=0):(kd=1/\wd=0/\mo=0)\/(kd=2/\(1<=wd/\wd<=1048576)/\mo=0)\/(kd=3/\wd=0/\0<=mo/\mo<=2016):=by
 unfold checkW at h
 split at h
 ·cases h
 split at h
 ·cases h
 omega
section
variable {nd kd wd mo:Int}{es:List Ev}
theorem HistOk.fit(h:HistOk nd kd wd mo es):∀e∈(slideS kd wd mo es).2,FitOk nd e:=by
 have M:es.take es.length=es:=List.take_length
 rcases checkW_cases h.win with ⟨rfl,rfl,rfl⟩|⟨rfl,hw,rfl⟩|⟨rfl,rfl,hm⟩
 ·rw [all_same];exact h.st.mem
 ·have:=(BehB.all (mo:=0) h.st hw.1 es.length<|Nat.le_refl _).fit
  rwa [M] at this
 have:=(CntB.all h.st hm.1 es.length<|Nat.le_refl _).fit
 rwa [M] at this
theorem HistOk.links(h:HistOk nd kd wd mo es):(slideS kd wd mo es).1=eh (slideS kd wd mo es).2:=by
 have M:es.take es.length=es:=List.take_length
 rcases checkW_cases h.win with ⟨rfl,rfl,rfl⟩|⟨rfl,hw,rfl⟩|⟨rfl,rfl,hm⟩
 ·rw [all_same]
  have:∀k,k<=es.length->(slideS 1 0 0<|es.take k).1=eh (es.take k):=λk=>by
   induction k with
   |zero=>intro _;rfl
   |succ k ih=>
    intro hk
    rw [slideS_succ om,linksL_take om,←ih om];rfl
  have:=this es.length (Nat.le_refl _)
  rwa [M] at this
 ·have:=(BehB.all (mo:=0) h.st hw.1 es.length<|Nat.le_refl _).st
  rwa [M] at this
 have:=(CntB.all h.st hm.1 es.length<|Nat.le_refl _).st
 rwa [M] at this
theorem HistOk.len(h:HistOk nd kd wd mo es):(eh (slideS kd wd mo es).2).length<=es.length:=by
 have M:es.take es.length=es:=List.take_length
 rw [←h.links]
 have:=slide_take_len (kd:=kd) (wd:=wd) (mo:=mo) es.length (Nat.le_refl _)
 rwa [M] at this
theorem HistOk.len2(h:HistOk nd kd wd mo es):(slideS kd wd mo es).2.length<=2*es.length:=by
 have M:es.take es.length=es:=List.take_length
 rcases checkW_cases h.win with ⟨rfl,rfl,rfl⟩|⟨rfl,hw,rfl⟩|⟨rfl,rfl,hm⟩
 ·rw [all_same];omega
 ·have:=(BehB.all (mo:=0) h.st hw.1 es.length<|Nat.le_refl _).sum
  rw [M] at this;omega
 have:=(CntB.all h.st hm.1 es.length<|Nat.le_refl _).sum
 rw [M] at this;omega
theorem links_val(M:0<=nd/\nd<=64){E:List Ev}(hf:∀e∈E,FitOk nd e)(k:Nat):checkS nd (eh (E.take k))=0:=steps_val M _ _ (valNil M) λe he=>hf e (List.mem_of_mem_take he)
theorem cutAt_fit{l:Lk}(M:checkS nd X=0)(hl:l∈X)(hw:0<=wd)(hp:lateP kd wd l=true):FitOk nd (cutAt wd l):=by
 have h1:=of_decide_eq_true hp
 have h2:=val_uv M l hl
 have h3:=checkS_tm' M l hl
 have h4:=(checkS_iff.1 M).1
 refine ⟨by show 1<=(2:Int)/\(2:Int)<=3;decide,?_,⟨?_,λh=>absurd h<|by show ¬(2:Int)=3;decide,λ_=>?_⟩,λh=>absurd h<|by show ¬(2:Int)=1;decide,?_,λ_=>⟨rfl,rfl,rfl⟩⟩
 ·show 0<=l.tm+wd/\l.tm+wd<=1048576;omega
 ·show 0<=l.u/\l.u<64;omega
 ·show (0<=l.v/\l.v<64)/\l.u≠l.v;omega
 show l.u<nd/\l.v<nd;omega
theorem late_fit(hv:checkS nd X=0)(hw:0<=wd):∀e∈isortG evC (lateL kd wd X),FitOk nd e:=λe he=>by
 rw [(isort_permG _ _).mem_iff] at he
 obtain ⟨l,hl,rfl⟩:=List.mem_map.1 he
 have M:=List.mem_filter.1 hl
 exact cutAt_fit hv M.1 hw M.2
theorem HistOk.allFit(h:HistOk nd kd wd mo es):∀e∈allE kd wd mo es,FitOk nd e:=λe he=>by
 rcases List.mem_append.1 he with he|he
 ·exact h.fit e he
 have M:checkS nd (eh (slideS kd wd mo es).2)=0:=by
  have:=links_val h.st.nodes h.fit (slideS kd wd mo es).2.length
  rwa [List.take_length] at this
 exact late_fit M (checkW_wd h.win).1 e he
theorem edgesK_ok(h:checkS nd X=0):GrOk nd (edgesK X):=by
 have h1:=checkS_iff.1 h
 refine ⟨h1.1,?_,λe he=>?_⟩
 ·show (edgesK X).Pairwise Pt.lt
  unfold edgesK
  exact List.Pairwise.map _ (λa b M=>M) h1.2.2
 obtain ⟨l,hl,rfl⟩:=List.mem_map.1 he
 exact val_uv h l hl
theorem edgesK_len(X:List Lk):(edgesK X).length=X.length:=List.length_map ..
def atG(kd wd mo:Int)(es:List Ev)(T:Int):List Pt:=edgesK (atK kd wd mo es T)
theorem atK_take(kd wd mo T:Int)(es:List Ev):∃j,atK kd wd mo es T=eh ((allE kd wd mo es).take j):=by
 unfold atK
 have M:(allE kd wd mo es).takeWhile (λe=>decide<|e.tm<=T) <+: allE kd wd mo es:=List.takeWhile_prefix _
 exact ⟨_,by rw [List.prefix_iff_eq_take.1 M]⟩
theorem HistOk.graph(h:HistOk nd kd wd mo es)(T:Int):GrOk nd (atG kd wd mo es T):=by
 obtain ⟨j,hj⟩:=atK_take kd wd mo T es
 unfold atG
 rw [hj]
 exact edgesK_ok<|links_val h.st.nodes h.allFit j
end
end Go.Sl
namespace Go.Sl
open Go.Proofs
set_option maxRecDepth 4000
variable{nd nw:Int}{a a0 va:Option Addr}{b c c0 i n:Nat}{xs ys:List Lk}{M:List Value}
variable {κ:Ctx}{I:List Item}
attribute [local irreducible] W G V D A Runs Eff
theorem NodeE_ok(n:Int):eu prog κ 238 [e7 n] I (λr J=>r = .bool (decide (0<=n/\n<64))/\I=J):=by
 refine Ce1 Tryz.func238 C C<|Z ?_
 refine A6 (d:=5) C (λM=>Z ?_)<|λM=>Z ?_
 ·exact Ai C C I Ah ⟨(by first|exact congrArg Value.bool (decide_eq_decide.2<|by skip;omega)|exact congrArg Value.bool (decide_eq_true<|by skip;omega).symm|exact congrArg Value.bool (decide_eq_false<|by skip;omega).symm),rfl⟩
 exact Ai C C I Ah ⟨(by first|exact congrArg Value.bool (decide_eq_decide.2<|by skip;omega)|exact congrArg Value.bool (decide_eq_true<|by skip;omega).symm|exact congrArg Value.bool (decide_eq_false<|by skip;omega).symm),rfl⟩
theorem EndsE_ok(e:Ev):eu prog κ 201 [.agg #[e7 (e.kd),e7 (e.tm),e7 (e.u),e7 (e.v),e7 (e.w),e7 (e.lb),e7 (e.sg)]] I (λr J=>r = .bool (decide (endsE e))/\I=J):=by
 refine Ce1 Tryz.func201 C C ?_
 refine Ar<|Ge1 (Al (cs:=[_,_,_,_,_,_,_]) C C C) λb1=>Z ?_
 refine Ap C (λc5=>Z ?_)<|λc5=>Z ?_
 ·refine Gc0 (Ac c_ C C<|NodeE_ok e.u) ?_
  refine Gm C<|A6 (d:=9) C (λg9=>Z ?_)<|λg9=>Z ?_
  ·exact Ai C C I Ah ⟨(by first|exact congrArg Value.bool (decide_eq_decide.2<|by unfold endsE;omega)|exact congrArg Value.bool (decide_eq_true<|by unfold endsE;omega).symm|exact congrArg Value.bool (decide_eq_false<|by unfold endsE;omega).symm),rfl⟩
  exact Ai C C I Ah ⟨(by first|exact congrArg Value.bool (decide_eq_decide.2<|by unfold endsE;omega)|exact congrArg Value.bool (decide_eq_true<|by unfold endsE;omega).symm|exact congrArg Value.bool (decide_eq_false<|by unfold endsE;omega).symm),rfl⟩
 refine Gc0 (Ac c_ C C<|NodeE_ok e.u) ?_
 refine Gm C<|A6 (d:=17) C (λaa=>Z ?_)<|λaa=>Z ?_
 ·refine Dn (B7 C C C) (Ac c_ C C<|NodeE_ok e.v) ?_
  rintro _ _ ⟨_,_,⟨rfl,rfl⟩,rfl,rfl⟩
  refine Z ?_
  refine A6 (d:=22) C (λM=>Z ?_)<|λM=>Z ?_
  ·exact Ai C C I Ah ⟨(by first|exact congrArg Value.bool (decide_eq_decide.2<|by unfold endsE;omega)|exact congrArg Value.bool (decide_eq_true<|by unfold endsE;omega).symm|exact congrArg Value.bool (decide_eq_false<|by unfold endsE;omega).symm),rfl⟩
  exact Ai C C I Ah ⟨(by first|exact congrArg Value.bool (decide_eq_decide.2<|by unfold endsE;omega)|exact congrArg Value.bool (decide_eq_true<|by unfold endsE;omega).symm|exact congrArg Value.bool (decide_eq_false<|by unfold endsE;omega).symm),rfl⟩
 exact Ai C C I Ah ⟨(by first|exact congrArg Value.bool (decide_eq_decide.2<|by unfold endsE;omega)|exact congrArg Value.bool (decide_eq_true<|by unfold endsE;omega).symm|exact congrArg Value.bool (decide_eq_false<|by unfold endsE;omega).symm),rfl⟩
theorem CheckE_ok(e:Ev):eu prog κ 129 [.agg #[e7 (e.kd),e7 (e.tm),e7 (e.u),e7 (e.v),e7 (e.w),e7 (e.lb),e7 (e.sg)]] I (λr J=>r=e7 (checkE e)/\I=J):=by
 refine Ce1 Tryz.func129 C C ?_
 refine Ar<|Ge1 (Al (cs:=[_,_,_,_,_,_,_]) C C C) λb1=>Z ?_
 refine A6 (d:=7) C (λg7=>Z ?_)<|λg7=>Z ?_
 ·exact Ai C C I Ah ⟨by rw [show checkE e=8 from checkE_eight om],rfl⟩
 refine Ap C (λc3=>Z ?_)<|λc3=>Z ?_
 ·exact Ai C C I Ah ⟨by rw [show checkE e=8 from checkE_eight om],rfl⟩
 refine A6 (d:=16) C (λae=>Z ?_)<|λae=>Z ?_
 ·exact Ai C C I Ah ⟨by rw [show checkE e=9 from checkE_nine om om],rfl⟩
 refine Ap C (λc12=>Z ?_)<|λc12=>Z ?_
 ·exact Ai C C I Ah ⟨by rw [show checkE e=9 from checkE_nine om om],rfl⟩
 refine Gc0 (Ac c_ C C<|EndsE_ok e)<|Z ?_
 refine Ap C (λai=>Z ?_)<|λai=>Z ?_
 ·exact Ai C C I Ah ⟨by rw [show checkE e=6 from checkE_six om om (by first|assumption|(unfold endsE;omega))],rfl⟩
 refine A6 (d:=29) C (λaj=>Z ?_)<|λaj=>Z ?_
 ·refine Dn (B7 C C C) (Ac c_ C C<|RightW_ok e.w e.lb e.sg) ?_
  rintro _ _ ⟨_,_,⟨rfl,rfl⟩,rfl,rfl⟩
  refine Z ?_
  refine Ap C (λah=>Z ?_)<|λah=>Z ?_
  ·exact Ai C C I Ah ⟨by rw [show checkE e=1 from checkE_one om om (by first|assumption|exact Classical.not_not.1 asm|(unfold endsE;omega)) (by first|(exact .inr om)|exact .inl ⟨by omega,by assumption⟩|exact .inl ⟨by omega,λh=>by simp_all⟩)],rfl⟩
  refine A6 (d:=43) C (λaa=>Z ?_)<|λaa=>Z ?_
  ·refine A6 (d:=47) C (λM=>Z ?_) (λM=>Z ?_)
   ·exact Ai C C I Ah ⟨by rw [show checkE e=1 from checkE_one om om (by first|assumption|exact Classical.not_not.1 asm|(unfold endsE;omega)) (by first|(exact .inr om)|exact .inl ⟨by omega,by assumption⟩|exact .inl ⟨by omega,λh=>by simp_all⟩)],rfl⟩
   refine A6 (d:=52) C (λab=>Z ?_)<|λab=>Z ?_
   ·exact Ai C C I Ah ⟨by rw [show checkE e=1 from checkE_one om om (by first|assumption|exact Classical.not_not.1 asm|(unfold endsE;omega)) (by first|(exact .inr om)|exact .inl ⟨by omega,by assumption⟩|exact .inl ⟨by omega,λh=>by simp_all⟩)],rfl⟩
   refine Ap C (λad=>Z ?_)<|λad=>Z ?_
   ·exact Ai C C I Ah ⟨by rw [show checkE e=1 from checkE_one om om (by first|assumption|exact Classical.not_not.1 asm|(unfold endsE;omega)) (by first|(exact .inr om)|exact .inl ⟨by omega,by assumption⟩|exact .inl ⟨by omega,λh=>by simp_all⟩)],rfl⟩
   exact Ai C C I Ah ⟨by rw [show checkE e=0 from checkE_zero om om (by first|assumption|exact Classical.not_not.1 asm|(unfold endsE;omega)) (λh=>by first|(exfalso;omega)|assumption|exact Classical.not_not.1 asm) (λh=>by omega)],rfl⟩
  exact Ai C C I Ah ⟨by rw [show checkE e=0 from checkE_zero om om (by first|assumption|exact Classical.not_not.1 asm|(unfold endsE;omega)) (λh=>by first|(exfalso;omega)|assumption|exact Classical.not_not.1 asm) (λh=>by omega)],rfl⟩
 refine A6 (d:=43) C (λaa=>Z ?_)<|λaa=>Z ?_
 ·refine A6 (d:=47) C (λM=>Z ?_) (λM=>Z ?_)
  ·exact Ai C C I Ah ⟨by rw [show checkE e=1 from checkE_one om om (by first|assumption|exact Classical.not_not.1 asm|(unfold endsE;omega)) (by first|(exact .inr om)|exact .inl ⟨by omega,by assumption⟩|exact .inl ⟨by omega,λh=>by simp_all⟩)],rfl⟩
  refine A6 (d:=52) C (λab=>Z ?_)<|λab=>Z ?_
  ·exact Ai C C I Ah ⟨by rw [show checkE e=1 from checkE_one om om (by first|assumption|exact Classical.not_not.1 asm|(unfold endsE;omega)) (by first|(exact .inr om)|exact .inl ⟨by omega,by assumption⟩|exact .inl ⟨by omega,λh=>by simp_all⟩)],rfl⟩
  refine Ap C (λad=>Z ?_)<|λad=>Z ?_
  ·exact Ai C C I Ah ⟨by rw [show checkE e=1 from checkE_one om om (by first|assumption|exact Classical.not_not.1 asm|(unfold endsE;omega)) (by first|(exact .inr om)|exact .inl ⟨by omega,by assumption⟩|exact .inl ⟨by omega,λh=>by simp_all⟩)],rfl⟩
  exact Ai C C I Ah ⟨by rw [show checkE e=0 from checkE_zero om om (by first|assumption|exact Classical.not_not.1 asm|(unfold endsE;omega)) (λh=>by first|(exfalso;omega)|assumption|exact Classical.not_not.1 asm) (λh=>by omega)],rfl⟩
 exact Ai C C I Ah ⟨by rw [show checkE e=0 from checkE_zero om om (by first|assumption|exact Classical.not_not.1 asm|(unfold endsE;omega)) (λh=>by first|(exfalso;omega)|assumption|exact Classical.not_not.1 asm) (λh=>by omega)],rfl⟩
theorem FitsE_ok(nd:Int)(e:Ev):eu prog κ 130 [e7 nd,.agg #[e7 (e.kd),e7 (e.tm),e7 (e.u),e7 (e.v),e7 (e.w),e7 (e.lb),e7 (e.sg)]] I (λr J=>r=e7 (fitE nd e)/\I=J):=by
 refine Ce2 Tryz.func130 C C ?_
 refine Ar<|Ge1 (Al (cs:=[_,_,_,_,_,_,_]) C C C) λb1=>Z ?_
 refine Gc0 (Ac c_ C C<|CheckE_ok e)<|Z ?_
 refine Ap C (λM=>Z ?_)<|λM=>Z ?_
 ·exact Ai C C I Ah ⟨by rw [show fitE nd e=checkE e from (by unfold fitE;rw [if_pos M])],rfl⟩
 refine A6 (d:=15) C (λaa=>Z ?_)<|λaa=>Z ?_
 ·exact Ai C C I Ah ⟨by rw [show fitE nd e=6 from (by unfold fitE;rw [if_neg M,if_pos om])],rfl⟩
 refine Ap C (λab=>Z ?_)<|λab=>Z ?_
 ·exact Ai C C I Ah ⟨by rw [show fitE nd e=6 from (by unfold fitE;rw [if_neg M,if_pos om])],rfl⟩
 exact Ai C C I Ah ⟨by rw [show fitE nd e=0 from (by unfold fitE;rw [if_neg M,if_neg om])],rfl⟩
theorem fitE_chk{e:Ev}(h:checkE e≠0):fitE nd e=checkE e:=by unfold fitE;rw [if_pos h]
theorem Stream_ok{κ:Ctx}{I:List Item}{va:Value}{es:List Ev}(hl:Sl κ I va es):eu prog κ 75 [e7 nd,va] I (λr J=>r=e7 (streamE nd es)/\I=J):=by
 refine Bu hl.le λai=>?_
 refine Ce2 Tryz.func75 C C<|Z ?_
 refine A6 (d:=13) C (λab=>Z ?_)<|λab=>Z ?_
 ·exact Ai C C I Ah ⟨by rw [show streamE nd es=1 from (by unfold streamE;rw [if_pos om])],rfl⟩
 refine Ap C (λc10=>Z ?_)<|λc10=>Z ?_
 ·exact Ai C C I Ah ⟨by rw [show streamE nd es=1 from (by unfold streamE;rw [if_pos om])],rfl⟩
 refine Ap C (λae=>Z ?_)<|λae=>Z ?_
 ·exact Ai C C I Ah ⟨by rw [show streamE nd es=3 from (by unfold streamE;rw [if_neg om,if_pos om])],rfl⟩
 refine Cn (σ:=Nat) (λs=>([(0,e7 nd),(5,e7<|lastT es s),(21,va),(22,e7 ((es.length:Nat):Int)),(23,e7 ((s:Nat):Int))]:Env)) (λs=>I) (λs=>(s<=es.length)/\(streamE nd es=streamS nd (lastT es s) (es.drop s))) (λs=>es.length - s) 0 ⟨om,(by unfold streamE;rw [if_neg om,if_neg om];rfl)⟩ (Ab C<|Ab (Dk C<|by first|omega|(dsimp only<;>omega)|exact (rfl:(0:Int)=lastT es 0)|exact (lastT_succ es k).symm)<|Ab C<|Ab C<|Ab (Dk C<|by first|omega|(dsimp only<;>omega)|exact (rfl:(0:Int)=lastT es 0)|exact (lastT_succ es k).symm) Bs) (show Fit κ _ I from Aj) ?_
 rintro k hp
 obtain ⟨hk,hs⟩:=hp
 refine Z ?_
 refine Ap C (λad=>Z ?_)<|λad=>Z ?_
 ·refine Ge1 (Am ty63 C) λb1=>Ge0 (Fj ty63) (Z ?_)
  refine Gc0 (Ac c_ C C<|CheckE_ok<|e_ es k)<|Z ?_
  refine Ap C (λM=>Z ?_)<|λM=>Z ?_
  ·exact Ai C C I Ah ⟨by rw [show streamE nd es=checkE (e_ es k) from (hs.trans<|(streamS_bad om<|by rw [fitE_chk M];exact M).trans (fitE_chk M))],rfl⟩
  refine Gc0 (Ac c_ C C<|FitsE_ok nd<|e_ es k)<|Z ?_
  refine Ap C (λaa=>Z ?_)<|λaa=>Z ?_
  ·exact Ai C C I Ah ⟨by rw [show streamE nd es=fitE nd (e_ es k) from (hs.trans<|streamS_bad om aa)],rfl⟩
  refine Ap C (λah=>Z ?_)<|λah=>Z ?_
  ·exact Ai C C I Ah ⟨by rw [show streamE nd es=9 from (hs.trans<|streamS_late om (Classical.not_not.1 aa) om)],rfl⟩
  exact B5 ((k+1)) ⟨om,(hs.trans<|streamS_step om (Classical.not_not.1 aa) om)⟩ (hL:=(Ab C<|Ab (Dk C<|by first|omega|(dsimp only<;>omega)|exact (rfl:(0:Int)=lastT es 0)|exact (lastT_succ es k).symm)<|Ab C<|Ab C<|Ab (Dk C<|by first|omega|(dsimp only<;>omega)|exact (rfl:(0:Int)=lastT es 0)|exact (lastT_succ es k).symm) Bs))
 exact Ai C C I Ah ⟨by rw [show streamE nd es=0 from (hs.trans<|streamS_end om)],rfl⟩
variable {κ:Ctx}{I:List Item}
theorem ov302:∀M w,(callFunc 302 M).run prog w=((Extern.SlicesOverlaps.overlaps #[128,128] #[4] M).run prog w).andThen λv w'=> .ok (.value v) w':=λM w=>run_callFunc_extern (e:=Extern.SlicesOverlaps.overlaps #[128,128] #[4]) Tryz.func302 kr kr kr kr M w
theorem InsertL_ok{ah:Nat}(hi:i<=xs.length)(hy:0<ys.length)(aq:xs.length+ys.length<=1000000000):eu prog κ 280 [.slice a xs.length c,e7 ((i:Int)),.slice va ys.length ah] (vc 192 (.slice a xs.length c) (xs)::vc 192 (.slice va ys.length ah) (ys)::I) (λr J=>∃a' c',r = .slice a' (List.take i xs++ys++List.drop i xs).length c'/\J=vc 192 (.slice a' (List.take i xs++ys++List.drop i xs).length c') (List.take i xs++ys++List.drop i xs)::I):=by
 refine Bu (vc.cap List.mem_cons_self) λap=>?_
 have ad:(List.take i xs++ys++List.drop i xs).length=xs.length+ys.length:=by simp only [List.length_append,List.length_take,List.length_drop];omega
 refine Ce3 Tryz.func280 C C<|Z ?_
 refine Gr (Eb (α:=Lk) (xs:=xs) (l:=i) Bh ty192 C C om A7<|by first|omega|(simp only [List.length_append,List.length_take,List.length_drop,List.length_replicate]<;>omega))<|Z ?_
 refine Ap C (λab=>?_)<|λab=>Z ?_
 ·exact absurd ab om
 refine Ap C (λak=>Z ?_)<|λak=>Z ?_
 ·refine Ge2 (B4 (α:=Lk) (e:=192) (xs:=xs) (ys:=ys) Bh ty192 C C C mm A7 om dc C<|λ_ _=>am) λai ae=>Z ?_
  have hR:List.take i xs++ys++List.drop i xs=xs++ys:=by rw [List.take_of_length_le om,List.drop_eq_nil_of_le om,List.append_nil]
  exact Ai C C (vc 192 (.slice ai (List.take i xs++ys++List.drop i xs).length ae) (List.take i xs++ys++List.drop i xs)::I) (by rw [hR];exact Bb) ⟨ai,ae,by rw [hR],rfl⟩
 refine Gr (Runs.caps Bh C)<|Z ?_
 refine Ap C (λaj=>Z ?_)<|λaj=>Z ?_
 ·refine Gr (Runs.hiraw (h:=i) Bh ty192 C C om om) (Z ?_)
  refine Ge2 (Eff.grow (α:=Lk) (xs:=xs) (k:=xs.length+ys.length - i) Bh Bd ty192 C C C om A7 om om om om dc C) λaa M=>?_
  refine Ga C<|G.pull (p:=(List.take i xs++List.replicate (xs.length+ys.length - i) (default:Lk)).length<=M) (vc.cap mm) λao=>?_
  have ar:(List.take i xs++List.replicate (xs.length+ys.length - i) (default:Lk)).length=xs.length+ys.length:=by simp only [List.length_append,List.length_take,List.length_replicate];omega
  refine Z ?_
  refine Gr (Eb (α:=Lk) (xs:=List.take i xs++List.replicate (xs.length+ys.length - i) (default:Lk)) (l:=i) Bh ty192 C C om A7<|by first|omega|(simp only [List.length_append,List.length_take,List.length_drop,List.length_replicate]<;>omega))<|Gm C<|Ge0 (Eff.copyT (α:=Lk) (k:=i) (q:=ys.length) (R:=List.take i xs++ys++List.replicate (xs.length - i) (default:Lk)) (n:=(i+(xs.length+ys.length - i))) Bh ty192 C (by first|omega|(simp only [List.length_append,List.length_take,List.length_drop,List.length_replicate]<;>omega)) C A7 (by first|omega|(simp only [List.length_append,List.length_take,List.length_drop,List.length_replicate]<;>omega)) (by first|omega|(simp only [List.length_append,List.length_take,List.length_drop,List.length_replicate]<;>omega)) C (ins1 hi) (by first|omega|(simp only [List.length_append,List.length_take,List.length_drop,List.length_replicate]<;>omega)) am) ?_
  refine As<|A5<|A4 mixed<|Cm I 9<|Z ?_
  refine Dr 4 C (E1 (l:=(i+ys.length)) Bh ty192 C C om om om)<|Z ?_
  refine Dr 7 C (E1 (l:=i) Bh ty192 C C om om om)<|Ds1 8<|Se0 C (Eff.copyT (α:=Lk) (k:=(i+ys.length)) (q:=(xs.length - i)) (R:=List.take i xs++ys++List.drop i xs) (n:=(i+(xs.length+ys.length - i))) Bh ty192 C (by first|omega|(simp only [List.length_append,List.length_take,List.length_drop,List.length_replicate]<;>omega)) C (Fq (Em (xs:=xs) mm) om om) (by first|omega|(simp only [List.length_append,List.length_take,List.length_drop,List.length_replicate]<;>omega)) (by first|omega|(simp only [List.length_append,List.length_take,List.length_drop,List.length_replicate]<;>omega)) C (ins2 hi) (by first|omega|(simp only [List.length_append,List.length_take,List.length_drop,List.length_replicate]<;>omega)) am)<|Z ?_
  exact Ai C C (vc 192 (.slice aa (List.take i xs++ys++List.drop i xs).length M) (List.take i xs++ys++List.drop i xs)::I) (by rw [show (List.take i xs++ys++List.drop i xs).length=i+(xs.length+ys.length - i) by omega];exact Bb) ⟨aa,M,by rw [show (List.take i xs++ys++List.drop i xs).length=i+(xs.length+ys.length - i) by omega],rfl⟩
 refine Gr (Runs.hiraw (h:=xs.length+ys.length) Bh ty192 C C om om)<|Ga C<|G.room (h:=xs.length+ys.length) (by repeat (first|exact AtF.head _ _|apply AtF.tail)) C om om<|λjs an=>Z ?_
 refine Gr (E1 (l:=(i+ys.length)) Bh ty192 C C om om om)<|Ge0 (Eff.overlaps (k:=i+ys.length) ov302 Bh ty192 C C om om om (Fit.sp<|Sp.pick (Pick.tail _<|Pick.head _ _)<|Sp.refl _) (Nat.mul_pos om Enc.pos) C) ?_
 refine Gr (Cd C)<|As<|Bg (S6 68 0 8 7 1 2 C C C C C C)<|W.yes C<|A5<|A4 mixed<|Cm I 9<|Z ?_
 refine Dr 4 C (E1 (l:=(i+ys.length)) Bh ty192 C C om om om)<|Z ?_
 refine Dr 7 C (E1 (l:=i) Bh ty192 C C om om om)<|Ds1 8<|Se0 C (Eff.copyR (sz:=Enc.sz Lk) (n:=xs.length+ys.length) (cs:=(cells xs++js)) (k:=(i+ys.length)) (q:=(xs.length - i)) Bh ty192 C om C (SlRd.dropR (SlRd.vec mm) om) om om (ins_one hi) C am)<|Z ?_
 refine Gr (E1 (l:=i) Bh ty192 C C om om om)<|Gm C<|Ge0 (Eff.copyR (sz:=Enc.sz Lk) (n:=xs.length+ys.length) (cs:=(List.take ((i+ys.length)*Enc.sz Lk) (cells xs++js)++List.take ((xs.length - i)*Enc.sz Lk) (List.drop (i*Enc.sz Lk)<|cells xs++js)++List.drop ((i+ys.length)*Enc.sz Lk+(xs.length - i)*Enc.sz Lk) (cells xs++js))) (k:=i) (q:=ys.length) Bh ty192 C om C (Em (e:=192) (xs:=ys) mm) om om (λu hu=>cells_one ys u<|List.mem_of_mem_take hu) C am)<|Z ?_
 have hC:(List.take (i*Enc.sz Lk) (List.take ((i+ys.length)*Enc.sz Lk) (cells xs++js)++List.take ((xs.length - i)*Enc.sz Lk) (List.drop (i*Enc.sz Lk)<|cells xs++js)++List.drop ((i+ys.length)*Enc.sz Lk+(xs.length - i)*Enc.sz Lk) (cells xs++js))++List.take (ys.length*Enc.sz Lk) (cells ys)++List.drop (i*Enc.sz Lk+ys.length*Enc.sz Lk) (List.take ((i+ys.length)*Enc.sz Lk) (cells xs++js)++List.take ((xs.length - i)*Enc.sz Lk) (List.drop (i*Enc.sz Lk)<|cells xs++js)++List.drop ((i+ys.length)*Enc.sz Lk+(xs.length - i)*Enc.sz Lk) (cells xs++js)))=cells (List.take i xs++ys++List.drop i xs):=ins_cells hi an
 exact Ai C C (vc 192 (.slice a (List.take i xs++ys++List.drop i xs).length c) (List.take i xs++ys++List.drop i xs)::I) (by rw [hC];show Fit κ _ (vec 192 _ (.slice a (List.take i xs++ys++List.drop i xs).length c) (List.take i xs++ys++List.drop i xs).length (cells<|List.take i xs++ys++List.drop i xs)::I);rw [ad];exact Bb) ⟨a,c,by rw [ad],rfl⟩
theorem InsertL_two{m M:Nat}{K:List Item}(hf:Fit κ I (vc 192 (.slice a n c) xs::vc 192 (.slice va m M) ys::K))(hn:n=xs.length)(hm:m=ys.length)(hi:i<=xs.length)(hy:0<ys.length)(aa:xs.length+ys.length<=1000000000):eu prog κ 280 [.slice a n c,e7 (i:Int),.slice va m M] I (λr J=>∃a' c',r = .slice a' (List.take i xs++ys++List.drop i xs).length c'/\J=vc 192 (.slice a' (List.take i xs++ys++List.drop i xs).length c') (List.take i xs++ys++List.drop i xs)::K):=by
 subst hn hm
 exact Cv hf<|InsertL_ok hi hy aa
theorem BSearchL{v:Value}(hl:Sl κ I v xs)(x:Lk){g:FuncId}{cf:Lk->Lk->Int}(aa:Cmps prog κ I g M cf)(an:xs.length<=1000000000000):eu prog κ 279 [v,.agg #[e7 (x.u),e7 (x.v),e7 (x.w),e7 (x.lb),e7 (x.sg),e7 (x.tm)],.func (.func g) #[] M.toArray] I (λr J=>∃i b,r = .tuple #[e7 ((i:Nat):Int),.bool b]/\BFound cf xs x i b/\I=J):=by
 refine Bu hl.le λak=>?_
 refine Ce3 Tryz.func279 C C ?_
 refine Ar<|Ge1 (Al (cs:=[_,_,_,_,_,_]) C C C) λb1=>Z ?_
 refine D7 (σ:=Nat×Nat) (λs=>[(9,e7 ((s.1:Nat):Int)),(10,e7 ((s.2:Nat):Int))]) (λ_=>[]) (λs=>(s.1<=s.2)/\(s.2<=xs.length)/\(0<s.1->cf (e_ xs<|(s.1:Int) - 1) x<0)/\(s.2<xs.length->¬cf (e_ xs s.2) x<0)) (λs=>s.2 - s.1) (0,xs.length) (show ((0:Nat)<=(xs.length:Nat))/\((xs.length:Nat)<=xs.length)/\(0<(0:Nat)->cf (e_ xs<|((0:Nat):Int) - 1) x<0)/\((xs.length:Nat)<xs.length->¬cf (e_ xs ((xs.length:Nat):Int)) x<0) from ⟨om,om,(λh=>absurd h dc),(λh=>absurd h om)⟩) ?_
 rintro ⟨i,j⟩ hp
 dsimp only at hp ⊢
 obtain ⟨ao,hj,ae,ah⟩:=hp
 refine Z ?_
 refine Ap C (λai=>Z ?_)<|λai=>Z ?_
 ·refine Gr (F0 Bd Ej C om) (Gr (Runs.shr1 C C)<|Gr (Runs.convI Ej Bd C<|by unfold InR;omega)<|Z ?_)
  refine A4 mixed<|Cr 8<|Z ?_
  refine Ds1 6<|Se C (Cu aa.1 (first:=[]) (caps:=M) C C C<|aa.2 (e_ xs<|((i:Int)+(j:Int)) / 2) x _ Ah) ?_
  rintro _ _ ⟨_,_,⟨rfl,rfl⟩,rfl,rfl⟩
  refine ⟨Aj,?_⟩
  refine Z ?_
  refine Ap C (λab=>Z ?_)<|λab=>Z ?_
  ·exact B5 (((i+j) / 2+1),(j))<|by dsimp only;exact ⟨om,om,(λ_=>by rw [show (((i+j) / 2+1:Nat):Int) - 1=((i:Int)+(j:Int)) / 2 by omega];exact ab),ah⟩
  exact B5 ((i),((i+j) / 2))<|by dsimp only;exact ⟨om,om,ae,(λ_=>by rw [show (((i+j) / 2:Nat):Int)=((i:Int)+(j:Int)) / 2 by omega];exact ab)⟩
 refine A4 mixed<|Cr 16<|Z ?_
 refine Du (d:=39) C (λaj=>Z ?_)<|λaj=>?_
 ·refine Ds1 11 (Se C (Cu aa.1 (first:=[]) (caps:=M) C C C<|aa.2 (e_ xs i) x _ Ah) ?_)
  rintro _ _ ⟨_,_,⟨rfl,rfl⟩,rfl,rfl⟩
  refine ⟨Aj,?_⟩
  refine Z ?_
  have ad:i=j:=by omega
  subst ad
  exact Cy C C C I Ah ⟨i,_,rfl,⟨hj,ae,ah,(decide_eq_decide.2 ⟨λh=>⟨by omega,h⟩,λh=>h.2⟩)⟩,rfl⟩
 refine Dpo 5 C<|Z ?_
 have ad:i=j:=by omega
 subst ad
 exact Cy C C C I Ah ⟨i,_,rfl,⟨hj,ae,ah,((decide_eq_false<|λh=>by omega).symm)⟩,rfl⟩
theorem OrderL_cmps:Cmps prog κ I 242 [] Lk.cmp:=⟨c_,λx y J M=>OrderL_ok x y⟩
theorem SetP_base{κ:Ctx}{I:List Item}{e:Ev}(ha:xs.Pairwise Lk.lt)(bc:xs.length<=1000000):eu prog κ 243 [.slice a0 xs.length c0,.agg #[e7 (e.kd),e7 (e.tm),e7 (e.u),e7 (e.v),e7 (e.w),e7 (e.lb),e7 (e.sg)]] (vc 192 (.slice a0 xs.length c0) (xs)::I) (λr J=>∃y:Option Addr×Nat×Value,(r = .tuple #[.slice y.1 (setL (ei e) xs).length y.2.1,y.2.2])/\J=[]++vc 192 (.slice y.1 (setL (ei e) xs).length y.2.1) (setL (ei e) xs)::I):=by
 refine Ce2 Tryz.func243 C C ?_
 refine Ar<|Ge1 (Al (cs:=[_,_,_,_,_,_,_]) C C C) λb1=>Z ?_
 refine Ge1 (Am ty192 C) λb2=>Ge0 (E9 ty192)<|Z ?_
 refine G.e (Ac c_ C C<|BSearchL A7 (⟨if e.v<e.u then e.v else e.u,if e.u<e.v then e.v else e.u,e.w,e.lb,e.sg,e.tm⟩:Lk) OrderL_cmps om) ?_
 rintro _ _ ⟨_,_,⟨M,q4,rfl,ai,rfl⟩,rfl,rfl⟩
 refine Z ?_
 have a9:=ai.le
 refine Z ?_
 refine A4 mixed<|Cr 9<|Z ?_
 refine D.splitb (d:=35) C (λaa=>?_)<|λaa=>?_
 ·have bb:=(setL_there ai ha aa).1
  refine Z ?_
  refine Dro 7 C (Runs.eqlT (α:=Lk) (a:=(e_ xs M)) (b:=(⟨if e.v<e.u then e.v else e.u,if e.u<e.v then e.v else e.u,e.w,e.lb,e.sg,e.tm⟩:Lk)) eqt192 C C)<|Z ?_
  refine Ap C (λaw=>Z ?_)<|λaw=>Z ?_
  ·have au:M<xs.length/\(setL (ei e) xs)=xs.set M (ei e):=setL_there ai ha aa
   have hE:xs=(setL (ei e) xs):=by rw [au.2];exact (set_self (n:=ei e) au.1 aw).symm
   exact Cy C C C ([]++vc 192 (.slice a0 (setL (ei e) xs).length c0) (setL (ei e) xs)::I) (by rw [←hE];exact Aj) ⟨⟨a0,c0,.slice none 0 0⟩,by rw [←hE],rfl⟩
  refine D8 C (λao=>?_)<|λao=>?_
  ·rw [aa] at ao;exact absurd ao dc
  refine Ar<|Gm C<|G.e (Ac c_ C C<|CloneL (xs:=xs) A7 om) ?_
  rintro _ _ ⟨_,_,⟨ak,aj,rfl,rfl⟩,rfl,rfl⟩
  refine Z ?_
  refine Ge0 (Ci (α:=Lk) (xs:=xs) (e:=192) (new:=⟨if e.v<e.u then e.v else e.u,if e.u<e.v then e.v else e.u,e.w,e.lb,e.sg,e.tm⟩) ty192 C C C om om am)<|Z ?_
  refine A4 mixed<|Cm (vc 192 (.slice ak xs.length aj) (List.set xs ((M:Int)).toNat (⟨if e.v<e.u then e.v else e.u,if e.u<e.v then e.v else e.u,e.w,e.lb,e.sg,e.tm⟩))::e8 b2 [e7 (if e.v<e.u then e.v else e.u),e7 (if e.u<e.v then e.v else e.u),e7<|e.w,e7<|e.lb,e7<|e.sg,e7<|e.tm] 192::vc 192 (.slice a0 xs.length c0) (xs)::I) 5<|Z ?_
  refine C0 (rs:=[2,5]) kr C C<|D6 ?_<|Dv ?_
  ·refine Sr C (Ad fld192_1 C) Aj ?_
   refine C0 (rs:=[3,5]) kr C C<|D6 ?_<|Dv ?_
   ·refine Sr C (Ax ef) Aj ?_
    refine C3 kr ?_
    refine Ae 5 C (Do ef) ?_
    rintro _ _ ⟨rfl,rfl⟩
    refine Fg (i:=6) kr C (Ba C) C C (Ad fld63_3 C) ?_
    refine Ae 7 C (Do ef) ?_
    rintro _ _ ⟨rfl,rfl⟩
    refine C4 kr ?_
    refine Ay<|A5<|A4 mixed<|Cm (vc 192 (.slice ak xs.length aj) (List.set xs ((M:Int)).toNat (⟨if e.v<e.u then e.v else e.u,if e.u<e.v then e.v else e.u,e.w,e.lb,e.sg,e.tm⟩))::e8 b2 [e7 (if e.v<e.u then e.v else e.u),e7 (if e.u<e.v then e.v else e.u),e7<|e.w,e7<|e.lb,e7<|e.sg,e7<|e.tm] 192::e8 b1 [e7 (e.kd),e7<|e.tm,e7 (if e.v<e.u then e.v else e.u),e7 (if e.u<e.v then e.v else e.u),e7<|e.w,e7<|e.lb,e7<|e.sg] 63::vc 192 (.slice a0 xs.length c0) (xs)::I) 5<|Z ?_
    refine Ds1 2<|Se1 C (B9 (α:=Ev) (cs:=[e7 (e.kd),e7<|e.tm,e7 (if e.v<e.u then e.v else e.u),e7 (if e.u<e.v then e.v else e.u),e7<|e.w,e7<|e.lb,e7<|e.sg]) (xs:=[⟨e.kd,e.tm,if e.v<e.u then e.v else e.u,if e.u<e.v then e.v else e.u,e.w,e.lb,e.sg⟩]) Bc ty63 C C dc dc C kr C C) λa3=>Z ?_
    have hE:List.set xs ((M:Int)).toNat (⟨if e.v<e.u then e.v else e.u,if e.u<e.v then e.v else e.u,e.w,e.lb,e.sg,e.tm⟩)=(setL (ei e) xs):=(setL_there ai ha aa).2.symm
    have an:(setL (ei e) xs).length=xs.length:=by rw [←hE,List.length_set]
    exact Cy C C C ([]++vc 192 (.slice ak (setL (ei e) xs).length aj) (setL (ei e) xs)::I) (by rw [an,←hE];exact Aj) ⟨⟨ak,aj,.slice a3 1 1⟩,by rw [an],rfl⟩
   refine Se0 C (Do ef) ?_
   refine Ds1 3<|Sr C (Ax ef) Aj ?_
   refine Ds1 6<|Sr C (Ad fld63_3 C) Aj ?_
   refine Ds1 7<|Se0 C (Do ef) ?_
   refine Dz<|Ay<|A5<|A4 mixed<|Cm (vc 192 (.slice ak xs.length aj) (List.set xs ((M:Int)).toNat (⟨if e.v<e.u then e.v else e.u,if e.u<e.v then e.v else e.u,e.w,e.lb,e.sg,e.tm⟩))::e8 b2 [e7 (if e.v<e.u then e.v else e.u),e7 (if e.u<e.v then e.v else e.u),e7<|e.w,e7<|e.lb,e7<|e.sg,e7<|e.tm] 192::e8 b1 [e7 (e.kd),e7<|e.tm,e7 (if e.v<e.u then e.v else e.u),e7 (if e.u<e.v then e.v else e.u),e7<|e.w,e7<|e.lb,e7<|e.sg] 63::vc 192 (.slice a0 xs.length c0) (xs)::I) 5<|Z ?_
   refine Ds1 2<|Se1 C (B9 (α:=Ev) (cs:=[e7 (e.kd),e7<|e.tm,e7 (if e.v<e.u then e.v else e.u),e7 (if e.u<e.v then e.v else e.u),e7<|e.w,e7<|e.lb,e7<|e.sg]) (xs:=[⟨e.kd,e.tm,if e.v<e.u then e.v else e.u,if e.u<e.v then e.v else e.u,e.w,e.lb,e.sg⟩]) Bc ty63 C C dc dc C kr C C) λa1=>Z ?_
   have hE:List.set xs ((M:Int)).toNat (⟨if e.v<e.u then e.v else e.u,if e.u<e.v then e.v else e.u,e.w,e.lb,e.sg,e.tm⟩)=(setL (ei e) xs):=(setL_there ai ha aa).2.symm
   have an:(setL (ei e) xs).length=xs.length:=by rw [←hE,List.length_set]
   exact Cy C C C ([]++vc 192 (.slice ak (setL (ei e) xs).length aj) (setL (ei e) xs)::I) (by rw [an,←hE];exact Aj) ⟨⟨ak,aj,.slice a1 1 1⟩,by rw [an],rfl⟩
  refine Se0 C (Do ef) ?_
  refine Ds1 2<|Sr C (Ad fld192_1 C) Aj ?_
  refine Ds1 3<|Sr C (Ax ef) Aj ?_
  refine Ds1 6<|Sr C (Ad fld63_3 C) Aj ?_
  refine Ds1 7<|Se0 C (Do ef) ?_
  refine Dz<|Ay<|A5<|A4 mixed<|Cr 5<|Z ?_
  refine Ds1 2<|Se1 C (B9 (α:=Ev) (cs:=[e7 (e.kd),e7<|e.tm,e7 (if e.v<e.u then e.v else e.u),e7 (if e.u<e.v then e.v else e.u),e7<|e.w,e7<|e.lb,e7<|e.sg]) (xs:=[⟨e.kd,e.tm,if e.v<e.u then e.v else e.u,if e.u<e.v then e.v else e.u,e.w,e.lb,e.sg⟩]) Bc ty63 C C dc dc C kr C C) λaz=>Z ?_
  have hE:List.set xs ((M:Int)).toNat (⟨if e.v<e.u then e.v else e.u,if e.u<e.v then e.v else e.u,e.w,e.lb,e.sg,e.tm⟩)=(setL (ei e) xs):=(setL_there ai ha aa).2.symm
  have an:(setL (ei e) xs).length=xs.length:=by rw [←hE,List.length_set]
  exact Cy C C C ([]++vc 192 (.slice ak (setL (ei e) xs).length aj) (setL (ei e) xs)::I) (by rw [an,←hE];exact Aj) ⟨⟨ak,aj,.slice az 1 1⟩,by rw [an],rfl⟩
 refine Dpo 2 C<|Z ?_
 refine D8 C (λao=>?_)<|λao=>?_
 ·refine A4 mixed (Cr 7<|Z ?_)
  refine C0 (rs:=[1,4]) kr C C<|D6 ?_<|Dv ?_
  ·refine Se C (Ac c_ C C<|CloneL (xs:=xs) A7 om) ?_
   rintro _ _ ⟨_,_,⟨a5,a6,rfl,rfl⟩,rfl,rfl⟩
   refine ⟨Aj,?_⟩
   refine Ds1 4<|Se1 C (B9 (α:=Lk) (cs:=[e7 (if e.v<e.u then e.v else e.u),e7 (if e.u<e.v then e.v else e.u),e7<|e.w,e7<|e.lb,e7<|e.sg,e7<|e.tm]) (xs:=[⟨if e.v<e.u then e.v else e.u,if e.u<e.v then e.v else e.u,e.w,e.lb,e.sg,e.tm⟩]) Bh ty192 C C dc dc C kr C C) λa4=>?_
   refine Ds1 5<|Sc2 C (Ac c_ C C<|InsertL_two (i:=M) (xs:=xs) (ys:=([⟨if e.v<e.u then e.v else e.u,if e.u<e.v then e.v else e.u,e.w,e.lb,e.sg,e.tm⟩]:List Lk)) Bb C C om (by simp only [List.length_cons];omega) lcn) λad ae=>Z ?_
   refine A4 mixed<|Cm (vc 192 (.slice ad (List.take M xs++([⟨if e.v<e.u then e.v else e.u,if e.u<e.v then e.v else e.u,e.w,e.lb,e.sg,e.tm⟩]:List Lk)++List.drop M xs).length ae) (List.take M xs++([⟨if e.v<e.u then e.v else e.u,if e.u<e.v then e.v else e.u,e.w,e.lb,e.sg,e.tm⟩]:List Lk)++List.drop M xs)::e8 b2 [e7 (if e.v<e.u then e.v else e.u),e7 (if e.u<e.v then e.v else e.u),e7<|e.w,e7<|e.lb,e7<|e.sg,e7<|e.tm] 192::vc 192 (.slice a0 xs.length c0) (xs)::I) 5<|Z ?_
   refine C0 (rs:=[2,5]) kr C C<|D6 ?_<|Dv ?_
   ·refine Sr C (Ad fld192_1 C) Aj ?_
    refine C0 (rs:=[3,5]) kr C C<|D6 ?_<|Dv ?_
    ·refine Sr C (Ax ef) Aj ?_
     refine C3 kr ?_
     refine Ae 5 C (Do ef) ?_
     rintro _ _ ⟨rfl,rfl⟩
     refine Fg (i:=6) kr C (Ba C) C C (Ad fld63_3 C) ?_
     refine Ae 7 C (Do ef) ?_
     rintro _ _ ⟨rfl,rfl⟩
     refine C4 kr ?_
     refine Ay<|A5<|A4 mixed<|Cm (vc 192 (.slice ad (List.take M xs++([⟨if e.v<e.u then e.v else e.u,if e.u<e.v then e.v else e.u,e.w,e.lb,e.sg,e.tm⟩]:List Lk)++List.drop M xs).length ae) (List.take M xs++([⟨if e.v<e.u then e.v else e.u,if e.u<e.v then e.v else e.u,e.w,e.lb,e.sg,e.tm⟩]:List Lk)++List.drop M xs)::e8 b2 [e7 (if e.v<e.u then e.v else e.u),e7 (if e.u<e.v then e.v else e.u),e7<|e.w,e7<|e.lb,e7<|e.sg,e7<|e.tm] 192::e8 b1 [e7 (e.kd),e7<|e.tm,e7 (if e.v<e.u then e.v else e.u),e7 (if e.u<e.v then e.v else e.u),e7<|e.w,e7<|e.lb,e7<|e.sg] 63::vc 192 (.slice a0 xs.length c0) (xs)::I) 5<|Z ?_
     refine Ds1 2<|Se1 C (B9 (α:=Ev) (cs:=[e7 (e.kd),e7<|e.tm,e7 (if e.v<e.u then e.v else e.u),e7 (if e.u<e.v then e.v else e.u),e7<|e.w,e7<|e.lb,e7<|e.sg]) (xs:=[⟨e.kd,e.tm,if e.v<e.u then e.v else e.u,if e.u<e.v then e.v else e.u,e.w,e.lb,e.sg⟩]) Bc ty63 C C dc dc C kr C C) λaq=>Z ?_
     have hE:List.take M xs++([⟨if e.v<e.u then e.v else e.u,if e.u<e.v then e.v else e.u,e.w,e.lb,e.sg,e.tm⟩]:List Lk)++List.drop M xs=(setL (ei e) xs):=(setL_new ai ha aa).symm
     exact Cy C C C ([]++vc 192 (.slice ad (setL (ei e) xs).length ae) (setL (ei e) xs)::I) (by rw [←hE];exact Aj) ⟨⟨ad,ae,.slice aq 1 1⟩,by rw [←hE],rfl⟩
    refine Se0 C (Do ef) ?_
    refine Ds1 3<|Sr C (Ax ef) Aj ?_
    refine Ds1 6<|Sr C (Ad fld63_3 C) Aj ?_
    refine Ds1 7<|Se0 C (Do ef) ?_
    refine Dz<|Ay<|A5<|A4 mixed<|Cm (vc 192 (.slice ad (List.take M xs++([⟨if e.v<e.u then e.v else e.u,if e.u<e.v then e.v else e.u,e.w,e.lb,e.sg,e.tm⟩]:List Lk)++List.drop M xs).length ae) (List.take M xs++([⟨if e.v<e.u then e.v else e.u,if e.u<e.v then e.v else e.u,e.w,e.lb,e.sg,e.tm⟩]:List Lk)++List.drop M xs)::e8 b2 [e7 (if e.v<e.u then e.v else e.u),e7 (if e.u<e.v then e.v else e.u),e7<|e.w,e7<|e.lb,e7<|e.sg,e7<|e.tm] 192::e8 b1 [e7 (e.kd),e7<|e.tm,e7 (if e.v<e.u then e.v else e.u),e7 (if e.u<e.v then e.v else e.u),e7<|e.w,e7<|e.lb,e7<|e.sg] 63::vc 192 (.slice a0 xs.length c0) (xs)::I) 5<|Z ?_
    refine Ds1 2<|Se1 C (B9 (α:=Ev) (cs:=[e7 (e.kd),e7<|e.tm,e7 (if e.v<e.u then e.v else e.u),e7 (if e.u<e.v then e.v else e.u),e7<|e.w,e7<|e.lb,e7<|e.sg]) (xs:=[⟨e.kd,e.tm,if e.v<e.u then e.v else e.u,if e.u<e.v then e.v else e.u,e.w,e.lb,e.sg⟩]) Bc ty63 C C dc dc C kr C C) λap=>Z ?_
    have hE:List.take M xs++([⟨if e.v<e.u then e.v else e.u,if e.u<e.v then e.v else e.u,e.w,e.lb,e.sg,e.tm⟩]:List Lk)++List.drop M xs=(setL (ei e) xs):=(setL_new ai ha aa).symm
    exact Cy C C C ([]++vc 192 (.slice ad (setL (ei e) xs).length ae) (setL (ei e) xs)::I) (by rw [←hE];exact Aj) ⟨⟨ad,ae,.slice ap 1 1⟩,by rw [←hE],rfl⟩
   refine Se0 C (Do ef) ?_
   refine Ds1 2<|Sr C (Ad fld192_1 C) Aj ?_
   refine Ds1 3<|Sr C (Ax ef) Aj ?_
   refine Ds1 6<|Sr C (Ad fld63_3 C) Aj ?_
   refine Ds1 7<|Se0 C (Do ef) ?_
   refine Dz<|Ay<|A5<|A4 mixed<|Cr 5<|Z ?_
   refine Ds1 2<|Se1 C (B9 (α:=Ev) (cs:=[e7 (e.kd),e7<|e.tm,e7 (if e.v<e.u then e.v else e.u),e7 (if e.u<e.v then e.v else e.u),e7<|e.w,e7<|e.lb,e7<|e.sg]) (xs:=[⟨e.kd,e.tm,if e.v<e.u then e.v else e.u,if e.u<e.v then e.v else e.u,e.w,e.lb,e.sg⟩]) Bc ty63 C C dc dc C kr C C) λar=>Z ?_
   have hE:List.take M xs++([⟨if e.v<e.u then e.v else e.u,if e.u<e.v then e.v else e.u,e.w,e.lb,e.sg,e.tm⟩]:List Lk)++List.drop M xs=(setL (ei e) xs):=(setL_new ai ha aa).symm
   exact Cy C C C ([]++vc 192 (.slice ad (setL (ei e) xs).length ae) (setL (ei e) xs)::I) (by rw [←hE];exact Aj) ⟨⟨ad,ae,.slice ar 1 1⟩,by rw [←hE],rfl⟩
  refine Se1 C (B9 (α:=Lk) (cs:=[e7 (if e.v<e.u then e.v else e.u),e7 (if e.u<e.v then e.v else e.u),e7<|e.w,e7<|e.lb,e7<|e.sg,e7<|e.tm]) (xs:=[⟨if e.v<e.u then e.v else e.u,if e.u<e.v then e.v else e.u,e.w,e.lb,e.sg,e.tm⟩]) Bh ty192 C C dc dc C kr C C) λa7=>?_
  refine Ds1 1<|Se C (Ac c_ C C<|CloneL (xs:=xs) A7 om) ?_
  rintro _ _ ⟨_,_,⟨a8,ba,rfl,rfl⟩,rfl,rfl⟩
  refine ⟨Aj,?_⟩
  refine Ds1 5<|Sc2 C (Ac c_ C C<|InsertL_two (i:=M) (xs:=xs) (ys:=([⟨if e.v<e.u then e.v else e.u,if e.u<e.v then e.v else e.u,e.w,e.lb,e.sg,e.tm⟩]:List Lk)) Bb C C om (by simp only [List.length_cons];omega) lcn) λab ah=>Z ?_
  refine A4 mixed<|Cm (vc 192 (.slice ab (List.take M xs++([⟨if e.v<e.u then e.v else e.u,if e.u<e.v then e.v else e.u,e.w,e.lb,e.sg,e.tm⟩]:List Lk)++List.drop M xs).length ah) (List.take M xs++([⟨if e.v<e.u then e.v else e.u,if e.u<e.v then e.v else e.u,e.w,e.lb,e.sg,e.tm⟩]:List Lk)++List.drop M xs)::e8 b2 [e7 (if e.v<e.u then e.v else e.u),e7 (if e.u<e.v then e.v else e.u),e7<|e.w,e7<|e.lb,e7<|e.sg,e7<|e.tm] 192::vc 192 (.slice a0 xs.length c0) (xs)::I) 5<|Z ?_
  refine C0 (rs:=[2,5]) kr C C<|D6 ?_<|Dv ?_
  ·refine Sr C (Ad fld192_1 C) Aj ?_
   refine C0 (rs:=[3,5]) kr C C<|D6 ?_<|Dv ?_
   ·refine Sr C (Ax ef) Aj ?_
    refine C3 kr ?_
    refine Ae 5 C (Do ef) ?_
    rintro _ _ ⟨rfl,rfl⟩
    refine Fg (i:=6) kr C (Ba C) C C (Ad fld63_3 C) ?_
    refine Ae 7 C (Do ef) ?_
    rintro _ _ ⟨rfl,rfl⟩
    refine C4 kr ?_
    refine Ay<|A5<|A4 mixed<|Cm (vc 192 (.slice ab (List.take M xs++([⟨if e.v<e.u then e.v else e.u,if e.u<e.v then e.v else e.u,e.w,e.lb,e.sg,e.tm⟩]:List Lk)++List.drop M xs).length ah) (List.take M xs++([⟨if e.v<e.u then e.v else e.u,if e.u<e.v then e.v else e.u,e.w,e.lb,e.sg,e.tm⟩]:List Lk)++List.drop M xs)::e8 b2 [e7 (if e.v<e.u then e.v else e.u),e7 (if e.u<e.v then e.v else e.u),e7<|e.w,e7<|e.lb,e7<|e.sg,e7<|e.tm] 192::e8 b1 [e7 (e.kd),e7<|e.tm,e7 (if e.v<e.u then e.v else e.u),e7 (if e.u<e.v then e.v else e.u),e7<|e.w,e7<|e.lb,e7<|e.sg] 63::vc 192 (.slice a0 xs.length c0) (xs)::I) 5<|Z ?_
    refine Ds1 2<|Se1 C (B9 (α:=Ev) (cs:=[e7 (e.kd),e7<|e.tm,e7 (if e.v<e.u then e.v else e.u),e7 (if e.u<e.v then e.v else e.u),e7<|e.w,e7<|e.lb,e7<|e.sg]) (xs:=[⟨e.kd,e.tm,if e.v<e.u then e.v else e.u,if e.u<e.v then e.v else e.u,e.w,e.lb,e.sg⟩]) Bc ty63 C C dc dc C kr C C) λay=>Z ?_
    have hE:List.take M xs++([⟨if e.v<e.u then e.v else e.u,if e.u<e.v then e.v else e.u,e.w,e.lb,e.sg,e.tm⟩]:List Lk)++List.drop M xs=(setL (ei e) xs):=(setL_new ai ha aa).symm
    exact Cy C C C ([]++vc 192 (.slice ab (setL (ei e) xs).length ah) (setL (ei e) xs)::I) (by rw [←hE];exact Aj) ⟨⟨ab,ah,.slice ay 1 1⟩,by rw [←hE],rfl⟩
   refine Se0 C (Do ef) ?_
   refine Ds1 3<|Sr C (Ax ef) Aj ?_
   refine Ds1 6<|Sr C (Ad fld63_3 C) Aj ?_
   refine Ds1 7<|Se0 C (Do ef) ?_
   refine Dz<|Ay<|A5<|A4 mixed<|Cm (vc 192 (.slice ab (List.take M xs++([⟨if e.v<e.u then e.v else e.u,if e.u<e.v then e.v else e.u,e.w,e.lb,e.sg,e.tm⟩]:List Lk)++List.drop M xs).length ah) (List.take M xs++([⟨if e.v<e.u then e.v else e.u,if e.u<e.v then e.v else e.u,e.w,e.lb,e.sg,e.tm⟩]:List Lk)++List.drop M xs)::e8 b2 [e7 (if e.v<e.u then e.v else e.u),e7 (if e.u<e.v then e.v else e.u),e7<|e.w,e7<|e.lb,e7<|e.sg,e7<|e.tm] 192::e8 b1 [e7 (e.kd),e7<|e.tm,e7 (if e.v<e.u then e.v else e.u),e7 (if e.u<e.v then e.v else e.u),e7<|e.w,e7<|e.lb,e7<|e.sg] 63::vc 192 (.slice a0 xs.length c0) (xs)::I) 5<|Z ?_
   refine Ds1 2<|Se1 C (B9 (α:=Ev) (cs:=[e7 (e.kd),e7<|e.tm,e7 (if e.v<e.u then e.v else e.u),e7 (if e.u<e.v then e.v else e.u),e7<|e.w,e7<|e.lb,e7<|e.sg]) (xs:=[⟨e.kd,e.tm,if e.v<e.u then e.v else e.u,if e.u<e.v then e.v else e.u,e.w,e.lb,e.sg⟩]) Bc ty63 C C dc dc C kr C C) λax=>Z ?_
   have hE:List.take M xs++([⟨if e.v<e.u then e.v else e.u,if e.u<e.v then e.v else e.u,e.w,e.lb,e.sg,e.tm⟩]:List Lk)++List.drop M xs=(setL (ei e) xs):=(setL_new ai ha aa).symm
   exact Cy C C C ([]++vc 192 (.slice ab (setL (ei e) xs).length ah) (setL (ei e) xs)::I) (by rw [←hE];exact Aj) ⟨⟨ab,ah,.slice ax 1 1⟩,by rw [←hE],rfl⟩
  refine Se0 C (Do ef) ?_
  refine Ds1 2<|Sr C (Ad fld192_1 C) Aj ?_
  refine Ds1 3<|Sr C (Ax ef) Aj ?_
  refine Ds1 6<|Sr C (Ad fld63_3 C) Aj ?_
  refine Ds1 7<|Se0 C (Do ef) ?_
  refine Dz<|Ay<|A5<|A4 mixed<|Cr 5<|Z ?_
  refine Ds1 2<|Se1 C (B9 (α:=Ev) (cs:=[e7 (e.kd),e7<|e.tm,e7 (if e.v<e.u then e.v else e.u),e7 (if e.u<e.v then e.v else e.u),e7<|e.w,e7<|e.lb,e7<|e.sg]) (xs:=[⟨e.kd,e.tm,if e.v<e.u then e.v else e.u,if e.u<e.v then e.v else e.u,e.w,e.lb,e.sg⟩]) Bc ty63 C C dc dc C kr C C) λav=>Z ?_
  have hE:List.take M xs++([⟨if e.v<e.u then e.v else e.u,if e.u<e.v then e.v else e.u,e.w,e.lb,e.sg,e.tm⟩]:List Lk)++List.drop M xs=(setL (ei e) xs):=(setL_new ai ha aa).symm
  exact Cy C C C ([]++vc 192 (.slice ab (setL (ei e) xs).length ah) (setL (ei e) xs)::I) (by rw [←hE];exact Aj) ⟨⟨ab,ah,.slice av 1 1⟩,by rw [←hE],rfl⟩
 rw [aa] at ao;exact absurd ao dc
theorem CutP_base{κ:Ctx}{I:List Item}{g:FuncId}{ah:List Value}{p:Lk->Bool}(ap:Says prog κ (vc 192 (.slice a0 xs.length c0) xs::I) g ah p)(ay:xs.length<=1000000):eu prog κ 244 [.slice a0 xs.length c0,e7 nw,.func (.func g) #[] ah.toArray] (vc 192 (.slice a0 xs.length c0) (xs)::I) (λr J=>∃y:Option Addr×Nat×Value,(r = .tuple #[.slice y.1 (xs.filter (λx=> !p x)).length y.2.1,y.2.2])/\J=[]++vc 192 (.slice y.1 (xs.filter (λx=> !p x)).length y.2.1) (xs.filter (λx=> !p x))::I):=by
 refine Ce3 Tryz.func244 C C<|Z ?_
 refine G.e (Ac c_ C C<|CloneL (xs:=xs) A7 om) ?_
 rintro _ _ ⟨_,_,⟨ae,ad,rfl,rfl⟩,rfl,rfl⟩
 refine Z ?_
 refine Cn (σ:=Nat×(Option Addr)×Nat×(List Ev)) (λs=>([(0,.slice ae (keepL (λx=> !p x) xs s.1).length ad),(1,e7 nw),(2,.func (.func g) #[] ah.toArray),(8,.slice s.2.1 s.2.2.2.length s.2.2.1),(9,e7<|((keptN (λx=> !p x) xs s.1:Nat):Int))]:Env)) (λs=>vc 63 (.slice s.2.1 s.2.2.2.length s.2.2.1) (s.2.2.2)::vc 192 (.slice ae (keepL (λx=> !p x) xs s.1).length ad) ((keepL (λx=> !p x) xs s.1))::vc 192 (.slice a0 xs.length c0) (xs)::I) (λs=>(s.1<=xs.length)/\(s.2.2.2.length<=s.1)) (λs=>xs.length - s.1) (0,none,0,[]) ⟨om,(by simp)⟩ (Ab (El C<|by first|rfl|(rw [keepL_zero])|(rw [M.1])|(rw [aa]))<|Ab C<|Ab C<|Ab (El C<|by first|rfl|(rw [keepL_zero])|(rw [M.1])|(rw [aa]))<|Ab (Dk C<|by first|omega|(rw [keptN_zero];rfl)|(dsimp only;have e1:=M.2;omega)|(dsimp only;have e1:=aj;omega)) Bs) (by rw [keepL_zero];exact Bw _ _) ?_
 rintro ⟨j,a2,c2,ab⟩ hp
 dsimp only at hp ⊢
 obtain ⟨hj,ax⟩:=hp
 have aw:=keptN_le (P:=(λx=> !p x)) (xs:=xs) (j:=j)
 have au:=keepL_len (P:=(λx=> !p x)) (xs:=xs) (j:=j)
 refine W.pull (vc.cap (xs:=(keepL (λx=> !p x) xs j)) mm) λav=>Z ?_
 refine Ap C (λar=>Z ?_)<|λar=>Z ?_
 ·refine G.e (Cu ap.1 (first:=[]) (caps:=ah) C C C<|ap.2 (e_ (keepL (λx=> !p x) xs j) ((keptN (λx=> !p x) xs j:Nat):Int)) _ Ah) ?_
  rintro _ _ ⟨_,_,⟨rfl,rfl⟩,rfl,rfl⟩
  refine Z ?_
  refine D8 C (λai=>Z ?_)<|λai=>Z ?_
  ·have M:=keep_yes (P:=(λx=> !p x)) (xs:=xs) (j:=j) om (by rw [←keepL_at (P:=(λx=> !p x)) (xs:=xs) (j:=j) om];exact ai)
   exact B5 ((j+1),(a2),(c2),(ab)) (by dsimp only;exact ⟨om,om⟩) (hL:=(Ab (El C<|by first|rfl|(rw [keepL_zero])|(rw [M.1])|(rw [aa]))<|Ab C<|Ab C<|Ab (El C<|by first|rfl|(rw [keepL_zero])|(rw [M.1])|(rw [aa]))<|Ab (Dk C<|by first|omega|(rw [keptN_zero];rfl)|(dsimp only;have e1:=M.2;omega)|(dsimp only;have e1:=aj;omega)) Bs)) (hI:=by (try dsimp only);exact (by rw [M.1];exact Aj))
  have ak:(λx=> !p x) (e_ xs j)=false:=by rw [←keepL_at (P:=(λx=> !p x)) (xs:=xs) (j:=j) om];exact ai
  have aj:=keep_no (P:=(λx=> !p x)) (xs:=xs) (j:=j) om ak
  refine Z ?_
  refine G.e (Ac c_ C C<|Gone_ok (e_ (keepL (λx=> !p x) xs j) ((keptN (λx=> !p x) xs j:Nat):Int)) nw) ?_
  rintro _ _ ⟨_,_,⟨rfl,rfl⟩,rfl,rfl⟩
  refine Ge1 (B9 (α:=Ev) (cs:=[e7 2,e7 nw,e7<|(e_ (keepL (λx=> !p x) xs j) ((keptN (λx=> !p x) xs j:Nat):Int)).u,e7<|(e_ (keepL (λx=> !p x) xs j) ((keptN (λx=> !p x) xs j:Nat):Int)).v,e7 0,e7 0,e7 0]) (xs:=[⟨2,nw,(e_ (keepL (λx=> !p x) xs j) ((keptN (λx=> !p x) xs j:Nat):Int)).u,(e_ (keepL (λx=> !p x) xs j) ((keptN (λx=> !p x) xs j:Nat):Int)).v,0,0,0⟩]) Bc ty63 C C dc dc C kr C C) λaq=>?_
  refine Ge2 (B4 (α:=Ev) (e:=63) (xs:=ab) (ys:=([⟨2,nw,(e_ (keepL (λx=> !p x) xs j) ((keptN (λx=> !p x) xs j:Nat):Int)).u,(e_ (keepL (λx=> !p x) xs j) ((keptN (λx=> !p x) xs j:Nat):Int)).v,0,0,0⟩]:List Ev)) Bc ty63 C C C mm A7 lcn dc C<|λ_ _=>am) λan ao=>Z ?_
  refine A4 mixed<|Cm I 8<|Z ?_
  refine Dr 2 C (E1 (l:=keptN (λx=> !p x) xs j) Bh ty192 C C (by simp only [Int.natCast_add]<;>omega) om om)<|Z ?_
  refine Dr 6 C (E1 (l:=(keptN (λx=> !p x) xs j+1)) Bh ty192 C C (by simp only [Int.natCast_add]<;>omega) om om)<|Ds1 7<|Se0 C (Eff.copyT (α:=Lk) (k:=keptN (λx=> !p x) xs j) (q:=(xs.length - j - 1)) (R:=(keepL (λx=> !p x) xs<|j+1)++List.drop (keptN (λx=> !p x) xs j+(xs.length - j - 1)) (keepL (λx=> !p x) xs j)) (n:=(keepL (λx=> !p x) xs j).length) Bh ty192 C (by first|omega|(simp only [List.length_append,List.length_take,List.length_drop,List.length_replicate]<;>omega)) C (Fq (Em (xs:=(keepL (λx=> !p x) xs j)) mm) om om) (by first|omega|(simp only [List.length_append,List.length_take,List.length_drop,List.length_replicate]<;>omega)) (by first|omega|(simp only [List.length_append,List.length_take,List.length_drop,List.length_replicate]<;>omega)) C (keep_copy om ak C) (by first|omega|(simp only [List.length_append,List.length_take,List.length_drop,List.length_replicate]<;>omega)) am)<|Z ?_
  refine Gr (Runs.hiraw (h:=((keepL (λx=> !p x) xs j).length - 1)) Bh ty192 C C om om)<|Ga C ?_
  have aa:(keepL (λx=> !p x) xs j).length - 1=(keepL (λx=> !p x) xs<|j+1).length:=by have h3:=keepL_len (P:=(λx=> !p x)) (xs:=xs) (j:=j+1);omega
  refine G.fit (J:=vc 63 (.slice aq 1 1) (([⟨2,nw,(e_ (keepL (λx=> !p x) xs j) ((keptN (λx=> !p x) xs j:Nat):Int)).u,(e_ (keepL (λx=> !p x) xs j) ((keptN (λx=> !p x) xs j:Nat):Int)).v,0,0,0⟩]:List Ev))::vc 63 (.slice an (ab++([⟨2,nw,(e_ (keepL (λx=> !p x) xs j) ((keptN (λx=> !p x) xs j:Nat):Int)).u,(e_ (keepL (λx=> !p x) xs j) ((keptN (λx=> !p x) xs j:Nat):Int)).v,0,0,0⟩]:List Ev)).length ao) (ab++([⟨2,nw,(e_ (keepL (λx=> !p x) xs j) ((keptN (λx=> !p x) xs j:Nat):Int)).u,(e_ (keepL (λx=> !p x) xs j) ((keptN (λx=> !p x) xs j:Nat):Int)).v,0,0,0⟩]:List Ev))::vc 192 (.slice ae (keepL (λx=> !p x) xs<|j+1).length ad) ((keepL (λx=> !p x) xs<|j+1))::vc 192 (.slice a0 xs.length c0) (xs)::I) (Fit.upd am (λw h=>by have h4:=cutshort (h:=((keepL (λx=> !p x) xs j).length - 1)) (by rw [List.length_append];omega) w h;rw [keep_take aa] at h4;exact h4))<|Z ?_
  exact B5 ((j+1),(an),(ao),(ab++([⟨2,nw,(e_ (keepL (λx=> !p x) xs j) ((keptN (λx=> !p x) xs j:Nat):Int)).u,(e_ (keepL (λx=> !p x) xs j) ((keptN (λx=> !p x) xs j:Nat):Int)).v,0,0,0⟩]:List Ev))) (by dsimp only;exact ⟨om,lap⟩) (hL:=(Ab (El C<|by first|rfl|(rw [keepL_zero])|(rw [M.1])|(rw [aa]))<|Ab C<|Ab C<|Ab (El C<|by first|rfl|(rw [keepL_zero])|(rw [M.1])|(rw [aa]))<|Ab (Dk C<|by first|omega|(rw [keptN_zero];rfl)|(dsimp only;have e1:=M.2;omega)|(dsimp only;have e1:=aj;omega)) Bs))
 have hE:(keepL (λx=> !p x) xs j)=(xs.filter<|λx=> !p x):=keepL_end om
 exact Cy C C C ([]++vc 192 (.slice ae (xs.filter<|λx=> !p x).length ad) (xs.filter<|λx=> !p x)::I) (by rw [←hE];exact Aj) ⟨⟨ae,ad,.slice a2 ab.length c2⟩,by rw [←hE],rfl⟩
variable {κ:Ctx}{I:List Item}
theorem SetP_at{F:Item->List Item}{e:Ev}(M:AtF I (vc 192 (.slice a0 n c0) xs) F)(hn:n=xs.length)(ha:xs.Pairwise Lk.lt)(aa:xs.length<=1000000):eu prog κ 243 [.slice a0 n c0,.agg #[e7 (e.kd),e7 (e.tm),e7 (e.u),e7 (e.v),e7 (e.w),e7 (e.lb),e7 (e.sg)]] I λr J=>∃y:Option Addr×Nat×Value,(r = .tuple #[.slice y.1 (setL (ei e) xs).length y.2.1,y.2.2])/\J=[]++F (vc 192 (.slice y.1 (setL (ei e) xs).length y.2.1) (setL (ei e) xs)):=by
 subst hn
 exact Ep (Post:=λr (y:Option Addr×Nat×Value)=>r = .tuple #[.slice y.1 (setL (ei e) xs).length y.2.1,y.2.2]) (Z:=λ_=>[]) (X:=λy:Option Addr×Nat×Value=>vc 192 (.slice y.1 (setL (ei e) xs).length y.2.1)<|setL (ei e) xs) M λJ hJ _=>SetP_base ha aa
theorem CutP_at{F:Item->List Item}{g:FuncId}{p:Lk->Bool}(aa:AtF I (vc 192 (.slice a0 n c0) xs) F)(hn:n=xs.length)(ad:Says prog κ I g M p)(ab:xs.length<=1000000):eu prog κ 244 [.slice a0 n c0,e7 nw,.func (.func g) #[] M.toArray] I λr J=>∃y:Option Addr×Nat×Value,(r = .tuple #[.slice y.1 (xs.filter (λx=> !p x)).length y.2.1,y.2.2])/\J=[]++F (vc 192 (.slice y.1 (xs.filter (λx=> !p x)).length y.2.1) (xs.filter (λx=> !p x))):=by
 subst hn
 exact Ep (Post:=λr (y:Option Addr×Nat×Value)=>r = .tuple #[.slice y.1 (xs.filter<|λx=> !p x).length y.2.1,y.2.2]) (Z:=λ_=>[]) (X:=λy:Option Addr×Nat×Value=>vc 192 (.slice y.1 (xs.filter<|λx=> !p x).length y.2.1)<|xs.filter<|λx=> !p x) aa λJ hJ _=>CutP_base (ad.fit hJ) ab
theorem hitE_two{e:Ev}{l:Lk}(h:e.kd=2):hitE e l=decide (l.u=(if e.v<e.u then e.v else e.u)/\l.v=(if e.u<e.v then e.v else e.u)):=by unfold hitE;rw [if_pos h];rfl
theorem hitE_oth{e:Ev}{l:Lk}(h:¬e.kd=2):hitE e l=decide (l.u=e.u\/l.v=e.u):=by unfold hitE;rw [if_neg h]
theorem Step1_ok{e:Ev}(hk:e.kd=2)(M:BlkRd κ I b [e7 (e.kd),e7 (e.tm),e7 (e.u),e7 (e.v),e7 (e.w),e7 (e.lb),e7 (e.sg)] 63)(x:Lk):eu prog κ 245 [.agg #[e7 (x.u),e7 (x.v),e7 (x.w),e7 (x.lb),e7 (x.sg),e7 (x.tm)],.pointer (some ⟨b,0,none⟩)] I (λr J=>r = .bool (hitE e x)/\I=J):=by
 refine Ce2 Tryz.func245 C C ?_
 refine Ar<|Ge1 (Al (cs:=[_,_,_,_,_,_]) C C C) λb1=>Z ?_
 refine Gr (Cs ef C (Co M Ah) C)<|Gf fld63_3 C<|Gr (Cs ef C (Co M Ah) C)<|Z ?_
 refine A6 (d:=12) C (λaa=>Z ?_)<|λaa=>Z ?_
 ·refine e9 (Cs ef C (Co M Ah) C) (Z ?_)
  refine e9 (Cs ef C (Co M Ah) C)<|Z ?_
  exact Ai C C I Ah ⟨by rw [hitE_two hk];exact (by first|exact congrArg Value.bool (decide_eq_decide.2<|by skip;omega)|exact congrArg Value.bool (decide_eq_true<|by skip;omega).symm|exact congrArg Value.bool (decide_eq_false<|by skip;omega).symm),rfl⟩
 exact Ai C C I Ah ⟨by rw [hitE_two hk];exact (by first|exact congrArg Value.bool (decide_eq_decide.2<|by skip;omega)|exact congrArg Value.bool (decide_eq_true<|by skip;omega).symm|exact congrArg Value.bool (decide_eq_false<|by skip;omega).symm),rfl⟩
theorem Step1_says{e:Ev}(M:e.kd=2)(hb:BlkRd κ I b [e7 (e.kd),e7 (e.tm),e7 (e.u),e7 (e.v),e7 (e.w),e7 (e.lb),e7 (e.sg)] 63):Says prog κ I 245 [.pointer (some ⟨b,0,none⟩)] (hitE e):=⟨c_,λx J hf=>Step1_ok M (hb.fit hf) x⟩
theorem Step2_ok{e:Ev}(M:¬e.kd=2)(hb:BlkRd κ I b [e7 (e.kd),e7 (e.tm),e7 (e.u),e7 (e.v),e7 (e.w),e7 (e.lb),e7 (e.sg)] 63)(x:Lk):eu prog κ 246 [.agg #[e7 (x.u),e7 (x.v),e7 (x.w),e7 (x.lb),e7 (x.sg),e7 (x.tm)],.pointer (some ⟨b,0,none⟩)] I (λr J=>r = .bool (hitE e x)/\I=J):=by
 refine Ce2 Tryz.func246 C C ?_
 refine Ar<|Ge1 (Al (cs:=[_,_,_,_,_,_]) C C C) λb1=>Z ?_
 refine Gr (Cs ef C (Co hb Ah) C)<|Z ?_
 refine A6 (d:=9) C (λg9=>Z ?_)<|λg9=>Z ?_
 ·exact Ai C C I Ah ⟨by rw [hitE_oth M];exact (by first|exact congrArg Value.bool (decide_eq_decide.2<|by skip;omega)|exact congrArg Value.bool (decide_eq_true<|by skip;omega).symm|exact congrArg Value.bool (decide_eq_false<|by skip;omega).symm),rfl⟩
 refine e9 (Cs ef C (Co hb Ah) C)<|Z ?_
 exact Ai C C I Ah ⟨by rw [hitE_oth M];exact (by first|exact congrArg Value.bool (decide_eq_decide.2<|by skip;omega)|exact congrArg Value.bool (decide_eq_true<|by skip;omega).symm|exact congrArg Value.bool (decide_eq_false<|by skip;omega).symm),rfl⟩
theorem Step2_says{e:Ev}(M:¬e.kd=2)(hb:BlkRd κ I b [e7 (e.kd),e7 (e.tm),e7 (e.u),e7 (e.v),e7 (e.w),e7 (e.lb),e7 (e.sg)] 63):Says prog κ I 246 [.pointer (some ⟨b,0,none⟩)] (hitE e):=⟨c_,λx J hf=>Step2_ok M (hb.fit hf) x⟩
theorem StepP_base{e:Ev}(ha:xs.Pairwise Lk.lt)(ap:xs.length<=1000000):eu prog κ 207 [.agg #[e7 nd,.slice a0 xs.length c0],.agg #[e7 (e.kd),e7 (e.tm),e7 (e.u),e7 (e.v),e7 (e.w),e7 (e.lb),e7 (e.sg)]] (vc 192 (.slice a0 xs.length c0) (xs)::I) (λr J=>∃y:Option Addr×Nat×Value,(r = .tuple #[.agg #[e7 nd,.slice y.1 (ep xs e).length y.2.1],y.2.2])/\J=[]++vc 192 (.slice y.1 (ep xs e).length y.2.1) (ep xs e)::I):=by
 refine Ce2 Tryz.func207 C C ?_
 refine Ar<|Ge1 (Al (cs:=[_,_]) C C C) λb1=>Ge1 (Al (cs:=[_,_,_,_,_,_,_]) C C C) λb2=>Ge1 (Am ty130 C) λb3=>Z ?_
 refine Ap C (λM=>Z ?_)<|λM=>Z ?_
 ·refine G.e (Ac c_ C C<|SetP_at (by repeat (first|exact AtF.head _ _|apply AtF.tail)) C ha om) ?_
  rintro _ _ ⟨_,_,⟨⟨ai,aj,an⟩,rfl,rfl⟩,rfl,rfl⟩
  refine Z ?_
  refine Ge0 (Es2_1 ty128)<|Z ?_
  refine Ge0 (Cf ty130)<|Z ?_
  have hE:setL (ei e) xs=(ep xs e):=by unfold ep;rw [if_pos M]
  exact D5 C ty130 C C mm C ([]++vc 192 (.slice ai (ep xs e).length aj) (ep xs e)::I) (by rw [←hE];exact Aj) ⟨⟨ai,aj,an⟩,by rw [←hE]<;>rfl,rfl⟩
 refine Ap C (λad=>Z ?_)<|λad=>Z ?_
 ·refine Gr (Ec C C) (G.e (Ac c_ C C<|CutP_at (by repeat (first|exact AtF.head _ _|apply AtF.tail)) C (Step1_says ad<|Cw mm) om) ?_)
  rintro _ _ ⟨_,_,⟨⟨ah,ae,ao⟩,rfl,rfl⟩,rfl,rfl⟩
  refine Z ?_
  refine Ge0 (Es2_1 ty128)<|Z ?_
  refine Ge0 (Cf ty130)<|Z ?_
  have hE:List.filter (λx=> !hitE e x) xs=(ep xs e):=by unfold ep;rw [if_neg M]
  exact D5 C ty130 C C mm C ([]++vc 192 (.slice ah (ep xs e).length ae) (ep xs e)::I) (by rw [←hE];exact Aj) ⟨⟨ah,ae,ao⟩,by rw [←hE]<;>rfl,rfl⟩
 refine Gr (Ec C C)<|G.e (Ac c_ C C<|CutP_at (by repeat (first|exact AtF.head _ _|apply AtF.tail)) C (Step2_says ad<|Cw mm) om) ?_
 rintro _ _ ⟨_,_,⟨⟨aa,ab,ak⟩,rfl,rfl⟩,rfl,rfl⟩
 refine Z ?_
 refine Ge0 (Es2_1 ty128)<|Z ?_
 refine Ge0 (Cf ty130)<|Z ?_
 have hE:List.filter (λx=> !hitE e x) xs=(ep xs e):=by unfold ep;rw [if_neg M]
 exact D5 C ty130 C C mm C ([]++vc 192 (.slice aa (ep xs e).length ab) (ep xs e)::I) (by rw [←hE];exact Aj) ⟨⟨aa,ab,ak⟩,by rw [←hE]<;>rfl,rfl⟩
theorem StepP_at{F:Item->List Item}{e:Ev}(M:AtF I (vc 192 (.slice a0 n c0) xs) F)(hn:n=xs.length)(ha:xs.Pairwise Lk.lt)(aa:xs.length<=1000000):eu prog κ 207 [.agg #[e7 nd,.slice a0 n c0],.agg #[e7 (e.kd),e7 (e.tm),e7 (e.u),e7 (e.v),e7 (e.w),e7 (e.lb),e7 (e.sg)]] I λr J=>∃y:Option Addr×Nat×Value,(r = .tuple #[.agg #[e7 nd,.slice y.1 (ep xs e).length y.2.1],y.2.2])/\J=[]++F (vc 192 (.slice y.1 (ep xs e).length y.2.1) (ep xs e)):=by
 subst hn
 exact Ep (Post:=λr (y:Option Addr×Nat×Value)=>r = .tuple #[.agg #[e7 nd,.slice y.1 (ep xs e).length y.2.1],y.2.2]) (Z:=λ_=>[]) (X:=λy:Option Addr×Nat×Value=>vc 192 (.slice y.1 (ep xs e).length y.2.1)<|ep xs e) M λJ hJ _=>StepP_base ha aa
end Go.Sl
