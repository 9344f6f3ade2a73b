/- A part of the proofs of statements of this seat: contracts of functions, and the plain laws that they lean on. No conditions. -/
import Derived.Test.YtoagcglbkeomgaaGreatDoorK14
set_option linter.unusedVariables false
set_option linter.unusedSimpArgs false
set_option linter.unusedSectionVars false
open List (replicate)
set_option maxHeartbeats 2000000
namespace Go.Sl
open Go.Proofs
set_option maxRecDepth 4000
variable{n:Nat}{l:List Int}{k x y:Int}
theorem sum_list(g:Nat->Int):∀{l:List Int},l.Nodup->(∀x∈l,0<=x/\x<(n:Int))->(l.map λx=>g x.toNat).sum=sumN n λj=>if (j:Int)∈l then g j else 0
 |[],_,_=>by rw [Ex n (λj _=>if_neg<|by simp)];rfl
 |x::l,hn,hr=>by
  obtain ⟨M,h2⟩:=List.nodup_cons.1 hn
  have hx:=hr x List.mem_cons_self
  rw [List.map_cons,List.sum_cons,sum_list g h2 λy hy=>hr y<|List.mem_cons_of_mem _ hy]
  have e1:sumN n (λj=>if (j:Int)∈x::l then g j else 0)=sumN n λj=>(if j=x.toNat then g x.toNat else 0)+if (j:Int)∈l then g j else 0:=B0 n λj hj=>by
   by_cases hq:j=x.toNat
   ·have Z:(j:Int)=x:=by omega
    rw [if_pos (by rw [Z];exact List.mem_cons_self),if_pos hq,if_neg<|by rw [Z];exact M,hq];omega
   have Z:(j:Int)≠x:=by omega
   rw [if_neg hq,Int.zero_add]
   by_cases hm:(j:Int)∈l
   ·rw [if_pos hm,if_pos<|List.mem_cons_of_mem _ hm]
   rw [if_neg hm,if_neg<|λq=>(List.mem_cons.1 q).elim Z hm]
  rw [e1,sumN_add,sumN_at om]
theorem len_list(hn:l.Nodup)(Z:∀x∈l,0<=x/\x<(n:Int)):(l.length:Int)=sumN n λj=>ind (decide ((j:Int)∈l)):=by
 have:=sum_list (n:=n) (λ_=>1) hn Z
 have e:∀l:List Int,(l.map λ_=>(1:Int)).sum=(l.length:Int):=λl=>by
  induction l with
  |nil=>rfl
  |cons x l ih=>rw [List.map_cons,List.sum_cons,ih,List.length_cons];omega
 rw [e] at this
 rw [this]
 exact B0 n λj _=>(E7 _).symm
theorem sum_pairs(g:Nat->Nat->Int):∀{es:List Pt},es.Nodup->(∀p∈es,(0<=p.u/\p.u<(n:Int))/\0<=p.v/\p.v<(n:Int))->(es.map λp=>g p.u.toNat p.v.toNat).sum=sumN n λx=>sumN n λy=>if (⟨(x:Int),(y:Int)⟩:Pt)∈es then g x y else 0
 |[],_,_=>by rw [Ex n (λx _=>Ex n λy _=>if_neg<|by simp)];rfl
 |p::es,hn,hr=>by
  obtain ⟨h1,h2⟩:=List.nodup_cons.1 hn
  have hp:=hr p List.mem_cons_self
  rw [List.map_cons,List.sum_cons,sum_pairs g h2 λy M=>hr y<|List.mem_cons_of_mem _ M]
  have e1:(sumN n λx=>sumN n λy=>if (⟨(x:Int),(y:Int)⟩:Pt)∈p::es then g x y else 0)=sumN n λx=>(if x=p.u.toNat then g p.u.toNat p.v.toNat else 0)+sumN n λy=>if (⟨(x:Int),(y:Int)⟩:Pt)∈es then g x y else 0:=B0 n λx hx=>by
   by_cases hq:x=p.u.toNat
   ·rw [if_pos hq]
    have e2:(sumN n λy=>if (⟨(x:Int),(y:Int)⟩:Pt)∈p::es then g x y else 0)=sumN n λy=>(if y=p.v.toNat then g p.u.toNat p.v.toNat else 0)+if (⟨(x:Int),(y:Int)⟩:Pt)∈es then g x y else 0:=B0 n λy M=>by
     by_cases hr2:y=p.v.toNat
     ·have Z:(⟨(x:Int),(y:Int)⟩:Pt)=p:=by rw [Df];simp only;omega
      rw [if_pos (by rw [Z];exact List.mem_cons_self),if_pos hr2,if_neg<|by rw [Z];exact h1,hq,hr2];omega
     have Z:(⟨(x:Int),(y:Int)⟩:Pt)≠p:=λq=>by rw [Df] at q;simp only at q;omega
     rw [if_neg hr2,Int.zero_add]
     by_cases hm:(⟨(x:Int),(y:Int)⟩:Pt)∈es
     ·rw [if_pos hm,if_pos<|List.mem_cons_of_mem _ hm]
     rw [if_neg hm,if_neg<|λq=>(List.mem_cons.1 q).elim Z hm]
    rw [e2,sumN_add,sumN_at om]
   rw [if_neg hq,Int.zero_add]
   refine B0 n λy M=>?_
   have Z:(⟨(x:Int),(y:Int)⟩:Pt)≠p:=λq=>by rw [Df] at q;simp only at q;omega
   by_cases hm:(⟨(x:Int),(y:Int)⟩:Pt)∈es
   ·rw [if_pos hm,if_pos<|List.mem_cons_of_mem _ hm]
   rw [if_neg hm,if_neg<|λq=>(List.mem_cons.1 q).elim Z hm]
  rw [e1,sumN_add,sumN_at om]
section
variable {nd:Int}{es es':List Pt}{u v:Int}
def adjE(nd:Int)(es:List Pt)(x y:Nat):Bool:=decide (((y:Int))∈nbG nd es (x:Int))
theorem adjE_ok(Z:GrOk nd es):AdjN nd.toNat (adjE nd es):=
 ⟨λx y=>by unfold adjE;rw [decide_eq_decide];exact ⟨λh=>nb_sym Z h,λh=>nb_sym Z h⟩,λx=>decide_eq_false λh=>(nbe_rng Z h).2.2 rfl⟩
theorem OneE.adj(h:OneE nd es es' u v):MoreA nd.toNat (adjE nd es) (adjE nd es') u.toNat v.toNat:=by
 have Z:=h.ends
 unfold endsP at Z
 refine ⟨adjE_ok h.ok,by omega,by omega,by omega,?_,λx y=>?_⟩
 ·unfold adjE
  rw [Int.toNat_of_nonneg Z.1,Int.toNat_of_nonneg Z.2.1]
  exact decide_eq_false h.nuv.1
 unfold adjE
 rw [Bool.eq_iff_iff,decide_eq_true_iff,h.nb,Bool.or_eq_true,Bool.or_eq_true,decide_eq_true_iff,decide_eq_true_iff,decide_eq_true_iff]
 refine or_congr Iff.rfl<|or_congr ?_ ?_
 ·omega
 omega
theorem adj_mem(Z:GrOk nd es)(x y:Nat):adjE nd es x y=(decide ((⟨(x:Int),(y:Int)⟩:Pt)∈es)||decide ((⟨(y:Int),(x:Int)⟩:Pt)∈es)):=by
 unfold adjE
 rw [Bool.eq_iff_iff,decide_eq_true_iff,mem_nb Z,Bool.or_eq_true,decide_eq_true_iff,decide_eq_true_iff]
theorem sum_edges(hG:GrOk nd es)(g:Nat->Nat->Int)(hg:∀x y,g x y=g y x):2*(es.map λp=>g p.u.toNat p.v.toNat).sum=sumN nd.toNat λx=>sumN nd.toNat λy=>if adjE nd es x y=true then g x y else 0:=by
 have hr:∀p∈es,(0<=p.u/\p.u<(nd.toNat:Int))/\0<=p.v/\p.v<(nd.toNat:Int):=λp hp=>by have:=hG.edge p hp;omega
 have h1:=sum_pairs (n:=nd.toNat) g (Fb hG.asc) hr
 have h2:(es.map λp=>g p.u.toNat p.v.toNat).sum=sumN nd.toNat λx=>sumN nd.toNat λy=>if (⟨(y:Int),(x:Int)⟩:Pt)∈es then g x y else 0:=by
  rw [h1,sumN_swap]
  exact B0 _ λy _=>B0 _ λx _=>by rw [hg x y]
 have h3:(sumN nd.toNat λx=>sumN nd.toNat λy=>if adjE nd es x y=true then g x y else 0)=(sumN nd.toNat λx=>sumN nd.toNat λy=>if (⟨(x:Int),(y:Int)⟩:Pt)∈es then g x y else 0)+sumN nd.toNat λx=>sumN nd.toNat λy=>if (⟨(y:Int),(x:Int)⟩:Pt)∈es then g x y else 0:=by
  rw [←sumN_add]
  refine B0 _ λx _=>?_
  rw [←sumN_add]
  refine B0 _ λy _=>?_
  have Z:adjE nd es x y=true↔(⟨(x:Int),(y:Int)⟩:Pt)∈es\/(⟨(y:Int),(x:Int)⟩:Pt)∈es:=by rw [adj_mem hG,Bool.or_eq_true,decide_eq_true_iff,decide_eq_true_iff]
  by_cases q1:(⟨(x:Int),(y:Int)⟩:Pt)∈es
  ·have M:¬(⟨(y:Int),(x:Int)⟩:Pt)∈es:=λM=>by have:=hG.edge _ q1;have:=hG.edge _ M;simp only at *; omega
   rw [if_pos (Z.2<|.inl q1),if_pos q1,if_neg M];omega
  by_cases M:(⟨(y:Int),(x:Int)⟩:Pt)∈es
  ·rw [if_pos (Z.2<|.inr M),if_neg q1,if_pos M];omega
  rw [if_neg (λq=>(Z.1 q).elim q1 M),if_neg q1,if_neg M];rfl
 rw [h3,←h1,←h2];omega
theorem mem_common2(M:GrOk nd es){w:Int}(Z:x≠y):w∈commonG nd es x y↔w∈nbG nd es x/\w∈nbG nd es y:=by
 unfold commonG;rw [if_neg Z,mem_meetL]
def triW(nd:Int)(es:List Pt)(w:Int):Int:=(es.map λp=>ind (decide (w∈commonG nd es p.u p.v))).sum
theorem triW_two(Z:GrOk nd es)(w:Nat):2*triW nd es (w:Int)=triT nd.toNat (adjE nd es) w:=by
 have M:triW nd es (w:Int)=(es.map λp=>ind<|adjE nd es w p.u.toNat&&adjE nd es w p.v.toNat).sum:=by
  unfold triW
  congr 1
  refine List.map_congr_left λp hp=>?_
  have he:=Z.edge p hp
  congr 1
  unfold adjE
  rw [Int.toNat_of_nonneg he.1,Int.toNat_of_nonneg (show 0<=p.v by omega),Bool.eq_iff_iff,decide_eq_true_iff,mem_common2 Z om,Bool.and_eq_true,decide_eq_true_iff,decide_eq_true_iff]
  exact and_congr ⟨λh=>nb_sym Z h,λh=>nb_sym Z h⟩ ⟨λh=>nb_sym Z h,λh=>nb_sym Z h⟩
 rw [M,sum_edges Z (λx y=>ind<|adjE nd es w x&&adjE nd es w y) λx y=>by rw [Bool.and_comm]]
 unfold triT
 refine B0 _ λx _=>B0 _ λy _=>?_
 cases adjE nd es x y with
 |true=>rw [if_pos rfl,Bool.true_and]
 |false=>rw [if_neg dc,Bool.false_and];rfl
theorem common_co(M:GrOk nd es)(hx:NodeR nd x)(hy:NodeR nd y)(Z:x≠y):((commonG nd es x y).length:Int)=coN nd.toNat (adjE nd es) x.toNat y.toNat:=by
 have hr:∀w∈commonG nd es x y,0<=w/\w<(nd.toNat:Int):=λw hw=>by
  have:=nbe_rng M ((mem_common2 M Z).1 hw).1;omega
 unfold NodeR at hx hy
 rw [len_list (common_nodup nd es x y) hr]
 unfold coN
 rw [if_neg om]
 refine B0 _ λj _=>?_
 congr 1
 unfold adjE
 rw [Int.toNat_of_nonneg hx.1,Int.toNat_of_nonneg hy.1,Bool.eq_iff_iff,decide_eq_true_iff,mem_common2 M Z,Bool.and_eq_true,decide_eq_true_iff,decide_eq_true_iff]
theorem triS_all(Z:GrOk nd es):sumN nd.toNat (triT nd.toNat (adjE nd es))=2*triS nd es:=by
 have h1:triS nd es=(es.map λp=>coN nd.toNat (adjE nd es) p.u.toNat p.v.toNat).sum:=by
  unfold triS
  congr 1
  refine List.map_congr_left λp hp=>?_
  have M:=Z.edge p hp
  exact common_co Z ⟨M.1,by omega⟩ ⟨by omega,M.2.2⟩ om
 rw [h1,sum_edges Z _ λx y=>coN_sym (adjE_ok Z) x y]
 unfold triT
 rw [sumN_swap]
 refine B0 _ λx _=>?_
 rw [sumN_swap]
 refine B0 _ λy _=>?_
 cases hxy:adjE nd es x y with
 |true=>
  rw [if_pos rfl]
  unfold coN
  rw [if_neg (λq=>by rw [q,(adjE_ok Z).irr] at hxy;cases hxy)]
  refine B0 _ λw _=>?_
  rw [Bool.true_and,(adjE_ok Z).sym w x,(adjE_ok Z).sym w y]
 |false=>rw [if_neg dc];exact Ex _ λw _=>by rw [Bool.false_and];rfl
theorem OneE.tri(h:OneE nd es es' u v):triS nd es'=triS nd es+3*((commonG nd es u v).length:Int)/\∀w:Nat,triW nd es' (w:Int)=triW nd es (w:Int)+(if (w:Int)∈commonG nd es u v then 1 else 0)+((if (w:Int)=u then ((commonG nd es u v).length:Int) else 0)+if (w:Int)=v then ((commonG nd es u v).length:Int) else 0):=by
 have Z:=h.ends
 unfold endsP at Z
 have aa:u≠v:=Z.2.2.2.2
 have hc:=common_co h.ok (x:=u) (y:=v) ⟨Z.1,Z.2.2.1⟩ ⟨Z.2.1,Z.2.2.2.1⟩ aa
 have h1:=h.adj.tri_all
 rw [triS_all h.ok,triS_all h.ok',←hc] at h1
 refine ⟨by omega,λw=>?_⟩
 have M:=h.adj.tri w
 rw [←triW_two h.ok,←triW_two h.ok',←hc] at M
 have h3:ind (adjE nd es u.toNat w&&adjE nd es v.toNat w)=if (w:Int)∈commonG nd es u v then 1 else 0:=by
  rw [←E7];congr 1
  unfold adjE
  rw [Int.toNat_of_nonneg Z.1,Int.toNat_of_nonneg Z.2.1,Bool.eq_iff_iff,Bool.and_eq_true,decide_eq_true_iff,decide_eq_true_iff,decide_eq_true_iff,mem_common2 h.ok aa]
 rw [h3] at M
 have e1:(w=u.toNat)↔((w:Int)=u):=by omega
 have e2:(w=v.toNat)↔((w:Int)=v):=by omega
 by_cases q1:(w:Int)=u
 ·rw [if_pos (e1.2 q1)] at M;rw [if_pos q1]
  by_cases q2:(w:Int)=v
  ·omega
  rw [if_neg (λq=>q2<|e2.1 q)] at M;rw [if_neg q2];omega
 rw [if_neg (λq=>q1<|e1.1 q)] at M;rw [if_neg q1]
 by_cases q2:(w:Int)=v
 ·rw [if_pos (e2.2 q2)] at M;rw [if_pos q2];omega
 rw [if_neg (λq=>q2<|e2.1 q)] at M;rw [if_neg q2];omega
end
theorem sum_flat2{α β:Type}(f:β->Int)(h:α->List β):∀l:List α,((l.flatMap h).map f).sum=(l.map λa=>((h a).map f).sum).sum
 |[]=>rfl
 |a::l=>by rw [List.flatMap_cons,List.map_append,List.sum_append,List.map_cons,List.sum_cons,sum_flat2 f h l]
section
variable {nd:Int}{es es':List Pt}{u v:Int}
def overR(nd:Int)(es:List Pt)(u v a:Int):List Pt:=if a=v then [] else ((nbG nd es v).filter λb=>decide (b≠u/\b∈nbG nd es a)).map λb=>(⟨a,b⟩:Pt)
def overL(nd:Int)(es:List Pt)(u v:Int):List Pt:=(nbG nd es u).flatMap (overR nd es u v)
theorem nb_lt(Z:GrOk nd es):∀y∈nbG nd es x,0<=y/\y<(nd.toNat:Int):=λy M=>by have:=(nbe_rng Z M).2.1;omega
theorem over_sum(hG:GrOk nd es)(hu:NodeR nd u)(hv:NodeR nd v)(M:v∉nbG nd es u)(f:Nat->Nat->Int) :
  ((overL nd es u v).map λp=>f p.u.toNat p.v.toNat).sum=sumN nd.toNat λa=>sumN nd.toNat λb=>if ovr (adjE nd es) u.toNat v.toNat a b=true then f a b else 0:=by
 unfold NodeR at hu hv
 unfold overL
 rw [sum_flat2]
 have h1:(nbG nd es u).map (λa=>((overR nd es u v a).map λp=>f p.u.toNat p.v.toNat).sum)=(nbG nd es u).map λa=>(λa':Nat=>sumN nd.toNat λb=>if (adjE nd es v.toNat b&&adjE nd es a' b)=true then f a' b else 0) a.toNat:=List.map_congr_left λa ha=>by
  have aa:=(nbe_rng hG ha).2.1
  have ab:¬a=v:=λq=>M (q▸ha)
  unfold overR
  rw [if_neg ab,List.map_map]
  have hn:=((nb_nodup nd es v).filter λb=>decide<|b≠u/\b∈nbG nd es a)
  have h2:=sum_list (n:=nd.toNat) (λb=>f a.toNat b) hn λb hb=>nb_lt hG b (List.mem_filter.1 hb).1
  refine Eq.trans ?_<|h2.trans<|B0 _ λb hb=>?_
  ·rfl
  have Z:((b:Int)∈(nbG nd es v).filter λb=>decide<|b≠u/\b∈nbG nd es a)↔(adjE nd es v.toNat b&&adjE nd es a.toNat b)=true:=by
   unfold adjE
   rw [Int.toNat_of_nonneg hv.1,Int.toNat_of_nonneg aa.1,Bool.and_eq_true,decide_eq_true_iff,decide_eq_true_iff,List.mem_filter,decide_eq_true_iff]
   constructor
   ·rintro ⟨h3,_,h4⟩;exact ⟨h3,h4⟩
   rintro ⟨h3,h4⟩
   exact ⟨h3,λq=>M<|nb_sym hG<|q▸h3,h4⟩
  by_cases hq:(adjE nd es v.toNat b&&adjE nd es a.toNat b)=true
  ·rw [if_pos (Z.2 hq),if_pos hq]
  rw [if_neg (λq=>hq<|Z.1 q),if_neg hq]
 rw [h1]
 refine (sum_list (n:=nd.toNat) (λa':Nat=>sumN nd.toNat λb=>if (adjE nd es v.toNat b&&adjE nd es a' b)=true then f a' b else 0) (nb_nodup nd es u)<|nb_lt hG).trans (B0 _ λa ha=>?_)
 have Z:((a:Int)∈nbG nd es u)↔adjE nd es u.toNat a=true:=by
  unfold adjE;rw [Int.toNat_of_nonneg hu.1,decide_eq_true_iff]
 unfold ovr
 by_cases hq:adjE nd es u.toNat a=true
 ·rw [if_pos (Z.2 hq)]
  exact B0 _ λb hb=>by rw [hq,Bool.true_and]
 rw [if_neg (λq=>hq<|Z.1 q)]
 have hf:adjE nd es u.toNat a=false:=by cases e:adjE nd es u.toNat a with |false=>rfl|true=>exact absurd e hq
 exact (Ex _ λb hb=>by rw [hf,Bool.false_and,Bool.false_and];rfl).symm
theorem over_len(hG:GrOk nd es)(hu:NodeR nd u)(hv:NodeR nd v)(Z:v∉nbG nd es u):((overL nd es u v).length:Int)=ovrS nd.toNat (adjE nd es) u.toNat v.toNat:=by
 have M:=over_sum hG hu hv Z λ_ _=>1
 have e:∀l:List Pt,(l.map λ_=>(1:Int)).sum=(l.length:Int):=λl=>by
  induction l with
  |nil=>rfl
  |cons x l ih=>rw [List.map_cons,List.sum_cons,ih,List.length_cons];omega
 rw [e] at M
 rw [M]
 unfold ovrS ind
 rfl
theorem mem_over(M:GrOk nd es){p:Pt}(h:p∈overL nd es u v):NodeR nd p.u/\NodeR nd p.v:=by
 unfold overL at h
 obtain ⟨a,ha,Z⟩:=List.mem_flatMap.1 h
 unfold overR at Z
 split at Z
 ·cases Z
 obtain ⟨b,hb,rfl⟩:=List.mem_map.1 Z
 exact ⟨(nbe_rng M ha).2.1,(nbe_rng M (List.mem_filter.1 hb).1).2.1⟩
theorem over_occ(M:GrOk nd es)(hu:NodeR nd u)(hv:NodeR nd v)(Z:v∉nbG nd es u)(w:Nat) :
  ((overL nd es u v).map λp=>(((ind (decide<|u=(w:Int))+ind (decide<|v=(w:Int)))+ind (decide<|p.u=(w:Int)))+ind (decide<|p.v=(w:Int)))).sum=occ nd.toNat (adjE nd es) u.toNat v.toNat w:=by
 have h1:=over_sum M hu hv Z λa b=>(((ind (decide<|u.toNat=w)+ind (decide<|v.toNat=w))+ind (decide<|a=w))+ind (decide<|b=w))
 unfold occ
 rw [←h1]
 congr 1
 unfold NodeR at hu hv
 refine List.map_congr_left λp hp=>?_
 have hr:=mem_over M hp
 unfold NodeR at hr
 have e1:decide (u=(w:Int))=decide (u.toNat=w):=by rw [decide_eq_decide];omega
 have e2:decide (v=(w:Int))=decide (v.toNat=w):=by rw [decide_eq_decide];omega
 have e3:decide (p.u=(w:Int))=decide (p.u.toNat=w):=by rw [decide_eq_decide];omega
 have e4:decide (p.v=(w:Int))=decide (p.v.toNat=w):=by rw [decide_eq_decide];omega
 rw [e1,e2,e3,e4]
def quadW(nd:Int)(es:List Pt)(w:Nat):Int:=quadN nd.toNat (adjE nd es) w
def quadC(nd:Int)(es:List Pt):Int:=quadS nd.toNat (adjE nd es)
def wedgeC(nd:Int)(es:List Pt):Int:=sumN nd.toNat λw=>prs ((nbG nd es (w:Int)).length:Int)
theorem deg_len(Z:GrOk nd es)(x:Nat):degN nd.toNat (adjE nd es) x=((nbG nd es (x:Int)).length:Int):=by
 rw [len_list (nb_nodup nd es (x:Int)) (nb_lt Z)];rfl
theorem OneE.quad(h:OneE nd es es' u v):quadC nd es'=quadC nd es+((overL nd es u v).length:Int)/\(∀w:Nat,w<nd.toNat->quadW nd es' w=quadW nd es w+((overL nd es u v).map λp=>(((ind (decide (u=(w:Int)))+ind (decide (v=(w:Int))))+ind (decide (p.u=(w:Int))))+ind (decide (p.v=(w:Int))))).sum)/\
  wedgeC nd es'=wedgeC nd es+(((nbG nd es u).length:Int)+((nbG nd es v).length:Int)):=by
 have Z:=h.ends
 unfold endsP at Z
 have hu:NodeR nd u:=⟨Z.1,Z.2.2.1⟩
 have hv:NodeR nd v:=⟨Z.2.1,Z.2.2.2.1⟩
 refine ⟨?_,λw hw=>?_,?_⟩
 ·unfold quadC
  rw [h.adj.all,over_len h.ok hu hv h.nuv.1]
 ·unfold quadW
  rw [h.adj.quad hw,over_occ h.ok hu hv h.nuv.1]
 have M:=h.adj.wedges
 have e1:∀{es:List Pt},GrOk nd es->wedgeC nd es=sumN nd.toNat λw=>prs (degN nd.toNat (adjE nd es) w):=λhG=>by
  unfold wedgeC;exact B0 _ λw _=>by rw [deg_len hG]
 rw [e1 h.ok',e1 h.ok,M,deg_len h.ok,deg_len h.ok,Int.toNat_of_nonneg hu.1,Int.toNat_of_nonneg hv.1]
theorem quad_sum(Z:GrOk nd es):sumN nd.toNat (quadW nd es)=4*quadC nd es:=quad_four (adjE_ok Z)
end
section
variable {nd:Int}{es:List Pt}
def capN(nd:Int)(es:List Pt)(k:Int):List Int:=(coreN nd es).map λx=>min k x
theorem capN_len(nd:Int)(es:List Pt)(k:Int):(capN nd es k).length=(coreN nd es).length:=List.length_map ..
theorem coreN_lenG(Z:GrOk nd es):((coreN nd es).length:Int)=nd:=by
 have M:=Z.rng
 have hl:=Z.rows.len
 unfold coreN
 rw [if_neg (by rw [checkG_ok.2 Z];decide),coreL_len];omega
theorem capN_at{u:Int}(Z:0<=u)(M:u<(coreN nd es).length):e_ (capN nd es k) u=min k (e_ (coreN nd es) u):=by
 obtain ⟨i,rfl⟩:=Int.eq_ofNat_of_zero_le Z
 rw [Cn _ i (by rw [capN_len];omega),Cn _ i om]
 unfold capN
 rw [List.getElem_map]
theorem capN_zero(Z:GrOk nd es):capN nd es 0=replicate (coreN nd es).length 0:=by
 have M:=coreN_lenG Z
 refine ext_atw (by rw [capN_len,List.length_replicate]) λi hi=>?_
 rw [capN_len] at hi
 rw [capN_at om om,at_rep _ _ _ om om]
 have:=core_pos Z (u:=(i:Int)) om om
 omega
theorem capN_all(Z:GrOk nd es)(h:1<=nd):capN nd es (nd - 1)=coreN nd es:=by
 have M:=coreN_lenG Z
 refine ext_atw (capN_len _ _ _) λi hi=>?_
 rw [capN_len] at hi
 rw [capN_at om om]
 have:=core_pos Z (u:=(i:Int)) om om
 omega
def putN(l:List Int)(k:Int)(xs:List Int):List Int:=xs.foldl (λl v=>l.set v.toNat k) l
theorem putN_take{xs:List Int}{j:Nat}(h:j<xs.length):putN l k (xs.take (j+1))=(putN l k (xs.take j)).set (e_ xs j).toNat k:=by
 unfold putN
 rw [Cj xs j h,List.foldl_append];rfl
theorem putN_len(k:Int):∀(xs l:List Int),(putN l k xs).length=l.length
 |[],l=>rfl
 |x::xs,l=>by
  show (putN (l.set x.toNat k) k xs).length=_
  rw [putN_len k xs,List.length_set]
theorem putN_at(k:Int):∀(xs l:List Int) (u:Int),(∀x∈xs,0<=x/\x<l.length)->0<=u->e_ (putN l k xs) u=if u∈xs then k else e_ l u
 |[],l,u,_,_=>rfl
 |x::xs,l,u,hx,hu=>by
  have Z:=hx x List.mem_cons_self
  show e_ (putN (l.set x.toNat k) k xs) u=_
  rw [putN_at k xs _ u (λy M=>by rw [List.length_set];exact hx y<|List.mem_cons_of_mem _ M) hu,Ee _ _ _ _ Z.1 hu Z.2]
  by_cases h1:u∈xs
  ·rw [if_pos h1,if_pos<|List.mem_cons_of_mem _ h1]
  rw [if_neg h1]
  by_cases h2:x=u
  ·subst h2;rw [if_pos rfl,if_pos List.mem_cons_self]
  rw [if_neg h2,if_neg<|λh=>by rcases List.mem_cons.1 h with h|h;(· exact h2 h.symm);(· exact h1 h)]
theorem capN_put(Z:GrOk nd es)(hk:1<=k):putN (capN nd es (k - 1)) k (coreK nd es k)=capN nd es k:=by
 have hl:=coreN_lenG Z
 refine ext_atw (by rw [putN_len,capN_len,capN_len]) λi hi=>?_
 rw [putN_len,capN_len] at hi
 rw [putN_at k _ _ _ (λx M=>by rw [capN_len];exact (mem_coreK.1 M).1) om,capN_at om om,capN_at om om]
 by_cases h:(i:Int)∈coreK nd es k
 ·rw [if_pos h]
  have:=(mem_coreK.1 h).2
  omega
 rw [if_neg h]
 have:¬k<=e_ (coreN nd es) i:=λh2=>h (mem_coreK.2 ⟨⟨by omega,by omega⟩,h2⟩)
 omega
end
theorem coreK_len(nd:Int)(es:List Pt)(k:Int):(coreK nd es k).length<=64:=by
 unfold coreK
 exact Nat.le_trans (sideL_len _ _)<|coreN_len nd es
theorem Numbers10_ok{κ:Ctx}{I:List Item}{nd:Int}{va:Value}{es:List Pt}(hl:Sl κ I va es)(hG:GrOk nd es)(hb:es.length<=1000000)(h1:1<=nd):eu Tryz.prog κ 19 [.agg #[e7 nd,va]] I (λr J=>∃a c,r = .tuple #[.slice a (coreN nd es).length c,e7 0]/\J=vc 3 (.slice a (coreN nd es).length c) (coreN nd es)::I):=by
 have hr:=hG.rng
 have ao:=coreN_lenG hG
 have ah:(coreN nd es).length=nd.toNat:=by omega
 refine Ce1 Tryz.func19 C C ?_
 refine Af<|Ge1 (Bg (cs:=[_,_]) C C C) λb1=>Ga C<|Ga C<|Ac<|Aq<|Af<|Gl2 ty38 ?_
 refine G.e (Ak c_ C C<|Check03G_ok (nd:=nd)<|A8 hl) ?_
 rintro _ _ ⟨_,_,⟨rfl,rfl⟩,rfl,rfl⟩
 refine Ga C<|Ac<|Af<|Gm C<|Gr (Bo C C)<|Ac<|A5 C (λc12=>?_)<|λc12=>?_
 ·exact absurd (checkG_ok.2 hG) c12
 refine Av<|Ah<|Af<|Gf fld38_0 C<|Gl ef ?_
 refine Ge2 (Du (α:=Int) (n:=nd.toNat) Ab ef C C C om om dc C) λZ M=>?_
 refine Ga C<|Ac<|Aq<|Af<|Ga C<|Ac<|Ao (S3 6 5 1 C C C)<|Aw<|Bu (σ:=Int) (λs=>([(1,.pointer<|some ⟨b1,0,none⟩),(5,.slice Z (replicate nd.toNat (default:Int)).length M),(6,e7 s)]:Env)) (λs=>vc 3 (.slice Z (replicate nd.toNat (default:Int)).length M) ((capN nd es<|s - 1))::e8 b1 [e7 nd,va] 38::I) (λs=>(1<=s/\(s<=nd\/s=1))) (λs=>(nd - s).toNat) 1 (show (1<=(1:Int)/\((1:Int)<=nd\/(1:Int)=1)) from om) (Aa C<|Aa C<|Aa B2 Bi) (show Fit κ _ (vc 3 (.slice Z (replicate nd.toNat (default:Int)).length M) ((capN nd es<|(1) - 1))::e8 b1 [e7 nd,va] 38::I) from (by rw [show capN nd es (1 - 1)=replicate (coreN nd es).length 0 from capN_zero hG,ah];exact Bl)) ?_
 rintro q hp
 have hq:=hp
 have ap:=capN_len nd es (q - 1)
 have ar:=coreK_len nd es q
 have ak:∀x∈coreK nd es q,0<=x/\x<nd:=λx hx=>by have:=(mem_coreK.1 hx).1;omega
 refine Aq<|Af<|Gm C<|Gf fld38_0 C<|Gl ef ?_
 refine Gr (A4 C C)<|Ac<|A5 C (λai=>?_)<|λai=>?_
 ·refine Av (Ah<|Aq<|Aw<|Af<|Gl2 ty38 ?_)
  refine Gm C<|G.e (Ak c_ C C<|Core10_ok (nd:=nd) (lv:=q) (A8 hl) hG om) ?_
  rintro _ _ ⟨_,_,⟨ad,ae,rfl,rfl⟩,rfl,rfl⟩
  refine Gr (Bh Ab C)<|Gm C<|Ac<|Aw<|Bu (σ:=Nat×(List Int)) (λs=>([(1,.pointer<|some ⟨b1,0,none⟩),(5,.slice Z (replicate nd.toNat (default:Int)).length M),(6,e7 q),(25,.slice ad (coreK nd es q).length ae),(26,e7<|(((coreK nd es q).length:Nat):Int)),(27,e7 ((s.1:Nat):Int))]:Env)) (λs=>vc 3 (.slice Z (replicate nd.toNat (default:Int)).length M) (s.2)::vc 3 (.slice ad (coreK nd es q).length ae) (coreK nd es q)::e8 b1 [e7 nd,va] 38::I) (λs=>(s.1<=(coreK nd es q).length)/\(s.2=putN (capN nd es<|q - 1) q ((coreK nd es q).take s.1))) (λs=>(coreK nd es q).length - s.1) (0,capN nd es<|q - 1) (show ((0:Nat)<=(coreK nd es q).length)/\((capN nd es (q - 1):List Int)=putN (capN nd es<|q - 1) q ((coreK nd es q).take (0:Nat))) from ⟨om,rfl⟩) (Aa C<|Aa C<|Aa C<|Aa C<|Aa C<|Aa B2 Bi) (show Fit κ _ (vc 3 (.slice Z (replicate nd.toNat (default:Int)).length M) ((capN nd es<|q - 1))::vc 3 (.slice ad (coreK nd es q).length ae) (coreK nd es q)::e8 b1 [e7 nd,va] 38::I) from Bl) ?_
  rintro ⟨k,out⟩ hp
  dsimp only at hp ⊢
  obtain ⟨hk,aa⟩:=hp
  have aq:out.length=(coreN nd es).length:=by rw [aa,putN_len,capN_len]
  have au:k<(coreK nd es q).length->0<=e_ (coreK nd es q) k/\e_ (coreK nd es q) k<nd:=λh=>ak _ (B1 om om)
  refine Af<|Gr (A4 C C)<|Ac<|Aq<|A5 C (λan=>?_)<|λan=>?_
  ·refine Av (Ah<|Aq<|Aw<|Af<|Gr (Ax (α:=Int) (xs:=coreK nd es q) Ab ef C C Bf om om)<|Gr (Br (xs:=coreK nd es q) ef C Bf om om)<|Ga C<|Ac<|Ar<|Gm C<|Gm C<|Gm C<|Gr (Ax (α:=Int) (xs:=out) Ab ef C C Bf om om)<|Ge0 (Cu (α:=Int) (xs:=out) (e:=3) (new:=q) ef C C C om om am) ?_)
   exact Bj<|Aj<|Ah<|Ao (S6 1 5 6 25 26 27 C C C C C C)<|Ar<|Gr (Rad C C)<|Gm C<|Bj<|B3 ((k+1),(List.set out (e_ (coreK nd es q) k).toNat (q)))<|by dsimp only;exact ⟨om,(by rw [putN_take om,←aa])⟩
  refine Bs<|Al<|Al<|A2<|Aj<|Ah<|Ar<|Gm C<|Gr (Rad C C)<|Ga C<|Bj ?_
  have aj:out=capN nd es (q+1 - 1):=by rw [aa,List.take_of_length_le om,capN_put hG hq.1,Int.add_sub_cancel]
  exact B3 ((q+1)) om (hI:=by (try dsimp only);exact (by rw [←aj];exact Bl))
 refine Bs<|Al<|Al<|A2<|Ah<|Af<|Gm C<|Ga C<|Ga C<|Ac<|Az ?_
 have hE:capN nd es (q - 1)=coreN nd es:=by rw [show q - 1=nd - 1 by omega];exact capN_all hG h1
 have ab:(replicate nd.toNat (default:Int)).length=(coreN nd es).length:=by rw [List.length_replicate,ah]
 exact C7 C C C (vc 3 (.slice Z (coreN nd es).length M) (coreN nd es)::I) (by rw [←ab,←hE];exact Bl) ⟨Z,M,by rw [←ab],rfl⟩
end Go.Sl
namespace Go.Sl
end Go.Sl
namespace Go.Sl
open Go.Proofs
set_option maxRecDepth 4000
variable{u x:Int}{xs:List Pt}{va:Value}{i:Nat}
section
variable {nd:Int}{es:List Pt}
theorem findP_idx(Z:GrOk nd es){v y:Int}(h:FindP nd es u v y)(hm:edgeP u v∈es):y=((es.idxOf (edgeP u v):Nat):Int):=by
 rcases h with ⟨_,j,rfl,M,e⟩|⟨_,h|h⟩
 ·rw [←e,idx_eq Z M]
 ·exact absurd (checkG_ok.2 Z) h
 exact absurd hm h
theorem ftP_yes(p:Pt->Bool){k:Nat}(h:k<xs.length)(Z:p (e_ xs k)=true):((((xs.take (k+1)).filter p).length:Nat):Int)=(((xs.take k).filter p).length:Nat)+1:=by
 rw [Cj _ k h,List.filter_append,List.length_append,List.filter_cons,if_pos Z];simp
theorem ftP_no(p:Pt->Bool){k:Nat}(h:k<xs.length)(Z:p (e_ xs k)=false):((((xs.take (k+1)).filter p).length:Nat):Int)=(((xs.take k).filter p).length:Nat):=by
 rw [Cj _ k h,List.filter_append,List.length_append,List.filter_cons,Z];simp
theorem triE_len(Z:GrOk nd es){e:Pt}(M:e∈es):(triE nd es e).length<=nd.toNat - 1:=by
 unfold triE;rw [List.length_map];exact common_len Z M
end
theorem Pairs12_ok{κ:Ctx}{I:List Item}{nd:Int}{es:List Pt}(hl:Sl κ I va es)(hG:GrOk nd es)(i:Int)(h0:0<=i)(h1:i<es.length)(hb:es.length<=1000000):eu Tryz.prog κ 142 [.agg #[e7 nd,va],e7 i] I (λr J=>∃a c,r = .slice a (triE nd es (e_ es i)).length c/\J=vk 200 a c (triE nd es (e_ es i))::I):=by
 have ap:=hG.rng
 have he:=B1 (xs:=es) h0 h1
 have ar:=common_len hG he
 refine Ce2 Tryz.func142 C C ?_
 refine Af<|Ge1 (Bg (cs:=[_,_]) C C C) λb1=>Ga C<|Ac<|Af<|Ga C<|Ac<|Af<|Gf fld38_1 C<|Gl ty36 ?_
 refine Gm C<|Gr (Ax (α:=Pt) (xs:=es) Au ty105 C C (A8 hl) om om)<|Gr (Bx (α:=Pt) (xs:=es) ty105 C (A8 hl) om om)<|Ge1 (A3 ty105 C) λb2=>Ge0 (Cz ty105) ?_
 refine Ac<|Aq<|Af<|Gl2 ty38 ?_
 refine Gf fld105_0 C<|Gl ef ?_
 refine Gf fld105_1 C<|Gl ef ?_
 refine Gc2 (Ak c_ C C<|Common03_ok (nd:=nd) (A8 hl) ((e_ es i).u) ((e_ es i).v) om) λZ M=>?_
 refine Gr (Bh Ab C)<|Gm C<|Ac<|Ao (S6 21 20 19 6 5 2 C C C C C C)<|Aw<|Bu (σ:=Nat×(Option Addr)×Nat×(List Pt)) (λs=>([(2,pt b1),(5,.slice s.2.1 s.2.2.2.length s.2.2.1),(6,pt b2),(19,.slice Z (commonG nd es ((e_ es i).u)<|(e_ es i).v).length M),(20,e7<|(((commonG nd es ((e_ es i).u)<|(e_ es i).v).length:Nat):Int)),(21,e7 ((s.1:Nat):Int))]:Env)) (λs=>vk 200 s.2.1 s.2.2.1 s.2.2.2::vk 3 Z M (commonG nd es ((e_ es i).u)<|(e_ es i).v)::e8 b2 [e7 ((e_ es i).u),e7<|(e_ es i).v] 105::e8 b1 [e7 nd,va] 38::I) (λs=>(s.1<=(commonG nd es (e_ es i).u (e_ es i).v).length)/\(s.2.2.2=((commonG nd es (e_ es i).u (e_ es i).v).take s.1).map (λw=>(⟨((es.idxOf (edgeP (e_ es i).u w):Nat):Int),((es.idxOf (edgeP (e_ es i).v w):Nat):Int)⟩:Pt)))) (λs=>(commonG nd es (e_ es i).u (e_ es i).v).length - s.1) (0,none,0,[]) (show ((0:Nat)<=(commonG nd es (e_ es i).u (e_ es i).v).length)/\(([]:List Pt)=((commonG nd es (e_ es i).u (e_ es i).v).take (0:Nat)).map (λw=>(⟨((es.idxOf (edgeP (e_ es i).u w):Nat):Int),((es.idxOf (edgeP (e_ es i).v w):Nat):Int)⟩:Pt))) from ⟨om,rfl⟩) (Aa C<|Aa (Cx C<|by first|rfl|simp)<|Aa C<|Aa C<|Aa C<|Aa B2 Bi) (show Fit κ _ (vk 200 none 0 ([])::vk 3 Z M (commonG nd es ((e_ es i).u)<|(e_ es i).v)::e8 b2 [e7 ((e_ es i).u),e7<|(e_ es i).v] 105::e8 b1 [e7 nd,va] 38::I) from (Cb _ _)) ?_
 rintro ⟨k,oa,oc,out⟩ hp
 dsimp only at hp ⊢
 obtain ⟨hk,ho⟩:=hp
 have au:out.length=k:=by rw [ho,List.length_map,List.length_take];omega
 have ai:k<(commonG nd es (e_ es i).u (e_ es i).v).length->edgeP (e_ es i).u (e_ (commonG nd es (e_ es i).u (e_ es i).v) (k:Int))∈es/\edgeP (e_ es i).v (e_ (commonG nd es (e_ es i).u (e_ es i).v) (k:Int))∈es:=λh=>common_mem hG he (B1 om om)
 refine Af<|Gr (A4 C C)<|Ac<|Aq<|A5 C (λao=>?_)<|λao=>?_
 ·refine Av (Ah<|Aq<|Aw<|Af<|Gr (Ax (α:=Int) (xs:=commonG nd es ((e_ es i).u) ((e_ es i).v)) Ab ef C C Bf om om)<|Gr (Br (xs:=commonG nd es ((e_ es i).u) ((e_ es i).v)) ef C Bf om om)<|Ga C<|Ac<|Bq mixed<|Ca (vk 3 Z M (commonG nd es ((e_ es i).u)<|(e_ es i).v)::e8 b2 [e7 ((e_ es i).u),e7<|(e_ es i).v] 105::e8 b1 [e7 nd,va] 38::I) 15<|Dr 0 C (Ai C)<|Dr 1 C (Be (vs:=[_,_]) ty38) ?_)
  refine Dr 2 C (Ad fld105_0 C)<|Dr 3 C (Bb ef) ?_
  refine Dr 4 C (Ai C)<|Dr 6 C (Be (vs:=[_,_]) ty38) ?_
  refine Dr 7 C (Ad fld105_1 C)<|Dr 8 C (Bb ef) ?_
  refine Dr 9 C (Ai C)<|Ds1 5<|Se C (Ak c_ C C<|FindP03_ok (nd:=nd) (A8 hl) ((e_ es i).u)<|e_ (commonG nd es ((e_ es i).u)<|(e_ es i).v) (k:Int)) ?_
  rintro _ _ ⟨_,_,⟨ab,rfl,ah,rfl⟩,rfl,rfl⟩
  refine ⟨Bc,?_⟩
  have ae:=findP_idx hG ah (ai om).1
  refine Ds1 10<|Se C (Ak c_ C C<|FindP03_ok (nd:=nd) (A8 hl) ((e_ es i).v)<|e_ (commonG nd es ((e_ es i).u)<|(e_ es i).v) (k:Int)) ?_
  rintro _ _ ⟨_,_,⟨aa,rfl,ad,rfl⟩,rfl,rfl⟩
  refine ⟨Bc,?_⟩
  have aj:=findP_idx hG ad (ai om).2
  refine Dr 11 C (Ec (cells:=[_,_]) ty200 B6 ef C C)<|Ds1 12<|Se1 C (Cf (α:=Pt) (cs:=[_,_]) (xs:=[⟨ab,aa⟩]) Bv ty200 C C dc dc C C C C) λaq=>?_
  refine Ds1 13<|Se2 C (Cg (α:=Pt) (e:=200) (xs:=out) (ys:=([⟨ab,aa⟩]:List Pt)) Bv ty200 C C C mm Bf lcn dc C<|λ_ _=>am) λan ak=>?_
  exact Dr 14 C (Bd C)<|Dz<|Aj<|Ah<|Ao (S6 5 2 6 19 20 21 C C C C C C)<|Ar<|Gr (Rad C C)<|Gm C<|Bj<|B3 ((k+1),(an),(ak),(out++([⟨ab,aa⟩]:List Pt)))<|by dsimp only;exact ⟨om,(by rw [Cj _ k om,List.map_append,←ho,ae,aj];rfl)⟩
 refine Bs<|Al<|Al<|A2<|Ah<|Af<|Gm C<|Ga C<|Ac<|Az ?_
 have hX:(triE nd es<|e_ es i)=out:=by rw [ho,List.take_of_length_le om];rfl
 exact A1 C C (vk 200 oa oc (triE nd es<|e_ es i)::I) (by rw [hX];exact Bc) ⟨oa,oc,by rw [hX],rfl⟩
theorem Within12_ok{κ:Ctx}{I:List Item}{nd:Int}{es:List Pt}{la:Option Addr}{lc:Nat}{l:List Int}(hl:Sl κ I va es)(hs:Sl κ I (.slice la l.length lc) l)(hG:GrOk nd es)(i:Int)(h0:0<=i)(h1:i<es.length)(hb:es.length<=1000000):eu Tryz.prog κ 104 [.agg #[e7 nd,va],e7 i,.slice la l.length lc] I (λr J=>r=e7 ((((triE nd es (e_ es i)).filter (λp:Pt=>decide (p.u∈l/\p.v∈l))).length:Nat):Int)/\I=J):=by
 have ah:=hG.rng
 have ai:=triE_len hG (B1 (xs:=es) h0 h1)
 refine Ce3 Tryz.func104 C C ?_
 refine Af<|Ge1 (Bg (cs:=[_,_]) C C C) λb1=>Ga C<|Ac<|Af<|Ga C<|Ac<|Aq<|Af<|Gl2 ty38 ?_
 refine Gm C<|G.e (Ak c_ C C<|Pairs12_ok (nd:=nd) (A8 hl) hG i om om om) ?_
 rintro _ _ ⟨_,_,⟨aa,ab,rfl,rfl⟩,rfl,rfl⟩
 refine Gr (Bh Bv C)<|Gm C<|Ac<|Aw<|Bu (σ:=Nat×Int) (λs=>([(2,.slice la l.length lc),(7,e7<|s.2),(12,.slice aa (triE nd es<|e_ es i).length ab),(13,e7<|(((triE nd es<|e_ es i).length:Nat):Int)),(14,e7 ((s.1:Nat):Int))]:Env)) (λs=>vk 200 aa ab (triE nd es<|e_ es i)::e8 b1 [e7 nd,va] 38::I) (λs=>(s.1<=(triE nd es<|e_ es i).length)/\(s.2=((((triE nd es<|e_ es i).take s.1).filter (λp:Pt=>decide<|p.u∈l/\p.v∈l)).length:Int))) (λs=>(triE nd es<|e_ es i).length - s.1) (0,0) (show ((0:Nat)<=(triE nd es<|e_ es i).length)/\((0:Int)=((((triE nd es<|e_ es i).take (0:Nat)).filter (λp:Pt=>decide<|p.u∈l/\p.v∈l)).length:Int)) from ⟨om,rfl⟩) (Aa C<|Aa B2<|Aa C<|Aa C<|Aa B2 Bi) (show Fit κ _ (vk 200 aa ab (triE nd es<|e_ es i)::e8 b1 [e7 nd,va] 38::I) from Bc) ?_
 rintro ⟨k,n⟩ hp
 dsimp only at hp ⊢
 obtain ⟨hk,hn⟩:=hp
 have ad:=List.length_filter_le (λp:Pt=>decide<|p.u∈l/\p.v∈l) ((triE nd es<|e_ es i).take k)
 rw [List.length_take] at ad
 refine Af<|Gr (A4 C C)<|Ac<|Aq<|A5 C (λae=>?_)<|λae=>?_
 ·refine Av (Ah<|Aq<|Aw<|Af<|Gr (Ax (α:=Pt) (xs:=(triE nd es<|e_ es i)) Bv ty200 C C Bf om om)<|Gr (Bx (α:=Pt) (xs:=(triE nd es<|e_ es i)) ty200 C Bf om om)<|Ge1 (A3 ty200 C) λb4=>Ge0 (Cz ty200) ?_)
  refine Ac<|Af<|Gm C<|Gr (B4 B6 ty2 C C om om)<|Gl ef ?_
  refine Gc0 (Ak c_ C C<|RHas_ok (A8 hs)<|(e_ (triE nd es<|e_ es i) (k:Int)).u) ?_
  refine Gm C<|Bt (d:=22) C (λZ=>?_)<|λZ=>?_
  ·refine e9 (Ai C) (e9 (B4 B6 ty2 C C om om)<|e9 (Bb ef) ?_)
   refine Ew (C5 C C C) (Ak c_ C C<|RHas_ok (A8 hs)<|(e_ (triE nd es<|e_ es i) (k:Int)).v) ?_
   rintro _ _ ⟨_,_,⟨rfl,rfl⟩,rfl,rfl⟩
   refine Gr (Ba C C)<|Ac<|Ao (S6 27 2 7 12 13 14 C C C C C C)<|A5 C (λM=>?_)<|λM=>?_
   ·exact Ar<|Gm C<|Gr (Rad C C)<|Ga C<|Bj<|Aj<|Ah<|Ar<|Gr (Rad C C)<|Gm C<|Bj<|B3 ((k+1),(n+1))<|by dsimp only;exact ⟨om,(by first|(rw [ftP_yes (λp:Pt=>decide<|p.u∈l/\p.v∈l) om (decide_eq_true ⟨Z,M⟩),hn])|(rw [ftP_no (λp:Pt=>decide<|p.u∈l/\p.v∈l) om (decide_eq_false λh=>M h.2),hn])|(rw [ftP_no (λp:Pt=>decide<|p.u∈l/\p.v∈l) om (decide_eq_false λh=>Z h.1),hn]))⟩
   exact Av<|Aj<|Ah<|Ar<|Gr (Rad C C)<|Gm C<|Bj<|B3 ((k+1),(n))<|by dsimp only;exact ⟨om,(by first|(rw [ftP_yes (λp:Pt=>decide<|p.u∈l/\p.v∈l) om (decide_eq_true ⟨Z,M⟩),hn])|(rw [ftP_no (λp:Pt=>decide<|p.u∈l/\p.v∈l) om (decide_eq_false λh=>M h.2),hn])|(rw [ftP_no (λp:Pt=>decide<|p.u∈l/\p.v∈l) om (decide_eq_false λh=>Z h.1),hn]))⟩
  exact eb<|eb<|eb<|eb<|Gr (A6 C C)<|Ac<|Ao (S6 27 2 7 12 13 14 C C C C C C)<|Dp C<|Av<|Aj<|Ah<|Ar<|Gr (Rad C C)<|Gm C<|Bj<|B3 ((k+1),(n))<|by dsimp only;exact ⟨om,(by first|(rw [ftP_yes (λp:Pt=>decide<|p.u∈l/\p.v∈l) om (decide_eq_true ⟨Z,M⟩),hn])|(rw [ftP_no (λp:Pt=>decide<|p.u∈l/\p.v∈l) om (decide_eq_false λh=>M h.2),hn])|(rw [ftP_no (λp:Pt=>decide<|p.u∈l/\p.v∈l) om (decide_eq_false λh=>Z h.1),hn]))⟩
 refine Bs<|Al<|Al<|A2<|Ah<|Af<|Gm C<|Ga C<|Ac<|Az ?_
 rw [List.take_of_length_le om] at hn
 exact A1 C C I Ay ⟨by rw [hn],rfl⟩
theorem filt_mono{p q:Pt->Bool}(h:∀x∈xs,p x=true->q x=true):(xs.filter p).length<=(xs.filter q).length:=by
 rw [←List.countP_eq_length_filter,←List.countP_eq_length_filter];exact List.countP_mono_left h
theorem asc_lenN{l:List Int}{n:Nat}(h:l.Nodup)(M:∀x∈l,0<=x/\x<n):l.length<=n:=by
 have:=List.Nodup.length_le_of_subset h (l₂:=(List.range n).map λi=>((i:Nat):Int)) λx Z=>by
  have:=M x Z
  exact List.mem_map.2 ⟨x.toNat,List.mem_range.2 om,by omega⟩
 rwa [List.length_map,List.length_range] at this
section
variable {tri:List (List Pt)}{num ord l:List Int}{k:Int}
theorem TrussE.pos(Z:TrussE tri num ord)(h0:0<=x)(M:x<tri.length):∃i:Nat,i<ord.length/\e_ ord i=x:=by
 by_cases hx:x∈ord
 ·obtain ⟨i,hi,e⟩:=mem_atN hx
  exact ⟨i,hi,e.symm⟩
 have:=asc_lenN (n:=tri.length) (List.nodup_cons.2 ⟨hx,Z.nodup⟩) λy hy=>by
  rcases List.mem_cons.1 hy with rfl|hy
  ·exact ⟨h0,M⟩
  exact Z.rng y hy
 have:=Z.olen
 simp only [List.length_cons] at *
 omega
theorem TrussE.le(Z:TrussE tri num ord):∀d:Nat,i+d<ord.length->e_ num (e_ ord i)<=e_ num (e_ ord ((i+d:Nat):Int))
 |0,_=>Int.le_refl _
 |d+1,h=>Int.le_trans (TrussE.le Z d om) (Z.asc (i+d) om)
theorem mem_dropN{l:List Int}{m:Nat}(h:i<m)(Z:m<l.length):e_ l m∈List.drop (i+1) l:=by
 rw [Cn _ m Z,List.mem_iff_getElem]
 refine ⟨m - (i+1),by rw [List.length_drop];omega,?_⟩
 rw [List.getElem_drop]
 congr 1;omega
theorem least_at(hx:∃j:Nat,j<ord.length/\e_ ord j∈l):∃i:Nat,(∀m:Nat,m<i->e_ ord m∉l)/\e_ ord i∈l/\i<ord.length:=by
 obtain ⟨j,hj,h⟩:=hx
 induction j using Nat.strongRecOn with
 |_ j ih=>
  by_cases h2:∃m:Nat,m<j/\e_ ord m∈l
  ·obtain ⟨m,M,Z⟩:=h2
   exact ih m M om Z
  exact ⟨j,λm M Z=>h2 ⟨m,M,Z⟩,h,hj⟩
theorem TrussE.clos(hG:TriG tri)(hE:TrussE tri num ord)(M:∀x∈l,0<=x/\x<tri.length)(hc:∀x∈l,k<=(((e_ tri x).filter λp:Pt=>decide (p.u∈l/\p.v∈l)).length:Int)):∀x∈l,k<=e_ num x:=λx hx=>by
 obtain ⟨j,hj,rfl⟩:=hE.pos (M x hx).1 (M x hx).2
 obtain ⟨i,h1,Z,hi⟩:=least_at ⟨j,hj,hx⟩
 have ad:i<=j:=by
  rcases Nat.lt_or_ge j i with h|h
  ·exact absurd hx<|h1 j h
  exact h
 have h2:=hE.le (i:=i) (j - i) om
 rw [show i+(j - i)=j by omega] at h2
 refine Int.le_trans (Int.le_trans (hc _ Z)<|Int.le_trans (Int.ofNat_le.2<|filt_mono λp hp h=>?_)<|hE.later i hi) h2
 have hr:=hG.rng _ (M _ Z).1 (M _ Z).2 p hp
 rw [decide_eq_true_eq] at h ⊢
 have aa:∀y∈l,y≠e_ ord i->y∈List.drop (i+1) ord:=λy hy ab=>by
  obtain ⟨m,hm,rfl⟩:=hE.pos (M y hy).1 (M y hy).2
  rcases Nat.lt_trichotomy m i with h3|h3|h3
  ·exact absurd hy<|h1 m h3
  ·subst h3;exact absurd rfl ab
  exact mem_dropN h3 hm
 exact ⟨aa _ h.1 hr.2.2.1,aa _ h.2 hr.2.2.2⟩
theorem TrussE.set(hG:TriG tri)(hE:TrussE tri num ord)(h0:0<=x)(M:x<tri.length)(hk:k<=e_ num x)(hl:∀y:Int,0<=y->y<tri.length->k<=e_ num y->y∈l):k<=(((e_ tri x).filter λp:Pt=>decide (p.u∈l/\p.v∈l)).length:Int):=by
 obtain ⟨i,hi,rfl⟩:=hE.pos h0 M
 refine Int.le_trans hk<|Int.le_trans (hE.high i hi)<|Int.ofNat_le.2<|filt_mono λp hp h=>?_
 have Z:=hG.rng _ h0 M p hp
 rw [decide_eq_true_eq] at h ⊢
 exact ⟨hl _ Z.1.1 Z.1.2.1 om,hl _ Z.1.2.2.1 Z.1.2.2.2 om⟩
end
section
variable {nd lv:Int}{es:List Pt}{l m:List Int}
theorem trussG_E(Z:GrOk nd es):TrussE (trisE nd es) (trussG nd es) (trussO (trisE nd es)):=by
 unfold trussG
 rw [if_neg (by rw [checkG_ok.2 Z];decide)]
 exact trussE (triG Z)<|tris_ok Z
theorem trussG_lenE(Z:GrOk nd es):(trussG nd es).length=es.length:=by
 rw [(trussG_E Z).nlen];exact List.length_map ..
theorem tris_atE(Z:0<=x)(M:x<es.length):e_ (trisE nd es) x=triE nd es (e_ es x):=by
 obtain ⟨i,rfl⟩:=Int.eq_ofNat_of_zero_le Z
 rw [Cn _ i (by unfold trisE;rw [List.length_map];omega),Cn _ i om]
 unfold trisE
 rw [List.getElem_map]
def trK(nd:Int)(es:List Pt)(k:Int):List Int:=sideL (trussG nd es).length λv=>decide (k<=e_ (trussG nd es) v)
theorem mem_trK(Z:GrOk nd es):x∈trK nd es lv↔(0<=x/\x<es.length)/\lv<=e_ (trussG nd es) x:=by
 unfold trK;rw [mem_sideL,decide_eq_true_eq,trussG_lenE Z]
theorem trK_asc:(trK nd es lv).Pairwise (λM Z:Int=>M<Z):=by unfold trK;exact (ValidP_iff.1 (sideL_valid _ _)).2
theorem trK_len(Z:GrOk nd es):(trK nd es lv).length<=es.length:=by unfold trK;exact Nat.le_trans (sideL_len _ _) (Nat.le_of_eq (trussG_lenE Z))
theorem tr_list(hG:GrOk nd es)(aa:l.Pairwise (λx0 x1:Int=>x0<x1))(Z:∀x∈l,0<=x/\x<es.length)(ab:∀x∈l,lv<=((((triE nd es (e_ es x)).filter (λp:Pt=>decide (p.u∈l/\p.v∈l))).length:Nat):Int))(ad:∀x∈trK nd es lv,x∈l):l=trK nd es lv:=by
 have hl:(trisE nd es).length=es.length:=List.length_map ..
 refine intLin.uniq aa trK_asc λx=>⟨λhx=>(mem_trK hG).2 ⟨Z x hx,?_⟩,ad x⟩
 exact (trussG_E hG).clos (triG hG) (λy M=>by rw [hl];exact Z y M) (λy M=>by rw [tris_atE (Z y M).1 (Z y M).2];exact ab y M) x hx
theorem tr_drop(M:GrOk nd es)(Z:∀x∈trK nd es lv,x∈m)(hx:0<=x/\x<es.length)(hlt:((((triE nd es (e_ es x)).filter (λp:Pt=>decide (p.u∈m/\p.v∈m))).length:Nat):Int)<lv):∀y∈trK nd es lv,y∈minusL m [x]:=λy hy=>by
 refine mem_mnC.2 ⟨Z y hy,λe=>?_⟩
 subst e
 have hl:(trisE nd es).length=es.length:=List.length_map ..
 have:=(trussG_E M).set (triG M) hx.1 (by rw [hl];exact hx.2) ((mem_trK M).1 hy).2 (l:=m) (λz h0 h1 h2=>Z z<|(mem_trK M).2 ⟨⟨h0,by rw [hl] at h1;exact h1⟩,h2⟩)
 rw [tris_atE hx.1 hx.2] at this
 omega
def capT(nd:Int)(es:List Pt)(k:Int):List Int:=(trussG nd es).map λx=>min k x
theorem capT_len(nd:Int)(es:List Pt)(k:Int):(capT nd es k).length=(trussG nd es).length:=List.length_map ..
theorem capT_at{k:Int}(Z:0<=u)(M:u<(trussG nd es).length):e_ (capT nd es k) u=min k (e_ (trussG nd es) u):=by
 obtain ⟨i,rfl⟩:=Int.eq_ofNat_of_zero_le Z
 rw [Cn _ i (by rw [capT_len];omega),Cn _ i om]
 unfold capT
 rw [List.getElem_map]
theorem trussG_pos(Z:GrOk nd es)(h0:0<=u)(M:u<(trussG nd es).length):0<=e_ (trussG nd es) u/\e_ (trussG nd es) u<=nd - 1:=by
 have hl:=trussG_lenE Z
 have he:=Z.edge (e_ es u) (B1 om om)
 exact trussG_bd Z om _<|B1 h0 M
theorem capT_zero(Z:GrOk nd es):capT nd es 0=replicate es.length 0:=by
 have M:=trussG_lenE Z
 refine ext_atw (by rw [capT_len,List.length_replicate,M]) λi hi=>?_
 rw [capT_len] at hi
 rw [capT_at om om,at_rep _ _ _ om om]
 have:=trussG_pos Z (u:=(i:Int)) om om
 omega
theorem capT_all(Z:GrOk nd es){k:Int}(h:nd - 1<=k\/trK nd es (k+1)=[]):capT nd es k=trussG nd es:=by
 refine ext_atw (capT_len _ _ _) λi hi=>?_
 rw [capT_len] at hi
 rw [capT_at om om]
 have h1:=trussG_pos Z (u:=(i:Int)) om om
 rcases h with h|h
 ·omega
 have:¬k+1<=e_ (trussG nd es) i:=λh2=>by
  have M:=(mem_trK Z (lv:=k+1)).2 ⟨⟨by omega,by have:=trussG_lenE Z;omega⟩,h2⟩
  rw [h] at M;cases M
 omega
theorem capT_put(Z:GrOk nd es){k:Int}(hk:1<=k):putN (capT nd es (k - 1)) k (trK nd es k)=capT nd es k:=by
 have hl:=trussG_lenE Z
 refine ext_atw (by rw [putN_len,capT_len,capT_len]) λi hi=>?_
 rw [putN_len,capT_len] at hi
 rw [putN_at k _ _ _ (λx M=>by rw [capT_len,hl];exact ((mem_trK Z).1 M).1) om,capT_at om om,capT_at om om]
 by_cases h:(i:Int)∈trK nd es k
 ·rw [if_pos h]
  have:=((mem_trK Z).1 h).2
  omega
 rw [if_neg h]
 have:¬k<=e_ (trussG nd es) i:=λh2=>h ((mem_trK Z).2 ⟨⟨by omega,by omega⟩,h2⟩)
 omega
theorem rangeI_N(n:Nat):((List.range n).map λi=>((i:Nat):Int)).Pairwise (λM Z:Int=>M<Z)/\∀x,x∈((List.range n).map λi=>((i:Nat):Int))↔0<=x/\x<n:=by
 constructor
 ·refine List.Pairwise.map _ (λa b h=>?_) List.pairwise_lt_range
  omega
 intro x
 rw [List.mem_map]
 constructor
 ·rintro ⟨i,hi,rfl⟩;have:=List.mem_range.1 hi;omega
 intro h;exact ⟨x.toNat,List.mem_range.2 om,by omega⟩
theorem rangeN_succ(k:Nat):((List.range (k+1)).map λi=>((i:Nat):Int))=((List.range k).map λi=>((i:Nat):Int))++[(k:Int)]:=by rw [List.range_succ,List.map_append];rfl
end
theorem All12_ok{κ:Ctx}{I:List Item}{nd:Int}{es:List Pt}(hl:Sl κ I va es)(hb:es.length<=1000000):eu Tryz.prog κ 103 [.agg #[e7 nd,va]] I (λr J=>∃a c,r = .slice a ((List.range es.length).map λi=>((i:Nat):Int)).length c/\J=vk 3 a c ((List.range es.length).map λi=>((i:Nat):Int))::I):=by
 refine B8 hl.le λaa=>?_
 refine Ce1 Tryz.func103 C C ?_
 refine Af<|Ge1 (Bg (cs:=[_,_]) C C C) λb1=>Ga C<|Ac<|Af<|Ga C<|Ac<|Aq<|Af<|Gf fld38_1 C<|Gl ty36 ?_
 refine Gr (B9 (α:=Pt) (xs:=es) Au C<|A8 hl)<|Gm C<|Ac<|Aw<|Bu (σ:=Nat×(Option Addr)×Nat×(List Int)) (λs=>([(3,.slice s.2.1 s.2.2.2.length s.2.2.1),(7,e7 ((es.length:Nat):Int)),(8,e7 ((s.1:Nat):Int))]:Env)) (λs=>vk 3 s.2.1 s.2.2.1 s.2.2.2::e8 b1 [e7 nd,va] 38::I) (λs=>(s.1<=es.length)/\(s.2.2.2=((List.range s.1).map λi=>((i:Nat):Int)))) (λs=>es.length - s.1) (0,none,0,[]) (show ((0:Nat)<=es.length)/\(([]:List Int)=((List.range (0:Nat)).map λi=>((i:Nat):Int))) from ⟨om,rfl⟩) (Aa (Cx C<|by first|rfl|simp)<|Aa C<|Aa B2 Bi) (show Fit κ _ (vk 3 none 0 ([])::e8 b1 [e7 nd,va] 38::I) from (Cb _ _)) ?_
 rintro ⟨k,a,c,out⟩ hp
 dsimp only at hp ⊢
 obtain ⟨hk,ho⟩:=hp
 have ad:out.length=k:=by rw [ho,List.length_map,List.length_range]
 refine Af<|Gr (A4 C C)<|Ac<|Aq<|A5 C (λc9=>?_)<|λc9=>?_
 ·refine Av (Ah<|Aq<|Aw<|Af<|Gm C<|Ga C<|Ac<|Ar<|Gm C<|Gm C<|Ge1 (Cf (α:=Int) (cs:=[_]) (xs:=[(k:Int)]) Ab ef C C dc dc C C C C) λab=>?_)
  refine Ge2 (Cg (α:=Int) (e:=3) (xs:=out) (ys:=([(k:Int)]:List Int)) Ab ef C C C mm Bf lcn dc C<|λ_ _=>am) λZ M=>?_
  exact Ga C<|Bj<|Aj<|Ah<|Ar<|Gr (Rad C C)<|Gm C<|Bj<|B3 ((k+1),(Z),(M),(out++([(k:Int)]:List Int)))<|by dsimp only;exact ⟨om,(by rw [rangeN_succ,ho])⟩
 refine Bs<|Al<|Al<|A2<|Ah<|Af<|Gm C<|Ga C<|Ac<|Az ?_
 have hE:out=((List.range es.length).map λi=>((i:Nat):Int)):=by rw [ho,show k=es.length by omega]
 exact A1 C C (vk 3 a c ((List.range es.length).map λi=>((i:Nat):Int))::I) (by rw [←hE];exact Bl) ⟨a,c,by rw [←hE],rfl⟩
variable {κ:Ctx}{I:List Item}
theorem Truss12_ok{nd lv:Int}{es:List Pt}(hl:Sl κ I va es)(hG:GrOk nd es)(hb:es.length<=1000000):eu Tryz.prog κ 53 [.agg #[e7 nd,va],e7 lv] I (λr J=>∃a c,r = .slice a (trK nd es lv).length c/\J=vk 3 a c (trK nd es lv)::I):=by
 have hr:=hG.rng
 refine Ce2 Tryz.func53 C C ?_
 refine Af<|Ge1 (Bg (cs:=[_,_]) C C C) λb1=>Ga C<|Ac<|Af<|Gl2 ty38 ?_
 refine G.e (Ak c_ C C<|All12_ok (nd:=nd) (A8 hl) om) ?_
 rintro _ _ ⟨_,_,⟨aq,aw,rfl,rfl⟩,rfl,rfl⟩
 refine Ga C<|Ac<|Aq<|Af<|Ga C<|Ac<|Aw<|Bu (σ:=(Option Addr)×Nat×(List Int)×Bool) (λs=>([(1,e7 lv),(2,pt b1),(5,.slice s.1 s.2.2.1.length s.2.1),(6,.bool<|s.2.2.2)]:Env)) (λs=>vk 3 s.1 s.2.1 s.2.2.1::e8 b1 [e7 nd,va] 38::I) (λs=>(s.2.2.1.Pairwise (λx0 x1:Int=>x0<x1))/\(∀x∈s.2.2.1,0<=x/\x<es.length)/\(∀x∈trK nd es lv,x∈s.2.2.1)/\(s.2.2.2=false->∀x∈s.2.2.1,lv<=((((triE nd es<|e_ es x).filter (λp:Pt=>decide<|p.u∈s.2.2.1/\p.v∈s.2.2.1)).length:Nat):Int))) (λs=>(2*s.2.2.1.length+s.2.2.2.toNat)) (aq,aw,((List.range es.length).map λi=>((i:Nat):Int)),true) (show ((((List.range es.length).map λi=>((i:Nat):Int)):List Int).Pairwise (λx0 x1:Int=>x0<x1))/\(∀x∈(((List.range es.length).map λi=>((i:Nat):Int)):List Int),0<=x/\x<es.length)/\(∀x∈trK nd es lv,x∈(((List.range es.length).map λi=>((i:Nat):Int)):List Int))/\((true:Bool)=false->∀x∈(((List.range es.length).map λi=>((i:Nat):Int)):List Int),lv<=((((triE nd es<|e_ es x).filter (λp:Pt=>decide<|p.u∈(((List.range es.length).map λi=>((i:Nat):Int)):List Int)/\p.v∈(((List.range es.length).map λi=>((i:Nat):Int)):List Int))).length:Nat):Int)) from ⟨(rangeI_N _).1,(λx hx=>((rangeI_N _).2 x).1 hx),(λx hx=>((rangeI_N _).2 x).2 ((mem_trK hG).1 hx).1),(λh=>by cases h)⟩) (Aa C<|Aa C<|Aa (Cx C<|by first|rfl|simp)<|Aa (Cx C<|by first|rfl|simp) Bi) (show Fit κ _ (vk 3 aq aw (((List.range es.length).map λi=>((i:Nat):Int)))::e8 b1 [e7 nd,va] 38::I) from Bl) ?_
 rintro ⟨a,c,l,ag⟩ hp
 dsimp only at hp ⊢
 obtain ⟨M,ab,ao,az⟩:=hp
 have a5:l.length<=es.length:=asc_lenN (M.imp λh=>by omega) ab
 refine Aq<|Af<|Gm C<|Ac<|D4 C (λc11=>?_)<|λc11=>?_
 ·refine Av (Ah<|Aw<|Af<|Ga C<|Ac<|Af<|Gm C<|Gr (Bh Ab C)<|Gm C<|Ac<|Aw<|Bu (σ:=Nat×(Option Addr)×Nat×(List Int)×Bool×(List Item)) (λs=>([(1,e7 lv),(2,pt b1),(5,.slice s.2.1 s.2.2.2.1.length s.2.2.1),(6,.bool<|s.2.2.2.2.1),(12,.slice a l.length c),(13,e7 ((l.length:Nat):Int)),(14,e7 ((s.1:Nat):Int))]:Env)) (λs=>e8 b1 [e7 nd,va] 38::(s.2.2.2.2.2++I)) (λs=>(s.1<=l.length)/\(Sl κ s.2.2.2.2.2 (.slice a l.length c) l)/\(∃R,s.2.2.2.2.2=vk 3 s.2.1 s.2.2.1 s.2.2.2.1::R)/\(s.2.2.2.1.Pairwise (λx0 x1:Int=>x0<x1))/\(∀x∈s.2.2.2.1,x∈l)/\(∀x∈trK nd es lv,x∈s.2.2.2.1)/\(s.2.2.2.2.1=false->s.2.2.2.1=l/\∀i:Nat,i<s.1->lv<=((((triE nd es<|e_ es<|e_ l i).filter (λp:Pt=>decide<|p.u∈l/\p.v∈l)).length:Nat):Int))/\(∀i:Nat,s.1<=i->i<l.length->e_ l i∈s.2.2.2.1)/\(s.2.2.2.1.length+s.2.2.2.2.1.toNat<=l.length/\(s.2.2.2.2.1=true->s.2.2.2.1.length<l.length))) (λs=>(l.length - s.1)) (0,a,c,l,false,[vk 3 a c l]) (show ((0:Nat)<=l.length)/\(Sl κ ([vk 3 a c l]:List Item) (.slice a l.length c) l)/\(∃R,([vk 3 a c l]:List Item)=vk 3 (a:Option Addr) (c:Nat) (l:List Int)::R)/\((l:List Int).Pairwise (λx0 x1:Int=>x0<x1))/\(∀x∈(l:List Int),x∈l)/\(∀x∈trK nd es lv,x∈(l:List Int))/\((false:Bool)=false->(l:List Int)=l/\∀i:Nat,i<(0:Nat)->lv<=((((triE nd es<|e_ es<|e_ l i).filter (λp:Pt=>decide<|p.u∈l/\p.v∈l)).length:Nat):Int))/\(∀i:Nat,(0:Nat)<=i->i<l.length->e_ l i∈(l:List Int))/\((l:List Int).length+(false:Bool).toNat<=l.length/\((false:Bool)=true->(l:List Int).length<l.length)) from ⟨om,(C3 List.mem_cons_self),⟨[],rfl⟩,M,(λx hx=>hx),ao,(λ_=>⟨rfl,λi hi=>by omega⟩),(λi _ hi=>B1 om om),⟨by simp,λh=>by cases h⟩⟩) (Aa C<|Aa C<|Aa (Cx C<|by first|rfl|simp)<|Aa (Cx C<|by first|rfl|simp)<|Aa C<|Aa C<|Aa B2 Bi) (show Fit κ _ (e8 b1 [e7 nd,va] 38::(([vk 3 a c l])++I)) from (Fit.vcIn (A:=[e8 b1 [e7 nd,va] 38]))) ?_)
  rintro ⟨j,a2,c2,m,ak,Y2⟩ hp
  dsimp only at hp ⊢
  obtain ⟨hj,ae,av,Z,aa,ad,an,aj,ay⟩:=hp
  have a4:m.length<=es.length:=asc_lenN (Z.imp λh=>by omega) (λx hx=>ab x<|aa x hx)
  have au:Sl κ Y2 (.slice a2 m.length c2) m:=by obtain ⟨R,rfl⟩:=av;exact C3 List.mem_cons_self
  refine Af<|Gr (A4 C C)<|Ac<|Aq<|A5 C (λa0=>?_)<|λa0=>?_
  ·refine Av (Ah<|Aq<|Aw<|Af<|Gr (Ax (α:=Int) (xs:=l) Ab ef C C (Bz ae<|Dm<|List.Sublist.trans (List.sublist_append_left _ I)<|List.sublist_append_right ([e8 b1 [e7 nd,va] 38]:List Item)<|Y2++I) om om)<|Gr (Br (xs:=l) ef C (Bz ae<|Dm<|List.Sublist.trans (List.sublist_append_left _ I)<|List.sublist_append_right ([e8 b1 [e7 nd,va] 38]:List Item)<|Y2++I) om om)<|Ga C ?_)
   have a1:=aj j (Nat.le_refl _) om
   have ah:=ab _ (B1 (xs:=l) (i:=(j:Int)) om om)
   refine Ac<|Af<|Gl2 ty38 ?_
   refine Gm C<|Gm C<|Gc0 (Ak c_ C C<|Within12_ok (nd:=nd) (A8 hl) (Bz au<|Dm<|List.Sublist.trans (List.sublist_append_left _ I)<|List.sublist_append_right ([e8 b1 [e7 nd,va] 38]:List Item)<|Y2++I) hG (e_ l j) ah.1 ah.2 om) ?_
   refine Gm C<|Gr (A4 C C)<|Ac<|Ao (S9 23 8 1 2 5 6 12 13 14 C C C C C C C C C)<|A5 C (λai=>?_)<|λai=>?_
   ·refine Ar (Gm C<|Gm C<|Ge1 (Cf (α:=Int) (cs:=[_]) (xs:=[e_ l j]) Ab ef C C dc dc C C C C) λax=>?_)
    refine G.e (Ak c_ C C<|Minus_ok (Bz au<|Dm<|List.Sublist.trans (List.sublist_append_left _ I)<|List.sublist_append_right ([vc 3 (.slice ax 1 1) (([e_ l j]:List Int)),e8 b1 [e7 nd,va] 38]:List Item)<|Y2++I) Bf om) ?_
    rintro _ _ ⟨_,_,⟨ap,ar,rfl,rfl⟩,rfl,rfl⟩
    exact Ga C<|Ga C<|Bj<|Aj<|Ah<|Ao (S7 6 5 1 2 12 13 14 C C C C C C C)<|Ar<|Gr (Rad C C)<|Gm C<|Bj<|B3 ((j+1),(ap),(ar),(minusL m ([e_ l j]:List Int)),(true),((vk 3 ap ar (minusL m ([e_ l j]:List Int))::Y2))) (by dsimp only;exact ⟨om,(Bz ae<|Fd<|Er _),⟨Y2,rfl⟩,((ofL_asc m).sublist List.filter_sublist),(λx hx=>aa x (mem_mnC.1 hx).1),(tr_drop hG ad ah ai),(λh=>by cases h),(λi h1 h2=>mem_mnC.2 ⟨aj i om h2,λe=>by have:=asc_inj M h2 (show j<l.length by omega) e;omega⟩),(by have:=mnC_len Z a1;exact ⟨by simp;omega,λ_=>by omega⟩)⟩) (hI:=by (try dsimp only);exact (by first|exact Bl|exact Bc))
   exact Av<|Aj<|Ah<|Ar<|Gr (Rad C C)<|Gm C<|Bj<|B3 ((j+1),(a2),(c2),(m),(ak),(Y2)) (by dsimp only;exact ⟨om,om,om,om,om,om,(λh=>by obtain ⟨e,h2⟩:=an h;refine ⟨e,λi hi=>?_⟩;by_cases e2:i=j;(· subst e2;rw [e] at ai;omega);(· exact h2 i om)),(λi h1 h2=>aj i om h2),om⟩) (hI:=by (try dsimp only);exact (by first|exact Bl|exact Bc))
  refine Bs<|Al<|Al<|A2<|Aj ?_
  obtain ⟨R,rfl⟩:=av
  exact B3 ((a2),(c2),(m),(ak)) (by dsimp only;exact ⟨Z,(λx hx=>ab x<|aa x hx),ad,(λh=>by obtain ⟨e,h2⟩:=an h;subst e;intro x hx;obtain ⟨i,hi,rfl⟩:=mem_at hx;exact h2 i om)⟩) (hlt:=by (try dsimp only);exact (by have a3:ag=true:=(by simpa using c11);subst a3;cases ak<;>simp at ay ⊢ <;>omega)) (hI:=by (try dsimp only);exact (Fit.vcR (A:=[e8 b1 [e7 nd,va] 38])))
 refine Bs<|Al<|Al<|A2<|Ah<|Af<|Gm C<|Ga C<|Ac<|Az ?_
 have hE:l=trK nd es lv:=tr_list hG M ab (az<|by simpa using c11) ao
 subst hE
 exact A1 C C (vk 3 a c (trK nd es lv)::I) Bl ⟨a,c,rfl,rfl⟩
theorem Numbers12_ok{nd:Int}{va:Value}{es:List Pt}(hl:Sl κ I va es)(hG:GrOk nd es)(hb:es.length<=1000000):eu Tryz.prog κ 20 [.agg #[e7 nd,va]] I (λr J=>∃a c,r = .tuple #[.slice a (trussG nd es).length c,e7 0]/\J=vc 3 (.slice a (trussG nd es).length c) (trussG nd es)::I):=by
 have hr:=hG.rng
 have ah:=trussG_lenE hG
 refine Ce1 Tryz.func20 C C ?_
 refine Af<|Ge1 (Bg (cs:=[_,_]) C C C) λb1=>Ga C<|Ga C<|Ac<|Aq<|Af<|Gl2 ty38 ?_
 refine G.e (Ak c_ C C<|Check03G_ok (nd:=nd)<|A8 hl) ?_
 rintro _ _ ⟨_,_,⟨rfl,rfl⟩,rfl,rfl⟩
 refine Ga C<|Ac<|Af<|Gm C<|Gr (Bo C C)<|Ac<|A5 C (λc13=>?_)<|λc13=>?_
 ·exact absurd (checkG_ok.2 hG) c13
 refine Av<|Ah<|Af<|Gf fld38_1 C<|Gl ty36 ?_
 refine Gr (B9 (α:=Pt) (xs:=es) Au C<|A8 hl)<|Ge2 (Du (α:=Int) (n:=es.length) Ab ef C C C om om dc C) λZ M=>?_
 refine Ga C<|Ac<|Ao (S2 5 1 C C)<|Aq<|Af<|Ga C<|Ac<|Aw<|Bu (σ:=Int) (λs=>([(1,.pointer<|some ⟨b1,0,none⟩),(5,.slice Z (replicate es.length (default:Int)).length M),(6,e7 s)]:Env)) (λs=>vc 3 (.slice Z (replicate es.length (default:Int)).length M) ((capT nd es<|s - 1))::e8 b1 [e7 nd,va] 38::I) (λs=>(1<=s/\(s<=nd\/s=1))) (λs=>(nd - s).toNat) 1 (show (1<=(1:Int)/\((1:Int)<=nd\/(1:Int)=1)) from om) (Aa C<|Aa C<|Aa B2 Bi) (show Fit κ _ (vc 3 (.slice Z (replicate es.length (default:Int)).length M) ((capT nd es<|(1) - 1))::e8 b1 [e7 nd,va] 38::I) from (by rw [show capT nd es (1 - 1)=replicate es.length 0 from capT_zero hG];exact Bl)) ?_
 rintro q hp
 have hq:=hp
 have ap:=capT_len nd es (q - 1)
 have ar:=trK_len (lv:=q) hG
 have an:∀x∈trK nd es q,0<=x/\x<es.length:=λx hx=>((mem_trK hG).1 hx).1
 refine Aq<|Af<|Gm C<|Gf fld38_0 C<|Gl ef ?_
 refine Gr (A4 C C)<|Ac<|A5 C (λao=>?_)<|λao=>?_
 ·refine Av (Ah<|Aq<|Aw<|Af<|Gl2 ty38 ?_)
  refine Gm C<|Gc2 (Ak c_ C C<|Truss12_ok (nd:=nd) (lv:=q) (A8 hl) hG om) λad ae=>?_
  refine Ga C<|Ac<|Aq<|Af<|Gm C<|Gr (Bh Ab C)<|Gr (Bw C C)<|Ac<|Ao (S5 30 7 1 5 6 C C C C C)<|A5 C (λak=>?_)<|λak=>?_
  ·refine Bs (Al<|V.block_miss C<|Al<|Al<|A2<|Ah<|Af<|Gm C<|Ga C<|Ga C<|Ac<|Az ?_)
   have hE:capT nd es (q - 1)=trussG nd es:=capT_all hG (by first|(left;omega)|(right;rw [Int.sub_add_cancel];exact List.eq_nil_of_length_eq_zero om))
   have aa:(replicate es.length (default:Int)).length=(trussG nd es).length:=by rw [List.length_replicate,ah]
   exact C7 C C C (vc 3 (.slice Z (trussG nd es).length M) (trussG nd es)::I) (by rw [←aa,←hE];exact Bl) ⟨Z,M,by rw [←aa],rfl⟩
  refine Av<|Ah<|Af<|Gm C<|Gr (Bh Ab C)<|Gm C<|Ac<|Aw<|Bu (σ:=Nat×(List Int)) (λs=>([(1,.pointer<|some ⟨b1,0,none⟩),(5,.slice Z (replicate es.length (default:Int)).length M),(6,e7 q),(31,.slice ad (trK nd es q).length ae),(32,e7<|(((trK nd es q).length:Nat):Int)),(33,e7 ((s.1:Nat):Int))]:Env)) (λs=>vc 3 (.slice Z (replicate es.length (default:Int)).length M) (s.2)::vc 3 (.slice ad (trK nd es q).length ae) (trK nd es q)::e8 b1 [e7 nd,va] 38::I) (λs=>(s.1<=(trK nd es q).length)/\(s.2=putN (capT nd es<|q - 1) q ((trK nd es q).take s.1))) (λs=>(trK nd es q).length - s.1) (0,capT nd es<|q - 1) (show ((0:Nat)<=(trK nd es q).length)/\((capT nd es (q - 1):List Int)=putN (capT nd es<|q - 1) q ((trK nd es q).take (0:Nat))) from ⟨om,rfl⟩) (Aa C<|Aa C<|Aa C<|Aa C<|Aa C<|Aa B2 Bi) (show Fit κ _ (vc 3 (.slice Z (replicate es.length (default:Int)).length M) ((capT nd es<|q - 1))::vc 3 (.slice ad (trK nd es q).length ae) (trK nd es q)::e8 b1 [e7 nd,va] 38::I) from Bl) ?_
  rintro ⟨k,out⟩ hp
  dsimp only at hp ⊢
  obtain ⟨hk,ab⟩:=hp
  have aq:out.length=(trussG nd es).length:=by rw [ab,putN_len,capT_len]
  have au:k<(trK nd es q).length->0<=e_ (trK nd es q) k/\e_ (trK nd es q) k<es.length:=λh=>an _ (B1 om om)
  refine Af<|Gr (A4 C C)<|Ac<|Aq<|A5 C (λaj=>?_)<|λaj=>?_
  ·refine Av (Ah<|Aq<|Aw<|Af<|Gr (Ax (α:=Int) (xs:=trK nd es q) Ab ef C C Bf om om)<|Gr (Br (xs:=trK nd es q) ef C Bf om om)<|Ga C<|Ac<|Ar<|Gm C<|Gm C<|Gm C<|Gr (Ax (α:=Int) (xs:=out) Ab ef C C Bf om om)<|Ge0 (Cu (α:=Int) (xs:=out) (e:=3) (new:=q) ef C C C om om am) ?_)
   exact Bj<|Aj<|Ah<|Ao (S6 1 5 6 31 32 33 C C C C C C)<|Ar<|Gr (Rad C C)<|Gm C<|Bj<|B3 ((k+1),(List.set out (e_ (trK nd es q) k).toNat (q)))<|by dsimp only;exact ⟨om,(by rw [putN_take om,←ab])⟩
  refine Bs<|Al<|Al<|A2<|Aj<|Ah<|Ar<|Gm C<|Gr (Rad C C)<|Ga C<|Bj ?_
  have ai:out=capT nd es (q+1 - 1):=by rw [ab,List.take_of_length_le om,capT_put hG hq.1,Int.add_sub_cancel]
  exact B3 ((q+1)) om (hI:=by (try dsimp only);exact (by rw [←ai];exact Bl))
 refine Bs<|Al<|Al<|A2<|Ah<|Af<|Gm C<|Ga C<|Ga C<|Ac<|Az ?_
 have hE:capT nd es (q - 1)=trussG nd es:=capT_all hG (by first|(left;omega)|(right;rw [Int.sub_add_cancel];exact List.eq_nil_of_length_eq_zero om))
 have aa:(replicate es.length (default:Int)).length=(trussG nd es).length:=by rw [List.length_replicate,ah]
 exact C7 C C C (vc 3 (.slice Z (trussG nd es).length M) (trussG nd es)::I) (by rw [←aa,←hE];exact Bl) ⟨Z,M,by rw [←aa],rfl⟩
end Go.Sl
