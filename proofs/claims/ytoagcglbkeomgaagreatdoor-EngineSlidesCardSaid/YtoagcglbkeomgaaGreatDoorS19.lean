/- A part of the proofs of statements of this seat: contracts of functions, and the plain laws that they lean on. No conditions. -/
import Derived.Test.YtoagcglbkeomgaaGreatDoorS18
set_option linter.unusedVariables false
set_option linter.unusedSimpArgs false
set_option linter.unusedSectionVars false
open List (length_set length_take length_drop sum_cons length_map mem_filter)
namespace Go.Sl
open Go.Proofs
set_option maxRecDepth 4000
theorem sum_flat2{α β:Type}(f:β->Int)(h:α->List β):∀l:List α,((l.flatMap h).map f).sum=(l.map λa=>((h a).map f).sum).sum
 |[]=>rfl
 |a::l=>by rw [List.flatMap_cons,List.map_append,List.sum_append,List.map_cons,sum_cons,sum_flat2 f h l]
section
variable {nd:Int}{es es':List Pt}{u v:Int}
def overR(nd:Int)(es:List Pt)(u v a:Int):List Pt:=if a=v then [] else ((nbG nd es v).filter λb=>decide (b≠u/\b∈nbG nd es a)).map λb=>(⟨a,b⟩:Pt)
def overL(nd:Int)(es:List Pt)(u v:Int):List Pt:=(nbG nd es u).flatMap (overR nd es u v)
theorem nb_lt(M:GrOk nd es){x:Int}:∀y∈nbG nd es x,0<=y/\y<(nd.toNat:Int):=λy Z=>by have:=(nbe_rng M Z).2.1;omega
theorem over_sum(hG:GrOk nd es)(hu:NodeR nd u)(hv:NodeR nd v)(M:v∉nbG nd es u)(f:Nat->Nat->Int) :
  ((overL nd es u v).map λp=>f p.u.toNat p.v.toNat).sum=sumN nd.toNat λa=>sumN nd.toNat λb=>if ovr (adjE nd es) u.toNat v.toNat a b=true then f a b else 0:=by
 unfold NodeR at hu hv
 unfold overL
 rw [sum_flat2]
 have h1:(nbG nd es u).map (λa=>((overR nd es u v a).map λp=>f p.u.toNat p.v.toNat).sum)=(nbG nd es u).map λa=>(λa':Nat=>sumN nd.toNat λb=>if (adjE nd es v.toNat b&&adjE nd es a' b)=true then f a' b else 0) a.toNat:=List.map_congr_left λa ha=>by
  have aa:=(nbe_rng hG ha).2.1
  have ab:¬a=v:=λq=>M (q▸ha)
  unfold overR
  rw [if_neg ab,List.map_map]
  have hn:=((nb_nodup nd es v).filter λb=>decide<|b≠u/\b∈nbG nd es a)
  have h2:=sum_list (n:=nd.toNat) (λb=>f a.toNat b) hn λb hb=>nb_lt hG b (mem_filter.1 hb).1
  refine Eq.trans ?_<|h2.trans<|C6 _ λb hb=>?_
  ·rfl
  have Z:((b:Int)∈(nbG nd es v).filter λb=>decide<|b≠u/\b∈nbG nd es a)↔(adjE nd es v.toNat b&&adjE nd es a.toNat b)=true:=by
   unfold adjE
   rw [Int.toNat_of_nonneg hv.1,Int.toNat_of_nonneg aa.1,Bool.and_eq_true,decide_eq_true_iff,decide_eq_true_iff,mem_filter,decide_eq_true_iff]
   constructor
   ·rintro ⟨h3,_,h4⟩;exact ⟨h3,h4⟩
   rintro ⟨h3,h4⟩
   exact ⟨h3,λq=>M<|nb_sym hG<|q▸h3,h4⟩
  by_cases hq:(adjE nd es v.toNat b&&adjE nd es a.toNat b)=true
  ·rw [if_pos (Z.2 hq),if_pos hq]
  rw [if_neg (λq=>hq<|Z.1 q),if_neg hq]
 rw [h1]
 refine (sum_list (n:=nd.toNat) (λa':Nat=>sumN nd.toNat λb=>if (adjE nd es v.toNat b&&adjE nd es a' b)=true then f a' b else 0) (nb_nodup nd es u)<|nb_lt hG).trans (C6 _ λa ha=>?_)
 have Z:((a:Int)∈nbG nd es u)↔adjE nd es u.toNat a=true:=by
  unfold adjE;rw [Int.toNat_of_nonneg hu.1,decide_eq_true_iff]
 unfold ovr
 by_cases hq:adjE nd es u.toNat a=true
 ·rw [if_pos (Z.2 hq)]
  exact C6 _ λb hb=>by rw [hq,Bool.true_and]
 rw [if_neg (λq=>hq<|Z.1 q)]
 have hf:adjE nd es u.toNat a=false:=by cases e:adjE nd es u.toNat a with |false=>rfl|true=>exact absurd e hq
 exact (Fi _ λb hb=>by rw [hf,Bool.false_and,Bool.false_and];rfl).symm
theorem over_len(hG:GrOk nd es)(hu:NodeR nd u)(hv:NodeR nd v)(Z:v∉nbG nd es u):((overL nd es u v).length:Int)=ovrS nd.toNat (adjE nd es) u.toNat v.toNat:=by
 have M:=over_sum hG hu hv Z λ_ _=>1
 have e:∀l:List Pt,(l.map λ_=>(1:Int)).sum=(l.length:Int):=λl=>by
  induction l with
  |nil=>rfl
  |cons x l ih=>rw [List.map_cons,sum_cons,ih,List.length_cons];omega
 rw [e] at M
 rw [M]
 unfold ovrS ind
 rfl
theorem mem_over(M:GrOk nd es){p:Pt}(h:p∈overL nd es u v):NodeR nd p.u/\NodeR nd p.v:=by
 unfold overL at h
 obtain ⟨a,ha,Z⟩:=List.mem_flatMap.1 h
 unfold overR at Z
 split at Z
 ·cases Z
 obtain ⟨b,hb,rfl⟩:=List.mem_map.1 Z
 exact ⟨(nbe_rng M ha).2.1,(nbe_rng M (mem_filter.1 hb).1).2.1⟩
theorem over_occ(M:GrOk nd es)(hu:NodeR nd u)(hv:NodeR nd v)(Z:v∉nbG nd es u)(w:Nat) :
  ((overL nd es u v).map λp=>(((ind (decide<|u=(w:Int))+ind (decide<|v=(w:Int)))+ind (decide<|p.u=(w:Int)))+ind (decide<|p.v=(w:Int)))).sum=occ nd.toNat (adjE nd es) u.toNat v.toNat w:=by
 have h1:=over_sum M hu hv Z λa b=>(((ind (decide<|u.toNat=w)+ind (decide<|v.toNat=w))+ind (decide<|a=w))+ind (decide<|b=w))
 unfold occ
 rw [←h1]
 congr 1
 unfold NodeR at hu hv
 refine List.map_congr_left λp hp=>?_
 have hr:=mem_over M hp
 unfold NodeR at hr
 have e1:decide (u=(w:Int))=decide (u.toNat=w):=by rw [decide_eq_decide];omega
 have e2:decide (v=(w:Int))=decide (v.toNat=w):=by rw [decide_eq_decide];omega
 have e3:decide (p.u=(w:Int))=decide (p.u.toNat=w):=by rw [decide_eq_decide];omega
 have e4:decide (p.v=(w:Int))=decide (p.v.toNat=w):=by rw [decide_eq_decide];omega
 rw [e1,e2,e3,e4]
def quadW(nd:Int)(es:List Pt)(w:Nat):Int:=quadN nd.toNat (adjE nd es) w
def quadC(nd:Int)(es:List Pt):Int:=quadS nd.toNat (adjE nd es)
def wedgeC(nd:Int)(es:List Pt):Int:=sumN nd.toNat λw=>prs ((nbG nd es (w:Int)).length:Int)
theorem deg_len(Z:GrOk nd es)(x:Nat):degN nd.toNat (adjE nd es) x=((nbG nd es (x:Int)).length:Int):=by
 rw [len_list (nb_nodup nd es (x:Int)) (nb_lt Z)];rfl
theorem OneE.quad(h:OneE nd es es' u v):quadC nd es'=quadC nd es+((overL nd es u v).length:Int)/\(∀w:Nat,w<nd.toNat->quadW nd es' w=quadW nd es w+((overL nd es u v).map λp=>(((ind (decide (u=(w:Int)))+ind (decide (v=(w:Int))))+ind (decide (p.u=(w:Int))))+ind (decide (p.v=(w:Int))))).sum)/\
  wedgeC nd es'=wedgeC nd es+(((nbG nd es u).length:Int)+((nbG nd es v).length:Int)):=by
 have Z:=h.ends
 unfold endsP at Z
 have hu:NodeR nd u:=⟨Z.1,Z.2.2.1⟩
 have hv:NodeR nd v:=⟨Z.2.1,Z.2.2.2.1⟩
 refine ⟨?_,λw M=>?_,?_⟩
 ·unfold quadC
  rw [h.adj.all,over_len h.ok hu hv h.nuv.1]
 ·unfold quadW
  rw [h.adj.quad M,over_occ h.ok hu hv h.nuv.1]
 have h1:=h.adj.wedges
 have e1:∀{es:List Pt},GrOk nd es->wedgeC nd es=sumN nd.toNat λw=>prs (degN nd.toNat (adjE nd es) w):=λhG=>by
  unfold wedgeC;exact C6 _ λw _=>by rw [deg_len hG]
 rw [e1 h.ok',e1 h.ok,h1,deg_len h.ok,deg_len h.ok,Int.toNat_of_nonneg hu.1,Int.toNat_of_nonneg hv.1]
theorem quad_sum(Z:GrOk nd es):sumN nd.toNat (quadW nd es)=4*quadC nd es:=quad_four (adjE_ok Z)
end
section
variable {nd:Int}{es:List Pt}
theorem coreN_lenG(Z:GrOk nd es):((coreN nd es).length:Int)=nd:=by
 have hr:=Z.rng
 have M:=Z.rows.len
 unfold coreN
 rw [if_neg (by rw [checkG_ok.2 Z];decide),coreL_len];omega
end
end Go.Sl
namespace Go.Sl
end Go.Sl
namespace Go.Sl
open Go.Proofs
set_option maxRecDepth 4000
variable{b' by' x:Int}{ls xs:List Int}{j w:Nat}{va:Value}{a b:BitVec 64}
section
variable {nd lv:Int}{es:List Pt}{l m:List Int}
theorem trussG_E(Z:GrOk nd es):TrussE (trisE nd es) (trussG nd es) (trussO (trisE nd es)):=by
 unfold trussG
 rw [if_neg (by rw [checkG_ok.2 Z];decide)]
 exact trussE (triG Z)<|tris_ok Z
theorem trussG_lenE(Z:GrOk nd es):(trussG nd es).length=es.length:=by
 rw [(trussG_E Z).nlen];exact length_map ..
theorem trussG_pos(Z:GrOk nd es){u:Int}(M:0<=u)(h1:u<(trussG nd es).length):0<=e_ (trussG nd es) u/\e_ (trussG nd es) u<=nd - 1:=by
 have hl:=trussG_lenE Z
 have he:=Z.edge (e_ es u) (B7 om om)
 exact trussG_bd Z om _<|B7 M h1
end
def incL(by':Int)(xs:List Int)(w:Int):List Int:=List.set xs w.toNat (e_ xs w+by')
theorem incs_len:∀(ls xs:List Int),(ls.foldl (incL by') xs).length=xs.length
 |[],xs=>rfl
 |w::ls,xs=>by rw [List.foldl_cons,incs_len];unfold incL;rw [length_set]
theorem inc_at{w:Int}(Z:0<=w/\w<xs.length)(M:0<=x):e_ (incL by' xs w) x=e_ xs x+by'*ind (decide (w=x)):=by
 unfold incL
 rw [En xs w x _ Z.1 M Z.2,ind_d]
 by_cases h:w=x
 ·subst h;rw [if_pos rfl,if_pos rfl,Int.mul_one]
 rw [if_neg h,if_neg h,Int.mul_zero,Int.add_zero]
theorem incs_at:∀(ls xs:List Int),(∀w∈ls,0<=w/\w<xs.length)->∀x:Int,0<=x->e_ (ls.foldl (incL by') xs) x=e_ xs x+by'*(ls.map λw=>ind (decide (w=x))).sum
 |[],xs,_,x,_=>by rw [List.foldl_nil,List.map_nil,List.sum_nil,Int.mul_zero,Int.add_zero]
 |w::ls,xs,h,x,h0=>by
  have M:(incL by' xs w).length=xs.length:=by unfold incL;rw [length_set]
  rw [List.foldl_cons,incs_at ls _ (λy Z=>by rw [M];exact h y<|List.mem_cons_of_mem _ Z) x h0,inc_at (h w List.mem_cons_self) h0,List.map_cons,sum_cons,Int.mul_add,Int.add_assoc]
theorem sum_ind_nodup:∀{ls:List Int},ls.Nodup->∀x:Int,(ls.map λw=>ind (decide (w=x))).sum=if x∈ls then 1 else 0
 |[],_,x=>by rw [if_neg (by simp)];rfl
 |w::ls,h,x=>by
  obtain ⟨M,Z⟩:=List.nodup_cons.1 h
  rw [List.map_cons,sum_cons,sum_ind_nodup Z,ind_d]
  by_cases e:w=x
  ·subst e;rw [if_pos rfl,if_neg M,if_pos List.mem_cons_self];rfl
  rw [if_neg e,Int.zero_add]
  by_cases hm:x∈ls
  ·rw [if_pos hm,if_pos<|List.mem_cons_of_mem _ hm]
  rw [if_neg hm,if_neg<|λq=>(List.mem_cons.1 q).elim (λq=>e q.symm) hm]
section
variable {nd:Int}{es es':List Pt}{u v:Int}
theorem coreN_ext(Z:GrOk nd es){l:List Int}(M:(l.length:Int)=nd)(h:∀x,NodeR nd x->e_ l x=e_ (coreN nd es) x):l=coreN nd es:=by
 have h1:=coreN_lenG Z
 exact Fd om λi hi=>h _ ⟨by omega,by omega⟩
def triL(nd:Int)(es:List Pt):List Int:=(List.range nd.toNat).map λw:Nat=>triW nd es (w:Int)
def quadL(nd:Int)(es:List Pt):List Int:=(List.range nd.toNat).map λw:Nat=>quadW nd es w
theorem triL_len(nd:Int)(es:List Pt):(triL nd es).length=nd.toNat:=by unfold triL;rw [length_map,List.length_range]
theorem quadL_len(nd:Int)(es:List Pt):(quadL nd es).length=nd.toNat:=by unfold quadL;rw [length_map,List.length_range]
theorem triL_at(h:w<nd.toNat):e_ (triL nd es) w=triW nd es (w:Int):=by
 rw [C7 _ w (by rw [triL_len];exact h)];unfold triL;rw [List.getElem_map,List.getElem_range]
theorem quadL_at(h:w<nd.toNat):e_ (quadL nd es) w=quadW nd es w:=by
 rw [C7 _ w (by rw [quadL_len];exact h)];unfold quadL;rw [List.getElem_map,List.getElem_range]
theorem OneE.common(h:OneE nd es es' u v):commonG nd es' u v=commonG nd es u v:=by
 have M:=h.ends
 unfold endsP at M
 have Z:u≠v:=M.2.2.2.2
 unfold commonG
 rw [if_neg Z,if_neg Z]
 refine intLin.uniq ((ofL_asc _).sublist List.filter_sublist) ((ofL_asc _).sublist List.filter_sublist) λw=>?_
 rw [mem_meetL,mem_meetL,h.nb,h.nb]
 constructor
 ·rintro ⟨a|⟨_,a⟩|⟨a,_⟩,b|⟨b,_⟩|⟨_,b⟩⟩
  ·exact ⟨a,b⟩
  ·exact absurd b.symm Z
  ·exact absurd (b▸a)<|λq=>(nbe_rng h.ok q).2.2 rfl
  ·exact absurd (a▸b)<|λq=>(nbe_rng h.ok q).2.2 rfl
  ·exact absurd b.symm Z
  ·omega
  ·exact absurd a Z
  ·exact absurd a Z
  exact absurd a Z
 rintro ⟨a,b⟩;exact ⟨.inl a,.inl b⟩
def triU(by':Int)(T:List Int)(u v:Int)(xs:List Int):List Int:=incL (by'*(T.length:Int)) (incL (by'*(T.length:Int)) (T.foldl (incL by') xs) u) v
theorem triU_at{T:List Int}(hn:T.Nodup)(hT:∀w∈T,0<=w/\w<xs.length)(hu:0<=u/\u<xs.length)(hv:0<=v/\v<xs.length)(M:0<=x) :
  e_ (triU by' T u v xs) x=e_ xs x+by'*((if x∈T then 1 else 0)+((if x=u then (T.length:Int) else 0)+if x=v then (T.length:Int) else 0)):=by
 unfold triU
 have hl:=incs_len (by':=by') T xs
 have Z:(incL (by'*(T.length:Int)) (T.foldl (incL by') xs) u).length=xs.length:=by unfold incL;rw [length_set];exact hl
 rw [inc_at (by rw [Z];exact hv) M,inc_at (by rw [hl];exact hu) M,incs_at T xs hT x M,sum_ind_nodup hn,ind_d,ind_d,Int.mul_add,Int.mul_add]
 by_cases q1:x=u<;>by_cases q2:x=v
 ·rw [if_pos q1.symm,if_pos q2.symm,if_pos q1,if_pos q2,Int.mul_one];omega
 ·rw [if_pos q1.symm,if_neg<|Ne.symm q2,if_pos q1,if_neg q2,Int.mul_one,Int.mul_zero,Int.mul_zero];omega
 ·rw [if_neg (Ne.symm q1),if_pos q2.symm,if_neg q1,if_pos q2,Int.mul_one,Int.mul_zero,Int.mul_zero];omega
 rw [if_neg (Ne.symm q1),if_neg<|Ne.symm q2,if_neg q1,if_neg q2,Int.mul_zero,Int.mul_zero];omega
theorem triU_len(by':Int)(T:List Int)(u v:Int)(xs:List Int):(triU by' T u v xs).length=xs.length:=by unfold triU incL;rw [length_set,length_set];exact incs_len _ _
theorem OneE.tri_comes(h:OneE nd es es' u v):triU 1 (commonG nd es u v) u v (triL nd es)=triL nd es'/\triU (-1) (commonG nd es u v) u v (triL nd es')=triL nd es:=by
 have he:=h.ends
 unfold endsP at he
 have Z:u≠v:=he.2.2.2.2
 have M:∀(fs:List Pt),∀w∈commonG nd es u v,0<=w/\w<(triL nd fs).length:=λfs w hw=>by
  have:=(nbe_rng h.ok ((mem_common2 h.ok Z).1 hw).1).2.1
  rw [triL_len];omega
 have h2:=h.tri.2
 constructor
 ·refine Fd (by rw [triU_len,triL_len,triL_len]) λi hi=>?_
  rw [triU_len,triL_len] at hi
  rw [triU_at (common_nodup nd es u v) (M es) (by rw [triL_len];omega) (by rw [triL_len];omega) om,triL_at hi,triL_at hi,h2 i];omega
 refine Fd (by rw [triU_len,triL_len,triL_len]) λi hi=>?_
 rw [triU_len,triL_len] at hi
 rw [triU_at (common_nodup nd es u v) (M es') (by rw [triL_len];omega) (by rw [triL_len];omega) om,triL_at hi,triL_at hi,h2 i];omega
def fourL(u v:Int)(p:Pt):List Int:=[u,v,p.u,p.v]
def quadU(by':Int)(O:List Pt)(u v:Int)(xs:List Int):List Int:=(O.flatMap (fourL u v)).foldl (incL by') xs
theorem quadU_at(hG:GrOk nd es)(hu:NodeR nd u)(hv:NodeR nd v)(hl:xs.length=nd.toNat)(h0:0<=x) :
  e_ (quadU by' (overL nd es u v) u v xs) x=e_ xs x+by'*((overL nd es u v).map λp=>(((ind (decide<|u=x)+ind (decide<|v=x))+ind (decide<|p.u=x))+ind (decide<|p.v=x))).sum:=by
 unfold quadU
 unfold NodeR at hu hv
 rw [incs_at _ xs (λw Z=>by
  obtain ⟨p,M,Z⟩:=List.mem_flatMap.1 Z
  have hr:=mem_over hG M
  unfold NodeR at hr
  unfold fourL at Z
  simp only [List.mem_cons,List.not_mem_nil,or_false] at Z
  rcases Z with rfl|rfl|rfl|rfl<;>omega) x h0,sum_flat2]
 congr 3
 refine List.map_congr_left λp _=>?_
 show ind _+(ind _+(ind _+(ind _+0)))=_
 omega
theorem quadU_len(by':Int)(O:List Pt)(u v:Int)(xs:List Int):(quadU by' O u v xs).length=xs.length:=incs_len _ _
theorem OneE.quad_comes(h:OneE nd es es' u v):quadU 1 (overL nd es u v) u v (quadL nd es)=quadL nd es'/\quadU (-1) (overL nd es u v) u v (quadL nd es')=quadL nd es:=by
 have Z:=h.ends
 unfold endsP at Z
 have hu:NodeR nd u:=⟨Z.1,Z.2.2.1⟩
 have hv:NodeR nd v:=⟨Z.2.1,Z.2.2.2.1⟩
 have M:=h.quad.2.1
 constructor
 ·refine Fd (by rw [quadU_len,quadL_len,quadL_len]) λi hi=>?_
  rw [quadU_len,quadL_len] at hi
  rw [quadU_at h.ok hu hv (quadL_len _ _) om,quadL_at hi,quadL_at hi,M i hi];omega
 refine Fd (by rw [quadU_len,quadL_len,quadL_len]) λi hi=>?_
 rw [quadU_len,quadL_len] at hi
 rw [quadU_at h.ok hu hv (quadL_len _ _) om,quadL_at hi,quadL_at hi,M i hi];omega
structure TrB (nd:Int) (es':List Pt) (b:List Int):Prop where
 len:b.length=es'.length
 low:∀i:Int,0<=i->i<es'.length->0<=e_ (trussG nd es') i/\e_ (trussG nd es') i<=e_ b i
theorem truss_pos(Z:GrOk nd es){i:Int}(M:0<=i)(h1:i<es.length):0<=e_ (trussG nd es) i:=(trussG_pos Z M (by rw [trussG_lenE Z];exact h1)).1
end
variable {κ:Ctx}{I:List Item}
theorem mem_orBit{m:BitVec 64}{k u:Int}(h:0<=k/\k<64):u∈eo (m ||| bitB k)↔u∈eo m\/u=k:=by rw [bit_sh h.1 h.2];exact mem_orbit h.1 h.2
theorem lev_yes{P:Int->Prop}{m:BitVec 64}{k:Nat}(hm:∀x,x∈eo m↔(0<=x/\x<(k:Int))/\P x)(hk:k<64)(h:P (k:Int)):∀x,x∈eo (m ||| bitB (k:Int))↔(0<=x/\x<((k+1:Nat):Int))/\P x:=λx=>by
 rw [mem_orBit om,hm]
 constructor
 ·rintro (⟨M,Z⟩|rfl)
  ·exact ⟨by omega,Z⟩
  exact ⟨by omega,h⟩
 rintro ⟨M,Z⟩
 by_cases e:x=(k:Int)
 ·exact .inr e
 exact .inl ⟨by omega,Z⟩
theorem lev_no{P:Int->Prop}{m:BitVec 64}{k:Nat}(hm:∀x,x∈eo m↔(0<=x/\x<(k:Int))/\P x)(h:¬P (k:Int)):∀x,x∈eo m↔(0<=x/\x<((k+1:Nat):Int))/\P x:=λx=>by
 rw [hm]
 constructor
 ·rintro ⟨M,Z⟩;exact ⟨by omega,Z⟩
 rintro ⟨M,Z⟩
 refine ⟨⟨M.1,?_⟩,Z⟩
 by_cases e:x=(k:Int)
 ·subst e;exact absurd Z h
 omega
theorem Level_ok{num:List Int}{lv:Int}(hl:Sl κ I va num)(ab:num.length<=64):eu Tryz.prog κ 275 [va,e7 lv] I (λr J=>∃m:BitVec 64,r=U64 m/\(∀x,x∈eo m↔(0<=x/\x<(num.length:Int))/\e_ num x=lv)/\I=J):=by
 refine Ce2 Tryz.func275 C C ?_
 refine Ad<|Ga C<|Ac<|Ad<|Ga C<|Ac<|Ar<|Ad<|Gm C<|Gr (Bw (α:=Int) (xs:=num) Af C<|A8 hl)<|Gm C<|Ac<|A5<|B1 (σ:=Nat×(BitVec 64)) (λs=>([(1,e7 lv),(5,U64<|s.2),(8,va),(9,e7 ((num.length:Nat):Int)),(10,e7 ((s.1:Nat):Int))]:Env)) (λs=>I) (λs=>(s.1<=num.length)/\(∀x,x∈eo s.2↔(0<=x/\x<((s.1:Nat):Int))/\e_ num x=lv)) (λs=>num.length - s.1) (0,0#64) ⟨om,(λx=>by rw [Ea];exact ⟨(λh=>by cases h),(λh=>by omega)⟩)⟩ (Aa C<|Aa (C8 C<|by first|rfl|simp)<|cx2<|Aa Cd Bp) (show Fit κ _ I from Bg) ?_
 rintro ⟨k,m⟩ hp
 dsimp only at hp ⊢
 obtain ⟨hk,M⟩:=hp
 refine Ad<|Gr (A9 C C)<|Ac<|Ar<|A7 C (λc11=>?_)<|λc11=>?_
 ·refine Aw (Ah<|Ar<|A5<|Ad<|Gm C<|Gr (A3 (α:=Int) (xs:=num) Af ef C C (A8 hl) om om)<|Gr (Bx (xs:=num) ef C (A8 hl) om om)<|Ga C<|Ga C<|Ac<|Ad<|Gm C<|Gm C<|Gr (Br C C)<|Ac<|Ap (S7 17 6 1 5 8 9 10)<|A7 C (λZ=>?_)<|λZ=>?_)
  ·refine Ay (Gm C<|Gm C<|G.e (Aj c_ C C<|Bit_ok (k:Int)) ?_)
   rintro _ _ ⟨_,_,⟨rfl,rfl⟩,rfl,rfl⟩
   exact Gr (Ei (a:=m) (b:=bitB (k:Int)) C C)<|Ga C<|Bj<|Am<|Ah<|Ay<|Gr (Rad C C)<|Gm C<|Bj<|Cb ((k+1),(m ||| (bitB (k:Int))))<|by dsimp only;exact ⟨om,(by first|exact lev_yes (P:=(λx:Int=>e_ num x=lv)) M om Z|exact lev_no (P:=(λx:Int=>e_ num x=lv)) M Z)⟩
  exact Aw<|Am<|Ah<|Ay<|Gr (Rad C C)<|Gm C<|Bj<|Cb ((k+1),(m))<|by dsimp only;exact ⟨om,(by first|exact lev_yes (P:=(λx:Int=>e_ num x=lv)) M om Z|exact lev_no (P:=(λx:Int=>e_ num x=lv)) M Z)⟩
 refine Bt<|Aq<|Aq<|Bb<|Ah<|Ad<|Gm C<|Ga C<|Ac<|Az ?_
 have aa:k=num.length:=by omega
 exact A1 C C I Ax ⟨m,rfl,by rw [←aa];exact M,rfl⟩
theorem Above_ok{num:List Int}{lv:Int}(hl:Sl κ I va num)(ab:num.length<=64):eu Tryz.prog κ 273 [va,e7 lv] I (λr J=>∃m:BitVec 64,r=U64 m/\(∀x,x∈eo m↔(0<=x/\x<(num.length:Int))/\lv<e_ num x)/\I=J):=by
 refine Ce2 Tryz.func273 C C ?_
 refine Ad<|Ga C<|Ac<|Ad<|Ga C<|Ac<|Ar<|Ad<|Gm C<|Gr (Bw (α:=Int) (xs:=num) Af C<|A8 hl)<|Gm C<|Ac<|A5<|B1 (σ:=Nat×(BitVec 64)) (λs=>([(1,e7 lv),(5,U64<|s.2),(8,va),(9,e7 ((num.length:Nat):Int)),(10,e7 ((s.1:Nat):Int))]:Env)) (λs=>I) (λs=>(s.1<=num.length)/\(∀x,x∈eo s.2↔(0<=x/\x<((s.1:Nat):Int))/\lv<e_ num x)) (λs=>num.length - s.1) (0,0#64) ⟨om,(λx=>by rw [Ea];exact ⟨(λh=>by cases h),(λh=>by omega)⟩)⟩ (Aa C<|Aa (C8 C<|by first|rfl|simp)<|cx2<|Aa Cd Bp) (show Fit κ _ I from Bg) ?_
 rintro ⟨k,m⟩ hp
 dsimp only at hp ⊢
 obtain ⟨hk,M⟩:=hp
 refine Ad<|Gr (A9 C C)<|Ac<|Ar<|A7 C (λc11=>?_)<|λc11=>?_
 ·refine Aw (Ah<|Ar<|A5<|Ad<|Gm C<|Gr (A3 (α:=Int) (xs:=num) Af ef C C (A8 hl) om om)<|Gr (Bx (xs:=num) ef C (A8 hl) om om)<|Ga C<|Ga C<|Ac<|Ad<|Gm C<|Gm C<|Gr (B2 C C)<|Ac<|Ap (S7 17 6 1 5 8 9 10)<|A7 C (λZ=>?_)<|λZ=>?_)
  ·refine Ay (Gm C<|Gm C<|G.e (Aj c_ C C<|Bit_ok (k:Int)) ?_)
   rintro _ _ ⟨_,_,⟨rfl,rfl⟩,rfl,rfl⟩
   exact Gr (Ei (a:=m) (b:=bitB (k:Int)) C C)<|Ga C<|Bj<|Am<|Ah<|Ay<|Gr (Rad C C)<|Gm C<|Bj<|Cb ((k+1),(m ||| (bitB (k:Int))))<|by dsimp only;exact ⟨om,(by first|exact lev_yes (P:=(λx:Int=>lv<e_ num x)) M om Z|exact lev_no (P:=(λx:Int=>lv<e_ num x)) M Z)⟩
  exact Aw<|Am<|Ah<|Ay<|Gr (Rad C C)<|Gm C<|Bj<|Cb ((k+1),(m))<|by dsimp only;exact ⟨om,(by first|exact lev_yes (P:=(λx:Int=>lv<e_ num x)) M om Z|exact lev_no (P:=(λx:Int=>lv<e_ num x)) M Z)⟩
 refine Bt<|Aq<|Aq<|Bb<|Ah<|Ad<|Gm C<|Ga C<|Ac<|Az ?_
 have aa:k=num.length:=by omega
 exact A1 C C I Ax ⟨m,rfl,by rw [←aa];exact M,rfl⟩
theorem mem_andNot{u:Int}:u∈eo (a &&& ~~~b)↔u∈eo a/\u∉eo b:=by
 constructor
 ·intro h
  have hu:=Ey h
  rw [D5,BitVec.getLsbD_and,BitVec.getLsbD_not,Bool.and_eq_true] at h
  rw [D5,D5]
  refine ⟨⟨h.1,h.2.1⟩,λM=>?_⟩
  rw [M.2] at h;simp at h
 rintro ⟨Z,h2⟩
 have hu:=Ey Z
 rw [D5] at Z h2
 rw [D5,BitVec.getLsbD_and,BitVec.getLsbD_not,Bool.and_eq_true]
 refine ⟨Z.1,Z.2,?_⟩
 have M:b.getLsbD u.toNat=false:=by cases e:b.getLsbD u.toNat with |false=>rfl|true=>exact absurd ⟨Z.1,e⟩ h2
 rw [M];simp;omega
theorem less_andNot(h:∃u,u∈eo a/\u∈eo b):(eo (a &&& ~~~b)).length<(eo a).length:=by
 obtain ⟨u,h1,M⟩:=h
 have Z:∀x∈u::eo (a &&& ~~~b),x∈eo a:=λx hx=>by
  rcases List.mem_cons.1 hx with rfl|hx
  ·exact h1
  exact (mem_andNot.1 hx).1
 have:=List.Nodup.length_le_of_subset (List.nodup_cons.2 ⟨λhx=>(mem_andNot.1 hx).2 M,Dp _⟩) Z
 simp at this;omega
structure SetI (rows:List (BitVec 64)) (F A:BitVec 64) (k:Int) (S:BitVec 64):Prop where
 sub:∀x∈eo S,x∈eo F
 most:∀T:BitVec 64,(∀x∈eo T,x∈eo F)->(∀x∈eo T,k<=((degB rows (T ||| A) x:Nat):Int))->∀x∈eo T,x∈eo S
def BadI(rows:List (BitVec 64))(A:BitVec 64)(k:Int)(S bad:BitVec 64)(j:Nat):Prop:=∀x,x∈eo bad↔x∈(eo S).take j/\((degB rows (S ||| A) x:Nat):Int)<k
section
variable {rows:List (BitVec 64)}{F A S bad:BitVec 64}{k:Int}
theorem SetI.start:SetI rows F A k F:=⟨λx Z=>Z,λT h _=>h⟩
theorem SetI.done(h:SetI rows F A k S)(hb:BadI rows A k S 0#64 (eo S).length):SetR rows F A k S:=by
 refine ⟨h.sub,λx M=>?_,h.most⟩
 have Z:=(hb x).2
 rw [List.take_length,Ea] at Z
 exact Classical.byContradiction λhn=>absurd (Z ⟨M,by omega⟩)<|by simp
theorem SetI.step(h:SetI rows F A k S)(hb:BadI rows A k S bad (eo S).length):SetI rows F A k (S &&& ~~~bad):=by
 refine ⟨λx M=>h.sub x (mem_andNot.1 M).1,λT h1 h2 x M=>mem_andNot.2 ⟨h.most T h1 h2 x M,λaa=>?_⟩⟩
 have h3:=((hb x).1 aa).2
 have h4:=h2 x M
 have h5:=degB_mono (rows:=rows) (W:=T ||| A) (L:=S ||| A) (λy Z=>by
  rw [mem_orB2] at Z ⊢
  exact Z.imp (λZ=>h.most T h1 h2 y Z) id) x
 omega
theorem SetI.less(M:BadI rows A k S bad (eo S).length)(Z:¬bad=0#64):(eo (S &&& ~~~bad)).length<(eo S).length:=by
 obtain ⟨u,hu⟩:=nz_listB.1 Z
 exact less_andNot ⟨u,List.mem_of_mem_take ((M u).1 hu).1,hu⟩
theorem BadI.start:BadI rows A k S 0#64 0:=λx=>by rw [Ea,List.take_zero];exact ⟨(λh=>by cases h),(λh=>by cases h.1)⟩
theorem deg_ones(v:Int)(W:BitVec 64):onesB (e_ rows v &&& W)=((degB rows W v:Nat):Int):=ones_pop _
theorem BadI.yes(h:BadI rows A k S bad j)(hj:j<(eo S).length)(M:onesB (e_ rows (e_ (eo S) j) &&& (S ||| A))<k):BadI rows A k S (bad ||| bitB (e_ (eo S) j)) (j+1):=λx=>by
 have hr:=Ey (B7 (xs:=eo S) (i:=(j:Int)) om om)
 rw [deg_ones] at M
 rw [mem_orBit hr,h x,Cj _ j hj,List.mem_append,List.mem_singleton]
 constructor
 ·rintro (⟨h1,Z⟩|rfl)
  ·exact ⟨.inl h1,Z⟩
  exact ⟨.inr rfl,M⟩
 rintro ⟨h1|h1,Z⟩
 ·exact .inl ⟨h1,Z⟩
 exact .inr h1
theorem BadI.no(h:BadI rows A k S bad j)(hj:j<(eo S).length)(M:¬onesB (e_ rows (e_ (eo S) j) &&& (S ||| A))<k):BadI rows A k S bad (j+1):=λx=>by
 rw [deg_ones] at M
 rw [h x,Cj _ j hj,List.mem_append,List.mem_singleton]
 constructor
 ·rintro ⟨h1,Z⟩;exact ⟨.inl h1,Z⟩
 rintro ⟨h1|h1,Z⟩
 ·exact ⟨h1,Z⟩
 subst h1;exact absurd Z M
end
theorem Settle_ok{κ:Ctx}{I:List Item}{rows:List (BitVec 64)}{F A:BitVec 64}{k:Int}(hl:Sl κ I va rows)(an:rows.length<=64)(hF:∀x∈eo F,0<=x/\x<(rows.length:Int))(hT:TabRd κ I 0 tzCells):eu Tryz.prog κ 272 [va,U64 F,U64 A,e7 k] I (λr J=>∃S:BitVec 64,r=U64 S/\SetR rows F A k S/\I=J):=by
 refine Ce4 Tryz.func272 C C ?_
 refine Ad<|Ga C<|Ac<|A5<|B1 (σ:=(BitVec 64)) (λs=>([(0,va),(1,U64 s),(2,U64 A),(3,e7 k)]:Env)) (λs=>I) (λs=>(SetI rows F A k s)) (λs=>(eo s).length) F SetI.start (Aa C<|Aa (C8 C<|by first|rfl|simp)<|Aa C<|Aa C Bp) (show Fit κ _ I from Bg) ?_
 rintro S hp
 have hS:=hp
 have ah:=fun (x:Int) hx=>hF x (hS.sub x hx)
 have ao:=Ex S
 refine A5<|Ad<|Ga C<|Ac<|Ar<|Ad<|Gm C<|Gc2 (Aj c_ C C<|MList_ok S<|Bn hT Ax) λad ab=>?_
 refine Gr (Bk Af C)<|Gm C<|Ac<|A5<|B1 (σ:=Nat×(BitVec 64)) (λs=>([(0,va),(1,U64 S),(2,U64 A),(3,e7 k),(9,U64<|s.2),(13,.slice ad (eo S).length ab),(14,e7<|(((eo S).length:Nat):Int)),(15,e7 ((s.1:Nat):Int))]:Env)) (λs=>vk 3 ad ab (eo S)::I) (λs=>(s.1<=(eo S).length)/\(BadI rows A k S s.2 s.1)) (λs=>(eo S).length - s.1) (0,0#64) ⟨om,BadI.start⟩ (cx4<|Aa (C8 C<|by first|rfl|simp)<|cx2<|Aa Cd Bp) Bg ?_
 rintro ⟨j,bad⟩ hp
 dsimp only at hp ⊢
 obtain ⟨hj,hb⟩:=hp
 have ak:=λh:j<(eo S).length=>ah _ (B7 (xs:=eo S) (i:=(j:Int)) om om)
 refine Ad<|Gr (A9 C C)<|Ac<|Ar<|A7 C (λaj=>?_)<|λaj=>?_
 ·refine Aw (Ah<|Ar<|A5<|Ad<|Gr (A3 (α:=Int) (xs:=eo S) Af ef C C Bi om om)<|Gr (Bx (xs:=eo S) ef C Bi om om)<|Ga C<|Ac<|Ad<|Gm C<|Gm C<|Gr (A3 (α:=(BitVec 64)) (xs:=rows) B8 ty207 C C (A8 hl) om om)<|Gr (B9 (α:=(BitVec 64)) (xs:=rows) (u:=U64 ((e_ rows<|e_ (eo S) j))) ty207 C (A8 hl) om om C)<|Gm C<|Gm C<|Gr (Ei (a:=S) (b:=A) C C)<|Gr (Ek (a:=(e_ rows<|e_ (eo S) j)) (b:=S ||| A) C C)<|Gc0 (Aj c_ C C<|MCount_ok<|(e_ rows<|e_ (eo S) j) &&& (S ||| A)) ?_)
  refine Gm C<|Gr (A9 C C)<|Ac<|Ap (S10 29 11 0 1 2 3 9 13 14 15)<|A7 C (λZ=>?_)<|λZ=>?_
  ·refine Ay (Gm C<|Gm C<|G.e (Aj c_ C C<|Bit_ok<|e_ (eo S) j) ?_)
   rintro _ _ ⟨_,_,⟨rfl,rfl⟩,rfl,rfl⟩
   exact Gr (Ei (a:=bad) (b:=bitB (e_ (eo S) j)) C C)<|Ga C<|Bj<|Am<|Ah<|Ap (S8 9 0 1 2 3 13 14 15)<|Ay<|Gr (Rad C C)<|Gm C<|Bj<|Cb ((j+1),(bad ||| (bitB<|e_ (eo S) j)))<|by dsimp only;exact ⟨om,(by first|exact hb.yes om Z|exact hb.no om Z)⟩
  exact Aw<|Am<|Ah<|Ay<|Gr (Rad C C)<|Gm C<|Bj<|Cb ((j+1),(bad))<|by dsimp only;exact ⟨om,(by first|exact hb.yes om Z|exact hb.no om Z)⟩
 refine Bt<|Aq<|Aq<|Bb<|Ah<|Ar<|Ad<|Gm C ?_
 have ae:j=(eo S).length:=by omega
 have M:=hb
 rw [ae] at M
 refine Gr (Runs.eqB (a:=bad) (b:=0#64) C C)<|Ac<|A7 C (λaa=>?_)<|λaa=>?_
 ·refine Ad (Gm C<|Ga C<|Ac<|Az<|Ao<|Ba<|Ao<|Ba ?_)
  have ai:bad=0#64:=aa
  rw [ai] at M
  exact A1 C C I Ax ⟨S,rfl,hS.done M,rfl⟩
 exact Aw<|Ah<|Ay<|Gm C<|Gm C<|Gr (E2 (a:=S) (b:=bad) C C)<|Ga C<|Bj<|Am<|Cb ((S &&& ~~~bad)) (hS.step M) (hlt:=by (try dsimp only);exact (SetI.less M aa))
theorem inc_fresh{num:List Int}(hn:ls.Nodup)(M:∀w∈ls,0<=w/\w<(num.length:Int)){k:Nat}(Z:k<ls.length):e_ ((ls.take k).foldl (incL b') num) (e_ ls k)=e_ num (e_ ls k):=by
 have h0:=M _ (B7 (xs:=ls) (i:=(k:Int)) om om)
 rw [incs_at _ _ (λw hw=>M w<|List.mem_of_mem_take hw) _ h0.1,sum_ind_nodup<|hn.sublist<|List.take_sublist _ _,if_neg,Int.mul_zero,Int.add_zero]
 intro hm
 obtain ⟨i,hi,e⟩:=List.getElem_of_mem hm
 rw [length_take] at hi
 rw [List.getElem_take,C7 ls k Z] at e
 exact absurd e<|λe=>(List.pairwise_iff_getElem.1<|List.nodup_iff_pairwise_ne.1 hn) i k om Z om e
theorem inc_next{num out:List Int}{k:Nat}(Z:k<ls.length)(ho:out=(ls.take k).foldl (incL b') num):List.set out (e_ ls k).toNat (e_ out (e_ ls k)+b')=(ls.take (k+1)).foldl (incL b') num:=by
 rw [Cj ls k Z,List.foldl_append,←ho];rfl
theorem Moved_ok{κ:Ctx}{I:List Item}{nd nd':Int}{ga na:Option Addr}{gn gc nc:Nat}{num:List Int}{S:BitVec 64}(hl:Sl κ I (.slice na num.length nc) num)(hS:∀x∈eo S,0<=x/\x<(num.length:Int))(ap:∀x∈num,0<=x/\x<=1000)(hb : -1<=b'/\b'<=1)(aq:num.length<=64)(hT:TabRd κ I 0 tzCells):eu Tryz.prog κ 271 [.agg #[e7 nd,va,.slice na num.length nc],.agg #[e7 (nd'),.slice ga gn gc],U64 S,e7 (b')] I (λr J=>∃(a:Option Addr) (c:Nat) (a2:Option Addr) (c2:Nat),r = .tuple #[.agg #[e7 nd',.slice ga gn gc,.slice a num.length c],.slice a2 (eo S).length c2]/\J=vk 3 a2 c2 (eo S)::vc 3 (.slice a num.length c) ((eo S).foldl (incL b') num)::I):=by
 have ar:=Ex S
 refine Ce4 Tryz.func271 C C ?_
 refine Ad<|Ge1 (Bd (cs:=[_,_,_]) C C C) λb1=>Ge1 (Bd (cs:=[_,_]) C C C) λb2=>Ge1 (A4 ty40 C) λb3=>Ga C<|Ac<|Ad<|Gf fld40_1 C<|Gl ty22 ?_
 refine Gc2 (Aj c_ C C<|CloneI (xs:=num) (A8 hl) om) λaa ab=>?_
 refine Ga C<|Ac<|Ar<|Ad<|Gm C<|Gc2 (Aj c_ C C<|MList_ok S<|Bn hT Ax) λae ah=>?_
 refine Gr (Bk Af C)<|Gm C<|Ac<|Ap (S8 19 18 17 10 8 5 2 3)<|A5<|B1 (σ:=Nat×(List Int)) (λs=>([(2,U64 S),(3,e7<|b'),(5,pt b2),(8,pt b3),(10,.slice aa num.length ab),(17,.slice ae (eo S).length ah),(18,e7<|(((eo S).length:Nat):Int)),(19,e7 ((s.1:Nat):Int))]:Env)) (λs=>vk 3 ae ah (eo S)::vc 3 (.slice aa num.length ab) (s.2)::e8 b3 [e7 0,.slice none 0 0,.slice none 0 0] 40::e8 b2 [e7 (nd'),.slice ga gn gc] 38::e8 b1 [e7 nd,va,.slice na num.length nc] 40::I) (λs=>(s.1<=(eo S).length)/\(s.2=((eo S).take s.1).foldl (incL b') num)) (λs=>(eo S).length - s.1) (0,num) ⟨om,rfl⟩ (cx4<|cx2<|Aa C<|Aa Cd Bp) Bg ?_
 rintro ⟨k,out⟩ hp
 dsimp only at hp ⊢
 obtain ⟨hk,ho⟩:=hp
 have au:out.length=num.length:=by rw [ho];exact incs_len _ _
 have Z:=λh:k<(eo S).length=>hS _ (B7 (xs:=(eo S)) (i:=(k:Int)) om om)
 have ad:=λh:k<(eo S).length=>inc_fresh (b':=b') (num:=num) (Dp S) hS h
 rw [←ho] at ad
 have ai:=λh:k<(eo S).length=>ap _ (B7 (xs:=num) (i:=e_ (eo S) k) (Z h).1 (Z h).2)
 refine Ad<|Gr (A9 C C)<|Ac<|Ar<|A7 C (λan=>?_)<|λan=>?_
 ·refine Aw (Ah<|Ar<|A5<|Ad<|Gr (A3 (α:=Int) (xs:=eo S) Af ef C C Bi (by have M:=Z om;omega)<|by first|omega|(have M:=Z om;omega))<|Gr (Bx (xs:=eo S) ef C Bi (by have M:=Z om;omega)<|by first|omega|(have M:=Z om;omega))<|Ga C<|Ac<|Ay<|Gm C<|Gm C<|Gr (A3 (α:=Int) (xs:=out) Af ef C C Bi (by have M:=Z om;omega)<|by first|omega|(have M:=Z om;omega))<|Gr (Bx (xs:=out) ef C Bi (by have M:=Z om;omega)<|by first|omega|(have M:=Z om;omega))<|Gm C<|Gr (Cw C C<|by first|(unfold InR;omega)|(have h7:=ad om;have M:=ai om;unfold InR;omega))<|Gr (A3 (α:=Int) (xs:=out) Af ef C C Bi (by have M:=Z om;omega)<|by first|omega|(have M:=Z om;omega))<|Ge0 (C1 (α:=Int) (xs:=out) (e:=3) (new:=(e_ out<|e_ (eo S) k)+b') ef C C C (by have M:=Z om;omega) (by first|omega|(have M:=Z om;omega)) am) ?_)
  exact Bj<|Am<|Ah<|Ap (S8 2 3 5 8 10 17 18 19)<|Ay<|Gr (Cw C C<|by first|(unfold InR;omega)|(have h7:=ad om;have M:=ai om;unfold InR;omega))<|Gm C<|Bj<|Cb ((k+1),(List.set out (e_ (eo S) k).toNat ((e_ out<|e_ (eo S) k)+b')))<|by dsimp only;exact ⟨om,(inc_next om ho)⟩
 refine Bt<|Aq<|Aq<|Bb<|Ah<|Ar<|Bs mixed<|El 5<|Dr 0 C (Bc (vs:=[_,_]) ty38) ?_
 refine Dr 1 C (Ai C)<|Dr 2 C (Bq (cells:=[_,_,_]) ty40 Dy pl40 C C)<|Ds1 3<|Sr C (Ai C) Ax ?_
 refine Ds1 4<|Sc2 C (Aj c_ C C<|MList_ok S<|Bn hT Ax) λaj ak=>?_
 refine Cs kr ?_
 refine Ae 5 C (Df ty40) ?_
 rintro _ _ ⟨rfl,rfl⟩
 refine Dv (i:=6) kr C (Bm C) C C (Bf C) ?_
 refine Ct kr ?_
 refine Ah<|Ap (S2 9 8)<|Az ?_
 have ao:out=((eo S).foldl (incL b') num):=by rw [ho,show k=(eo S).length by omega,List.take_length]
 have av:=incs_len (by':=b') (eo S) num
 exact C0 C ty40 C C mm C (vk 3 aj ak (eo S)::vc 3 (.slice aa num.length ab) ((eo S).foldl (incL b') num)::I) (by unfold vk;rw [←ao];exact Bl) ⟨aa,ab,aj,ak,rfl,rfl⟩
end Go.Sl
namespace Go.Sl
open Go.RowKit (Below)
variable{x y:Operand}{E T by' c h n:Nat}{ag:Bool}{z:List Value}{ad:Option Addr}{m:Int}
section
variable {P:Program}{κ:Ctx}{N:Frm}{Q:Exit->Act->World->Prop}{L:Env}{I J:List Item}
variable {d:Option Tmp}{ty:TypeId}{ps:String}{af:Array Edge}{gd:Option (Nat×Bool)}
theorem Runs.hi3z{α:Type}[Enc α]{xs:List α}{y':Operand}(ht:P.underlying T=some (.slice E))(hE:tyF P E=some (Enc.sz α,ag,by',z))(hx:er L x=some (.slice ad n c))(hy:er L y=some (e7 m))(Z:er L y'=some (e7 m))(hm:m=(h:Int))
  (hv:Sl κ J (.slice ad n c) xs) (hh:h<=xs.length):Runs P κ N ⟨d,.slice T x none (some y)<|some y',ty,ps,af,gd⟩ L J (.slice ad (xs.take h).length h):=by
 by_cases h1:0<h
 ·exact Runs.hi3 ht hE hx hy Z hm hv hh h1
 obtain rfl:h=0:=by omega
 intro a w ha hs
 subst hm
 obtain ⟨_,_,he,_,h2,_⟩:=hv w hs
 cases he
 have M:(Instr.sliceBounds true xs.length c none (some<|a.eval y)<|some<|a.eval y').run P w = .ok (0,0,0) w:=by
  simp [Instr.sliceBounds,ha.eval hy,ha.eval Z,Instr.sliceBound,asIntOf]
 have e:ad.map (λx=>x.add 0)=ad:=by cases ad<;>simp [Addr.add]
 simp [execOp,Instr.sliceAt,Instr.slice,run_underlying ht,ha.eval hx,M,run_sizeOf hE,e]
theorem Runs.hicap{α:Type}[Enc α]{xs:List α}{M:Operand}(ht:P.underlying T=some (.slice E))(hE:tyF P E=some (Enc.sz α,ag,by',z))(hx:er L x=some (.slice ad n c))(hy:er L y=some (e7 m))(aa:er L M=some (e7 ((c:Nat):Int)))(hm:m=(h:Int))
  (hv:Sl κ J (.slice ad n c) xs) (hh:h<=xs.length) (h1:0<xs.length):Runs P κ N ⟨d,.slice T x none (some y)<|some M,ty,ps,af,gd⟩ L J (.slice ad (xs.take h).length c):=λa w ha hs=>by
 subst hm
 obtain ⟨_,_,he,_,h2,_⟩:=hv w hs
 cases he
 have hc:h<=c:=by omega
 have h3:((h:Int)<=(c:Int)):=by omega
 have Z:(Instr.sliceBounds true xs.length c none (some<|a.eval y)<|some<|a.eval M).run P w = .ok (0,h,c) w:=by
  simp [Instr.sliceBounds,ha.eval hy,ha.eval aa,Instr.sliceBound,asIntOf,hc]
 have ab:¬c=0:=by omega
 have e:ad.map (λx=>x.add 0)=ad:=by cases ad<;>simp [Addr.add]
 simp [execOp,Instr.sliceAt,Instr.slice,run_underlying ht,ha.eval hx,Z,run_sizeOf hE,ab,e,length_take,Nat.min_eq_left hh]
theorem run_make0{P:Program}{w:World}{t e:TypeId}(ht:P.underlying t=some (.slice e)){sz:Nat}(hT:tyF P e=some (sz,ag,by',z))(Z:z.length=sz)(n:Nat)
  (ad:n<=maxLen) (ai:n*by'<=281474976710656) :
  ∃v' w',(Instr.makeSlice t (.int .i64 0)<|.int .i64 n).run P w = .ok v' w'/\vecOk w' e sz v' 0 []/\
   w'.os=w.os/\(w'.tape=w.tape/\w.drawn<=w'.drawn)/\w'.output=w.output/\w.heap.size<=w'.heap.size/\
   (∀k,k<w.heap.size->w'.heap[k]? = w.heap[k]?)/\(∀k,ownFp v' k->(w.heap.size<=k/\k<w'.heap.size)):=by
 obtain ⟨i,zv,d,hi,hz,hd,ab,an,aj,ah⟩:=tyF_spec hT
 have hw:IntKind.i64.wrap (n:Int)=n:=Go.IntWalk.i64_in _ (by simp only [maxLen] at ad;omega)
 have aa:IntKind.i64.wrap (0:Int)=0:=Go.IntWalk.i64_in _ (by omega)
 have h1:¬((n:Int)<0):=by omega
 have h2:¬(281474976710656<(i.bytes:Int)*n):=by
  rw [aj]
  have h:=Int.ofNat_le.2 ai
  rw [Int.natCast_mul,Int.mul_comm] at h
  omega
 have M:(Array.range<|n*sz).map (λj=>zv.cells[j % zv.cells.size]!)=(List.replicate n z).flatten.toArray:=by
  apply Array.ext'
  simp only [Array.toList_map,Array.toList_range]
  rw [ah]
  apply List.ext_getElem?
  intro j
  simp only [List.getElem?_map,List.size_toArray,Z]
  by_cases hj:j<n*sz
  ·have hs:0<sz:=Nat.pos_of_ne_zero λh=>by subst h;simp at hj
   rw [List.getElem?_range hj]
   have ae:j % sz<z.length:=by rw [Z];exact Nat.mod_lt _ hs
   rw [flatten_rep z n j (by rw [Z];exact hs) (by rw [Z];exact hj),Z]
   simp [ae]
  rw [List.getElem?_eq_none (by simpa using hj),List.getElem?_eq_none (by rw [len_rep,Z];omega)]
  rfl
 refine ⟨.slice (some ⟨w.heap.size,0,none⟩) 0 n,w.alloc<|.cells (List.replicate n z).flatten.toArray e,?_,?_,rfl,⟨rfl,Nat.le_refl _⟩,rfl,by simp,λk hk=>Below.heap_alloc w _ k hk,λk hk=>?_⟩
 ·simp only [Instr.makeSlice,Sem.run_bind,run_underlying ht,Result.andThen_ok]
  by_cases hn:n*sz=0
  ·have h0:(List.replicate n z).flatten=[]:=List.eq_nil_of_length_eq_zero (by rw [len_rep,Z];exact hn)
   simp [asInt,asIntOf,typeInfo,hi,hw,aa,h1,h2,ab,sizeOf,hn,newRow,h0,Array.range_zero']
  simp [asInt,asIntOf,typeInfo,hi,hw,aa,h1,h2,ab,sizeOf,hn,newRow,zeroValue,hz,M]
 ·refine ⟨_,n,rfl,by simp,Nat.zero_le _,ad,λ_=>⟨w.heap.size,0,_,rfl,heap_alloc_new w _,by simp [Z],λj u hj=>by simp at hj⟩⟩
 obtain ⟨o,n',c',he,ak⟩:=hk
 cases he
 exact ⟨Nat.le_refl _,by simp⟩
theorem Eff.make0{α:Type}[Enc α]{t e dd:Nat}(ht:P.underlying t=some (.slice e))(hT:tyF P e=some (Enc.sz α,ag,by',z))(ab:z.length=Enc.sz α)(hx:er L x=some (e7 0))(hy:er L y=some (e7 m))(hm:m=(n:Int))
  (ak:n<=1000000) (aa:n*by'<=281474976710656) (hN:Nat.blt dd N.n=true) :
  Eff P κ N Q ⟨some dd,.makeSlice t x y,ty,ps,af,gd⟩ L I λL' I''=>∃ad c,L'=(dd,.slice ad ([]:List α).length c)::L/\I''=vc e (.slice ad ([]:List α).length c) ([]:List α)::I:=
 Eff.of_value rfl hN λa w ha hs=>by
  subst hm
  obtain ⟨v',w',hr,ah,ho,aj,M,ai,hk,hf⟩:=run_make0 (P:=P) (w:=w) ht hT ab n (by simp only [maxLen];omega) aa
  obtain ⟨ad,c,rfl,Z⟩:=ah
  refine ⟨_,w',_,by simp [execOp,ha.eval hx,ha.eval hy,hr],⟨ad,c,rfl,rfl⟩,?_⟩
  refine hs.new (hs.frame ho aj M ai λx hx k ae=>hk k<|(hs.ok x hx).2 k ae) ⟨ad,c,rfl,Z⟩ hf
end
end Go.Sl
namespace Go.Sl
open Go.Proofs
set_option maxRecDepth 4000
variable{a wa:Option Addr}{c k wc:Nat}{l ws:List Ev}{bd m:Int}
variable {κ:Ctx}{I:List Item}
theorem CloneV{xs:List Ev}(hl:Sl κ I (.slice a xs.length c) xs)(hb:xs.length<=1000000000):eu Tryz.prog κ 95 [.slice a xs.length c] I (λr J=>∃a' c',r = .slice a' xs.length c'/\J=vk 54 a' c' xs::I):=by
 refine B5 (p:=a.isNone=true->xs=[]/\c=0) (λw hs hn=>hl.isNone w hs hn) λZ=>?_
 refine Ce1 Tryz.func95 C C ?_
 refine Ad<|Ga C<|Ac<|Ar<|Ad<|Gm C<|Gr (Runs.eqnil Al C C)<|Ac<|D1 C (λc4=>?_)<|λc4=>?_
 ·refine Ad (Ga C<|Ac<|Az<|Ao ?_)
  obtain ⟨ab,_⟩:=Z c4
  subst ab
  exact A1 C C (vk 54 none 0 ([]:List Ev)::I) (Cf _ _) ⟨none,0,rfl,rfl⟩
 refine Aw<|Ah<|Ad<|Ge1 (Eff.bs0 (α:=Ev) Al ty54 C) λad=>?_
 refine Gm C<|Ge2 (B3 (α:=Ev) (e:=54) (xs:=([]:List Ev)) (ys:=xs) Al ty54 C C C mm (A8 hl) (by simp only [List.length_nil];omega) dc C<|λ_ _=>am) λaa M=>?_
 exact Ga C<|Ac<|Az<|A1 C C (vk 54 aa M xs::I) Bg ⟨aa,M,rfl,rfl⟩
theorem asc_tm(h:l.Pairwise λa b=>a.tm<=b.tm){i j:Nat}(M:i<=j)(Z:j<l.length):(e_ l i).tm<=(e_ l j).tm:=by
 by_cases e:i=j
 ·subst e;exact Int.le_refl _
 rw [C7 l i om,C7 l j Z]
 exact (List.pairwise_iff_getElem.1 h) i j om Z om
theorem upTo_take(h:l.Pairwise λa b=>a.tm<=b.tm)(hk:k<=l.length)(M:∀j:Nat,j<k->(e_ l j).tm<=m)(h2:k<l.length->m<(e_ l k).tm):upTo m l=l.take k/\beyond m l=l.drop k:=by
 have e1:∀x∈l.take k,x.tm<=m:=λx Z=>by
  obtain ⟨i,hi,rfl⟩:=List.getElem_of_mem Z
  rw [length_take] at hi
  rw [List.getElem_take,←C7 l i om];exact M i om
 have e2:∀x∈l.drop k,m<x.tm:=λx Z=>by
  obtain ⟨i,hi,rfl⟩:=List.getElem_of_mem Z
  rw [length_drop] at hi
  rw [List.getElem_drop,←C7 l (k+i) om]
  have:=asc_tm h (i:=k) (j:=k+i) om om
  have:=h2 om;omega
 have hs:l=l.take k++l.drop k:=(List.take_append_drop k l).symm
 constructor
 ·unfold upTo
  conv=>lhs;rw [hs]
  rw [List.filter_append,List.filter_eq_self.2 λx Z=>decide_eq_true<|e1 x Z,List.filter_eq_nil_iff.2 λx Z=>by have:=e2 x Z;simp;omega,List.append_nil]
 unfold beyond
 conv=>lhs;rw [hs]
 rw [List.filter_append,List.filter_eq_nil_iff.2 λx Z=>by have:=e1 x Z;simp;omega,List.filter_eq_self.2 λx Z=>by have:=e2 x Z;simp;omega,List.nil_append]
theorem BValid_ok{bf:BfS}(hl:Sl κ I (.slice wa bf.ws.length wc) bf.ws)(Z:BfOk bd bf)(hw:bf.ws.length<=4096):eu Tryz.prog κ 56 [.agg #[e7 bd,e7 (bf.lt),e7 (bf.mr),.slice wa bf.ws.length wc]] I (λr J=>r = .bool true/\I=J):=by
 have an:=Z.bd
 have ap:=Z.lt
 have ao:=Z.mr
 refine Ce1 Tryz.func56 C C ?_
 refine Ad<|Ge1 (Bd (cs:=[_,_,_,_]) C C C) λb1=>Ga C<|Ac<|Ar<|Ad<|Gf fld32_0 C<|Gl ef ?_
 refine Gr (A9 C C)<|Gm C<|Bh (d:=9) C (λg9=>?_)<|λg9=>?_
 ·omega
 refine e9 (Ab fld32_0 C)<|e9 (A0 ef) ?_
 refine e9 (B2 C C)<|Gr (Au C C)<|Gm C<|Bh (d:=14) C (λaj=>?_)<|λaj=>?_
 ·omega
 refine e9 (Ab fld32_2 C)<|e9 (A0 ef) ?_
 refine e9 (A9 C C)<|Gr (Au C C)<|Gm C<|Bh (d:=19) C (λak=>?_)<|λak=>?_
 ·omega
 refine e9 (Ab fld32_2 C)<|e9 (A0 ef) ?_
 refine e9 (Ab fld32_1 C)<|e9 (A0 ef) ?_
 refine e9 (B2 C C)<|Gr (Au C C)<|Gm C<|Bh (d:=26) C (λad=>?_)<|λad=>?_
 ·omega
 refine e9 (Ab fld32_1 C)<|e9 (A0 ef) ?_
 refine e9 (B2 C C)<|Gr (Au C C)<|Gm C<|Bh (d:=31) C (λae=>?_)<|λae=>?_
 ·omega
 refine e9 (Ab fld32_3 C)<|e9 (A0 ty30) ?_
 refine e9 (Bk Al C)<|e9 (B2 C C)<|Gr (Au C C)<|Ac<|Ap (S2 36 1)<|A7 C (λab=>?_)<|λab=>?_
 ·omega
 refine Aw<|Ah<|Ad<|Gf fld32_2 C<|Gl ef ?_
 refine Gr (Rad C C)<|Ga C<|Ac<|Ar<|Ad<|Gf fld32_3 C<|Gl ty30 ?_
 refine Gr (Bk Al C)<|Gm C<|Ac<|A5<|B1 (σ:=Nat×Int) (λs=>([(1,pt b1),(3,e7<|s.2),(41,.slice wa bf.ws.length wc),(42,e7 ((bf.ws.length:Nat):Int)),(43,e7 ((s.1:Nat):Int))]:Env)) (λs=>e8 b1 [e7 bd,e7<|bf.lt,e7<|bf.mr,.slice wa bf.ws.length wc] 32::I) (λs=>(s.1<=bf.ws.length)/\(∀j:Nat,s.1<=j->j<bf.ws.length->s.2<=(e_ bf.ws j).tm)) (λs=>bf.ws.length - s.1) (0,(bf.mr+1)) ⟨om,(λj _ hj=>by have:=(Z.rng _<|B7 (xs:=bf.ws) (i:=(j:Int)) om om).1;omega)⟩ (Aa C<|Aa Cd<|cx2<|Aa Cd Bp) Bg ?_
 rintro ⟨k,z⟩ hp
 dsimp only at hp ⊢
 obtain ⟨hk,hz⟩:=hp
 refine Ad<|Gr (A9 C C)<|Ac<|Ar<|A7 C (λah=>?_)<|λah=>?_
 ·refine Aw (Ah<|Ar<|A5<|Ad<|Gr (A3 (α:=Ev) (xs:=bf.ws) Al ty54 C C (A8 hl) om om)<|Gr (Bv (α:=Ev) (xs:=bf.ws) ty54 C (A8 hl) om om)<|Ge1 (A4 ty54 C) λb2=>Ge0 (E8 ty54) ?_)
  refine Ac<|Ar<|Ad<|Gl7 ty54 ?_
  refine Gc0 (Aj c_ C C<|CheckE_ok<|e_ bf.ws k) ?_
  refine Gr (Be C C)<|Gm C<|Bh (d:=50) C (λM=>?_)<|λM=>?_
  ·exact absurd (Z.chk _<|B7 om om) M
  refine e9 (Ab fld54_1 C)<|e9 (A0 ef) ?_
  refine e9 (Ai C)<|e9 (A9 C C)<|Gr (Au C C)<|Gm C<|Bh (d:=56) C (λai=>?_)<|λai=>?_
  ·exact absurd (hz k (Nat.le_refl _) om) om
  refine e9 (Ab fld54_1 C)<|e9 (A0 ef) ?_
  refine e9 (Ab fld32_1 C)<|e9 (A0 ef) ?_
  refine e9 (B2 C C)<|Gr (Au C C)<|Ac<|Ap (S6 62 5 1 41 42 43)<|A7 C (λaa=>?_)<|λaa=>?_
  ·exact absurd (Z.rng _<|B7 (xs:=bf.ws) (i:=(k:Int)) om om).2 om
  refine Aw<|Ah<|Ay<|Gf fld54_1 C<|Gl ef ?_
  exact Ga C<|Bj<|Am<|Ah<|Ay<|Gr (Rad C C)<|Gm C<|Bj<|Cb ((k+1),((e_ bf.ws k).tm))<|by dsimp only;exact ⟨om,(λj h1 hj=>asc_tm Z.asc om hj)⟩
 exact Bt<|Aq<|Aq<|Bb<|Ah<|Ad<|Ga C<|Ac<|Az<|A1 C C I Ax ⟨rfl,rfl⟩
theorem ifmax(a b:Int):(if a<b then b else a)=max a b:=by split<;>omega
theorem Sl.cast{α:Type}[Enc α]{κ:Ctx}{I:List Item}{xs ys:List α}(h:Sl κ I (.slice a xs.length c) xs)(e:xs=ys):Sl κ I (.slice a ys.length c) ys:=e▸h
theorem Sl.upTo{M:Option Addr}{n:Nat}(hl:Sl κ I (.slice M n wc) ws)(Z:k<=ws.length/\Go.Sl.upTo m ws=ws.take k):Sl κ I (.slice M (Go.Sl.upTo m ws).length k) (Go.Sl.upTo m ws):=by
 rw [Z.2];exact Sl.take3 hl Z.1
theorem ifmin(a b:Int):(if b<a then b else a)=min a b:=by split<;>omega
theorem BRel_ok{lt mr:Int}(Z:Sl κ I (.slice wa ws.length wc) ws)(hA:ws.Pairwise λa b=>a.tm<=b.tm)(hw:ws.length<=5000):eu Tryz.prog κ 96 [.agg #[e7 bd,e7 lt,e7 mr,.slice wa ws.length wc],e7 m] I (λr J=>∃(a:Option Addr) (c k:Nat),r = .tuple #[.agg #[e7 bd,e7 lt,e7 (max mr m),.slice a (beyond m ws).length c],.slice wa (upTo m ws).length k]/\(k<=ws.length/\upTo m ws=ws.take k)/\J=vk 54 a c (beyond m ws)::I):=by
 refine Ce2 Tryz.func96 C C ?_
 refine Ad<|Ge1 (Bd (cs:=[_,_,_,_]) C C C) λb1=>Ge1 (A4 ty32 C) λb2=>Ga C<|Ac<|Ad<|Ga C<|Ac<|Ar<|A5<|B1 (σ:=Nat) (λs=>([(1,e7 m),(2,pt b1),(4,pt b2),(6,e7 ((s:Nat):Int))]:Env)) (λs=>e8 b2 [e7 0,e7 0,e7 0,.slice none 0 0] 32::e8 b1 [e7 bd,e7 lt,e7 mr,.slice wa ws.length wc] 32::I) (λs=>(s<=ws.length)/\(∀j:Nat,j<s->(e_ ws j).tm<=m)) (λs=>ws.length - s) 0 ⟨om,(λj h=>by omega)⟩ (cx2<|Aa C<|Aa Cd Bp) Bg ?_
 rintro k hp
 obtain ⟨hk,hj⟩:=hp
 refine Ar<|Ad<|Gm C<|Gf fld32_3 C<|Gl ty30 ?_
 refine Gr (Bk Al C)<|Gr (A9 C C)<|Gm C<|Bh (d:=13) C (λai=>?_)<|λai=>?_
 ·refine e9 (Ab fld32_3 C) (e9 (A0 ty30) ?_)
  refine e9 (Ai C)<|e9 (A3 (α:=Ev) (xs:=ws) Al ty54 C C (A8 Z) om om)<|e9 (Fg (α:=Ev) (xs:=ws) fld54_1 C (A8 Z) om)<|e9 (E9 (α:=Ev) (xs:=ws) (u:=e7 ((e_ ws k).tm)) ef C (A8 Z) om om C)<|e9 (Ai C)<|e9 (Ej C C)<|Gr (Av C C)<|Ac<|Ap (S5 22 1 2 4 6)<|A7 C (λaa=>?_)<|λaa=>?_
  ·exact Aw<|Ah<|A5<|Ay<|Gm C<|Gr (Rad C C)<|Ga C<|Bj<|Am<|Cb ((k+1)) ⟨om,(λj h=>by by_cases e:j=k;(· subst e;exact aa);(· exact hj j om))⟩
  refine Bt<|Aq<|Aq<|Bb<|Ah<|Ad<|Gf fld32_3 C<|Gl ty30 ?_
  refine Gm C<|Gm C<|Gr (Runs.hi3z (α:=Ev) (xs:=ws) (h:=k) Al ty54 C C C om (A8 Z) om)<|Ga C<|Ac<|Ad<|Gf fld32_3 C<|Gl ty30 ?_
  refine Gm C<|Gr (D0 (α:=Ev) (xs:=ws) (l:=k) Al ty54 C C om (A8 Z) om)<|Gc2 (Aj c_ C C<|CloneV (xs:=List.drop k ws) (E4 (A8 Z) om)<|by simp only [length_drop];omega) λah ab=>?_
  refine Gf fld32_3 C<|Ge0 (B6 (cs:=[_,_,_,_]) (vs:=[_]) (cs':=[_,_,_,_]) ty30) ?_
  refine Ac<|Ap (S4 7 1 2 4)<|Ad<|Gf fld32_2 C<|Gl ef ?_
  refine Gm C<|Gr (Dm C C)<|Gf fld32_2 C<|Ge0 (B6 (cs:=[_,_,_,_]) (vs:=[_]) (cs':=[_,_,_,_]) ef) ?_
  refine Ac<|Ad<|Gl4 ty32 ?_
  refine Gm C<|Ge0 (C5 ty32) ?_
  refine Ga C<|Ac<|Az ?_
  have M:=upTo_take hA hk hj (λh=>by omega)
  exact C0 C ty32 C C mm C (vk 54 ah ab (beyond m ws)::I) (by unfold vk;rw [M.2];exact Bl) ⟨ah,ab,k,by rw [M.1,M.2,←ifmax],⟨hk,M.1⟩,rfl⟩
 refine eb<|eb<|eb<|eb<|eb<|eb<|eb<|eb<|Gr (Au C C)<|Ac<|Ap (S5 22 1 2 4 6)<|Dg C<|Bt<|Aq<|Aq<|Bb<|Ah<|Ad<|Gf fld32_3 C<|Gl ty30 ?_
 refine Gm C<|Gm C<|Gr (Runs.hi3z (α:=Ev) (xs:=ws) (h:=k) Al ty54 C C C om (A8 Z) om)<|Ga C<|Ac<|Ad<|Gf fld32_3 C<|Gl ty30 ?_
 refine Gm C<|Gr (D0 (α:=Ev) (xs:=ws) (l:=k) Al ty54 C C om (A8 Z) om)<|Gc2 (Aj c_ C C<|CloneV (xs:=List.drop k ws) (E4 (A8 Z) om)<|by simp only [length_drop];omega) λad ae=>?_
 refine Gf fld32_3 C<|Ge0 (B6 (cs:=[_,_,_,_]) (vs:=[_]) (cs':=[_,_,_,_]) ty30) ?_
 refine Ac<|Ap (S4 7 1 2 4)<|Ad<|Gf fld32_2 C<|Gl ef ?_
 refine Gm C<|Gr (Dm C C)<|Gf fld32_2 C<|Ge0 (B6 (cs:=[_,_,_,_]) (vs:=[_]) (cs':=[_,_,_,_]) ef) ?_
 refine Ac<|Ad<|Gl4 ty32 ?_
 refine Gm C<|Ge0 (C5 ty32) ?_
 refine Ga C<|Ac<|Az ?_
 have M:=upTo_take hA hk hj (λh=>by omega)
 exact C0 C ty32 C C mm C (vk 54 ad ae (beyond m ws)::I) (by unfold vk;rw [M.2];exact Bl) ⟨ad,ae,k,by rw [M.1,M.2,←ifmax],⟨hk,M.1⟩,rfl⟩
end Go.Sl
