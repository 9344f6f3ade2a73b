/- A part of the proofs of statements of this seat: contracts of functions, and the plain laws that they lean on. No conditions. -/
import Derived.Test.YtnbkccjkdpolmaaGreatDoorR21
set_option linter.unusedVariables false
set_option linter.unusedSimpArgs false
set_option linter.unusedSectionVars false
open List (replicate)
set_option maxHeartbeats 2000000
namespace Go.Sl
open Go.Proofs
set_option maxRecDepth 4000
variable{i:Nat}{l:List Int}
theorem key_inj{l:List (Int×Nat)}(h:(ordL l).Nodup){p q:Int×Nat}(hp:p∈l)(hq:q∈l)(e:p.1=q.1):p=q:=by
 induction l with
 |nil=>cases hp
 |cons x l ih=>
  obtain ⟨h1,h2⟩:=List.nodup_cons.1 (show (x.1::ordL l).Nodup from h)
  rcases List.mem_cons.1 hp with e1|aa<;>rcases List.mem_cons.1 hq with e2|M
  ·rw [e1,e2]
  ·exact absurd (show x.1∈ordL l from List.mem_map.2 ⟨q,M,by rw [←e,e1]⟩) h1
  ·exact absurd (show x.1∈ordL l from List.mem_map.2 ⟨p,aa,by rw [e,e2]⟩) h1
  exact ih h2 aa M
structure CoreE (nd:Int) (es:List Pt) (num ord:List Int):Prop where
 nlen:(num.length:Int)=nd
 olen:(ord.length:Int)=nd
 nodup:ord.Nodup
 rng:∀v∈ord,0<=v/\v<nd
 asc:∀i:Nat,i+1<ord.length->e_ num (e_ ord i)<=e_ num (e_ ord ((i+1:Nat):Int))
 later:∀i:Nat,i<ord.length->((meetL (nbG nd es<|e_ ord i)<|List.drop (i+1) ord).length:Int)<=e_ num (e_ ord i)
 high:∀i:Nat,i<ord.length->e_ num (e_ ord i)<=(((nbG nd es<|e_ ord i).filter λw=>decide<|e_ num (e_ ord i)<=e_ num w).length:Int)
section
variable {nd:Int}{es:List Pt}
theorem coreO_perm(M:GrOk nd es):(coreO nd es).Nodup/\∀v,v∈coreO nd es↔0<=v/\v<nd:=by
 have hl:=M.rows.len
 have hr:=M.rng
 have hS:=rows_sym M
 have hk:=coreR_keys (rows:=ek nd es) (allB ((ek nd es).length:Int)) 0
 refine ⟨hk.1,λv=>?_⟩
 have:=hk.2 v
 rw [mem_allN hS.le] at this
 show v∈ordL (coreR0 nd es)↔_
 unfold coreR0
 rw [this]
 constructor<;>intro h<;>omega
theorem coreO_len(M:GrOk nd es):((coreO nd es).length:Int)=nd:=by
 have hr:=M.rng
 obtain ⟨h1,h2⟩:=coreO_perm M
 have hp:(coreO nd es).Perm (rangeI nd):=(List.perm_ext_iff_of_nodup h1<|(ValidP_iff.1<|range_valid hr).2.imp λh=>by omega).2 λv=>by rw [h2,mem_rangeI];constructor<;>intro h<;>omega
 rw [hp.length_eq]
 unfold rangeI
 rw [List.length_map,List.length_range];omega
theorem coreO_at(hG:GrOk nd es)(h:i<(coreO nd es).length):∃pre m post,coreR0 nd es=pre++(e_ (coreO nd es) i,m)::post/\pre.length=i/\List.drop (i+1) (coreO nd es)=ordL post/\e_ (coreN nd es) (e_ (coreO nd es) i)=(m:Int)/\(e_ (coreO nd es) i,m)∈coreR0 nd es:=by
 have hi:i<(coreR0 nd es).length:=by unfold coreO at h;rwa [ordL_len] at h
 have e:e_ (coreO nd es) i=((coreR0 nd es)[i]).1:=by
  show e_ (ordL<|coreR0 nd es) (i:Int)=_
  rw [C0 _ i (by rw [ordL_len];exact hi)]
  simp [ordL]
 have aa:coreR0 nd es=(coreR0 nd es).take i++((coreR0 nd es)[i])::(coreR0 nd es).drop (i+1):=by
  rw [←List.drop_eq_getElem_cons hi,List.take_append_drop]
 have M:(coreR0 nd es)[i]∈coreR0 nd es:=List.getElem_mem hi
 have hr:=((coreO_perm hG).2 ((coreR0 nd es)[i]).1).1 (List.mem_map.2 ⟨_,M,rfl⟩)
 obtain ⟨p,hp,e1,e2⟩:=coreL_at hG hr.1 hr.2
 have hk:=(coreR_keys (rows:=ek nd es) (allB ((ek nd es).length:Int)) 0).1
 have ab:p=(coreR0 nd es)[i]:=key_inj hk hp M e1
 refine ⟨(coreR0 nd es).take i,((coreR0 nd es)[i]).2,(coreR0 nd es).drop (i+1),?_,by rw [List.length_take];omega,?_,?_,?_⟩
 ·rw [e];exact aa
 ·show List.drop (i+1) (ordL<|coreR0 nd es)=_
  unfold ordL
  rw [List.map_drop]
 ·rw [e,e2,ab]
 rw [e];exact M
theorem coreE(M:GrOk nd es):CoreE nd es (coreN nd es) (coreO nd es):=by
 have hr:=M.rng
 obtain ⟨h1,h2⟩:=coreO_perm M
 refine ⟨coreN_lenG M,coreO_len M,h1,λv hv=>(h2 v).1 hv,λi hi=>?_,λi hi=>?_,λi hi=>?_⟩
 ·obtain ⟨ab,m,aa,e,hp,hd,hm,_⟩:=coreO_at M (i:=i) om
  obtain ⟨an,m',ah,e',aq,_,ao,_⟩:=coreO_at M hi
  rw [hm,ao]
  have ha:=coreR_asc (rows:=ek nd es) (allB ((ek nd es).length:Int)) 0
  have g1:(coreR0 nd es)[i]'(by rw [e];simp;omega)=(e_ (coreO nd es) i,m):=by
   have:(ab++(e_ (coreO nd es) i,m)::aa)[i]? = some (e_ (coreO nd es) i,m):=by rw [List.getElem?_append_right om,hp];simp
   rw [←e] at this
   exact (List.getElem?_eq_some_iff.1 this).2
  have g2:(coreR0 nd es)[i+1]'(by rw [e'];simp;omega)=(e_ (coreO nd es) ((i+1:Nat):Int),m'):=by
   have:(an++(e_ (coreO nd es) ((i+1:Nat):Int),m')::ah)[i+1]? = some (e_ (coreO nd es) ((i+1:Nat):Int),m'):=by rw [List.getElem?_append_right om,aq];simp
   rw [←e'] at this
   exact (List.getElem?_eq_some_iff.1 this).2
  have:=(List.pairwise_iff_getElem.1 ha) i (i+1) (by show i<(coreR0 nd es).length;rw [e];simp;omega) (by show i+1<(coreR0 nd es).length;rw [e'];simp;omega) om
  have h3:((coreR0 nd es)[i]'(by rw [e];simp;omega)).2<=((coreR0 nd es)[i+1]'(by rw [e'];simp;omega)).2:=this
  rw [g1,g2] at h3
  simp only at h3;omega
 ·obtain ⟨ab,m,aa,e,hp,hd,hm,ae⟩:=coreO_at M hi
  have hv:=(h2 _).1 (Bv (i:=(i:Int)) om om)
  obtain ⟨L,hL,ad⟩:=coreR_later (rows:=ek nd es) _ 0 ab _ m aa e
  rw [hm,hd,←deg_meet M hL hv.1 hv.2];omega
 obtain ⟨ab,m,aa,e,hp,hd,hm,ae⟩:=coreO_at M hi
 have hv:=(h2 _).1 (Bv (i:=(i:Int)) om om)
 obtain ⟨W,ad,aj,ak⟩:=coreR_high (rows:=ek nd es) _ _ ae
 have hS:=rows_sym M
 have hl:=M.rows.len
 rw [hm]
 refine Int.le_trans (show (m:Int)<=(degB (ek nd es) W (e_ (coreO nd es) i):Int) by simp only at ad;omega) ?_
 unfold degB
 refine Int.ofNat_le.2<|List.Nodup.length_le_of_subset (Dq _) λx hx=>?_
 obtain ⟨ap,ai⟩:=mem_andB.1 hx
 have ar:=(mem_allN hS.le).1 (aj x ai)
 rw [List.mem_filter,decide_eq_true_eq]
 constructor
 ·unfold nbG
  rw [if_neg (by rw [checkG_ok.2 M];decide),mem_ofL,mem_nbL]
  exact ((M.rows.mem hv.1 hv.2).1 ap).2
 obtain ⟨q,hq,e1,e2⟩:=coreL_at M (u:=x) om om
 have:=ak q hq (by rw [e1];exact ai)
 simp only at this
 rw [e2];omega
end
theorem ofL_nodup_len(h:l.Nodup):(ofL l).length=l.length:=((List.perm_ext_iff_of_nodup ((ofL_asc l).imp λh=>by omega) h).2 λx=>mem_ofL l x).length_eq
theorem nodup_at(h:l.Nodup){j:Nat}(hi:i<l.length)(hj:j<l.length)(e:e_ l i=e_ l j):i=j:=by
 rw [C0 _ i hi,C0 _ j hj] at e
 rcases Nat.lt_trichotomy i j with h1|h1|h1
 ·exact absurd e<|(List.pairwise_iff_getElem.1 h) i j hi hj h1
 ·exact h1
 exact absurd e.symm<|(List.pairwise_iff_getElem.1 h) j i hj hi h1
end Go.Sl
namespace Go.Sl
open Go.Proofs
set_option maxRecDepth 4000
variable{ec i k:Nat}{κ:Ctx}{I:List Item}{va vo:Value}{ea:Option Addr}{xs:List Int}
attribute [local irreducible] W G V D A Runs Eff
theorem asc_lenNd{l:List Int}{n:Nat}(h:l.Nodup)(M:∀x∈l,0<=x/\x<n):l.length<=n:=by
 have:=List.Nodup.length_le_of_subset h (l₂:=(List.range n).map λi=>((i:Nat):Int)) λx hx=>by
  have:=M x hx
  exact List.mem_map.2 ⟨x.toNat,List.mem_range.2 om,by omega⟩
 rwa [List.length_map,List.length_range] at this
def WholeP(ord:List Int)(n:Int):Prop:=(∀v∈ord,0<=v/\v<n)/\ord.Nodup/\(ord.length:Int)=n
instance (ord:List Int) (n:Int):Decidable (WholeP ord n):=inferInstanceAs (Decidable (_/\_))
def latS(rows:List (BitVec 64))(st:List Int×BitVec 64)(v:Int):List Int×BitVec 64:=(st.1.set v.toNat (onesB (e_ rows v &&& (st.2 &&& ~~~bitB v))),st.2 &&& ~~~bitB v)
def latK(rows:List (BitVec 64))(ord:List Int)(k:Nat):List Int×BitVec 64:=(ord.take k).foldl (latS rows) (replicate rows.length 0,allB (rows.length:Int))
def laterL(rows:List (BitVec 64))(ord:List Int):List Int:=(latK rows ord ord.length).1
theorem latK_succ{rows:List (BitVec 64)}{ord:List Int}(h:k<ord.length):latK rows ord (k+1)=latS rows (latK rows ord k) (e_ ord k):=by
 unfold latK
 rw [Ct ord k h,List.foldl_append];rfl
theorem latK_len(rows:List (BitVec 64))(ord:List Int):∀k:Nat,k<=ord.length->(latK rows ord k).1.length=rows.length
 |0,_=>by unfold latK;simp
 |k+1,h=>by
  rw [latK_succ om]
  show (List.set _ _ _).length=_
  rw [List.length_set];exact latK_len rows ord k om
section
variable {rows:List (BitVec 64)}{ord:List Int}
theorem latK_left(M:rows.length<=64)(hr:∀v∈ord,0<=v/\v<rows.length):∀k:Nat,k<=ord.length->∀x:Int,x∈eo (latK rows ord k).2↔(0<=x/\x<rows.length)/\x∉ord.take k
 |0,_,x=>by
  show x∈eo (allB (rows.length:Int))↔_
  rw [mem_allN M];simp
 |k+1,h,x=>by
  have hv:=hr _ (Bv (i:=(k:Int)) om om)
  rw [latK_succ om]
  show x∈eo (_ &&& ~~~bitB (e_ ord k))↔_
  rw [bit_sh hv.1 om,mem_minus hv.1,latK_left M hr k om x,Ct ord k om,List.mem_append,List.mem_singleton]
  constructor
  ·rintro ⟨⟨h1,h2⟩,h3⟩;exact ⟨h1,λh=>h.elim h2 h3⟩
  rintro ⟨h1,h2⟩;exact ⟨⟨h1,λh=>h2<|.inl h⟩,λh=>h2<|.inr h⟩
theorem latK_at(hr:∀v∈ord,0<=v/\v<rows.length)(hn:ord.Nodup)(hi:i<ord.length):∀d:Nat,i+1+d<=ord.length->e_ (latK rows ord (i+1+d)).1 (e_ ord i)=onesB (e_ rows (e_ ord i) &&& (latK rows ord (i+1)).2)
 |0,_=>by
  have M:=hr _ (Bv (i:=(i:Int)) om om)
  rw [Nat.add_zero,latK_succ hi]
  show e_ (List.set _ _ _) _=_
  rw [C2 _ _ _ _ M.1 M.1 (by rw [latK_len rows ord i om];exact M.2),if_pos rfl];rfl
 |d+1,h=>by
  have M:=hr _ (Bv (i:=(i:Int)) om om)
  have hw:=hr _ (Bv (i:=((i+1+d:Nat):Int)) om om)
  rw [←Nat.add_assoc,latK_succ om]
  show e_ (List.set _ _ _) _=_
  rw [C2 _ _ _ _ hw.1 M.1 (by rw [latK_len rows ord _ om];exact hw.2),if_neg (λe=>by have:=nodup_at hn (show i+1+d<ord.length by omega) hi e;omega)]
  exact latK_at hr hn hi d om
end
section
variable {nd:Int}{es:List Pt}{num ord:List Int}
theorem CoreE.whole(M:CoreE nd es num ord):WholeP ord nd:=⟨M.rng,M.nodup,M.olen⟩
theorem CoreE.lat(hG:GrOk nd es)(M:CoreE nd es num ord)(hi:i<ord.length):e_ (laterL (ek nd es) ord) (e_ ord i)<=e_ num (e_ ord i):=by
 have hl:=hG.rows.len
 have hr:=hG.rng
 have aa:∀v∈ord,0<=v/\v<(ek nd es).length:=λv hv=>by have:=M.rng v hv;omega
 have hv:=M.rng _ (Bv (i:=(i:Int)) om om)
 have h:=latK_at aa M.nodup hi (ord.length - (i+1)) om
 rw [show i+1+(ord.length - (i+1))=ord.length by omega] at h
 unfold laterL
 rw [h,ones_pop]
 have hm:∀x:Int,x∈eo (latK (ek nd es) ord<|i+1).2↔x∈List.drop (i+1) ord:=λx=>by
  rw [latK_left om aa (i+1) om x]
  constructor
  ·rintro ⟨h1,h2⟩
   have hx:x∈ord:=by
    by_cases hx:x∈ord
    ·exact hx
    have h3:=asc_lenNd (n:=nd.toNat) (List.nodup_cons.2 ⟨hx,M.nodup⟩) λy hy=>by
     rcases List.mem_cons.1 hy with rfl|hy
     ·omega
     have:=M.rng y hy;omega
    have:=M.olen
    rw [List.length_cons] at h3
    omega
   rw [←List.take_append_drop (i+1) ord,List.mem_append] at hx
   exact hx.resolve_left h2
  intro hx
  refine ⟨aa x<|List.mem_of_mem_drop hx,λh2=>?_⟩
  have hn:=M.nodup
  rw [←List.take_append_drop (i+1) ord] at hn
  exact (List.nodup_append.1 hn).2.2 x h2 x hx rfl
 have:=M.later i hi
 rw [←deg_meet hG hm hv.1 hv.2] at this
 exact this
theorem CoreE.hi(M:GrOk nd es)(hE:CoreE nd es num ord)(hi:i<ord.length):e_ num (e_ ord i)<=(((eo (e_ (ek nd es) (e_ ord i))).filter λw=>decide (e_ num (e_ ord i)<=e_ num w)).length:Int):=by
 have hl:=M.rows.len
 have hv:=hE.rng _ (Bv (i:=(i:Int)) om om)
 have h:=hE.high i hi
 rw [←nb_eq,show rowG nd es (e_ ord i)=e_ (ek nd es) (e_ ord i) from if_neg (λh=>by have:=checkG_ok.2 M;omega)] at h
 exact h
theorem CoreE.up(M:CoreE nd es num ord)(h0:0<i)(hi:i<ord.length):e_ num (e_ ord ((i:Int) - 1))<=e_ num (e_ ord i):=by
 have:=M.asc (i - 1) om
 rwa [show ((i - 1:Nat):Int)=(i:Int) - 1 by omega,show i - 1+1=i by omega] at this
end
theorem nodup_new{ord:List Int}(h:ord.Nodup)(hk:k<ord.length)(hm:e_ ord k∈ord.take k):False:=by
 have M:(ord.take<|k+1).Nodup:=h.sublist (List.take_sublist _ _)
 rw [Ct ord k hk] at M
 exact (List.nodup_append.1 M).2.2 _ hm _ (List.mem_singleton.2 rfl) rfl
theorem Whole_ok{n:Int}{ord:List Int}(hl:Sl κ I va ord)(hn:0<=n/\n<=1000000):eu Tryz.prog κ 350 [va,e7 n] I (λr J=>r = .bool (decide (WholeP ord n))/\I=J):=by
 refine B0 hl.le λak=>?_
 refine Ce2 Tryz.func350 C C<|Z ?_
 refine Ge2 (Cj (α:=Bool) (n:=n.toNat) Cr ty4 C C C om om dc C) λae ad=>Z ?_
 refine Ed (σ:=Nat×(List Bool)) (λs=>[(12,e7 ((s.1:Nat):Int))]) (λs=>[vc 4 (.slice ae (replicate n.toNat (default:Bool)).length ad) (s.2)]) (λs=>(s.1<=ord.length)/\(s.2.length=n.toNat)/\(∀v:Int,0<=v->v<n->e_ s.2 v=decide (v∈ord.take s.1))/\(∀v∈ord.take s.1,0<=v/\v<n)/\((ord.take s.1).Nodup)) (λs=>ord.length - s.1) (0,replicate n.toNat false) ⟨om,(List.length_replicate),(λv h0 h1=>by rw [Fw _ _ _ h0 om];simp),(λv hv=>by simp at hv),List.nodup_nil⟩ ?_
 rintro ⟨k,sn⟩ hp
 dsimp only at hp ⊢
 obtain ⟨hk,ah,aa,hr,ab⟩:=hp
 refine Z ?_
 refine Av C (λc13=>?_)<|λc13=>Z ?_
 ·refine Bs (Au<|A3<|Bl<|Ap<|Gr (Az (α:=Int) (xs:=ord) Aa ef C C (As hl) om olr)<|Gr (Bj (xs:=ord) ef C (As hl) om olr)<|Z ?_)
  refine A6 (d:=18) C (λai=>Z ?_)<|λai=>Z ?_
  ·exact Ai C C I Ah ⟨congrArg Value.bool (decide_eq_false (λh=>by have hb:=h.1 _ (Bv (xs:=ord) (i:=(k:Int)) om om);first|omega|(have hs:=aa (e_ ord k) hb.1 hb.2;rw [M] at hs;exact nodup_new h.2.1 om<|of_decide_eq_true hs.symm))).symm,rfl⟩
  refine A6 (d:=23) C (λaj=>Z ?_)<|λaj=>?_
  ·exact Ai C C I Ah ⟨congrArg Value.bool (decide_eq_false (λh=>by have hb:=h.1 _ (Bv (xs:=ord) (i:=(k:Int)) om om);first|omega|(have hs:=aa (e_ ord k) hb.1 hb.2;rw [M] at hs;exact nodup_new h.2.1 om<|of_decide_eq_true hs.symm))).symm,rfl⟩
  refine e9 (Af C)<|e9 (Af C)<|e9 (Az (α:=Bool) (xs:=sn) Cr ty4 C C A7 om olr)<|e9 (Runs.getB (xs:=sn) ty4 C A7 om olr)<|Z ?_
  refine D6 C (λM=>Z ?_)<|λM=>?_
  ·exact Ai C C I Ah ⟨congrArg Value.bool (decide_eq_false (λh=>by have hb:=h.1 _ (Bv (xs:=ord) (i:=(k:Int)) om om);first|omega|(have hs:=aa (e_ ord k) hb.1 hb.2;rw [M] at hs;exact nodup_new h.2.1 om<|of_decide_eq_true hs.symm))).symm,rfl⟩
  refine Bs<|Au<|Bi<|Gm C<|Gm C<|Gr (Az (α:=Bool) (xs:=sn) Cr ty4 C C A7 om olr)<|Ge0 (Cm (α:=Bool) (xs:=sn) (e:=4) (new:=true) ty4 C C C om olr am)<|Z ?_
  exact B7 ((k+1),(List.set sn (e_ ord k).toNat (true)))<|by dsimp only;exact ⟨om,(by rw [List.length_set];exact ah),(λv h0 h1=>by rw [C2 _ _ _ _ om h0 om,Ct ord k om];by_cases e:(e_ ord k)=v;(· rw [if_pos e];exact (decide_eq_true<|List.mem_append.2<|.inr<|List.mem_singleton.2 e.symm).symm);(· rw [if_neg e,aa v h0 h1];exact decide_eq_decide.2 ⟨λh=>List.mem_append.2<|.inl h,λh=>(List.mem_append.1 h).resolve_right (λh=>e (List.mem_singleton.1 h).symm)⟩)),(λv hv=>by rw [Ct ord k om] at hv;rcases List.mem_append.1 hv with h|h;(· exact hr v h);(· rw [List.mem_singleton.1 h];omega)),(by rw [Ct ord k om];exact List.nodup_append.2 ⟨ab,(by simp),λa ha b hb e=>by rw [List.mem_singleton.1 hb] at e;rw [e] at ha;have hs:=aa (e_ ord k) om om;rw [M,decide_eq_true ha] at hs;cases hs⟩)⟩
 have hE:ord.take k=ord:=List.take_of_length_le om
 rw [hE] at hr ab
 exact Ai C C I Ah ⟨congrArg Value.bool<|decide_eq_decide.2 ⟨λh=>⟨hr,ab,h⟩,λh=>h.2.2⟩,rfl⟩
theorem laterC_ok{nd:Int}{es:List Pt}{ord:List Int}(hl:Sl κ I va es)(ho:Sl κ I vo ord)(hG:GrOk nd es)(hw:WholeP ord nd):eu Tryz.prog κ 351 [.agg #[e7 nd,va],vo] I (λr J=>∃a c,r = .slice a (laterL (ek nd es) ord).length c/\J=vc 3 (.slice a (laterL (ek nd es) ord).length c) (laterL (ek nd es) ord)::I):=by
 have an:=hG.rows.len
 have hr:=hG.rng
 refine B0 ho.le λak=>?_
 refine Ce2 Tryz.func351 C C ?_
 refine Ap<|Ge1 (Ak (cs:=[_,_]) C C C) λb1=>Ga C<|Ar<|Ap<|Gl2 ty56 ?_
 refine G.e (Ad c_ C C<|MRows_ok (nd:=nd)<|As hl) ?_
 rintro _ _ ⟨_,_,⟨ad,ae,rfl,rfl⟩,rfl,rfl⟩
 have ah:=Fk nd es
 refine Ga C<|Ar<|Ap<|Gm C<|Gr (Ce Cl C)<|Ge2 (Cj (α:=Int) (n:=(ek nd es).length) Aa ef C C C om om dc C) λaa M=>?_
 refine Ga C<|Ar<|Ap<|Gm C<|Gr (Ce Cl C)<|Gc0 (Ad c_ C C<|MaskAll_ok (((ek nd es).length:Nat):Int)) ?_
 refine Ga C<|Ar<|Be (S4 7 6 5 1 C C C C)<|A3<|Ap<|Gm C<|Gr (Da (α:=Int) (xs:=ord) Aa C<|As ho)<|Gm C<|Ar<|Bl<|Co (σ:=Nat×(List Int)×(BitVec 64)) (λs=>([(5,.slice ad (ek nd es).length ae),(6,.slice aa (replicate ((ek nd es).length) (default:Int)).length M),(7,U64<|s.2.2),(18,vo),(19,e7 ((ord.length:Nat):Int)),(20,e7 ((s.1:Nat):Int))]:Env)) (λs=>vc 3 (.slice aa (replicate ((ek nd es).length) (default:Int)).length M) (s.2.1)::vc 152 (.slice ad (ek nd es).length ae) (ek nd es)::e8 b1 [e7 nd,va] 56::I) (λs=>(s.1<=ord.length)/\((s.2.1,s.2.2)=latK (ek nd es) ord s.1)) (λs=>ord.length - s.1) (0,replicate (ek nd es).length 0,allB (((ek nd es).length:Nat):Int)) ⟨om,rfl⟩ (Ab C<|Ab C<|Ab (El C<|by first|rfl|simp)<|Ab C<|Ab C<|Ab Dc Bt) Bf ?_
 rintro ⟨k,out,m⟩ hp
 dsimp only at hp ⊢
 obtain ⟨hk,ab⟩:=hp
 have aj:out.length=(ek nd es).length:=by have h:=latK_len (ek nd es) ord k om;rw [←ab] at h;exact h
 have hv:k<ord.length->0<=(e_ ord k)/\(e_ ord k)<nd:=λh=>hw.1 _ (Bv om om)
 refine Ap<|Gr (Ch C C)<|Ar<|A3<|Av C (λai=>?_)<|λai=>?_
 ·refine Bs (Au<|A3<|Bl<|Ap<|Gr (Az (α:=Int) (xs:=ord) Aa ef C C (As ho) om olr)<|Gr (Bj (xs:=ord) ef C (As ho) om olr)<|Ga C<|Ar<|Ap<|Gm C<|Gm C<|G.e (Ad c_ C C<|Bit_ok<|e_ ord k) ?_)
  rintro _ _ ⟨_,_,⟨rfl,rfl⟩,rfl,rfl⟩
  refine Gr (Dv (a:=m) (b:=bitB (e_ ord k)) C C)<|Ga C<|Ar<|Be (S7 7 9 5 6 18 19 20 C C C C C C C)<|Bi<|Gm C<|Gm C<|Gm C<|Gm C<|Gr (Az (α:=(BitVec 64)) (xs:=ek nd es) Cl ty152 C C A7 om olr)<|Gr (Di (α:=(BitVec 64)) (xs:=ek nd es) (u:=U64 ((e_ (ek nd es)<|e_ ord k))) ty152 C A7 om olr C)<|Gm C<|Gr (Cx (a:=(e_ (ek nd es)<|e_ ord k)) (b:=m &&& ~~~(bitB<|e_ ord k)) C C)<|Gc0 (Ad c_ C C<|MCount_ok<|(e_ (ek nd es)<|e_ ord k) &&& (m &&& ~~~(bitB<|e_ ord k))) ?_
  refine Gr (Az (α:=Int) (xs:=out) Aa ef C C A7 om olr)<|Ge0 (Cm (α:=Int) (xs:=out) (e:=3) (new:=onesB ((e_ (ek nd es)<|e_ ord k) &&& (m &&& ~~~(bitB<|e_ ord k)))) ef C C C om olr am) ?_
  exact Bm<|Ay<|Au<|Be (S6 7 5 6 18 19 20 C C C C C C)<|Bi<|Gr (Rad C C)<|Gm C<|Bm<|B7 ((k+1),(List.set out (e_ ord k).toNat (onesB<|(e_ (ek nd es)<|e_ ord k) &&& (m &&& ~~~(bitB<|e_ ord k)))),(m &&& ~~~(bitB<|e_ ord k)))<|by dsimp only;exact ⟨om,(by rw [latK_succ om,←ab];rfl)⟩
 refine C4<|A8<|A8<|Bz<|Au<|Ap<|Gm C<|Ga C<|Ar<|Bo ?_
 have hE:out=laterL (ek nd es) ord:=by unfold laterL;rw [show ord.length=k by omega,←ab]
 have hq:(replicate ((ek nd es).length) (default:Int)).length=out.length:=by rw [aj,List.length_replicate]
 exact Ai C C (vc 3 (.slice aa (laterL (ek nd es) ord).length M) (laterL (ek nd es) ord)::I) (by rw [←hE,←hq];exact Bf) ⟨aa,M,by rw [←hE,←hq],rfl⟩
theorem LaterC_ok{nd:Int}{es:List Pt}{ord:List Int}(hl:Sl κ I (.slice ea es.length ec) es)(ho:Sl κ I vo ord)(hG:GrOk nd es):eu Tryz.prog κ 349 [.agg #[e7 nd,.slice ea es.length ec],vo] I (λr J=>∃a c X e,r = .tuple #[.slice a X.length c,e7 e]/\(e=4/\¬WholeP ord nd\/e=0/\X=laterL (ek nd es) ord/\WholeP ord nd)/\J=vc 3 (.slice a X.length c) X::I):=by
 refine Ce2 Tryz.func349 C C ?_
 refine Ap<|Ge1 (Ak (cs:=[_,_]) C C C) λb1=>Z ?_
 refine Gc0 (Ad c_ C C<|CheckGen_ok<|As hl)<|Z ?_
 refine Av C (λc10=>?_)<|λc10=>Z ?_
 ·exact absurd (checkG_ok.2 hG) c10
 refine G.e (Ad c_ C C<|Whole_ok (n:=nd) (As ho)<|by have:=hG.rng;omega) ?_
 rintro _ _ ⟨_,_,⟨rfl,rfl⟩,rfl,rfl⟩
 refine Z ?_
 refine Av C (λM=>Z ?_)<|λM=>Z ?_
 ·exact Cw C C C (vc 3 (.slice none ([]:List Int).length 0) ([]:List Int)::I) (Ao (show Fit κ _ I from Ah)<|nv3 _) ⟨none,0,[],4,rfl,.inl ⟨rfl,by simpa using M⟩,rfl⟩
 refine Gc2 (Ad c_ C C<|laterC_ok (nd:=nd) (As hl) (As ho) hG<|Classical.not_not.1 M) λaa ab=>Z ?_
 exact Cw C C C (vc 3 (.slice aa (laterL (ek nd es) ord).length ab) (laterL (ek nd es) ord)::I) Bf ⟨aa,ab,laterL (ek nd es) ord,0,rfl,.inr ⟨rfl,rfl,Classical.not_not.1 M⟩,rfl⟩
theorem row_rng{nd:Int}{es:List Pt}(M:GrOk nd es){v:Int}(h0:0<=v)(h1:v<nd){w:Int}(h:w∈eo (e_ (ek nd es) v)):0<=w/\w<nd:=by
 have:=(M.rows.mem h0 h1).1 h
 rcases this.2 with h2|h2
 ·have:=M.edge _ h2;simp only at this;omega
 have:=M.edge _ h2;simp only at this;omega
theorem fti_yes(p:Int->Bool)(h:k<xs.length)(M:p (e_ xs k)=true):((((xs.take (k+1)).filter p).length:Nat):Int)=(((xs.take k).filter p).length:Nat)+1:=by
 rw [Ct _ k h,List.filter_append,List.length_append,List.filter_cons,if_pos M];simp
theorem fti_no(p:Int->Bool)(h:k<xs.length)(M:p (e_ xs k)=false):((((xs.take (k+1)).filter p).length:Nat):Int)=(((xs.take k).filter p).length:Nat):=by
 rw [Ct _ k h,List.filter_append,List.length_append,List.filter_cons,M];simp
theorem CCheck_ok{nd:Int}{vn:Value}{es:List Pt}{num ord:List Int}(hl:Sl κ I (.slice ea es.length ec) es)(aa:Sl κ I vn num)(ho:Sl κ I vo ord)(hG:GrOk nd es)(hT:TabRd κ I 0 tzCells):eu Tryz.prog κ 348 [.agg #[e7 nd,.slice ea es.length ec],vn,vo] I (λr J=>∃c,r=e7 c/\(CoreE nd es num ord->c=0)/\I=J):=by
 have a8:=hG.rows.len
 have bc:=hG.rng
 refine B0 ho.le λa7=>?_
 refine B0 aa.le λay=>?_
 refine Ce3 Tryz.func348 C C ?_
 refine Ap<|Ge1 (Ak (cs:=[_,_]) C C C) λb1=>Ga C<|Ar<|Ap<|Gl2 ty56 ?_
 refine Gm C<|G.e (Ad c_ C C<|LaterC_ok (nd:=nd) (As hl) (As ho) hG) ?_
 rintro _ _ ⟨_,_,⟨ad,ah,LX4,au,rfl,an,rfl⟩,rfl,rfl⟩
 refine Gm C<|Gr (Bw C C)<|Gr (Bw C C)<|Ga C<|Ga C<|Ar<|A3<|Bl<|Ap<|Gm C<|Gr (C3 C C)<|Ga C<|Ar<|Be (S6 21 8 7 3 1 2 C C C C C C)<|Av C (λaq=>?_)<|λaq=>?_
 ·exact Ap<|Gm C<|Ga C<|Ar<|Bo<|B3<|Bp<|Ai C C I Ah ⟨au,rfl,(λhE=>by rcases an with ⟨h1,h2⟩|⟨h1,_⟩;(· exact absurd hE.whole h2);(· exact h1)),rfl⟩
 refine Ap<|Gm C<|Gr (Da (α:=Int) (xs:=num) Aa C<|As aa)<|Gf fld56_0 C<|Gl ef ?_
 refine Gr (C3 C C)<|Ga C<|Ar<|Av C (λa0=>?_)<|λa0=>?_
 ·exact Ap<|Ga C<|Ar<|Bo<|B3<|Bp<|Ai C C I Ah ⟨4,rfl,(λhE=>absurd hE.nlen om),rfl⟩
 refine Bs<|Ay<|Au<|Ap<|Gl2 ty56 ?_
 have M:WholeP ord nd/\LX4=laterL (ek nd es) ord:=by rcases an with ⟨h1,h2⟩|⟨h1,h2,h3⟩;(· exact absurd (show ¬au≠0 from aq) om);(· exact ⟨h3,h2⟩)
 refine G.e (Ad c_ C C<|MRows_ok (nd:=nd)<|As hl) ?_
 rintro _ _ ⟨_,_,⟨ab,ae,rfl,rfl⟩,rfl,rfl⟩
 have aw:=Fk nd es
 refine Ga C<|Ar<|Be (S4 9 7 1 2 C C C C)<|A3<|Ap<|Gm C<|Gr (Da (α:=Int) (xs:=ord) Aa C<|As ho)<|Gm C<|Ar<|Bl<|Co (σ:=Nat) (λs=>([(1,vn),(2,vo),(7,.slice ad LX4.length ah),(9,.slice ab (ek nd es).length ae),(33,vo),(34,e7 ((ord.length:Nat):Int)),(35,e7 ((s:Nat):Int))]:Env)) (λs=>vc 152 (.slice ab (ek nd es).length ae) (ek nd es)::vc 3 (.slice ad LX4.length ah) (LX4)::e8 b1 [e7 nd,.slice ea es.length ec] 56::I) (λs=>(s<=ord.length)) (λs=>ord.length - s) 0 (show ((0:Nat)<=ord.length) from om) (Ab C<|Ab C<|Ab C<|Ab C<|Ab C<|Ab C<|Ab Dc Bt) Aj ?_
 rintro k hp
 have hk:=hp
 have ao:k<ord.length->0<=(e_ ord k)/\(e_ ord k)<nd:=λh=>M.1.1 _ (Bv om om)
 have a6:0<k->k<=ord.length->0<=e_ ord ((k:Int) - 1)/\e_ ord ((k:Int) - 1)<nd:=λh0 h=>M.1.1 _ (Bv om om)
 have ba:LX4.length=(ek nd es).length:=by rw [M.2];exact latK_len _ _ _ (Nat.le_refl _)
 refine Ap<|Gr (Ch C C)<|Ar<|A3<|Av C (λa5=>?_)<|λa5=>?_
 ·refine Bs (Au<|A3<|Bl<|Ap<|Gm C<|Gr (Az (α:=Int) (xs:=ord) Aa ef C C (As ho) om<|by first|omega|(simp only [M.2,laterL,latK_len _ _ _<|Nat.le_refl _];omega))<|Gr (Bj (xs:=ord) ef C (As ho) om<|by first|omega|(simp only [M.2,laterL,latK_len _ _ _<|Nat.le_refl _];omega))<|Ga C<|Ga C<|Ar<|A3<|Fa (σ:=Bool) (λs=>([(1,vn),(2,vo),(7,.slice ad LX4.length ah),(9,.slice ab (ek nd es).length ae),(11,e7<|e_ ord k),(33,vo),(34,e7 ((ord.length:Nat):Int)),(35,e7<|(k:Int)),(67,.bool s)]:Env)) (λs=>vc 152 (.slice ab (ek nd es).length ae) (ek nd es)::vc 3 (.slice ad LX4.length ah) (LX4)::e8 b1 [e7 nd,.slice ea es.length ec] 56::I) (λs=>(s=true->¬CoreE nd es num ord)) ?_ ?_)
  ·refine A4 mixed (C1 28<|Dr 0 C (Af C)<|Dr 1 C (Dh C C)<|Dr 2 C (Af C)<|D0 (d:=42) C (λaz=>?_)<|λaz=>?_)
   ·refine Dro 3 C (Af C) (Dro 4 C (Af C)<|Dro 5 C (Af C)<|Dro 6 C (Rsu C C)<|Dro 7 C (Az (α:=Int) (xs:=ord) Aa ef C C (As ho) om<|by first|omega|(simp only [M.2,laterL,latK_len _ _ _<|Nat.le_refl _];omega))<|Dro 8 C (Bj (xs:=ord) ef C (As ho) om<|by first|omega|(simp only [M.2,laterL,latK_len _ _ _<|Nat.le_refl _];omega))<|Dro 9 C (Az (α:=Int) (xs:=num) Aa ef C C (As aa) om<|by first|omega|(simp only [M.2,laterL,latK_len _ _ _<|Nat.le_refl _];omega))<|Dro 10 C (Bj (xs:=num) ef C (As aa) om<|by first|omega|(simp only [M.2,laterL,latK_len _ _ _<|Nat.le_refl _];omega))<|Dro 11 C (Af C)<|Dro 12 C (Af C)<|Dro 13 C (Az (α:=Int) (xs:=num) Aa ef C C (As aa) om<|by first|omega|(simp only [M.2,laterL,latK_len _ _ _<|Nat.le_refl _];omega))<|Dro 14 C (Bj (xs:=num) ef C (As aa) om<|by first|omega|(simp only [M.2,laterL,latK_len _ _ _<|Nat.le_refl _];omega))<|Dro 15 C (Dh C C)<|Dr 16 C (A2 C C)<|Dr 17 C (Af C)<|D0 (d:=57) C (λa1=>?_)<|λa1=>?_)
    ·exact Dpo 18 C<|Dpo 19 C<|Dpo 20 C<|Dpo 21 C<|Dpo 22 C<|Dpo 23 C<|Dpo 24 C<|Dpo 25 C<|Dpo 26 C<|Dr 27 C (A2 C C)<|Dz<|Cn ((true))<|λhb hE=>by first|(have h:=hE.up (i:=k) om om;omega)|(have h:=hE.lat hG (i:=k) om;rw [←M.2] at h;have h2:=of_decide_eq_true hb;omega)
    exact Dro 18 C (Af C)<|Dro 19 C (Af C)<|Dro 20 C (Az (α:=Int) (xs:=LX4) Aa ef C C A7 om<|by first|omega|(simp only [M.2,laterL,latK_len _ _ _<|Nat.le_refl _];omega))<|Dro 21 C (Bj (xs:=LX4) ef C A7 om<|by first|omega|(simp only [M.2,laterL,latK_len _ _ _<|Nat.le_refl _];omega))<|Dro 22 C (Af C)<|Dro 23 C (Af C)<|Dro 24 C (Az (α:=Int) (xs:=num) Aa ef C C (As aa) om<|by first|omega|(simp only [M.2,laterL,latK_len _ _ _<|Nat.le_refl _];omega))<|Dro 25 C (Bj (xs:=num) ef C (As aa) om<|by first|omega|(simp only [M.2,laterL,latK_len _ _ _<|Nat.le_refl _];omega))<|Dro 26 C (Dh C C)<|Dr 27 C (Al C C)<|Dz<|Cn ((decide<|(e_ num<|e_ ord k)<(e_ LX4<|e_ ord k)))<|λhb hE=>by first|(have h:=hE.up (i:=k) om om;omega)|(have h:=hE.lat hG (i:=k) om;rw [←M.2] at h;have h2:=of_decide_eq_true hb;omega)
   exact Dpo 3 C<|Dpo 4 C<|Dpo 5 C<|Dpo 6 C<|Dpo 7 C<|Dpo 8 C<|Dpo 9 C<|Dpo 10 C<|Dpo 11 C<|Dpo 12 C<|Dpo 13 C<|Dpo 14 C<|Dpo 15 C<|Dr 16 C (Al C C)<|Dr 17 C (Af C)<|Dro 18 C (Af C)<|Dro 19 C (Af C)<|Dro 20 C (Az (α:=Int) (xs:=LX4) Aa ef C C A7 om<|by first|omega|(simp only [M.2,laterL,latK_len _ _ _<|Nat.le_refl _];omega))<|Dro 21 C (Bj (xs:=LX4) ef C A7 om<|by first|omega|(simp only [M.2,laterL,latK_len _ _ _<|Nat.le_refl _];omega))<|Dro 22 C (Af C)<|Dro 23 C (Af C)<|Dro 24 C (Az (α:=Int) (xs:=num) Aa ef C C (As aa) om<|by first|omega|(simp only [M.2,laterL,latK_len _ _ _<|Nat.le_refl _];omega))<|Dro 25 C (Bj (xs:=num) ef C (As aa) om<|by first|omega|(simp only [M.2,laterL,latK_len _ _ _<|Nat.le_refl _];omega))<|Dro 26 C (Dh C C)<|Dr 27 C (Al C C)<|Dz<|Cn ((decide<|(e_ num<|e_ ord k)<(e_ LX4<|e_ ord k)))<|λhb hE=>by first|(have h:=hE.up (i:=k) om om;omega)|(have h:=hE.lat hG (i:=k) om;rw [←M.2] at h;have h2:=of_decide_eq_true hb;omega)
  rintro bq hp
  have av:(bq=true->¬CoreE nd es num ord):=hp
  refine D6 C (λaj=>?_)<|λaj=>?_
  ·exact Ap<|Ga C<|Ar<|Bo<|Bp<|B3<|Bp<|Bp<|B3<|Bp<|Ai C C I Ah ⟨12,rfl,(λhE=>by first|exact absurd hE (av aj)|(have h:=hE.hi hG (i:=k) om;rw [List.take_of_length_le om] at hn;omega)),rfl⟩
  refine Bs<|Au<|Ap<|Ga C<|Ar<|A3<|Ap<|Gm C<|Gm C<|Gr (Az (α:=(BitVec 64)) (xs:=ek nd es) Cl ty152 C C A7 om<|by first|omega|(simp only [M.2,laterL,latK_len _ _ _<|Nat.le_refl _];omega))<|Gr (Di (α:=(BitVec 64)) (xs:=ek nd es) (u:=U64 ((e_ (ek nd es)<|e_ ord k))) ty152 C A7 om (by first|omega|(simp only [M.2,laterL,latK_len _ _ _<|Nat.le_refl _];omega)) C)<|Gc2 (Ad c_ C C<|MList_ok (e_ (ek nd es)<|e_ ord k)<|A5 hT Ah) λak ar=>?_
  refine Gr (Ce Aa C)<|Gm C<|Ar<|Be (S12 74 73 72 12 1 2 7 9 11 33 34 35 C C C C C C C C C C C C)<|Bl<|Co (σ:=Nat×Int) (λs=>([(1,vn),(2,vo),(7,.slice ad LX4.length ah),(9,.slice ab (ek nd es).length ae),(11,e7<|e_ ord k),(12,e7<|s.2),(33,vo),(34,e7 ((ord.length:Nat):Int)),(35,e7<|(k:Int)),(72,.slice ak (eo<|e_ (ek nd es)<|e_ ord k).length ar),(73,e7<|(((eo<|e_ (ek nd es)<|e_ ord k).length:Nat):Int)),(74,e7 ((s.1:Nat):Int))]:Env)) (λs=>vc 3 (.slice ak (eo<|e_ (ek nd es)<|e_ ord k).length ar) (eo<|e_ (ek nd es)<|e_ ord k)::vc 152 (.slice ab (ek nd es).length ae) (ek nd es)::vc 3 (.slice ad LX4.length ah) (LX4)::e8 b1 [e7 nd,.slice ea es.length ec] 56::I) (λs=>(s.1<=(eo<|e_ (ek nd es)<|e_ ord k).length)/\(s.2=((((eo<|e_ (ek nd es)<|e_ ord k).take s.1).filter (λw=>decide<|e_ num (e_ ord k)<=e_ num w)).length:Int))) (λs=>(eo<|e_ (ek nd es)<|e_ ord k).length - s.1) (0,0) ⟨om,rfl⟩ (Ab C<|Ab C<|Ab C<|Ab C<|Ab C<|Ab Dc<|Ab C<|Ab C<|Ab C<|Ab C<|Ab C<|Ab Dc Bt) Aj ?_
  rintro ⟨j,n⟩ hp
  dsimp only at hp ⊢
  obtain ⟨hj,hn⟩:=hp
  have ap:=ao om
  have a9:j<(eo<|e_ (ek nd es)<|e_ ord k).length->0<=e_ (eo<|e_ (ek nd es)<|e_ ord k) (j:Int)/\e_ (eo<|e_ (ek nd es)<|e_ ord k) (j:Int)<nd:=λh=>row_rng hG ap.1 ap.2 (Bv om om)
  have ax:=List.length_filter_le (λw=>decide<|e_ num (e_ ord k)<=e_ num w) ((eo<|e_ (ek nd es)<|e_ ord k).take j)
  rw [List.length_take] at ax
  have bb:=D7 (e_ (ek nd es)<|e_ ord k)
  refine Ap<|Gr (Ch C C)<|Ar<|A3<|Av C (λa3=>?_)<|λa3=>?_
  ·refine Bs (Au<|A3<|Bl<|Ap<|Gr (Az (α:=Int) (xs:=eo (e_ (ek nd es)<|e_ ord k)) Aa ef C C A7 om<|by first|omega|(simp only [M.2,laterL,latK_len _ _ _<|Nat.le_refl _];omega))<|Gr (Bj (xs:=eo (e_ (ek nd es)<|e_ ord k)) ef C A7 om<|by first|omega|(simp only [M.2,laterL,latK_len _ _ _<|Nat.le_refl _];omega))<|Ga C<|Ar<|Be (S13 14 1 2 7 9 11 12 33 34 35 72 73 74 C C C C C C C C C C C C C)<|A3<|A4 mixed<|C1 9<|Dr 0 C (Af C)<|Dr 1 C (Af C)<|Dr 2 C (Az (α:=Int) (xs:=num) Aa ef C C (As aa) om<|by first|omega|(simp only [M.2,laterL,latK_len _ _ _<|Nat.le_refl _];omega))<|Dr 3 C (Bj (xs:=num) ef C (As aa) om<|by first|omega|(simp only [M.2,laterL,latK_len _ _ _<|Nat.le_refl _];omega))<|Dr 4 C (Af C)<|Dr 5 C (Af C)<|Dr 6 C (Az (α:=Int) (xs:=num) Aa ef C C (As aa) om<|by first|omega|(simp only [M.2,laterL,latK_len _ _ _<|Nat.le_refl _];omega))<|Dr 7 C (Bj (xs:=num) ef C (As aa) om<|by first|omega|(simp only [M.2,laterL,latK_len _ _ _<|Nat.le_refl _];omega))<|Dr 8 C (Ff C C)<|Dz<|Au<|Be (S13 86 1 2 7 9 11 12 33 34 35 72 73 74 C C C C C C C C C C C C C)<|Av C (λai=>?_)<|λai=>?_)
   ·exact Bi<|Gm C<|Gr (Rad C C)<|Ga C<|Bm<|Ay<|Au<|Be (S12 12 1 2 7 9 11 33 34 35 72 73 74 C C C C C C C C C C C C)<|Bi<|Gr (Rad C C)<|Gm C<|Bm<|B7 ((j+1),(n+1))<|by dsimp only;exact ⟨om,(by first|(rw [fti_yes (λw=>decide<|e_ num (e_ ord k)<=e_ num w) om (decide_eq_true ai),hn])|(rw [fti_no (λw=>decide<|e_ num (e_ ord k)<=e_ num w) om (decide_eq_false ai),hn]))⟩
   exact Bs<|Ay<|Au<|Bi<|Gr (Rad C C)<|Gm C<|Bm<|B7 ((j+1),(n))<|by dsimp only;exact ⟨om,(by first|(rw [fti_yes (λw=>decide<|e_ num (e_ ord k)<=e_ num w) om (decide_eq_true ai),hn])|(rw [fti_no (λw=>decide<|e_ num (e_ ord k)<=e_ num w) om (decide_eq_false ai),hn]))⟩
  refine C4<|A8<|A8<|Bz<|Au<|Ap<|Gm C<|Gm C<|Gm C<|Gr (Az (α:=Int) (xs:=num) Aa ef C C (As aa) om<|by first|omega|(simp only [M.2,laterL,latK_len _ _ _<|Nat.le_refl _];omega))<|Gr (Bj (xs:=num) ef C (As aa) om<|by first|omega|(simp only [M.2,laterL,latK_len _ _ _<|Nat.le_refl _];omega))<|Gr (Ch C C)<|Ar<|Be (S8 95 1 2 7 9 33 34 35 C C C C C C C C)<|Av C (λa4=>?_)<|λa4=>?_
  ·exact Ap<|Ga C<|Ar<|Bo<|B3<|Bp<|Bp<|B3<|Bp<|Ai C C I Ah ⟨12,rfl,(λhE=>by first|exact absurd hE (av aj)|(have h:=hE.hi hG (i:=k) om;rw [List.take_of_length_le om] at hn;omega)),rfl⟩
  exact Bs<|Ay<|Au<|Bi<|Gr (Rad C C)<|Gm C<|Bm<|B7 ((k+1)) om
 exact C4<|A8<|A8<|Bz<|Au<|Ap<|Ga C<|Ar<|Bo<|Ai C C I Ah ⟨0,rfl,(λ_=>rfl),rfl⟩
end Go.Sl
namespace Go.Sl
variable{gone:List Bool}{j:Int}{m:Nat}
def TriS(tri:List (List Pt))(i a b:Int):Prop:=(⟨a,b⟩:Pt)∈e_ tri i\/(⟨b,a⟩:Pt)∈e_ tri i
structure TriG (tri:List (List Pt)):Prop where
 rng:∀i:Int,0<=i->i<tri.length->∀p∈e_ tri i,(0<=p.u/\p.u<tri.length/\0<=p.v/\p.v<tri.length)/\p.u≠p.v/\p.u≠i/\p.v≠i
 sym:∀i a b:Int,0<=i->i<tri.length->TriS tri i a b->TriS tri a i b
 dis:∀i:Int,0<=i->i<tri.length->(e_ tri i).Pairwise λp q=>p.u≠q.u/\p.u≠q.v/\p.v≠q.u/\p.v≠q.v
def liveT(gone:List Bool)(p:Pt):Bool:= !e_ gone p.u && !e_ gone p.v
def cntT(tri:List (List Pt))(gone:List Bool)(i:Int):Int:=(((e_ tri i).filter (liveT gone)).length:Int)
def hasT(j:Int)(p:Pt):Bool:=decide (p.u=j)||decide (p.v=j)
theorem low_at{p:Pt}{sup:List Int}(M:0<=p.u/\p.u<sup.length)(hv:0<=p.v/\p.v<sup.length)(aa:p.u≠p.v)(h0:0<=j) :
  e_ (lowT gone sup p) j=e_ sup j - if (liveT gone p&&hasT j p)=true then 1 else 0:=by
 unfold lowT liveT hasT
 by_cases hc:e_ gone p.u=false/\e_ gone p.v=false
 ·rw [if_pos hc,hc.1,hc.2]
  rw [at_set _ p.v j _ hv.1 h0 (by rw [List.length_set];exact hv.2),at_set _ p.u p.v _ M.1 hv.1 M.2,at_set _ p.u j _ M.1 h0 M.2,if_neg aa]
  by_cases e1:p.v=j
  ·rw [if_pos e1,e1];simp
  rw [if_neg e1]
  by_cases e2:p.u=j
  ·rw [if_pos e2,e2];simp
  rw [if_neg e2];simp [e1,e2]
 rw [if_neg hc]
 have:(!e_ gone p.u && !e_ gone p.v)=false:=by
  cases h1:e_ gone p.u<;>cases h2:e_ gone p.v<;>simp [h1,h2] at hc ⊢
 rw [this];simp
theorem low_fold{n:Nat}(M:0<=j):∀(l:List Pt) (sup:List Int),sup.length=n->(∀p∈l,(0<=p.u/\p.u<n/\0<=p.v/\p.v<n)/\p.u≠p.v)->
  e_ (l.foldl (lowT gone) sup) j=e_ sup j - ((l.filter λp=>liveT gone p&&hasT j p).length:Int)
 |[],sup,_,_=>by simp
 |p::l,sup,hs,h=>by
  obtain ⟨⟨h1,h2,h3,h4⟩,h5⟩:=h p List.mem_cons_self
  rw [List.foldl_cons,low_fold M l (lowT gone sup p) (by rw [lowT_len];exact hs)<|λq hq=>h q<|List.mem_cons_of_mem _ hq,low_at (by omega) (by omega) h5 M,List.filter_cons]
  by_cases hc:(liveT gone p&&hasT j p)=true
  ·rw [if_pos hc,if_pos hc,List.length_cons];omega
  rw [if_neg hc,if_neg hc];omega
theorem filter_le_one{α:Type}{l:List α}{P:α->Bool}(h:l.Pairwise λa b=>¬(P a=true/\P b=true)):(l.filter P).length<=1:=by
 induction l with
 |nil=>simp
 |cons x l ih=>
  obtain ⟨M,h2⟩:=List.pairwise_cons.1 h
  rw [List.filter_cons]
  by_cases hx:P x=true
  ·rw [if_pos hx]
   have:l.filter P=[]:=List.filter_eq_nil_iff.2 λy hy hp=>M y hy ⟨hx,hp⟩
   rw [this];simp
  rw [if_neg hx];exact ih h2
theorem TriG.one{tri:List (List Pt)}(h:TriG tri){i:Int}(h0:0<=i)(h1:i<tri.length)(P:Pt->Bool):((e_ tri i).filter λp=>P p&&hasT j p).length<=1:=by
 refine filter_le_one<|(h.dis i h0 h1).imp fun {p q} hd=>?_
 rintro ⟨hp,M⟩
 unfold hasT at hp M
 simp only [Bool.and_eq_true,Bool.or_eq_true,decide_eq_true_eq] at hp M
 obtain ⟨d1,d2,d3,d4⟩:=hd
 rcases hp.2 with e|e<;>rcases M.2 with e'|e'
 ·exact d1<|by omega
 ·exact d2<|by omega
 ·exact d3<|by omega
 exact d4<|by omega
theorem live_split(l:List Pt)(gone:List Bool){b:Int}(M:0<=b/\b<gone.length)(hr:∀p∈l,0<=p.u/\0<=p.v):(l.filter (liveT gone)).length=(l.filter (liveT (gone.set b.toNat true))).length+(l.filter λp=>liveT gone p&&hasT b p).length:=by
 induction l with
 |nil=>rfl
 |cons p l ih=>
  have ih:=ih λq hq=>hr q (List.mem_cons_of_mem _ hq)
  obtain ⟨hu,hv⟩:=hr p List.mem_cons_self
  have e:liveT (gone.set b.toNat true) p=(liveT gone p && !hasT b p):=by
   unfold liveT hasT
   rw [at_set _ b p.u _ M.1 hu M.2,at_set _ b p.v _ M.1 hv M.2]
   by_cases e1:b=p.u<;>by_cases e2:b=p.v
   ·rw [if_pos e1,if_pos e2];simp [e1.symm]
   ·rw [if_pos e1,if_neg e2];simp [e1.symm]
   ·rw [if_neg e1,if_pos e2];simp [e2.symm]
   rw [if_neg e1,if_neg e2]
   have a1:¬p.u=b:=λh=>e1 h.symm
   have a2:¬p.v=b:=λh=>e2 h.symm
   simp [a1,a2]
  rw [List.filter_cons,List.filter_cons,List.filter_cons,e]
  cases h1:liveT gone p<;>cases h2:hasT b p<;>simp [h1,h2]<;>omega
def SupI(tri:List (List Pt))(s:TrS):Prop:=∀j:Int,0<=j->j<tri.length->e_ s.gone j=false->e_ s.sup j=cntT tri s.gone j
theorem SupI.start(tri:List (List Pt)):SupI tri (startT tri):=λj h0 h1 _=>by
 have hl:∀p,liveT (replicate tri.length false) p=true:=λp=>by
  have M:∀i:Int,e_ (replicate tri.length false) i=false:=λi=>by
   unfold e_
   rw [List.getD_eq_getElem?_getD,List.getElem?_replicate]
   split<;>rfl
  unfold liveT
  rw [M,M];rfl
 show e_ (tri.map λl=>(l.length:Int)) j=_
 unfold cntT startT
 simp only
 rw [List.filter_eq_self.2 λp _=>hl p]
 obtain ⟨k,rfl⟩:=Int.eq_ofNat_of_zero_le h0
 rw [at_get _ k (by rw [List.length_map];omega),at_get _ k<|by omega,List.getElem_map]
theorem SupI.step{tri:List (List Pt)}{j:Nat}{s:TrS}(hG:TriG tri)(hs:TrOk m tri.length j s)(hj:j<tri.length)(h:SupI tri s):SupI tri (stepTr tri s):=λi h0 h1 hg=>by
 obtain ⟨b0,b1,b2⟩:=hs.best hj
 unfold stepTr at hg ⊢
 simp only at hg ⊢
 generalize bestT s.sup s.gone tri.length=b at b0 b1 b2 hg ⊢
 have ai:=hs.glen
 rw [at_set _ b i _ b0 h0 (by omega)] at hg
 have aa:b≠i:=λe=>by rw [if_pos e] at hg;cases hg
 rw [if_neg aa] at hg
 have M:=λp hp=>hG.rng b b0 b1 p hp
 rw [low_fold (n:=tri.length) h0 _ _ hs.slen (λp hp=>⟨(M p hp).1,(M p hp).2.1⟩),h i h0 h1 hg]
 have ah:=live_split (e_ tri i) s.gone (b:=b) ⟨b0,by omega⟩ (λp hp=>by have:=(hG.rng i h0 h1 p hp).1;omega)
 have c1:=hG.one b0 b1 (j:=i) (liveT<|s.gone.set b.toNat true)
 have c2:=hG.one h0 h1 (j:=b) (liveT s.gone)
 have g':∀x:Int,0<=x->(e_ (s.gone.set b.toNat true) x=false↔x≠b/\e_ s.gone x=false):=λx hx=>by
  rw [at_set _ b x _ b0 hx (by omega)]
  by_cases e:b=x
  ·rw [if_pos e];simp [e]
  rw [if_neg e];exact ⟨λh=>⟨λh2=>e h2.symm,h⟩,λh=>h.2⟩
 have ae:((e_ tri b).filter λp=>liveT (s.gone.set b.toNat true) p&&hasT i p).length=((e_ tri i).filter λp=>liveT s.gone p&&hasT b p).length:=by
  have iff:0<((e_ tri b).filter λp=>liveT (s.gone.set b.toNat true) p&&hasT i p).length↔0<((e_ tri i).filter λp=>liveT s.gone p&&hasT b p).length:=by
   rw [List.length_pos_iff_exists_mem,List.length_pos_iff_exists_mem]
   simp only [List.mem_filter,Bool.and_eq_true,hasT,liveT,Bool.or_eq_true,decide_eq_true_eq,Bool.not_eq_true']
   constructor
   ·rintro ⟨q,hq,⟨l1,l2⟩,e⟩
    have hr:=(M q hq).1
    rw [g' _ (by omega)] at l1 l2
    have hT:∃x,TriS tri b i x/\e_ s.gone x=false:=by
     rcases e with e|e
     ·exact ⟨q.v,.inl<|by rw [←e];exact hq,l2.2⟩
     exact ⟨q.u,.inr<|by rw [←e];exact hq,l1.2⟩
    obtain ⟨x,hT,hx⟩:=hT
    rcases hG.sym b i x b0 b1 hT with h2|h2
    ·exact ⟨_,h2,⟨b2,hx⟩,.inl rfl⟩
    exact ⟨_,h2,⟨hx,b2⟩,.inr rfl⟩
   rintro ⟨q,hq,⟨l1,l2⟩,e⟩
   have hr:=hG.rng i h0 h1 q hq
   have hT:∃x,TriS tri i b x/\e_ s.gone x=false/\x≠b/\0<=x:=by
    rcases e with e|e
    ·exact ⟨q.v,.inl<|by rw [←e];exact hq,l2,by have:=hr.2.1;omega,by omega⟩
    exact ⟨q.u,.inr<|by rw [←e];exact hq,l1,by have:=hr.2.1;omega,by omega⟩
   obtain ⟨x,hT,hx,ad,ab⟩:=hT
   rcases hG.sym i b x h0 h1 hT with h2|h2
   ·exact ⟨_,h2,⟨(g' i h0).2 ⟨λe=>aa e.symm,hg⟩,(g' x ab).2 ⟨ad,hx⟩⟩,.inl rfl⟩
   exact ⟨_,h2,⟨(g' x ab).2 ⟨ad,hx⟩,(g' i h0).2 ⟨λe=>aa e.symm,hg⟩⟩,.inr rfl⟩
  omega
 unfold cntT
 rw [ae]
 omega
theorem bestT_le(sup:List Int)(gone:List Bool)(n:Nat):∀i:Nat,i<n->e_ gone i=false->e_ sup (bestT sup gone n)<=e_ sup i:=by
 induction n with
 |zero=>intro i hi;omega
 |succ n ih=>
  intro i hi M
  have hlt:=bestT_lt sup gone n
  unfold bestT
  by_cases hc:e_ gone n=false/\(bestT sup gone n<0\/e_ sup n<e_ sup (bestT sup gone n))
  ·rw [if_pos hc]
   by_cases e:i=n
   ·subst e;exact Int.le_refl _
   rcases hc.2 with h|h
   ·exfalso
    have:=bestT_some (sup:=sup) (gone:=gone) (n:=n) ⟨i,by omega,M⟩
    omega
   have:=ih i (by omega) M;omega
  rw [if_neg hc]
  by_cases e:i=n
  ·subst e
   have:¬e_ sup i<e_ sup (bestT sup gone i):=λh=>hc ⟨M,.inr h⟩
   omega
  exact ih i (by omega) M
theorem filter_mono{α:Type}{P Q:α->Bool}:∀{l:List α},(∀x∈l,P x=true->Q x=true)->(l.filter P).length<=(l.filter Q).length
 |[],_=>Nat.le_refl _
 |x::l,h=>by
  have M:=filter_mono (P:=P) (Q:=Q) (l:=l) λy hy=>h y (List.mem_cons_of_mem _ hy)
  have hx:=h x List.mem_cons_self
  rw [List.filter_cons,List.filter_cons]
  by_cases h1:P x=true
  ·rw [if_pos h1,if_pos<|hx h1,List.length_cons,List.length_cons];omega
  rw [if_neg h1]
  split
  ·rw [List.length_cons];omega
  exact M
def okT(ord num:List Int)(c:Int)(p:Pt):Bool:=decide ((p.u∈ord->c<=e_ num p.u)/\(p.v∈ord->c<=e_ num p.v))
def outT(l:List Int)(p:Pt):Bool:=decide (p.u∉l/\p.v∉l)
structure RunI (tri:List (List Pt)) (s:TrS):Prop where
 gone:∀x:Int,0<=x->x<tri.length->(e_ s.gone x=true↔x∈s.ord)
 rng:∀x∈s.ord,0<=x/\x<tri.length
 nodup:s.ord.Nodup
 le:∀x∈s.ord,e_ s.num x<=s.k
 asc:s.ord.Pairwise λa b=>e_ s.num a<=e_ s.num b
 later:∀pre x post,s.ord=pre++x::post->(((e_ tri x).filter (outT<|pre++[x])).length:Int)<=e_ s.num x
 high:∀x∈s.ord,e_ s.num x<=(((e_ tri x).filter (okT s.ord s.num<|e_ s.num x)).length:Int)
 rest:∀x:Int,0<=x->x<tri.length->x∉s.ord->s.k<=(((e_ tri x).filter (okT s.ord s.num s.k)).length:Int)
theorem RunI.start(tri:List (List Pt)):RunI tri (startT tri):=by
 have hz:∀i:Int,e_ (replicate tri.length false) i=false:=λi=>by
  unfold e_
  rw [List.getD_eq_getElem?_getD,List.getElem?_replicate]
  split<;>rfl
 refine ⟨λx _ _=>?_,(λx h=>by cases h),List.nodup_nil,(λx h=>by cases h),List.Pairwise.nil,λaa x M h=>?_,(λx h=>by cases h),λx _ _ _=>?_⟩
 ·show e_ (replicate tri.length false) x=true↔x∈([]:List Int)
  rw [hz];simp
 ·exact absurd h<|by show ¬([]:List Int)=_;simp
 show (0:Int)<=_;omega
theorem RunI.step{tri:List (List Pt)}{j:Nat}{s:TrS}(hG:TriG tri)(hs:TrOk m tri.length j s)(hj:j<tri.length)(hS:SupI tri s)(h:RunI tri s):RunI tri (stepTr tri s):=by
 obtain ⟨b0,b1,b2⟩:=hs.best hj
 have hbl:=bestT_le s.sup s.gone tri.length
 unfold stepTr
 generalize bestT s.sup s.gone tri.length=b at b0 b1 b2 hbl ⊢
 have hgl:=hs.glen
 have hnl:=hs.nlen
 have hbo:b∉s.ord:=λhm=>by rw [(h.gone b b0 b1).2 hm] at b2;cases b2
 have hsb:=hS b b0 b1 b2
 generalize hK:max s.k (e_ s.sup b)=k'
 have nb:e_ (s.num.set b.toNat k') b=k':=by rw [at_set _ b b _ b0 b0 (by omega),if_pos rfl]
 have nx:∀x:Int,0<=x->x≠b->e_ (s.num.set b.toNat k') x=e_ s.num x:=λx hx hne=>by rw [at_set _ b x _ b0 hx (by omega),if_neg<|λe=>hne e.symm]
 have ne:∀x∈s.ord,x≠b:=λx hx e=>hbo (e▸hx)
 have hpr:=fun (x:Int) (x0:0<=x) (x1:x<tri.length) p hp=>(hG.rng x x0 x1 p hp).1
 -- what is fine stays fine
 have okm:∀(x:Int),0<=x->x<tri.length->∀c,c<=k'->((e_ tri x).filter (okT s.ord s.num c)).length<=((e_ tri x).filter (okT (s.ord++[b]) (s.num.set b.toNat k') c)).length:=λx x0 x1 c hc=>filter_mono λp hp hok=>by
  have hr:=hpr x x0 x1 p hp
  unfold okT at hok ⊢
  rw [decide_eq_true_eq] at hok ⊢
  have one:∀e:Int,0<=e->(e∈s.ord->c<=e_ s.num e)->e∈s.ord++[b]->c<=e_ (s.num.set b.toNat k') e:=λe e0 he hm=>by
   by_cases e2:e=b
   ·rw [e2,nb];exact hc
   rw [nx e e0 e2]
   rcases List.mem_append.1 hm with hm|hm
   ·exact he hm
   exact absurd (List.mem_singleton.1 hm) e2
  exact ⟨one _ (by omega) hok.1,one _ (by omega) hok.2⟩
 -- what is left is fine at every level
 have live:∀(x:Int),0<=x->x<tri.length->∀c,((e_ tri x).filter (liveT s.gone)).length<=((e_ tri x).filter (okT s.ord s.num c)).length:=λx x0 x1 c=>filter_mono λp hp hl=>by
  have hr:=hpr x x0 x1 p hp
  unfold liveT at hl
  unfold okT
  simp only [Bool.and_eq_true,Bool.not_eq_true'] at hl
  refine decide_eq_true ⟨λhm=>?_,λhm=>?_⟩
  ·rw [(h.gone p.u (by omega)<|by omega).2 hm] at hl;cases hl.1
  rw [(h.gone p.v (by omega)<|by omega).2 hm] at hl;cases hl.2
 have hb':k'<=(((e_ tri b).filter (okT s.ord s.num k')).length:Int):=by
  by_cases hc:s.k<=e_ s.sup b
  ·have h1:=live b b0 b1 k'
   unfold cntT at hsb
   omega
  have h1:=h.rest b b0 b1 hbo
  rw [show k'=s.k by omega];exact h1
 refine ⟨λx x0 x1=>?_,λx hx=>?_,?_,λx hx=>?_,?_,λpre x post e=>?_,λx hx=>?_,λx x0 x1 hx=>?_⟩
 ·show e_ (s.gone.set b.toNat true) x=true↔x∈s.ord++[b]
  rw [at_set _ b x _ b0 x0 (by omega),List.mem_append,List.mem_singleton]
  by_cases e:b=x
  ·rw [if_pos e];simp [e]
  rw [if_neg e,h.gone x x0 x1];exact ⟨.inl,λh=>h.resolve_right λe2=>e e2.symm⟩
 ·rcases List.mem_append.1 hx with hx|hx
  ·exact h.rng x hx
  rw [List.mem_singleton.1 hx];exact ⟨b0,b1⟩
 ·exact List.nodup_append.2 ⟨h.nodup,by simp,λa ha c hc e=>by rw [List.mem_singleton.1 hc] at e;exact hbo<|e▸ha⟩
 ·show e_ (s.num.set b.toNat k') x<=k'
  rcases List.mem_append.1 hx with hx|hx
  ·rw [nx x (h.rng x hx).1 (ne x hx)];have:=h.le x hx;omega
  rw [List.mem_singleton.1 hx,nb];exact Int.le_refl _
 ·refine List.pairwise_append.2 ⟨List.Pairwise.imp_of_mem (fun {a c} ha hc hac=>?_) h.asc,by simp,λa ha c hc=>?_⟩
  ·rw [nx a (h.rng a ha).1 (ne a ha),nx c (h.rng c hc).1 (ne c hc)];exact hac
  rw [List.mem_singleton.1 hc,nb,nx a (h.rng a ha).1 (ne a ha)];have:=h.le a ha;omega
 ·show _<=e_ (s.num.set b.toNat k') x
  have e:s.ord++[b]=pre++x::post:=e
  rcases List.eq_nil_or_concat post with rfl|⟨q,y,rfl⟩
  ·have e1:=List.append_inj' e rfl
   have e2:b=x:=by have:=e1.2;simp at this;exact this
   subst e2
   rw [nb,←e1.1]
   have hf:((e_ tri b).filter (outT<|s.ord++[b])).length<=((e_ tri b).filter (liveT s.gone)).length:=filter_mono λp hp ho=>by
    have hr:=hpr b b0 b1 p hp
    unfold outT at ho
    unfold liveT
    rw [decide_eq_true_eq] at ho
    have one:∀e:Int,0<=e->e<tri.length->e∉s.ord++[b]->e_ s.gone e=false:=λe e0 e1 hn=>by
     cases hg:e_ s.gone e with
     |false=>rfl
     |true=>exact absurd (List.mem_append_left _<|(h.gone e e0 e1).1 hg) hn
    rw [one _ (by omega) (by omega) ho.1,one _ (by omega) (by omega) ho.2];rfl
   unfold cntT at hsb
   omega
  rw [List.concat_eq_append] at e
  have e':s.ord++[b]=(pre++x::q)++[y]:=by rw [e];simp
  have e1:=List.append_inj' e' rfl
  have hx:x∈s.ord:=by rw [e1.1];simp
  rw [nx x (h.rng x hx).1 (ne x hx)]
  exact h.later pre x q e1.1
 ·show e_ (s.num.set b.toNat k') x<=(((e_ tri x).filter (okT (s.ord++[b]) (s.num.set b.toNat k')<|e_ (s.num.set b.toNat k') x)).length:Int)
  rcases List.mem_append.1 hx with hx|hx
  ·have hr:=h.rng x hx
   rw [nx x hr.1 (ne x hx)]
   have h1:=h.high x hx
   have h2:=okm x hr.1 hr.2 (e_ s.num x) (by have:=h.le x hx;omega)
   omega
  rw [List.mem_singleton.1 hx,nb]
  have h2:=okm b b0 b1 k' (Int.le_refl _)
  omega
 show k'<=(((e_ tri x).filter (okT (s.ord++[b]) (s.num.set b.toNat k') k')).length:Int)
 have hx1:x∉s.ord:=λhm=>hx (List.mem_append_left _ hm)
 have hgx:e_ s.gone x=false:=by
  cases hg:e_ s.gone x with
  |false=>rfl
  |true=>exact absurd ((h.gone x x0 x1).1 hg) hx1
 have h2:=okm x x0 x1 k' (Int.le_refl _)
 by_cases hc:s.k<=e_ s.sup b
 ·have h1:=live x x0 x1 k'
  have h3:=hS x x0 x1 hgx
  obtain ⟨i,rfl⟩:=Int.eq_ofNat_of_zero_le x0
  have h4:=hbl i (by omega) hgx
  unfold cntT at h3
  omega
 have h1:=h.rest x x0 x1 hx1
 rw [show k'=s.k by omega] at h2 ⊢
 omega
theorem runTr_I{tri:List (List Pt)}(M:TriG tri)(h:TriOk m tri):∀j,j<=tri.length->SupI tri (runTr tri j)/\RunI tri (runTr tri j)
 |0,_=>⟨SupI.start tri,RunI.start tri⟩
 |j+1,hj=>by
  obtain ⟨h1,h2⟩:=runTr_I M h j (by omega)
  have hs:=runTr_ok h j (by omega)
  exact ⟨h1.step M hs<|by omega,h2.step M hs (by omega) h1⟩
structure TrussE (tri:List (List Pt)) (num ord:List Int):Prop where
 nlen:num.length=tri.length
 olen:ord.length=tri.length
 nodup:ord.Nodup
 rng:∀x∈ord,0<=x/\x<tri.length
 asc:∀i:Nat,i+1<ord.length->e_ num (e_ ord i)<=e_ num (e_ ord ((i+1:Nat):Int))
 later:∀i:Nat,i<ord.length->(((e_ tri<|e_ ord i).filter λp=>decide<|p.u∈List.drop (i+1) ord/\p.v∈List.drop (i+1) ord).length:Int)<=e_ num (e_ ord i)
 high:∀i:Nat,i<ord.length->e_ num (e_ ord i)<=(((e_ tri<|e_ ord i).filter λp=>decide<|e_ num (e_ ord i)<=e_ num p.u/\e_ num (e_ ord i)<=e_ num p.v).length:Int)
theorem trussE{tri:List (List Pt)}(hG:TriG tri)(h:TriOk m tri):TrussE tri (trussN tri) (trussO tri):=by
 have hs:=runTr_ok h tri.length (Nat.le_refl _)
 obtain ⟨_,M⟩:=runTr_I hG h tri.length (Nat.le_refl _)
 have ae:(trussO tri).length=tri.length:=hs.olen
 have aa:∀x:Int,0<=x->x<tri.length->x∈trussO tri:=λx x0 x1=>by
  have hc:=hs.cnt
  have h0:(runTr tri tri.length).gone.count false=0:=by omega
  refine (M.gone x x0 x1).1 ?_
  cases hg:e_ (runTr tri tri.length).gone x with
  |true=>rfl
  |false=>
   exfalso
   have hm:=at_mem (xs:=(runTr tri tri.length).gone) x0 (by have:=hs.glen;omega)
   rw [hg] at hm
   have:=List.count_pos_iff.2 hm
   omega
 have ah:=fun (x:Int) (hx:x∈trussO tri) p hp=>(hG.rng x (M.rng x hx).1 (M.rng x hx).2 p hp).1
 refine ⟨hs.nlen,ae,M.nodup,M.rng,λi hi=>?_,λi hi=>?_,λi hi=>?_⟩
 ·rw [at_get _ i (by omega),at_get _ (i+1) hi]
  exact (List.pairwise_iff_getElem.1 M.asc) i (i+1) (by show i<(trussO tri).length;omega) hi<|by omega
 ·have ad:trussO tri=(trussO tri).take i++e_ (trussO tri) i::(trussO tri).drop (i+1):=by
   rw [at_get _ i hi,←List.drop_eq_getElem_cons hi,List.take_append_drop]
  have h1:=M.later _ _ _ ad
  refine Int.le_trans (Int.ofNat_le.2<|filter_mono λp hp ho=>?_) h1
  unfold outT
  rw [decide_eq_true_eq] at ho ⊢
  have hn:=M.nodup
  have ab:(trussO tri).Nodup:=hn
  rw [ad] at ab
  have hd:=(List.nodup_append.1 ab)
  have one:∀e,e∈List.drop (i+1) (trussO tri)->e∉(trussO tri).take i++[e_ (trussO tri) i]:=λe he hm=>by
   rcases List.mem_append.1 hm with hm|hm
   ·exact hd.2.2 e hm e (List.mem_cons_of_mem _ he) rfl
   rw [List.mem_singleton.1 hm] at he
   exact (List.nodup_cons.1 hd.2.1).1 he
  exact ⟨one _ ho.1,one _ ho.2⟩
 have hx:=at_mem (xs:=trussO tri) (i:=(i:Int)) (by omega) (by omega)
 refine Int.le_trans (M.high _ hx)<|Int.ofNat_le.2<|filter_mono λp hp ho=>?_
 have hr:=ah _ hx p hp
 unfold okT at ho
 rw [decide_eq_true_eq] at ho ⊢
 exact ⟨ho.1<|aa _ (by omega)<|by omega,ho.2<|aa _ (by omega)<|by omega⟩
end Go.Sl
namespace Go.Sl
open Go.Proofs
set_option maxRecDepth 4000
variable{u w x:Int}{i:Nat}{xs:List Pt}
section
variable {nd:Int}{es:List Pt}
theorem edgeP_inj{a b c d:Int}(h:edgeP a b=edgeP c d):(a=c/\b=d)\/(a=d/\b=c):=by
 unfold edgeP at h
 rw [E5] at h
 simp only at h
 obtain ⟨M,h2⟩:=h
 repeat (first|omega|split at M|split at h2)
theorem edgeP_self{e:Pt}(h:e.u<e.v):edgeP e.u e.v=e:=by
 unfold edgeP
 rw [if_neg om,if_pos h]
theorem mem_commonE(M:GrOk nd es){v:Int}(h:u≠v):w∈commonG nd es u v↔edgeP u w∈es/\edgeP v w∈es:=by
 have hm:∀x:Int,w∈nbG nd es x↔edgeP x w∈es:=λx=>by
  unfold nbG
  rw [if_neg (by rw [checkG_ok.2 M];decide),mem_ofL,mem_nbL]
  constructor
  ·rintro (h|h)
   ·have:=(M.edge _ h).2.1
    rw [←edgeP_self this] at h;exact h
   have:=(M.edge _ h).2.1
   rw [←edgeP_self this,edgeP_comm] at h;exact h
  intro h
  have hlt:=(M.edge _ h).2.1
  rcases Int.lt_trichotomy x w with h1|h1|h1
  ·have e:edgeP x w=⟨x,w⟩:=edgeP_self (e:=⟨x,w⟩) h1
   exact .inl<|e▸h
  ·subst h1;unfold edgeP at hlt;simp at hlt
  have e:edgeP x w=⟨w,x⟩:=by rw [edgeP_comm];exact edgeP_self (e:=⟨w,x⟩) h1
  exact .inr<|e▸h
 unfold commonG
 rw [if_neg h,mem_meetL,hm,hm]
theorem edge_ne(M:GrOk nd es)(h:edgeP u w∈es):u≠w:=λe=>by
 subst e
 have:=(M.edge _ h).2.1
 unfold edgeP at this;simp at this
theorem idx_at(hG:GrOk nd es){e:Pt}(h:e∈es):(es.idxOf e)<es.length/\e_ es ((es.idxOf e:Nat):Int)=e:=by
 have M:=List.idxOf_lt_length_of_mem h
 exact ⟨M,by rw [C0 _ _ M];exact List.getElem_idxOf M⟩
theorem idx_eq(hG:GrOk nd es)(h:i<es.length):es.idxOf (e_ es i)=i:=by
 have hm:=Bv (xs:=es) (i:=(i:Int)) om om
 obtain ⟨M,h2⟩:=idx_at hG hm
 generalize es.idxOf (e_ es i)=k at M h2
 have hn:=asc_nodup hG.asc
 rw [C0 _ _ M,C0 _ i h] at h2
 rcases Nat.lt_trichotomy k i with h3|h3|h3
 ·exact absurd h2<|(List.pairwise_iff_getElem.1 hn) k i M h h3
 ·exact h3
 exact absurd h2.symm<|(List.pairwise_iff_getElem.1 hn) i k h M h3
theorem idx_inj(M:GrOk nd es){e f:Pt}(he:e∈es)(hf:f∈es)(h:es.idxOf e=es.idxOf f):e=f:=by
 rw [←(idx_at M he).2,←(idx_at M hf).2,h]
theorem tri_at{i:Int}(M:0<=i)(h1:i<es.length):e_ (trisE nd es) i=triE nd es (e_ es i):=by
 obtain ⟨k,rfl⟩:=Int.eq_ofNat_of_zero_le M
 unfold trisE
 rw [C0 _ k (by rw [List.length_map];omega),C0 _ k om,List.getElem_map]
theorem mem_triE(hG:GrOk nd es){e:Pt}(he:e∈es){p:Pt}:p∈triE nd es e↔∃w,edgeP e.u w∈es/\edgeP e.v w∈es/\p=⟨((es.idxOf (edgeP e.u w):Nat):Int),((es.idxOf (edgeP e.v w):Nat):Int)⟩:=by
 have hlt:=(hG.edge e he).2.1
 unfold triE
 rw [List.mem_map]
 constructor
 ·rintro ⟨w,hw,rfl⟩
  obtain ⟨M,h2⟩:=(mem_commonE hG om).1 hw
  exact ⟨w,M,h2,rfl⟩
 rintro ⟨w,M,h2,rfl⟩
 exact ⟨w,(mem_commonE hG om).2 ⟨M,h2⟩,rfl⟩
theorem triS_iff(hG:GrOk nd es){y:Int}(M:edgeP x y∈es)(hx:edgeP x w∈es)(hy:edgeP y w∈es):TriS (trisE nd es) ((es.idxOf (edgeP x y):Nat):Int) ((es.idxOf (edgeP x w):Nat):Int) ((es.idxOf (edgeP y w):Nat):Int):=by
 obtain ⟨h1,h2⟩:=idx_at hG M
 unfold TriS
 rw [tri_at om om,h2,mem_triE hG M,mem_triE hG M]
 rcases Int.lt_trichotomy x y with h|h|h
 ·have e:edgeP x y=⟨x,y⟩:=edgeP_self (e:=⟨x,y⟩) h
  rw [e]
  exact .inl ⟨w,hx,hy,rfl⟩
 ·exact absurd h<|edge_ne hG M
 have e:edgeP x y=⟨y,x⟩:=by rw [edgeP_comm];exact edgeP_self (e:=⟨y,x⟩) h
 rw [e]
 exact .inr ⟨w,hy,hx,rfl⟩
theorem triG(M:GrOk nd es):TriG (trisE nd es):=by
 have hl:(trisE nd es).length=es.length:=List.length_map ..
 refine ⟨λi h0 h1 p hp=>?_,λi a b h0 h1 hT=>?_,λi h0 h1=>?_⟩
 ·rw [hl] at h1
  have he:=Bv h0 h1
  have hlt:=(M.edge _ he).2.1
  rw [tri_at h0 h1,mem_triE M he] at hp
  obtain ⟨w,hu,hv,rfl⟩:=hp
  have a1:=(idx_at M hu).1
  have a2:=(idx_at M hv).1
  have n1:=edge_ne M hu
  have n2:=edge_ne M hv
  have hi:es.idxOf (e_ es i)=i.toNat:=by
   obtain ⟨k,rfl⟩:=Int.eq_ofNat_of_zero_le h0
   rw [idx_eq M om];simp
  refine ⟨by simp only;omega,λe=>?_,λe=>?_,λe=>?_⟩
  ·have:=edgeP_inj (idx_inj M hu hv<|by simp only at e;omega);omega
  ·have h3:=idx_inj M hu he (by simp only at e;omega)
   rw [←edgeP_self hlt] at h3
   have:=edgeP_inj h3;omega
  have h3:=idx_inj M hv he (by simp only at e;omega)
  rw [←edgeP_self hlt] at h3
  have:=edgeP_inj h3;omega
 ·rw [hl] at h1
  have he:=Bv h0 h1
  have hlt:=(M.edge _ he).2.1
  have hi:i=((es.idxOf (edgeP (e_ es i).u (e_ es i).v):Nat):Int):=by
   rw [edgeP_self hlt]
   obtain ⟨k,rfl⟩:=Int.eq_ofNat_of_zero_le h0
   rw [idx_eq M om]
  have ab:edgeP (e_ es i).u (e_ es i).v∈es:=by rw [edgeP_self hlt];exact he
  unfold TriS at hT
  rw [tri_at h0 h1,mem_triE M he,mem_triE M he] at hT
  rcases hT with ⟨w,hu,hv,e⟩|⟨w,hu,hv,e⟩
  ·rw [E5] at e
   obtain ⟨e1,e2⟩:=e
   simp only at e1 e2
   rw [e1,e2]
   have:=triS_iff M (x:=(e_ es i).u) (y:=w) (w:=(e_ es i).v) hu ab (by rw [edgeP_comm];exact hv)
   rw [edgeP_comm w,←hi] at this;exact this
  rw [E5] at e
  obtain ⟨e1,e2⟩:=e
  simp only at e1 e2
  rw [e1,e2]
  have:=triS_iff M (x:=(e_ es i).v) (y:=w) (w:=(e_ es i).u) hv (by rw [edgeP_comm];exact ab) (by rw [edgeP_comm];exact hu)
  rw [edgeP_comm w,edgeP_comm (e_ es i).v (e_ es i).u,←hi] at this;exact this
 rw [hl] at h1
 have he:=Bv h0 h1
 have hlt:=(M.edge _ he).2.1
 rw [tri_at h0 h1]
 unfold triE
 have aa:(commonG nd es (e_ es i).u (e_ es i).v).Pairwise (λx0 x1:Int=>x0<x1):=by
  unfold commonG;split
  ·exact List.Pairwise.nil
  unfold meetL;exact (ofL_asc _).sublist List.filter_sublist
 refine List.pairwise_map.2<|List.Pairwise.imp_of_mem (fun {w z} hw hz ad=>?_) aa
 obtain ⟨w1,w2⟩:=(mem_commonE M om).1 hw
 obtain ⟨z1,z2⟩:=(mem_commonE M om).1 hz
 have q1:=edge_ne M w1
 have q2:=edge_ne M w2
 have q3:=edge_ne M z1
 have q4:=edge_ne M z2
 refine ⟨λe=>?_,λe=>?_,λe=>?_,λe=>?_⟩
 ·have:=edgeP_inj (idx_inj M w1 z1<|by simp only at e;omega);omega
 ·have:=edgeP_inj (idx_inj M w1 z2<|by simp only at e;omega);omega
 ·have:=edgeP_inj (idx_inj M w2 z1<|by simp only at e;omega);omega
 have:=edgeP_inj (idx_inj M w2 z2<|by simp only at e;omega);omega
end
section
variable {nd:Int}{es:List Pt}
theorem ftP_yes(p:Pt->Bool){k:Nat}(h:k<xs.length)(M:p (e_ xs k)=true):((((xs.take (k+1)).filter p).length:Nat):Int)=(((xs.take k).filter p).length:Nat)+1:=by
 rw [Ct _ k h,List.filter_append,List.length_append,List.filter_cons,if_pos M];simp
theorem ftP_no(p:Pt->Bool){k:Nat}(h:k<xs.length)(M:p (e_ xs k)=false):((((xs.take (k+1)).filter p).length:Nat):Int)=(((xs.take k).filter p).length:Nat):=by
 rw [Ct _ k h,List.filter_append,List.length_append,List.filter_cons,M];simp
end


theorem filt_mono{p q:Pt->Bool}(h:∀x∈xs,p x=true->q x=true):(xs.filter p).length<=(xs.filter q).length:=by
 rw [←List.countP_eq_length_filter,←List.countP_eq_length_filter];exact List.countP_mono_left h
theorem asc_lenN{l:List Int}{n:Nat}(h:l.Nodup)(M:∀x∈l,0<=x/\x<n):l.length<=n:=by
 have:=List.Nodup.length_le_of_subset h (l₂:=(List.range n).map λi=>((i:Nat):Int)) λx hx=>by
  have:=M x hx
  exact List.mem_map.2 ⟨x.toNat,List.mem_range.2 om,by omega⟩
 rwa [List.length_map,List.length_range] at this
section
variable {tri:List (List Pt)}{num ord l:List Int}{k:Int}
theorem TrussE.pos(M:TrussE tri num ord)(h0:0<=x)(h1:x<tri.length):∃i:Nat,i<ord.length/\e_ ord i=x:=by
 by_cases hx:x∈ord
 ·obtain ⟨i,hi,e⟩:=mem_atN hx
  exact ⟨i,hi,e.symm⟩
 have:=asc_lenN (n:=tri.length) (List.nodup_cons.2 ⟨hx,M.nodup⟩) λy hy=>by
  rcases List.mem_cons.1 hy with rfl|hy
  ·exact ⟨h0,h1⟩
  exact M.rng y hy
 have:=M.olen
 simp only [List.length_cons] at *
 omega
theorem mem_dropN{l:List Int}{m:Nat}(h:i<m)(M:m<l.length):e_ l m∈List.drop (i+1) l:=by
 rw [C0 _ m M,List.mem_iff_getElem]
 refine ⟨m - (i+1),by rw [List.length_drop];omega,?_⟩
 rw [List.getElem_drop]
 congr 1;omega
end
section
variable {nd lv:Int}{es:List Pt}{l m:List Int}
theorem trussG_E(M:GrOk nd es):TrussE (trisE nd es) (trussG nd es) (trussO (trisE nd es)):=by
 unfold trussG
 rw [if_neg (by rw [checkG_ok.2 M];decide)]
 exact trussE (triG M)<|tris_ok M
theorem trussG_lenE(M:GrOk nd es):(trussG nd es).length=es.length:=by
 rw [(trussG_E M).nlen];exact List.length_map ..
theorem trussG_pos(M:GrOk nd es)(h0:0<=u)(h1:u<(trussG nd es).length):0<=e_ (trussG nd es) u/\e_ (trussG nd es) u<=nd - 1:=by
 have hl:=trussG_lenE M
 have he:=M.edge (e_ es u) (Bv om om)
 exact trussG_bd M om _<|Bv h0 h1
end
end Go.Sl
