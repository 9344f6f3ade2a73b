/- A part of the proofs of statements of this seat: contracts of functions, and the plain laws that they lean on. No conditions. -/
import Derived.Test.YtfkcohmipjhfcaaGreatDoorW10
set_option linter.unusedVariables false
set_option linter.unusedSimpArgs false
set_option linter.unusedSectionVars false
/- The densest set by prices that grow. The plain law. No Go. No conditions. -/
namespace Go.Sl
def insE(W:BitVec 64)(es:List Pt):Int:=((es.filter λe=>W.getLsbD e.u.toNat&&W.getLsbD e.v.toNat).length:Int)
def subN(nd:Int)(W:BitVec 64):Prop:=∀x∈eo W,x<nd
def cntB(W:BitVec 64):Int:=((eo W).length:Int)
theorem insE_bd(W:BitVec 64)(es:List Pt):0<=insE W es/\insE W es<=es.length:=by
 unfold insE
 have:=List.length_filter_le (λe:Pt=>W.getLsbD e.u.toNat&&W.getLsbD e.v.toNat) es
 omega
theorem insE_take{W:BitVec 64}{es:List Pt}{k:Nat}(h:k<es.length):insE W (es.take (k+1))=insE W (es.take k)+if W.getLsbD (e_ es k).u.toNat&&W.getLsbD (e_ es k).v.toNat then 1 else 0:=by
 unfold insE
 rw [Di es k h,List.filter_append,List.length_append]
 cases hc:(W.getLsbD (e_ es k).u.toNat&&W.getLsbD (e_ es k).v.toNat)<;>simp [List.filter_cons,hc]
theorem sum_ins(D:Int)(W:BitVec 64)(es:List Pt):(es.map λe=>if W.getLsbD e.u.toNat&&W.getLsbD e.v.toNat then (0:Int) else D).sum=D*((es.length:Int) - insE W es):=by
 induction es with
 |nil=>simp [insE]
 |cons e es ih=>
  rw [List.map_cons,List.sum_cons,ih]
  unfold insE
  rw [List.filter_cons]
  cases hc:(W.getLsbD e.u.toNat&&W.getLsbD e.v.toNat)
  ·rw [if_neg dc,if_neg dc,List.length_cons]
   rw [show (((es.length+1:Nat):Int) - ((es.filter λe=>W.getLsbD e.u.toNat&&W.getLsbD e.v.toNat).length:Int))=((es.length:Int) - ((es.filter λe=>W.getLsbD e.u.toNat&&W.getLsbD e.v.toNat).length:Int))+1 by omega,Int.mul_add]
   omega
  ·rw [if_pos rfl,if_pos rfl,List.length_cons,List.length_cons]
   rw [show (((es.length+1:Nat):Int) - (((es.filter λe=>W.getLsbD e.u.toNat&&W.getLsbD e.v.toNat).length+1:Nat):Int))=((es.length:Int) - ((es.filter λe=>W.getLsbD e.u.toNat&&W.getLsbD e.v.toNat).length:Int)) by omega]
   omega
theorem sum_cnt(N:Int)(p:Nat->Bool)(n:Nat):sumN n (λv=>if p v then N else 0)=N*(((List.range n).filter p).length:Int):=by
 induction n with
 |zero=>simp [sumN]
 |succ n ih=>
  rw [List.range_succ,List.filter_append,List.length_append]
  simp only [sumN]
  rw [ih]
  cases hc:p n
  ·simp [List.filter_cons,hc]
  ·rw [if_pos rfl,show ([n].filter p).length=1 by simp [List.filter_cons,hc],Int.natCast_add,Int.mul_add]
   simp
theorem listN_range{nd:Int}{W:BitVec 64}(h:subN nd W)(h0:0<=nd)(h1:nd<=64):listN W=(List.range nd.toNat).filter λi=>W.getLsbD i:=by
 unfold listN
 have hs:List.range 64=List.range nd.toNat++(List.range (64 - nd.toNat)).map (nd.toNat + ·):=by
  rw [←List.range_add];congr 1;omega
 rw [hs,List.filter_append]
 have:(((List.range (64 - nd.toNat)).map (nd.toNat + ·)).filter λi=>W.getLsbD i)=[]:=by
  rw [List.filter_eq_nil_iff]
  intro i hi hb
  obtain ⟨j,_,rfl⟩:=List.mem_map.1 hi
  have:=h ((nd.toNat+j:Nat):Int) (mem_listB.2 ⟨by omega,by rw [Int.toNat_natCast];exact hb⟩)
  omega
 rw [this,List.append_nil]
theorem cost_bits{nd N D:Int}{es:List Pt}{W:BitVec 64}(h0:0<=nd)(h1:nd<=64)(h:subN nd W):costW nd N D es (λv=>W.getLsbD v.toNat)=N*cntB W+D*((es.length:Int) - insE W es):=by
 unfold costW
 have e1:=sum_cnt N (λi=>W.getLsbD i) nd.toNat
 rw [←listN_range h h0 h1] at e1
 have e2:=sumN_list (λe:Pt=>if W.getLsbD e.u.toNat&&W.getLsbD e.v.toNat then (0:Int) else D) es
 rw [sum_ins] at e2
 have e3:cntB W=((listN W).length:Int):=by unfold cntB eo;rw [List.length_map]
 rw [e3,←e1,←e2]
 congr 1
theorem cost_congr{nd N D:Int}{es:List Pt}{W W':Int->Bool}(hG:GrOk nd es)(h:∀v,0<=v->v<nd->W v=W' v):costW nd N D es W=costW nd N D es W':=by
 unfold costW
 congr 1
 ·exact Dg _ λv hv=>by rw [h _ om om]
 ·refine Dg _ λi hi=>?_
  have he:=hG.edge _ (Cq (xs:=es) (i:=(i:Int)) om om)
  rw [h _ he.1 om,h _ om he.2.2]
structure SolveP (nd N D:Int) (es:List Pt) (B:BitVec 64):Prop where
 sub:subN nd B
 max:∀W,subN nd W->D*insE W es - N*cntB W<=D*insE B es - N*cntB B
 great:∀W,subN nd W->D*insE B es - N*cntB B<=D*insE W es - N*cntB W->∀x∈eo W,x∈eo B
theorem great_solve{nd N D:Int}{es:List Pt}(hG:GrOk nd es)(hm:es.length<=2016)(hN:0<=N/\N<=1099511627776)(hD:0<=D/\D<=1099511627776){f:List Int}{T:Int->Bool}(hf:IsFlow (denseNet nd N D es) f)(hT:Great (denseNet nd N D es) f T)
  {B:BitVec 64} (hB:∀v,v∈eo B↔(0<=v/\v<nd)/\T (2+v)=true):SolveP nd N D es B:=by
 have hr:=hG.rng
 have hs:subN nd B:=λx hx=>((hB x).1 hx).1.2
 have hc:costW nd N D es (λv=>T (2+v))=costW nd N D es (λv=>B.getLsbD v.toNat):=cost_congr hG λv h0 h1=>by
  rw [Bool.eq_iff_iff]
  have:=hB v
  rw [El] at this
  constructor
  ·intro h;exact (this.2 ⟨⟨h0,h1⟩,h⟩).2
  ·intro h;exact (this.1 ⟨h0,h⟩).2
 rw [cost_bits hr.1 hr.2 hs] at hc
 have key:∀x y:Int,D*((es.length:Int) - x)=D*es.length - D*x:=λx y=>Int.mul_sub _ _ _
 refine ⟨hs,λW hW=>?_,λW hW hle x hx=>?_⟩
 ·have h:=(great_cost hG hm hN hD hf hT λv=>W.getLsbD v.toNat).1
  rw [hc,cost_bits hr.1 hr.2 hW,key _ 0,key _ 0] at h
  omega
 ·have h:=(great_cost hG hm hN hD hf hT λv=>W.getLsbD v.toNat).2
  rw [hc,cost_bits hr.1 hr.2 hW,key _ 0,key _ 0] at h
  have hx':=mem_listB.1 hx
  have h0:=hx'.1
  have h1:=hW x hx
  exact (hB x).2 ⟨⟨h0,h1⟩,h om x h0 h1 hx'.2⟩
structure DensP (nd N D:Int) (es:List Pt) (B:BitVec 64):Prop where
 sub:subN nd B
 ne:B≠0#64
 eq:D*insE B es=N*cntB B
 max:∀W,subN nd W->D*insE W es<=N*cntB W
 great:∀W,subN nd W->D*insE W es=N*cntB W->∀x∈eo W,x∈eo B
theorem cntB_pos{W:BitVec 64}(h:W≠0#64):1<=cntB W/\cntB W<=64:=by
 obtain ⟨u,hu⟩:=nz_listB.1 h
 have:=List.length_pos_of_mem hu
 have:=Em W
 unfold cntB;omega
theorem insE_zero(es:List Pt):insE 0#64 es=0:=by
 unfold insE;simp
theorem cntB_zero:cntB 0#64=0:=by unfold cntB;rw [Du];rfl
theorem pos_set{nd N D:Int}{es:List Pt}{B:BitVec 64}(h:0<D*insE B es - N*cntB B):B≠0#64:=λe=>by
 subst e
 rw [insE_zero,cntB_zero] at h;omega
theorem SolveP.done{nd N D:Int}{es:List Pt}{S B:BitVec 64}(h:SolveP nd N D es B)(hS:subN nd S)(hne:S≠0#64)(hp:D*insE S es=N*cntB S)(hle:insE B es*D<=N*cntB B):DensP nd N D es B:=by
 have h1:=h.max S hS
 have e:insE B es*D=D*insE B es:=Int.mul_comm _ _
 have hz:D*insE B es=N*cntB B:=by omega
 refine ⟨h.sub,λe0=>?_,hz,λW hW=>by have:=h.max W hW;omega,λW hW hw=>h.great W hW om⟩
 obtain ⟨u,hu⟩:=nz_listB.1 hne
 have:=h.great S hS om u hu
 rw [e0,Du] at this;cases this
def densM(es:List Pt)(W:BitVec 64):Nat:=(4096*(insE W es).toNat) / (cntB W).toNat
theorem dens_grow{a b s t:Nat}(hs:1<=s/\s<=64)(ht:1<=t/\t<=64)(h:a*t<b*s):4096*a / s<4096*b / t:=by
 have h1:(4096*a / s)*s<=4096*a:=Nat.div_mul_le_self _ _
 refine Nat.lt_of_succ_le ((Nat.le_div_iff_mul_le om).2 ?_)
 generalize 4096*a / s=q at h1
 have h2:(q+1)*s<=4096*a+s:=by rw [Nat.add_mul];omega
 have h3:((q+1)*s)*t<=(4096*a+s)*t:=Nat.mul_le_mul_right _ h2
 have h4:(4096*a+s)*t=4096*(a*t)+s*t:=by rw [Nat.add_mul,Nat.mul_assoc]
 have h5:s*t<=64*64:=Nat.mul_le_mul hs.2 ht.2
 have h6:((q+1)*t)*s<=(4096*b)*s:=by
  have e1:((q+1)*t)*s=((q+1)*s)*t:=by rw [Nat.mul_assoc,Nat.mul_comm t s,←Nat.mul_assoc]
  have e2:(4096*b)*s=4096*(b*s):=Nat.mul_assoc _ _ _
  rw [e1,e2];omega
 exact Nat.le_of_mul_le_mul_right h6 om
theorem densM_grow{nd N D:Int}{es:List Pt}{S B:BitVec 64}(hS:S≠0#64)(hD:1<=D)(hp:D*insE S es=N*cntB S)(hlt:¬insE B es*D<=N*cntB B):densM es S<densM es B:=by
 have hB:B≠0#64:=pos_set (nd:=nd) (N:=N) (D:=D) (es:=es) (by have e:insE B es*D=D*insE B es:=Int.mul_comm _ _;omega)
 have s1:=cntB_pos hS
 have s2:=cntB_pos hB
 have i1:=insE_bd S es
 have i2:=insE_bd B es
 unfold densM
 refine dens_grow om om ?_
 have hz:insE S es*cntB B<insE B es*cntB S:=by
  refine Int.lt_of_mul_lt_mul_left (a:=D) ?_ om
  rw [←Int.mul_assoc,hp,←Int.mul_assoc,Int.mul_comm D (insE B es),Int.mul_assoc N,Int.mul_comm (cntB S) (cntB B),←Int.mul_assoc N]
  exact Int.mul_lt_mul_of_pos_right om om
 have c1:((insE S es).toNat:Int)=insE S es:=Int.toNat_of_nonneg i1.1
 have c2:((insE B es).toNat:Int)=insE B es:=Int.toNat_of_nonneg i2.1
 have c3:((cntB S).toNat:Int)=cntB S:=Int.toNat_of_nonneg om
 have c4:((cntB B).toNat:Int)=cntB B:=Int.toNat_of_nonneg om
 have:(((insE S es).toNat*(cntB B).toNat:Nat):Int)<(((insE B es).toNat*(cntB S).toNat:Nat):Int):=by
  rw [Int.natCast_mul,Int.natCast_mul,c1,c2,c3,c4];exact hz
 exact Int.ofNat_lt.1 this
theorem densM_le{es:List Pt}(hm:es.length<=2016){W:BitVec 64}(h:W≠0#64):densM es W<=8257536:=by
 have i1:=insE_bd W es
 have s1:=cntB_pos h
 unfold densM
 refine Nat.le_trans (Nat.div_le_self _ _) ?_
 omega
theorem DensP.uniq{nd N D N' D':Int}{es:List Pt}{B B':BitVec 64}(hD:1<=D)(hD':1<=D')(h:DensP nd N D es B)(h':DensP nd N' D' es B'):N*D'=N'*D:=by
 have s1:=cntB_pos h.ne
 have s2:=cntB_pos h'.ne
 have a:=h'.max B h.sub
 have b:=h.max B' h'.sub
 have e:=h.eq
 have e':=h'.eq
 -- N / D = insE B / cntB B ≤ N' / D'
 have k1:N*D'*cntB B<=N'*D*cntB B:=by
  have:D'*(D*insE B es)<=D*(N'*cntB B):=by
   rw [←Int.mul_assoc,Int.mul_comm D' D,Int.mul_assoc]
   exact Int.mul_le_mul_of_nonneg_left a om
  rw [e] at this
  rw [show N*D'*cntB B=D'*(N*cntB B) by rw [Int.mul_comm N D',Int.mul_assoc],show N'*D*cntB B=D*(N'*cntB B) by rw [Int.mul_comm N' D,Int.mul_assoc]]
  exact this
 have k2:N'*D*cntB B'<=N*D'*cntB B':=by
  have:D*(D'*insE B' es)<=D'*(N*cntB B'):=by
   rw [←Int.mul_assoc,Int.mul_comm D D',Int.mul_assoc]
   exact Int.mul_le_mul_of_nonneg_left b om
  rw [e'] at this
  rw [show N*D'*cntB B'=D'*(N*cntB B') by rw [Int.mul_comm N D',Int.mul_assoc],show N'*D*cntB B'=D*(N'*cntB B') by rw [Int.mul_comm N' D,Int.mul_assoc]]
  exact this
 have j1:=Int.le_of_mul_le_mul_right k1 om
 have j2:=Int.le_of_mul_le_mul_right k2 om
 omega
theorem DensP.reach{nd N D:Int}{es:List Pt}{B:BitVec 64}(hD:1<=D)(h:DensP nd N D es B){a b:Int}(hb:1<=b):a*D<=N*b↔∃W,subN nd W/\W≠0#64/\a*cntB W<=b*insE W es:=by
 have s1:=cntB_pos h.ne
 have e:=h.eq
 constructor
 ·intro hle
  refine ⟨B,h.sub,h.ne,Int.le_of_mul_le_mul_right (a:=D) ?_ om⟩
  rw [Int.mul_assoc b,Int.mul_comm (insE B es) D,e,show a*cntB B*D=a*D*cntB B by rw [Int.mul_assoc,Int.mul_comm (cntB B),←Int.mul_assoc],show b*(N*cntB B)=N*b*cntB B by rw [←Int.mul_assoc,Int.mul_comm b N]]
  exact Int.mul_le_mul_of_nonneg_right hle om
 ·rintro ⟨W,hW,hne,hle⟩
  have s2:=cntB_pos hne
  have hm:=h.max W hW
  refine Int.le_of_mul_le_mul_right (a:=cntB W) ?_ om
  have h1:a*cntB W*D<=b*insE W es*D:=Int.mul_le_mul_of_nonneg_right hle om
  have h2:b*(D*insE W es)<=b*(N*cntB W):=Int.mul_le_mul_of_nonneg_left hm om
  rw [show a*D*cntB W=a*cntB W*D by rw [Int.mul_assoc,Int.mul_comm D,←Int.mul_assoc],show N*b*cntB W=b*(N*cntB W) by rw [Int.mul_comm N b,Int.mul_assoc]]
  rw [show b*insE W es*D=b*(D*insE W es) by rw [Int.mul_assoc,Int.mul_comm (insE W es)]] at h1
  omega
end Go.Sl
/- Fewer edges lie inside a set than it has nodes, times all nodes. The plain law. No Go. No conditions. -/
namespace Go.Sl
end Go.Sl
/- Layers and sending along them: the plain law. No Go. -/
namespace Go.Sl
structure Half where
 frm:Int
 dst:Int
 cap:Int
 left:Int
deriving Inhabited
def fromH(n:Net)(i:Int):Int:=if i % 2=0 then (e_ n.arcs (i / 2)).frm else (e_ n.arcs (i / 2)).dst
def toH(n:Net)(i:Int):Int:=if i % 2=0 then (e_ n.arcs (i / 2)).dst else (e_ n.arcs (i / 2)).frm
def leftH(n:Net)(f:List Int)(i:Int):Int:=if i % 2=0 then (e_ n.arcs (i / 2)).cap - e_ f (i / 2) else e_ f (i / 2)
def mateH(i:Int):Int:=if i % 2=0 then i+1 else i - 1
def InH(n:Net)(i:Int):Prop:=0<=i/\i<2*n.arcs.length
def CapF(n:Net)(f:List Int):Prop:=∀k:Nat,k<n.arcs.length->0<=e_ f k/\e_ f k<=(e_ n.arcs k).cap
structure HOk (n:Net) (f:List Int) (hs:List Half):Prop where
 len:(hs.length:Int)=2*n.arcs.length
 flen:f.length=n.arcs.length
 cap:CapF n f
 get:∀i,InH n i->(e_ hs i).frm=fromH n i/\(e_ hs i).dst=toH n i/\(e_ hs i).left=leftH n f i
structure ROk (n:Net) (rs:List (List Int)):Prop where
 len:(rs.length:Int)=n.nodes
 all:∀v,0<=v->v<n.nodes->∀i∈e_ rs v,InH n i/\fromH n i=v
 has:∀i,InH n i->i∈e_ rs (fromH n i)
section
variable {n:Net}{f g:List Int}{hs:List Half}{rs:List (List Int)}{i j:Int}
theorem InH.half(h:InH n i):0<=i / 2/\i / 2<n.arcs.length:=by unfold InH at h;omega
theorem InH.mate(h:InH n i):InH n (mateH i):=by unfold InH mateH at *; split<;>omega
theorem mate_mate(i:Int):mateH (mateH i)=i:=by unfold mateH;split<;>split<;>omega
theorem mate_ne(i:Int):mateH i≠i:=by unfold mateH;split<;>omega
theorem mate_half(i:Int):mateH i / 2=i / 2:=by unfold mateH;split<;>omega
theorem mate_par(i:Int):mateH i % 2=0↔¬i % 2=0:=by unfold mateH;split<;>omega
theorem from_mate(n:Net)(i:Int):fromH n (mateH i)=toH n i:=by
 unfold fromH toH;rw [mate_half]
 by_cases h:i % 2=0
 ·rw [if_neg (λh'=>(mate_par i).1 h' h),if_pos h]
 ·rw [if_pos ((mate_par i).2 h),if_neg h]
theorem to_mate(n:Net)(i:Int):toH n (mateH i)=fromH n i:=by rw [←from_mate,mate_mate]
theorem left_sum(n:Net)(f:List Int)(i:Int):leftH n f i+leftH n f (mateH i)=(e_ n.arcs (i / 2)).cap:=by
 unfold leftH;rw [mate_half]
 by_cases h:i % 2=0
 ·rw [if_neg (λh'=>(mate_par i).1 h' h),if_pos h];omega
 ·rw [if_pos ((mate_par i).2 h),if_neg h];omega
theorem left_ok(hc:CapF n f)(h:InH n i):0<=leftH n f i/\leftH n f i<=(e_ n.arcs (i / 2)).cap:=by
 have:=cap_ok hc h.half.1 h.half.2
 unfold leftH
 split<;>omega
theorem from_ok(hok:n.Ok)(h:InH n i):(0<=fromH n i/\fromH n i<n.nodes)/\(0<=toH n i/\toH n i<n.nodes)/\fromH n i≠toH n i:=by
 have:=arc_ok hok h.half.1 h.half.2
 unfold fromH toH
 split<;>omega
def pushF(f:List Int)(i d:Int):List Int:=if i % 2=0 then f.set (i / 2).toNat (e_ f (i / 2)+d) else f.set (i / 2).toNat (e_ f (i / 2) - d)
def pushHs(hs:List Half)(i d:Int):List Half:=
 (hs.set i.toNat {e_ hs i with left:=(e_ hs i).left - d}).set (mateH i).toNat {e_ (hs.set i.toNat {e_ hs i with left:=(e_ hs i).left - d}) (mateH i) with left:=(e_ (hs.set i.toNat {e_ hs i with left:=(e_ hs i).left - d}) (mateH i)).left+d}
theorem pushF_len(d:Int):(pushF f i d).length=f.length:=by unfold pushF;split<;>simp
theorem pushF_at(hl:f.length=n.arcs.length)(h:InH n i)(d:Int)(hj:0<=j):e_ (pushF f i d) j=e_ f j+if i / 2=j then (if i % 2=0 then d else -d) else 0:=by
 have:=h.half
 unfold pushF
 by_cases hp:i % 2=0
 ·rw [if_pos hp,if_pos hp,Dh f (i / 2) j _ om hj om]
  split
  ·rename_i e;rw [e]
  ·omega
 ·rw [if_neg hp,if_neg hp,Dh f (i / 2) j _ om hj om]
  split
  ·rename_i e;rw [e];omega
  ·omega
theorem left_push(hl:f.length=n.arcs.length)(h:InH n i)(d:Int)(hj:InH n j):leftH n (pushF f i d) j=leftH n f j+(if j=i then -d else 0)+(if j=mateH i then d else 0):=by
 have h1:=h.half
 have h2:=hj.half
 unfold leftH
 rw [pushF_at hl h d h2.1]
 unfold mateH
 by_cases hi:i % 2=0<;>by_cases hjp:j % 2=0<;>by_cases hh:i / 2=j / 2
 all_goals simp only [hi,hjp,hh,if_true,if_false]
 all_goals (repeat' split)<;>omega
theorem pushF_cap(hl:f.length=n.arcs.length)(hc:CapF n f)(h:InH n i){d:Int}(h0:0<=d)(hd:d<=leftH n f i):CapF n (pushF f i d):=λk hk=>by
 rw [pushF_at hl h d om]
 have:=hc k hk
 unfold leftH at hd
 by_cases hi:i % 2=0<;>by_cases hh:i / 2=(k:Int)
 all_goals simp only [hi,if_true,if_false] at hd
 all_goals simp only [hi,hh,if_true,if_false]
 all_goals (try rw [hh] at hd)
 all_goals omega
theorem netF_push(hl:f.length=n.arcs.length)(h:InH n i)(d z:Int):netF n (pushF f i d) z=netF n f z+(if fromH n i=z then d else 0) - (if toH n i=z then d else 0):=by
 have h1:=h.half
 unfold pushF fromH toH
 have e:((((i / 2).toNat:Nat)):Int)=i / 2:=by omega
 by_cases hp:i % 2=0
 ·rw [if_pos hp,if_pos hp,if_pos hp,netF_set om hl,e]
  split<;>split<;>omega
 ·rw [if_neg hp,if_neg hp,if_neg hp,netF_set om hl,e]
  split<;>split<;>omega
theorem HOk.push(h:HOk n f hs)(hi:InH n i){d:Int}(h0:0<=d)(hd:d<=leftH n f i):HOk n (pushF f i d) (pushHs hs i d):=by
 have hl:=h.len
 have hm:=hi.mate
 refine ⟨by unfold pushHs;simp;exact h.len,(pushF_len d).trans h.flen,pushF_cap h.flen h.cap hi h0 hd,λj hj=>?_⟩
 have hne:=mate_ne i
 have e1:e_ (hs.set i.toNat {e_ hs i with left:=(e_ hs i).left - d}) (mateH i)=e_ hs (mateH i):=by
  rw [Dh hs i _ _ hi.1 hm.1 (by have:=hi.2;omega),if_neg (λe=>hne e.symm)]
 have ej:e_ (pushHs hs i d) j=if mateH i=j then {e_ hs (mateH i) with left:=(e_ hs (mateH i)).left+d} else if i=j then {e_ hs i with left:=(e_ hs i).left - d} else e_ hs j:=by
  unfold pushHs
  rw [Dh _ (mateH i) j _ hm.1 hj.1 (by rw [List.length_set];have:=hm.2;omega),e1,Dh hs i j _ hi.1 hj.1 (by have:=hi.2;omega)]
 rw [ej,left_push h.flen hi d hj]
 by_cases a:mateH i=j
 ·subst a
  rw [if_pos rfl,if_neg hne,if_pos rfl]
  have:=h.get _ hm
  exact ⟨this.1,this.2.1,by show (e_ hs (mateH i)).left+d=_;omega⟩
 ·rw [if_neg a,if_neg (show ¬j=mateH i from λe=>a e.symm)]
  by_cases b:i=j
  ·subst b
   rw [if_pos rfl,if_pos rfl]
   have:=h.get _ hi
   exact ⟨this.1,this.2.1,by show (e_ hs i).left - d=_;omega⟩
  ·rw [if_neg b,if_neg (show ¬j=i from λe=>b e.symm)]
   have:=h.get _ hj
   exact ⟨this.1,this.2.1,by omega⟩
theorem shut_half{S:Int->Bool}:Shut n f S↔∀i,InH n i->S (fromH n i)=true->0<leftH n f i->S (toH n i)=true:=by
 constructor
 ·intro h i hi hs hl
  have h1:=hi.half
  have e:((((i / 2).toNat:Nat)):Int)=i / 2:=by omega
  have:=h (i / 2).toNat om
  rw [e] at this
  unfold fromH at hs
  unfold leftH at hl
  unfold toH
  by_cases hp:i % 2=0
  ·rw [if_pos hp] at *; exact this.1 hs om
  ·rw [if_neg hp] at *; exact this.2 hs hl
 ·intro h k hk
  have h1:=h (2*(k:Int)) (by unfold InH;omega)
  have h2:=h (2*(k:Int)+1) (by unfold InH;omega)
  unfold fromH toH leftH at h1 h2
  rw [if_pos om,if_pos om,if_pos om,show (2*(k:Int)) / 2=k from by omega] at h1
  rw [if_neg om,if_neg om,if_neg om,show (2*(k:Int)+1) / 2=k from by omega] at h2
  exact ⟨λa b=>h1 a om,h2⟩
inductive Adm (n:Net) (f L:List Int):Int->Prop
 |sink:Adm n f L n.sink
 |step (i:Int):InH n i->0<leftH n f i->e_ L (toH n i)=e_ L (fromH n i)+1->Adm n f L (toH n i)->Adm n f L (fromH n i)
def Less(n:Net)(L f f':List Int):Prop:=∀i,InH n i->e_ L (toH n i)=e_ L (fromH n i)+1->leftH n f' i<=leftH n f i
theorem Less.refl(n:Net)(L f:List Int):Less n L f f:=λ_ _ _=>Int.le_refl _
theorem Less.trans{L h:List Int}(a:Less n L f g)(b:Less n L g h):Less n L f h:=λi hi hl=>Int.le_trans (b i hi hl) (a i hi hl)
theorem Adm.less{L f':List Int}(hl:Less n L f f'){z:Int}(h:Adm n f' L z):Adm n f L z:=by
 induction h with
 |sink=>exact .sink
 |step i hi hp hL _ ih=>exact .step i hi (by have:=hl i hi hL;omega) hL ih
def Dead(n:Net)(rs:List (List Int))(L f nx:List Int):Prop:=∀u,0<=u->u<n.nodes->∀j:Nat,(j:Int)<e_ nx u->j<(e_ rs u).length->
 ¬(0<leftH n f (e_ (e_ rs u) j)/\e_ L (toH n (e_ (e_ rs u) j))=e_ L u+1/\Adm n f L (toH n (e_ (e_ rs u) j)))
theorem Dead.less{L f' nx:List Int}(hr:ROk n rs)(hl:Less n L f f')(h:Dead n rs L f nx):Dead n rs L f' nx:=λu h0 h1 j hj hjl ⟨a,b,c⟩=>by
 have hm:=hr.all u h0 h1 _ (Cq (xs:=e_ rs u) (i:=(j:Int)) om om)
 refine h u h0 h1 j hj hjl ⟨?_,b,c.less hl⟩
 have:=hl _ hm.1 (by rw [hm.2];exact b)
 omega
theorem Dead.adv{L nx:List Int}{v:Int}(h:Dead n rs L f nx)(hv:0<=v/\v<nx.length)(hx:0<=e_ nx v)
  (hd:¬(0<leftH n f (e_ (e_ rs v) (e_ nx v))/\e_ L (toH n (e_ (e_ rs v) (e_ nx v)))=e_ L v+1/\Adm n f L (toH n (e_ (e_ rs v) (e_ nx v))))):Dead n rs L f (nx.set v.toNat (e_ nx v+1)):=λu h0 h1 j hj hjl=>by
 rw [Dh nx v u _ hv.1 h0 hv.2] at hj
 by_cases e:v=u
 ·subst e
  rw [if_pos rfl] at hj
  by_cases hj':(j:Int)<e_ nx v
  ·exact h v h0 h1 j hj' hjl
  ·rw [show (j:Int)=e_ nx v from by omega];exact hd
 ·rw [if_neg e] at hj;exact h u h0 h1 j hj hjl
theorem Dead.not{L nx:List Int}{v:Int}(hr:ROk n rs)(h:Dead n rs L f nx)(hv:0<=v/\v<n.nodes)(hs:v≠n.sink)(hx:(e_ rs v).length<=e_ nx v):¬Adm n f L v:=λha=>by
 cases ha with
 |sink=>exact hs rfl
 |step i hi hp hL hA=>
  obtain ⟨j,hj,e⟩:=mem_at (hr.has i hi)
  refine h _ hv.1 hv.2 j om hj ?_
  rw [e];exact ⟨hp,hL,hA⟩
structure PushR (n:Net) (rs:List (List Int)) (L:List Int) (v d:Int) (f nx f' nx':List Int):Prop where
 len:f'.length=n.arcs.length
 cap:CapF n f'
 net:∀z,netF n f' z=netF n f z+(if v=z then d else 0) - (if n.sink=z then d else 0)
 less:Less n L f f'
 same:∀i,InH n i->(e_ L (fromH n i)<e_ L v\/e_ L (toH n i)<e_ L v)->leftH n f' i=leftH n f i
 dead:Dead n rs L f' nx'
 nlen:nx'.length=nx.length
 nge:∀z,0<=z->z<n.nodes->0<=e_ nx' z
 nsame:∀z,0<=z->z<n.nodes->z≠v->e_ L z<=e_ L v->e_ nx' z=e_ nx z
 zero:d=0->f'=f
variable {L nx f' nx':List Int}{v d:Int}
theorem PushR.start(hl:f.length=n.arcs.length)(hc:CapF n f)(hd:Dead n rs L f nx)(hx:∀z,0<=z->z<n.nodes->0<=e_ nx z)(v:Int):PushR n rs L v 0 f nx f nx:=
 ⟨hl,hc,λz=>by simp,Less.refl _ _ _,λ_ _ _=>rfl,hd,rfl,hx,λ_ _ _ _ _=>rfl,λ_=>rfl⟩
theorem PushR.adv(h:PushR n rs L v d f nx f' nx')(hv:0<=v/\v<nx'.length)
  (hd:¬(0<leftH n f' (e_ (e_ rs v) (e_ nx' v))/\e_ L (toH n (e_ (e_ rs v) (e_ nx' v)))=e_ L v+1/\Adm n f' L (toH n (e_ (e_ rs v) (e_ nx' v))))) (hn:v<n.nodes):PushR n rs L v d f nx f' (nx'.set v.toNat (e_ nx' v+1)):=
 ⟨h.len,h.cap,h.net,h.less,h.same,h.dead.adv hv (h.nge v hv.1 hn) hd,by rw [List.length_set];exact h.nlen,λz h0 h1=>by
  rw [Dh nx' v z _ hv.1 h0 hv.2]
  have:=h.nge v hv.1 hn
  have:=h.nge z h0 h1
  split<;>omega,λz h0 h1 hz hL=>by
  rw [Dh nx' v z _ hv.1 h0 hv.2,if_neg (λe=>hz e.symm)];exact h.nsame z h0 h1 hz hL,h.zero⟩
theorem pushF_zero(hl:f.length=n.arcs.length)(hi:InH n i):pushF f i 0=f:=by
 have h1:=hi.half
 have e:∀x:Int,x=e_ f (i / 2)->f.set (i / 2).toNat x=f:=λx hx=>by
  subst hx
  rw [at_eq om om]
  exact List.set_getElem_self _
 unfold pushF
 split
 ·exact e _ om
 ·exact e _ om
theorem PushR.put(hok:n.Ok)(hr:ROk n rs){i e:Int}{g ng:List Int}(h:PushR n rs L v d f nx f' nx')(hi:InH n i)(hf:fromH n i=v)(hL:e_ L (toH n i)=e_ L v+1)
  (h0:0<=d) (he:0<=e) (hle:e<=leftH n f' i) (h2:PushR n rs L (toH n i) e f' nx' g ng):PushR n rs L v (d+e) f nx (pushF g i e) ng/\e_ ng v=e_ nx' v/\leftH n g i=leftH n f' i:=by
 have hfo:=from_ok hok hi
 have hs:leftH n g i=leftH n f' i:=h2.same i hi (.inl (by rw [hf];omega))
 have hless:Less n L g (pushF g i e):=λj hj hLj=>by
  rw [left_push h2.len hi e hj]
  by_cases a:j=mateH i
  ·subst a
   rw [to_mate,from_mate,hf] at hLj
   omega
  ·rw [if_neg a];split<;>omega
 refine ⟨⟨(pushF_len e).trans h2.len,pushF_cap h2.len h2.cap hi he om,λz=>?_,(h.less.trans h2.less).trans hless,λj hj hjL=>?_,h2.dead.less hr hless,h2.nlen.trans h.nlen,h2.nge,λz hz0 hz1 hz hzL=>?_,λhde=>?_⟩,h2.nsame v om om om om,hs⟩
 ·rw [netF_push h2.len hi,h2.net,h.net,hf]
  repeat' split
  all_goals omega
 ·have h3:leftH n g j=leftH n f' j:=h2.same j hj om
  rw [left_push h2.len hi e hj,h3,h.same j hj hjL]
  have a1:j≠i:=λe=>by subst e;rw [hf] at hjL;omega
  have a2:j≠mateH i:=λe=>by subst e;rw [to_mate,from_mate,hf] at hjL;omega
  rw [if_neg a1,if_neg a2];omega
 ·rw [h2.nsame z hz0 hz1 (λe=>by subst e;omega) om,h.nsame z hz0 hz1 hz hzL]
 ·have e0:e=0:=by omega
  have d0:d=0:=by omega
  subst e0
  rw [pushF_zero h2.len hi,h2.zero rfl,h.zero d0]
theorem PushR.used{i e m:Int}{g:List Int}(hi:InH n i)(hm:e<m\/leftH n g i=e)(hq:e<m->¬Adm n g L (toH n i))(hg:g.length=n.arcs.length)(he:0<=e)(hL:e_ L (toH n i)=e_ L (fromH n i)+1):¬(0<leftH n (pushF g i e) i/\e_ L (toH n i)=e_ L (fromH n i)+1/\Adm n (pushF g i e) L (toH n i)):=λ⟨a,_,c⟩=>by
 have hless:Less n L g (pushF g i e):=λj hj hLj=>by
  rw [left_push hg hi e hj]
  by_cases a:j=mateH i
  ·subst a
   rw [to_mate,from_mate] at hLj
   omega
  ·rw [if_neg a];split<;>omega
 rcases hm with hm|hm
 ·exact hq hm (c.less hless)
 ·rw [left_push hg hi e hi,if_pos rfl,if_neg (λe=>mate_ne i e.symm)] at a
  omega
structure LvOk (n:Net) (f L:List Int):Prop where
 len:(L.length:Int)=n.nodes
 src:e_ L n.source=0
 low:∀z,0<=z->z<n.nodes-> -1<=e_ L z/\e_ L z<n.nodes
 clos:∀i,InH n i->0<=e_ L (fromH n i)->0<leftH n f i->0<=e_ L (toH n i)
 par:∀z,0<=z->z<n.nodes->0<=e_ L z->z≠n.source->∃i,InH n i/\toH n i=z/\0<leftH n f i/\0<=e_ L (fromH n i)/\e_ L z=e_ L (fromH n i)+1
theorem LvOk.adm(hok:n.Ok)(h:LvOk n f L){z:Int}(hz:Adm n f L z):∀m:Nat,0<=z->z<n.nodes->e_ L z=m->Adm n f L n.source:=λm=>by
 induction m generalizing z with
 |zero=>
  intro h0 h1 hm
  by_cases hs:z=n.source
  ·subst hs;exact hz
  ·obtain ⟨i,hi,he,hl,hf,hq⟩:=h.par z h0 h1 om hs
   omega
 |succ m ih=>
  intro h0 h1 hm
  by_cases hs:z=n.source
  ·subst hs;exact hz
  ·obtain ⟨i,hi,he,hl,hf,hq⟩:=h.par z h0 h1 om hs
   have hfo:=from_ok hok hi
   subst he
   exact ih (.step i hi hl hq hz) hfo.1.1 hfo.1.2 om
theorem LvOk.go(hok:n.Ok)(h:LvOk n f L)(hs:0<=e_ L n.sink):Adm n f L n.source:=
 h.adm hok .sink (e_ L n.sink).toNat hok.snk.1 hok.snk.2 om
theorem LvOk.end(hok:n.Ok)(h:LvOk n f L)(hs:¬0<=e_ L n.sink):∃S:Int->Bool,Shut n f S/\S n.source=true/\S n.sink=false:=
 ⟨λz=>decide (0<=e_ L z),shut_half.2 λi hi a b=>decide_eq_true (h.clos i hi (of_decide_eq_true a) b),decide_eq_true (by rw [h.src];omega),decide_eq_false hs⟩
theorem PushR.flow(hok:n.Ok)(hf:IsFlow n f)(h:PushR n rs L n.source d f nx f' nx'):IsFlow n f'/\netF n f' n.source=netF n f n.source+d:=by
 have hne:=hok.ne
 refine ⟨⟨h.len,h.cap,λv h0 h1 hs ht=>?_⟩,?_⟩
 ·rw [h.net v,if_neg (λe=>hs e.symm),if_neg (λe=>ht e.symm),hf.cons v h0 h1 hs ht];rfl
 ·rw [h.net,if_pos rfl,if_neg (λe=>hne e.symm)];omega
end
structure LI (n:Net) (f:List Int) (rs:List (List Int)) (L todo:List Int) (x:Int) (q:Nat):Prop where
 len:(L.length:Int)=n.nodes
 src:e_ L n.source=0
 low:∀z,0<=z->z<n.nodes-> -1<=e_ L z/\e_ L z+un L<n.nodes
 wait:∀z∈todo,(0<=z/\z<n.nodes)/\0<=e_ L z
 clos:∀z,0<=z->z<n.nodes->0<=e_ L z->z∉todo->∀j:Nat,j<(e_ rs z).length->(z=x->j<q)->0<leftH n f (e_ (e_ rs z) j)->0<=e_ L (toH n (e_ (e_ rs z) j))
 par:∀z,0<=z->z<n.nodes->0<=e_ L z->z≠n.source->∃i,InH n i/\toH n i=z/\0<leftH n f i/\0<=e_ L (fromH n i)/\e_ L z=e_ L (fromH n i)+1
 cur:0<=x->x<n.nodes/\0<=e_ L x
section
variable {n:Net}{f L todo:List Int}{rs:List (List Int)}{x:Int}{q:Nat}
theorem LI.put(hok:n.Ok)(h:LI n f rs L todo x q)(hx:0<=x){i:Int}(hi:InH n i)(hf:fromH n i=x)(hl:0<leftH n f i)(hn:e_ L (toH n i)<0) :
  LI n f rs (L.set (toH n i).toNat (e_ L x+1)) (todo++[toH n i]) x q/\un (L.set (toH n i).toNat (e_ L x+1))+1=un L:=by
 have hfo:=from_ok hok hi
 have hlen:=h.len
 have hc:(0<=x/\x<n.nodes)/\0<=e_ L x:=⟨⟨hx,(h.cur hx).1⟩,(h.cur hx).2⟩
 have hlo:=h.low _ hfo.2.1.1 hfo.2.1.2
 have hlx:=h.low _ hc.1.1 hc.1.2
 have hu:=un_set (out:=L) (y:=toH n i) (i:=e_ L x+1) om om om
 generalize hy:toH n i=y at *
 have hat:∀z,0<=z->e_ (L.set y.toNat (e_ L x+1)) z=if y=z then e_ L x+1 else e_ L z:=λz hz=>Dh L y z _ hfo.2.1.1 hz om
 have hge:∀z,0<=z->0<=e_ L z->0<=e_ (L.set y.toNat (e_ L x+1)) z:=λz hz hp=>by rw [hat z hz];split<;>omega
 refine ⟨⟨by rw [List.length_set];exact h.len,?_,λz h0 h1=>?_,λz hz=>?_,λz h0 h1 hz hzt j hj hjq hjl=>?_,λz h0 h1 hz hs=>?_,λ_=>⟨hc.1.2,hge x hc.1.1 hc.2⟩⟩,hu⟩
 ·have:=hok.src
  rw [hat _ this.1,if_neg (λe=>by subst e;have:=h.src;omega)];exact h.src
 ·have hz:=h.low z h0 h1
  rw [hat z h0]
  split<;>omega
 ·rcases List.mem_append.1 hz with hz|hz
  ·have:=h.wait z hz
   exact ⟨this.1,hge z this.1.1 this.2⟩
  ·rw [List.mem_singleton.1 hz]
   exact ⟨hfo.2.1,by rw [hat y hfo.2.1.1,if_pos rfl];omega⟩
 ·have hzy:y≠z:=λe=>hzt (List.mem_append_right _ (List.mem_singleton.2 e.symm))
  rw [hat z h0,if_neg hzy] at hz
  have:=h.clos z h0 h1 hz (λhm=>hzt (List.mem_append_left _ hm)) j hj hjq hjl
  generalize toH n (e_ (e_ rs z) j)=t at this ⊢
  by_cases hneg:0<=t
  ·exact hge _ hneg this
  ·have e0:∀M:List Int,e_ M t=e_ M 0:=λM=>by unfold e_;rw [show t.toNat=(0:Int).toNat from by omega]
   rw [e0] at this ⊢; exact hge 0 om om
 ·rw [hat z h0] at hz ⊢
  by_cases hzy:y=z
  ·rw [if_pos hzy]
   have hxy:y≠x:=λe=>by subst e;omega
   exact ⟨i,hi,hy.trans hzy,hl,by rw [hf];exact hge x hc.1.1 hc.2,by rw [hf,hat x hc.1.1,if_neg hxy]⟩
  ·rw [if_neg hzy] at hz ⊢
   obtain ⟨k,hk,he,hkl,hkf,hkq⟩:=h.par z h0 h1 hz hs
   have hko:=from_ok hok hk
   have hky:y≠fromH n k:=λe=>by rw [←e] at hkf;omega
   exact ⟨k,hk,he,hkl,hge _ hko.1.1 hkf,by rw [hat _ hko.1.1,if_neg hky];exact hkq⟩
theorem LI.inc(h:LI n f rs L todo x q)(hd:0<leftH n f (e_ (e_ rs x) q)->0<=e_ L (toH n (e_ (e_ rs x) q))):LI n f rs L todo x (q+1):=
 ⟨h.len,h.src,h.low,h.wait,λz h0 h1 hz hzt j hj hjq hjl=>by
  by_cases e:z=x/\j=q
  ·obtain ⟨rfl,rfl⟩:=e;exact hd hjl
  ·exact h.clos z h0 h1 hz hzt j hj (λez=>by have:=hjq ez;have:j≠q:=λej=>e ⟨ez,ej⟩;omega) hjl,h.par,h.cur⟩
theorem LI.next(h:LI n f rs L todo (-1) 0)(ht:0<todo.length):LI n f rs L (todo.drop 1) (e_ todo 0) 0:=by
 obtain ⟨x,t,rfl⟩:∃x t,todo=x::t:=by cases todo with
  |nil=>simp at ht
  |cons x t=>exact ⟨x,t,rfl⟩
 show LI n f rs L t x 0
 refine ⟨h.len,h.src,h.low,λz hz=>h.wait z (List.mem_cons_of_mem _ hz),λz h0 h1 hz hzt j hj hjq hjl=>?_,h.par,λ_=>?_⟩
 ·by_cases e:z=x
  ·have:=hjq e;omega
  ·have hzm:z∉x::t:=λhm=>by
    rcases List.mem_cons.1 hm with hm|hm
    ·exact e hm
    ·exact hzt hm
   exact h.clos z h0 h1 hz hzm j hj (λez=>by omega) hjl
 ·have:=h.wait x List.mem_cons_self
  exact ⟨this.1.2,this.2⟩
theorem LI.over(h:LI n f rs L todo x q)(hq:(e_ rs x).length<=q):LI n f rs L todo (-1) 0:=
 ⟨h.len,h.src,h.low,h.wait,λz h0 h1 hz hzt j hj _ hjl=>h.clos z h0 h1 hz hzt j hj (λe=>by subst e;omega) hjl,h.par,λh=>by omega⟩
theorem LI.done(hok:n.Ok)(hr:ROk n rs)(h:LI n f rs L todo (-1) 0)(ht:¬0<todo.length):LvOk n f L:=by
 obtain rfl:todo=[]:=List.eq_nil_of_length_eq_zero om
 exact ⟨h.len,h.src,λz h0 h1=>by have:=h.low z h0 h1;omega,λi hi hf hl=>by
  have hfo:=from_ok hok hi
  obtain ⟨j,hj,e⟩:=mem_at (hr.has i hi)
  have:=h.clos _ hfo.1.1 hfo.1.2 hf (by simp) j hj (λe=>by omega) (by rw [e];exact hl)
  rwa [e] at this,h.par⟩
theorem LI.start(hok:n.Ok){L0:List Int}(hl:(L0.length:Int)=n.nodes)(h0:∀j:Nat,j<L0.length->e_ L0 j = -1):LI n f rs (L0.set n.source.toNat 0) [n.source] (-1) 0/\un (L0.set n.source.toNat 0)+1=n.nodes.toNat:=by
 have hs:=hok.src
 have h0':∀z:Int,0<=z->z<n.nodes->e_ L0 z = -1:=λz a b=>at_all (p:=λz=>e_ L0 z = -1) h0 a om
 have hat:∀z,0<=z->e_ (L0.set n.source.toNat 0) z=if n.source=z then 0 else e_ L0 z:=λz hz=>Dh L0 _ z _ hs.1 hz om
 have hu:=un_set (out:=L0) (y:=n.source) (i:=0) om (h0' _ hs.1 hs.2) om
 have hu0:un L0=n.nodes.toNat:=by
  have e:=eq_rep h0
  unfold un
  rw [e,List.count_replicate_self];omega
 refine ⟨⟨by rw [List.length_set];exact hl,by rw [hat _ hs.1,if_pos rfl],λz a b=>?_,λz hz=>?_,λz a b hz hzt=>?_,λz a b hz hne=>?_,λh=>by omega⟩,by omega⟩
 ·rw [hat z a,h0' z a b];split<;>omega
 ·rw [List.mem_singleton.1 hz];exact ⟨hs,by rw [hat _ hs.1,if_pos rfl];omega⟩
 ·exfalso
  have:n.source≠z:=λe=>hzt (by rw [e];exact List.mem_singleton.2 rfl)
  rw [hat z a,if_neg this,h0' z a b] at hz;omega
 ·exfalso
  rw [hat z a,if_neg (λe=>hne e.symm),h0' z a b] at hz;omega
end
theorem at_zero_append{α:Type}[Inhabited α]{w:List α}{y:List α}(h:0<w.length):e_ (w++y) 0=e_ w 0:=by
 cases w with
 |nil=>simp at h
 |cons x t=>rfl
theorem drop_one_append{α:Type}{w y:List α}(h:0<w.length):(w++y).drop 1=w.drop 1++y:=by
 cases w with
 |nil=>simp at h
 |cons x t=>rfl
def goH(n:Net)(f:List Int)(ag:Bool)(i:Int):Int:=if ag then leftH n f (mateH i) else leftH n f i
def ShutG(n:Net)(f:List Int)(ag:Bool)(S:Int->Bool):Prop:=∀i,InH n i->S (fromH n i)=true->0<goH n f ag i->S (toH n i)=true
structure RI (n:Net) (f:List Int) (ag:Bool) (v:Int) (rs:List (List Int)) (seen:List Bool) (todo:List Int) (x:Int) (q:Nat):Prop where
 len:(seen.length:Int)=n.nodes
 src:e_ seen v=true
 wait:∀z∈todo,(0<=z/\z<n.nodes)/\e_ seen z=true
 clos:∀z,0<=z->z<n.nodes->e_ seen z=true->z∉todo->∀j:Nat,j<(e_ rs z).length->(z=x->j<q)->0<goH n f ag (e_ (e_ rs z) j)->e_ seen (toH n (e_ (e_ rs z) j))=true
 sound:∀S:Int->Bool,ShutG n f ag S->S v=true->∀z,0<=z->z<n.nodes->e_ seen z=true->S z=true
 cur:0<=x->x<n.nodes/\e_ seen x=true
def unB(l:List Bool):Nat:=l.count false
theorem unB_set{l:List Bool}{y:Int}(hy:0<=y/\y<l.length)(h:e_ l y=false):unB (l.set y.toNat true)+1=unB l:=by
 unfold unB
 have hl:y.toNat<l.length:=by omega
 have hg:l[y.toNat]=false:=by rw [at_eq hy.1 hy.2] at h;exact h
 rw [List.count_set hl]
 have hpos:0<l.count false:=List.count_pos_iff.2 (hg▸List.getElem_mem hl)
 have e1:(l[y.toNat]==false)=true:=by simp [hg]
 have e2:(true==false)=false:=rfl
 rw [e1,e2]
 simp only [if_true,Bool.false_eq_true,if_false]
 omega
section
variable {n:Net}{f todo:List Int}{ag:Bool}{v:Int}{seen:List Bool}{rs:List (List Int)}{x:Int}{q:Nat}
theorem RI.put(hok:n.Ok)(h:RI n f ag v rs seen todo x q)(hx:0<=x)(hv:0<=v){i:Int}(hi:InH n i)(hf:fromH n i=x)(hl:0<goH n f ag i)(hn:e_ seen (toH n i)=false) :
  RI n f ag v rs (seen.set (toH n i).toNat true) (todo++[toH n i]) x q/\unB (seen.set (toH n i).toNat true)+1=unB seen:=by
 have hfo:=from_ok hok hi
 have hlen:=h.len
 have hc:=h.cur hx
 have hu:=unB_set (l:=seen) (y:=toH n i) om hn
 have hti:∀S:Int->Bool,ShutG n f ag S->S x=true->S (toH n i)=true:=λS hS hs=>hS i hi (by rw [hf];exact hs) hl
 generalize hy:toH n i=y at *
 have hat:∀z,0<=z->e_ (seen.set y.toNat true) z=if y=z then true else e_ seen z:=λz hz=>Dh seen y z _ hfo.2.1.1 hz om
 have hge:∀z,0<=z->e_ seen z=true->e_ (seen.set y.toNat true) z=true:=λz hz hp=>by rw [hat z hz];split<;>first|rfl|exact hp
 refine ⟨⟨by rw [List.length_set];exact h.len,hge v hv h.src,λz hz=>?_,λz h0 h1 hz hzt j hj hjq hjl=>?_,λS hS hs z h0 h1 hz=>?_,λ_=>⟨hc.1,hge x hx hc.2⟩⟩,hu⟩
 ·rcases List.mem_append.1 hz with hz|hz
  ·have:=h.wait z hz
   exact ⟨this.1,hge z this.1.1 this.2⟩
  ·rw [List.mem_singleton.1 hz]
   exact ⟨hfo.2.1,by rw [hat y hfo.2.1.1,if_pos rfl]⟩
 ·have hzy:y≠z:=λe=>hzt (List.mem_append_right _ (List.mem_singleton.2 e.symm))
  rw [hat z h0,if_neg hzy] at hz
  have:=h.clos z h0 h1 hz (λhm=>hzt (List.mem_append_left _ hm)) j hj hjq hjl
  generalize toH n (e_ (e_ rs z) j)=t at this ⊢
  by_cases hneg:0<=t
  ·exact hge _ hneg this
  ·have e0:∀M:List Bool,e_ M t=e_ M 0:=λM=>by unfold e_;rw [show t.toNat=(0:Int).toNat from by omega]
   rw [e0] at this ⊢; exact hge 0 om om
 ·rw [hat z h0] at hz
  by_cases hzy:y=z
  ·subst hzy
   exact hti S hS (h.sound S hS hs x hx hc.1 hc.2)
  ·rw [if_neg hzy] at hz
   exact h.sound S hS hs z h0 h1 hz
theorem RI.inc(h:RI n f ag v rs seen todo x q)(hd:0<goH n f ag (e_ (e_ rs x) q)->e_ seen (toH n (e_ (e_ rs x) q))=true):RI n f ag v rs seen todo x (q+1):=
 ⟨h.len,h.src,h.wait,λz h0 h1 hz hzt j hj hjq hjl=>by
  by_cases e:z=x/\j=q
  ·obtain ⟨rfl,rfl⟩:=e;exact hd hjl
  ·exact h.clos z h0 h1 hz hzt j hj (λez=>by have:=hjq ez;have:j≠q:=λej=>e ⟨ez,ej⟩;omega) hjl,h.sound,h.cur⟩
theorem RI.next(h:RI n f ag v rs seen todo (-1) 0)(ht:0<todo.length):RI n f ag v rs seen (todo.drop 1) (e_ todo 0) 0:=by
 obtain ⟨x,t,rfl⟩:∃x t,todo=x::t:=by cases todo with
  |nil=>simp at ht
  |cons x t=>exact ⟨x,t,rfl⟩
 show RI n f ag v rs seen t x 0
 refine ⟨h.len,h.src,λz hz=>h.wait z (List.mem_cons_of_mem _ hz),λz h0 h1 hz hzt j hj hjq hjl=>?_,h.sound,λ_=>?_⟩
 ·by_cases e:z=x
  ·have:=hjq e;omega
  ·have hzm:z∉x::t:=λhm=>by
    rcases List.mem_cons.1 hm with hm|hm
    ·exact e hm
    ·exact hzt hm
   exact h.clos z h0 h1 hz hzm j hj (λez=>by omega) hjl
 ·have:=h.wait x List.mem_cons_self
  exact ⟨this.1.2,this.2⟩
theorem RI.over(h:RI n f ag v rs seen todo x q)(hq:(e_ rs x).length<=q):RI n f ag v rs seen todo (-1) 0:=
 ⟨h.len,h.src,h.wait,λz h0 h1 hz hzt j hj _ hjl=>h.clos z h0 h1 hz hzt j hj (λe=>by subst e;omega) hjl,h.sound,λh=>by omega⟩
theorem RI.start(hv:0<=v/\v<n.nodes){s0:List Bool}(hl:(s0.length:Int)=n.nodes)(h0:∀z:Int,0<=z->z<n.nodes->e_ s0 z=false):RI n f ag v rs (s0.set v.toNat true) [v] (-1) 0:=by
 have hat:∀z,0<=z->e_ (s0.set v.toNat true) z=if v=z then true else e_ s0 z:=λz hz=>Dh s0 _ z _ hv.1 hz om
 refine ⟨by rw [List.length_set];exact hl,by rw [hat _ hv.1,if_pos rfl],λz hz=>?_,λz a b hz hzt=>?_,λS hS hs z a b hz=>?_,λh=>by omega⟩
 ·rw [List.mem_singleton.1 hz];exact ⟨hv,by rw [hat _ hv.1,if_pos rfl]⟩
 ·exfalso
  have:v≠z:=λe=>hzt (by rw [e];exact List.mem_singleton.2 rfl)
  rw [hat z a,if_neg this,h0 z a b] at hz;cases hz
 ·by_cases e:v=z
  ·subst e;exact hs
  ·rw [hat z a,if_neg e,h0 z a b] at hz;cases hz
structure Seen (n:Net) (f:List Int) (ag:Bool) (v:Int) (seen:List Bool):Prop where
 len:(seen.length:Int)=n.nodes
 src:e_ seen v=true
 shut:ShutG n f ag λz=>e_ seen z
 sound:∀S:Int->Bool,ShutG n f ag S->S v=true->∀z,0<=z->z<n.nodes->e_ seen z=true->S z=true
theorem RI.done(hok:n.Ok)(hr:ROk n rs)(h:RI n f ag v rs seen todo (-1) 0)(ht:¬0<todo.length):Seen n f ag v seen:=by
 obtain rfl:todo=[]:=List.eq_nil_of_length_eq_zero om
 exact ⟨h.len,h.src,λi hi hf hl=>by
  have hfo:=from_ok hok hi
  obtain ⟨j,hj,e⟩:=mem_at (hr.has i hi)
  have:=h.clos _ hfo.1.1 hfo.1.2 hf (by simp) j hj (λe=>by omega) (by rw [e];exact hl)
  rwa [e] at this,h.sound⟩
structure Full (n:Net) (f:List Int) (val:Int):Prop where
 flow:IsFlow n f
 val:val=netF n f n.source
 ends:∃S:Int->Bool,Shut n f S/\S n.source=true/\S n.sink=false
theorem shutG_bwd{S:Int->Bool}:ShutG n f true (λz=> !S z)↔Shut n f S:=by
 rw [shut_half]
 constructor
 ·intro h i hi a b
  have h0:(!S (fromH n (mateH i)))=true->0<goH n f true (mateH i)->(!S (toH n (mateH i)))=true:=h (mateH i) hi.mate
  rw [from_mate,to_mate] at h0
  unfold goH at h0
  rw [mate_mate,if_pos rfl] at h0
  cases hs:S (toH n i)
  ·have h1:=h0 (by rw [hs];rfl) b
   rw [a] at h1;cases h1
  ·rfl
 ·intro h i hi a b
  unfold goH at b
  rw [if_pos rfl] at b
  have a':(!S (fromH n i))=true:=a
  have h0:=h (mateH i) hi.mate
  rw [from_mate,to_mate] at h0
  show (!S (toH n i))=true
  cases hs:S (toH n i)
  ·rfl
  ·have h1:=h0 hs b
   rw [h1] at a';cases a'
theorem Seen.great(hok:n.Ok){val:Int}(hf:Full n f val)(h:Seen n f true n.sink seen):Great n f λz=> !e_ seen z:=by
 have hs:=hok.src
 have ht:=hok.snk
 refine ⟨?_,by rw [h.src];rfl,?_,λS hS hv z h0 h1 hz=>?_⟩
 ·obtain ⟨S,h1,h2,h3⟩:=hf.ends
  cases e:e_ seen n.source
  ·rfl
  ·have:=h.sound (λz=> !S z) (shutG_bwd.2 h1) (by rw [h3];rfl) _ hs.1 hs.2 e
   rw [h2] at this;cases this
 ·refine shutG_bwd.1 ?_
  have e:(λz=> !!e_ seen z)=λz=>e_ seen z:=by funext z;simp
  rw [e];exact h.shut
 ·cases e:e_ seen z
  ·rfl
  ·have:=h.sound (λz=> !S z) (shutG_bwd.2 hS) (by rw [hv];rfl) z h0 h1 e
   rw [hz] at this;cases this
end
end Go.Sl
namespace Go.Sl
theorem nat_xor_one(n:Nat):n ^^^ 1=if n % 2=0 then n+1 else n - 1:=by
 have h1:(n ^^^ 1) / 2=n / 2:=by rw [Nat.xor_div_two];simp
 have h2:(n ^^^ 1) % 2=1↔¬(n % 2=1↔1 % 2=1):=Nat.xor_mod_two_eq_one
 split<;>omega
theorem xor_mate{i:Int}(h0:0<=i)(h1:i<4611686018427387904):bits .xor .i64 i 1=mateH i:=by
 obtain ⟨n,rfl⟩:∃n:Nat,i=(n:Int):=⟨i.toNat,by omega⟩
 have e:(BitVec.ofInt 64 (n:Int) ^^^ BitVec.ofInt 64 1).toNat=n ^^^ 1:=by
  rw [BitVec.toNat_xor,BitVec.toNat_ofInt,BitVec.toNat_ofInt]
  congr 1
  omega
 have e2:bits .xor .i64 (n:Int) 1=IntKind.i64.wrap (((n ^^^ 1:Nat)):Int):=by
  unfold bits
  show IntKind.i64.wrap ((BitVec.ofInt 64 (n:Int) ^^^ BitVec.ofInt 64 1).toNat:Int)=_
  rw [e]
 rw [e2,nat_xor_one]
 unfold mateH
 split<;>split<;>rw [IntKind.wrap_i64]<;>omega
end Go.Sl
namespace Go.Sl
open Go.Proofs
set_option maxRecDepth 4000
instance:Enc Half:=⟨λh=>[e7 h.frm,e7 h.dst,e7 h.cap,e7 h.left],4,by omega,λ_=>rfl,λh u hu=>by
 simp only [List.mem_cons,List.not_mem_nil,or_false] at hu
 rcases hu with rfl|rfl|rfl|rfl<;>rfl⟩
structure Row where
 a:Option Addr
 c:Nat
 xs:List Int
deriving Inhabited
instance:Enc Row:=⟨λr=>[.slice r.a r.xs.length r.c],1,by omega,λ_=>rfl,λr u hu=>by
 simp only [List.mem_cons,List.not_mem_nil,or_false] at hu
 subst hu;rfl⟩
def rowsL(rs:List Row):List (List Int):=rs.map Row.xs
theorem rowsL_at(rs:List Row)(v:Int):e_ (rowsL rs) v=(e_ rs v).xs:=by
 unfold rowsL e_
 simp only [List.getD_eq_getElem?_getD,List.getElem?_map]
 cases rs[v.toNat]? <;>rfl
section
variable {n:Net}{f L todo:List Int}{rs:List Row}{x i v:Int}{q:Nat}{hs:List Half}
theorem ROk.rl(h:ROk n (rowsL rs)):(rs.length:Int)=n.nodes:=by have:=h.len;unfold rowsL at this;rwa [List.length_map] at this
theorem ROk.row(h:ROk n (rowsL rs))(h0:0<=v)(h1:v<n.nodes){j:Int}(hj0:0<=j)(hj:j<(e_ rs v).xs.length):InH n (e_ (e_ rs v).xs j)/\fromH n (e_ (e_ rs v).xs j)=v:=by
 have:=h.all v h0 h1 (e_ (e_ rs v).xs j)
 rw [rowsL_at] at this
 exact this (Cq hj0 hj)
theorem lay_step{L1 nx1:List Int}{k:Nat}(h:∀j:Nat,j<k->e_ L1 j = -1/\e_ nx1 j=0)(hk:k<L1.length)(hk2:k<nx1.length) :
  ∀j:Nat,j<k+1->e_ (List.set L1 ((k:Nat):Int).toNat (-1)) (j:Int) = -1/\e_ (List.set nx1 ((k:Nat):Int).toNat 0) (j:Int)=0:=λj hj=>by
 rw [Int.toNat_natCast,at_setn L1 k j _ hk,at_setn nx1 k j _ hk2]
 by_cases e:k=j
 ·rw [if_pos e,if_pos e];exact ⟨rfl,rfl⟩
 ·rw [if_neg e,if_neg e];exact h j om
theorem LI.inc1(h:LI n f (rowsL rs) L todo x q)(hd:0<leftH n f (e_ (e_ rs x).xs (q:Int))->0<=e_ L (toH n (e_ (e_ rs x).xs (q:Int)))):LI n f (rowsL rs) L todo x (q+1):=h.inc (by rw [rowsL_at];exact hd)
theorem LI.put1(hok:n.Ok)(h:LI n f (rowsL rs) L todo x q)(hx:0<=x)(hi:InH n (e_ (e_ rs x).xs (q:Int))/\fromH n (e_ (e_ rs x).xs (q:Int))=x)(hl:0<leftH n f (e_ (e_ rs x).xs (q:Int)))(hn:e_ L (toH n (e_ (e_ rs x).xs (q:Int)))<0) :
  LI n f (rowsL rs) (L.set (toH n (e_ (e_ rs x).xs (q:Int))).toNat (e_ L x+1)) (todo++[toH n (e_ (e_ rs x).xs (q:Int))]) x (q+1)/\un (L.set (toH n (e_ (e_ rs x).xs (q:Int))).toNat (e_ L x+1))+1=un L:=by
 have h1:=h.put hok hx hi.1 hi.2 hl hn
 refine ⟨h1.1.inc1 λ_=>?_,h1.2⟩
 have hfo:=from_ok hok hi.1
 rw [Dh _ _ _ _ hfo.2.1.1 hfo.2.1.1 (by have:=h.len;omega),if_pos rfl]
 have:=(h.cur hx).2
 omega
theorem LI.over1(h:LI n f (rowsL rs) L todo x q)(hq:(e_ rs x).xs.length<=q):LI n f (rowsL rs) L todo (-1) 0:=h.over (by rw [rowsL_at];exact hq)
end
theorem Layers_ok{κ:Ctx}{I:List Item}{n:Net}{f:List Int}{hs:List Half}{rs:List Row}{b:Nat}{hw ow lw nw:Value}{L nx:List Int}(hok:n.Ok)(hh:HOk n f hs)(hr:ROk n (rowsL rs))(ho:Sl κ I ow rs)(hrow:∀i:Int,0<=i->i<rs.length->Sl κ I (.slice (e_ rs i).a (e_ rs i).xs.length (e_ rs i).c) (e_ rs i).xs)(hL:(L.length:Int)=n.nodes)(hN:(nx.length:Int)=n.nodes):eu Tryz.prog κ 341 [.pointer (some ⟨b,0,none⟩),e7 (n.source)] (e8 b [hw,ow,lw,nw,e7 (n.sink)] 339::vc 336 hw (hs)::vc 3 lw (L)::vc 3 nw (nx)::I) (λr J=>∃L' nx':List Int,r = .bool (decide (0<=e_ L' n.sink))/\(LvOk n f L'/\(nx'.length:Int)=n.nodes/\∀z:Int,0<=z->z<n.nodes->e_ nx' z=0)/\J=e8 b [hw,ow,lw,nw,e7 (n.sink)] 339::vc 336 hw (hs)::vc 3 lw (L')::vc 3 nw (nx')::I):=by
 have hlim:=hok.lim
 have hsrc:=hok.src
 have hsnk:=hok.snk
 have hhl:=hh.len
 have hrl:=hr.rl
 refine Ce2 Tryz.func341 C C ?_
 refine Aj (Ga C (Ah (Au (Aj (Gm C (Gr (Br C) (Gf fld339_2 C (Gl ty22 ?_))))))))
 refine Gr (Cb (α:=Int) (xs:=L) Ad C Bk) (Gm C (Ah (A6 (Ca (σ:=Nat×(List Int)×(List Int)) (λs=>([(0,.pointer (some ⟨b,0,none⟩)),(1,e7 (n.source)),(14,e7 ((L.length:Nat):Int)),(15,e7 ((s.1:Nat):Int))]:Env)) (λs=>e8 b [hw,ow,lw,nw,e7 (n.sink)] 339::vc 336 hw (hs)::vc 3 lw (s.2.1)::vc 3 nw (s.2.2)::I) (λs=>(s.1<=L.length)/\(s.2.1.length=L.length)/\(s.2.2.length=nx.length)/\(∀j:Nat,j<s.1->e_ s.2.1 j = -1/\e_ s.2.2 j=0)) (λs=>L.length - s.1) (0,L,nx) ⟨om,rfl,rfl,all_zero⟩ (Aa C (Aa C (Aa C (Aa Cr Bq)))) A5 ?_))))
 rintro ⟨k,L1,nx1⟩ hp
 dsimp only at hp ⊢
 obtain ⟨hk,hl1,hn1,hz⟩:=hp
 refine Aj (Gr (Bi C C) (Ah (Au (Bd C (λc16=>?_) (λc16=>?_)))))
 ·refine A4 (Ai (Au (A6 (Aj (Gm C (Ga C (Ah (Bt mixed (C9 (e8 b [hw,ow,lw,nw,e7 (n.sink)] 339::vc 336 hw (hs)::I) 14 (Dr 0 C (Af C) (Dr 1 C (Br C) (Dr 2 C (Ab fld339_2 C) (Dr 3 C (As ty22) ?_)))))))))))))
  refine Dr 4 C (Af C) (Dr 5 C (Af C) (Dr 6 C (Br C) (Dr 7 C (Ab fld339_3 C) (Dr 8 C (As ty22) ?_))))
  refine Dr 9 C (Af C) (Ds1 10 (Sr C (A2 (α:=Int) (xs:=L1) Ad ef C C Bk om om) A5 ?_))
  refine Ds1 11 (Se0 C (Cy (α:=Int) (xs:=L1) (e:=3) (new:= -1) ef C C C om om am) ?_)
  refine Ds1 12 (Sr C (A2 (α:=Int) (xs:=nx1) Ad ef C C Bk om om) A5 ?_)
  refine Ds1 13 (Se0 C (Cy (α:=Int) (xs:=nx1) (e:=3) (new:=0) ef C C C om om am) ?_)
  exact Dz (Ak (Ai (Av (S4 0 1 14 15 C C C C) (A0 (Gr (Rad C C) (Gm C (Bf (Ch ((k+1),(List.set L1 ((k:Int)).toNat (-1)),(List.set nx1 ((k:Int)).toNat (0))) (by dsimp only;exact ⟨om,(by rw [List.length_set];exact hl1),(by rw [List.length_set];exact hn1),(lay_step hz om om)⟩)))))))))
 ·refine Bp (Ac (Ac (Aw (Ai (Aj (Gm C ?_))))))
  have hkn:k=L.length:=by omega
  subst hkn
  have hst:=LI.start (f:=f) (rs:=rowsL rs) hok (L0:=L1) om (λj hj=>(hz j om).1)
  have hsL:(List.set L1 n.source.toNat 0).length=L1.length:=by rw [List.length_set]
  refine Gr (Br C) (Gf fld339_2 C (Gl ty22 ?_))
  refine Gm C (Gr (A2 (α:=Int) (xs:=L1) Ad ef C C Bk om om) (Ge0 (Cy (α:=Int) (xs:=L1) (e:=3) (new:=0) ef C C C om om am) ?_))
  refine Ah (Au (Aj (Gm C (Ge1 (Cj (α:=Int) (cs:=[_]) (xs:=[n.source]) Ad ef C C dc dc C C C C) λad1=>?_))))
  refine Ga C (Ah (Av (S2 6 0 C C) (A6 (Ca (σ:=(Option Addr)×Nat×(List Int)×(List Int)) (λs=>([(0,.pointer (some ⟨b,0,none⟩)),(6,.slice s.1 s.2.2.1.length s.2.1)]:Env)) (λs=>vc 3 (.slice s.1 s.2.2.1.length s.2.1) (s.2.2.1)::e8 b [hw,ow,lw,nw,e7 (n.sink)] 339::vc 336 hw (hs)::vc 3 lw (s.2.2.2)::vc 3 nw (nx1)::I) (λs=>(LI n f (rowsL rs) s.2.2.2 s.2.2.1 (-1) 0)/\(un s.2.2.2+s.2.2.1.length<=n.nodes.toNat)) (λs=>un s.2.2.2+s.2.2.1.length) (ad1,1,[n.source],List.set L1 (n.source).toNat (0)) ⟨hst.1,(by have:=hst.2;simp only [List.length_cons,List.length_nil];omega)⟩ (Aa C (Aa (Da C (by first|rfl|simp)) Bq)) A5 ?_))))
  rintro ⟨a,c,todo,L2⟩ hp
  dsimp only at hp ⊢
  obtain ⟨hI,hub⟩:=hp
  have hl2:=hI.len
  refine Au (Aj (Gm C (Gr (Bz Ad C) (Gr (Ci C C) (Ah (Bd C (λc41=>?_) (λc41=>?_)))))))
  ·refine A4 (Ai (Au (A6 (Au (Bt mixed (C7 11 (Dr 0 C (Af C) ?_)))))))
   have hx0:=hI.wait _ (Cq (xs:=todo) (i:=0) om om)
   refine Dr 1 C (Br C) (Dr 2 C (Ab fld339_1 C) (Dr 3 C (As ty79) ?_))
   refine Dr 4 C (Af C) (Dr 5 C (A2 (α:=Int) (xs:=todo) Ad ef C C Bk om om) (Dr 6 C (B3 (xs:=todo) ef C Bk om om) (Dr 7 C (A2 (α:=Row) (xs:=rs) B5 ty22 C C (Bj ho) om om) (Dr 8 C (Ct (α:=Row) (xs:=rs) (u:= .slice (e_ rs (e_ todo 0)).a (e_ rs (e_ todo 0)).xs.length (e_ rs (e_ todo 0)).c) ty22 C (Bj ho) om om C) (Dr 9 C (Bz Ad C) (Dr 10 C (Af C) (Dz (Ai (Av (S5 54 53 52 0 6 C C C C C) (A6 (Ca (σ:=Nat×(Option Addr)×Nat×(List Int)×(List Int)) (λs=>([(0,.pointer (some ⟨b,0,none⟩)),(6,.slice s.2.1 s.2.2.2.1.length s.2.2.1),(52,.slice (e_ rs (e_ todo 0)).a (e_ rs (e_ todo 0)).xs.length (e_ rs (e_ todo 0)).c),(53,e7 ((((e_ rs (e_ todo 0)).xs.length:Nat):Int))),(54,e7 ((s.1:Nat):Int))]:Env)) (λs=>vc 3 (.slice s.2.1 s.2.2.2.1.length s.2.2.1) (s.2.2.2.1)::e8 b [hw,ow,lw,nw,e7 (n.sink)] 339::vc 336 hw (hs)::vc 3 lw (s.2.2.2.2)::vc 3 nw (nx1)::I) (λs=>(s.1<=(e_ rs (e_ todo 0)).xs.length)/\(0<s.2.2.2.1.length)/\(e_ s.2.2.2.1 0=(e_ todo 0))/\(LI n f (rowsL rs) s.2.2.2.2 (s.2.2.2.1.drop 1) (e_ todo 0) s.1)/\(un s.2.2.2.2+s.2.2.2.1.length=un L2+todo.length)) (λs=>(e_ rs (e_ todo 0)).xs.length - s.1) (0,a,c,todo,L2) (show ((0:Nat)<=(e_ rs (e_ todo 0)).xs.length)/\(0<(todo:List Int).length)/\(e_ (todo:List Int) 0=(e_ todo 0))/\(LI n f (rowsL rs) (L2:List Int) ((todo:List Int).drop 1) (e_ todo 0) (0:Nat))/\(un (L2:List Int)+(todo:List Int).length=un L2+todo.length) from ⟨om,om,rfl,(hI.next om),rfl⟩) (Aa C (Aa (Da C (by first|rfl|simp)) (Aa C (Aa C (Aa Cr Bq))))) A5 ?_)))))))))))
   rintro ⟨q,a1,c1,w,L3⟩ hp
   dsimp only at hp ⊢
   obtain ⟨hq,hwl,hw0,hI1,hmu⟩:=hp
   refine W.pull (λw hs=>(Ce (hrow (e_ todo 0) om om) Ay).le w hs) λhrm=>?_
   have hl3:=hI1.len
   have hcur:=hI1.cur hx0.1.1
   have hlw:e_ L3 (e_ w 0)+un L3<n.nodes:=by rw [hw0];exact (hI1.low _ hx0.1.1 hx0.1.2).2
   have hlw0:0<=e_ L3 (e_ w 0):=by rw [hw0];exact hcur.2
   refine Aj (Gr (Bi C C) (Ah (Au (Bd C (λc55=>?_) (λc55=>?_)))))
   ·refine A4 (Ai (Au (A6 (Aj (Gr (A2 (α:=Int) (xs:=(e_ rs (e_ todo 0)).xs) Ad ef C C (Ce (hrow (e_ todo 0) om om) Ay) om om) (Gr (B3 (xs:=(e_ rs (e_ todo 0)).xs) ef C (Ce (hrow (e_ todo 0) om om) Ay) om om) ?_))))))
    have hm:=hr.row hx0.1.1 hx0.1.2 (j:=(q:Int)) om om
    have hg:=hh.get _ hm.1
    have hfo:=from_ok hok hm.1
    have hi2:0<=(e_ (e_ rs (e_ todo 0)).xs (q:Int))/\(e_ (e_ rs (e_ todo 0)).xs (q:Int))<2*n.arcs.length:=hm.1
    have hd:e_ L3 (e_ hs (e_ (e_ rs (e_ todo 0)).xs (q:Int))).dst=e_ L3 (toH n (e_ (e_ rs (e_ todo 0)).xs (q:Int))):=by rw [hg.2.1]
    refine Ga C (Ah (Aj (Gm C (Gr (Br C) (Gf fld339_0 C (Gl ty337 ?_))))))
    refine Gm C (Gr (A2 (α:=Half) (xs:=hs) Co ty336 C C Bk om om) (Gr (B7 (α:=Half) (xs:=hs) ty336 C Bk om om) (Ge1 (A9 ty336 C) λb2=>Ge0 (Es4_4 ty336) ?_)))
    refine Ah (Av (S6 9 0 6 52 53 54 C C C C C C) (Au (Bt mixed (C7 15 (Dr 0 C (Ab fld336_1 C) (Dr 1 C (As ef) ?_))))))
    refine Dr 2 C (Ci C C) (Dr 3 C (Af C) (D4 (d:=68) C (λg68=>?_) (λg68=>?_)))
    ·refine Dro 4 C (Af C) (Dro 5 C (Br C) (Dro 6 C (Ab fld339_2 C) (Dro 7 C (As ty22) ?_)))
     refine Dro 8 C (Ab fld336_0 C) (Dro 9 C (Ab fld305_1 C) (Dro 10 C (As ef) ?_))
     refine Dro 11 C (A2 (α:=Int) (xs:=L3) Ad ef C C Bk om om) (Dro 12 C (B3 (xs:=L3) ef C Bk om om) (Dro 13 C (Bi C C) (Dr 14 C (Ap C C) (Dz (Ai (Av (S7 79 9 0 6 52 53 54 C C C C C C C) (Bd C (λc79=>?_) (λc79=>?_))))))))
     ·refine Au (Bt mixed (C7 18 (Dr 0 C (Af C) (Dr 1 C (Br C) (Dr 2 C (Ab fld339_2 C) (Dr 3 C (As ty22) ?_))))))
      refine Dr 4 C (Ab fld336_0 C) (Dr 5 C (Ab fld305_1 C) (Dr 6 C (As ef) ?_))
      refine Dr 7 C (Af C) (Dr 8 C (Br C) (Dr 9 C (Ab fld339_2 C) (Dr 10 C (As ty22) ?_)))
      refine Dr 11 C (Af C) (Dr 12 C (A2 (α:=Int) (xs:=w) Ad ef C C Bk om om) (Dr 13 C (B3 (xs:=w) ef C Bk om om) (Dr 14 C (A2 (α:=Int) (xs:=L3) Ad ef C C Bk om om) (Dr 15 C (B3 (xs:=L3) ef C Bk om om) (Dr 16 C (Rad C C) (Dr 17 C (A2 (α:=Int) (xs:=L3) Ad ef C C Bk om om) (Dc kr ?_)))))))
      refine Ae 18 C (Cy (α:=Int) (xs:=L3) (e:=3) (new:=(e_ L3 (e_ w 0))+1) ef C C C om om am) ?_
      rintro _ _ ⟨rfl,rfl⟩
      refine De kr ?_
      refine Ai (Av (S6 9 0 6 52 53 54 C C C C C C) (A0 (Gm C (Gf fld336_0 C (Gf fld305_1 C (Gl ef ?_))))))
      refine Ge1 (Cj (α:=Int) (cs:=[_]) (xs:=[(e_ hs (e_ ((e_ rs (e_ todo 0)).xs) (q:Int))).dst]) Ad ef C C dc dc C C C C) λad3=>?_
      refine Ge2 (Cn (α:=Int) (e:=3) (xs:=w) (ys:=([(e_ hs (e_ ((e_ rs (e_ todo 0)).xs) (q:Int))).dst]:List Int)) Ad ef C C C mm Bk lcn dc C (λ_ _=>am)) λad4 cp5=>?_
      exact Ga C (Bf (Ak (Ai (A0 (Gr (Rad C C) (Gm C (Bf (Ch ((q+1),(ad4),(cp5),(w++([(e_ hs (e_ ((e_ rs (e_ todo 0)).xs) (q:Int))).dst]:List Int)),(List.set L3 ((e_ hs (e_ ((e_ rs (e_ todo 0)).xs) (q:Int))).dst).toNat ((e_ L3 (e_ w 0))+1))) (by dsimp only;exact ⟨om,(by first|exact hwl|(rw [List.length_append];omega)),(by first|exact hw0|(rw [at_zero_append hwl];exact hw0)),(by first|exact hI1.inc1 (λh=>by omega)|(rw [hw0,hg.2.1,drop_one_append hwl];exact (hI1.put1 hok hx0.1.1 hm om om).1)),(by first|exact hmu|(rw [hw0,hg.2.1,List.length_append];have:=(hI1.put1 hok hx0.1.1 hm om om).2;simp only [List.length_cons,List.length_nil];omega))⟩)))))))))
     ·exact A4 (Ak (Ai (A0 (Gr (Rad C C) (Gm C (Bf (Ch ((q+1),(a1),(c1),(w),(L3)) (by dsimp only;exact ⟨om,(by first|exact hwl|(rw [List.length_append];omega)),(by first|exact hw0|(rw [at_zero_append hwl];exact hw0)),(by first|exact hI1.inc1 (λh=>by omega)|(rw [hw0,hg.2.1,drop_one_append hwl];exact (hI1.put1 hok hx0.1.1 hm om om).1)),(by first|exact hmu|(rw [hw0,hg.2.1,List.length_append];have:=(hI1.put1 hok hx0.1.1 hm om om).2;simp only [List.length_cons,List.length_nil];omega))⟩))))))))
    ·exact Dpo 4 C (Dpo 5 C (Dpo 6 C (Dpo 7 C (Dpo 8 C (Dpo 9 C (Dpo 10 C (Dpo 11 C (Dpo 12 C (Dpo 13 C (Dr 14 C (Al C C) (Dz (Ai (Av (S7 79 9 0 6 52 53 54 C C C C C C C) (Eo C (A4 (Ak (Ai (A0 (Gr (Rad C C) (Gm C (Bf (Ch ((q+1),(a1),(c1),(w),(L3)) (by dsimp only;exact ⟨om,(by first|exact hwl|(rw [List.length_append];omega)),(by first|exact hw0|(rw [at_zero_append hwl];exact hw0)),(by first|exact hI1.inc1 (λh=>by omega)|(rw [hw0,hg.2.1,drop_one_append hwl];exact (hI1.put1 hok hx0.1.1 hm om om).1)),(by first|exact hmu|(rw [hw0,hg.2.1,List.length_append];have:=(hI1.put1 hok hx0.1.1 hm om om).2;simp only [List.length_cons,List.length_nil];omega))⟩)))))))))))))))))))))))
   ·refine Bp (Ac (Ac (Aw (Ak (Ai (A0 (Gm C (Gr (Ew (α:=Int) (xs:=w) (l:=1) Ad ef C C om Bk om) (G.fit (J:=vc 3 (.slice (adrop a1 c1 1 (Enc.sz Int)) (List.drop 1 w).length (c1 - 1)) (List.drop 1 w)::e8 b [hw,ow,lw,nw,e7 (n.sink)] 339::vc 336 hw (hs)::vc 3 lw (L3)::vc 3 nw (nx1)::I) (Fit.upd am (reslice (l:=1) om)) ?_)))))))))
    exact Ga C (Bf (Ch (((adrop a1 c1 1 (Enc.sz Int))),((c1 - 1)),(List.drop 1 w),(L3)) (by dsimp only;exact ⟨(hI1.over1 om),(by rw [List.length_drop];omega)⟩) (hlt:=by (try dsimp only);exact (by rw [List.length_drop];omega))))
  ·refine Bp (Ac (Ac (Aw (Ai (Au (Bt mixed (C7 12 (Dr 0 C (Af C) (Dr 1 C (Br C) (Dr 2 C (Ab fld339_2 C) (Dr 3 C (As ty22) ?_)))))))))))
   refine Dr 4 C (Af C) (Dr 5 C (Br C) (Dr 6 C (Ab fld339_4 C) (Dr 7 C (As ef) ?_)))
   exact Dr 8 C (A2 (α:=Int) (xs:=L2) Ad ef C C Bk om om) (Dr 9 C (B3 (xs:=L2) ef C Bk om om) (Dr 10 C (Cu C C) (Dr 11 C (Bb C) (Dz (Ai (Av (S1 4 C) (Az (Ba C C (e8 b [hw,ow,lw,nw,e7 (n.sink)] 339::vc 336 hw (hs)::vc 3 lw (L2)::vc 3 nw (nx1)::I) A5 ⟨L2,nx1,rfl,⟨hI.done hok hr om,by omega,λz h0 h1=>at_all (p:=λz=>e_ nx1 z=0) (λj hj=>(hz j hj).2) h0 om⟩,rfl⟩))))))))
end Go.Sl
