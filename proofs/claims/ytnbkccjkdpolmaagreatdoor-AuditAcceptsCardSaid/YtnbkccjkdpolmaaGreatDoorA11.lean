/- A part of the proofs of statements of this seat: contracts of functions, and the plain laws that they lean on. No conditions. -/
import Derived.Test.YtnbkccjkdpolmaaGreatDoorA10
set_option linter.unusedVariables false
set_option linter.unusedSimpArgs false
set_option linter.unusedSectionVars false
/- Layers and sending along them: the plain law. No Go. -/
namespace Go.Sl
structure Half where
 frm:Int
 dst:Int
 cap:Int
 left:Int
deriving Inhabited
def fromH(n:Net)(i:Int):Int:=if i % 2=0 then (e_ n.arcs (i / 2)).frm else (e_ n.arcs (i / 2)).dst
def toH(n:Net)(i:Int):Int:=if i % 2=0 then (e_ n.arcs (i / 2)).dst else (e_ n.arcs (i / 2)).frm
def leftH(n:Net)(f:List Int)(i:Int):Int:=if i % 2=0 then (e_ n.arcs (i / 2)).cap - e_ f (i / 2) else e_ f (i / 2)
def mateH(i:Int):Int:=if i % 2=0 then i+1 else i - 1
def InH(n:Net)(i:Int):Prop:=0<=i/\i<2*n.arcs.length
def CapF(n:Net)(f:List Int):Prop:=∀k:Nat,k<n.arcs.length->0<=e_ f k/\e_ f k<=(e_ n.arcs k).cap
structure HOk (n:Net) (f:List Int) (hs:List Half):Prop where
 len:(hs.length:Int)=2*n.arcs.length
 flen:f.length=n.arcs.length
 cap:CapF n f
 get:∀i,InH n i->(e_ hs i).frm=fromH n i/\(e_ hs i).dst=toH n i/\(e_ hs i).left=leftH n f i
structure ROk (n:Net) (rs:List (List Int)):Prop where
 len:(rs.length:Int)=n.nodes
 all:∀v,0<=v->v<n.nodes->∀i∈e_ rs v,InH n i/\fromH n i=v
 has:∀i,InH n i->i∈e_ rs (fromH n i)
section
variable {n:Net}{f g:List Int}{hs:List Half}{rs:List (List Int)}{i j:Int}
theorem InH.half(h:InH n i):0<=i / 2/\i / 2<n.arcs.length:=by unfold InH at h;omega
theorem InH.mate(h:InH n i):InH n (mateH i):=by unfold InH mateH at *; split<;>omega
theorem mate_mate(i:Int):mateH (mateH i)=i:=by unfold mateH;split<;>split<;>omega
theorem mate_ne(i:Int):mateH i≠i:=by unfold mateH;split<;>omega
theorem mate_half(i:Int):mateH i / 2=i / 2:=by unfold mateH;split<;>omega
theorem mate_par(i:Int):mateH i % 2=0↔¬i % 2=0:=by unfold mateH;split<;>omega
theorem from_mate(n:Net)(i:Int):fromH n (mateH i)=toH n i:=by
 unfold fromH toH;rw [mate_half]
 by_cases h:i % 2=0
 ·rw [if_neg (λM=>(mate_par i).1 M h),if_pos h]
 rw [if_pos ((mate_par i).2 h),if_neg h]
theorem to_mate(n:Net)(i:Int):toH n (mateH i)=fromH n i:=by rw [←from_mate,mate_mate]
theorem left_sum(n:Net)(f:List Int)(i:Int):leftH n f i+leftH n f (mateH i)=(e_ n.arcs (i / 2)).cap:=by
 unfold leftH;rw [mate_half]
 by_cases h:i % 2=0
 ·rw [if_neg (λM=>(mate_par i).1 M h),if_pos h];omega
 rw [if_pos ((mate_par i).2 h),if_neg h];omega
theorem left_ok(M:CapF n f)(h:InH n i):0<=leftH n f i/\leftH n f i<=(e_ n.arcs (i / 2)).cap:=by
 have:=cap_ok M h.half.1 h.half.2
 unfold leftH
 split<;>omega
theorem from_ok(M:n.Ok)(h:InH n i):(0<=fromH n i/\fromH n i<n.nodes)/\(0<=toH n i/\toH n i<n.nodes)/\fromH n i≠toH n i:=by
 have:=arc_ok M h.half.1 h.half.2
 unfold fromH toH
 split<;>omega
def pushF(f:List Int)(i d:Int):List Int:=if i % 2=0 then f.set (i / 2).toNat (e_ f (i / 2)+d) else f.set (i / 2).toNat (e_ f (i / 2) - d)
def pushHs(hs:List Half)(i d:Int):List Half:=
 (hs.set i.toNat {e_ hs i with left:=(e_ hs i).left - d}).set (mateH i).toNat {e_ (hs.set i.toNat {e_ hs i with left:=(e_ hs i).left - d}) (mateH i) with left:=(e_ (hs.set i.toNat {e_ hs i with left:=(e_ hs i).left - d})<|mateH i).left+d}
theorem pushF_len(d:Int):(pushF f i d).length=f.length:=by unfold pushF;split<;>simp
theorem pushF_at(M:f.length=n.arcs.length)(h:InH n i)(d:Int)(hj:0<=j):e_ (pushF f i d) j=e_ f j+if i / 2=j then (if i % 2=0 then d else -d) else 0:=by
 have:=h.half
 unfold pushF
 by_cases hp:i % 2=0
 ·rw [if_pos hp,if_pos hp,C2 f (i / 2) j _ om hj om]
  split
  ·rename_i e;rw [e]
  omega
 rw [if_neg hp,if_neg hp,C2 f (i / 2) j _ om hj om]
 split
 ·rename_i e;rw [e];omega
 omega
theorem left_push(M:f.length=n.arcs.length)(h:InH n i)(d:Int)(hj:InH n j):leftH n (pushF f i d) j=leftH n f j+(if j=i then -d else 0)+(if j=mateH i then d else 0):=by
 have h1:=h.half
 have h2:=hj.half
 unfold leftH
 rw [pushF_at M h d h2.1]
 unfold mateH
 by_cases hi:i % 2=0<;>by_cases hjp:j % 2=0<;>by_cases hh:i / 2=j / 2
 all_goals simp only [hi,hjp,hh,if_true,if_false]
 all_goals (repeat' split)<;>omega
theorem pushF_cap(hl:f.length=n.arcs.length)(hc:CapF n f)(h:InH n i){d:Int}(h0:0<=d)(M:d<=leftH n f i):CapF n (pushF f i d):=λk hk=>by
 rw [pushF_at hl h d om]
 have:=hc k hk
 unfold leftH at M
 by_cases hi:i % 2=0<;>by_cases hh:i / 2=(k:Int)
 all_goals simp only [hi,if_true,if_false] at M
 all_goals simp only [hi,hh,if_true,if_false]
 all_goals (try rw [hh] at M)
 all_goals omega
theorem netF_push(M:f.length=n.arcs.length)(h:InH n i)(d z:Int):netF n (pushF f i d) z=netF n f z+(if fromH n i=z then d else 0) - (if toH n i=z then d else 0):=by
 have h1:=h.half
 unfold pushF fromH toH
 have e:((((i / 2).toNat:Nat)):Int)=i / 2:=by omega
 by_cases hp:i % 2=0
 ·rw [if_pos hp,if_pos hp,if_pos hp,netF_set om M,e]
  split<;>split<;>omega
 rw [if_neg hp,if_neg hp,if_neg hp,netF_set om M,e]
 split<;>split<;>omega
theorem HOk.push(h:HOk n f hs)(hi:InH n i){d:Int}(h0:0<=d)(hd:d<=leftH n f i):HOk n (pushF f i d) (pushHs hs i d):=by
 have hl:=h.len
 have hm:=hi.mate
 refine ⟨by unfold pushHs;simp;exact h.len,(pushF_len d).trans h.flen,pushF_cap h.flen h.cap hi h0 hd,λj hj=>?_⟩
 have M:=mate_ne i
 have e1:e_ (hs.set i.toNat {e_ hs i with left:=(e_ hs i).left - d}) (mateH i)=e_ hs (mateH i):=by
  rw [C2 hs i _ _ hi.1 hm.1 (by have:=hi.2;omega),if_neg<|λe=>M e.symm]
 have ej:e_ (pushHs hs i d) j=if mateH i=j then {e_ hs (mateH i) with left:=(e_ hs<|mateH i).left+d} else if i=j then {e_ hs i with left:=(e_ hs i).left - d} else e_ hs j:=by
  unfold pushHs
  rw [C2 _ (mateH i) j _ hm.1 hj.1 (by rw [List.length_set];have:=hm.2;omega),e1,C2 hs i j _ hi.1 hj.1<|by have:=hi.2;omega]
 rw [ej,left_push h.flen hi d hj]
 by_cases a:mateH i=j
 ·subst a
  rw [if_pos rfl,if_neg M,if_pos rfl]
  have:=h.get _ hm
  exact ⟨this.1,this.2.1,by show (e_ hs<|mateH i).left+d=_;omega⟩
 rw [if_neg a,if_neg (show ¬j=mateH i from λe=>a e.symm)]
 by_cases b:i=j
 ·subst b
  rw [if_pos rfl,if_pos rfl]
  have:=h.get _ hi
  exact ⟨this.1,this.2.1,by show (e_ hs i).left - d=_;omega⟩
 rw [if_neg b,if_neg (show ¬j=i from λe=>b e.symm)]
 have:=h.get _ hj
 exact ⟨this.1,this.2.1,by omega⟩
theorem shut_half{S:Int->Bool}:Shut n f S↔∀i,InH n i->S (fromH n i)=true->0<leftH n f i->S (toH n i)=true:=by
 constructor
 ·intro h i hi hs hl
  have M:=hi.half
  have e:((((i / 2).toNat:Nat)):Int)=i / 2:=by omega
  have:=h (i / 2).toNat om
  rw [e] at this
  unfold fromH at hs
  unfold leftH at hl
  unfold toH
  by_cases hp:i % 2=0
  ·rw [if_pos hp] at *; exact this.1 hs om
  rw [if_neg hp] at *; exact this.2 hs hl
 intro h k hk
 have M:=h (2*(k:Int)) (by unfold InH;omega)
 have h2:=h (2*(k:Int)+1) (by unfold InH;omega)
 unfold fromH toH leftH at M h2
 rw [if_pos om,if_pos om,if_pos om,show (2*(k:Int)) / 2=k from by omega] at M
 rw [if_neg om,if_neg om,if_neg om,show (2*(k:Int)+1) / 2=k from by omega] at h2
 exact ⟨λa b=>M a om,h2⟩
inductive Adm (n:Net) (f L:List Int):Int->Prop
 |sink:Adm n f L n.sink
 |step (i:Int):InH n i->0<leftH n f i->e_ L (toH n i)=e_ L (fromH n i)+1->Adm n f L (toH n i)->Adm n f L (fromH n i)
def Less(n:Net)(L f f':List Int):Prop:=∀i,InH n i->e_ L (toH n i)=e_ L (fromH n i)+1->leftH n f' i<=leftH n f i
theorem Less.refl(n:Net)(L f:List Int):Less n L f f:=λ_ _ _=>Int.le_refl _
theorem Less.trans{L h:List Int}(a:Less n L f g)(b:Less n L g h):Less n L f h:=λi hi M=>Int.le_trans (b i hi M) (a i hi M)
theorem Adm.less{L f':List Int}(M:Less n L f f'){z:Int}(h:Adm n f' L z):Adm n f L z:=by
 induction h with
 |sink=>exact .sink
 |step i hi hp hL _ ih=>exact .step i hi (by have:=M i hi hL;omega) hL ih
def Dead(n:Net)(rs:List (List Int))(L f nx:List Int):Prop:=∀u,0<=u->u<n.nodes->∀j:Nat,(j:Int)<e_ nx u->j<(e_ rs u).length->
 ¬(0<leftH n f (e_ (e_ rs u) j)/\e_ L (toH n<|e_ (e_ rs u) j)=e_ L u+1/\Adm n f L (toH n<|e_ (e_ rs u) j))
theorem Dead.less{L f' nx:List Int}(hr:ROk n rs)(hl:Less n L f f')(h:Dead n rs L f nx):Dead n rs L f' nx:=λu h0 h1 j hj M ⟨a,b,c⟩=>by
 have hm:=hr.all u h0 h1 _ (Bx (i:=(j:Int)) om om)
 refine h u h0 h1 j hj M ⟨?_,b,c.less hl⟩
 have:=hl _ hm.1 (by rw [hm.2];exact b)
 omega
theorem Dead.adv{L nx:List Int}{v:Int}(h:Dead n rs L f nx)(hv:0<=v/\v<nx.length)(hx:0<=e_ nx v)
  (hd:¬(0<leftH n f (e_ (e_ rs v)<|e_ nx v)/\e_ L (toH n<|e_ (e_ rs v)<|e_ nx v)=e_ L v+1/\Adm n f L (toH n<|e_ (e_ rs v)<|e_ nx v))):Dead n rs L f (nx.set v.toNat<|e_ nx v+1):=λu h0 h1 j hj M=>by
 rw [C2 nx v u _ hv.1 h0 hv.2] at hj
 by_cases e:v=u
 ·subst e
  rw [if_pos rfl] at hj
  by_cases hj':(j:Int)<e_ nx v
  ·exact h v h0 h1 j hj' M
  rw [show (j:Int)=e_ nx v from by omega];exact hd
 rw [if_neg e] at hj;exact h u h0 h1 j hj M
theorem Dead.not{L nx:List Int}{v:Int}(hr:ROk n rs)(h:Dead n rs L f nx)(M:0<=v/\v<n.nodes)(hs:v≠n.sink)(hx:(e_ rs v).length<=e_ nx v):¬Adm n f L v:=λha=>by
 cases ha with
 |sink=>exact hs rfl
 |step i hi hp hL hA=>
  obtain ⟨j,hj,e⟩:=E7 (hr.has i hi)
  refine h _ M.1 M.2 j om hj ?_
  rw [e];exact ⟨hp,hL,hA⟩
structure PushR (n:Net) (rs:List (List Int)) (L:List Int) (v d:Int) (f nx f' nx':List Int):Prop where
 len:f'.length=n.arcs.length
 cap:CapF n f'
 net:∀z,netF n f' z=netF n f z+(if v=z then d else 0) - (if n.sink=z then d else 0)
 less:Less n L f f'
 same:∀i,InH n i->(e_ L (fromH n i)<e_ L v\/e_ L (toH n i)<e_ L v)->leftH n f' i=leftH n f i
 dead:Dead n rs L f' nx'
 nlen:nx'.length=nx.length
 nge:∀z,0<=z->z<n.nodes->0<=e_ nx' z
 nsame:∀z,0<=z->z<n.nodes->z≠v->e_ L z<=e_ L v->e_ nx' z=e_ nx z
 zero:d=0->f'=f
variable {L nx f' nx':List Int}{v d:Int}
theorem PushR.start(hl:f.length=n.arcs.length)(hc:CapF n f)(M:Dead n rs L f nx)(hx:∀z,0<=z->z<n.nodes->0<=e_ nx z)(v:Int):PushR n rs L v 0 f nx f nx:=
 ⟨hl,hc,λz=>by simp,Less.refl _ _ _,λ_ _ _=>rfl,M,rfl,hx,λ_ _ _ _ _=>rfl,λ_=>rfl⟩
theorem PushR.adv(h:PushR n rs L v d f nx f' nx')(M:0<=v/\v<nx'.length)
  (hd:¬(0<leftH n f' (e_ (e_ rs v)<|e_ nx' v)/\e_ L (toH n<|e_ (e_ rs v)<|e_ nx' v)=e_ L v+1/\Adm n f' L (toH n<|e_ (e_ rs v)<|e_ nx' v))) (hn:v<n.nodes):PushR n rs L v d f nx f' (nx'.set v.toNat<|e_ nx' v+1):=
 ⟨h.len,h.cap,h.net,h.less,h.same,h.dead.adv M (h.nge v M.1 hn) hd,by rw [List.length_set];exact h.nlen,λz h0 h1=>by
  rw [C2 nx' v z _ M.1 h0 M.2]
  have:=h.nge v M.1 hn
  have:=h.nge z h0 h1
  split<;>omega,λz h0 h1 hz hL=>by
  rw [C2 nx' v z _ M.1 h0 M.2,if_neg (λe=>hz e.symm)];exact h.nsame z h0 h1 hz hL,h.zero⟩
theorem pushF_zero(hl:f.length=n.arcs.length)(hi:InH n i):pushF f i 0=f:=by
 have h1:=hi.half
 have e:∀x:Int,x=e_ f (i / 2)->f.set (i / 2).toNat x=f:=λx M=>by
  subst M
  rw [at_eq om om]
  exact List.set_getElem_self _
 unfold pushF
 split
 ·exact e _ om
 exact e _ om
theorem PushR.put(aj:n.Ok)(hr:ROk n rs){i e:Int}{g ng:List Int}(h:PushR n rs L v d f nx f' nx')(hi:InH n i)(hf:fromH n i=v)(hL:e_ L (toH n i)=e_ L v+1)
  (h0:0<=d) (he:0<=e) (an:e<=leftH n f' i) (M:PushR n rs L (toH n i) e f' nx' g ng):PushR n rs L v (d+e) f nx (pushF g i e) ng/\e_ ng v=e_ nx' v/\leftH n g i=leftH n f' i:=by
 have ao:=from_ok aj hi
 have hs:leftH n g i=leftH n f' i:=M.same i hi (.inl<|by rw [hf];omega)
 have aa:Less n L g (pushF g i e):=λj hj ai=>by
  rw [left_push M.len hi e hj]
  by_cases a:j=mateH i
  ·subst a
   rw [to_mate,from_mate,hf] at ai
   omega
  rw [if_neg a];split<;>omega
 refine ⟨⟨(pushF_len e).trans M.len,pushF_cap M.len M.cap hi he om,λz=>?_,(h.less.trans M.less).trans aa,λj hj ab=>?_,M.dead.less hr aa,M.nlen.trans h.nlen,M.nge,λz ae ad hz ah=>?_,λak=>?_⟩,M.nsame v om om om om,hs⟩
 ·rw [netF_push M.len hi,M.net,h.net,hf]
  repeat' split
  all_goals omega
 ·have h3:leftH n g j=leftH n f' j:=M.same j hj om
  rw [left_push M.len hi e hj,h3,h.same j hj ab]
  have a1:j≠i:=λe=>by subst e;rw [hf] at ab;omega
  have a2:j≠mateH i:=λe=>by subst e;rw [to_mate,from_mate,hf] at ab;omega
  rw [if_neg a1,if_neg a2];omega
 ·rw [M.nsame z ae ad (λe=>by subst e;omega) om,h.nsame z ae ad hz ah]
 have e0:e=0:=by omega
 have d0:d=0:=by omega
 subst e0
 rw [pushF_zero M.len hi,M.zero rfl,h.zero d0]
theorem PushR.used{i e m:Int}{g:List Int}(hi:InH n i)(hm:e<m\/leftH n g i=e)(hq:e<m->¬Adm n g L (toH n i))(hg:g.length=n.arcs.length)(he:0<=e)(hL:e_ L (toH n i)=e_ L (fromH n i)+1):¬(0<leftH n (pushF g i e) i/\e_ L (toH n i)=e_ L (fromH n i)+1/\Adm n (pushF g i e) L (toH n i)):=λ⟨a,_,c⟩=>by
 have M:Less n L g (pushF g i e):=λj hj aa=>by
  rw [left_push hg hi e hj]
  by_cases a:j=mateH i
  ·subst a
   rw [to_mate,from_mate] at aa
   omega
  rw [if_neg a];split<;>omega
 rcases hm with hm|hm
 ·exact hq hm<|c.less M
 rw [left_push hg hi e hi,if_pos rfl,if_neg<|λe=>mate_ne i e.symm] at a
 omega
structure LvOk (n:Net) (f L:List Int):Prop where
 len:(L.length:Int)=n.nodes
 src:e_ L n.source=0
 low:∀z,0<=z->z<n.nodes-> -1<=e_ L z/\e_ L z<n.nodes
 clos:∀i,InH n i->0<=e_ L (fromH n i)->0<leftH n f i->0<=e_ L (toH n i)
 par:∀z,0<=z->z<n.nodes->0<=e_ L z->z≠n.source->∃i,InH n i/\toH n i=z/\0<leftH n f i/\0<=e_ L (fromH n i)/\e_ L z=e_ L (fromH n i)+1
theorem LvOk.adm(aa:n.Ok)(h:LvOk n f L){z:Int}(hz:Adm n f L z):∀m:Nat,0<=z->z<n.nodes->e_ L z=m->Adm n f L n.source:=λm=>by
 induction m generalizing z with
 |zero=>
  intro h0 h1 hm
  by_cases hs:z=n.source
  ·subst hs;exact hz
  obtain ⟨i,hi,he,hl,hf,hq⟩:=h.par z h0 h1 om hs
  omega
 |succ m ih=>
  intro h0 h1 hm
  by_cases hs:z=n.source
  ·subst hs;exact hz
  obtain ⟨i,hi,he,hl,hf,hq⟩:=h.par z h0 h1 om hs
  have M:=from_ok aa hi
  subst he
  exact ih (.step i hi hl hq hz) M.1.1 M.1.2 om
theorem LvOk.go(M:n.Ok)(h:LvOk n f L)(hs:0<=e_ L n.sink):Adm n f L n.source:=
 h.adm M .sink (e_ L n.sink).toNat M.snk.1 M.snk.2 om
theorem LvOk.end(M:n.Ok)(h:LvOk n f L)(hs:¬0<=e_ L n.sink):∃S:Int->Bool,Shut n f S/\S n.source=true/\S n.sink=false:=
 ⟨λz=>decide<|0<=e_ L z,shut_half.2 λi hi a b=>decide_eq_true<|h.clos i hi (of_decide_eq_true a) b,decide_eq_true<|by rw [h.src];omega,decide_eq_false hs⟩
theorem PushR.flow(M:n.Ok)(hf:IsFlow n f)(h:PushR n rs L n.source d f nx f' nx'):IsFlow n f'/\netF n f' n.source=netF n f n.source+d:=by
 have aa:=M.ne
 refine ⟨⟨h.len,h.cap,λv h0 h1 hs ht=>?_⟩,?_⟩
 ·rw [h.net v,if_neg<|λe=>hs e.symm,if_neg<|λe=>ht e.symm,hf.cons v h0 h1 hs ht];rfl
 rw [h.net,if_pos rfl,if_neg<|λe=>aa e.symm];omega
end
structure LI (n:Net) (f:List Int) (rs:List (List Int)) (L todo:List Int) (x:Int) (q:Nat):Prop where
 len:(L.length:Int)=n.nodes
 src:e_ L n.source=0
 low:∀z,0<=z->z<n.nodes-> -1<=e_ L z/\e_ L z+un L<n.nodes
 wait:∀z∈todo,(0<=z/\z<n.nodes)/\0<=e_ L z
 clos:∀z,0<=z->z<n.nodes->0<=e_ L z->z∉todo->∀j:Nat,j<(e_ rs z).length->(z=x->j<q)->0<leftH n f (e_ (e_ rs z) j)->0<=e_ L (toH n<|e_ (e_ rs z) j)
 par:∀z,0<=z->z<n.nodes->0<=e_ L z->z≠n.source->∃i,InH n i/\toH n i=z/\0<leftH n f i/\0<=e_ L (fromH n i)/\e_ L z=e_ L (fromH n i)+1
 cur:0<=x->x<n.nodes/\0<=e_ L x
section
variable {n:Net}{f L todo:List Int}{rs:List (List Int)}{x:Int}{q:Nat}
theorem LI.put(ah:n.Ok)(h:LI n f rs L todo x q)(hx:0<=x){i:Int}(hi:InH n i)(hf:fromH n i=x)(hl:0<leftH n f i)(hn:e_ L (toH n i)<0) :
  LI n f rs (L.set (toH n i).toNat (e_ L x+1)) (todo++[toH n i]) x q/\un (L.set (toH n i).toNat (e_ L x+1))+1=un L:=by
 have ad:=from_ok ah hi
 have hlen:=h.len
 have hc:(0<=x/\x<n.nodes)/\0<=e_ L x:=⟨⟨hx,(h.cur hx).1⟩,(h.cur hx).2⟩
 have av:=h.low _ ad.2.1.1 ad.2.1.2
 have aw:=h.low _ hc.1.1 hc.1.2
 have hu:=un_set (out:=L) (y:=toH n i) (i:=e_ L x+1) om om om
 generalize hy:toH n i=y at *
 have aa:∀z,0<=z->e_ (L.set y.toNat<|e_ L x+1) z=if y=z then e_ L x+1 else e_ L z:=λz hz=>C2 L y z _ ad.2.1.1 hz om
 have ab:∀z,0<=z->0<=e_ L z->0<=e_ (L.set y.toNat<|e_ L x+1) z:=λz hz hp=>by rw [aa z hz];split<;>omega
 refine ⟨⟨by rw [List.length_set];exact h.len,?_,λz h0 h1=>?_,λz hz=>?_,λz h0 h1 hz ai j hj au ao=>?_,λz h0 h1 hz hs=>?_,λ_=>⟨hc.1.2,ab x hc.1.1 hc.2⟩⟩,hu⟩
 ·have:=ah.src
  rw [aa _ this.1,if_neg (λe=>by subst e;have:=h.src;omega)];exact h.src
 ·have hz:=h.low z h0 h1
  rw [aa z h0]
  split<;>omega
 ·rcases List.mem_append.1 hz with hz|hz
  ·have:=h.wait z hz
   exact ⟨this.1,ab z this.1.1 this.2⟩
  rw [List.mem_singleton.1 hz]
  exact ⟨ad.2.1,by rw [aa y ad.2.1.1,if_pos rfl];omega⟩
 ·have ae:y≠z:=λe=>ai (List.mem_append_right _<|List.mem_singleton.2 e.symm)
  rw [aa z h0,if_neg ae] at hz
  have:=h.clos z h0 h1 hz (λhm=>ai<|List.mem_append_left _ hm) j hj au ao
  generalize toH n (e_ (e_ rs z) j)=t at this ⊢
  by_cases hneg:0<=t
  ·exact ab _ hneg this
  have e0:∀M:List Int,e_ M t=e_ M 0:=λM=>by unfold e_;rw [show t.toNat=(0:Int).toNat from by omega]
  rw [e0] at this ⊢; exact ab 0 om om
 rw [aa z h0] at hz ⊢
 by_cases ae:y=z
 ·rw [if_pos ae]
  have ar:y≠x:=λe=>by subst e;omega
  exact ⟨i,hi,hy.trans ae,hl,by rw [hf];exact ab x hc.1.1 hc.2,by rw [hf,aa x hc.1.1,if_neg ar]⟩
 rw [if_neg ae] at hz ⊢
 obtain ⟨k,hk,he,ap,aj,an⟩:=h.par z h0 h1 hz hs
 have ak:=from_ok ah hk
 have aq:y≠fromH n k:=λe=>by rw [←e] at aj;omega
 exact ⟨k,hk,he,ap,ab _ ak.1.1 aj,by rw [aa _ ak.1.1,if_neg aq];exact an⟩
theorem LI.inc(h:LI n f rs L todo x q)(hd:0<leftH n f (e_ (e_ rs x) q)->0<=e_ L (toH n (e_ (e_ rs x) q))):LI n f rs L todo x (q+1):=
 ⟨h.len,h.src,h.low,h.wait,λz h0 h1 hz aa j hj ab M=>by
  by_cases e:z=x/\j=q
  ·obtain ⟨rfl,rfl⟩:=e;exact hd M
  exact h.clos z h0 h1 hz aa j hj (λez=>by have:=ab ez;have:j≠q:=λej=>e ⟨ez,ej⟩;omega) M,h.par,h.cur⟩
theorem LI.next(h:LI n f rs L todo (-1) 0)(ht:0<todo.length):LI n f rs L (todo.drop 1) (e_ todo 0) 0:=by
 obtain ⟨x,t,rfl⟩:∃x t,todo=x::t:=by cases todo with
  |nil=>simp at ht
  |cons x t=>exact ⟨x,t,rfl⟩
 show LI n f rs L t x 0
 refine ⟨h.len,h.src,h.low,λz hz=>h.wait z<|List.mem_cons_of_mem _ hz,λz h0 h1 hz aa j hj ad M=>?_,h.par,λ_=>?_⟩
 ·by_cases e:z=x
  ·have:=ad e;omega
  have ab:z∉x::t:=λhm=>by
   rcases List.mem_cons.1 hm with hm|hm
   ·exact e hm
   exact aa hm
  exact h.clos z h0 h1 hz ab j hj (λez=>by omega) M
 have:=h.wait x List.mem_cons_self
 exact ⟨this.1.2,this.2⟩
theorem LI.over(h:LI n f rs L todo x q)(hq:(e_ rs x).length<=q):LI n f rs L todo (-1) 0:=
 ⟨h.len,h.src,h.low,h.wait,λz h0 h1 hz aa j hj _ M=>h.clos z h0 h1 hz aa j hj (λe=>by subst e;omega) M,h.par,λh=>by omega⟩
theorem LI.done(aa:n.Ok)(hr:ROk n rs)(h:LI n f rs L todo (-1) 0)(ht:¬0<todo.length):LvOk n f L:=by
 obtain rfl:todo=[]:=List.eq_nil_of_length_eq_zero om
 exact ⟨h.len,h.src,λz h0 h1=>by have:=h.low z h0 h1;omega,λi hi hf hl=>by
  have M:=from_ok aa hi
  obtain ⟨j,hj,e⟩:=E7 (hr.has i hi)
  have:=h.clos _ M.1.1 M.1.2 hf (by simp) j hj (λe=>by omega) (by rw [e];exact hl)
  rwa [e] at this,h.par⟩
theorem LI.start(ad:n.Ok){L0:List Int}(hl:(L0.length:Int)=n.nodes)(h0:∀j:Nat,j<L0.length->e_ L0 j = -1):LI n f rs (L0.set n.source.toNat 0) [n.source] (-1) 0/\un (L0.set n.source.toNat 0)+1=n.nodes.toNat:=by
 have hs:=ad.src
 have aa:∀z:Int,0<=z->z<n.nodes->e_ L0 z = -1:=λz a b=>at_all (p:=λz=>e_ L0 z = -1) h0 a om
 have M:∀z,0<=z->e_ (L0.set n.source.toNat 0) z=if n.source=z then 0 else e_ L0 z:=λz hz=>C2 L0 _ z _ hs.1 hz om
 have hu:=un_set (out:=L0) (y:=n.source) (i:=0) om (aa _ hs.1 hs.2) om
 have ah:un L0=n.nodes.toNat:=by
  have e:=eq_rep h0
  unfold un
  rw [e,List.count_replicate_self];omega
 refine ⟨⟨by rw [List.length_set];exact hl,by rw [M _ hs.1,if_pos rfl],λz a b=>?_,λz hz=>?_,λz a b hz ab=>?_,λz a b hz ae=>?_,λh=>by omega⟩,by omega⟩
 ·rw [M z a,aa z a b];split<;>omega
 ·rw [List.mem_singleton.1 hz];exact ⟨hs,by rw [M _ hs.1,if_pos rfl];omega⟩
 ·exfalso
  have:n.source≠z:=λe=>ab (by rw [e];exact List.mem_singleton.2 rfl)
  rw [M z a,if_neg this,aa z a b] at hz;omega
 exfalso
 rw [M z a,if_neg<|λe=>ae e.symm,aa z a b] at hz;omega
end
theorem at_zero_append{α:Type}[Inhabited α]{w:List α}{y:List α}(h:0<w.length):e_ (w++y) 0=e_ w 0:=by
 cases w with
 |nil=>simp at h
 |cons x t=>rfl
theorem drop_one_append{α:Type}{w y:List α}(h:0<w.length):(w++y).drop 1=w.drop 1++y:=by
 cases w with
 |nil=>simp at h
 |cons x t=>rfl
def goH(n:Net)(f:List Int)(ag:Bool)(i:Int):Int:=if ag then leftH n f (mateH i) else leftH n f i
def ShutG(n:Net)(f:List Int)(ag:Bool)(S:Int->Bool):Prop:=∀i,InH n i->S (fromH n i)=true->0<goH n f ag i->S (toH n i)=true
structure RI (n:Net) (f:List Int) (ag:Bool) (v:Int) (rs:List (List Int)) (seen:List Bool) (todo:List Int) (x:Int) (q:Nat):Prop where
 len:(seen.length:Int)=n.nodes
 src:e_ seen v=true
 wait:∀z∈todo,(0<=z/\z<n.nodes)/\e_ seen z=true
 clos:∀z,0<=z->z<n.nodes->e_ seen z=true->z∉todo->∀j:Nat,j<(e_ rs z).length->(z=x->j<q)->0<goH n f ag (e_ (e_ rs z) j)->e_ seen (toH n<|e_ (e_ rs z) j)=true
 sound:∀S:Int->Bool,ShutG n f ag S->S v=true->∀z,0<=z->z<n.nodes->e_ seen z=true->S z=true
 cur:0<=x->x<n.nodes/\e_ seen x=true
def unB(l:List Bool):Nat:=l.count false
theorem unB_set{l:List Bool}{y:Int}(hy:0<=y/\y<l.length)(h:e_ l y=false):unB (l.set y.toNat true)+1=unB l:=by
 unfold unB
 have hl:y.toNat<l.length:=by omega
 have M:l[y.toNat]=false:=by rw [at_eq hy.1 hy.2] at h;exact h
 rw [List.count_set hl]
 have aa:0<l.count false:=List.count_pos_iff.2 (M▸List.getElem_mem hl)
 have e1:(l[y.toNat]==false)=true:=by simp [M]
 have e2:(true==false)=false:=rfl
 rw [e1,e2]
 simp only [if_true,Bool.false_eq_true,if_false]
 omega
section
variable {n:Net}{f todo:List Int}{ag:Bool}{v:Int}{seen:List Bool}{rs:List (List Int)}{x:Int}{q:Nat}
theorem RI.put(an:n.Ok)(h:RI n f ag v rs seen todo x q)(hx:0<=x)(hv:0<=v){i:Int}(hi:InH n i)(hf:fromH n i=x)(hl:0<goH n f ag i)(hn:e_ seen (toH n i)=false) :
  RI n f ag v rs (seen.set (toH n i).toNat true) (todo++[toH n i]) x q/\unB (seen.set (toH n i).toNat true)+1=unB seen:=by
 have ae:=from_ok an hi
 have hlen:=h.len
 have hc:=h.cur hx
 have hu:=unB_set (l:=seen) (y:=toH n i) om hn
 have ai:∀S:Int->Bool,ShutG n f ag S->S x=true->S (toH n i)=true:=λS hS hs=>hS i hi (by rw [hf];exact hs) hl
 generalize hy:toH n i=y at *
 have ab:∀z,0<=z->e_ (seen.set y.toNat true) z=if y=z then true else e_ seen z:=λz hz=>C2 seen y z _ ae.2.1.1 hz om
 have aa:∀z,0<=z->e_ seen z=true->e_ (seen.set y.toNat true) z=true:=λz hz hp=>by rw [ab z hz];split<;>first|rfl|exact hp
 refine ⟨⟨by rw [List.length_set];exact h.len,aa v hv h.src,λz hz=>?_,λz h0 h1 hz ah j hj ak aj=>?_,λS hS hs z h0 h1 hz=>?_,λ_=>⟨hc.1,aa x hx hc.2⟩⟩,hu⟩
 ·rcases List.mem_append.1 hz with hz|hz
  ·have:=h.wait z hz
   exact ⟨this.1,aa z this.1.1 this.2⟩
  rw [List.mem_singleton.1 hz]
  exact ⟨ae.2.1,by rw [ab y ae.2.1.1,if_pos rfl]⟩
 ·have ad:y≠z:=λe=>ah (List.mem_append_right _<|List.mem_singleton.2 e.symm)
  rw [ab z h0,if_neg ad] at hz
  have:=h.clos z h0 h1 hz (λhm=>ah<|List.mem_append_left _ hm) j hj ak aj
  generalize toH n (e_ (e_ rs z) j)=t at this ⊢
  by_cases hneg:0<=t
  ·exact aa _ hneg this
  have e0:∀M:List Bool,e_ M t=e_ M 0:=λM=>by unfold e_;rw [show t.toNat=(0:Int).toNat from by omega]
  rw [e0] at this ⊢; exact aa 0 om om
 rw [ab z h0] at hz
 by_cases ad:y=z
 ·subst ad
  exact ai S hS<|h.sound S hS hs x hx hc.1 hc.2
 rw [if_neg ad] at hz
 exact h.sound S hS hs z h0 h1 hz
theorem RI.inc(h:RI n f ag v rs seen todo x q)(hd:0<goH n f ag (e_ (e_ rs x) q)->e_ seen (toH n (e_ (e_ rs x) q))=true):RI n f ag v rs seen todo x (q+1):=
 ⟨h.len,h.src,h.wait,λz h0 h1 hz aa j hj ab M=>by
  by_cases e:z=x/\j=q
  ·obtain ⟨rfl,rfl⟩:=e;exact hd M
  exact h.clos z h0 h1 hz aa j hj (λez=>by have:=ab ez;have:j≠q:=λej=>e ⟨ez,ej⟩;omega) M,h.sound,h.cur⟩
theorem RI.next(h:RI n f ag v rs seen todo (-1) 0)(ht:0<todo.length):RI n f ag v rs seen (todo.drop 1) (e_ todo 0) 0:=by
 obtain ⟨x,t,rfl⟩:∃x t,todo=x::t:=by cases todo with
  |nil=>simp at ht
  |cons x t=>exact ⟨x,t,rfl⟩
 show RI n f ag v rs seen t x 0
 refine ⟨h.len,h.src,λz hz=>h.wait z<|List.mem_cons_of_mem _ hz,λz h0 h1 hz aa j hj ad M=>?_,h.sound,λ_=>?_⟩
 ·by_cases e:z=x
  ·have:=ad e;omega
  have ab:z∉x::t:=λhm=>by
   rcases List.mem_cons.1 hm with hm|hm
   ·exact e hm
   exact aa hm
  exact h.clos z h0 h1 hz ab j hj (λez=>by omega) M
 have:=h.wait x List.mem_cons_self
 exact ⟨this.1.2,this.2⟩
theorem RI.over(h:RI n f ag v rs seen todo x q)(hq:(e_ rs x).length<=q):RI n f ag v rs seen todo (-1) 0:=
 ⟨h.len,h.src,h.wait,λz h0 h1 hz aa j hj _ M=>h.clos z h0 h1 hz aa j hj (λe=>by subst e;omega) M,h.sound,λh=>by omega⟩
theorem RI.start(hv:0<=v/\v<n.nodes){s0:List Bool}(hl:(s0.length:Int)=n.nodes)(h0:∀z:Int,0<=z->z<n.nodes->e_ s0 z=false):RI n f ag v rs (s0.set v.toNat true) [v] (-1) 0:=by
 have aa:∀z,0<=z->e_ (s0.set v.toNat true) z=if v=z then true else e_ s0 z:=λz M=>C2 s0 _ z _ hv.1 M om
 refine ⟨by rw [List.length_set];exact hl,by rw [aa _ hv.1,if_pos rfl],λz M=>?_,λz a b M ab=>?_,λS hS hs z a b M=>?_,λh=>by omega⟩
 ·rw [List.mem_singleton.1 M];exact ⟨hv,by rw [aa _ hv.1,if_pos rfl]⟩
 ·exfalso
  have:v≠z:=λe=>ab (by rw [e];exact List.mem_singleton.2 rfl)
  rw [aa z a,if_neg this,h0 z a b] at M;cases M
 by_cases e:v=z
 ·subst e;exact hs
 rw [aa z a,if_neg e,h0 z a b] at M;cases M
structure Seen (n:Net) (f:List Int) (ag:Bool) (v:Int) (seen:List Bool):Prop where
 len:(seen.length:Int)=n.nodes
 src:e_ seen v=true
 shut:ShutG n f ag λz=>e_ seen z
 sound:∀S:Int->Bool,ShutG n f ag S->S v=true->∀z,0<=z->z<n.nodes->e_ seen z=true->S z=true
theorem RI.done(aa:n.Ok)(hr:ROk n rs)(h:RI n f ag v rs seen todo (-1) 0)(ht:¬0<todo.length):Seen n f ag v seen:=by
 obtain rfl:todo=[]:=List.eq_nil_of_length_eq_zero om
 exact ⟨h.len,h.src,λi hi hf hl=>by
  have M:=from_ok aa hi
  obtain ⟨j,hj,e⟩:=E7 (hr.has i hi)
  have:=h.clos _ M.1.1 M.1.2 hf (by simp) j hj (λe=>by omega) (by rw [e];exact hl)
  rwa [e] at this,h.sound⟩
structure Full (n:Net) (f:List Int) (val:Int):Prop where
 flow:IsFlow n f
 val:val=netF n f n.source
 ends:∃S:Int->Bool,Shut n f S/\S n.source=true/\S n.sink=false
theorem shutG_bwd{S:Int->Bool}:ShutG n f true (λz=> !S z)↔Shut n f S:=by
 rw [shut_half]
 constructor
 ·intro h i hi a b
  have M:(!S (fromH n<|mateH i))=true->0<goH n f true (mateH i)->(!S (toH n<|mateH i))=true:=h (mateH i) hi.mate
  rw [from_mate,to_mate] at M
  unfold goH at M
  rw [mate_mate,if_pos rfl] at M
  cases hs:S (toH n i)
  ·have h1:=M (by rw [hs];rfl) b
   rw [a] at h1;cases h1
  rfl
 intro h i hi a b
 unfold goH at b
 rw [if_pos rfl] at b
 have a':(!S (fromH n i))=true:=a
 have M:=h (mateH i) hi.mate
 rw [from_mate,to_mate] at M
 show (!S (toH n i))=true
 cases hs:S (toH n i)
 ·rfl
 have h1:=M hs b
 rw [h1] at a';cases a'
theorem Seen.great(M:n.Ok){val:Int}(hf:Full n f val)(h:Seen n f true n.sink seen):Great n f λz=> !e_ seen z:=by
 have hs:=M.src
 have ht:=M.snk
 refine ⟨?_,by rw [h.src];rfl,?_,λS hS hv z h0 h1 hz=>?_⟩
 ·obtain ⟨S,h1,h2,h3⟩:=hf.ends
  cases e:e_ seen n.source
  ·rfl
  have:=h.sound (λz=> !S z) (shutG_bwd.2 h1) (by rw [h3];rfl) _ hs.1 hs.2 e
  rw [h2] at this;cases this
 ·refine shutG_bwd.1 ?_
  have e:(λz=> !!e_ seen z)=λz=>e_ seen z:=by funext z;simp
  rw [e];exact h.shut
 cases e:e_ seen z
 ·rfl
 have:=h.sound (λz=> !S z) (shutG_bwd.2 hS) (by rw [hv];rfl) z h0 h1 e
 rw [hz] at this;cases this
end
end Go.Sl
namespace Go.Sl
theorem nat_xor_one(n:Nat):n ^^^ 1=if n % 2=0 then n+1 else n - 1:=by
 have h1:(n ^^^ 1) / 2=n / 2:=by rw [Nat.xor_div_two];simp
 have M:(n ^^^ 1) % 2=1↔¬(n % 2=1↔1 % 2=1):=Nat.xor_mod_two_eq_one
 split<;>omega
theorem xor_mate{i:Int}(h0:0<=i)(h1:i<4611686018427387904):bits .xor .i64 i 1=mateH i:=by
 obtain ⟨n,rfl⟩:∃n:Nat,i=(n:Int):=⟨i.toNat,by omega⟩
 have e:(BitVec.ofInt 64 (n:Int) ^^^ BitVec.ofInt 64 1).toNat=n ^^^ 1:=by
  rw [BitVec.toNat_xor,BitVec.toNat_ofInt,BitVec.toNat_ofInt]
  congr 1
  omega
 have M:bits .xor .i64 (n:Int) 1=IntKind.i64.wrap (((n ^^^ 1:Nat)):Int):=by
  unfold bits
  show IntKind.i64.wrap ((BitVec.ofInt 64 (n:Int) ^^^ BitVec.ofInt 64 1).toNat:Int)=_
  rw [e]
 rw [M,nat_xor_one]
 unfold mateH
 split<;>split<;>rw [IntKind.wrap_i64]<;>omega
end Go.Sl
namespace Go.Sl
open Go.Proofs
set_option maxRecDepth 4000
variable{κ:Ctx}{I:List Item}{b:Nat}{hw lw nw ow:Value}{nx:List Int}
instance:Enc Half:=⟨λh=>[e7 h.frm,e7 h.dst,e7 h.cap,e7 h.left],4,by omega,λ_=>rfl,λh u hu=>by
 simp only [List.mem_cons,List.not_mem_nil,or_false] at hu
 rcases hu with rfl|rfl|rfl|rfl<;>rfl⟩
structure Row where
 a:Option Addr
 c:Nat
 xs:List Int
deriving Inhabited
instance:Enc Row:=⟨λr=>[.slice r.a r.xs.length r.c],1,by omega,λ_=>rfl,λr u hu=>by
 simp only [List.mem_cons,List.not_mem_nil,or_false] at hu
 subst hu;rfl⟩
def rowsL(rs:List Row):List (List Int):=rs.map Row.xs
theorem rowsL_at(rs:List Row)(v:Int):e_ (rowsL rs) v=(e_ rs v).xs:=by
 unfold rowsL e_
 simp only [List.getD_eq_getElem?_getD,List.getElem?_map]
 cases rs[v.toNat]? <;>rfl
section
variable {n:Net}{f L todo:List Int}{rs:List Row}{x i v:Int}{q:Nat}{hs:List Half}
theorem ROk.rl(h:ROk n (rowsL rs)):(rs.length:Int)=n.nodes:=by have:=h.len;unfold rowsL at this;rwa [List.length_map] at this
theorem ROk.row(h:ROk n (rowsL rs))(h0:0<=v)(h1:v<n.nodes){j:Int}(M:0<=j)(hj:j<(e_ rs v).xs.length):InH n (e_ (e_ rs v).xs j)/\fromH n (e_ (e_ rs v).xs j)=v:=by
 have:=h.all v h0 h1 (e_ (e_ rs v).xs j)
 rw [rowsL_at] at this
 exact this<|Bx M hj
theorem lay_step{L1 M:List Int}{k:Nat}(h:∀j:Nat,j<k->e_ L1 j = -1/\e_ M j=0)(hk:k<L1.length)(aa:k<M.length) :
  ∀j:Nat,j<k+1->e_ (List.set L1 ((k:Nat):Int).toNat (-1)) (j:Int) = -1/\e_ (List.set M ((k:Nat):Int).toNat 0) (j:Int)=0:=λj hj=>by
 rw [Int.toNat_natCast,at_setn L1 k j _ hk,at_setn M k j _ aa]
 by_cases e:k=j
 ·rw [if_pos e,if_pos e];exact ⟨rfl,rfl⟩
 rw [if_neg e,if_neg e];exact h j om
theorem LI.inc1(h:LI n f (rowsL rs) L todo x q)(M:0<leftH n f (e_ (e_ rs x).xs (q:Int))->0<=e_ L (toH n (e_ (e_ rs x).xs (q:Int)))):LI n f (rowsL rs) L todo x (q+1):=h.inc (by rw [rowsL_at];exact M)
theorem LI.put1(aa:n.Ok)(h:LI n f (rowsL rs) L todo x q)(hx:0<=x)(hi:InH n (e_ (e_ rs x).xs (q:Int))/\fromH n (e_ (e_ rs x).xs (q:Int))=x)(hl:0<leftH n f (e_ (e_ rs x).xs (q:Int)))(hn:e_ L (toH n (e_ (e_ rs x).xs (q:Int)))<0) :
  LI n f (rowsL rs) (L.set (toH n<|e_ (e_ rs x).xs (q:Int)).toNat (e_ L x+1)) (todo++[toH n (e_ (e_ rs x).xs (q:Int))]) x (q+1)/\un (L.set (toH n<|e_ (e_ rs x).xs (q:Int)).toNat (e_ L x+1))+1=un L:=by
 have h1:=h.put aa hx hi.1 hi.2 hl hn
 refine ⟨h1.1.inc1 λ_=>?_,h1.2⟩
 have M:=from_ok aa hi.1
 rw [C2 _ _ _ _ M.2.1.1 M.2.1.1 (by have:=h.len;omega),if_pos rfl]
 have:=(h.cur hx).2
 omega
theorem LI.over1(h:LI n f (rowsL rs) L todo x q)(M:(e_ rs x).xs.length<=q):LI n f (rowsL rs) L todo (-1) 0:=h.over (by rw [rowsL_at];exact M)
end
theorem Layers_ok{n:Net}{f:List Int}{hs:List Half}{rs:List Row}{L:List Int}(ab:n.Ok)(hh:HOk n f hs)(hr:ROk n (rowsL rs))(ho:Sl κ I ow rs)(ai:∀i:Int,0<=i->i<rs.length->Sl κ I (.slice (e_ rs i).a (e_ rs i).xs.length (e_ rs i).c) (e_ rs i).xs)(hL:(L.length:Int)=n.nodes)(hN:(nx.length:Int)=n.nodes):eu Tryz.prog κ 315 [.pointer (some ⟨b,0,none⟩),e7 (n.source)] (e8 b [hw,ow,lw,nw,e7 (n.sink)] 315::vc 312 hw (hs)::vc 3 lw (L)::vc 3 nw (nx)::I) (λr J=>∃L' nx':List Int,r = .bool (decide (0<=e_ L' n.sink))/\(LvOk n f L'/\(nx'.length:Int)=n.nodes/\∀z:Int,0<=z->z<n.nodes->e_ nx' z=0)/\J=e8 b [hw,ow,lw,nw,e7 (n.sink)] 315::vc 312 hw (hs)::vc 3 lw (L')::vc 3 nw (nx')::I):=by
 have a6:=ab.lim
 have a4:=ab.src
 have a5:=ab.snk
 have bh:=hh.len
 have be:=hr.rl
 refine Ce2 Tryz.func315 C C ?_
 refine Ar<|Ga C<|As<|A5<|Ar<|Gm C<|Gr (Bo C)<|Gf fld315_2 C<|Gl ty22 ?_
 refine Gr (Da (α:=Int) (xs:=L) Aa C A7)<|Gm C<|As<|Bk<|Cn (σ:=Nat×(List Int)×(List Int)) (λs=>([(0,.pointer<|some ⟨b,0,none⟩),(1,e7<|n.source),(14,e7 ((L.length:Nat):Int)),(15,e7 ((s.1:Nat):Int))]:Env)) (λs=>e8 b [hw,ow,lw,nw,e7<|n.sink] 315::vc 312 hw (hs)::vc 3 lw (s.2.1)::vc 3 nw (s.2.2)::I) (λs=>(s.1<=L.length)/\(s.2.1.length=L.length)/\(s.2.2.length=nx.length)/\(∀j:Nat,j<s.1->e_ s.2.1 j = -1/\e_ s.2.2 j=0)) (λs=>L.length - s.1) (0,L,nx) ⟨om,rfl,rfl,all_zero⟩ (Ab C<|Ab C<|Ab C<|Ab Dg Bs) Aj ?_
 rintro ⟨k,L1,ae⟩ hp
 dsimp only at hp ⊢
 obtain ⟨hk,ao,ar,hz⟩:=hp
 refine Ar<|Gr (Ch C C)<|As<|A5<|Ap C (λap=>?_)<|λap=>?_
 ·refine Bt (Ay<|A5<|Bk<|Ar<|Gm C<|Ga C<|As<|A4 mixed<|Cm (e8 b [hw,ow,lw,nw,e7<|n.sink] 315::vc 312 hw (hs)::I) 14<|Dr 0 C (Af C)<|Dr 1 C (Bo C)<|Dr 2 C (Ad fld315_2 C)<|Dr 3 C (Ax ty22) ?_)
  refine Dr 4 C (Af C)<|Dr 5 C (Af C)<|Dr 6 C (Bo C)<|Dr 7 C (Ad fld315_3 C)<|Dr 8 C (Ax ty22) ?_
  refine Dr 9 C (Af C)<|Ds1 10<|Sr C (Az (α:=Int) (xs:=L1) Aa ef C C A7 om om) Aj ?_
  refine Ds1 11<|Se0 C (Ci (α:=Int) (xs:=L1) (e:=3) (new:= -1) ef C C C om om am) ?_
  refine Ds1 12<|Sr C (Az (α:=Int) (xs:=ae) Aa ef C C A7 om om) Aj ?_
  refine Ds1 13<|Se0 C (Ci (α:=Int) (xs:=ae) (e:=3) (new:=0) ef C C C om om am) ?_
  exact Dz<|Av<|Ay<|Bg (S4 0 1 14 15 C C C C)<|Be<|Gr (Rad C C)<|Gm C<|Bi<|B5 ((k+1),(List.set L1 ((k:Int)).toNat (-1)),(List.set ae ((k:Int)).toNat (0)))<|by dsimp only;exact ⟨om,(by rw [List.length_set];exact ao),(by rw [List.length_set];exact ar),(lay_step hz om om)⟩
 refine C7<|A9<|A9<|B3<|Ay<|Ar<|Gm C ?_
 have aw:k=L.length:=by omega
 subst aw
 have an:=LI.start (f:=f) (rs:=rowsL rs) ab (L0:=L1) om (λj hj=>(hz j om).1)
 have a9:(List.set L1 n.source.toNat 0).length=L1.length:=by rw [List.length_set]
 refine Gr (Bo C)<|Gf fld315_2 C<|Gl ty22 ?_
 refine Gm C<|Gr (Az (α:=Int) (xs:=L1) Aa ef C C A7 om om)<|Ge0 (Ci (α:=Int) (xs:=L1) (e:=3) (new:=0) ef C C C om om am) ?_
 refine As<|A5<|Ar<|Gm C<|Ge1 (B9 (α:=Int) (cs:=[_]) (xs:=[n.source]) Aa ef C C dc dc C C C C) λa0=>?_
 refine Ga C<|As<|Bg (S2 6 0 C C)<|Bk<|Cn (σ:=(Option Addr)×Nat×(List Int)×(List Int)) (λs=>([(0,.pointer<|some ⟨b,0,none⟩),(6,.slice s.1 s.2.2.1.length s.2.1)]:Env)) (λs=>vc 3 (.slice s.1 s.2.2.1.length s.2.1) (s.2.2.1)::e8 b [hw,ow,lw,nw,e7<|n.sink] 315::vc 312 hw (hs)::vc 3 lw (s.2.2.2)::vc 3 nw (ae)::I) (λs=>(LI n f (rowsL rs) s.2.2.2 s.2.2.1 (-1) 0)/\(un s.2.2.2+s.2.2.1.length<=n.nodes.toNat)) (λs=>un s.2.2.2+s.2.2.1.length) (a0,1,[n.source],List.set L1 (n.source).toNat (0)) ⟨an.1,(by have:=an.2;simp only [List.length_cons,List.length_nil];omega)⟩ (Ab C<|Ab (El C<|by first|rfl|simp) Bs) Aj ?_
 rintro ⟨a,c,todo,L2⟩ hp
 dsimp only at hp ⊢
 obtain ⟨hI,bg⟩:=hp
 have a7:=hI.len
 refine A5<|Ar<|Gm C<|Gr (Ca Aa C)<|Gr (Df C C)<|As<|Ap C (λaq=>?_)<|λaq=>?_
 ·refine Bt (Ay<|A5<|Bk<|A5<|A4 mixed<|Cr 11<|Dr 0 C (Af C) ?_)
  have ad:=hI.wait _ (Bx (xs:=todo) (i:=0) om om)
  refine Dr 1 C (Bo C)<|Dr 2 C (Ad fld315_1 C)<|Dr 3 C (Ax ty218) ?_
  refine Dr 4 C (Af C)<|Dr 5 C (Az (α:=Int) (xs:=todo) Aa ef C C A7 om om)<|Dr 6 C (Bj (xs:=todo) ef C A7 om om)<|Dr 7 C (Az (α:=Row) (xs:=rs) Bp ty22 C C (Au ho) om om)<|Dr 8 C (Dj (α:=Row) (xs:=rs) (u:= .slice (e_ rs<|e_ todo 0).a (e_ rs<|e_ todo 0).xs.length (e_ rs<|e_ todo 0).c) ty22 C (Au ho) om om C)<|Dr 9 C (Ca Aa C)<|Dr 10 C (Af C)<|Dz<|Ay<|Bg (S5 54 53 52 0 6 C C C C C)<|Bk<|Cn (σ:=Nat×(Option Addr)×Nat×(List Int)×(List Int)) (λs=>([(0,.pointer<|some ⟨b,0,none⟩),(6,.slice s.2.1 s.2.2.2.1.length s.2.2.1),(52,.slice (e_ rs<|e_ todo 0).a (e_ rs<|e_ todo 0).xs.length (e_ rs<|e_ todo 0).c),(53,e7<|(((e_ rs<|e_ todo 0).xs.length:Nat):Int)),(54,e7 ((s.1:Nat):Int))]:Env)) (λs=>vc 3 (.slice s.2.1 s.2.2.2.1.length s.2.2.1) (s.2.2.2.1)::e8 b [hw,ow,lw,nw,e7<|n.sink] 315::vc 312 hw (hs)::vc 3 lw (s.2.2.2.2)::vc 3 nw (ae)::I) (λs=>(s.1<=(e_ rs<|e_ todo 0).xs.length)/\(0<s.2.2.2.1.length)/\(e_ s.2.2.2.1 0=(e_ todo 0))/\(LI n f (rowsL rs) s.2.2.2.2 (s.2.2.2.1.drop 1) (e_ todo 0) s.1)/\(un s.2.2.2.2+s.2.2.2.1.length=un L2+todo.length)) (λs=>(e_ rs<|e_ todo 0).xs.length - s.1) (0,a,c,todo,L2) (show ((0:Nat)<=(e_ rs<|e_ todo 0).xs.length)/\(0<(todo:List Int).length)/\(e_ (todo:List Int) 0=(e_ todo 0))/\(LI n f (rowsL rs) (L2:List Int) ((todo:List Int).drop 1) (e_ todo 0) (0:Nat))/\(un (L2:List Int)+(todo:List Int).length=un L2+todo.length) from ⟨om,om,rfl,(hI.next om),rfl⟩) (Ab C<|Ab (El C<|by first|rfl|simp)<|Ab C<|Ab C<|Ab Dg Bs) Aj ?_
  rintro ⟨q,a1,c1,w,L3⟩ hp
  dsimp only at hp ⊢
  obtain ⟨hq,ah,M,aa,aj⟩:=hp
  refine W.pull (λw hs=>(Bm (ai (e_ todo 0) om om) Ah).le w hs) λbc=>?_
  have bi:=aa.len
  have ak:=aa.cur ad.1.1
  have bf:e_ L3 (e_ w 0)+un L3<n.nodes:=by rw [M];exact (aa.low _ ad.1.1 ad.1.2).2
  have a3:0<=e_ L3 (e_ w 0):=by rw [M];exact ak.2
  refine Ar<|Gr (Ch C C)<|As<|A5<|Ap C (λau=>?_)<|λau=>?_
  ·refine Bt (Ay<|A5<|Bk<|Ar<|Gr (Az (α:=Int) (xs:=(e_ rs<|e_ todo 0).xs) Aa ef C C (Bm (ai (e_ todo 0) om om) Ah) om om)<|Gr (Bj (xs:=(e_ rs<|e_ todo 0).xs) ef C (Bm (ai (e_ todo 0) om om) Ah) om om) ?_)
   have hm:=hr.row ad.1.1 ad.1.2 (j:=(q:Int)) om om
   have hg:=hh.get _ hm.1
   have ba:=from_ok ab hm.1
   have a8:0<=(e_ (e_ rs<|e_ todo 0).xs (q:Int))/\(e_ (e_ rs<|e_ todo 0).xs (q:Int))<2*n.arcs.length:=hm.1
   have hd:e_ L3 (e_ hs<|e_ (e_ rs<|e_ todo 0).xs (q:Int)).dst=e_ L3 (toH n<|e_ (e_ rs<|e_ todo 0).xs (q:Int)):=by rw [hg.2.1]
   refine Ga C<|As<|Ar<|Gm C<|Gr (Bo C)<|Gf fld315_0 C<|Gl ty313 ?_
   refine Gm C<|Gr (Az (α:=Half) (xs:=hs) Ck ty312 C C A7 om om)<|Gr (Dt (α:=Half) (xs:=hs) ty312 C A7 om om)<|Ge1 (Am ty312 C) λb2=>Ge0 (Es4_4 ty312) ?_
   refine As<|Bg (S6 9 0 6 52 53 54 C C C C C C)<|A5<|A4 mixed<|Cr 15<|Dr 0 C (Ad fld312_1 C)<|Dr 1 C (Ax ef) ?_
   refine Dr 2 C (Df C C)<|Dr 3 C (Af C)<|Du (d:=68) C (λaz=>?_)<|λaz=>?_
   ·refine Dro 4 C (Af C) (Dro 5 C (Bo C)<|Dro 6 C (Ad fld315_2 C)<|Dro 7 C (Ax ty22) ?_)
    refine Dro 8 C (Ad fld312_0 C)<|Dro 9 C (Ad fld284_1 C)<|Dro 10 C (Ax ef) ?_
    refine Dro 11 C (Az (α:=Int) (xs:=L3) Aa ef C C A7 om om)<|Dro 12 C (Bj (xs:=L3) ef C A7 om om)<|Dro 13 C (Ch C C)<|Dr 14 C (A2 C C)<|Dz<|Ay<|Bg (S7 79 9 0 6 52 53 54 C C C C C C C)<|Ap C (λay=>?_)<|λay=>?_
    ·refine A5 (A4 mixed<|Cr 18<|Dr 0 C (Af C)<|Dr 1 C (Bo C)<|Dr 2 C (Ad fld315_2 C)<|Dr 3 C (Ax ty22) ?_)
     refine Dr 4 C (Ad fld312_0 C)<|Dr 5 C (Ad fld284_1 C)<|Dr 6 C (Ax ef) ?_
     refine Dr 7 C (Af C)<|Dr 8 C (Bo C)<|Dr 9 C (Ad fld315_2 C)<|Dr 10 C (Ax ty22) ?_
     refine Dr 11 C (Af C)<|Dr 12 C (Az (α:=Int) (xs:=w) Aa ef C C A7 om om)<|Dr 13 C (Bj (xs:=w) ef C A7 om om)<|Dr 14 C (Az (α:=Int) (xs:=L3) Aa ef C C A7 om om)<|Dr 15 C (Bj (xs:=L3) ef C A7 om om)<|Dr 16 C (Rad C C)<|Dr 17 C (Az (α:=Int) (xs:=L3) Aa ef C C A7 om om)<|C3 kr ?_
     refine Ae 18 C (Ci (α:=Int) (xs:=L3) (e:=3) (new:=(e_ L3<|e_ w 0)+1) ef C C C om om am) ?_
     rintro _ _ ⟨rfl,rfl⟩
     refine C4 kr ?_
     refine Ay<|Bg (S6 9 0 6 52 53 54 C C C C C C)<|Be<|Gm C<|Gf fld312_0 C<|Gf fld284_1 C<|Gl ef ?_
     refine Ge1 (B9 (α:=Int) (cs:=[_]) (xs:=[(e_ hs<|e_ ((e_ rs<|e_ todo 0).xs) (q:Int)).dst]) Aa ef C C dc dc C C C C) λbb=>?_
     refine Ge2 (B4 (α:=Int) (e:=3) (xs:=w) (ys:=([(e_ hs<|e_ ((e_ rs<|e_ todo 0).xs) (q:Int)).dst]:List Int)) Aa ef C C C mm A7 lcn dc C<|λ_ _=>am) λav ax=>?_
     exact Ga C<|Bi<|Av<|Ay<|Be<|Gr (Rad C C)<|Gm C<|Bi<|B5 ((q+1),(av),(ax),(w++([(e_ hs<|e_ ((e_ rs<|e_ todo 0).xs) (q:Int)).dst]:List Int)),(List.set L3 ((e_ hs<|e_ ((e_ rs<|e_ todo 0).xs) (q:Int)).dst).toNat ((e_ L3<|e_ w 0)+1)))<|by dsimp only;exact ⟨om,(by first|exact ah|(rw [List.length_append];omega)),(by first|exact M|(rw [at_zero_append ah];exact M)),(by first|exact aa.inc1 (λh=>by omega)|(rw [M,hg.2.1,drop_one_append ah];exact (aa.put1 ab ad.1.1 hm om om).1)),(by first|exact aj|(rw [M,hg.2.1,List.length_append];have:=(aa.put1 ab ad.1.1 hm om om).2;simp only [List.length_cons,List.length_nil];omega))⟩
    exact Bt<|Av<|Ay<|Be<|Gr (Rad C C)<|Gm C<|Bi<|B5 ((q+1),(a1),(c1),(w),(L3))<|by dsimp only;exact ⟨om,(by first|exact ah|(rw [List.length_append];omega)),(by first|exact M|(rw [at_zero_append ah];exact M)),(by first|exact aa.inc1 (λh=>by omega)|(rw [M,hg.2.1,drop_one_append ah];exact (aa.put1 ab ad.1.1 hm om om).1)),(by first|exact aj|(rw [M,hg.2.1,List.length_append];have:=(aa.put1 ab ad.1.1 hm om om).2;simp only [List.length_cons,List.length_nil];omega))⟩
   exact Dpo 4 C<|Dpo 5 C<|Dpo 6 C<|Dpo 7 C<|Dpo 8 C<|Dpo 9 C<|Dpo 10 C<|Dpo 11 C<|Dpo 12 C<|Dpo 13 C<|Dr 14 C (Ao C C)<|Dz<|Ay<|Bg (S7 79 9 0 6 52 53 54 C C C C C C C)<|Ef C<|Bt<|Av<|Ay<|Be<|Gr (Rad C C)<|Gm C<|Bi<|B5 ((q+1),(a1),(c1),(w),(L3))<|by dsimp only;exact ⟨om,(by first|exact ah|(rw [List.length_append];omega)),(by first|exact M|(rw [at_zero_append ah];exact M)),(by first|exact aa.inc1 (λh=>by omega)|(rw [M,hg.2.1,drop_one_append ah];exact (aa.put1 ab ad.1.1 hm om om).1)),(by first|exact aj|(rw [M,hg.2.1,List.length_append];have:=(aa.put1 ab ad.1.1 hm om om).2;simp only [List.length_cons,List.length_nil];omega))⟩
  refine C7<|A9<|A9<|B3<|Av<|Ay<|Be<|Gm C<|Gr (Eb (α:=Int) (xs:=w) (l:=1) Aa ef C C om A7 om)<|G.fit (J:=vc 3 (.slice (adrop a1 c1 1<|Enc.sz Int) (List.drop 1 w).length (c1 - 1)) (List.drop 1 w)::e8 b [hw,ow,lw,nw,e7<|n.sink] 315::vc 312 hw (hs)::vc 3 lw (L3)::vc 3 nw (ae)::I) (Fit.upd am<|reslice (l:=1) om) ?_
  exact Ga C<|Bi<|B5 (((adrop a1 c1 1<|Enc.sz Int)),((c1 - 1)),(List.drop 1 w),(L3)) (by dsimp only;exact ⟨(aa.over1 om),(by rw [List.length_drop];omega)⟩) (hlt:=by (try dsimp only);exact (by rw [List.length_drop];omega))
 refine C7<|A9<|A9<|B3<|Ay<|A5<|A4 mixed<|Cr 12<|Dr 0 C (Af C)<|Dr 1 C (Bo C)<|Dr 2 C (Ad fld315_2 C)<|Dr 3 C (Ax ty22) ?_
 refine Dr 4 C (Af C)<|Dr 5 C (Bo C)<|Dr 6 C (Ad fld315_4 C)<|Dr 7 C (Ax ef) ?_
 exact Dr 8 C (Az (α:=Int) (xs:=L2) Aa ef C C A7 om om)<|Dr 9 C (Bj (xs:=L2) ef C A7 om om)<|Dr 10 C (Ff C C)<|Dr 11 C (A0 C)<|Dz<|Ay<|Bg (S1 4 C)<|Bf<|Ai C C (e8 b [hw,ow,lw,nw,e7<|n.sink] 315::vc 312 hw (hs)::vc 3 lw (L2)::vc 3 nw (ae)::I) Aj ⟨L2,ae,rfl,⟨hI.done ab hr om,by omega,λz h0 h1=>at_all (p:=λz=>e_ ae z=0) (λj hj=>(hz j hj).2) h0 om⟩,rfl⟩
theorem PushR.sink{n:Net}{rs:List (List Int)}{L f:List Int}{v:Int}(e:v=n.sink)(M:f.length=n.arcs.length)(hc:CapF n f)(hd:Dead n rs L f nx)(hx:∀z:Int,0<=z->z<n.nodes->0<=e_ nx z)(d:Int):PushR n rs L v d f nx f nx:=
 ⟨M,hc,λz=>by rw [e];omega,Less.refl _ _ _,λ_ _ _=>rfl,hd,rfl,hx,λ_ _ _ _ _=>rfl,λ_=>rfl⟩
def PushC(κ:Ctx)(I:List Item)(n:Net)(rs:List Row)(b:Nat)(hw ow lw nw:Value)(L:List Int)(lv:Int):Prop:=
 ∀(v most:Int) (f nx:List Int) (hs:List Half),e_ L v=lv->0<=v->v<n.nodes->0<=e_ L v->1<=most->most<=4611686018427387904->HOk n f hs->Dead n (rowsL rs) L f nx->(∀z:Int,0<=z->z<n.nodes->0<=e_ nx z)->((nx.length:Nat):Int)=n.nodes->eu Tryz.prog κ 316 [.pointer (some ⟨b,0,none⟩),e7 v,e7 most] (e8 b [hw,ow,lw,nw,e7<|n.sink] 315::vc 312 hw (hs)::vc 3 lw (L)::vc 3 nw (nx)::I) (λr J=>∃(d:Int) (f':List Int) (hs':List Half) (nx':List Int),r=e7 d/\((0<=d/\d<=most)/\PushR n (rowsL rs) L v d f nx f' nx'/\HOk n f' hs'/\(d<most->¬Adm n f' L v))/\J=e8 b [hw,ow,lw,nw,e7<|n.sink] 315::vc 312 hw (hs')::vc 3 lw (L)::vc 3 nw (nx')::I)
theorem Push_step{κ:Ctx}{I:List Item}{n:Net}{f:List Int}{hs:List Half}{rs:List Row}{b:Nat}{hw ow lw nw:Value}{L nx:List Int}{v most lv:Int}(hok:n.Ok)(hr:ROk n (rowsL rs))(ho:Sl κ I ow rs)(hrow:∀i:Int,0<=i->i<rs.length->Sl κ I (.slice (e_ rs i).a (e_ rs i).xs.length (e_ rs i).c) (e_ rs i).xs)(hL:(L.length:Int)=n.nodes)(hlow:∀z:Int,0<=z->z<n.nodes-> -1<=e_ L z/\e_ L z<n.nodes)(ih:PushC κ I n rs b hw ow lw nw L (lv+1))(hlv:e_ L v=lv)(hv0:0<=v)(hv1:v<n.nodes)(hLv:0<=e_ L v)(hm0:1<=most)(hm1:most<=4611686018427387904)(hh:HOk n f hs)(hD:Dead n (rowsL rs) L f nx)(hx:∀z:Int,0<=z->z<n.nodes->0<=e_ nx z)(hN:((nx.length:Nat):Int)=n.nodes):eu Tryz.prog κ 316 [.pointer (some ⟨b,0,none⟩),e7 v,e7 most] (e8 b [hw,ow,lw,nw,e7 (n.sink)] 315::vc 312 hw (hs)::vc 3 lw (L)::vc 3 nw (nx)::I) (λr J=>∃(d:Int) (f':List Int) (hs':List Half) (nx':List Int),r=e7 d/\((0<=d/\d<=most)/\PushR n (rowsL rs) L v d f nx f' nx'/\HOk n f' hs'/\(d<most->¬Adm n f' L v))/\J=e8 b [hw,ow,lw,nw,e7 (n.sink)] 315::vc 312 hw (hs')::vc 3 lw (L)::vc 3 nw (nx')::I):=by
 have hlim:=hok.lim
 have hsrc:=hok.src
 have hsnk:=hok.snk
 have hrl:=hr.rl
 have hLw:=(hlow v hv0 hv1).2
 refine Bu (λw hs=>(Bm (hrow v om om) (by repeat (first|exact Fv _|apply Fit.tail|exact Fw _ _|apply Fit.appL))).le w hs) λhrm=>?_
 refine Ce3 Tryz.func316 C C ?_
 refine Ar (Ga C (As (A5 (Ar (Gm C (Gm C (Gr (Bo C) (Gf fld315_4 C (Gl ef ?_)))))))))
 refine Gr (Fu C C) (As (Ap C (λc16=>?_) (λc16=>?_)))
 ·exact Ar (Gm C (Ga C (As (Bf (Bq (Ai C C (e8 b [hw,ow,lw,nw,e7 (n.sink)] 315::vc 312 hw (hs)::vc 3 lw (L)::vc 3 nw (nx)::I) Aj ⟨most,f,hs,nx,rfl,⟨⟨by omega,by omega⟩,PushR.sink c16 hh.flen hh.cap hD hx most,hh,λh=>by omega⟩,rfl⟩))))))
 refine Bt (Ay (Ar (Ga C (As (A5 (Bk (Cn (σ:=Int×(List Int)×(List Half)×(List Int)) (λs=>([(0,.pointer (some ⟨b,0,none⟩)),(1,e7 v),(2,e7 most),(7,e7 (s.1))]:Env)) (λs=>e8 b [hw,ow,lw,nw,e7 (n.sink)] 315::vc 312 hw (s.2.2.1)::vc 3 lw (L)::vc 3 nw (s.2.2.2)::I) (λs=>(0<=s.1)/\(s.1<=most)/\(PushR n (rowsL rs) L v s.1 f nx s.2.1 s.2.2.2)/\(HOk n s.2.1 s.2.2.1)) (λs=>((e_ rs v).xs.length - e_ s.2.2.2 v).toNat) (0,f,hs,nx) ⟨om,om,(PushR.start hh.flen hh.cap hD hx v),hh⟩ (Ab C (Ab C (Ab C (Ab Dg Bs)))) Aj ?_)))))))
 rintro ⟨sent,f1,hs1,nx1⟩ hp
 dsimp only at hp ⊢
 obtain ⟨hs0,hs9,hP,hH1⟩:=hp
 have hnl:=hP.nlen
 have hnx0:=hP.nge v hv0 hv1
 have hhl:=hH1.len
 refine A5 (A5 (A4 mixed (Cr 21 (Dr 0 C (Af C) (Dr 1 C (Bo C) (Dr 2 C (Ad fld315_3 C) (Dr 3 C (Ax ty22) ?_)))))))
 refine Dr 4 C (Af C) (Dr 5 C (Az (α:=Int) (xs:=nx1) Aa ef C C A7 om om) (Dr 6 C (Bj (xs:=nx1) ef C A7 om om) (Dr 7 C (Af C) (Dr 8 C (Bo C) (Dr 9 C (Ad fld315_1 C) (Dr 10 C (Ax ty218) ?_))))))
 refine Dr 11 C (Af C) (Dr 12 C (Az (α:=Row) (xs:=rs) Bp ty22 C C (Au ho) om om) (Dr 13 C (Dj (α:=Row) (xs:=rs) (u:= .slice (e_ rs v).a (e_ rs v).xs.length (e_ rs v).c) ty22 C (Au ho) om om C) (Dr 14 C (Ca Aa C) (Dr 15 C (Ch C C) (Dr 16 C (Af C) (Du (d:=34) C (λg34=>?_) (λg34=>?_)))))))
 ·refine Dro 17 C (Af C) (Dro 18 C (Af C) (Dro 19 C (Ch C C) (Dr 20 C (A2 C C) (Dz (Ay (Bg (S5 38 0 1 2 7 C C C C C) (Ap C (λc38=>?_) (λc38=>?_))))))))
  ·refine Bt (Ay (E8 (σ:=Int×(List Int)×(List Half)×(List Int)) (λs=>([(0,.pointer (some ⟨b,0,none⟩)),(1,e7 v),(2,e7 most),(7,e7 (s.1))]:Env)) (λs=>e8 b [hw,ow,lw,nw,e7 (n.sink)] 315::vc 312 hw (s.2.2.1)::vc 3 lw (L)::vc 3 nw (s.2.2.2)::I) (λs=>(0<=s.1/\s.1<=most)/\(PushR n (rowsL rs) L v s.1 f nx s.2.1 s.2.2.2)/\(HOk n s.2.1 s.2.2.1)/\(e_ s.2.2.2 v=e_ nx1 v)/\(¬(0<leftH n s.2.1 (e_ (e_ rs v).xs (e_ s.2.2.2 v))/\e_ L (toH n (e_ (e_ rs v).xs (e_ s.2.2.2 v)))=e_ L v+1/\Adm n s.2.1 L (toH n (e_ (e_ rs v).xs (e_ s.2.2.2 v)))))) ?_ ?_))
   ·refine Bk (A5 (A4 mixed (Cr 17 (Dr 0 C (Af C) (Dr 1 C (Bo C) (Dr 2 C (Ad fld315_1 C) (Dr 3 C (Ax ty218) ?_)))))))
    refine Dr 4 C (Af C) (Dr 5 C (Az (α:=Row) (xs:=rs) Bp ty22 C C (Au ho) om om) (Dr 6 C (Dj (α:=Row) (xs:=rs) (u:= .slice (e_ rs v).a (e_ rs v).xs.length (e_ rs v).c) ty22 C (Au ho) om om C) (Dr 7 C (Af C) (Dr 8 C (Bo C) (Dr 9 C (Ad fld315_3 C) (Dr 10 C (Ax ty22) ?_))))))
    refine Dr 11 C (Af C) (Dr 12 C (Az (α:=Int) (xs:=nx1) Aa ef C C A7 om om) ?_)
    have hm:=hr.row hv0 hv1 (j:=e_ nx1 v) om om
    have hg:=hH1.get _ hm.1
    have hfo:=from_ok hok hm.1
    have hi2:0<=(e_ (e_ rs v).xs (e_ nx1 v))/\(e_ (e_ rs v).xs (e_ nx1 v))<2*n.arcs.length:=hm.1
    have hlk:=left_ok hH1.cap hm.1
    have hak:=(arc_ok hok hm.1.half.1 hm.1.half.2).2.2.2
    have hd:e_ L (e_ hs1 (e_ (e_ rs v).xs (e_ nx1 v))).dst=e_ L (toH n (e_ (e_ rs v).xs (e_ nx1 v))):=by rw [hg.2.1]
    refine Dr 13 C (Bj (xs:=nx1) ef C A7 om om) (Dr 14 C (Az (α:=Int) (xs:=(e_ rs v).xs) Aa ef C C (Bm (hrow v om om) Ah) om om) (Dr 15 C (Bj (xs:=(e_ rs v).xs) ef C (Bm (hrow v om om) Ah) om om) (Dr 16 C (A0 C) (Dz (Ay (Bg (S5 8 0 1 2 7 C C C C C) (Ar (Gm C (Gr (Bo C) (Gf fld315_0 C (Gl ty313 ?_)))))))))))
    refine Gm C (Gr (Az (α:=Half) (xs:=hs1) Ck ty312 C C A7 om om) (Gr (Dt (α:=Half) (xs:=hs1) ty312 C A7 om om) (Ge1 (Am ty312 C) λb1=>Ge0 (Es4_4 ty312) ?_)))
    refine As (A5 (A5 (A4 mixed (Cr 23 (Dr 0 C (Ad fld312_1 C) (Dr 1 C (Ax ef) ?_))))))
    refine Dr 2 C (Fu C C) (Dr 3 C (Af C) (Du (d:=74) C (λg74=>?_) (λg74=>?_)))
    ·exact Dpo 4 C (Dpo 5 C (Dpo 6 C (Dpo 7 C (Dpo 8 C (Dpo 9 C (Dpo 10 C (Dpo 11 C (Dpo 12 C (Dpo 13 C (Dpo 14 C (Dpo 15 C (Dpo 16 C (Dpo 17 C (Dpo 18 C (Dpo 19 C (Dpo 20 C (Dpo 21 C (Dr 22 C (A2 C C) (Dz (Ay (Bg (S7 93 9 8 0 1 2 7 C C C C C C C) (W.yes C (C7 (A9 (B3 (Cg ((sent),(f1),(hs1),(nx1)) (by dsimp only;exact ⟨om,(by first|exact hP|exact hput.1),(by first|exact hH1|exact hHp),(by first|rfl|exact hput.2.1),(by first|(rintro ⟨a,b,c⟩;omega)|(rw [hput.2.1];have hused2:=hused c135;rw [hm.2] at hused2;exact hused2))⟩)))))))))))))))))))))))))))
    refine Dro 4 C (Af C) (Dro 5 C (Bo C) (Dro 6 C (Ad fld315_2 C) (Dro 7 C (Ax ty22) ?_)))
    refine Dro 8 C (Ad fld312_0 C) (Dro 9 C (Ad fld284_1 C) (Dro 10 C (Ax ef) ?_))
    refine Dro 11 C (Az (α:=Int) (xs:=L) Aa ef C C A7 om om) (Dro 12 C (Bj (xs:=L) ef C A7 om om) (Dro 13 C (Af C) (Dro 14 C (Bo C) (Dro 15 C (Ad fld315_2 C) (Dro 16 C (Ax ty22) ?_)))))
    refine Dro 17 C (Af C) (Dro 18 C (Az (α:=Int) (xs:=L) Aa ef C C A7 om om) (Dro 19 C (Bj (xs:=L) ef C A7 om om) (Dro 20 C (Rad C C) (Dro 21 C (C9 C C) (Dr 22 C (Ao C C) (Dz (Ay (Bg (S7 93 9 8 0 1 2 7 C C C C C C C) (Ap C (λc93=>?_) (λc93=>?_))))))))))
    ·exact C7 (A9 (B3 (Cg ((sent),(f1),(hs1),(nx1)) (by dsimp only;exact ⟨om,(by first|exact hP|exact hput.1),(by first|exact hH1|exact hHp),(by first|rfl|exact hput.2.1),(by first|(rintro ⟨a,b,c⟩;omega)|(rw [hput.2.1];have hused2:=hused c135;rw [hm.2] at hused2;exact hused2))⟩))))
    refine Bt (Ay (Ar (Gm C (Gf fld312_0 C (Gf fld284_1 C (Gl ef ?_))))))
    refine Gm C (Gm C (Gr (Rsu C C) (Gf fld312_1 C (Gl ef ?_))))
    refine Gr (Runs.min C C) (G.e (Ac c_ C C (Cv (J:=e8 b [hw,ow,lw,nw,e7 (n.sink)] 315::vc 312 hw (hs1)::vc 3 lw (L)::vc 3 nw (nx1)::I) Aj (ih (e_ hs1 (e_ (e_ rs v).xs (e_ nx1 v))).dst (if ((e_ hs1 (e_ ((e_ rs v).xs) (e_ nx1 v))).left)<(most - sent) then ((e_ hs1 (e_ ((e_ rs v).xs) (e_ nx1 v))).left) else (most - sent)) f1 nx1 hs1 om om om om (by split<;>omega) (by split<;>omega) hH1 hP.dead hP.nge om))) ?_)
    rintro _ _ ⟨_,_,⟨d2,f3,hs4,nx5,rfl,⟨hbd2,hPd2,hHd2,hAd2⟩,rfl⟩,rfl,rfl⟩
    rw [hg.2.1] at hPd2 hAd2
    have hL1:e_ L (toH n (e_ (e_ rs v).xs (e_ nx1 v)))=e_ L v+1:=by omega
    have hle:d2<=(if (e_ hs1 (e_ (e_ rs v).xs (e_ nx1 v))).left<most - sent then (e_ hs1 (e_ (e_ rs v).xs (e_ nx1 v))).left else most - sent):=hbd2.2
    have hle2:d2<=(e_ hs1 (e_ (e_ rs v).xs (e_ nx1 v))).left/\d2<=most - sent:=by revert hle;split<;>omega
    have hput:=hP.put hok hr hm.1 hm.2 hL1 hs0 hbd2.1 om hPd2
    have hg2:=hHd2.get _ hm.1
    have hg3:=hHd2.get _ hm.1.mate
    have hls:=left_sum n f3 (e_ (e_ rs v).xs (e_ nx1 v))
    have hhl2:=hHd2.len
    have hlk2:=left_ok hHd2.cap hm.1
    have hlk3:=left_ok hHd2.cap hm.1.mate
    have hmi:0<=mateH (e_ (e_ rs v).xs (e_ nx1 v))/\mateH (e_ (e_ rs v).xs (e_ nx1 v))<2*n.arcs.length:=hm.1.mate
    have hmh:=mate_half (e_ (e_ rs v).xs (e_ nx1 v))
    rw [hmh] at hlk3
    have hused:=fun (hne:¬sent+d2=most)=>PushR.used (e:=d2) (m:=(if (e_ hs1 (e_ (e_ rs v).xs (e_ nx1 v))).left<most - sent then (e_ hs1 (e_ (e_ rs v).xs (e_ nx1 v))).left else most - sent)) hm.1 (Decidable.byCases (λh:d2<(if (e_ hs1 (e_ (e_ rs v).xs (e_ nx1 v))).left<most - sent then (e_ hs1 (e_ (e_ rs v).xs (e_ nx1 v))).left else most - sent)=> .inl h) (λh=> .inr (by have hls2:=hput.2.2;revert h;split<;>omega))) (λh=>hAd2 h) hPd2.len hbd2.1 (by rw [hm.2];exact hL1)
    refine Ga C (As (Bg (S6 10 8 0 1 2 7 C C C C C C) (Ar (Gm C (Gr (Bo C) (Gf fld315_0 C (Gl ty313 ?_)))))))
    refine Gm C (Gr (Az (α:=Half) (xs:=hs4) Ck ty312 C C A7 om om) (Gr (Ez (α:=Half) (xs:=hs4) fld312_1 C A7 om) (Gr (Fb (α:=Half) (xs:=hs4) (u:=e7 ((e_ hs4 (e_ ((e_ rs v).xs) (e_ nx1 v))).left)) ef C A7 om om C) (Gm C (Gr (Rsu C C) (Gr (Az (α:=Half) (xs:=hs4) Ck ty312 C C A7 om om) (Gr (Ez (α:=Half) (xs:=hs4) fld312_1 C A7 om) (Ge0 (Eff.setf (α:=Half) (xs:=hs4) (e:=312) (new:={e_ hs4 (e_ ((e_ rs v).xs) (e_ nx1 v)) with left:=((e_ hs4 (e_ ((e_ rs v).xs) (e_ nx1 v))).left) - d2}) (j:=3) ef C C C C dc C om om am) ?_))))))))
    have hmt:e_ (List.set hs4 (e_ ((e_ rs v).xs) (e_ nx1 v)).toNat ({e_ hs4 (e_ ((e_ rs v).xs) (e_ nx1 v)) with left:=((e_ hs4 (e_ ((e_ rs v).xs) (e_ nx1 v))).left) - d2})) (mateH (e_ (e_ rs v).xs (e_ nx1 v)))=e_ hs4 (mateH (e_ (e_ rs v).xs (e_ nx1 v))):=by rw [C2 hs4 _ _ _ om om om,if_neg (λe=>mate_ne _ e.symm)]
    have hmt1:(e_ (List.set hs4 (e_ ((e_ rs v).xs) (e_ nx1 v)).toNat ({e_ hs4 (e_ ((e_ rs v).xs) (e_ nx1 v)) with left:=((e_ hs4 (e_ ((e_ rs v).xs) (e_ nx1 v))).left) - d2})) (mateH (e_ (e_ rs v).xs (e_ nx1 v)))).left=leftH n f3 (mateH (e_ (e_ rs v).xs (e_ nx1 v))):=by rw [hmt];exact hg3.2.2
    have hsl:(List.set hs4 (e_ ((e_ rs v).xs) (e_ nx1 v)).toNat ({e_ hs4 (e_ ((e_ rs v).xs) (e_ nx1 v)) with left:=((e_ hs4 (e_ ((e_ rs v).xs) (e_ nx1 v))).left) - d2})).length=hs4.length:=List.length_set
    refine As (Bg (S6 10 8 0 1 2 7 C C C C C C) (Ar (Gm C (Gr (Bo C) (Gf fld315_0 C (Gl ty313 ?_))))))
    refine Gm C (Gr ((xor_mate (i:=e_ ((e_ rs v).xs) (e_ nx1 v)) om om)▸Runs.xorw C C) (Gr (Az (α:=Half) (xs:=List.set hs4 (e_ ((e_ rs v).xs) (e_ nx1 v)).toNat ({e_ hs4 (e_ ((e_ rs v).xs) (e_ nx1 v)) with left:=((e_ hs4 (e_ ((e_ rs v).xs) (e_ nx1 v))).left) - d2})) Ck ty312 C C A7 om om) (Gr (Ez (α:=Half) (xs:=List.set hs4 (e_ ((e_ rs v).xs) (e_ nx1 v)).toNat ({e_ hs4 (e_ ((e_ rs v).xs) (e_ nx1 v)) with left:=((e_ hs4 (e_ ((e_ rs v).xs) (e_ nx1 v))).left) - d2})) fld312_1 C A7 om) (Gr (Fb (α:=Half) (xs:=List.set hs4 (e_ ((e_ rs v).xs) (e_ nx1 v)).toNat ({e_ hs4 (e_ ((e_ rs v).xs) (e_ nx1 v)) with left:=((e_ hs4 (e_ ((e_ rs v).xs) (e_ nx1 v))).left) - d2})) (u:=e7 ((e_ (List.set hs4 (e_ ((e_ rs v).xs) (e_ nx1 v)).toNat ({e_ hs4 (e_ ((e_ rs v).xs) (e_ nx1 v)) with left:=((e_ hs4 (e_ ((e_ rs v).xs) (e_ nx1 v))).left) - d2})) (mateH (e_ ((e_ rs v).xs) (e_ nx1 v)))).left)) ef C A7 om om C) (Gm C (Gr (Rad C C) (Gr (Az (α:=Half) (xs:=List.set hs4 (e_ ((e_ rs v).xs) (e_ nx1 v)).toNat ({e_ hs4 (e_ ((e_ rs v).xs) (e_ nx1 v)) with left:=((e_ hs4 (e_ ((e_ rs v).xs) (e_ nx1 v))).left) - d2})) Ck ty312 C C A7 om om) (Gr (Ez (α:=Half) (xs:=List.set hs4 (e_ ((e_ rs v).xs) (e_ nx1 v)).toNat ({e_ hs4 (e_ ((e_ rs v).xs) (e_ nx1 v)) with left:=((e_ hs4 (e_ ((e_ rs v).xs) (e_ nx1 v))).left) - d2})) fld312_1 C A7 om) (Ge0 (Eff.setf (α:=Half) (xs:=List.set hs4 (e_ ((e_ rs v).xs) (e_ nx1 v)).toNat ({e_ hs4 (e_ ((e_ rs v).xs) (e_ nx1 v)) with left:=((e_ hs4 (e_ ((e_ rs v).xs) (e_ nx1 v))).left) - d2})) (e:=312) (new:={e_ (List.set hs4 (e_ ((e_ rs v).xs) (e_ nx1 v)).toNat ({e_ hs4 (e_ ((e_ rs v).xs) (e_ nx1 v)) with left:=((e_ hs4 (e_ ((e_ rs v).xs) (e_ nx1 v))).left) - d2})) (mateH (e_ ((e_ rs v).xs) (e_ nx1 v))) with left:=((e_ (List.set hs4 (e_ ((e_ rs v).xs) (e_ nx1 v)).toNat ({e_ hs4 (e_ ((e_ rs v).xs) (e_ nx1 v)) with left:=((e_ hs4 (e_ ((e_ rs v).xs) (e_ nx1 v))).left) - d2})) (mateH (e_ ((e_ rs v).xs) (e_ nx1 v)))).left)+d2}) (j:=3) ef C C C C dc C om om am) ?_)))))))))
    have hHp:HOk n (pushF f3 (e_ (e_ rs v).xs (e_ nx1 v)) d2) (List.set (List.set hs4 (e_ ((e_ rs v).xs) (e_ nx1 v)).toNat ({e_ hs4 (e_ ((e_ rs v).xs) (e_ nx1 v)) with left:=((e_ hs4 (e_ ((e_ rs v).xs) (e_ nx1 v))).left) - d2})) (mateH (e_ ((e_ rs v).xs) (e_ nx1 v))).toNat ({e_ (List.set hs4 (e_ ((e_ rs v).xs) (e_ nx1 v)).toNat ({e_ hs4 (e_ ((e_ rs v).xs) (e_ nx1 v)) with left:=((e_ hs4 (e_ ((e_ rs v).xs) (e_ nx1 v))).left) - d2})) (mateH (e_ ((e_ rs v).xs) (e_ nx1 v))) with left:=((e_ (List.set hs4 (e_ ((e_ rs v).xs) (e_ nx1 v)).toNat ({e_ hs4 (e_ ((e_ rs v).xs) (e_ nx1 v)) with left:=((e_ hs4 (e_ ((e_ rs v).xs) (e_ nx1 v))).left) - d2})) (mateH (e_ ((e_ rs v).xs) (e_ nx1 v)))).left)+d2})):=hHd2.push hm.1 hbd2.1 om
    refine As (Bg (S5 10 0 1 2 7 C C C C C) (Ar (Gm C (Gm C (Gr (Rad C C) (Ga C (As (Ar (Gm C (Gm C (Gr (Fu C C) (As (Ap C (λc135=>?_) (λc135=>?_))))))))))))))
    ·exact Ar (Gm C (Ga C (As (Bg (S1 6 C) (Bf (B6 (Bq (Bq (B6 (Bq (Ai C C (e8 b [hw,ow,lw,nw,e7 (n.sink)] 315::vc 312 hw (List.set (List.set hs4 (e_ ((e_ rs v).xs) (e_ nx1 v)).toNat ({e_ hs4 (e_ ((e_ rs v).xs) (e_ nx1 v)) with left:=((e_ hs4 (e_ ((e_ rs v).xs) (e_ nx1 v))).left) - d2})) (mateH (e_ ((e_ rs v).xs) (e_ nx1 v))).toNat ({e_ (List.set hs4 (e_ ((e_ rs v).xs) (e_ nx1 v)).toNat ({e_ hs4 (e_ ((e_ rs v).xs) (e_ nx1 v)) with left:=((e_ hs4 (e_ ((e_ rs v).xs) (e_ nx1 v))).left) - d2})) (mateH (e_ ((e_ rs v).xs) (e_ nx1 v))) with left:=((e_ (List.set hs4 (e_ ((e_ rs v).xs) (e_ nx1 v)).toNat ({e_ hs4 (e_ ((e_ rs v).xs) (e_ nx1 v)) with left:=((e_ hs4 (e_ ((e_ rs v).xs) (e_ nx1 v))).left) - d2})) (mateH (e_ ((e_ rs v).xs) (e_ nx1 v)))).left)+d2}))::vc 3 lw (L)::vc 3 nw (nx5)::I) Aj ⟨_,_,_,_,rfl,⟨⟨by omega,by omega⟩,hput.1,hHp,λh=>by omega⟩,rfl⟩)))))))))))
    exact Bt (Av (Cg ((sent+d2),(pushF f3 (e_ (e_ rs v).xs (e_ nx1 v)) d2),(List.set (List.set hs4 (e_ ((e_ rs v).xs) (e_ nx1 v)).toNat ({e_ hs4 (e_ ((e_ rs v).xs) (e_ nx1 v)) with left:=((e_ hs4 (e_ ((e_ rs v).xs) (e_ nx1 v))).left) - d2})) (mateH (e_ ((e_ rs v).xs) (e_ nx1 v))).toNat ({e_ (List.set hs4 (e_ ((e_ rs v).xs) (e_ nx1 v)).toNat ({e_ hs4 (e_ ((e_ rs v).xs) (e_ nx1 v)) with left:=((e_ hs4 (e_ ((e_ rs v).xs) (e_ nx1 v))).left) - d2})) (mateH (e_ ((e_ rs v).xs) (e_ nx1 v))) with left:=((e_ (List.set hs4 (e_ ((e_ rs v).xs) (e_ nx1 v)).toNat ({e_ hs4 (e_ ((e_ rs v).xs) (e_ nx1 v)) with left:=((e_ hs4 (e_ ((e_ rs v).xs) (e_ nx1 v))).left) - d2})) (mateH (e_ ((e_ rs v).xs) (e_ nx1 v)))).left)+d2})),(nx5)) (by dsimp only;exact ⟨om,(by first|exact hP|exact hput.1),(by first|exact hH1|exact hHp),(by first|rfl|exact hput.2.1),(by first|(rintro ⟨a,b,c⟩;omega)|(rw [hput.2.1];have hused2:=hused c135;rw [hm.2] at hused2;exact hused2))⟩)))
   rintro ⟨sent2,f2,hs2,nx2⟩ hp
   obtain ⟨hs20,hP2,hH2,hnx2,hD2⟩:(0<=sent2/\sent2<=most)/\(PushR n (rowsL rs) L v sent2 f nx f2 nx2)/\(HOk n f2 hs2)/\(e_ nx2 v=e_ nx1 v)/\(¬(0<leftH n f2 (e_ (e_ rs v).xs (e_ nx2 v))/\e_ L (toH n (e_ (e_ rs v).xs (e_ nx2 v)))=e_ L v+1/\Adm n f2 L (toH n (e_ (e_ rs v).xs (e_ nx2 v))))):=hp
   refine Be (Gm C ?_)
   have hnl2:=hP2.nlen
   have hnx20:=hP2.nge v hv0 hv1
   refine Gr (Bo C) (Gf fld315_3 C (Gl ty22 ?_))
   refine Gm C (Gr (Az (α:=Int) (xs:=nx2) Aa ef C C A7 om om) (Gr (Bj (xs:=nx2) ef C A7 om om) (Gr (Rad C C) (Gr (Az (α:=Int) (xs:=nx2) Aa ef C C A7 om om) (Ge0 (Ci (α:=Int) (xs:=nx2) (e:=3) (new:=(e_ nx2 v)+1) ef C C C om om am) ?_)))))
   exact Bi (B5 ((sent2),(f2),(hs2),(List.set nx2 (v).toNat ((e_ nx2 v)+1))) (by dsimp only;exact ⟨om,om,(hP2.adv om (by rw [rowsL_at];exact hD2) hv1),hH2⟩) (hlt:=by (try dsimp only);exact (by rw [C2 nx2 v v _ hv0 hv0 om,if_pos rfl];omega)))
  exact C7 (A9 (A9 (B3 (Ay (Ar (Gm C (Ga C (As (Bf (Ai C C (e8 b [hw,ow,lw,nw,e7 (n.sink)] 315::vc 312 hw (hs1)::vc 3 lw (L)::vc 3 nw (nx1)::I) Aj ⟨_,_,_,_,rfl,⟨⟨hs0,hs9⟩,hP,hH1,λh=>by first|omega|exact Dead.not hr hP.dead ⟨hv0,hv1⟩ c16 (by rw [rowsL_at];omega)⟩,rfl⟩))))))))))
 exact Dpo 17 C (Dpo 18 C (Dpo 19 C (Dr 20 C (Ao C C) (Dz (Ay (Bg (S5 38 0 1 2 7 C C C C C) (Ef C (C7 (A9 (A9 (B3 (Ay (Ar (Gm C (Ga C (As (Bf (Ai C C (e8 b [hw,ow,lw,nw,e7 (n.sink)] 315::vc 312 hw (hs1)::vc 3 lw (L)::vc 3 nw (nx1)::I) Aj ⟨_,_,_,_,rfl,⟨⟨hs0,hs9⟩,hP,hH1,λh=>by first|omega|exact Dead.not hr hP.dead ⟨hv0,hv1⟩ c16 (by rw [rowsL_at];omega)⟩,rfl⟩))))))))))))))))))
end Go.Sl
