/- A part of the proofs of statements of this seat: contracts of functions, and the plain laws that they lean on. No conditions. -/
import Derived.Test.YtfkcohmipjhfcaaGreatDoorF11
set_option linter.unusedVariables false
set_option linter.unusedSimpArgs false
set_option linter.unusedSectionVars false
/- Layers and sending along them: the plain law. No Go. -/
namespace Go.Sl
structure Half where
 frm:Int
 dst:Int
 cap:Int
 left:Int
deriving Inhabited
def fromH(n:Net)(i:Int):Int:=if i % 2=0 then (at_ n.arcs (i / 2)).frm else (at_ n.arcs (i / 2)).dst
def toH(n:Net)(i:Int):Int:=if i % 2=0 then (at_ n.arcs (i / 2)).dst else (at_ n.arcs (i / 2)).frm
def leftH(n:Net)(f:List Int)(i:Int):Int:=if i % 2=0 then (at_ n.arcs (i / 2)).cap - at_ f (i / 2) else at_ f (i / 2)
def mateH(i:Int):Int:=if i % 2=0 then i+1 else i - 1
def InH(n:Net)(i:Int):Prop:=0≤i∧i<2*n.arcs.length
def CapF(n:Net)(f:List Int):Prop:=∀k:Nat,k<n.arcs.length→0≤at_ f (k:Int)∧at_ f (k:Int)≤(at_ n.arcs (k:Int)).cap
structure HOk (n:Net) (f:List Int) (hs:List Half):Prop where
 len:(hs.length:Int)=2*n.arcs.length
 flen:f.length=n.arcs.length
 cap:CapF n f
 get:∀i,InH n i→(at_ hs i).frm=fromH n i∧(at_ hs i).dst=toH n i∧(at_ hs i).left=leftH n f i
structure ROk (n:Net) (rs:List (List Int)):Prop where
 len:(rs.length:Int)=n.nodes
 all:∀v,0≤v→v<n.nodes→∀i∈at_ rs v,InH n i∧fromH n i=v
 has:∀i,InH n i→i∈at_ rs (fromH n i)
section
variable {n:Net}{f g:List Int}{hs:List Half}{rs:List (List Int)}{i j:Int}
theorem InH.half(h:InH n i):0≤i / 2∧i / 2<n.arcs.length:=by unfold InH at h;omega
theorem InH.mate(h:InH n i):InH n (mateH i):=by unfold InH mateH at *; split<;>omega
theorem mate_mate(i:Int):mateH (mateH i)=i:=by unfold mateH;split<;>split<;>omega
theorem mate_ne(i:Int):mateH i≠i:=by unfold mateH;split<;>omega
theorem mate_half(i:Int):mateH i / 2=i / 2:=by unfold mateH;split<;>omega
theorem mate_par(i:Int):mateH i % 2=0↔¬i % 2=0:=by unfold mateH;split<;>omega
theorem from_mate(n:Net)(i:Int):fromH n (mateH i)=toH n i:=by
 unfold fromH toH;rw [mate_half]
 by_cases h:i % 2=0
 ·rw [if_neg (fun h'=>(mate_par i).1 h' h),if_pos h]
 ·rw [if_pos ((mate_par i).2 h),if_neg h]
theorem to_mate(n:Net)(i:Int):toH n (mateH i)=fromH n i:=by rw [←from_mate,mate_mate]
theorem left_sum(n:Net)(f:List Int)(i:Int):leftH n f i+leftH n f (mateH i)=(at_ n.arcs (i / 2)).cap:=by
 unfold leftH;rw [mate_half]
 by_cases h:i % 2=0
 ·rw [if_neg (fun h'=>(mate_par i).1 h' h),if_pos h];omega
 ·rw [if_pos ((mate_par i).2 h),if_neg h];omega
theorem left_ok(hc:CapF n f)(h:InH n i):0≤leftH n f i∧leftH n f i≤(at_ n.arcs (i / 2)).cap:=by
 have:=cap_ok hc h.half.1 h.half.2
 unfold leftH
 split<;>omega
theorem from_ok(hok:n.Ok)(h:InH n i):(0≤fromH n i∧fromH n i<n.nodes)∧(0≤toH n i∧toH n i<n.nodes)∧fromH n i≠toH n i:=by
 have:=arc_ok hok h.half.1 h.half.2
 unfold fromH toH
 split<;>omega
def pushF(f:List Int)(i d:Int):List Int:=if i % 2=0 then f.set (i / 2).toNat (at_ f (i / 2)+d) else f.set (i / 2).toNat (at_ f (i / 2) - d)
def pushHs(hs:List Half)(i d:Int):List Half:=
 (hs.set i.toNat {at_ hs i with left:=(at_ hs i).left - d}).set (mateH i).toNat {at_ (hs.set i.toNat {at_ hs i with left:=(at_ hs i).left - d}) (mateH i) with left:=(at_ (hs.set i.toNat {at_ hs i with left:=(at_ hs i).left - d}) (mateH i)).left+d}
theorem pushF_len(d:Int):(pushF f i d).length=f.length:=by unfold pushF;split<;>simp
theorem pushF_at(hl:f.length=n.arcs.length)(h:InH n i)(d:Int)(hj:0≤j):at_ (pushF f i d) j=at_ f j+if i / 2=j then (if i % 2=0 then d else -d) else 0:=by
 have:=h.half
 unfold pushF
 by_cases hp:i % 2=0
 ·rw [if_pos hp,if_pos hp,Dj f (i / 2) j _ om hj om]
  split
  ·rename_i e;rw [e]
  ·omega
 ·rw [if_neg hp,if_neg hp,Dj f (i / 2) j _ om hj om]
  split
  ·rename_i e;rw [e];omega
  ·omega
theorem left_push(hl:f.length=n.arcs.length)(h:InH n i)(d:Int)(hj:InH n j):leftH n (pushF f i d) j=leftH n f j+(if j=i then -d else 0)+(if j=mateH i then d else 0):=by
 have h1:=h.half
 have h2:=hj.half
 unfold leftH
 rw [pushF_at hl h d h2.1]
 unfold mateH
 by_cases hi:i % 2=0<;>by_cases hjp:j % 2=0<;>by_cases hh:i / 2=j / 2
 all_goals simp only [hi,hjp,hh,if_true,if_false]
 all_goals (repeat' split)<;>omega
theorem pushF_cap(hl:f.length=n.arcs.length)(hc:CapF n f)(h:InH n i){d:Int}(h0:0≤d)(hd:d≤leftH n f i):CapF n (pushF f i d):=fun k hk=>by
 rw [pushF_at hl h d om]
 have:=hc k hk
 unfold leftH at hd
 by_cases hi:i % 2=0<;>by_cases hh:i / 2=(k:Int)
 all_goals simp only [hi,if_true,if_false] at hd
 all_goals simp only [hi,hh,if_true,if_false]
 all_goals (try rw [hh] at hd)
 all_goals omega
theorem netF_push(hl:f.length=n.arcs.length)(h:InH n i)(d z:Int):netF n (pushF f i d) z=netF n f z+(if fromH n i=z then d else 0) - (if toH n i=z then d else 0):=by
 have h1:=h.half
 unfold pushF fromH toH
 have e:((((i / 2).toNat:Nat)):Int)=i / 2:=by omega
 by_cases hp:i % 2=0
 ·rw [if_pos hp,if_pos hp,if_pos hp,netF_set om hl,e]
  split<;>split<;>omega
 ·rw [if_neg hp,if_neg hp,if_neg hp,netF_set om hl,e]
  split<;>split<;>omega
theorem HOk.push(h:HOk n f hs)(hi:InH n i){d:Int}(h0:0≤d)(hd:d≤leftH n f i):HOk n (pushF f i d) (pushHs hs i d):=by
 have hl:=h.len
 have hm:=hi.mate
 refine ⟨by unfold pushHs;simp;exact h.len,(pushF_len d).trans h.flen,pushF_cap h.flen h.cap hi h0 hd,fun j hj=>?_⟩
 have hne:=mate_ne i
 have e1:at_ (hs.set i.toNat {at_ hs i with left:=(at_ hs i).left - d}) (mateH i)=at_ hs (mateH i):=by
  rw [Dj hs i _ _ hi.1 hm.1 (by have:=hi.2;omega),if_neg (fun e=>hne e.symm)]
 have ej:at_ (pushHs hs i d) j=if mateH i=j then {at_ hs (mateH i) with left:=(at_ hs (mateH i)).left+d} else if i=j then {at_ hs i with left:=(at_ hs i).left - d} else at_ hs j:=by
  unfold pushHs
  rw [Dj _ (mateH i) j _ hm.1 hj.1 (by rw [List.length_set];have:=hm.2;omega),e1,Dj hs i j _ hi.1 hj.1 (by have:=hi.2;omega)]
 rw [ej,left_push h.flen hi d hj]
 by_cases a:mateH i=j
 ·subst a
  rw [if_pos rfl,if_neg hne,if_pos rfl]
  have:=h.get _ hm
  exact ⟨this.1,this.2.1,by show (at_ hs (mateH i)).left+d=_;omega⟩
 ·rw [if_neg a,if_neg (show ¬j=mateH i from fun e=>a e.symm)]
  by_cases b:i=j
  ·subst b
   rw [if_pos rfl,if_pos rfl]
   have:=h.get _ hi
   exact ⟨this.1,this.2.1,by show (at_ hs i).left - d=_;omega⟩
  ·rw [if_neg b,if_neg (show ¬j=i from fun e=>b e.symm)]
   have:=h.get _ hj
   exact ⟨this.1,this.2.1,by omega⟩
theorem shut_half{S:Int→Bool}:Shut n f S↔∀i,InH n i→S (fromH n i)=true→0<leftH n f i→S (toH n i)=true:=by
 constructor
 ·intro h i hi hs hl
  have h1:=hi.half
  have e:((((i / 2).toNat:Nat)):Int)=i / 2:=by omega
  have:=h (i / 2).toNat om
  rw [e] at this
  unfold fromH at hs
  unfold leftH at hl
  unfold toH
  by_cases hp:i % 2=0
  ·rw [if_pos hp] at *; exact this.1 hs om
  ·rw [if_neg hp] at *; exact this.2 hs hl
 ·intro h k hk
  have h1:=h (2*(k:Int)) (by unfold InH;omega)
  have h2:=h (2*(k:Int)+1) (by unfold InH;omega)
  unfold fromH toH leftH at h1 h2
  rw [if_pos om,if_pos om,if_pos om,show (2*(k:Int)) / 2=k from by omega] at h1
  rw [if_neg om,if_neg om,if_neg om,show (2*(k:Int)+1) / 2=k from by omega] at h2
  exact ⟨fun a b=>h1 a om,h2⟩
inductive Adm (n:Net) (f L:List Int):Int→Prop
 |sink:Adm n f L n.sink
 |step (i:Int):InH n i→0<leftH n f i→at_ L (toH n i)=at_ L (fromH n i)+1→Adm n f L (toH n i)→Adm n f L (fromH n i)
def Less(n:Net)(L f f':List Int):Prop:=∀i,InH n i→at_ L (toH n i)=at_ L (fromH n i)+1→leftH n f' i≤leftH n f i
theorem Less.refl(n:Net)(L f:List Int):Less n L f f:=fun _ _ _=>Int.le_refl _
theorem Less.trans{L h:List Int}(a:Less n L f g)(b:Less n L g h):Less n L f h:=fun i hi hl=>Int.le_trans (b i hi hl) (a i hi hl)
theorem Adm.less{L f':List Int}(hl:Less n L f f'){z:Int}(h:Adm n f' L z):Adm n f L z:=by
 induction h with
 |sink=>exact .sink
 |step i hi hp hL _ ih=>exact .step i hi (by have:=hl i hi hL;omega) hL ih
def Dead(n:Net)(rs:List (List Int))(L f nx:List Int):Prop:=∀u,0≤u→u<n.nodes→∀j:Nat,(j:Int)<at_ nx u→j<(at_ rs u).length→
 ¬(0<leftH n f (at_ (at_ rs u) (j:Int))∧at_ L (toH n (at_ (at_ rs u) (j:Int)))=at_ L u+1∧Adm n f L (toH n (at_ (at_ rs u) (j:Int))))
theorem Dead.less{L f' nx:List Int}(hr:ROk n rs)(hl:Less n L f f')(h:Dead n rs L f nx):Dead n rs L f' nx:=fun u h0 h1 j hj hjl ⟨a,b,c⟩=>by
 have hm:=hr.all u h0 h1 _ (Cf (xs:=at_ rs u) (i:=(j:Int)) om om)
 refine h u h0 h1 j hj hjl ⟨?_,b,c.less hl⟩
 have:=hl _ hm.1 (by rw [hm.2];exact b)
 omega
theorem Dead.adv{L nx:List Int}{v:Int}(h:Dead n rs L f nx)(hv:0≤v∧v<nx.length)(hx:0≤at_ nx v)
  (hd:¬(0<leftH n f (at_ (at_ rs v) (at_ nx v))∧at_ L (toH n (at_ (at_ rs v) (at_ nx v)))=at_ L v+1∧Adm n f L (toH n (at_ (at_ rs v) (at_ nx v))))):Dead n rs L f (nx.set v.toNat (at_ nx v+1)):=fun u h0 h1 j hj hjl=>by
 rw [Dj nx v u _ hv.1 h0 hv.2] at hj
 by_cases e:v=u
 ·subst e
  rw [if_pos rfl] at hj
  by_cases hj':(j:Int)<at_ nx v
  ·exact h v h0 h1 j hj' hjl
  ·rw [show (j:Int)=at_ nx v from by omega];exact hd
 ·rw [if_neg e] at hj;exact h u h0 h1 j hj hjl
theorem Dead.not{L nx:List Int}{v:Int}(hr:ROk n rs)(h:Dead n rs L f nx)(hv:0≤v∧v<n.nodes)(hs:v≠n.sink)(hx:(at_ rs v).length≤at_ nx v):¬Adm n f L v:=fun ha=>by
 cases ha with
 |sink=>exact hs rfl
 |step i hi hp hL hA=>
  obtain ⟨j,hj,e⟩:=mem_at (hr.has i hi)
  refine h _ hv.1 hv.2 j om hj ?_
  rw [e];exact ⟨hp,hL,hA⟩
structure PushR (n:Net) (rs:List (List Int)) (L:List Int) (v d:Int) (f nx f' nx':List Int):Prop where
 len:f'.length=n.arcs.length
 cap:CapF n f'
 net:∀z,netF n f' z=netF n f z+(if v=z then d else 0) - (if n.sink=z then d else 0)
 less:Less n L f f'
 same:∀i,InH n i→(at_ L (fromH n i)<at_ L v∨at_ L (toH n i)<at_ L v)→leftH n f' i=leftH n f i
 dead:Dead n rs L f' nx'
 nlen:nx'.length=nx.length
 nge:∀z,0≤z→z<n.nodes→0≤at_ nx' z
 nsame:∀z,0≤z→z<n.nodes→z≠v→at_ L z≤at_ L v→at_ nx' z=at_ nx z
 zero:d=0→f'=f
variable {L nx f' nx':List Int}{v d:Int}
theorem PushR.start(hl:f.length=n.arcs.length)(hc:CapF n f)(hd:Dead n rs L f nx)(hx:∀z,0≤z→z<n.nodes→0≤at_ nx z)(v:Int):PushR n rs L v 0 f nx f nx:=
 ⟨hl,hc,fun z=>by simp,Less.refl _ _ _,fun _ _ _=>rfl,hd,rfl,hx,fun _ _ _ _ _=>rfl,fun _=>rfl⟩
theorem PushR.adv(h:PushR n rs L v d f nx f' nx')(hv:0≤v∧v<nx'.length)
  (hd:¬(0<leftH n f' (at_ (at_ rs v) (at_ nx' v))∧at_ L (toH n (at_ (at_ rs v) (at_ nx' v)))=at_ L v+1∧Adm n f' L (toH n (at_ (at_ rs v) (at_ nx' v))))) (hn:v<n.nodes):PushR n rs L v d f nx f' (nx'.set v.toNat (at_ nx' v+1)):=
 ⟨h.len,h.cap,h.net,h.less,h.same,h.dead.adv hv (h.nge v hv.1 hn) hd,by rw [List.length_set];exact h.nlen,fun z h0 h1=>by
  rw [Dj nx' v z _ hv.1 h0 hv.2]
  have:=h.nge v hv.1 hn
  have:=h.nge z h0 h1
  split<;>omega,fun z h0 h1 hz hL=>by
  rw [Dj nx' v z _ hv.1 h0 hv.2,if_neg (fun e=>hz e.symm)];exact h.nsame z h0 h1 hz hL,h.zero⟩
theorem pushF_zero(hl:f.length=n.arcs.length)(hi:InH n i):pushF f i 0=f:=by
 have h1:=hi.half
 have e:∀x:Int,x=at_ f (i / 2)→f.set (i / 2).toNat x=f:=fun x hx=>by
  subst hx
  rw [at_eq om om]
  exact List.set_getElem_self _
 unfold pushF
 split
 ·exact e _ om
 ·exact e _ om
theorem PushR.put(hok:n.Ok)(hr:ROk n rs){i e:Int}{g ng:List Int}(h:PushR n rs L v d f nx f' nx')(hi:InH n i)(hf:fromH n i=v)(hL:at_ L (toH n i)=at_ L v+1)
  (h0:0≤d) (he:0≤e) (hle:e≤leftH n f' i) (h2:PushR n rs L (toH n i) e f' nx' g ng):PushR n rs L v (d+e) f nx (pushF g i e) ng∧at_ ng v=at_ nx' v∧leftH n g i=leftH n f' i:=by
 have hfo:=from_ok hok hi
 have hs:leftH n g i=leftH n f' i:=h2.same i hi (.inl (by rw [hf];omega))
 have hless:Less n L g (pushF g i e):=fun j hj hLj=>by
  rw [left_push h2.len hi e hj]
  by_cases a:j=mateH i
  ·subst a
   rw [to_mate,from_mate,hf] at hLj
   omega
  ·rw [if_neg a];split<;>omega
 refine ⟨⟨(pushF_len e).trans h2.len,pushF_cap h2.len h2.cap hi he om,fun z=>?_,(h.less.trans h2.less).trans hless,fun j hj hjL=>?_,h2.dead.less hr hless,h2.nlen.trans h.nlen,h2.nge,fun z hz0 hz1 hz hzL=>?_,fun hde=>?_⟩,h2.nsame v om om om om,hs⟩
 ·rw [netF_push h2.len hi,h2.net,h.net,hf]
  repeat' split
  all_goals omega
 ·have h3:leftH n g j=leftH n f' j:=h2.same j hj om
  rw [left_push h2.len hi e hj,h3,h.same j hj hjL]
  have a1:j≠i:=fun e=>by subst e;rw [hf] at hjL;omega
  have a2:j≠mateH i:=fun e=>by subst e;rw [to_mate,from_mate,hf] at hjL;omega
  rw [if_neg a1,if_neg a2];omega
 ·rw [h2.nsame z hz0 hz1 (fun e=>by subst e;omega) om,h.nsame z hz0 hz1 hz hzL]
 ·have e0:e=0:=by omega
  have d0:d=0:=by omega
  subst e0
  rw [pushF_zero h2.len hi,h2.zero rfl,h.zero d0]
theorem PushR.used{i e m:Int}{g:List Int}(hi:InH n i)(hm:e<m∨leftH n g i=e)(hq:e<m→¬Adm n g L (toH n i))(hg:g.length=n.arcs.length)(he:0≤e)(hL:at_ L (toH n i)=at_ L (fromH n i)+1):¬(0<leftH n (pushF g i e) i∧at_ L (toH n i)=at_ L (fromH n i)+1∧Adm n (pushF g i e) L (toH n i)):=fun ⟨a,_,c⟩=>by
 have hless:Less n L g (pushF g i e):=fun j hj hLj=>by
  rw [left_push hg hi e hj]
  by_cases a:j=mateH i
  ·subst a
   rw [to_mate,from_mate] at hLj
   omega
  ·rw [if_neg a];split<;>omega
 rcases hm with hm|hm
 ·exact hq hm (c.less hless)
 ·rw [left_push hg hi e hi,if_pos rfl,if_neg (fun e=>mate_ne i e.symm)] at a
  omega
structure LvOk (n:Net) (f L:List Int):Prop where
 len:(L.length:Int)=n.nodes
 src:at_ L n.source=0
 low:∀z,0≤z→z<n.nodes→ -1≤at_ L z∧at_ L z<n.nodes
 clos:∀i,InH n i→0≤at_ L (fromH n i)→0<leftH n f i→0≤at_ L (toH n i)
 par:∀z,0≤z→z<n.nodes→0≤at_ L z→z≠n.source→∃i,InH n i∧toH n i=z∧0<leftH n f i∧0≤at_ L (fromH n i)∧at_ L z=at_ L (fromH n i)+1
theorem LvOk.adm(hok:n.Ok)(h:LvOk n f L){z:Int}(hz:Adm n f L z):∀m:Nat,0≤z→z<n.nodes→at_ L z=m→Adm n f L n.source:=fun m=>by
 induction m generalizing z with
 |zero=>
  intro h0 h1 hm
  by_cases hs:z=n.source
  ·subst hs;exact hz
  ·obtain ⟨i,hi,he,hl,hf,hq⟩:=h.par z h0 h1 om hs
   omega
 |succ m ih=>
  intro h0 h1 hm
  by_cases hs:z=n.source
  ·subst hs;exact hz
  ·obtain ⟨i,hi,he,hl,hf,hq⟩:=h.par z h0 h1 om hs
   have hfo:=from_ok hok hi
   subst he
   exact ih (.step i hi hl hq hz) hfo.1.1 hfo.1.2 om
theorem LvOk.go(hok:n.Ok)(h:LvOk n f L)(hs:0≤at_ L n.sink):Adm n f L n.source:=
 h.adm hok .sink (at_ L n.sink).toNat hok.snk.1 hok.snk.2 om
theorem LvOk.end(hok:n.Ok)(h:LvOk n f L)(hs:¬0≤at_ L n.sink):∃S:Int→Bool,Shut n f S∧S n.source=true∧S n.sink=false:=
 ⟨fun z=>decide (0≤at_ L z),shut_half.2 fun i hi a b=>decide_eq_true (h.clos i hi (of_decide_eq_true a) b),decide_eq_true (by rw [h.src];omega),decide_eq_false hs⟩
theorem PushR.flow(hok:n.Ok)(hf:IsFlow n f)(h:PushR n rs L n.source d f nx f' nx'):IsFlow n f'∧netF n f' n.source=netF n f n.source+d:=by
 have hne:=hok.ne
 refine ⟨⟨h.len,h.cap,fun v h0 h1 hs ht=>?_⟩,?_⟩
 ·rw [h.net v,if_neg (fun e=>hs e.symm),if_neg (fun e=>ht e.symm),hf.cons v h0 h1 hs ht];rfl
 ·rw [h.net,if_pos rfl,if_neg (fun e=>hne e.symm)];omega
end
structure LI (n:Net) (f:List Int) (rs:List (List Int)) (L todo:List Int) (x:Int) (q:Nat):Prop where
 len:(L.length:Int)=n.nodes
 src:at_ L n.source=0
 low:∀z,0≤z→z<n.nodes→ -1≤at_ L z∧at_ L z+un L<n.nodes
 wait:∀z∈todo,(0≤z∧z<n.nodes)∧0≤at_ L z
 clos:∀z,0≤z→z<n.nodes→0≤at_ L z→z∉todo→∀j:Nat,j<(at_ rs z).length→(z=x→j<q)→0<leftH n f (at_ (at_ rs z) (j:Int))→0≤at_ L (toH n (at_ (at_ rs z) (j:Int)))
 par:∀z,0≤z→z<n.nodes→0≤at_ L z→z≠n.source→∃i,InH n i∧toH n i=z∧0<leftH n f i∧0≤at_ L (fromH n i)∧at_ L z=at_ L (fromH n i)+1
 cur:0≤x→x<n.nodes∧0≤at_ L x
section
variable {n:Net}{f L todo:List Int}{rs:List (List Int)}{x:Int}{q:Nat}
theorem LI.put(hok:n.Ok)(h:LI n f rs L todo x q)(hx:0≤x){i:Int}(hi:InH n i)(hf:fromH n i=x)(hl:0<leftH n f i)(hn:at_ L (toH n i)<0) :
  LI n f rs (L.set (toH n i).toNat (at_ L x+1)) (todo++[toH n i]) x q∧un (L.set (toH n i).toNat (at_ L x+1))+1=un L:=by
 have hfo:=from_ok hok hi
 have hlen:=h.len
 have hc:(0≤x∧x<n.nodes)∧0≤at_ L x:=⟨⟨hx,(h.cur hx).1⟩,(h.cur hx).2⟩
 have hlo:=h.low _ hfo.2.1.1 hfo.2.1.2
 have hlx:=h.low _ hc.1.1 hc.1.2
 have hu:=un_set (out:=L) (y:=toH n i) (i:=at_ L x+1) om om om
 generalize hy:toH n i=y at *
 have hat:∀z,0≤z→at_ (L.set y.toNat (at_ L x+1)) z=if y=z then at_ L x+1 else at_ L z:=fun z hz=>Dj L y z _ hfo.2.1.1 hz om
 have hge:∀z,0≤z→0≤at_ L z→0≤at_ (L.set y.toNat (at_ L x+1)) z:=fun z hz hp=>by rw [hat z hz];split<;>omega
 refine ⟨⟨by rw [List.length_set];exact h.len,?_,fun z h0 h1=>?_,fun z hz=>?_,fun z h0 h1 hz hzt j hj hjq hjl=>?_,fun z h0 h1 hz hs=>?_,fun _=>⟨hc.1.2,hge x hc.1.1 hc.2⟩⟩,hu⟩
 ·have:=hok.src
  rw [hat _ this.1,if_neg (fun e=>by subst e;have:=h.src;omega)];exact h.src
 ·have hz:=h.low z h0 h1
  rw [hat z h0]
  split<;>omega
 ·rcases List.mem_append.1 hz with hz|hz
  ·have:=h.wait z hz
   exact ⟨this.1,hge z this.1.1 this.2⟩
  ·rw [List.mem_singleton.1 hz]
   exact ⟨hfo.2.1,by rw [hat y hfo.2.1.1,if_pos rfl];omega⟩
 ·have hzy:y≠z:=fun e=>hzt (List.mem_append_right _ (List.mem_singleton.2 e.symm))
  rw [hat z h0,if_neg hzy] at hz
  have:=h.clos z h0 h1 hz (fun hm=>hzt (List.mem_append_left _ hm)) j hj hjq hjl
  generalize toH n (at_ (at_ rs z) (j:Int))=t at this ⊢
  by_cases hneg:0≤t
  ·exact hge _ hneg this
  ·have e0:∀M:List Int,at_ M t=at_ M 0:=fun M=>by unfold at_;rw [show t.toNat=(0:Int).toNat from by omega]
   rw [e0] at this ⊢; exact hge 0 om om
 ·rw [hat z h0] at hz ⊢
  by_cases hzy:y=z
  ·rw [if_pos hzy]
   have hxy:y≠x:=fun e=>by subst e;omega
   exact ⟨i,hi,hy.trans hzy,hl,by rw [hf];exact hge x hc.1.1 hc.2,by rw [hf,hat x hc.1.1,if_neg hxy]⟩
  ·rw [if_neg hzy] at hz ⊢
   obtain ⟨k,hk,he,hkl,hkf,hkq⟩:=h.par z h0 h1 hz hs
   have hko:=from_ok hok hk
   have hky:y≠fromH n k:=fun e=>by rw [←e] at hkf;omega
   exact ⟨k,hk,he,hkl,hge _ hko.1.1 hkf,by rw [hat _ hko.1.1,if_neg hky];exact hkq⟩
theorem LI.inc(h:LI n f rs L todo x q)(hd:0<leftH n f (at_ (at_ rs x) (q:Int))→0≤at_ L (toH n (at_ (at_ rs x) (q:Int)))):LI n f rs L todo x (q+1):=
 ⟨h.len,h.src,h.low,h.wait,fun z h0 h1 hz hzt j hj hjq hjl=>by
  by_cases e:z=x∧j=q
  ·obtain ⟨rfl,rfl⟩:=e;exact hd hjl
  ·exact h.clos z h0 h1 hz hzt j hj (fun ez=>by have:=hjq ez;have:j≠q:=fun ej=>e ⟨ez,ej⟩;omega) hjl,h.par,h.cur⟩
theorem LI.next(h:LI n f rs L todo (-1) 0)(ht:0<todo.length):LI n f rs L (todo.drop 1) (at_ todo 0) 0:=by
 obtain ⟨x,t,rfl⟩:∃x t,todo=x::t:=by cases todo with
  |nil=>simp at ht
  |cons x t=>exact ⟨x,t,rfl⟩
 show LI n f rs L t x 0
 refine ⟨h.len,h.src,h.low,fun z hz=>h.wait z (List.mem_cons_of_mem _ hz),fun z h0 h1 hz hzt j hj hjq hjl=>?_,h.par,fun _=>?_⟩
 ·by_cases e:z=x
  ·have:=hjq e;omega
  ·have hzm:z∉x::t:=fun hm=>by
    rcases List.mem_cons.1 hm with hm|hm
    ·exact e hm
    ·exact hzt hm
   exact h.clos z h0 h1 hz hzm j hj (fun ez=>by omega) hjl
 ·have:=h.wait x List.mem_cons_self
  exact ⟨this.1.2,this.2⟩
theorem LI.over(h:LI n f rs L todo x q)(hq:(at_ rs x).length≤q):LI n f rs L todo (-1) 0:=
 ⟨h.len,h.src,h.low,h.wait,fun z h0 h1 hz hzt j hj _ hjl=>h.clos z h0 h1 hz hzt j hj (fun e=>by subst e;omega) hjl,h.par,fun h=>by omega⟩
theorem LI.done(hok:n.Ok)(hr:ROk n rs)(h:LI n f rs L todo (-1) 0)(ht:¬0<todo.length):LvOk n f L:=by
 obtain rfl:todo=[]:=List.eq_nil_of_length_eq_zero om
 exact ⟨h.len,h.src,fun z h0 h1=>by have:=h.low z h0 h1;omega,fun i hi hf hl=>by
  have hfo:=from_ok hok hi
  obtain ⟨j,hj,e⟩:=mem_at (hr.has i hi)
  have:=h.clos _ hfo.1.1 hfo.1.2 hf (by simp) j hj (fun e=>by omega) (by rw [e];exact hl)
  rwa [e] at this,h.par⟩
theorem LI.start(hok:n.Ok){L0:List Int}(hl:(L0.length:Int)=n.nodes)(h0:∀j:Nat,j<L0.length→at_ L0 (j:Int) = -1):LI n f rs (L0.set n.source.toNat 0) [n.source] (-1) 0∧un (L0.set n.source.toNat 0)+1=n.nodes.toNat:=by
 have hs:=hok.src
 have h0':∀z:Int,0≤z→z<n.nodes→at_ L0 z = -1:=fun z a b=>at_all (p:=fun z=>at_ L0 z = -1) h0 a om
 have hat:∀z,0≤z→at_ (L0.set n.source.toNat 0) z=if n.source=z then 0 else at_ L0 z:=fun z hz=>Dj L0 _ z _ hs.1 hz om
 have hu:=un_set (out:=L0) (y:=n.source) (i:=0) om (h0' _ hs.1 hs.2) om
 have hu0:un L0=n.nodes.toNat:=by
  have e:=eq_rep h0
  unfold un
  rw [e,List.count_replicate_self];omega
 refine ⟨⟨by rw [List.length_set];exact hl,by rw [hat _ hs.1,if_pos rfl],fun z a b=>?_,fun z hz=>?_,fun z a b hz hzt=>?_,fun z a b hz hne=>?_,fun h=>by omega⟩,by omega⟩
 ·rw [hat z a,h0' z a b];split<;>omega
 ·rw [List.mem_singleton.1 hz];exact ⟨hs,by rw [hat _ hs.1,if_pos rfl];omega⟩
 ·exfalso
  have:n.source≠z:=fun e=>hzt (by rw [e];exact List.mem_singleton.2 rfl)
  rw [hat z a,if_neg this,h0' z a b] at hz;omega
 ·exfalso
  rw [hat z a,if_neg (fun e=>hne e.symm),h0' z a b] at hz;omega
end
theorem at_zero_append{α:Type}[Inhabited α]{w:List α}{y:List α}(h:0<w.length):at_ (w++y) 0=at_ w 0:=by
 cases w with
 |nil=>simp at h
 |cons x t=>rfl
theorem drop_one_append{α:Type}{w y:List α}(h:0<w.length):(w++y).drop 1=w.drop 1++y:=by
 cases w with
 |nil=>simp at h
 |cons x t=>rfl
def goH(n:Net)(f:List Int)(ag:Bool)(i:Int):Int:=if ag then leftH n f (mateH i) else leftH n f i
def ShutG(n:Net)(f:List Int)(ag:Bool)(S:Int→Bool):Prop:=∀i,InH n i→S (fromH n i)=true→0<goH n f ag i→S (toH n i)=true
structure RI (n:Net) (f:List Int) (ag:Bool) (v:Int) (rs:List (List Int)) (seen:List Bool) (todo:List Int) (x:Int) (q:Nat):Prop where
 len:(seen.length:Int)=n.nodes
 src:at_ seen v=true
 wait:∀z∈todo,(0≤z∧z<n.nodes)∧at_ seen z=true
 clos:∀z,0≤z→z<n.nodes→at_ seen z=true→z∉todo→∀j:Nat,j<(at_ rs z).length→(z=x→j<q)→0<goH n f ag (at_ (at_ rs z) (j:Int))→at_ seen (toH n (at_ (at_ rs z) (j:Int)))=true
 sound:∀S:Int→Bool,ShutG n f ag S→S v=true→∀z,0≤z→z<n.nodes→at_ seen z=true→S z=true
 cur:0≤x→x<n.nodes∧at_ seen x=true
def unB(l:List Bool):Nat:=l.count false
theorem unB_set{l:List Bool}{y:Int}(hy:0≤y∧y<l.length)(h:at_ l y=false):unB (l.set y.toNat true)+1=unB l:=by
 unfold unB
 have hl:y.toNat<l.length:=by omega
 have hg:l[y.toNat]=false:=by rw [at_eq hy.1 hy.2] at h;exact h
 rw [List.count_set hl]
 have hpos:0<l.count false:=List.count_pos_iff.2 (hg▸List.getElem_mem hl)
 have e1:(l[y.toNat]==false)=true:=by simp [hg]
 have e2:(true==false)=false:=rfl
 rw [e1,e2]
 simp only [if_true,Bool.false_eq_true,if_false]
 omega
section
variable {n:Net}{f todo:List Int}{ag:Bool}{v:Int}{seen:List Bool}{rs:List (List Int)}{x:Int}{q:Nat}
theorem RI.put(hok:n.Ok)(h:RI n f ag v rs seen todo x q)(hx:0≤x)(hv:0≤v){i:Int}(hi:InH n i)(hf:fromH n i=x)(hl:0<goH n f ag i)(hn:at_ seen (toH n i)=false) :
  RI n f ag v rs (seen.set (toH n i).toNat true) (todo++[toH n i]) x q∧unB (seen.set (toH n i).toNat true)+1=unB seen:=by
 have hfo:=from_ok hok hi
 have hlen:=h.len
 have hc:=h.cur hx
 have hu:=unB_set (l:=seen) (y:=toH n i) om hn
 have hti:∀S:Int→Bool,ShutG n f ag S→S x=true→S (toH n i)=true:=fun S hS hs=>hS i hi (by rw [hf];exact hs) hl
 generalize hy:toH n i=y at *
 have hat:∀z,0≤z→at_ (seen.set y.toNat true) z=if y=z then true else at_ seen z:=fun z hz=>Dj seen y z _ hfo.2.1.1 hz om
 have hge:∀z,0≤z→at_ seen z=true→at_ (seen.set y.toNat true) z=true:=fun z hz hp=>by rw [hat z hz];split<;>first|rfl|exact hp
 refine ⟨⟨by rw [List.length_set];exact h.len,hge v hv h.src,fun z hz=>?_,fun z h0 h1 hz hzt j hj hjq hjl=>?_,fun S hS hs z h0 h1 hz=>?_,fun _=>⟨hc.1,hge x hx hc.2⟩⟩,hu⟩
 ·rcases List.mem_append.1 hz with hz|hz
  ·have:=h.wait z hz
   exact ⟨this.1,hge z this.1.1 this.2⟩
  ·rw [List.mem_singleton.1 hz]
   exact ⟨hfo.2.1,by rw [hat y hfo.2.1.1,if_pos rfl]⟩
 ·have hzy:y≠z:=fun e=>hzt (List.mem_append_right _ (List.mem_singleton.2 e.symm))
  rw [hat z h0,if_neg hzy] at hz
  have:=h.clos z h0 h1 hz (fun hm=>hzt (List.mem_append_left _ hm)) j hj hjq hjl
  generalize toH n (at_ (at_ rs z) (j:Int))=t at this ⊢
  by_cases hneg:0≤t
  ·exact hge _ hneg this
  ·have e0:∀M:List Bool,at_ M t=at_ M 0:=fun M=>by unfold at_;rw [show t.toNat=(0:Int).toNat from by omega]
   rw [e0] at this ⊢; exact hge 0 om om
 ·rw [hat z h0] at hz
  by_cases hzy:y=z
  ·subst hzy
   exact hti S hS (h.sound S hS hs x hx hc.1 hc.2)
  ·rw [if_neg hzy] at hz
   exact h.sound S hS hs z h0 h1 hz
theorem RI.inc(h:RI n f ag v rs seen todo x q)(hd:0<goH n f ag (at_ (at_ rs x) (q:Int))→at_ seen (toH n (at_ (at_ rs x) (q:Int)))=true):RI n f ag v rs seen todo x (q+1):=
 ⟨h.len,h.src,h.wait,fun z h0 h1 hz hzt j hj hjq hjl=>by
  by_cases e:z=x∧j=q
  ·obtain ⟨rfl,rfl⟩:=e;exact hd hjl
  ·exact h.clos z h0 h1 hz hzt j hj (fun ez=>by have:=hjq ez;have:j≠q:=fun ej=>e ⟨ez,ej⟩;omega) hjl,h.sound,h.cur⟩
theorem RI.next(h:RI n f ag v rs seen todo (-1) 0)(ht:0<todo.length):RI n f ag v rs seen (todo.drop 1) (at_ todo 0) 0:=by
 obtain ⟨x,t,rfl⟩:∃x t,todo=x::t:=by cases todo with
  |nil=>simp at ht
  |cons x t=>exact ⟨x,t,rfl⟩
 show RI n f ag v rs seen t x 0
 refine ⟨h.len,h.src,fun z hz=>h.wait z (List.mem_cons_of_mem _ hz),fun z h0 h1 hz hzt j hj hjq hjl=>?_,h.sound,fun _=>?_⟩
 ·by_cases e:z=x
  ·have:=hjq e;omega
  ·have hzm:z∉x::t:=fun hm=>by
    rcases List.mem_cons.1 hm with hm|hm
    ·exact e hm
    ·exact hzt hm
   exact h.clos z h0 h1 hz hzm j hj (fun ez=>by omega) hjl
 ·have:=h.wait x List.mem_cons_self
  exact ⟨this.1.2,this.2⟩
theorem RI.over(h:RI n f ag v rs seen todo x q)(hq:(at_ rs x).length≤q):RI n f ag v rs seen todo (-1) 0:=
 ⟨h.len,h.src,h.wait,fun z h0 h1 hz hzt j hj _ hjl=>h.clos z h0 h1 hz hzt j hj (fun e=>by subst e;omega) hjl,h.sound,fun h=>by omega⟩
theorem RI.start(hv:0≤v∧v<n.nodes){s0:List Bool}(hl:(s0.length:Int)=n.nodes)(h0:∀z:Int,0≤z→z<n.nodes→at_ s0 z=false):RI n f ag v rs (s0.set v.toNat true) [v] (-1) 0:=by
 have hat:∀z,0≤z→at_ (s0.set v.toNat true) z=if v=z then true else at_ s0 z:=fun z hz=>Dj s0 _ z _ hv.1 hz om
 refine ⟨by rw [List.length_set];exact hl,by rw [hat _ hv.1,if_pos rfl],fun z hz=>?_,fun z a b hz hzt=>?_,fun S hS hs z a b hz=>?_,fun h=>by omega⟩
 ·rw [List.mem_singleton.1 hz];exact ⟨hv,by rw [hat _ hv.1,if_pos rfl]⟩
 ·exfalso
  have:v≠z:=fun e=>hzt (by rw [e];exact List.mem_singleton.2 rfl)
  rw [hat z a,if_neg this,h0 z a b] at hz;cases hz
 ·by_cases e:v=z
  ·subst e;exact hs
  ·rw [hat z a,if_neg e,h0 z a b] at hz;cases hz
structure Seen (n:Net) (f:List Int) (ag:Bool) (v:Int) (seen:List Bool):Prop where
 len:(seen.length:Int)=n.nodes
 src:at_ seen v=true
 shut:ShutG n f ag fun z=>at_ seen z
 sound:∀S:Int→Bool,ShutG n f ag S→S v=true→∀z,0≤z→z<n.nodes→at_ seen z=true→S z=true
theorem RI.done(hok:n.Ok)(hr:ROk n rs)(h:RI n f ag v rs seen todo (-1) 0)(ht:¬0<todo.length):Seen n f ag v seen:=by
 obtain rfl:todo=[]:=List.eq_nil_of_length_eq_zero om
 exact ⟨h.len,h.src,fun i hi hf hl=>by
  have hfo:=from_ok hok hi
  obtain ⟨j,hj,e⟩:=mem_at (hr.has i hi)
  have:=h.clos _ hfo.1.1 hfo.1.2 hf (by simp) j hj (fun e=>by omega) (by rw [e];exact hl)
  rwa [e] at this,h.sound⟩
structure Full (n:Net) (f:List Int) (val:Int):Prop where
 flow:IsFlow n f
 val:val=netF n f n.source
 ends:∃S:Int→Bool,Shut n f S∧S n.source=true∧S n.sink=false
theorem shutG_bwd{S:Int→Bool}:ShutG n f true (fun z=> !S z)↔Shut n f S:=by
 rw [shut_half]
 constructor
 ·intro h i hi a b
  have h0:(!S (fromH n (mateH i)))=true→0<goH n f true (mateH i)→(!S (toH n (mateH i)))=true:=h (mateH i) hi.mate
  rw [from_mate,to_mate] at h0
  unfold goH at h0
  rw [mate_mate,if_pos rfl] at h0
  cases hs:S (toH n i)
  ·have h1:=h0 (by rw [hs];rfl) b
   rw [a] at h1;cases h1
  ·rfl
 ·intro h i hi a b
  unfold goH at b
  rw [if_pos rfl] at b
  have a':(!S (fromH n i))=true:=a
  have h0:=h (mateH i) hi.mate
  rw [from_mate,to_mate] at h0
  show (!S (toH n i))=true
  cases hs:S (toH n i)
  ·rfl
  ·have h1:=h0 hs b
   rw [h1] at a';cases a'
theorem Seen.great(hok:n.Ok){val:Int}(hf:Full n f val)(h:Seen n f true n.sink seen):Great n f fun z=> !at_ seen z:=by
 have hs:=hok.src
 have ht:=hok.snk
 refine ⟨?_,by rw [h.src];rfl,?_,fun S hS hv z h0 h1 hz=>?_⟩
 ·obtain ⟨S,h1,h2,h3⟩:=hf.ends
  cases e:at_ seen n.source
  ·rfl
  ·have:=h.sound (fun z=> !S z) (shutG_bwd.2 h1) (by rw [h3];rfl) _ hs.1 hs.2 e
   rw [h2] at this;cases this
 ·refine shutG_bwd.1 ?_
  have e:(fun z=> !!at_ seen z)=fun z=>at_ seen z:=by funext z;simp
  rw [e];exact h.shut
 ·cases e:at_ seen z
  ·rfl
  ·have:=h.sound (fun z=> !S z) (shutG_bwd.2 hS) (by rw [hv];rfl) z h0 h1 e
   rw [hz] at this;cases this
end
end Go.Sl
namespace Go.Sl
theorem nat_xor_one(n:Nat):n ^^^ 1=if n % 2=0 then n+1 else n - 1:=by
 have h1:(n ^^^ 1) / 2=n / 2:=by rw [Nat.xor_div_two];simp
 have h2:(n ^^^ 1) % 2=1↔¬(n % 2=1↔1 % 2=1):=Nat.xor_mod_two_eq_one
 split<;>omega
theorem xor_mate{i:Int}(h0:0≤i)(h1:i<4611686018427387904):bits .xor .i64 i 1=mateH i:=by
 obtain ⟨n,rfl⟩:∃n:Nat,i=(n:Int):=⟨i.toNat,by omega⟩
 have e:(BitVec.ofInt 64 (n:Int) ^^^ BitVec.ofInt 64 1).toNat=n ^^^ 1:=by
  rw [BitVec.toNat_xor,BitVec.toNat_ofInt,BitVec.toNat_ofInt]
  congr 1
  omega
 have e2:bits .xor .i64 (n:Int) 1=IntKind.i64.wrap (((n ^^^ 1:Nat)):Int):=by
  unfold bits
  show IntKind.i64.wrap ((BitVec.ofInt 64 (n:Int) ^^^ BitVec.ofInt 64 1).toNat:Int)=_
  rw [e]
 rw [e2,nat_xor_one]
 unfold mateH
 split<;>split<;>rw [IntKind.wrap_i64]<;>omega
end Go.Sl
namespace Go.Sl
open Go.Proofs
set_option maxRecDepth 4000
instance:Enc Half:=⟨fun h=>[I64 h.frm,I64 h.dst,I64 h.cap,I64 h.left],4,by omega,fun _=>rfl,fun h u hu=>by
 simp only [List.mem_cons,List.not_mem_nil,or_false] at hu
 rcases hu with rfl|rfl|rfl|rfl<;>rfl⟩
structure Row where
 a:Option Addr
 c:Nat
 xs:List Int
deriving Inhabited
instance:Enc Row:=⟨fun r=>[.slice r.a r.xs.length r.c],1,by omega,fun _=>rfl,fun r u hu=>by
 simp only [List.mem_cons,List.not_mem_nil,or_false] at hu
 subst hu;rfl⟩
def rowsL(rs:List Row):List (List Int):=rs.map Row.xs
theorem rowsL_at(rs:List Row)(v:Int):at_ (rowsL rs) v=(at_ rs v).xs:=by
 unfold rowsL at_
 simp only [List.getD_eq_getElem?_getD,List.getElem?_map]
 cases rs[v.toNat]? <;>rfl
section
variable {n:Net}{f L todo:List Int}{rs:List Row}{x i v:Int}{q:Nat}{hs:List Half}
theorem ROk.rl(h:ROk n (rowsL rs)):(rs.length:Int)=n.nodes:=by have:=h.len;unfold rowsL at this;rwa [List.length_map] at this
theorem ROk.row(h:ROk n (rowsL rs))(h0:0≤v)(h1:v<n.nodes){j:Int}(hj0:0≤j)(hj:j<(at_ rs v).xs.length):InH n (at_ (at_ rs v).xs j)∧fromH n (at_ (at_ rs v).xs j)=v:=by
 have:=h.all v h0 h1 (at_ (at_ rs v).xs j)
 rw [rowsL_at] at this
 exact this (Cf hj0 hj)
theorem lay_step{L1 nx1:List Int}{k:Nat}(h:∀j:Nat,j<k→at_ L1 (j:Int) = -1∧at_ nx1 (j:Int)=0)(hk:k<L1.length)(hk2:k<nx1.length) :
  ∀j:Nat,j<k+1→at_ (List.set L1 (((k:Nat):Int)).toNat (-1)) (j:Int) = -1∧at_ (List.set nx1 (((k:Nat):Int)).toNat 0) (j:Int)=0:=fun j hj=>by
 rw [Int.toNat_natCast,at_setn L1 k j _ hk,at_setn nx1 k j _ hk2]
 by_cases e:k=j
 ·rw [if_pos e,if_pos e];exact ⟨rfl,rfl⟩
 ·rw [if_neg e,if_neg e];exact h j om
theorem LI.inc1(h:LI n f (rowsL rs) L todo x q)(hd:0<leftH n f (at_ (at_ rs x).xs (q:Int))→0≤at_ L (toH n (at_ (at_ rs x).xs (q:Int)))):LI n f (rowsL rs) L todo x (q+1):=h.inc (by rw [rowsL_at];exact hd)
theorem LI.put1(hok:n.Ok)(h:LI n f (rowsL rs) L todo x q)(hx:0≤x)(hi:InH n (at_ (at_ rs x).xs (q:Int))∧fromH n (at_ (at_ rs x).xs (q:Int))=x)(hl:0<leftH n f (at_ (at_ rs x).xs (q:Int)))(hn:at_ L (toH n (at_ (at_ rs x).xs (q:Int)))<0) :
  LI n f (rowsL rs) (L.set (toH n (at_ (at_ rs x).xs (q:Int))).toNat (at_ L x+1)) (todo++[toH n (at_ (at_ rs x).xs (q:Int))]) x (q+1)∧un (L.set (toH n (at_ (at_ rs x).xs (q:Int))).toNat (at_ L x+1))+1=un L:=by
 have h1:=h.put hok hx hi.1 hi.2 hl hn
 refine ⟨h1.1.inc1 fun _=>?_,h1.2⟩
 have hfo:=from_ok hok hi.1
 rw [Dj _ _ _ _ hfo.2.1.1 hfo.2.1.1 (by have:=h.len;omega),if_pos rfl]
 have:=(h.cur hx).2
 omega
theorem LI.over1(h:LI n f (rowsL rs) L todo x q)(hq:(at_ rs x).xs.length≤q):LI n f (rowsL rs) L todo (-1) 0:=h.over (by rw [rowsL_at];exact hq)
end
theorem Layers_ok{κ:Ctx}{I:List Item}{n:Net}{f:List Int}{hs:List Half}{rs:List Row}{b:Nat}{hw ow lw nw:Value}{L nx:List Int}(hok:n.Ok)(hh:HOk n f hs)(hr:ROk n (rowsL rs))(ho:Sl κ I ow rs)(hrow:∀i:Int,0≤i→i<rs.length→Sl κ I (.slice (at_ rs i).a (at_ rs i).xs.length (at_ rs i).c) (at_ rs i).xs)(hL:(L.length:Int)=n.nodes)(hN:(nx.length:Int)=n.nodes) :
    CallS Tryz.prog κ 341 [.pointer (some ⟨b,0,none⟩),I64 (n.source)] (blk b [hw,ow,lw,nw,I64 (n.sink)] 339::vc 336 (hw) (hs)::vc 3 (lw) (L)::vc 3 (nw) (nx)::I) (fun r J=>∃L' nx':List Int,r = .bool (decide (0≤at_ L' n.sink))∧(LvOk n f L'∧(nx'.length:Int)=n.nodes∧∀z:Int,0≤z→z<n.nodes→at_ nx' z=0)∧J=blk b [hw,ow,lw,nw,I64 (n.sink)] 339::vc 336 (hw) (hs)::vc 3 (lw) (L')::vc 3 (nw) (nx')::I):=by
 have hlim:=hok.lim
 have hsrc:=hok.src
 have hsnk:=hok.snk
 have hhl:=hh.len
 have hrl:=hr.rl
 refine Ce2 Tryz.func341 rfl rfl ?_
 refine Ah (Ga rfl (Af (Av (Ah (Gm rfl (Gr (Bg rfl) (Gf fld339_2 rfl (Gl ty22 ?_))))))))
 refine Gr (Bu (α:=Int) (xs:=L) Am rfl Bo) (Gm rfl (Af (A5 (Bv (σ:=Nat×(List Int)×(List Int)) (fun s=>([(0,.pointer (some ⟨b,0,none⟩)),(1,I64 (n.source)),(14,I64 (((L.length:Nat):Int))),(15,I64 (((s.1:Nat):Int)))]:Env)) (fun s=>blk b [hw,ow,lw,nw,I64 (n.sink)] 339::vc 336 (hw) (hs)::vc 3 (lw) (s.2.1)::vc 3 (nw) (s.2.2)::I) (fun s=>(s.1≤L.length)∧(s.2.1.length=L.length)∧(s.2.2.length=nx.length)∧(∀j:Nat,j<s.1→at_ s.2.1 (j:Int) = -1∧at_ s.2.2 (j:Int)=0)) (fun s=>L.length - s.1) (0,L,nx) (show ((0:Nat)≤L.length)∧((L:List Int).length=L.length)∧((nx:List Int).length=nx.length)∧(∀j:Nat,j<(0:Nat)→at_ (L:List Int) (j:Int) = -1∧at_ (nx:List Int) (j:Int)=0) from ⟨om,rfl,rfl,all_zero⟩) (Ab rfl (Ab rfl (Ab rfl (Ab Ca Bp)))) (show Fit κ _ (blk b [hw,ow,lw,nw,I64 (n.sink)] 339::vc 336 (hw) (hs)::vc 3 (lw) ((L))::vc 3 (nw) ((nx))::I) from A4) ?_))))
 rintro ⟨k,L1,nx1⟩ hp
 dsimp only at hp ⊢
 obtain ⟨hk,hl1,hn1,hz⟩:=hp
 refine Ah (Gr (A8 rfl rfl) (Af (Av (A6 rfl (fun c16=>?_) (fun c16=>?_)))))
 ·refine Az (Ai (Av (A5 (Ah (Gm rfl (Ga rfl (Af (Bk mixed (Bq (blk b [hw,ow,lw,nw,I64 (n.sink)] 339::vc 336 (hw) (hs)::I) 14 (Dr 0 rfl (Ac rfl) (Dr 1 rfl (Bg rfl) (Dr 2 rfl (Aa fld339_2 rfl) (Dr 3 rfl (As ty22) ?_)))))))))))))
  refine Dr 4 rfl (Ac rfl) (Dr 5 rfl (Ac rfl) (Dr 6 rfl (Bg rfl) (Dr 7 rfl (Aa fld339_3 rfl) (Dr 8 rfl (As ty22) ?_))))
  refine Dr 9 rfl (Ac rfl) (Ds1 10 (Sr rfl (Ba (α:=Int) (xs:=L1) Am ty3 rfl rfl Bo om om) A4 ?_))
  refine Ds1 11 (Se0 rfl (Ds (α:=Int) (xs:=L1) (e:=3) (new:= -1) ty3 rfl rfl rfl om om am) ?_)
  refine Ds1 12 (Sr rfl (Ba (α:=Int) (xs:=nx1) Am ty3 rfl rfl Bo om om) A4 ?_)
  refine Ds1 13 (Se0 rfl (Ds (α:=Int) (xs:=nx1) (e:=3) (new:=0) ty3 rfl rfl rfl om om am) ?_)
  exact Dz (Al (Ai (Ar (S4 0 1 14 15 rfl rfl rfl rfl) (A2 (Gr (Rad rfl rfl) (Gm rfl (Be (B0 ((k+1),(List.set L1 ((k:Int)).toNat (-1)),(List.set nx1 ((k:Int)).toNat (0))) (by dsimp only;exact ⟨om,(by rw [List.length_set];exact hl1),(by rw [List.length_set];exact hn1),(lay_step hz om om)⟩)))))))))
 ·refine Bt (Aq (Aq (A9 (Ai (Ah (Gm rfl ?_))))))
  have hkn:k=L.length:=by omega
  subst hkn
  have hst:=LI.start (f:=f) (rs:=rowsL rs) hok (L0:=L1) om (fun j hj=>(hz j om).1)
  have hsL:(List.set L1 n.source.toNat 0).length=L1.length:=by rw [List.length_set]
  refine Gr (Bg rfl) (Gf fld339_2 rfl (Gl ty22 ?_))
  refine Gm rfl (Gr (Ba (α:=Int) (xs:=L1) Am ty3 rfl rfl Bo om om) (Ge0 (Ds (α:=Int) (xs:=L1) (e:=3) (new:=0) ty3 rfl rfl rfl om om am) ?_))
  refine Af (Av (Ah (Gm rfl (Ge1 (B1 (α:=Int) (cs:=[_]) (xs:=[n.source]) Am ty3 rfl rfl dc dc rfl rfl rfl rfl) fun ad1=>?_))))
  refine Ga rfl (Af (Ar (S2 6 0 rfl rfl) (A5 (Bv (σ:=(Option Addr)×Nat×(List Int)×(List Int)) (fun s=>([(0,.pointer (some ⟨b,0,none⟩)),(6,.slice s.1 s.2.2.1.length s.2.1)]:Env)) (fun s=>vc 3 (.slice s.1 s.2.2.1.length s.2.1) (s.2.2.1)::blk b [hw,ow,lw,nw,I64 (n.sink)] 339::vc 336 (hw) (hs)::vc 3 (lw) (s.2.2.2)::vc 3 (nw) (nx1)::I) (fun s=>(LI n f (rowsL rs) s.2.2.2 s.2.2.1 (-1) 0)∧(un s.2.2.2+s.2.2.1.length≤n.nodes.toNat)) (fun s=>un s.2.2.2+s.2.2.1.length) (ad1,1,[n.source],List.set L1 (n.source).toNat (0)) (show (LI n f (rowsL rs) (List.set L1 (n.source).toNat (0):List Int) ([n.source]:List Int) (-1) 0)∧(un (List.set L1 (n.source).toNat (0):List Int)+([n.source]:List Int).length≤n.nodes.toNat) from ⟨hst.1,(by have:=hst.2;simp only [List.length_cons,List.length_nil];omega)⟩) (Ab rfl (Ab (Db rfl (by first|rfl|simp)) Bp)) (show Fit κ _ (vc 3 (.slice (ad1) ([n.source]).length (1)) (([n.source]))::blk b [hw,ow,lw,nw,I64 (n.sink)] 339::vc 336 (hw) (hs)::vc 3 (lw) ((List.set L1 (n.source).toNat (0)))::vc 3 (nw) (nx1)::I) from A4) ?_))))
  rintro ⟨a,c,todo,L2⟩ hp
  dsimp only at hp ⊢
  obtain ⟨hI,hub⟩:=hp
  have hl2:=hI.len
  refine Av (Ah (Gm rfl (Gr (B3 Am rfl) (Gr (Br rfl rfl) (Af (A6 rfl (fun c41=>?_) (fun c41=>?_)))))))
  ·refine Az (Ai (Av (A5 (Av (Bk mixed (Bq (vc 3 (.slice a todo.length c) (todo)::blk b [hw,ow,lw,nw,I64 (n.sink)] 339::vc 336 (hw) (hs)::vc 3 (lw) (L2)::vc 3 (nw) (nx1)::I) 11 (Dr 0 rfl (Ac rfl) ?_)))))))
   have hx0:=hI.wait _ (Cf (xs:=todo) (i:=0) om om)
   refine Dr 1 rfl (Bg rfl) (Dr 2 rfl (Aa fld339_1 rfl) (Dr 3 rfl (As ty79) ?_))
   refine Dr 4 rfl (Ac rfl) (Dr 5 rfl (Ba (α:=Int) (xs:=todo) Am ty3 rfl rfl Bo om om) (Dr 6 rfl (Cb (xs:=todo) ty3 rfl Bo om om) (Dr 7 rfl (Ba (α:=Row) (xs:=rs) B8 ty22 rfl rfl (Bl ho) om om) (Dr 8 rfl (Ex (α:=Row) (xs:=rs) (u:= .slice (at_ rs (at_ todo 0)).a (at_ rs (at_ todo 0)).xs.length (at_ rs (at_ todo 0)).c) ty22 rfl (Bl ho) om om rfl) (Dr 9 rfl (B3 Am rfl) (Dr 10 rfl (Ac rfl) (Dz (Ai (Ar (S5 54 53 52 0 6 rfl rfl rfl rfl rfl) (A5 (Bv (σ:=Nat×(Option Addr)×Nat×(List Int)×(List Int)) (fun s=>([(0,.pointer (some ⟨b,0,none⟩)),(6,.slice s.2.1 s.2.2.2.1.length s.2.2.1),(52,.slice (at_ rs (at_ todo 0)).a (at_ rs (at_ todo 0)).xs.length (at_ rs (at_ todo 0)).c),(53,I64 ((((at_ rs (at_ todo 0)).xs.length:Nat):Int))),(54,I64 (((s.1:Nat):Int)))]:Env)) (fun s=>vc 3 (.slice s.2.1 s.2.2.2.1.length s.2.2.1) (s.2.2.2.1)::blk b [hw,ow,lw,nw,I64 (n.sink)] 339::vc 336 (hw) (hs)::vc 3 (lw) (s.2.2.2.2)::vc 3 (nw) (nx1)::I) (fun s=>(s.1≤(at_ rs (at_ todo 0)).xs.length)∧(0<s.2.2.2.1.length)∧(at_ s.2.2.2.1 0=(at_ todo 0))∧(LI n f (rowsL rs) s.2.2.2.2 (s.2.2.2.1.drop 1) (at_ todo 0) s.1)∧(un s.2.2.2.2+s.2.2.2.1.length=un L2+todo.length)) (fun s=>(at_ rs (at_ todo 0)).xs.length - s.1) (0,a,c,todo,L2) (show ((0:Nat)≤(at_ rs (at_ todo 0)).xs.length)∧(0<(todo:List Int).length)∧(at_ (todo:List Int) 0=(at_ todo 0))∧(LI n f (rowsL rs) (L2:List Int) ((todo:List Int).drop 1) (at_ todo 0) (0:Nat))∧(un (L2:List Int)+(todo:List Int).length=un L2+todo.length) from ⟨om,om,rfl,(hI.next om),rfl⟩) (Ab rfl (Ab (Db rfl (by first|rfl|simp)) (Ab rfl (Ab rfl (Ab Ca Bp))))) (show Fit κ _ (vc 3 (.slice (a) (todo).length (c)) ((todo))::blk b [hw,ow,lw,nw,I64 (n.sink)] 339::vc 336 (hw) (hs)::vc 3 (lw) ((L2))::vc 3 (nw) (nx1)::I) from A4) ?_)))))))))))
   rintro ⟨q,a1,c1,w,L3⟩ hp
   dsimp only at hp ⊢
   obtain ⟨hq,hwl,hw0,hI1,hmu⟩:=hp
   refine W.pull (fun w hs=>(Cj (hrow (at_ todo 0) om om) A1).le w hs) fun hrm=>?_
   have hl3:=hI1.len
   have hcur:=hI1.cur hx0.1.1
   have hlw:at_ L3 (at_ w 0)+un L3<n.nodes:=by rw [hw0];exact (hI1.low _ hx0.1.1 hx0.1.2).2
   have hlw0:0≤at_ L3 (at_ w 0):=by rw [hw0];exact hcur.2
   refine Ah (Gr (A8 rfl rfl) (Af (Av (A6 rfl (fun c55=>?_) (fun c55=>?_)))))
   ·refine Az (Ai (Av (A5 (Ah (Gr (Ba (α:=Int) (xs:=(at_ rs (at_ todo 0)).xs) Am ty3 rfl rfl (Cj (hrow (at_ todo 0) om om) A1) om om) (Gr (Cb (xs:=(at_ rs (at_ todo 0)).xs) ty3 rfl (Cj (hrow (at_ todo 0) om om) A1) om om) ?_))))))
    have hm:=hr.row hx0.1.1 hx0.1.2 (j:=(q:Int)) om om
    have hg:=hh.get _ hm.1
    have hfo:=from_ok hok hm.1
    have hi2:0≤(at_ (at_ rs (at_ todo 0)).xs (q:Int))∧(at_ (at_ rs (at_ todo 0)).xs (q:Int))<2*n.arcs.length:=hm.1
    have hd:at_ L3 (at_ hs (at_ (at_ rs (at_ todo 0)).xs (q:Int))).dst=at_ L3 (toH n (at_ (at_ rs (at_ todo 0)).xs (q:Int))):=by rw [hg.2.1]
    refine Ga rfl (Af (Ah (Gm rfl (Gr (Bg rfl) (Gf fld339_0 rfl (Gl ty337 ?_))))))
    refine Gm rfl (Gr (Ba (α:=Half) (xs:=hs) B7 ty336 rfl rfl Bo om om) (Gr (Bs (α:=Half) (xs:=hs) ty336 rfl Bo om om) (Ge1 (Ax ty336 rfl) fun b2=>Ge0 (Es4_4 ty336) ?_)))
    refine Af (Ar (S6 9 0 6 52 53 54 rfl rfl rfl rfl rfl rfl) (Av (Bk mixed (Bq (blk b2 [I64 ((at_ hs (at_ ((at_ rs (at_ todo 0)).xs) (q:Int))).frm),I64 ((at_ hs (at_ ((at_ rs (at_ todo 0)).xs) (q:Int))).dst),I64 ((at_ hs (at_ ((at_ rs (at_ todo 0)).xs) (q:Int))).cap),I64 ((at_ hs (at_ ((at_ rs (at_ todo 0)).xs) (q:Int))).left)] 336::vc 3 (.slice a1 w.length c1) (w)::blk b [hw,ow,lw,nw,I64 (n.sink)] 339::vc 336 (hw) (hs)::vc 3 (lw) (L3)::vc 3 (nw) (nx1)::I) 15 (Dr 0 rfl (Aa fld336_1 rfl) (Dr 1 rfl (As ty3) ?_))))))
    refine Dr 2 rfl (Br rfl rfl) (Dr 3 rfl (Ac rfl) (Dt (d:=68) rfl (fun g68=>?_) (fun g68=>?_)))
    ·refine Dro 4 rfl (Ac rfl) (Dro 5 rfl (Bg rfl) (Dro 6 rfl (Aa fld339_2 rfl) (Dro 7 rfl (As ty22) ?_)))
     refine Dro 8 rfl (Aa fld336_0 rfl) (Dro 9 rfl (Aa fld305_1 rfl) (Dro 10 rfl (As ty3) ?_))
     refine Dro 11 rfl (Ba (α:=Int) (xs:=L3) Am ty3 rfl rfl Bo om om) (Dro 12 rfl (Cb (xs:=L3) ty3 rfl Bo om om) (Dro 13 rfl (A8 rfl rfl) (Dr 14 rfl (Ao rfl rfl) (Dz (Ai (Ar (S7 79 9 0 6 52 53 54 rfl rfl rfl rfl rfl rfl rfl) (A6 rfl (fun c79=>?_) (fun c79=>?_))))))))
     ·refine Av (Bk mixed (Bq (blk b2 [I64 ((at_ hs (at_ ((at_ rs (at_ todo 0)).xs) (q:Int))).frm),I64 ((at_ hs (at_ ((at_ rs (at_ todo 0)).xs) (q:Int))).dst),I64 ((at_ hs (at_ ((at_ rs (at_ todo 0)).xs) (q:Int))).cap),I64 ((at_ hs (at_ ((at_ rs (at_ todo 0)).xs) (q:Int))).left)] 336::vc 3 (.slice a1 w.length c1) (w)::blk b [hw,ow,lw,nw,I64 (n.sink)] 339::vc 336 (hw) (hs)::vc 3 (lw) (L3)::vc 3 (nw) (nx1)::I) 18 (Dr 0 rfl (Ac rfl) (Dr 1 rfl (Bg rfl) (Dr 2 rfl (Aa fld339_2 rfl) (Dr 3 rfl (As ty22) ?_))))))
      refine Dr 4 rfl (Aa fld336_0 rfl) (Dr 5 rfl (Aa fld305_1 rfl) (Dr 6 rfl (As ty3) ?_))
      refine Dr 7 rfl (Ac rfl) (Dr 8 rfl (Bg rfl) (Dr 9 rfl (Aa fld339_2 rfl) (Dr 10 rfl (As ty22) ?_)))
      refine Dr 11 rfl (Ac rfl) (Dr 12 rfl (Ba (α:=Int) (xs:=w) Am ty3 rfl rfl Bo om om) (Dr 13 rfl (Cb (xs:=w) ty3 rfl Bo om om) (Dr 14 rfl (Ba (α:=Int) (xs:=L3) Am ty3 rfl rfl Bo om om) (Dr 15 rfl (Cb (xs:=L3) ty3 rfl Bo om om) (Dr 16 rfl (Rad rfl rfl) (Dr 17 rfl (Ba (α:=Int) (xs:=L3) Am ty3 rfl rfl Bo om om) (Dh kr ?_)))))))
      refine Ae 18 rfl (Ds (α:=Int) (xs:=L3) (e:=3) (new:=(at_ L3 (at_ w 0))+1) ty3 rfl rfl rfl om om am) ?_
      rintro _ _ ⟨rfl,rfl⟩
      refine Di kr ?_
      refine Ai (Ar (S6 9 0 6 52 53 54 rfl rfl rfl rfl rfl rfl) (A2 (Gm rfl (Gf fld336_0 rfl (Gf fld305_1 rfl (Gl ty3 ?_))))))
      refine Ge1 (B1 (α:=Int) (cs:=[_]) (xs:=[(at_ hs (at_ ((at_ rs (at_ todo 0)).xs) (q:Int))).dst]) Am ty3 rfl rfl dc dc rfl rfl rfl rfl) fun ad3=>?_
      refine Ge2 (B2 (α:=Int) (e:=3) (xs:=w) (ys:=([(at_ hs (at_ ((at_ rs (at_ todo 0)).xs) (q:Int))).dst]:List Int)) Am ty3 rfl rfl rfl mm Bo lcn dc rfl (fun _ _=>am)) fun ad4 cp5=>?_
      exact Ga rfl (Be (Al (Ai (A2 (Gr (Rad rfl rfl) (Gm rfl (Be (B0 ((q+1),(ad4),(cp5),(w++([(at_ hs (at_ ((at_ rs (at_ todo 0)).xs) (q:Int))).dst]:List Int)),(List.set L3 ((at_ hs (at_ ((at_ rs (at_ todo 0)).xs) (q:Int))).dst).toNat ((at_ L3 (at_ w 0))+1))) (by dsimp only;exact ⟨om,(by first|exact hwl|(rw [List.length_append];omega)),(by first|exact hw0|(rw [at_zero_append hwl];exact hw0)),(by first|exact hI1.inc1 (fun h=>by omega)|(rw [hw0,hg.2.1,drop_one_append hwl];exact (hI1.put1 hok hx0.1.1 hm om om).1)),(by first|exact hmu|(rw [hw0,hg.2.1,List.length_append];have:=(hI1.put1 hok hx0.1.1 hm om om).2;simp only [List.length_cons,List.length_nil];omega))⟩)))))))))
     ·exact Az (Al (Ai (A2 (Gr (Rad rfl rfl) (Gm rfl (Be (B0 ((q+1),(a1),(c1),(w),(L3)) (by dsimp only;exact ⟨om,(by first|exact hwl|(rw [List.length_append];omega)),(by first|exact hw0|(rw [at_zero_append hwl];exact hw0)),(by first|exact hI1.inc1 (fun h=>by omega)|(rw [hw0,hg.2.1,drop_one_append hwl];exact (hI1.put1 hok hx0.1.1 hm om om).1)),(by first|exact hmu|(rw [hw0,hg.2.1,List.length_append];have:=(hI1.put1 hok hx0.1.1 hm om om).2;simp only [List.length_cons,List.length_nil];omega))⟩))))))))
    ·exact Dpo 4 rfl (Dpo 5 rfl (Dpo 6 rfl (Dpo 7 rfl (Dpo 8 rfl (Dpo 9 rfl (Dpo 10 rfl (Dpo 11 rfl (Dpo 12 rfl (Dpo 13 rfl (Dr 14 rfl (Ak rfl rfl) (Dz (Ai (Ar (S7 79 9 0 6 52 53 54 rfl rfl rfl rfl rfl rfl rfl) (Cw rfl (Az (Al (Ai (A2 (Gr (Rad rfl rfl) (Gm rfl (Be (B0 ((q+1),(a1),(c1),(w),(L3)) (by dsimp only;exact ⟨om,(by first|exact hwl|(rw [List.length_append];omega)),(by first|exact hw0|(rw [at_zero_append hwl];exact hw0)),(by first|exact hI1.inc1 (fun h=>by omega)|(rw [hw0,hg.2.1,drop_one_append hwl];exact (hI1.put1 hok hx0.1.1 hm om om).1)),(by first|exact hmu|(rw [hw0,hg.2.1,List.length_append];have:=(hI1.put1 hok hx0.1.1 hm om om).2;simp only [List.length_cons,List.length_nil];omega))⟩)))))))))))))))))))))))
   ·refine Bt (Aq (Aq (A9 (Al (Ai (A2 (Gm rfl (Gr (Runs.lo (α:=Int) (xs:=w) (l:=1) Am ty3 rfl rfl om Bo om) (G.fit (J:=vc 3 (.slice (adrop a1 c1 1 (Enc.sz Int)) (List.drop 1 w).length (c1 - 1)) (List.drop 1 w)::blk b [hw,ow,lw,nw,I64 (n.sink)] 339::vc 336 (hw) (hs)::vc 3 (lw) (L3)::vc 3 (nw) (nx1)::I) (Fit.upd am (reslice (l:=1) om)) ?_)))))))))
    exact Ga rfl (Be (B0 (((adrop a1 c1 1 (Enc.sz Int))),((c1 - 1)),(List.drop 1 w),(L3)) (by dsimp only;exact ⟨(hI1.over1 om),(by rw [List.length_drop];omega)⟩) (hlt:=by (try dsimp only);exact (by rw [List.length_drop];omega))))
  ·refine Bt (Aq (Aq (A9 (Ai (Av (Bk mixed (Bq (vc 3 (.slice a todo.length c) (todo)::blk b [hw,ow,lw,nw,I64 (n.sink)] 339::vc 336 (hw) (hs)::vc 3 (lw) (L2)::vc 3 (nw) (nx1)::I) 12 (Dr 0 rfl (Ac rfl) (Dr 1 rfl (Bg rfl) (Dr 2 rfl (Aa fld339_2 rfl) (Dr 3 rfl (As ty22) ?_)))))))))))
   refine Dr 4 rfl (Ac rfl) (Dr 5 rfl (Bg rfl) (Dr 6 rfl (Aa fld339_4 rfl) (Dr 7 rfl (As ty3) ?_)))
   exact Dr 8 rfl (Ba (α:=Int) (xs:=L2) Am ty3 rfl rfl Bo om om) (Dr 9 rfl (Cb (xs:=L2) ty3 rfl Bo om om) (Dr 10 rfl (B5 rfl rfl) (Dr 11 rfl (Bd rfl) (Dz (Ai (Ar (S1 4 rfl) (Ay (A0 rfl rfl (blk b [hw,ow,lw,nw,I64 (n.sink)] 339::vc 336 (hw) (hs)::vc 3 (lw) (L2)::vc 3 (nw) (nx1)::I) A4 ⟨L2,nx1,rfl,⟨hI.done hok hr om,by omega,fun z h0 h1=>at_all (p:=fun z=>at_ nx1 z=0) (fun j hj=>(hz j hj).2) h0 om⟩,rfl⟩))))))))
theorem PushR.sink{n:Net}{rs:List (List Int)}{L f nx:List Int}{v:Int}(e:v=n.sink)(hl:f.length=n.arcs.length)(hc:CapF n f)(hd:Dead n rs L f nx)(hx:∀z:Int,0≤z→z<n.nodes→0≤at_ nx z)(d:Int):PushR n rs L v d f nx f nx:=
 ⟨hl,hc,fun z=>by rw [e];omega,Less.refl _ _ _,fun _ _ _=>rfl,hd,rfl,hx,fun _ _ _ _ _=>rfl,fun _=>rfl⟩
def PushC(κ:Ctx)(I:List Item)(n:Net)(rs:List Row)(b:Nat)(hw ow lw nw:Value)(L:List Int)(lv:Int):Prop:=
 ∀(v most:Int) (f nx:List Int) (hs:List Half),at_ L v=lv→0≤v→v<n.nodes→0≤at_ L v→1≤most→most≤4611686018427387904→HOk n f hs→Dead n (rowsL rs) L f nx→(∀z:Int,0≤z→z<n.nodes→0≤at_ nx z)→((nx.length:Nat):Int)=n.nodes→CallS Tryz.prog κ 342 [.pointer (some ⟨b,0,none⟩),I64 v,I64 most] (blk b [hw,ow,lw,nw,I64 (n.sink)] 339::vc 336 (hw) (hs)::vc 3 (lw) (L)::vc 3 (nw) (nx)::I) (fun r J=>∃(d:Int) (f':List Int) (hs':List Half) (nx':List Int),r=I64 d∧((0≤d∧d≤most)∧PushR n (rowsL rs) L v d f nx f' nx'∧HOk n f' hs'∧(d<most→¬Adm n f' L v))∧J=blk b [hw,ow,lw,nw,I64 (n.sink)] 339::vc 336 (hw) (hs')::vc 3 (lw) (L)::vc 3 (nw) (nx')::I)
theorem Push_step{κ:Ctx}{I:List Item}{n:Net}{f:List Int}{hs:List Half}{rs:List Row}{b:Nat}{hw ow lw nw:Value}{L nx:List Int}{v most lv:Int}(hok:n.Ok)(hr:ROk n (rowsL rs))(ho:Sl κ I ow rs)(hrow:∀i:Int,0≤i→i<rs.length→Sl κ I (.slice (at_ rs i).a (at_ rs i).xs.length (at_ rs i).c) (at_ rs i).xs)(hL:(L.length:Int)=n.nodes)(hlow:∀z:Int,0≤z→z<n.nodes→ -1≤at_ L z∧at_ L z<n.nodes)(ih:PushC κ I n rs b hw ow lw nw L (lv+1))(hlv:at_ L v=lv)(hv0:0≤v)(hv1:v<n.nodes)(hLv:0≤at_ L v)(hm0:1≤most)(hm1:most≤4611686018427387904)(hh:HOk n f hs)(hD:Dead n (rowsL rs) L f nx)(hx:∀z:Int,0≤z→z<n.nodes→0≤at_ nx z)(hN:((nx.length:Nat):Int)=n.nodes) :
    CallS Tryz.prog κ 342 [.pointer (some ⟨b,0,none⟩),I64 (v),I64 (most)] (blk b [hw,ow,lw,nw,I64 (n.sink)] 339::vc 336 (hw) (hs)::vc 3 (lw) (L)::vc 3 (nw) (nx)::I) (fun r J=>∃(d:Int) (f':List Int) (hs':List Half) (nx':List Int),r=I64 d∧((0≤d∧d≤most)∧PushR n (rowsL rs) L v d f nx f' nx'∧HOk n f' hs'∧(d<most→¬Adm n f' L v))∧J=blk b [hw,ow,lw,nw,I64 (n.sink)] 339::vc 336 (hw) (hs')::vc 3 (lw) (L)::vc 3 (nw) (nx')::I):=by
 have hlim:=hok.lim
 have hsrc:=hok.src
 have hsnk:=hok.snk
 have hrl:=hr.rl
 have hLw:=(hlow v hv0 hv1).2
 refine B4 (fun w hs=>(Cj (hrow v om om) (by repeat (first|exact C9 _|apply Fit.tail|exact Fit.appR _ _|apply Fit.appL))).le w hs) fun hrm=>?_
 refine Ce3 Tryz.func342 rfl rfl ?_
 refine Ah (Ga rfl (Af (Av (Ah (Gm rfl (Gm rfl (Gr (Bg rfl) (Gf fld339_4 rfl (Gl ty3 ?_)))))))))
 refine Gr (Bi rfl rfl) (Af (A6 rfl (fun c16=>?_) (fun c16=>?_)))
 ·exact Ah (Gm rfl (Ga rfl (Af (Ay (Ad (A0 rfl rfl (blk b [hw,ow,lw,nw,I64 (n.sink)] 339::vc 336 (hw) (hs)::vc 3 (lw) (L)::vc 3 (nw) (nx)::I) A4 ⟨most,f,hs,nx,rfl,⟨⟨by omega,by omega⟩,PushR.sink c16 hh.flen hh.cap hD hx most,hh,fun h=>by omega⟩,rfl⟩))))))
 ·refine Az (Ai (Ah (Ga rfl (Af (Av (A5 (Bv (σ:=Int×(List Int)×(List Half)×(List Int)) (fun s=>([(0,.pointer (some ⟨b,0,none⟩)),(1,I64 (v)),(2,I64 (most)),(7,I64 (s.1))]:Env)) (fun s=>blk b [hw,ow,lw,nw,I64 (n.sink)] 339::vc 336 (hw) (s.2.2.1)::vc 3 (lw) (L)::vc 3 (nw) (s.2.2.2)::I) (fun s=>(0≤s.1)∧(s.1≤most)∧(PushR n (rowsL rs) L v s.1 f nx s.2.1 s.2.2.2)∧(HOk n s.2.1 s.2.2.1)) (fun s=>((at_ rs v).xs.length - at_ s.2.2.2 v).toNat) (0,f,hs,nx) (show (0≤(0:Int))∧((0:Int)≤most)∧(PushR n (rowsL rs) L v (0:Int) f nx (f:List Int) (nx:List Int))∧(HOk n (f:List Int) (hs:List Half)) from ⟨om,om,(PushR.start hh.flen hh.cap hD hx v),hh⟩) (Ab rfl (Ab rfl (Ab rfl (Ab Ca Bp)))) (show Fit κ _ (blk b [hw,ow,lw,nw,I64 (n.sink)] 339::vc 336 (hw) ((hs))::vc 3 (lw) (L)::vc 3 (nw) ((nx))::I) from A4) ?_)))))))
  rintro ⟨sent,f1,hs1,nx1⟩ hp
  dsimp only at hp ⊢
  obtain ⟨hs0,hs9,hP,hH1⟩:=hp
  have hnl:=hP.nlen
  have hnx0:=hP.nge v hv0 hv1
  have hhl:=hH1.len
  refine Av (Av (Bk mixed (Bq (blk b [hw,ow,lw,nw,I64 (n.sink)] 339::vc 336 (hw) (hs1)::vc 3 (lw) (L)::vc 3 (nw) (nx1)::I) 21 (Dr 0 rfl (Ac rfl) (Dr 1 rfl (Bg rfl) (Dr 2 rfl (Aa fld339_3 rfl) (Dr 3 rfl (As ty22) ?_)))))))
  refine Dr 4 rfl (Ac rfl) (Dr 5 rfl (Ba (α:=Int) (xs:=nx1) Am ty3 rfl rfl Bo om om) (Dr 6 rfl (Cb (xs:=nx1) ty3 rfl Bo om om) (Dr 7 rfl (Ac rfl) (Dr 8 rfl (Bg rfl) (Dr 9 rfl (Aa fld339_1 rfl) (Dr 10 rfl (As ty79) ?_))))))
  refine Dr 11 rfl (Ac rfl) (Dr 12 rfl (Ba (α:=Row) (xs:=rs) B8 ty22 rfl rfl (Bl ho) om om) (Dr 13 rfl (Ex (α:=Row) (xs:=rs) (u:= .slice (at_ rs v).a (at_ rs v).xs.length (at_ rs v).c) ty22 rfl (Bl ho) om om rfl) (Dr 14 rfl (B3 Am rfl) (Dr 15 rfl (A8 rfl rfl) (Dr 16 rfl (Ac rfl) (Dt (d:=34) rfl (fun g34=>?_) (fun g34=>?_)))))))
  ·refine Dro 17 rfl (Ac rfl) (Dro 18 rfl (Ac rfl) (Dro 19 rfl (A8 rfl rfl) (Dr 20 rfl (Ao rfl rfl) (Dz (Ai (Ar (S5 38 0 1 2 7 rfl rfl rfl rfl rfl) (A6 rfl (fun c38=>?_) (fun c38=>?_))))))))
   ·refine Az (Ai (Ek (σ:=Int×(List Int)×(List Half)×(List Int)) (fun s=>([(0,.pointer (some ⟨b,0,none⟩)),(1,I64 (v)),(2,I64 (most)),(7,I64 (s.1))]:Env)) (fun s=>blk b [hw,ow,lw,nw,I64 (n.sink)] 339::vc 336 (hw) (s.2.2.1)::vc 3 (lw) (L)::vc 3 (nw) (s.2.2.2)::I) (fun s=>(0≤s.1∧s.1≤most)∧(PushR n (rowsL rs) L v s.1 f nx s.2.1 s.2.2.2)∧(HOk n s.2.1 s.2.2.1)∧(at_ s.2.2.2 v=at_ nx1 v)∧(¬(0<leftH n s.2.1 (at_ (at_ rs v).xs (at_ s.2.2.2 v))∧at_ L (toH n (at_ (at_ rs v).xs (at_ s.2.2.2 v)))=at_ L v+1∧Adm n s.2.1 L (toH n (at_ (at_ rs v).xs (at_ s.2.2.2 v)))))) ?_ ?_))
    ·refine A5 (Av (Bk mixed (Bq (blk b [hw,ow,lw,nw,I64 (n.sink)] 339::vc 336 (hw) (hs1)::vc 3 (lw) (L)::vc 3 (nw) (nx1)::I) 17 (Dr 0 rfl (Ac rfl) (Dr 1 rfl (Bg rfl) (Dr 2 rfl (Aa fld339_1 rfl) (Dr 3 rfl (As ty79) ?_)))))))
     refine Dr 4 rfl (Ac rfl) (Dr 5 rfl (Ba (α:=Row) (xs:=rs) B8 ty22 rfl rfl (Bl ho) om om) (Dr 6 rfl (Ex (α:=Row) (xs:=rs) (u:= .slice (at_ rs v).a (at_ rs v).xs.length (at_ rs v).c) ty22 rfl (Bl ho) om om rfl) (Dr 7 rfl (Ac rfl) (Dr 8 rfl (Bg rfl) (Dr 9 rfl (Aa fld339_3 rfl) (Dr 10 rfl (As ty22) ?_))))))
     refine Dr 11 rfl (Ac rfl) (Dr 12 rfl (Ba (α:=Int) (xs:=nx1) Am ty3 rfl rfl Bo om om) ?_)
     have hm:=hr.row hv0 hv1 (j:=at_ nx1 v) om om
     have hg:=hH1.get _ hm.1
     have hfo:=from_ok hok hm.1
     have hi2:0≤(at_ (at_ rs v).xs (at_ nx1 v))∧(at_ (at_ rs v).xs (at_ nx1 v))<2*n.arcs.length:=hm.1
     have hlk:=left_ok hH1.cap hm.1
     have hak:=(arc_ok hok hm.1.half.1 hm.1.half.2).2.2.2
     have hd:at_ L (at_ hs1 (at_ (at_ rs v).xs (at_ nx1 v))).dst=at_ L (toH n (at_ (at_ rs v).xs (at_ nx1 v))):=by rw [hg.2.1]
     refine Dr 13 rfl (Cb (xs:=nx1) ty3 rfl Bo om om) (Dr 14 rfl (Ba (α:=Int) (xs:=(at_ rs v).xs) Am ty3 rfl rfl (Cj (hrow v om om) A1) om om) (Dr 15 rfl (Cb (xs:=(at_ rs v).xs) ty3 rfl (Cj (hrow v om om) A1) om om) (Dr 16 rfl (Bd rfl) (Dz (Ai (Ar (S5 8 0 1 2 7 rfl rfl rfl rfl rfl) (Ah (Gm rfl (Gr (Bg rfl) (Gf fld339_0 rfl (Gl ty337 ?_)))))))))))
     refine Gm rfl (Gr (Ba (α:=Half) (xs:=hs1) B7 ty336 rfl rfl Bo om om) (Gr (Bs (α:=Half) (xs:=hs1) ty336 rfl Bo om om) (Ge1 (Ax ty336 rfl) fun b1=>Ge0 (Es4_4 ty336) ?_)))
     refine Af (Av (Av (Bk mixed (Bq (blk b1 [I64 ((at_ hs1 (at_ ((at_ rs v).xs) (at_ nx1 v))).frm),I64 ((at_ hs1 (at_ ((at_ rs v).xs) (at_ nx1 v))).dst),I64 ((at_ hs1 (at_ ((at_ rs v).xs) (at_ nx1 v))).cap),I64 ((at_ hs1 (at_ ((at_ rs v).xs) (at_ nx1 v))).left)] 336::blk b [hw,ow,lw,nw,I64 (n.sink)] 339::vc 336 (hw) (hs1)::vc 3 (lw) (L)::vc 3 (nw) (nx1)::I) 23 (Dr 0 rfl (Aa fld336_1 rfl) (Dr 1 rfl (As ty3) ?_))))))
     refine Dr 2 rfl (Bi rfl rfl) (Dr 3 rfl (Ac rfl) (Dt (d:=74) rfl (fun g74=>?_) (fun g74=>?_)))
     ·exact Dpo 4 rfl (Dpo 5 rfl (Dpo 6 rfl (Dpo 7 rfl (Dpo 8 rfl (Dpo 9 rfl (Dpo 10 rfl (Dpo 11 rfl (Dpo 12 rfl (Dpo 13 rfl (Dpo 14 rfl (Dpo 15 rfl (Dpo 16 rfl (Dpo 17 rfl (Dpo 18 rfl (Dpo 19 rfl (Dpo 20 rfl (Dpo 21 rfl (Dr 22 rfl (Ao rfl rfl) (Dz (Ai (Ar (S7 93 9 8 0 1 2 7 rfl rfl rfl rfl rfl rfl rfl) (B6 rfl (Bt (Aq (A9 (Cl ((sent),(f1),(hs1),(nx1)) (by dsimp only;exact ⟨om,(by first|exact hP|exact hput.1),(by first|exact hH1|exact hHp),(by first|rfl|exact hput.2.1),(by first|(rintro ⟨a,b,c⟩;omega)|(rw [hput.2.1];have hused2:=hused c135;rw [hm.2] at hused2;exact hused2))⟩)))))))))))))))))))))))))))
     ·refine Dro 4 rfl (Ac rfl) (Dro 5 rfl (Bg rfl) (Dro 6 rfl (Aa fld339_2 rfl) (Dro 7 rfl (As ty22) ?_)))
      refine Dro 8 rfl (Aa fld336_0 rfl) (Dro 9 rfl (Aa fld305_1 rfl) (Dro 10 rfl (As ty3) ?_))
      refine Dro 11 rfl (Ba (α:=Int) (xs:=L) Am ty3 rfl rfl Bo om om) (Dro 12 rfl (Cb (xs:=L) ty3 rfl Bo om om) (Dro 13 rfl (Ac rfl) (Dro 14 rfl (Bg rfl) (Dro 15 rfl (Aa fld339_2 rfl) (Dro 16 rfl (As ty22) ?_)))))
      refine Dro 17 rfl (Ac rfl) (Dro 18 rfl (Ba (α:=Int) (xs:=L) Am ty3 rfl rfl Bo om om) (Dro 19 rfl (Cb (xs:=L) ty3 rfl Bo om om) (Dro 20 rfl (Rad rfl rfl) (Dro 21 rfl (Bh rfl rfl) (Dr 22 rfl (Ak rfl rfl) (Dz (Ai (Ar (S7 93 9 8 0 1 2 7 rfl rfl rfl rfl rfl rfl rfl) (A6 rfl (fun c93=>?_) (fun c93=>?_))))))))))
      ·exact Bt (Aq (A9 (Cl ((sent),(f1),(hs1),(nx1)) (by dsimp only;exact ⟨om,(by first|exact hP|exact hput.1),(by first|exact hH1|exact hHp),(by first|rfl|exact hput.2.1),(by first|(rintro ⟨a,b,c⟩;omega)|(rw [hput.2.1];have hused2:=hused c135;rw [hm.2] at hused2;exact hused2))⟩))))
      ·refine Az (Ai (Ah (Gm rfl (Gf fld336_0 rfl (Gf fld305_1 rfl (Gl ty3 ?_))))))
       refine Gm rfl (Gm rfl (Gr (Rsu rfl rfl) (Gf fld336_1 rfl (Gl ty3 ?_))))
       refine Gr (Runs.min rfl rfl) (G.e (Aj call342 rfl rfl (Cq (J:=blk b [hw,ow,lw,nw,I64 (n.sink)] 339::vc 336 (hw) (hs1)::vc 3 (lw) (L)::vc 3 (nw) (nx1)::I) A4 (ih (at_ hs1 (at_ (at_ rs v).xs (at_ nx1 v))).dst (if ((at_ hs1 (at_ ((at_ rs v).xs) (at_ nx1 v))).left)<(most - sent) then ((at_ hs1 (at_ ((at_ rs v).xs) (at_ nx1 v))).left) else (most - sent)) f1 nx1 hs1 om om om om (by split<;>omega) (by split<;>omega) hH1 hP.dead hP.nge om))) ?_)
       rintro _ _ ⟨_,_,⟨d2,f3,hs4,nx5,rfl,⟨hbd2,hPd2,hHd2,hAd2⟩,rfl⟩,rfl,rfl⟩
       show G Tryz.prog κ _ _ _ _ ([(104,I64 (d2)),(103,I64 (if ((at_ hs1 (at_ ((at_ rs v).xs) (at_ nx1 v))).left)<(most - sent) then ((at_ hs1 (at_ ((at_ rs v).xs) (at_ nx1 v))).left) else (most - sent))),(102,I64 ((at_ hs1 (at_ ((at_ rs v).xs) (at_ nx1 v))).left)),(101,.pointer (some ⟨b1,3,none⟩)),(100,I64 (most - sent)),(99,I64 (sent)),(98,I64 (most)),(97,I64 ((at_ hs1 (at_ ((at_ rs v).xs) (at_ nx1 v))).dst)),(96,.pointer (some ⟨b1,1,none⟩)),(95,.pointer (some ⟨b1,0,none⟩)),(94,.pointer (some ⟨b,0,none⟩)),(93,.bool (decide ((at_ L ((at_ hs1 (at_ ((at_ rs v).xs) (at_ nx1 v))).dst))≠((at_ L v)+1)))),(9,.pointer (some ⟨b1,0,none⟩)),(8,I64 (at_ ((at_ rs v).xs) (at_ nx1 v))),(0,.pointer (some ⟨b,0,none⟩)),(1,I64 (v)),(2,I64 (most)),(7,I64 (sent))]:Env) (blk b [hw,ow,lw,nw,I64 (n.sink)] 339::vc 336 (hw) (hs4)::vc 3 (lw) (L)::vc 3 (nw) (nx5)::I)
       rw [hg.2.1] at hPd2 hAd2
       have hL1:at_ L (toH n (at_ (at_ rs v).xs (at_ nx1 v)))=at_ L v+1:=by omega
       have hle:d2≤(if (at_ hs1 (at_ (at_ rs v).xs (at_ nx1 v))).left<most - sent then (at_ hs1 (at_ (at_ rs v).xs (at_ nx1 v))).left else most - sent):=hbd2.2
       have hle2:d2≤(at_ hs1 (at_ (at_ rs v).xs (at_ nx1 v))).left∧d2≤most - sent:=by revert hle;split<;>omega
       have hput:=hP.put hok hr hm.1 hm.2 hL1 hs0 hbd2.1 om hPd2
       have hg2:=hHd2.get _ hm.1
       have hg3:=hHd2.get _ hm.1.mate
       have hls:=left_sum n f3 (at_ (at_ rs v).xs (at_ nx1 v))
       have hhl2:=hHd2.len
       have hlk2:=left_ok hHd2.cap hm.1
       have hlk3:=left_ok hHd2.cap hm.1.mate
       have hmi:0≤mateH (at_ (at_ rs v).xs (at_ nx1 v))∧mateH (at_ (at_ rs v).xs (at_ nx1 v))<2*n.arcs.length:=hm.1.mate
       have hmh:=mate_half (at_ (at_ rs v).xs (at_ nx1 v))
       rw [hmh] at hlk3
       have hused:=fun (hne:¬sent+d2=most)=>PushR.used (e:=d2) (m:=(if (at_ hs1 (at_ (at_ rs v).xs (at_ nx1 v))).left<most - sent then (at_ hs1 (at_ (at_ rs v).xs (at_ nx1 v))).left else most - sent)) hm.1 (Decidable.byCases (fun h:d2<(if (at_ hs1 (at_ (at_ rs v).xs (at_ nx1 v))).left<most - sent then (at_ hs1 (at_ (at_ rs v).xs (at_ nx1 v))).left else most - sent)=> .inl h) (fun h=> .inr (by have hls2:=hput.2.2;revert h;split<;>omega))) (fun h=>hAd2 h) hPd2.len hbd2.1 (by rw [hm.2];exact hL1)
       refine Ga rfl (Af (Ar (S6 10 8 0 1 2 7 rfl rfl rfl rfl rfl rfl) (Ah (Gm rfl (Gr (Bg rfl) (Gf fld339_0 rfl (Gl ty337 ?_)))))))
       refine Gm rfl (Gr (Ba (α:=Half) (xs:=hs4) B7 ty336 rfl rfl Bo om om) (Gr (C8 (α:=Half) (xs:=hs4) fld336_1 rfl Bo om) (Gr (De (α:=Half) (xs:=hs4) (u:=I64 ((at_ hs4 (at_ ((at_ rs v).xs) (at_ nx1 v))).left)) ty3 rfl Bo om om rfl) (Gm rfl (Gr (Rsu rfl rfl) (Gr (Ba (α:=Half) (xs:=hs4) B7 ty336 rfl rfl Bo om om) (Gr (C8 (α:=Half) (xs:=hs4) fld336_1 rfl Bo om) (Ge0 (Eff.setf (α:=Half) (xs:=hs4) (e:=336) (new:={at_ hs4 (at_ ((at_ rs v).xs) (at_ nx1 v)) with left:=((at_ hs4 (at_ ((at_ rs v).xs) (at_ nx1 v))).left) - d2}) (j:=3) ty3 rfl rfl rfl rfl dc rfl om om am) ?_))))))))
       have hmt:at_ (List.set hs4 (at_ ((at_ rs v).xs) (at_ nx1 v)).toNat ({at_ hs4 (at_ ((at_ rs v).xs) (at_ nx1 v)) with left:=((at_ hs4 (at_ ((at_ rs v).xs) (at_ nx1 v))).left) - d2})) (mateH (at_ (at_ rs v).xs (at_ nx1 v)))=at_ hs4 (mateH (at_ (at_ rs v).xs (at_ nx1 v))):=by rw [Dj hs4 _ _ _ om om om,if_neg (fun e=>mate_ne _ e.symm)]
       have hmt1:(at_ (List.set hs4 (at_ ((at_ rs v).xs) (at_ nx1 v)).toNat ({at_ hs4 (at_ ((at_ rs v).xs) (at_ nx1 v)) with left:=((at_ hs4 (at_ ((at_ rs v).xs) (at_ nx1 v))).left) - d2})) (mateH (at_ (at_ rs v).xs (at_ nx1 v)))).left=leftH n f3 (mateH (at_ (at_ rs v).xs (at_ nx1 v))):=by rw [hmt];exact hg3.2.2
       have hsl:(List.set hs4 (at_ ((at_ rs v).xs) (at_ nx1 v)).toNat ({at_ hs4 (at_ ((at_ rs v).xs) (at_ nx1 v)) with left:=((at_ hs4 (at_ ((at_ rs v).xs) (at_ nx1 v))).left) - d2})).length=hs4.length:=List.length_set
       refine Af (Ar (S6 10 8 0 1 2 7 rfl rfl rfl rfl rfl rfl) (Ah (Gm rfl (Gr (Bg rfl) (Gf fld339_0 rfl (Gl ty337 ?_))))))
       refine Gm rfl (Gr ((xor_mate (i:=at_ ((at_ rs v).xs) (at_ nx1 v)) om om)▸Runs.xorw rfl rfl) (Gr (Ba (α:=Half) (xs:=List.set hs4 (at_ ((at_ rs v).xs) (at_ nx1 v)).toNat ({at_ hs4 (at_ ((at_ rs v).xs) (at_ nx1 v)) with left:=((at_ hs4 (at_ ((at_ rs v).xs) (at_ nx1 v))).left) - d2})) B7 ty336 rfl rfl Bo om om) (Gr (C8 (α:=Half) (xs:=List.set hs4 (at_ ((at_ rs v).xs) (at_ nx1 v)).toNat ({at_ hs4 (at_ ((at_ rs v).xs) (at_ nx1 v)) with left:=((at_ hs4 (at_ ((at_ rs v).xs) (at_ nx1 v))).left) - d2})) fld336_1 rfl Bo om) (Gr (De (α:=Half) (xs:=List.set hs4 (at_ ((at_ rs v).xs) (at_ nx1 v)).toNat ({at_ hs4 (at_ ((at_ rs v).xs) (at_ nx1 v)) with left:=((at_ hs4 (at_ ((at_ rs v).xs) (at_ nx1 v))).left) - d2})) (u:=I64 ((at_ (List.set hs4 (at_ ((at_ rs v).xs) (at_ nx1 v)).toNat ({at_ hs4 (at_ ((at_ rs v).xs) (at_ nx1 v)) with left:=((at_ hs4 (at_ ((at_ rs v).xs) (at_ nx1 v))).left) - d2})) (mateH (at_ ((at_ rs v).xs) (at_ nx1 v)))).left)) ty3 rfl Bo om om rfl) (Gm rfl (Gr (Rad rfl rfl) (Gr (Ba (α:=Half) (xs:=List.set hs4 (at_ ((at_ rs v).xs) (at_ nx1 v)).toNat ({at_ hs4 (at_ ((at_ rs v).xs) (at_ nx1 v)) with left:=((at_ hs4 (at_ ((at_ rs v).xs) (at_ nx1 v))).left) - d2})) B7 ty336 rfl rfl Bo om om) (Gr (C8 (α:=Half) (xs:=List.set hs4 (at_ ((at_ rs v).xs) (at_ nx1 v)).toNat ({at_ hs4 (at_ ((at_ rs v).xs) (at_ nx1 v)) with left:=((at_ hs4 (at_ ((at_ rs v).xs) (at_ nx1 v))).left) - d2})) fld336_1 rfl Bo om) (Ge0 (Eff.setf (α:=Half) (xs:=List.set hs4 (at_ ((at_ rs v).xs) (at_ nx1 v)).toNat ({at_ hs4 (at_ ((at_ rs v).xs) (at_ nx1 v)) with left:=((at_ hs4 (at_ ((at_ rs v).xs) (at_ nx1 v))).left) - d2})) (e:=336) (new:={at_ (List.set hs4 (at_ ((at_ rs v).xs) (at_ nx1 v)).toNat ({at_ hs4 (at_ ((at_ rs v).xs) (at_ nx1 v)) with left:=((at_ hs4 (at_ ((at_ rs v).xs) (at_ nx1 v))).left) - d2})) (mateH (at_ ((at_ rs v).xs) (at_ nx1 v))) with left:=((at_ (List.set hs4 (at_ ((at_ rs v).xs) (at_ nx1 v)).toNat ({at_ hs4 (at_ ((at_ rs v).xs) (at_ nx1 v)) with left:=((at_ hs4 (at_ ((at_ rs v).xs) (at_ nx1 v))).left) - d2})) (mateH (at_ ((at_ rs v).xs) (at_ nx1 v)))).left)+d2}) (j:=3) ty3 rfl rfl rfl rfl dc rfl om om am) ?_)))))))))
       have hHp:HOk n (pushF f3 (at_ (at_ rs v).xs (at_ nx1 v)) d2) (List.set (List.set hs4 (at_ ((at_ rs v).xs) (at_ nx1 v)).toNat ({at_ hs4 (at_ ((at_ rs v).xs) (at_ nx1 v)) with left:=((at_ hs4 (at_ ((at_ rs v).xs) (at_ nx1 v))).left) - d2})) (mateH (at_ ((at_ rs v).xs) (at_ nx1 v))).toNat ({at_ (List.set hs4 (at_ ((at_ rs v).xs) (at_ nx1 v)).toNat ({at_ hs4 (at_ ((at_ rs v).xs) (at_ nx1 v)) with left:=((at_ hs4 (at_ ((at_ rs v).xs) (at_ nx1 v))).left) - d2})) (mateH (at_ ((at_ rs v).xs) (at_ nx1 v))) with left:=((at_ (List.set hs4 (at_ ((at_ rs v).xs) (at_ nx1 v)).toNat ({at_ hs4 (at_ ((at_ rs v).xs) (at_ nx1 v)) with left:=((at_ hs4 (at_ ((at_ rs v).xs) (at_ nx1 v))).left) - d2})) (mateH (at_ ((at_ rs v).xs) (at_ nx1 v)))).left)+d2})):=hHd2.push hm.1 hbd2.1 om
       refine Af (Ar (S5 10 0 1 2 7 rfl rfl rfl rfl rfl) (Ah (Gm rfl (Gm rfl (Gr (Rad rfl rfl) (Ga rfl (Af (Ah (Gm rfl (Gm rfl (Gr (Bi rfl rfl) (Af (A6 rfl (fun c135=>?_) (fun c135=>?_))))))))))))))
       ·exact Ah (Gm rfl (Ga rfl (Af (Ar (S1 6 rfl) (Ay (Au (Ad (Ad (Au (Ad (A0 rfl rfl (blk b [hw,ow,lw,nw,I64 (n.sink)] 339::vc 336 (hw) (List.set (List.set hs4 (at_ ((at_ rs v).xs) (at_ nx1 v)).toNat ({at_ hs4 (at_ ((at_ rs v).xs) (at_ nx1 v)) with left:=((at_ hs4 (at_ ((at_ rs v).xs) (at_ nx1 v))).left) - d2})) (mateH (at_ ((at_ rs v).xs) (at_ nx1 v))).toNat ({at_ (List.set hs4 (at_ ((at_ rs v).xs) (at_ nx1 v)).toNat ({at_ hs4 (at_ ((at_ rs v).xs) (at_ nx1 v)) with left:=((at_ hs4 (at_ ((at_ rs v).xs) (at_ nx1 v))).left) - d2})) (mateH (at_ ((at_ rs v).xs) (at_ nx1 v))) with left:=((at_ (List.set hs4 (at_ ((at_ rs v).xs) (at_ nx1 v)).toNat ({at_ hs4 (at_ ((at_ rs v).xs) (at_ nx1 v)) with left:=((at_ hs4 (at_ ((at_ rs v).xs) (at_ nx1 v))).left) - d2})) (mateH (at_ ((at_ rs v).xs) (at_ nx1 v)))).left)+d2}))::vc 3 (lw) (L)::vc 3 (nw) (nx5)::I) A4 ⟨_,_,_,_,rfl,⟨⟨by omega,by omega⟩,hput.1,hHp,fun h=>by omega⟩,rfl⟩)))))))))))
       ·exact Az (Al (Cl ((sent+d2),(pushF f3 (at_ (at_ rs v).xs (at_ nx1 v)) d2),(List.set (List.set hs4 (at_ ((at_ rs v).xs) (at_ nx1 v)).toNat ({at_ hs4 (at_ ((at_ rs v).xs) (at_ nx1 v)) with left:=((at_ hs4 (at_ ((at_ rs v).xs) (at_ nx1 v))).left) - d2})) (mateH (at_ ((at_ rs v).xs) (at_ nx1 v))).toNat ({at_ (List.set hs4 (at_ ((at_ rs v).xs) (at_ nx1 v)).toNat ({at_ hs4 (at_ ((at_ rs v).xs) (at_ nx1 v)) with left:=((at_ hs4 (at_ ((at_ rs v).xs) (at_ nx1 v))).left) - d2})) (mateH (at_ ((at_ rs v).xs) (at_ nx1 v))) with left:=((at_ (List.set hs4 (at_ ((at_ rs v).xs) (at_ nx1 v)).toNat ({at_ hs4 (at_ ((at_ rs v).xs) (at_ nx1 v)) with left:=((at_ hs4 (at_ ((at_ rs v).xs) (at_ nx1 v))).left) - d2})) (mateH (at_ ((at_ rs v).xs) (at_ nx1 v)))).left)+d2})),(nx5)) (by dsimp only;exact ⟨om,(by first|exact hP|exact hput.1),(by first|exact hH1|exact hHp),(by first|rfl|exact hput.2.1),(by first|(rintro ⟨a,b,c⟩;omega)|(rw [hput.2.1];have hused2:=hused c135;rw [hm.2] at hused2;exact hused2))⟩)))
    ·rintro ⟨sent2,f2,hs2,nx2⟩ hp
     obtain ⟨hs20,hP2,hH2,hnx2,hD2⟩:(0≤sent2∧sent2≤most)∧(PushR n (rowsL rs) L v sent2 f nx f2 nx2)∧(HOk n f2 hs2)∧(at_ nx2 v=at_ nx1 v)∧(¬(0<leftH n f2 (at_ (at_ rs v).xs (at_ nx2 v))∧at_ L (toH n (at_ (at_ rs v).xs (at_ nx2 v)))=at_ L v+1∧Adm n f2 L (toH n (at_ (at_ rs v).xs (at_ nx2 v))))):=hp
     show W Tryz.prog κ 138 _ _ ([(0,.pointer (some ⟨b,0,none⟩)),(1,I64 (v)),(2,I64 (most)),(7,I64 (sent2))]:Env) (blk b [hw,ow,lw,nw,I64 (n.sink)] 339::vc 336 (hw) (hs2)::vc 3 (lw) (L)::vc 3 (nw) (nx2)::I)
     refine A2 (Gm rfl ?_)
     have hnl2:=hP2.nlen
     have hnx20:=hP2.nge v hv0 hv1
     refine Gr (Bg rfl) (Gf fld339_3 rfl (Gl ty22 ?_))
     refine Gm rfl (Gr (Ba (α:=Int) (xs:=nx2) Am ty3 rfl rfl Bo om om) (Gr (Cb (xs:=nx2) ty3 rfl Bo om om) (Gr (Rad rfl rfl) (Gr (Ba (α:=Int) (xs:=nx2) Am ty3 rfl rfl Bo om om) (Ge0 (Ds (α:=Int) (xs:=nx2) (e:=3) (new:=(at_ nx2 v)+1) ty3 rfl rfl rfl om om am) ?_)))))
     exact Be (B0 ((sent2),(f2),(hs2),(List.set nx2 (v).toNat ((at_ nx2 v)+1))) (by dsimp only;exact ⟨om,om,(hP2.adv om (by rw [rowsL_at];exact hD2) hv1),hH2⟩) (hlt:=by (try dsimp only);exact (by rw [Dj nx2 v v _ hv0 hv0 om,if_pos rfl];omega)))
   ·exact Bt (Aq (Aq (A9 (Ai (Ah (Gm rfl (Ga rfl (Af (Ay (A0 rfl rfl (blk b [hw,ow,lw,nw,I64 (n.sink)] 339::vc 336 (hw) (hs1)::vc 3 (lw) (L)::vc 3 (nw) (nx1)::I) A4 ⟨_,_,_,_,rfl,⟨⟨hs0,hs9⟩,hP,hH1,fun h=>by first|omega|exact Dead.not hr hP.dead ⟨hv0,hv1⟩ c16 (by rw [rowsL_at];omega)⟩,rfl⟩))))))))))
  ·exact Dpo 17 rfl (Dpo 18 rfl (Dpo 19 rfl (Dr 20 rfl (Ak rfl rfl) (Dz (Ai (Ar (S5 38 0 1 2 7 rfl rfl rfl rfl rfl) (Cw rfl (Bt (Aq (Aq (A9 (Ai (Ah (Gm rfl (Ga rfl (Af (Ay (A0 rfl rfl (blk b [hw,ow,lw,nw,I64 (n.sink)] 339::vc 336 (hw) (hs1)::vc 3 (lw) (L)::vc 3 (nw) (nx1)::I) A4 ⟨_,_,_,_,rfl,⟨⟨hs0,hs9⟩,hP,hH1,fun h=>by first|omega|exact Dead.not hr hP.dead ⟨hv0,hv1⟩ c16 (by rw [rowsL_at];omega)⟩,rfl⟩))))))))))))))))))
end Go.Sl
