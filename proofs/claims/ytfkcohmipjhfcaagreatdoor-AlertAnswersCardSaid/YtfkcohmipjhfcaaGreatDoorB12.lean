/- A part of the proofs of statements of this seat: contracts of functions, and the plain laws that they lean on. No conditions. -/
import Derived.Test.YtfkcohmipjhfcaaGreatDoorB11
set_option linter.unusedVariables false
set_option linter.unusedSimpArgs false
set_option linter.unusedSectionVars false
/- Layers and sending along them: the plain law. No Go. -/
namespace Go.Sl
structure V9 where
 frm:Int
 dst:Int
 cap:Int
 left:Int
deriving Inhabited
def J4(n:Net)(i:Int):Int:=if i % 2=0 then (e_ n.j9 (i / 2)).frm else (e_ n.j9 (i / 2)).dst
def toH(n:Net)(i:Int):Int:=if i % 2=0 then (e_ n.j9 (i / 2)).dst else (e_ n.j9 (i / 2)).frm
def H4(n:Net)(f:List Int)(i:Int):Int:=if i % 2=0 then (e_ n.j9 (i / 2)).cap - e_ f (i / 2) else e_ f (i / 2)
def F9(i:Int):Int:=if i % 2=0 then i+1 else i - 1
def InH(n:Net)(i:Int):Prop:=0<=i/\i<2*n.j9.length
def gd7(n:Net)(f:List Int):Prop:=∀k:Nat,k<n.j9.length->0<=e_ f k/\e_ f k<=(e_ n.j9 k).cap
structure HOk (n:Net) (f:List Int) (hs:List V9):Prop where
 len:(hs.length:Int)=2*n.j9.length
 gk2:f.length=n.j9.length
 cap:gd7 n f
 get:∀i,InH n i->(e_ hs i).frm=J4 n i/\(e_ hs i).dst=toH n i/\(e_ hs i).left=H4 n f i
structure ROk (n:Net) (rs:List (List Int)):Prop where
 len:(rs.length:Int)=n.nodes
 all:∀v,0<=v->v<n.nodes->∀i∈e_ rs v,InH n i/\J4 n i=v
 has:∀i,InH n i->i∈e_ rs (J4 n i)
section
variable {n:Net}{f g:List Int}{hs:List V9}{rs:List (List Int)}{i j:Int}
theorem InH.half(h:InH n i):0<=i / 2/\i / 2<n.j9.length:=by unfold InH at h;omega
theorem InH.fu3(h:InH n i):InH n (F9 i):=by unfold InH F9 at *; split<;>omega
theorem cd3(i:Int):F9 (F9 i)=i:=by unfold F9;split<;>split<;>omega
theorem cn9(i:Int):F9 i≠i:=by unfold F9;split<;>omega
theorem bg3(i:Int):F9 i / 2=i / 2:=by unfold F9;split<;>omega
theorem bb0(i:Int):F9 i % 2=0↔¬i % 2=0:=by unfold F9;split<;>omega
theorem ad6(n:Net)(i:Int):J4 n (F9 i)=toH n i:=by
 unfold J4 toH;rw [bg3]
 by_cases h:i % 2=0
 ·rw [An (λM=>(bb0 i).1 M h),By h]
 rw [By ((bb0 i).2 h),An h]
theorem bd5(n:Net)(i:Int):toH n (F9 i)=J4 n i:=by rw [←ad6,cd3]
theorem fj0(n:Net)(f:List Int)(i:Int):H4 n f i+H4 n f (F9 i)=(e_ n.j9 (i / 2)).cap:=by
 unfold H4;rw [bg3]
 by_cases h:i % 2=0
 ·rw [An (λM=>(bb0 i).1 M h),By h];omega
 rw [By ((bb0 i).2 h),An h];omega
theorem co2(M:gd7 n f)(h:InH n i):0<=H4 n f i/\H4 n f i<=(e_ n.j9 (i / 2)).cap:=by
 have:=gm4 M h.half.1 h.half.2
 unfold H4
 split<;>omega
theorem X1(M:n.Ok)(h:InH n i):(0<=J4 n i/\J4 n i<n.nodes)/\(0<=toH n i/\toH n i<n.nodes)/\J4 n i≠toH n i:=by
 have:=fv0 M h.half.1 h.half.2
 unfold J4 toH
 split<;>omega
def ah6(f:List Int)(i d:Int):List Int:=if i % 2=0 then f.set (i / 2).toNat (e_ f (i / 2)+d) else f.set (i / 2).toNat (e_ f (i / 2) - d)
def cv2(hs:List V9)(i d:Int):List V9:=
 (hs.set i.toNat {e_ hs i with left:=(e_ hs i).left - d}).set (F9 i).toNat {e_ (hs.set i.toNat {e_ hs i with left:=(e_ hs i).left - d}) (F9 i) with left:=(e_ (hs.set i.toNat {e_ hs i with left:=(e_ hs i).left - d})<|F9 i).left+d}
theorem cc6(d:Int):(ah6 f i d).length=f.length:=by unfold ah6;split<;>simp
theorem cv3(M:f.length=n.j9.length)(h:InH n i)(d:Int)(hj:0<=j):e_ (ah6 f i d) j=e_ f j+if i / 2=j then (if i % 2=0 then d else -d) else 0:=by
 have:=h.half
 unfold ah6
 by_cases hp:i % 2=0
 ·rw [By hp,By hp,Dq f (i / 2) j _ om hj om]
  split
  ·rename_i e;rw [e]
  omega
 rw [An hp,An hp,Dq f (i / 2) j _ om hj om]
 split
 ·rename_i e;rw [e];omega
 omega
theorem aj1(E:f.length=n.j9.length)(h:InH n i)(d:Int)(hj:InH n j):H4 n (ah6 f i d) j=H4 n f j+(if j=i then -d else 0)+(if j=F9 i then d else 0):=by
 have h1:=h.half
 have M:=hj.half
 unfold H4
 rw [cv3 E h d M.1]
 unfold F9
 by_cases hi:i % 2=0<;>by_cases hjp:j % 2=0<;>by_cases hh:i / 2=j / 2
 all_goals simp only [hi,hjp,hh,Ll,Me]
 all_goals (repeat' split)<;>omega
theorem cc7(hl:f.length=n.j9.length)(E:gd7 n f)(h:InH n i){d:Int}(h0:0<=d)(M:d<=H4 n f i):gd7 n (ah6 f i d):=λk hk=>by
 rw [cv3 hl h d om]
 have:=E k hk
 unfold H4 at M
 by_cases hi:i % 2=0<;>by_cases hh:i / 2=(k:Int)
 all_goals simp only [hi,Ll,Me] at M
 all_goals simp only [hi,hh,Ll,Me]
 all_goals (try rw [hh] at M)
 all_goals omega
theorem dr7(M:f.length=n.j9.length)(h:InH n i)(d z:Int):ar5 n (ah6 f i d) z=ar5 n f z+(if J4 n i=z then d else 0) - (if toH n i=z then d else 0):=by
 have E:=h.half
 unfold ah6 J4 toH
 have e:((((i / 2).toNat:Nat)):Int)=i / 2:=by omega
 by_cases hp:i % 2=0
 ·rw [By hp,By hp,By hp,cw3 om M,e]
  split<;>split<;>omega
 rw [An hp,An hp,An hp,cw3 om M,e]
 split<;>split<;>omega
theorem HOk.push(h:HOk n f hs)(hi:InH n i){d:Int}(h0:0<=d)(hd:d<=H4 n f i):HOk n (ah6 f i d) (cv2 hs i d):=by
 have hl:=h.len
 have E:=hi.fu3
 refine ⟨by unfold cv2;simp;exact h.len,(cc6 d).trans h.gk2,cc7 h.gk2 h.cap hi h0 hd,λj hj=>?_⟩
 have M:=cn9 i
 have e1:e_ (hs.set i.toNat {e_ hs i with left:=(e_ hs i).left - d}) (F9 i)=e_ hs (F9 i):=by
  rw [Dq hs i _ _ hi.1 E.1 (by have:=hi.2;omega),An<|λe=>M e.symm]
 have ej:e_ (cv2 hs i d) j=if F9 i=j then {e_ hs (F9 i) with left:=(e_ hs<|F9 i).left+d} else if i=j then {e_ hs i with left:=(e_ hs i).left - d} else e_ hs j:=by
  unfold cv2
  rw [Dq _ (F9 i) j _ E.1 hj.1 (by rw [Gd];have:=E.2;omega),e1,Dq hs i j _ hi.1 hj.1<|by have:=hi.2;omega]
 rw [ej,aj1 h.gk2 hi d hj]
 by_cases a:F9 i=j
 ·subst a
  rw [By rfl,An M,By rfl]
  have:=h.get _ E
  exact ⟨this.1,this.2.1,by show (e_ hs<|F9 i).left+d=_;omega⟩
 rw [An a,An (show ¬j=F9 i from λe=>a e.symm)]
 by_cases b:i=j
 ·subst b
  rw [By rfl,By rfl]
  have:=h.get _ hi
  exact ⟨this.1,this.2.1,by show (e_ hs i).left - d=_;omega⟩
 rw [An b,An (show ¬j=i from λe=>b e.symm)]
 have:=h.get _ hj
 exact ⟨this.1,this.2.1,by omega⟩
theorem cb9{S:Int->Bool}:gc3 n f S↔∀i,InH n i->S (J4 n i)=true->0<H4 n f i->S (toH n i)=true:=by
 constructor
 ·intro h i hi hs hl
  have M:=hi.half
  have e:((((i / 2).toNat:Nat)):Int)=i / 2:=by omega
  have:=h (i / 2).toNat om
  rw [e] at this
  unfold J4 at hs
  unfold H4 at hl
  unfold toH
  by_cases hp:i % 2=0
  ·rw [By hp] at *; exact this.1 hs om
  rw [An hp] at *; exact this.2 hs hl
 intro h k hk
 have M:=h (2*(k:Int)) (by unfold InH;omega)
 have E:=h (2*(k:Int)+1) (by unfold InH;omega)
 unfold J4 toH H4 at M E
 rw [By om,By om,By om,show (2*(k:Int)) / 2=k from by omega] at M
 rw [An om,An om,An om,show (2*(k:Int)+1) / 2=k from by omega] at E
 exact ⟨λa b=>M a om,E⟩
inductive Adm (n:Net) (f L:List Int):Int->Prop
 |sink:Adm n f L n.sink
 |step (i:Int):InH n i->0<H4 n f i->e_ L (toH n i)=e_ L (J4 n i)+1->Adm n f L (toH n i)->Adm n f L (J4 n i)
def dk5(n:Net)(L f f':List Int):Prop:=∀i,InH n i->e_ L (toH n i)=e_ L (J4 n i)+1->H4 n f' i<=H4 n f i
theorem dk5.refl(n:Net)(L f:List Int):dk5 n L f f:=λ_ _ _=>Hn _
theorem dk5.trans{L h:List Int}(a:dk5 n L f g)(b:dk5 n L g h):dk5 n L f h:=λi hi M=>Lj (b i hi M) (a i hi M)
theorem Adm.less{L f':List Int}(M:dk5 n L f f'){z:Int}(h:Adm n f' L z):Adm n f L z:=by
 induction h with
 |sink=>exact .sink
 |step i hi hp hL _ ih=>exact .step i hi (by have:=M i hi hL;omega) hL ih
def cs0(n:Net)(rs:List (List Int))(L f nx:List Int):Prop:=∀u,0<=u->u<n.nodes->∀j:Nat,(j:Int)<e_ nx u->j<(e_ rs u).length->
 ¬(0<H4 n f (e_ (e_ rs u) j)/\e_ L (toH n<|e_ (e_ rs u) j)=e_ L u+1/\Adm n f L (toH n<|e_ (e_ rs u) j))
theorem cs0.less{L f' nx:List Int}(hr:ROk n rs)(hl:dk5 n L f f')(h:cs0 n rs L f nx):cs0 n rs L f' nx:=λu h0 h1 j hj M ⟨a,b,c⟩=>by
 have E:=hr.all u h0 h1 _ (B3 (i:=(j:Int)) om om)
 refine h u h0 h1 j hj M ⟨?_,b,c.less hl⟩
 have:=hl _ E.1 (by rw [E.2];exact b)
 omega
theorem cs0.adv{L nx:List Int}{v:Int}(h:cs0 n rs L f nx)(hv:0<=v/\v<nx.length)(hx:0<=e_ nx v)
  (hd:¬(0<H4 n f (e_ (e_ rs v)<|e_ nx v)/\e_ L (toH n<|e_ (e_ rs v)<|e_ nx v)=e_ L v+1/\Adm n f L (toH n<|e_ (e_ rs v)<|e_ nx v))):cs0 n rs L f (nx.set v.toNat<|e_ nx v+1):=λu E h1 j hj M=>by
 rw [Dq nx v u _ hv.1 E hv.2] at hj
 by_cases e:v=u
 ·subst e
  rw [By rfl] at hj
  by_cases hj':(j:Int)<e_ nx v
  ·exact h v E h1 j hj' M
  rw [show (j:Int)=e_ nx v from by omega];exact hd
 rw [An e] at hj;exact h u E h1 j hj M
theorem cs0.not{L nx:List Int}{v:Int}(E:ROk n rs)(h:cs0 n rs L f nx)(M:0<=v/\v<n.nodes)(hs:v≠n.sink)(hx:(e_ rs v).length<=e_ nx v):¬Adm n f L v:=λha=>by
 cases ha with
 |sink=>exact hs rfl
 |step i hi hp hL hA=>
  obtain ⟨j,hj,e⟩:=E1 (E.has i hi)
  refine h _ M.1 M.2 j om hj ?_
  rw [e];exact ⟨hp,hL,hA⟩
structure ab4 (n:Net) (rs:List (List Int)) (L:List Int) (v d:Int) (f nx f' nx':List Int):Prop where
 len:f'.length=n.j9.length
 cap:gd7 n f'
 net:∀z,ar5 n f' z=ar5 n f z+(if v=z then d else 0) - (if n.sink=z then d else 0)
 less:dk5 n L f f'
 same:∀i,InH n i->(e_ L (J4 n i)<e_ L v\/e_ L (toH n i)<e_ L v)->H4 n f' i=H4 n f i
 dead:cs0 n rs L f' nx'
 cn5:nx'.length=nx.length
 nge:∀z,0<=z->z<n.nodes->0<=e_ nx' z
 fh7:∀z,0<=z->z<n.nodes->z≠v->e_ L z<=e_ L v->e_ nx' z=e_ nx z
 zero:d=0->f'=f
variable {L nx f' nx':List Int}{v d:Int}
theorem ab4.start(hl:f.length=n.j9.length)(M:gd7 n f)(hd:cs0 n rs L f nx)(E:∀z,0<=z->z<n.nodes->0<=e_ nx z)(v:Int):ab4 n rs L v 0 f nx f nx:=
 ⟨hl,M,λz=>by simp,dk5.refl _ _ _,λ_ _ _=>rfl,hd,rfl,E,λ_ _ _ _ _=>rfl,λ_=>rfl⟩
theorem ab4.adv(h:ab4 n rs L v d f nx f' nx')(M:0<=v/\v<nx'.length)
  (hd:¬(0<H4 n f' (e_ (e_ rs v)<|e_ nx' v)/\e_ L (toH n<|e_ (e_ rs v)<|e_ nx' v)=e_ L v+1/\Adm n f' L (toH n<|e_ (e_ rs v)<|e_ nx' v))) (hn:v<n.nodes):ab4 n rs L v d f nx f' (nx'.set v.toNat<|e_ nx' v+1):=
 ⟨h.len,h.cap,h.net,h.less,h.same,h.dead.adv M (h.nge v M.1 hn) hd,by rw [Gd];exact h.cn5,λz E h1=>by
  rw [Dq nx' v z _ M.1 E M.2]
  have:=h.nge v M.1 hn
  have:=h.nge z E h1
  split<;>omega,λz E h1 hz hL=>by
  rw [Dq nx' v z _ M.1 E M.2,An (λe=>hz e.symm)];exact h.fh7 z E h1 hz hL,h.zero⟩
theorem dd8(hl:f.length=n.j9.length)(hi:InH n i):ah6 f i 0=f:=by
 have E:=hi.half
 have e:∀x:Int,x=e_ f (i / 2)->f.set (i / 2).toNat x=f:=λx M=>by
  subst M
  rw [ax3 om om]
  exact List.set_getElem_self _
 unfold ah6
 split
 ·exact e _ om
 exact e _ om
theorem ab4.put(ai:n.Ok)(hr:ROk n rs){i e:Int}{g ng:List Int}(h:ab4 n rs L v d f nx f' nx')(hi:InH n i)(hf:J4 n i=v)(hL:e_ L (toH n i)=e_ L v+1)
  (h0:0<=d) (he:0<=e) (ak:e<=H4 n f' i) (M:ab4 n rs L (toH n i) e f' nx' g ng):ab4 n rs L v (d+e) f nx (ah6 g i e) ng/\e_ ng v=e_ nx' v/\H4 n g i=H4 n f' i:=by
 have aj:=X1 ai hi
 have hs:H4 n g i=H4 n f' i:=M.same i hi (.inl<|by rw [hf];omega)
 have E:dk5 n L g (ah6 g i e):=λj hj ae=>by
  rw [aj1 M.len hi e hj]
  by_cases a:j=F9 i
  ·subst a
   rw [bd5,ad6,hf] at ae
   omega
  rw [An a];split<;>omega
 refine ⟨⟨(cc6 e).trans M.len,cc7 M.len M.cap hi he om,λz=>?_,(h.less.trans M.less).trans E,λj hj aa=>?_,M.dead.less hr E,M.cn5.trans h.cn5,M.nge,λz ab ad hz ah=>?_,λan=>?_⟩,M.fh7 v om om om om,hs⟩
 ·rw [dr7 M.len hi,M.net,h.net,hf]
  repeat' split
  all_goals omega
 ·have h3:H4 n g j=H4 n f' j:=M.same j hj om
  rw [aj1 M.len hi e hj,h3,h.same j hj aa]
  have a1:j≠i:=λe=>by subst e;rw [hf] at aa;omega
  have a2:j≠F9 i:=λe=>by subst e;rw [bd5,ad6,hf] at aa;omega
  rw [An a1,An a2];omega
 ·rw [M.fh7 z ab ad (λe=>by subst e;omega) om,h.fh7 z ab ad hz ah]
 have e0:e=0:=by omega
 have d0:d=0:=by omega
 subst e0
 rw [dd8 M.len hi,M.zero rfl,h.zero d0]
theorem ab4.used{i e m:Int}{g:List Int}(hi:InH n i)(hm:e<m\/H4 n g i=e)(hq:e<m->¬Adm n g L (toH n i))(hg:g.length=n.j9.length)(he:0<=e)(hL:e_ L (toH n i)=e_ L (J4 n i)+1):¬(0<H4 n (ah6 g i e) i/\e_ L (toH n i)=e_ L (J4 n i)+1/\Adm n (ah6 g i e) L (toH n i)):=λ⟨a,_,c⟩=>by
 have M:dk5 n L g (ah6 g i e):=λj hj E=>by
  rw [aj1 hg hi e hj]
  by_cases a:j=F9 i
  ·subst a
   rw [bd5,ad6] at E
   omega
  rw [An a];split<;>omega
 rcases hm with hm|hm
 ·exact hq hm<|c.less M
 rw [aj1 hg hi e hi,By rfl,An<|λe=>cn9 i e.symm] at a
 omega
structure fv2 (n:Net) (f L:List Int):Prop where
 len:(L.length:Int)=n.nodes
 src:e_ L n.source=0
 low:∀z,0<=z->z<n.nodes-> -1<=e_ L z/\e_ L z<n.nodes
 cp6:∀i,InH n i->0<=e_ L (J4 n i)->0<H4 n f i->0<=e_ L (toH n i)
 par:∀z,0<=z->z<n.nodes->0<=e_ L z->z≠n.source->∃i,InH n i/\toH n i=z/\0<H4 n f i/\0<=e_ L (J4 n i)/\e_ L z=e_ L (J4 n i)+1
theorem fv2.adm(aa:n.Ok)(h:fv2 n f L){z:Int}(E:Adm n f L z):∀m:Nat,0<=z->z<n.nodes->e_ L z=m->Adm n f L n.source:=λm=>by
 induction m generalizing z with
 |zero=>
  intro h0 h1 hm
  by_cases hs:z=n.source
  ·subst hs;exact E
  obtain ⟨i,hi,he,hl,hf,hq⟩:=h.par z h0 h1 om hs
  omega
 |succ m ih=>
  intro h0 h1 hm
  by_cases hs:z=n.source
  ·subst hs;exact E
  obtain ⟨i,hi,he,hl,hf,hq⟩:=h.par z h0 h1 om hs
  have M:=X1 aa hi
  subst he
  exact ih (.step i hi hl hq E) M.1.1 M.1.2 om
theorem fv2.go(M:n.Ok)(h:fv2 n f L)(hs:0<=e_ L n.sink):Adm n f L n.source:=
 h.adm M .sink (e_ L n.sink).toNat M.snk.1 M.snk.2 om
theorem fv2.end(M:n.Ok)(h:fv2 n f L)(hs:¬0<=e_ L n.sink):∃S:Int->Bool,gc3 n f S/\S n.source=true/\S n.sink=false:=
 ⟨λz=>decide<|0<=e_ L z,cb9.2 λi hi a b=>D_<|h.cp6 i hi (Gc a) b,D_<|by rw [h.src];omega,E_ hs⟩
theorem ab4.cx9(E:n.Ok)(hf:ab2 n f)(h:ab4 n rs L n.source d f nx f' nx'):ab2 n f'/\ar5 n f' n.source=ar5 n f n.source+d:=by
 have M:=E.ne
 refine ⟨⟨h.len,h.cap,λv h0 h1 hs ht=>?_⟩,?_⟩
 ·rw [h.net v,An<|λe=>hs e.symm,An<|λe=>ht e.symm,hf.cons v h0 h1 hs ht];rfl
 rw [h.net,By rfl,An<|λe=>M e.symm];omega
end
structure LI (n:Net) (f:List Int) (rs:List (List Int)) (L todo:List Int) (x:Int) (q:Nat):Prop where
 len:(L.length:Int)=n.nodes
 src:e_ L n.source=0
 low:∀z,0<=z->z<n.nodes-> -1<=e_ L z/\e_ L z+un L<n.nodes
 wait:∀z∈todo,(0<=z/\z<n.nodes)/\0<=e_ L z
 cp6:∀z,0<=z->z<n.nodes->0<=e_ L z->z∉todo->∀j:Nat,j<(e_ rs z).length->(z=x->j<q)->0<H4 n f (e_ (e_ rs z) j)->0<=e_ L (toH n<|e_ (e_ rs z) j)
 par:∀z,0<=z->z<n.nodes->0<=e_ L z->z≠n.source->∃i,InH n i/\toH n i=z/\0<H4 n f i/\0<=e_ L (J4 n i)/\e_ L z=e_ L (J4 n i)+1
 cur:0<=x->x<n.nodes/\0<=e_ L x
section
variable {n:Net}{f L todo:List Int}{rs:List (List Int)}{x:Int}{q:Nat}
theorem LI.put(ae:n.Ok)(h:LI n f rs L todo x q)(hx:0<=x){i:Int}(hi:InH n i)(hf:J4 n i=x)(hl:0<H4 n f i)(hn:e_ L (toH n i)<0) :
  LI n f rs (L.set (toH n i).toNat (e_ L x+1)) (todo++[toH n i]) x q/\un (L.set (toH n i).toNat (e_ L x+1))+1=un L:=by
 have ab:=X1 ae hi
 have hlen:=h.len
 have hc:(0<=x/\x<n.nodes)/\0<=e_ L x:=⟨⟨hx,(h.cur hx).1⟩,(h.cur hx).2⟩
 have au:=h.low _ ab.2.1.1 ab.2.1.2
 have av:=h.low _ hc.1.1 hc.1.2
 have hu:=ft3 (out:=L) (y:=toH n i) (i:=e_ L x+1) om om om
 generalize hy:toH n i=y at *
 have E:∀z,0<=z->e_ (L.set y.toNat<|e_ L x+1) z=if y=z then e_ L x+1 else e_ L z:=λz hz=>Dq L y z _ ab.2.1.1 hz om
 have aa:∀z,0<=z->0<=e_ L z->0<=e_ (L.set y.toNat<|e_ L x+1) z:=λz hz hp=>by rw [E z hz];split<;>omega
 refine ⟨⟨by rw [Gd];exact h.len,?_,λz h0 h1=>?_,λz hz=>?_,λz h0 h1 hz aj j hj aq ao=>?_,λz h0 h1 hz hs=>?_,λ_=>⟨hc.1.2,aa x hc.1.1 hc.2⟩⟩,hu⟩
 ·have:=ae.src
  rw [E _ this.1,An (λe=>by subst e;have:=h.src;omega)];exact h.src
 ·have hz:=h.low z h0 h1
  rw [E z h0]
  split<;>omega
 ·rcases Gu.1 hz with hz|hz
  ·have:=h.wait z hz
   exact ⟨this.1,aa z this.1.1 this.2⟩
  rw [Gj.1 hz]
  exact ⟨ab.2.1,by rw [E y ab.2.1.1,By rfl];omega⟩
 ·have ad:y≠z:=λe=>aj (K_ _<|Gj.2 e.symm)
  rw [E z h0,An ad] at hz
  have:=h.cp6 z h0 h1 hz (λhm=>aj<|Js _ hm) j hj aq ao
  generalize toH n (e_ (e_ rs z) j)=t at this ⊢
  by_cases hneg:0<=t
  ·exact aa _ hneg this
  have e0:∀M:List Int,e_ M t=e_ M 0:=λM=>by unfold e_;rw [show t.toNat=(0:Int).toNat from by omega]
  rw [e0] at this ⊢; exact aa 0 om om
 rw [E z h0] at hz ⊢
 by_cases ad:y=z
 ·rw [By ad]
  have ak:y≠x:=λe=>by subst e;omega
  exact ⟨i,hi,hy.trans ad,hl,by rw [hf];exact aa x hc.1.1 hc.2,by rw [hf,E x hc.1.1,An ak]⟩
 rw [An ad] at hz ⊢
 obtain ⟨k,hk,he,an,ah,ap⟩:=h.par z h0 h1 hz hs
 have ai:=X1 ae hk
 have ar:y≠J4 n k:=λe=>by rw [←e] at ah;omega
 exact ⟨k,hk,he,an,aa _ ai.1.1 ah,by rw [E _ ai.1.1,An ar];exact ap⟩
theorem LI.inc(h:LI n f rs L todo x q)(hd:0<H4 n f (e_ (e_ rs x) q)->0<=e_ L (toH n (e_ (e_ rs x) q))):LI n f rs L todo x (q+1):=
 ⟨h.len,h.src,h.low,h.wait,λz h0 h1 hz E j hj aa M=>by
  by_cases e:z=x/\j=q
  ·obtain ⟨rfl,rfl⟩:=e;exact hd M
  exact h.cp6 z h0 h1 hz E j hj (λez=>by have:=aa ez;have:j≠q:=λej=>e ⟨ez,ej⟩;omega) M,h.par,h.cur⟩
theorem LI.next(h:LI n f rs L todo (-1) 0)(ht:0<todo.length):LI n f rs L (todo.drop 1) (e_ todo 0) 0:=by
 obtain ⟨x,t,rfl⟩:∃x t,todo=x::t:=by cases todo with
  |nil=>simp at ht
  |cons x t=>exact ⟨x,t,rfl⟩
 show LI n f rs L t x 0
 refine ⟨h.len,h.src,h.low,λz hz=>h.wait z<|Fv _ hz,λz h0 h1 hz M j hj aa E=>?_,h.par,λ_=>?_⟩
 ·by_cases e:z=x
  ·have:=aa e;omega
  have ab:z∉x::t:=λhm=>by
   rcases Gh.1 hm with hm|hm
   ·exact e hm
   exact M hm
  exact h.cp6 z h0 h1 hz ab j hj (λez=>by omega) E
 have:=h.wait x C_
 exact ⟨this.1.2,this.2⟩
theorem LI.over(h:LI n f rs L todo x q)(hq:(e_ rs x).length<=q):LI n f rs L todo (-1) 0:=
 ⟨h.len,h.src,h.low,h.wait,λz h0 h1 hz M j hj _ E=>h.cp6 z h0 h1 hz M j hj (λe=>by subst e;omega) E,h.par,λh=>by omega⟩
theorem LI.done(E:n.Ok)(hr:ROk n rs)(h:LI n f rs L todo (-1) 0)(ht:¬0<todo.length):fv2 n f L:=by
 obtain rfl:todo=[]:=Hr om
 exact ⟨h.len,h.src,λz h0 h1=>by have:=h.low z h0 h1;omega,λi hi hf hl=>by
  have M:=X1 E hi
  obtain ⟨j,hj,e⟩:=E1 (hr.has i hi)
  have:=h.cp6 _ M.1.1 M.1.2 hf (by simp) j hj (λe=>by omega) (by rw [e];exact hl)
  rwa [e] at this,h.par⟩
theorem LI.start(ad:n.Ok){L0:List Int}(hl:(L0.length:Int)=n.nodes)(h0:∀j:Nat,j<L0.length->e_ L0 j = -1):LI n f rs (L0.set n.source.toNat 0) [n.source] (-1) 0/\un (L0.set n.source.toNat 0)+1=n.nodes.toNat:=by
 have hs:=ad.src
 have E:∀z:Int,0<=z->z<n.nodes->e_ L0 z = -1:=λz a b=>dz6 (p:=λz=>e_ L0 z = -1) h0 a om
 have M:∀z,0<=z->e_ (L0.set n.source.toNat 0) z=if n.source=z then 0 else e_ L0 z:=λz hz=>Dq L0 _ z _ hs.1 hz om
 have hu:=ft3 (out:=L0) (y:=n.source) (i:=0) om (E _ hs.1 hs.2) om
 have ae:un L0=n.nodes.toNat:=by
  have e:=gm0 h0
  unfold un
  rw [e,List.count_replicate_self];omega
 refine ⟨⟨by rw [Gd];exact hl,by rw [M _ hs.1,By rfl],λz a b=>?_,λz hz=>?_,λz a b hz aa=>?_,λz a b hz ab=>?_,λh=>by omega⟩,by omega⟩
 ·rw [M z a,E z a b];split<;>omega
 ·rw [Gj.1 hz];exact ⟨hs,by rw [M _ hs.1,By rfl];omega⟩
 ·exfalso
  have:n.source≠z:=λe=>aa (by rw [e];exact Gj.2 rfl)
  rw [M z a,An this,E z a b] at hz;omega
 exfalso
 rw [M z a,An<|λe=>ab e.symm,E z a b] at hz;omega
end
theorem M8{α:Type}[Inhabited α]{w:List α}{y:List α}(h:0<w.length):e_ (w++y) 0=e_ w 0:=by
 cases w with
 |nil=>simp at h
 |cons x t=>rfl
theorem K8{α:Type}{w y:List α}(h:0<w.length):(w++y).drop 1=w.drop 1++y:=by
 cases w with
 |nil=>simp at h
 |cons x t=>rfl
def goH(n:Net)(f:List Int)(ag:Bool)(i:Int):Int:=if ag then H4 n f (F9 i) else H4 n f i
def fb3(n:Net)(f:List Int)(ag:Bool)(S:Int->Bool):Prop:=∀i,InH n i->S (J4 n i)=true->0<goH n f ag i->S (toH n i)=true
structure RI (n:Net) (f:List Int) (ag:Bool) (v:Int) (rs:List (List Int)) (seen:List Bool) (todo:List Int) (x:Int) (q:Nat):Prop where
 len:(seen.length:Int)=n.nodes
 src:e_ seen v=true
 wait:∀z∈todo,(0<=z/\z<n.nodes)/\e_ seen z=true
 cp6:∀z,0<=z->z<n.nodes->e_ seen z=true->z∉todo->∀j:Nat,j<(e_ rs z).length->(z=x->j<q)->0<goH n f ag (e_ (e_ rs z) j)->e_ seen (toH n<|e_ (e_ rs z) j)=true
 sound:∀S:Int->Bool,fb3 n f ag S->S v=true->∀z,0<=z->z<n.nodes->e_ seen z=true->S z=true
 cur:0<=x->x<n.nodes/\e_ seen x=true
def unB(l:List Bool):Nat:=l.count false
theorem fv9{l:List Bool}{y:Int}(hy:0<=y/\y<l.length)(h:e_ l y=false):unB (l.set y.toNat true)+1=unB l:=by
 unfold unB
 have hl:y.toNat<l.length:=by omega
 have E:l[y.toNat]=false:=by rw [ax3 hy.1 hy.2] at h;exact h
 rw [List.count_set hl]
 have M:0<l.count false:=Mg.2 (E▸Mq hl)
 have e1:(l[y.toNat]==false)=true:=by simp [E]
 have e2:(true==false)=false:=rfl
 rw [e1,e2]
 simp only [Ll,Mh,Me]
 omega
section
variable {n:Net}{f todo:List Int}{ag:Bool}{v:Int}{seen:List Bool}{rs:List (List Int)}{x:Int}{q:Nat}
theorem RI.put(aj:n.Ok)(h:RI n f ag v rs seen todo x q)(hx:0<=x)(hv:0<=v){i:Int}(hi:InH n i)(hf:J4 n i=x)(hl:0<goH n f ag i)(hn:e_ seen (toH n i)=false) :
  RI n f ag v rs (seen.set (toH n i).toNat true) (todo++[toH n i]) x q/\unB (seen.set (toH n i).toNat true)+1=unB seen:=by
 have ad:=X1 aj hi
 have hlen:=h.len
 have hc:=h.cur hx
 have hu:=fv9 (l:=seen) (y:=toH n i) om hn
 have ai:∀S:Int->Bool,fb3 n f ag S->S x=true->S (toH n i)=true:=λS hS hs=>hS i hi (by rw [hf];exact hs) hl
 generalize hy:toH n i=y at *
 have aa:∀z,0<=z->e_ (seen.set y.toNat true) z=if y=z then true else e_ seen z:=λz hz=>Dq seen y z _ ad.2.1.1 hz om
 have E:∀z,0<=z->e_ seen z=true->e_ (seen.set y.toNat true) z=true:=λz hz hp=>by rw [aa z hz];split<;>first|rfl|exact hp
 refine ⟨⟨by rw [Gd];exact h.len,E v hv h.src,λz hz=>?_,λz h0 h1 hz ae j hj ak ah=>?_,λS hS hs z h0 h1 hz=>?_,λ_=>⟨hc.1,E x hx hc.2⟩⟩,hu⟩
 ·rcases Gu.1 hz with hz|hz
  ·have:=h.wait z hz
   exact ⟨this.1,E z this.1.1 this.2⟩
  rw [Gj.1 hz]
  exact ⟨ad.2.1,by rw [aa y ad.2.1.1,By rfl]⟩
 ·have ab:y≠z:=λe=>ae (K_ _<|Gj.2 e.symm)
  rw [aa z h0,An ab] at hz
  have:=h.cp6 z h0 h1 hz (λhm=>ae<|Js _ hm) j hj ak ah
  generalize toH n (e_ (e_ rs z) j)=t at this ⊢
  by_cases hneg:0<=t
  ·exact E _ hneg this
  have e0:∀M:List Bool,e_ M t=e_ M 0:=λM=>by unfold e_;rw [show t.toNat=(0:Int).toNat from by omega]
  rw [e0] at this ⊢; exact E 0 om om
 rw [aa z h0] at hz
 by_cases ab:y=z
 ·subst ab
  exact ai S hS<|h.sound S hS hs x hx hc.1 hc.2
 rw [An ab] at hz
 exact h.sound S hS hs z h0 h1 hz
theorem RI.inc(h:RI n f ag v rs seen todo x q)(hd:0<goH n f ag (e_ (e_ rs x) q)->e_ seen (toH n (e_ (e_ rs x) q))=true):RI n f ag v rs seen todo x (q+1):=
 ⟨h.len,h.src,h.wait,λz h0 h1 hz E j hj aa M=>by
  by_cases e:z=x/\j=q
  ·obtain ⟨rfl,rfl⟩:=e;exact hd M
  exact h.cp6 z h0 h1 hz E j hj (λez=>by have:=aa ez;have:j≠q:=λej=>e ⟨ez,ej⟩;omega) M,h.sound,h.cur⟩
theorem RI.next(h:RI n f ag v rs seen todo (-1) 0)(ht:0<todo.length):RI n f ag v rs seen (todo.drop 1) (e_ todo 0) 0:=by
 obtain ⟨x,t,rfl⟩:∃x t,todo=x::t:=by cases todo with
  |nil=>simp at ht
  |cons x t=>exact ⟨x,t,rfl⟩
 show RI n f ag v rs seen t x 0
 refine ⟨h.len,h.src,λz hz=>h.wait z<|Fv _ hz,λz h0 h1 hz M j hj aa E=>?_,h.sound,λ_=>?_⟩
 ·by_cases e:z=x
  ·have:=aa e;omega
  have ab:z∉x::t:=λhm=>by
   rcases Gh.1 hm with hm|hm
   ·exact e hm
   exact M hm
  exact h.cp6 z h0 h1 hz ab j hj (λez=>by omega) E
 have:=h.wait x C_
 exact ⟨this.1.2,this.2⟩
theorem RI.over(h:RI n f ag v rs seen todo x q)(hq:(e_ rs x).length<=q):RI n f ag v rs seen todo (-1) 0:=
 ⟨h.len,h.src,h.wait,λz h0 h1 hz M j hj _ E=>h.cp6 z h0 h1 hz M j hj (λe=>by subst e;omega) E,h.sound,λh=>by omega⟩
theorem RI.start(hv:0<=v/\v<n.nodes){s0:List Bool}(hl:(s0.length:Int)=n.nodes)(h0:∀z:Int,0<=z->z<n.nodes->e_ s0 z=false):RI n f ag v rs (s0.set v.toNat true) [v] (-1) 0:=by
 have M:∀z,0<=z->e_ (s0.set v.toNat true) z=if v=z then true else e_ s0 z:=λz E=>Dq s0 _ z _ hv.1 E om
 refine ⟨by rw [Gd];exact hl,by rw [M _ hv.1,By rfl],λz E=>?_,λz a b E aa=>?_,λS hS hs z a b E=>?_,λh=>by omega⟩
 ·rw [Gj.1 E];exact ⟨hv,by rw [M _ hv.1,By rfl]⟩
 ·exfalso
  have:v≠z:=λe=>aa (by rw [e];exact Gj.2 rfl)
  rw [M z a,An this,h0 z a b] at E;cases E
 by_cases e:v=z
 ·subst e;exact hs
 rw [M z a,An e,h0 z a b] at E;cases E
structure Seen (n:Net) (f:List Int) (ag:Bool) (v:Int) (seen:List Bool):Prop where
 len:(seen.length:Int)=n.nodes
 src:e_ seen v=true
 shut:fb3 n f ag λz=>e_ seen z
 sound:∀S:Int->Bool,fb3 n f ag S->S v=true->∀z,0<=z->z<n.nodes->e_ seen z=true->S z=true
theorem RI.done(E:n.Ok)(hr:ROk n rs)(h:RI n f ag v rs seen todo (-1) 0)(ht:¬0<todo.length):Seen n f ag v seen:=by
 obtain rfl:todo=[]:=Hr om
 exact ⟨h.len,h.src,λi hi hf hl=>by
  have M:=X1 E hi
  obtain ⟨j,hj,e⟩:=E1 (hr.has i hi)
  have:=h.cp6 _ M.1.1 M.1.2 hf (by simp) j hj (λe=>by omega) (by rw [e];exact hl)
  rwa [e] at this,h.sound⟩
structure Full (n:Net) (f:List Int) (val:Int):Prop where
 cx9:ab2 n f
 val:val=ar5 n f n.source
 ends:∃S:Int->Bool,gc3 n f S/\S n.source=true/\S n.sink=false
theorem be9{S:Int->Bool}:fb3 n f true (λz=> !S z)↔gc3 n f S:=by
 rw [cb9]
 constructor
 ·intro h i hi a b
  have M:(!S (J4 n<|F9 i))=true->0<goH n f true (F9 i)->(!S (toH n<|F9 i))=true:=h (F9 i) hi.fu3
  rw [ad6,bd5] at M
  unfold goH at M
  rw [cd3,By rfl] at M
  cases hs:S (toH n i)
  ·have E:=M (by rw [hs];rfl) b
   rw [a] at E;cases E
  rfl
 intro h i hi a b
 unfold goH at b
 rw [By rfl] at b
 have a':(!S (J4 n i))=true:=a
 have M:=h (F9 i) hi.fu3
 rw [ad6,bd5] at M
 show (!S (toH n i))=true
 cases hs:S (toH n i)
 ·rfl
 have E:=M hs b
 rw [E] at a';cases a'
theorem Seen.bm7(M:n.Ok){val:Int}(hf:Full n f val)(h:Seen n f true n.sink seen):dm0 n f λz=> !e_ seen z:=by
 have hs:=M.src
 have ht:=M.snk
 refine ⟨?_,by rw [h.src];rfl,?_,λS hS hv z h0 E hz=>?_⟩
 ·obtain ⟨S,E,h2,h3⟩:=hf.ends
  cases e:e_ seen n.source
  ·rfl
  have:=h.sound (λz=> !S z) (be9.2 E) (by rw [h3];rfl) _ hs.1 hs.2 e
  rw [h2] at this;cases this
 ·refine be9.1 ?_
  have e:(λz=> !!e_ seen z)=λz=>e_ seen z:=by funext z;simp
  rw [e];exact h.shut
 cases e:e_ seen z
 ·rfl
 have:=h.sound (λz=> !S z) (be9.2 hS) (by rw [hv];rfl) z h0 E e
 rw [hz] at this;cases this
end
end Go.Sl
namespace Go.Sl
theorem cn6(n:Nat):n ^^^ 1=if n % 2=0 then n+1 else n - 1:=by
 have E:(n ^^^ 1) / 2=n / 2:=by rw [Nat.xor_div_two];simp
 have M:(n ^^^ 1) % 2=1↔¬(n % 2=1↔1 % 2=1):=Nat.xor_mod_two_eq_one
 split<;>omega
theorem cs6{i:Int}(h0:0<=i)(E:i<4611686018427387904):bits .xor .i64 i 1=F9 i:=by
 obtain ⟨n,rfl⟩:∃n:Nat,i=(n:Int):=⟨i.toNat,by omega⟩
 have e:(BitVec.ofInt 64 (n:Int) ^^^ BitVec.ofInt 64 1).toNat=n ^^^ 1:=by
  rw [BitVec.toNat_xor,Nh,Nh]
  congr 1
  omega
 have M:bits .xor .i64 (n:Int) 1=IntKind.i64.wrap (((n ^^^ 1:Nat)):Int):=by
  unfold bits
  show IntKind.i64.wrap ((BitVec.ofInt 64 (n:Int) ^^^ BitVec.ofInt 64 1).toNat:Int)=_
  rw [e]
 rw [M,cn6]
 unfold F9
 split<;>split<;>rw [IntKind.wrap_i64]<;>omega
end Go.Sl
namespace Go.Sl
open Go.Proofs
set_option maxRecDepth 4000
variable{κ:Ctx}{I:List Item}{b:Nat}{hw lw nw ow:Value}{nx:List Int}
instance:Enc V9:=⟨λh=>[e7 h.frm,e7 h.dst,e7 h.cap,e7 h.left],4,by omega,λ_=>rfl,λh u hu=>by
 simp only [Gh,Hy,Kx] at hu
 rcases hu with rfl|rfl|rfl|rfl<;>rfl⟩
structure Row where
 a:Option Addr
 c:Nat
 xs:List Int
deriving Inhabited
instance:Enc Row:=⟨λr=>[.slice r.a r.xs.length r.c],1,by omega,λ_=>rfl,λr u hu=>by
 simp only [Gh,Hy,Kx] at hu
 subst hu;rfl⟩
def K7(rs:List Row):List (List Int):=rs.map Row.xs
theorem V1(rs:List Row)(v:Int):e_ (K7 rs) v=(e_ rs v).xs:=by
 unfold K7 e_
 simp only [Gs,Ks]
 cases rs[v.toNat]? <;>rfl
section
variable {n:Net}{f L todo:List Int}{rs:List Row}{x i v:Int}{q:Nat}{hs:List V9}
theorem ROk.rl(h:ROk n (K7 rs)):(rs.length:Int)=n.nodes:=by have:=h.len;unfold K7 at this;rwa [Gi] at this
theorem ROk.row(h:ROk n (K7 rs))(h0:0<=v)(E:v<n.nodes){j:Int}(M:0<=j)(hj:j<(e_ rs v).xs.length):InH n (e_ (e_ rs v).xs j)/\J4 n (e_ (e_ rs v).xs j)=v:=by
 have:=h.all v h0 E (e_ (e_ rs v).xs j)
 rw [V1] at this
 exact this<|B3 M hj
theorem fj2{L1 M:List Int}{k:Nat}(h:∀j:Nat,j<k->e_ L1 j = -1/\e_ M j=0)(hk:k<L1.length)(E:k<M.length) :
  ∀j:Nat,j<k+1->e_ (List.set L1 ((k:Nat):Int).toNat (-1)) (j:Int) = -1/\e_ (List.set M ((k:Nat):Int).toNat 0) (j:Int)=0:=λj hj=>by
 rw [Hu,aq7 L1 k j _ hk,aq7 M k j _ E]
 by_cases e:k=j
 ·rw [By e,By e];exact ⟨rfl,rfl⟩
 rw [An e,An e];exact h j om
theorem LI.dn2(h:LI n f (K7 rs) L todo x q)(M:0<H4 n f (e_ (e_ rs x).xs (q:Int))->0<=e_ L (toH n (e_ (e_ rs x).xs (q:Int)))):LI n f (K7 rs) L todo x (q+1):=h.inc (by rw [V1];exact M)
theorem LI.dd7(E:n.Ok)(h:LI n f (K7 rs) L todo x q)(hx:0<=x)(hi:InH n (e_ (e_ rs x).xs (q:Int))/\J4 n (e_ (e_ rs x).xs (q:Int))=x)(hl:0<H4 n f (e_ (e_ rs x).xs (q:Int)))(hn:e_ L (toH n (e_ (e_ rs x).xs (q:Int)))<0) :
  LI n f (K7 rs) (L.set (toH n<|e_ (e_ rs x).xs (q:Int)).toNat (e_ L x+1)) (todo++[toH n (e_ (e_ rs x).xs (q:Int))]) x (q+1)/\un (L.set (toH n<|e_ (e_ rs x).xs (q:Int)).toNat (e_ L x+1))+1=un L:=by
 have h1:=h.put E hx hi.1 hi.2 hl hn
 refine ⟨h1.1.dn2 λ_=>?_,h1.2⟩
 have M:=X1 E hi.1
 rw [Dq _ _ _ _ M.2.1.1 M.2.1.1 (by have:=h.len;omega),By rfl]
 have:=(h.cur hx).2
 omega
theorem LI.fx9(h:LI n f (K7 rs) L todo x q)(M:(e_ rs x).xs.length<=q):LI n f (K7 rs) L todo (-1) 0:=h.over (by rw [V1];exact M)
end
theorem fc5{n:Net}{f:List Int}{hs:List V9}{rs:List Row}{L:List Int}(aa:n.Ok)(hh:HOk n f hs)(hr:ROk n (K7 rs))(ho:Sl κ I ow rs)(ah:∀i:Int,0<=i->i<rs.length->Sl κ I (.slice (e_ rs i).a (e_ rs i).xs.length (e_ rs i).c) (e_ rs i).xs)(hL:(L.length:Int)=n.nodes)(hN:(nx.length:Int)=n.nodes):er Tryz.prog κ 341 [(pt b),e7 (n.source)] (e8 b [hw,ow,lw,nw,e7 (n.sink)] 339::vc 336 hw (hs)::vc 3 lw (L)::vc 3 nw (nx)::I) (λr J=>∃L' nx':List Int,r = .bool (decide (0<=e_ L' n.sink))/\(fv2 n f L'/\(nx'.length:Int)=n.nodes/\∀z:Int,0<=z->z<n.nodes->e_ nx' z=0)/\J=e8 b [hw,ow,lw,nw,e7 (n.sink)] 339::vc 336 hw (hs)::vc 3 lw (L')::vc 3 nw (nx')::I):=by
 have a3:=aa.lim
 have a0:=aa.src
 have a4:=aa.snk
 have bg:=hh.len
 have a7:=hr.rl
 refine Ce2 Tryz.func341 C C ?_
 refine Aj<|Ga C<|Aq<|Ax<|Aj<|Gm C<|Gr (Bw C)<|Gf V4 C<|Gl ab3 ?_
 refine Gr (C3 (α:=Int) (xs:=L) Ab C A6)<|Gm C<|Aq<|A3<|B4 (σ:=Nat×(List Int)×(List Int)) (λs=>([(0,pt b),(1,e7<|n.source),(14,e7 ((L.length:Nat):Int)),(15,e7 ((s.1:Nat):Int))]:Env)) (λs=>e8 b [hw,ow,lw,nw,e7<|n.sink] 339::vc 336 hw (hs)::vc 3 lw (s.2.1)::vc 3 nw (s.2.2)::I) (λs=>(s.1<=L.length)/\(s.2.1.length=L.length)/\(s.2.2.length=nx.length)/\(∀j:Nat,j<s.1->e_ s.2.1 j = -1/\e_ s.2.2 j=0)) (λs=>L.length - s.1) (0,L,nx) ⟨om,rfl,rfl,Et⟩ (cx2<|Aa C<|Aa Co A9) Ar ?_
 rintro ⟨k,L1,ae⟩ hp
 dsimp only at hp ⊢
 obtain ⟨hk,au,ao,hz⟩:=hp
 refine Aj<|Gr (Bp C C)<|Aq<|Ax<|Am C (λaz=>?_)<|λaz=>?_
 ·refine A4 (Al<|Ax<|A3<|Aj<|Gm C<|Ga C<|Aq<|A8 mixed<|Cf (e8 b [hw,ow,lw,nw,e7<|n.sink] 339::vc 336 hw (hs)::I) 14<|Dr 0 C (Ad C)<|Dr 1 C (Bw C)<|Dr 2 C (Ai V4 C)<|Dr 3 C (Bd ab3) ?_)
  refine Dr 4 C (Ad C)<|Dr 5 C (Ad C)<|Dr 6 C (Bw C)<|Dr 7 C (Ai at1 C)<|Dr 8 C (Bd ab3) ?_
  refine Dr 9 C (Ad C)<|Ds1 10<|Sr C (A2 (α:=Int) (xs:=L1) Ab ef C C A6 om om) Ar ?_
  refine Ds1 11<|Se0 C (Cr (α:=Int) (xs:=L1) (e:=3) (new:= -1) ef C C C om om am) ?_
  refine Ds1 12<|Sr C (A2 (α:=Int) (xs:=ae) Ab ef C C A6 om om) Ar ?_
  refine Ds1 13<|Se0 C (Cr (α:=Int) (xs:=ae) (e:=3) (new:=0) ef C C C om om am) ?_
  exact Dz<|Ap<|Al<|A0 (S4 0 1 14 15)<|A1<|Gr (Rad C C)<|Gm C<|Bl<|Bh ((k+1),(List.set L1 ((k:Int)).toNat (-1)),(List.set ae ((k:Int)).toNat (0)))<|by dsimp only;exact ⟨om,(by rw [Gd];exact au),(by rw [Gd];exact ao),(fj2 hz om om)⟩
 refine B6<|Ao<|Ao<|A5<|Al<|Aj<|Gm C ?_
 have aw:k=L.length:=by omega
 subst aw
 have aj:=LI.start (f:=f) (rs:=K7 rs) aa (L0:=L1) om (λj hj=>(hz j om).1)
 have bb:(List.set L1 n.source.toNat 0).length=L1.length:=by rw [Gd]
 refine Gr (Bw C)<|Gf V4 C<|Gl ab3 ?_
 refine Gm C<|Gr (A2 (α:=Int) (xs:=L1) Ab ef C C A6 om om)<|Ge0 (Cr (α:=Int) (xs:=L1) (e:=3) (new:=0) ef C C C om om am) ?_
 refine Aq<|Ax<|Aj<|Gm C<|Ge1 (Bt (α:=Int) (cs:=[_]) (xs:=[n.source]) Ab ef C C dc dc C C C C) λax=>?_
 refine Ga C<|Aq<|A0 (S2 6 0)<|A3<|B4 (σ:=(Option Addr)×Nat×(List Int)×(List Int)) (λs=>([(0,pt b),(6,.slice s.1 s.2.2.1.length s.2.1)]:Env)) (λs=>vq 3 s.1 s.2.1 s.2.2.1::e8 b [hw,ow,lw,nw,e7<|n.sink] 339::vc 336 hw (hs)::vc 3 lw (s.2.2.2)::vc 3 nw (ae)::I) (λs=>(LI n f (K7 rs) s.2.2.2 s.2.2.1 (-1) 0)/\(un s.2.2.2+s.2.2.1.length<=n.nodes.toNat)) (λs=>un s.2.2.2+s.2.2.1.length) (ax,1,[n.source],List.set L1 (n.source).toNat (0)) ⟨aj.1,(by have:=aj.2;simp only [Fu,F_];omega)⟩ (Aa C<|Aa (Da C<|by first|rfl|simp) A9) Ar ?_
 rintro ⟨a,c,todo,L2⟩ hp
 dsimp only at hp ⊢
 obtain ⟨hI,a8⟩:=hp
 have be:=hI.len
 refine Ax<|Aj<|Gm C<|Gr (Bj Ab C)<|Gr (Cl C C)<|Aq<|Am C (λay=>?_)<|λay=>?_
 ·refine A4 (Al<|Ax<|A3<|Ax<|A8 mixed<|C1 11<|Dr 0 C (Ad C) ?_)
  have ab:=hI.wait _ (B3 (xs:=todo) (i:=0) om om)
  refine Dr 1 C (Bw C)<|Dr 2 C (Ai am8 C)<|Dr 3 C (Bd ge2) ?_
  refine Dr 4 C (Ad C)<|Dr 5 C (A2 (α:=Int) (xs:=todo) Ab ef C C A6 om om)<|Dr 6 C (B8 (xs:=todo) ef C A6 om om)<|Dr 7 C (A2 (α:=Row) (xs:=rs) Cx ab3 C C (Bc ho) om om)<|Dr 8 C (E5 (α:=Row) (xs:=rs) (u:= .slice (e_ rs<|e_ todo 0).a (e_ rs<|e_ todo 0).xs.length (e_ rs<|e_ todo 0).c) ab3 C (Bc ho) om om C)<|Dr 9 C (Bj Ab C)<|Dr 10 C (Ad C)<|Dz<|Al<|A0 (S5 54 53 52 0 6)<|A3<|B4 (σ:=Nat×(Option Addr)×Nat×(List Int)×(List Int)) (λs=>([(0,pt b),(6,.slice s.2.1 s.2.2.2.1.length s.2.2.1),(52,.slice (e_ rs<|e_ todo 0).a (e_ rs<|e_ todo 0).xs.length (e_ rs<|e_ todo 0).c),(53,e7<|(((e_ rs<|e_ todo 0).xs.length:Nat):Int)),(54,e7 ((s.1:Nat):Int))]:Env)) (λs=>vq 3 s.2.1 s.2.2.1 s.2.2.2.1::e8 b [hw,ow,lw,nw,e7<|n.sink] 339::vc 336 hw (hs)::vc 3 lw (s.2.2.2.2)::vc 3 nw (ae)::I) (λs=>(s.1<=(e_ rs<|e_ todo 0).xs.length)/\(0<s.2.2.2.1.length)/\(e_ s.2.2.2.1 0=(e_ todo 0))/\(LI n f (K7 rs) s.2.2.2.2 (s.2.2.2.1.drop 1) (e_ todo 0) s.1)/\(un s.2.2.2.2+s.2.2.2.1.length=un L2+todo.length)) (λs=>(e_ rs<|e_ todo 0).xs.length - s.1) (0,a,c,todo,L2) (show ((0:Nat)<=(e_ rs<|e_ todo 0).xs.length)/\(0<(todo:List Int).length)/\(e_ (todo:List Int) 0=(e_ todo 0))/\(LI n f (K7 rs) (L2:List Int) ((todo:List Int).drop 1) (e_ todo 0) (0:Nat))/\(un (L2:List Int)+(todo:List Int).length=un L2+todo.length) from ⟨om,om,rfl,(hI.next om),rfl⟩) (Aa C<|Aa (Da C<|by first|rfl|simp)<|cx2<|Aa Co A9) Ar ?_
  rintro ⟨q,a1,c1,w,L3⟩ hp
  dsimp only at hp ⊢
  obtain ⟨hq,ad,M,E,ai⟩:=hp
  refine W.pull (λw hs=>(Bs (ah (e_ todo 0) om om) Af).le w hs) λbh=>?_
  have bc:=E.len
  have ak:=E.cur ab.1.1
  have a9:e_ L3 (e_ w 0)+un L3<n.nodes:=by rw [M];exact (E.low _ ab.1.1 ab.1.2).2
  have a5:0<=e_ L3 (e_ w 0):=by rw [M];exact ak.2
  refine Aj<|Gr (Bp C C)<|Aq<|Ax<|Am C (λan=>?_)<|λan=>?_
  ·refine A4 (Al<|Ax<|A3<|Aj<|Gr (A2 (α:=Int) (xs:=(e_ rs<|e_ todo 0).xs) Ab ef C C (Bs (ah (e_ todo 0) om om) Af) om om)<|Gr (B8 (xs:=(e_ rs<|e_ todo 0).xs) ef C (Bs (ah (e_ todo 0) om om) Af) om om) ?_)
   have hm:=hr.row ab.1.1 ab.1.2 (j:=(q:Int)) om om
   have hg:=hh.get _ hm.1
   have ba:=X1 aa hm.1
   have bf:0<=(e_ (e_ rs<|e_ todo 0).xs (q:Int))/\(e_ (e_ rs<|e_ todo 0).xs (q:Int))<2*n.j9.length:=hm.1
   have hd:e_ L3 (e_ hs<|e_ (e_ rs<|e_ todo 0).xs (q:Int)).dst=e_ L3 (toH n<|e_ (e_ rs<|e_ todo 0).xs (q:Int)):=by rw [hg.2.1]
   refine Ga C<|Aq<|Aj<|Gm C<|Gr (Bw C)<|Gf X5 C<|Gl bm2 ?_
   refine Gm C<|Gr (A2 (α:=V9) (xs:=hs) Ck ae6 C C A6 om om)<|Gr (Cd (α:=V9) (xs:=hs) ae6 C A6 om om)<|Ge1 (Ah ae6 C) λb2=>Ge0 (gd5 ae6) ?_
   refine Aq<|A0 (S6 9 0 6 52 53 54)<|Ax<|A8 mixed<|C1 15<|Dr 0 C (Ai T3 C)<|Dr 1 C (Bd ef) ?_
   refine Dr 2 C (Cl C C)<|Dr 3 C (Ad C)<|Cw (d:=68) C (λar=>?_)<|λar=>?_
   ·refine Dro 4 C (Ad C) (Dro 5 C (Bw C)<|Dro 6 C (Ai V4 C)<|Dro 7 C (Bd ab3) ?_)
    refine Dro 8 C (Ai af9 C)<|Dro 9 C (Ai ag0 C)<|Dro 10 C (Bd ef) ?_
    refine Dro 11 C (A2 (α:=Int) (xs:=L3) Ab ef C C A6 om om)<|Dro 12 C (B8 (xs:=L3) ef C A6 om om)<|Dro 13 C (Bp C C)<|Dr 14 C (Br C C)<|Dz<|Al<|A0 (S7 79 9 0 6 52 53 54)<|Am C (λap=>?_)<|λap=>?_
    ·refine Ax (A8 mixed<|C1 18<|Dr 0 C (Ad C)<|Dr 1 C (Bw C)<|Dr 2 C (Ai V4 C)<|Dr 3 C (Bd ab3) ?_)
     refine Dr 4 C (Ai af9 C)<|Dr 5 C (Ai ag0 C)<|Dr 6 C (Bd ef) ?_
     refine Dr 7 C (Ad C)<|Dr 8 C (Bw C)<|Dr 9 C (Ai V4 C)<|Dr 10 C (Bd ab3) ?_
     refine Dr 11 C (Ad C)<|Dr 12 C (A2 (α:=Int) (xs:=w) Ab ef C C A6 om om)<|Dr 13 C (B8 (xs:=w) ef C A6 om om)<|Dr 14 C (A2 (α:=Int) (xs:=L3) Ab ef C C A6 om om)<|Dr 15 C (B8 (xs:=L3) ef C A6 om om)<|Dr 16 C (Rad C C)<|Dr 17 C (A2 (α:=Int) (xs:=L3) Ab ef C C A6 om om)<|De kr ?_
     refine Ae 18 C (Cr (α:=Int) (xs:=L3) (e:=3) (new:=(e_ L3<|e_ w 0)+1) ef C C C om om am) ?_
     rintro _ _ ⟨rfl,rfl⟩
     refine Df kr ?_
     refine Al<|A0 (S6 9 0 6 52 53 54)<|A1<|Gm C<|Gf af9 C<|Gf ag0 C<|Gl ef ?_
     refine Ge1 (Bt (α:=Int) (cs:=[_]) (xs:=[(e_ hs<|e_ ((e_ rs<|e_ todo 0).xs) (q:Int)).dst]) Ab ef C C dc dc C C C C) λa6=>?_
     refine Ge2 (Bv (α:=Int) (e:=3) (xs:=w) (ys:=([(e_ hs<|e_ ((e_ rs<|e_ todo 0).xs) (q:Int)).dst]:List Int)) Ab ef C C C mm A6 lcn dc C<|λ_ _=>am) λav aq=>?_
     exact Ga C<|Bl<|Ap<|Al<|A1<|Gr (Rad C C)<|Gm C<|Bl<|Bh ((q+1),(av),(aq),(w++([(e_ hs<|e_ ((e_ rs<|e_ todo 0).xs) (q:Int)).dst]:List Int)),(List.set L3 ((e_ hs<|e_ ((e_ rs<|e_ todo 0).xs) (q:Int)).dst).toNat ((e_ L3<|e_ w 0)+1)))<|by dsimp only;exact ⟨om,(by first|exact ad|(rw [A_];omega)),(by first|exact M|(rw [M8 ad];exact M)),(by first|exact E.dn2 (λh=>by omega)|(rw [M,hg.2.1,K8 ad];exact (E.dd7 aa ab.1.1 hm om om).1)),(by first|exact ai|(rw [M,hg.2.1,A_];have:=(E.dd7 aa ab.1.1 hm om om).2;simp only [Fu,F_];omega))⟩
    exact A4<|Ap<|Al<|A1<|Gr (Rad C C)<|Gm C<|Bl<|Bh ((q+1),(a1),(c1),(w),(L3))<|by dsimp only;exact ⟨om,(by first|exact ad|(rw [A_];omega)),(by first|exact M|(rw [M8 ad];exact M)),(by first|exact E.dn2 (λh=>by omega)|(rw [M,hg.2.1,K8 ad];exact (E.dd7 aa ab.1.1 hm om om).1)),(by first|exact ai|(rw [M,hg.2.1,A_];have:=(E.dd7 aa ab.1.1 hm om om).2;simp only [Fu,F_];omega))⟩
   exact Dpo 4 C<|Dpo 5 C<|Dpo 6 C<|Dpo 7 C<|Dpo 8 C<|Dpo 9 C<|Dpo 10 C<|Dpo 11 C<|Dpo 12 C<|Dpo 13 C<|Dr 14 C (Bg C C)<|Dz<|Al<|A0 (S7 79 9 0 6 52 53 54)<|W.no C<|A4<|Ap<|Al<|A1<|Gr (Rad C C)<|Gm C<|Bl<|Bh ((q+1),(a1),(c1),(w),(L3))<|by dsimp only;exact ⟨om,(by first|exact ad|(rw [A_];omega)),(by first|exact M|(rw [M8 ad];exact M)),(by first|exact E.dn2 (λh=>by omega)|(rw [M,hg.2.1,K8 ad];exact (E.dd7 aa ab.1.1 hm om om).1)),(by first|exact ai|(rw [M,hg.2.1,A_];have:=(E.dd7 aa ab.1.1 hm om om).2;simp only [Fu,F_];omega))⟩
  refine B6<|Ao<|Ao<|A5<|Ap<|Al<|A1<|Gm C<|Gr (En (α:=Int) (xs:=w) (l:=1) Ab ef C C om A6 om)<|Fo (J:=vq 3 (M0 a1 c1 1<|Enc.sz Int) (c1 - 1) (List.drop 1 w)::e8 b [hw,ow,lw,nw,e7<|n.sink] 339::vc 336 hw (hs)::vc 3 lw (L3)::vc 3 nw (ae)::I) (Fit.upd am<|dp9 (l:=1) om) ?_
  exact Ga C<|Bl<|Bh (((M0 a1 c1 1<|Enc.sz Int)),((c1 - 1)),(List.drop 1 w),(L3)) (by dsimp only;exact ⟨(E.fx9 om),(by rw [Ge];omega)⟩) (hlt:=by (try dsimp only);exact (by rw [Ge];omega))
 refine B6<|Ao<|Ao<|A5<|Al<|Ax<|A8 mixed<|C1 12<|Dr 0 C (Ad C)<|Dr 1 C (Bw C)<|Dr 2 C (Ai V4 C)<|Dr 3 C (Bd ab3) ?_
 refine Dr 4 C (Ad C)<|Dr 5 C (Bw C)<|Dr 6 C (Ai bw3 C)<|Dr 7 C (Bd ef) ?_
 exact Dr 8 C (A2 (α:=Int) (xs:=L2) Ab ef C C A6 om om)<|Dr 9 C (B8 (xs:=L2) ef C A6 om om)<|Dr 10 C (Eo C C)<|Dr 11 C (Bo C)<|Dz<|Al<|A0 (S1 4)<|Bq<|Ak C C (e8 b [hw,ow,lw,nw,e7<|n.sink] 339::vc 336 hw (hs)::vc 3 lw (L2)::vc 3 nw (ae)::I) Ar ⟨L2,ae,rfl,⟨hI.done aa hr om,by omega,λz h0 h1=>dz6 (p:=λz=>e_ ae z=0) (λj hj=>(hz j hj).2) h0 om⟩,rfl⟩
theorem ab4.sink{n:Net}{rs:List (List Int)}{L f:List Int}{v:Int}(e:v=n.sink)(E:f.length=n.j9.length)(M:gd7 n f)(hd:cs0 n rs L f nx)(hx:∀z:Int,0<=z->z<n.nodes->0<=e_ nx z)(d:Int):ab4 n rs L v d f nx f nx:=
 ⟨E,M,λz=>by rw [e];omega,dk5.refl _ _ _,λ_ _ _=>rfl,hd,rfl,hx,λ_ _ _ _ _=>rfl,λ_=>rfl⟩
def gn8(κ:Ctx)(I:List Item)(n:Net)(rs:List Row)(b:Nat)(hw ow lw nw:Value)(L:List Int)(lv:Int):Prop:=
 ∀(v most:Int) (f nx:List Int) (hs:List V9),e_ L v=lv->0<=v->v<n.nodes->0<=e_ L v->1<=most->most<=4611686018427387904->HOk n f hs->cs0 n (K7 rs) L f nx->(∀z:Int,0<=z->z<n.nodes->0<=e_ nx z)->((nx.length:Nat):Int)=n.nodes->er Tryz.prog κ 342 [.pointer (some ⟨b,0,none⟩),e7 v,e7 most] (e8 b [hw,ow,lw,nw,e7<|n.sink] 339::vc 336 hw (hs)::vc 3 lw (L)::vc 3 nw (nx)::I) (λr J=>∃(d:Int) (f':List Int) (hs':List V9) (nx':List Int),r=e7 d/\((0<=d/\d<=most)/\ab4 n (K7 rs) L v d f nx f' nx'/\HOk n f' hs'/\(d<most->¬Adm n f' L v))/\J=e8 b [hw,ow,lw,nw,e7<|n.sink] 339::vc 336 hw (hs')::vc 3 lw (L)::vc 3 nw (nx')::I)
theorem fb7{κ:Ctx}{I:List Item}{n:Net}{f:List Int}{hs:List V9}{rs:List Row}{b:Nat}{hw ow lw nw:Value}{L nx:List Int}{v most lv:Int}(hok:n.Ok)(hr:ROk n (K7 rs))(ho:Sl κ I ow rs)(hrow:∀i:Int,0<=i->i<rs.length->Sl κ I (.slice (e_ rs i).a (e_ rs i).xs.length (e_ rs i).c) (e_ rs i).xs)(hL:(L.length:Int)=n.nodes)(hlow:∀z:Int,0<=z->z<n.nodes-> -1<=e_ L z/\e_ L z<n.nodes)(ih:gn8 κ I n rs b hw ow lw nw L (lv+1))(hlv:e_ L v=lv)(hv0:0<=v)(hv1:v<n.nodes)(hLv:0<=e_ L v)(hm0:1<=most)(hm1:most<=4611686018427387904)(hh:HOk n f hs)(hD:cs0 n (K7 rs) L f nx)(hx:∀z:Int,0<=z->z<n.nodes->0<=e_ nx z)(hN:((nx.length:Nat):Int)=n.nodes):er Tryz.prog κ 342 [.pointer (some ⟨b,0,none⟩),e7 v,e7 most] (e8 b [hw,ow,lw,nw,e7 (n.sink)] 339::vc 336 hw (hs)::vc 3 lw (L)::vc 3 nw (nx)::I) (λr J=>∃(d:Int) (f':List Int) (hs':List V9) (nx':List Int),r=e7 d/\((0<=d/\d<=most)/\ab4 n (K7 rs) L v d f nx f' nx'/\HOk n f' hs'/\(d<most->¬Adm n f' L v))/\J=e8 b [hw,ow,lw,nw,e7 (n.sink)] 339::vc 336 hw (hs')::vc 3 lw (L)::vc 3 nw (nx')::I):=by
 have hlim:=hok.lim
 have hsrc:=hok.src
 have hsnk:=hok.snk
 have hrl:=hr.rl
 have hLw:=(hlow v hv0 hv1).2
 refine Bm (λw hs=>(Bs (hrow v om om) (by repeat (first|exact Di _|apply Fit.tail|exact Fit.au8 _ _|apply Fit.di0))).le w hs) λhrm=>?_
 refine Ce3 Tryz.func342 C C ?_
 refine Aj (Ga C (Aq (Ax (Aj (Gm C (Gm C (Gr (Bw C) (Gf bw3 C (Gl ef ?_)))))))))
 refine Gr (B7 C C) (Aq (Am C (λc16=>?_) (λc16=>?_)))
 ·exact Aj (Gm C (Ga C (Aq (Bq (Az (Ak C C (e8 b [hw,ow,lw,nw,e7 (n.sink)] 339::vc 336 hw (hs)::vc 3 lw (L)::vc 3 nw (nx)::I) Ar ⟨most,f,hs,nx,rfl,⟨⟨by omega,by omega⟩,ab4.sink c16 hh.gk2 hh.cap hD hx most,hh,λh=>by omega⟩,rfl⟩))))))
 refine A4 (Al (Aj (Ga C (Aq (Ax (A3 (B4 (σ:=Int×(List Int)×(List V9)×(List Int)) (λs=>([(0,.pointer (some ⟨b,0,none⟩)),(1,e7 v),(2,e7 most),(7,e7 (s.1))]:Env)) (λs=>e8 b [hw,ow,lw,nw,e7 (n.sink)] 339::vc 336 hw (s.2.2.1)::vc 3 lw (L)::vc 3 nw (s.2.2.2)::I) (λs=>(0<=s.1)/\(s.1<=most)/\(ab4 n (K7 rs) L v s.1 f nx s.2.1 s.2.2.2)/\(HOk n s.2.1 s.2.2.1)) (λs=>((e_ rs v).xs.length - e_ s.2.2.2 v).toNat) (0,f,hs,nx) ⟨om,om,(ab4.start hh.gk2 hh.cap hD hx v),hh⟩ (Aa C (Aa C (Aa C (Aa Co A9)))) Ar ?_)))))))
 rintro ⟨sent,f1,hs1,nx1⟩ hp
 dsimp only at hp ⊢
 obtain ⟨hs0,hs9,hP,hH1⟩:=hp
 have hnl:=hP.cn5
 have hnx0:=hP.nge v hv0 hv1
 have hhl:=hH1.len
 refine Ax (Ax (A8 mixed (C1 21 (Dr 0 C (Ad C) (Dr 1 C (Bw C) (Dr 2 C (Ai at1 C) (Dr 3 C (Bd ab3) ?_)))))))
 refine Dr 4 C (Ad C) (Dr 5 C (A2 (α:=Int) (xs:=nx1) Ab ef C C A6 om om) (Dr 6 C (B8 (xs:=nx1) ef C A6 om om) (Dr 7 C (Ad C) (Dr 8 C (Bw C) (Dr 9 C (Ai am8 C) (Dr 10 C (Bd ge2) ?_))))))
 refine Dr 11 C (Ad C) (Dr 12 C (A2 (α:=Row) (xs:=rs) Cx ab3 C C (Bc ho) om om) (Dr 13 C (E5 (α:=Row) (xs:=rs) (u:= .slice (e_ rs v).a (e_ rs v).xs.length (e_ rs v).c) ab3 C (Bc ho) om om C) (Dr 14 C (Bj Ab C) (Dr 15 C (Bp C C) (Dr 16 C (Ad C) (Cw (d:=34) C (λg34=>?_) (λg34=>?_)))))))
 ·refine Dro 17 C (Ad C) (Dro 18 C (Ad C) (Dro 19 C (Bp C C) (Dr 20 C (Br C C) (Dz (Al (A0 (S5 38 0 1 2 7 C C C C C) (Am C (λc38=>?_) (λc38=>?_))))))))
  ·refine A4 (Al (D2 (σ:=Int×(List Int)×(List V9)×(List Int)) (λs=>([(0,.pointer (some ⟨b,0,none⟩)),(1,e7 v),(2,e7 most),(7,e7 (s.1))]:Env)) (λs=>e8 b [hw,ow,lw,nw,e7 (n.sink)] 339::vc 336 hw (s.2.2.1)::vc 3 lw (L)::vc 3 nw (s.2.2.2)::I) (λs=>(0<=s.1/\s.1<=most)/\(ab4 n (K7 rs) L v s.1 f nx s.2.1 s.2.2.2)/\(HOk n s.2.1 s.2.2.1)/\(e_ s.2.2.2 v=e_ nx1 v)/\(¬(0<H4 n s.2.1 (e_ (e_ rs v).xs (e_ s.2.2.2 v))/\e_ L (toH n (e_ (e_ rs v).xs (e_ s.2.2.2 v)))=e_ L v+1/\Adm n s.2.1 L (toH n (e_ (e_ rs v).xs (e_ s.2.2.2 v)))))) ?_ ?_))
   ·refine A3 (Ax (A8 mixed (C1 17 (Dr 0 C (Ad C) (Dr 1 C (Bw C) (Dr 2 C (Ai am8 C) (Dr 3 C (Bd ge2) ?_)))))))
    refine Dr 4 C (Ad C) (Dr 5 C (A2 (α:=Row) (xs:=rs) Cx ab3 C C (Bc ho) om om) (Dr 6 C (E5 (α:=Row) (xs:=rs) (u:= .slice (e_ rs v).a (e_ rs v).xs.length (e_ rs v).c) ab3 C (Bc ho) om om C) (Dr 7 C (Ad C) (Dr 8 C (Bw C) (Dr 9 C (Ai at1 C) (Dr 10 C (Bd ab3) ?_))))))
    refine Dr 11 C (Ad C) (Dr 12 C (A2 (α:=Int) (xs:=nx1) Ab ef C C A6 om om) ?_)
    have hm:=hr.row hv0 hv1 (j:=e_ nx1 v) om om
    have hg:=hH1.get _ hm.1
    have hfo:=X1 hok hm.1
    have hi2:0<=(e_ (e_ rs v).xs (e_ nx1 v))/\(e_ (e_ rs v).xs (e_ nx1 v))<2*n.j9.length:=hm.1
    have hlk:=co2 hH1.cap hm.1
    have hak:=(fv0 hok hm.1.half.1 hm.1.half.2).2.2.2
    have hd:e_ L (e_ hs1 (e_ (e_ rs v).xs (e_ nx1 v))).dst=e_ L (toH n (e_ (e_ rs v).xs (e_ nx1 v))):=by rw [hg.2.1]
    refine Dr 13 C (B8 (xs:=nx1) ef C A6 om om) (Dr 14 C (A2 (α:=Int) (xs:=(e_ rs v).xs) Ab ef C C (Bs (hrow v om om) Af) om om) (Dr 15 C (B8 (xs:=(e_ rs v).xs) ef C (Bs (hrow v om om) Af) om om) (Dr 16 C (Bo C) (Dz (Al (A0 (S5 8 0 1 2 7 C C C C C) (Aj (Gm C (Gr (Bw C) (Gf X5 C (Gl bm2 ?_)))))))))))
    refine Gm C (Gr (A2 (α:=V9) (xs:=hs1) Ck ae6 C C A6 om om) (Gr (Cd (α:=V9) (xs:=hs1) ae6 C A6 om om) (Ge1 (Ah ae6 C) λb1=>Ge0 (gd5 ae6) ?_)))
    refine Aq (Ax (Ax (A8 mixed (C1 23 (Dr 0 C (Ai T3 C) (Dr 1 C (Bd ef) ?_))))))
    refine Dr 2 C (B7 C C) (Dr 3 C (Ad C) (Cw (d:=74) C (λg74=>?_) (λg74=>?_)))
    ·exact Dpo 4 C (Dpo 5 C (Dpo 6 C (Dpo 7 C (Dpo 8 C (Dpo 9 C (Dpo 10 C (Dpo 11 C (Dpo 12 C (Dpo 13 C (Dpo 14 C (Dpo 15 C (Dpo 16 C (Dpo 17 C (Dpo 18 C (Dpo 19 C (Dpo 20 C (Dpo 21 C (Dr 22 C (Br C C) (Dz (Al (A0 (S7 93 9 8 0 1 2 7 C C C C C C C) (W.yes C (B6 (Ao (A5 (Bu ((sent),(f1),(hs1),(nx1)) (by dsimp only;exact ⟨om,(by first|exact hP|exact hput.1),(by first|exact hH1|exact hHp),(by first|rfl|exact hput.2.1),(by first|(rintro ⟨a,b,c⟩;omega)|(rw [hput.2.1];have hused2:=hused c135;rw [hm.2] at hused2;exact hused2))⟩)))))))))))))))))))))))))))
    refine Dro 4 C (Ad C) (Dro 5 C (Bw C) (Dro 6 C (Ai V4 C) (Dro 7 C (Bd ab3) ?_)))
    refine Dro 8 C (Ai af9 C) (Dro 9 C (Ai ag0 C) (Dro 10 C (Bd ef) ?_))
    refine Dro 11 C (A2 (α:=Int) (xs:=L) Ab ef C C A6 om om) (Dro 12 C (B8 (xs:=L) ef C A6 om om) (Dro 13 C (Ad C) (Dro 14 C (Bw C) (Dro 15 C (Ai V4 C) (Dro 16 C (Bd ab3) ?_)))))
    refine Dro 17 C (Ad C) (Dro 18 C (A2 (α:=Int) (xs:=L) Ab ef C C A6 om om) (Dro 19 C (B8 (xs:=L) ef C A6 om om) (Dro 20 C (Rad C C) (Dro 21 C (Cu C C) (Dr 22 C (Bg C C) (Dz (Al (A0 (S7 93 9 8 0 1 2 7 C C C C C C C) (Am C (λc93=>?_) (λc93=>?_))))))))))
    ·exact B6 (Ao (A5 (Bu ((sent),(f1),(hs1),(nx1)) (by dsimp only;exact ⟨om,(by first|exact hP|exact hput.1),(by first|exact hH1|exact hHp),(by first|rfl|exact hput.2.1),(by first|(rintro ⟨a,b,c⟩;omega)|(rw [hput.2.1];have hused2:=hused c135;rw [hm.2] at hused2;exact hused2))⟩))))
    refine A4 (Al (Aj (Gm C (Gf af9 C (Gf ag0 C (Gl ef ?_))))))
    refine Gm C (Gm C (Gr (Rsu C C) (Gf T3 C (Gl ef ?_))))
    refine Gr (j0.min C C) (G.e (Ac c_ C C (Cm (J:=e8 b [hw,ow,lw,nw,e7 (n.sink)] 339::vc 336 hw (hs1)::vc 3 lw (L)::vc 3 nw (nx1)::I) Ar (ih (e_ hs1 (e_ (e_ rs v).xs (e_ nx1 v))).dst (if ((e_ hs1 (e_ ((e_ rs v).xs) (e_ nx1 v))).left)<(most - sent) then ((e_ hs1 (e_ ((e_ rs v).xs) (e_ nx1 v))).left) else (most - sent)) f1 nx1 hs1 om om om om (by split<;>omega) (by split<;>omega) hH1 hP.dead hP.nge om))) ?_)
    rintro _ _ ⟨_,_,⟨d2,f3,hs4,nx5,rfl,⟨hbd2,hPd2,hHd2,hAd2⟩,rfl⟩,rfl,rfl⟩
    rw [hg.2.1] at hPd2 hAd2
    have hL1:e_ L (toH n (e_ (e_ rs v).xs (e_ nx1 v)))=e_ L v+1:=by omega
    have hle:d2<=(if (e_ hs1 (e_ (e_ rs v).xs (e_ nx1 v))).left<most - sent then (e_ hs1 (e_ (e_ rs v).xs (e_ nx1 v))).left else most - sent):=hbd2.2
    have hle2:d2<=(e_ hs1 (e_ (e_ rs v).xs (e_ nx1 v))).left/\d2<=most - sent:=by revert hle;split<;>omega
    have hput:=hP.put hok hr hm.1 hm.2 hL1 hs0 hbd2.1 om hPd2
    have hg2:=hHd2.get _ hm.1
    have hg3:=hHd2.get _ hm.1.fu3
    have hls:=fj0 n f3 (e_ (e_ rs v).xs (e_ nx1 v))
    have hhl2:=hHd2.len
    have hlk2:=co2 hHd2.cap hm.1
    have hlk3:=co2 hHd2.cap hm.1.fu3
    have hmi:0<=F9 (e_ (e_ rs v).xs (e_ nx1 v))/\F9 (e_ (e_ rs v).xs (e_ nx1 v))<2*n.j9.length:=hm.1.fu3
    have hmh:=bg3 (e_ (e_ rs v).xs (e_ nx1 v))
    rw [hmh] at hlk3
    have hused:=fun (hne:¬sent+d2=most)=>ab4.used (e:=d2) (m:=(if (e_ hs1 (e_ (e_ rs v).xs (e_ nx1 v))).left<most - sent then (e_ hs1 (e_ (e_ rs v).xs (e_ nx1 v))).left else most - sent)) hm.1 (Decidable.byCases (λh:d2<(if (e_ hs1 (e_ (e_ rs v).xs (e_ nx1 v))).left<most - sent then (e_ hs1 (e_ (e_ rs v).xs (e_ nx1 v))).left else most - sent)=> .inl h) (λh=> .inr (by have hls2:=hput.2.2;revert h;split<;>omega))) (λh=>hAd2 h) hPd2.len hbd2.1 (by rw [hm.2];exact hL1)
    refine Ga C (Aq (A0 (S6 10 8 0 1 2 7 C C C C C C) (Aj (Gm C (Gr (Bw C) (Gf X5 C (Gl bm2 ?_)))))))
    refine Gm C (Gr (A2 (α:=V9) (xs:=hs4) Ck ae6 C C A6 om om) (Gr (D4 (α:=V9) (xs:=hs4) T3 C A6 om) (Gr (D9 (α:=V9) (xs:=hs4) (u:=e7 ((e_ hs4 (e_ ((e_ rs v).xs) (e_ nx1 v))).left)) ef C A6 om om C) (Gm C (Gr (Rsu C C) (Gr (A2 (α:=V9) (xs:=hs4) Ck ae6 C C A6 om om) (Gr (D4 (α:=V9) (xs:=hs4) T3 C A6 om) (Ge0 (Eff.gg4 (α:=V9) (xs:=hs4) (e:=336) (new:={e_ hs4 (e_ ((e_ rs v).xs) (e_ nx1 v)) with left:=((e_ hs4 (e_ ((e_ rs v).xs) (e_ nx1 v))).left) - d2}) (j:=3) ef C C C C dc C om om am) ?_))))))))
    have hmt:e_ (List.set hs4 (e_ ((e_ rs v).xs) (e_ nx1 v)).toNat ({e_ hs4 (e_ ((e_ rs v).xs) (e_ nx1 v)) with left:=((e_ hs4 (e_ ((e_ rs v).xs) (e_ nx1 v))).left) - d2})) (F9 (e_ (e_ rs v).xs (e_ nx1 v)))=e_ hs4 (F9 (e_ (e_ rs v).xs (e_ nx1 v))):=by rw [Dq hs4 _ _ _ om om om,An (λe=>cn9 _ e.symm)]
    have hmt1:(e_ (List.set hs4 (e_ ((e_ rs v).xs) (e_ nx1 v)).toNat ({e_ hs4 (e_ ((e_ rs v).xs) (e_ nx1 v)) with left:=((e_ hs4 (e_ ((e_ rs v).xs) (e_ nx1 v))).left) - d2})) (F9 (e_ (e_ rs v).xs (e_ nx1 v)))).left=H4 n f3 (F9 (e_ (e_ rs v).xs (e_ nx1 v))):=by rw [hmt];exact hg3.2.2
    have hsl:(List.set hs4 (e_ ((e_ rs v).xs) (e_ nx1 v)).toNat ({e_ hs4 (e_ ((e_ rs v).xs) (e_ nx1 v)) with left:=((e_ hs4 (e_ ((e_ rs v).xs) (e_ nx1 v))).left) - d2})).length=hs4.length:=Gd
    refine Aq (A0 (S6 10 8 0 1 2 7 C C C C C C) (Aj (Gm C (Gr (Bw C) (Gf X5 C (Gl bm2 ?_))))))
    refine Gm C (Gr ((cs6 (i:=e_ ((e_ rs v).xs) (e_ nx1 v)) om om)▸j0.gw1 C C) (Gr (A2 (α:=V9) (xs:=List.set hs4 (e_ ((e_ rs v).xs) (e_ nx1 v)).toNat ({e_ hs4 (e_ ((e_ rs v).xs) (e_ nx1 v)) with left:=((e_ hs4 (e_ ((e_ rs v).xs) (e_ nx1 v))).left) - d2})) Ck ae6 C C A6 om om) (Gr (D4 (α:=V9) (xs:=List.set hs4 (e_ ((e_ rs v).xs) (e_ nx1 v)).toNat ({e_ hs4 (e_ ((e_ rs v).xs) (e_ nx1 v)) with left:=((e_ hs4 (e_ ((e_ rs v).xs) (e_ nx1 v))).left) - d2})) T3 C A6 om) (Gr (D9 (α:=V9) (xs:=List.set hs4 (e_ ((e_ rs v).xs) (e_ nx1 v)).toNat ({e_ hs4 (e_ ((e_ rs v).xs) (e_ nx1 v)) with left:=((e_ hs4 (e_ ((e_ rs v).xs) (e_ nx1 v))).left) - d2})) (u:=e7 ((e_ (List.set hs4 (e_ ((e_ rs v).xs) (e_ nx1 v)).toNat ({e_ hs4 (e_ ((e_ rs v).xs) (e_ nx1 v)) with left:=((e_ hs4 (e_ ((e_ rs v).xs) (e_ nx1 v))).left) - d2})) (F9 (e_ ((e_ rs v).xs) (e_ nx1 v)))).left)) ef C A6 om om C) (Gm C (Gr (Rad C C) (Gr (A2 (α:=V9) (xs:=List.set hs4 (e_ ((e_ rs v).xs) (e_ nx1 v)).toNat ({e_ hs4 (e_ ((e_ rs v).xs) (e_ nx1 v)) with left:=((e_ hs4 (e_ ((e_ rs v).xs) (e_ nx1 v))).left) - d2})) Ck ae6 C C A6 om om) (Gr (D4 (α:=V9) (xs:=List.set hs4 (e_ ((e_ rs v).xs) (e_ nx1 v)).toNat ({e_ hs4 (e_ ((e_ rs v).xs) (e_ nx1 v)) with left:=((e_ hs4 (e_ ((e_ rs v).xs) (e_ nx1 v))).left) - d2})) T3 C A6 om) (Ge0 (Eff.gg4 (α:=V9) (xs:=List.set hs4 (e_ ((e_ rs v).xs) (e_ nx1 v)).toNat ({e_ hs4 (e_ ((e_ rs v).xs) (e_ nx1 v)) with left:=((e_ hs4 (e_ ((e_ rs v).xs) (e_ nx1 v))).left) - d2})) (e:=336) (new:={e_ (List.set hs4 (e_ ((e_ rs v).xs) (e_ nx1 v)).toNat ({e_ hs4 (e_ ((e_ rs v).xs) (e_ nx1 v)) with left:=((e_ hs4 (e_ ((e_ rs v).xs) (e_ nx1 v))).left) - d2})) (F9 (e_ ((e_ rs v).xs) (e_ nx1 v))) with left:=((e_ (List.set hs4 (e_ ((e_ rs v).xs) (e_ nx1 v)).toNat ({e_ hs4 (e_ ((e_ rs v).xs) (e_ nx1 v)) with left:=((e_ hs4 (e_ ((e_ rs v).xs) (e_ nx1 v))).left) - d2})) (F9 (e_ ((e_ rs v).xs) (e_ nx1 v)))).left)+d2}) (j:=3) ef C C C C dc C om om am) ?_)))))))))
    have hHp:HOk n (ah6 f3 (e_ (e_ rs v).xs (e_ nx1 v)) d2) (List.set (List.set hs4 (e_ ((e_ rs v).xs) (e_ nx1 v)).toNat ({e_ hs4 (e_ ((e_ rs v).xs) (e_ nx1 v)) with left:=((e_ hs4 (e_ ((e_ rs v).xs) (e_ nx1 v))).left) - d2})) (F9 (e_ ((e_ rs v).xs) (e_ nx1 v))).toNat ({e_ (List.set hs4 (e_ ((e_ rs v).xs) (e_ nx1 v)).toNat ({e_ hs4 (e_ ((e_ rs v).xs) (e_ nx1 v)) with left:=((e_ hs4 (e_ ((e_ rs v).xs) (e_ nx1 v))).left) - d2})) (F9 (e_ ((e_ rs v).xs) (e_ nx1 v))) with left:=((e_ (List.set hs4 (e_ ((e_ rs v).xs) (e_ nx1 v)).toNat ({e_ hs4 (e_ ((e_ rs v).xs) (e_ nx1 v)) with left:=((e_ hs4 (e_ ((e_ rs v).xs) (e_ nx1 v))).left) - d2})) (F9 (e_ ((e_ rs v).xs) (e_ nx1 v)))).left)+d2})):=hHd2.push hm.1 hbd2.1 om
    refine Aq (A0 (S5 10 0 1 2 7 C C C C C) (Aj (Gm C (Gm C (Gr (Rad C C) (Ga C (Aq (Aj (Gm C (Gm C (Gr (B7 C C) (Aq (Am C (λc135=>?_) (λc135=>?_))))))))))))))
    ·exact Aj (Gm C (Ga C (Aq (A0 (S1 6 C) (Bq (Bf (Az (Az (Bf (Az (Ak C C (e8 b [hw,ow,lw,nw,e7 (n.sink)] 339::vc 336 hw (List.set (List.set hs4 (e_ ((e_ rs v).xs) (e_ nx1 v)).toNat ({e_ hs4 (e_ ((e_ rs v).xs) (e_ nx1 v)) with left:=((e_ hs4 (e_ ((e_ rs v).xs) (e_ nx1 v))).left) - d2})) (F9 (e_ ((e_ rs v).xs) (e_ nx1 v))).toNat ({e_ (List.set hs4 (e_ ((e_ rs v).xs) (e_ nx1 v)).toNat ({e_ hs4 (e_ ((e_ rs v).xs) (e_ nx1 v)) with left:=((e_ hs4 (e_ ((e_ rs v).xs) (e_ nx1 v))).left) - d2})) (F9 (e_ ((e_ rs v).xs) (e_ nx1 v))) with left:=((e_ (List.set hs4 (e_ ((e_ rs v).xs) (e_ nx1 v)).toNat ({e_ hs4 (e_ ((e_ rs v).xs) (e_ nx1 v)) with left:=((e_ hs4 (e_ ((e_ rs v).xs) (e_ nx1 v))).left) - d2})) (F9 (e_ ((e_ rs v).xs) (e_ nx1 v)))).left)+d2}))::vc 3 lw (L)::vc 3 nw (nx5)::I) Ar ⟨_,_,_,_,rfl,⟨⟨by omega,by omega⟩,hput.1,hHp,λh=>by omega⟩,rfl⟩)))))))))))
    exact A4 (Ap (Bu ((sent+d2),(ah6 f3 (e_ (e_ rs v).xs (e_ nx1 v)) d2),(List.set (List.set hs4 (e_ ((e_ rs v).xs) (e_ nx1 v)).toNat ({e_ hs4 (e_ ((e_ rs v).xs) (e_ nx1 v)) with left:=((e_ hs4 (e_ ((e_ rs v).xs) (e_ nx1 v))).left) - d2})) (F9 (e_ ((e_ rs v).xs) (e_ nx1 v))).toNat ({e_ (List.set hs4 (e_ ((e_ rs v).xs) (e_ nx1 v)).toNat ({e_ hs4 (e_ ((e_ rs v).xs) (e_ nx1 v)) with left:=((e_ hs4 (e_ ((e_ rs v).xs) (e_ nx1 v))).left) - d2})) (F9 (e_ ((e_ rs v).xs) (e_ nx1 v))) with left:=((e_ (List.set hs4 (e_ ((e_ rs v).xs) (e_ nx1 v)).toNat ({e_ hs4 (e_ ((e_ rs v).xs) (e_ nx1 v)) with left:=((e_ hs4 (e_ ((e_ rs v).xs) (e_ nx1 v))).left) - d2})) (F9 (e_ ((e_ rs v).xs) (e_ nx1 v)))).left)+d2})),(nx5)) (by dsimp only;exact ⟨om,(by first|exact hP|exact hput.1),(by first|exact hH1|exact hHp),(by first|rfl|exact hput.2.1),(by first|(rintro ⟨a,b,c⟩;omega)|(rw [hput.2.1];have hused2:=hused c135;rw [hm.2] at hused2;exact hused2))⟩)))
   rintro ⟨sent2,f2,hs2,nx2⟩ hp
   obtain ⟨hs20,hP2,hH2,hnx2,hD2⟩:(0<=sent2/\sent2<=most)/\(ab4 n (K7 rs) L v sent2 f nx f2 nx2)/\(HOk n f2 hs2)/\(e_ nx2 v=e_ nx1 v)/\(¬(0<H4 n f2 (e_ (e_ rs v).xs (e_ nx2 v))/\e_ L (toH n (e_ (e_ rs v).xs (e_ nx2 v)))=e_ L v+1/\Adm n f2 L (toH n (e_ (e_ rs v).xs (e_ nx2 v))))):=hp
   refine A1 (Gm C ?_)
   have hnl2:=hP2.cn5
   have hnx20:=hP2.nge v hv0 hv1
   refine Gr (Bw C) (Gf at1 C (Gl ab3 ?_))
   refine Gm C (Gr (A2 (α:=Int) (xs:=nx2) Ab ef C C A6 om om) (Gr (B8 (xs:=nx2) ef C A6 om om) (Gr (Rad C C) (Gr (A2 (α:=Int) (xs:=nx2) Ab ef C C A6 om om) (Ge0 (Cr (α:=Int) (xs:=nx2) (e:=3) (new:=(e_ nx2 v)+1) ef C C C om om am) ?_)))))
   exact Bl (Bh ((sent2),(f2),(hs2),(List.set nx2 (v).toNat ((e_ nx2 v)+1))) (by dsimp only;exact ⟨om,om,(hP2.adv om (by rw [V1];exact hD2) hv1),hH2⟩) (hlt:=by (try dsimp only);exact (by rw [Dq nx2 v v _ hv0 hv0 om,By rfl];omega)))
  exact B6 (Ao (Ao (A5 (Al (Aj (Gm C (Ga C (Aq (Bq (Ak C C (e8 b [hw,ow,lw,nw,e7 (n.sink)] 339::vc 336 hw (hs1)::vc 3 lw (L)::vc 3 nw (nx1)::I) Ar ⟨_,_,_,_,rfl,⟨⟨hs0,hs9⟩,hP,hH1,λh=>by first|omega|exact cs0.not hr hP.dead ⟨hv0,hv1⟩ c16 (by rw [V1];omega)⟩,rfl⟩))))))))))
 exact Dpo 17 C (Dpo 18 C (Dpo 19 C (Dr 20 C (Bg C C) (Dz (Al (A0 (S5 38 0 1 2 7 C C C C C) (W.no C (B6 (Ao (Ao (A5 (Al (Aj (Gm C (Ga C (Aq (Bq (Ak C C (e8 b [hw,ow,lw,nw,e7 (n.sink)] 339::vc 336 hw (hs1)::vc 3 lw (L)::vc 3 nw (nx1)::I) Ar ⟨_,_,_,_,rfl,⟨⟨hs0,hs9⟩,hP,hH1,λh=>by first|omega|exact cs0.not hr hP.dead ⟨hv0,hv1⟩ c16 (by rw [V1];omega)⟩,rfl⟩))))))))))))))))))
end Go.Sl
