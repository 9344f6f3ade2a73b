/- A part of the proofs of statements of this seat: contracts of functions, and the plain laws that they lean on. No conditions. -/
import Derived.Test.YtoagcglbkeomgaaGreatDoorS4
import Derived.LoopN
import Derived.Test.YtoagcglbkeomgaaGreatDoorProg
set_option linter.unusedVariables false
set_option linter.unusedSimpArgs false
set_option linter.unusedSectionVars false
open Go.Proofs.Tryz (prog)
namespace Go.Sl
variable{x:Int}{k:Nat}{a b:Bool}
section
def cntN(nb:Int->List Int)(X:Int->Bool)(x:Int):Nat:=((nb x).filter X).length
structure ClosN (V:Int->Prop) (nb:Int->List Int) (k:Nat) (X:Int->Bool):Prop where
 dom:∀x,X x=true->V x
 deg:∀x,X x=true->k<=cntN nb X x
def IsCore(V:Int->Prop)(nb:Int->List Int)(n:Int->Nat):Prop:=∀x,V x->∀k:Nat,k<=n x↔∃X,ClosN V nb k X/\X x=true
structure MoreE (V:Int->Prop) (nb nb':Int->List Int) (u v:Int):Prop where
 vu:V u
 vv:V v
 ne:u≠v
 oth:∀X x,x≠u->x≠v->cntN nb' X x=cntN nb X x
 cu:∀X:Int->Bool,cntN nb' X u=cntN nb X u+if X v=true then 1 else 0
 cv:∀X:Int->Bool,cntN nb' X v=cntN nb X v+if X u=true then 1 else 0
variable {V:Int->Prop}{nb nb':Int->List Int}{n:Int->Nat}{u v:Int}
theorem cntN_mono{X Y:Int->Bool}(h:∀y∈nb x,X y=true->Y y=true):cntN nb X x<=cntN nb Y x:=filter_mono h
theorem MoreE.le(h:MoreE V nb nb' u v)(X:Int->Bool)(x:Int):cntN nb X x<=cntN nb' X x/\cntN nb' X x<=cntN nb X x+1:=by
 by_cases hu:x=u
 ·subst hu;rw [h.cu];split<;>omega
 by_cases hv:x=v
 ·subst hv;rw [h.cv];split<;>omega
 rw [h.oth X x hu hv];omega
theorem MoreE.same(h:MoreE V nb nb' u v){X:Int->Bool}(M:¬(X u=true/\X v=true))(Z:X x=true):cntN nb' X x=cntN nb X x:=by
 by_cases hu:x=u
 ·subst hu;rw [h.cu,if_neg λe=>M ⟨Z,e⟩];rfl
 by_cases hv:x=v
 ·subst hv;rw [h.cv,if_neg λe=>M ⟨e,Z⟩];rfl
 exact h.oth X x hu hv
theorem IsCore.ge(hn:IsCore V nb n){X:Int->Bool}(h:ClosN V nb k X)(Z:X x=true):k<=n x:=(hn x (h.dom x Z) k).2 ⟨X,h,Z⟩
theorem IsCore.nbrs(hn:IsCore V nb n)(hx:V x)(hk:k<=n x):∃Z,ClosN V nb k Z/\Z x=true/\∀y,Z y=true->V y/\k<=n y:=by
 obtain ⟨Z,M,h2⟩:=(hn x hx k).1 hk
 exact ⟨Z,M,h2,λy hy=>⟨M.dom y hy,hn.ge M hy⟩⟩
theorem or_t:(a||b)=true↔a=true\/b=true:=by cases a<;>cases b<;>simp
theorem and_t:(a&&b)=true↔a=true/\b=true:=by cases a<;>cases b<;>simp
noncomputable def upN(V:Int->Prop)(n:Int->Nat)(k:Nat)(x:Int):Bool:= @decide (V x/\k<=n x) (Classical.propDecidable _)
theorem upN_t:upN V n k x=true↔V x/\k<=n x:= @decide_eq_true_iff _ (Classical.propDecidable _)
theorem core_ins(hn:IsCore V nb n)(h:MoreE V nb nb' u v)(aw:∀x y,V x->V y->y∈nb' x->x∈nb' y)(hk:k=min (n u) (n v)){R S:Int->Bool}
  (aq:∀x,R x=true->V x/\n x=k) (az:n u=k->R u=true) (ay:n v=k->R v=true) (ao:∀x y,R x=true->y∈nb' x->V y->n y=k->R y=true)
  (av:∀x,S x=true->R x=true) (a0:∀x,S x=true->k+1<=cntN nb' (λy=>S y||upN V n (k+1) y) x)
  (a1:∀T:Int->Bool,(∀x,T x=true->R x=true)->(∀x,T x=true->k+1<=cntN nb' (λy=>T y||upN V n (k+1) y) x)->∀x,T x=true->S x=true) :
  IsCore V nb' λx=>n x+if S x=true then 1 else 0:=by
 have ak:∀{Z:Int->Bool} {j:Nat},(∀y,Z y=true->V y/\j<=n y)->∀y,Z y=true->upN V n j y=true:=λhZ y hy=>upN_t.2 (hZ y hy)
 intro x hx j
 constructor
 ·intro hj
  have hj:j<=n x+if S x=true then 1 else 0:=hj
  by_cases hjn:j<=n x
  ·obtain ⟨Z,h1,h2⟩:=(hn x hx j).1 hjn
   exact ⟨Z,⟨h1.dom,λy hy=>Nat.le_trans (h1.deg y hy) (h.le Z y).1⟩,h2⟩
  have hS:S x=true:=Classical.byContradiction λhs=>by rw [if_neg hs] at hj;omega
  rw [if_pos hS] at hj
  have ap:=(aq x<|av x hS).2
  obtain rfl:j=k+1:=by omega
  refine ⟨λy=>S y||upN V n (k+1) y,⟨λy hy=>?_,λy hy=>?_⟩,or_t.2<|.inl hS⟩
  ·rcases or_t.1 hy with hy|hy
   ·exact (aq y<|av y hy).1
   exact (upN_t.1 hy).1
  rcases or_t.1 hy with hy|hy
  ·exact a0 y hy
  obtain ⟨Z,h1,h2,h3⟩:=hn.nbrs (upN_t.1 hy).1 (upN_t.1 hy).2
  exact Nat.le_trans (h1.deg y h2)<|Nat.le_trans (h.le Z y).1 (cntN_mono λz _ hz=>or_t.2<|.inr<|ak h3 z hz)
 rintro ⟨X,hX,ad⟩
 show j<=n x+if S x=true then 1 else 0
 by_cases hb:X u=true/\X v=true
 ·have h1:ClosN V nb (j - 1) X:=⟨hX.dom,λy hy=>by have:=hX.deg y hy;have:=h.le X y;omega⟩
  have a4:=hn.ge h1 hb.1
  have a3:=hn.ge h1 hb.2
  have a5:j<=k+1:=by omega
  by_cases hj2:j<=k
  ·have:ClosN V nb j λy=>X y||upN V n j y:=⟨λy hy=>by
    rcases or_t.1 hy with hy|hy
    ·exact hX.dom y hy
    ·exact (upN_t.1 hy).1,λy hy=>by
    by_cases hc:upN V n j y=true
    ·obtain ⟨Z,z1,z2,z3⟩:=hn.nbrs (upN_t.1 hc).1 (upN_t.1 hc).2
     exact Nat.le_trans (z1.deg y z2)<|cntN_mono λz _ hz=>or_t.2<|.inr<|ak z3 z hz
    have M:X y=true:=(or_t.1 hy).elim id λe=>absurd e hc
    have aj:y≠u:=λe=>hc (upN_t.2 ⟨hX.dom y M,by rw [e];omega⟩)
    have ah:y≠v:=λe=>hc (upN_t.2 ⟨hX.dom y M,by rw [e];omega⟩)
    have:=hX.deg y M
    rw [h.oth X y aj ah] at this
    exact Nat.le_trans this (cntN_mono λz _ hz=>or_t.2 (.inl hz))⟩
   have:=hn.ge this (x:=x) (or_t.2<|.inl ad)
   omega
  obtain rfl:j=k+1:=by omega
  by_cases hxk1:k+1<=n x
  ·omega
  have ai:∀y,X y=true->k<=n y:=λy hy=>hn.ge h1 hy
  have ap:n x=k:=by have:=ai x ad;omega
  have ae:R x=true:=Classical.byContradiction λae=>by
   have:ClosN V nb (k+1) λy=>(X y && !R y&&Nat.beq (n y) k)||upN V n (k+1) y:=⟨λy hy=>by
    rcases or_t.1 hy with hy|hy
    ·exact hX.dom y (and_t.1 (and_t.1 hy).1).1
    ·exact (upN_t.1 hy).1,λy hy=>by
    rcases or_t.1 hy with hy|hy
    ·have M:=(and_t.1 (and_t.1 hy).1).1
     have ab:R y≠true:=by have:=(and_t.1 (and_t.1 hy).1).2;intro e;rw [e] at this;cases this
     have an:n y=k:=Nat.eq_of_beq_eq_true (and_t.1 hy).2
     have aj:y≠u:=λe=>ab (by rw [e];exact az<|e▸an)
     have ah:y≠v:=λe=>ab (by rw [e];exact ay<|e▸an)
     rw [←h.oth _ y aj ah]
     refine Nat.le_trans (hX.deg y M)<|cntN_mono λz hz aa=>?_
     have ax:=ai z aa
     by_cases hz1:k+1<=n z
     ·exact or_t.2<|.inr<|upN_t.2 ⟨hX.dom z aa,hz1⟩
     have ar:n z=k:=by omega
     refine or_t.2<|.inl<|and_t.2 ⟨and_t.2 ⟨aa,?_⟩,by rw [ar];exact Nat.beq_refl k⟩
     cases hRz:R z with
     |false=>rfl
     |true=>exact absurd (ao z y hRz (aw y z (hX.dom y M) (hX.dom z aa) hz) (hX.dom y M) an) ab
    obtain ⟨Z,z1,z2,z3⟩:=hn.nbrs (upN_t.1 hy).1 (upN_t.1 hy).2
    exact Nat.le_trans (z1.deg y z2) (cntN_mono λz _ hz=>or_t.2 (.inr (ak z3 z hz)))⟩
   have au:R x=false:=by cases e:R x with |false=>rfl|true=>exact absurd e ae
   have:=hn.ge this (x:=x) (or_t.2<|.inl<|and_t.2 ⟨and_t.2 ⟨ad,by rw [au];rfl⟩,by rw [ap];exact Nat.beq_refl k⟩)
   omega
  have hT:=a1 (λy=>X y&&R y) (λy hy=>(and_t.1 hy).2) (λy hy=>by
   obtain ⟨M,ab⟩:=and_t.1 hy
   refine Nat.le_trans (hX.deg y M)<|cntN_mono λz hz aa=>?_
   have ax:=ai z aa
   by_cases hz1:k+1<=n z
   ·exact or_t.2<|.inr<|upN_t.2 ⟨hX.dom z aa,hz1⟩
   exact or_t.2 (.inl (and_t.2 ⟨aa,ao y z ab hz (hX.dom z aa) (by omega)⟩))) x (and_t.2 ⟨ad,ae⟩)
  rw [if_pos hT];omega
 have:ClosN V nb j X:=⟨hX.dom,λy hy=>by rw [←h.same hb hy];exact hX.deg y hy⟩
 have:=hn.ge this ad
 omega
theorem MoreE.pos(h:MoreE V nb' nb u v)(hn:IsCore V nb n):1<=min (n u) (n v):=by
 have:ClosN V nb 1 λy=>decide (y=u\/y=v):=⟨λy Z=>by
  rcases of_decide_eq_true Z with e|e
  ·rw [e];exact h.vu
  ·rw [e];exact h.vv,λy Z=>by
  rcases of_decide_eq_true Z with e|e
  ·subst e;rw [h.cu,if_pos<|decide_eq_true<|.inr rfl];omega
  subst e;rw [h.cv,if_pos (decide_eq_true (.inl rfl))];omega⟩
 have h1:=hn.ge this (x:=u) (decide_eq_true<|.inl rfl)
 have M:=hn.ge this (x:=v) (decide_eq_true<|.inr rfl)
 omega
theorem core_del(hn:IsCore V nb n)(h:MoreE V nb' nb u v)(aq:∀x y,V x->V y->y∈nb x->x∈nb y)(hk:k=min (n u) (n v)){R S:Int->Bool}
  (ae:∀x,R x=true->V x/\n x=k) (az:n u=k->R u=true) (ay:n v=k->R v=true) (au:∀x y,R x=true->y∈nb x->V y->n y=k->R y=true)
  (a1:∀x,S x=true->R x=true) (a0:∀x,S x=true->k<=cntN nb' (λy=>S y||(upN V n k y && !R y)) x)
  (a6:∀T:Int->Bool,(∀x,T x=true->R x=true)->(∀x,T x=true->k<=cntN nb' (λy=>T y||(upN V n k y && !R y)) x)->∀x,T x=true->S x=true) :
  IsCore V nb' λx=>n x - if R x=true/\S x≠true then 1 else 0:=by
 have ap:∀{Z:Int->Bool} {j:Nat},(∀y,Z y=true->V y/\j<=n y)->∀y,Z y=true->upN V n j y=true:=λhZ y hy=>upN_t.2 (hZ y hy)
 have a8:=h.pos hn
 have ax:∀y,n y≠k->R y=false:=λy hy=>by
  cases e:R y with
  |false=>rfl
  |true=>exact absurd (ae y e).2 hy
 intro x hx j
 constructor
 ·intro hj
  have ai:j<=n x:=by
   have:j<=n x - if R x=true/\S x≠true then 1 else 0:=hj
   omega
  by_cases hjk:k+1<=j
  ·obtain ⟨Z,h1,h2,M⟩:=hn.nbrs hx ai
   have hb:¬(Z u=true/\Z v=true):=λe=>by have:=(M u e.1).2;have:=(M v e.2).2;omega
   exact ⟨Z,⟨h1.dom,λy hy=>by rw [←h.same hb hy];exact h1.deg y hy⟩,h2⟩
  by_cases hjk2:j<k
  ·refine ⟨upN V n j,⟨λy hy=>(upN_t.1 hy).1,λy hy=>?_⟩,upN_t.2 ⟨hx,ai⟩⟩
   by_cases hend:y=u\/y=v
   ·have ab:j+1<=n y:=by rcases hend with e|e<;>rw [e]<;>omega
    obtain ⟨Z,h1,h2,M⟩:=hn.nbrs (upN_t.1 hy).1 ab
    have h4:=h1.deg y h2
    have h5:cntN nb Z y<=cntN nb (upN V n j) y:=cntN_mono λz _ hz=>upN_t.2 ⟨(M z hz).1,by have:=(M z hz).2;omega⟩
    have:=(h.le (upN V n j) y).2
    omega
   rw [not_or] at hend
   obtain ⟨Z,h1,h2,M⟩:=hn.nbrs (upN_t.1 hy).1 (upN_t.1 hy).2
   rw [←h.oth _ y hend.1 hend.2]
   exact Nat.le_trans (h1.deg y h2)<|cntN_mono λz _ hz=>ap M z hz
  obtain rfl:j=k:=by omega
  have a4:¬(R x=true/\S x≠true):=λe=>by
   have h1:j<=n x - if R x=true/\S x≠true then 1 else 0:=hj
   rw [if_pos e,(ae x e.1).2] at h1
   omega
  refine ⟨λy=>S y||(upN V n j y && !R y),⟨λy hy=>?_,λy hy=>?_⟩,?_⟩
  ·rcases or_t.1 hy with hy|hy
   ·exact (ae y<|a1 y hy).1
   exact (upN_t.1 (and_t.1 hy).1).1
  ·rcases or_t.1 hy with hy|hy
   ·exact a0 y hy
   obtain ⟨aa,aj⟩:=and_t.1 hy
   have ad:R y=false:=by cases e:R y with |false=>rfl|true=>rw [e] at aj;cases aj
   by_cases ab:n y=j
   ·have a3:y≠u:=λe=>by have:=az (e▸ab);rw [←e,ad] at this;cases this
    have aw:y≠v:=λe=>by have:=ay (e▸ab);rw [←e,ad] at this;cases this
    obtain ⟨Z,h1,h2,M⟩:=hn.nbrs (upN_t.1 aa).1 (upN_t.1 aa).2
    rw [←h.oth _ y a3 aw]
    refine Nat.le_trans (h1.deg y h2)<|cntN_mono λz hz ao=>or_t.2<|.inr<|and_t.2 ⟨ap M z ao,?_⟩
    cases hRz:R z with
    |false=>rfl
    |true=>
     have:=au z y hRz (aq y z (upN_t.1 aa).1 (M z ao).1 hz) (upN_t.1 aa).1 ab
     rw [ad] at this;cases this
   have av:j+1<=n y:=by have:=(upN_t.1 aa).2;omega
   obtain ⟨Z,h1,h2,M⟩:=hn.nbrs (upN_t.1 aa).1 av
   have hb:¬(Z u=true/\Z v=true):=λe=>by have:=(M u e.1).2;have:=(M v e.2).2;omega
   have h4:=h1.deg y h2
   rw [h.same hb h2] at h4
   have h5:cntN nb' Z y<=cntN nb' (λy=>S y||(upN V n j y && !R y)) y:=cntN_mono λz _ hz=>or_t.2 (.inr<|and_t.2 ⟨upN_t.2 ⟨(M z hz).1,by have:=(M z hz).2;omega⟩,by rw [ax z (by have:=(M z hz).2;omega)];rfl⟩)
   omega
  cases hRx:R x with
  |false=>exact or_t.2 (.inr<|and_t.2 ⟨upN_t.2 ⟨hx,ai⟩,by rw [hRx];rfl⟩)
  |true=>
   refine or_t.2<|.inl ?_
   exact Classical.byContradiction λhs=>a4 ⟨hRx,hs⟩
 rintro ⟨X,hX,an⟩
 show j<=n x - if R x=true/\S x≠true then 1 else 0
 have a5:ClosN V nb j X:=⟨hX.dom,λy hy=>Nat.le_trans (hX.deg y hy) (h.le X y).1⟩
 have ak:∀y,X y=true->j<=n y:=λy hy=>hn.ge a5 hy
 have a9:=ak x an
 by_cases hc:R x=true/\S x≠true
 ·rw [if_pos hc]
  have a7:=(ae x hc.1).2
  refine Classical.byContradiction λhlt=>hc.2 ?_
  obtain rfl:j=k:=by omega
  refine a6 (λy=>X y&&R y) (λy hy=>(and_t.1 hy).2) (λy hy=>?_) x<|and_t.2 ⟨an,hc.1⟩
  obtain ⟨ar,ad⟩:=and_t.1 hy
  refine Nat.le_trans (hX.deg y ar)<|cntN_mono λz hz ah=>?_
  cases hRz:R z with
  |true=>exact or_t.2 (.inl<|and_t.2 ⟨ah,rfl⟩)
  |false=>exact or_t.2 (.inr<|and_t.2 ⟨upN_t.2 ⟨hX.dom z ah,ak z ah⟩,rfl⟩)
 rw [if_neg hc];omega
theorem moreE_of(vu:V u)(vv:V v)(ne:u≠v)(hn:∀x,(nb x).Nodup)(M:∀x,(nb' x).Nodup)(ab:v∉nb u)(aa:u∉nb v)
  (hm:∀x y,y∈nb' x↔y∈nb x\/(x=u/\y=v)\/(x=v/\y=u)):MoreE V nb nb' u v:=by
 have Z:∀a b:Int,(∀y,y∈nb' a↔y∈nb a\/y=b)->b∉nb a->∀X:Int->Bool,cntN nb' X a=cntN nb X a+if X b=true then 1 else 0:=λa b h1 h2 X=>by
  have hp:(nb' a).Perm (b::nb a):=(List.perm_ext_iff_of_nodup (M a)<|List.nodup_cons.2 ⟨h2,hn a⟩).2 λy=>by rw [h1,List.mem_cons];exact Or.comm
  unfold cntN
  rw [(hp.filter X).length_eq,List.filter_cons]
  split<;>simp
 refine ⟨vu,vv,ne,λX x hu hv=>?_,Z u v (λy=>?_) ab,Z v u (λy=>?_) aa⟩
 ·have hp:(nb' x).Perm (nb x):=(List.perm_ext_iff_of_nodup (M x)<|hn x).2 λy=>by
   rw [hm]
   exact ⟨λh=>h.elim id λh=>h.elim (λh=>absurd h.1 hu) λh=>absurd h.1 hv,.inl⟩
  unfold cntN
  rw [(hp.filter X).length_eq]
 ·rw [hm]
  constructor
  ·rintro (h|h|h)
   ·exact .inl h
   ·exact .inr h.2
   exact absurd h.1 ne
  rintro (h|h)
  ·exact .inl h
  exact .inr<|.inl ⟨rfl,h⟩
 rw [hm]
 constructor
 ·rintro (h|h|h)
  ·exact .inl h
  ·exact absurd h.1.symm ne
  exact .inr h.2
 rintro (h|h)
 ·exact .inl h
 exact .inr<|.inr ⟨rfl,h⟩
end
end Go.Sl
namespace Go.Sl
section
variable {α:Type}
def cntX(tri:α->List (α×α))(X:α->Bool)(e:α):Nat:=((tri e).filter λp=>X p.1&&X p.2).length
structure ClosX (E:α->Prop) (tri:α->List (α×α)) (k:Nat) (X:α->Bool):Prop where
 dom:∀e,X e=true->E e
 deg:∀e,X e=true->k<=cntX tri X e
def IsTr(E:α->Prop)(tri:α->List (α×α))(t:α->Nat):Prop:=∀e,E e->∀k:Nat,k<=t e↔∃X,ClosX E tri k X/\X e=true
variable {E E':α->Prop}{tri tri':α->List (α×α)}{t t' b:α->Nat}
theorem IsTr.ge(h:IsTr E tri t){k:Nat}{X:α->Bool}(M:ClosX E tri k X){e:α}(Z:X e=true):k<=t e:=(h e (M.dom e Z) k).2 ⟨X,M,Z⟩
theorem IsTr.high(h:IsTr E tri t)(hE:∀e,E e->∀p∈tri e,E p.1/\E p.2){e:α}(he:E e):t e<=((tri e).filter λp=>decide (t e<=t p.1/\t e<=t p.2)).length:=by
 obtain ⟨X,Z,h2⟩:=(h e he _).1 (Nat.le_refl _)
 exact Nat.le_trans (Z.deg e h2)<|filter_mono λp hp M=>decide_eq_true ⟨h.ge Z (and_t.1 M).1,h.ge Z (and_t.1 M).2⟩
theorem tr_ins(h:IsTr E tri t)(h':IsTr E' tri' t')(e0:α)(hE:∀e,E' e->e≠e0->E e)
  (hc:∀e,E' e->e≠e0->∀X Y:α->Bool,(∀f,X f=true->f≠e0->Y f=true)->cntX tri' X e<=cntX tri Y e+1) {e:α} (he:E' e) (aa:e≠e0):t' e<=t e+1:=by
 obtain ⟨X,h1,h2⟩:=(h' e he _).1 (Nat.le_refl _)
 have:ClosX E tri (t' e - 1) λf=>X f && @decide (f≠e0) (Classical.propDecidable _):=⟨λf hf=>by
  obtain ⟨Z,M⟩:=and_t.1 hf
  exact hE f (h1.dom f Z)<|@of_decide_eq_true _ (Classical.propDecidable _) M,λf hf=>by
  obtain ⟨Z,M⟩:=and_t.1 hf
  have h3:=h1.deg f Z
  have h4:=hc f (h1.dom f Z) (@of_decide_eq_true _ (Classical.propDecidable _) M) X (λf=>X f && @decide (f≠e0) (Classical.propDecidable _)) λg hg aa=>and_t.2 ⟨hg, @decide_eq_true _ (Classical.propDecidable _) aa⟩
  omega⟩
 have:=h.ge this (e:=e) (and_t.2 ⟨h2, @decide_eq_true _ (Classical.propDecidable _) aa⟩)
 omega
theorem tr_del(h:IsTr E tri t)(h':IsTr E' tri' t')(hE:∀e,E' e->E e)(hc:∀e,E' e->∀X,cntX tri' X e<=cntX tri X e){e:α}(he:E' e):t' e<=t e:=by
 obtain ⟨X,M,h2⟩:=(h' e he _).1 (Nat.le_refl _)
 exact h.ge (k:=t' e) ⟨λf Z=>hE f<|M.dom f Z,λf Z=>Nat.le_trans (M.deg f Z)<|hc f (M.dom f Z) X⟩ h2
theorem tr_fix(h:IsTr E tri t)(hE:∀e,E e->∀p∈tri e,E p.1/\E p.2)(hb:∀e,E e->t e<=b e)(hf:∀e,E e->b e<=((tri e).filter λp=>decide (b e<=b p.1/\b e<=b p.2)).length){e:α}(M:E e):b e=t e:=by
 refine Nat.le_antisymm ?_<|hb e M
 refine h.ge (k:=b e) (X:=λf=> @decide (E f/\b e<=b f) (Classical.propDecidable _)) ⟨λf Z=>(@of_decide_eq_true _ (Classical.propDecidable _) Z).1,λf Z=>?_⟩<|@decide_eq_true _ (Classical.propDecidable _) ⟨M,Nat.le_refl _⟩
 obtain ⟨h1,h2⟩:= @of_decide_eq_true _ (Classical.propDecidable _) Z
 refine Nat.le_trans h2<|Nat.le_trans (hf f h1)<|filter_mono λp hp Z=>?_
 have h3:=of_decide_eq_true Z
 have h4:=hE f h1 p hp
 exact and_t.2 ⟨@decide_eq_true _ (Classical.propDecidable _) ⟨h4.1,by omega⟩, @decide_eq_true _ (Classical.propDecidable _) ⟨h4.2,by omega⟩⟩
end
structure HI (l:List Int) (h:Int):Prop where
 ge:0<=h
 has:h<=((l.filter λx=>decide<|h<=x).length:Int)
 most:∀k:Int,k<=((l.filter λx=>decide<|k<=x).length:Int)->k<=h
end Go.Sl
namespace Go.Sl
theorem nodup_all{ord:List Int}{m:Nat}(hn:ord.Nodup)(hl:ord.length=m)(hr:∀x∈ord,0<=x/\x<m){j:Int}(h0:0<=j)(h1:j<m):j∈ord:=by
 refine Classical.byContradiction λhj=>?_
 have h2:(j::ord).Nodup:=List.nodup_cons.2 ⟨hj,hn⟩
 have Z:∀x∈j::ord,x∈(List.range m).map λk=>((k:Nat):Int):=λx hx=>by
  have M:0<=x/\x<m:=by
   rcases List.mem_cons.1 hx with rfl|hx
   ·exact ⟨h0,h1⟩
   exact hr x hx
  exact List.mem_map.2 ⟨x.toNat,List.mem_range.2<|by omega,by omega⟩
 have h4:=List.Nodup.length_le_of_subset h2 Z
 simp at h4;omega
section
variable {tri:List (List Pt)}{num ord:List Int}
def triI(tri:List (List Pt))(i:Int):List (Int×Int):=(e_ tri i).map λp=>(p.u,p.v)
theorem cntX_triI(X:Int->Bool)(i:Int):cntX (triI tri) X i=((e_ tri i).filter λp=>X p.u&&X p.v).length:=by
 unfold cntX triI
 rw [List.filter_map,List.length_map]
 rfl
theorem TrussE.mono(h:TrussE tri num ord):∀(m n:Nat),n+m<ord.length->e_ num (e_ ord n)<=e_ num (e_ ord ((n+m:Nat):Int))
 |0,n,_=>Int.le_refl _
 |m+1,n,hm=>Int.le_trans (TrussE.mono h m n<|by omega) (h.asc (n+m) hm)
theorem trussE_is(hG:TriG tri)(h:TrussE tri num ord):IsTr (λi:Int=>0<=i/\i<tri.length) (triI tri) λi=>(e_ num i).toNat:=by
 have hall:∀j:Int,0<=j->j<tri.length->∃n:Nat,n<ord.length/\e_ ord n=j:=λj h0 h1=>mem_at (nodup_all h.nodup h.olen h.rng h0 h1)
 intro i hi k
 constructor
 ·intro hk
  refine ⟨λj=>decide<|(0<=j/\j<(tri.length:Int))/\k<=(e_ num j).toNat,⟨λj hj=>(of_decide_eq_true hj).1,λj hj=>?_⟩,decide_eq_true ⟨hi,hk⟩⟩
  obtain ⟨hj1,hj2⟩:=of_decide_eq_true hj
  obtain ⟨n,hn,e⟩:=hall j hj1.1 hj1.2
  have hh:=h.high n hn
  rw [e] at hh
  rw [cntX_triI]
  have hm:((e_ tri j).filter λp=>decide<|e_ num j<=e_ num p.u/\e_ num j<=e_ num p.v).length<=((e_ tri j).filter λp=>decide ((0<=p.u/\p.u<(tri.length:Int))/\k<=(e_ num p.u).toNat)&&decide ((0<=p.v/\p.v<(tri.length:Int))/\k<=(e_ num p.v).toNat)).length:=filter_mono λp hp hx=>by
   have h2:=of_decide_eq_true hx
   have h3:=(hG.rng j hj1.1 hj1.2 p hp).1
   exact and_t.2 ⟨decide_eq_true ⟨⟨h3.1,h3.2.1⟩,by omega⟩,decide_eq_true ⟨h3.2.2,by omega⟩⟩
  omega
 rintro ⟨X,hX,hXi⟩
 obtain ⟨m,hm,em⟩:=hall i hi.1 hi.2
 -- the first of X in the order
 have hex:∃n,n<=m/\X (e_ ord n)=true/\∀l,l<n->X (e_ ord l)=false:=by
  have:∀q:Nat,∀m,m<=q->X (e_ ord m)=true->∃n,n<=m/\X (e_ ord n)=true/\∀l,l<n->X (e_ ord l)=false:=λq=>by
   induction q with
   |zero=>intro m hm hx;exact ⟨m,Nat.le_refl _,hx,λl hl=>by omega⟩
   |succ q ih=>
    intro m hm hx
    by_cases hc:∃l,l<m/\X (e_ ord l)=true
    ·obtain ⟨l,hl,hlx⟩:=hc
     obtain ⟨n,h1,h2,h3⟩:=ih l (by omega) hlx
     exact ⟨n,by omega,h2,h3⟩
    refine ⟨m,Nat.le_refl _,hx,λl hl=>?_⟩
    cases e:X (e_ ord l) with
    |false=>rfl
    |true=>exact absurd ⟨l,hl,e⟩ hc
  exact this m m (Nat.le_refl _)<|by rw [em];exact hXi
 obtain ⟨n,hn,hnx,hfirst⟩:=hex
 have h1:=hX.deg _ hnx
 rw [cntX_triI] at h1
 have hr:=h.rng _ (at_mem (xs:=ord) (i:=(n:Int)) (by omega)<|by omega)
 have h2:((e_ tri<|e_ ord n).filter λp=>X p.u&&X p.v).length<=((e_ tri<|e_ ord n).filter λp=>decide<|p.u∈List.drop (n+1) ord/\p.v∈List.drop (n+1) ord).length:=filter_mono λp hp hx=>by
  have h3:=hG.rng _ hr.1 hr.2 p hp
  have key:∀z:Int,X z=true->0<=z->z<tri.length->z≠e_ ord n->z∈List.drop (n+1) ord:=λz hz z0 z1 zne=>by
   obtain ⟨l,hl,el⟩:=hall z z0 z1
   have hln:¬l<n:=λhlt=>by have:=hfirst l hlt;rw [el,hz] at this;cases this
   have hln2:l≠n:=λe=>zne (by rw [←el,e])
   rw [List.mem_iff_getElem]
   refine ⟨l - (n+1),by rw [List.length_drop];omega,?_⟩
   rw [List.getElem_drop,←el,at_get ord l hl]
   congr 1;omega
  exact decide_eq_true ⟨key _ (and_t.1 hx).1 h3.1.1 h3.1.2.1 h3.2.2.1,key _ (and_t.1 hx).2 h3.1.2.2.1 h3.1.2.2.2 h3.2.2.2⟩
 have h4:=h.later n (by omega)
 have h5:=h.mono (m - n) n (by omega)
 rw [show n+(m - n)=m by omega,em] at h5
 show k<=(e_ num i).toNat
 omega
end
section
variable {α β:Type}{E:α->Prop}{F:β->Prop}{tri:α->List (α×α)}{tri':β->List (β×β)}{t:β->Nat}
theorem IsTr.move(h:IsTr F tri' t)(f:α->β)(hf:∀e,E e->F (f e))(ab:∀e e',E e->E e'->f e=f e'->e=e')(ak:∀b,F b->∃e,E e/\f e=b)
  (hE:∀e,E e->∀p∈tri e,E p.1/\E p.2) (ad:∀e,E e->tri' (f e)=(tri e).map λp=>(f p.1,f p.2)):IsTr E tri λe=>t (f e):=by
 have M:∀(X:α->Bool) (Y:β->Bool) e,E e->(∀e',E e'->Y (f e')=X e')->cntX tri' Y (f e)=cntX tri X e:=λX Y e he ae=>by
  unfold cntX
  rw [ad e he,List.filter_map,List.length_map]
  congr 1
  refine List.filter_congr λp hp=>?_
  have:=hE e he p hp
  show (Y (f p.1)&&Y (f p.2))=_
  rw [ae _ this.1,ae _ this.2]
 intro e he k
 rw [h (f e) (hf e he) k]
 constructor
 ·rintro ⟨Y,hY,ah⟩
  refine ⟨λe'=>Y (f e') && @decide (E e') (Classical.propDecidable _),⟨λe' h'=> @of_decide_eq_true _ (Classical.propDecidable _) (and_t.1 h').2,λe' h'=>?_⟩,and_t.2 ⟨ah, @decide_eq_true _ (Classical.propDecidable _) he⟩⟩
  obtain ⟨h1,h2⟩:=and_t.1 h'
  have Z:= @of_decide_eq_true _ (Classical.propDecidable _) h2
  rw [←M _ Y e' Z λe2 ai=>by rw [@decide_eq_true _ (Classical.propDecidable _) ai,Bool.and_true]]
  exact hY.deg _ h1
 rintro ⟨X,hX,aj⟩
 have aa:∀e',E e'->(@decide (∃e2,E e2/\f e2=f e'/\X e2=true) (Classical.propDecidable _))=X e':=λe' Z=>by
  cases hx:X e' with
  |true=>exact @decide_eq_true _ (Classical.propDecidable _) ⟨e',Z,rfl,hx⟩
  |false=>exact @decide_eq_false _ (Classical.propDecidable _) λ⟨e2,h1,h2,h3⟩=>by rw [ab e2 e' h1 Z h2,hx] at h3;cases h3
 refine ⟨λb=> @decide (∃e2,E e2/\f e2=b/\X e2=true) (Classical.propDecidable _),⟨λb hb=>?_,λb hb=>?_⟩,(aa e he).trans aj⟩
 ·obtain ⟨e2,h1,h2,_⟩:= @of_decide_eq_true _ (Classical.propDecidable _) hb
  rw [←h2];exact hf e2 h1
 obtain ⟨e2,h1,h2,h3⟩:= @of_decide_eq_true _ (Classical.propDecidable _) hb
 rw [←h2,M X _ e2 h1 aa]
 exact hX.deg e2 h3
end
end Go.Sl
namespace Go.Sl
variable{h0 i:Int}
theorem list_ext2{α:Type}[Inhabited α]{a b:List α}(M:a.length=b.length)(h:∀i:Nat,i<a.length->e_ a i=e_ b i):a=b:=List.ext_getElem M λi Z h2=>by
 rw [←at_get a i Z,←at_get b i h2];exact h i Z
def minsT(tri:List (List Pt))(b:List Int)(i:Int):List Int:=(e_ tri i).map λp=>min (e_ b p.u) (e_ b p.v)
def okS(tri:List (List Pt))(b:List Int)(i:Int):Prop:=∃h,HI (minsT tri b i) h/\e_ b i<=h
structure SinkI (tri:List (List Pt)) (t b q:List Int):Prop where
 len:b.length=tri.length
 rng:∀i∈q,0<=i/\i<tri.length
 low:∀i:Int,0<=i->i<tri.length->0<=e_ t i/\e_ t i<=e_ b i
 fix:∀i:Int,0<=i->i<tri.length->i∈q\/okS tri b i
section
variable {tri:List (List Pt)}{t b q:List Int}
theorem cnt_map{k:Int}(l:List Pt)(f:Pt->Int):((l.map f).filter λx=>decide (k<=x)).length=(l.filter λp=>decide (k<=f p)).length:=by
 rw [List.filter_map,List.length_map];rfl
theorem sink_low(hG:TriG tri)(ht:IsTr (λi:Int=>0<=i/\i<tri.length) (triI tri) λi=>(e_ t i).toNat)(h:SinkI tri t b q)(hi:0<=i/\i<tri.length)(hh:HI (minsT tri b i) h0):e_ t i<=h0:=by
 have hE:∀e:Int,(0<=e/\e<tri.length)->∀p∈triI tri e,(0<=p.1/\p.1<tri.length)/\(0<=p.2/\p.2<tri.length):=λe he p hp=>by
  obtain ⟨x,M,rfl⟩:=List.mem_map.1 hp
  have:=(hG.rng e he.1 he.2 x M).1
  exact ⟨⟨this.1,this.2.1⟩,this.2.2⟩
 have h1:=ht.high hE hi
 unfold triI at h1
 rw [List.filter_map,List.length_map] at h1
 have aa:=h.low i hi.1 hi.2
 refine hh.most _ ?_
 unfold minsT
 rw [cnt_map]
 have h2:((e_ tri i).filter ((λp:Int×Int=>decide<|(e_ t i).toNat<=(e_ t p.1).toNat/\(e_ t i).toNat<=(e_ t p.2).toNat)∘λp=>(p.u,p.v))).length<=((e_ tri i).filter λp=>decide<|e_ t i<=min (e_ b p.u) (e_ b p.v)).length:=filter_mono λp hp M=>by
  have h3:=of_decide_eq_true M
  have Z:=(hG.rng i hi.1 hi.2 p hp).1
  have a1:=h.low p.u Z.1 Z.2.1
  have a2:=h.low p.v Z.2.2.1 Z.2.2.2
  simp only at h3
  exact decide_eq_true<|by omega
 omega
theorem SinkI.pass(h:SinkI tri t b (i::q)){Z:Int}(hh:HI (minsT tri b i) Z)(M:e_ b i<=Z):SinkI tri t b q:=
 ⟨h.len,λj hj=>h.rng j (List.mem_cons_of_mem _ hj),h.low,λj j0 j1=>by
  rcases h.fix j j0 j1 with hq|hq
  ·rcases List.mem_cons.1 hq with rfl|hq
   ·exact .inr ⟨Z,hh,M⟩
   exact .inl hq
  exact .inr hq⟩
def bothL(l:List Pt):List Int:=l.flatMap λp=>[p.u,p.v]
theorem mem_both2{l:List Pt}{j:Int}:j∈bothL l↔∃p∈l,j=p.u\/j=p.v:=by
 unfold bothL
 rw [List.mem_flatMap]
 constructor
 ·rintro ⟨p,Z,h⟩;exact ⟨p,Z,by simpa using h⟩
 rintro ⟨p,Z,h⟩;exact ⟨p,Z,by simpa using h⟩
theorem SinkI.sink(hG:TriG tri)(ht:IsTr (λi:Int=>0<=i/\i<tri.length) (triI tri) λi=>(e_ t i).toNat)(h:SinkI tri t b (i::q))(hh:HI (minsT tri b i) h0)(hlt:h0<e_ b i) :
  SinkI tri t (b.set i.toNat h0) (q++bothL (e_ tri i)):=by
 have hi:=h.rng i List.mem_cons_self
 have ad:=h.len
 have ab:∀j:Int,0<=j->j<tri.length->e_ (b.set i.toNat h0) j=if i=j then h0 else e_ b j:=λj Z j1=>at_set b i j h0 hi.1 Z (by omega)
 have aa:∀j:Int,0<=j->j<tri.length->(∀p∈e_ tri j,p.u≠i/\p.v≠i)->minsT tri (b.set i.toNat h0) j=minsT tri b j:=λj Z j1 ae=>by
  unfold minsT
  refine List.map_congr_left λp M=>?_
  have hr:=(hG.rng j Z j1 p M).1
  rw [ab p.u hr.1 hr.2.1,ab p.v hr.2.2.1 hr.2.2.2,if_neg<|λe=>(ae p M).1 e.symm,if_neg<|λe=>(ae p M).2 e.symm]
 refine ⟨by rw [List.length_set];exact ad,λj hj=>?_,λj Z j1=>?_,λj Z j1=>?_⟩
 ·rcases List.mem_append.1 hj with hj|hj
  ·exact h.rng j<|List.mem_cons_of_mem _ hj
  obtain ⟨p,M,e⟩:=mem_both2.1 hj
  have hr:=(hG.rng i hi.1 hi.2 p M).1
  rcases e with rfl|rfl
  ·exact ⟨hr.1,hr.2.1⟩
  exact hr.2.2
 ·have hl:=h.low j Z j1
  rw [ab j Z j1]
  by_cases e:i=j
  ·subst e;rw [if_pos rfl];exact ⟨hl.1,sink_low hG ht h hi hh⟩
  rw [if_neg e];exact hl
 by_cases e:i=j
 ·subst e
  refine .inr ⟨h0,?_,?_⟩
  ·rw [aa i Z j1 λp M=>⟨(hG.rng i hi.1 hi.2 p M).2.2.1,(hG.rng i hi.1 hi.2 p M).2.2.2⟩];exact hh
  rw [ab i Z j1,if_pos rfl];exact Int.le_refl _
 by_cases hn:∃p∈e_ tri j,p.u=i\/p.v=i
 ·obtain ⟨p,M,hpi⟩:=hn
  refine .inl<|List.mem_append_right _<|mem_both2.2 ?_
  rcases hpi with hpi|hpi
  ·have hs:TriS tri j i p.v:= .inl (by rw [←hpi];exact M)
   rcases hG.sym j i p.v Z j1 hs with h3|h3
   ·exact ⟨_,h3,.inl rfl⟩
   exact ⟨_,h3,.inr rfl⟩
  have hs:TriS tri j i p.u:= .inr (by rw [←hpi];exact M)
  rcases hG.sym j i p.u Z j1 hs with h3|h3
  ·exact ⟨_,h3,.inl rfl⟩
  exact ⟨_,h3,.inr rfl⟩
 rcases h.fix j Z j1 with hq|⟨h1,h2,h3⟩
 ·rcases List.mem_cons.1 hq with hq|hq
  ·exact absurd hq.symm e
  exact .inl<|List.mem_append_left _ hq
 refine .inr ⟨h1,?_,?_⟩
 ·rw [aa j Z j1 λp M=>⟨λq1=>hn ⟨p,M,.inl q1⟩,λq1=>hn ⟨p,M,.inr q1⟩⟩];exact h2
 rw [ab j Z j1,if_neg e];exact h3
theorem SinkI.done(hG:TriG tri)(ht:IsTr (λi:Int=>0<=i/\i<tri.length) (triI tri) λi=>(e_ t i).toNat)(h:SinkI tri t b [])(hl:t.length=tri.length):b=t:=by
 have hE:∀e:Int,(0<=e/\e<tri.length)->∀p∈triI tri e,(0<=p.1/\p.1<tri.length)/\(0<=p.2/\p.2<tri.length):=λe Z p hp=>by
  obtain ⟨x,hx,rfl⟩:=List.mem_map.1 hp
  have:=(hG.rng e Z.1 Z.2 x hx).1
  exact ⟨⟨this.1,this.2.1⟩,this.2.2⟩
 have M:∀i:Int,0<=i->i<tri.length->(e_ b i).toNat=(e_ t i).toNat:=λi i0 i1=>tr_fix (b:=λi=>(e_ b i).toNat) ht hE (λe Z=>by have:=h.low e Z.1 Z.2;show (e_ t e).toNat<=(e_ b e).toNat;omega) (λe Z=>by
  rcases h.fix e Z.1 Z.2 with hq|⟨h1,h2,h3⟩
  ·cases hq
  show (e_ b e).toNat<=_
  have h4:=h2.has
  unfold minsT at h4
  rw [cnt_map] at h4
  unfold triI
  rw [List.filter_map,List.length_map]
  have h5:((e_ tri e).filter λp=>decide<|h1<=min (e_ b p.u) (e_ b p.v)).length<=((e_ tri e).filter ((λp:Int×Int=>decide<|(e_ b e).toNat<=(e_ b p.1).toNat/\(e_ b e).toNat<=(e_ b p.2).toNat)∘λp=>(p.u,p.v))).length:=filter_mono λp hp hx=>by
   have h6:=of_decide_eq_true hx
   exact decide_eq_true<|by simp only;omega
  omega) ⟨i0,i1⟩
 refine list_ext2 (by rw [h.len,hl]) λi hi=>?_
 have h1:=M (i:Int) (by omega) (by have:=h.len;omega)
 have h2:=h.low (i:Int) (by omega) (by have:=h.len;omega)
 omega
end
end Go.Sl
namespace Go.Sl
variable{xs:List Int}{x:Operand}{E T b by' sz:Nat}{z:List Value}{i j:Int}
section
variable {P:Program}{κ:Ctx}{N:Frm}{Q:Exit->Act->World->Prop}{L:Env}{I:List Item}
theorem W.rounds{c:Code}(n:Nat)(h:V κ N (Exit.then (Code.rounds P c Q n) Q) .normal L I):W P κ N (.loop c) Q L I:=λa w Z hs=>wp_loop_rounds n (h a w Z hs)
theorem V.again{c:Code}{n:Nat}(h:W P κ N c (Exit.then (Code.rounds P c Q n) Q) L I):V κ N (Exit.then (Code.rounds P c Q (n+1)) Q) .normal L I:=h
end
structure PtrC where
 b:Nat
 o:Nat
deriving Inhabited
structure IfcC where
 t:Nat
 b:Nat
 o:Nat
deriving Inhabited
instance:Enc PtrC:=⟨λx=>[.pointer (some ⟨x.b,x.o,none⟩)],1,by omega,λ_=>rfl,λ_ u h=>by simp at h;subst h;rfl⟩
instance:Enc IfcC:=⟨λx=>[.iface x.t (.pointer (some ⟨x.b,x.o,none⟩))],1,by omega,λ_=>rfl,λ_ u h=>by simp at h;subst h;rfl⟩
section
variable {P:Program}{κ:Ctx}{N:Frm}{Q:Exit->Act->World->Prop}{L:Env}{I J:List Item}
variable {d:Option Tmp}{ty:TypeId}{ps:String}{af:Array Edge}{gd:Option (Nat×Bool)}
theorem Runs.getT(M:tyF P T=some (sz,false,by',z))(Z:er L x=some (.pointer (some ⟨b,0+i.toNat*64+j.toNat*1,none⟩)))(hb:BlkRd κ J b (cells xs) E)(h0:0<=i)(h1:0<=j)(hn:i*64+j<xs.length) :
  Runs P κ N ⟨d,.load T x,ty,ps,af,gd⟩ L J (e7<|e_ xs<|i*64+j):=by
 refine Runs.getA (i:=i*64+j) M ?_ hb (by omega) hn
 rw [Z,show 0+i.toNat*64+j.toNat*1=0+(i*64+j).toNat*1 by omega]
theorem Eff.setT{y:Operand}{ag:Bool}{n:Int}{I':List Item}(hT:tyF P T=some (sz,ag,by',z))(Z:sz=1)(hx:er L x=some (.pointer (some ⟨b,0+i.toNat*64+j.toNat*1,none⟩)))(hy:er L y=some (e7 n))(h0:0<=i)(h1:0<=j)(hn:i*64+j<xs.length)
  (M:At I (e8 b (cells xs) E) (e8 b (cells<|xs.set (i*64+j).toNat n) E) I') :
  Eff P κ N Q ⟨none,.store T x y,ty,ps,af,gd⟩ L I λL' I''=>L'=L/\I''=I':=by
 refine Eff.setA (i:=i*64+j) hT Z ?_ hy (by omega) hn M
 rw [hx,show 0+i.toNat*64+j.toNat*1=0+(i*64+j).toNat*1 by omega]
end
end Go.Sl
namespace Go.Sl
open Go.RowKit (Below)
variable{x:Operand}{v:Value}
section
variable {P:Program}{κ:Ctx}{N:Frm}{Q:Exit->Act->World->Prop}{L:Env}{I J:List Item}{ops:Array Oper}{rest:List Oper}
variable {d:Option Tmp}{ty:TypeId}{ps:String}{af:Array Edge}{gd:Option (Nat×Bool)}
theorem Runs.mkIface{T:TypeId}(hm:∀w,(Instr.makeInterface T v).run P w = .ok (.iface T v) w)(Z:er L x=some v):Runs P κ N ⟨d,.makeInterface T x,ty,ps,af,gd⟩ L J (.iface T v):=
 λa w M hs=>by simp [execOp,M.eval Z,hm,Result.andThen]
theorem Eff.invoke{f:FuncId}{dd:Nat}{t:TypeId}{rv:Value}{Z:String}{xs:List Operand}{vs:List Value}{M:Array TypeId}{Post:Value->List Item->Prop}(hf:callable P f=true)(hr:er L x=some (.iface t v))
  (hm:∀w,(method (P.types.size+Made.depth) t v Z).run P w = .ok (f,rv) w) (hx:evalL L xs=some vs) (hN:Nat.blt dd N.n=true) (hc:eu P κ f (rv::vs) I Post) :
  Eff P κ N Q ⟨some dd,.call {callee:= .invoke x Z,args:=xs.toArray,argTypes:=M},ty,ps,af,gd⟩ L I λL' I''=>∃v J,Post v J/\L'=(dd,v)::L/\J=I'':=λa w ha hs=>by
 have he:(execOp a.eval ⟨some dd,.call {callee:= .invoke x Z,args:=xs.toArray,argTypes:=M},ty,ps,af,gd⟩).run P w = .ok (.enter f (rv::vs).toArray) w:=by
  simp only [execOp,resolve,ha.eval hr,Go.invoke,Sem.run_bind,Sem.run_pure,Result.andThen_ok,List.map_toArray,ha.evalL hx]
  simp [callMethod,hm,run_callFunc hf,Result.andThen]
 simp only [Oper.wp,he,Oper.upon]
 refine (hc w hs).mono λe w' ⟨v,J,aa,hp,ab⟩=>?_
 subst aa
 exact ⟨_,_,⟨v,J,hp,rfl,rfl⟩,ha.put dd hN v,ab⟩
end
end Go.Sl
namespace Go.Sl
open Go.Proofs
abbrev Aa:= @Sub.cons
abbrev Ab:= @Runs.fieldAddr
abbrev Ac:= @G.nt
abbrev Ad:= @W.sr
abbrev Af:= @Tryz.underlying22
abbrev Ah:= @V.then
abbrev Ai:= @Runs.move
abbrev Aj:= @Eff.call
abbrev Ak:= @Runs.extract
abbrev Al:= @Tryz.underlying30
abbrev Am:= @V.block_normal
abbrev Ao:= @V.then_ret
abbrev Ap:= @W.sub
abbrev Aq:= @V.then_exit
abbrev Ar:= @W.seq
abbrev Au:= @Runs.pickf
abbrev Av:= @Runs.pickt
abbrev Aw:= @W.skip
abbrev Ax:= @Fit.m
abbrev Ay:= @W.region
abbrev Az:= @W.ret
abbrev A0:= @Runs.ld
abbrev A1:= @V.ret1
abbrev A2:= @Tryz.underlying33
abbrev A3:= @Runs.idx
abbrev A4:= @Eff.alloc
abbrev A5:= @W.block
abbrev A6:= @Tryz.underlying36
abbrev A7:= @W.ite
abbrev A8:= @Sl.f
abbrev A9:= @Runs.lss
abbrev Ba:= @V.block_ret
abbrev Bb:= @V.block_hit
abbrev Bc:= @Runs.lds
abbrev Bd:= @Eff.box
abbrev Be:= @Runs.neq
abbrev Bf:= @Runs.assign
abbrev Bg:= @Fit.sub
abbrev Bh:= @G.split
abbrev Bi:= @Sl.o
abbrev Bj:= @G.nil
abbrev Bk:= @Runs.lens
abbrev Bl:= @Fit.s
abbrev Bm:= @Wanted.plain
abbrev Bn:= @TabRd.fit
abbrev Bo:= @Runs.nilCheck
abbrev Bp:= @Sub.nil
abbrev Bq:= @Runs.build
abbrev Br:= @Runs.eql
abbrev Bs:= @W.drawn
abbrev Bt:= @W.exit
abbrev Bu:= @Sl.fit
abbrev Bv:= @Runs.gets
abbrev Bw:= @Runs.lenT
abbrev Bx:= @Runs.get
abbrev Bz:= @Has.tail
abbrev B0:= @Has.refl
abbrev B1:= @W.loop
abbrev B2:= @Runs.gtr
abbrev B3:= @Eff.app
abbrev B4:= @Tryz.underlying198
abbrev B5:= @eu.pull
abbrev B6:= @Eff.st
abbrev B7:= @at_mem
abbrev B8:= @Tryz.underlying205
abbrev B9:= @Runs.getf0
abbrev Ca:= @Has.app
abbrev Cb:= @V.nx
abbrev Cc:= @A.hold
abbrev Cd:= @lookO
abbrev Ce:= @Eff.bs
abbrev Cf:= @Fit.nilvc
abbrev Cg:= @Runs.idxArr
abbrev Ch:= @Tryz.underlying200
abbrev Ci:= @Tryz.underlying3
abbrev Cj:= @take_at
abbrev Ck:= @Tryz.underlying115
abbrev Cl:= @Has.up
abbrev Cm:= @Has.fit
abbrev Cn:= @Runs.not
abbrev Co:= @Fit.trans
abbrev Cp:= @eu.fit
abbrev Cq:= @Wanted.on
abbrev Cr:= @Tryz.underlying189
abbrev Cs:= @D.stop
abbrev Ct:= @A.done
abbrev Cu:= @W.yes
abbrev Cv:= @Runs.geq
abbrev Cw:= @Runs.add
abbrev Cx:= @Eff.callv
abbrev Cy:= @V.retc2
abbrev Cz:= @Es2_2
abbrev C0:= @V.retc1
abbrev C1:= @Eff.set
abbrev C2:= @V.ret2
abbrev C3:= @Runs.loraw
abbrev C4:= @Fit.perm
abbrev C5:= @Es4_4
abbrev C6:= @sumN_congr
abbrev C7:= @at_get
abbrev C8:= @lookV
abbrev C9:= @Tryz.underlying54
abbrev Da:= @Tryz.underlying38
abbrev Db:= @Tryz.underlying208
abbrev Dc:= @Runs.notd
abbrev Dd:= @Tryz.underlying41
abbrev De:= @Sl.vec
abbrev Df:= @Es3_3
abbrev Dg:= @W.no
abbrev Dh:= @Tryz.underlying212
abbrev Di:= @scanL_bad
abbrev Dj:= @Pt.ext_iff'
abbrev Dk:= @perm_fr
abbrev Dl:= @V.again
abbrev Dm:= @Runs.max
abbrev Dn:= @Fit.refl
abbrev Do:= @D.step
abbrev Dp:= @listB_nodup
abbrev Dq:= @Tryz.underlying155
abbrev Ds:= @Tryz.underlying105
abbrev Dt:= @drop_at
abbrev Du:= @Tryz.underlying45
abbrev Dv:= @A.read
abbrev Dw:= @D.split
abbrev Dx:= @G.eff
abbrev Dy:= @Tryz.underlying40
abbrev D0:= @Runs.lo
abbrev D1:= @W.cond
abbrev D3:= @Runs.makeFunc
abbrev D4:= @Eff.invoke
abbrev D5:= @mem_listB
abbrev D6:= @all1
abbrev D7:= @Step2.eff
abbrev D8:= @BlkRd.of
abbrev D9:= @G.fit
abbrev Ea:= @listB_zero
abbrev Eb:= @Tryz.underlying233
abbrev Ec:= @Tryz.underlying228
abbrev Ed:= @Tryz.underlying184
abbrev Ee:= @Tryz.underlying182
abbrev Ef:= @Runs.loadB
abbrev Eg:= @D.read
abbrev Eh:= @all_succ
abbrev Ei:= @Runs.orB
abbrev Ej:= @Runs.leq
abbrev Ek:= @Runs.andB
abbrev El:= @A.ho
abbrev Em:= @Tryz.underlying43
abbrev En:= @at_set
abbrev Eo:= @Tryz.underlying5
abbrev Ep:= @BlkRd.fit
abbrev Er:= @lookI
abbrev Es:= @Runs.min
abbrev Et:= @Es7_1
abbrev Eu:= @all2
abbrev Ew:= @Tryz.underlying214
abbrev Ex:= @listB_len
abbrev Ey:= @listB_lt
abbrev Ez:= @V.retc
abbrev E0:= @Tryz.underlying29
abbrev E1:= @Runs.mul
abbrev E2:= @Runs.andNotB
abbrev E3:= @Runs.hiraw
abbrev E4:= @Sl.drop
abbrev E5:= @Runs.buildArr
abbrev E6:= @D2.step
abbrev E7:= @Eff.make
abbrev E8:= @Es7_7
abbrev E9:= @Runs.getf
abbrev Fa:= @V.mi
abbrev Fb:= @Es5_5
abbrev Fc:= @Tryz.underlying35
abbrev Fd:= @list_ext2
abbrev Fe:= @asc_nodup
abbrev Ff:= @Runs.shrB
abbrev Fg:= @Runs.fld
abbrev Fh:= @Eff.copyT
abbrev Fi:= @sumN_eq_zero
abbrev Fj:= @scanL_step
abbrev Fk:= @Runs.getAU
theorem kr{p:Prop}(h:p:=by kernel_rfl):p:=h
theorem dc{p:Prop}(h:p:=by decide):p:=h
theorem lcn{p:Prop}(h:p:=by simp only [List.length_cons,List.length_nil];omega):p:=h
theorem asm{p:Prop}(h:p:=by assumption):p:=h
theorem lat{p:Prop}(h:p:=by first|omega|(simp only [List.length_append,List.length_take,List.length_drop,List.length_replicate]<;>omega)):p:=h
theorem lap{p:Prop}(h:p:=by simp only [List.length_append,List.length_cons,List.length_nil];omega):p:=h
theorem olp{p:Prop}(h:p:=by first|omega|(simp only [List.length_append,List.length_cons,List.length_nil];omega)):p:=h
theorem olr{p:Prop}(h:p:=by first|omega|(simp only [List.length_replicate];omega)):p:=h
end Go.Sl
namespace Go.Sl
open Go.Proofs
theorem ty2:tyF prog 2=some (1,false,8,[e7 (0)]):=by kernel_rfl
theorem ef:tyF prog 3=some (1,false,8,[e7 (0)]):=by kernel_rfl
theorem ty4:tyF prog 4=some (1,false,1,[.bool false]):=by kernel_rfl
theorem ty5:tyF prog 5=some (1,false,1,[.int .u8 (0)]):=by kernel_rfl
theorem ty22:tyF prog 22=some (1,false,24,[.slice none 0 0]):=by kernel_rfl
theorem ty29:tyF prog 29=some (3,true,24,[e7 (0),e7 (0),e7 (0)]):=by kernel_rfl
theorem fld29_0:fldF prog 29 0=some 0:=by kernel_rfl
theorem fld29_1:fldF prog 29 1=some 1:=by kernel_rfl
theorem fld29_2:fldF prog 29 2=some 2:=by kernel_rfl
theorem pl29(w:World):(placesRun prog 29).run prog w = .ok #[(0,1),(1,1),(2,1)] w:=by kernel_rfl
theorem ty30:tyF prog 30=some (1,false,24,[.slice none 0 0]):=by kernel_rfl
theorem ty32:tyF prog 32=some (4,true,48,[e7 (0),e7 (0),e7 (0),.slice none 0 0]):=by kernel_rfl
theorem fld32_0:fldF prog 32 0=some 0:=by kernel_rfl
theorem fld32_1:fldF prog 32 1=some 1:=by kernel_rfl
theorem fld32_2:fldF prog 32 2=some 2:=by kernel_rfl
theorem fld32_3:fldF prog 32 3=some 3:=by kernel_rfl
theorem pl32(w:World):(placesRun prog 32).run prog w = .ok #[(0,1),(1,1),(2,1),(3,1)] w:=by kernel_rfl
theorem ty33:tyF prog 33=some (1,false,24,[.slice none 0 0]):=by kernel_rfl
theorem ty35:tyF prog 35=some (2,true,32,[e7 (0),.slice none 0 0]):=by kernel_rfl
theorem fld35_0:fldF prog 35 0=some 0:=by kernel_rfl
theorem fld35_1:fldF prog 35 1=some 1:=by kernel_rfl
theorem pl35(w:World):(placesRun prog 35).run prog w = .ok #[(0,1),(1,1)] w:=by kernel_rfl
theorem ty36:tyF prog 36=some (1,false,24,[.slice none 0 0]):=by kernel_rfl
theorem ty38:tyF prog 38=some (2,true,32,[e7 (0),.slice none 0 0]):=by kernel_rfl
theorem fld38_0:fldF prog 38 0=some 0:=by kernel_rfl
theorem fld38_1:fldF prog 38 1=some 1:=by kernel_rfl
theorem pl38(w:World):(placesRun prog 38).run prog w = .ok #[(0,1),(1,1)] w:=by kernel_rfl
theorem ty40:tyF prog 40=some (3,true,56,[e7 (0),.slice none 0 0,.slice none 0 0]):=by kernel_rfl
theorem fld40_0:fldF prog 40 0=some 0:=by kernel_rfl
theorem fld40_1:fldF prog 40 1=some 2:=by kernel_rfl
theorem pl40(w:World):(placesRun prog 40).run prog w = .ok #[(0,2),(2,1)] w:=by kernel_rfl
theorem ty41:tyF prog 41=some (3,true,56,[e7 (0),.slice none 0 0,.slice none 0 0]):=by kernel_rfl
theorem fld41_0:fldF prog 41 0=some 0:=by kernel_rfl
theorem fld41_1:fldF prog 41 1=some 2:=by kernel_rfl
theorem pl41(w:World):(placesRun prog 41).run prog w = .ok #[(0,2),(2,1)] w:=by kernel_rfl
theorem ty43:tyF prog 43=some (4,true,64,[e7 (0),.slice none 0 0,e7 (0),.slice none 0 0]):=by kernel_rfl
theorem fld43_0:fldF prog 43 0=some 0:=by kernel_rfl
theorem fld43_1:fldF prog 43 1=some 2:=by kernel_rfl
theorem fld43_2:fldF prog 43 2=some 3:=by kernel_rfl
theorem pl43(w:World):(placesRun prog 43).run prog w = .ok #[(0,2),(2,1),(3,1)] w:=by kernel_rfl
theorem ty45:tyF prog 45=some (5,true,72,[e7 (0),.slice none 0 0,e7 (0),e7 (0),.slice none 0 0]):=by kernel_rfl
theorem fld45_0:fldF prog 45 0=some 0:=by kernel_rfl
theorem fld45_1:fldF prog 45 1=some 2:=by kernel_rfl
theorem fld45_2:fldF prog 45 2=some 3:=by kernel_rfl
theorem fld45_3:fldF prog 45 3=some 4:=by kernel_rfl
theorem pl45(w:World):(placesRun prog 45).run prog w = .ok #[(0,2),(2,1),(3,1),(4,1)] w:=by kernel_rfl
theorem ty47:tyF prog 47=some (25,true,360,[e7 (0),e7 (0),e7 (0),e7 (0),e7 (0),e7 (0),.slice none 0 0,e7 (0),.slice none 0 0,e7 (0),.slice none 0 0,.slice none 0 0,e7 (0),.slice none 0 0,.slice none 0 0,e7 (0),.slice none 0 0,e7 (0),.slice none 0 0,e7 (0),.slice none 0 0,e7 (0),e7 (0),.slice none 0 0,e7 (0)]):=by kernel_rfl
theorem fld47_0:fldF prog 47 0=some 0:=by kernel_rfl
theorem fld47_1:fldF prog 47 1=some 3:=by kernel_rfl
theorem fld47_2:fldF prog 47 2=some 7:=by kernel_rfl
theorem fld47_3:fldF prog 47 3=some 9:=by kernel_rfl
theorem fld47_4:fldF prog 47 4=some 12:=by kernel_rfl
theorem fld47_5:fldF prog 47 5=some 15:=by kernel_rfl
theorem fld47_6:fldF prog 47 6=some 19:=by kernel_rfl
theorem fld47_7:fldF prog 47 7=some 24:=by kernel_rfl
theorem pl47(w:World):(placesRun prog 47).run prog w = .ok #[(0,3),(3,4),(7,2),(9,3),(12,3),(15,4),(19,5),(24,1)] w:=by kernel_rfl
theorem ty54:tyF prog 54=some (7,true,56,[e7 (0),e7 (0),e7 (0),e7 (0),e7 (0),e7 (0),e7 (0)]):=by kernel_rfl
theorem fld54_0:fldF prog 54 0=some 0:=by kernel_rfl
theorem fld54_1:fldF prog 54 1=some 1:=by kernel_rfl
theorem fld54_2:fldF prog 54 2=some 2:=by kernel_rfl
theorem fld54_3:fldF prog 54 3=some 3:=by kernel_rfl
theorem fld54_4:fldF prog 54 4=some 4:=by kernel_rfl
theorem fld54_5:fldF prog 54 5=some 5:=by kernel_rfl
theorem fld54_6:fldF prog 54 6=some 6:=by kernel_rfl
theorem pl54(w:World):(placesRun prog 54).run prog w = .ok #[(0,1),(1,1),(2,1),(3,1),(4,1),(5,1),(6,1)] w:=by kernel_rfl
theorem ty82:tyF prog 82=some (6,true,48,[e7 (0),e7 (0),e7 (0),e7 (0),e7 (0),e7 (0)]):=by kernel_rfl
theorem fld82_0:fldF prog 82 0=some 0:=by kernel_rfl
theorem fld82_1:fldF prog 82 1=some 1:=by kernel_rfl
theorem fld82_2:fldF prog 82 2=some 2:=by kernel_rfl
theorem fld82_3:fldF prog 82 3=some 3:=by kernel_rfl
theorem fld82_4:fldF prog 82 4=some 4:=by kernel_rfl
theorem fld82_5:fldF prog 82 5=some 5:=by kernel_rfl
theorem pl82(w:World):(placesRun prog 82).run prog w = .ok #[(0,1),(1,1),(2,1),(3,1),(4,1),(5,1)] w:=by kernel_rfl
theorem ty85:tyF prog 85=some (2,true,32,[.slice none 0 0,e7 (0)]):=by kernel_rfl
theorem fld85_0:fldF prog 85 0=some 0:=by kernel_rfl
theorem fld85_1:fldF prog 85 1=some 1:=by kernel_rfl
theorem pl85(w:World):(placesRun prog 85).run prog w = .ok #[(0,1),(1,1)] w:=by kernel_rfl
end Go.Sl
namespace Go.Sl
open Go.Proofs
theorem ty105:tyF prog 105=some (2,true,16,[e7 (0),e7 (0)]):=by kernel_rfl
theorem fld105_0:fldF prog 105 0=some 0:=by kernel_rfl
theorem fld105_1:fldF prog 105 1=some 1:=by kernel_rfl
theorem pl105(w:World):(placesRun prog 105).run prog w = .ok #[(0,1),(1,1)] w:=by kernel_rfl
theorem ty155:tyF prog 155=some (4,true,32,[e7 (0),e7 (0),e7 (0),e7 (0)]):=by kernel_rfl
theorem ty161:tyF prog 161=some (3,true,56,[e7 (0),.slice none 0 0,.slice none 0 0]):=by kernel_rfl
theorem fld161_0:fldF prog 161 0=some 0:=by kernel_rfl
theorem pl161(w:World):(placesRun prog 161).run prog w = .ok #[(0,3)] w:=by kernel_rfl
theorem ty163:tyF prog 163=some (3,true,56,[e7 (0),.slice none 0 0,.slice none 0 0]):=by kernel_rfl
theorem fld163_0:fldF prog 163 0=some 0:=by kernel_rfl
theorem pl163(w:World):(placesRun prog 163).run prog w = .ok #[(0,3)] w:=by kernel_rfl
theorem ty165:tyF prog 165=some (4,true,64,[e7 (0),.slice none 0 0,e7 (0),.slice none 0 0]):=by kernel_rfl
theorem fld165_0:fldF prog 165 0=some 0:=by kernel_rfl
theorem pl165(w:World):(placesRun prog 165).run prog w = .ok #[(0,4)] w:=by kernel_rfl
theorem ty167:tyF prog 167=some (5,true,72,[e7 (0),.slice none 0 0,e7 (0),e7 (0),.slice none 0 0]):=by kernel_rfl
theorem fld167_0:fldF prog 167 0=some 0:=by kernel_rfl
theorem pl167(w:World):(placesRun prog 167).run prog w = .ok #[(0,5)] w:=by kernel_rfl
theorem ty169:tyF prog 169=some (15,true,248,[e7 (0),.slice none 0 0,.slice none 0 0,e7 (0),.slice none 0 0,.slice none 0 0,e7 (0),.slice none 0 0,e7 (0),.slice none 0 0,e7 (0),.slice none 0 0,e7 (0),e7 (0),.slice none 0 0]):=by kernel_rfl
theorem fld169_0:fldF prog 169 0=some 0:=by kernel_rfl
theorem fld169_1:fldF prog 169 1=some 3:=by kernel_rfl
theorem fld169_2:fldF prog 169 2=some 6:=by kernel_rfl
theorem fld169_3:fldF prog 169 3=some 10:=by kernel_rfl
theorem pl169(w:World):(placesRun prog 169).run prog w = .ok #[(0,3),(3,3),(6,4),(10,5)] w:=by kernel_rfl
theorem ty181:tyF prog 181=some (1,false,8,[.pointer none]):=by kernel_rfl
theorem ty183:tyF prog 183=some (1,false,8,[.pointer none]):=by kernel_rfl
theorem ty193:tyF prog 193=some (64,true,512,[e7 (0),e7 (0),e7 (0),e7 (0),e7 (0),e7 (0),e7 (0),e7 (0),e7 (0),e7 (0),e7 (0),e7 (0),e7 (0),e7 (0),e7 (0),e7 (0),e7 (0),e7 (0),e7 (0),e7 (0),e7 (0),e7 (0),e7 (0),e7 (0),e7 (0),e7 (0),e7 (0),e7 (0),e7 (0),e7 (0),e7 (0),e7 (0),e7 (0),e7 (0),e7 (0),e7 (0),e7 (0),e7 (0),e7 (0),e7 (0),e7 (0),e7 (0),e7 (0),e7 (0),e7 (0),e7 (0),e7 (0),e7 (0),e7 (0),e7 (0),e7 (0),e7 (0),e7 (0),e7 (0),e7 (0),e7 (0),e7 (0),e7 (0),e7 (0),e7 (0),e7 (0),e7 (0),e7 (0),e7 (0)]):=by kernel_rfl
theorem ty198:tyF prog 198=some (1,false,24,[.slice none 0 0]):=by kernel_rfl
theorem ty200:tyF prog 200=some (2,true,16,[e7 (0),e7 (0)]):=by kernel_rfl
theorem ty207:tyF prog 207=some (1,false,8,[.int .u64 (0)]):=by kernel_rfl
theorem ty208:tyF prog 208=some (64,true,512,[.int .u64 (0),.int .u64 (0),.int .u64 (0),.int .u64 (0),.int .u64 (0),.int .u64 (0),.int .u64 (0),.int .u64 (0),.int .u64 (0),.int .u64 (0),.int .u64 (0),.int .u64 (0),.int .u64 (0),.int .u64 (0),.int .u64 (0),.int .u64 (0),.int .u64 (0),.int .u64 (0),.int .u64 (0),.int .u64 (0),.int .u64 (0),.int .u64 (0),.int .u64 (0),.int .u64 (0),.int .u64 (0),.int .u64 (0),.int .u64 (0),.int .u64 (0),.int .u64 (0),.int .u64 (0),.int .u64 (0),.int .u64 (0),.int .u64 (0),.int .u64 (0),.int .u64 (0),.int .u64 (0),.int .u64 (0),.int .u64 (0),.int .u64 (0),.int .u64 (0),.int .u64 (0),.int .u64 (0),.int .u64 (0),.int .u64 (0),.int .u64 (0),.int .u64 (0),.int .u64 (0),.int .u64 (0),.int .u64 (0),.int .u64 (0),.int .u64 (0),.int .u64 (0),.int .u64 (0),.int .u64 (0),.int .u64 (0),.int .u64 (0),.int .u64 (0),.int .u64 (0),.int .u64 (0),.int .u64 (0),.int .u64 (0),.int .u64 (0),.int .u64 (0),.int .u64 (0)]):=by kernel_rfl
end Go.Sl
namespace Go.Sl
open Go.Proofs
theorem c_{f:Nat}(h:callable prog f=true:=by kernel_rfl):callable prog f=true:=h
end Go.Sl
namespace Go.Sl
open Go.Proofs
theorem mixed:prog.follows .mixedOrders=true:=by kernel_rfl
end Go.Sl
namespace Go.Sl
open Go.Proofs
set_option maxRecDepth 4000
variable{i n:Int}{b:Nat}{lv:Value}{ls:List Int}
variable {κ:Ctx}{I:List Item}
abbrev deck(b:Nat)(lv:Value)(i:Int):Item:=e8 b [lv,e7 i] 85
theorem Mod_ok{k:Int}(h1:1<=k)(h2:k<=1000000000000):eu prog κ 38 [e7 n,e7 k] I (λr J=>∃x:Int,r=e7 x/\(0<=x/\x<k)/\I=J):=by
 have q1:=Int.tmod_lt_of_pos n (b:=k) om
 have q2:=Int.lt_tmod_of_pos n (b:=k) om
 refine Ce2 Tryz.func38 C C ?_
 refine Ad<|Ga C<|Ac<|Ad<|Gm C<|Gm C<|Gr (Runs.rem C C om)<|Gm C<|Gr (Rad C C)<|Gm C<|Gr (Runs.rem C C om)<|Ga C<|Ac<|Az ?_
 have Z:=Int.tmod_nonneg k (a:=Int.tmod n k+k) om
 have M:=Int.tmod_lt_of_pos (Int.tmod n k+k) (b:=k) om
 exact A1 C C _ Ax ⟨_,rfl,⟨Z,M⟩,rfl⟩
theorem Next_base(Z:Sl κ (deck b lv i::I) lv ls)(h0:0<=i)(hn:n<=1000000000000):eu prog κ 13 [(pt b),e7 n] (e8 b [lv,e7 i] 85::I) (λr J=>∃y:Int×Int,(r=e7 y.1/\(0<=y.1/\(1<=n->y.1<n)/\(n<1->y.1=0))/\0<=y.2)/\J=[]++deck b lv y.2::I):=by
 refine B5 Z.le λaa=>?_
 refine Ce2 Tryz.func13 C C ?_
 refine Ad<|Ga C<|Ac<|Ar<|Ar<|Bs mixed<|Cc (e8 b [lv,e7 i] 85::I) 14<|Dr 0 C (Ai C)<|Dr 1 C (A9 C C)<|Dr 2 C (Ai C)<|Dw (d:=8) C (λg8=>?_)<|λg8=>?_
 ·exact Dpo 3 C<|Dpo 4 C<|Dpo 5 C<|Dpo 6 C<|Dpo 7 C<|Dpo 8 C<|Dpo 9 C<|Dpo 10 C<|Dpo 11 C<|Dpo 12 C<|Dr 13 C (Av C C)<|Dz<|Ah<|Ap (S3 19 0 1)<|Cu C<|Ad<|Ga C<|Ac<|Az<|Ao<|A1 C C _ Ax ⟨(0,i),⟨rfl,⟨Int.le_refl _,by intro _;show (0:Int)<n;omega,λ_=>rfl⟩,h0⟩,rfl⟩
 refine Dro 3 C (Ai C)<|Dro 4 C (Bo C)<|Dro 5 C (Ab fld85_1 C)<|Dro 6 C (A0 ef) ?_
 refine Dro 7 C (Ai C)<|Dro 8 C (Bo C)<|Dro 9 C (Ab fld85_0 C)<|Dro 10 C (A0 ty22) ?_
 refine Dro 11 C (Bw (α:=Int) (xs:=ls) Af C<|A8 Z)<|Dro 12 C (Cv C C)<|Dr 13 C (Au C C)<|Dz<|Ah<|Ap (S3 19 0 1)<|A7 C (λM=>?_)<|λM=>?_
 ·exact Ad<|Ga C<|Ac<|Az<|Ao<|A1 C C _ Ax ⟨(0,i),⟨rfl,⟨Int.le_refl _,by intro _;show (0:Int)<n;omega,λ_=>rfl⟩,h0⟩,rfl⟩
 refine Aw<|Ah<|Ar<|Bs mixed<|Cc (e8 b [lv,e7 i] 85::I) 11<|Dr 0 C (Ai C)<|Dr 1 C (Bo C)<|Dr 2 C (Ab fld85_0 C)<|Dr 3 C (A0 ty22) ?_
 refine Dr 4 C (Ai C)<|Dr 5 C (Bo C)<|Dr 6 C (Ab fld85_1 C)<|Dr 7 C (A0 ef) ?_
 refine Dr 8 C (A3 (α:=Int) (xs:=ls) Af ef C C (A8 Z) om om)<|Dr 9 C (Bx (xs:=ls) ef C (A8 Z) om om)<|Dr 10 C (Bf C)<|Dz<|Ah<|Ap (S3 5 0 1)<|Ad<|Gm C<|Gr (Bo C)<|Gf fld85_1 C<|Gl ef ?_
 refine Gr (Rad C C)<|Gr (Bo C)<|Gf fld85_1 C<|Ge0 (Es2_1 ef) ?_
 refine Ac<|Ad<|Gm C<|Gm C<|G.e (Aj c_ C C<|Mod_ok om om) ?_
 rintro _ _ ⟨_,_,⟨x1,rfl,ab,rfl⟩,rfl,rfl⟩
 exact Ga C<|Ac<|Ap (S1 4)<|Az<|A1 C C _ Ax ⟨(x1,i+1),⟨rfl,⟨by omega,by omega,by omega⟩,by show 0<=i+1;omega⟩,rfl⟩
theorem Next_ok{F:Item->List Item}(M:AtF I (deck b lv i) F)(hl:Sl κ I lv ls)(h0:0<=i)(hn:n<=1000000000000):eu prog κ 13 [(pt b),e7 n] I λr J=>∃x i',r=e7 x/\(0<=x/\(1<=n->x<n)/\(n<1->x=0))/\0<=i'/\J=F (deck b lv i'):=
 (eu.at (Z:=λ_=>[]) (X:=λy:Int×Int=>deck b lv y.2) M λ_ hJ _=>Next_base (hl.fit hJ) h0 hn).mono λ_ _ ⟨y,⟨h1,h2,h3⟩,h4⟩=>⟨y.1,y.2,h1,h2,h3,h4⟩
theorem New_ok{a:Option Addr}{n c:Nat} :
    eu prog κ 12 [.slice a n c] I (λr J=>∃b,r = (pt b)/\J=deck b (.slice a n c) 0::I):=by
 refine Ce1 Tryz.func12 C C ?_
 exact Ad<|Ga C<|Ac<|Ad<|Gm C<|Gr (Bq (cells:=[_,_]) ty85 Tryz.underlying85 pl85 C C)<|Ge1 (Bd (cs:=[_,_]) C C C) λb1=>Ga C<|Ac<|Az<|A1 C C _ Ax ⟨b1,rfl,rfl⟩
variable {κ:Ctx}{I:List Item}
theorem IsNaN_ok(n:Int):eu prog κ 179 [e7 n] I (λr J=>r = .bool false/\I=J):=by
 refine Ce1 Tryz.func179 C C ?_
 exact Ad<|Ga C<|Ac<|Ad<|Gm C<|Gm C<|Gr (Be C C)<|Ga C<|Ac<|Az<|A1 C C I Ax ⟨by simp,rfl⟩
theorem Compare_ok(m n:Int):eu prog κ 162 [e7 m,e7 n] I (λr J=>r=e7 (cmpI m n)/\I=J):=by
 refine Ce2 Tryz.func162 C C ?_
 refine Ad<|Ga C<|Ac<|Ad<|Gm C<|Gc0 (Aj c_ C C<|IsNaN_ok m) ?_
 refine Ga C<|Ac<|Ad<|Gm C<|Gc0 (Aj c_ C C<|IsNaN_ok n) ?_
 refine Ga C<|Ac<|Ar<|Ad<|Gm C<|Ac<|Dg C<|Aw<|Ah<|Ar<|Ad<|Gm C<|Ac<|Dg C<|Aw<|Ah<|Ar<|Ad<|Gm C<|Gm C<|Gr (A9 C C)<|Ac<|Ap (S3 16 0 1)<|A7 C (λZ=>?_)<|λZ=>?_
 ·exact Ad<|Ga C<|Ac<|Az<|Ao<|A1 C C I Ax ⟨by unfold cmpI;rw [if_pos Z],rfl⟩
 refine Aw<|Ah<|Ar<|Ad<|Gm C<|Gm C<|Gr (B2 C C)<|Ac<|A7 C (λM=>?_)<|λM=>?_
 ·exact Ad<|Ga C<|Ac<|Az<|Ao<|A1 C C I Ax ⟨by unfold cmpI;rw [if_neg Z,if_pos M],rfl⟩
 exact Aw<|Ah<|Ad<|Ga C<|Ac<|Az<|A1 C C I Ax ⟨by unfold cmpI;rw [if_neg Z,if_neg M],rfl⟩
theorem Or_ok{v:Value}{xs:List Int}(M:Sl κ I v xs):eu prog κ 161 [v] I (λr J=>r=e7 (orL xs)/\I=J):=by
 refine B5 M.le λaa=>?_
 refine Ce1 Tryz.func161 C C ?_
 refine Ad<|Ga C<|Ac<|Ad<|Ga C<|Ac<|Ar<|Ad<|Gm C<|Gr (Bw (α:=Int) (xs:=xs) Af C<|A8 M)<|Gm C<|Ac<|A5<|B1 (σ:=Nat) (λs=>([(3,e7 0),(6,v),(7,e7 ((xs.length:Nat):Int)),(8,e7 ((s:Nat):Int))]:Env)) (λs=>I) (λs=>(s<=xs.length)/\(orL xs=orL (xs.drop s))) (λs=>xs.length - s) 0 (show ((0:Nat)<=xs.length)/\(orL xs=orL (xs.drop (0:Nat))) from ⟨om,rfl⟩) (cx2<|Aa C<|Aa Cd Bp) (show Fit κ _ I from Bg) ?_
 rintro k hp
 obtain ⟨hk,ho⟩:=hp
 refine Ad<|Gr (A9 C C)<|Ac<|Ar<|A7 C (λc9=>?_)<|λc9=>?_
 ·refine Aw (Ah<|Ar<|A5<|Ad<|Gr (A3 (α:=Int) (xs:=xs) Af ef C C (A8 M) om om)<|Gr (Bx (xs:=xs) ef C (A8 M) om om)<|Ga C<|Ac<|Ad<|Gm C<|Gm C<|Gr (Be C C)<|Ac<|A7 C (λZ=>?_)<|λZ=>?_)
  ·exact Ad<|Gm C<|Ga C<|Ac<|Az<|Ba<|Ao<|Ao<|Ba<|Ao<|A1 C C I Ax ⟨by rw [ho,orL_stop om Z],rfl⟩
  exact Aw<|Am<|Ah<|Ay<|Gr (Rad C C)<|Gm C<|Bj<|Cb ((k+1)) ⟨om,(ho.trans<|orL_step om<|Decidable.of_not_not Z)⟩
 exact Bt<|Aq<|Aq<|Bb<|Ah<|Ad<|Gm C<|Ga C<|Ac<|Az<|A1 C C I Ax ⟨by rw [ho,orL_end om],rfl⟩
theorem Before03_ok{κ:Ctx}{I:List Item}(a c:Pt):eu prog κ 98 [.agg #[e7 (a.u),e7 (a.v)],.agg #[e7 (c.u),e7 (c.v)]] I (λr J=>r = .bool (decide (Pt.lt a c))/\I=J):=by
 refine Ce2 Tryz.func98 C C ?_
 refine Ad<|Ge1 (Bd (cs:=[_,_]) C C C) λb1=>Ge1 (Bd (cs:=[_,_]) C C C) λb2=>Ga C<|Ac<|Ad<|Gf fld105_0 C<|Gl ef ?_
 refine Gf fld105_0 C<|Gl ef ?_
 refine Gr (A9 C C)<|Gm C<|Bh (d:=10) C (λZ=>?_)<|λZ=>?_
 ·exact eb<|eb<|eb<|eb<|eb<|eb<|ee<|ee<|ee<|ee<|ee<|eb<|Gr (Av C C)<|Ga C<|Ac<|Ap (S1 4)<|Az<|A1 C C I Ax ⟨(by first|exact congrArg Value.bool (decide_eq_decide.2<|by unfold Pt.lt;omega)|exact congrArg Value.bool (decide_eq_true<|by unfold Pt.lt;omega).symm|exact congrArg Value.bool (decide_eq_false<|by unfold Pt.lt;omega).symm),rfl⟩
 refine e9 (Ab fld105_0 C)<|e9 (A0 ef) ?_
 refine e9 (Ab fld105_0 C)<|e9 (A0 ef) ?_
 refine e9 (Br C C)<|e9 (Ai C)<|Bh (d:=16) C (λM=>?_)<|λM=>?_
 ·refine e9 (Ab fld105_1 C) (e9 (A0 ef) ?_)
  refine e9 (Ab fld105_1 C)<|e9 (A0 ef) ?_
  exact e9 (A9 C C)<|e9 (Av C C)<|Gr (Au C C)<|Ga C<|Ac<|Ap (S1 4)<|Az<|A1 C C I Ax ⟨(by first|exact congrArg Value.bool (decide_eq_decide.2<|by unfold Pt.lt;omega)|exact congrArg Value.bool (decide_eq_true<|by unfold Pt.lt;omega).symm|exact congrArg Value.bool (decide_eq_false<|by unfold Pt.lt;omega).symm),rfl⟩
 exact eb<|eb<|eb<|eb<|eb<|e9 (Au C C)<|Gr (Au C C)<|Ga C<|Ac<|Ap (S1 4)<|Az<|A1 C C I Ax ⟨(by first|exact congrArg Value.bool (decide_eq_decide.2<|by unfold Pt.lt;omega)|exact congrArg Value.bool (decide_eq_true<|by unfold Pt.lt;omega).symm|exact congrArg Value.bool (decide_eq_false<|by unfold Pt.lt;omega).symm),rfl⟩
end Go.Sl
