/- A part of the proofs of statements of this seat: contracts of functions, and the plain laws that they lean on. No conditions. -/
import Derived.Test.YtfkcohmipjhfcaaGreatDoorB21
set_option linter.unusedVariables false
set_option linter.unusedSimpArgs false
set_option linter.unusedSectionVars false
/- The du1 at a time, asked from the events of the window up to it and from what has expired by then. No conditions. -/
set_option maxHeartbeats 4000000
namespace Go.Sl
variable{E out:List Ev}{xs:List Lk}
def Due(wd:Int)(out:List Ev):Prop:=∀p e q,out=p++e::q->∀x∈eh p,e.tm<=x.tm+wd
theorem Due.nil{wd:Int}:Due wd []:=λp e q h=>by simp at h
theorem Due.app{wd:Int}{new:List Ev}(h:Due wd out)(hn:∀p e q,new=p++e::q->∀x∈eh (out++p),e.tm<=x.tm+wd):Due wd (out++new):=λp e q he x hx=>by
 rcases List.append_eq_append_iff.1 he with ⟨a,E,M⟩|⟨c,E,M⟩
 ·exact hn a e q M x<|by rw [←E];exact hx
 cases c with
 |nil=>
  rw [Hq] at E
  exact hn [] e q (by simpa using M.symm) x<|by rw [Hq,E];exact hx
 |cons y c=>
  rw [Mb] at M
  injection M with h3 h4
  subst h3
  exact h p e c E x hx
theorem cb0:∀(p:List Ev) (xs:List Lk),(∀e∈p,e.kd≠1)->∀x∈p.foldl eo xs,x∈xs
 |[],xs,_,x,h=>h
 |e::p,xs,he,x,h=>by
  have M:=cb0 p (eo xs e) (λy E=>he y<|Fv _ E) x h
  unfold eo at M;rw [An (he e C_)] at M
  exact (G_.1 M).1
theorem ad3(a b:List Ev):eh (a++b)=b.foldl eo (eh a):=by unfold eh;rw [Hw]
theorem cx8{kd wd mo nw:Int}{e:Ev}(M:e∈F6 kd wd mo nw xs):e.kd=2/\e.tm=nw:=by
 unfold F6 at M
 obtain ⟨z,E,rfl⟩:=Ha.1 M
 exact ⟨rfl,rfl⟩
structure fv4 (nd wd:Int) (xs:List Lk) (out:List Ev):Prop where
 st:xs=eh out
 val:j8 nd xs=0
 due:Due wd out
theorem fv4.step{nd wd mo:Int}(h:fv4 nd wd xs out)(h0:0<xs.length):fv4 nd wd (xs.filter (inW 2 wd mo (ae4 xs+wd) xs)) (out++F6 2 wd mo (ae4 xs+wd) xs):=by
 refine ⟨by rw [ad3,←h.st,U5 h.val],an1 h.val,h.due.app λp e q he x hx=>?_⟩
 have M:∀y∈F6 2 wd mo (ae4 xs+wd) xs,y.kd=2/\y.tm=ae4 xs+wd:=λy E=>cx8 E
 rw [he] at M
 have h1:=(M e<|by simp).2
 rw [ad3,←h.st] at hx
 have h2:=cb0 p xs (λy E=>by rw [(M y<|by simp [E]).1];decide) x hx
 have h3:=(Y8 h0).2 x h2
 omega
theorem fv4.all{nd wd mo:Int}{es:List Ev}(h:da8 nd es)(hw:1<=wd):∀k,k<=es.length->fv4 nd wd (q9 2 wd mo (es.take k)).1 (q9 2 wd mo (es.take k)).2
 |0,_=>⟨rfl,ca3 h.nodes,.nil⟩
 |k+1,hk=>by
  have ih:=fv4.all (mo:=mo) h hw k om
  have M:=h.fit k om
  rw [H9 om]
  generalize q9 2 wd mo (es.take k)=s at ih ⊢
  generalize e_ es k=e at M ⊢
  obtain ⟨xs,out⟩:=s
  have aa:ab9 2 wd mo (xs,out) e=(eo (Y0 wd mo e.tm xs out).1 e,(Y0 wd mo e.tm xs out).2++[e]):=rfl
  rw [aa]
  obtain ⟨E,h2⟩:=bc9 (mo:=mo) (P:=λxs out=>fv4 nd wd xs out) (λxs out hs hP=>hP.step hs.1) xs.length xs out (Gk _) ih
  generalize Y0 wd mo e.tm xs out=a at E h2 ⊢
  refine ⟨by simp only;rw [ad3,←E.st];rfl,ac7 E.val M,E.due.app λp y q he x hx=>?_⟩
  cases p with
  |nil=>
   rw [List.nil_append] at he
   injection he with h3 h4
   subst h3
   rw [Hq,←E.st] at hx
   have h5:=(Y8<|Jz hx).2 x hx
   have h6:=Jz hx
   omega
  |cons z p=>simp at he
theorem bo1{nd mo:Int}{es:List Ev}(h:da8 nd es):∀k,k<=es.length->(q9 3 0 mo (es.take k)).2.Pairwise (λa b=>a.tm<=b.tm)/\∀e∈(q9 3 0 mo (es.take k)).2,e.tm<=G3 es k
 |0,_=>⟨List.Pairwise.nil,λe he=>(by cases he)⟩
 |k+1,hk=>by
  have ih:=bo1 (mo:=mo) h k om
  have aa:=h.asc k om
  rw [H9 om,dw2]
  generalize q9 3 0 mo (es.take k)=s at ih ⊢
  generalize hee:e_ es k=e at aa ⊢
  have hlt:G3 es (k+1)=e.tm:=by rw [G0,hee]
  rw [hlt]
  have E:∀y∈F6 3 0 mo e.tm (eo s.1 e),y.tm=e.tm:=λy hy=>(cx8 hy).2
  have hb:∀y∈s.2++[e],y.tm<=e.tm:=λy hy=>by
   rcases Gu.1 hy with hy|hy
   ·have:=ih.2 y hy;omega
   rw [Gj.1 hy];exact Hn _
  refine ⟨Jl.2 ⟨Jl.2 ⟨ih.1,Ln _ _,λx M y hy=>?_⟩,?_,λx M y hy=>?_⟩,λy hy=>?_⟩
  ·rw [Gj.1 hy];exact hb x (Js _ M)
  ·refine Nt (R:=λ_ _=>True) (λM hy _=>?_) (List.pairwise_of_forall<|λ_ _=>trivial)
   rw [E _ M,E _ hy];exact Hn _
  ·rw [E y hy];exact hb x M
  rcases Gu.1 hy with hy|hy
  ·exact hb y hy
  rw [E y hy];exact Hn _
section
variable {nd kd wd mo:Int}{es:List Ev}
theorem da8.pw(h:da8 nd es):es.Pairwise λa b=>a.tm<=b.tm:=by
 rw [Ho]
 intro i j hi hj M
 have h1:=h.up j om i M
 have E:=h.asc j hj
 rw [Cj es i hi] at h1
 rw [Cj es j hj] at E
 omega
theorem G6.asc(h:G6 nd kd wd mo es):(q9 kd wd mo es).2.Pairwise λa b=>a.tm<=b.tm:=by
 have M:es.take es.length=es:=Hx
 rcases R0 h.win with ⟨rfl,rfl,rfl⟩|⟨rfl,E,rfl⟩|⟨rfl,rfl,hm⟩
 ·rw [bc7];exact h.st.pw
 ·have:=(fv6.all (mo:=0) h.st E.1 es.length<|Gk _).asc
  rwa [M] at this
 have:=(bo1 (mo:=mo) h.st es.length<|Gk _).1
 rwa [M] at this
theorem G6.due(h:G6 nd 2 wd mo es):Due wd (q9 2 wd mo es).2:=by
 have E:es.take es.length=es:=Hx
 rcases R0 h.win with ⟨M,_⟩|⟨_,hw,_⟩|⟨M,_⟩
 ·exact absurd M dc
 ·have:=(fv4.all (mo:=mo) h.st hw.1 es.length<|Gk _).due
  rwa [E] at this
 exact absurd M dc
end
theorem takeWhile_filter{p:Ev->Bool}:∀{E:List Ev},E.Pairwise (λa b=>p b=true->p a=true)->E.takeWhile p=E.filter p
 |[],_=>rfl
 |x::E,h=>by
  obtain ⟨h1,h2⟩:=Gp.1 h
  cases hp:p x with
  |true=>rw [List.takeWhile_cons_of_pos hp,List.filter_cons_of_pos hp,takeWhile_filter h2]
  |false=>
   rw [List.takeWhile_cons_of_neg (by simp [hp]),List.filter_cons_of_neg<|by simp [hp]]
   refine (Jc.2 λy hy M=>?_).symm
   rw [h1 y hy M] at hp;cases hp
def upT(T:Int)(e:Ev):Bool:=decide (e.tm<=T)
theorem dn8(h:E.Pairwise λa b=>a.tm<=b.tm)(T:Int):E.takeWhile (upT T)=E.filter (upT T):=
 takeWhile_filter (h.imp λaa M=>by unfold upT at M ⊢; have:=Gc M;exact D_ om)
theorem ff3(h:E.Pairwise λa b=>a.tm<=b.tm)(T:Int):(∀e∈E,e.tm<=T)\/∃e q,E=E.filter (upT T)++e::q/\T<e.tm:=by
 rw [←dn8 h]
 have h1:=List.takeWhile_append_dropWhile (p:=upT T) (l:=E)
 cases hd:E.dropWhile (upT T) with
 |nil=>
  left
  rw [hd,Hq,dn8 h] at h1
  intro e he
  rw [←h1] at he
  exact Gc (G_.1 he).2
 |cons e q=>
  right
  refine ⟨e,q,by rw [←hd,h1],?_⟩
  have M:E.dropWhile (upT T)≠[]:=by rw [hd];simp
  have h2:=List.head_dropWhile_not (upT T) M
  have h3:(E.dropWhile<|upT T).head M=e:=by simp only [hd,List.head_cons]
  rw [h3] at h2
  unfold upT at h2
  have:=Gt h2
  omega
def gh2(kd wd mo:Int)(es:List Ev)(T:Int):List Lk:=
 if kd=2 then (eh<|(q9 kd wd mo es).2.filter (upT T)).filter (Z8 wd T) else eh ((q9 kd wd mo es).2.filter (upT T))
theorem bp0(l:List Ev)(x:Ev):∀n,n<=l.length->W0 evC l x n<=n/\(∀i:Nat,W0 evC l x n<=i->i<n->x.tm<(e_ l i).tm)/\(0<W0 evC l x n->(e_ l ((W0 evC l x n - 1:Nat):Int)).tm<=x.tm)
 |0,_=>⟨Gk _,λi E M=>by omega,λh=>absurd h<|Nat.lt_irrefl 0⟩
 |n+1,hn=>by
  unfold W0
  split
  ·rename_i h
   obtain ⟨E,M,h3⟩:=bp0 l x n om
   refine ⟨by omega,λi hi hlt=>?_,h3⟩
   by_cases e:i=n
   ·subst e;exact dw3.1 h
   exact M i hi om
  rename_i h
  refine ⟨Gk _,λi E M=>by omega,λ_=>?_⟩
  have:¬x.tm<(e_ l n).tm:=λhh=>h (dw3.2 hh)
  show (e_ l n).tm<=x.tm
  omega
theorem df9{l:List Ev}(h:l.Pairwise λa b=>a.tm<=b.tm)(x:Ev):(aq1 evC l x).Pairwise λa b=>a.tm<=b.tm:=by
 obtain ⟨h1,h2,h3⟩:=bp0 l x l.length (Gk _)
 unfold aq1 bz6
 generalize W0 evC l x l.length=p at h1 h2 h3
 have hg:=Ho.1 h
 have ha:∀a∈l.take p,a.tm<=x.tm:=λa ha=>by
  obtain ⟨i,hi,rfl⟩:=Ki ha
  rw [Fx] at hi
  rw [Lt]
  have h4:=h3 om
  rw [Cj l (p - 1) om] at h4
  by_cases e:i=p - 1
  ·subst e;exact h4
  have:=hg i (p - 1) om om om;omega
 have hb:∀b∈l.drop p,x.tm<=b.tm:=λb hb=>by
  obtain ⟨i,hi,rfl⟩:=Ki hb
  rw [Ge] at hi
  rw [List.getElem_drop]
  have h4:=h2 (p+i) om om
  rw [Cj l (p+i) om] at h4
  omega
 refine Jl.2 ⟨h.sublist<|List.take_sublist _ _,Gp.2 ⟨hb,h.sublist<|List.drop_sublist _ _⟩,λa E b M=>?_⟩
 rcases Gh.1 M with rfl|M
 ·exact ha a E
 have h5:=ha a E;have h6:=hb b M;omega
theorem bp4:∀(xs acc:List Ev),acc.Pairwise (λa b=>a.tm<=b.tm)->(xs.foldl (aq1 evC) acc).Pairwise λa b=>a.tm<=b.tm
 |[],acc,h=>h
 |x::xs,acc,h=>bp4 xs _ (df9 h x)
theorem df7(xs:List Ev):(G1 evC xs).Pairwise λa b=>a.tm<=b.tm:=bp4 xs [] List.Pairwise.nil
theorem ay8:∀(E:List Ev) (xs:List Lk),(∀e∈E,e.kd≠1)->E.foldl eo xs=xs.filter λx=>E.all λe=> !az8 e x
 |[],xs,_=>(Kv.2 λ_ _=>rfl).symm
 |e::E,xs,h=>by
  have h1:eo xs e=xs.filter λx=> !az8 e x:=by unfold eo;rw [An (h e C_)]
  rw [Jp,h1,ay8 E _<|λy M=>h y<|Fv _ M,Mf]
  refine Jd λx _=>?_
  rw [List.all_cons,Bool.and_comm]
theorem ce3{wd:Int}{z x:Lk}(M:z.u<z.v):az8 (cutAt wd z) x=decide (x.p=z.p):=by
 rw [Q3 (show (cutAt wd z).kd=2 from rfl)]
 have:(ei<|cutAt wd z).p=z.p:=by
  rw [gq5];unfold ei cutAt;simp only
  rw [An om,By M];exact ⟨rfl,rfl⟩
 rw [this]
section
variable {nd kd wd mo T:Int}{es:List Ev}
theorem G6.fa0(h:G6 nd kd wd mo es):(V8 kd wd mo es).Pairwise λa b=>a.tm<=b.tm:=by
 unfold V8
 refine Jl.2 ⟨h.asc,df7 _,λx hx y M=>?_⟩
 have M:=(E6 _ _).mem_iff.1 M
 unfold L8 at M
 obtain ⟨z,hz,rfl⟩:=Ha.1 M
 obtain ⟨h1,E⟩:=G_.1 hz
 unfold cd7 at E
 have E:=Gc E
 show x.tm<=z.tm+wd
 rcases R0 h.win with ⟨e1,_⟩|⟨e1,hw,e3⟩|⟨e1,_⟩
 ·omega
 ·subst e1
  have he:es.take es.length=es:=Hx
  have hB:=fv6.all (mo:=mo) h.st hw.1 es.length (Gk _)
  rw [he] at hB
  rw [←h.du1] at h1
  have h3:=hB.le x hx
  have h4:=hB.inv.al rfl z h1
  omega
 omega
theorem df3(h:G6 nd kd wd mo es)(M:∀e∈E,H6 nd e):j8 nd (eh E)=0:=ai3 h.st.nodes _ _ (ca3 h.st.nodes) M
theorem dz7(h:G6 nd kd wd mo es)(hT:0<=T/\T<=1048576):atK kd wd mo es T=gh2 kd wd mo es T:=by
 have e0:atK kd wd mo es T=eh ((V8 kd wd mo es).filter (upT T)):=by
  unfold atK;rw [←dn8 h.fa0];rfl
 rw [e0]
 unfold V8 gh2
 rw [Hc]
 by_cases hk:kd=2
 ·rw [By hk]
  subst hk
  have aa:=h.fit
  have M:j8 nd (eh<|(q9 2 wd mo es).2.filter (upT T))=0:=df3 h λe he=>aa e (G_.1 he).1
  rcases ff3 h.asc T with ab|⟨e,q,he,aj⟩
  ·have hS:(q9 2 wd mo es).2.filter (upT T)=(q9 2 wd mo es).2:=Kv.2 λe he=>D_ (ab e he)
   rw [hS] at M ⊢
   rw [ad3]
   generalize eh (q9 2 wd mo es).2=X at M
   have hm:∀y,y∈(G1 evC<|L8 2 wd X).filter (upT T)↔∃z∈X,z.tm+wd<=T/\y=cutAt wd z:=λy=>by
    rw [G_,(E6 evC<|L8 2 wd X).mem_iff]
    unfold L8
    rw [Ha]
    constructor
    ·rintro ⟨⟨z,hz,rfl⟩,h2⟩
     exact ⟨z,(G_.1 hz).1,Gc h2,rfl⟩
    rintro ⟨z,hz,h2,rfl⟩
    exact ⟨⟨z,G_.2 ⟨hz,D_ ⟨rfl,by omega⟩⟩,rfl⟩,D_ h2⟩
   rw [ay8 _ X (λy hy=>by obtain ⟨z,_,_,rfl⟩:=(hm y).1 hy;show (2:Int)≠1;decide)]
   refine Jd λx E=>?_
   unfold Z8
   rw [Lr,Nx,Gn]
   constructor
   ·intro hh
    refine Gg λhn=>?_
    have h1:=hh _ ((hm _).2 ⟨x,E,by omega,rfl⟩)
    rw [ce3 (bn4 M x E).2.1] at h1
    simp at h1
   intro hh y hy
   obtain ⟨z,h1,h2,rfl⟩:=(hm y).1 hy
   have ah:x.p≠z.p:=λhp=>by
    have:=gm8 (K9 M).2.2 E h1 hp
    subst this;omega
   rw [ce3 (bn4 M z h1).2.1]
   simp [ah]
  have ad:(G1 evC<|L8 2 wd<|eh (q9 2 wd mo es).2).filter (upT T)=[]:=by
   refine Jc.2 λy hy ae=>?_
   have ai:=Gc ae
   have h1:=(Jl.1 h.fa0).2.2 e (by rw [he];simp) y hy
   omega
  rw [ad,Hq]
  refine (Kv.2 λx E=>?_).symm
  have:=h.due _ e q he x E
  unfold Z8
  exact D_ om
 rw [An hk]
 have hl:L8 kd wd (eh (q9 kd wd mo es).2)=[]:=by
  unfold L8
  rw [Jc.2 λx _ E=>by unfold cd7 at E;exact hk (Gc E).1]
  rfl
 rw [hl]
 have:(G1 evC ([]:List Ev)).filter (upT T)=[]:=rfl
 rw [this,Hq]
end
end Go.Sl
namespace Go.Sl
variable {P:Program}{κ:Ctx}{N:Frm}{L:Env}{I:List Item}
theorem V.gg9{fn:Func}{t u s:Tmp}{T b E sz by':Nat}{z cs:List Value}{v' ab:Value}{Post:Value->List Item->Prop}(hr:fn.results = #[.tmp u,.cell t T,.tmp s])(hT:tyF P T=some (sz,true,by',z))(hv:look L t=some ((pt b)))(ae:look L u=some v')(ad:look L s=some ab)(hb:e8 b cs E∈I)
  (hl:cs.length=sz) (J:List Item) (hf:Fit κ I J) (hp:Post (.tuple #[v',.agg cs.toArray,ab]) J) (h0:N.ds=[]:=by rfl):V κ N (bodyPost P fn<|bs4 κ Post) .ret L I:=
 λa w ha hs=>by
  have aa:=λj=>V6 (w:=w) (hs.ok _ hb).1 j
  have M:(loadVar T ⟨b,0,none⟩).run P w = .ok (.agg cs.toArray) w:=G2 hT hl λj u hj=>by rw [y5,aa,←hj];simp
  refine bodyPost_ret (v:= .tuple #[v',.agg cs.toArray,ab]) ?_ (ha.defers.trans h0) ⟨_,J,rfl,hp,hf w hs⟩
  simp [results,hr,ha.get t _ hv,ha.get u _ ae,ha.get s _ ad,asAddr,M]
end Go.Sl
namespace Go.Sl
variable {P:Program}{κ:Ctx}{N:Frm}{L:Env}{I:List Item}
end Go.Sl
namespace Go.Sl
open Go.Proofs
set_option maxRecDepth 4000
end Go.Sl
/- The du1 at a time depend on the events up to it alone. No conditions. -/
namespace Go.Sl
end Go.Sl
namespace Go.Sl
open Go.Proofs
set_option maxRecDepth 4000
variable{I:List Item}{nd:Int}{va:Value}{xs:List Lk}
theorem au6{κ:Ctx}{e:Ev}(hl:Sl κ I va xs)(aw:j8 nd xs=0)(ao:H6 nd e)(cp:xs.length<=1000000):er Tryz.prog κ 94 [.agg #[e7 nd,va],.agg (ye e).toArray] I (λr J=>∃y:Option Addr×Nat×Option Addr×Nat×Nat,(r = .tuple #[.agg #[e7 nd,.slice y.1 (eo xs e).length y.2.1],.slice y.2.2.1 y.2.2.2.1 y.2.2.2.2,e7 0]/\y.2.2.2.1<=2*xs.length+1)/\J=vq 146 y.1 y.2.1 (eo xs e)::I):=by
 refine Bm hl.le λcf=>?_
 refine Ce2 Tryz.func94 C C ?_
 refine Aj<|Ge1 (Ay (cs:=[_,_]) C C C) λb1=>Ge1 (Ay (cs:=[_,_,_,_,_,_,_]) C C C) λb2=>Ge1 (Ah s5 C) λb3=>Ga C<|Ga C<|Aq<|Ax<|Aj<|Gl2 s5 ?_
 refine Gc0 (Ac c_ C C<|ae3 (nd:=nd)<|Bc hl) ?_
 refine Ga C<|Aq<|Aj<|Gm C<|Gr (Cu C C)<|Aq<|Am C (λa9=>?_)<|λa9=>?_
 ·exact absurd aw a9
 refine A4<|Al<|Ax<|Aj<|Gl7 j7 ?_
 refine Gc0 (Ac c_ C C<|ao1 e) ?_
 refine Ga C<|Aq<|A0 (S4 8 4 3 2)<|Aj<|Gm C<|Gr (Cu C C)<|Aq<|Am C (λbm=>?_)<|λbm=>?_
 ·exact absurd ao.chk bm
 refine A4<|Al<|Ax<|Aj<|Gf X7 C<|Gl ef ?_
 refine Gf ag2 C<|Gl ef ?_
 refine Gr (Eo C C)<|Gm C<|Au (d:=33) C (λb7=>?_)<|λb7=>?_
 ·exact absurd ao.fits om
 refine e9 (Ai L9 C)<|e9 (Bd ef) ?_
 refine e9 (Ai ag2 C)<|e9 (Bd ef) ?_
 refine e9 (Eo C C)<|Gr (Bg C C)<|Aq<|A0 (S4 39 4 3 2)<|Am C (λbw=>?_)<|λbw=>?_
 ·exact absurd ao.fits om
 refine A4<|Al<|Aj<|Gf ag2 C<|Gl ef ?_
 refine Gr (B1 (cells:=[_,_]) s5 Dc bu9 C C)<|Ge1 (Ah s5 C) λb4=>Ge0 (Ba s5) ?_
 refine Aq<|Aj<|Ga C ?_
 have ai:=(K9 aw).2.2
 have cr:=ao.kind
 refine Aq<|Aj<|Gf X7 C<|Gl ef ?_
 refine Gf L9 C<|Gl ef ?_
 refine Gr (j0.min C C)<|Gf X7 C<|Gl ef ?_
 refine Gf L9 C<|Gl ef ?_
 refine Gr (j0.max C C)<|Gf cy7 C<|Gl ef ?_
 refine Gf bx1 C<|Gl ef ?_
 refine Gf bx0 C<|Gl ef ?_
 refine Gf K0 C<|Gl ef ?_
 refine Gr (B1 (cells:=[_,_,_,_,_,_]) p7 Tryz.underlying146 gh7 C C)<|Ge1 (Ah p7 C) λb5=>Ge0 (Dp p7) ?_
 refine Aq<|A0 (S6 11 10 9 4 3 2)<|Aj<|Gf an0 C<|Gl ef ?_
 refine Gr (Cu C C)<|Ga C<|Aq<|Ax<|Aj<|Gf H0 C<|Gl R7 ?_
 refine Gr (C3 (α:=Lk) (xs:=xs) Aw C<|Bc hl)<|Gm C<|Aq<|A0 (S9 69 68 67 12 11 10 9 4 3)<|A3<|B4 (σ:=Nat×(Option Addr)×Nat×(Option Addr)×Nat×(List Lk)×(List Ev)×Bool) (λs=>([(3,pt b2),(4,pt b3),(9,pt b4),(10,.slice s.2.2.2.1 s.2.2.2.2.2.2.1.length s.2.2.2.2.1),(11,pt b5),(12,.bool<|s.2.2.2.2.2.2.2),(67,va),(68,e7 ((xs.length:Nat):Int)),(69,e7 ((s.1:Nat):Int))]:Env)) (λs=>e8 b4 [e7 nd,.slice s.2.1 s.2.2.2.2.2.1.length s.2.2.1] 111::vq 146 s.2.1 s.2.2.1 s.2.2.2.2.2.1::vq 108 s.2.2.2.1 s.2.2.2.2.1 s.2.2.2.2.2.2.1::e8 b5 (kl (ei e)) 146::e8 b3 [e7 0,.slice none 0 0] 111::e8 b2 (ye e) 108::e8 b1 [e7 nd,va] 111::I) (λs=>(s.1<=xs.length)/\(ApI xs e s.1 s.2.2.2.2.2.1 s.2.2.2.2.2.2.2)/\(s.2.2.2.2.2.2.1.length<=2*s.1)) (λs=>xs.length - s.1) (0,none,0,none,0,[],[],decide<|e.kd≠1) ⟨om,ApI.start,(by simp)⟩ (cx2<|Aa C<|Aa (Da C<|by first|rfl|simp)<|Aa C<|Aa (Da C<|by first|rfl|simp)<|cx2<|Aa Co A9) (Bz (Bb 108 _)<|Bz (Bb 146 _) Bi) ?_
 rintro ⟨k,a1,c1,a2,c2,O,ak,q⟩ hp
 dsimp only at hp ⊢
 obtain ⟨hk,hA,cn⟩:=hp
 refine Aj<|Gr (Bp C C)<|Aq<|Ax<|Am C (λbz=>?_)<|λbz=>?_
 ·refine A4 (Al<|Ax<|A3<|Aj<|Gr (A2 (α:=Lk) (xs:=xs) Aw p7 C C (Bc hl) om om)<|Gr (Cd (α:=Lk) (xs:=xs) p7 C (Bc hl) om om)<|Ge1 (Ah p7 C) λb6=>Ge0 (Dp p7) ?_)
  refine Aq<|D2 (σ:=(Option Addr)×Nat×(Option Addr)×Nat×(List Lk)×(List Ev)×Bool) (λs=>([(3,pt b2),(4,pt b3),(9,pt b4),(10,.slice s.2.2.1 s.2.2.2.2.2.1.length s.2.2.2.1),(11,pt b5),(12,.bool<|s.2.2.2.2.2.2),(14,pt b6),(67,va),(68,e7 ((xs.length:Nat):Int)),(69,e7<|(k:Int))]:Env)) (λs=>e8 b4 [e7 nd,.slice s.1 s.2.2.2.2.1.length s.2.1] 111::vq 146 s.1 s.2.1 s.2.2.2.2.1::vq 108 s.2.2.1 s.2.2.2.1 s.2.2.2.2.2.1::e8 b6 (kl (e_ xs k)) 146::e8 b5 (kl (ei e)) 146::e8 b3 [e7 0,.slice none 0 0] 111::e8 b2 (ye e) 108::e8 b1 [e7 nd,va] 111::I) (λs=>(ApI xs e k s.2.2.2.2.1 s.2.2.2.2.2.2)/\((!s.2.2.2.2.2.2)=true->¬Pt.lt (ei e).p (e_ xs k).p)/\(s.2.2.2.2.2.1.length<=2*k+1)) ?_ ?_
  ·refine Ax (A8 mixed<|C1 9<|Dr 0 C (Ad C)<|Dr 1 C (j0.not C)<|Dr 2 C (Ad C)<|D.bn8 (d:=75) C (λaj=>?_)<|λaj=>?_)
   ·refine Dro 3 C (Ch (vs:=[_,_,_,_,_,_]) p7) ?_
    refine Dro 5 C (Ch (vs:=[_,_,_,_,_,_]) p7) ?_
    refine Ds1 4<|Sc0 C (Ac c_ C C<|ac3<|ei e) ?_
    refine Ds1 6<|Sc0 C (Ac c_ C C<|ac3<|e_ xs k) ?_
    refine Ds1 7<|Sc0 C (Ac c_ C C<|ar1 (ei e).p (e_ xs k).p) ?_
    refine Dr 8 C (Br C C)<|Dz<|Al<|A0 (S11 81 14 3 4 9 10 11 12 67 68 69)<|Am C (λan=>?_)<|λan=>?_
    ·refine A8 mixed (Cf (e8 b6 (kl (e_ xs k)) 146::e8 b5 (kl (ei e)) 146::e8 b3 [e7 0,.slice none 0 0] 111::e8 b2 (ye e) 108::e8 b1 [e7 nd,va] 111::I) 16<|Dr 0 C (Ai H0 C)<|Dr 2 C (Ch (vs:=[_,_,_,_,_,_]) p7) ?_)
     refine Dr 5 C (Ad C)<|Dr 6 C (Ch (vs:=[_,_,_,_,_,_]) p7) ?_
     refine Dr 7 C (Ai K0 C)<|Dr 8 C (Bd ef) ?_
     refine Cg (rs:=[1,3]) kr C C<|Dk ?_<|Du ?_
     ·refine Sr C (Bd R7) Ar ?_
      refine Ds1 3<|Se1 C (Bt (α:=Lk) (cs:=(kl (ei e))) (xs:=[⟨(ei e).u,(ei e).v,(ei e).w,(ei e).lb,(ei e).sg,(ei e).tm⟩]) Aw p7 C C dc dc C kr C C) λco=>?_
      refine Ds1 4<|Se2 C (Bv (α:=Lk) (e:=146) (xs:=O) (ys:=([⟨(ei e).u,(ei e).v,(ei e).w,(ei e).lb,(ei e).sg,(ei e).tm⟩]:List Lk)) Aw p7 C C C mm A6 (by have ae:=hA.len;first|(simp only [A_,Fu,F_];omega)|(have ah:=E.len;simp only [A_,Fu,F_];omega)) dc C<|λ_ _=>am) λb8 bx=>?_
      refine Dr 12 C (Ai H0 C)<|Ds1 9<|Sc0 C (Ac c_ C C<|bj6 (ei e) e.tm) ?_
      refine Ds1 10<|Se1 C (Bt (α:=Ev) (cs:=[e7 1,e7<|e.tm,e7<|(ei e).u,e7<|(ei e).v,e7<|(ei e).w,e7<|(ei e).lb,e7<|(ei e).sg]) (xs:=[⟨1,e.tm,(ei e).u,(ei e).v,(ei e).w,(ei e).lb,(ei e).sg⟩]) As j7 C C dc dc C kr C C) λce=>?_
      refine Ds1 11<|Se2 C (Bv (α:=Ev) (e:=108) (xs:=ak) (ys:=([⟨1,e.tm,(ei e).u,(ei e).v,(ei e).w,(ei e).lb,(ei e).sg⟩]:List Ev)) As j7 C C C mm A6 (by have ae:=hA.len;first|(simp only [A_,Fu,F_];omega)|(have ah:=E.len;simp only [A_,Fu,F_];omega)) dc C<|λ_ _=>am) λbc bn=>?_
      refine Ds1 13<|Se0 C (D5 R7) ?_
      exact Dr 14 C (Bo C)<|Dr 15 C (Bo C)<|Dz<|Bu ((b8),(bx),(bc),(bn),(O++([⟨(ei e).u,(ei e).v,(ei e).w,(ei e).lb,(ei e).sg,(ei e).tm⟩]:List Lk)),(ak++([⟨1,e.tm,(ei e).u,(ei e).v,(ei e).w,(ei e).lb,(ei e).sg⟩]:List Ev)),(true))<|by dsimp only;exact ⟨(by first|exact hA.ins ai om aj an|exact hA),(by intro h;first|exact absurd h dc|exact an|(rw [h] at aj;cases aj)),olp⟩
     refine Se1 C (Bt (α:=Lk) (cs:=(kl (ei e))) (xs:=[⟨(ei e).u,(ei e).v,(ei e).w,(ei e).lb,(ei e).sg,(ei e).tm⟩]) Aw p7 C C dc dc C kr C C) λcc=>?_
     refine Ds1 1<|Sr C (Bd R7) Ar ?_
     refine Ds1 4<|Se2 C (Bv (α:=Lk) (e:=146) (xs:=O) (ys:=([⟨(ei e).u,(ei e).v,(ei e).w,(ei e).lb,(ei e).sg,(ei e).tm⟩]:List Lk)) Aw p7 C C C mm A6 (by have ae:=hA.len;first|(simp only [A_,Fu,F_];omega)|(have ah:=E.len;simp only [A_,Fu,F_];omega)) dc C<|λ_ _=>am) λbu br=>?_
     refine Dr 12 C (Ai H0 C)<|Ds1 9<|Sc0 C (Ac c_ C C<|bj6 (ei e) e.tm) ?_
     refine Ds1 10<|Se1 C (Bt (α:=Ev) (cs:=[e7 1,e7<|e.tm,e7<|(ei e).u,e7<|(ei e).v,e7<|(ei e).w,e7<|(ei e).lb,e7<|(ei e).sg]) (xs:=[⟨1,e.tm,(ei e).u,(ei e).v,(ei e).w,(ei e).lb,(ei e).sg⟩]) As j7 C C dc dc C kr C C) λcg=>?_
     refine Ds1 11<|Se2 C (Bv (α:=Ev) (e:=108) (xs:=ak) (ys:=([⟨1,e.tm,(ei e).u,(ei e).v,(ei e).w,(ei e).lb,(ei e).sg⟩]:List Ev)) As j7 C C C mm A6 (by have ae:=hA.len;first|(simp only [A_,Fu,F_];omega)|(have ah:=E.len;simp only [A_,Fu,F_];omega)) dc C<|λ_ _=>am) λbg bb=>?_
     refine Ds1 13<|Se0 C (D5 R7) ?_
     exact Dr 14 C (Bo C)<|Dr 15 C (Bo C)<|Dz<|Bu ((bu),(br),(bg),(bb),(O++([⟨(ei e).u,(ei e).v,(ei e).w,(ei e).lb,(ei e).sg,(ei e).tm⟩]:List Lk)),(ak++([⟨1,e.tm,(ei e).u,(ei e).v,(ei e).w,(ei e).lb,(ei e).sg⟩]:List Ev)),(true))<|by dsimp only;exact ⟨(by first|exact hA.ins ai om aj an|exact hA),(by intro h;first|exact absurd h dc|exact an|(rw [h] at aj;cases aj)),olp⟩
    exact A4<|Bu ((a1),(c1),(a2),(c2),(O),(ak),(q))<|by dsimp only;exact ⟨(by first|exact hA.ins ai om aj an|exact hA),(by intro h;first|exact absurd h dc|exact an|(rw [h] at aj;cases aj)),olp⟩
   exact Dpo 3 C<|Dpo 5 C<|Dpo 4 C<|Dpo 6 C<|Dpo 7 C<|Dr 8 C (Bg C C)<|Dz<|Al<|A0 (S11 81 14 3 4 9 10 11 12 67 68 69)<|W.no C<|A4<|Bu ((a1),(c1),(a2),(c2),(O),(ak),(q))<|by dsimp only;exact ⟨(by first|exact hA.ins ai om aj an|exact hA),(by intro h;first|exact absurd h dc|exact an|(rw [h] at aj;cases aj)),olp⟩
  rintro ⟨a3,c3,a4,c4,O2,ab,q2⟩ hp
  obtain ⟨E,hM,cq⟩:(ApI xs e k O2 q2)/\((!q2)=true->¬Pt.lt (ei e).p (e_ xs k).p)/\(ab.length<=2*k+1):=hp
  refine Ax<|A8 mixed<|C1 6<|Dr 0 C (Ch (vs:=[_,_,_,_,_,_]) p7) ?_
  refine Dr 2 C (Ch (vs:=[_,_,_,_,_,_]) p7) ?_
  refine Ds1 1<|Sc0 C (Ac c_ C C<|ac3<|e_ xs k) ?_
  refine Ds1 3<|Sc0 C (Ac c_ C C<|ac3<|ei e) ?_
  refine Dr 4 C (Fm (α:=Pt) (a:=(e_ xs k).p) (b:=(ei e).p) cf1 C C)<|Dr 5 C (Bo C)<|Dz<|Al<|A0 (S11 15 3 4 9 10 11 12 14 67 68 69)<|A3<|D2 (σ:=Bool) (λs=>([(3,pt b2),(4,pt b3),(9,pt b4),(10,.slice a4 ab.length c4),(11,pt b5),(12,.bool q2),(14,pt b6),(15,.bool<|decide<|((e_ xs k).p)=((ei e).p)),(67,va),(68,e7 ((xs.length:Nat):Int)),(69,e7<|(k:Int)),(106,.bool s)]:Env)) (λs=>e8 b4 [e7 nd,.slice a3 O2.length c3] 111::vq 146 a3 c3 O2::vq 108 a4 c4 ab::e8 b6 (kl (e_ xs k)) 146::e8 b5 (kl (ei e)) 146::e8 b3 [e7 0,.slice none 0 0] 111::e8 b2 (ye e) 108::e8 b1 [e7 nd,va] 111::I) (λs=>(s=decide (e.kd=1/\(e_ xs k).p=(ei e).p))) ?_ ?_
  ·refine A1 (Gf an0 C<|Gl ef ?_)
   refine Gr (B7 C C)<|Gm C<|Au (d:=110) C (λbk=>?_)<|λbk=>?_
   ·exact e9 (Ad C)<|Gr (Br C C)<|Ga C<|Bl<|Bu ((decide<|((e_ xs k).p)=((ei e).p))) (by first|exact Fy.2 ⟨λh=>⟨by omega,h⟩,λh=>h.2⟩|exact (E_<|λh=>by omega).symm) (hI:=by (try dsimp only);exact (Di _))
   exact eb<|Gr (Bg C C)<|Ga C<|Bl<|Bu ((false)) (by first|exact Fy.2 ⟨λh=>⟨by omega,h⟩,λh=>h.2⟩|exact (E_<|λh=>by omega).symm) (hI:=by (try dsimp only);exact (Di _))
  rintro y hp
  have hy:(y=decide (e.kd=1/\(e_ xs k).p=(ei e).p)):=hp
  refine D8 C (λaa=>?_)<|λaa=>?_
  ·refine Ax (Aj<|Gl6 p7 ?_)
   refine Gl6 p7 ?_
   refine Gr (Dh (α:=Lk) (a:=(e_ xs k)) (b:=(ei e)) dw4 C C)<|Aq<|A0 (S9 115 3 4 9 10 11 67 68 69)<|Am C (λbj=>?_)<|λbj=>?_
   ·refine A1 (Gm C<|Gl6 p7 ?_)
    refine Gf K0 C<|Gl ef ?_
    refine Gc0 (Ac c_ C C<|bj6 (ei e) e.tm) ?_
    refine Ge1 (Bt (α:=Ev) (cs:=[e7 1,e7<|e.tm,e7<|(ei e).u,e7<|(ei e).v,e7<|(ei e).w,e7<|(ei e).lb,e7<|(ei e).sg]) (xs:=[⟨1,e.tm,(ei e).u,(ei e).v,(ei e).w,(ei e).lb,(ei e).sg⟩]) As j7 C C dc dc C kr C C) λch=>?_
    refine Ge2 (Bv (α:=Ev) (e:=108) (xs:=ab) (ys:=([⟨1,e.tm,(ei e).u,(ei e).v,(ei e).w,(ei e).lb,(ei e).sg⟩]:List Ev)) As j7 C C C mm A6 (by have ae:=hA.len;first|(simp only [A_,Fu,F_];omega)|(have ah:=E.len;simp only [A_,Fu,F_];omega)) dc C<|λ_ _=>am) λba a7=>?_
    refine Ga C<|Aq<|A0 (S8 10 3 4 9 11 67 68 69)<|A1<|Gf H0 C<|Gl R7 ?_
    refine Gl6 p7 ?_
    refine Ge1 (Bt (α:=Lk) (cs:=(kl (ei e))) (xs:=[⟨(ei e).u,(ei e).v,(ei e).w,(ei e).lb,(ei e).sg,(ei e).tm⟩]) Aw p7 C C dc dc C kr C C) λci=>?_
    refine Ge2 (Bv (α:=Lk) (e:=146) (xs:=O2) (ys:=([⟨(ei e).u,(ei e).v,(ei e).w,(ei e).lb,(ei e).sg,(ei e).tm⟩]:List Lk)) Aw p7 C C C mm A6 (by have ae:=hA.len;first|(simp only [A_,Fu,F_];omega)|(have ah:=E.len;simp only [A_,Fu,F_];omega)) dc C<|λ_ _=>am) λbi bv=>?_
    refine Gf H0 C<|Ge0 (D5 R7) ?_
    exact Ga C<|Bl<|Ap<|Ap<|Al<|A0 (S9 12 10 3 4 9 11 67 68 69)<|A1<|Gr (Rad C C)<|Gm C<|Bl<|Bh ((k+1),(bi),(bv),(ba),(a7),(O2++([⟨(ei e).u,(ei e).v,(ei e).w,(ei e).lb,(ei e).sg,(ei e).tm⟩]:List Lk)),(ab++([⟨1,e.tm,(ei e).u,(ei e).v,(ei e).w,(ei e).lb,(ei e).sg⟩]:List Ev)),(true))<|by dsimp only;exact ⟨om,(by first|exact E.hit ai om (Gc<|hy.symm.trans aa).1 (Gc<|hy.symm.trans aa).2|exact E.drop om (Gc<|hz.symm.trans ad).1 (Gc<|hz.symm.trans ad).2|exact E.fe4 ai om hM (λh1 M=>Gt (hy.symm.trans aa) ⟨h1,M⟩) (λh1=>Gg λhh=>Gt (hz.symm.trans ad) ⟨h1,by simpa using hh⟩)),olp⟩
   refine A4<|Al<|A1<|Gf H0 C<|Gl R7 ?_
   refine Gl6 p7 ?_
   refine Ge1 (Bt (α:=Lk) (cs:=(kl (ei e))) (xs:=[⟨(ei e).u,(ei e).v,(ei e).w,(ei e).lb,(ei e).sg,(ei e).tm⟩]) Aw p7 C C dc dc C kr C C) λck=>?_
   refine Ge2 (Bv (α:=Lk) (e:=146) (xs:=O2) (ys:=([⟨(ei e).u,(ei e).v,(ei e).w,(ei e).lb,(ei e).sg,(ei e).tm⟩]:List Lk)) Aw p7 C C C mm A6 (by have ae:=hA.len;first|(simp only [A_,Fu,F_];omega)|(have ah:=E.len;simp only [A_,Fu,F_];omega)) dc C<|λ_ _=>am) λa6 a0=>?_
   refine Gf H0 C<|Ge0 (D5 R7) ?_
   exact Ga C<|Bl<|Ap<|Ap<|Al<|A0 (S9 12 3 4 9 10 11 67 68 69)<|A1<|Gr (Rad C C)<|Gm C<|Bl<|Bh ((k+1),(a6),(a0),(a4),(c4),(O2++([⟨(ei e).u,(ei e).v,(ei e).w,(ei e).lb,(ei e).sg,(ei e).tm⟩]:List Lk)),(ab),(true))<|by dsimp only;exact ⟨om,(by first|exact E.hit ai om (Gc<|hy.symm.trans aa).1 (Gc<|hy.symm.trans aa).2|exact E.drop om (Gc<|hz.symm.trans ad).1 (Gc<|hz.symm.trans ad).2|exact E.fe4 ai om hM (λh1 M=>Gt (hy.symm.trans aa) ⟨h1,M⟩) (λh1=>Gg λhh=>Gt (hz.symm.trans ad) ⟨h1,by simpa using hh⟩)),olp⟩
  refine D2 (σ:=Bool) (λs=>([(3,pt b2),(4,pt b3),(9,pt b4),(10,.slice a4 ab.length c4),(11,pt b5),(12,.bool q2),(14,pt b6),(67,va),(68,e7 ((xs.length:Nat):Int)),(69,e7<|(k:Int)),(129,.bool s)]:Env)) (λs=>e8 b4 [e7 nd,.slice a3 O2.length c3] 111::vq 146 a3 c3 O2::vq 108 a4 c4 ab::e8 b6 (kl (e_ xs k)) 146::e8 b5 (kl (ei e)) 146::e8 b3 [e7 0,.slice none 0 0] 111::e8 b2 (ye e) 108::e8 b1 [e7 nd,va] 111::I) (λs=>(s=decide (e.kd≠1/\az8 e (e_ xs k)=true))) ?_ ?_
  ·refine A1 (Gf an0 C<|Gl ef ?_)
   refine Gr (B7 C C)<|Gm C<|Au (d:=133) C (λbe=>?_)<|λbe=>?_
   ·refine e9 (Ad C) (Gr (Br C C)<|Gm C<|Au (d:=136) C (λbo=>?_)<|λbo=>?_)
    ·exact eb<|eb<|eb<|eb<|ee<|ee<|ee<|ee<|ee<|ee<|ee<|ee<|ee<|ee<|ee<|ee<|eb<|Gr (Br C C)<|Ga C<|Bl<|Bu ((true)) (by first|(exfalso;omega)|exact (D_ ⟨by omega,by first|(rw [Q3 om];exact D_ asm)|(rw [G4 om];exact D_ om)⟩).symm|exact (E_<|λh=>by first|omega|(have M:=h.2;first|(rw [Q3 om] at M;exact absurd (Gc M) asm)|(rw [G4 om] at M;have h3:=Gc M;omega))).symm|exact Fy.2 ⟨λh=>⟨by omega,by rw [G4 om];exact D_<|.inr h⟩,λh=>by have M:=h.2;rw [G4 om] at M;have h3:=Gc M;omega⟩) (hI:=by (try dsimp only);exact (Di _))
    refine e9 (Ai an0 C)<|e9 (Bd ef) ?_
    refine e9 (B7 C C)<|e9 (Ad C)<|Au (d:=140) C (λap=>?_)<|λap=>?_
    ·refine e9 (Ai at6 C) (e9 (Bd ef) ?_)
     refine e9 (Ai X7 C)<|e9 (Bd ef) ?_
     refine e9 (B7 C C)<|e9 (Ad C)<|Au (d:=146) C (λaq=>?_)<|λaq=>?_
     ·exact eb<|eb<|eb<|eb<|eb<|e9 (Br C C)<|e9 (Br C C)<|Gr (Bg C C)<|Ga C<|Bl<|Bu ((true)) (by first|(exfalso;omega)|exact (D_ ⟨by omega,by first|(rw [Q3 om];exact D_ asm)|(rw [G4 om];exact D_ om)⟩).symm|exact (E_<|λh=>by first|omega|(have M:=h.2;first|(rw [Q3 om] at M;exact absurd (Gc M) asm)|(rw [G4 om] at M;have h3:=Gc M;omega))).symm|exact Fy.2 ⟨λh=>⟨by omega,by rw [G4 om];exact D_<|.inr h⟩,λh=>by have M:=h.2;rw [G4 om] at M;have h3:=Gc M;omega⟩) (hI:=by (try dsimp only);exact (Di _))
     refine e9 (Ai T4 C)<|e9 (Bd ef) ?_
     refine e9 (Ai X7 C)<|e9 (Bd ef) ?_
     exact e9 (B7 C C)<|e9 (Bg C C)<|e9 (Br C C)<|Gr (Bg C C)<|Ga C<|Bl<|Bu ((decide<|((e_ xs k).v)=e.u)) (by first|(exfalso;omega)|exact (D_ ⟨by omega,by first|(rw [Q3 om];exact D_ asm)|(rw [G4 om];exact D_ om)⟩).symm|exact (E_<|λh=>by first|omega|(have M:=h.2;first|(rw [Q3 om] at M;exact absurd (Gc M) asm)|(rw [G4 om] at M;have h3:=Gc M;omega))).symm|exact Fy.2 ⟨λh=>⟨by omega,by rw [G4 om];exact D_<|.inr h⟩,λh=>by have M:=h.2;rw [G4 om] at M;have h3:=Gc M;omega⟩) (hI:=by (try dsimp only);exact (Di _))
    exact eb<|eb<|eb<|eb<|eb<|eb<|ee<|ee<|ee<|ee<|ee<|eb<|e9 (Bg C C)<|Gr (Bg C C)<|Ga C<|Bl<|Bu ((false)) (by first|(exfalso;omega)|exact (D_ ⟨by omega,by first|(rw [Q3 om];exact D_ asm)|(rw [G4 om];exact D_ om)⟩).symm|exact (E_<|λh=>by first|omega|(have M:=h.2;first|(rw [Q3 om] at M;exact absurd (Gc M) asm)|(rw [G4 om] at M;have h3:=Gc M;omega))).symm|exact Fy.2 ⟨λh=>⟨by omega,by rw [G4 om];exact D_<|.inr h⟩,λh=>by have M:=h.2;rw [G4 om] at M;have h3:=Gc M;omega⟩) (hI:=by (try dsimp only);exact (Di _))
   refine eb<|Gr (Bg C C)<|Gm C<|e9 (Ai an0 C)<|e9 (Bd ef) ?_
   refine e9 (B7 C C)<|e9 (Ad C)<|Au (d:=140) C (λap=>?_)<|λap=>?_
   ·refine e9 (Ai at6 C) (e9 (Bd ef) ?_)
    refine e9 (Ai X7 C)<|e9 (Bd ef) ?_
    refine e9 (B7 C C)<|e9 (Ad C)<|Au (d:=146) C (λaq=>?_)<|λaq=>?_
    ·exact eb<|eb<|eb<|eb<|eb<|e9 (Br C C)<|e9 (Br C C)<|Gr (Bg C C)<|Ga C<|Bl<|Bu ((true)) (by first|(exfalso;omega)|exact (D_ ⟨by omega,by first|(rw [Q3 om];exact D_ asm)|(rw [G4 om];exact D_ om)⟩).symm|exact (E_<|λh=>by first|omega|(have M:=h.2;first|(rw [Q3 om] at M;exact absurd (Gc M) asm)|(rw [G4 om] at M;have h3:=Gc M;omega))).symm|exact Fy.2 ⟨λh=>⟨by omega,by rw [G4 om];exact D_<|.inr h⟩,λh=>by have M:=h.2;rw [G4 om] at M;have h3:=Gc M;omega⟩) (hI:=by (try dsimp only);exact (Di _))
    refine e9 (Ai T4 C)<|e9 (Bd ef) ?_
    refine e9 (Ai X7 C)<|e9 (Bd ef) ?_
    exact e9 (B7 C C)<|e9 (Bg C C)<|e9 (Br C C)<|Gr (Bg C C)<|Ga C<|Bl<|Bu ((decide<|((e_ xs k).v)=e.u)) (by first|(exfalso;omega)|exact (D_ ⟨by omega,by first|(rw [Q3 om];exact D_ asm)|(rw [G4 om];exact D_ om)⟩).symm|exact (E_<|λh=>by first|omega|(have M:=h.2;first|(rw [Q3 om] at M;exact absurd (Gc M) asm)|(rw [G4 om] at M;have h3:=Gc M;omega))).symm|exact Fy.2 ⟨λh=>⟨by omega,by rw [G4 om];exact D_<|.inr h⟩,λh=>by have M:=h.2;rw [G4 om] at M;have h3:=Gc M;omega⟩) (hI:=by (try dsimp only);exact (Di _))
   exact eb<|eb<|eb<|eb<|eb<|eb<|ee<|ee<|ee<|ee<|ee<|eb<|e9 (Bg C C)<|Gr (Bg C C)<|Ga C<|Bl<|Bu ((false)) (by first|(exfalso;omega)|exact (D_ ⟨by omega,by first|(rw [Q3 om];exact D_ asm)|(rw [G4 om];exact D_ om)⟩).symm|exact (E_<|λh=>by first|omega|(have M:=h.2;first|(rw [Q3 om] at M;exact absurd (Gc M) asm)|(rw [G4 om] at M;have h3:=Gc M;omega))).symm|exact Fy.2 ⟨λh=>⟨by omega,by rw [G4 om];exact D_<|.inr h⟩,λh=>by have M:=h.2;rw [G4 om] at M;have h3:=Gc M;omega⟩) (hI:=by (try dsimp only);exact (Di _))
  rintro z hp
  have hz:(z=decide (e.kd≠1/\az8 e (e_ xs k)=true)):=hp
  refine D8 C (λad=>?_)<|λad=>?_
  ·refine A1 (Gm C<|Gl6 p7 ?_)
   refine Gf K0 C<|Gl ef ?_
   refine Gc0 (Ac c_ C C<|fd8 (e_ xs k) e.tm) ?_
   refine Ge1 (Bt (α:=Ev) (cs:=[e7 2,e7<|e.tm,e7<|(e_ xs k).u,e7<|(e_ xs k).v,e7 0,e7 0,e7 0]) (xs:=[⟨2,e.tm,(e_ xs k).u,(e_ xs k).v,0,0,0⟩]) As j7 C C dc dc C kr C C) λcb=>?_
   refine Ge2 (Bv (α:=Ev) (e:=108) (xs:=ab) (ys:=([⟨2,e.tm,(e_ xs k).u,(e_ xs k).v,0,0,0⟩]:List Ev)) As j7 C C C mm A6 (by have ae:=hA.len;first|(simp only [A_,Fu,F_];omega)|(have ah:=E.len;simp only [A_,Fu,F_];omega)) dc C<|λ_ _=>am) λbh bt=>?_
   exact Ga C<|Bl<|Ap<|Ap<|Al<|A0 (S9 10 3 4 9 11 12 67 68 69)<|A1<|Gr (Rad C C)<|Gm C<|Bl<|Bh ((k+1),(a3),(c3),(bh),(bt),(O2),(ab++([⟨2,e.tm,(e_ xs k).u,(e_ xs k).v,0,0,0⟩]:List Ev)),(q2))<|by dsimp only;exact ⟨om,(by first|exact E.hit ai om (Gc<|hy.symm.trans aa).1 (Gc<|hy.symm.trans aa).2|exact E.drop om (Gc<|hz.symm.trans ad).1 (Gc<|hz.symm.trans ad).2|exact E.fe4 ai om hM (λh1 M=>Gt (hy.symm.trans aa) ⟨h1,M⟩) (λh1=>Gg λhh=>Gt (hz.symm.trans ad) ⟨h1,by simpa using hh⟩)),olp⟩
  refine A1<|Gf H0 C<|Gl R7 ?_
  refine Gl6 p7 ?_
  refine Ge1 (Bt (α:=Lk) (cs:=(kl (e_ xs k))) (xs:=[⟨(e_ xs k).u,(e_ xs k).v,(e_ xs k).w,(e_ xs k).lb,(e_ xs k).sg,(e_ xs k).tm⟩]) Aw p7 C C dc dc C kr C C) λcm=>?_
  refine Ge2 (Bv (α:=Lk) (e:=146) (xs:=O2) (ys:=([⟨(e_ xs k).u,(e_ xs k).v,(e_ xs k).w,(e_ xs k).lb,(e_ xs k).sg,(e_ xs k).tm⟩]:List Lk)) Aw p7 C C C mm A6 (by have ae:=hA.len;first|(simp only [A_,Fu,F_];omega)|(have ah:=E.len;simp only [A_,Fu,F_];omega)) dc C<|λ_ _=>am) λa5 bp=>?_
  refine Gf H0 C<|Ge0 (D5 R7) ?_
  exact Bl<|Ap<|Ap<|Al<|A0 (S9 3 4 9 10 11 12 67 68 69)<|A1<|Gr (Rad C C)<|Gm C<|Bl<|Bh ((k+1),(a5),(bp),(a4),(c4),(O2++([⟨(e_ xs k).u,(e_ xs k).v,(e_ xs k).w,(e_ xs k).lb,(e_ xs k).sg,(e_ xs k).tm⟩]:List Lk)),(ab),(q2))<|by dsimp only;exact ⟨om,(by first|exact E.hit ai om (Gc<|hy.symm.trans aa).1 (Gc<|hy.symm.trans aa).2|exact E.drop om (Gc<|hz.symm.trans ad).1 (Gc<|hz.symm.trans ad).2|exact E.fe4 ai om hM (λh1 M=>Gt (hy.symm.trans aa) ⟨h1,M⟩) (λh1=>Gg λhh=>Gt (hz.symm.trans ad) ⟨h1,by simpa using hh⟩)),olp⟩
 refine B6<|Ao<|Ao<|A5<|Al<|Ax<|Aj<|Gm C<|Gr (j0.not C)<|Aq<|D8 C (λbf=>?_)<|λbf=>?_
 ·refine A8 mixed (Cf (e8 b5 (kl (ei e)) 146::e8 b3 [e7 0,.slice none 0 0] 111::e8 b2 (ye e) 108::e8 b1 [e7 nd,va] 111::I) 15<|Dr 0 C (Ai H0 C)<|Dr 2 C (Ch (vs:=[_,_,_,_,_,_]) p7) ?_)
  refine Dr 5 C (Ad C)<|Dr 6 C (Ch (vs:=[_,_,_,_,_,_]) p7) ?_
  refine Dr 7 C (Ai K0 C)<|Dr 8 C (Bd ef) ?_
  refine Cg (rs:=[1,3]) kr C C<|Dk ?_<|Du ?_
  ·refine Sr C (Bd R7) Ar ?_
   refine Ds1 3<|Se1 C (Bt (α:=Lk) (cs:=(kl (ei e))) (xs:=[⟨(ei e).u,(ei e).v,(ei e).w,(ei e).lb,(ei e).sg,(ei e).tm⟩]) Aw p7 C C dc dc C kr C C) λca=>?_
   refine Ds1 4<|Se2 C (Bv (α:=Lk) (e:=146) (xs:=O) (ys:=([⟨(ei e).u,(ei e).v,(ei e).w,(ei e).lb,(ei e).sg,(ei e).tm⟩]:List Lk)) Aw p7 C C C mm A6 (by have ae:=hA.len;first|(simp only [A_,Fu,F_];omega)|(have ah:=E.len;simp only [A_,Fu,F_];omega)) dc C<|λ_ _=>am) λau ax=>?_
   refine Dr 12 C (Ai H0 C)<|Ds1 9<|Sc0 C (Ac c_ C C<|bj6 (ei e) e.tm) ?_
   refine Ds1 10<|Se1 C (Bt (α:=Ev) (cs:=[e7 1,e7<|e.tm,e7<|(ei e).u,e7<|(ei e).v,e7<|(ei e).w,e7<|(ei e).lb,e7<|(ei e).sg]) (xs:=[⟨1,e.tm,(ei e).u,(ei e).v,(ei e).w,(ei e).lb,(ei e).sg⟩]) As j7 C C dc dc C kr C C) λcd=>?_
   refine Ds1 11<|Se2 C (Bv (α:=Ev) (e:=108) (xs:=ak) (ys:=([⟨1,e.tm,(ei e).u,(ei e).v,(ei e).w,(ei e).lb,(ei e).sg⟩]:List Ev)) As j7 C C C mm A6 (by have ae:=hA.len;first|(simp only [A_,Fu,F_];omega)|(have ah:=E.len;simp only [A_,Fu,F_];omega)) dc C<|λ_ _=>am) λaz a8=>?_
   refine Ds1 13<|Se0 C (D5 R7) ?_
   refine Dr 14 C (Bo C)<|Dz<|Al<|A0 (S3 10 4 9)<|Aj<|Gl2 s5 ?_
   refine Gm C<|Ge0 (Ba s5) ?_
   refine Ga C<|Ga C<|Aq<|Bq ?_
   have hE:O++([⟨(ei e).u,(ei e).v,(ei e).w,(ei e).lb,(ei e).sg,(ei e).tm⟩]:List Lk)=(eo xs e):=by first|exact hA.fin om asm|exact hA.dv9 om asm
   exact V.dp8 C s5 C C C mm C (vq 146 au ax (eo xs e)::I) (by unfold vq;rw [←hE];exact Ar) ⟨⟨au,ax,az,(ak++([⟨1,e.tm,(ei e).u,(ei e).v,(ei e).w,(ei e).lb,(ei e).sg⟩]:List Ev)).length,a8⟩,⟨by rw [←hE]<;>rfl,by first|(show _<=2*xs.length+1;omega)|(show _<=2*xs.length+1;simp only [A_,Fu,F_];omega)⟩,rfl⟩
  refine Se1 C (Bt (α:=Lk) (cs:=(kl (ei e))) (xs:=[⟨(ei e).u,(ei e).v,(ei e).w,(ei e).lb,(ei e).sg,(ei e).tm⟩]) Aw p7 C C dc dc C kr C C) λcj=>?_
  refine Ds1 1<|Sr C (Bd R7) Ar ?_
  refine Ds1 4<|Se2 C (Bv (α:=Lk) (e:=146) (xs:=O) (ys:=([⟨(ei e).u,(ei e).v,(ei e).w,(ei e).lb,(ei e).sg,(ei e).tm⟩]:List Lk)) Aw p7 C C C mm A6 (by have ae:=hA.len;first|(simp only [A_,Fu,F_];omega)|(have ah:=E.len;simp only [A_,Fu,F_];omega)) dc C<|λ_ _=>am) λav ar=>?_
  refine Dr 12 C (Ai H0 C)<|Ds1 9<|Sc0 C (Ac c_ C C<|bj6 (ei e) e.tm) ?_
  refine Ds1 10<|Se1 C (Bt (α:=Ev) (cs:=[e7 1,e7<|e.tm,e7<|(ei e).u,e7<|(ei e).v,e7<|(ei e).w,e7<|(ei e).lb,e7<|(ei e).sg]) (xs:=[⟨1,e.tm,(ei e).u,(ei e).v,(ei e).w,(ei e).lb,(ei e).sg⟩]) As j7 C C dc dc C kr C C) λb9=>?_
  refine Ds1 11<|Se2 C (Bv (α:=Ev) (e:=108) (xs:=ak) (ys:=([⟨1,e.tm,(ei e).u,(ei e).v,(ei e).w,(ei e).lb,(ei e).sg⟩]:List Ev)) As j7 C C C mm A6 (by have ae:=hA.len;first|(simp only [A_,Fu,F_];omega)|(have ah:=E.len;simp only [A_,Fu,F_];omega)) dc C<|λ_ _=>am) λbq ay=>?_
  refine Ds1 13<|Se0 C (D5 R7) ?_
  refine Dr 14 C (Bo C)<|Dz<|Al<|A0 (S3 10 4 9)<|Aj<|Gl2 s5 ?_
  refine Gm C<|Ge0 (Ba s5) ?_
  refine Ga C<|Ga C<|Aq<|Bq ?_
  have hE:O++([⟨(ei e).u,(ei e).v,(ei e).w,(ei e).lb,(ei e).sg,(ei e).tm⟩]:List Lk)=(eo xs e):=by first|exact hA.fin om asm|exact hA.dv9 om asm
  exact V.dp8 C s5 C C C mm C (vq 146 av ar (eo xs e)::I) (by unfold vq;rw [←hE];exact Ar) ⟨⟨av,ar,bq,(ak++([⟨1,e.tm,(ei e).u,(ei e).v,(ei e).w,(ei e).lb,(ei e).sg⟩]:List Ev)).length,ay⟩,⟨by rw [←hE]<;>rfl,by first|(show _<=2*xs.length+1;omega)|(show _<=2*xs.length+1;simp only [A_,Fu,F_];omega)⟩,rfl⟩
 refine A4<|Al<|Aj<|Gl2 s5 ?_
 refine Gm C<|Ge0 (Ba s5) ?_
 refine Ga C<|Ga C<|Aq<|A0 (S3 6 5 4)<|Bq ?_
 have hE:O=(eo xs e):=by first|exact hA.fin om asm|exact hA.dv9 om asm
 exact V.dp8 C s5 C C C mm C (vq 146 a1 c1 (eo xs e)::I) (by unfold vq;rw [←hE];exact Ar) ⟨⟨a1,c1,a2,ak.length,c2⟩,⟨by rw [←hE]<;>rfl,by first|(show _<=2*xs.length+1;omega)|(show _<=2*xs.length+1;simp only [A_,Fu,F_];omega)⟩,rfl⟩
theorem ck9{κ:Ctx}{a0:Option Addr}{c0:Nat}{es:List Ev}(hl:Sl κ I va es)(aa:j8 nd xs=0)(M:∀j:Nat,j<es.length->H6 nd (e_ es j))(ao:xs.length+es.length<=1000000):er Tryz.prog κ 162 [.agg #[e7 nd,.slice a0 xs.length c0],va] (vq 146 a0 c0 xs::I) (λr J=>∃y:Option Addr×Nat×Int,(r = .tuple #[.agg #[e7 nd,.slice y.1 (List.foldl eo xs es).length y.2.1],e7 y.2.2,e7 0])/\J=vq 146 y.1 y.2.1 (List.foldl eo xs es)::I):=by
 refine Ce2 Tryz.func162 C C ?_
 refine Aj<|Ge1 (Ay (cs:=[_,_]) C C C) λb1=>Ge1 (Ah s5 C) λb2=>Ga C<|Ga C<|Aq<|Ax<|Aj<|Gl2 s5 ?_
 refine Gc0 (Ac c_ C C<|ae3 (nd:=nd) A6) ?_
 refine Ga C<|Aq<|Aj<|Gm C<|Gr (Cu C C)<|Aq<|Am C (λah=>?_)<|λah=>?_
 ·exact absurd aa ah
 refine A4<|Al<|Aj<|Ga C<|Aq<|Ax<|Aj<|Gm C<|Gr (C3 (α:=Ev) (xs:=es) As C<|Bc hl)<|Gm C<|Aq<|A0 (S6 22 21 20 8 4 2)<|A3<|B4 (σ:=Nat×(Option Addr)×Nat×Int) (λs=>([(2,pt b1),(4,pt b2),(8,e7<|s.2.2.2),(20,va),(21,e7 ((es.length:Nat):Int)),(22,e7 ((s.1:Nat):Int))]:Env)) (λs=>e8 b1 [e7 nd,.slice s.2.1 (List.foldl eo xs<|List.take s.1 es).length s.2.2.1] 111::vq 146 s.2.1 s.2.2.1 (List.foldl eo xs<|List.take s.1 es)::e8 b2 [e7 0,.slice none 0 0] 111::I) (λs=>(s.1<=es.length)/\(j8 nd (List.foldl eo xs<|List.take s.1 es)=0)/\(0<=s.2.2.2/\s.2.2.2<=s.1*2000001)) (λs=>es.length - s.1) (0,a0,c0,0) (show ((0:Nat)<=es.length)/\(j8 nd (List.foldl eo xs<|List.take (0:Nat) es)=0)/\(0<=(0:Int)/\(0:Int)<=(0:Nat)*2000001) from ⟨om,aa,om⟩) (cx2<|Aa Co<|cx2<|Aa Co A9) Bi ?_
 rintro ⟨k,a1,c1,n⟩ hp
 dsimp only at hp ⊢
 obtain ⟨hk,hv,hn⟩:=hp
 have ab:=ar7 (List.take k es) xs
 rw [Fx] at ab
 refine Aj<|Gr (Bp C C)<|Aq<|Ax<|Am C (λak=>?_)<|λak=>?_
 ·refine A4 (Al<|Ax<|A3<|Aj<|Gm C<|Gr (A2 (α:=Ev) (xs:=es) As j7 C C (Bc hl) om om)<|Gr (Cd (α:=Ev) (xs:=es) j7 C (Bc hl) om om)<|Ge1 (Ah j7 C) λb3=>Ga C<|Ge0 (Fa j7) ?_)
  refine Aq<|Aj<|Gl2 s5 ?_
  refine Gl7 j7 ?_
  refine G.e (Ac c_ C C<|au6 (nd:=nd) (e:=(e_ es k)) A6 hv (M k om)<|by have ab:=ar7 (List.take k es) xs;rw [Fx] at ab;omega) ?_
  rintro _ _ ⟨_,_,⟨⟨aj,an,aq,ae,ap⟩,⟨rfl,E⟩,rfl⟩,rfl,rfl⟩
  have E:ae<=2*(List.foldl eo xs<|List.take k es).length+1:=E
  refine Gm C<|Gr (Av C C)<|Gr (Av C C)<|Gr (Av C C)<|Ge1 (Ah s5 C) λb9=>Ge0 (Ba s5) ?_
  refine Ga C<|Ga C<|Aq<|A0 (S10 13 12 11 9 2 4 8 20 21 22)<|Ax<|Aj<|Gm C<|Gr (Cu C C)<|Aq<|Am C (λad=>?_)<|λad=>?_
  ·exact absurd rfl ad
  refine A4<|Al<|A1<|Gl2 s5 ?_
  refine Gm C<|Gm C<|Gr (Bj As C)<|Gr (Rad C C)<|Ge0 (Ba s5) ?_
  exact Ga C<|Bl<|Ap<|Al<|A0 (S6 8 2 4 20 21 22)<|A1<|Gr (Rad C C)<|Gm C<|Bl<|Bh ((k+1),(aj),(an),(n+(ae:Int))) (by dsimp only;exact ⟨om,(by rw [Q8 om];exact ac7 hv<|M k om),om⟩) (hI:=by (try dsimp only);exact (by rw [Q8 om];exact Bi))
 refine B6<|Ao<|Ao<|A5<|Al<|Aj<|Gl2 s5 ?_
 refine Gm C<|Ge0 (Ba s5) ?_
 refine Ga C<|Ga C<|Aq<|Bq ?_
 have ai:List.take k es=es:=Gb om
 exact V.dp8 C s5 C C C mm C (vq 146 a1 c1 (List.foldl eo xs es)::I) (by unfold vq;rw [ai];exact Ar) ⟨⟨a1,c1,n⟩,by rw [ai],rfl⟩
end Go.Sl
namespace Go.Sl
open Go.Proofs
set_option maxRecDepth 4000
attribute [local irreducible] W G V D A j0 Eff
theorem cv0{q:Bool}{p:Prop}[Decidable p](h:(!q)=true)(E:q=decide p):¬p:=λM=>by rw [E,D_ M] at h;cases h
theorem ay5{q:Bool}{p:Prop}[Decidable p](h:(!q)=false)(E:q=decide p):p:=Gg λM=>by rw [E,E_ M] at h;cases h
theorem fa8{κ:Ctx}{I:List Item}{nd kd wd mo:Int}{va:Value}{xs:List Lk}(hl:Sl κ I va xs):er Tryz.prog κ 160 [.agg #[e7 nd,va],.agg #[e7 kd,e7 wd,e7 mo]] I (λr J=>∃z:Int,r = .tuple #[e7 z,.bool (decide (ac6 nd xs kd wd mo)),e7 (fe8 nd xs kd wd mo)]/\fa7 nd xs kd wd mo z/\I=J):=by
 refine Bm hl.le λan=>?_
 refine Ce2 Tryz.func160 C C ?_
 refine Aj<|Ge1 (Ay (cs:=[_,_]) C C C) λb1=>Ge1 (Ay (cs:=[_,_,_]) C C C) λb2=>Z ?_
 refine Gc0 (Ac c_ C C<|ae2 kd wd mo)<|Z ?_
 refine Am C (λad=>Z ?_)<|λad=>Z ?_
 ·have hu:fe8 nd xs kd wd mo=r7 kd wd mo:=by unfold fe8;rw [By ad]
  have hn:¬ac6 nd xs kd wd mo:=λh=>ad (hu▸h.1)
  exact V.gp9 C C C C I Af ⟨0,by rw [E_ hn,hu],.none hn,rfl⟩
 refine Gc0 (Ac c_ C C<|ae3 (nd:=nd)<|Bc hl)<|Z ?_
 refine Am C (λah=>Z ?_)<|λah=>Z ?_
 ·have hu:fe8 nd xs kd wd mo=j8 nd xs:=by unfold fe8;rw [An ad]
  have hn:¬ac6 nd xs kd wd mo:=λh=>ah (hu▸h.1)
  exact V.gp9 C C C C I Af ⟨0,by rw [E_ hn,hu],.none hn,rfl⟩
 refine Dl (σ:=Nat×Int×Bool) (λs=>[(9,e7<|s.2.1),(10,.bool<|s.2.2),(27,e7 ((s.1:Nat):Int))]) (λ_=>[]) (λs=>(s.1<=xs.length)/\(s.2.2=decide (kd=2/\0<s.1))/\(¬(kd=2/\0<s.1)->s.2.1=0)/\(kd=2/\0<s.1->∃x∈xs,s.2.1=x.tm+wd)/\(kd=2->∀j,j<s.1->s.2.1<=(e_ xs j).tm+wd)) (λs=>xs.length - s.1) (0,0,false) ⟨om,(E_<|λh=>absurd h.2 om).symm,(λ_=>rfl),(λh=>absurd h.2 om),(λ_ j hj=>absurd hj om)⟩ ?_
 rintro ⟨k,z,q⟩ hp
 dsimp only at hp ⊢
 obtain ⟨hk,hq,ae,ab,aa⟩:=hp
 refine Z ?_
 refine Am C (λak=>Z ?_)<|λak=>Z ?_
 ·refine Ge1 (Ah p7 C) λb3=>Ge0 (Dp p7) ?_
  have ap:=au1 (B_.1 ah) (k:Int) om om
  have ao:=ad9 (B_.1 ad)
  refine Z ?_
  refine Au (d:=39) C (λaj=>Z ?_)<|λaj=>Z ?_
  ·refine G.bn8 (d:=42) C (λM=>Z ?_) (λM=>Z ?_)
   ·exact Bh ((k+1),(((e_ xs k).tm)+wd),(true))<|by dsimp only;exact ⟨om,(by first|exact (D_ om).symm|(rw [hq,Fy];omega)|(rw [hq,Fy];have hP:=ay5 M hq;omega)),(λh=>by first|omega|exact ae om),(λh=>by first|exact ⟨_,B3 (i:=(k:Int)) om om,rfl⟩|exact ab om|(have hP:=ay5 M hq;exact ab hP)),(λE=>by first|omega|exact Dg (λj hj=>by first|(have hP:=cv0 M hq;omega)|(have h5:=aa E j hj;omega)) (Hn _)|exact Dg (aa E) om)⟩
   refine Am C (λai=>Z ?_)<|λai=>Z ?_
   ·exact Bh ((k+1),(((e_ xs k).tm)+wd),(true))<|by dsimp only;exact ⟨om,(by first|exact (D_ om).symm|(rw [hq,Fy];omega)|(rw [hq,Fy];have hP:=ay5 M hq;omega)),(λh=>by first|omega|exact ae om),(λh=>by first|exact ⟨_,B3 (i:=(k:Int)) om om,rfl⟩|exact ab om|(have hP:=ay5 M hq;exact ab hP)),(λE=>by first|omega|exact Dg (λj hj=>by first|(have hP:=cv0 M hq;omega)|(have h5:=aa E j hj;omega)) (Hn _)|exact Dg (aa E) om)⟩
   exact Bh ((k+1),(z),(q))<|by dsimp only;exact ⟨om,(by first|exact (D_ om).symm|(rw [hq,Fy];omega)|(rw [hq,Fy];have hP:=ay5 M hq;omega)),(λh=>by first|omega|exact ae om),(λh=>by first|exact ⟨_,B3 (i:=(k:Int)) om om,rfl⟩|exact ab om|(have hP:=ay5 M hq;exact ab hP)),(λE=>by first|omega|exact Dg (λj hj=>by first|(have hP:=cv0 M hq;omega)|(have h5:=aa E j hj;omega)) (Hn _)|exact Dg (aa E) om)⟩
  exact Bh ((k+1),(z),(q))<|by dsimp only;exact ⟨om,(by first|exact (D_ om).symm|(rw [hq,Fy];omega)|(rw [hq,Fy];have hP:=ay5 M hq;omega)),(λh=>by first|omega|exact ae om),(λh=>by first|exact ⟨_,B3 (i:=(k:Int)) om om,rfl⟩|exact ab om|(have hP:=ay5 M hq;exact ab hP)),(λE=>by first|omega|exact Dg (λj hj=>by first|(have hP:=cv0 M hq;omega)|(have h5:=aa E j hj;omega)) (Hn _)|exact Dg (aa E) om)⟩
 have hu:fe8 nd xs kd wd mo=0:=bd2 ad ah
 have hc:ac6 nd xs kd wd mo↔(kd=2/\0<k):=⟨λh=>⟨h.2.1,by have:=Ku.2 h.2.2;omega⟩,λh=>⟨hu,h.1,Ku.1 om⟩⟩
 exact V.gp9 C C C C I Af ⟨z,by rw [hq,show decide (ac6 nd xs kd wd mo)=decide (kd=2/\0<k) from Fy.2 hc,hu],⟨λh=>⟨ab<|hc.1 h,λy hy=>by obtain ⟨j,hj,rfl⟩:=E1 hy;exact aa (hc.1 h).1 j om⟩,λh=>ae<|λh2=>h<|hc.2 h2⟩,rfl⟩
end Go.Sl
