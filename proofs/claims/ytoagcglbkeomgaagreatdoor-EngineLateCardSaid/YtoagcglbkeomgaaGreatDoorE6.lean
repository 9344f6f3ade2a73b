/- A part of the proofs of statements of this seat: contracts of functions, and the plain laws that they lean on. No conditions. -/
import Derived.Test.YtoagcglbkeomgaaGreatDoorE5
import Derived.LoopN
import Derived.Test.YtoagcglbkeomgaaGreatDoorProg
set_option linter.unusedVariables false
set_option linter.unusedSimpArgs false
set_option linter.unusedSectionVars false
open Go.Proofs.Tryz (prog)
namespace Go.Sl
theorem df5{ord:List Int}{m:Nat}(hn:ord.Nodup)(hl:ord.length=m)(hr:∀x∈ord,0<=x/\x<m){j:Int}(h0:0<=j)(M:j<m):j∈ord:=by
 refine Gd λhj=>?_
 have h2:(j::ord).Nodup:=Hz.2 ⟨hj,hn⟩
 have h3:∀x∈j::ord,x∈(List.range m).map λk=>((k:Nat):Int):=λx hx=>by
  have aa:0<=x/\x<m:=by
   rcases Fy.1 hx with rfl|hx
   ·exact ⟨h0,M⟩
   exact hr x hx
  exact Gz.2 ⟨x.toNat,Ja.2<|by omega,by omega⟩
 have h4:=Ho h2 h3
 simp at h4;omega
section
variable {tri:List (List Pt)}{num ord:List Int}
def da3(tri:List (List Pt))(i:Int):List (Int×Int):=(e_ tri i).map λp=>(p.u,p.v)
theorem bz6(X:Int->Bool)(i:Int):cc8 (da3 tri) X i=((e_ tri i).filter λp=>X p.u&&X p.v).length:=by
 unfold cc8 da3
 rw [Lc,Gc]
 rfl
theorem ab2.mono(h:ab2 tri num ord):∀(m n:Nat),n+m<ord.length->e_ num (e_ ord n)<=e_ num (e_ ord ((n+m:Nat):Int))
 |0,n,_=>Hn _
 |m+1,n,hm=>Lb (ab2.mono h m n<|by omega) (h.asc (n+m) hm)
theorem bv5(hG:cw4 tri)(h:ab2 tri num ord):bu5 (λi:Int=>0<=i/\i<tri.length) (da3 tri) λi=>(e_ num i).toNat:=by
 have hall:∀j:Int,0<=j->j<tri.length->∃n:Nat,n<ord.length/\e_ ord n=j:=λj h0 h1=>ar4 (df5 h.nodup h.fs8 h.rng h0 h1)
 intro i hi k
 constructor
 ·intro hk
  refine ⟨λj=>decide<|(0<=j/\j<(tri.length:Int))/\k<=(e_ num j).toNat,⟨λj hj=>(Fs hj).1,λj hj=>?_⟩,As ⟨hi,hk⟩⟩
  obtain ⟨hj1,hj2⟩:=Fs hj
  obtain ⟨n,hn,e⟩:=hall j hj1.1 hj1.2
  have hh:=h.high n hn
  rw [e] at hh
  rw [bz6]
  have hm:((e_ tri j).filter λp=>decide<|e_ num j<=e_ num p.u/\e_ num j<=e_ num p.v).length<=((e_ tri j).filter λp=>decide ((0<=p.u/\p.u<(tri.length:Int))/\k<=(e_ num p.u).toNat)&&decide ((0<=p.v/\p.v<(tri.length:Int))/\k<=(e_ num p.v).toNat)).length:=H9 λp hp hx=>by
   have h2:=Fs hx
   have h3:=(hG.rng j hj1.1 hj1.2 p hp).1
   exact L7.2 ⟨As ⟨⟨h3.1,h3.2.1⟩,by omega⟩,As ⟨h3.2.2,by omega⟩⟩
  omega
 rintro ⟨X,hX,hXi⟩
 obtain ⟨m,hm,em⟩:=hall i hi.1 hi.2
 -- the first of X in the order
 have hex:∃n,n<=m/\X (e_ ord n)=true/\∀l,l<n->X (e_ ord l)=false:=by
  have:∀q:Nat,∀m,m<=q->X (e_ ord m)=true->∃n,n<=m/\X (e_ ord n)=true/\∀l,l<n->X (e_ ord l)=false:=λq=>by
   induction q with
   |zero=>intro m hm hx;exact ⟨m,Gg _,hx,λl hl=>by omega⟩
   |succ q ih=>
    intro m hm hx
    by_cases hc:∃l,l<m/\X (e_ ord l)=true
    ·obtain ⟨l,hl,hlx⟩:=hc
     obtain ⟨n,h1,h2,h3⟩:=ih l (by omega) hlx
     exact ⟨n,by omega,h2,h3⟩
    refine ⟨m,Gg _,hx,λl hl=>?_⟩
    cases e:X (e_ ord l) with
    |false=>rfl
    |true=>exact absurd ⟨l,hl,e⟩ hc
  exact this m m (Gg _)<|by rw [em];exact hXi
 obtain ⟨n,hn,hnx,hfirst⟩:=hex
 have h1:=hX.deg _ hnx
 rw [bz6] at h1
 have hr:=h.rng _ (at_mem (xs:=ord) (i:=(n:Int)) (by omega)<|by omega)
 have h2:((e_ tri<|e_ ord n).filter λp=>X p.u&&X p.v).length<=((e_ tri<|e_ ord n).filter λp=>decide<|p.u∈List.drop (n+1) ord/\p.v∈List.drop (n+1) ord).length:=H9 λp hp hx=>by
  have h3:=hG.rng _ hr.1 hr.2 p hp
  have key:∀z:Int,X z=true->0<=z->z<tri.length->z≠e_ ord n->z∈List.drop (n+1) ord:=λz hz z0 z1 zne=>by
   obtain ⟨l,hl,el⟩:=hall z z0 z1
   have hln:¬l<n:=λhlt=>by have:=hfirst l hlt;rw [el,hz] at this;cases this
   have hln2:l≠n:=λe=>zne (by rw [←el,e])
   rw [Jx]
   refine ⟨l - (n+1),by rw [Fz];omega,?_⟩
   rw [Lx,←el,L0 ord l hl]
   congr 1;omega
  exact As ⟨key _ (L7.1 hx).1 h3.1.1 h3.1.2.1 h3.2.2.1,key _ (L7.1 hx).2 h3.1.2.2.1 h3.1.2.2.2 h3.2.2.2⟩
 have h4:=h.later n (by omega)
 have h5:=h.mono (m - n) n (by omega)
 rw [show n+(m - n)=m by omega,em] at h5
 show k<=(e_ num i).toNat
 omega
end
section
variable {α β:Type}{E:α->Prop}{F:β->Prop}{tri:α->List (α×α)}{tri':β->List (β×β)}{t:β->Nat}
theorem bu5.move(h:bu5 F tri' t)(f:α->β)(hf:∀e,E e->F (f e))(ab:∀e e',E e->E e'->f e=f e'->e=e')(an:∀b,F b->∃e,E e/\f e=b)
  (hE:∀e,E e->∀p∈tri e,E p.1/\E p.2) (ah:∀e,E e->tri' (f e)=(tri e).map λp=>(f p.1,f p.2)):bu5 E tri λe=>t (f e):=by
 have aa:∀(X:α->Bool) (Y:β->Bool) e,E e->(∀e',E e'->Y (f e')=X e')->cc8 tri' Y (f e)=cc8 tri X e:=λX Y e he ae=>by
  unfold cc8
  rw [ah e he,Lc,Gc]
  congr 1
  refine Hy λp hp=>?_
  have:=hE e he p hp
  show (Y (f p.1)&&Y (f p.2))=_
  rw [ae _ this.1,ae _ this.2]
 intro e he k
 rw [h (f e) (hf e he) k]
 constructor
 ·rintro ⟨Y,hY,ak⟩
  refine ⟨λe'=>Y (f e') && @decide (E e') (Classical.propDecidable _),⟨λe' h'=> @Fs _ (Classical.propDecidable _) (L7.1 h').2,λe' h'=>?_⟩,L7.2 ⟨ak, @As _ (Classical.propDecidable _) he⟩⟩
  obtain ⟨h1,h2⟩:=L7.1 h'
  have M:= @Fs _ (Classical.propDecidable _) h2
  rw [←aa _ Y e' M λe2 aj=>by rw [@As _ (Classical.propDecidable _) aj,Bool.and_true]]
  exact hY.deg _ h1
 rintro ⟨X,hX,ai⟩
 have ad:∀e',E e'->(@decide (∃e2,E e2/\f e2=f e'/\X e2=true) (Classical.propDecidable _))=X e':=λe' M=>by
  cases hx:X e' with
  |true=>exact @As _ (Classical.propDecidable _) ⟨e',M,rfl,hx⟩
  |false=>exact @D_ _ (Classical.propDecidable _) λ⟨e2,h1,h2,h3⟩=>by rw [ab e2 e' h1 M h2,hx] at h3;cases h3
 refine ⟨λb=> @decide (∃e2,E e2/\f e2=b/\X e2=true) (Classical.propDecidable _),⟨λb hb=>?_,λb hb=>?_⟩,(ad e he).trans ai⟩
 ·obtain ⟨e2,h1,h2,_⟩:= @Fs _ (Classical.propDecidable _) hb
  rw [←h2];exact hf e2 h1
 obtain ⟨e2,h1,h2,h3⟩:= @Fs _ (Classical.propDecidable _) hb
 rw [←h2,aa X _ e2 h1 ad]
 exact hX.deg e2 h3
end
end Go.Sl
namespace Go.Sl
variable{h0 i:Int}
theorem bx9{α:Type}[Inhabited α]{a b:List α}(hl:a.length=b.length)(h:∀i:Nat,i<a.length->e_ a i=e_ b i):a=b:=Me hl λi M h2=>by
 rw [←L0 a i M,←L0 b i h2];exact h i M
def bi7(tri:List (List Pt))(b:List Int)(i:Int):List Int:=(e_ tri i).map λp=>min (e_ b p.u) (e_ b p.v)
def okS(tri:List (List Pt))(b:List Int)(i:Int):Prop:=∃h,HI (bi7 tri b i) h/\e_ b i<=h
structure am7 (tri:List (List Pt)) (t b q:List Int):Prop where
 len:b.length=tri.length
 rng:∀i∈q,0<=i/\i<tri.length
 low:∀i:Int,0<=i->i<tri.length->0<=e_ t i/\e_ t i<=e_ b i
 fix:∀i:Int,0<=i->i<tri.length->i∈q\/okS tri b i
section
variable {tri:List (List Pt)}{t b q:List Int}
theorem dm3{k:Int}(l:List Pt)(f:Pt->Int):((l.map f).filter λx=>decide (k<=x)).length=(l.filter λp=>decide (k<=f p)).length:=by
 rw [Lc,Gc];rfl
theorem dt6(hG:cw4 tri)(ht:bu5 (λi:Int=>0<=i/\i<tri.length) (da3 tri) λi=>(e_ t i).toNat)(h:am7 tri t b q)(hi:0<=i/\i<tri.length)(hh:HI (bi7 tri b i) h0):e_ t i<=h0:=by
 have hE:∀e:Int,(0<=e/\e<tri.length)->∀p∈da3 tri e,(0<=p.1/\p.1<tri.length)/\(0<=p.2/\p.2<tri.length):=λe he p hp=>by
  obtain ⟨x,hx,rfl⟩:=Gz.1 hp
  have:=(hG.rng e he.1 he.2 x hx).1
  exact ⟨⟨this.1,this.2.1⟩,this.2.2⟩
 have h1:=ht.high hE hi
 unfold da3 at h1
 rw [Lc,Gc] at h1
 have aa:=h.low i hi.1 hi.2
 refine hh.most _ ?_
 unfold bi7
 rw [dm3]
 have h2:((e_ tri i).filter ((λp:Int×Int=>decide<|(e_ t i).toNat<=(e_ t p.1).toNat/\(e_ t i).toNat<=(e_ t p.2).toNat)∘λp=>(p.u,p.v))).length<=((e_ tri i).filter λp=>decide<|e_ t i<=min (e_ b p.u) (e_ b p.v)).length:=H9 λp hp hx=>by
  have h3:=Fs hx
  have M:=(hG.rng i hi.1 hi.2 p hp).1
  have a1:=h.low p.u M.1 M.2.1
  have a2:=h.low p.v M.2.2.1 M.2.2.2
  simp only at h3
  exact As<|by omega
 omega
theorem am7.pass(h:am7 tri t b (i::q)){M:Int}(hh:HI (bi7 tri b i) M)(aa:e_ b i<=M):am7 tri t b q:=
 ⟨h.len,λj hj=>h.rng j (C_ _ hj),h.low,λj j0 j1=>by
  rcases h.fix j j0 j1 with hq|hq
  ·rcases Fy.1 hq with rfl|hq
   ·exact .inr ⟨M,hh,aa⟩
   exact .inl hq
  exact .inr hq⟩
def bi8(l:List Pt):List Int:=l.flatMap λp=>[p.u,p.v]
theorem bx7{l:List Pt}{j:Int}:j∈bi8 l↔∃p∈l,j=p.u\/j=p.v:=by
 unfold bi8
 rw [Kw]
 constructor
 ·rintro ⟨p,M,h⟩;exact ⟨p,M,by simpa using h⟩
 rintro ⟨p,M,h⟩;exact ⟨p,M,by simpa using h⟩
theorem am7.sink(hG:cw4 tri)(ht:bu5 (λi:Int=>0<=i/\i<tri.length) (da3 tri) λi=>(e_ t i).toNat)(h:am7 tri t b (i::q))(hh:HI (bi7 tri b i) h0)(hlt:h0<e_ b i) :
  am7 tri t (b.set i.toNat h0) (q++bi8 (e_ tri i)):=by
 have hi:=h.rng i A_
 have ad:=h.len
 have ab:∀j:Int,0<=j->j<tri.length->e_ (b.set i.toNat h0) j=if i=j then h0 else e_ b j:=λj M j1=>R4 b i j h0 hi.1 M (by omega)
 have aa:∀j:Int,0<=j->j<tri.length->(∀p∈e_ tri j,p.u≠i/\p.v≠i)->bi7 tri (b.set i.toNat h0) j=bi7 tri b j:=λj M j1 ae=>by
  unfold bi7
  refine Ku λp hp=>?_
  have hr:=(hG.rng j M j1 p hp).1
  rw [ab p.u hr.1 hr.2.1,ab p.v hr.2.2.1 hr.2.2.2,An<|λe=>(ae p hp).1 e.symm,An<|λe=>(ae p hp).2 e.symm]
 refine ⟨by rw [Fq];exact ad,λj hj=>?_,λj M j1=>?_,λj M j1=>?_⟩
 ·rcases Gu.1 hj with hj|hj
  ·exact h.rng j<|C_ _ hj
  obtain ⟨p,hp,e⟩:=bx7.1 hj
  have hr:=(hG.rng i hi.1 hi.2 p hp).1
  rcases e with rfl|rfl
  ·exact ⟨hr.1,hr.2.1⟩
  exact hr.2.2
 ·have hl:=h.low j M j1
  rw [ab j M j1]
  by_cases e:i=j
  ·subst e;rw [B_ rfl];exact ⟨hl.1,dt6 hG ht h hi hh⟩
  rw [An e];exact hl
 by_cases e:i=j
 ·subst e
  refine .inr ⟨h0,?_,?_⟩
  ·rw [aa i M j1 λp hp=>⟨(hG.rng i hi.1 hi.2 p hp).2.2.1,(hG.rng i hi.1 hi.2 p hp).2.2.2⟩];exact hh
  rw [ab i M j1,B_ rfl];exact Hn _
 by_cases hn:∃p∈e_ tri j,p.u=i\/p.v=i
 ·obtain ⟨p,hp,hpi⟩:=hn
  refine .inl<|Ma _<|bx7.2 ?_
  rcases hpi with hpi|hpi
  ·have hs:fb7 tri j i p.v:= .inl (by rw [←hpi];exact hp)
   rcases hG.sym j i p.v M j1 hs with h3|h3
   ·exact ⟨_,h3,.inl rfl⟩
   exact ⟨_,h3,.inr rfl⟩
  have hs:fb7 tri j i p.u:= .inr (by rw [←hpi];exact hp)
  rcases hG.sym j i p.u M j1 hs with h3|h3
  ·exact ⟨_,h3,.inl rfl⟩
  exact ⟨_,h3,.inr rfl⟩
 rcases h.fix j M j1 with hq|⟨h1,h2,h3⟩
 ·rcases Fy.1 hq with hq|hq
  ·exact absurd hq.symm e
  exact .inl<|Gk _ hq
 refine .inr ⟨h1,?_,?_⟩
 ·rw [aa j M j1 λp hp=>⟨λq1=>hn ⟨p,hp,.inl q1⟩,λq1=>hn ⟨p,hp,.inr q1⟩⟩];exact h2
 rw [ab j M j1,An e];exact h3
theorem am7.done(hG:cw4 tri)(ht:bu5 (λi:Int=>0<=i/\i<tri.length) (da3 tri) λi=>(e_ t i).toNat)(h:am7 tri t b [])(hl:t.length=tri.length):b=t:=by
 have hE:∀e:Int,(0<=e/\e<tri.length)->∀p∈da3 tri e,(0<=p.1/\p.1<tri.length)/\(0<=p.2/\p.2<tri.length):=λe M p hp=>by
  obtain ⟨x,hx,rfl⟩:=Gz.1 hp
  have:=(hG.rng e M.1 M.2 x hx).1
  exact ⟨⟨this.1,this.2.1⟩,this.2.2⟩
 have aa:∀i:Int,0<=i->i<tri.length->(e_ b i).toNat=(e_ t i).toNat:=λi i0 i1=>fv0 (b:=λi=>(e_ b i).toNat) ht hE (λe M=>by have:=h.low e M.1 M.2;show (e_ t e).toNat<=(e_ b e).toNat;omega) (λe M=>by
  rcases h.fix e M.1 M.2 with hq|⟨h1,h2,h3⟩
  ·cases hq
  show (e_ b e).toNat<=_
  have h4:=h2.has
  unfold bi7 at h4
  rw [dm3] at h4
  unfold da3
  rw [Lc,Gc]
  have h5:((e_ tri e).filter λp=>decide<|h1<=min (e_ b p.u) (e_ b p.v)).length<=((e_ tri e).filter ((λp:Int×Int=>decide<|(e_ b e).toNat<=(e_ b p.1).toNat/\(e_ b e).toNat<=(e_ b p.2).toNat)∘λp=>(p.u,p.v))).length:=H9 λp hp hx=>by
   have h6:=Fs hx
   exact As<|by simp only;omega
  omega) ⟨i0,i1⟩
 refine bx9 (by rw [h.len,hl]) λi hi=>?_
 have h1:=aa (i:Int) (by omega) (by have:=h.len;omega)
 have h2:=h.low (i:Int) (by omega) (by have:=h.len;omega)
 omega
end
end Go.Sl
namespace Go.Sl
variable{xs:List Int}{x:Operand}{E T b by' sz:Nat}{z:List Value}{i j:Int}
section
variable {P:Program}{κ:Ctx}{N:Frm}{Q:Exit->Act->World->Prop}{L:Env}{I:List Item}
theorem W.rounds{c:Code}(n:Nat)(h:V κ N (Exit.then (Code.rounds P c Q n) Q) .normal L I):W P κ N (.loop c) Q L I:=λa w M hs=>wp_loop_rounds n (h a w M hs)
theorem V.again{c:Code}{n:Nat}(h:W P κ N c (Exit.then (Code.rounds P c Q n) Q) L I):V κ N (Exit.then (Code.rounds P c Q (n+1)) Q) .normal L I:=h
end
structure aj9 where
 b:Nat
 o:Nat
deriving Inhabited
structure P0 where
 t:Nat
 b:Nat
 o:Nat
deriving Inhabited
instance:Enc aj9:=⟨λx=>[.pointer (some ⟨x.b,x.o,none⟩)],1,by omega,λ_=>rfl,λ_ u h=>by simp at h;subst h;rfl⟩
instance:Enc P0:=⟨λx=>[.iface x.t (.pointer (some ⟨x.b,x.o,none⟩))],1,by omega,λ_=>rfl,λ_ u h=>by simp at h;subst h;rfl⟩
section
variable {P:Program}{κ:Ctx}{N:Frm}{Q:Exit->Act->World->Prop}{L:Env}{I J:List Item}
variable {d:Option Tmp}{ty:TypeId}{ps:String}{af:Array Edge}{gd:Option (Nat×Bool)}
theorem j7.gj6(hT:tyF P T=some (sz,false,by',z))(M:er L x=some (.pointer (some ⟨b,0+i.toNat*64+j.toNat*1,none⟩)))(hb:ab7 κ J b (cells xs) E)(h0:0<=i)(h1:0<=j)(hn:i*64+j<xs.length) :
  j7 P κ N ⟨d,.load T x,ty,ps,af,gd⟩ L J (e7<|e_ xs<|i*64+j):=by
 refine j7.gc3 (i:=i*64+j) hT ?_ hb (by omega) hn
 rw [M,show 0+i.toNat*64+j.toNat*1=0+(i*64+j).toNat*1 by omega]
theorem Eff.setT{y:Operand}{ag:Bool}{n:Int}{I':List Item}(hT:tyF P T=some (sz,ag,by',z))(M:sz=1)(hx:er L x=some (.pointer (some ⟨b,0+i.toNat*64+j.toNat*1,none⟩)))(hy:er L y=some (e7 n))(h0:0<=i)(h1:0<=j)(hn:i*64+j<xs.length)
  (aa:At I (e8 b (cells xs) E) (e8 b (cells<|xs.set (i*64+j).toNat n) E) I') :
  Eff P κ N Q ⟨none,.store T x y,ty,ps,af,gd⟩ L I λL' I''=>L'=L/\I''=I':=by
 refine Eff.setA (i:=i*64+j) hT M ?_ hy (by omega) hn aa
 rw [hx,show 0+i.toNat*64+j.toNat*1=0+(i*64+j).toNat*1 by omega]
end
end Go.Sl
namespace Go.Sl
def Has(I T:List Item):Prop:=∃L,I.Perm (L++T)
section
variable {κ:Ctx}{I T:List Item}
theorem Has.refl(I:List Item):Has I I:=⟨[],List.Perm.refl _⟩
theorem Has.tail{x:Item}(h:Has I T):Has (x::I) T:=by
 obtain ⟨L,hL⟩:=h
 exact ⟨x::L,hL.cons x⟩
theorem Has.app(Y:List Item)(h:Has I T):Has (Y++I) T:=by
 obtain ⟨L,hL⟩:=h
 exact ⟨Y++L,by rw [Fu];exact hL.append_left Y⟩
theorem Has.up(h:Has I T)(Y:List Item):Has (Y++I) (Y++T):=by
 obtain ⟨L,hL⟩:=h
 exact ⟨L,(hL.append_left Y).trans de3⟩
theorem Has.fit(h:Has I T):Fit κ I T:=by
 obtain ⟨L,hL⟩:=h
 exact Fit.trans (Fit.perm hL)<|Fit.az0 _ _
end
section
variable {P:Program}{κ:Ctx}{N:Frm}{Q:Exit->Act->World->Prop}{L:Env}{I J J0:List Item}{ops:Array Oper}{o:Oper}{n:Nat}
theorem ch5.read{stop fuel:Nat}{M:Array Bool}{i d:Nat}{v:Value}(hi:ops[i]? = some o)(hw:q8 N ops o L)(hd:o.dst=some d)(hN:Nat.blt d N.n=true)(hr:j7 P κ N o L I v)(hf:Fit κ I J)
  (h:D2 P κ N ops Q J0 n J stop fuel (M.setIfInBounds i true) ((d,v)::L) I):ch5 P κ N ops Q J0 n J stop fuel M L I i:=λa w ha hs=>by
 unfold wpOp
 simp only [hi,hw a ha,Lt,Oper.wp,hr a w ha hs,Oper.upon]
 have aa:=ha.put d hN v
 rw [←hd] at aa
 exact .inl ⟨hf w hs,h _ w aa hs⟩
end
end Go.Sl
namespace Go.Sl
open Go.RowKit (Below)
variable{x:Operand}{v:Value}
section
variable {P:Program}{κ:Ctx}{N:Frm}{Q:Exit->Act->World->Prop}{L:Env}{I J:List Item}{ops:Array Oper}{rest:List Oper}
variable {d:Option Tmp}{ty:TypeId}{ps:String}{af:Array Edge}{gd:Option (Nat×Bool)}
theorem j7.bq8{T:TypeId}(hm:∀w,(Instr.makeInterface T v).run P w = .ok (.iface T v) w)(M:er L x=some v):j7 P κ N ⟨d,.makeInterface T x,ty,ps,af,gd⟩ L J (.iface T v):=
 λa w ha hs=>by simp [execOp,ha.eval M,hm,Result.andThen]
theorem Eff.invoke{f:FuncId}{dd:Nat}{t:TypeId}{rv:Value}{M:String}{xs:List Operand}{vs:List Value}{aa:Array TypeId}{Post:Value->List Item->Prop}(hf:V3 P f=true)(hr:er L x=some (.iface t v))
  (hm:∀w,(method (P.types.size+Made.depth) t v M).run P w = .ok (f,rv) w) (hx:T6 L xs=some vs) (hN:Nat.blt dd N.n=true) (hc:eu P κ f (rv::vs) I Post) :
  Eff P κ N Q ⟨some dd,.call {callee:= .invoke x M,args:=xs.toArray,argTypes:=aa},ty,ps,af,gd⟩ L I λL' I''=>∃v J,Post v J/\L'=(dd,v)::L/\J=I'':=λa w ha hs=>by
 have he:(execOp a.eval ⟨some dd,.call {callee:= .invoke x M,args:=xs.toArray,argTypes:=aa},ty,ps,af,gd⟩).run P w = .ok (.enter f (rv::vs).toArray) w:=by
  simp only [execOp,resolve,ha.eval hr,Go.invoke,Sem.run_bind,Sem.run_pure,Result.andThen_ok,Jq,ha.T6 hx]
  simp [callMethod,hm,ai0 hf,Result.andThen]
 simp only [Oper.wp,he,Oper.upon]
 refine (hc w hs).mono λe w' ⟨v,J,ad,hp,ab⟩=>?_
 subst ad
 exact ⟨_,_,⟨v,J,hp,rfl,rfl⟩,ha.put dd hN v,ab⟩
end
end Go.Sl
namespace Go.Sl
open Go.Proofs
abbrev Aa:= @Sub.cons
abbrev Ab:= @Tryz.underlying22
abbrev Ac:= @Eff.call
abbrev Ad:= @Tryz.underlying30
abbrev Af:= @j7.fieldAddr
abbrev Ah:= @Fit.m
abbrev Ai:= @Fit.sub
abbrev Aj:= @Eff.alloc
abbrev Ak:= @V.ret1
abbrev Al:= @W.ite
abbrev Am:= @W.sr
abbrev Ao:= @V.then
abbrev Ap:= @q8.plain
abbrev Aq:= @j7.move
abbrev Ar:= @G.nt
abbrev Au:= @Eff.box
abbrev Av:= @V.ay5
abbrev Aw:= @V.bv9
abbrev Ax:= @Tryz.underlying36
abbrev Ay:= @W.seq
abbrev Az:= @Fit.s
abbrev A0:= @W.sub
abbrev A1:= @G.split
abbrev A2:= @j7.idx
abbrev A3:= @Tryz.underlying33
abbrev A4:= @Sl.f
abbrev A5:= @Sl.o
abbrev A6:= @F4.fit
abbrev A7:= @Fit.trans
abbrev A8:= @W.block
abbrev A9:= @W.drawn
abbrev Ba:= @W.region
abbrev Bb:= @Sub.nil
abbrev Bc:= @W.skip
abbrev Bd:= @Sl.fit
abbrev Be:= @j7.assign
abbrev Bf:= @j7.ld
abbrev Bg:= @Has.tail
abbrev Bh:= @Has.refl
abbrev Bi:= @V.bz8
abbrev Bj:= @j7.lss
abbrev Bk:= @j7.extract
abbrev Bl:= @j7.lens
abbrev Bm:= @j7.lds
abbrev Bn:= @at_mem
abbrev Bo:= @Has.app
abbrev Bp:= @Eff.app
abbrev Bq:= @j7.fx3
abbrev Br:= @Eff.st
abbrev Bs:= @G.nil
abbrev Bt:= @V.nx
abbrev Bu:= @Fit.az0
abbrev Bv:= @Tryz.underlying198
abbrev Bw:= @eu.pull
abbrev Bx:= @A.hold
abbrev Bz:= @p4
abbrev B0:= @Eff.bs
abbrev B1:= @Has.up
abbrev B2:= @W.ret
abbrev B3:= @Has.fit
abbrev B4:= @j7.fx2
abbrev B5:= @j7.fy6
abbrev B6:= @Fit.ge6
abbrev B7:= @Tryz.underlying200
abbrev B8:= @j7.get
abbrev B9:= @W.loop
abbrev Ca:= @bo8
abbrev Cb:= @Tryz.underlying3
abbrev Cc:= @j7.fy8
abbrev Cd:= @D.read
abbrev Ce:= @Tryz.underlying115
abbrev Cf:= @q8.on
abbrev Cg:= @D.stop
abbrev Ch:= @A.done
abbrev Ci:= @j7.neq
abbrev Cj:= @Fit.perm
abbrev Ck:= @W.exit
abbrev Cl:= @eu.fit
abbrev Cm:= @j7.build
abbrev Cn:= @dw9
abbrev Co:= @V.ge0
abbrev Cp:= @Tryz.underlying205
abbrev Cq:= @Tryz.underlying189
abbrev Cr:= @gi3
abbrev Cs:= @L0
abbrev Ct:= @j7.add
abbrev Cu:= @V.gd9
abbrev Cv:= @Eff.set
abbrev Cw:= @V.cj5
abbrev Cx:= @Eff.gg9
abbrev Cy:= @Sl.vec
abbrev Cz:= @Tryz.underlying155
abbrev C0:= @de3
abbrev C1:= @Fit.K7
abbrev C2:= @j7.ge8
abbrev C3:= @V.ret2
abbrev C4:= @j7.eql
abbrev C5:= @dd1
abbrev C6:= @Tryz.underlying208
abbrev C7:= @gi1
abbrev C8:= @D.step
abbrev C9:= @gi2
abbrev Da:= @j7.gj5
abbrev Db:= @dw8
abbrev Dc:= @Pt.bs3
abbrev Dd:= @Fit.refl
abbrev De:= @V.again
abbrev Df:= @Q8
abbrev Dg:= @A.read
abbrev Dh:= @W.lq
abbrev Di:= @V.mi
abbrev Dj:= @G.eff
abbrev Dk:= @D.split
abbrev Dl:= @Eff.make
abbrev Dm:= @ab7.of
abbrev Dn:= @j7.lo
abbrev Do:= @gj7
abbrev Dp:= @all_succ
abbrev Dq:= @W.cond
abbrev Ds:= @G.fit
abbrev Dt:= @ch5.eff
abbrev Du:= @ao4
abbrev Dv:= @j7.makeFunc
abbrev D0:= @Eff.invoke
abbrev D1:= @K1
abbrev D3:= @P6
abbrev D4:= @Tryz.underlying233
abbrev D5:= @Tryz.underlying228
abbrev D6:= @Tryz.underlying212
abbrev D7:= @Tryz.underlying184
abbrev D8:= @Tryz.underlying182
abbrev D9:= @Tryz.underlying105
abbrev Ea:= @j7.fn0
abbrev Eb:= @j7.orB
abbrev Ec:= @j7.gtr
abbrev Ed:= @A.ho
abbrev Ee:= @j7.nilCheck
abbrev Ef:= @j7.fa9
abbrev Eg:= @j7.andB
abbrev Eh:= @R4
abbrev Ei:= @all2
abbrev Ej:= @V.retc
abbrev Ek:= @Tryz.underlying5
abbrev El:= @Tryz.underlying4
abbrev Em:= @ab7.fit
abbrev En:= @fy3
abbrev Eo:= @T3
abbrev Ep:= @j7.mul
abbrev Er:= @gh8
abbrev Es:= @Sl.drop
abbrev Et:= @dg7
abbrev Eu:= @R2
abbrev Ew:= @Tryz.underlying47
abbrev Ex:= @Tryz.underlying45
abbrev Ey:= @Tryz.underlying41
abbrev Ez:= @Tryz.underlying38
abbrev E0:= @j7.fp1
abbrev E1:= @D2.step
abbrev E2:= @cs5
abbrev E3:= @j7.gf5
abbrev E4:= @di1
abbrev E5:= @gi0
abbrev E6:= @bx9
abbrev E7:= @j7.gj3
abbrev E8:= @Eff.clone
abbrev E9:= @all_zero
abbrev Fa:= @j7.not
abbrev Fb:= @Fit.tail
abbrev Fc:= @gi4
abbrev Fd:= @an6
abbrev Fe:= @W.cut
abbrev Ff:= @D2.read
abbrev Fg:= @dn2
abbrev Fh:= @j7.shrB
abbrev Fi:= @j7.max
abbrev Fj:= @j7.gf7
abbrev Fk:= @gh7
abbrev Fl:= @gh9
abbrev Fm:= @Eff.gg5
abbrev Fo:= @eu.at
abbrev Fp:= @j7.gf8
theorem kr{p:Prop}(h:p:=by kernel_rfl):p:=h
theorem dc{p:Prop}(h:p:=by decide):p:=h
theorem lcn{p:Prop}(h:p:=by simp only [E_,Fw];omega):p:=h
theorem asm{p:Prop}(h:p:=by assumption):p:=h
theorem lat{p:Prop}(h:p:=by first|omega|(simp only [By,Fr,Fz,F_]<;>omega)):p:=h
theorem lap{p:Prop}(h:p:=by simp only [By,E_,Fw];omega):p:=h
theorem olp{p:Prop}(h:p:=by first|omega|(simp only [By,E_,Fw];omega)):p:=h
theorem olr{p:Prop}(h:p:=by first|omega|(simp only [F_];omega)):p:=h
end Go.Sl
namespace Go.Sl
open Go.Proofs
theorem ty2:tyF prog 2=some (1,false,8,[e7 (0)]):=by kernel_rfl
theorem ef:tyF prog 3=some (1,false,8,[e7 (0)]):=by kernel_rfl
theorem ty4:tyF prog 4=some (1,false,1,[.bool false]):=by kernel_rfl
theorem ty5:tyF prog 5=some (1,false,1,[.int .u8 (0)]):=by kernel_rfl
theorem W4:tyF prog 22=some (1,false,24,[.slice none 0 0]):=by kernel_rfl
theorem da2:tyF prog 29=some (3,true,24,[e7 (0),e7 (0),e7 (0)]):=by kernel_rfl
theorem W9:U2 prog 29 0=some 0:=by kernel_rfl
theorem ao2:U2 prog 29 1=some 1:=by kernel_rfl
theorem bf0:U2 prog 29 2=some 2:=by kernel_rfl
theorem ap3:tyF prog 30=some (1,false,24,[.slice none 0 0]):=by kernel_rfl
theorem J4:tyF prog 32=some (4,true,48,[e7 (0),e7 (0),e7 (0),.slice none 0 0]):=by kernel_rfl
theorem be9:U2 prog 32 0=some 0:=by kernel_rfl
theorem U7:U2 prog 32 1=some 1:=by kernel_rfl
theorem cf9:U2 prog 32 2=some 2:=by kernel_rfl
theorem R0:U2 prog 32 3=some 3:=by kernel_rfl
theorem au7:tyF prog 33=some (1,false,24,[.slice none 0 0]):=by kernel_rfl
theorem W2:tyF prog 35=some (2,true,32,[e7 (0),.slice none 0 0]):=by kernel_rfl
theorem br9:U2 prog 35 0=some 0:=by kernel_rfl
theorem P1:U2 prog 35 1=some 1:=by kernel_rfl
theorem ge2(w:World):(J2 prog 35).run prog w = .ok #[(0,1),(1,1)] w:=by kernel_rfl
theorem am8:tyF prog 36=some (1,false,24,[.slice none 0 0]):=by kernel_rfl
theorem J9:tyF prog 38=some (2,true,32,[e7 (0),.slice none 0 0]):=by kernel_rfl
theorem ag1:U2 prog 38 0=some 0:=by kernel_rfl
theorem K5:U2 prog 38 1=some 1:=by kernel_rfl
theorem fw6(w:World):(J2 prog 38).run prog w = .ok #[(0,1),(1,1)] w:=by kernel_rfl
theorem ab6:tyF prog 40=some (3,true,56,[e7 (0),.slice none 0 0,.slice none 0 0]):=by kernel_rfl
theorem dj4:U2 prog 40 0=some 0:=by kernel_rfl
theorem be8:U2 prog 40 1=some 2:=by kernel_rfl
theorem gj0(w:World):(J2 prog 40).run prog w = .ok #[(0,2),(2,1)] w:=by kernel_rfl
theorem L5:tyF prog 41=some (3,true,56,[e7 (0),.slice none 0 0,.slice none 0 0]):=by kernel_rfl
theorem be7:U2 prog 41 0=some 0:=by kernel_rfl
theorem cf8:U2 prog 41 1=some 2:=by kernel_rfl
theorem fw5(w:World):(J2 prog 41).run prog w = .ok #[(0,2),(2,1)] w:=by kernel_rfl
theorem ad0:tyF prog 43=some (4,true,64,[e7 (0),.slice none 0 0,e7 (0),.slice none 0 0]):=by kernel_rfl
theorem dj3:U2 prog 43 0=some 0:=by kernel_rfl
theorem dj2:U2 prog 43 1=some 2:=by kernel_rfl
theorem aj1:U2 prog 43 2=some 3:=by kernel_rfl
theorem ge1(w:World):(J2 prog 43).run prog w = .ok #[(0,2),(2,1),(3,1)] w:=by kernel_rfl
theorem V4:tyF prog 45=some (5,true,72,[e7 (0),.slice none 0 0,e7 (0),e7 (0),.slice none 0 0]):=by kernel_rfl
theorem dj1:U2 prog 45 1=some 2:=by kernel_rfl
theorem dj0:U2 prog 45 2=some 3:=by kernel_rfl
theorem aw5:U2 prog 45 3=some 4:=by kernel_rfl
theorem fw4(w:World):(J2 prog 45).run prog w = .ok #[(0,2),(2,1),(3,1),(4,1)] w:=by kernel_rfl
theorem H3:tyF prog 47=some (25,true,360,[e7 (0),e7 (0),e7 (0),e7 (0),e7 (0),e7 (0),.slice none 0 0,e7 (0),.slice none 0 0,e7 (0),.slice none 0 0,.slice none 0 0,e7 (0),.slice none 0 0,.slice none 0 0,e7 (0),.slice none 0 0,e7 (0),.slice none 0 0,e7 (0),.slice none 0 0,e7 (0),e7 (0),.slice none 0 0,e7 (0)]):=by kernel_rfl
theorem br8:U2 prog 47 0=some 0:=by kernel_rfl
theorem aw4:U2 prog 47 1=some 3:=by kernel_rfl
theorem ao1:U2 prog 47 2=some 7:=by kernel_rfl
theorem cf7:U2 prog 47 3=some 9:=by kernel_rfl
theorem cf6:U2 prog 47 4=some 12:=by kernel_rfl
theorem cf5:U2 prog 47 5=some 15:=by kernel_rfl
theorem cf4:U2 prog 47 6=some 19:=by kernel_rfl
theorem br7:U2 prog 47 7=some 24:=by kernel_rfl
theorem fw3(w:World):(J2 prog 47).run prog w = .ok #[(0,3),(3,4),(7,2),(9,3),(12,3),(15,4),(19,5),(24,1)] w:=by kernel_rfl
theorem z6:tyF prog 54=some (7,true,56,[e7 (0),e7 (0),e7 (0),e7 (0),e7 (0),e7 (0),e7 (0)]):=by kernel_rfl
theorem W8:U2 prog 54 0=some 0:=by kernel_rfl
theorem Q9:U2 prog 54 1=some 1:=by kernel_rfl
theorem L6:U2 prog 54 2=some 2:=by kernel_rfl
theorem H6:U2 prog 54 3=some 3:=by kernel_rfl
theorem br6:U2 prog 54 4=some 4:=by kernel_rfl
theorem be6:U2 prog 54 5=some 5:=by kernel_rfl
theorem be5:U2 prog 54 6=some 6:=by kernel_rfl
theorem J7:tyF prog 82=some (6,true,48,[e7 (0),e7 (0),e7 (0),e7 (0),e7 (0),e7 (0)]):=by kernel_rfl
theorem cf3:U2 prog 82 0=some 0:=by kernel_rfl
theorem ag0:U2 prog 82 1=some 1:=by kernel_rfl
theorem br5:U2 prog 82 5=some 5:=by kernel_rfl
theorem gi9(w:World):(J2 prog 82).run prog w = .ok #[(0,1),(1,1),(2,1),(3,1),(4,1),(5,1)] w:=by kernel_rfl
end Go.Sl
namespace Go.Sl
open Go.Proofs
theorem s9:tyF prog 105=some (2,true,16,[e7 (0),e7 (0)]):=by kernel_rfl
theorem N8:U2 prog 105 0=some 0:=by kernel_rfl
theorem N7:U2 prog 105 1=some 1:=by kernel_rfl
theorem fk9(w:World):(J2 prog 105).run prog w = .ok #[(0,1),(1,1)] w:=by kernel_rfl
theorem bv1:tyF prog 155=some (4,true,32,[e7 (0),e7 (0),e7 (0),e7 (0)]):=by kernel_rfl
theorem fu6:tyF prog 161=some (3,true,56,[e7 (0),.slice none 0 0,.slice none 0 0]):=by kernel_rfl
theorem co2:U2 prog 161 0=some 0:=by kernel_rfl
theorem fx1(w:World):(J2 prog 161).run prog w = .ok #[(0,3)] w:=by kernel_rfl
theorem fu5:tyF prog 163=some (3,true,56,[e7 (0),.slice none 0 0,.slice none 0 0]):=by kernel_rfl
theorem co1:U2 prog 163 0=some 0:=by kernel_rfl
theorem fx0(w:World):(J2 prog 163).run prog w = .ok #[(0,3)] w:=by kernel_rfl
theorem fu4:tyF prog 165=some (4,true,64,[e7 (0),.slice none 0 0,e7 (0),.slice none 0 0]):=by kernel_rfl
theorem co0:U2 prog 165 0=some 0:=by kernel_rfl
theorem fw9(w:World):(J2 prog 165).run prog w = .ok #[(0,4)] w:=by kernel_rfl
theorem fu3:tyF prog 167=some (5,true,72,[e7 (0),.slice none 0 0,e7 (0),e7 (0),.slice none 0 0]):=by kernel_rfl
theorem cn9:U2 prog 167 0=some 0:=by kernel_rfl
theorem fw8(w:World):(J2 prog 167).run prog w = .ok #[(0,5)] w:=by kernel_rfl
theorem fu2:tyF prog 169=some (15,true,248,[e7 (0),.slice none 0 0,.slice none 0 0,e7 (0),.slice none 0 0,.slice none 0 0,e7 (0),.slice none 0 0,e7 (0),.slice none 0 0,e7 (0),.slice none 0 0,e7 (0),e7 (0),.slice none 0 0]):=by kernel_rfl
theorem cn8:U2 prog 169 0=some 0:=by kernel_rfl
theorem cn7:U2 prog 169 1=some 3:=by kernel_rfl
theorem cn6:U2 prog 169 2=some 6:=by kernel_rfl
theorem cn5:U2 prog 169 3=some 10:=by kernel_rfl
theorem fw7(w:World):(J2 prog 169).run prog w = .ok #[(0,3),(3,3),(6,4),(10,5)] w:=by kernel_rfl
theorem bi5:tyF prog 181=some (1,false,8,[.pointer none]):=by kernel_rfl
theorem bi4:tyF prog 183=some (1,false,8,[.pointer none]):=by kernel_rfl
theorem ds9:tyF prog 193=some (64,true,512,[e7 (0),e7 (0),e7 (0),e7 (0),e7 (0),e7 (0),e7 (0),e7 (0),e7 (0),e7 (0),e7 (0),e7 (0),e7 (0),e7 (0),e7 (0),e7 (0),e7 (0),e7 (0),e7 (0),e7 (0),e7 (0),e7 (0),e7 (0),e7 (0),e7 (0),e7 (0),e7 (0),e7 (0),e7 (0),e7 (0),e7 (0),e7 (0),e7 (0),e7 (0),e7 (0),e7 (0),e7 (0),e7 (0),e7 (0),e7 (0),e7 (0),e7 (0),e7 (0),e7 (0),e7 (0),e7 (0),e7 (0),e7 (0),e7 (0),e7 (0),e7 (0),e7 (0),e7 (0),e7 (0),e7 (0),e7 (0),e7 (0),e7 (0),e7 (0),e7 (0),e7 (0),e7 (0),e7 (0),e7 (0)]):=by kernel_rfl
theorem bi3:tyF prog 198=some (1,false,24,[.slice none 0 0]):=by kernel_rfl
theorem L8:tyF prog 200=some (2,true,16,[e7 (0),e7 (0)]):=by kernel_rfl
theorem M3:tyF prog 207=some (1,false,8,[.int .u64 (0)]):=by kernel_rfl
theorem fu1:tyF prog 208=some (64,true,512,[.int .u64 (0),.int .u64 (0),.int .u64 (0),.int .u64 (0),.int .u64 (0),.int .u64 (0),.int .u64 (0),.int .u64 (0),.int .u64 (0),.int .u64 (0),.int .u64 (0),.int .u64 (0),.int .u64 (0),.int .u64 (0),.int .u64 (0),.int .u64 (0),.int .u64 (0),.int .u64 (0),.int .u64 (0),.int .u64 (0),.int .u64 (0),.int .u64 (0),.int .u64 (0),.int .u64 (0),.int .u64 (0),.int .u64 (0),.int .u64 (0),.int .u64 (0),.int .u64 (0),.int .u64 (0),.int .u64 (0),.int .u64 (0),.int .u64 (0),.int .u64 (0),.int .u64 (0),.int .u64 (0),.int .u64 (0),.int .u64 (0),.int .u64 (0),.int .u64 (0),.int .u64 (0),.int .u64 (0),.int .u64 (0),.int .u64 (0),.int .u64 (0),.int .u64 (0),.int .u64 (0),.int .u64 (0),.int .u64 (0),.int .u64 (0),.int .u64 (0),.int .u64 (0),.int .u64 (0),.int .u64 (0),.int .u64 (0),.int .u64 (0),.int .u64 (0),.int .u64 (0),.int .u64 (0),.int .u64 (0),.int .u64 (0),.int .u64 (0),.int .u64 (0),.int .u64 (0)]):=by kernel_rfl
end Go.Sl
namespace Go.Sl
open Go.Proofs
theorem c_{f:Nat}(h:V3 prog f=true:=by kernel_rfl):V3 prog f=true:=h
end Go.Sl
namespace Go.Sl
open Go.Proofs
theorem mixed:prog.follows .mixedOrders=true:=by kernel_rfl
end Go.Sl
namespace Go.Sl
open Go.Proofs
instance:ca7 prog 22 3:=⟨Ab⟩
instance:ap1 prog 29:=⟨⟨_,Tryz.underlying29⟩⟩
instance:ca7 prog 30 54:=⟨Ad⟩
instance:ap1 prog 32:=⟨⟨_,Tryz.underlying32⟩⟩
instance:ca7 prog 33 82:=⟨A3⟩
instance:ap1 prog 35:=⟨⟨_,Tryz.underlying35⟩⟩
instance:ca7 prog 36 105:=⟨Ax⟩
instance:ap1 prog 38:=⟨⟨_,Ez⟩⟩
instance:ap1 prog 40:=⟨⟨_,Tryz.underlying40⟩⟩
instance:ap1 prog 41:=⟨⟨_,Ey⟩⟩
instance:ap1 prog 43:=⟨⟨_,Tryz.underlying43⟩⟩
instance:ap1 prog 45:=⟨⟨_,Ex⟩⟩
instance:ap1 prog 47:=⟨⟨_,Ew⟩⟩
instance:ap1 prog 54:=⟨⟨_,Tryz.underlying54⟩⟩
instance:ap1 prog 82:=⟨⟨_,Tryz.underlying82⟩⟩
instance:ap1 prog 85:=⟨⟨_,Tryz.underlying85⟩⟩
instance:ap1 prog 105:=⟨⟨_,D9⟩⟩
instance:ca7 prog 115 117:=⟨Ce⟩
instance:ap1 prog 161:=⟨⟨_,Tryz.underlying161⟩⟩
instance:ap1 prog 163:=⟨⟨_,Tryz.underlying163⟩⟩
instance:ap1 prog 165:=⟨⟨_,Tryz.underlying165⟩⟩
instance:ap1 prog 167:=⟨⟨_,Tryz.underlying167⟩⟩
instance:ap1 prog 169:=⟨⟨_,Tryz.underlying169⟩⟩
instance:ca7 prog 182 181:=⟨D8⟩
instance:ca7 prog 184 183:=⟨D7⟩
instance:ca7 prog 189 22:=⟨Cq⟩
instance:ca7 prog 198 200:=⟨Bv⟩
instance:ca7 prog 205 207:=⟨Cp⟩
instance:ca7 prog 212 198:=⟨D6⟩
instance:ca7 prog 214 4:=⟨Tryz.underlying214⟩
instance:TyI prog 2 (1,false,8,[e7 (0)]):=⟨ty2⟩
instance:TyI prog 3 (1,false,8,[e7 (0)]):=⟨ef⟩
instance:TyI prog 4 (1,false,1,[.bool false]):=⟨ty4⟩
instance:TyI prog 5 (1,false,1,[.int .u8 (0)]):=⟨ty5⟩
instance:TyI prog 22 (1,false,24,[.slice none 0 0]):=⟨W4⟩
instance:TyI prog 29 (3,true,24,[e7 (0),e7 (0),e7 (0)]):=⟨da2⟩
instance:U1 prog 29 0 0:=⟨W9⟩
instance:U1 prog 29 1 1:=⟨ao2⟩
instance:U1 prog 29 2 2:=⟨bf0⟩
instance:PlI prog 29 #[(0,1),(1,1),(2,1)]:=⟨λ_=>by kernel_rfl⟩
instance:TyI prog 30 (1,false,24,[.slice none 0 0]):=⟨ap3⟩
instance:TyI prog 32 (4,true,48,[e7 (0),e7 (0),e7 (0),.slice none 0 0]):=⟨J4⟩
instance:U1 prog 32 0 0:=⟨be9⟩
instance:U1 prog 32 1 1:=⟨U7⟩
instance:U1 prog 32 2 2:=⟨cf9⟩
instance:U1 prog 32 3 3:=⟨R0⟩
instance:PlI prog 32 #[(0,1),(1,1),(2,1),(3,1)]:=⟨λ_=>by kernel_rfl⟩
instance:TyI prog 33 (1,false,24,[.slice none 0 0]):=⟨au7⟩
instance:TyI prog 35 (2,true,32,[e7 (0),.slice none 0 0]):=⟨W2⟩
instance:U1 prog 35 0 0:=⟨br9⟩
instance:U1 prog 35 1 1:=⟨P1⟩
instance:PlI prog 35 #[(0,1),(1,1)]:=⟨ge2⟩
instance:TyI prog 36 (1,false,24,[.slice none 0 0]):=⟨am8⟩
instance:TyI prog 38 (2,true,32,[e7 (0),.slice none 0 0]):=⟨J9⟩
instance:U1 prog 38 0 0:=⟨ag1⟩
instance:U1 prog 38 1 1:=⟨K5⟩
instance:PlI prog 38 #[(0,1),(1,1)]:=⟨fw6⟩
instance:TyI prog 40 (3,true,56,[e7 (0),.slice none 0 0,.slice none 0 0]):=⟨ab6⟩
instance:U1 prog 40 0 0:=⟨dj4⟩
instance:U1 prog 40 1 2:=⟨be8⟩
instance:PlI prog 40 #[(0,2),(2,1)]:=⟨gj0⟩
instance:TyI prog 41 (3,true,56,[e7 (0),.slice none 0 0,.slice none 0 0]):=⟨L5⟩
instance:U1 prog 41 0 0:=⟨be7⟩
instance:U1 prog 41 1 2:=⟨cf8⟩
instance:PlI prog 41 #[(0,2),(2,1)]:=⟨fw5⟩
instance:TyI prog 43 (4,true,64,[e7 (0),.slice none 0 0,e7 (0),.slice none 0 0]):=⟨ad0⟩
instance:U1 prog 43 0 0:=⟨dj3⟩
instance:U1 prog 43 1 2:=⟨dj2⟩
instance:U1 prog 43 2 3:=⟨aj1⟩
instance:PlI prog 43 #[(0,2),(2,1),(3,1)]:=⟨ge1⟩
instance:TyI prog 45 (5,true,72,[e7 (0),.slice none 0 0,e7 (0),e7 (0),.slice none 0 0]):=⟨V4⟩
instance:U1 prog 45 0 0:=⟨by kernel_rfl⟩
instance:U1 prog 45 1 2:=⟨dj1⟩
instance:U1 prog 45 2 3:=⟨dj0⟩
instance:U1 prog 45 3 4:=⟨aw5⟩
instance:PlI prog 45 #[(0,2),(2,1),(3,1),(4,1)]:=⟨fw4⟩
instance:TyI prog 47 (25,true,360,[e7 (0),e7 (0),e7 (0),e7 (0),e7 (0),e7 (0),.slice none 0 0,e7 (0),.slice none 0 0,e7 (0),.slice none 0 0,.slice none 0 0,e7 (0),.slice none 0 0,.slice none 0 0,e7 (0),.slice none 0 0,e7 (0),.slice none 0 0,e7 (0),.slice none 0 0,e7 (0),e7 (0),.slice none 0 0,e7 (0)]):=⟨H3⟩
instance:U1 prog 47 0 0:=⟨br8⟩
instance:U1 prog 47 1 3:=⟨aw4⟩
instance:U1 prog 47 2 7:=⟨ao1⟩
instance:U1 prog 47 3 9:=⟨cf7⟩
instance:U1 prog 47 4 12:=⟨cf6⟩
instance:U1 prog 47 5 15:=⟨cf5⟩
instance:U1 prog 47 6 19:=⟨cf4⟩
instance:U1 prog 47 7 24:=⟨br7⟩
instance:PlI prog 47 #[(0,3),(3,4),(7,2),(9,3),(12,3),(15,4),(19,5),(24,1)]:=⟨fw3⟩
instance:TyI prog 54 (7,true,56,[e7 (0),e7 (0),e7 (0),e7 (0),e7 (0),e7 (0),e7 (0)]):=⟨z6⟩
instance:U1 prog 54 0 0:=⟨W8⟩
instance:U1 prog 54 1 1:=⟨Q9⟩
instance:U1 prog 54 2 2:=⟨L6⟩
instance:U1 prog 54 3 3:=⟨H6⟩
instance:U1 prog 54 4 4:=⟨br6⟩
instance:U1 prog 54 5 5:=⟨be6⟩
instance:U1 prog 54 6 6:=⟨be5⟩
instance:PlI prog 54 #[(0,1),(1,1),(2,1),(3,1),(4,1),(5,1),(6,1)]:=⟨λ_=>by kernel_rfl⟩
instance:TyI prog 82 (6,true,48,[e7 (0),e7 (0),e7 (0),e7 (0),e7 (0),e7 (0)]):=⟨J7⟩
instance:U1 prog 82 0 0:=⟨cf3⟩
instance:U1 prog 82 1 1:=⟨ag0⟩
instance:U1 prog 82 2 2:=⟨by kernel_rfl⟩
instance:U1 prog 82 3 3:=⟨by kernel_rfl⟩
instance:U1 prog 82 4 4:=⟨by kernel_rfl⟩
instance:U1 prog 82 5 5:=⟨br5⟩
instance:PlI prog 82 #[(0,1),(1,1),(2,1),(3,1),(4,1),(5,1)]:=⟨gi9⟩
instance:TyI prog 85 (2,true,32,[.slice none 0 0,e7 (0)]):=⟨by kernel_rfl⟩
instance:U1 prog 85 0 0:=⟨by kernel_rfl⟩
instance:U1 prog 85 1 1:=⟨by kernel_rfl⟩
instance:PlI prog 85 #[(0,1),(1,1)]:=⟨λ_=>by kernel_rfl⟩
instance:TyI prog 105 (2,true,16,[e7 (0),e7 (0)]):=⟨s9⟩
instance:U1 prog 105 0 0:=⟨N8⟩
instance:U1 prog 105 1 1:=⟨N7⟩
instance:PlI prog 105 #[(0,1),(1,1)]:=⟨fk9⟩
instance:TyI prog 155 (4,true,32,[e7 (0),e7 (0),e7 (0),e7 (0)]):=⟨bv1⟩
instance:TyI prog 161 (3,true,56,[e7 (0),.slice none 0 0,.slice none 0 0]):=⟨fu6⟩
instance:U1 prog 161 0 0:=⟨co2⟩
instance:PlI prog 161 #[(0,3)]:=⟨fx1⟩
instance:TyI prog 163 (3,true,56,[e7 (0),.slice none 0 0,.slice none 0 0]):=⟨fu5⟩
instance:U1 prog 163 0 0:=⟨co1⟩
instance:PlI prog 163 #[(0,3)]:=⟨fx0⟩
instance:TyI prog 165 (4,true,64,[e7 (0),.slice none 0 0,e7 (0),.slice none 0 0]):=⟨fu4⟩
instance:U1 prog 165 0 0:=⟨co0⟩
instance:PlI prog 165 #[(0,4)]:=⟨fw9⟩
instance:TyI prog 167 (5,true,72,[e7 (0),.slice none 0 0,e7 (0),e7 (0),.slice none 0 0]):=⟨fu3⟩
instance:U1 prog 167 0 0:=⟨cn9⟩
instance:PlI prog 167 #[(0,5)]:=⟨fw8⟩
instance:TyI prog 169 (15,true,248,[e7 (0),.slice none 0 0,.slice none 0 0,e7 (0),.slice none 0 0,.slice none 0 0,e7 (0),.slice none 0 0,e7 (0),.slice none 0 0,e7 (0),.slice none 0 0,e7 (0),e7 (0),.slice none 0 0]):=⟨fu2⟩
instance:U1 prog 169 0 0:=⟨cn8⟩
instance:U1 prog 169 1 3:=⟨cn7⟩
instance:U1 prog 169 2 6:=⟨cn6⟩
instance:U1 prog 169 3 10:=⟨cn5⟩
instance:PlI prog 169 #[(0,3),(3,3),(6,4),(10,5)]:=⟨fw7⟩
instance:TyI prog 181 (1,false,8,[.pointer none]):=⟨bi5⟩
instance:TyI prog 183 (1,false,8,[.pointer none]):=⟨bi4⟩
instance:TyI prog 193 (64,true,512,[e7 (0),e7 (0),e7 (0),e7 (0),e7 (0),e7 (0),e7 (0),e7 (0),e7 (0),e7 (0),e7 (0),e7 (0),e7 (0),e7 (0),e7 (0),e7 (0),e7 (0),e7 (0),e7 (0),e7 (0),e7 (0),e7 (0),e7 (0),e7 (0),e7 (0),e7 (0),e7 (0),e7 (0),e7 (0),e7 (0),e7 (0),e7 (0),e7 (0),e7 (0),e7 (0),e7 (0),e7 (0),e7 (0),e7 (0),e7 (0),e7 (0),e7 (0),e7 (0),e7 (0),e7 (0),e7 (0),e7 (0),e7 (0),e7 (0),e7 (0),e7 (0),e7 (0),e7 (0),e7 (0),e7 (0),e7 (0),e7 (0),e7 (0),e7 (0),e7 (0),e7 (0),e7 (0),e7 (0),e7 (0)]):=⟨ds9⟩
instance:TyI prog 198 (1,false,24,[.slice none 0 0]):=⟨bi3⟩
instance:TyI prog 200 (2,true,16,[e7 (0),e7 (0)]):=⟨L8⟩
instance:TyI prog 207 (1,false,8,[.int .u64 (0)]):=⟨M3⟩
instance:TyI prog 208 (64,true,512,[.int .u64 (0),.int .u64 (0),.int .u64 (0),.int .u64 (0),.int .u64 (0),.int .u64 (0),.int .u64 (0),.int .u64 (0),.int .u64 (0),.int .u64 (0),.int .u64 (0),.int .u64 (0),.int .u64 (0),.int .u64 (0),.int .u64 (0),.int .u64 (0),.int .u64 (0),.int .u64 (0),.int .u64 (0),.int .u64 (0),.int .u64 (0),.int .u64 (0),.int .u64 (0),.int .u64 (0),.int .u64 (0),.int .u64 (0),.int .u64 (0),.int .u64 (0),.int .u64 (0),.int .u64 (0),.int .u64 (0),.int .u64 (0),.int .u64 (0),.int .u64 (0),.int .u64 (0),.int .u64 (0),.int .u64 (0),.int .u64 (0),.int .u64 (0),.int .u64 (0),.int .u64 (0),.int .u64 (0),.int .u64 (0),.int .u64 (0),.int .u64 (0),.int .u64 (0),.int .u64 (0),.int .u64 (0),.int .u64 (0),.int .u64 (0),.int .u64 (0),.int .u64 (0),.int .u64 (0),.int .u64 (0),.int .u64 (0),.int .u64 (0),.int .u64 (0),.int .u64 (0),.int .u64 (0),.int .u64 (0),.int .u64 (0),.int .u64 (0),.int .u64 (0),.int .u64 (0)]):=⟨fu1⟩
end Go.Sl
namespace Go.Sl
open Go.Proofs
set_option maxRecDepth 4000
variable{i n:Int}{b:Nat}{lv:Value}{ls:List Int}
variable {κ:Ctx}{I:List Item}
attribute [local irreducible] W G V D A j7 Eff
abbrev ao9(b:Nat)(lv:Value)(i:Int):Item:=e8 b [lv,e7 i] 85
theorem ga9{k:Int}(h1:1<=k)(h2:k<=1000000000000):eu prog κ 38 [e7 n,e7 k] I (λr J=>∃x:Int,r=e7 x/\(0<=x/\x<k)/\I=J):=by
 have q1:=Int.tmod_lt_of_pos n (b:=k) om
 have q2:=Int.lt_tmod_of_pos n (b:=k) om
 refine Ce2 Tryz.func38 C C<|Z ?_
 refine Gr (j7.rem C C om)<|Z ?_
 refine Gr (j7.rem C C om)<|Z ?_
 have M:=Int.tmod_nonneg k (a:=Int.tmod n k+k) om
 have t2:=Int.tmod_lt_of_pos (Int.tmod n k+k) (b:=k) om
 exact Ak C C _ Ah ⟨_,rfl,⟨M,t2⟩,rfl⟩
theorem dp8(hl:Sl κ (ao9 b lv i::I) lv ls)(h0:0<=i)(hn:n<=1000000000000):eu prog κ 13 [(pt b),e7 n] (e8 b [lv,e7 i] 85::I) (λr J=>∃y:Int×Int,(r=e7 y.1/\(0<=y.1/\(1<=n->y.1<n)/\(n<1->y.1=0))/\0<=y.2)/\J=[]++ao9 b lv y.2::I):=by
 refine Bw hl.le λaa=>?_
 refine Ce2 Tryz.func13 C C<|Z ?_
 refine A9 mixed<|Bx (e8 b [lv,e7 i] 85::I) 14<|Z ?_
 refine Dk (d:=8) C (λg8=>Z ?_)<|λg8=>?_
 ·exact Ak C C _ Ah ⟨(0,i),⟨rfl,⟨Hn _,by intro _;show (0:Int)<n;omega,λ_=>rfl⟩,h0⟩,rfl⟩
 refine Dro 3 C (Aq C)<|Z ?_
 refine Al C (λM=>Z ?_)<|λM=>?_
 ·exact Ak C C _ Ah ⟨(0,i),⟨rfl,⟨Hn _,by intro _;show (0:Int)<n;omega,λ_=>rfl⟩,h0⟩,rfl⟩
 refine Bc<|Ao<|Ay<|A9 mixed<|Bx (e8 b [lv,e7 i] 85::I) 11<|Z ?_
 refine Ge0 (Fc ef)<|Z ?_
 refine G.e (Ac c_ C C<|ga9 om om) ?_
 rintro _ _ ⟨_,_,⟨x1,rfl,ab,rfl⟩,rfl,rfl⟩
 refine Z ?_
 exact Ak C C _ Ah ⟨(x1,i+1),⟨rfl,⟨by omega,by omega,by omega⟩,by show 0<=i+1;omega⟩,rfl⟩
theorem R1{F:Item->List Item}(M:AtF I (ao9 b lv i) F)(hl:Sl κ I lv ls)(h0:0<=i)(hn:n<=1000000000000):eu prog κ 13 [(pt b),e7 n] I λr J=>∃x i',r=e7 x/\(0<=x/\(1<=n->x<n)/\(n<1->x=0))/\0<=i'/\J=F (ao9 b lv i'):=
 (Fo (Z:=λ_=>[]) (X:=λy:Int×Int=>ao9 b lv y.2) M λ_ hJ _=>dp8 (hl.fit hJ) h0 hn).mono λ_ _ ⟨y,⟨h1,h2,h3⟩,h4⟩=>⟨y.1,y.2,h1,h2,h3,h4⟩
theorem ga8{a:Option Addr}{n c:Nat} :
    eu prog κ 12 [.slice a n c] I (λr J=>∃b,r = (pt b)/\J=ao9 b (.slice a n c) 0::I):=by
 refine Ce1 Tryz.func12 C C<|Z ?_
 exact Ge1 (Au (cs:=[_,_]) C C C) λb1=>Ga C<|Ar<|B2<|Ak C C _ Ah ⟨b1,rfl,rfl⟩
theorem bt5{v:Value}{xs:List Int}(hl:Sl κ I v xs)(x:Int):eu prog κ 141 [v,e7 x] I (λr J=>r = .bool (decide (x∈xs))/\I=J):=by
 refine Bw hl.le λaa=>?_
 refine Ce2 Tryz.func141 C C<|Z ?_
 refine Dh (σ:=Nat) (λs=>[(9,e7 ((s:Nat):Int))]) (λ_=>[]) (λs=>(s<=xs.length)/\(∀j,j<s->e_ xs j≠x)) (λs=>xs.length - s) 0 (show ((0:Nat)<=xs.length)/\(∀j,j<(0:Nat)->e_ xs j≠x) from ⟨om,E9⟩) ?_
 rintro k hp
 obtain ⟨hk,hn⟩:=hp
 refine Z ?_
 refine Al C (λc10=>Z ?_)<|λc10=>Z ?_
 ·refine Al C (λM=>Z ?_) (λM=>Z ?_)
  ·have hm:x∈xs:=by subst M;exact Bn om om
   exact Ak C C _ Ah ⟨by rw [As hm],rfl⟩
  exact Bt ((k+1)) ⟨om,(Dp hn M)⟩
 have hm:x∉xs:=av6 hn om
 exact Ak C C _ Ah ⟨by rw [D_ hm],rfl⟩
def aj7(xs:List Int)(nodes:Int):Prop:=∀j,j<xs.length->(0<=e_ xs j/\e_ xs j<nodes)/\(0<j->e_ xs ((j:Int) - 1)<e_ xs j)
instance (xs:List Int) (nodes:Int):Decidable (aj7 xs nodes):=by unfold aj7;infer_instance
end Go.Sl
namespace Go.Sl
open Go.Proofs
set_option maxRecDepth 4000
end Go.Sl
namespace Go.Sl
open Go.Proofs
set_option maxRecDepth 4000
variable {κ:Ctx}{I:List Item}
attribute [local irreducible] W G V D A j7 Eff
theorem cq8(n:Int):eu prog κ 179 [e7 n] I (λr J=>r = .bool false/\I=J):=by
 refine Ce1 Tryz.func179 C C<|Z ?_
 exact Ak C C I Ah ⟨by simp,rfl⟩
theorem Z5(m n:Int):eu prog κ 162 [e7 m,e7 n] I (λr J=>r=e7 (bu4 m n)/\I=J):=by
 refine Ce2 Tryz.func162 C C<|Z ?_
 refine Gc0 (Ac c_ C C<|cq8 m)<|Z ?_
 refine Gc0 (Ac c_ C C<|cq8 n)<|Z ?_
 refine Al C (λM=>Z ?_)<|λM=>Z ?_
 ·exact Ak C C I Ah ⟨by unfold bu4;rw [B_ M],rfl⟩
 refine Al C (λaa=>Z ?_)<|λaa=>Z ?_
 ·exact Ak C C I Ah ⟨by unfold bu4;rw [An M,B_ aa],rfl⟩
 exact Ak C C I Ah ⟨by unfold bu4;rw [An M,An aa],rfl⟩
theorem fr5{v:Value}{xs:List Int}(hl:Sl κ I v xs):eu prog κ 161 [v] I (λr J=>r=e7 (orL xs)/\I=J):=by
 refine Bw hl.le λaa=>?_
 refine Ce1 Tryz.func161 C C<|Z ?_
 refine Dh (σ:=Nat) (λs=>[(8,e7 ((s:Nat):Int))]) (λ_=>[]) (λs=>(s<=xs.length)/\(orL xs=orL (xs.drop s))) (λs=>xs.length - s) 0 (show ((0:Nat)<=xs.length)/\(orL xs=orL (xs.drop (0:Nat))) from ⟨om,rfl⟩) ?_
 rintro k hp
 obtain ⟨hk,ho⟩:=hp
 refine Z ?_
 refine Al C (λc9=>Z ?_)<|λc9=>Z ?_
 ·refine Al C (λM=>Z ?_) (λM=>Z ?_)
  ·exact Ak C C I Ah ⟨by rw [ho,dv4 om M],rfl⟩
  exact Bt ((k+1)) ⟨om,(ho.trans<|dv5 om<|Decidable.of_not_not M)⟩
 exact Ak C C I Ah ⟨by rw [ho,fm2 om],rfl⟩
end Go.Sl
namespace Go.Sl
open Go.Proofs
set_option maxRecDepth 4000
end Go.Sl
namespace Go.Sl
open Go.Proofs
set_option maxRecDepth 4000
variable {κ:Ctx}{I:List Item}
attribute [local irreducible] W G V D A j7 Eff
theorem ta5{p:Prop}(h:p:=by first|exact Gb Value.bool (Ft.2<|by unfold Pt.lt;omega)|exact Gb Value.bool (As<|by unfold Pt.lt;omega).symm|exact Gb Value.bool (D_<|by unfold Pt.lt;omega).symm):p:=h
theorem ag7(a c:Pt):eu prog κ 98 [.agg #[e7 (a.u),e7 (a.v)],.agg #[e7 (c.u),e7 (c.v)]] I (λr J=>r = .bool (decide (Pt.lt a c))/\I=J):=by
 refine Ce2 Tryz.func98 C C ?_
 refine Am<|Ge1 (Au (cs:=[_,_]) C C C) λb1=>Ge1 (Au (cs:=[_,_]) C C C) λb2=>Z ?_
 refine A1 (d:=10) C (λaa=>Z ?_)<|λaa=>Z ?_
 ·exact Ak C C I Ah ⟨ta5,rfl⟩
 refine A1 (d:=16) C (λM=>Z ?_)<|λM=>Z ?_
 ·exact Ak C C I Ah ⟨ta5,rfl⟩
 exact Ak C C I Ah ⟨ta5,rfl⟩
theorem cz9{nd:Int}{v:Value}{es:List Pt}(hl:Sl κ I v es)(M:s8 nd es):eu prog κ 51 [.agg #[e7 nd,v]] I (λr J=>r=e7 0/\I=J):=by
 refine Bw hl.le λaj=>?_
 refine Ce1 Tryz.func51 C C ?_
 refine Am<|Ge1 (Au (cs:=[_,_]) C C C) λb1=>Z ?_
 refine A1 (d:=8) C (λg8=>?_)<|λg8=>Z ?_
 ·exact absurd M.rng om
 refine Al C (λc12=>?_)<|λc12=>Z ?_
 ·exact absurd M.rng om
 refine Dh (σ:=Nat) (λs=>[(16,e7 ((s:Nat):Int))]) (λ_=>[]) (λs=>(s<=es.length)) (λs=>es.length - s) 0 (show ((0:Nat)<=es.length) from om) ?_
 rintro k hp
 have hk:=hp
 refine Z ?_
 refine Al C (λad=>Z ?_)<|λad=>Z ?_
 ·refine Ge1 (Aj s9 C) λb2=>Ga C (Ge0 (Cr s9)<|Z ?_)
  refine A1 (d:=24) C (λai=>?_)<|λai=>Z ?_
  ·exact absurd (M.at (k:=k) om) om
  refine A1 (d:=31) C (λab=>?_)<|λab=>Z ?_
  ·exact absurd (M.at (k:=k) om) om
  refine Al C (λae=>?_)<|λae=>?_
  ·exact absurd (M.at (k:=k) om) om
  refine Bc<|Ao<|Ay<|A9 mixed<|Bx (e8 b2 [e7 ((e_ es k).u),e7<|(e_ es k).v] 105::e8 b1 [e7 nd,v] 38::I) 13<|Z ?_
  refine Dk (d:=40) C (λah=>Z ?_)<|λah=>?_
  ·refine Ds1 10 (Sc0 C (Ac c_ C C<|ag7 (e_ es<|(k:Int) - 1)<|e_ es k)<|Z ?_)
   refine Al C (λaa=>?_)<|λaa=>Z ?_
   ·exact absurd (M.prev (k:=k) om om) aa
   exact Bt ((k+1)) om
  refine Dpo 3 C<|Z ?_
  exact Bt ((k+1)) om
 exact Ak C C I Ah ⟨rfl,rfl⟩
end Go.Sl
namespace Go.Sl
open Go.Proofs
set_option maxRecDepth 4000
end Go.Sl
namespace Go.Sl
open Go.Proofs
set_option maxRecDepth 4000
variable{u v:Value}{xs ys:List Int}
variable {κ:Ctx}{I:List Item}
attribute [local irreducible] W G V D A j7 Eff
def bm8:List Int->List Int->Int
 |[],[]=>0
 |[],_::_=> -1
 |_::_,[]=>1
 |x::xs,y::ys=>if y<x then 1 else if x<y then -1 else bm8 xs ys
theorem dm4:∀xs ys,bm8 xs ys=0↔xs=ys
 |[],[]=>by simp [bm8]
 |[],_::_=>by simp [bm8]
 |_::_,[]=>by simp [bm8]
 |x::xs,y::ys=>by
  simp only [bm8]
  split
  ·simp;omega
  split
  ·simp;omega
  rw [dm4 xs ys]
  have:x=y:=by omega
  simp [this]
theorem dm5(xs ys:List Int)(k:Nat)(M:k<xs.length)(hy:k<ys.length)(h1:¬e_ ys k<e_ xs k)(h2:¬e_ xs k<e_ ys k):bm8 (xs.drop k) (ys.drop k)=bm8 (xs.drop (k+1)) (ys.drop (k+1)):=by
 rw [Du xs k M,Du ys k hy]
 simp only [bm8]
 rw [An h1,An h2]
theorem bm7(xs ys:List Int)(k:Nat)(M:k<xs.length)(h:ys.length<=k\/(k<ys.length/\e_ ys k<e_ xs k)):bm8 (xs.drop k) (ys.drop k)=1:=by
 rw [Du xs k M]
 rcases h with h|⟨hy,h⟩
 ·rw [Hb h];rfl
 rw [Du ys k hy];simp only [bm8];rw [B_ h]
theorem cv1(xs ys:List Int)(k:Nat)(M:k<xs.length)(hy:k<ys.length)(h1:¬e_ ys k<e_ xs k)(h:e_ xs k<e_ ys k):bm8 (xs.drop k) (ys.drop k) = -1:=by
 rw [Du xs k M,Du ys k hy];simp only [bm8];rw [An h1,B_ h]
theorem cp1(xs ys:List Int)(k:Nat)(M:xs.length<=k):bm8 (xs.drop k) (ys.drop k)=if k<ys.length then -1 else 0:=by
 rw [Hb M]
 split
 ·rename_i h;rw [Du ys k h];rfl
 rename_i h;rw [Hb om];rfl
theorem fj3(hu:Sl κ I u xs)(hv:Sl κ I v ys):eu prog κ 25 [u,v] I (λr J=>r=e7 (bm8 xs ys)/\I=J):=by
 refine Bw hu.le λah=>?_
 refine Bw hv.le λad=>?_
 refine Ce2 Tryz.func25 C C<|Z ?_
 refine Dh (σ:=Nat) (λs=>[(8,e7 ((s:Nat):Int))]) (λ_=>[]) (λs=>(s<=xs.length)/\(bm8 xs ys=bm8 (xs.drop s) (ys.drop s))) (λs=>xs.length - s) 0 (show ((0:Nat)<=xs.length)/\(bm8 xs ys=bm8 (xs.drop (0:Nat)) (ys.drop (0:Nat))) from ⟨om,rfl⟩) ?_
 rintro k hp
 obtain ⟨hk,M⟩:=hp
 refine Z ?_
 refine Al C (λc9=>Z ?_)<|λc9=>Z ?_
 ·refine A9 mixed (Bx I 16<|Z ?_)
  refine Dk (d:=16) C (λaa=>Z ?_)<|λaa=>?_
  ·exact Ak C C _ Ah ⟨by rw [M,bm7 xs ys k om<|.inl om],rfl⟩
  refine Dro 5 C (Aq C)<|Z ?_
  refine Al C (λc11=>Z ?_)<|λc11=>?_
  ·exact Ak C C _ Ah ⟨by rw [M,bm7 xs ys k om<|.inr ⟨by omega,by omega⟩],rfl⟩
  refine Ay<|A9 mixed<|Bx I 10<|Z ?_
  refine Al C (λab=>Z ?_)<|λab=>Z ?_
  ·exact Ak C C _ Ah ⟨by rw [M,cv1 xs ys k om om om om],rfl⟩
  exact Bt ((k+1)) ⟨om,(M.trans<|dm5 xs ys k om om om om)⟩
 refine Al C (λae=>Z ?_)<|λae=>Z ?_
 ·exact Ak C C _ Ah ⟨by rw [M,cp1 xs ys k om,B_ om],rfl⟩
 exact Ak C C _ Ah ⟨by rw [M,cp1 xs ys k om,An om],rfl⟩
theorem do4(hu:Sl κ I u xs)(hv:Sl κ I v ys):eu prog κ 120 [u,v] I (λr J=>r = .bool (decide (xs=ys))/\I=J):=by
 refine Ce2 Tryz.func120 C C<|Z ?_
 refine A1 (d:=10) C (λM=>Z ?_)<|λM=>Z ?_
 ·refine Dj (Cf C C C) (Ac c_ C C<|fj3 (A4 hu)<|A4 hv) ?_
  rintro _ _ ⟨_,_,⟨rfl,rfl⟩,rfl,rfl⟩
  refine Z ?_
  have hb:decide (bm8 xs ys=0)=decide (xs=ys):=by rw [Ft];exact dm4 xs ys
  exact Ak C C _ Ah ⟨by rw [hb],rfl⟩
 have hb:¬xs=ys:=λe=>by subst e;exact absurd rfl M
 exact Ak C C _ Ah ⟨by rw [D_ hb],rfl⟩
end Go.Sl
