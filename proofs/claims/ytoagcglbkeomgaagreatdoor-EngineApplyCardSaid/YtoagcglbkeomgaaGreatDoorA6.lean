/- A part of the proofs of statements of this seat: contracts of functions, and the plain laws that they lean on. No conditions. -/
import Derived.Test.YtoagcglbkeomgaaGreatDoorA5
import Derived.LoopN
import Derived.Test.YtoagcglbkeomgaaGreatDoorProg
set_option linter.unusedVariables false
set_option linter.unusedSimpArgs false
set_option linter.unusedSectionVars false
open Go.Proofs.Tryz (prog)
namespace Go.Sl
theorem df3{ord:List Int}{m:Nat}(hn:ord.Nodup)(hl:ord.length=m)(M:∀x∈ord,0<=x/\x<m){j:Int}(h0:0<=j)(h1:j<m):j∈ord:=by
 refine Gg λhj=>?_
 have h2:(j::ord).Nodup:=Jb.2 ⟨hj,hn⟩
 have h3:∀x∈j::ord,x∈(List.range m).map λk=>((k:Nat):Int):=λx hx=>by
  have aa:0<=x/\x<m:=by
   rcases F_.1 hx with rfl|hx
   ·exact ⟨h0,h1⟩
   exact M x hx
  exact H1.2 ⟨x.toNat,Jd.2<|by omega,by omega⟩
 have h4:=Ho h2 h3
 simp at h4;omega
section
variable {tri:List (List Pt)}{num ord:List Int}
def da1(tri:List (List Pt))(i:Int):List (Int×Int):=(e_ tri i).map λp=>(p.u,p.v)
theorem bz4(X:Int->Bool)(i:Int):cc8 (da1 tri) X i=((e_ tri i).filter λp=>X p.u&&X p.v).length:=by
 unfold cc8 da1
 rw [Le,Ge]
 rfl
theorem ab2.mono(h:ab2 tri num ord):∀(m n:Nat),n+m<ord.length->e_ num (e_ ord n)<=e_ num (e_ ord ((n+m:Nat):Int))
 |0,n,_=>Hp _
 |m+1,n,hm=>Ld (ab2.mono h m n<|by omega) (h.asc (n+m) hm)
theorem bv3(hG:cw2 tri)(h:ab2 tri num ord):bu3 (λi:Int=>0<=i/\i<tri.length) (da1 tri) λi=>(e_ num i).toNat:=by
 have hall:∀j:Int,0<=j->j<tri.length->∃n:Nat,n<ord.length/\e_ ord n=j:=λj h0 h1=>ar2 (df3 h.nodup h.fs6 h.rng h0 h1)
 intro i hi k
 constructor
 ·intro hk
  refine ⟨λj=>decide<|(0<=j/\j<(tri.length:Int))/\k<=(e_ num j).toNat,⟨λj hj=>(Fu hj).1,λj hj=>?_⟩,As ⟨hi,hk⟩⟩
  obtain ⟨hj1,hj2⟩:=Fu hj
  obtain ⟨n,hn,e⟩:=hall j hj1.1 hj1.2
  have hh:=h.high n hn
  rw [e] at hh
  rw [bz4]
  have hm:((e_ tri j).filter λp=>decide<|e_ num j<=e_ num p.u/\e_ num j<=e_ num p.v).length<=((e_ tri j).filter λp=>decide ((0<=p.u/\p.u<(tri.length:Int))/\k<=(e_ num p.u).toNat)&&decide ((0<=p.v/\p.v<(tri.length:Int))/\k<=(e_ num p.v).toNat)).length:=J2 λp hp hx=>by
   have h2:=Fu hx
   have h3:=(hG.rng j hj1.1 hj1.2 p hp).1
   exact L8.2 ⟨As ⟨⟨h3.1,h3.2.1⟩,by omega⟩,As ⟨h3.2.2,by omega⟩⟩
  omega
 rintro ⟨X,hX,hXi⟩
 obtain ⟨m,hm,em⟩:=hall i hi.1 hi.2
 -- the first of X in the order
 have hex:∃n,n<=m/\X (e_ ord n)=true/\∀l,l<n->X (e_ ord l)=false:=by
  have:∀q:Nat,∀m,m<=q->X (e_ ord m)=true->∃n,n<=m/\X (e_ ord n)=true/\∀l,l<n->X (e_ ord l)=false:=λq=>by
   induction q with
   |zero=>intro m hm hx;exact ⟨m,Gi _,hx,λl hl=>by omega⟩
   |succ q ih=>
    intro m hm hx
    by_cases hc:∃l,l<m/\X (e_ ord l)=true
    ·obtain ⟨l,hl,hlx⟩:=hc
     obtain ⟨n,h1,h2,h3⟩:=ih l (by omega) hlx
     exact ⟨n,by omega,h2,h3⟩
    refine ⟨m,Gi _,hx,λl hl=>?_⟩
    cases e:X (e_ ord l) with
    |false=>rfl
    |true=>exact absurd ⟨l,hl,e⟩ hc
  exact this m m (Gi _)<|by rw [em];exact hXi
 obtain ⟨n,hn,hnx,hfirst⟩:=hex
 have h1:=hX.deg _ hnx
 rw [bz4] at h1
 have hr:=h.rng _ (at_mem (xs:=ord) (i:=(n:Int)) (by omega)<|by omega)
 have h2:((e_ tri<|e_ ord n).filter λp=>X p.u&&X p.v).length<=((e_ tri<|e_ ord n).filter λp=>decide<|p.u∈List.drop (n+1) ord/\p.v∈List.drop (n+1) ord).length:=J2 λp hp hx=>by
  have h3:=hG.rng _ hr.1 hr.2 p hp
  have key:∀z:Int,X z=true->0<=z->z<tri.length->z≠e_ ord n->z∈List.drop (n+1) ord:=λz hz z0 z1 zne=>by
   obtain ⟨l,hl,el⟩:=hall z z0 z1
   have hln:¬l<n:=λhlt=>by have:=hfirst l hlt;rw [el,hz] at this;cases this
   have hln2:l≠n:=λe=>zne (by rw [←el,e])
   rw [Jz]
   refine ⟨l - (n+1),by rw [Gb];omega,?_⟩
   rw [Lz,←el,L3 ord l hl]
   congr 1;omega
  exact As ⟨key _ (L8.1 hx).1 h3.1.1 h3.1.2.1 h3.2.2.1,key _ (L8.1 hx).2 h3.1.2.2.1 h3.1.2.2.2 h3.2.2.2⟩
 have h4:=h.later n (by omega)
 have h5:=h.mono (m - n) n (by omega)
 rw [show n+(m - n)=m by omega,em] at h5
 show k<=(e_ num i).toNat
 omega
end
section
variable {α β:Type}{E:α->Prop}{F:β->Prop}{tri:α->List (α×α)}{tri':β->List (β×β)}{t:β->Nat}
theorem bu3.move(h:bu3 F tri' t)(f:α->β)(hf:∀e,E e->F (f e))(ab:∀e e',E e->E e'->f e=f e'->e=e')(an:∀b,F b->∃e,E e/\f e=b)
  (hE:∀e,E e->∀p∈tri e,E p.1/\E p.2) (ah:∀e,E e->tri' (f e)=(tri e).map λp=>(f p.1,f p.2)):bu3 E tri λe=>t (f e):=by
 have aa:∀(X:α->Bool) (Y:β->Bool) e,E e->(∀e',E e'->Y (f e')=X e')->cc8 tri' Y (f e)=cc8 tri X e:=λX Y e he ae=>by
  unfold cc8
  rw [ah e he,Le,Ge]
  congr 1
  refine H_ λp hp=>?_
  have:=hE e he p hp
  show (Y (f p.1)&&Y (f p.2))=_
  rw [ae _ this.1,ae _ this.2]
 intro e he k
 rw [h (f e) (hf e he) k]
 constructor
 ·rintro ⟨Y,hY,ak⟩
  refine ⟨λe'=>Y (f e') && @decide (E e') (Classical.propDecidable _),⟨λe' h'=> @Fu _ (Classical.propDecidable _) (L8.1 h').2,λe' h'=>?_⟩,L8.2 ⟨ak, @As _ (Classical.propDecidable _) he⟩⟩
  obtain ⟨h1,h2⟩:=L8.1 h'
  have M:= @Fu _ (Classical.propDecidable _) h2
  rw [←aa _ Y e' M λe2 ai=>by rw [@As _ (Classical.propDecidable _) ai,Bool.and_true]]
  exact hY.deg _ h1
 rintro ⟨X,hX,aj⟩
 have ad:∀e',E e'->(@decide (∃e2,E e2/\f e2=f e'/\X e2=true) (Classical.propDecidable _))=X e':=λe' M=>by
  cases hx:X e' with
  |true=>exact @As _ (Classical.propDecidable _) ⟨e',M,rfl,hx⟩
  |false=>exact @D_ _ (Classical.propDecidable _) λ⟨e2,h1,h2,h3⟩=>by rw [ab e2 e' h1 M h2,hx] at h3;cases h3
 refine ⟨λb=> @decide (∃e2,E e2/\f e2=b/\X e2=true) (Classical.propDecidable _),⟨λb hb=>?_,λb hb=>?_⟩,(ad e he).trans aj⟩
 ·obtain ⟨e2,h1,h2,_⟩:= @Fu _ (Classical.propDecidable _) hb
  rw [←h2];exact hf e2 h1
 obtain ⟨e2,h1,h2,h3⟩:= @Fu _ (Classical.propDecidable _) hb
 rw [←h2,aa X _ e2 h1 ad]
 exact hX.deg e2 h3
end
end Go.Sl
namespace Go.Sl
variable{h0 i:Int}
theorem bx7{α:Type}[Inhabited α]{a b:List α}(hl:a.length=b.length)(h:∀i:Nat,i<a.length->e_ a i=e_ b i):a=b:=Mg hl λi M h2=>by
 rw [←L3 a i M,←L3 b i h2];exact h i M
def bj0(tri:List (List Pt))(b:List Int)(i:Int):List Int:=(e_ tri i).map λp=>min (e_ b p.u) (e_ b p.v)
def okS(tri:List (List Pt))(b:List Int)(i:Int):Prop:=∃h,HI (bj0 tri b i) h/\e_ b i<=h
structure am6 (tri:List (List Pt)) (t b q:List Int):Prop where
 len:b.length=tri.length
 rng:∀i∈q,0<=i/\i<tri.length
 low:∀i:Int,0<=i->i<tri.length->0<=e_ t i/\e_ t i<=e_ b i
 fix:∀i:Int,0<=i->i<tri.length->i∈q\/okS tri b i
section
variable {tri:List (List Pt)}{t b q:List Int}
theorem dm0{k:Int}(l:List Pt)(f:Pt->Int):((l.map f).filter λx=>decide (k<=x)).length=(l.filter λp=>decide (k<=f p)).length:=by
 rw [Le,Ge];rfl
theorem dt2(hG:cw2 tri)(ht:bu3 (λi:Int=>0<=i/\i<tri.length) (da1 tri) λi=>(e_ t i).toNat)(h:am6 tri t b q)(hi:0<=i/\i<tri.length)(hh:HI (bj0 tri b i) h0):e_ t i<=h0:=by
 have hE:∀e:Int,(0<=e/\e<tri.length)->∀p∈da1 tri e,(0<=p.1/\p.1<tri.length)/\(0<=p.2/\p.2<tri.length):=λe he p hp=>by
  obtain ⟨x,hx,rfl⟩:=H1.1 hp
  have:=(hG.rng e he.1 he.2 x hx).1
  exact ⟨⟨this.1,this.2.1⟩,this.2.2⟩
 have h1:=ht.high hE hi
 unfold da1 at h1
 rw [Le,Ge] at h1
 have aa:=h.low i hi.1 hi.2
 refine hh.most _ ?_
 unfold bj0
 rw [dm0]
 have h2:((e_ tri i).filter ((λp:Int×Int=>decide<|(e_ t i).toNat<=(e_ t p.1).toNat/\(e_ t i).toNat<=(e_ t p.2).toNat)∘λp=>(p.u,p.v))).length<=((e_ tri i).filter λp=>decide<|e_ t i<=min (e_ b p.u) (e_ b p.v)).length:=J2 λp hp hx=>by
  have h3:=Fu hx
  have M:=(hG.rng i hi.1 hi.2 p hp).1
  have a1:=h.low p.u M.1 M.2.1
  have a2:=h.low p.v M.2.2.1 M.2.2.2
  simp only at h3
  exact As<|by omega
 omega
theorem am6.pass(h:am6 tri t b (i::q)){M:Int}(hh:HI (bj0 tri b i) M)(aa:e_ b i<=M):am6 tri t b q:=
 ⟨h.len,λj hj=>h.rng j (C_ _ hj),h.low,λj j0 j1=>by
  rcases h.fix j j0 j1 with hq|hq
  ·rcases F_.1 hq with rfl|hq
   ·exact .inr ⟨M,hh,aa⟩
   exact .inl hq
  exact .inr hq⟩
def bj1(l:List Pt):List Int:=l.flatMap λp=>[p.u,p.v]
theorem bx5{l:List Pt}{j:Int}:j∈bj1 l↔∃p∈l,j=p.u\/j=p.v:=by
 unfold bj1
 rw [Ky]
 constructor
 ·rintro ⟨p,M,h⟩;exact ⟨p,M,by simpa using h⟩
 rintro ⟨p,M,h⟩;exact ⟨p,M,by simpa using h⟩
theorem am6.sink(hG:cw2 tri)(ht:bu3 (λi:Int=>0<=i/\i<tri.length) (da1 tri) λi=>(e_ t i).toNat)(h:am6 tri t b (i::q))(hh:HI (bj0 tri b i) h0)(hlt:h0<e_ b i) :
  am6 tri t (b.set i.toNat h0) (q++bj1 (e_ tri i)):=by
 have hi:=h.rng i A_
 have ad:=h.len
 have ab:∀j:Int,0<=j->j<tri.length->e_ (b.set i.toNat h0) j=if i=j then h0 else e_ b j:=λj M j1=>R5 b i j h0 hi.1 M (by omega)
 have aa:∀j:Int,0<=j->j<tri.length->(∀p∈e_ tri j,p.u≠i/\p.v≠i)->bj0 tri (b.set i.toNat h0) j=bj0 tri b j:=λj M j1 ae=>by
  unfold bj0
  refine Kw λp hp=>?_
  have hr:=(hG.rng j M j1 p hp).1
  rw [ab p.u hr.1 hr.2.1,ab p.v hr.2.2.1 hr.2.2.2,An<|λe=>(ae p hp).1 e.symm,An<|λe=>(ae p hp).2 e.symm]
 refine ⟨by rw [Fs];exact ad,λj hj=>?_,λj M j1=>?_,λj M j1=>?_⟩
 ·rcases Gw.1 hj with hj|hj
  ·exact h.rng j<|C_ _ hj
  obtain ⟨p,hp,e⟩:=bx5.1 hj
  have hr:=(hG.rng i hi.1 hi.2 p hp).1
  rcases e with rfl|rfl
  ·exact ⟨hr.1,hr.2.1⟩
  exact hr.2.2
 ·have hl:=h.low j M j1
  rw [ab j M j1]
  by_cases e:i=j
  ·subst e;rw [B_ rfl];exact ⟨hl.1,dt2 hG ht h hi hh⟩
  rw [An e];exact hl
 by_cases e:i=j
 ·subst e
  refine .inr ⟨h0,?_,?_⟩
  ·rw [aa i M j1 λp hp=>⟨(hG.rng i hi.1 hi.2 p hp).2.2.1,(hG.rng i hi.1 hi.2 p hp).2.2.2⟩];exact hh
  rw [ab i M j1,B_ rfl];exact Hp _
 by_cases hn:∃p∈e_ tri j,p.u=i\/p.v=i
 ·obtain ⟨p,hp,hpi⟩:=hn
  refine .inl<|Mc _<|bx5.2 ?_
  rcases hpi with hpi|hpi
  ·have hs:fb4 tri j i p.v:= .inl (by rw [←hpi];exact hp)
   rcases hG.sym j i p.v M j1 hs with h3|h3
   ·exact ⟨_,h3,.inl rfl⟩
   exact ⟨_,h3,.inr rfl⟩
  have hs:fb4 tri j i p.u:= .inr (by rw [←hpi];exact hp)
  rcases hG.sym j i p.u M j1 hs with h3|h3
  ·exact ⟨_,h3,.inl rfl⟩
  exact ⟨_,h3,.inr rfl⟩
 rcases h.fix j M j1 with hq|⟨h1,h2,h3⟩
 ·rcases F_.1 hq with hq|hq
  ·exact absurd hq.symm e
  exact .inl<|Gk _ hq
 refine .inr ⟨h1,?_,?_⟩
 ·rw [aa j M j1 λp hp=>⟨λq1=>hn ⟨p,hp,.inl q1⟩,λq1=>hn ⟨p,hp,.inr q1⟩⟩];exact h2
 rw [ab j M j1,An e];exact h3
theorem am6.done(hG:cw2 tri)(ht:bu3 (λi:Int=>0<=i/\i<tri.length) (da1 tri) λi=>(e_ t i).toNat)(h:am6 tri t b [])(hl:t.length=tri.length):b=t:=by
 have hE:∀e:Int,(0<=e/\e<tri.length)->∀p∈da1 tri e,(0<=p.1/\p.1<tri.length)/\(0<=p.2/\p.2<tri.length):=λe M p hp=>by
  obtain ⟨x,hx,rfl⟩:=H1.1 hp
  have:=(hG.rng e M.1 M.2 x hx).1
  exact ⟨⟨this.1,this.2.1⟩,this.2.2⟩
 have aa:∀i:Int,0<=i->i<tri.length->(e_ b i).toNat=(e_ t i).toNat:=λi i0 i1=>fu7 (b:=λi=>(e_ b i).toNat) ht hE (λe M=>by have:=h.low e M.1 M.2;show (e_ t e).toNat<=(e_ b e).toNat;omega) (λe M=>by
  rcases h.fix e M.1 M.2 with hq|⟨h1,h2,h3⟩
  ·cases hq
  show (e_ b e).toNat<=_
  have h4:=h2.has
  unfold bj0 at h4
  rw [dm0] at h4
  unfold da1
  rw [Le,Ge]
  have h5:((e_ tri e).filter λp=>decide<|h1<=min (e_ b p.u) (e_ b p.v)).length<=((e_ tri e).filter ((λp:Int×Int=>decide<|(e_ b e).toNat<=(e_ b p.1).toNat/\(e_ b e).toNat<=(e_ b p.2).toNat)∘λp=>(p.u,p.v))).length:=J2 λp hp hx=>by
   have h6:=Fu hx
   exact As<|by simp only;omega
  omega) ⟨i0,i1⟩
 refine bx7 (by rw [h.len,hl]) λi hi=>?_
 have h1:=aa (i:Int) (by omega) (by have:=h.len;omega)
 have h2:=h.low (i:Int) (by omega) (by have:=h.len;omega)
 omega
end
end Go.Sl
namespace Go.Sl
variable{xs:List Int}{x:Operand}{E T b by' sz:Nat}{z:List Value}{i j:Int}
section
variable {P:Program}{κ:Ctx}{N:Frm}{Q:Exit->Act->World->Prop}{L:Env}{I:List Item}
theorem W.rounds{c:Code}(n:Nat)(h:V κ N (Exit.then (Code.rounds P c Q n) Q) .normal L I):W P κ N (.loop c) Q L I:=λa w M hs=>wp_loop_rounds n (h a w M hs)
theorem V.again{c:Code}{n:Nat}(h:W P κ N c (Exit.then (Code.rounds P c Q n) Q) L I):V κ N (Exit.then (Code.rounds P c Q (n+1)) Q) .normal L I:=h
end
structure aj8 where
 b:Nat
 o:Nat
deriving Inhabited
structure P2 where
 t:Nat
 b:Nat
 o:Nat
deriving Inhabited
instance:Enc aj8:=⟨λx=>[.pointer (some ⟨x.b,x.o,none⟩)],1,by omega,λ_=>rfl,λ_ u h=>by simp at h;subst h;rfl⟩
instance:Enc P2:=⟨λx=>[.iface x.t (.pointer (some ⟨x.b,x.o,none⟩))],1,by omega,λ_=>rfl,λ_ u h=>by simp at h;subst h;rfl⟩
section
variable {P:Program}{κ:Ctx}{N:Frm}{Q:Exit->Act->World->Prop}{L:Env}{I J:List Item}
variable {d:Option Tmp}{ty:TypeId}{ps:String}{af:Array Edge}{gd:Option (Nat×Bool)}
theorem j8.gj6(hT:tyF P T=some (sz,false,by',z))(M:er L x=some (.pointer (some ⟨b,0+i.toNat*64+j.toNat*1,none⟩)))(hb:ab7 κ J b (cells xs) E)(h0:0<=i)(h1:0<=j)(hn:i*64+j<xs.length) :
  j8 P κ N ⟨d,.load T x,ty,ps,af,gd⟩ L J (e7<|e_ xs<|i*64+j):=by
 refine j8.gc4 (i:=i*64+j) hT ?_ hb (by omega) hn
 rw [M,show 0+i.toNat*64+j.toNat*1=0+(i*64+j).toNat*1 by omega]
theorem Eff.setT{y:Operand}{ag:Bool}{n:Int}{I':List Item}(hT:tyF P T=some (sz,ag,by',z))(aa:sz=1)(hx:er L x=some (.pointer (some ⟨b,0+i.toNat*64+j.toNat*1,none⟩)))(hy:er L y=some (e7 n))(h0:0<=i)(h1:0<=j)(hn:i*64+j<xs.length)
  (M:At I (e8 b (cells xs) E) (e8 b (cells<|xs.set (i*64+j).toNat n) E) I') :
  Eff P κ N Q ⟨none,.store T x y,ty,ps,af,gd⟩ L I λL' I''=>L'=L/\I''=I':=by
 refine Eff.setA (i:=i*64+j) hT aa ?_ hy (by omega) hn M
 rw [hx,show 0+i.toNat*64+j.toNat*1=0+(i*64+j).toNat*1 by omega]
end
end Go.Sl
namespace Go.Sl
def Has(I T:List Item):Prop:=∃L,I.Perm (L++T)
section
variable {κ:Ctx}{I T:List Item}
theorem Has.refl(I:List Item):Has I I:=⟨[],List.Perm.refl _⟩
theorem Has.tail{x:Item}(h:Has I T):Has (x::I) T:=by
 obtain ⟨L,hL⟩:=h
 exact ⟨x::L,hL.cons x⟩
theorem Has.app(Y:List Item)(h:Has I T):Has (Y++I) T:=by
 obtain ⟨L,hL⟩:=h
 exact ⟨Y++L,by rw [Fv];exact hL.append_left Y⟩
theorem Has.up(h:Has I T)(Y:List Item):Has (Y++I) (Y++T):=by
 obtain ⟨L,hL⟩:=h
 exact ⟨L,(hL.append_left Y).trans de1⟩
theorem Has.fit(h:Has I T):Fit κ I T:=by
 obtain ⟨L,hL⟩:=h
 exact Fit.trans (Fit.perm hL)<|Fit.az0 _ _
end
section
variable {P:Program}{κ:Ctx}{N:Frm}{Q:Exit->Act->World->Prop}{L:Env}{I J J0:List Item}{ops:Array Oper}{o:Oper}{n:Nat}
theorem ch4.read{stop fuel:Nat}{M:Array Bool}{i d:Nat}{v:Value}(hi:ops[i]? = some o)(hw:q8 N ops o L)(hd:o.dst=some d)(hN:Nat.blt d N.n=true)(hr:j8 P κ N o L I v)(hf:Fit κ I J)
  (h:D2 P κ N ops Q J0 n J stop fuel (M.setIfInBounds i true) ((d,v)::L) I):ch4 P κ N ops Q J0 n J stop fuel M L I i:=λa w ha hs=>by
 unfold wpOp
 simp only [hi,hw a ha,Lw,Oper.wp,hr a w ha hs,Oper.upon]
 have aa:=ha.put d hN v
 rw [←hd] at aa
 exact .inl ⟨hf w hs,h _ w aa hs⟩
end
end Go.Sl
namespace Go.Sl
open Go.RowKit (Below)
variable{x:Operand}{v:Value}
section
variable {P:Program}{κ:Ctx}{N:Frm}{Q:Exit->Act->World->Prop}{L:Env}{I J:List Item}{ops:Array Oper}{rest:List Oper}
variable {d:Option Tmp}{ty:TypeId}{ps:String}{af:Array Edge}{gd:Option (Nat×Bool)}
theorem j8.br0{T:TypeId}(hm:∀w,(Instr.makeInterface T v).run P w = .ok (.iface T v) w)(hx:er L x=some v):j8 P κ N ⟨d,.makeInterface T x,ty,ps,af,gd⟩ L J (.iface T v):=
 λa w M hs=>by simp [execOp,M.eval hx,hm,Result.andThen]
theorem Eff.invoke{f:FuncId}{dd:Nat}{t:TypeId}{rv:Value}{M:String}{xs:List Operand}{vs:List Value}{aa:Array TypeId}{Post:Value->List Item->Prop}(hf:V4 P f=true)(hr:er L x=some (.iface t v))
  (hm:∀w,(method (P.types.size+Made.depth) t v M).run P w = .ok (f,rv) w) (hx:T6 L xs=some vs) (hN:Nat.blt dd N.n=true) (hc:eu P κ f (rv::vs) I Post) :
  Eff P κ N Q ⟨some dd,.call {callee:= .invoke x M,args:=xs.toArray,argTypes:=aa},ty,ps,af,gd⟩ L I λL' I''=>∃v J,Post v J/\L'=(dd,v)::L/\J=I'':=λa w ha hs=>by
 have he:(execOp a.eval ⟨some dd,.call {callee:= .invoke x M,args:=xs.toArray,argTypes:=aa},ty,ps,af,gd⟩).run P w = .ok (.enter f (rv::vs).toArray) w:=by
  simp only [execOp,resolve,ha.eval hr,Go.invoke,Sem.run_bind,Sem.run_pure,Result.andThen_ok,Js,ha.T6 hx]
  simp [callMethod,hm,ah9 hf,Result.andThen]
 simp only [Oper.wp,he,Oper.upon]
 refine (hc w hs).mono λe w' ⟨v,J,ab,hp,ad⟩=>?_
 subst ab
 exact ⟨_,_,⟨v,J,hp,rfl,rfl⟩,ha.put dd hN v,ad⟩
end
end Go.Sl
namespace Go.Sl
open Go.Proofs
abbrev Aa:= @Sub.cons
abbrev Ab:= @Eff.call
abbrev Ac:= @Tryz.underlying22
abbrev Ad:= @Tryz.underlying30
abbrev Af:= @j8.fieldAddr
abbrev Ah:= @Fit.m
abbrev Ai:= @Fit.sub
abbrev Aj:= @Eff.alloc
abbrev Ak:= @V.then
abbrev Al:= @W.sr
abbrev Am:= @V.ret1
abbrev Ao:= @W.ite
abbrev Ap:= @j8.move
abbrev Aq:= @q8.plain
abbrev Ar:= @G.nt
abbrev Au:= @V.ay5
abbrev Av:= @Eff.box
abbrev Aw:= @V.bv7
abbrev Ax:= @W.seq
abbrev Ay:= @Tryz.underlying36
abbrev Az:= @Fit.s
abbrev A0:= @W.sub
abbrev A1:= @j8.idx
abbrev A2:= @Tryz.underlying33
abbrev A3:= @Sl.f
abbrev A4:= @G.split
abbrev A5:= @Sl.o
abbrev A6:= @W.region
abbrev A7:= @W.block
abbrev A8:= @W.drawn
abbrev A9:= @Fit.trans
abbrev Ba:= @F4.fit
abbrev Bb:= @Sub.nil
abbrev Bc:= @W.skip
abbrev Bd:= @Sl.fit
abbrev Be:= @j8.ld
abbrev Bf:= @j8.extract
abbrev Bg:= @Has.tail
abbrev Bh:= @Has.refl
abbrev Bi:= @V.bz6
abbrev Bj:= @j8.assign
abbrev Bk:= @j8.fx0
abbrev Bl:= @j8.lds
abbrev Bm:= @j8.lss
abbrev Bn:= @j8.lens
abbrev Bo:= @at_mem
abbrev Bp:= @Has.app
abbrev Bq:= @G.nil
abbrev Br:= @Fit.az0
abbrev Bs:= @Eff.app
abbrev Bt:= @Eff.st
abbrev Bu:= @V.nx
abbrev Bv:= @A.hold
abbrev Bw:= @Tryz.underlying198
abbrev Bx:= @eu.pull
abbrev Bz:= @p4
abbrev B0:= @j8.fw9
abbrev B1:= @Eff.bs
abbrev B2:= @Has.up
abbrev B3:= @W.ret
abbrev B4:= @Has.fit
abbrev B5:= @j8.fy3
abbrev B6:= @Fit.ge8
abbrev B7:= @Tryz.underlying200
abbrev B8:= @j8.get
abbrev B9:= @W.loop
abbrev Ca:= @bp0
abbrev Cb:= @j8.neq
abbrev Cc:= @j8.fy5
abbrev Cd:= @D.read
abbrev Ce:= @Tryz.underlying115
abbrev Cf:= @Tryz.underlying3
abbrev Cg:= @W.exit
abbrev Ch:= @D.stop
abbrev Ci:= @A.done
abbrev Cj:= @Fit.perm
abbrev Ck:= @eu.fit
abbrev Cl:= @dw5
abbrev Cm:= @q8.on
abbrev Cn:= @j8.build
abbrev Co:= @gi2
abbrev Cp:= @V.ge2
abbrev Cq:= @Tryz.underlying205
abbrev Cr:= @Tryz.underlying189
abbrev Cs:= @V.ge1
abbrev Ct:= @L3
abbrev Cu:= @V.cj4
abbrev Cv:= @j8.add
abbrev Cw:= @Eff.set
abbrev Cx:= @Eff.gg9
abbrev Cy:= @Sl.vec
abbrev Cz:= @de1
abbrev C0:= @Tryz.underlying155
abbrev C1:= @j8.gf0
abbrev C2:= @V.ret2
abbrev C3:= @j8.eql
abbrev C4:= @Fit.K8
abbrev C5:= @D.step
abbrev C6:= @dd0
abbrev C7:= @j8.gj5
abbrev C8:= @Tryz.underlying208
abbrev C9:= @gi0
abbrev Da:= @dw4
abbrev Db:= @gi1
abbrev Dc:= @j8.gtr
abbrev Dd:= @Pt.bs2
abbrev De:= @Fit.refl
abbrev Df:= @D.split
abbrev Dg:= @V.again
abbrev Dh:= @R1
abbrev Di:= @A.read
abbrev Dj:= @W.lq
abbrev Dk:= @V.mi
abbrev Dl:= @gj7
abbrev Dm:= @Eff.make
abbrev Dn:= @ab7.of
abbrev Do:= @j8.lo
abbrev Dp:= @G.fit
abbrev Dq:= @all_succ
abbrev Ds:= @W.cond
abbrev Dt:= @G.eff
abbrev Du:= @ch4.eff
abbrev Dv:= @ao2
abbrev D0:= @j8.makeFunc
abbrev D1:= @Eff.invoke
abbrev D3:= @K2
abbrev D4:= @P8
abbrev D5:= @all2
abbrev D6:= @Tryz.underlying233
abbrev D7:= @Tryz.underlying228
abbrev D8:= @Tryz.underlying212
abbrev D9:= @Tryz.underlying184
abbrev Ea:= @Tryz.underlying182
abbrev Eb:= @Tryz.underlying105
abbrev Ec:= @j8.fm9
abbrev Ed:= @j8.orB
abbrev Ee:= @A.ho
abbrev Ef:= @j8.nilCheck
abbrev Eg:= @j8.fa6
abbrev Eh:= @j8.andB
abbrev Ei:= @R5
abbrev Ej:= @V.retc
abbrev Ek:= @ab7.fit
abbrev El:= @fy0
abbrev Em:= @T4
abbrev En:= @j8.mul
abbrev Eo:= @gh7
abbrev Ep:= @Sl.drop
abbrev Er:= @dg5
abbrev Es:= @R3
abbrev Et:= @Tryz.underlying47
abbrev Eu:= @Tryz.underlying45
abbrev Ew:= @Tryz.underlying41
abbrev Ex:= @Tryz.underlying38
abbrev Ey:= @j8.not
abbrev Ez:= @j8.fp0
abbrev E0:= @D2.step
abbrev E1:= @cs3
abbrev E2:= @j8.gf7
abbrev E3:= @j8.gf9
abbrev E4:= @an5
abbrev E5:= @gh6
abbrev E6:= @dh9
abbrev E7:= @gh9
abbrev E8:= @bx7
abbrev E9:= @j8.gj0
abbrev Fa:= @j8.gj3
abbrev Fb:= @Eff.clone
abbrev Fc:= @all_zero
abbrev Fd:= @j8.max
abbrev Fe:= @j8.fld
abbrev Ff:= @Fit.tail
abbrev Fg:= @gi3
abbrev Fh:= @D2.read
abbrev Fi:= @dm9
abbrev Fj:= @W.cut
abbrev Fk:= @Tryz.underlying5
abbrev Fl:= @j8.shrB
abbrev Fm:= @j8.eqlT
abbrev Fo:= @gh8
abbrev Fp:= @Eff.gg5
abbrev Fq:= @eu.at
abbrev Fr:= @j8.gg0
theorem kr{p:Prop}(h:p:=by kernel_rfl):p:=h
theorem dc{p:Prop}(h:p:=by decide):p:=h
theorem lcn{p:Prop}(h:p:=by simp only [E_,Fy];omega):p:=h
theorem asm{p:Prop}(h:p:=by assumption):p:=h
theorem lat{p:Prop}(h:p:=by first|omega|(simp only [By,Ft,Gb,Gc]<;>omega)):p:=h
theorem lap{p:Prop}(h:p:=by simp only [By,E_,Fy];omega):p:=h
theorem olp{p:Prop}(h:p:=by first|omega|(simp only [By,E_,Fy];omega)):p:=h
theorem olr{p:Prop}(h:p:=by first|omega|(simp only [Gc];omega)):p:=h
end Go.Sl
namespace Go.Sl
open Go.Proofs
theorem ty2:tyF prog 2=some (1,false,8,[e7 (0)]):=by kernel_rfl
theorem ef:tyF prog 3=some (1,false,8,[e7 (0)]):=by kernel_rfl
theorem ty4:tyF prog 4=some (1,false,1,[.bool false]):=by kernel_rfl
theorem ty5:tyF prog 5=some (1,false,1,[.int .u8 (0)]):=by kernel_rfl
theorem W4:tyF prog 22=some (1,false,24,[.slice none 0 0]):=by kernel_rfl
theorem da0:tyF prog 29=some (3,true,24,[e7 (0),e7 (0),e7 (0)]):=by kernel_rfl
theorem U8:U2 prog 29 0=some 0:=by kernel_rfl
theorem ao0:U2 prog 29 1=some 1:=by kernel_rfl
theorem aw6:U2 prog 29 2=some 2:=by kernel_rfl
theorem ap1:tyF prog 30=some (1,false,24,[.slice none 0 0]):=by kernel_rfl
theorem J6:tyF prog 32=some (4,true,48,[e7 (0),e7 (0),e7 (0),.slice none 0 0]):=by kernel_rfl
theorem bf3:U2 prog 32 0=some 0:=by kernel_rfl
theorem U7:U2 prog 32 1=some 1:=by kernel_rfl
theorem cf8:U2 prog 32 2=some 2:=by kernel_rfl
theorem R2:U2 prog 32 3=some 3:=by kernel_rfl
theorem au1:tyF prog 33=some (1,false,24,[.slice none 0 0]):=by kernel_rfl
theorem Q2:tyF prog 35=some (2,true,32,[e7 (0),.slice none 0 0]):=by kernel_rfl
theorem bf2:U2 prog 35 0=some 0:=by kernel_rfl
theorem N6:U2 prog 35 1=some 1:=by kernel_rfl
theorem ge4(w:World):(J4 prog 35).run prog w = .ok #[(0,1),(1,1)] w:=by kernel_rfl
theorem am7:tyF prog 36=some (1,false,24,[.slice none 0 0]):=by kernel_rfl
theorem K0:tyF prog 38=some (2,true,32,[e7 (0),.slice none 0 0]):=by kernel_rfl
theorem ag0:U2 prog 38 0=some 0:=by kernel_rfl
theorem K6:U2 prog 38 1=some 1:=by kernel_rfl
theorem fw3(w:World):(J4 prog 38).run prog w = .ok #[(0,1),(1,1)] w:=by kernel_rfl
theorem ab6:tyF prog 40=some (3,true,56,[e7 (0),.slice none 0 0,.slice none 0 0]):=by kernel_rfl
theorem dj2:U2 prog 40 0=some 0:=by kernel_rfl
theorem bf1:U2 prog 40 1=some 2:=by kernel_rfl
theorem gi9(w:World):(J4 prog 40).run prog w = .ok #[(0,2),(2,1)] w:=by kernel_rfl
theorem L6:tyF prog 41=some (3,true,56,[e7 (0),.slice none 0 0,.slice none 0 0]):=by kernel_rfl
theorem bf0:U2 prog 41 0=some 0:=by kernel_rfl
theorem cf7:U2 prog 41 1=some 2:=by kernel_rfl
theorem fw2(w:World):(J4 prog 41).run prog w = .ok #[(0,2),(2,1)] w:=by kernel_rfl
theorem ad0:tyF prog 43=some (4,true,64,[e7 (0),.slice none 0 0,e7 (0),.slice none 0 0]):=by kernel_rfl
theorem dj1:U2 prog 43 0=some 0:=by kernel_rfl
theorem dj0:U2 prog 43 1=some 2:=by kernel_rfl
theorem aj0:U2 prog 43 2=some 3:=by kernel_rfl
theorem ge3(w:World):(J4 prog 43).run prog w = .ok #[(0,2),(2,1),(3,1)] w:=by kernel_rfl
theorem V5:tyF prog 45=some (5,true,72,[e7 (0),.slice none 0 0,e7 (0),e7 (0),.slice none 0 0]):=by kernel_rfl
theorem di9:U2 prog 45 1=some 2:=by kernel_rfl
theorem di8:U2 prog 45 2=some 3:=by kernel_rfl
theorem aw5:U2 prog 45 3=some 4:=by kernel_rfl
theorem fw1(w:World):(J4 prog 45).run prog w = .ok #[(0,2),(2,1),(3,1),(4,1)] w:=by kernel_rfl
theorem H2:tyF prog 47=some (25,true,360,[e7 (0),e7 (0),e7 (0),e7 (0),e7 (0),e7 (0),.slice none 0 0,e7 (0),.slice none 0 0,e7 (0),.slice none 0 0,.slice none 0 0,e7 (0),.slice none 0 0,.slice none 0 0,e7 (0),.slice none 0 0,e7 (0),.slice none 0 0,e7 (0),.slice none 0 0,e7 (0),e7 (0),.slice none 0 0,e7 (0)]):=by kernel_rfl
theorem aw4:U2 prog 47 0=some 0:=by kernel_rfl
theorem aw3:U2 prog 47 1=some 3:=by kernel_rfl
theorem Z8:U2 prog 47 2=some 7:=by kernel_rfl
theorem cf6:U2 prog 47 3=some 9:=by kernel_rfl
theorem cf5:U2 prog 47 4=some 12:=by kernel_rfl
theorem cf4:U2 prog 47 5=some 15:=by kernel_rfl
theorem cf3:U2 prog 47 6=some 19:=by kernel_rfl
theorem aw2:U2 prog 47 7=some 24:=by kernel_rfl
theorem fw0(w:World):(J4 prog 47).run prog w = .ok #[(0,3),(3,4),(7,2),(9,3),(12,3),(15,4),(19,5),(24,1)] w:=by kernel_rfl
theorem z6:tyF prog 54=some (7,true,56,[e7 (0),e7 (0),e7 (0),e7 (0),e7 (0),e7 (0),e7 (0)]):=by kernel_rfl
theorem W9:U2 prog 54 0=some 0:=by kernel_rfl
theorem H8:U2 prog 54 1=some 1:=by kernel_rfl
theorem L7:U2 prog 54 2=some 2:=by kernel_rfl
theorem H7:U2 prog 54 3=some 3:=by kernel_rfl
theorem br8:U2 prog 54 4=some 4:=by kernel_rfl
theorem be9:U2 prog 54 5=some 5:=by kernel_rfl
theorem be8:U2 prog 54 6=some 6:=by kernel_rfl
theorem J8:tyF prog 82=some (6,true,48,[e7 (0),e7 (0),e7 (0),e7 (0),e7 (0),e7 (0)]):=by kernel_rfl
theorem cf2:U2 prog 82 0=some 0:=by kernel_rfl
theorem af9:U2 prog 82 1=some 1:=by kernel_rfl
theorem br7:U2 prog 82 5=some 5:=by kernel_rfl
theorem gi8(w:World):(J4 prog 82).run prog w = .ok #[(0,1),(1,1),(2,1),(3,1),(4,1),(5,1)] w:=by kernel_rfl
end Go.Sl
namespace Go.Sl
open Go.Proofs
theorem s9:tyF prog 105=some (2,true,16,[e7 (0),e7 (0)]):=by kernel_rfl
theorem P0:U2 prog 105 0=some 0:=by kernel_rfl
theorem N9:U2 prog 105 1=some 1:=by kernel_rfl
theorem fk9(w:World):(J4 prog 105).run prog w = .ok #[(0,1),(1,1)] w:=by kernel_rfl
theorem bu9:tyF prog 155=some (4,true,32,[e7 (0),e7 (0),e7 (0),e7 (0)]):=by kernel_rfl
theorem fu3:tyF prog 161=some (3,true,56,[e7 (0),.slice none 0 0,.slice none 0 0]):=by kernel_rfl
theorem co0:U2 prog 161 0=some 0:=by kernel_rfl
theorem fw8(w:World):(J4 prog 161).run prog w = .ok #[(0,3)] w:=by kernel_rfl
theorem fu2:tyF prog 163=some (3,true,56,[e7 (0),.slice none 0 0,.slice none 0 0]):=by kernel_rfl
theorem cn9:U2 prog 163 0=some 0:=by kernel_rfl
theorem fw7(w:World):(J4 prog 163).run prog w = .ok #[(0,3)] w:=by kernel_rfl
theorem fu1:tyF prog 165=some (4,true,64,[e7 (0),.slice none 0 0,e7 (0),.slice none 0 0]):=by kernel_rfl
theorem cn8:U2 prog 165 0=some 0:=by kernel_rfl
theorem fw6(w:World):(J4 prog 165).run prog w = .ok #[(0,4)] w:=by kernel_rfl
theorem fu0:tyF prog 167=some (5,true,72,[e7 (0),.slice none 0 0,e7 (0),e7 (0),.slice none 0 0]):=by kernel_rfl
theorem cn7:U2 prog 167 0=some 0:=by kernel_rfl
theorem fw5(w:World):(J4 prog 167).run prog w = .ok #[(0,5)] w:=by kernel_rfl
theorem ft9:tyF prog 169=some (15,true,248,[e7 (0),.slice none 0 0,.slice none 0 0,e7 (0),.slice none 0 0,.slice none 0 0,e7 (0),.slice none 0 0,e7 (0),.slice none 0 0,e7 (0),.slice none 0 0,e7 (0),e7 (0),.slice none 0 0]):=by kernel_rfl
theorem cn6:U2 prog 169 0=some 0:=by kernel_rfl
theorem cn5:U2 prog 169 1=some 3:=by kernel_rfl
theorem cn4:U2 prog 169 2=some 6:=by kernel_rfl
theorem cn3:U2 prog 169 3=some 10:=by kernel_rfl
theorem fw4(w:World):(J4 prog 169).run prog w = .ok #[(0,3),(3,3),(6,4),(10,5)] w:=by kernel_rfl
theorem bi8:tyF prog 181=some (1,false,8,[.pointer none]):=by kernel_rfl
theorem bi7:tyF prog 183=some (1,false,8,[.pointer none]):=by kernel_rfl
theorem ds5:tyF prog 193=some (64,true,512,[e7 (0),e7 (0),e7 (0),e7 (0),e7 (0),e7 (0),e7 (0),e7 (0),e7 (0),e7 (0),e7 (0),e7 (0),e7 (0),e7 (0),e7 (0),e7 (0),e7 (0),e7 (0),e7 (0),e7 (0),e7 (0),e7 (0),e7 (0),e7 (0),e7 (0),e7 (0),e7 (0),e7 (0),e7 (0),e7 (0),e7 (0),e7 (0),e7 (0),e7 (0),e7 (0),e7 (0),e7 (0),e7 (0),e7 (0),e7 (0),e7 (0),e7 (0),e7 (0),e7 (0),e7 (0),e7 (0),e7 (0),e7 (0),e7 (0),e7 (0),e7 (0),e7 (0),e7 (0),e7 (0),e7 (0),e7 (0),e7 (0),e7 (0),e7 (0),e7 (0),e7 (0),e7 (0),e7 (0),e7 (0)]):=by kernel_rfl
theorem bi6:tyF prog 198=some (1,false,24,[.slice none 0 0]):=by kernel_rfl
theorem L9:tyF prog 200=some (2,true,16,[e7 (0),e7 (0)]):=by kernel_rfl
theorem M4:tyF prog 207=some (1,false,8,[.int .u64 (0)]):=by kernel_rfl
theorem ft8:tyF prog 208=some (64,true,512,[.int .u64 (0),.int .u64 (0),.int .u64 (0),.int .u64 (0),.int .u64 (0),.int .u64 (0),.int .u64 (0),.int .u64 (0),.int .u64 (0),.int .u64 (0),.int .u64 (0),.int .u64 (0),.int .u64 (0),.int .u64 (0),.int .u64 (0),.int .u64 (0),.int .u64 (0),.int .u64 (0),.int .u64 (0),.int .u64 (0),.int .u64 (0),.int .u64 (0),.int .u64 (0),.int .u64 (0),.int .u64 (0),.int .u64 (0),.int .u64 (0),.int .u64 (0),.int .u64 (0),.int .u64 (0),.int .u64 (0),.int .u64 (0),.int .u64 (0),.int .u64 (0),.int .u64 (0),.int .u64 (0),.int .u64 (0),.int .u64 (0),.int .u64 (0),.int .u64 (0),.int .u64 (0),.int .u64 (0),.int .u64 (0),.int .u64 (0),.int .u64 (0),.int .u64 (0),.int .u64 (0),.int .u64 (0),.int .u64 (0),.int .u64 (0),.int .u64 (0),.int .u64 (0),.int .u64 (0),.int .u64 (0),.int .u64 (0),.int .u64 (0),.int .u64 (0),.int .u64 (0),.int .u64 (0),.int .u64 (0),.int .u64 (0),.int .u64 (0),.int .u64 (0),.int .u64 (0)]):=by kernel_rfl
end Go.Sl
namespace Go.Sl
open Go.Proofs
theorem c_{f:Nat}(h:V4 prog f=true:=by kernel_rfl):V4 prog f=true:=h
end Go.Sl
namespace Go.Sl
open Go.Proofs
theorem mixed:prog.follows .mixedOrders=true:=by kernel_rfl
end Go.Sl
namespace Go.Sl
open Go.Proofs
instance:ca5 prog 22 3:=⟨Ac⟩
instance:ao9 prog 29:=⟨⟨_,Tryz.underlying29⟩⟩
instance:ca5 prog 30 54:=⟨Ad⟩
instance:ao9 prog 32:=⟨⟨_,Tryz.underlying32⟩⟩
instance:ca5 prog 33 82:=⟨A2⟩
instance:ao9 prog 35:=⟨⟨_,Tryz.underlying35⟩⟩
instance:ca5 prog 36 105:=⟨Ay⟩
instance:ao9 prog 38:=⟨⟨_,Ex⟩⟩
instance:ao9 prog 40:=⟨⟨_,Tryz.underlying40⟩⟩
instance:ao9 prog 41:=⟨⟨_,Ew⟩⟩
instance:ao9 prog 43:=⟨⟨_,Tryz.underlying43⟩⟩
instance:ao9 prog 45:=⟨⟨_,Eu⟩⟩
instance:ao9 prog 47:=⟨⟨_,Et⟩⟩
instance:ao9 prog 54:=⟨⟨_,Tryz.underlying54⟩⟩
instance:ao9 prog 82:=⟨⟨_,Tryz.underlying82⟩⟩
instance:ao9 prog 85:=⟨⟨_,Tryz.underlying85⟩⟩
instance:ao9 prog 105:=⟨⟨_,Eb⟩⟩
instance:ca5 prog 115 117:=⟨Ce⟩
instance:ao9 prog 161:=⟨⟨_,Tryz.underlying161⟩⟩
instance:ao9 prog 163:=⟨⟨_,Tryz.underlying163⟩⟩
instance:ao9 prog 165:=⟨⟨_,Tryz.underlying165⟩⟩
instance:ao9 prog 167:=⟨⟨_,Tryz.underlying167⟩⟩
instance:ao9 prog 169:=⟨⟨_,Tryz.underlying169⟩⟩
instance:ca5 prog 182 181:=⟨Ea⟩
instance:ca5 prog 184 183:=⟨D9⟩
instance:ca5 prog 189 22:=⟨Cr⟩
instance:ca5 prog 198 200:=⟨Bw⟩
instance:ca5 prog 205 207:=⟨Cq⟩
instance:ca5 prog 212 198:=⟨D8⟩
instance:ca5 prog 214 4:=⟨Tryz.underlying214⟩
instance:TyI prog 2 (1,false,8,[e7 (0)]):=⟨ty2⟩
instance:TyI prog 3 (1,false,8,[e7 (0)]):=⟨ef⟩
instance:TyI prog 4 (1,false,1,[.bool false]):=⟨ty4⟩
instance:TyI prog 5 (1,false,1,[.int .u8 (0)]):=⟨ty5⟩
instance:TyI prog 22 (1,false,24,[.slice none 0 0]):=⟨W4⟩
instance:TyI prog 29 (3,true,24,[e7 (0),e7 (0),e7 (0)]):=⟨da0⟩
instance:U1 prog 29 0 0:=⟨U8⟩
instance:U1 prog 29 1 1:=⟨ao0⟩
instance:U1 prog 29 2 2:=⟨aw6⟩
instance:PlI prog 29 #[(0,1),(1,1),(2,1)]:=⟨λ_=>by kernel_rfl⟩
instance:TyI prog 30 (1,false,24,[.slice none 0 0]):=⟨ap1⟩
instance:TyI prog 32 (4,true,48,[e7 (0),e7 (0),e7 (0),.slice none 0 0]):=⟨J6⟩
instance:U1 prog 32 0 0:=⟨bf3⟩
instance:U1 prog 32 1 1:=⟨U7⟩
instance:U1 prog 32 2 2:=⟨cf8⟩
instance:U1 prog 32 3 3:=⟨R2⟩
instance:PlI prog 32 #[(0,1),(1,1),(2,1),(3,1)]:=⟨λ_=>by kernel_rfl⟩
instance:TyI prog 33 (1,false,24,[.slice none 0 0]):=⟨au1⟩
instance:TyI prog 35 (2,true,32,[e7 (0),.slice none 0 0]):=⟨Q2⟩
instance:U1 prog 35 0 0:=⟨bf2⟩
instance:U1 prog 35 1 1:=⟨N6⟩
instance:PlI prog 35 #[(0,1),(1,1)]:=⟨ge4⟩
instance:TyI prog 36 (1,false,24,[.slice none 0 0]):=⟨am7⟩
instance:TyI prog 38 (2,true,32,[e7 (0),.slice none 0 0]):=⟨K0⟩
instance:U1 prog 38 0 0:=⟨ag0⟩
instance:U1 prog 38 1 1:=⟨K6⟩
instance:PlI prog 38 #[(0,1),(1,1)]:=⟨fw3⟩
instance:TyI prog 40 (3,true,56,[e7 (0),.slice none 0 0,.slice none 0 0]):=⟨ab6⟩
instance:U1 prog 40 0 0:=⟨dj2⟩
instance:U1 prog 40 1 2:=⟨bf1⟩
instance:PlI prog 40 #[(0,2),(2,1)]:=⟨gi9⟩
instance:TyI prog 41 (3,true,56,[e7 (0),.slice none 0 0,.slice none 0 0]):=⟨L6⟩
instance:U1 prog 41 0 0:=⟨bf0⟩
instance:U1 prog 41 1 2:=⟨cf7⟩
instance:PlI prog 41 #[(0,2),(2,1)]:=⟨fw2⟩
instance:TyI prog 43 (4,true,64,[e7 (0),.slice none 0 0,e7 (0),.slice none 0 0]):=⟨ad0⟩
instance:U1 prog 43 0 0:=⟨dj1⟩
instance:U1 prog 43 1 2:=⟨dj0⟩
instance:U1 prog 43 2 3:=⟨aj0⟩
instance:PlI prog 43 #[(0,2),(2,1),(3,1)]:=⟨ge3⟩
instance:TyI prog 45 (5,true,72,[e7 (0),.slice none 0 0,e7 (0),e7 (0),.slice none 0 0]):=⟨V5⟩
instance:U1 prog 45 0 0:=⟨by kernel_rfl⟩
instance:U1 prog 45 1 2:=⟨di9⟩
instance:U1 prog 45 2 3:=⟨di8⟩
instance:U1 prog 45 3 4:=⟨aw5⟩
instance:PlI prog 45 #[(0,2),(2,1),(3,1),(4,1)]:=⟨fw1⟩
instance:TyI prog 47 (25,true,360,[e7 (0),e7 (0),e7 (0),e7 (0),e7 (0),e7 (0),.slice none 0 0,e7 (0),.slice none 0 0,e7 (0),.slice none 0 0,.slice none 0 0,e7 (0),.slice none 0 0,.slice none 0 0,e7 (0),.slice none 0 0,e7 (0),.slice none 0 0,e7 (0),.slice none 0 0,e7 (0),e7 (0),.slice none 0 0,e7 (0)]):=⟨H2⟩
instance:U1 prog 47 0 0:=⟨aw4⟩
instance:U1 prog 47 1 3:=⟨aw3⟩
instance:U1 prog 47 2 7:=⟨Z8⟩
instance:U1 prog 47 3 9:=⟨cf6⟩
instance:U1 prog 47 4 12:=⟨cf5⟩
instance:U1 prog 47 5 15:=⟨cf4⟩
instance:U1 prog 47 6 19:=⟨cf3⟩
instance:U1 prog 47 7 24:=⟨aw2⟩
instance:PlI prog 47 #[(0,3),(3,4),(7,2),(9,3),(12,3),(15,4),(19,5),(24,1)]:=⟨fw0⟩
instance:TyI prog 54 (7,true,56,[e7 (0),e7 (0),e7 (0),e7 (0),e7 (0),e7 (0),e7 (0)]):=⟨z6⟩
instance:U1 prog 54 0 0:=⟨W9⟩
instance:U1 prog 54 1 1:=⟨H8⟩
instance:U1 prog 54 2 2:=⟨L7⟩
instance:U1 prog 54 3 3:=⟨H7⟩
instance:U1 prog 54 4 4:=⟨br8⟩
instance:U1 prog 54 5 5:=⟨be9⟩
instance:U1 prog 54 6 6:=⟨be8⟩
instance:PlI prog 54 #[(0,1),(1,1),(2,1),(3,1),(4,1),(5,1),(6,1)]:=⟨λ_=>by kernel_rfl⟩
instance:TyI prog 82 (6,true,48,[e7 (0),e7 (0),e7 (0),e7 (0),e7 (0),e7 (0)]):=⟨J8⟩
instance:U1 prog 82 0 0:=⟨cf2⟩
instance:U1 prog 82 1 1:=⟨af9⟩
instance:U1 prog 82 2 2:=⟨by kernel_rfl⟩
instance:U1 prog 82 3 3:=⟨by kernel_rfl⟩
instance:U1 prog 82 4 4:=⟨by kernel_rfl⟩
instance:U1 prog 82 5 5:=⟨br7⟩
instance:PlI prog 82 #[(0,1),(1,1),(2,1),(3,1),(4,1),(5,1)]:=⟨gi8⟩
instance:TyI prog 85 (2,true,32,[.slice none 0 0,e7 (0)]):=⟨by kernel_rfl⟩
instance:U1 prog 85 0 0:=⟨by kernel_rfl⟩
instance:U1 prog 85 1 1:=⟨by kernel_rfl⟩
instance:PlI prog 85 #[(0,1),(1,1)]:=⟨λ_=>by kernel_rfl⟩
instance:TyI prog 105 (2,true,16,[e7 (0),e7 (0)]):=⟨s9⟩
instance:U1 prog 105 0 0:=⟨P0⟩
instance:U1 prog 105 1 1:=⟨N9⟩
instance:PlI prog 105 #[(0,1),(1,1)]:=⟨fk9⟩
instance:TyI prog 155 (4,true,32,[e7 (0),e7 (0),e7 (0),e7 (0)]):=⟨bu9⟩
instance:TyI prog 161 (3,true,56,[e7 (0),.slice none 0 0,.slice none 0 0]):=⟨fu3⟩
instance:U1 prog 161 0 0:=⟨co0⟩
instance:PlI prog 161 #[(0,3)]:=⟨fw8⟩
instance:TyI prog 163 (3,true,56,[e7 (0),.slice none 0 0,.slice none 0 0]):=⟨fu2⟩
instance:U1 prog 163 0 0:=⟨cn9⟩
instance:PlI prog 163 #[(0,3)]:=⟨fw7⟩
instance:TyI prog 165 (4,true,64,[e7 (0),.slice none 0 0,e7 (0),.slice none 0 0]):=⟨fu1⟩
instance:U1 prog 165 0 0:=⟨cn8⟩
instance:PlI prog 165 #[(0,4)]:=⟨fw6⟩
instance:TyI prog 167 (5,true,72,[e7 (0),.slice none 0 0,e7 (0),e7 (0),.slice none 0 0]):=⟨fu0⟩
instance:U1 prog 167 0 0:=⟨cn7⟩
instance:PlI prog 167 #[(0,5)]:=⟨fw5⟩
instance:TyI prog 169 (15,true,248,[e7 (0),.slice none 0 0,.slice none 0 0,e7 (0),.slice none 0 0,.slice none 0 0,e7 (0),.slice none 0 0,e7 (0),.slice none 0 0,e7 (0),.slice none 0 0,e7 (0),e7 (0),.slice none 0 0]):=⟨ft9⟩
instance:U1 prog 169 0 0:=⟨cn6⟩
instance:U1 prog 169 1 3:=⟨cn5⟩
instance:U1 prog 169 2 6:=⟨cn4⟩
instance:U1 prog 169 3 10:=⟨cn3⟩
instance:PlI prog 169 #[(0,3),(3,3),(6,4),(10,5)]:=⟨fw4⟩
instance:TyI prog 181 (1,false,8,[.pointer none]):=⟨bi8⟩
instance:TyI prog 183 (1,false,8,[.pointer none]):=⟨bi7⟩
instance:TyI prog 193 (64,true,512,[e7 (0),e7 (0),e7 (0),e7 (0),e7 (0),e7 (0),e7 (0),e7 (0),e7 (0),e7 (0),e7 (0),e7 (0),e7 (0),e7 (0),e7 (0),e7 (0),e7 (0),e7 (0),e7 (0),e7 (0),e7 (0),e7 (0),e7 (0),e7 (0),e7 (0),e7 (0),e7 (0),e7 (0),e7 (0),e7 (0),e7 (0),e7 (0),e7 (0),e7 (0),e7 (0),e7 (0),e7 (0),e7 (0),e7 (0),e7 (0),e7 (0),e7 (0),e7 (0),e7 (0),e7 (0),e7 (0),e7 (0),e7 (0),e7 (0),e7 (0),e7 (0),e7 (0),e7 (0),e7 (0),e7 (0),e7 (0),e7 (0),e7 (0),e7 (0),e7 (0),e7 (0),e7 (0),e7 (0),e7 (0)]):=⟨ds5⟩
instance:TyI prog 198 (1,false,24,[.slice none 0 0]):=⟨bi6⟩
instance:TyI prog 200 (2,true,16,[e7 (0),e7 (0)]):=⟨L9⟩
instance:TyI prog 207 (1,false,8,[.int .u64 (0)]):=⟨M4⟩
instance:TyI prog 208 (64,true,512,[.int .u64 (0),.int .u64 (0),.int .u64 (0),.int .u64 (0),.int .u64 (0),.int .u64 (0),.int .u64 (0),.int .u64 (0),.int .u64 (0),.int .u64 (0),.int .u64 (0),.int .u64 (0),.int .u64 (0),.int .u64 (0),.int .u64 (0),.int .u64 (0),.int .u64 (0),.int .u64 (0),.int .u64 (0),.int .u64 (0),.int .u64 (0),.int .u64 (0),.int .u64 (0),.int .u64 (0),.int .u64 (0),.int .u64 (0),.int .u64 (0),.int .u64 (0),.int .u64 (0),.int .u64 (0),.int .u64 (0),.int .u64 (0),.int .u64 (0),.int .u64 (0),.int .u64 (0),.int .u64 (0),.int .u64 (0),.int .u64 (0),.int .u64 (0),.int .u64 (0),.int .u64 (0),.int .u64 (0),.int .u64 (0),.int .u64 (0),.int .u64 (0),.int .u64 (0),.int .u64 (0),.int .u64 (0),.int .u64 (0),.int .u64 (0),.int .u64 (0),.int .u64 (0),.int .u64 (0),.int .u64 (0),.int .u64 (0),.int .u64 (0),.int .u64 (0),.int .u64 (0),.int .u64 (0),.int .u64 (0),.int .u64 (0),.int .u64 (0),.int .u64 (0),.int .u64 (0)]):=⟨ft8⟩
end Go.Sl
namespace Go.Sl
open Go.Proofs
set_option maxRecDepth 4000
variable{i n:Int}{b:Nat}{lv:Value}{ls:List Int}
variable {κ:Ctx}{I:List Item}
attribute [local irreducible] W G V D A j8 Eff
abbrev ao7(b:Nat)(lv:Value)(i:Int):Item:=e8 b [lv,e7 i] 85
theorem gb0{k:Int}(h1:1<=k)(h2:k<=1000000000000):eu prog κ 38 [e7 n,e7 k] I (λr J=>∃x:Int,r=e7 x/\(0<=x/\x<k)/\I=J):=by
 have q1:=Int.tmod_lt_of_pos n (b:=k) om
 have q2:=Int.lt_tmod_of_pos n (b:=k) om
 refine Ce2 Tryz.func38 C C<|Z ?_
 refine Gr (j8.rem C C om)<|Z ?_
 refine Gr (j8.rem C C om)<|Z ?_
 have M:=Int.tmod_nonneg k (a:=Int.tmod n k+k) om
 have t2:=Int.tmod_lt_of_pos (Int.tmod n k+k) (b:=k) om
 exact Am C C _ Ah ⟨_,rfl,⟨M,t2⟩,rfl⟩
theorem dp6(hl:Sl κ (ao7 b lv i::I) lv ls)(h0:0<=i)(hn:n<=1000000000000):eu prog κ 13 [(pt b),e7 n] (e8 b [lv,e7 i] 85::I) (λr J=>∃y:Int×Int,(r=e7 y.1/\(0<=y.1/\(1<=n->y.1<n)/\(n<1->y.1=0))/\0<=y.2)/\J=[]++ao7 b lv y.2::I):=by
 refine Bx hl.le λaa=>?_
 refine Ce2 Tryz.func13 C C<|Z ?_
 refine A8 mixed<|Bv (e8 b [lv,e7 i] 85::I) 14<|Z ?_
 refine Df (d:=8) C (λg8=>Z ?_)<|λg8=>?_
 ·exact Am C C _ Ah ⟨(0,i),⟨rfl,⟨Hp _,by intro _;show (0:Int)<n;omega,λ_=>rfl⟩,h0⟩,rfl⟩
 refine Dro 3 C (Ap C)<|Z ?_
 refine Ao C (λM=>Z ?_)<|λM=>?_
 ·exact Am C C _ Ah ⟨(0,i),⟨rfl,⟨Hp _,by intro _;show (0:Int)<n;omega,λ_=>rfl⟩,h0⟩,rfl⟩
 refine Bc<|Ak<|Ax<|A8 mixed<|Bv (e8 b [lv,e7 i] 85::I) 11<|Z ?_
 refine Ge0 (Fg ef)<|Z ?_
 refine G.e (Ab c_ C C<|gb0 om om) ?_
 rintro _ _ ⟨_,_,⟨x1,rfl,ab,rfl⟩,rfl,rfl⟩
 refine Z ?_
 exact Am C C _ Ah ⟨(x1,i+1),⟨rfl,⟨by omega,by omega,by omega⟩,by show 0<=i+1;omega⟩,rfl⟩
theorem P3{F:Item->List Item}(M:AtF I (ao7 b lv i) F)(hl:Sl κ I lv ls)(h0:0<=i)(hn:n<=1000000000000):eu prog κ 13 [(pt b),e7 n] I λr J=>∃x i',r=e7 x/\(0<=x/\(1<=n->x<n)/\(n<1->x=0))/\0<=i'/\J=F (ao7 b lv i'):=
 (Fq (Z:=λ_=>[]) (X:=λy:Int×Int=>ao7 b lv y.2) M λ_ hJ _=>dp6 (hl.fit hJ) h0 hn).mono λ_ _ ⟨y,⟨h1,h2,h3⟩,h4⟩=>⟨y.1,y.2,h1,h2,h3,h4⟩
theorem ga9{a:Option Addr}{n c:Nat} :
    eu prog κ 12 [.slice a n c] I (λr J=>∃b,r = (pt b)/\J=ao7 b (.slice a n c) 0::I):=by
 refine Ce1 Tryz.func12 C C<|Z ?_
 exact Ge1 (Av (cs:=[_,_]) C C C) λb1=>Ga C<|Ar<|B3<|Am C C _ Ah ⟨b1,rfl,rfl⟩
theorem bt4{v:Value}{xs:List Int}(hl:Sl κ I v xs)(x:Int):eu prog κ 141 [v,e7 x] I (λr J=>r = .bool (decide (x∈xs))/\I=J):=by
 refine Bx hl.le λaa=>?_
 refine Ce2 Tryz.func141 C C<|Z ?_
 refine Dj (σ:=Nat) (λs=>[(9,e7 ((s:Nat):Int))]) (λ_=>[]) (λs=>(s<=xs.length)/\(∀j,j<s->e_ xs j≠x)) (λs=>xs.length - s) 0 (show ((0:Nat)<=xs.length)/\(∀j,j<(0:Nat)->e_ xs j≠x) from ⟨om,Fc⟩) ?_
 rintro k hp
 obtain ⟨hk,hn⟩:=hp
 refine Z ?_
 refine Ao C (λc10=>Z ?_)<|λc10=>Z ?_
 ·refine Ao C (λM=>Z ?_) (λM=>Z ?_)
  ·have hm:x∈xs:=by subst M;exact Bo om om
   exact Am C C _ Ah ⟨by rw [As hm],rfl⟩
  exact Bu ((k+1)) ⟨om,(Dq hn M)⟩
 have hm:x∉xs:=av4 hn om
 exact Am C C _ Ah ⟨by rw [D_ hm],rfl⟩
def aj6(xs:List Int)(nodes:Int):Prop:=∀j,j<xs.length->(0<=e_ xs j/\e_ xs j<nodes)/\(0<j->e_ xs ((j:Int) - 1)<e_ xs j)
instance (xs:List Int) (nodes:Int):Decidable (aj6 xs nodes):=by unfold aj6;infer_instance
end Go.Sl
namespace Go.Sl
open Go.Proofs
set_option maxRecDepth 4000
end Go.Sl
namespace Go.Sl
open Go.Proofs
set_option maxRecDepth 4000
variable {κ:Ctx}{I:List Item}
attribute [local irreducible] W G V D A j8 Eff
theorem cq7(n:Int):eu prog κ 179 [e7 n] I (λr J=>r = .bool false/\I=J):=by
 refine Ce1 Tryz.func179 C C<|Z ?_
 exact Am C C I Ah ⟨by simp,rfl⟩
theorem Z3(m n:Int):eu prog κ 162 [e7 m,e7 n] I (λr J=>r=e7 (bu2 m n)/\I=J):=by
 refine Ce2 Tryz.func162 C C<|Z ?_
 refine Gc0 (Ab c_ C C<|cq7 m)<|Z ?_
 refine Gc0 (Ab c_ C C<|cq7 n)<|Z ?_
 refine Ao C (λM=>Z ?_)<|λM=>Z ?_
 ·exact Am C C I Ah ⟨by unfold bu2;rw [B_ M],rfl⟩
 refine Ao C (λaa=>Z ?_)<|λaa=>Z ?_
 ·exact Am C C I Ah ⟨by unfold bu2;rw [An M,B_ aa],rfl⟩
 exact Am C C I Ah ⟨by unfold bu2;rw [An M,An aa],rfl⟩
theorem fr3{v:Value}{xs:List Int}(hl:Sl κ I v xs):eu prog κ 161 [v] I (λr J=>r=e7 (orL xs)/\I=J):=by
 refine Bx hl.le λaa=>?_
 refine Ce1 Tryz.func161 C C<|Z ?_
 refine Dj (σ:=Nat) (λs=>[(8,e7 ((s:Nat):Int))]) (λ_=>[]) (λs=>(s<=xs.length)/\(orL xs=orL (xs.drop s))) (λs=>xs.length - s) 0 (show ((0:Nat)<=xs.length)/\(orL xs=orL (xs.drop (0:Nat))) from ⟨om,rfl⟩) ?_
 rintro k hp
 obtain ⟨hk,ho⟩:=hp
 refine Z ?_
 refine Ao C (λc9=>Z ?_)<|λc9=>Z ?_
 ·refine Ao C (λM=>Z ?_) (λM=>Z ?_)
  ·exact Am C C I Ah ⟨by rw [ho,dv0 om M],rfl⟩
  exact Bu ((k+1)) ⟨om,(ho.trans<|dv1 om<|Decidable.of_not_not M)⟩
 exact Am C C I Ah ⟨by rw [ho,fm2 om],rfl⟩
end Go.Sl
namespace Go.Sl
open Go.Proofs
set_option maxRecDepth 4000
end Go.Sl
namespace Go.Sl
open Go.Proofs
set_option maxRecDepth 4000
variable {κ:Ctx}{I:List Item}
attribute [local irreducible] W G V D A j8 Eff
theorem ta5{p:Prop}(h:p:=by first|exact Gd Value.bool (Fw.2<|by unfold Pt.lt;omega)|exact Gd Value.bool (As<|by unfold Pt.lt;omega).symm|exact Gd Value.bool (D_<|by unfold Pt.lt;omega).symm):p:=h
theorem ag6(a c:Pt):eu prog κ 98 [.agg #[e7 (a.u),e7 (a.v)],.agg #[e7 (c.u),e7 (c.v)]] I (λr J=>r = .bool (decide (Pt.lt a c))/\I=J):=by
 refine Ce2 Tryz.func98 C C ?_
 refine Al<|Ge1 (Av (cs:=[_,_]) C C C) λb1=>Ge1 (Av (cs:=[_,_]) C C C) λb2=>Z ?_
 refine A4 (d:=10) C (λaa=>Z ?_)<|λaa=>Z ?_
 ·exact Am C C I Ah ⟨ta5,rfl⟩
 refine A4 (d:=16) C (λM=>Z ?_)<|λM=>Z ?_
 ·exact Am C C I Ah ⟨ta5,rfl⟩
 exact Am C C I Ah ⟨ta5,rfl⟩
theorem cz8{nd:Int}{v:Value}{es:List Pt}(hl:Sl κ I v es)(M:s8 nd es):eu prog κ 51 [.agg #[e7 nd,v]] I (λr J=>r=e7 0/\I=J):=by
 refine Bx hl.le λaj=>?_
 refine Ce1 Tryz.func51 C C ?_
 refine Al<|Ge1 (Av (cs:=[_,_]) C C C) λb1=>Z ?_
 refine A4 (d:=8) C (λg8=>?_)<|λg8=>Z ?_
 ·exact absurd M.rng om
 refine Ao C (λc12=>?_)<|λc12=>Z ?_
 ·exact absurd M.rng om
 refine Dj (σ:=Nat) (λs=>[(16,e7 ((s:Nat):Int))]) (λ_=>[]) (λs=>(s<=es.length)) (λs=>es.length - s) 0 (show ((0:Nat)<=es.length) from om) ?_
 rintro k hp
 have hk:=hp
 refine Z ?_
 refine Ao C (λab=>Z ?_)<|λab=>Z ?_
 ·refine Ge1 (Aj s9 C) λb2=>Ga C (Ge0 (Co s9)<|Z ?_)
  refine A4 (d:=24) C (λah=>?_)<|λah=>Z ?_
  ·exact absurd (M.at (k:=k) om) om
  refine A4 (d:=31) C (λai=>?_)<|λai=>Z ?_
  ·exact absurd (M.at (k:=k) om) om
  refine Ao C (λae=>?_)<|λae=>?_
  ·exact absurd (M.at (k:=k) om) om
  refine Bc<|Ak<|Ax<|A8 mixed<|Bv (e8 b2 [e7 ((e_ es k).u),e7<|(e_ es k).v] 105::e8 b1 [e7 nd,v] 38::I) 13<|Z ?_
  refine Df (d:=40) C (λad=>Z ?_)<|λad=>?_
  ·refine Ds1 10 (Sc0 C (Ab c_ C C<|ag6 (e_ es<|(k:Int) - 1)<|e_ es k)<|Z ?_)
   refine Ao C (λaa=>?_)<|λaa=>Z ?_
   ·exact absurd (M.prev (k:=k) om om) aa
   exact Bu ((k+1)) om
  refine Dpo 3 C<|Z ?_
  exact Bu ((k+1)) om
 exact Am C C I Ah ⟨rfl,rfl⟩
end Go.Sl
namespace Go.Sl
open Go.Proofs
set_option maxRecDepth 4000
end Go.Sl
namespace Go.Sl
open Go.Proofs
set_option maxRecDepth 4000
variable{u v:Value}{xs ys:List Int}
variable {κ:Ctx}{I:List Item}
attribute [local irreducible] W G V D A j8 Eff
def bn0:List Int->List Int->Int
 |[],[]=>0
 |[],_::_=> -1
 |_::_,[]=>1
 |x::xs,y::ys=>if y<x then 1 else if x<y then -1 else bn0 xs ys
theorem dm1:∀xs ys,bn0 xs ys=0↔xs=ys
 |[],[]=>by simp [bn0]
 |[],_::_=>by simp [bn0]
 |_::_,[]=>by simp [bn0]
 |x::xs,y::ys=>by
  simp only [bn0]
  split
  ·simp;omega
  split
  ·simp;omega
  rw [dm1 xs ys]
  have:x=y:=by omega
  simp [this]
theorem dm2(xs ys:List Int)(k:Nat)(M:k<xs.length)(hy:k<ys.length)(h1:¬e_ ys k<e_ xs k)(h2:¬e_ xs k<e_ ys k):bn0 (xs.drop k) (ys.drop k)=bn0 (xs.drop (k+1)) (ys.drop (k+1)):=by
 rw [Dv xs k M,Dv ys k hy]
 simp only [bn0]
 rw [An h1,An h2]
theorem bm9(xs ys:List Int)(k:Nat)(M:k<xs.length)(h:ys.length<=k\/(k<ys.length/\e_ ys k<e_ xs k)):bn0 (xs.drop k) (ys.drop k)=1:=by
 rw [Dv xs k M]
 rcases h with h|⟨hy,h⟩
 ·rw [He h];rfl
 rw [Dv ys k hy];simp only [bn0];rw [B_ h]
theorem cu9(xs ys:List Int)(k:Nat)(M:k<xs.length)(hy:k<ys.length)(h1:¬e_ ys k<e_ xs k)(h:e_ xs k<e_ ys k):bn0 (xs.drop k) (ys.drop k) = -1:=by
 rw [Dv xs k M,Dv ys k hy];simp only [bn0];rw [An h1,B_ h]
theorem co9(xs ys:List Int)(k:Nat)(M:xs.length<=k):bn0 (xs.drop k) (ys.drop k)=if k<ys.length then -1 else 0:=by
 rw [He M]
 split
 ·rename_i h;rw [Dv ys k h];rfl
 rename_i h;rw [He om];rfl
theorem fj3(hu:Sl κ I u xs)(hv:Sl κ I v ys):eu prog κ 25 [u,v] I (λr J=>r=e7 (bn0 xs ys)/\I=J):=by
 refine Bx hu.le λah=>?_
 refine Bx hv.le λab=>?_
 refine Ce2 Tryz.func25 C C<|Z ?_
 refine Dj (σ:=Nat) (λs=>[(8,e7 ((s:Nat):Int))]) (λ_=>[]) (λs=>(s<=xs.length)/\(bn0 xs ys=bn0 (xs.drop s) (ys.drop s))) (λs=>xs.length - s) 0 (show ((0:Nat)<=xs.length)/\(bn0 xs ys=bn0 (xs.drop (0:Nat)) (ys.drop (0:Nat))) from ⟨om,rfl⟩) ?_
 rintro k hp
 obtain ⟨hk,M⟩:=hp
 refine Z ?_
 refine Ao C (λc9=>Z ?_)<|λc9=>Z ?_
 ·refine A8 mixed (Bv I 16<|Z ?_)
  refine Df (d:=16) C (λae=>Z ?_)<|λae=>?_
  ·exact Am C C _ Ah ⟨by rw [M,bm9 xs ys k om<|.inl om],rfl⟩
  refine Dro 5 C (Ap C)<|Z ?_
  refine Ao C (λc11=>Z ?_)<|λc11=>?_
  ·exact Am C C _ Ah ⟨by rw [M,bm9 xs ys k om<|.inr ⟨by omega,by omega⟩],rfl⟩
  refine Ax<|A8 mixed<|Bv I 10<|Z ?_
  refine Ao C (λad=>Z ?_)<|λad=>Z ?_
  ·exact Am C C _ Ah ⟨by rw [M,cu9 xs ys k om om om om],rfl⟩
  exact Bu ((k+1)) ⟨om,(M.trans<|dm2 xs ys k om om om om)⟩
 refine Ao C (λaa=>Z ?_)<|λaa=>Z ?_
 ·exact Am C C _ Ah ⟨by rw [M,co9 xs ys k om,B_ om],rfl⟩
 exact Am C C _ Ah ⟨by rw [M,co9 xs ys k om,An om],rfl⟩
theorem do2(hu:Sl κ I u xs)(hv:Sl κ I v ys):eu prog κ 120 [u,v] I (λr J=>r = .bool (decide (xs=ys))/\I=J):=by
 refine Ce2 Tryz.func120 C C<|Z ?_
 refine A4 (d:=10) C (λM=>Z ?_)<|λM=>Z ?_
 ·refine Dt (Cm C C C) (Ab c_ C C<|fj3 (A3 hu)<|A3 hv) ?_
  rintro _ _ ⟨_,_,⟨rfl,rfl⟩,rfl,rfl⟩
  refine Z ?_
  have hb:decide (bn0 xs ys=0)=decide (xs=ys):=by rw [Fw];exact dm1 xs ys
  exact Am C C _ Ah ⟨by rw [hb],rfl⟩
 have hb:¬xs=ys:=λe=>by subst e;exact absurd rfl M
 exact Am C C _ Ah ⟨by rw [D_ hb],rfl⟩
end Go.Sl
