/- A part of the proofs of statements of this seat: contracts of functions, and the plain laws that they lean on. No conditions. -/
import Derived.Test.YtoagcglbkeomgaaGreatDoorV5
import Derived.LoopN
import Derived.Test.YtoagcglbkeomgaaGreatDoorProg
set_option linter.unusedVariables false
set_option linter.unusedSimpArgs false
set_option linter.unusedSectionVars false
open Go.Proofs.Tryz (prog)
namespace Go.Sl
theorem dg0{ord:List Int}{m:Nat}(hn:ord.Nodup)(hl:ord.length=m)(hr:∀x∈ord,0<=x/\x<m){j:Int}(h0:0<=j)(h1:j<m):j∈ord:=by
 refine Gb λhj=>?_
 have h2:(j::ord).Nodup:=Hx.2 ⟨hj,hn⟩
 have h3:∀x∈j::ord,x∈(List.range m).map λk=>((k:Nat):Int):=λx hx=>by
  have aa:0<=x/\x<m:=by
   rcases Fw.1 hx with rfl|hx
   ·exact ⟨h0,h1⟩
   exact hr x hx
  exact Gv.2 ⟨x.toNat,Hz.2<|by omega,by omega⟩
 have M:=Hk h2 h3
 simp at M;omega
section
variable {tri:List (List Pt)}{num ord:List Int}
def da6(tri:List (List Pt))(i:Int):List (Int×Int):=(e_ tri i).map λp=>(p.u,p.v)
theorem bz9(X:Int->Bool)(i:Int):cd2 (da6 tri) X i=((e_ tri i).filter λp=>X p.u&&X p.v).length:=by
 unfold cd2 da6
 rw [Lb,F_]
 rfl
theorem ab3.mono(h:ab3 tri num ord):∀(m n:Nat),n+m<ord.length->e_ num (e_ ord n)<=e_ num (e_ ord ((n+m:Nat):Int))
 |0,n,_=>Hl _
 |m+1,n,hm=>La (ab3.mono h m n<|by omega) (h.asc (n+m) hm)
theorem bv8(hG:cw6 tri)(h:ab3 tri num ord):bu8 (λi:Int=>0<=i/\i<tri.length) (da6 tri) λi=>(e_ num i).toNat:=by
 have hall:∀j:Int,0<=j->j<tri.length->∃n:Nat,n<ord.length/\e_ ord n=j:=λj h0 h1=>an6 (dg0 h.nodup h.ft9 h.rng h0 h1)
 intro i hi k
 constructor
 ·intro hk
  refine ⟨λj=>decide<|(0<=j/\j<(tri.length:Int))/\k<=(e_ num j).toNat,⟨λj hj=>(Fq hj).1,λj hj=>?_⟩,As ⟨hi,hk⟩⟩
  obtain ⟨hj1,hj2⟩:=Fq hj
  obtain ⟨n,hn,e⟩:=hall j hj1.1 hj1.2
  have hh:=h.high n hn
  rw [e] at hh
  rw [bz9]
  have hm:((e_ tri j).filter λp=>decide<|e_ num j<=e_ num p.u/\e_ num j<=e_ num p.v).length<=((e_ tri j).filter λp=>decide ((0<=p.u/\p.u<(tri.length:Int))/\k<=(e_ num p.u).toNat)&&decide ((0<=p.v/\p.v<(tri.length:Int))/\k<=(e_ num p.v).toNat)).length:=J1 λp hp hx=>by
   have h2:=Fq hx
   have h3:=(hG.rng j hj1.1 hj1.2 p hp).1
   exact L7.2 ⟨As ⟨⟨h3.1,h3.2.1⟩,by omega⟩,As ⟨h3.2.2,by omega⟩⟩
  omega
 rintro ⟨X,hX,hXi⟩
 obtain ⟨m,hm,em⟩:=hall i hi.1 hi.2
 -- the first of X in the order
 have hex:∃n,n<=m/\X (e_ ord n)=true/\∀l,l<n->X (e_ ord l)=false:=by
  have:∀q:Nat,∀m,m<=q->X (e_ ord m)=true->∃n,n<=m/\X (e_ ord n)=true/\∀l,l<n->X (e_ ord l)=false:=λq=>by
   induction q with
   |zero=>intro m hm hx;exact ⟨m,Gd _,hx,λl hl=>by omega⟩
   |succ q ih=>
    intro m hm hx
    by_cases hc:∃l,l<m/\X (e_ ord l)=true
    ·obtain ⟨l,hl,hlx⟩:=hc
     obtain ⟨n,h1,h2,h3⟩:=ih l (by omega) hlx
     exact ⟨n,by omega,h2,h3⟩
    refine ⟨m,Gd _,hx,λl hl=>?_⟩
    cases e:X (e_ ord l) with
    |false=>rfl
    |true=>exact absurd ⟨l,hl,e⟩ hc
  exact this m m (Gd _)<|by rw [em];exact hXi
 obtain ⟨n,hn,hnx,hfirst⟩:=hex
 have h1:=hX.deg _ hnx
 rw [bz9] at h1
 have hr:=h.rng _ (at_mem (xs:=ord) (i:=(n:Int)) (by omega)<|by omega)
 have h2:((e_ tri<|e_ ord n).filter λp=>X p.u&&X p.v).length<=((e_ tri<|e_ ord n).filter λp=>decide<|p.u∈List.drop (n+1) ord/\p.v∈List.drop (n+1) ord).length:=J1 λp hp hx=>by
  have h3:=hG.rng _ hr.1 hr.2 p hp
  have key:∀z:Int,X z=true->0<=z->z<tri.length->z≠e_ ord n->z∈List.drop (n+1) ord:=λz hz z0 z1 zne=>by
   obtain ⟨l,hl,el⟩:=hall z z0 z1
   have hln:¬l<n:=λhlt=>by have:=hfirst l hlt;rw [el,hz] at this;cases this
   have hln2:l≠n:=λe=>zne (by rw [←el,e])
   rw [Jv]
   refine ⟨l - (n+1),by rw [Fx];omega,?_⟩
   rw [Lu,←el,K9 ord l hl]
   congr 1;omega
  exact As ⟨key _ (L7.1 hx).1 h3.1.1 h3.1.2.1 h3.2.2.1,key _ (L7.1 hx).2 h3.1.2.2.1 h3.1.2.2.2 h3.2.2.2⟩
 have h4:=h.later n (by omega)
 have h5:=h.mono (m - n) n (by omega)
 rw [show n+(m - n)=m by omega,em] at h5
 show k<=(e_ num i).toNat
 omega
end
section
variable {α β:Type}{E:α->Prop}{F:β->Prop}{tri:α->List (α×α)}{tri':β->List (β×β)}{t:β->Nat}
theorem bu8.move(h:bu8 F tri' t)(f:α->β)(hf:∀e,E e->F (f e))(ad:∀e e',E e->E e'->f e=f e'->e=e')(an:∀b,F b->∃e,E e/\f e=b)
  (hE:∀e,E e->∀p∈tri e,E p.1/\E p.2) (ab:∀e,E e->tri' (f e)=(tri e).map λp=>(f p.1,f p.2)):bu8 E tri λe=>t (f e):=by
 have aa:∀(X:α->Bool) (Y:β->Bool) e,E e->(∀e',E e'->Y (f e')=X e')->cd2 tri' Y (f e)=cd2 tri X e:=λX Y e he ae=>by
  unfold cd2
  rw [ab e he,Lb,F_]
  congr 1
  refine Ht λp hp=>?_
  have:=hE e he p hp
  show (Y (f p.1)&&Y (f p.2))=_
  rw [ae _ this.1,ae _ this.2]
 intro e he k
 rw [h (f e) (hf e he) k]
 constructor
 ·rintro ⟨Y,hY,ak⟩
  refine ⟨λe'=>Y (f e') && @decide (E e') (Classical.propDecidable _),⟨λe' h'=> @Fq _ (Classical.propDecidable _) (L7.1 h').2,λe' h'=>?_⟩,L7.2 ⟨ak, @As _ (Classical.propDecidable _) he⟩⟩
  obtain ⟨h1,h2⟩:=L7.1 h'
  have M:= @Fq _ (Classical.propDecidable _) h2
  rw [←aa _ Y e' M λe2 ai=>by rw [@As _ (Classical.propDecidable _) ai,Bool.and_true]]
  exact hY.deg _ h1
 rintro ⟨X,hX,aj⟩
 have ah:∀e',E e'->(@decide (∃e2,E e2/\f e2=f e'/\X e2=true) (Classical.propDecidable _))=X e':=λe' M=>by
  cases hx:X e' with
  |true=>exact @As _ (Classical.propDecidable _) ⟨e',M,rfl,hx⟩
  |false=>exact @D_ _ (Classical.propDecidable _) λ⟨e2,h1,h2,h3⟩=>by rw [ad e2 e' h1 M h2,hx] at h3;cases h3
 refine ⟨λb=> @decide (∃e2,E e2/\f e2=b/\X e2=true) (Classical.propDecidable _),⟨λb hb=>?_,λb hb=>?_⟩,(ah e he).trans aj⟩
 ·obtain ⟨e2,h1,h2,_⟩:= @Fq _ (Classical.propDecidable _) hb
  rw [←h2];exact hf e2 h1
 obtain ⟨e2,h1,h2,h3⟩:= @Fq _ (Classical.propDecidable _) hb
 rw [←h2,aa X _ e2 h1 ah]
 exact hX.deg e2 h3
end
end Go.Sl
namespace Go.Sl
variable{h0 i:Int}
theorem by2{α:Type}[Inhabited α]{a b:List α}(hl:a.length=b.length)(h:∀i:Nat,i<a.length->e_ a i=e_ b i):a=b:=Mc hl λi M h2=>by
 rw [←K9 a i M,←K9 b i h2];exact h i M
def bj7(tri:List (List Pt))(b:List Int)(i:Int):List Int:=(e_ tri i).map λp=>min (e_ b p.u) (e_ b p.v)
def okS(tri:List (List Pt))(b:List Int)(i:Int):Prop:=∃h,HI (bj7 tri b i) h/\e_ b i<=h
structure an0 (tri:List (List Pt)) (t b q:List Int):Prop where
 len:b.length=tri.length
 rng:∀i∈q,0<=i/\i<tri.length
 low:∀i:Int,0<=i->i<tri.length->0<=e_ t i/\e_ t i<=e_ b i
 fix:∀i:Int,0<=i->i<tri.length->i∈q\/okS tri b i
section
variable {tri:List (List Pt)}{t b q:List Int}
theorem dm9{k:Int}(l:List Pt)(f:Pt->Int):((l.map f).filter λx=>decide (k<=x)).length=(l.filter λp=>decide (k<=f p)).length:=by
 rw [Lb,F_];rfl
theorem du3(hG:cw6 tri)(ht:bu8 (λi:Int=>0<=i/\i<tri.length) (da6 tri) λi=>(e_ t i).toNat)(h:an0 tri t b q)(hi:0<=i/\i<tri.length)(hh:HI (bj7 tri b i) h0):e_ t i<=h0:=by
 have hE:∀e:Int,(0<=e/\e<tri.length)->∀p∈da6 tri e,(0<=p.1/\p.1<tri.length)/\(0<=p.2/\p.2<tri.length):=λe he p hp=>by
  obtain ⟨x,hx,rfl⟩:=Gv.1 hp
  have:=(hG.rng e he.1 he.2 x hx).1
  exact ⟨⟨this.1,this.2.1⟩,this.2.2⟩
 have h1:=ht.high hE hi
 unfold da6 at h1
 rw [Lb,F_] at h1
 have aa:=h.low i hi.1 hi.2
 refine hh.most _ ?_
 unfold bj7
 rw [dm9]
 have h2:((e_ tri i).filter ((λp:Int×Int=>decide<|(e_ t i).toNat<=(e_ t p.1).toNat/\(e_ t i).toNat<=(e_ t p.2).toNat)∘λp=>(p.u,p.v))).length<=((e_ tri i).filter λp=>decide<|e_ t i<=min (e_ b p.u) (e_ b p.v)).length:=J1 λp hp hx=>by
  have h3:=Fq hx
  have M:=(hG.rng i hi.1 hi.2 p hp).1
  have a1:=h.low p.u M.1 M.2.1
  have a2:=h.low p.v M.2.2.1 M.2.2.2
  simp only at h3
  exact As<|by omega
 omega
theorem an0.pass(h:an0 tri t b (i::q))(hh:HI (bj7 tri b i) h0)(M:e_ b i<=h0):an0 tri t b q:=
 ⟨h.len,λj hj=>h.rng j (C_ _ hj),h.low,λj j0 j1=>by
  rcases h.fix j j0 j1 with hq|hq
  ·rcases Fw.1 hq with rfl|hq
   ·exact .inr ⟨h0,hh,M⟩
   exact .inl hq
  exact .inr hq⟩
def bj8(l:List Pt):List Int:=l.flatMap λp=>[p.u,p.v]
theorem by0{l:List Pt}{j:Int}:j∈bj8 l↔∃p∈l,j=p.u\/j=p.v:=by
 unfold bj8
 rw [Kv]
 constructor
 ·rintro ⟨p,M,h⟩;exact ⟨p,M,by simpa using h⟩
 rintro ⟨p,M,h⟩;exact ⟨p,M,by simpa using h⟩
theorem an0.sink(hG:cw6 tri)(ht:bu8 (λi:Int=>0<=i/\i<tri.length) (da6 tri) λi=>(e_ t i).toNat)(h:an0 tri t b (i::q))(hh:HI (bj7 tri b i) h0)(hlt:h0<e_ b i) :
  an0 tri t (b.set i.toNat h0) (q++bj8 (e_ tri i)):=by
 have hi:=h.rng i A_
 have ae:=h.len
 have aa:∀j:Int,0<=j->j<tri.length->e_ (b.set i.toNat h0) j=if i=j then h0 else e_ b j:=λj j0 j1=>R4 b i j h0 hi.1 j0 (by omega)
 have ab:∀j:Int,0<=j->j<tri.length->(∀p∈e_ tri j,p.u≠i/\p.v≠i)->bj7 tri (b.set i.toNat h0) j=bj7 tri b j:=λj j0 j1 ad=>by
  unfold bj7
  refine Ks λp M=>?_
  have hr:=(hG.rng j j0 j1 p M).1
  rw [aa p.u hr.1 hr.2.1,aa p.v hr.2.2.1 hr.2.2.2,An<|λe=>(ad p M).1 e.symm,An<|λe=>(ad p M).2 e.symm]
 refine ⟨by rw [Fo];exact ae,λj hj=>?_,λj j0 j1=>?_,λj j0 j1=>?_⟩
 ·rcases Gt.1 hj with hj|hj
  ·exact h.rng j<|C_ _ hj
  obtain ⟨p,M,e⟩:=by0.1 hj
  have hr:=(hG.rng i hi.1 hi.2 p M).1
  rcases e with rfl|rfl
  ·exact ⟨hr.1,hr.2.1⟩
  exact hr.2.2
 ·have hl:=h.low j j0 j1
  rw [aa j j0 j1]
  by_cases e:i=j
  ·subst e;rw [B_ rfl];exact ⟨hl.1,du3 hG ht h hi hh⟩
  rw [An e];exact hl
 by_cases e:i=j
 ·subst e
  refine .inr ⟨h0,?_,?_⟩
  ·rw [ab i j0 j1 λp M=>⟨(hG.rng i hi.1 hi.2 p M).2.2.1,(hG.rng i hi.1 hi.2 p M).2.2.2⟩];exact hh
  rw [aa i j0 j1,B_ rfl];exact Hl _
 by_cases hn:∃p∈e_ tri j,p.u=i\/p.v=i
 ·obtain ⟨p,M,hpi⟩:=hn
  refine .inl<|Lz _<|by0.2 ?_
  rcases hpi with hpi|hpi
  ·have hs:fc4 tri j i p.v:= .inl (by rw [←hpi];exact M)
   rcases hG.sym j i p.v j0 j1 hs with h3|h3
   ·exact ⟨_,h3,.inl rfl⟩
   exact ⟨_,h3,.inr rfl⟩
  have hs:fc4 tri j i p.u:= .inr (by rw [←hpi];exact M)
  rcases hG.sym j i p.u j0 j1 hs with h3|h3
  ·exact ⟨_,h3,.inl rfl⟩
  exact ⟨_,h3,.inr rfl⟩
 rcases h.fix j j0 j1 with hq|⟨h1,h2,h3⟩
 ·rcases Fw.1 hq with hq|hq
  ·exact absurd hq.symm e
  exact .inl<|Gi _ hq
 refine .inr ⟨h1,?_,?_⟩
 ·rw [ab j j0 j1 λp M=>⟨λq1=>hn ⟨p,M,.inl q1⟩,λq1=>hn ⟨p,M,.inr q1⟩⟩];exact h2
 rw [aa j j0 j1,An e];exact h3
theorem an0.done(hG:cw6 tri)(ht:bu8 (λi:Int=>0<=i/\i<tri.length) (da6 tri) λi=>(e_ t i).toNat)(h:an0 tri t b [])(hl:t.length=tri.length):b=t:=by
 have hE:∀e:Int,(0<=e/\e<tri.length)->∀p∈da6 tri e,(0<=p.1/\p.1<tri.length)/\(0<=p.2/\p.2<tri.length):=λe M p hp=>by
  obtain ⟨x,hx,rfl⟩:=Gv.1 hp
  have:=(hG.rng e M.1 M.2 x hx).1
  exact ⟨⟨this.1,this.2.1⟩,this.2.2⟩
 have aa:∀i:Int,0<=i->i<tri.length->(e_ b i).toNat=(e_ t i).toNat:=λi i0 i1=>fw1 (b:=λi=>(e_ b i).toNat) ht hE (λe M=>by have:=h.low e M.1 M.2;show (e_ t e).toNat<=(e_ b e).toNat;omega) (λe M=>by
  rcases h.fix e M.1 M.2 with hq|⟨h1,h2,h3⟩
  ·cases hq
  show (e_ b e).toNat<=_
  have h4:=h2.has
  unfold bj7 at h4
  rw [dm9] at h4
  unfold da6
  rw [Lb,F_]
  have h5:((e_ tri e).filter λp=>decide<|h1<=min (e_ b p.u) (e_ b p.v)).length<=((e_ tri e).filter ((λp:Int×Int=>decide<|(e_ b e).toNat<=(e_ b p.1).toNat/\(e_ b e).toNat<=(e_ b p.2).toNat)∘λp=>(p.u,p.v))).length:=J1 λp hp hx=>by
   have h6:=Fq hx
   exact As<|by simp only;omega
  omega) ⟨i0,i1⟩
 refine by2 (by rw [h.len,hl]) λi hi=>?_
 have h1:=aa (i:Int) (by omega) (by have:=h.len;omega)
 have h2:=h.low (i:Int) (by omega) (by have:=h.len;omega)
 omega
end
end Go.Sl
namespace Go.Sl
variable{xs:List Int}{x:Operand}{E T b by' sz:Nat}{z:List Value}{i j:Int}
section
variable {P:Program}{κ:Ctx}{N:Frm}{Q:Exit->Act->World->Prop}{L:Env}{I:List Item}
theorem W.rounds{c:Code}(n:Nat)(h:V κ N (Exit.then (Code.rounds P c Q n) Q) .normal L I):W P κ N (.loop c) Q L I:=λa w M hs=>wp_loop_rounds n (h a w M hs)
theorem V.again{c:Code}{n:Nat}(h:W P κ N c (Exit.then (Code.rounds P c Q n) Q) L I):V κ N (Exit.then (Code.rounds P c Q (n+1)) Q) .normal L I:=h
end
structure ak3 where
 b:Nat
 o:Nat
deriving Inhabited
structure P0 where
 t:Nat
 b:Nat
 o:Nat
deriving Inhabited
instance:Enc ak3:=⟨λx=>[.pointer (some ⟨x.b,x.o,none⟩)],1,by omega,λ_=>rfl,λ_ u h=>by simp at h;subst h;rfl⟩
instance:Enc P0:=⟨λx=>[.iface x.t (.pointer (some ⟨x.b,x.o,none⟩))],1,by omega,λ_=>rfl,λ_ u h=>by simp at h;subst h;rfl⟩
section
variable {P:Program}{κ:Ctx}{N:Frm}{Q:Exit->Act->World->Prop}{L:Env}{I J:List Item}
variable {d:Option Tmp}{ty:TypeId}{ps:String}{af:Array Edge}{gd:Option (Nat×Bool)}
theorem j8.gk8(hT:tyF P T=some (sz,false,by',z))(M:er L x=some (.pointer (some ⟨b,0+i.toNat*64+j.toNat*1,none⟩)))(hb:ab8 κ J b (cells xs) E)(h0:0<=i)(h1:0<=j)(hn:i*64+j<xs.length) :
  j8 P κ N ⟨d,.load T x,ty,ps,af,gd⟩ L J (e7<|e_ xs<|i*64+j):=by
 refine j8.gd5 (i:=i*64+j) hT ?_ hb (by omega) hn
 rw [M,show 0+i.toNat*64+j.toNat*1=0+(i*64+j).toNat*1 by omega]
theorem Eff.setT{y:Operand}{ag:Bool}{n:Int}{I':List Item}(hT:tyF P T=some (sz,ag,by',z))(aa:sz=1)(hx:er L x=some (.pointer (some ⟨b,0+i.toNat*64+j.toNat*1,none⟩)))(hy:er L y=some (e7 n))(h0:0<=i)(h1:0<=j)(hn:i*64+j<xs.length)
  (M:At I (e8 b (cells xs) E) (e8 b (cells<|xs.set (i*64+j).toNat n) E) I') :
  Eff P κ N Q ⟨none,.store T x y,ty,ps,af,gd⟩ L I λL' I''=>L'=L/\I''=I':=by
 refine Eff.setA (i:=i*64+j) hT aa ?_ hy (by omega) hn M
 rw [hx,show 0+i.toNat*64+j.toNat*1=0+(i*64+j).toNat*1 by omega]
end
end Go.Sl
namespace Go.Sl
def Has(I T:List Item):Prop:=∃L,I.Perm (L++T)
section
variable {κ:Ctx}{I T:List Item}
theorem Has.refl(I:List Item):Has I I:=⟨[],List.Perm.refl _⟩
theorem Has.tail{x:Item}(h:Has I T):Has (x::I) T:=by
 obtain ⟨L,hL⟩:=h
 exact ⟨x::L,hL.cons x⟩
theorem Has.app(Y:List Item)(h:Has I T):Has (Y++I) T:=by
 obtain ⟨L,hL⟩:=h
 exact ⟨Y++L,by rw [Fr];exact hL.append_left Y⟩
theorem Has.up(h:Has I T)(Y:List Item):Has (Y++I) (Y++T):=by
 obtain ⟨L,hL⟩:=h
 exact ⟨L,(hL.append_left Y).trans de8⟩
theorem Has.fit(h:Has I T):Fit κ I T:=by
 obtain ⟨L,hL⟩:=h
 exact Fit.trans (Fit.perm hL)<|Fit.az4 _ _
end
section
variable {P:Program}{κ:Ctx}{N:Frm}{Q:Exit->Act->World->Prop}{L:Env}{I J J0:List Item}{ops:Array Oper}{o:Oper}{n:Nat}
theorem ch4.read{stop fuel:Nat}{M:Array Bool}{i d:Nat}{v:Value}(hi:ops[i]? = some o)(hw:q8 N ops o L)(hd:o.dst=some d)(hN:Nat.blt d N.n=true)(hr:j8 P κ N o L I v)(hf:Fit κ I J)
  (h:D2 P κ N ops Q J0 n J stop fuel (M.setIfInBounds i true) ((d,v)::L) I):ch4 P κ N ops Q J0 n J stop fuel M L I i:=λa w ha hs=>by
 unfold wpOp
 simp only [hi,hw a ha,Lr,Oper.wp,hr a w ha hs,Oper.upon]
 have aa:=ha.put d hN v
 rw [←hd] at aa
 exact .inl ⟨hf w hs,h _ w aa hs⟩
end
end Go.Sl
namespace Go.Sl
open Go.RowKit (Below)
variable{x:Operand}{v:Value}
section
variable {P:Program}{κ:Ctx}{N:Frm}{Q:Exit->Act->World->Prop}{L:Env}{I J:List Item}{ops:Array Oper}{rest:List Oper}
variable {d:Option Tmp}{ty:TypeId}{ps:String}{af:Array Edge}{gd:Option (Nat×Bool)}
theorem j8.br5{T:TypeId}(M:∀w,(Instr.makeInterface T v).run P w = .ok (.iface T v) w)(hx:er L x=some v):j8 P κ N ⟨d,.makeInterface T x,ty,ps,af,gd⟩ L J (.iface T v):=
 λa w ha hs=>by simp [execOp,ha.eval hx,M,Result.andThen]
theorem Eff.invoke{f:FuncId}{dd:Nat}{t:TypeId}{rv:Value}{M:String}{xs:List Operand}{vs:List Value}{aa:Array TypeId}{Post:Value->List Item->Prop}(hf:V5 P f=true)(hr:er L x=some (.iface t v))
  (hm:∀w,(method (P.types.size+Made.depth) t v M).run P w = .ok (f,rv) w) (hx:T5 L xs=some vs) (hN:Nat.blt dd N.n=true) (hc:eu P κ f (rv::vs) I Post) :
  Eff P κ N Q ⟨some dd,.call {callee:= .invoke x M,args:=xs.toArray,argTypes:=aa},ty,ps,af,gd⟩ L I λL' I''=>∃v J,Post v J/\L'=(dd,v)::L/\J=I'':=λa w ha hs=>by
 have he:(execOp a.eval ⟨some dd,.call {callee:= .invoke x M,args:=xs.toArray,argTypes:=aa},ty,ps,af,gd⟩).run P w = .ok (.enter f (rv::vs).toArray) w:=by
  simp only [execOp,resolve,ha.eval hr,Go.invoke,Sem.run_bind,Sem.run_pure,Result.andThen_ok,Jp,ha.T5 hx]
  simp [callMethod,hm,ai3 hf,Result.andThen]
 simp only [Oper.wp,he,Oper.upon]
 refine (hc w hs).mono λe w' ⟨v,J,ab,hp,ad⟩=>?_
 subst ab
 exact ⟨_,_,⟨v,J,hp,rfl,rfl⟩,ha.put dd hN v,ad⟩
end
end Go.Sl
namespace Go.Sl
open Go.Proofs
abbrev Aa:= @Sub.cons
abbrev Ab:= @Tryz.underlying22
abbrev Ac:= @Eff.call
abbrev Ad:= @Tryz.underlying30
abbrev Af:= @j8.fieldAddr
abbrev Ah:= @Fit.m
abbrev Ai:= @Fit.sub
abbrev Aj:= @Eff.alloc
abbrev Ak:= @W.sr
abbrev Al:= @V.ret1
abbrev Am:= @W.ite
abbrev Ao:= @V.then
abbrev Ap:= @q8.plain
abbrev Aq:= @j8.move
abbrev Ar:= @G.nt
abbrev Au:= @Eff.box
abbrev Av:= @V.ay9
abbrev Aw:= @V.bw2
abbrev Ax:= @W.seq
abbrev Ay:= @Tryz.underlying36
abbrev Az:= @Fit.s
abbrev A0:= @Tryz.underlying33
abbrev A1:= @W.sub
abbrev A2:= @j8.idx
abbrev A3:= @G.split
abbrev A4:= @Sl.f
abbrev A5:= @Sl.o
abbrev A6:= @W.region
abbrev A7:= @W.block
abbrev A8:= @F4.fit
abbrev A9:= @Fit.trans
abbrev Ba:= @W.drawn
abbrev Bb:= @Sub.nil
abbrev Bc:= @W.skip
abbrev Bd:= @j8.ld
abbrev Be:= @Has.tail
abbrev Bf:= @Has.refl
abbrev Bg:= @Sl.fit
abbrev Bh:= @j8.assign
abbrev Bi:= @V.ca1
abbrev Bj:= @j8.extract
abbrev Bk:= @j8.lens
abbrev Bl:= @j8.lss
abbrev Bm:= @j8.lds
abbrev Bn:= @Has.app
abbrev Bo:= @j8.fy4
abbrev Bp:= @at_mem
abbrev Bq:= @G.nil
abbrev Br:= @Eff.app
abbrev Bs:= @Eff.st
abbrev Bt:= @V.nx
abbrev Bu:= @Fit.az4
abbrev Bv:= @eu.pull
abbrev Bw:= @Tryz.underlying198
abbrev Bx:= @A.hold
abbrev Bz:= @j8.fy3
abbrev B0:= @Has.fit
abbrev B1:= @p4
abbrev B2:= @Eff.bs
abbrev B3:= @W.ret
abbrev B4:= @Has.up
abbrev B5:= @j8.fz7
abbrev B6:= @j8.get
abbrev B7:= @Fit.gf9
abbrev B8:= @Tryz.underlying200
abbrev B9:= @W.loop
abbrev Ca:= @bp5
abbrev Cb:= @j8.neq
abbrev Cc:= @j8.fz9
abbrev Cd:= @D.read
abbrev Ce:= @Tryz.underlying115
abbrev Cf:= @Tryz.underlying3
abbrev Cg:= @D.stop
abbrev Ch:= @A.done
abbrev Ci:= @W.exit
abbrev Cj:= @Fit.perm
abbrev Ck:= @V.cj4
abbrev Cl:= @j8.build
abbrev Cm:= @eu.fit
abbrev Cn:= @q8.on
abbrev Co:= @dx6
abbrev Cp:= @V.gf3
abbrev Cq:= @Tryz.underlying205
abbrev Cr:= @Tryz.underlying189
abbrev Cs:= @gj3
abbrev Ct:= @K9
abbrev Cu:= @V.gf2
abbrev Cv:= @j8.add
abbrev Cw:= @Eff.set
abbrev Cx:= @j8.eql
abbrev Cy:= @Eff.gi1
abbrev Cz:= @Sl.vec
abbrev C0:= @Tryz.underlying155
abbrev C1:= @de8
abbrev C2:= @j8.gg1
abbrev C3:= @V.ret2
abbrev C4:= @Fit.K6
abbrev C5:= @dd6
abbrev C6:= @j8.gk7
abbrev C7:= @Tryz.underlying208
abbrev C8:= @gj1
abbrev C9:= @D.step
abbrev Da:= @gj2
abbrev Db:= @dx5
abbrev Dc:= @Pt.bs7
abbrev Dd:= @Fit.refl
abbrev De:= @V.again
abbrev Df:= @Q9
abbrev Dg:= @A.read
abbrev Dh:= @W.lq
abbrev Di:= @all_succ
abbrev Dj:= @D.split
abbrev Dk:= @Eff.make
abbrev Dl:= @ab8.of
abbrev Dm:= @V.mi
abbrev Dn:= @j8.lo
abbrev Do:= @gk9
abbrev Dp:= @W.cond
abbrev Dq:= @G.fit
abbrev Ds:= @G.eff
abbrev Dt:= @ch4.eff
abbrev Du:= @R2
abbrev Dv:= @ao8
abbrev D0:= @j8.makeFunc
abbrev D1:= @Eff.invoke
abbrev D3:= @K0
abbrev D4:= @P6
abbrev D5:= @Tryz.underlying233
abbrev D6:= @Tryz.underlying228
abbrev D7:= @Tryz.underlying212
abbrev D8:= @Tryz.underlying184
abbrev D9:= @Tryz.underlying182
abbrev Ea:= @Tryz.underlying105
abbrev Eb:= @j8.fo2
abbrev Ec:= @j8.orB
abbrev Ed:= @j8.gtr
abbrev Ee:= @A.ho
abbrev Ef:= @j8.nilCheck
abbrev Eg:= @j8.fb6
abbrev Eh:= @j8.andB
abbrev Ei:= @R4
abbrev Ej:= @all2
abbrev Ek:= @V.retc
abbrev El:= @ab8.fit
abbrev Em:= @fz4
abbrev En:= @T2
abbrev Eo:= @j8.mul
abbrev Ep:= @gi8
abbrev Er:= @Sl.drop
abbrev Es:= @dh2
abbrev Et:= @Tryz.underlying47
abbrev Eu:= @Tryz.underlying45
abbrev Ew:= @Tryz.underlying41
abbrev Ex:= @Tryz.underlying38
abbrev Ey:= @j8.fq3
abbrev Ez:= @D2.step
abbrev E0:= @cs5
abbrev E1:= @j8.gk5
abbrev E2:= @j8.gg8
abbrev E3:= @j8.not
abbrev E4:= @di8
abbrev E5:= @gj0
abbrev E6:= @by2
abbrev E7:= @Eff.clone
abbrev E8:= @all_zero
abbrev E9:= @j8.max
abbrev Fa:= @Fit.tail
abbrev Fb:= @gi9
abbrev Fc:= @gj4
abbrev Fd:= @ao0
abbrev Fe:= @D2.read
abbrev Ff:= @dn8
abbrev Fg:= @Tryz.underlying5
abbrev Fh:= @j8.shrB
abbrev Fi:= @j8.gk2
abbrev Fj:= @j8.gh0
abbrev Fk:= @Eff.gh7
abbrev Fl:= @eu.at
abbrev Fm:= @j8.gh1
theorem kr{p:Prop}(h:p:=by kernel_rfl):p:=h
theorem dc{p:Prop}(h:p:=by decide):p:=h
theorem lcn{p:Prop}(h:p:=by simp only [E_,Fu];omega):p:=h
theorem asm{p:Prop}(h:p:=by assumption):p:=h
theorem lat{p:Prop}(h:p:=by first|omega|(simp only [By,Fp,Fx,Fy]<;>omega)):p:=h
theorem lap{p:Prop}(h:p:=by simp only [By,E_,Fu];omega):p:=h
theorem olp{p:Prop}(h:p:=by first|omega|(simp only [By,E_,Fu];omega)):p:=h
theorem olr{p:Prop}(h:p:=by first|omega|(simp only [Fy];omega)):p:=h
end Go.Sl
namespace Go.Sl
open Go.Proofs
theorem ty2:tyF prog 2=some (1,false,8,[e7 (0)]):=by kernel_rfl
theorem ef:tyF prog 3=some (1,false,8,[e7 (0)]):=by kernel_rfl
theorem ty4:tyF prog 4=some (1,false,1,[.bool false]):=by kernel_rfl
theorem ty5:tyF prog 5=some (1,false,1,[.int .u8 (0)]):=by kernel_rfl
theorem U1:tyF prog 22=some (1,false,24,[.slice none 0 0]):=by kernel_rfl
theorem da5:tyF prog 29=some (3,true,24,[e7 (0),e7 (0),e7 (0)]):=by kernel_rfl
theorem U8:U2 prog 29 0=some 0:=by kernel_rfl
theorem ao6:U2 prog 29 1=some 1:=by kernel_rfl
theorem bg0:U2 prog 29 2=some 2:=by kernel_rfl
theorem ap8:tyF prog 30=some (1,false,24,[.slice none 0 0]):=by kernel_rfl
theorem J4:tyF prog 32=some (4,true,48,[e7 (0),e7 (0),e7 (0),.slice none 0 0]):=by kernel_rfl
theorem bf9:U2 prog 32 0=some 0:=by kernel_rfl
theorem U7:U2 prog 32 1=some 1:=by kernel_rfl
theorem cf8:U2 prog 32 2=some 2:=by kernel_rfl
theorem R1:U2 prog 32 3=some 3:=by kernel_rfl
theorem ap3:tyF prog 33=some (1,false,24,[.slice none 0 0]):=by kernel_rfl
theorem V3:tyF prog 35=some (2,true,32,[e7 (0),.slice none 0 0]):=by kernel_rfl
theorem aj4:U2 prog 35 0=some 0:=by kernel_rfl
theorem L6:U2 prog 35 1=some 1:=by kernel_rfl
theorem gf5(w:World):(H8 prog 35).run prog w = .ok #[(0,1),(1,1)] w:=by kernel_rfl
theorem an1:tyF prog 36=some (1,false,24,[.slice none 0 0]):=by kernel_rfl
theorem J8:tyF prog 38=some (2,true,32,[e7 (0),.slice none 0 0]):=by kernel_rfl
theorem ag2:U2 prog 38 0=some 0:=by kernel_rfl
theorem K4:U2 prog 38 1=some 1:=by kernel_rfl
theorem fx7(w:World):(H8 prog 38).run prog w = .ok #[(0,1),(1,1)] w:=by kernel_rfl
theorem ab7:tyF prog 40=some (3,true,56,[e7 (0),.slice none 0 0,.slice none 0 0]):=by kernel_rfl
theorem dk1:U2 prog 40 0=some 0:=by kernel_rfl
theorem ao5:U2 prog 40 1=some 2:=by kernel_rfl
theorem gk1(w:World):(H8 prog 40).run prog w = .ok #[(0,2),(2,1)] w:=by kernel_rfl
theorem L4:tyF prog 41=some (3,true,56,[e7 (0),.slice none 0 0,.slice none 0 0]):=by kernel_rfl
theorem bf8:U2 prog 41 0=some 0:=by kernel_rfl
theorem cf7:U2 prog 41 1=some 2:=by kernel_rfl
theorem fx6(w:World):(H8 prog 41).run prog w = .ok #[(0,2),(2,1)] w:=by kernel_rfl
theorem ad3:tyF prog 43=some (4,true,64,[e7 (0),.slice none 0 0,e7 (0),.slice none 0 0]):=by kernel_rfl
theorem dk0:U2 prog 43 0=some 0:=by kernel_rfl
theorem dj9:U2 prog 43 1=some 2:=by kernel_rfl
theorem ac9:U2 prog 43 2=some 3:=by kernel_rfl
theorem gf4(w:World):(H8 prog 43).run prog w = .ok #[(0,2),(2,1),(3,1)] w:=by kernel_rfl
theorem V6:tyF prog 45=some (5,true,72,[e7 (0),.slice none 0 0,e7 (0),e7 (0),.slice none 0 0]):=by kernel_rfl
theorem dj8:U2 prog 45 1=some 2:=by kernel_rfl
theorem dj7:U2 prog 45 2=some 3:=by kernel_rfl
theorem aj3:U2 prog 45 3=some 4:=by kernel_rfl
theorem fx5(w:World):(H8 prog 45).run prog w = .ok #[(0,2),(2,1),(3,1),(4,1)] w:=by kernel_rfl
theorem H2:tyF prog 47=some (25,true,360,[e7 (0),e7 (0),e7 (0),e7 (0),e7 (0),e7 (0),.slice none 0 0,e7 (0),.slice none 0 0,e7 (0),.slice none 0 0,.slice none 0 0,e7 (0),.slice none 0 0,.slice none 0 0,e7 (0),.slice none 0 0,e7 (0),.slice none 0 0,e7 (0),.slice none 0 0,e7 (0),e7 (0),.slice none 0 0,e7 (0)]):=by kernel_rfl
theorem bf7:U2 prog 47 0=some 0:=by kernel_rfl
theorem aw7:U2 prog 47 1=some 3:=by kernel_rfl
theorem T4:U2 prog 47 2=some 7:=by kernel_rfl
theorem bf6:U2 prog 47 3=some 9:=by kernel_rfl
theorem cf6:U2 prog 47 4=some 12:=by kernel_rfl
theorem bf5:U2 prog 47 5=some 15:=by kernel_rfl
theorem bf4:U2 prog 47 6=some 19:=by kernel_rfl
theorem bf3:U2 prog 47 7=some 24:=by kernel_rfl
theorem fx4(w:World):(H8 prog 47).run prog w = .ok #[(0,3),(3,4),(7,2),(9,3),(12,3),(15,4),(19,5),(24,1)] w:=by kernel_rfl
theorem s9:tyF prog 54=some (7,true,56,[e7 (0),e7 (0),e7 (0),e7 (0),e7 (0),e7 (0),e7 (0)]):=by kernel_rfl
theorem X0:U2 prog 54 0=some 0:=by kernel_rfl
theorem R0:U2 prog 54 1=some 1:=by kernel_rfl
theorem L5:U2 prog 54 2=some 2:=by kernel_rfl
theorem H6:U2 prog 54 3=some 3:=by kernel_rfl
theorem bs4:U2 prog 54 4=some 4:=by kernel_rfl
theorem bf2:U2 prog 54 5=some 5:=by kernel_rfl
theorem bf1:U2 prog 54 6=some 6:=by kernel_rfl
theorem gk0(w:World):(H8 prog 54).run prog w = .ok #[(0,1),(1,1),(2,1),(3,1),(4,1),(5,1),(6,1)] w:=by kernel_rfl
theorem J2:tyF prog 82=some (6,true,48,[e7 (0),e7 (0),e7 (0),e7 (0),e7 (0),e7 (0)]):=by kernel_rfl
theorem aw6:U2 prog 82 0=some 0:=by kernel_rfl
theorem W9:U2 prog 82 1=some 1:=by kernel_rfl
theorem bs3:U2 prog 82 5=some 5:=by kernel_rfl
theorem gj9(w:World):(H8 prog 82).run prog w = .ok #[(0,1),(1,1),(2,1),(3,1),(4,1),(5,1)] w:=by kernel_rfl
end Go.Sl
namespace Go.Sl
open Go.Proofs
theorem s8:tyF prog 105=some (2,true,16,[e7 (0),e7 (0)]):=by kernel_rfl
theorem N8:U2 prog 105 0=some 0:=by kernel_rfl
theorem N7:U2 prog 105 1=some 1:=by kernel_rfl
theorem fn2(w:World):(H8 prog 105).run prog w = .ok #[(0,1),(1,1)] w:=by kernel_rfl
theorem bv4:tyF prog 155=some (4,true,32,[e7 (0),e7 (0),e7 (0),e7 (0)]):=by kernel_rfl
theorem fv7:tyF prog 161=some (3,true,56,[e7 (0),.slice none 0 0,.slice none 0 0]):=by kernel_rfl
theorem co1:U2 prog 161 0=some 0:=by kernel_rfl
theorem fy2(w:World):(H8 prog 161).run prog w = .ok #[(0,3)] w:=by kernel_rfl
theorem fv6:tyF prog 163=some (3,true,56,[e7 (0),.slice none 0 0,.slice none 0 0]):=by kernel_rfl
theorem co0:U2 prog 163 0=some 0:=by kernel_rfl
theorem fy1(w:World):(H8 prog 163).run prog w = .ok #[(0,3)] w:=by kernel_rfl
theorem fv5:tyF prog 165=some (4,true,64,[e7 (0),.slice none 0 0,e7 (0),.slice none 0 0]):=by kernel_rfl
theorem cn9:U2 prog 165 0=some 0:=by kernel_rfl
theorem fy0(w:World):(H8 prog 165).run prog w = .ok #[(0,4)] w:=by kernel_rfl
theorem fv4:tyF prog 167=some (5,true,72,[e7 (0),.slice none 0 0,e7 (0),e7 (0),.slice none 0 0]):=by kernel_rfl
theorem cn8:U2 prog 167 0=some 0:=by kernel_rfl
theorem fx9(w:World):(H8 prog 167).run prog w = .ok #[(0,5)] w:=by kernel_rfl
theorem fv3:tyF prog 169=some (15,true,248,[e7 (0),.slice none 0 0,.slice none 0 0,e7 (0),.slice none 0 0,.slice none 0 0,e7 (0),.slice none 0 0,e7 (0),.slice none 0 0,e7 (0),.slice none 0 0,e7 (0),e7 (0),.slice none 0 0]):=by kernel_rfl
theorem cn7:U2 prog 169 0=some 0:=by kernel_rfl
theorem cn6:U2 prog 169 1=some 3:=by kernel_rfl
theorem cn5:U2 prog 169 2=some 6:=by kernel_rfl
theorem cn4:U2 prog 169 3=some 10:=by kernel_rfl
theorem fx8(w:World):(H8 prog 169).run prog w = .ok #[(0,3),(3,3),(6,4),(10,5)] w:=by kernel_rfl
theorem bj5:tyF prog 181=some (1,false,8,[.pointer none]):=by kernel_rfl
theorem bj4:tyF prog 183=some (1,false,8,[.pointer none]):=by kernel_rfl
theorem dt5:tyF prog 193=some (64,true,512,[e7 (0),e7 (0),e7 (0),e7 (0),e7 (0),e7 (0),e7 (0),e7 (0),e7 (0),e7 (0),e7 (0),e7 (0),e7 (0),e7 (0),e7 (0),e7 (0),e7 (0),e7 (0),e7 (0),e7 (0),e7 (0),e7 (0),e7 (0),e7 (0),e7 (0),e7 (0),e7 (0),e7 (0),e7 (0),e7 (0),e7 (0),e7 (0),e7 (0),e7 (0),e7 (0),e7 (0),e7 (0),e7 (0),e7 (0),e7 (0),e7 (0),e7 (0),e7 (0),e7 (0),e7 (0),e7 (0),e7 (0),e7 (0),e7 (0),e7 (0),e7 (0),e7 (0),e7 (0),e7 (0),e7 (0),e7 (0),e7 (0),e7 (0),e7 (0),e7 (0),e7 (0),e7 (0),e7 (0),e7 (0)]):=by kernel_rfl
theorem bj3:tyF prog 198=some (1,false,24,[.slice none 0 0]):=by kernel_rfl
theorem L8:tyF prog 200=some (2,true,16,[e7 (0),e7 (0)]):=by kernel_rfl
theorem M4:tyF prog 207=some (1,false,8,[.int .u64 (0)]):=by kernel_rfl
theorem fv2:tyF prog 208=some (64,true,512,[.int .u64 (0),.int .u64 (0),.int .u64 (0),.int .u64 (0),.int .u64 (0),.int .u64 (0),.int .u64 (0),.int .u64 (0),.int .u64 (0),.int .u64 (0),.int .u64 (0),.int .u64 (0),.int .u64 (0),.int .u64 (0),.int .u64 (0),.int .u64 (0),.int .u64 (0),.int .u64 (0),.int .u64 (0),.int .u64 (0),.int .u64 (0),.int .u64 (0),.int .u64 (0),.int .u64 (0),.int .u64 (0),.int .u64 (0),.int .u64 (0),.int .u64 (0),.int .u64 (0),.int .u64 (0),.int .u64 (0),.int .u64 (0),.int .u64 (0),.int .u64 (0),.int .u64 (0),.int .u64 (0),.int .u64 (0),.int .u64 (0),.int .u64 (0),.int .u64 (0),.int .u64 (0),.int .u64 (0),.int .u64 (0),.int .u64 (0),.int .u64 (0),.int .u64 (0),.int .u64 (0),.int .u64 (0),.int .u64 (0),.int .u64 (0),.int .u64 (0),.int .u64 (0),.int .u64 (0),.int .u64 (0),.int .u64 (0),.int .u64 (0),.int .u64 (0),.int .u64 (0),.int .u64 (0),.int .u64 (0),.int .u64 (0),.int .u64 (0),.int .u64 (0),.int .u64 (0)]):=by kernel_rfl
end Go.Sl
namespace Go.Sl
open Go.Proofs
theorem c_{f:Nat}(h:V5 prog f=true:=by kernel_rfl):V5 prog f=true:=h
end Go.Sl
namespace Go.Sl
open Go.Proofs
theorem mixed:prog.follows .mixedOrders=true:=by kernel_rfl
end Go.Sl
namespace Go.Sl
open Go.Proofs
instance:cb0 prog 22 3:=⟨Ab⟩
instance:ap6 prog 29:=⟨⟨_,Tryz.underlying29⟩⟩
instance:cb0 prog 30 54:=⟨Ad⟩
instance:ap6 prog 32:=⟨⟨_,Tryz.underlying32⟩⟩
instance:cb0 prog 33 82:=⟨A0⟩
instance:ap6 prog 35:=⟨⟨_,Tryz.underlying35⟩⟩
instance:cb0 prog 36 105:=⟨Ay⟩
instance:ap6 prog 38:=⟨⟨_,Ex⟩⟩
instance:ap6 prog 40:=⟨⟨_,Tryz.underlying40⟩⟩
instance:ap6 prog 41:=⟨⟨_,Ew⟩⟩
instance:ap6 prog 43:=⟨⟨_,Tryz.underlying43⟩⟩
instance:ap6 prog 45:=⟨⟨_,Eu⟩⟩
instance:ap6 prog 47:=⟨⟨_,Et⟩⟩
instance:ap6 prog 54:=⟨⟨_,Tryz.underlying54⟩⟩
instance:ap6 prog 82:=⟨⟨_,Tryz.underlying82⟩⟩
instance:ap6 prog 85:=⟨⟨_,Tryz.underlying85⟩⟩
instance:ap6 prog 105:=⟨⟨_,Ea⟩⟩
instance:cb0 prog 115 117:=⟨Ce⟩
instance:ap6 prog 161:=⟨⟨_,Tryz.underlying161⟩⟩
instance:ap6 prog 163:=⟨⟨_,Tryz.underlying163⟩⟩
instance:ap6 prog 165:=⟨⟨_,Tryz.underlying165⟩⟩
instance:ap6 prog 167:=⟨⟨_,Tryz.underlying167⟩⟩
instance:ap6 prog 169:=⟨⟨_,Tryz.underlying169⟩⟩
instance:cb0 prog 182 181:=⟨D9⟩
instance:cb0 prog 184 183:=⟨D8⟩
instance:cb0 prog 189 22:=⟨Cr⟩
instance:cb0 prog 198 200:=⟨Bw⟩
instance:cb0 prog 205 207:=⟨Cq⟩
instance:cb0 prog 212 198:=⟨D7⟩
instance:cb0 prog 214 4:=⟨Tryz.underlying214⟩
instance:TyI prog 2 (1,false,8,[e7 (0)]):=⟨ty2⟩
instance:TyI prog 3 (1,false,8,[e7 (0)]):=⟨ef⟩
instance:TyI prog 4 (1,false,1,[.bool false]):=⟨ty4⟩
instance:TyI prog 5 (1,false,1,[.int .u8 (0)]):=⟨ty5⟩
instance:TyI prog 22 (1,false,24,[.slice none 0 0]):=⟨U1⟩
instance:TyI prog 29 (3,true,24,[e7 (0),e7 (0),e7 (0)]):=⟨da5⟩
instance:U0 prog 29 0 0:=⟨U8⟩
instance:U0 prog 29 1 1:=⟨ao6⟩
instance:U0 prog 29 2 2:=⟨bg0⟩
instance:PlI prog 29 #[(0,1),(1,1),(2,1)]:=⟨λ_=>by kernel_rfl⟩
instance:TyI prog 30 (1,false,24,[.slice none 0 0]):=⟨ap8⟩
instance:TyI prog 32 (4,true,48,[e7 (0),e7 (0),e7 (0),.slice none 0 0]):=⟨J4⟩
instance:U0 prog 32 0 0:=⟨bf9⟩
instance:U0 prog 32 1 1:=⟨U7⟩
instance:U0 prog 32 2 2:=⟨cf8⟩
instance:U0 prog 32 3 3:=⟨R1⟩
instance:PlI prog 32 #[(0,1),(1,1),(2,1),(3,1)]:=⟨λ_=>by kernel_rfl⟩
instance:TyI prog 33 (1,false,24,[.slice none 0 0]):=⟨ap3⟩
instance:TyI prog 35 (2,true,32,[e7 (0),.slice none 0 0]):=⟨V3⟩
instance:U0 prog 35 0 0:=⟨aj4⟩
instance:U0 prog 35 1 1:=⟨L6⟩
instance:PlI prog 35 #[(0,1),(1,1)]:=⟨gf5⟩
instance:TyI prog 36 (1,false,24,[.slice none 0 0]):=⟨an1⟩
instance:TyI prog 38 (2,true,32,[e7 (0),.slice none 0 0]):=⟨J8⟩
instance:U0 prog 38 0 0:=⟨ag2⟩
instance:U0 prog 38 1 1:=⟨K4⟩
instance:PlI prog 38 #[(0,1),(1,1)]:=⟨fx7⟩
instance:TyI prog 40 (3,true,56,[e7 (0),.slice none 0 0,.slice none 0 0]):=⟨ab7⟩
instance:U0 prog 40 0 0:=⟨dk1⟩
instance:U0 prog 40 1 2:=⟨ao5⟩
instance:PlI prog 40 #[(0,2),(2,1)]:=⟨gk1⟩
instance:TyI prog 41 (3,true,56,[e7 (0),.slice none 0 0,.slice none 0 0]):=⟨L4⟩
instance:U0 prog 41 0 0:=⟨bf8⟩
instance:U0 prog 41 1 2:=⟨cf7⟩
instance:PlI prog 41 #[(0,2),(2,1)]:=⟨fx6⟩
instance:TyI prog 43 (4,true,64,[e7 (0),.slice none 0 0,e7 (0),.slice none 0 0]):=⟨ad3⟩
instance:U0 prog 43 0 0:=⟨dk0⟩
instance:U0 prog 43 1 2:=⟨dj9⟩
instance:U0 prog 43 2 3:=⟨ac9⟩
instance:PlI prog 43 #[(0,2),(2,1),(3,1)]:=⟨gf4⟩
instance:TyI prog 45 (5,true,72,[e7 (0),.slice none 0 0,e7 (0),e7 (0),.slice none 0 0]):=⟨V6⟩
instance:U0 prog 45 0 0:=⟨by kernel_rfl⟩
instance:U0 prog 45 1 2:=⟨dj8⟩
instance:U0 prog 45 2 3:=⟨dj7⟩
instance:U0 prog 45 3 4:=⟨aj3⟩
instance:PlI prog 45 #[(0,2),(2,1),(3,1),(4,1)]:=⟨fx5⟩
instance:TyI prog 47 (25,true,360,[e7 (0),e7 (0),e7 (0),e7 (0),e7 (0),e7 (0),.slice none 0 0,e7 (0),.slice none 0 0,e7 (0),.slice none 0 0,.slice none 0 0,e7 (0),.slice none 0 0,.slice none 0 0,e7 (0),.slice none 0 0,e7 (0),.slice none 0 0,e7 (0),.slice none 0 0,e7 (0),e7 (0),.slice none 0 0,e7 (0)]):=⟨H2⟩
instance:U0 prog 47 0 0:=⟨bf7⟩
instance:U0 prog 47 1 3:=⟨aw7⟩
instance:U0 prog 47 2 7:=⟨T4⟩
instance:U0 prog 47 3 9:=⟨bf6⟩
instance:U0 prog 47 4 12:=⟨cf6⟩
instance:U0 prog 47 5 15:=⟨bf5⟩
instance:U0 prog 47 6 19:=⟨bf4⟩
instance:U0 prog 47 7 24:=⟨bf3⟩
instance:PlI prog 47 #[(0,3),(3,4),(7,2),(9,3),(12,3),(15,4),(19,5),(24,1)]:=⟨fx4⟩
instance:TyI prog 54 (7,true,56,[e7 (0),e7 (0),e7 (0),e7 (0),e7 (0),e7 (0),e7 (0)]):=⟨s9⟩
instance:U0 prog 54 0 0:=⟨X0⟩
instance:U0 prog 54 1 1:=⟨R0⟩
instance:U0 prog 54 2 2:=⟨L5⟩
instance:U0 prog 54 3 3:=⟨H6⟩
instance:U0 prog 54 4 4:=⟨bs4⟩
instance:U0 prog 54 5 5:=⟨bf2⟩
instance:U0 prog 54 6 6:=⟨bf1⟩
instance:PlI prog 54 #[(0,1),(1,1),(2,1),(3,1),(4,1),(5,1),(6,1)]:=⟨gk0⟩
instance:TyI prog 82 (6,true,48,[e7 (0),e7 (0),e7 (0),e7 (0),e7 (0),e7 (0)]):=⟨J2⟩
instance:U0 prog 82 0 0:=⟨aw6⟩
instance:U0 prog 82 1 1:=⟨W9⟩
instance:U0 prog 82 2 2:=⟨by kernel_rfl⟩
instance:U0 prog 82 3 3:=⟨by kernel_rfl⟩
instance:U0 prog 82 4 4:=⟨by kernel_rfl⟩
instance:U0 prog 82 5 5:=⟨bs3⟩
instance:PlI prog 82 #[(0,1),(1,1),(2,1),(3,1),(4,1),(5,1)]:=⟨gj9⟩
instance:TyI prog 85 (2,true,32,[.slice none 0 0,e7 (0)]):=⟨by kernel_rfl⟩
instance:U0 prog 85 0 0:=⟨by kernel_rfl⟩
instance:U0 prog 85 1 1:=⟨by kernel_rfl⟩
instance:PlI prog 85 #[(0,1),(1,1)]:=⟨λ_=>by kernel_rfl⟩
instance:TyI prog 105 (2,true,16,[e7 (0),e7 (0)]):=⟨s8⟩
instance:U0 prog 105 0 0:=⟨N8⟩
instance:U0 prog 105 1 1:=⟨N7⟩
instance:PlI prog 105 #[(0,1),(1,1)]:=⟨fn2⟩
instance:TyI prog 155 (4,true,32,[e7 (0),e7 (0),e7 (0),e7 (0)]):=⟨bv4⟩
instance:TyI prog 161 (3,true,56,[e7 (0),.slice none 0 0,.slice none 0 0]):=⟨fv7⟩
instance:U0 prog 161 0 0:=⟨co1⟩
instance:PlI prog 161 #[(0,3)]:=⟨fy2⟩
instance:TyI prog 163 (3,true,56,[e7 (0),.slice none 0 0,.slice none 0 0]):=⟨fv6⟩
instance:U0 prog 163 0 0:=⟨co0⟩
instance:PlI prog 163 #[(0,3)]:=⟨fy1⟩
instance:TyI prog 165 (4,true,64,[e7 (0),.slice none 0 0,e7 (0),.slice none 0 0]):=⟨fv5⟩
instance:U0 prog 165 0 0:=⟨cn9⟩
instance:PlI prog 165 #[(0,4)]:=⟨fy0⟩
instance:TyI prog 167 (5,true,72,[e7 (0),.slice none 0 0,e7 (0),e7 (0),.slice none 0 0]):=⟨fv4⟩
instance:U0 prog 167 0 0:=⟨cn8⟩
instance:PlI prog 167 #[(0,5)]:=⟨fx9⟩
instance:TyI prog 169 (15,true,248,[e7 (0),.slice none 0 0,.slice none 0 0,e7 (0),.slice none 0 0,.slice none 0 0,e7 (0),.slice none 0 0,e7 (0),.slice none 0 0,e7 (0),.slice none 0 0,e7 (0),e7 (0),.slice none 0 0]):=⟨fv3⟩
instance:U0 prog 169 0 0:=⟨cn7⟩
instance:U0 prog 169 1 3:=⟨cn6⟩
instance:U0 prog 169 2 6:=⟨cn5⟩
instance:U0 prog 169 3 10:=⟨cn4⟩
instance:PlI prog 169 #[(0,3),(3,3),(6,4),(10,5)]:=⟨fx8⟩
instance:TyI prog 181 (1,false,8,[.pointer none]):=⟨bj5⟩
instance:TyI prog 183 (1,false,8,[.pointer none]):=⟨bj4⟩
instance:TyI prog 193 (64,true,512,[e7 (0),e7 (0),e7 (0),e7 (0),e7 (0),e7 (0),e7 (0),e7 (0),e7 (0),e7 (0),e7 (0),e7 (0),e7 (0),e7 (0),e7 (0),e7 (0),e7 (0),e7 (0),e7 (0),e7 (0),e7 (0),e7 (0),e7 (0),e7 (0),e7 (0),e7 (0),e7 (0),e7 (0),e7 (0),e7 (0),e7 (0),e7 (0),e7 (0),e7 (0),e7 (0),e7 (0),e7 (0),e7 (0),e7 (0),e7 (0),e7 (0),e7 (0),e7 (0),e7 (0),e7 (0),e7 (0),e7 (0),e7 (0),e7 (0),e7 (0),e7 (0),e7 (0),e7 (0),e7 (0),e7 (0),e7 (0),e7 (0),e7 (0),e7 (0),e7 (0),e7 (0),e7 (0),e7 (0),e7 (0)]):=⟨dt5⟩
instance:TyI prog 198 (1,false,24,[.slice none 0 0]):=⟨bj3⟩
instance:TyI prog 200 (2,true,16,[e7 (0),e7 (0)]):=⟨L8⟩
instance:TyI prog 207 (1,false,8,[.int .u64 (0)]):=⟨M4⟩
instance:TyI prog 208 (64,true,512,[.int .u64 (0),.int .u64 (0),.int .u64 (0),.int .u64 (0),.int .u64 (0),.int .u64 (0),.int .u64 (0),.int .u64 (0),.int .u64 (0),.int .u64 (0),.int .u64 (0),.int .u64 (0),.int .u64 (0),.int .u64 (0),.int .u64 (0),.int .u64 (0),.int .u64 (0),.int .u64 (0),.int .u64 (0),.int .u64 (0),.int .u64 (0),.int .u64 (0),.int .u64 (0),.int .u64 (0),.int .u64 (0),.int .u64 (0),.int .u64 (0),.int .u64 (0),.int .u64 (0),.int .u64 (0),.int .u64 (0),.int .u64 (0),.int .u64 (0),.int .u64 (0),.int .u64 (0),.int .u64 (0),.int .u64 (0),.int .u64 (0),.int .u64 (0),.int .u64 (0),.int .u64 (0),.int .u64 (0),.int .u64 (0),.int .u64 (0),.int .u64 (0),.int .u64 (0),.int .u64 (0),.int .u64 (0),.int .u64 (0),.int .u64 (0),.int .u64 (0),.int .u64 (0),.int .u64 (0),.int .u64 (0),.int .u64 (0),.int .u64 (0),.int .u64 (0),.int .u64 (0),.int .u64 (0),.int .u64 (0),.int .u64 (0),.int .u64 (0),.int .u64 (0),.int .u64 (0)]):=⟨fv2⟩
end Go.Sl
namespace Go.Sl
open Go.Proofs
set_option maxRecDepth 4000
variable{i n:Int}{b:Nat}{lv:Value}{ls:List Int}
variable {κ:Ctx}{I:List Item}
attribute [local irreducible] W G V D A j8 Eff
abbrev ap5(b:Nat)(lv:Value)(i:Int):Item:=e8 b [lv,e7 i] 85
theorem gc1{k:Int}(h1:1<=k)(h2:k<=1000000000000):eu prog κ 38 [e7 n,e7 k] I (λr J=>∃x:Int,r=e7 x/\(0<=x/\x<k)/\I=J):=by
 have q1:=Int.tmod_lt_of_pos n (b:=k) om
 have q2:=Int.lt_tmod_of_pos n (b:=k) om
 refine Ce2 Tryz.func38 C C<|Z ?_
 refine Gr (j8.rem C C om)<|Z ?_
 refine Gr (j8.rem C C om)<|Z ?_
 have M:=Int.tmod_nonneg k (a:=Int.tmod n k+k) om
 have t2:=Int.tmod_lt_of_pos (Int.tmod n k+k) (b:=k) om
 exact Al C C _ Ah ⟨_,rfl,⟨M,t2⟩,rfl⟩
theorem dq5(hl:Sl κ (ap5 b lv i::I) lv ls)(h0:0<=i)(hn:n<=1000000000000):eu prog κ 13 [(pt b),e7 n] (e8 b [lv,e7 i] 85::I) (λr J=>∃y:Int×Int,(r=e7 y.1/\(0<=y.1/\(1<=n->y.1<n)/\(n<1->y.1=0))/\0<=y.2)/\J=[]++ap5 b lv y.2::I):=by
 refine Bv hl.le λaa=>?_
 refine Ce2 Tryz.func13 C C<|Z ?_
 refine Ba mixed<|Bx (e8 b [lv,e7 i] 85::I) 14<|Z ?_
 refine Dj (d:=8) C (λg8=>Z ?_)<|λg8=>?_
 ·exact Al C C _ Ah ⟨(0,i),⟨rfl,⟨Hl _,by intro _;show (0:Int)<n;omega,λ_=>rfl⟩,h0⟩,rfl⟩
 refine Dro 3 C (Aq C)<|Z ?_
 refine Am C (λM=>Z ?_)<|λM=>?_
 ·exact Al C C _ Ah ⟨(0,i),⟨rfl,⟨Hl _,by intro _;show (0:Int)<n;omega,λ_=>rfl⟩,h0⟩,rfl⟩
 refine Bc<|Ao<|Ax<|Ba mixed<|Bx (e8 b [lv,e7 i] 85::I) 11<|Z ?_
 refine Ge0 (Fc ef)<|Z ?_
 refine G.e (Ac c_ C C<|gc1 om om) ?_
 rintro _ _ ⟨_,_,⟨x1,rfl,ab,rfl⟩,rfl,rfl⟩
 refine Z ?_
 exact Al C C _ Ah ⟨(x1,i+1),⟨rfl,⟨by omega,by omega,by omega⟩,by show 0<=i+1;omega⟩,rfl⟩
theorem Q1{F:Item->List Item}(M:AtF I (ap5 b lv i) F)(hl:Sl κ I lv ls)(h0:0<=i)(hn:n<=1000000000000):eu prog κ 13 [(pt b),e7 n] I λr J=>∃x i',r=e7 x/\(0<=x/\(1<=n->x<n)/\(n<1->x=0))/\0<=i'/\J=F (ap5 b lv i'):=
 (Fl (Z:=λ_=>[]) (X:=λy:Int×Int=>ap5 b lv y.2) M λ_ hJ _=>dq5 (hl.fit hJ) h0 hn).mono λ_ _ ⟨y,⟨h1,h2,h3⟩,h4⟩=>⟨y.1,y.2,h1,h2,h3,h4⟩
theorem gc0{a:Option Addr}{n c:Nat} :
    eu prog κ 12 [.slice a n c] I (λr J=>∃b,r = (pt b)/\J=ap5 b (.slice a n c) 0::I):=by
 refine Ce1 Tryz.func12 C C<|Z ?_
 exact Ge1 (Au (cs:=[_,_]) C C C) λb1=>Ga C<|Ar<|B3<|Al C C _ Ah ⟨b1,rfl,rfl⟩
theorem bt9{v:Value}{xs:List Int}(hl:Sl κ I v xs)(x:Int):eu prog κ 141 [v,e7 x] I (λr J=>r = .bool (decide (x∈xs))/\I=J):=by
 refine Bv hl.le λaa=>?_
 refine Ce2 Tryz.func141 C C<|Z ?_
 refine Dh (σ:=Nat) (λs=>[(9,e7 ((s:Nat):Int))]) (λ_=>[]) (λs=>(s<=xs.length)/\(∀j,j<s->e_ xs j≠x)) (λs=>xs.length - s) 0 (show ((0:Nat)<=xs.length)/\(∀j,j<(0:Nat)->e_ xs j≠x) from ⟨om,E8⟩) ?_
 rintro k hp
 obtain ⟨hk,hn⟩:=hp
 refine Z ?_
 refine Am C (λc10=>Z ?_)<|λc10=>Z ?_
 ·refine Am C (λM=>Z ?_) (λM=>Z ?_)
  ·have hm:x∈xs:=by subst M;exact Bp om om
   exact Al C C _ Ah ⟨by rw [As hm],rfl⟩
  exact Bt ((k+1)) ⟨om,(Di hn M)⟩
 have hm:x∉xs:=av8 hn om
 exact Al C C _ Ah ⟨by rw [D_ hm],rfl⟩
def ak1(xs:List Int)(nodes:Int):Prop:=∀j,j<xs.length->(0<=e_ xs j/\e_ xs j<nodes)/\(0<j->e_ xs ((j:Int) - 1)<e_ xs j)
instance (xs:List Int) (nodes:Int):Decidable (ak1 xs nodes):=by unfold ak1;infer_instance
end Go.Sl
namespace Go.Sl
open Go.Proofs
set_option maxRecDepth 4000
end Go.Sl
namespace Go.Sl
open Go.Proofs
set_option maxRecDepth 4000
variable {κ:Ctx}{I:List Item}
attribute [local irreducible] W G V D A j8 Eff
theorem cq8(n:Int):eu prog κ 179 [e7 n] I (λr J=>r = .bool false/\I=J):=by
 refine Ce1 Tryz.func179 C C<|Z ?_
 exact Al C C I Ah ⟨by simp,rfl⟩
theorem Z6(m n:Int):eu prog κ 162 [e7 m,e7 n] I (λr J=>r=e7 (bu7 m n)/\I=J):=by
 refine Ce2 Tryz.func162 C C<|Z ?_
 refine Gc0 (Ac c_ C C<|cq8 m)<|Z ?_
 refine Gc0 (Ac c_ C C<|cq8 n)<|Z ?_
 refine Am C (λM=>Z ?_)<|λM=>Z ?_
 ·exact Al C C I Ah ⟨by unfold bu7;rw [B_ M],rfl⟩
 refine Am C (λaa=>Z ?_)<|λaa=>Z ?_
 ·exact Al C C I Ah ⟨by unfold bu7;rw [An M,B_ aa],rfl⟩
 exact Al C C I Ah ⟨by unfold bu7;rw [An M,An aa],rfl⟩
theorem fs6{v:Value}{xs:List Int}(hl:Sl κ I v xs):eu prog κ 161 [v] I (λr J=>r=e7 (orL xs)/\I=J):=by
 refine Bv hl.le λaa=>?_
 refine Ce1 Tryz.func161 C C<|Z ?_
 refine Dh (σ:=Nat) (λs=>[(8,e7 ((s:Nat):Int))]) (λ_=>[]) (λs=>(s<=xs.length)/\(orL xs=orL (xs.drop s))) (λs=>xs.length - s) 0 (show ((0:Nat)<=xs.length)/\(orL xs=orL (xs.drop (0:Nat))) from ⟨om,rfl⟩) ?_
 rintro k hp
 obtain ⟨hk,ho⟩:=hp
 refine Z ?_
 refine Am C (λc9=>Z ?_)<|λc9=>Z ?_
 ·refine Am C (λM=>Z ?_) (λM=>Z ?_)
  ·exact Al C C I Ah ⟨by rw [ho,dw1 om M],rfl⟩
  exact Bt ((k+1)) ⟨om,(ho.trans<|dw2 om<|Decidable.of_not_not M)⟩
 exact Al C C I Ah ⟨by rw [ho,fn5 om],rfl⟩
end Go.Sl
namespace Go.Sl
open Go.Proofs
set_option maxRecDepth 4000
end Go.Sl
namespace Go.Sl
open Go.Proofs
set_option maxRecDepth 4000
variable {κ:Ctx}{I:List Item}
attribute [local irreducible] W G V D A j8 Eff
theorem ta5{p:Prop}(h:p:=by first|exact Fz Value.bool (Fs.2<|by unfold Pt.lt;omega)|exact Fz Value.bool (As<|by unfold Pt.lt;omega).symm|exact Fz Value.bool (D_<|by unfold Pt.lt;omega).symm):p:=h
theorem ag8(a c:Pt):eu prog κ 98 [.agg #[e7 (a.u),e7 (a.v)],.agg #[e7 (c.u),e7 (c.v)]] I (λr J=>r = .bool (decide (Pt.lt a c))/\I=J):=by
 refine Ce2 Tryz.func98 C C ?_
 refine Ak<|Ge1 (Au (cs:=[_,_]) C C C) λb1=>Ge1 (Au (cs:=[_,_]) C C C) λb2=>Z ?_
 refine A3 (d:=10) C (λM=>Z ?_)<|λM=>Z ?_
 ·exact Al C C I Ah ⟨ta5,rfl⟩
 refine A3 (d:=16) C (λaa=>Z ?_)<|λaa=>Z ?_
 ·exact Al C C I Ah ⟨ta5,rfl⟩
 exact Al C C I Ah ⟨ta5,rfl⟩
theorem da3{nd:Int}{v:Value}{es:List Pt}(hl:Sl κ I v es)(M:s6 nd es):eu prog κ 51 [.agg #[e7 nd,v]] I (λr J=>r=e7 0/\I=J):=by
 refine Bv hl.le λaj=>?_
 refine Ce1 Tryz.func51 C C ?_
 refine Ak<|Ge1 (Au (cs:=[_,_]) C C C) λb1=>Z ?_
 refine A3 (d:=8) C (λg8=>?_)<|λg8=>Z ?_
 ·exact absurd M.rng om
 refine Am C (λc12=>?_)<|λc12=>Z ?_
 ·exact absurd M.rng om
 refine Dh (σ:=Nat) (λs=>[(16,e7 ((s:Nat):Int))]) (λ_=>[]) (λs=>(s<=es.length)) (λs=>es.length - s) 0 (show ((0:Nat)<=es.length) from om) ?_
 rintro k hp
 have hk:=hp
 refine Z ?_
 refine Am C (λab=>Z ?_)<|λab=>Z ?_
 ·refine Ge1 (Aj s8 C) λb2=>Ga C (Ge0 (Cs s8)<|Z ?_)
  refine A3 (d:=24) C (λae=>?_)<|λae=>Z ?_
  ·exact absurd (M.at (k:=k) om) om
  refine A3 (d:=31) C (λai=>?_)<|λai=>Z ?_
  ·exact absurd (M.at (k:=k) om) om
  refine Am C (λah=>?_)<|λah=>?_
  ·exact absurd (M.at (k:=k) om) om
  refine Bc<|Ao<|Ax<|Ba mixed<|Bx (e8 b2 [e7 ((e_ es k).u),e7<|(e_ es k).v] 105::e8 b1 [e7 nd,v] 38::I) 13<|Z ?_
  refine Dj (d:=40) C (λad=>Z ?_)<|λad=>?_
  ·refine Ds1 10 (Sc0 C (Ac c_ C C<|ag8 (e_ es<|(k:Int) - 1)<|e_ es k)<|Z ?_)
   refine Am C (λaa=>?_)<|λaa=>Z ?_
   ·exact absurd (M.prev (k:=k) om om) aa
   exact Bt ((k+1)) om
  refine Dpo 3 C<|Z ?_
  exact Bt ((k+1)) om
 exact Al C C I Ah ⟨rfl,rfl⟩
end Go.Sl
namespace Go.Sl
open Go.Proofs
set_option maxRecDepth 4000
end Go.Sl
namespace Go.Sl
open Go.Proofs
set_option maxRecDepth 4000
variable{u v:Value}{xs ys:List Int}
variable {κ:Ctx}{I:List Item}
attribute [local irreducible] W G V D A j8 Eff
def bn7:List Int->List Int->Int
 |[],[]=>0
 |[],_::_=> -1
 |_::_,[]=>1
 |x::xs,y::ys=>if y<x then 1 else if x<y then -1 else bn7 xs ys
theorem dn0:∀xs ys,bn7 xs ys=0↔xs=ys
 |[],[]=>by simp [bn7]
 |[],_::_=>by simp [bn7]
 |_::_,[]=>by simp [bn7]
 |x::xs,y::ys=>by
  simp only [bn7]
  split
  ·simp;omega
  split
  ·simp;omega
  rw [dn0 xs ys]
  have:x=y:=by omega
  simp [this]
theorem dn1(xs ys:List Int)(k:Nat)(hx:k<xs.length)(hy:k<ys.length)(M:¬e_ ys k<e_ xs k)(h2:¬e_ xs k<e_ ys k):bn7 (xs.drop k) (ys.drop k)=bn7 (xs.drop (k+1)) (ys.drop (k+1)):=by
 rw [Dv xs k hx,Dv ys k hy]
 simp only [bn7]
 rw [An M,An h2]
theorem bn6(xs ys:List Int)(k:Nat)(M:k<xs.length)(h:ys.length<=k\/(k<ys.length/\e_ ys k<e_ xs k)):bn7 (xs.drop k) (ys.drop k)=1:=by
 rw [Dv xs k M]
 rcases h with h|⟨hy,h⟩
 ·rw [Ha h];rfl
 rw [Dv ys k hy];simp only [bn7];rw [B_ h]
theorem cv3(xs ys:List Int)(k:Nat)(hx:k<xs.length)(hy:k<ys.length)(M:¬e_ ys k<e_ xs k)(h:e_ xs k<e_ ys k):bn7 (xs.drop k) (ys.drop k) = -1:=by
 rw [Dv xs k hx,Dv ys k hy];simp only [bn7];rw [An M,B_ h]
theorem cp1(xs ys:List Int)(k:Nat)(M:xs.length<=k):bn7 (xs.drop k) (ys.drop k)=if k<ys.length then -1 else 0:=by
 rw [Ha M]
 split
 ·rename_i h;rw [Dv ys k h];rfl
 rename_i h;rw [Ha om];rfl
theorem fk5(hu:Sl κ I u xs)(hv:Sl κ I v ys):eu prog κ 25 [u,v] I (λr J=>r=e7 (bn7 xs ys)/\I=J):=by
 refine Bv hu.le λah=>?_
 refine Bv hv.le λae=>?_
 refine Ce2 Tryz.func25 C C<|Z ?_
 refine Dh (σ:=Nat) (λs=>[(8,e7 ((s:Nat):Int))]) (λ_=>[]) (λs=>(s<=xs.length)/\(bn7 xs ys=bn7 (xs.drop s) (ys.drop s))) (λs=>xs.length - s) 0 (show ((0:Nat)<=xs.length)/\(bn7 xs ys=bn7 (xs.drop (0:Nat)) (ys.drop (0:Nat))) from ⟨om,rfl⟩) ?_
 rintro k hp
 obtain ⟨hk,M⟩:=hp
 refine Z ?_
 refine Am C (λc9=>Z ?_)<|λc9=>Z ?_
 ·refine Ba mixed (Bx I 16<|Z ?_)
  refine Dj (d:=16) C (λaa=>Z ?_)<|λaa=>?_
  ·exact Al C C _ Ah ⟨by rw [M,bn6 xs ys k om<|.inl om],rfl⟩
  refine Dro 5 C (Aq C)<|Z ?_
  refine Am C (λc11=>Z ?_)<|λc11=>?_
  ·exact Al C C _ Ah ⟨by rw [M,bn6 xs ys k om<|.inr ⟨by omega,by omega⟩],rfl⟩
  refine Ax<|Ba mixed<|Bx I 10<|Z ?_
  refine Am C (λab=>Z ?_)<|λab=>Z ?_
  ·exact Al C C _ Ah ⟨by rw [M,cv3 xs ys k om om om om],rfl⟩
  exact Bt ((k+1)) ⟨om,(M.trans<|dn1 xs ys k om om om om)⟩
 refine Am C (λad=>Z ?_)<|λad=>Z ?_
 ·exact Al C C _ Ah ⟨by rw [M,cp1 xs ys k om,B_ om],rfl⟩
 exact Al C C _ Ah ⟨by rw [M,cp1 xs ys k om,An om],rfl⟩
theorem dp1(hu:Sl κ I u xs)(hv:Sl κ I v ys):eu prog κ 120 [u,v] I (λr J=>r = .bool (decide (xs=ys))/\I=J):=by
 refine Ce2 Tryz.func120 C C<|Z ?_
 refine A3 (d:=10) C (λM=>Z ?_)<|λM=>Z ?_
 ·refine Ds (Cn C C C) (Ac c_ C C<|fk5 (A4 hu)<|A4 hv) ?_
  rintro _ _ ⟨_,_,⟨rfl,rfl⟩,rfl,rfl⟩
  refine Z ?_
  have hb:decide (bn7 xs ys=0)=decide (xs=ys):=by rw [Fs];exact dn0 xs ys
  exact Al C C _ Ah ⟨by rw [hb],rfl⟩
 have hb:¬xs=ys:=λe=>by subst e;exact absurd rfl M
 exact Al C C _ Ah ⟨by rw [D_ hb],rfl⟩
end Go.Sl
