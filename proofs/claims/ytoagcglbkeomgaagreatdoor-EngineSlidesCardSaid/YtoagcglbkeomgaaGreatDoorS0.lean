/- A part of the proofs of statements of this seat: contracts of functions, and the plain laws that they lean on. No conditions. -/
import Derived.WalkKit
import Derived.OrdersHeld
set_option linter.unusedVariables false
set_option linter.unusedSimpArgs false
set_option linter.unusedSectionVars false
namespace Go.Sl
open Go.RowKit (Below)
variable{a:Act}{v:Value}{w w':World}
abbrev Env:=List (Nat×Value)
def look:Env->Nat->Option Value
 |[],_=>none
 |(k,v)::L,t=>bif Nat.beq k t then some v else look L t
def er(L:Env):Operand->Option Value
 | .tmp t=>look L t
 | .const v=>some v
 | .global g=>some (.pointer<|some ⟨g,0,none⟩)
 | .func f=>some (.func (.func f) #[] #[])
structure Frm where
 n:Nat
 ds:List Deferred
instance (n:Nat):OfNat Frm n:=⟨⟨n,[]⟩⟩
structure Ag (N:Frm) (a:Act) (L:Env):Prop where
 defers:a.defers=N.ds
 size:a.tmps.size=N.n
 get:∀t v,look L t=some v->a.tmps[t]? = some v
theorem Ag.eval{N:Frm}{L:Env}(h:Ag N a L){x:Operand}(Z:er L x=some v):a.eval x=v:=by
 cases x with
 |tmp t=>simp only [er] at Z;simp [Act.eval,h.get t v Z]
 |const c=>simp only [er,Option.some.injEq] at Z;exact Z
 |global g=>simp only [er,Option.some.injEq] at Z;exact Z
 |func f=>simp only [er,Option.some.injEq] at Z;exact Z
theorem look_cons(k:Nat)(v:Value)(L:Env)(t:Nat):look ((k,v)::L) t=if k=t then some v else look L t:=by
 simp only [look]
 by_cases h:k=t
 ·simp [h]
 have:Nat.beq k t=false:=by
  rw [←Bool.not_eq_true,Nat.beq_eq];exact h
 simp [this,h]
theorem Ag.put{N:Frm}{L:Env}(h:Ag N a L)(d:Nat)(M:Nat.blt d N.n=true)(v:Value):Ag N (a.put (some d) v) ((d,v)::L):=by
 have Z:d<N.n:=by simpa using M
 refine ⟨h.defers,by simp [Act.put,h.size],λt u hu=>?_⟩
 rw [look_cons] at hu
 simp only [Act.put]
 by_cases ht:d=t
 ·subst ht
  simp only [if_true,Option.some.injEq] at hu
  subst hu
  simp [h.size,Z]
 simp only [ht,if_false] at hu
 rw [Array.getElem?_setIfInBounds_ne ht]
 exact h.get t u hu
def Sub(L:Env):Env->Prop
 |[]=>True
 |(k,v)::L'=>look L k=some v/\Sub L L'
theorem Sub.nil{L:Env}:Sub L []:=trivial
theorem Sub.cons{L L':Env}{k:Nat}(h:look L k=some v)(t:Sub L L'):Sub L ((k,v)::L'):=⟨h,t⟩
theorem cx4{L L':Env}{k0 k1 k2 k3:Nat}{u0 u1 u2 u3:Value}(t:Sub L L')(h0:look L k0=some u0:=by exact rfl)(h1:look L k1=some u1:=by exact rfl)(h2:look L k2=some u2:=by exact rfl)(h3:look L k3=some u3:=by exact rfl):Sub L ((k0,u0)::(k1,u1)::(k2,u2)::(k3,u3)::L'):=⟨h0,⟨h1,⟨h2,⟨h3,t⟩⟩⟩⟩
theorem cx2{L L':Env}{k0 k1:Nat}{u0 u1:Value}(t:Sub L L')(h0:look L k0=some u0:=by exact rfl)(h1:look L k1=some u1:=by exact rfl):Sub L ((k0,u0)::(k1,u1)::L'):=⟨h0,⟨h1,t⟩⟩
theorem Sub.get{L:Env}:∀{L':Env},Sub L L'->∀t v,look L' t=some v->look L t=some v
 |[],_,t,v,h=>by simp [look] at h
 |(k,u)::L',hs,t,v,h=>by
  rw [look_cons] at h
  by_cases hk:k=t
  ·subst hk
   simp only [if_true,Option.some.injEq] at h
   subst h
   exact hs.1
  simp only [hk,if_false] at h
  exact Sub.get hs.2 t v h
theorem Ag.sub{N:Frm}{L L':Env}(h:Ag N a L)(hs:Sub L L'):Ag N a L':=
 ⟨h.defers,h.size,λt v hv=>h.get t v<|hs.get t v hv⟩
def argEnv:Nat->List Value->Env
 |_,[]=>[]
 |k,v::vs=>(k,v)::argEnv (k+1) vs
theorem look_argEnv(t:Nat)(u:Value):∀(vs:List Value) (k:Nat),look (argEnv k vs) t=some u->∃j,t=k+j/\vs[j]? = some u
 |[],k,h=>by simp [argEnv,look] at h
 |v::vs,k,h=>by
  rw [argEnv,look_cons] at h
  by_cases hk:k=t
  ·simp only [hk,if_true,Option.some.injEq] at h
   exact ⟨0,by omega,by simp [h]⟩
  simp only [hk,if_false] at h
  obtain ⟨j,Z,hv⟩:=look_argEnv t u vs (k+1) h
  exact ⟨j+1,by omega,by simpa using hv⟩
theorem Ag.start(Z:List Value)(N:Nat)(hN:Z.length<=N) :
  Ag ⟨N,[]⟩ {tmps:=Z.toArray++Array.replicate (N - Z.toArray.size) undef,defers:=[]} (argEnv 0 Z):=by
 refine ⟨rfl,by simp;omega,λt v hv=>?_⟩
 obtain ⟨j,hj,hv⟩:=look_argEnv t v Z 0 hv
 have M:j<Z.length:=(List.getElem?_eq_some_iff.1 hv).1
 obtain rfl:t=j:=by omega
 rw [Array.getElem?_append_left (by simpa using M)]
 simpa using hv
structure Item where
 fp:Nat->Prop
 ok:World->Prop
 loc:∀w w':World,(∀k,fp k->w'.heap[k]? = w.heap[k]?)->ok w->ok w'
structure Ctx where
 os:Os
 tape:Nat->Question->Nat
 output:Array (Nat×ByteArray)
 drawn:Nat
def Item.apart(x y:Item):Prop:=∀k,x.fp k->¬y.fp k
structure Sep (κ:Ctx) (w:World) (I:List Item):Prop where
 os:w.os=κ.os
 tape:w.tape=κ.tape/\κ.drawn<=w.drawn
 output:w.output=κ.output
 ok:∀x∈I,x.ok w/\∀k,x.fp k->k<w.heap.size
 pw:I.Pairwise Item.apart
theorem Item.apart.symm{x y:Item}(h:x.apart y):y.apart x:=λk Z M=>h k M Z
variable {κ:Ctx}
theorem Sep.perm{I J:List Item}(h:Sep κ w I)(Z:I.Perm J):Sep κ w J:=
 ⟨h.os,h.tape,h.output,λx M=>h.ok x<|Z.mem_iff.2 M,(Z.pairwise_iff<|λh=>h.symm).1 h.pw⟩
theorem Sep.sublist{I J:List Item}(h:Sep κ w I)(hs:J.Sublist I):Sep κ w J:=
 ⟨h.os,h.tape,h.output,λx Z=>h.ok x<|hs.mem Z,h.pw.sublist hs⟩
theorem Sep.tail{x:Item}{I:List Item}(h:Sep κ w (x::I)):Sep κ w I:=h.sublist (List.sublist_cons_self x I)
def Fit(κ:Ctx)(I J:List Item):Prop:=∀w,Sep κ w I->Sep κ w J
theorem Fit.refl(I:List Item):Fit κ I I:=λ_ h=>h
theorem Fit.trans{I J K:List Item}(h:Fit κ I J)(k:Fit κ J K):Fit κ I K:=λw s=>k w (h w s)
theorem Fit.tail{x:Item}{I J:List Item}(h:Fit κ I J):Fit κ (x::I) J:=λw s=>h w s.tail
theorem Fit.of_sublist{I J:List Item}(h:J.Sublist I):Fit κ I J:=λ_ s=>s.sublist h
theorem Fit.perm{I J:List Item}(h:I.Perm J):Fit κ I J:=λ_ s=>s.perm h
inductive Pick:List Item->Item->List Item->Prop
 |head (x:Item) (I:List Item):Pick (x::I) x I
 |tail {I I':List Item} {x:Item} (y:Item) (h:Pick I x I'):Pick (y::I) x (y::I')
theorem Pick.perm{I I':List Item}{x:Item}(h:Pick I x I'):I.Perm (x::I'):=by
 induction h with
 |head=>exact .refl _
 |tail y _ ih=>exact (ih.cons y).trans (.swap _ _ _)
inductive Sp:List Item->List Item->Prop
 |refl (I:List Item):Sp I I
 |pick {I I' J:List Item} {x:Item} (h:Pick I x I') (h2:Sp I' J):Sp I (x::J)
 |skip {I J:List Item} (x:Item) (h2:Sp I J):Sp (x::I) J
theorem Sp.out{I J:List Item}(h:Sp I J):∃K,I.Perm K/\J.Sublist K:=by
 induction h with
 |refl I=>exact ⟨I,.refl _,.refl _⟩
 |pick h _ ih=>
  obtain ⟨K,M,Z⟩:=ih
  exact ⟨_::K,h.perm.trans<|M.cons _,Z.cons_cons _⟩
 |skip x _ ih=>
  obtain ⟨K,M,Z⟩:=ih
  exact ⟨x::K,M.cons x,Z.cons x⟩
theorem Fit.sp{I J:List Item}(h:Sp I J):Fit κ I J:=λw s=>by
 obtain ⟨K,M,Z⟩:=h.out
 exact (s.perm M).sublist Z
theorem Fit.appR(xs I:List Item):Fit κ (xs++I) I:=Fit.of_sublist (List.sublist_append_right _ _)
theorem Fit.appL{A I J:List Item}(h:Fit κ I J):Fit κ (A++I) J:=Fit.trans (Fit.appR _ _) h
theorem Sep.frame{I:List Item}(h:Sep κ w I)(ho:w'.os=w.os)(M:w'.tape=w.tape/\w.drawn<=w'.drawn)(hu:w'.output=w.output)(hs:w.heap.size<=w'.heap.size)
  (hk:∀x∈I,∀k,x.fp k->w'.heap[k]? = w.heap[k]?):Sep κ w' I:=
 ⟨ho.trans h.os,⟨M.1.trans h.tape.1,Nat.le_trans h.tape.2 M.2⟩,hu.trans h.output,λx Z=>⟨x.loc w w' (hk x Z) (h.ok x Z).1,λk hf=>Nat.lt_of_lt_of_le ((h.ok x Z).2 k hf) hs⟩,h.pw⟩
theorem Sep.drew{I:List Item}(h:Sep κ w I):Sep κ w.drew I:=h.frame rfl ⟨rfl,Nat.le_succ _⟩ rfl (Nat.le_refl _) λ_ _ _ _=>rfl
theorem Sep.alloc{I:List Item}(h:Sep κ w I)(o:Obj):Sep κ (w.alloc o) I:=
 h.frame rfl ⟨rfl,Nat.le_refl _⟩ rfl (by simp) λx Z k M=>Go.RowKit.Below.heap_alloc w o k ((h.ok x Z).2 k M)
theorem Sep.cons{x:Item}{I:List Item}(h:Sep κ w I)(Z:x.ok w)(hb:∀k,x.fp k->k<w.heap.size)(M:∀y∈I,∀k,x.fp k->¬y.fp k):Sep κ w (x::I):=
 ⟨h.os,h.tape,h.output,λy hy=>by
  rcases List.mem_cons.1 hy with rfl|hy
  ·exact ⟨Z,hb⟩
  exact h.ok y hy,List.pairwise_cons.2 ⟨M,h.pw⟩⟩
theorem Sep.new{x:Item}{I:List Item}(h:Sep κ w I)(h':Sep κ w' I)(hx:x.ok w')(hb:∀k,x.fp k->w.heap.size<=k/\k<w'.heap.size):Sep κ w' (x::I):=
 h'.cons hx (λk Z=>(hb k Z).2) λy hy k Z M=>by
  have:=(h.ok y hy).2 k M
  have:=(hb k Z).1
  omega
inductive At:List Item->Item->Item->List Item->Prop
 |head (x x':Item) (I:List Item):At (x::I) x x' (x'::I)
 |tail {I I':List Item} {x x':Item} (y:Item) (h:At I x x' I'):At (y::I) x x' (y::I')
theorem At.mem{I I':List Item}{x x':Item}(h:At I x x' I'):x∈I:=by
 induction h with
 |head=>exact List.mem_cons_self
 |tail y _ ih=>exact List.mem_cons_of_mem _ ih
theorem At.perm{I I':List Item}{x x':Item}(h:At I x x' I'):∃J,I.Perm (x::J)/\I'.Perm (x'::J):=by
 induction h with
 |head x x' I=>exact ⟨I,.refl _,.refl _⟩
 | @tail I I' x x' y _ ih=>
  obtain ⟨J,M,Z⟩:=ih
  exact ⟨y::J,(M.cons y).trans (.swap x y J),(Z.cons y).trans (.swap x' y J)⟩
inductive AtF:List Item->Item->(Item->List Item)->Prop
 |head (x:Item) (I:List Item):AtF (x::I) x (λx'=>x'::I)
 |tail {I:List Item} {x:Item} {F:Item->List Item} (y:Item) (h:AtF I x F):AtF (y::I) x (λx'=>y::F x')
theorem AtF.perm{I:List Item}{x:Item}{F:Item->List Item}(h:AtF I x F):∃J,I.Perm (x::J)/\∀x',(F x').Perm (x'::J):=by
 induction h with
 |head x I=>exact ⟨I,.refl _,λ_=> .refl _⟩
 | @tail I x F y _ ih=>
  obtain ⟨J,M,Z⟩:=ih
  exact ⟨y::J,(M.cons y).trans (.swap x y J),λx'=>((Z x').cons y).trans (.swap x' y J)⟩
theorem Sep.upd{I I':List Item}{x x':Item}(h:Sep κ w I)(ab:At I x x' I')(ho:w'.os=w.os)(ht:w'.tape=w.tape/\w.drawn<=w'.drawn)(hu:w'.output=w.output)
  (hs:w.heap.size<=w'.heap.size) (hk:∀k,k<w.heap.size->¬x.fp k->w'.heap[k]? = w.heap[k]?) (hx:x'.ok w')
  (hf:∀k,x'.fp k->x.fp k\/(w.heap.size<=k/\k<w'.heap.size)):Sep κ w' I':=by
 obtain ⟨J,h1,h2⟩:=ab.perm
 have hJ:=h.perm h1
 have ha:∀y∈J,∀k,x.fp k->¬y.fp k:=(List.pairwise_cons.1 hJ.pw).1
 have aa:Sep κ w' J:=hJ.tail.frame ho ht hu hs λy hy k Z=>
  hk k ((hJ.tail.ok y hy).2 k Z) λhxk=>ha y hy k hxk Z
 refine (aa.cons hx (λk M=>?_) λy hy k M Z=>?_).perm h2.symm
 ·rcases hf k M with hxk|hxk
  ·exact Nat.lt_of_lt_of_le ((hJ.ok x List.mem_cons_self).2 k hxk) hs
  exact hxk.2
 rcases hf k M with hxk|hxk
 ·exact ha y hy k hxk Z
 have:=(hJ.tail.ok y hy).2 k Z
 omega
def e8(b:Nat)(cs:List Value)(T:TypeId):Item where
 fp k:=k=b
 ok w:=w.heap[b]? = some (.cells cs.toArray T (0,0))
 loc w w' h hw:=(h b rfl).trans hw
def old(B:Nat)(w0:World):Item where
 fp k:=k<B
 ok w:=∀k,k<B->w.heap[k]? = w0.heap[k]?
 loc w w' h hw k hk:=(h k hk).trans (hw k hk)
theorem Sep.below{w0:World}{I:List Item}(h:Sep ⟨w0.os,w0.tape,w0.output,w0.drawn⟩ w I)(hm:old w0.heap.size w0∈I):Below w0.heap.size w0 w:=by
 obtain ⟨Z,M⟩:=h.ok _ hm
 refine ⟨h.os,h.tape.1,h.output,?_,Z⟩
 by_cases h0:w0.heap.size=0
 ·omega
 have:=M (w0.heap.size - 1) (by show _<_;omega)
 omega
theorem Sep.begin(w:World):Sep ⟨w.os,w.tape,w.output,w.drawn⟩ w [old w.heap.size w]:=
 ⟨rfl,⟨rfl,Nat.le_refl _⟩,rfl,λx Z=>by
  obtain rfl:x=old w.heap.size w:=by simpa using Z
  exact ⟨λ_ _=>rfl,λ_ h=>h⟩,List.pairwise_singleton _ _⟩
end Go.Sl
namespace Go.Sl
variable{a:Addr}{v:Value}{cs:List Value}{b n:Nat}{e t:TypeId}{I:List Item}
theorem C{α:Sort _}{a:α}:a=a:=rfl
open Go.RowKit (Below)
abbrev e7(n:Int):Value:= .int .i64 n
abbrev pt(b:Nat):Value:= .pointer (some ⟨b,0,none⟩)
abbrev zk:List Value:=[e7 0,e7 0,e7 0,e7 0,e7 0,e7 0,.slice none 0 0,e7 0,.slice none 0 0,e7 0,.slice none 0 0,.slice none 0 0,e7 0,.slice none 0 0,.slice none 0 0,e7 0,.slice none 0 0,e7 0,.slice none 0 0,e7 0,.slice none 0 0,e7 0,e7 0,.slice none 0 0,e7 0]
def isAggD:Option TypeDesc->Bool
 |some (.struct _)=>true
 |some (.array _ _)=>true
 |_=>false
def tyF(P:Program)(T:TypeId):Option (Nat×Bool×Nat×List Value):=
 (P.info? T).bind λi=>i.zero.bind λz=>(P.underlying T).map λd=>(i.size,isAggD<|some d,i.bytes,z.cells.toList)
section types
variable {P:Program}{T:TypeId}{sz by':Nat}{ag:Bool}{z:List Value}
theorem tyF_spec(h:tyF P T=some (sz,ag,by',z)) :
  ∃i zv d,P.info? T=some i/\i.zero=some zv/\P.underlying T=some d/\i.size=sz/\isAggD (some d)=ag/\i.bytes=by'/\zv.cells=z.toArray:=by
 unfold tyF at h
 cases hi:P.info? T with
 |none=>simp [hi] at h
 |some i=>
  cases hz:i.zero with
  |none=>simp [hi,hz] at h
  |some zv=>
   cases hd:P.underlying T with
   |none=>simp [hi,hz,hd] at h
   |some d=>
    simp [hi,hz,hd] at h
    obtain ⟨h1,h2,Z,M⟩:=h
    exact ⟨i,zv,d,rfl,hz,rfl,h1,h2,Z,by rw [←M]⟩
theorem run_isAgg(h:tyF P T=some (sz,ag,by',z))(w:World):(isAgg T).run P w = .ok ag w:=by
 obtain ⟨i,zv,d,hi,hz,M,h1,Z,h3,h4⟩:=tyF_spec h
 subst Z
 cases d<;>simp [isAgg,run_underlying M,isAggD]
theorem run_sizeOf(h:tyF P T=some (sz,ag,by',z))(w:World):(sizeOf T).run P w = .ok sz w:=by
 obtain ⟨i,zv,d,hi,hz,hd,Z,h2,M,h4⟩:=tyF_spec h
 simp [sizeOf,typeInfo,hi,Z]
theorem run_zeroCells(h:tyF P T=some (sz,ag,by',z))(w:World):∃zv,(zeroValue T).run P w = .ok zv w/\zv.cells=z.toArray:=by
 obtain ⟨i,zv,d,hi,hz,hd,h1,h2,h3,h4⟩:=tyF_spec h
 exact ⟨zv,by simp [zeroValue,typeInfo,hi,hz],h4⟩
end types
theorem run_loadVar_one{P:Program}{T:TypeId}{sz by':Nat}{z:List Value}(h:tyF P T=some (sz,false,by',z)){w:World}(Z:w.cell? a=some v) :
  (loadVar T a).run P w = .ok v w:=by
 simp [loadVar,run_isAgg h,Z]
theorem run_loadVar_agg{P:Program}{T:TypeId}{sz by':Nat}{z:List Value}(h:tyF P T=some (sz,true,by',z)){w:World}(Z:cs.length=sz)
  (M:∀j v,cs[j]? = some v->w.cell? (a.add j)=some v):(loadVar T a).run P w = .ok (.agg cs.toArray) w:=by
 subst Z
 simp [loadVar,run_isAgg h,run_sizeOf h,run_loadCells_list w a cs M]
theorem cell_blk{w:World}{T:TypeId}(h:w.heap[b]? = some (.cells cs.toArray T (0,0)))(o:Nat):w.cell? ⟨b,o,none⟩=cs[o]? :=by
 simp [cell_of_row w b o cs.toArray T (0,0) h]
def cellsOf(v:Value):List Value:=v.cells.toList
theorem run_storeVar{P:Program}{T:TypeId}{sz by':Nat}{ag:Bool}{z:List Value}(h:tyF P T=some (sz,ag,by',z)){w:World}{o:Nat}{E:TypeId}{vs:List Value}
  (hv:cellsOf v=vs) (hl:vs.length=sz) (h1:∀u∈vs,u.oneCell'=true) (hb:w.heap[b]? = some (.cells cs.toArray E (0,0))) (hr:o+vs.length<=cs.length) :
  (storeVar T ⟨b,o,none⟩ v).run P w = .ok () (w.setRow b (cs.take o++vs++cs.drop (o+vs.length)).toArray):=by
 have M:v.cells=vs.toArray:=by rw [←hv];simp [cellsOf]
 have Z:=run_storeCells_at P b o E vs 0 cs.toArray w hb (by simpa using hr) h1
 simp only [Nat.add_zero] at Z
 subst hl
 simp [storeVar,run_sizeOf h,M,Z]
def slOk(w:World)(sz:Nat)(v:Value)(n:Nat)(cs:List Value):Prop:=
 ∃a cap,v = .slice a n cap/\cs.length=n*sz/\n<=cap/\cap<=maxLen/\
  (0<cap->∃b off,a=some ⟨b,off,none⟩/\∀j u,cs[j]? = some u->w.cell? ⟨b,off+j,none⟩=some u)
def vecOk(w:World)(e:TypeId)(sz:Nat)(v:Value)(n:Nat)(cs:List Value):Prop:=
 ∃a cap,v = .slice a n cap/\cs.length=n*sz/\n<=cap/\cap<=maxLen/\
  (0<cap->∃b off cur,a=some ⟨b,off,none⟩/\w.heap[b]? = some (.cells cur e (0,0))/\off+cap*sz<=cur.size/\∀j u,cs[j]? = some u->cur[off+j]? = some u)
def ownFp(v:Value)(k:Nat):Prop:=∃off n cap,v = .slice (some ⟨k,off,none⟩) n cap/\0<cap
def vec(e:TypeId)(sz:Nat)(v:Value)(n:Nat)(cs:List Value):Item where
 fp:=ownFp v
 ok w:=vecOk w e sz v n cs
 loc w w' h hw:=by
  obtain ⟨a,cap,hv,h1,h2,h3,h4⟩:=hw
  refine ⟨a,cap,hv,h1,h2,h3,λhc=>?_⟩
  obtain ⟨b,off,cur,ha,hb,h5,h6⟩:=h4 hc
  exact ⟨b,off,cur,ha,(h b ⟨off,n,cap,by rw [hv,ha],hc⟩).trans hb,h5,h6⟩
def SlRd(κ:Ctx)(I:List Item)(sz:Nat)(v:Value)(n:Nat)(cs:List Value):Prop:=∀w,Sep κ w I->slOk w sz v n cs
theorem vecOk.sl{w:World}{sz:Nat}(h:vecOk w e sz v n cs):slOk w sz v n cs:=by
 obtain ⟨a,cap,hv,h1,h2,M,h4⟩:=h
 refine ⟨a,cap,hv,h1,h2,M,λhc=>?_⟩
 obtain ⟨b,off,Z,ha,hb,h5,h6⟩:=h4 hc
 refine ⟨b,off,ha,λj u hj=>?_⟩
 rw [cell_of_row w b (off+j) Z e (0,0) hb]
 exact h6 j u hj
variable {κ:Ctx}
theorem SlRd.vec{sz:Nat}(h:vec e sz v n cs∈I):SlRd κ I sz v n cs:=λ_ s=>vecOk.sl (s.ok _ h).1
theorem SlRd.fit{J:List Item}{sz:Nat}(h:SlRd κ I sz v n cs)(Z:Fit κ J I):SlRd κ J sz v n cs:=λw s=>h w (Z w s)
theorem SlRd.nil(I:List Item)(sz:Nat):SlRd κ I sz (.slice none 0 0) 0 []:=λ_ _=>⟨none,0,rfl,by simp,Nat.le_refl _,by simp,λh=>by omega⟩
theorem Sep.vec_nil{w:World}(h:Sep κ w I)(e:TypeId)(sz:Nat):Sep κ w (vec e sz (.slice none 0 0) 0 []::I):=
 h.cons ⟨none,0,rfl,by simp,Nat.le_refl _,by simp,λh=>by omega⟩ (λk Z=>by obtain ⟨_,_,_,h,_⟩:=Z;cases h) λ_ _ k Z=>by obtain ⟨_,_,_,h,_⟩:=Z;cases h
def elemPtr:Value->Nat->Value
 | .slice (some a) _ _,k=> .pointer (some<|a.add k)
 |_,_=>undef
theorem addr_add(b o k:Nat):(⟨b,o,none⟩:Addr).add k=⟨b,o+k,none⟩:=Addr.add_lit b o k
theorem len_rep(z:List Value)(n:Nat):(List.replicate n z).flatten.length=n*z.length:=by simp
theorem flatten_rep(z:List Value):∀(n j:Nat),0<z.length->j<n*z.length->(List.replicate n z).flatten[j]? = z[j % z.length]?
 |0,j,_,h=>by simp at h
 |n+1,j,hs,h=>by
  rw [List.replicate_succ,List.flatten_cons]
  by_cases hj:j<z.length
  ·rw [List.getElem?_append_left hj,Nat.mod_eq_of_lt hj]
  rw [List.getElem?_append_right (by omega),flatten_rep z n (j - z.length) hs<|by rw [Nat.add_mul] at h;omega]
  congr 1
  rw [←Nat.mod_eq_sub_mod (by omega)]
section runs
variable {P:Program}{w:World}
theorem run_firstCells_sl{sz:Nat}(h:slOk w sz v n cs):(Builtin.firstCells sz n v).run P w = .ok cs.toArray w:=by
 obtain ⟨a,cap,rfl,Z,h2,h3,h4⟩:=h
 by_cases hc:0<cap
 ·obtain ⟨b,off,rfl,hr⟩:=h4 hc
  exact run_firstCells_some w sz n _ n cap cs Z λj u M=>by rw [addr_add];exact hr j u M
 obtain rfl:n=0:=by omega
 have:cs=[]:=List.eq_nil_of_length_eq_zero (by simpa using Z)
 subst this
 cases a with
 |none=>simp [Builtin.firstCells]
 |some a=>exact run_firstCells_some w sz 0 a 0 cap [] (by simp) (by simp)
theorem slOk.drew{sz:Nat}(h:slOk w sz v n cs):slOk w.drew sz v n cs:=h
theorem run_lenOf_sl{sz:Nat}(h:slOk w sz v n cs):(Builtin.lenOf v).run P w = .ok n w:=by
 obtain ⟨a,cap,rfl,_⟩:=h
 simp [Builtin.lenOf]
theorem run_append_vec{ty:TypeId}(ht:P.underlying t=some (.slice e)){sz by':Nat}{ag:Bool}{z:List Value}(hT:tyF P e=some (sz,ag,by',z))(au:z.length=sz)
  {v x:Value} {n m:Nat} {cs ds:List Value} (hv:vecOk w e sz v n cs) (hx:slOk w sz x m ds) (h1:∀u∈ds,u.oneCell'=true)
  (ap:n+m<=maxLen) (a0:(n+m)*by'<=140737488355328) :
  ∃v' w',(Builtin.append_ #[t,t] ty #[v,x]).run P w = .ok v' w'/\vecOk w' e sz v' (n+m) (cs++ds)/\
   w'.os=w.os/\(w'.tape=w.tape/\w.drawn<=w'.drawn)/\w'.output=w.output/\w.heap.size<=w'.heap.size/\
   (∀k,k<w.heap.size->¬ownFp v k->w'.heap[k]? = w.heap[k]?)/\(∀k,ownFp v' k->ownFp v k\/(w.heap.size<=k/\k<w'.heap.size)):=by
 obtain ⟨i,zv,d,hi,hz,hd,a9,a6,a5,az⟩:=tyF_spec hT
 have ab:=run_firstCells_sl (P:=P) hx
 have Z:=run_lenOf_sl (P:=P) hx
 have hold:=run_firstCells_sl (P:=P) (w:=w.drew) hv.sl.drew
 have ad:=run_firstCells_sl (P:=P) (w:=w.drew) hx.drew
 obtain ⟨a,cap,rfl,hl,a7,ae,ar⟩:=hv
 obtain ⟨xa,xc,rfl,an,_⟩:=hx
 have aa:(cs++ds).length=(n+m)*sz:=by rw [List.length_append,hl,an,Nat.add_mul]
 by_cases hroom:n+m<=cap
 ·by_cases hc:0<cap
  ·obtain ⟨b,off,M,rfl,hb,av,ai⟩:=ar hc
   have aq:off+n*sz+ds.length<=M.size:=by
    have:=Nat.mul_le_mul_right sz hroom
    rw [Nat.add_mul] at this
    omega
   have ao:=run_storeCells_at P b (off+n*sz) e ds 0 M w hb (by simpa using aq) h1
   simp only [Nat.add_zero] at ao
   refine ⟨.slice (some ⟨b,off,none⟩) (n+m) cap,w.setRow b (M.toList.take (off+n*sz)++ds++M.toList.drop (off+n*sz+ds.length)).toArray,?_,?_,rfl,⟨rfl,Nat.le_refl _⟩,rfl,by simp,λk hk a1=>?_,λk hk=>?_⟩
   ·simp only [Builtin.append_,List.getElem?_toArray,List.getElem?_cons_zero,List.getElem?_cons_succ,Sem.run_bind,run_underlying ht,Result.andThen_ok,run_sizeOf hT]
    simp [run_underlying ht,Z,hroom,ab,addr_add,ao]
   ·refine ⟨_,cap,rfl,aa,hroom,ae,λ_=>⟨b,off,_,rfl,setRow_heap w b M _ e _ hb,?_,λj u hj=>?_⟩⟩
    ·simp only [List.size_toArray,List.length_append,List.length_take,List.length_drop,Array.length_toList]
     omega
    simp only [List.getElem?_toArray]
    by_cases hjn:j<cs.length
    ·rw [List.getElem?_append_left hjn] at hj
     have:=ai j u hj
     rw [List.append_assoc,List.getElem?_append_left (by simp only [List.length_take,Array.length_toList];omega),List.getElem?_take,if_pos<|by omega]
     simpa using this
    rw [List.getElem?_append_right (by omega)] at hj
    have a8:j - cs.length<ds.length:=(List.getElem?_eq_some_iff.1 hj).1
    have hlt:(M.toList.take<|off+n*sz).length=off+n*sz:=by simp only [List.length_take,Array.length_toList];omega
    rw [List.append_assoc,List.getElem?_append_right (by omega),hlt,List.getElem?_append_left (by omega),←hj]
    congr 1
    omega
   ·exact setRow_other w b k _ λa3=>a1<|by subst a3;exact ⟨off,n,cap,rfl,hc⟩
   obtain ⟨o,n',c',he,ay⟩:=hk
   cases he
   exact .inl ⟨off,n,cap,rfl,hc⟩
  have hn:n=0:=by omega
  have hm:m=0:=by omega
  subst hn hm
  have aw:ds=[]:=List.eq_nil_of_length_eq_zero (by simpa using an)
  subst aw
  refine ⟨.slice a 0 cap,w,?_,⟨a,cap,rfl,aa,hroom,ae,λh=>absurd h hc⟩,rfl,⟨rfl,Nat.le_refl _⟩,rfl,Nat.le_refl _,λ_ _ _=>rfl,λk hk=> .inl hk⟩
  simp only [Builtin.append_,List.getElem?_toArray,List.getElem?_cons_zero,List.getElem?_cons_succ,Sem.run_bind,run_underlying ht,Result.andThen_ok,run_sizeOf hT]
  cases a<;>simp [run_underlying ht,Z,ab,storeCells]
 have a4:Builtin.nextslicecap (n+m) cap*i.bytes<=281474976710656:=growslice_fits (by omega) (by rw [a5];exact a0)
 have ah:¬(9223372036854775807<((n:Int)+(m:Int))):=by simp only [maxLen] at ap;omega
 have ak:¬(281474976710656<Builtin.nextslicecap (n+m) cap*i.bytes):=by omega
 have aj:=grownCap_ge w (n+m) cap e
 have ax:=grownCap_le_maxLen w (n+m) cap e ap
 refine ⟨.slice (some ⟨w.heap.size,0,none⟩) (n+m)<|grownCap w (n+m) cap e,w.drew.alloc<|.cells ((cs++ds).toArray++Builtin.zeroCells zv.cells (grownCap w (n+m) cap e - (n+m))) e,?_,?_,rfl,⟨rfl,Nat.le_succ _⟩,rfl,by simp,λk hk _=>Below.heap_alloc w.drew _ k hk,λk hk=>?_⟩
 ·simp only [Builtin.append_,List.getElem?_toArray,List.getElem?_cons_zero,List.getElem?_cons_succ,Sem.run_bind,run_underlying ht,Result.andThen_ok,run_sizeOf hT]
  simp only [run_underlying ht,Sem.run_bind,Result.andThen_ok,Z,Bool.not_false,if_true,if_neg hroom,Sem.run_ite,Sem.run_pure]
  simp [typeInfo,zeroValue,hi,hz,hroom,ah,ak,Question.forced,hold,ad,newRow,grownCap,Z,run_underlying ht]
  rw [show (cs++ds).toArray=cs.toArray++ds.toArray from by simp,Array.append_assoc]
 ·refine ⟨_,_,rfl,aa,aj,ax,λ_=>⟨w.heap.size,0,_,rfl,heap_alloc_new w.drew _,?_,λj u hj=>?_⟩⟩
  ·simp only [Array.size_append,List.size_toArray,size_zeroCells,az,au,aa,←Nat.add_mul,Nat.zero_add]
   rw [Nat.add_sub_cancel' aj]
   exact Nat.le_refl _
  rw [Nat.zero_add,Array.getElem?_append_left (by
   have:=(List.getElem?_eq_some_iff.1 hj).1
   simpa using this)]
  simpa using hj
 obtain ⟨o,n',c',he,ay⟩:=hk
 cases he
 exact .inr ⟨Nat.le_refl _,by simp⟩
theorem run_makeSlice_vec(ht:P.underlying t=some (.slice e)){sz by':Nat}{ag:Bool}{z:List Value}(hT:tyF P e=some (sz,ag,by',z))(Z:z.length=sz)(n:Nat)
  (ab:n<=maxLen) (ah:n*by'<=281474976710656) :
  ∃v' w',(Instr.makeSlice t (.int .i64 n)<|.int .i64 n).run P w = .ok v' w'/\vecOk w' e sz v' n (List.replicate n z).flatten/\
   w'.os=w.os/\(w'.tape=w.tape/\w.drawn<=w'.drawn)/\w'.output=w.output/\w.heap.size<=w'.heap.size/\
   (∀k,k<w.heap.size->w'.heap[k]? = w.heap[k]?)/\(∀k,ownFp v' k->(w.heap.size<=k/\k<w'.heap.size)):=by
 obtain ⟨i,zv,d,hi,hz,hd,aa,ak,ai,ae⟩:=tyF_spec hT
 have hw:IntKind.i64.wrap (n:Int)=n:=Go.IntWalk.i64_in _ (by simp only [maxLen] at ab;omega)
 have h1:¬((n:Int)<0):=by omega
 have h2:¬(281474976710656<(i.bytes:Int)*n):=by
  rw [ai]
  have h:=Int.ofNat_le.2 ah
  rw [Int.natCast_mul,Int.mul_comm] at h
  omega
 have M:(Array.range<|n*sz).map (λj=>zv.cells[j % zv.cells.size]!)=(List.replicate n z).flatten.toArray:=by
  apply Array.ext'
  simp only [Array.toList_map,Array.toList_range]
  rw [ae]
  apply List.ext_getElem?
  intro j
  simp only [List.getElem?_map,List.size_toArray,Z]
  by_cases hj:j<n*sz
  ·have hs:0<sz:=Nat.pos_of_ne_zero λh=>by subst h;simp at hj
   rw [List.getElem?_range hj]
   have ad:j % sz<z.length:=by rw [Z];exact Nat.mod_lt _ hs
   rw [flatten_rep z n j (by rw [Z];exact hs) (by rw [Z];exact hj),Z]
   simp [ad]
  rw [List.getElem?_eq_none (by simpa using hj),List.getElem?_eq_none (by rw [len_rep,Z];omega)]
  rfl
 refine ⟨.slice (some ⟨w.heap.size,0,none⟩) n n,w.alloc<|.cells (List.replicate n z).flatten.toArray e,?_,?_,rfl,⟨rfl,Nat.le_refl _⟩,rfl,by simp,λk hk=>Below.heap_alloc w _ k hk,λk hk=>?_⟩
 ·simp only [Instr.makeSlice,Sem.run_bind,run_underlying ht,Result.andThen_ok]
  by_cases hn:n*sz=0
  ·have h0:(List.replicate n z).flatten=[]:=List.eq_nil_of_length_eq_zero (by rw [len_rep,Z];exact hn)
   simp [asInt,asIntOf,typeInfo,hi,hw,h1,h2,aa,sizeOf,hn,newRow,h0,Array.range_zero']
  simp [asInt,asIntOf,typeInfo,hi,hw,h1,h2,aa,sizeOf,hn,newRow,zeroValue,hz,M]
 ·refine ⟨_,n,rfl,by simp [Z],Nat.le_refl _,ab,λ_=>⟨w.heap.size,0,_,rfl,heap_alloc_new w _,by simp [Z],λj u hj=>by simpa using hj⟩⟩
 obtain ⟨o,n',c',he,aj⟩:=hk
 cases he
 exact ⟨Nat.le_refl _,by simp⟩
end runs
end Go.Sl
namespace Go.Sl
open Go
variable{fuel i stop:Nat}{Z:Array Bool}{v:Value}{a:Act}{w:World}
section
variable {P:Program}{ops:Array Oper}{Q:Exit->Act->World->Prop}{md:Region.Mode}{S:World->Prop}
def waitsFor(md:Region.Mode)(ops:Array Oper)(stop i:Nat):Bool:=
 match ops[stop]? with
 |some o=>o.after.any λe=>Region.binds md e&&e.on==i
 |none=>true
def wpAnyT(P:Program)(md:Region.Mode)(ops:Array Oper)(Q:Exit->Act->World->Prop)(S:World->Prop)(stop:Nat):Nat->Array Bool->Act->World->Prop
 |0,listed,a,w=>Region.ready md ops listed=[]/\Q .normal a w
 |fuel+1,listed,a,w=>
  (Region.ready md ops listed=[stop]->wpAny P md ops Q (fuel+1) listed a w)/\
  (Region.ready md ops listed≠[stop]->(Region.ready md ops listed=[]->Q .normal a w)/\
   ∀i∈Region.ready md ops listed,wpOp P ops Q i (λa' w'=>S w'/\wpAnyT P md ops Q S stop fuel (listed.setIfInBounds i true) a' w') a w)
theorem wpAny_of_T:∀(fuel:Nat) (listed:Array Bool) (a:Act) (w:World),wpAnyT P md ops Q S stop fuel listed a w->wpAny P md ops Q fuel listed a w
 |0,_,_,_,h=>h
 |fuel+1,listed,a,w,h=>by
  by_cases hr:Region.ready md ops listed=[stop]
  ·exact h.1 hr
  exact ⟨(h.2 hr).1,λi hi=>wpOp_mono (λZ w' M=>wpAny_of_T fuel _ Z w' M.2)<|(h.2 hr).2 i hi⟩
theorem ready_unlisted{j:Nat}{oj:Oper}(hi:i∈Region.ready md ops Z)(hj:j∈Region.ready md ops Z)(ad:ops[j]? = some oj) :
  ∀e∈oj.after,Region.binds md e=true->e.on≠i:=λe he hb ab=>by
 obtain ⟨_,ae,M,aa⟩:=mem_ready.1 hj
 rw [ad] at M
 cases M
 have h1:=aa e he hb
 have h0:=(mem_ready.1 hi).1
 rw [ab] at h1
 rcases Nat.lt_or_ge i Z.size with h'|h'
 ·simp [h'] at h0 h1;rw [h0] at h1;cases h1
 simp [Array.getElem?_eq_none h'] at h1
theorem not_waits(hi:i∈Region.ready md ops Z)(hs:stop∈Region.ready md ops Z)(hw:waitsFor md ops stop i=true):False:=by
 obtain ⟨_,o,ho,_⟩:=mem_ready.1 hs
 simp only [waitsFor,ho,Array.any_eq_true,Bool.and_eq_true,beq_iff_eq] at hw
 obtain ⟨k,hk,hb,M⟩:=hw
 exact ready_unlisted hi hs ho o.after[k] (Array.getElem_mem hk) hb M
theorem wpAnyT_first{oi:Oper}(hi:ops[i]? = some oi)(ae:∀(j:Nat) (o:Oper) cs b,ops[j]? = some o->o.op ≠ .select cs b)(ak:i≠stop)(ai:waitsFor md ops stop i=true)
  (hQ:∀c a w,Q (.panic c) (a.put oi.dst v) w->Q (.panic c) a w) :
  ∀(fuel:Nat) (Z:Array Bool) (a:Act) (w:World),
   (∀j oj,ops[j]? = some oj->j≠i->Z.getD j true=false->(∀e∈oj.after,Region.binds md e=true->e.on≠i)->oi.apart ops oj=true)->
   i∈Region.ready md ops Z->YieldsIf P ops S oi v a->S w->
   wpAnyT P md ops Q S stop fuel (Z.setIfInBounds i true) (a.put oi.dst v) w->wpAnyT P md ops Q S stop (fuel+1) Z a w:=by
 intro fuel
 induction fuel with
 |zero=>
  intro Z a w _ M hy hS H
  refine ⟨λh=>(by rw [h] at M;exact absurd (by simpa using M) ak),λ_=>⟨λh=>(by rw [h] at M;cases M),λj hj=>?_⟩⟩
  by_cases hji:j=i
  ·subst hji;exact hy.wpOp hi hS ⟨hS,H⟩
  have:=ready_mono hj hji
  rw [H.1] at this
  cases this
 |succ fuel ih=>
  intro Z a w aa M hy hS H
  refine ⟨λh=>(by rw [h] at M;exact absurd (by simpa using M) ak),λ_=>⟨λh=>(by rw [h] at M;cases M),λj hj=>?_⟩⟩
  by_cases hji:j=i
  ·subst hji;exact hy.wpOp hi hS ⟨hS,H⟩
  have aj:=ready_mono hj hji
  have ar:Region.ready md ops (Z.setIfInBounds i true)≠[stop]:=λh=>by
   rw [h] at aj
   obtain rfl:j=stop:=by simpa using aj
   exact not_waits M hj ai
  have h1:=(H.2 ar).2 j aj
  obtain ⟨ah,oj,ad,au⟩:=mem_ready.1 hj
  have an:=ready_unlisted M hj ad
  have h2:=wpOp_putIf ad (aa j oj ad hji ah an) (λcs b=>ae i oi cs b hi) (λcs b=>ae j oj cs b ad) hQ hy h1
  have ab:∀k ok,ops[k]? = some ok->k≠i->(Z.setIfInBounds j true).getD k true=false->
    (∀e∈ok.after,Region.binds md e=true->e.on≠i)->oi.apart ops ok=true:=λk ok hk aq ao ap=>by
   refine aa k ok hk aq ?_ ap
   by_cases hjk:j=k
   ·subst hjk;exact ah
   rw [getD_set_ne true hjk] at ao;exact ao
  refine wpOp_mono (λa' w' h3=>⟨h3.2.1,ih (Z.setIfInBounds j true) a' w' ab (ready_mono M<|Ne.symm hji) h3.1 h3.2.1 ?_⟩) h2
  rw [Array.setIfInBounds_comm _ _ hji]
  exact h3.2.2
theorem wpAnyT_take{oi:Oper}(hi:ops[i]? = some oi)
  (hs:Region.noSelect ops=true) (hf:Region.free md ops Z i=true) (hr:(Region.ready md ops Z).contains i=true) (aa:Nat.beq i stop=false) (M:waitsFor md ops stop i=true)
  (hQ:∀c a w,Q (.panic c) (a.put oi.dst v) w->Q (.panic c) a w) (hy:YieldsIf P ops S oi v a) (hS:S w)
  (h:wpAnyT P md ops Q S stop fuel (Z.setIfInBounds i true) (a.put oi.dst v) w):wpAnyT P md ops Q S stop (fuel+1) Z a w:=
 wpAnyT_first hi (Region.noSelect_spec hs) (λe=>by subst e;simp at aa) M hQ fuel Z a w (Region.free_spec hi hf) (by simpa using hr) hy hS h
theorem wpAnyT_all{rs:List Nat}(hr:Region.ready md ops Z=rs)(aa:rs.isEmpty=false)(ab:(rs==[stop])=false)
  (h:∀i∈rs,wpOp P ops Q i (λa' w'=>S w'/\wpAnyT P md ops Q S stop fuel (Z.setIfInBounds i true) a' w') a w):wpAnyT P md ops Q S stop (fuel+1) Z a w:=
 ⟨λM=>(by rw [hr] at M;simp [M] at ab),λ_=>⟨λM=>(by rw [hr] at M;simp [M] at aa),hr▸h⟩⟩
theorem wpAnyT_stop(hr:Region.ready md ops Z=[stop])(h:wpAny P md ops Q (fuel+1) Z a w):wpAnyT P md ops Q S stop (fuel+1) Z a w:=
 ⟨λ_=>h,λM=>absurd hr M⟩
theorem wpAny_done(M:Region.ready md ops Z=[])(h:Q .normal a w):∀fuel,wpAny P md ops Q fuel Z a w
 |0=>⟨M,h⟩
 |_+1=>⟨λ_=>h,by rw [M];simp⟩
theorem wpAnyT_done(M:Region.ready md ops Z=[])(h:Q .normal a w):∀fuel,wpAnyT P md ops Q S stop fuel Z a w
 |0=>⟨M,h⟩
 |_+1=>⟨λh0=>(by rw [M] at h0;cases h0),λ_=>⟨λ_=>h,by rw [M];simp⟩⟩
theorem wp_region_open{id:Nat}(Z:P.follows .mixedOrders=true)
  (h:wpAny P .any ops Q ops.size (Array.replicate ops.size false) a w.drew):(Code.region id ops true).wp P Q a w:=wp_region_any Z h
end
end Go.Sl
namespace Go.Sl
open Go.RowKit (Below)
variable{Z:Array Bool}{c:Operand}{d fuel i id j k t:Nat}{l:List Oper}{a:Act}{b:Bool}{v:Value}
section judgements
variable (P:Program)(κ:Ctx)(N:Frm)
def W(c:Code)(Q:Exit->Act->World->Prop)(L:Env)(I:List Item):Prop:=∀a w,Ag N a L->Sep κ w I->c.wp P Q a w
def G(ops:Array Oper)(Q:Exit->Act->World->Prop)(rest:List Oper)(L:Env)(I:List Item):Prop:=∀a w,Ag N a L->Sep κ w I->wpList P ops Q rest a w
def V(Q:Exit->Act->World->Prop)(e:Exit)(L:Env)(I:List Item):Prop:=∀a w,Ag N a L->Sep κ w I->Q e a w
def D(ops:Array Oper)(Q:Exit->Act->World->Prop)(J:List Item)(stop fuel:Nat)(listed:Array Bool)(L:Env)(I:List Item):Prop:=
 ∀a w,Ag N a L->Sep κ w I->wpAnyT P .any ops Q (λw=>Sep κ w J) stop fuel listed a w
def A(ops:Array Oper)(Q:Exit->Act->World->Prop)(fuel:Nat)(listed:Array Bool)(L:Env)(I:List Item):Prop:=
 ∀a w,Ag N a L->Sep κ w I->wpAny P .any ops Q fuel listed a w
def Runs(o:Oper)(L:Env)(J:List Item)(v:Value):Prop:=∀a w,Ag N a L->Sep κ w J->(execOp a.eval o).run P w = .ok (.value v) w
def Eff(Q:Exit->Act->World->Prop)(o:Oper)(L:Env)(I:List Item)(R:Env->List Item->Prop):Prop:=
 ∀a w,Ag N a L->Sep κ w I->o.wp P a w (λa' w'=>∃L' I',R L' I'/\Ag N a' L'/\Sep κ w' I') Q
def Wanted(ops:Array Oper)(o:Oper)(L:Env):Prop:=∀a,Ag N a L->Region.wanted o (yielded ops a.tmps)=true
def Unwanted(ops:Array Oper)(o:Oper)(L:Env):Prop:=∀a,Ag N a L->Region.wanted o (yielded ops a.tmps)=false
def eu(f:FuncId)(args:List Value)(I:List Item)(Post:Value->List Item->Prop):Prop:=
 ∀w,Sep κ w I->Calls P f args.toArray w λe w'=>∃v J,e = .returned v/\Post v J/\Sep κ w' J
end judgements
section
variable {P:Program}{κ:Ctx}{N:Frm}{Q:Exit->Act->World->Prop}{L:Env}{I J:List Item}{ops:Array Oper}{o:Oper}{rest:List Oper}
theorem eu.mono{f:FuncId}{Z:List Value}{Post Post':Value->List Item->Prop}(h:eu P κ f Z I Post)(hp:∀v J,Post v J->Post' v J):eu P κ f Z I Post':=
 λw s=>(h w s).mono λe w' ⟨v,J,M,hq,hs⟩=>⟨v,J,M,hp v J hq,hs⟩
theorem eu.fit{f:FuncId}{Z:List Value}{Post:Value->List Item->Prop}(M:Fit κ I J)(h:eu P κ f Z J Post):eu P κ f Z I Post:=λw s=>h w (M w s)
theorem eu.at{f:FuncId}{M:List Value}{Y:Type}{x:Item}{X:Y->Item}{Z:Y->List Item}{F:Item->List Item}{Post:Value->Y->Prop}(ab:AtF I x F)
  (h:∀J,Fit κ (x::J) I->(∀x',Fit κ (x'::J)<|F x')->eu P κ f M (x::J) λr J'=>∃y,Post r y/\J'=Z y++X y::J):eu P κ f M I λr J'=>∃y,Post r y/\J'=Z y++F (X y):=λw hs=>by
 obtain ⟨J,h1,h2⟩:=ab.perm
 refine ((h J (λw s=>s.perm h1.symm) λx' w s=>s.perm (h2 x').symm) w<|hs.perm h1).mono λe w' ⟨v,J',he,⟨y,hp,hJ⟩,aa⟩=>?_
 subst hJ
 exact ⟨v,_,he,⟨y,hp,rfl⟩,aa.perm<|List.Perm.append_left _ (h2 _).symm⟩
theorem W.sub{c:Code}{L':Env}(Z:Sub L L')(h:W P κ N c Q L' I):W P κ N c Q L I:=λa w M hs=>h a w (M.sub Z) hs
theorem G.fit(M:Fit κ I J)(h:G P κ N ops Q rest L J):G P κ N ops Q rest L I:=λa w Z hs=>h a w Z (M w hs)
theorem W.pull{c:Code}{p:Prop}(Z:∀w,Sep κ w I->p)(h:p->W P κ N c Q L I):W P κ N c Q L I:=λa w M hs=>h (Z w hs) a w M hs
theorem G.pull{p:Prop}(Z:∀w,Sep κ w I->p)(h:p->G P κ N ops Q rest L I):G P κ N ops Q rest L I:=λa w M hs=>h (Z w hs) a w M hs
theorem eu.pull{f:FuncId}{Z:List Value}{Post:Value->List Item->Prop}{p:Prop}(M:∀w,Sep κ w I->p)(h:p->eu P κ f Z I Post):eu P κ f Z I Post:=λw hs=>h (M w hs) w hs
theorem W.seq{x y:Code}(h:W P κ N x (Exit.then (y.wp P Q) Q) L I):W P κ N (.seq x y) Q L I:=λa w Z hs=>wp_seq (h a w Z hs)
theorem W.cond{x y:Code}{t:Bool}(hc:er L c=some (.bool t))(M:t=true->W P κ N x Q L I)(h2:t=false->W P κ N y Q L I):W P κ N (.cond c x y) Q L I:=
 λa w Z hs=>wp_cond_split (Z.eval hc) (λh=>M h a w Z hs) (λh=>h2 h a w Z hs)
theorem W.ite{x y:Code}{p:Prop}[Decidable p](M:er L c=some (.bool (decide p)))(Z:p->W P κ N x Q L I)(h2:¬p->W P κ N y Q L I):W P κ N (.cond c x y) Q L I:=
 W.cond M (λh=>Z<|of_decide_eq_true h) (λh=>h2<|of_decide_eq_false h)
theorem W.yes{x y:Code}(Z:er L c=some (.bool true))(h:W P κ N x Q L I):W P κ N (.cond c x y) Q L I:=W.cond Z (λ_=>h) (λe=>by cases e)
theorem W.no{x y:Code}(Z:er L c=some (.bool false))(h:W P κ N y Q L I):W P κ N (.cond c x y) Q L I:=W.cond Z (λe=>by cases e) (λ_=>h)
theorem W.block{c:Code}(h:W P κ N c (Exit.inBlock id Q) L I):W P κ N (.block id c) Q L I:=λa w Z hs=>wp_block (h a w Z hs)
theorem W.skip(h:V κ N Q .normal L I):W P κ N .skip Q L I:=λa w Z hs=>wp_skip (h a w Z hs)
theorem W.exit(h:V κ N Q (.exit id) L I):W P κ N (.exit id) Q L I:=λa w Z hs=>wp_exit (h a w Z hs)
theorem W.ret(h:V κ N Q .ret L I):W P κ N .ret Q L I:=λa w Z hs=>wp_ret (h a w Z hs)
theorem W.region(h:G P κ N l.toArray Q l L I):W P κ N (.region id l.toArray false) Q L I:=λa w Z hs=>wp_region_lit (h a w Z hs)
theorem V.then{y:Code}(h:W P κ N y Q L I):V κ N (Exit.then (y.wp P Q) Q) .normal L I:=h
theorem V.then_exit{K:Act->World->Prop}(h:V κ N Q (.exit id) L I):V κ N (Exit.then K Q) (.exit id) L I:=h
theorem V.then_ret{K:Act->World->Prop}(h:V κ N Q .ret L I):V κ N (Exit.then K Q) .ret L I:=h
theorem V.block_ret(h:V κ N Q .ret L I):V κ N (Exit.inBlock id Q) .ret L I:=h
theorem V.block_normal(h:V κ N Q .normal L I):V κ N (Exit.inBlock id Q) .normal L I:=h
theorem V.block_hit(h:V κ N Q .normal L I):V κ N (Exit.inBlock id Q) (.exit id) L I:=λa w Z hs=>by simp only [Exit.inBlock,if_true];exact h a w Z hs
theorem V.block_miss{Z:Nat}(aa:Nat.beq Z id=false)(h:V κ N Q (.exit Z) L I):V κ N (Exit.inBlock id Q) (.exit Z) L I:=λa w ha hs=>by
 have M:¬Z=id:=λe=>by subst e;simp at aa
 simp only [Exit.inBlock,M,if_false]
 exact h a w ha hs
def LoopK(κ:Ctx)(N:Frm){σ:Type}(Lv:σ->Env)(Iv:σ->List Item)(p:σ->Prop)(μ:σ->Nat)(s:σ)(a:Act)(w:World):Prop:=
 ∃s',p s'/\μ s'<μ s/\Ag N a (Lv s')/\Sep κ w (Iv s')
theorem W.loop{c:Code}{σ:Type}(Lv:σ->Env)(Iv:σ->List Item)(p:σ->Prop)(μ:σ->Nat)(s0:σ)(hp:p s0)(hL:Sub L (Lv s0))(hI:Fit κ I (Iv s0))
  (aa:∀s,p s->W P κ N c (Exit.then (LoopK κ N Lv Iv p μ s) Q) (Lv s) (Iv s)):W P κ N (.loop c) Q L I:=by
 intro a w ha hs
 have ad:∀(m:Nat) (s:σ),μ s=m->p s->∀a w,Ag N a (Lv s)->Sep κ w (Iv s)->∀(b:Frame) (k:List Go.Item) (cs:List Frame),
   ∃e a' w',Q e a' w'/\Arrives P (lone (b.at a<|.code c :: .inLoop c::k) cs w) b k cs e a' w':=by
  intro m
  induction m using Nat.strongRecOn with
  |_ m ih=>
   intro s hm ai a w ha hs b k cs
   obtain ⟨e,a₁,w₁,M,Z⟩:=aa s ai a w ha hs b (.inLoop c::k) cs
   cases e with
   |normal=>
    obtain ⟨s',ak,hlt,ae,ah⟩:=M
    obtain ⟨e₂,a₂,w₂,aj,ab⟩:=ih (μ s') (hm▸hlt) s' rfl ak a₁ w₁ ae ah b k cs
    exact ⟨e₂,a₂,w₂,aj,.of_steps (Steps.trans Z<|.one step_inLoop) ab⟩
   |exit id=>exact ⟨_,a₁,w₁,M,.pass (x:= .inLoop c) rfl (λ_ _=> .inl<|by simp) Z⟩
   |goto l=>exact ⟨_,a₁,w₁,M,.pass (x:= .inLoop c) rfl (λ_ _=> .inl<|by simp) Z⟩
   |ret=>exact ⟨_,a₁,w₁,M,.pass (x:= .inLoop c) rfl (λ_ _=> .inl<|by simp) Z⟩
   |panic ch=>exact ⟨_,a₁,w₁,M,.pass (x:= .inLoop c) rfl (λ_ _=> .inl<|by simp) Z⟩
   |outgrown=>exact ⟨_,a₁,w₁,M,.pass (x:= .inLoop c) rfl (λ_ _=> .inl<|by simp) Z⟩
 intro b k cs
 obtain ⟨e,a',w',M,Z⟩:=ad (μ s0) s0 rfl hp a w (ha.sub hL) (hI w hs) b k cs
 exact ⟨e,a',w',M,.of_steps (.one step_loop) Z⟩
theorem V.next{σ:Type}{Lv:σ->Env}{Iv:σ->List Item}{p:σ->Prop}{μ:σ->Nat}{s:σ}(Z:σ)(M:p Z)(hlt:μ Z<μ s)(hL:Sub L (Lv Z))(hI:Fit κ I (Iv Z)) :
  V κ N (Exit.then (LoopK κ N Lv Iv p μ s) Q) .normal L I:=λa w ha hs=>⟨Z,M,hlt,ha.sub hL,hI w hs⟩
def MidK(κ:Ctx)(N:Frm){σ:Type}(Lv:σ->Env)(Iv:σ->List Item)(p:σ->Prop)(a:Act)(w:World):Prop:=
 ∃s,p s/\Ag N a (Lv s)/\Sep κ w (Iv s)
theorem wp_then_mono{c:Code}{K K':Act->World->Prop}(Z:∀a w,K a w->K' a w){w:World}(h:c.wp P (Exit.then K Q) a w):c.wp P (Exit.then K' Q) a w:=
 Code.wp_mono (λe a w q=>by cases e<;>first|exact Z _ _ q|exact q) h
theorem W.cut{x y:Code}{σ:Type}(Lv:σ->Env)(Iv:σ->List Item)(p:σ->Prop)(M:W P κ N x (Exit.then (MidK κ N Lv Iv p) Q) L I)
  (h2:∀s,p s->W P κ N y Q (Lv s) (Iv s)):W P κ N (.seq x y) Q L I:=
 λa w Z hs=>wp_seq (wp_then_mono (λa w ⟨s,hp,Z,hs⟩=>h2 s hp a w Z hs)<|M a w Z hs)
theorem V.mid{σ:Type}{Lv:σ->Env}{Iv:σ->List Item}{p:σ->Prop}(s:σ)(Z:p s)(hL:Sub L (Lv s))(hI:Fit κ I (Iv s)) :
  V κ N (Exit.then (MidK κ N Lv Iv p) Q) .normal L I:=λa w M hs=>⟨s,Z,M.sub hL,hI w hs⟩
theorem Wanted.plain(h:o.guard=none):Wanted N ops o L:=λ_ _=>by simp [Region.wanted,h]
theorem yielded_of(ha:Ag N a L)(Z:(ops[j]?).bind (·.dst)=some t)(M:look L t=some (.bool b)):yielded ops a.tmps j=some b:=by
 simp [yielded,Z,ha.get t _ M]
theorem Wanted.on(hg:o.guard=some (j,b))(Z:(ops[j]?).bind (·.dst)=some t)(M:look L t=some (.bool b)):Wanted N ops o L:=λa ha=>by
 simp [Region.wanted,hg,yielded_of ha Z M]
theorem Unwanted.off(hg:o.guard=some (j,b))(Z:(ops[j]?).bind (·.dst)=some t)(M:look L t=some (.bool (!b))):Unwanted N ops o L:=λa ha=>by
 simp only [Region.wanted,hg,yielded_of ha Z M]
 cases b<;>rfl
theorem Unwanted.und(M:o.guard=some (j,b))(hj:(ops[j]?).bind (·.dst)=some t)(Z:look L t=some undef):Unwanted N ops o L:=λa ha=>by
 simp only [Region.wanted,M]
 have h:=ha.get t _ Z
 simp [yielded,hj,h,undef]
theorem G.nil(h:V κ N Q .normal L I):G P κ N ops Q [] L I:=λa w Z hs=>h a w Z hs
theorem G.read(M:Wanted N ops o L)(hd:o.dst=some d)(hN:Nat.blt d N.n=true)(hr:Runs P κ N o L I v)(h:G P κ N ops Q rest ((d,v)::L) I):G P κ N ops Q (o::rest) L I:=
 λa w Z hs=>by
  unfold wpList
  rw [if_pos (M a Z)]
  refine .inl ?_
  simp only [Oper.wp,hr a w Z hs,Oper.upon,hd]
  exact h _ w (Z.put d hN v) hs
theorem G.eff{R:Env->List Item->Prop}(hw:Wanted N ops o L)(he:Eff P κ N Q o L I R)(h:∀L' I',R L' I'->G P κ N ops Q rest L' I'):G P κ N ops Q (o::rest) L I:=
 λa w ha hs=>by
  unfold wpList
  rw [if_pos (hw a ha)]
  refine .inl<|Oper.wp_mono (λa' w' ⟨L',I',hR,Z,M⟩=>h L' I' hR a' w' Z M)<|he a w ha hs
theorem G.pass(M:Unwanted N ops o L)(hd:o.dst=some d)(hN:Nat.blt d N.n=true)(h:G P κ N ops Q rest ((d,undef)::L) I):G P κ N ops Q (o::rest) L I:=
 λa w Z hs=>by
  unfold wpList
  rw [if_neg (by simp [M a Z])]
  rw [hd]
  exact h _ w (Z.put d hN _) hs
theorem W.drawn(M:P.follows .mixedOrders=true)(h:A P κ N l.toArray Q l.toArray.size (Array.replicate l.toArray.size false) L I) :
  W P κ N (.region id l.toArray true) Q L I:=λa w Z hs=>wp_region_open M (h a _ Z hs.drew)
theorem A.hold(J:List Item)(stop:Nat)(h:D P κ N ops Q J stop fuel Z L I):A P κ N ops Q fuel Z L I:=λa w M hs=>wpAny_of_T _ _ _ _ (h a w M hs)
theorem A.done(M:Region.ready .any ops Z=[])(h:V κ N Q .normal L I):A P κ N ops Q fuel Z L I:=λa w ha hs=>wpAny_done M (h a w ha hs) _
theorem D.done{stop:Nat}(M:Region.ready .any ops Z=[])(h:V κ N Q .normal L I):D P κ N ops Q J stop fuel Z L I:=
 λa w ha hs=>wpAnyT_done M (h a w ha hs) _
theorem D.stop{stop:Nat}(M:Region.ready .any ops Z=[stop])(h:A P κ N ops Q (fuel+1) Z L I):D P κ N ops Q J stop (fuel+1) Z L I:=
 λa w ha hs=>wpAnyT_stop M (h a w ha hs)
theorem D.read{stop:Nat}(i:Nat)(hi:ops[i]? = some o)(ab:Region.noSelect ops=true)(hf:Region.free .any ops Z i=true)
  (hr:(Region.ready .any ops Z).contains i=true) (ae:Nat.beq i stop=false) (ah:waitsFor .any ops stop i=true) (hQ:∀c a u w,Q (.panic c) (a.put o.dst u) w->Q (.panic c) a w) (hw:Wanted N ops o L) (hd:o.dst=some d) (hN:Nat.blt d N.n=true)
  (hJ:Fit κ I J) (M:Runs P κ N o L J v) (h:D P κ N ops Q J stop fuel (Z.setIfInBounds i true) ((d,v)::L) I):D P κ N ops Q J stop (fuel+1) Z L I:=λa w ha hs=>by
 refine wpAnyT_take hi ab hf hr ae ah (λc a w=>hQ c a v w) (.inl ⟨hw a ha,λw' ad=>M a w' ha ad⟩) (hJ w hs) ?_
 have aa:=ha.put d hN v
 rw [←hd] at aa
 exact h _ w aa hs
theorem D.pass{stop:Nat}(i:Nat)(hi:ops[i]? = some o)(aa:Region.noSelect ops=true)(hf:Region.free .any ops Z i=true)
  (hr:(Region.ready .any ops Z).contains i=true) (ab:Nat.beq i stop=false) (ad:waitsFor .any ops stop i=true) (hQ:∀c a u w,Q (.panic c) (a.put o.dst u) w->Q (.panic c) a w) (hw:Unwanted N ops o L) (hd:o.dst=some d) (hN:Nat.blt d N.n=true)
  (hJ:Fit κ I J) (h:D P κ N ops Q J stop fuel (Z.setIfInBounds i true) ((d,undef)::L) I):D P κ N ops Q J stop (fuel+1) Z L I:=λa w ha hs=>by
 refine wpAnyT_take hi aa hf hr ab ad (λc a w=>hQ c a undef w) (.inr ⟨hw a ha,rfl⟩) (hJ w hs) ?_
 have M:=ha.put d hN undef
 rw [←hd] at M
 exact h _ w M hs
def Step(P:Program)(κ:Ctx)(N:Frm)(ops:Array Oper)(Q:Exit->Act->World->Prop)(J:List Item)(stop fuel:Nat)(listed:Array Bool)(L:Env)(I:List Item)(i:Nat):Prop:=
 ∀a w,Ag N a L->Sep κ w I->wpOp P ops Q i (λa' w'=>Sep κ w' J/\wpAnyT P .any ops Q (λw=>Sep κ w J) stop fuel (listed.setIfInBounds i true) a' w') a w
theorem D.step{stop:Nat}{rs:List Nat}(hr:Region.ready .any ops Z=rs)(M:rs.isEmpty=false)(aa:(rs==[stop])=false)(h:∀i∈rs,Step P κ N ops Q J stop fuel Z L I i):D P κ N ops Q J stop (fuel+1) Z L I:=
 λa w ha hs=>wpAnyT_all hr M aa λi hi=>h i hi a w ha hs
theorem all1{p:Nat->Prop}(h:p i):∀j∈[i],p j:=λj Z=>(List.mem_singleton.1 Z)▸h
theorem all2{p:Nat->Prop}{l:List Nat}(h:p i)(Z:∀j∈l,p j):∀j∈i::l,p j:=λj hj=>by
 rcases List.mem_cons.1 hj with rfl|hj
 ·exact h
 exact Z j hj
theorem Step.eff{stop:Nat}{R:Env->List Item->Prop}(hi:ops[i]? = some o)(hw:Wanted N ops o L)(he:Eff P κ N Q o L I R)
  (h:∀L' I',R L' I'->Fit κ I' J/\D P κ N ops Q J stop fuel (Z.setIfInBounds i true) L' I'):Step P κ N ops Q J stop fuel Z L I i:=λa w ha hs=>by
 unfold wpOp
 simp only [hi,hw a ha,if_true]
 exact .inl<|Oper.wp_mono (λa' w' ⟨L',I',hR,aa,M⟩=>⟨(h L' I' hR).1 w' M,(h L' I' hR).2 a' w' aa M⟩)<|he a w ha hs
theorem Step.read{stop:Nat}(hi:ops[i]? = some o)(hw:Wanted N ops o L)(hd:o.dst=some d)(hN:Nat.blt d N.n=true)(hr:Runs P κ N o L I v)(hf:Fit κ I J)
  (h:D P κ N ops Q J stop fuel (Z.setIfInBounds i true) ((d,v)::L) I):Step P κ N ops Q J stop fuel Z L I i:=λa w ha hs=>by
 unfold wpOp
 simp only [hi,hw a ha,if_true,Oper.wp,hr a w ha hs,Oper.upon]
 have M:=ha.put d hN v
 rw [←hd] at M
 exact .inl ⟨hf w hs,h _ w M hs⟩
theorem A.eff{R:Env->List Item->Prop}(hr:Region.ready .any ops Z=[i])(hi:ops[i]? = some o)(hw:Wanted N ops o L)(he:Eff P κ N Q o L I R)
  (h:∀L' I',R L' I'->A P κ N ops Q fuel (Z.setIfInBounds i true) L' I'):A P κ N ops Q (fuel+1) Z L I:=λa w ha hs=>by
 refine ⟨λh0=>(by rw [hr] at h0;cases h0),λj hj=>?_⟩
 rw [hr] at hj
 obtain rfl:j=i:=by simpa using hj
 unfold wpOp
 simp only [hi,hw a ha,if_true]
 exact .inl<|Oper.wp_mono (λa' w' ⟨L',I',hR,M,aa⟩=>h L' I' hR a' w' M aa)<|he a w ha hs
theorem A.read(hr:Region.ready .any ops Z=[i])(hi:ops[i]? = some o)(hw:Wanted N ops o L)(hd:o.dst=some d)(hN:Nat.blt d N.n=true)(M:Runs P κ N o L I v)
  (h:A P κ N ops Q fuel (Z.setIfInBounds i true) ((d,v)::L) I):A P κ N ops Q (fuel+1) Z L I:=λa w ha hs=>by
 refine ⟨λh0=>(by rw [hr] at h0;cases h0),λj hj=>?_⟩
 rw [hr] at hj
 obtain rfl:j=i:=by simpa using hj
 unfold wpOp
 simp only [hi,hw a ha,if_true,Oper.wp,M a w ha hs,Oper.upon]
 have aa:=ha.put d hN v
 rw [←hd] at aa
 exact .inl<|h _ w aa hs
theorem Ag.restate{M:Value}(Z:Ag N a L)(hl:look L d=some v)(h:v=M):Ag N a ((d,M)::L):=
 ⟨Z.defers,Z.size,λt u hu=>by
  rw [look_cons] at hu
  by_cases ht:d=t
  ·subst ht
   simp only [if_true,Option.some.injEq] at hu
   rw [←hu,←h]
   exact Z.get d v hl
  simp only [ht,if_false] at hu
  exact Z.get t u hu⟩
theorem G.split{p:Prop}[Decidable p](Z:look L d=some (.bool (decide p)))(h1:p->G P κ N ops Q rest ((d,.bool true)::L) I)(h2:¬p->G P κ N ops Q rest ((d,.bool false)::L) I):G P κ N ops Q rest L I:=λa w M hs=>by
 by_cases hp:p
 ·exact h1 hp a w (M.restate Z<|by simp [hp]) hs
 exact h2 hp a w (M.restate Z<|by simp [hp]) hs
theorem G.splitb(Z:look L d=some (.bool b))(h1:b=true->G P κ N ops Q rest ((d,.bool true)::L) I)(h2:b=false->G P κ N ops Q rest ((d,.bool false)::L) I):G P κ N ops Q rest L I:=λa w M hs=>by
 cases b with
 |true=>exact h1 rfl a w (M.restate Z rfl) hs
 |false=>exact h2 rfl a w (M.restate Z rfl) hs
theorem D.split{stop:Nat}{p:Prop}[Decidable p](M:look L d=some (.bool (decide p)))(h1:p->D P κ N ops Q J stop fuel Z ((d,.bool true)::L) I)(h2:¬p->D P κ N ops Q J stop fuel Z ((d,.bool false)::L) I):D P κ N ops Q J stop fuel Z L I:=λa w ha hs=>by
 by_cases hp:p
 ·exact h1 hp a w (ha.restate M<|by simp [hp]) hs
 exact h2 hp a w (ha.restate M<|by simp [hp]) hs
theorem D.splitb{stop:Nat}(M:look L d=some (.bool b))(h1:b=true->D P κ N ops Q J stop fuel Z ((d,.bool true)::L) I)(h2:b=false->D P κ N ops Q J stop fuel Z ((d,.bool false)::L) I):D P κ N ops Q J stop fuel Z L I:=λa w ha hs=>by
 cases b with
 |true=>exact h1 rfl a w (ha.restate M rfl) hs
 |false=>exact h2 rfl a w (ha.restate M rfl) hs
theorem lookI{m n:Int}(h:look L k=some (.int .i64 m))(e:m=n):look L k=some (.int .i64 n):=by rw [h,e]
theorem lookV{u:Value}(h:look L k=some u)(e:u=v):look L k=some v:=by rw [h,e]
end
theorem A.ho{P:Program}{κ:Ctx}{N:Frm}{Q:Exit->Act->World->Prop}{L:Env}{I:List Item}{ops:Array Oper}(stop:Nat)(h:D P κ N ops Q I stop fuel Z L I):A P κ N ops Q fuel Z L I:=A.hold I stop h
end Go.Sl
