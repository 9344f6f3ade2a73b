/- A part of the proofs of statements of this seat: contracts of functions, and the plain laws that they lean on. No conditions. -/
import Derived.WalkKit
import Derived.OrdersHeld
set_option linter.unusedVariables false
set_option linter.unusedSimpArgs false
set_option linter.unusedSectionVars false
namespace Go.Sl
abbrev An:=@if_neg
abbrev As:=@decide_eq_true
abbrev A_:=@List.mem_cons_self
abbrev By:=@List.length_append
abbrev B_:=@if_pos
abbrev C_:=@List.mem_cons_of_mem
abbrev D_:=@decide_eq_false
abbrev E_:=@List.length_cons
abbrev Fo:=@List.length_set
abbrev Fp:=@List.length_take
abbrev Fq:=@of_decide_eq_true
abbrev Fr:=@List.append_assoc
abbrev Fs:=@decide_eq_decide
abbrev Ft:=@Classical.not_not
abbrev Fu:=@List.length_nil
abbrev Fv:=@List.take_of_length_le
abbrev Fw:=@List.mem_cons
abbrev Fx:=@List.length_drop
abbrev Fy:=@List.length_replicate
abbrev Fz:=@congrArg
abbrev F_:=@List.length_map
abbrev Gb:=@Classical.byContradiction
abbrev Gc:=@List.mem_singleton
abbrev Gd:=@Nat.le_refl
abbrev Ge:=@List.pairwise_cons
abbrev Gg:=@List.mem_filter
abbrev Gh:=@Bool.and_eq_true_iff
abbrev Gi:=@List.mem_append_left
abbrev Gj:=@List.filter_append
abbrev Gk:=@List.sublist_append_right
abbrev Gn:=@decide_eq_true_eq
abbrev Gp:=@decide_eq_true_iff
abbrev Gq:=@List.append_nil
abbrev Gs:=@List.length_filter_le
abbrev Gt:=@List.mem_append
abbrev Gu:=@List.getElem?_append_left
abbrev Gv:=@List.mem_map
abbrev Gw:=@List.getElem?_eq_some_iff
abbrev Gz:=@Int.toNat_of_nonneg
abbrev G_:=@Nat.le_trans
abbrev H1:=@List.pairwise_iff_getElem
abbrev Ha:=@List.drop_eq_nil_of_le
abbrev Hb:=@List.take_length
abbrev Hc:=@Bool.and_eq_true
abbrev Hd:=@List.foldl_append
abbrev He:=@List.filter_sublist
abbrev Hf:=@List.getElem?_append_right
abbrev Hg:=@List.map_cons
abbrev Hh:=@Array.length_toList
abbrev Hi:=@Nat.mul_le_mul_right
abbrev Hj:=@List.filter_cons
abbrev Hk:=@List.Nodup.length_le_of_subset
abbrev Hl:=@Int.le_refl
abbrev Hm:=@Int.eq_ofNat_of_zero_le
abbrev Hn:=@List.eq_nil_of_length_eq_zero
abbrev Ho:=@List.sublist_append_left
abbrev Hp:=@List.perm_ext_iff_of_nodup
abbrev Hq:=@List.getD_eq_getElem?_getD
abbrev Hr:=@List.map_append
abbrev Hs:=@Nat.shiftRight_eq_div_pow
abbrev Ht:=@List.filter_congr
abbrev Hu:=@List.getElem_of_mem
abbrev Hv:=@BitVec.toNat_ushiftRight
abbrev Hw:=@List.mem_of_mem_take
abbrev Hx:=@List.nodup_cons
abbrev Hy:=@List.foldl_cons
abbrev Hz:=@List.mem_range
abbrev H_:=@List.getElem?_eq_getElem
abbrev Ja:=@of_decide_eq_false
abbrev Jb:=@List.sum_cons
abbrev Jc:=@List.cons_append
abbrev Jd:=@List.filter_eq_nil_iff
abbrev Je:=@List.getElem?_take
abbrev Jf:=@Nat.le_of_ble_eq_true
abbrev Jg:=@Nat.add_mul
abbrev Jh:=@Array.getElem?_append_left
abbrev Ji:=@List.size_toArray
abbrev Jj:=@List.getElem_map
abbrev Jk:=@List.filter_eq_self
abbrev Jl:=@List.take_append_drop
abbrev Jm:=@List.getElem?_toArray
abbrev Jn:=@List.getElem?_eq_none
abbrev Jo:=@List.Sublist.refl
abbrev Jp:=@List.map_toArray
abbrev Jq:=@List.mem_or_eq_of_mem_set
abbrev Jr:=@Option.some.injEq
abbrev Js:=@List.take_zero
abbrev Jt:=@Bool.false_and
abbrev Ju:=@List.getElem?_drop
abbrev Jv:=@List.mem_iff_getElem
abbrev Jw:=@BitVec.toNat_add
abbrev Jx:=@Nat.testBit_two_pow_mul_add
abbrev Jy:=@List.length_range
abbrev Jz:=@Int.add_zero
abbrev J_:=@Bool.not_eq_true'
abbrev Ka:=@Bool.eq_iff_iff
abbrev Kb:=@List.not_mem_nil
abbrev Kc:=@List.any_eq_true
abbrev Kd:=@List.Sublist.trans
abbrev Ke:=@BitVec.getLsbD_and
abbrev Kf:=@List.eq_of_mem_replicate
abbrev Kg:=@Nat.add_sub_cancel_left
abbrev Kh:=@List.getElem_take
abbrev Ki:=@Bool.or_eq_true
abbrev Kj:=@List.length_pos_of_mem
abbrev Kk:=@List.idxOf_lt_length_of_mem
abbrev Kl:=@Bool.true_and
abbrev Km:=@List.nil_append
abbrev Kn:=@Nat.lt_trichotomy
abbrev Ko:=@List.pairwise_append
abbrev Kq:=@List.map_nil
abbrev Kr:=@List.getElem?_map
abbrev Ks:=@List.map_congr_left
abbrev Kt:=@decide_eq_false_iff_not
abbrev Ku:=@Nat.mod_eq_of_lt
abbrev Kv:=@List.mem_flatMap
abbrev Kw:=@List.length_eq_zero_iff
abbrev Kx:=@BitVec.toNat_and
abbrev Ky:=@Nat.pos_of_ne_zero
abbrev Kz:=@Nat.add_zero
abbrev K_:=@Int.mul_zero
abbrev La:=@Int.le_trans
abbrev Lb:=@List.filter_map
abbrev Lc:=@List.take_sublist
abbrev Ld:=@BitVec.getLsbD_or
abbrev Le:=@List.foldl_nil
abbrev Lf:=@getElem!_pos
abbrev Lg:=@List.drop_eq_getElem_cons
abbrev Lh:=@List.mem_map_of_mem
abbrev Li:=@List.length_pos_iff
abbrev Lj:=@Bool.and_comm
abbrev Ll:=@Array.toList_range
abbrev Lm:=@Nat.le_mul_of_pos_right
abbrev Ln:=@List.pairwise_singleton
abbrev Lo:=@List.getElem?_cons_zero
abbrev Lp:=@List.getElem?_cons_succ
abbrev Lq:=@Int.mul_add
abbrev Lr:=@if_true
abbrev Ls:=@Nat.zero_add
abbrev Lt:=@List.getElem_replicate
abbrev Lu:=@List.getElem_drop
abbrev Lw:=@Int.toNat_natCast
abbrev Lx:=@Int.lt_trichotomy
abbrev Ly:=@Bool.and_false
abbrev Lz:=@List.mem_append_right
abbrev L_:=@List.length_singleton
abbrev Ma:=@Array.getElem?_modify
abbrev Mb:=@List.perm_middle
abbrev Mc:=@List.ext_getElem
abbrev Md:=@Array.toList_map
abbrev Me:=@Ne.symm
abbrev Mf:=@Nat.add_assoc
abbrev Mg:=@List.mem_of_mem_drop
abbrev Mh:=@Int.mul_one
abbrev Mi:=@Nat.min_eq_left
abbrev Mj:=@Int.natCast_add
abbrev Mk:=@List.replicate_succ
abbrev Ml:=@List.getElem?_range
abbrev Mm:=@Int.zero_add
abbrev Mn:=@Int.ofNat_le
abbrev Mo:=@or_false
abbrev Mp:=@BitVec.getLsbD_not
abbrev Mq:=@Nat.zero_le
abbrev Mr:=@List.pairwise_map
abbrev Ms:=@List.nodup_append
abbrev Mt:=@List.ext_getElem?
abbrev Mu:=@List.Pairwise.map
abbrev Mv:=@List.getElem?_replicate
open Go.RowKit (Below)
variable{a:Act}{v:Value}{w w':World}
abbrev Env:=List (Nat×Value)
def look:Env->Nat->Option Value
 |[],_=>none
 |(k,v)::L,t=>bif Nat.beq k t then some v else look L t
def er(L:Env):Operand->Option Value
 | .tmp t=>look L t
 | .const v=>some v
 | .global g=>some (.pointer<|some ⟨g,0,none⟩)
 | .func f=>some (.func (.func f) #[] #[])
structure Frm where
 n:Nat
 ds:List Deferred
instance (n:Nat):OfNat Frm n:=⟨⟨n,[]⟩⟩
structure Ag (N:Frm) (a:Act) (L:Env):Prop where
 defers:a.defers=N.ds
 size:a.tmps.size=N.n
 get:∀t v,look L t=some v->a.tmps[t]? = some v
theorem Ag.eval{N:Frm}{L:Env}(h:Ag N a L){x:Operand}(M:er L x=some v):a.eval x=v:=by
 cases x with
 |tmp t=>simp only [er] at M;simp [Act.eval,h.get t v M]
 |const c=>simp only [er,Jr] at M;exact M
 |global g=>simp only [er,Jr] at M;exact M
 |func f=>simp only [er,Jr] at M;exact M
theorem aa7(k:Nat)(v:Value)(L:Env)(t:Nat):look ((k,v)::L) t=if k=t then some v else look L t:=by
 simp only [look]
 by_cases h:k=t
 ·simp [h]
 have:Nat.beq k t=false:=by
  rw [←Bool.not_eq_true,Nat.beq_eq];exact h
 simp [this,h]
theorem Ag.put{N:Frm}{L:Env}(h:Ag N a L)(d:Nat)(hd:Nat.blt d N.n=true)(v:Value):Ag N (a.put (some d) v) ((d,v)::L):=by
 have M:d<N.n:=by simpa using hd
 refine ⟨h.defers,by simp [Act.put,h.size],λt u hu=>?_⟩
 rw [aa7] at hu
 simp only [Act.put]
 by_cases ht:d=t
 ·subst ht
  simp only [Lr,Jr] at hu
  subst hu
  simp [h.size,M]
 simp only [ht,if_false] at hu
 rw [Array.getElem?_setIfInBounds_ne ht]
 exact h.get t u hu
def Sub(L:Env):Env->Prop
 |[]=>True
 |(k,v)::L'=>look L k=some v/\Sub L L'
theorem Sub.nil{L:Env}:Sub L []:=trivial
theorem Sub.cons{L L':Env}{k:Nat}(h:look L k=some v)(t:Sub L L'):Sub L ((k,v)::L'):=⟨h,t⟩
theorem cx4{L L':Env}{k0 k1 k2 k3:Nat}{u0 u1 u2 u3:Value}(t:Sub L L')(h0:look L k0=some u0:=by exact rfl)(h1:look L k1=some u1:=by exact rfl)(h2:look L k2=some u2:=by exact rfl)(h3:look L k3=some u3:=by exact rfl):Sub L ((k0,u0)::(k1,u1)::(k2,u2)::(k3,u3)::L'):=⟨h0,⟨h1,⟨h2,⟨h3,t⟩⟩⟩⟩
theorem cx2{L L':Env}{k0 k1:Nat}{u0 u1:Value}(t:Sub L L')(h0:look L k0=some u0:=by exact rfl)(h1:look L k1=some u1:=by exact rfl):Sub L ((k0,u0)::(k1,u1)::L'):=⟨h0,⟨h1,t⟩⟩
theorem Sub.get{L:Env}:∀{L':Env},Sub L L'->∀t v,look L' t=some v->look L t=some v
 |[],_,t,v,h=>by simp [look] at h
 |(k,u)::L',hs,t,v,h=>by
  rw [aa7] at h
  by_cases hk:k=t
  ·subst hk
   simp only [Lr,Jr] at h
   subst h
   exact hs.1
  simp only [hk,if_false] at h
  exact Sub.get hs.2 t v h
theorem Ag.sub{N:Frm}{L L':Env}(h:Ag N a L)(hs:Sub L L'):Ag N a L':=
 ⟨h.defers,h.size,λt v hv=>h.get t v<|hs.get t v hv⟩
def bo2:Nat->List Value->Env
 |_,[]=>[]
 |k,v::vs=>(k,v)::bo2 (k+1) vs
theorem be2(t:Nat)(u:Value):∀(vs:List Value) (k:Nat),look (bo2 k vs) t=some u->∃j,t=k+j/\vs[j]? = some u
 |[],k,h=>by simp [bo2,look] at h
 |v::vs,k,h=>by
  rw [bo2,aa7] at h
  by_cases hk:k=t
  ·simp only [hk,Lr,Jr] at h
   exact ⟨0,by omega,by simp [h]⟩
  simp only [hk,if_false] at h
  obtain ⟨j,M,hv⟩:=be2 t u vs (k+1) h
  exact ⟨j+1,by omega,by simpa using hv⟩
theorem Ag.start(M:List Value)(N:Nat)(hN:M.length<=N) :
  Ag ⟨N,[]⟩ {tmps:=M.toArray++Array.replicate (N - M.toArray.size) undef,defers:=[]} (bo2 0 M):=by
 refine ⟨rfl,by simp;omega,λt v hv=>?_⟩
 obtain ⟨j,hj,hv⟩:=be2 t v M 0 hv
 have hl:j<M.length:=(Gw.1 hv).1
 obtain rfl:t=j:=by omega
 rw [Jh (by simpa using hl)]
 simpa using hv
structure Item where
 fp:Nat->Prop
 ok:World->Prop
 loc:∀w w':World,(∀k,fp k->w'.heap[k]? = w.heap[k]?)->ok w->ok w'
structure Ctx where
 os:Os
 tape:Nat->Question->Nat
 output:Array (Nat×ByteArray)
 drawn:Nat
def Item.apart(x y:Item):Prop:=∀k,x.fp k->¬y.fp k
structure Sep (κ:Ctx) (w:World) (I:List Item):Prop where
 os:w.os=κ.os
 tape:w.tape=κ.tape/\κ.drawn<=w.drawn
 output:w.output=κ.output
 ok:∀x∈I,x.ok w/\∀k,x.fp k->k<w.heap.size
 pw:I.Pairwise Item.apart
theorem Item.apart.symm{x y:Item}(h:x.apart y):y.apart x:=λk hy M=>h k M hy
variable {κ:Ctx}
theorem Sep.perm{I J:List Item}(h:Sep κ w I)(M:I.Perm J):Sep κ w J:=
 ⟨h.os,h.tape,h.output,λx hx=>h.ok x<|M.mem_iff.2 hx,(M.pairwise_iff<|λh=>h.symm).1 h.pw⟩
theorem Sep.sublist{I J:List Item}(h:Sep κ w I)(hs:J.Sublist I):Sep κ w J:=
 ⟨h.os,h.tape,h.output,λx M=>h.ok x<|hs.mem M,h.pw.sublist hs⟩
theorem Sep.tail{x:Item}{I:List Item}(h:Sep κ w (x::I)):Sep κ w I:=h.sublist (List.sublist_cons_self x I)
def Fit(κ:Ctx)(I J:List Item):Prop:=∀w,Sep κ w I->Sep κ w J
theorem Fit.refl(I:List Item):Fit κ I I:=λ_ h=>h
theorem Fit.trans{I J K:List Item}(h:Fit κ I J)(k:Fit κ J K):Fit κ I K:=λw s=>k w (h w s)
theorem Fit.tail{x:Item}{I J:List Item}(h:Fit κ I J):Fit κ (x::I) J:=λw s=>h w s.tail
theorem Fit.K6{I J:List Item}(h:J.Sublist I):Fit κ I J:=λ_ s=>s.sublist h
theorem Fit.perm{I J:List Item}(h:I.Perm J):Fit κ I J:=λ_ s=>s.perm h
inductive ab6:List Item->Item->List Item->Prop
 |head (x:Item) (I:List Item):ab6 (x::I) x I
 |tail {I I':List Item} {x:Item} (y:Item) (h:ab6 I x I'):ab6 (y::I) x (y::I')
theorem ab6.perm{I I':List Item}{x:Item}(h:ab6 I x I'):I.Perm (x::I'):=by
 induction h with
 |head=>exact .refl _
 |tail y _ ih=>exact (ih.cons y).trans (.swap _ _ _)
inductive Sp:List Item->List Item->Prop
 |refl (I:List Item):Sp I I
 |pick {I I' J:List Item} {x:Item} (h:ab6 I x I') (h2:Sp I' J):Sp I (x::J)
 |skip {I J:List Item} (x:Item) (h2:Sp I J):Sp (x::I) J
theorem Sp.out{I J:List Item}(h:Sp I J):∃K,I.Perm K/\J.Sublist K:=by
 induction h with
 |refl I=>exact ⟨I,.refl _,.refl _⟩
 |pick h _ ih=>
  obtain ⟨K,M,h2⟩:=ih
  exact ⟨_::K,h.perm.trans<|M.cons _,h2.cons_cons _⟩
 |skip x _ ih=>
  obtain ⟨K,M,h2⟩:=ih
  exact ⟨x::K,M.cons x,h2.cons x⟩
theorem Fit.sp{I J:List Item}(h:Sp I J):Fit κ I J:=λw s=>by
 obtain ⟨K,M,h2⟩:=h.out
 exact (s.perm M).sublist h2
theorem Fit.az4(xs I:List Item):Fit κ (xs++I) I:=Fit.K6 (Gk _ _)
theorem Fit.do1{A I J:List Item}(h:Fit κ I J):Fit κ (A++I) J:=Fit.trans (Fit.az4 _ _) h
theorem Sep.frame{I:List Item}(h:Sep κ w I)(ho:w'.os=w.os)(ht:w'.tape=w.tape/\w.drawn<=w'.drawn)(hu:w'.output=w.output)(hs:w.heap.size<=w'.heap.size)
  (hk:∀x∈I,∀k,x.fp k->w'.heap[k]? = w.heap[k]?):Sep κ w' I:=
 ⟨ho.trans h.os,⟨ht.1.trans h.tape.1,G_ h.tape.2 ht.2⟩,hu.trans h.output,λx M=>⟨x.loc w w' (hk x M) (h.ok x M).1,λk hf=>Nat.lt_of_lt_of_le ((h.ok x M).2 k hf) hs⟩,h.pw⟩
theorem Sep.drew{I:List Item}(h:Sep κ w I):Sep κ w.drew I:=h.frame rfl ⟨rfl,Nat.le_succ _⟩ rfl (Gd _) λ_ _ _ _=>rfl
theorem Sep.alloc{I:List Item}(h:Sep κ w I)(o:Obj):Sep κ (w.alloc o) I:=
 h.frame rfl ⟨rfl,Gd _⟩ rfl (by simp) λx M k hf=>Go.RowKit.Below.heap_alloc w o k ((h.ok x M).2 k hf)
theorem Sep.cons{x:Item}{I:List Item}(h:Sep κ w I)(M:x.ok w)(hb:∀k,x.fp k->k<w.heap.size)(ha:∀y∈I,∀k,x.fp k->¬y.fp k):Sep κ w (x::I):=
 ⟨h.os,h.tape,h.output,λy hy=>by
  rcases Fw.1 hy with rfl|hy
  ·exact ⟨M,hb⟩
  exact h.ok y hy,Ge.2 ⟨ha,h.pw⟩⟩
theorem Sep.new{x:Item}{I:List Item}(h:Sep κ w I)(h':Sep κ w' I)(hx:x.ok w')(hb:∀k,x.fp k->w.heap.size<=k/\k<w'.heap.size):Sep κ w' (x::I):=
 h'.cons hx (λk hk=>(hb k hk).2) λy hy k hk M=>by
  have:=(h.ok y hy).2 k M
  have:=(hb k hk).1
  omega
inductive At:List Item->Item->Item->List Item->Prop
 |head (x x':Item) (I:List Item):At (x::I) x x' (x'::I)
 |tail {I I':List Item} {x x':Item} (y:Item) (h:At I x x' I'):At (y::I) x x' (y::I')
theorem At.mem{I I':List Item}{x x':Item}(h:At I x x' I'):x∈I:=by
 induction h with
 |head=>exact A_
 |tail y _ ih=>exact C_ _ ih
theorem At.perm{I I':List Item}{x x':Item}(h:At I x x' I'):∃J,I.Perm (x::J)/\I'.Perm (x'::J):=by
 induction h with
 |head x x' I=>exact ⟨I,.refl _,.refl _⟩
 | @tail I I' x x' y _ ih=>
  obtain ⟨J,M,h2⟩:=ih
  exact ⟨y::J,(M.cons y).trans (.swap x y J),(h2.cons y).trans (.swap x' y J)⟩
inductive AtF:List Item->Item->(Item->List Item)->Prop
 |head (x:Item) (I:List Item):AtF (x::I) x (λx'=>x'::I)
 |tail {I:List Item} {x:Item} {F:Item->List Item} (y:Item) (h:AtF I x F):AtF (y::I) x (λx'=>y::F x')
theorem AtF.perm{I:List Item}{x:Item}{F:Item->List Item}(h:AtF I x F):∃J,I.Perm (x::J)/\∀x',(F x').Perm (x'::J):=by
 induction h with
 |head x I=>exact ⟨I,.refl _,λ_=> .refl _⟩
 | @tail I x F y _ ih=>
  obtain ⟨J,M,h2⟩:=ih
  exact ⟨y::J,(M.cons y).trans (.swap x y J),λx'=>((h2 x').cons y).trans (.swap x' y J)⟩
theorem Sep.upd{I I':List Item}{x x':Item}(h:Sep κ w I)(ab:At I x x' I')(ho:w'.os=w.os)(ht:w'.tape=w.tape/\w.drawn<=w'.drawn)(hu:w'.output=w.output)
  (hs:w.heap.size<=w'.heap.size) (hk:∀k,k<w.heap.size->¬x.fp k->w'.heap[k]? = w.heap[k]?) (hx:x'.ok w')
  (hf:∀k,x'.fp k->x.fp k\/(w.heap.size<=k/\k<w'.heap.size)):Sep κ w' I':=by
 obtain ⟨J,h1,h2⟩:=ab.perm
 have hJ:=h.perm h1
 have ha:∀y∈J,∀k,x.fp k->¬y.fp k:=(Ge.1 hJ.pw).1
 have ad:Sep κ w' J:=hJ.tail.frame ho ht hu hs λy hy k M=>
  hk k ((hJ.tail.ok y hy).2 k M) λhxk=>ha y hy k hxk M
 refine (ad.cons hx (λk aa=>?_) λy hy k aa M=>?_).perm h2.symm
 ·rcases hf k aa with hxk|hxk
  ·exact Nat.lt_of_lt_of_le ((hJ.ok x A_).2 k hxk) hs
  exact hxk.2
 rcases hf k aa with hxk|hxk
 ·exact ha y hy k hxk M
 have:=(hJ.tail.ok y hy).2 k M
 omega
def e8(b:Nat)(cs:List Value)(T:TypeId):Item where
 fp k:=k=b
 ok w:=w.heap[b]? = some (.cells cs.toArray T (0,0))
 loc w w' h hw:=(h b rfl).trans hw
def old(B:Nat)(w0:World):Item where
 fp k:=k<B
 ok w:=∀k,k<B->w.heap[k]? = w0.heap[k]?
 loc w w' h hw k hk:=(h k hk).trans (hw k hk)
theorem Sep.below{w0:World}{I:List Item}(h:Sep ⟨w0.os,w0.tape,w0.output,w0.drawn⟩ w I)(hm:old w0.heap.size w0∈I):Below w0.heap.size w0 w:=by
 obtain ⟨M,hb⟩:=h.ok _ hm
 refine ⟨h.os,h.tape.1,h.output,?_,M⟩
 by_cases h0:w0.heap.size=0
 ·omega
 have:=hb (w0.heap.size - 1) (by show _<_;omega)
 omega
theorem Sep.begin(w:World):Sep ⟨w.os,w.tape,w.output,w.drawn⟩ w [old w.heap.size w]:=
 ⟨rfl,⟨rfl,Gd _⟩,rfl,λx M=>by
  obtain rfl:x=old w.heap.size w:=by simpa using M
  exact ⟨λ_ _=>rfl,λ_ h=>h⟩,Ln _ _⟩
end Go.Sl
namespace Go.Sl
variable{a:Addr}{v:Value}{cs:List Value}{b n:Nat}{e t:TypeId}{I:List Item}
theorem C{α:Sort _}{a:α}:a=a:=rfl
open Go.RowKit (Below)
abbrev e7(n:Int):Value:= .int .i64 n
abbrev pt(b:Nat):Value:= .pointer (some ⟨b,0,none⟩)
abbrev zk:List Value:=[e7 0,e7 0,e7 0,e7 0,e7 0,e7 0,.slice none 0 0,e7 0,.slice none 0 0,e7 0,.slice none 0 0,.slice none 0 0,e7 0,.slice none 0 0,.slice none 0 0,e7 0,.slice none 0 0,e7 0,.slice none 0 0,e7 0,.slice none 0 0,e7 0,e7 0,.slice none 0 0,e7 0]
def di5:Option TypeDesc->Bool
 |some (.struct _)=>true
 |some (.array _ _)=>true
 |_=>false
def tyF(P:Program)(T:TypeId):Option (Nat×Bool×Nat×List Value):=
 (P.info? T).bind λi=>i.zero.bind λz=>(P.underlying T).map λd=>(i.size,di5<|some d,i.bytes,z.cells.toList)
section types
variable {P:Program}{T:TypeId}{sz by':Nat}{ag:Bool}{z:List Value}
theorem af1(h:tyF P T=some (sz,ag,by',z)) :
  ∃i zv d,P.info? T=some i/\i.zero=some zv/\P.underlying T=some d/\i.size=sz/\di5 (some d)=ag/\i.bytes=by'/\zv.cells=z.toArray:=by
 unfold tyF at h
 cases hi:P.info? T with
 |none=>simp [hi] at h
 |some i=>
  cases hz:i.zero with
  |none=>simp [hi,hz] at h
  |some zv=>
   cases hd:P.underlying T with
   |none=>simp [hi,hz,hd] at h
   |some d=>
    simp [hi,hz,hd] at h
    obtain ⟨h1,h2,M,h4⟩:=h
    exact ⟨i,zv,d,rfl,hz,rfl,h1,h2,M,by rw [←h4]⟩
theorem bd0(h:tyF P T=some (sz,ag,by',z))(w:World):(isAgg T).run P w = .ok ag w:=by
 obtain ⟨i,zv,d,hi,hz,M,h1,h2,h3,h4⟩:=af1 h
 subst h2
 cases d<;>simp [isAgg,run_underlying M,di5]
theorem run_sizeOf(h:tyF P T=some (sz,ag,by',z))(w:World):(sizeOf T).run P w = .ok sz w:=by
 obtain ⟨i,zv,d,hi,hz,hd,M,h2,h3,h4⟩:=af1 h
 simp [sizeOf,typeInfo,hi,M]
theorem aa1(h:tyF P T=some (sz,ag,by',z))(w:World):∃zv,(zeroValue T).run P w = .ok zv w/\zv.cells=z.toArray:=by
 obtain ⟨i,zv,d,hi,hz,hd,h1,h2,h3,h4⟩:=af1 h
 exact ⟨zv,by simp [zeroValue,typeInfo,hi,hz],h4⟩
end types
theorem aa2{P:Program}{T:TypeId}{sz by':Nat}{z:List Value}(h:tyF P T=some (sz,false,by',z)){w:World}(M:w.cell? a=some v) :
  (loadVar T a).run P w = .ok v w:=by
 simp [loadVar,bd0 h,M]
theorem aa0{P:Program}{T:TypeId}{sz by':Nat}{z:List Value}(h:tyF P T=some (sz,true,by',z)){w:World}(M:cs.length=sz)
  (hc:∀j v,cs[j]? = some v->w.cell? (a.add j)=some v):(loadVar T a).run P w = .ok (.agg cs.toArray) w:=by
 subst M
 simp [loadVar,bd0 h,run_sizeOf h,run_loadCells_list w a cs hc]
theorem am6{w:World}{T:TypeId}(h:w.heap[b]? = some (.cells cs.toArray T (0,0)))(o:Nat):w.cell? ⟨b,o,none⟩=cs[o]? :=by
 simp [cell_of_row w b o cs.toArray T (0,0) h]
def cellsOf(v:Value):List Value:=v.cells.toList
theorem ay2{P:Program}{T:TypeId}{sz by':Nat}{ag:Bool}{z:List Value}(h:tyF P T=some (sz,ag,by',z)){w:World}{o:Nat}{E:TypeId}{vs:List Value}
  (hv:cellsOf v=vs) (hl:vs.length=sz) (h1:∀u∈vs,u.oneCell'=true) (hb:w.heap[b]? = some (.cells cs.toArray E (0,0))) (hr:o+vs.length<=cs.length) :
  (storeVar T ⟨b,o,none⟩ v).run P w = .ok () (w.setRow b (cs.take o++vs++cs.drop (o+vs.length)).toArray):=by
 have aa:v.cells=vs.toArray:=by rw [←hv];simp [cellsOf]
 have M:=run_storeCells_at P b o E vs 0 cs.toArray w hb (by simpa using hr) h1
 simp only [Kz] at M
 subst hl
 simp [storeVar,run_sizeOf h,aa,M]
def da7(w:World)(sz:Nat)(v:Value)(n:Nat)(cs:List Value):Prop:=
 ∃a cap,v = .slice a n cap/\cs.length=n*sz/\n<=cap/\cap<=maxLen/\
  (0<cap->∃b off,a=some ⟨b,off,none⟩/\∀j u,cs[j]? = some u->w.cell? ⟨b,off+j,none⟩=some u)
def av0(w:World)(e:TypeId)(sz:Nat)(v:Value)(n:Nat)(cs:List Value):Prop:=
 ∃a cap,v = .slice a n cap/\cs.length=n*sz/\n<=cap/\cap<=maxLen/\
  (0<cap->∃b off cur,a=some ⟨b,off,none⟩/\w.heap[b]? = some (.cells cur e (0,0))/\off+cap*sz<=cur.size/\∀j u,cs[j]? = some u->cur[off+j]? = some u)
def cs8(v:Value)(k:Nat):Prop:=∃off n cap,v = .slice (some ⟨k,off,none⟩) n cap/\0<cap
def vec(e:TypeId)(sz:Nat)(v:Value)(n:Nat)(cs:List Value):Item where
 fp:=cs8 v
 ok w:=av0 w e sz v n cs
 loc w w' h hw:=by
  obtain ⟨a,cap,hv,h1,h2,h3,h4⟩:=hw
  refine ⟨a,cap,hv,h1,h2,h3,λhc=>?_⟩
  obtain ⟨b,off,cur,ha,hb,h5,h6⟩:=h4 hc
  exact ⟨b,off,cur,ha,(h b ⟨off,n,cap,by rw [hv,ha],hc⟩).trans hb,h5,h6⟩
def au7(κ:Ctx)(I:List Item)(sz:Nat)(v:Value)(n:Nat)(cs:List Value):Prop:=∀w,Sep κ w I->da7 w sz v n cs
theorem av0.sl{w:World}{sz:Nat}(h:av0 w e sz v n cs):da7 w sz v n cs:=by
 obtain ⟨a,cap,hv,h1,h2,h3,h4⟩:=h
 refine ⟨a,cap,hv,h1,h2,h3,λhc=>?_⟩
 obtain ⟨b,off,M,ha,hb,h5,h6⟩:=h4 hc
 refine ⟨b,off,ha,λj u hj=>?_⟩
 rw [cell_of_row w b (off+j) M e (0,0) hb]
 exact h6 j u hj
variable {κ:Ctx}
theorem au7.vec{sz:Nat}(h:vec e sz v n cs∈I):au7 κ I sz v n cs:=λ_ s=>av0.sl (s.ok _ h).1
theorem au7.fit{J:List Item}{sz:Nat}(h:au7 κ I sz v n cs)(M:Fit κ J I):au7 κ J sz v n cs:=λw s=>h w (M w s)
theorem au7.nil(I:List Item)(sz:Nat):au7 κ I sz (.slice none 0 0) 0 []:=λ_ _=>⟨none,0,rfl,by simp,Gd _,by simp,λh=>by omega⟩
theorem Sep.db2{w:World}(h:Sep κ w I)(e:TypeId)(sz:Nat):Sep κ w (vec e sz (.slice none 0 0) 0 []::I):=
 h.cons ⟨none,0,rfl,by simp,Gd _,by simp,λh=>by omega⟩ (λk M=>by obtain ⟨_,_,_,h,_⟩:=M;cases h) λ_ _ k M=>by obtain ⟨_,_,_,h,_⟩:=M;cases h
def F0:Value->Nat->Value
 | .slice (some a) _ _,k=> .pointer (some<|a.add k)
 |_,_=>undef
theorem G9(b o k:Nat):(⟨b,o,none⟩:Addr).add k=⟨b,o+k,none⟩:=Addr.add_lit b o k
theorem aw2(z:List Value)(n:Nat):(List.replicate n z).flatten.length=n*z.length:=by simp
theorem aa9(z:List Value):∀(n j:Nat),0<z.length->j<n*z.length->(List.replicate n z).flatten[j]? = z[j % z.length]?
 |0,j,_,h=>by simp at h
 |n+1,j,hs,h=>by
  rw [Mk,List.flatten_cons]
  by_cases hj:j<z.length
  ·rw [Gu hj,Ku hj]
  rw [Hf (by omega),aa9 z n (j - z.length) hs<|by rw [Jg] at h;omega]
  congr 1
  rw [←Nat.mod_eq_sub_mod (by omega)]
section runs
variable {P:Program}{w:World}
theorem aa5{sz:Nat}(h:da7 w sz v n cs):(Builtin.firstCells sz n v).run P w = .ok cs.toArray w:=by
 obtain ⟨a,cap,rfl,M,h2,h3,h4⟩:=h
 by_cases hc:0<cap
 ·obtain ⟨b,off,rfl,hr⟩:=h4 hc
  exact run_firstCells_some w sz n _ n cap cs M λj u hj=>by rw [G9];exact hr j u hj
 obtain rfl:n=0:=by omega
 have:cs=[]:=Hn (by simpa using M)
 subst this
 cases a with
 |none=>simp [Builtin.firstCells]
 |some a=>exact run_firstCells_some w sz 0 a 0 cap [] (by simp) (by simp)
theorem da7.drew{sz:Nat}(h:da7 w sz v n cs):da7 w.drew sz v n cs:=h
theorem ai2{sz:Nat}(h:da7 w sz v n cs):(Builtin.lenOf v).run P w = .ok n w:=by
 obtain ⟨a,cap,rfl,_⟩:=h
 simp [Builtin.lenOf]
theorem bj6{ty:TypeId}(ht:P.underlying t=some (.slice e)){sz by':Nat}{ag:Bool}{z:List Value}(hT:tyF P e=some (sz,ag,by',z))(av:z.length=sz)
  {v x:Value} {n m:Nat} {cs ds:List Value} (hv:av0 w e sz v n cs) (hx:da7 w sz x m ds) (h1:∀u∈ds,u.oneCell'=true)
  (ao:n+m<=maxLen) (a1:(n+m)*by'<=140737488355328) :
  ∃v' w',(Builtin.append_ #[t,t] ty #[v,x]).run P w = .ok v' w'/\av0 w' e sz v' (n+m) (cs++ds)/\
   w'.os=w.os/\(w'.tape=w.tape/\w.drawn<=w'.drawn)/\w'.output=w.output/\w.heap.size<=w'.heap.size/\
   (∀k,k<w.heap.size->¬cs8 v k->w'.heap[k]? = w.heap[k]?)/\(∀k,cs8 v' k->cs8 v k\/(w.heap.size<=k/\k<w'.heap.size)):=by
 obtain ⟨i,zv,d,hi,hz,hd,a7,ba,a6,ay⟩:=af1 hT
 have ad:=aa5 (P:=P) hx
 have M:=ai2 (P:=P) hx
 have hold:=aa5 (P:=P) (w:=w.drew) hv.sl.drew
 have ae:=aa5 (P:=P) (w:=w.drew) hx.drew
 obtain ⟨a,cap,rfl,hl,a8,aj,ar⟩:=hv
 obtain ⟨xa,xc,rfl,an,_⟩:=hx
 have ab:(cs++ds).length=(n+m)*sz:=by rw [By,hl,an,Jg]
 by_cases hroom:n+m<=cap
 ·by_cases hc:0<cap
  ·obtain ⟨b,off,aa,rfl,hb,ax,ah⟩:=ar hc
   have ak:off+n*sz+ds.length<=aa.size:=by
    have:=Hi sz hroom
    rw [Jg] at this
    omega
   have ai:=run_storeCells_at P b (off+n*sz) e ds 0 aa w hb (by simpa using ak) h1
   simp only [Kz] at ai
   refine ⟨.slice (some ⟨b,off,none⟩) (n+m) cap,w.setRow b (aa.toList.take (off+n*sz)++ds++aa.toList.drop (off+n*sz+ds.length)).toArray,?_,?_,rfl,⟨rfl,Gd _⟩,rfl,by simp,λk hk aw=>?_,λk hk=>?_⟩
   ·simp only [Builtin.append_,Jm,Lo,Lp,Sem.run_bind,run_underlying ht,Result.andThen_ok,run_sizeOf hT]
    simp [run_underlying ht,M,hroom,ad,G9,ai]
   ·refine ⟨_,cap,rfl,ab,hroom,aj,λ_=>⟨b,off,_,rfl,setRow_heap w b aa _ e _ hb,?_,λj u hj=>?_⟩⟩
    ·simp only [Ji,By,Fp,Fx,Hh]
     omega
    simp only [Jm]
    by_cases hjn:j<cs.length
    ·rw [Gu hjn] at hj
     have:=ah j u hj
     rw [Fr,Gu (by simp only [Fp,Hh];omega),Je,B_<|by omega]
     simpa using this
    rw [Hf (by omega)] at hj
    have a9:j - cs.length<ds.length:=(Gw.1 hj).1
    have hlt:(aa.toList.take<|off+n*sz).length=off+n*sz:=by simp only [Fp,Hh];omega
    rw [Fr,Hf (by omega),hlt,Gu (by omega),←hj]
    congr 1
    omega
   ·exact setRow_other w b k _ λa0=>aw<|by subst a0;exact ⟨off,n,cap,rfl,hc⟩
   obtain ⟨o,n',c',he,a5⟩:=hk
   cases he
   exact .inl ⟨off,n,cap,rfl,hc⟩
  have hn:n=0:=by omega
  have hm:m=0:=by omega
  subst hn hm
  have a4:ds=[]:=Hn (by simpa using an)
  subst a4
  refine ⟨.slice a 0 cap,w,?_,⟨a,cap,rfl,ab,hroom,aj,λh=>absurd h hc⟩,rfl,⟨rfl,Gd _⟩,rfl,Gd _,λ_ _ _=>rfl,λk hk=> .inl hk⟩
  simp only [Builtin.append_,Jm,Lo,Lp,Sem.run_bind,run_underlying ht,Result.andThen_ok,run_sizeOf hT]
  cases a<;>simp [run_underlying ht,M,ad,storeCells]
 have a3:Builtin.nextslicecap (n+m) cap*i.bytes<=281474976710656:=growslice_fits (by omega) (by rw [a6];exact a1)
 have aq:¬(9223372036854775807<((n:Int)+(m:Int))):=by simp only [maxLen] at ao;omega
 have au:¬(281474976710656<Builtin.nextslicecap (n+m) cap*i.bytes):=by omega
 have ap:=grownCap_ge w (n+m) cap e
 have az:=grownCap_le_maxLen w (n+m) cap e ao
 refine ⟨.slice (some ⟨w.heap.size,0,none⟩) (n+m)<|grownCap w (n+m) cap e,w.drew.alloc<|.cells ((cs++ds).toArray++Builtin.zeroCells zv.cells (grownCap w (n+m) cap e - (n+m))) e,?_,?_,rfl,⟨rfl,Nat.le_succ _⟩,rfl,by simp,λk hk _=>Below.heap_alloc w.drew _ k hk,λk hk=>?_⟩
 ·simp only [Builtin.append_,Jm,Lo,Lp,Sem.run_bind,run_underlying ht,Result.andThen_ok,run_sizeOf hT]
  simp only [run_underlying ht,Sem.run_bind,Result.andThen_ok,M,Bool.not_false,Lr,An hroom,Sem.run_ite,Sem.run_pure]
  simp [typeInfo,zeroValue,hi,hz,hroom,aq,au,Question.forced,hold,ae,newRow,grownCap,M,run_underlying ht]
  rw [show (cs++ds).toArray=cs.toArray++ds.toArray from by simp,Array.append_assoc]
 ·refine ⟨_,_,rfl,ab,ap,az,λ_=>⟨w.heap.size,0,_,rfl,heap_alloc_new w.drew _,?_,λj u hj=>?_⟩⟩
  ·simp only [Array.size_append,Ji,size_zeroCells,ay,av,ab,←Jg,Ls]
   rw [Nat.add_sub_cancel' ap]
   exact Gd _
  rw [Ls,Jh (by
   have:=(Gw.1 hj).1
   simpa using this)]
  simpa using hj
 obtain ⟨o,n',c',he,a5⟩:=hk
 cases he
 exact .inr ⟨Gd _,by simp⟩
theorem av4(ht:P.underlying t=some (.slice e)){sz by':Nat}{ag:Bool}{z:List Value}(hT:tyF P e=some (sz,ag,by',z))(M:z.length=sz)(n:Nat)
  (ab:n<=maxLen) (ah:n*by'<=281474976710656) :
  ∃v' w',(Instr.makeSlice t (.int .i64 n)<|.int .i64 n).run P w = .ok v' w'/\av0 w' e sz v' n (List.replicate n z).flatten/\
   w'.os=w.os/\(w'.tape=w.tape/\w.drawn<=w'.drawn)/\w'.output=w.output/\w.heap.size<=w'.heap.size/\
   (∀k,k<w.heap.size->w'.heap[k]? = w.heap[k]?)/\(∀k,cs8 v' k->(w.heap.size<=k/\k<w'.heap.size)):=by
 obtain ⟨i,zv,d,hi,hz,hd,ad,an,aj,ai⟩:=af1 hT
 have hw:IntKind.i64.wrap (n:Int)=n:=Go.IntWalk.i64_in _ (by simp only [maxLen] at ab;omega)
 have h1:¬((n:Int)<0):=by omega
 have h2:¬(281474976710656<(i.bytes:Int)*n):=by
  rw [aj]
  have h:=Mn.2 ah
  rw [Int.natCast_mul,Int.mul_comm] at h
  omega
 have aa:(Array.range<|n*sz).map (λj=>zv.cells[j % zv.cells.size]!)=(List.replicate n z).flatten.toArray:=by
  apply Array.ext'
  simp only [Md,Ll]
  rw [ai]
  apply Mt
  intro j
  simp only [Kr,Ji,M]
  by_cases hj:j<n*sz
  ·have hs:0<sz:=Ky λh=>by subst h;simp at hj
   rw [Ml hj]
   have ae:j % sz<z.length:=by rw [M];exact Nat.mod_lt _ hs
   rw [aa9 z n j (by rw [M];exact hs) (by rw [M];exact hj),M]
   simp [ae]
  rw [Jn (by simpa using hj),Jn (by rw [aw2,M];omega)]
  rfl
 refine ⟨.slice (some ⟨w.heap.size,0,none⟩) n n,w.alloc<|.cells (List.replicate n z).flatten.toArray e,?_,?_,rfl,⟨rfl,Gd _⟩,rfl,by simp,λk hk=>Below.heap_alloc w _ k hk,λk hk=>?_⟩
 ·simp only [Instr.makeSlice,Sem.run_bind,run_underlying ht,Result.andThen_ok]
  by_cases hn:n*sz=0
  ·have h0:(List.replicate n z).flatten=[]:=Hn (by rw [aw2,M];exact hn)
   simp [asInt,asIntOf,typeInfo,hi,hw,h1,h2,ad,sizeOf,hn,newRow,h0,Array.range_zero']
  simp [asInt,asIntOf,typeInfo,hi,hw,h1,h2,ad,sizeOf,hn,newRow,zeroValue,hz,aa]
 ·refine ⟨_,n,rfl,by simp [M],Gd _,ab,λ_=>⟨w.heap.size,0,_,rfl,heap_alloc_new w _,by simp [M],λj u hj=>by simpa using hj⟩⟩
 obtain ⟨o,n',c',he,ak⟩:=hk
 cases he
 exact ⟨Gd _,by simp⟩
end runs
end Go.Sl
namespace Go.Sl
open Go
variable{fuel i stop:Nat}{M:Array Bool}{v:Value}{a:Act}{w:World}
section
variable {P:Program}{ops:Array Oper}{Q:Exit->Act->World->Prop}{md:Region.Mode}{S:World->Prop}
def N5(md:Region.Mode)(ops:Array Oper)(stop i:Nat):Bool:=
 match ops[stop]? with
 |some o=>o.after.any λe=>Region.binds md e&&e.on==i
 |none=>true
def X5(P:Program)(md:Region.Mode)(ops:Array Oper)(Q:Exit->Act->World->Prop)(S:World->Prop)(stop:Nat):Nat->Array Bool->Act->World->Prop
 |0,listed,a,w=>Region.ready md ops listed=[]/\Q .normal a w
 |fuel+1,listed,a,w=>
  (Region.ready md ops listed=[stop]->wpAny P md ops Q (fuel+1) listed a w)/\
  (Region.ready md ops listed≠[stop]->(Region.ready md ops listed=[]->Q .normal a w)/\
   ∀i∈Region.ready md ops listed,wpOp P ops Q i (λa' w'=>S w'/\X5 P md ops Q S stop fuel (listed.setIfInBounds i true) a' w') a w)
theorem au9:∀(fuel:Nat) (listed:Array Bool) (a:Act) (w:World),X5 P md ops Q S stop fuel listed a w->wpAny P md ops Q fuel listed a w
 |0,_,_,_,h=>h
 |fuel+1,listed,a,w,h=>by
  by_cases hr:Region.ready md ops listed=[stop]
  ·exact h.1 hr
  exact ⟨(h.2 hr).1,λi hi=>wpOp_mono (λM w' h'=>au9 fuel _ M w' h'.2)<|(h.2 hr).2 i hi⟩
theorem ac6{j:Nat}{oj:Oper}(hi:i∈Region.ready md ops M)(hj:j∈Region.ready md ops M)(ad:ops[j]? = some oj) :
  ∀e∈oj.after,Region.binds md e=true->e.on≠i:=λe he hb ae=>by
 obtain ⟨_,ah,aa,ab⟩:=mem_ready.1 hj
 rw [ad] at aa
 cases aa
 have h1:=ab e he hb
 have h0:=(mem_ready.1 hi).1
 rw [ae] at h1
 rcases Nat.lt_or_ge i M.size with h'|h'
 ·simp [h'] at h0 h1;rw [h0] at h1;cases h1
 simp [Array.getElem?_eq_none h'] at h1
theorem bx7(hi:i∈Region.ready md ops M)(hs:stop∈Region.ready md ops M)(hw:N5 md ops stop i=true):False:=by
 obtain ⟨_,o,ho,_⟩:=mem_ready.1 hs
 simp only [N5,ho,Array.any_eq_true,Hc,beq_iff_eq] at hw
 obtain ⟨k,hk,hb,aa⟩:=hw
 exact ac6 hi hs ho o.after[k] (Array.getElem_mem hk) hb aa
theorem bv0{oi:Oper}(hi:ops[i]? = some oi)(ae:∀(j:Nat) (o:Oper) cs b,ops[j]? = some o->o.op ≠ .select cs b)(ak:i≠stop)(aj:N5 md ops stop i=true)
  (hQ:∀c a w,Q (.panic c) (a.put oi.dst v) w->Q (.panic c) a w) :
  ∀(fuel:Nat) (M:Array Bool) (a:Act) (w:World),
   (∀j oj,ops[j]? = some oj->j≠i->M.getD j true=false->(∀e∈oj.after,Region.binds md e=true->e.on≠i)->oi.apart ops oj=true)->
   i∈Region.ready md ops M->YieldsIf P ops S oi v a->S w->
   X5 P md ops Q S stop fuel (M.setIfInBounds i true) (a.put oi.dst v) w->X5 P md ops Q S stop (fuel+1) M a w:=by
 intro fuel
 induction fuel with
 |zero=>
  intro M a w _ hr hy hS H
  refine ⟨λh=>(by rw [h] at hr;exact absurd (by simpa using hr) ak),λ_=>⟨λh=>(by rw [h] at hr;cases hr),λj hj=>?_⟩⟩
  by_cases hji:j=i
  ·subst hji;exact hy.wpOp hi hS ⟨hS,H⟩
  have:=ready_mono hj hji
  rw [H.1] at this
  cases this
 |succ fuel ih=>
  intro M a w aa hr hy hS H
  refine ⟨λh=>(by rw [h] at hr;exact absurd (by simpa using hr) ak),λ_=>⟨λh=>(by rw [h] at hr;cases hr),λj hj=>?_⟩⟩
  by_cases hji:j=i
  ·subst hji;exact hy.wpOp hi hS ⟨hS,H⟩
  have ai:=ready_mono hj hji
  have ar:Region.ready md ops (M.setIfInBounds i true)≠[stop]:=λh=>by
   rw [h] at ai
   obtain rfl:j=stop:=by simpa using ai
   exact bx7 hr hj aj
  have h1:=(H.2 ar).2 j ai
  obtain ⟨ah,oj,ab,au⟩:=mem_ready.1 hj
  have an:=ac6 hr hj ab
  have h2:=wpOp_putIf ab (aa j oj ab hji ah an) (λcs b=>ae i oi cs b hi) (λcs b=>ae j oj cs b ab) hQ hy h1
  have ad:∀k ok,ops[k]? = some ok->k≠i->(M.setIfInBounds j true).getD k true=false->
    (∀e∈ok.after,Region.binds md e=true->e.on≠i)->oi.apart ops ok=true:=λk ok hk ap ao aq=>by
   refine aa k ok hk ap ?_ aq
   by_cases hjk:j=k
   ·subst hjk;exact ah
   rw [getD_set_ne true hjk] at ao;exact ao
  refine wpOp_mono (λa' w' h3=>⟨h3.2.1,ih (M.setIfInBounds j true) a' w' ad (ready_mono hr<|Me hji) h3.1 h3.2.1 ?_⟩) h2
  rw [Array.setIfInBounds_comm _ _ hji]
  exact h3.2.2
theorem bb7{oi:Oper}(hi:ops[i]? = some oi)
  (hs:Region.noSelect ops=true) (hf:Region.free md ops M i=true) (hr:(Region.ready md ops M).contains i=true) (ab:Nat.beq i stop=false) (aa:N5 md ops stop i=true)
  (hQ:∀c a w,Q (.panic c) (a.put oi.dst v) w->Q (.panic c) a w) (hy:YieldsIf P ops S oi v a) (hS:S w)
  (h:X5 P md ops Q S stop fuel (M.setIfInBounds i true) (a.put oi.dst v) w):X5 P md ops Q S stop (fuel+1) M a w:=
 bv0 hi (Region.noSelect_spec hs) (λe=>by subst e;simp at ab) aa hQ fuel M a w (Region.free_spec hi hf) (by simpa using hr) hy hS h
theorem cr4{rs:List Nat}(hr:Region.ready md ops M=rs)(aa:rs.isEmpty=false)(ab:(rs==[stop])=false)
  (h:∀i∈rs,wpOp P ops Q i (λa' w'=>S w'/\X5 P md ops Q S stop fuel (M.setIfInBounds i true) a' w') a w):X5 P md ops Q S stop (fuel+1) M a w:=
 ⟨λh0=>(by rw [hr] at h0;simp [h0] at ab),λ_=>⟨λh0=>(by rw [hr] at h0;simp [h0] at aa),hr▸h⟩⟩
theorem cd3(hr:Region.ready md ops M=[stop])(h:wpAny P md ops Q (fuel+1) M a w):X5 P md ops Q S stop (fuel+1) M a w:=
 ⟨λ_=>h,λaa=>absurd hr aa⟩
theorem wpAny_done(hr:Region.ready md ops M=[])(h:Q .normal a w):∀fuel,wpAny P md ops Q fuel M a w
 |0=>⟨hr,h⟩
 |_+1=>⟨λ_=>h,by rw [hr];simp⟩
theorem cd4(hr:Region.ready md ops M=[])(h:Q .normal a w):∀fuel,X5 P md ops Q S stop fuel M a w
 |0=>⟨hr,h⟩
 |_+1=>⟨λh0=>(by rw [hr] at h0;cases h0),λ_=>⟨λ_=>h,by rw [hr];simp⟩⟩
theorem bj2{id:Nat}(M:P.follows .mixedOrders=true)
  (h:wpAny P .any ops Q ops.size (Array.replicate ops.size false) a w.drew):(Code.region id ops true).wp P Q a w:=wp_region_any M h
end
end Go.Sl
namespace Go.Sl
open Go.RowKit (Below)
variable{M:Array Bool}{c:Operand}{d fuel i id j k t:Nat}{l:List Oper}{a:Act}{b:Bool}{v:Value}
section judgements
variable (P:Program)(κ:Ctx)(N:Frm)
def W(c:Code)(Q:Exit->Act->World->Prop)(L:Env)(I:List Item):Prop:=∀a w,Ag N a L->Sep κ w I->c.wp P Q a w
def G(ops:Array Oper)(Q:Exit->Act->World->Prop)(rest:List Oper)(L:Env)(I:List Item):Prop:=∀a w,Ag N a L->Sep κ w I->wpList P ops Q rest a w
def V(Q:Exit->Act->World->Prop)(e:Exit)(L:Env)(I:List Item):Prop:=∀a w,Ag N a L->Sep κ w I->Q e a w
def D(ops:Array Oper)(Q:Exit->Act->World->Prop)(J:List Item)(stop fuel:Nat)(listed:Array Bool)(L:Env)(I:List Item):Prop:=
 ∀a w,Ag N a L->Sep κ w I->X5 P .any ops Q (λw=>Sep κ w J) stop fuel listed a w
def A(ops:Array Oper)(Q:Exit->Act->World->Prop)(fuel:Nat)(listed:Array Bool)(L:Env)(I:List Item):Prop:=
 ∀a w,Ag N a L->Sep κ w I->wpAny P .any ops Q fuel listed a w
def j8(o:Oper)(L:Env)(J:List Item)(v:Value):Prop:=∀a w,Ag N a L->Sep κ w J->(execOp a.eval o).run P w = .ok (.value v) w
def Eff(Q:Exit->Act->World->Prop)(o:Oper)(L:Env)(I:List Item)(R:Env->List Item->Prop):Prop:=
 ∀a w,Ag N a L->Sep κ w I->o.wp P a w (λa' w'=>∃L' I',R L' I'/\Ag N a' L'/\Sep κ w' I') Q
def q8(ops:Array Oper)(o:Oper)(L:Env):Prop:=∀a,Ag N a L->Region.wanted o (yielded ops a.tmps)=true
def H0(ops:Array Oper)(o:Oper)(L:Env):Prop:=∀a,Ag N a L->Region.wanted o (yielded ops a.tmps)=false
def eu(f:FuncId)(args:List Value)(I:List Item)(Post:Value->List Item->Prop):Prop:=
 ∀w,Sep κ w I->Calls P f args.toArray w λe w'=>∃v J,e = .returned v/\Post v J/\Sep κ w' J
end judgements
section
variable {P:Program}{κ:Ctx}{N:Frm}{Q:Exit->Act->World->Prop}{L:Env}{I J:List Item}{ops:Array Oper}{o:Oper}{rest:List Oper}
theorem eu.mono{f:FuncId}{M:List Value}{Post Post':Value->List Item->Prop}(h:eu P κ f M I Post)(hp:∀v J,Post v J->Post' v J):eu P κ f M I Post':=
 λw s=>(h w s).mono λe w' ⟨v,J,he,hq,hs⟩=>⟨v,J,he,hp v J hq,hs⟩
theorem eu.fit{f:FuncId}{M:List Value}{Post:Value->List Item->Prop}(hf:Fit κ I J)(h:eu P κ f M J Post):eu P κ f M I Post:=λw s=>h w (hf w s)
theorem eu.at{f:FuncId}{M:List Value}{Y:Type}{x:Item}{X:Y->Item}{Z:Y->List Item}{F:Item->List Item}{Post:Value->Y->Prop}(aa:AtF I x F)
  (h:∀J,Fit κ (x::J) I->(∀x',Fit κ (x'::J)<|F x')->eu P κ f M (x::J) λr J'=>∃y,Post r y/\J'=Z y++X y::J):eu P κ f M I λr J'=>∃y,Post r y/\J'=Z y++F (X y):=λw hs=>by
 obtain ⟨J,h1,h2⟩:=aa.perm
 refine ((h J (λw s=>s.perm h1.symm) λx' w s=>s.perm (h2 x').symm) w<|hs.perm h1).mono λe w' ⟨v,J',he,⟨y,hp,hJ⟩,ab⟩=>?_
 subst hJ
 exact ⟨v,_,he,⟨y,hp,rfl⟩,ab.perm<|List.Perm.append_left _ (h2 _).symm⟩
theorem W.sub{c:Code}{L':Env}(hf:Sub L L')(h:W P κ N c Q L' I):W P κ N c Q L I:=λa w M hs=>h a w (M.sub hf) hs
theorem G.fit(hf:Fit κ I J)(h:G P κ N ops Q rest L J):G P κ N ops Q rest L I:=λa w M hs=>h a w M (hf w hs)
theorem W.pull{c:Code}{p:Prop}(hp:∀w,Sep κ w I->p)(h:p->W P κ N c Q L I):W P κ N c Q L I:=λa w M hs=>h (hp w hs) a w M hs
theorem G.pull{p:Prop}(hp:∀w,Sep κ w I->p)(h:p->G P κ N ops Q rest L I):G P κ N ops Q rest L I:=λa w M hs=>h (hp w hs) a w M hs
theorem eu.pull{f:FuncId}{M:List Value}{Post:Value->List Item->Prop}{p:Prop}(hp:∀w,Sep κ w I->p)(h:p->eu P κ f M I Post):eu P κ f M I Post:=λw hs=>h (hp w hs) w hs
theorem W.seq{x y:Code}(h:W P κ N x (Exit.then (y.wp P Q) Q) L I):W P κ N (.seq x y) Q L I:=λa w M hs=>wp_seq (h a w M hs)
theorem W.cond{x y:Code}{t:Bool}(hc:er L c=some (.bool t))(h1:t=true->W P κ N x Q L I)(h2:t=false->W P κ N y Q L I):W P κ N (.cond c x y) Q L I:=
 λa w M hs=>wp_cond_split (M.eval hc) (λh=>h1 h a w M hs) (λh=>h2 h a w M hs)
theorem W.ite{x y:Code}{p:Prop}[Decidable p](hc:er L c=some (.bool (decide p)))(M:p->W P κ N x Q L I)(h2:¬p->W P κ N y Q L I):W P κ N (.cond c x y) Q L I:=
 W.cond hc (λh=>M<|Fq h) (λh=>h2<|Ja h)
theorem W.yes{x y:Code}(M:er L c=some (.bool true))(h:W P κ N x Q L I):W P κ N (.cond c x y) Q L I:=W.cond M (λ_=>h) (λe=>by cases e)
theorem W.no{x y:Code}(M:er L c=some (.bool false))(h:W P κ N y Q L I):W P κ N (.cond c x y) Q L I:=W.cond M (λe=>by cases e) (λ_=>h)
theorem W.block{c:Code}(h:W P κ N c (Exit.inBlock id Q) L I):W P κ N (.block id c) Q L I:=λa w M hs=>wp_block (h a w M hs)
theorem W.skip(h:V κ N Q .normal L I):W P κ N .skip Q L I:=λa w M hs=>wp_skip (h a w M hs)
theorem W.exit(h:V κ N Q (.exit id) L I):W P κ N (.exit id) Q L I:=λa w M hs=>wp_exit (h a w M hs)
theorem W.ret(h:V κ N Q .ret L I):W P κ N .ret Q L I:=λa w M hs=>wp_ret (h a w M hs)
theorem W.region(h:G P κ N l.toArray Q l L I):W P κ N (.region id l.toArray false) Q L I:=λa w M hs=>wp_region_lit (h a w M hs)
theorem V.then{y:Code}(h:W P κ N y Q L I):V κ N (Exit.then (y.wp P Q) Q) .normal L I:=h
theorem V.bw2{K:Act->World->Prop}(h:V κ N Q (.exit id) L I):V κ N (Exit.then K Q) (.exit id) L I:=h
theorem V.cj4{K:Act->World->Prop}(h:V κ N Q .ret L I):V κ N (Exit.then K Q) .ret L I:=h
theorem V.ak0(h:V κ N Q .ret L I):V κ N (Exit.inBlock id Q) .ret L I:=h
theorem V.ay9(h:V κ N Q .normal L I):V κ N (Exit.inBlock id Q) .normal L I:=h
theorem V.ca1(h:V κ N Q .normal L I):V κ N (Exit.inBlock id Q) (.exit id) L I:=λa w M hs=>by simp only [Exit.inBlock,Lr];exact h a w M hs
theorem V.ax0{M:Nat}(ab:Nat.beq M id=false)(h:V κ N Q (.exit M) L I):V κ N (Exit.inBlock id Q) (.exit M) L I:=λa w ha hs=>by
 have aa:¬M=id:=λe=>by subst e;simp at ab
 simp only [Exit.inBlock,aa,if_false]
 exact h a w ha hs
def ff5(κ:Ctx)(N:Frm){σ:Type}(Lv:σ->Env)(Iv:σ->List Item)(p:σ->Prop)(μ:σ->Nat)(s:σ)(a:Act)(w:World):Prop:=
 ∃s',p s'/\μ s'<μ s/\Ag N a (Lv s')/\Sep κ w (Iv s')
theorem W.loop{c:Code}{σ:Type}(Lv:σ->Env)(Iv:σ->List Item)(p:σ->Prop)(μ:σ->Nat)(s0:σ)(hp:p s0)(hL:Sub L (Lv s0))(hI:Fit κ I (Iv s0))
  (ab:∀s,p s->W P κ N c (Exit.then (ff5 κ N Lv Iv p μ s) Q) (Lv s) (Iv s)):W P κ N (.loop c) Q L I:=by
 intro a w ha hs
 have ah:∀(m:Nat) (s:σ),μ s=m->p s->∀a w,Ag N a (Lv s)->Sep κ w (Iv s)->∀(b:Frame) (k:List Go.Item) (cs:List Frame),
   ∃e a' w',Q e a' w'/\Arrives P (lone (b.at a<|.code c :: .inLoop c::k) cs w) b k cs e a' w':=by
  intro m
  induction m using Nat.strongRecOn with
  |_ m ih=>
   intro s hm aj a w ha hs b k cs
   obtain ⟨e,a₁,w₁,hq,M⟩:=ab s aj a w ha hs b (.inLoop c::k) cs
   cases e with
   |normal=>
    obtain ⟨s',ad,hlt,ae,ak⟩:=hq
    obtain ⟨e₂,a₂,w₂,ai,aa⟩:=ih (μ s') (hm▸hlt) s' rfl ad a₁ w₁ ae ak b k cs
    exact ⟨e₂,a₂,w₂,ai,.of_steps (Steps.trans M<|.one step_inLoop) aa⟩
   |exit id=>exact ⟨_,a₁,w₁,hq,.pass (x:= .inLoop c) rfl (λ_ _=> .inl<|by simp) M⟩
   |goto l=>exact ⟨_,a₁,w₁,hq,.pass (x:= .inLoop c) rfl (λ_ _=> .inl<|by simp) M⟩
   |ret=>exact ⟨_,a₁,w₁,hq,.pass (x:= .inLoop c) rfl (λ_ _=> .inl<|by simp) M⟩
   |panic ch=>exact ⟨_,a₁,w₁,hq,.pass (x:= .inLoop c) rfl (λ_ _=> .inl<|by simp) M⟩
   |outgrown=>exact ⟨_,a₁,w₁,hq,.pass (x:= .inLoop c) rfl (λ_ _=> .inl<|by simp) M⟩
 intro b k cs
 obtain ⟨e,a',w',hq,M⟩:=ah (μ s0) s0 rfl hp a w (ha.sub hL) (hI w hs) b k cs
 exact ⟨e,a',w',hq,.of_steps (.one step_loop) M⟩
theorem V.next{σ:Type}{Lv:σ->Env}{Iv:σ->List Item}{p:σ->Prop}{μ:σ->Nat}{s:σ}(M:σ)(hp:p M)(hlt:μ M<μ s)(hL:Sub L (Lv M))(hI:Fit κ I (Iv M)) :
  V κ N (Exit.then (ff5 κ N Lv Iv p μ s) Q) .normal L I:=λa w ha hs=>⟨M,hp,hlt,ha.sub hL,hI w hs⟩
def gi6(κ:Ctx)(N:Frm){σ:Type}(Lv:σ->Env)(Iv:σ->List Item)(p:σ->Prop)(a:Act)(w:World):Prop:=
 ∃s,p s/\Ag N a (Lv s)/\Sep κ w (Iv s)
theorem bu9{c:Code}{K K':Act->World->Prop}(M:∀a w,K a w->K' a w){w:World}(h:c.wp P (Exit.then K Q) a w):c.wp P (Exit.then K' Q) a w:=
 Code.wp_mono (λe a w q=>by cases e<;>first|exact M _ _ q|exact q) h
theorem W.cut{x y:Code}{σ:Type}(Lv:σ->Env)(Iv:σ->List Item)(p:σ->Prop)(h1:W P κ N x (Exit.then (gi6 κ N Lv Iv p) Q) L I)
  (h2:∀s,p s->W P κ N y Q (Lv s) (Iv s)):W P κ N (.seq x y) Q L I:=
 λa w M hs=>wp_seq (bu9 (λa w ⟨s,hp,M,hs⟩=>h2 s hp a w M hs)<|h1 a w M hs)
theorem V.mid{σ:Type}{Lv:σ->Env}{Iv:σ->List Item}{p:σ->Prop}(s:σ)(hp:p s)(hL:Sub L (Lv s))(hI:Fit κ I (Iv s)) :
  V κ N (Exit.then (gi6 κ N Lv Iv p) Q) .normal L I:=λa w M hs=>⟨s,hp,M.sub hL,hI w hs⟩
theorem q8.plain(h:o.guard=none):q8 N ops o L:=λ_ _=>by simp [Region.wanted,h]
theorem bk4(ha:Ag N a L)(M:(ops[j]?).bind (·.dst)=some t)(hl:look L t=some (.bool b)):yielded ops a.tmps j=some b:=by
 simp [yielded,M,ha.get t _ hl]
theorem q8.on(hg:o.guard=some (j,b))(M:(ops[j]?).bind (·.dst)=some t)(hl:look L t=some (.bool b)):q8 N ops o L:=λa ha=>by
 simp [Region.wanted,hg,bk4 ha M hl]
theorem H0.off(hg:o.guard=some (j,b))(M:(ops[j]?).bind (·.dst)=some t)(hl:look L t=some (.bool (!b))):H0 N ops o L:=λa ha=>by
 simp only [Region.wanted,hg,bk4 ha M hl]
 cases b<;>rfl
theorem H0.und(hg:o.guard=some (j,b))(M:(ops[j]?).bind (·.dst)=some t)(hl:look L t=some undef):H0 N ops o L:=λa ha=>by
 simp only [Region.wanted,hg]
 have h:=ha.get t _ hl
 simp [yielded,M,h,undef]
theorem G.nil(h:V κ N Q .normal L I):G P κ N ops Q [] L I:=λa w M hs=>h a w M hs
theorem G.read(hw:q8 N ops o L)(hd:o.dst=some d)(hN:Nat.blt d N.n=true)(hr:j8 P κ N o L I v)(h:G P κ N ops Q rest ((d,v)::L) I):G P κ N ops Q (o::rest) L I:=
 λa w M hs=>by
  unfold wpList
  rw [B_ (hw a M)]
  refine .inl ?_
  simp only [Oper.wp,hr a w M hs,Oper.upon,hd]
  exact h _ w (M.put d hN v) hs
theorem G.eff{R:Env->List Item->Prop}(hw:q8 N ops o L)(he:Eff P κ N Q o L I R)(h:∀L' I',R L' I'->G P κ N ops Q rest L' I'):G P κ N ops Q (o::rest) L I:=
 λa w ha hs=>by
  unfold wpList
  rw [B_ (hw a ha)]
  refine .inl<|Oper.wp_mono (λa' w' ⟨L',I',hR,M,aa⟩=>h L' I' hR a' w' M aa)<|he a w ha hs
theorem G.pass(hw:H0 N ops o L)(hd:o.dst=some d)(hN:Nat.blt d N.n=true)(h:G P κ N ops Q rest ((d,undef)::L) I):G P κ N ops Q (o::rest) L I:=
 λa w M hs=>by
  unfold wpList
  rw [An (by simp [hw a M])]
  rw [hd]
  exact h _ w (M.put d hN _) hs
theorem W.drawn(hm:P.follows .mixedOrders=true)(h:A P κ N l.toArray Q l.toArray.size (Array.replicate l.toArray.size false) L I) :
  W P κ N (.region id l.toArray true) Q L I:=λa w M hs=>bj2 hm (h a _ M hs.drew)
theorem A.hold(J:List Item)(stop:Nat)(h:D P κ N ops Q J stop fuel M L I):A P κ N ops Q fuel M L I:=λa w ha hs=>au9 _ _ _ _ (h a w ha hs)
theorem A.done(hr:Region.ready .any ops M=[])(h:V κ N Q .normal L I):A P κ N ops Q fuel M L I:=λa w ha hs=>wpAny_done hr (h a w ha hs) _
theorem D.done{stop:Nat}(hr:Region.ready .any ops M=[])(h:V κ N Q .normal L I):D P κ N ops Q J stop fuel M L I:=
 λa w ha hs=>cd4 hr (h a w ha hs) _
theorem D.stop{stop:Nat}(hr:Region.ready .any ops M=[stop])(h:A P κ N ops Q (fuel+1) M L I):D P κ N ops Q J stop (fuel+1) M L I:=
 λa w ha hs=>cd3 hr (h a w ha hs)
theorem D.read{stop:Nat}(i:Nat)(hi:ops[i]? = some o)(ai:Region.noSelect ops=true)(hf:Region.free .any ops M i=true)
  (hr:(Region.ready .any ops M).contains i=true) (ad:Nat.beq i stop=false) (ae:N5 .any ops stop i=true) (hQ:∀c a u w,Q (.panic c) (a.put o.dst u) w->Q (.panic c) a w) (hw:q8 N ops o L) (hd:o.dst=some d) (hN:Nat.blt d N.n=true)
  (hJ:Fit κ I J) (ab:j8 P κ N o L J v) (h:D P κ N ops Q J stop fuel (M.setIfInBounds i true) ((d,v)::L) I):D P κ N ops Q J stop (fuel+1) M L I:=λa w ha hs=>by
 refine bb7 hi ai hf hr ad ae (λc a w=>hQ c a v w) (.inl ⟨hw a ha,λw' ah=>ab a w' ha ah⟩) (hJ w hs) ?_
 have aa:=ha.put d hN v
 rw [←hd] at aa
 exact h _ w aa hs
theorem D.pass{stop:Nat}(i:Nat)(hi:ops[i]? = some o)(ae:Region.noSelect ops=true)(hf:Region.free .any ops M i=true)
  (hr:(Region.ready .any ops M).contains i=true) (ab:Nat.beq i stop=false) (ad:N5 .any ops stop i=true) (hQ:∀c a u w,Q (.panic c) (a.put o.dst u) w->Q (.panic c) a w) (hw:H0 N ops o L) (hd:o.dst=some d) (hN:Nat.blt d N.n=true)
  (hJ:Fit κ I J) (h:D P κ N ops Q J stop fuel (M.setIfInBounds i true) ((d,undef)::L) I):D P κ N ops Q J stop (fuel+1) M L I:=λa w ha hs=>by
 refine bb7 hi ae hf hr ab ad (λc a w=>hQ c a undef w) (.inr ⟨hw a ha,rfl⟩) (hJ w hs) ?_
 have aa:=ha.put d hN undef
 rw [←hd] at aa
 exact h _ w aa hs
def Step(P:Program)(κ:Ctx)(N:Frm)(ops:Array Oper)(Q:Exit->Act->World->Prop)(J:List Item)(stop fuel:Nat)(listed:Array Bool)(L:Env)(I:List Item)(i:Nat):Prop:=
 ∀a w,Ag N a L->Sep κ w I->wpOp P ops Q i (λa' w'=>Sep κ w' J/\X5 P .any ops Q (λw=>Sep κ w J) stop fuel (listed.setIfInBounds i true) a' w') a w
theorem D.step{stop:Nat}{rs:List Nat}(hr:Region.ready .any ops M=rs)(aa:rs.isEmpty=false)(ab:(rs==[stop])=false)(h:∀i∈rs,Step P κ N ops Q J stop fuel M L I i):D P κ N ops Q J stop (fuel+1) M L I:=
 λa w ha hs=>cr4 hr aa ab λi hi=>h i hi a w ha hs
theorem gk9{p:Nat->Prop}(h:p i):∀j∈[i],p j:=λj M=>(Gc.1 M)▸h
theorem all2{p:Nat->Prop}{l:List Nat}(h:p i)(M:∀j∈l,p j):∀j∈i::l,p j:=λj hj=>by
 rcases Fw.1 hj with rfl|hj
 ·exact h
 exact M j hj
theorem Step.eff{stop:Nat}{R:Env->List Item->Prop}(hi:ops[i]? = some o)(hw:q8 N ops o L)(he:Eff P κ N Q o L I R)
  (h:∀L' I',R L' I'->Fit κ I' J/\D P κ N ops Q J stop fuel (M.setIfInBounds i true) L' I'):Step P κ N ops Q J stop fuel M L I i:=λa w ha hs=>by
 unfold wpOp
 simp only [hi,hw a ha,Lr]
 exact .inl<|Oper.wp_mono (λa' w' ⟨L',I',hR,ab,aa⟩=>⟨(h L' I' hR).1 w' aa,(h L' I' hR).2 a' w' ab aa⟩)<|he a w ha hs
theorem Step.read{stop:Nat}(hi:ops[i]? = some o)(hw:q8 N ops o L)(hd:o.dst=some d)(hN:Nat.blt d N.n=true)(hr:j8 P κ N o L I v)(hf:Fit κ I J)
  (h:D P κ N ops Q J stop fuel (M.setIfInBounds i true) ((d,v)::L) I):Step P κ N ops Q J stop fuel M L I i:=λa w ha hs=>by
 unfold wpOp
 simp only [hi,hw a ha,Lr,Oper.wp,hr a w ha hs,Oper.upon]
 have aa:=ha.put d hN v
 rw [←hd] at aa
 exact .inl ⟨hf w hs,h _ w aa hs⟩
theorem A.eff{R:Env->List Item->Prop}(hr:Region.ready .any ops M=[i])(hi:ops[i]? = some o)(hw:q8 N ops o L)(he:Eff P κ N Q o L I R)
  (h:∀L' I',R L' I'->A P κ N ops Q fuel (M.setIfInBounds i true) L' I'):A P κ N ops Q (fuel+1) M L I:=λa w ha hs=>by
 refine ⟨λh0=>(by rw [hr] at h0;cases h0),λj hj=>?_⟩
 rw [hr] at hj
 obtain rfl:j=i:=by simpa using hj
 unfold wpOp
 simp only [hi,hw a ha,Lr]
 exact .inl<|Oper.wp_mono (λa' w' ⟨L',I',hR,aa,ab⟩=>h L' I' hR a' w' aa ab)<|he a w ha hs
theorem A.read(hr:Region.ready .any ops M=[i])(hi:ops[i]? = some o)(hw:q8 N ops o L)(hd:o.dst=some d)(hN:Nat.blt d N.n=true)(ab:j8 P κ N o L I v)
  (h:A P κ N ops Q fuel (M.setIfInBounds i true) ((d,v)::L) I):A P κ N ops Q (fuel+1) M L I:=λa w ha hs=>by
 refine ⟨λh0=>(by rw [hr] at h0;cases h0),λj hj=>?_⟩
 rw [hr] at hj
 obtain rfl:j=i:=by simpa using hj
 unfold wpOp
 simp only [hi,hw a ha,Lr,Oper.wp,ab a w ha hs,Oper.upon]
 have aa:=ha.put d hN v
 rw [←hd] at aa
 exact .inl<|h _ w aa hs
theorem Ag.ai4{v':Value}(M:Ag N a L)(hl:look L d=some v)(h:v=v'):Ag N a ((d,v')::L):=
 ⟨M.defers,M.size,λt u hu=>by
  rw [aa7] at hu
  by_cases ht:d=t
  ·subst ht
   simp only [Lr,Jr] at hu
   rw [←hu,←h]
   exact M.get d v hl
  simp only [ht,if_false] at hu
  exact M.get t u hu⟩
theorem G.split{p:Prop}[Decidable p](M:look L d=some (.bool (decide p)))(h1:p->G P κ N ops Q rest ((d,.bool true)::L) I)(h2:¬p->G P κ N ops Q rest ((d,.bool false)::L) I):G P κ N ops Q rest L I:=λa w ha hs=>by
 by_cases hp:p
 ·exact h1 hp a w (ha.ai4 M<|by simp [hp]) hs
 exact h2 hp a w (ha.ai4 M<|by simp [hp]) hs
theorem G.bk8(M:look L d=some (.bool b))(h1:b=true->G P κ N ops Q rest ((d,.bool true)::L) I)(h2:b=false->G P κ N ops Q rest ((d,.bool false)::L) I):G P κ N ops Q rest L I:=λa w ha hs=>by
 cases b with
 |true=>exact h1 rfl a w (ha.ai4 M rfl) hs
 |false=>exact h2 rfl a w (ha.ai4 M rfl) hs
theorem D.split{stop:Nat}{p:Prop}[Decidable p](hl:look L d=some (.bool (decide p)))(h1:p->D P κ N ops Q J stop fuel M ((d,.bool true)::L) I)(h2:¬p->D P κ N ops Q J stop fuel M ((d,.bool false)::L) I):D P κ N ops Q J stop fuel M L I:=λa w ha hs=>by
 by_cases hp:p
 ·exact h1 hp a w (ha.ai4 hl<|by simp [hp]) hs
 exact h2 hp a w (ha.ai4 hl<|by simp [hp]) hs
theorem D.bk8{stop:Nat}(hl:look L d=some (.bool b))(h1:b=true->D P κ N ops Q J stop fuel M ((d,.bool true)::L) I)(h2:b=false->D P κ N ops Q J stop fuel M ((d,.bool false)::L) I):D P κ N ops Q J stop fuel M L I:=λa w ha hs=>by
 cases b with
 |true=>exact h1 rfl a w (ha.ai4 hl rfl) hs
 |false=>exact h2 rfl a w (ha.ai4 hl rfl) hs
theorem fz4{m n:Int}(h:look L k=some (.int .i64 m))(e:m=n):look L k=some (.int .i64 n):=by rw [h,e]
theorem dx5{u:Value}(h:look L k=some u)(e:u=v):look L k=some v:=by rw [h,e]
end
end Go.Sl
