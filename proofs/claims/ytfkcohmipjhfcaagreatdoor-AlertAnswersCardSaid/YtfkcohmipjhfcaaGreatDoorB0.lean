/- A part of the proofs of statements of this seat: contracts of functions, and the plain laws that they lean on. No conditions. -/
import Derived.WalkKit
import Derived.OrdersHeld
set_option linter.unusedVariables false
set_option linter.unusedSimpArgs false
set_option linter.unusedSectionVars false
namespace Go.Sl
abbrev An:=@if_neg
abbrev A_:=@List.length_append
abbrev By:=@if_pos
abbrev B_:=@Classical.not_not
abbrev C_:=@List.mem_cons_self
abbrev D_:=@decide_eq_true
abbrev E_:=@decide_eq_false
abbrev Fu:=@List.length_cons
abbrev Fv:=@List.mem_cons_of_mem
abbrev Fw:=@List.length_replicate
abbrev Fx:=@List.length_take
abbrev Fy:=@decide_eq_decide
abbrev Fz:=@congrArg
abbrev F_:=@List.length_nil
abbrev Gb:=@List.take_of_length_le
abbrev Gc:=@of_decide_eq_true
abbrev Gd:=@List.length_set
abbrev Ge:=@List.length_drop
abbrev Gg:=@Classical.byContradiction
abbrev Gh:=@List.mem_cons
abbrev Gi:=@List.length_map
abbrev Gj:=@List.mem_singleton
abbrev Gk:=@Nat.le_refl
abbrev Gn:=@decide_eq_true_eq
abbrev Gp:=@List.pairwise_cons
abbrev Gq:=@Bool.and_eq_true_iff
abbrev Gs:=@List.getD_eq_getElem?_getD
abbrev Gt:=@of_decide_eq_false
abbrev Gu:=@List.mem_append
abbrev Gv:=@List.sublist_append_right
abbrev Gw:=@List.filter_cons
abbrev Gz:=@List.length_filter_le
abbrev G_:=@List.mem_filter
abbrev H1:=@List.append_assoc
abbrev Ha:=@List.mem_map
abbrev Hb:=@List.drop_eq_nil_of_le
abbrev Hc:=@List.filter_append
abbrev Hd:=@List.getElem?_eq_getElem
abbrev He:=@List.getElem?_eq_some_iff
abbrev Hf:=@List.getElem?_append_left
abbrev Hg:=@List.getElem?_append_right
abbrev Hh:=@BitVec.toNat_ushiftRight
abbrev Hi:=@Bool.and_eq_true
abbrev Hj:=@Nat.shiftRight_eq_div_pow
abbrev Hk:=@Int.mul_assoc
abbrev Hl:=@Array.length_toList
abbrev Hm:=@BitVec.getLsbD_and
abbrev Hn:=@Int.le_refl
abbrev Ho:=@List.pairwise_iff_getElem
abbrev Hp:=@List.drop_eq_getElem_cons
abbrev Hq:=@List.append_nil
abbrev Hr:=@List.eq_nil_of_length_eq_zero
abbrev Hs:=@Nat.mul_le_mul_right
abbrev Ht:=@List.mem_range
abbrev Hu:=@Int.toNat_natCast
abbrev Hv:=@Int.eq_ofNat_of_zero_le
abbrev Hw:=@List.foldl_append
abbrev Hx:=@List.take_length
abbrev Hy:=@List.not_mem_nil
abbrev Hz:=@Int.mul_comm
abbrev H_:=@List.Nodup.length_le_of_subset
abbrev Ja:=@BitVec.toNat_and
abbrev Jb:=@List.map_append
abbrev Jc:=@List.filter_eq_nil_iff
abbrev Jd:=@List.filter_congr
abbrev Je:=@BitVec.getLsbD_or
abbrev Jf:=@List.getElem?_take
abbrev Jg:=@List.getElem?_drop
abbrev Jh:=@List.drop_drop
abbrev Ji:=@Nat.le_of_ble_eq_true
abbrev Jj:=@Nat.add_sub_cancel_left
abbrev Jk:=@Nat.add_mul
abbrev Jl:=@List.pairwise_append
abbrev Jm:=@List.Sublist.refl
abbrev Jn:=@BitVec.getLsbD_of_ge
abbrev Jo:=@List.filter_sublist
abbrev Jp:=@List.foldl_cons
abbrev Jq:=@List.perm_ext_iff_of_nodup
abbrev Jr:=@Array.getElem?_append_left
abbrev Js:=@List.mem_append_left
abbrev Jt:=@Nat.le_trans
abbrev Ju:=@List.sublist_append_left
abbrev Jv:=@List.size_toArray
abbrev Jw:=@decide_eq_true_iff
abbrev Jx:=@Nat.pow_le_pow_right
abbrev Jy:=@Array.getElem?_eq_some_iff
abbrev Jz:=@List.length_pos_of_mem
abbrev J_:=@BitVec.toNat_add
abbrev Ka:=@Option.some.injEq
abbrev Kb:=@List.getElem?_toArray
abbrev Kc:=@List.map_cons
abbrev Kd:=@Nat.not_lt_zero
abbrev Ke:=@List.map_toArray
abbrev Kf:=@List.getElem_map
abbrev Kg:=@Nat.testBit_two_pow_mul_add
abbrev Kh:=@Nat.mul_comm
abbrev Ki:=@List.getElem_of_mem
abbrev Kj:=@List.range_succ
abbrev Kk:=@List.getElem?_eq_none
abbrev Kl:=@Nat.mod_eq_of_lt
abbrev Km:=@List.Sublist.trans
abbrev Kn:=@Int.mul_le_mul_of_nonneg_right
abbrev Ko:=@List.drop_zero
abbrev Kq:=@List.length_range
abbrev Kr:=@List.length_eq_zero_iff
abbrev Ks:=@List.getElem?_map
abbrev Kt:=@List.nodup_cons
abbrev Ku:=@List.length_pos_iff
abbrev Kv:=@List.filter_eq_self
abbrev Kw:=@Nat.add_zero
abbrev Kx:=@or_false
abbrev Ky:=@Nat.and_one_is_mod
abbrev Kz:=@Int.fdiv_eq_ediv_of_nonneg
abbrev K_:=@List.mem_append_right
abbrev La:=@List.length_singleton
abbrev Lb:=@BitVec.eq_of_toNat_eq
abbrev Lc:=@List.mem_or_eq_of_mem_set
abbrev Ld:=@Array.getElem?_eq_getElem
abbrev Le:=@Nat.zero_le
abbrev Lg:=@Nat.lt_or_ge
abbrev Lh:=@List.mem_of_mem_take
abbrev Li:=@List.mem_iff_getElem
abbrev Lj:=@Int.le_trans
abbrev Ll:=@if_true
abbrev Lm:=@Int.toNat_of_nonneg
abbrev Ln:=@List.pairwise_singleton
abbrev Lo:=@List.any_eq_true
abbrev Lp:=@Nat.pos_of_ne_zero
abbrev Lq:=@Int.natCast_mul
abbrev Lr:=@Bool.eq_iff_iff
abbrev Ls:=@Nat.lt_trichotomy
abbrev Lt:=@List.getElem_take
abbrev Lu:=@Bool.not_eq_true'
abbrev Lw:=@List.forall_mem_cons
abbrev Lx:=@Int.mul_add
abbrev Ly:=@getElem!_pos
abbrev Lz:=@Nat.zero_add
abbrev L_:=@List.mem_flatMap
abbrev Ma:=@List.ext_getElem
abbrev Mb:=@List.cons_append
abbrev Mc:=@Int.zero_mul
abbrev Md:=@List.flatMap_append
abbrev Me:=@if_false
abbrev Mf:=@List.filter_filter
abbrev Mg:=@List.count_pos_iff
abbrev Mh:=@Bool.false_eq_true
abbrev Mi:=@BitVec.getLsbD_not
abbrev Mj:=@Nat.le_mul_of_pos_right
abbrev Mk:=@BitVec.eq_of_getLsbD_eq
abbrev Ml:=@List.set_eq_take_append_cons_drop
abbrev Mm:=@List.take_append_drop
abbrev Mn:=@Array.getElem?_modify
abbrev Mo:=@Nat.and_two_pow_sub_one_eq_mod
abbrev Mp:=@List.perm_middle
abbrev Mq:=@List.getElem_mem
abbrev Mr:=@Int.ediv_le_self
abbrev Ms:=@Bool.not_eq_true
abbrev Mt:=@Nat.mul_assoc
abbrev Mu:=@Nat.add_assoc
abbrev Mv:=@Int.mul_le_mul_of_nonneg_left
abbrev Mw:=@List.cons.injEq
abbrev Mx:=@List.getElem?_range
abbrev My:=@List.map_nil
abbrev Mz:=@List.idxOf_lt_length_of_mem
abbrev M_:=@Int.mul_lt_mul_of_pos_right
abbrev Na:=@Nat.mod_lt
abbrev Nb:=@Nat.lt_of_lt_of_le
abbrev Nc:=@Int.tmod_eq_emod_of_nonneg
abbrev Nd:=@Int.pow_nonneg
abbrev Nf:=@Int.mul_nonneg
abbrev Ng:=@Int.le_of_mul_le_mul_right
abbrev Nh:=@BitVec.toNat_ofInt
abbrev Ni:=@Array.toList_range
abbrev Nj:=@List.mem_take_iff_getElem
abbrev Nk:=@List.getElem_append_right
abbrev Nl:=@List.nodup_append
abbrev Nm:=@List.Pairwise.map
abbrev Np:=@Int.lt_trichotomy
abbrev Nq:=@Nat.lt_succ_iff_lt_or_eq
abbrev Nr:=@List.getElem_append_left
abbrev Ns:=@List.eq_of_mem_replicate
abbrev Nt:=@List.Pairwise.imp_of_mem
abbrev Nu:=@List.getElem?_replicate
abbrev Nv:=@List.getElem?_cons_zero
abbrev Nw:=@List.getElem?_cons_succ
abbrev Nx:=@List.all_eq_true
abbrev Ny:=@Array.toList_map
open Go.RowKit (Below)
variable{a:Act}{v:Value}{w w':World}
abbrev Env:=List (Nat×Value)
def look:Env->Nat->Option Value
 |[],_=>none
 |(k,v)::L,t=>bif Nat.beq k t then some v else look L t
def ep(L:Env):Operand->Option Value
 | .tmp t=>look L t
 | .const v=>some v
 | .global g=>some (.pointer<|some ⟨g,0,none⟩)
 | .func f=>some (.func (.func f) #[] #[])
structure Frm where
 n:Nat
 ds:List Deferred
instance (n:Nat):OfNat Frm n:=⟨⟨n,[]⟩⟩
structure Ag (N:Frm) (a:Act) (L:Env):Prop where
 defers:a.defers=N.ds
 size:a.tmps.size=N.n
 get:∀t v,look L t=some v->a.tmps[t]? = some v
theorem Ag.eval{N:Frm}{L:Env}(h:Ag N a L){x:Operand}(M:ep L x=some v):a.eval x=v:=by
 cases x with
 |tmp t=>simp only [ep] at M;simp [Act.eval,h.get t v M]
 |const c=>simp only [ep,Ka] at M;exact M
 |global g=>simp only [ep,Ka] at M;exact M
 |func f=>simp only [ep,Ka] at M;exact M
theorem Z0(k:Nat)(v:Value)(L:Env)(t:Nat):look ((k,v)::L) t=if k=t then some v else look L t:=by
 simp only [look]
 by_cases h:k=t
 ·simp [h]
 have:Nat.beq k t=false:=by
  rw [←Ms,Nat.beq_eq];exact h
 simp [this,h]
theorem Ag.put{N:Frm}{L:Env}(h:Ag N a L)(d:Nat)(hd:Nat.blt d N.n=true)(v:Value):Ag N (a.put (some d) v) ((d,v)::L):=by
 have E:d<N.n:=by simpa using hd
 refine ⟨h.defers,by simp [Act.put,h.size],λt u M=>?_⟩
 rw [Z0] at M
 simp only [Act.put]
 by_cases ht:d=t
 ·subst ht
  simp only [Ll,Ka] at M
  subst M
  simp [h.size,E]
 simp only [ht,Me] at M
 rw [Array.getElem?_setIfInBounds_ne ht]
 exact h.get t u M
def Sub(L:Env):Env->Prop
 |[]=>True
 |(k,v)::L'=>look L k=some v/\Sub L L'
theorem Sub.nil{L:Env}:Sub L []:=trivial
theorem Sub.cons{L L':Env}{k:Nat}(h:look L k=some v)(t:Sub L L'):Sub L ((k,v)::L'):=⟨h,t⟩
theorem cx4{L L':Env}{k0 k1 k2 k3:Nat}{u0 u1 u2 u3:Value}(t:Sub L L')(h0:look L k0=some u0:=by exact rfl)(h1:look L k1=some u1:=by exact rfl)(h2:look L k2=some u2:=by exact rfl)(h3:look L k3=some u3:=by exact rfl):Sub L ((k0,u0)::(k1,u1)::(k2,u2)::(k3,u3)::L'):=⟨h0,⟨h1,⟨h2,⟨h3,t⟩⟩⟩⟩
theorem cx2{L L':Env}{k0 k1:Nat}{u0 u1:Value}(t:Sub L L')(h0:look L k0=some u0:=by exact rfl)(h1:look L k1=some u1:=by exact rfl):Sub L ((k0,u0)::(k1,u1)::L'):=⟨h0,⟨h1,t⟩⟩
theorem Sub.get{L:Env}:∀{L':Env},Sub L L'->∀t v,look L' t=some v->look L t=some v
 |[],_,t,v,h=>by simp [look] at h
 |(k,u)::L',hs,t,v,h=>by
  rw [Z0] at h
  by_cases hk:k=t
  ·subst hk
   simp only [Ll,Ka] at h
   subst h
   exact hs.1
  simp only [hk,Me] at h
  exact Sub.get hs.2 t v h
theorem Ag.sub{N:Frm}{L L':Env}(h:Ag N a L)(hs:Sub L L'):Ag N a L':=
 ⟨h.defers,h.size,λt v M=>h.get t v<|hs.get t v M⟩
def bi8:Nat->List Value->Env
 |_,[]=>[]
 |k,v::vs=>(k,v)::bi8 (k+1) vs
theorem bg7(t:Nat)(u:Value):∀(vs:List Value) (k:Nat),look (bi8 k vs) t=some u->∃j,t=k+j/\vs[j]? = some u
 |[],k,h=>by simp [bi8,look] at h
 |v::vs,k,h=>by
  rw [bi8,Z0] at h
  by_cases hk:k=t
  ·simp only [hk,Ll,Ka] at h
   exact ⟨0,by omega,by simp [h]⟩
  simp only [hk,Me] at h
  obtain ⟨j,hj,M⟩:=bg7 t u vs (k+1) h
  exact ⟨j+1,by omega,by simpa using M⟩
theorem Ag.start(M:List Value)(N:Nat)(hN:M.length<=N) :
  Ag ⟨N,[]⟩ {tmps:=M.toArray++Array.replicate (N - M.toArray.size) undef,defers:=[]} (bi8 0 M):=by
 refine ⟨rfl,by simp;omega,λt v E=>?_⟩
 obtain ⟨j,hj,E⟩:=bg7 t v M 0 E
 have hl:j<M.length:=(He.1 E).1
 obtain rfl:t=j:=by omega
 rw [Jr (by simpa using hl)]
 simpa using E
structure Item where
 fp:Nat->Prop
 ok:World->Prop
 loc:∀w w':World,(∀k,fp k->w'.heap[k]? = w.heap[k]?)->ok w->ok w'
structure Ctx where
 os:Os
 tape:Nat->Question->Nat
 output:Array (Nat×ByteArray)
 drawn:Nat
def Item.apart(x y:Item):Prop:=∀k,x.fp k->¬y.fp k
structure Sep (κ:Ctx) (w:World) (I:List Item):Prop where
 os:w.os=κ.os
 tape:w.tape=κ.tape/\κ.drawn<=w.drawn
 output:w.output=κ.output
 ok:∀x∈I,x.ok w/\∀k,x.fp k->k<w.heap.size
 pw:I.Pairwise Item.apart
theorem Item.apart.symm{x y:Item}(h:x.apart y):y.apart x:=λk E M=>h k M E
variable {κ:Ctx}
theorem Sep.perm{I J:List Item}(h:Sep κ w I)(M:I.Perm J):Sep κ w J:=
 ⟨h.os,h.tape,h.output,λx E=>h.ok x<|M.mem_iff.2 E,(M.pairwise_iff<|λh=>h.symm).1 h.pw⟩
theorem Sep.sublist{I J:List Item}(h:Sep κ w I)(hs:J.Sublist I):Sep κ w J:=
 ⟨h.os,h.tape,h.output,λx M=>h.ok x<|hs.mem M,h.pw.sublist hs⟩
theorem Sep.tail{x:Item}{I:List Item}(h:Sep κ w (x::I)):Sep κ w I:=h.sublist (List.sublist_cons_self x I)
def Fit(κ:Ctx)(I J:List Item):Prop:=∀w,Sep κ w I->Sep κ w J
theorem Fit.refl(I:List Item):Fit κ I I:=λ_ h=>h
theorem Fit.trans{I J K:List Item}(h:Fit κ I J)(k:Fit κ J K):Fit κ I K:=λw s=>k w (h w s)
theorem Fit.tail{x:Item}{I J:List Item}(h:Fit κ I J):Fit κ (x::I) J:=λw s=>h w s.tail
theorem Fit.H8{I J:List Item}(h:J.Sublist I):Fit κ I J:=λ_ s=>s.sublist h
theorem Fit.perm{I J:List Item}(h:I.Perm J):Fit κ I J:=λ_ s=>s.perm h
inductive ab5:List Item->Item->List Item->Prop
 |head (x:Item) (I:List Item):ab5 (x::I) x I
 |tail {I I':List Item} {x:Item} (y:Item) (h:ab5 I x I'):ab5 (y::I) x (y::I')
theorem ab5.perm{I I':List Item}{x:Item}(h:ab5 I x I'):I.Perm (x::I'):=by
 induction h with
 |head=>exact .refl _
 |tail y _ ih=>exact (ih.cons y).trans (.swap _ _ _)
inductive Sp:List Item->List Item->Prop
 |refl (I:List Item):Sp I I
 |pick {I I' J:List Item} {x:Item} (h:ab5 I x I') (h2:Sp I' J):Sp I (x::J)
 |skip {I J:List Item} (x:Item) (h2:Sp I J):Sp (x::I) J
theorem Sp.out{I J:List Item}(h:Sp I J):∃K,I.Perm K/\J.Sublist K:=by
 induction h with
 |refl I=>exact ⟨I,.refl _,.refl _⟩
 |pick h _ ih=>
  obtain ⟨K,E,M⟩:=ih
  exact ⟨_::K,h.perm.trans<|E.cons _,M.cons_cons _⟩
 |skip x _ ih=>
  obtain ⟨K,E,M⟩:=ih
  exact ⟨x::K,E.cons x,M.cons x⟩
theorem Fit.sp{I J:List Item}(h:Sp I J):Fit κ I J:=λw s=>by
 obtain ⟨K,E,M⟩:=h.out
 exact (s.perm E).sublist M
theorem Fit.au8(xs I:List Item):Fit κ (xs++I) I:=Fit.H8 (Gv _ _)
theorem Fit.di0{A I J:List Item}(h:Fit κ I J):Fit κ (A++I) J:=Fit.trans (Fit.au8 _ _) h
theorem Sep.frame{I:List Item}(h:Sep κ w I)(ho:w'.os=w.os)(E:w'.tape=w.tape/\w.drawn<=w'.drawn)(hu:w'.output=w.output)(hs:w.heap.size<=w'.heap.size)
  (hk:∀x∈I,∀k,x.fp k->w'.heap[k]? = w.heap[k]?):Sep κ w' I:=
 ⟨ho.trans h.os,⟨E.1.trans h.tape.1,Jt h.tape.2 E.2⟩,hu.trans h.output,λx M=>⟨x.loc w w' (hk x M) (h.ok x M).1,λk hf=>Nb ((h.ok x M).2 k hf) hs⟩,h.pw⟩
theorem Sep.drew{I:List Item}(h:Sep κ w I):Sep κ w.drew I:=h.frame rfl ⟨rfl,Nat.le_succ _⟩ rfl (Gk _) λ_ _ _ _=>rfl
theorem Sep.alloc{I:List Item}(h:Sep κ w I)(o:Obj):Sep κ (w.alloc o) I:=
 h.frame rfl ⟨rfl,Gk _⟩ rfl (by simp) λx E k M=>Go.RowKit.Below.heap_alloc w o k ((h.ok x E).2 k M)
theorem Sep.cons{x:Item}{I:List Item}(h:Sep κ w I)(M:x.ok w)(E:∀k,x.fp k->k<w.heap.size)(ha:∀y∈I,∀k,x.fp k->¬y.fp k):Sep κ w (x::I):=
 ⟨h.os,h.tape,h.output,λy hy=>by
  rcases Gh.1 hy with rfl|hy
  ·exact ⟨M,E⟩
  exact h.ok y hy,Gp.2 ⟨ha,h.pw⟩⟩
theorem Sep.new{x:Item}{I:List Item}(h:Sep κ w I)(h':Sep κ w' I)(hx:x.ok w')(hb:∀k,x.fp k->w.heap.size<=k/\k<w'.heap.size):Sep κ w' (x::I):=
 h'.cons hx (λk E=>(hb k E).2) λy hy k E M=>by
  have:=(h.ok y hy).2 k M
  have:=(hb k E).1
  omega
inductive At:List Item->Item->Item->List Item->Prop
 |head (x x':Item) (I:List Item):At (x::I) x x' (x'::I)
 |tail {I I':List Item} {x x':Item} (y:Item) (h:At I x x' I'):At (y::I) x x' (y::I')
theorem At.mem{I I':List Item}{x x':Item}(h:At I x x' I'):x∈I:=by
 induction h with
 |head=>exact C_
 |tail y _ ih=>exact Fv _ ih
theorem At.perm{I I':List Item}{x x':Item}(h:At I x x' I'):∃J,I.Perm (x::J)/\I'.Perm (x'::J):=by
 induction h with
 |head x x' I=>exact ⟨I,.refl _,.refl _⟩
 | @tail I I' x x' y _ ih=>
  obtain ⟨J,E,M⟩:=ih
  exact ⟨y::J,(E.cons y).trans (.swap x y J),(M.cons y).trans (.swap x' y J)⟩
inductive AtF:List Item->Item->(Item->List Item)->Prop
 |head (x:Item) (I:List Item):AtF (x::I) x (λx'=>x'::I)
 |tail {I:List Item} {x:Item} {F:Item->List Item} (y:Item) (h:AtF I x F):AtF (y::I) x (λx'=>y::F x')
theorem AtF.perm{I:List Item}{x:Item}{F:Item->List Item}(h:AtF I x F):∃J,I.Perm (x::J)/\∀x',(F x').Perm (x'::J):=by
 induction h with
 |head x I=>exact ⟨I,.refl _,λ_=> .refl _⟩
 | @tail I x F y _ ih=>
  obtain ⟨J,E,M⟩:=ih
  exact ⟨y::J,(E.cons y).trans (.swap x y J),λx'=>((M x').cons y).trans (.swap x' y J)⟩
theorem Sep.upd{I I':List Item}{x x':Item}(h:Sep κ w I)(ab:At I x x' I')(ho:w'.os=w.os)(ht:w'.tape=w.tape/\w.drawn<=w'.drawn)(hu:w'.output=w.output)
  (hs:w.heap.size<=w'.heap.size) (hk:∀k,k<w.heap.size->¬x.fp k->w'.heap[k]? = w.heap[k]?) (hx:x'.ok w')
  (hf:∀k,x'.fp k->x.fp k\/(w.heap.size<=k/\k<w'.heap.size)):Sep κ w' I':=by
 obtain ⟨J,h1,h2⟩:=ab.perm
 have hJ:=h.perm h1
 have ha:∀y∈J,∀k,x.fp k->¬y.fp k:=(Gp.1 hJ.pw).1
 have aa:Sep κ w' J:=hJ.tail.frame ho ht hu hs λy hy k M=>
  hk k ((hJ.tail.ok y hy).2 k M) λhxk=>ha y hy k hxk M
 refine (aa.cons hx (λk E=>?_) λy hy k E M=>?_).perm h2.symm
 ·rcases hf k E with hxk|hxk
  ·exact Nb ((hJ.ok x C_).2 k hxk) hs
  exact hxk.2
 rcases hf k E with hxk|hxk
 ·exact ha y hy k hxk M
 have:=(hJ.tail.ok y hy).2 k M
 omega
def e8(b:Nat)(cs:List Value)(T:TypeId):Item where
 fp k:=k=b
 ok w:=w.heap[b]? = some (.cells cs.toArray T (0,0))
 loc w w' h hw:=(h b rfl).trans hw
def old(B:Nat)(w0:World):Item where
 fp k:=k<B
 ok w:=∀k,k<B->w.heap[k]? = w0.heap[k]?
 loc w w' h hw k hk:=(h k hk).trans (hw k hk)
theorem Sep.below{M:World}{I:List Item}(h:Sep ⟨M.os,M.tape,M.output,M.drawn⟩ w I)(hm:old M.heap.size M∈I):Below M.heap.size M w:=by
 obtain ⟨E,hb⟩:=h.ok _ hm
 refine ⟨h.os,h.tape.1,h.output,?_,E⟩
 by_cases h0:M.heap.size=0
 ·omega
 have:=hb (M.heap.size - 1) (by show _<_;omega)
 omega
theorem Sep.begin(w:World):Sep ⟨w.os,w.tape,w.output,w.drawn⟩ w [old w.heap.size w]:=
 ⟨rfl,⟨rfl,Gk _⟩,rfl,λx M=>by
  obtain rfl:x=old w.heap.size w:=by simpa using M
  exact ⟨λ_ _=>rfl,λ_ h=>h⟩,Ln _ _⟩
end Go.Sl
namespace Go.Sl
variable{a:Addr}{v:Value}{cs:List Value}{b n:Nat}{e t:TypeId}{I:List Item}
theorem C{α:Sort _}{a:α}:a=a:=rfl
open Go.RowKit (Below)
abbrev e7(n:Int):Value:= .int .i64 n
abbrev pt(b:Nat):Value:= .pointer (some ⟨b,0,none⟩)
def du8:Option TypeDesc->Bool
 |some (.struct _)=>true
 |some (.array _ _)=>true
 |_=>false
def tyF(P:Program)(T:TypeId):Option (Nat×Bool×Nat×List Value):=
 (P.info? T).bind λi=>i.zero.bind λz=>(P.underlying T).map λd=>(i.size,du8<|some d,i.bytes,z.cells.toList)
section types
variable {P:Program}{T:TypeId}{sz by':Nat}{ag:Bool}{z:List Value}
theorem ak9(h:tyF P T=some (sz,ag,by',z)) :
  ∃i zv d,P.info? T=some i/\i.zero=some zv/\P.underlying T=some d/\i.size=sz/\du8 (some d)=ag/\i.bytes=by'/\zv.cells=z.toArray:=by
 unfold tyF at h
 cases hi:P.info? T with
 |none=>simp [hi] at h
 |some i=>
  cases hz:i.zero with
  |none=>simp [hi,hz] at h
  |some zv=>
   cases hd:P.underlying T with
   |none=>simp [hi,hz,hd] at h
   |some d=>
    simp [hi,hz,hd] at h
    obtain ⟨h1,M,h3,E⟩:=h
    exact ⟨i,zv,d,rfl,hz,rfl,h1,M,h3,by rw [←E]⟩
theorem cc2(h:tyF P T=some (sz,ag,by',z))(w:World):(isAgg T).run P w = .ok ag w:=by
 obtain ⟨i,zv,d,hi,hz,E,h1,M,h3,h4⟩:=ak9 h
 subst M
 cases d<;>simp [isAgg,run_underlying E,du8]
theorem run_sizeOf(h:tyF P T=some (sz,ag,by',z))(w:World):(sizeOf T).run P w = .ok sz w:=by
 obtain ⟨i,zv,d,hi,hz,hd,M,E,h3,h4⟩:=ak9 h
 simp [sizeOf,typeInfo,hi,M]
theorem aa0(h:tyF P T=some (sz,ag,by',z))(w:World):∃zv,(zeroValue T).run P w = .ok zv w/\zv.cells=z.toArray:=by
 obtain ⟨i,zv,d,hi,hz,hd,h1,h2,h3,h4⟩:=ak9 h
 exact ⟨zv,by simp [zeroValue,typeInfo,hi,hz],h4⟩
end types
theorem aa1{P:Program}{T:TypeId}{sz by':Nat}{z:List Value}(h:tyF P T=some (sz,false,by',z)){w:World}(M:w.cell? a=some v) :
  (loadVar T a).run P w = .ok v w:=by
 simp [loadVar,cc2 h,M]
theorem G2{P:Program}{T:TypeId}{sz by':Nat}{z:List Value}(h:tyF P T=some (sz,true,by',z)){w:World}(E:cs.length=sz)
  (M:∀j v,cs[j]? = some v->w.cell? (a.add j)=some v):(loadVar T a).run P w = .ok (.agg cs.toArray) w:=by
 subst E
 simp [loadVar,cc2 h,run_sizeOf h,run_loadCells_list w a cs M]
theorem V6{w:World}{T:TypeId}(h:w.heap[b]? = some (.cells cs.toArray T (0,0)))(o:Nat):w.cell? ⟨b,o,none⟩=cs[o]? :=by
 simp [cell_of_row w b o cs.toArray T (0,0) h]
def cellsOf(v:Value):List Value:=v.cells.toList
theorem ay3{P:Program}{T:TypeId}{sz by':Nat}{ag:Bool}{z:List Value}(h:tyF P T=some (sz,ag,by',z)){w:World}{o:Nat}{E:TypeId}{vs:List Value}
  (hv:cellsOf v=vs) (hl:vs.length=sz) (h1:∀u∈vs,u.oneCell'=true) (hb:w.heap[b]? = some (.cells cs.toArray E (0,0))) (hr:o+vs.length<=cs.length) :
  (storeVar T ⟨b,o,none⟩ v).run P w = .ok () (w.setRow b (cs.take o++vs++cs.drop (o+vs.length)).toArray):=by
 have aa:v.cells=vs.toArray:=by rw [←hv];simp [cellsOf]
 have M:=run_storeCells_at P b o E vs 0 cs.toArray w hb (by simpa using hr) h1
 simp only [Kw] at M
 subst hl
 simp [storeVar,run_sizeOf h,aa,M]
def dn0(w:World)(sz:Nat)(v:Value)(n:Nat)(cs:List Value):Prop:=
 ∃a cap,v = .slice a n cap/\cs.length=n*sz/\n<=cap/\cap<=maxLen/\
  (0<cap->∃b off,a=some ⟨b,off,none⟩/\∀j u,cs[j]? = some u->w.cell? ⟨b,off+j,none⟩=some u)
def az2(w:World)(e:TypeId)(sz:Nat)(v:Value)(n:Nat)(cs:List Value):Prop:=
 ∃a cap,v = .slice a n cap/\cs.length=n*sz/\n<=cap/\cap<=maxLen/\
  (0<cap->∃b off cur,a=some ⟨b,off,none⟩/\w.heap[b]? = some (.cells cur e (0,0))/\off+cap*sz<=cur.size/\∀j u,cs[j]? = some u->cur[off+j]? = some u)
def dq6(v:Value)(k:Nat):Prop:=∃off n cap,v = .slice (some ⟨k,off,none⟩) n cap/\0<cap
def vec(e:TypeId)(sz:Nat)(v:Value)(n:Nat)(cs:List Value):Item where
 fp:=dq6 v
 ok w:=az2 w e sz v n cs
 loc w w' h hw:=by
  obtain ⟨a,cap,hv,h1,h2,h3,h4⟩:=hw
  refine ⟨a,cap,hv,h1,h2,h3,λhc=>?_⟩
  obtain ⟨b,off,cur,ha,hb,h5,h6⟩:=h4 hc
  exact ⟨b,off,cur,ha,(h b ⟨off,n,cap,by rw [hv,ha],hc⟩).trans hb,h5,h6⟩
def bj5(κ:Ctx)(I:List Item)(sz:Nat)(v:Value)(n:Nat)(cs:List Value):Prop:=∀w,Sep κ w I->dn0 w sz v n cs
theorem az2.sl{w:World}{sz:Nat}(h:az2 w e sz v n cs):dn0 w sz v n cs:=by
 obtain ⟨a,cap,hv,h1,h2,h3,E⟩:=h
 refine ⟨a,cap,hv,h1,h2,h3,λM=>?_⟩
 obtain ⟨b,off,cur,ha,hb,h5,h6⟩:=E M
 refine ⟨b,off,ha,λj u hj=>?_⟩
 rw [cell_of_row w b (off+j) cur e (0,0) hb]
 exact h6 j u hj
variable {κ:Ctx}
theorem bj5.vec{sz:Nat}(h:vec e sz v n cs∈I):bj5 κ I sz v n cs:=λ_ s=>az2.sl (s.ok _ h).1
theorem bj5.fit{J:List Item}{sz:Nat}(h:bj5 κ I sz v n cs)(M:Fit κ J I):bj5 κ J sz v n cs:=λw s=>h w (M w s)
theorem bj5.nil(I:List Item)(sz:Nat):bj5 κ I sz (.slice none 0 0) 0 []:=λ_ _=>⟨none,0,rfl,by simp,Gk _,by simp,λh=>by omega⟩
theorem Sep.dn5{w:World}(h:Sep κ w I)(e:TypeId)(sz:Nat):Sep κ w (vec e sz (.slice none 0 0) 0 []::I):=
 h.cons ⟨none,0,rfl,by simp,Gk _,by simp,λh=>by omega⟩ (λk M=>by obtain ⟨_,_,_,h,_⟩:=M;cases h) λ_ _ k M=>by obtain ⟨_,_,_,h,_⟩:=M;cases h
def s6:Value->Nat->Value
 | .slice (some a) _ _,k=> .pointer (some<|a.add k)
 |_,_=>undef
theorem y5(b o k:Nat):(⟨b,o,none⟩:Addr).add k=⟨b,o+k,none⟩:=Addr.add_lit b o k
theorem bv8(z:List Value)(n:Nat):(List.replicate n z).flatten.length=n*z.length:=by simp
theorem ag3(z:List Value):∀(n j:Nat),0<z.length->j<n*z.length->(List.replicate n z).flatten[j]? = z[j % z.length]?
 |0,j,_,h=>by simp at h
 |n+1,j,hs,h=>by
  rw [List.replicate_succ,List.flatten_cons]
  by_cases hj:j<z.length
  ·rw [Hf hj,Kl hj]
  rw [Hg (by omega),ag3 z n (j - z.length) hs<|by rw [Jk] at h;omega]
  congr 1
  rw [←Nat.mod_eq_sub_mod (by omega)]
section runs
variable {P:Program}{w:World}
theorem aa4{sz:Nat}(h:dn0 w sz v n cs):(Builtin.firstCells sz n v).run P w = .ok cs.toArray w:=by
 obtain ⟨a,cap,rfl,M,h2,h3,E⟩:=h
 by_cases hc:0<cap
 ·obtain ⟨b,off,rfl,hr⟩:=E hc
  exact run_firstCells_some w sz n _ n cap cs M λj u hj=>by rw [y5];exact hr j u hj
 obtain rfl:n=0:=by omega
 have:cs=[]:=Hr (by simpa using M)
 subst this
 cases a with
 |none=>simp [Builtin.firstCells]
 |some a=>exact run_firstCells_some w sz 0 a 0 cap [] (by simp) (by simp)
theorem dn0.drew{sz:Nat}(h:dn0 w sz v n cs):dn0 w.drew sz v n cs:=h
theorem ay4{sz:Nat}(h:dn0 w sz v n cs):(Builtin.lenOf v).run P w = .ok n w:=by
 obtain ⟨a,cap,rfl,_⟩:=h
 simp [Builtin.lenOf]
theorem bm3{ty:TypeId}(ht:P.underlying t=some (.slice e)){sz by':Nat}{ag:Bool}{z:List Value}(hT:tyF P e=some (sz,ag,by',z))(ax:z.length=sz)
  {v x:Value} {n m:Nat} {cs ds:List Value} (hv:az2 w e sz v n cs) (hx:dn0 w sz x m ds) (h1:∀u∈ds,u.oneCell'=true)
  (ao:n+m<=maxLen) (a3:(n+m)*by'<=140737488355328) :
  ∃v' w',(Builtin.append_ #[t,t] ty #[v,x]).run P w = .ok v' w'/\az2 w' e sz v' (n+m) (cs++ds)/\
   w'.os=w.os/\(w'.tape=w.tape/\w.drawn<=w'.drawn)/\w'.output=w.output/\w.heap.size<=w'.heap.size/\
   (∀k,k<w.heap.size->¬dq6 v k->w'.heap[k]? = w.heap[k]?)/\(∀k,dq6 v' k->dq6 v k\/(w.heap.size<=k/\k<w'.heap.size)):=by
 obtain ⟨i,zv,d,hi,hz,hd,a7,a5,aw,ar⟩:=ak9 hT
 have aa:=aa4 (P:=P) hx
 have hlen:=ay4 (P:=P) hx
 have hold:=aa4 (P:=P) (w:=w.drew) hv.sl.drew
 have ab:=aa4 (P:=P) (w:=w.drew) hx.drew
 obtain ⟨a,cap,rfl,hl,a6,ah,ak⟩:=hv
 obtain ⟨xa,xc,rfl,an,_⟩:=hx
 have M:(cs++ds).length=(n+m)*sz:=by rw [A_,hl,an,Jk]
 by_cases hroom:n+m<=cap
 ·by_cases hc:0<cap
  ·obtain ⟨b,off,cur,rfl,hb,a0,ap⟩:=ak hc
   have ae:off+n*sz+ds.length<=cur.size:=by
    have:=Hs sz hroom
    rw [Jk] at this
    omega
   have aj:=run_storeCells_at P b (off+n*sz) e ds 0 cur w hb (by simpa using ae) h1
   simp only [Kw] at aj
   refine ⟨.slice (some ⟨b,off,none⟩) (n+m) cap,w.setRow b (cur.toList.take (off+n*sz)++ds++cur.toList.drop (off+n*sz+ds.length)).toArray,?_,?_,rfl,⟨rfl,Gk _⟩,rfl,by simp,λk E az=>?_,λk E=>?_⟩
   ·simp only [Builtin.append_,Kb,Nv,Nw,Sem.run_bind,run_underlying ht,Result.andThen_ok,run_sizeOf hT]
    simp [run_underlying ht,hlen,hroom,aa,y5,aj]
   ·refine ⟨_,cap,rfl,M,hroom,ah,λ_=>⟨b,off,_,rfl,setRow_heap w b cur _ e _ hb,?_,λj u hj=>?_⟩⟩
    ·simp only [Jv,A_,Fx,Ge,Hl]
     omega
    simp only [Kb]
    by_cases hjn:j<cs.length
    ·rw [Hf hjn] at hj
     have:=ap j u hj
     rw [H1,Hf (by simp only [Fx,Hl];omega),Jf,By<|by omega]
     simpa using this
    rw [Hg (by omega)] at hj
    have a8:j - cs.length<ds.length:=(He.1 hj).1
    have hlt:(cur.toList.take<|off+n*sz).length=off+n*sz:=by simp only [Fx,Hl];omega
    rw [H1,Hg (by omega),hlt,Hf (by omega),←hj]
    congr 1
    omega
   ·exact setRow_other w b k _ λa4=>az<|by subst a4;exact ⟨off,n,cap,rfl,hc⟩
   obtain ⟨o,n',c',he,a1⟩:=E
   cases he
   exact .inl ⟨off,n,cap,rfl,hc⟩
  have hn:n=0:=by omega
  have hm:m=0:=by omega
  subst hn hm
  have av:ds=[]:=Hr (by simpa using an)
  subst av
  refine ⟨.slice a 0 cap,w,?_,⟨a,cap,rfl,M,hroom,ah,λh=>absurd h hc⟩,rfl,⟨rfl,Gk _⟩,rfl,Gk _,λ_ _ _=>rfl,λk E=> .inl E⟩
  simp only [Builtin.append_,Kb,Nv,Nw,Sem.run_bind,run_underlying ht,Result.andThen_ok,run_sizeOf hT]
  cases a<;>simp [run_underlying ht,hlen,aa,storeCells]
 have ay:Builtin.nextslicecap (n+m) cap*i.bytes<=281474976710656:=growslice_fits (by omega) (by rw [aw];exact a3)
 have ai:¬(9223372036854775807<((n:Int)+(m:Int))):=by simp only [maxLen] at ao;omega
 have aq:¬(281474976710656<Builtin.nextslicecap (n+m) cap*i.bytes):=by omega
 have ad:=grownCap_ge w (n+m) cap e
 have au:=grownCap_le_maxLen w (n+m) cap e ao
 refine ⟨.slice (some ⟨w.heap.size,0,none⟩) (n+m)<|grownCap w (n+m) cap e,w.drew.alloc<|.cells ((cs++ds).toArray++Builtin.zeroCells zv.cells (grownCap w (n+m) cap e - (n+m))) e,?_,?_,rfl,⟨rfl,Nat.le_succ _⟩,rfl,by simp,λk E _=>Below.heap_alloc w.drew _ k E,λk E=>?_⟩
 ·simp only [Builtin.append_,Kb,Nv,Nw,Sem.run_bind,run_underlying ht,Result.andThen_ok,run_sizeOf hT]
  simp only [run_underlying ht,Sem.run_bind,Result.andThen_ok,hlen,Bool.not_false,Ll,An hroom,Sem.run_ite,Sem.run_pure]
  simp [typeInfo,zeroValue,hi,hz,hroom,ai,aq,Question.forced,hold,ab,newRow,grownCap,hlen,run_underlying ht]
  rw [show (cs++ds).toArray=cs.toArray++ds.toArray from by simp,Array.append_assoc]
 ·refine ⟨_,_,rfl,M,ad,au,λ_=>⟨w.heap.size,0,_,rfl,heap_alloc_new w.drew _,?_,λj u hj=>?_⟩⟩
  ·simp only [Array.size_append,Jv,size_zeroCells,ar,ax,M,←Jk,Lz]
   rw [Nat.add_sub_cancel' ad]
   exact Gk _
  rw [Lz,Jr (by
   have:=(He.1 hj).1
   simpa using this)]
  simpa using hj
 obtain ⟨o,n',c',he,a1⟩:=E
 cases he
 exact .inr ⟨Gk _,by simp⟩
theorem av5(ht:P.underlying t=some (.slice e)){sz by':Nat}{ag:Bool}{z:List Value}(hT:tyF P e=some (sz,ag,by',z))(M:z.length=sz)(n:Nat)
  (aa:n<=maxLen) (ah:n*by'<=281474976710656) :
  ∃v' w',(Instr.makeSlice t (.int .i64 n)<|.int .i64 n).run P w = .ok v' w'/\az2 w' e sz v' n (List.replicate n z).flatten/\
   w'.os=w.os/\(w'.tape=w.tape/\w.drawn<=w'.drawn)/\w'.output=w.output/\w.heap.size<=w'.heap.size/\
   (∀k,k<w.heap.size->w'.heap[k]? = w.heap[k]?)/\(∀k,dq6 v' k->(w.heap.size<=k/\k<w'.heap.size)):=by
 obtain ⟨i,zv,d,hi,hz,hd,ab,aj,ai,ad⟩:=ak9 hT
 have hw:IntKind.i64.wrap (n:Int)=n:=Go.IntWalk.i64_in _ (by simp only [maxLen] at aa;omega)
 have h1:¬((n:Int)<0):=by omega
 have h2:¬(281474976710656<(i.bytes:Int)*n):=by
  rw [ai]
  have h:=Int.ofNat_le.2 ah
  rw [Lq,Hz] at h
  omega
 have E:(Array.range<|n*sz).map (λj=>zv.cells[j % zv.cells.size]!)=(List.replicate n z).flatten.toArray:=by
  apply Array.ext'
  simp only [Ny,Ni]
  rw [ad]
  apply List.ext_getElem?
  intro j
  simp only [Ks,Jv,M]
  by_cases hj:j<n*sz
  ·have hs:0<sz:=Lp λh=>by subst h;simp at hj
   rw [Mx hj]
   have ae:j % sz<z.length:=by rw [M];exact Na _ hs
   rw [ag3 z n j (by rw [M];exact hs) (by rw [M];exact hj),M]
   simp [ae]
  rw [Kk (by simpa using hj),Kk (by rw [bv8,M];omega)]
  rfl
 refine ⟨.slice (some ⟨w.heap.size,0,none⟩) n n,w.alloc<|.cells (List.replicate n z).flatten.toArray e,?_,?_,rfl,⟨rfl,Gk _⟩,rfl,by simp,λk hk=>Below.heap_alloc w _ k hk,λk hk=>?_⟩
 ·simp only [Instr.makeSlice,Sem.run_bind,run_underlying ht,Result.andThen_ok]
  by_cases hn:n*sz=0
  ·have h0:(List.replicate n z).flatten=[]:=Hr (by rw [bv8,M];exact hn)
   simp [asInt,asIntOf,typeInfo,hi,hw,h1,h2,ab,sizeOf,hn,newRow,h0,Array.range_zero']
  simp [asInt,asIntOf,typeInfo,hi,hw,h1,h2,ab,sizeOf,hn,newRow,zeroValue,hz,E]
 ·refine ⟨_,n,rfl,by simp [M],Gk _,aa,λ_=>⟨w.heap.size,0,_,rfl,heap_alloc_new w _,by simp [M],λj u hj=>by simpa using hj⟩⟩
 obtain ⟨o,n',c',he,ak⟩:=hk
 cases he
 exact ⟨Gk _,by simp⟩
end runs
end Go.Sl
namespace Go.Sl
open Go
variable{fuel i stop:Nat}{M:Array Bool}{v:Value}{a:Act}{w:World}
section
variable {P:Program}{ops:Array Oper}{Q:Exit->Act->World->Prop}{md:Region.Mode}{S:World->Prop}
def P7(md:Region.Mode)(ops:Array Oper)(stop i:Nat):Bool:=
 match ops[stop]? with
 |some o=>o.after.any λe=>Region.binds md e&&e.on==i
 |none=>true
def ag9(P:Program)(md:Region.Mode)(ops:Array Oper)(Q:Exit->Act->World->Prop)(S:World->Prop)(stop:Nat):Nat->Array Bool->Act->World->Prop
 |0,listed,a,w=>Region.ready md ops listed=[]/\Q .normal a w
 |fuel+1,listed,a,w=>
  (Region.ready md ops listed=[stop]->wpAny P md ops Q (fuel+1) listed a w)/\
  (Region.ready md ops listed≠[stop]->(Region.ready md ops listed=[]->Q .normal a w)/\
   ∀i∈Region.ready md ops listed,wpOp P ops Q i (λa' w'=>S w'/\ag9 P md ops Q S stop fuel (listed.setIfInBounds i true) a' w') a w)
theorem bn3:∀(fuel:Nat) (listed:Array Bool) (a:Act) (w:World),ag9 P md ops Q S stop fuel listed a w->wpAny P md ops Q fuel listed a w
 |0,_,_,_,h=>h
 |fuel+1,listed,a,w,h=>by
  by_cases hr:Region.ready md ops listed=[stop]
  ·exact h.1 hr
  exact ⟨(h.2 hr).1,λi hi=>wpOp_mono (λM w' E=>bn3 fuel _ M w' E.2)<|(h.2 hr).2 i hi⟩
theorem ap0{j:Nat}{oj:Oper}(hi:i∈Region.ready md ops M)(hj:j∈Region.ready md ops M)(ad:ops[j]? = some oj) :
  ∀e∈oj.after,Region.binds md e=true->e.on≠i:=λe he hb ab=>by
 obtain ⟨_,ae,E,aa⟩:=mem_ready.1 hj
 rw [ad] at E
 cases E
 have h1:=aa e he hb
 have h0:=(mem_ready.1 hi).1
 rw [ab] at h1
 rcases Lg i M.size with h'|h'
 ·simp [h'] at h0 h1;rw [h0] at h1;cases h1
 simp [Array.getElem?_eq_none h'] at h1
theorem dr5(hi:i∈Region.ready md ops M)(hs:stop∈Region.ready md ops M)(hw:P7 md ops stop i=true):False:=by
 obtain ⟨_,o,ho,_⟩:=mem_ready.1 hs
 simp only [P7,ho,Array.any_eq_true,Hi,beq_iff_eq] at hw
 obtain ⟨k,hk,hb,E⟩:=hw
 exact ap0 hi hs ho o.after[k] (Array.getElem_mem hk) hb E
theorem ca1{oi:Oper}(hi:ops[i]? = some oi)(ah:∀(j:Nat) (o:Oper) cs b,ops[j]? = some o->o.op ≠ .select cs b)(an:i≠stop)(ai:P7 md ops stop i=true)
  (hQ:∀c a w,Q (.panic c) (a.put oi.dst v) w->Q (.panic c) a w) :
  ∀(fuel:Nat) (M:Array Bool) (a:Act) (w:World),
   (∀j oj,ops[j]? = some oj->j≠i->M.getD j true=false->(∀e∈oj.after,Region.binds md e=true->e.on≠i)->oi.apart ops oj=true)->
   i∈Region.ready md ops M->YieldsIf P ops S oi v a->S w->
   ag9 P md ops Q S stop fuel (M.setIfInBounds i true) (a.put oi.dst v) w->ag9 P md ops Q S stop (fuel+1) M a w:=by
 intro fuel
 induction fuel with
 |zero=>
  intro M a w _ E hy hS H
  refine ⟨λh=>(by rw [h] at E;exact absurd (by simpa using E) an),λ_=>⟨λh=>(by rw [h] at E;cases E),λj hj=>?_⟩⟩
  by_cases hji:j=i
  ·subst hji;exact hy.wpOp hi hS ⟨hS,H⟩
  have:=ready_mono hj hji
  rw [H.1] at this
  cases this
 |succ fuel ih=>
  intro M a w aa E hy hS H
  refine ⟨λh=>(by rw [h] at E;exact absurd (by simpa using E) an),λ_=>⟨λh=>(by rw [h] at E;cases E),λj hj=>?_⟩⟩
  by_cases hji:j=i
  ·subst hji;exact hy.wpOp hi hS ⟨hS,H⟩
  have aj:=ready_mono hj hji
  have aq:Region.ready md ops (M.setIfInBounds i true)≠[stop]:=λh=>by
   rw [h] at aj
   obtain rfl:j=stop:=by simpa using aj
   exact dr5 E hj ai
  have h1:=(H.2 aq).2 j aj
  obtain ⟨ae,oj,ad,au⟩:=mem_ready.1 hj
  have ak:=ap0 E hj ad
  have h2:=wpOp_putIf ad (aa j oj ad hji ae ak) (λcs b=>ah i oi cs b hi) (λcs b=>ah j oj cs b ad) hQ hy h1
  have ab:∀k ok,ops[k]? = some ok->k≠i->(M.setIfInBounds j true).getD k true=false->
    (∀e∈ok.after,Region.binds md e=true->e.on≠i)->oi.apart ops ok=true:=λk ok hk ar ao ap=>by
   refine aa k ok hk ar ?_ ap
   by_cases hjk:j=k
   ·subst hjk;exact ae
   rw [getD_set_ne true hjk] at ao;exact ao
  refine wpOp_mono (λa' w' h3=>⟨h3.2.1,ih (M.setIfInBounds j true) a' w' ab (ready_mono E<|Ne.symm hji) h3.1 h3.2.1 ?_⟩) h2
  rw [Array.setIfInBounds_comm _ _ hji]
  exact h3.2.2
theorem bd1{oi:Oper}(hi:ops[i]? = some oi)
  (hs:Region.noSelect ops=true) (hf:Region.free md ops M i=true) (hr:(Region.ready md ops M).contains i=true) (aa:Nat.beq i stop=false) (E:P7 md ops stop i=true)
  (hQ:∀c a w,Q (.panic c) (a.put oi.dst v) w->Q (.panic c) a w) (hy:YieldsIf P ops S oi v a) (hS:S w)
  (h:ag9 P md ops Q S stop fuel (M.setIfInBounds i true) (a.put oi.dst v) w):ag9 P md ops Q S stop (fuel+1) M a w:=
 ca1 hi (Region.noSelect_spec hs) (λe=>by subst e;simp at aa) E hQ fuel M a w (Region.free_spec hi hf) (by simpa using hr) hy hS h
theorem dc3{rs:List Nat}(hr:Region.ready md ops M=rs)(aa:rs.isEmpty=false)(ab:(rs==[stop])=false)
  (h:∀i∈rs,wpOp P ops Q i (λa' w'=>S w'/\ag9 P md ops Q S stop fuel (M.setIfInBounds i true) a' w') a w):ag9 P md ops Q S stop (fuel+1) M a w:=
 ⟨λE=>(by rw [hr] at E;simp [E] at ab),λ_=>⟨λE=>(by rw [hr] at E;simp [E] at aa),hr▸h⟩⟩
theorem cm4(hr:Region.ready md ops M=[stop])(h:wpAny P md ops Q (fuel+1) M a w):ag9 P md ops Q S stop (fuel+1) M a w:=
 ⟨λ_=>h,λE=>absurd hr E⟩
theorem wpAny_done(E:Region.ready md ops M=[])(h:Q .normal a w):∀fuel,wpAny P md ops Q fuel M a w
 |0=>⟨E,h⟩
 |_+1=>⟨λ_=>h,by rw [E];simp⟩
theorem cm5(E:Region.ready md ops M=[])(h:Q .normal a w):∀fuel,ag9 P md ops Q S stop fuel M a w
 |0=>⟨E,h⟩
 |_+1=>⟨λh0=>(by rw [E] at h0;cases h0),λ_=>⟨λ_=>h,by rw [E];simp⟩⟩
theorem bm0{id:Nat}(M:P.follows .mixedOrders=true)
  (h:wpAny P .any ops Q ops.size (Array.replicate ops.size false) a w.drew):(Code.region id ops true).wp P Q a w:=wp_region_any M h
end
end Go.Sl
namespace Go.Sl
open Go.RowKit (Below)
variable{M:Array Bool}{c:Operand}{d fuel i id j k t:Nat}{l:List Oper}{a:Act}{b:Bool}{v:Value}
section judgements
variable (P:Program)(κ:Ctx)(N:Frm)
def W(c:Code)(Q:Exit->Act->World->Prop)(L:Env)(I:List Item):Prop:=∀a w,Ag N a L->Sep κ w I->c.wp P Q a w
def G(ops:Array Oper)(Q:Exit->Act->World->Prop)(rest:List Oper)(L:Env)(I:List Item):Prop:=∀a w,Ag N a L->Sep κ w I->wpList P ops Q rest a w
def V(Q:Exit->Act->World->Prop)(e:Exit)(L:Env)(I:List Item):Prop:=∀a w,Ag N a L->Sep κ w I->Q e a w
def D(ops:Array Oper)(Q:Exit->Act->World->Prop)(J:List Item)(stop fuel:Nat)(listed:Array Bool)(L:Env)(I:List Item):Prop:=
 ∀a w,Ag N a L->Sep κ w I->ag9 P .any ops Q (λw=>Sep κ w J) stop fuel listed a w
def A(ops:Array Oper)(Q:Exit->Act->World->Prop)(fuel:Nat)(listed:Array Bool)(L:Env)(I:List Item):Prop:=
 ∀a w,Ag N a L->Sep κ w I->wpAny P .any ops Q fuel listed a w
def j0(o:Oper)(L:Env)(J:List Item)(v:Value):Prop:=∀a w,Ag N a L->Sep κ w J->(execOp a.eval o).run P w = .ok (.value v) w
def Eff(Q:Exit->Act->World->Prop)(o:Oper)(L:Env)(I:List Item)(R:Env->List Item->Prop):Prop:=
 ∀a w,Ag N a L->Sep κ w I->o.wp P a w (λa' w'=>∃L' I',R L' I'/\Ag N a' L'/\Sep κ w' I') Q
def p8(ops:Array Oper)(o:Oper)(L:Env):Prop:=∀a,Ag N a L->Region.wanted o (yielded ops a.tmps)=true
def y4(ops:Array Oper)(o:Oper)(L:Env):Prop:=∀a,Ag N a L->Region.wanted o (yielded ops a.tmps)=false
def er(f:FuncId)(args:List Value)(I:List Item)(Post:Value->List Item->Prop):Prop:=
 ∀w,Sep κ w I->Calls P f args.toArray w λe w'=>∃v J,e = .returned v/\Post v J/\Sep κ w' J
end judgements
section
variable {P:Program}{κ:Ctx}{N:Frm}{Q:Exit->Act->World->Prop}{L:Env}{I J:List Item}{ops:Array Oper}{o:Oper}{rest:List Oper}
theorem er.mono{f:FuncId}{M:List Value}{Post Post':Value->List Item->Prop}(h:er P κ f M I Post)(hp:∀v J,Post v J->Post' v J):er P κ f M I Post':=
 λw s=>(h w s).mono λe w' ⟨v,J,E,hq,hs⟩=>⟨v,J,E,hp v J hq,hs⟩
theorem er.fit{f:FuncId}{M:List Value}{Post:Value->List Item->Prop}(E:Fit κ I J)(h:er P κ f M J Post):er P κ f M I Post:=λw s=>h w (E w s)
theorem er.at{f:FuncId}{M:List Value}{Y:Type}{x:Item}{X:Y->Item}{Z:Y->List Item}{F:Item->List Item}{Post:Value->Y->Prop}(E:AtF I x F)
  (h:∀J,Fit κ (x::J) I->(∀x',Fit κ (x'::J)<|F x')->er P κ f M (x::J) λr J'=>∃y,Post r y/\J'=Z y++X y::J):er P κ f M I λr J'=>∃y,Post r y/\J'=Z y++F (X y):=λw hs=>by
 obtain ⟨J,h1,h2⟩:=E.perm
 refine ((h J (λw s=>s.perm h1.symm) λx' w s=>s.perm (h2 x').symm) w<|hs.perm h1).mono λe w' ⟨v,J',he,⟨y,hp,hJ⟩,aa⟩=>?_
 subst hJ
 exact ⟨v,_,he,⟨y,hp,rfl⟩,aa.perm<|List.Perm.append_left _ (h2 _).symm⟩
theorem W.fit{c:Code}(M:Fit κ I J)(h:W P κ N c Q L J):W P κ N c Q L I:=λa w E hs=>h a w E (M w hs)
theorem W.sub{c:Code}{L':Env}(M:Sub L L')(h:W P κ N c Q L' I):W P κ N c Q L I:=λa w E hs=>h a w (E.sub M) hs
theorem G.fit(M:Fit κ I J)(h:G P κ N ops Q rest L J):G P κ N ops Q rest L I:=λa w E hs=>h a w E (M w hs)
theorem V.fit{e:Exit}(M:Fit κ I J)(h:V κ N Q e L J):V κ N Q e L I:=λa w E hs=>h a w E (M w hs)
theorem W.pull{c:Code}{p:Prop}(M:∀w,Sep κ w I->p)(h:p->W P κ N c Q L I):W P κ N c Q L I:=λa w E hs=>h (M w hs) a w E hs
theorem G.pull{p:Prop}(M:∀w,Sep κ w I->p)(h:p->G P κ N ops Q rest L I):G P κ N ops Q rest L I:=λa w E hs=>h (M w hs) a w E hs
theorem er.pull{f:FuncId}{M:List Value}{Post:Value->List Item->Prop}{p:Prop}(E:∀w,Sep κ w I->p)(h:p->er P κ f M I Post):er P κ f M I Post:=λw hs=>h (E w hs) w hs
theorem W.seq{x y:Code}(h:W P κ N x (Exit.then (y.wp P Q) Q) L I):W P κ N (.seq x y) Q L I:=λa w M hs=>wp_seq (h a w M hs)
theorem W.cond{x y:Code}{t:Bool}(hc:ep L c=some (.bool t))(h1:t=true->W P κ N x Q L I)(E:t=false->W P κ N y Q L I):W P κ N (.cond c x y) Q L I:=
 λa w M hs=>wp_cond_split (M.eval hc) (λh=>h1 h a w M hs) (λh=>E h a w M hs)
theorem W.ite{x y:Code}{p:Prop}[Decidable p](E:ep L c=some (.bool (decide p)))(h1:p->W P κ N x Q L I)(M:¬p->W P κ N y Q L I):W P κ N (.cond c x y) Q L I:=
 W.cond E (λh=>h1<|Gc h) (λh=>M<|Gt h)
theorem W.yes{x y:Code}(M:ep L c=some (.bool true))(h:W P κ N x Q L I):W P κ N (.cond c x y) Q L I:=W.cond M (λ_=>h) (λe=>by cases e)
theorem W.no{x y:Code}(M:ep L c=some (.bool false))(h:W P κ N y Q L I):W P κ N (.cond c x y) Q L I:=W.cond M (λe=>by cases e) (λ_=>h)
theorem W.block{c:Code}(h:W P κ N c (Exit.inBlock id Q) L I):W P κ N (.block id c) Q L I:=λa w M hs=>wp_block (h a w M hs)
theorem W.skip(h:V κ N Q .normal L I):W P κ N .skip Q L I:=λa w M hs=>wp_skip (h a w M hs)
theorem W.exit(h:V κ N Q (.exit id) L I):W P κ N (.exit id) Q L I:=λa w M hs=>wp_exit (h a w M hs)
theorem W.ret(h:V κ N Q .ret L I):W P κ N .ret Q L I:=λa w M hs=>wp_ret (h a w M hs)
theorem W.region(h:G P κ N l.toArray Q l L I):W P κ N (.region id l.toArray false) Q L I:=λa w M hs=>wp_region_lit (h a w M hs)
theorem V.then{y:Code}(h:W P κ N y Q L I):V κ N (Exit.then (y.wp P Q) Q) .normal L I:=h
theorem V.ca6{K:Act->World->Prop}(h:V κ N Q (.exit id) L I):V κ N (Exit.then K Q) (.exit id) L I:=h
theorem V.ct3{K:Act->World->Prop}(h:V κ N Q .ret L I):V κ N (Exit.then K Q) .ret L I:=h
theorem V.cg4(h:V κ N Q .ret L I):V κ N (Exit.inBlock id Q) .ret L I:=h
theorem V.ay9(h:V κ N Q .normal L I):V κ N (Exit.inBlock id Q) .normal L I:=h
theorem V.cg5(h:V κ N Q .normal L I):V κ N (Exit.inBlock id Q) (.exit id) L I:=λa w M hs=>by simp only [Exit.inBlock,Ll];exact h a w M hs
theorem V.br6{M:Nat}(aa:Nat.beq M id=false)(h:V κ N Q (.exit M) L I):V κ N (Exit.inBlock id Q) (.exit M) L I:=λa w ha hs=>by
 have E:¬M=id:=λe=>by subst e;simp at aa
 simp only [Exit.inBlock,E,Me]
 exact h a w ha hs
def fq8(κ:Ctx)(N:Frm){σ:Type}(Lv:σ->Env)(Iv:σ->List Item)(p:σ->Prop)(μ:σ->Nat)(s:σ)(a:Act)(w:World):Prop:=
 ∃s',p s'/\μ s'<μ s/\Ag N a (Lv s')/\Sep κ w (Iv s')
theorem W.loop{c:Code}{σ:Type}(Lv:σ->Env)(Iv:σ->List Item)(p:σ->Prop)(μ:σ->Nat)(s0:σ)(hp:p s0)(hL:Sub L (Lv s0))(hI:Fit κ I (Iv s0))
  (ab:∀s,p s->W P κ N c (Exit.then (fq8 κ N Lv Iv p μ s) Q) (Lv s) (Iv s)):W P κ N (.loop c) Q L I:=by
 intro a w ha hs
 have ak:∀(m:Nat) (s:σ),μ s=m->p s->∀a w,Ag N a (Lv s)->Sep κ w (Iv s)->∀(b:Frame) (k:List Go.Item) (cs:List Frame),
   ∃e a' w',Q e a' w'/\Arrives P (lone (b.at a<|.code c :: .inLoop c::k) cs w) b k cs e a' w':=by
  intro m
  induction m using Nat.strongRecOn with
  |_ m ih=>
   intro s hm ad a w ha hs b k cs
   obtain ⟨e,a₁,w₁,E,M⟩:=ab s ad a w ha hs b (.inLoop c::k) cs
   cases e with
   |normal=>
    obtain ⟨s',ah,hlt,ai,ae⟩:=E
    obtain ⟨e₂,a₂,w₂,aj,aa⟩:=ih (μ s') (hm▸hlt) s' rfl ah a₁ w₁ ai ae b k cs
    exact ⟨e₂,a₂,w₂,aj,.of_steps (Steps.trans M<|.one step_inLoop) aa⟩
   |exit id=>exact ⟨_,a₁,w₁,E,.pass (x:= .inLoop c) rfl (λ_ _=> .inl<|by simp) M⟩
   |goto l=>exact ⟨_,a₁,w₁,E,.pass (x:= .inLoop c) rfl (λ_ _=> .inl<|by simp) M⟩
   |ret=>exact ⟨_,a₁,w₁,E,.pass (x:= .inLoop c) rfl (λ_ _=> .inl<|by simp) M⟩
   |panic ch=>exact ⟨_,a₁,w₁,E,.pass (x:= .inLoop c) rfl (λ_ _=> .inl<|by simp) M⟩
   |outgrown=>exact ⟨_,a₁,w₁,E,.pass (x:= .inLoop c) rfl (λ_ _=> .inl<|by simp) M⟩
 intro b k cs
 obtain ⟨e,a',w',E,M⟩:=ak (μ s0) s0 rfl hp a w (ha.sub hL) (hI w hs) b k cs
 exact ⟨e,a',w',E,.of_steps (.one step_loop) M⟩
theorem V.next{σ:Type}{Lv:σ->Env}{Iv:σ->List Item}{p:σ->Prop}{μ:σ->Nat}{s:σ}(M:σ)(E:p M)(hlt:μ M<μ s)(hL:Sub L (Lv M))(hI:Fit κ I (Iv M)) :
  V κ N (Exit.then (fq8 κ N Lv Iv p μ s) Q) .normal L I:=λa w ha hs=>⟨M,E,hlt,ha.sub hL,hI w hs⟩
def gv1(κ:Ctx)(N:Frm){σ:Type}(Lv:σ->Env)(Iv:σ->List Item)(p:σ->Prop)(a:Act)(w:World):Prop:=
 ∃s,p s/\Ag N a (Lv s)/\Sep κ w (Iv s)
theorem ca0{c:Code}{K K':Act->World->Prop}(M:∀a w,K a w->K' a w){w:World}(h:c.wp P (Exit.then K Q) a w):c.wp P (Exit.then K' Q) a w:=
 Code.wp_mono (λe a w q=>by cases e<;>first|exact M _ _ q|exact q) h
theorem W.cut{x y:Code}{σ:Type}(Lv:σ->Env)(Iv:σ->List Item)(p:σ->Prop)(h1:W P κ N x (Exit.then (gv1 κ N Lv Iv p) Q) L I)
  (E:∀s,p s->W P κ N y Q (Lv s) (Iv s)):W P κ N (.seq x y) Q L I:=
 λa w M hs=>wp_seq (ca0 (λa w ⟨s,hp,M,hs⟩=>E s hp a w M hs)<|h1 a w M hs)
theorem V.mid{σ:Type}{Lv:σ->Env}{Iv:σ->List Item}{p:σ->Prop}(s:σ)(M:p s)(hL:Sub L (Lv s))(hI:Fit κ I (Iv s)) :
  V κ N (Exit.then (gv1 κ N Lv Iv p) Q) .normal L I:=λa w E hs=>⟨s,M,E.sub hL,hI w hs⟩
theorem p8.plain(h:o.guard=none):p8 N ops o L:=λ_ _=>by simp [Region.wanted,h]
theorem bn2(E:Ag N a L)(hj:(ops[j]?).bind (·.dst)=some t)(M:look L t=some (.bool b)):yielded ops a.tmps j=some b:=by
 simp [yielded,hj,E.get t _ M]
theorem p8.on(hg:o.guard=some (j,b))(hj:(ops[j]?).bind (·.dst)=some t)(M:look L t=some (.bool b)):p8 N ops o L:=λa E=>by
 simp [Region.wanted,hg,bn2 E hj M]
theorem y4.off(hg:o.guard=some (j,b))(hj:(ops[j]?).bind (·.dst)=some t)(M:look L t=some (.bool (!b))):y4 N ops o L:=λa E=>by
 simp only [Region.wanted,hg,bn2 E hj M]
 cases b<;>rfl
theorem y4.und(E:o.guard=some (j,b))(hj:(ops[j]?).bind (·.dst)=some t)(M:look L t=some undef):y4 N ops o L:=λa ha=>by
 simp only [Region.wanted,E]
 have h:=ha.get t _ M
 simp [yielded,hj,h,undef]
theorem G.nil(h:V κ N Q .normal L I):G P κ N ops Q [] L I:=λa w M hs=>h a w M hs
theorem G.read(hw:p8 N ops o L)(hd:o.dst=some d)(hN:Nat.blt d N.n=true)(E:j0 P κ N o L I v)(h:G P κ N ops Q rest ((d,v)::L) I):G P κ N ops Q (o::rest) L I:=
 λa w M hs=>by
  unfold wpList
  rw [By (hw a M)]
  refine .inl ?_
  simp only [Oper.wp,E a w M hs,Oper.upon,hd]
  exact h _ w (M.put d hN v) hs
theorem G.eff{R:Env->List Item->Prop}(hw:p8 N ops o L)(he:Eff P κ N Q o L I R)(h:∀L' I',R L' I'->G P κ N ops Q rest L' I'):G P κ N ops Q (o::rest) L I:=
 λa w ha hs=>by
  unfold wpList
  rw [By (hw a ha)]
  refine .inl<|Oper.wp_mono (λa' w' ⟨L',I',hR,E,M⟩=>h L' I' hR a' w' E M)<|he a w ha hs
theorem G.pass(E:y4 N ops o L)(hd:o.dst=some d)(hN:Nat.blt d N.n=true)(h:G P κ N ops Q rest ((d,undef)::L) I):G P κ N ops Q (o::rest) L I:=
 λa w M hs=>by
  unfold wpList
  rw [An (by simp [E a M])]
  rw [hd]
  exact h _ w (M.put d hN _) hs
theorem W.drawn(M:P.follows .mixedOrders=true)(h:A P κ N l.toArray Q l.toArray.size (Array.replicate l.toArray.size false) L I) :
  W P κ N (.region id l.toArray true) Q L I:=λa w E hs=>bm0 M (h a _ E hs.drew)
theorem A.hold(J:List Item)(stop:Nat)(h:D P κ N ops Q J stop fuel M L I):A P κ N ops Q fuel M L I:=λa w E hs=>bn3 _ _ _ _ (h a w E hs)
theorem A.done(E:Region.ready .any ops M=[])(h:V κ N Q .normal L I):A P κ N ops Q fuel M L I:=λa w ha hs=>wpAny_done E (h a w ha hs) _
theorem D.done{stop:Nat}(E:Region.ready .any ops M=[])(h:V κ N Q .normal L I):D P κ N ops Q J stop fuel M L I:=
 λa w ha hs=>cm5 E (h a w ha hs) _
theorem D.stop{stop:Nat}(E:Region.ready .any ops M=[stop])(h:A P κ N ops Q (fuel+1) M L I):D P κ N ops Q J stop (fuel+1) M L I:=
 λa w ha hs=>cm4 E (h a w ha hs)
theorem D.read{stop:Nat}(i:Nat)(hi:ops[i]? = some o)(ad:Region.noSelect ops=true)(hf:Region.free .any ops M i=true)
  (hr:(Region.ready .any ops M).contains i=true) (ah:Nat.beq i stop=false) (ae:P7 .any ops stop i=true) (hQ:∀c a u w,Q (.panic c) (a.put o.dst u) w->Q (.panic c) a w) (hw:p8 N ops o L) (hd:o.dst=some d) (hN:Nat.blt d N.n=true)
  (hJ:Fit κ I J) (E:j0 P κ N o L J v) (h:D P κ N ops Q J stop fuel (M.setIfInBounds i true) ((d,v)::L) I):D P κ N ops Q J stop (fuel+1) M L I:=λa w ha hs=>by
 refine bd1 hi ad hf hr ah ae (λc a w=>hQ c a v w) (.inl ⟨hw a ha,λw' ab=>E a w' ha ab⟩) (hJ w hs) ?_
 have aa:=ha.put d hN v
 rw [←hd] at aa
 exact h _ w aa hs
theorem D.pass{stop:Nat}(i:Nat)(hi:ops[i]? = some o)(aa:Region.noSelect ops=true)(hf:Region.free .any ops M i=true)
  (hr:(Region.ready .any ops M).contains i=true) (ad:Nat.beq i stop=false) (ab:P7 .any ops stop i=true) (hQ:∀c a u w,Q (.panic c) (a.put o.dst u) w->Q (.panic c) a w) (hw:y4 N ops o L) (hd:o.dst=some d) (hN:Nat.blt d N.n=true)
  (hJ:Fit κ I J) (h:D P κ N ops Q J stop fuel (M.setIfInBounds i true) ((d,undef)::L) I):D P κ N ops Q J stop (fuel+1) M L I:=λa w ha hs=>by
 refine bd1 hi aa hf hr ad ab (λc a w=>hQ c a undef w) (.inr ⟨hw a ha,rfl⟩) (hJ w hs) ?_
 have E:=ha.put d hN undef
 rw [←hd] at E
 exact h _ w E hs
def Step(P:Program)(κ:Ctx)(N:Frm)(ops:Array Oper)(Q:Exit->Act->World->Prop)(J:List Item)(stop fuel:Nat)(listed:Array Bool)(L:Env)(I:List Item)(i:Nat):Prop:=
 ∀a w,Ag N a L->Sep κ w I->wpOp P ops Q i (λa' w'=>Sep κ w' J/\ag9 P .any ops Q (λw=>Sep κ w J) stop fuel (listed.setIfInBounds i true) a' w') a w
theorem D.step{stop:Nat}{rs:List Nat}(hr:Region.ready .any ops M=rs)(aa:rs.isEmpty=false)(E:(rs==[stop])=false)(h:∀i∈rs,Step P κ N ops Q J stop fuel M L I i):D P κ N ops Q J stop (fuel+1) M L I:=
 λa w ha hs=>dc3 hr aa E λi hi=>h i hi a w ha hs
theorem gx6{p:Nat->Prop}(h:p i):∀j∈[i],p j:=λj hj=>(Gj.1 hj)▸h
theorem all2{p:Nat->Prop}{l:List Nat}(h:p i)(M:∀j∈l,p j):∀j∈i::l,p j:=λj hj=>by
 rcases Gh.1 hj with rfl|hj
 ·exact h
 exact M j hj
theorem Step.eff{stop:Nat}{R:Env->List Item->Prop}(hi:ops[i]? = some o)(hw:p8 N ops o L)(he:Eff P κ N Q o L I R)
  (h:∀L' I',R L' I'->Fit κ I' J/\D P κ N ops Q J stop fuel (M.setIfInBounds i true) L' I'):Step P κ N ops Q J stop fuel M L I i:=λa w ha hs=>by
 unfold wpOp
 simp only [hi,hw a ha,Ll]
 exact .inl<|Oper.wp_mono (λa' w' ⟨L',I',hR,aa,E⟩=>⟨(h L' I' hR).1 w' E,(h L' I' hR).2 a' w' aa E⟩)<|he a w ha hs
theorem Step.read{stop:Nat}(hi:ops[i]? = some o)(hw:p8 N ops o L)(hd:o.dst=some d)(hN:Nat.blt d N.n=true)(hr:j0 P κ N o L I v)(hf:Fit κ I J)
  (h:D P κ N ops Q J stop fuel (M.setIfInBounds i true) ((d,v)::L) I):Step P κ N ops Q J stop fuel M L I i:=λa w ha hs=>by
 unfold wpOp
 simp only [hi,hw a ha,Ll,Oper.wp,hr a w ha hs,Oper.upon]
 have E:=ha.put d hN v
 rw [←hd] at E
 exact .inl ⟨hf w hs,h _ w E hs⟩
theorem A.eff{R:Env->List Item->Prop}(hr:Region.ready .any ops M=[i])(hi:ops[i]? = some o)(hw:p8 N ops o L)(he:Eff P κ N Q o L I R)
  (h:∀L' I',R L' I'->A P κ N ops Q fuel (M.setIfInBounds i true) L' I'):A P κ N ops Q (fuel+1) M L I:=λa w ha hs=>by
 refine ⟨λh0=>(by rw [hr] at h0;cases h0),λj hj=>?_⟩
 rw [hr] at hj
 obtain rfl:j=i:=by simpa using hj
 unfold wpOp
 simp only [hi,hw a ha,Ll]
 exact .inl<|Oper.wp_mono (λa' w' ⟨L',I',hR,aa,E⟩=>h L' I' hR a' w' aa E)<|he a w ha hs
theorem A.read(hr:Region.ready .any ops M=[i])(hi:ops[i]? = some o)(hw:p8 N ops o L)(hd:o.dst=some d)(hN:Nat.blt d N.n=true)(E:j0 P κ N o L I v)
  (h:A P κ N ops Q fuel (M.setIfInBounds i true) ((d,v)::L) I):A P κ N ops Q (fuel+1) M L I:=λa w ha hs=>by
 refine ⟨λh0=>(by rw [hr] at h0;cases h0),λj hj=>?_⟩
 rw [hr] at hj
 obtain rfl:j=i:=by simpa using hj
 unfold wpOp
 simp only [hi,hw a ha,Ll,Oper.wp,E a w ha hs,Oper.upon]
 have aa:=ha.put d hN v
 rw [←hd] at aa
 exact .inl<|h _ w aa hs
theorem Ag.ai7{v':Value}(E:Ag N a L)(hl:look L d=some v)(h:v=v'):Ag N a ((d,v')::L):=
 ⟨E.defers,E.size,λt u M=>by
  rw [Z0] at M
  by_cases ht:d=t
  ·subst ht
   simp only [Ll,Ka] at M
   rw [←M,←h]
   exact E.get d v hl
  simp only [ht,Me] at M
  exact E.get t u M⟩
theorem G.split{p:Prop}[Decidable p](M:look L d=some (.bool (decide p)))(h1:p->G P κ N ops Q rest ((d,.bool true)::L) I)(h2:¬p->G P κ N ops Q rest ((d,.bool false)::L) I):G P κ N ops Q rest L I:=λa w E hs=>by
 by_cases hp:p
 ·exact h1 hp a w (E.ai7 M<|by simp [hp]) hs
 exact h2 hp a w (E.ai7 M<|by simp [hp]) hs
theorem G.bn8(M:look L d=some (.bool b))(h1:b=true->G P κ N ops Q rest ((d,.bool true)::L) I)(h2:b=false->G P κ N ops Q rest ((d,.bool false)::L) I):G P κ N ops Q rest L I:=λa w E hs=>by
 cases b with
 |true=>exact h1 rfl a w (E.ai7 M rfl) hs
 |false=>exact h2 rfl a w (E.ai7 M rfl) hs
theorem D.split{stop:Nat}{p:Prop}[Decidable p](E:look L d=some (.bool (decide p)))(h1:p->D P κ N ops Q J stop fuel M ((d,.bool true)::L) I)(h2:¬p->D P κ N ops Q J stop fuel M ((d,.bool false)::L) I):D P κ N ops Q J stop fuel M L I:=λa w ha hs=>by
 by_cases hp:p
 ·exact h1 hp a w (ha.ai7 E<|by simp [hp]) hs
 exact h2 hp a w (ha.ai7 E<|by simp [hp]) hs
theorem D.bn8{stop:Nat}(E:look L d=some (.bool b))(h1:b=true->D P κ N ops Q J stop fuel M ((d,.bool true)::L) I)(h2:b=false->D P κ N ops Q J stop fuel M ((d,.bool false)::L) I):D P κ N ops Q J stop fuel M L I:=λa w ha hs=>by
 cases b with
 |true=>exact h1 rfl a w (ha.ai7 E rfl) hs
 |false=>exact h2 rfl a w (ha.ai7 E rfl) hs
theorem gj0{m n:Int}(h:look L k=some (.int .i64 m))(e:m=n):look L k=some (.int .i64 n):=by rw [h,e]
theorem fi6{u:Value}(h:look L k=some u)(e:u=v):look L k=some v:=by rw [h,e]
end
end Go.Sl
