/- A part of the proofs of statements of this seat: contracts of functions, and the plain laws that they lean on. No conditions. -/
import Derived.Test.YtoagcglbkeomgaaGreatDoorS15
set_option linter.unusedVariables false
set_option linter.unusedSimpArgs false
set_option linter.unusedSectionVars false
namespace Go.Sl
section
variable {n:Nat}{e e':Nat->Nat->Bool}{u v:Nat}
def triT(n:Nat)(e:Nat->Nat->Bool)(w:Nat):Int:=sumN n λx=>sumN n λy=>ind (e x y&&(e w x&&e w y))
theorem sumN_2p{p q:Nat}(Z:p<n)(M:q<n)(c d:Int)(g:Nat->Int):sumN n (λx=>g x+((if x=p then c else 0)+(if x=q then d else 0)))=sumN n g+(c+d):=by
 rw [sumN_add,sumN_add,sumN_at Z,sumN_at M]
theorem MoreA.tri_oth(h:MoreA n e e' u v){w:Nat}(w1:w≠u)(w2:w≠v):triT n e' w=triT n e w+2*ind (e u w&&e v w):=by
 have M:∀x,sumN n (λy=>ind<|e' x y&&(e' w x&&e' w y))=sumN n (λy=>ind<|e x y&&(e w x&&e w y))+((if x=u then ind (e u w&&e v w) else 0)+(if x=v then ind (e u w&&e v w) else 0)):=λx=>by
  have Z:∀z,e' w z=e w z:=λz=>h.oth (.inl w1) (.inl w2)
  by_cases hx:x=u
  ·subst hx
   rw [if_pos rfl,if_neg h.ne,Int.add_zero,sumN_upd h.lv (g:=λy=>ind<|e x y&&(e w x&&e w y)) λj _ hj=>by rw [Z,Z,h.oth (.inr hj)<|.inl h.ne]]
   rw [Z,Z,h.uv.1,h.no,h.adj.sym x w,h.adj.sym v w,Bool.true_and,Bool.false_and,ind_f];omega
  by_cases hv:x=v
  ·subst hv
   rw [if_neg hx,if_pos rfl,Int.zero_add,sumN_upd h.lu (g:=λy=>ind<|e x y&&(e w x&&e w y)) λj _ hj=>by rw [Z,Z,h.oth (.inl hx)<|.inr hj]]
   rw [Z,Z,h.uv.2,h.no',h.adj.sym x w,h.adj.sym u w,Bool.true_and,Bool.false_and,ind_f,Bool.and_comm];omega
  rw [if_neg hx,if_neg hv]
  rw [sumN_congr n λy _=>by rw [Z,Z,h.oth (x:=x) (y:=y) (.inl hx)<|.inl hv]];omega
 unfold triT
 rw [sumN_congr n λx _=>M x,sumN_2p h.lu h.lv];omega
theorem MoreA.tri_u(h:MoreA n e e' u v):triT n e' u=triT n e u+2*coN n e u v:=by
 have M:∀x y,ind (e' x y&&(e' u x&&e' u y))=ind (e x y&&(e u x&&e u y))+((if x=v then ind (e u y&&e v y) else 0)+(if y=v then ind (e u x&&e v x) else 0)):=λx y=>by
  by_cases hx:x=v
  ·subst hx
   rw [if_pos rfl,h.uv.1,h.no]
   by_cases hy:y=x
   ·subst hy;rw [h.adj'.irr,h.adj.irr,h.no];simp [ind]
   rw [if_neg hy]
   by_cases hu:y=u
   ·subst hu;rw [h.adj'.irr,h.adj.irr];simp [ind]
   rw [h.oth (x:=x) (y:=y) (.inl h.ne.symm) (.inr hu),h.oth (x:=u) (y:=y) (.inr hy)<|.inl h.ne,Bool.true_and,Bool.false_and,Bool.and_false,ind_f,Bool.and_comm];omega
  rw [if_neg hx,h.oth (x:=u) (y:=x) (.inr hx)<|.inl h.ne]
  by_cases hy:y=v
  ·subst hy
   rw [if_pos rfl,h.uv.1,h.no]
   by_cases hu:x=u
   ·subst hu;rw [h.adj.irr];simp [ind]
   rw [h.oth (x:=x) (y:=y) (.inl hu) (.inl hx),h.adj.sym x y,Bool.and_true,Bool.and_false,Bool.and_false,ind_f,Bool.and_comm];omega
  rw [if_neg hy,h.oth (x:=u) (y:=y) (.inr hy)<|.inl h.ne,h.oth (x:=x) (y:=y) (.inr hy)<|.inl hx];omega
 unfold triT
 rw [sumN_congr n λx _=>sumN_congr n λy _=>M x y]
 have h2:∀x,sumN n (λy=>ind (e x y&&(e u x&&e u y))+((if x=v then ind (e u y&&e v y) else 0)+(if y=v then ind (e u x&&e v x) else 0)))=sumN n (λy=>ind<|e x y&&(e u x&&e u y))+((if x=v then coN n e u v else 0)+ind (e u x&&e v x)):=λx=>by
  rw [sumN_add,sumN_add,sumN_at h.lv]
  congr 2
  by_cases hx:x=v
  ·rw [if_pos hx];unfold coN;rw [if_neg h.ne];exact sumN_congr n λy _=>if_pos hx
  rw [if_neg hx];exact sumN_eq_zero n λy _=>if_neg hx
 rw [sumN_congr n λx _=>h2 x,sumN_add,sumN_add,sumN_at h.lv]
 have Z:sumN n (λx=>ind<|e u x&&e v x)=coN n e u v:=by unfold coN;rw [if_neg h.ne]
 rw [Z];omega
theorem MoreA.tri_v(h:MoreA n e e' u v):triT n e' v=triT n e v+2*coN n e u v:=by rw [h.swap.tri_u,coN_sym h.adj]
theorem MoreA.tri(h:MoreA n e e' u v)(w:Nat):triT n e' w=triT n e w+2*ind (e u w&&e v w)+((if w=u then 2*coN n e u v else 0)+(if w=v then 2*coN n e u v else 0)):=by
 by_cases w1:w=u
 ·subst w1;rw [h.tri_u,if_pos rfl,if_neg h.ne,h.adj.irr,Bool.false_and,ind_f];omega
 by_cases w2:w=v
 ·subst w2;rw [h.tri_v,if_neg w1,if_pos rfl,h.adj.irr,Bool.and_false,ind_f];omega
 rw [h.tri_oth w1 w2,if_neg w1,if_neg w2];omega
theorem sumN_mul2(m:Nat)(g:Nat->Int):sumN m (λk=>2*g k)=2*sumN m g:=by
 induction m with
 |zero=>rfl
 |succ m ih=>show sumN m _+2*g m=2*(sumN m g+g m);rw [ih];omega
theorem MoreA.tri_all(h:MoreA n e e' u v):sumN n (triT n e')=sumN n (triT n e)+6*coN n e u v:=by
 rw [sumN_congr n λw _=>h.tri w,sumN_2p h.lu h.lv,sumN_add,sumN_mul2]
 have Z:sumN n (λx=>ind<|e u x&&e v x)=coN n e u v:=by unfold coN;rw [if_neg h.ne]
 rw [Z];omega
def degN(n:Nat)(e:Nat->Nat->Bool)(v:Nat):Int:=sumN n λx=>ind (e v x)
theorem MoreA.deg(h:MoreA n e e' u v)(w:Nat):degN n e' w=degN n e w+ind (decide (w=u)||decide (w=v)):=by
 unfold degN
 by_cases hu:w=u
 ·subst hu
  rw [decide_eq_true rfl,Bool.true_or,ind_t,sumN_upd h.lv (g:=λx=>ind<|e w x) λj _ Z=>by rw [h.oth (.inr Z) (.inl h.ne)],h.uv.1,h.no];rfl
 by_cases hv:w=v
 ·subst hv
  rw [decide_eq_true rfl,Bool.or_true,ind_t,sumN_upd h.lu (g:=λx=>ind<|e w x) λj _ Z=>by rw [h.oth (.inl hu) (.inr Z)],h.uv.2,h.no'];rfl
 rw [decide_eq_false hu,decide_eq_false hv,Bool.or_false,ind_f,Int.add_zero]
 exact sumN_congr n λx _=>by rw [h.oth (.inl hu) (.inl hv)]
theorem MoreA.wedges(h:MoreA n e e' u v):sumN n (λw=>prs (degN n e' w))=sumN n (λw=>prs (degN n e w))+(degN n e u+degN n e v):=by
 rw [←sumN_2p h.lu h.lv]
 refine sumN_congr n λw _=>?_
 rw [h.deg,prs_ind]
 by_cases hu:w=u
 ·subst hu;rw [if_pos rfl,if_neg h.ne,decide_eq_true rfl,Bool.true_or,if_pos rfl];omega
 by_cases hv:w=v
 ·subst hv;rw [if_neg hu,if_pos rfl,decide_eq_true rfl,Bool.or_true,if_pos rfl];omega
 rw [if_neg hu,if_neg hv,decide_eq_false hu,decide_eq_false hv,Bool.or_false,if_neg<|by decide];omega
end
end Go.Sl
namespace Go.Sl
open Go.Proofs
set_option maxRecDepth 4000
variable{x y:Int}
section
variable {nd:Int}{es es':List Pt}{u v:Int}
theorem mem_nb(Z:GrOk nd es):y∈nbG nd es x↔(⟨x,y⟩:Pt)∈es\/(⟨y,x⟩:Pt)∈es:=by
 unfold nbG
 rw [if_neg (by rw [checkG_ok.2 Z];decide),mem_ofL,mem_nbL]
theorem nb_asc(nd:Int)(es:List Pt)(x:Int):(nbG nd es x).Pairwise (λZ M:Int=>Z<M):=by
 rw [←nb_eq];exact listB_asc _
theorem nb_nodup(nd:Int)(es:List Pt)(x:Int):(nbG nd es x).Nodup:=(nb_asc nd es x).imp λh=>by omega
theorem nbe_rng(Z:GrOk nd es)(h:y∈nbG nd es x):(0<=x/\x<nd)/\(0<=y/\y<nd)/\x≠y:=by
 rcases (mem_nb Z).1 h with h|h
 ·have:=Z.edge _ h;simp only at this;omega
 have:=Z.edge _ h;simp only at this;omega
theorem nb_sym(Z:GrOk nd es)(h:y∈nbG nd es x):x∈nbG nd es y:=(mem_nb Z).2 ((mem_nb Z).1 h).symm
structure OneE (nd:Int) (es es':List Pt) (u v:Int):Prop where
 ok:GrOk nd es
 ok':GrOk nd es'
 ends:endsP nd u v
 no:edgeP u v∉es
 mem:∀p,p∈es'↔p∈es\/p=edgeP u v
theorem OneE.add(M:GrOk nd es)(Z:endsP nd u v)(hn:edgeP u v∉es):OneE nd es (insB Pt.lt es (edgeP u v)) u v:=⟨M,M.add Z,Z,hn,λp=>by rw [mem_insB];exact Or.comm⟩
theorem OneE.rem(Z:GrOk nd es)(M:endsP nd u v)(hm:edgeP u v∈es):OneE nd (without es (edgeP u v)) es u v:=by
 refine ⟨Z.rem,Z,M,λh=>?_,λp=>?_⟩
 ·unfold without at h
  exact of_decide_eq_true (List.mem_filter.1 h).2 rfl
 unfold without
 rw [List.mem_filter,decide_eq_true_eq]
 constructor
 ·intro h
  by_cases e:p=edgeP u v
  ·exact .inr e
  exact .inl ⟨h,e⟩
 rintro (h|h)
 ·exact h.1
 rw [h];exact hm
theorem edgeP_mem{nd:Int}(Z:endsP nd u v)(x y:Int):((⟨x,y⟩:Pt)=edgeP u v\/(⟨y,x⟩:Pt)=edgeP u v)↔(x=u/\y=v)\/(x=v/\y=u):=by
 rcases edgeP_of Z with ⟨h,_⟩|⟨h,_⟩
 ·rw [h,Dj,Dj];simp only;omega
 rw [h,Dj,Dj];simp only;omega
theorem OneE.nb(h:OneE nd es es' u v)(x y:Int):y∈nbG nd es' x↔y∈nbG nd es x\/(x=u/\y=v)\/(x=v/\y=u):=by
 rw [mem_nb h.ok',mem_nb h.ok,h.mem,h.mem,←edgeP_mem h.ends]
 constructor
 ·rintro ((a|b)|(a|b))
  ·exact .inl<|.inl a
  ·exact .inr<|.inl b
  ·exact .inl<|.inr a
  exact .inr<|.inr b
 rintro ((a|a)|(b|b))
 ·exact .inl<|.inl a
 ·exact .inr<|.inl a
 ·exact .inl<|.inr b
 exact .inr<|.inr b
theorem OneE.nuv(h:OneE nd es es' u v):v∉nbG nd es u/\u∉nbG nd es v:=by
 have Z:∀a b:Int,((⟨a,b⟩:Pt)∈es\/(⟨b,a⟩:Pt)∈es)->edgeP a b∈es:=λa b hh=>by
  rcases hh with hh|hh
  ·have:=h.ok.edge _ hh
   simp only at this
   unfold edgeP
   rw [if_neg om,if_pos om];exact hh
  have:=h.ok.edge _ hh
  simp only at this
  unfold edgeP
  rw [if_pos om,if_neg om];exact hh
 exact ⟨λM=>h.no<|Z _ _<|(mem_nb h.ok).1 M,λM=>h.no<|by rw [edgeP_swap];exact Z _ _<|(mem_nb h.ok).1 M⟩
def NodeR(nd x:Int):Prop:=0<=x/\x<nd
theorem OneE.more(h:OneE nd es es' u v):MoreE (NodeR nd) (nbG nd es) (nbG nd es') u v:=by
 have Z:=h.ends
 unfold endsP at Z
 exact moreE_of ⟨Z.1,Z.2.2.1⟩ ⟨Z.2.1,Z.2.2.2.1⟩ Z.2.2.2.2 (nb_nodup nd es) (nb_nodup nd es') h.nuv.1 h.nuv.2 h.nb
theorem cntN_meet(Z:GrOk nd es)(l:List Int)(x:Int):cntN (nbG nd es) (λy=>decide (y∈l)) x=(meetL (nbG nd es x) l).length:=by
 unfold cntN
 refine ((List.perm_ext_iff_of_nodup ((nb_nodup nd es x).filter _) ?_).2 λy=>?_).length_eq
 ·unfold meetL;exact ((ofL_asc _).imp λh=>by omega:(ofL<|nbG nd es x).Nodup).filter _
 rw [mem_meetL,List.mem_filter,decide_eq_true_eq]
theorem coreN_is(M:GrOk nd es):IsCore (NodeR nd) (nbG nd es) λx=>(e_ (coreN nd es) x).toNat:=by
 intro x hx k
 have hr:=M.rng
 show k<=(e_ (coreN nd es) x).toNat↔_
 constructor
 ·intro hk
  by_cases h0:k=0
  ·subst h0
   exact ⟨λy=> @decide (NodeR nd y) (Classical.propDecidable _),⟨λy Z=> @of_decide_eq_true _ (Classical.propDecidable _) Z,λ_ _=>Nat.zero_le _⟩, @decide_eq_true _ (Classical.propDecidable _) hx⟩
  obtain ⟨W,h1,h2,h3⟩:=core_some M (k:=k) om
  refine ⟨λy=>decide<|y∈eo W,⟨λy Z=>?_,λy Z=>?_⟩,decide_eq_true<|h3 x hx.1 hx.2 om⟩
  ·have Z:=of_decide_eq_true Z;exact ⟨(Ey Z).1,h2 y Z⟩
  have Z:=of_decide_eq_true Z
  rw [cntN_meet M,←deg_meet M (W:=W) (λz=>Iff.rfl) (Ey Z).1 (h2 y Z)]
  exact h1 y Z
 rintro ⟨X,hX,ad⟩
 have hm:∀y,y∈sideL nd.toNat X↔X y=true:=λy=>by
  rw [mem_sideL]
  exact ⟨λh=>h.2,λh=>⟨by have:=hX.dom y h;unfold NodeR at this;omega,h⟩⟩
 have hl:=mask_list hr.2 (l:=sideL nd.toNat X) λy Z=>by have:=hX.dom y ((hm y).1 Z);unfold NodeR at this;exact this
 have hc:ClosB (ek nd es) k (maskB<|sideL nd.toNat X):=λy Z=>by
  have aa:=(hm y).1 ((hl y).1 Z)
  have ab:=hX.dom y aa
  rw [deg_meet M hl ab.1 ab.2,←cntN_meet M]
  refine Nat.le_trans (hX.deg y aa)<|cntN_mono λz _ hz=>decide_eq_true<|(hm z).2 hz
 have:=core_clos M hc (λy Z=>(hX.dom y<|(hm y).1 ((hl y).1 Z)).2) ((hl x).2 ((hm x).2 ad))
 omega
theorem IsCore.uniq{V:Int->Prop}{nb:Int->List Int}{n m:Int->Nat}(h:IsCore V nb n)(M:IsCore V nb m)(Z:V x):n x=m x:=
 Nat.le_antisymm ((M x Z _).2 ((h x Z _).1 (Nat.le_refl _))) ((h x Z _).2 ((M x Z _).1 (Nat.le_refl _)))
end
end Go.Sl
namespace Go.Sl
variable{m:Int}{l:List Ev}
structure BfS where
 lt:Int
 mr:Int
 ws:List Ev
structure BfOk (bd:Int) (s:BfS):Prop where
 bd:0<=bd/\bd<=1048576
 lt:s.lt<=1048576
 mr : -1<=s.mr/\s.mr<=s.lt
 chk:∀e∈s.ws,checkE e=0
 rng:∀e∈s.ws,s.mr<e.tm/\e.tm<=s.lt
 asc:s.ws.Pairwise λa b=>a.tm<=b.tm
def relM(bd:Int)(s:BfS)(e:Ev):Int:=max s.lt e.tm - bd - 1
def pushW(s:BfS)(e:Ev):List Ev:=insertG evC s.ws e
def upTo(m:Int)(l:List Ev):List Ev:=l.filter λx=>decide (x.tm<=m)
def beyond(m:Int)(l:List Ev):List Ev:=l.filter λx=> !decide (x.tm<=m)
def BfS.push(bd:Int)(s:BfS)(e:Ev):BfS:=⟨max s.lt e.tm,max s.mr (relM bd s e),beyond (relM bd s e) (pushW s e)⟩
def BfS.out(bd:Int)(s:BfS)(e:Ev):List Ev:=upTo (relM bd s e) (pushW s e)
def BfS.flush(s:BfS):BfS:=⟨s.lt,s.lt,[]⟩
theorem push_perm(s:BfS)(e:Ev):(pushW s e).Perm (e::s.ws):=by
 unfold pushW insertG
 exact insAt_permG _ _ _
theorem mem_push{s:BfS}{e x:Ev}:x∈pushW s e↔x=e\/x∈s.ws:=by rw [(push_perm s e).mem_iff,List.mem_cons]
theorem mem_upTo{x:Ev}:x∈upTo m l↔x∈l/\x.tm<=m:=by unfold upTo;rw [List.mem_filter,decide_eq_true_eq]
theorem mem_beyond{x:Ev}:x∈beyond m l↔x∈l/\m<x.tm:=by
 unfold beyond;rw [List.mem_filter,Bool.not_eq_true',decide_eq_false_iff_not]
 exact and_congr_right λ_=>Int.not_le
section
variable {bd:Int}{s:BfS}{e:Ev}
theorem BfOk.asc'(h:BfOk bd s):(pushW s e).Pairwise λa b=>a.tm<=b.tm:=insert_asc h.asc e
theorem BfOk.push(h:BfOk bd s)(Z:checkE e=0)(ht:s.mr<e.tm)(hT:e.tm<=1048576):BfOk bd (s.push bd e):=by
 have hb:=h.bd
 have hl:=h.lt
 have hm:=h.mr
 refine ⟨h.bd,?_,?_,λx hx=>?_,λx hx=>?_,h.asc'.sublist List.filter_sublist⟩
 ·show max s.lt e.tm<=1048576;omega
 ·show -1<=max s.mr (relM bd s e)/\max s.mr (relM bd s e)<=max s.lt e.tm
  unfold relM;omega
 ·rcases mem_push.1 (mem_beyond.1 hx).1 with rfl|hx
  ·exact Z
  exact h.chk x hx
 show max s.mr (relM bd s e)<x.tm/\x.tm<=max s.lt e.tm
 obtain ⟨M,h2⟩:=mem_beyond.1 hx
 rcases mem_push.1 M with rfl|h3
 ·omega
 have:=h.rng x h3;omega
theorem BfOk.all(h:BfOk bd s):upTo s.lt s.ws=s.ws:=List.filter_eq_self.2 λx Z=>decide_eq_true (h.rng x Z).2
theorem BfOk.none(h:BfOk bd s):beyond s.lt s.ws=[]:=List.filter_eq_nil_iff.2 λx Z=>by have:=(h.rng x Z).2;simp;omega
theorem BfOk.out(h:BfOk bd s)(ht:s.mr<e.tm):(∀x∈s.out bd e,s.mr<x.tm/\x.tm<=(s.push bd e).mr)/\(s.out bd e).Pairwise λa b=>a.tm<=b.tm:=by
 refine ⟨λx Z=>?_,h.asc'.sublist List.filter_sublist⟩
 obtain ⟨M,h2⟩:=mem_upTo.1 Z
 show s.mr<x.tm/\x.tm<=max s.mr (relM bd s e)
 rcases mem_push.1 M with rfl|h3
 ·omega
 have:=h.rng x h3;omega
theorem push_len(s:BfS)(e:Ev):(pushW s e).length=s.ws.length+1:=by rw [(push_perm s e).length_eq];rfl
end
end Go.Sl
namespace Go.Sl
theorem ageL_out{wd mo T:Int}:∀(n:Nat) (xs:List Lk) (out:List Ev),xs.length<=n->ageL wd mo T xs out=((ageL wd mo T xs []).1,out++(ageL wd mo T xs []).2)
 |0,xs,out,h=>by
  have Z:¬(0<xs.length/\minT xs+wd<=T):=by omega
  rw [ageL_stop Z,ageL_stop Z,List.append_nil]
 |n+1,xs,out,h=>by
  by_cases Z:0<xs.length/\minT xs+wd<=T
  ·have M:=age_less (wd:=wd) (mo:=mo) Z.1
   unfold ageX at M
   rw [ageL_step Z,ageL_step (out:=[]) Z,ageL_out n _ (out++_) om,ageL_out n _ ([]++_) om,List.nil_append,List.append_assoc]
  rw [ageL_stop Z,ageL_stop Z,List.append_nil]
section
variable {kd wd mo bd:Int}
theorem evStep_out(xs:List Lk)(out:List Ev)(e:Ev):evStep kd wd mo (xs,out) e=((evStep kd wd mo (xs,[]) e).1,out++(evStep kd wd mo (xs,[]) e).2):=by
 have Z:agedL kd wd mo e.tm (xs,out)=((agedL kd wd mo e.tm (xs,[])).1,out++(agedL kd wd mo e.tm (xs,[])).2):=by
  unfold agedL
  by_cases h:kd=2
  ·rw [if_pos h,if_pos h];exact ageL_out _ _ _ (Nat.le_refl _)
  rw [if_neg h,if_neg h,List.append_nil]
 unfold evStep
 rw [Z]
 unfold windL
 by_cases h:kd=3
 ·rw [if_pos h,if_pos h,List.append_assoc,List.append_assoc,List.append_assoc]
 rw [if_neg h,if_neg h,List.append_assoc]
def relE(kd wd mo:Int)(S:List Lk)(l:List Ev):List Lk×List Ev:=l.foldl (evStep kd wd mo) (S,[])
theorem relE_out(l:List Ev):∀(S:List Lk) (out:List Ev),l.foldl (evStep kd wd mo) (S,out)=((relE kd wd mo S l).1,out++(relE kd wd mo S l).2):=by
 induction l with
 |nil=>intro S out;unfold relE;rw [List.foldl_nil,List.foldl_nil,List.append_nil]
 |cons e l ih=>
  intro S out
  unfold relE
  rw [List.foldl_cons,List.foldl_cons,evStep_out S out e]
  have e1:evStep kd wd mo (S,[]) e=((evStep kd wd mo (S,[]) e).1,(evStep kd wd mo (S,[]) e).2):=rfl
  rw [e1,ih,ih,List.append_assoc]
theorem relE_app(S:List Lk)(l m:List Ev):relE kd wd mo S (l++m)=((relE kd wd mo (relE kd wd mo S l).1 m).1,(relE kd wd mo S l).2++(relE kd wd mo (relE kd wd mo S l).1 m).2):=by
 conv=>lhs;unfold relE
 rw [List.foldl_append]
 have e1:l.foldl (evStep kd wd mo) (S,[])=((relE kd wd mo S l).1,(relE kd wd mo S l).2):=rfl
 rw [e1,relE_out]
theorem slide_rel(es:List Ev):slideS kd wd mo es=relE kd wd mo [] es:=rfl
def lastE(t:Int)(l:List Ev):Int:=l.foldl (λ_ e=>e.tm) t
theorem lastE_app(t:Int)(l m:List Ev):lastE t (l++m)=lastE (lastE t l) m:=List.foldl_append ..
structure EnS where
 b:BfS
 S:List Lk
 tm:Int
def EnS.rel(kd wd mo:Int)(k:EnS)(b:BfS)(l:List Ev):EnS:=⟨b,(relE kd wd mo k.S l).1,lastE k.tm l⟩
def EnS.feed(kd wd mo bd:Int)(k:EnS)(e:Ev):EnS:=k.rel kd wd mo (k.b.push bd e) (k.b.out bd e)
def EnS.fout(kd wd mo bd:Int)(k:EnS)(e:Ev):List Ev:=(relE kd wd mo k.S (k.b.out bd e)).2
def EnS.flush(kd wd mo:Int)(k:EnS):EnS:=k.rel kd wd mo k.b.flush k.b.ws
def EnS.xout(kd wd mo:Int)(k:EnS):List Ev:=(relE kd wd mo k.S k.b.ws).2
def EnS.next(kd wd mo bd:Int)(k:EnS)(e:Ev):EnS:=if e.tm<=k.b.mr then k else k.feed kd wd mo bd e
def EnS.nout(kd wd mo bd:Int)(k:EnS)(e:Ev):List Ev:=if e.tm<=k.b.mr then [] else k.fout kd wd mo bd e
def EnS.all(kd wd mo bd:Int)(k:EnS)(l:List Ev):EnS:=l.foldl (λk e=>k.next kd wd mo bd e) k
def BfS.next(bd:Int)(s:BfS)(e:Ev):BfS:=if e.tm<=s.mr then s else s.push bd e
def BfS.all(bd:Int)(s:BfS)(l:List Ev):BfS:=l.foldl (λs e=>s.next bd e) s
def BfS.outs(bd:Int):BfS->List Ev->List Ev
 |_,[]=>[]
 |s,e::l=>(if e.tm<=s.mr then [] else s.out bd e)++BfS.outs bd (s.next bd e) l
def BfS.lates(bd:Int):BfS->List Ev->Nat
 |_,[]=>0
 |s,e::l=>(if e.tm<=s.mr then 1 else 0)+BfS.lates bd (s.next bd e) l
def EnS.outs(kd wd mo bd:Int):EnS->List Ev->List Ev
 |_,[]=>[]
 |k,e::l=>k.nout kd wd mo bd e++EnS.outs kd wd mo bd (k.next kd wd mo bd e) l
theorem next_rel(k:EnS)(e:Ev):k.next kd wd mo bd e=k.rel kd wd mo (k.b.next bd e) (if e.tm<=k.b.mr then [] else k.b.out bd e)/\k.nout kd wd mo bd e=(relE kd wd mo k.S (if e.tm<=k.b.mr then [] else k.b.out bd e)).2:=by
 unfold EnS.next EnS.nout BfS.next
 by_cases h:e.tm<=k.b.mr
 ·rw [if_pos h,if_pos h,if_pos h,if_pos h];exact ⟨rfl,rfl⟩
 rw [if_neg h,if_neg h,if_neg h,if_neg h];exact ⟨rfl,rfl⟩
theorem all_rel:∀(l:List Ev) (k:EnS),k.all kd wd mo bd l=k.rel kd wd mo (k.b.all bd l) (BfS.outs bd k.b l)/\EnS.outs kd wd mo bd k l=(relE kd wd mo k.S (BfS.outs bd k.b l)).2
 |[],k=>⟨rfl,rfl⟩
 |e::l,k=>by
  obtain ⟨Z,h2⟩:=next_rel (kd:=kd) (wd:=wd) (mo:=mo) (bd:=bd) k e
  obtain ⟨h3,h4⟩:=all_rel l (k.next kd wd mo bd e)
  have M:(k.next kd wd mo bd e).b=k.b.next bd e:=by rw [Z];rfl
  constructor
  ·show (k.next kd wd mo bd e).all kd wd mo bd l=_
   rw [h3,M,Z]
   show (⟨_,_,_⟩:EnS)=⟨_,_,_⟩
   congr 1
   ·show (relE kd wd mo (relE kd wd mo k.S _).1 _).1=(relE kd wd mo k.S<|_++_).1
    rw [relE_app]
   show lastE (lastE k.tm _) _=lastE k.tm (_++_)
   rw [lastE_app]
  show k.nout kd wd mo bd e++EnS.outs kd wd mo bd (k.next kd wd mo bd e) l=_
  rw [h4,h2,M,Z]
  show _=(relE kd wd mo k.S<|_++_).2
  rw [relE_app];rfl
def runB(bd:Int)(l:List Ev):List Ev:=BfS.outs bd ⟨-1, -1,[]⟩ l++(BfS.all bd ⟨-1, -1,[]⟩ l).ws
def EnS.run(kd wd mo bd:Int)(l:List Ev):EnS:=((⟨⟨-1, -1,[]⟩,[],0⟩:EnS).all kd wd mo bd l).flush kd wd mo
theorem run_eq(l:List Ev):EnS.run kd wd mo bd l=(⟨⟨-1, -1,[]⟩,[],0⟩:EnS).rel kd wd mo (BfS.all bd ⟨-1, -1,[]⟩ l).flush (runB bd l):=by
 unfold EnS.run EnS.flush
 rw [(all_rel l _).1]
 show (⟨_,_,_⟩:EnS)=⟨_,_,_⟩
 unfold runB
 congr 1
 ·show (relE kd wd mo (relE kd wd mo [] _).1 _).1=(relE kd wd mo []<|_++_).1
  rw [relE_app];rfl
 show lastE (lastE 0 _) _=lastE 0 (_++_)
 rw [lastE_app];rfl
end
end Go.Sl
namespace Go.Sl
variable{l:List Ev}
section
variable {kd wd mo bd:Int}
theorem BfS.all_app(s:BfS)(l m:List Ev):s.all bd (l++m)=(s.all bd l).all bd m:=List.foldl_append ..
theorem BfS.outs_app:∀(l m:List Ev) (s:BfS),BfS.outs bd s (l++m)=BfS.outs bd s l++BfS.outs bd (s.all bd l) m
 |[],m,s=>rfl
 |e::l,m,s=>by
  show _++BfS.outs bd (s.next bd e) (l++m)=_++BfS.outs bd (s.next bd e) l++_
  rw [BfS.outs_app l m,List.append_assoc];rfl
theorem BfS.lates_app:∀(l m:List Ev) (s:BfS),BfS.lates bd s (l++m)=BfS.lates bd s l+BfS.lates bd (s.all bd l) m
 |[],m,s=>by show _=0+_;rw [Nat.zero_add];rfl
 |e::l,m,s=>by
  show _+BfS.lates bd (s.next bd e) (l++m)=_+BfS.lates bd (s.next bd e) l+_
  rw [BfS.lates_app l m,Nat.add_assoc];rfl
theorem BfOk.next{s:BfS}{e:Ev}(h:BfOk bd s)(M:checkE e=0)(Z:e.tm<=1048576):BfOk bd (s.next bd e):=by
 unfold BfS.next
 by_cases hl:e.tm<=s.mr
 ·rw [if_pos hl];exact h
 rw [if_neg hl];exact h.push M om Z
theorem BfOk.allB:∀{l:List Ev} {s:BfS},BfOk bd s->(∀e∈l,checkE e=0/\e.tm<=1048576)->BfOk bd (s.all bd l)
 |[],s,h,_=>h
 |e::l,s,h,hl=>(h.next (hl e List.mem_cons_self).1 (hl e List.mem_cons_self).2).allB λx Z=>hl x (List.mem_cons_of_mem _ Z)
theorem BfOk.open_(h:0<=bd/\bd<=1048576):BfOk bd ⟨-1, -1,[]⟩:=⟨h,by decide,by decide,(λe Z=>by cases Z),(λe Z=>by cases Z),List.Pairwise.nil⟩
theorem outs_asc:∀{l:List Ev} {s:BfS},BfOk bd s->(∀e∈l,checkE e=0/\e.tm<=1048576)->
  (BfS.outs bd s l).Pairwise (λa b=>a.tm<=b.tm)/\∀x∈BfS.outs bd s l,s.mr<x.tm/\x.tm<=(s.all bd l).mr
 |[],s,h,_=>⟨List.Pairwise.nil,λx hx=>by cases hx⟩
 |e::l,s,h,hl=>by
  have he:=hl e List.mem_cons_self
  have aa:∀x∈l,checkE x=0/\x.tm<=1048576:=λx hx=>hl x (List.mem_cons_of_mem _ hx)
  obtain ⟨h1,M⟩:=outs_asc (h.next he.1 he.2) aa
  have Z:∀(l:List Ev) (s:BfS),s.mr<=(s.all bd l).mr:=λl=>by
   induction l with
   |nil=>intro s;exact Int.le_refl _
   |cons x l ih=>
    intro s
    refine Int.le_trans ?_<|ih<|s.next bd x
    unfold BfS.next
    split
    ·exact Int.le_refl _
    show s.mr<=max s.mr _;omega
  have hm:=Z l (s.next bd e)
  show ((if e.tm<=s.mr then [] else s.out bd e)++BfS.outs bd (s.next bd e) l).Pairwise _/\∀x∈(if e.tm<=s.mr then [] else s.out bd e)++BfS.outs bd (s.next bd e) l,s.mr<x.tm/\x.tm<=((s.next bd e).all bd l).mr
  by_cases ht:e.tm<=s.mr
  ·rw [if_pos ht,List.nil_append]
   have hn:s.next bd e=s:=if_pos ht
   rw [hn] at h1 M ⊢
   exact ⟨h1,M⟩
  rw [if_neg ht]
  have hn:s.next bd e=s.push bd e:=if_neg ht
  rw [hn] at h1 M hm ⊢
  obtain ⟨h3,h4⟩:=h.out (e:=e) om
  refine ⟨List.pairwise_append.2 ⟨h4,h1,λa ha b hb=>?_⟩,λx hx=>?_⟩
  ·have:=h3 a ha;have:=M b hb;omega
  rcases List.mem_append.1 hx with hx|hx
  ·have:=h3 x hx;omega
  have:=M x hx
  have h5:s.mr<=(s.push bd e).mr:=by show s.mr<=max s.mr _;omega
  omega
theorem runB_asc(Z:0<=bd/\bd<=1048576)(hl:∀e∈l,checkE e=0/\e.tm<=1048576):(runB bd l).Pairwise λa b=>a.tm<=b.tm:=by
 have h0:=BfOk.open_ Z
 obtain ⟨h1,h2⟩:=outs_asc h0 hl
 have M:=h0.allB hl
 unfold runB
 refine List.pairwise_append.2 ⟨h1,M.asc,λa ha b Z=>?_⟩
 have:=(h2 a ha).2
 have:=(M.rng b Z).1
 omega
theorem mem_outs:∀{l:List Ev} {s:BfS} {x:Ev},x∈BfS.outs bd s l\/x∈(s.all bd l).ws->x∈s.ws\/x∈l
 |[],s,x,h=>h.elim (λh=>by cases h) .inl
 |e::l,s,x,h=>by
  have Z:x∈(if e.tm<=s.mr then [] else s.out bd e)\/x∈BfS.outs bd (s.next bd e) l\/x∈((s.next bd e).all bd l).ws:=h.elim (λh=>(List.mem_append.1 h).elim .inl λh=> .inr<|.inl h) λh=> .inr (.inr h)
  rcases Z with h|h
  ·split at h
   ·cases h
   rcases mem_push.1 (mem_upTo.1 h).1 with rfl|h
   ·exact .inr List.mem_cons_self
   exact .inl h
  rcases mem_outs h with h|h
  ·unfold BfS.next at h
   split at h
   ·exact .inl h
   rcases mem_push.1 (mem_beyond.1 h).1 with rfl|h
   ·exact .inr List.mem_cons_self
   exact .inl h
  exact .inr<|List.mem_cons_of_mem _ h
theorem mem_runB{x:Ev}(h:x∈runB bd l):x∈l:=by
 unfold runB at h
 rcases mem_outs (List.mem_append.1 h) with h|h
 ·cases h
 exact h
theorem EnS.all_app(k:EnS)(l m:List Ev):k.all kd wd mo bd (l++m)=(k.all kd wd mo bd l).all kd wd mo bd m:=List.foldl_append ..
end
end Go.Sl
namespace Go.Sl
variable{T last:Int}{S xs:List Lk}{out:List Ev}
structure StepR (nd kd wd mo last:Int) (S:List Lk) (e:Ev) (r:List Lk×List Ev):Prop where
 inv:SlI nd kd wd e.tm r.1
 st:r.1=r.2.foldl ep S
 fit:∀x∈r.2,FitOk nd x
 asc:r.2.Pairwise λa b=>a.tm<=b.tm
 rng:∀x∈r.2,last<=x.tm/\x.tm<=e.tm
 has:e∈r.2
 cnt:kd=3->(r.1.length:Int)<=mo
 len:r.1.length<=S.length+1/\r.2.length<=2*S.length+2
structure AgX (nd wd last T:Int) (S xs:List Lk) (out:List Ev):Prop where
 inv:SlI nd 2 wd last xs
 st:xs=out.foldl ep S
 fit:∀e∈out,FitOk nd e
 asc:out.Pairwise λa b=>a.tm<=b.tm
 le:∀e∈out,last<=e.tm/\e.tm<=T
 bef:∀e∈out,∀x∈xs,e.tm<=x.tm+wd
 sum:xs.length+out.length<=S.length
theorem AgX.step{nd wd mo:Int}(h:AgX nd wd last T S xs out)(h0:0<=last)(hT:T<=1048576)(hs:0<xs.length/\minT xs+wd<=T) :
  AgX nd wd last T S (xs.filter<|inW 2 wd mo (minT xs+wd) xs) (out++goneL 2 wd mo (minT xs+wd) xs):=by
 have hf:=h.inv.first rfl hs.1
 obtain ⟨⟨x0,ab,e0⟩,ad⟩:=minT_spec hs.1
 have hg:∀c∈goneL 2 wd mo (minT xs+wd) xs,c.tm=minT xs+wd:=λc M=>(gone_mem M).2
 refine ⟨h.inv.filter _,?_,λe he=>?_,List.pairwise_append.2 ⟨h.asc,?_,λa ha c M=>?_⟩,λe he=>?_,λe he x hx=>?_,?_⟩
 ·rw [List.foldl_append,←h.st,gone_steps h.inv.val]
 ·rcases List.mem_append.1 he with he|he
  ·exact h.fit e he
  exact gone_fit h.inv.val om e he
 ·unfold goneL
  rw [List.pairwise_map]
  exact pw_all (λa c=>Int.le_refl _) _
 ·rw [hg c M,e0];exact h.bef a ha x0 ab
 ·rcases List.mem_append.1 he with he|he
  ·exact h.le e he
  rw [hg e he];omega
 ·obtain ⟨aa,Z⟩:=List.mem_filter.1 hx
  rcases List.mem_append.1 he with he|he
  ·exact h.bef e he x aa
  rw [inW2] at Z
  have:=of_decide_eq_true Z
  rw [hg e he];omega
 have h1:=gone_len 2 wd mo (minT xs+wd) xs
 have h2:=h.sum
 rw [List.length_append];omega
theorem AgX.aged{nd wd mo:Int}(h:AgX nd wd last T S xs out)(h0:0<=last)(M:last<=T)(hT:T<=1048576) :
  AgX nd wd last T S (ageL wd mo T xs out).1 (ageL wd mo T xs out).2/\SlI nd 2 wd T (ageL wd mo T xs out).1:=by
 obtain ⟨Z,h2⟩:=ageL_ind (mo:=mo) (P:=λxs out=>AgX nd wd last T S xs out) (λxs out hs hP=>hP.step h0 hT hs) xs.length xs out (Nat.le_refl _) h
 exact ⟨Z,Z.inv.later M λ_=>h2⟩
theorem step_ok{nd kd wd mo:Int}{e:Ev}(h:SlI nd kd wd last S)(h0:0<=last)(hl:last<=e.tm)(Z:FitOk nd e)(hw:checkW kd wd mo=0):StepR nd kd wd mo last S e (evStep kd wd mo (S,[]) e):=by
 have aa:=stepL_len S e
 rcases checkW_cases hw with ⟨rfl,rfl,rfl⟩|⟨rfl,ab,rfl⟩|⟨rfl,rfl,hm⟩
 ·have hr:evStep 1 0 0 (S,[]) e=(ep S e,[e]):=rfl
  rw [hr]
  refine ⟨(h.later hl λM=>by cases M).step Z rfl (λM=>by cases M),rfl,λx hx=>?_,List.pairwise_singleton _ _,λx hx=>?_,List.mem_singleton.2 rfl,(λM=>by cases M),⟨aa,?_⟩⟩
  ·rw [List.mem_singleton.1 hx];exact Z
  ·rw [List.mem_singleton.1 hx];omega
  simp
 ·have hA:AgX nd wd last e.tm S S []:=⟨h,rfl,(λe Z=>by cases Z),List.Pairwise.nil,(λe Z=>by cases Z),(λe Z=>by cases Z),by simp⟩
  obtain ⟨hG,hI⟩:=hA.aged (mo:=0) h0 hl Z.tm.2
  have hr:evStep 2 wd 0 (S,[]) e=(ep (ageL wd 0 e.tm S []).1 e,(ageL wd 0 e.tm S []).2++[e]):=rfl
  rw [hr]
  generalize ageL wd 0 e.tm S []=a at hG hI
  have h1:=stepL_len a.1 e
  have M:=hG.sum
  refine ⟨hI.step Z rfl<|λ_=>ab.1,?_,λx hx=>?_,List.pairwise_append.2 ⟨hG.asc,List.pairwise_singleton _ _,λx hx y hy=>?_⟩,λx hx=>?_,List.mem_append_right _<|List.mem_singleton.2 rfl,(λM=>by cases M),⟨?_,?_⟩⟩
  ·simp only;rw [List.foldl_append,←hG.st];rfl
  ·rcases List.mem_append.1 hx with hx|hx
   ·exact hG.fit x hx
   rw [List.mem_singleton.1 hx];exact Z
  ·rw [List.mem_singleton.1 hy];exact (hG.le x hx).2
  ·rcases List.mem_append.1 hx with hx|hx
   ·exact hG.le x hx
   rw [List.mem_singleton.1 hx];omega
  ·simp only;omega
  simp only [List.length_append,List.length_cons,List.length_nil];omega
 have hr:evStep 3 0 mo (S,[]) e=((ep S e).filter (inW 3 0 mo e.tm<|ep S e),[]++[e]++goneL 3 0 mo e.tm (ep S e)):=rfl
 rw [hr,List.nil_append]
 have hv:=stepL_val h.val Z
 have hg:∀c∈goneL 3 0 mo e.tm (ep S e),c.tm=e.tm:=λc hc=>(gone_mem hc).2
 have h1:=gone_len 3 0 mo e.tm (ep S e)
 refine ⟨((h.later hl λM=>by cases M).step Z rfl (λM=>by cases M)).filter _,?_,λx hx=>?_,?_,λx hx=>?_,List.mem_append_left _<|List.mem_singleton.2 rfl,λ_=>last_len (checkS_iff.1 hv).2.2 hm.1,⟨?_,?_⟩⟩
 ·simp only;rw [List.foldl_append];exact (gone_steps hv).symm
 ·rcases List.mem_append.1 hx with hx|hx
  ·rw [List.mem_singleton.1 hx];exact Z
  exact gone_fit hv Z.tm x hx
 ·refine List.pairwise_append.2 ⟨List.pairwise_singleton _ _,?_,λa ha c hc=>?_⟩
  ·unfold goneL
   rw [List.pairwise_map]
   exact pw_all (λa c=>Int.le_refl _) _
  rw [List.mem_singleton.1 ha,hg c hc];exact Int.le_refl _
 ·rcases List.mem_append.1 hx with hx|hx
  ·rw [List.mem_singleton.1 hx];omega
  rw [hg x hx];omega
 ·simp only;omega
 simp only [List.length_append,List.length_cons,List.length_nil];omega
structure EnOk (nd kd wd mo bd:Int) (k:EnS):Prop where
 win:checkW kd wd mo=0
 buf:BfOk bd k.b
 fit:∀e∈k.b.ws,FitOk nd e
 inv:SlI nd kd wd k.tm k.S
 tm:0<=k.tm/\k.tm<=1048576/\(k.tm<=k.b.mr\/k.tm=0)
 cnt:kd=3->(k.S.length:Int)<=mo
section
variable {nd kd wd mo bd:Int}
theorem rel_ok(hw:checkW kd wd mo=0):∀(l:List Ev) (S:List Lk) (last:Int),SlI nd kd wd last S->0<=last->(kd=3->(S.length:Int)<=mo)->(∀e∈l,FitOk nd e/\last<=e.tm)->l.Pairwise (λa b=>a.tm<=b.tm)->
  SlI nd kd wd (lastE last l) (relE kd wd mo S l).1/\(relE kd wd mo S l).1=(relE kd wd mo S l).2.foldl ep S/\(∀x∈(relE kd wd mo S l).2,FitOk nd x)/\(kd=3->((relE kd wd mo S l).1.length:Int)<=mo)/\last<=lastE last l/\(lastE last l=last\/∃e∈l,lastE last l=e.tm)/\(relE kd wd mo S l).1.length<=S.length+l.length
 |[],S,last,h,h0,hc,_,_=>⟨h,rfl,(λx hx=>by cases hx),hc,Int.le_refl _,.inl rfl,Nat.le_refl _⟩
 |e::l,S,last,h,h0,hc,hl,ha=>by
  obtain ⟨he,ab⟩:=hl e List.mem_cons_self
  obtain ⟨aa,M⟩:=List.pairwise_cons.1 ha
  have hs:=step_ok h h0 ab he hw
  obtain ⟨r1,r2,r3,r4,r5,Z,r7⟩:=rel_ok hw l (evStep kd wd mo (S,[]) e).1 e.tm hs.inv om hs.cnt (λx hx=>⟨(hl x<|List.mem_cons_of_mem _ hx).1,aa x hx⟩) M
  have e1:relE kd wd mo S (e::l)=((relE kd wd mo (evStep kd wd mo (S,[]) e).1 l).1,(evStep kd wd mo (S,[]) e).2++(relE kd wd mo (evStep kd wd mo (S,[]) e).1 l).2):=relE_app S [e] l
  have e2:lastE last (e::l)=lastE e.tm l:=rfl
  rw [e1,e2]
  refine ⟨r1,?_,λx hx=>?_,r4,by omega,?_,?_⟩
  ·simp only;rw [List.foldl_append,←hs.st];exact r2
  ·rcases List.mem_append.1 hx with hx|hx
   ·exact hs.fit x hx
   exact r3 x hx
  ·rcases Z with Z|⟨x,hx,Z⟩
   ·exact .inr ⟨e,List.mem_cons_self,Z⟩
   exact .inr ⟨x,List.mem_cons_of_mem _ hx,Z⟩
  have:=hs.len.1
  simp only [List.length_cons];omega
theorem EnOk.open_(h:0<=nd/\nd<=64)(Z:checkW kd wd mo=0)(hb:0<=bd/\bd<=1048576):EnOk nd kd wd mo bd ⟨⟨-1, -1,[]⟩,[],0⟩:=
 ⟨Z,BfOk.open_ hb,(λe he=>by cases he),SlI.nil h,by simp,λM=>by
  rcases checkW_cases Z with ⟨rfl,_⟩|⟨rfl,_⟩|⟨_,_,hm⟩
  ·cases M
  ·cases M
  show ((0:Nat):Int)<=mo;omega⟩
theorem EnOk.feed{k:EnS}(h:EnOk nd kd wd mo bd k){e:Ev}(he:FitOk nd e)(ht:k.b.mr<e.tm):EnOk nd kd wd mo bd (k.feed kd wd mo bd e):=by
 have hb:=h.buf.push he.chk ht he.tm.2
 obtain ⟨h1,h2⟩:=h.buf.out (e:=e) ht
 have Z:∀x∈pushW k.b e,FitOk nd x:=λx hx=>by
  rcases mem_push.1 hx with rfl|hx
  ·exact he
  exact h.fit x hx
 have hm:=h.buf.mr
 have aa:=h.tm
 obtain ⟨r1,r2,r3,r4,r5,M,r7⟩:=rel_ok h.win (k.b.out bd e) k.S k.tm h.inv aa.1 h.cnt (λx hx=>by
  have h3:=Z x (mem_upTo.1 hx).1
  have:=h1 x hx
  have:=h3.tm
  exact ⟨h3,by omega⟩) h2
 refine ⟨h.win,hb,λx hx=>Z x (mem_beyond.1 hx).1,r1,?_,r4⟩
 show 0<=lastE k.tm _/\lastE k.tm _<=1048576/\(lastE k.tm _<=max k.b.mr (relM bd k.b e)\/lastE k.tm _=0)
 rcases M with M|⟨x,hx,M⟩
 ·rw [M];omega
 have h3:=h1 x hx
 have h4:=(Z x (mem_upTo.1 hx).1).tm
 have h5:(k.b.push bd e).mr=max k.b.mr (relM bd k.b e):=rfl
 rw [M];omega
end
end Go.Sl
namespace Go.Sl
end Go.Sl
namespace Go.Sl
open Go.Proofs
set_option maxRecDepth 4000
variable{l xs ys:List Int}{nd v:Int}{es:List Pt}
theorem sumL_set{i:Int}(Z:0<=i)(h:i<l.length):(l.set i.toNat v).sum=l.sum - e_ l i+v:=by
 obtain ⟨k,rfl⟩:=Int.eq_ofNat_of_zero_le Z
 rw [Int.toNat_natCast]
 clear Z
 induction l generalizing k with
 |nil=>simp at h;omega
 |cons x xs ih=>
  cases k with
  |zero=>simp [e_];omega
  |succ k=>
   have:=ih k (by simp at h;omega)
   have e:e_ (x::xs) ((k+1:Nat):Int)=e_ xs k:=by unfold e_;simp
   rw [e,List.set_cons_succ,List.sum_cons,List.sum_cons,this];omega
theorem sumL_rep(n:Nat):(List.replicate n (default:Int)).sum=0:=by
 induction n with
 |zero=>rfl
 |succ n ih=>rw [List.replicate_succ,List.sum_cons,ih];rfl
def triS(nd:Int)(es:List Pt):Int:=(es.map λe=>((commonG nd es e.u e.v).length:Int)).sum
def triK(nd:Int)(es:List Pt)(k:Nat):Int:=((es.take k).map λe=>((commonG nd es e.u e.v).length:Int)).sum
theorem triK_succ{k:Nat}(h:k<es.length):triK nd es (k+1)=triK nd es k+((commonG nd es (e_ es k).u (e_ es k).v).length:Int):=by
 unfold triK
 rw [Cj es k h,List.map_append,List.sum_append];simp
theorem triK_all(nd:Int)(es:List Pt):triK nd es es.length=triS nd es:=by unfold triK triS;rw [List.take_length]
theorem commonG_len(nd:Int)(es:List Pt)(u v:Int):(commonG nd es u v).length<=64:=by
 by_cases h:u=v
 ·unfold commonG;rw [if_pos h];simp
 rw [←common_eq h];exact Ex _
theorem triK_bd(nd:Int)(es:List Pt):∀k,k<=es.length->0<=triK nd es k/\triK nd es k<=64*(k:Int)
 |0,_=>by unfold triK;simp
 |k+1,h=>by
  have Z:=triK_bd nd es k om
  have:=commonG_len nd es (e_ es k).u (e_ es k).v
  rw [triK_succ om];omega
theorem sum_le_all(h:∀x∈l,0<=x):∀k,k<=l.length->0<=(l.take k).sum/\(l.take k).sum<=l.sum:=by
 have M:∀l:List Int,(∀x∈l,0<=x)->∀k,0<=(l.take k).sum/\(l.take k).sum<=l.sum:=λl=>by
  induction l with
  |nil=>intro _ k;simp
  |cons x xs ih=>
   intro h k
   have h0:=h x List.mem_cons_self
   have Z:=ih λy hy=>h y (List.mem_cons_of_mem _ hy)
   cases k with
   |zero=>have:=Z xs.length;rw [List.take_length] at this;simp;omega
   |succ k=>have:=Z k;simp;omega
 exact λk _=>M l h k
theorem common_rng(M:GrOk nd es){u x:Int}(Z:x∈commonG nd es u v):0<=x/\x<nd:=by
 unfold commonG at Z
 split at Z
 ·cases Z
 have h1:=(mem_meetL.1 Z).1
 unfold nbG at h1
 rw [if_neg (by rw [checkG_ok.2 M];decide),mem_ofL,mem_nbL] at h1
 rcases h1 with h|h
 ·have:=M.edge _ h;simp only at this;omega
 have:=M.edge _ h;simp only at this;omega
theorem mem_le_sum:∀{l:List Int},(∀x∈l,0<=x)->∀{x:Int},x∈l->x<=l.sum
 |[],_,x,hx=>by cases hx
 |y::ys,h,x,hx=>by
  have h0:=h y List.mem_cons_self
  have Z:∀z∈ys,0<=z:=λz M=>h z (List.mem_cons_of_mem _ M)
  have h2:=(sum_le_all Z ys.length<|Nat.le_refl _)
  rw [List.take_length] at h2
  rw [List.sum_cons]
  rcases List.mem_cons.1 hx with rfl|hx
  ·omega
  have:=mem_le_sum Z hx;omega
theorem triS_bd(Z:GrOk nd es):0<=triS nd es/\triS nd es<=129024:=by
 have:=triK_bd nd es es.length (Nat.le_refl _)
 rw [triK_all] at this
 have:=edges_le Z
 omega
def interF(xs ys:List Int):List Int:=xs.filter λx=>decide (x∈ys)
theorem head_drop(h:0<xs.length):xs=e_ xs 0::List.drop 1 xs:=by
 cases xs with
 |nil=>cases h
 |cons x xs=>rfl
theorem asc_drop(h:xs.Pairwise (λZ M:Int=>Z<M)):(List.drop 1 xs).Pairwise (λZ M:Int=>Z<M):=h.sublist (List.drop_sublist _ _)
theorem head_lt(h:xs.Pairwise (λZ x1:Int=>Z<x1))(h0:0<xs.length){y:Int}(M:y∈List.drop 1 xs):e_ xs 0<y:=by
 rw [head_drop h0] at h
 exact (List.pairwise_cons.1 h).1 y M
theorem inter_lt(hy:ys.Pairwise (λx0 x1:Int=>x0<x1))(h0:0<xs.length)(Z:0<ys.length)(h:e_ xs 0<e_ ys 0):interF xs ys=interF (List.drop 1 xs) ys:=by
 have hn:e_ xs 0∉ys:=λM=>by
  rw [head_drop Z] at M
  rcases List.mem_cons.1 M with e|e
  ·omega
  have:=head_lt hy Z e;omega
 conv=>lhs;rw [head_drop h0]
 unfold interF
 rw [List.filter_cons_of_neg (by simpa using hn)]
theorem inter_gt(hx:xs.Pairwise (λx0 x1:Int=>x0<x1))(h0:0<xs.length)(h1:0<ys.length)(h:e_ ys 0<e_ xs 0):interF xs ys=interF xs (List.drop 1 ys):=by
 unfold interF
 refine List.filter_congr λx Z=>?_
 rw [decide_eq_decide]
 have aa:e_ ys 0<x:=by
  rw [head_drop h0] at Z
  rcases List.mem_cons.1 Z with rfl|e
  ·exact h
  have:=head_lt hx h0 e;omega
 constructor
 ·intro M
  rw [head_drop h1] at M
  rcases List.mem_cons.1 M with e|e
  ·omega
  exact e
 exact λM=>List.mem_of_mem_drop M
theorem inter_eq(hx:xs.Pairwise (λx0 x1:Int=>x0<x1))(h0:0<xs.length)(h1:0<ys.length)(h:e_ xs 0=e_ ys 0):interF xs ys=e_ xs 0::interF (List.drop 1 xs) (List.drop 1 ys):=by
 have Z:e_ xs 0∈ys:=by rw [h];exact B7 om om
 conv=>lhs;rw [head_drop h0]
 unfold interF
 rw [List.filter_cons_of_pos (p:=λx=>decide<|x∈ys) (decide_eq_true Z)]
 congr 1
 refine List.filter_congr λx M=>?_
 rw [decide_eq_decide]
 have aa:=head_lt hx h0 M
 constructor
 ·intro Z
  rw [head_drop h1] at Z
  rcases List.mem_cons.1 Z with e|e
  ·omega
  exact e
 exact λZ=>List.mem_of_mem_drop Z
theorem inter_nil(h:xs.length=0\/ys.length=0):interF xs ys=[]:=by
 unfold interF
 rcases h with h|h
 ·rw [List.length_eq_zero_iff.1 h];rfl
 rw [List.length_eq_zero_iff.1 h];simp
theorem Shared_ok{κ:Ctx}{I:List Item}{a0 b0:Option Addr}{c0 d0:Nat}(hl:Sl κ I (.slice a0 xs.length c0) xs)(hm:Sl κ I (.slice b0 ys.length d0) ys)(hx:xs.Pairwise (λx0 x1:Int=>x0<x1))(hy:ys.Pairwise (λx0 x1:Int=>x0<x1))(hb:xs.length<=100000):eu Tryz.prog κ 133 [.slice a0 xs.length c0,.slice b0 ys.length d0] I (λr J=>∃a c,r = .slice a (interF xs ys).length c/\J=vk 3 a c (interF xs ys)::I):=by
 refine Ce2 Tryz.func133 C C ?_
 refine Ad<|Ga C<|Ac<|Ad<|Ga C<|Ac<|Ar<|A5<|B1 (σ:=(Option Addr)×Nat×(List Int)×(Option Addr)×Nat×(List Int)×(Option Addr)×Nat×(List Int)) (λs=>([(0,.slice s.1 s.2.2.1.length s.2.1),(1,.slice s.2.2.2.1 s.2.2.2.2.2.1.length s.2.2.2.2.1),(5,.slice s.2.2.2.2.2.2.1 s.2.2.2.2.2.2.2.2.length s.2.2.2.2.2.2.2.1)]:Env)) (λs=>vk 3 s.2.2.2.2.2.2.1 s.2.2.2.2.2.2.2.1 s.2.2.2.2.2.2.2.2::I) (λs=>(Sl κ I (.slice s.1 s.2.2.1.length s.2.1) s.2.2.1)/\(Sl κ I (.slice s.2.2.2.1 s.2.2.2.2.2.1.length s.2.2.2.2.1) s.2.2.2.2.2.1)/\(s.2.2.1.Pairwise (λx0 x1:Int=>x0<x1))/\(s.2.2.2.2.2.1.Pairwise (λx0 x1:Int=>x0<x1))/\(interF xs ys=s.2.2.2.2.2.2.2.2++interF s.2.2.1 s.2.2.2.2.2.1)/\(s.2.2.2.2.2.2.2.2.length+s.2.2.1.length<=xs.length)) (λs=>(s.2.2.1.length+s.2.2.2.2.2.1.length)) (a0,c0,xs,b0,d0,ys,none,0,[]) (show (Sl κ I (.slice (a0:Option Addr) (xs:List Int).length (c0:Nat)) (xs:List Int))/\(Sl κ I (.slice (b0:Option Addr) (ys:List Int).length (d0:Nat)) (ys:List Int))/\((xs:List Int).Pairwise (λx0 x1:Int=>x0<x1))/\((ys:List Int).Pairwise (λx0 x1:Int=>x0<x1))/\(interF xs ys=([]:List Int)++interF (xs:List Int) (ys:List Int))/\(([]:List Int).length+(xs:List Int).length<=xs.length) from ⟨hl,hm,hx,hy,rfl,(by simp)⟩) (Aa (C8 C<|by first|rfl|simp)<|Aa (C8 C<|by first|rfl|simp)<|Aa (C8 C<|by first|rfl|simp) Bp) (show Fit κ _ (vk 3 none 0 ([])::I) from (Cf _ _)) ?_
 rintro ⟨pa,pc,Z,qa,qc,M,oa,oc,out⟩ hp
 dsimp only at hp ⊢
 obtain ⟨hA,hB,ab,ad,aa,an⟩:=hp
 refine Ar<|Ad<|Gm C<|Gr (Bk Af C)<|Gr (B2 C C)<|Gm C<|Bh (d:=9) C (λg9=>?_)<|λg9=>?_
 ·refine e9 (Ai C) (e9 (Bk Af C)<|e9 (B2 C C)<|Gr (Av C C)<|Ac<|A7 C (λc13=>?_)<|λc13=>?_)
  ·refine Aw (Ah<|A5<|Ar<|Bs mixed<|Cc (vk 3 oa oc out::I) 7<|Dr 0 C (Ai C)<|Dr 1 C (A3 (α:=Int) (xs:=Z) Af ef C C (A8 hA) om om)<|Dr 2 C (Bx (xs:=Z) ef C (A8 hA) om om)<|Dr 3 C (Ai C)<|Dr 4 C (A3 (α:=Int) (xs:=M) Af ef C C (A8 hB) om om)<|Dr 5 C (Bx (xs:=M) ef C (A8 hB) om om)<|Ds1 6<|Sc0 C (Aj c_ C C<|Compare_ok (e_ Z 0)<|e_ M 0) ?_)
   have ao:(e_ Z 0<e_ M 0/\cmpI (e_ Z 0) (e_ M 0) = -1)\/(e_ M 0<e_ Z 0/\cmpI (e_ Z 0) (e_ M 0)=1)\/(e_ Z 0=e_ M 0/\cmpI (e_ Z 0) (e_ M 0)=0):=by unfold cmpI;repeat (first|omega|split)
   refine Dz<|Ah<|Ap (S4 20 0 1 5)<|A5<|Ad<|Gr (Br C C)<|Ga C<|Ac<|A7 C (λai=>?_)<|λai=>?_
   ·exact Ay<|Gm C<|Gr (D0 (α:=Int) (xs:=Z) (l:=1) Af ef C C om (A8 hA) om)<|Ga C<|Bj<|Am<|Am<|Cb (((adrop pa pc 1<|Enc.sz Int)),((pc - 1)),(List.drop 1 Z),(qa),(qc),(M),(oa),(oc),(out)) (by dsimp only;exact ⟨(E4 hA om),hB,(asc_drop ab),ad,(by rw [aa,inter_lt ad om om om]),(by first|omega|(simp only [List.length_append,List.length_drop,List.length_cons,List.length_nil];omega))⟩) (hlt:=by (try dsimp only);exact (by simp only [List.length_drop];omega))
   refine Ad<|Gr (Br C C)<|Ga C<|Ac<|A7 C (λak=>?_)<|λak=>?_
   ·exact Ay<|Gm C<|Gr (D0 (α:=Int) (xs:=M) (l:=1) Af ef C C om (A8 hB) om)<|Ga C<|Bj<|Am<|Am<|Cb ((pa),(pc),(Z),((adrop qa qc 1<|Enc.sz Int)),((qc - 1)),(List.drop 1 M),(oa),(oc),(out)) (by dsimp only;exact ⟨hA,(E4 hB om),ab,(asc_drop ad),(by rw [aa,inter_gt ab om om om]),(by first|omega|(simp only [List.length_append,List.length_drop,List.length_cons,List.length_nil];omega))⟩) (hlt:=by (try dsimp only);exact (by simp only [List.length_drop];omega))
   refine Ad<|Gm C<|Gm C<|Gr (A3 (α:=Int) (xs:=Z) Af ef C C (A8 hA) om om)<|Gr (Bx (xs:=Z) ef C (A8 hA) om om)<|Ge1 (Ce (α:=Int) (cs:=[_]) (xs:=[e_ Z 0]) Af ef C C dc dc C C C C) λaj=>?_
   refine Ge2 (B3 (α:=Int) (e:=3) (xs:=out) (ys:=([e_ Z 0]:List Int)) Af ef C C C mm Bi lcn dc C<|λ_ _=>am) λah ae=>?_
   exact Ga C<|Ac<|Ap (S3 5 0 1)<|Bs mixed<|Cc (vc 3 (.slice aj 1 1) (([e_ Z 0]:List Int))::vk 3 ah ae (out++([e_ Z 0]:List Int))::I) 6<|Dr 0 C (Ai C)<|Dr 1 C (D0 (α:=Int) (xs:=Z) (l:=1) Af ef C C om (A8 hA) om)<|Dr 2 C (Ai C)<|Dr 3 C (D0 (α:=Int) (xs:=M) (l:=1) Af ef C C om (A8 hB) om)<|Dr 4 C (Bf C)<|Dr 5 C (Bf C)<|Dz<|Am<|Am<|Cb (((adrop pa pc 1<|Enc.sz Int)),((pc - 1)),(List.drop 1 Z),((adrop qa qc 1<|Enc.sz Int)),((qc - 1)),(List.drop 1 M),(ah),(ae),(out++([e_ Z 0]:List Int))) (by dsimp only;exact ⟨(E4 hA om),(E4 hB om),(asc_drop ab),(asc_drop ad),(by rw [aa,inter_eq ab om om om,List.append_assoc];rfl),(by first|omega|(simp only [List.length_append,List.length_drop,List.length_cons,List.length_nil];omega))⟩) (hlt:=by (try dsimp only);exact (by simp only [List.length_drop];omega))
  refine Bt<|Aq<|Aq<|Bb<|Ah<|Ad<|Gm C<|Ga C<|Ac<|Ap (S1 4)<|Az ?_
  have hE:interF xs ys=out:=by rw [aa,inter_nil om,List.append_nil]
  exact A1 C C (vk 3 oa oc (interF xs ys)::I) (by unfold vk;rw [hE];exact Bg) ⟨oa,oc,by rw [hE],rfl⟩
 refine eb<|eb<|eb<|Gr (Au C C)<|Ac<|Dg C<|Bt<|Aq<|Aq<|Bb<|Ah<|Ad<|Gm C<|Ga C<|Ac<|Ap (S1 4)<|Az ?_
 have hE:interF xs ys=out:=by rw [aa,inter_nil om,List.append_nil]
 exact A1 C C (vk 3 oa oc (interF xs ys)::I) (by unfold vk;rw [hE];exact Bg) ⟨oa,oc,by rw [hE],rfl⟩
end Go.Sl
