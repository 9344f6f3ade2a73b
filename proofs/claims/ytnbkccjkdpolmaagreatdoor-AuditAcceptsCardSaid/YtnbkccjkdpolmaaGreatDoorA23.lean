/- A part of the proofs of statements of this seat: contracts of functions, and the plain laws that they lean on. No conditions. -/
import Derived.Test.YtnbkccjkdpolmaaGreatDoorA22
set_option linter.unusedVariables false
set_option linter.unusedSimpArgs false
set_option linter.unusedSectionVars false
open List (replicate)
namespace Go.Sl
variable{gone:List Bool}{j:Int}{m:Nat}
def TriS(tri:List (List Pt))(i a b:Int):Prop:=(⟨a,b⟩:Pt)∈e_ tri i\/(⟨b,a⟩:Pt)∈e_ tri i
structure TriG (tri:List (List Pt)):Prop where
 rng:∀i:Int,0<=i->i<tri.length->∀p∈e_ tri i,(0<=p.u/\p.u<tri.length/\0<=p.v/\p.v<tri.length)/\p.u≠p.v/\p.u≠i/\p.v≠i
 sym:∀i a b:Int,0<=i->i<tri.length->TriS tri i a b->TriS tri a i b
 dis:∀i:Int,0<=i->i<tri.length->(e_ tri i).Pairwise λp q=>p.u≠q.u/\p.u≠q.v/\p.v≠q.u/\p.v≠q.v
def liveT(gone:List Bool)(p:Pt):Bool:= !e_ gone p.u && !e_ gone p.v
def cntT(tri:List (List Pt))(gone:List Bool)(i:Int):Int:=(((e_ tri i).filter (liveT gone)).length:Int)
def hasT(j:Int)(p:Pt):Bool:=decide (p.u=j)||decide (p.v=j)
theorem low_at{p:Pt}{sup:List Int}(M:0<=p.u/\p.u<sup.length)(hv:0<=p.v/\p.v<sup.length)(aa:p.u≠p.v)(h0:0<=j) :
  e_ (lowT gone sup p) j=e_ sup j - if (liveT gone p&&hasT j p)=true then 1 else 0:=by
 unfold lowT liveT hasT
 by_cases hc:e_ gone p.u=false/\e_ gone p.v=false
 ·rw [if_pos hc,hc.1,hc.2]
  rw [at_set _ p.v j _ hv.1 h0 (by rw [List.length_set];exact hv.2),at_set _ p.u p.v _ M.1 hv.1 M.2,at_set _ p.u j _ M.1 h0 M.2,if_neg aa]
  by_cases e1:p.v=j
  ·rw [if_pos e1,e1];simp
  rw [if_neg e1]
  by_cases e2:p.u=j
  ·rw [if_pos e2,e2];simp
  rw [if_neg e2];simp [e1,e2]
 rw [if_neg hc]
 have:(!e_ gone p.u && !e_ gone p.v)=false:=by
  cases h1:e_ gone p.u<;>cases h2:e_ gone p.v<;>simp [h1,h2] at hc ⊢
 rw [this];simp
theorem low_fold{n:Nat}(M:0<=j):∀(l:List Pt) (sup:List Int),sup.length=n->(∀p∈l,(0<=p.u/\p.u<n/\0<=p.v/\p.v<n)/\p.u≠p.v)->
  e_ (l.foldl (lowT gone) sup) j=e_ sup j - ((l.filter λp=>liveT gone p&&hasT j p).length:Int)
 |[],sup,_,_=>by simp
 |p::l,sup,hs,h=>by
  obtain ⟨⟨h1,h2,h3,h4⟩,h5⟩:=h p List.mem_cons_self
  rw [List.foldl_cons,low_fold M l (lowT gone sup p) (by rw [lowT_len];exact hs)<|λq hq=>h q<|List.mem_cons_of_mem _ hq,low_at (by omega) (by omega) h5 M,List.filter_cons]
  by_cases hc:(liveT gone p&&hasT j p)=true
  ·rw [if_pos hc,if_pos hc,List.length_cons];omega
  rw [if_neg hc,if_neg hc];omega
theorem filter_le_one{α:Type}{l:List α}{P:α->Bool}(h:l.Pairwise λa b=>¬(P a=true/\P b=true)):(l.filter P).length<=1:=by
 induction l with
 |nil=>simp
 |cons x l ih=>
  obtain ⟨h1,h2⟩:=List.pairwise_cons.1 h
  rw [List.filter_cons]
  by_cases hx:P x=true
  ·rw [if_pos hx]
   have:l.filter P=[]:=List.filter_eq_nil_iff.2 λy M hp=>h1 y M ⟨hx,hp⟩
   rw [this];simp
  rw [if_neg hx];exact ih h2
theorem TriG.one{tri:List (List Pt)}(h:TriG tri){i:Int}(h0:0<=i)(h1:i<tri.length)(P:Pt->Bool):((e_ tri i).filter λp=>P p&&hasT j p).length<=1:=by
 refine filter_le_one<|(h.dis i h0 h1).imp fun {p q} hd=>?_
 rintro ⟨hp,M⟩
 unfold hasT at hp M
 simp only [Bool.and_eq_true,Bool.or_eq_true,decide_eq_true_eq] at hp M
 obtain ⟨d1,d2,d3,d4⟩:=hd
 rcases hp.2 with e|e<;>rcases M.2 with e'|e'
 ·exact d1<|by omega
 ·exact d2<|by omega
 ·exact d3<|by omega
 exact d4<|by omega
theorem live_split(l:List Pt)(gone:List Bool){b:Int}(M:0<=b/\b<gone.length)(hr:∀p∈l,0<=p.u/\0<=p.v):(l.filter (liveT gone)).length=(l.filter (liveT (gone.set b.toNat true))).length+(l.filter λp=>liveT gone p&&hasT b p).length:=by
 induction l with
 |nil=>rfl
 |cons p l ih=>
  have ih:=ih λq hq=>hr q (List.mem_cons_of_mem _ hq)
  obtain ⟨hu,hv⟩:=hr p List.mem_cons_self
  have e:liveT (gone.set b.toNat true) p=(liveT gone p && !hasT b p):=by
   unfold liveT hasT
   rw [at_set _ b p.u _ M.1 hu M.2,at_set _ b p.v _ M.1 hv M.2]
   by_cases e1:b=p.u<;>by_cases e2:b=p.v
   ·rw [if_pos e1,if_pos e2];simp [e1.symm]
   ·rw [if_pos e1,if_neg e2];simp [e1.symm]
   ·rw [if_neg e1,if_pos e2];simp [e2.symm]
   rw [if_neg e1,if_neg e2]
   have a1:¬p.u=b:=λh=>e1 h.symm
   have a2:¬p.v=b:=λh=>e2 h.symm
   simp [a1,a2]
  rw [List.filter_cons,List.filter_cons,List.filter_cons,e]
  cases h1:liveT gone p<;>cases h2:hasT b p<;>simp [h1,h2]<;>omega
def SupI(tri:List (List Pt))(s:TrS):Prop:=∀j:Int,0<=j->j<tri.length->e_ s.gone j=false->e_ s.sup j=cntT tri s.gone j
theorem SupI.start(tri:List (List Pt)):SupI tri (startT tri):=λj h0 h1 _=>by
 have hl:∀p,liveT (replicate tri.length false) p=true:=λp=>by
  have M:∀i:Int,e_ (replicate tri.length false) i=false:=λi=>by
   unfold e_
   rw [List.getD_eq_getElem?_getD,List.getElem?_replicate]
   split<;>rfl
  unfold liveT
  rw [M,M];rfl
 show e_ (tri.map λl=>(l.length:Int)) j=_
 unfold cntT startT
 simp only
 rw [List.filter_eq_self.2 λp _=>hl p]
 obtain ⟨k,rfl⟩:=Int.eq_ofNat_of_zero_le h0
 rw [at_get _ k (by rw [List.length_map];omega),at_get _ k<|by omega,List.getElem_map]
theorem SupI.step{tri:List (List Pt)}{j:Nat}{s:TrS}(hG:TriG tri)(hs:TrOk m tri.length j s)(hj:j<tri.length)(h:SupI tri s):SupI tri (stepTr tri s):=λi h0 h1 hg=>by
 obtain ⟨b0,b1,b2⟩:=hs.best hj
 unfold stepTr at hg ⊢
 simp only at hg ⊢
 generalize bestT s.sup s.gone tri.length=b at b0 b1 b2 hg ⊢
 have ai:=hs.glen
 rw [at_set _ b i _ b0 h0 (by omega)] at hg
 have aa:b≠i:=λe=>by rw [if_pos e] at hg;cases hg
 rw [if_neg aa] at hg
 have M:=λp hp=>hG.rng b b0 b1 p hp
 rw [low_fold (n:=tri.length) h0 _ _ hs.slen (λp hp=>⟨(M p hp).1,(M p hp).2.1⟩),h i h0 h1 hg]
 have ah:=live_split (e_ tri i) s.gone (b:=b) ⟨b0,by omega⟩ (λp hp=>by have:=(hG.rng i h0 h1 p hp).1;omega)
 have c1:=hG.one b0 b1 (j:=i) (liveT<|s.gone.set b.toNat true)
 have c2:=hG.one h0 h1 (j:=b) (liveT s.gone)
 have g':∀x:Int,0<=x->(e_ (s.gone.set b.toNat true) x=false↔x≠b/\e_ s.gone x=false):=λx hx=>by
  rw [at_set _ b x _ b0 hx (by omega)]
  by_cases e:b=x
  ·rw [if_pos e];simp [e]
  rw [if_neg e];exact ⟨λh=>⟨λh2=>e h2.symm,h⟩,λh=>h.2⟩
 have ae:((e_ tri b).filter λp=>liveT (s.gone.set b.toNat true) p&&hasT i p).length=((e_ tri i).filter λp=>liveT s.gone p&&hasT b p).length:=by
  have iff:0<((e_ tri b).filter λp=>liveT (s.gone.set b.toNat true) p&&hasT i p).length↔0<((e_ tri i).filter λp=>liveT s.gone p&&hasT b p).length:=by
   rw [List.length_pos_iff_exists_mem,List.length_pos_iff_exists_mem]
   simp only [List.mem_filter,Bool.and_eq_true,hasT,liveT,Bool.or_eq_true,decide_eq_true_eq,Bool.not_eq_true']
   constructor
   ·rintro ⟨q,hq,⟨l1,l2⟩,e⟩
    have hr:=(M q hq).1
    rw [g' _ (by omega)] at l1 l2
    have hT:∃x,TriS tri b i x/\e_ s.gone x=false:=by
     rcases e with e|e
     ·exact ⟨q.v,.inl<|by rw [←e];exact hq,l2.2⟩
     exact ⟨q.u,.inr<|by rw [←e];exact hq,l1.2⟩
    obtain ⟨x,hT,hx⟩:=hT
    rcases hG.sym b i x b0 b1 hT with h2|h2
    ·exact ⟨_,h2,⟨b2,hx⟩,.inl rfl⟩
    exact ⟨_,h2,⟨hx,b2⟩,.inr rfl⟩
   rintro ⟨q,hq,⟨l1,l2⟩,e⟩
   have hr:=hG.rng i h0 h1 q hq
   have hT:∃x,TriS tri i b x/\e_ s.gone x=false/\x≠b/\0<=x:=by
    rcases e with e|e
    ·exact ⟨q.v,.inl<|by rw [←e];exact hq,l2,by have:=hr.2.1;omega,by omega⟩
    exact ⟨q.u,.inr<|by rw [←e];exact hq,l1,by have:=hr.2.1;omega,by omega⟩
   obtain ⟨x,hT,hx,ad,ab⟩:=hT
   rcases hG.sym i b x h0 h1 hT with h2|h2
   ·exact ⟨_,h2,⟨(g' i h0).2 ⟨λe=>aa e.symm,hg⟩,(g' x ab).2 ⟨ad,hx⟩⟩,.inl rfl⟩
   exact ⟨_,h2,⟨(g' x ab).2 ⟨ad,hx⟩,(g' i h0).2 ⟨λe=>aa e.symm,hg⟩⟩,.inr rfl⟩
  omega
 unfold cntT
 rw [ae]
 omega
theorem bestT_le(sup:List Int)(gone:List Bool)(n:Nat):∀i:Nat,i<n->e_ gone i=false->e_ sup (bestT sup gone n)<=e_ sup i:=by
 induction n with
 |zero=>intro i hi;omega
 |succ n ih=>
  intro i hi M
  have hlt:=bestT_lt sup gone n
  unfold bestT
  by_cases hc:e_ gone n=false/\(bestT sup gone n<0\/e_ sup n<e_ sup (bestT sup gone n))
  ·rw [if_pos hc]
   by_cases e:i=n
   ·subst e;exact Int.le_refl _
   rcases hc.2 with h|h
   ·exfalso
    have:=bestT_some (sup:=sup) (gone:=gone) (n:=n) ⟨i,by omega,M⟩
    omega
   have:=ih i (by omega) M;omega
  rw [if_neg hc]
  by_cases e:i=n
  ·subst e
   have:¬e_ sup i<e_ sup (bestT sup gone i):=λh=>hc ⟨M,.inr h⟩
   omega
  exact ih i (by omega) M
theorem filter_mono{α:Type}{P Q:α->Bool}:∀{l:List α},(∀x∈l,P x=true->Q x=true)->(l.filter P).length<=(l.filter Q).length
 |[],_=>Nat.le_refl _
 |x::l,h=>by
  have M:=filter_mono (P:=P) (Q:=Q) (l:=l) λy hy=>h y (List.mem_cons_of_mem _ hy)
  have hx:=h x List.mem_cons_self
  rw [List.filter_cons,List.filter_cons]
  by_cases h1:P x=true
  ·rw [if_pos h1,if_pos<|hx h1,List.length_cons,List.length_cons];omega
  rw [if_neg h1]
  split
  ·rw [List.length_cons];omega
  exact M
def okT(ord num:List Int)(c:Int)(p:Pt):Bool:=decide ((p.u∈ord->c<=e_ num p.u)/\(p.v∈ord->c<=e_ num p.v))
def outT(l:List Int)(p:Pt):Bool:=decide (p.u∉l/\p.v∉l)
structure RunI (tri:List (List Pt)) (s:TrS):Prop where
 gone:∀x:Int,0<=x->x<tri.length->(e_ s.gone x=true↔x∈s.ord)
 rng:∀x∈s.ord,0<=x/\x<tri.length
 nodup:s.ord.Nodup
 le:∀x∈s.ord,e_ s.num x<=s.k
 asc:s.ord.Pairwise λa b=>e_ s.num a<=e_ s.num b
 later:∀pre x post,s.ord=pre++x::post->(((e_ tri x).filter (outT<|pre++[x])).length:Int)<=e_ s.num x
 high:∀x∈s.ord,e_ s.num x<=(((e_ tri x).filter (okT s.ord s.num<|e_ s.num x)).length:Int)
 rest:∀x:Int,0<=x->x<tri.length->x∉s.ord->s.k<=(((e_ tri x).filter (okT s.ord s.num s.k)).length:Int)
theorem RunI.start(tri:List (List Pt)):RunI tri (startT tri):=by
 have hz:∀i:Int,e_ (replicate tri.length false) i=false:=λi=>by
  unfold e_
  rw [List.getD_eq_getElem?_getD,List.getElem?_replicate]
  split<;>rfl
 refine ⟨λx _ _=>?_,(λx h=>by cases h),List.nodup_nil,(λx h=>by cases h),List.Pairwise.nil,λaa x M h=>?_,(λx h=>by cases h),λx _ _ _=>?_⟩
 ·show e_ (replicate tri.length false) x=true↔x∈([]:List Int)
  rw [hz];simp
 ·exact absurd h<|by show ¬([]:List Int)=_;simp
 show (0:Int)<=_;omega
theorem RunI.step{tri:List (List Pt)}{j:Nat}{s:TrS}(hG:TriG tri)(hs:TrOk m tri.length j s)(hj:j<tri.length)(hS:SupI tri s)(h:RunI tri s):RunI tri (stepTr tri s):=by
 obtain ⟨b0,b1,b2⟩:=hs.best hj
 have hbl:=bestT_le s.sup s.gone tri.length
 unfold stepTr
 generalize bestT s.sup s.gone tri.length=b at b0 b1 b2 hbl ⊢
 have hgl:=hs.glen
 have hnl:=hs.nlen
 have hbo:b∉s.ord:=λhm=>by rw [(h.gone b b0 b1).2 hm] at b2;cases b2
 have hsb:=hS b b0 b1 b2
 generalize hK:max s.k (e_ s.sup b)=k'
 have nb:e_ (s.num.set b.toNat k') b=k':=by rw [at_set _ b b _ b0 b0 (by omega),if_pos rfl]
 have nx:∀x:Int,0<=x->x≠b->e_ (s.num.set b.toNat k') x=e_ s.num x:=λx hx hne=>by rw [at_set _ b x _ b0 hx (by omega),if_neg<|λe=>hne e.symm]
 have ne:∀x∈s.ord,x≠b:=λx hx e=>hbo (e▸hx)
 have hpr:=fun (x:Int) (x0:0<=x) (x1:x<tri.length) p hp=>(hG.rng x x0 x1 p hp).1
 -- what is fine stays fine
 have okm:∀(x:Int),0<=x->x<tri.length->∀c,c<=k'->((e_ tri x).filter (okT s.ord s.num c)).length<=((e_ tri x).filter (okT (s.ord++[b]) (s.num.set b.toNat k') c)).length:=λx x0 x1 c hc=>filter_mono λp hp hok=>by
  have hr:=hpr x x0 x1 p hp
  unfold okT at hok ⊢
  rw [decide_eq_true_eq] at hok ⊢
  have one:∀e:Int,0<=e->(e∈s.ord->c<=e_ s.num e)->e∈s.ord++[b]->c<=e_ (s.num.set b.toNat k') e:=λe e0 he hm=>by
   by_cases e2:e=b
   ·rw [e2,nb];exact hc
   rw [nx e e0 e2]
   rcases List.mem_append.1 hm with hm|hm
   ·exact he hm
   exact absurd (List.mem_singleton.1 hm) e2
  exact ⟨one _ (by omega) hok.1,one _ (by omega) hok.2⟩
 -- what is left is fine at every level
 have live:∀(x:Int),0<=x->x<tri.length->∀c,((e_ tri x).filter (liveT s.gone)).length<=((e_ tri x).filter (okT s.ord s.num c)).length:=λx x0 x1 c=>filter_mono λp hp hl=>by
  have hr:=hpr x x0 x1 p hp
  unfold liveT at hl
  unfold okT
  simp only [Bool.and_eq_true,Bool.not_eq_true'] at hl
  refine decide_eq_true ⟨λhm=>?_,λhm=>?_⟩
  ·rw [(h.gone p.u (by omega)<|by omega).2 hm] at hl;cases hl.1
  rw [(h.gone p.v (by omega)<|by omega).2 hm] at hl;cases hl.2
 have hb':k'<=(((e_ tri b).filter (okT s.ord s.num k')).length:Int):=by
  by_cases hc:s.k<=e_ s.sup b
  ·have h1:=live b b0 b1 k'
   unfold cntT at hsb
   omega
  have h1:=h.rest b b0 b1 hbo
  rw [show k'=s.k by omega];exact h1
 refine ⟨λx x0 x1=>?_,λx hx=>?_,?_,λx hx=>?_,?_,λpre x post e=>?_,λx hx=>?_,λx x0 x1 hx=>?_⟩
 ·show e_ (s.gone.set b.toNat true) x=true↔x∈s.ord++[b]
  rw [at_set _ b x _ b0 x0 (by omega),List.mem_append,List.mem_singleton]
  by_cases e:b=x
  ·rw [if_pos e];simp [e]
  rw [if_neg e,h.gone x x0 x1];exact ⟨.inl,λh=>h.resolve_right λe2=>e e2.symm⟩
 ·rcases List.mem_append.1 hx with hx|hx
  ·exact h.rng x hx
  rw [List.mem_singleton.1 hx];exact ⟨b0,b1⟩
 ·exact List.nodup_append.2 ⟨h.nodup,by simp,λa ha c hc e=>by rw [List.mem_singleton.1 hc] at e;exact hbo<|e▸ha⟩
 ·show e_ (s.num.set b.toNat k') x<=k'
  rcases List.mem_append.1 hx with hx|hx
  ·rw [nx x (h.rng x hx).1 (ne x hx)];have:=h.le x hx;omega
  rw [List.mem_singleton.1 hx,nb];exact Int.le_refl _
 ·refine List.pairwise_append.2 ⟨List.Pairwise.imp_of_mem (fun {a c} ha hc hac=>?_) h.asc,by simp,λa ha c hc=>?_⟩
  ·rw [nx a (h.rng a ha).1 (ne a ha),nx c (h.rng c hc).1 (ne c hc)];exact hac
  rw [List.mem_singleton.1 hc,nb,nx a (h.rng a ha).1 (ne a ha)];have:=h.le a ha;omega
 ·show _<=e_ (s.num.set b.toNat k') x
  have e:s.ord++[b]=pre++x::post:=e
  rcases List.eq_nil_or_concat post with rfl|⟨q,y,rfl⟩
  ·have e1:=List.append_inj' e rfl
   have e2:b=x:=by have:=e1.2;simp at this;exact this
   subst e2
   rw [nb,←e1.1]
   have hf:((e_ tri b).filter (outT<|s.ord++[b])).length<=((e_ tri b).filter (liveT s.gone)).length:=filter_mono λp hp ho=>by
    have hr:=hpr b b0 b1 p hp
    unfold outT at ho
    unfold liveT
    rw [decide_eq_true_eq] at ho
    have one:∀e:Int,0<=e->e<tri.length->e∉s.ord++[b]->e_ s.gone e=false:=λe e0 e1 hn=>by
     cases hg:e_ s.gone e with
     |false=>rfl
     |true=>exact absurd (List.mem_append_left _<|(h.gone e e0 e1).1 hg) hn
    rw [one _ (by omega) (by omega) ho.1,one _ (by omega) (by omega) ho.2];rfl
   unfold cntT at hsb
   omega
  rw [List.concat_eq_append] at e
  have e':s.ord++[b]=(pre++x::q)++[y]:=by rw [e];simp
  have e1:=List.append_inj' e' rfl
  have hx:x∈s.ord:=by rw [e1.1];simp
  rw [nx x (h.rng x hx).1 (ne x hx)]
  exact h.later pre x q e1.1
 ·show e_ (s.num.set b.toNat k') x<=(((e_ tri x).filter (okT (s.ord++[b]) (s.num.set b.toNat k')<|e_ (s.num.set b.toNat k') x)).length:Int)
  rcases List.mem_append.1 hx with hx|hx
  ·have hr:=h.rng x hx
   rw [nx x hr.1 (ne x hx)]
   have h1:=h.high x hx
   have h2:=okm x hr.1 hr.2 (e_ s.num x) (by have:=h.le x hx;omega)
   omega
  rw [List.mem_singleton.1 hx,nb]
  have h2:=okm b b0 b1 k' (Int.le_refl _)
  omega
 show k'<=(((e_ tri x).filter (okT (s.ord++[b]) (s.num.set b.toNat k') k')).length:Int)
 have hx1:x∉s.ord:=λhm=>hx (List.mem_append_left _ hm)
 have hgx:e_ s.gone x=false:=by
  cases hg:e_ s.gone x with
  |false=>rfl
  |true=>exact absurd ((h.gone x x0 x1).1 hg) hx1
 have h2:=okm x x0 x1 k' (Int.le_refl _)
 by_cases hc:s.k<=e_ s.sup b
 ·have h1:=live x x0 x1 k'
  have h3:=hS x x0 x1 hgx
  obtain ⟨i,rfl⟩:=Int.eq_ofNat_of_zero_le x0
  have h4:=hbl i (by omega) hgx
  unfold cntT at h3
  omega
 have h1:=h.rest x x0 x1 hx1
 rw [show k'=s.k by omega] at h2 ⊢
 omega
theorem runTr_I{tri:List (List Pt)}(M:TriG tri)(h:TriOk m tri):∀j,j<=tri.length->SupI tri (runTr tri j)/\RunI tri (runTr tri j)
 |0,_=>⟨SupI.start tri,RunI.start tri⟩
 |j+1,hj=>by
  obtain ⟨h1,h2⟩:=runTr_I M h j (by omega)
  have hs:=runTr_ok h j (by omega)
  exact ⟨h1.step M hs<|by omega,h2.step M hs (by omega) h1⟩
structure TrussE (tri:List (List Pt)) (num ord:List Int):Prop where
 nlen:num.length=tri.length
 olen:ord.length=tri.length
 nodup:ord.Nodup
 rng:∀x∈ord,0<=x/\x<tri.length
 asc:∀i:Nat,i+1<ord.length->e_ num (e_ ord i)<=e_ num (e_ ord ((i+1:Nat):Int))
 later:∀i:Nat,i<ord.length->(((e_ tri<|e_ ord i).filter λp=>decide<|p.u∈List.drop (i+1) ord/\p.v∈List.drop (i+1) ord).length:Int)<=e_ num (e_ ord i)
 high:∀i:Nat,i<ord.length->e_ num (e_ ord i)<=(((e_ tri<|e_ ord i).filter λp=>decide<|e_ num (e_ ord i)<=e_ num p.u/\e_ num (e_ ord i)<=e_ num p.v).length:Int)
theorem trussE{tri:List (List Pt)}(hG:TriG tri)(h:TriOk m tri):TrussE tri (trussN tri) (trussO tri):=by
 have hs:=runTr_ok h tri.length (Nat.le_refl _)
 obtain ⟨_,M⟩:=runTr_I hG h tri.length (Nat.le_refl _)
 have ae:(trussO tri).length=tri.length:=hs.olen
 have aa:∀x:Int,0<=x->x<tri.length->x∈trussO tri:=λx x0 x1=>by
  have hc:=hs.cnt
  have h0:(runTr tri tri.length).gone.count false=0:=by omega
  refine (M.gone x x0 x1).1 ?_
  cases hg:e_ (runTr tri tri.length).gone x with
  |true=>rfl
  |false=>
   exfalso
   have hm:=at_mem (xs:=(runTr tri tri.length).gone) x0 (by have:=hs.glen;omega)
   rw [hg] at hm
   have:=List.count_pos_iff.2 hm
   omega
 have ah:=fun (x:Int) (hx:x∈trussO tri) p hp=>(hG.rng x (M.rng x hx).1 (M.rng x hx).2 p hp).1
 refine ⟨hs.nlen,ae,M.nodup,M.rng,λi hi=>?_,λi hi=>?_,λi hi=>?_⟩
 ·rw [at_get _ i (by omega),at_get _ (i+1) hi]
  exact (List.pairwise_iff_getElem.1 M.asc) i (i+1) (by show i<(trussO tri).length;omega) hi<|by omega
 ·have ab:trussO tri=(trussO tri).take i++e_ (trussO tri) i::(trussO tri).drop (i+1):=by
   rw [at_get _ i hi,←List.drop_eq_getElem_cons hi,List.take_append_drop]
  have h1:=M.later _ _ _ ab
  refine Int.le_trans (Int.ofNat_le.2<|filter_mono λp hp ho=>?_) h1
  unfold outT
  rw [decide_eq_true_eq] at ho ⊢
  have hn:=M.nodup
  have ad:(trussO tri).Nodup:=hn
  rw [ab] at ad
  have hd:=(List.nodup_append.1 ad)
  have one:∀e,e∈List.drop (i+1) (trussO tri)->e∉(trussO tri).take i++[e_ (trussO tri) i]:=λe he hm=>by
   rcases List.mem_append.1 hm with hm|hm
   ·exact hd.2.2 e hm e (List.mem_cons_of_mem _ he) rfl
   rw [List.mem_singleton.1 hm] at he
   exact (List.nodup_cons.1 hd.2.1).1 he
  exact ⟨one _ ho.1,one _ ho.2⟩
 have hx:=at_mem (xs:=trussO tri) (i:=(i:Int)) (by omega) (by omega)
 refine Int.le_trans (M.high _ hx)<|Int.ofNat_le.2<|filter_mono λp hp ho=>?_
 have hr:=ah _ hx p hp
 unfold okT at ho
 rw [decide_eq_true_eq] at ho ⊢
 exact ⟨ho.1<|aa _ (by omega)<|by omega,ho.2<|aa _ (by omega)<|by omega⟩
end Go.Sl
namespace Go.Sl
open Go.Proofs
set_option maxRecDepth 4000
variable{De Nu a b c d u w x y:Int}{i n nc:Nat}{xs:List Pt}{κ:Ctx}{I:List Item}{na:Option Addr}{vo:Value}{B:BitVec 64}
section
variable {nd:Int}{es:List Pt}
theorem edgeP_inj(h:edgeP a b=edgeP c d):(a=c/\b=d)\/(a=d/\b=c):=by
 unfold edgeP at h
 rw [E6] at h
 simp only at h
 obtain ⟨h1,M⟩:=h
 repeat (first|omega|split at h1|split at M)
theorem edgeP_self{e:Pt}(h:e.u<e.v):edgeP e.u e.v=e:=by
 unfold edgeP
 rw [if_neg om,if_pos h]
theorem mem_commonE(M:GrOk nd es){v:Int}(h:u≠v):w∈commonG nd es u v↔edgeP u w∈es/\edgeP v w∈es:=by
 have hm:∀x:Int,w∈nbG nd es x↔edgeP x w∈es:=λx=>by
  unfold nbG
  rw [if_neg (by rw [checkG_ok.2 M];decide),mem_ofL,mem_nbL]
  constructor
  ·rintro (h|h)
   ·have:=(M.edge _ h).2.1
    rw [←edgeP_self this] at h;exact h
   have:=(M.edge _ h).2.1
   rw [←edgeP_self this,edgeP_comm] at h;exact h
  intro h
  have hlt:=(M.edge _ h).2.1
  rcases Int.lt_trichotomy x w with h1|h1|h1
  ·have e:edgeP x w=⟨x,w⟩:=edgeP_self (e:=⟨x,w⟩) h1
   exact .inl<|e▸h
  ·subst h1;unfold edgeP at hlt;simp at hlt
  have e:edgeP x w=⟨w,x⟩:=by rw [edgeP_comm];exact edgeP_self (e:=⟨w,x⟩) h1
  exact .inr<|e▸h
 unfold commonG
 rw [if_neg h,mem_meetL,hm,hm]
theorem edge_ne(M:GrOk nd es)(h:edgeP u w∈es):u≠w:=λe=>by
 subst e
 have:=(M.edge _ h).2.1
 unfold edgeP at this;simp at this
theorem idx_at(hG:GrOk nd es){e:Pt}(h:e∈es):(es.idxOf e)<es.length/\e_ es ((es.idxOf e:Nat):Int)=e:=by
 have M:=List.idxOf_lt_length_of_mem h
 exact ⟨M,by rw [Cx _ _ M];exact List.getElem_idxOf M⟩
theorem idx_eq(hG:GrOk nd es)(h:i<es.length):es.idxOf (e_ es i)=i:=by
 have hm:=Bx (xs:=es) (i:=(i:Int)) om om
 obtain ⟨h1,M⟩:=idx_at hG hm
 generalize es.idxOf (e_ es i)=k at h1 M
 have hn:=asc_nodup hG.asc
 rw [Cx _ _ h1,Cx _ i h] at M
 rcases Nat.lt_trichotomy k i with h3|h3|h3
 ·exact absurd M<|(List.pairwise_iff_getElem.1 hn) k i h1 h h3
 ·exact h3
 exact absurd M.symm<|(List.pairwise_iff_getElem.1 hn) i k h h1 h3
theorem idx_inj(M:GrOk nd es){e f:Pt}(he:e∈es)(hf:f∈es)(h:es.idxOf e=es.idxOf f):e=f:=by
 rw [←(idx_at M he).2,←(idx_at M hf).2,h]
theorem tri_at{i:Int}(M:0<=i)(h1:i<es.length):e_ (trisE nd es) i=triE nd es (e_ es i):=by
 obtain ⟨k,rfl⟩:=Int.eq_ofNat_of_zero_le M
 unfold trisE
 rw [Cx _ k (by rw [List.length_map];omega),Cx _ k om,List.getElem_map]
theorem mem_triE(M:GrOk nd es){e:Pt}(he:e∈es){p:Pt}:p∈triE nd es e↔∃w,edgeP e.u w∈es/\edgeP e.v w∈es/\p=⟨((es.idxOf (edgeP e.u w):Nat):Int),((es.idxOf (edgeP e.v w):Nat):Int)⟩:=by
 have hlt:=(M.edge e he).2.1
 unfold triE
 rw [List.mem_map]
 constructor
 ·rintro ⟨w,hw,rfl⟩
  obtain ⟨h1,h2⟩:=(mem_commonE M om).1 hw
  exact ⟨w,h1,h2,rfl⟩
 rintro ⟨w,h1,h2,rfl⟩
 exact ⟨w,(mem_commonE M om).2 ⟨h1,h2⟩,rfl⟩
theorem triS_iff(hG:GrOk nd es)(M:edgeP x y∈es)(hx:edgeP x w∈es)(hy:edgeP y w∈es):TriS (trisE nd es) ((es.idxOf (edgeP x y):Nat):Int) ((es.idxOf (edgeP x w):Nat):Int) ((es.idxOf (edgeP y w):Nat):Int):=by
 obtain ⟨h1,h2⟩:=idx_at hG M
 unfold TriS
 rw [tri_at om om,h2,mem_triE hG M,mem_triE hG M]
 rcases Int.lt_trichotomy x y with h|h|h
 ·have e:edgeP x y=⟨x,y⟩:=edgeP_self (e:=⟨x,y⟩) h
  rw [e]
  exact .inl ⟨w,hx,hy,rfl⟩
 ·exact absurd h<|edge_ne hG M
 have e:edgeP x y=⟨y,x⟩:=by rw [edgeP_comm];exact edgeP_self (e:=⟨y,x⟩) h
 rw [e]
 exact .inr ⟨w,hy,hx,rfl⟩
theorem triG(M:GrOk nd es):TriG (trisE nd es):=by
 have hl:(trisE nd es).length=es.length:=List.length_map ..
 refine ⟨λi h0 h1 p hp=>?_,λi a b h0 h1 hT=>?_,λi h0 h1=>?_⟩
 ·rw [hl] at h1
  have he:=Bx h0 h1
  have hlt:=(M.edge _ he).2.1
  rw [tri_at h0 h1,mem_triE M he] at hp
  obtain ⟨w,hu,hv,rfl⟩:=hp
  have a1:=(idx_at M hu).1
  have a2:=(idx_at M hv).1
  have n1:=edge_ne M hu
  have n2:=edge_ne M hv
  have hi:es.idxOf (e_ es i)=i.toNat:=by
   obtain ⟨k,rfl⟩:=Int.eq_ofNat_of_zero_le h0
   rw [idx_eq M om];simp
  refine ⟨by simp only;omega,λe=>?_,λe=>?_,λe=>?_⟩
  ·have:=edgeP_inj (idx_inj M hu hv<|by simp only at e;omega);omega
  ·have h3:=idx_inj M hu he (by simp only at e;omega)
   rw [←edgeP_self hlt] at h3
   have:=edgeP_inj h3;omega
  have h3:=idx_inj M hv he (by simp only at e;omega)
  rw [←edgeP_self hlt] at h3
  have:=edgeP_inj h3;omega
 ·rw [hl] at h1
  have he:=Bx h0 h1
  have hlt:=(M.edge _ he).2.1
  have hi:i=((es.idxOf (edgeP (e_ es i).u (e_ es i).v):Nat):Int):=by
   rw [edgeP_self hlt]
   obtain ⟨k,rfl⟩:=Int.eq_ofNat_of_zero_le h0
   rw [idx_eq M om]
  have aa:edgeP (e_ es i).u (e_ es i).v∈es:=by rw [edgeP_self hlt];exact he
  unfold TriS at hT
  rw [tri_at h0 h1,mem_triE M he,mem_triE M he] at hT
  rcases hT with ⟨w,hu,hv,e⟩|⟨w,hu,hv,e⟩
  ·rw [E6] at e
   obtain ⟨e1,e2⟩:=e
   simp only at e1 e2
   rw [e1,e2]
   have:=triS_iff M (x:=(e_ es i).u) (y:=w) (w:=(e_ es i).v) hu aa (by rw [edgeP_comm];exact hv)
   rw [edgeP_comm w,←hi] at this;exact this
  rw [E6] at e
  obtain ⟨e1,e2⟩:=e
  simp only at e1 e2
  rw [e1,e2]
  have:=triS_iff M (x:=(e_ es i).v) (y:=w) (w:=(e_ es i).u) hv (by rw [edgeP_comm];exact aa) (by rw [edgeP_comm];exact hu)
  rw [edgeP_comm w,edgeP_comm (e_ es i).v (e_ es i).u,←hi] at this;exact this
 rw [hl] at h1
 have he:=Bx h0 h1
 have hlt:=(M.edge _ he).2.1
 rw [tri_at h0 h1]
 unfold triE
 have ab:(commonG nd es (e_ es i).u (e_ es i).v).Pairwise (λx0 x1:Int=>x0<x1):=by
  unfold commonG;split
  ·exact List.Pairwise.nil
  unfold meetL;exact (ofL_asc _).sublist List.filter_sublist
 refine List.pairwise_map.2<|List.Pairwise.imp_of_mem (fun {w z} hw hz ad=>?_) ab
 obtain ⟨w1,w2⟩:=(mem_commonE M om).1 hw
 obtain ⟨z1,z2⟩:=(mem_commonE M om).1 hz
 have q1:=edge_ne M w1
 have q2:=edge_ne M w2
 have q3:=edge_ne M z1
 have q4:=edge_ne M z2
 refine ⟨λe=>?_,λe=>?_,λe=>?_,λe=>?_⟩
 ·have:=edgeP_inj (idx_inj M w1 z1<|by simp only at e;omega);omega
 ·have:=edgeP_inj (idx_inj M w1 z2<|by simp only at e;omega);omega
 ·have:=edgeP_inj (idx_inj M w2 z1<|by simp only at e;omega);omega
 have:=edgeP_inj (idx_inj M w2 z2<|by simp only at e;omega);omega
end
section
variable {nd:Int}{es:List Pt}
theorem ftP_yes(p:Pt->Bool){k:Nat}(h:k<xs.length)(M:p (e_ xs k)=true):((((xs.take (k+1)).filter p).length:Nat):Int)=(((xs.take k).filter p).length:Nat)+1:=by
 rw [Ct _ k h,List.filter_append,List.length_append,List.filter_cons,if_pos M];simp
theorem ftP_no(p:Pt->Bool){k:Nat}(h:k<xs.length)(M:p (e_ xs k)=false):((((xs.take (k+1)).filter p).length:Nat):Int)=(((xs.take k).filter p).length:Nat):=by
 rw [Ct _ k h,List.filter_append,List.length_append,List.filter_cons,M];simp
end


theorem filt_mono{p q:Pt->Bool}(h:∀x∈xs,p x=true->q x=true):(xs.filter p).length<=(xs.filter q).length:=by
 rw [←List.countP_eq_length_filter,←List.countP_eq_length_filter];exact List.countP_mono_left h
theorem asc_lenN{l:List Int}(h:l.Nodup)(M:∀x∈l,0<=x/\x<n):l.length<=n:=by
 have:=List.Nodup.length_le_of_subset h (l₂:=(List.range n).map λi=>((i:Nat):Int)) λx hx=>by
  have:=M x hx
  exact List.mem_map.2 ⟨x.toNat,List.mem_range.2 om,by omega⟩
 rwa [List.length_map,List.length_range] at this
section
variable {tri:List (List Pt)}{num ord l:List Int}{k:Int}
theorem TrussE.pos(M:TrussE tri num ord)(h0:0<=x)(h1:x<tri.length):∃i:Nat,i<ord.length/\e_ ord i=x:=by
 by_cases hx:x∈ord
 ·obtain ⟨i,hi,e⟩:=mem_atN hx
  exact ⟨i,hi,e.symm⟩
 have:=asc_lenN (n:=tri.length) (List.nodup_cons.2 ⟨hx,M.nodup⟩) λy hy=>by
  rcases List.mem_cons.1 hy with rfl|hy
  ·exact ⟨h0,h1⟩
  exact M.rng y hy
 have:=M.olen
 simp only [List.length_cons] at *
 omega
theorem mem_dropN{l:List Int}{m:Nat}(h:i<m)(M:m<l.length):e_ l m∈List.drop (i+1) l:=by
 rw [Cx _ m M,List.mem_iff_getElem]
 refine ⟨m - (i+1),by rw [List.length_drop];omega,?_⟩
 rw [List.getElem_drop]
 congr 1;omega
end
section
variable {nd lv:Int}{es:List Pt}{l m:List Int}
theorem trussG_E(M:GrOk nd es):TrussE (trisE nd es) (trussG nd es) (trussO (trisE nd es)):=by
 unfold trussG
 rw [if_neg (by rw [checkG_ok.2 M];decide)]
 exact trussE (triG M)<|tris_ok M
theorem trussG_lenE(M:GrOk nd es):(trussG nd es).length=es.length:=by
 rw [(trussG_E M).nlen];exact List.length_map ..
theorem trussG_pos(M:GrOk nd es)(h0:0<=u)(h1:u<(trussG nd es).length):0<=e_ (trussG nd es) u/\e_ (trussG nd es) u<=nd - 1:=by
 have hl:=trussG_lenE M
 have he:=M.edge (e_ es u) (Bx om om)
 exact trussG_bd M om _<|Bx h0 h1
end
section
variable {tri:List (List Pt)}{num ord pl:List Int}
theorem TrussE.behind(hG:TriG tri)(hE:TrussE tri num ord)(aa:∀i:Nat,i<ord.length->e_ pl (e_ ord i)=(i:Int))(h0:0<=x)(h1:x<tri.length):(((e_ tri x).filter (λp:Pt=>decide (e_ pl x<(if (e_ pl p.v)<(e_ pl p.u) then (e_ pl p.v) else (e_ pl p.u))))).length:Int)<=e_ num x:=by
 obtain ⟨i,hi,rfl⟩:=hE.pos h0 h1
 refine Int.le_trans (Int.ofNat_le.2<|filt_mono λp hp h=>?_)<|hE.later i hi
 have hr:=hG.rng _ h0 h1 p hp
 rw [decide_eq_true_eq,aa i hi] at h
 rw [decide_eq_true_eq]
 have M:∀y:Int,0<=y->y<tri.length->(i:Int)<e_ pl y->y∈List.drop (i+1) ord:=λy y0 y1 hy=>by
  obtain ⟨m,hm,rfl⟩:=hE.pos y0 y1
  rw [aa m hm] at hy
  exact mem_dropN om hm
 split at h
 ·exact ⟨M _ hr.1.1 hr.1.2.1 om,M _ hr.1.2.2.1 hr.1.2.2.2 h⟩
 exact ⟨M _ hr.1.1 hr.1.2.1 h,M _ hr.1.2.2.1 hr.1.2.2.2 om⟩
theorem TrussE.highs(M:TrussE tri num ord)(h0:0<=x)(h1:x<tri.length):e_ num x<=(((e_ tri x).filter (λp:Pt=>decide (e_ num x<=(if (e_ num p.v)<(e_ num p.u) then (e_ num p.v) else (e_ num p.u))))).length:Int):=by
 obtain ⟨i,hi,rfl⟩:=M.pos h0 h1
 refine Int.le_trans (M.high i hi)<|Int.ofNat_le.2<|filt_mono λp hp h=>?_
 rw [decide_eq_true_eq] at h ⊢
 split<;>omega
theorem TrussE.whole(M:TrussE tri num ord):WholeP ord (tri.length:Int):=⟨λv hv=>by have:=M.rng v hv;omega,M.nodup,by have:=M.olen;omega⟩
end
theorem TCmp_ok{b:Nat}{num:List Int}(M:Sl κ I (.slice na num.length nc) num)(hb:BlkRd κ I b [.slice na num.length nc] 22)(x y:Int)(hx:0<=x/\x<num.length)(hy:0<=y/\y<num.length):eu Tryz.prog κ 355 [e7 x,e7 y,.pointer (some ⟨b,0,none⟩)] I (λr J=>r=e7 (cmpI (e_ num x) (e_ num y))/\I=J):=by
 refine Ce3 Tryz.func355 C C ?_
 refine Ar<|Ga C<|As<|A5<|A4 mixed<|Cm I 10<|Dr 0 C (Cs ty22 C (Co hb Ah) C)<|Dr 1 C (Af C)<|Dr 2 C (Az Aa ef C C (Au M) om om)<|Dr 3 C (Bj ef C (Au M) om om)<|Dr 4 C (Cs ty22 C (Co hb Ah) C)<|Dr 5 C (Af C)<|Dr 6 C (Az Aa ef C C (Au M) om om)<|Dr 7 C (Bj ef C (Au M) om om)<|Ds1 8<|Sc0 C (Ac c_ C C<|Compare_ok (e_ num x)<|e_ num y) ?_
 exact Dr 9 C (A0 C)<|Dz<|Ay<|Bg (S1 5 C)<|Bf<|Ai C C I Ah ⟨rfl,rfl⟩
theorem cmpI_lt(h:cmpI a b<0):a<b:=by unfold cmpI at h;split at h<;>(try split at h)<;>omega
theorem Sorted_ok{b:Nat}{num ord:List Int}(ho:Sl κ I vo ord)(aa:Sl κ I (.slice na num.length nc) num)(hb:BlkRd κ I b [.slice na num.length nc] 22)(hw:∀v∈ord,0<=v/\v<num.length):eu Tryz.prog κ 354 [vo,.func (.func 355) #[] #[.pointer (some ⟨b,0,none⟩)]] I (λr J=>∃t:Bool,r = .bool t/\((∀i:Nat,i+1<ord.length->e_ num (e_ ord i)<=e_ num (e_ ord ((i+1:Nat):Int)))->t=true)/\I=J):=by
 refine Bu ho.le λab=>?_
 refine Ce2 Tryz.func354 C C ?_
 refine Ar<|Ga C<|As<|A5<|Ar<|Gm C<|Gr (Da (xs:=ord) Aa C<|Au ho)<|Gr (Rsu C C)<|Ga C<|As<|Bk<|Cn (σ:=Int) (λs=>([(0,vo),(1,.func (.func 355) #[] #[.pointer (some ⟨b,0,none⟩)]),(5,e7 s)]:Env)) (λs=>I) (λs=>(s<ord.length/\ -1<=s)) (λs=>(s+1).toNat) (((ord.length:Nat):Int) - 1) om (Ab C<|Ab C<|Ab Dg Bs) (show Fit κ _ I from Aj) ?_
 rintro q hp
 have hq:=hp
 refine A5<|Ar<|Gm C<|Gr (Df C C)<|As<|Ap C (λc10=>?_)<|λc10=>?_
 ·refine Bt (Ay<|A5<|Bk<|A5<|A4 mixed<|Cm I 12<|Dr 0 C (Af C)<|Dr 1 C (Af C)<|Dr 2 C (Af C)<|Dr 3 C (Az (α:=Int) (xs:=ord) Aa ef C C (Au ho) om om)<|Dr 4 C (Bj (xs:=ord) ef C (Au ho) om om)<|Dr 5 C (Af C)<|Dr 6 C (Af C)<|Dr 7 C (Rsu C C)<|Dr 8 C (Az (α:=Int) (xs:=ord) Aa ef C C (Au ho) om om)<|Dr 9 C (Bj (xs:=ord) ef C (Au ho) om om)<|Ds1 10<|Se C (Cu c_ C C C<|TCmp_ok (num:=num) (Au aa) (Co hb Ah) (e_ ord q) (e_ ord<|q - 1) (hw _<|Bx om om)<|hw _<|Bx om om) ?_)
  rintro _ _ ⟨_,_,⟨rfl,rfl⟩,rfl,rfl⟩
  refine ⟨Aj,?_⟩
  refine Dr 11 C (Ch C C)<|Dz<|Ay<|Bg (S4 24 0 1 5 C C C C)<|Ap C (λM=>?_)<|λM=>?_
  ·exact Ar<|Ga C<|As<|Bf<|B6<|Bq<|Bq<|B6<|Bq<|Ai C C I Ah ⟨false,rfl,(λh=>by have h2:=h (q - 1).toNat om;rw [show (((q - 1).toNat:Nat):Int)=q - 1 by omega,show (((q - 1).toNat+1:Nat):Int)=q by omega] at h2;have:=cmpI_lt M;omega),rfl⟩
  exact Bt<|Av<|Ay<|Be<|Gm C<|Gr (Rsu C C)<|Ga C<|Bi<|B5 ((q - 1)) om
 exact C7<|A9<|A9<|B3<|Ay<|Ar<|Ga C<|As<|Bf<|Ai C C I Ah ⟨true,rfl,(λ_=>rfl),rfl⟩
set_option maxHeartbeats 4000000 in
theorem TCheck_ok{nd:Int}{ea:Option Addr}{ec:Nat}{es:List Pt}{num ord:List Int}(hl:Sl κ I (.slice ea es.length ec) es)(aa:Sl κ I (.slice na num.length nc) num)(ho:Sl κ I vo ord)(hG:GrOk nd es)(hT:TabRd κ I 0 tzCells):eu Tryz.prog κ 353 [.agg #[e7 nd,.slice ea es.length ec],.slice na num.length nc,vo] I (λr J=>∃c,r=e7 c/\(TrussE (trisE nd es) num ord->c=0)/\I=J):=by
 have bj:=hG.rng
 have br:=edges_le hG
 have a3:(trisE nd es).length=es.length:=List.length_map ..
 refine Bu ho.le λbg=>?_
 refine Ce3 Tryz.func353 C C ?_
 refine Ar<|Ge1 (Al (cs:=[_,_]) C C C) λb1=>Ge1 (Al (cs:=[_]) C C C) λb2=>Ga C<|As<|A5<|Ar<|Gl2 ty56 ?_
 refine Gc0 (Ac c_ C C<|CheckGen_ok<|Au hl) ?_
 refine Ga C<|As<|Ar<|Gm C<|Gr (C9 C C)<|As<|Ap C (λa1=>?_)<|λa1=>?_
 ·exact absurd (checkG_ok.2 hG) a1
 refine Bt<|Ay<|A5<|E8 (σ:=Bool) (λs=>([(2,vo),(3,.pointer<|some ⟨b1,0,none⟩),(4,.pointer<|some ⟨b2,0,none⟩),(35,.bool s)]:Env)) (λs=>e8 b2 [.slice na num.length nc] 22::e8 b1 [e7 nd,.slice ea es.length ec] 56::I) (λs=>(s=true->(num.length≠es.length\/¬WholeP ord (es.length:Int)))/\(s=false->num.length=es.length/\WholeP ord (es.length:Int))) ?_ ?_
 ·refine Be (Gl ty22 ?_)
  refine Gr (Ca Aa C)<|Gf fld56_1 C<|Gl ty54 ?_
  refine Gr (Ca Cp C)<|Gr (C9 C C)<|Gm C<|A6 (d:=28) C (λa9=>?_)<|λa9=>?_
  ·exact eb<|eb<|eb<|eb<|eb<|eb<|Gr (A2 C C)<|Bi<|Cg ((true)) ⟨(λhb=>by first|(left;omega)|(right;simpa using hb)),(λhb=>by first|(exact absurd hb dc)|(exact ⟨by omega,by simpa using hb⟩))⟩
  refine e9 (Af C)<|e9 (Ad fld56_1 C)<|e9 (Ax ty54) ?_
  refine e9 (Ca Cp C)<|Dn (B7 C C C) (Ac c_ C C<|Whole_ok (n:=((es.length:Nat):Int)) (Au ho) om) ?_
  rintro _ _ ⟨_,_,⟨rfl,rfl⟩,rfl,rfl⟩
  exact e9 (Runs.notd C)<|Gr (Ao C C)<|Bi<|Cg ((decide<|¬(WholeP ord ((es.length:Nat):Int)))) ⟨(λhb=>by first|(left;omega)|(right;simpa using hb)),(λhb=>by first|(exact absurd hb dc)|(exact ⟨by omega,by simpa using hb⟩))⟩
 rintro bq hp
 obtain ⟨bf,a8⟩:(bq=true->(num.length≠es.length\/¬WholeP ord (es.length:Int)))/\(bq=false->num.length=es.length/\WholeP ord (es.length:Int)):=hp
 refine D8 C (λaw=>?_)<|λaw=>?_
 ·exact Ar<|Ga C<|As<|Bf<|Bq<|Ai C C I Ah ⟨4,rfl,(λhE=>by have h1:=hE.nlen;have h2:=hE.whole;rw [a3] at h1 h2;rcases bf aw with h|h;(· omega);(· exact absurd h2 h)),rfl⟩
 refine Bt<|Ay<|Ar<|Gm C ?_
 obtain ⟨bp,ao⟩:=a8 aw
 have bo:=ao.2.2
 refine Gr (Da (α:=Int) (xs:=ord) Aa C<|Au ho)<|Ge2 (Cj (α:=Int) (n:=ord.length) Aa ef C C C om om dc C) λai aj=>?_
 refine Ga C<|As<|A5<|Ar<|Gm C<|Gr (Da (α:=Int) (xs:=ord) Aa C<|Au ho)<|Gm C<|As<|Bk<|Cn (σ:=Nat×(List Int)) (λs=>([(2,vo),(3,.pointer<|some ⟨b1,0,none⟩),(4,.pointer<|some ⟨b2,0,none⟩),(8,.slice ai (replicate ord.length (default:Int)).length aj),(39,vo),(40,e7 ((ord.length:Nat):Int)),(41,e7 ((s.1:Nat):Int))]:Env)) (λs=>vc 3 (.slice ai (replicate ord.length (default:Int)).length aj) (s.2)::e8 b2 [.slice na num.length nc] 22::e8 b1 [e7 nd,.slice ea es.length ec] 56::I) (λs=>(s.1<=ord.length)/\(s.2.length=ord.length)/\(∀i:Nat,i<s.1->e_ s.2 (e_ ord i)=(i:Int))) (λs=>ord.length - s.1) (0,replicate ord.length 0) ⟨om,List.length_replicate,(λi h=>by omega)⟩ (Ab C<|Ab C<|Ab C<|Ab C<|Ab C<|Ab C<|Ab Dg Bs) Bb ?_
 rintro ⟨k,pl⟩ hp
 dsimp only at hp ⊢
 obtain ⟨hk,ay,a0⟩:=hp
 have bm:k<ord.length->0<=e_ ord k/\e_ ord k<ord.length:=λh=>by have:=ao.1 _ (Bx (xs:=ord) (i:=(k:Int)) om om);have:=ao.2.2;omega
 refine Ar<|Gr (Ch C C)<|As<|A5<|Ap C (λbc=>?_)<|λbc=>?_
 ·refine Bt (Ay<|A5<|Bk<|Ar<|Gm C<|Gr (Az (α:=Int) (xs:=ord) Aa ef C C (Au ho) om olr)<|Gr (Bj (xs:=ord) ef C (Au ho) om olr)<|Ga C<|Ga C<|As<|Be<|Gm C<|Gm C<|Gm C<|Gr (Az (α:=Int) (xs:=pl) Aa ef C C A7 om olr)<|Ge0 (Ci (α:=Int) (xs:=pl) (e:=3) (new:=(k:Int)) ef C C C om olr am) ?_)
  exact Bi<|Av<|Ay<|Bg (S7 2 3 4 8 39 40 41 C C C C C C C)<|Be<|Gr (Rad C C)<|Gm C<|Bi<|B5 ((k+1),(List.set pl (e_ ord k).toNat ((k:Int))))<|by dsimp only;exact ⟨om,(by rw [List.length_set];exact ay),(λi h=>by have a7:=ao.1 _ (Bx (xs:=ord) (i:=(i:Int)) om om);rw [C2 _ _ _ _ om a7.1 om];by_cases e:i=k;(· subst e;rw [if_pos rfl]);(· rw [if_neg (λh2=>e (nodup_at ao.2.1 om om h2).symm)];exact a0 i om))⟩
 refine C7<|A9<|A9<|B3<|Ay<|A5<|Ar<|Gl2 ty56 ?_
 have ar:∀i:Nat,i<ord.length->e_ pl (e_ ord i)=(i:Int):=λi hi=>a0 i om
 refine G.e (Ac c_ C C<|Triangles_ok (nd:=nd) (Au hl) hG om<|A8 hT Ah) ?_
 rintro _ _ ⟨_,_,⟨aq,ap,M,rfl,au,rfl⟩,rfl,rfl⟩
 have bn:M.length=(trisE nd es).length:=by rw [←au,List.length_map]
 refine G.fit (J:=vc 205 (.slice aq M.length ap) (M)::vc 3 (.slice ai (replicate ord.length (default:Int)).length aj) (pl)::e8 b2 [.slice na num.length nc] 22::e8 b1 [e7 nd,.slice ea es.length ec] 56::(rgI M++I)) (Et<|List.Perm.cons _<|Fh (A:=rgI M) (L:=[vc 3 (.slice ai (replicate ord.length (default:Int)).length aj) pl,e8 b2 [.slice na num.length nc] 22,e8 b1 [e7 nd,.slice ea es.length ec] 56]) (T:=I)) ?_
 refine Gr (Ca Fc C)<|Gm C<|As<|Bk<|Cn (σ:=Nat) (λs=>([(2,vo),(4,.pointer<|some ⟨b2,0,none⟩),(8,.slice ai (replicate ord.length (default:Int)).length aj),(52,.slice aq M.length ap),(53,e7 ((M.length:Nat):Int)),(54,e7 ((s:Nat):Int))]:Env)) (λs=>vc 205 (.slice aq M.length ap) (M)::vc 3 (.slice ai (replicate ord.length (default:Int)).length aj) (pl)::e8 b2 [.slice na num.length nc] 22::e8 b1 [e7 nd,.slice ea es.length ec] 56::(rgI M++I)) (λs=>(s<=M.length)) (λs=>M.length - s) 0 (show ((0:Nat)<=M.length) from om) (Ab C<|Ab C<|Ab C<|Ab C<|Ab C<|Ab Dg Bs) Aj ?_
 rintro k hp
 have hk:=hp
 have an:k<M.length->(e_ M k).xs=e_ (trisE nd es) k:=λh=>rows_atG au om om
 have a4:k<M.length->∀p∈(e_ M ((k:Nat):Int)).xs,(0<=p.u/\p.u<es.length)/\(0<=p.v/\p.v<es.length):=λh p hp=>by rw [an h] at hp;have:=((triG hG).rng _ om om p hp).1;omega
 have a5:k<M.length->(e_ M k).xs.length<=64:=λh=>by rw [an h];have:=(tris_ok hG).len _ (Bx (xs:=(trisE nd es)) (i:=(k:Int)) om om);omega
 refine Ar<|Gr (Ch C C)<|As<|A5<|Ap C (λa6=>?_)<|λa6=>?_
 ·refine Bt (Ay<|A5<|Bk<|Ar<|Gm C<|Gr (Az (α:=(RowG Pt)) (xs:=M) Fc ty205 C C A7 om olr)<|Gr (Dj (α:=(RowG Pt)) (xs:=M) (u:= .slice (e_ M k).a (e_ M k).xs.length (e_ M k).c) ty205 C A7 om olr C) ?_)
  have bi:=an om
  refine Ga C<|Ga C<|As<|Ar<|Ga C<|Ga C<|As<|Bg (S10 14 13 12 11 2 4 8 52 53 54 C C C C C C C C C C)<|A5<|Ar<|Gm C<|Gr (Ca C6 C)<|Gm C<|As<|Bk<|Cn (σ:=Nat×Int×Int) (λs=>([(2,vo),(4,.pointer<|some ⟨b2,0,none⟩),(8,.slice ai (replicate ord.length (default:Int)).length aj),(11,e7<|(k:Int)),(13,e7<|s.2.1),(14,e7<|s.2.2),(52,.slice aq M.length ap),(53,e7 ((M.length:Nat):Int)),(54,e7<|(k:Int)),(59,.slice (e_ M k).a (e_ M k).xs.length (e_ M k).c),(60,e7<|(((e_ M k).xs.length:Nat):Int)),(61,e7 ((s.1:Nat):Int))]:Env)) (λs=>vc 205 (.slice aq M.length ap) (M)::vc 3 (.slice ai (replicate ord.length (default:Int)).length aj) (pl)::e8 b2 [.slice na num.length nc] 22::e8 b1 [e7 nd,.slice ea es.length ec] 56::(rgI M++I)) (λs=>(s.1<=(e_ M k).xs.length)/\(s.2.1=((((e_ M k).xs.take s.1).filter (λp:Pt=>decide<|e_ pl k<(if (e_ pl p.v)<(e_ pl p.u) then (e_ pl p.v) else (e_ pl p.u)))).length:Int))/\(s.2.2=((((e_ M k).xs.take s.1).filter (λp:Pt=>decide<|e_ num k<=(if (e_ num p.v)<(e_ num p.u) then (e_ num p.v) else (e_ num p.u)))).length:Int))) (λs=>(e_ M k).xs.length - s.1) (0,0,0) ⟨om,rfl,rfl⟩ (Ab C<|Ab C<|Ab C<|Ab C<|Ab Dg<|Ab Dg<|Ab C<|Ab C<|Ab C<|Ab C<|Ab C<|Ab Dg Bs) Aj ?_
  rintro ⟨q,n1,n2⟩ hp
  dsimp only at hp ⊢
  obtain ⟨hq,ad,ae⟩:=hp
  have bh:=a5 om
  have bk:q<(e_ M k).xs.length->(0<=(e_ (e_ M k).xs (q:Int)).u/\(e_ (e_ M k).xs (q:Int)).u<es.length)/\(0<=(e_ (e_ M k).xs (q:Int)).v/\(e_ (e_ M k).xs (q:Int)).v<es.length):=λh=>a4 om _ (Bx om om)
  have be:=List.length_filter_le (λp:Pt=>decide<|e_ pl k<(if (e_ pl p.v)<(e_ pl p.u) then (e_ pl p.v) else (e_ pl p.u))) ((e_ M k).xs.take q)
  have bb:=List.length_filter_le (λp:Pt=>decide<|e_ num k<=(if (e_ num p.v)<(e_ num p.u) then (e_ num p.v) else (e_ num p.u))) ((e_ M k).xs.take q)
  rw [List.length_take] at be bb
  refine Ar<|Gr (Ch C C)<|As<|A5<|Ap C (λba=>?_)<|λba=>?_
  ·refine Bt (Ay<|A5<|Bk<|Ar<|Gr (Az (α:=Pt) (xs:=(e_ M k).xs) C6 ty207 C C (Em<|by repeat (first|exact rgI_mem (rs:=M) (i:=(k:Int)) om om|apply List.mem_cons_of_mem)) om olr)<|Gr (Dt (α:=Pt) (xs:=(e_ M k).xs) ty207 C (Em<|by repeat (first|exact rgI_mem (rs:=M) (i:=(k:Int)) om om|apply List.mem_cons_of_mem)) om olr)<|Ge1 (Am ty207 C) λb8=>Ge0 (Cf ty207) ?_)
   refine As<|Bg (S13 16 2 4 8 11 13 14 52 53 54 59 60 61 C C C C C C C C C C C C C)<|A5<|A5<|A4 mixed<|Cr 16<|Dr 0 C (Af C)<|Dr 1 C (Cb Bz ty2 C C om om)<|Dr 2 C (Ax ef) ?_
   refine Dr 3 C (Az (α:=Int) (xs:=pl) Aa ef C C A7 om olr)<|Dr 4 C (Bj (xs:=pl) ef C A7 om olr)<|Dr 5 C (Af C)<|Dr 6 C (Cb Bz ty2 C C om om)<|Dr 7 C (Ax ef) ?_
   refine Dr 8 C (Az (α:=Int) (xs:=pl) Aa ef C C A7 om olr)<|Dr 9 C (Bj (xs:=pl) ef C A7 om olr)<|Dr 10 C (Runs.min C C)<|Dr 11 C (Af C)<|Dr 12 C (Af C)<|Dr 13 C (Az (α:=Int) (xs:=pl) Aa ef C C A7 om olr)<|Dr 14 C (Bj (xs:=pl) ef C A7 om olr)<|Dr 15 C (Df C C)<|Dz<|Ay<|Bg (S14 80 16 2 4 8 11 13 14 52 53 54 59 60 61 C C C C C C C C C C C C C C)<|Ap C (λah=>?_)<|λah=>?_
   ·refine Be (Gm C<|Gr (Rad C C)<|Ga C<|As<|Bg (S13 13 16 2 4 8 11 14 52 53 54 59 60 61 C C C C C C C C C C C C C)<|A5<|A4 mixed<|Cr 16<|Dr 0 C (Ax ty22) ?_)
    refine Dr 1 C (Cb Bz ty2 C C om om)<|Dr 2 C (Ax ef) ?_
    refine Dr 3 C (Az (α:=Int) (xs:=num) Aa ef C C (Au aa) om olr)<|Dr 4 C (Bj (xs:=num) ef C (Au aa) om olr)<|Dr 5 C (Ax ty22) ?_
    refine Dr 6 C (Cb Bz ty2 C C om om)<|Dr 7 C (Ax ef) ?_
    refine Dr 8 C (Az (α:=Int) (xs:=num) Aa ef C C (Au aa) om olr)<|Dr 9 C (Bj (xs:=num) ef C (Au aa) om olr)<|Dr 10 C (Runs.min C C)<|Dr 11 C (Ax ty22) ?_
    refine Dr 12 C (Af C)<|Dr 13 C (Az (α:=Int) (xs:=num) Aa ef C C (Au aa) om olr)<|Dr 14 C (Bj (xs:=num) ef C (Au aa) om olr)<|Dr 15 C (Ff C C)<|Dz<|Ay<|Bg (S13 98 13 2 4 8 11 14 52 53 54 59 60 61 C C C C C C C C C C C C C)<|Ap C (λab=>?_)<|λab=>?_
    ·exact Be<|Gm C<|Gr (Rad C C)<|Ga C<|Bi<|Av<|Ay<|Bg (S12 14 13 2 4 8 11 52 53 54 59 60 61 C C C C C C C C C C C C)<|Be<|Gr (Rad C C)<|Gm C<|Bi<|B5 ((q+1),(n1+1),(n2+1))<|by dsimp only;exact ⟨om,(by first|(rw [ftP_yes (λp:Pt=>decide<|e_ pl k<(if (e_ pl p.v)<(e_ pl p.u) then (e_ pl p.v) else (e_ pl p.u))) om (decide_eq_true ah),ad])|(rw [ftP_no (λp:Pt=>decide<|e_ pl k<(if (e_ pl p.v)<(e_ pl p.u) then (e_ pl p.v) else (e_ pl p.u))) om (decide_eq_false ah),ad])),(by first|(rw [ftP_yes (λp:Pt=>decide<|e_ num k<=(if (e_ num p.v)<(e_ num p.u) then (e_ num p.v) else (e_ num p.u))) om (decide_eq_true ab),ae])|(rw [ftP_no (λp:Pt=>decide<|e_ num k<=(if (e_ num p.v)<(e_ num p.u) then (e_ num p.v) else (e_ num p.u))) om (decide_eq_false ab),ae]))⟩
    exact Bt<|Av<|Ay<|Be<|Gr (Rad C C)<|Gm C<|Bi<|B5 ((q+1),(n1+1),(n2))<|by dsimp only;exact ⟨om,(by first|(rw [ftP_yes (λp:Pt=>decide<|e_ pl k<(if (e_ pl p.v)<(e_ pl p.u) then (e_ pl p.v) else (e_ pl p.u))) om (decide_eq_true ah),ad])|(rw [ftP_no (λp:Pt=>decide<|e_ pl k<(if (e_ pl p.v)<(e_ pl p.u) then (e_ pl p.v) else (e_ pl p.u))) om (decide_eq_false ah),ad])),(by first|(rw [ftP_yes (λp:Pt=>decide<|e_ num k<=(if (e_ num p.v)<(e_ num p.u) then (e_ num p.v) else (e_ num p.u))) om (decide_eq_true ab),ae])|(rw [ftP_no (λp:Pt=>decide<|e_ num k<=(if (e_ num p.v)<(e_ num p.u) then (e_ num p.v) else (e_ num p.u))) om (decide_eq_false ab),ae]))⟩
   refine Bt<|Ay<|Bg (S13 16 2 4 8 11 13 14 52 53 54 59 60 61 C C C C C C C C C C C C C)<|A5<|A4 mixed<|Cr 16<|Dr 0 C (Ax ty22) ?_
   refine Dr 1 C (Cb Bz ty2 C C om om)<|Dr 2 C (Ax ef) ?_
   refine Dr 3 C (Az (α:=Int) (xs:=num) Aa ef C C (Au aa) om olr)<|Dr 4 C (Bj (xs:=num) ef C (Au aa) om olr)<|Dr 5 C (Ax ty22) ?_
   refine Dr 6 C (Cb Bz ty2 C C om om)<|Dr 7 C (Ax ef) ?_
   refine Dr 8 C (Az (α:=Int) (xs:=num) Aa ef C C (Au aa) om olr)<|Dr 9 C (Bj (xs:=num) ef C (Au aa) om olr)<|Dr 10 C (Runs.min C C)<|Dr 11 C (Ax ty22) ?_
   refine Dr 12 C (Af C)<|Dr 13 C (Az (α:=Int) (xs:=num) Aa ef C C (Au aa) om olr)<|Dr 14 C (Bj (xs:=num) ef C (Au aa) om olr)<|Dr 15 C (Ff C C)<|Dz<|Ay<|Bg (S13 98 2 4 8 11 13 14 52 53 54 59 60 61 C C C C C C C C C C C C C)<|Ap C (λab=>?_)<|λab=>?_
   ·exact Be<|Gm C<|Gr (Rad C C)<|Ga C<|Bi<|Av<|Ay<|Bg (S12 14 2 4 8 11 13 52 53 54 59 60 61 C C C C C C C C C C C C)<|Be<|Gr (Rad C C)<|Gm C<|Bi<|B5 ((q+1),(n1),(n2+1))<|by dsimp only;exact ⟨om,(by first|(rw [ftP_yes (λp:Pt=>decide<|e_ pl k<(if (e_ pl p.v)<(e_ pl p.u) then (e_ pl p.v) else (e_ pl p.u))) om (decide_eq_true ah),ad])|(rw [ftP_no (λp:Pt=>decide<|e_ pl k<(if (e_ pl p.v)<(e_ pl p.u) then (e_ pl p.v) else (e_ pl p.u))) om (decide_eq_false ah),ad])),(by first|(rw [ftP_yes (λp:Pt=>decide<|e_ num k<=(if (e_ num p.v)<(e_ num p.u) then (e_ num p.v) else (e_ num p.u))) om (decide_eq_true ab),ae])|(rw [ftP_no (λp:Pt=>decide<|e_ num k<=(if (e_ num p.v)<(e_ num p.u) then (e_ num p.v) else (e_ num p.u))) om (decide_eq_false ab),ae]))⟩
   exact Bt<|Av<|Ay<|Be<|Gr (Rad C C)<|Gm C<|Bi<|B5 ((q+1),(n1),(n2))<|by dsimp only;exact ⟨om,(by first|(rw [ftP_yes (λp:Pt=>decide<|e_ pl k<(if (e_ pl p.v)<(e_ pl p.u) then (e_ pl p.v) else (e_ pl p.u))) om (decide_eq_true ah),ad])|(rw [ftP_no (λp:Pt=>decide<|e_ pl k<(if (e_ pl p.v)<(e_ pl p.u) then (e_ pl p.v) else (e_ pl p.u))) om (decide_eq_false ah),ad])),(by first|(rw [ftP_yes (λp:Pt=>decide<|e_ num k<=(if (e_ num p.v)<(e_ num p.u) then (e_ num p.v) else (e_ num p.u))) om (decide_eq_true ab),ae])|(rw [ftP_no (λp:Pt=>decide<|e_ num k<=(if (e_ num p.v)<(e_ num p.u) then (e_ num p.v) else (e_ num p.u))) om (decide_eq_false ab),ae]))⟩
  refine C7<|A9<|A9<|B3<|Ay<|Ar<|Gm C<|Gl ty22 ?_
  refine Gm C<|Gr (Az (α:=Int) (xs:=num) Aa ef C C (Au aa) om olr)<|Gr (Bj (xs:=num) ef C (Au aa) om olr)<|Gr (Df C C)<|Gm C<|A6 (d:=108) C (λax=>?_)<|λax=>?_
  ·exact eb<|eb<|eb<|eb<|eb<|eb<|Gr (A2 C C)<|As<|Bg (S7 115 2 4 8 52 53 54 C C C C C C C)<|W.yes C<|Ar<|Ga C<|As<|Bf<|B6<|Bq<|Bq<|B6<|Bq<|Ai C C I Ah ⟨12,rfl,(λhE=>by first|(have h1:=av hE.asc;simp [h1] at ak;done)|(have h1:=hE.behind (triG hG) ar (x:=(k:Int)) om om;have h2:=hE.highs (x:=(k:Int)) om om;rw [List.take_of_length_le om] at ad ae;rw [←an om] at h1 h2;omega)),rfl⟩
  refine e9 (Af C)<|e9 (Ax ty22) ?_
  refine e9 (Af C)<|e9 (Az (α:=Int) (xs:=num) Aa ef C C (Au aa) om olr)<|e9 (Bj (xs:=num) ef C (Au aa) om olr)<|e9 (Ch C C)<|Gr (Ao C C)<|As<|Bg (S7 115 2 4 8 52 53 54 C C C C C C C)<|Ap C (λaz=>?_)<|λaz=>?_
  ·exact Ar<|Ga C<|As<|Bf<|B6<|Bq<|Bq<|B6<|Bq<|Ai C C I Ah ⟨12,rfl,(λhE=>by first|(have h1:=av hE.asc;simp [h1] at ak;done)|(have h1:=hE.behind (triG hG) ar (x:=(k:Int)) om om;have h2:=hE.highs (x:=(k:Int)) om om;rw [List.take_of_length_le om] at ad ae;rw [←an om] at h1 h2;omega)),rfl⟩
  exact Bt<|Av<|Ay<|Be<|Gr (Rad C C)<|Gm C<|Bi<|B5 ((k+1)) om
 refine C7<|A9<|A9<|B3<|Ay<|A5<|Ar<|Gm C<|Gr (Ec C C)<|G.e (Ac c_ C C<|Sorted_ok (num:=num) (Au ho) (Au aa) (Cw mm) (λv hv=>by have:=ao.1 v hv;omega)) ?_
 rintro _ _ ⟨_,_,⟨bt,rfl,av,rfl⟩,rfl,rfl⟩
 refine Gr (Cd C)<|As<|D8 C (λak=>?_)<|λak=>?_
 ·exact Ar<|Ga C<|As<|Bf<|Bq<|Ai C C I Ah ⟨12,rfl,(λhE=>by first|(have h1:=av hE.asc;simp [h1] at ak;done)|(have h1:=hE.behind (triG hG) ar (x:=(k:Int)) om om;have h2:=hE.highs (x:=(k:Int)) om om;rw [List.take_of_length_le om] at ad ae;rw [←an om] at h1 h2;omega)),rfl⟩
 exact Bt<|Ay<|Ar<|Ga C<|As<|Bf<|Ai C C I Ah ⟨0,rfl,(λ_=>rfl),rfl⟩
def loadT(es:List Pt)(D:Int)(parts:List Int)(k:Nat)(v:Int):Int:=sumN k λi=>(if (e_ es i).u=v then e_ parts i else 0)+(if (e_ es i).v=v then D - e_ parts i else 0)
theorem loadT_succ(es:List Pt)(D:Int)(parts:List Int)(k:Nat)(v:Int):loadT es D parts (k+1) v=loadT es D parts k v+((if (e_ es k).u=v then e_ parts k else 0)+(if (e_ es k).v=v then D - e_ parts k else 0)):=rfl
theorem sums_next{es:List Pt}{D:Int}{parts out:List Int}{k:Nat}(hl:out.length=n)(M:(0<=(e_ es k).u/\(e_ es k).u<n)/\0<=(e_ es k).v/\(e_ es k).v<n)(aa:(e_ es k).u≠(e_ es k).v)
  (h:∀v:Int,0<=v->v<n->e_ out v=loadT es D parts k v):∀v:Int,0<=v->v<n->e_ (List.set (List.set out (e_ es k).u.toNat (e_ out (e_ es k).u+e_ parts k)) (e_ es k).v.toNat (e_ out (e_ es k).v+(D - e_ parts k))) v=loadT es D parts (k+1) v:=λv h0 h1=>by
 rw [C2 _ _ _ _ M.2.1 h0 (by rw [List.length_set];omega),C2 _ _ _ _ M.1.1 h0 om,loadT_succ,h v h0 h1,h _ M.1.1 M.1.2,h _ M.2.1 M.2.2]
 by_cases e1:(e_ es k).v=v
 ·rw [if_pos e1,if_pos e1,if_neg om,e1];omega
 rw [if_neg e1,if_neg e1]
 by_cases e2:(e_ es k).u=v
 ·rw [if_pos e2,if_pos e2,e2];omega
 rw [if_neg e2,if_neg e2];omega

theorem cmp_np(h:a*d<=c*b):¬0<cmpF ⟨a,b⟩ ⟨c,d⟩:=by
 unfold cmpF
 simp only
 repeat (first|omega|split)
theorem bound_np{m:Int}(M:0<=m/\m<=Nu)(hD:1<=De):¬0<cmpF (mkF m De) ⟨Nu,De⟩:=by
 have h1:=mkF_mul (a:=m) (b:=De) M.1 om
 have h2:=mkF_den (a:=m) (b:=De) om
 refine cmp_np (a:=(mkF m De).num) (b:=(mkF m De).den) ?_
 rw [←h1,Int.mul_comm Nu]
 exact Int.mul_le_mul_of_nonneg_left M.2 om
theorem nat_frac{a b x y:Nat}(hb:0<b)(hy:0<y)(h:a*y=x*b):a / a.gcd b=x / x.gcd y/\b / a.gcd b=y / x.gcd y:=by
 have M:=Nat.gcd_pos_of_pos_right a hb
 have hk:=Nat.gcd_pos_of_pos_right x hy
 have c1:=Nat.coprime_div_gcd_div_gcd M
 have c2:=Nat.coprime_div_gcd_div_gcd hk
 have e1:=Nat.div_mul_cancel (Nat.gcd_dvd_left a b)
 have e2:=Nat.div_mul_cancel (Nat.gcd_dvd_right a b)
 have e3:=Nat.div_mul_cancel (Nat.gcd_dvd_left x y)
 have e4:=Nat.div_mul_cancel (Nat.gcd_dvd_right x y)
 generalize a.gcd b=g at M c1 e1 e2 ⊢
 generalize x.gcd y=k at hk c2 e3 e4 ⊢
 generalize a / g=a1 at c1 e1 ⊢
 generalize b / g=b1 at c1 e2 ⊢
 generalize x / k=x1 at c2 e3 ⊢
 generalize y / k=y1 at c2 e4 ⊢
 subst e1 e2 e3 e4
 have h2:a1*y1=x1*b1:=by
  refine Nat.eq_of_mul_eq_mul_right (Nat.mul_pos M hk) ?_
  have l:a1*y1*(g*k)=a1*g*(y1*k):=by ac_rfl
  have r:x1*b1*(g*k)=x1*k*(b1*g):=by ac_rfl
  rw [l,r];exact h
 have d1:b1 ∣ y1:=c1.symm.dvd_of_dvd_mul_left (m:=a1) ⟨x1,by rw [h2,Nat.mul_comm]⟩
 have d2:y1 ∣ b1:=c2.symm.dvd_of_dvd_mul_left (m:=x1) ⟨a1,by rw [←h2,Nat.mul_comm]⟩
 have e:=Nat.dvd_antisymm d1 d2
 subst e
 have aa:0<b1:=Nat.pos_of_mul_pos_right hb
 exact ⟨Nat.eq_of_mul_eq_mul_right aa h2,rfl⟩
theorem mkF_eq(ha:0<=a)(hb:0<b)(hx:0<=x)(M:0<y)(h:a*y=x*b):mkF a b=mkF x y:=by
 obtain ⟨a,rfl⟩:=Int.eq_ofNat_of_zero_le ha
 obtain ⟨b,rfl⟩:=Int.eq_ofNat_of_zero_le (Int.le_of_lt hb)
 obtain ⟨x,rfl⟩:=Int.eq_ofNat_of_zero_le hx
 obtain ⟨y,rfl⟩:=Int.eq_ofNat_of_zero_le (Int.le_of_lt M)
 obtain ⟨h1,h2⟩:=nat_frac (a:=a) (b:=b) (x:=x) (y:=y) om om (by exact_mod_cast h)
 unfold mkF gcdI
 simp only [Int.toNat_natCast]
 rw [←Int.natCast_ediv,←Int.natCast_ediv,←Int.natCast_ediv,←Int.natCast_ediv,h1,h2]
theorem inside_bits{nd:Int}{es:List Pt}(hG:GrOk nd es)(B:BitVec 64):((insideN nd es (eo B):Nat):Int)=insE B es:=by
 rw [←indG_len,indG_ref _<|by rw [checkG_ok.2 hG];decide]
 unfold insE
 congr 2
 refine List.filter_congr λe he=>?_
 have h:=hG.edge e he
 rw [Bool.eq_iff_iff,decide_eq_true_eq,Bool.and_eq_true,Ed,Ed]
 constructor
 ·rintro ⟨h1,M⟩;exact ⟨h1.2,M.2⟩
 rintro ⟨h1,M⟩;exact ⟨⟨by omega,h1⟩,by omega,M⟩
theorem meet_bits{nd:Int}(hn:nd<=64)(h:subN nd B):(meetL (eo B) (rangeI nd)).length=(eo B).length:=by
 unfold meetL
 rw [List.filter_eq_self.2 λx hx=>?_,ofL_nodup_len<|Dq B]
 have M:=(mem_ofL _ _).1 hx
 have h2:=(mem_listB.1 M).1
 have h3:=h x M
 simp only [decide_eq_true_eq]
 rw [mem_rangeI];omega
theorem best_dens{nd:Int}{es:List Pt}(hG:GrOk nd es)(h:BestR nd es Nu De B):densG nd es (eo B)=⟨Nu,De⟩/\ValidP (eo B) nd/\(0<nd->eo B≠[])/\(1<=De/\De<=64)/\(0<=Nu/\Nu<=2016):=by
 have hz:=checkG_ok.2 hG
 by_cases hn:nd=0
 ·obtain ⟨h1,M,h3⟩:=h.none hz hn
  subst h1 M h3
  rw [Dh]
  refine ⟨?_,λj hj=>absurd hj<|Nat.not_lt_zero _,λh=>by omega,by omega,by omega⟩
  unfold densG
  rw [if_neg (by rw [hz];decide),if_pos<|by simp [meetL,ofL]]
 have hd:=h.some hz hn
 have hr:=hG.rng
 obtain ⟨x,y,hx,hy,e⟩:=hd.red
 have aa:eo B≠[]:=λe=>by
  have M:=cntB_pos hd.dens.ne
  unfold cntB at M
  rw [e] at M;simp at M
 refine ⟨?_,ValidP_iff.2 ⟨λv hv=>⟨(mem_listB.1 hv).1,hd.dens.sub v hv⟩,listB_asc B⟩,λ_=>aa,hd.den,hd.num⟩
 have hc:=cntB_pos hd.dens.ne
 have ab:=insE_bd B es
 unfold densG
 rw [if_neg (by rw [hz];decide),meet_bits hr.2 hd.dens.sub,if_neg<|λe=>aa<|List.length_eq_zero_iff.1 e,inside_bits hG,e]
 refine mkF_eq ab.1 (show 0<cntB B by omega) hx.1 om ?_
 have h1:=hd.dens.eq
 have M:=mkF_mul (a:=x) (b:=y) hx.1 om
 rw [←e] at M
 simp only at M
 have hD:=hd.den
 have h3:De*(insE B es*y)=De*(x*cntB B):=by
  rw [←Int.mul_assoc,h1,←Int.mul_assoc,M,Int.mul_assoc,Int.mul_assoc,Int.mul_comm<|cntB B]
 exact Int.eq_of_mul_eq_mul_left om h3
end Go.Sl
