/- A part of the proofs of statements of this seat: contracts of functions, and the plain laws that they lean on. No conditions. -/
import Derived.Test.YtfkcohmipjhfcaaGreatDoorK22
set_option linter.unusedVariables false
set_option linter.unusedSimpArgs false
set_option linter.unusedSectionVars false
namespace Go.Sl
def TriS(tri:List (List Pt))(i a b:Int):Prop:=(⟨a,b⟩:Pt)∈e_ tri i\/(⟨b,a⟩:Pt)∈e_ tri i
structure TriG (tri:List (List Pt)):Prop where
 rng:∀i:Int,0<=i->i<tri.length->∀p∈e_ tri i,(0<=p.u/\p.u<tri.length/\0<=p.v/\p.v<tri.length)/\p.u≠p.v/\p.u≠i/\p.v≠i
 sym:∀i a b:Int,0<=i->i<tri.length->TriS tri i a b->TriS tri a i b
 dis:∀i:Int,0<=i->i<tri.length->(e_ tri i).Pairwise λp q=>p.u≠q.u/\p.u≠q.v/\p.v≠q.u/\p.v≠q.v
def liveT(gone:List Bool)(p:Pt):Bool:= !e_ gone p.u && !e_ gone p.v
def cntT(tri:List (List Pt))(gone:List Bool)(i:Int):Int:=(((e_ tri i).filter (liveT gone)).length:Int)
def hasT(j:Int)(p:Pt):Bool:=decide (p.u=j)||decide (p.v=j)
theorem low_at{gone:List Bool}{p:Pt}{sup:List Int}{j:Int}(hu:0<=p.u/\p.u<sup.length)(hv:0<=p.v/\p.v<sup.length)(hne:p.u≠p.v)(h0:0<=j) :
  e_ (lowT gone sup p) j=e_ sup j - if (liveT gone p&&hasT j p)=true then 1 else 0:=by
 unfold lowT liveT hasT
 by_cases hc:e_ gone p.u=false/\e_ gone p.v=false
 ·rw [if_pos hc,hc.1,hc.2]
  rw [at_set _ p.v j _ hv.1 h0 (by rw [List.length_set];exact hv.2),at_set _ p.u p.v _ hu.1 hv.1 hu.2,at_set _ p.u j _ hu.1 h0 hu.2,if_neg hne]
  by_cases e1:p.v=j
  ·rw [if_pos e1,e1];simp
  ·rw [if_neg e1]
   by_cases e2:p.u=j
   ·rw [if_pos e2,e2];simp
   ·rw [if_neg e2];simp [e1,e2]
 ·rw [if_neg hc]
  have:(!e_ gone p.u && !e_ gone p.v)=false:=by
   cases h1:e_ gone p.u<;>cases h2:e_ gone p.v<;>simp [h1,h2] at hc ⊢
  rw [this];simp
theorem low_fold{gone:List Bool}{n:Nat}{j:Int}(h0:0<=j):∀(l:List Pt) (sup:List Int),sup.length=n->(∀p∈l,(0<=p.u/\p.u<n/\0<=p.v/\p.v<n)/\p.u≠p.v)->
  e_ (l.foldl (lowT gone) sup) j=e_ sup j - ((l.filter λp=>liveT gone p&&hasT j p).length:Int)
 |[],sup,_,_=>by simp
 |p::l,sup,hs,h=>by
  obtain ⟨⟨h1,h2,h3,h4⟩,h5⟩:=h p List.mem_cons_self
  rw [List.foldl_cons,low_fold h0 l (lowT gone sup p) (by rw [lowT_len];exact hs) (λq hq=>h q (List.mem_cons_of_mem _ hq)),low_at (by omega) (by omega) h5 h0,List.filter_cons]
  by_cases hc:(liveT gone p&&hasT j p)=true
  ·rw [if_pos hc,if_pos hc,List.length_cons];omega
  ·rw [if_neg hc,if_neg hc];omega
theorem filter_le_one{α:Type}{l:List α}{P:α->Bool}(h:l.Pairwise λa b=>¬(P a=true/\P b=true)):(l.filter P).length<=1:=by
 induction l with
 |nil=>simp
 |cons x l ih=>
  obtain ⟨h1,h2⟩:=List.pairwise_cons.1 h
  rw [List.filter_cons]
  by_cases hx:P x=true
  ·rw [if_pos hx]
   have:l.filter P=[]:=List.filter_eq_nil_iff.2 λy hy hp=>h1 y hy ⟨hx,hp⟩
   rw [this];simp
  ·rw [if_neg hx];exact ih h2
theorem TriG.one{tri:List (List Pt)}(h:TriG tri){i j:Int}(h0:0<=i)(h1:i<tri.length)(P:Pt->Bool):((e_ tri i).filter λp=>P p&&hasT j p).length<=1:=by
 refine filter_le_one ((h.dis i h0 h1).imp fun {p q} hd=>?_)
 rintro ⟨hp,hq⟩
 unfold hasT at hp hq
 simp only [Bool.and_eq_true,Bool.or_eq_true,decide_eq_true_eq] at hp hq
 obtain ⟨d1,d2,d3,d4⟩:=hd
 rcases hp.2 with e|e<;>rcases hq.2 with e'|e'
 ·exact d1 (by omega)
 ·exact d2 (by omega)
 ·exact d3 (by omega)
 ·exact d4 (by omega)
theorem live_split(l:List Pt)(gone:List Bool){b:Int}(hb:0<=b/\b<gone.length)(hr:∀p∈l,0<=p.u/\0<=p.v):(l.filter (liveT gone)).length=(l.filter (liveT (gone.set b.toNat true))).length+(l.filter λp=>liveT gone p&&hasT b p).length:=by
 induction l with
 |nil=>rfl
 |cons p l ih=>
  have ih:=ih λq hq=>hr q (List.mem_cons_of_mem _ hq)
  obtain ⟨hu,hv⟩:=hr p List.mem_cons_self
  have e:liveT (gone.set b.toNat true) p=(liveT gone p && !hasT b p):=by
   unfold liveT hasT
   rw [at_set _ b p.u _ hb.1 hu hb.2,at_set _ b p.v _ hb.1 hv hb.2]
   by_cases e1:b=p.u<;>by_cases e2:b=p.v
   ·rw [if_pos e1,if_pos e2];simp [e1.symm]
   ·rw [if_pos e1,if_neg e2];simp [e1.symm]
   ·rw [if_neg e1,if_pos e2];simp [e2.symm]
   ·rw [if_neg e1,if_neg e2]
    have a1:¬p.u=b:=λh=>e1 h.symm
    have a2:¬p.v=b:=λh=>e2 h.symm
    simp [a1,a2]
  rw [List.filter_cons,List.filter_cons,List.filter_cons,e]
  cases h1:liveT gone p<;>cases h2:hasT b p<;>simp [h1,h2]<;>omega
def SupI(tri:List (List Pt))(s:TrS):Prop:=∀j:Int,0<=j->j<tri.length->e_ s.gone j=false->e_ s.sup j=cntT tri s.gone j
theorem SupI.start(tri:List (List Pt)):SupI tri (startT tri):=λj h0 h1 _=>by
 have hl:∀p,liveT (List.replicate tri.length false) p=true:=λp=>by
  have hz:∀i:Int,e_ (List.replicate tri.length false) i=false:=λi=>by
   unfold e_
   rw [List.getD_eq_getElem?_getD,List.getElem?_replicate]
   split<;>rfl
  unfold liveT
  rw [hz,hz];rfl
 show e_ (tri.map λl=>(l.length:Int)) j=_
 unfold cntT startT
 simp only
 rw [List.filter_eq_self.2 λp _=>hl p]
 obtain ⟨k,rfl⟩:=Int.eq_ofNat_of_zero_le h0
 rw [at_get _ k (by rw [List.length_map];omega),at_get _ k (by omega),List.getElem_map]
theorem SupI.step{tri:List (List Pt)}{m j:Nat}{s:TrS}(hG:TriG tri)(hs:TrOk m tri.length j s)(hj:j<tri.length)(h:SupI tri s):SupI tri (stepTr tri s):=λi h0 h1 hg=>by
 obtain ⟨b0,b1,b2⟩:=hs.best hj
 unfold stepTr at hg ⊢
 simp only at hg ⊢
 generalize bestT s.sup s.gone tri.length=b at b0 b1 b2 hg ⊢
 have hgl:=hs.glen
 rw [at_set _ b i _ b0 h0 (by omega)] at hg
 have hne:b≠i:=λe=>by rw [if_pos e] at hg;cases hg
 rw [if_neg hne] at hg
 have hrow:=λp hp=>hG.rng b b0 b1 p hp
 rw [low_fold (n:=tri.length) h0 _ _ hs.slen (λp hp=>⟨(hrow p hp).1,(hrow p hp).2.1⟩),h i h0 h1 hg]
 have hsp:=live_split (e_ tri i) s.gone (b:=b) ⟨b0,by omega⟩ (λp hp=>by have:=(hG.rng i h0 h1 p hp).1;omega)
 have c1:=hG.one b0 b1 (j:=i) (liveT (s.gone.set b.toNat true))
 have c2:=hG.one h0 h1 (j:=b) (liveT s.gone)
 have g':∀x:Int,0<=x->(e_ (s.gone.set b.toNat true) x=false↔x≠b/\e_ s.gone x=false):=λx hx=>by
  rw [at_set _ b x _ b0 hx (by omega)]
  by_cases e:b=x
  ·rw [if_pos e];simp [e]
  ·rw [if_neg e];exact ⟨λh=>⟨λh2=>e h2.symm,h⟩,λh=>h.2⟩
 have key:((e_ tri b).filter λp=>liveT (s.gone.set b.toNat true) p&&hasT i p).length=((e_ tri i).filter λp=>liveT s.gone p&&hasT b p).length:=by
  have iff:0<((e_ tri b).filter λp=>liveT (s.gone.set b.toNat true) p&&hasT i p).length↔0<((e_ tri i).filter λp=>liveT s.gone p&&hasT b p).length:=by
   rw [List.length_pos_iff_exists_mem,List.length_pos_iff_exists_mem]
   simp only [List.mem_filter,Bool.and_eq_true,hasT,liveT,Bool.or_eq_true,decide_eq_true_eq,Bool.not_eq_true']
   constructor
   ·rintro ⟨q,hq,⟨l1,l2⟩,e⟩
    have hr:=(hrow q hq).1
    rw [g' _ (by omega)] at l1 l2
    have hT:∃x,TriS tri b i x/\e_ s.gone x=false:=by
     rcases e with e|e
     ·exact ⟨q.v,.inl (by rw [←e];exact hq),l2.2⟩
     ·exact ⟨q.u,.inr (by rw [←e];exact hq),l1.2⟩
    obtain ⟨x,hT,hx⟩:=hT
    rcases hG.sym b i x b0 b1 hT with h2|h2
    ·exact ⟨_,h2,⟨b2,hx⟩,.inl rfl⟩
    ·exact ⟨_,h2,⟨hx,b2⟩,.inr rfl⟩
   ·rintro ⟨q,hq,⟨l1,l2⟩,e⟩
    have hr:=hG.rng i h0 h1 q hq
    have hT:∃x,TriS tri i b x/\e_ s.gone x=false/\x≠b/\0<=x:=by
     rcases e with e|e
     ·exact ⟨q.v,.inl (by rw [←e];exact hq),l2,by have:=hr.2.1;omega,by omega⟩
     ·exact ⟨q.u,.inr (by rw [←e];exact hq),l1,by have:=hr.2.1;omega,by omega⟩
    obtain ⟨x,hT,hx,hxb,hx0⟩:=hT
    rcases hG.sym i b x h0 h1 hT with h2|h2
    ·exact ⟨_,h2,⟨(g' i h0).2 ⟨λe=>hne e.symm,hg⟩,(g' x hx0).2 ⟨hxb,hx⟩⟩,.inl rfl⟩
    ·exact ⟨_,h2,⟨(g' x hx0).2 ⟨hxb,hx⟩,(g' i h0).2 ⟨λe=>hne e.symm,hg⟩⟩,.inr rfl⟩
  omega
 unfold cntT
 rw [key]
 omega
theorem bestT_le(sup:List Int)(gone:List Bool)(n:Nat):∀i:Nat,i<n->e_ gone i=false->e_ sup (bestT sup gone n)<=e_ sup i:=by
 induction n with
 |zero=>intro i hi;omega
 |succ n ih=>
  intro i hi hg
  have hlt:=bestT_lt sup gone n
  unfold bestT
  by_cases hc:e_ gone n=false/\(bestT sup gone n<0\/e_ sup n<e_ sup (bestT sup gone n))
  ·rw [if_pos hc]
   by_cases e:i=n
   ·subst e;exact Int.le_refl _
   ·rcases hc.2 with h|h
    ·exfalso
     have:=bestT_some (sup:=sup) (gone:=gone) (n:=n) ⟨i,by omega,hg⟩
     omega
    ·have:=ih i (by omega) hg;omega
  ·rw [if_neg hc]
   by_cases e:i=n
   ·subst e
    have:¬e_ sup i<e_ sup (bestT sup gone i):=λh=>hc ⟨hg,.inr h⟩
    omega
   ·exact ih i (by omega) hg
theorem filter_mono{α:Type}{P Q:α->Bool}:∀{l:List α},(∀x∈l,P x=true->Q x=true)->(l.filter P).length<=(l.filter Q).length
 |[],_=>Nat.le_refl _
 |x::l,h=>by
  have ih:=filter_mono (P:=P) (Q:=Q) (l:=l) λy hy=>h y (List.mem_cons_of_mem _ hy)
  have hx:=h x List.mem_cons_self
  rw [List.filter_cons,List.filter_cons]
  by_cases h1:P x=true
  ·rw [if_pos h1,if_pos (hx h1),List.length_cons,List.length_cons];omega
  ·rw [if_neg h1]
   split
   ·rw [List.length_cons];omega
   ·exact ih
def okT(ord num:List Int)(c:Int)(p:Pt):Bool:=decide ((p.u∈ord->c<=e_ num p.u)/\(p.v∈ord->c<=e_ num p.v))
def outT(l:List Int)(p:Pt):Bool:=decide (p.u∉l/\p.v∉l)
structure RunI (tri:List (List Pt)) (s:TrS):Prop where
 gone:∀x:Int,0<=x->x<tri.length->(e_ s.gone x=true↔x∈s.ord)
 rng:∀x∈s.ord,0<=x/\x<tri.length
 nodup:s.ord.Nodup
 le:∀x∈s.ord,e_ s.num x<=s.k
 asc:s.ord.Pairwise λa b=>e_ s.num a<=e_ s.num b
 later:∀pre x post,s.ord=pre++x::post->(((e_ tri x).filter (outT (pre++[x]))).length:Int)<=e_ s.num x
 high:∀x∈s.ord,e_ s.num x<=(((e_ tri x).filter (okT s.ord s.num (e_ s.num x))).length:Int)
 rest:∀x:Int,0<=x->x<tri.length->x∉s.ord->s.k<=(((e_ tri x).filter (okT s.ord s.num s.k)).length:Int)
theorem RunI.start(tri:List (List Pt)):RunI tri (startT tri):=by
 have hz:∀i:Int,e_ (List.replicate tri.length false) i=false:=λi=>by
  unfold e_
  rw [List.getD_eq_getElem?_getD,List.getElem?_replicate]
  split<;>rfl
 refine ⟨λx _ _=>?_,(λx h=>by cases h),List.nodup_nil,(λx h=>by cases h),List.Pairwise.nil,λpre x post h=>?_,(λx h=>by cases h),λx _ _ _=>?_⟩
 ·show e_ (List.replicate tri.length false) x=true↔x∈([]:List Int)
  rw [hz];simp
 ·exact absurd h (by show ¬([]:List Int)=_;simp)
 ·show (0:Int)<=_;omega
theorem RunI.step{tri:List (List Pt)}{m j:Nat}{s:TrS}(hG:TriG tri)(hs:TrOk m tri.length j s)(hj:j<tri.length)(hS:SupI tri s)(h:RunI tri s):RunI tri (stepTr tri s):=by
 obtain ⟨b0,b1,b2⟩:=hs.best hj
 have hbl:=bestT_le s.sup s.gone tri.length
 unfold stepTr
 generalize bestT s.sup s.gone tri.length=b at b0 b1 b2 hbl ⊢
 have hgl:=hs.glen
 have hnl:=hs.nlen
 have hbo:b∉s.ord:=λhm=>by rw [(h.gone b b0 b1).2 hm] at b2;cases b2
 have hsb:=hS b b0 b1 b2
 generalize hK:max s.k (e_ s.sup b)=k'
 have nb:e_ (s.num.set b.toNat k') b=k':=by rw [at_set _ b b _ b0 b0 (by omega),if_pos rfl]
 have nx:∀x:Int,0<=x->x≠b->e_ (s.num.set b.toNat k') x=e_ s.num x:=λx hx hne=>by rw [at_set _ b x _ b0 hx (by omega),if_neg (λe=>hne e.symm)]
 have ne:∀x∈s.ord,x≠b:=λx hx e=>hbo (e▸hx)
 have hpr:=fun (x:Int) (x0:0<=x) (x1:x<tri.length) p hp=>(hG.rng x x0 x1 p hp).1
 -- what is fine stays fine
 have okm:∀(x:Int),0<=x->x<tri.length->∀c,c<=k'->((e_ tri x).filter (okT s.ord s.num c)).length<=((e_ tri x).filter (okT (s.ord++[b]) (s.num.set b.toNat k') c)).length:=λx x0 x1 c hc=>filter_mono λp hp hok=>by
  have hr:=hpr x x0 x1 p hp
  unfold okT at hok ⊢
  rw [decide_eq_true_eq] at hok ⊢
  have one:∀e:Int,0<=e->(e∈s.ord->c<=e_ s.num e)->e∈s.ord++[b]->c<=e_ (s.num.set b.toNat k') e:=λe e0 he hm=>by
   by_cases e2:e=b
   ·rw [e2,nb];exact hc
   ·rw [nx e e0 e2]
    rcases List.mem_append.1 hm with hm|hm
    ·exact he hm
    ·exact absurd (List.mem_singleton.1 hm) e2
  exact ⟨one _ (by omega) hok.1,one _ (by omega) hok.2⟩
 -- what is left is fine at every level
 have live:∀(x:Int),0<=x->x<tri.length->∀c,((e_ tri x).filter (liveT s.gone)).length<=((e_ tri x).filter (okT s.ord s.num c)).length:=λx x0 x1 c=>filter_mono λp hp hl=>by
  have hr:=hpr x x0 x1 p hp
  unfold liveT at hl
  unfold okT
  simp only [Bool.and_eq_true,Bool.not_eq_true'] at hl
  refine decide_eq_true ⟨λhm=>?_,λhm=>?_⟩
  ·rw [(h.gone p.u (by omega) (by omega)).2 hm] at hl;cases hl.1
  ·rw [(h.gone p.v (by omega) (by omega)).2 hm] at hl;cases hl.2
 have hb':k'<=(((e_ tri b).filter (okT s.ord s.num k')).length:Int):=by
  by_cases hc:s.k<=e_ s.sup b
  ·have h1:=live b b0 b1 k'
   unfold cntT at hsb
   omega
  ·have h1:=h.rest b b0 b1 hbo
   rw [show k'=s.k by omega];exact h1
 refine ⟨λx x0 x1=>?_,λx hx=>?_,?_,λx hx=>?_,?_,λpre x post e=>?_,λx hx=>?_,λx x0 x1 hx=>?_⟩
 ·show e_ (s.gone.set b.toNat true) x=true↔x∈s.ord++[b]
  rw [at_set _ b x _ b0 x0 (by omega),List.mem_append,List.mem_singleton]
  by_cases e:b=x
  ·rw [if_pos e];simp [e]
  ·rw [if_neg e,h.gone x x0 x1];exact ⟨.inl,λh=>h.resolve_right λe2=>e e2.symm⟩
 ·rcases List.mem_append.1 hx with hx|hx
  ·exact h.rng x hx
  ·rw [List.mem_singleton.1 hx];exact ⟨b0,b1⟩
 ·exact List.nodup_append.2 ⟨h.nodup,by simp,λa ha c hc e=>by rw [List.mem_singleton.1 hc] at e;exact hbo (e▸ha)⟩
 ·show e_ (s.num.set b.toNat k') x<=k'
  rcases List.mem_append.1 hx with hx|hx
  ·rw [nx x (h.rng x hx).1 (ne x hx)];have:=h.le x hx;omega
  ·rw [List.mem_singleton.1 hx,nb];exact Int.le_refl _
 ·refine List.pairwise_append.2 ⟨List.Pairwise.imp_of_mem (fun {a c} ha hc hac=>?_) h.asc,by simp,λa ha c hc=>?_⟩
  ·rw [nx a (h.rng a ha).1 (ne a ha),nx c (h.rng c hc).1 (ne c hc)];exact hac
  ·rw [List.mem_singleton.1 hc,nb,nx a (h.rng a ha).1 (ne a ha)];have:=h.le a ha;omega
 ·show _<=e_ (s.num.set b.toNat k') x
  have e:s.ord++[b]=pre++x::post:=e
  rcases List.eq_nil_or_concat post with rfl|⟨q,y,rfl⟩
  ·have e1:=List.append_inj' e rfl
   have e2:b=x:=by have:=e1.2;simp at this;exact this
   subst e2
   rw [nb,←e1.1]
   have hf:((e_ tri b).filter (outT (s.ord++[b]))).length<=((e_ tri b).filter (liveT s.gone)).length:=filter_mono λp hp ho=>by
    have hr:=hpr b b0 b1 p hp
    unfold outT at ho
    unfold liveT
    rw [decide_eq_true_eq] at ho
    have one:∀e:Int,0<=e->e<tri.length->e∉s.ord++[b]->e_ s.gone e=false:=λe e0 e1 hn=>by
     cases hg:e_ s.gone e with
     |false=>rfl
     |true=>exact absurd (List.mem_append_left _ ((h.gone e e0 e1).1 hg)) hn
    rw [one _ (by omega) (by omega) ho.1,one _ (by omega) (by omega) ho.2];rfl
   unfold cntT at hsb
   omega
  ·rw [List.concat_eq_append] at e
   have e':s.ord++[b]=(pre++x::q)++[y]:=by rw [e];simp
   have e1:=List.append_inj' e' rfl
   have hx:x∈s.ord:=by rw [e1.1];simp
   rw [nx x (h.rng x hx).1 (ne x hx)]
   exact h.later pre x q e1.1
 ·show e_ (s.num.set b.toNat k') x<=(((e_ tri x).filter (okT (s.ord++[b]) (s.num.set b.toNat k') (e_ (s.num.set b.toNat k') x))).length:Int)
  rcases List.mem_append.1 hx with hx|hx
  ·have hr:=h.rng x hx
   rw [nx x hr.1 (ne x hx)]
   have h1:=h.high x hx
   have h2:=okm x hr.1 hr.2 (e_ s.num x) (by have:=h.le x hx;omega)
   omega
  ·rw [List.mem_singleton.1 hx,nb]
   have h2:=okm b b0 b1 k' (Int.le_refl _)
   omega
 ·show k'<=(((e_ tri x).filter (okT (s.ord++[b]) (s.num.set b.toNat k') k')).length:Int)
  have hx1:x∉s.ord:=λhm=>hx (List.mem_append_left _ hm)
  have hgx:e_ s.gone x=false:=by
   cases hg:e_ s.gone x with
   |false=>rfl
   |true=>exact absurd ((h.gone x x0 x1).1 hg) hx1
  have h2:=okm x x0 x1 k' (Int.le_refl _)
  by_cases hc:s.k<=e_ s.sup b
  ·have h1:=live x x0 x1 k'
   have h3:=hS x x0 x1 hgx
   obtain ⟨i,rfl⟩:=Int.eq_ofNat_of_zero_le x0
   have h4:=hbl i (by omega) hgx
   unfold cntT at h3
   omega
  ·have h1:=h.rest x x0 x1 hx1
   rw [show k'=s.k by omega] at h2 ⊢
   omega
theorem runTr_I{m:Nat}{tri:List (List Pt)}(hG:TriG tri)(h:TriOk m tri):∀j,j<=tri.length->SupI tri (runTr tri j)/\RunI tri (runTr tri j)
 |0,_=>⟨SupI.start tri,RunI.start tri⟩
 |j+1,hj=>by
  obtain ⟨h1,h2⟩:=runTr_I hG h j (by omega)
  have hs:=runTr_ok h j (by omega)
  exact ⟨h1.step hG hs (by omega),h2.step hG hs (by omega) h1⟩
structure TrussE (tri:List (List Pt)) (num ord:List Int):Prop where
 nlen:num.length=tri.length
 olen:ord.length=tri.length
 nodup:ord.Nodup
 rng:∀x∈ord,0<=x/\x<tri.length
 asc:∀i:Nat,i+1<ord.length->e_ num (e_ ord i)<=e_ num (e_ ord ((i+1:Nat):Int))
 later:∀i:Nat,i<ord.length->(((e_ tri (e_ ord i)).filter λp=>decide (p.u∈List.drop (i+1) ord/\p.v∈List.drop (i+1) ord)).length:Int)<=e_ num (e_ ord i)
 high:∀i:Nat,i<ord.length->e_ num (e_ ord i)<=(((e_ tri (e_ ord i)).filter λp=>decide (e_ num (e_ ord i)<=e_ num p.u/\e_ num (e_ ord i)<=e_ num p.v)).length:Int)
theorem trussE{m:Nat}{tri:List (List Pt)}(hG:TriG tri)(h:TriOk m tri):TrussE tri (trussN tri) (trussO tri):=by
 have hs:=runTr_ok h tri.length (Nat.le_refl _)
 obtain ⟨_,hR⟩:=runTr_I hG h tri.length (Nat.le_refl _)
 have hol:(trussO tri).length=tri.length:=hs.olen
 have hall:∀x:Int,0<=x->x<tri.length->x∈trussO tri:=λx x0 x1=>by
  have hc:=hs.cnt
  have h0:(runTr tri tri.length).gone.count false=0:=by omega
  refine (hR.gone x x0 x1).1 ?_
  cases hg:e_ (runTr tri tri.length).gone x with
  |true=>rfl
  |false=>
   exfalso
   have hm:=at_mem (xs:=(runTr tri tri.length).gone) x0 (by have:=hs.glen;omega)
   rw [hg] at hm
   have:=List.count_pos_iff.2 hm
   omega
 have hpr:=fun (x:Int) (hx:x∈trussO tri) p hp=>(hG.rng x (hR.rng x hx).1 (hR.rng x hx).2 p hp).1
 refine ⟨hs.nlen,hol,hR.nodup,hR.rng,λi hi=>?_,λi hi=>?_,λi hi=>?_⟩
 ·rw [at_get _ i (by omega),at_get _ (i+1) hi]
  exact (List.pairwise_iff_getElem.1 hR.asc) i (i+1) (by show i<(trussO tri).length;omega) hi (by omega)
 ·have hsp:trussO tri=(trussO tri).take i++e_ (trussO tri) i::(trussO tri).drop (i+1):=by
   rw [at_get _ i hi,←List.drop_eq_getElem_cons hi,List.take_append_drop]
  have h1:=hR.later _ _ _ hsp
  refine Int.le_trans (Int.ofNat_le.2 (filter_mono λp hp ho=>?_)) h1
  unfold outT
  rw [decide_eq_true_eq] at ho ⊢
  have hn:=hR.nodup
  have hn2:(trussO tri).Nodup:=hn
  rw [hsp] at hn2
  have hd:=(List.nodup_append.1 hn2)
  have one:∀e,e∈List.drop (i+1) (trussO tri)->e∉(trussO tri).take i++[e_ (trussO tri) i]:=λe he hm=>by
   rcases List.mem_append.1 hm with hm|hm
   ·exact hd.2.2 e hm e (List.mem_cons_of_mem _ he) rfl
   ·rw [List.mem_singleton.1 hm] at he
    exact (List.nodup_cons.1 hd.2.1).1 he
  exact ⟨one _ ho.1,one _ ho.2⟩
 ·have hx:=at_mem (xs:=trussO tri) (i:=(i:Int)) (by omega) (by omega)
  refine Int.le_trans (hR.high _ hx) (Int.ofNat_le.2 (filter_mono λp hp ho=>?_))
  have hr:=hpr _ hx p hp
  unfold okT at ho
  rw [decide_eq_true_eq] at ho ⊢
  exact ⟨ho.1 (hall _ (by omega) (by omega)),ho.2 (hall _ (by omega) (by omega))⟩
end Go.Sl
namespace Go.Sl
open Go.Proofs
set_option maxRecDepth 4000
section
variable {nd:Int}{es:List Pt}
theorem edgeP_inj{a b c d:Int}(h:edgeP a b=edgeP c d):(a=c/\b=d)\/(a=d/\b=c):=by
 unfold edgeP at h
 rw [Pt.ext_iff'] at h
 simp only at h
 obtain ⟨h1,h2⟩:=h
 repeat (first|omega|split at h1|split at h2)
theorem edgeP_self{e:Pt}(h:e.u<e.v):edgeP e.u e.v=e:=by
 unfold edgeP
 rw [if_neg om,if_pos h]
theorem mem_commonE(hG:GrOk nd es){u v w:Int}(h:u≠v):w∈commonG nd es u v↔edgeP u w∈es/\edgeP v w∈es:=by
 have hm:∀x:Int,w∈nbG nd es x↔edgeP x w∈es:=λx=>by
  unfold nbG
  rw [if_neg (by rw [checkG_ok.2 hG];decide),mem_ofL,mem_nbL]
  constructor
  ·rintro (h|h)
   ·have:=(hG.edge _ h).2.1
    rw [←edgeP_self this] at h;exact h
   ·have:=(hG.edge _ h).2.1
    rw [←edgeP_self this,edgeP_comm] at h;exact h
  ·intro h
   have hlt:=(hG.edge _ h).2.1
   rcases Int.lt_trichotomy x w with h1|h1|h1
   ·have e:edgeP x w=⟨x,w⟩:=edgeP_self (e:=⟨x,w⟩) h1
    exact .inl (e▸h)
   ·subst h1;unfold edgeP at hlt;simp at hlt
   ·have e:edgeP x w=⟨w,x⟩:=by rw [edgeP_comm];exact edgeP_self (e:=⟨w,x⟩) h1
    exact .inr (e▸h)
 unfold commonG
 rw [if_neg h,mem_meetL,hm,hm]
theorem edge_ne(hG:GrOk nd es){u w:Int}(h:edgeP u w∈es):u≠w:=λe=>by
 subst e
 have:=(hG.edge _ h).2.1
 unfold edgeP at this;simp at this
theorem idx_at(hG:GrOk nd es){e:Pt}(h:e∈es):(es.idxOf e)<es.length/\e_ es ((es.idxOf e:Nat):Int)=e:=by
 have h1:=List.idxOf_lt_length_of_mem h
 exact ⟨h1,by rw [C4 _ _ h1];exact List.getElem_idxOf h1⟩
theorem idx_eq(hG:GrOk nd es){i:Nat}(h:i<es.length):es.idxOf (e_ es i)=i:=by
 have hm:=Bf (xs:=es) (i:=(i:Int)) om om
 obtain ⟨h1,h2⟩:=idx_at hG hm
 generalize es.idxOf (e_ es i)=k at h1 h2
 have hn:=asc_nodup hG.asc
 rw [C4 _ _ h1,C4 _ i h] at h2
 rcases Nat.lt_trichotomy k i with h3|h3|h3
 ·exact absurd h2 ((List.pairwise_iff_getElem.1 hn) k i h1 h h3)
 ·exact h3
 ·exact absurd h2.symm ((List.pairwise_iff_getElem.1 hn) i k h h1 h3)
theorem idx_inj(hG:GrOk nd es){e f:Pt}(he:e∈es)(hf:f∈es)(h:es.idxOf e=es.idxOf f):e=f:=by
 rw [←(idx_at hG he).2,←(idx_at hG hf).2,h]
theorem tri_at{i:Int}(h0:0<=i)(h1:i<es.length):e_ (trisE nd es) i=triE nd es (e_ es i):=by
 obtain ⟨k,rfl⟩:=Int.eq_ofNat_of_zero_le h0
 unfold trisE
 rw [C4 _ k (by rw [List.length_map];omega),C4 _ k om,List.getElem_map]
theorem mem_triE(hG:GrOk nd es){e:Pt}(he:e∈es){p:Pt}:p∈triE nd es e↔∃w,edgeP e.u w∈es/\edgeP e.v w∈es/\p=⟨((es.idxOf (edgeP e.u w):Nat):Int),((es.idxOf (edgeP e.v w):Nat):Int)⟩:=by
 have hlt:=(hG.edge e he).2.1
 unfold triE
 rw [List.mem_map]
 constructor
 ·rintro ⟨w,hw,rfl⟩
  obtain ⟨h1,h2⟩:=(mem_commonE hG om).1 hw
  exact ⟨w,h1,h2,rfl⟩
 ·rintro ⟨w,h1,h2,rfl⟩
  exact ⟨w,(mem_commonE hG om).2 ⟨h1,h2⟩,rfl⟩
theorem triS_iff(hG:GrOk nd es){x y w:Int}(hxy:edgeP x y∈es)(hx:edgeP x w∈es)(hy:edgeP y w∈es):TriS (trisE nd es) ((es.idxOf (edgeP x y):Nat):Int) ((es.idxOf (edgeP x w):Nat):Int) ((es.idxOf (edgeP y w):Nat):Int):=by
 obtain ⟨h1,h2⟩:=idx_at hG hxy
 unfold TriS
 rw [tri_at om om,h2,mem_triE hG hxy,mem_triE hG hxy]
 rcases Int.lt_trichotomy x y with h|h|h
 ·have e:edgeP x y=⟨x,y⟩:=edgeP_self (e:=⟨x,y⟩) h
  rw [e]
  exact .inl ⟨w,hx,hy,rfl⟩
 ·exact absurd h (edge_ne hG hxy)
 ·have e:edgeP x y=⟨y,x⟩:=by rw [edgeP_comm];exact edgeP_self (e:=⟨y,x⟩) h
  rw [e]
  exact .inr ⟨w,hy,hx,rfl⟩
theorem triG(hG:GrOk nd es):TriG (trisE nd es):=by
 have hl:(trisE nd es).length=es.length:=List.length_map ..
 refine ⟨λi h0 h1 p hp=>?_,λi a b h0 h1 hT=>?_,λi h0 h1=>?_⟩
 ·rw [hl] at h1
  have he:=Bf (xs:=es) h0 h1
  have hlt:=(hG.edge _ he).2.1
  rw [tri_at h0 h1,mem_triE hG he] at hp
  obtain ⟨w,hu,hv,rfl⟩:=hp
  have a1:=(idx_at hG hu).1
  have a2:=(idx_at hG hv).1
  have n1:=edge_ne hG hu
  have n2:=edge_ne hG hv
  have hi:es.idxOf (e_ es i)=i.toNat:=by
   obtain ⟨k,rfl⟩:=Int.eq_ofNat_of_zero_le h0
   rw [idx_eq hG om];simp
  refine ⟨by simp only;omega,λe=>?_,λe=>?_,λe=>?_⟩
  ·have:=edgeP_inj (idx_inj hG hu hv (by simp only at e;omega));omega
  ·have h3:=idx_inj hG hu he (by simp only at e;omega)
   rw [←edgeP_self hlt] at h3
   have:=edgeP_inj h3;omega
  ·have h3:=idx_inj hG hv he (by simp only at e;omega)
   rw [←edgeP_self hlt] at h3
   have:=edgeP_inj h3;omega
 ·rw [hl] at h1
  have he:=Bf (xs:=es) h0 h1
  have hlt:=(hG.edge _ he).2.1
  have hi:i=((es.idxOf (edgeP (e_ es i).u (e_ es i).v):Nat):Int):=by
   rw [edgeP_self hlt]
   obtain ⟨k,rfl⟩:=Int.eq_ofNat_of_zero_le h0
   rw [idx_eq hG om]
  have he2:edgeP (e_ es i).u (e_ es i).v∈es:=by rw [edgeP_self hlt];exact he
  unfold TriS at hT
  rw [tri_at h0 h1,mem_triE hG he,mem_triE hG he] at hT
  rcases hT with ⟨w,hu,hv,e⟩|⟨w,hu,hv,e⟩
  ·rw [Pt.ext_iff'] at e
   obtain ⟨e1,e2⟩:=e
   simp only at e1 e2
   rw [e1,e2]
   have:=triS_iff hG (x:=(e_ es i).u) (y:=w) (w:=(e_ es i).v) hu he2 (by rw [edgeP_comm];exact hv)
   rw [edgeP_comm w,←hi] at this;exact this
  ·rw [Pt.ext_iff'] at e
   obtain ⟨e1,e2⟩:=e
   simp only at e1 e2
   rw [e1,e2]
   have:=triS_iff hG (x:=(e_ es i).v) (y:=w) (w:=(e_ es i).u) hv (by rw [edgeP_comm];exact he2) (by rw [edgeP_comm];exact hu)
   rw [edgeP_comm w,edgeP_comm (e_ es i).v (e_ es i).u,←hi] at this;exact this
 ·rw [hl] at h1
  have he:=Bf (xs:=es) h0 h1
  have hlt:=(hG.edge _ he).2.1
  rw [tri_at h0 h1]
  unfold triE
  have hasc:(commonG nd es (e_ es i).u (e_ es i).v).Pairwise (λx0 x1:Int=>x0<x1):=by
   unfold commonG;split
   ·exact List.Pairwise.nil
   ·unfold meetL;exact (ofL_asc _).sublist List.filter_sublist
  refine List.pairwise_map.2 (List.Pairwise.imp_of_mem (fun {w z} hw hz hwz=>?_) hasc)
  obtain ⟨w1,w2⟩:=(mem_commonE hG om).1 hw
  obtain ⟨z1,z2⟩:=(mem_commonE hG om).1 hz
  have q1:=edge_ne hG w1
  have q2:=edge_ne hG w2
  have q3:=edge_ne hG z1
  have q4:=edge_ne hG z2
  refine ⟨λe=>?_,λe=>?_,λe=>?_,λe=>?_⟩
  ·have:=edgeP_inj (idx_inj hG w1 z1 (by simp only at e;omega));omega
  ·have:=edgeP_inj (idx_inj hG w1 z2 (by simp only at e;omega));omega
  ·have:=edgeP_inj (idx_inj hG w2 z1 (by simp only at e;omega));omega
  ·have:=edgeP_inj (idx_inj hG w2 z2 (by simp only at e;omega));omega
end
section
variable {nd:Int}{es:List Pt}
theorem findP_idx(hG:GrOk nd es){u v y:Int}(h:FindP nd es u v y)(hm:edgeP u v∈es):y=((es.idxOf (edgeP u v):Nat):Int):=by
 rcases h with ⟨_,j,rfl,hj,e⟩|⟨_,h|h⟩
 ·rw [←e,idx_eq hG hj]
 ·exact absurd (checkG_ok.2 hG) h
 ·exact absurd hm h
theorem ftP_yes{xs:List Pt}(p:Pt->Bool){k:Nat}(h:k<xs.length)(hp:p (e_ xs k)=true):((((xs.take (k+1)).filter p).length:Nat):Int)=(((xs.take k).filter p).length:Nat)+1:=by
 rw [C6 _ k h,List.filter_append,List.length_append,List.filter_cons,if_pos hp];simp
theorem ftP_no{xs:List Pt}(p:Pt->Bool){k:Nat}(h:k<xs.length)(hp:p (e_ xs k)=false):((((xs.take (k+1)).filter p).length:Nat):Int)=(((xs.take k).filter p).length:Nat):=by
 rw [C6 _ k h,List.filter_append,List.length_append,List.filter_cons,hp];simp
theorem triE_len(hG:GrOk nd es){e:Pt}(he:e∈es):(triE nd es e).length<=nd.toNat - 1:=by
 unfold triE;rw [List.length_map];exact common_len hG he
theorem triE_rng(hG:GrOk nd es){e:Pt}(he:e∈es){p:Pt}(hp:p∈triE nd es e):(0<=p.u/\p.u<es.length)/\(0<=p.v/\p.v<es.length):=by
 obtain ⟨w,h1,h2,rfl⟩:=(mem_triE hG he).1 hp
 have a1:=(idx_at hG h1).1
 have a2:=(idx_at hG h2).1
 simp only;omega
end
set_option maxHeartbeats 1000000 in
theorem Pairs12_ok{κ:Ctx}{I:List Item}{nd:Int}{va:Value}{es:List Pt}(hl:Sl κ I va es)(hG:GrOk nd es)(i:Int)(h0:0<=i)(h1:i<es.length)(hb:es.length<=1000000):eu Tryz.prog κ 120 [.agg #[e7 nd,va],e7 i] I (λr J=>∃a c,r = .slice a (triE nd es (e_ es i)).length c/\J=vc 64 (.slice a (triE nd es (e_ es i)).length c) (triE nd es (e_ es i))::I):=by
 have hrng:=hG.rng
 have he:=Bf (xs:=es) h0 h1
 have hcl:=common_len hG he
 refine Ce2 Tryz.func120 C C ?_
 refine Ai (Ge1 (A9 (cs:=[_,_]) C C C) λb1=>Ga C (Af (Ai (Ga C (Af (Ai (Gf fld48_1 C (Gl ty46 ?_))))))))
 refine Gm C (Gr (Az (α:=Pt) (xs:=es) Bh ty135 C C (Ba hl) om om) (Gr (Bz (α:=Pt) (xs:=es) ty135 C (Ba hl) om om) (Ge1 (Au ty135 C) λb2=>Ge0 (Bq ty135) ?_)))
 refine Af (Ap (Ai (Gl2 ty48 ?_)))
 refine Gf fld135_0 C (Gl ef ?_)
 refine Gf fld135_1 C (Gl ef ?_)
 refine Gc2 (Ah call203 C C (Common03_ok (nd:=nd) (Ba hl) ((e_ es i).u) ((e_ es i).v) om)) λad3 cp4=>?_
 refine Gr (Bs Ac C) (Gm C (Af (Aq (S6 21 20 19 6 5 2 C C C C C C) (A0 (B1 (σ:=Nat×(Option Addr)×Nat×(List Pt)) (λs=>([(2,.pointer (some ⟨b1,0,none⟩)),(5,.slice s.2.1 s.2.2.2.length s.2.2.1),(6,.pointer (some ⟨b2,0,none⟩)),(19,.slice ad3 (commonG nd es ((e_ es i).u) ((e_ es i).v)).length cp4),(20,e7 ((((commonG nd es ((e_ es i).u) ((e_ es i).v)).length:Nat):Int))),(21,e7 ((s.1:Nat):Int))]:Env)) (λs=>vc 64 (.slice s.2.1 s.2.2.2.length s.2.2.1) (s.2.2.2)::vc 3 (.slice ad3 (commonG nd es ((e_ es i).u) ((e_ es i).v)).length cp4) (commonG nd es ((e_ es i).u) ((e_ es i).v))::e8 b2 [e7 ((e_ es i).u),e7 ((e_ es i).v)] 135::e8 b1 [e7 nd,va] 48::I) (λs=>(s.1<=(commonG nd es (e_ es i).u (e_ es i).v).length)/\(s.2.2.2=((commonG nd es (e_ es i).u (e_ es i).v).take s.1).map (λw=>(⟨((es.idxOf (edgeP (e_ es i).u w):Nat):Int),((es.idxOf (edgeP (e_ es i).v w):Nat):Int)⟩:Pt)))) (λs=>(commonG nd es (e_ es i).u (e_ es i).v).length - s.1) (0,none,0,[]) (show ((0:Nat)<=(commonG nd es (e_ es i).u (e_ es i).v).length)/\(([]:List Pt)=((commonG nd es (e_ es i).u (e_ es i).v).take (0:Nat)).map (λw=>(⟨((es.idxOf (edgeP (e_ es i).u w):Nat):Int),((es.idxOf (edgeP (e_ es i).v w):Nat):Int)⟩:Pt))) from ⟨om,rfl⟩) (Aa C (Aa (Dl C (by first|rfl|simp)) (Aa C (Aa C (Aa C (Aa Ca Bp)))))) (show Fit κ _ (vc 64 (.slice none ([]).length 0) (([]))::vc 3 (.slice ad3 (commonG nd es ((e_ es i).u) ((e_ es i).v)).length cp4) (commonG nd es ((e_ es i).u) ((e_ es i).v))::e8 b2 [e7 ((e_ es i).u),e7 ((e_ es i).v)] 135::e8 b1 [e7 nd,va] 48::I) from (B2 _ _)) ?_)))))
 rintro ⟨k,oa,oc,out⟩ hp
 dsimp only at hp ⊢
 obtain ⟨hk,ho⟩:=hp
 have hol:out.length=k:=by rw [ho,List.length_map,List.length_take];omega
 have hwa:k<(commonG nd es (e_ es i).u (e_ es i).v).length->edgeP (e_ es i).u (e_ (commonG nd es (e_ es i).u (e_ es i).v) (k:Int))∈es/\edgeP (e_ es i).v (e_ (commonG nd es (e_ es i).u (e_ es i).v) (k:Int))∈es:=λh=>common_mem hG he (Bf om om)
 refine Ai (Gr (A7 C C) (Af (Ap (A8 C (λc22=>?_) (λc22=>?_)))))
 ·refine Ay (Aj (Ap (A0 (Ai (Gr (Az (α:=Int) (xs:=commonG nd es ((e_ es i).u) ((e_ es i).v)) Ac ef C C Bk om om) (Gr (Bo (xs:=commonG nd es ((e_ es i).u) ((e_ es i).v)) ef C Bk om om) (Ga C (Af (Bl mixed (Bt (vc 3 (.slice ad3 (commonG nd es ((e_ es i).u) ((e_ es i).v)).length cp4) (commonG nd es ((e_ es i).u) ((e_ es i).v))::e8 b2 [e7 ((e_ es i).u),e7 ((e_ es i).v)] 135::e8 b1 [e7 nd,va] 48::I) 15 (Dr 0 C (Ad C) (Dr 1 C (Bd (vs:=[_,_]) ty48) ?_))))))))))))
  refine Dr 2 C (Ab fld135_0 C) (Dr 3 C (As ef) ?_)
  refine Dr 4 C (Ad C) (Dr 6 C (Bd (vs:=[_,_]) ty48) ?_)
  refine Dr 7 C (Ab fld135_1 C) (Dr 8 C (As ef) ?_)
  refine Dr 9 C (Ad C) (Ds1 5 (Se C (Ah call64 C C (FindP03_ok (nd:=nd) (Ba hl) ((e_ es i).u) (e_ (commonG nd es ((e_ es i).u) ((e_ es i).v)) (k:Int)))) ?_))
  rintro _ _ ⟨_,_,⟨yfa,rfl,hyfa,rfl⟩,rfl,rfl⟩
  refine ⟨A1,?_⟩
  have eyfa:=findP_idx hG hyfa (hwa om).1
  refine Ds1 10 (Se C (Ah call64 C C (FindP03_ok (nd:=nd) (Ba hl) ((e_ es i).v) (e_ (commonG nd es ((e_ es i).u) ((e_ es i).v)) (k:Int)))) ?_)
  rintro _ _ ⟨_,_,⟨yfb,rfl,hyfb,rfl⟩,rfl,rfl⟩
  refine ⟨A1,?_⟩
  have eyfb:=findP_idx hG hyfb (hwa om).2
  refine Dr 11 C (Runs.buildArr (cells:=[_,_]) ty64 B3 ef C C) (Ds1 12 (Se1 C (Cf (α:=Pt) (cs:=[_,_]) (xs:=[⟨yfa,yfb⟩]) Ch ty64 C C dc dc C C C C) λad5=>?_))
  refine Ds1 13 (Se2 C (Cm (α:=Pt) (e:=64) (xs:=out) (ys:=([⟨yfa,yfb⟩]:List Pt)) Ch ty64 C C C mm Bk lcn dc C (λ_ _=>am)) λad6 cp7=>?_)
  exact Dr 14 C (Bb C) (Dz (Ak (Aj (Aq (S6 5 2 6 19 20 21 C C C C C C) (Ax (Gr (Rad C C) (Gm C (Bi (B5 ((k+1),(ad6),(cp7),(out++([⟨yfa,yfb⟩]:List Pt))) (by dsimp only;exact ⟨om,(by rw [C6 _ k om,List.map_append,←ho,eyfa,eyfb];rfl)⟩))))))))))
 ·refine Bv (Al (Al (A5 (Aj (Ai (Gm C (Ga C (Af (A2 ?_)))))))))
  have hX:(triE nd es (e_ es i))=out:=by rw [ho,List.take_of_length_le om];rfl
  exact A6 C C (vc 64 (.slice oa (triE nd es (e_ es i)).length oc) (triE nd es (e_ es i))::I) (by rw [hX];exact A1) ⟨oa,oc,by rw [hX],rfl⟩
set_option maxHeartbeats 1000000 in
theorem Within12_ok{κ:Ctx}{I:List Item}{nd:Int}{va:Value}{es:List Pt}{la:Option Addr}{lc:Nat}{l:List Int}(hl:Sl κ I va es)(hs:Sl κ I (.slice la l.length lc) l)(hG:GrOk nd es)(i:Int)(h0:0<=i)(h1:i<es.length)(hb:es.length<=1000000):eu Tryz.prog κ 121 [.agg #[e7 nd,va],e7 i,.slice la l.length lc] I (λr J=>r=e7 ((((triE nd es (e_ es i)).filter (λp:Pt=>decide (p.u∈l/\p.v∈l))).length:Nat):Int)/\I=J):=by
 have hrng:=hG.rng
 have hte:=triE_len hG (Bf (xs:=es) h0 h1)
 refine Ce3 Tryz.func121 C C ?_
 refine Ai (Ge1 (A9 (cs:=[_,_]) C C C) λb1=>Ga C (Af (Ai (Ga C (Af (Ap (Ai (Gl2 ty48 ?_))))))))
 refine Gm C (G.e (Ah call120 C C (Pairs12_ok (nd:=nd) (Ba hl) hG i om om om)) ?_)
 rintro _ _ ⟨_,_,⟨ad2,cp3,rfl,rfl⟩,rfl,rfl⟩
 refine Gr (Bs Ch C) (Gm C (Af (A0 (B1 (σ:=Nat×Int) (λs=>([(2,.slice la l.length lc),(7,e7 (s.2)),(12,.slice ad2 (triE nd es (e_ es i)).length cp3),(13,e7 ((((triE nd es (e_ es i)).length:Nat):Int))),(14,e7 ((s.1:Nat):Int))]:Env)) (λs=>vc 64 (.slice ad2 (triE nd es (e_ es i)).length cp3) ((triE nd es (e_ es i)))::e8 b1 [e7 nd,va] 48::I) (λs=>(s.1<=(triE nd es (e_ es i)).length)/\(s.2=((((triE nd es (e_ es i)).take s.1).filter (λp:Pt=>decide (p.u∈l/\p.v∈l))).length:Int))) (λs=>(triE nd es (e_ es i)).length - s.1) (0,0) (show ((0:Nat)<=(triE nd es (e_ es i)).length)/\((0:Int)=((((triE nd es (e_ es i)).take (0:Nat)).filter (λp:Pt=>decide (p.u∈l/\p.v∈l))).length:Int)) from ⟨om,rfl⟩) (Aa C (Aa Ca (Aa C (Aa C (Aa Ca Bp))))) (show Fit κ _ (vc 64 (.slice ad2 (triE nd es (e_ es i)).length cp3) ((triE nd es (e_ es i)))::e8 b1 [e7 nd,va] 48::I) from A1) ?_))))
 rintro ⟨k,n⟩ hp
 dsimp only at hp ⊢
 obtain ⟨hk,hn⟩:=hp
 have hfl:=List.length_filter_le (λp:Pt=>decide (p.u∈l/\p.v∈l)) ((triE nd es (e_ es i)).take k)
 rw [List.length_take] at hfl
 refine Ai (Gr (A7 C C) (Af (Ap (A8 C (λc15=>?_) (λc15=>?_)))))
 ·refine Ay (Aj (Ap (A0 (Ai (Gr (Az (α:=Pt) (xs:=(triE nd es (e_ es i))) Ch ty64 C C Bk om om) (Gr (Bz (α:=Pt) (xs:=(triE nd es (e_ es i))) ty64 C Bk om om) (Ge1 (Au ty64 C) λb4=>Ge0 (Bq ty64) ?_)))))))
  refine Af (Ai (Gm C (Gr (Cb B3 ty2 C C om om) (Gl ef ?_))))
  refine Gc0 (Ah call72 C C (RHas_ok (Ba hs) ((e_ (triE nd es (e_ es i)) (k:Int)).u))) ?_
  refine Gm C (Bg (d:=22) C (λg22=>?_) (λg22=>?_))
  ·refine e9 (Ad C) (e9 (Cb B3 ty2 C C om om) (e9 (As ef) ?_))
   refine D5 (Ck C C C) (Ah call72 C C (RHas_ok (Ba hs) ((e_ (triE nd es (e_ es i)) (k:Int)).v))) ?_
   rintro _ _ ⟨_,_,⟨rfl,rfl⟩,rfl,rfl⟩
   refine Gr (Ar C C) (Af (Aq (S6 27 2 7 12 13 14 C C C C C C) (A8 C (λc27=>?_) (λc27=>?_))))
   ·exact Ax (Gm C (Gr (Rad C C) (Ga C (Bi (Ak (Aj (Ax (Gr (Rad C C) (Gm C (Bi (B5 ((k+1),(n+1)) (by dsimp only;exact ⟨om,(by first|(rw [ftP_yes (λp:Pt=>decide (p.u∈l/\p.v∈l)) om (decide_eq_true ⟨g22,c27⟩),hn])|(rw [ftP_no (λp:Pt=>decide (p.u∈l/\p.v∈l)) om (decide_eq_false λh=>c27 h.2),hn])|(rw [ftP_no (λp:Pt=>decide (p.u∈l/\p.v∈l)) om (decide_eq_false λh=>g22 h.1),hn]))⟩))))))))))))
   ·exact Ay (Ak (Aj (Ax (Gr (Rad C C) (Gm C (Bi (B5 ((k+1),(n)) (by dsimp only;exact ⟨om,(by first|(rw [ftP_yes (λp:Pt=>decide (p.u∈l/\p.v∈l)) om (decide_eq_true ⟨g22,c27⟩),hn])|(rw [ftP_no (λp:Pt=>decide (p.u∈l/\p.v∈l)) om (decide_eq_false λh=>c27 h.2),hn])|(rw [ftP_no (λp:Pt=>decide (p.u∈l/\p.v∈l)) om (decide_eq_false λh=>g22 h.1),hn]))⟩))))))))
  ·exact eb (eb (eb (eb (Gr (Ao C C) (Af (Aq (S6 27 2 7 12 13 14 C C C C C C) (C2 C (Ay (Ak (Aj (Ax (Gr (Rad C C) (Gm C (Bi (B5 ((k+1),(n)) (by dsimp only;exact ⟨om,(by first|(rw [ftP_yes (λp:Pt=>decide (p.u∈l/\p.v∈l)) om (decide_eq_true ⟨g22,c27⟩),hn])|(rw [ftP_no (λp:Pt=>decide (p.u∈l/\p.v∈l)) om (decide_eq_false λh=>c27 h.2),hn])|(rw [ftP_no (λp:Pt=>decide (p.u∈l/\p.v∈l)) om (decide_eq_false λh=>g22 h.1),hn]))⟩))))))))))))))))
 ·refine Bv (Al (Al (A5 (Aj (Ai (Gm C (Ga C (Af (A2 ?_)))))))))
  rw [List.take_of_length_le om] at hn
  exact A6 C C I A3 ⟨by rw [hn],rfl⟩
set_option maxHeartbeats 2000000 in
theorem Check12_ok{κ:Ctx}{I:List Item}{nd:Int}{va:Value}{es:List Pt}{na oa:Option Addr}{nc oc:Nat}{num ord:List Int}(hl:Sl κ I va es)(hm:Sl κ I (.slice na num.length nc) num)(hs:Sl κ I (.slice oa ord.length oc) ord)(hG:GrOk nd es)(hE:TrussE (trisE nd es) num ord)(hb:es.length<=1000):eu Tryz.prog κ 65 [.agg #[e7 nd,va],.slice na num.length nc,.slice oa ord.length oc] I (λr J=>r=e7 0/\I=J):=by
 have hrng:=hG.rng
 have htl:(trisE nd es).length=es.length:=List.length_map ..
 have hoL:=hE.olen
 have hnL:=hE.nlen
 have hrg:=hE.rng
 rw [htl] at hoL hnL hrg
 refine Ce3 Tryz.func65 C C ?_
 refine Ai (Ge1 (A9 (cs:=[_,_]) C C C) λb1=>Ga C (Af (Ap (Ai (Gl2 ty48 ?_)))))
 refine G.e (Ah call30 C C (Check03G_ok (nd:=nd) (Ba hl))) ?_
 rintro _ _ ⟨_,_,⟨rfl,rfl⟩,rfl,rfl⟩
 refine Ga C (Af (Ai (Gm C (Gr (Br C C) (Af (A8 C (λc16=>?_) (λc16=>?_)))))))
 ·exact absurd (checkG_ok.2 hG) c16
 ·refine Ay (Aj (Ap (Ai (Gm C (Gr (Bs Ac C) (Gf fld48_1 C (Gl ty46 ?_)))))))
  refine Gr (B0 (α:=Pt) (xs:=es) Bh C (Ba hl)) (Gr (Br C C) (Gm C (Bg (d:=24) C (λg24=>?_) (λg24=>?_))))
  ·exfalso;omega
  ·refine e9 (Ad C) (e9 (Ab fld48_1 C) (e9 (As ty46) ?_))
   refine e9 (B0 (α:=Pt) (xs:=es) Bh C (Ba hl)) (D5 (Ck C C C) (Ah call113 C C (All10_ok (ord:=ord) (n:=((es.length:Nat):Int)) (Ba hs) hE.nodup om hrg om)) ?_)
   rintro _ _ ⟨_,_,⟨rfl,rfl⟩,rfl,rfl⟩
   refine e9 (B4 C) (Gr (Ao C C) (Af (Aq (S4 31 3 1 2 C C C C) (C2 C (Ay (Aj (Ap (Ai (Gm C (Gr (Bs Ac C) (Gm C (Af (A0 (B1 (σ:=Nat) (λs=>([(1,.slice na num.length nc),(2,.slice oa ord.length oc),(3,.pointer (some ⟨b1,0,none⟩)),(32,.slice oa ord.length oc),(33,e7 ((ord.length:Nat):Int)),(34,e7 ((s:Nat):Int))]:Env)) (λs=>e8 b1 [e7 nd,va] 48::I) (λs=>(s<=ord.length)) (λs=>ord.length - s) 0 (show ((0:Nat)<=ord.length) from om) (Aa C (Aa C (Aa C (Aa C (Aa C (Aa Ca Bp)))))) (show Fit κ _ (e8 b1 [e7 nd,va] 48::I) from A1) ?_))))))))))))))
   rintro k hp
   have hk:=hp
   have hov:=λh:k<ord.length=>hrg _ (Bf (xs:=ord) (i:=((k:Nat):Int)) om om)
   refine Ai (Gr (A7 C C) (Af (Ap (A8 C (λc35=>?_) (λc35=>?_)))))
   ·refine Ay (Aj (Ap (A0 (Ai (Gm C (Gr (Az (α:=Int) (xs:=ord) Ac ef C C (Ba hs) (by first|omega|(have h1:=hrg _ (Bf (xs:=ord) (i:=(k:Int) - 1) om om);omega)) (by first|omega|(have h1:=hrg _ (Bf (xs:=ord) (i:=(k:Int) - 1) om om);omega))) (Gr (Bo (xs:=ord) ef C (Ba hs) (by first|omega|(have h1:=hrg _ (Bf (xs:=ord) (i:=(k:Int) - 1) om om);omega)) (by first|omega|(have h1:=hrg _ (Bf (xs:=ord) (i:=(k:Int) - 1) om om);omega))) (Ga C (Ga C ?_)))))))))
    have hov1:=hov om
    have hme:=Bf (xs:=es) hov1.1 hov1.2
    have hte:=triE_len hG hme
    refine Af (Ai (Ga C (Af (Ap (Ai (Gl2 ty48 ?_))))))
    refine Gm C (G.e (Ah call120 C C (Pairs12_ok (nd:=nd) (Ba hl) hG (e_ ord k) om om om)) ?_)
    rintro _ _ ⟨_,_,⟨ad2,cp3,rfl,rfl⟩,rfl,rfl⟩
    refine Gr (Bs Ch C) (Gm C (Af (Aq (S12 43 42 41 10 9 8 1 2 3 32 33 34 C C C C C C C C C C C C) (A0 (B1 (σ:=Nat×Int) (λs=>([(1,.slice na num.length nc),(2,.slice oa ord.length oc),(3,.pointer (some ⟨b1,0,none⟩)),(8,e7 ((k:Int))),(9,e7 (e_ ord k)),(10,e7 (s.2)),(32,.slice oa ord.length oc),(33,e7 ((ord.length:Nat):Int)),(34,e7 ((k:Int))),(41,.slice ad2 (triE nd es (e_ es (e_ ord k))).length cp3),(42,e7 ((((triE nd es (e_ es (e_ ord k))).length:Nat):Int))),(43,e7 ((s.1:Nat):Int))]:Env)) (λs=>vc 64 (.slice ad2 (triE nd es (e_ es (e_ ord k))).length cp3) ((triE nd es (e_ es (e_ ord k))))::e8 b1 [e7 nd,va] 48::I) (λs=>(s.1<=(triE nd es (e_ es (e_ ord k))).length)/\(s.2=((((triE nd es (e_ es (e_ ord k))).take s.1).filter (λp:Pt=>decide (e_ num (e_ ord k)<=e_ num p.u/\e_ num (e_ ord k)<=e_ num p.v))).length:Int))) (λs=>(triE nd es (e_ es (e_ ord k))).length - s.1) (0,0) (show ((0:Nat)<=(triE nd es (e_ es (e_ ord k))).length)/\((0:Int)=((((triE nd es (e_ es (e_ ord k))).take (0:Nat)).filter (λp:Pt=>decide (e_ num (e_ ord k)<=e_ num p.u/\e_ num (e_ ord k)<=e_ num p.v))).length:Int)) from ⟨om,rfl⟩) (Aa C (Aa C (Aa C (Aa C (Aa C (Aa Ca (Aa C (Aa C (Aa C (Aa C (Aa C (Aa Ca Bp)))))))))))) (show Fit κ _ (vc 64 (.slice ad2 (triE nd es (e_ es (e_ ord k))).length cp3) ((triE nd es (e_ es (e_ ord k))))::e8 b1 [e7 nd,va] 48::I) from A1) ?_)))))
    rintro ⟨j,hi⟩ hp
    dsimp only at hp ⊢
    obtain ⟨hj,hhi⟩:=hp
    have hwr:=λh:j<(triE nd es (e_ es (e_ ord ((k:Nat):Int)))).length=>triE_rng hG hme (Bf (xs:=(triE nd es (e_ es (e_ ord ((k:Nat):Int))))) (i:=((j:Nat):Int)) om om)
    have hfl:=List.length_filter_le (λp:Pt=>decide (e_ num (e_ ord k)<=e_ num p.u/\e_ num (e_ ord k)<=e_ num p.v)) ((triE nd es (e_ es (e_ ord k))).take j)
    rw [List.length_take] at hfl
    refine Ai (Gr (A7 C C) (Af (Ap (A8 C (λc44=>?_) (λc44=>?_)))))
    ·refine Ay (Aj (Ap (A0 (Ai (Gr (Az (α:=Pt) (xs:=(triE nd es (e_ es (e_ ord k)))) Ch ty64 C C Bk (by first|omega|(have h1:=hrg _ (Bf (xs:=ord) (i:=(k:Int) - 1) om om);omega)) (by first|omega|(have h1:=hrg _ (Bf (xs:=ord) (i:=(k:Int) - 1) om om);omega))) (Gr (Bz (α:=Pt) (xs:=(triE nd es (e_ es (e_ ord k)))) ty64 C Bk (by first|omega|(have h1:=hrg _ (Bf (xs:=ord) (i:=(k:Int) - 1) om om);omega)) (by first|omega|(have h1:=hrg _ (Bf (xs:=ord) (i:=(k:Int) - 1) om om);omega))) (Ge1 (Au ty64 C) λb4=>Ge0 (Bq ty64) ?_)))))))
     refine Af (Aq (S13 12 1 2 3 8 9 10 32 33 34 41 42 43 C C C C C C C C C C C C C) (Ap (Bl mixed (Bt (e8 b4 [e7 ((e_ (triE nd es (e_ es (e_ ord k))) (j:Int)).u),e7 ((e_ (triE nd es (e_ es (e_ ord k))) (j:Int)).v)] 64::vc 64 (.slice ad2 (triE nd es (e_ es (e_ ord k))).length cp3) ((triE nd es (e_ es (e_ ord k))))::e8 b1 [e7 nd,va] 48::I) 22 (Dr 0 C (Ad C) (Dr 1 C (Cb B3 ty2 C C om om) (Dr 2 C (As ef) ?_)))))))
     refine Dr 3 C (Az (α:=Int) (xs:=num) Ac ef C C (Ba hm) (by first|omega|(have h1:=hrg _ (Bf (xs:=ord) (i:=(k:Int) - 1) om om);omega)) (by first|omega|(have h1:=hrg _ (Bf (xs:=ord) (i:=(k:Int) - 1) om om);omega))) (Dr 4 C (Bo (xs:=num) ef C (Ba hm) (by first|omega|(have h1:=hrg _ (Bf (xs:=ord) (i:=(k:Int) - 1) om om);omega)) (by first|omega|(have h1:=hrg _ (Bf (xs:=ord) (i:=(k:Int) - 1) om om);omega))) (Dr 5 C (Ad C) (Dr 6 C (Ad C) (Dr 7 C (Az (α:=Int) (xs:=num) Ac ef C C (Ba hm) (by first|omega|(have h1:=hrg _ (Bf (xs:=ord) (i:=(k:Int) - 1) om om);omega)) (by first|omega|(have h1:=hrg _ (Bf (xs:=ord) (i:=(k:Int) - 1) om om);omega))) (Dr 8 C (Bo (xs:=num) ef C (Ba hm) (by first|omega|(have h1:=hrg _ (Bf (xs:=ord) (i:=(k:Int) - 1) om om);omega)) (by first|omega|(have h1:=hrg _ (Bf (xs:=ord) (i:=(k:Int) - 1) om om);omega))) (Dr 9 C (B9 C C) (Dr 10 C (Ad C) (Cs (d:=57) C (λg57=>?_) (λg57=>?_)))))))))
     ·refine Dro 11 C (Ad C) (Dro 12 C (Cb B3 ty2 C C om om) (Dro 13 C (As ef) ?_))
      refine Dro 14 C (Az (α:=Int) (xs:=num) Ac ef C C (Ba hm) (by first|omega|(have h1:=hrg _ (Bf (xs:=ord) (i:=(k:Int) - 1) om om);omega)) (by first|omega|(have h1:=hrg _ (Bf (xs:=ord) (i:=(k:Int) - 1) om om);omega))) (Dro 15 C (Bo (xs:=num) ef C (Ba hm) (by first|omega|(have h1:=hrg _ (Bf (xs:=ord) (i:=(k:Int) - 1) om om);omega)) (by first|omega|(have h1:=hrg _ (Bf (xs:=ord) (i:=(k:Int) - 1) om om);omega))) (Dro 16 C (Ad C) (Dro 17 C (Ad C) (Dro 18 C (Az (α:=Int) (xs:=num) Ac ef C C (Ba hm) (by first|omega|(have h1:=hrg _ (Bf (xs:=ord) (i:=(k:Int) - 1) om om);omega)) (by first|omega|(have h1:=hrg _ (Bf (xs:=ord) (i:=(k:Int) - 1) om om);omega))) (Dro 19 C (Bo (xs:=num) ef C (Ba hm) (by first|omega|(have h1:=hrg _ (Bf (xs:=ord) (i:=(k:Int) - 1) om om);omega)) (by first|omega|(have h1:=hrg _ (Bf (xs:=ord) (i:=(k:Int) - 1) om om);omega))) (Dro 20 C (B9 C C) (Dr 21 C (Ar C C) (Dz (Aj (Aq (S13 68 1 2 3 8 9 10 32 33 34 41 42 43 C C C C C C C C C C C C C) (A8 C (λc68=>?_) (λc68=>?_))))))))))))
      ·exact Ax (Gm C (Gr (Rad C C) (Ga C (Bi (Ak (Aj (Aq (S12 10 1 2 3 8 9 32 33 34 41 42 43 C C C C C C C C C C C C) (Ax (Gr (Rad C C) (Gm C (Bi (B5 ((j+1),(hi+1)) (by dsimp only;exact ⟨om,(by first|(rw [ftP_yes (λp:Pt=>decide (e_ num (e_ ord k)<=e_ num p.u/\e_ num (e_ ord k)<=e_ num p.v)) om (decide_eq_true ⟨g57,c68⟩),hhi])|(rw [ftP_no (λp:Pt=>decide (e_ num (e_ ord k)<=e_ num p.u/\e_ num (e_ ord k)<=e_ num p.v)) om (decide_eq_false λh=>c68 h.2),hhi])|(rw [ftP_no (λp:Pt=>decide (e_ num (e_ ord k)<=e_ num p.u/\e_ num (e_ ord k)<=e_ num p.v)) om (decide_eq_false λh=>g57 h.1),hhi]))⟩)))))))))))))
      ·exact Ay (Ak (Aj (Ax (Gr (Rad C C) (Gm C (Bi (B5 ((j+1),(hi)) (by dsimp only;exact ⟨om,(by first|(rw [ftP_yes (λp:Pt=>decide (e_ num (e_ ord k)<=e_ num p.u/\e_ num (e_ ord k)<=e_ num p.v)) om (decide_eq_true ⟨g57,c68⟩),hhi])|(rw [ftP_no (λp:Pt=>decide (e_ num (e_ ord k)<=e_ num p.u/\e_ num (e_ ord k)<=e_ num p.v)) om (decide_eq_false λh=>c68 h.2),hhi])|(rw [ftP_no (λp:Pt=>decide (e_ num (e_ ord k)<=e_ num p.u/\e_ num (e_ ord k)<=e_ num p.v)) om (decide_eq_false λh=>g57 h.1),hhi]))⟩))))))))
     ·exact Dpo 11 C (Dpo 12 C (Dpo 13 C (Dpo 14 C (Dpo 15 C (Dpo 16 C (Dpo 17 C (Dpo 18 C (Dpo 19 C (Dpo 20 C (Dr 21 C (Ao C C) (Dz (Aj (Aq (S13 68 1 2 3 8 9 10 32 33 34 41 42 43 C C C C C C C C C C C C C) (C2 C (Ay (Ak (Aj (Ax (Gr (Rad C C) (Gm C (Bi (B5 ((j+1),(hi)) (by dsimp only;exact ⟨om,(by first|(rw [ftP_yes (λp:Pt=>decide (e_ num (e_ ord k)<=e_ num p.u/\e_ num (e_ ord k)<=e_ num p.v)) om (decide_eq_true ⟨g57,c68⟩),hhi])|(rw [ftP_no (λp:Pt=>decide (e_ num (e_ ord k)<=e_ num p.u/\e_ num (e_ ord k)<=e_ num p.v)) om (decide_eq_false λh=>c68 h.2),hhi])|(rw [ftP_no (λp:Pt=>decide (e_ num (e_ ord k)<=e_ num p.u/\e_ num (e_ ord k)<=e_ num p.v)) om (decide_eq_false λh=>g57 h.1),hhi]))⟩)))))))))))))))))))))))
    ·refine Bv (Al (Al (A5 (Aj (Ap (Bl mixed (Bt (vc 64 (.slice ad2 (triE nd es (e_ es (e_ ord k))).length cp3) ((triE nd es (e_ es (e_ ord k))))::e8 b1 [e7 nd,va] 48::I) 39 (Dr 0 C (Ad C) (Dr 1 C (Bw C C) (Dr 2 C (Ad C) (Cs (d:=74) C (λg74=>?_) (λg74=>?_))))))))))))
     ·refine Dro 3 C (Ad C) (Dro 4 C (Ad C) (Dro 5 C (Ad C) (Dro 6 C (Rsu C C) (Dro 7 C (Az (α:=Int) (xs:=ord) Ac ef C C (Ba hs) (by first|omega|(have h1:=hrg _ (Bf (xs:=ord) (i:=(k:Int) - 1) om om);omega)) (by first|omega|(have h1:=hrg _ (Bf (xs:=ord) (i:=(k:Int) - 1) om om);omega))) (Dro 8 C (Bo (xs:=ord) ef C (Ba hs) (by first|omega|(have h1:=hrg _ (Bf (xs:=ord) (i:=(k:Int) - 1) om om);omega)) (by first|omega|(have h1:=hrg _ (Bf (xs:=ord) (i:=(k:Int) - 1) om om);omega))) (Dro 9 C (Az (α:=Int) (xs:=num) Ac ef C C (Ba hm) (by first|omega|(have h1:=hrg _ (Bf (xs:=ord) (i:=(k:Int) - 1) om om);omega)) (by first|omega|(have h1:=hrg _ (Bf (xs:=ord) (i:=(k:Int) - 1) om om);omega))) (Dro 10 C (Bo (xs:=num) ef C (Ba hm) (by first|omega|(have h1:=hrg _ (Bf (xs:=ord) (i:=(k:Int) - 1) om om);omega)) (by first|omega|(have h1:=hrg _ (Bf (xs:=ord) (i:=(k:Int) - 1) om om);omega))) (Dro 11 C (Ad C) (Dro 12 C (Ad C) (Dro 13 C (Az (α:=Int) (xs:=num) Ac ef C C (Ba hm) (by first|omega|(have h1:=hrg _ (Bf (xs:=ord) (i:=(k:Int) - 1) om om);omega)) (by first|omega|(have h1:=hrg _ (Bf (xs:=ord) (i:=(k:Int) - 1) om om);omega))) (Dro 14 C (Bo (xs:=num) ef C (Ba hm) (by first|omega|(have h1:=hrg _ (Bf (xs:=ord) (i:=(k:Int) - 1) om om);omega)) (by first|omega|(have h1:=hrg _ (Bf (xs:=ord) (i:=(k:Int) - 1) om om);omega))) (Dro 15 C (Bw C C) (Dr 16 C (Ar C C) (Dr 17 C (Ad C) (Cs (d:=89) C (λg89=>?_) (λg89=>?_))))))))))))))))
      ·exfalso;have h1:=hE.asc (k - 1) om;rw [show ((k - 1:Nat):Int)=(k:Int) - 1 by omega,show k - 1+1=k by omega] at h1;omega
      ·refine Dro 18 C (Bd (vs:=[_,_]) ty48) ?_
       refine Dro 19 C (Ad C) (Dro 20 C (Ad C) (Dro 21 C (Ad C) (Dro 22 C (Rad C C) (Dro 23 C (E0 (α:=Int) (xs:=ord) (l:=k+1) Ac ef C C om (Ba hs) om) (Dro 25 C (Ad C) (Dro 26 C (Ad C) (Dro 27 C (Az (α:=Int) (xs:=num) Ac ef C C (Ba hm) (by first|omega|(have h1:=hrg _ (Bf (xs:=ord) (i:=(k:Int) - 1) om om);omega)) (by first|omega|(have h1:=hrg _ (Bf (xs:=ord) (i:=(k:Int) - 1) om om);omega))) (Dro 28 C (Bo (xs:=num) ef C (Ba hm) (by first|omega|(have h1:=hrg _ (Bf (xs:=ord) (i:=(k:Int) - 1) om om);omega)) (by first|omega|(have h1:=hrg _ (Bf (xs:=ord) (i:=(k:Int) - 1) om om);omega))) (Ds1 24 (Sc0 C (Ah call121 C C (Within12_ok (nd:=nd) (Ba hl) (Sl.drop (Ba hs) om) hG (e_ ord k) om om om)) ?_))))))))))
       refine Dro 29 C (Bw C C) (Dr 30 C (Ao C C) (Dr 31 C (Ad C) (Cs (d:=103) C (λg103=>?_) (λg103=>?_))))
       ·exfalso;have h1:=hE.later k om;rw [tri_at hov1.1 hov1.2] at h1;omega
       ·refine Dro 32 C (Ad C) (Dro 33 C (Ad C) (Dro 34 C (Ad C) (Dro 35 C (Az (α:=Int) (xs:=num) Ac ef C C (Ba hm) (by first|omega|(have h1:=hrg _ (Bf (xs:=ord) (i:=(k:Int) - 1) om om);omega)) (by first|omega|(have h1:=hrg _ (Bf (xs:=ord) (i:=(k:Int) - 1) om om);omega))) (Dro 36 C (Bo (xs:=num) ef C (Ba hm) (by first|omega|(have h1:=hrg _ (Bf (xs:=ord) (i:=(k:Int) - 1) om om);omega)) (by first|omega|(have h1:=hrg _ (Bf (xs:=ord) (i:=(k:Int) - 1) om om);omega))) (Dro 37 C (A7 C C) (Dr 38 C (Ao C C) (Dz (Aj (Aq (S7 110 1 2 3 32 33 34 C C C C C C C) (A8 C (λc110=>?_) (λc110=>?_)))))))))))
        ·exfalso;have h1:=hE.high k om;rw [tri_at hov1.1 hov1.2] at h1;rw [List.take_of_length_le om] at hhi;omega
        ·exact Ay (Ak (Aj (Ax (Gr (Rad C C) (Gm C (Bi (B5 ((k+1)) om)))))))
     ·refine Dpo 3 C (Dpo 4 C (Dpo 5 C (Dpo 6 C (Dpo 7 C (Dpo 8 C (Dpo 9 C (Dpo 10 C (Dpo 11 C (Dpo 12 C (Dpo 13 C (Dpo 14 C (Dpo 15 C (Dr 16 C (Ao C C) (Dr 17 C (Ad C) (Dro 18 C (Bd (vs:=[_,_]) ty48) ?_)))))))))))))))
      refine Dro 19 C (Ad C) (Dro 20 C (Ad C) (Dro 21 C (Ad C) (Dro 22 C (Rad C C) (Dro 23 C (E0 (α:=Int) (xs:=ord) (l:=k+1) Ac ef C C om (Ba hs) om) (Dro 25 C (Ad C) (Dro 26 C (Ad C) (Dro 27 C (Az (α:=Int) (xs:=num) Ac ef C C (Ba hm) (by first|omega|(have h1:=hrg _ (Bf (xs:=ord) (i:=(k:Int) - 1) om om);omega)) (by first|omega|(have h1:=hrg _ (Bf (xs:=ord) (i:=(k:Int) - 1) om om);omega))) (Dro 28 C (Bo (xs:=num) ef C (Ba hm) (by first|omega|(have h1:=hrg _ (Bf (xs:=ord) (i:=(k:Int) - 1) om om);omega)) (by first|omega|(have h1:=hrg _ (Bf (xs:=ord) (i:=(k:Int) - 1) om om);omega))) (Ds1 24 (Sc0 C (Ah call121 C C (Within12_ok (nd:=nd) (Ba hl) (Sl.drop (Ba hs) om) hG (e_ ord k) om om om)) ?_))))))))))
      refine Dro 29 C (Bw C C) (Dr 30 C (Ao C C) (Dr 31 C (Ad C) (Cs (d:=103) C (λg103=>?_) (λg103=>?_))))
      ·exfalso;have h1:=hE.later k om;rw [tri_at hov1.1 hov1.2] at h1;omega
      ·refine Dro 32 C (Ad C) (Dro 33 C (Ad C) (Dro 34 C (Ad C) (Dro 35 C (Az (α:=Int) (xs:=num) Ac ef C C (Ba hm) (by first|omega|(have h1:=hrg _ (Bf (xs:=ord) (i:=(k:Int) - 1) om om);omega)) (by first|omega|(have h1:=hrg _ (Bf (xs:=ord) (i:=(k:Int) - 1) om om);omega))) (Dro 36 C (Bo (xs:=num) ef C (Ba hm) (by first|omega|(have h1:=hrg _ (Bf (xs:=ord) (i:=(k:Int) - 1) om om);omega)) (by first|omega|(have h1:=hrg _ (Bf (xs:=ord) (i:=(k:Int) - 1) om om);omega))) (Dro 37 C (A7 C C) (Dr 38 C (Ao C C) (Dz (Aj (Aq (S7 110 1 2 3 32 33 34 C C C C C C C) (A8 C (λc110=>?_) (λc110=>?_)))))))))))
       ·exfalso;have h1:=hE.high k om;rw [tri_at hov1.1 hov1.2] at h1;rw [List.take_of_length_le om] at hhi;omega
       ·exact Ay (Ak (Aj (Ax (Gr (Rad C C) (Gm C (Bi (B5 ((k+1)) om)))))))
   ·exact Bv (Al (Al (A5 (Aj (Ai (Ga C (Af (A2 (A6 C C I A3 ⟨rfl,rfl⟩)))))))))
end Go.Sl
