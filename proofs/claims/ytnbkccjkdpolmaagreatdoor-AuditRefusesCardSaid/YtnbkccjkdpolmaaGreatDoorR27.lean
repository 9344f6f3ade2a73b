/- A part of the proofs of statements of this seat: contracts of functions, and the plain laws that they lean on. No conditions. -/
import Derived.Test.YtnbkccjkdpolmaaGreatDoorR26
set_option linter.unusedVariables false
set_option linter.unusedSimpArgs false
set_option linter.unusedSectionVars false
open Go.Proofs.Tryz (prog)
namespace Go.Sl
open Go
section
def subs{α:Type}:List α->List (List α)
 |[]=>[[]]
 |x::l=>subs l++(subs l).map (x :: ·)
theorem filter_subs{α:Type}(p:α->Bool):∀l:List α,l.filter p∈subs l
 |[]=>by simp [subs]
 |x::l=>by
  have M:=filter_subs p l
  by_cases h:p x=true
  ·rw [List.filter_cons_of_pos h];simp only [subs,List.mem_append,List.mem_map];exact .inr ⟨_,M,rfl⟩
  rw [List.filter_cons_of_neg h];simp only [subs,List.mem_append];exact .inl M
def listAll(l:List Nat)(a:Array Bool):Array Bool:=l.foldl (λa i=>a.setIfInBounds i true) a
theorem listAll_set(l:List Nat):∀(a:Array Bool) (i:Nat),listAll l (a.setIfInBounds i true)=(listAll l a).setIfInBounds i true:=by
 induction l with
 |nil=>intro a i;rfl
 |cons j l ih=>
  intro a i
  show listAll l ((a.setIfInBounds i true).setIfInBounds j true)=(listAll l<|a.setIfInBounds j true).setIfInBounds i true
  rw [←ih]
  by_cases h:i=j
  ·subst h;rfl
  rw [Array.setIfInBounds_comm _ _ h]
theorem listAll_perm{l M:List Nat}(h:l.Perm M):∀a,listAll l a=listAll M a:=by
 induction h with
 |nil=>intro a;rfl
 |cons x _ ih=>intro a;exact ih _
 |swap x y l=>
  intro a
  show listAll l ((a.setIfInBounds y true).setIfInBounds x true)=listAll l ((a.setIfInBounds x true).setIfInBounds y true)
  by_cases h:x=y
  ·subst h;rfl
  rw [Array.setIfInBounds_comm _ _ (Ne.symm h)]
 |trans _ _ h1 h2=>intro a;rw [h1,h2]
structure NewS where
 i:Nat
 d:Nat
 s:Nat
 src:Nat
deriving DecidableEq
def newL(es:List NewS)(bs:Nat->Nat)(L:Env):Env:=es.map (λe=>(e.d,Value.pointer (some ⟨bs e.i,0,none⟩)))++L
def newI(T:Nat)(z vs:List Value)(c:Nat)(es:List NewS)(bs:Nat->Nat)(I:List Item):List Item:=es.map (λe=>e8 (bs e.i) (if e.s<c then vs else z) T)++I
def newSet(es S:List NewS)(c:Nat)(listed:Array Bool):Array Bool:=listAll ((es.filter λe=>Nat.blt e.s c).map NewS.s) (listAll (S.map NewS.i) listed)
def isNew(ops:Array Oper)(N:Frm)(T:Nat)(e:NewS):Bool:=
 (match ops[e.i]? with
 |some ⟨some d,.alloc T',_,_,_,none⟩=>Nat.beq d e.d&&Nat.beq T' T&&Nat.blt d N.n
 |_=>false) &&
 (match ops[e.s]? with
 |some ⟨none,.store T' (.tmp x)<|.tmp y,_,_,_,none⟩=>Nat.beq x e.d&&Nat.beq T' T&&Nat.beq y e.src
 |_=>false)
theorem isNew_spec{ops:Array Oper}{N:Frm}{T:Nat}{e:NewS}(h:isNew ops N T e=true):(∃ty ps af,ops[e.i]? = some ⟨some e.d,.alloc T,ty,ps,af,none⟩/\Nat.blt e.d N.n=true)/\∃ty ps af,ops[e.s]? = some ⟨none,.store T (.tmp e.d) (.tmp e.src),ty,ps,af,none⟩:=by
 unfold isNew at h
 rw [Bool.and_eq_true] at h
 obtain ⟨M,h2⟩:=h
 constructor
 ·split at M
  ·rename_i d T' ty ps af heq
   simp only [Bool.and_eq_true,Nat.beq_eq] at M
   obtain ⟨⟨rfl,rfl⟩,h3⟩:=M
   exact ⟨_,_,_,heq,h3⟩
  cases M
 split at h2
 ·rename_i T' x y ty ps af heq
  simp only [Bool.and_eq_true,Nat.beq_eq] at h2
  obtain ⟨⟨rfl,rfl⟩,rfl⟩:=h2
  exact ⟨_,_,_,heq⟩
 cases h2
theorem look_new{es:List NewS}{bs:Nat->Nat}(hd:(es.map NewS.d).Nodup)(t:Nat)(v:Value)(L:Env) :
  look (newL es bs L) t=some v↔(∃e∈es,e.d=t/\v = .pointer (some ⟨bs e.i,0,none⟩))\/((∀e∈es,e.d≠t)/\look L t=some v):=by
 induction es with
 |nil=>simp [newL]
 |cons e es ih=>
  have aa:=List.nodup_cons.1 hd
  show look ((e.d,Value.pointer<|some ⟨bs e.i,0,none⟩)::newL es bs L) t=some v↔_
  rw [look_cons]
  by_cases h:e.d=t
  ·rw [if_pos h]
   constructor
   ·intro h2;exact .inl ⟨e,List.mem_cons_self,h,by cases h2;rfl⟩
   rintro (⟨e',M,h1,h2⟩|⟨h1,_⟩)
   ·rcases List.mem_cons.1 M with rfl|M
    ·rw [h2]
    exact absurd (List.mem_map.2 ⟨e',M,h1.trans h.symm⟩) aa.1
   exact absurd h<|h1 e List.mem_cons_self
  rw [if_neg h,ih aa.2]
  constructor
  ·rintro (⟨e',M,h1,h2⟩|⟨h1,h2⟩)
   ·exact .inl ⟨e',List.mem_cons_of_mem _ M,h1,h2⟩
   refine .inr ⟨λe' M=>?_,h2⟩
   rcases List.mem_cons.1 M with rfl|M
   ·exact h
   exact h1 e' M
  rintro (⟨e',M,h1,h2⟩|⟨h1,h2⟩)
  ·rcases List.mem_cons.1 M with rfl|M
   ·exact absurd h1 h
   exact .inl ⟨e',M,h1,h2⟩
  exact .inr ⟨λe' M=>h1 e'<|List.mem_cons_of_mem _ M,h2⟩
theorem at_new{T:Nat}{f g:NewS->List Value}{bs:Nat->Nat}{I:List Item}{e:NewS}:∀(S:List NewS),e∈S->S.Nodup->(∀x∈S,x≠e->g x=f x)->
  At (S.map (λe=>e8 (bs e.i) (f e) T)++I) (e8 (bs e.i) (f e) T) (e8 (bs e.i) (g e) T) (S.map (λe=>e8 (bs e.i) (g e) T)++I)
 |[],h,_,_=>by cases h
 |x::S,h,hn,hg=>by
  rw [List.map_cons,List.map_cons,List.cons_append,List.cons_append]
  obtain ⟨aa,ab⟩:=List.nodup_cons.1 hn
  by_cases hx:x=e
  ·subst hx
   have:S.map (λe=>e8 (bs e.i) (g e) T)=S.map (λe=>e8 (bs e.i) (f e) T):=List.map_congr_left λy M=>by
    rw [hg y (List.mem_cons_of_mem _ M) λh=>aa<|h▸M]
   rw [this]
   exact .head _ _ _
  rw [hg x List.mem_cons_self hx]
  exact .tail _<|at_new S (by rcases List.mem_cons.1 h with h|h;(· exact absurd h.symm hx);(· exact h)) ab λy M ad=>hg y (List.mem_cons_of_mem _ M) ad
end
section
variable {P:Program}{κ:Ctx}{N:Frm}{ops:Array Oper}{Q:Exit->Act->World->Prop}{I J:List Item}{L:Env}
def newReady(ops:Array Oper)(es:List NewS)(s0:Nat)(listed:Array Bool):Bool:=
 (subs es).all λS=>(List.range<|es.length+1).all λj=>
  !((es.filter λe=>Nat.blt e.s<|s0+j).all λe=>S.contains e)||(S.length==es.length&&j==es.length) ||
   (!(Region.ready .any ops<|newSet es S (s0+j) listed).isEmpty&&(Region.ready .any ops<|newSet es S (s0+j) listed).all λi=>((es.filter<|λe=> !S.contains e).map NewS.i++(es.filter<|λe=>Nat.beq e.s (s0+j)&&S.contains e).map NewS.s).contains i)
def newSeq(s0:Nat):List NewS->Bool
 |[]=>true
 |e::l=>Nat.beq e.s s0&&newSeq (s0+1) l
theorem newSeq_s:∀{l:List NewS} {s0:Nat},newSeq s0 l=true->∀e∈l,s0<=e.s/\e.s<s0+l.length
 |[],_,_,e,he=>by cases he
 |x::l,s0,h,e,he=>by
  obtain ⟨M,h2⟩:=(Bool.and_eq_true _ _).mp h
  have M:=Nat.eq_of_beq_eq_true M
  rcases List.mem_cons.1 he with rfl|he
  ·simp only [List.length_cons];omega
  have:=newSeq_s h2 e he
  simp only [List.length_cons];omega
theorem newSeq_inj:∀{l:List NewS} {s0:Nat},newSeq s0 l=true->∀e∈l,∀f∈l,e.s=f.s->e=f
 |[],_,_,e,he,_,_,_=>by cases he
 |x::l,s0,h,e,he,f,hf,hs=>by
  obtain ⟨M,h2⟩:=(Bool.and_eq_true _ _).mp h
  have M:=Nat.eq_of_beq_eq_true M
  have h3:=newSeq_s h2
  rcases List.mem_cons.1 he with h4|h4
  ·rcases List.mem_cons.1 hf with h5|h5
   ·rw [h4,h5]
   have:=h3 f h5;rw [h4] at hs;omega
  rcases List.mem_cons.1 hf with h5|h5
  ·have:=h3 e h4;rw [h5] at hs;omega
  exact newSeq_inj h2 e h4 f h5 hs
theorem D.news{stop k:Nat}{M:Array Bool}{T sz by':Nat}{ag:Bool}{z vs:List Value}{v:Value}(es:List NewS)(s0:Nat)(hT:tyF P T=some (sz,ag,by',z))
  (hN:es.all (isNew ops N T)=true) (hd:(es.map NewS.d).Nodup) (hi:(es.map NewS.i).Nodup) (hq:newSeq s0 es=true) (hs:(es.map NewS.i).contains stop=false) (a4:(es.map NewS.s).contains stop=false)
  (ba:es.isEmpty=false) (hr:newReady ops es s0 M=true) (hJ:Fit κ I J)
  (hv:cellsOf v=vs) (hl:vs.length=sz) (bt:z.length=sz) (h1:∀u∈vs,u.oneCell'=true) (be:∀e∈es,∀f∈es,f.d≠e.src) (a7:∀e∈es,look L e.src=some v)
  (h:∀bs,D P κ N ops Q J stop k (newSet es es (s0+es.length) M) (newL es bs L)<|es.map (λe=>e8 (bs e.i) vs T)++I) :
  D P κ N ops Q J stop (k+(es.length+es.length)) M L I:=by
 have ax:es.Nodup:=by
  rw [List.nodup_iff_pairwise_ne] at hd ⊢
  exact (List.pairwise_map.1 hd).imp λh e=>h<|by rw [e]
 have ah:∀S:List NewS,S.Nodup->(∀e∈S,e∈es)->(es.filter<|λe=>S.contains e).Perm S:=λS h1 h2=>by
  refine (List.perm_ext_iff_of_nodup (ax.sublist List.filter_sublist) h1).2 λe=>?_
  simp only [List.mem_filter,List.contains_iff_mem]
  exact ⟨λh=>h.2,λh=>⟨h2 e h,h⟩⟩
 have a0:∀S:List NewS,S.Nodup->(∀e∈S,e∈es)->(S.map NewS.d).Nodup:=λS h1 h2=>by
  have h3:=(ah S h1 h2).map NewS.d
  exact h3.nodup_iff.1<|hd.sublist<|List.filter_sublist.map _
 have bp:∀e∈es,∀f∈es,e.i=f.i->e=f:=λe he f hf a6=>by
  have h6:=List.pairwise_map.1 (List.nodup_iff_pairwise_ne.1 hi)
  refine Classical.byContradiction λba=>?_
  have h7:es.Pairwise λx y=>¬(x=e/\y=f)/\¬(x=f/\y=e):=h6.imp fun {a b} h8=>⟨λh9=>h8<|by rw [h9.1,h9.2,a6],λh9=>h8<|by rw [h9.1,h9.2,a6]⟩
  obtain ⟨n,hn,rfl⟩:=List.getElem_of_mem he
  obtain ⟨m,hm,rfl⟩:=List.getElem_of_mem hf
  rcases Nat.lt_trichotomy n m with h|h|h
  ·exact (List.pairwise_iff_getElem.1 h7 n m hn hm h).1 ⟨rfl,rfl⟩
  ·subst h;exact ba rfl
  exact (List.pairwise_iff_getElem.1 h7 m n hm hn h).2 ⟨rfl,rfl⟩
 have bv:∀(m:Nat) (S:List NewS) (j:Nat) (bs:Nat->Nat),S.length+j+m=es.length+es.length->j<=es.length->S.Nodup->(∀e∈S,e∈es)->(∀e∈es,e.s<s0+j->e∈S)->
   D P κ N ops Q J stop (k+m) (newSet es S (s0+j) M) (newL S bs L) (newI T z vs (s0+j) S bs I):=by
  intro m
  induction m with
  |zero=>
   intro S j bs hm hj hn aa _ a w ha hw
   have hp:=ah S hn aa
   have b2:S.length<=es.length:=by have h9:=hp.length_eq;have bc:=(List.filter_sublist (p:=λe=>S.contains e) (l:=es)).length_le;omega
   have bb:es.filter (λe=>S.contains e)=es:=List.filter_sublist.eq_of_length (by have:=hp.length_eq;omega)
   rw [bb] at hp
   obtain rfl:j=es.length:=by omega
   have e1:newSet es S (s0+es.length) M=newSet es es (s0+es.length) M:=by
    unfold newSet;rw [listAll_perm (hp.map NewS.i)]
   rw [e1]
   refine h bs a w ⟨ha.defers,ha.size,λt u hu=>ha.get t u ?_⟩ ?_
   ·rw [look_new (a0 S hn aa)]
    rcases (look_new hd t u L).1 hu with ⟨e,he,h1,h2⟩|⟨h1,h2⟩
    ·exact .inl ⟨e,hp.mem_iff.1 he,h1,h2⟩
    exact .inr ⟨λe he=>h1 e<|hp.mem_iff.2 he,h2⟩
   have e2:newI T z vs (s0+es.length) S bs I=S.map (λe=>e8 (bs e.i) vs T)++I:=by
    unfold newI
    congr 1
    exact List.map_congr_left λe he=>by rw [if_pos (newSeq_s hq e<|aa e he).2]
   rw [e2] at hw
   exact hw.perm<|(hp.symm.map _).append_right _
  |succ m ih=>
   intro S j bs hm hj hn aa an a w ha hw
   have hp:=ah S hn aa
   have a5:newSet es (es.filter λe=>S.contains e) (s0+j) M=newSet es S (s0+j) M:=by
    unfold newSet;rw [listAll_perm (hp.map NewS.i)]
   have ap:∀e,(es.filter<|λe=>S.contains e).contains e=S.contains e:=λe=>by
    rw [Bool.eq_iff_iff,List.contains_iff_mem,List.contains_iff_mem];exact hp.mem_iff
   have aq:Region.ready .any ops (newSet es S (s0+j) M)≠[]/\∀i∈Region.ready .any ops (newSet es S (s0+j) M),i∈(es.filter<|λe=> !S.contains e).map NewS.i++(es.filter<|λe=>Nat.beq e.s (s0+j)&&S.contains e).map NewS.s:=by
    have h1:=List.all_eq_true.1 (List.all_eq_true.1 hr _<|filter_subs (λe=>S.contains e) es) j (List.mem_range.2<|by omega)
    have h2:((es.filter λe=>Nat.blt e.s<|s0+j).all λe=>(es.filter<|λe=>S.contains e).contains e)=true:=List.all_eq_true.2 λe he=>by
     rw [ap,List.contains_iff_mem]
     obtain ⟨ab,ae⟩:=List.mem_filter.1 he
     exact an e ab<|by simpa using ae
    have h3:((es.filter<|λe=>S.contains e).length==es.length&&j==es.length)=false:=by
     have h4:=hp.length_eq
     rw [Bool.and_eq_false_iff,beq_eq_false_iff_ne,beq_eq_false_iff_ne]
     by_cases h5:j=es.length
     ·left;omega
     right;exact h5
    rw [h2,h3,Bool.not_true,Bool.false_or,Bool.false_or,a5,Bool.and_eq_true] at h1
    refine ⟨λe=>(by rw [e] at h1;simp at h1),λi hi=>?_⟩
    have h5:=List.contains_iff_mem.1 (List.all_eq_true.1 h1.2 i hi)
    have e1:es.filter (λe=> !(es.filter<|λe=>S.contains e).contains e)=es.filter (λe=> !S.contains e):=List.filter_congr λe _=>by rw [ap]
    have e2:es.filter (λe=>Nat.beq e.s (s0+j)&&(es.filter<|λe=>S.contains e).contains e)=es.filter (λe=>Nat.beq e.s (s0+j)&&S.contains e):=List.filter_congr λe _=>by rw [ap]
    rwa [e1,e2] at h5
   have bg:∀i∈(es.filter<|λe=> !S.contains e).map NewS.i++(es.filter<|λe=>Nat.beq e.s (s0+j)&&S.contains e).map NewS.s,i≠stop:=λi ad e0=>by
    subst e0
    rcases List.mem_append.1 ad with h2|h2
    ·obtain ⟨e,he,av⟩:=List.mem_map.1 h2
     have h3:(es.map NewS.i).contains i=true:=List.contains_iff_mem.2 (List.mem_map.2 ⟨e,(List.mem_filter.1 he).1,av⟩)
     rw [h3] at hs;cases hs
    obtain ⟨e,he,av⟩:=List.mem_map.1 h2
    have h3:(es.map NewS.s).contains i=true:=List.contains_iff_mem.2 (List.mem_map.2 ⟨e,(List.mem_filter.1 he).1,av⟩)
    rw [h3] at a4;cases a4
   refine ⟨λh0=>?_,λ_=>⟨λh0=>absurd h0 aq.1,λi ad=>?_⟩⟩
   ·exact absurd rfl<|bg stop<|aq.2 stop<|by rw [h0];exact List.mem_singleton.2 rfl
   have ad:=aq.2 i ad
   rcases List.mem_append.1 ad with ad|ad
   ·obtain ⟨e,he,rfl⟩:=List.mem_map.1 ad
    obtain ⟨ab,ae⟩:=List.mem_filter.1 he
    have az:e∉S:=by simpa [List.contains_iff_mem] using ae
    obtain ⟨⟨ty,ps,af,ar,hlt⟩,_⟩:=isNew_spec (List.all_eq_true.1 hN e ab)
    unfold wpOp
    have aw:Region.wanted (⟨some e.d,.alloc T,ty,ps,af,none⟩:Oper) (yielded ops a.tmps)=true:=by simp [Region.wanted]
    simp only [ar,aw,if_true]
    have hE:=(Eff.alloc (Q:=Q) (ps:=ps) (af:=af) (ty:=ty) (gd:=none) hT hlt:Eff P κ N Q _ (newL S bs L) (newI T z vs (s0+j) S bs I) _) a w ha hw
    refine .inl<|Oper.wp_mono (λa' w' ⟨L',I',⟨b,au,ay⟩,ao,aj⟩=>?_) hE
    subst au ay
    have a8:∀e'∈S,(λn=>if n=e.i then b else bs n) e'.i=bs e'.i:=λe' ai=>by
     show (if e'.i=e.i then b else bs e'.i)=_
     rw [if_neg]
     intro h4
     exact az<|bp e' (aa e' ai) e ab h4▸ai
    have bo:((e.d,Value.pointer<|some ⟨b,0,none⟩)::newL S bs L)=newL (e::S) (λn=>if n=e.i then b else bs n) L:=by
     unfold newL
     rw [List.map_cons,List.cons_append]
     congr 1
     ·simp
     congr 1
     exact List.map_congr_left λe' ai=>by rw [a8 e' ai]
    have bj:¬e.s<s0+j:=λh4=>az (an e ab h4)
    have bu:(e8 b z T::newI T z vs (s0+j) S bs I)=newI T z vs (s0+j) (e::S) (λn=>if n=e.i then b else bs n) I:=by
     unfold newI
     rw [List.map_cons,List.cons_append]
     congr 1
     ·rw [if_neg bj];simp
     congr 1
     exact List.map_congr_left λe' ai=>by rw [a8 e' ai]
    rw [bo] at ao
    rw [bu] at aj
    have a1:Sep κ w' J:=hJ w' (aj.sublist<|List.sublist_append_right _ _)
    refine ⟨a1,?_⟩
    have:=ih (e::S) j (λn=>if n=e.i then b else bs n) (by simp only [List.length_cons];omega) hj (List.nodup_cons.2 ⟨az,hn⟩) (λx hx=>by
     rcases List.mem_cons.1 hx with rfl|hx
     ·exact ab
     exact aa x hx) (λx hx a9=>List.mem_cons_of_mem _ (an x hx a9)) a' w' ao aj
    have h9:newSet es (e::S) (s0+j) M=(newSet es S (s0+j) M).setIfInBounds e.i true:=by
     unfold newSet
     show listAll _ (listAll (S.map NewS.i)<|M.setIfInBounds e.i true)=_
     rw [listAll_set,listAll_set]
    rw [h9] at this
    exact this
   obtain ⟨e,he,rfl⟩:=List.mem_map.1 ad
   obtain ⟨ab,ae⟩:=List.mem_filter.1 he
   rw [Bool.and_eq_true,List.contains_iff_mem] at ae
   have bh:=Nat.eq_of_beq_eq_true ae.1
   have a3:=ae.2
   obtain ⟨_,ty,ps,af,ar⟩:=isNew_spec (List.all_eq_true.1 hN e ab)
   unfold wpOp
   have aw:Region.wanted (⟨none,.store T (.tmp e.d)<|.tmp e.src,ty,ps,af,none⟩:Oper) (yielded ops a.tmps)=true:=by simp [Region.wanted]
   simp only [ar,aw,if_true]
   have hz:(if e.s<s0+j then vs else z)=z:=if_neg (by omega)
   have bq:(if e.s<s0+(j+1) then vs else z)=vs:=if_pos (by omega)
   have bi:At (newI T z vs (s0+j) S bs I) (e8 (bs e.i) z T) (e8 (bs e.i) vs T) (newI T z vs (s0+(j+1)) S bs I):=by
    have:=at_new (T:=T) (f:=λe=>if e.s<s0+j then vs else z) (g:=λe=>if e.s<s0+(j+1) then vs else z) (bs:=bs) (I:=I) S a3 hn λx hx bx=>by
     have h4:x.s≠e.s:=λh5=>bx (newSeq_inj hq x (aa x hx) e ab h5)
     by_cases h5:x.s<s0+j
     ·rw [if_pos h5,if_pos<|by omega]
     rw [if_neg h5,if_neg<|by omega]
    simp only [hz,bq] at this
    exact this
   have bk:look (newL S bs L) e.d=some (.pointer<|some ⟨bs e.i,0,none⟩):=(look_new (a0 S hn aa) _ _ _).2 (.inl ⟨e,a3,rfl,rfl⟩)
   have br:look (newL S bs L) e.src=some v:=(look_new (a0 S hn aa) _ _ _).2 (.inr ⟨λf hf=>be e ab f<|aa f hf,a7 e ab⟩)
   have hE:=(Eff.store (Q:=Q) (ps:=ps) (af:=af) (ty:=ty) (gd:=none) (x:= .tmp e.d) (y:= .tmp e.src) (o:=0) (cs:=z) (cs':=vs) hT bk br hv hl h1 (by omega) (by
    rw [List.take_zero,List.nil_append,Nat.zero_add,hl,←bt,List.drop_length,List.append_nil]) bi:Eff P κ N Q _ (newL S bs L) (newI T z vs (s0+j) S bs I) _) a w ha hw
   refine .inl<|Oper.wp_mono (λa' w' ⟨L',I',⟨au,ay⟩,ao,aj⟩=>?_) hE
   subst au ay
   have a1:Sep κ w' J:=hJ w' (aj.sublist<|List.sublist_append_right _ _)
   refine ⟨a1,?_⟩
   have bz:j+1<=es.length:=by have:=newSeq_s hq e ab;omega
   have:=ih S (j+1) bs (by omega) bz hn aa (λx hx a9=>by
    by_cases h5:x.s<s0+j
    ·exact an x hx h5
    rw [newSeq_inj hq x hx e ab (by omega)];exact a3) a' w' ao aj
   have h9:newSet es S (s0+(j+1)) M=(newSet es S (s0+j) M).setIfInBounds e.s true:=by
    unfold newSet
    rw [←listAll_set]
    have bc:((es.filter λe=>Nat.blt e.s<|s0+(j+1)).map NewS.s).Perm (e.s::(es.filter λe=>Nat.blt e.s<|s0+j).map NewS.s):=by
     have bw:(es.filter λe=>Nat.blt e.s<|s0+(j+1)).Perm (e::es.filter λe=>Nat.blt e.s<|s0+j):=by
      refine (List.perm_ext_iff_of_nodup (ax.sublist List.filter_sublist)<|List.nodup_cons.2 ⟨λbf=>?_,ax.sublist List.filter_sublist⟩).2 λx=>?_
      ·have bm:=(List.mem_filter.1 bf).2
       simp at bm;omega
      rw [List.mem_cons,List.mem_filter,List.mem_filter]
      simp only [Nat.blt_eq]
      constructor
      ·rintro ⟨ak,bn⟩
       by_cases h16:x.s<s0+j
       ·exact .inr ⟨ak,h16⟩
       exact .inl<|newSeq_inj hq x ak e ab<|by omega
      rintro (rfl|⟨ak,bn⟩)
      ·exact ⟨ab,by omega⟩
      exact ⟨ak,by omega⟩
     exact bw.map NewS.s
    rw [listAll_perm bc]
    rfl
   rw [h9] at this
   exact this
 have h0:=bv (es.length+es.length) [] 0 (λ_=>0) (by simp) (by omega) List.nodup_nil (λe he=>by cases he) (λe he bh=>by have:=newSeq_s hq e he;omega)
 have e3:newSet es [] (s0+0) M=M:=by
  unfold newSet
  have:es.filter (λe=>Nat.blt e.s<|s0+0)=[]:=List.filter_eq_nil_iff.2 λe he=>by
   have:=newSeq_s hq e he
   simp;omega
  rw [this];rfl
 rw [e3] at h0
 exact h0
end
end Go.Sl
namespace Go.Sl
open Go.Proofs
set_option maxRecDepth 4000
set_option maxHeartbeats 8000000 in
theorem AuditRefuses_walk{κ:Ctx}{I:List Item}{la:Option Addr}{ln lc:Nat}{ls:List Int}(hl:Sl κ I (.slice la ln lc) ls)(m0:Int)(b4:0<=m0/\m0<256)(hT:TabRd κ I 0 tzCells):eu prog κ 4 [.slice la ln lc,.int .u8 m0] I (λr J=>r = .bool true/\I=J):=by
 have b8:0<=Int.tmod m0 5/\Int.tmod m0 5<5:=by rw [Int.tmod_eq_emod_of_nonneg b4.1];omega
 have c9:0<=Int.tmod m0 ((5:Nat):Int)/\Int.tmod m0 ((5:Nat):Int)<5:=b8
 refine Ce2 Tryz.func4 C C ?_
 refine Ap<|Ga C<|Ar<|A3<|Ap<|Gm C<|Gc0 (Ad c_ C C Few_ok) ?_
 refine Gr (Runs.notd C)<|Ar<|Av C (λb9=>?_)<|λb9=>?_
 ·refine Ap (G.e (Ad c_ C C<|Awake45_ok<|A5 hT Ah) ?_)
  rintro _ _ ⟨_,_,⟨rfl,rfl⟩,rfl,rfl⟩
  exact Ga C<|Ar<|Bo<|Bp<|Ai C C I (by first|exact Ah|exact FitW) ⟨rfl,rfl⟩
 refine Bs<|Au<|Ap<|Gm C<|G.e (Ad c_ C C New_ok) ?_
 rintro _ _ ⟨_,_,⟨ad,rfl,rfl⟩,rfl,rfl⟩
 show G prog κ _ _ _ _ ([(28,.pointer<|some ⟨ad,0,none⟩),(27,.slice la ln lc),(25,.bool<|decide<|¬((ln:Int)<=500)),(24,.bool<|decide<|(ln:Int)<=500),(23,.slice la ln lc),(4,.bool false),(0,.slice la ln lc),(1,.int .u8 m0)]:Env) (e8 ad [.slice la ln lc,e7 0] 65::I)
 have cz:(0:Int)<=0:=Int.le_refl _
 refine Ga C<|Ar<|Ap<|Gm C<|G.e (Ad c_ C C<|Next_ok (by repeat (first|exact AtF.head _ _|apply AtF.tail)) (As hl) om om) ?_
 rintro _ _ ⟨_,_,⟨x2,i3,rfl,cv,cy,rfl⟩,rfl,rfl⟩
 show G prog κ _ _ _ _ ([(30,e7 x2),(29,.pointer<|some ⟨ad,0,none⟩),(5,.pointer<|some ⟨ad,0,none⟩),(28,.pointer<|some ⟨ad,0,none⟩),(27,.slice la ln lc),(25,.bool<|decide<|¬((ln:Int)<=500)),(24,.bool<|decide<|(ln:Int)<=500),(23,.slice la ln lc),(4,.bool false),(0,.slice la ln lc),(1,.int .u8 m0)]:Env) (e8 ad [.slice la ln lc,e7 i3] 65::I)
 refine Gr (Rad C C)<|Ga C ?_
 generalize hnn:2+x2=nn
 have cw:2<=nn/\nn<=6:=by omega
 refine Ar<|Ap<|Gm C<|Gm C<|G.e (Ad c_ C C<|MkEvents_at (by repeat (first|exact AtF.head _ _|apply AtF.tail)) (λ_=>B4 hl Ah) om  om om) ?_
 rintro _ _ ⟨_,_,⟨⟨ak,an,aa,i7⟩,⟨⟨rfl,a8⟩,bu⟩,rfl⟩,rfl,rfl⟩
 show G prog κ _ _ _ _ ([(34,.slice ak aa.length an),(33,e7 nn),(32,.pointer<|some ⟨ad,0,none⟩),(6,e7 nn),(31,e7 nn),(30,e7 x2),(29,.pointer<|some ⟨ad,0,none⟩),(5,.pointer<|some ⟨ad,0,none⟩),(28,.pointer<|some ⟨ad,0,none⟩),(27,.slice la ln lc),(25,.bool<|decide<|¬((ln:Int)<=500)),(24,.bool<|decide<|(ln:Int)<=500),(23,.slice la ln lc),(4,.bool false),(0,.slice la ln lc),(1,.int .u8 m0)]:Env) (vc 63 (.slice ak aa.length an) (aa)::e8 ad [.slice la ln lc,e7 i7] 65::I)
 have bu:0<=i7:=bu
 dsimp only at a8
 refine Gm C<|G.e (Ad c_ C C<|MkWindowV_at (by repeat (first|exact AtF.head _ _|apply AtF.tail)) (λ_=>B4 hl Ah) om  ) ?_
 rintro _ _ ⟨_,_,⟨⟨aj,ai,ae,bt⟩,⟨⟨rfl,bo⟩,bj⟩,rfl⟩,rfl,rfl⟩
 show G prog κ _ _ _ _ ([(36,.agg #[e7 aj,e7 ai,e7 ae]),(35,.pointer<|some ⟨ad,0,none⟩),(34,.slice ak aa.length an),(33,e7 nn),(32,.pointer<|some ⟨ad,0,none⟩),(6,e7 nn),(31,e7 nn),(30,e7 x2),(29,.pointer<|some ⟨ad,0,none⟩),(5,.pointer<|some ⟨ad,0,none⟩),(28,.pointer<|some ⟨ad,0,none⟩),(27,.slice la ln lc),(25,.bool<|decide<|¬((ln:Int)<=500)),(24,.bool<|decide<|(ln:Int)<=500),(23,.slice la ln lc),(4,.bool false),(0,.slice la ln lc),(1,.int .u8 m0)]:Env) (vc 63 (.slice ak aa.length an) (aa)::e8 ad [.slice la ln lc,e7 bt] 65::I)
 have bj:0<=bt:=bj
 refine Ge1 (Am ty31 C) λax=>Ga C<|Ge0 (Es3_3 ty31) ?_
 have ba:aa.length<=19:=by have h9:=a8.2;omega
 have hH:HistOk nn aj ai ae aa:=⟨a8.1.st om om,bo⟩
 refine Ar<|Be (S5 7 8 6 5 1 C C C C C)<|Ap<|Gm C<|G.e (Ad c_ C C<|Next_ok (by repeat (first|exact AtF.head _ _|apply AtF.tail)) (As hl) om om) ?_
 rintro _ _ ⟨_,_,⟨M,b5,rfl,cb,cm,rfl⟩,rfl,rfl⟩
 show G prog κ _ _ _ _ ([(38,e7 M),(37,.pointer<|some ⟨ad,0,none⟩),(7,.slice ak aa.length an),(8,.pointer<|some ⟨ax,0,none⟩),(6,e7 nn),(5,.pointer<|some ⟨ad,0,none⟩),(1,.int .u8 m0)]:Env) (e8 ax [e7 aj,e7 ai,e7 ae] 31::vc 63 (.slice ak aa.length an) (aa)::e8 ad [.slice la ln lc,e7 b5] 65::I)
 refine Ga C<|Ar<|Ap<|Gm C<|Gm C<|G.e (Ad c_ C C<|Next_ok (by repeat (first|exact AtF.head _ _|apply AtF.tail)) (As hl) om om) ?_
 rintro _ _ ⟨_,_,⟨aw,b3,rfl,cf,ch,rfl⟩,rfl,rfl⟩
 show G prog κ _ _ _ _ ([(41,e7 aw),(40,e7 nn),(39,.pointer<|some ⟨ad,0,none⟩),(9,e7 M),(38,e7 M),(37,.pointer<|some ⟨ad,0,none⟩),(7,.slice ak aa.length an),(8,.pointer<|some ⟨ax,0,none⟩),(6,e7 nn),(5,.pointer<|some ⟨ad,0,none⟩),(1,.int .u8 m0)]:Env) (e8 ax [e7 aj,e7 ai,e7 ae] 31::vc 63 (.slice ak aa.length an) (aa)::e8 ad [.slice la ln lc,e7 b3] 65::I)
 refine Gm C<|Gr (Bg (cells:=[_,_,_,_,_,_,_]) ty36 En pl36 C C)<|Gm C<|Gr (Bg (cells:=[_,_,_,_,_,_,_]) ty36 En pl36 C C)<|Gm C<|Gr (Bg (cells:=[_,_,_,_,_,_,_]) ty36 En pl36 C C)<|Gm C<|Gr (Bg (cells:=[_,_,_,_,_,_,_]) ty36 En pl36 C C)<|Gm C<|Gm C<|G.e (Ad c_ C C<|Next_ok (by repeat (first|exact AtF.head _ _|apply AtF.tail)) (As hl) om om) ?_
 rintro _ _ ⟨_,_,⟨ay,a6,rfl,cr,ca,rfl⟩,rfl,rfl⟩
 show G prog κ _ _ _ _ ([(52,e7 ay),(51,e7 nn),(50,.pointer<|some ⟨ad,0,none⟩),(49,.agg #[e7 7,e7 0,e7 0,e7 M,.slice none 0 0,e7 0,e7 0]),(48,e7 M),(47,.agg #[e7 6,e7 0,e7 0,e7 M,.slice none 0 0,e7 0,e7 0]),(46,e7 M),(45,.agg #[e7 5,e7 0,e7 0,e7 M,.slice none 0 0,e7 0,e7 0]),(44,e7 M),(43,.agg #[e7 1,e7 aw,e7 0,e7 M,.slice none 0 0,e7 0,e7 0]),(42,e7 M),(41,e7 aw),(40,e7 nn),(39,.pointer<|some ⟨ad,0,none⟩),(9,e7 M),(38,e7 M),(37,.pointer<|some ⟨ad,0,none⟩),(7,.slice ak aa.length an),(8,.pointer<|some ⟨ax,0,none⟩),(6,e7 nn),(5,.pointer<|some ⟨ad,0,none⟩),(1,.int .u8 m0)]:Env) (e8 ax [e7 aj,e7 ai,e7 ae] 31::vc 63 (.slice ak aa.length an) (aa)::e8 ad [.slice la ln lc,e7 a6] 65::I)
 refine Gr (Bg (cells:=[_,_,_,_,_,_,_]) ty36 En pl36 C C)<|Ge1 (Ca (α:=QyV) (cs:=[e7 1,e7 aw,e7 0,e7 M,.slice none 0 0,e7 0,e7 0,e7 5,e7 0,e7 0,e7 M,.slice none 0 0,e7 0,e7 0,e7 6,e7 0,e7 0,e7 M,.slice none 0 0,e7 0,e7 0,e7 7,e7 0,e7 0,e7 M,.slice none 0 0,e7 0,e7 0,e7 10,e7 ay,e7 0,e7 0,.slice none 0 0,e7 0,e7 0]) (xs:=[⟨1,aw,0,M,none,0,[],0,0⟩,⟨5,0,0,M,none,0,[],0,0⟩,⟨6,0,0,M,none,0,[],0,0⟩,⟨7,0,0,M,none,0,[],0,0⟩,⟨10,ay,0,0,none,0,[],0,0⟩]) Tryz.underlying49 ty36 C C dc dc C kr C C) λaz=>?_
 refine Ga C ?_
 have c0:(([⟨1,aw,0,M,none,0,[],0,0⟩,⟨5,0,0,M,none,0,[],0,0⟩,⟨6,0,0,M,none,0,[],0,0⟩,⟨7,0,0,M,none,0,[],0,0⟩,⟨10,ay,0,0,none,0,[],0,0⟩]:List QyV)).length=5:=rfl
 refine Ar<|Be (S5 10 7 8 6 1 C C C C C)<|Ap<|Gm C<|Gm C<|Gr (Runs.convI Eq Bc C<|by unfold InR;omega)<|Gm C<|Gr (Ce Tryz.underlying49 C)<|Gr (Runs.rem C C om)<|Gr (Az (α:=QyV) (xs:=([⟨1,aw,0,M,none,0,[],0,0⟩,⟨5,0,0,M,none,0,[],0,0⟩,⟨6,0,0,M,none,0,[],0,0⟩,⟨7,0,0,M,none,0,[],0,0⟩,⟨10,ay,0,0,none,0,[],0,0⟩]:List QyV)) Tryz.underlying49 ty36 C C A7 om om)<|Gr (Dp (α:=QyV) (xs:=([⟨1,aw,0,M,none,0,[],0,0⟩,⟨5,0,0,M,none,0,[],0,0⟩,⟨6,0,0,M,none,0,[],0,0⟩,⟨7,0,0,M,none,0,[],0,0⟩,⟨10,ay,0,0,none,0,[],0,0⟩]:List QyV)) ty36 C A7 om om) ?_
 obtain ⟨Kq,ap,ao,b6,a4,b7⟩:=five_at (m0:=Int.tmod m0 ((5:Nat):Int)) (n1:=aw) (n2:=ay) (nd:=nn) (t:=M) om om om om
 rw [b6]
 refine Ge1 (Am ty36 C) λa0=>Ge0 (Es7_7 ty36) ?_
 refine Ar<|Be (S4 11 7 8 6 C C C C)<|Ap<|Gm C<|Gm C<|Gl3 ty31 ?_
 refine Gl7 ty36 ?_
 refine G.e (Ad c_ C C<|AskG_ok (nd:=nn) (kd:=aj) (wd:=ai) (mo:=ae) (es:=aa) (K:=Kq) (node:=ap) (lv:=0) (tq:=ao) (num:=0) (den:=0) (S:=[]) A7 (Ex _) ba om (five_dens a4)<|A5 hT Ah) ?_
 rintro _ _ ⟨_,_,⟨AV21,rfl,bc,bh,rfl⟩,rfl,rfl⟩
 show G prog κ _ _ _ _ ([(68,.tuple #[.agg #[.bool (AV21.fd),e7<|AV21.num,e7<|AV21.tm,.slice AV21.sa AV21.S.length AV21.sc,e7<|AV21.dn,e7<|AV21.dd,.slice AV21.pa AV21.P.length AV21.pc,.slice AV21.oa AV21.O.length AV21.oc,.slice AV21.na AV21.N.length AV21.nc,e7<|AV21.E,.slice AV21.qa AV21.Q.length AV21.qc],e7<|askQ nn aj ai ae aa Kq ap 0 ao ([]) 0 0]),(67,.agg #[e7 Kq,e7 ap,e7 0,e7 ao,.slice none 0 0,e7 0,e7 0]),(66,.agg #[e7 aj,e7 ai,e7 ae]),(65,.slice ak aa.length an),(64,e7 nn),(11,.pointer<|some ⟨a0,0,none⟩),(7,.slice ak aa.length an),(8,.pointer<|some ⟨ax,0,none⟩),(6,e7 nn)]:Env) (vc 3 (.slice AV21.sa AV21.S.length AV21.sc) (AV21.S)::vc 51 (.slice AV21.pa AV21.P.length AV21.pc) (AV21.P)::vc 3 (.slice AV21.oa AV21.O.length AV21.oc) (AV21.O)::vc 3 (.slice AV21.na AV21.N.length AV21.nc) (AV21.N)::vc 3 (.slice AV21.qa AV21.Q.length AV21.qc) (AV21.Q)::e8 a0 [e7 Kq,e7 ap,e7 0,e7 ao,.slice none 0 0,e7 0,e7 0] 36::vc 36 (.slice az 5 5) (([⟨1,aw,0,M,none,0,[],0,0⟩,⟨5,0,0,M,none,0,[],0,0⟩,⟨6,0,0,M,none,0,[],0,0⟩,⟨7,0,0,M,none,0,[],0,0⟩,⟨10,ay,0,0,none,0,[],0,0⟩]:List QyV))::e8 ax [e7 aj,e7 ai,e7 ae] 31::vc 63 (.slice ak aa.length an) (aa)::e8 ad [.slice la ln lc,e7 a6] 65::I)
 refine Gm C<|Gr (Bw C C)<|Gr (Bw C C)<|Ge1 (Am ty42 C) λa5=>Ge0 (A9 (cs:=[_,_,_,_,_,_,_,_,_,_,_]) (vs:=[_,_,_,_,_,_,_,_,_,_,_]) (cs':=[_,_,_,_,_,_,_,_,_,_,_]) ty42) ?_
 refine Ga C ?_
 have e0:askQ nn aj ai ae aa Kq ap 0 ao [] 0 0=0:=(askQ_ok hH).trans b7
 have bb:=bc e0
 have b2:=five_fd a4 bb
 have ab:=ask_bnd ba om bc bh
 have a9:=ab
 have c3:=ab.num
 have cx:=ab.tm
 have ce:=ab.len
 have c8:=five_more a4 hH bb
 have cu:([nn]:List Int).length=1:=rfl
 have c7:([⟨0,0⟩]:List Pt).length=1:=rfl
 have c4:([0]:List Int).length=1:=rfl
 refine Ar<|Be (S6 13 12 11 7 8 6 C C C C C C)<|A3<|A4 mixed<|Cg (e8 a5 [.bool (AV21.fd),e7<|AV21.num,e7<|AV21.tm,.slice AV21.sa AV21.S.length AV21.sc,e7<|AV21.dn,e7<|AV21.dd,.slice AV21.pa AV21.P.length AV21.pc,.slice AV21.oa AV21.O.length AV21.oc,.slice AV21.na AV21.N.length AV21.nc,e7<|AV21.E,.slice AV21.qa AV21.Q.length AV21.qc] 42::vc 3 (.slice AV21.sa AV21.S.length AV21.sc) (AV21.S)::vc 51 (.slice AV21.pa AV21.P.length AV21.pc) (AV21.P)::vc 3 (.slice AV21.oa AV21.O.length AV21.oc) (AV21.O)::vc 3 (.slice AV21.na AV21.N.length AV21.nc) (AV21.N)::vc 3 (.slice AV21.qa AV21.Q.length AV21.qc) (AV21.Q)::e8 a0 [e7 Kq,e7 ap,e7 0,e7 ao,.slice none 0 0,e7 0,e7 0] 36::vc 36 (.slice az 5 5) (([⟨1,aw,0,M,none,0,[],0,0⟩,⟨5,0,0,M,none,0,[],0,0⟩,⟨6,0,0,M,none,0,[],0,0⟩,⟨7,0,0,M,none,0,[],0,0⟩,⟨10,ay,0,0,none,0,[],0,0⟩]:List QyV))::e8 ax [e7 aj,e7 ai,e7 ae] 31::vc 63 (.slice ak aa.length an) (aa)::e8 ad [.slice la ln lc,e7 a6] 65::I) 18<|Dr 0 C (Bd (vs:=[_,_,_,_,_,_,_,_,_,_,_]) ty42) ?_
 refine Dr 1 C (Bd (vs:=[_,_,_,_,_,_,_,_,_,_,_]) ty42) ?_
 refine Dr 2 C (Bd (vs:=[_,_,_,_,_,_,_,_,_,_,_]) ty42) ?_
 refine Dr 3 C (Bd (vs:=[_,_,_,_,_,_,_,_,_,_,_]) ty42) ?_
 refine Dr 4 C (Bd (vs:=[_,_,_,_,_,_,_,_,_,_,_]) ty42) ?_
 refine Dr 5 C (Bd (vs:=[_,_,_,_,_,_,_,_,_,_,_]) ty42) ?_
 refine D.news (k:=0) (vs:=[.bool (AV21.fd),e7<|AV21.num,e7<|AV21.tm,.slice AV21.sa AV21.S.length AV21.sc,e7<|AV21.dn,e7<|AV21.dd,.slice AV21.pa AV21.P.length AV21.pc,.slice AV21.oa AV21.O.length AV21.oc,.slice AV21.na AV21.N.length AV21.nc,e7<|AV21.E,.slice AV21.qa AV21.Q.length AV21.qc]) (v:= .agg #[.bool (AV21.fd),e7<|AV21.num,e7<|AV21.tm,.slice AV21.sa AV21.S.length AV21.sc,e7<|AV21.dn,e7<|AV21.dd,.slice AV21.pa AV21.P.length AV21.pc,.slice AV21.oa AV21.O.length AV21.oc,.slice AV21.na AV21.N.length AV21.nc,e7<|AV21.E,.slice AV21.qa AV21.Q.length AV21.qc]) [⟨6,14,12,71⟩,⟨7,15,13,72⟩,⟨8,16,14,73⟩,⟨9,17,15,74⟩,⟨10,18,16,75⟩,⟨11,19,17,76⟩] 12 ty42 kr dc dc C C C C kr Ah C C C (AllOne.all<|D1 C<|D1 C<|D1 C<|D1 C<|D1 C<|D1 C<|D1 C<|D1 C<|D1 C<|D1 C<|D1 C AllOne.nil) dc (λe he=>(by simp only [List.mem_cons,List.not_mem_nil,or_false] at he;rcases he with rfl|rfl|rfl|rfl|rfl|rfl<;>rfl))<|λah=>?_
 show D prog κ _ _ _ _ _ _ _ ([(14,.pointer<|some ⟨(ah 6),0,none⟩),(15,.pointer<|some ⟨(ah 7),0,none⟩),(16,.pointer<|some ⟨(ah 8),0,none⟩),(17,.pointer<|some ⟨(ah 9),0,none⟩),(18,.pointer<|some ⟨(ah 10),0,none⟩),(19,.pointer<|some ⟨(ah 11),0,none⟩),(76,.agg #[.bool (AV21.fd),e7<|AV21.num,e7<|AV21.tm,.slice AV21.sa AV21.S.length AV21.sc,e7<|AV21.dn,e7<|AV21.dd,.slice AV21.pa AV21.P.length AV21.pc,.slice AV21.oa AV21.O.length AV21.oc,.slice AV21.na AV21.N.length AV21.nc,e7<|AV21.E,.slice AV21.qa AV21.Q.length AV21.qc]),(75,.agg #[.bool (AV21.fd),e7<|AV21.num,e7<|AV21.tm,.slice AV21.sa AV21.S.length AV21.sc,e7<|AV21.dn,e7<|AV21.dd,.slice AV21.pa AV21.P.length AV21.pc,.slice AV21.oa AV21.O.length AV21.oc,.slice AV21.na AV21.N.length AV21.nc,e7<|AV21.E,.slice AV21.qa AV21.Q.length AV21.qc]),(74,.agg #[.bool (AV21.fd),e7<|AV21.num,e7<|AV21.tm,.slice AV21.sa AV21.S.length AV21.sc,e7<|AV21.dn,e7<|AV21.dd,.slice AV21.pa AV21.P.length AV21.pc,.slice AV21.oa AV21.O.length AV21.oc,.slice AV21.na AV21.N.length AV21.nc,e7<|AV21.E,.slice AV21.qa AV21.Q.length AV21.qc]),(73,.agg #[.bool (AV21.fd),e7<|AV21.num,e7<|AV21.tm,.slice AV21.sa AV21.S.length AV21.sc,e7<|AV21.dn,e7<|AV21.dd,.slice AV21.pa AV21.P.length AV21.pc,.slice AV21.oa AV21.O.length AV21.oc,.slice AV21.na AV21.N.length AV21.nc,e7<|AV21.E,.slice AV21.qa AV21.Q.length AV21.qc]),(72,.agg #[.bool (AV21.fd),e7<|AV21.num,e7<|AV21.tm,.slice AV21.sa AV21.S.length AV21.sc,e7<|AV21.dn,e7<|AV21.dd,.slice AV21.pa AV21.P.length AV21.pc,.slice AV21.oa AV21.O.length AV21.oc,.slice AV21.na AV21.N.length AV21.nc,e7<|AV21.E,.slice AV21.qa AV21.Q.length AV21.qc]),(71,.agg #[.bool (AV21.fd),e7<|AV21.num,e7<|AV21.tm,.slice AV21.sa AV21.S.length AV21.sc,e7<|AV21.dn,e7<|AV21.dd,.slice AV21.pa AV21.P.length AV21.pc,.slice AV21.oa AV21.O.length AV21.oc,.slice AV21.na AV21.N.length AV21.nc,e7<|AV21.E,.slice AV21.qa AV21.Q.length AV21.qc]),(13,e7<|askQ nn aj ai ae aa Kq ap 0 ao ([]) 0 0),(12,.pointer<|some ⟨a5,0,none⟩),(11,.pointer<|some ⟨a0,0,none⟩),(7,.slice ak aa.length an),(8,.pointer<|some ⟨ax,0,none⟩),(6,e7 nn)]:Env) (e8 (ah 6) [.bool (AV21.fd),e7<|AV21.num,e7<|AV21.tm,.slice AV21.sa AV21.S.length AV21.sc,e7<|AV21.dn,e7<|AV21.dd,.slice AV21.pa AV21.P.length AV21.pc,.slice AV21.oa AV21.O.length AV21.oc,.slice AV21.na AV21.N.length AV21.nc,e7<|AV21.E,.slice AV21.qa AV21.Q.length AV21.qc] 42::e8 (ah 7) [.bool (AV21.fd),e7<|AV21.num,e7<|AV21.tm,.slice AV21.sa AV21.S.length AV21.sc,e7<|AV21.dn,e7<|AV21.dd,.slice AV21.pa AV21.P.length AV21.pc,.slice AV21.oa AV21.O.length AV21.oc,.slice AV21.na AV21.N.length AV21.nc,e7<|AV21.E,.slice AV21.qa AV21.Q.length AV21.qc] 42::e8 (ah 8) [.bool (AV21.fd),e7<|AV21.num,e7<|AV21.tm,.slice AV21.sa AV21.S.length AV21.sc,e7<|AV21.dn,e7<|AV21.dd,.slice AV21.pa AV21.P.length AV21.pc,.slice AV21.oa AV21.O.length AV21.oc,.slice AV21.na AV21.N.length AV21.nc,e7<|AV21.E,.slice AV21.qa AV21.Q.length AV21.qc] 42::e8 (ah 9) [.bool (AV21.fd),e7<|AV21.num,e7<|AV21.tm,.slice AV21.sa AV21.S.length AV21.sc,e7<|AV21.dn,e7<|AV21.dd,.slice AV21.pa AV21.P.length AV21.pc,.slice AV21.oa AV21.O.length AV21.oc,.slice AV21.na AV21.N.length AV21.nc,e7<|AV21.E,.slice AV21.qa AV21.Q.length AV21.qc] 42::e8 (ah 10) [.bool (AV21.fd),e7<|AV21.num,e7<|AV21.tm,.slice AV21.sa AV21.S.length AV21.sc,e7<|AV21.dn,e7<|AV21.dd,.slice AV21.pa AV21.P.length AV21.pc,.slice AV21.oa AV21.O.length AV21.oc,.slice AV21.na AV21.N.length AV21.nc,e7<|AV21.E,.slice AV21.qa AV21.Q.length AV21.qc] 42::e8 (ah 11) [.bool (AV21.fd),e7<|AV21.num,e7<|AV21.tm,.slice AV21.sa AV21.S.length AV21.sc,e7<|AV21.dn,e7<|AV21.dd,.slice AV21.pa AV21.P.length AV21.pc,.slice AV21.oa AV21.O.length AV21.oc,.slice AV21.na AV21.N.length AV21.nc,e7<|AV21.E,.slice AV21.qa AV21.Q.length AV21.qc] 42::e8 a5 [.bool (AV21.fd),e7<|AV21.num,e7<|AV21.tm,.slice AV21.sa AV21.S.length AV21.sc,e7<|AV21.dn,e7<|AV21.dd,.slice AV21.pa AV21.P.length AV21.pc,.slice AV21.oa AV21.O.length AV21.oc,.slice AV21.na AV21.N.length AV21.nc,e7<|AV21.E,.slice AV21.qa AV21.Q.length AV21.qc] 42::vc 3 (.slice AV21.sa AV21.S.length AV21.sc) (AV21.S)::vc 51 (.slice AV21.pa AV21.P.length AV21.pc) (AV21.P)::vc 3 (.slice AV21.oa AV21.O.length AV21.oc) (AV21.O)::vc 3 (.slice AV21.na AV21.N.length AV21.nc) (AV21.N)::vc 3 (.slice AV21.qa AV21.Q.length AV21.qc) (AV21.Q)::e8 a0 [e7 Kq,e7 ap,e7 0,e7 ao,.slice none 0 0,e7 0,e7 0] 36::vc 36 (.slice az 5 5) (([⟨1,aw,0,M,none,0,[],0,0⟩,⟨5,0,0,M,none,0,[],0,0⟩,⟨6,0,0,M,none,0,[],0,0⟩,⟨7,0,0,M,none,0,[],0,0⟩,⟨10,ay,0,0,none,0,[],0,0⟩]:List QyV))::e8 ax [e7 aj,e7 ai,e7 ae] 31::vc 63 (.slice ak aa.length an) (aa)::e8 ad [.slice la ln lc,e7 a6] 65::I)
 generalize ah 6=b24
 generalize ah 7=b25
 generalize ah 8=b26
 generalize ah 9=b27
 generalize ah 10=b28
 generalize ah 11=b29
 refine Dz<|Au<|Be (S12 14 15 16 17 18 19 13 12 11 7 8 6 C C C C C C C C C C C C)<|Ap<|Gf fld42_1 C<|Gl ef ?_
 refine Gr (Rad C C)<|Gf fld42_1 C<|Ge0 (A9 (cs:=[_,_,_,_,_,_,_,_,_,_,_]) (vs:=[_]) (cs':=[_,_,_,_,_,_,_,_,_,_,_]) ef) ?_
 refine Ar<|Be (S12 14 15 16 17 18 19 13 12 11 7 8 6 C C C C C C C C C C C C)<|Ap<|Gf fld42_3 C<|Gl ty22 ?_
 refine Ge2 (Eff.clone (α:=Int) (ys:=AV21.S) Aa ef C C C A7 om dc C) λcd cp=>?_
 refine Gm C<|Ge1 (Ca (α:=Int) (cs:=[_]) (xs:=[nn]) Aa ef C C dc dc C C C C) λbe=>?_
 refine Ge2 (Cf (α:=Int) (e:=3) (xs:=AV21.S) (ys:=([nn]:List Int)) Aa ef C C C mm A7 om dc C<|λ_ _=>am) λau aq=>?_
 refine Gf fld42_3 C<|Ge0 (A9 (cs:=[_,_,_,_,_,_,_,_,_,_,_]) (vs:=[_]) (cs':=[_,_,_,_,_,_,_,_,_,_,_]) ty22) ?_
 refine Ar<|Be (S12 14 15 16 17 18 19 13 12 11 7 8 6 C C C C C C C C C C C C)<|Ap<|Gf fld42_4 C<|Gf fld34_0 C<|Gl ef ?_
 refine Gr (Rad C C)<|Gr (Bg (cells:=[_,_]) ty34 B9 pl34 C C)<|Gf fld42_4 C<|Ge0 (A9 (cs:=[_,_,_,_,_,_,_,_,_,_,_]) (vs:=[_,_]) (cs':=[_,_,_,_,_,_,_,_,_,_,_]) ty34) ?_
 refine Ar<|Be (S12 14 15 16 17 18 19 13 12 11 7 8 6 C C C C C C C C C C C C)<|Ap<|Gf fld42_2 C<|Gl ef ?_
 refine Gr (Rad C C)<|Gf fld42_2 C<|Ge0 (A9 (cs:=[_,_,_,_,_,_,_,_,_,_,_]) (vs:=[_]) (cs':=[_,_,_,_,_,_,_,_,_,_,_]) ef) ?_
 refine Ar<|Be (S12 14 15 16 17 18 19 13 12 11 7 8 6 C C C C C C C C C C C C)<|Ap<|Gf fld42_5 C<|Gl ty38 ?_
 refine Ge2 (Eff.clone (α:=Pt) (ys:=AV21.P) Cz ty51 C C C A7 om dc C) λcq cc=>?_
 refine Gr (Bg (cells:=[_,_]) ty51 Tryz.underlying51 pl51 C C)<|Ge1 (Ca (α:=Pt) (cs:=[_,_]) (xs:=[⟨0,0⟩]) Cz ty51 C C dc dc C C C C) λbg=>?_
 refine Ge2 (Cf (α:=Pt) (e:=51) (xs:=AV21.P) (ys:=([⟨0,0⟩]:List Pt)) Cz ty51 C C C mm A7 om dc C<|λ_ _=>am) λar av=>?_
 refine Gf fld42_5 C<|Ge0 (A9 (cs:=[_,_,_,_,_,_,_,_,_,_,_]) (vs:=[_]) (cs':=[_,_,_,_,_,_,_,_,_,_,_]) ty38) ?_
 refine Ar<|Be (S12 14 15 16 17 18 19 13 12 11 7 8 6 C C C C C C C C C C C C)<|Ap<|Gf fld42_0 C<|Ge0 (A9 (cs:=[_,_,_,_,_,_,_,_,_,_,_]) (vs:=[_]) (cs':=[_,_,_,_,_,_,_,_,_,_,_]) ty4) ?_
 refine Ar<|A3<|Ap<|Gr (Bd (vs:=[_,_,_,_,_,_,_,_,_,_,_]) ty42) ?_
 refine Gr (Bd (vs:=[_,_,_,_,_,_,_,_,_,_,_]) ty42) ?_
 refine Gr (Bd (vs:=[_,_,_,_,_,_,_,_,_,_,_]) ty42) ?_
 refine Gr (Bd (vs:=[_,_,_,_,_,_,_,_,_,_,_]) ty42) ?_
 refine Gr (Bd (vs:=[_,_,_,_,_,_,_,_,_,_,_]) ty42) ?_
 refine Gr (Bd (vs:=[_,_,_,_,_,_,_,_,_,_,_]) ty42) ?_
 refine Ge1 (Ca (α:=AnV) (cs:=[.bool (AV21.fd),e7<|AV21.num+1,e7<|AV21.tm,.slice AV21.sa AV21.S.length AV21.sc,e7<|AV21.dn,e7<|AV21.dd,.slice AV21.pa AV21.P.length AV21.pc,.slice AV21.oa AV21.O.length AV21.oc,.slice AV21.na AV21.N.length AV21.nc,e7<|AV21.E,.slice AV21.qa AV21.Q.length AV21.qc,.bool<|AV21.fd,e7<|AV21.num,e7<|AV21.tm,.slice au (AV21.S++([nn]:List Int)).length aq,e7<|AV21.dn,e7<|AV21.dd,.slice AV21.pa AV21.P.length AV21.pc,.slice AV21.oa AV21.O.length AV21.oc,.slice AV21.na AV21.N.length AV21.nc,e7<|AV21.E,.slice AV21.qa AV21.Q.length AV21.qc,.bool<|AV21.fd,e7<|AV21.num,e7<|AV21.tm,.slice AV21.sa AV21.S.length AV21.sc,e7<|AV21.dn+1,e7 1,.slice AV21.pa AV21.P.length AV21.pc,.slice AV21.oa AV21.O.length AV21.oc,.slice AV21.na AV21.N.length AV21.nc,e7<|AV21.E,.slice AV21.qa AV21.Q.length AV21.qc,.bool<|AV21.fd,e7<|AV21.num,e7<|AV21.tm+1,.slice AV21.sa AV21.S.length AV21.sc,e7<|AV21.dn,e7<|AV21.dd,.slice AV21.pa AV21.P.length AV21.pc,.slice AV21.oa AV21.O.length AV21.oc,.slice AV21.na AV21.N.length AV21.nc,e7<|AV21.E,.slice AV21.qa AV21.Q.length AV21.qc,.bool<|AV21.fd,e7<|AV21.num,e7<|AV21.tm,.slice AV21.sa AV21.S.length AV21.sc,e7<|AV21.dn,e7<|AV21.dd,.slice ar (AV21.P++([⟨0,0⟩]:List Pt)).length av,.slice AV21.oa AV21.O.length AV21.oc,.slice AV21.na AV21.N.length AV21.nc,e7<|AV21.E,.slice AV21.qa AV21.Q.length AV21.qc,.bool false,e7<|AV21.num,e7<|AV21.tm,.slice AV21.sa AV21.S.length AV21.sc,e7<|AV21.dn,e7<|AV21.dd,.slice AV21.pa AV21.P.length AV21.pc,.slice AV21.oa AV21.O.length AV21.oc,.slice AV21.na AV21.N.length AV21.nc,e7<|AV21.E,.slice AV21.qa AV21.Q.length AV21.qc]) (xs:=[(⟨AV21.fd,AV21.num+1,AV21.tm,AV21.sa,AV21.sc,AV21.S,AV21.dn,AV21.dd,AV21.pa,AV21.pc,AV21.P,AV21.oa,AV21.oc,AV21.O,AV21.na,AV21.nc,AV21.N,AV21.E,AV21.qa,AV21.qc,AV21.Q⟩:AnV),(⟨AV21.fd,AV21.num,AV21.tm,au,aq,AV21.S++([nn]:List Int),AV21.dn,AV21.dd,AV21.pa,AV21.pc,AV21.P,AV21.oa,AV21.oc,AV21.O,AV21.na,AV21.nc,AV21.N,AV21.E,AV21.qa,AV21.qc,AV21.Q⟩:AnV),(⟨AV21.fd,AV21.num,AV21.tm,AV21.sa,AV21.sc,AV21.S,AV21.dn+1,1,AV21.pa,AV21.pc,AV21.P,AV21.oa,AV21.oc,AV21.O,AV21.na,AV21.nc,AV21.N,AV21.E,AV21.qa,AV21.qc,AV21.Q⟩:AnV),(⟨AV21.fd,AV21.num,AV21.tm+1,AV21.sa,AV21.sc,AV21.S,AV21.dn,AV21.dd,AV21.pa,AV21.pc,AV21.P,AV21.oa,AV21.oc,AV21.O,AV21.na,AV21.nc,AV21.N,AV21.E,AV21.qa,AV21.qc,AV21.Q⟩:AnV),(⟨AV21.fd,AV21.num,AV21.tm,AV21.sa,AV21.sc,AV21.S,AV21.dn,AV21.dd,ar,av,AV21.P++([⟨0,0⟩]:List Pt),AV21.oa,AV21.oc,AV21.O,AV21.na,AV21.nc,AV21.N,AV21.E,AV21.qa,AV21.qc,AV21.Q⟩:AnV),(⟨false,AV21.num,AV21.tm,AV21.sa,AV21.sc,AV21.S,AV21.dn,AV21.dd,AV21.pa,AV21.pc,AV21.P,AV21.oa,AV21.oc,AV21.O,AV21.na,AV21.nc,AV21.N,AV21.E,AV21.qa,AV21.qc,AV21.Q⟩:AnV)]) Tryz.underlying52 ty42 C C dc dc C kr C C) λbf=>?_
 refine Gr (Ce Tryz.underlying52 C)<|Gm C ?_
 have h8:=ab.E
 have bk:∀x∈([(⟨AV21.fd,AV21.num+1,AV21.tm,AV21.sa,AV21.sc,AV21.S,AV21.dn,AV21.dd,AV21.pa,AV21.pc,AV21.P,AV21.oa,AV21.oc,AV21.O,AV21.na,AV21.nc,AV21.N,AV21.E,AV21.qa,AV21.qc,AV21.Q⟩:AnV),(⟨AV21.fd,AV21.num,AV21.tm,au,aq,AV21.S++([nn]:List Int),AV21.dn,AV21.dd,AV21.pa,AV21.pc,AV21.P,AV21.oa,AV21.oc,AV21.O,AV21.na,AV21.nc,AV21.N,AV21.E,AV21.qa,AV21.qc,AV21.Q⟩:AnV),(⟨AV21.fd,AV21.num,AV21.tm,AV21.sa,AV21.sc,AV21.S,AV21.dn+1,1,AV21.pa,AV21.pc,AV21.P,AV21.oa,AV21.oc,AV21.O,AV21.na,AV21.nc,AV21.N,AV21.E,AV21.qa,AV21.qc,AV21.Q⟩:AnV),(⟨AV21.fd,AV21.num,AV21.tm+1,AV21.sa,AV21.sc,AV21.S,AV21.dn,AV21.dd,AV21.pa,AV21.pc,AV21.P,AV21.oa,AV21.oc,AV21.O,AV21.na,AV21.nc,AV21.N,AV21.E,AV21.qa,AV21.qc,AV21.Q⟩:AnV),(⟨AV21.fd,AV21.num,AV21.tm,AV21.sa,AV21.sc,AV21.S,AV21.dn,AV21.dd,ar,av,AV21.P++([⟨0,0⟩]:List Pt),AV21.oa,AV21.oc,AV21.O,AV21.na,AV21.nc,AV21.N,AV21.E,AV21.qa,AV21.qc,AV21.Q⟩:AnV),(⟨false,AV21.num,AV21.tm,AV21.sa,AV21.sc,AV21.S,AV21.dn,AV21.dd,AV21.pa,AV21.pc,AV21.P,AV21.oa,AV21.oc,AV21.O,AV21.na,AV21.nc,AV21.N,AV21.E,AV21.qa,AV21.qc,AV21.Q⟩:AnV)]:List AnV),HdA κ (vc 51 (.slice bg 1 1) (([⟨0,0⟩]:List Pt))::vc 51 (.slice ar (AV21.P++([⟨0,0⟩]:List Pt)).length av) (AV21.P++([⟨0,0⟩]:List Pt))::vc 3 (.slice be 1 1) (([nn]:List Int))::vc 3 (.slice au (AV21.S++([nn]:List Int)).length aq) (AV21.S++([nn]:List Int))::e8 b24 [.bool (AV21.fd),e7<|AV21.num+1,e7<|AV21.tm,.slice AV21.sa AV21.S.length AV21.sc,e7<|AV21.dn,e7<|AV21.dd,.slice AV21.pa AV21.P.length AV21.pc,.slice AV21.oa AV21.O.length AV21.oc,.slice AV21.na AV21.N.length AV21.nc,e7<|AV21.E,.slice AV21.qa AV21.Q.length AV21.qc] 42::e8 b25 [.bool (AV21.fd),e7<|AV21.num,e7<|AV21.tm,.slice au (AV21.S++([nn]:List Int)).length aq,e7<|AV21.dn,e7<|AV21.dd,.slice AV21.pa AV21.P.length AV21.pc,.slice AV21.oa AV21.O.length AV21.oc,.slice AV21.na AV21.N.length AV21.nc,e7<|AV21.E,.slice AV21.qa AV21.Q.length AV21.qc] 42::e8 b26 [.bool (AV21.fd),e7<|AV21.num,e7<|AV21.tm,.slice AV21.sa AV21.S.length AV21.sc,e7<|AV21.dn+1,e7 1,.slice AV21.pa AV21.P.length AV21.pc,.slice AV21.oa AV21.O.length AV21.oc,.slice AV21.na AV21.N.length AV21.nc,e7<|AV21.E,.slice AV21.qa AV21.Q.length AV21.qc] 42::e8 b27 [.bool (AV21.fd),e7<|AV21.num,e7<|AV21.tm+1,.slice AV21.sa AV21.S.length AV21.sc,e7<|AV21.dn,e7<|AV21.dd,.slice AV21.pa AV21.P.length AV21.pc,.slice AV21.oa AV21.O.length AV21.oc,.slice AV21.na AV21.N.length AV21.nc,e7<|AV21.E,.slice AV21.qa AV21.Q.length AV21.qc] 42::e8 b28 [.bool (AV21.fd),e7<|AV21.num,e7<|AV21.tm,.slice AV21.sa AV21.S.length AV21.sc,e7<|AV21.dn,e7<|AV21.dd,.slice ar (AV21.P++([⟨0,0⟩]:List Pt)).length av,.slice AV21.oa AV21.O.length AV21.oc,.slice AV21.na AV21.N.length AV21.nc,e7<|AV21.E,.slice AV21.qa AV21.Q.length AV21.qc] 42::e8 b29 [.bool false,e7<|AV21.num,e7<|AV21.tm,.slice AV21.sa AV21.S.length AV21.sc,e7<|AV21.dn,e7<|AV21.dd,.slice AV21.pa AV21.P.length AV21.pc,.slice AV21.oa AV21.O.length AV21.oc,.slice AV21.na AV21.N.length AV21.nc,e7<|AV21.E,.slice AV21.qa AV21.Q.length AV21.qc] 42::e8 a5 [.bool (AV21.fd),e7<|AV21.num,e7<|AV21.tm,.slice AV21.sa AV21.S.length AV21.sc,e7<|AV21.dn,e7<|AV21.dd,.slice AV21.pa AV21.P.length AV21.pc,.slice AV21.oa AV21.O.length AV21.oc,.slice AV21.na AV21.N.length AV21.nc,e7<|AV21.E,.slice AV21.qa AV21.Q.length AV21.qc] 42::vc 3 (.slice AV21.sa AV21.S.length AV21.sc) (AV21.S)::vc 51 (.slice AV21.pa AV21.P.length AV21.pc) (AV21.P)::vc 3 (.slice AV21.oa AV21.O.length AV21.oc) (AV21.O)::vc 3 (.slice AV21.na AV21.N.length AV21.nc) (AV21.N)::vc 3 (.slice AV21.qa AV21.Q.length AV21.qc) (AV21.Q)::e8 a0 [e7 Kq,e7 ap,e7 0,e7 ao,.slice none 0 0,e7 0,e7 0] 36::vc 36 (.slice az 5 5) (([⟨1,aw,0,M,none,0,[],0,0⟩,⟨5,0,0,M,none,0,[],0,0⟩,⟨6,0,0,M,none,0,[],0,0⟩,⟨7,0,0,M,none,0,[],0,0⟩,⟨10,ay,0,0,none,0,[],0,0⟩]:List QyV))::e8 ax [e7 aj,e7 ai,e7 ae] 31::vc 63 (.slice ak aa.length an) (aa)::e8 ad [.slice la ln lc,e7 a6] 65::I) x/\¬alikeP AV21 x/\x.E<=1000:=List.forall_mem_cons.2 ⟨⟨⟨A7,A7,A7,A7,A7,(by have h9:=ab.len;show (AV21.N).length+(AV21.O).length<=1000000;(try simp only [List.length_append,List.length_cons,List.length_nil]);omega)⟩,(λh=>by have h1:AV21.num=AV21.num+1:=h.2.1;omega),(by show AV21.E<=1000;omega)⟩,List.forall_mem_cons.2 ⟨⟨⟨A7,A7,A7,A7,A7,(by have h9:=ab.len;show (AV21.N).length+(AV21.O).length<=1000000;(try simp only [List.length_append,List.length_cons,List.length_nil]);omega)⟩,(λh=>no_app (n:=nn) h.2.2.2.1),(by show AV21.E<=1000;omega)⟩,List.forall_mem_cons.2 ⟨⟨⟨A7,A7,A7,A7,A7,(by have h9:=ab.len;show (AV21.N).length+(AV21.O).length<=1000000;(try simp only [List.length_append,List.length_cons,List.length_nil]);omega)⟩,(λh=>by have h1:AV21.dn=AV21.dn+1:=congrArg Fr.num h.2.2.2.2.1;omega),(by show AV21.E<=1000;omega)⟩,List.forall_mem_cons.2 ⟨⟨⟨A7,A7,A7,A7,A7,(by have h9:=ab.len;show (AV21.N).length+(AV21.O).length<=1000000;(try simp only [List.length_append,List.length_cons,List.length_nil]);omega)⟩,(λh=>by have h1:AV21.tm=AV21.tm+1:=h.2.2.1;omega),(by show AV21.E<=1000;omega)⟩,List.forall_mem_cons.2 ⟨⟨⟨A7,A7,A7,A7,A7,(by have h9:=ab.len;show (AV21.N).length+(AV21.O).length<=1000000;(try simp only [List.length_append,List.length_cons,List.length_nil]);omega)⟩,(λh=>by have h1:=congrArg List.length h.2.2.2.2.2;simp at h1),(by show AV21.E<=1000;omega)⟩,List.forall_mem_cons.2 ⟨⟨⟨A7,A7,A7,A7,A7,(by have h9:=ab.len;show (AV21.N).length+(AV21.O).length<=1000000;(try simp only [List.length_append,List.length_cons,List.length_nil]);omega)⟩,(λh=>by have h1:AV21.fd=false:=h.1;rw [b2] at h1;cases h1),(by show AV21.E<=1000;omega)⟩,λx hx=>by cases hx⟩⟩⟩⟩⟩⟩
 generalize hBL:([(⟨AV21.fd,AV21.num+1,AV21.tm,AV21.sa,AV21.sc,AV21.S,AV21.dn,AV21.dd,AV21.pa,AV21.pc,AV21.P,AV21.oa,AV21.oc,AV21.O,AV21.na,AV21.nc,AV21.N,AV21.E,AV21.qa,AV21.qc,AV21.Q⟩:AnV),(⟨AV21.fd,AV21.num,AV21.tm,au,aq,AV21.S++([nn]:List Int),AV21.dn,AV21.dd,AV21.pa,AV21.pc,AV21.P,AV21.oa,AV21.oc,AV21.O,AV21.na,AV21.nc,AV21.N,AV21.E,AV21.qa,AV21.qc,AV21.Q⟩:AnV),(⟨AV21.fd,AV21.num,AV21.tm,AV21.sa,AV21.sc,AV21.S,AV21.dn+1,1,AV21.pa,AV21.pc,AV21.P,AV21.oa,AV21.oc,AV21.O,AV21.na,AV21.nc,AV21.N,AV21.E,AV21.qa,AV21.qc,AV21.Q⟩:AnV),(⟨AV21.fd,AV21.num,AV21.tm+1,AV21.sa,AV21.sc,AV21.S,AV21.dn,AV21.dd,AV21.pa,AV21.pc,AV21.P,AV21.oa,AV21.oc,AV21.O,AV21.na,AV21.nc,AV21.N,AV21.E,AV21.qa,AV21.qc,AV21.Q⟩:AnV),(⟨AV21.fd,AV21.num,AV21.tm,AV21.sa,AV21.sc,AV21.S,AV21.dn,AV21.dd,ar,av,AV21.P++([⟨0,0⟩]:List Pt),AV21.oa,AV21.oc,AV21.O,AV21.na,AV21.nc,AV21.N,AV21.E,AV21.qa,AV21.qc,AV21.Q⟩:AnV),(⟨false,AV21.num,AV21.tm,AV21.sa,AV21.sc,AV21.S,AV21.dn,AV21.dd,AV21.pa,AV21.pc,AV21.P,AV21.oa,AV21.oc,AV21.O,AV21.na,AV21.nc,AV21.N,AV21.E,AV21.qa,AV21.qc,AV21.Q⟩:AnV)]:List AnV)=BL at bk ⊢
 have c5:BL.length=6:=by rw [←hBL];rfl
 refine Ar<|Be (S9 114 113 112 13 12 11 7 8 6 C C C C C C C C C)<|Bl<|Co (σ:=Nat) (λs=>([(6,e7 nn),(7,.slice ak aa.length an),(8,.pointer<|some ⟨ax,0,none⟩),(11,.pointer<|some ⟨a0,0,none⟩),(12,.pointer<|some ⟨a5,0,none⟩),(13,e7<|askQ nn aj ai ae aa Kq ap 0 ao ([]) 0 0),(112,.slice bf 6 6),(113,e7 ((6:Nat):Int)),(114,e7 ((s:Nat):Int))]:Env)) (λs=>vc 42 (.slice bf 6 6) (BL)::vc 51 (.slice bg 1 1) (([⟨0,0⟩]:List Pt))::vc 51 (.slice ar (AV21.P++([⟨0,0⟩]:List Pt)).length av) (AV21.P++([⟨0,0⟩]:List Pt))::vc 3 (.slice be 1 1) (([nn]:List Int))::vc 3 (.slice au (AV21.S++([nn]:List Int)).length aq) (AV21.S++([nn]:List Int))::e8 b24 [.bool (AV21.fd),e7<|AV21.num+1,e7<|AV21.tm,.slice AV21.sa AV21.S.length AV21.sc,e7<|AV21.dn,e7<|AV21.dd,.slice AV21.pa AV21.P.length AV21.pc,.slice AV21.oa AV21.O.length AV21.oc,.slice AV21.na AV21.N.length AV21.nc,e7<|AV21.E,.slice AV21.qa AV21.Q.length AV21.qc] 42::e8 b25 [.bool (AV21.fd),e7<|AV21.num,e7<|AV21.tm,.slice au (AV21.S++([nn]:List Int)).length aq,e7<|AV21.dn,e7<|AV21.dd,.slice AV21.pa AV21.P.length AV21.pc,.slice AV21.oa AV21.O.length AV21.oc,.slice AV21.na AV21.N.length AV21.nc,e7<|AV21.E,.slice AV21.qa AV21.Q.length AV21.qc] 42::e8 b26 [.bool (AV21.fd),e7<|AV21.num,e7<|AV21.tm,.slice AV21.sa AV21.S.length AV21.sc,e7<|AV21.dn+1,e7 1,.slice AV21.pa AV21.P.length AV21.pc,.slice AV21.oa AV21.O.length AV21.oc,.slice AV21.na AV21.N.length AV21.nc,e7<|AV21.E,.slice AV21.qa AV21.Q.length AV21.qc] 42::e8 b27 [.bool (AV21.fd),e7<|AV21.num,e7<|AV21.tm+1,.slice AV21.sa AV21.S.length AV21.sc,e7<|AV21.dn,e7<|AV21.dd,.slice AV21.pa AV21.P.length AV21.pc,.slice AV21.oa AV21.O.length AV21.oc,.slice AV21.na AV21.N.length AV21.nc,e7<|AV21.E,.slice AV21.qa AV21.Q.length AV21.qc] 42::e8 b28 [.bool (AV21.fd),e7<|AV21.num,e7<|AV21.tm,.slice AV21.sa AV21.S.length AV21.sc,e7<|AV21.dn,e7<|AV21.dd,.slice ar (AV21.P++([⟨0,0⟩]:List Pt)).length av,.slice AV21.oa AV21.O.length AV21.oc,.slice AV21.na AV21.N.length AV21.nc,e7<|AV21.E,.slice AV21.qa AV21.Q.length AV21.qc] 42::e8 b29 [.bool false,e7<|AV21.num,e7<|AV21.tm,.slice AV21.sa AV21.S.length AV21.sc,e7<|AV21.dn,e7<|AV21.dd,.slice AV21.pa AV21.P.length AV21.pc,.slice AV21.oa AV21.O.length AV21.oc,.slice AV21.na AV21.N.length AV21.nc,e7<|AV21.E,.slice AV21.qa AV21.Q.length AV21.qc] 42::e8 a5 [.bool (AV21.fd),e7<|AV21.num,e7<|AV21.tm,.slice AV21.sa AV21.S.length AV21.sc,e7<|AV21.dn,e7<|AV21.dd,.slice AV21.pa AV21.P.length AV21.pc,.slice AV21.oa AV21.O.length AV21.oc,.slice AV21.na AV21.N.length AV21.nc,e7<|AV21.E,.slice AV21.qa AV21.Q.length AV21.qc] 42::vc 3 (.slice AV21.sa AV21.S.length AV21.sc) (AV21.S)::vc 51 (.slice AV21.pa AV21.P.length AV21.pc) (AV21.P)::vc 3 (.slice AV21.oa AV21.O.length AV21.oc) (AV21.O)::vc 3 (.slice AV21.na AV21.N.length AV21.nc) (AV21.N)::vc 3 (.slice AV21.qa AV21.Q.length AV21.qc) (AV21.Q)::e8 a0 [e7 Kq,e7 ap,e7 0,e7 ao,.slice none 0 0,e7 0,e7 0] 36::vc 36 (.slice az 5 5) (([⟨1,aw,0,M,none,0,[],0,0⟩,⟨5,0,0,M,none,0,[],0,0⟩,⟨6,0,0,M,none,0,[],0,0⟩,⟨7,0,0,M,none,0,[],0,0⟩,⟨10,ay,0,0,none,0,[],0,0⟩]:List QyV))::e8 ax [e7 aj,e7 ai,e7 ae] 31::vc 63 (.slice ak aa.length an) (aa)::e8 ad [.slice la ln lc,e7 a6] 65::I) (λs=>(s<=6)) (λs=>6 - s) 0 (show ((0:Nat)<=6) from om) (Ab C<|Ab C<|Ab C<|Ab C<|Ab C<|Ab C<|Ab C<|Ab C<|Ab Dc Bt) (show Fit κ _ (vc 42 (.slice bf 6 6) (BL)::vc 51 (.slice bg 1 1) (([⟨0,0⟩]:List Pt))::vc 51 (.slice ar (AV21.P++([⟨0,0⟩]:List Pt)).length av) (AV21.P++([⟨0,0⟩]:List Pt))::vc 3 (.slice be 1 1) (([nn]:List Int))::vc 3 (.slice au (AV21.S++([nn]:List Int)).length aq) (AV21.S++([nn]:List Int))::e8 b24 [.bool (AV21.fd),e7<|AV21.num+1,e7<|AV21.tm,.slice AV21.sa AV21.S.length AV21.sc,e7<|AV21.dn,e7<|AV21.dd,.slice AV21.pa AV21.P.length AV21.pc,.slice AV21.oa AV21.O.length AV21.oc,.slice AV21.na AV21.N.length AV21.nc,e7<|AV21.E,.slice AV21.qa AV21.Q.length AV21.qc] 42::e8 b25 [.bool (AV21.fd),e7<|AV21.num,e7<|AV21.tm,.slice au (AV21.S++([nn]:List Int)).length aq,e7<|AV21.dn,e7<|AV21.dd,.slice AV21.pa AV21.P.length AV21.pc,.slice AV21.oa AV21.O.length AV21.oc,.slice AV21.na AV21.N.length AV21.nc,e7<|AV21.E,.slice AV21.qa AV21.Q.length AV21.qc] 42::e8 b26 [.bool (AV21.fd),e7<|AV21.num,e7<|AV21.tm,.slice AV21.sa AV21.S.length AV21.sc,e7<|AV21.dn+1,e7 1,.slice AV21.pa AV21.P.length AV21.pc,.slice AV21.oa AV21.O.length AV21.oc,.slice AV21.na AV21.N.length AV21.nc,e7<|AV21.E,.slice AV21.qa AV21.Q.length AV21.qc] 42::e8 b27 [.bool (AV21.fd),e7<|AV21.num,e7<|AV21.tm+1,.slice AV21.sa AV21.S.length AV21.sc,e7<|AV21.dn,e7<|AV21.dd,.slice AV21.pa AV21.P.length AV21.pc,.slice AV21.oa AV21.O.length AV21.oc,.slice AV21.na AV21.N.length AV21.nc,e7<|AV21.E,.slice AV21.qa AV21.Q.length AV21.qc] 42::e8 b28 [.bool (AV21.fd),e7<|AV21.num,e7<|AV21.tm,.slice AV21.sa AV21.S.length AV21.sc,e7<|AV21.dn,e7<|AV21.dd,.slice ar (AV21.P++([⟨0,0⟩]:List Pt)).length av,.slice AV21.oa AV21.O.length AV21.oc,.slice AV21.na AV21.N.length AV21.nc,e7<|AV21.E,.slice AV21.qa AV21.Q.length AV21.qc] 42::e8 b29 [.bool false,e7<|AV21.num,e7<|AV21.tm,.slice AV21.sa AV21.S.length AV21.sc,e7<|AV21.dn,e7<|AV21.dd,.slice AV21.pa AV21.P.length AV21.pc,.slice AV21.oa AV21.O.length AV21.oc,.slice AV21.na AV21.N.length AV21.nc,e7<|AV21.E,.slice AV21.qa AV21.Q.length AV21.qc] 42::e8 a5 [.bool (AV21.fd),e7<|AV21.num,e7<|AV21.tm,.slice AV21.sa AV21.S.length AV21.sc,e7<|AV21.dn,e7<|AV21.dd,.slice AV21.pa AV21.P.length AV21.pc,.slice AV21.oa AV21.O.length AV21.oc,.slice AV21.na AV21.N.length AV21.nc,e7<|AV21.E,.slice AV21.qa AV21.Q.length AV21.qc] 42::vc 3 (.slice AV21.sa AV21.S.length AV21.sc) (AV21.S)::vc 51 (.slice AV21.pa AV21.P.length AV21.pc) (AV21.P)::vc 3 (.slice AV21.oa AV21.O.length AV21.oc) (AV21.O)::vc 3 (.slice AV21.na AV21.N.length AV21.nc) (AV21.N)::vc 3 (.slice AV21.qa AV21.Q.length AV21.qc) (AV21.Q)::e8 a0 [e7 Kq,e7 ap,e7 0,e7 ao,.slice none 0 0,e7 0,e7 0] 36::vc 36 (.slice az 5 5) (([⟨1,aw,0,M,none,0,[],0,0⟩,⟨5,0,0,M,none,0,[],0,0⟩,⟨6,0,0,M,none,0,[],0,0⟩,⟨7,0,0,M,none,0,[],0,0⟩,⟨10,ay,0,0,none,0,[],0,0⟩]:List QyV))::e8 ax [e7 aj,e7 ai,e7 ae] 31::vc 63 (.slice ak aa.length an) (aa)::e8 ad [.slice la ln lc,e7 a6] 65::I) from Bf) ?_
 rintro k hp
 have hk:=hp
 refine Ap<|Gr (Ch C C)<|Ar<|A3<|Av C (λbz=>?_)<|λbz=>?_
 ·refine Bs (Au<|A3<|Bl<|Ap<|Gr (Az (α:=AnV) (xs:=BL) Tryz.underlying52 ty42 C C A7 om om)<|Gr (Dp (α:=AnV) (xs:=BL) ty42 C A7 om om) ?_)
  have a7:=bk _ (Bv (xs:=BL) (i:=(k:Int)) om om)
  generalize hBk:e_ BL k=Bk at a7 ⊢
  refine Ge1 (Am ty42 C) λc6=>Ge0 (A9 (cs:=[_,_,_,_,_,_,_,_,_,_,_]) (vs:=[_,_,_,_,_,_,_,_,_,_,_]) (cs':=[_,_,_,_,_,_,_,_,_,_,_]) ty42) ?_
  refine Ar<|Be (S10 21 6 7 8 11 12 13 112 113 114 C C C C C C C C C C)<|Ap<|Gm C<|Gm C<|Gl3 ty31 ?_
  refine Gl7 ty36 ?_
  refine Gr (Bd (vs:=[_,_,_,_,_,_,_,_,_,_,_]) ty42) ?_
  refine G.e (Ad c_ C C<|AudCheck_ok (nd:=nn) (kd:=aj) (wd:=ai) (mo:=ae) (es:=aa) (K:=Kq) (node:=ap) (lv:=0) (tq:=ao) (num:=0) (den:=0) (S:=[]) (Aw:=Bk) A7 (Ex _) (HdA.fit a7.1 Bf) ba om (five_dens a4) (by first|exact a7.2.2|exact Int.le_trans a9.E.2 dc)<|A5 hT Ah) ?_
  rintro _ _ ⟨_,_,⟨ct,rfl,br,rfl⟩,rfl,rfl⟩
  refine Gr (C3 C C)<|Ar<|Be (S10 124 6 7 8 11 12 13 112 113 114 C C C C C C C C C C)<|Av C (λbm=>?_)<|λbm=>?_
  ·exact absurd (chk_no br e0 bb a7.2.1) bm
  exact Bs<|Ay<|Au<|Bi<|Gr (Rad C C)<|Gm C<|Bm<|B7 ((k+1)) om
 refine C4<|A8<|A8<|Bz<|Au<|A3<|Ap<|Gf fld36_0 C<|Gl ef ?_
 refine Gr (C3 C C)<|Ar<|Av C (λbv=>?_)<|λbv=>?_
 ·refine Ap (Gr (Bd (vs:=[_,_,_,_,_,_,_,_,_,_,_]) ty42) ?_)
  refine Ge1 (Am ty42 C) λda=>Ge0 (A9 (cs:=[_,_,_,_,_,_,_,_,_,_,_]) (vs:=[_,_,_,_,_,_,_,_,_,_,_]) (cs':=[_,_,_,_,_,_,_,_,_,_,_]) ty42) ?_
  refine Ar<|Be (S7 22 6 7 8 11 12 13 C C C C C C C)<|Ap<|Gf fld42_6 C<|Gl ty22 ?_
  refine Ge2 (Eff.clone (α:=Int) (ys:=AV21.O) Aa ef C C C A7 om dc C) λcn cj=>?_
  refine Ge1 (Ca (α:=Int) (cs:=[_]) (xs:=[0]) Aa ef C C dc dc C C C C) λci=>?_
  refine Ge2 (Cf (α:=Int) (e:=3) (xs:=AV21.O) (ys:=([0]:List Int)) Aa ef C C C mm A7 om dc C<|λ_ _=>am) λbx bw=>?_
  refine Gf fld42_6 C<|Ge0 (A9 (cs:=[_,_,_,_,_,_,_,_,_,_,_]) (vs:=[_]) (cs':=[_,_,_,_,_,_,_,_,_,_,_]) ty22) ?_
  refine Ar<|Ap<|Gm C<|Gm C<|Gl3 ty31 ?_
  refine Gl7 ty36 ?_
  refine Gr (Bd (vs:=[_,_,_,_,_,_,_,_,_,_,_]) ty42) ?_
  refine G.e (Ad c_ C C<|AudCheck_ok (nd:=nn) (kd:=aj) (wd:=ai) (mo:=ae) (es:=aa) (K:=Kq) (node:=ap) (lv:=0) (tq:=ao) (num:=0) (den:=0) (S:=[]) (Aw:=(⟨AV21.fd,AV21.num,AV21.tm,AV21.sa,AV21.sc,AV21.S,AV21.dn,AV21.dd,AV21.pa,AV21.pc,AV21.P,bx,bw,AV21.O++([0]:List Int),AV21.na,AV21.nc,AV21.N,AV21.E,AV21.qa,AV21.qc,AV21.Q⟩:AnV)) A7 (Ex _) ⟨A7,A7,A7,A7,A7,(by have h9:=ab.len;show (AV21.N).length+(AV21.O++([0]:List Int)).length<=1000000;(try simp only [List.length_append,List.length_cons,List.length_nil]);omega)⟩ ba om (five_dens a4) (by first|exact a7.2.2|exact Int.le_trans a9.E.2 dc)<|A5 hT Ah) ?_
  rintro _ _ ⟨_,_,⟨cg,rfl,bq,rfl⟩,rfl,rfl⟩
  refine Gr (C3 C C)<|Ar<|Be (S7 142 6 7 8 11 12 13 C C C C C C C)<|Av C (λbi=>?_)<|λbi=>?_
  ·exact absurd (chk_bare bq e0 (by rcases a4 with h9|h9|h9|h9|h9<;>omega)<|by show 0<(AV21.O++[0]).length;simp) bi
  refine Bs<|Au<|Ap<|Gm C<|Gr (Em C C)<|Gm C<|A6 (d:=145) C (λa1=>?_)<|λa1=>?_
  ·refine e9 (Af C) (e9 (Af C)<|e9 (Bd (vs:=[_,_,_]) ty31) ?_)
   refine e9 (Bd (vs:=[_,_,_,_,_,_,_]) ty36) ?_
   refine e9 (Bd (vs:=[_,_,_,_,_,_,_,_,_,_,_]) ty42) ?_
   refine Dn (B5 C C C) (Ad c_ C C<|AudCheck_ok (nd:=nn) (kd:=aj) (wd:=ai) (mo:=ae) (es:=aa) (K:=Kq) (node:=ap) (lv:=0) (tq:=ao) (num:=0) (den:=0) (S:=[]) (Aw:=AV21) A7 (Ex _) ⟨A7,A7,A7,A7,A7,(by have h9:=ab.len;show (AV21.N).length+(AV21.O).length<=1000000;omega)⟩ ba om (five_dens a4) (by first|exact a7.2.2|exact Int.le_trans a9.E.2 dc)<|A5 hT Ah) ?_
   rintro _ _ ⟨_,_,⟨co,rfl,bp,rfl⟩,rfl,rfl⟩
   refine e9 (Em C C)<|Gr (A2 C C)<|Gm C<|A6 (d:=154) C (λa3=>?_)<|λa3=>?_
   ·refine Dn (B5 C C C) (Ad c_ C C<|Awake45_ok<|A5 hT Ah) ?_
    rintro _ _ ⟨_,_,⟨rfl,rfl⟩,rfl,rfl⟩
    exact Gr (A2 C C)<|Ga C<|Ar<|Be (S1 4 C)<|Bo<|Ai C C I (by first|exact Ah|exact FitW) ⟨rfl,rfl⟩
   exact absurd (bp.acc e0 bb) a3
  exact absurd e0 a1
 refine Bs<|Au<|Ap<|Gm C<|Gr (Em C C)<|Gm C<|A6 (d:=145) C (λa1=>?_)<|λa1=>?_
 ·refine e9 (Af C) (e9 (Af C)<|e9 (Bd (vs:=[_,_,_]) ty31) ?_)
  refine e9 (Bd (vs:=[_,_,_,_,_,_,_]) ty36) ?_
  refine e9 (Bd (vs:=[_,_,_,_,_,_,_,_,_,_,_]) ty42) ?_
  refine Dn (B5 C C C) (Ad c_ C C<|AudCheck_ok (nd:=nn) (kd:=aj) (wd:=ai) (mo:=ae) (es:=aa) (K:=Kq) (node:=ap) (lv:=0) (tq:=ao) (num:=0) (den:=0) (S:=[]) (Aw:=AV21) A7 (Ex _) ⟨A7,A7,A7,A7,A7,(by have h9:=ab.len;show (AV21.N).length+(AV21.O).length<=1000000;omega)⟩ ba om (five_dens a4) (by first|exact a7.2.2|exact Int.le_trans a9.E.2 dc)<|A5 hT Ah) ?_
  rintro _ _ ⟨_,_,⟨ck,rfl,bn,rfl⟩,rfl,rfl⟩
  refine e9 (Em C C)<|Gr (A2 C C)<|Gm C<|A6 (d:=154) C (λa3=>?_)<|λa3=>?_
  ·refine Dn (B5 C C C) (Ad c_ C C<|Awake45_ok<|A5 hT Ah) ?_
   rintro _ _ ⟨_,_,⟨rfl,rfl⟩,rfl,rfl⟩
   exact Gr (A2 C C)<|Ga C<|Ar<|Be (S1 4 C)<|Bo<|Ai C C I (by first|exact Ah|exact FitW) ⟨rfl,rfl⟩
  exact absurd (bn.acc e0 bb) a3
 exact absurd e0 a1
end Go.Sl
