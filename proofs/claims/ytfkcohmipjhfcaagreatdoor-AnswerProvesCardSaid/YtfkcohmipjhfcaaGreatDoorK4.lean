/- A part of the proofs of statements of this seat: contracts of functions, and the plain laws that they lean on. No conditions. -/
import Derived.Test.YtfkcohmipjhfcaaGreatDoorK3
import Derived.Test.YtfkcohmipjhfcaaGreatDoorProg
set_option linter.unusedVariables false
set_option linter.unusedSimpArgs false
set_option linter.unusedSectionVars false
open Go.Proofs.Tryz (prog)
namespace Go.Sl
theorem mem_andB{a b:BitVec 64}{u:Int}:u∈eo (a &&& b)↔u∈eo a/\u∈eo b:=by
 simp only [mem_listB,BitVec.getLsbD_and,Bool.and_eq_true]
 constructor
 ·rintro ⟨h1,h2,h3⟩;exact ⟨⟨h1,h2⟩,h1,h3⟩
 ·rintro ⟨⟨h1,h2⟩,_,h3⟩;exact ⟨h1,h2,h3⟩
theorem listB_lt{m:BitVec 64}{u:Int}(h:u∈eo m):0<=u/\u<64:=by
 rw [mem_listB] at h
 refine ⟨h.1,Classical.byContradiction λhn=>?_⟩
 rw [BitVec.getLsbD_of_ge _ _ (by omega)] at h
 exact absurd h.2 (by simp)
theorem mem_orbit{m:BitVec 64}{u k:Int}(h0:0<=k)(h1:k<64):u∈eo (m ||| 1#64 <<< k.toNat)↔u∈eo m\/u=k:=by
 constructor
 ·intro h
  have hu:=listB_lt h
  rw [mem_listB,BitVec.getLsbD_or,getLsb_shl _ _ (by omega),Bool.or_eq_true,decide_eq_true_eq] at h
  rw [mem_listB]
  rcases h.2 with h2|h2
  ·exact .inl ⟨h.1,h2⟩
  ·exact .inr (by omega)
 ·intro h
  have hu:0<=u/\u<64:=h.elim listB_lt λh=>by omega
  rw [mem_listB,BitVec.getLsbD_or,getLsb_shl _ _ (by omega),Bool.or_eq_true,decide_eq_true_eq]
  rw [mem_listB] at h
  exact ⟨hu.1,h.elim (λh=> .inl h.2) λh=> .inr (by omega)⟩
theorem mem_minus{m:BitVec 64}{u k:Int}(h0:0<=k):u∈eo (m &&& ~~~(1#64 <<< k.toNat))↔u∈eo m/\u≠k:=by
 constructor
 ·intro h
  have hu:=listB_lt h
  rw [mem_listB,BitVec.getLsbD_and,BitVec.getLsbD_not,getLsb_shl _ _ (by omega),Bool.and_eq_true] at h
  rw [mem_listB]
  refine ⟨⟨h.1,h.2.1⟩,λe=>?_⟩
  have h3:=h.2.2
  rw [e] at h3
  simp at h3
 ·rintro ⟨h,hne⟩
  have hu:=listB_lt h
  rw [mem_listB] at h
  rw [mem_listB,BitVec.getLsbD_and,BitVec.getLsbD_not,getLsb_shl _ _ (by omega),Bool.and_eq_true]
  refine ⟨h.1,h.2,?_⟩
  rw [decide_eq_false (show ¬k.toNat=u.toNat by omega)]
  simp;omega
theorem listB_nodup(m:BitVec 64):(eo m).Nodup:=(listB_asc m).imp λh=>by omega
theorem listB_perm{m:BitVec 64}{k:Int}(h:k∈eo m):(eo m).Perm (k::eo (m &&& ~~~(1#64 <<< k.toNat))):=by
 have h0:=(listB_lt h).1
 refine (List.perm_ext_iff_of_nodup (listB_nodup _) (List.nodup_cons.2 ⟨λe=>((mem_minus h0).1 e).2 rfl,listB_nodup _⟩)).2 λu=>?_
 rw [List.mem_cons,mem_minus h0]
 by_cases e:u=k
 ·subst e;simp [h]
 ·simp [e]
theorem listB_minus{m:BitVec 64}{k:Int}(h:k∈eo m):(eo m).length=(eo (m &&& ~~~(1#64 <<< k.toNat))).length+1:=(listB_perm h).length_eq
theorem minus_same{m:BitVec 64}{k:Int}(h0:0<=k)(h:k∉eo m):(eo (m &&& ~~~(1#64 <<< k.toNat))).length=(eo m).length:=by
 refine ((List.perm_ext_iff_of_nodup (listB_nodup _) (listB_nodup _)).2 λu=>?_).length_eq
 rw [mem_minus h0]
 exact ⟨λh=>h.1,λhu=>⟨hu,λe=>h (e▸hu)⟩⟩
theorem nz_listB{m:BitVec 64}:m≠0#64↔∃u,u∈eo m:=by
 constructor
 ·intro h;exact ⟨_,by rw [listB_step h];exact List.mem_cons_self⟩
 ·rintro ⟨u,hu⟩ rfl
  rw [listB_zero] at hu;cases hu
theorem tzB_le{m:BitVec 64}(h:m≠0#64):tzB m∈eo m/\∀u∈eo m,tzB m<=u:=by
 have e:=listB_step h
 refine ⟨by rw [e];exact List.mem_cons_self,λu hu=>?_⟩
 have ha:=listB_asc m
 rw [e] at ha hu
 rcases List.mem_cons.1 hu with rfl|hu
 ·exact Int.le_refl _
 ·have:=(List.pairwise_cons.1 ha).1 u hu;omega
def degB(rows:List (BitVec 64))(left:BitVec 64)(v:Int):Nat:=(eo (e_ rows v &&& left)).length
structure Takes (rows:List (BitVec 64)) (left:BitVec 64) (v:Int):Prop where
 mem:v∈eo left
 le:∀u∈eo left,degB rows left v<degB rows left u\/(degB rows left v=degB rows left u/\v<=u)
theorem Takes.uniq{rows:List (BitVec 64)}{left:BitVec 64}{v v':Int}(h:Takes rows left v)(h':Takes rows left v'):v=v':=by
 have a:=h.le v' h'.mem
 have b:=h'.le v h.mem
 omega
theorem fold_least(f:Int->Nat):∀(l:List Int) (b:Int),(∀u∈l,b<=u)->l.Pairwise (· < ·)->
    ((l.foldl (λb v=>if f v<f b then v else b) b=b\/l.foldl (λb v=>if f v<f b then v else b) b∈l)/\
     (f (l.foldl (λb v=>if f v<f b then v else b) b)<f b\/l.foldl (λb v=>if f v<f b then v else b) b=b)/\
     ∀u∈l,f (l.foldl (λb v=>if f v<f b then v else b) b)<f u\/(f (l.foldl (λb v=>if f v<f b then v else b) b)=f u/\l.foldl (λb v=>if f v<f b then v else b) b<=u))
  |[],b,_,_=>⟨.inl rfl,.inr rfl,λu hu=>by cases hu⟩
  |x::xs,b,hb,hp=>by
    obtain ⟨hx,hp'⟩:=List.pairwise_cons.1 hp
    have hbx:=hb x List.mem_cons_self
    rw [List.foldl_cons]
    by_cases hc:f x<f b
    · rw [if_pos hc]
      obtain ⟨h1,h2,h3⟩:=fold_least f xs x (λu hu=>by have:=hx u hu;omega) hp'
      generalize xs.foldl (λb v=>if f v<f b then v else b) x=r at h1 h2 h3
      refine ⟨.inr (h1.elim (λe=>e▸List.mem_cons_self) λh=>List.mem_cons_of_mem _ h),.inl (h2.elim (λh=>by omega) λh=>by rw [h];exact hc),λu hu=>?_⟩
      rcases List.mem_cons.1 hu with rfl|hu
      · exact h2.elim .inl λh=> .inr ⟨by rw [h],by omega⟩
      · exact h3 u hu
    · rw [if_neg hc]
      obtain ⟨h1,h2,h3⟩:=fold_least f xs b (λu hu=>hb u (List.mem_cons_of_mem _ hu)) hp'
      generalize xs.foldl (λb v=>if f v<f b then v else b) b=r at h1 h2 h3
      refine ⟨h1.imp_right λh=>List.mem_cons_of_mem _ h,h2,λu hu=>?_⟩
      rcases List.mem_cons.1 hu with rfl|hu
      · rcases h2 with h|h
        · exact .inl (by omega)
        · rw [h];omega
      · exact h3 u hu
def takeF(rows:List (BitVec 64))(left:BitVec 64):Int:=(eo left).foldl (λb v=>if degB rows left v<degB rows left b then v else b) ((eo left).headD 0)
theorem takeF_takes{rows:List (BitVec 64)}{left:BitVec 64}(h:left≠0#64):Takes rows left (takeF rows left):=by
 have e:=listB_step h
 have ha:=listB_asc left
 unfold takeF
 have hh:(eo left).headD 0=tzB left:=by rw [e];rfl
 rw [hh]
 obtain ⟨h1,_,h3⟩:=fold_least (degB rows left) (eo left) (tzB left) (tzB_le h).2 ha
 refine ⟨?_,h3⟩
 rcases h1 with h1|h1
 ·rw [h1];exact (tzB_le h).1
 ·exact h1
def coreF(rows:List (BitVec 64)):Nat->BitVec 64->Nat->List (Int×Nat)
 |0,_,_=>[]
 |n+1,left,k=>(takeF rows left,max k (degB rows left (takeF rows left)))::coreF rows n (left &&& ~~~(1#64 <<< (takeF rows left).toNat)) (max k (degB rows left (takeF rows left)))
def coreR(rows:List (BitVec 64))(left:BitVec 64)(k:Nat):List (Int×Nat):=coreF rows (eo left).length left k
theorem coreR_zero(rows:List (BitVec 64))(k:Nat):coreR rows 0#64 k=[]:=by unfold coreR;rw [listB_zero];rfl
theorem coreR_step{rows:List (BitVec 64)}{left:BitVec 64}{k:Nat}{v:Int}(h:Takes rows left v):coreR rows left k=(v,max k (degB rows left v))::coreR rows (left &&& ~~~(1#64 <<< v.toNat)) (max k (degB rows left v)):=by
 have hv:takeF rows left=v:=(takeF_takes (nz_listB.2 ⟨v,h.mem⟩)).uniq h
 unfold coreR
 rw [listB_minus h.mem]
 show (takeF rows left,_)::_=_
 rw [hv]
def ordL(l:List (Int×Nat)):List Int:=l.map λp=>p.1
def numL(n:Nat)(l:List (Int×Nat)):List Int:=l.foldl (λxs p=>xs.set p.1.toNat (p.2:Int)) (List.replicate n 0)
theorem numL_len(n:Nat)(l:List (Int×Nat)):(numL n l).length=n:=by
 unfold numL
 have:∀(l:List (Int×Nat)) (xs:List Int),(l.foldl (λxs p=>xs.set p.1.toNat (p.2:Int)) xs).length=xs.length:=λl=>by
  induction l with
  |nil=>intro xs;rfl
  |cons p l ih=>intro xs;rw [List.foldl_cons,ih,List.length_set]
 rw [this,List.length_replicate]
theorem numL_snoc(n:Nat)(l:List (Int×Nat))(v:Int)(k:Nat):numL n (l++[(v,k)])=(numL n l).set v.toNat (k:Int):=by
 unfold numL;rw [List.foldl_append];rfl
theorem ordL_snoc(l:List (Int×Nat))(v:Int)(k:Nat):ordL (l++[(v,k)])=ordL l++[v]:=by
 unfold ordL;rw [List.map_append];rfl
structure SymB (n:Nat) (rows:List (BitVec 64)):Prop where
 len:rows.length=n
 le:n<=64
 lt:∀u v:Int,0<=u->u<n->v∈eo (e_ rows u)->v<n
 sym:∀u v:Int,0<=u->u<n->v∈eo (e_ rows u)->u∈eo (e_ rows v)
 irr:∀u:Int,0<=u->u<n->u∉eo (e_ rows u)
theorem RowsOk.mem{nd:Int}{es:List Pt}{rows:List (BitVec 64)}(h:RowsOk nd es rows){u v:Int}(u0:0<=u)(u1:u<nd):v∈eo (e_ rows u)↔(0<=v/\v<64)/\((⟨u,v⟩:Pt)∈es\/(⟨v,u⟩:Pt)∈es):=by
 constructor
 ·intro hv
  have hr:=listB_lt hv
  rw [mem_listB,h.bit u v u0 u1 hr.1 hr.2,decide_eq_true_eq] at hv
  exact ⟨hr,hv.2⟩
 ·rintro ⟨hr,hv⟩
  rw [mem_listB,h.bit u v u0 u1 hr.1 hr.2,decide_eq_true_eq]
  exact ⟨hr.1,hv⟩
theorem RowsOk.symB{nd:Int}{es:List Pt}{rows:List (BitVec 64)}(h:RowsOk nd es rows)(hG:GrOk nd es):SymB nd.toNat rows:=by
 have hr:=hG.rng
 have hl:=h.len
 have ed:∀a b:Int,((⟨a,b⟩:Pt)∈es)->0<=a/\a<b/\b<nd:=λa b hm=>hG.edge _ hm
 refine ⟨by omega,by omega,λu v u0 u1 hv=>?_,λu v u0 u1 hv=>?_,λu u0 u1 hv=>?_⟩
 ·have:=((h.mem u0 (by omega)).1 hv).2
  rcases this with e|e<;>have:=ed _ _ e<;>omega
 ·obtain ⟨h1,h2⟩:=(h.mem u0 (by omega)).1 hv
  have h3:v<nd:=by rcases h2 with e|e<;>have:=ed _ _ e<;>omega
  exact (h.mem h1.1 h3).2 ⟨⟨u0,by omega⟩,h2.symm⟩
 ·have:=((h.mem u0 (by omega)).1 hv).2
  rcases this with e|e<;>have:=ed _ _ e<;>omega
section
variable {n:Nat}{rows:List (BitVec 64)}
theorem degB_lt(h:SymB n rows)(left:BitVec 64){v:Int}(v0:0<=v)(v1:v<n):degB rows left v<n:=by
 unfold degB
 have hs:(v::eo (e_ rows v &&& left)).Nodup:=List.nodup_cons.2 ⟨λhm=>h.irr v v0 v1 (mem_andB.1 hm).1,listB_nodup _⟩
 have hsub:∀x∈(v::eo (e_ rows v &&& left)),x∈(List.range n).map fun (i:Nat)=>(i:Int):=λx hx=>by
  rw [List.mem_map]
  rcases List.mem_cons.1 hx with rfl|hx
  ·exact ⟨x.toNat,List.mem_range.2 (by omega),by omega⟩
  ·have h1:=(mem_andB.1 hx).1
   have h2:=h.lt v x v0 v1 h1
   have h3:=(listB_lt h1).1
   exact ⟨x.toNat,List.mem_range.2 (by omega),by omega⟩
 have:=List.Nodup.length_le_of_subset hs hsub
 rw [List.length_map,List.length_range,List.length_cons] at this
 omega
theorem degB_minus(h:SymB n rows){left:BitVec 64}{u v:Int}(u0:0<=u)(u1:u<n)(v0:0<=v)(v1:v<n)(hv:v∈eo left) :
  degB rows left u=degB rows (left &&& ~~~(1#64 <<< v.toNat)) u+if u∈eo (e_ rows v) then 1 else 0:=by
 unfold degB
 rw [←BitVec.and_assoc]
 by_cases hm:u∈eo (e_ rows v)
 ·rw [if_pos hm]
  exact listB_minus (mem_andB.2 ⟨h.sym v u v0 v1 hm,hv⟩)
 ·rw [if_neg hm]
  exact (minus_same v0 λe=>hm (h.sym u v u0 u1 (mem_andB.1 e).1)).symm
end
structure BkOk (n:Nat) (S:Int->Prop) (dg:Int->Nat) (dgs:List Int) (bks:List (BitVec 64)):Prop where
 dlen:dgs.length=n
 blen:bks.length=64
 rng:∀u,S u->0<=u/\u<n
 deg:∀u,S u->e_ dgs u=(dg u:Int)
 bkt:∀d:Int,0<=d->d<64->∀u:Int,u∈eo (e_ bks d)↔S u/\(dg u:Int)=d
section
variable {n:Nat}{S S':Int->Prop}{dg dg':Int->Nat}{dgs:List Int}{bks:List (BitVec 64)}
theorem BkOk.start(n:Nat)(dg:Int->Nat):BkOk n (λu=>0<=u/\u<((0:Nat):Int)) dg (List.replicate n 0) (List.replicate 64 0#64):=
 ⟨List.length_replicate,List.length_replicate,λu hu=>by omega,λu hu=>by omega,λd d0 d1 u=>by
  rw [at_rep64,listB_zero]
  exact ⟨(λh=>by cases h),λh=>by omega⟩⟩
theorem BkOk.congr(h:BkOk n S dg dgs bks)(hS:∀u,S' u↔S u)(hd:∀u,S u->dg' u=dg u):BkOk n S' dg' dgs bks:=
 ⟨h.dlen,h.blen,λu hu=>h.rng u ((hS u).1 hu),λu hu=>by rw [h.deg u ((hS u).1 hu),hd u ((hS u).1 hu)],λd d0 d1 u=>by
  rw [h.bkt d d0 d1 u,hS]
  constructor
  ·rintro ⟨h1,h2⟩;exact ⟨h1,by rw [hd u h1];exact h2⟩
  ·rintro ⟨h1,h2⟩;exact ⟨h1,by rw [←hd u h1];exact h2⟩⟩
theorem BkOk.push(h:BkOk n S dg dgs bks){v c:Int}(v0:0<=v)(v1:v<n)(hn:n<=64)(hS:∀u,S' u↔S u\/u=v)(hv:¬S v)(hc:c=(dg v:Int))(c1:c<64) :
  BkOk n S' dg (dgs.set v.toNat c) (bks.set c.toNat (e_ bks c ||| 1#64 <<< v.toNat)):=by
 have hbl:=h.blen
 have hdl:=h.dlen
 refine ⟨by rw [List.length_set];exact hdl,by rw [List.length_set];exact hbl,λu hu=>?_,λu hu=>?_,λd d0 d1 u=>?_⟩
 ·rcases (hS u).1 hu with hu|rfl
  ·exact h.rng u hu
  ·exact ⟨v0,v1⟩
 ·have hr:0<=u:=((hS u).1 hu).elim (λhu=>(h.rng u hu).1) λe=>by omega
  rw [at_set _ v u _ v0 hr (by omega)]
  rcases (hS u).1 hu with hu|rfl
  ·rw [if_neg (λe=>hv (by rw [e];exact hu))];exact h.deg u hu
  ·rw [if_pos rfl,hc]
 ·rw [at_set _ c d _ (by omega) d0 (by omega),hS]
  by_cases e:c=d
  ·rw [if_pos e,mem_orbit v0 (by omega),e,h.bkt d d0 d1]
   constructor
   ·rintro (⟨h1,h2⟩|rfl)
    ·exact ⟨.inl h1,h2⟩
    ·exact ⟨.inr rfl,by omega⟩
   ·rintro ⟨h1|rfl,h2⟩
    ·exact .inl ⟨h1,h2⟩
    ·exact .inr rfl
  ·rw [if_neg e,h.bkt d d0 d1]
   constructor
   ·rintro ⟨h1,h2⟩;exact ⟨.inl h1,h2⟩
   ·rintro ⟨h1|rfl,h2⟩
    ·exact ⟨h1,h2⟩
    ·exact absurd (hc.trans h2) e
theorem BkOk.drop(h:BkOk n S dg dgs bks){v d:Int}(hv:S v)(hd:(dg v:Int)=d)(d1:d<64)(hS:∀u,S' u↔S u/\u≠v) :
  BkOk n S' dg dgs (bks.set d.toNat (e_ bks d &&& ~~~(1#64 <<< v.toNat))):=by
 have hbl:=h.blen
 have hr:=h.rng v hv
 refine ⟨h.dlen,by rw [List.length_set];exact hbl,λu hu=>h.rng u ((hS u).1 hu).1,λu hu=>h.deg u ((hS u).1 hu).1,λc c0 c1 u=>?_⟩
 rw [at_set _ d c _ (by omega) c0 (by omega),hS]
 by_cases e:d=c
 ·rw [if_pos e,mem_minus hr.1,e,h.bkt c c0 c1]
  constructor
  ·rintro ⟨⟨h1,h2⟩,h3⟩;exact ⟨⟨h1,h3⟩,h2⟩
  ·rintro ⟨⟨h1,h3⟩,h2⟩;exact ⟨⟨h1,h2⟩,h3⟩
 ·rw [if_neg e,h.bkt c c0 c1]
  constructor
  ·rintro ⟨h1,h2⟩;exact ⟨⟨h1,λe2=>e (by subst e2;omega)⟩,h2⟩
  ·rintro ⟨⟨h1,_⟩,h2⟩;exact ⟨h1,h2⟩
theorem BkOk.lower(h:BkOk n S dg dgs bks)(hn:n<=64){w e:Int}(hw:S w)(he:(dg w:Int)=e)(e0:1<=e)(e1:e<64)(hd:∀u,S u->dg' u=if u=w then dg u - 1 else dg u) :
  BkOk n S dg' (dgs.set w.toNat (e - 1)) ((bks.set e.toNat (e_ bks e &&& ~~~(1#64 <<< w.toNat))).set (e - 1).toNat (e_ (bks.set e.toNat (e_ bks e &&& ~~~(1#64 <<< w.toNat))) (e - 1) ||| 1#64 <<< w.toNat)):=by
 have hr:=h.rng w hw
 have h1:BkOk n (λu=>S u/\u≠w) dg dgs _:=h.drop hw he e1 (S':=λu=>S u/\u≠w) λu=>Iff.rfl
 have h2:BkOk n (λu=>S u/\u≠w) dg' dgs _:=h1.congr (λu=>Iff.rfl) λu hu=>by rw [hd u hu.1,if_neg hu.2]
 have hdw:=hd w hw
 rw [if_pos rfl] at hdw
 refine (h2.push (S':=S) hr.1 hr.2 hn (λu=>?_) (λh=>h.2 rfl) (by omega) (by omega):BkOk n S dg' (dgs.set w.toNat (e - 1)) _)
 constructor
 ·intro hu
  by_cases e:u=w
  ·exact .inr e
  ·exact .inl ⟨hu,e⟩
 ·rintro (hu|rfl)
  ·exact hu.1
  ·exact hw
theorem BkOk.takes{rows:List (BitVec 64)}{left:BitVec 64}(h:BkOk n (λu=>u∈eo left) (degB rows left) dgs bks){d:Int}(d0:0<=d)(d1:d<64)(hd:e_ bks d≠0#64)(hlt:∀c:Int,0<=c->c<d->e_ bks c=0#64)(hdeg:∀u∈eo left,degB rows left u<64) :
  Takes rows left (tzB (e_ bks d))/\(degB rows left (tzB (e_ bks d)):Int)=d:=by
 obtain ⟨h1,h2⟩:=tzB_le hd
 obtain ⟨h3,h4⟩:=(h.bkt d d0 d1 _).1 h1
 refine ⟨⟨h3,λu hu=>?_⟩,h4⟩
 have hb:=hdeg u hu
 rcases Int.lt_trichotomy (degB rows left u:Int) d with h5|h5|h5
 ·have h6:=(h.bkt (degB rows left u:Int) (by omega) (by omega) u).2 ⟨hu,rfl⟩
  rw [hlt _ (by omega) h5,listB_zero] at h6
  cases h6
 ·exact .inr ⟨by omega,h2 u ((h.bkt d d0 d1 u).2 ⟨hu,h5⟩)⟩
 ·exact .inl (by omega)
theorem BkOk.some{rows:List (BitVec 64)}{left:BitVec 64}(h:BkOk n (λu=>u∈eo left) (degB rows left) dgs bks)(hl:left≠0#64)(hdeg:∀u∈eo left,degB rows left u<64)(hz:∀c:Int,0<=c->c<64->e_ bks c=0#64):False:=by
 obtain ⟨u,hu⟩:=nz_listB.1 hl
 have hb:=hdeg u hu
 have h6:=(h.bkt (degB rows left u:Int) (by omega) (by omega) u).2 ⟨hu,rfl⟩
 rw [hz _ (by omega) (by omega),listB_zero] at h6
 cases h6
end
def degM(rows:List (BitVec 64))(left:BitVec 64)(ws:List Int)(j:Nat)(u:Int):Nat:=if u∈ws.take j then degB rows left u - 1 else degB rows left u
theorem degM_zero(rows:List (BitVec 64))(left:BitVec 64)(ws:List Int)(u:Int):degM rows left ws 0 u=degB rows left u:=by unfold degM;rw [if_neg (by simp)]
theorem degM_succ{rows:List (BitVec 64)}{left:BitVec 64}{ws:List Int}{j:Nat}(hj:j<ws.length)(hn:ws.Nodup)(u:Int):degM rows left ws (j+1) u=if u=e_ ws j then degM rows left ws j u - 1 else degM rows left ws j u:=by
 have hnot:e_ ws j∉ws.take j:=by
  rw [at_get ws j hj]
  intro hm
  obtain ⟨i,hi,e⟩:=List.mem_iff_getElem.1 hm
  rw [List.length_take] at hi
  rw [List.getElem_take] at e
  exact (List.pairwise_iff_getElem.1 hn) i j (by omega) hj (by omega) e
 unfold degM
 rw [take_at ws j hj]
 simp only [List.mem_append,List.mem_singleton]
 by_cases e:u=e_ ws j
 ·subst e
  rw [if_pos (.inr rfl),if_pos rfl,if_neg hnot]
 ·rw [if_neg e]
  by_cases h2:u∈ws.take j
  ·rw [if_pos (.inl h2),if_pos h2]
  ·rw [if_neg (by rintro (h3|h3);exact h2 h3;exact e h3),if_neg h2]
theorem degM_now{rows:List (BitVec 64)}{left:BitVec 64}{ws:List Int}{j:Nat}(hj:j<ws.length)(hn:ws.Nodup):degM rows left ws j (e_ ws j)=degB rows left (e_ ws j):=by
 have h1:=degM_succ (rows:=rows) (left:=left) hj hn (e_ ws j)
 rw [if_pos rfl] at h1
 unfold degM at h1 ⊢
 split
 ·rename_i h2
  have hnot:e_ ws j∉ws.take j:=by
   rw [at_get ws j hj]
   intro hm
   obtain ⟨i,hi,e⟩:=List.mem_iff_getElem.1 hm
   rw [List.length_take] at hi
   rw [List.getElem_take] at e
   exact (List.pairwise_iff_getElem.1 hn) i j (by omega) hj (by omega) e
  exact absurd h2 hnot
 ·rfl
theorem degM_all{n:Nat}{rows:List (BitVec 64)}(h:SymB n rows){left:BitVec 64}{v:Int}(v0:0<=v)(v1:v<n)(hv:v∈eo left){u:Int}(u0:0<=u)(u1:u<n)(hu:u∈eo (left &&& ~~~(1#64 <<< v.toNat))){j:Nat}(hj:(eo (e_ rows v &&& (left &&& ~~~(1#64 <<< v.toNat)))).length<=j) :
  degM rows left (eo (e_ rows v &&& (left &&& ~~~(1#64 <<< v.toNat)))) j u=degB rows (left &&& ~~~(1#64 <<< v.toNat)) u:=by
 have h1:=degB_minus h u0 u1 v0 v1 hv
 unfold degM
 rw [List.take_of_length_le hj]
 by_cases hm:u∈eo (e_ rows v)
 ·rw [if_pos (mem_andB.2 ⟨hm,hu⟩)];rw [if_pos hm] at h1;omega
 ·rw [if_neg (λe=>hm (mem_andB.1 e).1)];rw [if_neg hm] at h1;omega
end Go.Sl
namespace Go.Sl
section
variable {P:Program}
def flatF(P:Program):List Field->Nat->Bool
 |[],_=>true
 | f :: fs, o => (f.name != "_") && (match P.underlying f.type with | some (.int .i64) => true | _ => false) && (f.offset == o) && flatF P fs (o + 1)
theorem run_eqFlat(d:Nat)(w:World)(ns ms:List Int):∀(fs:List Field) (o:Nat),flatF P fs o=true->ns.length=o+fs.length->ms.length=o+fs.length->
  (Op.eqFields (d+1) (ns.map e7).toArray (ms.map e7).toArray fs).run P w = .ok (decide (ns.drop o=ms.drop o)) w
 |[],o,_,hn,hm=>by
  have h1:ns.drop o=[]:=List.drop_eq_nil_of_le (by simp at hn;omega)
  have h2:ms.drop o=[]:=List.drop_eq_nil_of_le (by simp at hm;omega)
  simp [Op.eqFields,h1,h2]
 |f::fs,o,h,hn,hm=>by
  simp only [flatF,Bool.and_eq_true,bne_iff_ne,beq_iff_eq] at h
  obtain ⟨⟨⟨h1,h2⟩,h3⟩,h4⟩:=h
  have hu:P.underlying f.type=some (.int .i64):=by
   revert h2
   split
   ·intro _;assumption
   ·intro h;cases h
  simp only [List.length_cons] at hn hm
  have hno:o<ns.length:=by omega
  have hmo:o<ms.length:=by omega
  have ha:(isAgg f.type).run P w = .ok false w:=by simp [isAgg,run_underlying hu]
  have hp:∀(ks:List Int) (hk:o<ks.length),(part f.type (ks.map e7).toArray f.offset).run P w = .ok (e7 ks[o]) w:=λks hk=>by
   simp [part,ha,h3,hk]
  have ih:=run_eqFlat d w ns ms fs (o+1) h4 (by omega) (by omega)
  simp only [Op.eqFields,if_pos h1,Sem.run_bind,hp ns hno,hp ms hmo,Result.andThen_ok,run_equalIn_int _ _ _ _ _ _ _ hu]
  have key:(ns.drop o=ms.drop o)↔(ns[o]=ms[o]/\ns.drop (o+1)=ms.drop (o+1)):=by rw [List.drop_eq_getElem_cons hno,List.drop_eq_getElem_cons hmo,List.cons.injEq]
  have key2:decide (ns.drop o=ms.drop o)=decide (ns[o]=ms[o]/\ns.drop (o+1)=ms.drop (o+1)):=decide_eq_decide.2 key
  rw [key2]
  by_cases he:ns[o]=ms[o]
  ·simp [he,ih]
  ·simp [he]
theorem EqT.flat{α:Type}[Enc α][DecidableEq α]{T n:Nat}(ints:α->List Int)(henc:∀x,Enc.enc x=(ints x).map e7)(hinj:∀x y,ints x=ints y->x=y)(hlen:∀x,(ints x).length=n)
  (ht:P.underlying T=some (.struct (P.fieldsOf T))) (hp:P.stoodInHeld T=false) (hf:flatF P (P.fieldsOf T).toList 0=true) (hn:(P.fieldsOf T).size=n) (hg:P.eqGuardType P.depth T=false):EqT P T α:=by
 refine ⟨λx y w=>?_,hg⟩
 rw [show (10000:Nat)=9999+1 from rfl,run_equalIn_struct w 9999 T _ _ ht hp,henc,henc,show (9999:Nat)=9998+1 from rfl,
  run_eqFlat 9998 w (ints x) (ints y) _ 0 hf (by rw [hlen,Array.length_toList,hn];omega) (by rw [hlen,Array.length_toList,hn];omega)]
 congr 1
 rw [List.drop_zero,List.drop_zero,decide_eq_decide]
 exact ⟨hinj x y,λe=>by rw [e]⟩
end
end Go.Sl
namespace Go.Sl
structure Wd where
 hi:Int
 lo:Int
deriving DecidableEq
instance:Inhabited Wd:=⟨⟨0,0⟩⟩
instance:Enc Wd:=⟨λr=>[.int .u64 r.hi,.int .u64 r.lo],2,by omega,λ_=>rfl,λr u hu=>by
 simp only [List.mem_cons,List.not_mem_nil,or_false] at hu
 rcases hu with rfl|rfl<;>rfl⟩
section
variable {P:Program}
def flatU(P:Program):List Field->Nat->Bool
 |[],_=>true
 | f :: fs, o => (f.name != "_") && (match P.underlying f.type with | some (.int .u64) => true | _ => false) && (f.offset == o) && flatU P fs (o + 1)
theorem run_eqFlatU(d:Nat)(w:World)(ns ms:List Int):∀(fs:List Field) (o:Nat),flatU P fs o=true->ns.length=o+fs.length->ms.length=o+fs.length->
  (Op.eqFields (d+1) (ns.map (Value.int .u64)).toArray (ms.map (Value.int .u64)).toArray fs).run P w = .ok (decide (ns.drop o=ms.drop o)) w
 |[],o,_,hn,hm=>by
  have h1:ns.drop o=[]:=List.drop_eq_nil_of_le (by simp at hn;omega)
  have h2:ms.drop o=[]:=List.drop_eq_nil_of_le (by simp at hm;omega)
  simp [Op.eqFields,h1,h2]
 |f::fs,o,h,hn,hm=>by
  simp only [flatU,Bool.and_eq_true,bne_iff_ne,beq_iff_eq] at h
  obtain ⟨⟨⟨h1,h2⟩,h3⟩,h4⟩:=h
  have hu:P.underlying f.type=some (.int .u64):=by
   revert h2
   split
   ·intro _;assumption
   ·intro h;cases h
  simp only [List.length_cons] at hn hm
  have hno:o<ns.length:=by omega
  have hmo:o<ms.length:=by omega
  have ha:(isAgg f.type).run P w = .ok false w:=by simp [isAgg,run_underlying hu]
  have hp:∀(ks:List Int) (hk:o<ks.length),(part f.type (ks.map (Value.int .u64)).toArray f.offset).run P w = .ok ((Value.int .u64) ks[o]) w:=λks hk=>by
   simp [part,ha,h3,hk]
  have ih:=run_eqFlatU d w ns ms fs (o+1) h4 (by omega) (by omega)
  simp only [Op.eqFields,if_pos h1,Sem.run_bind,hp ns hno,hp ms hmo,Result.andThen_ok,run_equalIn_int _ _ _ _ _ _ _ hu]
  have key:(ns.drop o=ms.drop o)↔(ns[o]=ms[o]/\ns.drop (o+1)=ms.drop (o+1)):=by rw [List.drop_eq_getElem_cons hno,List.drop_eq_getElem_cons hmo,List.cons.injEq]
  have key2:decide (ns.drop o=ms.drop o)=decide (ns[o]=ms[o]/\ns.drop (o+1)=ms.drop (o+1)):=decide_eq_decide.2 key
  rw [key2]
  by_cases he:ns[o]=ms[o]
  ·simp [he,ih]
  ·simp [he]
theorem EqT.flatU{α:Type}[Enc α][DecidableEq α]{T n:Nat}(ints:α->List Int)(henc:∀x,Enc.enc x=(ints x).map (Value.int .u64))(hinj:∀x y,ints x=ints y->x=y)(hlen:∀x,(ints x).length=n)
  (ht:P.underlying T=some (.struct (P.fieldsOf T))) (hp:P.stoodInHeld T=false) (hf:flatU P (P.fieldsOf T).toList 0=true) (hn:(P.fieldsOf T).size=n) (hg:P.eqGuardType P.depth T=false):EqT P T α:=by
 refine ⟨λx y w=>?_,hg⟩
 rw [show (10000:Nat)=9999+1 from rfl,run_equalIn_struct w 9999 T _ _ ht hp,henc,henc,show (9999:Nat)=9998+1 from rfl,
  run_eqFlatU 9998 w (ints x) (ints y) _ 0 hf (by rw [hlen,Array.length_toList,hn];omega) (by rw [hlen,Array.length_toList,hn];omega)]
 congr 1
 rw [List.drop_zero,List.drop_zero,decide_eq_decide]
 exact ⟨hinj x y,λe=>by rw [e]⟩
end
def bitA(a i:Int):Int:=a / 2 ^ i.toNat % 2
theorem bitA_two(a i:Int):bitA a i=0\/bitA a i=1:=by unfold bitA;omega
theorem u64_nat{n:Int}(h0:0<=n)(h1:n<18446744073709551616):∃b:BitVec 64,n=(b.toNat:Int):=
 ⟨BitVec.ofNat 64 n.toNat,by rw [BitVec.toNat_ofNat];omega⟩
section
variable {P:Program}{κ:Ctx}{N:Frm}{L:Env}{J:List Item}{d:Option Tmp}{ty:TypeId}{ps:String}{af:Array Edge}{gd:Option (Nat×Bool)}{x y:Operand}{T U:TypeId}{k':IntKind}
theorem Runs.shlU{m:Int}(hx:er L x=some (.int .u64 m))(hy:er L y=some (.int k' 1))(h0:0<=m)(h1:m<9223372036854775808):Runs P κ N ⟨d,.binOp .shl T x y U,ty,ps,af,gd⟩ L J (.int .u64 (2*m)):=by
 have h:=Runs.shlw (P:=P) (κ:=κ) (N:=N) (J:=J) (d:=d) (ty:=ty) (ps:=ps) (af:=af) (gd:=gd) (T:=T) (U:=U) hx hy (by decide)
 have e:IntKind.u64.wrap (m*2 ^ Min.min (1:Int).toNat IntKind.u64.bits)=2*m:=by
  rw [show Min.min (1:Int).toNat IntKind.u64.bits=1 from rfl,u64_wrap];omega
 rwa [e] at h
theorem Runs.shr63{m:Int}(hx:er L x=some (.int .u64 m))(hy:er L y=some (.int k' 63))(h0:0<=m)(h1:m<9223372036854775808):Runs P κ N ⟨d,.binOp .shr T x y U,ty,ps,af,gd⟩ L J (.int .u64 0):=by
 have h:=Runs.shrw (P:=P) (κ:=κ) (N:=N) (J:=J) (d:=d) (ty:=ty) (ps:=ps) (af:=af) (gd:=gd) (T:=T) (U:=U) hx hy (by decide)
 have e:m.fdiv (2 ^ Min.min (63:Int).toNat IntKind.u64.bits)=0:=by
  rw [show Min.min (63:Int).toNat IntKind.u64.bits=63 from rfl,Int.fdiv_eq_ediv_of_nonneg _ (by decide)];omega
 rwa [e] at h
theorem Runs.shrU{m n:Int}(hx:er L x=some (.int .u64 m))(hy:er L y=some (.int k' n))(h0:0<=n)(h1:n<64):Runs P κ N ⟨d,.binOp .shr T x y U,ty,ps,af,gd⟩ L J (.int .u64 (m / 2 ^ n.toNat)):=by
 have h:=Runs.shrw (P:=P) (κ:=κ) (N:=N) (J:=J) (d:=d) (ty:=ty) (ps:=ps) (af:=af) (gd:=gd) (T:=T) (U:=U) hx hy h0
 have e:m.fdiv (2 ^ Min.min n.toNat IntKind.u64.bits)=m / 2 ^ n.toNat:=by
  rw [show Min.min n.toNat IntKind.u64.bits=n.toNat by show Min.min n.toNat 64=_;omega,Int.fdiv_eq_ediv_of_nonneg _ (Int.pow_nonneg (by decide))]
 rwa [e] at h
theorem Runs.zeroU{n:Int}(hx:er L x=some (.int .u64 0))(hy:er L y=some (.int k' n))(h0:0<=n)(h1:n<64):Runs P κ N ⟨d,.binOp .shr T x y U,ty,ps,af,gd⟩ L J (.int .u64 0):=by
 have h:=Runs.shrU (P:=P) (κ:=κ) (N:=N) (J:=J) (d:=d) (ty:=ty) (ps:=ps) (af:=af) (gd:=gd) (T:=T) (U:=U) hx hy h0 h1
 rwa [Int.zero_ediv] at h
theorem Runs.and1U{m:Int}(hx:er L x=some (.int .u64 m))(hy:er L y=some (.int .u64 1))(h0:0<=m)(h1:m<18446744073709551616):Runs P κ N ⟨d,.binOp .and T x y U,ty,ps,af,gd⟩ L J (.int .u64 (m % 2)):=by
 obtain ⟨b,rfl⟩:=u64_nat h0 h1
 have h:=Runs.andB (P:=P) (κ:=κ) (N:=N) (J:=J) (d:=d) (ty:=ty) (ps:=ps) (af:=af) (gd:=gd) (T:=T) (U:=U) (b:=1#64) hx hy
 have e:((b &&& 1#64).toNat:Int)=(b.toNat:Int) % 2:=by
  rw [BitVec.toNat_and,show (1#64).toNat=1 from rfl,Nat.and_one_is_mod];rfl
 show Runs P κ N _ L J (.int .u64 ((b.toNat:Int) % 2))
 rw [←e];exact h
theorem Runs.bitU{a i:Int}(hx:er L x=some (.int .u64 (a / 2 ^ i.toNat)))(hy:er L y=some (.int .u64 1))(h0:0<=a)(h1:a<18446744073709551616):Runs P κ N ⟨d,.binOp .and T x y U,ty,ps,af,gd⟩ L J (.int .u64 (bitA a i)):=
 Runs.and1U hx hy (Int.ediv_nonneg h0 (Int.pow_nonneg (by decide))) (Int.lt_of_le_of_lt (Int.ediv_le_self _ h0) h1)
theorem Runs.zand(hx:er L x=some (.int .u64 0))(hy:er L y=some (.int .u64 1)):Runs P κ N ⟨d,.binOp .and T x y U,ty,ps,af,gd⟩ L J (.int .u64 0):=
 Runs.and1U hx hy (by decide) (by decide)
theorem Runs.or1U{m:Int}(hx:er L x=some (.int .u64 (2*m)))(hy:er L y=some (.int .u64 1))(h0:0<=m)(h1:m<9223372036854775808):Runs P κ N ⟨d,.binOp .or T x y U,ty,ps,af,gd⟩ L J (.int .u64 (2*m+1)):=by
 obtain ⟨b,hb⟩:=u64_nat (n:=2*m) (by omega) (by omega)
 rw [hb] at hx
 have h:=Runs.orB (P:=P) (κ:=κ) (N:=N) (J:=J) (d:=d) (ty:=ty) (ps:=ps) (af:=af) (gd:=gd) (T:=T) (U:=U) (b:=1#64) hx hy
 have hz:b &&& 1#64=0#64:=BitVec.eq_of_toNat_eq (by rw [BitVec.toNat_and,show (1#64).toNat=1 from rfl,Nat.and_one_is_mod];show b.toNat % 2=0;omega)
 have e:((b ||| 1#64).toNat:Int)=2*m+1:=by
  rw [←BitVec.add_eq_or_of_and_eq_zero _ _ hz,BitVec.toNat_add,show (1#64).toNat=1 from rfl];omega
 show Runs P κ N _ L J (.int .u64 (2*m+1))
 rw [←e];exact h
theorem Runs.orZ(hx:er L x=some (.int .u64 (2*0)))(hy:er L y=some (.int .u64 0)):Runs P κ N ⟨d,.binOp .or T x y U,ty,ps,af,gd⟩ L J (.int .u64 0):=
 Runs.orB (a:=0#64) (b:=0#64) hx hy
theorem Runs.subU{m n:Int}(hx:er L x=some (.int .u64 m))(hy:er L y=some (.int .u64 n))(h0:0<=n)(h1:n<=m)(h2:m<18446744073709551616):Runs P κ N ⟨d,.binOp .sub T x y U,ty,ps,af,gd⟩ L J (.int .u64 (m - n)):=by
 have h:=Runs.subw (P:=P) (κ:=κ) (N:=N) (J:=J) (d:=d) (ty:=ty) (ps:=ps) (af:=af) (gd:=gd) (T:=T) (U:=U) hx hy
 have e:IntKind.u64.wrap (m - n)=m - n:=by rw [u64_wrap];omega
 rwa [e] at h
end
theorem bit_step{a i:Int}(h0:0<=a)(hi:0<=i):a / 2 ^ i.toNat=2*(a / 2 ^ (i+1).toNat)+bitA a i:=by
 have e:(2:Int) ^ (i+1).toNat=2 ^ i.toNat*2:=by rw [show (i+1).toNat=i.toNat+1 by omega,Int.pow_succ]
 unfold bitA
 rw [e,←Int.ediv_ediv_of_nonneg (Int.pow_nonneg (by decide))]
 omega
theorem div_n0{a b q r r' i:Int}(h0:0<=a)(h:a / 2 ^ (i+1).toNat=q*b+r)(hi:0<=i)(hr:r'=2*r+bitA a i):a / 2 ^ (i - 1+1).toNat=2*q*b+r':=by
 rw [show i - 1+1=i by omega,bit_step h0 hi,h,hr,Int.mul_add,Int.mul_assoc];omega
theorem div_n1{a b q r r' i:Int}(h0:0<=a)(h:a / 2 ^ (i+1).toNat=q*b+r)(hi:0<=i)(hr:r'=2*r+bitA a i):a / 2 ^ (i - 1+1).toNat=(2*q+1)*b+(r' - b):=by
 rw [div_n0 h0 h hi hr,Int.add_mul,Int.one_mul];omega
theorem bitA_high{a i:Int}(h0:0<=a)(h1:a<9223372036854775808)(hi:63<=i):bitA a i=0:=by
 unfold bitA
 rw [Int.ediv_eq_zero_of_lt h0]
 ·rfl
 ·have:(2:Int) ^ 63<=2 ^ i.toNat:=by have h:=Nat.pow_le_pow_right (n:=2) (by decide) (show 63<=i.toNat by omega);exact_mod_cast h
  omega
theorem div_start{a b:Int}(h0:0<=a)(h1:a<9223372036854775808):a / 2 ^ ((127:Int)+1).toNat=0*b+0:=by
 rw [Int.ediv_eq_zero_of_lt h0]
 ·omega
 ·exact Int.lt_of_lt_of_le h1 (by decide+kernel)
theorem div_end{a b q r i:Int}(h:a / 2 ^ (i+1).toNat=q*b+r)(hi:i = -1)(h0:0<=r)(h1:r<b):q=a / b/\r=a % b:=by
 subst hi
 rw [show ((-1:Int)+1).toNat=0 from rfl,Int.pow_zero,Int.ediv_one] at h
 have hb:0<b:=by omega
 have e1:a / b=q:=by rw [h,Int.add_comm,Int.add_mul_ediv_right _ _ (by omega),Int.ediv_eq_zero_of_lt h0 h1];omega
 have e2:a % b=r:=by rw [h,Int.add_comm,Int.add_mul_emod_self_right,Int.emod_eq_of_lt h0 h1]
 exact ⟨e1.symm,e2.symm⟩
theorem div_bd{a b q r i:Int}(h0:0<=a)(h:a / 2 ^ (i+1).toNat=q*b+r)(hr:0<=r)(hb:0<b)(hq:0<=q):q<=a:=by
 have h1:a / 2 ^ (i+1).toNat<=a:=Int.ediv_le_self _ h0
 have h2:q*1<=q*b:=Int.mul_le_mul_of_nonneg_left (by omega) hq
 omega
theorem V.retcc{P:Program}{κ:Ctx}{N:Frm}{L:Env}{I:List Item}{fn:Func}{t u:Tmp}{T U b b' E E' sz sz' by' by2:Nat}{z z' cs ds:List Value}{Post:Value->List Item->Prop}(hr:fn.results = #[.cell t T,.cell u U])(hT:tyF P T=some (sz,true,by',z))(hU:tyF P U=some (sz',true,by2,z'))
  (hv:look L t=some (.pointer (some ⟨b,0,none⟩))) (hv':look L u=some (.pointer (some ⟨b',0,none⟩))) (hb:e8 b cs E∈I) (hb':e8 b' ds E'∈I)
  (hl:cs.length=sz) (hl':ds.length=sz') (J:List Item) (hf:Fit κ I J) (hp:Post (.tuple #[.agg cs.toArray,.agg ds.toArray]) J) (h0:N.ds=[]:=by rfl):V κ N (bodyPost P fn (RetR κ Post)) .ret L I:=
 λa w ha hs=>by
  have hcell:=λj=>cell_blk (w:=w) (hs.ok _ hb).1 j
  have hcell2:=λj=>cell_blk (w:=w) (hs.ok _ hb').1 j
  have hload:(loadVar T ⟨b,0,none⟩).run P w = .ok (.agg cs.toArray) w:=run_loadVar_agg hT hl λj u hj=>by rw [addr_add,hcell,←hj];simp
  have hload2:(loadVar U ⟨b',0,none⟩).run P w = .ok (.agg ds.toArray) w:=run_loadVar_agg hU hl' λj u hj=>by rw [addr_add,hcell2,←hj];simp
  refine bodyPost_ret (v:= .tuple #[.agg cs.toArray,.agg ds.toArray]) ?_ (ha.defers.trans h0) ⟨_,J,rfl,hp,hf w hs⟩
  simp [results,hr,ha.get t _ hv,ha.get u _ hv',asAddr,hload,hload2]
end Go.Sl
namespace Go.Sl
section
variable {P:Program}{κ:Ctx}{N:Frm}{L:Env}{J:List Item}{d:Option Tmp}{ty:TypeId}{ps:String}{af:Array Edge}{gd:Option (Nat×Bool)}{x y:Operand}{T U:TypeId}{k':IntKind}
theorem Runs.mulU{m n r:Int}(hx:er L x=some (.int .u64 m))(hy:er L y=some (.int .u64 n))(hr:m*n=r)(h0:0<=r)(h1:r<18446744073709551616):Runs P κ N ⟨d,.binOp .mul T x y U,ty,ps,af,gd⟩ L J (.int .u64 r):=by
 have h:=Runs.mulw (P:=P) (κ:=κ) (N:=N) (J:=J) (d:=d) (ty:=ty) (ps:=ps) (af:=af) (gd:=gd) (T:=T) (U:=U) hx hy
 have e:IntKind.u64.wrap (m*n)=r:=by rw [u64_wrap,hr];omega
 rwa [e] at h
theorem Runs.addU{m n r:Int}(hx:er L x=some (.int .u64 m))(hy:er L y=some (.int .u64 n))(hr:m+n=r)(h0:0<=r)(h1:r<18446744073709551616):Runs P κ N ⟨d,.binOp .add T x y U,ty,ps,af,gd⟩ L J (.int .u64 r):=by
 have h:=Runs.addw (P:=P) (κ:=κ) (N:=N) (J:=J) (d:=d) (ty:=ty) (ps:=ps) (af:=af) (gd:=gd) (T:=T) (U:=U) hx hy
 have e:IntKind.u64.wrap (m+n)=r:=by rw [u64_wrap,hr];omega
 rwa [e] at h
theorem Runs.lowU{m r:Int}(hx:er L x=some (.int .u64 m))(hy:er L y=some (.int .u64 4294967295))(h0:0<=m)(h1:m<18446744073709551616)(hr:m % 4294967296=r):Runs P κ N ⟨d,.binOp .and T x y U,ty,ps,af,gd⟩ L J (.int .u64 r):=by
 obtain ⟨b,rfl⟩:=u64_nat h0 h1
 have h:=Runs.andB (P:=P) (κ:=κ) (N:=N) (J:=J) (d:=d) (ty:=ty) (ps:=ps) (af:=af) (gd:=gd) (T:=T) (U:=U) (b:=4294967295#64) hx hy
 have e:((b &&& 4294967295#64).toNat:Int)=r:=by
  rw [BitVec.toNat_and,show (4294967295#64).toNat=2 ^ 32 - 1 from rfl,Nat.and_two_pow_sub_one_eq_mod,←hr];rfl
 rw [←e];exact h
theorem Runs.shr32{m r:Int}(hx:er L x=some (.int .u64 m))(hy:er L y=some (.int k' 32))(hr:m / 4294967296=r):Runs P κ N ⟨d,.binOp .shr T x y U,ty,ps,af,gd⟩ L J (.int .u64 r):=by
 have h:=Runs.shrU (P:=P) (κ:=κ) (N:=N) (J:=J) (d:=d) (ty:=ty) (ps:=ps) (af:=af) (gd:=gd) (T:=T) (U:=U) hx hy (by decide) (by decide)
 rw [show (2:Int) ^ (32:Int).toNat=4294967296 from rfl,hr] at h
 exact h
theorem Runs.shl32{m:Int}(hx:er L x=some (.int .u64 m))(hy:er L y=some (.int k' 32))(h0:0<=m)(h1:m<4294967296):Runs P κ N ⟨d,.binOp .shl T x y U,ty,ps,af,gd⟩ L J (.int .u64 (m*4294967296)):=by
 have h:=Runs.shlw (P:=P) (κ:=κ) (N:=N) (J:=J) (d:=d) (ty:=ty) (ps:=ps) (af:=af) (gd:=gd) (T:=T) (U:=U) hx hy (by decide)
 have e:IntKind.u64.wrap (m*2 ^ Min.min (32:Int).toNat IntKind.u64.bits)=m*4294967296:=by
  rw [show Min.min (32:Int).toNat IntKind.u64.bits=32 from rfl,u64_wrap];omega
 rwa [e] at h
theorem Runs.orLow{m n r:Int}(hx:er L x=some (.int .u64 (m*4294967296)))(hy:er L y=some (.int .u64 n))(h0:0<=m)(h1:m<4294967296)(h2:0<=n)(h3:n<4294967296)(hr:m*4294967296+n=r):Runs P κ N ⟨d,.binOp .or T x y U,ty,ps,af,gd⟩ L J (.int .u64 r):=by
 obtain ⟨a,ha⟩:=u64_nat (n:=m*4294967296) (by omega) (by omega)
 obtain ⟨b,hb⟩:=u64_nat (n:=n) (by omega) (by omega)
 rw [ha] at hx
 rw [hb] at hy
 have h:=Runs.orB (P:=P) (κ:=κ) (N:=N) (J:=J) (d:=d) (ty:=ty) (ps:=ps) (af:=af) (gd:=gd) (T:=T) (U:=U) hx hy
 have e:((a ||| b).toNat:Int)=r:=by
  rw [BitVec.toNat_or]
  have ea:a.toNat=m.toNat <<< 32:=by rw [Nat.shiftLeft_eq];omega
  have hbn:b.toNat<2 ^ 32:=by omega
  rw [ea,←Nat.shiftLeft_add_eq_or_of_lt hbn,Nat.shiftLeft_eq];omega
 rw [←e];exact h
end
end Go.Sl
namespace Go.Sl
section
variable {P:Program}{κ:Ctx}{N:Frm}{Q:Exit->Act->World->Prop}{L:Env}{I J:List Item}
variable {d:Option Tmp}{ty:TypeId}{ps:String}{af:Array Edge}{gd:Option (Nat×Bool)}
theorem Runs.getAU{xs:List (BitVec 64)}{x:Operand}{T sz by' b E:Nat}{z:List Value}{i:Int}(hT:tyF P T=some (sz,false,by',z))(hx:er L x=some (.pointer (some ⟨b,0+i.toNat*1,none⟩)))(hb:BlkRd κ J b (cells xs) E)(h0:0<=i)(hn:i<xs.length) :
  Runs P κ N ⟨d,.load T x,ty,ps,af,gd⟩ L J (U64 (e_ xs i)):=by
 refine Runs.loadB hT hx hb ?_
 have:=cells_get xs i.toNat 0 (by omega) (by decide)
 rw [show 0+i.toNat*1=i.toNat*Enc.sz (BitVec 64)+0 by show 0+i.toNat*1=i.toNat*1+0;omega,this,at_eq h0 hn];rfl
theorem cells_setU(xs:List (BitVec 64))(i:Nat)(n:BitVec 64)(h:i<xs.length):(cells xs).take i++[U64 n]++(cells xs).drop (i+1)=cells (xs.set i n):=by
 induction xs generalizing i with
 |nil=>simp at h
 |cons x xs ih=>
  cases i with
  |zero=>rfl
  |succ i=>
   have h':i<xs.length:=by simpa using h
   have e:cells (x::xs)=U64 x::cells xs:=rfl
   rw [e,List.set_cons_succ]
   have e2:cells (x::xs.set i n)=U64 x::cells (xs.set i n):=rfl
   rw [e2,←ih i h'];rfl
theorem Eff.setAU{xs:List (BitVec 64)}{x y:Operand}{T sz by' b E:Nat}{ag:Bool}{z:List Value}{i:Int}{n:BitVec 64}{I':List Item}(hT:tyF P T=some (sz,ag,by',z))(hs1:sz=1)(hx:er L x=some (.pointer (some ⟨b,0+i.toNat*1,none⟩)))(hy:er L y=some (U64 n))(h0:0<=i)(hn:i<xs.length)
  (hat:At I (e8 b (cells xs) E) (e8 b (cells (xs.set i.toNat n)) E) I') :
  Eff P κ N Q ⟨none,.store T x y,ty,ps,af,gd⟩ L I λL' I''=>L'=L/\I''=I':=by
 have hl:(cells xs).length=xs.length:=by rw [cells_length];show xs.length*1=_;omega
 refine Eff.store (vs:=[U64 n]) (cs':=cells (xs.set i.toNat n)) hT hx hy C (by rw [hs1];rfl) (λu hu=>by rw [List.mem_singleton] at hu;subst hu;rfl) (by rw [hl];simp;omega) ?_ hat
 have h:=cells_setU xs i.toNat n (by omega)
 rw [show 0+i.toNat*1=i.toNat by omega]
 exact h
end
end Go.Sl
namespace Go.Sl
open Go.Proofs
abbrev Aa:= @Sub.cons
abbrev Ab:= @Runs.fieldAddr
abbrev Ac:= @Tryz.underlying22
abbrev Ad:= @Runs.move
abbrev Af:= @G.nt
abbrev Ah:= @Eff.call
abbrev Ai:= @W.sr
abbrev Aj:= @V.then
abbrev Ak:= @V.block_normal
abbrev Al:= @V.then_exit
abbrev Am:= @V.then_ret
abbrev Ao:= @Runs.pickf
abbrev Ap:= @W.seq
abbrev Aq:= @W.sub
abbrev Ar:= @Runs.pickt
abbrev As:= @Runs.ld
abbrev Au:= @Eff.alloc
abbrev Av:= @V.block_ret
abbrev Aw:= @Runs.extract
abbrev Ax:= @W.region
abbrev Ay:= @W.skip
abbrev Az:= @Runs.idx
abbrev A0:= @W.block
abbrev A1:= @Fit.sub
abbrev A2:= @W.ret
abbrev A3:= @Fit.m
abbrev A4:= @Tryz.underlying109
abbrev A5:= @V.block_hit
abbrev A6:= @V.ret1
abbrev A7:= @Runs.lss
abbrev A8:= @W.ite
abbrev A9:= @Eff.box
abbrev Ba:= @Sl.f
abbrev Bb:= @Runs.assign
abbrev Bc:= @Runs.build
abbrev Bd:= @Runs.lds
abbrev Be:= @Tryz.underlying28
abbrev Bf:= @at_mem
abbrev Bg:= @G.split
abbrev Bh:= @Tryz.underlying46
abbrev Bi:= @G.nil
abbrev Bj:= @Tryz.underlying3
abbrev Bk:= @Sl.o
abbrev Bl:= @W.drawn
abbrev Bm:= @Runs.nilCheck
abbrev Bo:= @Runs.get
abbrev Bp:= @Sub.nil
abbrev Bq:= @Es2_2
abbrev Br:= @Runs.neq
abbrev Bs:= @Runs.lens
abbrev Bt:= @A.hold
abbrev Bu:= @Runs.eql
abbrev Bv:= @W.exit
abbrev Bw:= @Runs.gtr
abbrev Bx:= @TabRd.fit
abbrev Bz:= @Runs.gets
abbrev B0:= @Runs.lenT
abbrev B1:= @W.loop
abbrev B2:= @Fit.nilvc
abbrev B3:= @Tryz.underlying64
abbrev B4:= @Runs.not
abbrev B5:= @V.nx
abbrev B6:= @V.block_miss
abbrev B7:= @Fit.s
abbrev B8:= @eu.pull
abbrev B9:= @Runs.geq
abbrev Ca:= @lookO
abbrev Cb:= @Runs.idxArr
abbrev Cc:= @Tryz.underlying228
abbrev Cd:= @Tryz.underlying160
abbrev Ce:= @Eff.st
abbrev Cf:= @Eff.bs
abbrev Cg:= @Wanted.plain
abbrev Ch:= @Tryz.underlying65
abbrev Ci:= @Tryz.underlying337
abbrev Cj:= @D.step
abbrev Ck:= @Wanted.on
abbrev Cl:= @Tryz.underlying79
abbrev Cm:= @Eff.app
abbrev Cn:= @Fit.trans
abbrev Co:= @Tryz.underlying58
abbrev Cp:= @Eff.make
abbrev Cq:= @W.yes
abbrev Cr:= @Tryz.underlying175
abbrev Cs:= @D.split
abbrev Ct:= @Tryz.underlying40
abbrev Cu:= @V.ret2
abbrev Cv:= @Sl.fit
abbrev Cw:= @Eff.callv
abbrev Cx:= @Eff.set
abbrev Cy:= @Tryz.underlying264
abbrev Cz:= @Tryz.underlying177
abbrev C0:= @D.stop
abbrev C1:= @A.done
abbrev C2:= @W.no
abbrev C3:= @V.retc1
abbrev C4:= @at_get
abbrev C5:= @V.retc
abbrev C6:= @take_at
abbrev C7:= @sumN_congr
abbrev C8:= @at_set
abbrev C9:= @V.mi
abbrev Da:= @Runs.andB
abbrev Db:= @eu.fit
abbrev Dc:= @lookI
abbrev Df:= @listB_zero
abbrev Dg:= @all2
abbrev Dh:= @Tryz.underlying181
abbrev Di:= @Tryz.underlying135
abbrev Dj:= @Runs.getf0
abbrev Dk:= @BlkRd.fit
abbrev Dl:= @lookV
abbrev Dn:= @Eff.insertK
abbrev Do:= @BlkRd.of
abbrev Dp:= @Runs.notd
abbrev Dq:= @Runs.loadB
abbrev Ds:= @all1
abbrev Dt:= @Tryz.underlying301
abbrev Du:= @Tryz.underlying297
abbrev Dv:= @Runs.convU
abbrev Dw:= @scanL_bad
abbrev Dx:= @Tryz.underlying339
abbrev Dy:= @Tryz.underlying277
abbrev D0:= @Tryz.underlying211
abbrev D1:= @Tryz.underlying108
abbrev D2:= @Runs.max
abbrev D3:= @Tryz.underlying90
abbrev D4:= @Tryz.underlying71
abbrev D5:= @G.eff
abbrev D6:= @Runs.shr32
abbrev D7:= @Runs.lookupK
abbrev D8:= @Es7_1
abbrev D9:= @drop_at
abbrev Ea:= @Tryz.underlying220
abbrev Eb:= @Tryz.underlying163
abbrev Ec:= @Tryz.underlying102
abbrev Ed:= @mem_listB
abbrev Ee:= @listB_nodup
abbrev Ef:= @Runs.fld
abbrev Eg:= @WR.region
abbrev Eh:= @Runs.mulU
abbrev Ei:= @Runs.loraw
abbrev Ej:= @Runs.makeFunc
abbrev Ek:= @GY.read
abbrev El:= @all_succ
abbrev Em:= @Runs.mul
abbrev En:= @eu.at
abbrev Eo:= @Es6_6
abbrev Ep:= @Es5_5
abbrev Eq:= @Es2_1
abbrev Er:= @Runs.andNotB
abbrev Es:= @Runs.or1U
abbrev Et:= @Runs.getf
abbrev Eu:= @Runs.eqlT
abbrev Ew:= @Runs.addU
abbrev Ex:= @Runs.min
abbrev Ey:= @Runs.leq
abbrev Ez:= @Tryz.underlying31
abbrev E0:= @Runs.lo
abbrev E1:= @div_n1
abbrev E3:= @div_n0
abbrev E4:= @A.read
abbrev E5:= @listB_len
abbrev E6:= @Tryz.underlying4
abbrev E7:= @Runs.shrB
abbrev E8:= @Runs.orB
abbrev E9:= @Runs.neqT
abbrev Fa:= @Runs.lowU
abbrev Fb:= @sumN_eq_zero
abbrev Fc:= @scanL_step
abbrev Fd:= @Tryz.func176
abbrev Fe:= @Tryz.func105
abbrev Ff:= @Runs.getAU
theorem kr{p:Prop}(h:p:=by kernel_rfl):p:=h
theorem dc{p:Prop}(h:p:=by decide):p:=h
theorem lcn{p:Prop}(h:p:=by simp only [List.length_cons,List.length_nil];omega):p:=h
theorem asm{p:Prop}(h:p:=by assumption):p:=h
theorem lap{p:Prop}(h:p:=by simp only [List.length_append,List.length_cons,List.length_nil];omega):p:=h
theorem olp{p:Prop}(h:p:=by first|omega|(simp only [List.length_append,List.length_cons,List.length_nil];omega)):p:=h
theorem olr{p:Prop}(h:p:=by first|omega|(simp only [List.length_replicate];omega)):p:=h
end Go.Sl
namespace Go.Sl
open Go.Proofs
theorem ty2:tyF prog 2=some (1,false,8,[e7 (0)]):=by kernel_rfl
theorem ef:tyF prog 3=some (1,false,8,[e7 (0)]):=by kernel_rfl
theorem ty4:tyF prog 4=some (1,false,1,[.bool false]):=by kernel_rfl
theorem ty5:tyF prog 5=some (1,false,1,[.int .u8 (0)]):=by kernel_rfl
theorem ty22:tyF prog 22=some (1,false,24,[.slice none 0 0]):=by kernel_rfl
theorem ty28:tyF prog 28=some (1,false,24,[.slice none 0 0]):=by kernel_rfl
theorem ty31:tyF prog 31=some (3,true,24,[e7 (0),e7 (0),e7 (0)]):=by kernel_rfl
theorem fld31_0:fldF prog 31 0=some 0:=by kernel_rfl
theorem fld31_1:fldF prog 31 1=some 1:=by kernel_rfl
theorem fld31_2:fldF prog 31 2=some 2:=by kernel_rfl
theorem pl31(w:World):(placesRun prog 31).run prog w = .ok #[(0,1),(1,1),(2,1)] w:=by kernel_rfl
theorem ty36:tyF prog 36=some (1,false,8,[e7 (0)]):=by kernel_rfl
theorem ty40:tyF prog 40=some (2,true,16,[e7 (0),e7 (0)]):=by kernel_rfl
theorem fld40_0:fldF prog 40 0=some 0:=by kernel_rfl
theorem fld40_1:fldF prog 40 1=some 1:=by kernel_rfl
theorem pl40(w:World):(placesRun prog 40).run prog w = .ok #[(0,1),(1,1)] w:=by kernel_rfl
theorem ty46:tyF prog 46=some (1,false,24,[.slice none 0 0]):=by kernel_rfl
theorem ty48:tyF prog 48=some (2,true,32,[e7 (0),.slice none 0 0]):=by kernel_rfl
theorem fld48_0:fldF prog 48 0=some 0:=by kernel_rfl
theorem fld48_1:fldF prog 48 1=some 1:=by kernel_rfl
theorem pl48(w:World):(placesRun prog 48).run prog w = .ok #[(0,1),(1,1)] w:=by kernel_rfl
theorem ty64:tyF prog 64=some (2,true,16,[e7 (0),e7 (0)]):=by kernel_rfl
theorem ty65:tyF prog 65=some (1,false,24,[.slice none 0 0]):=by kernel_rfl
theorem ty71:tyF prog 71=some (7,true,72,[e7 (0),e7 (0),e7 (0),e7 (0),.slice none 0 0,e7 (0),e7 (0)]):=by kernel_rfl
theorem fld71_0:fldF prog 71 0=some 0:=by kernel_rfl
theorem fld71_1:fldF prog 71 1=some 1:=by kernel_rfl
theorem fld71_2:fldF prog 71 2=some 2:=by kernel_rfl
theorem fld71_3:fldF prog 71 3=some 3:=by kernel_rfl
theorem fld71_4:fldF prog 71 4=some 4:=by kernel_rfl
theorem fld71_5:fldF prog 71 5=some 5:=by kernel_rfl
theorem pl71(w:World):(placesRun prog 71).run prog w = .ok #[(0,1),(1,1),(2,1),(3,1),(4,1),(5,2)] w:=by kernel_rfl
theorem ty79:tyF prog 79=some (1,false,24,[.slice none 0 0]):=by kernel_rfl
theorem ty88:tyF prog 88=some (2,true,32,[e7 (0),.slice none 0 0]):=by kernel_rfl
theorem fld88_0:fldF prog 88 0=some 0:=by kernel_rfl
theorem fld88_1:fldF prog 88 1=some 1:=by kernel_rfl
theorem pl88(w:World):(placesRun prog 88).run prog w = .ok #[(0,1),(1,1)] w:=by kernel_rfl
theorem ty90:tyF prog 90=some (11,true,168,[.bool false,e7 (0),e7 (0),.slice none 0 0,e7 (0),e7 (0),.slice none 0 0,.slice none 0 0,.slice none 0 0,e7 (0),.slice none 0 0]):=by kernel_rfl
theorem fld90_0:fldF prog 90 0=some 0:=by kernel_rfl
theorem fld90_1:fldF prog 90 1=some 1:=by kernel_rfl
theorem fld90_2:fldF prog 90 2=some 2:=by kernel_rfl
theorem fld90_3:fldF prog 90 3=some 3:=by kernel_rfl
theorem fld90_4:fldF prog 90 4=some 4:=by kernel_rfl
theorem fld90_6:fldF prog 90 6=some 7:=by kernel_rfl
theorem fld90_7:fldF prog 90 7=some 8:=by kernel_rfl
theorem fld90_8:fldF prog 90 8=some 9:=by kernel_rfl
theorem pl90(w:World):(placesRun prog 90).run prog w = .ok #[(0,1),(1,1),(2,1),(3,1),(4,2),(6,1),(7,1),(8,1),(9,2)] w:=by kernel_rfl
theorem ty102:tyF prog 102=some (5,true,72,[.slice none 0 0,e7 (0),e7 (0),e7 (0),.slice none 0 0]):=by kernel_rfl
theorem fld102_0:fldF prog 102 0=some 0:=by kernel_rfl
theorem fld102_1:fldF prog 102 1=some 1:=by kernel_rfl
theorem fld102_2:fldF prog 102 2=some 3:=by kernel_rfl
theorem pl102(w:World):(placesRun prog 102).run prog w = .ok #[(0,1),(1,2),(3,2)] w:=by kernel_rfl
theorem ty108:tyF prog 108=some (7,true,56,[e7 (0),e7 (0),e7 (0),e7 (0),e7 (0),e7 (0),e7 (0)]):=by kernel_rfl
theorem fld108_0:fldF prog 108 0=some 0:=by kernel_rfl
theorem fld108_1:fldF prog 108 1=some 1:=by kernel_rfl
theorem fld108_2:fldF prog 108 2=some 2:=by kernel_rfl
theorem fld108_3:fldF prog 108 3=some 3:=by kernel_rfl
theorem fld108_4:fldF prog 108 4=some 4:=by kernel_rfl
theorem fld108_5:fldF prog 108 5=some 5:=by kernel_rfl
theorem fld108_6:fldF prog 108 6=some 6:=by kernel_rfl
theorem pl108(w:World):(placesRun prog 108).run prog w = .ok #[(0,1),(1,1),(2,1),(3,1),(4,1),(5,1),(6,1)] w:=by kernel_rfl
theorem ty109:tyF prog 109=some (1,false,24,[.slice none 0 0]):=by kernel_rfl
theorem ty111:tyF prog 111=some (2,true,32,[e7 (0),.slice none 0 0]):=by kernel_rfl
theorem fld111_0:fldF prog 111 0=some 0:=by kernel_rfl
theorem fld111_1:fldF prog 111 1=some 1:=by kernel_rfl
theorem pl111(w:World):(placesRun prog 111).run prog w = .ok #[(0,1),(1,1)] w:=by kernel_rfl
theorem ty125:tyF prog 125=some (2,true,32,[.slice none 0 0,e7 (0)]):=by kernel_rfl
theorem fld125_0:fldF prog 125 0=some 0:=by kernel_rfl
theorem fld125_1:fldF prog 125 1=some 1:=by kernel_rfl
theorem pl125(w:World):(placesRun prog 125).run prog w = .ok #[(0,1),(1,1)] w:=by kernel_rfl
end Go.Sl
namespace Go.Sl
open Go.Proofs
theorem ty135:tyF prog 135=some (2,true,16,[e7 (0),e7 (0)]):=by kernel_rfl
theorem fld135_0:fldF prog 135 0=some 0:=by kernel_rfl
theorem fld135_1:fldF prog 135 1=some 1:=by kernel_rfl
theorem pl135(w:World):(placesRun prog 135).run prog w = .ok #[(0,1),(1,1)] w:=by kernel_rfl
theorem ty146:tyF prog 146=some (6,true,48,[e7 (0),e7 (0),e7 (0),e7 (0),e7 (0),e7 (0)]):=by kernel_rfl
theorem fld146_0:fldF prog 146 0=some 0:=by kernel_rfl
theorem fld146_1:fldF prog 146 1=some 1:=by kernel_rfl
theorem fld146_2:fldF prog 146 2=some 2:=by kernel_rfl
theorem fld146_3:fldF prog 146 3=some 3:=by kernel_rfl
theorem fld146_4:fldF prog 146 4=some 4:=by kernel_rfl
theorem fld146_5:fldF prog 146 5=some 5:=by kernel_rfl
theorem pl146(w:World):(placesRun prog 146).run prog w = .ok #[(0,1),(1,1),(2,1),(3,1),(4,1),(5,1)] w:=by kernel_rfl
theorem ty153:tyF prog 153=some (2,true,16,[e7 (0),.bool false]):=by kernel_rfl
theorem fld153_0:fldF prog 153 0=some 0:=by kernel_rfl
theorem fld153_1:fldF prog 153 1=some 1:=by kernel_rfl
theorem pl153(w:World):(placesRun prog 153).run prog w = .ok #[(0,1),(1,1)] w:=by kernel_rfl
theorem ty163:tyF prog 163=some (5,true,56,[e7 (0),.slice none 0 0,e7 (0),e7 (0),e7 (0)]):=by kernel_rfl
theorem fld163_0:fldF prog 163 0=some 0:=by kernel_rfl
theorem fld163_1:fldF prog 163 1=some 1:=by kernel_rfl
theorem fld163_2:fldF prog 163 2=some 2:=by kernel_rfl
theorem pl163(w:World):(placesRun prog 163).run prog w = .ok #[(0,1),(1,1),(2,3)] w:=by kernel_rfl
theorem ty175:tyF prog 175=some (1,false,8,[.int .u64 (0)]):=by kernel_rfl
theorem ty177:tyF prog 177=some (2,true,16,[.int .u64 (0),.int .u64 (0)]):=by kernel_rfl
theorem fld177_0:fldF prog 177 0=some 0:=by kernel_rfl
theorem fld177_1:fldF prog 177 1=some 1:=by kernel_rfl
theorem pl177(w:World):(placesRun prog 177).run prog w = .ok #[(0,1),(1,1)] w:=by kernel_rfl
theorem ty208:tyF prog 208=some (2,true,32,[.int .u64 (0),.slice none 0 0]):=by kernel_rfl
theorem fld208_0:fldF prog 208 0=some 0:=by kernel_rfl
theorem fld208_1:fldF prog 208 1=some 1:=by kernel_rfl
theorem pl208(w:World):(placesRun prog 208).run prog w = .ok #[(0,1),(1,1)] w:=by kernel_rfl
theorem ty211:tyF prog 211=some (6,true,112,[.slice none 0 0,.slice none 0 0,.slice none 0 0,.slice none 0 0,.int .u64 (0),.int .u64 (0)]):=by kernel_rfl
theorem fld211_0:fldF prog 211 0=some 0:=by kernel_rfl
theorem fld211_1:fldF prog 211 1=some 1:=by kernel_rfl
theorem fld211_2:fldF prog 211 2=some 2:=by kernel_rfl
theorem fld211_3:fldF prog 211 3=some 3:=by kernel_rfl
theorem fld211_4:fldF prog 211 4=some 4:=by kernel_rfl
theorem fld211_5:fldF prog 211 5=some 5:=by kernel_rfl
theorem pl211(w:World):(placesRun prog 211).run prog w = .ok #[(0,1),(1,1),(2,1),(3,1),(4,1),(5,1)] w:=by kernel_rfl
theorem ty220:tyF prog 220=some (5,true,5,[.bool false,.bool false,.bool false,.bool false,.bool false]):=by kernel_rfl
theorem fld220_0:fldF prog 220 0=some 0:=by kernel_rfl
theorem fld220_1:fldF prog 220 1=some 1:=by kernel_rfl
theorem fld220_2:fldF prog 220 2=some 2:=by kernel_rfl
theorem fld220_3:fldF prog 220 3=some 3:=by kernel_rfl
theorem fld220_4:fldF prog 220 4=some 4:=by kernel_rfl
theorem pl220(w:World):(placesRun prog 220).run prog w = .ok #[(0,1),(1,1),(2,1),(3,1),(4,1)] w:=by kernel_rfl
theorem ty241:tyF prog 241=some (3,true,56,[e7 (0),.slice none 0 0,.slice none 0 0]):=by kernel_rfl
theorem fld241_0:fldF prog 241 0=some 0:=by kernel_rfl
theorem fld241_1:fldF prog 241 1=some 2:=by kernel_rfl
theorem pl241(w:World):(placesRun prog 241).run prog w = .ok #[(0,2),(2,1)] w:=by kernel_rfl
theorem ty264:tyF prog 264=some (64,true,512,[.int .u64 (0),.int .u64 (0),.int .u64 (0),.int .u64 (0),.int .u64 (0),.int .u64 (0),.int .u64 (0),.int .u64 (0),.int .u64 (0),.int .u64 (0),.int .u64 (0),.int .u64 (0),.int .u64 (0),.int .u64 (0),.int .u64 (0),.int .u64 (0),.int .u64 (0),.int .u64 (0),.int .u64 (0),.int .u64 (0),.int .u64 (0),.int .u64 (0),.int .u64 (0),.int .u64 (0),.int .u64 (0),.int .u64 (0),.int .u64 (0),.int .u64 (0),.int .u64 (0),.int .u64 (0),.int .u64 (0),.int .u64 (0),.int .u64 (0),.int .u64 (0),.int .u64 (0),.int .u64 (0),.int .u64 (0),.int .u64 (0),.int .u64 (0),.int .u64 (0),.int .u64 (0),.int .u64 (0),.int .u64 (0),.int .u64 (0),.int .u64 (0),.int .u64 (0),.int .u64 (0),.int .u64 (0),.int .u64 (0),.int .u64 (0),.int .u64 (0),.int .u64 (0),.int .u64 (0),.int .u64 (0),.int .u64 (0),.int .u64 (0),.int .u64 (0),.int .u64 (0),.int .u64 (0),.int .u64 (0),.int .u64 (0),.int .u64 (0),.int .u64 (0),.int .u64 (0)]):=by kernel_rfl
end Go.Sl
namespace Go.Sl
open Go.Proofs
theorem ty301:tyF prog 301=some (1,false,24,[.slice none 0 0]):=by kernel_rfl
theorem ty303:tyF prog 303=some (4,true,48,[e7 (0),e7 (0),e7 (0),.slice none 0 0]):=by kernel_rfl
theorem fld303_0:fldF prog 303 0=some 0:=by kernel_rfl
theorem fld303_1:fldF prog 303 1=some 1:=by kernel_rfl
theorem fld303_2:fldF prog 303 2=some 2:=by kernel_rfl
theorem fld303_3:fldF prog 303 3=some 3:=by kernel_rfl
theorem pl303(w:World):(placesRun prog 303).run prog w = .ok #[(0,1),(1,1),(2,1),(3,1)] w:=by kernel_rfl
theorem ty305:tyF prog 305=some (3,true,24,[e7 (0),e7 (0),e7 (0)]):=by kernel_rfl
theorem fld305_0:fldF prog 305 0=some 0:=by kernel_rfl
theorem fld305_1:fldF prog 305 1=some 1:=by kernel_rfl
theorem fld305_2:fldF prog 305 2=some 2:=by kernel_rfl
theorem pl305(w:World):(placesRun prog 305).run prog w = .ok #[(0,1),(1,1),(2,1)] w:=by kernel_rfl
theorem ty336:tyF prog 336=some (4,true,32,[e7 (0),e7 (0),e7 (0),e7 (0)]):=by kernel_rfl
theorem fld336_0:fldF prog 336 0=some 0:=by kernel_rfl
theorem fld336_1:fldF prog 336 1=some 3:=by kernel_rfl
theorem pl336(w:World):(placesRun prog 336).run prog w = .ok #[(0,3),(3,1)] w:=by kernel_rfl
theorem ty337:tyF prog 337=some (1,false,24,[.slice none 0 0]):=by kernel_rfl
theorem ty339:tyF prog 339=some (5,true,104,[.slice none 0 0,.slice none 0 0,.slice none 0 0,.slice none 0 0,e7 (0)]):=by kernel_rfl
theorem fld339_0:fldF prog 339 0=some 0:=by kernel_rfl
theorem fld339_1:fldF prog 339 1=some 1:=by kernel_rfl
theorem fld339_2:fldF prog 339 2=some 2:=by kernel_rfl
theorem fld339_3:fldF prog 339 3=some 3:=by kernel_rfl
theorem fld339_4:fldF prog 339 4=some 4:=by kernel_rfl
theorem pl339(w:World):(placesRun prog 339).run prog w = .ok #[(0,1),(1,1),(2,1),(3,1),(4,1)] w:=by kernel_rfl
theorem call16:callable prog 16=true:=by kernel_rfl
theorem call18:callable prog 18=true:=by kernel_rfl
theorem call19:callable prog 19=true:=by kernel_rfl
theorem call20:callable prog 20=true:=by kernel_rfl
theorem call21:callable prog 21=true:=by kernel_rfl
theorem call30:callable prog 30=true:=by kernel_rfl
theorem call41:callable prog 41=true:=by kernel_rfl
theorem call42:callable prog 42=true:=by kernel_rfl
theorem call44:callable prog 44=true:=by kernel_rfl
theorem call47:callable prog 47=true:=by kernel_rfl
theorem call56:callable prog 56=true:=by kernel_rfl
theorem call59:callable prog 59=true:=by kernel_rfl
theorem call61:callable prog 61=true:=by kernel_rfl
theorem call62:callable prog 62=true:=by kernel_rfl
theorem call63:callable prog 63=true:=by kernel_rfl
theorem call64:callable prog 64=true:=by kernel_rfl
theorem call65:callable prog 65=true:=by kernel_rfl
theorem call66:callable prog 66=true:=by kernel_rfl
theorem call72:callable prog 72=true:=by kernel_rfl
theorem call73:callable prog 73=true:=by kernel_rfl
theorem call76:callable prog 76=true:=by kernel_rfl
theorem call77:callable prog 77=true:=by kernel_rfl
theorem call78:callable prog 78=true:=by kernel_rfl
theorem call79:callable prog 79=true:=by kernel_rfl
theorem call82:callable prog 82=true:=by kernel_rfl
theorem call83:callable prog 83=true:=by kernel_rfl
theorem call84:callable prog 84=true:=by kernel_rfl
theorem call88:callable prog 88=true:=by kernel_rfl
theorem call89:callable prog 89=true:=by kernel_rfl
theorem call91:callable prog 91=true:=by kernel_rfl
theorem call92:callable prog 92=true:=by kernel_rfl
theorem call97:callable prog 97=true:=by kernel_rfl
theorem call98:callable prog 98=true:=by kernel_rfl
theorem call100:callable prog 100=true:=by kernel_rfl
theorem call101:callable prog 101=true:=by kernel_rfl
theorem call104:callable prog 104=true:=by kernel_rfl
theorem call105:callable prog 105=true:=by kernel_rfl
theorem call106:callable prog 106=true:=by kernel_rfl
theorem call109:callable prog 109=true:=by kernel_rfl
theorem call110:callable prog 110=true:=by kernel_rfl
theorem call113:callable prog 113=true:=by kernel_rfl
theorem call114:callable prog 114=true:=by kernel_rfl
theorem call115:callable prog 115=true:=by kernel_rfl
theorem call116:callable prog 116=true:=by kernel_rfl
theorem call117:callable prog 117=true:=by kernel_rfl
end Go.Sl
namespace Go.Sl
open Go.Proofs
theorem call118:callable prog 118=true:=by kernel_rfl
theorem call119:callable prog 119=true:=by kernel_rfl
theorem call120:callable prog 120=true:=by kernel_rfl
theorem call121:callable prog 121=true:=by kernel_rfl
theorem call122:callable prog 122=true:=by kernel_rfl
theorem call123:callable prog 123=true:=by kernel_rfl
theorem call124:callable prog 124=true:=by kernel_rfl
theorem call128:callable prog 128=true:=by kernel_rfl
theorem call134:callable prog 134=true:=by kernel_rfl
theorem call135:callable prog 135=true:=by kernel_rfl
theorem call136:callable prog 136=true:=by kernel_rfl
theorem call139:callable prog 139=true:=by kernel_rfl
theorem call140:callable prog 140=true:=by kernel_rfl
theorem call141:callable prog 141=true:=by kernel_rfl
theorem call149:callable prog 149=true:=by kernel_rfl
theorem call153:callable prog 153=true:=by kernel_rfl
theorem call154:callable prog 154=true:=by kernel_rfl
theorem call157:callable prog 157=true:=by kernel_rfl
theorem call158:callable prog 158=true:=by kernel_rfl
theorem call159:callable prog 159=true:=by kernel_rfl
theorem call165:callable prog 165=true:=by kernel_rfl
theorem call166:callable prog 166=true:=by kernel_rfl
theorem call167:callable prog 167=true:=by kernel_rfl
theorem call168:callable prog 168=true:=by kernel_rfl
theorem call169:callable prog 169=true:=by kernel_rfl
theorem call170:callable prog 170=true:=by kernel_rfl
theorem call171:callable prog 171=true:=by kernel_rfl
theorem call172:callable prog 172=true:=by kernel_rfl
theorem call173:callable prog 173=true:=by kernel_rfl
theorem call175:callable prog 175=true:=by kernel_rfl
theorem call176:callable prog 176=true:=by kernel_rfl
theorem call177:callable prog 177=true:=by kernel_rfl
theorem call178:callable prog 178=true:=by kernel_rfl
theorem call179:callable prog 179=true:=by kernel_rfl
theorem call180:callable prog 180=true:=by kernel_rfl
theorem call181:callable prog 181=true:=by kernel_rfl
theorem call182:callable prog 182=true:=by kernel_rfl
theorem call183:callable prog 183=true:=by kernel_rfl
theorem call185:callable prog 185=true:=by kernel_rfl
theorem call186:callable prog 186=true:=by kernel_rfl
theorem call191:callable prog 191=true:=by kernel_rfl
theorem call197:callable prog 197=true:=by kernel_rfl
theorem call198:callable prog 198=true:=by kernel_rfl
theorem call199:callable prog 199=true:=by kernel_rfl
theorem call200:callable prog 200=true:=by kernel_rfl
theorem call202:callable prog 202=true:=by kernel_rfl
theorem call203:callable prog 203=true:=by kernel_rfl
theorem call204:callable prog 204=true:=by kernel_rfl
theorem call207:callable prog 207=true:=by kernel_rfl
theorem call209:callable prog 209=true:=by kernel_rfl
theorem call210:callable prog 210=true:=by kernel_rfl
theorem call211:callable prog 211=true:=by kernel_rfl
theorem call212:callable prog 212=true:=by kernel_rfl
theorem call213:callable prog 213=true:=by kernel_rfl
theorem call214:callable prog 214=true:=by kernel_rfl
theorem call215:callable prog 215=true:=by kernel_rfl
theorem call216:callable prog 216=true:=by kernel_rfl
theorem call219:callable prog 219=true:=by kernel_rfl
theorem call220:callable prog 220=true:=by kernel_rfl
theorem call222:callable prog 222=true:=by kernel_rfl
theorem call224:callable prog 224=true:=by kernel_rfl
theorem call225:callable prog 225=true:=by kernel_rfl
theorem call228:callable prog 228=true:=by kernel_rfl
theorem call229:callable prog 229=true:=by kernel_rfl
theorem call230:callable prog 230=true:=by kernel_rfl
theorem call231:callable prog 231=true:=by kernel_rfl
theorem call232:callable prog 232=true:=by kernel_rfl
theorem call233:callable prog 233=true:=by kernel_rfl
theorem call234:callable prog 234=true:=by kernel_rfl
theorem call237:callable prog 237=true:=by kernel_rfl
theorem call238:callable prog 238=true:=by kernel_rfl
theorem call239:callable prog 239=true:=by kernel_rfl
theorem call240:callable prog 240=true:=by kernel_rfl
theorem call241:callable prog 241=true:=by kernel_rfl
theorem call246:callable prog 246=true:=by kernel_rfl
theorem call247:callable prog 247=true:=by kernel_rfl
theorem call250:callable prog 250=true:=by kernel_rfl
theorem call251:callable prog 251=true:=by kernel_rfl
theorem call252:callable prog 252=true:=by kernel_rfl
theorem call253:callable prog 253=true:=by kernel_rfl
theorem call254:callable prog 254=true:=by kernel_rfl
theorem call255:callable prog 255=true:=by kernel_rfl
theorem call256:callable prog 256=true:=by kernel_rfl
theorem call257:callable prog 257=true:=by kernel_rfl
theorem call258:callable prog 258=true:=by kernel_rfl
theorem call259:callable prog 259=true:=by kernel_rfl
theorem call271:callable prog 271=true:=by kernel_rfl
theorem call272:callable prog 272=true:=by kernel_rfl
theorem call276:callable prog 276=true:=by kernel_rfl
theorem call277:callable prog 277=true:=by kernel_rfl
theorem call278:callable prog 278=true:=by kernel_rfl
theorem call279:callable prog 279=true:=by kernel_rfl
theorem call280:callable prog 280=true:=by kernel_rfl
theorem call281:callable prog 281=true:=by kernel_rfl
theorem call282:callable prog 282=true:=by kernel_rfl
theorem call283:callable prog 283=true:=by kernel_rfl
theorem call285:callable prog 285=true:=by kernel_rfl
theorem call291:callable prog 291=true:=by kernel_rfl
theorem call292:callable prog 292=true:=by kernel_rfl
theorem call293:callable prog 293=true:=by kernel_rfl
theorem call294:callable prog 294=true:=by kernel_rfl
theorem call295:callable prog 295=true:=by kernel_rfl
theorem call296:callable prog 296=true:=by kernel_rfl
theorem call297:callable prog 297=true:=by kernel_rfl
theorem call298:callable prog 298=true:=by kernel_rfl
theorem call299:callable prog 299=true:=by kernel_rfl
theorem call300:callable prog 300=true:=by kernel_rfl
theorem call301:callable prog 301=true:=by kernel_rfl
theorem call302:callable prog 302=true:=by kernel_rfl
theorem call303:callable prog 303=true:=by kernel_rfl
theorem call309:callable prog 309=true:=by kernel_rfl
theorem call314:callable prog 314=true:=by kernel_rfl
theorem call315:callable prog 315=true:=by kernel_rfl
theorem call317:callable prog 317=true:=by kernel_rfl
theorem call318:callable prog 318=true:=by kernel_rfl
theorem call319:callable prog 319=true:=by kernel_rfl
theorem call320:callable prog 320=true:=by kernel_rfl
theorem call321:callable prog 321=true:=by kernel_rfl
theorem call323:callable prog 323=true:=by kernel_rfl
theorem call333:callable prog 333=true:=by kernel_rfl
theorem call335:callable prog 335=true:=by kernel_rfl
theorem call336:callable prog 336=true:=by kernel_rfl
theorem call341:callable prog 341=true:=by kernel_rfl
theorem call342:callable prog 342=true:=by kernel_rfl
theorem mixed:prog.follows .mixedOrders=true:=by kernel_rfl
end Go.Sl

