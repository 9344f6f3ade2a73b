/- A part of the proofs of statements of this seat: contracts of functions, and the plain laws that they lean on. No conditions. -/
import Derived.Test.YtnbkccjkdpolmaaGreatDoorA4
import Derived.Test.YtnbkccjkdpolmaaGreatDoorProg
set_option linter.unusedVariables false
set_option linter.unusedSimpArgs false
set_option linter.unusedSectionVars false
open Go.Proofs.Tryz (prog)
namespace Go.Sl
variable{d k nd u v:Int}{left m:BitVec 64}{es:List Pt}{ws:List Int}{j:Nat}
theorem mem_andB{a b:BitVec 64}:u∈eo (a &&& b)↔u∈eo a/\u∈eo b:=by
 simp only [mem_listB,BitVec.getLsbD_and,Bool.and_eq_true]
 constructor
 ·rintro ⟨M,h2,h3⟩;exact ⟨⟨M,h2⟩,M,h3⟩
 rintro ⟨⟨M,h2⟩,_,h3⟩;exact ⟨M,h2,h3⟩
theorem listB_lt(h:u∈eo m):0<=u/\u<64:=by
 rw [mem_listB] at h
 refine ⟨h.1,Classical.byContradiction λhn=>?_⟩
 rw [BitVec.getLsbD_of_ge _ _ (by omega)] at h
 exact absurd h.2<|by simp
theorem mem_orbit(h0:0<=k)(h1:k<64):u∈eo (m ||| 1#64 <<< k.toNat)↔u∈eo m\/u=k:=by
 constructor
 ·intro h
  have M:=listB_lt h
  rw [mem_listB,BitVec.getLsbD_or,getLsb_shl _ _<|by omega,Bool.or_eq_true,decide_eq_true_eq] at h
  rw [mem_listB]
  rcases h.2 with h2|h2
  ·exact .inl ⟨h.1,h2⟩
  exact .inr<|by omega
 intro h
 have M:0<=u/\u<64:=h.elim listB_lt λh=>by omega
 rw [mem_listB,BitVec.getLsbD_or,getLsb_shl _ _<|by omega,Bool.or_eq_true,decide_eq_true_eq]
 rw [mem_listB] at h
 exact ⟨M.1,h.elim (λh=> .inl h.2) λh=> .inr<|by omega⟩
theorem mem_minus(h0:0<=k):u∈eo (m &&& ~~~(1#64 <<< k.toNat))↔u∈eo m/\u≠k:=by
 constructor
 ·intro h
  have hu:=listB_lt h
  rw [mem_listB,BitVec.getLsbD_and,BitVec.getLsbD_not,getLsb_shl _ _<|by omega,Bool.and_eq_true] at h
  rw [mem_listB]
  refine ⟨⟨h.1,h.2.1⟩,λe=>?_⟩
  have M:=h.2.2
  rw [e] at M
  simp at M
 rintro ⟨h,aa⟩
 have hu:=listB_lt h
 rw [mem_listB] at h
 rw [mem_listB,BitVec.getLsbD_and,BitVec.getLsbD_not,getLsb_shl _ _<|by omega,Bool.and_eq_true]
 refine ⟨h.1,h.2,?_⟩
 rw [decide_eq_false (show ¬k.toNat=u.toNat by omega)]
 simp;omega
theorem listB_nodup(m:BitVec 64):(eo m).Nodup:=(listB_asc m).imp λh=>by omega
theorem listB_perm(h:k∈eo m):(eo m).Perm (k::eo (m &&& ~~~(1#64 <<< k.toNat))):=by
 have M:=(listB_lt h).1
 refine (List.perm_ext_iff_of_nodup (listB_nodup _)<|List.nodup_cons.2 ⟨λe=>((mem_minus M).1 e).2 rfl,listB_nodup _⟩).2 λu=>?_
 rw [List.mem_cons,mem_minus M]
 by_cases e:u=k
 ·subst e;simp [h]
 simp [e]
theorem listB_minus(h:k∈eo m):(eo m).length=(eo (m &&& ~~~(1#64 <<< k.toNat))).length+1:=(listB_perm h).length_eq
theorem minus_same(h0:0<=k)(h:k∉eo m):(eo (m &&& ~~~(1#64 <<< k.toNat))).length=(eo m).length:=by
 refine ((List.perm_ext_iff_of_nodup (listB_nodup _)<|listB_nodup _).2 λu=>?_).length_eq
 rw [mem_minus h0]
 exact ⟨λh=>h.1,λM=>⟨M,λe=>h<|e▸M⟩⟩
theorem nz_listB:m≠0#64↔∃u,u∈eo m:=by
 constructor
 ·intro h;exact ⟨_,by rw [listB_step h];exact List.mem_cons_self⟩
 rintro ⟨u,M⟩ rfl
 rw [listB_zero] at M;cases M
theorem tzB_le(h:m≠0#64):tzB m∈eo m/\∀u∈eo m,tzB m<=u:=by
 have e:=listB_step h
 refine ⟨by rw [e];exact List.mem_cons_self,λu hu=>?_⟩
 have M:=listB_asc m
 rw [e] at M hu
 rcases List.mem_cons.1 hu with rfl|hu
 ·exact Int.le_refl _
 have:=(List.pairwise_cons.1 M).1 u hu;omega
def degB(rows:List (BitVec 64))(left:BitVec 64)(v:Int):Nat:=(eo (e_ rows v &&& left)).length
structure Takes (rows:List (BitVec 64)) (left:BitVec 64) (v:Int):Prop where
 mem:v∈eo left
 le:∀u∈eo left,degB rows left v<degB rows left u\/(degB rows left v=degB rows left u/\v<=u)
theorem Takes.uniq{rows:List (BitVec 64)}{M:Int}(h:Takes rows left v)(h':Takes rows left M):v=M:=by
 have a:=h.le M h'.mem
 have b:=h'.le v h.mem
 omega
theorem fold_least(f:Int->Nat):∀(l:List Int) (b:Int),(∀u∈l,b<=u)->l.Pairwise (· < ·)->
    ((l.foldl (λb v=>if f v<f b then v else b) b=b\/l.foldl (λb v=>if f v<f b then v else b) b∈l)/\
     (f (l.foldl (λb v=>if f v<f b then v else b) b)<f b\/l.foldl (λb v=>if f v<f b then v else b) b=b)/\
     ∀u∈l,f (l.foldl (λb v=>if f v<f b then v else b) b)<f u\/(f (l.foldl (λb v=>if f v<f b then v else b) b)=f u/\l.foldl (λb v=>if f v<f b then v else b) b<=u))
  |[],b,_,_=>⟨.inl rfl,.inr rfl,λu hu=>by cases hu⟩
  |x::xs,b,hb,hp=>by
    obtain ⟨hx,aa⟩:=List.pairwise_cons.1 hp
    have ab:=hb x List.mem_cons_self
    rw [List.foldl_cons]
    by_cases hc:f x<f b
    · rw [if_pos hc]
      obtain ⟨h1,M,h3⟩:=fold_least f xs x (λu hu=>by have:=hx u hu;omega) aa
      generalize xs.foldl (λb v=>if f v<f b then v else b) x=r at h1 M h3
      refine ⟨.inr<|h1.elim (λe=>e▸List.mem_cons_self) λh=>List.mem_cons_of_mem _ h,.inl<|M.elim (λh=>by omega) λh=>by rw [h];exact hc,λu hu=>?_⟩
      rcases List.mem_cons.1 hu with rfl|hu
      · exact M.elim .inl λh=> .inr ⟨by rw [h],by omega⟩
      · exact h3 u hu
    · rw [if_neg hc]
      obtain ⟨h1,M,h3⟩:=fold_least f xs b (λu hu=>hb u<|List.mem_cons_of_mem _ hu) aa
      generalize xs.foldl (λb v=>if f v<f b then v else b) b=r at h1 M h3
      refine ⟨h1.imp_right λh=>List.mem_cons_of_mem _ h,M,λu hu=>?_⟩
      rcases List.mem_cons.1 hu with rfl|hu
      · rcases M with h|h
        · exact .inl (by omega)
        · rw [h];omega
      · exact h3 u hu
def takeF(rows:List (BitVec 64))(left:BitVec 64):Int:=(eo left).foldl (λb v=>if degB rows left v<degB rows left b then v else b) ((eo left).headD 0)
theorem takeF_takes{rows:List (BitVec 64)}(h:left≠0#64):Takes rows left (takeF rows left):=by
 have e:=listB_step h
 have ha:=listB_asc left
 unfold takeF
 have M:(eo left).headD 0=tzB left:=by rw [e];rfl
 rw [M]
 obtain ⟨h1,_,h3⟩:=fold_least (degB rows left) (eo left) (tzB left) (tzB_le h).2 ha
 refine ⟨?_,h3⟩
 rcases h1 with h1|h1
 ·rw [h1];exact (tzB_le h).1
 exact h1
def coreF(rows:List (BitVec 64)):Nat->BitVec 64->Nat->List (Int×Nat)
 |0,_,_=>[]
 |n+1,left,k=>(takeF rows left,max k<|degB rows left<|takeF rows left)::coreF rows n (left &&& ~~~(1#64 <<< (takeF rows left).toNat)) (max k<|degB rows left<|takeF rows left)
def coreR(rows:List (BitVec 64))(left:BitVec 64)(k:Nat):List (Int×Nat):=coreF rows (eo left).length left k
theorem coreR_zero(rows:List (BitVec 64))(k:Nat):coreR rows 0#64 k=[]:=by unfold coreR;rw [listB_zero];rfl
theorem coreR_step{rows:List (BitVec 64)}{k:Nat}(h:Takes rows left v):coreR rows left k=(v,max k (degB rows left v))::coreR rows (left &&& ~~~(1#64 <<< v.toNat)) (max k (degB rows left v)):=by
 have M:takeF rows left=v:=(takeF_takes<|nz_listB.2 ⟨v,h.mem⟩).uniq h
 unfold coreR
 rw [listB_minus h.mem]
 show (takeF rows left,_)::_=_
 rw [M]
def ordL(l:List (Int×Nat)):List Int:=l.map λp=>p.1
def numL(n:Nat)(l:List (Int×Nat)):List Int:=l.foldl (λxs p=>xs.set p.1.toNat (p.2:Int)) (List.replicate n 0)
theorem numL_len(n:Nat)(l:List (Int×Nat)):(numL n l).length=n:=by
 unfold numL
 have:∀(l:List (Int×Nat)) (xs:List Int),(l.foldl (λxs p=>xs.set p.1.toNat (p.2:Int)) xs).length=xs.length:=λl=>by
  induction l with
  |nil=>intro xs;rfl
  |cons p l ih=>intro xs;rw [List.foldl_cons,ih,List.length_set]
 rw [this,List.length_replicate]
theorem numL_snoc(n:Nat)(l:List (Int×Nat))(v:Int)(k:Nat):numL n (l++[(v,k)])=(numL n l).set v.toNat (k:Int):=by
 unfold numL;rw [List.foldl_append];rfl
theorem ordL_snoc(l:List (Int×Nat))(v:Int)(k:Nat):ordL (l++[(v,k)])=ordL l++[v]:=by
 unfold ordL;rw [List.map_append];rfl
theorem coreF_bound{rows:List (BitVec 64)}{m:Nat}(M:∀left v,degB rows left v<=m):∀(n:Nat) (left:BitVec 64) (k:Nat),k<=m->∀p∈coreF rows n left k,p.2<=m
 |0,_,_,_,p,hp=>by cases hp
 |n+1,left,k,hk,p,hp=>by
  have h1:=M left (takeF rows left)
  rcases List.mem_cons.1 hp with rfl|hp
  ·show max k _<=m;omega
  exact coreF_bound M n _ _ (by omega) p hp
structure SymB (n:Nat) (rows:List (BitVec 64)):Prop where
 len:rows.length=n
 le:n<=64
 lt:∀u v:Int,0<=u->u<n->v∈eo (e_ rows u)->v<n
 sym:∀u v:Int,0<=u->u<n->v∈eo (e_ rows u)->u∈eo (e_ rows v)
 irr:∀u:Int,0<=u->u<n->u∉eo (e_ rows u)
theorem RowsOk.mem{rows:List (BitVec 64)}(h:RowsOk nd es rows)(u0:0<=u)(u1:u<nd):v∈eo (e_ rows u)↔(0<=v/\v<64)/\((⟨u,v⟩:Pt)∈es\/(⟨v,u⟩:Pt)∈es):=by
 constructor
 ·intro hv
  have M:=listB_lt hv
  rw [mem_listB,h.bit u v u0 u1 M.1 M.2,decide_eq_true_eq] at hv
  exact ⟨M,hv.2⟩
 rintro ⟨M,hv⟩
 rw [mem_listB,h.bit u v u0 u1 M.1 M.2,decide_eq_true_eq]
 exact ⟨M.1,hv⟩
theorem RowsOk.symB{rows:List (BitVec 64)}(h:RowsOk nd es rows)(hG:GrOk nd es):SymB nd.toNat rows:=by
 have hr:=hG.rng
 have hl:=h.len
 have ed:∀a b:Int,((⟨a,b⟩:Pt)∈es)->0<=a/\a<b/\b<nd:=λa b hm=>hG.edge _ hm
 refine ⟨by omega,by omega,λu v M u1 hv=>?_,λu v M u1 hv=>?_,λu M u1 hv=>?_⟩
 ·have:=((h.mem M<|by omega).1 hv).2
  rcases this with e|e<;>have:=ed _ _ e<;>omega
 ·obtain ⟨h1,h2⟩:=(h.mem M<|by omega).1 hv
  have h3:v<nd:=by rcases h2 with e|e<;>have:=ed _ _ e<;>omega
  exact (h.mem h1.1 h3).2 ⟨⟨M,by omega⟩,h2.symm⟩
 have:=((h.mem M<|by omega).1 hv).2
 rcases this with e|e<;>have:=ed _ _ e<;>omega
section
variable {n:Nat}{rows:List (BitVec 64)}
theorem degB_lt(h:SymB n rows)(left:BitVec 64)(v0:0<=v)(v1:v<n):degB rows left v<n:=by
 unfold degB
 have hs:(v::eo (e_ rows v &&& left)).Nodup:=List.nodup_cons.2 ⟨λhm=>h.irr v v0 v1 (mem_andB.1 hm).1,listB_nodup _⟩
 have M:∀x∈(v::eo (e_ rows v &&& left)),x∈(List.range n).map fun (i:Nat)=>(i:Int):=λx hx=>by
  rw [List.mem_map]
  rcases List.mem_cons.1 hx with rfl|hx
  ·exact ⟨x.toNat,List.mem_range.2<|by omega,by omega⟩
  have h1:=(mem_andB.1 hx).1
  have h2:=h.lt v x v0 v1 h1
  have h3:=(listB_lt h1).1
  exact ⟨x.toNat,List.mem_range.2<|by omega,by omega⟩
 have:=List.Nodup.length_le_of_subset hs M
 rw [List.length_map,List.length_range,List.length_cons] at this
 omega
theorem degB_minus(h:SymB n rows)(u0:0<=u)(u1:u<n)(M:0<=v)(v1:v<n)(hv:v∈eo left) :
  degB rows left u=degB rows (left &&& ~~~(1#64 <<< v.toNat)) u+if u∈eo (e_ rows v) then 1 else 0:=by
 unfold degB
 rw [←BitVec.and_assoc]
 by_cases hm:u∈eo (e_ rows v)
 ·rw [if_pos hm]
  exact listB_minus<|mem_andB.2 ⟨h.sym v u M v1 hm,hv⟩
 rw [if_neg hm]
 exact (minus_same M λe=>hm<|h.sym u v u0 u1 (mem_andB.1 e).1).symm
end
structure BkOk (n:Nat) (S:Int->Prop) (dg:Int->Nat) (dgs:List Int) (bks:List (BitVec 64)):Prop where
 dlen:dgs.length=n
 blen:bks.length=64
 rng:∀u,S u->0<=u/\u<n
 deg:∀u,S u->e_ dgs u=(dg u:Int)
 bkt:∀d:Int,0<=d->d<64->∀u:Int,u∈eo (e_ bks d)↔S u/\(dg u:Int)=d
section
variable {n:Nat}{S S':Int->Prop}{dg dg':Int->Nat}{dgs:List Int}{bks:List (BitVec 64)}
theorem BkOk.start(n:Nat)(dg:Int->Nat):BkOk n (λu=>0<=u/\u<((0:Nat):Int)) dg (List.replicate n 0) (List.replicate 64 0#64):=
 ⟨List.length_replicate,List.length_replicate,λu M=>by omega,λu M=>by omega,λd d0 d1 u=>by
  rw [at_rep64,listB_zero]
  exact ⟨(λh=>by cases h),λh=>by omega⟩⟩
theorem BkOk.congr(h:BkOk n S dg dgs bks)(hS:∀u,S' u↔S u)(hd:∀u,S u->dg' u=dg u):BkOk n S' dg' dgs bks:=
 ⟨h.dlen,h.blen,λu hu=>h.rng u ((hS u).1 hu),λu hu=>by rw [h.deg u ((hS u).1 hu),hd u ((hS u).1 hu)],λd d0 d1 u=>by
  rw [h.bkt d d0 d1 u,hS]
  constructor
  ·rintro ⟨M,h2⟩;exact ⟨M,by rw [hd u M];exact h2⟩
  rintro ⟨M,h2⟩;exact ⟨M,by rw [←hd u M];exact h2⟩⟩
theorem BkOk.push(h:BkOk n S dg dgs bks){c:Int}(v0:0<=v)(v1:v<n)(hn:n<=64)(hS:∀u,S' u↔S u\/u=v)(hv:¬S v)(hc:c=(dg v:Int))(c1:c<64) :
  BkOk n S' dg (dgs.set v.toNat c) (bks.set c.toNat<|e_ bks c ||| 1#64 <<< v.toNat):=by
 have ab:=h.blen
 have aa:=h.dlen
 refine ⟨by rw [List.length_set];exact aa,by rw [List.length_set];exact ab,λu M=>?_,λu M=>?_,λd d0 d1 u=>?_⟩
 ·rcases (hS u).1 M with M|rfl
  ·exact h.rng u M
  exact ⟨v0,v1⟩
 ·have hr:0<=u:=((hS u).1 M).elim (λM=>(h.rng u M).1) λe=>by omega
  rw [at_set _ v u _ v0 hr (by omega)]
  rcases (hS u).1 M with M|rfl
  ·rw [if_neg (λe=>hv<|by rw [e];exact M)];exact h.deg u M
  rw [if_pos rfl,hc]
 rw [at_set _ c d _ (by omega) d0 (by omega),hS]
 by_cases e:c=d
 ·rw [if_pos e,mem_orbit v0<|by omega,e,h.bkt d d0 d1]
  constructor
  ·rintro (⟨h1,h2⟩|rfl)
   ·exact ⟨.inl h1,h2⟩
   exact ⟨.inr rfl,by omega⟩
  rintro ⟨h1|rfl,h2⟩
  ·exact .inl ⟨h1,h2⟩
  exact .inr rfl
 rw [if_neg e,h.bkt d d0 d1]
 constructor
 ·rintro ⟨h1,h2⟩;exact ⟨.inl h1,h2⟩
 rintro ⟨h1|rfl,h2⟩
 ·exact ⟨h1,h2⟩
 exact absurd (hc.trans h2) e
theorem BkOk.drop(h:BkOk n S dg dgs bks)(hv:S v)(hd:(dg v:Int)=d)(d1:d<64)(hS:∀u,S' u↔S u/\u≠v) :
  BkOk n S' dg dgs (bks.set d.toNat<|e_ bks d &&& ~~~(1#64 <<< v.toNat)):=by
 have aa:=h.blen
 have hr:=h.rng v hv
 refine ⟨h.dlen,by rw [List.length_set];exact aa,λu hu=>h.rng u ((hS u).1 hu).1,λu hu=>h.deg u ((hS u).1 hu).1,λc c0 c1 u=>?_⟩
 rw [at_set _ d c _ (by omega) c0 (by omega),hS]
 by_cases e:d=c
 ·rw [if_pos e,mem_minus hr.1,e,h.bkt c c0 c1]
  constructor
  ·rintro ⟨⟨M,h2⟩,h3⟩;exact ⟨⟨M,h3⟩,h2⟩
  rintro ⟨⟨M,h3⟩,h2⟩;exact ⟨⟨M,h2⟩,h3⟩
 rw [if_neg e,h.bkt c c0 c1]
 constructor
 ·rintro ⟨M,h2⟩;exact ⟨⟨M,λe2=>e<|by subst e2;omega⟩,h2⟩
 rintro ⟨⟨M,_⟩,h2⟩;exact ⟨M,h2⟩
theorem BkOk.lower(h:BkOk n S dg dgs bks)(hn:n<=64){w e:Int}(hw:S w)(he:(dg w:Int)=e)(e0:1<=e)(e1:e<64)(hd:∀u,S u->dg' u=if u=w then dg u - 1 else dg u) :
  BkOk n S dg' (dgs.set w.toNat<|e - 1) ((bks.set e.toNat<|e_ bks e &&& ~~~(1#64 <<< w.toNat)).set (e - 1).toNat (e_ (bks.set e.toNat<|e_ bks e &&& ~~~(1#64 <<< w.toNat)) (e - 1) ||| 1#64 <<< w.toNat)):=by
 have hr:=h.rng w hw
 have h1:BkOk n (λu=>S u/\u≠w) dg dgs _:=h.drop hw he e1 (S':=λu=>S u/\u≠w) λu=>Iff.rfl
 have h2:BkOk n (λu=>S u/\u≠w) dg' dgs _:=h1.congr (λu=>Iff.rfl) λu M=>by rw [hd u M.1,if_neg M.2]
 have aa:=hd w hw
 rw [if_pos rfl] at aa
 refine (h2.push (S':=S) hr.1 hr.2 hn (λu=>?_) (λh=>h.2 rfl) (by omega) (by omega):BkOk n S dg' (dgs.set w.toNat<|e - 1) _)
 constructor
 ·intro M
  by_cases e:u=w
  ·exact .inr e
  exact .inl ⟨M,e⟩
 rintro (M|rfl)
 ·exact M.1
 exact hw
theorem BkOk.takes{rows:List (BitVec 64)}(h:BkOk n (λu=>u∈eo left) (degB rows left) dgs bks)(d0:0<=d)(d1:d<64)(hd:e_ bks d≠0#64)(hlt:∀c:Int,0<=c->c<d->e_ bks c=0#64)(M:∀u∈eo left,degB rows left u<64) :
  Takes rows left (tzB<|e_ bks d)/\(degB rows left (tzB<|e_ bks d):Int)=d:=by
 obtain ⟨h1,h2⟩:=tzB_le hd
 obtain ⟨h3,h4⟩:=(h.bkt d d0 d1 _).1 h1
 refine ⟨⟨h3,λu hu=>?_⟩,h4⟩
 have hb:=M u hu
 rcases Int.lt_trichotomy (degB rows left u:Int) d with h5|h5|h5
 ·have h6:=(h.bkt (degB rows left u:Int) (by omega) (by omega) u).2 ⟨hu,rfl⟩
  rw [hlt _ (by omega) h5,listB_zero] at h6
  cases h6
 ·exact .inr ⟨by omega,h2 u<|(h.bkt d d0 d1 u).2 ⟨hu,h5⟩⟩
 exact .inl<|by omega
theorem BkOk.some{rows:List (BitVec 64)}(h:BkOk n (λu=>u∈eo left) (degB rows left) dgs bks)(hl:left≠0#64)(M:∀u∈eo left,degB rows left u<64)(hz:∀c:Int,0<=c->c<64->e_ bks c=0#64):False:=by
 obtain ⟨u,hu⟩:=nz_listB.1 hl
 have hb:=M u hu
 have h6:=(h.bkt (degB rows left u:Int) (by omega) (by omega) u).2 ⟨hu,rfl⟩
 rw [hz _ (by omega) (by omega),listB_zero] at h6
 cases h6
end
def degM(rows:List (BitVec 64))(left:BitVec 64)(ws:List Int)(j:Nat)(u:Int):Nat:=if u∈ws.take j then degB rows left u - 1 else degB rows left u
theorem degM_zero(rows:List (BitVec 64))(left:BitVec 64)(ws:List Int)(u:Int):degM rows left ws 0 u=degB rows left u:=by unfold degM;rw [if_neg (by simp)]
theorem degM_succ{rows:List (BitVec 64)}(hj:j<ws.length)(hn:ws.Nodup)(u:Int):degM rows left ws (j+1) u=if u=e_ ws j then degM rows left ws j u - 1 else degM rows left ws j u:=by
 have M:e_ ws j∉ws.take j:=by
  rw [at_get ws j hj]
  intro hm
  obtain ⟨i,hi,e⟩:=List.mem_iff_getElem.1 hm
  rw [List.length_take] at hi
  rw [List.getElem_take] at e
  exact (List.pairwise_iff_getElem.1 hn) i j (by omega) hj (by omega) e
 unfold degM
 rw [take_at ws j hj]
 simp only [List.mem_append,List.mem_singleton]
 by_cases e:u=e_ ws j
 ·subst e
  rw [if_pos (.inr rfl),if_pos rfl,if_neg M]
 rw [if_neg e]
 by_cases h2:u∈ws.take j
 ·rw [if_pos (.inl h2),if_pos h2]
 rw [if_neg (by rintro (h3|h3);exact h2 h3;exact e h3),if_neg h2]
theorem degM_now{rows:List (BitVec 64)}(hj:j<ws.length)(hn:ws.Nodup):degM rows left ws j (e_ ws j)=degB rows left (e_ ws j):=by
 have h1:=degM_succ (rows:=rows) (left:=left) hj hn (e_ ws j)
 rw [if_pos rfl] at h1
 unfold degM at h1 ⊢
 split
 ·rename_i h2
  have M:e_ ws j∉ws.take j:=by
   rw [at_get ws j hj]
   intro hm
   obtain ⟨i,hi,e⟩:=List.mem_iff_getElem.1 hm
   rw [List.length_take] at hi
   rw [List.getElem_take] at e
   exact (List.pairwise_iff_getElem.1 hn) i j (by omega) hj (by omega) e
  exact absurd h2 M
 rfl
theorem degM_all{n:Nat}{rows:List (BitVec 64)}(h:SymB n rows)(v0:0<=v)(v1:v<n)(hv:v∈eo left)(u0:0<=u)(u1:u<n)(hu:u∈eo (left &&& ~~~(1#64 <<< v.toNat)))(hj:(eo (e_ rows v &&& (left &&& ~~~(1#64 <<< v.toNat)))).length<=j) :
  degM rows left (eo<|e_ rows v &&& (left &&& ~~~(1#64 <<< v.toNat))) j u=degB rows (left &&& ~~~(1#64 <<< v.toNat)) u:=by
 have M:=degB_minus h u0 u1 v0 v1 hv
 unfold degM
 rw [List.take_of_length_le hj]
 by_cases hm:u∈eo (e_ rows v)
 ·rw [if_pos (mem_andB.2 ⟨hm,hu⟩)];rw [if_pos hm] at M;omega
 rw [if_neg (λe=>hm (mem_andB.1 e).1)];rw [if_neg hm] at M;omega
end Go.Sl
namespace Go.Sl
section
variable {P:Program}
def flatF(P:Program):List Field->Nat->Bool
 |[],_=>true
 | f :: fs, o => (f.name != "_") && (match P.underlying f.type with | some (.int .i64) => true | _ => false) && (f.offset == o) && flatF P fs (o + 1)
theorem run_eqFlat(d:Nat)(w:World)(ns M:List Int):∀(fs:List Field) (o:Nat),flatF P fs o=true->ns.length=o+fs.length->M.length=o+fs.length->
  (Op.eqFields (d+1) (ns.map e7).toArray (M.map e7).toArray fs).run P w = .ok (decide<|ns.drop o=M.drop o) w
 |[],o,_,hn,hm=>by
  have h1:ns.drop o=[]:=List.drop_eq_nil_of_le (by simp at hn;omega)
  have h2:M.drop o=[]:=List.drop_eq_nil_of_le (by simp at hm;omega)
  simp [Op.eqFields,h1,h2]
 |f::fs,o,h,hn,hm=>by
  simp only [flatF,Bool.and_eq_true,bne_iff_ne,beq_iff_eq] at h
  obtain ⟨⟨⟨h1,h2⟩,h3⟩,h4⟩:=h
  have hu:P.underlying f.type=some (.int .i64):=by
   revert h2
   split
   ·intro _;assumption
   intro h;cases h
  simp only [List.length_cons] at hn hm
  have aa:o<ns.length:=by omega
  have ad:o<M.length:=by omega
  have ha:(isAgg f.type).run P w = .ok false w:=by simp [isAgg,run_underlying hu]
  have hp:∀(ks:List Int) (hk:o<ks.length),(part f.type (ks.map e7).toArray f.offset).run P w = .ok (e7 ks[o]) w:=λks hk=>by
   simp [part,ha,h3,hk]
  have ih:=run_eqFlat d w ns M fs (o+1) h4 (by omega) (by omega)
  simp only [Op.eqFields,if_pos h1,Sem.run_bind,hp ns aa,hp M ad,Result.andThen_ok,run_equalIn_int _ _ _ _ _ _ _ hu]
  have ae:(ns.drop o=M.drop o)↔(ns[o]=M[o]/\ns.drop (o+1)=M.drop (o+1)):=by rw [List.drop_eq_getElem_cons aa,List.drop_eq_getElem_cons ad,List.cons.injEq]
  have ab:decide (ns.drop o=M.drop o)=decide (ns[o]=M[o]/\ns.drop (o+1)=M.drop (o+1)):=decide_eq_decide.2 ae
  rw [ab]
  by_cases he:ns[o]=M[o]
  ·simp [he,ih]
  simp [he]
theorem EqT.flat{α:Type}[Enc α][DecidableEq α]{T n:Nat}(M:α->List Int)(aa:∀x,Enc.enc x=(M x).map e7)(ab:∀x y,M x=M y->x=y)(hlen:∀x,(M x).length=n)
  (ht:P.underlying T=some (.struct<|P.fieldsOf T)) (hp:P.stoodInHeld T=false) (hf:flatF P (P.fieldsOf T).toList 0=true) (hn:(P.fieldsOf T).size=n) (hg:P.eqGuardType P.depth T=false):EqT P T α:=by
 refine ⟨λx y w=>?_,hg⟩
 rw [show (10000:Nat)=9999+1 from rfl,run_equalIn_struct w 9999 T _ _ ht hp,aa,aa,show (9999:Nat)=9998+1 from rfl,
  run_eqFlat 9998 w (M x) (M y) _ 0 hf (by rw [hlen,Array.length_toList,hn];omega) (by rw [hlen,Array.length_toList,hn];omega)]
 congr 1
 rw [List.drop_zero,List.drop_zero,decide_eq_decide]
 exact ⟨ab x y,λe=>by rw [e]⟩
end
end Go.Sl
namespace Go.Sl
theorem u64_nat{n:Int}(h0:0<=n)(M:n<18446744073709551616):∃b:BitVec 64,n=(b.toNat:Int):=
 ⟨BitVec.ofNat 64 n.toNat,by rw [BitVec.toNat_ofNat];omega⟩
section
variable {P:Program}{κ:Ctx}{N:Frm}{L:Env}{J:List Item}{d:Option Tmp}{ty:TypeId}{ps:String}{af:Array Edge}{gd:Option (Nat×Bool)}{x y:Operand}{T U:TypeId}{k':IntKind}
theorem Runs.shrU{m n:Int}(hx:er L x=some (.int .u64 m))(hy:er L y=some (.int k' n))(M:0<=n)(h1:n<64):Runs P κ N ⟨d,.binOp .shr T x y U,ty,ps,af,gd⟩ L J (.int .u64 (m / 2 ^ n.toNat)):=by
 have h:=Runs.shrw (P:=P) (κ:=κ) (N:=N) (J:=J) (d:=d) (ty:=ty) (ps:=ps) (af:=af) (gd:=gd) (T:=T) (U:=U) hx hy M
 have e:m.fdiv (2 ^ Min.min n.toNat IntKind.u64.bits)=m / 2 ^ n.toNat:=by
  rw [show Min.min n.toNat IntKind.u64.bits=n.toNat by show Min.min n.toNat 64=_;omega,Int.fdiv_eq_ediv_of_nonneg _<|Int.pow_nonneg<|by decide]
 rwa [e] at h
end
theorem V.retcc{P:Program}{κ:Ctx}{N:Frm}{L:Env}{I:List Item}{fn:Func}{t u:Tmp}{T U b b' E E' sz ae by' ai:Nat}{z z' cs ds:List Value}{Post:Value->List Item->Prop}(hr:fn.results = #[.cell t T,.cell u U])(hT:tyF P T=some (sz,true,by',z))(hU:tyF P U=some (ae,true,ai,z'))
  (hv:look L t=some (.pointer<|some ⟨b,0,none⟩)) (aj:look L u=some (.pointer<|some ⟨b',0,none⟩)) (hb:e8 b cs E∈I) (ak:e8 b' ds E'∈I)
  (hl:cs.length=sz) (ah:ds.length=ae) (J:List Item) (hf:Fit κ I J) (hp:Post (.tuple #[.agg cs.toArray,.agg ds.toArray]) J) (h0:N.ds=[]:=by rfl):V κ N (bodyPost P fn<|RetR κ Post) .ret L I:=
 λa w ha hs=>by
  have ad:=λj=>cell_blk (w:=w) (hs.ok _ hb).1 j
  have aa:=λj=>cell_blk (w:=w) (hs.ok _ ak).1 j
  have ab:(loadVar T ⟨b,0,none⟩).run P w = .ok (.agg cs.toArray) w:=run_loadVar_agg hT hl λj u hj=>by rw [addr_add,ad,←hj];simp
  have M:(loadVar U ⟨b',0,none⟩).run P w = .ok (.agg ds.toArray) w:=run_loadVar_agg hU ah λj u hj=>by rw [addr_add,aa,←hj];simp
  refine bodyPost_ret (v:= .tuple #[.agg cs.toArray,.agg ds.toArray]) ?_ (ha.defers.trans h0) ⟨_,J,rfl,hp,hf w hs⟩
  simp [results,hr,ha.get t _ hv,ha.get u _ aj,asAddr,ab,M]
end Go.Sl
namespace Go.Sl
variable{m n r:Int}
section
variable {P:Program}{κ:Ctx}{N:Frm}{L:Env}{J:List Item}{d:Option Tmp}{ty:TypeId}{ps:String}{af:Array Edge}{gd:Option (Nat×Bool)}{x y:Operand}{T U:TypeId}{k':IntKind}
theorem Runs.mulU(hx:er L x=some (.int .u64 m))(hy:er L y=some (.int .u64 n))(M:m*n=r)(h0:0<=r)(h1:r<18446744073709551616):Runs P κ N ⟨d,.binOp .mul T x y U,ty,ps,af,gd⟩ L J (.int .u64 r):=by
 have h:=Runs.mulw (P:=P) (κ:=κ) (N:=N) (J:=J) (d:=d) (ty:=ty) (ps:=ps) (af:=af) (gd:=gd) (T:=T) (U:=U) hx hy
 have e:IntKind.u64.wrap (m*n)=r:=by rw [u64_wrap,M];omega
 rwa [e] at h
theorem Runs.addU(hx:er L x=some (.int .u64 m))(hy:er L y=some (.int .u64 n))(M:m+n=r)(h0:0<=r)(h1:r<18446744073709551616):Runs P κ N ⟨d,.binOp .add T x y U,ty,ps,af,gd⟩ L J (.int .u64 r):=by
 have h:=Runs.addw (P:=P) (κ:=κ) (N:=N) (J:=J) (d:=d) (ty:=ty) (ps:=ps) (af:=af) (gd:=gd) (T:=T) (U:=U) hx hy
 have e:IntKind.u64.wrap (m+n)=r:=by rw [u64_wrap,M];omega
 rwa [e] at h
theorem Runs.lowU(hx:er L x=some (.int .u64 m))(hy:er L y=some (.int .u64 4294967295))(h0:0<=m)(h1:m<18446744073709551616)(M:m % 4294967296=r):Runs P κ N ⟨d,.binOp .and T x y U,ty,ps,af,gd⟩ L J (.int .u64 r):=by
 obtain ⟨b,rfl⟩:=u64_nat h0 h1
 have h:=Runs.andB (P:=P) (κ:=κ) (N:=N) (J:=J) (d:=d) (ty:=ty) (ps:=ps) (af:=af) (gd:=gd) (T:=T) (U:=U) (b:=4294967295#64) hx hy
 have e:((b &&& 4294967295#64).toNat:Int)=r:=by
  rw [BitVec.toNat_and,show (4294967295#64).toNat=2 ^ 32 - 1 from rfl,Nat.and_two_pow_sub_one_eq_mod,←M];rfl
 rw [←e];exact h
theorem Runs.shr32(hx:er L x=some (.int .u64 m))(hy:er L y=some (.int k' 32))(M:m / 4294967296=r):Runs P κ N ⟨d,.binOp .shr T x y U,ty,ps,af,gd⟩ L J (.int .u64 r):=by
 have h:=Runs.shrU (P:=P) (κ:=κ) (N:=N) (J:=J) (d:=d) (ty:=ty) (ps:=ps) (af:=af) (gd:=gd) (T:=T) (U:=U) hx hy (by decide) (by decide)
 rw [show (2:Int) ^ (32:Int).toNat=4294967296 from rfl,M] at h
 exact h
end
end Go.Sl
namespace Go.Sl
variable{xs:List (BitVec 64)}{x:Operand}{E T b by' sz:Nat}{z:List Value}{i:Int}
section
variable {P:Program}{κ:Ctx}{N:Frm}{Q:Exit->Act->World->Prop}{L:Env}{I J:List Item}
variable {d:Option Tmp}{ty:TypeId}{ps:String}{af:Array Edge}{gd:Option (Nat×Bool)}
theorem Runs.getAU(M:tyF P T=some (sz,false,by',z))(hx:er L x=some (.pointer (some ⟨b,0+i.toNat*1,none⟩)))(hb:BlkRd κ J b (cells xs) E)(h0:0<=i)(hn:i<xs.length) :
  Runs P κ N ⟨d,.load T x,ty,ps,af,gd⟩ L J (U64<|e_ xs i):=by
 refine Runs.loadB M hx hb ?_
 have:=cells_get xs i.toNat 0 (by omega) (by decide)
 rw [show 0+i.toNat*1=i.toNat*Enc.sz (BitVec 64)+0 by show 0+i.toNat*1=i.toNat*1+0;omega,this,at_eq h0 hn];rfl
theorem cells_setU(xs:List (BitVec 64))(i:Nat)(n:BitVec 64)(h:i<xs.length):(cells xs).take i++[U64 n]++(cells xs).drop (i+1)=cells (xs.set i n):=by
 induction xs generalizing i with
 |nil=>simp at h
 |cons x xs ih=>
  cases i with
  |zero=>rfl
  |succ i=>
   have M:i<xs.length:=by simpa using h
   have e:cells (x::xs)=U64 x::cells xs:=rfl
   rw [e,List.set_cons_succ]
   have e2:cells (x::xs.set i n)=U64 x::cells (xs.set i n):=rfl
   rw [e2,←ih i M];rfl
theorem Eff.setAU{y:Operand}{ag:Bool}{n:BitVec 64}{I':List Item}(hT:tyF P T=some (sz,ag,by',z))(M:sz=1)(hx:er L x=some (.pointer (some ⟨b,0+i.toNat*1,none⟩)))(hy:er L y=some (U64 n))(h0:0<=i)(hn:i<xs.length)
  (aa:At I (e8 b (cells xs) E) (e8 b (cells<|xs.set i.toNat n) E) I') :
  Eff P κ N Q ⟨none,.store T x y,ty,ps,af,gd⟩ L I λL' I''=>L'=L/\I''=I':=by
 have hl:(cells xs).length=xs.length:=by rw [cells_length];show xs.length*1=_;omega
 refine Eff.store (vs:=[U64 n]) (cs':=cells (xs.set i.toNat n)) hT hx hy C (by rw [M];rfl) (λu hu=>by rw [List.mem_singleton] at hu;subst hu;rfl) (by rw [hl];simp;omega) ?_ aa
 have h:=cells_setU xs i.toNat n (by omega)
 rw [show 0+i.toNat*1=i.toNat by omega]
 exact h
end
end Go.Sl
namespace Go.Sl
theorem D.fit{P:Program}{κ:Ctx}{N:Frm}{ops:Array Oper}{Q:Exit->Act->World->Prop}{I J H:List Item}{L:Env}{stop fuel:Nat}{M:Array Bool}(hf:Fit κ I J)(h:D P κ N ops Q H stop fuel M L J):D P κ N ops Q H stop fuel M L I:=λa w ha hs=>h a w ha (hf w hs)
section
variable {α:Type}[Enc α]{κ:Ctx}{I:List Item}
theorem Fit.takevc{e:TypeId}{a:Option Addr}{n c k:Nat}{xs:List α}(hn:n=xs.length):Fit κ (vc e (.slice a n c) xs::I) (vc e (.slice a (xs.take k).length c) (xs.take k)::I):=by
 subst hn
 refine Fit.upd (At.head _ _ _) λw h=>⟨?_,λj ⟨o,m,c',hv,M⟩=>?_⟩
 ·obtain ⟨a',cap,hv,h1,h2,h3,h4⟩:=h
  cases hv
  refine ⟨a,c,rfl,cells_length _,by rw [List.length_take];omega,h3,λM=>?_⟩
  obtain ⟨b,off,cur,ha,hb,h5,h6⟩:=h4 M
  refine ⟨b,off,cur,ha,hb,h5,λj u hj=>h6 j u ?_⟩
  have e1:cells xs=cells (xs.take k)++cells (xs.drop k):=by rw [←cells_append,List.take_append_drop]
  rw [e1,List.getElem?_append_left (List.getElem?_eq_some_iff.1 hj).1];exact hj
 cases hv;exact ⟨o,_,c,rfl,M⟩
def ownR(e:TypeId)(rs:List (RowG α)):List Item:=rs.map λr=>vc e (.slice r.a r.xs.length r.c) r.xs
end
end Go.Sl
namespace Go.Sl
open Go
variable{fuel i:Nat}{v:Value}{M:Array Bool}
section
variable {P:Program}{ops:Array Oper}{Q:Exit->Act->World->Prop}{md:Region.Mode}{S:World->Prop}
def wpAnyK(P:Program)(md:Region.Mode)(ops:Array Oper)(Q:Exit->Act->World->Prop)(S:World->Prop)(stop:Nat)(K:Nat->Array Bool->Act->World->Prop):Nat->Array Bool->Act->World->Prop
 |0,listed,a,w=>Region.ready md ops listed=[]/\Q .normal a w
 |fuel+1,listed,a,w=>
  (Region.ready md ops listed=[stop]->K (fuel+1) listed a w)/\
  (Region.ready md ops listed≠[stop]->(Region.ready md ops listed=[]->Q .normal a w)/\
   ∀i∈Region.ready md ops listed,wpOp P ops Q i (λa' w'=>S w'/\wpAnyK P md ops Q S stop K fuel (listed.setIfInBounds i true) a' w') a w)
variable {K:Nat->Array Bool->Act->World->Prop}
theorem wpAny_of_K{stop:Nat}(M:∀fuel listed a w,K fuel listed a w->wpAny P md ops Q fuel listed a w):∀(fuel:Nat) (listed:Array Bool) (a:Act) (w:World),wpAnyK P md ops Q S stop K fuel listed a w->wpAny P md ops Q fuel listed a w
 |0,_,_,_,h=>h
 |fuel+1,listed,a,w,h=>by
  by_cases hr:Region.ready md ops listed=[stop]
  ·exact M _ _ _ _<|h.1 hr
  exact ⟨(h.2 hr).1,λi hi=>wpOp_mono (λa' w' h'=>wpAny_of_K M fuel _ a' w' h'.2)<|(h.2 hr).2 i hi⟩
theorem wpAnyT_of_K{S0:World->Prop}(hS:∀w,S w->S0 w){n stop:Nat}:∀(fuel:Nat) (listed:Array Bool) (a:Act) (w:World),wpAnyK P md ops Q S stop (wpAnyT P md ops Q S0 n) fuel listed a w->wpAnyT P md ops Q S0 n fuel listed a w
 |0,_,_,_,h=>h
 |fuel+1,listed,a,w,h=>by
  by_cases hr:Region.ready md ops listed=[stop]
  ·exact h.1 hr
  refine ⟨λ_=>wpAny_of_K (λ_ _ _ _ h=>wpAny_of_T _ _ _ _ h) _ _ _ _ h,λ_=>⟨(h.2 hr).1,λi hi=>wpOp_mono (λa' w' M=>⟨hS w' M.1,wpAnyT_of_K hS fuel _ a' w' M.2⟩)<|(h.2 hr).2 i hi⟩⟩
theorem wpAnyK_first{stop:Nat}{oi:Oper}(hi:ops[i]? = some oi)(ah:∀(j:Nat) (o:Oper) cs b,ops[j]? = some o->o.op ≠ .select cs b)(ao:i≠stop)(ai:waitsFor md ops stop i=true)
  (hQ:∀c a w,Q (.panic c) (a.put oi.dst v) w->Q (.panic c) a w) :
  ∀(fuel:Nat) (M:Array Bool) (a:Act) (w:World),
   (∀j oj,ops[j]? = some oj->j≠i->M.getD j true=false->(∀e∈oj.after,Region.binds md e=true->e.on≠i)->oi.apart ops oj=true)->
   i∈Region.ready md ops M->YieldsIf P ops S oi v a->S w->
   wpAnyK P md ops Q S stop K fuel (M.setIfInBounds i true) (a.put oi.dst v) w->wpAnyK P md ops Q S stop K (fuel+1) M a w:=by
 intro fuel
 induction fuel with
 |zero=>
  intro M a w _ hr hy hS H
  refine ⟨λh=>(by rw [h] at hr;exact absurd (by simpa using hr) ao),λ_=>⟨λh=>(by rw [h] at hr;cases hr),λj hj=>?_⟩⟩
  by_cases hji:j=i
  ·subst hji;exact hy.wpOp hi hS ⟨hS,H⟩
  have:=ready_mono hj hji
  rw [H.1] at this
  cases this
 |succ fuel ih=>
  intro M a w aa hr hy hS H
  refine ⟨λh=>(by rw [h] at hr;exact absurd (by simpa using hr) ao),λ_=>⟨λh=>(by rw [h] at hr;cases hr),λj hj=>?_⟩⟩
  by_cases hji:j=i
  ·subst hji;exact hy.wpOp hi hS ⟨hS,H⟩
  have aj:=ready_mono hj hji
  have ar:Region.ready md ops (M.setIfInBounds i true)≠[stop]:=λh=>by
   rw [h] at aj
   obtain rfl:j=stop:=by simpa using aj
   exact not_waits hr hj ai
  have h1:=(H.2 ar).2 j aj
  obtain ⟨ae,oj,ad,au⟩:=mem_ready.1 hj
  have an:=ready_unlisted hr hj ad
  have h2:=wpOp_putIf ad (aa j oj ad hji ae an) (λcs b=>ah i oi cs b hi) (λcs b=>ah j oj cs b ad) hQ hy h1
  have ab:∀k ok,ops[k]? = some ok->k≠i->(M.setIfInBounds j true).getD k true=false->
    (∀e∈ok.after,Region.binds md e=true->e.on≠i)->oi.apart ops ok=true:=λk ok hk aq ak ap=>by
   refine aa k ok hk aq ?_ ap
   by_cases hjk:j=k
   ·subst hjk;exact ae
   rw [getD_set_ne true hjk] at ak;exact ak
  refine wpOp_mono (λa' w' h3=>⟨h3.2.1,ih (M.setIfInBounds j true) a' w' ab (ready_mono hr<|Ne.symm hji) h3.1 h3.2.1 ?_⟩) h2
  rw [Array.setIfInBounds_comm _ _ hji]
  exact h3.2.2
theorem wpAnyK_take{stop:Nat}{oi:Oper}{a:Act}{w:World}(hi:ops[i]? = some oi)
  (hs:Region.noSelect ops=true) (hf:Region.free md ops M i=true) (hr:(Region.ready md ops M).contains i=true) (ab:Nat.beq i stop=false) (aa:waitsFor md ops stop i=true)
  (hQ:∀c a w,Q (.panic c) (a.put oi.dst v) w->Q (.panic c) a w) (hy:YieldsIf P ops S oi v a) (hS:S w)
  (h:wpAnyK P md ops Q S stop K fuel (M.setIfInBounds i true) (a.put oi.dst v) w):wpAnyK P md ops Q S stop K (fuel+1) M a w:=
 wpAnyK_first hi (Region.noSelect_spec hs) (λe=>by subst e;simp at ab) aa hQ fuel M a w (Region.free_spec hi hf) (by simpa using hr) hy hS h
end
section
variable {P:Program}{κ:Ctx}{N:Frm}{ops:Array Oper}{Q:Exit->Act->World->Prop}{I J J0:List Item}{L:Env}{o:Oper}{n:Nat}
def D2(P:Program)(κ:Ctx)(N:Frm)(ops:Array Oper)(Q:Exit->Act->World->Prop)(J0:List Item)(n:Nat)(J:List Item)(stop fuel:Nat)(listed:Array Bool)(L:Env)(I:List Item):Prop:=
 ∀a w,Ag N a L->Sep κ w I->wpAnyK P .any ops Q (λw=>Sep κ w J) stop (wpAnyT P .any ops Q (λw=>Sep κ w J0) n) fuel listed a w
theorem D.two(J:List Item)(stop:Nat)(hf:Fit κ J J0)(h:D2 P κ N ops Q J0 n J stop fuel M L I):D P κ N ops Q J0 n fuel M L I:=λa w ha hs=>wpAnyT_of_K (λw' hw=>hf w' hw) _ _ _ _ (h a w ha hs)
theorem D2.stop{stop:Nat}(hr:Region.ready .any ops M=[stop])(h:D P κ N ops Q J0 n (fuel+1) M L I):D2 P κ N ops Q J0 n J stop (fuel+1) M L I:=
 λa w ha hs=>⟨λ_=>h a w ha hs,λaa=>absurd hr aa⟩
theorem D2.read{stop:Nat}{d:Nat}(i:Nat)(hi:ops[i]? = some o)(ai:Region.noSelect ops=true)(hf:Region.free .any ops M i=true)
  (hr:(Region.ready .any ops M).contains i=true) (ae:Nat.beq i stop=false) (ah:waitsFor .any ops stop i=true) (hQ:∀c a u w,Q (.panic c) (a.put o.dst u) w->Q (.panic c) a w) (hw:Wanted N ops o L) (hd:o.dst=some d) (hN:Nat.blt d N.n=true)
  (hJ:Fit κ I J) (aa:Runs P κ N o L J v) (h:D2 P κ N ops Q J0 n J stop fuel (M.setIfInBounds i true) ((d,v)::L) I):D2 P κ N ops Q J0 n J stop (fuel+1) M L I:=λa w ha hs=>by
 refine wpAnyK_take hi ai hf hr ae ah (λc a w=>hQ c a v w) (.inl ⟨hw a ha,λw' ad=>aa a w' ha ad⟩) (hJ w hs) ?_
 have ab:=ha.put d hN v
 rw [←hd] at ab
 exact h _ w ab hs
def Step2(P:Program)(κ:Ctx)(N:Frm)(ops:Array Oper)(Q:Exit->Act->World->Prop)(J0:List Item)(n:Nat)(J:List Item)(stop fuel:Nat)(listed:Array Bool)(L:Env)(I:List Item)(i:Nat):Prop:=
 ∀a w,Ag N a L->Sep κ w I->wpOp P ops Q i (λa' w'=>Sep κ w' J/\wpAnyK P .any ops Q (λw=>Sep κ w J) stop (wpAnyT P .any ops Q (λw=>Sep κ w J0) n) fuel (listed.setIfInBounds i true) a' w') a w
theorem D2.step{stop:Nat}{rs:List Nat}(hr:Region.ready .any ops M=rs)(ab:rs.isEmpty=false)(aa:(rs==[stop])=false)(h:∀i∈rs,Step2 P κ N ops Q J0 n J stop fuel M L I i):D2 P κ N ops Q J0 n J stop (fuel+1) M L I:=
 λa w ha hs=>⟨λh0=>(by rw [hr] at h0;simp [h0] at aa),λ_=>⟨λh0=>(by rw [hr] at h0;simp [h0] at ab),λi hi=>h i (hr▸hi) a w ha hs⟩⟩
theorem Step2.eff{stop:Nat}{R:Env->List Item->Prop}(hi:ops[i]? = some o)(hw:Wanted N ops o L)(he:Eff P κ N Q o L I R)
  (h:∀L' I',R L' I'->Fit κ I' J/\D2 P κ N ops Q J0 n J stop fuel (M.setIfInBounds i true) L' I'):Step2 P κ N ops Q J0 n J stop fuel M L I i:=λa w ha hs=>by
 unfold wpOp
 simp only [hi,hw a ha,if_true]
 exact .inl<|Oper.wp_mono (λa' w' ⟨L',I',hR,ab,aa⟩=>⟨(h L' I' hR).1 w' aa,(h L' I' hR).2 a' w' ab aa⟩)<|he a w ha hs
end
end Go.Sl
namespace Go.Sl
open Go.RowKit (Below)
variable{x:Operand}{v:Value}
section
variable {P:Program}{κ:Ctx}{N:Frm}{Q:Exit->Act->World->Prop}{L:Env}{I J:List Item}{ops:Array Oper}{rest:List Oper}
variable {d:Option Tmp}{ty:TypeId}{ps:String}{af:Array Edge}{gd:Option (Nat×Bool)}
theorem Runs.mkIface{T:TypeId}(M:∀w,(Instr.makeInterface T v).run P w = .ok (.iface T v) w)(hx:er L x=some v):Runs P κ N ⟨d,.makeInterface T x,ty,ps,af,gd⟩ L J (.iface T v):=
 λa w ha hs=>by simp [execOp,ha.eval hx,M,Result.andThen]
theorem Eff.invoke{f:FuncId}{dd:Nat}{t:TypeId}{rv:Value}{M:String}{xs:List Operand}{vs:List Value}{aa:Array TypeId}{Post:Value->List Item->Prop}(hf:callable P f=true)(hr:er L x=some (.iface t v))
  (hm:∀w,(method (P.types.size+Made.depth) t v M).run P w = .ok (f,rv) w) (hx:evalL L xs=some vs) (hN:Nat.blt dd N.n=true) (hc:eu P κ f (rv::vs) I Post) :
  Eff P κ N Q ⟨some dd,.call {callee:= .invoke x M,args:=xs.toArray,argTypes:=aa},ty,ps,af,gd⟩ L I λL' I''=>∃v J,Post v J/\L'=(dd,v)::L/\J=I'':=λa w ha hs=>by
 have he:(execOp a.eval ⟨some dd,.call {callee:= .invoke x M,args:=xs.toArray,argTypes:=aa},ty,ps,af,gd⟩).run P w = .ok (.enter f (rv::vs).toArray) w:=by
  simp only [execOp,resolve,ha.eval hr,Go.invoke,Sem.run_bind,Sem.run_pure,Result.andThen_ok,List.map_toArray,ha.evalL hx]
  simp [callMethod,hm,run_callFunc hf,Result.andThen]
 simp only [Oper.wp,he,Oper.upon]
 refine (hc w hs).mono λe w' ⟨v,J,ad,hp,ab⟩=>?_
 subst ad
 exact ⟨_,_,⟨v,J,hp,rfl,rfl⟩,ha.put dd hN v,ab⟩
end
end Go.Sl
namespace Go.Sl
open Go.Proofs
abbrev Aa:= @Tryz.underlying22
abbrev Ab:= @Sub.cons
abbrev Ac:= @Eff.call
abbrev Ad:= @Runs.fieldAddr
abbrev Af:= @Runs.move
abbrev Ah:= @Fit.m
abbrev Ai:= @V.ret1
abbrev Aj:= @Fit.sub
abbrev Ak:= @Fit.trans
abbrev Al:= @Eff.box
abbrev Am:= @Eff.alloc
abbrev Ao:= @Runs.pickf
abbrev Ap:= @W.ite
abbrev Ar:= @W.sr
abbrev As:= @G.nt
abbrev Au:= @Sl.f
abbrev Av:= @V.block_normal
abbrev Ax:= @Runs.ld
abbrev Ay:= @V.then
abbrev Az:= @Runs.idx
abbrev A0:= @Runs.assign
abbrev A2:= @Runs.pickt
abbrev A3:= @Eff.st
abbrev A4:= @W.drawn
abbrev A5:= @W.seq
abbrev A6:= @G.split
abbrev A7:= @Sl.o
abbrev A8:= @TabRd.fit
abbrev A9:= @V.then_exit
abbrev Ba:= @Wanted.plain
abbrev Bb:= @Fit.s
abbrev Bc:= @Tryz.underlying28
abbrev Bd:= @Tryz.underlying3
abbrev Be:= @W.region
abbrev Bf:= @W.ret
abbrev Bg:= @W.sub
abbrev Bh:= @Tryz.underlying128
abbrev Bi:= @G.nil
abbrev Bj:= @Runs.get
abbrev Bk:= @W.block
abbrev Bl:= @Runs.lds
abbrev Bm:= @Sl.fit
abbrev Bo:= @Runs.nilCheck
abbrev Bp:= @Tryz.underlying218
abbrev Bq:= @V.then_ret
abbrev Br:= @Runs.build
abbrev Bs:= @Sub.nil
abbrev Bt:= @W.skip
abbrev Bu:= @eu.pull
abbrev Bv:= @Runs.extract
abbrev Bw:= @Fit.nilvc
abbrev Bx:= @at_mem
abbrev Bz:= @Tryz.underlying207
abbrev B0:= @V.retc
abbrev B3:= @V.block_hit
abbrev B4:= @Eff.app
abbrev B5:= @V.nx
abbrev B6:= @V.block_ret
abbrev B7:= @Wanted.on
abbrev B8:= @Tryz.underlying73
abbrev B9:= @Eff.bs
abbrev Ca:= @Runs.lens
abbrev Cb:= @Runs.idxArr
abbrev Cc:= @Tryz.underlying34
abbrev Cd:= @Runs.not
abbrev Ce:= @G.splitb
abbrev Cf:= @Es2_2
abbrev Cg:= @V.mi
abbrev Ch:= @Runs.lss
abbrev Ci:= @Eff.set
abbrev Cj:= @Eff.make
abbrev Ck:= @Tryz.underlying313
abbrev Cl:= @Tryz.underlying157
abbrev Cm:= @A.hold
abbrev Cn:= @W.loop
abbrev Co:= @BlkRd.fit
abbrev Cp:= @Tryz.underlying54
abbrev Cq:= @Tryz.underlying265
abbrev Cr:= @A.ho
abbrev Cs:= @Runs.loadB
abbrev Ct:= @take_at
abbrev Cu:= @Eff.callv
abbrev Cv:= @eu.fit
abbrev Cw:= @BlkRd.of
abbrev Cx:= @at_get
abbrev Cy:= @V.ret2
abbrev Cz:= @Runs.andB
abbrev C0:= @D.step
abbrev C1:= @Tryz.underlying38
abbrev C2:= @at_set
abbrev C3:= @D.stop
abbrev C4:= @A.done
abbrev C5:= @Tryz.underlying245
abbrev C6:= @Tryz.underlying205
abbrev C7:= @W.exit
abbrev C8:= @Sl.drop
abbrev C9:= @Runs.neq
abbrev Da:= @Runs.lenT
abbrev Db:= @sumN_congr
abbrev Dc:= @Runs.neqT
abbrev Df:= @Runs.gtr
abbrev Dg:= @lookO
abbrev Dh:= @listB_zero
abbrev Di:= @Runs.lookupK
abbrev Dj:= @Runs.getf0
abbrev Dk:= @lookI
abbrev Dl:= @Es5_5
abbrev Dn:= @G.eff
abbrev Do:= @Es7_1
abbrev Dp:= @WR.region
abbrev Dq:= @listB_nodup
abbrev Ds:= @Eff.insertK
abbrev Dt:= @Runs.gets
abbrev Du:= @D.split
abbrev Dv:= @all1
abbrev D0:= @V.retc2
abbrev D1:= @Runs.andNotB
abbrev D3:= @Tryz.underlying280
abbrev D4:= @Tryz.underlying152
abbrev D5:= @V.retc1
abbrev D6:= @all2
abbrev D7:= @W.lq
abbrev D8:= @W.cond
abbrev D9:= @V.thenR
abbrev Ea:= @Runs.mkIface
abbrev Eb:= @Runs.lo
abbrev Ec:= @Runs.makeFunc
abbrev Ed:= @mem_listB
abbrev Ee:= @listB_len
abbrev Ef:= @W.no
abbrev Eg:= @Tryz.func84
abbrev Eh:= @Tryz.underlying315
abbrev Ei:= @Tryz.underlying273
abbrev Ej:= @Tryz.underlying216
abbrev Ek:= @D.read
abbrev El:= @lookV
abbrev Em:= @Sl.vec
abbrev En:= @at_append_left
abbrev Eo:= @Runs.neB
abbrev Ep:= @eu.at
abbrev Eq:= @scanL_bad
abbrev Er:= @Step2.eff
abbrev Es:= @Runs.shlB
abbrev Et:= @Fit.perm
abbrev Eu:= @drop_at
abbrev Ew:= @Tryz.underlying185
abbrev Ex:= @WR.seq
abbrev Ey:= @Runs.orB
abbrev Ez:= @Runs.fld
abbrev E0:= @Tryz.underlying4
abbrev E1:= @Runs.loraw
abbrev E3:= @Fit.takevc
abbrev E4:= @GY.read
abbrev E5:= @V.roundB
abbrev E6:= @Pt.ext_iff'
abbrev E7:= @mem_at
abbrev E8:= @W.cut
abbrev E9:= @Es6_6
abbrev Fa:= @sortZ_len
abbrev Fb:= @Runs.getf
abbrev Fc:= @Tryz.underlying263
abbrev Fd:= @Tryz.underlying172
abbrev Fe:= @Tryz.underlying118
abbrev Ff:= @Runs.geq
abbrev Fg:= @A.read
abbrev Fh:= @perm_fr
abbrev Fi:= @Tryz.underlying95
abbrev Fj:= @Es7_7
abbrev Fk:= @WR.sub
abbrev Fl:= @Sl.nil
abbrev Fm:= @rowsB_len
abbrev Fo:= @listB_lt
abbrev Fp:= @Tryz.underlying5
abbrev Fq:= @Sl.dropn
abbrev Fs:= @Runs.shrB
abbrev Ft:= @Runs.mul
abbrev Fu:= @Runs.eql
abbrev Fv:= @Fit.refl
abbrev Fw:= @Fit.appR
abbrev Fx:= @sumN_eq_zero
abbrev Fy:= @at_rep
abbrev Fz:= @Runs.getAU
abbrev F0:= @Runs.convU
abbrev F1:= @D2.step
theorem kr{p:Prop}(h:p:=by kernel_rfl):p:=h
theorem dc{p:Prop}(h:p:=by decide):p:=h
theorem lcn{p:Prop}(h:p:=by simp only [List.length_cons,List.length_nil];omega):p:=h
theorem asm{p:Prop}(h:p:=by assumption):p:=h
theorem lap{p:Prop}(h:p:=by simp only [List.length_append,List.length_cons,List.length_nil];omega):p:=h
theorem olp{p:Prop}(h:p:=by first|omega|(simp only [List.length_append,List.length_cons,List.length_nil];omega)):p:=h
theorem olr{p:Prop}(h:p:=by first|omega|(simp only [List.length_replicate];omega)):p:=h
end Go.Sl
namespace Go.Sl
open Go.Proofs
theorem ty2:tyF prog 2=some (1,false,8,[e7 (0)]):=by kernel_rfl
theorem ef:tyF prog 3=some (1,false,8,[e7 (0)]):=by kernel_rfl
theorem ty4:tyF prog 4=some (1,false,1,[.bool false]):=by kernel_rfl
theorem ty5:tyF prog 5=some (1,false,1,[.int .u8 (0)]):=by kernel_rfl
theorem ty22:tyF prog 22=some (1,false,24,[.slice none 0 0]):=by kernel_rfl
theorem ty28:tyF prog 28=some (1,false,24,[.slice none 0 0]):=by kernel_rfl
theorem ty31:tyF prog 31=some (3,true,24,[e7 (0),e7 (0),e7 (0)]):=by kernel_rfl
theorem fld31_0:fldF prog 31 0=some 0:=by kernel_rfl
theorem fld31_1:fldF prog 31 1=some 1:=by kernel_rfl
theorem ty34:tyF prog 34=some (2,true,16,[e7 (0),e7 (0)]):=by kernel_rfl
theorem fld34_0:fldF prog 34 0=some 0:=by kernel_rfl
theorem fld34_1:fldF prog 34 1=some 1:=by kernel_rfl
theorem pl34(w:World):(placesRun prog 34).run prog w = .ok #[(0,1),(1,1)] w:=by kernel_rfl
theorem ty36:tyF prog 36=some (7,true,72,[e7 (0),e7 (0),e7 (0),e7 (0),.slice none 0 0,e7 (0),e7 (0)]):=by kernel_rfl
theorem fld36_0:fldF prog 36 0=some 0:=by kernel_rfl
theorem fld36_1:fldF prog 36 1=some 1:=by kernel_rfl
theorem fld36_2:fldF prog 36 2=some 2:=by kernel_rfl
theorem fld36_3:fldF prog 36 3=some 3:=by kernel_rfl
theorem fld36_4:fldF prog 36 4=some 4:=by kernel_rfl
theorem fld36_5:fldF prog 36 5=some 5:=by kernel_rfl
theorem ty38:tyF prog 38=some (1,false,24,[.slice none 0 0]):=by kernel_rfl
theorem ty40:tyF prog 40=some (2,true,32,[e7 (0),.slice none 0 0]):=by kernel_rfl
theorem fld40_0:fldF prog 40 0=some 0:=by kernel_rfl
theorem fld40_1:fldF prog 40 1=some 1:=by kernel_rfl
theorem ty42:tyF prog 42=some (11,true,168,[.bool false,e7 (0),e7 (0),.slice none 0 0,e7 (0),e7 (0),.slice none 0 0,.slice none 0 0,.slice none 0 0,e7 (0),.slice none 0 0]):=by kernel_rfl
theorem fld42_0:fldF prog 42 0=some 0:=by kernel_rfl
theorem fld42_1:fldF prog 42 1=some 1:=by kernel_rfl
theorem fld42_3:fldF prog 42 3=some 3:=by kernel_rfl
theorem fld42_4:fldF prog 42 4=some 4:=by kernel_rfl
theorem fld42_5:fldF prog 42 5=some 6:=by kernel_rfl
theorem fld42_6:fldF prog 42 6=some 7:=by kernel_rfl
theorem fld42_7:fldF prog 42 7=some 8:=by kernel_rfl
theorem fld42_8:fldF prog 42 8=some 9:=by kernel_rfl
theorem pl42(w:World):(placesRun prog 42).run prog w = .ok #[(0,1),(1,1),(2,1),(3,1),(4,2),(6,1),(7,1),(8,1),(9,2)] w:=by kernel_rfl
theorem ty43:tyF prog 43=some (1,false,8,[e7 (0)]):=by kernel_rfl
theorem ty51:tyF prog 51=some (2,true,16,[e7 (0),e7 (0)]):=by kernel_rfl
theorem pl51(w:World):(placesRun prog 51).run prog w = .ok #[(0,1),(1,1)] w:=by kernel_rfl
theorem ty54:tyF prog 54=some (1,false,24,[.slice none 0 0]):=by kernel_rfl
theorem ty56:tyF prog 56=some (2,true,32,[e7 (0),.slice none 0 0]):=by kernel_rfl
theorem fld56_0:fldF prog 56 0=some 0:=by kernel_rfl
theorem fld56_1:fldF prog 56 1=some 1:=by kernel_rfl
theorem ty63:tyF prog 63=some (7,true,56,[e7 (0),e7 (0),e7 (0),e7 (0),e7 (0),e7 (0),e7 (0)]):=by kernel_rfl
theorem fld63_1:fldF prog 63 1=some 1:=by kernel_rfl
theorem fld63_3:fldF prog 63 3=some 3:=by kernel_rfl
theorem fld63_5:fldF prog 63 5=some 5:=by kernel_rfl
theorem fld63_6:fldF prog 63 6=some 6:=by kernel_rfl
theorem ty76:tyF prog 76=some (5,true,56,[e7 (0),.slice none 0 0,e7 (0),e7 (0),e7 (0)]):=by kernel_rfl
theorem pl76(w:World):(placesRun prog 76).run prog w = .ok #[(0,1),(1,1),(2,3)] w:=by kernel_rfl
theorem ty95:tyF prog 95=some (2,true,16,[e7 (0),e7 (0)]):=by kernel_rfl
theorem fld95_0:fldF prog 95 0=some 0:=by kernel_rfl
theorem fld95_1:fldF prog 95 1=some 1:=by kernel_rfl
theorem ty98:tyF prog 98=some (5,true,5,[.bool false,.bool false,.bool false,.bool false,.bool false]):=by kernel_rfl
theorem fld98_0:fldF prog 98 0=some 0:=by kernel_rfl
theorem fld98_1:fldF prog 98 1=some 1:=by kernel_rfl
theorem fld98_2:fldF prog 98 2=some 2:=by kernel_rfl
theorem fld98_3:fldF prog 98 3=some 3:=by kernel_rfl
theorem fld98_4:fldF prog 98 4=some 4:=by kernel_rfl
theorem pl98(w:World):(placesRun prog 98).run prog w = .ok #[(0,1),(1,1),(2,1),(3,1),(4,1)] w:=by kernel_rfl
theorem ty115:tyF prog 115=some (2,true,16,[e7 (0),.bool false]):=by kernel_rfl
theorem fld115_0:fldF prog 115 0=some 0:=by kernel_rfl
theorem ty118:tyF prog 118=some (5,true,72,[.slice none 0 0,e7 (0),e7 (0),e7 (0),.slice none 0 0]):=by kernel_rfl
theorem fld118_0:fldF prog 118 0=some 0:=by kernel_rfl
theorem fld118_1:fldF prog 118 1=some 1:=by kernel_rfl
end Go.Sl
namespace Go.Sl
open Go.Proofs
theorem pl118(w:World):(placesRun prog 118).run prog w = .ok #[(0,1),(1,2),(3,2)] w:=by kernel_rfl
theorem ty128:tyF prog 128=some (1,false,24,[.slice none 0 0]):=by kernel_rfl
theorem ty130:tyF prog 130=some (2,true,32,[e7 (0),.slice none 0 0]):=by kernel_rfl
theorem fld130_1:fldF prog 130 1=some 1:=by kernel_rfl
theorem pl130(w:World):(placesRun prog 130).run prog w = .ok #[(0,1),(1,1)] w:=by kernel_rfl
theorem ty152:tyF prog 152=some (1,false,8,[.int .u64 (0)]):=by kernel_rfl
theorem ty169:tyF prog 169=some (2,true,32,[.int .u64 (0),.slice none 0 0]):=by kernel_rfl
theorem fld169_0:fldF prog 169 0=some 0:=by kernel_rfl
theorem fld169_1:fldF prog 169 1=some 1:=by kernel_rfl
theorem pl169(w:World):(placesRun prog 169).run prog w = .ok #[(0,1),(1,1)] w:=by kernel_rfl
theorem ty172:tyF prog 172=some (6,true,112,[.slice none 0 0,.slice none 0 0,.slice none 0 0,.slice none 0 0,.int .u64 (0),.int .u64 (0)]):=by kernel_rfl
theorem fld172_0:fldF prog 172 0=some 0:=by kernel_rfl
theorem fld172_1:fldF prog 172 1=some 1:=by kernel_rfl
theorem fld172_2:fldF prog 172 2=some 2:=by kernel_rfl
theorem fld172_3:fldF prog 172 3=some 3:=by kernel_rfl
theorem fld172_4:fldF prog 172 4=some 4:=by kernel_rfl
theorem fld172_5:fldF prog 172 5=some 5:=by kernel_rfl
theorem pl172(w:World):(placesRun prog 172).run prog w = .ok #[(0,1),(1,1),(2,1),(3,1),(4,1),(5,1)] w:=by kernel_rfl
theorem ty180:tyF prog 180=some (2,true,48,[.slice none 0 0,.slice none 0 0]):=by kernel_rfl
theorem pl180(w:World):(placesRun prog 180).run prog w = .ok #[(0,1),(1,1)] w:=by kernel_rfl
theorem ty181:tyF prog 181=some (2,true,48,[.slice none 0 0,.slice none 0 0]):=by kernel_rfl
theorem pl181(w:World):(placesRun prog 181).run prog w = .ok #[(0,1),(1,1)] w:=by kernel_rfl
theorem ty183:tyF prog 183=some (5,true,72,[.slice none 0 0,e7 (0),e7 (0),e7 (0),.slice none 0 0]):=by kernel_rfl
theorem pl183(w:World):(placesRun prog 183).run prog w = .ok #[(0,5)] w:=by kernel_rfl
theorem ty185:tyF prog 185=some (0,true,0,[]):=by kernel_rfl
theorem ty192:tyF prog 192=some (6,true,48,[e7 (0),e7 (0),e7 (0),e7 (0),e7 (0),e7 (0)]):=by kernel_rfl
theorem fld192_1:fldF prog 192 1=some 1:=by kernel_rfl
theorem ty205:tyF prog 205=some (1,false,24,[.slice none 0 0]):=by kernel_rfl
theorem ty207:tyF prog 207=some (2,true,16,[e7 (0),e7 (0)]):=by kernel_rfl
theorem ty218:tyF prog 218=some (1,false,24,[.slice none 0 0]):=by kernel_rfl
theorem ty228:tyF prog 228=some (1,false,8,[.nilFunc]):=by kernel_rfl
theorem ty235:tyF prog 235=some (3,true,56,[e7 (0),.slice none 0 0,.slice none 0 0]):=by kernel_rfl
theorem fld235_0:fldF prog 235 0=some 0:=by kernel_rfl
theorem fld235_1:fldF prog 235 1=some 2:=by kernel_rfl
theorem pl235(w:World):(placesRun prog 235).run prog w = .ok #[(0,2),(2,1)] w:=by kernel_rfl
theorem ty245:tyF prog 245=some (64,true,512,[.int .u64 (0),.int .u64 (0),.int .u64 (0),.int .u64 (0),.int .u64 (0),.int .u64 (0),.int .u64 (0),.int .u64 (0),.int .u64 (0),.int .u64 (0),.int .u64 (0),.int .u64 (0),.int .u64 (0),.int .u64 (0),.int .u64 (0),.int .u64 (0),.int .u64 (0),.int .u64 (0),.int .u64 (0),.int .u64 (0),.int .u64 (0),.int .u64 (0),.int .u64 (0),.int .u64 (0),.int .u64 (0),.int .u64 (0),.int .u64 (0),.int .u64 (0),.int .u64 (0),.int .u64 (0),.int .u64 (0),.int .u64 (0),.int .u64 (0),.int .u64 (0),.int .u64 (0),.int .u64 (0),.int .u64 (0),.int .u64 (0),.int .u64 (0),.int .u64 (0),.int .u64 (0),.int .u64 (0),.int .u64 (0),.int .u64 (0),.int .u64 (0),.int .u64 (0),.int .u64 (0),.int .u64 (0),.int .u64 (0),.int .u64 (0),.int .u64 (0),.int .u64 (0),.int .u64 (0),.int .u64 (0),.int .u64 (0),.int .u64 (0),.int .u64 (0),.int .u64 (0),.int .u64 (0),.int .u64 (0),.int .u64 (0),.int .u64 (0),.int .u64 (0),.int .u64 (0)]):=by kernel_rfl
theorem ty280:tyF prog 280=some (1,false,24,[.slice none 0 0]):=by kernel_rfl
theorem ty282:tyF prog 282=some (4,true,48,[e7 (0),e7 (0),e7 (0),.slice none 0 0]):=by kernel_rfl
theorem fld282_0:fldF prog 282 0=some 0:=by kernel_rfl
theorem fld282_2:fldF prog 282 2=some 2:=by kernel_rfl
theorem fld282_3:fldF prog 282 3=some 3:=by kernel_rfl
theorem pl282(w:World):(placesRun prog 282).run prog w = .ok #[(0,1),(1,1),(2,1),(3,1)] w:=by kernel_rfl
end Go.Sl
namespace Go.Sl
open Go.Proofs
theorem ty284:tyF prog 284=some (3,true,24,[e7 (0),e7 (0),e7 (0)]):=by kernel_rfl
theorem fld284_0:fldF prog 284 0=some 0:=by kernel_rfl
theorem fld284_1:fldF prog 284 1=some 1:=by kernel_rfl
theorem fld284_2:fldF prog 284 2=some 2:=by kernel_rfl
theorem pl284(w:World):(placesRun prog 284).run prog w = .ok #[(0,1),(1,1),(2,1)] w:=by kernel_rfl
theorem ty312:tyF prog 312=some (4,true,32,[e7 (0),e7 (0),e7 (0),e7 (0)]):=by kernel_rfl
theorem fld312_0:fldF prog 312 0=some 0:=by kernel_rfl
theorem fld312_1:fldF prog 312 1=some 3:=by kernel_rfl
theorem pl312(w:World):(placesRun prog 312).run prog w = .ok #[(0,3),(3,1)] w:=by kernel_rfl
theorem ty313:tyF prog 313=some (1,false,24,[.slice none 0 0]):=by kernel_rfl
theorem ty315:tyF prog 315=some (5,true,104,[.slice none 0 0,.slice none 0 0,.slice none 0 0,.slice none 0 0,e7 (0)]):=by kernel_rfl
theorem fld315_0:fldF prog 315 0=some 0:=by kernel_rfl
theorem fld315_1:fldF prog 315 1=some 1:=by kernel_rfl
theorem fld315_2:fldF prog 315 2=some 2:=by kernel_rfl
theorem fld315_3:fldF prog 315 3=some 3:=by kernel_rfl
theorem fld315_4:fldF prog 315 4=some 4:=by kernel_rfl
theorem pl315(w:World):(placesRun prog 315).run prog w = .ok #[(0,1),(1,1),(2,1),(3,1),(4,1)] w:=by kernel_rfl
theorem c_{f:Nat}(h:callable prog f=true:=by kernel_rfl):callable prog f=true:=h
end Go.Sl
namespace Go.Sl
open Go.Proofs
theorem mixed:prog.follows .mixedOrders=true:=by kernel_rfl
end Go.Sl

