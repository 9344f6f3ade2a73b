/- A part of the proofs of statements of this seat: contracts of functions, and the plain laws that they lean on. No conditions. -/
import Derived.Test.YtoagcglbkeomgaaGreatDoorS3
set_option linter.unusedVariables false
set_option linter.unusedSimpArgs false
set_option linter.unusedSectionVars false
namespace Go.Sl
variable{d k nd u v:Int}{left m:BitVec 64}{es:List Pt}{ws:List Int}{j:Nat}
theorem mem_andB{a b:BitVec 64}:u∈eo (a &&& b)↔u∈eo a/\u∈eo b:=by
 simp only [mem_listB,BitVec.getLsbD_and,Bool.and_eq_true]
 constructor
 ·rintro ⟨Z,h2,M⟩;exact ⟨⟨Z,h2⟩,Z,M⟩
 rintro ⟨⟨Z,h2⟩,_,M⟩;exact ⟨Z,h2,M⟩
theorem listB_lt(h:u∈eo m):0<=u/\u<64:=by
 rw [mem_listB] at h
 refine ⟨h.1,Classical.byContradiction λhn=>?_⟩
 rw [BitVec.getLsbD_of_ge _ _ (by omega)] at h
 exact absurd h.2<|by simp
theorem mem_orbit(M:0<=k)(Z:k<64):u∈eo (m ||| 1#64 <<< k.toNat)↔u∈eo m\/u=k:=by
 constructor
 ·intro h
  have hu:=listB_lt h
  rw [mem_listB,BitVec.getLsbD_or,getLsb_shl _ _<|by omega,Bool.or_eq_true,decide_eq_true_eq] at h
  rw [mem_listB]
  rcases h.2 with h2|h2
  ·exact .inl ⟨h.1,h2⟩
  exact .inr<|by omega
 intro h
 have hu:0<=u/\u<64:=h.elim listB_lt λh=>by omega
 rw [mem_listB,BitVec.getLsbD_or,getLsb_shl _ _<|by omega,Bool.or_eq_true,decide_eq_true_eq]
 rw [mem_listB] at h
 exact ⟨hu.1,h.elim (λh=> .inl h.2) λh=> .inr<|by omega⟩
theorem mem_minus(h0:0<=k):u∈eo (m &&& ~~~(1#64 <<< k.toNat))↔u∈eo m/\u≠k:=by
 constructor
 ·intro h
  have hu:=listB_lt h
  rw [mem_listB,BitVec.getLsbD_and,BitVec.getLsbD_not,getLsb_shl _ _<|by omega,Bool.and_eq_true] at h
  rw [mem_listB]
  refine ⟨⟨h.1,h.2.1⟩,λe=>?_⟩
  have Z:=h.2.2
  rw [e] at Z
  simp at Z
 rintro ⟨h,M⟩
 have hu:=listB_lt h
 rw [mem_listB] at h
 rw [mem_listB,BitVec.getLsbD_and,BitVec.getLsbD_not,getLsb_shl _ _<|by omega,Bool.and_eq_true]
 refine ⟨h.1,h.2,?_⟩
 rw [decide_eq_false (show ¬k.toNat=u.toNat by omega)]
 simp;omega
theorem listB_nodup(m:BitVec 64):(eo m).Nodup:=(listB_asc m).imp λh=>by omega
theorem listB_perm(h:k∈eo m):(eo m).Perm (k::eo (m &&& ~~~(1#64 <<< k.toNat))):=by
 have Z:=(listB_lt h).1
 refine (List.perm_ext_iff_of_nodup (listB_nodup _)<|List.nodup_cons.2 ⟨λe=>((mem_minus Z).1 e).2 rfl,listB_nodup _⟩).2 λu=>?_
 rw [List.mem_cons,mem_minus Z]
 by_cases e:u=k
 ·subst e;simp [h]
 simp [e]
theorem listB_minus(h:k∈eo m):(eo m).length=(eo (m &&& ~~~(1#64 <<< k.toNat))).length+1:=(listB_perm h).length_eq
theorem minus_same(Z:0<=k)(h:k∉eo m):(eo (m &&& ~~~(1#64 <<< k.toNat))).length=(eo m).length:=by
 refine ((List.perm_ext_iff_of_nodup (listB_nodup _)<|listB_nodup _).2 λu=>?_).length_eq
 rw [mem_minus Z]
 exact ⟨λh=>h.1,λhu=>⟨hu,λe=>h<|e▸hu⟩⟩
theorem nz_listB:m≠0#64↔∃u,u∈eo m:=by
 constructor
 ·intro h;exact ⟨_,by rw [listB_step h];exact List.mem_cons_self⟩
 rintro ⟨u,hu⟩ rfl
 rw [listB_zero] at hu;cases hu
theorem tzB_le(h:m≠0#64):tzB m∈eo m/\∀u∈eo m,tzB m<=u:=by
 have e:=listB_step h
 refine ⟨by rw [e];exact List.mem_cons_self,λu hu=>?_⟩
 have Z:=listB_asc m
 rw [e] at Z hu
 rcases List.mem_cons.1 hu with rfl|hu
 ·exact Int.le_refl _
 have:=(List.pairwise_cons.1 Z).1 u hu;omega
def degB(rows:List (BitVec 64))(left:BitVec 64)(v:Int):Nat:=(eo (e_ rows v &&& left)).length
structure Takes (rows:List (BitVec 64)) (left:BitVec 64) (v:Int):Prop where
 mem:v∈eo left
 le:∀u∈eo left,degB rows left v<degB rows left u\/(degB rows left v=degB rows left u/\v<=u)
theorem Takes.uniq{rows:List (BitVec 64)}{Z:Int}(h:Takes rows left v)(M:Takes rows left Z):v=Z:=by
 have a:=h.le Z M.mem
 have b:=M.le v h.mem
 omega
theorem fold_least(f:Int->Nat):∀(l:List Int) (b:Int),(∀u∈l,b<=u)->l.Pairwise (· < ·)->
    ((l.foldl (λb v=>if f v<f b then v else b) b=b\/l.foldl (λb v=>if f v<f b then v else b) b∈l)/\
     (f (l.foldl (λb v=>if f v<f b then v else b) b)<f b\/l.foldl (λb v=>if f v<f b then v else b) b=b)/\
     ∀u∈l,f (l.foldl (λb v=>if f v<f b then v else b) b)<f u\/(f (l.foldl (λb v=>if f v<f b then v else b) b)=f u/\l.foldl (λb v=>if f v<f b then v else b) b<=u))
  |[],b,_,_=>⟨.inl rfl,.inr rfl,λu hu=>by cases hu⟩
  |x::xs,b,hb,hp=>by
    obtain ⟨hx,aa⟩:=List.pairwise_cons.1 hp
    have ab:=hb x List.mem_cons_self
    rw [List.foldl_cons]
    by_cases hc:f x<f b
    · rw [if_pos hc]
      obtain ⟨M,Z,h3⟩:=fold_least f xs x (λu hu=>by have:=hx u hu;omega) aa
      generalize xs.foldl (λb v=>if f v<f b then v else b) x=r at M Z h3
      refine ⟨.inr<|M.elim (λe=>e▸List.mem_cons_self) λh=>List.mem_cons_of_mem _ h,.inl<|Z.elim (λh=>by omega) λh=>by rw [h];exact hc,λu hu=>?_⟩
      rcases List.mem_cons.1 hu with rfl|hu
      · exact Z.elim .inl λh=> .inr ⟨by rw [h],by omega⟩
      · exact h3 u hu
    · rw [if_neg hc]
      obtain ⟨M,Z,h3⟩:=fold_least f xs b (λu hu=>hb u<|List.mem_cons_of_mem _ hu) aa
      generalize xs.foldl (λb v=>if f v<f b then v else b) b=r at M Z h3
      refine ⟨M.imp_right λh=>List.mem_cons_of_mem _ h,Z,λu hu=>?_⟩
      rcases List.mem_cons.1 hu with rfl|hu
      · rcases Z with h|h
        · exact .inl (by omega)
        · rw [h];omega
      · exact h3 u hu
def takeF(rows:List (BitVec 64))(left:BitVec 64):Int:=(eo left).foldl (λb v=>if degB rows left v<degB rows left b then v else b) ((eo left).headD 0)
theorem takeF_takes{rows:List (BitVec 64)}(h:left≠0#64):Takes rows left (takeF rows left):=by
 have e:=listB_step h
 have ha:=listB_asc left
 unfold takeF
 have M:(eo left).headD 0=tzB left:=by rw [e];rfl
 rw [M]
 obtain ⟨h1,_,Z⟩:=fold_least (degB rows left) (eo left) (tzB left) (tzB_le h).2 ha
 refine ⟨?_,Z⟩
 rcases h1 with h1|h1
 ·rw [h1];exact (tzB_le h).1
 exact h1
def coreF(rows:List (BitVec 64)):Nat->BitVec 64->Nat->List (Int×Nat)
 |0,_,_=>[]
 |n+1,left,k=>(takeF rows left,max k<|degB rows left<|takeF rows left)::coreF rows n (left &&& ~~~(1#64 <<< (takeF rows left).toNat)) (max k<|degB rows left<|takeF rows left)
def coreR(rows:List (BitVec 64))(left:BitVec 64)(k:Nat):List (Int×Nat):=coreF rows (eo left).length left k
theorem coreR_zero(rows:List (BitVec 64))(k:Nat):coreR rows 0#64 k=[]:=by unfold coreR;rw [listB_zero];rfl
theorem coreR_step{rows:List (BitVec 64)}{k:Nat}(h:Takes rows left v):coreR rows left k=(v,max k (degB rows left v))::coreR rows (left &&& ~~~(1#64 <<< v.toNat)) (max k (degB rows left v)):=by
 have hv:takeF rows left=v:=(takeF_takes<|nz_listB.2 ⟨v,h.mem⟩).uniq h
 unfold coreR
 rw [listB_minus h.mem]
 show (takeF rows left,_)::_=_
 rw [hv]
def ordL(l:List (Int×Nat)):List Int:=l.map λp=>p.1
def numL(n:Nat)(l:List (Int×Nat)):List Int:=l.foldl (λxs p=>xs.set p.1.toNat (p.2:Int)) (List.replicate n 0)
theorem numL_len(n:Nat)(l:List (Int×Nat)):(numL n l).length=n:=by
 unfold numL
 have:∀(l:List (Int×Nat)) (xs:List Int),(l.foldl (λxs p=>xs.set p.1.toNat (p.2:Int)) xs).length=xs.length:=λl=>by
  induction l with
  |nil=>intro xs;rfl
  |cons p l ih=>intro xs;rw [List.foldl_cons,ih,List.length_set]
 rw [this,List.length_replicate]
theorem numL_snoc(n:Nat)(l:List (Int×Nat))(v:Int)(k:Nat):numL n (l++[(v,k)])=(numL n l).set v.toNat (k:Int):=by
 unfold numL;rw [List.foldl_append];rfl
theorem ordL_snoc(l:List (Int×Nat))(v:Int)(k:Nat):ordL (l++[(v,k)])=ordL l++[v]:=by
 unfold ordL;rw [List.map_append];rfl
theorem coreF_bound{rows:List (BitVec 64)}{m:Nat}(Z:∀left v,degB rows left v<=m):∀(n:Nat) (left:BitVec 64) (k:Nat),k<=m->∀p∈coreF rows n left k,p.2<=m
 |0,_,_,_,p,hp=>by cases hp
 |n+1,left,k,hk,p,hp=>by
  have M:=Z left (takeF rows left)
  rcases List.mem_cons.1 hp with rfl|hp
  ·show max k _<=m;omega
  exact coreF_bound Z n _ _ (by omega) p hp
structure SymB (n:Nat) (rows:List (BitVec 64)):Prop where
 len:rows.length=n
 le:n<=64
 lt:∀u v:Int,0<=u->u<n->v∈eo (e_ rows u)->v<n
 sym:∀u v:Int,0<=u->u<n->v∈eo (e_ rows u)->u∈eo (e_ rows v)
 irr:∀u:Int,0<=u->u<n->u∉eo (e_ rows u)
theorem RowsOk.mem{rows:List (BitVec 64)}(h:RowsOk nd es rows)(u0:0<=u)(M:u<nd):v∈eo (e_ rows u)↔(0<=v/\v<64)/\((⟨u,v⟩:Pt)∈es\/(⟨v,u⟩:Pt)∈es):=by
 constructor
 ·intro hv
  have Z:=listB_lt hv
  rw [mem_listB,h.bit u v u0 M Z.1 Z.2,decide_eq_true_eq] at hv
  exact ⟨Z,hv.2⟩
 rintro ⟨Z,hv⟩
 rw [mem_listB,h.bit u v u0 M Z.1 Z.2,decide_eq_true_eq]
 exact ⟨Z.1,hv⟩
theorem RowsOk.symB{rows:List (BitVec 64)}(h:RowsOk nd es rows)(hG:GrOk nd es):SymB nd.toNat rows:=by
 have hr:=hG.rng
 have hl:=h.len
 have M:∀a b:Int,((⟨a,b⟩:Pt)∈es)->0<=a/\a<b/\b<nd:=λa b hm=>hG.edge _ hm
 refine ⟨by omega,by omega,λu v Z u1 hv=>?_,λu v Z u1 hv=>?_,λu Z u1 hv=>?_⟩
 ·have:=((h.mem Z<|by omega).1 hv).2
  rcases this with e|e<;>have:=M _ _ e<;>omega
 ·obtain ⟨h1,h2⟩:=(h.mem Z<|by omega).1 hv
  have h3:v<nd:=by rcases h2 with e|e<;>have:=M _ _ e<;>omega
  exact (h.mem h1.1 h3).2 ⟨⟨Z,by omega⟩,h2.symm⟩
 have:=((h.mem Z<|by omega).1 hv).2
 rcases this with e|e<;>have:=M _ _ e<;>omega
section
variable {n:Nat}{rows:List (BitVec 64)}
theorem degB_lt(h:SymB n rows)(left:BitVec 64)(v0:0<=v)(M:v<n):degB rows left v<n:=by
 unfold degB
 have hs:(v::eo (e_ rows v &&& left)).Nodup:=List.nodup_cons.2 ⟨λhm=>h.irr v v0 M (mem_andB.1 hm).1,listB_nodup _⟩
 have Z:∀x∈(v::eo (e_ rows v &&& left)),x∈(List.range n).map fun (i:Nat)=>(i:Int):=λx hx=>by
  rw [List.mem_map]
  rcases List.mem_cons.1 hx with rfl|hx
  ·exact ⟨x.toNat,List.mem_range.2<|by omega,by omega⟩
  have h1:=(mem_andB.1 hx).1
  have h2:=h.lt v x v0 M h1
  have h3:=(listB_lt h1).1
  exact ⟨x.toNat,List.mem_range.2<|by omega,by omega⟩
 have:=List.Nodup.length_le_of_subset hs Z
 rw [List.length_map,List.length_range,List.length_cons] at this
 omega
theorem degB_minus(h:SymB n rows)(u0:0<=u)(u1:u<n)(Z:0<=v)(M:v<n)(hv:v∈eo left) :
  degB rows left u=degB rows (left &&& ~~~(1#64 <<< v.toNat)) u+if u∈eo (e_ rows v) then 1 else 0:=by
 unfold degB
 rw [←BitVec.and_assoc]
 by_cases hm:u∈eo (e_ rows v)
 ·rw [if_pos hm]
  exact listB_minus<|mem_andB.2 ⟨h.sym v u Z M hm,hv⟩
 rw [if_neg hm]
 exact (minus_same Z λe=>hm<|h.sym u v u0 u1 (mem_andB.1 e).1).symm
end
structure BkOk (n:Nat) (S:Int->Prop) (dg:Int->Nat) (dgs:List Int) (bks:List (BitVec 64)):Prop where
 dlen:dgs.length=n
 blen:bks.length=64
 rng:∀u,S u->0<=u/\u<n
 deg:∀u,S u->e_ dgs u=(dg u:Int)
 bkt:∀d:Int,0<=d->d<64->∀u:Int,u∈eo (e_ bks d)↔S u/\(dg u:Int)=d
section
variable {n:Nat}{S S':Int->Prop}{dg dg':Int->Nat}{dgs:List Int}{bks:List (BitVec 64)}
theorem BkOk.start(n:Nat)(dg:Int->Nat):BkOk n (λu=>0<=u/\u<((0:Nat):Int)) dg (List.replicate n 0) (List.replicate 64 0#64):=
 ⟨List.length_replicate,List.length_replicate,λu hu=>by omega,λu hu=>by omega,λd Z M u=>by
  rw [at_rep64,listB_zero]
  exact ⟨(λh=>by cases h),λh=>by omega⟩⟩
theorem BkOk.congr(h:BkOk n S dg dgs bks)(M:∀u,S' u↔S u)(hd:∀u,S u->dg' u=dg u):BkOk n S' dg' dgs bks:=
 ⟨h.dlen,h.blen,λu hu=>h.rng u ((M u).1 hu),λu hu=>by rw [h.deg u ((M u).1 hu),hd u ((M u).1 hu)],λd d0 d1 u=>by
  rw [h.bkt d d0 d1 u,M]
  constructor
  ·rintro ⟨Z,h2⟩;exact ⟨Z,by rw [hd u Z];exact h2⟩
  rintro ⟨Z,h2⟩;exact ⟨Z,by rw [←hd u Z];exact h2⟩⟩
theorem BkOk.push(h:BkOk n S dg dgs bks){c:Int}(v0:0<=v)(v1:v<n)(hn:n<=64)(hS:∀u,S' u↔S u\/u=v)(hv:¬S v)(hc:c=(dg v:Int))(c1:c<64) :
  BkOk n S' dg (dgs.set v.toNat c) (bks.set c.toNat<|e_ bks c ||| 1#64 <<< v.toNat):=by
 have ab:=h.blen
 have aa:=h.dlen
 refine ⟨by rw [List.length_set];exact aa,by rw [List.length_set];exact ab,λu hu=>?_,λu hu=>?_,λd d0 d1 u=>?_⟩
 ·rcases (hS u).1 hu with hu|rfl
  ·exact h.rng u hu
  exact ⟨v0,v1⟩
 ·have hr:0<=u:=((hS u).1 hu).elim (λhu=>(h.rng u hu).1) λe=>by omega
  rw [at_set _ v u _ v0 hr (by omega)]
  rcases (hS u).1 hu with hu|rfl
  ·rw [if_neg (λe=>hv<|by rw [e];exact hu)];exact h.deg u hu
  rw [if_pos rfl,hc]
 rw [at_set _ c d _ (by omega) d0 (by omega),hS]
 by_cases e:c=d
 ·rw [if_pos e,mem_orbit v0<|by omega,e,h.bkt d d0 d1]
  constructor
  ·rintro (⟨M,Z⟩|rfl)
   ·exact ⟨.inl M,Z⟩
   exact ⟨.inr rfl,by omega⟩
  rintro ⟨M|rfl,Z⟩
  ·exact .inl ⟨M,Z⟩
  exact .inr rfl
 rw [if_neg e,h.bkt d d0 d1]
 constructor
 ·rintro ⟨M,Z⟩;exact ⟨.inl M,Z⟩
 rintro ⟨M|rfl,Z⟩
 ·exact ⟨M,Z⟩
 exact absurd (hc.trans Z) e
theorem BkOk.drop(h:BkOk n S dg dgs bks)(hv:S v)(hd:(dg v:Int)=d)(d1:d<64)(hS:∀u,S' u↔S u/\u≠v) :
  BkOk n S' dg dgs (bks.set d.toNat<|e_ bks d &&& ~~~(1#64 <<< v.toNat)):=by
 have aa:=h.blen
 have hr:=h.rng v hv
 refine ⟨h.dlen,by rw [List.length_set];exact aa,λu hu=>h.rng u ((hS u).1 hu).1,λu hu=>h.deg u ((hS u).1 hu).1,λc c0 c1 u=>?_⟩
 rw [at_set _ d c _ (by omega) c0 (by omega),hS]
 by_cases e:d=c
 ·rw [if_pos e,mem_minus hr.1,e,h.bkt c c0 c1]
  constructor
  ·rintro ⟨⟨M,Z⟩,h3⟩;exact ⟨⟨M,h3⟩,Z⟩
  rintro ⟨⟨M,h3⟩,Z⟩;exact ⟨⟨M,Z⟩,h3⟩
 rw [if_neg e,h.bkt c c0 c1]
 constructor
 ·rintro ⟨M,Z⟩;exact ⟨⟨M,λe2=>e<|by subst e2;omega⟩,Z⟩
 rintro ⟨⟨M,_⟩,Z⟩;exact ⟨M,Z⟩
theorem BkOk.lower(h:BkOk n S dg dgs bks)(hn:n<=64){w e:Int}(Z:S w)(he:(dg w:Int)=e)(e0:1<=e)(e1:e<64)(hd:∀u,S u->dg' u=if u=w then dg u - 1 else dg u) :
  BkOk n S dg' (dgs.set w.toNat<|e - 1) ((bks.set e.toNat<|e_ bks e &&& ~~~(1#64 <<< w.toNat)).set (e - 1).toNat (e_ (bks.set e.toNat<|e_ bks e &&& ~~~(1#64 <<< w.toNat)) (e - 1) ||| 1#64 <<< w.toNat)):=by
 have hr:=h.rng w Z
 have h1:BkOk n (λu=>S u/\u≠w) dg dgs _:=h.drop Z he e1 (S':=λu=>S u/\u≠w) λu=>Iff.rfl
 have h2:BkOk n (λu=>S u/\u≠w) dg' dgs _:=h1.congr (λu=>Iff.rfl) λu hu=>by rw [hd u hu.1,if_neg hu.2]
 have M:=hd w Z
 rw [if_pos rfl] at M
 refine (h2.push (S':=S) hr.1 hr.2 hn (λu=>?_) (λh=>h.2 rfl) (by omega) (by omega):BkOk n S dg' (dgs.set w.toNat<|e - 1) _)
 constructor
 ·intro hu
  by_cases e:u=w
  ·exact .inr e
  exact .inl ⟨hu,e⟩
 rintro (hu|rfl)
 ·exact hu.1
 exact Z
theorem BkOk.takes{rows:List (BitVec 64)}(h:BkOk n (λu=>u∈eo left) (degB rows left) dgs bks)(d0:0<=d)(M:d<64)(hd:e_ bks d≠0#64)(hlt:∀c:Int,0<=c->c<d->e_ bks c=0#64)(Z:∀u∈eo left,degB rows left u<64) :
  Takes rows left (tzB<|e_ bks d)/\(degB rows left (tzB<|e_ bks d):Int)=d:=by
 obtain ⟨h1,h2⟩:=tzB_le hd
 obtain ⟨h3,h4⟩:=(h.bkt d d0 M _).1 h1
 refine ⟨⟨h3,λu hu=>?_⟩,h4⟩
 have hb:=Z u hu
 rcases Int.lt_trichotomy (degB rows left u:Int) d with h5|h5|h5
 ·have h6:=(h.bkt (degB rows left u:Int) (by omega) (by omega) u).2 ⟨hu,rfl⟩
  rw [hlt _ (by omega) h5,listB_zero] at h6
  cases h6
 ·exact .inr ⟨by omega,h2 u<|(h.bkt d d0 M u).2 ⟨hu,h5⟩⟩
 exact .inl<|by omega
theorem BkOk.some{rows:List (BitVec 64)}(h:BkOk n (λu=>u∈eo left) (degB rows left) dgs bks)(hl:left≠0#64)(Z:∀u∈eo left,degB rows left u<64)(hz:∀c:Int,0<=c->c<64->e_ bks c=0#64):False:=by
 obtain ⟨u,hu⟩:=nz_listB.1 hl
 have hb:=Z u hu
 have M:=(h.bkt (degB rows left u:Int) (by omega) (by omega) u).2 ⟨hu,rfl⟩
 rw [hz _ (by omega) (by omega),listB_zero] at M
 cases M
end
def degM(rows:List (BitVec 64))(left:BitVec 64)(ws:List Int)(j:Nat)(u:Int):Nat:=if u∈ws.take j then degB rows left u - 1 else degB rows left u
theorem degM_zero(rows:List (BitVec 64))(left:BitVec 64)(ws:List Int)(u:Int):degM rows left ws 0 u=degB rows left u:=by unfold degM;rw [if_neg (by simp)]
theorem degM_succ{rows:List (BitVec 64)}(M:j<ws.length)(hn:ws.Nodup)(u:Int):degM rows left ws (j+1) u=if u=e_ ws j then degM rows left ws j u - 1 else degM rows left ws j u:=by
 have Z:e_ ws j∉ws.take j:=by
  rw [at_get ws j M]
  intro hm
  obtain ⟨i,hi,e⟩:=List.mem_iff_getElem.1 hm
  rw [List.length_take] at hi
  rw [List.getElem_take] at e
  exact (List.pairwise_iff_getElem.1 hn) i j (by omega) M (by omega) e
 unfold degM
 rw [take_at ws j M]
 simp only [List.mem_append,List.mem_singleton]
 by_cases e:u=e_ ws j
 ·subst e
  rw [if_pos (.inr rfl),if_pos rfl,if_neg Z]
 rw [if_neg e]
 by_cases h2:u∈ws.take j
 ·rw [if_pos (.inl h2),if_pos h2]
 rw [if_neg (by rintro (h3|h3);exact h2 h3;exact e h3),if_neg h2]
theorem degM_now{rows:List (BitVec 64)}(M:j<ws.length)(hn:ws.Nodup):degM rows left ws j (e_ ws j)=degB rows left (e_ ws j):=by
 have h1:=degM_succ (rows:=rows) (left:=left) M hn (e_ ws j)
 rw [if_pos rfl] at h1
 unfold degM at h1 ⊢
 split
 ·rename_i h2
  have Z:e_ ws j∉ws.take j:=by
   rw [at_get ws j M]
   intro hm
   obtain ⟨i,hi,e⟩:=List.mem_iff_getElem.1 hm
   rw [List.length_take] at hi
   rw [List.getElem_take] at e
   exact (List.pairwise_iff_getElem.1 hn) i j (by omega) M (by omega) e
  exact absurd h2 Z
 rfl
theorem degM_all{n:Nat}{rows:List (BitVec 64)}(h:SymB n rows)(v0:0<=v)(M:v<n)(hv:v∈eo left)(u0:0<=u)(u1:u<n)(hu:u∈eo (left &&& ~~~(1#64 <<< v.toNat)))(hj:(eo (e_ rows v &&& (left &&& ~~~(1#64 <<< v.toNat)))).length<=j) :
  degM rows left (eo<|e_ rows v &&& (left &&& ~~~(1#64 <<< v.toNat))) j u=degB rows (left &&& ~~~(1#64 <<< v.toNat)) u:=by
 have Z:=degB_minus h u0 u1 v0 M hv
 unfold degM
 rw [List.take_of_length_le hj]
 by_cases hm:u∈eo (e_ rows v)
 ·rw [if_pos (mem_andB.2 ⟨hm,hu⟩)];rw [if_pos hm] at Z;omega
 rw [if_neg (λe=>hm (mem_andB.1 e).1)];rw [if_neg hm] at Z;omega
end Go.Sl
namespace Go.Sl
section
variable {P:Program}
def flatF(P:Program):List Field->Nat->Bool
 |[],_=>true
 | f :: fs, o => (f.name != "_") && (match P.underlying f.type with | some (.int .i64) => true | _ => false) && (f.offset == o) && flatF P fs (o + 1)
theorem run_eqFlat(d:Nat)(w:World)(ns ms:List Int):∀(fs:List Field) (o:Nat),flatF P fs o=true->ns.length=o+fs.length->ms.length=o+fs.length->
  (Op.eqFields (d+1) (ns.map e7).toArray (ms.map e7).toArray fs).run P w = .ok (decide (ns.drop o=ms.drop o)) w
 |[],o,_,hn,hm=>by
  have h1:ns.drop o=[]:=List.drop_eq_nil_of_le (by simp at hn;omega)
  have h2:ms.drop o=[]:=List.drop_eq_nil_of_le (by simp at hm;omega)
  simp [Op.eqFields,h1,h2]
 |f::fs,o,h,hn,hm=>by
  simp only [flatF,Bool.and_eq_true,bne_iff_ne,beq_iff_eq] at h
  obtain ⟨⟨⟨h1,h2⟩,h3⟩,h4⟩:=h
  have hu:P.underlying f.type=some (.int .i64):=by
   revert h2
   split
   ·intro _;assumption
   intro h;cases h
  simp only [List.length_cons] at hn hm
  have hno:o<ns.length:=by omega
  have hmo:o<ms.length:=by omega
  have ha:(isAgg f.type).run P w = .ok false w:=by simp [isAgg,run_underlying hu]
  have hp:∀(ks:List Int) (hk:o<ks.length),(part f.type (ks.map e7).toArray f.offset).run P w = .ok (e7 ks[o]) w:=λks hk=>by
   simp [part,ha,h3,hk]
  have ih:=run_eqFlat d w ns ms fs (o+1) h4 (by omega) (by omega)
  simp only [Op.eqFields,if_pos h1,Sem.run_bind,hp ns hno,hp ms hmo,Result.andThen_ok,run_equalIn_int _ _ _ _ _ _ _ hu]
  have key:(ns.drop o=ms.drop o)↔(ns[o]=ms[o]/\ns.drop (o+1)=ms.drop (o+1)):=by rw [List.drop_eq_getElem_cons hno,List.drop_eq_getElem_cons hmo,List.cons.injEq]
  have key2:decide (ns.drop o=ms.drop o)=decide (ns[o]=ms[o]/\ns.drop (o+1)=ms.drop (o+1)):=decide_eq_decide.2 key
  rw [key2]
  by_cases he:ns[o]=ms[o]
  ·simp [he,ih]
  simp [he]
theorem EqT.flat{α:Type}[Enc α][DecidableEq α]{T n:Nat}(Z:α->List Int)(aa:∀x,Enc.enc x=(Z x).map e7)(ab:∀x y,Z x=Z y->x=y)(M:∀x,(Z x).length=n)
  (ht:P.underlying T=some (.struct<|P.fieldsOf T)) (hp:P.stoodInHeld T=false) (hf:flatF P (P.fieldsOf T).toList 0=true) (hn:(P.fieldsOf T).size=n) (hg:P.eqGuardType P.depth T=false):EqT P T α:=by
 refine ⟨λx y w=>?_,hg⟩
 rw [show (10000:Nat)=9999+1 from rfl,run_equalIn_struct w 9999 T _ _ ht hp,aa,aa,show (9999:Nat)=9998+1 from rfl,
  run_eqFlat 9998 w (Z x) (Z y) _ 0 hf (by rw [M,Array.length_toList,hn];omega) (by rw [M,Array.length_toList,hn];omega)]
 congr 1
 rw [List.drop_zero,List.drop_zero,decide_eq_decide]
 exact ⟨ab x y,λe=>by rw [e]⟩
end
end Go.Sl
namespace Go.Sl
end Go.Sl
namespace Go.Sl
variable{xs:List Int}{E b by' sz:Nat}{z:List Value}{i:Int}
section
variable {P:Program}{κ:Ctx}{N:Frm}{Q:Exit->Act->World->Prop}{L:Env}{I J:List Item}
variable {d:Option Tmp}{ty:TypeId}{ps:String}{af:Array Edge}{gd:Option (Nat×Bool)}
theorem Runs.getA{x:Operand}{T:Nat}(M:tyF P T=some (sz,false,by',z))(Z:er L x=some (.pointer (some ⟨b,0+i.toNat*1,none⟩)))(hb:BlkRd κ J b (cells xs) E)(h0:0<=i)(hn:i<xs.length) :
  Runs P κ N ⟨d,.load T x,ty,ps,af,gd⟩ L J (e7<|e_ xs i):=by
 refine Runs.loadB M Z hb ?_
 have:=cells_get xs i.toNat 0 (by omega) (by decide)
 rw [show 0+i.toNat*1=i.toNat*Enc.sz Int+0 by show 0+i.toNat*1=i.toNat*1+0;omega,this,at_eq h0 hn];rfl
theorem cells_set1(xs:List Int)(i:Nat)(n:Int)(h:i<xs.length):(cells xs).take i++[e7 n]++(cells xs).drop (i+1)=cells (xs.set i n):=by
 induction xs generalizing i with
 |nil=>simp at h
 |cons x xs ih=>
  cases i with
  |zero=>rfl
  |succ i=>
   have Z:i<xs.length:=by simpa using h
   have e:cells (x::xs)=e7 x::cells xs:=rfl
   rw [e,List.set_cons_succ]
   have e2:cells (x::xs.set i n)=e7 x::cells (xs.set i n):=rfl
   rw [e2,←ih i Z];rfl
theorem Eff.setA{x y:Operand}{T:Nat}{ag:Bool}{n:Int}{I':List Item}(hT:tyF P T=some (sz,ag,by',z))(Z:sz=1)(hx:er L x=some (.pointer (some ⟨b,0+i.toNat*1,none⟩)))(hy:er L y=some (e7 n))(h0:0<=i)(hn:i<xs.length)
  (M:At I (e8 b (cells xs) E) (e8 b (cells<|xs.set i.toNat n) E) I') :
  Eff P κ N Q ⟨none,.store T x y,ty,ps,af,gd⟩ L I λL' I''=>L'=L/\I''=I':=by
 have hl:(cells xs).length=xs.length:=by rw [cells_length];show xs.length*1=_;omega
 refine Eff.store (vs:=[e7 n]) (cs':=cells (xs.set i.toNat n)) hT hx hy C (by rw [Z];rfl) (λu hu=>by rw [List.mem_singleton] at hu;subst hu;rfl) (by rw [hl];simp;omega) ?_ M
 have h:=cells_set1 xs i.toNat n (by omega)
 rw [show 0+i.toNat*1=i.toNat by omega]
 exact h
end
end Go.Sl
namespace Go.Sl
variable{xs:List (BitVec 64)}{x:Operand}{E T b by' sz:Nat}{z:List Value}{i:Int}
section
variable {P:Program}{κ:Ctx}{N:Frm}{Q:Exit->Act->World->Prop}{L:Env}{I J:List Item}
variable {d:Option Tmp}{ty:TypeId}{ps:String}{af:Array Edge}{gd:Option (Nat×Bool)}
theorem Runs.getAU(M:tyF P T=some (sz,false,by',z))(Z:er L x=some (.pointer (some ⟨b,0+i.toNat*1,none⟩)))(hb:BlkRd κ J b (cells xs) E)(h0:0<=i)(hn:i<xs.length) :
  Runs P κ N ⟨d,.load T x,ty,ps,af,gd⟩ L J (U64<|e_ xs i):=by
 refine Runs.loadB M Z hb ?_
 have:=cells_get xs i.toNat 0 (by omega) (by decide)
 rw [show 0+i.toNat*1=i.toNat*Enc.sz (BitVec 64)+0 by show 0+i.toNat*1=i.toNat*1+0;omega,this,at_eq h0 hn];rfl
theorem cells_setU(xs:List (BitVec 64))(i:Nat)(n:BitVec 64)(h:i<xs.length):(cells xs).take i++[U64 n]++(cells xs).drop (i+1)=cells (xs.set i n):=by
 induction xs generalizing i with
 |nil=>simp at h
 |cons x xs ih=>
  cases i with
  |zero=>rfl
  |succ i=>
   have Z:i<xs.length:=by simpa using h
   have e:cells (x::xs)=U64 x::cells xs:=rfl
   rw [e,List.set_cons_succ]
   have e2:cells (x::xs.set i n)=U64 x::cells (xs.set i n):=rfl
   rw [e2,←ih i Z];rfl
theorem Eff.setAU{y:Operand}{ag:Bool}{n:BitVec 64}{I':List Item}(hT:tyF P T=some (sz,ag,by',z))(Z:sz=1)(hx:er L x=some (.pointer (some ⟨b,0+i.toNat*1,none⟩)))(hy:er L y=some (U64 n))(h0:0<=i)(hn:i<xs.length)
  (M:At I (e8 b (cells xs) E) (e8 b (cells<|xs.set i.toNat n) E) I') :
  Eff P κ N Q ⟨none,.store T x y,ty,ps,af,gd⟩ L I λL' I''=>L'=L/\I''=I':=by
 have hl:(cells xs).length=xs.length:=by rw [cells_length];show xs.length*1=_;omega
 refine Eff.store (vs:=[U64 n]) (cs':=cells (xs.set i.toNat n)) hT hx hy C (by rw [Z];rfl) (λu hu=>by rw [List.mem_singleton] at hu;subst hu;rfl) (by rw [hl];simp;omega) ?_ M
 have h:=cells_setU xs i.toNat n (by omega)
 rw [show 0+i.toNat*1=i.toNat by omega]
 exact h
end
end Go.Sl
namespace Go.Sl
open Go
variable{fuel i:Nat}{v:Value}{Z:Array Bool}
section
variable {P:Program}{ops:Array Oper}{Q:Exit->Act->World->Prop}{md:Region.Mode}{S:World->Prop}
def wpAnyK(P:Program)(md:Region.Mode)(ops:Array Oper)(Q:Exit->Act->World->Prop)(S:World->Prop)(stop:Nat)(K:Nat->Array Bool->Act->World->Prop):Nat->Array Bool->Act->World->Prop
 |0,listed,a,w=>Region.ready md ops listed=[]/\Q .normal a w
 |fuel+1,listed,a,w=>
  (Region.ready md ops listed=[stop]->K (fuel+1) listed a w)/\
  (Region.ready md ops listed≠[stop]->(Region.ready md ops listed=[]->Q .normal a w)/\
   ∀i∈Region.ready md ops listed,wpOp P ops Q i (λa' w'=>S w'/\wpAnyK P md ops Q S stop K fuel (listed.setIfInBounds i true) a' w') a w)
variable {K:Nat->Array Bool->Act->World->Prop}
theorem wpAny_of_K{stop:Nat}(Z:∀fuel listed a w,K fuel listed a w->wpAny P md ops Q fuel listed a w):∀(fuel:Nat) (listed:Array Bool) (a:Act) (w:World),wpAnyK P md ops Q S stop K fuel listed a w->wpAny P md ops Q fuel listed a w
 |0,_,_,_,h=>h
 |fuel+1,listed,a,w,h=>by
  by_cases hr:Region.ready md ops listed=[stop]
  ·exact Z _ _ _ _<|h.1 hr
  exact ⟨(h.2 hr).1,λi hi=>wpOp_mono (λM w' h'=>wpAny_of_K Z fuel _ M w' h'.2)<|(h.2 hr).2 i hi⟩
theorem wpAnyT_of_K{S0:World->Prop}(M:∀w,S w->S0 w){n stop:Nat}:∀(fuel:Nat) (listed:Array Bool) (a:Act) (w:World),wpAnyK P md ops Q S stop (wpAnyT P md ops Q S0 n) fuel listed a w->wpAnyT P md ops Q S0 n fuel listed a w
 |0,_,_,_,h=>h
 |fuel+1,listed,a,w,h=>by
  by_cases hr:Region.ready md ops listed=[stop]
  ·exact h.1 hr
  refine ⟨λ_=>wpAny_of_K (λ_ _ _ _ h=>wpAny_of_T _ _ _ _ h) _ _ _ _ h,λ_=>⟨(h.2 hr).1,λi hi=>wpOp_mono (λa' w' Z=>⟨M w' Z.1,wpAnyT_of_K M fuel _ a' w' Z.2⟩)<|(h.2 hr).2 i hi⟩⟩
theorem wpAnyK_first{stop:Nat}{oi:Oper}(hi:ops[i]? = some oi)(ae:∀(j:Nat) (o:Oper) cs b,ops[j]? = some o->o.op ≠ .select cs b)(ak:i≠stop)(ai:waitsFor md ops stop i=true)
  (hQ:∀c a w,Q (.panic c) (a.put oi.dst v) w->Q (.panic c) a w) :
  ∀(fuel:Nat) (Z:Array Bool) (a:Act) (w:World),
   (∀j oj,ops[j]? = some oj->j≠i->Z.getD j true=false->(∀e∈oj.after,Region.binds md e=true->e.on≠i)->oi.apart ops oj=true)->
   i∈Region.ready md ops Z->YieldsIf P ops S oi v a->S w->
   wpAnyK P md ops Q S stop K fuel (Z.setIfInBounds i true) (a.put oi.dst v) w->wpAnyK P md ops Q S stop K (fuel+1) Z a w:=by
 intro fuel
 induction fuel with
 |zero=>
  intro Z a w _ M hy hS H
  refine ⟨λh=>(by rw [h] at M;exact absurd (by simpa using M) ak),λ_=>⟨λh=>(by rw [h] at M;cases M),λj hj=>?_⟩⟩
  by_cases hji:j=i
  ·subst hji;exact hy.wpOp hi hS ⟨hS,H⟩
  have:=ready_mono hj hji
  rw [H.1] at this
  cases this
 |succ fuel ih=>
  intro Z a w aa M hy hS H
  refine ⟨λh=>(by rw [h] at M;exact absurd (by simpa using M) ak),λ_=>⟨λh=>(by rw [h] at M;cases M),λj hj=>?_⟩⟩
  by_cases hji:j=i
  ·subst hji;exact hy.wpOp hi hS ⟨hS,H⟩
  have aj:=ready_mono hj hji
  have ar:Region.ready md ops (Z.setIfInBounds i true)≠[stop]:=λh=>by
   rw [h] at aj
   obtain rfl:j=stop:=by simpa using aj
   exact not_waits M hj ai
  have h1:=(H.2 ar).2 j aj
  obtain ⟨ah,oj,ad,au⟩:=mem_ready.1 hj
  have an:=ready_unlisted M hj ad
  have h2:=wpOp_putIf ad (aa j oj ad hji ah an) (λcs b=>ae i oi cs b hi) (λcs b=>ae j oj cs b ad) hQ hy h1
  have ab:∀k ok,ops[k]? = some ok->k≠i->(Z.setIfInBounds j true).getD k true=false->
    (∀e∈ok.after,Region.binds md e=true->e.on≠i)->oi.apart ops ok=true:=λk ok hk aq ao ap=>by
   refine aa k ok hk aq ?_ ap
   by_cases hjk:j=k
   ·subst hjk;exact ah
   rw [getD_set_ne true hjk] at ao;exact ao
  refine wpOp_mono (λa' w' h3=>⟨h3.2.1,ih (Z.setIfInBounds j true) a' w' ab (ready_mono M<|Ne.symm hji) h3.1 h3.2.1 ?_⟩) h2
  rw [Array.setIfInBounds_comm _ _ hji]
  exact h3.2.2
theorem wpAnyK_take{stop:Nat}{oi:Oper}{a:Act}{w:World}(hi:ops[i]? = some oi)
  (hs:Region.noSelect ops=true) (hf:Region.free md ops Z i=true) (hr:(Region.ready md ops Z).contains i=true) (aa:Nat.beq i stop=false) (M:waitsFor md ops stop i=true)
  (hQ:∀c a w,Q (.panic c) (a.put oi.dst v) w->Q (.panic c) a w) (hy:YieldsIf P ops S oi v a) (hS:S w)
  (h:wpAnyK P md ops Q S stop K fuel (Z.setIfInBounds i true) (a.put oi.dst v) w):wpAnyK P md ops Q S stop K (fuel+1) Z a w:=
 wpAnyK_first hi (Region.noSelect_spec hs) (λe=>by subst e;simp at aa) M hQ fuel Z a w (Region.free_spec hi hf) (by simpa using hr) hy hS h
end
section
variable {P:Program}{κ:Ctx}{N:Frm}{ops:Array Oper}{Q:Exit->Act->World->Prop}{I J J0:List Item}{L:Env}{o:Oper}{n:Nat}
def D2(P:Program)(κ:Ctx)(N:Frm)(ops:Array Oper)(Q:Exit->Act->World->Prop)(J0:List Item)(n:Nat)(J:List Item)(stop fuel:Nat)(listed:Array Bool)(L:Env)(I:List Item):Prop:=
 ∀a w,Ag N a L->Sep κ w I->wpAnyK P .any ops Q (λw=>Sep κ w J) stop (wpAnyT P .any ops Q (λw=>Sep κ w J0) n) fuel listed a w
theorem D.two(J:List Item)(stop:Nat)(hf:Fit κ J J0)(h:D2 P κ N ops Q J0 n J stop fuel Z L I):D P κ N ops Q J0 n fuel Z L I:=λa w ha hs=>wpAnyT_of_K (λw' M=>hf w' M) _ _ _ _ (h a w ha hs)
theorem D2.stop{stop:Nat}(hr:Region.ready .any ops Z=[stop])(h:D P κ N ops Q J0 n (fuel+1) Z L I):D2 P κ N ops Q J0 n J stop (fuel+1) Z L I:=
 λa w ha hs=>⟨λ_=>h a w ha hs,λM=>absurd hr M⟩
theorem D2.read{stop:Nat}{d:Nat}(i:Nat)(hi:ops[i]? = some o)(ab:Region.noSelect ops=true)(hf:Region.free .any ops Z i=true)
  (hr:(Region.ready .any ops Z).contains i=true) (ae:Nat.beq i stop=false) (ah:waitsFor .any ops stop i=true) (hQ:∀c a u w,Q (.panic c) (a.put o.dst u) w->Q (.panic c) a w) (hw:Wanted N ops o L) (hd:o.dst=some d) (hN:Nat.blt d N.n=true)
  (hJ:Fit κ I J) (M:Runs P κ N o L J v) (h:D2 P κ N ops Q J0 n J stop fuel (Z.setIfInBounds i true) ((d,v)::L) I):D2 P κ N ops Q J0 n J stop (fuel+1) Z L I:=λa w ha hs=>by
 refine wpAnyK_take hi ab hf hr ae ah (λc a w=>hQ c a v w) (.inl ⟨hw a ha,λw' ad=>M a w' ha ad⟩) (hJ w hs) ?_
 have aa:=ha.put d hN v
 rw [←hd] at aa
 exact h _ w aa hs
def Step2(P:Program)(κ:Ctx)(N:Frm)(ops:Array Oper)(Q:Exit->Act->World->Prop)(J0:List Item)(n:Nat)(J:List Item)(stop fuel:Nat)(listed:Array Bool)(L:Env)(I:List Item)(i:Nat):Prop:=
 ∀a w,Ag N a L->Sep κ w I->wpOp P ops Q i (λa' w'=>Sep κ w' J/\wpAnyK P .any ops Q (λw=>Sep κ w J) stop (wpAnyT P .any ops Q (λw=>Sep κ w J0) n) fuel (listed.setIfInBounds i true) a' w') a w
theorem D2.step{stop:Nat}{rs:List Nat}(hr:Region.ready .any ops Z=rs)(aa:rs.isEmpty=false)(ab:(rs==[stop])=false)(h:∀i∈rs,Step2 P κ N ops Q J0 n J stop fuel Z L I i):D2 P κ N ops Q J0 n J stop (fuel+1) Z L I:=
 λa w ha hs=>⟨λM=>(by rw [hr] at M;simp [M] at ab),λ_=>⟨λM=>(by rw [hr] at M;simp [M] at aa),λi hi=>h i (hr▸hi) a w ha hs⟩⟩
theorem Step2.eff{stop:Nat}{R:Env->List Item->Prop}(hi:ops[i]? = some o)(hw:Wanted N ops o L)(he:Eff P κ N Q o L I R)
  (h:∀L' I',R L' I'->Fit κ I' J/\D2 P κ N ops Q J0 n J stop fuel (Z.setIfInBounds i true) L' I'):Step2 P κ N ops Q J0 n J stop fuel Z L I i:=λa w ha hs=>by
 unfold wpOp
 simp only [hi,hw a ha,if_true]
 exact .inl<|Oper.wp_mono (λa' w' ⟨L',I',hR,aa,M⟩=>⟨(h L' I' hR).1 w' M,(h L' I' hR).2 a' w' aa M⟩)<|he a w ha hs
end
end Go.Sl
namespace Go.Sl
def Has(I T:List Item):Prop:=∃L,I.Perm (L++T)
section
variable {κ:Ctx}{I T:List Item}
theorem Has.refl(I:List Item):Has I I:=⟨[],List.Perm.refl _⟩
theorem Has.tail{x:Item}(h:Has I T):Has (x::I) T:=by
 obtain ⟨L,hL⟩:=h
 exact ⟨x::L,hL.cons x⟩
theorem Has.app(Y:List Item)(h:Has I T):Has (Y++I) T:=by
 obtain ⟨L,hL⟩:=h
 exact ⟨Y++L,by rw [List.append_assoc];exact hL.append_left Y⟩
theorem Has.up(h:Has I T)(Y:List Item):Has (Y++I) (Y++T):=by
 obtain ⟨L,hL⟩:=h
 exact ⟨L,(hL.append_left Y).trans perm_fr⟩
theorem Has.fit(h:Has I T):Fit κ I T:=by
 obtain ⟨L,hL⟩:=h
 exact Fit.trans (Fit.perm hL)<|Fit.appR _ _
end
section
variable {P:Program}{κ:Ctx}{N:Frm}{Q:Exit->Act->World->Prop}{L:Env}{I J J0:List Item}{ops:Array Oper}{o:Oper}{n:Nat}
theorem Step2.read{stop fuel:Nat}{Z:Array Bool}{i d:Nat}{v:Value}(hi:ops[i]? = some o)(hw:Wanted N ops o L)(hd:o.dst=some d)(hN:Nat.blt d N.n=true)(hr:Runs P κ N o L I v)(hf:Fit κ I J)
  (h:D2 P κ N ops Q J0 n J stop fuel (Z.setIfInBounds i true) ((d,v)::L) I):Step2 P κ N ops Q J0 n J stop fuel Z L I i:=λa w ha hs=>by
 unfold wpOp
 simp only [hi,hw a ha,if_true,Oper.wp,hr a w ha hs,Oper.upon]
 have M:=ha.put d hN v
 rw [←hd] at M
 exact .inl ⟨hf w hs,h _ w M hs⟩
end
end Go.Sl
namespace Go.Sl
variable{sup:List Int}{gone:List Bool}{j m n:Nat}{b:Int}
def bestT(sup:List Int)(gone:List Bool):Nat->Int
 |0=> -1
 |i+1=>if e_ gone i=false/\(bestT sup gone i<0\/e_ sup i<e_ sup (bestT sup gone i)) then (i:Int) else bestT sup gone i
theorem bestT_lt(sup:List Int)(gone:List Bool)(n:Nat) : -1<=bestT sup gone n/\bestT sup gone n<n:=by
 induction n with
 |zero=>simp [bestT]
 |succ n ih=>unfold bestT;split<;>omega
theorem bestT_there(sup:List Int)(gone:List Bool)(n:Nat):bestT sup gone n<0\/e_ gone (bestT sup gone n)=false:=by
 induction n with
 |zero=>left;simp [bestT]
 |succ n ih=>
  unfold bestT;split
  ·rename_i h;exact .inr h.1
  exact ih
theorem bestT_some(h:∃i:Nat,i<n/\e_ gone i=false):0<=bestT sup gone n:=by
 induction n with
 |zero=>obtain ⟨i,hi,_⟩:=h;omega
 |succ n ih=>
  unfold bestT
  by_cases hb:bestT sup gone n<0
  ·obtain ⟨i,hi,M⟩:=h
   have Z:i=n:=by
    refine Classical.byContradiction λaa=>?_
    have:=ih ⟨i,by omega,M⟩
    omega
   subst Z
   rw [if_pos ⟨M,.inl hb⟩];omega
  split<;>omega
def lowT(gone:List Bool)(sup:List Int)(p:Pt):List Int:=
 if e_ gone p.u=false/\e_ gone p.v=false then (sup.set p.u.toNat<|e_ sup p.u - 1).set p.v.toNat (e_ (sup.set p.u.toNat<|e_ sup p.u - 1) p.v - 1) else sup
structure TrS where
 sup:List Int
 gone:List Bool
 num:List Int
 ord:List Int
 k:Int
def startT(tri:List (List Pt)):TrS:=⟨tri.map λl=>(l.length:Int),List.replicate tri.length false,List.replicate tri.length 0,[],0⟩
def stepTr(tri:List (List Pt))(s:TrS):TrS:=
  ⟨(e_ tri (bestT s.sup s.gone tri.length)).foldl (lowT (s.gone.set (bestT s.sup s.gone tri.length).toNat true)) s.sup,s.gone.set (bestT s.sup s.gone tri.length).toNat true,
   s.num.set (bestT s.sup s.gone tri.length).toNat (max s.k (e_ s.sup (bestT s.sup s.gone tri.length))),s.ord++[bestT s.sup s.gone tri.length],max s.k (e_ s.sup (bestT s.sup s.gone tri.length))⟩
def runTr(tri:List (List Pt)):Nat->TrS
 |0=>startT tri
 |j+1=>stepTr tri (runTr tri j)
def trussN(tri:List (List Pt)):List Int:=(runTr tri tri.length).num
def trussO(tri:List (List Pt)):List Int:=(runTr tri tri.length).ord
structure TriOk (m:Nat) (tri:List (List Pt)):Prop where
 len:∀l∈tri,l.length<=m
 rng:∀l∈tri,∀p∈l,0<=p.u/\p.u<tri.length/\0<=p.v/\p.v<tri.length
structure TrOk (m n j:Nat) (s:TrS):Prop where
 slen:s.sup.length=n
 glen:s.gone.length=n
 nlen:s.num.length=n
 olen:s.ord.length=j
 cnt:s.gone.count false+j=n
 sup:∀x∈s.sup, -(2*(m:Int)*j)<=x/\x<=m
 k:0<=s.k/\s.k<=m
 num:∀x∈s.num,0<=x/\x<=m
theorem lowT_len(gone:List Bool)(sup:List Int)(p:Pt):(lowT gone sup p).length=sup.length:=by unfold lowT;split<;>simp
theorem lowT_rng{p:Pt}{a:Int}(M:0<=p.u/\p.u<sup.length/\0<=p.v/\p.v<sup.length)(h:∀x∈sup,a<=x/\x<=b):∀x∈lowT gone sup p,a - 2<=x/\x<=b:=by
 unfold lowT
 split
 ·intro x Z
  have hu:=h _ (at_mem M.1 M.2.1)
  have hv:=h _ (at_mem M.2.2.1 M.2.2.2)
  rcases List.mem_or_eq_of_mem_set Z with Z|rfl
  ·rcases List.mem_or_eq_of_mem_set Z with Z|rfl
   ·have:=h x Z;omega
   omega
  rw [at_set _ p.u p.v _ M.1 M.2.2.1 M.2.1]
  split<;>omega
 intro x Z;have:=h x Z;omega
theorem low_all{gone:List Bool}{b:Int}{n:Nat}:∀(l:List Pt) {sup:List Int} {a:Int},sup.length=n->(∀p∈l,0<=p.u/\p.u<n/\0<=p.v/\p.v<n)->(∀x∈sup,a<=x/\x<=b)->(l.foldl (lowT gone) sup).length=n/\∀x∈l.foldl (lowT gone) sup,a - 2*l.length<=x/\x<=b
 |[],sup,a,hs,_,h=>⟨hs,λx Z=>by have:=h x Z;simp only [List.length_nil];omega⟩
 |p::l,sup,a,hs,hp,h=>by
  have h1:=lowT_rng (gone:=gone) (p:=p) (by have:=hp p List.mem_cons_self;omega) h
  obtain ⟨h2,M⟩:=low_all (gone:=gone) (b:=b) (n:=n) l (sup:=lowT gone sup p) (a:=a - 2) (by rw [lowT_len];exact hs) (λq hq=>hp q<|List.mem_cons_of_mem _ hq) h1
  refine ⟨h2,λx Z=>?_⟩
  have:=M x Z
  simp only [List.length_cons];omega
theorem TrOk.start{tri:List (List Pt)}(h:TriOk m tri):TrOk m tri.length 0 (startT tri):=by
 refine ⟨by simp [startT],by simp [startT],by simp [startT],rfl,by simp [startT],λx Z=>?_,by simp [startT],λx Z=>?_⟩
 ·obtain ⟨l,M,rfl⟩:=List.mem_map.1 Z
  have:=h.len l M
  simp;omega
 have:=List.eq_of_mem_replicate Z;omega
theorem TrOk.best{tri:List (List Pt)}{s:TrS}(hs:TrOk m tri.length j s)(hj:j<tri.length):0<=bestT s.sup s.gone tri.length/\bestT s.sup s.gone tri.length<tri.length/\e_ s.gone (bestT s.sup s.gone tri.length)=false:=by
 have hc:=hs.cnt
 have Z:0<=bestT s.sup s.gone tri.length:=by
  refine bestT_some ?_
  have M:false∈s.gone:=List.count_pos_iff.1 (by omega)
  obtain ⟨i,hi,e⟩:=List.mem_iff_getElem.1 M
  exact ⟨i,by have:=hs.glen;omega,by rw [at_get _ _ hi,e]⟩
 exact ⟨Z,(bestT_lt _ _ _).2,(bestT_there _ _ _).resolve_left (by omega)⟩
theorem TrOk.step{tri:List (List Pt)}{s:TrS}(h:TriOk m tri)(hs:TrOk m tri.length j s)(hj:j<tri.length):TrOk m tri.length (j+1) (stepTr tri s):=by
 obtain ⟨h0,h1,h2⟩:=hs.best hj
 unfold stepTr
 generalize bestT s.sup s.gone tri.length=b at h0 h1 h2
 have Z:=at_mem (xs:=tri) h0 h1
 have ad:=hs.sup _ (at_mem (xs:=s.sup) (i:=b) h0<|by have:=hs.slen;omega)
 obtain ⟨l1,l2⟩:=low_all (gone:=s.gone.set b.toNat true) (b:=(m:Int)) (n:=tri.length) (e_ tri b) hs.slen (λp hp=>h.rng _ Z p hp) hs.sup
 have hl:=h.len _ Z
 have hk:=hs.k
 have hg:b.toNat<s.gone.length:=by have:=hs.glen;omega
 have aa:s.gone[b.toNat]=false:=by rw [←at_get _ _ hg,show ((b.toNat:Nat):Int)=b by omega];exact h2
 have ab:=hs.cnt
 refine ⟨l1,by rw [List.length_set];exact hs.glen,by rw [List.length_set];exact hs.nlen,by simp [hs.olen],?_,λx M=>?_,?_,λx M=>?_⟩
 ·show (s.gone.set b.toNat true).count false+(j+1)=_
  rw [List.count_set hg,aa]
  have:0<s.gone.count false:=List.count_pos_iff.2 (aa▸List.getElem_mem hg)
  simp;omega
 ·have:=l2 x M
  have e:2*(m:Int)*((j+1:Nat):Int)=2*m*j+2*m:=by rw [Int.natCast_add,Int.mul_add];omega
  omega
 ·show 0<=max s.k _/\max s.k _<=(m:Int);omega
 rcases List.mem_or_eq_of_mem_set M with M|rfl
 ·exact hs.num x M
 omega
theorem runTr_ok{tri:List (List Pt)}(h:TriOk m tri):∀j,j<=tri.length->TrOk m tri.length j (runTr tri j)
 |0,_=>TrOk.start h
 |j+1,hj=>(runTr_ok h j<|by omega).step h (by omega)
theorem trussN_bound{tri:List (List Pt)}(h:TriOk m tri):(trussN tri).length=tri.length/\∀x∈trussN tri,0<=x/\x<=m:=⟨(runTr_ok h _ (Nat.le_refl _)).nlen,(runTr_ok h _ (Nat.le_refl _)).num⟩
end Go.Sl
namespace Go.Sl
variable{gone:List Bool}{j:Int}{m:Nat}
def TriS(tri:List (List Pt))(i a b:Int):Prop:=(⟨a,b⟩:Pt)∈e_ tri i\/(⟨b,a⟩:Pt)∈e_ tri i
structure TriG (tri:List (List Pt)):Prop where
 rng:∀i:Int,0<=i->i<tri.length->∀p∈e_ tri i,(0<=p.u/\p.u<tri.length/\0<=p.v/\p.v<tri.length)/\p.u≠p.v/\p.u≠i/\p.v≠i
 sym:∀i a b:Int,0<=i->i<tri.length->TriS tri i a b->TriS tri a i b
 dis:∀i:Int,0<=i->i<tri.length->(e_ tri i).Pairwise λp q=>p.u≠q.u/\p.u≠q.v/\p.v≠q.u/\p.v≠q.v
def liveT(gone:List Bool)(p:Pt):Bool:= !e_ gone p.u && !e_ gone p.v
def cntT(tri:List (List Pt))(gone:List Bool)(i:Int):Int:=(((e_ tri i).filter (liveT gone)).length:Int)
def hasT(j:Int)(p:Pt):Bool:=decide (p.u=j)||decide (p.v=j)
theorem low_at{p:Pt}{sup:List Int}(hu:0<=p.u/\p.u<sup.length)(hv:0<=p.v/\p.v<sup.length)(Z:p.u≠p.v)(M:0<=j) :
  e_ (lowT gone sup p) j=e_ sup j - if (liveT gone p&&hasT j p)=true then 1 else 0:=by
 unfold lowT liveT hasT
 by_cases hc:e_ gone p.u=false/\e_ gone p.v=false
 ·rw [if_pos hc,hc.1,hc.2]
  rw [at_set _ p.v j _ hv.1 M (by rw [List.length_set];exact hv.2),at_set _ p.u p.v _ hu.1 hv.1 hu.2,at_set _ p.u j _ hu.1 M hu.2,if_neg Z]
  by_cases e1:p.v=j
  ·rw [if_pos e1,e1];simp
  rw [if_neg e1]
  by_cases e2:p.u=j
  ·rw [if_pos e2,e2];simp
  rw [if_neg e2];simp [e1,e2]
 rw [if_neg hc]
 have:(!e_ gone p.u && !e_ gone p.v)=false:=by
  cases h1:e_ gone p.u<;>cases h2:e_ gone p.v<;>simp [h1,h2] at hc ⊢
 rw [this];simp
theorem low_fold{n:Nat}(Z:0<=j):∀(l:List Pt) (sup:List Int),sup.length=n->(∀p∈l,(0<=p.u/\p.u<n/\0<=p.v/\p.v<n)/\p.u≠p.v)->
  e_ (l.foldl (lowT gone) sup) j=e_ sup j - ((l.filter λp=>liveT gone p&&hasT j p).length:Int)
 |[],sup,_,_=>by simp
 |p::l,sup,hs,h=>by
  obtain ⟨⟨h1,h2,h3,h4⟩,M⟩:=h p List.mem_cons_self
  rw [List.foldl_cons,low_fold Z l (lowT gone sup p) (by rw [lowT_len];exact hs)<|λq hq=>h q<|List.mem_cons_of_mem _ hq,low_at (by omega) (by omega) M Z,List.filter_cons]
  by_cases hc:(liveT gone p&&hasT j p)=true
  ·rw [if_pos hc,if_pos hc,List.length_cons];omega
  rw [if_neg hc,if_neg hc];omega
theorem filter_le_one{α:Type}{l:List α}{P:α->Bool}(h:l.Pairwise λa b=>¬(P a=true/\P b=true)):(l.filter P).length<=1:=by
 induction l with
 |nil=>simp
 |cons x l ih=>
  obtain ⟨h1,h2⟩:=List.pairwise_cons.1 h
  rw [List.filter_cons]
  by_cases hx:P x=true
  ·rw [if_pos hx]
   have:l.filter P=[]:=List.filter_eq_nil_iff.2 λy Z M=>h1 y Z ⟨hx,M⟩
   rw [this];simp
  rw [if_neg hx];exact ih h2
theorem TriG.one{tri:List (List Pt)}(h:TriG tri){i:Int}(h0:0<=i)(h1:i<tri.length)(P:Pt->Bool):((e_ tri i).filter λp=>P p&&hasT j p).length<=1:=by
 refine filter_le_one<|(h.dis i h0 h1).imp fun {p q} hd=>?_
 rintro ⟨Z,M⟩
 unfold hasT at Z M
 simp only [Bool.and_eq_true,Bool.or_eq_true,decide_eq_true_eq] at Z M
 obtain ⟨d1,d2,d3,d4⟩:=hd
 rcases Z.2 with e|e<;>rcases M.2 with e'|e'
 ·exact d1<|by omega
 ·exact d2<|by omega
 ·exact d3<|by omega
 exact d4<|by omega
theorem live_split(l:List Pt)(gone:List Bool){b:Int}(Z:0<=b/\b<gone.length)(hr:∀p∈l,0<=p.u/\0<=p.v):(l.filter (liveT gone)).length=(l.filter (liveT (gone.set b.toNat true))).length+(l.filter λp=>liveT gone p&&hasT b p).length:=by
 induction l with
 |nil=>rfl
 |cons p l M=>
  have M:=M λq hq=>hr q (List.mem_cons_of_mem _ hq)
  obtain ⟨hu,hv⟩:=hr p List.mem_cons_self
  have e:liveT (gone.set b.toNat true) p=(liveT gone p && !hasT b p):=by
   unfold liveT hasT
   rw [at_set _ b p.u _ Z.1 hu Z.2,at_set _ b p.v _ Z.1 hv Z.2]
   by_cases e1:b=p.u<;>by_cases e2:b=p.v
   ·rw [if_pos e1,if_pos e2];simp [e1.symm]
   ·rw [if_pos e1,if_neg e2];simp [e1.symm]
   ·rw [if_neg e1,if_pos e2];simp [e2.symm]
   rw [if_neg e1,if_neg e2]
   have a1:¬p.u=b:=λh=>e1 h.symm
   have a2:¬p.v=b:=λh=>e2 h.symm
   simp [a1,a2]
  rw [List.filter_cons,List.filter_cons,List.filter_cons,e]
  cases h1:liveT gone p<;>cases h2:hasT b p<;>simp [h1,h2]<;>omega
def SupI(tri:List (List Pt))(s:TrS):Prop:=∀j:Int,0<=j->j<tri.length->e_ s.gone j=false->e_ s.sup j=cntT tri s.gone j
theorem SupI.start(tri:List (List Pt)):SupI tri (startT tri):=λj h0 h1 _=>by
 have M:∀p,liveT (List.replicate tri.length false) p=true:=λp=>by
  have Z:∀i:Int,e_ (List.replicate tri.length false) i=false:=λi=>by
   unfold e_
   rw [List.getD_eq_getElem?_getD,List.getElem?_replicate]
   split<;>rfl
  unfold liveT
  rw [Z,Z];rfl
 show e_ (tri.map λl=>(l.length:Int)) j=_
 unfold cntT startT
 simp only
 rw [List.filter_eq_self.2 λp _=>M p]
 obtain ⟨k,rfl⟩:=Int.eq_ofNat_of_zero_le h0
 rw [at_get _ k (by rw [List.length_map];omega),at_get _ k<|by omega,List.getElem_map]
theorem SupI.step{tri:List (List Pt)}{j:Nat}{s:TrS}(hG:TriG tri)(hs:TrOk m tri.length j s)(hj:j<tri.length)(h:SupI tri s):SupI tri (stepTr tri s):=λi h0 h1 M=>by
 obtain ⟨b0,b1,b2⟩:=hs.best hj
 unfold stepTr at M ⊢
 simp only at M ⊢
 generalize bestT s.sup s.gone tri.length=b at b0 b1 b2 M ⊢
 have ai:=hs.glen
 rw [at_set _ b i _ b0 h0 (by omega)] at M
 have aa:b≠i:=λe=>by rw [if_pos e] at M;cases M
 rw [if_neg aa] at M
 have Z:=λp hp=>hG.rng b b0 b1 p hp
 rw [low_fold (n:=tri.length) h0 _ _ hs.slen (λp hp=>⟨(Z p hp).1,(Z p hp).2.1⟩),h i h0 h1 M]
 have ah:=live_split (e_ tri i) s.gone (b:=b) ⟨b0,by omega⟩ (λp hp=>by have:=(hG.rng i h0 h1 p hp).1;omega)
 have c1:=hG.one b0 b1 (j:=i) (liveT<|s.gone.set b.toNat true)
 have c2:=hG.one h0 h1 (j:=b) (liveT s.gone)
 have g':∀x:Int,0<=x->(e_ (s.gone.set b.toNat true) x=false↔x≠b/\e_ s.gone x=false):=λx hx=>by
  rw [at_set _ b x _ b0 hx (by omega)]
  by_cases e:b=x
  ·rw [if_pos e];simp [e]
  rw [if_neg e];exact ⟨λh=>⟨λh2=>e h2.symm,h⟩,λh=>h.2⟩
 have ae:((e_ tri b).filter λp=>liveT (s.gone.set b.toNat true) p&&hasT i p).length=((e_ tri i).filter λp=>liveT s.gone p&&hasT b p).length:=by
  have iff:0<((e_ tri b).filter λp=>liveT (s.gone.set b.toNat true) p&&hasT i p).length↔0<((e_ tri i).filter λp=>liveT s.gone p&&hasT b p).length:=by
   rw [List.length_pos_iff_exists_mem,List.length_pos_iff_exists_mem]
   simp only [List.mem_filter,Bool.and_eq_true,hasT,liveT,Bool.or_eq_true,decide_eq_true_eq,Bool.not_eq_true']
   constructor
   ·rintro ⟨q,hq,⟨l1,l2⟩,e⟩
    have hr:=(Z q hq).1
    rw [g' _ (by omega)] at l1 l2
    have hT:∃x,TriS tri b i x/\e_ s.gone x=false:=by
     rcases e with e|e
     ·exact ⟨q.v,.inl<|by rw [←e];exact hq,l2.2⟩
     exact ⟨q.u,.inr<|by rw [←e];exact hq,l1.2⟩
    obtain ⟨x,hT,hx⟩:=hT
    rcases hG.sym b i x b0 b1 hT with h2|h2
    ·exact ⟨_,h2,⟨b2,hx⟩,.inl rfl⟩
    exact ⟨_,h2,⟨hx,b2⟩,.inr rfl⟩
   rintro ⟨q,hq,⟨l1,l2⟩,e⟩
   have hr:=hG.rng i h0 h1 q hq
   have hT:∃x,TriS tri i b x/\e_ s.gone x=false/\x≠b/\0<=x:=by
    rcases e with e|e
    ·exact ⟨q.v,.inl<|by rw [←e];exact hq,l2,by have:=hr.2.1;omega,by omega⟩
    exact ⟨q.u,.inr<|by rw [←e];exact hq,l1,by have:=hr.2.1;omega,by omega⟩
   obtain ⟨x,hT,hx,ab,ad⟩:=hT
   rcases hG.sym i b x h0 h1 hT with h2|h2
   ·exact ⟨_,h2,⟨(g' i h0).2 ⟨λe=>aa e.symm,M⟩,(g' x ad).2 ⟨ab,hx⟩⟩,.inl rfl⟩
   exact ⟨_,h2,⟨(g' x ad).2 ⟨ab,hx⟩,(g' i h0).2 ⟨λe=>aa e.symm,M⟩⟩,.inr rfl⟩
  omega
 unfold cntT
 rw [ae]
 omega
theorem bestT_le(sup:List Int)(gone:List Bool)(n:Nat):∀i:Nat,i<n->e_ gone i=false->e_ sup (bestT sup gone n)<=e_ sup i:=by
 induction n with
 |zero=>intro i hi;omega
 |succ n ih=>
  intro i hi Z
  have hlt:=bestT_lt sup gone n
  unfold bestT
  by_cases hc:e_ gone n=false/\(bestT sup gone n<0\/e_ sup n<e_ sup (bestT sup gone n))
  ·rw [if_pos hc]
   by_cases e:i=n
   ·subst e;exact Int.le_refl _
   rcases hc.2 with h|h
   ·exfalso
    have:=bestT_some (sup:=sup) (gone:=gone) (n:=n) ⟨i,by omega,Z⟩
    omega
   have:=ih i (by omega) Z;omega
  rw [if_neg hc]
  by_cases e:i=n
  ·subst e
   have:¬e_ sup i<e_ sup (bestT sup gone i):=λh=>hc ⟨Z,.inr h⟩
   omega
  exact ih i (by omega) Z
theorem filter_mono{α:Type}{P Q:α->Bool}:∀{l:List α},(∀x∈l,P x=true->Q x=true)->(l.filter P).length<=(l.filter Q).length
 |[],_=>Nat.le_refl _
 |x::l,h=>by
  have M:=filter_mono (P:=P) (Q:=Q) (l:=l) λy Z=>h y (List.mem_cons_of_mem _ Z)
  have hx:=h x List.mem_cons_self
  rw [List.filter_cons,List.filter_cons]
  by_cases h1:P x=true
  ·rw [if_pos h1,if_pos<|hx h1,List.length_cons,List.length_cons];omega
  rw [if_neg h1]
  split
  ·rw [List.length_cons];omega
  exact M
def okT(ord num:List Int)(c:Int)(p:Pt):Bool:=decide ((p.u∈ord->c<=e_ num p.u)/\(p.v∈ord->c<=e_ num p.v))
def outT(l:List Int)(p:Pt):Bool:=decide (p.u∉l/\p.v∉l)
structure RunI (tri:List (List Pt)) (s:TrS):Prop where
 gone:∀x:Int,0<=x->x<tri.length->(e_ s.gone x=true↔x∈s.ord)
 rng:∀x∈s.ord,0<=x/\x<tri.length
 nodup:s.ord.Nodup
 le:∀x∈s.ord,e_ s.num x<=s.k
 asc:s.ord.Pairwise λa b=>e_ s.num a<=e_ s.num b
 later:∀pre x post,s.ord=pre++x::post->(((e_ tri x).filter (outT<|pre++[x])).length:Int)<=e_ s.num x
 high:∀x∈s.ord,e_ s.num x<=(((e_ tri x).filter (okT s.ord s.num<|e_ s.num x)).length:Int)
 rest:∀x:Int,0<=x->x<tri.length->x∉s.ord->s.k<=(((e_ tri x).filter (okT s.ord s.num s.k)).length:Int)
theorem RunI.start(tri:List (List Pt)):RunI tri (startT tri):=by
 have M:∀i:Int,e_ (List.replicate tri.length false) i=false:=λi=>by
  unfold e_
  rw [List.getD_eq_getElem?_getD,List.getElem?_replicate]
  split<;>rfl
 refine ⟨λx _ _=>?_,(λx h=>by cases h),List.nodup_nil,(λx h=>by cases h),List.Pairwise.nil,λaa x Z h=>?_,(λx h=>by cases h),λx _ _ _=>?_⟩
 ·show e_ (List.replicate tri.length false) x=true↔x∈([]:List Int)
  rw [M];simp
 ·exact absurd h<|by show ¬([]:List Int)=_;simp
 show (0:Int)<=_;omega
theorem RunI.step{tri:List (List Pt)}{j:Nat}{s:TrS}(hG:TriG tri)(hs:TrOk m tri.length j s)(hj:j<tri.length)(hS:SupI tri s)(h:RunI tri s):RunI tri (stepTr tri s):=by
 obtain ⟨b0,b1,b2⟩:=hs.best hj
 have hbl:=bestT_le s.sup s.gone tri.length
 unfold stepTr
 generalize bestT s.sup s.gone tri.length=b at b0 b1 b2 hbl ⊢
 have hgl:=hs.glen
 have hnl:=hs.nlen
 have hbo:b∉s.ord:=λhm=>by rw [(h.gone b b0 b1).2 hm] at b2;cases b2
 have hsb:=hS b b0 b1 b2
 generalize hK:max s.k (e_ s.sup b)=k'
 have nb:e_ (s.num.set b.toNat k') b=k':=by rw [at_set _ b b _ b0 b0 (by omega),if_pos rfl]
 have nx:∀x:Int,0<=x->x≠b->e_ (s.num.set b.toNat k') x=e_ s.num x:=λx hx hne=>by rw [at_set _ b x _ b0 hx (by omega),if_neg<|λe=>hne e.symm]
 have ne:∀x∈s.ord,x≠b:=λx hx e=>hbo (e▸hx)
 have hpr:=fun (x:Int) (x0:0<=x) (x1:x<tri.length) p hp=>(hG.rng x x0 x1 p hp).1
 -- what is fine stays fine
 have okm:∀(x:Int),0<=x->x<tri.length->∀c,c<=k'->((e_ tri x).filter (okT s.ord s.num c)).length<=((e_ tri x).filter (okT (s.ord++[b]) (s.num.set b.toNat k') c)).length:=λx x0 x1 c hc=>filter_mono λp hp hok=>by
  have hr:=hpr x x0 x1 p hp
  unfold okT at hok ⊢
  rw [decide_eq_true_eq] at hok ⊢
  have one:∀e:Int,0<=e->(e∈s.ord->c<=e_ s.num e)->e∈s.ord++[b]->c<=e_ (s.num.set b.toNat k') e:=λe e0 he hm=>by
   by_cases e2:e=b
   ·rw [e2,nb];exact hc
   rw [nx e e0 e2]
   rcases List.mem_append.1 hm with hm|hm
   ·exact he hm
   exact absurd (List.mem_singleton.1 hm) e2
  exact ⟨one _ (by omega) hok.1,one _ (by omega) hok.2⟩
 -- what is left is fine at every level
 have live:∀(x:Int),0<=x->x<tri.length->∀c,((e_ tri x).filter (liveT s.gone)).length<=((e_ tri x).filter (okT s.ord s.num c)).length:=λx x0 x1 c=>filter_mono λp hp hl=>by
  have hr:=hpr x x0 x1 p hp
  unfold liveT at hl
  unfold okT
  simp only [Bool.and_eq_true,Bool.not_eq_true'] at hl
  refine decide_eq_true ⟨λhm=>?_,λhm=>?_⟩
  ·rw [(h.gone p.u (by omega)<|by omega).2 hm] at hl;cases hl.1
  rw [(h.gone p.v (by omega)<|by omega).2 hm] at hl;cases hl.2
 have hb':k'<=(((e_ tri b).filter (okT s.ord s.num k')).length:Int):=by
  by_cases hc:s.k<=e_ s.sup b
  ·have h1:=live b b0 b1 k'
   unfold cntT at hsb
   omega
  have h1:=h.rest b b0 b1 hbo
  rw [show k'=s.k by omega];exact h1
 refine ⟨λx x0 x1=>?_,λx hx=>?_,?_,λx hx=>?_,?_,λpre x post e=>?_,λx hx=>?_,λx x0 x1 hx=>?_⟩
 ·show e_ (s.gone.set b.toNat true) x=true↔x∈s.ord++[b]
  rw [at_set _ b x _ b0 x0 (by omega),List.mem_append,List.mem_singleton]
  by_cases e:b=x
  ·rw [if_pos e];simp [e]
  rw [if_neg e,h.gone x x0 x1];exact ⟨.inl,λh=>h.resolve_right λe2=>e e2.symm⟩
 ·rcases List.mem_append.1 hx with hx|hx
  ·exact h.rng x hx
  rw [List.mem_singleton.1 hx];exact ⟨b0,b1⟩
 ·exact List.nodup_append.2 ⟨h.nodup,by simp,λa ha c hc e=>by rw [List.mem_singleton.1 hc] at e;exact hbo<|e▸ha⟩
 ·show e_ (s.num.set b.toNat k') x<=k'
  rcases List.mem_append.1 hx with hx|hx
  ·rw [nx x (h.rng x hx).1 (ne x hx)];have:=h.le x hx;omega
  rw [List.mem_singleton.1 hx,nb];exact Int.le_refl _
 ·refine List.pairwise_append.2 ⟨List.Pairwise.imp_of_mem (fun {a c} ha hc hac=>?_) h.asc,by simp,λa ha c hc=>?_⟩
  ·rw [nx a (h.rng a ha).1 (ne a ha),nx c (h.rng c hc).1 (ne c hc)];exact hac
  rw [List.mem_singleton.1 hc,nb,nx a (h.rng a ha).1 (ne a ha)];have:=h.le a ha;omega
 ·show _<=e_ (s.num.set b.toNat k') x
  have e:s.ord++[b]=pre++x::post:=e
  rcases List.eq_nil_or_concat post with rfl|⟨q,y,rfl⟩
  ·have e1:=List.append_inj' e rfl
   have e2:b=x:=by have:=e1.2;simp at this;exact this
   subst e2
   rw [nb,←e1.1]
   have hf:((e_ tri b).filter (outT<|s.ord++[b])).length<=((e_ tri b).filter (liveT s.gone)).length:=filter_mono λp hp ho=>by
    have hr:=hpr b b0 b1 p hp
    unfold outT at ho
    unfold liveT
    rw [decide_eq_true_eq] at ho
    have one:∀e:Int,0<=e->e<tri.length->e∉s.ord++[b]->e_ s.gone e=false:=λe e0 e1 hn=>by
     cases hg:e_ s.gone e with
     |false=>rfl
     |true=>exact absurd (List.mem_append_left _<|(h.gone e e0 e1).1 hg) hn
    rw [one _ (by omega) (by omega) ho.1,one _ (by omega) (by omega) ho.2];rfl
   unfold cntT at hsb
   omega
  rw [List.concat_eq_append] at e
  have e':s.ord++[b]=(pre++x::q)++[y]:=by rw [e];simp
  have e1:=List.append_inj' e' rfl
  have hx:x∈s.ord:=by rw [e1.1];simp
  rw [nx x (h.rng x hx).1 (ne x hx)]
  exact h.later pre x q e1.1
 ·show e_ (s.num.set b.toNat k') x<=(((e_ tri x).filter (okT (s.ord++[b]) (s.num.set b.toNat k')<|e_ (s.num.set b.toNat k') x)).length:Int)
  rcases List.mem_append.1 hx with hx|hx
  ·have hr:=h.rng x hx
   rw [nx x hr.1 (ne x hx)]
   have h1:=h.high x hx
   have h2:=okm x hr.1 hr.2 (e_ s.num x) (by have:=h.le x hx;omega)
   omega
  rw [List.mem_singleton.1 hx,nb]
  have h2:=okm b b0 b1 k' (Int.le_refl _)
  omega
 show k'<=(((e_ tri x).filter (okT (s.ord++[b]) (s.num.set b.toNat k') k')).length:Int)
 have hx1:x∉s.ord:=λhm=>hx (List.mem_append_left _ hm)
 have hgx:e_ s.gone x=false:=by
  cases hg:e_ s.gone x with
  |false=>rfl
  |true=>exact absurd ((h.gone x x0 x1).1 hg) hx1
 have h2:=okm x x0 x1 k' (Int.le_refl _)
 by_cases hc:s.k<=e_ s.sup b
 ·have h1:=live x x0 x1 k'
  have h3:=hS x x0 x1 hgx
  obtain ⟨i,rfl⟩:=Int.eq_ofNat_of_zero_le x0
  have h4:=hbl i (by omega) hgx
  unfold cntT at h3
  omega
 have h1:=h.rest x x0 x1 hx1
 rw [show k'=s.k by omega] at h2 ⊢
 omega
theorem runTr_I{tri:List (List Pt)}(Z:TriG tri)(h:TriOk m tri):∀j,j<=tri.length->SupI tri (runTr tri j)/\RunI tri (runTr tri j)
 |0,_=>⟨SupI.start tri,RunI.start tri⟩
 |j+1,hj=>by
  obtain ⟨M,h2⟩:=runTr_I Z h j (by omega)
  have hs:=runTr_ok h j (by omega)
  exact ⟨M.step Z hs<|by omega,h2.step Z hs (by omega) M⟩
structure TrussE (tri:List (List Pt)) (num ord:List Int):Prop where
 nlen:num.length=tri.length
 olen:ord.length=tri.length
 nodup:ord.Nodup
 rng:∀x∈ord,0<=x/\x<tri.length
 asc:∀i:Nat,i+1<ord.length->e_ num (e_ ord i)<=e_ num (e_ ord ((i+1:Nat):Int))
 later:∀i:Nat,i<ord.length->(((e_ tri<|e_ ord i).filter λp=>decide<|p.u∈List.drop (i+1) ord/\p.v∈List.drop (i+1) ord).length:Int)<=e_ num (e_ ord i)
 high:∀i:Nat,i<ord.length->e_ num (e_ ord i)<=(((e_ tri<|e_ ord i).filter λp=>decide<|e_ num (e_ ord i)<=e_ num p.u/\e_ num (e_ ord i)<=e_ num p.v).length:Int)
theorem trussE{tri:List (List Pt)}(hG:TriG tri)(h:TriOk m tri):TrussE tri (trussN tri) (trussO tri):=by
 have hs:=runTr_ok h tri.length (Nat.le_refl _)
 obtain ⟨_,Z⟩:=runTr_I hG h tri.length (Nat.le_refl _)
 have ad:(trussO tri).length=tri.length:=hs.olen
 have M:∀x:Int,0<=x->x<tri.length->x∈trussO tri:=λx x0 x1=>by
  have hc:=hs.cnt
  have h0:(runTr tri tri.length).gone.count false=0:=by omega
  refine (Z.gone x x0 x1).1 ?_
  cases hg:e_ (runTr tri tri.length).gone x with
  |true=>rfl
  |false=>
   exfalso
   have hm:=at_mem (xs:=(runTr tri tri.length).gone) x0 (by have:=hs.glen;omega)
   rw [hg] at hm
   have:=List.count_pos_iff.2 hm
   omega
 have ae:=fun (x:Int) (hx:x∈trussO tri) p hp=>(hG.rng x (Z.rng x hx).1 (Z.rng x hx).2 p hp).1
 refine ⟨hs.nlen,ad,Z.nodup,Z.rng,λi hi=>?_,λi hi=>?_,λi hi=>?_⟩
 ·rw [at_get _ i (by omega),at_get _ (i+1) hi]
  exact (List.pairwise_iff_getElem.1 Z.asc) i (i+1) (by show i<(trussO tri).length;omega) hi<|by omega
 ·have aa:trussO tri=(trussO tri).take i++e_ (trussO tri) i::(trussO tri).drop (i+1):=by
   rw [at_get _ i hi,←List.drop_eq_getElem_cons hi,List.take_append_drop]
  have h1:=Z.later _ _ _ aa
  refine Int.le_trans (Int.ofNat_le.2<|filter_mono λp hp ho=>?_) h1
  unfold outT
  rw [decide_eq_true_eq] at ho ⊢
  have hn:=Z.nodup
  have ab:(trussO tri).Nodup:=hn
  rw [aa] at ab
  have hd:=(List.nodup_append.1 ab)
  have one:∀e,e∈List.drop (i+1) (trussO tri)->e∉(trussO tri).take i++[e_ (trussO tri) i]:=λe he hm=>by
   rcases List.mem_append.1 hm with hm|hm
   ·exact hd.2.2 e hm e (List.mem_cons_of_mem _ he) rfl
   rw [List.mem_singleton.1 hm] at he
   exact (List.nodup_cons.1 hd.2.1).1 he
  exact ⟨one _ ho.1,one _ ho.2⟩
 have hx:=at_mem (xs:=trussO tri) (i:=(i:Int)) (by omega) (by omega)
 refine Int.le_trans (Z.high _ hx)<|Int.ofNat_le.2<|filter_mono λp hp ho=>?_
 have hr:=ae _ hx p hp
 unfold okT at ho
 rw [decide_eq_true_eq] at ho ⊢
 exact ⟨ho.1<|M _ (by omega)<|by omega,ho.2<|M _ (by omega)<|by omega⟩
end Go.Sl
