/- A part of the proofs of statements of this seat: contracts of functions, and the plain laws that they lean on. No conditions. -/
import Derived.Test.YtfkcohmipjhfcaaGreatDoorH3
import Derived.Test.YtfkcohmipjhfcaaGreatDoorProg
set_option linter.unusedVariables false
set_option linter.unusedSimpArgs false
set_option linter.unusedSectionVars false
namespace Go.Sl
structure GrOk (nodes:Int) (es:List Pt):Prop where
 rng:0≤nodes∧nodes≤64
 asc:AscP es
 edge:∀e∈es,0≤e.u∧e.u<e.v∧e.v<nodes
def badE(nodes:Int)(e:Pt):Int:=if e.u<0∨e.v≤e.u∨nodes≤e.v then 6 else 0
def checkG(nodes:Int)(es:List Pt):Int:=if nodes<0∨64<nodes then 1 else scanL (badE nodes) Pt.lt none es
theorem badE_zero{nodes:Int}{e:Pt}:badE nodes e=0↔0≤e.u∧e.u<e.v∧e.v<nodes:=by
 unfold badE;split<;>omega
theorem checkG_ok{nodes:Int}{es:List Pt}:checkG nodes es=0↔GrOk nodes es:=by
 unfold checkG
 split
 ·rename_i h
  exact ⟨fun e=>by omega,fun e=>by have:=e.rng;omega⟩
 ·rename_i h
  rw [scanL_zero Pt.lin]
  constructor
  ·rintro ⟨h1,h2⟩;exact ⟨by omega,h2,fun e he=>badE_zero.1 (h1 e he)⟩
  ·intro h1;exact ⟨fun e he=>badE_zero.2 (h1.edge e he),h1.asc⟩
variable {nodes:Int}{es:List Pt}
theorem GrOk.at(h:GrOk nodes es){k:Nat}(hk:k<es.length):0≤(at_ es (k:Int)).u∧(at_ es (k:Int)).u<(at_ es (k:Int)).v∧(at_ es (k:Int)).v<nodes:=h.edge _ (at_mem (by omega) (by omega))
theorem asc_nodup{l:List Pt}(h:AscP l):l.Nodup:=h.imp fun {a b} h e=>Pt.lin.ne h e
end Go.Sl
namespace Go.Sl
theorem Pt.cmp_zero(a b:Pt):Pt.cmp a b=0↔a=b:=by
 rw [Pt.ext_iff']
 unfold Pt.cmp
 split<;>(try split)<;>(try split)<;>(try split)<;>omega
end Go.Sl
namespace Go.Sl
set_option maxRecDepth 10000
instance:Enc (BitVec 64):=⟨fun b=>[U64 b],1,by omega,fun _=>rfl,fun _ u h=>by simp at h;subst h;rfl⟩
def addRow(rows:List (BitVec 64))(e:Pt):List (BitVec 64):=
 if 0≤e.u∧e.u<e.v∧e.v<rows.length then
  (rows.set e.u.toNat (at_ rows e.u ||| 1#64 <<< e.v.toNat)).set e.v.toNat (at_ (rows.set e.u.toNat (at_ rows e.u ||| 1#64 <<< e.v.toNat)) e.v ||| 1#64 <<< e.u.toNat)
 else rows
def rows0(nd:Int):List (BitVec 64):=List.replicate (min (max nd 0) 64).toNat 0#64
def rowsB(nd:Int)(es:List Pt):List (BitVec 64):=es.foldl addRow (rows0 nd)
theorem addRow_len(rows:List (BitVec 64))(e:Pt):(addRow rows e).length=rows.length:=by
 unfold addRow;split<;>simp
theorem rowsB_take{nd:Int}{es:List Pt}{k:Nat}(h:k<es.length):rowsB nd (es.take (k+1))=addRow (rowsB nd (es.take k)) (at_ es (k:Int)):=by
 unfold rowsB;rw [take_at es k h,List.foldl_append];rfl
theorem rowsB_len(nd:Int)(es:List Pt):(rowsB nd es).length=(min (max nd 0) 64).toNat:=by
 unfold rowsB
 have:∀(es:List Pt) (r:List (BitVec 64)),(es.foldl addRow r).length=r.length:=fun es=>by
  induction es with
  |nil=>intro r;rfl
  |cons e es ih=>intro r;rw [List.foldl_cons,ih,addRow_len]
 rw [this];simp [rows0]
theorem at_rep64(n:Nat)(i:Int):at_ (List.replicate n (0#64)) i=0#64:=by
 unfold at_
 rw [List.getD_eq_getElem?_getD,List.getElem?_replicate]
 split<;>rfl
structure RowsOk (nd:Int) (es:List Pt) (rows:List (BitVec 64)):Prop where
 len:(rows.length:Int)=nd
 bit:∀v w:Int,0≤v→v<nd→0≤w→w<64→((at_ rows v).getLsbD w.toNat=decide ((⟨v,w⟩:Pt)∈es∨(⟨w,v⟩:Pt)∈es))
theorem RowsOk.start{nd:Int}(h:0≤nd∧nd≤64):RowsOk nd [] (rows0 nd):=
 ⟨by unfold rows0;simp;omega,fun v w _ _ _ _=>by unfold rows0;rw [at_rep64];simp⟩
theorem addRow_at{rows:List (BitVec 64)}{e:Pt}(h:0≤e.u∧e.u<e.v∧e.v<rows.length)(j:Int)(h0:0≤j)(h1:j<rows.length) :
  at_ (addRow rows e) j=if e.v=j then at_ rows e.v ||| 1#64 <<< e.u.toNat else if e.u=j then at_ rows e.u ||| 1#64 <<< e.v.toNat else at_ rows j:=by
 unfold addRow
 rw [if_pos h,at_set _ e.v j _ (by omega) h0 (by rw [List.length_set];omega)]
 by_cases hv:e.v=j
 ·rw [if_pos hv,if_pos hv,at_set _ e.u e.v _ (by omega) (by omega) (by omega),if_neg (by omega)]
 ·rw [if_neg hv,if_neg hv,at_set _ e.u j _ (by omega) h0 (by omega)]
theorem getLsb_shl(a i:Nat)(hi:i<64):(1#64 <<< a).getLsbD i=decide (a=i):=by
 show (BitVec.twoPow 64 a).getLsbD i=_
 rw [BitVec.getLsbD_twoPow]
 by_cases h:a=i
 ·subst h;simp [hi]
 ·simp [h]
theorem RowsOk.push{nd:Int}{es:List Pt}{rows:List (BitVec 64)}{e:Pt}(h:RowsOk nd es rows)(he:0≤e.u∧e.u<e.v∧e.v<nd)(hn:nd≤64):RowsOk nd (es++[e]) (addRow rows e):=by
 have hl:=h.len
 refine ⟨by rw [addRow_len];exact hl,fun v w v0 v1 w0 w1=>?_⟩
 rw [addRow_at (by omega) v v0 (by omega)]
 have hb:=h.bit v w v0 v1 w0 w1
 have hext:∀a b:Int,((⟨a,b⟩:Pt)=e)↔(a=e.u∧b=e.v):=fun a b=>by rw [Pt.ext_iff']
 simp only [List.mem_append,List.mem_singleton,hext]
 by_cases hv:e.v=v
 ·rw [if_pos hv,BitVec.getLsbD_or,getLsb_shl _ _ (by omega),hv,hb]
  have e1:(e.u.toNat=w.toNat)↔(w=e.u∧v=e.v):=by omega
  have e2:¬(v=e.u∧w=e.v):=by omega
  rw [decide_eq_decide.2 e1]
  rw [←Bool.decide_or,decide_eq_decide]
  constructor
  ·rintro ((a|b)|c)
   ·exact .inl (.inl a)
   ·exact .inr (.inl b)
   ·exact .inr (.inr ⟨c.1,rfl⟩)
  ·rintro ((a|c)|(b|c))
   ·exact .inl (.inl a)
   ·exact absurd c (fun c=>by omega)
   ·exact .inl (.inr b)
   ·exact .inr ⟨c.1,hv.symm⟩
 ·rw [if_neg hv]
  by_cases hu:e.u=v
  ·rw [if_pos hu,BitVec.getLsbD_or,getLsb_shl _ _ (by omega),hu,hb]
   have e1:(e.v.toNat=w.toNat)↔(v=e.u∧w=e.v):=by omega
   have e2:¬(w=e.u∧v=e.v):=by omega
   rw [decide_eq_decide.2 e1]
   rw [←Bool.decide_or,decide_eq_decide]
   constructor
   ·rintro ((a|b)|c)
    ·exact .inl (.inl a)
    ·exact .inr (.inl b)
    ·exact .inl (.inr ⟨rfl,c.2⟩)
   ·rintro ((a|c)|(b|c))
    ·exact .inl (.inl a)
    ·exact .inr ⟨hu.symm,c.2⟩
    ·exact .inl (.inr b)
    ·exact absurd c (fun c=>by omega)
  ·rw [if_neg hu,hb]
   have e1:¬(v=e.u∧w=e.v):=by omega
   have e2:¬(w=e.u∧v=e.v):=by omega
   simp [e1,e2]
theorem rowsB_ok{nd:Int}{es:List Pt}(h:GrOk nd es):∀k,k≤es.length→RowsOk nd (es.take k) (rowsB nd (es.take k))
 |0,_=>by simpa [rowsB] using RowsOk.start h.rng
 |k+1,hk=>by
  rw [rowsB_take (by omega),take_at es k (by omega)]
  exact (rowsB_ok h k (by omega)).push (h.at (by omega)) h.rng.2
theorem GrOk.rows{nd:Int}{es:List Pt}(h:GrOk nd es):RowsOk nd es (rowsB nd es):=by
 have:=rowsB_ok h es.length (Nat.le_refl _)
 rwa [List.take_length] at this
end Go.Sl
namespace Go.Sl
theorem mem_andB{a b:BitVec 64}{u:Int}:u∈listB (a &&& b)↔u∈listB a∧u∈listB b:=by
 simp only [mem_listB,BitVec.getLsbD_and,Bool.and_eq_true]
 constructor
 ·rintro ⟨h1,h2,h3⟩;exact ⟨⟨h1,h2⟩,h1,h3⟩
 ·rintro ⟨⟨h1,h2⟩,_,h3⟩;exact ⟨h1,h2,h3⟩
theorem listB_lt{m:BitVec 64}{u:Int}(h:u∈listB m):0≤u∧u<64:=by
 rw [mem_listB] at h
 refine ⟨h.1,Classical.byContradiction fun hn=>?_⟩
 rw [BitVec.getLsbD_of_ge _ _ (by omega)] at h
 exact absurd h.2 (by simp)
theorem mem_orbit{m:BitVec 64}{u k:Int}(h0:0≤k)(h1:k<64):u∈listB (m ||| 1#64 <<< k.toNat)↔u∈listB m∨u=k:=by
 constructor
 ·intro h
  have hu:=listB_lt h
  rw [mem_listB,BitVec.getLsbD_or,getLsb_shl _ _ (by omega),Bool.or_eq_true,decide_eq_true_eq] at h
  rw [mem_listB]
  rcases h.2 with h2|h2
  ·exact .inl ⟨h.1,h2⟩
  ·exact .inr (by omega)
 ·intro h
  have hu:0≤u∧u<64:=h.elim listB_lt fun h=>by omega
  rw [mem_listB,BitVec.getLsbD_or,getLsb_shl _ _ (by omega),Bool.or_eq_true,decide_eq_true_eq]
  rw [mem_listB] at h
  exact ⟨hu.1,h.elim (fun h=> .inl h.2) fun h=> .inr (by omega)⟩
theorem mem_minus{m:BitVec 64}{u k:Int}(h0:0≤k):u∈listB (m &&& ~~~(1#64 <<< k.toNat))↔u∈listB m∧u≠k:=by
 constructor
 ·intro h
  have hu:=listB_lt h
  rw [mem_listB,BitVec.getLsbD_and,BitVec.getLsbD_not,getLsb_shl _ _ (by omega),Bool.and_eq_true] at h
  rw [mem_listB]
  refine ⟨⟨h.1,h.2.1⟩,fun e=>?_⟩
  have h3:=h.2.2
  rw [e] at h3
  simp at h3
 ·rintro ⟨h,hne⟩
  have hu:=listB_lt h
  rw [mem_listB] at h
  rw [mem_listB,BitVec.getLsbD_and,BitVec.getLsbD_not,getLsb_shl _ _ (by omega),Bool.and_eq_true]
  refine ⟨h.1,h.2,?_⟩
  rw [decide_eq_false (show ¬k.toNat=u.toNat by omega)]
  simp;omega
theorem listB_nodup(m:BitVec 64):(listB m).Nodup:=(listB_asc m).imp fun h=>by omega
theorem listB_perm{m:BitVec 64}{k:Int}(h:k∈listB m):(listB m).Perm (k::listB (m &&& ~~~(1#64 <<< k.toNat))):=by
 have h0:=(listB_lt h).1
 refine (List.perm_ext_iff_of_nodup (listB_nodup _) (List.nodup_cons.2 ⟨fun e=>((mem_minus h0).1 e).2 rfl,listB_nodup _⟩)).2 fun u=>?_
 rw [List.mem_cons,mem_minus h0]
 by_cases e:u=k
 ·subst e;simp [h]
 ·simp [e]
theorem listB_minus{m:BitVec 64}{k:Int}(h:k∈listB m):(listB m).length=(listB (m &&& ~~~(1#64 <<< k.toNat))).length+1:=(listB_perm h).length_eq
theorem minus_same{m:BitVec 64}{k:Int}(h0:0≤k)(h:k∉listB m):(listB (m &&& ~~~(1#64 <<< k.toNat))).length=(listB m).length:=by
 refine ((List.perm_ext_iff_of_nodup (listB_nodup _) (listB_nodup _)).2 fun u=>?_).length_eq
 rw [mem_minus h0]
 exact ⟨fun h=>h.1,fun hu=>⟨hu,fun e=>h (e▸hu)⟩⟩
theorem nz_listB{m:BitVec 64}:m≠0#64↔∃u,u∈listB m:=by
 constructor
 ·intro h;exact ⟨_,by rw [listB_step h];exact List.mem_cons_self⟩
 ·rintro ⟨u,hu⟩ rfl
  rw [listB_zero] at hu;cases hu
theorem tzB_le{m:BitVec 64}(h:m≠0#64):tzB m∈listB m∧∀u∈listB m,tzB m≤u:=by
 have e:=listB_step h
 refine ⟨by rw [e];exact List.mem_cons_self,fun u hu=>?_⟩
 have ha:=listB_asc m
 rw [e] at ha hu
 rcases List.mem_cons.1 hu with rfl|hu
 ·exact Int.le_refl _
 ·have:=(List.pairwise_cons.1 ha).1 u hu;omega
def degB(rows:List (BitVec 64))(left:BitVec 64)(v:Int):Nat:=(listB (at_ rows v &&& left)).length
structure Takes (rows:List (BitVec 64)) (left:BitVec 64) (v:Int):Prop where
 mem:v∈listB left
 le:∀u∈listB left,degB rows left v<degB rows left u∨(degB rows left v=degB rows left u∧v≤u)
theorem Takes.uniq{rows:List (BitVec 64)}{left:BitVec 64}{v v':Int}(h:Takes rows left v)(h':Takes rows left v'):v=v':=by
 have a:=h.le v' h'.mem
 have b:=h'.le v h.mem
 omega
theorem fold_least(f:Int→Nat):∀(l:List Int) (b:Int),(∀u∈l,b≤u)→l.Pairwise (· < ·)→
    ((l.foldl (fun b v=>if f v<f b then v else b) b=b∨l.foldl (fun b v=>if f v<f b then v else b) b∈l)∧
     (f (l.foldl (fun b v=>if f v<f b then v else b) b)<f b∨l.foldl (fun b v=>if f v<f b then v else b) b=b)∧
     ∀u∈l,f (l.foldl (fun b v=>if f v<f b then v else b) b)<f u∨(f (l.foldl (fun b v=>if f v<f b then v else b) b)=f u∧l.foldl (fun b v=>if f v<f b then v else b) b≤u))
  |[],b,_,_=>⟨.inl rfl,.inr rfl,fun u hu=>by cases hu⟩
  |x::xs,b,hb,hp=>by
    obtain ⟨hx,hp'⟩:=List.pairwise_cons.1 hp
    have hbx:=hb x List.mem_cons_self
    rw [List.foldl_cons]
    by_cases hc:f x<f b
    · rw [if_pos hc]
      obtain ⟨h1,h2,h3⟩:=fold_least f xs x (fun u hu=>by have:=hx u hu;omega) hp'
      generalize xs.foldl (fun b v=>if f v<f b then v else b) x=r at h1 h2 h3
      refine ⟨.inr (h1.elim (fun e=>e▸List.mem_cons_self) fun h=>List.mem_cons_of_mem _ h),.inl (h2.elim (fun h=>by omega) fun h=>by rw [h];exact hc),fun u hu=>?_⟩
      rcases List.mem_cons.1 hu with rfl|hu
      · exact h2.elim .inl fun h=> .inr ⟨by rw [h],by omega⟩
      · exact h3 u hu
    · rw [if_neg hc]
      obtain ⟨h1,h2,h3⟩:=fold_least f xs b (fun u hu=>hb u (List.mem_cons_of_mem _ hu)) hp'
      generalize xs.foldl (fun b v=>if f v<f b then v else b) b=r at h1 h2 h3
      refine ⟨h1.imp_right fun h=>List.mem_cons_of_mem _ h,h2,fun u hu=>?_⟩
      rcases List.mem_cons.1 hu with rfl|hu
      · rcases h2 with h|h
        · exact .inl (by omega)
        · rw [h];omega
      · exact h3 u hu
def takeF(rows:List (BitVec 64))(left:BitVec 64):Int:=(listB left).foldl (fun b v=>if degB rows left v<degB rows left b then v else b) ((listB left).headD 0)
theorem takeF_takes{rows:List (BitVec 64)}{left:BitVec 64}(h:left≠0#64):Takes rows left (takeF rows left):=by
 have e:=listB_step h
 have ha:=listB_asc left
 unfold takeF
 have hh:(listB left).headD 0=tzB left:=by rw [e];rfl
 rw [hh]
 obtain ⟨h1,_,h3⟩:=fold_least (degB rows left) (listB left) (tzB left) (tzB_le h).2 ha
 refine ⟨?_,h3⟩
 rcases h1 with h1|h1
 ·rw [h1];exact (tzB_le h).1
 ·exact h1
def coreF(rows:List (BitVec 64)):Nat→BitVec 64→Nat→List (Int×Nat)
 |0,_,_=>[]
 |n+1,left,k=>(takeF rows left,max k (degB rows left (takeF rows left)))::coreF rows n (left &&& ~~~(1#64 <<< (takeF rows left).toNat)) (max k (degB rows left (takeF rows left)))
def coreR(rows:List (BitVec 64))(left:BitVec 64)(k:Nat):List (Int×Nat):=coreF rows (listB left).length left k
theorem coreR_zero(rows:List (BitVec 64))(k:Nat):coreR rows 0#64 k=[]:=by unfold coreR;rw [listB_zero];rfl
theorem coreR_step{rows:List (BitVec 64)}{left:BitVec 64}{k:Nat}{v:Int}(h:Takes rows left v):coreR rows left k=(v,max k (degB rows left v))::coreR rows (left &&& ~~~(1#64 <<< v.toNat)) (max k (degB rows left v)):=by
 have hv:takeF rows left=v:=(takeF_takes (nz_listB.2 ⟨v,h.mem⟩)).uniq h
 unfold coreR
 rw [listB_minus h.mem]
 show (takeF rows left,_)::_=_
 rw [hv]
def ordL(l:List (Int×Nat)):List Int:=l.map fun p=>p.1
def numL(n:Nat)(l:List (Int×Nat)):List Int:=l.foldl (fun xs p=>xs.set p.1.toNat (p.2:Int)) (List.replicate n 0)
theorem numL_len(n:Nat)(l:List (Int×Nat)):(numL n l).length=n:=by
 unfold numL
 have:∀(l:List (Int×Nat)) (xs:List Int),(l.foldl (fun xs p=>xs.set p.1.toNat (p.2:Int)) xs).length=xs.length:=fun l=>by
  induction l with
  |nil=>intro xs;rfl
  |cons p l ih=>intro xs;rw [List.foldl_cons,ih,List.length_set]
 rw [this,List.length_replicate]
theorem numL_snoc(n:Nat)(l:List (Int×Nat))(v:Int)(k:Nat):numL n (l++[(v,k)])=(numL n l).set v.toNat (k:Int):=by
 unfold numL;rw [List.foldl_append];rfl
theorem ordL_snoc(l:List (Int×Nat))(v:Int)(k:Nat):ordL (l++[(v,k)])=ordL l++[v]:=by
 unfold ordL;rw [List.map_append];rfl
theorem coreF_bound{rows:List (BitVec 64)}{m:Nat}(hd:∀left v,degB rows left v≤m):∀(n:Nat) (left:BitVec 64) (k:Nat),k≤m→∀p∈coreF rows n left k,p.2≤m
 |0,_,_,_,p,hp=>by cases hp
 |n+1,left,k,hk,p,hp=>by
  have h1:=hd left (takeF rows left)
  rcases List.mem_cons.1 hp with rfl|hp
  ·show max k _≤m;omega
  ·exact coreF_bound hd n _ _ (by omega) p hp
structure SymB (n:Nat) (rows:List (BitVec 64)):Prop where
 len:rows.length=n
 le:n≤64
 lt:∀u v:Int,0≤u→u<n→v∈listB (at_ rows u)→v<n
 sym:∀u v:Int,0≤u→u<n→v∈listB (at_ rows u)→u∈listB (at_ rows v)
 irr:∀u:Int,0≤u→u<n→u∉listB (at_ rows u)
theorem RowsOk.mem{nd:Int}{es:List Pt}{rows:List (BitVec 64)}(h:RowsOk nd es rows){u v:Int}(u0:0≤u)(u1:u<nd):v∈listB (at_ rows u)↔(0≤v∧v<64)∧((⟨u,v⟩:Pt)∈es∨(⟨v,u⟩:Pt)∈es):=by
 constructor
 ·intro hv
  have hr:=listB_lt hv
  rw [mem_listB,h.bit u v u0 u1 hr.1 hr.2,decide_eq_true_eq] at hv
  exact ⟨hr,hv.2⟩
 ·rintro ⟨hr,hv⟩
  rw [mem_listB,h.bit u v u0 u1 hr.1 hr.2,decide_eq_true_eq]
  exact ⟨hr.1,hv⟩
theorem RowsOk.symB{nd:Int}{es:List Pt}{rows:List (BitVec 64)}(h:RowsOk nd es rows)(hG:GrOk nd es):SymB nd.toNat rows:=by
 have hr:=hG.rng
 have hl:=h.len
 have ed:∀a b:Int,((⟨a,b⟩:Pt)∈es)→0≤a∧a<b∧b<nd:=fun a b hm=>hG.edge _ hm
 refine ⟨by omega,by omega,fun u v u0 u1 hv=>?_,fun u v u0 u1 hv=>?_,fun u u0 u1 hv=>?_⟩
 ·have:=((h.mem u0 (by omega)).1 hv).2
  rcases this with e|e<;>have:=ed _ _ e<;>omega
 ·obtain ⟨h1,h2⟩:=(h.mem u0 (by omega)).1 hv
  have h3:v<nd:=by rcases h2 with e|e<;>have:=ed _ _ e<;>omega
  exact (h.mem h1.1 h3).2 ⟨⟨u0,by omega⟩,h2.symm⟩
 ·have:=((h.mem u0 (by omega)).1 hv).2
  rcases this with e|e<;>have:=ed _ _ e<;>omega
section
variable {n:Nat}{rows:List (BitVec 64)}
theorem degB_lt(h:SymB n rows)(left:BitVec 64){v:Int}(v0:0≤v)(v1:v<n):degB rows left v<n:=by
 unfold degB
 have hs:(v::listB (at_ rows v &&& left)).Nodup:=List.nodup_cons.2 ⟨fun hm=>h.irr v v0 v1 (mem_andB.1 hm).1,listB_nodup _⟩
 have hsub:∀x∈(v::listB (at_ rows v &&& left)),x∈(List.range n).map fun (i:Nat)=>(i:Int):=fun x hx=>by
  rw [List.mem_map]
  rcases List.mem_cons.1 hx with rfl|hx
  ·exact ⟨x.toNat,List.mem_range.2 (by omega),by omega⟩
  ·have h1:=(mem_andB.1 hx).1
   have h2:=h.lt v x v0 v1 h1
   have h3:=(listB_lt h1).1
   exact ⟨x.toNat,List.mem_range.2 (by omega),by omega⟩
 have:=List.Nodup.length_le_of_subset hs hsub
 rw [List.length_map,List.length_range,List.length_cons] at this
 omega
theorem degB_minus(h:SymB n rows){left:BitVec 64}{u v:Int}(u0:0≤u)(u1:u<n)(v0:0≤v)(v1:v<n)(hv:v∈listB left) :
  degB rows left u=degB rows (left &&& ~~~(1#64 <<< v.toNat)) u+if u∈listB (at_ rows v) then 1 else 0:=by
 unfold degB
 rw [←BitVec.and_assoc]
 by_cases hm:u∈listB (at_ rows v)
 ·rw [if_pos hm]
  exact listB_minus (mem_andB.2 ⟨h.sym v u v0 v1 hm,hv⟩)
 ·rw [if_neg hm]
  exact (minus_same v0 fun e=>hm (h.sym u v u0 u1 (mem_andB.1 e).1)).symm
end
structure BkOk (n:Nat) (S:Int→Prop) (dg:Int→Nat) (dgs:List Int) (bks:List (BitVec 64)):Prop where
 dlen:dgs.length=n
 blen:bks.length=64
 rng:∀u,S u→0≤u∧u<n
 deg:∀u,S u→at_ dgs u=(dg u:Int)
 bkt:∀d:Int,0≤d→d<64→∀u:Int,u∈listB (at_ bks d)↔S u∧(dg u:Int)=d
section
variable {n:Nat}{S S':Int→Prop}{dg dg':Int→Nat}{dgs:List Int}{bks:List (BitVec 64)}
theorem BkOk.start(n:Nat)(dg:Int→Nat):BkOk n (fun u=>0≤u∧u<((0:Nat):Int)) dg (List.replicate n 0) (List.replicate 64 0#64):=
 ⟨List.length_replicate,List.length_replicate,fun u hu=>by omega,fun u hu=>by omega,fun d d0 d1 u=>by
  rw [at_rep64,listB_zero]
  exact ⟨(fun h=>by cases h),fun h=>by omega⟩⟩
theorem BkOk.congr(h:BkOk n S dg dgs bks)(hS:∀u,S' u↔S u)(hd:∀u,S u→dg' u=dg u):BkOk n S' dg' dgs bks:=
 ⟨h.dlen,h.blen,fun u hu=>h.rng u ((hS u).1 hu),fun u hu=>by rw [h.deg u ((hS u).1 hu),hd u ((hS u).1 hu)],fun d d0 d1 u=>by
  rw [h.bkt d d0 d1 u,hS]
  constructor
  ·rintro ⟨h1,h2⟩;exact ⟨h1,by rw [hd u h1];exact h2⟩
  ·rintro ⟨h1,h2⟩;exact ⟨h1,by rw [←hd u h1];exact h2⟩⟩
theorem BkOk.push(h:BkOk n S dg dgs bks){v c:Int}(v0:0≤v)(v1:v<n)(hn:n≤64)(hS:∀u,S' u↔S u∨u=v)(hv:¬S v)(hc:c=(dg v:Int))(c1:c<64) :
  BkOk n S' dg (dgs.set v.toNat c) (bks.set c.toNat (at_ bks c ||| 1#64 <<< v.toNat)):=by
 have hbl:=h.blen
 have hdl:=h.dlen
 refine ⟨by rw [List.length_set];exact hdl,by rw [List.length_set];exact hbl,fun u hu=>?_,fun u hu=>?_,fun d d0 d1 u=>?_⟩
 ·rcases (hS u).1 hu with hu|rfl
  ·exact h.rng u hu
  ·exact ⟨v0,v1⟩
 ·have hr:0≤u:=((hS u).1 hu).elim (fun hu=>(h.rng u hu).1) fun e=>by omega
  rw [at_set _ v u _ v0 hr (by omega)]
  rcases (hS u).1 hu with hu|rfl
  ·rw [if_neg (fun e=>hv (by rw [e];exact hu))];exact h.deg u hu
  ·rw [if_pos rfl,hc]
 ·rw [at_set _ c d _ (by omega) d0 (by omega),hS]
  by_cases e:c=d
  ·rw [if_pos e,mem_orbit v0 (by omega),e,h.bkt d d0 d1]
   constructor
   ·rintro (⟨h1,h2⟩|rfl)
    ·exact ⟨.inl h1,h2⟩
    ·exact ⟨.inr rfl,by omega⟩
   ·rintro ⟨h1|rfl,h2⟩
    ·exact .inl ⟨h1,h2⟩
    ·exact .inr rfl
  ·rw [if_neg e,h.bkt d d0 d1]
   constructor
   ·rintro ⟨h1,h2⟩;exact ⟨.inl h1,h2⟩
   ·rintro ⟨h1|rfl,h2⟩
    ·exact ⟨h1,h2⟩
    ·exact absurd (hc.trans h2) e
theorem BkOk.drop(h:BkOk n S dg dgs bks){v d:Int}(hv:S v)(hd:(dg v:Int)=d)(d1:d<64)(hS:∀u,S' u↔S u∧u≠v) :
  BkOk n S' dg dgs (bks.set d.toNat (at_ bks d &&& ~~~(1#64 <<< v.toNat))):=by
 have hbl:=h.blen
 have hr:=h.rng v hv
 refine ⟨h.dlen,by rw [List.length_set];exact hbl,fun u hu=>h.rng u ((hS u).1 hu).1,fun u hu=>h.deg u ((hS u).1 hu).1,fun c c0 c1 u=>?_⟩
 rw [at_set _ d c _ (by omega) c0 (by omega),hS]
 by_cases e:d=c
 ·rw [if_pos e,mem_minus hr.1,e,h.bkt c c0 c1]
  constructor
  ·rintro ⟨⟨h1,h2⟩,h3⟩;exact ⟨⟨h1,h3⟩,h2⟩
  ·rintro ⟨⟨h1,h3⟩,h2⟩;exact ⟨⟨h1,h2⟩,h3⟩
 ·rw [if_neg e,h.bkt c c0 c1]
  constructor
  ·rintro ⟨h1,h2⟩;exact ⟨⟨h1,fun e2=>e (by subst e2;omega)⟩,h2⟩
  ·rintro ⟨⟨h1,_⟩,h2⟩;exact ⟨h1,h2⟩
theorem BkOk.lower(h:BkOk n S dg dgs bks)(hn:n≤64){w e:Int}(hw:S w)(he:(dg w:Int)=e)(e0:1≤e)(e1:e<64)(hd:∀u,S u→dg' u=if u=w then dg u - 1 else dg u) :
  BkOk n S dg' (dgs.set w.toNat (e - 1)) ((bks.set e.toNat (at_ bks e &&& ~~~(1#64 <<< w.toNat))).set (e - 1).toNat (at_ (bks.set e.toNat (at_ bks e &&& ~~~(1#64 <<< w.toNat))) (e - 1) ||| 1#64 <<< w.toNat)):=by
 have hr:=h.rng w hw
 have h1:BkOk n (fun u=>S u∧u≠w) dg dgs _:=h.drop hw he e1 (S':=fun u=>S u∧u≠w) fun u=>Iff.rfl
 have h2:BkOk n (fun u=>S u∧u≠w) dg' dgs _:=h1.congr (fun u=>Iff.rfl) fun u hu=>by rw [hd u hu.1,if_neg hu.2]
 have hdw:=hd w hw
 rw [if_pos rfl] at hdw
 refine (h2.push (S':=S) hr.1 hr.2 hn (fun u=>?_) (fun h=>h.2 rfl) (by omega) (by omega):BkOk n S dg' (dgs.set w.toNat (e - 1)) _)
 constructor
 ·intro hu
  by_cases e:u=w
  ·exact .inr e
  ·exact .inl ⟨hu,e⟩
 ·rintro (hu|rfl)
  ·exact hu.1
  ·exact hw
theorem BkOk.takes{rows:List (BitVec 64)}{left:BitVec 64}(h:BkOk n (fun u=>u∈listB left) (degB rows left) dgs bks){d:Int}(d0:0≤d)(d1:d<64)(hd:at_ bks d≠0#64)(hlt:∀c:Int,0≤c→c<d→at_ bks c=0#64)(hdeg:∀u∈listB left,degB rows left u<64) :
  Takes rows left (tzB (at_ bks d))∧(degB rows left (tzB (at_ bks d)):Int)=d:=by
 obtain ⟨h1,h2⟩:=tzB_le hd
 obtain ⟨h3,h4⟩:=(h.bkt d d0 d1 _).1 h1
 refine ⟨⟨h3,fun u hu=>?_⟩,h4⟩
 have hb:=hdeg u hu
 rcases Int.lt_trichotomy (degB rows left u:Int) d with h5|h5|h5
 ·have h6:=(h.bkt (degB rows left u:Int) (by omega) (by omega) u).2 ⟨hu,rfl⟩
  rw [hlt _ (by omega) h5,listB_zero] at h6
  cases h6
 ·exact .inr ⟨by omega,h2 u ((h.bkt d d0 d1 u).2 ⟨hu,h5⟩)⟩
 ·exact .inl (by omega)
theorem BkOk.some{rows:List (BitVec 64)}{left:BitVec 64}(h:BkOk n (fun u=>u∈listB left) (degB rows left) dgs bks)(hl:left≠0#64)(hdeg:∀u∈listB left,degB rows left u<64)(hz:∀c:Int,0≤c→c<64→at_ bks c=0#64):False:=by
 obtain ⟨u,hu⟩:=nz_listB.1 hl
 have hb:=hdeg u hu
 have h6:=(h.bkt (degB rows left u:Int) (by omega) (by omega) u).2 ⟨hu,rfl⟩
 rw [hz _ (by omega) (by omega),listB_zero] at h6
 cases h6
end
def degM(rows:List (BitVec 64))(left:BitVec 64)(ws:List Int)(j:Nat)(u:Int):Nat:=if u∈ws.take j then degB rows left u - 1 else degB rows left u
theorem degM_zero(rows:List (BitVec 64))(left:BitVec 64)(ws:List Int)(u:Int):degM rows left ws 0 u=degB rows left u:=by unfold degM;rw [if_neg (by simp)]
theorem degM_succ{rows:List (BitVec 64)}{left:BitVec 64}{ws:List Int}{j:Nat}(hj:j<ws.length)(hn:ws.Nodup)(u:Int):degM rows left ws (j+1) u=if u=at_ ws (j:Int) then degM rows left ws j u - 1 else degM rows left ws j u:=by
 have hnot:at_ ws (j:Int)∉ws.take j:=by
  rw [at_get ws j hj]
  intro hm
  obtain ⟨i,hi,e⟩:=List.mem_iff_getElem.1 hm
  rw [List.length_take] at hi
  rw [List.getElem_take] at e
  exact (List.pairwise_iff_getElem.1 hn) i j (by omega) hj (by omega) e
 unfold degM
 rw [take_at ws j hj]
 simp only [List.mem_append,List.mem_singleton]
 by_cases e:u=at_ ws (j:Int)
 ·subst e
  rw [if_pos (.inr rfl),if_pos rfl,if_neg hnot]
 ·rw [if_neg e]
  by_cases h2:u∈ws.take j
  ·rw [if_pos (.inl h2),if_pos h2]
  ·rw [if_neg (by rintro (h3|h3);exact h2 h3;exact e h3),if_neg h2]
theorem degM_now{rows:List (BitVec 64)}{left:BitVec 64}{ws:List Int}{j:Nat}(hj:j<ws.length)(hn:ws.Nodup):degM rows left ws j (at_ ws (j:Int))=degB rows left (at_ ws (j:Int)):=by
 have h1:=degM_succ (rows:=rows) (left:=left) hj hn (at_ ws (j:Int))
 rw [if_pos rfl] at h1
 unfold degM at h1 ⊢
 split
 ·rename_i h2
  have hnot:at_ ws (j:Int)∉ws.take j:=by
   rw [at_get ws j hj]
   intro hm
   obtain ⟨i,hi,e⟩:=List.mem_iff_getElem.1 hm
   rw [List.length_take] at hi
   rw [List.getElem_take] at e
   exact (List.pairwise_iff_getElem.1 hn) i j (by omega) hj (by omega) e
  exact absurd h2 hnot
 ·rfl
theorem degM_all{n:Nat}{rows:List (BitVec 64)}(h:SymB n rows){left:BitVec 64}{v:Int}(v0:0≤v)(v1:v<n)(hv:v∈listB left){u:Int}(u0:0≤u)(u1:u<n)(hu:u∈listB (left &&& ~~~(1#64 <<< v.toNat))){j:Nat}(hj:(listB (at_ rows v &&& (left &&& ~~~(1#64 <<< v.toNat)))).length≤j) :
  degM rows left (listB (at_ rows v &&& (left &&& ~~~(1#64 <<< v.toNat)))) j u=degB rows (left &&& ~~~(1#64 <<< v.toNat)) u:=by
 have h1:=degB_minus h u0 u1 v0 v1 hv
 unfold degM
 rw [List.take_of_length_le hj]
 by_cases hm:u∈listB (at_ rows v)
 ·rw [if_pos (mem_andB.2 ⟨hm,hu⟩)];rw [if_pos hm] at h1;omega
 ·rw [if_neg (fun e=>hm (mem_andB.1 e).1)];rw [if_neg hm] at h1;omega
end Go.Sl
namespace Go.Sl
section
variable {P:Program}
def flatF(P:Program):List Field→Nat→Bool
 |[],_=>true
 | f :: fs, o => (f.name != "_") && (match P.underlying f.type with | some (.int .i64) => true | _ => false) && (f.offset == o) && flatF P fs (o + 1)
theorem run_eqFlat(d:Nat)(w:World)(ns ms:List Int):∀(fs:List Field) (o:Nat),flatF P fs o=true→ns.length=o+fs.length→ms.length=o+fs.length→
  (Op.eqFields (d+1) (ns.map I64).toArray (ms.map I64).toArray fs).run P w = .ok (decide (ns.drop o=ms.drop o)) w
 |[],o,_,hn,hm=>by
  have h1:ns.drop o=[]:=List.drop_eq_nil_of_le (by simp at hn;omega)
  have h2:ms.drop o=[]:=List.drop_eq_nil_of_le (by simp at hm;omega)
  simp [Op.eqFields,h1,h2]
 |f::fs,o,h,hn,hm=>by
  simp only [flatF,Bool.and_eq_true,bne_iff_ne,beq_iff_eq] at h
  obtain ⟨⟨⟨h1,h2⟩,h3⟩,h4⟩:=h
  have hu:P.underlying f.type=some (.int .i64):=by
   revert h2
   split
   ·intro _;assumption
   ·intro h;cases h
  simp only [List.length_cons] at hn hm
  have hno:o<ns.length:=by omega
  have hmo:o<ms.length:=by omega
  have ha:(isAgg f.type).run P w = .ok false w:=by simp [isAgg,run_underlying hu]
  have hp:∀(ks:List Int) (hk:o<ks.length),(part f.type (ks.map I64).toArray f.offset).run P w = .ok (I64 ks[o]) w:=fun ks hk=>by
   simp [part,ha,h3,hk]
  have ih:=run_eqFlat d w ns ms fs (o+1) h4 (by omega) (by omega)
  simp only [Op.eqFields,if_pos h1,Sem.run_bind,hp ns hno,hp ms hmo,Result.andThen_ok,run_equalIn_int _ _ _ _ _ _ _ hu]
  have key:(ns.drop o=ms.drop o)↔(ns[o]=ms[o]∧ns.drop (o+1)=ms.drop (o+1)):=by rw [List.drop_eq_getElem_cons hno,List.drop_eq_getElem_cons hmo,List.cons.injEq]
  have key2:decide (ns.drop o=ms.drop o)=decide (ns[o]=ms[o]∧ns.drop (o+1)=ms.drop (o+1)):=decide_eq_decide.2 key
  rw [key2]
  by_cases he:ns[o]=ms[o]
  ·simp [he,ih]
  ·simp [he]
theorem EqT.flat{α:Type}[Enc α][DecidableEq α]{T n:Nat}(ints:α→List Int)(henc:∀x,Enc.enc x=(ints x).map I64)(hinj:∀x y,ints x=ints y→x=y)(hlen:∀x,(ints x).length=n)
  (ht:P.underlying T=some (.struct (P.fieldsOf T))) (hp:P.stoodInHeld T=false) (hf:flatF P (P.fieldsOf T).toList 0=true) (hn:(P.fieldsOf T).size=n) (hg:P.eqGuardType P.depth T=false):EqT P T α:=by
 refine ⟨fun x y w=>?_,hg⟩
 rw [show (10000:Nat)=9999+1 from rfl,run_equalIn_struct w 9999 T _ _ ht hp,henc,henc,show (9999:Nat)=9998+1 from rfl,
  run_eqFlat 9998 w (ints x) (ints y) _ 0 hf (by rw [hlen,Array.length_toList,hn];omega) (by rw [hlen,Array.length_toList,hn];omega)]
 congr 1
 rw [List.drop_zero,List.drop_zero,decide_eq_decide]
 exact ⟨hinj x y,fun e=>by rw [e]⟩
end
end Go.Sl
namespace Go.Sl
theorem u64_nat{n:Int}(h0:0≤n)(h1:n<18446744073709551616):∃b:BitVec 64,n=(b.toNat:Int):=
 ⟨BitVec.ofNat 64 n.toNat,by rw [BitVec.toNat_ofNat];omega⟩
section
variable {P:Program}{κ:Ctx}{N:Frm}{L:Env}{J:List Item}{d:Option Tmp}{ty:TypeId}{ps:String}{af:Array Edge}{gd:Option (Nat×Bool)}{x y:Operand}{T U:TypeId}{k':IntKind}
theorem Runs.shrU{m n:Int}(hx:evalO L x=some (.int .u64 m))(hy:evalO L y=some (.int k' n))(h0:0≤n)(h1:n<64):Runs P κ N ⟨d,.binOp .shr T x y U,ty,ps,af,gd⟩ L J (.int .u64 (m / 2 ^ n.toNat)):=by
 have h:=Runs.shrw (P:=P) (κ:=κ) (N:=N) (J:=J) (d:=d) (ty:=ty) (ps:=ps) (af:=af) (gd:=gd) (T:=T) (U:=U) hx hy h0
 have e:m.fdiv (2 ^ Min.min n.toNat IntKind.u64.bits)=m / 2 ^ n.toNat:=by
  rw [show Min.min n.toNat IntKind.u64.bits=n.toNat by show Min.min n.toNat 64=_;omega,Int.fdiv_eq_ediv_of_nonneg _ (Int.pow_nonneg (by decide))]
 rwa [e] at h
end
theorem V.retcc{P:Program}{κ:Ctx}{N:Frm}{L:Env}{I:List Item}{fn:Func}{t u:Tmp}{T U b b' E E' sz sz' by' by2:Nat}{z z' cs ds:List Value}{Post:Value→List Item→Prop}(hr:fn.results = #[.cell t T,.cell u U])(hT:tyF P T=some (sz,true,by',z))(hU:tyF P U=some (sz',true,by2,z'))
  (hv:look L t=some (.pointer (some ⟨b,0,none⟩))) (hv':look L u=some (.pointer (some ⟨b',0,none⟩))) (hb:blk b cs E∈I) (hb':blk b' ds E'∈I)
  (hl:cs.length=sz) (hl':ds.length=sz') (J:List Item) (hf:Fit κ I J) (hp:Post (.tuple #[.agg cs.toArray,.agg ds.toArray]) J) (h0:N.ds=[]:=by rfl):V κ N (bodyPost P fn (RetR κ Post)) .ret L I:=
 fun a w ha hs=>by
  have hcell:=fun j=>cell_blk (w:=w) (hs.ok _ hb).1 j
  have hcell2:=fun j=>cell_blk (w:=w) (hs.ok _ hb').1 j
  have hload:(loadVar T ⟨b,0,none⟩).run P w = .ok (.agg cs.toArray) w:=run_loadVar_agg hT hl fun j u hj=>by rw [addr_add,hcell,←hj];simp
  have hload2:(loadVar U ⟨b',0,none⟩).run P w = .ok (.agg ds.toArray) w:=run_loadVar_agg hU hl' fun j u hj=>by rw [addr_add,hcell2,←hj];simp
  refine bodyPost_ret (v:= .tuple #[.agg cs.toArray,.agg ds.toArray]) ?_ (ha.defers.trans h0) ⟨_,J,rfl,hp,hf w hs⟩
  simp [results,hr,ha.get t _ hv,ha.get u _ hv',asAddr,hload,hload2]
end Go.Sl
namespace Go.Sl
section
variable {P:Program}{κ:Ctx}{N:Frm}{L:Env}{J:List Item}{d:Option Tmp}{ty:TypeId}{ps:String}{af:Array Edge}{gd:Option (Nat×Bool)}{x y:Operand}{T U:TypeId}{k':IntKind}
theorem Runs.mulU{m n r:Int}(hx:evalO L x=some (.int .u64 m))(hy:evalO L y=some (.int .u64 n))(hr:m*n=r)(h0:0≤r)(h1:r<18446744073709551616):Runs P κ N ⟨d,.binOp .mul T x y U,ty,ps,af,gd⟩ L J (.int .u64 r):=by
 have h:=Runs.mulw (P:=P) (κ:=κ) (N:=N) (J:=J) (d:=d) (ty:=ty) (ps:=ps) (af:=af) (gd:=gd) (T:=T) (U:=U) hx hy
 have e:IntKind.u64.wrap (m*n)=r:=by rw [u64_wrap,hr];omega
 rwa [e] at h
theorem Runs.addU{m n r:Int}(hx:evalO L x=some (.int .u64 m))(hy:evalO L y=some (.int .u64 n))(hr:m+n=r)(h0:0≤r)(h1:r<18446744073709551616):Runs P κ N ⟨d,.binOp .add T x y U,ty,ps,af,gd⟩ L J (.int .u64 r):=by
 have h:=Runs.addw (P:=P) (κ:=κ) (N:=N) (J:=J) (d:=d) (ty:=ty) (ps:=ps) (af:=af) (gd:=gd) (T:=T) (U:=U) hx hy
 have e:IntKind.u64.wrap (m+n)=r:=by rw [u64_wrap,hr];omega
 rwa [e] at h
theorem Runs.lowU{m r:Int}(hx:evalO L x=some (.int .u64 m))(hy:evalO L y=some (.int .u64 4294967295))(h0:0≤m)(h1:m<18446744073709551616)(hr:m % 4294967296=r):Runs P κ N ⟨d,.binOp .and T x y U,ty,ps,af,gd⟩ L J (.int .u64 r):=by
 obtain ⟨b,rfl⟩:=u64_nat h0 h1
 have h:=Runs.andB (P:=P) (κ:=κ) (N:=N) (J:=J) (d:=d) (ty:=ty) (ps:=ps) (af:=af) (gd:=gd) (T:=T) (U:=U) (b:=4294967295#64) hx hy
 have e:((b &&& 4294967295#64).toNat:Int)=r:=by
  rw [BitVec.toNat_and,show (4294967295#64).toNat=2 ^ 32 - 1 from rfl,Nat.and_two_pow_sub_one_eq_mod,←hr];rfl
 rw [←e];exact h
theorem Runs.shr32{m r:Int}(hx:evalO L x=some (.int .u64 m))(hy:evalO L y=some (.int k' 32))(hr:m / 4294967296=r):Runs P κ N ⟨d,.binOp .shr T x y U,ty,ps,af,gd⟩ L J (.int .u64 r):=by
 have h:=Runs.shrU (P:=P) (κ:=κ) (N:=N) (J:=J) (d:=d) (ty:=ty) (ps:=ps) (af:=af) (gd:=gd) (T:=T) (U:=U) hx hy (by decide) (by decide)
 rw [show (2:Int) ^ (32:Int).toNat=4294967296 from rfl,hr] at h
 exact h
end
end Go.Sl
namespace Go.Sl
section
variable {P:Program}{κ:Ctx}{N:Frm}{Q:Exit→Act→World→Prop}{L:Env}{I J:List Item}
variable {d:Option Tmp}{ty:TypeId}{ps:String}{af:Array Edge}{gd:Option (Nat×Bool)}
theorem Runs.getAU{xs:List (BitVec 64)}{x:Operand}{T sz by' b E:Nat}{z:List Value}{i:Int}(hT:tyF P T=some (sz,false,by',z))(hx:evalO L x=some (.pointer (some ⟨b,0+i.toNat*1,none⟩)))(hb:BlkRd κ J b (cells xs) E)(h0:0≤i)(hn:i<xs.length) :
  Runs P κ N ⟨d,.load T x,ty,ps,af,gd⟩ L J (U64 (at_ xs i)):=by
 refine Runs.loadB hT hx hb ?_
 have:=cells_get xs i.toNat 0 (by omega) (by decide)
 rw [show 0+i.toNat*1=i.toNat*Enc.sz (BitVec 64)+0 by show 0+i.toNat*1=i.toNat*1+0;omega,this,at_eq h0 hn];rfl
theorem cells_setU(xs:List (BitVec 64))(i:Nat)(n:BitVec 64)(h:i<xs.length):(cells xs).take i++[U64 n]++(cells xs).drop (i+1)=cells (xs.set i n):=by
 induction xs generalizing i with
 |nil=>simp at h
 |cons x xs ih=>
  cases i with
  |zero=>rfl
  |succ i=>
   have h':i<xs.length:=by simpa using h
   have e:cells (x::xs)=U64 x::cells xs:=rfl
   rw [e,List.set_cons_succ]
   have e2:cells (x::xs.set i n)=U64 x::cells (xs.set i n):=rfl
   rw [e2,←ih i h'];rfl
theorem Eff.setAU{xs:List (BitVec 64)}{x y:Operand}{T sz by' b E:Nat}{ag:Bool}{z:List Value}{i:Int}{n:BitVec 64}{I':List Item}(hT:tyF P T=some (sz,ag,by',z))(hs1:sz=1)(hx:evalO L x=some (.pointer (some ⟨b,0+i.toNat*1,none⟩)))(hy:evalO L y=some (U64 n))(h0:0≤i)(hn:i<xs.length)
  (hat:At I (blk b (cells xs) E) (blk b (cells (xs.set i.toNat n)) E) I') :
  Eff P κ N Q ⟨none,.store T x y,ty,ps,af,gd⟩ L I fun L' I''=>L'=L∧I''=I':=by
 have hl:(cells xs).length=xs.length:=by rw [cells_length];show xs.length*1=_;omega
 refine Eff.store (vs:=[U64 n]) (cs':=cells (xs.set i.toNat n)) hT hx hy rfl (by rw [hs1];rfl) (fun u hu=>by rw [List.mem_singleton] at hu;subst hu;rfl) (by rw [hl];simp;omega) ?_ hat
 have h:=cells_setU xs i.toNat n (by omega)
 rw [show 0+i.toNat*1=i.toNat by omega]
 exact h
end
end Go.Sl
namespace Go.Sl
open Go.Proofs
abbrev Aa:= @Sub.cons
abbrev Ab:= @Runs.fieldAddr
abbrev Ac:= @Tryz.underlying22
abbrev Ad:= @Runs.move
abbrev Af:= @G.nt
abbrev Ah:= @V.then_ret
abbrev Ai:= @W.sr
abbrev Aj:= @V.then
abbrev Ak:= @V.block_normal
abbrev Al:= @Runs.pickf
abbrev Am:= @V.then_exit
abbrev Ao:= @Runs.pickt
abbrev Ap:= @Eff.call
abbrev Aq:= @Tryz.underlying109
abbrev Ar:= @W.sub
abbrev As:= @Runs.ld
abbrev Au:= @W.seq
abbrev Av:= @V.block_ret
abbrev Aw:= @W.skip
abbrev Ax:= @W.ret
abbrev Ay:= @V.ret1
abbrev Az:= @W.region
abbrev A0:= @Fit.m
abbrev A1:= @Tryz.underlying28
abbrev A2:= @Runs.extract
abbrev A3:= @Runs.idx
abbrev A4:= @W.block
abbrev A5:= @Fit.sub
abbrev A6:= @V.block_hit
abbrev A7:= @W.ite
abbrev A8:= @Eff.alloc
abbrev A9:= @Runs.lss
abbrev Ba:= @Runs.assign
abbrev Bb:= @G.split
abbrev Bc:= @G.nil
abbrev Bd:= @Eff.box
abbrev Be:= @Runs.neq
abbrev Bf:= @Sl.o
abbrev Bg:= @Sub.nil
abbrev Bh:= @Runs.nilCheck
abbrev Bi:= @Runs.eql
abbrev Bj:= @Sl.f
abbrev Bk:= @W.drawn
abbrev Bl:= @Runs.build
abbrev Bm:= @Tryz.underlying3
abbrev Bo:= @A.hold
abbrev Bp:= @Runs.lens
abbrev Bq:= @Runs.lds
abbrev Br:= @Runs.get
abbrev Bs:= @W.exit
abbrev Bt:= @Fit.s
abbrev Bu:= @Runs.gets
abbrev Bv:= @W.loop
abbrev Bw:= @Fit.nilvc
abbrev Bx:= @Runs.lenT
abbrev Bz:= @Runs.gtr
abbrev B0:= @Eff.app
abbrev B1:= @Eff.bs
abbrev B2:= @Tryz.underlying46
abbrev B3:= @V.nx
abbrev B4:= @CallS.pull
abbrev B5:= @Tryz.underlying81
abbrev B6:= @Runs.geq
abbrev B7:= @Sl.fit
abbrev B8:= @lookO
abbrev B9:= @TabRd.fit
abbrev Ca:= @W.yes
abbrev Cb:= @Tryz.underlying337
abbrev Cc:= @Tryz.underlying79
abbrev Cd:= @Tryz.underlying228
abbrev Ce:= @Es2_2
abbrev Cf:= @at_mem
abbrev Cg:= @Fit.trans
abbrev Ch:= @Wanted.plain
abbrev Ci:= @BlkRd.of
abbrev Cj:= @CallS.fit
abbrev Ck:= @Tryz.underlying160
abbrev Cl:= @V.ret2
abbrev Cm:= @BlkRd.fit
abbrev Cn:= @Runs.idxArr
abbrev Co:= @Runs.loadB
abbrev Cp:= @lookV
abbrev Cq:= @Tryz.underlying64
abbrev Cr:= @Eff.make
abbrev Cs:= @scanL_bad
abbrev Ct:= @Tryz.underlying264
abbrev Cu:= @Runs.not
abbrev Cv:= @Wanted.on
abbrev Cw:= @Runs.notd
abbrev Cx:= @Eff.callv
abbrev Cy:= @Eff.st
abbrev Cz:= @take_at
abbrev C0:= @Runs.fld
abbrev C1:= @Runs.getf
abbrev C2:= @listB_zero
abbrev C3:= @WR.region
abbrev C4:= @Tryz.underlying108
abbrev C5:= @Runs.andB
abbrev C6:= @Eff.set
abbrev C7:= @D.split
abbrev C8:= @Eff.insertK
abbrev C9:= @W.no
abbrev Da:= @drop_at
abbrev Db:= @Tryz.underlying58
abbrev Dc:= @D.stop
abbrev De:= @A.done
abbrev Df:= @Fit.refl
abbrev Dg:= @V.block_miss
abbrev Dh:= @V.mi
abbrev Di:= @all_succ
abbrev Dj:= @Tryz.underlying301
abbrev Dk:= @Tryz.underlying175
abbrev Dl:= @at_set
abbrev Dn:= @V.thenR
abbrev Do:= @Sl.drop
abbrev Dp:= @sumN_congr
abbrev Dq:= @D.step
abbrev Ds:= @at_get
abbrev Dt:= @Runs.leq
abbrev Du:= @Tryz.underlying339
abbrev Dv:= @Tryz.underlying277
abbrev Dw:= @Tryz.underlying211
abbrev Dx:= @Tryz.underlying111
abbrev Dy:= @Runs.getf0
abbrev D0:= @at_append_left
abbrev D1:= @V.retc
abbrev D2:= @Fit.of_sublist
abbrev D3:= @Es6_6
abbrev D4:= @V.retc1
abbrev D5:= @Tryz.underlying5
abbrev D6:= @Es7_1
abbrev D7:= @WR.seq
abbrev D8:= @lookI
abbrev D9:= @scanL_step
abbrev Ea:= @Runs.loraw
abbrev Eb:= @Runs.makeFunc
abbrev Ec:= @Runs.lo
abbrev Ed:= @GY.read
abbrev Ee:= @isort_permG
abbrev Ef:= @V.roundB
abbrev Eg:= @CallS.at
abbrev Eh:= @Runs.andNotB
abbrev Ei:= @mem_at
abbrev Ej:= @all2
abbrev Ek:= @W.cond
abbrev El:= @Tryz.underlying181
abbrev Em:= @Tryz.underlying102
abbrev En:= @Runs.max
abbrev Eo:= @G.eff
abbrev Ep:= @listB_nodup
abbrev Eq:= @W.cut
abbrev Er:= @Tryz.underlying65
abbrev Es:= @Tryz.underlying40
abbrev Et:= @Tryz.underlying31
abbrev Eu:= @Es2_1
abbrev Ew:= @all1
abbrev Ex:= @WR.sub
abbrev Ey:= @listB_len
abbrev Ez:= @Tryz.underlying4
abbrev E0:= @Sl.dropn
abbrev E1:= @Runs.shrB
abbrev E3:= @Runs.orB
abbrev E4:= @Runs.mul
abbrev E5:= @Sl.vec
abbrev E6:= @Runs.getAU
theorem kr{p:Prop}(h:p:=by kernel_rfl):p:=h
theorem dc{p:Prop}(h:p:=by decide):p:=h
theorem lcn{p:Prop}(h:p:=by simp only [List.length_cons,List.length_nil];omega):p:=h
theorem asm{p:Prop}(h:p:=by assumption):p:=h
theorem lat{p:Prop}(h:p:=by first|omega|(simp only [List.length_append,List.length_take,List.length_drop,List.length_replicate]<;>omega)):p:=h
theorem lap{p:Prop}(h:p:=by simp only [List.length_append,List.length_cons,List.length_nil];omega):p:=h
theorem olp{p:Prop}(h:p:=by first|omega|(simp only [List.length_append,List.length_cons,List.length_nil];omega)):p:=h
theorem olr{p:Prop}(h:p:=by first|omega|(simp only [List.length_replicate];omega)):p:=h
end Go.Sl
namespace Go.Sl
open Go.Proofs
theorem ty2:tyF Tryz.prog 2=some (1,false,8,[I64 (0)]):=by kernel_rfl
theorem ty3:tyF Tryz.prog 3=some (1,false,8,[I64 (0)]):=by kernel_rfl
theorem ty4:tyF Tryz.prog 4=some (1,false,1,[.bool false]):=by kernel_rfl
theorem ty5:tyF Tryz.prog 5=some (1,false,1,[.int .u8 (0)]):=by kernel_rfl
theorem ty22:tyF Tryz.prog 22=some (1,false,24,[.slice none 0 0]):=by kernel_rfl
theorem ty28:tyF Tryz.prog 28=some (1,false,24,[.slice none 0 0]):=by kernel_rfl
theorem ty31:tyF Tryz.prog 31=some (3,true,24,[I64 (0),I64 (0),I64 (0)]):=by kernel_rfl
theorem fld31_0:fldF Tryz.prog 31 0=some 0:=by kernel_rfl
theorem fld31_1:fldF Tryz.prog 31 1=some 1:=by kernel_rfl
theorem fld31_2:fldF Tryz.prog 31 2=some 2:=by kernel_rfl
theorem pl31(w:World):(placesRun Tryz.prog 31).run Tryz.prog w = .ok #[(0,1),(1,1),(2,1)] w:=by kernel_rfl
theorem ty36:tyF Tryz.prog 36=some (1,false,8,[I64 (0)]):=by kernel_rfl
theorem ty40:tyF Tryz.prog 40=some (2,true,16,[I64 (0),I64 (0)]):=by kernel_rfl
theorem fld40_0:fldF Tryz.prog 40 0=some 0:=by kernel_rfl
theorem fld40_1:fldF Tryz.prog 40 1=some 1:=by kernel_rfl
theorem pl40(w:World):(placesRun Tryz.prog 40).run Tryz.prog w = .ok #[(0,1),(1,1)] w:=by kernel_rfl
theorem ty46:tyF Tryz.prog 46=some (1,false,24,[.slice none 0 0]):=by kernel_rfl
theorem ty48:tyF Tryz.prog 48=some (2,true,32,[I64 (0),.slice none 0 0]):=by kernel_rfl
theorem fld48_0:fldF Tryz.prog 48 0=some 0:=by kernel_rfl
theorem fld48_1:fldF Tryz.prog 48 1=some 1:=by kernel_rfl
theorem pl48(w:World):(placesRun Tryz.prog 48).run Tryz.prog w = .ok #[(0,1),(1,1)] w:=by kernel_rfl
theorem ty64:tyF Tryz.prog 64=some (2,true,16,[I64 (0),I64 (0)]):=by kernel_rfl
theorem ty71:tyF Tryz.prog 71=some (7,true,72,[I64 (0),I64 (0),I64 (0),I64 (0),.slice none 0 0,I64 (0),I64 (0)]):=by kernel_rfl
theorem fld71_0:fldF Tryz.prog 71 0=some 0:=by kernel_rfl
theorem fld71_1:fldF Tryz.prog 71 1=some 1:=by kernel_rfl
theorem fld71_2:fldF Tryz.prog 71 2=some 2:=by kernel_rfl
theorem fld71_3:fldF Tryz.prog 71 3=some 3:=by kernel_rfl
theorem fld71_4:fldF Tryz.prog 71 4=some 4:=by kernel_rfl
theorem fld71_5:fldF Tryz.prog 71 5=some 5:=by kernel_rfl
theorem pl71(w:World):(placesRun Tryz.prog 71).run Tryz.prog w = .ok #[(0,1),(1,1),(2,1),(3,1),(4,1),(5,2)] w:=by kernel_rfl
theorem ty79:tyF Tryz.prog 79=some (1,false,24,[.slice none 0 0]):=by kernel_rfl
theorem ty81:tyF Tryz.prog 81=some (1,false,24,[.slice none 0 0]):=by kernel_rfl
theorem ty88:tyF Tryz.prog 88=some (2,true,32,[I64 (0),.slice none 0 0]):=by kernel_rfl
theorem pl88(w:World):(placesRun Tryz.prog 88).run Tryz.prog w = .ok #[(0,1),(1,1)] w:=by kernel_rfl
theorem ty90:tyF Tryz.prog 90=some (11,true,168,[.bool false,I64 (0),I64 (0),.slice none 0 0,I64 (0),I64 (0),.slice none 0 0,.slice none 0 0,.slice none 0 0,I64 (0),.slice none 0 0]):=by kernel_rfl
theorem fld90_0:fldF Tryz.prog 90 0=some 0:=by kernel_rfl
theorem fld90_2:fldF Tryz.prog 90 2=some 2:=by kernel_rfl
theorem fld90_3:fldF Tryz.prog 90 3=some 3:=by kernel_rfl
theorem fld90_4:fldF Tryz.prog 90 4=some 4:=by kernel_rfl
theorem fld90_8:fldF Tryz.prog 90 8=some 9:=by kernel_rfl
theorem pl90(w:World):(placesRun Tryz.prog 90).run Tryz.prog w = .ok #[(0,1),(1,1),(2,1),(3,1),(4,2),(6,1),(7,1),(8,1),(9,2)] w:=by kernel_rfl
theorem ty102:tyF Tryz.prog 102=some (5,true,72,[.slice none 0 0,I64 (0),I64 (0),I64 (0),.slice none 0 0]):=by kernel_rfl
theorem fld102_0:fldF Tryz.prog 102 0=some 0:=by kernel_rfl
theorem fld102_1:fldF Tryz.prog 102 1=some 1:=by kernel_rfl
theorem fld102_2:fldF Tryz.prog 102 2=some 3:=by kernel_rfl
theorem pl102(w:World):(placesRun Tryz.prog 102).run Tryz.prog w = .ok #[(0,1),(1,2),(3,2)] w:=by kernel_rfl
theorem ty108:tyF Tryz.prog 108=some (7,true,56,[I64 (0),I64 (0),I64 (0),I64 (0),I64 (0),I64 (0),I64 (0)]):=by kernel_rfl
theorem fld108_0:fldF Tryz.prog 108 0=some 0:=by kernel_rfl
theorem fld108_1:fldF Tryz.prog 108 1=some 1:=by kernel_rfl
theorem fld108_2:fldF Tryz.prog 108 2=some 2:=by kernel_rfl
theorem fld108_3:fldF Tryz.prog 108 3=some 3:=by kernel_rfl
theorem fld108_4:fldF Tryz.prog 108 4=some 4:=by kernel_rfl
theorem fld108_5:fldF Tryz.prog 108 5=some 5:=by kernel_rfl
theorem fld108_6:fldF Tryz.prog 108 6=some 6:=by kernel_rfl
theorem pl108(w:World):(placesRun Tryz.prog 108).run Tryz.prog w = .ok #[(0,1),(1,1),(2,1),(3,1),(4,1),(5,1),(6,1)] w:=by kernel_rfl
theorem ty109:tyF Tryz.prog 109=some (1,false,24,[.slice none 0 0]):=by kernel_rfl
theorem ty111:tyF Tryz.prog 111=some (2,true,32,[I64 (0),.slice none 0 0]):=by kernel_rfl
theorem fld111_0:fldF Tryz.prog 111 0=some 0:=by kernel_rfl
theorem fld111_1:fldF Tryz.prog 111 1=some 1:=by kernel_rfl
theorem pl111(w:World):(placesRun Tryz.prog 111).run Tryz.prog w = .ok #[(0,1),(1,1)] w:=by kernel_rfl
theorem ty117:tyF Tryz.prog 117=some (2,true,16,[I64 (0),I64 (0)]):=by kernel_rfl
theorem fld117_0:fldF Tryz.prog 117 0=some 0:=by kernel_rfl
theorem fld117_1:fldF Tryz.prog 117 1=some 1:=by kernel_rfl
theorem pl117(w:World):(placesRun Tryz.prog 117).run Tryz.prog w = .ok #[(0,1),(1,1)] w:=by kernel_rfl
theorem ty125:tyF Tryz.prog 125=some (2,true,32,[.slice none 0 0,I64 (0)]):=by kernel_rfl
theorem fld125_0:fldF Tryz.prog 125 0=some 0:=by kernel_rfl
theorem fld125_1:fldF Tryz.prog 125 1=some 1:=by kernel_rfl
theorem pl125(w:World):(placesRun Tryz.prog 125).run Tryz.prog w = .ok #[(0,1),(1,1)] w:=by kernel_rfl
end Go.Sl
namespace Go.Sl
open Go.Proofs
theorem ty135:tyF Tryz.prog 135=some (2,true,16,[I64 (0),I64 (0)]):=by kernel_rfl
theorem fld135_0:fldF Tryz.prog 135 0=some 0:=by kernel_rfl
theorem fld135_1:fldF Tryz.prog 135 1=some 1:=by kernel_rfl
theorem pl135(w:World):(placesRun Tryz.prog 135).run Tryz.prog w = .ok #[(0,1),(1,1)] w:=by kernel_rfl
theorem ty146:tyF Tryz.prog 146=some (6,true,48,[I64 (0),I64 (0),I64 (0),I64 (0),I64 (0),I64 (0)]):=by kernel_rfl
theorem fld146_0:fldF Tryz.prog 146 0=some 0:=by kernel_rfl
theorem fld146_1:fldF Tryz.prog 146 1=some 1:=by kernel_rfl
theorem fld146_2:fldF Tryz.prog 146 2=some 2:=by kernel_rfl
theorem fld146_3:fldF Tryz.prog 146 3=some 3:=by kernel_rfl
theorem fld146_4:fldF Tryz.prog 146 4=some 4:=by kernel_rfl
theorem fld146_5:fldF Tryz.prog 146 5=some 5:=by kernel_rfl
theorem pl146(w:World):(placesRun Tryz.prog 146).run Tryz.prog w = .ok #[(0,1),(1,1),(2,1),(3,1),(4,1),(5,1)] w:=by kernel_rfl
theorem ty153:tyF Tryz.prog 153=some (2,true,16,[I64 (0),.bool false]):=by kernel_rfl
theorem fld153_0:fldF Tryz.prog 153 0=some 0:=by kernel_rfl
theorem fld153_1:fldF Tryz.prog 153 1=some 1:=by kernel_rfl
theorem pl153(w:World):(placesRun Tryz.prog 153).run Tryz.prog w = .ok #[(0,1),(1,1)] w:=by kernel_rfl
theorem ty163:tyF Tryz.prog 163=some (5,true,56,[I64 (0),.slice none 0 0,I64 (0),I64 (0),I64 (0)]):=by kernel_rfl
theorem fld163_0:fldF Tryz.prog 163 0=some 0:=by kernel_rfl
theorem fld163_1:fldF Tryz.prog 163 1=some 1:=by kernel_rfl
theorem fld163_2:fldF Tryz.prog 163 2=some 2:=by kernel_rfl
theorem pl163(w:World):(placesRun Tryz.prog 163).run Tryz.prog w = .ok #[(0,1),(1,1),(2,3)] w:=by kernel_rfl
theorem ty175:tyF Tryz.prog 175=some (1,false,8,[.int .u64 (0)]):=by kernel_rfl
theorem ty208:tyF Tryz.prog 208=some (2,true,32,[.int .u64 (0),.slice none 0 0]):=by kernel_rfl
theorem fld208_0:fldF Tryz.prog 208 0=some 0:=by kernel_rfl
theorem fld208_1:fldF Tryz.prog 208 1=some 1:=by kernel_rfl
theorem pl208(w:World):(placesRun Tryz.prog 208).run Tryz.prog w = .ok #[(0,1),(1,1)] w:=by kernel_rfl
theorem ty211:tyF Tryz.prog 211=some (6,true,112,[.slice none 0 0,.slice none 0 0,.slice none 0 0,.slice none 0 0,.int .u64 (0),.int .u64 (0)]):=by kernel_rfl
theorem fld211_0:fldF Tryz.prog 211 0=some 0:=by kernel_rfl
theorem fld211_1:fldF Tryz.prog 211 1=some 1:=by kernel_rfl
theorem fld211_2:fldF Tryz.prog 211 2=some 2:=by kernel_rfl
theorem fld211_3:fldF Tryz.prog 211 3=some 3:=by kernel_rfl
theorem fld211_4:fldF Tryz.prog 211 4=some 4:=by kernel_rfl
theorem fld211_5:fldF Tryz.prog 211 5=some 5:=by kernel_rfl
theorem pl211(w:World):(placesRun Tryz.prog 211).run Tryz.prog w = .ok #[(0,1),(1,1),(2,1),(3,1),(4,1),(5,1)] w:=by kernel_rfl
theorem ty220:tyF Tryz.prog 220=some (5,true,5,[.bool false,.bool false,.bool false,.bool false,.bool false]):=by kernel_rfl
theorem fld220_0:fldF Tryz.prog 220 0=some 0:=by kernel_rfl
theorem fld220_1:fldF Tryz.prog 220 1=some 1:=by kernel_rfl
theorem fld220_2:fldF Tryz.prog 220 2=some 2:=by kernel_rfl
theorem fld220_3:fldF Tryz.prog 220 3=some 3:=by kernel_rfl
theorem fld220_4:fldF Tryz.prog 220 4=some 4:=by kernel_rfl
theorem pl220(w:World):(placesRun Tryz.prog 220).run Tryz.prog w = .ok #[(0,1),(1,1),(2,1),(3,1),(4,1)] w:=by kernel_rfl
theorem ty241:tyF Tryz.prog 241=some (3,true,56,[I64 (0),.slice none 0 0,.slice none 0 0]):=by kernel_rfl
theorem fld241_0:fldF Tryz.prog 241 0=some 0:=by kernel_rfl
theorem fld241_1:fldF Tryz.prog 241 1=some 2:=by kernel_rfl
theorem pl241(w:World):(placesRun Tryz.prog 241).run Tryz.prog w = .ok #[(0,2),(2,1)] w:=by kernel_rfl
theorem ty264:tyF Tryz.prog 264=some (64,true,512,[.int .u64 (0),.int .u64 (0),.int .u64 (0),.int .u64 (0),.int .u64 (0),.int .u64 (0),.int .u64 (0),.int .u64 (0),.int .u64 (0),.int .u64 (0),.int .u64 (0),.int .u64 (0),.int .u64 (0),.int .u64 (0),.int .u64 (0),.int .u64 (0),.int .u64 (0),.int .u64 (0),.int .u64 (0),.int .u64 (0),.int .u64 (0),.int .u64 (0),.int .u64 (0),.int .u64 (0),.int .u64 (0),.int .u64 (0),.int .u64 (0),.int .u64 (0),.int .u64 (0),.int .u64 (0),.int .u64 (0),.int .u64 (0),.int .u64 (0),.int .u64 (0),.int .u64 (0),.int .u64 (0),.int .u64 (0),.int .u64 (0),.int .u64 (0),.int .u64 (0),.int .u64 (0),.int .u64 (0),.int .u64 (0),.int .u64 (0),.int .u64 (0),.int .u64 (0),.int .u64 (0),.int .u64 (0),.int .u64 (0),.int .u64 (0),.int .u64 (0),.int .u64 (0),.int .u64 (0),.int .u64 (0),.int .u64 (0),.int .u64 (0),.int .u64 (0),.int .u64 (0),.int .u64 (0),.int .u64 (0),.int .u64 (0),.int .u64 (0),.int .u64 (0),.int .u64 (0)]):=by kernel_rfl
end Go.Sl
namespace Go.Sl
open Go.Proofs
theorem ty301:tyF Tryz.prog 301=some (1,false,24,[.slice none 0 0]):=by kernel_rfl
theorem ty303:tyF Tryz.prog 303=some (4,true,48,[I64 (0),I64 (0),I64 (0),.slice none 0 0]):=by kernel_rfl
theorem fld303_0:fldF Tryz.prog 303 0=some 0:=by kernel_rfl
theorem fld303_1:fldF Tryz.prog 303 1=some 1:=by kernel_rfl
theorem fld303_2:fldF Tryz.prog 303 2=some 2:=by kernel_rfl
theorem fld303_3:fldF Tryz.prog 303 3=some 3:=by kernel_rfl
theorem pl303(w:World):(placesRun Tryz.prog 303).run Tryz.prog w = .ok #[(0,1),(1,1),(2,1),(3,1)] w:=by kernel_rfl
theorem ty305:tyF Tryz.prog 305=some (3,true,24,[I64 (0),I64 (0),I64 (0)]):=by kernel_rfl
theorem fld305_0:fldF Tryz.prog 305 0=some 0:=by kernel_rfl
theorem fld305_1:fldF Tryz.prog 305 1=some 1:=by kernel_rfl
theorem fld305_2:fldF Tryz.prog 305 2=some 2:=by kernel_rfl
theorem pl305(w:World):(placesRun Tryz.prog 305).run Tryz.prog w = .ok #[(0,1),(1,1),(2,1)] w:=by kernel_rfl
theorem ty336:tyF Tryz.prog 336=some (4,true,32,[I64 (0),I64 (0),I64 (0),I64 (0)]):=by kernel_rfl
theorem fld336_0:fldF Tryz.prog 336 0=some 0:=by kernel_rfl
theorem fld336_1:fldF Tryz.prog 336 1=some 3:=by kernel_rfl
theorem pl336(w:World):(placesRun Tryz.prog 336).run Tryz.prog w = .ok #[(0,3),(3,1)] w:=by kernel_rfl
theorem ty337:tyF Tryz.prog 337=some (1,false,24,[.slice none 0 0]):=by kernel_rfl
theorem ty339:tyF Tryz.prog 339=some (5,true,104,[.slice none 0 0,.slice none 0 0,.slice none 0 0,.slice none 0 0,I64 (0)]):=by kernel_rfl
theorem fld339_0:fldF Tryz.prog 339 0=some 0:=by kernel_rfl
theorem fld339_1:fldF Tryz.prog 339 1=some 1:=by kernel_rfl
theorem fld339_2:fldF Tryz.prog 339 2=some 2:=by kernel_rfl
theorem fld339_3:fldF Tryz.prog 339 3=some 3:=by kernel_rfl
theorem fld339_4:fldF Tryz.prog 339 4=some 4:=by kernel_rfl
theorem pl339(w:World):(placesRun Tryz.prog 339).run Tryz.prog w = .ok #[(0,1),(1,1),(2,1),(3,1),(4,1)] w:=by kernel_rfl
theorem call16:callable Tryz.prog 16=true:=by kernel_rfl
theorem call18:callable Tryz.prog 18=true:=by kernel_rfl
theorem call19:callable Tryz.prog 19=true:=by kernel_rfl
theorem call20:callable Tryz.prog 20=true:=by kernel_rfl
theorem call21:callable Tryz.prog 21=true:=by kernel_rfl
theorem call27:callable Tryz.prog 27=true:=by kernel_rfl
theorem call30:callable Tryz.prog 30=true:=by kernel_rfl
theorem call39:callable Tryz.prog 39=true:=by kernel_rfl
theorem call41:callable Tryz.prog 41=true:=by kernel_rfl
theorem call42:callable Tryz.prog 42=true:=by kernel_rfl
theorem call44:callable Tryz.prog 44=true:=by kernel_rfl
theorem call47:callable Tryz.prog 47=true:=by kernel_rfl
theorem call50:callable Tryz.prog 50=true:=by kernel_rfl
theorem call52:callable Tryz.prog 52=true:=by kernel_rfl
theorem call56:callable Tryz.prog 56=true:=by kernel_rfl
theorem call59:callable Tryz.prog 59=true:=by kernel_rfl
theorem call61:callable Tryz.prog 61=true:=by kernel_rfl
theorem call71:callable Tryz.prog 71=true:=by kernel_rfl
theorem call72:callable Tryz.prog 72=true:=by kernel_rfl
theorem call76:callable Tryz.prog 76=true:=by kernel_rfl
theorem call77:callable Tryz.prog 77=true:=by kernel_rfl
theorem call78:callable Tryz.prog 78=true:=by kernel_rfl
theorem call79:callable Tryz.prog 79=true:=by kernel_rfl
theorem call82:callable Tryz.prog 82=true:=by kernel_rfl
theorem call83:callable Tryz.prog 83=true:=by kernel_rfl
theorem call84:callable Tryz.prog 84=true:=by kernel_rfl
theorem call85:callable Tryz.prog 85=true:=by kernel_rfl
theorem call88:callable Tryz.prog 88=true:=by kernel_rfl
theorem call89:callable Tryz.prog 89=true:=by kernel_rfl
theorem call93:callable Tryz.prog 93=true:=by kernel_rfl
theorem call94:callable Tryz.prog 94=true:=by kernel_rfl
theorem call97:callable Tryz.prog 97=true:=by kernel_rfl
theorem call98:callable Tryz.prog 98=true:=by kernel_rfl
theorem call100:callable Tryz.prog 100=true:=by kernel_rfl
theorem call101:callable Tryz.prog 101=true:=by kernel_rfl
theorem call102:callable Tryz.prog 102=true:=by kernel_rfl
theorem call104:callable Tryz.prog 104=true:=by kernel_rfl
theorem call105:callable Tryz.prog 105=true:=by kernel_rfl
theorem call106:callable Tryz.prog 106=true:=by kernel_rfl
theorem call109:callable Tryz.prog 109=true:=by kernel_rfl
theorem call110:callable Tryz.prog 110=true:=by kernel_rfl
theorem call115:callable Tryz.prog 115=true:=by kernel_rfl
end Go.Sl
namespace Go.Sl
open Go.Proofs
theorem call129:callable Tryz.prog 129=true:=by kernel_rfl
theorem call130:callable Tryz.prog 130=true:=by kernel_rfl
theorem call131:callable Tryz.prog 131=true:=by kernel_rfl
theorem call132:callable Tryz.prog 132=true:=by kernel_rfl
theorem call133:callable Tryz.prog 133=true:=by kernel_rfl
theorem call134:callable Tryz.prog 134=true:=by kernel_rfl
theorem call135:callable Tryz.prog 135=true:=by kernel_rfl
theorem call139:callable Tryz.prog 139=true:=by kernel_rfl
theorem call140:callable Tryz.prog 140=true:=by kernel_rfl
theorem call141:callable Tryz.prog 141=true:=by kernel_rfl
theorem call142:callable Tryz.prog 142=true:=by kernel_rfl
theorem call143:callable Tryz.prog 143=true:=by kernel_rfl
theorem call153:callable Tryz.prog 153=true:=by kernel_rfl
theorem call154:callable Tryz.prog 154=true:=by kernel_rfl
theorem call155:callable Tryz.prog 155=true:=by kernel_rfl
theorem call157:callable Tryz.prog 157=true:=by kernel_rfl
theorem call158:callable Tryz.prog 158=true:=by kernel_rfl
theorem call160:callable Tryz.prog 160=true:=by kernel_rfl
theorem call161:callable Tryz.prog 161=true:=by kernel_rfl
theorem call162:callable Tryz.prog 162=true:=by kernel_rfl
theorem call163:callable Tryz.prog 163=true:=by kernel_rfl
theorem call164:callable Tryz.prog 164=true:=by kernel_rfl
theorem call165:callable Tryz.prog 165=true:=by kernel_rfl
theorem call166:callable Tryz.prog 166=true:=by kernel_rfl
theorem call167:callable Tryz.prog 167=true:=by kernel_rfl
theorem call168:callable Tryz.prog 168=true:=by kernel_rfl
theorem call169:callable Tryz.prog 169=true:=by kernel_rfl
theorem call170:callable Tryz.prog 170=true:=by kernel_rfl
theorem call171:callable Tryz.prog 171=true:=by kernel_rfl
theorem call172:callable Tryz.prog 172=true:=by kernel_rfl
theorem call173:callable Tryz.prog 173=true:=by kernel_rfl
theorem call174:callable Tryz.prog 174=true:=by kernel_rfl
theorem call175:callable Tryz.prog 175=true:=by kernel_rfl
theorem call176:callable Tryz.prog 176=true:=by kernel_rfl
theorem call180:callable Tryz.prog 180=true:=by kernel_rfl
theorem call186:callable Tryz.prog 186=true:=by kernel_rfl
theorem call191:callable Tryz.prog 191=true:=by kernel_rfl
theorem call197:callable Tryz.prog 197=true:=by kernel_rfl
theorem call198:callable Tryz.prog 198=true:=by kernel_rfl
theorem call199:callable Tryz.prog 199=true:=by kernel_rfl
theorem call200:callable Tryz.prog 200=true:=by kernel_rfl
theorem call205:callable Tryz.prog 205=true:=by kernel_rfl
theorem call206:callable Tryz.prog 206=true:=by kernel_rfl
theorem call209:callable Tryz.prog 209=true:=by kernel_rfl
theorem call210:callable Tryz.prog 210=true:=by kernel_rfl
theorem call211:callable Tryz.prog 211=true:=by kernel_rfl
theorem call212:callable Tryz.prog 212=true:=by kernel_rfl
theorem call213:callable Tryz.prog 213=true:=by kernel_rfl
theorem call214:callable Tryz.prog 214=true:=by kernel_rfl
theorem call215:callable Tryz.prog 215=true:=by kernel_rfl
theorem call216:callable Tryz.prog 216=true:=by kernel_rfl
theorem call219:callable Tryz.prog 219=true:=by kernel_rfl
theorem call220:callable Tryz.prog 220=true:=by kernel_rfl
theorem call224:callable Tryz.prog 224=true:=by kernel_rfl
theorem call225:callable Tryz.prog 225=true:=by kernel_rfl
theorem call226:callable Tryz.prog 226=true:=by kernel_rfl
theorem call229:callable Tryz.prog 229=true:=by kernel_rfl
theorem call230:callable Tryz.prog 230=true:=by kernel_rfl
theorem call231:callable Tryz.prog 231=true:=by kernel_rfl
theorem call232:callable Tryz.prog 232=true:=by kernel_rfl
theorem call233:callable Tryz.prog 233=true:=by kernel_rfl
theorem call234:callable Tryz.prog 234=true:=by kernel_rfl
theorem call235:callable Tryz.prog 235=true:=by kernel_rfl
theorem call236:callable Tryz.prog 236=true:=by kernel_rfl
theorem call237:callable Tryz.prog 237=true:=by kernel_rfl
theorem call238:callable Tryz.prog 238=true:=by kernel_rfl
theorem call250:callable Tryz.prog 250=true:=by kernel_rfl
theorem call251:callable Tryz.prog 251=true:=by kernel_rfl
theorem call252:callable Tryz.prog 252=true:=by kernel_rfl
theorem call253:callable Tryz.prog 253=true:=by kernel_rfl
theorem call254:callable Tryz.prog 254=true:=by kernel_rfl
theorem call255:callable Tryz.prog 255=true:=by kernel_rfl
theorem call256:callable Tryz.prog 256=true:=by kernel_rfl
theorem call257:callable Tryz.prog 257=true:=by kernel_rfl
theorem call258:callable Tryz.prog 258=true:=by kernel_rfl
theorem call259:callable Tryz.prog 259=true:=by kernel_rfl
theorem call271:callable Tryz.prog 271=true:=by kernel_rfl
theorem call272:callable Tryz.prog 272=true:=by kernel_rfl
theorem call277:callable Tryz.prog 277=true:=by kernel_rfl
theorem call280:callable Tryz.prog 280=true:=by kernel_rfl
theorem call281:callable Tryz.prog 281=true:=by kernel_rfl
theorem call282:callable Tryz.prog 282=true:=by kernel_rfl
theorem call283:callable Tryz.prog 283=true:=by kernel_rfl
theorem call284:callable Tryz.prog 284=true:=by kernel_rfl
theorem call291:callable Tryz.prog 291=true:=by kernel_rfl
theorem call292:callable Tryz.prog 292=true:=by kernel_rfl
theorem call293:callable Tryz.prog 293=true:=by kernel_rfl
theorem call294:callable Tryz.prog 294=true:=by kernel_rfl
theorem call295:callable Tryz.prog 295=true:=by kernel_rfl
theorem call296:callable Tryz.prog 296=true:=by kernel_rfl
theorem call297:callable Tryz.prog 297=true:=by kernel_rfl
theorem call298:callable Tryz.prog 298=true:=by kernel_rfl
theorem call299:callable Tryz.prog 299=true:=by kernel_rfl
theorem call300:callable Tryz.prog 300=true:=by kernel_rfl
theorem call301:callable Tryz.prog 301=true:=by kernel_rfl
theorem call302:callable Tryz.prog 302=true:=by kernel_rfl
theorem call303:callable Tryz.prog 303=true:=by kernel_rfl
theorem call309:callable Tryz.prog 309=true:=by kernel_rfl
theorem call315:callable Tryz.prog 315=true:=by kernel_rfl
theorem call317:callable Tryz.prog 317=true:=by kernel_rfl
theorem call318:callable Tryz.prog 318=true:=by kernel_rfl
theorem call321:callable Tryz.prog 321=true:=by kernel_rfl
theorem call323:callable Tryz.prog 323=true:=by kernel_rfl
theorem call335:callable Tryz.prog 335=true:=by kernel_rfl
theorem call336:callable Tryz.prog 336=true:=by kernel_rfl
theorem call341:callable Tryz.prog 341=true:=by kernel_rfl
theorem call342:callable Tryz.prog 342=true:=by kernel_rfl
theorem mixed:Tryz.prog.follows .mixedOrders=true:=by kernel_rfl
end Go.Sl

namespace Go.Sl
open Go.Proofs
set_option maxRecDepth 4000
variable {κ:Ctx}{I:List Item}
abbrev deck(b:Nat)(lv:Value)(i:Int):Item:=blk b [lv,I64 i] 125
theorem Mod_ok{n k:Int}(h1:1≤k)(h2:k≤1000000000000) :
    CallS Tryz.prog κ 76 [I64 (n),I64 (k)] I (fun r J=>∃x:Int,r=I64 x∧(0≤x∧x<k)∧I=J):=by
 have q1:=Int.tmod_lt_of_pos n (b:=k) om
 have q2:=Int.lt_tmod_of_pos n (b:=k) om
 refine Ce2 Tryz.func76 rfl rfl ?_
 refine Ai (Ga rfl (Af (Ai (Gm rfl (Gm rfl (Gr (Runs.rem rfl rfl om) (Gm rfl (Gr (Rad rfl rfl) (Gm rfl (Gr (Runs.rem rfl rfl om) (Ga rfl (Af (Ax ?_)))))))))))))
 have t1:=Int.tmod_nonneg k (a:=Int.tmod n k+k) om
 have t2:=Int.tmod_lt_of_pos (Int.tmod n k+k) (b:=k) om
 exact Ay rfl rfl (_) A0 ⟨_,rfl,⟨t1,t2⟩,rfl⟩
theorem Next_base{b:Nat}{lv:Value}{ls:List Int}{i:Int}(hl:Sl κ (deck b lv i::I) lv ls)(h0:0≤i){n:Int}(hn:n≤1000000000000) :
    CallS Tryz.prog κ 19 [.pointer (some ⟨b,0,none⟩),I64 (n)] (blk b [lv,I64 (i)] 125::I) (fun r J=>∃y:Int×Int,(r=I64 y.1∧(0≤y.1∧(1≤n→y.1<n)∧(n<1→y.1=0))∧0≤y.2)∧J=[]++deck b lv y.2::I):=by
 refine B4 hl.le fun hmax=>?_
 refine Ce2 Tryz.func19 rfl rfl ?_
 refine Ai (Ga rfl (Af (Au (Au (Bk mixed (Bo (blk b [lv,I64 (i)] 125::I) 14 (Dr 0 rfl (Ad rfl) (Dr 1 rfl (A9 rfl rfl) (Dr 2 rfl (Ad rfl) (C7 (d:=8) rfl (fun g8=>?_) (fun g8=>?_)))))))))))
 ·exact Dpo 3 rfl (Dpo 4 rfl (Dpo 5 rfl (Dpo 6 rfl (Dpo 7 rfl (Dpo 8 rfl (Dpo 9 rfl (Dpo 10 rfl (Dpo 11 rfl (Dpo 12 rfl (Dr 13 rfl (Ao rfl rfl) (Dz (Aj (Ar (S3 19 0 1 rfl rfl rfl) (Ca rfl (Ai (Ga rfl (Af (Ax (Ah (Ay rfl rfl (_) A0 ⟨(0,i),⟨rfl,⟨Int.le_refl _,by intro _;show (0:Int)<n;omega,fun _=>rfl⟩,h0⟩,rfl⟩))))))))))))))))))))
 ·refine Dro 3 rfl (Ad rfl) (Dro 4 rfl (Bh rfl) (Dro 5 rfl (Ab fld125_1 rfl) (Dro 6 rfl (As ty3) ?_)))
  refine Dro 7 rfl (Ad rfl) (Dro 8 rfl (Bh rfl) (Dro 9 rfl (Ab fld125_0 rfl) (Dro 10 rfl (As ty22) ?_)))
  refine Dro 11 rfl (Bx (α:=Int) (xs:=ls) Ac rfl (Bj hl)) (Dro 12 rfl (B6 rfl rfl) (Dr 13 rfl (Al rfl rfl) (Dz (Aj (Ar (S3 19 0 1 rfl rfl rfl) (A7 rfl (fun c19=>?_) (fun c19=>?_)))))))
  ·exact Ai (Ga rfl (Af (Ax (Ah (Ay rfl rfl (_) A0 ⟨(0,i),⟨rfl,⟨Int.le_refl _,by intro _;show (0:Int)<n;omega,fun _=>rfl⟩,h0⟩,rfl⟩)))))
  ·refine Aw (Aj (Au (Bk mixed (Bo (blk b [lv,I64 (i)] 125::I) 11 (Dr 0 rfl (Ad rfl) (Dr 1 rfl (Bh rfl) (Dr 2 rfl (Ab fld125_0 rfl) (Dr 3 rfl (As ty22) ?_))))))))
   refine Dr 4 rfl (Ad rfl) (Dr 5 rfl (Bh rfl) (Dr 6 rfl (Ab fld125_1 rfl) (Dr 7 rfl (As ty3) ?_)))
   refine Dr 8 rfl (A3 (α:=Int) (xs:=ls) Ac ty3 rfl rfl (Bj hl) om om) (Dr 9 rfl (Br (xs:=ls) ty3 rfl (Bj hl) om om) (Dr 10 rfl (Ba rfl) (Dz (Aj (Ar (S3 5 0 1 rfl rfl rfl) (Ai (Gm rfl (Gr (Bh rfl) (Gf fld125_1 rfl (Gl ty3 ?_))))))))))
   refine Gr (Rad rfl rfl) (Gr (Bh rfl) (Gf fld125_1 rfl (Ge0 (Eu ty3) ?_)))
   refine Af (Ai (Gm rfl (Gm rfl (G.e (Ap call76 rfl rfl (Mod_ok om om)) ?_))))
   rintro _ _ ⟨_,_,⟨x1,rfl,hx1,rfl⟩,rfl,rfl⟩
   exact Ga rfl (Af (Ar (S1 4 rfl) (Ax (Ay rfl rfl (_) A0 ⟨(x1,i+1),⟨rfl,⟨by omega,by omega,by omega⟩,by show 0≤i+1;omega⟩,rfl⟩))))
theorem Next_ok{F:Item→List Item}{b:Nat}{lv:Value}{ls:List Int}{i:Int}(hat:AtF I (deck b lv i) F)(hl:Sl κ I lv ls)(h0:0≤i){n:Int}(hn:n≤1000000000000) :
  CallS Tryz.prog κ 19 [.pointer (some ⟨b,0,none⟩),I64 n] I fun r J=>∃x i',r=I64 x∧(0≤x∧(1≤n→x<n)∧(n<1→x=0))∧0≤i'∧J=F (deck b lv i'):=
 (Eg (Z:=fun _=>[]) (X:=fun y:Int×Int=>deck b lv y.2) hat fun _ hJ _=>Next_base (hl.fit hJ) h0 hn).mono fun _ _ ⟨y,⟨h1,h2,h3⟩,h4⟩=>⟨y.1,y.2,h1,h2,h3,h4⟩
theorem New_ok{a:Option Addr}{n c:Nat} :
    CallS Tryz.prog κ 18 [.slice a n c] I (fun r J=>∃b,r = .pointer (some ⟨b,0,none⟩)∧J=deck b (.slice a n c) 0::I):=by
 refine Ce1 Tryz.func18 rfl rfl ?_
 exact Ai (Ga rfl (Af (Ai (Gm rfl (Gr (Bl (cells:=[_,_]) ty125 Tryz.underlying125 pl125 rfl rfl) (Ge1 (Bd (cs:=[_,_]) rfl rfl rfl) fun b1=>Ga rfl (Af (Ax (Ay rfl rfl (_) A0 ⟨b1,rfl,rfl⟩)))))))))
theorem RHas_ok{v:Value}{xs:List Int}(hl:Sl κ I v xs)(x:Int) :
    CallS Tryz.prog κ 72 [v,I64 (x)] I (fun r J=>r = .bool (decide (x∈xs))∧I=J):=by
 refine B4 hl.le fun hmax=>?_
 refine Ce2 Tryz.func72 rfl rfl ?_
 refine Ai (Ga rfl (Af (Au (Ai (Gm rfl (Gr (Bx (α:=Int) (xs:=xs) Ac rfl (Bj hl)) (Gm rfl (Af (A4 (Bv (σ:=Nat) (fun s=>([(1,I64 (x)),(7,v),(8,I64 (((xs.length:Nat):Int))),(9,I64 (((s:Nat):Int)))]:Env)) (fun s=>I) (fun s=>(s≤xs.length)∧(∀j,j<s→at_ xs (j:Int)≠x)) (fun s=>xs.length - s) (0) (show ((0:Nat)≤xs.length)∧(∀j,j<(0:Nat)→at_ xs (j:Int)≠x) from ⟨om,all_zero⟩) (Aa rfl (Aa rfl (Aa rfl (Aa B8 Bg)))) (show Fit κ _ (I) from A5) ?_))))))))))
 rintro k hp
 obtain ⟨hk,hn⟩:=hp
 refine Ai (Gr (A9 rfl rfl) (Af (Au (A7 rfl (fun c10=>?_) (fun c10=>?_)))))
 ·refine Aw (Aj (Au (A4 (Ai (Gr (A3 (α:=Int) (xs:=xs) Ac ty3 rfl rfl (Bj hl) om om) (Gr (Br (xs:=xs) ty3 rfl (Bj hl) om om) (Ga rfl (Af (Ai (Gm rfl (Gm rfl (Gr (Bi rfl rfl) (Af (A7 rfl (fun c15=>?_) (fun c15=>?_)))))))))))))))
  ·refine Ai (Ga rfl (Af (Ax (Av (Ah (Ah (Av (Ah ?_))))))))
   have hm:x∈xs:=by subst c15;exact Cf om om
   exact Ay rfl rfl (_) A0 ⟨by rw [decide_eq_true hm],rfl⟩
  ·exact Aw (Ak (Aj (Az (Gr (Rad rfl rfl) (Gm rfl (Bc (B3 ((k+1)) ⟨om,(Di hn c15)⟩)))))))
 ·refine Bs (Am (Am (A6 (Aj (Ai (Ga rfl (Af (Ax ?_))))))))
  have hm:x∉xs:=not_mem_at hn om
  exact Ay rfl rfl (_) A0 ⟨by rw [decide_eq_false hm],rfl⟩
def ValidP(xs:List Int)(nodes:Int):Prop:=∀j,j<xs.length→(0≤at_ xs (j:Int)∧at_ xs (j:Int)<nodes)∧(0<j→at_ xs ((j:Int) - 1)<at_ xs (j:Int))
instance (xs:List Int) (nodes:Int):Decidable (ValidP xs nodes):=by unfold ValidP;infer_instance
theorem NValid_ok{v:Value}{xs:List Int}(hl:Sl κ I v xs)(nodes:Int) :
    CallS Tryz.prog κ 88 [v,I64 (nodes)] I (fun r J=>r = .bool (decide (ValidP xs nodes))∧I=J):=by
 refine B4 hl.le fun hmax=>?_
 refine Ce2 Tryz.func88 rfl rfl ?_
 refine Ai (Ga rfl (Af (Au (Ai (Gm rfl (Gr (Bx (α:=Int) (xs:=xs) Ac rfl (Bj hl)) (Gm rfl (Af (A4 (Bv (σ:=Nat) (fun s=>([(0,v),(1,I64 (nodes)),(7,v),(8,I64 (((xs.length:Nat):Int))),(9,I64 (((s:Nat):Int)))]:Env)) (fun s=>I) (fun s=>(s≤xs.length)∧(∀j,j<s→(0≤at_ xs (j:Int)∧at_ xs (j:Int)<nodes)∧(0<j→at_ xs ((j:Int) - 1)<at_ xs (j:Int)))) (fun s=>xs.length - s) (0) (show ((0:Nat)≤xs.length)∧(∀j,j<(0:Nat)→(0≤at_ xs (j:Int)∧at_ xs (j:Int)<nodes)∧(0<j→at_ xs ((j:Int) - 1)<at_ xs (j:Int))) from ⟨om,all_zero⟩) (Aa rfl (Aa rfl (Aa rfl (Aa rfl (Aa B8 Bg))))) (show Fit κ _ (I) from A5) ?_))))))))))
 rintro k hp
 obtain ⟨hk,hn⟩:=hp
 refine Ai (Gr (A9 rfl rfl) (Af (Au (A7 rfl (fun c10=>?_) (fun c10=>?_)))))
 ·refine Aw (Aj (Au (A4 (Ai (Gm rfl (Gr (A3 (α:=Int) (xs:=xs) Ac ty3 rfl rfl (Bj hl) om om) (Gr (Br (xs:=xs) ty3 rfl (Bj hl) om om) (Ga rfl (Ga rfl (Af (Ai (Gm rfl (Gr (A9 rfl rfl) (Gm rfl (Bb (d:=16) rfl (fun g16=>?_) (fun g16=>?_))))))))))))))))
  ·refine Gpo (Gpo (Gpo (Gr (Ao rfl rfl) (Gm rfl (Gpo (Gpo (Gpo (Gpu (Gpu (Gpu (Gpu (Gpu (Gpu (Gpu (Gpo (Gr (Ao rfl rfl) (Af (Ar (S6 33 0 1 7 8 9 rfl rfl rfl rfl rfl rfl) (Ca rfl (Ai (Ga rfl (Af (Ax (Av (Ah (Ah (Av (Ah ?_))))))))))))))))))))))))))))
   have hm:¬ValidP xs nodes:=fun hv=>by have:=hv k om;omega
   exact Ay rfl rfl (_) A0 ⟨by rw [decide_eq_false hm],rfl⟩
  ·refine Gro (Ad rfl) (Gro (Ad rfl) (Gro (B6 rfl rfl) (Gr (Al rfl rfl) (Gm rfl (Bb (d:=21) rfl (fun g21=>?_) (fun g21=>?_))))))
   ·refine Gpo (Gpo (Gpo (Gpu (Gpu (Gpu (Gpu (Gpu (Gpu (Gpu (Gpo (Gr (Ao rfl rfl) (Af (Ar (S6 33 0 1 7 8 9 rfl rfl rfl rfl rfl rfl) (Ca rfl (Ai (Ga rfl (Af (Ax (Av (Ah (Ah (Av (Ah ?_)))))))))))))))))))))))
    have hm:¬ValidP xs nodes:=fun hv=>by have:=hv k om;omega
    exact Ay rfl rfl (_) A0 ⟨by rw [decide_eq_false hm],rfl⟩
   ·refine Gro (Ad rfl) (Gro (Bz rfl rfl) (Gro (Ad rfl) (Bb (d:=24) rfl (fun g24=>?_) (fun g24=>?_))))
    ·refine Gro (Ad rfl) (Gro (Ad rfl) (Gro (Rsu rfl rfl) (Gro (A3 (α:=Int) (xs:=xs) Ac ty3 rfl rfl (Bj hl) om om) (Gro (Br (xs:=xs) ty3 rfl (Bj hl) om om) (Gro (Ad rfl) (Gro (B6 rfl rfl) (Gro (Ao rfl rfl) (Gr (Al rfl rfl) (Af (Ar (S6 33 0 1 7 8 9 rfl rfl rfl rfl rfl rfl) (A7 rfl (fun c33=>?_) (fun c33=>?_))))))))))))
     ·refine Ai (Ga rfl (Af (Ax (Av (Ah (Ah (Av (Ah ?_))))))))
      have hm:¬ValidP xs nodes:=fun hv=>by have:=hv k om;have:=this.2 om;omega
      exact Ay rfl rfl (_) A0 ⟨by rw [decide_eq_false hm],rfl⟩
     ·exact Aw (Ak (Aj (Az (Gr (Rad rfl rfl) (Gm rfl (Bc (B3 ((k+1)) ⟨om,(Di hn ⟨by omega,fun _=>by omega⟩)⟩)))))))
    ·exact Gpo (Gpo (Gpo (Gpo (Gpo (Gpo (Gpo (Gro (Al rfl rfl) (Gr (Al rfl rfl) (Af (Ar (S6 33 0 1 7 8 9 rfl rfl rfl rfl rfl rfl) (C9 rfl (Aw (Ak (Aj (Az (Gr (Rad rfl rfl) (Gm rfl (Bc (B3 ((k+1)) ⟨om,(Di hn ⟨by omega,fun _=>by omega⟩)⟩)))))))))))))))))))
 ·refine Bs (Am (Am (A6 (Aj (Ai (Ga rfl (Af (Ax ?_))))))))
  have hm:ValidP xs nodes:=fun j hj=>hn j om
  exact Ay rfl rfl (_) A0 ⟨by rw [decide_eq_true hm],rfl⟩
variable {κ:Ctx}{I:List Item}
theorem IsNaN_ok(n:Int) :
    CallS Tryz.prog κ 277 [I64 (n)] I (fun r J=>r = .bool false∧I=J):=by
 refine Ce1 Tryz.func277 rfl rfl ?_
 exact Ai (Ga rfl (Af (Ai (Gm rfl (Gm rfl (Gr (Be rfl rfl) (Ga rfl (Af (Ax (Ay rfl rfl (I) A0 ⟨by simp,rfl⟩))))))))))
theorem Compare_ok(m n:Int) :
    CallS Tryz.prog κ 225 [I64 (m),I64 (n)] I (fun r J=>r=I64 (cmpI m n)∧I=J):=by
 refine Ce2 Tryz.func225 rfl rfl ?_
 refine Ai (Ga rfl (Af (Ai (Gm rfl (Gc0 (Ap call277 rfl rfl (IsNaN_ok m)) ?_)))))
 refine Ga rfl (Af (Ai (Gm rfl (Gc0 (Ap call277 rfl rfl (IsNaN_ok n)) ?_))))
 refine Ga rfl (Af (Au (Ai (Gm rfl (Af (C9 rfl (Aw (Aj (Au (Ai (Gm rfl (Af (C9 rfl (Aw (Aj (Au (Ai (Gm rfl (Gm rfl (Gr (A9 rfl rfl) (Af (Ar (S3 16 0 1 rfl rfl rfl) (A7 rfl (fun c16=>?_) (fun c16=>?_))))))))))))))))))))))))
 ·exact Ai (Ga rfl (Af (Ax (Ah (Ay rfl rfl (I) A0 ⟨by unfold cmpI;rw [if_pos c16],rfl⟩)))))
 ·refine Aw (Aj (Au (Ai (Gm rfl (Gm rfl (Gr (Bz rfl rfl) (Af (A7 rfl (fun c19=>?_) (fun c19=>?_)))))))))
  ·exact Ai (Ga rfl (Af (Ax (Ah (Ay rfl rfl (I) A0 ⟨by unfold cmpI;rw [if_neg c16,if_pos c19],rfl⟩)))))
  ·exact Aw (Aj (Ai (Ga rfl (Af (Ax (Ay rfl rfl (I) A0 ⟨by unfold cmpI;rw [if_neg c16,if_neg c19],rfl⟩))))))
theorem Or_ok{v:Value}{xs:List Int}(hl:Sl κ I v xs) :
    CallS Tryz.prog κ 224 [v] I (fun r J=>r=I64 (orL xs)∧I=J):=by
 refine B4 hl.le fun hmax=>?_
 refine Ce1 Tryz.func224 rfl rfl ?_
 refine Ai (Ga rfl (Af (Ai (Ga rfl (Af (Au (Ai (Gm rfl (Gr (Bx (α:=Int) (xs:=xs) Ac rfl (Bj hl)) (Gm rfl (Af (A4 (Bv (σ:=Nat) (fun s=>([(3,I64 (0)),(6,v),(7,I64 (((xs.length:Nat):Int))),(8,I64 (((s:Nat):Int)))]:Env)) (fun s=>I) (fun s=>(s≤xs.length)∧(orL xs=orL (xs.drop s))) (fun s=>xs.length - s) (0) (show ((0:Nat)≤xs.length)∧(orL xs=orL (xs.drop (0:Nat))) from ⟨om,rfl⟩) (Aa rfl (Aa rfl (Aa rfl (Aa B8 Bg)))) (show Fit κ _ (I) from A5) ?_)))))))))))))
 rintro k hp
 obtain ⟨hk,ho⟩:=hp
 refine Ai (Gr (A9 rfl rfl) (Af (Au (A7 rfl (fun c9=>?_) (fun c9=>?_)))))
 ·refine Aw (Aj (Au (A4 (Ai (Gr (A3 (α:=Int) (xs:=xs) Ac ty3 rfl rfl (Bj hl) om om) (Gr (Br (xs:=xs) ty3 rfl (Bj hl) om om) (Ga rfl (Af (Ai (Gm rfl (Gm rfl (Gr (Be rfl rfl) (Af (A7 rfl (fun c14=>?_) (fun c14=>?_)))))))))))))))
  ·exact Ai (Gm rfl (Ga rfl (Af (Ax (Av (Ah (Ah (Av (Ah (Ay rfl rfl (I) A0 ⟨by rw [ho,orL_stop om c14],rfl⟩))))))))))
  ·exact Aw (Ak (Aj (Az (Gr (Rad rfl rfl) (Gm rfl (Bc (B3 ((k+1)) ⟨om,(ho.trans (orL_step om (Decidable.of_not_not c14)))⟩)))))))
 ·exact Bs (Am (Am (A6 (Aj (Ai (Gm rfl (Ga rfl (Af (Ax (Ay rfl rfl (I) A0 ⟨by rw [ho,orL_end om],rfl⟩))))))))))
end Go.Sl
