/- A part of the proofs of statements of this seat: contracts of functions, and the plain laws that they lean on. No conditions. -/
import Derived.Test.YtfkcohmipjhfcaaGreatDoorW18
set_option linter.unusedVariables false
set_option linter.unusedSimpArgs false
set_option linter.unusedSectionVars false
namespace Go.Sl
def Clq(rows:List (BitVec 64))(X:List Int):Prop:=X.Pairwise λa b=>a<b/\b∈eo (e_ rows a)
structure ClqIn (rows:List (BitVec 64)) (W:BitVec 64) (X:List Int):Prop where
 clq:Clq rows X
 sub:∀x∈X,x∈eo W
section
variable {n:Nat}{rows:List (BitVec 64)}{W A B F:BitVec 64}{X Y:List Int}
theorem Clq.nodup(h:Clq rows X):X.Nodup:=h.imp λh=>by omega
theorem Clq.adj(h:Clq rows X)(hS:SymB n rows)(hX:∀x∈X,0<=x/\x<n){x y:Int}(hx:x∈X)(hy:y∈X)(hne:x≠y):y∈eo (e_ rows x):=by
 obtain ⟨i,hi,rfl⟩:=List.getElem_of_mem hx
 obtain ⟨j,hj,rfl⟩:=List.getElem_of_mem hy
 rcases Nat.lt_trichotomy i j with h1|h1|h1
 ·exact ((List.pairwise_iff_getElem.1 h) i j hi hj h1).2
 ·subst h1;exact absurd rfl hne
 ·have h2:=((List.pairwise_iff_getElem.1 h) j i hj hi h1).2
  have h3:=hX _ hy
  exact hS.sym _ _ h3.1 h3.2 h2
theorem ClqIn.nil(rows:List (BitVec 64))(W:BitVec 64):ClqIn rows W []:=⟨List.Pairwise.nil,λx h=>by cases h⟩
theorem ClqIn.mono(h:ClqIn rows A X)(hs:∀x∈eo A,x∈eo B):ClqIn rows B X:=⟨h.clq,λx hx=>hs x (h.sub x hx)⟩
theorem ClqIn.len(h:ClqIn rows W X):X.length<=(eo W).length:=List.Nodup.length_le_of_subset h.clq.nodup h.sub
theorem ClqIn.zero(h:ClqIn rows 0#64 X):X=[]:=by
 cases X with
 |nil=>rfl
 |cons x xs=>have:=h.sub x List.mem_cons_self;rw [listB_zero] at this;cases this
theorem ClqIn.split{v:Int}(h:ClqIn rows W X)(hm:v∈eo W)(hv:∀u∈eo W,v<=u):(∃Y,X=v::Y/\ClqIn rows ((W &&& ~~~(1#64 <<< v.toNat)) &&& e_ rows v) Y)\/ClqIn rows (W &&& ~~~(1#64 <<< v.toNat)) X:=by
 have h0:=(listB_lt hm).1
 cases X with
 |nil=>exact .inr (ClqIn.nil _ _)
 |cons x Y=>
  obtain ⟨h1,h2⟩:=List.pairwise_cons.1 h.clq
  by_cases e:x=v
  ·subst e
   refine .inl ⟨Y,rfl,h2,λy hy=>?_⟩
   have h3:=h1 y hy
   exact mem_andB.2 ⟨(mem_minus h0).2 ⟨h.sub y (List.mem_cons_of_mem _ hy),by omega⟩,h3.2⟩
  ·refine .inr ⟨h.clq,λy hy=>(mem_minus h0).2 ⟨h.sub y hy,λe2=>?_⟩⟩
   have hx:=hv x (h.sub x List.mem_cons_self)
   rcases List.mem_cons.1 hy with rfl|hy
   ·exact e e2
   ·have:=(h1 y hy).1;omega
theorem ClqIn.cons{v:Int}(h:ClqIn rows ((W &&& ~~~(1#64 <<< v.toNat)) &&& e_ rows v) Y)(hm:v∈eo W)(hv:∀u∈eo W,v<=u):ClqIn rows W (v::Y):=by
 have h0:=(listB_lt hm).1
 refine ⟨List.pairwise_cons.2 ⟨λy hy=>?_,h.clq⟩,λy hy=>?_⟩
 ·obtain ⟨h1,h2⟩:=mem_andB.1 (h.sub y hy)
  obtain ⟨h3,h4⟩:=(mem_minus h0).1 h1
  have:=hv y h3
  exact ⟨by omega,h2⟩
 ·rcases List.mem_cons.1 hy with rfl|hy
  ·exact hm
  ·exact ((mem_minus h0).1 (mem_andB.1 (h.sub y hy)).1).1
def inC(X:List Int)(A:BitVec 64):Nat:=(X.filter λx=>decide (x∈eo A)).length
theorem inC_all(h:∀x∈X,x∈eo W):inC X W=X.length:=by
 unfold inC
 rw [List.filter_eq_self.2 λx hx=>decide_eq_true (h x hx)]
theorem inC_zero:inC X 0#64=0:=by
 unfold inC
 rw [List.length_eq_zero_iff,List.filter_eq_nil_iff]
 intro x _
 rw [listB_zero];simp
theorem inC_out{v:Int}(h0:0<=v)(hv:v∉X):inC X (A &&& ~~~(1#64 <<< v.toNat))=inC X A:=by
 unfold inC
 congr 1
 refine List.filter_congr λx hx=>?_
 rw [decide_eq_decide,mem_minus h0]
 exact ⟨λh=>h.1,λh=>⟨h,λe=>hv (e▸hx)⟩⟩
theorem inC_one{v:Int}(h0:0<=v)(hn:X.Nodup):inC X A<=inC X (A &&& ~~~(1#64 <<< v.toNat))+1:=by
 have key:∀X:List Int,X.Nodup->inC X A<=inC X (A &&& ~~~(1#64 <<< v.toNat))+1/\(v∉X->inC X (A &&& ~~~(1#64 <<< v.toNat))=inC X A):=λX=>by
  induction X with
  |nil=>exact λ_=>⟨by unfold inC;simp,λ_=>rfl⟩
  |cons x xs ih=>
   intro hn
   obtain ⟨h1,h2⟩:=List.nodup_cons.1 hn
   obtain ⟨i1,i2⟩:=ih h2
   refine ⟨?_,inC_out h0⟩
   unfold inC at i1 i2 ⊢
   rw [List.filter_cons,List.filter_cons]
   by_cases hx:x∈eo A
   ·rw [if_pos (decide_eq_true hx)]
    by_cases e:x=v
    ·subst e
     have:=i2 h1
     rw [if_neg (by simp [mem_minus h0]),List.length_cons];omega
    ·rw [if_pos (decide_eq_true ((mem_minus h0).2 ⟨hx,e⟩)),List.length_cons,List.length_cons];omega
   ·rw [if_neg (by simp [hx]),if_neg (by simp [mem_minus h0,hx])]
    exact i1
 exact (key X hn).1
structure TakeI (rows:List (BitVec 64)) (W A A1 F:BitVec 64):Prop where
 sub:∀x∈eo F,x∈eo A1
 sub2:∀x∈eo A1,x∈eo A
 lt:(F=A/\A1=A)\/(eo A1).length<(eo A).length
 clq:∀X,ClqIn rows W X->inC X A1=inC X A\/(inC X A<=inC X A1+1/\∀x∈X,x∉eo F)
theorem TakeI.start(rows:List (BitVec 64))(W A:BitVec 64):TakeI rows W A A A:=⟨λ_ h=>h,λ_ h=>h,.inl ⟨rfl,rfl⟩,λ_ _=> .inl rfl⟩
theorem TakeI.step(hS:SymB n rows)(hW:∀x∈eo W,x<n){A1:BitVec 64}(h:TakeI rows W A A1 F){v:Int}(hv:v∈eo F):TakeI rows W A (A1 &&& ~~~(1#64 <<< v.toNat)) (F &&& ~~~(1#64 <<< v.toNat ||| e_ rows v)):=by
 have h0:=(listB_lt hv).1
 have hF:∀x,x∈eo (F &&& ~~~(1#64 <<< v.toNat ||| e_ rows v))->x∈eo F/\x≠v/\x∉eo (e_ rows v):=λx hx=>by
  have hr:=listB_lt hx
  rw [mem_listB,BitVec.getLsbD_and,BitVec.getLsbD_not,BitVec.getLsbD_or,getLsb_shl _ _ (by omega),Bool.and_eq_true,Bool.and_eq_true,Bool.not_eq_true',Bool.or_eq_false_iff] at hx
  refine ⟨mem_listB.2 ⟨hx.1,hx.2.1⟩,λe=>?_,λhm=>?_⟩
  ·subst e
   have:=hx.2.2.2.1
   simp at this
  ·have:=hx.2.2.2.2
   rw [mem_listB] at hm
   rw [hm.2] at this;cases this
 have hvA:=h.sub v hv
 refine ⟨λx hx=>?_,λx hx=>h.sub2 x ((mem_minus h0).1 hx).1,.inr ?_,λX hX=>?_⟩
 ·obtain ⟨h1,h2,_⟩:=hF x hx
  exact (mem_minus h0).2 ⟨h.sub x h1,h2⟩
 ·have h1:=listB_minus hvA
  have h2:=List.Nodup.length_le_of_subset (listB_nodup A1) h.sub2
  omega
 ·by_cases hm:v∈X
  ·rcases h.clq X hX with h1|⟨_,h1⟩
   ·refine .inr ⟨?_,λx hx hxF=>?_⟩
    ·have:=inC_one (A:=A1) h0 hX.clq.nodup;omega
    ·obtain ⟨_,h3,h4⟩:=hF x hxF
     exact h4 (hX.clq.adj hS (λy hy=>⟨(listB_lt (hX.sub y hy)).1,hW y (hX.sub y hy)⟩) hm hx (λe=>h3 e.symm))
   ·exact absurd hv (h1 v hm)
  ·rw [inC_out h0 hm]
   rcases h.clq X hX with h1|⟨h1,h2⟩
   ·exact .inl h1
   ·exact .inr ⟨h1,λx hx hxF=>h2 x hx (hF x hxF).1⟩
structure BdI (rows:List (BitVec 64)) (W A:BitVec 64) (q:Nat):Prop where
 sub:∀x∈eo A,x∈eo W
 bd:∀X,ClqIn rows W X->X.length<=q+inC X A
 len:q+(eo A).length<=(eo W).length
theorem BdI.start(rows:List (BitVec 64))(W:BitVec 64):BdI rows W W 0:=⟨λ_ h=>h,λX hX=>by rw [inC_all hX.sub];omega,by omega⟩
theorem BdI.step{q:Nat}{A1:BitVec 64}(h:BdI rows W A q)(hT:TakeI rows W A A1 0#64)(hA:A≠0#64):BdI rows W A1 (q+1)/\(eo A1).length<(eo A).length:=by
 have hlt:(eo A1).length<(eo A).length:=by
  rcases hT.lt with ⟨e,_⟩|h1
  ·exact absurd e.symm hA
  ·exact h1
 refine ⟨⟨λx hx=>h.sub x (hT.sub2 x hx),λX hX=>?_,by have:=h.len;omega⟩,hlt⟩
 have h1:=h.bd X hX
 rcases hT.clq X hX with h2|⟨h2,_⟩<;>omega
theorem BdI.done{q:Nat}(h:BdI rows W 0#64 q):∀X,ClqIn rows W X->X.length<=q:=λX hX=>by
 have:=h.bd X hX
 rw [inC_zero] at this;omega
structure GrowR (rows:List (BitVec 64)) (W:BitVec 64) (size b b':Int):Prop where
 le:b<=b'
 all:∀X,ClqIn rows W X->size+X.length<=b'
 real:b'=b\/∃X,ClqIn rows W X/\b'=size+X.length
structure SrchI (rows:List (BitVec 64)) (W A:BitVec 64) (size b b1:Int):Prop where
 le:b<=b1/\size<=b1
 sub:∀x∈eo A,x∈eo W
 all:∀X,ClqIn rows W X->size+X.length<=b1\/ClqIn rows A X
 real:b1=b\/∃X,ClqIn rows W X/\b1=size+X.length
theorem SrchI.start(rows:List (BitVec 64))(W:BitVec 64)(size b:Int):SrchI rows W W size b (max b size):=
 ⟨by omega,λ_ h=>h,λX hX=> .inr hX,by
  by_cases h:size<=b
  ·exact .inl (by omega)
  ·exact .inr ⟨[],ClqIn.nil _ _,by simp;omega⟩⟩
theorem SrchI.stop{size b b1:Int}(h:SrchI rows W A size b b1)(hq:∀X,ClqIn rows A X->size+X.length<=b1):GrowR rows W size b b1:=
 ⟨h.le.1,λX hX=>(h.all X hX).elim id (hq X),h.real⟩
theorem SrchI.ones{size b b1:Int}(h:SrchI rows W A size b b1)(hq:size+((eo A).length:Int)<=b1):GrowR rows W size b b1:=h.stop λX hX=>by
 have:=hX.len;omega
theorem SrchI.step{size b b1 b2:Int}(h:SrchI rows W A size b b1){v:Int}(hm:v∈eo A)(hv:∀u∈eo A,v<=u)(hg:GrowR rows ((A &&& ~~~(1#64 <<< v.toNat)) &&& e_ rows v) (size+1) b1 b2):SrchI rows W (A &&& ~~~(1#64 <<< v.toNat)) size b b2:=by
 have h0:=(listB_lt hm).1
 have hle:=hg.le
 refine ⟨⟨by have:=h.le;omega,by have:=h.le;omega⟩,λx hx=>h.sub x ((mem_minus h0).1 hx).1,λX hX=>?_,?_⟩
 ·rcases h.all X hX with h1|h1
  ·exact .inl (by omega)
  ·rcases h1.split hm hv with ⟨Y,rfl,hY⟩|h2
   ·have:=hg.all Y hY
    refine .inl ?_
    rw [List.length_cons];omega
   ·exact .inr h2
 ·rcases hg.real with e|⟨Y,hY,e⟩
  ·rw [e];exact h.real
  ·refine .inr ⟨v::Y,(hY.cons hm hv).mono h.sub,?_⟩
   rw [List.length_cons,e];omega
def Lx(X Z:List Int):Prop:=X=Z\/∃p x z r s,X=p++x::r/\Z=p++z::s/\x<z
theorem Lx.antisymm:∀{X Z:List Int},Lx X Z->Lx Z X->X=Z:=fun {X Z} h1 h2=>by
 rcases h1 with h1|⟨p,x,z,r,s,rfl,rfl,hlt⟩
 ·exact h1
 ·rcases h2 with h2|⟨p',x',z',r',s',e1,e2,hlt'⟩
  ·exact h2.symm
  ·exfalso
   have key:∀(p p':List Int) (x z x' z':Int) (r s r' s':List Int),p++z::s=p'++x'::r'->p++x::r=p'++z'::s'->x<z->x'<z'->False:=by
    intro p
    induction p with
    |nil=>
     intro p' x z x' z' r s r' s' e1 e2 h1 h2
     cases p' with
     |nil=>
      simp only [List.nil_append,List.cons.injEq] at e1 e2
      omega
     |cons a p'=>
      simp only [List.nil_append,List.cons_append,List.cons.injEq] at e1 e2
      omega
    |cons a p ih=>
     intro p' x z x' z' r s r' s' e1 e2 h1 h2
     cases p' with
     |nil=>
      simp only [List.nil_append,List.cons_append,List.cons.injEq] at e1 e2
      omega
     |cons a' p'=>
      simp only [List.cons_append,List.cons.injEq] at e1 e2
      exact ih p' x z x' z' r s r' s' e1.2 e2.2 h1 h2
   exact key p p' x z x' z' r s r' s' e1 e2 hlt hlt'
structure MaxClR (rows:List (BitVec 64)) (W:BitVec 64) (X:List Int):Prop where
 clq:ClqIn rows W X
 max:∀Z,ClqIn rows W Z->Z.length<=X.length
 first:∀Z,ClqIn rows W Z->Z.length=X.length->Lx X Z
theorem MaxClR.uniq{X Z:List Int}(h:MaxClR rows W X)(h':MaxClR rows W Z):X=Z:=by
 have h1:=h.max Z h'.clq
 have h2:=h'.max X h.clq
 exact (h.first Z h'.clq (by omega)).antisymm (h'.first X h.clq (by omega))
structure PickI (rows:List (BitVec 64)) (W A:BitVec 64) (out:List Int) (left:Nat):Prop where
 join:∀Y,ClqIn rows A Y->ClqIn rows W (out++Y)
 some:∃Y,ClqIn rows A Y/\Y.length=left
 max:∀Z,ClqIn rows W Z->Z.length<=out.length+left
 most:∀Y,ClqIn rows A Y->Y.length<=left
 first:∀Z,ClqIn rows W Z->Z.length=out.length+left->(∃Y,ClqIn rows A Y/\Z=out++Y)\/∃p x z r s,out=p++x::r/\Z=p++z::s/\x<z
theorem PickI.start{m:Nat}(h1:∃Y,ClqIn rows W Y/\Y.length=m)(h2:∀Y,ClqIn rows W Y->Y.length<=m):PickI rows W W [] m:=
 ⟨λY h=>h,h1,λZ h=>by have:=h2 Z h;simp;omega,h2,λZ h _=> .inl ⟨Z,h,rfl⟩⟩
theorem PickI.done{out:List Int}(h:PickI rows W A out 0):MaxClR rows W out:=by
 have hc:=h.join [] (ClqIn.nil _ _)
 rw [List.append_nil] at hc
 refine ⟨hc,λZ hZ=>by have:=h.max Z hZ;omega,λZ hZ hl=>?_⟩
 rcases h.first Z hZ (by omega) with ⟨Y,_,rfl⟩|⟨p,x,z,r,s,e1,e2,hlt⟩
 ·rw [List.length_append] at hl
  have:Y=[]:=List.length_eq_zero_iff.1 (by omega)
  subst this
  exact .inl (List.append_nil _).symm
 ·exact .inr ⟨p,x,z,r,s,e1,e2,hlt⟩
structure ScanI (rows:List (BitVec 64)) (A M:BitVec 64) (left:Nat):Prop where
 sub:∀x∈eo M,x∈eo A
 all:∀Y,ClqIn rows A Y->Y.length=left->ClqIn rows M Y
theorem ScanI.start(rows:List (BitVec 64))(A:BitVec 64)(left:Nat):ScanI rows A A left:=⟨λ_ h=>h,λ_ h _=>h⟩
theorem ScanI.ne{M:BitVec 64}{left:Nat}{out:List Int}(h:ScanI rows A M left)(hp:PickI rows W A out left)(hl:0<left):M≠0#64:=λe=>by
 subst e
 obtain ⟨Y,hY,hYl⟩:=hp.some
 have:=(h.all Y hY hYl).zero
 subst this
 simp at hYl;omega
theorem ScanI.skip{M:BitVec 64}{left:Nat}(h:ScanI rows A M left){v:Int}(hm:v∈eo M)(hv:∀u∈eo M,v<=u)(hno:∀Y,ClqIn rows ((M &&& ~~~(1#64 <<< v.toNat)) &&& e_ rows v) Y->Y.length+1<left):ScanI rows A (M &&& ~~~(1#64 <<< v.toNat)) left:=by
 have h0:=(listB_lt hm).1
 refine ⟨λx hx=>h.sub x ((mem_minus h0).1 hx).1,λY hY hl=>?_⟩
 rcases (h.all Y hY hl).split hm hv with ⟨Z,rfl,hZ⟩|h2
 ·have:=hno Z hZ
  rw [List.length_cons] at hl;omega
 ·exact h2
theorem ScanI.take{M:BitVec 64}{left:Nat}{out:List Int}(h:ScanI rows A M left)(hp:PickI rows W A out left)(hl:0<left){v:Int}(hm:v∈eo M)(hv:∀u∈eo M,v<=u)(hyes:∃Y,ClqIn rows ((M &&& ~~~(1#64 <<< v.toNat)) &&& e_ rows v) Y/\left<=Y.length+1):PickI rows W ((M &&& ~~~(1#64 <<< v.toNat)) &&& e_ rows v) (out++[v]) (left - 1):=by
 have up:∀Y,ClqIn rows ((M &&& ~~~(1#64 <<< v.toNat)) &&& e_ rows v) Y->ClqIn rows A (v::Y):=λY hY=>(hY.cons hm hv).mono h.sub
 have hmost:∀Y,ClqIn rows ((M &&& ~~~(1#64 <<< v.toNat)) &&& e_ rows v) Y->Y.length<=left - 1:=λY hY=>by
  have:=hp.most _ (up Y hY)
  rw [List.length_cons] at this;omega
 refine ⟨λY hY=>?_,?_,λZ hZ=>?_,hmost,λZ hZ hZl=>?_⟩
 ·have:=hp.join _ (up Y hY)
  rwa [List.append_assoc]
 ·obtain ⟨Y,hY,hYl⟩:=hyes
  exact ⟨Y,hY,by have:=hmost Y hY;omega⟩
 ·have:=hp.max Z hZ
  rw [List.length_append,List.length_singleton];omega
 ·rw [List.length_append,List.length_singleton] at hZl
  rcases hp.first Z hZ (by omega) with ⟨Y,hY,rfl⟩|⟨p,x,z,r,s,e1,e2,hlt⟩
  ·rw [List.length_append] at hZl
   have hYM:=h.all Y hY (by omega)
   rcases hYM.split hm hv with ⟨Y',rfl,hY'⟩|h2
   ·exact .inl ⟨Y',hY',by rw [List.append_assoc];rfl⟩
   ·cases Y with
    |nil=>rw [List.length_nil] at hZl;omega
    |cons y Y'=>
     have h0:=(listB_lt hm).1
     have h3:=(mem_minus h0).1 (h2.sub y List.mem_cons_self)
     have h4:=hv y h3.1
     exact .inr ⟨out,v,y,[],Y',rfl,rfl,by omega⟩
  ·exact .inr ⟨p,x,z,r++[v],s,by rw [e1,List.append_assoc];rfl,e2,hlt⟩
end
end Go.Sl
namespace Go.Sl
open Go.Proofs
set_option maxRecDepth 4000
variable {κ:Ctx}{I:List Item}
theorem CMasks_ok{nd:Int}{va:Value}{es:List Pt}(hl:Sl κ I va es)(hG:GrOk nd es):eu Tryz.prog κ 242 [.agg #[e7 nd,va]] I (λr J=>∃a c,r = .slice a (ek nd es).length c/\J=vc 175 (.slice a (ek nd es).length c) (ek nd es)::I):=by
 refine Cg hl.le λhmax=>?_
 have hrng:=hG.rng
 refine Ce1 Tryz.func242 C C ?_
 refine Aj (Ge1 (Bg (cs:=[_,_]) C C C) λb1=>Ga C (Ah (Aj (Gf fld48_0 C (Gl ef ?_)))))
 refine Ge2 (Cw (α:=(BitVec 64)) (n:=nd.toNat) B6 ty175 C C C om om dc C) λad2 cp3=>?_
 refine Ga C ?_
 have hrep:(List.replicate nd.toNat (default:(BitVec 64))).length=nd.toNat:=List.length_replicate
 refine Ah (Au (Aj (Gf fld48_1 C (Gl ty46 ?_))))
 refine Gr (Cb (α:=Pt) (xs:=es) Bu C (Bj hl)) (Gm C (Ah (A6 (Ca (σ:=Nat×(List (BitVec 64))) (λs=>([(3,.slice ad2 (List.replicate nd.toNat (default:(BitVec 64))).length cp3),(10,va),(11,e7 ((es.length:Nat):Int)),(12,e7 ((s.1:Nat):Int))]:Env)) (λs=>vc 175 (.slice ad2 (List.replicate nd.toNat (default:(BitVec 64))).length cp3) (s.2)::e8 b1 [e7 nd,va] 48::I) (λs=>(s.1<=es.length)/\(s.2=ek nd (es.take s.1))/\(s.2.length=nd.toNat)) (λs=>es.length - s.1) (0,List.replicate nd.toNat (default:(BitVec 64))) ⟨om,(by unfold ek rows0;rw [show (min (max nd 0) 64).toNat=nd.toNat by omega];rfl),(by simp)⟩ (Aa C (Aa C (Aa C (Aa Cr Bq)))) A5 ?_))))
 rintro ⟨k,rows⟩ hp
 dsimp only at hp ⊢
 obtain ⟨hk,hr,hrl⟩:=hp
 have hed:=λh:k<es.length=>hG.at h
 refine Aj (Gr (Bi C C) (Ah (Au (Bd C (λc13=>?_) (λc13=>?_)))))
 ·refine A4 (Ai (Au (A6 (Aj (Gr (A2 (α:=Pt) (xs:=es) Bu ty135 C C (Bj hl) om oo) (Gr (B7 (α:=Pt) (xs:=es) ty135 C (Bj hl) om oo) (Ge1 (A9 ty135 C) λb4=>Ge0 (Cs ty135) ?_)))))))
  refine Ah (Au (Bt mixed (C7 10 (Dr 0 C (Af C) (Dr 1 C (Ab fld135_0 C) (Dr 2 C (As ef) ?_))))))
  refine Dr 3 C (A2 (α:=(BitVec 64)) (xs:=rows) B6 ty175 C C Bk om oo) (Dr 4 C (Ct (α:=(BitVec 64)) (xs:=rows) (u:=U64 ((e_ rows ((e_ es k).u)))) ty175 C Bk om oo C) (Dr 5 C (Ab fld135_1 C) (Dr 6 C (As ef) ?_)))
  refine Dr 7 C (Eq (a:=1#64) C C om om) (Dr 8 C (E0 (a:=(e_ rows ((e_ es k).u))) (b:=(1#64) <<< ((e_ es k).v).toNat) C C) (Dr 9 C (A2 (α:=(BitVec 64)) (xs:=rows) B6 ty175 C C Bk om oo) (Dc kr ?_)))
  refine Ae 10 C (Cy (α:=(BitVec 64)) (xs:=rows) (e:=175) (new:=(e_ rows ((e_ es k).u)) ||| ((1#64) <<< ((e_ es k).v).toNat)) ty175 C C C om oo am) ?_
  rintro _ _ ⟨rfl,rfl⟩
  refine De kr ?_
  refine Ai (Av (S5 5 3 10 11 12 C C C C C) (Bt mixed (C7 10 (Dr 0 C (Af C) (Dr 1 C (Ab fld135_1 C) (Dr 2 C (As ef) ?_))))))
  refine Dr 3 C (A2 (α:=(BitVec 64)) (xs:=List.set rows ((e_ es k).u).toNat ((e_ rows ((e_ es k).u)) ||| ((1#64) <<< ((e_ es k).v).toNat))) B6 ty175 C C Bk om oo) (Dr 4 C (Ct (α:=(BitVec 64)) (xs:=List.set rows ((e_ es k).u).toNat ((e_ rows ((e_ es k).u)) ||| ((1#64) <<< ((e_ es k).v).toNat))) (u:=U64 ((e_ (List.set rows ((e_ es k).u).toNat ((e_ rows ((e_ es k).u)) ||| ((1#64) <<< ((e_ es k).v).toNat))) ((e_ es k).v)))) ty175 C Bk om oo C) (Dr 5 C (Ab fld135_0 C) (Dr 6 C (As ef) ?_)))
  refine Dr 7 C (Eq (a:=1#64) C C om om) (Dr 8 C (E0 (a:=(e_ (List.set rows ((e_ es k).u).toNat ((e_ rows ((e_ es k).u)) ||| ((1#64) <<< ((e_ es k).v).toNat))) ((e_ es k).v))) (b:=(1#64) <<< ((e_ es k).u).toNat) C C) (Dr 9 C (A2 (α:=(BitVec 64)) (xs:=List.set rows ((e_ es k).u).toNat ((e_ rows ((e_ es k).u)) ||| ((1#64) <<< ((e_ es k).v).toNat))) B6 ty175 C C Bk om oo) (Dc kr ?_)))
  refine Ae 10 C (Cy (α:=(BitVec 64)) (xs:=List.set rows ((e_ es k).u).toNat ((e_ rows ((e_ es k).u)) ||| ((1#64) <<< ((e_ es k).v).toNat))) (e:=175) (new:=(e_ (List.set rows ((e_ es k).u).toNat ((e_ rows ((e_ es k).u)) ||| ((1#64) <<< ((e_ es k).v).toNat))) ((e_ es k).v)) ||| ((1#64) <<< ((e_ es k).u).toNat)) ty175 C C C om oo am) ?_
  rintro _ _ ⟨rfl,rfl⟩
  refine De kr ?_
  refine Ak (Ai (Av (S4 3 10 11 12 C C C C) (A0 (Gr (Rad C C) (Gm C (Bf ?_))))))
  have hset:List.set (List.set rows ((e_ es k).u).toNat ((e_ rows ((e_ es k).u)) ||| ((1#64) <<< ((e_ es k).v).toNat))) ((e_ es k).v).toNat ((e_ (List.set rows ((e_ es k).u).toNat ((e_ rows ((e_ es k).u)) ||| ((1#64) <<< ((e_ es k).v).toNat))) ((e_ es k).v)) ||| ((1#64) <<< ((e_ es k).u).toNat))=addRow rows (e_ es k):=by unfold addRow;rw [if_pos om]
  rw [hset]
  exact Ch ((k+1),(addRow rows (e_ es k))) (by dsimp only;exact ⟨om,(by rw [rowsB_take om,←hr]),(by rw [addRow_len];exact hrl)⟩)
 ·refine Bp (Ac (Ac (Aw (Ai (Aj (Gm C (Ga C (Ah (Az ?_)))))))))
  rw [List.take_of_length_le om] at hr
  subst hr
  have hle:(ek nd es).length=(List.replicate nd.toNat (default:(BitVec 64))).length:=by omega
  exact Ba C C (vc 175 (.slice ad2 (ek nd es).length cp3) (ek nd es)::I) (by rw [hle];exact A5) ⟨_,_,by rw [hle],rfl⟩
theorem free_lt{F G:BitVec 64}{v:Int}(hv:v∈eo F):(eo (F &&& ~~~(1#64 <<< v.toNat ||| G))).length<(eo F).length:=by
 have h0:=(Fd hv).1
 have h1:=listB_minus hv
 have h2:(eo (F &&& ~~~(1#64 <<< v.toNat ||| G))).length<=(eo (F &&& ~~~(1#64 <<< v.toNat))).length:=by
  refine List.Nodup.length_le_of_subset (D9 _) λx hx=>?_
  rw [El,BitVec.getLsbD_and,BitVec.getLsbD_not,BitVec.getLsbD_or,Bool.and_eq_true,Bool.and_eq_true,Bool.not_eq_true',Bool.or_eq_false_iff] at hx
  rw [El,BitVec.getLsbD_and,BitVec.getLsbD_not,Bool.and_eq_true,Bool.and_eq_true,Bool.not_eq_true']
  exact ⟨hx.1,hx.2.1,hx.2.2.1,hx.2.2.2.1⟩
 omega
theorem CBound_ok{ra:Option Addr}{rc n:Nat}{rows:List (BitVec 64)}(hr:Sl κ I (.slice ra rows.length rc) rows)(hS:SymB n rows){Wq:BitVec 64}(hW:∀x∈eo Wq,x<n)(hT:TabRd κ I 0 tzCells):eu Tryz.prog κ 287 [.slice ra rows.length rc,U64 Wq] I (λr J=>∃q:Nat,r=e7 ((q:Nat):Int)/\(∀X,ClqIn rows Wq X->X.length<=q)/\q<=(eo Wq).length/\I=J):=by
 have hSl:=hS.len
 refine Ce2 Tryz.func287 C C ?_
 refine Aj (Ga C (Ah (Aj (Ga C (Ah (Au (A6 (Ca (σ:=(BitVec 64)×Nat) (λs=>([(0,.slice ra rows.length rc),(1,U64 (s.1)),(5,e7 ((s.2:Nat):Int))]:Env)) (λs=>I) (λs=>(BdI rows Wq s.1 s.2)) (λs=>(eo s.1).length) (Wq,0) (BdI.start rows Wq) (Aa C (Aa (Da C (by first|rfl|simp)) (Aa Cr Bq))) (show Fit κ _ I from A5) ?_))))))))
 rintro ⟨Aq,q⟩ hp
 dsimp only at hp ⊢
 have hB:=hp
 have hq64:q<=64:=by have h1:=hB.len;have h2:=Em Wq;omega
 refine Au (Aj (Gm C (Gr (Eh (a:=Aq) (b:=0#64) C C) (Ah (Bd C (λc9=>?_) (λc9=>?_))))))
 ·refine A4 (Ai (Au (A6 (Aj (Gm C (Ga C (Ah (A6 (Ca (σ:=(BitVec 64)×(BitVec 64)) (λs=>([(0,.slice ra rows.length rc),(1,U64 (s.2)),(5,e7 ((q:Int))),(6,U64 (s.1))]:Env)) (λs=>I) (λs=>(TakeI rows Wq Aq s.2 s.1)) (λs=>(eo s.1).length) (Aq,Aq) (TakeI.start rows Wq Aq) (Aa C (Aa (Da C (by first|rfl|simp)) (Aa C (Aa (Da C (by first|rfl|simp)) Bq)))) (show Fit κ _ I from A5) ?_)))))))))
  rintro ⟨F,A1⟩ hp
  dsimp only at hp ⊢
  have hTk:=hp
  refine Au (Aj (Gm C (Gr (Eh (a:=F) (b:=0#64) C C) (Ah (Bd C (λc14=>?_) (λc14=>?_))))))
  ·refine A4 (Ai (A6 (Aj (Gm C (G.e (Am call234 C C (Tz_ok F (Bw hT Ay))) ?_)))))
   rintro _ _ ⟨_,_,⟨rfl,rfl⟩,rfl,rfl⟩
   refine Ga C ?_
   have hv0:=tzB_le (m:=F) c14
   generalize hvE:tzB F=v at hv0 ⊢
   obtain ⟨hvm,hvl⟩:=hv0
   have hvr:=Fd hvm
   have hvn:=hW v (hB.sub v (hTk.sub2 v (hTk.sub v hvm)))
   exact Ah (Aj (Gm C (Gm C (Gr (Eq (a:=1#64) C C om om) (Gr (D8 (a:=A1) (b:=(1#64) <<< (v).toNat) C C) (Ga C (Ah (Av (S5 1 7 0 5 6 C C C C C) (Bt mixed (C9 I 10 (Dr 0 C (Af C) (Dr 1 C (Af C) (Dr 2 C (Eq (a:=1#64) C C om om) (Dr 3 C (Af C) (Dr 4 C (Af C) (Dr 5 C (A2 (α:=(BitVec 64)) (xs:=rows) B6 ty175 C C (Bj hr) om om) (Dr 6 C (Ct (α:=(BitVec 64)) (xs:=rows) (u:=U64 ((e_ rows v))) ty175 C (Bj hr) om om C) (Dr 7 C (E0 (a:=(1#64) <<< (v).toNat) (b:=(e_ rows v)) C C) (Dr 8 C (D8 (a:=F) (b:=((1#64) <<< (v).toNat) ||| (e_ rows v)) C C) (Dr 9 C (Bb C) (Dz (Ak (Ch ((F &&& ~~~(((1#64) <<< (v).toNat) ||| (e_ rows v))),(A1 &&& ~~~((1#64) <<< (v).toNat))) (by dsimp only;exact (hTk.step hS hW hvm)) (hlt:=by (try dsimp only);exact (free_lt hvm)))))))))))))))))))))))))
  ·refine Bp (Ac (Ac (Aw (Ak (Ai (A0 (Gm C (Gr (Rad C C) (Ga C (Bf ?_))))))))))
   have hF0:F=0#64:=Classical.not_not.1 c14
   subst hF0
   obtain ⟨hB1,hBl⟩:=hB.step hTk c9
   exact Ch ((A1),(q+1)) (by dsimp only;exact hB1)
 ·refine Bp (Ac (Ac (Aw (Ai (Aj (Gm C (Ga C (Ah (Az ?_)))))))))
  have hA0:Aq=0#64:=Classical.not_not.1 c9
  subst hA0
  exact Ba C C I Ay ⟨q,rfl,hB.done,by have:=hB.len;omega,rfl⟩
def GrowC(κ:Ctx)(bb ba bs:Nat)(ra:Option Addr)(rc n:Nat)(rows:List (BitVec 64))(N:Nat):Prop:=
 ∀(I:List Item) (Wq:BitVec 64) (size b:Int),Sl κ I (.slice ra rows.length rc) rows->(eo Wq).length<=N->(∀x∈eo Wq,x<n)->(0<=size/\size+(eo Wq).length<=64)->TabRd κ I 0 tzCells->
  eu Tryz.prog κ 286 [U64 Wq,e7 size,.pointer (some ⟨bb,0,none⟩),.pointer (some ⟨ba,0,none⟩),.pointer (some ⟨bs,0,none⟩)] (e8 bb [e7 b] 3::e8 ba [.slice ra rows.length rc] 228::e8 bs [.func (.func 286) #[] #[.pointer (some ⟨bb,0,none⟩),.pointer (some ⟨ba,0,none⟩),.pointer (some ⟨bs,0,none⟩)]] 312::I) (λr J=>∃b':Int,r = .tuple #[]/\GrowR rows Wq size b b'/\(b'<=b\/b'<=64)/\J=e8 bb [e7 (b')] 3::e8 ba [.slice ra rows.length rc] 228::e8 bs [.func (.func 286) #[] #[.pointer (some ⟨bb,0,none⟩),.pointer (some ⟨ba,0,none⟩),.pointer (some ⟨bs,0,none⟩)]] 312::I)
set_option maxHeartbeats 2000000 in
theorem Grow_step{bb ba bs:Nat}{ra:Option Addr}{rc n:Nat}{rows:List (BitVec 64)}(hr:Sl κ I (.slice ra rows.length rc) rows)(hS:SymB n rows){Wq:BitVec 64}{size b:Int}(ih:1<=(eo Wq).length->GrowC κ bb ba bs ra rc n rows ((eo Wq).length - 1))(hW:∀x∈eo Wq,x<n)(hsz:0<=size/\size+(eo Wq).length<=64)(hT:TabRd κ I 0 tzCells):eu Tryz.prog κ 286 [U64 Wq,e7 size,.pointer (some ⟨bb,0,none⟩),.pointer (some ⟨ba,0,none⟩),.pointer (some ⟨bs,0,none⟩)] (e8 bb [e7 b] 3::e8 ba [.slice ra rows.length rc] 228::e8 bs [.func (.func 286) #[] #[.pointer (some ⟨bb,0,none⟩),.pointer (some ⟨ba,0,none⟩),.pointer (some ⟨bs,0,none⟩)]] 312::I) (λr J=>∃b':Int,r = .tuple #[]/\GrowR rows Wq size b b'/\(b'<=b\/b'<=64)/\J=e8 bb [e7 (b')] 3::e8 ba [.slice ra rows.length rc] 228::e8 bs [.func (.func 286) #[] #[.pointer (some ⟨bb,0,none⟩),.pointer (some ⟨ba,0,none⟩),.pointer (some ⟨bs,0,none⟩)]] 312::I):=by
 have hSl:=hS.len
 refine Ce5 Tryz.func286 C C ?_
 refine W.scope0 (l:=0) C ?_
 refine Aj (Gl ef ?_)
 refine Gm C (Gr (D7 C C) ?_)
 have hmx:(if b<size then size else b)=max b size:=by split<;>omega
 rw [hmx]
 refine Ge0 (B4 (cs:=[_]) (vs:=[_]) (cs':=[_]) ef) ?_
 refine Ah (Au (W.label ?_))
 refine Ai (A6 (Ca (σ:=(BitVec 64)×Int) (λs=>([(0,U64 (s.1)),(1,e7 size),(2,.pointer (some ⟨bb,0,none⟩)),(3,.pointer (some ⟨ba,0,none⟩)),(4,.pointer (some ⟨bs,0,none⟩))]:Env)) (λs=>e8 bb [e7 (s.2)] 3::e8 ba [.slice ra rows.length rc] 228::e8 bs [.func (.func 286) #[] #[.pointer (some ⟨bb,0,none⟩),.pointer (some ⟨ba,0,none⟩),.pointer (some ⟨bs,0,none⟩)]] 312::I) (λs=>(SrchI rows Wq s.1 size b s.2)/\(s.2<=b\/s.2<=64)) (λs=>(eo s.1).length) (Wq,max b size) ⟨(SrchI.start rows Wq size b),om⟩ (Aa (Da C (by first|rfl|simp)) (Aa C (Aa C (Aa C (Aa C Bq))))) Bv ?_))
 rintro ⟨Aq,b1⟩ hp
 dsimp only at hp ⊢
 obtain ⟨hSr,hSb⟩:=hp
 have hop:=ones_pop Aq
 have hWA:=List.Nodup.length_le_of_subset (D9 Aq) hSr.sub
 refine Au (Aj (Gm C (Gr (Eh (a:=Aq) (b:=0#64) C C) (Ah (Bd C (λc12=>?_) (λc12=>?_))))))
 ·refine A4 (Ai (A6 (Au (Au (Bt mixed (C7 15 (Dr 0 C (Af C) (Dr 1 C (Af C) (Dr 4 C (As ef) ?_)))))))))
  refine Ds1 2 (Sc0 C (Am call271 C C (OnesCount_ok Aq)) ?_)
  refine Dr 3 C (Rad C C) (Dr 5 C (Ei C C) (Dr 6 C (Af C) (D4 (d:=19) C (λg19=>?_) (λg19=>?_))))
  ·refine Dpo 7 C (Dpo 8 C (Dpo 9 C (Dpo 12 C (Dpo 10 C (Dpo 11 C (Dpo 13 C (Dr 14 C (Ap C C) (Dz (Ai (Av (S6 27 0 1 2 3 4 C C C C C C) (Do C (Bp (Ac (Ao C (Ac (Aw (V.jump_normal ?_)))))))))))))))))
   exact V.end0 C (e8 bb [e7 b1] 3::e8 ba [.slice ra rows.length rc] 228::e8 bs [.func (.func 286) #[] #[.pointer (some ⟨bb,0,none⟩),.pointer (some ⟨ba,0,none⟩),.pointer (some ⟨bs,0,none⟩)]] 312::I) Bv ⟨b1,rfl,(by first|exact hSr.ones (by rw [←ones_pop];exact g19)|exact hSr.stop (λX hX=>by have:=hbqb X hX;omega)|exact hSr.stop (λX hX=>by have hA0:Aq=0#64:=Classical.not_not.1 c12;subst hA0;rw [hX.zero];have:=hSr.le;simp;omega)),hSb,rfl⟩
  ·refine Dro 7 C (Af C) (Dro 8 C (As ty228) ?_)
   refine Dro 9 C (Af C) (Dro 12 C (As ef) ?_)
   refine Ds1 10 (Se C (Am call287 C C (CBound_ok (Bj hr) hS (Wq:=Aq) (λx hx=>hW x (hSr.sub x hx)) (Bw hT Ay))) ?_)
   rintro _ _ ⟨_,_,⟨qb1,rfl,hbqb1,hlqb1,rfl⟩,rfl,rfl⟩
   refine ⟨Ay,?_⟩
   refine Dro 11 C (Rad C C) (Dro 13 C (Ei C C) (Dr 14 C (Al C C) (Dz (Ai (Av (S6 27 0 1 2 3 4 C C C C C C) (Bd C (λc27=>?_) (λc27=>?_)))))))
   ·refine Bp (Ac (Ao C (Ac (Aw (V.jump_normal ?_)))))
    exact V.end0 C (e8 bb [e7 b1] 3::e8 ba [.slice ra rows.length rc] 228::e8 bs [.func (.func 286) #[] #[.pointer (some ⟨bb,0,none⟩),.pointer (some ⟨ba,0,none⟩),.pointer (some ⟨bs,0,none⟩)]] 312::I) Bv ⟨b1,rfl,(by first|exact hSr.ones (by rw [←ones_pop];exact g19)|exact hSr.stop (λX hX=>by have:=hbqb1 X hX;omega)|exact hSr.stop (λX hX=>by have hA0:Aq=0#64:=Classical.not_not.1 c12;subst hA0;rw [hX.zero];have:=hSr.le;simp;omega)),hSb,rfl⟩
   ·refine A4 (Ai (Aj (Gm C (G.e (Am call234 C C (Tz_ok Aq (Bw hT Ay))) ?_))))
    rintro _ _ ⟨_,_,⟨rfl,rfl⟩,rfl,rfl⟩
    refine Ga C ?_
    have hv0:=tzB_le (m:=Aq) c12
    generalize hvE:tzB Aq=v at hv0 ⊢
    obtain ⟨hvm,hvl⟩:=hv0
    have hvr:=Fd hvm
    have hvn:=hW v (hSr.sub v hvm)
    have hmin:=listB_minus hvm
    have hWl:=List.Nodup.length_le_of_subset (D9 Aq) hSr.sub
    have hal:=List.Nodup.length_le_of_subset (D9 ((Aq &&& ~~~(1#64 <<< v.toNat)) &&& e_ rows v)) (l₂:=eo (Aq &&& ~~~(1#64 <<< v.toNat))) (λx hx=>(mem_andB.1 hx).1)
    refine Ah (Aj (Gm C (Gm C (Gr (Eq (a:=1#64) C C om om) (Gr (D8 (a:=Aq) (b:=(1#64) <<< (v).toNat) C C) (Ga C (Ah (Av (S6 0 7 1 2 3 4 C C C C C C) (Bt mixed (C9 (e8 ba [.slice ra rows.length rc] 228::e8 bs [.func (.func 286) #[] #[.pointer (some ⟨bb,0,none⟩),.pointer (some ⟨ba,0,none⟩),.pointer (some ⟨bs,0,none⟩)]] 312::I) 10 (Dr 0 C (As ty312) ?_)))))))))))
    refine Dr 1 C (Af C) (Dr 2 C (As ty228) ?_)
    refine Dr 3 C (Af C) (Dr 4 C (A2 (α:=(BitVec 64)) (xs:=rows) B6 ty175 C C (Bj hr) om om) (Dr 5 C (Ct (α:=(BitVec 64)) (xs:=rows) (u:=U64 ((e_ rows v))) ty175 C (Bj hr) om om C) (Dr 6 C (C3 (a:=Aq &&& ~~~((1#64) <<< (v).toNat)) (b:=(e_ rows v)) C C) (Dr 7 C (Af C) (Dr 8 C (Rad C C) (Ds1 9 (Se C (C0 (first:=[]) (caps:=[.pointer (some ⟨bb,0,none⟩),.pointer (some ⟨ba,0,none⟩),.pointer (some ⟨bs,0,none⟩)]) call286 C C C (C1 (show Fit κ _ (e8 bb [e7 b1] 3::e8 ba [.slice ra rows.length rc] 228::e8 bs [.func (.func 286) #[] #[.pointer (some ⟨bb,0,none⟩),.pointer (some ⟨ba,0,none⟩),.pointer (some ⟨bs,0,none⟩)]] 312::I) from Bv) ((ih om) I ((Aq &&& ~~~((1#64) <<< (v).toNat)) &&& (e_ rows v)) (size+1) b1 (Bj hr) om (λx hx=>hW x (hSr.sub x ((mem_minus hvr.1).1 (mem_andB.1 hx).1).1)) om (Bw hT Ay)))) ?_)))))))
    rintro _ _ ⟨_,_,⟨bg2,rfl,hgbg2,hmbg2,rfl⟩,rfl,rfl⟩
    refine ⟨A5,?_⟩
    exact Dz (Ak (Ch ((Aq &&& ~~~((1#64) <<< (v).toNat)),(bg2)) (by dsimp only;exact ⟨(hSr.step hvm hvl asm),om⟩)))
 ·refine Bp (Ac (Ac (Aw (V.jump_normal ?_))))
  exact V.end0 C (e8 bb [e7 b1] 3::e8 ba [.slice ra rows.length rc] 228::e8 bs [.func (.func 286) #[] #[.pointer (some ⟨bb,0,none⟩),.pointer (some ⟨ba,0,none⟩),.pointer (some ⟨bs,0,none⟩)]] 312::I) Bv ⟨b1,rfl,(by first|exact hSr.ones (by rw [←ones_pop];exact g19)|exact hSr.stop (λX hX=>by have:=hbqb1 X hX;omega)|exact hSr.stop (λX hX=>by have hA0:Aq=0#64:=Classical.not_not.1 c12;subst hA0;rw [hX.zero];have:=hSr.le;simp;omega)),hSb,rfl⟩
theorem grow_all{κ:Ctx}{bb ba bs:Nat}{ra:Option Addr}{rc n:Nat}{rows:List (BitVec 64)}(hS:SymB n rows):∀N,GrowC κ bb ba bs ra rc n rows N:=λN=>by
 induction N with
 |zero=>exact λI Wq size b hr hN hW hs hT=>Grow_step hr hS (λh=>absurd h om) hW hs hT
 |succ N ih=>exact λI Wq size b hr hN hW hs hT=>Grow_step hr hS (λh=>λI' Wq' size' b' hr' hN'=>ih I' Wq' size' b' hr' om) hW hs hT
structure LongR (rows:List (BitVec 64)) (Wq:BitVec 64) (least m:Int):Prop where
 le:least<=m
 all:∀X,ClqIn rows Wq X->(X.length:Int)<=m
 real:m=least\/∃X,ClqIn rows Wq X/\m=X.length
theorem Longest_ok{ra:Option Addr}{rc n:Nat}{rows:List (BitVec 64)}(hr:Sl κ I (.slice ra rows.length rc) rows)(hS:SymB n rows){Wq:BitVec 64}{least:Int}(hW:∀x∈eo Wq,x<n)(hT:TabRd κ I 0 tzCells):eu Tryz.prog κ 243 [.slice ra rows.length rc,U64 Wq,e7 least] I (λr J=>∃m:Int,r=e7 m/\LongR rows Wq least m/\(m<=least\/m<=64)/\I=J):=by
 refine Ce3 Tryz.func243 C C ?_
 refine Aj (Ge1 (Bg (cs:=[_]) C C C) λb1=>Ga C (Ah (Aj (Gm C (Ge1 (A9 ef C) λb2=>Ge0 (B4 (cs:=[_]) (vs:=[_]) (cs':=[_]) ef) ?_)))))
 refine Ah (Aj (Ge1 (A9 ty312 C) λb3=>Ah (Aj (Gr (Er C C) (Ge0 (B4 (cs:=[_]) (vs:=[_]) (cs':=[_]) ty312) ?_)))))
 refine Ah (Aj (Gl ty312 ?_))
 refine Gm C (G.e (C0 (first:=[]) (caps:=[.pointer (some ⟨b2,0,none⟩),.pointer (some ⟨b1,0,none⟩),.pointer (some ⟨b3,0,none⟩)]) call286 C C C (C1 Bv (grow_all hS (eo Wq).length I Wq 0 least (Bj hr) (Nat.le_refl _) hW (by have:=Em Wq;omega) (Bw hT Ay)))) ?_)
 rintro _ _ ⟨_,_,⟨bg4,rfl,hgR,hgm,rfl⟩,rfl,rfl⟩
 refine Ah (Aj (Gl ef ?_))
 exact Ga C (Ah (Av (S1 6 C) (Az (Ba C C I Ay ⟨bg4,rfl,⟨hgR.le,λX hX=>by have:=hgR.all X hX;omega,hgR.real.imp id λ⟨X,h1,h2⟩=>⟨X,h1,by omega⟩⟩,hgm,rfl⟩))))
theorem LongR.pick{rows:List (BitVec 64)}{Wq:BitVec 64}{m:Int}(h:LongR rows Wq 0 m):PickI rows Wq Wq [] m.toNat:=PickI.start (by
  rcases h.real with e|⟨X,hX,e⟩
  ·exact ⟨[],ClqIn.nil _ _,by simp;omega⟩
  ·exact ⟨X,hX,by omega⟩) λY hY=>by have:=h.all Y hY;omega
theorem ScanI.next{rows:List (BitVec 64)}{Aq M:BitVec 64}{left:Nat}{v:Int}(h:ScanI rows Aq (M &&& ~~~(1#64 <<< v.toNat)) left)(hv:0<=v)(hst:eo M=v::eo (M &&& (M - 1#64))):ScanI rows Aq (M &&& (M - 1#64)) left:=by
 have hm:∀x,x∈eo (M &&& (M - 1#64))↔x∈eo (M &&& ~~~(1#64 <<< v.toNat)):=λx=>by
  rw [mem_minus hv,hst,List.mem_cons]
  have hn:=D9 M
  rw [hst] at hn
  have h1:=(List.nodup_cons.1 hn).1
  constructor
  ·exact λhx=>⟨.inr hx,λe=>h1 (e▸hx)⟩
  ·rintro ⟨rfl|hx,h2⟩
   ·exact absurd rfl h2
   ·exact hx
 exact ⟨λx hx=>h.sub x ((hm x).1 hx),λY hY hl=>⟨hY.clq,λx hx=>(hm x).2 ((h.all Y hY hl).sub x hx)⟩⟩
theorem scan_lt{M:BitVec 64}{v:Int}(hst:eo M=v::eo (M &&& (M - 1#64))):(eo (M &&& (M - 1#64))).length<(eo M).length:=by rw [hst,List.length_cons];omega
def bestCl(nd:Int)(es:List Pt)(X:List Int):Prop:=MaxClR (ek nd es) (allB nd) X
set_option maxHeartbeats 2000000 in
theorem CBest_ok{κ:Ctx}{I:List Item}{nd:Int}{va:Value}{es:List Pt}(hl:Sl κ I va es)(hG:GrOk nd es)(h63:nd<=63)(hT:TabRd κ I 0 tzCells):eu Tryz.prog κ 188 [.agg #[e7 nd,va]] I (λr J=>∃a c X,r = .tuple #[.slice a (X:List Int).length c,e7 0]/\bestCl nd es X/\J=vc 3 (.slice a X.length c) X::I):=by
 have hrng:=hG.rng
 have hSS:=rows_sym hG
 have hrl:=hG.rows.len
 have hWn:∀x∈eo (allB nd),x<((ek nd es).length:Nat):=λx hx=>by have h1:=Fd hx;have h2:=all_sub hrng.1 hrng.2 x hx;omega
 refine Ce1 Tryz.func188 C C ?_
 refine Aj (Ge1 (Bg (cs:=[_,_]) C C C) λb1=>Ga C (Ga C (Ah (Au (Aj (Gl2 ty48 ?_))))))
 refine Gc0 (Am call83 C C (CheckGen_ok (Bj hl))) ?_
 refine Ga C (Ah (Aj (Gm C (Gr (Bx C C) (Ah (Bd C (λc15=>?_) (λc15=>?_)))))))
 ·exact absurd (checkG_ok.2 hG) c15
 ·refine A4 (Ai (Aj (Gl2 ty48 ?_)))
  refine Gc2 (Am call242 C C (CMasks_ok (nd:=nd) (Bj hl) hG)) λad2 cp3=>?_
  refine Ga C (Ah (Aj (Gf fld48_0 C (Gl ef ?_))))
  refine Gr (Eq (a:=1#64) C C om om) (Gr (Runs.subB (a:=(1#64) <<< (nd).toNat) (b:=1#64) C C) (Ga C ?_))
  have hall:((1#64) <<< (nd).toNat) - (1#64)=allB nd:=by by_cases h0:nd=0;(· subst h0;decide+kernel);(· unfold allB;rw [if_neg om,if_neg om])
  rw [hall]
  refine Ah (Av (S2 6 5 C C) (Aj (Ga C (Ah (Au (Aj (Gm C (Gm C (G.e (Am call243 C C (Longest_ok Bk hSS (Wq:=(allB nd)) (least:=0) (by first|exact hWn|exact hRn) (Bw hT Ay))) ?_)))))))))
  rintro _ _ ⟨_,_,⟨mL4,rfl,hLmL4,hmmL4,rfl⟩,rfl,rfl⟩
  refine Ga C (Ah (A6 (Ca (σ:=(BitVec 64)×(Option Addr)×Nat×(List Int)×Int) (λs=>([(5,.slice ad2 (ek nd es).length cp3),(6,U64 (s.1)),(7,.slice s.2.1 s.2.2.2.1.length s.2.2.1),(8,e7 (s.2.2.2.2))]:Env)) (λs=>vc 3 (.slice s.2.1 s.2.2.2.1.length s.2.2.1) (s.2.2.2.1)::vc 175 (.slice ad2 (ek nd es).length cp3) (ek nd es)::e8 b1 [e7 nd,va] 48::I) (λs=>(0<=s.2.2.2.2/\s.2.2.2.2<=64)/\(PickI (ek nd es) (allB nd) s.1 s.2.2.2.1 s.2.2.2.2.toNat)/\(∀x∈eo s.1,x<((ek nd es).length:Nat))/\(s.2.2.2.1.length<=64)) (λs=>s.2.2.2.2.toNat) (allB nd,none,0,[],mL4) (show (0<=(mL4:Int)/\(mL4:Int)<=64)/\(PickI (ek nd es) (allB nd) (allB nd:BitVec 64) ([]:List Int) (mL4:Int).toNat)/\(∀x∈eo (allB nd:BitVec 64),x<((ek nd es).length:Nat))/\(([]:List Int).length<=64) from ⟨⟨hLmL4.le,by omega⟩,hLmL4.pick,hWn,(by simp)⟩) (Aa C (Aa (Da C (by first|rfl|simp)) (Aa (Da C (by first|rfl|simp)) (Aa Cr Bq)))) (A8 (B9 (α:=Int) _ _) Bv) ?_)))
  rintro ⟨Aq,a,c,out,q⟩ hp
  dsimp only at hp ⊢
  obtain ⟨hq,hP,hAn,hol⟩:=hp
  refine Au (Aj (Gm C (Gr (Ci C C) (Ah (Bd C (λc27=>?_) (λc27=>?_))))))
  ·refine A4 (Ai (Au (A6 (Aj (Gm C (Ga C (Ah (A6 (Ca (σ:=(BitVec 64)) (λs=>([(5,.slice ad2 (ek nd es).length cp3),(6,U64 Aq),(7,.slice a out.length c),(8,e7 q),(9,U64 s)]:Env)) (λs=>vc 3 (.slice a out.length c) (out)::vc 175 (.slice ad2 (ek nd es).length cp3) (ek nd es)::e8 b1 [e7 nd,va] 48::I) (λs=>(ScanI (ek nd es) Aq s q.toNat)) (λs=>(eo s).length) Aq (ScanI.start _ _ _) (Aa C (Aa C (Aa C (Aa C (Aa (Da C (by first|rfl|simp)) Bq))))) A5 ?_)))))))))
   rintro M hp
   have hSc:=hp
   refine Au (Aj (Gm C (Gr (Eh (a:=M) (b:=0#64) C C) (Ah (Bd C (λc32=>?_) (λc32=>?_))))))
   ·refine A4 (Ai (Au (A6 (Aj (Gm C (G.e (Am call234 C C (Tz_ok M (Bw hT Ay))) ?_))))))
    rintro _ _ ⟨_,_,⟨rfl,rfl⟩,rfl,rfl⟩
    refine Ga C ?_
    have hv0:=tzB_le (m:=M) c32
    have hst:=listB_step c32
    generalize hvE:tzB M=v at hv0 hst ⊢
    obtain ⟨hvm,hvl⟩:=hv0
    have hvr:=Fd hvm
    have hvA:=hSc.sub v hvm
    have hvn:=hAn v hvA
    have hRn:∀x∈eo ((M &&& ~~~(1#64 <<< (v).toNat)) &&& e_ (ek nd es) v),x<((ek nd es).length:Nat):=λx hx=>by have h1:=hAn x (hSc.sub x ((mem_minus hvr.1).1 (mem_andB.1 hx).1).1);exact h1
    refine Ah (Au (Bt mixed (C7 10 (Dr 0 C (Af C) (Dr 1 C (Af C) (Dr 2 C (Eq (a:=1#64) C C om om) (Dr 3 C (D8 (a:=M) (b:=(1#64) <<< (v).toNat) C C) (Dr 4 C (Af C) (Dr 5 C (Af C) (Dr 6 C (A2 (α:=(BitVec 64)) (xs:=ek nd es) B6 ty175 C C Bk om om) (Dr 7 C (Ct (α:=(BitVec 64)) (xs:=ek nd es) (u:=U64 ((e_ (ek nd es) v))) ty175 C Bk om om C) (Dr 8 C (C3 (a:=M &&& ~~~((1#64) <<< (v).toNat)) (b:=(e_ (ek nd es) v)) C C) (Dr 9 C (Bb C) (Dz (Ai (Av (S7 11 10 5 6 7 8 9 C C C C C C C) (Aj (Gm C (Gm C (Gm C (Gr (Rsu C C) (G.e (Am call243 C C (Longest_ok Bk hSS (Wq:=((M &&& ~~~((1#64) <<< (v).toNat)) &&& (e_ (ek nd es) v))) (least:=q - 2) (by first|exact hWn|exact hRn) (Bw hT Ay))) ?_))))))))))))))))))))))
    rintro _ _ ⟨_,_,⟨mL5,rfl,hLmL5,hmmL5,rfl⟩,rfl,rfl⟩
    refine Gm C (Gr (Rsu C C) (Gr (Cu C C) (Ah (Av (S8 55 11 10 5 6 7 8 9 C C C C C C C C) (Bd C (λc55=>?_) (λc55=>?_))))))
    ·refine Aj (Gm C ?_)
     have hP2:=hSc.take hP om hvm hvl (by rcases hLmL5.real with e|⟨Y,hY,e⟩;(· omega);(· exact ⟨Y,hY,by omega⟩))
     refine Gm C (Ge1 (Cj (α:=Int) (cs:=[_]) (xs:=[v]) Ad ef C C dc dc C C C C) λad6=>?_)
     refine Ge2 (Cn (α:=Int) (e:=3) (xs:=out) (ys:=([v]:List Int)) Ad ef C C C mm Bk lcn dc C (λ_ _=>am)) λad7 cp8=>?_
     exact Gm C (Ga C (Ga C (Ah (Av (S4 6 7 5 8 C C C C) (Bp (Ao C (Ac (Ac (Aw (Ak (Ai (A0 (Gm C (Gr (Rsu C C) (Ga C (Bf (Ch (((M &&& ~~~((1#64) <<< (v).toNat)) &&& (e_ (ek nd es) v)),(ad7),(cp8),(out++([v]:List Int)),(q - 1)) (by dsimp only;exact ⟨om,(by rw [show (q - 1).toNat=q.toNat - 1 by omega];exact hP2),hRn,(by have:=(hP2.join [] (ClqIn.nil _ _)).len;have h64:=Em (allB nd);rw [List.append_nil] at this;omega)⟩))))))))))))))))))
    ·refine A4 (Ak (Ai (A0 (Gm C (Gm C (Gr (Runs.subB (a:=M) (b:=1#64) C C) (Gr (C3 (a:=M) (b:=M - (1#64)) C C) (Ga C (Bf ?_)))))))))
     have hSno:=hSc.skip hvm hvl (λY hY=>by have:=hLmL5.all Y hY;omega)
     exact Ch ((M &&& (M - (1#64)))) (hSno.next hvr.1 hst) (hlt:=by (try dsimp only);exact (scan_lt hst))
   ·exact absurd (Classical.not_not.1 c32) (hSc.ne hP om)
  ·refine Bp (Ac (Ac (Aw (Ai (Aj (Gm C (Ga C (Ga C (Ah (Az ?_))))))))))
   have hPd:PickI (ek nd es) (allB nd) Aq out 0:=by rw [show (0:Nat)=q.toNat by omega];exact hP
   exact C4 C C C (vc 3 (.slice a out.length c) out::I) Bv ⟨a,c,out,rfl,hPd.done,rfl⟩
theorem sumL_set{l:List Int}{i v:Int}(h0:0<=i)(h:i<l.length):(l.set i.toNat v).sum=l.sum - e_ l i+v:=by
 obtain ⟨k,rfl⟩:=Int.eq_ofNat_of_zero_le h0
 rw [Int.toNat_natCast]
 clear h0
 induction l generalizing k with
 |nil=>simp at h;omega
 |cons x xs ih=>
  cases k with
  |zero=>simp [e_];omega
  |succ k=>
   have:=ih k (by simp at h;omega)
   have e:e_ (x::xs) ((k+1:Nat):Int)=e_ xs k:=by unfold e_;simp
   rw [e,List.set_cons_succ,List.sum_cons,List.sum_cons,this];omega
theorem sumL_rep(n:Nat):(List.replicate n (default:Int)).sum=0:=by
 induction n with
 |zero=>rfl
 |succ n ih=>rw [List.replicate_succ,List.sum_cons,ih];rfl
def triS(nd:Int)(es:List Pt):Int:=(es.map λe=>((commonG nd es e.u e.v).length:Int)).sum
def triK(nd:Int)(es:List Pt)(k:Nat):Int:=((es.take k).map λe=>((commonG nd es e.u e.v).length:Int)).sum
theorem triK_succ{nd:Int}{es:List Pt}{k:Nat}(h:k<es.length):triK nd es (k+1)=triK nd es k+((commonG nd es (e_ es k).u (e_ es k).v).length:Int):=by
 unfold triK
 rw [Di es k h,List.map_append,List.sum_append];simp
theorem triK_all(nd:Int)(es:List Pt):triK nd es es.length=triS nd es:=by unfold triK triS;rw [List.take_length]
theorem commonG_len(nd:Int)(es:List Pt)(u v:Int):(commonG nd es u v).length<=64:=by
 by_cases h:u=v
 ·unfold commonG;rw [if_pos h];simp
 ·rw [←common_eq h];exact Em _
theorem triK_bd(nd:Int)(es:List Pt):∀k,k<=es.length->0<=triK nd es k/\triK nd es k<=64*(k:Int)
 |0,_=>by unfold triK;simp
 |k+1,h=>by
  have ih:=triK_bd nd es k om
  have:=commonG_len nd es (e_ es k).u (e_ es k).v
  rw [triK_succ om];omega
theorem sum_le_all{l:List Int}(h:∀x∈l,0<=x):∀k,k<=l.length->0<=(l.take k).sum/\(l.take k).sum<=l.sum:=by
 have key:∀l:List Int,(∀x∈l,0<=x)->∀k,0<=(l.take k).sum/\(l.take k).sum<=l.sum:=λl=>by
  induction l with
  |nil=>intro _ k;simp
  |cons x xs ih=>
   intro h k
   have h0:=h x List.mem_cons_self
   have ih':=ih λy hy=>h y (List.mem_cons_of_mem _ hy)
   cases k with
   |zero=>have:=ih' xs.length;rw [List.take_length] at this;simp;omega
   |succ k=>have:=ih' k;simp;omega
 exact λk _=>key l h k
theorem common_rng{nd:Int}{es:List Pt}(hG:GrOk nd es){u v x:Int}(hx:x∈commonG nd es u v):0<=x/\x<nd:=by
 unfold commonG at hx
 split at hx
 ·cases hx
 ·have h1:=(mem_meetL.1 hx).1
  unfold nbG at h1
  rw [if_neg (by rw [checkG_ok.2 hG];decide),mem_ofL,mem_nbL] at h1
  rcases h1 with h|h
  ·have:=hG.edge _ h;simp only at this;omega
  ·have:=hG.edge _ h;simp only at this;omega
theorem mem_le_sum:∀{l:List Int},(∀x∈l,0<=x)->∀{x:Int},x∈l->x<=l.sum
 |[],_,x,hx=>by cases hx
 |y::ys,h,x,hx=>by
  have h0:=h y List.mem_cons_self
  have h1:∀z∈ys,0<=z:=λz hz=>h z (List.mem_cons_of_mem _ hz)
  have h2:=(sum_le_all h1 ys.length (Nat.le_refl _))
  rw [List.take_length] at h2
  rw [List.sum_cons]
  rcases List.mem_cons.1 hx with rfl|hx
  ·omega
  ·have:=mem_le_sum h1 hx;omega
theorem triS_bd{nd:Int}{es:List Pt}(hG:GrOk nd es):0<=triS nd es/\triS nd es<=129024:=by
 have:=triK_bd nd es es.length (Nat.le_refl _)
 rw [triK_all] at this
 have:=edges_le hG
 omega
def interF(xs ys:List Int):List Int:=xs.filter λx=>decide (x∈ys)
theorem head_drop{xs:List Int}(h:0<xs.length):xs=e_ xs 0::List.drop 1 xs:=by
 cases xs with
 |nil=>cases h
 |cons x xs=>rfl
theorem asc_drop{xs:List Int}(h:xs.Pairwise (λx0 x1:Int=>x0<x1)):(List.drop 1 xs).Pairwise (λx0 x1:Int=>x0<x1):=h.sublist (List.drop_sublist _ _)
theorem head_lt{xs:List Int}(h:xs.Pairwise (λx0 x1:Int=>x0<x1))(h0:0<xs.length){y:Int}(hy:y∈List.drop 1 xs):e_ xs 0<y:=by
 rw [head_drop h0] at h
 exact (List.pairwise_cons.1 h).1 y hy
theorem inter_lt{xs ys:List Int}(hy:ys.Pairwise (λx0 x1:Int=>x0<x1))(h0:0<xs.length)(h1:0<ys.length)(h:e_ xs 0<e_ ys 0):interF xs ys=interF (List.drop 1 xs) ys:=by
 have hn:e_ xs 0∉ys:=λhm=>by
  rw [head_drop h1] at hm
  rcases List.mem_cons.1 hm with e|e
  ·omega
  ·have:=head_lt hy h1 e;omega
 conv=>lhs;rw [head_drop h0]
 unfold interF
 rw [List.filter_cons_of_neg (by simpa using hn)]
theorem inter_gt{xs ys:List Int}(hx:xs.Pairwise (λx0 x1:Int=>x0<x1))(h0:0<xs.length)(h1:0<ys.length)(h:e_ ys 0<e_ xs 0):interF xs ys=interF xs (List.drop 1 ys):=by
 unfold interF
 refine List.filter_congr λx hxm=>?_
 rw [decide_eq_decide]
 have hge:e_ ys 0<x:=by
  rw [head_drop h0] at hxm
  rcases List.mem_cons.1 hxm with rfl|e
  ·exact h
  ·have:=head_lt hx h0 e;omega
 constructor
 ·intro hm
  rw [head_drop h1] at hm
  rcases List.mem_cons.1 hm with e|e
  ·omega
  ·exact e
 ·exact λhm=>List.mem_of_mem_drop hm
theorem inter_eq{xs ys:List Int}(hx:xs.Pairwise (λx0 x1:Int=>x0<x1))(h0:0<xs.length)(h1:0<ys.length)(h:e_ xs 0=e_ ys 0):interF xs ys=e_ xs 0::interF (List.drop 1 xs) (List.drop 1 ys):=by
 have hm:e_ xs 0∈ys:=by rw [h];exact Cq om om
 conv=>lhs;rw [head_drop h0]
 unfold interF
 rw [List.filter_cons_of_pos (p:=λx=>decide (x∈ys)) (decide_eq_true hm)]
 congr 1
 refine List.filter_congr λx hxm=>?_
 rw [decide_eq_decide]
 have hge:=head_lt hx h0 hxm
 constructor
 ·intro hm
  rw [head_drop h1] at hm
  rcases List.mem_cons.1 hm with e|e
  ·omega
  ·exact e
 ·exact λhm=>List.mem_of_mem_drop hm
theorem inter_nil{xs ys:List Int}(h:xs.length=0\/ys.length=0):interF xs ys=[]:=by
 unfold interF
 rcases h with h|h
 ·rw [List.length_eq_zero_iff.1 h];rfl
 ·rw [List.length_eq_zero_iff.1 h];simp
theorem Shared_ok{κ:Ctx}{I:List Item}{a0 b0:Option Addr}{c0 d0:Nat}{xs ys:List Int}(hl:Sl κ I (.slice a0 xs.length c0) xs)(hm:Sl κ I (.slice b0 ys.length d0) ys)(hx:xs.Pairwise (λx0 x1:Int=>x0<x1))(hy:ys.Pairwise (λx0 x1:Int=>x0<x1))(hb:xs.length<=100000):eu Tryz.prog κ 289 [.slice a0 xs.length c0,.slice b0 ys.length d0] I (λr J=>∃a c,r = .slice a (interF xs ys).length c/\J=vc 3 (.slice a (interF xs ys).length c) (interF xs ys)::I):=by
 refine Ce2 Tryz.func289 C C ?_
 refine Aj (Ga C (Ah (Aj (Ga C (Ah (Au (A6 (Ca (σ:=(Option Addr)×Nat×(List Int)×(Option Addr)×Nat×(List Int)×(Option Addr)×Nat×(List Int)) (λs=>([(0,.slice s.1 s.2.2.1.length s.2.1),(1,.slice s.2.2.2.1 s.2.2.2.2.2.1.length s.2.2.2.2.1),(5,.slice s.2.2.2.2.2.2.1 s.2.2.2.2.2.2.2.2.length s.2.2.2.2.2.2.2.1)]:Env)) (λs=>vc 3 (.slice s.2.2.2.2.2.2.1 s.2.2.2.2.2.2.2.2.length s.2.2.2.2.2.2.2.1) (s.2.2.2.2.2.2.2.2)::I) (λs=>(Sl κ I (.slice s.1 s.2.2.1.length s.2.1) s.2.2.1)/\(Sl κ I (.slice s.2.2.2.1 s.2.2.2.2.2.1.length s.2.2.2.2.1) s.2.2.2.2.2.1)/\(s.2.2.1.Pairwise (λx0 x1:Int=>x0<x1))/\(s.2.2.2.2.2.1.Pairwise (λx0 x1:Int=>x0<x1))/\(interF xs ys=s.2.2.2.2.2.2.2.2++interF s.2.2.1 s.2.2.2.2.2.1)/\(s.2.2.2.2.2.2.2.2.length+s.2.2.1.length<=xs.length)) (λs=>(s.2.2.1.length+s.2.2.2.2.2.1.length)) (a0,c0,xs,b0,d0,ys,none,0,[]) ⟨hl,hm,hx,hy,rfl,(by simp)⟩ (Aa (Da C (by first|rfl|simp)) (Aa (Da C (by first|rfl|simp)) (Aa (Da C (by first|rfl|simp)) Bq))) (B9 _ _) ?_))))))))
 rintro ⟨pa,pc,as1,qa,qc,bs1,oa,oc,out⟩ hp
 dsimp only at hp ⊢
 obtain ⟨hA,hB,hxa,hyb,hin,hob⟩:=hp
 refine Au (Aj (Gm C (Gr (Bz Ad C) (Gr (Ci C C) (Gm C (Bs (d:=9) C (λg9=>?_) (λg9=>?_)))))))
 ·refine e9 (Af C) (e9 (Bz Ad C) (e9 (Ci C C) (Gr (Ap C C) (Ah (Bd C (λc13=>?_) (λc13=>?_))))))
  ·refine A4 (Ai (A6 (Au (Bt mixed (C7 7 (Dr 0 C (Af C) (Dr 1 C (A2 (α:=Int) (xs:=as1) Ad ef C C (Bj hA) om om) (Dr 2 C (B3 (xs:=as1) ef C (Bj hA) om om) (Dr 3 C (Af C) (Dr 4 C (A2 (α:=Int) (xs:=bs1) Ad ef C C (Bj hB) om om) (Dr 5 C (B3 (xs:=bs1) ef C (Bj hB) om om) (Ds1 6 (Sc0 C (Am call225 C C (Compare_ok (e_ as1 0) (e_ bs1 0))) ?_)))))))))))))
   have hcI:(e_ as1 0<e_ bs1 0/\cmpI (e_ as1 0) (e_ bs1 0) = -1)\/(e_ bs1 0<e_ as1 0/\cmpI (e_ as1 0) (e_ bs1 0)=1)\/(e_ as1 0=e_ bs1 0/\cmpI (e_ as1 0) (e_ bs1 0)=0):=by unfold cmpI;repeat (first|omega|split)
   refine Dz (Ai (Av (S4 20 0 1 5 C C C C) (A6 (Aj (Gr (Bl C C) (Ga C (Ah (Bd C (λc31=>?_) (λc31=>?_)))))))))
   ·exact A0 (Gm C (Gr (Ew (α:=Int) (xs:=as1) (l:=1) Ad ef C C om (Bj hA) om) (Ga C (Bf (Ak (Ak (Ch (((adrop pa pc 1 (Enc.sz Int))),((pc - 1)),(List.drop 1 as1),(qa),(qc),(bs1),(oa),(oc),(out)) (by dsimp only;exact ⟨(Dw hA om),hB,(asc_drop hxa),hyb,(by rw [hin,inter_lt hyb om om om]),(by first|omega|(simp only [List.length_append,List.length_drop,List.length_cons,List.length_nil];omega))⟩) (hlt:=by (try dsimp only);exact (by simp only [List.length_drop];omega)))))))))
   ·refine Aj (Gr (Bl C C) (Ga C (Ah (Bd C (λc35=>?_) (λc35=>?_)))))
    ·exact A0 (Gm C (Gr (Ew (α:=Int) (xs:=bs1) (l:=1) Ad ef C C om (Bj hB) om) (Ga C (Bf (Ak (Ak (Ch ((pa),(pc),(as1),((adrop qa qc 1 (Enc.sz Int))),((qc - 1)),(List.drop 1 bs1),(oa),(oc),(out)) (by dsimp only;exact ⟨hA,(Dw hB om),hxa,(asc_drop hyb),(by rw [hin,inter_gt hxa om om om]),(by first|omega|(simp only [List.length_append,List.length_drop,List.length_cons,List.length_nil];omega))⟩) (hlt:=by (try dsimp only);exact (by simp only [List.length_drop];omega)))))))))
    ·refine Aj (Gm C (Gm C (Gr (A2 (α:=Int) (xs:=as1) Ad ef C C (Bj hA) om om) (Gr (B3 (xs:=as1) ef C (Bj hA) om om) (Ge1 (Cj (α:=Int) (cs:=[_]) (xs:=[e_ as1 0]) Ad ef C C dc dc C C C C) λad1=>?_)))))
     refine Ge2 (Cn (α:=Int) (e:=3) (xs:=out) (ys:=([e_ as1 0]:List Int)) Ad ef C C C mm Bk lcn dc C (λ_ _=>am)) λad2 cp3=>?_
     exact Ga C (Ah (Av (S3 5 0 1 C C C) (Bt mixed (C7 6 (Dr 0 C (Af C) (Dr 1 C (Ew (α:=Int) (xs:=as1) (l:=1) Ad ef C C om (Bj hA) om) (Dr 2 C (Af C) (Dr 3 C (Ew (α:=Int) (xs:=bs1) (l:=1) Ad ef C C om (Bj hB) om) (Dr 4 C (Bb C) (Dr 5 C (Bb C) (Dz (Ak (Ak (Ch (((adrop pa pc 1 (Enc.sz Int))),((pc - 1)),(List.drop 1 as1),((adrop qa qc 1 (Enc.sz Int))),((qc - 1)),(List.drop 1 bs1),(ad2),(cp3),(out++([e_ as1 0]:List Int))) (by dsimp only;exact ⟨(Dw hA om),(Dw hB om),(asc_drop hxa),(asc_drop hyb),(by rw [hin,inter_eq hxa om om om,List.append_assoc];rfl),(by first|omega|(simp only [List.length_append,List.length_drop,List.length_cons,List.length_nil];omega))⟩) (hlt:=by (try dsimp only);exact (by simp only [List.length_drop];omega))))))))))))))))
  ·refine Bp (Ac (Ac (Aw (Ai (Aj (Gm C (Ga C (Ah (Av (S1 4 C) (Az ?_))))))))))
   have hE:interF xs ys=out:=by rw [hin,inter_nil om,List.append_nil]
   exact Ba C C (vc 3 (.slice oa (interF xs ys).length oc) (interF xs ys)::I) (by rw [hE];exact A5) ⟨oa,oc,by rw [hE],rfl⟩
 ·refine eb (eb (eb (Gr (Al C C) (Ah (Eo C (Bp (Ac (Ac (Aw (Ai (Aj (Gm C (Ga C (Ah (Av (S1 4 C) (Az ?_))))))))))))))))
  have hE:interF xs ys=out:=by rw [hin,inter_nil om,List.append_nil]
  exact Ba C C (vc 3 (.slice oa (interF xs ys).length oc) (interF xs ys)::I) (by rw [hE];exact A5) ⟨oa,oc,by rw [hE],rfl⟩
end Go.Sl
