/- A part of the proofs of statements of this seat: contracts of functions, and the plain laws that they lean on. No conditions. -/
import Derived.Test.YtnbkccjkdpolmaaGreatDoorA3
import Derived.MapKept
import Derived.Shelf.SortM.Plain
import Derived.Shelf.SortM.SortNone
import Derived.RangeFuncRecord
import Derived.RangeFuncCalls
import Derived.TacticsIn
set_option linter.unusedVariables false
set_option linter.unusedSimpArgs false
set_option linter.unusedSectionVars false
namespace Go.Sl
open Go.RowKit (Below)
variable{T cl et kt r:Nat}{x y:Operand}{es:List MapEntry}{k v:Value}
def mp(r:Nat)(es:List MapEntry)(cl:Nat):Item where
 fp k:=k=r
 ok w:=w.heap[r]? = some (.map es.toArray cl)
 loc w w' h hw:=(h r rfl).trans hw
section
variable {P:Program}{κ:Ctx}{N:Frm}{Q:Exit->Act->World->Prop}{L:Env}{I J:List Item}{ops:Array Oper}{rest:List Oper}
variable {d:Option Tmp}{ty:TypeId}{ps:String}{af:Array Edge}{gd:Option (Nat×Bool)}
theorem Eff.makeMap{dd:Nat}(hN:Nat.blt dd N.n=true) :
  Eff P κ N Q ⟨some dd,.makeMap T none,ty,ps,af,gd⟩ L I λL' I'=>∃r,L'=(dd,.map<|some r)::L/\I'=mp r [] 0::I:=
 Eff.of_value rfl hN λa w ha hs=>
  ⟨_,_,_,by simp [execOp,Instr.makeMap,Result.andThen],⟨_,rfl,rfl⟩,hs.new (hs.alloc<|.map #[] 0) (heap_alloc_new w _) λk M=>by obtain rfl:k=_:=M;exact ⟨Nat.le_refl _,by simp⟩⟩
theorem Eff.insertK{z:Operand}{kd:IntKind}{I':List Item}(ht:P.underlying T=some (.map kt et))(aa:P.underlying kt=some (.int kd))(hx:er L x=some (.map (some r)))
  (hy:er L y=some k) (hz:er L z=some v) (hk:MapKept.IsKey (.int kd) k) (hf:Instr.findNow (.int kd) k es 0=some none) (M:At I (mp r es cl) (mp r (es++[{key:=k,val:=v,born:=cl}])<|cl+1) I') :
  Eff P κ N Q ⟨none,.insert T x y z,ty,ps,af,gd⟩ L I λL' I''=>L'=L/\I''=I':=
 Eff.of_skip rfl λa w ha hs=>by
  have hb:=(hs.ok _ M.mem).1
  refine ⟨{w with heap:=w.heap.setIfInBounds r (.map (es++[({key:=k,val:=v,born:=cl}:MapEntry)]).toArray (cl+1))},I',?_,⟨rfl,rfl⟩,?_⟩
  ·simp [execOp,ha.eval hx,ha.eval hy,ha.eval hz,Instr.mapUpdate,run_underlying ht,MapKept.run_getObj_map hb,MapKept.run_checkKey aa hk,MapKept.run_findKey aa hf,MapKept.run_setObj_map _ hb,Result.andThen]
  exact hs.upd M rfl ⟨rfl,Nat.le_refl _⟩ rfl (by simp) (λk _ ab=>(MapKept.heap_set hb).2 k λe=>ab e) (MapKept.heap_set hb).1 λk hk=> .inl hk
theorem Runs.lookupK{i:Nat}{kd:IntKind}(ht:P.underlying T=some (.map kt et))(M:P.underlying kt=some (.int kd))(hx:er L x=some (.map (some r)))
  (hy:er L y=some k) (hk:MapKept.IsKey (.int kd) k) (hm:mp r es cl∈J) (hf:Instr.findNow (.int kd) k es 0=some (some (i,v))):Runs P κ N ⟨d,.lookup T x y false,ty,ps,af,gd⟩ L J v:=
 λa w ha hs=>by
  have hb:=(hs.ok _ hm).1
  simp [execOp,ha.eval hx,ha.eval hy,Instr.lookup,run_underlying ht,MapKept.run_getObj_map hb,MapKept.run_checkKey M hk,MapKept.run_findKey M hf,Result.andThen]
end
end Go.Sl
namespace Go.Sl
open Go.Proofs Go.Shelf Go.RowKit Go.Lib Go.Sort
variable{xs:List Int}{P:Program}{κ:Ctx}{I:List Item}{e:TypeId}{ad:Option Addr}{c:Nat}
def sortZ(xs:List Int):List Int:=xs.mergeSort λx y=>decide (x<=y)
theorem sortZ_perm(xs:List Int):(sortZ xs).Perm xs:=List.mergeSort_perm _ _
theorem sortZ_len(xs:List Int):(sortZ xs).length=xs.length:=(sortZ_perm xs).length_eq
theorem mem_sortZ{x:Int}:x∈sortZ xs↔x∈xs:=(sortZ_perm xs).mem_iff
theorem sortZ_asc(xs:List Int):(sortZ xs).Pairwise (· <= ·):=by
 have h:=List.pairwise_mergeSort (le:=λx y:Int=>decide<|x<=y) (λa b c h1 M=>by simp at *; omega) (λa b=>by simp;omega) xs
 exact h.imp λh=>by simpa using h
theorem sortI_base{ρ:Ren}(L:SlLaysM.n5 P ρ)(hc:0<c)(au:xs.length<4611686018427387904):eu P κ (ρ.f 5) [.slice ad xs.length c] (vc e (.slice ad xs.length c) xs::I) λr J=>r = .tuple #[]/\J=vc e (.slice ad (sortZ xs).length c) (sortZ xs)::I:=by
 intro w hs
 obtain ⟨aw,_⟩:=hs.ok _ List.mem_cons_self
 obtain ⟨a',ax,hv,hl,an,av,aj⟩:=aw
 cases hv
 obtain ⟨b,off,cur,rfl,hb,aa,ai⟩:=aj hc
 have ak:b<w.heap.size:=(Array.getElem?_eq_some_iff.1 hb).1
 have hlen:=sortZ_len xs
 have ab:∀ys:List Int,cells ys=ys.map λx=>e7 x:=λys=>by
  induction ys with
  |nil=>rfl
  |cons y ys ih=>show e7 y::cells ys=_;rw [ih];rfl
 have ae:∀ys:List Int,(cells ys).length=ys.length:=λys=>by rw [ab,List.length_map]
 have hH:Holds (Value.int .i64) w b off xs.toArray:=λj hj=>by
  have M:j<xs.length:=by simpa using hj
  have h1:=ai j (e7 xs[j]) (by rw [ab,List.getElem?_map,List.getElem?_eq_getElem M];rfl)
  refine ⟨?_,by simp [World.frozen?,hb]⟩
  rw [cell_of_row w b (off+j) cur e (0,0) hb,h1]
  simp [getElem!_pos,M]
 have h:=AnyM.slices_Sort_int L b off c xs w hH ak au
 refine Calls.mono h ?_
 rintro e' w' ⟨rfl,n,os,rfl⟩
 refine ⟨_,_,rfl,⟨rfl,rfl⟩,?_⟩
 have hz:(xs.mergeSort λx y=>decide<|x<=y)=sortZ xs:=rfl
 rw [hz]
 refine hs.upd (At.head _ _ _) rfl ⟨rfl,by simp [putRow,mapBlock,Sort.grow,Sort.ahead]⟩ rfl (by simp [putRow,mapBlock,Sort.grow,Sort.ahead]) (λk hk ao=>?_) ?_ λk hk=> .inl ?_
 ·have ar:k≠b:=λaq=>ao (by subst aq;exact ⟨off,xs.length,c,rfl,hc⟩)
  simp only [Sort.grow,putRow,mapBlock,Sort.ahead]
  rw [Array.getElem?_append_left (by simpa using hk),Array.getElem?_modify,if_neg<|λe=>ar e.symm]
 ·refine ⟨_,c,rfl,(ae _).trans (Nat.mul_one _).symm,by rw [hlen];exact an,av,λ_=>⟨b,off,putCells (Value.int .i64) off (sortZ xs).toArray cur,rfl,?_,?_,λj u hj=>?_⟩⟩
  ·simp only [Sort.grow,putRow,mapBlock,Sort.ahead]
   rw [Array.getElem?_append_left (by simpa using ak),Array.getElem?_modify,if_pos rfl]
   show (w.heap[b]?).map _=_
   rw [hb];rfl
  ·simpa [putCells] using aa
  have M:j<(sortZ xs).length:=by rw [←ae];exact (List.getElem?_eq_some_iff.1 hj).1
  have ah:off+j<cur.size:=by
   have:=aa;rw [hlen] at M
   have:c*Enc.sz Int=c:=Nat.mul_one c
   omega
  simp only [putCells,Array.getElem?_mapIdx,Array.getElem?_eq_getElem ah,Option.map_some]
  rw [if_pos ⟨by omega,by simpa using M⟩,Nat.add_sub_cancel_left]
  rw [ab,List.getElem?_map,List.getElem?_eq_getElem M] at hj
  simpa [getElem!_pos,M] using hj
 obtain ⟨o',n',c',ap,ay⟩:=hk
 cases ap
 exact ⟨off,xs.length,c,rfl,hc⟩
theorem sortI_any{ρ:Ren}(L:SlLaysM.n5 P ρ)(M:xs.length<4611686018427387904):eu P κ (ρ.f 5) [.slice ad xs.length c] (vc e (.slice ad xs.length c) xs::I) λr J=>r = .tuple #[]/\J=vc e (.slice ad (sortZ xs).length c) (sortZ xs)::I:=by
 by_cases hc:0<c
 ·exact sortI_base L hc M
 intro w hs
 obtain ⟨aa,_⟩:=hs.ok _ List.mem_cons_self
 obtain ⟨a',ab,hv,hl,ah,ai,ae⟩:=aa
 cases hv
 obtain rfl:xs=[]:=List.eq_nil_of_length_eq_zero (by omega)
 refine Calls.mono (AnyM.slices_Sort_int_none L ad c w) ?_
 rintro e' w' ⟨rfl,rfl⟩
 have hz:sortZ []=[]:=List.eq_nil_of_length_eq_zero (sortZ_len [])
 refine ⟨_,_,rfl,⟨rfl,rfl⟩,?_⟩
 rw [hz];exact hs
end Go.Sl
namespace Go.Sl
variable{n:Int}
abbrev U64(b:BitVec 64):Value:= .int .u64 (b.toNat:Int)
theorem u64_wrap(n:Int):IntKind.u64.wrap n=n % 18446744073709551616:=IntKind.wrap_u64 n
theorem ofInt_toNat64(a:BitVec 64):BitVec.ofInt IntKind.u64.bits (a.toNat:Int)=a:=by
 show BitVec.ofInt 64 (a.toNat:Int)=a
 rw [BitVec.ofInt_natCast,BitVec.ofNat_toNat];simp
theorem wrap_toNat64(a:BitVec 64):IntKind.u64.wrap (a.toNat:Int)=(a.toNat:Int):=by
 rw [u64_wrap];have:=a.isLt;omega
theorem bits_andB(a b:BitVec 64):bits .and .u64 (a.toNat:Int) (b.toNat:Int)=((a &&& b).toNat:Int):=by
 unfold bits;simp only [ofInt_toNat64];exact wrap_toNat64 (a &&& b)
theorem bits_orB(a b:BitVec 64):bits .or .u64 (a.toNat:Int) (b.toNat:Int)=((a ||| b).toNat:Int):=by
 unfold bits;simp only [ofInt_toNat64];exact wrap_toNat64 (a ||| b)
theorem bits_andNotB(a b:BitVec 64):bits .andNot .u64 (a.toNat:Int) (b.toNat:Int)=((a &&& ~~~b).toNat:Int):=by
 unfold bits;simp only [ofInt_toNat64];exact wrap_toNat64 (a &&& ~~~b)
theorem toNat_inj64{a b:BitVec 64}:((a.toNat:Int)=(b.toNat:Int))↔a=b:=⟨λh=>BitVec.eq_of_toNat_eq (by omega),λh=>by rw [h]⟩
section
variable {P:Program}{κ:Ctx}{N:Frm}{Q:Exit->Act->World->Prop}{L:Env}{I J:List Item}
variable {d:Option Tmp}{ty:TypeId}{ps:String}{af:Array Edge}{gd:Option (Nat×Bool)}
variable {x y:Operand}{T U:TypeId}{a b:BitVec 64}
theorem Runs.andB(hx:er L x=some (U64 a))(hy:er L y=some (U64 b)):Runs P κ N ⟨d,.binOp .and T x y U,ty,ps,af,gd⟩ L J (U64 (a &&& b)):=
 λaa w M _=>by simp only [execOp,M.eval hx,M.eval hy];simp [go_sem,bits_andB]
theorem Runs.orB(hx:er L x=some (U64 a))(hy:er L y=some (U64 b)):Runs P κ N ⟨d,.binOp .or T x y U,ty,ps,af,gd⟩ L J (U64 (a ||| b)):=
 λaa w M _=>by simp only [execOp,M.eval hx,M.eval hy];simp [go_sem,bits_orB]
theorem Runs.andNotB(hx:er L x=some (U64 a))(hy:er L y=some (U64 b)):Runs P κ N ⟨d,.binOp .andNot T x y U,ty,ps,af,gd⟩ L J (U64 (a &&& ~~~b)):=
 λaa w M _=>by
  simp only [execOp,M.eval hx,M.eval hy]
  have h:=bits_andNotB a b
  simp [go_sem,h]
theorem Runs.addB(M:er L x=some (U64 a))(hy:er L y=some (U64 b)):Runs P κ N ⟨d,.binOp .add T x y U,ty,ps,af,gd⟩ L J (U64 (a+b)):=by
 have h:=Runs.addw (P:=P) (κ:=κ) (N:=N) (J:=J) (d:=d) (ty:=ty) (ps:=ps) (af:=af) (gd:=gd) (T:=T) (U:=U) M hy
 have e:IntKind.u64.wrap ((a.toNat:Int)+(b.toNat:Int))=((a+b).toNat:Int):=by rw [u64_wrap,BitVec.toNat_add];omega
 rwa [e] at h
theorem Runs.subB(M:er L x=some (U64 a))(hy:er L y=some (U64 b)):Runs P κ N ⟨d,.binOp .sub T x y U,ty,ps,af,gd⟩ L J (U64 (a - b)):=by
 have h:=Runs.subw (P:=P) (κ:=κ) (N:=N) (J:=J) (d:=d) (ty:=ty) (ps:=ps) (af:=af) (gd:=gd) (T:=T) (U:=U) M hy
 have e:IntKind.u64.wrap ((a.toNat:Int) - (b.toNat:Int))=((a - b).toNat:Int):=by rw [u64_wrap,BitVec.toNat_sub];have:=a.isLt;have:=b.isLt;omega
 rwa [e] at h
theorem Runs.shlB{k':IntKind}(hx:er L x=some (U64 a))(hy:er L y=some (.int k' n))(h0:0<=n)(h1:n<64):Runs P κ N ⟨d,.binOp .shl T x y U,ty,ps,af,gd⟩ L J (U64 (a <<< n.toNat)):=by
 have h:=Runs.shlw (P:=P) (κ:=κ) (N:=N) (J:=J) (d:=d) (ty:=ty) (ps:=ps) (af:=af) (gd:=gd) (T:=T) (U:=U) hx hy h0
 have e:IntKind.u64.wrap ((a.toNat:Int)*2 ^ Min.min n.toNat IntKind.u64.bits)=((a <<< n.toNat).toNat:Int):=by
  have M:Min.min n.toNat IntKind.u64.bits=n.toNat:=by show Min.min n.toNat 64=_;omega
  have hc:((a.toNat:Int)*2 ^ n.toNat)=((a.toNat*2 ^ n.toNat:Nat):Int):=by rw [Int.natCast_mul,Int.natCast_pow];rfl
  rw [M,u64_wrap,BitVec.toNat_shiftLeft,Nat.shiftLeft_eq,hc]
  generalize a.toNat*2 ^ n.toNat=m
  omega
 rwa [e] at h
theorem Runs.shrB{k':IntKind}(hx:er L x=some (U64 a))(hy:er L y=some (.int k' n))(h0:0<=n)(h1:n<64):Runs P κ N ⟨d,.binOp .shr T x y U,ty,ps,af,gd⟩ L J (U64 (a >>> n.toNat)):=by
 have h:=Runs.shrw (P:=P) (κ:=κ) (N:=N) (J:=J) (d:=d) (ty:=ty) (ps:=ps) (af:=af) (gd:=gd) (T:=T) (U:=U) hx hy h0
 have e:(a.toNat:Int).fdiv (2 ^ Min.min n.toNat IntKind.u64.bits)=((a >>> n.toNat).toNat:Int):=by
  have M:Min.min n.toNat IntKind.u64.bits=n.toNat:=by show Min.min n.toNat 64=_;omega
  rw [M,BitVec.toNat_ushiftRight,Nat.shiftRight_eq_div_pow,Int.fdiv_eq_ediv_of_nonneg _<|Int.pow_nonneg<|by decide]
  push_cast;rfl
 rwa [e] at h
theorem Runs.eqB(M:er L x=some (U64 a))(hy:er L y=some (U64 b)):Runs P κ N ⟨d,.binOp .eql T x y U,ty,ps,af,gd⟩ L J (.bool (decide (a=b))):=by
 have h:=Runs.eql (P:=P) (κ:=κ) (N:=N) (J:=J) (d:=d) (ty:=ty) (ps:=ps) (af:=af) (gd:=gd) (T:=T) (U:=U) M hy
 rwa [decide_eq_decide.2 (toNat_inj64 (a:=a) (b:=b))] at h
theorem Runs.neB(M:er L x=some (U64 a))(hy:er L y=some (U64 b)):Runs P κ N ⟨d,.binOp .neq T x y U,ty,ps,af,gd⟩ L J (.bool (decide (a≠b))):=by
 have h:=Runs.neq (P:=P) (κ:=κ) (N:=N) (J:=J) (d:=d) (ty:=ty) (ps:=ps) (af:=af) (gd:=gd) (T:=T) (U:=U) M hy
 rwa [decide_eq_decide.2 (not_congr<|toNat_inj64 (a:=a) (b:=b))] at h
theorem Runs.toI{S:TypeId}{q:IntKind}(hs:P.underlying S=some (.int q))(ht:P.underlying T=some (.int .i64))(M:er L x=some (U64 a))(hr:a.toNat<9223372036854775808):Runs P κ N ⟨d,.convert S T x,ty,ps,af,gd⟩ L J (e7 (a.toNat:Int)):=
 Runs.convI hs ht M (by unfold InR;omega)
theorem Runs.and127(hx:er L x=some (e7 n))(hy:er L y=some (e7 127))(h0:0<=n):Runs P κ N ⟨d,.binOp .and T x y U,ty,ps,af,gd⟩ L J (e7 (n % 128)):=
 λaa w M _=>by
  simp only [execOp,M.eval hx,M.eval hy]
  obtain ⟨m,rfl⟩:∃m:Nat,n=(m:Int):=⟨n.toNat,by omega⟩
  have e:bits .and .i64 (m:Int) 127=(m:Int) % 128:=by
   have e1:(BitVec.ofInt 64 (m:Int) &&& BitVec.ofInt 64 127).toNat=m % 128:=by
    rw [BitVec.toNat_and,BitVec.toNat_ofInt,BitVec.toNat_ofInt,show ((127:Int) % (2 ^ 64:Nat)).toNat=2 ^ 7 - 1 by decide,Nat.and_two_pow_sub_one_eq_mod]
    omega
   unfold bits
   show IntKind.i64.wrap ((BitVec.ofInt 64 (m:Int) &&& BitVec.ofInt 64 127).toNat:Int)=_
   rw [e1,IntKind.wrap_i64];omega
  simp [go_sem,e]
end
end Go.Sl
namespace Go.Sl
open Go.RowKit (Below)
section
variable {P:Program}{κ:Ctx}{N:Frm}{Q:Exit->Act->World->Prop}{L:Env}{I J:List Item}{ops:Array Oper}{rest:List Oper}
variable {d:Option Tmp}{ty:TypeId}{ps:String}{af:Array Edge}{gd:Option (Nat×Bool)}
variable {α:Type}[Enc α]{xs ys R:List α}
def Cmps(P:Program)(κ:Ctx)(I:List Item)(g:FuncId)(caps:List Value)(cf:α->α->Int):Prop:=callable P g=true/\∀(x y:α) (J:List Item),Fit κ J I->eu P κ g ([]++[.agg (Enc.enc x).toArray,.agg (Enc.enc y).toArray]++caps) J λr J'=>r=e7 (cf x y)/\J=J'
structure BFound [Inhabited α] (cf:α->α->Int) (xs:List α) (x:α) (i:Nat) (b:Bool):Prop where
 le:i<=xs.length
 low:0<i->cf (e_ xs<|(i:Int) - 1) x<0
 high:i<xs.length->¬cf (e_ xs i) x<0
 is:b=decide (i<xs.length/\cf (e_ xs i) x=0)
end
end Go.Sl
namespace Go.Sl
section
variable {l:List Pt}{n:Nat}
theorem asc_at{i j:Nat}(h:AscP l)(M:i<j)(hj:j<l.length):Pt.lt (e_ l i) (e_ l j):=(pairwise_at l).1 h i j M hj
end
end Go.Sl
namespace Go.Sl
end Go.Sl
namespace Go.Sl
variable{xs:List Int}{k:Nat}
def cmpI(a b:Int):Int:=if a<b then -1 else if b<a then 1 else 0
def orL:List Int->Int
 |[]=>0
 |x::xs=>if x≠0 then x else orL xs
theorem orL_stop(M:k<xs.length)(h:e_ xs k≠0):orL (xs.drop k)=e_ xs k:=by
 rw [drop_at xs k M];simp only [orL];rw [if_pos h]
theorem orL_step(M:k<xs.length)(h:e_ xs k=0):orL (xs.drop k)=orL (xs.drop (k+1)):=by
 rw [drop_at xs k M];simp only [orL];rw [if_neg (by simp [h])]
theorem orL_end(M:xs.length<=k):orL (xs.drop k)=0:=by rw [List.drop_eq_nil_of_le M];rfl
theorem orL_cmp(a b:Pt):orL [cmpI a.u b.u,cmpI a.v b.v]=Pt.cmp a b:=by
 simp only [orL,cmpI,Pt.cmp]
 split<;>(try split at *)<;>(try split at *)<;>(try split at *)<;>(try split at *)<;>(try split at *)<;>omega
end Go.Sl
namespace Go.Sl
variable{k:Nat}{l:List Pt}
structure GrOk (nodes:Int) (es:List Pt):Prop where
 rng:0<=nodes/\nodes<=64
 asc:AscP es
 edge:∀e∈es,0<=e.u/\e.u<e.v/\e.v<nodes
def badE(nodes:Int)(e:Pt):Int:=if e.u<0\/e.v<=e.u\/nodes<=e.v then 6 else 0
def checkG(nodes:Int)(es:List Pt):Int:=if nodes<0\/64<nodes then 1 else scanL (badE nodes) Pt.lt none es
theorem badE_zero{nodes:Int}{e:Pt}:badE nodes e=0↔0<=e.u/\e.u<e.v/\e.v<nodes:=by
 unfold badE;split<;>omega
theorem checkG_ok{nodes:Int}{es:List Pt}:checkG nodes es=0↔GrOk nodes es:=by
 unfold checkG
 split
 ·rename_i h
  exact ⟨λe=>by omega,λe=>by have:=e.rng;omega⟩
 rename_i h
 rw [scanL_zero Pt.lin]
 constructor
 ·rintro ⟨M,h2⟩;exact ⟨by omega,h2,λe he=>badE_zero.1<|M e he⟩
 intro M;exact ⟨λe he=>badE_zero.2<|M.edge e he,M.asc⟩
variable {nodes:Int}{es:List Pt}
theorem GrOk.at(h:GrOk nodes es)(M:k<es.length):0<=(e_ es k).u/\(e_ es k).u<(e_ es k).v/\(e_ es k).v<nodes:=h.edge _ (at_mem (by omega) (by omega))
theorem flt_yes{P:Pt->Bool}(M:k<l.length)(h:P (e_ l k)=true):(l.take (k+1)).filter P=(l.take k).filter P++[e_ l k]:=by
 rw [take_at l k M,List.filter_append];simp [h]
theorem flt_no{P:Pt->Bool}(M:k<l.length)(h:P (e_ l k)=false):(l.take (k+1)).filter P=(l.take k).filter P:=by
 rw [take_at l k M,List.filter_append];simp [h]
theorem asc_nodup(h:AscP l):l.Nodup:=h.imp fun {a b} h e=>Pt.lin.ne h e
end Go.Sl
namespace Go.Sl
def edgeP(u v:Int):Pt:=⟨if v<u then v else u,if u<v then v else u⟩
theorem Pt.cmp_zero(a b:Pt):Pt.cmp a b=0↔a=b:=by
 rw [Pt.ext_iff']
 unfold Pt.cmp
 split<;>(try split)<;>(try split)<;>(try split)<;>omega
section
variable {es:List Pt}{e:Pt}{i:Nat}{q:Bool}
theorem BFound.below(h:BFound Pt.cmp es e i q)(ha:AscP es):∀j,j<i->Pt.lt (e_ es j) e:=λj hj=>by
 have M:=(Pt.cmp_lt _ _).1 (h.low<|by omega)
 rw [show (i:Int) - 1=((i - 1:Nat):Int) by omega] at M
 by_cases hq:j=i - 1
 ·rw [hq];exact M
 exact Pt.lin.tr _ _ _ (asc_at ha (i:=j) (j:=i - 1) (by omega)<|by have:=h.le;omega) M
theorem BFound.mem(h:BFound Pt.cmp es e i q)(ha:AscP es):(i<es.length/\e_ es i=e)↔e∈es:=by
 constructor
 ·rintro ⟨h1,M⟩;rw [←M];exact at_mem (by omega) (by omega)
 intro hm
 obtain ⟨j,hj,he⟩:=mem_at hm
 have h1:¬j<i:=λhlt=>by have:=h.below ha j hlt;rw [he] at this;exact Pt.lin.irr _ this
 have M:i<es.length:=by omega
 refine ⟨M,?_⟩
 by_cases hq:j=i
 ·rw [←hq];exact he
 have h3:=h.high M
 rw [Pt.cmp_lt] at h3
 have h4:=asc_at ha (i:=i) (j:=j) (by omega) hj
 rw [he] at h4
 exact absurd h4 h3
end
end Go.Sl
namespace Go.Sl
set_option maxRecDepth 10000
variable{nd:Int}{es:List Pt}
instance:Enc (BitVec 64):=⟨λb=>[U64 b],1,by omega,λ_=>rfl,λ_ u h=>by simp at h;subst h;rfl⟩
def addRow(rows:List (BitVec 64))(e:Pt):List (BitVec 64):=
 if 0<=e.u/\e.u<e.v/\e.v<rows.length then
  (rows.set e.u.toNat<|e_ rows e.u ||| 1#64 <<< e.v.toNat).set e.v.toNat (e_ (rows.set e.u.toNat<|e_ rows e.u ||| 1#64 <<< e.v.toNat) e.v ||| 1#64 <<< e.u.toNat)
 else rows
def rows0(nd:Int):List (BitVec 64):=List.replicate (min (max nd 0) 64).toNat 0#64
def ek(nd:Int)(es:List Pt):List (BitVec 64):=es.foldl addRow (rows0 nd)
theorem addRow_len(rows:List (BitVec 64))(e:Pt):(addRow rows e).length=rows.length:=by
 unfold addRow;split<;>simp
theorem rowsB_take{k:Nat}(h:k<es.length):ek nd (es.take (k+1))=addRow (ek nd (es.take k)) (e_ es k):=by
 unfold ek;rw [take_at es k h,List.foldl_append];rfl
theorem rowsB_len(nd:Int)(es:List Pt):(ek nd es).length=(min (max nd 0) 64).toNat:=by
 unfold ek
 have:∀(es:List Pt) (r:List (BitVec 64)),(es.foldl addRow r).length=r.length:=λes=>by
  induction es with
  |nil=>intro r;rfl
  |cons e es ih=>intro r;rw [List.foldl_cons,ih,addRow_len]
 rw [this];simp [rows0]
theorem at_rep64(n:Nat)(i:Int):e_ (List.replicate n (0#64)) i=0#64:=by
 unfold e_
 rw [List.getD_eq_getElem?_getD,List.getElem?_replicate]
 split<;>rfl
structure RowsOk (nd:Int) (es:List Pt) (rows:List (BitVec 64)):Prop where
 len:(rows.length:Int)=nd
 bit:∀v w:Int,0<=v->v<nd->0<=w->w<64->((e_ rows v).getLsbD w.toNat=decide ((⟨v,w⟩:Pt)∈es\/(⟨w,v⟩:Pt)∈es))
theorem RowsOk.start(h:0<=nd/\nd<=64):RowsOk nd [] (rows0 nd):=
 ⟨by unfold rows0;simp;omega,λv w _ _ _ _=>by unfold rows0;rw [at_rep64];simp⟩
theorem addRow_at{rows:List (BitVec 64)}{e:Pt}(h:0<=e.u/\e.u<e.v/\e.v<rows.length)(j:Int)(M:0<=j)(h1:j<rows.length) :
  e_ (addRow rows e) j=if e.v=j then e_ rows e.v ||| 1#64 <<< e.u.toNat else if e.u=j then e_ rows e.u ||| 1#64 <<< e.v.toNat else e_ rows j:=by
 unfold addRow
 rw [if_pos h,at_set _ e.v j _ (by omega) M<|by rw [List.length_set];omega]
 by_cases hv:e.v=j
 ·rw [if_pos hv,if_pos hv,at_set _ e.u e.v _ (by omega) (by omega)<|by omega,if_neg<|by omega]
 rw [if_neg hv,if_neg hv,at_set _ e.u j _ (by omega) M<|by omega]
theorem getLsb_shl(a i:Nat)(hi:i<64):(1#64 <<< a).getLsbD i=decide (a=i):=by
 show (BitVec.twoPow 64 a).getLsbD i=_
 rw [BitVec.getLsbD_twoPow]
 by_cases h:a=i
 ·subst h;simp [hi]
 simp [h]
theorem RowsOk.push{rows:List (BitVec 64)}{e:Pt}(h:RowsOk nd es rows)(he:0<=e.u/\e.u<e.v/\e.v<nd)(hn:nd<=64):RowsOk nd (es++[e]) (addRow rows e):=by
 have hl:=h.len
 refine ⟨by rw [addRow_len];exact hl,λv w v0 v1 w0 w1=>?_⟩
 rw [addRow_at (by omega) v v0 (by omega)]
 have hb:=h.bit v w v0 v1 w0 w1
 have aa:∀a b:Int,((⟨a,b⟩:Pt)=e)↔(a=e.u/\b=e.v):=λa b=>by rw [Pt.ext_iff']
 simp only [List.mem_append,List.mem_singleton,aa]
 by_cases hv:e.v=v
 ·rw [if_pos hv,BitVec.getLsbD_or,getLsb_shl _ _<|by omega,hv,hb]
  have M:(e.u.toNat=w.toNat)↔(w=e.u/\v=e.v):=by omega
  have e2:¬(v=e.u/\w=e.v):=by omega
  rw [decide_eq_decide.2 M]
  rw [←Bool.decide_or,decide_eq_decide]
  constructor
  ·rintro ((a|b)|c)
   ·exact .inl<|.inl a
   ·exact .inr<|.inl b
   exact .inr<|.inr ⟨c.1,rfl⟩
  rintro ((a|c)|(b|c))
  ·exact .inl<|.inl a
  ·exact absurd c<|λc=>by omega
  ·exact .inl<|.inr b
  exact .inr ⟨c.1,hv.symm⟩
 rw [if_neg hv]
 by_cases hu:e.u=v
 ·rw [if_pos hu,BitVec.getLsbD_or,getLsb_shl _ _<|by omega,hu,hb]
  have M:(e.v.toNat=w.toNat)↔(v=e.u/\w=e.v):=by omega
  have e2:¬(w=e.u/\v=e.v):=by omega
  rw [decide_eq_decide.2 M]
  rw [←Bool.decide_or,decide_eq_decide]
  constructor
  ·rintro ((a|b)|c)
   ·exact .inl<|.inl a
   ·exact .inr<|.inl b
   exact .inl<|.inr ⟨rfl,c.2⟩
  rintro ((a|c)|(b|c))
  ·exact .inl<|.inl a
  ·exact .inr ⟨hu.symm,c.2⟩
  ·exact .inl<|.inr b
  exact absurd c<|λc=>by omega
 rw [if_neg hu,hb]
 have M:¬(v=e.u/\w=e.v):=by omega
 have e2:¬(w=e.u/\v=e.v):=by omega
 simp [M,e2]
theorem rowsB_ok(h:GrOk nd es):∀k,k<=es.length->RowsOk nd (es.take k) (ek nd (es.take k))
 |0,_=>by simpa [ek] using RowsOk.start h.rng
 |k+1,hk=>by
  rw [rowsB_take (by omega),take_at es k<|by omega]
  exact (rowsB_ok h k<|by omega).push (h.at<|by omega) h.rng.2
theorem GrOk.rows(h:GrOk nd es):RowsOk nd es (ek nd es):=by
 have:=rowsB_ok h es.length (Nat.le_refl _)
 rwa [List.take_length] at this
end Go.Sl
namespace Go.Sl
open Go.RowKit (Below)
variable{id n:Nat}{M rest:List Oper}{fn:Func}
def recI(l:Nat)(r:Loop):Item where
 fp k:=k=l
 ok w:=w.heap[l]? = some (.loop r)
 loc w w' h hw:=(h l rfl).trans hw
def dfrI(D:Nat):Item where
 fp k:=k=D
 ok w:=w.heap[D]? = some (.deferred<|some [])
 loc w w' h hw:=(h D rfl).trans hw
theorem Sep.putRec{κ:Ctx}{w:World}{l:Nat}{r r':Loop}{I:List Item}(h:Sep κ w (recI l r::I)):Sep κ (w.putObj l (.loop r')) (recI l r'::I):=by
 have hl:=(h.ok _ List.mem_cons_self).1
 have hlt:l<w.heap.size:=(Array.getElem?_eq_some_iff.1 hl).1
 exact h.upd (.head _ _ _) rfl ⟨rfl,Nat.le_refl _⟩ rfl (by simp) (λk _ M=>World.putObj_heap_other M) (World.putObj_heap_same hlt) λk hk=> .inl hk
section
variable {P:Program}{κ:Ctx}{N:Frm}{Q:Exit->Act->World->Prop}{L:Env}{I J:List Item}{ops:Array Oper}
def WR(P:Program)(κ:Ctx)(N:Frm)(l m:Nat)(c:Code)(Q:Exit->Act->World->Prop)(L:Env)(I:List Item):Prop:=∀a w,Ag N a L->Sep κ w I->c.wpIn (Fence.wide.inRound l) m P Q a w
variable {l m:Nat}
theorem WR.seq{x y:Code}(h:WR P κ N l m x (Exit.then (y.wpIn (Fence.wide.inRound l) m P Q) Q) L I):WR P κ N l m (.seq x y) Q L I:=λa w M hs=>wpIn_seq (h a w M hs)
theorem WR.block{c:Code}(h:WR P κ N l m c (Exit.inBlock id Q) L I):WR P κ N l m (.block id c) Q L I:=λa w M hs=>wpIn_block (h a w M hs)
theorem WR.sub{c:Code}{L':Env}(hf:Sub L L')(h:WR P κ N l m c Q L' I):WR P κ N l m c Q L I:=λa w M hs=>h a w (M.sub hf) hs
theorem V.thenR{y:Code}(h:WR P κ N l m y Q L I):V κ N (Exit.then (y.wpIn (Fence.wide.inRound l) m P Q) Q) .normal L I:=h
theorem upon_round{o:Oper}{a:Act}{next M:Act->World->Prop}(hq:¬LetsOut Q)(hn:∀a w,next a w->M a w):∀res:Result Next,o.upon P a next Q res->o.uponIn (Fence.wide.inRound l) m P a M Q res
 | .ok (.value v) w',h=>hn _ _ h
 | .ok .skip w',h=>hn _ _ h
 | .ok (.defer d) w',h=>hn _ _ h
 | .ok (.enter f args) w',h=>⟨λhd=>by simp [Fence.wide] at hd,CallsIn.inRound l ((callsIn_wide.2 h).mono λe aa he=>by
   cases e with
   |returned v=>exact hn _ _ he
   |panicked c=>exact he
   |outgrown=>exact he)⟩
 | .ok (.row row args) w',h=>⟨λhd=>by simp [Fence.wide] at hd,λc cs _=>by
   obtain ⟨v,aa,hr,hs⟩:=h c cs
   exact ⟨v,aa,hn _ _ hr,stepsIn_wide.2 hs⟩⟩
 | .ok (.round _ _ _ _ _) _,h=>h.elim
 | .halt e w',h=>by cases e<;>first|exact h|exact h.elim
theorem list_round(M:¬LetsOut Q):∀(rest:List Oper),(∀o∈rest,∀c,o.op ≠ .defer c)->∀a w,wpList P ops Q rest a w->wpListIn (Fence.wide.inRound l) m P ops Q rest a w
 |[],_,a,w,h=>h
 |o::rest,hnd,a,w,h=>by
  unfold wpList at h
  unfold wpListIn
  by_cases hw:Region.wanted o (yielded ops a.tmps)=true
  ·rw [if_pos hw] at h ⊢
   rcases h with h|h
   ·refine ⟨λ_ _=>trivial,?_⟩
    rw [Fence.inRound_round,Oper.semAt_some _ _ _<|hnd o List.mem_cons_self]
    exact upon_round M (λa' w' h'=>list_round M rest (λo ho=>hnd o<|List.mem_cons_of_mem _ ho) a' w' h') _ h
   exact absurd h.2 M
  rw [if_neg hw] at h ⊢
  exact ⟨λ_ _=>trivial,list_round M rest (λo ho=>hnd o<|List.mem_cons_of_mem _ ho) _ _ h⟩
def noDefer:List Oper->Bool
 |[]=>true
 |o::l=>(match o.op with | .defer _=>false|_=>true)&&noDefer l
theorem noDefer_all:∀{l:List Oper},noDefer l=true->∀o∈l,∀c,o.op ≠ .defer c
 |[],_,o,ho,_=>by cases ho
 |x::l,h,o,ho,c=>by
  unfold noDefer at h
  rw [Bool.and_eq_true] at h
  rcases List.mem_cons.1 ho with rfl|ho
  ·intro e
   rw [e] at h;cases h.1
  exact noDefer_all h.2 o ho c
theorem WR.region(hq:∀a w,¬Q .outgrown a w)(hd:noDefer M=true)(h:G P κ N M.toArray Q M L I):WR P κ N l m (.region id M.toArray false) Q L I:=
 λa w ha hs=>wpIn_region_lit (list_round (λ⟨a,w,h⟩=>hq a w h) M (noDefer_all hd) a w<|h a w ha hs)
def GY(P:Program)(κ:Ctx)(N:Frm)(ops:Array Oper)(Q:Exit->Act->World->Prop)(rest:List Oper)(L:Env)(I:List Item):Prop:=∀a w,Ag N a L->Sep κ w I->wpListIn Fence.wide 0 P ops Q rest a w
theorem W.regionI(h:GY P κ N M.toArray Q M L I):W P κ N (.region id M.toArray false) Q L I:=λa w ha hs=>wpIn_wide.1 (wpIn_region_lit (n:=0) (h a w ha hs))
theorem GY.nil(h:V κ N Q .normal L I):GY P κ N ops Q [] L I:=λa w M hs=>h a w M hs
theorem GY.fit(hf:Fit κ I J)(h:GY P κ N ops Q rest L J):GY P κ N ops Q rest L I:=λa w M hs=>h a w M (hf w hs)
theorem GY.read{o:Oper}{d:Nat}{v:Value}(hw:Wanted N ops o L)(hd:o.dst=some d)(hN:Nat.blt d N.n=true)(hr:Runs P κ N o L I v)(h:GY P κ N ops Q rest ((d,v)::L) I):GY P κ N ops Q (o::rest) L I:=
 λa w M hs=>by
  unfold wpListIn
  rw [if_pos (hw a M)]
  refine ⟨λ_ _=>trivial,?_⟩
  simp only [Fence.wide_round,Oper.semAt_none,hr a w M hs,Oper.uponIn,hd]
  exact h _ w (M.put d hN v) hs
def markD(D:Nat):Deferred:={target:= .collected D,args:= #[]}
def bodyPostR(P:Program)(fn:Func)(R:Ending->World->Prop):Exit->Act->World->Prop
 | .normal,a,w | .ret,a,w=>LeavesInM Fence.wide 0 P fn a.tmps R a.defers .returning w
 |_,_,_=>False
theorem eu.enterM{f:FuncId}{c:Code}{M:List Value}{Post:Value->List Item->Prop}(hf:P.funcs[f]? = some fn)(hb:fn.body=some c)(hN:fn.ntmps=n)(hl:Nat.ble M.length n=true)(hL:argEnv 0 M=L)
  (h:W P κ ⟨n,[]⟩ c (bodyPostR P fn<|RetR κ Post) L I):eu P κ f M I Post:=λw hs=>by
 refine (callsIn_wide (n:=0)).1 (callsIn_of_wp_marks hf hb trivial ?_)
 rw [hN]
 subst hL
 refine wpIn_mono (wpIn_wide.2<|h _ w (Ag.start M n<|by simpa using hl) hs) λe a w hq=>?_
 cases e<;>first|exact hq|exact False.elim hq
theorem V.leave{D:Nat}{R:Ending->World->Prop}(h:V κ ⟨n,[]⟩ (bodyPost P fn R) .ret L I):V κ ⟨n,[markD D]⟩ (bodyPostR P fn R) .ret L (dfrI D::I):=λa w ha hs=>by
 have hD:=(hs.ok _ List.mem_cons_self).1
 have hlt:D<w.heap.size:=(Array.getElem?_eq_some_iff.1 hD).1
 have M:Sep κ (w.putObj D<|.deferred none) I:=hs.tail.frame rfl ⟨rfl,Nat.le_refl _⟩ rfl (by simp) λx hx k hk=>World.putObj_heap_other λe=>(List.pairwise_cons.1 hs.pw).1 x hx D rfl (e▸hk)
 obtain ⟨_,v,hr,hR⟩:=h {a with defers:=[]} _ ⟨rfl,ha.size,ha.get⟩ M
 show LeavesInM _ _ _ _ _ _ a.defers _ _
 rw [ha.defers]
 exact ⟨by simp,.inl ⟨D,_,rfl,run_takeDeferred hD,v,hr,hR⟩⟩
end
end Go.Sl
namespace Go.Sl
open Go.RowKit (Below)
variable{c:Operand}{id:Nat}{rest:List Oper}
section
variable {P:Program}{κ:Ctx}{N:Frm}{Q:Exit->Act->World->Prop}{L:Env}{I J:List Item}{ops:Array Oper}{l m:Nat}
theorem WR.cond{x y:Code}{t:Bool}(hc:er L c=some (.bool t))(h1:t=true->WR P κ N l m x Q L I)(h2:t=false->WR P κ N l m y Q L I):WR P κ N l m (.cond c x y) Q L I:=
 λa w M hs=>wpIn_cond_split (M.eval hc) (λh=>h1 h a w M hs) (λh=>h2 h a w M hs)
theorem WR.ite{x y:Code}{p:Prop}[Decidable p](M:er L c=some (.bool (decide p)))(h1:p->WR P κ N l m x Q L I)(h2:¬p->WR P κ N l m y Q L I):WR P κ N l m (.cond c x y) Q L I:=
 WR.cond M (λh=>h1<|of_decide_eq_true h) (λh=>h2<|of_decide_eq_false h)
theorem WR.yes{x y:Code}(M:er L c=some (.bool true))(h:WR P κ N l m x Q L I):WR P κ N l m (.cond c x y) Q L I:=WR.cond M (λ_=>h) (λe=>by cases e)
theorem WR.no{x y:Code}(M:er L c=some (.bool false))(h:WR P κ N l m y Q L I):WR P κ N l m (.cond c x y) Q L I:=WR.cond M (λe=>by cases e) (λ_=>h)
theorem WR.skip(h:V κ N Q .normal L I):WR P κ N l m .skip Q L I:=λa w M hs=>wpIn_skip (h a w M hs)
theorem WR.exit(h:V κ N Q (.exit id) L I):WR P κ N l m (.exit id) Q L I:=λa w M hs=>wpIn_exit (h a w M hs)
theorem WR.ret(h:V κ N Q .ret L I):WR P κ N l m .ret Q L I:=λa w M hs=>wpIn_ret (h a w M hs)
def YieldB(P:Program)(κ:Ctx)(l:Nat)(args:List Value)(I:List Item)(Post:Bool->List Item->Prop):Prop:=∀w,Sep κ w I->YieldAt Fence.wide 0 P l args.toArray w λe w'=>∃b,e = .returned (.bool b)/\∃J,Post b J/\Sep κ w' J
theorem V.roundB{r:Loop}{Post:Bool->List Item->Prop}(J:List Item)(hf:Fit κ I (recI l {r with state:= .busy}::J))(hp:r.state = .ready/\r.pending=none)(hP:Post true (recI l r::J)):V κ N (roundPost P l λe w'=>∃b,e = .returned (.bool b)/\∃K,Post b K/\Sep κ w' K) .normal L I:=λa w ha hs=>by
 have M:=hf w hs
 have hl:=(M.ok _ List.mem_cons_self).1
 refine ⟨_,_,run_endRound none hl,true,rfl,?_⟩
 have e:({({r with state:= .busy}:Loop) with state:=if (none:Option Code).isNone then .ready else .done,pending:=none}:Loop)=r:=by
  obtain ⟨h1,h2⟩:=hp
  cases r;simp_all
 rw [e]
 exact ⟨_,hP,M.putRec⟩
theorem V.roundX{r:Loop}{Post:Bool->List Item->Prop}(J:List Item)(hf:Fit κ I (recI l {r with state:= .busy}::J))(hP:Post false (recI l {r with state:= .done,pending:=some (.exit id)}::J)):V κ N (roundPost P l λe w'=>∃b,e = .returned (.bool b)/\∃K,Post b K/\Sep κ w' K) (.exit id) L I:=λa w ha hs=>by
 have M:=hf w hs
 have hl:=(M.ok _ List.mem_cons_self).1
 exact ⟨_,_,run_endRound (some<|.exit id) hl,false,rfl,_,hP,M.putRec⟩
theorem V.roundRet{r:Loop}{Post:Bool->List Item->Prop}(J:List Item)(hf:Fit κ I (recI l {r with state:= .busy}::J))(hP:Post false (recI l {r with state:= .done,pending:=some .ret}::J)):V κ N (roundPost P l λe w'=>∃b,e = .returned (.bool b)/\∃K,Post b K/\Sep κ w' K) .ret L I:=λa w ha hs=>by
 have M:=hf w hs
 have hl:=(M.ok _ List.mem_cons_self).1
 exact ⟨_,_,run_endRound (some .ret) hl,false,rfl,_,hP,M.putRec⟩
theorem YieldB.mk{r:Loop}{Post:Bool->List Item->Prop}{aa:List Value}{L₁:Env}(ae:aa.length=r.params.size)(ad:r.state = .ready/\r.pending=none){body:Code}(hb:r.body=body)
  (M:∀(w:World) (K:Act->World->Prop),(∀a₁,Ag N a₁ L₁->K a₁ w)->r.assign.wpIn (Fence.wide.inRound l) 0 P (Exit.then K<|λ_ _ _=>False) {tmps:=(r.params.zip aa.toArray).foldl (λt (p,v)=>t.setIfInBounds p v) r.tmps,defers:=[]} w)
  (ab:WR P κ N l 0 body (roundPost P l λe w'=>∃b,e = .returned (.bool b)/\∃K,Post b K/\Sep κ w' K) L₁ (recI l {r with state:= .busy}::I)) :
  YieldB P κ l aa (recI l r::I) Post:=λw hs=>by
 have hl:=(hs.ok _ List.mem_cons_self).1
 refine ⟨_,_,_,_,run_yield hl<|by simpa using ae,roundIn_of_wpIn trivial ?_⟩
 refine M w _ λa₁ ha=>⟨_,run_beginRound hl ad.1,?_⟩
 have h:=ab a₁ _ ha hs.putRec
 rw [←hb] at h
 exact h
theorem fold_two(tm:Array Value)(p q:Tmp)(v u:Value):(#[p,q].zip [v,u].toArray).foldl (λt (p,v)=>t.setIfInBounds p v) tm=(tm.setIfInBounds p v).setIfInBounds q u:=by simp
theorem GY.yieldB{rest:List Oper}{Post:Bool->List Item->Prop}{l dd:Nat}{x:Operand}{xs:List Operand}{vs:List Value}{M:Array TypeId}{ty:TypeId}{ps:String}{af:Array Edge}{gd:Option (Nat×Bool)}
  (hw:Wanted N ops ⟨some dd,.call {callee:= .value x,args:=xs.toArray,argTypes:=M},ty,ps,af,gd⟩ L) (ad:er L x=some (.func (.yield l) #[] #[])) (hx:evalL L xs=some vs) (hN:Nat.blt dd N.n=true) (hy:YieldB P κ l vs I Post)
  (h:∀b J,Post b J->GY P κ N ops Q rest ((dd,.bool b)::L) J):GY P κ N ops Q (⟨some dd,.call {callee:= .value x,args:=xs.toArray,argTypes:=M},ty,ps,af,gd⟩::rest) L I:=λa w ha hs=>by
 obtain ⟨fn,aa,assign,body,ab,hR⟩:=hy w hs
 have he:(execOp a.eval ⟨some dd,.call {callee:= .value x,args:=xs.toArray,argTypes:=M},ty,ps,af,gd⟩).run P w = .ok (.round l fn aa assign body) w:=by
  simp only [execOp,resolve,ha.eval ad,Deferred.ofValue,invoke,Sem.run_bind,Sem.run_pure,Result.andThen_ok,List.map_toArray,ha.evalL hx]
  simpa using ab
 unfold wpListIn
 rw [if_pos (hw a ha)]
 refine ⟨λ_ _=>trivial,?_⟩
 simp only [Fence.wide_round,Oper.semAt_none,he,Oper.uponIn]
 refine ⟨λhd=>by simp [Fence.wide] at hd,hR.mono λe w' ⟨b,h1,J,hP,h2⟩=>?_⟩
 subst h1
 exact h b J hP _ w' (ha.put dd hN _) h2
theorem GY.pass{o:Oper}{d:Nat}(hw:Unwanted N ops o L)(hd:o.dst=some d)(hN:Nat.blt d N.n=true)(h:GY P κ N ops Q rest ((d,undef)::L) I):GY P κ N ops Q (o::rest) L I:=
 λa w M hs=>by
  unfold wpListIn
  rw [if_neg (by simp [hw a M])]
  rw [hd]
  exact ⟨λ_ _=>trivial,h _ w (M.put d hN _) hs⟩
theorem YieldB.fit{l:Nat}{M:List Value}{Post:Bool->List Item->Prop}(hf:Fit κ I J)(h:YieldB P κ l M J Post):YieldB P κ l M I Post:=λw hs=>h w (hf w hs)
theorem perm_fr{A L T:List Item}:(A++(L++T)).Perm (L++(A++T)):=by
 rw [←List.append_assoc,←List.append_assoc];exact List.perm_append_comm.append_right T
theorem W.rangeFnB{g:Operand}{ps:Array Tmp}{assign body:Code}{gf:FuncId}{lb:List Value}(hg:er L g=some (.func (.func gf) #[] lb.toArray))(hc:callable P gf=true)
  (h:∀(D l:Nat) (r:Loop),(r.state = .ready/\r.pending=none)->r.params=ps->r.assign=assign->r.body=body->Ag ⟨N.n,[]⟩ {tmps:=r.tmps,defers:=[]} L->
   eu P κ gf (.func (.yield l) #[] #[]::lb) (recI l r::dfrI D::I) λv K=>
    (∃J,K=recI l r::dfrI D::J/\V κ ⟨N.n,markD D::N.ds⟩ Q .normal L (dfrI D::J))\/
    ∃c J,K=recI l {r with state:= .done,pending:=some c}::dfrI D::J/\W P κ ⟨N.n,markD D::N.ds⟩ c Q L (dfrI D::J)) :
  W P κ N (.rangeFunc g ps assign body) Q L I:=λa w ha hs=>by
 refine (wpIn_wide (n:=0)).1 (wpIn_rangeFunc ?_)
 intro fn _
 obtain ⟨r,hr⟩:∃r:Loop,r={state:= .ready,pending:=none,fn,tmps:=a.tmps,params:=ps,assign,body,defers:=w.heap.size}:=⟨_,rfl⟩
 obtain ⟨W1,hW1⟩:∃W1,(w.alloc (.deferred (some []))).alloc (.loop r)=W1:=⟨_,rfl⟩
 have hD1:(w.alloc (.deferred (some []))).heap[w.heap.size]? = some (.deferred (some [])):=World.alloc_heap_new w _
 have s1:Sep κ (w.alloc (.deferred (some []))) (dfrI w.heap.size::I):=hs.new (hs.alloc _) hD1 λk hk=>by obtain rfl:k=_:=hk;exact ⟨Nat.le_refl _,by simp⟩
 have hL1:W1.heap[w.heap.size+1]? = some (.loop r):=by
  rw [←hW1];have:=World.alloc_heap_new (w.alloc (.deferred (some []))) (.loop r);rwa [World.size_alloc] at this
 have s2:Sep κ W1 (recI (w.heap.size+1) r::dfrI w.heap.size::I):=by
  rw [←hW1]
  exact s1.new (s1.alloc _) (by rw [hW1];exact hL1) λk hk=>by obtain rfl:k=_:=hk;exact ⟨by simp,by simp⟩
 have hcall:=h w.heap.size (w.heap.size+1) r (by rw [hr];exact ⟨rfl,rfl⟩) (by rw [hr]) (by rw [hr]) (by rw [hr]) ⟨rfl,by rw [hr];exact ha.size,by rw [hr];exact ha.get⟩ W1 s2
 refine ⟨w.heap.size+1,[markD w.heap.size],W1,{target:= .fn (.func gf) lb.toArray,args:= #[.func (.yield (w.heap.size+1)) #[] #[]]},W1,gf, #[.func (.yield (w.heap.size+1)) #[] #[]]++lb.toArray,W1,?_,?_,λ_ _=>trivial,?_,λhd=>by simp [Fence.wide] at hd,?_⟩
 ·rw [←hW1,hr];exact run_enterLoop_outer _ _ _ _ _
 ·simp only [resolve,ha.eval hg]
  simp [go_sem]
 ·simp [invoke,go_sem,run_callFunc hc]
 refine callsIn_wide.2 ?_
 have e1:(#[.func (.yield (w.heap.size+1)) #[] #[]]++lb.toArray:Array Value)=(Value.func (.yield (w.heap.size+1)) #[] #[]::lb).toArray:=by simp
 rw [e1]
 have hag:∀(N':Frm) (t:Array Value),True->True:=λ_ _ _=>trivial
 refine hcall.mono λe w' ⟨v,K,he,hK,hs'⟩=>?_
 subst he
 rcases hK with ⟨J,hK,hV⟩|⟨c,J,hK,hW⟩
 ·subst hK
  have hl:=(hs'.ok _ List.mem_cons_self).1
  have hst:r.state ≠ .busy:=by rw [hr];exact λh=>by cases h
  refine ⟨_,_,run_endLoop hl hst,?_⟩
  have hp:r.pending=none:=by rw [hr]
  rw [hp]
  exact hV _ _ ⟨by show [markD w.heap.size]++a.defers=_;rw [ha.defers];rfl,ha.size,ha.get⟩ hs'.putRec.tail
 subst hK
 have hl:=(hs'.ok _ List.mem_cons_self).1
 refine ⟨_,_,run_endLoop hl (λh=>by cases h),?_⟩
 exact wpIn_wide.2 (hW _ _ ⟨by show [markD w.heap.size]++a.defers=_;rw [ha.defers];rfl,ha.size,ha.get⟩ hs'.putRec.tail)
end
end Go.Sl
namespace Go.Sl
variable{by' g i j k q sz:Nat}{M z:List Value}{m:BitVec 64}
def TabRd(κ:Ctx)(I:List Item)(g:Nat)(tab:List Value):Prop:=∀w,Sep κ w I->∀j u,tab[j]? = some u->w.cell? ⟨g,j,none⟩=some u
theorem TabRd.fit{κ:Ctx}{I J:List Item}(h:TabRd κ I g M)(hf:Fit κ J I):TabRd κ J g M:=λw hs=>h w (hf w hs)
section
variable {P:Program}{κ:Ctx}{N:Frm}{Q:Exit->Act->World->Prop}{L:Env}{I J:List Item}
variable {d:Option Tmp}{ty:TypeId}{ps:String}{af:Array Edge}{gd:Option (Nat×Bool)}
variable {x y:Operand}{T U:TypeId}{a b:BitVec 64}
theorem Runs.negB(hx:er L x=some (U64 a)):Runs P κ N ⟨d,.unOp .neg T x,ty,ps,af,gd⟩ L J (U64 (-a)):=λM w ha _=>by
 have e:IntKind.u64.wrap (-(a.toNat:Int))=((-a).toNat:Int):=by
  have e2:(-a).toNat=(18446744073709551616 - a.toNat) % 18446744073709551616:=BitVec.toNat_neg a
  have h1:a.toNat<18446744073709551616:=a.isLt
  rw [u64_wrap,e2];omega
 simp only [execOp,ha.eval hx]
 simp [go_sem,e]
theorem Runs.mulB(M:er L x=some (U64 a))(hy:er L y=some (U64 b)):Runs P κ N ⟨d,.binOp .mul T x y U,ty,ps,af,gd⟩ L J (U64 (a*b)):=by
 have h:=Runs.mulw (P:=P) (κ:=κ) (N:=N) (J:=J) (d:=d) (ty:=ty) (ps:=ps) (af:=af) (gd:=gd) (T:=T) (U:=U) M hy
 have e:IntKind.u64.wrap ((a.toNat:Int)*(b.toNat:Int))=((a*b).toNat:Int):=by 
  have e2:(a*b).toNat=a.toNat*b.toNat % 18446744073709551616:=BitVec.toNat_mul a b
  rw [u64_wrap,e2,←Int.natCast_mul];omega
 rwa [e] at h
theorem Runs.idxArrU{E n:Nat}{k:IntKind}{ag:Bool}(ht:P.underlying T=some (.array n E))(hE:tyF P E=some (sz,ag,by',z))(hx:er L x=some (.pointer (some ⟨g,0,none⟩)))
  (hy:er L y=some (.int k (i:Int))) (hn:i<n):Runs P κ N ⟨d,.indexAddr T x y,ty,ps,af,gd⟩ L J (.pointer<|some ⟨g,0+i*sz,none⟩):=
 λaa w M hs=>by
  simp [execOp,M.eval hx,M.eval hy,Instr.indexAt,asIntOf,run_underlying ht,hn,run_sizeOf hE,Instr.sureAddr,addr_add]
theorem Runs.loadTab{v:Value}(hT:tyF P T=some (sz,false,by',z))(hx:er L x=some (.pointer (some ⟨g,0+i*1,none⟩)))(hb:TabRd κ J g M)(hc:M[i]? = some v) :
  Runs P κ N ⟨d,.load T x,ty,ps,af,gd⟩ L J v:=λaa w ha hs=>by
 simp only [execOp,ha.eval hx]
 simp [Instr.loadAt,Instr.sureAddr,run_loadVar_one hT<|hb w hs i v hc]
end
def tzTab:List Int:=[0,1,56,2,57,49,28,3,61,58,42,50,38,29,17,4,62,47,59,36,45,43,51,22,53,39,33,30,24,18,12,5,63,55,48,27,60,41,37,16,46,35,44,21,52,32,23,11,54,26,40,15,34,20,31,10,25,14,19,9,13,8,7,6]
def tzCells:List Value:=tzTab.map λn=> .int .u8 n
def tzIx(m:BitVec 64):Nat:=(((m &&& (-m))*285870213051353865#64) >>> (58:Int).toNat).toNat
def tzB(m:BitVec 64):Int:=if m=0#64 then 64 else tzTab.getD (tzIx m) 0
theorem tzIx_lt(m:BitVec 64):tzIx m<64:=by
 unfold tzIx
 rw [BitVec.toNat_ushiftRight,Nat.shiftRight_eq_div_pow,show 2 ^ (58:Int).toNat=288230376151711744 by decide]
 have:=((m &&& (-m))*285870213051353865#64).isLt
 omega
theorem tzCells_at(m:BitVec 64):tzCells[tzIx m]? = some (.int .u8 (tzTab.getD (tzIx m) 0)):=by
 unfold tzCells
 have h:tzIx m<tzTab.length:=tzIx_lt m
 rw [List.getElem?_map,List.getElem?_eq_getElem h,List.getD_eq_getElem?_getD,List.getElem?_eq_getElem h,Option.map_some,Option.getD_some]
theorem odd_part:∀n:Nat,0<n->∃k q,n=2 ^ k*(2*q+1)
 |n,h=>by
  by_cases hp:n % 2=1
  ·exact ⟨0,n / 2,by omega⟩
  obtain ⟨k,q,e⟩:=odd_part (n / 2) (by omega)
  exact ⟨k+1,q,by rw [Nat.pow_succ,Nat.mul_assoc,Nat.mul_comm 2<|2*q+1,←Nat.mul_assoc,←e];omega⟩
theorem bit_of:(2 ^ k*(2*q+1)).testBit j=(decide (k<=j)&&if j=k then true else q.testBit (j - k - 1)):=by
 rw [Nat.testBit_two_pow_mul]
 by_cases h:k<=j
 ·rw [show decide (k<=j)=true from decide_eq_true h]
  by_cases hj:j=k
  ·subst hj;simp
  rw [if_neg hj,show j - k=(j - k - 1)+1 by omega,Nat.testBit_succ,show (2*q+1) / 2=q by omega];simp
 rw [show decide (k<=j)=false from decide_eq_false h];simp
theorem bit_pred:(2 ^ k*(2*q+1) - 1).testBit j=if j<k then true else if j=k then false else q.testBit (j - k - 1):=by
 have M:0<2 ^ k:=Nat.two_pow_pos k
 have e:2 ^ k*(2*q+1) - 1=2 ^ k*(2*q)+(2 ^ k - 1):=by rw [Nat.mul_add];omega
 rw [e,Nat.testBit_two_pow_mul_add _<|by omega]
 by_cases h:j<k
 ·rw [if_pos h,if_pos h,Nat.testBit_two_pow_sub_one];simpa using h
 rw [if_neg h,if_neg h]
 by_cases hj:j=k
 ·rw [if_pos hj,hj];simp
 rw [if_neg hj,show j - k=(j - k - 1)+1 by omega,Nat.testBit_succ,show 2*q / 2=q by omega];simp
theorem least_bit(h:m≠0#64):∃k:Nat,k<64/\m.getLsbD k=true/\(∀j,j<k->m.getLsbD j=false)/\m &&& (-m)=1#64 <<< k/\∀j,(m &&& (m - 1#64)).getLsbD j=(m.getLsbD j&&decide (j≠k)):=by
 have h0:0<m.toNat:=by
  rcases Nat.eq_zero_or_pos m.toNat with h1|h1
  ·exact absurd (BitVec.eq_of_toNat_eq<|by rw [h1];rfl) h
  exact h1
 obtain ⟨k,q,e⟩:=odd_part m.toNat h0
 have hlt:=m.isLt
 have hk:k<64:=by
  rcases Nat.lt_or_ge k 64 with hk|hk
  ·exact hk
  have h1:2 ^ 64<=2 ^ k:=Nat.pow_le_pow_right (by decide) hk
  have M:2 ^ k*1<=2 ^ k*(2*q+1):=Nat.mul_le_mul_left _ (by omega)
  omega
 have hm:∀j,m.getLsbD j=(decide (k<=j)&&if j=k then true else q.testBit (j - k - 1)):=λj=>by
  rw [BitVec.getLsbD,e,bit_of]
 have hp:∀j,(m - 1#64).getLsbD j=if j<k then true else if j=k then false else q.testBit (j - k - 1):=λj=>by
  have e1:(m - 1#64).toNat=m.toNat - 1:=by rw [BitVec.toNat_sub];show (2 ^ 64 - 1+m.toNat) % 2 ^ 64=_;omega
  rw [BitVec.getLsbD,e1,e,bit_pred]
 have hn:∀j,j<64->(-m).getLsbD j = !(if j<k then true else if j=k then false else q.testBit (j - k - 1)):=λj hj=>by
  have e1:(-m).toNat=2 ^ 64 - ((m.toNat - 1)+1):=by rw [BitVec.toNat_neg];omega
  rw [BitVec.getLsbD,e1,Nat.testBit_two_pow_sub_succ<|by omega,decide_eq_true hj,e,bit_pred];rfl
 refine ⟨k,hk,by rw [hm];simp,λj hj=>by rw [hm,decide_eq_false<|by omega];rfl,?_,λj=>?_⟩
 ·refine BitVec.eq_of_getLsbD_eq λj hj=>?_
  rw [BitVec.getLsbD_and,hm,hn j hj,BitVec.getLsbD_shiftLeft,decide_eq_true hj,BitVec.getLsbD_one]
  by_cases h1:j<k
  ·rw [if_pos h1,decide_eq_false (show ¬k<=j by omega),decide_eq_true h1];rfl
  rw [if_neg h1,decide_eq_true (show k<=j by omega),decide_eq_false h1]
  by_cases M:j=k
  ·rw [if_pos M,if_pos M,decide_eq_true (show j - k=0 by omega)];rfl
  rw [if_neg M,if_neg M,decide_eq_false (show ¬j - k=0 by omega)]
  cases q.testBit (j - k - 1)<;>rfl
 rw [BitVec.getLsbD_and,hm,hp]
 by_cases h1:j<k
 ·rw [if_pos h1,decide_eq_false (show ¬k<=j by omega)];rfl
 rw [if_neg h1,decide_eq_true (show k<=j by omega)]
 by_cases M:j=k
 ·rw [if_pos M,if_pos M,decide_eq_false (show ¬j≠k from λhc=>hc M),Bool.and_false]
 rw [if_neg M,if_neg M,decide_eq_true M]
 cases q.testBit (j - k - 1)<;>rfl
theorem tz_pow:∀k:Fin 64,tzTab.getD (((1#64 <<< k.val)*285870213051353865#64) >>> (58:Int).toNat).toNat 0=(k.val:Int):=by decide+kernel
theorem tzB_eq(h:m≠0#64)(M:k<64)(he:m &&& (-m)=1#64 <<< k):tzB m=(k:Int):=by
 unfold tzB tzIx
 rw [if_neg h,he]
 exact tz_pow ⟨k,M⟩
def listN(m:BitVec 64):List Nat:=(List.range 64).filter λi=>m.getLsbD i
def eo(m:BitVec 64):List Int:=(listN m).map fun (i:Nat)=>(i:Int)
theorem listN_asc(m:BitVec 64):(listN m).Pairwise (· < ·):=(List.pairwise_lt_range).sublist List.filter_sublist
theorem mem_listN:i∈listN m↔m.getLsbD i=true:=by
 unfold listN
 rw [List.mem_filter,List.mem_range]
 exact ⟨λh=>h.2,λh=>⟨BitVec.lt_of_getLsbD h,h⟩⟩
theorem natLin:LinO (α:=Nat) (· < ·):=⟨Nat.lt_irrefl,λ_ _ _=>Nat.lt_trans,Nat.lt_trichotomy⟩
theorem listN_zero:listN 0#64=[]:=by
 unfold listN
 exact List.filter_eq_nil_iff.2 λi _=>by simp
theorem listN_step(h:m≠0#64):∃k:Nat,k<64/\tzB m=(k:Int)/\m.getLsbD k=true/\listN m=k::listN (m &&& (m - 1#64)):=by
 obtain ⟨k,hk,hb,hl,he,M⟩:=least_bit h
 refine ⟨k,hk,tzB_eq h hk he,hb,natLin.uniq (listN_asc m) (List.pairwise_cons.2 ⟨λj hj=>?_,listN_asc _⟩) λj=>?_⟩
 ·rw [mem_listN,M,Bool.and_eq_true,decide_eq_true_eq] at hj
  rcases Nat.lt_trichotomy j k with h1|h1|h1
  ·rw [hl j h1] at hj;cases hj.1
  ·exact absurd h1 hj.2
  exact h1
 rw [List.mem_cons,mem_listN,mem_listN,M,Bool.and_eq_true,decide_eq_true_eq]
 constructor
 ·intro h1
  by_cases h2:j=k
  ·exact .inl h2
  exact .inr ⟨h1,h2⟩
 rintro (rfl|⟨h1,_⟩)
 ·exact hb
 exact h1
theorem listB_zero:eo 0#64=[]:=by unfold eo;rw [listN_zero];rfl
theorem listB_step(h:m≠0#64):eo m=tzB m::eo (m &&& (m - 1#64)):=by
 obtain ⟨k,hk,M,_,he⟩:=listN_step h
 unfold eo
 rw [he,M];rfl
theorem tzB_range(h:m≠0#64):0<=tzB m/\tzB m<64/\m.getLsbD (tzB m).toNat=true:=by
 obtain ⟨k,hk,ht,M,_⟩:=listN_step h
 rw [ht];exact ⟨by omega,by omega,by rw [Int.toNat_natCast];exact M⟩
theorem listN_len(m:BitVec 64):(listN m).length<=64:=by
 unfold listN
 have:=List.length_filter_le (λi=>m.getLsbD i) (List.range 64)
 rwa [List.length_range] at this
theorem listB_len(m:BitVec 64):(eo m).length<=64:=by unfold eo;rw [List.length_map];exact listN_len m
theorem listB_less(h:m≠0#64):(eo (m &&& (m - 1#64))).length<(eo m).length:=by rw [listB_step h];exact Nat.lt_succ_self _
theorem mem_listB{x:Int}:x∈eo m↔0<=x/\m.getLsbD x.toNat=true:=by
 unfold eo
 rw [List.mem_map]
 constructor
 ·rintro ⟨i,hi,rfl⟩;exact ⟨by omega,by rw [Int.toNat_natCast];exact mem_listN.1 hi⟩
 rintro ⟨h1,M⟩;exact ⟨x.toNat,mem_listN.2 M,by omega⟩
theorem listB_asc(m:BitVec 64):(eo m).Pairwise (· < ·):=by
 unfold eo
 rw [List.pairwise_map]
 exact (listN_asc m).imp λh=>by omega
end Go.Sl
