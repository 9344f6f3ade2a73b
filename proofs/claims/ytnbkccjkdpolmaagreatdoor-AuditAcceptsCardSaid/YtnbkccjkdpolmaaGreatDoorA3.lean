/- A part of the proofs of statements of this seat: contracts of functions, and the plain laws that they lean on. No conditions. -/
import Derived.Test.YtnbkccjkdpolmaaGreatDoorA2
import Derived.Lib.Overlaps
import Derived.Lib.AppendZerosOnto
import Derived.Lib.SliceRun
set_option linter.unusedVariables false
set_option linter.unusedSimpArgs false
set_option linter.unusedSectionVars false
namespace Go.Sl
variable{E T b by' fuel j k s stop t:Nat}{M c0 c1 c2 c3 c4 c6 u v v0 v1 v2 v3 v4 v5:Value}{c x y:Operand}{ag:Bool}{cs vs z:List Value}{i:Int}
class TyI (P:Program) (T:TypeId) (r:outParam (Nat×Bool×Nat×List Value)):Prop where h:tyF P T=some r
class FldI (P:Program) (T k:Nat) (off:outParam Nat):Prop where h:fldF P T k=some off
class SlcI (P:Program) (T:TypeId) (E:outParam TypeId):Prop where h:P.underlying T=some (.slice E)
class StrI (P:Program) (T:TypeId):Prop where h:∃fs,P.underlying T=some (.struct fs)
class PlI (P:Program) (T:TypeId) (p:outParam (Array (Nat×Nat))):Prop where h:∀w:World,(placesRun P T).run P w = .ok p w
structure Wrap (p:Prop):Prop where h:p
section
variable {P:Program}{κ:Ctx}{N:Frm}{Q:Exit->Act->World->Prop}{L:Env}{I J:List Item}{ops:Array Oper}{o:Oper}{rest:List Oper}{q:Op}{ty:TypeId}{ps:String}{af:Array Edge}{gd:Option (Nat×Bool)}{d:Option Tmp}
theorem wOn{b:Bool}(M:o.guard=some (j,b))(hj:(ops[j]?).bind (·.dst)=some t)(hl:look L t=some v)(hv:v = .bool b:=by with_reducible rfl):Wanted N ops o L:=Wanted.on M hj (hl.trans (congrArg some hv))
theorem wOf(M:o.guard=some (j,true))(hj:(ops[j]?).bind (·.dst)=some t)(hl:look L t=some v)(hv:v = .bool false:=by with_reducible rfl):Unwanted N ops o L:=Unwanted.off M hj (hl.trans (congrArg some hv))
theorem wOg(M:o.guard=some (j,false))(hj:(ops[j]?).bind (·.dst)=some t)(hl:look L t=some v)(hv:v = .bool true:=by with_reducible rfl):Unwanted N ops o L:=Unwanted.off M hj (hl.trans (congrArg some hv))
theorem Rpt(hc:er L c=some u)(hx:er L x=some v)(M:u = .bool true:=by with_reducible rfl):Runs P κ N ⟨d,.pick c x y,ty,ps,af,gd⟩ L J v:=Runs.pickt (hc.trans (congrArg some M)) hx
theorem Rpf(hc:er L c=some u)(hx:er L y=some v)(M:u = .bool false:=by with_reducible rfl):Runs P κ N ⟨d,.pick c x y,ty,ps,af,gd⟩ L J v:=Runs.pickf (hc.trans (congrArg some M)) hx
theorem RnT{T:TypeId}(hx:er L x=some u)(M:u = .bool true:=by with_reducible rfl):Runs P κ N ⟨d,.unOp .not T x,ty,ps,af,gd⟩ L J (.bool false):=Runs.not (b:=true) (hx.trans (congrArg some M))
theorem RnF{T:TypeId}(hx:er L x=some u)(M:u = .bool false:=by with_reducible rfl):Runs P κ N ⟨d,.unOp .not T x,ty,ps,af,gd⟩ L J (.bool true):=Runs.not (b:=false) (hx.trans (congrArg some M))
theorem Ri{α:Type}[Enc α]{xs:List α}{y:Operand}{by':Nat}{ag:Bool}{z:List Value}{i:Int}[SlcI P T E]
  (hx:er L x=some v:=by exact rfl) (hv:Sl κ J v xs:=by first|exact Sl.o|exact Sl.f (by assumption)) (M:tyF P E=some (Enc.sz α,ag,by',z):=by exact TyI.h) (hy:er L y=some (e7 i):=by exact rfl) (h0:0<=i:=by omega) (hn:i<xs.length:=by first|omega|(simp only [List.length_set];omega)) :
  Runs P κ N ⟨d,.indexAddr T x y,ty,ps,af,gd⟩ L J (elemPtr v<|i.toNat*Enc.sz α):=Runs.idx SlcI.h M hx hy hv h0 hn
theorem Rlt{α:Type}[Enc α]{xs:List α}[SlcI P T E](M:er L x=some v:=by exact rfl)(hv:Sl κ J v xs:=by first|exact Sl.o|exact Sl.f (by assumption)) :
  Runs P κ N ⟨d,.call {callee:= .builtin .len,args:= #[x],argTypes:= #[T]},ty,ps,af,gd⟩ L J (e7 xs.length):=Runs.lenT SlcI.h M hv
theorem Rgi{xs:List Int}[TyI P T (s,false,by',z)](hx:er L x=some (elemPtr v (i.toNat*Enc.sz Int)):=by exact rfl)(M:Sl κ J v xs:=by first|exact Sl.o|exact Sl.f (by assumption))(h0:0<=i:=by omega)(hn:i<xs.length:=by first|omega|(simp only [List.length_set];omega)) :
  Runs P κ N ⟨d,.load T x,ty,ps,af,gd⟩ L J (e7<|e_ xs i):=Runs.get TyI.h hx M h0 hn
theorem RgB{xs:List Bool}[TyI P T (s,false,by',z)](hx:er L x=some (elemPtr v (i.toNat*Enc.sz Bool)):=by exact rfl)(M:Sl κ J v xs:=by first|exact Sl.o|exact Sl.f (by assumption))(h0:0<=i:=by omega)(hn:i<xs.length:=by first|omega|(simp only [List.length_set];omega)) :
  Runs P κ N ⟨d,.load T x,ty,ps,af,gd⟩ L J (.bool<|e_ xs i):=Runs.getB TyI.h hx M h0 hn
theorem Rgs{α:Type}[Enc α][Inhabited α]{xs:List α}[TyI P T (s,true,by',z)](hx:er L x=some (elemPtr v (i.toNat*Enc.sz α)):=by exact rfl)(hs:s=Enc.sz α:=by exact rfl)(M:Sl κ J v xs:=by first|exact Sl.o|exact Sl.f (by assumption))(h0:0<=i:=by omega)(hn:i<xs.length:=by first|omega|(simp only [List.length_set];omega)) :
  Runs P κ N ⟨d,.load T x,ty,ps,af,gd⟩ L J (.agg (Enc.enc<|e_ xs i).toArray):=Runs.gets (by rw [←hs];exact TyI.h) hx M h0 hn
theorem Rf{α:Type}[Enc α]{xs:List α}{off m:Nat}[FldI P T k off](hx:er L x=some (elemPtr v (m*Enc.sz α)):=by exact rfl)(M:Sl κ J v xs:=by first|exact Sl.o|exact Sl.f (by assumption))(hn:0<xs.length:=by first|omega|(simp only [List.length_set];omega)) :
  Runs P κ N ⟨d,.fieldAddr T x k,ty,ps,af,gd⟩ L J (elemPtr v<|m*Enc.sz α+off):=Runs.fld FldI.h hx M hn
theorem Rg0{α:Type}[Enc α][Inhabited α]{xs:List α}[TyI P T (s,false,by',z)](hx:er L x=some (elemPtr v (i.toNat*Enc.sz α)):=by exact rfl)(M:Sl κ J v xs:=by first|exact Sl.o|exact Sl.f (by assumption))(h0:0<=i:=by omega)(hn:i<xs.length:=by first|omega|(simp only [List.length_set];omega))(hu:(Enc.enc (e_ xs i))[0]? = some u:=by exact rfl) :
  Runs P κ N ⟨d,.load T x,ty,ps,af,gd⟩ L J u:=Runs.getf0 TyI.h hx M h0 hn hu
theorem Rgf{α:Type}[Enc α][Inhabited α]{xs:List α}[TyI P T (s,false,by',z)](hx:er L x=some (elemPtr v (i.toNat*Enc.sz α+j)):=by exact rfl)(M:Sl κ J v xs:=by first|exact Sl.o|exact Sl.f (by assumption))(h0:0<=i:=by omega)(hn:i<xs.length:=by first|omega|(simp only [List.length_set];omega))(hu:(Enc.enc (e_ xs i))[j]? = some u:=by exact rfl) :
  Runs P κ N ⟨d,.load T x,ty,ps,af,gd⟩ L J u:=Runs.getf TyI.h hx M h0 hn hu
theorem Rl2{o:Nat}[TyI P T (2,true,by',z)](hx:er L x=some (.pointer (some ⟨b,o,none⟩)):=by exact rfl)(hb:e8 b cs E∈J:=by repeat (first|exact List.mem_cons_self|apply List.mem_cons_of_mem))(hc:(cs.drop o).take 2=[v0,M]:=by exact rfl):Runs P κ N ⟨d,.load T x,ty,ps,af,gd⟩ L J (.agg #[v0,M]):=Runs.loads TyI.h hx hb hc rfl
theorem Rb2{parts:List (Nat×Operand)}{pl:Array (Nat×Nat)}[TyI P T (2,ag,by',z)][StrI P T][PlI P T pl](hp:evalL L (parts.map (·.2))=some vs:=by exact rfl)(hf:Instr.fill (pl[·]?) z.toArray ((parts.map (·.1)).zip vs)=some [M,c1].toArray:=by exact rfl):Runs P κ N ⟨d,.build T parts.toArray,ty,ps,af,gd⟩ L J (.agg #[M,c1]):=(StrI.h (P:=P) (T:=T)).elim λ_ hs=>Runs.build TyI.h hs PlI.h hp hf
theorem Rl3{o:Nat}[TyI P T (3,true,by',z)](hx:er L x=some (.pointer (some ⟨b,o,none⟩)):=by exact rfl)(hb:e8 b cs E∈J:=by repeat (first|exact List.mem_cons_self|apply List.mem_cons_of_mem))(hc:(cs.drop o).take 3=[v0,v1,M]:=by exact rfl):Runs P κ N ⟨d,.load T x,ty,ps,af,gd⟩ L J (.agg #[v0,v1,M]):=Runs.loads TyI.h hx hb hc rfl
theorem Rb3{parts:List (Nat×Operand)}{pl:Array (Nat×Nat)}[TyI P T (3,ag,by',z)][StrI P T][PlI P T pl](hp:evalL L (parts.map (·.2))=some vs:=by exact rfl)(hf:Instr.fill (pl[·]?) z.toArray ((parts.map (·.1)).zip vs)=some [M,c1,c2].toArray:=by exact rfl):Runs P κ N ⟨d,.build T parts.toArray,ty,ps,af,gd⟩ L J (.agg #[M,c1,c2]):=(StrI.h (P:=P) (T:=T)).elim λ_ hs=>Runs.build TyI.h hs PlI.h hp hf
theorem Rl4{o:Nat}[TyI P T (4,true,by',z)](hx:er L x=some (.pointer (some ⟨b,o,none⟩)):=by exact rfl)(hb:e8 b cs E∈J:=by repeat (first|exact List.mem_cons_self|apply List.mem_cons_of_mem))(hc:(cs.drop o).take 4=[v0,v1,M,v3]:=by exact rfl):Runs P κ N ⟨d,.load T x,ty,ps,af,gd⟩ L J (.agg #[v0,v1,M,v3]):=Runs.loads TyI.h hx hb hc rfl
theorem Rl5{o:Nat}[TyI P T (5,true,by',z)](hx:er L x=some (.pointer (some ⟨b,o,none⟩)):=by exact rfl)(hb:e8 b cs E∈J:=by repeat (first|exact List.mem_cons_self|apply List.mem_cons_of_mem))(hc:(cs.drop o).take 5=[v0,v1,M,v3,v4]:=by exact rfl):Runs P κ N ⟨d,.load T x,ty,ps,af,gd⟩ L J (.agg #[v0,v1,M,v3,v4]):=Runs.loads TyI.h hx hb hc rfl
theorem Rb5{parts:List (Nat×Operand)}{pl:Array (Nat×Nat)}[TyI P T (5,ag,by',z)][StrI P T][PlI P T pl](hp:evalL L (parts.map (·.2))=some vs:=by exact rfl)(hf:Instr.fill (pl[·]?) z.toArray ((parts.map (·.1)).zip vs)=some [c0,c1,c2,c3,M].toArray:=by exact rfl):Runs P κ N ⟨d,.build T parts.toArray,ty,ps,af,gd⟩ L J (.agg #[c0,c1,c2,c3,M]):=(StrI.h (P:=P) (T:=T)).elim λ_ hs=>Runs.build TyI.h hs PlI.h hp hf
theorem Rl6{o:Nat}[TyI P T (6,true,by',z)](hx:er L x=some (.pointer (some ⟨b,o,none⟩)):=by exact rfl)(hb:e8 b cs E∈J:=by repeat (first|exact List.mem_cons_self|apply List.mem_cons_of_mem))(hc:(cs.drop o).take 6=[v0,v1,M,v3,v4,v5]:=by exact rfl):Runs P κ N ⟨d,.load T x,ty,ps,af,gd⟩ L J (.agg #[v0,v1,M,v3,v4,v5]):=Runs.loads TyI.h hx hb hc rfl
theorem Rb6{parts:List (Nat×Operand)}{pl:Array (Nat×Nat)}[TyI P T (6,ag,by',z)][StrI P T][PlI P T pl](hp:evalL L (parts.map (·.2))=some vs:=by exact rfl)(hf:Instr.fill (pl[·]?) z.toArray ((parts.map (·.1)).zip vs)=some [c0,c1,c2,c3,c4,M].toArray:=by exact rfl):Runs P κ N ⟨d,.build T parts.toArray,ty,ps,af,gd⟩ L J (.agg #[c0,c1,c2,c3,c4,M]):=(StrI.h (P:=P) (T:=T)).elim λ_ hs=>Runs.build TyI.h hs PlI.h hp hf
theorem Rl7{o:Nat}[TyI P T (7,true,by',z)](hx:er L x=some (.pointer (some ⟨b,o,none⟩)):=by exact rfl)(hb:e8 b cs E∈J:=by repeat (first|exact List.mem_cons_self|apply List.mem_cons_of_mem))(hc:(cs.drop o).take 7=[v0,v1,v2,v3,v4,v5,M]:=by exact rfl):Runs P κ N ⟨d,.load T x,ty,ps,af,gd⟩ L J (.agg #[v0,v1,v2,v3,v4,v5,M]):=Runs.loads TyI.h hx hb hc rfl
theorem Rb7{parts:List (Nat×Operand)}{pl:Array (Nat×Nat)}[TyI P T (7,ag,by',z)][StrI P T][PlI P T pl](hp:evalL L (parts.map (·.2))=some vs:=by exact rfl)(hf:Instr.fill (pl[·]?) z.toArray ((parts.map (·.1)).zip vs)=some [c0,c1,c2,c3,c4,M,c6].toArray:=by exact rfl):Runs P κ N ⟨d,.build T parts.toArray,ty,ps,af,gd⟩ L J (.agg #[c0,c1,c2,c3,c4,M,c6]):=(StrI.h (P:=P) (T:=T)).elim λ_ hs=>Runs.build TyI.h hs PlI.h hp hf
theorem Rl11{o:Nat}{v6 v7 v8 v9:Value}[TyI P T (11,true,by',z)](hx:er L x=some (.pointer (some ⟨b,o,none⟩)):=by exact rfl)(hb:e8 b cs E∈J:=by repeat (first|exact List.mem_cons_self|apply List.mem_cons_of_mem))(hc:(cs.drop o).take 11=[v0,v1,v2,v3,v4,v5,v6,v7,v8,v9,M]:=by exact rfl):Runs P κ N ⟨d,.load T x,ty,ps,af,gd⟩ L J (.agg #[v0,v1,v2,v3,v4,v5,v6,v7,v8,v9,M]):=Runs.loads TyI.h hx hb hc rfl
theorem Rb11{c5 c7 c8 c9 c10:Value}{parts:List (Nat×Operand)}{pl:Array (Nat×Nat)}[TyI P T (11,ag,by',z)][StrI P T][PlI P T pl](hp:evalL L (parts.map (·.2))=some vs:=by exact rfl)(hf:Instr.fill (pl[·]?) z.toArray ((parts.map (·.1)).zip vs)=some [M,c1,c2,c3,c4,c5,c6,c7,c8,c9,c10].toArray:=by exact rfl):Runs P κ N ⟨d,.build T parts.toArray,ty,ps,af,gd⟩ L J (.agg #[M,c1,c2,c3,c4,c5,c6,c7,c8,c9,c10]):=(StrI.h (P:=P) (T:=T)).elim λ_ hs=>Runs.build TyI.h hs PlI.h hp hf
theorem kMov{d:Option Tmp}{ty:TypeId}{ps:String}{af:Array Edge}{gd:Option (Nat×Bool)}(ho:o=⟨d,.move x,ty,ps,af,gd⟩:=by with_reducible exact rfl)(h:Runs P κ N ⟨d,.move x,ty,ps,af,gd⟩ L J v:=by first|exact Runs.move rfl):Runs P κ N o L J v:=ho▸h
theorem kAsg{d:Option Tmp}{ty:TypeId}{ps:String}{af:Array Edge}{gd:Option (Nat×Bool)}(ho:o=⟨d,.assign x,ty,ps,af,gd⟩:=by with_reducible exact rfl)(h:Runs P κ N ⟨d,.assign x,ty,ps,af,gd⟩ L J v:=by first|exact Runs.assign rfl):Runs P κ N o L J v:=ho▸h
theorem kPick{d:Option Tmp}{ty:TypeId}{ps:String}{af:Array Edge}{gd:Option (Nat×Bool)}(ho:o=⟨d,.pick c x y,ty,ps,af,gd⟩:=by with_reducible exact rfl)(h:Runs P κ N ⟨d,.pick c x y,ty,ps,af,gd⟩ L J v:=by first|exact Rpf rfl rfl|exact Rpt rfl rfl):Runs P κ N o L J v:=ho▸h
theorem kFld{d:Option Tmp}{ty:TypeId}{ps:String}{af:Array Edge}{gd:Option (Nat×Bool)}(ho:o=⟨d,.fieldAddr T x k,ty,ps,af,gd⟩:=by with_reducible exact rfl)(h:Runs P κ N ⟨d,.fieldAddr T x k,ty,ps,af,gd⟩ L J v:=by first|exact Runs.fieldAddr FldI.h rfl|exact Rf):Runs P κ N o L J v:=ho▸h
theorem kLd{d:Option Tmp}{ty:TypeId}{ps:String}{af:Array Edge}{gd:Option (Nat×Bool)}(ho:o=⟨d,.load T x,ty,ps,af,gd⟩:=by with_reducible exact rfl)(h:Runs P κ N ⟨d,.load T x,ty,ps,af,gd⟩ L J v:=by first|exact Runs.ld TyI.h|exact Rgi|exact Rl2|exact Rl3|exact Rl4|exact Rl5|exact Rl6|exact Rl7|exact Rl8|exact Rl11|exact Rgs|exact Rgf|exact RgB|exact Rg0):Runs P κ N o L J v:=ho▸h
theorem kExt{d:Option Tmp}{ty:TypeId}{ps:String}{af:Array Edge}{gd:Option (Nat×Bool)}(ho:o=⟨d,.extract x k,ty,ps,af,gd⟩:=by with_reducible exact rfl)(h:Runs P κ N ⟨d,.extract x k,ty,ps,af,gd⟩ L J v:=by first|exact Runs.extract rfl rfl):Runs P κ N o L J v:=ho▸h
theorem kIdx{d:Option Tmp}{ty:TypeId}{ps:String}{af:Array Edge}{gd:Option (Nat×Bool)}(ho:o=⟨d,.indexAddr T x y,ty,ps,af,gd⟩:=by with_reducible exact rfl)(h:Runs P κ N ⟨d,.indexAddr T x y,ty,ps,af,gd⟩ L J v:=by first|exact Ri):Runs P κ N o L J v:=ho▸h
theorem kCal{d:Option Tmp}{ty:TypeId}{ps:String}{af:Array Edge}{gd:Option (Nat×Bool)}{c:Go.Call}(ho:o=⟨d,.call c,ty,ps,af,gd⟩:=by with_reducible exact rfl)(h:Runs P κ N ⟨d,.call c,ty,ps,af,gd⟩ L J v:=by first|exact Runs.lens SlcI.h rfl|exact Rlt|exact Runs.min rfl rfl|exact Runs.max rfl rfl):Runs P κ N o L J v:=ho▸h
theorem kBin{d:Option Tmp}{ty:TypeId}{ps:String}{af:Array Edge}{gd:Option (Nat×Bool)}{b:BinOp}{U:Nat}(ho:o=⟨d,.binOp b T x y U,ty,ps,af,gd⟩:=by with_reducible exact rfl)(h:Runs P κ N ⟨d,.binOp b T x y U,ty,ps,af,gd⟩ L J v:=by first|exact Runs.lss rfl rfl|exact Runs.neq rfl rfl|exact Runs.eql rfl rfl|exact Runs.gtr rfl rfl|exact Runs.geq rfl rfl|exact Runs.leq rfl rfl|exact Rad rfl rfl|exact Rsu rfl rfl):Runs P κ N o L J v:=ho▸h
theorem kUn{d:Option Tmp}{ty:TypeId}{ps:String}{af:Array Edge}{gd:Option (Nat×Bool)}{b:UnOp}(ho:o=⟨d,.unOp b T x,ty,ps,af,gd⟩:=by with_reducible exact rfl)(h:Runs P κ N ⟨d,.unOp b T x,ty,ps,af,gd⟩ L J v:=by first|exact RnT rfl|exact RnF rfl|exact Runs.notd rfl|exact Runs.not rfl):Runs P κ N o L J v:=ho▸h
theorem kNil{d:Option Tmp}{ty:TypeId}{ps:String}{af:Array Edge}{gd:Option (Nat×Bool)}(ho:o=⟨d,.nilCheck x,ty,ps,af,gd⟩:=by with_reducible exact rfl)(h:Runs P κ N ⟨d,.nilCheck x,ty,ps,af,gd⟩ L J v:=by first|exact Runs.nilCheck rfl):Runs P κ N o L J v:=ho▸h
theorem kBld{d:Option Tmp}{ty:TypeId}{ps:String}{af:Array Edge}{gd:Option (Nat×Bool)}{a:Array (Nat×Operand)}(ho:o=⟨d,.build T a,ty,ps,af,gd⟩:=by with_reducible exact rfl)(h:Runs P κ N ⟨d,.build T a,ty,ps,af,gd⟩ L J v:=by first|exact Rb2|exact Rb3|exact Rb4|exact Rb5|exact Rb6|exact Rb7|exact Rb8|exact Rb11):Runs P κ N o L J v:=ho▸h
theorem Rn(h:Runs P κ N o L J v:=by first|exact kMov|exact kAsg|exact kPick|exact kFld|exact kLd|exact kExt|exact kIdx|exact kCal|exact kBin|exact kUn|exact kNil|exact kBld):Runs P κ N o L J v:=h
theorem wA(h:Wanted N ops o L:=by first|exact Wanted.plain rfl|exact wOn rfl rfl rfl):Wanted N ops o L:=h
theorem uA(h:Unwanted N ops o L:=by first|exact Unwanted.und rfl rfl rfl|exact wOf rfl rfl rfl|exact wOg rfl rfl rfl):Unwanted N ops o L:=h
theorem Gx{d:Nat}(h:G P κ N ops Q rest ((d,v)::L) I)(M:Wanted N ops ⟨some d,q,ty,ps,af,gd⟩ L:=by exact wA)(hr:Runs P κ N ⟨some d,q,ty,ps,af,gd⟩ L I v:=by exact Rn)(hN:Nat.blt d N.n=true:=by exact rfl):G P κ N ops Q (⟨some d,q,ty,ps,af,gd⟩::rest) L I:=G.read M rfl hN hr h
theorem Gy{d:Nat}{r:Nat×Bool}(h:G P κ N ops Q rest ((d,undef)::L) I)(M:Unwanted N ops ⟨some d,q,ty,ps,af,some r⟩ L:=by exact uA)(hN:Nat.blt d N.n=true:=by exact rfl):G P κ N ops Q (⟨some d,q,ty,ps,af,some r⟩::rest) L I:=G.pass M rfl hN h
theorem Wy{x y:Code}(hc:er L c=some u)(h:W P κ N x Q L I)(M:u = .bool true:=by with_reducible rfl):W P κ N (.cond c x y) Q L I:=W.yes (hc.trans (congrArg some M)) h
theorem Wno{x y:Code}(hc:er L c=some u)(h:W P κ N y Q L I)(M:u = .bool false:=by with_reducible rfl):W P κ N (.cond c x y) Q L I:=W.no (hc.trans (congrArg some M)) h
def chkD(ops:Array Oper)(listed:Array Bool)(stop i:Nat):Bool:=Region.noSelect ops&&Region.free .any ops listed i&&(Region.ready .any ops listed).contains i && !Nat.beq i stop&&waitsFor .any ops stop i
theorem chkO{M:Array Bool}{i:Nat}(h:chkD ops M stop i=true):Region.noSelect ops=true/\Region.free .any ops M i=true/\(Region.ready .any ops M).contains i=true/\Nat.beq i stop=false/\waitsFor .any ops stop i=true:=by
 unfold chkD at h
 simp only [Bool.and_eq_true,Bool.not_eq_true'] at h
 exact ⟨h.1.1.1.1,h.1.1.1.2,h.1.1.2,h.1.2,h.2⟩
theorem fitJ(M:Fit κ I J:=by first|((repeat (first|exact Fit.refl _|apply Fit.tail|exact Fit.appR _ _|apply Fit.appL));done)|(refine Fit.of_sublist ?_;(repeat (first|exact List.Sublist.refl _|apply List.Sublist.cons_cons|apply List.Sublist.cons|exact List.sublist_append_right _ _));done)|(refine Fit.sp ?_;(repeat (first|exact Sp.refl _|refine Sp.pick (by repeat (first|exact Pick.head _ _|apply Pick.tail|apply Pick.app)) ?_|apply Sp.skip|exact Sp.appR _ _));done)):Fit κ I J:=M
theorem Dx{M:Array Bool}{d:Nat}(i:Nat)(h:D P κ N ops Q J stop fuel (M.setIfInBounds i true) ((d,v)::L) I)(hi:ops[i]? = some ⟨some d,q,ty,ps,af,gd⟩:=by exact rfl)(hc:chkD ops M stop i=true:=by decide+kernel)(hw:Wanted N ops ⟨some d,q,ty,ps,af,gd⟩ L:=by exact wA)(aa:Runs P κ N ⟨some d,q,ty,ps,af,gd⟩ L J v:=by exact Rn)
  (hN:Nat.blt d N.n=true:=by exact rfl) (hQ:∀c a u w,Q (.panic c) (a.put (some d) u) w->Q (.panic c) a w:=by exact λ_ _ _ _ h=>h) (hJ:Fit κ I J:=by exact fitJ):D P κ N ops Q J stop (fuel+1) M L I:=D.read i hi (chkO hc).1 (chkO hc).2.1 (chkO hc).2.2.1 (chkO hc).2.2.2.1 (chkO hc).2.2.2.2 hQ hw rfl hN hJ aa h
theorem Dy{M:Array Bool}{d:Nat}(i:Nat)(h:D P κ N ops Q J stop fuel (M.setIfInBounds i true) ((d,undef)::L) I)(hi:ops[i]? = some ⟨some d,q,ty,ps,af,gd⟩:=by exact rfl)(hc:chkD ops M stop i=true:=by decide+kernel)(hw:Unwanted N ops ⟨some d,q,ty,ps,af,gd⟩ L:=by exact uA)
  (hN:Nat.blt d N.n=true:=by exact rfl) (hQ:∀c a u w,Q (.panic c) (a.put (some d) u) w->Q (.panic c) a w:=by exact λ_ _ _ _ h=>h) (hJ:Fit κ I J:=by exact fitJ):D P κ N ops Q J stop (fuel+1) M L I:=D.pass i hi (chkO hc).1 (chkO hc).2.1 (chkO hc).2.2.1 (chkO hc).2.2.2.1 (chkO hc).2.2.2.2 hQ hw rfl hN hJ h
theorem Dw{M:Array Bool}(h:V κ N Q .normal L I)(hr:(Region.ready .any ops M).isEmpty=true:=by decide+kernel):D P κ N ops Q J stop fuel M L I:=D.done (List.isEmpty_iff.1 hr) h
theorem Dx1{M:Array Bool}{d:Nat}(h:D P κ N ops Q J stop fuel ((M.setIfInBounds j true).setIfInBounds (j+1) true) ((d,v)::L) I)(hi:ops[j+1]? = some ⟨some d,q,ty,ps,af,gd⟩:=by exact rfl)(hc:chkD ops (M.setIfInBounds j true) stop (j+1)=true:=by decide+kernel)(hw:Wanted N ops ⟨some d,q,ty,ps,af,gd⟩ L:=by exact wA)(aa:Runs P κ N ⟨some d,q,ty,ps,af,gd⟩ L J v:=by exact Rn) 
  (hN:Nat.blt d N.n=true:=by exact rfl) (hQ:∀c a u w,Q (.panic c) (a.put (some d) u) w->Q (.panic c) a w:=by exact λ_ _ _ _ h=>h) (hJ:Fit κ I J:=by exact fitJ):D P κ N ops Q J stop (fuel+1) (M.setIfInBounds j true) L I:=Dx (j+1) h hi hc hw aa hN hQ hJ
theorem Dy1{M:Array Bool}{d:Nat}(h:D P κ N ops Q J stop fuel ((M.setIfInBounds j true).setIfInBounds (j+1) true) ((d,undef)::L) I)(hi:ops[j+1]? = some ⟨some d,q,ty,ps,af,gd⟩:=by exact rfl)(hc:chkD ops (M.setIfInBounds j true) stop (j+1)=true:=by decide+kernel)(hw:Unwanted N ops ⟨some d,q,ty,ps,af,gd⟩ L:=by exact uA) 
  (hN:Nat.blt d N.n=true:=by exact rfl) (hQ:∀c a u w,Q (.panic c) (a.put (some d) u) w->Q (.panic c) a w:=by exact λ_ _ _ _ h=>h) (hJ:Fit κ I J:=by exact fitJ):D P κ N ops Q J stop (fuel+1) (M.setIfInBounds j true) L I:=Dy (j+1) h hi hc hw hN hQ hJ
theorem Dx2{M:Array Bool}{d:Nat}(h:D P κ N ops Q J stop fuel ((M.setIfInBounds j true).setIfInBounds (j+2) true) ((d,v)::L) I)(hi:ops[j+2]? = some ⟨some d,q,ty,ps,af,gd⟩:=by exact rfl)(hc:chkD ops (M.setIfInBounds j true) stop (j+2)=true:=by decide+kernel)(hw:Wanted N ops ⟨some d,q,ty,ps,af,gd⟩ L:=by exact wA)(aa:Runs P κ N ⟨some d,q,ty,ps,af,gd⟩ L J v:=by exact Rn) 
  (hN:Nat.blt d N.n=true:=by exact rfl) (hQ:∀c a u w,Q (.panic c) (a.put (some d) u) w->Q (.panic c) a w:=by exact λ_ _ _ _ h=>h) (hJ:Fit κ I J:=by exact fitJ):D P κ N ops Q J stop (fuel+1) (M.setIfInBounds j true) L I:=Dx (j+2) h hi hc hw aa hN hQ hJ
theorem Dy2{M:Array Bool}{d:Nat}(h:D P κ N ops Q J stop fuel ((M.setIfInBounds j true).setIfInBounds (j+2) true) ((d,undef)::L) I)(hi:ops[j+2]? = some ⟨some d,q,ty,ps,af,gd⟩:=by exact rfl)(hc:chkD ops (M.setIfInBounds j true) stop (j+2)=true:=by decide+kernel)(hw:Unwanted N ops ⟨some d,q,ty,ps,af,gd⟩ L:=by exact uA) 
  (hN:Nat.blt d N.n=true:=by exact rfl) (hQ:∀c a u w,Q (.panic c) (a.put (some d) u) w->Q (.panic c) a w:=by exact λ_ _ _ _ h=>h) (hJ:Fit κ I J:=by exact fitJ):D P κ N ops Q J stop (fuel+1) (M.setIfInBounds j true) L I:=Dy (j+2) h hi hc hw hN hQ hJ
theorem Dx3{M:Array Bool}{d:Nat}(h:D P κ N ops Q J stop fuel ((M.setIfInBounds j true).setIfInBounds (j+3) true) ((d,v)::L) I)(hi:ops[j+3]? = some ⟨some d,q,ty,ps,af,gd⟩:=by exact rfl)(hc:chkD ops (M.setIfInBounds j true) stop (j+3)=true:=by decide+kernel)(hw:Wanted N ops ⟨some d,q,ty,ps,af,gd⟩ L:=by exact wA)(aa:Runs P κ N ⟨some d,q,ty,ps,af,gd⟩ L J v:=by exact Rn) 
  (hN:Nat.blt d N.n=true:=by exact rfl) (hQ:∀c a u w,Q (.panic c) (a.put (some d) u) w->Q (.panic c) a w:=by exact λ_ _ _ _ h=>h) (hJ:Fit κ I J:=by exact fitJ):D P κ N ops Q J stop (fuel+1) (M.setIfInBounds j true) L I:=Dx (j+3) h hi hc hw aa hN hQ hJ
theorem Dx0{n:Nat}{d:Nat}(h:D P κ N ops Q J stop fuel ((Array.replicate n false).setIfInBounds 0 true) ((d,v)::L) I)(hi:ops[0]? = some ⟨some d,q,ty,ps,af,gd⟩:=by exact rfl)(hc:chkD ops (Array.replicate n false) stop 0=true:=by decide+kernel)(hw:Wanted N ops ⟨some d,q,ty,ps,af,gd⟩ L:=by exact wA)(M:Runs P κ N ⟨some d,q,ty,ps,af,gd⟩ L J v:=by exact Rn)
  (hN:Nat.blt d N.n=true:=by exact rfl) (hQ:∀c a u w,Q (.panic c) (a.put (some d) u) w->Q (.panic c) a w:=by exact λ_ _ _ _ h=>h) (hJ:Fit κ I J:=by exact fitJ):D P κ N ops Q J stop (fuel+1) (Array.replicate n false) L I:=Dx 0 h hi hc hw M hN hQ hJ
def cat{α:Type}:List α->List α->List α
 |[],m=>m
 |x::l,m=>x::cat l m
def setsC:Code->Nat->Bool
 | .seq a b,k=>setsC a k||setsC b k
 | .cond _ a b,k=>setsC a k||setsC b k
 | .block _ c,k=>setsC c k
 | .loop c,k=>setsC c k
 | .scope c,k=>setsC c k
 | .region _ l _,k=>l.toList.any λo=>match o.dst with |some d=>Nat.beq d k|none=>false
 |_,_=>false
inductive Kp (c:Code) (E:List Nat):List Nat->Env->Env->Prop
 |nil (s:List Nat):Kp c E s [] []
 |keep {s:List Nat} {k:Nat} {v:Value} {L L':Env} (h:((!(setsC c k)||E.contains k) && !s.contains k)=true) (t:Kp c E (k::s) L L'):Kp c E s ((k,v)::L) ((k,v)::L')
 |drop {s:List Nat} {k:Nat} {v:Value} {L L':Env} (t:Kp c E (k::s) L L'):Kp c E s ((k,v)::L) L'
theorem Kp.get{c:Code}{E s:List Nat}{L L':Env}(h:Kp c E s L L'):∀p∈L',look L p.1=some p.2/\p.1∉s:=by
 induction h with
 |nil s=>intro p hp;cases hp
 | @keep s k v L L' h t ih=>
  intro p hp
  simp only [Bool.and_eq_true,Bool.not_eq_true'] at h
  rcases List.mem_cons.1 hp with rfl|hp
  ·exact ⟨by rw [look_cons,if_pos rfl],by have:=h.2;simpa using this⟩
  have:=ih p hp
  simp only [List.mem_cons,not_or] at this
  exact ⟨by rw [look_cons,if_neg<|λe=>this.2.1 e.symm];exact this.1,this.2.2⟩
 | @drop s k v L L' t ih=>
  intro p hp
  have:=ih p hp
  simp only [List.mem_cons,not_or] at this
  exact ⟨by rw [look_cons,if_neg<|λe=>this.2.1 e.symm];exact this.1,this.2.2⟩
theorem Sub.of{L:Env}:∀{L':Env},(∀p∈L',look L p.1=some p.2)->Sub L L'
 |[],_=>Sub.nil
 |(k,v)::L',h=>Sub.cons (h (k,v) List.mem_cons_self) (Sub.of λp M=>h p<|List.mem_cons_of_mem _ M)
theorem Sub.cat{L L1 L2:Env}(M:Sub L L1)(h2:Sub L L2):Sub L (cat L1 L2):=by
 induction L1 with
 |nil=>exact h2
 |cons x l ih=>exact ⟨M.1,ih M.2⟩
theorem W.lq{c:Code}{σ:Type}{Lk:Env}{X:σ->Prop}(f:σ->Env)(F:σ->List Item)(p:σ->Prop)(μ:σ->Nat)(s0:σ)(hp:p s0)(M:∀s,p s->X s)
  (E:List Nat:=[]) (hk:Kp c E [] L Lk:=by repeat (first|exact Kp.nil _|(apply Kp.keep;decide+kernel)|apply Kp.drop))
  (hL:Sub L (f s0):=by (try dsimp only);repeat (first|exact Sub.nil|refine Sub.cons rfl ?_|refine Sub.cons lookO ?_|refine Sub.cons (lookV rfl<|by first|rfl|simp) ?_)) (hI:Fit κ I (Sl.cat (F s0) J):=by dsimp only [Sl.cat];exact Fit.s)
  (hX:∀s,Wrap (X s)->W P κ N c (Exit.then (LoopK κ N (λs=>Sl.cat (f s) Lk) (λs=>Sl.cat (F s) J) p μ s) Q) (Sl.cat (f s) Lk) (Sl.cat (F s) J):=by intro s h;dsimp only [Sl.cat];exact h.h):W P κ N (.loop c) Q L I:=
 W.loop (λs=>Sl.cat (f s) Lk) (λs=>Sl.cat (F s) J) p μ s0 hp (Sub.cat hL<|Sub.of λq hq=>(hk.get q hq).1) hI λs h=>hX s ⟨M s h⟩
theorem hdG(h:G P κ N ops Q rest L I):G P κ N ops Q rest L I:=h
theorem hdD{M:Array Bool}(h:D P κ N ops Q J stop fuel M L I):D P κ N ops Q J stop fuel M L I:=h
theorem hdW{c:Code}(h:W P κ N c Q L I):W P κ N c Q L I:=h
theorem hdC{x y:Code}(h:W P κ N (.cond c x y) Q L I):W P κ N (.cond c x y) Q L I:=h
theorem hdV{e:Exit}(h:V κ N Q e L I):V κ N Q e L I:=h
end
theorem Z{P Q:Prop}(q:Q) (h:Wrap Q->P:=by
 intro q
 repeat (first
  |(apply hdG;first|apply G.nt|refine Gx ?_|refine Gy ?_|apply G.nil)
  |(apply hdW;first|apply W.sr|apply W.seq|apply W.block|apply W.skip|apply W.region|apply W.ret|apply W.exit|(apply hdC;first|refine Wy rfl ?_|refine Wno rfl ?_))
  |(apply hdV;first|apply V.then|apply V.then_exit|apply V.then_ret|apply V.block_ret|apply V.block_hit|apply V.block_normal|refine V.block_miss rfl ?_)
  |(apply hdD;first|refine Dx1 ?_|refine Dx0 ?_|refine Dy1 ?_|refine Dx2 ?_|refine Dy2 ?_|refine Dx3 ?_|refine Dy3 ?_|refine Dw ?_))
 exact q.h):P:=h ⟨q⟩
end Go.Sl
namespace Go.Sl
section
variable {P:Program}{κ:Ctx}{N:Frm}{Q:Exit->Act->World->Prop}{L:Env}{I:List Item}{ops:Array Oper}
theorem A.ho{fuel:Nat}{M:Array Bool}(stop:Nat)(h:D P κ N ops Q I stop fuel M L I):A P κ N ops Q fuel M L I:=A.hold I stop h
end
end Go.Sl
namespace Go.Sl
section
variable {α:Type}[Inhabited α]
theorem at_nat(xs:List α)(k:Nat):e_ xs k=xs.getD k default:=by simp [e_]
theorem at_get(xs:List α)(k:Nat)(h:k<xs.length):e_ xs k=xs[k]:=by simp [e_,h]
theorem at_mem{xs:List α}{i:Int}(M:0<=i)(h:i<xs.length):e_ xs i∈xs:=by
 rw [at_eq M h];exact List.getElem_mem _
theorem take_at(xs:List α)(k:Nat)(h:k<xs.length):xs.take (k+1)=xs.take k++[e_ xs k]:=by
 rw [at_get xs k h,List.take_succ_eq_append_getElem h]
theorem mem_at{xs:List α}{x:α}(h:x∈xs):∃k,k<xs.length/\e_ xs k=x:=by
 obtain ⟨k,M,he⟩:=List.mem_iff_getElem.1 h
 exact ⟨k,M,by rw [at_get xs k M,he]⟩
theorem not_mem_at{xs:List α}{x:α}{k:Nat}(h:∀j,j<k->e_ xs j≠x)(hk:xs.length<=k):x∉xs:=λM=>by
 obtain ⟨j,hj,he⟩:=mem_at M
 exact h j (by omega) he
theorem at_set(xs:List α)(i j:Int)(v:α)(hi:0<=i)(hj:0<=j)(M:i<xs.length):e_ (xs.set i.toNat v) j=if i=j then v else e_ xs j:=by
 unfold e_
 by_cases h:i=j
 ·subst h
  have:i.toNat<xs.length:=by omega
  simp [List.getD_eq_getElem?_getD,this]
 have:i.toNat≠j.toNat:=by omega
 simp [List.getD_eq_getElem?_getD,h,List.getElem?_set_ne this]
theorem at_setn(xs:List α)(k j:Nat)(v:α)(M:k<xs.length):e_ (xs.set k v) j=if k=j then v else e_ xs j:=by
 have:=at_set xs (k:Int) (j:Int) v (by omega) (by omega) (by omega)
 rw [Int.toNat_natCast] at this
 rw [this]
 by_cases h:k=j
 ·simp [h]
 rw [if_neg (show ¬(k:Int)=(j:Int) by omega),if_neg h]
theorem at_append_left(xs ys:List α)(k:Nat)(h:k<xs.length):e_ (xs++ys) k=e_ xs k:=by
 rw [at_get _ k (by simp;omega),at_get _ k h,List.getElem_append_left h]
theorem at_last(xs:List α)(y:α):e_ (xs++[y]) xs.length=y:=by
 rw [at_get _ _ (by simp)];simp
theorem at_rep(n:Nat)(i:Int)(d:α)(M:0<=i)(h:i<n):e_ (List.replicate n d) i=d:=by
 rw [at_eq M (by simpa using h)];simp
theorem eq_rep{xs:List α}{d:α}(h:∀j,j<xs.length->e_ xs j=d):xs=List.replicate xs.length d:=by
 refine List.ext_getElem (by simp) λj M h2=>?_
 have:=h j M
 rw [at_get xs j M] at this
 simp [this]
theorem drop_at(xs:List α)(k:Nat)(h:k<xs.length):xs.drop k=e_ xs k::xs.drop (k+1):=by
 rw [at_get xs k h,List.drop_eq_getElem_cons h]
end
theorem all_succ{p:Nat->Prop}{k:Nat}(h:∀j,j<k->p j)(hk:p k):∀j,j<k+1->p j:=λj hj=>by
 rcases Nat.lt_succ_iff_lt_or_eq.1 hj with M|M
 ·exact h j M
 subst M;exact hk
theorem all_zero{p:Nat->Prop}:∀j,j<0->p j:=λj hj=>absurd hj (Nat.not_lt_zero j)
end Go.Sl
namespace Go.Sl
structure LinO {α:Type} (lt:α->α->Prop):Prop where
 irr:∀a,¬lt a a
 tr:∀a b c,lt a b->lt b c->lt a c
 tri:∀a b,lt a b\/a=b\/lt b a
section
variable {α:Type}{lt:α->α->Prop}
theorem LinO.asymm(h:LinO lt){a b:α}(h1:lt a b):¬lt b a:=λM=>h.irr a (h.tr a b a h1 M)
theorem LinO.ne(h:LinO lt){a b:α}(M:lt a b):a≠b:=λe=>by subst e;exact h.irr a M
theorem LinO.uniq(h:LinO lt):∀{l m:List α},l.Pairwise lt->m.Pairwise lt->(∀x,x∈l↔x∈m)->l=m
 |[],[],_,_,_=>rfl
 |[],y::ys,_,_,e=>absurd ((e y).2 List.mem_cons_self) (by simp)
 |x::xs,[],_,_,e=>absurd ((e x).1 List.mem_cons_self) (by simp)
 |x::xs,y::ys,hl,hm,e=>by
  obtain ⟨aa,ad⟩:=List.pairwise_cons.1 hl
  obtain ⟨M,ae⟩:=List.pairwise_cons.1 hm
  have ab:x=y:=by
   rcases List.mem_cons.1 ((e x).1 List.mem_cons_self) with h1|h1
   ·exact h1
   rcases List.mem_cons.1 ((e y).2 List.mem_cons_self) with h2|h2
   ·exact h2.symm
   exact absurd (aa y h2)<|h.asymm<|M x h1
  subst ab
  rw [h.uniq ad ae λz=>?_]
  constructor
  ·intro hz
   rcases List.mem_cons.1 ((e z).1 (List.mem_cons_of_mem _ hz)) with h1|h1
   ·subst h1;exact absurd (aa z hz) (h.irr z)
   exact h1
  intro hz
  rcases List.mem_cons.1 ((e z).2 (List.mem_cons_of_mem _ hz)) with h1|h1
  ·subst h1;exact absurd (M z hz) (h.irr z)
  exact h1
variable [DecidableRel lt][DecidableEq α]
variable (lt) in
def insB:List α->α->List α
 |[],x=>[x]
 |y::ys,x=>if lt y x then y::insB ys x else if y=x then y::ys else x::y::ys
variable (lt) in
def sortB(l:List α):List α:=l.foldl (insB lt) []
theorem mem_insB(x y:α):∀l,y∈insB lt l x↔y=x\/y∈l
 |[]=>by simp [insB]
 |z::zs=>by
  simp only [insB]
  split
  ·simp only [List.mem_cons,mem_insB x y zs]
   constructor
   ·rintro (h|h|h)<;>simp [h]
   rintro (h|h|h)<;>simp [h]
  split
  ·rename_i e;subst e;simp
  simp
theorem LinO.insB(h:LinO lt)(x:α):∀{l:List α},l.Pairwise lt->(Sl.insB lt l x).Pairwise lt
 |[],_=>by simp [Sl.insB]
 |y::ys,hl=>by
  obtain ⟨M,ab⟩:=List.pairwise_cons.1 hl
  simp only [Sl.insB]
  split
  ·rename_i hyx
   refine List.pairwise_cons.2 ⟨λz hz=>?_,h.insB x ab⟩
   rcases (mem_insB x z ys).1 hz with rfl|hz
   ·exact hyx
   exact M z hz
  rename_i hyx
  split
  ·exact hl
  rename_i hne
  have aa:lt x y:=by
   rcases h.tri x y with h1|h1|h1
   ·exact h1
   ·exact absurd h1.symm hne
   exact absurd h1 hyx
  refine List.pairwise_cons.2 ⟨λz hz=>?_,hl⟩
  rcases List.mem_cons.1 hz with rfl|hz
  ·exact aa
  exact h.tr _ _ _ aa<|M z hz
theorem LinO.foldB(h:LinO lt):∀(l acc:List α),acc.Pairwise lt->(l.foldl (Sl.insB lt) acc).Pairwise lt
 |[],acc,ha=>ha
 |x::l,acc,ha=>h.foldB l _ (h.insB x ha)
theorem LinO.sortB(h:LinO lt)(l:List α):(Sl.sortB lt l).Pairwise lt:=h.foldB l [] List.Pairwise.nil
end
section
variable {α:Type}{lt:α->α->Prop}[Inhabited α]
theorem pairwise_at(l:List α):l.Pairwise lt↔∀i j:Nat,i<j->j<l.length->lt (e_ l i) (e_ l j):=by
 rw [List.pairwise_iff_getElem]
 constructor
 ·intro h i j M hj
  rw [at_get l i (by omega),at_get l j hj];exact h i j (by omega) hj M
 intro h i j hi hj M
 have:=h i j M hj
 rwa [at_get l i (by omega),at_get l j hj] at this
theorem pairwise_next(M:∀a b c,lt a b->lt b c->lt a c){l:List α}(h:∀i:Nat,i+1<l.length->lt (e_ l i) (e_ l ((i+1:Nat):Int))):l.Pairwise lt:=by
 rw [pairwise_at]
 intro i j aa
 induction j with
 |zero=>omega
 |succ j ih=>
  intro hj
  by_cases e:i=j
  ·subst e;exact h i hj
  exact M _ _ _ (ih (by omega)<|by omega)<|h j hj
end
structure Pt where
 u:Int
 v:Int
deriving Inhabited,DecidableEq
instance:Enc Pt:=⟨λa=>[e7 a.u,e7 a.v],2,by omega,λ_=>rfl,λa x h=>by
 simp only [List.mem_cons,List.not_mem_nil,or_false] at h
 rcases h with rfl|rfl<;>rfl⟩
def Pt.lt(a b:Pt):Prop:=a.u<b.u\/(a.u=b.u/\a.v<b.v)
instance:DecidableRel Pt.lt:=λa b=>by unfold Pt.lt;infer_instance
theorem Pt.lin:LinO Pt.lt where
 irr a h:=by unfold Pt.lt at h;omega
 tr a b c h1 h2:=by unfold Pt.lt at *; omega
 tri a b:=by
  unfold Pt.lt
  by_cases h:a=b
  ·exact .inr<|.inl h
  have:¬(a.u=b.u/\a.v=b.v):=λe=>h (by cases a;cases b;simp_all)
  omega
theorem Pt.ext_iff'(a b:Pt):a=b↔a.u=b.u/\a.v=b.v:=by
 constructor
 ·rintro rfl;exact ⟨rfl,rfl⟩
 intro e;cases a;cases b;simp_all
def Pt.cmp(a b:Pt):Int:=if a.u<b.u then -1 else if b.u<a.u then 1 else if a.v<b.v then -1 else if b.v<a.v then 1 else 0
theorem Pt.cmp_lt(a b:Pt):Pt.cmp a b<0↔Pt.lt a b:=by unfold Pt.cmp Pt.lt;split<;>(try split)<;>(try split)<;>(try split)<;>omega
abbrev AscP(l:List Pt):Prop:=l.Pairwise Pt.lt
end Go.Sl
namespace Go.Sl
section
variable {α:Type}(bad:α->Int)(lt:α->α->Prop)[DecidableRel lt]
def prevAt[Inhabited α](xs:List α)(k:Nat):Option α:=if k=0 then none else some (e_ xs ((k:Int) - 1))
def scanL:Option α->List α->Int
 |_,[]=>0
 |none,p::ps=>if bad p≠0 then bad p else scanL (some p) ps
 |some q,p::ps=>if bad p≠0 then bad p else if lt q p then scanL (some p) ps else 5
variable {bad lt}[Inhabited α]{xs:List α}{k:Nat}
theorem prevAt_succ:prevAt xs (k+1)=some (e_ xs k):=by
 unfold prevAt;rw [if_neg (by omega)];congr 2;omega
theorem scanL_step(hk:k<xs.length)(M:bad (e_ xs k)=0)(h2:0<k->lt (e_ xs ((k:Int) - 1)) (e_ xs k)) :
  scanL bad lt (prevAt xs k) (xs.drop k)=scanL bad lt (prevAt xs<|k+1) (xs.drop<|k+1):=by
 rw [drop_at xs k hk,prevAt_succ]
 unfold prevAt
 split
 ·simp only [scanL];rw [if_neg (by simp [M])]
 simp only [scanL];rw [if_neg (by simp [M]),if_pos<|h2<|by omega]
theorem scanL_bad(hk:k<xs.length)(M:bad (e_ xs k)≠0):scanL bad lt (prevAt xs k) (xs.drop k)=bad (e_ xs k):=by
 rw [drop_at xs k hk]
 unfold prevAt
 split
 ·simp only [scanL];rw [if_pos M]
 simp only [scanL];rw [if_pos M]
theorem scanL_order(hk:k<xs.length)(h1:bad (e_ xs k)=0)(h0:0<k)(M:¬lt (e_ xs ((k:Int) - 1)) (e_ xs k)):scanL bad lt (prevAt xs k) (xs.drop k)=5:=by
 rw [drop_at xs k hk]
 unfold prevAt
 rw [if_neg (by omega)]
 simp only [scanL];rw [if_neg (by simp [h1]),if_neg M]
theorem scanL_end(M:xs.length<=k):scanL bad lt (prevAt xs k) (xs.drop k)=0:=by
 rw [List.drop_eq_nil_of_le M]
 cases prevAt xs k<;>rfl
theorem scanL_zero_some(hlt:LinO lt):∀(xs:List α) (q:α),scanL bad lt (some q) xs=0↔(∀x∈xs,bad x=0)/\(q::xs).Pairwise lt
 |[],q=>by simp [scanL]
 |p::ps,q=>by
  simp only [scanL]
  by_cases h1:bad p=0
  ·rw [if_neg (by simp [h1])]
   by_cases h2:lt q p
   ·rw [if_pos h2,scanL_zero_some hlt ps p]
    constructor
    ·rintro ⟨a,b⟩
     refine ⟨λx hx=>?_,List.pairwise_cons.2 ⟨λx hx=>?_,b⟩⟩
     ·rcases List.mem_cons.1 hx with rfl|hx
      ·exact h1
      exact a x hx
     rcases List.mem_cons.1 hx with rfl|hx
     ·exact h2
     exact hlt.tr _ _ _ h2<|(List.pairwise_cons.1 b).1 x hx
    rintro ⟨a,b⟩
    exact ⟨λx hx=>a x<|List.mem_cons_of_mem _ hx,(List.pairwise_cons.1 b).2⟩
   rw [if_neg h2]
   refine ⟨λh=>by simp at h,λh=>absurd ((List.pairwise_cons.1 h.2).1 p List.mem_cons_self) h2⟩
  rw [if_pos h1]
  exact ⟨λh=>absurd h h1,λh=>h.1 p List.mem_cons_self⟩
theorem scanL_zero(hlt:LinO lt)(xs:List α):scanL bad lt none xs=0↔(∀x∈xs,bad x=0)/\xs.Pairwise lt:=by
 cases xs with
 |nil=>simp [scanL]
 |cons p ps=>
  simp only [scanL]
  by_cases h1:bad p=0
  ·rw [if_neg (by simp [h1]),scanL_zero_some hlt]
   constructor
   ·rintro ⟨a,b⟩
    refine ⟨λx hx=>?_,b⟩
    rcases List.mem_cons.1 hx with rfl|hx
    ·exact h1
    exact a x hx
   rintro ⟨a,b⟩
   exact ⟨λx hx=>a x<|List.mem_cons_of_mem _ hx,b⟩
  rw [if_pos h1]
  exact ⟨λh=>absurd h h1,λh=>h.1 p List.mem_cons_self⟩
end
end Go.Sl
namespace Go.Sl
def sumN:Nat->(Nat->Int)->Int
 |0,_=>0
 |m+1,g=>sumN m g+g m
theorem sumN_congr:∀(m:Nat) {g h:Nat->Int},(∀k,k<m->g k=h k)->sumN m g=sumN m h
 |0,_,_,_=>rfl
 |m+1,g,h,e=>by simp only [sumN];rw [sumN_congr m (λk M=>e k<|by omega),e m<|by omega]
theorem sumN_add:∀(m:Nat) (g h:Nat->Int),sumN m (λk=>g k+h k)=sumN m g+sumN m h
 |0,_,_=>rfl
 |m+1,g,h=>by simp only [sumN];rw [sumN_add m];omega
theorem sumN_sub:∀(m:Nat) (g h:Nat->Int),sumN m (λk=>g k - h k)=sumN m g - sumN m h
 |0,_,_=>rfl
 |m+1,g,h=>by simp only [sumN];rw [sumN_sub m];omega
theorem sumN_zero:∀(m:Nat),sumN m (λ_=>0)=0
 |0=>rfl
 |m+1=>by simp only [sumN];rw [sumN_zero m];rfl
theorem sumN_eq_zero(m:Nat){g:Nat->Int}(h:∀k,k<m->g k=0):sumN m g=0:=by rw [sumN_congr m h,sumN_zero]
theorem sumN_le:∀(m:Nat) {g h:Nat->Int},(∀k,k<m->g k<=h k)->sumN m g<=sumN m h
 |0,_,_,_=>Int.le_refl _
 |m+1,g,h,e=>by
  simp only [sumN]
  have:=sumN_le m (g:=g) (h:=h) λk M=>e k (by omega)
  have:=e m (by omega)
  omega
theorem sumN_swap(m p:Nat)(g:Nat->Nat->Int):sumN m (λi=>sumN p (λj=>g i j))=sumN p (λj=>sumN m (λi=>g i j)):=by
 induction m with
 |zero=>simp only [sumN];rw [sumN_zero]
 |succ m ih=>simp only [sumN];rw [ih,←sumN_add]
theorem sumN_at{m k:Nat}(M:k<m)(c:Int):sumN m (λj=>if j=k then c else 0)=c:=by
 induction m with
 |zero=>omega
 |succ m ih=>
  simp only [sumN]
  by_cases h:k=m
  ·subst h
   rw [sumN_eq_zero k λj hj=>by rw [if_neg (by omega)],if_pos rfl];omega
  rw [ih (by omega),if_neg<|by omega];omega
theorem sumN_upd{m k:Nat}(M:k<m){g h:Nat->Int}(e:∀j,j<m->j≠k->h j=g j):sumN m h=sumN m g+(h k - g k):=by
 have h1:sumN m h=sumN m (λj=>g j+if j=k then h k - g k else 0):=sumN_congr m λj hj=>by
  by_cases hjk:j=k
  ·subst hjk;simp;omega
  rw [if_neg hjk,e j hj hjk];omega
 rw [h1,sumN_add,sumN_at M]
theorem sumN_eq_terms:∀(m:Nat) {g h:Nat->Int},(∀k,k<m->g k<=h k)->sumN m g=sumN m h->∀k,k<m->g k=h k
 |0,_,_,_,_=>λk M=>absurd M (Nat.not_lt_zero k)
 |m+1,g,h,e,he=>by
  simp only [sumN] at he
  have h1:=sumN_le m (g:=g) (h:=h) λk M=>e k (by omega)
  have h2:=e m (by omega)
  intro k M
  by_cases hkm:k=m
  ·subst hkm;omega
  exact sumN_eq_terms m (λk M=>e k<|by omega) (by omega) k<|by omega
end Go.Sl
namespace Go.Sl
variable{x y:Operand}{S T U:TypeId}{m n:Int}
section
variable {P:Program}{κ:Ctx}{N:Frm}{Q:Exit->Act->World->Prop}{L:Env}{I J:List Item}
variable {d:Option Tmp}{ty:TypeId}{ps:String}{af:Array Edge}{gd:Option (Nat×Bool)}
theorem Runs.convw{k k' q:IntKind}(hs:P.underlying S=some (.int q))(ht:P.underlying T=some (.int k))(hx:er L x=some (.int k' n)) :
  Runs P κ N ⟨d,.convert S T x,ty,ps,af,gd⟩ L J (.int k<|k.wrap n):=λa w M _=>by
 simp [execOp,M.eval hx,convert,run_underlying hs,run_underlying ht,Conv.intToInt]
theorem Runs.convI{k' q:IntKind}(hs:P.underlying S=some (.int q))(ht:P.underlying T=some (.int .i64))(hx:er L x=some (.int k' n))(M:InR n) :
  Runs P κ N ⟨d,.convert S T x,ty,ps,af,gd⟩ L J (e7 n):=by
 have h:=Runs.convw (P:=P) (κ:=κ) (N:=N) (J:=J) (d:=d) (ty:=ty) (ps:=ps) (af:=af) (gd:=gd) hs ht hx
 rwa [M.wrap] at h
theorem Runs.convU{k' q:IntKind}(hs:P.underlying S=some (.int q))(ht:P.underlying T=some (.int .u64))(hx:er L x=some (.int k' n))(M:0<=n/\n<=18446744073709551615) :
  Runs P κ N ⟨d,.convert S T x,ty,ps,af,gd⟩ L J (.int .u64 n):=by
 have h:=Runs.convw (P:=P) (κ:=κ) (N:=N) (J:=J) (d:=d) (ty:=ty) (ps:=ps) (af:=af) (gd:=gd) hs ht hx
 rwa [Go.IntWalk.u64_in _ M] at h
theorem Runs.shrw{k k':IntKind}(hx:er L x=some (.int k m))(hy:er L y=some (.int k' n))(h0:0<=n) :
  Runs P κ N ⟨d,.binOp .shr T x y U,ty,ps,af,gd⟩ L J (.int k<|m.fdiv<|2 ^ Min.min n.toNat k.bits):=λa w M _=>by
 have h:¬n<0:=by omega
 simp only [execOp,M.eval hx,M.eval hy]
 simp [go_sem,Op.shift,h]
theorem Runs.shlw{k k':IntKind}(hx:er L x=some (.int k m))(hy:er L y=some (.int k' n))(h0:0<=n) :
  Runs P κ N ⟨d,.binOp .shl T x y U,ty,ps,af,gd⟩ L J (.int k<|k.wrap<|m*2 ^ Min.min n.toNat k.bits):=λa w M _=>by
 have h:¬n<0:=by omega
 simp only [execOp,M.eval hx,M.eval hy]
 simp [go_sem,Op.shift,h]
theorem Runs.shr1{k':IntKind}(hx:er L x=some (.int .u64 m))(M:er L y=some (.int k' 1)) :
  Runs P κ N ⟨d,.binOp .shr T x y U,ty,ps,af,gd⟩ L J (.int .u64<|m / 2):=by
 have h:=Runs.shrw (P:=P) (κ:=κ) (N:=N) (J:=J) (d:=d) (ty:=ty) (ps:=ps) (af:=af) (gd:=gd) (T:=T) (U:=U) hx M (by decide)
 have e:m.fdiv (2 ^ Min.min (1:Int).toNat IntKind.u64.bits)=m / 2:=by
  rw [show (2:Int) ^ Min.min (1:Int).toNat IntKind.u64.bits=2 by decide]
  exact Int.fdiv_eq_ediv_of_nonneg _<|by decide
 rwa [e] at h
theorem V.retc2{fn:Func}{t u s:Tmp}{T b E sz by':Nat}{z cs:List Value}{v' aa:Value}{Post:Value->List Item->Prop}(hr:fn.results = #[.cell t T,.tmp u,.tmp s])(hT:tyF P T=some (sz,true,by',z))(hv:look L t=some (.pointer (some ⟨b,0,none⟩)))(ae:look L u=some v')(ad:look L s=some aa)(hb:e8 b cs E∈I)
  (hl:cs.length=sz) (J:List Item) (hf:Fit κ I J) (hp:Post (.tuple #[.agg cs.toArray,v',aa]) J) (h0:N.ds=[]:=by rfl):V κ N (bodyPost P fn<|RetR κ Post) .ret L I:=
 λa w ha hs=>by
  have M:=λj=>cell_blk (w:=w) (hs.ok _ hb).1 j
  have ab:(loadVar T ⟨b,0,none⟩).run P w = .ok (.agg cs.toArray) w:=run_loadVar_agg hT hl λj u hj=>by rw [addr_add,M,←hj];simp
  refine bodyPost_ret (v:= .tuple #[.agg cs.toArray,v',aa]) ?_ (ha.defers.trans h0) ⟨_,J,rfl,hp,hf w hs⟩
  simp [results,hr,ha.get t _ hv,ha.get u _ ae,ha.get s _ ad,asAddr,ab]
end
end Go.Sl
namespace Go.Sl
open Go.RowKit (Below)
variable{w:World}{by' c dd e k m n q sz t:Nat}{cs ds z:List Value}{x y:Operand}{ag:Bool}{ad:Option Addr}
section
variable {P:Program}{κ:Ctx}{N:Frm}{Q:Exit->Act->World->Prop}{L:Env}{I J:List Item}{ops:Array Oper}{rest:List Oper}
variable {d:Option Tmp}{ty:TypeId}{ps:String}{af:Array Edge}{gd:Option (Nat×Bool)}
theorem run_firstCells_pre{v:Value}(h:slOk w sz v m ds)(hq:q<=m):(Builtin.firstCells sz q v).run P w = .ok (ds.take (q*sz)).toArray w:=by
 obtain ⟨a,cap,rfl,h1,h2,h3,h4⟩:=h
 have M:q*sz<=m*sz:=Nat.mul_le_mul_right _ hq
 by_cases hc:0<cap
 ·obtain ⟨b,off,rfl,hr⟩:=h4 hc
  exact run_firstCells_some w sz q _ m cap _ (by rw [List.length_take];omega) λj u hj=>by
   rw [addr_add]
   rw [List.getElem?_take] at hj
   split at hj
   ·exact hr j u hj
   cases hj
 obtain rfl:m=0:=by omega
 obtain rfl:q=0:=by omega
 cases a with
 |none=>simp [Builtin.firstCells]
 |some a=>rw [run_firstCells_some w sz 0 a 0 cap [] (by simp) (by simp)];simp
theorem vec_put{e:TypeId}{b off:Nat}{vs:List Value}{cur:Array Value}(hl:cs.length=n*sz)(aa:n<=c)(ad:c<=maxLen)(hb:w.heap[b]? = some (.cells cur e (0,0)))
  (ab:off+c*sz<=cur.size) (M:∀j u,cs[j]? = some u->cur[off+j]? = some u) (hk:k+vs.length<=cs.length) :
  vecOk (w.setRow b (cur.toList.take (off+k)++vs++cur.toList.drop (off+k+vs.length)).toArray) e sz (.slice (some ⟨b,off,none⟩) n c) n (cs.take k++vs++cs.drop (k+vs.length)):=by
 have ae:n*sz<=c*sz:=Nat.mul_le_mul_right _ aa
 refine ⟨_,c,rfl,by simp only [List.length_append,List.length_take,List.length_drop];omega,aa,ad,λhc=>⟨b,off,_,rfl,setRow_heap w b cur _ e _ hb,?_,λj u' hj=>?_⟩⟩
 ·simp only [List.size_toArray,List.length_append,List.length_take,List.length_drop,Array.length_toList];omega
 have ah:j<cs.length:=by have:=(List.getElem?_eq_some_iff.1 hj).1;simp only [List.length_append,List.length_take,List.length_drop] at this;omega
 have hA:(cur.toList.take<|off+k).length=off+k:=by simp only [List.length_take,Array.length_toList];omega
 have hB:(cs.take k).length=k:=by simp only [List.length_take];omega
 simp only [List.getElem?_toArray]
 rw [List.append_assoc] at hj
 rw [List.append_assoc]
 by_cases hjk:j<k
 ·rw [List.getElem?_append_left (by omega),List.getElem?_take,if_pos hjk] at hj
  rw [List.getElem?_append_left (by omega),List.getElem?_take,if_pos<|by omega]
  simpa using M j u' hj
 rw [List.getElem?_append_right (by omega),hB] at hj
 rw [List.getElem?_append_right (by omega),hA,show off+j - (off+k)=j - k from by omega]
 by_cases hjv:j - k<vs.length
 ·rw [List.getElem?_append_left hjv] at hj
  rw [List.getElem?_append_left hjv]
  exact hj
 rw [List.getElem?_append_right (by omega),List.getElem?_drop,show k+vs.length+(j - k - vs.length)=j from by omega] at hj
 rw [List.getElem?_append_right (by omega),List.getElem?_drop,show off+k+vs.length+(j - k - vs.length)=off+j from by omega]
 simpa using M j u' hj
theorem Eff.copyR{t' n':Nat}{u:Value}{I':List Item}(ht:P.underlying t=some (.slice e))(hT:tyF P e=some (sz,ag,by',z))
  (hx:er L x=some (.slice (adrop ad c k sz) n'<|c - k)) (av:n'=n - k) (hy:er L y=some u) (hu:SlRd κ I sz u m ds) (hk:k<=n) (hq:q=min m (n - k)) (h1:∀w∈ds.take (q*sz),w.oneCell'=true) (hN:Nat.blt dd N.n=true)
  (ah:At I (vec e sz (.slice ad n c) n cs) (vec e sz (.slice ad n c) n<|cs.take (k*sz)++ds.take (q*sz)++cs.drop (k*sz+q*sz)) I') :
  Eff P κ N Q ⟨some dd,.call {callee:= .builtin .copy,args:= #[x,y],argTypes:= #[t,t']},ty,ps,af,gd⟩ L I λL' I''=>L'=(dd,e7 q)::L/\I''=I':=
 Eff.of_value rfl hN λa w ha hs=>by
  subst av
  obtain ⟨a',ax,hv,hl,an,aw,aq⟩:=(hs.ok _ ah.mem).1
  cases hv
  have ai:=hu w hs
  have hlen:=run_lenOf_sl (P:=P) ai
  have az:m*sz<=ds.length:=by obtain ⟨_,_,_,h,_⟩:=ai;omega
  have ay:q*sz<=m*sz:=Nat.mul_le_mul_right _ (by omega)
  have aj:=run_firstCells_pre (P:=P) ai (show q<=m by omega)
  have M:m.min (n - k)=q:=hq.symm
  have ak:(ds.take<|q*sz).length=q*sz:=by rw [List.length_take];omega
  have a0:q*sz+k*sz<=n*sz:=by rw [←Nat.add_mul];exact Nat.mul_le_mul_right _ (by omega)
  by_cases hq0:q=0
  ·subst hq0
   refine ⟨e7 0,w,I',?_,⟨rfl,rfl⟩,?_⟩
   ·cases ab:adrop ad c k sz with
    |none=>simp [execOp,resolve,invoke,builtin,ha.eval hx,ha.eval hy,Builtin.copy_,run_underlying ht,hlen,run_sizeOf hT,M,aj,ab,goInt]
    |some aa=>simp [execOp,resolve,invoke,builtin,ha.eval hx,ha.eval hy,Builtin.copy_,run_underlying ht,hlen,run_sizeOf hT,M,aj,ab,goInt,storeCells]
   refine Fit.upd ah (λw hw=>?_) w hs
   have e:cs.take (k*sz)++ds.take (0*sz)++cs.drop (k*sz+0*sz)=cs:=by simp
   rw [e]
   exact ⟨hw,λ_ h=>h⟩
  obtain ⟨b,off,cur,rfl,hb,ae,ao⟩:=aq (by omega)
  have ap:=run_storeCells_at P b (off+k*sz) e (ds.take (q*sz)) 0 cur w hb (by
   have:=Nat.mul_le_mul_right sz an
   simp only [Nat.add_zero];omega) h1
  simp only [Nat.add_zero] at ap
  have ab:adrop (some ⟨b,off,none⟩) c k sz=some ⟨b,off+k*sz,none⟩:=by unfold adrop;rw [if_neg (by omega)];simp [addr_add]
  refine ⟨e7 q,_,I',by simp only [execOp,resolve,invoke,builtin,List.map_toArray,List.map_cons,List.map_nil,ha.eval hx,ha.eval hy];simp [Builtin.copy_,run_underlying ht,hlen,run_sizeOf hT,M,aj,ab,goInt];rw [ap];simp only [Result.andThen_ok];rfl,⟨rfl,rfl⟩,?_⟩
  refine hs.upd ah rfl ⟨rfl,Nat.le_refl _⟩ rfl (by simp) (λk' _ au=>setRow_other w b k' _ λe=>au<|by subst e;exact ⟨off,n,c,rfl,by omega⟩) ?_ λk' ar=> .inl ?_
  ·have:=vec_put (k:=k*sz) (vs:=ds.take (q*sz)) hl an aw hb ae ao (by rw [ak];omega)
   rw [ak] at this
   rw [ak]
   exact this
  exact ar
theorem vec.room{e:TypeId}{h:Nat}(hh:n<=h)(hc:h<=c):∀w,(vec e sz (.slice ad n c) n cs).ok w->∃js:List Value,js.length=(h - n)*sz/\(vec e sz (.slice ad h c) h (cs++js)).ok w:=by
 intro w hw
 obtain ⟨a',ai,hv,hl,ak,ae,ab⟩:=hw
 cases hv
 by_cases hc0:0<c
 ·obtain ⟨b,off,cur,rfl,hb,M,aa⟩:=ab hc0
  have aj:h*sz<=c*sz:=Nat.mul_le_mul_right _ hc
  have ah:n*sz+(h - n)*sz=h*sz:=by rw [←Nat.add_mul];congr 1;omega
  refine ⟨(cur.toList.drop<|off+n*sz).take ((h - n)*sz),by simp only [List.length_take,List.length_drop,Array.length_toList];omega,_,c,rfl,by simp only [List.length_append,List.length_take,List.length_drop,Array.length_toList];omega,hc,ae,λ_=>⟨b,off,cur,rfl,hb,M,λj u hj=>?_⟩⟩
  by_cases hjn:j<cs.length
  ·rw [List.getElem?_append_left hjn] at hj;exact aa j u hj
  rw [List.getElem?_append_right (by omega),List.getElem?_take] at hj
  split at hj
  ·rw [List.getElem?_drop,show off+n*sz+(j - cs.length)=off+j from by omega] at hj
   simpa using hj
  cases hj
 obtain rfl:h=0:=by omega
 obtain rfl:n=0:=by omega
 exact ⟨[],by simp,_,c,rfl,by simpa using hl,by omega,ae,λh=>absurd h hc0⟩
theorem Eff.grow{α:Type}[Enc α][Inhabited α]{xs:List α}{u i:Nat}{m:Int}(ht:P.underlying t=some (.slice e))(hu:P.underlying u=some (.int .i64))(hT:tyF P e=some (Enc.sz α,ag,by',z))(hz:z=Enc.enc (default:α))
  (hx:er L x=some (.slice ad i c)) (hy:er L y=some (e7 m)) (hm:m=(k:Int)) (hv:Sl κ I (.slice ad xs.length c) xs) (hi:i<=xs.length) (hk:0<k) (hg:c<i+k) (ap:(i+k)*by'<=140737488355328) (ah:0<by') (hN:Nat.blt dd N.n=true) :
  Eff P κ N Q ⟨some dd,.call {callee:= .builtin .append,args:= #[x,y],argTypes:= #[t,u]},ty,ps,af,gd⟩ L I λL' I''=>∃ad' c',L'=(dd,.slice ad' (i+k) c')::L/\I''=vc e (.slice ad' (i+k) c') (xs.take i++List.replicate k (default:α))::I:=
 Eff.of_value rfl hN λa w ha hs=>by
  subst hm
  obtain ⟨i0,zv,d0,av,au,a1,ax,az,ai,ar⟩:=tyF_spec hT
  have aq:=Enc.pos (α:=α)
  have an:i+k<=maxLen:=by
   have:=Nat.le_mul_of_pos_right (i+k) ah
   simp only [maxLen];omega
  have ae:=(Sl.take hv hi) w.drew (hs.drew)
  have hlt:(xs.take i).length=i:=by rw [List.length_take];omega
  rw [hlt] at ae
  have hold:=run_firstCells_pre (P:=P) ae (Nat.le_refl i)
  have ao:(cells<|xs.take i).length=i*Enc.sz α:=by rw [cells_length,hlt]
  rw [List.take_of_length_le (by omega)] at hold
  have ak:=Go.Lib.run_append_grow_zeros (P:=P) w t u ty e i0 zv .i64 .i64 ht hu av au ad i c (cells<|xs.take i) (by rw [ax];exact hold) k hk (by omega) hg (by simp only [maxLen] at an;omega)
   (by rw [ai];rw [Nat.add_mul] at ap;omega) (growslice_fits hg<|by rw [ai];exact ap)
  have aj:=grownCap_ge w (i+k) c e
  have ay:=grownCap_le_maxLen w (i+k) c e an
  have ab:zv.cells.size=Enc.sz α:=by rw [ar,hz,List.size_toArray,Enc.len]
  have M:(Builtin.zeroCells zv.cells k).toList=cells (List.replicate k (default:α)):=by
   rw [←rep_cells,←hz]
   apply List.ext_getElem?
   intro j
   simp only [Builtin.zeroCells,Array.toList_map,Array.toList_range,List.getElem?_map,ab]
   by_cases hj:j<k*Enc.sz α
   ·rw [List.getElem?_range hj]
    have aw:j % Enc.sz α<z.length:=by rw [hz,Enc.len];exact Nat.mod_lt _ aq
    rw [flatten_rep z k j (by omega) (by rw [hz,Enc.len];exact hj),show z.length=Enc.sz α from by rw [hz,Enc.len],ar]
    simp [aw]
   rw [List.getElem?_eq_none (by simpa using hj),List.getElem?_eq_none (by rw [len_rep,hz,Enc.len];omega)]
   rfl
  refine ⟨.slice (some ⟨w.heap.size,0,none⟩) (i+k)<|grownCap w (i+k) c e,w.drew.alloc<|.cells ((cells<|xs.take i).toArray++Builtin.zeroCells zv.cells k++Builtin.zeroCells zv.cells (grownCap w (i+k) c e - (i+k))) e,_,by simp only [execOp,resolve,invoke,builtin,List.map_toArray,List.map_cons,List.map_nil,ha.eval hx,ha.eval hy];simp [ak],⟨_,_,rfl,rfl⟩,?_⟩
  have aa:(xs.take i++List.replicate k (default:α)).length=i+k:=by rw [List.length_append,hlt,List.length_replicate]
  refine hs.drew.new (hs.drew.alloc _) ?_ λj hj=>?_
  ·show vecOk _ e _ _ _ _
   rw [aa]
   refine ⟨_,_,rfl,by rw [cells_length,aa],aj,ay,λ_=>⟨w.heap.size,0,_,rfl,heap_alloc_new w.drew _,?_,λj u hj=>?_⟩⟩
   ·simp only [Array.size_append,List.size_toArray,size_zeroCells,ab,ao,←Nat.add_mul,Nat.zero_add]
    rw [Nat.add_sub_cancel' aj]
    exact Nat.le_refl _
   rw [Nat.zero_add,Array.getElem?_append_left (by
    have:=(List.getElem?_eq_some_iff.1 hj).1
    rw [cells_length,aa] at this
    simp only [Array.size_append,List.size_toArray,size_zeroCells,ab,ao,←Nat.add_mul];exact this)]
   rw [cells_append,←M] at hj
   have e1:(cells<|xs.take i).toArray++Builtin.zeroCells zv.cells k=(cells (xs.take i)++(Builtin.zeroCells zv.cells k).toList).toArray:=by
    apply Array.ext';simp
   rw [e1,List.getElem?_toArray];exact hj
  obtain ⟨o,n',c',he,a0⟩:=hj
  cases he
  exact ⟨Nat.le_refl _,by simp⟩
theorem Eff.overlaps{f tb k' c':Nat}{ax:Array TypeId}{ah:Option Addr}{e' ae:Nat}{K:List Item}
  (au:∀args w,(callFunc f args).run P w=((Extern.SlicesOverlaps.overlaps #[t,t] #[tb] args).run P w).andThen λv w'=> .ok (.value v) w') (ht:P.underlying t=some (.slice e)) (hT:tyF P e=some (sz,ag,by',z))
  (hx:er L x=some (.slice ad m c)) (hy:er L y=some (.slice (adrop ah c' k sz) k'<|c' - k)) (a3:k<=c') (h0:0<m) (a4:0<n) (an:Fit κ I (vec e sz (.slice ad m c) m cs::vec e' ae (.slice ah n c') n ds::K)) (a0:0<c'*ae) (hN:Nat.blt dd N.n=true) :
  Eff P κ N Q ⟨some dd,.call {callee:= .value (.func f),args:= #[x,y],argTypes:=ax},ty,ps,af,gd⟩ L I λL' I''=>L'=(dd,.bool false)::L/\I''=I:=
 Eff.of_value rfl hN λa w ha hs=>by
  have ab:=an w hs
  obtain ⟨_,_,hv,_,a1,_,ai⟩:=(ab.ok _ List.mem_cons_self).1
  cases hv
  obtain ⟨_,_,ar,_,az,_,aa⟩:=(ab.ok _<|List.mem_cons_of_mem _ List.mem_cons_self).1
  cases ar
  obtain ⟨b,off,cur,rfl,hb,ap,_⟩:=ai (by omega)
  obtain ⟨b',M,aj,rfl,ay,ao,_⟩:=aa (by omega)
  have av:Item.apart _ _:=(List.pairwise_cons.1 ab.pw).1 _ List.mem_cons_self
  have aq:b≠b':=λe=>by
   subst e
   exact av b ⟨off,m,c,rfl,by omega⟩ ⟨M,n,c',rfl,by omega⟩
  have aw:∃o,adrop (some ⟨b',M,none⟩) c' k sz=some ⟨b',o,none⟩:=by
   unfold adrop;split
   ·exact ⟨_,rfl⟩
   exact ⟨_,by simp [addr_add];rfl⟩
  obtain ⟨o,ho⟩:=aw
  rw [ho] at hy
  have ak:=Go.Lib.run_overlaps_apart w t tb e ht sz (λw=>run_sizeOf hT w) ⟨b,off,none⟩ ⟨b',o,none⟩ m c k' (c' - k) aq e e' cur.size aj.size (by simp [World.shape?,hb]) (by simp [World.shape?,ay]) (by omega) (by simp [World.frozen?,hb]) (by simp [World.frozen?,hb])
  refine ⟨.bool false,w,I,?_,⟨rfl,rfl⟩,hs⟩
  have e1:a.eval (.func f) = .func (.func f) #[] #[]:=rfl
  simp only [execOp,resolve,e1,Deferred.ofValue,invoke,Sem.run_bind,Sem.run_pure,Result.andThen_ok,List.map_toArray,List.map_cons,List.map_nil,ha.eval hx,ha.eval hy]
  simp only [Array.empty_append,Array.append_empty,au,ak,Result.andThen_ok]
theorem Runs.eqnil{T E U:Nat}(ht:P.underlying T=some (.slice E))(hx:er L x=some (.slice ad n c))(hy:er L y=some (.slice none 0 0)) :
  Runs P κ N ⟨d,.binOp .eql T x y U,ty,ps,af,gd⟩ L J (.bool ad.isNone):=λa w M _=>by
 have hg:(eqGuard .eql T x y (.slice ad n c)<|.slice none 0 0).run P w = .ok () w:=by simp [eqGuard]
 have h:=Go.Lib.run_eql_slice_nil (P:=P) w T E ad n c 0 0 ht
 simp only [execOp,M.eval hx,M.eval hy]
 simp [hg,h]
theorem Eff.bs0{α:Type}[Enc α](ht:P.underlying t=some (.slice e))(M:tyF P e=some (Enc.sz α,ag,by',z))(hN:Nat.blt dd N.n=true) :
  Eff P κ N Q ⟨some dd,.buildSlice t 0 #[],ty,ps,af,gd⟩ L I λL' I''=>∃ad,L'=(dd,.slice ad 0 0)::L/\I''=vc e (.slice ad 0 0) ([]:List α)::I:=
 Eff.of_value rfl hN λa w ha hs=>by
  refine ⟨.slice (some ⟨w.heap.size,0,none⟩) 0 0,w.alloc<|.cells #[] e,_,by simp [execOp,Instr.buildSlice,run_underlying ht,run_sizeOf M,Instr.fill,newRow,Array.range_zero'],⟨_,rfl,rfl⟩,?_⟩
  exact hs.new (hs.alloc _) ⟨_,0,rfl,by simp [cells],Nat.le_refl _,by simp,λh=>absurd h<|by decide⟩ λk hk=>by
   obtain ⟨o,n',c',he,aa⟩:=hk
   cases he
   omega
theorem Sl.isNone{α:Type}[Enc α]{xs:List α}(h:Sl κ I (.slice ad xs.length c) xs):∀w,Sep κ w I->ad.isNone=true->xs=[]/\c=0:=λw hs hn=>by
 obtain ⟨a,cap,M,h1,h2,h3,h4⟩:=h w hs
 cases M
 by_cases hc:0<c
 ·obtain ⟨b,off,rfl,_⟩:=h4 hc;cases hn
 exact ⟨List.eq_nil_of_length_eq_zero<|by omega,by omega⟩
end
end Go.Sl
namespace Go.Sl
variable{by' c e k l sz:Nat}{x y:Operand}{ag:Bool}{z:List Value}{ad:Option Addr}
section
variable {β:Type}{xs ys js:List β}{i m n r:Nat}{d:β}
theorem take_app{a b:List β}(h:a.length=k):(a++b).take k=a:=by subst h;simp
theorem drop_app{a b:List β}(h:a.length=k):(a++b).drop k=b:=by subst h;simp
theorem ins1(hi:i<=xs.length):(xs.take i++List.replicate (xs.length+ys.length - i) d).take i++ys.take ys.length++(xs.take i++List.replicate (xs.length+ys.length - i) d).drop (i+ys.length)=xs.take i++ys++List.replicate (xs.length - i) d:=by
 have M:(xs.take i).length=i:=by rw [List.length_take];omega
 rw [take_app M,List.take_length,←List.drop_drop,drop_app M,List.drop_replicate,show xs.length+ys.length - i - ys.length=xs.length - i by omega]
theorem ins2(hi:i<=xs.length):(xs.take i++ys++List.replicate (xs.length - i) d).take (i+ys.length)++(xs.drop i).take (xs.length - i)++(xs.take i++ys++List.replicate (xs.length - i) d).drop (i+ys.length+(xs.length - i))=xs.take i++ys++xs.drop i:=by
 have hl:(xs.take i++ys).length=i+ys.length:=by rw [List.length_append,List.length_take];omega
 have e1:(xs.drop i).take (xs.length - i)=xs.drop i:=List.take_of_length_le (by rw [List.length_drop];omega)
 have M:(xs.take i++ys++List.replicate (xs.length - i) d).drop (i+ys.length+(xs.length - i))=[]:=List.drop_eq_nil_of_le (by simp only [List.length_append,List.length_take,List.length_replicate];omega)
 rw [take_app hl,e1,M,List.append_nil]
theorem ins3{cs:List β}(hn:cs.length=n)(hj:js.length=m)(hy:ys.length=m)(hi:i<=n) :
  let A:=(cs++js).take (i+m)++((cs++js).drop i).take (n - i)++(cs++js).drop (i+m+(n - i))
  A.take i++ys.take m++A.drop (i+m)=cs.take i++ys++cs.drop i:=by
 intro A
 have M:((cs++js).take (i+m)).length=i+m:=by rw [List.length_take,List.length_append];omega
 have hd:((cs++js).drop i).take (n - i)=cs.drop i:=by
  rw [List.drop_append,show i - cs.length=0 by omega,List.drop_zero]
  exact take_app<|by rw [List.length_drop];omega
 have hz:(cs++js).drop (i+m+(n - i))=[]:=List.drop_eq_nil_of_le (by rw [List.length_append];omega)
 have e:A=(cs++js).take (i+m)++cs.drop i:=by show _++_++_=_;rw [hd,hz,List.append_nil]
 have e1:ys.take m=ys:=List.take_of_length_le (by omega)
 have e2:A.take i=cs.take i:=by
  rw [e,List.take_append_of_le_length<|by rw [M];omega,List.take_take,Nat.min_eq_left<|by omega,List.take_append_of_le_length<|by omega]
 rw [e1,e2,e,drop_app M]
end
section
variable {P:Program}{κ:Ctx}{N:Frm}{Q:Exit->Act->World->Prop}{L:Env}{I J:List Item}{ops:Array Oper}{rest:List Oper}
variable {d:Option Tmp}{ty:TypeId}{ps:String}{af:Array Edge}{gd:Option (Nat×Bool)}
variable {α:Type}[Enc α]{xs ys R:List α}
theorem Eff.copyT{t t' n n' q dd:Nat}{u:Value}{I':List Item}(ht:P.underlying t=some (.slice e))(hT:tyF P e=some (Enc.sz α,ag,by',z))
  (hx:er L x=some (.slice (adrop ad c k<|Enc.sz α) n'<|c - k)) (ab:n'=xs.length - k) (hy:er L y=some u) (M:Sl κ I u ys) (hk:k<=xs.length) (hq:q=min ys.length (xs.length - k)) (hN:Nat.blt dd N.n=true)
  (hR:xs.take k++ys.take q++xs.drop (k+q)=R) (hn:n=xs.length) (aa:At I (vc e (.slice ad n c) xs) (vc e (.slice ad n c) R) I') :
  Eff P κ N Q ⟨some dd,.call {callee:= .builtin .copy,args:= #[x,y],argTypes:= #[t,t']},ty,ps,af,gd⟩ L I λL' I''=>L'=(dd,e7 q)::L/\I''=I':=by
 subst hn
 have hl:R.length=xs.length:=by rw [←hR];simp only [List.length_append,List.length_take,List.length_drop];omega
 have hc:cells R=(cells xs).take (k*Enc.sz α)++(cells ys).take (q*Enc.sz α)++(cells xs).drop (k*Enc.sz α+q*Enc.sz α):=by
  rw [←hR,cells_append,cells_append,cells_take,cells_take,cells_drop,Nat.add_mul]
 refine Eff.copyR (cs:=cells xs) ht hT hx ab hy M hk hq (λu M=>cells_one ys u<|List.mem_of_mem_take M) hN ?_
 have:=aa
 unfold vc at this
 rw [hl,hc] at this
 exact this
theorem ins_cells{i:Nat}{js:List Value}(hi:i<=xs.length)(hj:js.length=(xs.length+ys.length - xs.length)*Enc.sz α) :
  List.take (i*Enc.sz α) (List.take ((i+ys.length)*Enc.sz α) (cells xs++js)++List.take ((xs.length - i)*Enc.sz α) (List.drop (i*Enc.sz α)<|cells xs++js)++List.drop ((i+ys.length)*Enc.sz α+(xs.length - i)*Enc.sz α) (cells xs++js))++List.take (ys.length*Enc.sz α) (cells ys)++List.drop (i*Enc.sz α+ys.length*Enc.sz α) (List.take ((i+ys.length)*Enc.sz α) (cells xs++js)++List.take ((xs.length - i)*Enc.sz α) (List.drop (i*Enc.sz α)<|cells xs++js)++List.drop ((i+ys.length)*Enc.sz α+(xs.length - i)*Enc.sz α) (cells xs++js))=cells (List.take i xs++ys++List.drop i xs):=by
 rw [cells_append,cells_append,cells_take,cells_drop,Nat.add_mul,Nat.sub_mul]
 exact ins3 (cells_length xs) (by rw [hj];congr 1;omega) (cells_length ys)<|Nat.mul_le_mul_right _ hi
theorem ins_one{i:Nat}{js:List Value}(hi:i<=xs.length):∀u∈List.take ((xs.length - i)*Enc.sz α) (List.drop (i*Enc.sz α) (cells xs++js)),u.oneCell'=true:=λu M=>by
 have hm:i*Enc.sz α<=xs.length*Enc.sz α:=Nat.mul_le_mul_right _ hi
 have hl:=cells_length xs
 rw [List.drop_append,show i*Enc.sz α - (cells xs).length=0 by omega,List.drop_zero,take_app<|by rw [List.length_drop,hl,Nat.sub_mul]] at M
 exact cells_one xs u<|List.mem_of_mem_drop M
theorem Runs.loraw{T E n:Nat}{m:Int}(ht:P.underlying T=some (.slice E))(hE:tyF P E=some (sz,ag,by',z))(hx:er L x=some (.slice ad n c))(hy:er L y=some (e7 m))(M:m=(l:Int))
  (hl:l<=n) (hn:n<=c):Runs P κ N ⟨d,.slice T x (some y) none none,ty,ps,af,gd⟩ L J (.slice (adrop ad c l sz) (n - l)<|c - l):=λa w ha hs=>by
 subst M
 exact Runs.slice (P:=P) (κ:=κ) (N:=N) (L:=L) (J:=J) (d:=d) (ty:=ty) (ps:=ps) (af:=af) (gd:=gd) (l:=l) ht hE hx (.inr ⟨y,rfl,hy⟩) (.inl ⟨rfl,rfl⟩) hl hn a w ha hs
theorem SlRd.dropR{n:Nat}{cs:List Value}(hv:SlRd κ I sz (.slice ad n c) n cs)(hl:l<=n):SlRd κ I sz (.slice (adrop ad c l sz) (n - l) (c - l)) (n - l) (cs.drop (l*sz)):=λw hs=>by
 obtain ⟨a,cap,M,h1,h2,h3,h4⟩:=hv w hs
 cases M
 refine ⟨_,c - l,rfl,by rw [List.length_drop,h1,Nat.sub_mul],by omega,by omega,λhc=>?_⟩
 obtain ⟨b,off,rfl,hr⟩:=h4 (by omega)
 refine ⟨b,off+l*sz,by unfold adrop;rw [if_neg (by omega)];simp [addr_add],λj u hj=>?_⟩
 rw [List.getElem?_drop] at hj
 rw [Nat.add_assoc]
 exact hr _ u hj
theorem G.ex{β:Type}{x:Item}{x':β->Item}{p:β->Prop}{F:Item->List Item}(aa:AtF I x F)(h:∀w,x.ok w->∃y,p y/\(x' y).ok w)(hf:∀y k,(x' y).fp k->x.fp k)(hG:∀y,p y->G P κ N ops Q rest L (F (x' y))):G P κ N ops Q rest L I:=λa w ha hs=>by
 obtain ⟨J,h1,h2⟩:=aa.perm
 have M:=hs.perm h1
 obtain ⟨y,hp,hy⟩:=h w (M.ok x List.mem_cons_self).1
 refine hG y hp a w ha<|Sep.perm ?_ (h2 _).symm
 have ab:∀z∈J,∀k,x.fp k->¬z.fp k:=(List.pairwise_cons.1 M.pw).1
 exact M.tail.cons hy (λk hk=>(M.ok x List.mem_cons_self).2 k (hf y k hk)) λz hz k hk=>ab z hz k<|hf y k hk
theorem G.room{n h:Nat}{F:Item->List Item}(M:AtF I (vc e (.slice ad n c) xs) F)(hn:n=xs.length)(hh:n<=h)(hc:h<=c)
  (hG:∀js:List Value,js.length=(h - n)*Enc.sz α->G P κ N ops Q rest L (F<|vec e (Enc.sz α) (.slice ad h c) h<|cells xs++js)):G P κ N ops Q rest L I:=by
 subst hn
 exact G.ex M (x':=λjs=>vec e (Enc.sz α) (.slice ad h c) h<|cells xs++js) (vec.room hh hc) (λjs k hk=>by obtain ⟨o,n',c',he,aa⟩:=hk;cases he;exact ⟨o,_,_,rfl,aa⟩) hG
end
end Go.Sl
