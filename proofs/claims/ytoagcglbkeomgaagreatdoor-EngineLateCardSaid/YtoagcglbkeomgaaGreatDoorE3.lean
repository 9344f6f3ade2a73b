/- A part of the proofs of statements of this seat: contracts of functions, and the plain laws that they lean on. No conditions. -/
import Derived.Test.YtoagcglbkeomgaaGreatDoorE2
import Derived.Lib.Overlaps
import Derived.Lib.AppendZerosOnto
import Derived.Lib.SliceRun
set_option linter.unusedVariables false
set_option linter.unusedSimpArgs false
set_option linter.unusedSectionVars false
namespace Go.Sl
variable{c0 c1 c2 c3 c4 c5 u v v1 v2 v3 v4 v5 v6:Value}{E T b by' fuel j k s stop t:Nat}{c x y:Operand}{ag:Bool}{cs vs z:List Value}{i:Int}{M:Array Bool}
class TyI (P:Program) (T:TypeId) (r:outParam (Nat×Bool×Nat×List Value)):Prop where h:tyF P T=some r
class U1 (P:Program) (T k:Nat) (off:outParam Nat):Prop where h:U2 P T k=some off
class ca7 (P:Program) (T:TypeId) (E:outParam TypeId):Prop where h:P.underlying T=some (.slice E)
class ap1 (P:Program) (T:TypeId):Prop where h:∃fs,P.underlying T=some (.struct fs)
class PlI (P:Program) (T:TypeId) (p:outParam (Array (Nat×Nat))):Prop where h:∀w:World,(J2 P T).run P w = .ok p w
structure gj9 (p:Prop):Prop where h:p
section
variable {P:Program}{κ:Ctx}{N:Frm}{Q:Exit->Act->World->Prop}{L:Env}{I J:List Item}{ops:Array Oper}{o:Oper}{rest:List Oper}{q:Op}{ty:TypeId}{ps:String}{af:Array Edge}{gd:Option (Nat×Bool)}{d:Option Tmp}
theorem tb5{p:Prop}(h:p:=by assumption):p:=h
theorem Sl.a{α:Type}[Enc α]{xs:List α}(h:Sl κ J v xs:=by first|exact Sl.o|exact Sl.f tb5):Sl κ J v xs:=h
theorem wOn{b:Bool}(hg:o.guard=some (j,b))(hj:(ops[j]?).bind (·.dst)=some t)(M:look L t=some v)(hv:v = .bool b:=by with_reducible rfl):q8 N ops o L:=q8.on hg hj (M.trans (Gb some hv))
theorem wOf(hg:o.guard=some (j,true))(hj:(ops[j]?).bind (·.dst)=some t)(M:look L t=some v)(hv:v = .bool false:=by with_reducible rfl):H0 N ops o L:=H0.off hg hj (M.trans (Gb some hv))
theorem wOg(hg:o.guard=some (j,false))(hj:(ops[j]?).bind (·.dst)=some t)(M:look L t=some v)(hv:v = .bool true:=by with_reducible rfl):H0 N ops o L:=H0.off hg hj (M.trans (Gb some hv))
theorem Rpt(hc:er L c=some u)(M:er L x=some v)(hu:u = .bool true:=by with_reducible rfl):j7 P κ N ⟨d,.pick c x y,ty,ps,af,gd⟩ L J v:=j7.fx2 (hc.trans (Gb some hu)) M
theorem Rpf(hc:er L c=some u)(M:er L y=some v)(hu:u = .bool false:=by with_reducible rfl):j7 P κ N ⟨d,.pick c x y,ty,ps,af,gd⟩ L J v:=j7.fx3 (hc.trans (Gb some hu)) M
theorem RnT{T:TypeId}(M:er L x=some u)(hu:u = .bool true:=by with_reducible rfl):j7 P κ N ⟨d,.unOp .not T x,ty,ps,af,gd⟩ L J (.bool false):=j7.not (b:=true) (M.trans (Gb some hu))
theorem RnF{T:TypeId}(M:er L x=some u)(hu:u = .bool false:=by with_reducible rfl):j7 P κ N ⟨d,.unOp .not T x,ty,ps,af,gd⟩ L J (.bool true):=j7.not (b:=false) (M.trans (Gb some hu))
theorem Ri{α:Type}[Enc α]{xs:List α}{y:Operand}{by':Nat}{ag:Bool}{z:List Value}{i:Int}[ca7 P T E]
  (hx:er L x=some v:=by exact rfl) (hv:Sl κ J v xs:=by first|exact Sl.o|exact Sl.f tb5) (hE:tyF P E=some (Enc.sz α,ag,by',z):=by exact TyI.h) (hy:er L y=some (e7 i):=by exact rfl) (M:0<=i:=by omega) (hn:i<xs.length:=by first|omega|(simp only [Fq];omega)) :
  j7 P κ N ⟨d,.indexAddr T x y,ty,ps,af,gd⟩ L J (F1 v<|i.toNat*Enc.sz α):=j7.idx ca7.h hE hx hy hv M hn
theorem Rlt{α:Type}[Enc α]{xs:List α}[ca7 P T E](M:er L x=some v:=by exact rfl)(hv:Sl κ J v xs:=by first|exact Sl.o|exact Sl.f tb5) :
  j7 P κ N ⟨d,.call {callee:= .builtin .len,args:= #[x],argTypes:= #[T]},ty,ps,af,gd⟩ L J (e7 xs.length):=j7.gj3 ca7.h M hv
theorem Rgi{xs:List Int}[TyI P T (s,false,by',z)](hx:er L x=some (F1 v (i.toNat*Enc.sz Int)):=by exact rfl)(hv:Sl κ J v xs:=by first|exact Sl.o|exact Sl.f tb5)(M:0<=i:=by omega)(hn:i<xs.length:=by first|omega|(simp only [Fq];omega)) :
  j7 P κ N ⟨d,.load T x,ty,ps,af,gd⟩ L J (e7<|e_ xs i):=j7.get TyI.h hx hv M hn
theorem RgB{xs:List Bool}[TyI P T (s,false,by',z)](hx:er L x=some (F1 v (i.toNat*Enc.sz Bool)):=by exact rfl)(hv:Sl κ J v xs:=by first|exact Sl.o|exact Sl.f tb5)(M:0<=i:=by omega)(hn:i<xs.length:=by first|omega|(simp only [Fq];omega)) :
  j7 P κ N ⟨d,.load T x,ty,ps,af,gd⟩ L J (.bool<|e_ xs i):=j7.getB TyI.h hx hv M hn
theorem Rgs{α:Type}[Enc α][Inhabited α]{xs:List α}[TyI P T (s,true,by',z)](hx:er L x=some (F1 v (i.toNat*Enc.sz α)):=by exact rfl)(hs:s=Enc.sz α:=by exact rfl)(hv:Sl κ J v xs:=by first|exact Sl.o|exact Sl.f tb5)(M:0<=i:=by omega)(hn:i<xs.length:=by first|omega|(simp only [Fq];omega)) :
  j7 P κ N ⟨d,.load T x,ty,ps,af,gd⟩ L J (.agg (Enc.enc<|e_ xs i).toArray):=j7.gj5 (by rw [←hs];exact TyI.h) hx hv M hn
theorem Rf{α:Type}[Enc α]{xs:List α}{off m:Nat}[U1 P T k off](M:er L x=some (F1 v (m*Enc.sz α)):=by exact rfl)(hv:Sl κ J v xs:=by first|exact Sl.o|exact Sl.f tb5)(hn:0<xs.length:=by first|omega|(simp only [Fq];omega)) :
  j7 P κ N ⟨d,.fieldAddr T x k,ty,ps,af,gd⟩ L J (F1 v<|m*Enc.sz α+off):=j7.fld U1.h M hv hn
theorem Rg0{α:Type}[Enc α][Inhabited α]{xs:List α}[TyI P T (s,false,by',z)](hx:er L x=some (F1 v (i.toNat*Enc.sz α)):=by exact rfl)(hv:Sl κ J v xs:=by first|exact Sl.o|exact Sl.f tb5)(M:0<=i:=by omega)(hn:i<xs.length:=by first|omega|(simp only [Fq];omega))(hu:(Enc.enc (e_ xs i))[0]? = some u:=by exact rfl) :
  j7 P κ N ⟨d,.load T x,ty,ps,af,gd⟩ L J u:=j7.fy8 TyI.h hx hv M hn hu
theorem Rgf{α:Type}[Enc α][Inhabited α]{xs:List α}[TyI P T (s,false,by',z)](hx:er L x=some (F1 v (i.toNat*Enc.sz α+j)):=by exact rfl)(hv:Sl κ J v xs:=by first|exact Sl.o|exact Sl.f tb5)(M:0<=i:=by omega)(hn:i<xs.length:=by first|omega|(simp only [Fq];omega))(hu:(Enc.enc (e_ xs i))[j]? = some u:=by exact rfl) :
  j7 P κ N ⟨d,.load T x,ty,ps,af,gd⟩ L J u:=j7.gf7 TyI.h hx hv M hn hu
theorem Rl2{o:Nat}{M:Value}[TyI P T (2,true,by',z)](hx:er L x=some (.pointer (some ⟨b,o,none⟩)):=by exact rfl)(hb:e8 b cs E∈J:=by repeat (first|exact A_|apply C_))(hc:(cs.drop o).take 2=[M,v1]:=by exact rfl):j7 P κ N ⟨d,.load T x,ty,ps,af,gd⟩ L J (.agg #[M,v1]):=j7.ar6 TyI.h hx hb hc rfl
theorem Rb2{M:List (Nat×Operand)}{pl:Array (Nat×Nat)}[TyI P T (2,ag,by',z)][ap1 P T][PlI P T pl](hp:T6 L (M.map (·.2))=some vs:=by exact rfl)(hf:Instr.fill (pl[·]?) z.toArray ((M.map (·.1)).zip vs)=some [c0,c1].toArray:=by exact rfl):j7 P κ N ⟨d,.build T M.toArray,ty,ps,af,gd⟩ L J (.agg #[c0,c1]):=(ap1.h (P:=P) (T:=T)).elim λ_ hs=>j7.build TyI.h hs PlI.h hp hf
theorem Rl3{o:Nat}{M:Value}[TyI P T (3,true,by',z)](hx:er L x=some (.pointer (some ⟨b,o,none⟩)):=by exact rfl)(hb:e8 b cs E∈J:=by repeat (first|exact A_|apply C_))(hc:(cs.drop o).take 3=[M,v1,v2]:=by exact rfl):j7 P κ N ⟨d,.load T x,ty,ps,af,gd⟩ L J (.agg #[M,v1,v2]):=j7.ar6 TyI.h hx hb hc rfl
theorem Rb3{M:List (Nat×Operand)}{pl:Array (Nat×Nat)}[TyI P T (3,ag,by',z)][ap1 P T][PlI P T pl](hp:T6 L (M.map (·.2))=some vs:=by exact rfl)(hf:Instr.fill (pl[·]?) z.toArray ((M.map (·.1)).zip vs)=some [c0,c1,c2].toArray:=by exact rfl):j7 P κ N ⟨d,.build T M.toArray,ty,ps,af,gd⟩ L J (.agg #[c0,c1,c2]):=(ap1.h (P:=P) (T:=T)).elim λ_ hs=>j7.build TyI.h hs PlI.h hp hf
theorem Rl4{o:Nat}{M:Value}[TyI P T (4,true,by',z)](hx:er L x=some (.pointer (some ⟨b,o,none⟩)):=by exact rfl)(hb:e8 b cs E∈J:=by repeat (first|exact A_|apply C_))(hc:(cs.drop o).take 4=[M,v1,v2,v3]:=by exact rfl):j7 P κ N ⟨d,.load T x,ty,ps,af,gd⟩ L J (.agg #[M,v1,v2,v3]):=j7.ar6 TyI.h hx hb hc rfl
theorem Rb4{M:List (Nat×Operand)}{pl:Array (Nat×Nat)}[TyI P T (4,ag,by',z)][ap1 P T][PlI P T pl](hp:T6 L (M.map (·.2))=some vs:=by exact rfl)(hf:Instr.fill (pl[·]?) z.toArray ((M.map (·.1)).zip vs)=some [c0,c1,c2,c3].toArray:=by exact rfl):j7 P κ N ⟨d,.build T M.toArray,ty,ps,af,gd⟩ L J (.agg #[c0,c1,c2,c3]):=(ap1.h (P:=P) (T:=T)).elim λ_ hs=>j7.build TyI.h hs PlI.h hp hf
theorem Rl5{o:Nat}{M:Value}[TyI P T (5,true,by',z)](hx:er L x=some (.pointer (some ⟨b,o,none⟩)):=by exact rfl)(hb:e8 b cs E∈J:=by repeat (first|exact A_|apply C_))(hc:(cs.drop o).take 5=[M,v1,v2,v3,v4]:=by exact rfl):j7 P κ N ⟨d,.load T x,ty,ps,af,gd⟩ L J (.agg #[M,v1,v2,v3,v4]):=j7.ar6 TyI.h hx hb hc rfl
theorem Rb5{M:List (Nat×Operand)}{pl:Array (Nat×Nat)}[TyI P T (5,ag,by',z)][ap1 P T][PlI P T pl](hp:T6 L (M.map (·.2))=some vs:=by exact rfl)(hf:Instr.fill (pl[·]?) z.toArray ((M.map (·.1)).zip vs)=some [c0,c1,c2,c3,c4].toArray:=by exact rfl):j7 P κ N ⟨d,.build T M.toArray,ty,ps,af,gd⟩ L J (.agg #[c0,c1,c2,c3,c4]):=(ap1.h (P:=P) (T:=T)).elim λ_ hs=>j7.build TyI.h hs PlI.h hp hf
theorem Rl6{o:Nat}{M:Value}[TyI P T (6,true,by',z)](hx:er L x=some (.pointer (some ⟨b,o,none⟩)):=by exact rfl)(hb:e8 b cs E∈J:=by repeat (first|exact A_|apply C_))(hc:(cs.drop o).take 6=[M,v1,v2,v3,v4,v5]:=by exact rfl):j7 P κ N ⟨d,.load T x,ty,ps,af,gd⟩ L J (.agg #[M,v1,v2,v3,v4,v5]):=j7.ar6 TyI.h hx hb hc rfl
theorem Rb6{M:List (Nat×Operand)}{pl:Array (Nat×Nat)}[TyI P T (6,ag,by',z)][ap1 P T][PlI P T pl](hp:T6 L (M.map (·.2))=some vs:=by exact rfl)(hf:Instr.fill (pl[·]?) z.toArray ((M.map (·.1)).zip vs)=some [c0,c1,c2,c3,c4,c5].toArray:=by exact rfl):j7 P κ N ⟨d,.build T M.toArray,ty,ps,af,gd⟩ L J (.agg #[c0,c1,c2,c3,c4,c5]):=(ap1.h (P:=P) (T:=T)).elim λ_ hs=>j7.build TyI.h hs PlI.h hp hf
theorem Rl7{o:Nat}{M:Value}[TyI P T (7,true,by',z)](hx:er L x=some (.pointer (some ⟨b,o,none⟩)):=by exact rfl)(hb:e8 b cs E∈J:=by repeat (first|exact A_|apply C_))(hc:(cs.drop o).take 7=[M,v1,v2,v3,v4,v5,v6]:=by exact rfl):j7 P κ N ⟨d,.load T x,ty,ps,af,gd⟩ L J (.agg #[M,v1,v2,v3,v4,v5,v6]):=j7.ar6 TyI.h hx hb hc rfl
theorem Rb7{c6:Value}{M:List (Nat×Operand)}{pl:Array (Nat×Nat)}[TyI P T (7,ag,by',z)][ap1 P T][PlI P T pl](hp:T6 L (M.map (·.2))=some vs:=by exact rfl)(hf:Instr.fill (pl[·]?) z.toArray ((M.map (·.1)).zip vs)=some [c0,c1,c2,c3,c4,c5,c6].toArray:=by exact rfl):j7 P κ N ⟨d,.build T M.toArray,ty,ps,af,gd⟩ L J (.agg #[c0,c1,c2,c3,c4,c5,c6]):=(ap1.h (P:=P) (T:=T)).elim λ_ hs=>j7.build TyI.h hs PlI.h hp hf
theorem Rl25{o:Nat}{v0 v7 v8 v9 ad ak ar au ae ah ai ap M an aa aj ab aq ao:Value}[TyI P T (25,true,by',z)](hx:er L x=some (.pointer (some ⟨b,o,none⟩)):=by exact rfl)(hb:e8 b cs E∈J:=by repeat (first|exact A_|apply C_))(hc:(cs.drop o).take 25=[v0,v1,v2,v3,v4,v5,v6,v7,v8,v9,ad,ak,ar,au,ae,ah,ai,ap,M,an,aa,aj,ab,aq,ao]:=by exact rfl):j7 P κ N ⟨d,.load T x,ty,ps,af,gd⟩ L J (.agg #[v0,v1,v2,v3,v4,v5,v6,v7,v8,v9,ad,ak,ar,au,ae,ah,ai,ap,M,an,aa,aj,ab,aq,ao]):=j7.ar6 TyI.h hx hb hc rfl
theorem kMov{d:Option Tmp}{ty:TypeId}{ps:String}{af:Array Edge}{gd:Option (Nat×Bool)}(ho:o=⟨d,.move x,ty,ps,af,gd⟩:=by with_reducible exact rfl)(h:j7 P κ N ⟨d,.move x,ty,ps,af,gd⟩ L J v:=by first|exact j7.move rfl):j7 P κ N o L J v:=ho▸h
theorem kAsg{d:Option Tmp}{ty:TypeId}{ps:String}{af:Array Edge}{gd:Option (Nat×Bool)}(ho:o=⟨d,.assign x,ty,ps,af,gd⟩:=by with_reducible exact rfl)(h:j7 P κ N ⟨d,.assign x,ty,ps,af,gd⟩ L J v:=by first|exact j7.assign rfl):j7 P κ N o L J v:=ho▸h
theorem gf2{d:Option Tmp}{ty:TypeId}{ps:String}{af:Array Edge}{gd:Option (Nat×Bool)}(ho:o=⟨d,.pick c x y,ty,ps,af,gd⟩:=by with_reducible exact rfl)(h:j7 P κ N ⟨d,.pick c x y,ty,ps,af,gd⟩ L J v:=by first|exact Rpf rfl rfl|exact Rpt rfl rfl):j7 P κ N o L J v:=ho▸h
theorem kFld{d:Option Tmp}{ty:TypeId}{ps:String}{af:Array Edge}{gd:Option (Nat×Bool)}(ho:o=⟨d,.fieldAddr T x k,ty,ps,af,gd⟩:=by with_reducible exact rfl)(h:j7 P κ N ⟨d,.fieldAddr T x k,ty,ps,af,gd⟩ L J v:=by first|exact j7.fieldAddr U1.h rfl|exact Rf):j7 P κ N o L J v:=ho▸h
theorem kLd{d:Option Tmp}{ty:TypeId}{ps:String}{af:Array Edge}{gd:Option (Nat×Bool)}(ho:o=⟨d,.load T x,ty,ps,af,gd⟩:=by with_reducible exact rfl)(h:j7 P κ N ⟨d,.load T x,ty,ps,af,gd⟩ L J v:=by first|exact j7.ld TyI.h|exact Rgi|exact Rl2|exact Rl3|exact Rl4|exact Rl5|exact Rl6|exact Rl7|exact Rl25|exact Rgs|exact Rgf|exact RgB|exact Rg0):j7 P κ N o L J v:=ho▸h
theorem kExt{d:Option Tmp}{ty:TypeId}{ps:String}{af:Array Edge}{gd:Option (Nat×Bool)}(ho:o=⟨d,.extract x k,ty,ps,af,gd⟩:=by with_reducible exact rfl)(h:j7 P κ N ⟨d,.extract x k,ty,ps,af,gd⟩ L J v:=by first|exact j7.extract rfl rfl):j7 P κ N o L J v:=ho▸h
theorem kIdx{d:Option Tmp}{ty:TypeId}{ps:String}{af:Array Edge}{gd:Option (Nat×Bool)}(ho:o=⟨d,.indexAddr T x y,ty,ps,af,gd⟩:=by with_reducible exact rfl)(h:j7 P κ N ⟨d,.indexAddr T x y,ty,ps,af,gd⟩ L J v:=by first|exact Ri):j7 P κ N o L J v:=ho▸h
theorem kCal{d:Option Tmp}{ty:TypeId}{ps:String}{af:Array Edge}{gd:Option (Nat×Bool)}{c:Go.Call}(ho:o=⟨d,.call c,ty,ps,af,gd⟩:=by with_reducible exact rfl)(h:j7 P κ N ⟨d,.call c,ty,ps,af,gd⟩ L J v:=by first|exact j7.lens ca7.h rfl|exact Rlt|exact j7.min rfl rfl|exact j7.max rfl rfl):j7 P κ N o L J v:=ho▸h
theorem kBin{d:Option Tmp}{ty:TypeId}{ps:String}{af:Array Edge}{gd:Option (Nat×Bool)}{b:BinOp}{U:Nat}(ho:o=⟨d,.binOp b T x y U,ty,ps,af,gd⟩:=by with_reducible exact rfl)(h:j7 P κ N ⟨d,.binOp b T x y U,ty,ps,af,gd⟩ L J v:=by first|exact j7.lss rfl rfl|exact j7.neq rfl rfl|exact j7.eql rfl rfl|exact j7.gtr rfl rfl|exact j7.geq rfl rfl|exact j7.leq rfl rfl|exact Rad rfl rfl|exact Rsu rfl rfl):j7 P κ N o L J v:=ho▸h
theorem kUn{d:Option Tmp}{ty:TypeId}{ps:String}{af:Array Edge}{gd:Option (Nat×Bool)}{b:UnOp}(ho:o=⟨d,.unOp b T x,ty,ps,af,gd⟩:=by with_reducible exact rfl)(h:j7 P κ N ⟨d,.unOp b T x,ty,ps,af,gd⟩ L J v:=by first|exact RnT rfl|exact RnF rfl|exact j7.fm6 rfl|exact j7.not rfl):j7 P κ N o L J v:=ho▸h
theorem kNil{d:Option Tmp}{ty:TypeId}{ps:String}{af:Array Edge}{gd:Option (Nat×Bool)}(ho:o=⟨d,.nilCheck x,ty,ps,af,gd⟩:=by with_reducible exact rfl)(h:j7 P κ N ⟨d,.nilCheck x,ty,ps,af,gd⟩ L J v:=by first|exact j7.nilCheck rfl):j7 P κ N o L J v:=ho▸h
theorem kBld{d:Option Tmp}{ty:TypeId}{ps:String}{af:Array Edge}{gd:Option (Nat×Bool)}{a:Array (Nat×Operand)}(ho:o=⟨d,.build T a,ty,ps,af,gd⟩:=by with_reducible exact rfl)(h:j7 P κ N ⟨d,.build T a,ty,ps,af,gd⟩ L J v:=by first|exact Rb2|exact Rb3|exact Rb4|exact Rb5|exact Rb6|exact Rb7):j7 P κ N o L J v:=ho▸h
theorem Rn(h:j7 P κ N o L J v:=by first|exact kMov|exact kAsg|exact gf2|exact kFld|exact kLd|exact kExt|exact kIdx|exact kCal|exact kBin|exact kUn|exact kNil|exact kBld):j7 P κ N o L J v:=h
theorem wA(h:q8 N ops o L:=by first|exact q8.plain rfl|exact wOn rfl rfl rfl):q8 N ops o L:=h
theorem uA(h:H0 N ops o L:=by first|exact H0.und rfl rfl rfl|exact wOf rfl rfl rfl|exact wOg rfl rfl rfl):H0 N ops o L:=h
theorem Gx{d:Nat}(h:G P κ N ops Q rest ((d,v)::L) I)(M:q8 N ops ⟨some d,q,ty,ps,af,gd⟩ L:=by exact wA)(hr:j7 P κ N ⟨some d,q,ty,ps,af,gd⟩ L I v:=by exact Rn)(hN:Nat.blt d N.n=true:=by exact rfl):G P κ N ops Q (⟨some d,q,ty,ps,af,gd⟩::rest) L I:=G.read M rfl hN hr h
theorem Gy{d:Nat}{r:Nat×Bool}(h:G P κ N ops Q rest ((d,undef)::L) I)(M:H0 N ops ⟨some d,q,ty,ps,af,some r⟩ L:=by exact uA)(hN:Nat.blt d N.n=true:=by exact rfl):G P κ N ops Q (⟨some d,q,ty,ps,af,some r⟩::rest) L I:=G.pass M rfl hN h
theorem Wy{x y:Code}(M:er L c=some u)(h:W P κ N x Q L I)(hu:u = .bool true:=by with_reducible rfl):W P κ N (.cond c x y) Q L I:=W.yes (M.trans (Gb some hu)) h
theorem Wno{x y:Code}(M:er L c=some u)(h:W P κ N y Q L I)(hu:u = .bool false:=by with_reducible rfl):W P κ N (.cond c x y) Q L I:=W.no (M.trans (Gb some hu)) h
def dm6(ops:Array Oper)(listed:Array Bool)(stop i:Nat):Bool:=Region.noSelect ops&&Region.free .any ops listed i&&(Region.ready .any ops listed).contains i && !Nat.beq i stop&&N5 .any ops stop i
theorem ds4{i:Nat}(h:dm6 ops M stop i=true):Region.noSelect ops=true/\Region.free .any ops M i=true/\(Region.ready .any ops M).contains i=true/\Nat.beq i stop=false/\N5 .any ops stop i=true:=by
 unfold dm6 at h
 simp only [He,Kj] at h
 exact ⟨h.1.1.1.1,h.1.1.1.2,h.1.1.2,h.1.2,h.2⟩
theorem dy4(M:Fit κ I J:=by first|((repeat (first|exact Fit.refl _|apply Fit.tail|exact Fit.az0 _ _|apply Fit.dn5));done)|(refine Fit.K7 ?_;(repeat (first|exact Jp _|apply List.Sublist.cons_cons|apply List.Sublist.cons|exact Gn _ _));done)|(refine Fit.sp ?_;(repeat (first|exact Sp.refl _|refine Sp.pick ta4 ?_|apply Sp.skip|exact Sp.az0 _ _));done)):Fit κ I J:=M
theorem Dx{d:Nat}(i:Nat)(h:D P κ N ops Q J stop fuel (M.setIfInBounds i true) ((d,v)::L) I)(hi:ops[i]? = some ⟨some d,q,ty,ps,af,gd⟩:=by exact rfl)(hc:dm6 ops M stop i=true:=by decide+kernel)(hw:q8 N ops ⟨some d,q,ty,ps,af,gd⟩ L:=by exact wA)(aa:j7 P κ N ⟨some d,q,ty,ps,af,gd⟩ L J v:=by exact Rn)
  (hN:Nat.blt d N.n=true:=by exact rfl) (hQ:∀c a u w,Q (.panic c) (a.put (some d) u) w->Q (.panic c) a w:=by exact λ_ _ _ _ h=>h) (hJ:Fit κ I J:=by exact dy4):D P κ N ops Q J stop (fuel+1) M L I:=D.read i hi (ds4 hc).1 (ds4 hc).2.1 (ds4 hc).2.2.1 (ds4 hc).2.2.2.1 (ds4 hc).2.2.2.2 hQ hw rfl hN hJ aa h
theorem Dy{d:Nat}(i:Nat)(h:D P κ N ops Q J stop fuel (M.setIfInBounds i true) ((d,undef)::L) I)(hi:ops[i]? = some ⟨some d,q,ty,ps,af,gd⟩:=by exact rfl)(hc:dm6 ops M stop i=true:=by decide+kernel)(hw:H0 N ops ⟨some d,q,ty,ps,af,gd⟩ L:=by exact uA)
  (hN:Nat.blt d N.n=true:=by exact rfl) (hQ:∀c a u w,Q (.panic c) (a.put (some d) u) w->Q (.panic c) a w:=by exact λ_ _ _ _ h=>h) (hJ:Fit κ I J:=by exact dy4):D P κ N ops Q J stop (fuel+1) M L I:=D.pass i hi (ds4 hc).1 (ds4 hc).2.1 (ds4 hc).2.2.1 (ds4 hc).2.2.2.1 (ds4 hc).2.2.2.2 hQ hw rfl hN hJ h
theorem Dw(h:V κ N Q .normal L I)(hr:(Region.ready .any ops M).isEmpty=true:=by decide+kernel):D P κ N ops Q J stop fuel M L I:=D.done (List.isEmpty_iff.1 hr) h
theorem Dx1{d:Nat}(h:D P κ N ops Q J stop fuel ((M.setIfInBounds j true).setIfInBounds (j+1) true) ((d,v)::L) I)(hi:ops[j+1]? = some ⟨some d,q,ty,ps,af,gd⟩:=by exact rfl)(hc:dm6 ops (M.setIfInBounds j true) stop (j+1)=true:=by decide+kernel)(hw:q8 N ops ⟨some d,q,ty,ps,af,gd⟩ L:=by exact wA)(aa:j7 P κ N ⟨some d,q,ty,ps,af,gd⟩ L J v:=by exact Rn) 
  (hN:Nat.blt d N.n=true:=by exact rfl) (hQ:∀c a u w,Q (.panic c) (a.put (some d) u) w->Q (.panic c) a w:=by exact λ_ _ _ _ h=>h) (hJ:Fit κ I J:=by exact dy4):D P κ N ops Q J stop (fuel+1) (M.setIfInBounds j true) L I:=Dx (j+1) h hi hc hw aa hN hQ hJ
theorem Dy1{d:Nat}(h:D P κ N ops Q J stop fuel ((M.setIfInBounds j true).setIfInBounds (j+1) true) ((d,undef)::L) I)(hi:ops[j+1]? = some ⟨some d,q,ty,ps,af,gd⟩:=by exact rfl)(hc:dm6 ops (M.setIfInBounds j true) stop (j+1)=true:=by decide+kernel)(hw:H0 N ops ⟨some d,q,ty,ps,af,gd⟩ L:=by exact uA) 
  (hN:Nat.blt d N.n=true:=by exact rfl) (hQ:∀c a u w,Q (.panic c) (a.put (some d) u) w->Q (.panic c) a w:=by exact λ_ _ _ _ h=>h) (hJ:Fit κ I J:=by exact dy4):D P κ N ops Q J stop (fuel+1) (M.setIfInBounds j true) L I:=Dy (j+1) h hi hc hw hN hQ hJ
theorem Dx2{d:Nat}(h:D P κ N ops Q J stop fuel ((M.setIfInBounds j true).setIfInBounds (j+2) true) ((d,v)::L) I)(hi:ops[j+2]? = some ⟨some d,q,ty,ps,af,gd⟩:=by exact rfl)(hc:dm6 ops (M.setIfInBounds j true) stop (j+2)=true:=by decide+kernel)(hw:q8 N ops ⟨some d,q,ty,ps,af,gd⟩ L:=by exact wA)(aa:j7 P κ N ⟨some d,q,ty,ps,af,gd⟩ L J v:=by exact Rn) 
  (hN:Nat.blt d N.n=true:=by exact rfl) (hQ:∀c a u w,Q (.panic c) (a.put (some d) u) w->Q (.panic c) a w:=by exact λ_ _ _ _ h=>h) (hJ:Fit κ I J:=by exact dy4):D P κ N ops Q J stop (fuel+1) (M.setIfInBounds j true) L I:=Dx (j+2) h hi hc hw aa hN hQ hJ
theorem Dy2{d:Nat}(h:D P κ N ops Q J stop fuel ((M.setIfInBounds j true).setIfInBounds (j+2) true) ((d,undef)::L) I)(hi:ops[j+2]? = some ⟨some d,q,ty,ps,af,gd⟩:=by exact rfl)(hc:dm6 ops (M.setIfInBounds j true) stop (j+2)=true:=by decide+kernel)(hw:H0 N ops ⟨some d,q,ty,ps,af,gd⟩ L:=by exact uA) 
  (hN:Nat.blt d N.n=true:=by exact rfl) (hQ:∀c a u w,Q (.panic c) (a.put (some d) u) w->Q (.panic c) a w:=by exact λ_ _ _ _ h=>h) (hJ:Fit κ I J:=by exact dy4):D P κ N ops Q J stop (fuel+1) (M.setIfInBounds j true) L I:=Dy (j+2) h hi hc hw hN hQ hJ
theorem Dx3{d:Nat}(h:D P κ N ops Q J stop fuel ((M.setIfInBounds j true).setIfInBounds (j+3) true) ((d,v)::L) I)(hi:ops[j+3]? = some ⟨some d,q,ty,ps,af,gd⟩:=by exact rfl)(hc:dm6 ops (M.setIfInBounds j true) stop (j+3)=true:=by decide+kernel)(hw:q8 N ops ⟨some d,q,ty,ps,af,gd⟩ L:=by exact wA)(aa:j7 P κ N ⟨some d,q,ty,ps,af,gd⟩ L J v:=by exact Rn) 
  (hN:Nat.blt d N.n=true:=by exact rfl) (hQ:∀c a u w,Q (.panic c) (a.put (some d) u) w->Q (.panic c) a w:=by exact λ_ _ _ _ h=>h) (hJ:Fit κ I J:=by exact dy4):D P κ N ops Q J stop (fuel+1) (M.setIfInBounds j true) L I:=Dx (j+3) h hi hc hw aa hN hQ hJ
theorem Dy3{d:Nat}(h:D P κ N ops Q J stop fuel ((M.setIfInBounds j true).setIfInBounds (j+3) true) ((d,undef)::L) I)(hi:ops[j+3]? = some ⟨some d,q,ty,ps,af,gd⟩:=by exact rfl)(hc:dm6 ops (M.setIfInBounds j true) stop (j+3)=true:=by decide+kernel)(hw:H0 N ops ⟨some d,q,ty,ps,af,gd⟩ L:=by exact uA) 
  (hN:Nat.blt d N.n=true:=by exact rfl) (hQ:∀c a u w,Q (.panic c) (a.put (some d) u) w->Q (.panic c) a w:=by exact λ_ _ _ _ h=>h) (hJ:Fit κ I J:=by exact dy4):D P κ N ops Q J stop (fuel+1) (M.setIfInBounds j true) L I:=Dy (j+3) h hi hc hw hN hQ hJ
theorem Dx0{n:Nat}{d:Nat}(h:D P κ N ops Q J stop fuel ((Array.replicate n false).setIfInBounds 0 true) ((d,v)::L) I)(hi:ops[0]? = some ⟨some d,q,ty,ps,af,gd⟩:=by exact rfl)(hc:dm6 ops (Array.replicate n false) stop 0=true:=by decide+kernel)(hw:q8 N ops ⟨some d,q,ty,ps,af,gd⟩ L:=by exact wA)(M:j7 P κ N ⟨some d,q,ty,ps,af,gd⟩ L J v:=by exact Rn)
  (hN:Nat.blt d N.n=true:=by exact rfl) (hQ:∀c a u w,Q (.panic c) (a.put (some d) u) w->Q (.panic c) a w:=by exact λ_ _ _ _ h=>h) (hJ:Fit κ I J:=by exact dy4):D P κ N ops Q J stop (fuel+1) (Array.replicate n false) L I:=Dx 0 h hi hc hw M hN hQ hJ
def cat{α:Type}:List α->List α->List α
 |[],m=>m
 |x::l,m=>x::cat l m
def bw4:Code->Nat->Bool
 | .seq a b,k=>bw4 a k||bw4 b k
 | .cond _ a b,k=>bw4 a k||bw4 b k
 | .block _ c,k=>bw4 c k
 | .loop c,k=>bw4 c k
 | .scope c,k=>bw4 c k
 | .region _ l _,k=>l.toList.any λo=>match o.dst with |some d=>Nat.beq d k|none=>false
 |_,_=>false
inductive Kp (c:Code) (E:List Nat):List Nat->Env->Env->Prop
 |nil (s:List Nat):Kp c E s [] []
 |fn4 {s:List Nat} {k:Nat} {v:Value} {L L':Env} (h:((!(bw4 c k)||E.contains k) && !s.contains k)=true) (t:Kp c E (k::s) L L'):Kp c E s ((k,v)::L) ((k,v)::L')
 |drop {s:List Nat} {k:Nat} {v:Value} {L L':Env} (t:Kp c E (k::s) L L'):Kp c E s ((k,v)::L) L'
theorem Kp.get{c:Code}{E s:List Nat}{L L':Env}(h:Kp c E s L L'):∀p∈L',look L p.1=some p.2/\p.1∉s:=by
 induction h with
 |nil s=>intro p hp;cases hp
 | @fn4 s k v L L' h t ih=>
  intro p hp
  simp only [He,Kj] at h
  rcases Fy.1 hp with rfl|hp
  ·exact ⟨by rw [Z8,B_ rfl],by have:=h.2;simpa using this⟩
  have:=ih p hp
  simp only [Fy,not_or] at this
  exact ⟨by rw [Z8,An<|λe=>this.2.1 e.symm];exact this.1,this.2.2⟩
 | @drop s k v L L' t ih=>
  intro p hp
  have:=ih p hp
  simp only [Fy,not_or] at this
  exact ⟨by rw [Z8,An<|λe=>this.2.1 e.symm];exact this.1,this.2.2⟩
theorem Sub.of{L:Env}:∀{L':Env},(∀p∈L',look L p.1=some p.2)->Sub L L'
 |[],_=>Sub.nil
 |(k,v)::L',h=>Sub.cons (h (k,v) A_) (Sub.of λp M=>h p<|C_ _ M)
theorem Sub.cat{L L1 L2:Env}(M:Sub L L1)(h2:Sub L L2):Sub L (cat L1 L2):=by
 induction L1 with
 |nil=>exact h2
 |cons x l ih=>exact ⟨M.1,ih M.2⟩
theorem W.lq{c:Code}{σ:Type}{Lk:Env}{X:σ->Prop}(f:σ->Env)(F:σ->List Item)(p:σ->Prop)(μ:σ->Nat)(s0:σ)(hp:p s0)(M:∀s,p s->X s)
  (E:List Nat:=[]) (hk:Kp c E [] L Lk:=by repeat (first|exact Kp.nil _|(apply Kp.fn4;decide+kernel)|apply Kp.drop))
  (hL:Sub L (f s0):=by (try dsimp only);repeat (first|exact Sub.nil|refine Sub.cons rfl ?_|refine Sub.cons dw9 ?_|refine Sub.cons (dw8 rfl<|by first|rfl|simp) ?_)) (hI:Fit κ I (Sl.cat (F s0) J):=by dsimp only [Sl.cat];exact Fit.s)
  (hX:∀s,gj9 (X s)->W P κ N c (Exit.then (fe8 κ N (λs=>Sl.cat (f s) Lk) (λs=>Sl.cat (F s) J) p μ s) Q) (Sl.cat (f s) Lk) (Sl.cat (F s) J):=by intro s h;dsimp only [Sl.cat];exact h.h):W P κ N (.loop c) Q L I:=
 W.loop (λs=>Sl.cat (f s) Lk) (λs=>Sl.cat (F s) J) p μ s0 hp (Sub.cat hL<|Sub.of λq hq=>(hk.get q hq).1) hI λs h=>hX s ⟨M s h⟩
theorem hdG(h:G P κ N ops Q rest L I):G P κ N ops Q rest L I:=h
theorem hdD(h:D P κ N ops Q J stop fuel M L I):D P κ N ops Q J stop fuel M L I:=h
theorem hdW{c:Code}(h:W P κ N c Q L I):W P κ N c Q L I:=h
theorem hdC{x y:Code}(h:W P κ N (.cond c x y) Q L I):W P κ N (.cond c x y) Q L I:=h
theorem hdV{e:Exit}(h:V κ N Q e L I):V κ N Q e L I:=h
end
theorem Z{P Q:Prop}(q:Q) (h:gj9 Q->P:=by
 intro q
 repeat (first
  |(apply hdG;first|apply G.nt|refine Gx ?_|refine Gy ?_|apply G.nil)
  |(apply hdW;first|apply W.sr|apply W.seq|apply W.block|apply W.skip|apply W.region|apply W.ret|apply W.exit|(apply hdC;first|refine Wy rfl ?_|refine Wno rfl ?_))
  |(apply hdV;first|apply V.then|apply V.bv9|apply V.cj5|apply V.bg1|apply V.bz8|apply V.ay5|refine V.aw8 rfl ?_)
  |(apply hdD;first|refine Dx1 ?_|refine Dx0 ?_|refine Dy1 ?_|refine Dx2 ?_|refine Dy2 ?_|refine Dx3 ?_|refine Dy3 ?_|refine Dw ?_))
 exact q.h):P:=h ⟨q⟩
end Go.Sl
namespace Go.Sl
section
variable {P:Program}{κ:Ctx}{N:Frm}{Q:Exit->Act->World->Prop}{L:Env}{I:List Item}{ops:Array Oper}
theorem A.ho{fuel:Nat}{M:Array Bool}(stop:Nat)(h:D P κ N ops Q I stop fuel M L I):A P κ N ops Q fuel M L I:=A.hold I stop h
end
end Go.Sl
namespace Go.Sl
section
variable {α:Type}[Inhabited α]
theorem bn2(xs:List α)(k:Nat):e_ xs k=xs.getD k default:=by simp [e_]
theorem L0(xs:List α)(k:Nat)(h:k<xs.length):e_ xs k=xs[k]:=by simp [e_,h]
theorem at_mem{xs:List α}{i:Int}(M:0<=i)(h:i<xs.length):e_ xs i∈xs:=by
 rw [bi9 M h];exact List.getElem_mem _
theorem bo8(xs:List α)(k:Nat)(h:k<xs.length):xs.take (k+1)=xs.take k++[e_ xs k]:=by
 rw [L0 xs k h,List.take_succ_eq_append_getElem h]
theorem ar4{xs:List α}{x:α}(h:x∈xs):∃k,k<xs.length/\e_ xs k=x:=by
 obtain ⟨k,M,he⟩:=Jx.1 h
 exact ⟨k,M,by rw [L0 xs k M,he]⟩
theorem av6{xs:List α}{x:α}{k:Nat}(h:∀j,j<k->e_ xs j≠x)(hk:xs.length<=k):x∉xs:=λM=>by
 obtain ⟨j,hj,he⟩:=ar4 M
 exact h j (by omega) he
theorem R4(xs:List α)(i j:Int)(v:α)(hi:0<=i)(hj:0<=j)(M:i<xs.length):e_ (xs.set i.toNat v) j=if i=j then v else e_ xs j:=by
 unfold e_
 by_cases h:i=j
 ·subst h
  have:i.toNat<xs.length:=by omega
  simp [Hs,this]
 have:i.toNat≠j.toNat:=by omega
 simp [Hs,h,List.getElem?_set_ne this]
theorem ac7(xs ys:List α)(k:Nat)(h:k<xs.length):e_ (xs++ys) k=e_ xs k:=by
 rw [L0 _ k (by simp;omega),L0 _ k h,List.getElem_append_left h]
theorem fp0(xs:List α)(y:α):e_ (xs++[y]) xs.length=y:=by
 rw [L0 _ _ (by simp)];simp
theorem cp5(n:Nat)(i:Int)(d:α)(M:0<=i)(h:i<n):e_ (List.replicate n d) i=d:=by
 rw [bi9 M (by simpa using h)];simp
theorem ao4(xs:List α)(k:Nat)(h:k<xs.length):xs.drop k=e_ xs k::xs.drop (k+1):=by
 rw [L0 xs k h,Lh h]
end
theorem all_succ{p:Nat->Prop}{k:Nat}(h:∀j,j<k->p j)(hk:p k):∀j,j<k+1->p j:=λj hj=>by
 rcases Nat.lt_succ_iff_lt_or_eq.1 hj with M|M
 ·exact h j M
 subst M;exact hk
theorem all_zero{p:Nat->Prop}:∀j,j<0->p j:=λj M=>absurd M (Nat.not_lt_zero j)
end Go.Sl
namespace Go.Sl
structure cc1 {α:Type} (lt:α->α->Prop):Prop where
 irr:∀a,¬lt a a
 tr:∀a b c,lt a b->lt b c->lt a c
 tri:∀a b,lt a b\/a=b\/lt b a
section
variable {α:Type}{lt:α->α->Prop}
theorem cc1.asymm(h:cc1 lt){a b:α}(M:lt a b):¬lt b a:=λh2=>h.irr a (h.tr a b a M h2)
theorem cc1.ne(h:cc1 lt){a b:α}(M:lt a b):a≠b:=λe=>by subst e;exact h.irr a M
theorem cc1.uniq(h:cc1 lt):∀{l m:List α},l.Pairwise lt->m.Pairwise lt->(∀x,x∈l↔x∈m)->l=m
 |[],[],_,_,_=>rfl
 |[],y::ys,_,_,e=>absurd ((e y).2 A_) (by simp)
 |x::xs,[],_,_,e=>absurd ((e x).1 A_) (by simp)
 |x::xs,y::ys,hl,hm,e=>by
  obtain ⟨aa,ab⟩:=Gh.1 hl
  obtain ⟨M,ae⟩:=Gh.1 hm
  have ad:x=y:=by
   rcases Fy.1 ((e x).1 A_) with h1|h1
   ·exact h1
   rcases Fy.1 ((e y).2 A_) with h2|h2
   ·exact h2.symm
   exact absurd (aa y h2)<|h.asymm<|M x h1
  subst ad
  rw [h.uniq ab ae λz=>?_]
  constructor
  ·intro hz
   rcases Fy.1 ((e z).1 (C_ _ hz)) with h1|h1
   ·subst h1;exact absurd (aa z hz) (h.irr z)
   exact h1
  intro hz
  rcases Fy.1 ((e z).2 (C_ _ hz)) with h1|h1
  ·subst h1;exact absurd (M z hz) (h.irr z)
  exact h1
variable [DecidableRel lt][DecidableEq α]
variable (lt) in
def z8:List α->α->List α
 |[],x=>[x]
 |y::ys,x=>if lt y x then y::z8 ys x else if y=x then y::ys else x::y::ys
variable (lt) in
def dc9(l:List α):List α:=l.foldl (z8 lt) []
theorem ar3(x y:α):∀l,y∈z8 lt l x↔y=x\/y∈l
 |[]=>by simp [z8]
 |z::zs=>by
  simp only [z8]
  split
  ·simp only [Fy,ar3 x y zs]
   constructor
   ·rintro (h|h|h)<;>simp [h]
   rintro (h|h|h)<;>simp [h]
  split
  ·rename_i e;subst e;simp
  simp
theorem cc1.z8(h:cc1 lt)(x:α):∀{l:List α},l.Pairwise lt->(Sl.z8 lt l x).Pairwise lt
 |[],_=>by simp [Sl.z8]
 |y::ys,hl=>by
  obtain ⟨aa,ab⟩:=Gh.1 hl
  simp only [Sl.z8]
  split
  ·rename_i hyx
   refine Gh.2 ⟨λz hz=>?_,h.z8 x ab⟩
   rcases (ar3 x z ys).1 hz with rfl|hz
   ·exact hyx
   exact aa z hz
  rename_i hyx
  split
  ·exact hl
  rename_i hne
  have M:lt x y:=by
   rcases h.tri x y with h1|h1|h1
   ·exact h1
   ·exact absurd h1.symm hne
   exact absurd h1 hyx
  refine Gh.2 ⟨λz hz=>?_,hl⟩
  rcases Fy.1 hz with rfl|hz
  ·exact M
  exact h.tr _ _ _ M<|aa z hz
theorem cc1.fy9(h:cc1 lt):∀(l acc:List α),acc.Pairwise lt->(l.foldl (Sl.z8 lt) acc).Pairwise lt
 |[],acc,ha=>ha
 |x::l,acc,ha=>h.fy9 l _ (h.z8 x ha)
theorem cc1.dc9(h:cc1 lt)(l:List α):(Sl.dc9 lt l).Pairwise lt:=h.fy9 l [] List.Pairwise.nil
end
section
variable {α:Type}{lt:α->α->Prop}[Inhabited α]
theorem an6(l:List α):l.Pairwise lt↔∀i j:Nat,i<j->j<l.length->lt (e_ l i) (e_ l j):=by
 rw [Ha]
 constructor
 ·intro h i j M hj
  rw [L0 l i (by omega),L0 l j hj];exact h i j (by omega) hj M
 intro h i j hi hj M
 have:=h i j M hj
 rwa [L0 l i (by omega),L0 l j hj] at this
theorem bq1(M:∀a b c,lt a b->lt b c->lt a c){l:List α}(h:∀i:Nat,i+1<l.length->lt (e_ l i) (e_ l ((i+1:Nat):Int))):l.Pairwise lt:=by
 rw [an6]
 intro i j aa
 induction j with
 |zero=>omega
 |succ j ih=>
  intro hj
  by_cases e:i=j
  ·subst e;exact h i hj
  exact M _ _ _ (ih (by omega)<|by omega)<|h j hj
end
structure Pt where
 u:Int
 v:Int
deriving Inhabited,DecidableEq
instance:Enc Pt:=⟨λa=>[e7 a.u,e7 a.v],2,by omega,λ_=>rfl,λa x h=>by
 simp only [Fy,Kc,Mq] at h
 rcases h with rfl|rfl<;>rfl⟩
def Pt.lt(a b:Pt):Prop:=a.u<b.u\/(a.u=b.u/\a.v<b.v)
instance:DecidableRel Pt.lt:=λa b=>by unfold Pt.lt;infer_instance
theorem Pt.lin:cc1 Pt.lt where
 irr a h:=by unfold Pt.lt at h;omega
 tr a b c h1 h2:=by unfold Pt.lt at *; omega
 tri a b:=by
  unfold Pt.lt
  by_cases h:a=b
  ·exact .inr<|.inl h
  have:¬(a.u=b.u/\a.v=b.v):=λe=>h (by cases a;cases b;simp_all)
  omega
theorem Pt.bs3(a b:Pt):a=b↔a.u=b.u/\a.v=b.v:=by
 constructor
 ·rintro rfl;exact ⟨rfl,rfl⟩
 intro e;cases a;cases b;simp_all
def Pt.cmp(a b:Pt):Int:=if a.u<b.u then -1 else if b.u<a.u then 1 else if a.v<b.v then -1 else if b.v<a.v then 1 else 0
theorem Pt.V8(a b:Pt):Pt.cmp a b<0↔Pt.lt a b:=by unfold Pt.cmp Pt.lt;split<;>(try split)<;>(try split)<;>(try split)<;>omega
abbrev fj4(l:List Pt):Prop:=l.Pairwise Pt.lt
end Go.Sl
namespace Go.Sl
section
variable {α:Type}(bad:α->Int)(lt:α->α->Prop)[DecidableRel lt]
def R9[Inhabited α](xs:List α)(k:Nat):Option α:=if k=0 then none else some (e_ xs ((k:Int) - 1))
def P5:Option α->List α->Int
 |_,[]=>0
 |none,p::ps=>if bad p≠0 then bad p else P5 (some p) ps
 |some q,p::ps=>if bad p≠0 then bad p else if lt q p then P5 (some p) ps else 5
variable {bad lt}[Inhabited α]{xs:List α}{k:Nat}
theorem ce0:R9 xs (k+1)=some (e_ xs k):=by
 unfold R9;rw [An (by omega)];congr 2;omega
theorem cs5(hk:k<xs.length)(M:bad (e_ xs k)=0)(h2:0<k->lt (e_ xs ((k:Int) - 1)) (e_ xs k)) :
  P5 bad lt (R9 xs k) (xs.drop k)=P5 bad lt (R9 xs<|k+1) (xs.drop<|k+1):=by
 rw [ao4 xs k hk,ce0]
 unfold R9
 split
 ·simp only [P5];rw [An (by simp [M])]
 simp only [P5];rw [An (by simp [M]),B_<|h2<|by omega]
theorem dd1(hk:k<xs.length)(M:bad (e_ xs k)≠0):P5 bad lt (R9 xs k) (xs.drop k)=bad (e_ xs k):=by
 rw [ao4 xs k hk]
 unfold R9
 split
 ·simp only [P5];rw [B_ M]
 simp only [P5];rw [B_ M]
theorem af1(hk:k<xs.length)(M:bad (e_ xs k)=0)(h0:0<k)(h2:¬lt (e_ xs ((k:Int) - 1)) (e_ xs k)):P5 bad lt (R9 xs k) (xs.drop k)=5:=by
 rw [ao4 xs k hk]
 unfold R9
 rw [An (by omega)]
 simp only [P5];rw [An (by simp [M]),An h2]
theorem aq3(M:xs.length<=k):P5 bad lt (R9 xs k) (xs.drop k)=0:=by
 rw [Hb M]
 cases R9 xs k<;>rfl
theorem ah8(hlt:cc1 lt):∀(xs:List α) (q:α),P5 bad lt (some q) xs=0↔(∀x∈xs,bad x=0)/\(q::xs).Pairwise lt
 |[],q=>by simp [P5]
 |p::ps,q=>by
  simp only [P5]
  by_cases h1:bad p=0
  ·rw [An (by simp [h1])]
   by_cases h2:lt q p
   ·rw [B_ h2,ah8 hlt ps p]
    constructor
    ·rintro ⟨a,b⟩
     refine ⟨λx hx=>?_,Gh.2 ⟨λx hx=>?_,b⟩⟩
     ·rcases Fy.1 hx with rfl|hx
      ·exact h1
      exact a x hx
     rcases Fy.1 hx with rfl|hx
     ·exact h2
     exact hlt.tr _ _ _ h2<|(Gh.1 b).1 x hx
    rintro ⟨a,b⟩
    exact ⟨λx hx=>a x<|C_ _ hx,(Gh.1 b).2⟩
   rw [An h2]
   refine ⟨λh=>by simp at h,λh=>absurd ((Gh.1 h.2).1 p A_) h2⟩
  rw [B_ h1]
  exact ⟨λh=>absurd h h1,λh=>h.1 p A_⟩
theorem cs4(hlt:cc1 lt)(xs:List α):P5 bad lt none xs=0↔(∀x∈xs,bad x=0)/\xs.Pairwise lt:=by
 cases xs with
 |nil=>simp [P5]
 |cons p ps=>
  simp only [P5]
  by_cases h1:bad p=0
  ·rw [An (by simp [h1]),ah8 hlt]
   constructor
   ·rintro ⟨a,b⟩
    refine ⟨λx hx=>?_,b⟩
    rcases Fy.1 hx with rfl|hx
    ·exact h1
    exact a x hx
   rintro ⟨a,b⟩
   exact ⟨λx hx=>a x<|C_ _ hx,b⟩
  rw [B_ h1]
  exact ⟨λh=>absurd h h1,λh=>h.1 p A_⟩
end
end Go.Sl
namespace Go.Sl
def p7:Nat->(Nat->Int)->Int
 |0,_=>0
 |m+1,g=>p7 m g+g m
theorem p4:∀(m:Nat) {g h:Nat->Int},(∀k,k<m->g k=h k)->p7 m g=p7 m h
 |0,_,_,_=>rfl
 |m+1,g,h,e=>by simp only [p7];rw [p4 m (λk M=>e k<|by omega),e m<|by omega]
theorem F8:∀(m:Nat) (g h:Nat->Int),p7 m (λk=>g k+h k)=p7 m g+p7 m h
 |0,_,_=>rfl
 |m+1,g,h=>by simp only [p7];rw [F8 m];omega
theorem ad1:∀(m:Nat),p7 m (λ_=>0)=0
 |0=>rfl
 |m+1=>by simp only [p7];rw [ad1 m];rfl
theorem R2(m:Nat){g:Nat->Int}(h:∀k,k<m->g k=0):p7 m g=0:=by rw [p4 m h,ad1]
theorem G5(m p:Nat)(g:Nat->Nat->Int):p7 m (λi=>p7 p (λj=>g i j))=p7 p (λj=>p7 m (λi=>g i j)):=by
 induction m with
 |zero=>simp only [p7];rw [ad1]
 |succ m ih=>simp only [p7];rw [ih,←F8]
theorem R7{m k:Nat}(hk:k<m)(c:Int):p7 m (λj=>if j=k then c else 0)=c:=by
 induction m with
 |zero=>omega
 |succ m ih=>
  simp only [p7]
  by_cases h:k=m
  ·subst h
   rw [R2 k λj M=>by rw [An (by omega)],B_ rfl];omega
  rw [ih (by omega),An<|by omega];omega
theorem ap9{m k:Nat}(hk:k<m){g h:Nat->Int}(e:∀j,j<m->j≠k->h j=g j):p7 m h=p7 m g+(h k - g k):=by
 have h1:p7 m h=p7 m (λj=>g j+if j=k then h k - g k else 0):=p4 m λj M=>by
  by_cases hjk:j=k
  ·subst hjk;simp;omega
  rw [An hjk,e j M hjk];omega
 rw [h1,F8,R7 hk]
end Go.Sl
namespace Go.Sl
section
variable {l:List Pt}{n:Nat}
theorem ca3{i j:Nat}(h:fj4 l)(M:i<j)(hj:j<l.length):Pt.lt (e_ l i) (e_ l j):=(an6 l).1 h i j M hj
end
end Go.Sl
namespace Go.Sl
end Go.Sl
namespace Go.Sl
variable{xs:List Int}{k:Nat}
def bu4(a b:Int):Int:=if a<b then -1 else if b<a then 1 else 0
def orL:List Int->Int
 |[]=>0
 |x::xs=>if x≠0 then x else orL xs
theorem dv4(M:k<xs.length)(h:e_ xs k≠0):orL (xs.drop k)=e_ xs k:=by
 rw [ao4 xs k M];simp only [orL];rw [B_ h]
theorem dv5(M:k<xs.length)(h:e_ xs k=0):orL (xs.drop k)=orL (xs.drop (k+1)):=by
 rw [ao4 xs k M];simp only [orL];rw [An (by simp [h])]
theorem fm2(M:xs.length<=k):orL (xs.drop k)=0:=by rw [Hb M];rfl
theorem de8(a b:Pt):orL [bu4 a.u b.u,bu4 a.v b.v]=Pt.cmp a b:=by
 simp only [orL,bu4,Pt.cmp]
 split<;>(try split at *)<;>(try split at *)<;>(try split at *)<;>(try split at *)<;>(try split at *)<;>omega
end Go.Sl
namespace Go.Sl
structure s8 (nodes:Int) (es:List Pt):Prop where
 rng:0<=nodes/\nodes<=64
 asc:fj4 es
 aa9:∀e∈es,0<=e.u/\e.u<e.v/\e.v<nodes
def bt1(nodes:Int)(e:Pt):Int:=if e.u<0\/e.v<=e.u\/nodes<=e.v then 6 else 0
def F6(nodes:Int)(es:List Pt):Int:=if nodes<0\/64<nodes then 1 else P5 (bt1 nodes) Pt.lt none es
theorem W1{nodes:Int}{e:Pt}:bt1 nodes e=0↔0<=e.u/\e.u<e.v/\e.v<nodes:=by
 unfold bt1;split<;>omega
theorem s4{nodes:Int}{es:List Pt}:F6 nodes es=0↔s8 nodes es:=by
 unfold F6
 split
 ·rename_i h
  exact ⟨λe=>by omega,λe=>by have:=e.rng;omega⟩
 rename_i h
 rw [cs4 Pt.lin]
 constructor
 ·rintro ⟨M,h2⟩;exact ⟨by omega,h2,λe he=>W1.1<|M e he⟩
 intro M;exact ⟨λe he=>W1.2<|M.aa9 e he,M.asc⟩
variable {nodes:Int}{es:List Pt}
theorem s8.at(h:s8 nodes es){k:Nat}(M:k<es.length):0<=(e_ es k).u/\(e_ es k).u<(e_ es k).v/\(e_ es k).v<nodes:=h.aa9 _ (at_mem (by omega) (by omega))
theorem s8.prev(h:s8 nodes es){k:Nat}(M:k<es.length)(h0:0<k):Pt.lt (e_ es ((k:Int) - 1)) (e_ es k):=by
 have:=ca3 h.asc (i:=k - 1) (j:=k) (by omega) M
 rwa [show ((k - 1:Nat):Int)=(k:Int) - 1 from by omega] at this
theorem dn2{l:List Pt}(h:fj4 l):l.Nodup:=h.imp fun {a b} h e=>Pt.lin.ne h e
end Go.Sl
namespace Go.Sl
variable{x y:Operand}{S T U:TypeId}{m n:Int}
section
variable {P:Program}{κ:Ctx}{N:Frm}{Q:Exit->Act->World->Prop}{L:Env}{I J:List Item}
variable {d:Option Tmp}{ty:TypeId}{ps:String}{af:Array Edge}{gd:Option (Nat×Bool)}
theorem j7.fz2{k k' q:IntKind}(hs:P.underlying S=some (.int q))(ht:P.underlying T=some (.int k))(M:er L x=some (.int k' n)) :
  j7 P κ N ⟨d,.convert S T x,ty,ps,af,gd⟩ L J (.int k<|k.wrap n):=λa w ha _=>by
 simp [execOp,ha.eval M,convert,run_underlying hs,run_underlying ht,Conv.intToInt]
theorem j7.dm1{k' q:IntKind}(hs:P.underlying S=some (.int q))(ht:P.underlying T=some (.int .i64))(M:er L x=some (.int k' n))(hr:InR n) :
  j7 P κ N ⟨d,.convert S T x,ty,ps,af,gd⟩ L J (e7 n):=by
 have h:=j7.fz2 (P:=P) (κ:=κ) (N:=N) (J:=J) (d:=d) (ty:=ty) (ps:=ps) (af:=af) (gd:=gd) hs ht M
 rwa [hr.wrap] at h
theorem j7.fz3{k' q:IntKind}(hs:P.underlying S=some (.int q))(ht:P.underlying T=some (.int .u64))(M:er L x=some (.int k' n))(hr:0<=n/\n<=18446744073709551615) :
  j7 P κ N ⟨d,.convert S T x,ty,ps,af,gd⟩ L J (.int .u64 n):=by
 have h:=j7.fz2 (P:=P) (κ:=κ) (N:=N) (J:=J) (d:=d) (ty:=ty) (ps:=ps) (af:=af) (gd:=gd) hs ht M
 rwa [Go.IntWalk.u64_in _ hr] at h
theorem j7.gi7{k k':IntKind}(hx:er L x=some (.int k m))(hy:er L y=some (.int k' n))(h0:0<=n) :
  j7 P κ N ⟨d,.binOp .shr T x y U,ty,ps,af,gd⟩ L J (.int k<|m.fdiv<|2 ^ Min.min n.toNat k.bits):=λa w M _=>by
 have h:¬n<0:=by omega
 simp only [execOp,M.eval hx,M.eval hy]
 simp [go_sem,Op.shift,h]
theorem j7.shlw{k k':IntKind}(hx:er L x=some (.int k m))(hy:er L y=some (.int k' n))(h0:0<=n) :
  j7 P κ N ⟨d,.binOp .shl T x y U,ty,ps,af,gd⟩ L J (.int k<|k.wrap<|m*2 ^ Min.min n.toNat k.bits):=λa w M _=>by
 have h:¬n<0:=by omega
 simp only [execOp,M.eval hx,M.eval hy]
 simp [go_sem,Op.shift,h]
theorem j7.gi8{k':IntKind}(M:er L x=some (.int .u64 m))(hy:er L y=some (.int k' 1)) :
  j7 P κ N ⟨d,.binOp .shr T x y U,ty,ps,af,gd⟩ L J (.int .u64<|m / 2):=by
 have h:=j7.gi7 (P:=P) (κ:=κ) (N:=N) (J:=J) (d:=d) (ty:=ty) (ps:=ps) (af:=af) (gd:=gd) (T:=T) (U:=U) M hy (by decide)
 have e:m.fdiv (2 ^ Min.min (1:Int).toNat IntKind.u64.bits)=m / 2:=by
  rw [show (2:Int) ^ Min.min (1:Int).toNat IntKind.u64.bits=2 by decide]
  exact Int.fdiv_eq_ediv_of_nonneg _<|by decide
 rwa [e] at h
theorem V.gd9{fn:Func}{t u s:Tmp}{T b E sz by':Nat}{z cs:List Value}{v' ab:Value}{Post:Value->List Item->Prop}(hr:fn.results = #[.cell t T,.tmp u,.tmp s])(hT:tyF P T=some (sz,true,by',z))(hv:look L t=some ((pt b)))(ae:look L u=some v')(ad:look L s=some ab)(hb:e8 b cs E∈I)
  (hl:cs.length=sz) (J:List Item) (hf:Fit κ I J) (hp:Post (.tuple #[.agg cs.toArray,v',ab]) J) (h0:N.ds=[]:=by rfl):V κ N (bodyPost P fn<|ch6 κ Post) .ret L I:=
 λa w ha hs=>by
  have aa:=λj=>am2 (w:=w) (hs.ok _ hb).1 j
  have M:(loadVar T ⟨b,0,none⟩).run P w = .ok (.agg cs.toArray) w:=aa0 hT hl λj u hj=>by rw [G9,aa,←hj];simp
  refine bodyPost_ret (v:= .tuple #[.agg cs.toArray,v',ab]) ?_ (ha.defers.trans h0) ⟨_,J,rfl,hp,hf w hs⟩
  simp [results,hr,ha.get t _ hv,ha.get u _ ae,ha.get s _ ad,asAddr,M]
end
end Go.Sl
namespace Go.Sl
open Go.RowKit (Below)
variable{w:World}{by' c dd e k m n q sz t:Nat}{cs ds z:List Value}{x y:Operand}{ag:Bool}{ad:Option Addr}
section
variable {P:Program}{κ:Ctx}{N:Frm}{Q:Exit->Act->World->Prop}{L:Env}{I J:List Item}{ops:Array Oper}{rest:List Oper}
variable {d:Option Tmp}{ty:TypeId}{ps:String}{af:Array Edge}{gd:Option (Nat×Bool)}
theorem aa3{v:Value}(h:da4 w sz v m ds)(hq:q<=m):(Builtin.firstCells sz q v).run P w = .ok (ds.take (q*sz)).toArray w:=by
 obtain ⟨a,cap,rfl,h1,h2,h3,h4⟩:=h
 have aa:q*sz<=m*sz:=Hk _ hq
 by_cases hc:0<cap
 ·obtain ⟨b,off,rfl,hr⟩:=h4 hc
  exact run_firstCells_some w sz q _ m cap _ (by rw [Fr];omega) λj u M=>by
   rw [G9]
   rw [Jf] at M
   split at M
   ·exact hr j u M
   cases M
 obtain rfl:m=0:=by omega
 obtain rfl:q=0:=by omega
 cases a with
 |none=>simp [Builtin.firstCells]
 |some a=>rw [run_firstCells_some w sz 0 a 0 cap [] (by simp) (by simp)];simp
theorem da7{e:TypeId}{b off:Nat}{vs:List Value}{M:Array Value}(hl:cs.length=n*sz)(ab:n<=c)(ad:c<=maxLen)(hb:w.heap[b]? = some (.cells M e (0,0)))
  (ae:off+c*sz<=M.size) (aa:∀j u,cs[j]? = some u->M[off+j]? = some u) (hk:k+vs.length<=cs.length) :
  au6 (w.setRow b (M.toList.take (off+k)++vs++M.toList.drop (off+k+vs.length)).toArray) e sz (.slice (some ⟨b,off,none⟩) n c) n (cs.take k++vs++cs.drop (k+vs.length)):=by
 have ah:n*sz<=c*sz:=Hk _ ab
 refine ⟨_,c,rfl,by simp only [By,Fr,Fz];omega,ab,ad,λhc=>⟨b,off,_,rfl,setRow_heap w b M _ e _ hb,?_,λj u' hj=>?_⟩⟩
 ·simp only [Jj,By,Fr,Fz,Hj];omega
 have ai:j<cs.length:=by have:=(G_.1 hj).1;simp only [By,Fr,Fz] at this;omega
 have hA:(M.toList.take<|off+k).length=off+k:=by simp only [Fr,Hj];omega
 have hB:(cs.take k).length=k:=by simp only [Fr];omega
 simp only [Jn]
 rw [Fu] at hj
 rw [Fu]
 by_cases hjk:j<k
 ·rw [Gv (by omega),Jf,B_ hjk] at hj
  rw [Gv (by omega),Jf,B_<|by omega]
  simpa using aa j u' hj
 rw [Hh (by omega),hB] at hj
 rw [Hh (by omega),hA,show off+j - (off+k)=j - k from by omega]
 by_cases hjv:j - k<vs.length
 ·rw [Gv hjv] at hj
  rw [Gv hjv]
  exact hj
 rw [Hh (by omega),Jw,show k+vs.length+(j - k - vs.length)=j from by omega] at hj
 rw [Hh (by omega),Jw,show off+k+vs.length+(j - k - vs.length)=off+j from by omega]
 simpa using aa j u' hj
theorem Eff.cg3{t' n':Nat}{u:Value}{I':List Item}(ht:P.underlying t=some (.slice e))(hT:tyF P e=some (sz,ag,by',z))
  (hx:er L x=some (.slice (N9 ad c k sz) n'<|c - k)) (ay:n'=n - k) (hy:er L y=some u) (hu:au2 κ I sz u m ds) (hk:k<=n) (hq:q=min m (n - k)) (h1:∀w∈ds.take (q*sz),w.oneCell'=true) (hN:Nat.blt dd N.n=true)
  (an:At I (vec e sz (.slice ad n c) n cs) (vec e sz (.slice ad n c) n<|cs.take (k*sz)++ds.take (q*sz)++cs.drop (k*sz+q*sz)) I') :
  Eff P κ N Q ⟨some dd,.call {callee:= .builtin .copy,args:= #[x,y],argTypes:= #[t,t']},ty,ps,af,gd⟩ L I λL' I''=>L'=(dd,e7 q)::L/\I''=I':=
 Eff.Q4 rfl hN λa w ha hs=>by
  subst ay
  obtain ⟨a',az,hv,hl,ap,av,ao⟩:=(hs.ok _ an.mem).1
  cases hv
  have aj:=hu w hs
  have M:=ah9 (P:=P) aj
  have a1:m*sz<=ds.length:=by obtain ⟨_,_,_,h,_⟩:=aj;omega
  have a3:q*sz<=m*sz:=Hk _ (by omega)
  have ak:=aa3 (P:=P) aj (show q<=m by omega)
  have ab:m.min (n - k)=q:=hq.symm
  have ai:(ds.take<|q*sz).length=q*sz:=by rw [Fr];omega
  have a0:q*sz+k*sz<=n*sz:=by rw [←Jh];exact Hk _ (by omega)
  by_cases hq0:q=0
  ·subst hq0
   refine ⟨e7 0,w,I',?_,⟨rfl,rfl⟩,?_⟩
   ·cases ae:N9 ad c k sz with
    |none=>simp [execOp,resolve,invoke,builtin,ha.eval hx,ha.eval hy,Builtin.copy_,run_underlying ht,M,run_sizeOf hT,ab,ak,ae,goInt]
    |some aa=>simp [execOp,resolve,invoke,builtin,ha.eval hx,ha.eval hy,Builtin.copy_,run_underlying ht,M,run_sizeOf hT,ab,ak,ae,goInt,storeCells]
   refine Fit.upd an (λw hw=>?_) w hs
   have e:cs.take (k*sz)++ds.take (0*sz)++cs.drop (k*sz+0*sz)=cs:=by simp
   rw [e]
   exact ⟨hw,λ_ h=>h⟩
  obtain ⟨b,off,au,rfl,hb,ah,ar⟩:=ao (by omega)
  have aq:=run_storeCells_at P b (off+k*sz) e (ds.take (q*sz)) 0 au w hb (by
   have:=Hk sz ap
   simp only [K_];omega) h1
  simp only [K_] at aq
  have ae:N9 (some ⟨b,off,none⟩) c k sz=some ⟨b,off+k*sz,none⟩:=by unfold N9;rw [An (by omega)];simp [G9]
  refine ⟨e7 q,_,I',by simp only [execOp,resolve,invoke,builtin,Jq,Hi,Ks,ha.eval hx,ha.eval hy];simp [Builtin.copy_,run_underlying ht,M,run_sizeOf hT,ab,ak,ae,goInt];rw [aq];simp only [Result.andThen_ok];rfl,⟨rfl,rfl⟩,?_⟩
  refine hs.upd an rfl ⟨rfl,Gg _⟩ rfl (by simp) (λk' _ ax=>setRow_other w b k' _ λe=>ax<|by subst e;exact ⟨off,n,c,rfl,by omega⟩) ?_ λk' aw=> .inl ?_
  ·have:=da7 (k:=k*sz) (vs:=ds.take (q*sz)) hl ap av hb ah ar (by rw [ai];omega)
   rw [ai] at this
   rw [ai]
   exact this
  exact aw
theorem vec.room{e:TypeId}{h:Nat}(hh:n<=h)(hc:h<=c):∀w,(vec e sz (.slice ad n c) n cs).ok w->∃js:List Value,js.length=(h - n)*sz/\(vec e sz (.slice ad h c) h (cs++js)).ok w:=by
 intro w hw
 obtain ⟨a',ak,hv,hl,an,ae,ab⟩:=hw
 cases hv
 by_cases hc0:0<c
 ·obtain ⟨b,off,aa,rfl,hb,M,ah⟩:=ab hc0
  have aj:h*sz<=c*sz:=Hk _ hc
  have ai:n*sz+(h - n)*sz=h*sz:=by rw [←Jh];congr 1;omega
  refine ⟨(aa.toList.drop<|off+n*sz).take ((h - n)*sz),by simp only [Fr,Fz,Hj];omega,_,c,rfl,by simp only [By,Fr,Fz,Hj];omega,hc,ae,λ_=>⟨b,off,aa,rfl,hb,M,λj u hj=>?_⟩⟩
  by_cases hjn:j<cs.length
  ·rw [Gv hjn] at hj;exact ah j u hj
  rw [Hh (by omega),Jf] at hj
  split at hj
  ·rw [Jw,show off+n*sz+(j - cs.length)=off+j from by omega] at hj
   simpa using hj
  cases hj
 obtain rfl:h=0:=by omega
 obtain rfl:n=0:=by omega
 exact ⟨[],by simp,_,c,rfl,by simpa using hl,by omega,ae,λh=>absurd h hc0⟩
theorem Eff.grow{α:Type}[Enc α][Inhabited α]{xs:List α}{u i:Nat}{m:Int}(ht:P.underlying t=some (.slice e))(hu:P.underlying u=some (.int .i64))(hT:tyF P e=some (Enc.sz α,ag,by',z))(hz:z=Enc.enc (default:α))
  (hx:er L x=some (.slice ad i c)) (hy:er L y=some (e7 m)) (hm:m=(k:Int)) (hv:Sl κ I (.slice ad xs.length c) xs) (hi:i<=xs.length) (hk:0<k) (hg:c<i+k) (ai:(i+k)*by'<=140737488355328) (ao:0<by') (hN:Nat.blt dd N.n=true) :
  Eff P κ N Q ⟨some dd,.call {callee:= .builtin .append,args:= #[x,y],argTypes:= #[t,u]},ty,ps,af,gd⟩ L I λL' I''=>∃ad' c',L'=(dd,.slice ad' (i+k) c')::L/\I''=vc e (.slice ad' (i+k) c') (xs.take i++List.replicate k (default:α))::I:=
 Eff.Q4 rfl hN λa w ha hs=>by
  subst hm
  obtain ⟨i0,zv,d0,ay,ax,a0,aw,az,ak,ar⟩:=ae8 hT
  have ae:=Enc.pos (α:=α)
  have aq:i+k<=maxLen:=by
   have:=Lo (i+k) ao
   simp only [maxLen];omega
  have ah:=(Sl.take hv hi) w.drew (hs.drew)
  have hlt:(xs.take i).length=i:=by rw [Fr];omega
  rw [hlt] at ah
  have hold:=aa3 (P:=P) ah (Gg i)
  have aj:(cells<|xs.take i).length=i*Enc.sz α:=by rw [r8,hlt]
  rw [Fx (by omega)] at hold
  have ap:=Go.Lib.run_append_grow_zeros (P:=P) w t u ty e i0 zv .i64 .i64 ht hu ay ax ad i c (cells<|xs.take i) (by rw [aw];exact hold) k hk (by omega) hg (by simp only [maxLen] at aq;omega)
   (by rw [ak];rw [Jh] at ai;omega) (growslice_fits hg<|by rw [ak];exact ai)
  have an:=grownCap_ge w (i+k) c e
  have av:=grownCap_le_maxLen w (i+k) c e aq
  have ab:zv.cells.size=Enc.sz α:=by rw [ar,hz,Jj,Enc.len]
  have M:(Builtin.zeroCells zv.cells k).toList=cells (List.replicate k (default:α)):=by
   rw [←bc6,←hz]
   apply Mw
   intro j
   simp only [Builtin.zeroCells,Mf,Lm,Kt,ab]
   by_cases hj:j<k*Enc.sz α
   ·rw [Mn hj]
    have au:j % Enc.sz α<z.length:=by rw [hz,Enc.len];exact Nat.mod_lt _ ae
    rw [aa8 z k j (by omega) (by rw [hz,Enc.len];exact hj),show z.length=Enc.sz α from by rw [hz,Enc.len],ar]
    simp [au]
   rw [Jo (by simpa using hj),Jo (by rw [aw0,hz,Enc.len];omega)]
   rfl
  refine ⟨.slice (some ⟨w.heap.size,0,none⟩) (i+k)<|grownCap w (i+k) c e,w.drew.alloc<|.cells ((cells<|xs.take i).toArray++Builtin.zeroCells zv.cells k++Builtin.zeroCells zv.cells (grownCap w (i+k) c e - (i+k))) e,_,by simp only [execOp,resolve,invoke,builtin,Jq,Hi,Ks,ha.eval hx,ha.eval hy];simp [ap],⟨_,_,rfl,rfl⟩,?_⟩
  have aa:(xs.take i++List.replicate k (default:α)).length=i+k:=by rw [By,hlt,F_]
  refine hs.drew.new (hs.drew.alloc _) ?_ λj hj=>?_
  ·show au6 _ e _ _ _ _
   rw [aa]
   refine ⟨_,_,rfl,by rw [r8,aa],an,av,λ_=>⟨w.heap.size,0,_,rfl,heap_alloc_new w.drew _,?_,λj u hj=>?_⟩⟩
   ·simp only [Array.size_append,Jj,size_zeroCells,ab,aj,←Jh,Lu]
    rw [Nat.add_sub_cancel' an]
    exact Gg _
   rw [Lu,Ji (by
    have:=(G_.1 hj).1
    rw [r8,aa] at this
    simp only [Array.size_append,Jj,size_zeroCells,ab,aj,←Jh];exact this)]
   rw [K9,←M] at hj
   have e1:(cells<|xs.take i).toArray++Builtin.zeroCells zv.cells k=(cells (xs.take i)++(Builtin.zeroCells zv.cells k).toList).toArray:=by
    apply Array.ext';simp
   rw [e1,Jn];exact hj
  obtain ⟨o,n',c',he,a1⟩:=hj
  cases he
  exact ⟨Gg _,by simp⟩
theorem Eff.overlaps{f tb k' M:Nat}{az:Array TypeId}{aj:Option Addr}{e' ai:Nat}{K:List Item}
  (a0:∀args w,(callFunc f args).run P w=((Extern.SlicesOverlaps.overlaps #[t,t] #[tb] args).run P w).andThen λv w'=> .ok (.value v) w') (ht:P.underlying t=some (.slice e)) (hT:tyF P e=some (sz,ag,by',z))
  (hx:er L x=some (.slice ad m c)) (hy:er L y=some (.slice (N9 aj M k sz) k'<|M - k)) (a6:k<=M) (h0:0<m) (a5:0<n) (an:Fit κ I (vec e sz (.slice ad m c) m cs::vec e' ai (.slice aj n M) n ds::K)) (a4:0<M*ai) (hN:Nat.blt dd N.n=true) :
  Eff P κ N Q ⟨some dd,.call {callee:= .value (.func f),args:= #[x,y],argTypes:=az},ty,ps,af,gd⟩ L I λL' I''=>L'=(dd,.bool false)::L/\I''=I:=
 Eff.Q4 rfl hN λa w ha hs=>by
  have ab:=an w hs
  obtain ⟨_,_,hv,_,a3,_,ah⟩:=(ab.ok _ A_).1
  cases hv
  obtain ⟨_,_,ay,_,a1,_,ae⟩:=(ab.ok _<|C_ _ A_).1
  cases ay
  obtain ⟨b,off,aq,rfl,hb,ar,_⟩:=ah (by omega)
  obtain ⟨b',aa,ao,rfl,av,ap,_⟩:=ae (by omega)
  have au:Item.apart _ _:=(Gh.1 ab.pw).1 _ A_
  have aw:b≠b':=λe=>by
   subst e
   exact au b ⟨off,m,c,rfl,by omega⟩ ⟨aa,n,M,rfl,by omega⟩
  have ax:∃o,N9 (some ⟨b',aa,none⟩) M k sz=some ⟨b',o,none⟩:=by
   unfold N9;split
   ·exact ⟨_,rfl⟩
   exact ⟨_,by simp [G9];rfl⟩
  obtain ⟨o,ho⟩:=ax
  rw [ho] at hy
  have ak:=Go.Lib.run_overlaps_apart w t tb e ht sz (λw=>run_sizeOf hT w) ⟨b,off,none⟩ ⟨b',o,none⟩ m c k' (M - k) aw e e' aq.size ao.size (by simp [World.shape?,hb]) (by simp [World.shape?,av]) (by omega) (by simp [World.frozen?,hb]) (by simp [World.frozen?,hb])
  refine ⟨.bool false,w,I,?_,⟨rfl,rfl⟩,hs⟩
  have e1:a.eval (.func f) = .func (.func f) #[] #[]:=rfl
  simp only [execOp,resolve,e1,Deferred.ofValue,invoke,Sem.run_bind,Sem.run_pure,Result.andThen_ok,Jq,Hi,Ks,ha.eval hx,ha.eval hy]
  simp only [Array.empty_append,Array.append_empty,a0,ak,Result.andThen_ok]
theorem j7.dz0{T E U:Nat}(ht:P.underlying T=some (.slice E))(hx:er L x=some (.slice ad n c))(hy:er L y=some (.slice none 0 0)) :
  j7 P κ N ⟨d,.binOp .eql T x y U,ty,ps,af,gd⟩ L J (.bool ad.isNone):=λa w M _=>by
 have hg:(eqGuard .eql T x y (.slice ad n c)<|.slice none 0 0).run P w = .ok () w:=by simp [eqGuard]
 have h:=Go.Lib.run_eql_slice_nil (P:=P) w T E ad n c 0 0 ht
 simp only [execOp,M.eval hx,M.eval hy]
 simp [hg,h]
theorem Eff.bs0{α:Type}[Enc α](ht:P.underlying t=some (.slice e))(M:tyF P e=some (Enc.sz α,ag,by',z))(hN:Nat.blt dd N.n=true) :
  Eff P κ N Q ⟨some dd,.buildSlice t 0 #[],ty,ps,af,gd⟩ L I λL' I''=>∃ad,L'=(dd,.slice ad 0 0)::L/\I''=vc e (.slice ad 0 0) ([]:List α)::I:=
 Eff.Q4 rfl hN λa w ha hs=>by
  refine ⟨.slice (some ⟨w.heap.size,0,none⟩) 0 0,w.alloc<|.cells #[] e,_,by simp [execOp,Instr.buildSlice,run_underlying ht,run_sizeOf M,Instr.fill,newRow,Array.range_zero'],⟨_,rfl,rfl⟩,?_⟩
  exact hs.new (hs.alloc _) ⟨_,0,rfl,by simp [cells],Gg _,by simp,λh=>absurd h<|by decide⟩ λk hk=>by
   obtain ⟨o,n',c',he,aa⟩:=hk
   cases he
   omega
theorem Sl.isNone{α:Type}[Enc α]{xs:List α}(h:Sl κ I (.slice ad xs.length c) xs):∀w,Sep κ w I->ad.isNone=true->xs=[]/\c=0:=λw hs hn=>by
 obtain ⟨a,cap,M,h1,h2,h3,h4⟩:=h w hs
 cases M
 by_cases hc:0<c
 ·obtain ⟨b,off,rfl,_⟩:=h4 hc;cases hn
 exact ⟨Hq<|by omega,by omega⟩
end
end Go.Sl
