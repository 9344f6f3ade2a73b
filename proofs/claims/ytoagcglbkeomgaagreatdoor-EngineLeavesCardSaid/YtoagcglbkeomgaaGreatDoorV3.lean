/- A part of the proofs of statements of this seat: contracts of functions, and the plain laws that they lean on. No conditions. -/
import Derived.Test.YtoagcglbkeomgaaGreatDoorV2
import Derived.Lib.Overlaps
import Derived.Lib.AppendZerosOnto
import Derived.Lib.SliceRun
set_option linter.unusedVariables false
set_option linter.unusedSimpArgs false
set_option linter.unusedSectionVars false
namespace Go.Sl
variable{c0 c1 c2 c3 c4 c5 u v v0 v1 v2 v3 v4 v5:Value}{E T b by' fuel j k s stop t:Nat}{c x y:Operand}{ag:Bool}{cs vs z:List Value}{i:Int}{M:Array Bool}
class TyI (P:Program) (T:TypeId) (r:outParam (Nat×Bool×Nat×List Value)):Prop where h:tyF P T=some r
class U0 (P:Program) (T k:Nat) (off:outParam Nat):Prop where h:U2 P T k=some off
class cb0 (P:Program) (T:TypeId) (E:outParam TypeId):Prop where h:P.underlying T=some (.slice E)
class ap6 (P:Program) (T:TypeId):Prop where h:∃fs,P.underlying T=some (.struct fs)
class PlI (P:Program) (T:TypeId) (p:outParam (Array (Nat×Nat))):Prop where h:∀w:World,(H8 P T).run P w = .ok p w
structure gm1 (p:Prop):Prop where h:p
section
variable {P:Program}{κ:Ctx}{N:Frm}{Q:Exit->Act->World->Prop}{L:Env}{I J:List Item}{ops:Array Oper}{o:Oper}{rest:List Oper}{q:Op}{ty:TypeId}{ps:String}{af:Array Edge}{gd:Option (Nat×Bool)}{d:Option Tmp}
theorem tb5{p:Prop}(h:p:=by assumption):p:=h
theorem Sl.a{α:Type}[Enc α]{xs:List α}(h:Sl κ J v xs:=by first|exact Sl.o|exact Sl.f tb5):Sl κ J v xs:=h
theorem wOn{b:Bool}(hg:o.guard=some (j,b))(M:(ops[j]?).bind (·.dst)=some t)(hl:look L t=some v)(hv:v = .bool b:=by with_reducible rfl):q8 N ops o L:=q8.on hg M (hl.trans (Fz some hv))
theorem wOf(hg:o.guard=some (j,true))(M:(ops[j]?).bind (·.dst)=some t)(hl:look L t=some v)(hv:v = .bool false:=by with_reducible rfl):H0 N ops o L:=H0.off hg M (hl.trans (Fz some hv))
theorem wOg(hg:o.guard=some (j,false))(M:(ops[j]?).bind (·.dst)=some t)(hl:look L t=some v)(hv:v = .bool true:=by with_reducible rfl):H0 N ops o L:=H0.off hg M (hl.trans (Fz some hv))
theorem Rpt(hc:er L c=some u)(M:er L x=some v)(hu:u = .bool true:=by with_reducible rfl):j8 P κ N ⟨d,.pick c x y,ty,ps,af,gd⟩ L J v:=j8.fy3 (hc.trans (Fz some hu)) M
theorem Rpf(hc:er L c=some u)(M:er L y=some v)(hu:u = .bool false:=by with_reducible rfl):j8 P κ N ⟨d,.pick c x y,ty,ps,af,gd⟩ L J v:=j8.fy4 (hc.trans (Fz some hu)) M
theorem RnT{T:TypeId}(M:er L x=some u)(hu:u = .bool true:=by with_reducible rfl):j8 P κ N ⟨d,.unOp .not T x,ty,ps,af,gd⟩ L J (.bool false):=j8.not (b:=true) (M.trans (Fz some hu))
theorem RnF{T:TypeId}(M:er L x=some u)(hu:u = .bool false:=by with_reducible rfl):j8 P κ N ⟨d,.unOp .not T x,ty,ps,af,gd⟩ L J (.bool true):=j8.not (b:=false) (M.trans (Fz some hu))
theorem Ri{α:Type}[Enc α]{xs:List α}{y:Operand}{by':Nat}{ag:Bool}{z:List Value}{i:Int}[cb0 P T E]
  (M:er L x=some v:=by exact rfl) (hv:Sl κ J v xs:=by first|exact Sl.o|exact Sl.f tb5) (hE:tyF P E=some (Enc.sz α,ag,by',z):=by exact TyI.h) (hy:er L y=some (e7 i):=by exact rfl) (h0:0<=i:=by omega) (hn:i<xs.length:=by first|omega|(simp only [Fo];omega)) :
  j8 P κ N ⟨d,.indexAddr T x y,ty,ps,af,gd⟩ L J (F0 v<|i.toNat*Enc.sz α):=j8.idx cb0.h hE M hy hv h0 hn
theorem Rlt{α:Type}[Enc α]{xs:List α}[cb0 P T E](M:er L x=some v:=by exact rfl)(hv:Sl κ J v xs:=by first|exact Sl.o|exact Sl.f tb5) :
  j8 P κ N ⟨d,.call {callee:= .builtin .len,args:= #[x],argTypes:= #[T]},ty,ps,af,gd⟩ L J (e7 xs.length):=j8.gk5 cb0.h M hv
theorem Rgi{xs:List Int}[TyI P T (s,false,by',z)](M:er L x=some (F0 v (i.toNat*Enc.sz Int)):=by exact rfl)(hv:Sl κ J v xs:=by first|exact Sl.o|exact Sl.f tb5)(h0:0<=i:=by omega)(hn:i<xs.length:=by first|omega|(simp only [Fo];omega)) :
  j8 P κ N ⟨d,.load T x,ty,ps,af,gd⟩ L J (e7<|e_ xs i):=j8.get TyI.h M hv h0 hn
theorem RgB{xs:List Bool}[TyI P T (s,false,by',z)](M:er L x=some (F0 v (i.toNat*Enc.sz Bool)):=by exact rfl)(hv:Sl κ J v xs:=by first|exact Sl.o|exact Sl.f tb5)(h0:0<=i:=by omega)(hn:i<xs.length:=by first|omega|(simp only [Fo];omega)) :
  j8 P κ N ⟨d,.load T x,ty,ps,af,gd⟩ L J (.bool<|e_ xs i):=j8.getB TyI.h M hv h0 hn
theorem Rgs{α:Type}[Enc α][Inhabited α]{xs:List α}[TyI P T (s,true,by',z)](M:er L x=some (F0 v (i.toNat*Enc.sz α)):=by exact rfl)(hs:s=Enc.sz α:=by exact rfl)(hv:Sl κ J v xs:=by first|exact Sl.o|exact Sl.f tb5)(h0:0<=i:=by omega)(hn:i<xs.length:=by first|omega|(simp only [Fo];omega)) :
  j8 P κ N ⟨d,.load T x,ty,ps,af,gd⟩ L J (.agg (Enc.enc<|e_ xs i).toArray):=j8.gk7 (by rw [←hs];exact TyI.h) M hv h0 hn
theorem Rf{α:Type}[Enc α]{xs:List α}{off m:Nat}[U0 P T k off](M:er L x=some (F0 v (m*Enc.sz α)):=by exact rfl)(hv:Sl κ J v xs:=by first|exact Sl.o|exact Sl.f tb5)(hn:0<xs.length:=by first|omega|(simp only [Fo];omega)) :
  j8 P κ N ⟨d,.fieldAddr T x k,ty,ps,af,gd⟩ L J (F0 v<|m*Enc.sz α+off):=j8.fld U0.h M hv hn
theorem Rg0{α:Type}[Enc α][Inhabited α]{xs:List α}[TyI P T (s,false,by',z)](M:er L x=some (F0 v (i.toNat*Enc.sz α)):=by exact rfl)(hv:Sl κ J v xs:=by first|exact Sl.o|exact Sl.f tb5)(h0:0<=i:=by omega)(hn:i<xs.length:=by first|omega|(simp only [Fo];omega))(hu:(Enc.enc (e_ xs i))[0]? = some u:=by exact rfl) :
  j8 P κ N ⟨d,.load T x,ty,ps,af,gd⟩ L J u:=j8.fz9 TyI.h M hv h0 hn hu
theorem Rgf{α:Type}[Enc α][Inhabited α]{xs:List α}[TyI P T (s,false,by',z)](M:er L x=some (F0 v (i.toNat*Enc.sz α+j)):=by exact rfl)(hv:Sl κ J v xs:=by first|exact Sl.o|exact Sl.f tb5)(h0:0<=i:=by omega)(hn:i<xs.length:=by first|omega|(simp only [Fo];omega))(hu:(Enc.enc (e_ xs i))[j]? = some u:=by exact rfl) :
  j8 P κ N ⟨d,.load T x,ty,ps,af,gd⟩ L J u:=j8.gh0 TyI.h M hv h0 hn hu
theorem Rl2{o:Nat}{M:Value}[TyI P T (2,true,by',z)](hx:er L x=some (.pointer (some ⟨b,o,none⟩)):=by exact rfl)(hb:e8 b cs E∈J:=by repeat (first|exact A_|apply C_))(hc:(cs.drop o).take 2=[v0,M]:=by exact rfl):j8 P κ N ⟨d,.load T x,ty,ps,af,gd⟩ L J (.agg #[v0,M]):=j8.as0 TyI.h hx hb hc rfl
theorem Rb2{M:List (Nat×Operand)}{pl:Array (Nat×Nat)}[TyI P T (2,ag,by',z)][ap6 P T][PlI P T pl](hp:T5 L (M.map (·.2))=some vs:=by exact rfl)(hf:Instr.fill (pl[·]?) z.toArray ((M.map (·.1)).zip vs)=some [c0,c1].toArray:=by exact rfl):j8 P κ N ⟨d,.build T M.toArray,ty,ps,af,gd⟩ L J (.agg #[c0,c1]):=(ap6.h (P:=P) (T:=T)).elim λ_ hs=>j8.build TyI.h hs PlI.h hp hf
theorem Rl3{o:Nat}{M:Value}[TyI P T (3,true,by',z)](hx:er L x=some (.pointer (some ⟨b,o,none⟩)):=by exact rfl)(hb:e8 b cs E∈J:=by repeat (first|exact A_|apply C_))(hc:(cs.drop o).take 3=[v0,M,v2]:=by exact rfl):j8 P κ N ⟨d,.load T x,ty,ps,af,gd⟩ L J (.agg #[v0,M,v2]):=j8.as0 TyI.h hx hb hc rfl
theorem Rb3{M:List (Nat×Operand)}{pl:Array (Nat×Nat)}[TyI P T (3,ag,by',z)][ap6 P T][PlI P T pl](hp:T5 L (M.map (·.2))=some vs:=by exact rfl)(hf:Instr.fill (pl[·]?) z.toArray ((M.map (·.1)).zip vs)=some [c0,c1,c2].toArray:=by exact rfl):j8 P κ N ⟨d,.build T M.toArray,ty,ps,af,gd⟩ L J (.agg #[c0,c1,c2]):=(ap6.h (P:=P) (T:=T)).elim λ_ hs=>j8.build TyI.h hs PlI.h hp hf
theorem Rl4{o:Nat}{M:Value}[TyI P T (4,true,by',z)](hx:er L x=some (.pointer (some ⟨b,o,none⟩)):=by exact rfl)(hb:e8 b cs E∈J:=by repeat (first|exact A_|apply C_))(hc:(cs.drop o).take 4=[v0,v1,v2,M]:=by exact rfl):j8 P κ N ⟨d,.load T x,ty,ps,af,gd⟩ L J (.agg #[v0,v1,v2,M]):=j8.as0 TyI.h hx hb hc rfl
theorem Rb4{M:List (Nat×Operand)}{pl:Array (Nat×Nat)}[TyI P T (4,ag,by',z)][ap6 P T][PlI P T pl](hp:T5 L (M.map (·.2))=some vs:=by exact rfl)(hf:Instr.fill (pl[·]?) z.toArray ((M.map (·.1)).zip vs)=some [c0,c1,c2,c3].toArray:=by exact rfl):j8 P κ N ⟨d,.build T M.toArray,ty,ps,af,gd⟩ L J (.agg #[c0,c1,c2,c3]):=(ap6.h (P:=P) (T:=T)).elim λ_ hs=>j8.build TyI.h hs PlI.h hp hf
theorem Rl5{o:Nat}{M:Value}[TyI P T (5,true,by',z)](hx:er L x=some (.pointer (some ⟨b,o,none⟩)):=by exact rfl)(hb:e8 b cs E∈J:=by repeat (first|exact A_|apply C_))(hc:(cs.drop o).take 5=[v0,v1,v2,M,v4]:=by exact rfl):j8 P κ N ⟨d,.load T x,ty,ps,af,gd⟩ L J (.agg #[v0,v1,v2,M,v4]):=j8.as0 TyI.h hx hb hc rfl
theorem Rb5{M:List (Nat×Operand)}{pl:Array (Nat×Nat)}[TyI P T (5,ag,by',z)][ap6 P T][PlI P T pl](hp:T5 L (M.map (·.2))=some vs:=by exact rfl)(hf:Instr.fill (pl[·]?) z.toArray ((M.map (·.1)).zip vs)=some [c0,c1,c2,c3,c4].toArray:=by exact rfl):j8 P κ N ⟨d,.build T M.toArray,ty,ps,af,gd⟩ L J (.agg #[c0,c1,c2,c3,c4]):=(ap6.h (P:=P) (T:=T)).elim λ_ hs=>j8.build TyI.h hs PlI.h hp hf
theorem Rl6{o:Nat}{M:Value}[TyI P T (6,true,by',z)](hx:er L x=some (.pointer (some ⟨b,o,none⟩)):=by exact rfl)(hb:e8 b cs E∈J:=by repeat (first|exact A_|apply C_))(hc:(cs.drop o).take 6=[v0,v1,v2,M,v4,v5]:=by exact rfl):j8 P κ N ⟨d,.load T x,ty,ps,af,gd⟩ L J (.agg #[v0,v1,v2,M,v4,v5]):=j8.as0 TyI.h hx hb hc rfl
theorem Rb6{M:List (Nat×Operand)}{pl:Array (Nat×Nat)}[TyI P T (6,ag,by',z)][ap6 P T][PlI P T pl](hp:T5 L (M.map (·.2))=some vs:=by exact rfl)(hf:Instr.fill (pl[·]?) z.toArray ((M.map (·.1)).zip vs)=some [c0,c1,c2,c3,c4,c5].toArray:=by exact rfl):j8 P κ N ⟨d,.build T M.toArray,ty,ps,af,gd⟩ L J (.agg #[c0,c1,c2,c3,c4,c5]):=(ap6.h (P:=P) (T:=T)).elim λ_ hs=>j8.build TyI.h hs PlI.h hp hf
theorem Rl7{o:Nat}{M:Value}[TyI P T (7,true,by',z)](hx:er L x=some (.pointer (some ⟨b,o,none⟩)):=by exact rfl)(hb:e8 b cs E∈J:=by repeat (first|exact A_|apply C_))(hc:(cs.drop o).take 7=[v0,v1,v2,v3,v4,v5,M]:=by exact rfl):j8 P κ N ⟨d,.load T x,ty,ps,af,gd⟩ L J (.agg #[v0,v1,v2,v3,v4,v5,M]):=j8.as0 TyI.h hx hb hc rfl
theorem Rb7{c6:Value}{M:List (Nat×Operand)}{pl:Array (Nat×Nat)}[TyI P T (7,ag,by',z)][ap6 P T][PlI P T pl](hp:T5 L (M.map (·.2))=some vs:=by exact rfl)(hf:Instr.fill (pl[·]?) z.toArray ((M.map (·.1)).zip vs)=some [c0,c1,c2,c3,c4,c5,c6].toArray:=by exact rfl):j8 P κ N ⟨d,.build T M.toArray,ty,ps,af,gd⟩ L J (.agg #[c0,c1,c2,c3,c4,c5,c6]):=(ap6.h (P:=P) (T:=T)).elim λ_ hs=>j8.build TyI.h hs PlI.h hp hf
theorem Rl25{o:Nat}{v6 v7 v8 v9 au ae aa ad an ak ar aj ab M aq ah ao ap ai:Value}[TyI P T (25,true,by',z)](hx:er L x=some (.pointer (some ⟨b,o,none⟩)):=by exact rfl)(hb:e8 b cs E∈J:=by repeat (first|exact A_|apply C_))(hc:(cs.drop o).take 25=[v0,v1,v2,v3,v4,v5,v6,v7,v8,v9,au,ae,aa,ad,an,ak,ar,aj,ab,M,aq,ah,ao,ap,ai]:=by exact rfl):j8 P κ N ⟨d,.load T x,ty,ps,af,gd⟩ L J (.agg #[v0,v1,v2,v3,v4,v5,v6,v7,v8,v9,au,ae,aa,ad,an,ak,ar,aj,ab,M,aq,ah,ao,ap,ai]):=j8.as0 TyI.h hx hb hc rfl
theorem kMov{d:Option Tmp}{ty:TypeId}{ps:String}{af:Array Edge}{gd:Option (Nat×Bool)}(ho:o=⟨d,.move x,ty,ps,af,gd⟩:=by with_reducible exact rfl)(h:j8 P κ N ⟨d,.move x,ty,ps,af,gd⟩ L J v:=by first|exact j8.move rfl):j8 P κ N o L J v:=ho▸h
theorem kAsg{d:Option Tmp}{ty:TypeId}{ps:String}{af:Array Edge}{gd:Option (Nat×Bool)}(ho:o=⟨d,.assign x,ty,ps,af,gd⟩:=by with_reducible exact rfl)(h:j8 P κ N ⟨d,.assign x,ty,ps,af,gd⟩ L J v:=by first|exact j8.assign rfl):j8 P κ N o L J v:=ho▸h
theorem gg5{d:Option Tmp}{ty:TypeId}{ps:String}{af:Array Edge}{gd:Option (Nat×Bool)}(ho:o=⟨d,.pick c x y,ty,ps,af,gd⟩:=by with_reducible exact rfl)(h:j8 P κ N ⟨d,.pick c x y,ty,ps,af,gd⟩ L J v:=by first|exact Rpf rfl rfl|exact Rpt rfl rfl):j8 P κ N o L J v:=ho▸h
theorem kFld{d:Option Tmp}{ty:TypeId}{ps:String}{af:Array Edge}{gd:Option (Nat×Bool)}(ho:o=⟨d,.fieldAddr T x k,ty,ps,af,gd⟩:=by with_reducible exact rfl)(h:j8 P κ N ⟨d,.fieldAddr T x k,ty,ps,af,gd⟩ L J v:=by first|exact j8.fieldAddr U0.h rfl|exact Rf):j8 P κ N o L J v:=ho▸h
theorem kLd{d:Option Tmp}{ty:TypeId}{ps:String}{af:Array Edge}{gd:Option (Nat×Bool)}(ho:o=⟨d,.load T x,ty,ps,af,gd⟩:=by with_reducible exact rfl)(h:j8 P κ N ⟨d,.load T x,ty,ps,af,gd⟩ L J v:=by first|exact j8.ld TyI.h|exact Rgi|exact Rl2|exact Rl3|exact Rl4|exact Rl5|exact Rl6|exact Rl7|exact Rl25|exact Rgs|exact Rgf|exact RgB|exact Rg0):j8 P κ N o L J v:=ho▸h
theorem kExt{d:Option Tmp}{ty:TypeId}{ps:String}{af:Array Edge}{gd:Option (Nat×Bool)}(ho:o=⟨d,.extract x k,ty,ps,af,gd⟩:=by with_reducible exact rfl)(h:j8 P κ N ⟨d,.extract x k,ty,ps,af,gd⟩ L J v:=by first|exact j8.extract rfl rfl):j8 P κ N o L J v:=ho▸h
theorem kIdx{d:Option Tmp}{ty:TypeId}{ps:String}{af:Array Edge}{gd:Option (Nat×Bool)}(ho:o=⟨d,.indexAddr T x y,ty,ps,af,gd⟩:=by with_reducible exact rfl)(h:j8 P κ N ⟨d,.indexAddr T x y,ty,ps,af,gd⟩ L J v:=by first|exact Ri):j8 P κ N o L J v:=ho▸h
theorem kCal{d:Option Tmp}{ty:TypeId}{ps:String}{af:Array Edge}{gd:Option (Nat×Bool)}{c:Go.Call}(ho:o=⟨d,.call c,ty,ps,af,gd⟩:=by with_reducible exact rfl)(h:j8 P κ N ⟨d,.call c,ty,ps,af,gd⟩ L J v:=by first|exact j8.lens cb0.h rfl|exact Rlt|exact j8.min rfl rfl|exact j8.max rfl rfl):j8 P κ N o L J v:=ho▸h
theorem kBin{d:Option Tmp}{ty:TypeId}{ps:String}{af:Array Edge}{gd:Option (Nat×Bool)}{b:BinOp}{U:Nat}(ho:o=⟨d,.binOp b T x y U,ty,ps,af,gd⟩:=by with_reducible exact rfl)(h:j8 P κ N ⟨d,.binOp b T x y U,ty,ps,af,gd⟩ L J v:=by first|exact j8.lss rfl rfl|exact j8.neq rfl rfl|exact j8.eql rfl rfl|exact j8.gtr rfl rfl|exact j8.geq rfl rfl|exact j8.leq rfl rfl|exact Rad rfl rfl|exact Rsu rfl rfl):j8 P κ N o L J v:=ho▸h
theorem kUn{d:Option Tmp}{ty:TypeId}{ps:String}{af:Array Edge}{gd:Option (Nat×Bool)}{b:UnOp}(ho:o=⟨d,.unOp b T x,ty,ps,af,gd⟩:=by with_reducible exact rfl)(h:j8 P κ N ⟨d,.unOp b T x,ty,ps,af,gd⟩ L J v:=by first|exact RnT rfl|exact RnF rfl|exact j8.gk2 rfl|exact j8.not rfl):j8 P κ N o L J v:=ho▸h
theorem kNil{d:Option Tmp}{ty:TypeId}{ps:String}{af:Array Edge}{gd:Option (Nat×Bool)}(ho:o=⟨d,.nilCheck x,ty,ps,af,gd⟩:=by with_reducible exact rfl)(h:j8 P κ N ⟨d,.nilCheck x,ty,ps,af,gd⟩ L J v:=by first|exact j8.nilCheck rfl):j8 P κ N o L J v:=ho▸h
theorem kBld{d:Option Tmp}{ty:TypeId}{ps:String}{af:Array Edge}{gd:Option (Nat×Bool)}{a:Array (Nat×Operand)}(ho:o=⟨d,.build T a,ty,ps,af,gd⟩:=by with_reducible exact rfl)(h:j8 P κ N ⟨d,.build T a,ty,ps,af,gd⟩ L J v:=by first|exact Rb2|exact Rb3|exact Rb4|exact Rb5|exact Rb6|exact Rb7):j8 P κ N o L J v:=ho▸h
theorem Rn(h:j8 P κ N o L J v:=by first|exact kMov|exact kAsg|exact gg5|exact kFld|exact kLd|exact kExt|exact kIdx|exact kCal|exact kBin|exact kUn|exact kNil|exact kBld):j8 P κ N o L J v:=h
theorem wA(h:q8 N ops o L:=by first|exact q8.plain rfl|exact wOn rfl rfl rfl):q8 N ops o L:=h
theorem uA(h:H0 N ops o L:=by first|exact H0.und rfl rfl rfl|exact wOf rfl rfl rfl|exact wOg rfl rfl rfl):H0 N ops o L:=h
theorem Gx{d:Nat}(h:G P κ N ops Q rest ((d,v)::L) I)(M:q8 N ops ⟨some d,q,ty,ps,af,gd⟩ L:=by exact wA)(hr:j8 P κ N ⟨some d,q,ty,ps,af,gd⟩ L I v:=by exact Rn)(hN:Nat.blt d N.n=true:=by exact rfl):G P κ N ops Q (⟨some d,q,ty,ps,af,gd⟩::rest) L I:=G.read M rfl hN hr h
theorem Gy{d:Nat}{r:Nat×Bool}(h:G P κ N ops Q rest ((d,undef)::L) I)(M:H0 N ops ⟨some d,q,ty,ps,af,some r⟩ L:=by exact uA)(hN:Nat.blt d N.n=true:=by exact rfl):G P κ N ops Q (⟨some d,q,ty,ps,af,some r⟩::rest) L I:=G.pass M rfl hN h
theorem Wy{x y:Code}(M:er L c=some u)(h:W P κ N x Q L I)(hu:u = .bool true:=by with_reducible rfl):W P κ N (.cond c x y) Q L I:=W.yes (M.trans (Fz some hu)) h
theorem Wno{x y:Code}(M:er L c=some u)(h:W P κ N y Q L I)(hu:u = .bool false:=by with_reducible rfl):W P κ N (.cond c x y) Q L I:=W.no (M.trans (Fz some hu)) h
def dn2(ops:Array Oper)(listed:Array Bool)(stop i:Nat):Bool:=Region.noSelect ops&&Region.free .any ops listed i&&(Region.ready .any ops listed).contains i && !Nat.beq i stop&&N5 .any ops stop i
theorem dt1{i:Nat}(h:dn2 ops M stop i=true):Region.noSelect ops=true/\Region.free .any ops M i=true/\(Region.ready .any ops M).contains i=true/\Nat.beq i stop=false/\N5 .any ops stop i=true:=by
 unfold dn2 at h
 simp only [Hc,J_] at h
 exact ⟨h.1.1.1.1,h.1.1.1.2,h.1.1.2,h.1.2,h.2⟩
theorem dz0(M:Fit κ I J:=by first|((repeat (first|exact Fit.refl _|apply Fit.tail|exact Fit.az4 _ _|apply Fit.do1));done)|(refine Fit.K6 ?_;(repeat (first|exact Jo _|apply List.Sublist.cons_cons|apply List.Sublist.cons|exact Gk _ _));done)|(refine Fit.sp ?_;(repeat (first|exact Sp.refl _|refine Sp.pick ta4 ?_|apply Sp.skip|exact Sp.az4 _ _));done)):Fit κ I J:=M
theorem Dx{d:Nat}(i:Nat)(h:D P κ N ops Q J stop fuel (M.setIfInBounds i true) ((d,v)::L) I)(hi:ops[i]? = some ⟨some d,q,ty,ps,af,gd⟩:=by exact rfl)(hc:dn2 ops M stop i=true:=by decide+kernel)(hw:q8 N ops ⟨some d,q,ty,ps,af,gd⟩ L:=by exact wA)(aa:j8 P κ N ⟨some d,q,ty,ps,af,gd⟩ L J v:=by exact Rn)
  (hN:Nat.blt d N.n=true:=by exact rfl) (hQ:∀c a u w,Q (.panic c) (a.put (some d) u) w->Q (.panic c) a w:=by exact λ_ _ _ _ h=>h) (hJ:Fit κ I J:=by exact dz0):D P κ N ops Q J stop (fuel+1) M L I:=D.read i hi (dt1 hc).1 (dt1 hc).2.1 (dt1 hc).2.2.1 (dt1 hc).2.2.2.1 (dt1 hc).2.2.2.2 hQ hw rfl hN hJ aa h
theorem Dy{d:Nat}(i:Nat)(h:D P κ N ops Q J stop fuel (M.setIfInBounds i true) ((d,undef)::L) I)(hi:ops[i]? = some ⟨some d,q,ty,ps,af,gd⟩:=by exact rfl)(hc:dn2 ops M stop i=true:=by decide+kernel)(hw:H0 N ops ⟨some d,q,ty,ps,af,gd⟩ L:=by exact uA)
  (hN:Nat.blt d N.n=true:=by exact rfl) (hQ:∀c a u w,Q (.panic c) (a.put (some d) u) w->Q (.panic c) a w:=by exact λ_ _ _ _ h=>h) (hJ:Fit κ I J:=by exact dz0):D P κ N ops Q J stop (fuel+1) M L I:=D.pass i hi (dt1 hc).1 (dt1 hc).2.1 (dt1 hc).2.2.1 (dt1 hc).2.2.2.1 (dt1 hc).2.2.2.2 hQ hw rfl hN hJ h
theorem Dw(h:V κ N Q .normal L I)(hr:(Region.ready .any ops M).isEmpty=true:=by decide+kernel):D P κ N ops Q J stop fuel M L I:=D.done (List.isEmpty_iff.1 hr) h
theorem Dx1{d:Nat}(h:D P κ N ops Q J stop fuel ((M.setIfInBounds j true).setIfInBounds (j+1) true) ((d,v)::L) I)(hi:ops[j+1]? = some ⟨some d,q,ty,ps,af,gd⟩:=by exact rfl)(hc:dn2 ops (M.setIfInBounds j true) stop (j+1)=true:=by decide+kernel)(hw:q8 N ops ⟨some d,q,ty,ps,af,gd⟩ L:=by exact wA)(aa:j8 P κ N ⟨some d,q,ty,ps,af,gd⟩ L J v:=by exact Rn) 
  (hN:Nat.blt d N.n=true:=by exact rfl) (hQ:∀c a u w,Q (.panic c) (a.put (some d) u) w->Q (.panic c) a w:=by exact λ_ _ _ _ h=>h) (hJ:Fit κ I J:=by exact dz0):D P κ N ops Q J stop (fuel+1) (M.setIfInBounds j true) L I:=Dx (j+1) h hi hc hw aa hN hQ hJ
theorem Dy1{d:Nat}(h:D P κ N ops Q J stop fuel ((M.setIfInBounds j true).setIfInBounds (j+1) true) ((d,undef)::L) I)(hi:ops[j+1]? = some ⟨some d,q,ty,ps,af,gd⟩:=by exact rfl)(hc:dn2 ops (M.setIfInBounds j true) stop (j+1)=true:=by decide+kernel)(hw:H0 N ops ⟨some d,q,ty,ps,af,gd⟩ L:=by exact uA) 
  (hN:Nat.blt d N.n=true:=by exact rfl) (hQ:∀c a u w,Q (.panic c) (a.put (some d) u) w->Q (.panic c) a w:=by exact λ_ _ _ _ h=>h) (hJ:Fit κ I J:=by exact dz0):D P κ N ops Q J stop (fuel+1) (M.setIfInBounds j true) L I:=Dy (j+1) h hi hc hw hN hQ hJ
theorem Dx2{d:Nat}(h:D P κ N ops Q J stop fuel ((M.setIfInBounds j true).setIfInBounds (j+2) true) ((d,v)::L) I)(hi:ops[j+2]? = some ⟨some d,q,ty,ps,af,gd⟩:=by exact rfl)(hc:dn2 ops (M.setIfInBounds j true) stop (j+2)=true:=by decide+kernel)(hw:q8 N ops ⟨some d,q,ty,ps,af,gd⟩ L:=by exact wA)(aa:j8 P κ N ⟨some d,q,ty,ps,af,gd⟩ L J v:=by exact Rn) 
  (hN:Nat.blt d N.n=true:=by exact rfl) (hQ:∀c a u w,Q (.panic c) (a.put (some d) u) w->Q (.panic c) a w:=by exact λ_ _ _ _ h=>h) (hJ:Fit κ I J:=by exact dz0):D P κ N ops Q J stop (fuel+1) (M.setIfInBounds j true) L I:=Dx (j+2) h hi hc hw aa hN hQ hJ
theorem Dy2{d:Nat}(h:D P κ N ops Q J stop fuel ((M.setIfInBounds j true).setIfInBounds (j+2) true) ((d,undef)::L) I)(hi:ops[j+2]? = some ⟨some d,q,ty,ps,af,gd⟩:=by exact rfl)(hc:dn2 ops (M.setIfInBounds j true) stop (j+2)=true:=by decide+kernel)(hw:H0 N ops ⟨some d,q,ty,ps,af,gd⟩ L:=by exact uA) 
  (hN:Nat.blt d N.n=true:=by exact rfl) (hQ:∀c a u w,Q (.panic c) (a.put (some d) u) w->Q (.panic c) a w:=by exact λ_ _ _ _ h=>h) (hJ:Fit κ I J:=by exact dz0):D P κ N ops Q J stop (fuel+1) (M.setIfInBounds j true) L I:=Dy (j+2) h hi hc hw hN hQ hJ
theorem Dx3{d:Nat}(h:D P κ N ops Q J stop fuel ((M.setIfInBounds j true).setIfInBounds (j+3) true) ((d,v)::L) I)(hi:ops[j+3]? = some ⟨some d,q,ty,ps,af,gd⟩:=by exact rfl)(hc:dn2 ops (M.setIfInBounds j true) stop (j+3)=true:=by decide+kernel)(hw:q8 N ops ⟨some d,q,ty,ps,af,gd⟩ L:=by exact wA)(aa:j8 P κ N ⟨some d,q,ty,ps,af,gd⟩ L J v:=by exact Rn) 
  (hN:Nat.blt d N.n=true:=by exact rfl) (hQ:∀c a u w,Q (.panic c) (a.put (some d) u) w->Q (.panic c) a w:=by exact λ_ _ _ _ h=>h) (hJ:Fit κ I J:=by exact dz0):D P κ N ops Q J stop (fuel+1) (M.setIfInBounds j true) L I:=Dx (j+3) h hi hc hw aa hN hQ hJ
theorem Dy3{d:Nat}(h:D P κ N ops Q J stop fuel ((M.setIfInBounds j true).setIfInBounds (j+3) true) ((d,undef)::L) I)(hi:ops[j+3]? = some ⟨some d,q,ty,ps,af,gd⟩:=by exact rfl)(hc:dn2 ops (M.setIfInBounds j true) stop (j+3)=true:=by decide+kernel)(hw:H0 N ops ⟨some d,q,ty,ps,af,gd⟩ L:=by exact uA) 
  (hN:Nat.blt d N.n=true:=by exact rfl) (hQ:∀c a u w,Q (.panic c) (a.put (some d) u) w->Q (.panic c) a w:=by exact λ_ _ _ _ h=>h) (hJ:Fit κ I J:=by exact dz0):D P κ N ops Q J stop (fuel+1) (M.setIfInBounds j true) L I:=Dy (j+3) h hi hc hw hN hQ hJ
theorem Dx0{n:Nat}{d:Nat}(h:D P κ N ops Q J stop fuel ((Array.replicate n false).setIfInBounds 0 true) ((d,v)::L) I)(hi:ops[0]? = some ⟨some d,q,ty,ps,af,gd⟩:=by exact rfl)(hc:dn2 ops (Array.replicate n false) stop 0=true:=by decide+kernel)(hw:q8 N ops ⟨some d,q,ty,ps,af,gd⟩ L:=by exact wA)(M:j8 P κ N ⟨some d,q,ty,ps,af,gd⟩ L J v:=by exact Rn)
  (hN:Nat.blt d N.n=true:=by exact rfl) (hQ:∀c a u w,Q (.panic c) (a.put (some d) u) w->Q (.panic c) a w:=by exact λ_ _ _ _ h=>h) (hJ:Fit κ I J:=by exact dz0):D P κ N ops Q J stop (fuel+1) (Array.replicate n false) L I:=Dx 0 h hi hc hw M hN hQ hJ
def cat{α:Type}:List α->List α->List α
 |[],m=>m
 |x::l,m=>x::cat l m
def bw7:Code->Nat->Bool
 | .seq a b,k=>bw7 a k||bw7 b k
 | .cond _ a b,k=>bw7 a k||bw7 b k
 | .block _ c,k=>bw7 c k
 | .loop c,k=>bw7 c k
 | .scope c,k=>bw7 c k
 | .region _ l _,k=>l.toList.any λo=>match o.dst with |some d=>Nat.beq d k|none=>false
 |_,_=>false
inductive Kp (c:Code) (E:List Nat):List Nat->Env->Env->Prop
 |nil (s:List Nat):Kp c E s [] []
 |fo6 {s:List Nat} {k:Nat} {v:Value} {L L':Env} (h:((!(bw7 c k)||E.contains k) && !s.contains k)=true) (t:Kp c E (k::s) L L'):Kp c E s ((k,v)::L) ((k,v)::L')
 |drop {s:List Nat} {k:Nat} {v:Value} {L L':Env} (t:Kp c E (k::s) L L'):Kp c E s ((k,v)::L) L'
theorem Kp.get{c:Code}{E s:List Nat}{L L':Env}(h:Kp c E s L L'):∀p∈L',look L p.1=some p.2/\p.1∉s:=by
 induction h with
 |nil s=>intro p hp;cases hp
 | @fo6 s k v L L' h t ih=>
  intro p hp
  simp only [Hc,J_] at h
  rcases Fw.1 hp with rfl|hp
  ·exact ⟨by rw [aa7,B_ rfl],by have:=h.2;simpa using this⟩
  have:=ih p hp
  simp only [Fw,not_or] at this
  exact ⟨by rw [aa7,An<|λe=>this.2.1 e.symm];exact this.1,this.2.2⟩
 | @drop s k v L L' t ih=>
  intro p hp
  have:=ih p hp
  simp only [Fw,not_or] at this
  exact ⟨by rw [aa7,An<|λe=>this.2.1 e.symm];exact this.1,this.2.2⟩
theorem Sub.of{L:Env}:∀{L':Env},(∀p∈L',look L p.1=some p.2)->Sub L L'
 |[],_=>Sub.nil
 |(k,v)::L',h=>Sub.cons (h (k,v) A_) (Sub.of λp M=>h p<|C_ _ M)
theorem Sub.cat{L L1 L2:Env}(M:Sub L L1)(h2:Sub L L2):Sub L (cat L1 L2):=by
 induction L1 with
 |nil=>exact h2
 |cons x l ih=>exact ⟨M.1,ih M.2⟩
theorem W.lq{c:Code}{σ:Type}{Lk:Env}{X:σ->Prop}(f:σ->Env)(F:σ->List Item)(p:σ->Prop)(μ:σ->Nat)(s0:σ)(hp:p s0)(M:∀s,p s->X s)
  (E:List Nat:=[]) (hk:Kp c E [] L Lk:=by repeat (first|exact Kp.nil _|(apply Kp.fo6;decide+kernel)|apply Kp.drop))
  (hL:Sub L (f s0):=by (try dsimp only);repeat (first|exact Sub.nil|refine Sub.cons rfl ?_|refine Sub.cons dx6 ?_|refine Sub.cons (dx5 rfl<|by first|rfl|simp) ?_)) (hI:Fit κ I (Sl.cat (F s0) J):=by dsimp only [Sl.cat];exact Fit.s)
  (hX:∀s,gm1 (X s)->W P κ N c (Exit.then (ff5 κ N (λs=>Sl.cat (f s) Lk) (λs=>Sl.cat (F s) J) p μ s) Q) (Sl.cat (f s) Lk) (Sl.cat (F s) J):=by intro s h;dsimp only [Sl.cat];exact h.h):W P κ N (.loop c) Q L I:=
 W.loop (λs=>Sl.cat (f s) Lk) (λs=>Sl.cat (F s) J) p μ s0 hp (Sub.cat hL<|Sub.of λq hq=>(hk.get q hq).1) hI λs h=>hX s ⟨M s h⟩
theorem hdG(h:G P κ N ops Q rest L I):G P κ N ops Q rest L I:=h
theorem hdD(h:D P κ N ops Q J stop fuel M L I):D P κ N ops Q J stop fuel M L I:=h
theorem hdW{c:Code}(h:W P κ N c Q L I):W P κ N c Q L I:=h
theorem hdC{x y:Code}(h:W P κ N (.cond c x y) Q L I):W P κ N (.cond c x y) Q L I:=h
theorem hdV{e:Exit}(h:V κ N Q e L I):V κ N Q e L I:=h
end
theorem Z{P Q:Prop}(q:Q) (h:gm1 Q->P:=by
 intro q
 repeat (first
  |(apply hdG;first|apply G.nt|refine Gx ?_|refine Gy ?_|apply G.nil)
  |(apply hdW;first|apply W.sr|apply W.seq|apply W.block|apply W.skip|apply W.region|apply W.ret|apply W.exit|(apply hdC;first|refine Wy rfl ?_|refine Wno rfl ?_))
  |(apply hdV;first|apply V.then|apply V.bw2|apply V.cj4|apply V.ak0|apply V.ca1|apply V.ay9|refine V.ax0 rfl ?_)
  |(apply hdD;first|refine Dx1 ?_|refine Dx0 ?_|refine Dy1 ?_|refine Dx2 ?_|refine Dy2 ?_|refine Dx3 ?_|refine Dy3 ?_|refine Dw ?_))
 exact q.h):P:=h ⟨q⟩
end Go.Sl
namespace Go.Sl
section
variable {P:Program}{κ:Ctx}{N:Frm}{Q:Exit->Act->World->Prop}{L:Env}{I:List Item}{ops:Array Oper}
theorem A.ho{fuel:Nat}{M:Array Bool}(stop:Nat)(h:D P κ N ops Q I stop fuel M L I):A P κ N ops Q fuel M L I:=A.hold I stop h
end
end Go.Sl
namespace Go.Sl
section
variable {α:Type}[Inhabited α]
theorem bo1(xs:List α)(k:Nat):e_ xs k=xs.getD k default:=by simp [e_]
theorem K9(xs:List α)(k:Nat)(h:k<xs.length):e_ xs k=xs[k]:=by simp [e_,h]
theorem at_mem{xs:List α}{i:Int}(M:0<=i)(h:i<xs.length):e_ xs i∈xs:=by
 rw [bj9 M h];exact List.getElem_mem _
theorem bp5(xs:List α)(k:Nat)(h:k<xs.length):xs.take (k+1)=xs.take k++[e_ xs k]:=by
 rw [K9 xs k h,List.take_succ_eq_append_getElem h]
theorem an6{xs:List α}{x:α}(h:x∈xs):∃k,k<xs.length/\e_ xs k=x:=by
 obtain ⟨k,M,he⟩:=Jv.1 h
 exact ⟨k,M,by rw [K9 xs k M,he]⟩
theorem av8{xs:List α}{x:α}{k:Nat}(h:∀j,j<k->e_ xs j≠x)(hk:xs.length<=k):x∉xs:=λM=>by
 obtain ⟨j,hj,he⟩:=an6 M
 exact h j (by omega) he
theorem R4(xs:List α)(i j:Int)(v:α)(hi:0<=i)(M:0<=j)(hl:i<xs.length):e_ (xs.set i.toNat v) j=if i=j then v else e_ xs j:=by
 unfold e_
 by_cases h:i=j
 ·subst h
  have:i.toNat<xs.length:=by omega
  simp [Hq,this]
 have:i.toNat≠j.toNat:=by omega
 simp [Hq,h,List.getElem?_set_ne this]
theorem ad0(xs ys:List α)(k:Nat)(h:k<xs.length):e_ (xs++ys) k=e_ xs k:=by
 rw [K9 _ k (by simp;omega),K9 _ k h,List.getElem_append_left h]
theorem fq2(xs:List α)(y:α):e_ (xs++[y]) xs.length=y:=by
 rw [K9 _ _ (by simp)];simp
theorem cp5(n:Nat)(i:Int)(d:α)(M:0<=i)(h:i<n):e_ (List.replicate n d) i=d:=by
 rw [bj9 M (by simpa using h)];simp
theorem ao8(xs:List α)(k:Nat)(h:k<xs.length):xs.drop k=e_ xs k::xs.drop (k+1):=by
 rw [K9 xs k h,Lg h]
end
theorem all_succ{p:Nat->Prop}{k:Nat}(h:∀j,j<k->p j)(hk:p k):∀j,j<k+1->p j:=λj hj=>by
 rcases Nat.lt_succ_iff_lt_or_eq.1 hj with M|M
 ·exact h j M
 subst M;exact hk
theorem all_zero{p:Nat->Prop}:∀j,j<0->p j:=λj M=>absurd M (Nat.not_lt_zero j)
end Go.Sl
namespace Go.Sl
structure cc4 {α:Type} (lt:α->α->Prop):Prop where
 irr:∀a,¬lt a a
 tr:∀a b c,lt a b->lt b c->lt a c
 tri:∀a b,lt a b\/a=b\/lt b a
section
variable {α:Type}{lt:α->α->Prop}
theorem cc4.asymm(h:cc4 lt){a b:α}(M:lt a b):¬lt b a:=λh2=>h.irr a (h.tr a b a M h2)
theorem cc4.ne(h:cc4 lt){a b:α}(M:lt a b):a≠b:=λe=>by subst e;exact h.irr a M
theorem cc4.uniq(h:cc4 lt):∀{l m:List α},l.Pairwise lt->m.Pairwise lt->(∀x,x∈l↔x∈m)->l=m
 |[],[],_,_,_=>rfl
 |[],y::ys,_,_,e=>absurd ((e y).2 A_) (by simp)
 |x::xs,[],_,_,e=>absurd ((e x).1 A_) (by simp)
 |x::xs,y::ys,hl,hm,e=>by
  obtain ⟨aa,ab⟩:=Ge.1 hl
  obtain ⟨M,ae⟩:=Ge.1 hm
  have ad:x=y:=by
   rcases Fw.1 ((e x).1 A_) with h1|h1
   ·exact h1
   rcases Fw.1 ((e y).2 A_) with h2|h2
   ·exact h2.symm
   exact absurd (aa y h2)<|h.asymm<|M x h1
  subst ad
  rw [h.uniq ab ae λz=>?_]
  constructor
  ·intro hz
   rcases Fw.1 ((e z).1 (C_ _ hz)) with h1|h1
   ·subst h1;exact absurd (aa z hz) (h.irr z)
   exact h1
  intro hz
  rcases Fw.1 ((e z).2 (C_ _ hz)) with h1|h1
  ·subst h1;exact absurd (M z hz) (h.irr z)
  exact h1
variable [DecidableRel lt][DecidableEq α]
variable (lt) in
def z7:List α->α->List α
 |[],x=>[x]
 |y::ys,x=>if lt y x then y::z7 ys x else if y=x then y::ys else x::y::ys
variable (lt) in
def dd4(l:List α):List α:=l.foldl (z7 lt) []
theorem ar8(x y:α):∀l,y∈z7 lt l x↔y=x\/y∈l
 |[]=>by simp [z7]
 |z::zs=>by
  simp only [z7]
  split
  ·simp only [Fw,ar8 x y zs]
   constructor
   ·rintro (h|h|h)<;>simp [h]
   rintro (h|h|h)<;>simp [h]
  split
  ·rename_i e;subst e;simp
  simp
theorem cc4.z7(h:cc4 lt)(x:α):∀{l:List α},l.Pairwise lt->(Sl.z7 lt l x).Pairwise lt
 |[],_=>by simp [Sl.z7]
 |y::ys,hl=>by
  obtain ⟨M,ab⟩:=Ge.1 hl
  simp only [Sl.z7]
  split
  ·rename_i hyx
   refine Ge.2 ⟨λz hz=>?_,h.z7 x ab⟩
   rcases (ar8 x z ys).1 hz with rfl|hz
   ·exact hyx
   exact M z hz
  rename_i hyx
  split
  ·exact hl
  rename_i hne
  have aa:lt x y:=by
   rcases h.tri x y with h1|h1|h1
   ·exact h1
   ·exact absurd h1.symm hne
   exact absurd h1 hyx
  refine Ge.2 ⟨λz hz=>?_,hl⟩
  rcases Fw.1 hz with rfl|hz
  ·exact aa
  exact h.tr _ _ _ aa<|M z hz
theorem cc4.ga0(h:cc4 lt):∀(l acc:List α),acc.Pairwise lt->(l.foldl (Sl.z7 lt) acc).Pairwise lt
 |[],acc,ha=>ha
 |x::l,acc,ha=>h.ga0 l _ (h.z7 x ha)
theorem cc4.dd4(h:cc4 lt)(l:List α):(Sl.dd4 lt l).Pairwise lt:=h.ga0 l [] List.Pairwise.nil
end
section
variable {α:Type}{lt:α->α->Prop}[Inhabited α]
theorem ao0(l:List α):l.Pairwise lt↔∀i j:Nat,i<j->j<l.length->lt (e_ l i) (e_ l j):=by
 rw [H1]
 constructor
 ·intro h i j M hj
  rw [K9 l i (by omega),K9 l j hj];exact h i j (by omega) hj M
 intro h i j hi hj M
 have:=h i j M hj
 rwa [K9 l i (by omega),K9 l j hj] at this
theorem bq8(M:∀a b c,lt a b->lt b c->lt a c){l:List α}(h:∀i:Nat,i+1<l.length->lt (e_ l i) (e_ l ((i+1:Nat):Int))):l.Pairwise lt:=by
 rw [ao0]
 intro i j aa
 induction j with
 |zero=>omega
 |succ j ih=>
  intro hj
  by_cases e:i=j
  ·subst e;exact h i hj
  exact M _ _ _ (ih (by omega)<|by omega)<|h j hj
end
structure Pt where
 u:Int
 v:Int
deriving Inhabited,DecidableEq
instance:Enc Pt:=⟨λa=>[e7 a.u,e7 a.v],2,by omega,λ_=>rfl,λa x h=>by
 simp only [Fw,Kb,Mo] at h
 rcases h with rfl|rfl<;>rfl⟩
def Pt.lt(a b:Pt):Prop:=a.u<b.u\/(a.u=b.u/\a.v<b.v)
instance:DecidableRel Pt.lt:=λa b=>by unfold Pt.lt;infer_instance
theorem Pt.lin:cc4 Pt.lt where
 irr a h:=by unfold Pt.lt at h;omega
 tr a b c h1 h2:=by unfold Pt.lt at *; omega
 tri a b:=by
  unfold Pt.lt
  by_cases h:a=b
  ·exact .inr<|.inl h
  have:¬(a.u=b.u/\a.v=b.v):=λe=>h (by cases a;cases b;simp_all)
  omega
theorem Pt.bs7(a b:Pt):a=b↔a.u=b.u/\a.v=b.v:=by
 constructor
 ·rintro rfl;exact ⟨rfl,rfl⟩
 intro e;cases a;cases b;simp_all
def Pt.cmp(a b:Pt):Int:=if a.u<b.u then -1 else if b.u<a.u then 1 else if a.v<b.v then -1 else if b.v<a.v then 1 else 0
theorem Pt.W0(a b:Pt):Pt.cmp a b<0↔Pt.lt a b:=by unfold Pt.cmp Pt.lt;split<;>(try split)<;>(try split)<;>(try split)<;>omega
abbrev fk6(l:List Pt):Prop:=l.Pairwise Pt.lt
end Go.Sl
namespace Go.Sl
section
variable {α:Type}(bad:α->Int)(lt:α->α->Prop)[DecidableRel lt]
def R8[Inhabited α](xs:List α)(k:Nat):Option α:=if k=0 then none else some (e_ xs ((k:Int) - 1))
def P5:Option α->List α->Int
 |_,[]=>0
 |none,p::ps=>if bad p≠0 then bad p else P5 (some p) ps
 |some q,p::ps=>if bad p≠0 then bad p else if lt q p then P5 (some p) ps else 5
variable {bad lt}[Inhabited α]{xs:List α}{k:Nat}
theorem ce3:R8 xs (k+1)=some (e_ xs k):=by
 unfold R8;rw [An (by omega)];congr 2;omega
theorem cs5(hk:k<xs.length)(M:bad (e_ xs k)=0)(h2:0<k->lt (e_ xs ((k:Int) - 1)) (e_ xs k)) :
  P5 bad lt (R8 xs k) (xs.drop k)=P5 bad lt (R8 xs<|k+1) (xs.drop<|k+1):=by
 rw [ao8 xs k hk,ce3]
 unfold R8
 split
 ·simp only [P5];rw [An (by simp [M])]
 simp only [P5];rw [An (by simp [M]),B_<|h2<|by omega]
theorem dd6(hk:k<xs.length)(M:bad (e_ xs k)≠0):P5 bad lt (R8 xs k) (xs.drop k)=bad (e_ xs k):=by
 rw [ao8 xs k hk]
 unfold R8
 split
 ·simp only [P5];rw [B_ M]
 simp only [P5];rw [B_ M]
theorem af4(hk:k<xs.length)(M:bad (e_ xs k)=0)(h0:0<k)(h2:¬lt (e_ xs ((k:Int) - 1)) (e_ xs k)):P5 bad lt (R8 xs k) (xs.drop k)=5:=by
 rw [ao8 xs k hk]
 unfold R8
 rw [An (by omega)]
 simp only [P5];rw [An (by simp [M]),An h2]
theorem aq8(M:xs.length<=k):P5 bad lt (R8 xs k) (xs.drop k)=0:=by
 rw [Ha M]
 cases R8 xs k<;>rfl
theorem ai1(hlt:cc4 lt):∀(xs:List α) (q:α),P5 bad lt (some q) xs=0↔(∀x∈xs,bad x=0)/\(q::xs).Pairwise lt
 |[],q=>by simp [P5]
 |p::ps,q=>by
  simp only [P5]
  by_cases h1:bad p=0
  ·rw [An (by simp [h1])]
   by_cases h2:lt q p
   ·rw [B_ h2,ai1 hlt ps p]
    constructor
    ·rintro ⟨a,b⟩
     refine ⟨λx hx=>?_,Ge.2 ⟨λx hx=>?_,b⟩⟩
     ·rcases Fw.1 hx with rfl|hx
      ·exact h1
      exact a x hx
     rcases Fw.1 hx with rfl|hx
     ·exact h2
     exact hlt.tr _ _ _ h2<|(Ge.1 b).1 x hx
    rintro ⟨a,b⟩
    exact ⟨λx hx=>a x<|C_ _ hx,(Ge.1 b).2⟩
   rw [An h2]
   refine ⟨λh=>by simp at h,λh=>absurd ((Ge.1 h.2).1 p A_) h2⟩
  rw [B_ h1]
  exact ⟨λh=>absurd h h1,λh=>h.1 p A_⟩
theorem cs4(hlt:cc4 lt)(xs:List α):P5 bad lt none xs=0↔(∀x∈xs,bad x=0)/\xs.Pairwise lt:=by
 cases xs with
 |nil=>simp [P5]
 |cons p ps=>
  simp only [P5]
  by_cases h1:bad p=0
  ·rw [An (by simp [h1]),ai1 hlt]
   constructor
   ·rintro ⟨a,b⟩
    refine ⟨λx hx=>?_,b⟩
    rcases Fw.1 hx with rfl|hx
    ·exact h1
    exact a x hx
   rintro ⟨a,b⟩
   exact ⟨λx hx=>a x<|C_ _ hx,b⟩
  rw [B_ h1]
  exact ⟨λh=>absurd h h1,λh=>h.1 p A_⟩
end
end Go.Sl
namespace Go.Sl
def p9:Nat->(Nat->Int)->Int
 |0,_=>0
 |m+1,g=>p9 m g+g m
theorem p4:∀(m:Nat) {g h:Nat->Int},(∀k,k<m->g k=h k)->p9 m g=p9 m h
 |0,_,_,_=>rfl
 |m+1,g,h,e=>by simp only [p9];rw [p4 m (λk M=>e k<|by omega),e m<|by omega]
theorem F9:∀(m:Nat) (g h:Nat->Int),p9 m (λk=>g k+h k)=p9 m g+p9 m h
 |0,_,_=>rfl
 |m+1,g,h=>by simp only [p9];rw [F9 m];omega
theorem ad4:∀(m:Nat),p9 m (λ_=>0)=0
 |0=>rfl
 |m+1=>by simp only [p9];rw [ad4 m];rfl
theorem R2(m:Nat){g:Nat->Int}(h:∀k,k<m->g k=0):p9 m g=0:=by rw [p4 m h,ad4]
theorem G6(m p:Nat)(g:Nat->Nat->Int):p9 m (λi=>p9 p (λj=>g i j))=p9 p (λj=>p9 m (λi=>g i j)):=by
 induction m with
 |zero=>simp only [p9];rw [ad4]
 |succ m ih=>simp only [p9];rw [ih,←F9]
theorem R6{m k:Nat}(hk:k<m)(c:Int):p9 m (λj=>if j=k then c else 0)=c:=by
 induction m with
 |zero=>omega
 |succ m ih=>
  simp only [p9]
  by_cases h:k=m
  ·subst h
   rw [R2 k λj M=>by rw [An (by omega)],B_ rfl];omega
  rw [ih (by omega),An<|by omega];omega
theorem aq4{m k:Nat}(hk:k<m){g h:Nat->Int}(e:∀j,j<m->j≠k->h j=g j):p9 m h=p9 m g+(h k - g k):=by
 have h1:p9 m h=p9 m (λj=>g j+if j=k then h k - g k else 0):=p4 m λj M=>by
  by_cases hjk:j=k
  ·subst hjk;simp;omega
  rw [An hjk,e j M hjk];omega
 rw [h1,F9,R6 hk]
end Go.Sl
namespace Go.Sl
section
variable {l:List Pt}{n:Nat}
theorem ca6{i j:Nat}(h:fk6 l)(M:i<j)(hj:j<l.length):Pt.lt (e_ l i) (e_ l j):=(ao0 l).1 h i j M hj
end
end Go.Sl
namespace Go.Sl
end Go.Sl
namespace Go.Sl
variable{xs:List Int}{k:Nat}
def bu7(a b:Int):Int:=if a<b then -1 else if b<a then 1 else 0
def orL:List Int->Int
 |[]=>0
 |x::xs=>if x≠0 then x else orL xs
theorem dw1(M:k<xs.length)(h:e_ xs k≠0):orL (xs.drop k)=e_ xs k:=by
 rw [ao8 xs k M];simp only [orL];rw [B_ h]
theorem dw2(M:k<xs.length)(h:e_ xs k=0):orL (xs.drop k)=orL (xs.drop (k+1)):=by
 rw [ao8 xs k M];simp only [orL];rw [An (by simp [h])]
theorem fn5(M:xs.length<=k):orL (xs.drop k)=0:=by rw [Ha M];rfl
theorem df3(a b:Pt):orL [bu7 a.u b.u,bu7 a.v b.v]=Pt.cmp a b:=by
 simp only [orL,bu7,Pt.cmp]
 split<;>(try split at *)<;>(try split at *)<;>(try split at *)<;>(try split at *)<;>(try split at *)<;>omega
end Go.Sl
namespace Go.Sl
structure s6 (nodes:Int) (es:List Pt):Prop where
 rng:0<=nodes/\nodes<=64
 asc:fk6 es
 Z1:∀e∈es,0<=e.u/\e.u<e.v/\e.v<nodes
def bt5(nodes:Int)(e:Pt):Int:=if e.u<0\/e.v<=e.u\/nodes<=e.v then 6 else 0
def F6(nodes:Int)(es:List Pt):Int:=if nodes<0\/64<nodes then 1 else P5 (bt5 nodes) Pt.lt none es
theorem W3{nodes:Int}{e:Pt}:bt5 nodes e=0↔0<=e.u/\e.u<e.v/\e.v<nodes:=by
 unfold bt5;split<;>omega
theorem s4{nodes:Int}{es:List Pt}:F6 nodes es=0↔s6 nodes es:=by
 unfold F6
 split
 ·rename_i h
  exact ⟨λe=>by omega,λe=>by have:=e.rng;omega⟩
 rename_i h
 rw [cs4 Pt.lin]
 constructor
 ·rintro ⟨M,h2⟩;exact ⟨by omega,h2,λe he=>W3.1<|M e he⟩
 intro M;exact ⟨λe he=>W3.2<|M.Z1 e he,M.asc⟩
variable {nodes:Int}{es:List Pt}
theorem s6.at(h:s6 nodes es){k:Nat}(M:k<es.length):0<=(e_ es k).u/\(e_ es k).u<(e_ es k).v/\(e_ es k).v<nodes:=h.Z1 _ (at_mem (by omega) (by omega))
theorem s6.prev(h:s6 nodes es){k:Nat}(M:k<es.length)(h0:0<k):Pt.lt (e_ es ((k:Int) - 1)) (e_ es k):=by
 have:=ca6 h.asc (i:=k - 1) (j:=k) (by omega) M
 rwa [show ((k - 1:Nat):Int)=(k:Int) - 1 from by omega] at this
theorem dn8{l:List Pt}(h:fk6 l):l.Nodup:=h.imp fun {a b} h e=>Pt.lin.ne h e
end Go.Sl
namespace Go.Sl
variable{x y:Operand}{S T U:TypeId}{m n:Int}
section
variable {P:Program}{κ:Ctx}{N:Frm}{Q:Exit->Act->World->Prop}{L:Env}{I J:List Item}
variable {d:Option Tmp}{ty:TypeId}{ps:String}{af:Array Edge}{gd:Option (Nat×Bool)}
theorem j8.ga3{k k' q:IntKind}(hs:P.underlying S=some (.int q))(M:P.underlying T=some (.int k))(hx:er L x=some (.int k' n)) :
  j8 P κ N ⟨d,.convert S T x,ty,ps,af,gd⟩ L J (.int k<|k.wrap n):=λa w ha _=>by
 simp [execOp,ha.eval hx,convert,run_underlying hs,run_underlying M,Conv.intToInt]
theorem j8.fa9{k' q:IntKind}(hs:P.underlying S=some (.int q))(M:P.underlying T=some (.int .i64))(hx:er L x=some (.int k' n))(hr:InR n) :
  j8 P κ N ⟨d,.convert S T x,ty,ps,af,gd⟩ L J (e7 n):=by
 have h:=j8.ga3 (P:=P) (κ:=κ) (N:=N) (J:=J) (d:=d) (ty:=ty) (ps:=ps) (af:=af) (gd:=gd) hs M hx
 rwa [hr.wrap] at h
theorem j8.ga4{k' q:IntKind}(hs:P.underlying S=some (.int q))(M:P.underlying T=some (.int .u64))(hx:er L x=some (.int k' n))(hr:0<=n/\n<=18446744073709551615) :
  j8 P κ N ⟨d,.convert S T x,ty,ps,af,gd⟩ L J (.int .u64 n):=by
 have h:=j8.ga3 (P:=P) (κ:=κ) (N:=N) (J:=J) (d:=d) (ty:=ty) (ps:=ps) (af:=af) (gd:=gd) hs M hx
 rwa [Go.IntWalk.u64_in _ hr] at h
theorem j8.gj7{k k':IntKind}(hx:er L x=some (.int k m))(hy:er L y=some (.int k' n))(h0:0<=n) :
  j8 P κ N ⟨d,.binOp .shr T x y U,ty,ps,af,gd⟩ L J (.int k<|m.fdiv<|2 ^ Min.min n.toNat k.bits):=λa w M _=>by
 have h:¬n<0:=by omega
 simp only [execOp,M.eval hx,M.eval hy]
 simp [go_sem,Op.shift,h]
theorem j8.shlw{k k':IntKind}(hx:er L x=some (.int k m))(hy:er L y=some (.int k' n))(h0:0<=n) :
  j8 P κ N ⟨d,.binOp .shl T x y U,ty,ps,af,gd⟩ L J (.int k<|k.wrap<|m*2 ^ Min.min n.toNat k.bits):=λa w M _=>by
 have h:¬n<0:=by omega
 simp only [execOp,M.eval hx,M.eval hy]
 simp [go_sem,Op.shift,h]
theorem j8.gj8{k':IntKind}(M:er L x=some (.int .u64 m))(hy:er L y=some (.int k' 1)) :
  j8 P κ N ⟨d,.binOp .shr T x y U,ty,ps,af,gd⟩ L J (.int .u64<|m / 2):=by
 have h:=j8.gj7 (P:=P) (κ:=κ) (N:=N) (J:=J) (d:=d) (ty:=ty) (ps:=ps) (af:=af) (gd:=gd) (T:=T) (U:=U) M hy (by decide)
 have e:m.fdiv (2 ^ Min.min (1:Int).toNat IntKind.u64.bits)=m / 2:=by
  rw [show (2:Int) ^ Min.min (1:Int).toNat IntKind.u64.bits=2 by decide]
  exact Int.fdiv_eq_ediv_of_nonneg _<|by decide
 rwa [e] at h
theorem V.gf2{fn:Func}{t u s:Tmp}{T b E sz by':Nat}{z cs:List Value}{v' M:Value}{Post:Value->List Item->Prop}(hr:fn.results = #[.cell t T,.tmp u,.tmp s])(hT:tyF P T=some (sz,true,by',z))(hv:look L t=some ((pt b)))(ae:look L u=some v')(ad:look L s=some M)(hb:e8 b cs E∈I)
  (hl:cs.length=sz) (J:List Item) (hf:Fit κ I J) (hp:Post (.tuple #[.agg cs.toArray,v',M]) J) (h0:N.ds=[]:=by rfl):V κ N (bodyPost P fn<|ch5 κ Post) .ret L I:=
 λa w ha hs=>by
  have aa:=λj=>am6 (w:=w) (hs.ok _ hb).1 j
  have ab:(loadVar T ⟨b,0,none⟩).run P w = .ok (.agg cs.toArray) w:=aa0 hT hl λj u hj=>by rw [G9,aa,←hj];simp
  refine bodyPost_ret (v:= .tuple #[.agg cs.toArray,v',M]) ?_ (ha.defers.trans h0) ⟨_,J,rfl,hp,hf w hs⟩
  simp [results,hr,ha.get t _ hv,ha.get u _ ae,ha.get s _ ad,asAddr,ab]
end
end Go.Sl
namespace Go.Sl
open Go.RowKit (Below)
variable{w:World}{by' c dd e k m n q sz t:Nat}{cs ds z:List Value}{x y:Operand}{ag:Bool}{ad:Option Addr}
section
variable {P:Program}{κ:Ctx}{N:Frm}{Q:Exit->Act->World->Prop}{L:Env}{I J:List Item}{ops:Array Oper}{rest:List Oper}
variable {d:Option Tmp}{ty:TypeId}{ps:String}{af:Array Edge}{gd:Option (Nat×Bool)}
theorem aa3{v:Value}(h:da7 w sz v m ds)(hq:q<=m):(Builtin.firstCells sz q v).run P w = .ok (ds.take (q*sz)).toArray w:=by
 obtain ⟨a,cap,rfl,h1,h2,h3,h4⟩:=h
 have aa:q*sz<=m*sz:=Hi _ hq
 by_cases hc:0<cap
 ·obtain ⟨b,off,rfl,hr⟩:=h4 hc
  exact run_firstCells_some w sz q _ m cap _ (by rw [Fp];omega) λj u M=>by
   rw [G9]
   rw [Je] at M
   split at M
   ·exact hr j u M
   cases M
 obtain rfl:m=0:=by omega
 obtain rfl:q=0:=by omega
 cases a with
 |none=>simp [Builtin.firstCells]
 |some a=>rw [run_firstCells_some w sz 0 a 0 cap [] (by simp) (by simp)];simp
theorem db1{e:TypeId}{b off:Nat}{vs:List Value}{M:Array Value}(hl:cs.length=n*sz)(ab:n<=c)(ae:c<=maxLen)(hb:w.heap[b]? = some (.cells M e (0,0)))
  (ad:off+c*sz<=M.size) (aa:∀j u,cs[j]? = some u->M[off+j]? = some u) (hk:k+vs.length<=cs.length) :
  av0 (w.setRow b (M.toList.take (off+k)++vs++M.toList.drop (off+k+vs.length)).toArray) e sz (.slice (some ⟨b,off,none⟩) n c) n (cs.take k++vs++cs.drop (k+vs.length)):=by
 have ah:n*sz<=c*sz:=Hi _ ab
 refine ⟨_,c,rfl,by simp only [By,Fp,Fx];omega,ab,ae,λhc=>⟨b,off,_,rfl,setRow_heap w b M _ e _ hb,?_,λj u' hj=>?_⟩⟩
 ·simp only [Ji,By,Fp,Fx,Hh];omega
 have ai:j<cs.length:=by have:=(Gw.1 hj).1;simp only [By,Fp,Fx] at this;omega
 have hA:(M.toList.take<|off+k).length=off+k:=by simp only [Fp,Hh];omega
 have hB:(cs.take k).length=k:=by simp only [Fp];omega
 simp only [Jm]
 rw [Fr] at hj
 rw [Fr]
 by_cases hjk:j<k
 ·rw [Gu (by omega),Je,B_ hjk] at hj
  rw [Gu (by omega),Je,B_<|by omega]
  simpa using aa j u' hj
 rw [Hf (by omega),hB] at hj
 rw [Hf (by omega),hA,show off+j - (off+k)=j - k from by omega]
 by_cases hjv:j - k<vs.length
 ·rw [Gu hjv] at hj
  rw [Gu hjv]
  exact hj
 rw [Hf (by omega),Ju,show k+vs.length+(j - k - vs.length)=j from by omega] at hj
 rw [Hf (by omega),Ju,show off+k+vs.length+(j - k - vs.length)=off+j from by omega]
 simpa using aa j u' hj
theorem Eff.cg2{t' n':Nat}{u:Value}{I':List Item}(ht:P.underlying t=some (.slice e))(hT:tyF P e=some (sz,ag,by',z))
  (hx:er L x=some (.slice (N9 ad c k sz) n'<|c - k)) (ax:n'=n - k) (hy:er L y=some u) (hu:au7 κ I sz u m ds) (hk:k<=n) (hq:q=min m (n - k)) (h1:∀w∈ds.take (q*sz),w.oneCell'=true) (hN:Nat.blt dd N.n=true)
  (ai:At I (vec e sz (.slice ad n c) n cs) (vec e sz (.slice ad n c) n<|cs.take (k*sz)++ds.take (q*sz)++cs.drop (k*sz+q*sz)) I') :
  Eff P κ N Q ⟨some dd,.call {callee:= .builtin .copy,args:= #[x,y],argTypes:= #[t,t']},ty,ps,af,gd⟩ L I λL' I''=>L'=(dd,e7 q)::L/\I''=I':=
 Eff.Q6 rfl hN λa w ha hs=>by
  subst ax
  obtain ⟨a',az,hv,hl,ap,ay,ar⟩:=(hs.ok _ ai.mem).1
  cases hv
  have aj:=hu w hs
  have ab:=ai2 (P:=P) aj
  have a0:m*sz<=ds.length:=by obtain ⟨_,_,_,h,_⟩:=aj;omega
  have a3:q*sz<=m*sz:=Hi _ (by omega)
  have ah:=aa3 (P:=P) aj (show q<=m by omega)
  have M:m.min (n - k)=q:=hq.symm
  have ak:(ds.take<|q*sz).length=q*sz:=by rw [Fp];omega
  have a1:q*sz+k*sz<=n*sz:=by rw [←Jg];exact Hi _ (by omega)
  by_cases hq0:q=0
  ·subst hq0
   refine ⟨e7 0,w,I',?_,⟨rfl,rfl⟩,?_⟩
   ·cases ae:N9 ad c k sz with
    |none=>simp [execOp,resolve,invoke,builtin,ha.eval hx,ha.eval hy,Builtin.copy_,run_underlying ht,ab,run_sizeOf hT,M,ah,ae,goInt]
    |some aa=>simp [execOp,resolve,invoke,builtin,ha.eval hx,ha.eval hy,Builtin.copy_,run_underlying ht,ab,run_sizeOf hT,M,ah,ae,goInt,storeCells]
   refine Fit.upd ai (λw hw=>?_) w hs
   have e:cs.take (k*sz)++ds.take (0*sz)++cs.drop (k*sz+0*sz)=cs:=by simp
   rw [e]
   exact ⟨hw,λ_ h=>h⟩
  obtain ⟨b,off,au,rfl,hb,an,ao⟩:=ar (by omega)
  have aq:=run_storeCells_at P b (off+k*sz) e (ds.take (q*sz)) 0 au w hb (by
   have:=Hi sz ap
   simp only [Kz];omega) h1
  simp only [Kz] at aq
  have ae:N9 (some ⟨b,off,none⟩) c k sz=some ⟨b,off+k*sz,none⟩:=by unfold N9;rw [An (by omega)];simp [G9]
  refine ⟨e7 q,_,I',by simp only [execOp,resolve,invoke,builtin,Jp,Hg,Kq,ha.eval hx,ha.eval hy];simp [Builtin.copy_,run_underlying ht,ab,run_sizeOf hT,M,ah,ae,goInt];rw [aq];simp only [Result.andThen_ok];rfl,⟨rfl,rfl⟩,?_⟩
  refine hs.upd ai rfl ⟨rfl,Gd _⟩ rfl (by simp) (λk' _ av=>setRow_other w b k' _ λe=>av<|by subst e;exact ⟨off,n,c,rfl,by omega⟩) ?_ λk' aw=> .inl ?_
  ·have:=db1 (k:=k*sz) (vs:=ds.take (q*sz)) hl ap ay hb an ao (by rw [ak];omega)
   rw [ak] at this
   rw [ak]
   exact this
  exact aw
theorem vec.room{e:TypeId}{h:Nat}(hh:n<=h)(hc:h<=c):∀w,(vec e sz (.slice ad n c) n cs).ok w->∃js:List Value,js.length=(h - n)*sz/\(vec e sz (.slice ad h c) h (cs++js)).ok w:=by
 intro w hw
 obtain ⟨a',aj,hv,hl,an,ab,ah⟩:=hw
 cases hv
 by_cases hc0:0<c
 ·obtain ⟨b,off,ae,rfl,hb,M,aa⟩:=ah hc0
  have ak:h*sz<=c*sz:=Hi _ hc
  have ai:n*sz+(h - n)*sz=h*sz:=by rw [←Jg];congr 1;omega
  refine ⟨(ae.toList.drop<|off+n*sz).take ((h - n)*sz),by simp only [Fp,Fx,Hh];omega,_,c,rfl,by simp only [By,Fp,Fx,Hh];omega,hc,ab,λ_=>⟨b,off,ae,rfl,hb,M,λj u hj=>?_⟩⟩
  by_cases hjn:j<cs.length
  ·rw [Gu hjn] at hj;exact aa j u hj
  rw [Hf (by omega),Je] at hj
  split at hj
  ·rw [Ju,show off+n*sz+(j - cs.length)=off+j from by omega] at hj
   simpa using hj
  cases hj
 obtain rfl:h=0:=by omega
 obtain rfl:n=0:=by omega
 exact ⟨[],by simp,_,c,rfl,by simpa using hl,by omega,ab,λh=>absurd h hc0⟩
theorem Eff.grow{α:Type}[Enc α][Inhabited α]{xs:List α}{u i:Nat}{m:Int}(ht:P.underlying t=some (.slice e))(hu:P.underlying u=some (.int .i64))(hT:tyF P e=some (Enc.sz α,ag,by',z))(hz:z=Enc.enc (default:α))
  (hx:er L x=some (.slice ad i c)) (hy:er L y=some (e7 m)) (hm:m=(k:Int)) (hv:Sl κ I (.slice ad xs.length c) xs) (hi:i<=xs.length) (hk:0<k) (hg:c<i+k) (ao:(i+k)*by'<=140737488355328) (ai:0<by') (hN:Nat.blt dd N.n=true) :
  Eff P κ N Q ⟨some dd,.call {callee:= .builtin .append,args:= #[x,y],argTypes:= #[t,u]},ty,ps,af,gd⟩ L I λL' I''=>∃ad' c',L'=(dd,.slice ad' (i+k) c')::L/\I''=vc e (.slice ad' (i+k) c') (xs.take i++List.replicate k (default:α))::I:=
 Eff.Q6 rfl hN λa w ha hs=>by
  subst hm
  obtain ⟨i0,zv,d0,aw,ax,a0,ay,a3,au,an⟩:=af1 hT
  have aj:=Enc.pos (α:=α)
  have ap:i+k<=maxLen:=by
   have:=Lm (i+k) ai
   simp only [maxLen];omega
  have ah:=(Sl.take hv hi) w.drew (hs.drew)
  have hlt:(xs.take i).length=i:=by rw [Fp];omega
  rw [hlt] at ah
  have hold:=aa3 (P:=P) ah (Gd i)
  have ak:(cells<|xs.take i).length=i*Enc.sz α:=by rw [r9,hlt]
  rw [Fv (by omega)] at hold
  have ar:=Go.Lib.run_append_grow_zeros (P:=P) w t u ty e i0 zv .i64 .i64 ht hu aw ax ad i c (cells<|xs.take i) (by rw [ay];exact hold) k hk (by omega) hg (by simp only [maxLen] at ap;omega)
   (by rw [au];rw [Jg] at ao;omega) (growslice_fits hg<|by rw [au];exact ao)
  have aq:=grownCap_ge w (i+k) c e
  have az:=grownCap_le_maxLen w (i+k) c e ap
  have ab:zv.cells.size=Enc.sz α:=by rw [an,hz,Ji,Enc.len]
  have aa:(Builtin.zeroCells zv.cells k).toList=cells (List.replicate k (default:α)):=by
   rw [←bd2,←hz]
   apply Mt
   intro j
   simp only [Builtin.zeroCells,Md,Ll,Kr,ab]
   by_cases M:j<k*Enc.sz α
   ·rw [Ml M]
    have av:j % Enc.sz α<z.length:=by rw [hz,Enc.len];exact Nat.mod_lt _ aj
    rw [aa9 z k j (by omega) (by rw [hz,Enc.len];exact M),show z.length=Enc.sz α from by rw [hz,Enc.len],an]
    simp [av]
   rw [Jn (by simpa using M),Jn (by rw [aw2,hz,Enc.len];omega)]
   rfl
  refine ⟨.slice (some ⟨w.heap.size,0,none⟩) (i+k)<|grownCap w (i+k) c e,w.drew.alloc<|.cells ((cells<|xs.take i).toArray++Builtin.zeroCells zv.cells k++Builtin.zeroCells zv.cells (grownCap w (i+k) c e - (i+k))) e,_,by simp only [execOp,resolve,invoke,builtin,Jp,Hg,Kq,ha.eval hx,ha.eval hy];simp [ar],⟨_,_,rfl,rfl⟩,?_⟩
  have ae:(xs.take i++List.replicate k (default:α)).length=i+k:=by rw [By,hlt,Fy]
  refine hs.drew.new (hs.drew.alloc _) ?_ λj M=>?_
  ·show av0 _ e _ _ _ _
   rw [ae]
   refine ⟨_,_,rfl,by rw [r9,ae],aq,az,λ_=>⟨w.heap.size,0,_,rfl,heap_alloc_new w.drew _,?_,λj u M=>?_⟩⟩
   ·simp only [Array.size_append,Ji,size_zeroCells,ab,ak,←Jg,Ls]
    rw [Nat.add_sub_cancel' aq]
    exact Gd _
   rw [Ls,Jh (by
    have:=(Gw.1 M).1
    rw [r9,ae] at this
    simp only [Array.size_append,Ji,size_zeroCells,ab,ak,←Jg];exact this)]
   rw [K8,←aa] at M
   have e1:(cells<|xs.take i).toArray++Builtin.zeroCells zv.cells k=(cells (xs.take i)++(Builtin.zeroCells zv.cells k).toList).toArray:=by
    apply Array.ext';simp
   rw [e1,Jm];exact M
  obtain ⟨o,n',c',he,a1⟩:=M
  cases he
  exact ⟨Gd _,by simp⟩
theorem Eff.overlaps{f tb k' c':Nat}{av:Array TypeId}{ah:Option Addr}{e' ai:Nat}{K:List Item}
  (ax:∀args w,(callFunc f args).run P w=((Extern.SlicesOverlaps.overlaps #[t,t] #[tb] args).run P w).andThen λv w'=> .ok (.value v) w') (ht:P.underlying t=some (.slice e)) (hT:tyF P e=some (sz,ag,by',z))
  (hx:er L x=some (.slice ad m c)) (hy:er L y=some (.slice (N9 ah c' k sz) k'<|c' - k)) (a5:k<=c') (h0:0<m) (a1:0<n) (ak:Fit κ I (vec e sz (.slice ad m c) m cs::vec e' ai (.slice ah n c') n ds::K)) (a4:0<c'*ai) (hN:Nat.blt dd N.n=true) :
  Eff P κ N Q ⟨some dd,.call {callee:= .value (.func f),args:= #[x,y],argTypes:=av},ty,ps,af,gd⟩ L I λL' I''=>L'=(dd,.bool false)::L/\I''=I:=
 Eff.Q6 rfl hN λa w ha hs=>by
  have ab:=ak w hs
  obtain ⟨_,_,hv,_,a3,_,an⟩:=(ab.ok _ A_).1
  cases hv
  obtain ⟨_,_,aq,_,a0,_,aa⟩:=(ab.ok _<|C_ _ A_).1
  cases aq
  obtain ⟨b,off,ar,rfl,hb,aw,_⟩:=an (by omega)
  obtain ⟨b',M,ae,rfl,ap,ao,_⟩:=aa (by omega)
  have az:Item.apart _ _:=(Ge.1 ab.pw).1 _ A_
  have au:b≠b':=λe=>by
   subst e
   exact az b ⟨off,m,c,rfl,by omega⟩ ⟨M,n,c',rfl,by omega⟩
  have ay:∃o,N9 (some ⟨b',M,none⟩) c' k sz=some ⟨b',o,none⟩:=by
   unfold N9;split
   ·exact ⟨_,rfl⟩
   exact ⟨_,by simp [G9];rfl⟩
  obtain ⟨o,ho⟩:=ay
  rw [ho] at hy
  have aj:=Go.Lib.run_overlaps_apart w t tb e ht sz (λw=>run_sizeOf hT w) ⟨b,off,none⟩ ⟨b',o,none⟩ m c k' (c' - k) au e e' ar.size ae.size (by simp [World.shape?,hb]) (by simp [World.shape?,ap]) (by omega) (by simp [World.frozen?,hb]) (by simp [World.frozen?,hb])
  refine ⟨.bool false,w,I,?_,⟨rfl,rfl⟩,hs⟩
  have e1:a.eval (.func f) = .func (.func f) #[] #[]:=rfl
  simp only [execOp,resolve,e1,Deferred.ofValue,invoke,Sem.run_bind,Sem.run_pure,Result.andThen_ok,Jp,Hg,Kq,ha.eval hx,ha.eval hy]
  simp only [Array.empty_append,Array.append_empty,ax,aj,Result.andThen_ok]
theorem j8.dz6{T E U:Nat}(ht:P.underlying T=some (.slice E))(hx:er L x=some (.slice ad n c))(hy:er L y=some (.slice none 0 0)) :
  j8 P κ N ⟨d,.binOp .eql T x y U,ty,ps,af,gd⟩ L J (.bool ad.isNone):=λa w M _=>by
 have hg:(eqGuard .eql T x y (.slice ad n c)<|.slice none 0 0).run P w = .ok () w:=by simp [eqGuard]
 have h:=Go.Lib.run_eql_slice_nil (P:=P) w T E ad n c 0 0 ht
 simp only [execOp,M.eval hx,M.eval hy]
 simp [hg,h]
theorem Eff.bs0{α:Type}[Enc α](M:P.underlying t=some (.slice e))(hT:tyF P e=some (Enc.sz α,ag,by',z))(hN:Nat.blt dd N.n=true) :
  Eff P κ N Q ⟨some dd,.buildSlice t 0 #[],ty,ps,af,gd⟩ L I λL' I''=>∃ad,L'=(dd,.slice ad 0 0)::L/\I''=vc e (.slice ad 0 0) ([]:List α)::I:=
 Eff.Q6 rfl hN λa w ha hs=>by
  refine ⟨.slice (some ⟨w.heap.size,0,none⟩) 0 0,w.alloc<|.cells #[] e,_,by simp [execOp,Instr.buildSlice,run_underlying M,run_sizeOf hT,Instr.fill,newRow,Array.range_zero'],⟨_,rfl,rfl⟩,?_⟩
  exact hs.new (hs.alloc _) ⟨_,0,rfl,by simp [cells],Gd _,by simp,λh=>absurd h<|by decide⟩ λk hk=>by
   obtain ⟨o,n',c',he,aa⟩:=hk
   cases he
   omega
theorem Sl.isNone{α:Type}[Enc α]{xs:List α}(h:Sl κ I (.slice ad xs.length c) xs):∀w,Sep κ w I->ad.isNone=true->xs=[]/\c=0:=λw hs hn=>by
 obtain ⟨a,cap,he,h1,h2,h3,M⟩:=h w hs
 cases he
 by_cases hc:0<c
 ·obtain ⟨b,off,rfl,_⟩:=M hc;cases hn
 exact ⟨Hn<|by omega,by omega⟩
end
end Go.Sl
