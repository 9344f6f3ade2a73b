/- A part of the proofs of statements of this seat: contracts of functions, and the plain laws that they lean on. No conditions. -/
import Derived.Test.YtfkcohmipjhfcaaGreatDoorB2
import Derived.Shelf.SortM.Plain
import Derived.Shelf.SortM.SortNone
import Derived.Lib.Overlaps
import Derived.Lib.AppendZerosOnto
import Derived.Lib.SliceRun
set_option linter.unusedVariables false
set_option linter.unusedSimpArgs false
set_option linter.unusedSectionVars false
namespace Go.Sl
variable{c0 c1 c2 c3 c4 c5 c6 c7 u v v0 v1 v2 v3 v4 v5 v6 v7 v8 v9:Value}{E T b by' fuel j k s stop t:Nat}{c x y:Operand}{ag:Bool}{cs vs z:List Value}{i:Int}{M:Array Bool}
class TyI (P:Program) (T:TypeId) (r:outParam (Nat×Bool×Nat×List Value)):Prop where h:tyF P T=some r
class N4 (P:Program) (T k:Nat) (off:outParam Nat):Prop where h:Q4 P T k=some off
class bn0 (P:Program) (T:TypeId) (E:outParam TypeId):Prop where h:P.underlying T=some (.slice E)
class ah2 (P:Program) (T:TypeId):Prop where h:∃fs,P.underlying T=some (.struct fs)
class PlI (P:Program) (T:TypeId) (p:outParam (Array (Nat×Nat))):Prop where h:∀w:World,(F8 P T).run P w = .ok p w
structure gx9 (p:Prop):Prop where h:p
section
variable {P:Program}{κ:Ctx}{N:Frm}{Q:Exit->Act->World->Prop}{L:Env}{I J:List Item}{ops:Array Oper}{o:Oper}{rest:List Oper}{q:Op}{ty:TypeId}{ps:String}{af:Array Edge}{gd:Option (Nat×Bool)}{d:Option Tmp}
theorem ta7{p:Prop}(h:p:=by assumption):p:=h
theorem Sl.a{α:Type}[Enc α]{xs:List α}(h:Sl κ J v xs:=by first|exact Sl.o|exact Sl.f ta7):Sl κ J v xs:=h
theorem wOn{b:Bool}(hg:o.guard=some (j,b))(hj:(ops[j]?).bind (·.dst)=some t)(E:look L t=some v)(M:v = .bool b:=by with_reducible rfl):p8 N ops o L:=p8.on hg hj (E.trans (Fz some M))
theorem wOf(hg:o.guard=some (j,true))(hj:(ops[j]?).bind (·.dst)=some t)(E:look L t=some v)(M:v = .bool false:=by with_reducible rfl):y4 N ops o L:=y4.off hg hj (E.trans (Fz some M))
theorem wOg(hg:o.guard=some (j,false))(hj:(ops[j]?).bind (·.dst)=some t)(E:look L t=some v)(M:v = .bool true:=by with_reducible rfl):y4 N ops o L:=y4.off hg hj (E.trans (Fz some M))
theorem Rpt(M:ep L c=some u)(E:ep L x=some v)(hu:u = .bool true:=by with_reducible rfl):j0 P κ N ⟨d,.pick c x y,ty,ps,af,gd⟩ L J v:=j0.gi1 (M.trans (Fz some hu)) E
theorem Rpf(M:ep L c=some u)(E:ep L y=some v)(hu:u = .bool false:=by with_reducible rfl):j0 P κ N ⟨d,.pick c x y,ty,ps,af,gd⟩ L J v:=j0.gi2 (M.trans (Fz some hu)) E
theorem RnT{T:TypeId}(M:ep L x=some u)(E:u = .bool true:=by with_reducible rfl):j0 P κ N ⟨d,.unOp .not T x,ty,ps,af,gd⟩ L J (.bool false):=j0.not (b:=true) (M.trans (Fz some E))
theorem RnF{T:TypeId}(M:ep L x=some u)(E:u = .bool false:=by with_reducible rfl):j0 P κ N ⟨d,.unOp .not T x,ty,ps,af,gd⟩ L J (.bool true):=j0.not (b:=false) (M.trans (Fz some E))
theorem Ri{α:Type}[Enc α]{xs:List α}{y:Operand}{by':Nat}{ag:Bool}{z:List Value}{i:Int}[bn0 P T E]
  (hx:ep L x=some v:=by exact rfl) (hv:Sl κ J v xs:=by first|exact Sl.o|exact Sl.f ta7) (M:tyF P E=some (Enc.sz α,ag,by',z):=by exact TyI.h) (hy:ep L y=some (e7 i):=by exact rfl) (h0:0<=i:=by omega) (hn:i<xs.length:=by first|omega|(simp only [Gd];omega)) :
  j0 P κ N ⟨d,.indexAddr T x y,ty,ps,af,gd⟩ L J (s6 v<|i.toNat*Enc.sz α):=j0.idx bn0.h M hx hy hv h0 hn
theorem Rlt{α:Type}[Enc α]{xs:List α}[bn0 P T E](hx:ep L x=some v:=by exact rfl)(M:Sl κ J v xs:=by first|exact Sl.o|exact Sl.f ta7) :
  j0 P κ N ⟨d,.call {callee:= .builtin .len,args:= #[x],argTypes:= #[T]},ty,ps,af,gd⟩ L J (e7 xs.length):=j0.gw9 bn0.h hx M
theorem Rgi{xs:List Int}[TyI P T (s,false,by',z)](E:ep L x=some (s6 v (i.toNat*Enc.sz Int)):=by exact rfl)(M:Sl κ J v xs:=by first|exact Sl.o|exact Sl.f ta7)(h0:0<=i:=by omega)(hn:i<xs.length:=by first|omega|(simp only [Gd];omega)) :
  j0 P κ N ⟨d,.load T x,ty,ps,af,gd⟩ L J (e7<|e_ xs i):=j0.get TyI.h E M h0 hn
theorem RgB{xs:List Bool}[TyI P T (s,false,by',z)](E:ep L x=some (s6 v (i.toNat*Enc.sz Bool)):=by exact rfl)(M:Sl κ J v xs:=by first|exact Sl.o|exact Sl.f ta7)(h0:0<=i:=by omega)(hn:i<xs.length:=by first|omega|(simp only [Gd];omega)) :
  j0 P κ N ⟨d,.load T x,ty,ps,af,gd⟩ L J (.bool<|e_ xs i):=j0.gx3 TyI.h E M h0 hn
theorem Rgs{α:Type}[Enc α][Inhabited α]{xs:List α}[TyI P T (s,true,by',z)](E:ep L x=some (s6 v (i.toNat*Enc.sz α)):=by exact rfl)(hs:s=Enc.sz α:=by exact rfl)(M:Sl κ J v xs:=by first|exact Sl.o|exact Sl.f ta7)(h0:0<=i:=by omega)(hn:i<xs.length:=by first|omega|(simp only [Gd];omega)) :
  j0 P κ N ⟨d,.load T x,ty,ps,af,gd⟩ L J (.agg (Enc.enc<|e_ xs i).toArray):=j0.gx2 (by rw [←hs];exact TyI.h) E M h0 hn
theorem Rf{α:Type}[Enc α]{xs:List α}{off m:Nat}[N4 P T k off](E:ep L x=some (s6 v (m*Enc.sz α)):=by exact rfl)(M:Sl κ J v xs:=by first|exact Sl.o|exact Sl.f ta7)(hn:0<xs.length:=by first|omega|(simp only [Gd];omega)) :
  j0 P κ N ⟨d,.fieldAddr T x k,ty,ps,af,gd⟩ L J (s6 v<|m*Enc.sz α+off):=j0.fld N4.h E M hn
theorem Rg0{α:Type}[Enc α][Inhabited α]{xs:List α}[TyI P T (s,false,by',z)](M:ep L x=some (s6 v (i.toNat*Enc.sz α)):=by exact rfl)(E:Sl κ J v xs:=by first|exact Sl.o|exact Sl.f ta7)(h0:0<=i:=by omega)(hn:i<xs.length:=by first|omega|(simp only [Gd];omega))(hu:(Enc.enc (e_ xs i))[0]? = some u:=by exact rfl) :
  j0 P κ N ⟨d,.load T x,ty,ps,af,gd⟩ L J u:=j0.gj9 TyI.h M E h0 hn hu
theorem Rgf{α:Type}[Enc α][Inhabited α]{xs:List α}[TyI P T (s,false,by',z)](E:ep L x=some (s6 v (i.toNat*Enc.sz α+j)):=by exact rfl)(hv:Sl κ J v xs:=by first|exact Sl.o|exact Sl.f ta7)(h0:0<=i:=by omega)(hn:i<xs.length:=by first|omega|(simp only [Gd];omega))(M:(Enc.enc (e_ xs i))[j]? = some u:=by exact rfl) :
  j0 P κ N ⟨d,.load T x,ty,ps,af,gd⟩ L J u:=j0.gs9 TyI.h E hv h0 hn M
theorem Rl2{o:Nat}{M:Value}[TyI P T (2,true,by',z)](hx:ep L x=some (.pointer (some ⟨b,o,none⟩)):=by exact rfl)(hb:e8 b cs E∈J:=by repeat (first|exact C_|apply Fv))(hc:(cs.drop o).take 2=[M,v1]:=by exact rfl):j0 P κ N ⟨d,.load T x,ty,ps,af,gd⟩ L J (.agg #[M,v1]):=j0.ao4 TyI.h hx hb hc rfl
theorem Rb2{E:Value}{M:List (Nat×Operand)}{pl:Array (Nat×Nat)}[TyI P T (2,ag,by',z)][ah2 P T][PlI P T pl](hp:Q5 L (M.map (·.2))=some vs:=by exact rfl)(hf:Instr.fill (pl[·]?) z.toArray ((M.map (·.1)).zip vs)=some [E,c1].toArray:=by exact rfl):j0 P κ N ⟨d,.build T M.toArray,ty,ps,af,gd⟩ L J (.agg #[E,c1]):=(ah2.h (P:=P) (T:=T)).elim λ_ hs=>j0.build TyI.h hs PlI.h hp hf
theorem Rl3{o:Nat}{M:Value}[TyI P T (3,true,by',z)](hx:ep L x=some (.pointer (some ⟨b,o,none⟩)):=by exact rfl)(hb:e8 b cs E∈J:=by repeat (first|exact C_|apply Fv))(hc:(cs.drop o).take 3=[M,v1,v2]:=by exact rfl):j0 P κ N ⟨d,.load T x,ty,ps,af,gd⟩ L J (.agg #[M,v1,v2]):=j0.ao4 TyI.h hx hb hc rfl
theorem Rb3{E:Value}{M:List (Nat×Operand)}{pl:Array (Nat×Nat)}[TyI P T (3,ag,by',z)][ah2 P T][PlI P T pl](hp:Q5 L (M.map (·.2))=some vs:=by exact rfl)(hf:Instr.fill (pl[·]?) z.toArray ((M.map (·.1)).zip vs)=some [E,c1,c2].toArray:=by exact rfl):j0 P κ N ⟨d,.build T M.toArray,ty,ps,af,gd⟩ L J (.agg #[E,c1,c2]):=(ah2.h (P:=P) (T:=T)).elim λ_ hs=>j0.build TyI.h hs PlI.h hp hf
theorem Rl4{o:Nat}{M:Value}[TyI P T (4,true,by',z)](hx:ep L x=some (.pointer (some ⟨b,o,none⟩)):=by exact rfl)(hb:e8 b cs E∈J:=by repeat (first|exact C_|apply Fv))(hc:(cs.drop o).take 4=[M,v1,v2,v3]:=by exact rfl):j0 P κ N ⟨d,.load T x,ty,ps,af,gd⟩ L J (.agg #[M,v1,v2,v3]):=j0.ao4 TyI.h hx hb hc rfl
theorem Rb4{E:Value}{M:List (Nat×Operand)}{pl:Array (Nat×Nat)}[TyI P T (4,ag,by',z)][ah2 P T][PlI P T pl](hp:Q5 L (M.map (·.2))=some vs:=by exact rfl)(hf:Instr.fill (pl[·]?) z.toArray ((M.map (·.1)).zip vs)=some [E,c1,c2,c3].toArray:=by exact rfl):j0 P κ N ⟨d,.build T M.toArray,ty,ps,af,gd⟩ L J (.agg #[E,c1,c2,c3]):=(ah2.h (P:=P) (T:=T)).elim λ_ hs=>j0.build TyI.h hs PlI.h hp hf
theorem Rl5{o:Nat}{M:Value}[TyI P T (5,true,by',z)](hx:ep L x=some (.pointer (some ⟨b,o,none⟩)):=by exact rfl)(hb:e8 b cs E∈J:=by repeat (first|exact C_|apply Fv))(hc:(cs.drop o).take 5=[v0,v1,v2,v3,M]:=by exact rfl):j0 P κ N ⟨d,.load T x,ty,ps,af,gd⟩ L J (.agg #[v0,v1,v2,v3,M]):=j0.ao4 TyI.h hx hb hc rfl
theorem Rb5{E:Value}{M:List (Nat×Operand)}{pl:Array (Nat×Nat)}[TyI P T (5,ag,by',z)][ah2 P T][PlI P T pl](hp:Q5 L (M.map (·.2))=some vs:=by exact rfl)(hf:Instr.fill (pl[·]?) z.toArray ((M.map (·.1)).zip vs)=some [E,c1,c2,c3,c4].toArray:=by exact rfl):j0 P κ N ⟨d,.build T M.toArray,ty,ps,af,gd⟩ L J (.agg #[E,c1,c2,c3,c4]):=(ah2.h (P:=P) (T:=T)).elim λ_ hs=>j0.build TyI.h hs PlI.h hp hf
theorem Rl6{o:Nat}{M:Value}[TyI P T (6,true,by',z)](hx:ep L x=some (.pointer (some ⟨b,o,none⟩)):=by exact rfl)(hb:e8 b cs E∈J:=by repeat (first|exact C_|apply Fv))(hc:(cs.drop o).take 6=[v0,v1,v2,v3,M,v5]:=by exact rfl):j0 P κ N ⟨d,.load T x,ty,ps,af,gd⟩ L J (.agg #[v0,v1,v2,v3,M,v5]):=j0.ao4 TyI.h hx hb hc rfl
theorem Rb6{E:Value}{M:List (Nat×Operand)}{pl:Array (Nat×Nat)}[TyI P T (6,ag,by',z)][ah2 P T][PlI P T pl](hp:Q5 L (M.map (·.2))=some vs:=by exact rfl)(hf:Instr.fill (pl[·]?) z.toArray ((M.map (·.1)).zip vs)=some [E,c1,c2,c3,c4,c5].toArray:=by exact rfl):j0 P κ N ⟨d,.build T M.toArray,ty,ps,af,gd⟩ L J (.agg #[E,c1,c2,c3,c4,c5]):=(ah2.h (P:=P) (T:=T)).elim λ_ hs=>j0.build TyI.h hs PlI.h hp hf
theorem Rl7{o:Nat}{M:Value}[TyI P T (7,true,by',z)](hx:ep L x=some (.pointer (some ⟨b,o,none⟩)):=by exact rfl)(hb:e8 b cs E∈J:=by repeat (first|exact C_|apply Fv))(hc:(cs.drop o).take 7=[v0,v1,v2,v3,M,v5,v6]:=by exact rfl):j0 P κ N ⟨d,.load T x,ty,ps,af,gd⟩ L J (.agg #[v0,v1,v2,v3,M,v5,v6]):=j0.ao4 TyI.h hx hb hc rfl
theorem Rb7{E:Value}{M:List (Nat×Operand)}{pl:Array (Nat×Nat)}[TyI P T (7,ag,by',z)][ah2 P T][PlI P T pl](hp:Q5 L (M.map (·.2))=some vs:=by exact rfl)(hf:Instr.fill (pl[·]?) z.toArray ((M.map (·.1)).zip vs)=some [E,c1,c2,c3,c4,c5,c6].toArray:=by exact rfl):j0 P κ N ⟨d,.build T M.toArray,ty,ps,af,gd⟩ L J (.agg #[E,c1,c2,c3,c4,c5,c6]):=(ah2.h (P:=P) (T:=T)).elim λ_ hs=>j0.build TyI.h hs PlI.h hp hf
theorem Rl8{o:Nat}{M:Value}[TyI P T (8,true,by',z)](hx:ep L x=some (.pointer (some ⟨b,o,none⟩)):=by exact rfl)(hb:e8 b cs E∈J:=by repeat (first|exact C_|apply Fv))(hc:(cs.drop o).take 8=[M,v1,v2,v3,v4,v5,v6,v7]:=by exact rfl):j0 P κ N ⟨d,.load T x,ty,ps,af,gd⟩ L J (.agg #[M,v1,v2,v3,v4,v5,v6,v7]):=j0.ao4 TyI.h hx hb hc rfl
theorem Rb8{M:List (Nat×Operand)}{E:Array (Nat×Nat)}[TyI P T (8,ag,by',z)][ah2 P T][PlI P T E](hp:Q5 L (M.map (·.2))=some vs:=by exact rfl)(hf:Instr.fill (E[·]?) z.toArray ((M.map (·.1)).zip vs)=some [c0,c1,c2,c3,c4,c5,c6,c7].toArray:=by exact rfl):j0 P κ N ⟨d,.build T M.toArray,ty,ps,af,gd⟩ L J (.agg #[c0,c1,c2,c3,c4,c5,c6,c7]):=(ah2.h (P:=P) (T:=T)).elim λ_ hs=>j0.build TyI.h hs PlI.h hp hf
theorem Rl11{o:Nat}{M:Value}[TyI P T (11,true,by',z)](hx:ep L x=some (.pointer (some ⟨b,o,none⟩)):=by exact rfl)(hb:e8 b cs E∈J:=by repeat (first|exact C_|apply Fv))(hc:(cs.drop o).take 11=[v0,v1,v2,v3,v4,v5,v6,v7,v8,v9,M]:=by exact rfl):j0 P κ N ⟨d,.load T x,ty,ps,af,gd⟩ L J (.agg #[v0,v1,v2,v3,v4,v5,v6,v7,v8,v9,M]):=j0.ao4 TyI.h hx hb hc rfl
theorem Rb11{c8 c9 c10:Value}{M:List (Nat×Operand)}{E:Array (Nat×Nat)}[TyI P T (11,ag,by',z)][ah2 P T][PlI P T E](hp:Q5 L (M.map (·.2))=some vs:=by exact rfl)(hf:Instr.fill (E[·]?) z.toArray ((M.map (·.1)).zip vs)=some [c0,c1,c2,c3,c4,c5,c6,c7,c8,c9,c10].toArray:=by exact rfl):j0 P κ N ⟨d,.build T M.toArray,ty,ps,af,gd⟩ L J (.agg #[c0,c1,c2,c3,c4,c5,c6,c7,c8,c9,c10]):=(ah2.h (P:=P) (T:=T)).elim λ_ hs=>j0.build TyI.h hs PlI.h hp hf
theorem Rl25{o:Nat}{ah aq au M ap ak aa aj ae ar ad ab an ao ai:Value}[TyI P T (25,true,by',z)](hx:ep L x=some (.pointer (some ⟨b,o,none⟩)):=by exact rfl)(hb:e8 b cs E∈J:=by repeat (first|exact C_|apply Fv))(hc:(cs.drop o).take 25=[v0,v1,v2,v3,v4,v5,v6,v7,v8,v9,ah,aq,au,M,ap,ak,aa,aj,ae,ar,ad,ab,an,ao,ai]:=by exact rfl):j0 P κ N ⟨d,.load T x,ty,ps,af,gd⟩ L J (.agg #[v0,v1,v2,v3,v4,v5,v6,v7,v8,v9,ah,aq,au,M,ap,ak,aa,aj,ae,ar,ad,ab,an,ao,ai]):=j0.ao4 TyI.h hx hb hc rfl
theorem kMov{d:Option Tmp}{ty:TypeId}{ps:String}{af:Array Edge}{gd:Option (Nat×Bool)}(ho:o=⟨d,.move x,ty,ps,af,gd⟩:=by with_reducible exact rfl)(h:j0 P κ N ⟨d,.move x,ty,ps,af,gd⟩ L J v:=by first|exact j0.move rfl):j0 P κ N o L J v:=ho▸h
theorem kAsg{d:Option Tmp}{ty:TypeId}{ps:String}{af:Array Edge}{gd:Option (Nat×Bool)}(ho:o=⟨d,.assign x,ty,ps,af,gd⟩:=by with_reducible exact rfl)(h:j0 P κ N ⟨d,.assign x,ty,ps,af,gd⟩ L J v:=by first|exact j0.assign rfl):j0 P κ N o L J v:=ho▸h
theorem gs5{d:Option Tmp}{ty:TypeId}{ps:String}{af:Array Edge}{gd:Option (Nat×Bool)}(ho:o=⟨d,.pick c x y,ty,ps,af,gd⟩:=by with_reducible exact rfl)(h:j0 P κ N ⟨d,.pick c x y,ty,ps,af,gd⟩ L J v:=by first|exact Rpf rfl rfl|exact Rpt rfl rfl):j0 P κ N o L J v:=ho▸h
theorem kFld{d:Option Tmp}{ty:TypeId}{ps:String}{af:Array Edge}{gd:Option (Nat×Bool)}(ho:o=⟨d,.fieldAddr T x k,ty,ps,af,gd⟩:=by with_reducible exact rfl)(h:j0 P κ N ⟨d,.fieldAddr T x k,ty,ps,af,gd⟩ L J v:=by first|exact j0.fieldAddr N4.h rfl|exact Rf):j0 P κ N o L J v:=ho▸h
theorem kLd{d:Option Tmp}{ty:TypeId}{ps:String}{af:Array Edge}{gd:Option (Nat×Bool)}(ho:o=⟨d,.load T x,ty,ps,af,gd⟩:=by with_reducible exact rfl)(h:j0 P κ N ⟨d,.load T x,ty,ps,af,gd⟩ L J v:=by first|exact j0.ld TyI.h|exact Rgi|exact Rl2|exact Rl3|exact Rl4|exact Rl5|exact Rl6|exact Rl7|exact Rl8|exact Rl11|exact Rl25|exact Rgs|exact Rgf|exact RgB|exact Rg0):j0 P κ N o L J v:=ho▸h
theorem kExt{d:Option Tmp}{ty:TypeId}{ps:String}{af:Array Edge}{gd:Option (Nat×Bool)}(ho:o=⟨d,.extract x k,ty,ps,af,gd⟩:=by with_reducible exact rfl)(h:j0 P κ N ⟨d,.extract x k,ty,ps,af,gd⟩ L J v:=by first|exact j0.extract rfl rfl):j0 P κ N o L J v:=ho▸h
theorem kIdx{d:Option Tmp}{ty:TypeId}{ps:String}{af:Array Edge}{gd:Option (Nat×Bool)}(ho:o=⟨d,.indexAddr T x y,ty,ps,af,gd⟩:=by with_reducible exact rfl)(h:j0 P κ N ⟨d,.indexAddr T x y,ty,ps,af,gd⟩ L J v:=by first|exact Ri):j0 P κ N o L J v:=ho▸h
theorem kCal{d:Option Tmp}{ty:TypeId}{ps:String}{af:Array Edge}{gd:Option (Nat×Bool)}{c:Go.Call}(ho:o=⟨d,.call c,ty,ps,af,gd⟩:=by with_reducible exact rfl)(h:j0 P κ N ⟨d,.call c,ty,ps,af,gd⟩ L J v:=by first|exact j0.lens bn0.h rfl|exact Rlt|exact j0.min rfl rfl|exact j0.max rfl rfl):j0 P κ N o L J v:=ho▸h
theorem kBin{d:Option Tmp}{ty:TypeId}{ps:String}{af:Array Edge}{gd:Option (Nat×Bool)}{b:BinOp}{U:Nat}(ho:o=⟨d,.binOp b T x y U,ty,ps,af,gd⟩:=by with_reducible exact rfl)(h:j0 P κ N ⟨d,.binOp b T x y U,ty,ps,af,gd⟩ L J v:=by first|exact j0.lss rfl rfl|exact j0.neq rfl rfl|exact j0.eql rfl rfl|exact j0.gtr rfl rfl|exact j0.geq rfl rfl|exact j0.leq rfl rfl|exact Rad rfl rfl|exact Rsu rfl rfl):j0 P κ N o L J v:=ho▸h
theorem kUn{d:Option Tmp}{ty:TypeId}{ps:String}{af:Array Edge}{gd:Option (Nat×Bool)}{b:UnOp}(ho:o=⟨d,.unOp b T x,ty,ps,af,gd⟩:=by with_reducible exact rfl)(h:j0 P κ N ⟨d,.unOp b T x,ty,ps,af,gd⟩ L J v:=by first|exact RnT rfl|exact RnF rfl|exact j0.gw7 rfl|exact j0.not rfl):j0 P κ N o L J v:=ho▸h
theorem kNil{d:Option Tmp}{ty:TypeId}{ps:String}{af:Array Edge}{gd:Option (Nat×Bool)}(ho:o=⟨d,.nilCheck x,ty,ps,af,gd⟩:=by with_reducible exact rfl)(h:j0 P κ N ⟨d,.nilCheck x,ty,ps,af,gd⟩ L J v:=by first|exact j0.nilCheck rfl):j0 P κ N o L J v:=ho▸h
theorem kBld{d:Option Tmp}{ty:TypeId}{ps:String}{af:Array Edge}{gd:Option (Nat×Bool)}{a:Array (Nat×Operand)}(ho:o=⟨d,.build T a,ty,ps,af,gd⟩:=by with_reducible exact rfl)(h:j0 P κ N ⟨d,.build T a,ty,ps,af,gd⟩ L J v:=by first|exact Rb2|exact Rb3|exact Rb4|exact Rb5|exact Rb6|exact Rb7|exact Rb8|exact Rb11):j0 P κ N o L J v:=ho▸h
theorem Rn(h:j0 P κ N o L J v:=by first|exact kMov|exact kAsg|exact gs5|exact kFld|exact kLd|exact kExt|exact kIdx|exact kCal|exact kBin|exact kUn|exact kNil|exact kBld):j0 P κ N o L J v:=h
theorem wA(h:p8 N ops o L:=by first|exact p8.plain rfl|exact wOn rfl rfl rfl):p8 N ops o L:=h
theorem uA(h:y4 N ops o L:=by first|exact y4.und rfl rfl rfl|exact wOf rfl rfl rfl|exact wOg rfl rfl rfl):y4 N ops o L:=h
theorem Gx{d:Nat}(h:G P κ N ops Q rest ((d,v)::L) I)(E:p8 N ops ⟨some d,q,ty,ps,af,gd⟩ L:=by exact wA)(M:j0 P κ N ⟨some d,q,ty,ps,af,gd⟩ L I v:=by exact Rn)(hN:Nat.blt d N.n=true:=by exact rfl):G P κ N ops Q (⟨some d,q,ty,ps,af,gd⟩::rest) L I:=G.read E rfl hN M h
theorem Gy{d:Nat}{r:Nat×Bool}(h:G P κ N ops Q rest ((d,undef)::L) I)(M:y4 N ops ⟨some d,q,ty,ps,af,some r⟩ L:=by exact uA)(E:Nat.blt d N.n=true:=by exact rfl):G P κ N ops Q (⟨some d,q,ty,ps,af,some r⟩::rest) L I:=G.pass M rfl E h
theorem Wy{x y:Code}(M:ep L c=some u)(h:W P κ N x Q L I)(E:u = .bool true:=by with_reducible rfl):W P κ N (.cond c x y) Q L I:=W.yes (M.trans (Fz some E)) h
theorem Wno{x y:Code}(M:ep L c=some u)(h:W P κ N y Q L I)(E:u = .bool false:=by with_reducible rfl):W P κ N (.cond c x y) Q L I:=W.no (M.trans (Fz some E)) h
def dy5(ops:Array Oper)(listed:Array Bool)(stop i:Nat):Bool:=Region.noSelect ops&&Region.free .any ops listed i&&(Region.ready .any ops listed).contains i && !Nat.beq i stop&&P7 .any ops stop i
theorem fe6{i:Nat}(h:dy5 ops M stop i=true):Region.noSelect ops=true/\Region.free .any ops M i=true/\(Region.ready .any ops M).contains i=true/\Nat.beq i stop=false/\P7 .any ops stop i=true:=by
 unfold dy5 at h
 simp only [Hi,Lu] at h
 exact ⟨h.1.1.1.1,h.1.1.1.2,h.1.1.2,h.1.2,h.2⟩
theorem fm3(M:Fit κ I J:=by first|((repeat (first|exact Fit.refl _|apply Fit.tail|exact Fit.au8 _ _|apply Fit.di0));done)|(refine Fit.H8 ?_;(repeat (first|exact Jm _|apply List.Sublist.cons_cons|apply List.Sublist.cons|exact Gv _ _));done)|(refine Fit.sp ?_;(repeat (first|exact Sp.refl _|refine Sp.pick ta2 ?_|apply Sp.skip|exact Sp.au8 _ _));done)):Fit κ I J:=M
theorem Dx{d:Nat}(i:Nat)(h:D P κ N ops Q J stop fuel (M.setIfInBounds i true) ((d,v)::L) I)(hi:ops[i]? = some ⟨some d,q,ty,ps,af,gd⟩:=by exact rfl)(E:dy5 ops M stop i=true:=by decide+kernel)(hw:p8 N ops ⟨some d,q,ty,ps,af,gd⟩ L:=by exact wA)(aa:j0 P κ N ⟨some d,q,ty,ps,af,gd⟩ L J v:=by exact Rn)
  (hN:Nat.blt d N.n=true:=by exact rfl) (hQ:∀c a u w,Q (.panic c) (a.put (some d) u) w->Q (.panic c) a w:=by exact λ_ _ _ _ h=>h) (hJ:Fit κ I J:=by exact fm3):D P κ N ops Q J stop (fuel+1) M L I:=D.read i hi (fe6 E).1 (fe6 E).2.1 (fe6 E).2.2.1 (fe6 E).2.2.2.1 (fe6 E).2.2.2.2 hQ hw rfl hN hJ aa h
theorem Dy{d:Nat}(i:Nat)(h:D P κ N ops Q J stop fuel (M.setIfInBounds i true) ((d,undef)::L) I)(hi:ops[i]? = some ⟨some d,q,ty,ps,af,gd⟩:=by exact rfl)(E:dy5 ops M stop i=true:=by decide+kernel)(hw:y4 N ops ⟨some d,q,ty,ps,af,gd⟩ L:=by exact uA)
  (hN:Nat.blt d N.n=true:=by exact rfl) (hQ:∀c a u w,Q (.panic c) (a.put (some d) u) w->Q (.panic c) a w:=by exact λ_ _ _ _ h=>h) (hJ:Fit κ I J:=by exact fm3):D P κ N ops Q J stop (fuel+1) M L I:=D.pass i hi (fe6 E).1 (fe6 E).2.1 (fe6 E).2.2.1 (fe6 E).2.2.2.1 (fe6 E).2.2.2.2 hQ hw rfl hN hJ h
theorem Dw(h:V κ N Q .normal L I)(E:(Region.ready .any ops M).isEmpty=true:=by decide+kernel):D P κ N ops Q J stop fuel M L I:=D.done (List.isEmpty_iff.1 E) h
theorem Dx1{d:Nat}(h:D P κ N ops Q J stop fuel ((M.setIfInBounds j true).setIfInBounds (j+1) true) ((d,v)::L) I)(hi:ops[j+1]? = some ⟨some d,q,ty,ps,af,gd⟩:=by exact rfl)(hc:dy5 ops (M.setIfInBounds j true) stop (j+1)=true:=by decide+kernel)(hw:p8 N ops ⟨some d,q,ty,ps,af,gd⟩ L:=by exact wA)(E:j0 P κ N ⟨some d,q,ty,ps,af,gd⟩ L J v:=by exact Rn) 
  (hN:Nat.blt d N.n=true:=by exact rfl) (hQ:∀c a u w,Q (.panic c) (a.put (some d) u) w->Q (.panic c) a w:=by exact λ_ _ _ _ h=>h) (hJ:Fit κ I J:=by exact fm3):D P κ N ops Q J stop (fuel+1) (M.setIfInBounds j true) L I:=Dx (j+1) h hi hc hw E hN hQ hJ
theorem Dy1{d:Nat}(h:D P κ N ops Q J stop fuel ((M.setIfInBounds j true).setIfInBounds (j+1) true) ((d,undef)::L) I)(hi:ops[j+1]? = some ⟨some d,q,ty,ps,af,gd⟩:=by exact rfl)(E:dy5 ops (M.setIfInBounds j true) stop (j+1)=true:=by decide+kernel)(hw:y4 N ops ⟨some d,q,ty,ps,af,gd⟩ L:=by exact uA) 
  (hN:Nat.blt d N.n=true:=by exact rfl) (hQ:∀c a u w,Q (.panic c) (a.put (some d) u) w->Q (.panic c) a w:=by exact λ_ _ _ _ h=>h) (hJ:Fit κ I J:=by exact fm3):D P κ N ops Q J stop (fuel+1) (M.setIfInBounds j true) L I:=Dy (j+1) h hi E hw hN hQ hJ
theorem Dx2{d:Nat}(h:D P κ N ops Q J stop fuel ((M.setIfInBounds j true).setIfInBounds (j+2) true) ((d,v)::L) I)(hi:ops[j+2]? = some ⟨some d,q,ty,ps,af,gd⟩:=by exact rfl)(hc:dy5 ops (M.setIfInBounds j true) stop (j+2)=true:=by decide+kernel)(hw:p8 N ops ⟨some d,q,ty,ps,af,gd⟩ L:=by exact wA)(E:j0 P κ N ⟨some d,q,ty,ps,af,gd⟩ L J v:=by exact Rn) 
  (hN:Nat.blt d N.n=true:=by exact rfl) (hQ:∀c a u w,Q (.panic c) (a.put (some d) u) w->Q (.panic c) a w:=by exact λ_ _ _ _ h=>h) (hJ:Fit κ I J:=by exact fm3):D P κ N ops Q J stop (fuel+1) (M.setIfInBounds j true) L I:=Dx (j+2) h hi hc hw E hN hQ hJ
theorem Dy2{d:Nat}(h:D P κ N ops Q J stop fuel ((M.setIfInBounds j true).setIfInBounds (j+2) true) ((d,undef)::L) I)(hi:ops[j+2]? = some ⟨some d,q,ty,ps,af,gd⟩:=by exact rfl)(E:dy5 ops (M.setIfInBounds j true) stop (j+2)=true:=by decide+kernel)(hw:y4 N ops ⟨some d,q,ty,ps,af,gd⟩ L:=by exact uA) 
  (hN:Nat.blt d N.n=true:=by exact rfl) (hQ:∀c a u w,Q (.panic c) (a.put (some d) u) w->Q (.panic c) a w:=by exact λ_ _ _ _ h=>h) (hJ:Fit κ I J:=by exact fm3):D P κ N ops Q J stop (fuel+1) (M.setIfInBounds j true) L I:=Dy (j+2) h hi E hw hN hQ hJ
theorem Dx3{d:Nat}(h:D P κ N ops Q J stop fuel ((M.setIfInBounds j true).setIfInBounds (j+3) true) ((d,v)::L) I)(hi:ops[j+3]? = some ⟨some d,q,ty,ps,af,gd⟩:=by exact rfl)(hc:dy5 ops (M.setIfInBounds j true) stop (j+3)=true:=by decide+kernel)(hw:p8 N ops ⟨some d,q,ty,ps,af,gd⟩ L:=by exact wA)(E:j0 P κ N ⟨some d,q,ty,ps,af,gd⟩ L J v:=by exact Rn) 
  (hN:Nat.blt d N.n=true:=by exact rfl) (hQ:∀c a u w,Q (.panic c) (a.put (some d) u) w->Q (.panic c) a w:=by exact λ_ _ _ _ h=>h) (hJ:Fit κ I J:=by exact fm3):D P κ N ops Q J stop (fuel+1) (M.setIfInBounds j true) L I:=Dx (j+3) h hi hc hw E hN hQ hJ
theorem Dy3{d:Nat}(h:D P κ N ops Q J stop fuel ((M.setIfInBounds j true).setIfInBounds (j+3) true) ((d,undef)::L) I)(hi:ops[j+3]? = some ⟨some d,q,ty,ps,af,gd⟩:=by exact rfl)(E:dy5 ops (M.setIfInBounds j true) stop (j+3)=true:=by decide+kernel)(hw:y4 N ops ⟨some d,q,ty,ps,af,gd⟩ L:=by exact uA) 
  (hN:Nat.blt d N.n=true:=by exact rfl) (hQ:∀c a u w,Q (.panic c) (a.put (some d) u) w->Q (.panic c) a w:=by exact λ_ _ _ _ h=>h) (hJ:Fit κ I J:=by exact fm3):D P κ N ops Q J stop (fuel+1) (M.setIfInBounds j true) L I:=Dy (j+3) h hi E hw hN hQ hJ
theorem Dx0{n:Nat}{d:Nat}(h:D P κ N ops Q J stop fuel ((Array.replicate n false).setIfInBounds 0 true) ((d,v)::L) I)(hi:ops[0]? = some ⟨some d,q,ty,ps,af,gd⟩:=by exact rfl)(E:dy5 ops (Array.replicate n false) stop 0=true:=by decide+kernel)(hw:p8 N ops ⟨some d,q,ty,ps,af,gd⟩ L:=by exact wA)(M:j0 P κ N ⟨some d,q,ty,ps,af,gd⟩ L J v:=by exact Rn)
  (hN:Nat.blt d N.n=true:=by exact rfl) (hQ:∀c a u w,Q (.panic c) (a.put (some d) u) w->Q (.panic c) a w:=by exact λ_ _ _ _ h=>h) (hJ:Fit κ I J:=by exact fm3):D P κ N ops Q J stop (fuel+1) (Array.replicate n false) L I:=Dx 0 h hi E hw M hN hQ hJ
def cat{α:Type}:List α->List α->List α
 |[],m=>m
 |x::l,m=>x::cat l m
def cc1:Code->Nat->Bool
 | .seq a b,k=>cc1 a k||cc1 b k
 | .cond _ a b,k=>cc1 a k||cc1 b k
 | .block _ c,k=>cc1 c k
 | .loop c,k=>cc1 c k
 | .scope c,k=>cc1 c k
 | .region _ l _,k=>l.toList.any λo=>match o.dst with |some d=>Nat.beq d k|none=>false
 |_,_=>false
inductive Kp (c:Code) (E:List Nat):List Nat->Env->Env->Prop
 |nil (s:List Nat):Kp c E s [] []
 |fe4 {s:List Nat} {k:Nat} {v:Value} {L L':Env} (h:((!(cc1 c k)||E.contains k) && !s.contains k)=true) (t:Kp c E (k::s) L L'):Kp c E s ((k,v)::L) ((k,v)::L')
 |drop {s:List Nat} {k:Nat} {v:Value} {L L':Env} (t:Kp c E (k::s) L L'):Kp c E s ((k,v)::L) L'
theorem Kp.get{c:Code}{E s:List Nat}{L L':Env}(h:Kp c E s L L'):∀p∈L',look L p.1=some p.2/\p.1∉s:=by
 induction h with
 |nil s=>intro p hp;cases hp
 | @fe4 s k v L L' h t ih=>
  intro p hp
  simp only [Hi,Lu] at h
  rcases Gh.1 hp with rfl|hp
  ·exact ⟨by rw [Z0,By rfl],by have:=h.2;simpa using this⟩
  have:=ih p hp
  simp only [Gh,not_or] at this
  exact ⟨by rw [Z0,An<|λe=>this.2.1 e.symm];exact this.1,this.2.2⟩
 | @drop s k v L L' t ih=>
  intro p hp
  have:=ih p hp
  simp only [Gh,not_or] at this
  exact ⟨by rw [Z0,An<|λe=>this.2.1 e.symm];exact this.1,this.2.2⟩
theorem Sub.of{L:Env}:∀{L':Env},(∀p∈L',look L p.1=some p.2)->Sub L L'
 |[],_=>Sub.nil
 |(k,v)::L',h=>Sub.cons (h (k,v) C_) (Sub.of λp M=>h p<|Fv _ M)
theorem Sub.cat{L L1 L2:Env}(M:Sub L L1)(E:Sub L L2):Sub L (cat L1 L2):=by
 induction L1 with
 |nil=>exact E
 |cons x l ih=>exact ⟨M.1,ih M.2⟩
theorem W.lq{c:Code}{σ:Type}{Lk:Env}{X:σ->Prop}(f:σ->Env)(F:σ->List Item)(p:σ->Prop)(μ:σ->Nat)(s0:σ)(hp:p s0)(M:∀s,p s->X s)
  (E:List Nat:=[]) (hk:Kp c E [] L Lk:=by repeat (first|exact Kp.nil _|(apply Kp.fe4;decide+kernel)|apply Kp.drop))
  (hL:Sub L (f s0):=by (try dsimp only);repeat (first|exact Sub.nil|refine Sub.cons rfl ?_|refine Sub.cons fi7 ?_|refine Sub.cons (fi6 rfl<|by first|rfl|simp) ?_)) (hI:Fit κ I (Sl.cat (F s0) J):=by dsimp only [Sl.cat];exact Fit.s)
  (hX:∀s,gx9 (X s)->W P κ N c (Exit.then (fq8 κ N (λs=>Sl.cat (f s) Lk) (λs=>Sl.cat (F s) J) p μ s) Q) (Sl.cat (f s) Lk) (Sl.cat (F s) J):=by intro s h;dsimp only [Sl.cat];exact h.h):W P κ N (.loop c) Q L I:=
 W.loop (λs=>Sl.cat (f s) Lk) (λs=>Sl.cat (F s) J) p μ s0 hp (Sub.cat hL<|Sub.of λq hq=>(hk.get q hq).1) hI λs h=>hX s ⟨M s h⟩
theorem hdG(h:G P κ N ops Q rest L I):G P κ N ops Q rest L I:=h
theorem hdD(h:D P κ N ops Q J stop fuel M L I):D P κ N ops Q J stop fuel M L I:=h
theorem hdW{c:Code}(h:W P κ N c Q L I):W P κ N c Q L I:=h
theorem hdC{x y:Code}(h:W P κ N (.cond c x y) Q L I):W P κ N (.cond c x y) Q L I:=h
theorem hdV{e:Exit}(h:V κ N Q e L I):V κ N Q e L I:=h
end
theorem Z{P Q:Prop}(q:Q) (h:gx9 Q->P:=by
 intro q
 repeat (first
  |(apply hdG;first|apply G.nt|refine Gx ?_|refine Gy ?_|apply G.nil)
  |(apply hdW;first|apply W.sr|apply W.seq|apply W.block|apply W.skip|apply W.region|apply W.ret|apply W.exit|(apply hdC;first|refine Wy rfl ?_|refine Wno rfl ?_))
  |(apply hdV;first|apply V.then|apply V.ca6|apply V.ct3|apply V.cg4|apply V.cg5|apply V.ay9|refine V.br6 rfl ?_)
  |(apply hdD;first|refine Dx1 ?_|refine Dx0 ?_|refine Dy1 ?_|refine Dx2 ?_|refine Dy2 ?_|refine Dx3 ?_|refine Dy3 ?_|refine Dw ?_))
 exact q.h):P:=h ⟨q⟩
end Go.Sl
namespace Go.Sl
section
variable {P:Program}{κ:Ctx}{N:Frm}{Q:Exit->Act->World->Prop}{L:Env}{I:List Item}{ops:Array Oper}
theorem A.ho{fuel:Nat}{M:Array Bool}(stop:Nat)(h:D P κ N ops Q I stop fuel M L I):A P κ N ops Q fuel M L I:=A.hold I stop h
end
end Go.Sl
namespace Go.Sl
open Go.Proofs Go.Shelf Go.RowKit Go.Lib Go.Sort
variable{xs:List Int}{P:Program}{κ:Ctx}{I:List Item}{e:TypeId}{ad:Option Addr}{c:Nat}
def Y4(xs:List Int):List Int:=xs.mergeSort λx y=>decide (x<=y)
theorem bo0(xs:List Int):(Y4 xs).Perm xs:=List.mergeSort_perm _ _
theorem be5(xs:List Int):(Y4 xs).length=xs.length:=(bo0 xs).length_eq
theorem dt0{x:Int}:x∈Y4 xs↔x∈xs:=(bo0 xs).mem_iff
theorem cb6(xs:List Int):(Y4 xs).Pairwise (· <= ·):=by
 have h:=List.pairwise_mergeSort (le:=λx y:Int=>decide<|x<=y) (λa b c E M=>by simp at *; omega) (λa b=>by simp;omega) xs
 exact h.imp λh=>by simpa using h
theorem dd0{ρ:Ren}(L:SlLaysM.n5 P ρ)(hc:0<c)(an:xs.length<4611686018427387904):er P κ (ρ.f 5) [.slice ad xs.length c] (vc e (.slice ad xs.length c) xs::I) λr J=>r = .tuple #[]/\J=vc e (.slice ad (Y4 xs).length c) (Y4 xs)::I:=by
 intro w hs
 obtain ⟨au,_⟩:=hs.ok _ C_
 obtain ⟨a',aw,hv,hl,ap,aq,ab⟩:=au
 cases hv
 obtain ⟨b,off,cur,rfl,hb,E,ah⟩:=ab hc
 have aj:b<w.heap.size:=(Jy.1 hb).1
 have hlen:=be5 xs
 have aa:∀ys:List Int,cells ys=ys.map λx=>e7 x:=λys=>by
  induction ys with
  |nil=>rfl
  |cons y ys ih=>show e7 y::cells ys=_;rw [ih];rfl
 have ai:∀ys:List Int,(cells ys).length=ys.length:=λys=>by rw [aa,Gi]
 have hH:Holds (Value.int .i64) w b off xs.toArray:=λj hj=>by
  have M:j<xs.length:=by simpa using hj
  have h1:=ah j (e7 xs[j]) (by rw [aa,Ks,Hd M];rfl)
  refine ⟨?_,by simp [World.frozen?,hb]⟩
  rw [cell_of_row w b (off+j) cur e (0,0) hb,h1]
  simp [Ly,M]
 have h:=AnyM.slices_Sort_int L b off c xs w hH aj an
 refine Calls.mono h ?_
 rintro e' w' ⟨rfl,n,os,rfl⟩
 refine ⟨_,_,rfl,⟨rfl,rfl⟩,?_⟩
 have hz:(xs.mergeSort λx y=>decide<|x<=y)=Y4 xs:=rfl
 rw [hz]
 refine hs.upd (At.head _ _ _) rfl ⟨rfl,by simp [putRow,mapBlock,Sort.grow,Sort.ahead]⟩ rfl (by simp [putRow,mapBlock,Sort.grow,Sort.ahead]) (λk hk ao=>?_) ?_ λk hk=> .inl ?_
 ·have av:k≠b:=λar=>ao (by subst ar;exact ⟨off,xs.length,c,rfl,hc⟩)
  simp only [Sort.grow,putRow,mapBlock,Sort.ahead]
  rw [Jr (by simpa using hk),Mn,An<|λe=>av e.symm]
 ·refine ⟨_,c,rfl,(ai _).trans (Nat.mul_one _).symm,by rw [hlen];exact ap,aq,λ_=>⟨b,off,putCells (Value.int .i64) off (Y4 xs).toArray cur,rfl,?_,?_,λj u hj=>?_⟩⟩
  ·simp only [Sort.grow,putRow,mapBlock,Sort.ahead]
   rw [Jr (by simpa using aj),Mn,By rfl]
   show (w.heap[b]?).map _=_
   rw [hb];rfl
  ·simpa [putCells] using E
  have M:j<(Y4 xs).length:=by rw [←ai];exact (He.1 hj).1
  have ae:off+j<cur.size:=by
   have:=E;rw [hlen] at M
   have:c*Enc.sz Int=c:=Nat.mul_one c
   omega
  simp only [putCells,Array.getElem?_mapIdx,Ld ae,Option.map_some]
  rw [By ⟨by omega,by simpa using M⟩,Jj]
  rw [aa,Ks,Hd M] at hj
  simpa [Ly,M] using hj
 obtain ⟨o',n',c',ak,ax⟩:=hk
 cases ak
 exact ⟨off,xs.length,c,rfl,hc⟩
theorem dp0{ρ:Ren}(L:SlLaysM.n5 P ρ)(M:xs.length<4611686018427387904):er P κ (ρ.f 5) [.slice ad xs.length c] (vc e (.slice ad xs.length c) xs::I) λr J=>r = .tuple #[]/\J=vc e (.slice ad (Y4 xs).length c) (Y4 xs)::I:=by
 by_cases hc:0<c
 ·exact dd0 L hc M
 intro w hs
 obtain ⟨E,_⟩:=hs.ok _ C_
 obtain ⟨a',ab,hv,hl,ae,ah,aa⟩:=E
 cases hv
 obtain rfl:xs=[]:=Hr (by omega)
 refine Calls.mono (AnyM.slices_Sort_int_none L ad c w) ?_
 rintro e' w' ⟨rfl,rfl⟩
 have hz:Y4 []=[]:=Hr (be5 [])
 refine ⟨_,_,rfl,⟨rfl,rfl⟩,?_⟩
 rw [hz];exact hs
end Go.Sl
namespace Go.Sl
section
variable {α:Type}[Inhabited α]
theorem au2(xs:List α)(k:Nat):e_ xs k=xs.getD k default:=by simp [e_]
theorem M5(xs:List α)(k:Nat)(h:k<xs.length):e_ xs k=xs[k]:=by simp [e_,h]
theorem at_mem{xs:List α}{i:Int}(M:0<=i)(h:i<xs.length):e_ xs i∈xs:=by
 rw [ax3 M h];exact Mq _
theorem W7(xs:List α)(k:Nat)(h:k<xs.length):xs.take (k+1)=xs.take k++[e_ xs k]:=by
 rw [M5 xs k h,List.take_succ_eq_append_getElem h]
theorem fu2{xs:List α}{x:α}(h:x∈xs):∃k,k<xs.length/\e_ xs k=x:=by
 obtain ⟨k,M,E⟩:=Li.1 h
 exact ⟨k,M,by rw [M5 xs k M,E]⟩
theorem av9{xs:List α}{x:α}{k:Nat}(h:∀j,j<k->e_ xs j≠x)(hk:xs.length<=k):x∉xs:=λM=>by
 obtain ⟨j,hj,E⟩:=fu2 M
 exact h j (by omega) E
theorem R1(xs:List α)(i j:Int)(v:α)(hi:0<=i)(hj:0<=j)(M:i<xs.length):e_ (xs.set i.toNat v) j=if i=j then v else e_ xs j:=by
 unfold e_
 by_cases h:i=j
 ·subst h
  have:i.toNat<xs.length:=by omega
  simp [Gs,this]
 have:i.toNat≠j.toNat:=by omega
 simp [Gs,h,List.getElem?_set_ne this]
theorem aq7(xs:List α)(k j:Nat)(v:α)(M:k<xs.length):e_ (xs.set k v) j=if k=j then v else e_ xs j:=by
 have:=R1 xs (k:Int) (j:Int) v (by omega) (by omega) (by omega)
 rw [Hu] at this
 rw [this]
 by_cases h:k=j
 ·simp [h]
 rw [An (show ¬(k:Int)=(j:Int) by omega),An h]
theorem bm8(xs ys:List α)(k:Nat)(h:k<xs.length):e_ (xs++ys) k=e_ xs k:=by
 rw [M5 _ k (by simp;omega),M5 _ k h,Nr h]
theorem cq1(xs:List α)(y:α):e_ (xs++[y]) xs.length=y:=by
 rw [M5 _ _ (by simp)];simp
theorem ak4(n:Nat)(i:Int)(d:α)(M:0<=i)(h:i<n):e_ (List.replicate n d) i=d:=by
 rw [ax3 M (by simpa using h)];simp
theorem gm0{xs:List α}{d:α}(h:∀j,j<xs.length->e_ xs j=d):xs=List.replicate xs.length d:=by
 refine Ma (by simp) λj M E=>?_
 have:=h j M
 rw [M5 xs j M] at this
 simp [this]
theorem aj8(xs:List α)(k:Nat)(h:k<xs.length):xs.drop k=e_ xs k::xs.drop (k+1):=by
 rw [M5 xs k h,Hp h]
end
theorem all_succ{p:Nat->Prop}{k:Nat}(h:∀j,j<k->p j)(E:p k):∀j,j<k+1->p j:=λj hj=>by
 rcases Nq.1 hj with M|M
 ·exact h j M
 subst M;exact E
theorem all_zero{p:Nat->Prop}:∀j,j<0->p j:=λj hj=>absurd hj (Kd j)
end Go.Sl
namespace Go.Sl
structure cj3 {α:Type} (lt:α->α->Prop):Prop where
 irr:∀a,¬lt a a
 tr:∀a b c,lt a b->lt b c->lt a c
 tri:∀a b,lt a b\/a=b\/lt b a
section
variable {α:Type}{lt:α->α->Prop}
theorem cj3.asymm(h:cj3 lt){a b:α}(E:lt a b):¬lt b a:=λM=>h.irr a (h.tr a b a E M)
theorem cj3.ne(h:cj3 lt){a b:α}(M:lt a b):a≠b:=λe=>by subst e;exact h.irr a M
theorem cj3.uniq(h:cj3 lt):∀{l m:List α},l.Pairwise lt->m.Pairwise lt->(∀x,x∈l↔x∈m)->l=m
 |[],[],_,_,_=>rfl
 |[],y::ys,_,_,e=>absurd ((e y).2 C_) (by simp)
 |x::xs,[],_,_,e=>absurd ((e x).1 C_) (by simp)
 |x::xs,y::ys,hl,hm,e=>by
  obtain ⟨aa,ae⟩:=Gp.1 hl
  obtain ⟨M,ad⟩:=Gp.1 hm
  have ab:x=y:=by
   rcases Gh.1 ((e x).1 C_) with h1|h1
   ·exact h1
   rcases Gh.1 ((e y).2 C_) with h2|h2
   ·exact h2.symm
   exact absurd (aa y h2)<|h.asymm<|M x h1
  subst ab
  rw [h.uniq ae ad λz=>?_]
  constructor
  ·intro E
   rcases Gh.1 ((e z).1 (Fv _ E)) with h1|h1
   ·subst h1;exact absurd (aa z E) (h.irr z)
   exact h1
  intro E
  rcases Gh.1 ((e z).2 (Fv _ E)) with h1|h1
  ·subst h1;exact absurd (M z E) (h.irr z)
  exact h1
variable [DecidableRel lt][DecidableEq α]
variable (lt) in
def cx1:List α->α->List α
 |[],x=>[x]
 |y::ys,x=>if lt y x then y::cx1 ys x else if y=x then y::ys else x::y::ys
variable (lt) in
def dp1(l:List α):List α:=l.foldl (cx1 lt) []
theorem cw6(x y:α):∀l,y∈cx1 lt l x↔y=x\/y∈l
 |[]=>by simp [cx1]
 |z::zs=>by
  simp only [cx1]
  split
  ·simp only [Gh,cw6 x y zs]
   constructor
   ·rintro (h|h|h)<;>simp [h]
   rintro (h|h|h)<;>simp [h]
  split
  ·rename_i e;subst e;simp
  simp
theorem cj3.cx1(h:cj3 lt)(x:α):∀{l:List α},l.Pairwise lt->(Sl.cx1 lt l x).Pairwise lt
 |[],_=>by simp [Sl.cx1]
 |y::ys,hl=>by
  obtain ⟨E,aa⟩:=Gp.1 hl
  simp only [Sl.cx1]
  split
  ·rename_i hyx
   refine Gp.2 ⟨λz hz=>?_,h.cx1 x aa⟩
   rcases (cw6 x z ys).1 hz with rfl|hz
   ·exact hyx
   exact E z hz
  rename_i hyx
  split
  ·exact hl
  rename_i hne
  have M:lt x y:=by
   rcases h.tri x y with h1|h1|h1
   ·exact h1
   ·exact absurd h1.symm hne
   exact absurd h1 hyx
  refine Gp.2 ⟨λz hz=>?_,hl⟩
  rcases Gh.1 hz with rfl|hz
  ·exact M
  exact h.tr _ _ _ M<|E z hz
theorem cj3.gk1(h:cj3 lt):∀(l acc:List α),acc.Pairwise lt->(l.foldl (Sl.cx1 lt) acc).Pairwise lt
 |[],acc,ha=>ha
 |x::l,acc,ha=>h.gk1 l _ (h.cx1 x ha)
theorem cj3.dp1(h:cj3 lt)(l:List α):(Sl.dp1 lt l).Pairwise lt:=h.gk1 l [] List.Pairwise.nil
end
section
variable {α:Type}{lt:α->α->Prop}[Inhabited α]
theorem aa8(l:List α):l.Pairwise lt↔∀i j:Nat,i<j->j<l.length->lt (e_ l i) (e_ l j):=by
 rw [Ho]
 constructor
 ·intro h i j M hj
  rw [M5 l i (by omega),M5 l j hj];exact h i j (by omega) hj M
 intro h i j hi hj M
 have:=h i j M hj
 rwa [M5 l i (by omega),M5 l j hj] at this
theorem bv0(M:∀a b c,lt a b->lt b c->lt a c){l:List α}(h:∀i:Nat,i+1<l.length->lt (e_ l i) (e_ l ((i+1:Nat):Int))):l.Pairwise lt:=by
 rw [aa8]
 intro i j E
 induction j with
 |zero=>omega
 |succ j ih=>
  intro hj
  by_cases e:i=j
  ·subst e;exact h i hj
  exact M _ _ _ (ih (by omega)<|by omega)<|h j hj
end
structure Pt where
 u:Int
 v:Int
deriving Inhabited,DecidableEq
instance:Enc Pt:=⟨λa=>[e7 a.u,e7 a.v],2,by omega,λ_=>rfl,λa x h=>by
 simp only [Gh,Hy,Kx] at h
 rcases h with rfl|rfl<;>rfl⟩
def Pt.lt(a b:Pt):Prop:=a.u<b.u\/(a.u=b.u/\a.v<b.v)
instance:DecidableRel Pt.lt:=λa b=>by unfold Pt.lt;infer_instance
theorem Pt.lin:cj3 Pt.lt where
 irr a h:=by unfold Pt.lt at h;omega
 tr a b c h1 h2:=by unfold Pt.lt at *; omega
 tri a b:=by
  unfold Pt.lt
  by_cases h:a=b
  ·exact .inr<|.inl h
  have:¬(a.u=b.u/\a.v=b.v):=λe=>h (by cases a;cases b;simp_all)
  omega
theorem Pt.ag4(a b:Pt):a=b↔a.u=b.u/\a.v=b.v:=by
 constructor
 ·rintro rfl;exact ⟨rfl,rfl⟩
 intro e;cases a;cases b;simp_all
def Pt.cmp(a b:Pt):Int:=if a.u<b.u then -1 else if b.u<a.u then 1 else if a.v<b.v then -1 else if b.v<a.v then 1 else 0
theorem Pt.ac0(a b:Pt):Pt.cmp a b<0↔Pt.lt a b:=by unfold Pt.cmp Pt.lt;split<;>(try split)<;>(try split)<;>(try split)<;>omega
abbrev gw0(l:List Pt):Prop:=l.Pairwise Pt.lt
end Go.Sl
namespace Go.Sl
section
variable {α:Type}(bad:α->Int)(lt:α->α->Prop)[DecidableRel lt]
def Y6[Inhabited α](xs:List α)(k:Nat):Option α:=if k=0 then none else some (e_ xs ((k:Int) - 1))
def R3:Option α->List α->Int
 |_,[]=>0
 |none,p::ps=>if bad p≠0 then bad p else R3 (some p) ps
 |some q,p::ps=>if bad p≠0 then bad p else if lt q p then R3 (some p) ps else 5
variable {bad lt}[Inhabited α]{xs:List α}{k:Nat}
theorem cn3:Y6 xs (k+1)=some (e_ xs k):=by
 unfold Y6;rw [An (by omega)];congr 2;omega
theorem dd4(hk:k<xs.length)(M:bad (e_ xs k)=0)(E:0<k->lt (e_ xs ((k:Int) - 1)) (e_ xs k)) :
  R3 bad lt (Y6 xs k) (xs.drop k)=R3 bad lt (Y6 xs<|k+1) (xs.drop<|k+1):=by
 rw [aj8 xs k hk,cn3]
 unfold Y6
 split
 ·simp only [R3];rw [An (by simp [M])]
 simp only [R3];rw [An (by simp [M]),By<|E<|by omega]
theorem dp2(E:k<xs.length)(M:bad (e_ xs k)≠0):R3 bad lt (Y6 xs k) (xs.drop k)=bad (e_ xs k):=by
 rw [aj8 xs k E]
 unfold Y6
 split
 ·simp only [R3];rw [By M]
 simp only [R3];rw [By M]
theorem ae9(E:k<xs.length)(h1:bad (e_ xs k)=0)(h0:0<k)(M:¬lt (e_ xs ((k:Int) - 1)) (e_ xs k)):R3 bad lt (Y6 xs k) (xs.drop k)=5:=by
 rw [aj8 xs k E]
 unfold Y6
 rw [An (by omega)]
 simp only [R3];rw [An (by simp [h1]),An M]
theorem ar9(M:xs.length<=k):R3 bad lt (Y6 xs k) (xs.drop k)=0:=by
 rw [Hb M]
 cases Y6 xs k<;>rfl
theorem ai5(hlt:cj3 lt):∀(xs:List α) (q:α),R3 bad lt (some q) xs=0↔(∀x∈xs,bad x=0)/\(q::xs).Pairwise lt
 |[],q=>by simp [R3]
 |p::ps,q=>by
  simp only [R3]
  by_cases h1:bad p=0
  ·rw [An (by simp [h1])]
   by_cases h2:lt q p
   ·rw [By h2,ai5 hlt ps p]
    constructor
    ·rintro ⟨a,b⟩
     refine ⟨λx hx=>?_,Gp.2 ⟨λx hx=>?_,b⟩⟩
     ·rcases Gh.1 hx with rfl|hx
      ·exact h1
      exact a x hx
     rcases Gh.1 hx with rfl|hx
     ·exact h2
     exact hlt.tr _ _ _ h2<|(Gp.1 b).1 x hx
    rintro ⟨a,b⟩
    exact ⟨λx hx=>a x<|Fv _ hx,(Gp.1 b).2⟩
   rw [An h2]
   refine ⟨λh=>by simp at h,λh=>absurd ((Gp.1 h.2).1 p C_) h2⟩
  rw [By h1]
  exact ⟨λh=>absurd h h1,λh=>h.1 p C_⟩
theorem dd3(hlt:cj3 lt)(xs:List α):R3 bad lt none xs=0↔(∀x∈xs,bad x=0)/\xs.Pairwise lt:=by
 cases xs with
 |nil=>simp [R3]
 |cons p ps=>
  simp only [R3]
  by_cases h1:bad p=0
  ·rw [An (by simp [h1]),ai5 hlt]
   constructor
   ·rintro ⟨a,b⟩
    refine ⟨λx hx=>?_,b⟩
    rcases Gh.1 hx with rfl|hx
    ·exact h1
    exact a x hx
   rintro ⟨a,b⟩
   exact ⟨λx hx=>a x<|Fv _ hx,b⟩
  rw [By h1]
  exact ⟨λh=>absurd h h1,λh=>h.1 p C_⟩
end
end Go.Sl
namespace Go.Sl
def L6:Nat->(Nat->Int)->Int
 |0,_=>0
 |m+1,g=>L6 m g+g m
theorem am0:∀(m:Nat) {g h:Nat->Int},(∀k,k<m->g k=h k)->L6 m g=L6 m h
 |0,_,_,_=>rfl
 |m+1,g,h,e=>by simp only [L6];rw [am0 m (λk M=>e k<|by omega),e m<|by omega]
theorem ba3:∀(m:Nat) (g h:Nat->Int),L6 m (λk=>g k+h k)=L6 m g+L6 m h
 |0,_,_=>rfl
 |m+1,g,h=>by simp only [L6];rw [ba3 m];omega
theorem ct6:∀(m:Nat) (g h:Nat->Int),L6 m (λk=>g k - h k)=L6 m g - L6 m h
 |0,_,_=>rfl
 |m+1,g,h=>by simp only [L6];rw [ct6 m];omega
theorem bd8:∀(m:Nat),L6 m (λ_=>0)=0
 |0=>rfl
 |m+1=>by simp only [L6];rw [bd8 m];rfl
theorem ay1(m:Nat){g:Nat->Int}(h:∀k,k<m->g k=0):L6 m g=0:=by rw [am0 m h,bd8]
theorem bd9:∀(m:Nat) {g h:Nat->Int},(∀k,k<m->g k<=h k)->L6 m g<=L6 m h
 |0,_,_,_=>Hn _
 |m+1,g,h,e=>by
  simp only [L6]
  have:=bd9 m (g:=g) (h:=h) λk M=>e k (by omega)
  have:=e m (by omega)
  omega
theorem do6(m p:Nat)(g:Nat->Nat->Int):L6 m (λi=>L6 p (λj=>g i j))=L6 p (λj=>L6 m (λi=>g i j)):=by
 induction m with
 |zero=>simp only [L6];rw [bd8]
 |succ m ih=>simp only [L6];rw [ih,←ba3]
theorem be0{m k:Nat}(M:k<m)(c:Int):L6 m (λj=>if j=k then c else 0)=c:=by
 induction m with
 |zero=>omega
 |succ m ih=>
  simp only [L6]
  by_cases h:k=m
  ·subst h
   rw [ay1 k λj hj=>by rw [An (by omega)],By rfl];omega
  rw [ih (by omega),An<|by omega];omega
theorem ff1{m k:Nat}(E:k<m){g h:Nat->Int}(e:∀j,j<m->j≠k->h j=g j):L6 m h=L6 m g+(h k - g k):=by
 have M:L6 m h=L6 m (λj=>g j+if j=k then h k - g k else 0):=am0 m λj hj=>by
  by_cases hjk:j=k
  ·subst hjk;simp;omega
  rw [An hjk,e j hj hjk];omega
 rw [M,ba3,be0 E]
theorem ae7:∀(m:Nat) {g h:Nat->Int},(∀k,k<m->g k<=h k)->L6 m g=L6 m h->∀k,k<m->g k=h k
 |0,_,_,_,_=>λk M=>absurd M (Kd k)
 |m+1,g,h,e,he=>by
  simp only [L6] at he
  have h1:=bd9 m (g:=g) (h:=h) λk M=>e k (by omega)
  have E:=e m (by omega)
  intro k M
  by_cases hkm:k=m
  ·subst hkm;omega
  exact ae7 m (λk M=>e k<|by omega) (by omega) k<|by omega
end Go.Sl
namespace Go.Sl
variable{x y:Operand}{S T U:TypeId}{m n:Int}
section
variable {P:Program}{κ:Ctx}{N:Frm}{Q:Exit->Act->World->Prop}{L:Env}{I J:List Item}
variable {d:Option Tmp}{ty:TypeId}{ps:String}{af:Array Edge}{gd:Option (Nat×Bool)}
theorem j0.ga4{k k' q:IntKind}(hs:P.underlying S=some (.int q))(M:P.underlying T=some (.int k))(E:ep L x=some (.int k' n)) :
  j0 P κ N ⟨d,.convert S T x,ty,ps,af,gd⟩ L J (.int k<|k.wrap n):=λa w ha _=>by
 simp [execOp,ha.eval E,convert,run_underlying hs,run_underlying M,Conv.intToInt]
theorem j0.dx9{k' q:IntKind}(hs:P.underlying S=some (.int q))(M:P.underlying T=some (.int .i64))(hx:ep L x=some (.int k' n))(E:InR n) :
  j0 P κ N ⟨d,.convert S T x,ty,ps,af,gd⟩ L J (e7 n):=by
 have h:=j0.ga4 (P:=P) (κ:=κ) (N:=N) (J:=J) (d:=d) (ty:=ty) (ps:=ps) (af:=af) (gd:=gd) hs M hx
 rwa [E.wrap] at h
theorem j0.gu2{k' q:IntKind}(hs:P.underlying S=some (.int q))(M:P.underlying T=some (.int .u64))(hx:ep L x=some (.int k' n))(E:0<=n/\n<=18446744073709551615) :
  j0 P κ N ⟨d,.convert S T x,ty,ps,af,gd⟩ L J (.int .u64 n):=by
 have h:=j0.ga4 (P:=P) (κ:=κ) (N:=N) (J:=J) (d:=d) (ty:=ty) (ps:=ps) (af:=af) (gd:=gd) hs M hx
 rwa [Go.IntWalk.u64_in _ E] at h
theorem j0.gg2{k k':IntKind}(E:ep L x=some (.int k m))(hy:ep L y=some (.int k' n))(h0:0<=n) :
  j0 P κ N ⟨d,.binOp .shr T x y U,ty,ps,af,gd⟩ L J (.int k<|m.fdiv<|2 ^ Min.min n.toNat k.bits):=λa w M _=>by
 have h:¬n<0:=by omega
 simp only [execOp,M.eval E,M.eval hy]
 simp [go_sem,Op.shift,h]
theorem j0.gp7{k k':IntKind}(E:ep L x=some (.int k m))(hy:ep L y=some (.int k' n))(h0:0<=n) :
  j0 P κ N ⟨d,.binOp .shl T x y U,ty,ps,af,gd⟩ L J (.int k<|k.wrap<|m*2 ^ Min.min n.toNat k.bits):=λa w M _=>by
 have h:¬n<0:=by omega
 simp only [execOp,M.eval E,M.eval hy]
 simp [go_sem,Op.shift,h]
theorem j0.shr1{k':IntKind}(M:ep L x=some (.int .u64 m))(E:ep L y=some (.int k' 1)) :
  j0 P κ N ⟨d,.binOp .shr T x y U,ty,ps,af,gd⟩ L J (.int .u64<|m / 2):=by
 have h:=j0.gg2 (P:=P) (κ:=κ) (N:=N) (J:=J) (d:=d) (ty:=ty) (ps:=ps) (af:=af) (gd:=gd) (T:=T) (U:=U) M E (by decide)
 have e:m.fdiv (2 ^ Min.min (1:Int).toNat IntKind.u64.bits)=m / 2:=by
  rw [show (2:Int) ^ Min.min (1:Int).toNat IntKind.u64.bits=2 by decide]
  exact Kz _<|by decide
 rwa [e] at h
theorem V.dp8{fn:Func}{t u s:Tmp}{T b E sz by':Nat}{z cs:List Value}{v' ab:Value}{Post:Value->List Item->Prop}(hr:fn.results = #[.cell t T,.tmp u,.tmp s])(hT:tyF P T=some (sz,true,by',z))(hv:look L t=some ((pt b)))(ae:look L u=some v')(ad:look L s=some ab)(hb:e8 b cs E∈I)
  (hl:cs.length=sz) (J:List Item) (hf:Fit κ I J) (hp:Post (.tuple #[.agg cs.toArray,v',ab]) J) (h0:N.ds=[]:=by rfl):V κ N (bodyPost P fn<|bs4 κ Post) .ret L I:=
 λa w ha hs=>by
  have aa:=λj=>V6 (w:=w) (hs.ok _ hb).1 j
  have M:(loadVar T ⟨b,0,none⟩).run P w = .ok (.agg cs.toArray) w:=G2 hT hl λj u hj=>by rw [y5,aa,←hj];simp
  refine bodyPost_ret (v:= .tuple #[.agg cs.toArray,v',ab]) ?_ (ha.defers.trans h0) ⟨_,J,rfl,hp,hf w hs⟩
  simp [results,hr,ha.get t _ hv,ha.get u _ ae,ha.get s _ ad,asAddr,M]
end
end Go.Sl
namespace Go.Sl
open Go.RowKit (Below)
variable{w:World}{E by' c dd e k m n q sz t:Nat}{cs ds z:List Value}{x y:Operand}{ag:Bool}{ad:Option Addr}
section
variable {P:Program}{κ:Ctx}{N:Frm}{Q:Exit->Act->World->Prop}{L:Env}{I J:List Item}{ops:Array Oper}{rest:List Oper}
variable {d:Option Tmp}{ty:TypeId}{ps:String}{af:Array Edge}{gd:Option (Nat×Bool)}
theorem ab8{v:Value}(h:dn0 w sz v m ds)(hq:q<=m):(Builtin.firstCells sz q v).run P w = .ok (ds.take (q*sz)).toArray w:=by
 obtain ⟨a,cap,rfl,h1,h2,h3,E⟩:=h
 have M:q*sz<=m*sz:=Hs _ hq
 by_cases hc:0<cap
 ·obtain ⟨b,off,rfl,hr⟩:=E hc
  exact run_firstCells_some w sz q _ m cap _ (by rw [Fx];omega) λj u hj=>by
   rw [y5]
   rw [Jf] at hj
   split at hj
   ·exact hr j u hj
   cases hj
 obtain rfl:m=0:=by omega
 obtain rfl:q=0:=by omega
 cases a with
 |none=>simp [Builtin.firstCells]
 |some a=>rw [run_firstCells_some w sz 0 a 0 cap [] (by simp) (by simp)];simp
theorem fv7{e:TypeId}{b off:Nat}{vs:List Value}{cur:Array Value}(hl:cs.length=n*sz)(E:n<=c)(ab:c<=maxLen)(hb:w.heap[b]? = some (.cells cur e (0,0)))
  (aa:off+c*sz<=cur.size) (M:∀j u,cs[j]? = some u->cur[off+j]? = some u) (hk:k+vs.length<=cs.length) :
  az2 (w.setRow b (cur.toList.take (off+k)++vs++cur.toList.drop (off+k+vs.length)).toArray) e sz (.slice (some ⟨b,off,none⟩) n c) n (cs.take k++vs++cs.drop (k+vs.length)):=by
 have ad:n*sz<=c*sz:=Hs _ E
 refine ⟨_,c,rfl,by simp only [A_,Fx,Ge];omega,E,ab,λhc=>⟨b,off,_,rfl,setRow_heap w b cur _ e _ hb,?_,λj u' hj=>?_⟩⟩
 ·simp only [Jv,A_,Fx,Ge,Hl];omega
 have ae:j<cs.length:=by have:=(He.1 hj).1;simp only [A_,Fx,Ge] at this;omega
 have hA:(cur.toList.take<|off+k).length=off+k:=by simp only [Fx,Hl];omega
 have hB:(cs.take k).length=k:=by simp only [Fx];omega
 simp only [Kb]
 rw [H1] at hj
 rw [H1]
 by_cases hjk:j<k
 ·rw [Hf (by omega),Jf,By hjk] at hj
  rw [Hf (by omega),Jf,By<|by omega]
  simpa using M j u' hj
 rw [Hg (by omega),hB] at hj
 rw [Hg (by omega),hA,show off+j - (off+k)=j - k from by omega]
 by_cases hjv:j - k<vs.length
 ·rw [Hf hjv] at hj
  rw [Hf hjv]
  exact hj
 rw [Hg (by omega),Jg,show k+vs.length+(j - k - vs.length)=j from by omega] at hj
 rw [Hg (by omega),Jg,show off+k+vs.length+(j - k - vs.length)=off+j from by omega]
 simpa using M j u' hj
theorem Eff.ga3{t' n':Nat}{u:Value}{I':List Item}(ht:P.underlying t=some (.slice e))(hT:tyF P e=some (sz,ag,by',z))
  (hx:ep L x=some (.slice (M0 ad c k sz) n'<|c - k)) (aq:n'=n - k) (hy:ep L y=some u) (hu:bj5 κ I sz u m ds) (hk:k<=n) (hq:q=min m (n - k)) (h1:∀w∈ds.take (q*sz),w.oneCell'=true) (hN:Nat.blt dd N.n=true)
  (ah:At I (vec e sz (.slice ad n c) n cs) (vec e sz (.slice ad n c) n<|cs.take (k*sz)++ds.take (q*sz)++cs.drop (k*sz+q*sz)) I') :
  Eff P κ N Q ⟨some dd,.call {callee:= .builtin .copy,args:= #[x,y],argTypes:= #[t,t']},ty,ps,af,gd⟩ L I λL' I''=>L'=(dd,e7 q)::L/\I''=I':=
 Eff.V2 rfl hN λa w ha hs=>by
  subst aq
  obtain ⟨a',aw,hv,hl,ao,av,ak⟩:=(hs.ok _ ah.mem).1
  cases hv
  have aj:=hu w hs
  have hlen:=ay4 (P:=P) aj
  have az:m*sz<=ds.length:=by obtain ⟨_,_,_,h,_⟩:=aj;omega
  have ax:q*sz<=m*sz:=Hs _ (by omega)
  have ab:=ab8 (P:=P) aj (show q<=m by omega)
  have M:m.min (n - k)=q:=hq.symm
  have ai:(ds.take<|q*sz).length=q*sz:=by rw [Fx];omega
  have ay:q*sz+k*sz<=n*sz:=by rw [←Jk];exact Hs _ (by omega)
  by_cases hq0:q=0
  ·subst hq0
   refine ⟨e7 0,w,I',?_,⟨rfl,rfl⟩,?_⟩
   ·cases E:M0 ad c k sz with
    |none=>simp [execOp,resolve,invoke,builtin,ha.eval hx,ha.eval hy,Builtin.copy_,run_underlying ht,hlen,run_sizeOf hT,M,ab,E,goInt]
    |some aa=>simp [execOp,resolve,invoke,builtin,ha.eval hx,ha.eval hy,Builtin.copy_,run_underlying ht,hlen,run_sizeOf hT,M,ab,E,goInt,storeCells]
   refine Fit.upd ah (λw hw=>?_) w hs
   have e:cs.take (k*sz)++ds.take (0*sz)++cs.drop (k*sz+0*sz)=cs:=by simp
   rw [e]
   exact ⟨hw,λ_ h=>h⟩
  obtain ⟨b,off,cur,rfl,hb,ae,ap⟩:=ak (by omega)
  have an:=run_storeCells_at P b (off+k*sz) e (ds.take (q*sz)) 0 cur w hb (by
   have:=Hs sz ao
   simp only [Kw];omega) h1
  simp only [Kw] at an
  have E:M0 (some ⟨b,off,none⟩) c k sz=some ⟨b,off+k*sz,none⟩:=by unfold M0;rw [An (by omega)];simp [y5]
  refine ⟨e7 q,_,I',by simp only [execOp,resolve,invoke,builtin,Ke,Kc,My,ha.eval hx,ha.eval hy];simp [Builtin.copy_,run_underlying ht,hlen,run_sizeOf hT,M,ab,E,goInt];rw [an];simp only [Result.andThen_ok];rfl,⟨rfl,rfl⟩,?_⟩
  refine hs.upd ah rfl ⟨rfl,Gk _⟩ rfl (by simp) (λk' _ au=>setRow_other w b k' _ λe=>au<|by subst e;exact ⟨off,n,c,rfl,by omega⟩) ?_ λk' ar=> .inl ?_
  ·have:=fv7 (k:=k*sz) (vs:=ds.take (q*sz)) hl ao av hb ae ap (by rw [ai];omega)
   rw [ai] at this
   rw [ai]
   exact this
  exact ar
theorem vec.room{e:TypeId}{h:Nat}(hh:n<=h)(hc:h<=c):∀w,(vec e sz (.slice ad n c) n cs).ok w->∃js:List Value,js.length=(h - n)*sz/\(vec e sz (.slice ad h c) h (cs++js)).ok w:=by
 intro w hw
 obtain ⟨a',ah,hv,hl,aj,ab,aa⟩:=hw
 cases hv
 by_cases hc0:0<c
 ·obtain ⟨b,off,cur,rfl,hb,M,E⟩:=aa hc0
  have ai:h*sz<=c*sz:=Hs _ hc
  have ae:n*sz+(h - n)*sz=h*sz:=by rw [←Jk];congr 1;omega
  refine ⟨(cur.toList.drop<|off+n*sz).take ((h - n)*sz),by simp only [Fx,Ge,Hl];omega,_,c,rfl,by simp only [A_,Fx,Ge,Hl];omega,hc,ab,λ_=>⟨b,off,cur,rfl,hb,M,λj u hj=>?_⟩⟩
  by_cases hjn:j<cs.length
  ·rw [Hf hjn] at hj;exact E j u hj
  rw [Hg (by omega),Jf] at hj
  split at hj
  ·rw [Jg,show off+n*sz+(j - cs.length)=off+j from by omega] at hj
   simpa using hj
  cases hj
 obtain rfl:h=0:=by omega
 obtain rfl:n=0:=by omega
 exact ⟨[],by simp,_,c,rfl,by simpa using hl,by omega,ab,λh=>absurd h hc0⟩
theorem Eff.grow{α:Type}[Enc α][Inhabited α]{xs:List α}{u i:Nat}{m:Int}(ht:P.underlying t=some (.slice e))(hu:P.underlying u=some (.int .i64))(hT:tyF P e=some (Enc.sz α,ag,by',z))(hz:z=Enc.enc (default:α))
  (hx:ep L x=some (.slice ad i c)) (hy:ep L y=some (e7 m)) (hm:m=(k:Int)) (hv:Sl κ I (.slice ad xs.length c) xs) (hi:i<=xs.length) (hk:0<k) (hg:c<i+k) (ar:(i+k)*by'<=140737488355328) (aj:0<by') (hN:Nat.blt dd N.n=true) :
  Eff P κ N Q ⟨some dd,.call {callee:= .builtin .append,args:= #[x,y],argTypes:= #[t,u]},ty,ps,af,gd⟩ L I λL' I''=>∃ad' c',L'=(dd,.slice ad' (i+k) c')::L/\I''=vc e (.slice ad' (i+k) c') (xs.take i++List.replicate k (default:α))::I:=
 Eff.V2 rfl hN λa w ha hs=>by
  subst hm
  obtain ⟨i0,E,d0,aw,ay,a1,ax,az,ak,ae⟩:=ak9 hT
  have ah:=Enc.pos (α:=α)
  have ap:i+k<=maxLen:=by
   have:=Mj (i+k) aj
   simp only [maxLen];omega
  have an:=(Sl.take hv hi) w.drew (hs.drew)
  have hlt:(xs.take i).length=i:=by rw [Fx];omega
  rw [hlt] at an
  have hold:=ab8 (P:=P) an (Gk i)
  have aq:(cells<|xs.take i).length=i*Enc.sz α:=by rw [n3,hlt]
  rw [Gb (by omega)] at hold
  have ao:=Go.Lib.run_append_grow_zeros (P:=P) w t u ty e i0 E .i64 .i64 ht hu aw ay ad i c (cells<|xs.take i) (by rw [ax];exact hold) k hk (by omega) hg (by simp only [maxLen] at ap;omega)
   (by rw [ak];rw [Jk] at ar;omega) (growslice_fits hg<|by rw [ak];exact ar)
  have ai:=grownCap_ge w (i+k) c e
  have au:=grownCap_le_maxLen w (i+k) c e ap
  have ab:E.cells.size=Enc.sz α:=by rw [ae,hz,Jv,Enc.len]
  have M:(Builtin.zeroCells E.cells k).toList=cells (List.replicate k (default:α)):=by
   rw [←bf4,←hz]
   apply List.ext_getElem?
   intro j
   simp only [Builtin.zeroCells,Ny,Ni,Ks,ab]
   by_cases hj:j<k*Enc.sz α
   ·rw [Mx hj]
    have av:j % Enc.sz α<z.length:=by rw [hz,Enc.len];exact Na _ ah
    rw [ag3 z k j (by omega) (by rw [hz,Enc.len];exact hj),show z.length=Enc.sz α from by rw [hz,Enc.len],ae]
    simp [av]
   rw [Kk (by simpa using hj),Kk (by rw [bv8,hz,Enc.len];omega)]
   rfl
  refine ⟨.slice (some ⟨w.heap.size,0,none⟩) (i+k)<|grownCap w (i+k) c e,w.drew.alloc<|.cells ((cells<|xs.take i).toArray++Builtin.zeroCells E.cells k++Builtin.zeroCells E.cells (grownCap w (i+k) c e - (i+k))) e,_,by simp only [execOp,resolve,invoke,builtin,Ke,Kc,My,ha.eval hx,ha.eval hy];simp [ao],⟨_,_,rfl,rfl⟩,?_⟩
  have aa:(xs.take i++List.replicate k (default:α)).length=i+k:=by rw [A_,hlt,Fw]
  refine hs.drew.new (hs.drew.alloc _) ?_ λj hj=>?_
  ·show az2 _ e _ _ _ _
   rw [aa]
   refine ⟨_,_,rfl,by rw [n3,aa],ai,au,λ_=>⟨w.heap.size,0,_,rfl,heap_alloc_new w.drew _,?_,λj u hj=>?_⟩⟩
   ·simp only [Array.size_append,Jv,size_zeroCells,ab,aq,←Jk,Lz]
    rw [Nat.add_sub_cancel' ai]
    exact Gk _
   rw [Lz,Jr (by
    have:=(He.1 hj).1
    rw [n3,aa] at this
    simp only [Array.size_append,Jv,size_zeroCells,ab,aq,←Jk];exact this)]
   rw [N3,←M] at hj
   have e1:(cells<|xs.take i).toArray++Builtin.zeroCells E.cells k=(cells (xs.take i)++(Builtin.zeroCells E.cells k).toList).toArray:=by
    apply Array.ext';simp
   rw [e1,Kb];exact hj
  obtain ⟨o,n',c',he,a0⟩:=hj
  cases he
  exact ⟨Gk _,by simp⟩
theorem Eff.overlaps{f tb k':Nat}{ap:Array TypeId}{ak:Option Addr}{e' ah:Nat}{K:List Item}
  (av:∀args w,(callFunc f args).run P w=((Extern.SlicesOverlaps.overlaps #[t,t] #[tb] args).run P w).andThen λv w'=> .ok (.value v) w') (ht:P.underlying t=some (.slice e)) (hT:tyF P e=some (sz,ag,by',z))
  (hx:ep L x=some (.slice ad m c)) (hy:ep L y=some (.slice (M0 ak E k sz) k'<|E - k)) (a0:k<=E) (h0:0<m) (a4:0<n) (aj:Fit κ I (vec e sz (.slice ad m c) m cs::vec e' ah (.slice ak n E) n ds::K)) (a1:0<E*ah) (hN:Nat.blt dd N.n=true) :
  Eff P κ N Q ⟨some dd,.call {callee:= .value (.func f),args:= #[x,y],argTypes:=ap},ty,ps,af,gd⟩ L I λL' I''=>L'=(dd,.bool false)::L/\I''=I:=
 Eff.V2 rfl hN λa w ha hs=>by
  have ab:=aj w hs
  obtain ⟨_,_,hv,_,a3,_,ae⟩:=(ab.ok _ C_).1
  cases hv
  obtain ⟨_,_,aq,_,az,_,aa⟩:=(ab.ok _<|Fv _ C_).1
  cases aq
  obtain ⟨b,off,cur,rfl,hb,au,_⟩:=ae (by omega)
  obtain ⟨b',M,ai,rfl,aw,ao,_⟩:=aa (by omega)
  have ax:Item.apart _ _:=(Gp.1 ab.pw).1 _ C_
  have ar:b≠b':=λe=>by
   subst e
   exact ax b ⟨off,m,c,rfl,by omega⟩ ⟨M,n,E,rfl,by omega⟩
  have ay:∃o,M0 (some ⟨b',M,none⟩) E k sz=some ⟨b',o,none⟩:=by
   unfold M0;split
   ·exact ⟨_,rfl⟩
   exact ⟨_,by simp [y5];rfl⟩
  obtain ⟨o,ho⟩:=ay
  rw [ho] at hy
  have an:=Go.Lib.run_overlaps_apart w t tb e ht sz (λw=>run_sizeOf hT w) ⟨b,off,none⟩ ⟨b',o,none⟩ m c k' (E - k) ar e e' cur.size ai.size (by simp [World.shape?,hb]) (by simp [World.shape?,aw]) (by omega) (by simp [World.frozen?,hb]) (by simp [World.frozen?,hb])
  refine ⟨.bool false,w,I,?_,⟨rfl,rfl⟩,hs⟩
  have e1:a.eval (.func f) = .func (.func f) #[] #[]:=rfl
  simp only [execOp,resolve,e1,Deferred.ofValue,invoke,Sem.run_bind,Sem.run_pure,Result.andThen_ok,Ke,Kc,My,ha.eval hx,ha.eval hy]
  simp only [Array.empty_append,Array.append_empty,av,an,Result.andThen_ok]
theorem j0.gk9{T U:Nat}(ht:P.underlying T=some (.slice E))(hx:ep L x=some (.slice ad n c))(hy:ep L y=some (.slice none 0 0)) :
  j0 P κ N ⟨d,.binOp .eql T x y U,ty,ps,af,gd⟩ L J (.bool ad.isNone):=λa w M _=>by
 have hg:(eqGuard .eql T x y (.slice ad n c)<|.slice none 0 0).run P w = .ok () w:=by simp [eqGuard]
 have h:=Go.Lib.run_eql_slice_nil (P:=P) w T E ad n c 0 0 ht
 simp only [execOp,M.eval hx,M.eval hy]
 simp [hg,h]
theorem Eff.bs0{α:Type}[Enc α](ht:P.underlying t=some (.slice e))(E:tyF P e=some (Enc.sz α,ag,by',z))(hN:Nat.blt dd N.n=true) :
  Eff P κ N Q ⟨some dd,.buildSlice t 0 #[],ty,ps,af,gd⟩ L I λL' I''=>∃ad,L'=(dd,.slice ad 0 0)::L/\I''=vc e (.slice ad 0 0) ([]:List α)::I:=
 Eff.V2 rfl hN λa w ha hs=>by
  refine ⟨.slice (some ⟨w.heap.size,0,none⟩) 0 0,w.alloc<|.cells #[] e,_,by simp [execOp,Instr.buildSlice,run_underlying ht,run_sizeOf E,Instr.fill,newRow,Array.range_zero'],⟨_,rfl,rfl⟩,?_⟩
  exact hs.new (hs.alloc _) ⟨_,0,rfl,by simp [cells],Gk _,by simp,λh=>absurd h<|by decide⟩ λk hk=>by
   obtain ⟨o,n',c',he,M⟩:=hk
   cases he
   omega
theorem Sl.isNone{α:Type}[Enc α]{xs:List α}(h:Sl κ I (.slice ad xs.length c) xs):∀w,Sep κ w I->ad.isNone=true->xs=[]/\c=0:=λw hs hn=>by
 obtain ⟨a,cap,E,h1,h2,h3,M⟩:=h w hs
 cases E
 by_cases hc:0<c
 ·obtain ⟨b,off,rfl,_⟩:=M hc;cases hn
 exact ⟨Hr<|by omega,by omega⟩
end
end Go.Sl
