/- A part of the proofs of statements of this seat: contracts of functions, and the plain laws that they lean on. No conditions. -/
import Derived.Test.YtfkcohmipjhfcaaGreatDoorB4
import Derived.Test.YtfkcohmipjhfcaaGreatDoorProg
set_option linter.unusedVariables false
set_option linter.unusedSimpArgs false
set_option linter.unusedSectionVars false
open Go.Proofs.Tryz (prog)
namespace Go.Sl
variable{M a b i m n q r:Int}
structure Wd where
 hi:Int
 lo:Int
deriving DecidableEq
instance:Inhabited Wd:=⟨⟨0,0⟩⟩
instance:Enc Wd:=⟨λr=>[.int .u64 r.hi,.int .u64 r.lo],2,by omega,λ_=>rfl,λr u hu=>by
 simp only [Gh,Hy,Kx] at hu
 rcases hu with rfl|rfl<;>rfl⟩
section
variable {P:Program}
def dg2(P:Program):List Field->Nat->Bool
 |[],_=>true
 | f :: fs, o => (f.name != "_") && (match P.underlying f.type with | some (.int .u64) => true | _ => false) && (f.offset == o) && dg2 P fs (o + 1)
theorem bf1(d:Nat)(w:World)(ns ms:List Int):∀(fs:List Field) (o:Nat),dg2 P fs o=true->ns.length=o+fs.length->ms.length=o+fs.length->
  (Op.eqFields (d+1) (ns.map (Value.int .u64)).toArray (ms.map (Value.int .u64)).toArray fs).run P w = .ok (decide (ns.drop o=ms.drop o)) w
 |[],o,_,hn,hm=>by
  have h1:ns.drop o=[]:=Hb (by simp at hn;omega)
  have h2:ms.drop o=[]:=Hb (by simp at hm;omega)
  simp [Op.eqFields,h1,h2]
 |f::fs,o,h,hn,hm=>by
  simp only [dg2,Hi,bne_iff_ne,beq_iff_eq] at h
  obtain ⟨⟨⟨h1,h2⟩,h3⟩,h4⟩:=h
  have hu:P.underlying f.type=some (.int .u64):=by
   revert h2
   split
   ·intro _;assumption
   intro h;cases h
  simp only [Fu] at hn hm
  have hno:o<ns.length:=by omega
  have hmo:o<ms.length:=by omega
  have ha:(isAgg f.type).run P w = .ok false w:=by simp [isAgg,run_underlying hu]
  have hp:∀(ks:List Int) (hk:o<ks.length),(part f.type (ks.map (Value.int .u64)).toArray f.offset).run P w = .ok ((Value.int .u64) ks[o]) w:=λks hk=>by
   simp [part,ha,h3,hk]
  have ih:=bf1 d w ns ms fs (o+1) h4 (by omega) (by omega)
  simp only [Op.eqFields,By h1,Sem.run_bind,hp ns hno,hp ms hmo,Result.andThen_ok,run_equalIn_int _ _ _ _ _ _ _ hu]
  have key:(ns.drop o=ms.drop o)↔(ns[o]=ms[o]/\ns.drop (o+1)=ms.drop (o+1)):=by rw [Hp hno,Hp hmo,Mw]
  have key2:decide (ns.drop o=ms.drop o)=decide (ns[o]=ms[o]/\ns.drop (o+1)=ms.drop (o+1)):=Fy.2 key
  rw [key2]
  by_cases he:ns[o]=ms[o]
  ·simp [he,ih]
  simp [he]
theorem EqT.dg2{α:Type}[Enc α][DecidableEq α]{T n:Nat}(M:α->List Int)(E:∀x,Enc.enc x=(M x).map (Value.int .u64))(aa:∀x y,M x=M y->x=y)(hlen:∀x,(M x).length=n)
  (ht:P.underlying T=some (.struct<|P.fieldsOf T)) (hp:P.stoodInHeld T=false) (hf:dg2 P (P.fieldsOf T).toList 0=true) (hn:(P.fieldsOf T).size=n) (hg:P.eqGuardType P.depth T=false):EqT P T α:=by
 refine ⟨λx y w=>?_,hg⟩
 rw [show (10000:Nat)=9999+1 from rfl,run_equalIn_struct w 9999 T _ _ ht hp,E,E,show (9999:Nat)=9998+1 from rfl,
  bf1 9998 w (M x) (M y) _ 0 hf (by rw [hlen,Hl,hn];omega) (by rw [hlen,Hl,hn];omega)]
 congr 1
 rw [Ko,Ko,Fy]
 exact ⟨aa x y,λe=>by rw [e]⟩
end
def dz4(a i:Int):Int:=a / 2 ^ i.toNat % 2
theorem fo0(a i:Int):dz4 a i=0\/dz4 a i=1:=by unfold dz4;omega
theorem bd3(M:0<=n)(E:n<18446744073709551616):∃b:BitVec 64,n=(b.toNat:Int):=
 ⟨BitVec.ofNat 64 n.toNat,by rw [BitVec.toNat_ofNat];omega⟩
section
variable {P:Program}{κ:Ctx}{N:Frm}{L:Env}{J:List Item}{d:Option Tmp}{ty:TypeId}{ps:String}{af:Array Edge}{gd:Option (Nat×Bool)}{x y:Operand}{T U:TypeId}{k':IntKind}
theorem j0.gw4(M:ep L x=some (.int .u64 m))(E:ep L y=some (.int k' 1))(h0:0<=m)(h1:m<9223372036854775808):j0 P κ N ⟨d,.binOp .shl T x y U,ty,ps,af,gd⟩ L J (.int .u64 (2*m)):=by
 have h:=j0.gp7 (P:=P) (κ:=κ) (N:=N) (J:=J) (d:=d) (ty:=ty) (ps:=ps) (af:=af) (gd:=gd) (T:=T) (U:=U) M E (by decide)
 have e:IntKind.u64.wrap (m*2 ^ Min.min (1:Int).toNat IntKind.u64.bits)=2*m:=by
  rw [show Min.min (1:Int).toNat IntKind.u64.bits=1 from rfl,N1];omega
 rwa [e] at h
theorem j0.gr3(M:ep L x=some (.int .u64 m))(E:ep L y=some (.int k' 63))(h0:0<=m)(h1:m<9223372036854775808):j0 P κ N ⟨d,.binOp .shr T x y U,ty,ps,af,gd⟩ L J (.int .u64 0):=by
 have h:=j0.gg2 (P:=P) (κ:=κ) (N:=N) (J:=J) (d:=d) (ty:=ty) (ps:=ps) (af:=af) (gd:=gd) (T:=T) (U:=U) M E (by decide)
 have e:m.fdiv (2 ^ Min.min (63:Int).toNat IntKind.u64.bits)=0:=by
  rw [show Min.min (63:Int).toNat IntKind.u64.bits=63 from rfl,Kz _<|by decide];omega
 rwa [e] at h
theorem j0.gp6(M:ep L x=some (.int .u64 m))(E:ep L y=some (.int k' n))(h0:0<=n)(h1:n<64):j0 P κ N ⟨d,.binOp .shr T x y U,ty,ps,af,gd⟩ L J (.int .u64 (m / 2 ^ n.toNat)):=by
 have h:=j0.gg2 (P:=P) (κ:=κ) (N:=N) (J:=J) (d:=d) (ty:=ty) (ps:=ps) (af:=af) (gd:=gd) (T:=T) (U:=U) M E h0
 have e:m.fdiv (2 ^ Min.min n.toNat IntKind.u64.bits)=m / 2 ^ n.toNat:=by
  rw [show Min.min n.toNat IntKind.u64.bits=n.toNat by show Min.min n.toNat 64=_;omega,Kz _<|Nd<|by decide]
 rwa [e] at h
theorem j0.gq8(M:ep L x=some (.int .u64 0))(E:ep L y=some (.int k' n))(h0:0<=n)(h1:n<64):j0 P κ N ⟨d,.binOp .shr T x y U,ty,ps,af,gd⟩ L J (.int .u64 0):=by
 have h:=j0.gp6 (P:=P) (κ:=κ) (N:=N) (J:=J) (d:=d) (ty:=ty) (ps:=ps) (af:=af) (gd:=gd) (T:=T) (U:=U) M E h0 h1
 rwa [Int.zero_ediv] at h
theorem j0.gm9(E:ep L x=some (.int .u64 m))(hy:ep L y=some (.int .u64 1))(M:0<=m)(h1:m<18446744073709551616):j0 P κ N ⟨d,.binOp .and T x y U,ty,ps,af,gd⟩ L J (.int .u64 (m % 2)):=by
 obtain ⟨b,rfl⟩:=bd3 M h1
 have h:=j0.gu5 (P:=P) (κ:=κ) (N:=N) (J:=J) (d:=d) (ty:=ty) (ps:=ps) (af:=af) (gd:=gd) (T:=T) (U:=U) (b:=1#64) E hy
 have e:((b &&& 1#64).toNat:Int)=(b.toNat:Int) % 2:=by
  rw [Ja,show (1#64).toNat=1 from rfl,Ky];rfl
 show j0 P κ N _ L J (.int .u64<|(b.toNat:Int) % 2)
 rw [←e];exact h
theorem j0.gx5(E:ep L x=some (.int .u64 (a / 2 ^ i.toNat)))(hy:ep L y=some (.int .u64 1))(M:0<=a)(h1:a<18446744073709551616):j0 P κ N ⟨d,.binOp .and T x y U,ty,ps,af,gd⟩ L J (.int .u64 (dz4 a i)):=
 j0.gm9 E hy (Int.ediv_nonneg M<|Nd<|by decide) (Int.lt_of_le_of_lt (Mr _ M) h1)
theorem j0.zand(M:ep L x=some (.int .u64 0))(E:ep L y=some (.int .u64 1)):j0 P κ N ⟨d,.binOp .and T x y U,ty,ps,af,gd⟩ L J (.int .u64 0):=
 j0.gm9 M E (by decide) (by decide)
theorem j0.or1U(M:ep L x=some (.int .u64 (2*m)))(hy:ep L y=some (.int .u64 1))(h0:0<=m)(h1:m<9223372036854775808):j0 P κ N ⟨d,.binOp .or T x y U,ty,ps,af,gd⟩ L J (.int .u64 (2*m+1)):=by
 obtain ⟨b,E⟩:=bd3 (n:=2*m) (by omega) (by omega)
 rw [E] at M
 have h:=j0.orB (P:=P) (κ:=κ) (N:=N) (J:=J) (d:=d) (ty:=ty) (ps:=ps) (af:=af) (gd:=gd) (T:=T) (U:=U) (b:=1#64) M hy
 have hz:b &&& 1#64=0#64:=Lb (by rw [Ja,show (1#64).toNat=1 from rfl,Ky];show b.toNat % 2=0;omega)
 have e:((b ||| 1#64).toNat:Int)=2*m+1:=by
  rw [←BitVec.add_eq_or_of_and_eq_zero _ _ hz,J_,show (1#64).toNat=1 from rfl];omega
 show j0 P κ N _ L J (.int .u64<|2*m+1)
 rw [←e];exact h
theorem j0.orZ(M:ep L x=some (.int .u64 (2*0)))(E:ep L y=some (.int .u64 0)):j0 P κ N ⟨d,.binOp .or T x y U,ty,ps,af,gd⟩ L J (.int .u64 0):=
 j0.orB (a:=0#64) (b:=0#64) M E
theorem j0.gw3(M:ep L x=some (.int .u64 m))(E:ep L y=some (.int .u64 n))(h0:0<=n)(h1:n<=m)(h2:m<18446744073709551616):j0 P κ N ⟨d,.binOp .sub T x y U,ty,ps,af,gd⟩ L J (.int .u64 (m - n)):=by
 have h:=j0.gp4 (P:=P) (κ:=κ) (N:=N) (J:=J) (d:=d) (ty:=ty) (ps:=ps) (af:=af) (gd:=gd) (T:=T) (U:=U) M E
 have e:IntKind.u64.wrap (m - n)=m - n:=by rw [N1];omega
 rwa [e] at h
end
theorem fn9(M:0<=a)(hi:0<=i):a / 2 ^ i.toNat=2*(a / 2 ^ (i+1).toNat)+dz4 a i:=by
 have e:(2:Int) ^ (i+1).toNat=2 ^ i.toNat*2:=by rw [show (i+1).toNat=i.toNat+1 by omega,Int.pow_succ]
 unfold dz4
 rw [e,←Int.ediv_ediv_of_nonneg (Nd<|by decide)]
 omega
theorem fu9(E:0<=a)(h:a / 2 ^ (i+1).toNat=q*b+r)(hi:0<=i)(hr:M=2*r+dz4 a i):a / 2 ^ (i - 1+1).toNat=2*q*b+M:=by
 rw [show i - 1+1=i by omega,fn9 E hi,h,hr,Lx,Hk];omega
theorem gm2(E:0<=a)(h:a / 2 ^ (i+1).toNat=q*b+r)(hi:0<=i)(hr:M=2*r+dz4 a i):a / 2 ^ (i - 1+1).toNat=(2*q+1)*b+(M - b):=by
 rw [fu9 E h hi hr,Int.add_mul,Int.one_mul];omega
theorem dz3(M:0<=a)(E:a<9223372036854775808)(hi:63<=i):dz4 a i=0:=by
 unfold dz4
 rw [Int.ediv_eq_zero_of_lt M]
 ·rfl
 have:(2:Int) ^ 63<=2 ^ i.toNat:=by have h:=Jx (n:=2) (by decide) (show 63<=i.toNat by omega);exact_mod_cast h
 omega
theorem dw6(E:0<=a)(M:a<9223372036854775808):a / 2 ^ ((127:Int)+1).toNat=0*b+0:=by
 rw [Int.ediv_eq_zero_of_lt E]
 ·omega
 exact Int.lt_of_lt_of_le M<|by decide+kernel
theorem dw7(h:a / 2 ^ (i+1).toNat=q*b+r)(hi:i = -1)(M:0<=r)(E:r<b):q=a / b/\r=a % b:=by
 subst hi
 rw [show ((-1:Int)+1).toNat=0 from rfl,Int.pow_zero,Int.ediv_one] at h
 have hb:0<b:=by omega
 have e1:a / b=q:=by rw [h,Int.add_comm,Int.add_mul_ediv_right _ _<|by omega,Int.ediv_eq_zero_of_lt M E];omega
 have e2:a % b=r:=by rw [h,Int.add_comm,Int.add_mul_emod_self_right,Int.emod_eq_of_lt M E]
 exact ⟨e1.symm,e2.symm⟩
theorem gm3(M:0<=a)(h:a / 2 ^ (i+1).toNat=q*b+r)(hr:0<=r)(hb:0<b)(E:0<=q):q<=a:=by
 have h1:a / 2 ^ (i+1).toNat<=a:=Mr _ M
 have h2:q*1<=q*b:=Mv (by omega) E
 omega
theorem V.fg5{P:Program}{κ:Ctx}{N:Frm}{L:Env}{I:List Item}{fn:Func}{t u:Tmp}{T U b b' E E' sz ae by' ai:Nat}{z z' cs ds:List Value}{Post:Value->List Item->Prop}(hr:fn.results = #[.cell t T,.cell u U])(hT:tyF P T=some (sz,true,by',z))(hU:tyF P U=some (ae,true,ai,z'))
  (hv:look L t=some (pt b)) (ah:look L u=some (pt b')) (hb:e8 b cs E∈I) (ak:e8 b' ds E'∈I)
  (hl:cs.length=sz) (aj:ds.length=ae) (J:List Item) (hf:Fit κ I J) (hp:Post (.tuple #[.agg cs.toArray,.agg ds.toArray]) J) (h0:N.ds=[]:=by rfl):V κ N (bodyPost P fn<|bs4 κ Post) .ret L I:=
 λa w ha hs=>by
  have ab:=λj=>V6 (w:=w) (hs.ok _ hb).1 j
  have M:=λj=>V6 (w:=w) (hs.ok _ ak).1 j
  have ad:(loadVar T ⟨b,0,none⟩).run P w = .ok (.agg cs.toArray) w:=G2 hT hl λj u hj=>by rw [y5,ab,←hj];simp
  have aa:(loadVar U ⟨b',0,none⟩).run P w = .ok (.agg ds.toArray) w:=G2 hU aj λj u hj=>by rw [y5,M,←hj];simp
  refine bodyPost_ret (v:= .tuple #[.agg cs.toArray,.agg ds.toArray]) ?_ (ha.defers.trans h0) ⟨_,J,rfl,hp,hf w hs⟩
  simp [results,hr,ha.get t _ hv,ha.get u _ ah,asAddr,ad,aa]
end Go.Sl
namespace Go.Sl
variable{m n r:Int}
section
variable {P:Program}{κ:Ctx}{N:Frm}{L:Env}{J:List Item}{d:Option Tmp}{ty:TypeId}{ps:String}{af:Array Edge}{gd:Option (Nat×Bool)}{x y:Operand}{T U:TypeId}{k':IntKind}
theorem j0.mulU(E:ep L x=some (.int .u64 m))(hy:ep L y=some (.int .u64 n))(M:m*n=r)(h0:0<=r)(h1:r<18446744073709551616):j0 P κ N ⟨d,.binOp .mul T x y U,ty,ps,af,gd⟩ L J (.int .u64 r):=by
 have h:=j0.gq4 (P:=P) (κ:=κ) (N:=N) (J:=J) (d:=d) (ty:=ty) (ps:=ps) (af:=af) (gd:=gd) (T:=T) (U:=U) E hy
 have e:IntKind.u64.wrap (m*n)=r:=by rw [N1,M];omega
 rwa [e] at h
theorem j0.addU(E:ep L x=some (.int .u64 m))(hy:ep L y=some (.int .u64 n))(M:m+n=r)(h0:0<=r)(h1:r<18446744073709551616):j0 P κ N ⟨d,.binOp .add T x y U,ty,ps,af,gd⟩ L J (.int .u64 r):=by
 have h:=j0.gv0 (P:=P) (κ:=κ) (N:=N) (J:=J) (d:=d) (ty:=ty) (ps:=ps) (af:=af) (gd:=gd) (T:=T) (U:=U) E hy
 have e:IntKind.u64.wrap (m+n)=r:=by rw [N1,M];omega
 rwa [e] at h
theorem j0.lowU(hx:ep L x=some (.int .u64 m))(hy:ep L y=some (.int .u64 4294967295))(M:0<=m)(h1:m<18446744073709551616)(E:m % 4294967296=r):j0 P κ N ⟨d,.binOp .and T x y U,ty,ps,af,gd⟩ L J (.int .u64 r):=by
 obtain ⟨b,rfl⟩:=bd3 M h1
 have h:=j0.gu5 (P:=P) (κ:=κ) (N:=N) (J:=J) (d:=d) (ty:=ty) (ps:=ps) (af:=af) (gd:=gd) (T:=T) (U:=U) (b:=4294967295#64) hx hy
 have e:((b &&& 4294967295#64).toNat:Int)=r:=by
  rw [Ja,show (4294967295#64).toNat=2 ^ 32 - 1 from rfl,Mo,←E];rfl
 rw [←e];exact h
theorem j0.gr4(E:ep L x=some (.int .u64 m))(hy:ep L y=some (.int k' 32))(M:m / 4294967296=r):j0 P κ N ⟨d,.binOp .shr T x y U,ty,ps,af,gd⟩ L J (.int .u64 r):=by
 have h:=j0.gp6 (P:=P) (κ:=κ) (N:=N) (J:=J) (d:=d) (ty:=ty) (ps:=ps) (af:=af) (gd:=gd) (T:=T) (U:=U) E hy (by decide) (by decide)
 rw [show (2:Int) ^ (32:Int).toNat=4294967296 from rfl,M] at h
 exact h
theorem j0.gr8(E:ep L x=some (.int .u64 (m*4294967296)))(hy:ep L y=some (.int .u64 n))(h0:0<=m)(h1:m<4294967296)(h2:0<=n)(h3:n<4294967296)(hr:m*4294967296+n=r):j0 P κ N ⟨d,.binOp .or T x y U,ty,ps,af,gd⟩ L J (.int .u64 r):=by
 obtain ⟨a,ha⟩:=bd3 (n:=m*4294967296) (by omega) (by omega)
 obtain ⟨b,hb⟩:=bd3 (n:=n) (by omega) (by omega)
 rw [ha] at E
 rw [hb] at hy
 have h:=j0.orB (P:=P) (κ:=κ) (N:=N) (J:=J) (d:=d) (ty:=ty) (ps:=ps) (af:=af) (gd:=gd) (T:=T) (U:=U) E hy
 have e:((a ||| b).toNat:Int)=r:=by
  rw [BitVec.toNat_or]
  have ea:a.toNat=m.toNat <<< 32:=by rw [Nat.shiftLeft_eq];omega
  have M:b.toNat<2 ^ 32:=by omega
  rw [ea,←Nat.shiftLeft_add_eq_or_of_lt M,Nat.shiftLeft_eq];omega
 rw [←e];exact h
end
end Go.Sl
namespace Go.Sl
variable{xs:List (BitVec 64)}{x:Operand}{E T b by' sz:Nat}{z:List Value}{i:Int}
section
variable {P:Program}{κ:Ctx}{N:Frm}{Q:Exit->Act->World->Prop}{L:Env}{I J:List Item}
variable {d:Option Tmp}{ty:TypeId}{ps:String}{af:Array Edge}{gd:Option (Nat×Bool)}
theorem j0.gt0(hT:tyF P T=some (sz,false,by',z))(hx:ep L x=some (.pointer (some ⟨b,0+i.toNat*1,none⟩)))(hb:X8 κ J b (cells xs) E)(M:0<=i)(hn:i<xs.length) :
  j0 P κ N ⟨d,.load T x,ty,ps,af,gd⟩ L J (U64<|e_ xs i):=by
 refine j0.gj1 hT hx hb ?_
 have:=T5 xs i.toNat 0 (by omega) (by decide)
 rw [show 0+i.toNat*1=i.toNat*Enc.sz (BitVec 64)+0 by show 0+i.toNat*1=i.toNat*1+0;omega,this,ax3 M hn];rfl
theorem dh7(xs:List (BitVec 64))(i:Nat)(n:BitVec 64)(h:i<xs.length):(cells xs).take i++[U64 n]++(cells xs).drop (i+1)=cells (xs.set i n):=by
 induction xs generalizing i with
 |nil=>simp at h
 |cons x xs ih=>
  cases i with
  |zero=>rfl
  |succ i=>
   have E:i<xs.length:=by simpa using h
   have e:cells (x::xs)=U64 x::cells xs:=rfl
   rw [e,List.set_cons_succ]
   have M:cells (x::xs.set i n)=U64 x::cells (xs.set i n):=rfl
   rw [M,←ih i E];rfl
theorem Eff.fg2{y:Operand}{ag:Bool}{n:BitVec 64}{I':List Item}(hT:tyF P T=some (sz,ag,by',z))(aa:sz=1)(hx:ep L x=some (.pointer (some ⟨b,0+i.toNat*1,none⟩)))(hy:ep L y=some (U64 n))(h0:0<=i)(hn:i<xs.length)
  (M:At I (e8 b (cells xs) E) (e8 b (cells<|xs.set i.toNat n) E) I') :
  Eff P κ N Q ⟨none,.store T x y,ty,ps,af,gd⟩ L I λL' I''=>L'=L/\I''=I':=by
 have hl:(cells xs).length=xs.length:=by rw [n3];show xs.length*1=_;omega
 refine Eff.store (vs:=[U64 n]) (cs':=cells (xs.set i.toNat n)) hT hx hy C (by rw [aa];rfl) (λu hu=>by rw [Gj] at hu;subst hu;rfl) (by rw [hl];simp;omega) ?_ M
 have h:=dh7 xs i.toNat n (by omega)
 rw [show 0+i.toNat*1=i.toNat by omega]
 exact h
end
end Go.Sl
namespace Go.Sl
open Go.Proofs
abbrev Aa:= @Sub.cons
abbrev Ab:= @Tryz.underlying22
abbrev Ac:= @Eff.call
abbrev Ad:= @j0.move
abbrev Af:= @Fit.m
abbrev Ah:= @Eff.alloc
abbrev Ai:= @j0.fieldAddr
abbrev Aj:= @W.sr
abbrev Ak:= @V.ret1
abbrev Al:= @V.then
abbrev Am:= @W.ite
abbrev Ao:= @V.ca6
abbrev Ap:= @V.ay9
abbrev Aq:= @G.nt
abbrev Ar:= @Fit.sub
abbrev As:= @Tryz.underlying28
abbrev Au:= @G.split
abbrev Av:= @j0.extract
abbrev Aw:= @Tryz.underlying109
abbrev Ax:= @W.seq
abbrev Ay:= @Eff.box
abbrev Az:= @V.ct3
abbrev A0:= @W.sub
abbrev A1:= @W.region
abbrev A2:= @j0.idx
abbrev A3:= @W.block
abbrev A4:= @W.skip
abbrev A5:= @V.cg5
abbrev A6:= @Sl.o
abbrev A7:= @Tryz.underlying3
abbrev A8:= @W.drawn
abbrev A9:= @Sub.nil
abbrev Ba:= @gv7
abbrev Bb:= @Fit.gr9
abbrev Bc:= @Sl.f
abbrev Bd:= @j0.ld
abbrev Be:= @Tryz.underlying33
abbrev Bf:= @V.cg4
abbrev Bg:= @j0.gi2
abbrev Bh:= @V.nx
abbrev Bi:= @Fit.s
abbrev Bj:= @j0.lens
abbrev Bk:= @Tryz.underlying58
abbrev Bl:= @G.nil
abbrev Bm:= @er.pull
abbrev Bo:= @j0.assign
abbrev Bp:= @j0.lss
abbrev Bq:= @W.ret
abbrev Br:= @j0.gi1
abbrev Bs:= @Sl.fit
abbrev Bt:= @Eff.bs
abbrev Bu:= @V.mi
abbrev Bv:= @Eff.app
abbrev Bw:= @j0.nilCheck
abbrev Bz:= @Fit.trans
abbrev B0:= @Tryz.underlying64
abbrev B1:= @j0.build
abbrev B2:= @Tryz.underlying46
abbrev B3:= @at_mem
abbrev B4:= @W.loop
abbrev B5:= @V.ret2
abbrev B6:= @W.exit
abbrev B7:= @j0.eql
abbrev B8:= @j0.get
abbrev B9:= @p8.on
abbrev Ca:= @Eff.make
abbrev Cb:= @P6.fit
abbrev Cc:= @j0.gj6
abbrev Cd:= @j0.gx2
abbrev Ce:= @Tryz.underlying175
abbrev Cf:= @A.hold
abbrev Cg:= @D.step
abbrev Ch:= @j0.lds
abbrev Ci:= @p8.plain
abbrev Cj:= @M5
abbrev Ck:= @Tryz.underlying337
abbrev Cl:= @j0.gtr
abbrev Cm:= @er.fit
abbrev Cn:= @W7
abbrev Co:= @fi7
abbrev Cp:= @Tryz.underlying65
abbrev Cq:= @Tryz.underlying35
abbrev Cr:= @Eff.set
abbrev Cs:= @Tryz.underlying181
abbrev Ct:= @Tryz.underlying4
abbrev Cu:= @j0.neq
abbrev Cv:= @V.retc
abbrev Cw:= @D.split
abbrev Cx:= @Tryz.underlying79
abbrev Cy:= @dp2
abbrev Cz:= @s4
abbrev C0:= @Eff.gu3
abbrev C1:= @A.ho
abbrev C2:= @Tryz.underlying264
abbrev C3:= @j0.gw9
abbrev C4:= @j0.gu5
abbrev C5:= @N6
abbrev C6:= @j0.gu2
abbrev C7:= @V.gr6
abbrev C8:= @Tryz.underlying44
abbrev C9:= @Tryz.underlying42
abbrev Da:= @fi6
abbrev Db:= @am0
abbrev Dc:= @Tryz.underlying111
abbrev De:= @D.stop
abbrev Df:= @A.done
abbrev Dg:= @all_succ
abbrev Dh:= @j0.neqT
abbrev Di:= @Fit.refl
abbrev Dj:= @X8.fit
abbrev Dk:= @all2
abbrev Dl:= @W.lq
abbrev Dn:= @Fit.H8
abbrev Do:= @gj0
abbrev Dp:= @gv5
abbrev Dq:= @R1
abbrev Ds:= @Tryz.underlying228
abbrev Dt:= @j0.gj1
abbrev Du:= @gx6
abbrev Dv:= @Q2
abbrev D0:= @G.eff
abbrev D1:= @bm8
abbrev D2:= @W.cut
abbrev D3:= @Tryz.underlying211
abbrev D4:= @j0.fld
abbrev D5:= @gv8
abbrev D6:= @Sl.drop
abbrev D7:= @X8.of
abbrev D8:= @W.cond
abbrev D9:= @j0.gs9
abbrev Ea:= @er.at
abbrev Eb:= @Tryz.underlying277
abbrev Ec:= @Tryz.underlying132
abbrev Ed:= @Sl.vec
abbrev Ee:= @dt9
abbrev Ef:= @j0.gr4
abbrev Eg:= @j0.mul
abbrev Eh:= @aj8
abbrev Ei:= @j0.makeFunc
abbrev Ej:= @gv4
abbrev Ek:= @Tryz.underlying339
abbrev El:= @Tryz.underlying301
abbrev Em:= @Tryz.underlying135
abbrev En:= @j0.lo
abbrev Eo:= @j0.geq
abbrev Ep:= @dd4
abbrev Eq:= @j0.gs0
abbrev Er:= @j0.fn7
abbrev Es:= @GY.read
abbrev Et:= @all_zero
abbrev Eu:= @V.br6
abbrev Ew:= @j0.gb9
abbrev Ex:= @be5
abbrev Ey:= @j0.or1U
abbrev Ez:= @j0.mulU
abbrev E0:= @j0.addU
abbrev E1:= @fu2
abbrev E2:= @j0.neg
abbrev E3:= @j0.neB
abbrev E4:= @j0.leq
abbrev E5:= @j0.gj9
abbrev E6:= @bh1
abbrev E7:= @Tryz.underlying57
abbrev E8:= @Tryz.underlying48
abbrev E9:= @Tryz.func81
abbrev Fa:= @gv3
abbrev Fb:= @gm2
abbrev Fc:= @fu9
abbrev Fd:= @T0
abbrev Fe:= @Tryz.underlying5
abbrev Ff:= @Sl.gt7
abbrev Fg:= @j0.shrB
abbrev Fh:= @j0.orB
abbrev Fi:= @j0.gw7
abbrev Fj:= @j0.neqb
abbrev Fk:= @j0.lowU
abbrev Fl:= @j0.gx3
abbrev Fm:= @j0.eqlT
abbrev Fo:= @G.fit
abbrev Fp:= @gv6
abbrev Fq:= @ay1
abbrev Fs:= @j0.gt0
abbrev Ft:= @A.read
theorem kr{p:Prop}(h:p:=by kernel_rfl):p:=h
theorem dc{p:Prop}(h:p:=by decide):p:=h
theorem lcn{p:Prop}(h:p:=by simp only [Fu,F_];omega):p:=h
theorem asm{p:Prop}(h:p:=by assumption):p:=h
theorem lat{p:Prop}(h:p:=by first|omega|(simp only [A_,Fx,Ge,Fw]<;>omega)):p:=h
theorem lap{p:Prop}(h:p:=by simp only [A_,Fu,F_];omega):p:=h
theorem olp{p:Prop}(h:p:=by first|omega|(simp only [A_,Fu,F_];omega)):p:=h
theorem olr{p:Prop}(h:p:=by first|omega|(simp only [Fw];omega)):p:=h
end Go.Sl
namespace Go.Sl
open Go.Proofs
theorem ty2:tyF prog 2=some (1,false,8,[e7 (0)]):=by kernel_rfl
theorem ef:tyF prog 3=some (1,false,8,[e7 (0)]):=by kernel_rfl
theorem ty4:tyF prog 4=some (1,false,1,[.bool false]):=by kernel_rfl
theorem ty5:tyF prog 5=some (1,false,1,[.int .u8 (0)]):=by kernel_rfl
theorem ab3:tyF prog 22=some (1,false,24,[.slice none 0 0]):=by kernel_rfl
theorem fw1:tyF prog 28=some (1,false,24,[.slice none 0 0]):=by kernel_rfl
theorem ah8:tyF prog 31=some (3,true,24,[e7 (0),e7 (0),e7 (0)]):=by kernel_rfl
theorem ac5:Q4 prog 31 0=some 0:=by kernel_rfl
theorem bw4:Q4 prog 31 1=some 1:=by kernel_rfl
theorem gw6(w:World):(F8 prog 31).run prog w = .ok #[(0,1),(1,1),(2,1)] w:=by kernel_rfl
theorem gp3:tyF prog 33=some (1,false,24,[.slice none 0 0]):=by kernel_rfl
theorem P0:tyF prog 40=some (2,true,16,[e7 (0),e7 (0)]):=by kernel_rfl
theorem dv6:Q4 prog 40 0=some 0:=by kernel_rfl
theorem bw2:Q4 prog 40 1=some 1:=by kernel_rfl
theorem gw5(w:World):(F8 prog 40).run prog w = .ok #[(0,1),(1,1)] w:=by kernel_rfl
theorem P1:tyF prog 42=some (6,true,64,[e7 (0),e7 (0),e7 (0),.slice none 0 0,e7 (0),e7 (0)]):=by kernel_rfl
theorem dv5:Q4 prog 42 0=some 0:=by kernel_rfl
theorem dv4:Q4 prog 42 1=some 1:=by kernel_rfl
theorem aw7:Q4 prog 42 2=some 2:=by kernel_rfl
theorem bw1:Q4 prog 42 3=some 3:=by kernel_rfl
theorem cp3:Q4 prog 42 4=some 4:=by kernel_rfl
theorem gq2(w:World):(F8 prog 42).run prog w = .ok #[(0,1),(1,1),(2,1),(3,1),(4,2)] w:=by kernel_rfl
theorem bt6:tyF prog 44=some (3,true,24,[e7 (0),e7 (0),.bool false]):=by kernel_rfl
theorem cp2:Q4 prog 44 0=some 0:=by kernel_rfl
theorem Z4:Q4 prog 44 1=some 1:=by kernel_rfl
theorem aq3:Q4 prog 44 2=some 2:=by kernel_rfl
theorem ge3(w:World):(F8 prog 44).run prog w = .ok #[(0,1),(1,1),(2,1)] w:=by kernel_rfl
theorem bm1:tyF prog 46=some (1,false,24,[.slice none 0 0]):=by kernel_rfl
theorem H2:tyF prog 48=some (2,true,32,[e7 (0),.slice none 0 0]):=by kernel_rfl
theorem T2:Q4 prog 48 0=some 0:=by kernel_rfl
theorem Z3:Q4 prog 48 1=some 1:=by kernel_rfl
theorem gq1(w:World):(F8 prog 48).run prog w = .ok #[(0,1),(1,1)] w:=by kernel_rfl
theorem ar6:tyF prog 64=some (2,true,16,[e7 (0),e7 (0)]):=by kernel_rfl
theorem gq9:tyF prog 65=some (1,false,24,[.slice none 0 0]):=by kernel_rfl
theorem ge2:tyF prog 79=some (1,false,24,[.slice none 0 0]):=by kernel_rfl
theorem ah4:tyF prog 102=some (5,true,72,[.slice none 0 0,e7 (0),e7 (0),e7 (0),.slice none 0 0]):=by kernel_rfl
theorem gi0(w:World):(F8 prog 102).run prog w = .ok #[(0,1),(1,2),(3,2)] w:=by kernel_rfl
theorem j7:tyF prog 108=some (7,true,56,[e7 (0),e7 (0),e7 (0),e7 (0),e7 (0),e7 (0),e7 (0)]):=by kernel_rfl
theorem an0:Q4 prog 108 0=some 0:=by kernel_rfl
theorem K0:Q4 prog 108 1=some 1:=by kernel_rfl
theorem X7:Q4 prog 108 2=some 2:=by kernel_rfl
theorem L9:Q4 prog 108 3=some 3:=by kernel_rfl
theorem cy7:Q4 prog 108 4=some 4:=by kernel_rfl
theorem bx1:Q4 prog 108 5=some 5:=by kernel_rfl
theorem bx0:Q4 prog 108 6=some 6:=by kernel_rfl
theorem gh9(w:World):(F8 prog 108).run prog w = .ok #[(0,1),(1,1),(2,1),(3,1),(4,1),(5,1),(6,1)] w:=by kernel_rfl
theorem R7:tyF prog 109=some (1,false,24,[.slice none 0 0]):=by kernel_rfl
theorem s5:tyF prog 111=some (2,true,32,[e7 (0),.slice none 0 0]):=by kernel_rfl
theorem ag2:Q4 prog 111 0=some 0:=by kernel_rfl
theorem H0:Q4 prog 111 1=some 1:=by kernel_rfl
theorem bu9(w:World):(F8 prog 111).run prog w = .ok #[(0,1),(1,1)] w:=by kernel_rfl
end Go.Sl
namespace Go.Sl
open Go.Proofs
theorem T9:tyF prog 132=some (5,true,16,[.bool false,.bool false,.bool false,.bool false,.nilFunc]):=by kernel_rfl
theorem dd9(w:World):(F8 prog 132).run prog w = .ok #[(0,1),(1,1),(2,1),(3,1),(4,1)] w:=by kernel_rfl
theorem H3:tyF prog 135=some (2,true,16,[e7 (0),e7 (0)]):=by kernel_rfl
theorem bb5:Q4 prog 135 0=some 0:=by kernel_rfl
theorem bb4:Q4 prog 135 1=some 1:=by kernel_rfl
theorem gh8(w:World):(F8 prog 135).run prog w = .ok #[(0,1),(1,1)] w:=by kernel_rfl
theorem p7:tyF prog 146=some (6,true,48,[e7 (0),e7 (0),e7 (0),e7 (0),e7 (0),e7 (0)]):=by kernel_rfl
theorem at6:Q4 prog 146 0=some 0:=by kernel_rfl
theorem T4:Q4 prog 146 1=some 1:=by kernel_rfl
theorem cy6:Q4 prog 146 2=some 2:=by kernel_rfl
theorem cy5:Q4 prog 146 3=some 3:=by kernel_rfl
theorem cy4:Q4 prog 146 4=some 4:=by kernel_rfl
theorem am9:Q4 prog 146 5=some 5:=by kernel_rfl
theorem gh7(w:World):(F8 prog 146).run prog w = .ok #[(0,1),(1,1),(2,1),(3,1),(4,1),(5,1)] w:=by kernel_rfl
theorem az4:tyF prog 153=some (2,true,16,[e7 (0),.bool false]):=by kernel_rfl
theorem bw9:Q4 prog 153 0=some 0:=by kernel_rfl
theorem cy3:Q4 prog 153 1=some 1:=by kernel_rfl
theorem fx8(w:World):(F8 prog 153).run prog w = .ok #[(0,1),(1,1)] w:=by kernel_rfl
theorem J8:tyF prog 175=some (1,false,8,[.int .u64 (0)]):=by kernel_rfl
theorem j4:tyF prog 177=some (2,true,16,[.int .u64 (0),.int .u64 (0)]):=by kernel_rfl
theorem X6:Q4 prog 177 1=some 1:=by kernel_rfl
theorem ai2:tyF prog 208=some (2,true,32,[.int .u64 (0),.slice none 0 0]):=by kernel_rfl
theorem bw8:Q4 prog 208 0=some 0:=by kernel_rfl
theorem bw7:Q4 prog 208 1=some 1:=by kernel_rfl
theorem gh6(w:World):(F8 prog 208).run prog w = .ok #[(0,1),(1,1)] w:=by kernel_rfl
theorem Y3:tyF prog 211=some (6,true,112,[.slice none 0 0,.slice none 0 0,.slice none 0 0,.slice none 0 0,.int .u64 (0),.int .u64 (0)]):=by kernel_rfl
theorem at5:Q4 prog 211 0=some 0:=by kernel_rfl
theorem at4:Q4 prog 211 1=some 1:=by kernel_rfl
theorem cy2:Q4 prog 211 2=some 2:=by kernel_rfl
theorem ag1:Q4 prog 211 3=some 3:=by kernel_rfl
theorem bw6:Q4 prog 211 4=some 4:=by kernel_rfl
theorem at3:Q4 prog 211 5=some 5:=by kernel_rfl
theorem cn4(w:World):(F8 prog 211).run prog w = .ok #[(0,1),(1,1),(2,1),(3,1),(4,1),(5,1)] w:=by kernel_rfl
theorem gf4:tyF prog 241=some (3,true,56,[e7 (0),.slice none 0 0,.slice none 0 0]):=by kernel_rfl
theorem bb3:Q4 prog 241 0=some 0:=by kernel_rfl
theorem at2:Q4 prog 241 1=some 2:=by kernel_rfl
theorem gh5(w:World):(F8 prog 241).run prog w = .ok #[(0,2),(2,1)] w:=by kernel_rfl
theorem gf3:tyF prog 264=some (64,true,512,[.int .u64 (0),.int .u64 (0),.int .u64 (0),.int .u64 (0),.int .u64 (0),.int .u64 (0),.int .u64 (0),.int .u64 (0),.int .u64 (0),.int .u64 (0),.int .u64 (0),.int .u64 (0),.int .u64 (0),.int .u64 (0),.int .u64 (0),.int .u64 (0),.int .u64 (0),.int .u64 (0),.int .u64 (0),.int .u64 (0),.int .u64 (0),.int .u64 (0),.int .u64 (0),.int .u64 (0),.int .u64 (0),.int .u64 (0),.int .u64 (0),.int .u64 (0),.int .u64 (0),.int .u64 (0),.int .u64 (0),.int .u64 (0),.int .u64 (0),.int .u64 (0),.int .u64 (0),.int .u64 (0),.int .u64 (0),.int .u64 (0),.int .u64 (0),.int .u64 (0),.int .u64 (0),.int .u64 (0),.int .u64 (0),.int .u64 (0),.int .u64 (0),.int .u64 (0),.int .u64 (0),.int .u64 (0),.int .u64 (0),.int .u64 (0),.int .u64 (0),.int .u64 (0),.int .u64 (0),.int .u64 (0),.int .u64 (0),.int .u64 (0),.int .u64 (0),.int .u64 (0),.int .u64 (0),.int .u64 (0),.int .u64 (0),.int .u64 (0),.int .u64 (0),.int .u64 (0)]):=by kernel_rfl
end Go.Sl
namespace Go.Sl
open Go.Proofs
theorem fw0:tyF prog 301=some (1,false,24,[.slice none 0 0]):=by kernel_rfl
theorem dc6:tyF prog 303=some (4,true,48,[e7 (0),e7 (0),e7 (0),.slice none 0 0]):=by kernel_rfl
theorem cy1:Q4 prog 303 2=some 2:=by kernel_rfl
theorem bw5:Q4 prog 303 3=some 3:=by kernel_rfl
theorem gh4(w:World):(F8 prog 303).run prog w = .ok #[(0,1),(1,1),(2,1),(3,1)] w:=by kernel_rfl
theorem bt7:tyF prog 305=some (3,true,24,[e7 (0),e7 (0),e7 (0)]):=by kernel_rfl
theorem ag0:Q4 prog 305 1=some 1:=by kernel_rfl
theorem cy0:Q4 prog 305 2=some 2:=by kernel_rfl
theorem ae6:tyF prog 336=some (4,true,32,[e7 (0),e7 (0),e7 (0),e7 (0)]):=by kernel_rfl
theorem af9:Q4 prog 336 0=some 0:=by kernel_rfl
theorem T3:Q4 prog 336 1=some 3:=by kernel_rfl
theorem bm2:tyF prog 337=some (1,false,24,[.slice none 0 0]):=by kernel_rfl
theorem do2:tyF prog 339=some (5,true,104,[.slice none 0 0,.slice none 0 0,.slice none 0 0,.slice none 0 0,e7 (0)]):=by kernel_rfl
theorem X5:Q4 prog 339 0=some 0:=by kernel_rfl
theorem am8:Q4 prog 339 1=some 1:=by kernel_rfl
theorem V4:Q4 prog 339 2=some 2:=by kernel_rfl
theorem at1:Q4 prog 339 3=some 3:=by kernel_rfl
theorem bw3:Q4 prog 339 4=some 4:=by kernel_rfl
theorem dq4(w:World):(F8 prog 339).run prog w = .ok #[(0,1),(1,1),(2,1),(3,1),(4,1)] w:=by kernel_rfl
theorem c_{f:Nat}(h:T8 prog f=true:=by kernel_rfl):T8 prog f=true:=h
end Go.Sl
namespace Go.Sl
open Go.Proofs
theorem mixed:prog.follows .mixedOrders=true:=by kernel_rfl
end Go.Sl
namespace Go.Sl
open Go.Proofs
instance:bn0 prog 22 3:=⟨Ab⟩
instance:bn0 prog 28 108:=⟨As⟩
instance:ah2 prog 31:=⟨⟨_,Tryz.underlying31⟩⟩
instance:bn0 prog 33 42:=⟨Be⟩
instance:bn0 prog 35 44:=⟨Cq⟩
instance:ah2 prog 40:=⟨⟨_,Tryz.underlying40⟩⟩
instance:ah2 prog 42:=⟨⟨_,C9⟩⟩
instance:ah2 prog 44:=⟨⟨_,C8⟩⟩
instance:bn0 prog 46 135:=⟨B2⟩
instance:ah2 prog 48:=⟨⟨_,E8⟩⟩
instance:bn0 prog 57 33:=⟨E7⟩
instance:bn0 prog 58 4:=⟨Bk⟩
instance:bn0 prog 65 64:=⟨Cp⟩
instance:bn0 prog 76 40:=⟨Tryz.underlying76⟩
instance:bn0 prog 79 22:=⟨Cx⟩
instance:bn0 prog 81 117:=⟨Tryz.underlying81⟩
instance:ah2 prog 88:=⟨⟨_,Tryz.underlying88⟩⟩
instance:ah2 prog 102:=⟨⟨_,Tryz.underlying102⟩⟩
instance:ah2 prog 108:=⟨⟨_,Tryz.underlying108⟩⟩
instance:bn0 prog 109 146:=⟨Aw⟩
instance:ah2 prog 111:=⟨⟨_,Dc⟩⟩
instance:ah2 prog 125:=⟨⟨_,Tryz.underlying125⟩⟩
instance:ah2 prog 132:=⟨⟨_,Ec⟩⟩
instance:ah2 prog 135:=⟨⟨_,Em⟩⟩
instance:ah2 prog 146:=⟨⟨_,Tryz.underlying146⟩⟩
instance:ah2 prog 153:=⟨⟨_,Tryz.underlying153⟩⟩
instance:ah2 prog 177:=⟨⟨_,Tryz.underlying177⟩⟩
instance:ah2 prog 208:=⟨⟨_,Tryz.underlying208⟩⟩
instance:ah2 prog 211:=⟨⟨_,D3⟩⟩
instance:bn0 prog 228 175:=⟨Ds⟩
instance:ah2 prog 241:=⟨⟨_,Tryz.underlying241⟩⟩
instance:bn0 prog 297 65:=⟨Tryz.underlying297⟩
instance:bn0 prog 301 305:=⟨El⟩
instance:ah2 prog 303:=⟨⟨_,Tryz.underlying303⟩⟩
instance:ah2 prog 305:=⟨⟨_,Tryz.underlying305⟩⟩
instance:ah2 prog 336:=⟨⟨_,Tryz.underlying336⟩⟩
instance:bn0 prog 337 336:=⟨Ck⟩
instance:ah2 prog 339:=⟨⟨_,Ek⟩⟩
instance:TyI prog 2 (1,false,8,[e7 (0)]):=⟨ty2⟩
instance:TyI prog 3 (1,false,8,[e7 (0)]):=⟨ef⟩
instance:TyI prog 4 (1,false,1,[.bool false]):=⟨ty4⟩
instance:TyI prog 5 (1,false,1,[.int .u8 (0)]):=⟨ty5⟩
instance:TyI prog 22 (1,false,24,[.slice none 0 0]):=⟨ab3⟩
instance:TyI prog 28 (1,false,24,[.slice none 0 0]):=⟨fw1⟩
instance:TyI prog 31 (3,true,24,[e7 (0),e7 (0),e7 (0)]):=⟨ah8⟩
instance:N4 prog 31 0 0:=⟨ac5⟩
instance:N4 prog 31 1 1:=⟨bw4⟩
instance:N4 prog 31 2 2:=⟨by kernel_rfl⟩
instance:PlI prog 31 #[(0,1),(1,1),(2,1)]:=⟨gw6⟩
instance:TyI prog 33 (1,false,24,[.slice none 0 0]):=⟨gp3⟩
instance:TyI prog 40 (2,true,16,[e7 (0),e7 (0)]):=⟨P0⟩
instance:N4 prog 40 0 0:=⟨dv6⟩
instance:N4 prog 40 1 1:=⟨bw2⟩
instance:PlI prog 40 #[(0,1),(1,1)]:=⟨gw5⟩
instance:TyI prog 42 (6,true,64,[e7 (0),e7 (0),e7 (0),.slice none 0 0,e7 (0),e7 (0)]):=⟨P1⟩
instance:N4 prog 42 0 0:=⟨dv5⟩
instance:N4 prog 42 1 1:=⟨dv4⟩
instance:N4 prog 42 2 2:=⟨aw7⟩
instance:N4 prog 42 3 3:=⟨bw1⟩
instance:N4 prog 42 4 4:=⟨cp3⟩
instance:PlI prog 42 #[(0,1),(1,1),(2,1),(3,1),(4,2)]:=⟨gq2⟩
instance:TyI prog 44 (3,true,24,[e7 (0),e7 (0),.bool false]):=⟨bt6⟩
instance:N4 prog 44 0 0:=⟨cp2⟩
instance:N4 prog 44 1 1:=⟨Z4⟩
instance:N4 prog 44 2 2:=⟨aq3⟩
instance:PlI prog 44 #[(0,1),(1,1),(2,1)]:=⟨ge3⟩
instance:TyI prog 46 (1,false,24,[.slice none 0 0]):=⟨bm1⟩
instance:TyI prog 48 (2,true,32,[e7 (0),.slice none 0 0]):=⟨H2⟩
instance:N4 prog 48 0 0:=⟨T2⟩
instance:N4 prog 48 1 1:=⟨Z3⟩
instance:PlI prog 48 #[(0,1),(1,1)]:=⟨gq1⟩
instance:TyI prog 64 (2,true,16,[e7 (0),e7 (0)]):=⟨ar6⟩
instance:TyI prog 65 (1,false,24,[.slice none 0 0]):=⟨gq9⟩
instance:TyI prog 79 (1,false,24,[.slice none 0 0]):=⟨ge2⟩
instance:TyI prog 88 (2,true,32,[e7 (0),.slice none 0 0]):=⟨by kernel_rfl⟩
instance:PlI prog 88 #[(0,1),(1,1)]:=⟨λ_=>by kernel_rfl⟩
instance:TyI prog 102 (5,true,72,[.slice none 0 0,e7 (0),e7 (0),e7 (0),.slice none 0 0]):=⟨ah4⟩
instance:N4 prog 102 1 1:=⟨by kernel_rfl⟩
instance:PlI prog 102 #[(0,1),(1,2),(3,2)]:=⟨gi0⟩
instance:TyI prog 108 (7,true,56,[e7 (0),e7 (0),e7 (0),e7 (0),e7 (0),e7 (0),e7 (0)]):=⟨j7⟩
instance:N4 prog 108 0 0:=⟨an0⟩
instance:N4 prog 108 1 1:=⟨K0⟩
instance:N4 prog 108 2 2:=⟨X7⟩
instance:N4 prog 108 3 3:=⟨L9⟩
instance:N4 prog 108 4 4:=⟨cy7⟩
instance:N4 prog 108 5 5:=⟨bx1⟩
instance:N4 prog 108 6 6:=⟨bx0⟩
instance:PlI prog 108 #[(0,1),(1,1),(2,1),(3,1),(4,1),(5,1),(6,1)]:=⟨gh9⟩
instance:TyI prog 109 (1,false,24,[.slice none 0 0]):=⟨R7⟩
instance:TyI prog 111 (2,true,32,[e7 (0),.slice none 0 0]):=⟨s5⟩
instance:N4 prog 111 0 0:=⟨ag2⟩
instance:N4 prog 111 1 1:=⟨H0⟩
instance:PlI prog 111 #[(0,1),(1,1)]:=⟨bu9⟩
instance:TyI prog 125 (2,true,32,[.slice none 0 0,e7 (0)]):=⟨by kernel_rfl⟩
instance:N4 prog 125 0 0:=⟨by kernel_rfl⟩
instance:N4 prog 125 1 1:=⟨by kernel_rfl⟩
instance:PlI prog 125 #[(0,1),(1,1)]:=⟨λ_=>by kernel_rfl⟩
instance:TyI prog 130 (1,false,8,[.nilFunc]):=⟨by kernel_rfl⟩
instance:TyI prog 132 (5,true,16,[.bool false,.bool false,.bool false,.bool false,.nilFunc]):=⟨T9⟩
instance:N4 prog 132 0 0:=⟨by kernel_rfl⟩
instance:N4 prog 132 1 1:=⟨by kernel_rfl⟩
instance:N4 prog 132 2 2:=⟨by kernel_rfl⟩
instance:N4 prog 132 3 3:=⟨by kernel_rfl⟩
instance:N4 prog 132 4 4:=⟨by kernel_rfl⟩
instance:PlI prog 132 #[(0,1),(1,1),(2,1),(3,1),(4,1)]:=⟨dd9⟩
instance:TyI prog 135 (2,true,16,[e7 (0),e7 (0)]):=⟨H3⟩
instance:N4 prog 135 0 0:=⟨bb5⟩
instance:N4 prog 135 1 1:=⟨bb4⟩
instance:PlI prog 135 #[(0,1),(1,1)]:=⟨gh8⟩
instance:TyI prog 146 (6,true,48,[e7 (0),e7 (0),e7 (0),e7 (0),e7 (0),e7 (0)]):=⟨p7⟩
instance:N4 prog 146 0 0:=⟨at6⟩
instance:N4 prog 146 1 1:=⟨T4⟩
instance:N4 prog 146 2 2:=⟨cy6⟩
instance:N4 prog 146 3 3:=⟨cy5⟩
instance:N4 prog 146 4 4:=⟨cy4⟩
instance:N4 prog 146 5 5:=⟨am9⟩
instance:PlI prog 146 #[(0,1),(1,1),(2,1),(3,1),(4,1),(5,1)]:=⟨gh7⟩
instance:TyI prog 153 (2,true,16,[e7 (0),.bool false]):=⟨az4⟩
instance:N4 prog 153 0 0:=⟨bw9⟩
instance:N4 prog 153 1 1:=⟨cy3⟩
instance:PlI prog 153 #[(0,1),(1,1)]:=⟨fx8⟩
instance:TyI prog 175 (1,false,8,[.int .u64 (0)]):=⟨J8⟩
instance:TyI prog 177 (2,true,16,[.int .u64 (0),.int .u64 (0)]):=⟨j4⟩
instance:N4 prog 177 0 0:=⟨by kernel_rfl⟩
instance:N4 prog 177 1 1:=⟨X6⟩
instance:PlI prog 177 #[(0,1),(1,1)]:=⟨λ_=>by kernel_rfl⟩
instance:TyI prog 208 (2,true,32,[.int .u64 (0),.slice none 0 0]):=⟨ai2⟩
instance:N4 prog 208 0 0:=⟨bw8⟩
instance:N4 prog 208 1 1:=⟨bw7⟩
instance:PlI prog 208 #[(0,1),(1,1)]:=⟨gh6⟩
instance:TyI prog 211 (6,true,112,[.slice none 0 0,.slice none 0 0,.slice none 0 0,.slice none 0 0,.int .u64 (0),.int .u64 (0)]):=⟨Y3⟩
instance:N4 prog 211 0 0:=⟨at5⟩
instance:N4 prog 211 1 1:=⟨at4⟩
instance:N4 prog 211 2 2:=⟨cy2⟩
instance:N4 prog 211 3 3:=⟨ag1⟩
instance:N4 prog 211 4 4:=⟨bw6⟩
instance:N4 prog 211 5 5:=⟨at3⟩
instance:PlI prog 211 #[(0,1),(1,1),(2,1),(3,1),(4,1),(5,1)]:=⟨cn4⟩
instance:TyI prog 241 (3,true,56,[e7 (0),.slice none 0 0,.slice none 0 0]):=⟨gf4⟩
instance:N4 prog 241 0 0:=⟨bb3⟩
instance:N4 prog 241 1 2:=⟨at2⟩
instance:PlI prog 241 #[(0,2),(2,1)]:=⟨gh5⟩
instance:TyI prog 264 (64,true,512,[.int .u64 (0),.int .u64 (0),.int .u64 (0),.int .u64 (0),.int .u64 (0),.int .u64 (0),.int .u64 (0),.int .u64 (0),.int .u64 (0),.int .u64 (0),.int .u64 (0),.int .u64 (0),.int .u64 (0),.int .u64 (0),.int .u64 (0),.int .u64 (0),.int .u64 (0),.int .u64 (0),.int .u64 (0),.int .u64 (0),.int .u64 (0),.int .u64 (0),.int .u64 (0),.int .u64 (0),.int .u64 (0),.int .u64 (0),.int .u64 (0),.int .u64 (0),.int .u64 (0),.int .u64 (0),.int .u64 (0),.int .u64 (0),.int .u64 (0),.int .u64 (0),.int .u64 (0),.int .u64 (0),.int .u64 (0),.int .u64 (0),.int .u64 (0),.int .u64 (0),.int .u64 (0),.int .u64 (0),.int .u64 (0),.int .u64 (0),.int .u64 (0),.int .u64 (0),.int .u64 (0),.int .u64 (0),.int .u64 (0),.int .u64 (0),.int .u64 (0),.int .u64 (0),.int .u64 (0),.int .u64 (0),.int .u64 (0),.int .u64 (0),.int .u64 (0),.int .u64 (0),.int .u64 (0),.int .u64 (0),.int .u64 (0),.int .u64 (0),.int .u64 (0),.int .u64 (0)]):=⟨gf3⟩
instance:TyI prog 301 (1,false,24,[.slice none 0 0]):=⟨fw0⟩
instance:TyI prog 303 (4,true,48,[e7 (0),e7 (0),e7 (0),.slice none 0 0]):=⟨dc6⟩
instance:N4 prog 303 0 0:=⟨by kernel_rfl⟩
instance:N4 prog 303 1 1:=⟨by kernel_rfl⟩
instance:N4 prog 303 2 2:=⟨cy1⟩
instance:N4 prog 303 3 3:=⟨bw5⟩
instance:PlI prog 303 #[(0,1),(1,1),(2,1),(3,1)]:=⟨gh4⟩
instance:TyI prog 305 (3,true,24,[e7 (0),e7 (0),e7 (0)]):=⟨bt7⟩
instance:N4 prog 305 0 0:=⟨by kernel_rfl⟩
instance:N4 prog 305 1 1:=⟨ag0⟩
instance:N4 prog 305 2 2:=⟨cy0⟩
instance:PlI prog 305 #[(0,1),(1,1),(2,1)]:=⟨λ_=>by kernel_rfl⟩
instance:TyI prog 336 (4,true,32,[e7 (0),e7 (0),e7 (0),e7 (0)]):=⟨ae6⟩
instance:N4 prog 336 0 0:=⟨af9⟩
instance:N4 prog 336 1 3:=⟨T3⟩
instance:PlI prog 336 #[(0,3),(3,1)]:=⟨λ_=>by kernel_rfl⟩
instance:TyI prog 337 (1,false,24,[.slice none 0 0]):=⟨bm2⟩
instance:TyI prog 339 (5,true,104,[.slice none 0 0,.slice none 0 0,.slice none 0 0,.slice none 0 0,e7 (0)]):=⟨do2⟩
instance:N4 prog 339 0 0:=⟨X5⟩
instance:N4 prog 339 1 1:=⟨am8⟩
instance:N4 prog 339 2 2:=⟨V4⟩
instance:N4 prog 339 3 3:=⟨at1⟩
instance:N4 prog 339 4 4:=⟨bw3⟩
instance:PlI prog 339 #[(0,1),(1,1),(2,1),(3,1),(4,1)]:=⟨dq4⟩
end Go.Sl
namespace Go.Proofs
def Tryz.do9:Go.Shelf.Ren:=⟨fun |5=>142|8=>218|7=>217|19=>269|20=>270|10=>260|11=>261|12=>262|13=>263|14=>264|15=>265|16=>266|17=>267|18=>268|30=>304|31=>305|32=>306|33=>307|34=>308|35=>277|40=>326|n=>n,fun |23=>22|25=>3|3=>3|32=>181|22=>22|0=>0|44=>291|46=>175|4=>4|36=>285|35=>284|41=>273|5=>5|9=>9|53=>320|57=>324|63=>346|64=>259|n=>n,fun |n=>n⟩
theorem Tryz.gr2:Go.Proofs.SlLaysM.n5 prog Tryz.do9:={
 mixed:=by kernel_rfl,
 f5:=⟨Tryz.f142.name,by decide,Tryz.func142.trans<|congrArg some<|by kernel_rfl⟩,
 f7:=⟨Tryz.f217.name,by decide,Tryz.func217.trans<|congrArg some<|by kernel_rfl⟩,
 f8:=Tryz.func218.trans (congrArg some<|by kernel_rfl),
 f10:=⟨Tryz.f260.name,by decide,Tryz.func260.trans<|congrArg some<|by kernel_rfl⟩,
 f11:=⟨Tryz.f261.name,by decide,Tryz.func261.trans<|congrArg some<|by kernel_rfl⟩,
 f12:=⟨Tryz.f262.name,by decide,Tryz.func262.trans<|congrArg some<|by kernel_rfl⟩,
 f13:=⟨Tryz.f263.name,by decide,Tryz.func263.trans<|congrArg some<|by kernel_rfl⟩,
 f14:=⟨Tryz.f264.name,by decide,Tryz.func264.trans<|congrArg some<|by kernel_rfl⟩,
 f15:=⟨Tryz.f265.name,by decide,Tryz.func265.trans<|congrArg some<|by kernel_rfl⟩,
 f16:=⟨Tryz.f266.name,by decide,Tryz.func266.trans<|congrArg some<|by kernel_rfl⟩,
 f17:=⟨Tryz.f267.name,by decide,Tryz.func267.trans<|congrArg some<|by kernel_rfl⟩,
 f18:=⟨Tryz.f268.name,by decide,Tryz.func268.trans<|congrArg some<|by kernel_rfl⟩,
 f19:=Tryz.func269.trans (congrArg some<|by kernel_rfl),
 f20:=Tryz.func270.trans (congrArg some<|by kernel_rfl),
 f30:=⟨Tryz.f304.name,by decide,Tryz.func304.trans<|congrArg some<|by kernel_rfl⟩,
 f31:=Tryz.func305.trans (congrArg some<|by kernel_rfl),
 f32:=Tryz.func306.trans (congrArg some<|by kernel_rfl),
 f33:=⟨Tryz.f307.name,by decide,Tryz.func307.trans<|congrArg some<|by kernel_rfl⟩,
 f34:=⟨Tryz.f308.name,by decide,Tryz.func308.trans<|congrArg some<|by kernel_rfl⟩,
 f35:=⟨Tryz.f277.name,by decide,Tryz.func277.trans<|congrArg some<|by kernel_rfl⟩,
 f40:=⟨Tryz.f326.name,by decide,Tryz.func326.trans<|congrArg some<|by kernel_rfl⟩,
 t0:=Tryz.underlying0,
 a0:=Tryz.isAgg0,
 z0:=Tryz.sizeOf0,
 v0:=Tryz.zeroValue0,
 t3:=Tryz.underlying3,
 a3:=Tryz.isAgg3,
 z3:=Tryz.sizeOf3,
 v3:=Tryz.zeroValue3,
 t4:=Tryz.underlying4,
 a4:=Tryz.isAgg4,
 z4:=Tryz.sizeOf4,
 v4:=Tryz.zeroValue4,
 t5:=Tryz.underlying5,
 a5:=Tryz.isAgg5,
 z5:=Tryz.sizeOf5,
 v5:=Tryz.zeroValue5,
 t9:=Tryz.underlying9,
 a9:=Tryz.isAgg9,
 z9:=Tryz.sizeOf9,
 v9:=Tryz.zeroValue9,
 t22:=Tryz.underlying22,
 a22:=Tryz.isAgg22,
 z22:=Tryz.sizeOf22,
 v22:=Tryz.zeroValue22,
 t23:=Tryz.underlying22,
 a23:=Tryz.isAgg22,
 z23:=Tryz.sizeOf22,
 v23:=Tryz.zeroValue22,
 t25:=Tryz.underlying3,
 a25:=Tryz.isAgg3,
 z25:=Tryz.sizeOf3,
 v25:=Tryz.zeroValue3,
 t32:=Tryz.underlying181,
 a32:=Tryz.isAgg181,
 z32:=Tryz.sizeOf181,
 v32:=Tryz.zeroValue181,
 t35:=Tryz.underlying284,
 a35:=Tryz.isAgg284,
 z35:=Tryz.sizeOf284,
 v35:=Tryz.zeroValue284,
 t36:=Tryz.underlying285,
 a36:=Tryz.isAgg285,
 z36:=Tryz.sizeOf285,
 v36:=Tryz.zeroValue285,
 t41:=Tryz.underlying273,
 a41:=Tryz.isAgg273,
 z41:=Tryz.sizeOf273,
 v41:=Tryz.zeroValue273,
 t44:=Tryz.underlying291,
 a44:=Tryz.isAgg291,
 z44:=Tryz.sizeOf291,
 v44:=Tryz.zeroValue291,
 t46:=Tryz.underlying175,
 a46:=Tryz.isAgg175,
 z46:=Tryz.sizeOf175,
 v46:=Tryz.zeroValue175,
 t53:=Tryz.underlying320,
 a53:=Tryz.isAgg320,
 z53:=Tryz.sizeOf320,
 v53:=Tryz.zeroValue320,
 t57:=Tryz.underlying324,
 a57:=Tryz.isAgg324,
 z57:=Tryz.sizeOf324,
 v57:=Tryz.zeroValue324,
 t63:=Tryz.underlying346,
 a63:=Tryz.isAgg346,
 z63:=Tryz.sizeOf346,
 v63:=Tryz.zeroValue346,
 t64:=Tryz.underlying259,
 a64:=Tryz.isAgg259,
 z64:=Tryz.sizeOf259,
 v64:=Tryz.zeroValue259}
end Go.Proofs
namespace Go.Sl
variable{m q:Nat}{xs:List Int}
section
variable {α:Type}[Inhabited α][DecidableEq α]
def N9(xs:List α):Nat->List α
 |0=>[]
 |k+1=>if 0<k/\e_ xs k=e_ xs ((k:Int) - 1) then N9 xs k else N9 xs k++[e_ xs k]
theorem cg1(xs:List α):∀k,(N9 xs k).length<=k
 |0=>by simp [N9]
 |k+1=>by
  have:=cg1 xs k
  simp only [N9]
  split
  ·omega
  rw [A_];simp;omega
theorem ax1{xs:List α}{k:Nat}(h:∀j,j<k->0<j->e_ xs j≠e_ xs ((j:Int) - 1))(E:k<=xs.length):N9 xs k=xs.take k:=by
 induction k with
 |zero=>rfl
 |succ k ih=>
  simp only [N9]
  rw [An λe=>h k (by omega) e.1 e.2,ih (λj hj M=>h j (by omega) M)<|by omega,W7 xs k<|by omega]
theorem dh4{xs ys:List α}(h:ys.take m=N9 xs q)(h0:0<q)(M:¬e_ ys q≠e_ ys ((q:Int) - 1))(h1:e_ ys q=e_ xs q)(E:e_ ys ((q:Int) - 1)=e_ xs ((q:Int) - 1)):ys.take m=N9 xs (q+1):=by
 rw [h1,E] at M
 simp only [N9]
 rw [By ⟨h0,B_.1 M⟩,h]
theorem dy1{xs ys:List α}(h:ys.take m=N9 xs q)(hm:m<ys.length)(M:e_ ys q≠e_ ys ((q:Int) - 1))(E:e_ ys q=e_ xs q)(h2:e_ ys ((q:Int) - 1)=e_ xs ((q:Int) - 1)):(ys.set m (e_ ys q)).take (m+1)=N9 xs (q+1):=by
 rw [E,h2] at M
 simp only [N9]
 rw [An λe=>M e.2,←h,E,List.take_add_one,List.take_set_of_le<|Gk _]
 simp [hm]
theorem bc2(xs:List α)(l:Nat)(i:Int)(M:0<=i):e_ (xs.drop l) i=e_ xs ((l:Int)+i):=by
 unfold e_
 rw [Gs,Gs,Jg]
 congr 2;omega
end
theorem ax0(h:xs.Pairwise (· <= ·)):∀k,k<=xs.length->(N9 xs k).Pairwise (· < ·)/\(∀x,x∈N9 xs k↔x∈xs.take k)
 |0,_=>by simp [N9]
 |k+1,hk=>by
  obtain ⟨h1,h2⟩:=ax0 h k (by omega)
  have M:∀i j:Nat,i<j->j<xs.length->e_ xs i<=e_ xs j:=λi j E hj=>by
   rw [M5 xs i (by omega),M5 xs j hj]
   exact (Ho.1 h) i j (by omega) hj E
  rw [W7 xs k (by omega)]
  simp only [N9]
  have mem:∀a,a∈xs.take k->∃j:Nat,j<k/\a=e_ xs j:=λa ha=>by
   obtain ⟨j,hj,rfl⟩:=Ki ha
   rw [Fx] at hj
   exact ⟨j,by omega,by rw [Lt,M5 xs j<|by omega]⟩
  split
  ·rename_i hc
   refine ⟨h1,λx=>?_⟩
   rw [h2,Gu,Gj]
   refine ⟨.inl,λe=>e.elim id λe=>?_⟩
   subst e
   rw [hc.2,show (k:Int) - 1=((k - 1:Nat):Int) by omega,M5 xs (k - 1)<|by omega]
   exact Nj.2 ⟨k - 1,by omega,rfl⟩
  rename_i hc
  refine ⟨Jl.2 ⟨h1,Ln _ _,λa ha b hb=>?_⟩,λx=>by rw [Gu,Gu,h2]⟩
  rw [Gj.1 hb]
  obtain ⟨j,hj,rfl⟩:=mem a ((h2 a).1 ha)
  have h3:=M (k - 1) k (by omega) (by omega)
  have h4:e_ xs j<=e_ xs ((k - 1:Nat):Int):=by
   by_cases e:j=k - 1
   ·rw [e];exact Hn _
   exact M j (k - 1) (by omega)<|by omega
  have h5:e_ xs k≠e_ xs ((k:Int) - 1):=λe=>hc ⟨by omega,e⟩
  rw [show (k:Int) - 1=((k - 1:Nat):Int) by omega] at h5
  omega
theorem dy0(h:xs.Pairwise (· <= ·)):(N9 xs xs.length).Pairwise (· < ·):=(ax0 h _ (Gk _)).1
theorem dt3(h:xs.Pairwise (· <= ·)){x:Int}:x∈N9 xs xs.length↔x∈xs:=by
 have:=(ax0 h _<|Gk _).2 x
 rwa [Hx] at this
end Go.Sl
namespace Go.Sl
open Go.Proofs
set_option maxRecDepth 4000
variable{i n:Int}{b:Nat}{lv v:Value}{ls xs:List Int}
variable {κ:Ctx}{I:List Item}
attribute [local irreducible] W G V D A j0 Eff
abbrev R5(b:Nat)(lv:Value)(i:Int):Item:=e8 b [lv,e7 i] 125
theorem go7{k:Int}(h1:1<=k)(h2:k<=1000000000000):er prog κ 76 [e7 n,e7 k] I (λr J=>∃x:Int,r=e7 x/\(0<=x/\x<k)/\I=J):=by
 have q1:=Int.tmod_lt_of_pos n (b:=k) om
 have q2:=Int.lt_tmod_of_pos n (b:=k) om
 refine Ce2 Tryz.func76 C C<|Z ?_
 refine Gr (j0.rem C C om)<|Z ?_
 refine Gr (j0.rem C C om)<|Z ?_
 have E:=Int.tmod_nonneg k (a:=Int.tmod n k+k) om
 have M:=Int.tmod_lt_of_pos (Int.tmod n k+k) (b:=k) om
 exact Ak C C _ Af ⟨_,rfl,⟨E,M⟩,rfl⟩
theorem fc0(hl:Sl κ (R5 b lv i::I) lv ls)(E:0<=i)(hn:n<=1000000000000):er prog κ 19 [(pt b),e7 n] (e8 b [lv,e7 i] 125::I) (λr J=>∃y:Int×Int,(r=e7 y.1/\(0<=y.1/\(1<=n->y.1<n)/\(n<1->y.1=0))/\0<=y.2)/\J=[]++R5 b lv y.2::I):=by
 refine Bm hl.le λaa=>?_
 refine Ce2 Tryz.func19 C C<|Z ?_
 refine A8 mixed<|C1 14<|Z ?_
 refine Cw (d:=8) C (λg8=>Z ?_)<|λg8=>?_
 ·exact Ak C C _ Af ⟨(0,i),⟨rfl,⟨Hn _,by intro _;show (0:Int)<n;omega,λ_=>rfl⟩,E⟩,rfl⟩
 refine Dro 3 C (Ad C)<|Z ?_
 refine Am C (λM=>Z ?_)<|λM=>?_
 ·exact Ak C C _ Af ⟨(0,i),⟨rfl,⟨Hn _,by intro _;show (0:Int)<n;omega,λ_=>rfl⟩,E⟩,rfl⟩
 refine A4<|Al<|Ax<|A8 mixed<|C1 11<|Z ?_
 refine Ge0 (D5 ef)<|Z ?_
 refine G.e (Ac c_ C C<|go7 om om) ?_
 rintro _ _ ⟨_,_,⟨x1,rfl,ab,rfl⟩,rfl,rfl⟩
 refine Z ?_
 exact Ak C C _ Af ⟨(x1,i+1),⟨rfl,⟨by omega,by omega,by omega⟩,by show 0<=i+1;omega⟩,rfl⟩
theorem F5{F:Item->List Item}(M:AtF I (R5 b lv i) F)(hl:Sl κ I lv ls)(h0:0<=i)(hn:n<=1000000000000):er prog κ 19 [(pt b),e7 n] I λr J=>∃x i',r=e7 x/\(0<=x/\(1<=n->x<n)/\(n<1->x=0))/\0<=i'/\J=F (R5 b lv i'):=
 (Ea (Z:=λ_=>[]) (X:=λy:Int×Int=>R5 b lv y.2) M λ_ hJ _=>fc0 (hl.fit hJ) h0 hn).mono λ_ _ ⟨y,⟨h1,h2,h3⟩,E⟩=>⟨y.1,y.2,h1,h2,h3,E⟩
theorem go5{a:Option Addr}{n c:Nat} :
    er prog κ 18 [.slice a n c] I (λr J=>∃b,r = (pt b)/\J=R5 b (.slice a n c) 0::I):=by
 refine Ce1 Tryz.func18 C C<|Z ?_
 exact Ge1 (Ay (cs:=[_,_]) C C C) λb1=>Ga C<|Aq<|Bq<|Ak C C _ Af ⟨b1,rfl,rfl⟩
theorem ag7(hl:Sl κ I v xs)(x:Int):er prog κ 72 [v,e7 x] I (λr J=>r = .bool (decide (x∈xs))/\I=J):=by
 refine Bm hl.le λaa=>?_
 refine Ce2 Tryz.func72 C C<|Z ?_
 refine Dl (σ:=Nat) (λs=>[(9,e7 ((s:Nat):Int))]) (λ_=>[]) (λs=>(s<=xs.length)/\(∀j,j<s->e_ xs j≠x)) (λs=>xs.length - s) 0 ⟨om,Et⟩ ?_
 rintro k hp
 obtain ⟨hk,hn⟩:=hp
 refine Z ?_
 refine Am C (λc10=>Z ?_)<|λc10=>Z ?_
 ·refine Am C (λM=>Z ?_) (λM=>Z ?_)
  ·have E:x∈xs:=by subst M;exact B3 om om
   exact Ak C C _ Af ⟨by rw [D_ E],rfl⟩
  exact Bh ((k+1)) ⟨om,(Dg hn M)⟩
 have E:x∉xs:=av9 hn om
 exact Ak C C _ Af ⟨by rw [E_ E],rfl⟩
def y7(xs:List Int)(nodes:Int):Prop:=∀j,j<xs.length->(0<=e_ xs j/\e_ xs j<nodes)/\(0<j->e_ xs ((j:Int) - 1)<e_ xs j)
instance (xs:List Int) (nodes:Int):Decidable (y7 xs nodes):=by unfold y7;infer_instance
theorem ci4(hl:Sl κ I v xs)(nodes:Int):er prog κ 88 [v,e7 nodes] I (λr J=>r = .bool (decide (y7 xs nodes))/\I=J):=by
 refine Bm hl.le λah=>?_
 refine Ce2 Tryz.func88 C C<|Z ?_
 refine Dl (σ:=Nat) (λs=>[(9,e7 ((s:Nat):Int))]) (λ_=>[]) (λs=>(s<=xs.length)/\(∀j,j<s->(0<=e_ xs j/\e_ xs j<nodes)/\(0<j->e_ xs ((j:Int) - 1)<e_ xs j))) (λs=>xs.length - s) 0 ⟨om,Et⟩ ?_
 rintro k hp
 obtain ⟨hk,hn⟩:=hp
 refine Z ?_
 refine Am C (λc10=>Z ?_)<|λc10=>Z ?_
 ·refine Au (d:=16) C (λae=>Z ?_) (λae=>Z ?_)
  ·have M:¬y7 xs nodes:=λE=>by have:=E k om;omega
   exact Ak C C _ Af ⟨by rw [E_ M],rfl⟩
  refine Au (d:=21) C (λaa=>Z ?_)<|λaa=>Z ?_
  ·have M:¬y7 xs nodes:=λE=>by have:=E k om;omega
   exact Ak C C _ Af ⟨by rw [E_ M],rfl⟩
  refine Au (d:=24) C (λad=>Z ?_)<|λad=>Z ?_
  ·refine Am C (λab=>Z ?_) (λab=>Z ?_)
   ·have M:¬y7 xs nodes:=λE=>by have:=E k om;have:=this.2 om;omega
    exact Ak C C _ Af ⟨by rw [E_ M],rfl⟩
   exact Bh ((k+1)) ⟨om,(Dg hn ⟨by omega,λ_=>by omega⟩)⟩
  exact Bh ((k+1)) ⟨om,(Dg hn ⟨by omega,λ_=>by omega⟩)⟩
 have M:y7 xs nodes:=λj hj=>hn j om
 exact Ak C C _ Af ⟨by rw [D_ M],rfl⟩
theorem ci0(hl:Sl κ I v xs)(nodes:Int):er prog κ 91 [v,e7 nodes] I (λr J=>r = .bool (decide (y7 xs nodes))/\I=J):=by
 refine Bm hl.le λah=>?_
 refine Ce2 Tryz.func91 C C<|Z ?_
 refine Dl (σ:=Nat) (λs=>[(9,e7 ((s:Nat):Int))]) (λ_=>[]) (λs=>(s<=xs.length)/\(∀j,j<s->(0<=e_ xs j/\e_ xs j<nodes)/\(0<j->e_ xs ((j:Int) - 1)<e_ xs j))) (λs=>xs.length - s) 0 ⟨om,Et⟩ ?_
 rintro k hp
 obtain ⟨hk,hn⟩:=hp
 refine Z ?_
 refine Am C (λc10=>Z ?_)<|λc10=>Z ?_
 ·refine Au (d:=16) C (λae=>Z ?_) (λae=>Z ?_)
  ·have M:¬y7 xs nodes:=λE=>by have:=E k om;omega
   exact Ak C C _ Af ⟨by rw [E_ M],rfl⟩
  refine Au (d:=21) C (λaa=>Z ?_)<|λaa=>Z ?_
  ·have M:¬y7 xs nodes:=λE=>by have:=E k om;omega
   exact Ak C C _ Af ⟨by rw [E_ M],rfl⟩
  refine Au (d:=24) C (λad=>Z ?_)<|λad=>Z ?_
  ·refine Am C (λab=>Z ?_) (λab=>Z ?_)
   ·have M:¬y7 xs nodes:=λE=>by have:=E k om;have:=this.2 om;omega
    exact Ak C C _ Af ⟨by rw [E_ M],rfl⟩
   exact Bh ((k+1)) ⟨om,(Dg hn ⟨by omega,λ_=>by omega⟩)⟩
  exact Bh ((k+1)) ⟨om,(Dg hn ⟨by omega,λ_=>by omega⟩)⟩
 have M:y7 xs nodes:=λj hj=>hn j om
 exact Ak C C _ Af ⟨by rw [D_ M],rfl⟩
end Go.Sl
namespace Go.Sl
open Go.Proofs
set_option maxRecDepth 4000
end Go.Sl
namespace Go.Sl
open Go.Proofs
set_option maxRecDepth 4000
variable {κ:Ctx}{I:List Item}
attribute [local irreducible] W G V D A j0 Eff
theorem db4(n:Int):er prog κ 277 [e7 n] I (λr J=>r = .bool false/\I=J):=by
 refine Ce1 Tryz.func277 C C<|Z ?_
 exact Ak C C I Af ⟨by simp,rfl⟩
theorem V0(m n:Int):er prog κ 225 [e7 m,e7 n] I (λr J=>r=e7 (cm2 m n)/\I=J):=by
 refine Ce2 Tryz.func225 C C<|Z ?_
 refine Gc0 (Ac c_ C C<|db4 m)<|Z ?_
 refine Gc0 (Ac c_ C C<|db4 n)<|Z ?_
 refine Am C (λM=>Z ?_)<|λM=>Z ?_
 ·exact Ak C C I Af ⟨by unfold cm2;rw [By M],rfl⟩
 refine Am C (λE=>Z ?_)<|λE=>Z ?_
 ·exact Ak C C I Af ⟨by unfold cm2;rw [An M,By E],rfl⟩
 exact Ak C C I Af ⟨by unfold cm2;rw [An M,An E],rfl⟩
theorem gc9{v:Value}{xs:List Int}(hl:Sl κ I v xs):er prog κ 224 [v] I (λr J=>r=e7 (orL xs)/\I=J):=by
 refine Bm hl.le λE=>?_
 refine Ce1 Tryz.func224 C C<|Z ?_
 refine Dl (σ:=Nat) (λs=>[(8,e7 ((s:Nat):Int))]) (λ_=>[]) (λs=>(s<=xs.length)/\(orL xs=orL (xs.drop s))) (λs=>xs.length - s) 0 ⟨om,rfl⟩ ?_
 rintro k hp
 obtain ⟨hk,ho⟩:=hp
 refine Z ?_
 refine Am C (λc9=>Z ?_)<|λc9=>Z ?_
 ·refine Am C (λM=>Z ?_) (λM=>Z ?_)
  ·exact Ak C C I Af ⟨by rw [ho,fh2 om M],rfl⟩
  exact Bh ((k+1)) ⟨om,(ho.trans<|fh3 om<|Decidable.of_not_not M)⟩
 exact Ak C C I Af ⟨by rw [ho,fy0 om],rfl⟩
end Go.Sl
namespace Go.Sl
end Go.Sl
namespace Go.Sl
open Go.Proofs
set_option maxRecDepth 4000
theorem gb6{α:Type}[Inhabited α](xs:List α)(l:Nat)(i:Int)(M:0<=i):e_ (xs.drop l) i=e_ xs ((l:Int)+i):=by
 unfold e_
 rw [Gs,Gs,Jg]
 congr 2;omega
end Go.Sl
