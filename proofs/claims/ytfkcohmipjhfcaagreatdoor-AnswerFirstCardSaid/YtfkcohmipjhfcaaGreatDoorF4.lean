/- A part of the proofs of statements of this seat: contracts of functions, and the plain laws that they lean on. No conditions. -/
import Derived.Test.YtfkcohmipjhfcaaGreatDoorF3
import Derived.Test.YtfkcohmipjhfcaaGreatDoorProg
set_option linter.unusedVariables false
set_option linter.unusedSimpArgs false
set_option linter.unusedSectionVars false
namespace Go.Sl
structure Wd where
 hi:Int
 lo:Int
deriving DecidableEq
instance:Inhabited Wd:=⟨⟨0,0⟩⟩
instance:Enc Wd:=⟨fun r=>[.int .u64 r.hi,.int .u64 r.lo],2,by omega,fun _=>rfl,fun r u hu=>by
 simp only [List.mem_cons,List.not_mem_nil,or_false] at hu
 rcases hu with rfl|rfl<;>rfl⟩
section
variable {P:Program}
def flatU(P:Program):List Field→Nat→Bool
 |[],_=>true
 | f :: fs, o => (f.name != "_") && (match P.underlying f.type with | some (.int .u64) => true | _ => false) && (f.offset == o) && flatU P fs (o + 1)
theorem run_eqFlatU(d:Nat)(w:World)(ns ms:List Int):∀(fs:List Field) (o:Nat),flatU P fs o=true→ns.length=o+fs.length→ms.length=o+fs.length→
  (Op.eqFields (d+1) (ns.map (Value.int .u64)).toArray (ms.map (Value.int .u64)).toArray fs).run P w = .ok (decide (ns.drop o=ms.drop o)) w
 |[],o,_,hn,hm=>by
  have h1:ns.drop o=[]:=List.drop_eq_nil_of_le (by simp at hn;omega)
  have h2:ms.drop o=[]:=List.drop_eq_nil_of_le (by simp at hm;omega)
  simp [Op.eqFields,h1,h2]
 |f::fs,o,h,hn,hm=>by
  simp only [flatU,Bool.and_eq_true,bne_iff_ne,beq_iff_eq] at h
  obtain ⟨⟨⟨h1,h2⟩,h3⟩,h4⟩:=h
  have hu:P.underlying f.type=some (.int .u64):=by
   revert h2
   split
   ·intro _;assumption
   ·intro h;cases h
  simp only [List.length_cons] at hn hm
  have hno:o<ns.length:=by omega
  have hmo:o<ms.length:=by omega
  have ha:(isAgg f.type).run P w = .ok false w:=by simp [isAgg,run_underlying hu]
  have hp:∀(ks:List Int) (hk:o<ks.length),(part f.type (ks.map (Value.int .u64)).toArray f.offset).run P w = .ok ((Value.int .u64) ks[o]) w:=fun ks hk=>by
   simp [part,ha,h3,hk]
  have ih:=run_eqFlatU d w ns ms fs (o+1) h4 (by omega) (by omega)
  simp only [Op.eqFields,if_pos h1,Sem.run_bind,hp ns hno,hp ms hmo,Result.andThen_ok,run_equalIn_int _ _ _ _ _ _ _ hu]
  have key:(ns.drop o=ms.drop o)↔(ns[o]=ms[o]∧ns.drop (o+1)=ms.drop (o+1)):=by rw [List.drop_eq_getElem_cons hno,List.drop_eq_getElem_cons hmo,List.cons.injEq]
  have key2:decide (ns.drop o=ms.drop o)=decide (ns[o]=ms[o]∧ns.drop (o+1)=ms.drop (o+1)):=decide_eq_decide.2 key
  rw [key2]
  by_cases he:ns[o]=ms[o]
  ·simp [he,ih]
  ·simp [he]
theorem EqT.flatU{α:Type}[Enc α][DecidableEq α]{T n:Nat}(ints:α→List Int)(henc:∀x,Enc.enc x=(ints x).map (Value.int .u64))(hinj:∀x y,ints x=ints y→x=y)(hlen:∀x,(ints x).length=n)
  (ht:P.underlying T=some (.struct (P.fieldsOf T))) (hp:P.stoodInHeld T=false) (hf:flatU P (P.fieldsOf T).toList 0=true) (hn:(P.fieldsOf T).size=n) (hg:P.eqGuardType P.depth T=false):EqT P T α:=by
 refine ⟨fun x y w=>?_,hg⟩
 rw [show (10000:Nat)=9999+1 from rfl,run_equalIn_struct w 9999 T _ _ ht hp,henc,henc,show (9999:Nat)=9998+1 from rfl,
  run_eqFlatU 9998 w (ints x) (ints y) _ 0 hf (by rw [hlen,Array.length_toList,hn];omega) (by rw [hlen,Array.length_toList,hn];omega)]
 congr 1
 rw [List.drop_zero,List.drop_zero,decide_eq_decide]
 exact ⟨hinj x y,fun e=>by rw [e]⟩
end
def bitA(a i:Int):Int:=a / 2 ^ i.toNat % 2
theorem bitA_two(a i:Int):bitA a i=0∨bitA a i=1:=by unfold bitA;omega
theorem u64_nat{n:Int}(h0:0≤n)(h1:n<18446744073709551616):∃b:BitVec 64,n=(b.toNat:Int):=
 ⟨BitVec.ofNat 64 n.toNat,by rw [BitVec.toNat_ofNat];omega⟩
section
variable {P:Program}{κ:Ctx}{N:Frm}{L:Env}{J:List Item}{d:Option Tmp}{ty:TypeId}{ps:String}{af:Array Edge}{gd:Option (Nat×Bool)}{x y:Operand}{T U:TypeId}{k':IntKind}
theorem Runs.shlU{m:Int}(hx:evalO L x=some (.int .u64 m))(hy:evalO L y=some (.int k' 1))(h0:0≤m)(h1:m<9223372036854775808):Runs P κ N ⟨d,.binOp .shl T x y U,ty,ps,af,gd⟩ L J (.int .u64 (2*m)):=by
 have h:=Runs.shlw (P:=P) (κ:=κ) (N:=N) (J:=J) (d:=d) (ty:=ty) (ps:=ps) (af:=af) (gd:=gd) (T:=T) (U:=U) hx hy (by decide)
 have e:IntKind.u64.wrap (m*2 ^ Min.min (1:Int).toNat IntKind.u64.bits)=2*m:=by
  rw [show Min.min (1:Int).toNat IntKind.u64.bits=1 from rfl,u64_wrap];omega
 rwa [e] at h
theorem Runs.shr63{m:Int}(hx:evalO L x=some (.int .u64 m))(hy:evalO L y=some (.int k' 63))(h0:0≤m)(h1:m<9223372036854775808):Runs P κ N ⟨d,.binOp .shr T x y U,ty,ps,af,gd⟩ L J (.int .u64 0):=by
 have h:=Runs.shrw (P:=P) (κ:=κ) (N:=N) (J:=J) (d:=d) (ty:=ty) (ps:=ps) (af:=af) (gd:=gd) (T:=T) (U:=U) hx hy (by decide)
 have e:m.fdiv (2 ^ Min.min (63:Int).toNat IntKind.u64.bits)=0:=by
  rw [show Min.min (63:Int).toNat IntKind.u64.bits=63 from rfl,Int.fdiv_eq_ediv_of_nonneg _ (by decide)];omega
 rwa [e] at h
theorem Runs.shrU{m n:Int}(hx:evalO L x=some (.int .u64 m))(hy:evalO L y=some (.int k' n))(h0:0≤n)(h1:n<64):Runs P κ N ⟨d,.binOp .shr T x y U,ty,ps,af,gd⟩ L J (.int .u64 (m / 2 ^ n.toNat)):=by
 have h:=Runs.shrw (P:=P) (κ:=κ) (N:=N) (J:=J) (d:=d) (ty:=ty) (ps:=ps) (af:=af) (gd:=gd) (T:=T) (U:=U) hx hy h0
 have e:m.fdiv (2 ^ Min.min n.toNat IntKind.u64.bits)=m / 2 ^ n.toNat:=by
  rw [show Min.min n.toNat IntKind.u64.bits=n.toNat by show Min.min n.toNat 64=_;omega,Int.fdiv_eq_ediv_of_nonneg _ (Int.pow_nonneg (by decide))]
 rwa [e] at h
theorem Runs.zeroU{n:Int}(hx:evalO L x=some (.int .u64 0))(hy:evalO L y=some (.int k' n))(h0:0≤n)(h1:n<64):Runs P κ N ⟨d,.binOp .shr T x y U,ty,ps,af,gd⟩ L J (.int .u64 0):=by
 have h:=Runs.shrU (P:=P) (κ:=κ) (N:=N) (J:=J) (d:=d) (ty:=ty) (ps:=ps) (af:=af) (gd:=gd) (T:=T) (U:=U) hx hy h0 h1
 rwa [Int.zero_ediv] at h
theorem Runs.and1U{m:Int}(hx:evalO L x=some (.int .u64 m))(hy:evalO L y=some (.int .u64 1))(h0:0≤m)(h1:m<18446744073709551616):Runs P κ N ⟨d,.binOp .and T x y U,ty,ps,af,gd⟩ L J (.int .u64 (m % 2)):=by
 obtain ⟨b,rfl⟩:=u64_nat h0 h1
 have h:=Runs.andB (P:=P) (κ:=κ) (N:=N) (J:=J) (d:=d) (ty:=ty) (ps:=ps) (af:=af) (gd:=gd) (T:=T) (U:=U) (b:=1#64) hx hy
 have e:((b &&& 1#64).toNat:Int)=(b.toNat:Int) % 2:=by
  rw [BitVec.toNat_and,show (1#64).toNat=1 from rfl,Nat.and_one_is_mod];rfl
 show Runs P κ N _ L J (.int .u64 ((b.toNat:Int) % 2))
 rw [←e];exact h
theorem Runs.bitU{a i:Int}(hx:evalO L x=some (.int .u64 (a / 2 ^ i.toNat)))(hy:evalO L y=some (.int .u64 1))(h0:0≤a)(h1:a<18446744073709551616):Runs P κ N ⟨d,.binOp .and T x y U,ty,ps,af,gd⟩ L J (.int .u64 (bitA a i)):=
 Runs.and1U hx hy (Int.ediv_nonneg h0 (Int.pow_nonneg (by decide))) (Int.lt_of_le_of_lt (Int.ediv_le_self _ h0) h1)
theorem Runs.zand(hx:evalO L x=some (.int .u64 0))(hy:evalO L y=some (.int .u64 1)):Runs P κ N ⟨d,.binOp .and T x y U,ty,ps,af,gd⟩ L J (.int .u64 0):=
 Runs.and1U hx hy (by decide) (by decide)
theorem Runs.or1U{m:Int}(hx:evalO L x=some (.int .u64 (2*m)))(hy:evalO L y=some (.int .u64 1))(h0:0≤m)(h1:m<9223372036854775808):Runs P κ N ⟨d,.binOp .or T x y U,ty,ps,af,gd⟩ L J (.int .u64 (2*m+1)):=by
 obtain ⟨b,hb⟩:=u64_nat (n:=2*m) (by omega) (by omega)
 rw [hb] at hx
 have h:=Runs.orB (P:=P) (κ:=κ) (N:=N) (J:=J) (d:=d) (ty:=ty) (ps:=ps) (af:=af) (gd:=gd) (T:=T) (U:=U) (b:=1#64) hx hy
 have hz:b &&& 1#64=0#64:=BitVec.eq_of_toNat_eq (by rw [BitVec.toNat_and,show (1#64).toNat=1 from rfl,Nat.and_one_is_mod];show b.toNat % 2=0;omega)
 have e:((b ||| 1#64).toNat:Int)=2*m+1:=by
  rw [←BitVec.add_eq_or_of_and_eq_zero _ _ hz,BitVec.toNat_add,show (1#64).toNat=1 from rfl];omega
 show Runs P κ N _ L J (.int .u64 (2*m+1))
 rw [←e];exact h
theorem Runs.orZ(hx:evalO L x=some (.int .u64 (2*0)))(hy:evalO L y=some (.int .u64 0)):Runs P κ N ⟨d,.binOp .or T x y U,ty,ps,af,gd⟩ L J (.int .u64 0):=
 Runs.orB (a:=0#64) (b:=0#64) hx hy
theorem Runs.subU{m n:Int}(hx:evalO L x=some (.int .u64 m))(hy:evalO L y=some (.int .u64 n))(h0:0≤n)(h1:n≤m)(h2:m<18446744073709551616):Runs P κ N ⟨d,.binOp .sub T x y U,ty,ps,af,gd⟩ L J (.int .u64 (m - n)):=by
 have h:=Runs.subw (P:=P) (κ:=κ) (N:=N) (J:=J) (d:=d) (ty:=ty) (ps:=ps) (af:=af) (gd:=gd) (T:=T) (U:=U) hx hy
 have e:IntKind.u64.wrap (m - n)=m - n:=by rw [u64_wrap];omega
 rwa [e] at h
end
theorem bit_step{a i:Int}(h0:0≤a)(hi:0≤i):a / 2 ^ i.toNat=2*(a / 2 ^ (i+1).toNat)+bitA a i:=by
 have e:(2:Int) ^ (i+1).toNat=2 ^ i.toNat*2:=by rw [show (i+1).toNat=i.toNat+1 by omega,Int.pow_succ]
 unfold bitA
 rw [e,←Int.ediv_ediv_of_nonneg (Int.pow_nonneg (by decide))]
 omega
theorem div_n0{a b q r r' i:Int}(h0:0≤a)(h:a / 2 ^ (i+1).toNat=q*b+r)(hi:0≤i)(hr:r'=2*r+bitA a i):a / 2 ^ (i - 1+1).toNat=2*q*b+r':=by
 rw [show i - 1+1=i by omega,bit_step h0 hi,h,hr,Int.mul_add,Int.mul_assoc];omega
theorem div_n1{a b q r r' i:Int}(h0:0≤a)(h:a / 2 ^ (i+1).toNat=q*b+r)(hi:0≤i)(hr:r'=2*r+bitA a i):a / 2 ^ (i - 1+1).toNat=(2*q+1)*b+(r' - b):=by
 rw [div_n0 h0 h hi hr,Int.add_mul,Int.one_mul];omega
theorem bitA_high{a i:Int}(h0:0≤a)(h1:a<9223372036854775808)(hi:63≤i):bitA a i=0:=by
 unfold bitA
 rw [Int.ediv_eq_zero_of_lt h0]
 ·rfl
 ·have:(2:Int) ^ 63≤2 ^ i.toNat:=by have h:=Nat.pow_le_pow_right (n:=2) (by decide) (show 63≤i.toNat by omega);exact_mod_cast h
  omega
theorem div_start{a b:Int}(h0:0≤a)(h1:a<9223372036854775808):a / 2 ^ ((127:Int)+1).toNat=0*b+0:=by
 rw [Int.ediv_eq_zero_of_lt h0]
 ·omega
 ·exact Int.lt_of_lt_of_le h1 (by decide+kernel)
theorem div_end{a b q r i:Int}(h:a / 2 ^ (i+1).toNat=q*b+r)(hi:i = -1)(h0:0≤r)(h1:r<b):q=a / b∧r=a % b:=by
 subst hi
 rw [show ((-1:Int)+1).toNat=0 from rfl,Int.pow_zero,Int.ediv_one] at h
 have hb:0<b:=by omega
 have e1:a / b=q:=by rw [h,Int.add_comm,Int.add_mul_ediv_right _ _ (by omega),Int.ediv_eq_zero_of_lt h0 h1];omega
 have e2:a % b=r:=by rw [h,Int.add_comm,Int.add_mul_emod_self_right,Int.emod_eq_of_lt h0 h1]
 exact ⟨e1.symm,e2.symm⟩
theorem div_bd{a b q r i:Int}(h0:0≤a)(h:a / 2 ^ (i+1).toNat=q*b+r)(hr:0≤r)(hb:0<b)(hq:0≤q):q≤a:=by
 have h1:a / 2 ^ (i+1).toNat≤a:=Int.ediv_le_self _ h0
 have h2:q*1≤q*b:=Int.mul_le_mul_of_nonneg_left (by omega) hq
 omega
theorem V.retcc{P:Program}{κ:Ctx}{N:Frm}{L:Env}{I:List Item}{fn:Func}{t u:Tmp}{T U b b' E E' sz sz' by' by2:Nat}{z z' cs ds:List Value}{Post:Value→List Item→Prop}(hr:fn.results = #[.cell t T,.cell u U])(hT:tyF P T=some (sz,true,by',z))(hU:tyF P U=some (sz',true,by2,z'))
  (hv:look L t=some (.pointer (some ⟨b,0,none⟩))) (hv':look L u=some (.pointer (some ⟨b',0,none⟩))) (hb:blk b cs E∈I) (hb':blk b' ds E'∈I)
  (hl:cs.length=sz) (hl':ds.length=sz') (J:List Item) (hf:Fit κ I J) (hp:Post (.tuple #[.agg cs.toArray,.agg ds.toArray]) J) (h0:N.ds=[]:=by rfl):V κ N (bodyPost P fn (RetR κ Post)) .ret L I:=
 fun a w ha hs=>by
  have hcell:=fun j=>cell_blk (w:=w) (hs.ok _ hb).1 j
  have hcell2:=fun j=>cell_blk (w:=w) (hs.ok _ hb').1 j
  have hload:(loadVar T ⟨b,0,none⟩).run P w = .ok (.agg cs.toArray) w:=run_loadVar_agg hT hl fun j u hj=>by rw [addr_add,hcell,←hj];simp
  have hload2:(loadVar U ⟨b',0,none⟩).run P w = .ok (.agg ds.toArray) w:=run_loadVar_agg hU hl' fun j u hj=>by rw [addr_add,hcell2,←hj];simp
  refine bodyPost_ret (v:= .tuple #[.agg cs.toArray,.agg ds.toArray]) ?_ (ha.defers.trans h0) ⟨_,J,rfl,hp,hf w hs⟩
  simp [results,hr,ha.get t _ hv,ha.get u _ hv',asAddr,hload,hload2]
end Go.Sl
namespace Go.Sl
section
variable {P:Program}{κ:Ctx}{N:Frm}{L:Env}{J:List Item}{d:Option Tmp}{ty:TypeId}{ps:String}{af:Array Edge}{gd:Option (Nat×Bool)}{x y:Operand}{T U:TypeId}{k':IntKind}
theorem Runs.mulU{m n r:Int}(hx:evalO L x=some (.int .u64 m))(hy:evalO L y=some (.int .u64 n))(hr:m*n=r)(h0:0≤r)(h1:r<18446744073709551616):Runs P κ N ⟨d,.binOp .mul T x y U,ty,ps,af,gd⟩ L J (.int .u64 r):=by
 have h:=Runs.mulw (P:=P) (κ:=κ) (N:=N) (J:=J) (d:=d) (ty:=ty) (ps:=ps) (af:=af) (gd:=gd) (T:=T) (U:=U) hx hy
 have e:IntKind.u64.wrap (m*n)=r:=by rw [u64_wrap,hr];omega
 rwa [e] at h
theorem Runs.addU{m n r:Int}(hx:evalO L x=some (.int .u64 m))(hy:evalO L y=some (.int .u64 n))(hr:m+n=r)(h0:0≤r)(h1:r<18446744073709551616):Runs P κ N ⟨d,.binOp .add T x y U,ty,ps,af,gd⟩ L J (.int .u64 r):=by
 have h:=Runs.addw (P:=P) (κ:=κ) (N:=N) (J:=J) (d:=d) (ty:=ty) (ps:=ps) (af:=af) (gd:=gd) (T:=T) (U:=U) hx hy
 have e:IntKind.u64.wrap (m+n)=r:=by rw [u64_wrap,hr];omega
 rwa [e] at h
theorem Runs.lowU{m r:Int}(hx:evalO L x=some (.int .u64 m))(hy:evalO L y=some (.int .u64 4294967295))(h0:0≤m)(h1:m<18446744073709551616)(hr:m % 4294967296=r):Runs P κ N ⟨d,.binOp .and T x y U,ty,ps,af,gd⟩ L J (.int .u64 r):=by
 obtain ⟨b,rfl⟩:=u64_nat h0 h1
 have h:=Runs.andB (P:=P) (κ:=κ) (N:=N) (J:=J) (d:=d) (ty:=ty) (ps:=ps) (af:=af) (gd:=gd) (T:=T) (U:=U) (b:=4294967295#64) hx hy
 have e:((b &&& 4294967295#64).toNat:Int)=r:=by
  rw [BitVec.toNat_and,show (4294967295#64).toNat=2 ^ 32 - 1 from rfl,Nat.and_two_pow_sub_one_eq_mod,←hr];rfl
 rw [←e];exact h
theorem Runs.shr32{m r:Int}(hx:evalO L x=some (.int .u64 m))(hy:evalO L y=some (.int k' 32))(hr:m / 4294967296=r):Runs P κ N ⟨d,.binOp .shr T x y U,ty,ps,af,gd⟩ L J (.int .u64 r):=by
 have h:=Runs.shrU (P:=P) (κ:=κ) (N:=N) (J:=J) (d:=d) (ty:=ty) (ps:=ps) (af:=af) (gd:=gd) (T:=T) (U:=U) hx hy (by decide) (by decide)
 rw [show (2:Int) ^ (32:Int).toNat=4294967296 from rfl,hr] at h
 exact h
theorem Runs.shl32{m:Int}(hx:evalO L x=some (.int .u64 m))(hy:evalO L y=some (.int k' 32))(h0:0≤m)(h1:m<4294967296):Runs P κ N ⟨d,.binOp .shl T x y U,ty,ps,af,gd⟩ L J (.int .u64 (m*4294967296)):=by
 have h:=Runs.shlw (P:=P) (κ:=κ) (N:=N) (J:=J) (d:=d) (ty:=ty) (ps:=ps) (af:=af) (gd:=gd) (T:=T) (U:=U) hx hy (by decide)
 have e:IntKind.u64.wrap (m*2 ^ Min.min (32:Int).toNat IntKind.u64.bits)=m*4294967296:=by
  rw [show Min.min (32:Int).toNat IntKind.u64.bits=32 from rfl,u64_wrap];omega
 rwa [e] at h
theorem Runs.orLow{m n r:Int}(hx:evalO L x=some (.int .u64 (m*4294967296)))(hy:evalO L y=some (.int .u64 n))(h0:0≤m)(h1:m<4294967296)(h2:0≤n)(h3:n<4294967296)(hr:m*4294967296+n=r):Runs P κ N ⟨d,.binOp .or T x y U,ty,ps,af,gd⟩ L J (.int .u64 r):=by
 obtain ⟨a,ha⟩:=u64_nat (n:=m*4294967296) (by omega) (by omega)
 obtain ⟨b,hb⟩:=u64_nat (n:=n) (by omega) (by omega)
 rw [ha] at hx
 rw [hb] at hy
 have h:=Runs.orB (P:=P) (κ:=κ) (N:=N) (J:=J) (d:=d) (ty:=ty) (ps:=ps) (af:=af) (gd:=gd) (T:=T) (U:=U) hx hy
 have e:((a ||| b).toNat:Int)=r:=by
  rw [BitVec.toNat_or]
  have ea:a.toNat=m.toNat <<< 32:=by rw [Nat.shiftLeft_eq];omega
  have hbn:b.toNat<2 ^ 32:=by omega
  rw [ea,←Nat.shiftLeft_add_eq_or_of_lt hbn,Nat.shiftLeft_eq];omega
 rw [←e];exact h
end
end Go.Sl
namespace Go.Sl
open Go.Proofs
abbrev Aa:= @Runs.fieldAddr
abbrev Ab:= @Sub.cons
abbrev Ac:= @Runs.move
abbrev Ad:= @V.then_ret
abbrev Af:= @G.nt
abbrev Ah:= @W.sr
abbrev Ai:= @V.then
abbrev Aj:= @Eff.call
abbrev Ak:= @Runs.pickf
abbrev Al:= @V.block_normal
abbrev Am:= @Tryz.underlying22
abbrev Ao:= @Runs.pickt
abbrev Ap:= @Tryz.underlying109
abbrev Aq:= @V.then_exit
abbrev Ar:= @W.sub
abbrev As:= @Runs.ld
abbrev Au:= @V.block_ret
abbrev Av:= @W.seq
abbrev Aw:= @Tryz.underlying28
abbrev Ax:= @Eff.alloc
abbrev Ay:= @W.ret
abbrev Az:= @W.skip
abbrev A0:= @V.ret1
abbrev A1:= @Fit.m
abbrev A2:= @W.region
abbrev A3:= @Runs.extract
abbrev A4:= @Fit.sub
abbrev A5:= @W.block
abbrev A6:= @W.ite
abbrev A7:= @G.split
abbrev A8:= @Runs.lss
abbrev A9:= @V.block_hit
abbrev Ba:= @Runs.idx
abbrev Bb:= @Eff.box
abbrev Bc:= @Runs.build
abbrev Bd:= @Runs.assign
abbrev Be:= @G.nil
abbrev Bf:= @Tryz.underlying3
abbrev Bg:= @Runs.nilCheck
abbrev Bh:= @Runs.neq
abbrev Bi:= @Runs.eql
abbrev Bj:= @Es2_2
abbrev Bk:= @W.drawn
abbrev Bl:= @Sl.f
abbrev Bm:= @Runs.lds
abbrev Bo:= @Sl.o
abbrev Bp:= @Sub.nil
abbrev Bq:= @A.hold
abbrev Br:= @Runs.gtr
abbrev Bs:= @Runs.gets
abbrev Bt:= @W.exit
abbrev Bu:= @Runs.lenT
abbrev Bv:= @W.loop
abbrev Bw:= @Fit.nilvc
abbrev Bx:= @Tryz.underlying46
abbrev Bz:= @Fit.s
abbrev B0:= @V.nx
abbrev B1:= @Eff.bs
abbrev B2:= @Eff.app
abbrev B3:= @Runs.lens
abbrev B4:= @CallS.pull
abbrev B5:= @Runs.geq
abbrev B6:= @W.yes
abbrev B7:= @Tryz.underlying337
abbrev B8:= @Tryz.underlying79
abbrev B9:= @Tryz.underlying40
abbrev Ca:= @lookO
abbrev Cb:= @Runs.get
abbrev Cc:= @D.step
abbrev Cd:= @Runs.notd
abbrev Ce:= @Wanted.plain
abbrev Cf:= @at_mem
abbrev Cg:= @Tryz.underlying181
abbrev Ch:= @Tryz.underlying175
abbrev Ci:= @Tryz.underlying160
abbrev Cj:= @Sl.fit
abbrev Ck:= @Runs.not
abbrev Cl:= @V.mi
abbrev Cm:= @Tryz.underlying64
abbrev Cn:= @scanL_bad
abbrev Co:= @Tryz.underlying177
abbrev Cp:= @Fit.trans
abbrev Cq:= @CallS.fit
abbrev Cr:= @Runs.convU
abbrev Cs:= @Eff.make
abbrev Ct:= @V.ret2
abbrev Cu:= @Wanted.on
abbrev Cv:= @TabRd.fit
abbrev Cw:= @W.no
abbrev Cx:= @listB_zero
abbrev Cy:= @Tryz.underlying108
abbrev Cz:= @BlkRd.fit
abbrev C0:= @Eff.insertK
abbrev C1:= @drop_at
abbrev C2:= @Tryz.underlying58
abbrev C3:= @Eff.callv
abbrev C4:= @all2
abbrev C5:= @Runs.loadB
abbrev C6:= @V.retc
abbrev C7:= @Tryz.underlying301
abbrev C8:= @Runs.fld
abbrev C9:= @Fit.refl
abbrev Da:= @take_at
abbrev Db:= @lookV
abbrev Dc:= @all1
abbrev De:= @Runs.getf
abbrev Df:= @sumN_congr
abbrev Dg:= @V.retc1
abbrev Dh:= @D.stop
abbrev Di:= @A.done
abbrev Dj:= @at_set
abbrev Dk:= @V.block_miss
abbrev Dl:= @Tryz.underlying339
abbrev Dn:= @Tryz.underlying277
abbrev Do:= @Tryz.underlying211
abbrev Dp:= @Tryz.underlying111
abbrev Dq:= @Eff.st
abbrev Ds:= @Eff.set
abbrev Dt:= @D.split
abbrev Du:= @all_succ
abbrev Dv:= @Runs.shr32
abbrev Dw:= @Es6_6
abbrev Dx:= @BlkRd.of
abbrev Dy:= @Es2_1
abbrev D0:= @Runs.mul
abbrev D1:= @Es7_1
abbrev D2:= @Runs.idxArr
abbrev D3:= @Runs.leq
abbrev D4:= @CallS.at
abbrev D5:= @lookI
abbrev D6:= @scanL_step
abbrev D7:= @mem_listB
abbrev D8:= @listB_len
abbrev D9:= @WR.region
abbrev Ea:= @Runs.mulU
abbrev Eb:= @Runs.loraw
abbrev Ec:= @Runs.makeFunc
abbrev Ed:= @GY.read
abbrev Ee:= @Runs.or1U
abbrev Ef:= @Runs.addU
abbrev Eg:= @Tryz.underlying102
abbrev Eh:= @G.splitb
abbrev Ei:= @listB_nodup
abbrev Ej:= @isort_permG
abbrev Ek:= @W.cut
abbrev El:= @Tryz.underlying65
abbrev Em:= @Tryz.underlying31
abbrev En:= @div_n1
abbrev Eo:= @div_n0
abbrev Ep:= @Tryz.underlying4
abbrev Eq:= @Runs.lowU
abbrev Er:= @Runs.eqlT
abbrev Es:= @Runs.andB
abbrev Et:= @G.eff
abbrev Eu:= @at_get
abbrev Ew:= @W.cond
abbrev Ex:= @Runs.getf0
theorem kr{p:Prop}(h:p:=by kernel_rfl):p:=h
theorem dc{p:Prop}(h:p:=by decide):p:=h
theorem lcn{p:Prop}(h:p:=by simp only [List.length_cons,List.length_nil];omega):p:=h
theorem asm{p:Prop}(h:p:=by assumption):p:=h
theorem lat{p:Prop}(h:p:=by first|omega|(simp only [List.length_append,List.length_take,List.length_drop,List.length_replicate]<;>omega)):p:=h
theorem lap{p:Prop}(h:p:=by simp only [List.length_append,List.length_cons,List.length_nil];omega):p:=h
theorem olp{p:Prop}(h:p:=by first|omega|(simp only [List.length_append,List.length_cons,List.length_nil];omega)):p:=h
theorem olr{p:Prop}(h:p:=by first|omega|(simp only [List.length_replicate];omega)):p:=h
end Go.Sl
namespace Go.Sl
open Go.Proofs
theorem ty2:tyF Tryz.prog 2=some (1,false,8,[I64 (0)]):=by kernel_rfl
theorem ty3:tyF Tryz.prog 3=some (1,false,8,[I64 (0)]):=by kernel_rfl
theorem ty4:tyF Tryz.prog 4=some (1,false,1,[.bool false]):=by kernel_rfl
theorem ty5:tyF Tryz.prog 5=some (1,false,1,[.int .u8 (0)]):=by kernel_rfl
theorem ty22:tyF Tryz.prog 22=some (1,false,24,[.slice none 0 0]):=by kernel_rfl
theorem ty28:tyF Tryz.prog 28=some (1,false,24,[.slice none 0 0]):=by kernel_rfl
theorem ty31:tyF Tryz.prog 31=some (3,true,24,[I64 (0),I64 (0),I64 (0)]):=by kernel_rfl
theorem fld31_0:fldF Tryz.prog 31 0=some 0:=by kernel_rfl
theorem fld31_1:fldF Tryz.prog 31 1=some 1:=by kernel_rfl
theorem fld31_2:fldF Tryz.prog 31 2=some 2:=by kernel_rfl
theorem pl31(w:World):(placesRun Tryz.prog 31).run Tryz.prog w = .ok #[(0,1),(1,1),(2,1)] w:=by kernel_rfl
theorem ty36:tyF Tryz.prog 36=some (1,false,8,[I64 (0)]):=by kernel_rfl
theorem ty40:tyF Tryz.prog 40=some (2,true,16,[I64 (0),I64 (0)]):=by kernel_rfl
theorem fld40_0:fldF Tryz.prog 40 0=some 0:=by kernel_rfl
theorem fld40_1:fldF Tryz.prog 40 1=some 1:=by kernel_rfl
theorem pl40(w:World):(placesRun Tryz.prog 40).run Tryz.prog w = .ok #[(0,1),(1,1)] w:=by kernel_rfl
theorem ty46:tyF Tryz.prog 46=some (1,false,24,[.slice none 0 0]):=by kernel_rfl
theorem ty48:tyF Tryz.prog 48=some (2,true,32,[I64 (0),.slice none 0 0]):=by kernel_rfl
theorem fld48_0:fldF Tryz.prog 48 0=some 0:=by kernel_rfl
theorem fld48_1:fldF Tryz.prog 48 1=some 1:=by kernel_rfl
theorem pl48(w:World):(placesRun Tryz.prog 48).run Tryz.prog w = .ok #[(0,1),(1,1)] w:=by kernel_rfl
theorem ty64:tyF Tryz.prog 64=some (2,true,16,[I64 (0),I64 (0)]):=by kernel_rfl
theorem ty71:tyF Tryz.prog 71=some (7,true,72,[I64 (0),I64 (0),I64 (0),I64 (0),.slice none 0 0,I64 (0),I64 (0)]):=by kernel_rfl
theorem fld71_0:fldF Tryz.prog 71 0=some 0:=by kernel_rfl
theorem fld71_1:fldF Tryz.prog 71 1=some 1:=by kernel_rfl
theorem fld71_2:fldF Tryz.prog 71 2=some 2:=by kernel_rfl
theorem fld71_3:fldF Tryz.prog 71 3=some 3:=by kernel_rfl
theorem fld71_4:fldF Tryz.prog 71 4=some 4:=by kernel_rfl
theorem fld71_5:fldF Tryz.prog 71 5=some 5:=by kernel_rfl
theorem pl71(w:World):(placesRun Tryz.prog 71).run Tryz.prog w = .ok #[(0,1),(1,1),(2,1),(3,1),(4,1),(5,2)] w:=by kernel_rfl
theorem ty79:tyF Tryz.prog 79=some (1,false,24,[.slice none 0 0]):=by kernel_rfl
theorem ty88:tyF Tryz.prog 88=some (2,true,32,[I64 (0),.slice none 0 0]):=by kernel_rfl
theorem pl88(w:World):(placesRun Tryz.prog 88).run Tryz.prog w = .ok #[(0,1),(1,1)] w:=by kernel_rfl
theorem ty90:tyF Tryz.prog 90=some (11,true,168,[.bool false,I64 (0),I64 (0),.slice none 0 0,I64 (0),I64 (0),.slice none 0 0,.slice none 0 0,.slice none 0 0,I64 (0),.slice none 0 0]):=by kernel_rfl
theorem fld90_0:fldF Tryz.prog 90 0=some 0:=by kernel_rfl
theorem fld90_2:fldF Tryz.prog 90 2=some 2:=by kernel_rfl
theorem fld90_3:fldF Tryz.prog 90 3=some 3:=by kernel_rfl
theorem fld90_4:fldF Tryz.prog 90 4=some 4:=by kernel_rfl
theorem fld90_8:fldF Tryz.prog 90 8=some 9:=by kernel_rfl
theorem pl90(w:World):(placesRun Tryz.prog 90).run Tryz.prog w = .ok #[(0,1),(1,1),(2,1),(3,1),(4,2),(6,1),(7,1),(8,1),(9,2)] w:=by kernel_rfl
theorem ty102:tyF Tryz.prog 102=some (5,true,72,[.slice none 0 0,I64 (0),I64 (0),I64 (0),.slice none 0 0]):=by kernel_rfl
theorem fld102_0:fldF Tryz.prog 102 0=some 0:=by kernel_rfl
theorem fld102_1:fldF Tryz.prog 102 1=some 1:=by kernel_rfl
theorem fld102_2:fldF Tryz.prog 102 2=some 3:=by kernel_rfl
theorem pl102(w:World):(placesRun Tryz.prog 102).run Tryz.prog w = .ok #[(0,1),(1,2),(3,2)] w:=by kernel_rfl
theorem ty108:tyF Tryz.prog 108=some (7,true,56,[I64 (0),I64 (0),I64 (0),I64 (0),I64 (0),I64 (0),I64 (0)]):=by kernel_rfl
theorem fld108_0:fldF Tryz.prog 108 0=some 0:=by kernel_rfl
theorem fld108_1:fldF Tryz.prog 108 1=some 1:=by kernel_rfl
theorem fld108_2:fldF Tryz.prog 108 2=some 2:=by kernel_rfl
theorem fld108_3:fldF Tryz.prog 108 3=some 3:=by kernel_rfl
theorem fld108_4:fldF Tryz.prog 108 4=some 4:=by kernel_rfl
theorem fld108_5:fldF Tryz.prog 108 5=some 5:=by kernel_rfl
theorem fld108_6:fldF Tryz.prog 108 6=some 6:=by kernel_rfl
theorem pl108(w:World):(placesRun Tryz.prog 108).run Tryz.prog w = .ok #[(0,1),(1,1),(2,1),(3,1),(4,1),(5,1),(6,1)] w:=by kernel_rfl
theorem ty109:tyF Tryz.prog 109=some (1,false,24,[.slice none 0 0]):=by kernel_rfl
theorem ty111:tyF Tryz.prog 111=some (2,true,32,[I64 (0),.slice none 0 0]):=by kernel_rfl
theorem fld111_0:fldF Tryz.prog 111 0=some 0:=by kernel_rfl
theorem fld111_1:fldF Tryz.prog 111 1=some 1:=by kernel_rfl
theorem pl111(w:World):(placesRun Tryz.prog 111).run Tryz.prog w = .ok #[(0,1),(1,1)] w:=by kernel_rfl
theorem ty125:tyF Tryz.prog 125=some (2,true,32,[.slice none 0 0,I64 (0)]):=by kernel_rfl
theorem fld125_0:fldF Tryz.prog 125 0=some 0:=by kernel_rfl
theorem fld125_1:fldF Tryz.prog 125 1=some 1:=by kernel_rfl
theorem pl125(w:World):(placesRun Tryz.prog 125).run Tryz.prog w = .ok #[(0,1),(1,1)] w:=by kernel_rfl
end Go.Sl
namespace Go.Sl
open Go.Proofs
theorem ty135:tyF Tryz.prog 135=some (2,true,16,[I64 (0),I64 (0)]):=by kernel_rfl
theorem fld135_0:fldF Tryz.prog 135 0=some 0:=by kernel_rfl
theorem fld135_1:fldF Tryz.prog 135 1=some 1:=by kernel_rfl
theorem pl135(w:World):(placesRun Tryz.prog 135).run Tryz.prog w = .ok #[(0,1),(1,1)] w:=by kernel_rfl
theorem ty146:tyF Tryz.prog 146=some (6,true,48,[I64 (0),I64 (0),I64 (0),I64 (0),I64 (0),I64 (0)]):=by kernel_rfl
theorem fld146_0:fldF Tryz.prog 146 0=some 0:=by kernel_rfl
theorem fld146_1:fldF Tryz.prog 146 1=some 1:=by kernel_rfl
theorem fld146_2:fldF Tryz.prog 146 2=some 2:=by kernel_rfl
theorem fld146_3:fldF Tryz.prog 146 3=some 3:=by kernel_rfl
theorem fld146_4:fldF Tryz.prog 146 4=some 4:=by kernel_rfl
theorem fld146_5:fldF Tryz.prog 146 5=some 5:=by kernel_rfl
theorem pl146(w:World):(placesRun Tryz.prog 146).run Tryz.prog w = .ok #[(0,1),(1,1),(2,1),(3,1),(4,1),(5,1)] w:=by kernel_rfl
theorem ty153:tyF Tryz.prog 153=some (2,true,16,[I64 (0),.bool false]):=by kernel_rfl
theorem fld153_0:fldF Tryz.prog 153 0=some 0:=by kernel_rfl
theorem fld153_1:fldF Tryz.prog 153 1=some 1:=by kernel_rfl
theorem pl153(w:World):(placesRun Tryz.prog 153).run Tryz.prog w = .ok #[(0,1),(1,1)] w:=by kernel_rfl
theorem ty163:tyF Tryz.prog 163=some (5,true,56,[I64 (0),.slice none 0 0,I64 (0),I64 (0),I64 (0)]):=by kernel_rfl
theorem fld163_0:fldF Tryz.prog 163 0=some 0:=by kernel_rfl
theorem fld163_1:fldF Tryz.prog 163 1=some 1:=by kernel_rfl
theorem fld163_2:fldF Tryz.prog 163 2=some 2:=by kernel_rfl
theorem pl163(w:World):(placesRun Tryz.prog 163).run Tryz.prog w = .ok #[(0,1),(1,1),(2,3)] w:=by kernel_rfl
theorem ty175:tyF Tryz.prog 175=some (1,false,8,[.int .u64 (0)]):=by kernel_rfl
theorem ty177:tyF Tryz.prog 177=some (2,true,16,[.int .u64 (0),.int .u64 (0)]):=by kernel_rfl
theorem fld177_0:fldF Tryz.prog 177 0=some 0:=by kernel_rfl
theorem fld177_1:fldF Tryz.prog 177 1=some 1:=by kernel_rfl
theorem pl177(w:World):(placesRun Tryz.prog 177).run Tryz.prog w = .ok #[(0,1),(1,1)] w:=by kernel_rfl
theorem ty208:tyF Tryz.prog 208=some (2,true,32,[.int .u64 (0),.slice none 0 0]):=by kernel_rfl
theorem fld208_0:fldF Tryz.prog 208 0=some 0:=by kernel_rfl
theorem fld208_1:fldF Tryz.prog 208 1=some 1:=by kernel_rfl
theorem pl208(w:World):(placesRun Tryz.prog 208).run Tryz.prog w = .ok #[(0,1),(1,1)] w:=by kernel_rfl
theorem ty211:tyF Tryz.prog 211=some (6,true,112,[.slice none 0 0,.slice none 0 0,.slice none 0 0,.slice none 0 0,.int .u64 (0),.int .u64 (0)]):=by kernel_rfl
theorem fld211_0:fldF Tryz.prog 211 0=some 0:=by kernel_rfl
theorem fld211_1:fldF Tryz.prog 211 1=some 1:=by kernel_rfl
theorem fld211_2:fldF Tryz.prog 211 2=some 2:=by kernel_rfl
theorem fld211_3:fldF Tryz.prog 211 3=some 3:=by kernel_rfl
theorem fld211_4:fldF Tryz.prog 211 4=some 4:=by kernel_rfl
theorem fld211_5:fldF Tryz.prog 211 5=some 5:=by kernel_rfl
theorem pl211(w:World):(placesRun Tryz.prog 211).run Tryz.prog w = .ok #[(0,1),(1,1),(2,1),(3,1),(4,1),(5,1)] w:=by kernel_rfl
theorem ty220:tyF Tryz.prog 220=some (5,true,5,[.bool false,.bool false,.bool false,.bool false,.bool false]):=by kernel_rfl
theorem fld220_0:fldF Tryz.prog 220 0=some 0:=by kernel_rfl
theorem fld220_1:fldF Tryz.prog 220 1=some 1:=by kernel_rfl
theorem fld220_2:fldF Tryz.prog 220 2=some 2:=by kernel_rfl
theorem fld220_3:fldF Tryz.prog 220 3=some 3:=by kernel_rfl
theorem fld220_4:fldF Tryz.prog 220 4=some 4:=by kernel_rfl
theorem pl220(w:World):(placesRun Tryz.prog 220).run Tryz.prog w = .ok #[(0,1),(1,1),(2,1),(3,1),(4,1)] w:=by kernel_rfl
theorem ty241:tyF Tryz.prog 241=some (3,true,56,[I64 (0),.slice none 0 0,.slice none 0 0]):=by kernel_rfl
theorem fld241_0:fldF Tryz.prog 241 0=some 0:=by kernel_rfl
theorem fld241_1:fldF Tryz.prog 241 1=some 2:=by kernel_rfl
theorem pl241(w:World):(placesRun Tryz.prog 241).run Tryz.prog w = .ok #[(0,2),(2,1)] w:=by kernel_rfl
end Go.Sl
namespace Go.Sl
open Go.Proofs
theorem ty301:tyF Tryz.prog 301=some (1,false,24,[.slice none 0 0]):=by kernel_rfl
theorem ty303:tyF Tryz.prog 303=some (4,true,48,[I64 (0),I64 (0),I64 (0),.slice none 0 0]):=by kernel_rfl
theorem fld303_0:fldF Tryz.prog 303 0=some 0:=by kernel_rfl
theorem fld303_1:fldF Tryz.prog 303 1=some 1:=by kernel_rfl
theorem fld303_2:fldF Tryz.prog 303 2=some 2:=by kernel_rfl
theorem fld303_3:fldF Tryz.prog 303 3=some 3:=by kernel_rfl
theorem pl303(w:World):(placesRun Tryz.prog 303).run Tryz.prog w = .ok #[(0,1),(1,1),(2,1),(3,1)] w:=by kernel_rfl
theorem ty305:tyF Tryz.prog 305=some (3,true,24,[I64 (0),I64 (0),I64 (0)]):=by kernel_rfl
theorem fld305_0:fldF Tryz.prog 305 0=some 0:=by kernel_rfl
theorem fld305_1:fldF Tryz.prog 305 1=some 1:=by kernel_rfl
theorem fld305_2:fldF Tryz.prog 305 2=some 2:=by kernel_rfl
theorem pl305(w:World):(placesRun Tryz.prog 305).run Tryz.prog w = .ok #[(0,1),(1,1),(2,1)] w:=by kernel_rfl
theorem ty336:tyF Tryz.prog 336=some (4,true,32,[I64 (0),I64 (0),I64 (0),I64 (0)]):=by kernel_rfl
theorem fld336_0:fldF Tryz.prog 336 0=some 0:=by kernel_rfl
theorem fld336_1:fldF Tryz.prog 336 1=some 3:=by kernel_rfl
theorem pl336(w:World):(placesRun Tryz.prog 336).run Tryz.prog w = .ok #[(0,3),(3,1)] w:=by kernel_rfl
theorem ty337:tyF Tryz.prog 337=some (1,false,24,[.slice none 0 0]):=by kernel_rfl
theorem ty339:tyF Tryz.prog 339=some (5,true,104,[.slice none 0 0,.slice none 0 0,.slice none 0 0,.slice none 0 0,I64 (0)]):=by kernel_rfl
theorem fld339_0:fldF Tryz.prog 339 0=some 0:=by kernel_rfl
theorem fld339_1:fldF Tryz.prog 339 1=some 1:=by kernel_rfl
theorem fld339_2:fldF Tryz.prog 339 2=some 2:=by kernel_rfl
theorem fld339_3:fldF Tryz.prog 339 3=some 3:=by kernel_rfl
theorem fld339_4:fldF Tryz.prog 339 4=some 4:=by kernel_rfl
theorem pl339(w:World):(placesRun Tryz.prog 339).run Tryz.prog w = .ok #[(0,1),(1,1),(2,1),(3,1),(4,1)] w:=by kernel_rfl
theorem call16:callable Tryz.prog 16=true:=by kernel_rfl
theorem call18:callable Tryz.prog 18=true:=by kernel_rfl
theorem call19:callable Tryz.prog 19=true:=by kernel_rfl
theorem call20:callable Tryz.prog 20=true:=by kernel_rfl
theorem call21:callable Tryz.prog 21=true:=by kernel_rfl
theorem call30:callable Tryz.prog 30=true:=by kernel_rfl
theorem call39:callable Tryz.prog 39=true:=by kernel_rfl
theorem call41:callable Tryz.prog 41=true:=by kernel_rfl
theorem call42:callable Tryz.prog 42=true:=by kernel_rfl
theorem call44:callable Tryz.prog 44=true:=by kernel_rfl
theorem call46:callable Tryz.prog 46=true:=by kernel_rfl
theorem call47:callable Tryz.prog 47=true:=by kernel_rfl
theorem call56:callable Tryz.prog 56=true:=by kernel_rfl
theorem call61:callable Tryz.prog 61=true:=by kernel_rfl
theorem call66:callable Tryz.prog 66=true:=by kernel_rfl
theorem call67:callable Tryz.prog 67=true:=by kernel_rfl
theorem call76:callable Tryz.prog 76=true:=by kernel_rfl
theorem call77:callable Tryz.prog 77=true:=by kernel_rfl
theorem call78:callable Tryz.prog 78=true:=by kernel_rfl
theorem call79:callable Tryz.prog 79=true:=by kernel_rfl
theorem call82:callable Tryz.prog 82=true:=by kernel_rfl
theorem call83:callable Tryz.prog 83=true:=by kernel_rfl
theorem call84:callable Tryz.prog 84=true:=by kernel_rfl
theorem call85:callable Tryz.prog 85=true:=by kernel_rfl
theorem call89:callable Tryz.prog 89=true:=by kernel_rfl
theorem call92:callable Tryz.prog 92=true:=by kernel_rfl
theorem call93:callable Tryz.prog 93=true:=by kernel_rfl
theorem call94:callable Tryz.prog 94=true:=by kernel_rfl
theorem call97:callable Tryz.prog 97=true:=by kernel_rfl
theorem call98:callable Tryz.prog 98=true:=by kernel_rfl
theorem call100:callable Tryz.prog 100=true:=by kernel_rfl
theorem call101:callable Tryz.prog 101=true:=by kernel_rfl
theorem call105:callable Tryz.prog 105=true:=by kernel_rfl
theorem call106:callable Tryz.prog 106=true:=by kernel_rfl
end Go.Sl
namespace Go.Sl
open Go.Proofs
theorem call122:callable Tryz.prog 122=true:=by kernel_rfl
theorem call123:callable Tryz.prog 123=true:=by kernel_rfl
theorem call124:callable Tryz.prog 124=true:=by kernel_rfl
theorem call125:callable Tryz.prog 125=true:=by kernel_rfl
theorem call126:callable Tryz.prog 126=true:=by kernel_rfl
theorem call127:callable Tryz.prog 127=true:=by kernel_rfl
theorem call128:callable Tryz.prog 128=true:=by kernel_rfl
theorem call129:callable Tryz.prog 129=true:=by kernel_rfl
theorem call130:callable Tryz.prog 130=true:=by kernel_rfl
theorem call131:callable Tryz.prog 131=true:=by kernel_rfl
theorem call132:callable Tryz.prog 132=true:=by kernel_rfl
theorem call139:callable Tryz.prog 139=true:=by kernel_rfl
theorem call140:callable Tryz.prog 140=true:=by kernel_rfl
theorem call141:callable Tryz.prog 141=true:=by kernel_rfl
theorem call153:callable Tryz.prog 153=true:=by kernel_rfl
theorem call154:callable Tryz.prog 154=true:=by kernel_rfl
theorem call155:callable Tryz.prog 155=true:=by kernel_rfl
theorem call157:callable Tryz.prog 157=true:=by kernel_rfl
theorem call158:callable Tryz.prog 158=true:=by kernel_rfl
theorem call159:callable Tryz.prog 159=true:=by kernel_rfl
theorem call160:callable Tryz.prog 160=true:=by kernel_rfl
theorem call161:callable Tryz.prog 161=true:=by kernel_rfl
theorem call162:callable Tryz.prog 162=true:=by kernel_rfl
theorem call163:callable Tryz.prog 163=true:=by kernel_rfl
theorem call164:callable Tryz.prog 164=true:=by kernel_rfl
theorem call165:callable Tryz.prog 165=true:=by kernel_rfl
theorem call166:callable Tryz.prog 166=true:=by kernel_rfl
theorem call167:callable Tryz.prog 167=true:=by kernel_rfl
theorem call168:callable Tryz.prog 168=true:=by kernel_rfl
theorem call169:callable Tryz.prog 169=true:=by kernel_rfl
theorem call170:callable Tryz.prog 170=true:=by kernel_rfl
theorem call171:callable Tryz.prog 171=true:=by kernel_rfl
theorem call172:callable Tryz.prog 172=true:=by kernel_rfl
theorem call173:callable Tryz.prog 173=true:=by kernel_rfl
theorem call176:callable Tryz.prog 176=true:=by kernel_rfl
theorem call180:callable Tryz.prog 180=true:=by kernel_rfl
theorem call186:callable Tryz.prog 186=true:=by kernel_rfl
theorem call191:callable Tryz.prog 191=true:=by kernel_rfl
theorem call200:callable Tryz.prog 200=true:=by kernel_rfl
theorem call204:callable Tryz.prog 204=true:=by kernel_rfl
theorem call205:callable Tryz.prog 205=true:=by kernel_rfl
theorem call209:callable Tryz.prog 209=true:=by kernel_rfl
theorem call210:callable Tryz.prog 210=true:=by kernel_rfl
theorem call211:callable Tryz.prog 211=true:=by kernel_rfl
theorem call212:callable Tryz.prog 212=true:=by kernel_rfl
theorem call213:callable Tryz.prog 213=true:=by kernel_rfl
theorem call214:callable Tryz.prog 214=true:=by kernel_rfl
theorem call215:callable Tryz.prog 215=true:=by kernel_rfl
theorem call216:callable Tryz.prog 216=true:=by kernel_rfl
theorem call220:callable Tryz.prog 220=true:=by kernel_rfl
theorem call224:callable Tryz.prog 224=true:=by kernel_rfl
theorem call225:callable Tryz.prog 225=true:=by kernel_rfl
theorem call226:callable Tryz.prog 226=true:=by kernel_rfl
theorem call228:callable Tryz.prog 228=true:=by kernel_rfl
theorem call229:callable Tryz.prog 229=true:=by kernel_rfl
theorem call230:callable Tryz.prog 230=true:=by kernel_rfl
theorem call231:callable Tryz.prog 231=true:=by kernel_rfl
theorem call232:callable Tryz.prog 232=true:=by kernel_rfl
theorem call233:callable Tryz.prog 233=true:=by kernel_rfl
theorem call234:callable Tryz.prog 234=true:=by kernel_rfl
theorem call237:callable Tryz.prog 237=true:=by kernel_rfl
theorem call247:callable Tryz.prog 247=true:=by kernel_rfl
theorem call250:callable Tryz.prog 250=true:=by kernel_rfl
theorem call251:callable Tryz.prog 251=true:=by kernel_rfl
theorem call252:callable Tryz.prog 252=true:=by kernel_rfl
theorem call253:callable Tryz.prog 253=true:=by kernel_rfl
theorem call254:callable Tryz.prog 254=true:=by kernel_rfl
theorem call255:callable Tryz.prog 255=true:=by kernel_rfl
theorem call256:callable Tryz.prog 256=true:=by kernel_rfl
theorem call257:callable Tryz.prog 257=true:=by kernel_rfl
theorem call258:callable Tryz.prog 258=true:=by kernel_rfl
theorem call259:callable Tryz.prog 259=true:=by kernel_rfl
theorem call272:callable Tryz.prog 272=true:=by kernel_rfl
theorem call277:callable Tryz.prog 277=true:=by kernel_rfl
theorem call278:callable Tryz.prog 278=true:=by kernel_rfl
theorem call279:callable Tryz.prog 279=true:=by kernel_rfl
theorem call280:callable Tryz.prog 280=true:=by kernel_rfl
theorem call281:callable Tryz.prog 281=true:=by kernel_rfl
theorem call282:callable Tryz.prog 282=true:=by kernel_rfl
theorem call283:callable Tryz.prog 283=true:=by kernel_rfl
theorem call291:callable Tryz.prog 291=true:=by kernel_rfl
theorem call292:callable Tryz.prog 292=true:=by kernel_rfl
theorem call293:callable Tryz.prog 293=true:=by kernel_rfl
theorem call294:callable Tryz.prog 294=true:=by kernel_rfl
theorem call295:callable Tryz.prog 295=true:=by kernel_rfl
theorem call296:callable Tryz.prog 296=true:=by kernel_rfl
theorem call297:callable Tryz.prog 297=true:=by kernel_rfl
theorem call298:callable Tryz.prog 298=true:=by kernel_rfl
theorem call299:callable Tryz.prog 299=true:=by kernel_rfl
theorem call300:callable Tryz.prog 300=true:=by kernel_rfl
theorem call301:callable Tryz.prog 301=true:=by kernel_rfl
theorem call302:callable Tryz.prog 302=true:=by kernel_rfl
theorem call303:callable Tryz.prog 303=true:=by kernel_rfl
theorem call309:callable Tryz.prog 309=true:=by kernel_rfl
theorem call315:callable Tryz.prog 315=true:=by kernel_rfl
theorem call317:callable Tryz.prog 317=true:=by kernel_rfl
theorem call318:callable Tryz.prog 318=true:=by kernel_rfl
theorem call321:callable Tryz.prog 321=true:=by kernel_rfl
theorem call323:callable Tryz.prog 323=true:=by kernel_rfl
theorem call335:callable Tryz.prog 335=true:=by kernel_rfl
theorem call336:callable Tryz.prog 336=true:=by kernel_rfl
theorem call341:callable Tryz.prog 341=true:=by kernel_rfl
theorem call342:callable Tryz.prog 342=true:=by kernel_rfl
theorem mixed:Tryz.prog.follows .mixedOrders=true:=by kernel_rfl
end Go.Sl

namespace Go.Sl
open Go.Proofs
set_option maxRecDepth 4000
variable {κ:Ctx}{I:List Item}
abbrev deck(b:Nat)(lv:Value)(i:Int):Item:=blk b [lv,I64 i] 125
theorem Mod_ok{n k:Int}(h1:1≤k)(h2:k≤1000000000000) :
    CallS Tryz.prog κ 76 [I64 (n),I64 (k)] I (fun r J=>∃x:Int,r=I64 x∧(0≤x∧x<k)∧I=J):=by
 have q1:=Int.tmod_lt_of_pos n (b:=k) om
 have q2:=Int.lt_tmod_of_pos n (b:=k) om
 refine Ce2 Tryz.func76 rfl rfl ?_
 refine Ah (Ga rfl (Af (Ah (Gm rfl (Gm rfl (Gr (Runs.rem rfl rfl om) (Gm rfl (Gr (Rad rfl rfl) (Gm rfl (Gr (Runs.rem rfl rfl om) (Ga rfl (Af (Ay ?_)))))))))))))
 have t1:=Int.tmod_nonneg k (a:=Int.tmod n k+k) om
 have t2:=Int.tmod_lt_of_pos (Int.tmod n k+k) (b:=k) om
 exact A0 rfl rfl (_) A1 ⟨_,rfl,⟨t1,t2⟩,rfl⟩
theorem Next_base{b:Nat}{lv:Value}{ls:List Int}{i:Int}(hl:Sl κ (deck b lv i::I) lv ls)(h0:0≤i){n:Int}(hn:n≤1000000000000) :
    CallS Tryz.prog κ 19 [.pointer (some ⟨b,0,none⟩),I64 (n)] (blk b [lv,I64 (i)] 125::I) (fun r J=>∃y:Int×Int,(r=I64 y.1∧(0≤y.1∧(1≤n→y.1<n)∧(n<1→y.1=0))∧0≤y.2)∧J=[]++deck b lv y.2::I):=by
 refine B4 hl.le fun hmax=>?_
 refine Ce2 Tryz.func19 rfl rfl ?_
 refine Ah (Ga rfl (Af (Av (Av (Bk mixed (Bq (blk b [lv,I64 (i)] 125::I) 14 (Dr 0 rfl (Ac rfl) (Dr 1 rfl (A8 rfl rfl) (Dr 2 rfl (Ac rfl) (Dt (d:=8) rfl (fun g8=>?_) (fun g8=>?_)))))))))))
 ·exact Dpo 3 rfl (Dpo 4 rfl (Dpo 5 rfl (Dpo 6 rfl (Dpo 7 rfl (Dpo 8 rfl (Dpo 9 rfl (Dpo 10 rfl (Dpo 11 rfl (Dpo 12 rfl (Dr 13 rfl (Ao rfl rfl) (Dz (Ai (Ar (S3 19 0 1 rfl rfl rfl) (B6 rfl (Ah (Ga rfl (Af (Ay (Ad (A0 rfl rfl (_) A1 ⟨(0,i),⟨rfl,⟨Int.le_refl _,by intro _;show (0:Int)<n;omega,fun _=>rfl⟩,h0⟩,rfl⟩))))))))))))))))))))
 ·refine Dro 3 rfl (Ac rfl) (Dro 4 rfl (Bg rfl) (Dro 5 rfl (Aa fld125_1 rfl) (Dro 6 rfl (As ty3) ?_)))
  refine Dro 7 rfl (Ac rfl) (Dro 8 rfl (Bg rfl) (Dro 9 rfl (Aa fld125_0 rfl) (Dro 10 rfl (As ty22) ?_)))
  refine Dro 11 rfl (Bu (α:=Int) (xs:=ls) Am rfl (Bl hl)) (Dro 12 rfl (B5 rfl rfl) (Dr 13 rfl (Ak rfl rfl) (Dz (Ai (Ar (S3 19 0 1 rfl rfl rfl) (A6 rfl (fun c19=>?_) (fun c19=>?_)))))))
  ·exact Ah (Ga rfl (Af (Ay (Ad (A0 rfl rfl (_) A1 ⟨(0,i),⟨rfl,⟨Int.le_refl _,by intro _;show (0:Int)<n;omega,fun _=>rfl⟩,h0⟩,rfl⟩)))))
  ·refine Az (Ai (Av (Bk mixed (Bq (blk b [lv,I64 (i)] 125::I) 11 (Dr 0 rfl (Ac rfl) (Dr 1 rfl (Bg rfl) (Dr 2 rfl (Aa fld125_0 rfl) (Dr 3 rfl (As ty22) ?_))))))))
   refine Dr 4 rfl (Ac rfl) (Dr 5 rfl (Bg rfl) (Dr 6 rfl (Aa fld125_1 rfl) (Dr 7 rfl (As ty3) ?_)))
   refine Dr 8 rfl (Ba (α:=Int) (xs:=ls) Am ty3 rfl rfl (Bl hl) om om) (Dr 9 rfl (Cb (xs:=ls) ty3 rfl (Bl hl) om om) (Dr 10 rfl (Bd rfl) (Dz (Ai (Ar (S3 5 0 1 rfl rfl rfl) (Ah (Gm rfl (Gr (Bg rfl) (Gf fld125_1 rfl (Gl ty3 ?_))))))))))
   refine Gr (Rad rfl rfl) (Gr (Bg rfl) (Gf fld125_1 rfl (Ge0 (Dy ty3) ?_)))
   refine Af (Ah (Gm rfl (Gm rfl (G.e (Aj call76 rfl rfl (Mod_ok om om)) ?_))))
   rintro _ _ ⟨_,_,⟨x1,rfl,hx1,rfl⟩,rfl,rfl⟩
   exact Ga rfl (Af (Ar (S1 4 rfl) (Ay (A0 rfl rfl (_) A1 ⟨(x1,i+1),⟨rfl,⟨by omega,by omega,by omega⟩,by show 0≤i+1;omega⟩,rfl⟩))))
theorem Next_ok{F:Item→List Item}{b:Nat}{lv:Value}{ls:List Int}{i:Int}(hat:AtF I (deck b lv i) F)(hl:Sl κ I lv ls)(h0:0≤i){n:Int}(hn:n≤1000000000000) :
  CallS Tryz.prog κ 19 [.pointer (some ⟨b,0,none⟩),I64 n] I fun r J=>∃x i',r=I64 x∧(0≤x∧(1≤n→x<n)∧(n<1→x=0))∧0≤i'∧J=F (deck b lv i'):=
 (D4 (Z:=fun _=>[]) (X:=fun y:Int×Int=>deck b lv y.2) hat fun _ hJ _=>Next_base (hl.fit hJ) h0 hn).mono fun _ _ ⟨y,⟨h1,h2,h3⟩,h4⟩=>⟨y.1,y.2,h1,h2,h3,h4⟩
theorem New_ok{a:Option Addr}{n c:Nat} :
    CallS Tryz.prog κ 18 [.slice a n c] I (fun r J=>∃b,r = .pointer (some ⟨b,0,none⟩)∧J=deck b (.slice a n c) 0::I):=by
 refine Ce1 Tryz.func18 rfl rfl ?_
 exact Ah (Ga rfl (Af (Ah (Gm rfl (Gr (Bc (cells:=[_,_]) ty125 Tryz.underlying125 pl125 rfl rfl) (Ge1 (Bb (cs:=[_,_]) rfl rfl rfl) fun b1=>Ga rfl (Af (Ay (A0 rfl rfl (_) A1 ⟨b1,rfl,rfl⟩)))))))))
variable {κ:Ctx}{I:List Item}
theorem IsNaN_ok(n:Int) :
    CallS Tryz.prog κ 277 [I64 (n)] I (fun r J=>r = .bool false∧I=J):=by
 refine Ce1 Tryz.func277 rfl rfl ?_
 exact Ah (Ga rfl (Af (Ah (Gm rfl (Gm rfl (Gr (Bh rfl rfl) (Ga rfl (Af (Ay (A0 rfl rfl (I) A1 ⟨by simp,rfl⟩))))))))))
theorem Compare_ok(m n:Int) :
    CallS Tryz.prog κ 225 [I64 (m),I64 (n)] I (fun r J=>r=I64 (cmpI m n)∧I=J):=by
 refine Ce2 Tryz.func225 rfl rfl ?_
 refine Ah (Ga rfl (Af (Ah (Gm rfl (Gc0 (Aj call277 rfl rfl (IsNaN_ok m)) ?_)))))
 refine Ga rfl (Af (Ah (Gm rfl (Gc0 (Aj call277 rfl rfl (IsNaN_ok n)) ?_))))
 refine Ga rfl (Af (Av (Ah (Gm rfl (Af (Cw rfl (Az (Ai (Av (Ah (Gm rfl (Af (Cw rfl (Az (Ai (Av (Ah (Gm rfl (Gm rfl (Gr (A8 rfl rfl) (Af (Ar (S3 16 0 1 rfl rfl rfl) (A6 rfl (fun c16=>?_) (fun c16=>?_))))))))))))))))))))))))
 ·exact Ah (Ga rfl (Af (Ay (Ad (A0 rfl rfl (I) A1 ⟨by unfold cmpI;rw [if_pos c16],rfl⟩)))))
 ·refine Az (Ai (Av (Ah (Gm rfl (Gm rfl (Gr (Br rfl rfl) (Af (A6 rfl (fun c19=>?_) (fun c19=>?_)))))))))
  ·exact Ah (Ga rfl (Af (Ay (Ad (A0 rfl rfl (I) A1 ⟨by unfold cmpI;rw [if_neg c16,if_pos c19],rfl⟩)))))
  ·exact Az (Ai (Ah (Ga rfl (Af (Ay (A0 rfl rfl (I) A1 ⟨by unfold cmpI;rw [if_neg c16,if_neg c19],rfl⟩))))))
theorem Or_ok{v:Value}{xs:List Int}(hl:Sl κ I v xs) :
    CallS Tryz.prog κ 224 [v] I (fun r J=>r=I64 (orL xs)∧I=J):=by
 refine B4 hl.le fun hmax=>?_
 refine Ce1 Tryz.func224 rfl rfl ?_
 refine Ah (Ga rfl (Af (Ah (Ga rfl (Af (Av (Ah (Gm rfl (Gr (Bu (α:=Int) (xs:=xs) Am rfl (Bl hl)) (Gm rfl (Af (A5 (Bv (σ:=Nat) (fun s=>([(3,I64 (0)),(6,v),(7,I64 (((xs.length:Nat):Int))),(8,I64 (((s:Nat):Int)))]:Env)) (fun s=>I) (fun s=>(s≤xs.length)∧(orL xs=orL (xs.drop s))) (fun s=>xs.length - s) (0) (show ((0:Nat)≤xs.length)∧(orL xs=orL (xs.drop (0:Nat))) from ⟨om,rfl⟩) (Ab rfl (Ab rfl (Ab rfl (Ab Ca Bp)))) (show Fit κ _ (I) from A4) ?_)))))))))))))
 rintro k hp
 obtain ⟨hk,ho⟩:=hp
 refine Ah (Gr (A8 rfl rfl) (Af (Av (A6 rfl (fun c9=>?_) (fun c9=>?_)))))
 ·refine Az (Ai (Av (A5 (Ah (Gr (Ba (α:=Int) (xs:=xs) Am ty3 rfl rfl (Bl hl) om om) (Gr (Cb (xs:=xs) ty3 rfl (Bl hl) om om) (Ga rfl (Af (Ah (Gm rfl (Gm rfl (Gr (Bh rfl rfl) (Af (A6 rfl (fun c14=>?_) (fun c14=>?_)))))))))))))))
  ·exact Ah (Gm rfl (Ga rfl (Af (Ay (Au (Ad (Ad (Au (Ad (A0 rfl rfl (I) A1 ⟨by rw [ho,orL_stop om c14],rfl⟩))))))))))
  ·exact Az (Al (Ai (A2 (Gr (Rad rfl rfl) (Gm rfl (Be (B0 ((k+1)) ⟨om,(ho.trans (orL_step om (Decidable.of_not_not c14)))⟩)))))))
 ·exact Bt (Aq (Aq (A9 (Ai (Ah (Gm rfl (Ga rfl (Af (Ay (A0 rfl rfl (I) A1 ⟨by rw [ho,orL_end om],rfl⟩))))))))))
theorem Before03_ok{κ:Ctx}{I:List Item}(a c:Pt) :
    CallS Tryz.prog κ 84 [.agg #[I64 (a.u),I64 (a.v)],.agg #[I64 (c.u),I64 (c.v)]] I (fun r J=>r = .bool (decide (Pt.lt a c))∧I=J):=by
 refine Ce2 Tryz.func84 rfl rfl ?_
 refine Ah (Ge1 (Bb (cs:=[_,_]) rfl rfl rfl) fun b1=>Ge1 (Bb (cs:=[_,_]) rfl rfl rfl) fun b2=>Ga rfl (Af (Ah (Gf fld135_0 rfl (Gl ty3 ?_)))))
 refine Gf fld135_0 rfl (Gl ty3 ?_)
 refine Gr (A8 rfl rfl) (Gm rfl (A7 (d:=10) rfl (fun g10=>?_) (fun g10=>?_)))
 ·exact Gpo (Gpo (Gpo (Gpo (Gpo (Gpo (Gpu (Gpu (Gpu (Gpu (Gpu (Gpo (Gr (Ao rfl rfl) (Ga rfl (Af (Ar (S1 4 rfl) (Ay (A0 rfl rfl (I) A1 ⟨(by first|exact congrArg Value.bool (decide_eq_decide.2 (by unfold Pt.lt;omega))|exact congrArg Value.bool (decide_eq_true (by unfold Pt.lt;omega)).symm|exact congrArg Value.bool (decide_eq_false (by unfold Pt.lt;omega)).symm),rfl⟩)))))))))))))))))
 ·refine Gro (Aa fld135_0 rfl) (Gro (As ty3) ?_)
  refine Gro (Aa fld135_0 rfl) (Gro (As ty3) ?_)
  refine Gro (Bi rfl rfl) (Gro (Ac rfl) (A7 (d:=16) rfl (fun g16=>?_) (fun g16=>?_)))
  ·refine Gro (Aa fld135_1 rfl) (Gro (As ty3) ?_)
   refine Gro (Aa fld135_1 rfl) (Gro (As ty3) ?_)
   exact Gro (A8 rfl rfl) (Gro (Ao rfl rfl) (Gr (Ak rfl rfl) (Ga rfl (Af (Ar (S1 4 rfl) (Ay (A0 rfl rfl (I) A1 ⟨(by first|exact congrArg Value.bool (decide_eq_decide.2 (by unfold Pt.lt;omega))|exact congrArg Value.bool (decide_eq_true (by unfold Pt.lt;omega)).symm|exact congrArg Value.bool (decide_eq_false (by unfold Pt.lt;omega)).symm),rfl⟩)))))))
  ·exact Gpo (Gpo (Gpo (Gpo (Gpo (Gro (Ak rfl rfl) (Gr (Ak rfl rfl) (Ga rfl (Af (Ar (S1 4 rfl) (Ay (A0 rfl rfl (I) A1 ⟨(by first|exact congrArg Value.bool (decide_eq_decide.2 (by unfold Pt.lt;omega))|exact congrArg Value.bool (decide_eq_true (by unfold Pt.lt;omega)).symm|exact congrArg Value.bool (decide_eq_false (by unfold Pt.lt;omega)).symm),rfl⟩)))))))))))
def cmpL:List Int→List Int→Int
 |[],[]=>0
 |[],_::_=> -1
 |_::_,[]=>1
 |x::xs,y::ys=>if y<x then 1 else if x<y then -1 else cmpL xs ys
theorem cmpL_eq:∀xs ys,cmpL xs ys=0↔xs=ys
 |[],[]=>by simp [cmpL]
 |[],_::_=>by simp [cmpL]
 |_::_,[]=>by simp [cmpL]
 |x::xs,y::ys=>by
  simp only [cmpL]
  split
  ·simp;omega
  ·split
   ·simp;omega
   ·rw [cmpL_eq xs ys]
    have:x=y:=by omega
    simp [this]
theorem cmpL_drop(xs ys:List Int)(k:Nat)(hx:k<xs.length)(hy:k<ys.length)(h1:¬at_ ys (k:Int)<at_ xs (k:Int))(h2:¬at_ xs (k:Int)<at_ ys (k:Int)):cmpL (xs.drop k) (ys.drop k)=cmpL (xs.drop (k+1)) (ys.drop (k+1)):=by
 rw [C1 xs k hx,C1 ys k hy]
 simp only [cmpL]
 rw [if_neg h1,if_neg h2]
theorem cmpL_drop1(xs ys:List Int)(k:Nat)(hx:k<xs.length)(h:ys.length≤k∨(k<ys.length∧at_ ys (k:Int)<at_ xs (k:Int))):cmpL (xs.drop k) (ys.drop k)=1:=by
 rw [C1 xs k hx]
 rcases h with h|⟨hy,h⟩
 ·rw [List.drop_eq_nil_of_le h];rfl
 ·rw [C1 ys k hy];simp only [cmpL];rw [if_pos h]
theorem cmpL_dropn(xs ys:List Int)(k:Nat)(hx:k<xs.length)(hy:k<ys.length)(h1:¬at_ ys (k:Int)<at_ xs (k:Int))(h:at_ xs (k:Int)<at_ ys (k:Int)):cmpL (xs.drop k) (ys.drop k) = -1:=by
 rw [C1 xs k hx,C1 ys k hy];simp only [cmpL];rw [if_neg h1,if_pos h]
theorem cmpL_end(xs ys:List Int)(k:Nat)(hx:xs.length≤k):cmpL (xs.drop k) (ys.drop k)=if k<ys.length then -1 else 0:=by
 rw [List.drop_eq_nil_of_le hx]
 split
 ·rename_i h;rw [C1 ys k h];rfl
 ·rename_i h;rw [List.drop_eq_nil_of_le om];rfl
theorem Cmp_ok{κ:Ctx}{I:List Item}{u v:Value}{xs ys:List Int}(hu:Sl κ I u xs)(hv:Sl κ I v ys) :
    CallS Tryz.prog κ 61 [u,v] I (fun r J=>r=I64 (cmpL xs ys)∧I=J):=by
 refine B4 hu.le fun hmax=>?_
 refine B4 hv.le fun hmax2=>?_
 refine Ce2 Tryz.func61 rfl rfl ?_
 refine Ah (Ga rfl (Af (Av (Ah (Gm rfl (Gr (Bu (α:=Int) (xs:=xs) Am rfl (Bl hu)) (Gm rfl (Af (A5 (Bv (σ:=Nat) (fun s=>([(0,u),(1,v),(7,I64 (((xs.length:Nat):Int))),(8,I64 (((s:Nat):Int)))]:Env)) (fun s=>I) (fun s=>(s≤xs.length)∧(cmpL xs ys=cmpL (xs.drop s) (ys.drop s))) (fun s=>xs.length - s) (0) (show ((0:Nat)≤xs.length)∧(cmpL xs ys=cmpL (xs.drop (0:Nat)) (ys.drop (0:Nat))) from ⟨om,rfl⟩) (Ab rfl (Ab rfl (Ab rfl (Ab Ca Bp)))) (show Fit κ _ (I) from A4) ?_))))))))))
 rintro k hp
 obtain ⟨hk,hc⟩:=hp
 refine Ah (Gr (A8 rfl rfl) (Af (Av (A6 rfl (fun c9=>?_) (fun c9=>?_)))))
 ·refine Az (Ai (Av (A5 (Ah (Gm rfl (Ga rfl (Af (A5 (Av (Bk mixed (Bq (I) 16 (Dr 0 rfl (Ac rfl) (Dr 1 rfl (Ac rfl) (Dr 2 rfl (Bu (α:=Int) (xs:=ys) Am rfl (Bl hv)) (Dr 3 rfl (B5 rfl rfl) (Dr 4 rfl (Ac rfl) (Dt (d:=16) rfl (fun g16=>?_) (fun g16=>?_))))))))))))))))))
  ·exact Dpo 5 rfl (Dpo 6 rfl (Dpo 7 rfl (Dpo 8 rfl (Dpo 9 rfl (Dpo 10 rfl (Dpo 11 rfl (Dpo 12 rfl (Dpo 13 rfl (Dr 14 rfl (Ao rfl rfl) (Dr 15 rfl (Bd rfl) (Dz (Ai (Ar (S6 11 5 0 1 7 8 rfl rfl rfl rfl rfl rfl) (B6 rfl (Ah (Ga rfl (Af (Ay (Au (Au (Ad (Ad (Au (Ad (A0 rfl rfl (_) A1 ⟨by rw [hc,cmpL_drop1 xs ys k om (.inl om)],rfl⟩)))))))))))))))))))))))))
  ·refine Dro 5 rfl (Ac rfl) (Dro 6 rfl (Ac rfl) (Dro 7 rfl (Ba (α:=Int) (xs:=xs) Am ty3 rfl rfl (Bl hu) om om) (Dro 8 rfl (Cb (xs:=xs) ty3 rfl (Bl hu) om om) (Dro 9 rfl (Ac rfl) (Dro 10 rfl (Ac rfl) (Dro 11 rfl (Ba (α:=Int) (xs:=ys) Am ty3 rfl rfl (Bl hv) om om) (Dro 12 rfl (Cb (xs:=ys) ty3 rfl (Bl hv) om om) (Dro 13 rfl (Br rfl rfl) (Dr 14 rfl (Ak rfl rfl) (Dr 15 rfl (Bd rfl) (Dz (Ai (Ar (S6 11 5 0 1 7 8 rfl rfl rfl rfl rfl rfl) (A6 rfl (fun c11=>?_) (fun c11=>?_)))))))))))))))
   ·exact Ah (Ga rfl (Af (Ay (Au (Au (Ad (Ad (Au (Ad (A0 rfl rfl (_) A1 ⟨by rw [hc,cmpL_drop1 xs ys k om (.inr ⟨by omega,by omega⟩)],rfl⟩))))))))))
   ·refine Av (Bk mixed (Bq (I) 10 (Dr 0 rfl (Ac rfl) (Dr 1 rfl (Ac rfl) (Dr 2 rfl (Ba (α:=Int) (xs:=xs) Am ty3 rfl rfl (Bl hu) om om) (Dr 3 rfl (Cb (xs:=xs) ty3 rfl (Bl hu) om om) (Dr 4 rfl (Ac rfl) (Dr 5 rfl (Ac rfl) (Dr 6 rfl (Ba (α:=Int) (xs:=ys) Am ty3 rfl rfl (Bl hv) om om) (Dr 7 rfl (Cb (xs:=ys) ty3 rfl (Bl hv) om om) (Dr 8 rfl (A8 rfl rfl) (Dr 9 rfl (Bd rfl) (Dz (Ai (Ar (S5 27 0 1 7 8 rfl rfl rfl rfl rfl) (A6 rfl (fun c27=>?_) (fun c27=>?_)))))))))))))))))
    ·exact Ah (Ga rfl (Af (Ay (Au (Au (Ad (Ad (Au (Ad (A0 rfl rfl (_) A1 ⟨by rw [hc,cmpL_dropn xs ys k om om om om],rfl⟩))))))))))
    ·exact Az (Al (Al (Ai (A2 (Gr (Rad rfl rfl) (Gm rfl (Be (B0 ((k+1)) ⟨om,(hc.trans (cmpL_drop xs ys k om om om om))⟩))))))))
 ·refine Bt (Aq (Aq (A9 (Ai (Av (Ah (Gm rfl (Gr (Bu (α:=Int) (xs:=xs) Am rfl (Bl hu)) (Gm rfl (Gr (Bu (α:=Int) (xs:=ys) Am rfl (Bl hv)) (Gr (A8 rfl rfl) (Af (A6 rfl (fun c42=>?_) (fun c42=>?_))))))))))))))
  ·exact Ah (Ga rfl (Af (Ay (Ad (A0 rfl rfl (_) A1 ⟨by rw [hc,cmpL_end xs ys k om,if_pos om],rfl⟩)))))
  ·exact Az (Ai (Ah (Ga rfl (Af (Ay (A0 rfl rfl (_) A1 ⟨by rw [hc,cmpL_end xs ys k om,if_neg om],rfl⟩))))))
variable {κ:Ctx}{I:List Item}
def putL:List Int→Int→List Int
 |[],x=>[x]
 |y::ys,x=>if y<x then y::putL ys x else if y=x then y::ys else x::y::ys
def ofL(l:List Int):List Int:=l.foldl putL []
theorem putL_at:∀(xs:List Int) (i:Nat) (x:Int),i≤xs.length→(∀j,j<i→at_ xs (j:Int)<x)→
  (i<xs.length→at_ xs (i:Int)=x→putL xs x=xs)∧((i=xs.length∨(i<xs.length∧x<at_ xs (i:Int)))→putL xs x=(xs.take i++[x])++xs.drop i)
 |[],i,x,hi,h=>by
  obtain rfl:i=0:=by simpa using hi
  exact ⟨fun h=>by simp at h,fun _=>rfl⟩
 |y::ys,0,x,hi,h=>by
  refine ⟨fun _ e=>?_,fun e=>?_⟩
  ·have e':y=x:=e
   simp only [putL];rw [if_neg om,if_pos e']
  ·rcases e with e|⟨_,e⟩
   ·simp at e
   ·have e':x<y:=e
    simp only [putL];rw [if_neg om,if_neg om];rfl
 |y::ys,i+1,x,hi,h=>by
  have h0:y<x:=h 0 om
  have ha:∀j:Nat,at_ (y::ys) ((j+1:Nat):Int)=at_ ys (j:Int):=fun j=>by rw [at_nat,at_nat];simp
  obtain ⟨h1,h2⟩:=putL_at ys i x (by simpa using hi) fun j hj=>by have:=h (j+1) om;rwa [ha] at this
  refine ⟨fun hl e=>?_,fun e=>?_⟩
  ·simp only [putL];rw [if_pos h0,h1 (by simpa using hl) (by rwa [ha] at e)]
  ·simp only [putL];rw [if_pos h0,h2 (by rw [ha] at e;simpa using e)];rfl
theorem ofL_take(xs:List Int)(k:Nat)(h:k<xs.length):ofL (xs.take (k+1))=putL (ofL (xs.take k)) (at_ xs (k:Int)):=by
 rw [Da xs k h];simp [ofL]
theorem mem_putL(x y:Int):∀l,y∈putL l x↔y=x∨y∈l
 |[]=>by simp [putL]
 |z::zs=>by
  simp only [putL]
  split
  ·simp only [List.mem_cons,mem_putL x y zs]
   constructor
   ·rintro (h|h|h)<;>simp [h]
   ·rintro (h|h|h)<;>simp [h]
  ·split
   ·rename_i e;subst e;simp
   ·simp
theorem mem_foldl_putL(y:Int):∀(l acc:List Int),y∈l.foldl putL acc↔y∈l∨y∈acc
 |[],acc=>by simp
 |x::l,acc=>by
  rw [List.foldl_cons,mem_foldl_putL y l,mem_putL]
  simp only [List.mem_cons]
  constructor
  ·rintro (h|h|h)<;>simp [h]
  ·rintro ((h|h)|h)<;>simp [h]
theorem mem_ofL(l:List Int)(y:Int):y∈ofL l↔y∈l:=by simp [ofL,mem_foldl_putL]
theorem putL_len(x:Int):∀l,(putL l x).length≤l.length+1
 |[]=>by simp [putL]
 |y::ys=>by
  simp only [putL]
  split
  ·have:=putL_len x ys;simp;omega
  ·split<;>simp
theorem ofL_len(l:List Int):(ofL l).length≤l.length:=by
 have h:∀(l acc:List Int),(l.foldl putL acc).length≤l.length+acc.length:=fun l=>by
  induction l with
  |nil=>intro acc;simp
  |cons x l ih=>intro acc;have:=ih (putL acc x);have:=putL_len x acc;simp;omega
 have:=h l []
 simpa [ofL] using this
theorem Put_ok{a:Option Addr}{c:Nat}{xs:List Int}(hb:xs.length<17592186044415)(x:Int) :
    CallS Tryz.prog κ 153 [.slice a xs.length c,I64 (x)] (vc 3 (.slice a xs.length c) (xs)::I) (fun r J=>∃a' c',r = .slice a' (putL xs x).length c'∧J=vc 3 (.slice a' (putL xs x).length c') (putL xs x)::I):=by
 refine B4 (fun w hs=>(Sl.vec (κ:=κ) (List.mem_cons_self)).le w hs) fun hmax=>?_
 refine Ce2 Tryz.func153 rfl rfl ?_
 refine Ah (Ga rfl (Af (Ah (Ga rfl (Af (Ek (σ:=Nat) (fun s=>([(0,.slice a xs.length c),(1,I64 (x)),(5,I64 (((s:Nat):Int)))]:Env)) (fun s=>vc 3 (.slice a xs.length c) (xs)::I) (fun s=>(s≤xs.length)∧(∀j,j<s→at_ xs (j:Int)<x)∧(s=xs.length∨(s<xs.length∧¬at_ xs (s:Int)<x))) ?_ ?_))))))
 ·refine A5 (Bv (σ:=Nat) (fun s=>([(0,.slice a xs.length c),(1,I64 (x)),(5,I64 (((s:Nat):Int)))]:Env)) (fun s=>vc 3 (.slice a xs.length c) (xs)::I) (fun s=>(s≤xs.length)∧(∀j,j<s→at_ xs (j:Int)<x)) (fun s=>xs.length - s) (0) (show ((0:Nat)≤xs.length)∧(∀j,j<(0:Nat)→at_ xs (j:Int)<x) from ⟨om,all_zero⟩) (Ab rfl (Ab rfl (Ab Ca Bp))) (show Fit κ _ (vc 3 (.slice a xs.length c) (xs)::I) from A4) ?_)
  rintro i hp
  obtain ⟨hi,hlt⟩:=hp
  refine Av (Ah (Gm rfl (Gm rfl (Gr (B3 Am rfl) (Gr (A8 rfl rfl) (Gm rfl (A7 (d:=11) rfl (fun g11=>?_) (fun g11=>?_))))))))
  ·refine Gro (Ac rfl) (Gro (Ac rfl) (Gro (Ba (α:=Int) (xs:=xs) Am ty3 rfl rfl Bo om om) (Gro (Cb (xs:=xs) ty3 rfl Bo om om) (Gro (Ac rfl) (Gro (A8 rfl rfl) (Gr (Ao rfl rfl) (Af (Ar (S4 18 0 1 5 rfl rfl rfl rfl) (A6 rfl (fun c18=>?_) (fun c18=>?_))))))))))
   ·exact Az (Ai (A5 (A2 (Gm rfl (Gr (Rad rfl rfl) (Ga rfl (Be (Al (B0 ((i+1)) ⟨om,(Du hlt om)⟩)))))))))
   ·exact Bt (Aq (Aq (A9 (Cl ((i)) ⟨om,hlt,om⟩))))
  ·exact Gpo (Gpo (Gpo (Gpo (Gpo (Gpo (Gr (Ak rfl rfl) (Af (Ar (S4 18 0 1 5 rfl rfl rfl rfl) (Cw rfl (Bt (Aq (Aq (A9 (Cl ((i)) ⟨om,hlt,om⟩))))))))))))))
 ·rintro i hp
  obtain ⟨hi,hlt,hst⟩:(i≤xs.length)∧(∀j,j<i→at_ xs (j:Int)<x)∧(i=xs.length∨(i<xs.length∧¬at_ xs (i:Int)<x)):=hp
  show W Tryz.prog κ 46 _ _ ([(0,.slice a xs.length c),(1,I64 (x)),(5,I64 ((i:Int)))]:Env) (vc 3 (.slice a xs.length c) (xs)::I)
  refine Av (Ah (Gm rfl (Gm rfl (Gr (B3 Am rfl) (Gr (A8 rfl rfl) (Gm rfl (A7 (d:=25) rfl (fun g25=>?_) (fun g25=>?_))))))))
  ·refine Gro (Ac rfl) (Gro (Ac rfl) (Gro (Ba (α:=Int) (xs:=xs) Am ty3 rfl rfl Bo om om) (Gro (Cb (xs:=xs) ty3 rfl Bo om om) (Gro (Ac rfl) (Gro (Bi rfl rfl) (Gr (Ao rfl rfl) (Af (Ar (S4 32 0 1 5 rfl rfl rfl rfl) (A6 rfl (fun c32=>?_) (fun c32=>?_))))))))))
   ·refine Ah (Gm rfl (Ga rfl (Af (Ay (Ad ?_)))))
    have hp:=(putL_at xs i x hi hlt).1 om om
    exact A0 rfl rfl (_) A1 ⟨a,c,by rw [hp],by rw [hp]⟩
   ·refine Az (Ai (Ah (Gm rfl (Gm rfl (Gr (Runs.hi (α:=Int) (xs:=xs) (h:=i) Am ty3 rfl rfl om Bo om) (Ge2 (Eff.clone (α:=Int) (ys:=List.take i xs) Am ty3 rfl rfl rfl (Sl.take Bo om) (by simp only [List.length_append,List.length_cons,List.length_nil,List.length_take,List.length_drop];omega) dc rfl) fun ad1 cp2=>?_))))))
    refine Ga rfl (Af (Av (Bk mixed (Bq (vc 3 (.slice a xs.length c) (xs)::I) 9 (Dr 0 rfl (Ac rfl) (Dr 1 rfl (Ac rfl) (Dr 4 rfl (Ac rfl) (Dr 5 rfl (Ac rfl) (Dr 6 rfl (Runs.lo (α:=Int) (xs:=xs) (l:=i) Am ty3 rfl rfl om Bo om) (Ds1 2 (Se1 rfl (B1 (α:=Int) (cs:=[_]) (xs:=[x]) Am ty3 rfl rfl dc dc rfl rfl rfl rfl) fun ad3=>?_)))))))))))
    refine Ds1 3 (Se2 rfl (B2 (α:=Int) (e:=3) (xs:=List.take i xs) (ys:=([x]:List Int)) Am ty3 rfl rfl rfl mm Bo (by simp only [List.length_append,List.length_cons,List.length_nil,List.length_take,List.length_drop];omega) dc rfl (fun _ _=>am)) fun ad4 cp5=>?_)
    refine Ds1 7 (Se2 rfl (B2 (α:=Int) (e:=3) (xs:=(List.take i xs)++([x]:List Int)) (ys:=List.drop i xs) Am ty3 rfl rfl rfl mm (Sl.drop Bo om) (by simp only [List.length_append,List.length_cons,List.length_nil,List.length_take,List.length_drop];omega) dc rfl (fun _ _=>am)) fun ad6 cp7=>?_)
    refine Dr 8 rfl (Bd rfl) (Dz (Ai (Ar (S1 4 rfl) (Ay ?_))))
    have hp:=(putL_at xs i x hi hlt).2 om
    exact A0 rfl rfl (vc 3 (.slice ad6 (putL xs x).length cp7) (putL xs x)::I) (by rw [hp];exact A4) ⟨ad6,cp7,by rw [hp],rfl⟩
  ·refine Gpo (Gpo (Gpo (Gpo (Gpo (Gpo (Gr (Ak rfl rfl) (Af (Ar (S4 32 0 1 5 rfl rfl rfl rfl) (Cw rfl (Az (Ai (Ah (Gm rfl (Gm rfl (Gr (Runs.hi (α:=Int) (xs:=xs) (h:=i) Am ty3 rfl rfl om Bo om) (Ge2 (Eff.clone (α:=Int) (ys:=List.take i xs) Am ty3 rfl rfl rfl (Sl.take Bo om) (by simp only [List.length_append,List.length_cons,List.length_nil,List.length_take,List.length_drop];omega) dc rfl) fun ad8 cp9=>?_))))))))))))))))
   refine Ga rfl (Af (Av (Bk mixed (Bq (vc 3 (.slice a xs.length c) (xs)::I) 9 (Dr 0 rfl (Ac rfl) (Dr 1 rfl (Ac rfl) (Dr 4 rfl (Ac rfl) (Dr 5 rfl (Ac rfl) (Dr 6 rfl (Runs.lo (α:=Int) (xs:=xs) (l:=i) Am ty3 rfl rfl om Bo om) (Ds1 2 (Se1 rfl (B1 (α:=Int) (cs:=[_]) (xs:=[x]) Am ty3 rfl rfl dc dc rfl rfl rfl rfl) fun ad10=>?_)))))))))))
   refine Ds1 3 (Se2 rfl (B2 (α:=Int) (e:=3) (xs:=List.take i xs) (ys:=([x]:List Int)) Am ty3 rfl rfl rfl mm Bo (by simp only [List.length_append,List.length_cons,List.length_nil,List.length_take,List.length_drop];omega) dc rfl (fun _ _=>am)) fun ad11 cp12=>?_)
   refine Ds1 7 (Se2 rfl (B2 (α:=Int) (e:=3) (xs:=(List.take i xs)++([x]:List Int)) (ys:=List.drop i xs) Am ty3 rfl rfl rfl mm (Sl.drop Bo om) (by simp only [List.length_append,List.length_cons,List.length_nil,List.length_take,List.length_drop];omega) dc rfl (fun _ _=>am)) fun ad13 cp14=>?_)
   refine Dr 8 rfl (Bd rfl) (Dz (Ai (Ar (S1 4 rfl) (Ay ?_))))
   have hp:=(putL_at xs i x hi hlt).2 om
   exact A0 rfl rfl (vc 3 (.slice ad13 (putL xs x).length cp14) (putL xs x)::I) (by rw [hp];exact A4) ⟨ad13,cp14,by rw [hp],rfl⟩
theorem Put_at{F:Item→List Item}{a:Option Addr}{c:Nat}{xs:List Int}(hat:AtF I (vc 3 (.slice a xs.length c) xs) F)(hb:xs.length<17592186044415)(x:Int) :
  CallS Tryz.prog κ 153 [.slice a xs.length c,I64 x] I fun r J=>∃a' c',r = .slice a' (putL xs x).length c'∧J=F (vc 3 (.slice a' (putL xs x).length c') (putL xs x)):=
 (D4 (Z:=fun _=>[]) (X:=fun y:Option Addr×Nat=>vc 3 (.slice y.1 (putL xs x).length y.2) (putL xs x)) (Post:=fun r y=>r = .slice y.1 (putL xs x).length y.2) hat fun J _ _=>(Put_ok (a:=a) (c:=c) hb x).mono fun r J' ⟨a',c',h1,h2⟩=>⟨(a',c'),h1,h2⟩).mono fun _ _ ⟨y,h1,h2⟩=>⟨y.1,y.2,h1,h2⟩
theorem Of_ok{v:Value}{xs:List Int}(hl:Sl κ I v xs)(hb:xs.length<17592186044415) :
    CallS Tryz.prog κ 82 [v] I (fun r J=>∃a c,r = .slice a (ofL xs).length c∧J=vc 3 (.slice a (ofL xs).length c) (ofL xs)::I):=by
 refine B4 hl.le fun hmax=>?_
 refine Ce1 Tryz.func82 rfl rfl ?_
 refine Ah (Ga rfl (Af (Ah (Ga rfl (Af (Av (Ah (Gm rfl (Gr (Bu (α:=Int) (xs:=xs) Am rfl (Bl hl)) (Gm rfl (Af (A5 (Bv (σ:=Nat×(Option Addr)×Nat×(List Int)) (fun s=>([(3,.slice s.2.1 s.2.2.2.length s.2.2.1),(6,v),(7,I64 (((xs.length:Nat):Int))),(8,I64 (((s.1:Nat):Int)))]:Env)) (fun s=>vc 3 (.slice s.2.1 s.2.2.2.length s.2.2.1) (s.2.2.2)::I) (fun s=>(s.1≤xs.length)∧(s.2.2.2=ofL (xs.take s.1))) (fun s=>xs.length - s.1) (0,none,0,[]) (show ((0:Nat)≤xs.length)∧(([]:List Int)=ofL (xs.take (0:Nat))) from ⟨om,rfl⟩) (Ab (Db rfl (by first|rfl|simp)) (Ab rfl (Ab rfl (Ab Ca Bp)))) (show Fit κ _ (vc 3 (.slice (none) ([]).length (0)) (([]))::I) from (Bw _ _)) ?_)))))))))))))
 rintro ⟨k,a,c,out⟩ hp
 dsimp only at hp ⊢
 obtain ⟨hk,ho⟩:=hp
 refine Ah (Gr (A8 rfl rfl) (Af (Av (A6 rfl (fun c9=>?_) (fun c9=>?_)))))
 ·refine Az (Ai (Av (A5 (Ah (Gr (Ba (α:=Int) (xs:=xs) Am ty3 rfl rfl (Bl hl) om om) (Gr (Cb (xs:=xs) ty3 rfl (Bl hl) om om) (Ga rfl (Af (A2 (Gm rfl (Gm rfl (Gc2 (Aj call153 rfl rfl (Put_at (by repeat (first|exact AtF.head _ _|apply AtF.tail)) (by rw [ho];have:=ofL_len (xs.take k);simp only [List.length_take] at this;omega) (at_ xs (k:Int)))) fun ad1 cp2=>?_))))))))))))
  show G Tryz.prog κ _ _ _ _ ([(14,.slice ad1 (putL out (at_ xs (k:Int))).length cp2),(13,I64 (at_ xs (k:Int))),(12,.slice a out.length c),(5,I64 (at_ xs (k:Int))),(11,I64 (at_ xs (k:Int))),(10,elemPtr (v) (((k:Int)).toNat*Enc.sz Int)),(9,.bool (decide ((k:Int)<((xs.length:Nat):Int)))),(3,.slice a out.length c),(6,v),(7,I64 (((xs.length:Nat):Int))),(8,I64 ((k:Int)))]:Env) (vc 3 (.slice ad1 (putL out (at_ xs (k:Int))).length cp2) (putL out (at_ xs (k:Int)))::I)
  exact Ga rfl (Be (Al (Ai (A2 (Gr (Rad rfl rfl) (Gm rfl (Be (B0 ((k+1),(ad1),(cp2),(putL out (at_ xs (k:Int)))) (by dsimp only;exact ⟨om,(by rw [ofL_take xs k om,←ho])⟩)))))))))
 ·refine Bt (Aq (Aq (A9 (Ai (Ah (Gm rfl (Ga rfl (Af (Ay ?_)))))))))
  have hk2:xs.take k=xs:=List.take_of_length_le om
  rw [hk2] at ho
  subst ho
  exact A0 rfl rfl (_) A1 ⟨a,c,rfl,rfl⟩
structure Arc where
 frm:Int
 dst:Int
 cap:Int
deriving Inhabited
instance:Enc Arc:=⟨fun a=>[I64 a.frm,I64 a.dst,I64 a.cap],3,by omega,fun _=>rfl,fun a u h=>by
 simp only [List.mem_cons,List.not_mem_nil,or_false] at h
 rcases h with rfl|rfl|rfl<;>rfl⟩
structure Net where
 nodes:Int
 source:Int
 sink:Int
 arcs:List Arc
structure Net.Ok (n:Net):Prop where
 lim:n.nodes≤4200∧n.arcs.length≤16384
 two:2≤n.nodes
 src:0≤n.source∧n.source<n.nodes
 snk:0≤n.sink∧n.sink<n.nodes
 ne:n.source≠n.sink
 arc:∀a∈n.arcs,(0≤a.frm∧a.frm<n.nodes)∧(0≤a.dst∧a.dst<n.nodes)∧a.frm≠a.dst∧0≤a.cap∧a.cap≤1099511627776
end Go.Sl
