/- A part of the proofs of statements of this seat: contracts of functions, and the plain laws that they lean on. No conditions. -/
import Derived.Test.YtoagcglbkeomgaaGreatDoorV3
import Derived.RangeFuncRecord
import Derived.RangeFuncCalls
import Derived.TacticsIn
set_option linter.unusedVariables false
set_option linter.unusedSimpArgs false
set_option linter.unusedSectionVars false
namespace Go.Sl
variable{E T by' c e h k l sz:Nat}{x y:Operand}{ag:Bool}{z:List Value}{ad:Option Addr}
section
variable {β:Type}{xs ys js:List β}{i m n r:Nat}{d:β}
theorem az7{a b:List β}(h:a.length=k):(a++b).take k=a:=by subst h;simp
theorem co6{a b:List β}(h:a.length=k):(a++b).drop k=b:=by subst h;simp
theorem gg7(hi:i<=xs.length):(xs.take i++List.replicate (xs.length+ys.length - i) d).take i++ys.take ys.length++(xs.take i++List.replicate (xs.length+ys.length - i) d).drop (i+ys.length)=xs.take i++ys++List.replicate (xs.length - i) d:=by
 have M:(xs.take i).length=i:=by rw [Fp];omega
 rw [az7 M,Hb,←List.drop_drop,co6 M,List.drop_replicate,show xs.length+ys.length - i - ys.length=xs.length - i by omega]
theorem gg6(hi:i<=xs.length):(xs.take i++ys++List.replicate (xs.length - i) d).take (i+ys.length)++(xs.drop i).take (xs.length - i)++(xs.take i++ys++List.replicate (xs.length - i) d).drop (i+ys.length+(xs.length - i))=xs.take i++ys++xs.drop i:=by
 have M:(xs.take i++ys).length=i+ys.length:=by rw [By,Fp];omega
 have e1:(xs.drop i).take (xs.length - i)=xs.drop i:=Fv (by rw [Fx];omega)
 have e2:(xs.take i++ys++List.replicate (xs.length - i) d).drop (i+ys.length+(xs.length - i))=[]:=Ha (by simp only [By,Fp,Fy];omega)
 rw [az7 M,e1,e2,Gq]
theorem ins3{cs:List β}(hn:cs.length=n)(hj:js.length=m)(hy:ys.length=m)(hi:i<=n) :
  let A:=(cs++js).take (i+m)++((cs++js).drop i).take (n - i)++(cs++js).drop (i+m+(n - i))
  A.take i++ys.take m++A.drop (i+m)=cs.take i++ys++cs.drop i:=by
 intro A
 have M:((cs++js).take (i+m)).length=i+m:=by rw [Fp,By];omega
 have hd:((cs++js).drop i).take (n - i)=cs.drop i:=by
  rw [List.drop_append,show i - cs.length=0 by omega,List.drop_zero]
  exact az7<|by rw [Fx];omega
 have hz:(cs++js).drop (i+m+(n - i))=[]:=Ha (by rw [By];omega)
 have e:A=(cs++js).take (i+m)++cs.drop i:=by show _++_++_=_;rw [hd,hz,Gq]
 have e1:ys.take m=ys:=Fv (by omega)
 have e2:A.take i=cs.take i:=by
  rw [e,List.take_append_of_le_length<|by rw [M];omega,List.take_take,Mi<|by omega,List.take_append_of_le_length<|by omega]
 rw [e1,e2,e,co6 M]
theorem di6[Inhabited β]{lt:β->β->Prop}[DecidableRel lt][DecidableEq β](x:β):∀(l:List β) (i:Nat),i<=l.length->(∀j,j<i->lt (e_ l j) x)->(i<l.length->¬lt (e_ l i) x/\e_ l i≠x)->z7 lt l x=l.take i++[x]++l.drop i
 |[],i,hi,_,_=>by
  obtain rfl:i=0:=by simpa using hi
  rfl
 |y::l,0,_,_,h=>by
  have:¬lt y x/\y≠x:=h (by simp)
  simp only [z7]
  rw [An this.1,An this.2];rfl
 |y::l,i+1,hi,h1,h2=>by
  have M:lt y x:=h1 0 (by omega)
  simp only [z7]
  rw [B_ M,di6 x l i (by simpa using hi) (λj hj=>?_)<|λhl=>?_]
  ·rfl
  ·have:=h1 (j+1) (by omega)
   rwa [bo1,List.getD_cons_succ,←bo1] at this
  have:=h2 (by simpa using hl)
  rwa [bo1,List.getD_cons_succ,←bo1] at this
end
section
variable {P:Program}{κ:Ctx}{N:Frm}{Q:Exit->Act->World->Prop}{L:Env}{I J:List Item}{ops:Array Oper}{rest:List Oper}
variable {d:Option Tmp}{ty:TypeId}{ps:String}{af:Array Edge}{gd:Option (Nat×Bool)}
variable {α:Type}[Enc α]{xs ys R:List α}
theorem Eff.gh7{t t' n n' q dd:Nat}{u:Value}{I':List Item}(ht:P.underlying t=some (.slice e))(hT:tyF P e=some (Enc.sz α,ag,by',z))
  (hx:er L x=some (.slice (N9 ad c k<|Enc.sz α) n'<|c - k)) (aa:n'=xs.length - k) (hy:er L y=some u) (hu:Sl κ I u ys) (hk:k<=xs.length) (hq:q=min ys.length (xs.length - k)) (hN:Nat.blt dd N.n=true)
  (hR:xs.take k++ys.take q++xs.drop (k+q)=R) (hn:n=xs.length) (M:At I (vc e (.slice ad n c) xs) (vc e (.slice ad n c) R) I') :
  Eff P κ N Q ⟨some dd,.call {callee:= .builtin .copy,args:= #[x,y],argTypes:= #[t,t']},ty,ps,af,gd⟩ L I λL' I''=>L'=(dd,e7 q)::L/\I''=I':=by
 subst hn
 have hl:R.length=xs.length:=by rw [←hR];simp only [By,Fp,Fx];omega
 have hc:cells R=(cells xs).take (k*Enc.sz α)++(cells ys).take (q*Enc.sz α)++(cells xs).drop (k*Enc.sz α+q*Enc.sz α):=by
  rw [←hR,K8,K8,R3,R3,Z3,Jg]
 refine Eff.cg2 (cs:=cells xs) ht hT hx aa hy hu hk hq (λu hu=>cells_one ys u<|Hw hu) hN ?_
 have:=M
 unfold vc at this
 rw [hl,hc] at this
 exact this
theorem be8{i:Nat}{js:List Value}(hi:i<=xs.length)(M:js.length=(xs.length+ys.length - xs.length)*Enc.sz α) :
  List.take (i*Enc.sz α) (List.take ((i+ys.length)*Enc.sz α) (cells xs++js)++List.take ((xs.length - i)*Enc.sz α) (List.drop (i*Enc.sz α)<|cells xs++js)++List.drop ((i+ys.length)*Enc.sz α+(xs.length - i)*Enc.sz α) (cells xs++js))++List.take (ys.length*Enc.sz α) (cells ys)++List.drop (i*Enc.sz α+ys.length*Enc.sz α) (List.take ((i+ys.length)*Enc.sz α) (cells xs++js)++List.take ((xs.length - i)*Enc.sz α) (List.drop (i*Enc.sz α)<|cells xs++js)++List.drop ((i+ys.length)*Enc.sz α+(xs.length - i)*Enc.sz α) (cells xs++js))=cells (List.take i xs++ys++List.drop i xs):=by
 rw [K8,K8,R3,Z3,Jg,Nat.sub_mul]
 exact ins3 (r9 xs) (by rw [M];congr 1;omega) (r9 ys)<|Hi _ hi
theorem ce9{i:Nat}{js:List Value}(hi:i<=xs.length):∀u∈List.take ((xs.length - i)*Enc.sz α) (List.drop (i*Enc.sz α) (cells xs++js)),u.oneCell'=true:=λu hu=>by
 have hm:i*Enc.sz α<=xs.length*Enc.sz α:=Hi _ hi
 have M:=r9 xs
 rw [List.drop_append,show i*Enc.sz α - (cells xs).length=0 by omega,List.drop_zero,az7<|by rw [Fx,M,Nat.sub_mul]] at hu
 exact cells_one xs u<|Mg hu
theorem j8.gg1{n:Nat}{m:Int}(M:P.underlying T=some (.slice E))(hE:tyF P E=some (sz,ag,by',z))(hx:er L x=some (.slice ad n c))(hy:er L y=some (e7 m))(hm:m=(l:Int))
  (hl:l<=n) (hn:n<=c):j8 P κ N ⟨d,.slice T x (some y) none none,ty,ps,af,gd⟩ L J (.slice (N9 ad c l sz) (n - l)<|c - l):=λa w ha hs=>by
 subst hm
 exact j8.slice (P:=P) (κ:=κ) (N:=N) (L:=L) (J:=J) (d:=d) (ty:=ty) (ps:=ps) (af:=af) (gd:=gd) (l:=l) M hE hx (.inr ⟨y,rfl,hy⟩) (.inl ⟨rfl,rfl⟩) hl hn a w ha hs
theorem j8.fo0{y':Operand}{n:Nat}{m m':Int}(ht:P.underlying T=some (.slice E))(hE:tyF P E=some (sz,ag,by',z))(hx:er L x=some (.slice ad n c))(hy:er L y=some (e7 m))(hm:m=(l:Int))(M:er L y'=some (e7 m'))(aa:m'=(h:Int))
  (hl:l<=h) (hn:h<=c):j8 P κ N ⟨d,.slice T x (some y) (some y') none,ty,ps,af,gd⟩ L J (.slice (N9 ad c l sz) (h - l)<|c - l):=λa w ha hs=>by
 subst hm aa
 exact j8.slice (P:=P) (κ:=κ) (N:=N) (L:=L) (J:=J) (d:=d) (ty:=ty) (ps:=ps) (af:=af) (gd:=gd) (l:=l) (h:=h) ht hE hx (.inr ⟨y,rfl,hy⟩) (.inr ⟨y',rfl,M⟩) hl hn a w ha hs
theorem au7.dz9{n:Nat}{cs:List Value}(hv:au7 κ I sz (.slice ad n c) n cs)(hl:l<=n):au7 κ I sz (.slice (N9 ad c l sz) (n - l) (c - l)) (n - l) (cs.drop (l*sz)):=λw hs=>by
 obtain ⟨a,cap,he,h1,h2,h3,h4⟩:=hv w hs
 cases he
 refine ⟨_,c - l,rfl,by rw [Fx,h1,Nat.sub_mul],by omega,by omega,λhc=>?_⟩
 obtain ⟨b,off,rfl,hr⟩:=h4 (by omega)
 refine ⟨b,off+l*sz,by unfold N9;rw [An (by omega)];simp [G9],λj u M=>?_⟩
 rw [Ju] at M
 rw [Mf]
 exact hr _ u M
theorem G.ex{β:Type}{x:Item}{x':β->Item}{p:β->Prop}{F:Item->List Item}(aa:AtF I x F)(h:∀w,x.ok w->∃y,p y/\(x' y).ok w)(hf:∀y k,(x' y).fp k->x.fp k)(hG:∀y,p y->G P κ N ops Q rest L (F (x' y))):G P κ N ops Q rest L I:=λa w ha hs=>by
 obtain ⟨J,h1,h2⟩:=aa.perm
 have M:=hs.perm h1
 obtain ⟨y,hp,hy⟩:=h w (M.ok x A_).1
 refine hG y hp a w ha<|Sep.perm ?_ (h2 _).symm
 have ab:∀z∈J,∀k,x.fp k->¬z.fp k:=(Ge.1 M.pw).1
 exact M.tail.cons hy (λk hk=>(M.ok x A_).2 k (hf y k hk)) λz hz k hk=>ab z hz k<|hf y k hk
theorem G.room{n:Nat}{F:Item->List Item}(M:AtF I (vc e (.slice ad n c) xs) F)(hn:n=xs.length)(hh:n<=h)(hc:h<=c)
  (hG:∀js:List Value,js.length=(h - n)*Enc.sz α->G P κ N ops Q rest L (F<|vec e (Enc.sz α) (.slice ad h c) h<|cells xs++js)):G P κ N ops Q rest L I:=by
 subst hn
 exact G.ex M (x':=λjs=>vec e (Enc.sz α) (.slice ad h c) h<|cells xs++js) (vec.room hh hc) (λjs k hk=>by obtain ⟨o,n',c',he,aa⟩:=hk;cases he;exact ⟨o,_,_,rfl,aa⟩) hG
end
end Go.Sl
namespace Go.Sl
variable{n:Int}
abbrev U64(b:BitVec 64):Value:= .int .u64 (b.toNat:Int)
theorem ak5(n:Int):IntKind.u64.wrap n=n % 18446744073709551616:=IntKind.wrap_u64 n
theorem af6(a:BitVec 64):BitVec.ofInt IntKind.u64.bits (a.toNat:Int)=a:=by
 show BitVec.ofInt 64 (a.toNat:Int)=a
 rw [BitVec.ofInt_natCast,BitVec.ofNat_toNat];simp
theorem ah8(a:BitVec 64):IntKind.u64.wrap (a.toNat:Int)=(a.toNat:Int):=by
 rw [ak5];have:=a.isLt;omega
theorem dn7(a b:BitVec 64):bits .and .u64 (a.toNat:Int) (b.toNat:Int)=((a &&& b).toNat:Int):=by
 unfold bits;simp only [af6];exact ah8 (a &&& b)
theorem fb7(a b:BitVec 64):bits .or .u64 (a.toNat:Int) (b.toNat:Int)=((a ||| b).toNat:Int):=by
 unfold bits;simp only [af6];exact ah8 (a ||| b)
theorem ca2(a b:BitVec 64):bits .andNot .u64 (a.toNat:Int) (b.toNat:Int)=((a &&& ~~~b).toNat:Int):=by
 unfold bits;simp only [af6];exact ah8 (a &&& ~~~b)
theorem bc2{a b:BitVec 64}:((a.toNat:Int)=(b.toNat:Int))↔a=b:=⟨λh=>BitVec.eq_of_toNat_eq (by omega),λh=>by rw [h]⟩
section
variable {P:Program}{κ:Ctx}{N:Frm}{Q:Exit->Act->World->Prop}{L:Env}{I J:List Item}
variable {d:Option Tmp}{ty:TypeId}{ps:String}{af:Array Edge}{gd:Option (Nat×Bool)}
variable {x y:Operand}{T U:TypeId}{a b:BitVec 64}
theorem j8.andB(hx:er L x=some (U64 a))(hy:er L y=some (U64 b)):j8 P κ N ⟨d,.binOp .and T x y U,ty,ps,af,gd⟩ L J (U64 (a &&& b)):=
 λaa w M _=>by simp only [execOp,M.eval hx,M.eval hy];simp [go_sem,dn7]
theorem j8.orB(hx:er L x=some (U64 a))(hy:er L y=some (U64 b)):j8 P κ N ⟨d,.binOp .or T x y U,ty,ps,af,gd⟩ L J (U64 (a ||| b)):=
 λaa w M _=>by simp only [execOp,M.eval hx,M.eval hy];simp [go_sem,fb7]
theorem j8.fq3(hx:er L x=some (U64 a))(hy:er L y=some (U64 b)):j8 P κ N ⟨d,.binOp .andNot T x y U,ty,ps,af,gd⟩ L J (U64 (a &&& ~~~b)):=
 λaa w M _=>by
  simp only [execOp,M.eval hx,M.eval hy]
  have h:=ca2 a b
  simp [go_sem,h]
theorem j8.fu6(hx:er L x=some (U64 a))(M:er L y=some (U64 b)):j8 P κ N ⟨d,.binOp .add T x y U,ty,ps,af,gd⟩ L J (U64 (a+b)):=by
 have h:=j8.gm0 (P:=P) (κ:=κ) (N:=N) (J:=J) (d:=d) (ty:=ty) (ps:=ps) (af:=af) (gd:=gd) (T:=T) (U:=U) hx M
 have e:IntKind.u64.wrap ((a.toNat:Int)+(b.toNat:Int))=((a+b).toNat:Int):=by rw [ak5,Jw];omega
 rwa [e] at h
theorem j8.gj6(hx:er L x=some (U64 a))(M:er L y=some (U64 b)):j8 P κ N ⟨d,.binOp .sub T x y U,ty,ps,af,gd⟩ L J (U64 (a - b)):=by
 have h:=j8.ge4 (P:=P) (κ:=κ) (N:=N) (J:=J) (d:=d) (ty:=ty) (ps:=ps) (af:=af) (gd:=gd) (T:=T) (U:=U) hx M
 have e:IntKind.u64.wrap ((a.toNat:Int) - (b.toNat:Int))=((a - b).toNat:Int):=by rw [ak5,BitVec.toNat_sub];have:=a.isLt;have:=b.isLt;omega
 rwa [e] at h
theorem j8.gc8{k':IntKind}(hx:er L x=some (U64 a))(hy:er L y=some (.int k' n))(h0:0<=n)(h1:n<64):j8 P κ N ⟨d,.binOp .shl T x y U,ty,ps,af,gd⟩ L J (U64 (a <<< n.toNat)):=by
 have h:=j8.shlw (P:=P) (κ:=κ) (N:=N) (J:=J) (d:=d) (ty:=ty) (ps:=ps) (af:=af) (gd:=gd) (T:=T) (U:=U) hx hy h0
 have e:IntKind.u64.wrap ((a.toNat:Int)*2 ^ Min.min n.toNat IntKind.u64.bits)=((a <<< n.toNat).toNat:Int):=by
  have M:Min.min n.toNat IntKind.u64.bits=n.toNat:=by show Min.min n.toNat 64=_;omega
  have hc:((a.toNat:Int)*2 ^ n.toNat)=((a.toNat*2 ^ n.toNat:Nat):Int):=by rw [Int.natCast_mul,Int.natCast_pow];rfl
  rw [M,ak5,BitVec.toNat_shiftLeft,Nat.shiftLeft_eq,hc]
  generalize a.toNat*2 ^ n.toNat=m
  omega
 rwa [e] at h
theorem j8.shrB{k':IntKind}(hx:er L x=some (U64 a))(hy:er L y=some (.int k' n))(h0:0<=n)(h1:n<64):j8 P κ N ⟨d,.binOp .shr T x y U,ty,ps,af,gd⟩ L J (U64 (a >>> n.toNat)):=by
 have h:=j8.gj7 (P:=P) (κ:=κ) (N:=N) (J:=J) (d:=d) (ty:=ty) (ps:=ps) (af:=af) (gd:=gd) (T:=T) (U:=U) hx hy h0
 have e:(a.toNat:Int).fdiv (2 ^ Min.min n.toNat IntKind.u64.bits)=((a >>> n.toNat).toNat:Int):=by
  have M:Min.min n.toNat IntKind.u64.bits=n.toNat:=by show Min.min n.toNat 64=_;omega
  rw [M,Hv,Hs,Int.fdiv_eq_ediv_of_nonneg _<|Int.pow_nonneg<|by decide]
  push_cast;rfl
 rwa [e] at h
theorem j8.eqB(hx:er L x=some (U64 a))(M:er L y=some (U64 b)):j8 P κ N ⟨d,.binOp .eql T x y U,ty,ps,af,gd⟩ L J (.bool (decide (a=b))):=by
 have h:=j8.eql (P:=P) (κ:=κ) (N:=N) (J:=J) (d:=d) (ty:=ty) (ps:=ps) (af:=af) (gd:=gd) (T:=T) (U:=U) hx M
 rwa [Fs.2 (bc2 (a:=a) (b:=b))] at h
theorem j8.neB(hx:er L x=some (U64 a))(M:er L y=some (U64 b)):j8 P κ N ⟨d,.binOp .neq T x y U,ty,ps,af,gd⟩ L J (.bool (decide (a≠b))):=by
 have h:=j8.neq (P:=P) (κ:=κ) (N:=N) (J:=J) (d:=d) (ty:=ty) (ps:=ps) (af:=af) (gd:=gd) (T:=T) (U:=U) hx M
 rwa [Fs.2 (not_congr<|bc2 (a:=a) (b:=b))] at h
theorem j8.toI{S:TypeId}{q:IntKind}(hs:P.underlying S=some (.int q))(M:P.underlying T=some (.int .i64))(hx:er L x=some (U64 a))(hr:a.toNat<9223372036854775808):j8 P κ N ⟨d,.convert S T x,ty,ps,af,gd⟩ L J (e7 (a.toNat:Int)):=
 j8.fa9 hs M hx (by unfold InR;omega)
theorem j8.gb5(hx:er L x=some (e7 n))(hy:er L y=some (e7 127))(h0:0<=n):j8 P κ N ⟨d,.binOp .and T x y U,ty,ps,af,gd⟩ L J (e7 (n % 128)):=
 λaa w M _=>by
  simp only [execOp,M.eval hx,M.eval hy]
  obtain ⟨m,rfl⟩:∃m:Nat,n=(m:Int):=⟨n.toNat,by omega⟩
  have e:bits .and .i64 (m:Int) 127=(m:Int) % 128:=by
   have e1:(BitVec.ofInt 64 (m:Int) &&& BitVec.ofInt 64 127).toNat=m % 128:=by
    rw [Kx,BitVec.toNat_ofInt,BitVec.toNat_ofInt,show ((127:Int) % (2 ^ 64:Nat)).toNat=2 ^ 7 - 1 by decide,Nat.and_two_pow_sub_one_eq_mod]
    omega
   unfold bits
   show IntKind.i64.wrap ((BitVec.ofInt 64 (m:Int) &&& BitVec.ofInt 64 127).toNat:Int)=_
   rw [e1,IntKind.wrap_i64];omega
  simp [go_sem,e]
end
end Go.Sl
namespace Go.Sl
open Go.RowKit (Below)
end Go.Sl
namespace Go.Sl
open Go.RowKit (Below)
section
variable {P:Program}{κ:Ctx}{N:Frm}{Q:Exit->Act->World->Prop}{L:Env}{I J:List Item}{ops:Array Oper}{l m:Nat}
theorem de8{A L T:List Item}:(A++(L++T)).Perm (L++(A++T)):=by
 rw [←Fr,←Fr];exact List.perm_append_comm.append_right T
end
end Go.Sl
namespace Go.Sl
variable{by' g i j k q sz:Nat}{M z:List Value}{m:BitVec 64}
def F4(κ:Ctx)(I:List Item)(g:Nat)(tab:List Value):Prop:=∀w,Sep κ w I->∀j u,tab[j]? = some u->w.cell? ⟨g,j,none⟩=some u
theorem F4.fit{κ:Ctx}{I J:List Item}(h:F4 κ I g M)(hf:Fit κ J I):F4 κ J g M:=λw hs=>h w (hf w hs)
section
variable {P:Program}{κ:Ctx}{N:Frm}{Q:Exit->Act->World->Prop}{L:Env}{I J:List Item}
variable {d:Option Tmp}{ty:TypeId}{ps:String}{af:Array Edge}{gd:Option (Nat×Bool)}
variable {x y:Operand}{T U:TypeId}{a b:BitVec 64}
theorem j8.negB(M:er L x=some (U64 a)):j8 P κ N ⟨d,.unOp .neg T x,ty,ps,af,gd⟩ L J (U64 (-a)):=λaa w ha _=>by
 have e:IntKind.u64.wrap (-(a.toNat:Int))=((-a).toNat:Int):=by
  have e2:(-a).toNat=(18446744073709551616 - a.toNat) % 18446744073709551616:=BitVec.toNat_neg a
  have h1:a.toNat<18446744073709551616:=a.isLt
  rw [ak5,e2];omega
 simp only [execOp,ha.eval M]
 simp [go_sem,e]
theorem j8.mulB(hx:er L x=some (U64 a))(M:er L y=some (U64 b)):j8 P κ N ⟨d,.binOp .mul T x y U,ty,ps,af,gd⟩ L J (U64 (a*b)):=by
 have h:=j8.gk3 (P:=P) (κ:=κ) (N:=N) (J:=J) (d:=d) (ty:=ty) (ps:=ps) (af:=af) (gd:=gd) (T:=T) (U:=U) hx M
 have e:IntKind.u64.wrap ((a.toNat:Int)*(b.toNat:Int))=((a*b).toNat:Int):=by 
  have e2:(a*b).toNat=a.toNat*b.toNat % 18446744073709551616:=BitVec.toNat_mul a b
  rw [ak5,e2,←Int.natCast_mul];omega
 rwa [e] at h
theorem j8.fp0{E n:Nat}{k:IntKind}{ag:Bool}(ht:P.underlying T=some (.array n E))(hE:tyF P E=some (sz,ag,by',z))(hx:er L x=some ((pt g)))
  (hy:er L y=some (.int k (i:Int))) (hn:i<n):j8 P κ N ⟨d,.indexAddr T x y,ty,ps,af,gd⟩ L J (.pointer<|some ⟨g,0+i*sz,none⟩):=
 λaa w M hs=>by
  simp [execOp,M.eval hx,M.eval hy,Instr.indexAt,asIntOf,run_underlying ht,hn,run_sizeOf hE,Instr.sureAddr,G9]
theorem j8.fo1{v:Value}(hT:tyF P T=some (sz,false,by',z))(hx:er L x=some (.pointer (some ⟨g,0+i*1,none⟩)))(hb:F4 κ J g M)(hc:M[i]? = some v) :
  j8 P κ N ⟨d,.load T x,ty,ps,af,gd⟩ L J v:=λaa w ha hs=>by
 simp only [execOp,ha.eval hx]
 simp [Instr.loadAt,Instr.sureAddr,aa2 hT<|hb w hs i v hc]
end
def az2:List Int:=[0,1,56,2,57,49,28,3,61,58,42,50,38,29,17,4,62,47,59,36,45,43,51,22,53,39,33,30,24,18,12,5,63,55,48,27,60,41,37,16,46,35,44,21,52,32,23,11,54,26,40,15,34,20,31,10,25,14,19,9,13,8,7,6]
def p6:List Value:=az2.map λn=> .int .u8 n
def db3(m:BitVec 64):Nat:=(((m &&& (-m))*285870213051353865#64) >>> (58:Int).toNat).toNat
def tzB(m:BitVec 64):Int:=if m=0#64 then 64 else az2.getD (db3 m) 0
theorem cd6(m:BitVec 64):db3 m<64:=by
 unfold db3
 rw [Hv,Hs,show 2 ^ (58:Int).toNat=288230376151711744 by decide]
 have:=((m &&& (-m))*285870213051353865#64).isLt
 omega
theorem cr6(m:BitVec 64):p6[db3 m]? = some (.int .u8 (az2.getD (db3 m) 0)):=by
 unfold p6
 have h:db3 m<az2.length:=cd6 m
 rw [Kr,H_ h,Hq,H_ h,Option.map_some,Option.getD_some]
theorem ck9:∀n:Nat,0<n->∃k q,n=2 ^ k*(2*q+1)
 |n,h=>by
  by_cases hp:n % 2=1
  ·exact ⟨0,n / 2,by omega⟩
  obtain ⟨k,q,e⟩:=ck9 (n / 2) (by omega)
  exact ⟨k+1,q,by rw [Nat.pow_succ,Nat.mul_assoc,Nat.mul_comm 2<|2*q+1,←Nat.mul_assoc,←e];omega⟩
theorem gb4:(2 ^ k*(2*q+1)).testBit j=(decide (k<=j)&&if j=k then true else q.testBit (j - k - 1)):=by
 rw [Nat.testBit_two_pow_mul]
 by_cases h:k<=j
 ·rw [show decide (k<=j)=true from As h]
  by_cases hj:j=k
  ·subst hj;simp
  rw [An hj,show j - k=(j - k - 1)+1 by omega,Nat.testBit_succ,show (2*q+1) / 2=q by omega];simp
 rw [show decide (k<=j)=false from D_ h];simp
theorem cp3:(2 ^ k*(2*q+1) - 1).testBit j=if j<k then true else if j=k then false else q.testBit (j - k - 1):=by
 have M:0<2 ^ k:=Nat.two_pow_pos k
 have e:2 ^ k*(2*q+1) - 1=2 ^ k*(2*q)+(2 ^ k - 1):=by rw [Nat.mul_add];omega
 rw [e,Jx _<|by omega]
 by_cases h:j<k
 ·rw [B_ h,B_ h,Nat.testBit_two_pow_sub_one];simpa using h
 rw [An h,An h]
 by_cases hj:j=k
 ·rw [B_ hj,hj];simp
 rw [An hj,show j - k=(j - k - 1)+1 by omega,Nat.testBit_succ,show 2*q / 2=q by omega];simp
theorem dh8(h:m≠0#64):∃k:Nat,k<64/\m.getLsbD k=true/\(∀j,j<k->m.getLsbD j=false)/\m &&& (-m)=1#64 <<< k/\∀j,(m &&& (m - 1#64)).getLsbD j=(m.getLsbD j&&decide (j≠k)):=by
 have h0:0<m.toNat:=by
  rcases Nat.eq_zero_or_pos m.toNat with h1|h1
  ·exact absurd (BitVec.eq_of_toNat_eq<|by rw [h1];rfl) h
  exact h1
 obtain ⟨k,q,e⟩:=ck9 m.toNat h0
 have hlt:=m.isLt
 have hk:k<64:=by
  rcases Nat.lt_or_ge k 64 with hk|hk
  ·exact hk
  have h1:2 ^ 64<=2 ^ k:=Nat.pow_le_pow_right (by decide) hk
  have M:2 ^ k*1<=2 ^ k*(2*q+1):=Nat.mul_le_mul_left _ (by omega)
  omega
 have hm:∀j,m.getLsbD j=(decide (k<=j)&&if j=k then true else q.testBit (j - k - 1)):=λj=>by
  rw [BitVec.getLsbD,e,gb4]
 have hp:∀j,(m - 1#64).getLsbD j=if j<k then true else if j=k then false else q.testBit (j - k - 1):=λj=>by
  have e1:(m - 1#64).toNat=m.toNat - 1:=by rw [BitVec.toNat_sub];show (2 ^ 64 - 1+m.toNat) % 2 ^ 64=_;omega
  rw [BitVec.getLsbD,e1,e,cp3]
 have hn:∀j,j<64->(-m).getLsbD j = !(if j<k then true else if j=k then false else q.testBit (j - k - 1)):=λj hj=>by
  have e1:(-m).toNat=2 ^ 64 - ((m.toNat - 1)+1):=by rw [BitVec.toNat_neg];omega
  rw [BitVec.getLsbD,e1,Nat.testBit_two_pow_sub_succ<|by omega,As hj,e,cp3];rfl
 refine ⟨k,hk,by rw [hm];simp,λj hj=>by rw [hm,D_<|by omega];rfl,?_,λj=>?_⟩
 ·refine BitVec.eq_of_getLsbD_eq λj hj=>?_
  rw [Ke,hm,hn j hj,BitVec.getLsbD_shiftLeft,As hj,BitVec.getLsbD_one]
  by_cases h1:j<k
  ·rw [B_ h1,D_ (show ¬k<=j by omega),As h1];rfl
  rw [An h1,As (show k<=j by omega),D_ h1]
  by_cases M:j=k
  ·rw [B_ M,B_ M,As (show j - k=0 by omega)];rfl
  rw [An M,An M,D_ (show ¬j - k=0 by omega)]
  cases q.testBit (j - k - 1)<;>rfl
 rw [Ke,hm,hp]
 by_cases h1:j<k
 ·rw [B_ h1,D_ (show ¬k<=j by omega)];rfl
 rw [An h1,As (show k<=j by omega)]
 by_cases M:j=k
 ·rw [B_ M,B_ M,D_ (show ¬j≠k from λhc=>hc M),Ly]
 rw [An M,An M,As M]
 cases q.testBit (j - k - 1)<;>rfl
theorem fv0:∀k:Fin 64,az2.getD (((1#64 <<< k.val)*285870213051353865#64) >>> (58:Int).toNat).toNat 0=(k.val:Int):=by decide+kernel
theorem fv1(h:m≠0#64)(M:k<64)(he:m &&& (-m)=1#64 <<< k):tzB m=(k:Int):=by
 unfold tzB db3
 rw [An h,he]
 exact fv0 ⟨k,M⟩
def be4(m:BitVec 64):List Nat:=(List.range 64).filter λi=>m.getLsbD i
def eo(m:BitVec 64):List Int:=(be4 m).map fun (i:Nat)=>(i:Int)
theorem be3(m:BitVec 64):(be4 m).Pairwise (· < ·):=(List.pairwise_lt_range).sublist He
theorem ai8:i∈be4 m↔m.getLsbD i=true:=by
 unfold be4
 rw [Gg,Hz]
 exact ⟨λh=>h.2,λh=>⟨BitVec.lt_of_getLsbD h,h⟩⟩
theorem fz1:cc4 (α:=Nat) (· < ·):=⟨Nat.lt_irrefl,λ_ _ _=>Nat.lt_trans,Kn⟩
theorem ct4:be4 0#64=[]:=by
 unfold be4
 exact Jd.2 λi _=>by simp
theorem ct5(h:m≠0#64):∃k:Nat,k<64/\tzB m=(k:Int)/\m.getLsbD k=true/\be4 m=k::be4 (m &&& (m - 1#64)):=by
 obtain ⟨k,hk,hb,hl,he,hc⟩:=dh8 h
 refine ⟨k,hk,fv1 h hk he,hb,fz1.uniq (be3 m) (Ge.2 ⟨λj M=>?_,be3 _⟩) λj=>?_⟩
 ·rw [ai8,hc,Hc,Gn] at M
  rcases Kn j k with h1|h1|h1
  ·rw [hl j h1] at M;cases M.1
  ·exact absurd h1 M.2
  exact h1
 rw [Fw,ai8,ai8,hc,Hc,Gn]
 constructor
 ·intro h1
  by_cases h2:j=k
  ·exact .inl h2
  exact .inr ⟨h1,h2⟩
 rintro (rfl|⟨h1,_⟩)
 ·exact hb
 exact h1
theorem P6:eo 0#64=[]:=by unfold eo;rw [ct4];rfl
theorem ae3(h:m≠0#64):eo m=tzB m::eo (m &&& (m - 1#64)):=by
 obtain ⟨k,hk,M,_,he⟩:=ct5 h
 unfold eo
 rw [he,M];rfl
theorem dh1(m:BitVec 64):(be4 m).length<=64:=by
 unfold be4
 have:=Gs (λi=>m.getLsbD i) (List.range 64)
 rwa [Jy] at this
theorem dh2(m:BitVec 64):(eo m).length<=64:=by unfold eo;rw [F_];exact dh1 m
theorem ct7(h:m≠0#64):(eo (m &&& (m - 1#64))).length<(eo m).length:=by rw [ae3 h];exact Nat.lt_succ_self _
theorem K0{x:Int}:x∈eo m↔0<=x/\m.getLsbD x.toNat=true:=by
 unfold eo
 rw [Gv]
 constructor
 ·rintro ⟨i,hi,rfl⟩;exact ⟨by omega,by rw [Lw];exact ai8.1 hi⟩
 rintro ⟨h1,M⟩;exact ⟨x.toNat,ai8.2 M,by omega⟩
theorem ae4(m:BitVec 64):(eo m).Pairwise (· < ·):=by
 unfold eo
 rw [Mr]
 exact (be3 m).imp λh=>by omega
end Go.Sl
namespace Go.Sl
open Go.RowKit (Below)
variable{x y:Operand}{by' c e h n t:Nat}{ag:Bool}{z:List Value}{ad:Option Addr}{I':List Item}
section
variable {P:Program}{κ:Ctx}{N:Frm}{Q:Exit->Act->World->Prop}{L:Env}{I J:List Item}{ops:Array Oper}{rest:List Oper}
variable {d:Option Tmp}{ty:TypeId}{ps:String}{af:Array Edge}{gd:Option (Nat×Bool)}
variable {α:Type}[Enc α]{xs ys R:List α}
theorem Eff.gi4{i j dd:Nat}(ht:P.underlying t=some (.slice e))(hT:tyF P e=some (Enc.sz α,ag,by',z))
  (hx:er L x=some (.slice ad i c)) (hy:er L y=some (.slice (N9 ad c j<|Enc.sz α) (n - j)<|c - j)) (hn:n=xs.length) (ba:i<=j) (hj:j<=xs.length) (hc:0<xs.length) (hN:Nat.blt dd N.n=true)
  (ai:At I (vc e (.slice ad n c) xs) (vc e (.slice ad (xs.take i++xs.drop j).length c)<|xs.take i++xs.drop j) I') :
  Eff P κ N Q ⟨some dd,.call {callee:= .builtin .append,args:= #[x,y],argTypes:= #[t,t]},ty,ps,af,gd⟩ L I λL' I''=>L'=(dd,.slice ad (xs.take i++xs.drop j).length c)::L/\I''=I':=
 Eff.Q6 rfl hN λa w ha hs=>by
  subst hn
  have a0:(xs.take i++xs.drop j).length=i+(xs.length - j):=by simp only [By,Fp,Fx];omega
  have ay:Sl κ I (.slice ad xs.length c) xs:=Sl.vec ai.mem
  have an:=(au7.dz9 ay hj) w hs
  have M:=aa3 (P:=P) an (Gd<|xs.length - j)
  have aq:=ai2 (P:=P) an
  have ax:=(hs.ok _ ai.mem).1
  obtain ⟨a',a6,hv,hl,ao,az,au⟩:=ax
  cases hv
  obtain ⟨b,off,aj,rfl,hb,ae,ak⟩:=au (by omega)
  have a7:xs.length*Enc.sz α<=c*Enc.sz α:=Hi _ ao
  have a1:((cells xs).drop (j*Enc.sz α)).length=(xs.length - j)*Enc.sz α:=by rw [Fx,hl,Nat.sub_mul]
  rw [Fv (by omega)] at M
  have aa:i+(xs.length - j)<=c:=by omega
  have a8:i*Enc.sz α+(xs.length - j)*Enc.sz α<=xs.length*Enc.sz α:=by rw [←Jg];exact Hi _ (by omega)
  have av:∀u∈(cells xs).drop (j*Enc.sz α),u.oneCell'=true:=λu hu=>cells_one xs u (Mg hu)
  have ab:=run_storeCells_at P b (off+i*Enc.sz α) e ((cells xs).drop (j*Enc.sz α)) 0 aj w hb (by simp only [Kz];omega) av
  simp only [Kz] at ab
  obtain ⟨W',hW⟩:∃W',W'=w.setRow b (aj.toList.take (off+i*Enc.sz α)++(cells xs).drop (j*Enc.sz α)++aj.toList.drop (off+i*Enc.sz α+((cells xs).drop (j*Enc.sz α)).length)).toArray:=⟨_,rfl⟩
  rw [←hW] at ab
  refine ⟨.slice (some ⟨b,off,none⟩) (xs.take i++xs.drop j).length c,W',_,?_,⟨rfl,rfl⟩,?_⟩
  ·rw [a0]
   simp only [execOp,resolve,invoke,builtin,Jp,Hg,Kq,ha.eval hx,ha.eval hy]
   simp only [Builtin.append_,Jm,Lo,Lp,Sem.run_bind,run_underlying ht,Result.andThen_ok,run_sizeOf hT]
   simp [run_underlying ht,run_sizeOf hT,aq,aa,M,G9]
   rw [ab]
   rfl
  rw [hW]
  have hp:=db1 (k:=i*Enc.sz α) (vs:=(cells xs).drop (j*Enc.sz α)) hl ao az hb ae ak (by rw [a1];omega)
  refine hs.upd ai rfl ⟨rfl,Gd _⟩ rfl (by simp) (λk' _ aw=>setRow_other w b k' _ λe=>aw<|by subst e;exact ⟨off,xs.length,c,rfl,by omega⟩) ?_ λk' a3=> .inl ?_
  ·obtain ⟨_,_,hv,a9,a5,ap,ah⟩:=hp
   cases hv
   refine ⟨_,c,rfl,r9 _,by omega,ap,λh=>?_⟩
   obtain ⟨b2,a4,ar,he,h1,h2,h3⟩:=ah h
   cases he
   refine ⟨b,off,ar,rfl,h1,h2,λq u hq=>h3 q u ?_⟩
   rw [K8,R3,Z3] at hq
   have hlt:q<((cells xs).take (i*Enc.sz α)++(cells xs).drop (j*Enc.sz α)).length:=(Gw.1 hq).1
   rw [Gu hlt]
   exact hq
  obtain ⟨o,n',c',he,bb⟩:=a3
  cases he
  exact ⟨off,xs.length,c,rfl,by omega⟩
theorem Eff.ga9{k:Nat}(ht:P.underlying t=some (.slice e))(hT:tyF P e=some (Enc.sz α,ag,by',z))(hz:G7 z)(ao:z.length=Enc.sz α)
  (hx:er L x=some (.slice (N9 ad c k<|Enc.sz α) (h - k)<|c - k)) (hk:k=xs.length) (hn:n=xs.length) (a3:k<=h) (ay:h<=c) (ab:At I (vc e (.slice ad n c) xs) (vc e (.slice ad n c) xs) I') :
  Eff P κ N Q ⟨none,.call {callee:= .builtin .clear,args:= #[x],argTypes:= #[t]},ty,ps,af,gd⟩ L I λL' I''=>L'=L/\I''=I':=
 Eff.df8 rfl λa w ha hs=>by
  subst hk hn
  have au:=(hs.ok _ ab.mem).1
  obtain ⟨a',az,hv,hl,ap,aw,ak⟩:=au
  cases hv
  by_cases hkl:h=xs.length
  ·subst hkl
   refine ⟨.tuple #[],w,I',?_,⟨rfl,rfl⟩,Fit.upd ab (λw hw=>⟨hw,λ_ h=>h⟩) w hs⟩
   rw [Nat.sub_self] at hx
   generalize N9 ad c xs.length (Enc.sz α)=aa at hx
   cases aa<;>simp [execOp,resolve,invoke,builtin,ha.eval hx,Builtin.clear_,run_underlying ht]
  obtain ⟨b,off,ah,rfl,hb,av,ae⟩:=ak (by omega)
  obtain ⟨zv,aq,aj⟩:=aa1 hT w
  have a0:h*Enc.sz α<=c*Enc.sz α:=Hi _ ay
  obtain ⟨m,hm⟩:∃m,h - xs.length=m+1:=⟨h - xs.length - 1,by omega⟩
  have an:xs.length*Enc.sz α+(m+1)*Enc.sz α=h*Enc.sz α:=by rw [←Jg];congr 1;omega
  obtain ⟨Z,hZ⟩:∃Z,Z=(Builtin.zeroCells zv.cells<|m+1).toList:=⟨_,rfl⟩
  have M:Z.length=(m+1)*Enc.sz α:=by rw [hZ,Hh,size_zeroCells,aj,Ji,ao]
  have h1:∀u∈Z,u.oneCell'=true:=by rw [hZ];exact bo8 (by rw [aj];intro u hu;exact hz.all u<|by simpa using hu) _
  have ai:=run_storeCells_at P b (off+xs.length*Enc.sz α) e Z 0 ah w hb (by rw [M];omega) h1
  simp only [Kz] at ai
  have ax:er L x=some (.slice (some ⟨b,off+xs.length*Enc.sz α,none⟩) (m+1)<|c - xs.length):=by
   rw [hx,hm];unfold N9;rw [An (by omega)];simp [G9]
  refine ⟨.tuple #[],_,I',by simp only [execOp,resolve,invoke,builtin,Jp,Hg,Kq,ha.eval ax];simp [Builtin.clear_,run_underlying ht,aq];rw [←hZ,ai];simp only [Result.andThen_ok];rfl,⟨rfl,rfl⟩,?_⟩
  refine hs.upd ab rfl ⟨rfl,Gd _⟩ rfl (by simp) (λk' _ ar=>setRow_other w b k' _ λe=>ar<|by subst e;exact ⟨off,xs.length,c,rfl,by omega⟩) ?_ λk hk=> .inl hk
  refine ⟨_,c,rfl,hl,ap,aw,λhc=>⟨b,off,_,rfl,setRow_heap w b ah _ e _ hb,?_,λj u' hj=>?_⟩⟩
  ·simp only [Ji,By,Fp,Fx,M,Hh];omega
  have a1:j<xs.length*Enc.sz α:=by
   have:=(Gw.1 hj).1
   omega
  have:=ae j u' hj
  rw [Jm,Gu (by simp only [By,Fp,Hh];omega),Gu (by simp only [Fp,Hh];omega),Je,B_<|by omega]
  simpa using this
theorem j8.gg2{y' M:Operand}{T E sz l q:Nat}{m m' ae:Int}(ht:P.underlying T=some (.slice E))(hE:tyF P E=some (sz,ag,by',z))(hx:er L x=some (.slice ad n c))(hy:er L y=some (e7 m))(hm:m=(l:Int))(ai:er L y'=some (e7 m'))(ah:m'=(h:Int))(aa:er L M=some (e7 ae))(ab:ae=(q:Int))
  (hl:l<=h) (hn:h<=q) (hq:q<=c):j8 P κ N ⟨d,.slice T x (some y) (some y')<|some M,ty,ps,af,gd⟩ L J (.slice (if q=l then ad else ad.map (·.add (l*sz))) (h - l)<|q - l):=λa w ha hs=>by
 subst hm ah ab
 have h1:((l:Int)<=(h:Int)):=by omega
 have h2:((h:Int)<=(q:Int)):=by omega
 have h3:((q:Int)<=(c:Int)):=by omega
 have aj:(Instr.sliceBounds true n c (some<|a.eval y) (some<|a.eval y')<|some<|a.eval M).run P w = .ok (l,h,q) w:=by
  simp [Instr.sliceBounds,ha.eval hy,ha.eval ai,ha.eval aa,Instr.sliceBound,asIntOf,hl,hn,hq]
 simp [execOp,Instr.sliceAt,Instr.slice,run_underlying ht,ha.eval hx,aj,run_sizeOf hE]
def gd9(P:Program)(κ:Ctx)(I:List Item)(g:FuncId)(caps:List Value)(cf:α->α->Int):Prop:=V5 P g=true/\∀(x y:α) (J:List Item),Fit κ J I->eu P κ g ([]++[.agg (Enc.enc x).toArray,.agg (Enc.enc y).toArray]++caps) J λr J'=>r=e7 (cf x y)/\J=J'
structure U5 [Inhabited α] (cf:α->α->Int) (xs:List α) (x:α) (i:Nat) (b:Bool):Prop where
 le:i<=xs.length
 low:0<i->cf (e_ xs<|(i:Int) - 1) x<0
 high:i<xs.length->¬cf (e_ xs i) x<0
 is:b=decide (i<xs.length/\cf (e_ xs i) x=0)
end
end Go.Sl
namespace Go.Sl
variable{nd u v:Int}
def F5(nd u v:Int):Prop:=0<=u/\0<=v/\u<nd/\v<nd/\u≠v
instance (nd u v:Int):Decidable (F5 nd u v):=by unfold F5;infer_instance
def j4(u v:Int):Pt:=⟨if v<u then v else u,if u<v then v else u⟩
def T7(nd:Int)(es:List Pt)(u v:Int):Int:=if F6 nd es≠0 then F6 nd es else if F5 nd u v then 0 else 6
def db0(nd:Int)(es:List Pt)(u v:Int):Int:=if T7 nd es u v≠0 then T7 nd es u v else if j4 u v∈es then 15 else 0
def da8(nd:Int)(es:List Pt)(u v:Int):Int:=if T7 nd es u v≠0 then T7 nd es u v else if j4 u v∈es then 0 else 7
theorem ac2{es:List Pt}:T7 nd es u v=0↔s6 nd es/\F5 nd u v:=by
 unfold T7
 by_cases h:F6 nd es=0
 ·rw [An (by simp [h])]
  by_cases h2:F5 nd u v
  ·simp [h2,s4.1 h]
  simp [h2]
 rw [B_ h]
 exact ⟨λe=>absurd e h,λe=>absurd (s4.2 e.1) h⟩
theorem dz7(h:F5 nd u v):0<=(j4 u v).u/\(j4 u v).u<(j4 u v).v/\(j4 u v).v<nd:=by
 unfold F5 at h;unfold j4;simp only;split<;>split<;>omega
theorem co5(h:F5 nd u v):(j4 u v=⟨u,v⟩/\u<v)\/(j4 u v=⟨v,u⟩/\v<u):=by
 unfold F5 at h;unfold j4
 by_cases h1:u<v
 ·left;rw [An (by omega),B_ h1];exact ⟨rfl,h1⟩
 right;rw [B_ (by omega),An h1];exact ⟨rfl,by omega⟩
theorem cu5(u v:Int):j4 u v=j4 v u:=by
 unfold j4;congr 1<;>split<;>split<;>omega
theorem Pt.at2(a b:Pt):Pt.cmp a b=0↔a=b:=by
 rw [Pt.bs7]
 unfold Pt.cmp
 split<;>(try split)<;>(try split)<;>(try split)<;>omega
section
variable {es:List Pt}{e:Pt}{i:Nat}{q:Bool}
theorem U5.below(h:U5 Pt.cmp es e i q)(ha:fk6 es):∀j,j<i->Pt.lt (e_ es j) e:=λj hj=>by
 have M:=(Pt.W0 _ _).1 (h.low<|by omega)
 rw [show (i:Int) - 1=((i - 1:Nat):Int) by omega] at M
 by_cases hq:j=i - 1
 ·rw [hq];exact M
 exact Pt.lin.tr _ _ _ (ca6 ha (i:=j) (j:=i - 1) (by omega)<|by have:=h.le;omega) M
theorem U5.gi5(h:U5 Pt.cmp es e i q)(ha:fk6 es):∀j,i<=j->j<es.length->¬Pt.lt (e_ es j) e:=λj hj hl M=>by
 have h2:=h.high (by omega)
 rw [Pt.W0] at h2
 by_cases hq:j=i
 ·rw [hq] at M;exact h2 M
 exact h2<|Pt.lin.tr _ _ _ (ca6 ha (i:=i) (j:=j) (by omega) hl) M
theorem U5.mem(h:U5 Pt.cmp es e i q)(ha:fk6 es):(i<es.length/\e_ es i=e)↔e∈es:=by
 constructor
 ·rintro ⟨h1,M⟩;rw [←M];exact at_mem (by omega) (by omega)
 intro hm
 obtain ⟨j,hj,he⟩:=an6 hm
 have h1:¬j<i:=λhlt=>by have:=h.below ha j hlt;rw [he] at this;exact Pt.lin.irr _ this
 have M:i<es.length:=by omega
 refine ⟨M,?_⟩
 by_cases hq:j=i
 ·rw [←hq];exact he
 have h3:=h.high M
 rw [Pt.W0] at h3
 have h4:=ca6 ha (i:=i) (j:=j) (by omega) hj
 rw [he] at h4
 exact absurd h4 h3
theorem U5.ins(h:U5 Pt.cmp es e i q)(M:fk6 es)(hn:e∉es):es.take i++[e]++es.drop i=z7 Pt.lt es e:=
 (di6 e es i h.le (h.below M) λhl=>⟨h.gi5 M i (Gd _) hl,λhe=>hn<|(h.mem M).1 ⟨hl,he⟩⟩).symm
def j7(es:List Pt)(e:Pt):List Pt:=es.filter λp=>decide (p≠e)
theorem U5.del(h:U5 Pt.cmp es e i q)(ha:fk6 es)(hm:e∈es):es.take i++es.drop (i+1)=j7 es e:=by
 obtain ⟨hl,he⟩:=(h.mem ha).2 hm
 have aa:∀j,j<es.length->j≠i->e_ es j≠e:=λj M ad hq=>by
  rcases Nat.lt_or_ge j i with h1|h1
  ·have:=h.below ha j h1;rw [hq] at this;exact Pt.lin.irr _ this
  have:=ca6 ha (i:=i) (j:=j) (by omega) M;rw [he,hq] at this;exact Pt.lin.irr _ this
 have ab:es=es.take i++e::es.drop (i+1):=by
  conv=>lhs;rw [←Jl i es,ao8 es i hl,he]
 have h1:(es.take i).filter (λp=>decide<|p≠e)=es.take i:=Jk.2 λp hp=>by
  obtain ⟨j,M,rfl⟩:=Hu hp
  rw [Fp] at M
  have:(es.take i)[j]=e_ es j:=by rw [K9 es j (by omega)];simp
  rw [this];simpa using aa j (by omega) (by omega)
 have h2:(es.drop<|i+1).filter (λp=>decide<|p≠e)=es.drop (i+1):=Jk.2 λp hp=>by
  obtain ⟨j,M,rfl⟩:=Hu hp
  rw [Fx] at M
  have:(es.drop<|i+1)[j]=e_ es ((i+1+j:Nat):Int):=by rw [K9 es _ (by omega)];simp
  rw [this];simpa using aa (i+1+j) (by omega) (by omega)
 unfold j7
 conv=>rhs;rw [ab]
 rw [Gj,Hj,h1,h2]
 simp
theorem s6.add(h:s6 nd es)(M:F5 nd u v):s6 nd (z7 Pt.lt es (j4 u v)):=
 ⟨h.rng,Pt.lin.z7 _ h.asc,λp hp=>by
  rcases (ar8 _ _ _).1 hp with rfl|hp
  ·exact dz7 M
  exact h.Z1 p hp⟩
theorem s6.rem(h:s6 nd es):s6 nd (j7 es e):=⟨h.rng,h.asc.sublist He,λp M=>h.Z1 p ((Gg.1 M).1)⟩
end
end Go.Sl
namespace Go.Sl
set_option maxRecDepth 10000
variable{nd:Int}{es:List Pt}
instance:Enc (BitVec 64):=⟨λb=>[U64 b],1,by omega,λ_=>rfl,λ_ u h=>by simp at h;subst h;rfl⟩
def X6(rows:List (BitVec 64))(e:Pt):List (BitVec 64):=
 if 0<=e.u/\e.u<e.v/\e.v<rows.length then
  (rows.set e.u.toNat<|e_ rows e.u ||| 1#64 <<< e.v.toNat).set e.v.toNat (e_ (rows.set e.u.toNat<|e_ rows e.u ||| 1#64 <<< e.v.toNat) e.v ||| 1#64 <<< e.u.toNat)
 else rows
def de1(nd:Int):List (BitVec 64):=List.replicate (min (max nd 0) 64).toNat 0#64
def ek(nd:Int)(es:List Pt):List (BitVec 64):=es.foldl X6 (de1 nd)
theorem Z4(rows:List (BitVec 64))(e:Pt):(X6 rows e).length=rows.length:=by
 unfold X6;split<;>simp
theorem ad8{k:Nat}(h:k<es.length):ek nd (es.take (k+1))=X6 (ek nd (es.take k)) (e_ es k):=by
 unfold ek;rw [bp5 es k h,Hd];rfl
theorem ad9(nd:Int)(es:List Pt):(ek nd es).length=(min (max nd 0) 64).toNat:=by
 unfold ek
 have:∀(es:List Pt) (r:List (BitVec 64)),(es.foldl X6 r).length=r.length:=λes=>by
  induction es with
  |nil=>intro r;rfl
  |cons e es ih=>intro r;rw [Hy,ih,Z4]
 rw [this];simp [de1]
theorem cp4(n:Nat)(i:Int):e_ (List.replicate n (0#64)) i=0#64:=by
 unfold e_
 rw [Hq,Mv]
 split<;>rfl
structure ah0 (nd:Int) (es:List Pt) (rows:List (BitVec 64)):Prop where
 len:(rows.length:Int)=nd
 bit:∀v w:Int,0<=v->v<nd->0<=w->w<64->((e_ rows v).getLsbD w.toNat=decide ((⟨v,w⟩:Pt)∈es\/(⟨w,v⟩:Pt)∈es))
theorem ah0.start(h:0<=nd/\nd<=64):ah0 nd [] (de1 nd):=
 ⟨by unfold de1;simp;omega,λv w _ _ _ _=>by unfold de1;rw [cp4];simp⟩
theorem do3{rows:List (BitVec 64)}{e:Pt}(h:0<=e.u/\e.u<e.v/\e.v<rows.length)(j:Int)(M:0<=j)(h1:j<rows.length) :
  e_ (X6 rows e) j=if e.v=j then e_ rows e.v ||| 1#64 <<< e.u.toNat else if e.u=j then e_ rows e.u ||| 1#64 <<< e.v.toNat else e_ rows j:=by
 unfold X6
 rw [B_ h,R4 _ e.v j _ (by omega) M<|by rw [Fo];omega]
 by_cases hv:e.v=j
 ·rw [B_ hv,B_ hv,R4 _ e.u e.v _ (by omega) (by omega)<|by omega,An<|by omega]
 rw [An hv,An hv,R4 _ e.u j _ (by omega) M<|by omega]
theorem Z0(a i:Nat)(hi:i<64):(1#64 <<< a).getLsbD i=decide (a=i):=by
 show (BitVec.twoPow 64 a).getLsbD i=_
 rw [BitVec.getLsbD_twoPow]
 by_cases h:a=i
 ·subst h;simp [hi]
 simp [h]
theorem ah0.push{rows:List (BitVec 64)}{e:Pt}(h:ah0 nd es rows)(he:0<=e.u/\e.u<e.v/\e.v<nd)(hn:nd<=64):ah0 nd (es++[e]) (X6 rows e):=by
 have hl:=h.len
 refine ⟨by rw [Z4];exact hl,λv w v0 v1 w0 w1=>?_⟩
 rw [do3 (by omega) v v0 (by omega)]
 have hb:=h.bit v w v0 v1 w0 w1
 have M:∀a b:Int,((⟨a,b⟩:Pt)=e)↔(a=e.u/\b=e.v):=λa b=>by rw [Pt.bs7]
 simp only [Gt,Gc,M]
 by_cases hv:e.v=v
 ·rw [B_ hv,Ld,Z0 _ _<|by omega,hv,hb]
  have e1:(e.u.toNat=w.toNat)↔(w=e.u/\v=e.v):=by omega
  have e2:¬(v=e.u/\w=e.v):=by omega
  rw [Fs.2 e1]
  rw [←Bool.decide_or,Fs]
  constructor
  ·rintro ((a|b)|c)
   ·exact .inl<|.inl a
   ·exact .inr<|.inl b
   exact .inr<|.inr ⟨c.1,rfl⟩
  rintro ((a|c)|(b|c))
  ·exact .inl<|.inl a
  ·exact absurd c<|λc=>by omega
  ·exact .inl<|.inr b
  exact .inr ⟨c.1,hv.symm⟩
 rw [An hv]
 by_cases hu:e.u=v
 ·rw [B_ hu,Ld,Z0 _ _<|by omega,hu,hb]
  have e1:(e.v.toNat=w.toNat)↔(v=e.u/\w=e.v):=by omega
  have e2:¬(w=e.u/\v=e.v):=by omega
  rw [Fs.2 e1]
  rw [←Bool.decide_or,Fs]
  constructor
  ·rintro ((a|b)|c)
   ·exact .inl<|.inl a
   ·exact .inr<|.inl b
   exact .inl<|.inr ⟨rfl,c.2⟩
  rintro ((a|c)|(b|c))
  ·exact .inl<|.inl a
  ·exact .inr ⟨hu.symm,c.2⟩
  ·exact .inl<|.inr b
  exact absurd c<|λc=>by omega
 rw [An hu,hb]
 have e1:¬(v=e.u/\w=e.v):=by omega
 have e2:¬(w=e.u/\v=e.v):=by omega
 simp [e1,e2]
theorem cj7(h:s6 nd es):∀k,k<=es.length->ah0 nd (es.take k) (ek nd (es.take k))
 |0,_=>by simpa [ek] using ah0.start h.rng
 |k+1,hk=>by
  rw [ad8 (by omega),bp5 es k<|by omega]
  exact (cj7 h k<|by omega).push (h.at<|by omega) h.rng.2
theorem s6.rows(h:s6 nd es):ah0 nd es (ek nd es):=by
 have:=cj7 h es.length (Gd _)
 rwa [Hb] at this
end Go.Sl
namespace Go.Sl
variable{d k nd u v:Int}{left m:BitVec 64}{es:List Pt}{ws:List Int}{j:Nat}
theorem K1{a b:BitVec 64}:u∈eo (a &&& b)↔u∈eo a/\u∈eo b:=by
 simp only [K0,Ke,Hc]
 constructor
 ·rintro ⟨M,h2,h3⟩;exact ⟨⟨M,h2⟩,M,h3⟩
 rintro ⟨⟨M,h2⟩,_,h3⟩;exact ⟨M,h2,h3⟩
theorem T2(h:u∈eo m):0<=u/\u<64:=by
 rw [K0] at h
 refine ⟨h.1,Gb λhn=>?_⟩
 rw [BitVec.getLsbD_of_ge _ _ (by omega)] at h
 exact absurd h.2<|by simp
theorem bx9(h0:0<=k)(M:k<64):u∈eo (m ||| 1#64 <<< k.toNat)↔u∈eo m\/u=k:=by
 constructor
 ·intro h
  have hu:=T2 h
  rw [K0,Ld,Z0 _ _<|by omega,Ki,Gn] at h
  rw [K0]
  rcases h.2 with h2|h2
  ·exact .inl ⟨h.1,h2⟩
  exact .inr<|by omega
 intro h
 have hu:0<=u/\u<64:=h.elim T2 λh=>by omega
 rw [K0,Ld,Z0 _ _<|by omega,Ki,Gn]
 rw [K0] at h
 exact ⟨hu.1,h.elim (λh=> .inl h.2) λh=> .inr<|by omega⟩
theorem M6(h0:0<=k):u∈eo (m &&& ~~~(1#64 <<< k.toNat))↔u∈eo m/\u≠k:=by
 constructor
 ·intro h
  have hu:=T2 h
  rw [K0,Ke,Mp,Z0 _ _<|by omega,Hc] at h
  rw [K0]
  refine ⟨⟨h.1,h.2.1⟩,λe=>?_⟩
  have M:=h.2.2
  rw [e] at M
  simp at M
 rintro ⟨h,aa⟩
 have hu:=T2 h
 rw [K0] at h
 rw [K0,Ke,Mp,Z0 _ _<|by omega,Hc]
 refine ⟨h.1,h.2,?_⟩
 rw [D_ (show ¬k.toNat=u.toNat by omega)]
 simp;omega
theorem Q9(m:BitVec 64):(eo m).Nodup:=(ae4 m).imp λh=>by omega
theorem ct6(h:k∈eo m):(eo m).Perm (k::eo (m &&& ~~~(1#64 <<< k.toNat))):=by
 have M:=(T2 h).1
 refine (Hp (Q9 _)<|Hx.2 ⟨λe=>((M6 M).1 e).2 rfl,Q9 _⟩).2 λu=>?_
 rw [Fw,M6 M]
 by_cases e:u=k
 ·subst e;simp [h]
 simp [e]
theorem aa8(h:k∈eo m):(eo m).length=(eo (m &&& ~~~(1#64 <<< k.toNat))).length+1:=(ct6 h).length_eq
theorem ct2(M:0<=k)(h:k∉eo m):(eo (m &&& ~~~(1#64 <<< k.toNat))).length=(eo m).length:=by
 refine ((Hp (Q9 _)<|Q9 _).2 λu=>?_).length_eq
 rw [M6 M]
 exact ⟨λh=>h.1,λhu=>⟨hu,λe=>h<|e▸hu⟩⟩
theorem ba2:m≠0#64↔∃u,u∈eo m:=by
 constructor
 ·intro h;exact ⟨_,by rw [ae3 h];exact A_⟩
 rintro ⟨u,hu⟩ rfl
 rw [P6] at hu;cases hu
theorem db4(h:m≠0#64):tzB m∈eo m/\∀u∈eo m,tzB m<=u:=by
 have e:=ae3 h
 refine ⟨by rw [e];exact A_,λu hu=>?_⟩
 have M:=ae4 m
 rw [e] at M hu
 rcases Fw.1 hu with rfl|hu
 ·exact Hl _
 have:=(Ge.1 M).1 u hu;omega
def Q3(rows:List (BitVec 64))(left:BitVec 64)(v:Int):Nat:=(eo (e_ rows v &&& left)).length
structure ca8 (rows:List (BitVec 64)) (left:BitVec 64) (v:Int):Prop where
 mem:v∈eo left
 le:∀u∈eo left,Q3 rows left v<Q3 rows left u\/(Q3 rows left v=Q3 rows left u/\v<=u)
theorem ca8.uniq{rows:List (BitVec 64)}{M:Int}(h:ca8 rows left v)(h':ca8 rows left M):v=M:=by
 have a:=h.le M h'.mem
 have b:=h'.le v h.mem
 omega
theorem aw5(f:Int->Nat):∀(l:List Int) (b:Int),(∀u∈l,b<=u)->l.Pairwise (· < ·)->
    ((l.foldl (λb v=>if f v<f b then v else b) b=b\/l.foldl (λb v=>if f v<f b then v else b) b∈l)/\
     (f (l.foldl (λb v=>if f v<f b then v else b) b)<f b\/l.foldl (λb v=>if f v<f b then v else b) b=b)/\
     ∀u∈l,f (l.foldl (λb v=>if f v<f b then v else b) b)<f u\/(f (l.foldl (λb v=>if f v<f b then v else b) b)=f u/\l.foldl (λb v=>if f v<f b then v else b) b<=u))
  |[],b,_,_=>⟨.inl rfl,.inr rfl,λu hu=>by cases hu⟩
  |x::xs,b,hb,hp=>by
    obtain ⟨hx,aa⟩:=Ge.1 hp
    have ab:=hb x A_
    rw [Hy]
    by_cases hc:f x<f b
    · rw [B_ hc]
      obtain ⟨h1,M,h3⟩:=aw5 f xs x (λu hu=>by have:=hx u hu;omega) aa
      generalize xs.foldl (λb v=>if f v<f b then v else b) x=r at h1 M h3
      refine ⟨.inr<|h1.elim (λe=>e▸A_) λh=>C_ _ h,.inl<|M.elim (λh=>by omega) λh=>by rw [h];exact hc,λu hu=>?_⟩
      rcases Fw.1 hu with rfl|hu
      · exact M.elim .inl λh=> .inr ⟨by rw [h],by omega⟩
      · exact h3 u hu
    · rw [An hc]
      obtain ⟨h1,M,h3⟩:=aw5 f xs b (λu hu=>hb u<|C_ _ hu) aa
      generalize xs.foldl (λb v=>if f v<f b then v else b) b=r at h1 M h3
      refine ⟨h1.imp_right λh=>C_ _ h,M,λu hu=>?_⟩
      rcases Fw.1 hu with rfl|hu
      · rcases M with h|h
        · exact .inl (by omega)
        · rw [h];omega
      · exact h3 u hu
def bp6(rows:List (BitVec 64))(left:BitVec 64):Int:=(eo left).foldl (λb v=>if Q3 rows left v<Q3 rows left b then v else b) ((eo left).headD 0)
theorem bc3{rows:List (BitVec 64)}(h:left≠0#64):ca8 rows left (bp6 rows left):=by
 have e:=ae3 h
 have M:=ae4 left
 unfold bp6
 have hh:(eo left).headD 0=tzB left:=by rw [e];rfl
 rw [hh]
 obtain ⟨h1,_,h3⟩:=aw5 (Q3 rows left) (eo left) (tzB left) (db4 h).2 M
 refine ⟨?_,h3⟩
 rcases h1 with h1|h1
 ·rw [h1];exact (db4 h).1
 exact h1
def fp4(rows:List (BitVec 64)):Nat->BitVec 64->Nat->List (Int×Nat)
 |0,_,_=>[]
 |n+1,left,k=>(bp6 rows left,max k<|Q3 rows left<|bp6 rows left)::fp4 rows n (left &&& ~~~(1#64 <<< (bp6 rows left).toNat)) (max k<|Q3 rows left<|bp6 rows left)
def ae6(rows:List (BitVec 64))(left:BitVec 64)(k:Nat):List (Int×Nat):=fp4 rows (eo left).length left k
theorem bn3(rows:List (BitVec 64))(k:Nat):ae6 rows 0#64 k=[]:=by unfold ae6;rw [P6];rfl
theorem bn4{rows:List (BitVec 64)}{k:Nat}(h:ca8 rows left v):ae6 rows left k=(v,max k (Q3 rows left v))::ae6 rows (left &&& ~~~(1#64 <<< v.toNat)) (max k (Q3 rows left v)):=by
 have hv:bp6 rows left=v:=(bc3<|ba2.2 ⟨v,h.mem⟩).uniq h
 unfold ae6
 rw [aa8 h.mem]
 show (bp6 rows left,_)::_=_
 rw [hv]
def am9(l:List (Int×Nat)):List Int:=l.map λp=>p.1
def br3(n:Nat)(l:List (Int×Nat)):List Int:=l.foldl (λxs p=>xs.set p.1.toNat (p.2:Int)) (List.replicate n 0)
theorem cm0(n:Nat)(l:List (Int×Nat)):(br3 n l).length=n:=by
 unfold br3
 have:∀(l:List (Int×Nat)) (xs:List Int),(l.foldl (λxs p=>xs.set p.1.toNat (p.2:Int)) xs).length=xs.length:=λl=>by
  induction l with
  |nil=>intro xs;rfl
  |cons p l ih=>intro xs;rw [Hy,ih,Fo]
 rw [this,Fy]
theorem df9(n:Nat)(l:List (Int×Nat))(v:Int)(k:Nat):br3 n (l++[(v,k)])=(br3 n l).set v.toNat (k:Int):=by
 unfold br3;rw [Hd];rfl
theorem ai6(l:List (Int×Nat))(v:Int)(k:Nat):am9 (l++[(v,k)])=am9 l++[v]:=by
 unfold am9;rw [Hr];rfl
theorem bg8{rows:List (BitVec 64)}{m:Nat}(M:∀left v,Q3 rows left v<=m):∀(n:Nat) (left:BitVec 64) (k:Nat),k<=m->∀p∈fp4 rows n left k,p.2<=m
 |0,_,_,_,p,hp=>by cases hp
 |n+1,left,k,hk,p,hp=>by
  have h1:=M left (bp6 rows left)
  rcases Fw.1 hp with rfl|hp
  ·show max k _<=m;omega
  exact bg8 M n _ _ (by omega) p hp
structure fr5 (n:Nat) (rows:List (BitVec 64)):Prop where
 len:rows.length=n
 le:n<=64
 lt:∀u v:Int,0<=u->u<n->v∈eo (e_ rows u)->v<n
 sym:∀u v:Int,0<=u->u<n->v∈eo (e_ rows u)->u∈eo (e_ rows v)
 irr:∀u:Int,0<=u->u<n->u∉eo (e_ rows u)
theorem ah0.mem{rows:List (BitVec 64)}(h:ah0 nd es rows)(u0:0<=u)(u1:u<nd):v∈eo (e_ rows u)↔(0<=v/\v<64)/\((⟨u,v⟩:Pt)∈es\/(⟨v,u⟩:Pt)∈es):=by
 constructor
 ·intro hv
  have M:=T2 hv
  rw [K0,h.bit u v u0 u1 M.1 M.2,Gn] at hv
  exact ⟨M,hv.2⟩
 rintro ⟨M,hv⟩
 rw [K0,h.bit u v u0 u1 M.1 M.2,Gn]
 exact ⟨M.1,hv⟩
theorem ah0.symB{rows:List (BitVec 64)}(h:ah0 nd es rows)(hG:s6 nd es):fr5 nd.toNat rows:=by
 have hr:=hG.rng
 have hl:=h.len
 have ed:∀a b:Int,((⟨a,b⟩:Pt)∈es)->0<=a/\a<b/\b<nd:=λa b hm=>hG.Z1 _ hm
 refine ⟨by omega,by omega,λu v M u1 hv=>?_,λu v M u1 hv=>?_,λu M u1 hv=>?_⟩
 ·have:=((h.mem M<|by omega).1 hv).2
  rcases this with e|e<;>have:=ed _ _ e<;>omega
 ·obtain ⟨h1,h2⟩:=(h.mem M<|by omega).1 hv
  have h3:v<nd:=by rcases h2 with e|e<;>have:=ed _ _ e<;>omega
  exact (h.mem h1.1 h3).2 ⟨⟨M,by omega⟩,h2.symm⟩
 have:=((h.mem M<|by omega).1 hv).2
 rcases this with e|e<;>have:=ed _ _ e<;>omega
section
variable {n:Nat}{rows:List (BitVec 64)}
theorem bs8(h:fr5 n rows)(left:BitVec 64)(v0:0<=v)(v1:v<n):Q3 rows left v<n:=by
 unfold Q3
 have hs:(v::eo (e_ rows v &&& left)).Nodup:=Hx.2 ⟨λhm=>h.irr v v0 v1 (K1.1 hm).1,Q9 _⟩
 have M:∀x∈(v::eo (e_ rows v &&& left)),x∈(List.range n).map fun (i:Nat)=>(i:Int):=λx hx=>by
  rw [Gv]
  rcases Fw.1 hx with rfl|hx
  ·exact ⟨x.toNat,Hz.2<|by omega,by omega⟩
  have h1:=(K1.1 hx).1
  have h2:=h.lt v x v0 v1 h1
  have h3:=(T2 h1).1
  exact ⟨x.toNat,Hz.2<|by omega,by omega⟩
 have:=Hk hs M
 rw [F_,Jy,E_] at this
 omega
theorem cu7(h:fr5 n rows)(u0:0<=u)(u1:u<n)(M:0<=v)(v1:v<n)(hv:v∈eo left) :
  Q3 rows left u=Q3 rows (left &&& ~~~(1#64 <<< v.toNat)) u+if u∈eo (e_ rows v) then 1 else 0:=by
 unfold Q3
 rw [←BitVec.and_assoc]
 by_cases hm:u∈eo (e_ rows v)
 ·rw [B_ hm]
  exact aa8<|K1.2 ⟨h.sym v u M v1 hm,hv⟩
 rw [An hm]
 exact (ct2 M λe=>hm<|h.sym u v u0 u1 (K1.1 e).1).symm
end
structure au8 (n:Nat) (S:Int->Prop) (dg:Int->Nat) (dgs:List Int) (bks:List (BitVec 64)):Prop where
 fu2:dgs.length=n
 fu4:bks.length=64
 rng:∀u,S u->0<=u/\u<n
 deg:∀u,S u->e_ dgs u=(dg u:Int)
 bkt:∀d:Int,0<=d->d<64->∀u:Int,u∈eo (e_ bks d)↔S u/\(dg u:Int)=d
section
variable {n:Nat}{S S':Int->Prop}{dg dg':Int->Nat}{dgs:List Int}{bks:List (BitVec 64)}
theorem au8.start(n:Nat)(dg:Int->Nat):au8 n (λu=>0<=u/\u<((0:Nat):Int)) dg (List.replicate n 0) (List.replicate 64 0#64):=
 ⟨Fy,Fy,λu hu=>by omega,λu hu=>by omega,λd d0 M u=>by
  rw [cp4,P6]
  exact ⟨(λh=>by cases h),λh=>by omega⟩⟩
theorem au8.congr(h:au8 n S dg dgs bks)(hS:∀u,S' u↔S u)(hd:∀u,S u->dg' u=dg u):au8 n S' dg' dgs bks:=
 ⟨h.fu2,h.fu4,λu hu=>h.rng u ((hS u).1 hu),λu hu=>by rw [h.deg u ((hS u).1 hu),hd u ((hS u).1 hu)],λd d0 d1 u=>by
  rw [h.bkt d d0 d1 u,hS]
  constructor
  ·rintro ⟨M,h2⟩;exact ⟨M,by rw [hd u M];exact h2⟩
  rintro ⟨M,h2⟩;exact ⟨M,by rw [←hd u M];exact h2⟩⟩
theorem au8.push(h:au8 n S dg dgs bks){c:Int}(v0:0<=v)(v1:v<n)(hn:n<=64)(hS:∀u,S' u↔S u\/u=v)(hv:¬S v)(hc:c=(dg v:Int))(c1:c<64) :
  au8 n S' dg (dgs.set v.toNat c) (bks.set c.toNat<|e_ bks c ||| 1#64 <<< v.toNat):=by
 have aa:=h.fu4
 have ab:=h.fu2
 refine ⟨by rw [Fo];exact ab,by rw [Fo];exact aa,λu hu=>?_,λu hu=>?_,λd d0 d1 u=>?_⟩
 ·rcases (hS u).1 hu with hu|rfl
  ·exact h.rng u hu
  exact ⟨v0,v1⟩
 ·have hr:0<=u:=((hS u).1 hu).elim (λhu=>(h.rng u hu).1) λe=>by omega
  rw [R4 _ v u _ v0 hr (by omega)]
  rcases (hS u).1 hu with hu|rfl
  ·rw [An (λe=>hv<|by rw [e];exact hu)];exact h.deg u hu
  rw [B_ rfl,hc]
 rw [R4 _ c d _ (by omega) d0 (by omega),hS]
 by_cases e:c=d
 ·rw [B_ e,bx9 v0<|by omega,e,h.bkt d d0 d1]
  constructor
  ·rintro (⟨h1,M⟩|rfl)
   ·exact ⟨.inl h1,M⟩
   exact ⟨.inr rfl,by omega⟩
  rintro ⟨h1|rfl,M⟩
  ·exact .inl ⟨h1,M⟩
  exact .inr rfl
 rw [An e,h.bkt d d0 d1]
 constructor
 ·rintro ⟨h1,M⟩;exact ⟨.inl h1,M⟩
 rintro ⟨h1|rfl,M⟩
 ·exact ⟨h1,M⟩
 exact absurd (hc.trans M) e
theorem au8.drop(h:au8 n S dg dgs bks)(hv:S v)(hd:(dg v:Int)=d)(d1:d<64)(hS:∀u,S' u↔S u/\u≠v) :
  au8 n S' dg dgs (bks.set d.toNat<|e_ bks d &&& ~~~(1#64 <<< v.toNat)):=by
 have aa:=h.fu4
 have hr:=h.rng v hv
 refine ⟨h.fu2,by rw [Fo];exact aa,λu hu=>h.rng u ((hS u).1 hu).1,λu hu=>h.deg u ((hS u).1 hu).1,λc c0 c1 u=>?_⟩
 rw [R4 _ d c _ (by omega) c0 (by omega),hS]
 by_cases e:d=c
 ·rw [B_ e,M6 hr.1,e,h.bkt c c0 c1]
  constructor
  ·rintro ⟨⟨M,h2⟩,h3⟩;exact ⟨⟨M,h3⟩,h2⟩
  rintro ⟨⟨M,h3⟩,h2⟩;exact ⟨⟨M,h2⟩,h3⟩
 rw [An e,h.bkt c c0 c1]
 constructor
 ·rintro ⟨M,h2⟩;exact ⟨⟨M,λe2=>e<|by subst e2;omega⟩,h2⟩
 rintro ⟨⟨M,_⟩,h2⟩;exact ⟨M,h2⟩
theorem au8.lower(h:au8 n S dg dgs bks)(hn:n<=64){w e:Int}(M:S w)(he:(dg w:Int)=e)(e0:1<=e)(e1:e<64)(hd:∀u,S u->dg' u=if u=w then dg u - 1 else dg u) :
  au8 n S dg' (dgs.set w.toNat<|e - 1) ((bks.set e.toNat<|e_ bks e &&& ~~~(1#64 <<< w.toNat)).set (e - 1).toNat (e_ (bks.set e.toNat<|e_ bks e &&& ~~~(1#64 <<< w.toNat)) (e - 1) ||| 1#64 <<< w.toNat)):=by
 have hr:=h.rng w M
 have h1:au8 n (λu=>S u/\u≠w) dg dgs _:=h.drop M he e1 (S':=λu=>S u/\u≠w) λu=>Iff.rfl
 have h2:au8 n (λu=>S u/\u≠w) dg' dgs _:=h1.congr (λu=>Iff.rfl) λu hu=>by rw [hd u hu.1,An hu.2]
 have aa:=hd w M
 rw [B_ rfl] at aa
 refine (h2.push (S':=S) hr.1 hr.2 hn (λu=>?_) (λh=>h.2 rfl) (by omega) (by omega):au8 n S dg' (dgs.set w.toNat<|e - 1) _)
 constructor
 ·intro hu
  by_cases e:u=w
  ·exact .inr e
  exact .inl ⟨hu,e⟩
 rintro (hu|rfl)
 ·exact hu.1
 exact M
theorem au8.takes{rows:List (BitVec 64)}(h:au8 n (λu=>u∈eo left) (Q3 rows left) dgs bks)(d0:0<=d)(d1:d<64)(hd:e_ bks d≠0#64)(hlt:∀c:Int,0<=c->c<d->e_ bks c=0#64)(M:∀u∈eo left,Q3 rows left u<64) :
  ca8 rows left (tzB<|e_ bks d)/\(Q3 rows left (tzB<|e_ bks d):Int)=d:=by
 obtain ⟨h1,h2⟩:=db4 hd
 obtain ⟨h3,h4⟩:=(h.bkt d d0 d1 _).1 h1
 refine ⟨⟨h3,λu hu=>?_⟩,h4⟩
 have hb:=M u hu
 rcases Lx (Q3 rows left u:Int) d with h5|h5|h5
 ·have h6:=(h.bkt (Q3 rows left u:Int) (by omega) (by omega) u).2 ⟨hu,rfl⟩
  rw [hlt _ (by omega) h5,P6] at h6
  cases h6
 ·exact .inr ⟨by omega,h2 u<|(h.bkt d d0 d1 u).2 ⟨hu,h5⟩⟩
 exact .inl<|by omega
theorem au8.some{rows:List (BitVec 64)}(h:au8 n (λu=>u∈eo left) (Q3 rows left) dgs bks)(hl:left≠0#64)(M:∀u∈eo left,Q3 rows left u<64)(hz:∀c:Int,0<=c->c<64->e_ bks c=0#64):False:=by
 obtain ⟨u,hu⟩:=ba2.1 hl
 have hb:=M u hu
 have h6:=(h.bkt (Q3 rows left u:Int) (by omega) (by omega) u).2 ⟨hu,rfl⟩
 rw [hz _ (by omega) (by omega),P6] at h6
 cases h6
end
def cu6(rows:List (BitVec 64))(left:BitVec 64)(ws:List Int)(j:Nat)(u:Int):Nat:=if u∈ws.take j then Q3 rows left u - 1 else Q3 rows left u
theorem dk9(rows:List (BitVec 64))(left:BitVec 64)(ws:List Int)(u:Int):cu6 rows left ws 0 u=Q3 rows left u:=by unfold cu6;rw [An (by simp)]
theorem bz2{rows:List (BitVec 64)}(hj:j<ws.length)(hn:ws.Nodup)(u:Int):cu6 rows left ws (j+1) u=if u=e_ ws j then cu6 rows left ws j u - 1 else cu6 rows left ws j u:=by
 have M:e_ ws j∉ws.take j:=by
  rw [K9 ws j hj]
  intro hm
  obtain ⟨i,hi,e⟩:=Jv.1 hm
  rw [Fp] at hi
  rw [Kh] at e
  exact (H1.1 hn) i j (by omega) hj (by omega) e
 unfold cu6
 rw [bp5 ws j hj]
 simp only [Gt,Gc]
 by_cases e:u=e_ ws j
 ·subst e
  rw [B_ (.inr rfl),B_ rfl,An M]
 rw [An e]
 by_cases h2:u∈ws.take j
 ·rw [B_ (.inl h2),B_ h2]
 rw [An (by rintro (h3|h3);exact h2 h3;exact e h3),An h2]
theorem fa3{rows:List (BitVec 64)}(hj:j<ws.length)(hn:ws.Nodup):cu6 rows left ws j (e_ ws j)=Q3 rows left (e_ ws j):=by
 have h1:=bz2 (rows:=rows) (left:=left) hj hn (e_ ws j)
 rw [B_ rfl] at h1
 unfold cu6 at h1 ⊢
 split
 ·rename_i h2
  have M:e_ ws j∉ws.take j:=by
   rw [K9 ws j hj]
   intro hm
   obtain ⟨i,hi,e⟩:=Jv.1 hm
   rw [Fp] at hi
   rw [Kh] at e
   exact (H1.1 hn) i j (by omega) hj (by omega) e
  exact absurd h2 M
 rfl
theorem fa4{n:Nat}{rows:List (BitVec 64)}(h:fr5 n rows)(v0:0<=v)(v1:v<n)(hv:v∈eo left)(u0:0<=u)(u1:u<n)(hu:u∈eo (left &&& ~~~(1#64 <<< v.toNat)))(hj:(eo (e_ rows v &&& (left &&& ~~~(1#64 <<< v.toNat)))).length<=j) :
  cu6 rows left (eo<|e_ rows v &&& (left &&& ~~~(1#64 <<< v.toNat))) j u=Q3 rows (left &&& ~~~(1#64 <<< v.toNat)) u:=by
 have M:=cu7 h u0 u1 v0 v1 hv
 unfold cu6
 rw [Fv hj]
 by_cases hm:u∈eo (e_ rows v)
 ·rw [B_ (K1.2 ⟨hm,hu⟩)];rw [B_ hm] at M;omega
 rw [An (λe=>hm (K1.1 e).1)];rw [An hm] at M;omega
end Go.Sl
namespace Go.Sl
section
variable {P:Program}
def dy9(P:Program):List Field->Nat->Bool
 |[],_=>true
 | f :: fs, o => (f.name != "_") && (match P.underlying f.type with | some (.int .i64) => true | _ => false) && (f.offset == o) && dy9 P fs (o + 1)
theorem bm1(d:Nat)(w:World)(ns ms:List Int):∀(fs:List Field) (o:Nat),dy9 P fs o=true->ns.length=o+fs.length->ms.length=o+fs.length->
  (Op.eqFields (d+1) (ns.map e7).toArray (ms.map e7).toArray fs).run P w = .ok (decide (ns.drop o=ms.drop o)) w
 |[],o,_,hn,hm=>by
  have h1:ns.drop o=[]:=Ha (by simp at hn;omega)
  have h2:ms.drop o=[]:=Ha (by simp at hm;omega)
  simp [Op.eqFields,h1,h2]
 |f::fs,o,h,hn,hm=>by
  simp only [dy9,Hc,bne_iff_ne,beq_iff_eq] at h
  obtain ⟨⟨⟨h1,h2⟩,h3⟩,h4⟩:=h
  have hu:P.underlying f.type=some (.int .i64):=by
   revert h2
   split
   ·intro _;assumption
   intro h;cases h
  simp only [E_] at hn hm
  have hno:o<ns.length:=by omega
  have hmo:o<ms.length:=by omega
  have ha:(isAgg f.type).run P w = .ok false w:=by simp [isAgg,run_underlying hu]
  have hp:∀(ks:List Int) (hk:o<ks.length),(part f.type (ks.map e7).toArray f.offset).run P w = .ok (e7 ks[o]) w:=λks hk=>by
   simp [part,ha,h3,hk]
  have ih:=bm1 d w ns ms fs (o+1) h4 (by omega) (by omega)
  simp only [Op.eqFields,B_ h1,Sem.run_bind,hp ns hno,hp ms hmo,Result.andThen_ok,run_equalIn_int _ _ _ _ _ _ _ hu]
  have key:(ns.drop o=ms.drop o)↔(ns[o]=ms[o]/\ns.drop (o+1)=ms.drop (o+1)):=by rw [Lg hno,Lg hmo,List.cons.injEq]
  have key2:decide (ns.drop o=ms.drop o)=decide (ns[o]=ms[o]/\ns.drop (o+1)=ms.drop (o+1)):=Fs.2 key
  rw [key2]
  by_cases he:ns[o]=ms[o]
  ·simp [he,ih]
  simp [he]
theorem EqT.flat{α:Type}[Enc α][DecidableEq α]{T n:Nat}(M:α->List Int)(aa:∀x,Enc.enc x=(M x).map e7)(ad:∀x y,M x=M y->x=y)(ab:∀x,(M x).length=n)
  (ht:P.underlying T=some (.struct<|P.fieldsOf T)) (hp:P.stoodInHeld T=false) (hf:dy9 P (P.fieldsOf T).toList 0=true) (hn:(P.fieldsOf T).size=n) (hg:P.eqGuardType P.depth T=false):EqT P T α:=by
 refine ⟨λx y w=>?_,hg⟩
 rw [show (10000:Nat)=9999+1 from rfl,run_equalIn_struct w 9999 T _ _ ht hp,aa,aa,show (9999:Nat)=9998+1 from rfl,
  bm1 9998 w (M x) (M y) _ 0 hf (by rw [ab,Hh,hn];omega) (by rw [ab,Hh,hn];omega)]
 congr 1
 rw [List.drop_zero,List.drop_zero,Fs]
 exact ⟨ad x y,λe=>by rw [e]⟩
end
end Go.Sl
namespace Go.Sl
end Go.Sl
