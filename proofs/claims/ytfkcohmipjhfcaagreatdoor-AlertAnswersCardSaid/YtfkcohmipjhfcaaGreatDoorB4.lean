/- A part of the proofs of statements of this seat: contracts of functions, and the plain laws that they lean on. No conditions. -/
import Derived.Test.YtfkcohmipjhfcaaGreatDoorB3
import Derived.RangeFuncRecord
import Derived.RangeFuncCalls
import Derived.TacticsIn
set_option linter.unusedVariables false
set_option linter.unusedSimpArgs false
set_option linter.unusedSectionVars false
namespace Go.Sl
variable{by' c e k l sz:Nat}{x y:Operand}{ag:Bool}{z:List Value}{ad:Option Addr}
section
variable {β:Type}{xs ys js:List β}{i m n r:Nat}{d:β}
theorem ba2{a b:List β}(h:a.length=k):(a++b).take k=a:=by subst h;simp
theorem cz2{a b:List β}(h:a.length=k):(a++b).drop k=b:=by subst h;simp
theorem ins1(hi:i<=xs.length):(xs.take i++List.replicate (xs.length+ys.length - i) d).take i++ys.take ys.length++(xs.take i++List.replicate (xs.length+ys.length - i) d).drop (i+ys.length)=xs.take i++ys++List.replicate (xs.length - i) d:=by
 have M:(xs.take i).length=i:=by rw [Fx];omega
 rw [ba2 M,Hx,←Jh,cz2 M,List.drop_replicate,show xs.length+ys.length - i - ys.length=xs.length - i by omega]
theorem ins2(hi:i<=xs.length):(xs.take i++ys++List.replicate (xs.length - i) d).take (i+ys.length)++(xs.drop i).take (xs.length - i)++(xs.take i++ys++List.replicate (xs.length - i) d).drop (i+ys.length+(xs.length - i))=xs.take i++ys++xs.drop i:=by
 have E:(xs.take i++ys).length=i+ys.length:=by rw [A_,Fx];omega
 have M:(xs.drop i).take (xs.length - i)=xs.drop i:=Gb (by rw [Ge];omega)
 have e2:(xs.take i++ys++List.replicate (xs.length - i) d).drop (i+ys.length+(xs.length - i))=[]:=Hb (by simp only [A_,Fx,Fw];omega)
 rw [ba2 E,M,e2,Hq]
theorem ins3{cs:List β}(hn:cs.length=n)(hj:js.length=m)(hy:ys.length=m)(hi:i<=n) :
  let A:=(cs++js).take (i+m)++((cs++js).drop i).take (n - i)++(cs++js).drop (i+m+(n - i))
  A.take i++ys.take m++A.drop (i+m)=cs.take i++ys++cs.drop i:=by
 intro A
 have M:((cs++js).take (i+m)).length=i+m:=by rw [Fx,A_];omega
 have hd:((cs++js).drop i).take (n - i)=cs.drop i:=by
  rw [List.drop_append,show i - cs.length=0 by omega,Ko]
  exact ba2<|by rw [Ge];omega
 have hz:(cs++js).drop (i+m+(n - i))=[]:=Hb (by rw [A_];omega)
 have e:A=(cs++js).take (i+m)++cs.drop i:=by show _++_++_=_;rw [hd,hz,Hq]
 have e1:ys.take m=ys:=Gb (by omega)
 have E:A.take i=cs.take i:=by
  rw [e,List.take_append_of_le_length<|by rw [M];omega,List.take_take,Nat.min_eq_left<|by omega,List.take_append_of_le_length<|by omega]
 rw [e1,E,e,cz2 M]
end
section
variable {P:Program}{κ:Ctx}{N:Frm}{Q:Exit->Act->World->Prop}{L:Env}{I J:List Item}{ops:Array Oper}{rest:List Oper}
variable {d:Option Tmp}{ty:TypeId}{ps:String}{af:Array Edge}{gd:Option (Nat×Bool)}
variable {α:Type}[Enc α]{xs ys R:List α}
theorem Eff.ga2{t t' n n' q dd:Nat}{u:Value}{I':List Item}(ht:P.underlying t=some (.slice e))(hT:tyF P e=some (Enc.sz α,ag,by',z))
  (hx:ep L x=some (.slice (M0 ad c k<|Enc.sz α) n'<|c - k)) (M:n'=xs.length - k) (hy:ep L y=some u) (hu:Sl κ I u ys) (hk:k<=xs.length) (hq:q=min ys.length (xs.length - k)) (hN:Nat.blt dd N.n=true)
  (hR:xs.take k++ys.take q++xs.drop (k+q)=R) (hn:n=xs.length) (E:At I (vc e (.slice ad n c) xs) (vc e (.slice ad n c) R) I') :
  Eff P κ N Q ⟨some dd,.call {callee:= .builtin .copy,args:= #[x,y],argTypes:= #[t,t']},ty,ps,af,gd⟩ L I λL' I''=>L'=(dd,e7 q)::L/\I''=I':=by
 subst hn
 have hl:R.length=xs.length:=by rw [←hR];simp only [A_,Fx,Ge];omega
 have hc:cells R=(cells xs).take (k*Enc.sz α)++(cells ys).take (q*Enc.sz α)++(cells xs).drop (k*Enc.sz α+q*Enc.sz α):=by
  rw [←hR,N3,N3,U8,U8,ae0,Jk]
 refine Eff.ga3 (cs:=cells xs) ht hT hx M hy hu hk hq (λu hu=>cells_one ys u<|Lh hu) hN ?_
 have:=E
 unfold vc at this
 rw [hl,hc] at this
 exact this
theorem du9{i:Nat}{js:List Value}(hi:i<=xs.length)(hj:js.length=(xs.length+ys.length - xs.length)*Enc.sz α) :
  List.take (i*Enc.sz α) (List.take ((i+ys.length)*Enc.sz α) (cells xs++js)++List.take ((xs.length - i)*Enc.sz α) (List.drop (i*Enc.sz α)<|cells xs++js)++List.drop ((i+ys.length)*Enc.sz α+(xs.length - i)*Enc.sz α) (cells xs++js))++List.take (ys.length*Enc.sz α) (cells ys)++List.drop (i*Enc.sz α+ys.length*Enc.sz α) (List.take ((i+ys.length)*Enc.sz α) (cells xs++js)++List.take ((xs.length - i)*Enc.sz α) (List.drop (i*Enc.sz α)<|cells xs++js)++List.drop ((i+ys.length)*Enc.sz α+(xs.length - i)*Enc.sz α) (cells xs++js))=cells (List.take i xs++ys++List.drop i xs):=by
 rw [N3,N3,U8,ae0,Jk,Nat.sub_mul]
 exact ins3 (n3 xs) (by rw [hj];congr 1;omega) (n3 ys)<|Hs _ hi
theorem fy9{i:Nat}{js:List Value}(hi:i<=xs.length):∀u∈List.take ((xs.length - i)*Enc.sz α) (List.drop (i*Enc.sz α) (cells xs++js)),u.oneCell'=true:=λu M=>by
 have hm:i*Enc.sz α<=xs.length*Enc.sz α:=Hs _ hi
 have E:=n3 xs
 rw [List.drop_append,show i*Enc.sz α - (cells xs).length=0 by omega,Ko,ba2<|by rw [Ge,E,Nat.sub_mul]] at M
 exact cells_one xs u<|List.mem_of_mem_drop M
theorem j0.gs0{T E n:Nat}{m:Int}(ht:P.underlying T=some (.slice E))(hE:tyF P E=some (sz,ag,by',z))(hx:ep L x=some (.slice ad n c))(hy:ep L y=some (e7 m))(M:m=(l:Int))
  (hl:l<=n) (hn:n<=c):j0 P κ N ⟨d,.slice T x (some y) none none,ty,ps,af,gd⟩ L J (.slice (M0 ad c l sz) (n - l)<|c - l):=λa w ha hs=>by
 subst M
 exact j0.slice (P:=P) (κ:=κ) (N:=N) (L:=L) (J:=J) (d:=d) (ty:=ty) (ps:=ps) (af:=af) (gd:=gd) (l:=l) ht hE hx (.inr ⟨y,rfl,hy⟩) (.inl ⟨rfl,rfl⟩) hl hn a w ha hs
theorem bj5.gt8{n:Nat}{cs:List Value}(hv:bj5 κ I sz (.slice ad n c) n cs)(hl:l<=n):bj5 κ I sz (.slice (M0 ad c l sz) (n - l) (c - l)) (n - l) (cs.drop (l*sz)):=λw hs=>by
 obtain ⟨a,cap,he,h1,h2,h3,M⟩:=hv w hs
 cases he
 refine ⟨_,c - l,rfl,by rw [Ge,h1,Nat.sub_mul],by omega,by omega,λhc=>?_⟩
 obtain ⟨b,off,rfl,E⟩:=M (by omega)
 refine ⟨b,off+l*sz,by unfold M0;rw [An (by omega)];simp [y5],λj u hj=>?_⟩
 rw [Jg] at hj
 rw [Mu]
 exact E _ u hj
theorem G.ex{β:Type}{x:Item}{x':β->Item}{p:β->Prop}{F:Item->List Item}(E:AtF I x F)(h:∀w,x.ok w->∃y,p y/\(x' y).ok w)(hf:∀y k,(x' y).fp k->x.fp k)(hG:∀y,p y->G P κ N ops Q rest L (F (x' y))):G P κ N ops Q rest L I:=λa w ha hs=>by
 obtain ⟨J,h1,h2⟩:=E.perm
 have M:=hs.perm h1
 obtain ⟨y,hp,hy⟩:=h w (M.ok x C_).1
 refine hG y hp a w ha<|Sep.perm ?_ (h2 _).symm
 have aa:∀z∈J,∀k,x.fp k->¬z.fp k:=(Gp.1 M.pw).1
 exact M.tail.cons hy (λk hk=>(M.ok x C_).2 k (hf y k hk)) λz hz k hk=>aa z hz k<|hf y k hk
theorem G.room{n h:Nat}{F:Item->List Item}(M:AtF I (vc e (.slice ad n c) xs) F)(hn:n=xs.length)(hh:n<=h)(hc:h<=c)
  (hG:∀js:List Value,js.length=(h - n)*Enc.sz α->G P κ N ops Q rest L (F<|vec e (Enc.sz α) (.slice ad h c) h<|cells xs++js)):G P κ N ops Q rest L I:=by
 subst hn
 exact G.ex M (x':=λjs=>vec e (Enc.sz α) (.slice ad h c) h<|cells xs++js) (vec.room hh hc) (λjs k hk=>by obtain ⟨o,n',c',he,E⟩:=hk;cases he;exact ⟨o,_,_,rfl,E⟩) hG
end
end Go.Sl
namespace Go.Sl
variable{i j:Nat}
variable {α:Type}[Inhabited α]
def bz6(l:List α)(j:Nat)(x:α):List α:=l.take j++x::l.drop j
def W0(cf:α->α->Int)(l:List α)(x:α):Nat->Nat
 |0=>0
 |j+1=>if cf x (e_ l j)<0 then W0 cf l x j else j+1
def aq1(cf:α->α->Int)(l:List α)(x:α):List α:=bz6 l (W0 cf l x l.length) x
def G1(cf:α->α->Int)(xs:List α):List α:=xs.foldl (aq1 cf) []
theorem co5(l:List α)(j:Nat)(x:α):(bz6 l j x).Perm (x::l):=by
 have:=Mp (a:=x) (l₁:=l.take j) (l₂:=l.drop j)
 rw [Mm] at this;exact this
theorem bh2(M:α->α->Int):∀(xs acc:List α),(xs.foldl (aq1 M) acc).Perm (xs++acc)
 |[],acc=> .refl _
 |x::xs,acc=>by
  rw [Jp]
  refine (bh2 M xs _).trans ?_
  refine (List.Perm.append_left xs<|co5 acc _ x).trans ?_
  exact Mp
theorem bh1(M:α->α->Int)(xs:List α):(G1 M xs).Perm xs:=by
 have:=bh2 M xs []
 rwa [Hq] at this
theorem co3(M:α->α->Int){xs:List α}(h:i<xs.length):G1 M (xs.take (i+1))=aq1 M (G1 M (xs.take i)) (e_ xs i):=by
 unfold G1;rw [W7 xs i h,Hw];rfl
theorem ap9(M:α->α->Int){xs:List α}(h:i<=xs.length):(G1 M (xs.take i)).length=i:=by
 rw [(bh1 M _).length_eq,Fx];omega
theorem gb4{l r:List α}{x:α}(h:j<=l.length):e_ (bz6 l j x++r) j=x:=by
 unfold bz6
 have M:(l.take j).length=j:=by rw [Fx];omega
 rw [au2,Gs,H1,Hg (by omega),M,Nat.sub_self];rfl
theorem fo2{l r:List α}{x:α}(M:0<j)(h:j<=l.length):e_ (bz6 l j x++r) ((j:Int) - 1)=e_ l ((j:Int) - 1):=by
 unfold bz6
 have E:(l.take j).length=j:=by rw [Fx];omega
 have e:(j:Int) - 1=((j - 1:Nat):Int):=by omega
 rw [e,au2,au2,Gs,Gs,H1,Hf (by omega),Jf,By<|by omega]
theorem cd8{l r:List α}{x:α}(h0:0<j)(h:j<=l.length):((bz6 l j x++r).set j (e_ l ((j:Int) - 1))).set (j - 1) x=bz6 l (j - 1) x++r:=by
 obtain ⟨m,rfl⟩:∃m,j=m+1:=⟨j - 1,by omega⟩
 have e:((m+1:Nat):Int) - 1=(m:Int):=by omega
 rw [e,Nat.add_sub_cancel]
 have M:(l.take m).length=m:=by rw [Fx];omega
 have e1:bz6 l (m+1) x++r=l.take m++(e_ l m::x::(l.drop (m+1)++r)):=by
  unfold bz6;rw [W7 l m (by omega)];simp
 have E:bz6 l m x++r=l.take m++(x::e_ l m::(l.drop (m+1)++r)):=by
  unfold bz6;rw [aj8 l m (by omega)];simp
 rw [e1,E,List.set_append_right _ _<|by omega,M,Jj,List.set_append_right _ _<|by omega,M,Nat.sub_self];rfl
theorem dg0{M:α->α->Int}{xs:List α}(h:i<xs.length):G1 M (xs.take i)++xs.drop i=bz6 (G1 M (xs.take i)) i (e_ xs i)++xs.drop (i+1):=by
 have E:=ap9 M (Nat.le_of_lt h)
 generalize G1 M (xs.take i)=l at E ⊢
 unfold bz6
 rw [aj8 xs i h,Gb (show l.length<=i by omega),Hb (show l.length<=i by omega)];simp
theorem cd9{M:α->α->Int}{xs:List α}(h:i<xs.length)(hp:W0 M (G1 M (xs.take i)) (e_ xs i) j=W0 M (G1 M (xs.take i)) (e_ xs i) i)(hj:j=0\/(0<j/\¬M (e_ xs i) (e_ (G1 M (xs.take i)) ((j:Int) - 1))<0)):bz6 (G1 M (xs.take i)) j (e_ xs i)++xs.drop (i+1)=G1 M (xs.take (i+1))++xs.drop (i+1):=by
 have hl:=ap9 M (Nat.le_of_lt h)
 have E:W0 M (G1 M<|xs.take i) (e_ xs i) j=j:=by
  rcases hj with rfl|⟨h0,hn⟩
  ·rfl
  obtain ⟨m,rfl⟩:∃m,j=m+1:=⟨j - 1,by omega⟩
  rw [show ((m+1:Nat):Int) - 1=(m:Int) by omega] at hn
  unfold W0;rw [An hn]
 rw [co3 M h]
 unfold aq1
 rw [hl,←hp,E]
theorem bf6{M:α->α->Int}{l:List α}{x:α}(E:0<j)(h:M x (e_ l ((j:Int) - 1))<0):W0 M l x (j - 1)=W0 M l x j:=by
 obtain ⟨m,rfl⟩:∃m,j=m+1:=⟨j - 1,by omega⟩
 rw [show ((m+1:Nat):Int) - 1=(m:Int) by omega] at h
 conv=>rhs;unfold W0
 rw [By h];rfl
end Go.Sl
namespace Go.Sl
variable{n:Int}
abbrev U64(b:BitVec 64):Value:= .int .u64 (b.toNat:Int)
theorem N1(n:Int):IntKind.u64.wrap n=n % 18446744073709551616:=IntKind.wrap_u64 n
theorem aa2(a:BitVec 64):BitVec.ofInt IntKind.u64.bits (a.toNat:Int)=a:=by
 show BitVec.ofInt 64 (a.toNat:Int)=a
 rw [BitVec.ofInt_natCast,BitVec.ofNat_toNat];simp
theorem ai0(a:BitVec 64):IntKind.u64.wrap (a.toNat:Int)=(a.toNat:Int):=by
 rw [N1];have:=a.isLt;omega
theorem dz1(a b:BitVec 64):bits .and .u64 (a.toNat:Int) (b.toNat:Int)=((a &&& b).toNat:Int):=by
 unfold bits;simp only [aa2];exact ai0 (a &&& b)
theorem fn8(a b:BitVec 64):bits .or .u64 (a.toNat:Int) (b.toNat:Int)=((a ||| b).toNat:Int):=by
 unfold bits;simp only [aa2];exact ai0 (a ||| b)
theorem cg6(a b:BitVec 64):bits .andNot .u64 (a.toNat:Int) (b.toNat:Int)=((a &&& ~~~b).toNat:Int):=by
 unfold bits;simp only [aa2];exact ai0 (a &&& ~~~b)
theorem bd6{a b:BitVec 64}:((a.toNat:Int)=(b.toNat:Int))↔a=b:=⟨λh=>Lb (by omega),λh=>by rw [h]⟩
section
variable {P:Program}{κ:Ctx}{N:Frm}{Q:Exit->Act->World->Prop}{L:Env}{I J:List Item}
variable {d:Option Tmp}{ty:TypeId}{ps:String}{af:Array Edge}{gd:Option (Nat×Bool)}
variable {x y:Operand}{T U:TypeId}{a b:BitVec 64}
theorem j0.gu5(E:ep L x=some (U64 a))(hy:ep L y=some (U64 b)):j0 P κ N ⟨d,.binOp .and T x y U,ty,ps,af,gd⟩ L J (U64 (a &&& b)):=
 λaa w M _=>by simp only [execOp,M.eval E,M.eval hy];simp [go_sem,dz1]
theorem j0.orB(E:ep L x=some (U64 a))(hy:ep L y=some (U64 b)):j0 P κ N ⟨d,.binOp .or T x y U,ty,ps,af,gd⟩ L J (U64 (a ||| b)):=
 λaa w M _=>by simp only [execOp,M.eval E,M.eval hy];simp [go_sem,fn8]
theorem j0.gb9(E:ep L x=some (U64 a))(hy:ep L y=some (U64 b)):j0 P κ N ⟨d,.binOp .andNot T x y U,ty,ps,af,gd⟩ L J (U64 (a &&& ~~~b)):=
 λaa w M _=>by
  simp only [execOp,M.eval E,M.eval hy]
  have h:=cg6 a b
  simp [go_sem,h]
theorem j0.ge8(M:ep L x=some (U64 a))(E:ep L y=some (U64 b)):j0 P κ N ⟨d,.binOp .add T x y U,ty,ps,af,gd⟩ L J (U64 (a+b)):=by
 have h:=j0.gv0 (P:=P) (κ:=κ) (N:=N) (J:=J) (d:=d) (ty:=ty) (ps:=ps) (af:=af) (gd:=gd) (T:=T) (U:=U) M E
 have e:IntKind.u64.wrap ((a.toNat:Int)+(b.toNat:Int))=((a+b).toNat:Int):=by rw [N1,J_];omega
 rwa [e] at h
theorem j0.gr1(M:ep L x=some (U64 a))(E:ep L y=some (U64 b)):j0 P κ N ⟨d,.binOp .sub T x y U,ty,ps,af,gd⟩ L J (U64 (a - b)):=by
 have h:=j0.gp4 (P:=P) (κ:=κ) (N:=N) (J:=J) (d:=d) (ty:=ty) (ps:=ps) (af:=af) (gd:=gd) (T:=T) (U:=U) M E
 have e:IntKind.u64.wrap ((a.toNat:Int) - (b.toNat:Int))=((a - b).toNat:Int):=by rw [N1,BitVec.toNat_sub];have:=a.isLt;have:=b.isLt;omega
 rwa [e] at h
theorem j0.gp8{k':IntKind}(hx:ep L x=some (U64 a))(hy:ep L y=some (.int k' n))(h0:0<=n)(h1:n<64):j0 P κ N ⟨d,.binOp .shl T x y U,ty,ps,af,gd⟩ L J (U64 (a <<< n.toNat)):=by
 have h:=j0.gp7 (P:=P) (κ:=κ) (N:=N) (J:=J) (d:=d) (ty:=ty) (ps:=ps) (af:=af) (gd:=gd) (T:=T) (U:=U) hx hy h0
 have e:IntKind.u64.wrap ((a.toNat:Int)*2 ^ Min.min n.toNat IntKind.u64.bits)=((a <<< n.toNat).toNat:Int):=by
  have M:Min.min n.toNat IntKind.u64.bits=n.toNat:=by show Min.min n.toNat 64=_;omega
  have E:((a.toNat:Int)*2 ^ n.toNat)=((a.toNat*2 ^ n.toNat:Nat):Int):=by rw [Lq,Int.natCast_pow];rfl
  rw [M,N1,BitVec.toNat_shiftLeft,Nat.shiftLeft_eq,E]
  generalize a.toNat*2 ^ n.toNat=m
  omega
 rwa [e] at h
theorem j0.shrB{k':IntKind}(hx:ep L x=some (U64 a))(hy:ep L y=some (.int k' n))(E:0<=n)(h1:n<64):j0 P κ N ⟨d,.binOp .shr T x y U,ty,ps,af,gd⟩ L J (U64 (a >>> n.toNat)):=by
 have h:=j0.gg2 (P:=P) (κ:=κ) (N:=N) (J:=J) (d:=d) (ty:=ty) (ps:=ps) (af:=af) (gd:=gd) (T:=T) (U:=U) hx hy E
 have e:(a.toNat:Int).fdiv (2 ^ Min.min n.toNat IntKind.u64.bits)=((a >>> n.toNat).toNat:Int):=by
  have M:Min.min n.toNat IntKind.u64.bits=n.toNat:=by show Min.min n.toNat 64=_;omega
  rw [M,Hh,Hj,Kz _<|Nd<|by decide]
  push_cast;rfl
 rwa [e] at h
theorem j0.eqB(M:ep L x=some (U64 a))(E:ep L y=some (U64 b)):j0 P κ N ⟨d,.binOp .eql T x y U,ty,ps,af,gd⟩ L J (.bool (decide (a=b))):=by
 have h:=j0.eql (P:=P) (κ:=κ) (N:=N) (J:=J) (d:=d) (ty:=ty) (ps:=ps) (af:=af) (gd:=gd) (T:=T) (U:=U) M E
 rwa [Fy.2 (bd6 (a:=a) (b:=b))] at h
theorem j0.neB(M:ep L x=some (U64 a))(E:ep L y=some (U64 b)):j0 P κ N ⟨d,.binOp .neq T x y U,ty,ps,af,gd⟩ L J (.bool (decide (a≠b))):=by
 have h:=j0.neq (P:=P) (κ:=κ) (N:=N) (J:=J) (d:=d) (ty:=ty) (ps:=ps) (af:=af) (gd:=gd) (T:=T) (U:=U) M E
 rwa [Fy.2 (not_congr<|bd6 (a:=a) (b:=b))] at h
theorem j0.toI{S:TypeId}{q:IntKind}(hs:P.underlying S=some (.int q))(E:P.underlying T=some (.int .i64))(M:ep L x=some (U64 a))(hr:a.toNat<9223372036854775808):j0 P κ N ⟨d,.convert S T x,ty,ps,af,gd⟩ L J (e7 (a.toNat:Int)):=
 j0.dx9 hs E M (by unfold InR;omega)
theorem j0.gn0(E:ep L x=some (e7 n))(hy:ep L y=some (e7 127))(h0:0<=n):j0 P κ N ⟨d,.binOp .and T x y U,ty,ps,af,gd⟩ L J (e7 (n % 128)):=
 λaa w M _=>by
  simp only [execOp,M.eval E,M.eval hy]
  obtain ⟨m,rfl⟩:∃m:Nat,n=(m:Int):=⟨n.toNat,by omega⟩
  have e:bits .and .i64 (m:Int) 127=(m:Int) % 128:=by
   have e1:(BitVec.ofInt 64 (m:Int) &&& BitVec.ofInt 64 127).toNat=m % 128:=by
    rw [Ja,Nh,Nh,show ((127:Int) % (2 ^ 64:Nat)).toNat=2 ^ 7 - 1 by decide,Mo]
    omega
   unfold bits
   show IntKind.i64.wrap ((BitVec.ofInt 64 (m:Int) &&& BitVec.ofInt 64 127).toNat:Int)=_
   rw [e1,IntKind.wrap_i64];omega
  simp [go_sem,e]
end
end Go.Sl
namespace Go.Sl
open Go.RowKit (Below)
variable{id n:Nat}{M rest:List Oper}
def bu5(l:Nat)(r:Loop):Item where
 fp k:=k=l
 ok w:=w.heap[l]? = some (.loop r)
 loc w w' h hw:=(h l rfl).trans hw
def cf4(D:Nat):Item where
 fp k:=k=D
 ok w:=w.heap[D]? = some (.deferred<|some [])
 loc w w' h hw:=(h D rfl).trans hw
theorem Sep.bo9{κ:Ctx}{w:World}{l:Nat}{r E:Loop}{I:List Item}(h:Sep κ w (bu5 l r::I)):Sep κ (w.putObj l (.loop E)) (bu5 l E::I):=by
 have hl:=(h.ok _ C_).1
 have hlt:l<w.heap.size:=(Jy.1 hl).1
 exact h.upd (.head _ _ _) rfl ⟨rfl,Gk _⟩ rfl (by simp) (λk _ M=>World.putObj_heap_other M) (World.putObj_heap_same hlt) λk hk=> .inl hk
section
variable {P:Program}{κ:Ctx}{N:Frm}{Q:Exit->Act->World->Prop}{L:Env}{I J:List Item}{ops:Array Oper}
def WR(P:Program)(κ:Ctx)(N:Frm)(l m:Nat)(c:Code)(Q:Exit->Act->World->Prop)(L:Env)(I:List Item):Prop:=∀a w,Ag N a L->Sep κ w I->c.wpIn (Fence.wide.inRound l) m P Q a w
variable {l m:Nat}
theorem WR.seq{x y:Code}(h:WR P κ N l m x (Exit.then (y.wpIn (Fence.wide.inRound l) m P Q) Q) L I):WR P κ N l m (.seq x y) Q L I:=λa w M hs=>wpIn_seq (h a w M hs)
theorem WR.block{c:Code}(h:WR P κ N l m c (Exit.inBlock id Q) L I):WR P κ N l m (.block id c) Q L I:=λa w M hs=>wpIn_block (h a w M hs)
theorem WR.sub{c:Code}{L':Env}(M:Sub L L')(h:WR P κ N l m c Q L' I):WR P κ N l m c Q L I:=λa w E hs=>h a w (E.sub M) hs
theorem V.fw6{y:Code}(h:WR P κ N l m y Q L I):V κ N (Exit.then (y.wpIn (Fence.wide.inRound l) m P Q) Q) .normal L I:=h
theorem dc4{o:Oper}{a:Act}{next M:Act->World->Prop}(hq:¬LetsOut Q)(hn:∀a w,next a w->M a w):∀res:Result Next,o.upon P a next Q res->o.uponIn (Fence.wide.inRound l) m P a M Q res
 | .ok (.value v) w',h=>hn _ _ h
 | .ok .skip w',h=>hn _ _ h
 | .ok (.defer d) w',h=>hn _ _ h
 | .ok (.enter f args) w',h=>⟨λhd=>by simp [Fence.wide] at hd,CallsIn.inRound l ((callsIn_wide.2 h).mono λe E he=>by
   cases e with
   |returned v=>exact hn _ _ he
   |panicked c=>exact he
   |outgrown=>exact he)⟩
 | .ok (.row row args) w',h=>⟨λhd=>by simp [Fence.wide] at hd,λc cs _=>by
   obtain ⟨v,E,hr,hs⟩:=h c cs
   exact ⟨v,E,hn _ _ hr,stepsIn_wide.2 hs⟩⟩
 | .ok (.round _ _ _ _ _) _,h=>h.elim
 | .halt e w',h=>by cases e<;>first|exact h|exact h.elim
theorem list_round(M:¬LetsOut Q):∀(rest:List Oper),(∀o∈rest,∀c,o.op ≠ .defer c)->∀a w,wpList P ops Q rest a w->wpListIn (Fence.wide.inRound l) m P ops Q rest a w
 |[],_,a,w,h=>h
 |o::rest,hnd,a,w,h=>by
  unfold wpList at h
  unfold wpListIn
  by_cases hw:Region.wanted o (yielded ops a.tmps)=true
  ·rw [By hw] at h ⊢
   rcases h with h|h
   ·refine ⟨λ_ _=>trivial,?_⟩
    rw [Fence.inRound_round,Oper.semAt_some _ _ _<|hnd o C_]
    exact dc4 M (λE w' h'=>list_round M rest (λo ho=>hnd o<|Fv _ ho) E w' h') _ h
   exact absurd h.2 M
  rw [An hw] at h ⊢
  exact ⟨λ_ _=>trivial,list_round M rest (λo ho=>hnd o<|Fv _ ho) _ _ h⟩
def bv3:List Oper->Bool
 |[]=>true
 |o::l=>(match o.op with | .defer _=>false|_=>true)&&bv3 l
theorem bf8:∀{l:List Oper},bv3 l=true->∀o∈l,∀c,o.op ≠ .defer c
 |[],_,o,ho,_=>by cases ho
 |x::l,h,o,ho,c=>by
  unfold bv3 at h
  rw [Hi] at h
  rcases Gh.1 ho with rfl|ho
  ·intro e
   rw [e] at h;cases h.1
  exact bf8 h.2 o ho c
theorem WR.region(E:∀a w,¬Q .outgrown a w)(hd:bv3 M=true)(h:G P κ N M.toArray Q M L I):WR P κ N l m (.region id M.toArray false) Q L I:=
 λa w ha hs=>wpIn_region_lit (list_round (λ⟨a,w,h⟩=>E a w h) M (bf8 hd) a w<|h a w ha hs)
def GY(P:Program)(κ:Ctx)(N:Frm)(ops:Array Oper)(Q:Exit->Act->World->Prop)(rest:List Oper)(L:Env)(I:List Item):Prop:=∀a w,Ag N a L->Sep κ w I->wpListIn Fence.wide 0 P ops Q rest a w
theorem W.fx7(h:GY P κ N M.toArray Q M L I):W P κ N (.region id M.toArray false) Q L I:=λa w E hs=>wpIn_wide.1 (wpIn_region_lit (n:=0) (h a w E hs))
theorem GY.nil(h:V κ N Q .normal L I):GY P κ N ops Q [] L I:=λa w M hs=>h a w M hs
theorem GY.fit(M:Fit κ I J)(h:GY P κ N ops Q rest L J):GY P κ N ops Q rest L I:=λa w E hs=>h a w E (M w hs)
theorem GY.read{o:Oper}{d:Nat}{v:Value}(hw:p8 N ops o L)(hd:o.dst=some d)(E:Nat.blt d N.n=true)(hr:j0 P κ N o L I v)(h:GY P κ N ops Q rest ((d,v)::L) I):GY P κ N ops Q (o::rest) L I:=
 λa w M hs=>by
  unfold wpListIn
  rw [By (hw a M)]
  refine ⟨λ_ _=>trivial,?_⟩
  simp only [Fence.wide_round,Oper.semAt_none,hr a w M hs,Oper.uponIn,hd]
  exact h _ w (M.put d E v) hs
def de8(D:Nat):Deferred:={target:= .collected D,args:= #[]}
def cg3(P:Program)(fn:Func)(R:Ending->World->Prop):Exit->Act->World->Prop
 | .normal,a,w | .ret,a,w=>LeavesInM Fence.wide 0 P fn a.tmps R a.defers .returning w
 |_,_,_=>False
theorem er.gm1{f:FuncId}{E:Func}{c:Code}{M:List Value}{Post:Value->List Item->Prop}(hf:P.funcs[f]? = some E)(hb:E.body=some c)(hN:E.ntmps=n)(hl:Nat.ble M.length n=true)(hL:bi8 0 M=L)
  (h:W P κ ⟨n,[]⟩ c (cg3 P E<|bs4 κ Post) L I):er P κ f M I Post:=λw hs=>by
 refine (callsIn_wide (n:=0)).1 (callsIn_of_wp_marks hf hb trivial ?_)
 rw [hN]
 subst hL
 refine wpIn_mono (wpIn_wide.2<|h _ w (Ag.start M n<|by simpa using hl) hs) λe a w hq=>?_
 cases e<;>first|exact hq|exact False.elim hq
theorem V.leave{D:Nat}{fn:Func}{R:Ending->World->Prop}(h:V κ ⟨n,[]⟩ (bodyPost P fn R) .ret L I):V κ ⟨n,[de8 D]⟩ (cg3 P fn R) .ret L (cf4 D::I):=λa w E hs=>by
 have hD:=(hs.ok _ C_).1
 have hlt:D<w.heap.size:=(Jy.1 hD).1
 have M:Sep κ (w.putObj D<|.deferred none) I:=hs.tail.frame rfl ⟨rfl,Gk _⟩ rfl (by simp) λx hx k hk=>World.putObj_heap_other λe=>(Gp.1 hs.pw).1 x hx D rfl (e▸hk)
 obtain ⟨_,v,hr,hR⟩:=h {a with defers:=[]} _ ⟨rfl,E.size,E.get⟩ M
 show LeavesInM _ _ _ _ _ _ a.defers _ _
 rw [E.defers]
 exact ⟨by simp,.inl ⟨D,_,rfl,run_takeDeferred hD,v,hr,hR⟩⟩
end
end Go.Sl
namespace Go.Sl
variable{by' g i j k q sz:Nat}{M z:List Value}{m:BitVec 64}
def P6(κ:Ctx)(I:List Item)(g:Nat)(tab:List Value):Prop:=∀w,Sep κ w I->∀j u,tab[j]? = some u->w.cell? ⟨g,j,none⟩=some u
theorem P6.fit{κ:Ctx}{I J:List Item}(h:P6 κ I g M)(E:Fit κ J I):P6 κ J g M:=λw hs=>h w (E w hs)
section
variable {P:Program}{κ:Ctx}{N:Frm}{Q:Exit->Act->World->Prop}{L:Env}{I J:List Item}
variable {d:Option Tmp}{ty:TypeId}{ps:String}{af:Array Edge}{gd:Option (Nat×Bool)}
variable {x y:Operand}{T U:TypeId}{a b:BitVec 64}
theorem j0.negB(M:ep L x=some (U64 a)):j0 P κ N ⟨d,.unOp .neg T x,ty,ps,af,gd⟩ L J (U64 (-a)):=λaa w ha _=>by
 have e:IntKind.u64.wrap (-(a.toNat:Int))=((-a).toNat:Int):=by
  have E:(-a).toNat=(18446744073709551616 - a.toNat) % 18446744073709551616:=BitVec.toNat_neg a
  have h1:a.toNat<18446744073709551616:=a.isLt
  rw [N1,E];omega
 simp only [execOp,ha.eval M]
 simp [go_sem,e]
theorem j0.mulB(M:ep L x=some (U64 a))(E:ep L y=some (U64 b)):j0 P κ N ⟨d,.binOp .mul T x y U,ty,ps,af,gd⟩ L J (U64 (a*b)):=by
 have h:=j0.gq4 (P:=P) (κ:=κ) (N:=N) (J:=J) (d:=d) (ty:=ty) (ps:=ps) (af:=af) (gd:=gd) (T:=T) (U:=U) M E
 have e:IntKind.u64.wrap ((a.toNat:Int)*(b.toNat:Int))=((a*b).toNat:Int):=by 
  have e2:(a*b).toNat=a.toNat*b.toNat % 18446744073709551616:=BitVec.toNat_mul a b
  rw [N1,e2,←Lq];omega
 rwa [e] at h
theorem j0.fz4{E n:Nat}{k:IntKind}{ag:Bool}(ht:P.underlying T=some (.array n E))(hE:tyF P E=some (sz,ag,by',z))(hx:ep L x=some ((pt g)))
  (hy:ep L y=some (.int k (i:Int))) (hn:i<n):j0 P κ N ⟨d,.indexAddr T x y,ty,ps,af,gd⟩ L J (.pointer<|some ⟨g,0+i*sz,none⟩):=
 λaa w M hs=>by
  simp [execOp,M.eval hx,M.eval hy,Instr.indexAt,asIntOf,run_underlying ht,hn,run_sizeOf hE,Instr.sureAddr,y5]
theorem j0.fy5{v:Value}(hT:tyF P T=some (sz,false,by',z))(hx:ep L x=some (.pointer (some ⟨g,0+i*1,none⟩)))(hb:P6 κ J g M)(E:M[i]? = some v) :
  j0 P κ N ⟨d,.load T x,ty,ps,af,gd⟩ L J v:=λaa w ha hs=>by
 simp only [execOp,ha.eval hx]
 simp [Instr.loadAt,Instr.sureAddr,aa1 hT<|hb w hs i v E]
end
def az3:List Int:=[0,1,56,2,57,49,28,3,61,58,42,50,38,29,17,4,62,47,59,36,45,43,51,22,53,39,33,30,24,18,12,5,63,55,48,27,60,41,37,16,46,35,44,21,52,32,23,11,54,26,40,15,34,20,31,10,25,14,19,9,13,8,7,6]
def F3:List Value:=az3.map λn=> .int .u8 n
def dn9(m:BitVec 64):Nat:=(((m &&& (-m))*285870213051353865#64) >>> (58:Int).toNat).toNat
def tzB(m:BitVec 64):Int:=if m=0#64 then 64 else az3.getD (dn9 m) 0
theorem cm6(m:BitVec 64):dn9 m<64:=by
 unfold dn9
 rw [Hh,Hj,show 2 ^ (58:Int).toNat=288230376151711744 by decide]
 have:=((m &&& (-m))*285870213051353865#64).isLt
 omega
theorem dc5(m:BitVec 64):F3[dn9 m]? = some (.int .u8 (az3.getD (dn9 m) 0)):=by
 unfold F3
 have h:dn9 m<az3.length:=cm6 m
 rw [Ks,Hd h,Gs,Hd h,Option.map_some,Option.getD_some]
theorem cv8:∀n:Nat,0<n->∃k q,n=2 ^ k*(2*q+1)
 |n,h=>by
  by_cases hp:n % 2=1
  ·exact ⟨0,n / 2,by omega⟩
  obtain ⟨k,q,e⟩:=cv8 (n / 2) (by omega)
  exact ⟨k+1,q,by rw [Nat.pow_succ,Mt,Kh 2<|2*q+1,←Mt,←e];omega⟩
theorem gm5:(2 ^ k*(2*q+1)).testBit j=(decide (k<=j)&&if j=k then true else q.testBit (j - k - 1)):=by
 rw [Nat.testBit_two_pow_mul]
 by_cases h:k<=j
 ·rw [show decide (k<=j)=true from D_ h]
  by_cases hj:j=k
  ·subst hj;simp
  rw [An hj,show j - k=(j - k - 1)+1 by omega,Nat.testBit_succ,show (2*q+1) / 2=q by omega];simp
 rw [show decide (k<=j)=false from E_ h];simp
theorem da1:(2 ^ k*(2*q+1) - 1).testBit j=if j<k then true else if j=k then false else q.testBit (j - k - 1):=by
 have M:0<2 ^ k:=Nat.two_pow_pos k
 have e:2 ^ k*(2*q+1) - 1=2 ^ k*(2*q)+(2 ^ k - 1):=by rw [Nat.mul_add];omega
 rw [e,Kg _<|by omega]
 by_cases h:j<k
 ·rw [By h,By h,Nat.testBit_two_pow_sub_one];simpa using h
 rw [An h,An h]
 by_cases hj:j=k
 ·rw [By hj,hj];simp
 rw [An hj,show j - k=(j - k - 1)+1 by omega,Nat.testBit_succ,show 2*q / 2=q by omega];simp
theorem cd6(h:m≠0#64):∃k:Nat,k<64/\m.getLsbD k=true/\(∀j,j<k->m.getLsbD j=false)/\m &&& (-m)=1#64 <<< k/\∀j,(m &&& (m - 1#64)).getLsbD j=(m.getLsbD j&&decide (j≠k)):=by
 have h0:0<m.toNat:=by
  rcases Nat.eq_zero_or_pos m.toNat with h1|h1
  ·exact absurd (Lb<|by rw [h1];rfl) h
  exact h1
 obtain ⟨k,q,e⟩:=cv8 m.toNat h0
 have hlt:=m.isLt
 have hk:k<64:=by
  rcases Lg k 64 with hk|hk
  ·exact hk
  have h1:2 ^ 64<=2 ^ k:=Jx (by decide) hk
  have M:2 ^ k*1<=2 ^ k*(2*q+1):=Nat.mul_le_mul_left _ (by omega)
  omega
 have E:∀j,m.getLsbD j=(decide (k<=j)&&if j=k then true else q.testBit (j - k - 1)):=λj=>by
  rw [BitVec.getLsbD,e,gm5]
 have hp:∀j,(m - 1#64).getLsbD j=if j<k then true else if j=k then false else q.testBit (j - k - 1):=λj=>by
  have e1:(m - 1#64).toNat=m.toNat - 1:=by rw [BitVec.toNat_sub];show (2 ^ 64 - 1+m.toNat) % 2 ^ 64=_;omega
  rw [BitVec.getLsbD,e1,e,da1]
 have hn:∀j,j<64->(-m).getLsbD j = !(if j<k then true else if j=k then false else q.testBit (j - k - 1)):=λj hj=>by
  have e1:(-m).toNat=2 ^ 64 - ((m.toNat - 1)+1):=by rw [BitVec.toNat_neg];omega
  rw [BitVec.getLsbD,e1,Nat.testBit_two_pow_sub_succ<|by omega,D_ hj,e,da1];rfl
 refine ⟨k,hk,by rw [E];simp,λj hj=>by rw [E,E_<|by omega];rfl,?_,λj=>?_⟩
 ·refine Mk λj hj=>?_
  rw [Hm,E,hn j hj,BitVec.getLsbD_shiftLeft,D_ hj,BitVec.getLsbD_one]
  by_cases h1:j<k
  ·rw [By h1,E_ (show ¬k<=j by omega),D_ h1];rfl
  rw [An h1,D_ (show k<=j by omega),E_ h1]
  by_cases M:j=k
  ·rw [By M,By M,D_ (show j - k=0 by omega)];rfl
  rw [An M,An M,E_ (show ¬j - k=0 by omega)]
  cases q.testBit (j - k - 1)<;>rfl
 rw [Hm,E,hp]
 by_cases h1:j<k
 ·rw [By h1,E_ (show ¬k<=j by omega)];rfl
 rw [An h1,D_ (show k<=j by omega)]
 by_cases M:j=k
 ·rw [By M,By M,E_ (show ¬j≠k from λhc=>hc M),Bool.and_false]
 rw [An M,An M,D_ M]
 cases q.testBit (j - k - 1)<;>rfl
theorem gf2:∀k:Fin 64,az3.getD (((1#64 <<< k.val)*285870213051353865#64) >>> (58:Int).toNat).toNat 0=(k.val:Int):=by decide+kernel
theorem ft4(h:m≠0#64)(E:k<64)(M:m &&& (-m)=1#64 <<< k):tzB m=(k:Int):=by
 unfold tzB dn9
 rw [An h,M]
 exact gf2 ⟨k,E⟩
def ah7(m:BitVec 64):List Nat:=(List.range 64).filter λi=>m.getLsbD i
def em(m:BitVec 64):List Int:=(ah7 m).map fun (i:Nat)=>(i:Int)
theorem as6(m:BitVec 64):(ah7 m).Pairwise (· < ·):=(List.pairwise_lt_range).sublist Jo
theorem S0:i∈ah7 m↔m.getLsbD i=true:=by
 unfold ah7
 rw [G_,Ht]
 exact ⟨λh=>h.2,λh=>⟨BitVec.lt_of_getLsbD h,h⟩⟩
theorem gi7:cj3 (α:=Nat) (· < ·):=⟨Nat.lt_irrefl,λ_ _ _=>Nat.lt_trans,Ls⟩
theorem df0:ah7 0#64=[]:=by
 unfold ah7
 exact Jc.2 λi _=>by simp
theorem bp2(h:m≠0#64):∃k:Nat,k<64/\tzB m=(k:Int)/\m.getLsbD k=true/\ah7 m=k::ah7 (m &&& (m - 1#64)):=by
 obtain ⟨k,hk,E,hl,he,M⟩:=cd6 h
 refine ⟨k,hk,ft4 h hk he,E,gi7.uniq (as6 m) (Gp.2 ⟨λj hj=>?_,as6 _⟩) λj=>?_⟩
 ·rw [S0,M,Hi,Gn] at hj
  rcases Ls j k with h1|h1|h1
  ·rw [hl j h1] at hj;cases hj.1
  ·exact absurd h1 hj.2
  exact h1
 rw [Gh,S0,S0,M,Hi,Gn]
 constructor
 ·intro h1
  by_cases h2:j=k
  ·exact .inl h2
  exact .inr ⟨h1,h2⟩
 rintro (rfl|⟨h1,_⟩)
 ·exact E
 exact h1
theorem N6:em 0#64=[]:=by unfold em;rw [df0];rfl
theorem Q9(h:m≠0#64):em m=tzB m::em (m &&& (m - 1#64)):=by
 obtain ⟨k,hk,E,_,M⟩:=bp2 h
 unfold em
 rw [M,E];rfl
theorem do0(h:m≠0#64):0<=tzB m/\tzB m<64/\m.getLsbD (tzB m).toNat=true:=by
 obtain ⟨k,hk,E,M,_⟩:=bp2 h
 rw [E];exact ⟨by omega,by omega,by rw [Hu];exact M⟩
theorem cd5(m:BitVec 64):(ah7 m).length<=64:=by
 unfold ah7
 have:=Gz (λi=>m.getLsbD i) (List.range 64)
 rwa [Kq] at this
theorem dt9(m:BitVec 64):(em m).length<=64:=by unfold em;rw [Gi];exact cd5 m
theorem df2(h:m≠0#64):(em (m &&& (m - 1#64))).length<(em m).length:=by rw [Q9 h];exact Nat.lt_succ_self _
theorem s4{x:Int}:x∈em m↔0<=x/\m.getLsbD x.toNat=true:=by
 unfold em
 rw [Ha]
 constructor
 ·rintro ⟨i,hi,rfl⟩;exact ⟨by omega,by rw [Hu];exact S0.1 hi⟩
 rintro ⟨E,M⟩;exact ⟨x.toNat,S0.2 M,by omega⟩
theorem T1(m:BitVec 64):(em m).Pairwise (· < ·):=by
 unfold em
 rw [List.pairwise_map]
 exact (as6 m).imp λh=>by omega
end Go.Sl
namespace Go.Sl
open Go.RowKit (Below)
section
variable {P:Program}{κ:Ctx}{N:Frm}{Q:Exit->Act->World->Prop}{L:Env}{I J:List Item}{ops:Array Oper}{rest:List Oper}
variable {d:Option Tmp}{ty:TypeId}{ps:String}{af:Array Edge}{gd:Option (Nat×Bool)}
variable {α:Type}[Enc α]{xs ys R:List α}
def gq7(P:Program)(κ:Ctx)(I:List Item)(g:FuncId)(caps:List Value)(cf:α->α->Int):Prop:=T8 P g=true/\∀(x y:α) (J:List Item),Fit κ J I->er P κ g ([]++[.agg (Enc.enc x).toArray,.agg (Enc.enc y).toArray]++caps) J λr J'=>r=e7 (cf x y)/\J=J'
structure dc0 [Inhabited α] (cf:α->α->Int) (xs:List α) (x:α) (i:Nat) (b:Bool):Prop where
 le:i<=xs.length
 low:0<i->cf (e_ xs<|(i:Int) - 1) x<0
 high:i<xs.length->¬cf (e_ xs i) x<0
 is:b=decide (i<xs.length/\cf (e_ xs i) x=0)
end
end Go.Sl
namespace Go.Sl
end Go.Sl
namespace Go.Sl
end Go.Sl
namespace Go.Sl
variable{xs:List Int}{k:Nat}
def cm2(a b:Int):Int:=if a<b then -1 else if b<a then 1 else 0
def orL:List Int->Int
 |[]=>0
 |x::xs=>if x≠0 then x else orL xs
theorem fh2(M:k<xs.length)(h:e_ xs k≠0):orL (xs.drop k)=e_ xs k:=by
 rw [aj8 xs k M];simp only [orL];rw [By h]
theorem fh3(M:k<xs.length)(h:e_ xs k=0):orL (xs.drop k)=orL (xs.drop (k+1)):=by
 rw [aj8 xs k M];simp only [orL];rw [An (by simp [h])]
theorem fy0(M:xs.length<=k):orL (xs.drop k)=0:=by rw [Hb M];rfl
theorem dq7(a b:Pt):orL [cm2 a.u b.u,cm2 a.v b.v]=Pt.cmp a b:=by
 simp only [orL,cm2,Pt.cmp]
 split<;>(try split at *)<;>(try split at *)<;>(try split at *)<;>(try split at *)<;>(try split at *)<;>omega
end Go.Sl
namespace Go.Sl
variable{k:Nat}{l:List Pt}
structure G8 (nodes:Int) (es:List Pt):Prop where
 rng:0<=nodes/\nodes<=64
 asc:gw0 es
 ad7:∀e∈es,0<=e.u/\e.u<e.v/\e.v<nodes
structure GI (nodes:Int) (es:List Pt) (u v:Int):Prop where
 asc:gw0 es
 ad7:∀e∈es,0<=e.u/\e.u<e.v/\e.v<nodes
 before:∀e∈es,e.u<u\/(e.u=u/\e.v<v)
section
variable {nodes u v w:Int}{es:List Pt}
theorem GI.start:GI nodes [] u v:=⟨List.Pairwise.nil,(λe h=>by cases h),(λe h=>by cases h)⟩
theorem GI.mono(h:GI nodes es u v)(E:v<=w):GI nodes es u w:=⟨h.asc,h.ad7,λe M=>by have:=h.before e M;omega⟩
theorem GI.row(h:GI nodes es u v):GI nodes es (u+1) w:=⟨h.asc,h.ad7,λe M=>by have:=h.before e M;omega⟩
theorem GI.push(h:GI nodes es u v)(E:0<=u)(h1:u<v)(M:v<nodes):GI nodes (es++[⟨u,v⟩]) u (v+1):=by
 refine ⟨Jl.2 ⟨h.asc,Ln _ _,λa ha b hb=>?_⟩,λe he=>?_,λe he=>?_⟩
 ·rw [Gj.1 hb];exact h.before a ha
 ·rcases Gu.1 he with he|he
  ·exact h.ad7 e he
  rw [Gj.1 he];exact ⟨E,h1,M⟩
 rcases Gu.1 he with he|he
 ·have:=h.before e he;omega
 rw [Gj.1 he];right;exact ⟨rfl,by show v<v+1;omega⟩
theorem GI.ok(h:GI nodes es u v)(hn:0<=nodes/\nodes<=64):G8 nodes es:=⟨hn,h.asc,h.ad7⟩
end
def cg7(nodes:Int)(e:Pt):Int:=if e.u<0\/e.v<=e.u\/nodes<=e.v then 6 else 0
def p9(nodes:Int)(es:List Pt):Int:=if nodes<0\/64<nodes then 1 else R3 (cg7 nodes) Pt.lt none es
theorem W5{nodes:Int}{e:Pt}:cg7 nodes e=0↔0<=e.u/\e.u<e.v/\e.v<nodes:=by
 unfold cg7;split<;>omega
theorem j6{nodes:Int}{es:List Pt}:p9 nodes es=0↔G8 nodes es:=by
 unfold p9
 split
 ·rename_i h
  exact ⟨λe=>by omega,λe=>by have:=e.rng;omega⟩
 rename_i h
 rw [dd3 Pt.lin]
 constructor
 ·rintro ⟨M,h2⟩;exact ⟨by omega,h2,λe E=>W5.1<|M e E⟩
 intro M;exact ⟨λe E=>W5.2<|M.ad7 e E,M.asc⟩
variable {nodes:Int}{es:List Pt}
theorem G8.at(h:G8 nodes es)(M:k<es.length):0<=(e_ es k).u/\(e_ es k).u<(e_ es k).v/\(e_ es k).v<nodes:=h.ad7 _ (at_mem (by omega) (by omega))
theorem aw5{P:Pt->Bool}(M:k<l.length)(h:P (e_ l k)=true):(l.take (k+1)).filter P=(l.take k).filter P++[e_ l k]:=by
 rw [W7 l k M,Hc];simp [h]
theorem bq1{P:Pt->Bool}(M:k<l.length)(h:P (e_ l k)=false):(l.take (k+1)).filter P=(l.take k).filter P:=by
 rw [W7 l k M,Hc];simp [h]
theorem au3(h:gw0 l):l.Nodup:=h.imp fun {a b} h e=>Pt.lin.ne h e
end Go.Sl
namespace Go.Sl
def F7(u v:Int):Pt:=⟨if v<u then v else u,if u<v then v else u⟩
theorem Pt.bb9(a b:Pt):Pt.cmp a b=0↔a=b:=by
 rw [Pt.ag4]
 unfold Pt.cmp
 split<;>(try split)<;>(try split)<;>(try split)<;>omega
end Go.Sl
namespace Go.Sl
set_option maxRecDepth 10000
variable{nd:Int}{es:List Pt}
instance:Enc (BitVec 64):=⟨λb=>[U64 b],1,by omega,λ_=>rfl,λ_ u h=>by simp at h;subst h;rfl⟩
def X3(rows:List (BitVec 64))(e:Pt):List (BitVec 64):=
 if 0<=e.u/\e.u<e.v/\e.v<rows.length then
  (rows.set e.u.toNat<|e_ rows e.u ||| 1#64 <<< e.v.toNat).set e.v.toNat (e_ (rows.set e.u.toNat<|e_ rows e.u ||| 1#64 <<< e.v.toNat) e.v ||| 1#64 <<< e.u.toNat)
 else rows
def dp5(nd:Int):List (BitVec 64):=List.replicate (min (max nd 0) 64).toNat 0#64
def ek(nd:Int)(es:List Pt):List (BitVec 64):=es.foldl X3 (dp5 nd)
theorem Y1(rows:List (BitVec 64))(e:Pt):(X3 rows e).length=rows.length:=by
 unfold X3;split<;>simp
theorem ad0{k:Nat}(h:k<es.length):ek nd (es.take (k+1))=X3 (ek nd (es.take k)) (e_ es k):=by
 unfold ek;rw [W7 es k h,Hw];rfl
theorem ad1(nd:Int)(es:List Pt):(ek nd es).length=(min (max nd 0) 64).toNat:=by
 unfold ek
 have:∀(es:List Pt) (r:List (BitVec 64)),(es.foldl X3 r).length=r.length:=λes=>by
  induction es with
  |nil=>intro r;rfl
  |cons e es ih=>intro r;rw [Jp,ih,Y1]
 rw [this];simp [dp5]
theorem da3(n:Nat)(i:Int):e_ (List.replicate n (0#64)) i=0#64:=by
 unfold e_
 rw [Gs,Nu]
 split<;>rfl
structure ah3 (nd:Int) (es:List Pt) (rows:List (BitVec 64)):Prop where
 len:(rows.length:Int)=nd
 bit:∀v w:Int,0<=v->v<nd->0<=w->w<64->((e_ rows v).getLsbD w.toNat=decide ((⟨v,w⟩:Pt)∈es\/(⟨w,v⟩:Pt)∈es))
theorem ah3.start(h:0<=nd/\nd<=64):ah3 nd [] (dp5 nd):=
 ⟨by unfold dp5;simp;omega,λv w _ _ _ _=>by unfold dp5;rw [da3];simp⟩
theorem fa2{rows:List (BitVec 64)}{e:Pt}(h:0<=e.u/\e.u<e.v/\e.v<rows.length)(j:Int)(M:0<=j)(E:j<rows.length) :
  e_ (X3 rows e) j=if e.v=j then e_ rows e.v ||| 1#64 <<< e.u.toNat else if e.u=j then e_ rows e.u ||| 1#64 <<< e.v.toNat else e_ rows j:=by
 unfold X3
 rw [By h,R1 _ e.v j _ (by omega) M<|by rw [Gd];omega]
 by_cases hv:e.v=j
 ·rw [By hv,By hv,R1 _ e.u e.v _ (by omega) (by omega)<|by omega,An<|by omega]
 rw [An hv,An hv,R1 _ e.u j _ (by omega) M<|by omega]
theorem X9(a i:Nat)(hi:i<64):(1#64 <<< a).getLsbD i=decide (a=i):=by
 show (BitVec.twoPow 64 a).getLsbD i=_
 rw [BitVec.getLsbD_twoPow]
 by_cases h:a=i
 ·subst h;simp [hi]
 simp [h]
theorem ah3.push{rows:List (BitVec 64)}{e:Pt}(h:ah3 nd es rows)(he:0<=e.u/\e.u<e.v/\e.v<nd)(hn:nd<=64):ah3 nd (es++[e]) (X3 rows e):=by
 have hl:=h.len
 refine ⟨by rw [Y1];exact hl,λv w v0 v1 w0 w1=>?_⟩
 rw [fa2 (by omega) v v0 (by omega)]
 have hb:=h.bit v w v0 v1 w0 w1
 have E:∀a b:Int,((⟨a,b⟩:Pt)=e)↔(a=e.u/\b=e.v):=λa b=>by rw [Pt.ag4]
 simp only [Gu,Gj,E]
 by_cases hv:e.v=v
 ·rw [By hv,Je,X9 _ _<|by omega,hv,hb]
  have M:(e.u.toNat=w.toNat)↔(w=e.u/\v=e.v):=by omega
  have e2:¬(v=e.u/\w=e.v):=by omega
  rw [Fy.2 M]
  rw [←Bool.decide_or,Fy]
  constructor
  ·rintro ((a|b)|c)
   ·exact .inl<|.inl a
   ·exact .inr<|.inl b
   exact .inr<|.inr ⟨c.1,rfl⟩
  rintro ((a|c)|(b|c))
  ·exact .inl<|.inl a
  ·exact absurd c<|λc=>by omega
  ·exact .inl<|.inr b
  exact .inr ⟨c.1,hv.symm⟩
 rw [An hv]
 by_cases hu:e.u=v
 ·rw [By hu,Je,X9 _ _<|by omega,hu,hb]
  have M:(e.v.toNat=w.toNat)↔(v=e.u/\w=e.v):=by omega
  have e2:¬(w=e.u/\v=e.v):=by omega
  rw [Fy.2 M]
  rw [←Bool.decide_or,Fy]
  constructor
  ·rintro ((a|b)|c)
   ·exact .inl<|.inl a
   ·exact .inr<|.inl b
   exact .inl<|.inr ⟨rfl,c.2⟩
  rintro ((a|c)|(b|c))
  ·exact .inl<|.inl a
  ·exact .inr ⟨hu.symm,c.2⟩
  ·exact .inl<|.inr b
  exact absurd c<|λc=>by omega
 rw [An hu,hb]
 have M:¬(v=e.u/\w=e.v):=by omega
 have e2:¬(w=e.u/\v=e.v):=by omega
 simp [M,e2]
theorem cu5(h:G8 nd es):∀k,k<=es.length->ah3 nd (es.take k) (ek nd (es.take k))
 |0,_=>by simpa [ek] using ah3.start h.rng
 |k+1,hk=>by
  rw [ad0 (by omega),W7 es k<|by omega]
  exact (cu5 h k<|by omega).push (h.at<|by omega) h.rng.2
theorem G8.rows(h:G8 nd es):ah3 nd es (ek nd es):=by
 have:=cu5 h es.length (Gk _)
 rwa [Hx] at this
end Go.Sl
namespace Go.Sl
variable{d k nd u v:Int}{left m:BitVec 64}{es:List Pt}{ws:List Int}{j:Nat}
theorem J1{a b:BitVec 64}:u∈em (a &&& b)↔u∈em a/\u∈em b:=by
 simp only [s4,Hm,Hi]
 constructor
 ·rintro ⟨M,E,h3⟩;exact ⟨⟨M,E⟩,M,h3⟩
 rintro ⟨⟨M,E⟩,_,h3⟩;exact ⟨M,E,h3⟩
theorem T0(h:u∈em m):0<=u/\u<64:=by
 rw [s4] at h
 refine ⟨h.1,Gg λhn=>?_⟩
 rw [Jn _ _ (by omega)] at h
 exact absurd h.2<|by simp
theorem aj0(h0:0<=k)(E:k<64):u∈em (m ||| 1#64 <<< k.toNat)↔u∈em m\/u=k:=by
 constructor
 ·intro h
  have M:=T0 h
  rw [s4,Je,X9 _ _<|by omega,Bool.or_eq_true,Gn] at h
  rw [s4]
  rcases h.2 with h2|h2
  ·exact .inl ⟨h.1,h2⟩
  exact .inr<|by omega
 intro h
 have M:0<=u/\u<64:=h.elim T0 λh=>by omega
 rw [s4,Je,X9 _ _<|by omega,Bool.or_eq_true,Gn]
 rw [s4] at h
 exact ⟨M.1,h.elim (λh=> .inl h.2) λh=> .inr<|by omega⟩
theorem M2(h0:0<=k):u∈em (m &&& ~~~(1#64 <<< k.toNat))↔u∈em m/\u≠k:=by
 constructor
 ·intro h
  have E:=T0 h
  rw [s4,Hm,Mi,X9 _ _<|by omega,Hi] at h
  rw [s4]
  refine ⟨⟨h.1,h.2.1⟩,λe=>?_⟩
  have M:=h.2.2
  rw [e] at M
  simp at M
 rintro ⟨h,aa⟩
 have E:=T0 h
 rw [s4] at h
 rw [s4,Hm,Mi,X9 _ _<|by omega,Hi]
 refine ⟨h.1,h.2,?_⟩
 rw [E_ (show ¬k.toNat=u.toNat by omega)]
 simp;omega
theorem Q2(m:BitVec 64):(em m).Nodup:=(T1 m).imp λh=>by omega
theorem df1(h:k∈em m):(em m).Perm (k::em (m &&& ~~~(1#64 <<< k.toNat))):=by
 have M:=(T0 h).1
 refine (Jq (Q2 _)<|Kt.2 ⟨λe=>((M2 M).1 e).2 rfl,Q2 _⟩).2 λu=>?_
 rw [Gh,M2 M]
 by_cases e:u=k
 ·subst e;simp [h]
 simp [e]
theorem aa9(h:k∈em m):(em m).length=(em (m &&& ~~~(1#64 <<< k.toNat))).length+1:=(df1 h).length_eq
theorem de4(E:0<=k)(h:k∉em m):(em (m &&& ~~~(1#64 <<< k.toNat))).length=(em m).length:=by
 refine ((Jq (Q2 _)<|Q2 _).2 λu=>?_).length_eq
 rw [M2 E]
 exact ⟨λh=>h.1,λM=>⟨M,λe=>h<|e▸M⟩⟩
theorem V3:m≠0#64↔∃u,u∈em m:=by
 constructor
 ·intro h;exact ⟨_,by rw [Q9 h];exact C_⟩
 rintro ⟨u,M⟩ rfl
 rw [N6] at M;cases M
theorem do1(h:m≠0#64):tzB m∈em m/\∀u∈em m,tzB m<=u:=by
 have e:=Q9 h
 refine ⟨by rw [e];exact C_,λu hu=>?_⟩
 have M:=T1 m
 rw [e] at M hu
 rcases Gh.1 hu with rfl|hu
 ·exact Hn _
 have:=(Gp.1 M).1 u hu;omega
def R6(rows:List (BitVec 64))(left:BitVec 64)(v:Int):Nat:=(em (e_ rows v &&& left)).length
structure ch3 (rows:List (BitVec 64)) (left:BitVec 64) (v:Int):Prop where
 mem:v∈em left
 le:∀u∈em left,R6 rows left v<R6 rows left u\/(R6 rows left v=R6 rows left u/\v<=u)
theorem ch3.uniq{rows:List (BitVec 64)}{M:Int}(h:ch3 rows left v)(E:ch3 rows left M):v=M:=by
 have a:=h.le M E.mem
 have b:=E.le v h.mem
 omega
theorem aw4(f:Int->Nat):∀(l:List Int) (b:Int),(∀u∈l,b<=u)->l.Pairwise (· < ·)->
    ((l.foldl (λb v=>if f v<f b then v else b) b=b\/l.foldl (λb v=>if f v<f b then v else b) b∈l)/\
     (f (l.foldl (λb v=>if f v<f b then v else b) b)<f b\/l.foldl (λb v=>if f v<f b then v else b) b=b)/\
     ∀u∈l,f (l.foldl (λb v=>if f v<f b then v else b) b)<f u\/(f (l.foldl (λb v=>if f v<f b then v else b) b)=f u/\l.foldl (λb v=>if f v<f b then v else b) b<=u))
  |[],b,_,_=>⟨.inl rfl,.inr rfl,λu hu=>by cases hu⟩
  |x::xs,b,hb,hp=>by
    obtain ⟨hx,E⟩:=Gp.1 hp
    have aa:=hb x C_
    rw [Jp]
    by_cases hc:f x<f b
    · rw [By hc]
      obtain ⟨h1,M,h3⟩:=aw4 f xs x (λu hu=>by have:=hx u hu;omega) E
      generalize xs.foldl (λb v=>if f v<f b then v else b) x=r at h1 M h3
      refine ⟨.inr<|h1.elim (λe=>e▸C_) λh=>Fv _ h,.inl<|M.elim (λh=>by omega) λh=>by rw [h];exact hc,λu hu=>?_⟩
      rcases Gh.1 hu with rfl|hu
      · exact M.elim .inl λh=> .inr ⟨by rw [h],by omega⟩
      · exact h3 u hu
    · rw [An hc]
      obtain ⟨h1,M,h3⟩:=aw4 f xs b (λu hu=>hb u<|Fv _ hu) E
      generalize xs.foldl (λb v=>if f v<f b then v else b) b=r at h1 M h3
      refine ⟨h1.imp_right λh=>Fv _ h,M,λu hu=>?_⟩
      rcases Gh.1 hu with rfl|hu
      · rcases M with h|h
        · exact .inl (by omega)
        · rw [h];omega
      · exact h3 u hu
def bt9(rows:List (BitVec 64))(left:BitVec 64):Int:=(em left).foldl (λb v=>if R6 rows left v<R6 rows left b then v else b) ((em left).headD 0)
theorem bd7{rows:List (BitVec 64)}(h:left≠0#64):ch3 rows left (bt9 rows left):=by
 have e:=Q9 h
 have E:=T1 left
 unfold bt9
 have M:(em left).headD 0=tzB left:=by rw [e];rfl
 rw [M]
 obtain ⟨h1,_,h3⟩:=aw4 (R6 rows left) (em left) (tzB left) (do1 h).2 E
 refine ⟨?_,h3⟩
 rcases h1 with h1|h1
 ·rw [h1];exact (do1 h).1
 exact h1
def ga1(rows:List (BitVec 64)):Nat->BitVec 64->Nat->List (Int×Nat)
 |0,_,_=>[]
 |n+1,left,k=>(bt9 rows left,max k<|R6 rows left<|bt9 rows left)::ga1 rows n (left &&& ~~~(1#64 <<< (bt9 rows left).toNat)) (max k<|R6 rows left<|bt9 rows left)
def ad8(rows:List (BitVec 64))(left:BitVec 64)(k:Nat):List (Int×Nat):=ga1 rows (em left).length left k
theorem bq8(rows:List (BitVec 64))(k:Nat):ad8 rows 0#64 k=[]:=by unfold ad8;rw [N6];rfl
theorem bq9{rows:List (BitVec 64)}{k:Nat}(h:ch3 rows left v):ad8 rows left k=(v,max k (R6 rows left v))::ad8 rows (left &&& ~~~(1#64 <<< v.toNat)) (max k (R6 rows left v)):=by
 have M:bt9 rows left=v:=(bd7<|V3.2 ⟨v,h.mem⟩).uniq h
 unfold ad8
 rw [aa9 h.mem]
 show (bt9 rows left,_)::_=_
 rw [M]
def av8(l:List (Int×Nat)):List Int:=l.map λp=>p.1
def de3(n:Nat)(l:List (Int×Nat)):List Int:=l.foldl (λxs p=>xs.set p.1.toNat (p.2:Int)) (List.replicate n 0)
theorem cv9(n:Nat)(l:List (Int×Nat)):(de3 n l).length=n:=by
 unfold de3
 have:∀(l:List (Int×Nat)) (xs:List Int),(l.foldl (λxs p=>xs.set p.1.toNat (p.2:Int)) xs).length=xs.length:=λl=>by
  induction l with
  |nil=>intro xs;rfl
  |cons p l ih=>intro xs;rw [Jp,ih,Gd]
 rw [this,Fw]
theorem dr4(n:Nat)(l:List (Int×Nat))(v:Int)(k:Nat):de3 n (l++[(v,k)])=(de3 n l).set v.toNat (k:Int):=by
 unfold de3;rw [Hw];rfl
theorem ai8(l:List (Int×Nat))(v:Int)(k:Nat):av8 (l++[(v,k)])=av8 l++[v]:=by
 unfold av8;rw [Jb];rfl
theorem bi2{rows:List (BitVec 64)}{m:Nat}(M:∀left v,R6 rows left v<=m):∀(n:Nat) (left:BitVec 64) (k:Nat),k<=m->∀p∈ga1 rows n left k,p.2<=m
 |0,_,_,_,p,hp=>by cases hp
 |n+1,left,k,hk,p,hp=>by
  have E:=M left (bt9 rows left)
  rcases Gh.1 hp with rfl|hp
  ·show max k _<=m;omega
  exact bi2 M n _ _ (by omega) p hp
structure gc2 (n:Nat) (rows:List (BitVec 64)):Prop where
 len:rows.length=n
 le:n<=64
 lt:∀u v:Int,0<=u->u<n->v∈em (e_ rows u)->v<n
 sym:∀u v:Int,0<=u->u<n->v∈em (e_ rows u)->u∈em (e_ rows v)
 irr:∀u:Int,0<=u->u<n->u∉em (e_ rows u)
theorem ah3.mem{rows:List (BitVec 64)}(h:ah3 nd es rows)(u0:0<=u)(u1:u<nd):v∈em (e_ rows u)↔(0<=v/\v<64)/\((⟨u,v⟩:Pt)∈es\/(⟨v,u⟩:Pt)∈es):=by
 constructor
 ·intro E
  have M:=T0 E
  rw [s4,h.bit u v u0 u1 M.1 M.2,Gn] at E
  exact ⟨M,E.2⟩
 rintro ⟨M,E⟩
 rw [s4,h.bit u v u0 u1 M.1 M.2,Gn]
 exact ⟨M.1,E⟩
theorem ah3.symB{rows:List (BitVec 64)}(h:ah3 nd es rows)(hG:G8 nd es):gc2 nd.toNat rows:=by
 have hr:=hG.rng
 have hl:=h.len
 have ed:∀a b:Int,((⟨a,b⟩:Pt)∈es)->0<=a/\a<b/\b<nd:=λa b hm=>hG.ad7 _ hm
 refine ⟨by omega,by omega,λu v M u1 E=>?_,λu v M u1 E=>?_,λu M u1 E=>?_⟩
 ·have:=((h.mem M<|by omega).1 E).2
  rcases this with e|e<;>have:=ed _ _ e<;>omega
 ·obtain ⟨h1,h2⟩:=(h.mem M<|by omega).1 E
  have h3:v<nd:=by rcases h2 with e|e<;>have:=ed _ _ e<;>omega
  exact (h.mem h1.1 h3).2 ⟨⟨M,by omega⟩,h2.symm⟩
 have:=((h.mem M<|by omega).1 E).2
 rcases this with e|e<;>have:=ed _ _ e<;>omega
section
variable {n:Nat}{rows:List (BitVec 64)}
theorem bx5(h:gc2 n rows)(left:BitVec 64)(E:0<=v)(v1:v<n):R6 rows left v<n:=by
 unfold R6
 have hs:(v::em (e_ rows v &&& left)).Nodup:=Kt.2 ⟨λhm=>h.irr v E v1 (J1.1 hm).1,Q2 _⟩
 have M:∀x∈(v::em (e_ rows v &&& left)),x∈(List.range n).map fun (i:Nat)=>(i:Int):=λx hx=>by
  rw [Ha]
  rcases Gh.1 hx with rfl|hx
  ·exact ⟨x.toNat,Ht.2<|by omega,by omega⟩
  have h1:=(J1.1 hx).1
  have h2:=h.lt v x E v1 h1
  have h3:=(T0 h1).1
  exact ⟨x.toNat,Ht.2<|by omega,by omega⟩
 have:=H_ hs M
 rw [Gi,Kq,Fu] at this
 omega
theorem dg9(h:gc2 n rows)(E:0<=u)(u1:u<n)(M:0<=v)(v1:v<n)(hv:v∈em left) :
  R6 rows left u=R6 rows (left &&& ~~~(1#64 <<< v.toNat)) u+if u∈em (e_ rows v) then 1 else 0:=by
 unfold R6
 rw [←BitVec.and_assoc]
 by_cases hm:u∈em (e_ rows v)
 ·rw [By hm]
  exact aa9<|J1.2 ⟨h.sym v u M v1 hm,hv⟩
 rw [An hm]
 exact (de4 M λe=>hm<|h.sym u v E u1 (J1.1 e).1).symm
end
structure az1 (n:Nat) (S:Int->Prop) (dg:Int->Nat) (dgs:List Int) (bks:List (BitVec 64)):Prop where
 ge5:dgs.length=n
 ge7:bks.length=64
 rng:∀u,S u->0<=u/\u<n
 deg:∀u,S u->e_ dgs u=(dg u:Int)
 bkt:∀d:Int,0<=d->d<64->∀u:Int,u∈em (e_ bks d)↔S u/\(dg u:Int)=d
section
variable {n:Nat}{S S':Int->Prop}{dg dg':Int->Nat}{dgs:List Int}{bks:List (BitVec 64)}
theorem az1.start(n:Nat)(dg:Int->Nat):az1 n (λu=>0<=u/\u<((0:Nat):Int)) dg (List.replicate n 0) (List.replicate 64 0#64):=
 ⟨Fw,Fw,λu M=>by omega,λu M=>by omega,λd d0 d1 u=>by
  rw [da3,N6]
  exact ⟨(λh=>by cases h),λh=>by omega⟩⟩
theorem az1.congr(h:az1 n S dg dgs bks)(E:∀u,S' u↔S u)(hd:∀u,S u->dg' u=dg u):az1 n S' dg' dgs bks:=
 ⟨h.ge5,h.ge7,λu hu=>h.rng u ((E u).1 hu),λu hu=>by rw [h.deg u ((E u).1 hu),hd u ((E u).1 hu)],λd d0 d1 u=>by
  rw [h.bkt d d0 d1 u,E]
  constructor
  ·rintro ⟨M,h2⟩;exact ⟨M,by rw [hd u M];exact h2⟩
  rintro ⟨M,h2⟩;exact ⟨M,by rw [←hd u M];exact h2⟩⟩
theorem az1.push(h:az1 n S dg dgs bks){c:Int}(v0:0<=v)(v1:v<n)(hn:n<=64)(hS:∀u,S' u↔S u\/u=v)(hv:¬S v)(hc:c=(dg v:Int))(c1:c<64) :
  az1 n S' dg (dgs.set v.toNat c) (bks.set c.toNat<|e_ bks c ||| 1#64 <<< v.toNat):=by
 have ab:=h.ge7
 have aa:=h.ge5
 refine ⟨by rw [Gd];exact aa,by rw [Gd];exact ab,λu M=>?_,λu M=>?_,λd d0 d1 u=>?_⟩
 ·rcases (hS u).1 M with M|rfl
  ·exact h.rng u M
  exact ⟨v0,v1⟩
 ·have hr:0<=u:=((hS u).1 M).elim (λM=>(h.rng u M).1) λe=>by omega
  rw [R1 _ v u _ v0 hr (by omega)]
  rcases (hS u).1 M with M|rfl
  ·rw [An (λe=>hv<|by rw [e];exact M)];exact h.deg u M
  rw [By rfl,hc]
 rw [R1 _ c d _ (by omega) d0 (by omega),hS]
 by_cases e:c=d
 ·rw [By e,aj0 v0<|by omega,e,h.bkt d d0 d1]
  constructor
  ·rintro (⟨h1,E⟩|rfl)
   ·exact ⟨.inl h1,E⟩
   exact ⟨.inr rfl,by omega⟩
  rintro ⟨h1|rfl,E⟩
  ·exact .inl ⟨h1,E⟩
  exact .inr rfl
 rw [An e,h.bkt d d0 d1]
 constructor
 ·rintro ⟨h1,E⟩;exact ⟨.inl h1,E⟩
 rintro ⟨h1|rfl,E⟩
 ·exact ⟨h1,E⟩
 exact absurd (hc.trans E) e
theorem az1.drop(h:az1 n S dg dgs bks)(hv:S v)(hd:(dg v:Int)=d)(d1:d<64)(hS:∀u,S' u↔S u/\u≠v) :
  az1 n S' dg dgs (bks.set d.toNat<|e_ bks d &&& ~~~(1#64 <<< v.toNat)):=by
 have aa:=h.ge7
 have hr:=h.rng v hv
 refine ⟨h.ge5,by rw [Gd];exact aa,λu hu=>h.rng u ((hS u).1 hu).1,λu hu=>h.deg u ((hS u).1 hu).1,λc c0 c1 u=>?_⟩
 rw [R1 _ d c _ (by omega) c0 (by omega),hS]
 by_cases e:d=c
 ·rw [By e,M2 hr.1,e,h.bkt c c0 c1]
  constructor
  ·rintro ⟨⟨E,M⟩,h3⟩;exact ⟨⟨E,h3⟩,M⟩
  rintro ⟨⟨E,h3⟩,M⟩;exact ⟨⟨E,M⟩,h3⟩
 rw [An e,h.bkt c c0 c1]
 constructor
 ·rintro ⟨E,M⟩;exact ⟨⟨E,λe2=>e<|by subst e2;omega⟩,M⟩
 rintro ⟨⟨E,_⟩,M⟩;exact ⟨E,M⟩
theorem az1.lower(h:az1 n S dg dgs bks)(hn:n<=64){w e:Int}(E:S w)(he:(dg w:Int)=e)(e0:1<=e)(e1:e<64)(hd:∀u,S u->dg' u=if u=w then dg u - 1 else dg u) :
  az1 n S dg' (dgs.set w.toNat<|e - 1) ((bks.set e.toNat<|e_ bks e &&& ~~~(1#64 <<< w.toNat)).set (e - 1).toNat (e_ (bks.set e.toNat<|e_ bks e &&& ~~~(1#64 <<< w.toNat)) (e - 1) ||| 1#64 <<< w.toNat)):=by
 have hr:=h.rng w E
 have h1:az1 n (λu=>S u/\u≠w) dg dgs _:=h.drop E he e1 (S':=λu=>S u/\u≠w) λu=>Iff.rfl
 have h2:az1 n (λu=>S u/\u≠w) dg' dgs _:=h1.congr (λu=>Iff.rfl) λu M=>by rw [hd u M.1,An M.2]
 have aa:=hd w E
 rw [By rfl] at aa
 refine (h2.push (S':=S) hr.1 hr.2 hn (λu=>?_) (λh=>h.2 rfl) (by omega) (by omega):az1 n S dg' (dgs.set w.toNat<|e - 1) _)
 constructor
 ·intro M
  by_cases e:u=w
  ·exact .inr e
  exact .inl ⟨M,e⟩
 rintro (M|rfl)
 ·exact M.1
 exact E
theorem az1.takes{rows:List (BitVec 64)}(h:az1 n (λu=>u∈em left) (R6 rows left) dgs bks)(d0:0<=d)(d1:d<64)(hd:e_ bks d≠0#64)(hlt:∀c:Int,0<=c->c<d->e_ bks c=0#64)(M:∀u∈em left,R6 rows left u<64) :
  ch3 rows left (tzB<|e_ bks d)/\(R6 rows left (tzB<|e_ bks d):Int)=d:=by
 obtain ⟨h1,h2⟩:=do1 hd
 obtain ⟨h3,h4⟩:=(h.bkt d d0 d1 _).1 h1
 refine ⟨⟨h3,λu E=>?_⟩,h4⟩
 have hb:=M u E
 rcases Np (R6 rows left u:Int) d with h5|h5|h5
 ·have h6:=(h.bkt (R6 rows left u:Int) (by omega) (by omega) u).2 ⟨E,rfl⟩
  rw [hlt _ (by omega) h5,N6] at h6
  cases h6
 ·exact .inr ⟨by omega,h2 u<|(h.bkt d d0 d1 u).2 ⟨E,h5⟩⟩
 exact .inl<|by omega
theorem az1.some{rows:List (BitVec 64)}(h:az1 n (λu=>u∈em left) (R6 rows left) dgs bks)(hl:left≠0#64)(M:∀u∈em left,R6 rows left u<64)(hz:∀c:Int,0<=c->c<64->e_ bks c=0#64):False:=by
 obtain ⟨u,E⟩:=V3.1 hl
 have hb:=M u E
 have h6:=(h.bkt (R6 rows left u:Int) (by omega) (by omega) u).2 ⟨E,rfl⟩
 rw [hz _ (by omega) (by omega),N6] at h6
 cases h6
end
def dn3(rows:List (BitVec 64))(left:BitVec 64)(ws:List Int)(j:Nat)(u:Int):Nat:=if u∈ws.take j then R6 rows left u - 1 else R6 rows left u
theorem dx1(rows:List (BitVec 64))(left:BitVec 64)(ws:List Int)(u:Int):dn3 rows left ws 0 u=R6 rows left u:=by unfold dn3;rw [An (by simp)]
theorem cf6{rows:List (BitVec 64)}(hj:j<ws.length)(hn:ws.Nodup)(u:Int):dn3 rows left ws (j+1) u=if u=e_ ws j then dn3 rows left ws j u - 1 else dn3 rows left ws j u:=by
 have M:e_ ws j∉ws.take j:=by
  rw [M5 ws j hj]
  intro E
  obtain ⟨i,hi,e⟩:=Li.1 E
  rw [Fx] at hi
  rw [Lt] at e
  exact (Ho.1 hn) i j (by omega) hj (by omega) e
 unfold dn3
 rw [W7 ws j hj]
 simp only [Gu,Gj]
 by_cases e:u=e_ ws j
 ·subst e
  rw [By (.inr rfl),By rfl,An M]
 rw [An e]
 by_cases h2:u∈ws.take j
 ·rw [By (.inl h2),By h2]
 rw [An (by rintro (h3|h3);exact h2 h3;exact e h3),An h2]
theorem fm7{rows:List (BitVec 64)}(hj:j<ws.length)(hn:ws.Nodup):dn3 rows left ws j (e_ ws j)=R6 rows left (e_ ws j):=by
 have E:=cf6 (rows:=rows) (left:=left) hj hn (e_ ws j)
 rw [By rfl] at E
 unfold dn3 at E ⊢
 split
 ·rename_i h2
  have M:e_ ws j∉ws.take j:=by
   rw [M5 ws j hj]
   intro hm
   obtain ⟨i,hi,e⟩:=Li.1 hm
   rw [Fx] at hi
   rw [Lt] at e
   exact (Ho.1 hn) i j (by omega) hj (by omega) e
  exact absurd h2 M
 rfl
theorem fm8{n:Nat}{rows:List (BitVec 64)}(h:gc2 n rows)(E:0<=v)(v1:v<n)(hv:v∈em left)(u0:0<=u)(u1:u<n)(hu:u∈em (left &&& ~~~(1#64 <<< v.toNat)))(hj:(em (e_ rows v &&& (left &&& ~~~(1#64 <<< v.toNat)))).length<=j) :
  dn3 rows left (em<|e_ rows v &&& (left &&& ~~~(1#64 <<< v.toNat))) j u=R6 rows (left &&& ~~~(1#64 <<< v.toNat)) u:=by
 have M:=dg9 h u0 u1 E v1 hv
 unfold dn3
 rw [Gb hj]
 by_cases hm:u∈em (e_ rows v)
 ·rw [By (J1.2 ⟨hm,hu⟩)];rw [By hm] at M;omega
 rw [An (λe=>hm (J1.1 e).1)];rw [An hm] at M;omega
end Go.Sl
namespace Go.Sl
section
variable {P:Program}
def fm2(P:Program):List Field->Nat->Bool
 |[],_=>true
 | f :: fs, o => (f.name != "_") && (match P.underlying f.type with | some (.int .i64) => true | _ => false) && (f.offset == o) && fm2 P fs (o + 1)
theorem bo5(d:Nat)(w:World)(ns ms:List Int):∀(fs:List Field) (o:Nat),fm2 P fs o=true->ns.length=o+fs.length->ms.length=o+fs.length->
  (Op.eqFields (d+1) (ns.map e7).toArray (ms.map e7).toArray fs).run P w = .ok (decide (ns.drop o=ms.drop o)) w
 |[],o,_,hn,hm=>by
  have h1:ns.drop o=[]:=Hb (by simp at hn;omega)
  have h2:ms.drop o=[]:=Hb (by simp at hm;omega)
  simp [Op.eqFields,h1,h2]
 |f::fs,o,h,hn,hm=>by
  simp only [fm2,Hi,bne_iff_ne,beq_iff_eq] at h
  obtain ⟨⟨⟨h1,h2⟩,h3⟩,h4⟩:=h
  have hu:P.underlying f.type=some (.int .i64):=by
   revert h2
   split
   ·intro _;assumption
   intro h;cases h
  simp only [Fu] at hn hm
  have hno:o<ns.length:=by omega
  have hmo:o<ms.length:=by omega
  have ha:(isAgg f.type).run P w = .ok false w:=by simp [isAgg,run_underlying hu]
  have hp:∀(ks:List Int) (hk:o<ks.length),(part f.type (ks.map e7).toArray f.offset).run P w = .ok (e7 ks[o]) w:=λks hk=>by
   simp [part,ha,h3,hk]
  have ih:=bo5 d w ns ms fs (o+1) h4 (by omega) (by omega)
  simp only [Op.eqFields,By h1,Sem.run_bind,hp ns hno,hp ms hmo,Result.andThen_ok,run_equalIn_int _ _ _ _ _ _ _ hu]
  have key:(ns.drop o=ms.drop o)↔(ns[o]=ms[o]/\ns.drop (o+1)=ms.drop (o+1)):=by rw [Hp hno,Hp hmo,Mw]
  have key2:decide (ns.drop o=ms.drop o)=decide (ns[o]=ms[o]/\ns.drop (o+1)=ms.drop (o+1)):=Fy.2 key
  rw [key2]
  by_cases he:ns[o]=ms[o]
  ·simp [he,ih]
  simp [he]
theorem EqT.flat{α:Type}[Enc α][DecidableEq α]{T n:Nat}(M:α->List Int)(E:∀x,Enc.enc x=(M x).map e7)(aa:∀x y,M x=M y->x=y)(hlen:∀x,(M x).length=n)
  (ht:P.underlying T=some (.struct<|P.fieldsOf T)) (hp:P.stoodInHeld T=false) (hf:fm2 P (P.fieldsOf T).toList 0=true) (hn:(P.fieldsOf T).size=n) (hg:P.eqGuardType P.depth T=false):EqT P T α:=by
 refine ⟨λx y w=>?_,hg⟩
 rw [show (10000:Nat)=9999+1 from rfl,run_equalIn_struct w 9999 T _ _ ht hp,E,E,show (9999:Nat)=9998+1 from rfl,
  bo5 9998 w (M x) (M y) _ 0 hf (by rw [hlen,Hl,hn];omega) (by rw [hlen,Hl,hn];omega)]
 congr 1
 rw [Ko,Ko,Fy]
 exact ⟨aa x y,λe=>by rw [e]⟩
end
end Go.Sl
