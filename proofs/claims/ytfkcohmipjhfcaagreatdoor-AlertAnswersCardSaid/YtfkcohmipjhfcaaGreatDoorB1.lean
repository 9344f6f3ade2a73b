/- A part of the proofs of statements of this seat: contracts of functions, and the plain laws that they lean on. No conditions. -/
import Derived.Test.YtfkcohmipjhfcaaGreatDoorB0
import Derived.KernelRfl
set_option linter.unusedVariables false
set_option linter.unusedSimpArgs false
set_option linter.unusedSectionVars false
namespace Go.Sl
open Go.RowKit (Below)
variable{u v:Value}{c:Operand}{M cells cs cs' vs z:List Value}{E b by' dd e o off s sz t:Nat}{w:World}{ag:Bool}{ad:Option Addr}{I':List Item}{xs:List Operand}{fn:Func}
def InR(n:Int):Prop:= -9223372036854775808<=n/\n<=9223372036854775807
theorem InR.wrap{n:Int}(h:InR n):IntKind.i64.wrap n=n:=Go.IntWalk.i64_in _ h
def Q4(P:Program)(T:TypeId)(k:Nat):Option Nat:=
 match P.underlying T with
 |some (.struct fs)=>(fs[k]?).bind λf=>(P.info? f.type).bind λi=>if i.size=0 then none else some f.offset
 |_=>none
def T8(P:Program)(f:FuncId):Bool:=
 match P.funcs[f]? with
 | some fn => !(fn.name == "runtime.NumGoroutine") && fn.body.isSome
 |none=>false
def Q5(L:Env):List Operand->Option (List Value)
 |[]=>some []
 |x::xs=>match ep L x,Q5 L xs with
  |some v,some vs=>some (v::vs)
  |_,_=>none
section
variable {P:Program}{κ:Ctx}{N:Frm}{Q:Exit->Act->World->Prop}{L:Env}{I J:List Item}
variable {d:Option Tmp}{ty:TypeId}{ps:String}{af:Array Edge}{gd:Option (Nat×Bool)}
theorem Ag.Q5{a:Act}(M:Ag N a L):∀{xs:List Operand} {vs:List Value},Q5 L xs=some vs->xs.map a.eval=vs
 |[],vs,h=>by simp [Sl.Q5] at h;simp [h]
 |x::xs,vs,h=>by
  simp only [Sl.Q5] at h
  split at h
  ·rename_i v vs' h1 h2
   simp only [Ka] at h
   subst h
   simp [M.eval h1,Ag.Q5 M h2]
  cases h
theorem j0.move{x:Operand}(M:ep L x=some v):j0 P κ N ⟨d,.move x,ty,ps,af,gd⟩ L J v:=λa w E _=>by simp [execOp,E.eval M]
theorem j0.assign{x:Operand}(M:ep L x=some v):j0 P κ N ⟨d,.assign x,ty,ps,af,gd⟩ L J v:=λa w E _=>by simp [execOp,E.eval M]
section ints
variable {x y:Operand}{k:IntKind}{m n:Int}{T U:TypeId}
theorem j0.gv0(E:ep L x=some (.int k m))(hy:ep L y=some (.int k n)):j0 P κ N ⟨d,.binOp .add T x y U,ty,ps,af,gd⟩ L J (.int k (k.wrap (m+n))):=
 λa w M _=>by simp only [execOp,M.eval E,M.eval hy];simp [go_sem,Op.intArith]
theorem j0.gp4(E:ep L x=some (.int k m))(hy:ep L y=some (.int k n)):j0 P κ N ⟨d,.binOp .sub T x y U,ty,ps,af,gd⟩ L J (.int k (k.wrap (m - n))):=
 λa w M _=>by simp only [execOp,M.eval E,M.eval hy];simp [go_sem,Op.intArith]
theorem j0.gq4(E:ep L x=some (.int k m))(hy:ep L y=some (.int k n)):j0 P κ N ⟨d,.binOp .mul T x y U,ty,ps,af,gd⟩ L J (.int k (k.wrap (m*n))):=
 λa w M _=>by simp only [execOp,M.eval E,M.eval hy];simp [go_sem,Op.intArith]
theorem j0.rem(E:ep L x=some (.int k m))(hy:ep L y=some (.int k n))(h0:n≠0):j0 P κ N ⟨d,.binOp .rem T x y U,ty,ps,af,gd⟩ L J (.int k (m.tmod n)):=
 λa w M _=>by simp only [execOp,M.eval E,M.eval hy];simp [go_sem,Op.intDiv,h0]
theorem j0.quow(E:ep L x=some (.int k m))(hy:ep L y=some (.int k n))(h0:n≠0):j0 P κ N ⟨d,.binOp .quo T x y U,ty,ps,af,gd⟩ L J (.int k (k.wrap (m.tdiv n))):=
 λa w M _=>by simp only [execOp,M.eval E,M.eval hy];simp [go_sem,Op.intDiv,h0]
theorem j0.add(E:ep L x=some (e7 m))(hy:ep L y=some (e7 n))(M:InR (m+n)):j0 P κ N ⟨d,.binOp .add T x y U,ty,ps,af,gd⟩ L J (e7 (m+n)):=by
 have h:=j0.gv0 (P:=P) (κ:=κ) (N:=N) (J:=J) (d:=d) (ty:=ty) (ps:=ps) (af:=af) (gd:=gd) (T:=T) (U:=U) E hy
 rwa [M.wrap] at h
theorem j0.sub(E:ep L x=some (e7 m))(hy:ep L y=some (e7 n))(M:InR (m - n)):j0 P κ N ⟨d,.binOp .sub T x y U,ty,ps,af,gd⟩ L J (e7 (m - n)):=by
 have h:=j0.gp4 (P:=P) (κ:=κ) (N:=N) (J:=J) (d:=d) (ty:=ty) (ps:=ps) (af:=af) (gd:=gd) (T:=T) (U:=U) E hy
 rwa [M.wrap] at h
theorem j0.mul(E:ep L x=some (e7 m))(hy:ep L y=some (e7 n))(M:InR (m*n)):j0 P κ N ⟨d,.binOp .mul T x y U,ty,ps,af,gd⟩ L J (e7 (m*n)):=by
 have h:=j0.gq4 (P:=P) (κ:=κ) (N:=N) (J:=J) (d:=d) (ty:=ty) (ps:=ps) (af:=af) (gd:=gd) (T:=T) (U:=U) E hy
 rwa [M.wrap] at h
theorem j0.lss(E:ep L x=some (.int k m))(hy:ep L y=some (.int k n)):j0 P κ N ⟨d,.binOp .lss T x y U,ty,ps,af,gd⟩ L J (.bool (decide (m<n))):=
 λa w M _=>by simp only [execOp,M.eval E,M.eval hy];simp [go_sem]
theorem j0.leq(E:ep L x=some (.int k m))(hy:ep L y=some (.int k n)):j0 P κ N ⟨d,.binOp .leq T x y U,ty,ps,af,gd⟩ L J (.bool (decide (m<=n))):=
 λa w M _=>by simp only [execOp,M.eval E,M.eval hy];simp [go_sem]
theorem j0.gtr(E:ep L x=some (.int k m))(hy:ep L y=some (.int k n)):j0 P κ N ⟨d,.binOp .gtr T x y U,ty,ps,af,gd⟩ L J (.bool (decide (n<m))):=
 λa w M _=>by simp only [execOp,M.eval E,M.eval hy];simp [go_sem]
theorem j0.geq(E:ep L x=some (.int k m))(hy:ep L y=some (.int k n)):j0 P κ N ⟨d,.binOp .geq T x y U,ty,ps,af,gd⟩ L J (.bool (decide (n<=m))):=
 λa w M _=>by simp only [execOp,M.eval E,M.eval hy];simp [go_sem]
theorem j0.eql(E:ep L x=some (.int k m))(hy:ep L y=some (.int k n)):j0 P κ N ⟨d,.binOp .eql T x y U,ty,ps,af,gd⟩ L J (.bool (decide (m=n))):=
 λa w M _=>by simp only [execOp,M.eval E,M.eval hy];simp [go_sem];rfl
theorem j0.neq(E:ep L x=some (.int k m))(hy:ep L y=some (.int k n)):j0 P κ N ⟨d,.binOp .neq T x y U,ty,ps,af,gd⟩ L J (.bool (decide (m≠n))):=
 λa w M _=>by
  simp only [execOp,M.eval E,M.eval hy]
  simp [go_sem]
  by_cases h:m=n<;>simp [h]
theorem j0.gw1(E:ep L x=some (.int k m))(hy:ep L y=some (.int k n)):j0 P κ N ⟨d,.binOp .xor T x y U,ty,ps,af,gd⟩ L J (.int k (bits .xor k m n)):=
 λa w M _=>by simp only [execOp,M.eval E,M.eval hy];simp [go_sem]
theorem j0.min(E:ep L x=some (.int k m))(hy:ep L y=some (.int k n)){as:Array TypeId} :
  j0 P κ N ⟨d,.call {callee:= .builtin .min,args:= #[x,y],argTypes:=as},ty,ps,af,gd⟩ L J (.int k (if n<m then n else m)):=
 λa w M _=>by simp [execOp,resolve,invoke,builtin,M.eval E,M.eval hy,Builtin.min_,Builtin.min2]
theorem j0.max(E:ep L x=some (.int k m))(hy:ep L y=some (.int k n)){as:Array TypeId} :
  j0 P κ N ⟨d,.call {callee:= .builtin .max,args:= #[x,y],argTypes:=as},ty,ps,af,gd⟩ L J (.int k (if m<n then n else m)):=
 λa w M _=>by simp [execOp,resolve,invoke,builtin,M.eval E,M.eval hy,Builtin.max_,Builtin.max2]
theorem j0.neg(M:ep L x=some (e7 m))(E:InR (-m)):j0 P κ N ⟨d,.unOp .neg T x,ty,ps,af,gd⟩ L J (e7 (-m)):=
 λa w ha _=>by simp [execOp,ha.eval M,Op.unary,Op.intArith];exact E.wrap
end ints
theorem j0.not{x:Operand}{b:Bool}{T:TypeId}(M:ep L x=some (.bool b)):j0 P κ N ⟨d,.unOp .not T x,ty,ps,af,gd⟩ L J (.bool !b):=
 λa w E _=>by simp [execOp,E.eval M,Op.unary]
theorem j0.gw7{x:Operand}{p:Prop}[Decidable p]{T:TypeId}(M:ep L x=some (.bool (decide p))):j0 P κ N ⟨d,.unOp .not T x,ty,ps,af,gd⟩ L J (.bool (decide ¬p)):=
 λa w E _=>by simp [execOp,E.eval M,Op.unary]
theorem j0.gi1{x y:Operand}(E:ep L c=some (.bool true))(hx:ep L x=some v):j0 P κ N ⟨d,.pick c x y,ty,ps,af,gd⟩ L J v:=
 λa w M _=>by simp [execOp,M.eval E,M.eval hx,asBool]
theorem j0.gi2{x y:Operand}(E:ep L c=some (.bool false))(hy:ep L y=some v):j0 P κ N ⟨d,.pick c x y,ty,ps,af,gd⟩ L J v:=
 λa w M _=>by simp [execOp,M.eval E,M.eval hy,asBool]
theorem j0.nilCheck{x:Operand}{p:Addr}(M:ep L x=some (.pointer (some p))):j0 P κ N ⟨d,.nilCheck x,ty,ps,af,gd⟩ L J (.pointer (some p)):=
 λa w E _=>by simp [execOp,E.eval M]
theorem j0.extract{x:Operand}{vs:Array Value}{i:Nat}(E:ep L x=some (.tuple vs))(M:vs[i]? = some v):j0 P κ N ⟨d,.extract x i,ty,ps,af,gd⟩ L J v:=
 λa w ha _=>by simp [execOp,ha.eval E,Instr.extract,M]
theorem j0.makeFunc{E:Fn}{first cap:List Operand}(h1:Q5 L first=some vs)(h2:Q5 L cap=some M):j0 P κ N ⟨d,.makeFunc E first.toArray cap.toArray,ty,ps,af,gd⟩ L J (.func E vs.toArray M.toArray):=
 λa w ha _=>by simp [execOp,Instr.makeFunc,ha.Q5 h1,ha.Q5 h2]
theorem dv3{T k:Nat}(h:Q4 P T k=some off):∃fs f i,P.underlying T=some (.struct fs)/\fs[k]? = some f/\P.info? f.type=some i/\i.size≠0/\f.offset=off:=by
 unfold Q4 at h
 split at h
 ·rename_i fs hu
  cases hf:fs[k]? with
  |none=>simp [hf] at h
  |some f=>
   cases hi:P.info? f.type with
   |none=>simp [hf,hi] at h
   |some i=>
    simp [hf,hi] at h
    exact ⟨fs,f,i,hu,hf,hi,h.1,h.2⟩
 cases h
theorem bf0{T k:Nat}(h:Q4 P T k=some off)(p:Addr)(w:World):(Instr.fieldAt T (.pointer (some p)) k).run P w = .ok (.pointer (some (p.add off))) w:=by
 obtain ⟨fs,f,i,hu,M,hi,E,ho⟩:=dv3 h
 subst ho
 simp [Instr.fieldAt,run_underlying hu,M,Instr.sureAddr,fieldPlace,sizeOf,typeInfo,hi,E]
theorem j0.fieldAddr{x:Operand}{T k:Nat}(h:Q4 P T k=some off)(M:ep L x=some (.pointer (some ⟨b,o,none⟩))) :
  j0 P κ N ⟨d,.fieldAddr T x k,ty,ps,af,gd⟩ L J (.pointer<|some ⟨b,o+off,none⟩):=
 λa w E _=>by simp [execOp,E.eval M,bf0 h,y5]
theorem dn0.some{n:Nat}(h:dn0 w sz v n cs)(hn:0<n):∃b off cap,v = .slice (some ⟨b,off,none⟩) n cap/\∀j u,cs[j]? = some u->w.cell? ⟨b,off+j,none⟩=some u:=by
 obtain ⟨a,cap,rfl,h1,h2,h3,M⟩:=h
 obtain ⟨b,off,rfl,E⟩:=M (by omega)
 exact ⟨b,off,cap,rfl,E⟩
theorem j0.dw0{x:Operand}{T k m n:Nat}(h:Q4 P T k=some off)(M:ep L x=some (s6 v m))(E:bj5 κ J sz v n cs)(hn:0<n) :
  j0 P κ N ⟨d,.fieldAddr T x k,ty,ps,af,gd⟩ L J (s6 v<|m+off):=
 λa w ha hs=>by
  obtain ⟨b,o,cap,rfl,_⟩:=(E w hs).some hn
  simp [execOp,ha.eval M,s6,bf0 h,y5,Mu]
theorem j0.indexAddr{x y:Operand}{T n:Nat}{i:Int}(ht:P.underlying T=some (.slice E))(hE:tyF P E=some (sz,ag,by',z))(hx:ep L x=some v)
  (hy:ep L y=some (e7 i)) (hv:bj5 κ J sz v n cs) (h0:0<=i) (hn:i<n):j0 P κ N ⟨d,.indexAddr T x y,ty,ps,af,gd⟩ L J (s6 v<|i.toNat*sz):=
 λa w M hs=>by
  obtain ⟨b,o,cap,rfl,_⟩:=(hv w hs).some (by omega)
  simp [execOp,M.eval hx,M.eval hy,Instr.indexAt,asIntOf,run_underlying ht,h0,hn,run_sizeOf hE,s6]
theorem j0.len{x:Operand}{T n:Nat}(M:P.underlying T=some (.slice E))(hx:ep L x=some v)(hv:bj5 κ J sz v n cs) :
  j0 P κ N ⟨d,.call {callee:= .builtin .len,args:= #[x],argTypes:= #[T]},ty,ps,af,gd⟩ L J (e7 n):=
 λa w ha hs=>by
  obtain ⟨ad,cap,rfl,_⟩:=hv w hs
  simp [execOp,resolve,invoke,builtin,ha.eval hx,Builtin.len_,run_underlying M,goInt]
theorem j0.lens{x:Operand}{T n c:Nat}(M:P.underlying T=some (.slice E))(hx:ep L x=some (.slice ad n c)) :
  j0 P κ N ⟨d,.call {callee:= .builtin .len,args:= #[x],argTypes:= #[T]},ty,ps,af,gd⟩ L J (e7 n):=
 λa w ha hs=>by
  simp [execOp,resolve,invoke,builtin,ha.eval hx,Builtin.len_,run_underlying M,goInt]
theorem j0.load{x:Operand}{T:Nat}(hT:tyF P T=some (sz,false,by',z))(hx:ep L x=some (.pointer (some ⟨b,o,none⟩)))(hb:e8 b cs E∈J)(M:cs[o]? = some v) :
  j0 P κ N ⟨d,.load T x,ty,ps,af,gd⟩ L J v:=
 λa w ha hs=>by
  have:=V6 (w:=w) (hs.ok _ hb).1 o
  simp [execOp,ha.eval hx,Instr.loadAt,Instr.sureAddr,aa1 hT<|this.trans M]
theorem j0.ao4{x:Operand}{T:Nat}(hT:tyF P T=some (sz,true,by',z))(hx:ep L x=some (.pointer (some ⟨b,o,none⟩)))(hb:e8 b cs E∈J)(hc:(cs.drop o).take sz=vs)(hl:vs.length=sz) :
  j0 P κ N ⟨d,.load T x,ty,ps,af,gd⟩ L J (.agg vs.toArray):=
 λa w ha hs=>by
  have M:=λj=>V6 (w:=w) (hs.ok _ hb).1 j
  have:(loadVar T ⟨b,o,none⟩).run P w = .ok (.agg vs.toArray) w:=G2 hT hl λj u hj=>by
   rw [y5,M,←hj,←hc,Jf,By<|by have:=(He.1 hj).1;omega,Jg]
  simp [execOp,ha.eval hx,Instr.loadAt,Instr.sureAddr,this]
theorem j0.bv7{x:Operand}{T n k:Nat}(hT:tyF P T=some (s,false,by',z))(hx:ep L x=some (s6 v k))(hv:bj5 κ J sz v n cs)(M:cs[k]? = some u) :
  j0 P κ N ⟨d,.load T x,ty,ps,af,gd⟩ L J u:=
 λa w ha hs=>by
  have hn:0<n:=Lp λh=>by
   obtain ⟨_,_,_,E,_⟩:=hv w hs
   have:=(He.1 M).1
   subst h
   simp at E
   simp [E] at this
  obtain ⟨b,o,cap,rfl,hr⟩:=(hv w hs).some hn
  simp [execOp,ha.eval hx,s6,y5,Instr.loadAt,Instr.sureAddr,aa1 hT<|hr k u M]
theorem j0.dt7{x:Operand}{T n k:Nat}(hT:tyF P T=some (s,true,by',z))(hx:ep L x=some (s6 v k))(hv:bj5 κ J sz v n cs)(hn:0<n)(E:∀j u,M[j]? = some u->cs[k+j]? = some u)
  (hl:M.length=s):j0 P κ N ⟨d,.load T x,ty,ps,af,gd⟩ L J (.agg M.toArray):=
 λa w ha hs=>by
  obtain ⟨b,o,cap,rfl,hr⟩:=(hv w hs).some hn
  have:(loadVar T ⟨b,o+k,none⟩).run P w = .ok (.agg M.toArray) w:=G2 hT hl λj u hj=>by
   rw [y5,Mu]
   exact hr (k+j) u<|E j u hj
  simp [execOp,ha.eval hx,s6,y5,Instr.loadAt,Instr.sureAddr,this]
def F8(P:Program)(T:TypeId):Sem (Array (Nat×Nat)):=
 match P.underlying T with
 |some (.struct fs)=>fs.mapM λf=>do pure (f.offset,←sizeOf f.type)
 |_=>pure #[]
theorem j0.build{T:Nat}{fs:Array Field}{M:List (Nat×Operand)}{E:Array (Nat×Nat)}(hT:tyF P T=some (sz,ag,by',z))(ht:P.underlying T=some (.struct fs))
  (ae:∀w:World,(F8 P T).run P w = .ok E w)
  (hp:Q5 L (M.map (·.2))=some vs) (hf:Instr.fill (E[·]?) z.toArray ((M.map (·.1)).zip vs)=some cells.toArray):j0 P κ N ⟨d,.build T M.toArray,ty,ps,af,gd⟩ L J (.agg cells.toArray):=
 λa w ha hs=>by
  obtain ⟨zv,hz,ad⟩:=aa0 hT w
  have ah:M.map (λp=>(p.1,a.eval p.2))=(M.map (·.1)).zip vs:=by
   rw [←ha.Q5 hp]
   clear hp hf
   induction M with
   |nil=>rfl
   |cons p ps ih=>simp [ih]
  have aa:List.map (λx:Nat×Operand=>match x with |(i,x)=>(i,a.eval x)) M=(M.map (·.1)).zip vs:=ah
  have ab:=ae w
  simp only [F8,ht] at ab
  simp only [execOp,Instr.build,Sem.run_bind,hz,Result.andThen_ok,run_underlying ht,ab,Ke,aa,ad,hf,Sem.run_pure]
theorem j0.slice{x:Operand}{T n c l h:Nat}{lo hi:Option Operand}(ht:P.underlying T=some (.slice E))(hE:tyF P E=some (sz,ag,by',z))(hx:ep L x=some (.slice ad n c))
  (ae:(lo=none/\l=0)\/∃y,lo=some y/\ep L y=some (e7 l)) (ai:(hi=none/\h=n)\/∃y,hi=some y/\ep L y=some (e7 h)) (aa:l<=h) (ab:h<=c) :
  j0 P κ N ⟨d,.slice T x lo hi none,ty,ps,af,gd⟩ L J (.slice (if c=l then ad else ad.map (·.add (l*sz))) (h - l)<|c - l):=
 λa w ha hs=>by
  have h1:((l:Int)<=(h:Int)):=by omega
  have h2:((h:Int)<=(c:Int)):=by omega
  have ah:(Instr.sliceBounds true n c (lo.map a.eval) (hi.map a.eval) none).run P w = .ok (l,h,c) w:=by
   rcases ae with ⟨rfl,rfl⟩|⟨y,rfl,hy⟩<;>rcases ai with ⟨rfl,rfl⟩|⟨y',rfl,M⟩
   ·simp [Instr.sliceBounds]
   ·simp [Instr.sliceBounds,ha.eval M,Instr.sliceBound,asIntOf,ab]
   ·simp [Instr.sliceBounds,ha.eval hy,Instr.sliceBound,asIntOf,aa]
   simp [Instr.sliceBounds,ha.eval hy,ha.eval M,Instr.sliceBound,asIntOf,aa,ab]
  simp [execOp,Instr.sliceAt,Instr.slice,run_underlying ht,ha.eval hx,ah,run_sizeOf hE]
def z6:List Value->Prop
 |[]=>True
 |v::vs=>v.oneCell'=true/\z6 vs
theorem z6.nil:z6 []:=trivial
theorem z6.cons(h:v.oneCell'=true)(t:z6 vs):z6 (v::vs):=⟨h,t⟩
theorem z6.all:∀{vs:List Value},z6 vs->∀u∈vs,u.oneCell'=true
 |[],_,u,hu=>by cases hu
 |v::vs,h,u,hu=>by
  rcases Gh.1 hu with rfl|hu
  ·exact h.1
  exact z6.all h.2 u hu
theorem Eff.V2{o:Oper}{R:Env->List Item->Prop}(hd:o.dst=some dd)(hN:Nat.blt dd N.n=true)
  (h:∀a w,Ag N a L->Sep κ w I->∃v w' I',(execOp a.eval o).run P w = .ok (.value v) w'/\R ((dd,v)::L) I'/\Sep κ w' I'):Eff P κ N Q o L I R:=λa w E hs=>by
 obtain ⟨v,w',I',hr,hR,M⟩:=h a w E hs
 simp only [Oper.wp,hr,Oper.upon,hd]
 exact ⟨_,_,hR,E.put dd hN v,M⟩
theorem Eff.bv2{o:Oper}{R:Env->List Item->Prop}(hd:o.dst=none)
  (h:∀a w,Ag N a L->Sep κ w I->∃w' I',(execOp a.eval o).run P w = .ok .skip w'/\R L I'/\Sep κ w' I'):Eff P κ N Q o L I R:=λa w E hs=>by
 obtain ⟨w',I',hr,hR,M⟩:=h a w E hs
 simp only [Oper.wp,hr,Oper.upon,hd]
 exact ⟨_,_,hR,E,M⟩
theorem bo3(hs:Sep κ w I)(cs:List Value)(T:TypeId):Sep κ (w.alloc (.cells cs.toArray T)) (e8 w.heap.size cs T::I):=
 hs.new (hs.alloc _) (heap_alloc_new w _) λk M=>by obtain rfl:k=_:=M;exact ⟨Gk _,by simp⟩
theorem Eff.alloc{T:Nat}(E:tyF P T=some (sz,ag,by',z))(hN:Nat.blt dd N.n=true) :
  Eff P κ N Q ⟨some dd,.alloc T,ty,ps,af,gd⟩ L I λL' I'=>∃b,L'=(dd,pt b)::L/\I'=e8 b z T::I:=
 Eff.V2 rfl hN λa w ha hs=>by
  obtain ⟨zv,hz,M⟩:=aa0 E w
  exact ⟨_,_,_,by simp [execOp,Instr.alloc,hz,newVar,newRow,M],⟨_,rfl,rfl⟩,bo3 hs z T⟩
theorem Eff.box{x:Operand}{T:Nat}(hx:ep L x=some v)(E:cellsOf v=cs)(hN:Nat.blt dd N.n=true) :
  Eff P κ N Q ⟨some dd,.box T x,ty,ps,af,gd⟩ L I λL' I'=>∃b,L'=(dd,pt b)::L/\I'=e8 b cs T::I:=
 Eff.V2 rfl hN λa w ha hs=>by
  have M:v.cells=cs.toArray:=by rw [←E];simp [cellsOf]
  exact ⟨_,_,_,by simp [execOp,Instr.box,ha.eval hx,newVar,newRow,M],⟨_,rfl,rfl⟩,bo3 hs cs T⟩
theorem Eff.store{x y:Operand}{T:Nat}(hT:tyF P T=some (sz,ag,by',z))(hx:ep L x=some (.pointer (some ⟨b,o,none⟩)))(hy:ep L y=some v)
  (hv:cellsOf v=vs) (hl:vs.length=sz) (h1:∀u∈vs,u.oneCell'=true) (hr:o+vs.length<=cs.length) (ab:cs.take o++vs++cs.drop (o+vs.length)=cs') (M:At I (e8 b cs E) (e8 b cs' E) I') :
  Eff P κ N Q ⟨none,.store T x y,ty,ps,af,gd⟩ L I λL' I''=>L'=L/\I''=I':=
 Eff.bv2 rfl λa w ha hs=>by
  have hb:=(hs.ok _ M.mem).1
  have aa:=ay3 hT hv hl h1 hb hr
  rw [ab] at aa
  refine ⟨_,I',by simp [execOp,ha.eval hx,ha.eval hy,Instr.storeAt,Instr.sureAddr,aa];rfl,⟨rfl,rfl⟩,?_⟩
  exact hs.upd M rfl ⟨rfl,Gk _⟩ rfl (by simp) (λk _ ad=>setRow_other w b k _ λe=>ad e) (setRow_heap w b cs.toArray _ E _ hb) λk hk=> .inl hk
theorem az2.some{n:Nat}(h:az2 w e sz v n cs)(hn:0<n) :
  ∃b off cap cur,v = .slice (some ⟨b,off,none⟩) n cap/\cs.length=n*sz/\n<=cap/\cap<=maxLen/\w.heap[b]? = some (.cells cur e (0,0))/\off+cap*sz<=cur.size/\∀j u,cs[j]? = some u->cur[off+j]? = some u:=by
 obtain ⟨a,cap,rfl,h1,h2,h3,M⟩:=h
 obtain ⟨b,off,cur,rfl,h5,E,h7⟩:=M (by omega)
 exact ⟨b,off,cap,cur,rfl,h1,h2,h3,h5,E,h7⟩
theorem Eff.ca9{x y:Operand}{T n k:Nat}(hT:tyF P T=some (s,ag,by',z))(hx:ep L x=some (s6 v k))(hy:ep L y=some u)
  (hv:cellsOf u=vs) (hl:vs.length=s) (h1:∀u∈vs,u.oneCell'=true) (hn:0<n) (hr:k+vs.length<=cs.length) (E:cs.take k++vs++cs.drop (k+vs.length)=cs') (ab:At I (vec e sz v n cs) (vec e sz v n cs') I') :
  Eff P κ N Q ⟨none,.store T x y,ty,ps,af,gd⟩ L I λL' I''=>L'=L/\I''=I':=
 Eff.bv2 rfl λa w ha hs=>by
  obtain ⟨b,off,cap,cur,rfl,hlen,aa,ai,hb,ah,M⟩:=az2.some (hs.ok _ ab.mem).1 hn
  have aj:w.heap[b]? = some (.cells cur.toList.toArray e (0,0)):=by simpa using hb
  have an:n*sz<=cap*sz:=Hs sz aa
  have ak:=ay3 hT hv hl h1 aj (o:=off+k) (by simp only [Hl];omega)
  refine ⟨_,I',by simp [execOp,ha.eval hx,ha.eval hy,s6,y5,Instr.storeAt,Instr.sureAddr];rw [ak];simp;rfl,⟨rfl,rfl⟩,?_⟩
  refine hs.upd ab rfl ⟨rfl,Gk _⟩ rfl (by simp) (λk' _ ae=>setRow_other w b k' _ λe=>ae<|by subst e;exact ⟨off,n,cap,rfl,by omega⟩) ?_ λk hk=> .inl hk
  have ad:cs'.length=cs.length:=by rw [←E];simp only [A_,Fx,Ge];omega
  refine ⟨_,cap,rfl,ad.trans hlen,aa,ai,λhc=>⟨b,off,_,rfl,setRow_heap w b cur _ e _ hb,?_,λj u' hj=>?_⟩⟩
  ·simp only [Jv,A_,Fx,Ge,Hl];omega
  have ao:j<cs.length:=by rw [←ad];exact (He.1 hj).1
  have hA:(cur.toList.take<|off+k).length=off+k:=by simp only [Fx,Hl];omega
  have hB:(cs.take k).length=k:=by simp only [Fx];omega
  rw [←E] at hj
  simp only [Kb]
  rw [H1] at hj
  try rw [H1]
  by_cases hjk:j<k
  ·rw [Hf (by omega),Jf,By hjk] at hj
   rw [Hf (by omega),Jf,By<|by omega]
   simpa using M j u' hj
  rw [Hg (by omega),hB] at hj
  rw [Hg (by omega),hA,show off+j - (off+k)=j - k from by omega]
  by_cases hjv:j - k<vs.length
  ·rw [Hf hjv] at hj
   rw [Hf hjv]
   exact hj
  rw [Hg (by omega),Jg,show k+vs.length+(j - k - vs.length)=j from by omega] at hj
  rw [Hg (by omega),Jg,show off+k+vs.length+(j - k - vs.length)=off+j from by omega]
  simpa using M j u' hj
theorem Eff.append{x y:Operand}{n m:Nat}{ds:List Value}(ht:P.underlying t=some (.slice e))(hT:tyF P e=some (sz,ag,by',z))(ak:z.length=sz)(hx:ep L x=some v)(hy:ep L y=some u)
  (hv:vec e sz v n cs∈I) (hu:bj5 κ I sz u m ds) (h1:∀u∈ds,u.oneCell'=true) (ab:n+m<=maxLen) (ai:(n+m)*by'<=140737488355328) (hN:Nat.blt dd N.n=true) {I':Option Addr->Nat->List Item} (ah:∀ad c,At I (vec e sz v n cs) (vec e sz (.slice ad (n+m) c) (n+m)<|cs++ds)<|I' ad c) :
  Eff P κ N Q ⟨some dd,.call {callee:= .builtin .append,args:= #[x,y],argTypes:= #[t,t]},ty,ps,af,gd⟩ L I λL' I''=>∃ad c,L'=(dd,.slice ad (n+m) c)::L/\I''=I' ad c:=
 Eff.V2 rfl hN λa w ha hs=>by
  obtain ⟨v',w',hr,aj,ho,aa,E,ae,hk,hf⟩:=bm3 (P:=P) (ty:=ty) ht hT ak (hs.ok _ hv).1 (hu w hs) h1 ab ai
  obtain ⟨ad,c,rfl,M⟩:=aj
  refine ⟨_,w',I' ad c,by simp [execOp,resolve,invoke,builtin,ha.eval hx,ha.eval hy,hr],⟨ad,c,rfl,rfl⟩,?_⟩
  exact hs.upd (ah _ _) ho aa E ae hk ⟨ad,c,rfl,M⟩ hf
theorem Eff.makeSlice{x y:Operand}{n:Nat}(ht:P.underlying t=some (.slice e))(hT:tyF P e=some (sz,ag,by',z))(ak:z.length=sz)(hx:ep L x=some (e7 n))(hy:ep L y=some (e7 n))
  (ae:n<=maxLen) (ai:n*by'<=281474976710656) (hN:Nat.blt dd N.n=true) :
  Eff P κ N Q ⟨some dd,.makeSlice t x y,ty,ps,af,gd⟩ L I λL' I''=>∃ad c,L'=(dd,.slice ad n c)::L/\I''=vec e sz (.slice ad n c) n (List.replicate n z).flatten::I:=
 Eff.V2 rfl hN λa w ha hs=>by
  obtain ⟨v',w',hr,aj,ho,aa,E,ah,hk,hf⟩:=av5 (P:=P) (w:=w) ht hT ak n ae ai
  obtain ⟨ad,c,rfl,M⟩:=aj
  refine ⟨_,w',_,by simp [execOp,ha.eval hx,ha.eval hy,hr],⟨ad,c,rfl,rfl⟩,?_⟩
  refine hs.new (hs.frame ho aa E ah λx hx k ab=>hk k<|(hs.ok x hx).2 k ab) ⟨ad,c,rfl,M⟩ hf
theorem Eff.buildSlice{n:Nat}{M:List (Nat×Operand)}(ht:P.underlying t=some (.slice e))(hT:tyF P e=some (sz,ag,by',z))(E:z.length=sz)
  (hp:Q5 L (M.map (·.2))=some vs) (hn:0<n*sz) (ak:n*sz<=16777216)
  (hf:Instr.fill (λi=>some (i*sz,sz)) (List.replicate n z).flatten.toArray ((M.map (·.1)).zip vs)=some cells.toArray) (hl:cells.length=n*sz) (hN:Nat.blt dd N.n=true) :
  Eff P κ N Q ⟨some dd,.buildSlice t n M.toArray,ty,ps,af,gd⟩ L I λL' I''=>∃ad,L'=(dd,.slice ad n n)::L/\I''=vec e sz (.slice ad n n) n cells::I:=
 Eff.V2 rfl hN λa w ha hs=>by
  obtain ⟨zv,hz,ah⟩:=aa0 hT w
  have ai:M.map (λp=>(p.1,a.eval p.2))=(M.map (·.1)).zip vs:=by
   rw [←ha.Q5 hp]
   clear hp hf
   induction M with
   |nil=>rfl
   |cons p ps ih=>simp [ih]
  have ab:List.map (λx:Nat×Operand=>match x with |(i,x)=>(i,a.eval x)) M=(M.map (·.1)).zip vs:=ai
  have aa:(Array.range<|n*sz).map (λj=>zv.cells[j % zv.cells.size]!)=(List.replicate n z).flatten.toArray:=by
   apply Array.ext'
   simp only [Ny,Ni]
   rw [ah]
   apply List.ext_getElem?
   intro j
   simp only [Ks,Jv,E]
   by_cases hj:j<n*sz
   ·have hs:0<sz:=Lp λh=>by subst h;simp at hj
    rw [Mx hj]
    have aj:j % sz<z.length:=by rw [E];exact Na _ hs
    rw [ag3 z n j (by rw [E];exact hs) (by rw [E];exact hj),E]
    simp [aj]
   rw [Kk (by simpa using hj),Kk (by rw [bv8,E];omega)]
   rfl
  have h0:¬n*sz=0:=by omega
  have h1:¬16777216<n*sz:=by omega
  have ae:(Instr.buildSlice t n ((M.map (·.1)).zip vs).toArray).run P w = .ok (.slice (some ⟨w.heap.size,0,none⟩) n n) (w.alloc<|.cells cells.toArray e):=by
   simp [Instr.buildSlice,run_underlying ht,run_sizeOf hT,h0,h1,hz,aa,hf,newRow]
  refine ⟨.slice (some ⟨w.heap.size,0,none⟩) n n,_,_,by simp only [execOp,Ke,ab];rw [Sem.run_bind,ae];rfl,⟨_,rfl,rfl⟩,?_⟩
  refine hs.new (hs.alloc _) ⟨_,n,rfl,hl,Gk _,?_,λ_=>⟨w.heap.size,0,_,rfl,heap_alloc_new w _,by simp [hl],λj u hj=>by simpa using hj⟩⟩ λk hk=>?_
  ·have hs:0<sz:=Lp λh=>by subst h;simp at hn
   have:=Mj n hs
   simp only [maxLen];omega
  obtain ⟨o,n',c',he,an⟩:=hk
  cases he
  exact ⟨Gk _,by simp⟩
theorem by3{f: FuncId}(h : T8 P f = true) : ∃ fn, P.funcs[f]? = some fn ∧ (fn.name == "runtime.NumGoroutine") = false ∧ fn.body.isNone = false := by
 unfold T8 at h
 split at h
 ·rename_i fn hf
  simp at h
  exact ⟨fn,hf,by simpa using h.1,by
   cases hb:fn.body with
   |none=>simp [hb] at h
   |some _=>rfl⟩
 cases h
theorem ai6{f:FuncId}(h:T8 P f=true)(M:Array Value)(w:World):(callFunc f M).run P w = .ok (.enter f M) w:=by
 obtain ⟨fn,ab,E,aa⟩:=by3 h
 simp only [callFunc,Sem.run_bind,run_program,Result.andThen_ok,ab,E,aa,Mh,Me]
 rfl
theorem Eff.call{f:FuncId}{as:Array TypeId}{Post:Value->List Item->Prop}(hf:T8 P f=true)(hx:Q5 L xs=some vs)(hN:Nat.blt dd N.n=true)(hc:er P κ f vs I Post) :
  Eff P κ N Q ⟨some dd,.call {callee:= .value (.func f),args:=xs.toArray,argTypes:=as},ty,ps,af,gd⟩ L I λL' I''=>∃v J,Post v J/\L'=(dd,v)::L/\J=I'':=λa w ha hs=>by
 have he:(execOp a.eval ⟨some dd,.call {callee:= .value (.func f),args:=xs.toArray,argTypes:=as},ty,ps,af,gd⟩).run P w = .ok (.enter f vs.toArray) w:=by
  have e1:a.eval (.func f) = .func (.func f) #[] #[]:=rfl
  simp only [execOp,resolve,e1,Deferred.ofValue,invoke,Sem.run_bind,Sem.run_pure,Result.andThen_ok,Ke,ha.Q5 hx,ai6 hf]
  simp
 simp only [Oper.wp,he,Oper.upon]
 refine (hc w hs).mono λe w' ⟨v,J,E,hp,M⟩=>?_
 subst E
 exact ⟨_,_,⟨v,J,hp,rfl,rfl⟩,ha.put dd hN v,M⟩
theorem Eff.gu3{f:FuncId}{x:Operand}{first caps:List Value}{as:Array TypeId}{Post:Value->List Item->Prop}(hf:T8 P f=true)(E:ep L x=some (.func (.func f) first.toArray caps.toArray))
  (hx:Q5 L xs=some vs) (hN:Nat.blt dd N.n=true) (hc:er P κ f (first++vs++caps) I Post) :
  Eff P κ N Q ⟨some dd,.call {callee:= .value x,args:=xs.toArray,argTypes:=as},ty,ps,af,gd⟩ L I λL' I''=>∃v J,Post v J/\L'=(dd,v)::L/\J=I'':=λa w ha hs=>by
 have he:(execOp a.eval ⟨some dd,.call {callee:= .value x,args:=xs.toArray,argTypes:=as},ty,ps,af,gd⟩).run P w = .ok (.enter f (first++vs++caps).toArray) w:=by
  simp only [execOp,resolve,ha.eval E,Deferred.ofValue,invoke,Sem.run_bind,Sem.run_pure,Result.andThen_ok,Ke,ha.Q5 hx,ai6 hf]
  simp
 simp only [Oper.wp,he,Oper.upon]
 refine (hc w hs).mono λe w' ⟨v,J,aa,hp,M⟩=>?_
 subst aa
 exact ⟨_,_,⟨v,J,hp,rfl,rfl⟩,ha.put dd hN v,M⟩
def bs4(κ:Ctx)(Post:Value->List Item->Prop):Ending->World->Prop:=λe w'=>∃v J,e = .returned v/\Post v J/\Sep κ w' J
theorem er.enter{f:FuncId}{E:Func}{c:Code}{n:Nat}{Post:Value->List Item->Prop}(hf:P.funcs[f]? = some E)(hb:E.body=some c)(hN:E.ntmps=n)(hl:Nat.ble M.length n=true)(hL:bi8 0 M=L)
  (h:W P κ ⟨n,[]⟩ c (bodyPost P E<|bs4 κ Post) L I):er P κ f M I Post:=λw hs=>by
 refine calls_of_wp hf hb ?_
 rw [hN]
 subst hL
 exact h _ w (Ag.start M n<|by simpa using hl) hs
theorem V.ret1{M:Func}{t:Tmp}{Post:Value->List Item->Prop}(hr:M.results = #[.tmp t])(hv:look L t=some v)(J:List Item)(hf:Fit κ I J)(hp:Post v J)(h0:N.ds=[]:=by rfl):V κ N (bodyPost P M (bs4 κ Post)) .ret L I:=
 λa w E hs=>bodyPost_ret (v:=v) (by rw [results_tmp hr];simp [E.get t v hv]) (E.defers.trans h0) ⟨v,J,rfl,hp,hf w hs⟩
theorem V.ret2{t u:Tmp}{M:Value}{Post:Value->List Item->Prop}(hr:fn.results = #[.tmp t,.tmp u])(hv:look L t=some v)(E:look L u=some M)(J:List Item)(hf:Fit κ I J)(hp:Post (.tuple #[v,M]) J)(h0:N.ds=[]:=by rfl):V κ N (bodyPost P fn (bs4 κ Post)) .ret L I:=
 λa w ha hs=>bodyPost_ret (v:= .tuple #[v,M]) (by rw [results_tmp2 hr];simp [ha.get t v hv,ha.get u M E]) (ha.defers.trans h0) ⟨_,J,rfl,hp,hf w hs⟩
theorem V.gq0{M:Func}{Post:Value->List Item->Prop}(hr:M.results = #[])(J:List Item)(E:Fit κ I J)(hp:Post (.tuple #[]) J)(h0:N.ds=[]:=by rfl):V κ N (bodyPost P M (bs4 κ Post)) .ret L I:=
 λa w ha hs=>bodyPost_ret (v:= .tuple #[]) (by rw [results_none hr]) (ha.defers.trans h0) ⟨_,J,rfl,hp,E w hs⟩
theorem V.gq6{M:Func}{Post:Value->List Item->Prop}(hr:M.results = #[])(J:List Item)(E:Fit κ I J)(hp:Post (.tuple #[]) J)(h0:N.ds=[]:=by rfl):V κ N (bodyPost P M (bs4 κ Post)) .normal L I:=
 λa w ha hs=>bodyPost_end (v:= .tuple #[]) (by rw [results_none hr]) (ha.defers.trans h0) ⟨_,J,rfl,hp,E w hs⟩
theorem V.retc{t:Tmp}{T:Nat}{Post:Value->List Item->Prop}(hr:fn.results = #[.cell t T])(hT:tyF P T=some (sz,true,by',z))(hv:look L t=some ((pt b)))(hb:e8 b cs E∈I)(hl:cs.length=sz)
  (J:List Item) (hf:Fit κ I J) (hp:Post (.agg cs.toArray) J) (h0:N.ds=[]:=by rfl):V κ N (bodyPost P fn<|bs4 κ Post) .ret L I:=
 λa w ha hs=>by
  have aa:=λj=>V6 (w:=w) (hs.ok _ hb).1 j
  have M:(loadVar T ⟨b,0,none⟩).run P w = .ok (.agg cs.toArray) w:=G2 hT hl λj u hj=>by rw [y5,aa,←hj];simp
  refine bodyPost_ret (v:= .agg cs.toArray) ?_ (ha.defers.trans h0) ⟨_,J,rfl,hp,hf w hs⟩
  simp [results,hr,ha.get t _ hv,asAddr,M]
theorem V.gr6{t u:Tmp}{T:Nat}{v':Value}{Post:Value->List Item->Prop}(hr:fn.results = #[.cell t T,.tmp u])(hT:tyF P T=some (sz,true,by',z))(hv:look L t=some ((pt b)))(ab:look L u=some v')(hb:e8 b cs E∈I)
  (hl:cs.length=sz) (J:List Item) (hf:Fit κ I J) (hp:Post (.tuple #[.agg cs.toArray,v']) J) (h0:N.ds=[]:=by rfl):V κ N (bodyPost P fn<|bs4 κ Post) .ret L I:=
 λa w ha hs=>by
  have aa:=λj=>V6 (w:=w) (hs.ok _ hb).1 j
  have M:(loadVar T ⟨b,0,none⟩).run P w = .ok (.agg cs.toArray) w:=G2 hT hl λj u hj=>by rw [y5,aa,←hj];simp
  refine bodyPost_ret (v:= .tuple #[.agg cs.toArray,v']) ?_ (ha.defers.trans h0) ⟨_,J,rfl,hp,hf w hs⟩
  simp [results,hr,ha.get t _ hv,ha.get u _ ab,asAddr,M]
end
end Go.Sl
namespace Go.Sl
variable{i m:Int}{E T by' c dd e h j l n s t:Nat}{x y:Operand}{ag:Bool}{z:List Value}{u:Value}{I':List Item}{ad:Option Addr}
class Enc (α:Type) where
 enc:α->List Value
 sz:Nat
 pos:0<sz
 len:∀x,(enc x).length=sz
 one:∀x,∀u∈enc x,u.oneCell'=true
instance:Enc Bool:=⟨λb=>[.bool b],1,by omega,λ_=>rfl,λ_ u h=>by simp at h;subst h;rfl⟩
instance:Enc Int:=⟨λn=>[e7 n],1,by omega,λ_=>rfl,λ_ u h=>by simp at h;subst h;rfl⟩
def e_{α:Type}[Inhabited α](xs:List α)(i:Int):α:=xs.getD i.toNat default
theorem ax3{α:Type}[Inhabited α]{xs:List α}(M:0<=i)(hn:i<xs.length):e_ xs i=xs[i.toNat]'(by omega):=by
 simp [e_,Gs,Hd (show i.toNat<xs.length by omega)]
def cells{α:Type}[Enc α](xs:List α):List Value:=xs.flatMap Enc.enc
def Sl{α:Type}[Enc α](κ:Ctx)(I:List Item)(v:Value)(xs:List α):Prop:=bj5 κ I (Enc.sz α) v xs.length (cells xs)
def vc{α:Type}[Enc α](e:TypeId)(v:Value)(xs:List α):Item:=vec e (Enc.sz α) v xs.length (cells xs)
abbrev vq{α:Type}[Enc α](e:TypeId)(a:Option Addr)(c:Nat)(l:List α):Item:=vc e (.slice a l.length c) l
section
variable {α:Type}[Enc α]
theorem L4(x:α)(xs:List α):cells (x::xs)=Enc.enc x++cells xs:=rfl
theorem N3(xs ys:List α):cells (xs++ys)=cells xs++cells ys:=by simp [cells]
theorem n3(xs:List α):(cells xs).length=xs.length*Enc.sz α:=by
 induction xs with
 |nil=>simp [cells]
 |cons x xs ih=>rw [L4,A_,ih,Enc.len,Fu,Jk];omega
theorem cells_one(xs:List α):∀u∈cells xs,u.oneCell'=true:=λu E=>by
 obtain ⟨x,_,M⟩:=L_.1 E
 exact Enc.one x u M
theorem T5(xs:List α):∀(i j:Nat) (hi:i<xs.length),j<Enc.sz α->(cells xs)[i*Enc.sz α+j]? = (Enc.enc xs[i])[j]? :=by
 induction xs with
 |nil=>intro i j hi;simp at hi
 |cons x xs ih=>
  intro i j hi hj
  rw [L4]
  cases i with
  |zero=>
   rw [Hf (by rw [Enc.len];omega)]
   simp
  |succ i=>
   have e:(i+1)*Enc.sz α+j=Enc.sz α+(i*Enc.sz α+j):=by rw [Jk];omega
   rw [e,Hg (by rw [Enc.len];omega),Enc.len,Jj,ih i j (by simpa using hi) hj]
   simp
theorem U8(xs:List α)(i:Nat):cells (xs.take i)=(cells xs).take (i*Enc.sz α):=by
 induction xs generalizing i with
 |nil=>simp [cells]
 |cons x xs ih=>
  cases i with
  |zero=>simp [cells]
  |succ i=>
   have e:(i+1)*Enc.sz α=Enc.sz α+i*Enc.sz α:=by rw [Jk];omega
   have M:(Enc.enc x).take (Enc.sz α+i*Enc.sz α)=Enc.enc x:=Gb (by rw [Enc.len];omega)
   rw [List.take_succ_cons,L4,L4,ih,List.take_append,Enc.len,e,M,Jj]
theorem ae0(xs:List α)(i:Nat):cells (xs.drop i)=(cells xs).drop (i*Enc.sz α):=by
 induction xs generalizing i with
 |nil=>simp [cells]
 |cons x xs ih=>
  cases i with
  |zero=>simp [cells]
  |succ i=>
   have e:(i+1)*Enc.sz α=Enc.sz α+i*Enc.sz α:=by rw [Jk];omega
   have M:(Enc.enc x).drop (Enc.sz α+i*Enc.sz α)=[]:=Hb (by rw [Enc.len];omega)
   rw [List.drop_succ_cons,L4,ih,List.drop_append,Enc.len,e,M,Jj,List.nil_append]
theorem dy6(xs:List α)(i:Nat)(x:α)(hi:i<xs.length):(cells xs).take (i*Enc.sz α)++Enc.enc x++(cells xs).drop (i*Enc.sz α+Enc.sz α)=cells (xs.set i x):=by
 have M:xs.set i x=xs.take i++x::xs.drop (i+1):=Ml.trans (by rw [By hi])
 rw [M,N3,L4,U8,ae0,Jk,Nat.one_mul,H1]
variable {κ:Ctx}{I J:List Item}{v:Value}{xs:List α}
theorem Sl.fit(h:Sl κ I v xs)(M:Fit κ J I):Sl κ J v xs:=bj5.fit h M
theorem Sl.vec{e:TypeId}(h:vc e v xs∈I):Sl κ I v xs:=bj5.vec h
theorem Sl.nil(I:List Item):Sl κ I (.slice none 0 0) ([]:List α):=bj5.nil I _
theorem Sl.le(h:Sl κ I v xs):∀w,Sep κ w I->xs.length<=9223372036854775807:=λw hs=>by
 obtain ⟨_,_,_,_,E,M,_⟩:=h w hs
 simp only [maxLen] at M
 omega
end
section
variable {P:Program}{κ:Ctx}{N:Frm}{Q:Exit->Act->World->Prop}{L:Env}{I J:List Item}
variable {d:Option Tmp}{ty:TypeId}{ps:String}{af:Array Edge}{gd:Option (Nat×Bool)}
variable {α:Type}[Enc α]{v:Value}{xs:List α}
theorem j0.idx(ht:P.underlying T=some (.slice E))(M:tyF P E=some (Enc.sz α,ag,by',z))(hx:ep L x=some v)
  (hy:ep L y=some (e7 i)) (hv:Sl κ J v xs) (h0:0<=i) (hn:i<xs.length):j0 P κ N ⟨d,.indexAddr T x y,ty,ps,af,gd⟩ L J (s6 v<|i.toNat*Enc.sz α):=
 j0.indexAddr ht M hx hy hv h0 hn
theorem j0.gw9(ht:P.underlying T=some (.slice E))(hx:ep L x=some v)(M:Sl κ J v xs) :
  j0 P κ N ⟨d,.call {callee:= .builtin .len,args:= #[x],argTypes:= #[T]},ty,ps,af,gd⟩ L J (e7 xs.length):=j0.len ht hx M
theorem j0.get{xs:List Int}(hT:tyF P T=some (s,false,by',z))(hx:ep L x=some (s6 v (i.toNat*Enc.sz Int)))(M:Sl κ J v xs)(E:0<=i)(hn:i<xs.length) :
  j0 P κ N ⟨d,.load T x,ty,ps,af,gd⟩ L J (e7<|e_ xs i):=
 j0.bv7 hT hx M (by
  have:=T5 xs i.toNat 0 (by omega) (by decide)
  simp only [Kw] at this
  rw [this,ax3 E hn];rfl)
theorem j0.gx3{xs:List Bool}(hT:tyF P T=some (s,false,by',z))(hx:ep L x=some (s6 v (i.toNat*Enc.sz Bool)))(M:Sl κ J v xs)(E:0<=i)(hn:i<xs.length) :
  j0 P κ N ⟨d,.load T x,ty,ps,af,gd⟩ L J (.bool<|e_ xs i):=
 j0.bv7 hT hx M (by
  have:=T5 xs i.toNat 0 (by omega) (by decide)
  simp only [Kw] at this
  rw [this,ax3 E hn];rfl)
theorem j0.gx2[Inhabited α](hT:tyF P T=some (Enc.sz α,true,by',z))(hx:ep L x=some (s6 v (i.toNat*Enc.sz α)))(E:Sl κ J v xs)(h0:0<=i)(hn:i<xs.length) :
  j0 P κ N ⟨d,.load T x,ty,ps,af,gd⟩ L J (.agg (Enc.enc<|e_ xs i).toArray):=
 j0.dt7 hT hx E (by omega) (λj u hj=>by
  have M:j<Enc.sz α:=by rw [←Enc.len (e_ xs i)];exact (He.1 hj).1
  rw [T5 xs i.toNat j (by omega) M,←ax3 h0 hn];exact hj) (Enc.len _)
theorem j0.fld{k off m:Nat}(h:Q4 P T k=some off)(E:ep L x=some (s6 v m))(M:Sl κ J v xs)(hn:0<xs.length) :
  j0 P κ N ⟨d,.fieldAddr T x k,ty,ps,af,gd⟩ L J (s6 v<|m+off):=j0.dw0 h E M hn
theorem j0.gs9[Inhabited α](hT:tyF P T=some (s,false,by',z))(hx:ep L x=some (s6 v (i.toNat*Enc.sz α+j)))(hv:Sl κ J v xs)(h0:0<=i)(hn:i<xs.length)
  (E:(Enc.enc<|e_ xs i)[j]? = some u):j0 P κ N ⟨d,.load T x,ty,ps,af,gd⟩ L J u:=
 j0.bv7 hT hx hv (by
  have M:j<Enc.sz α:=by rw [←Enc.len (e_ xs i)];exact (He.1 E).1
  rw [T5 xs i.toNat j (by omega) M,←ax3 h0 hn];exact E)
theorem Eff.set{new:α}(hT:tyF P T=some (Enc.sz α,ag,by',z))(hx:ep L x=some (s6 v (i.toNat*Enc.sz α)))(hy:ep L y=some u)
  (E:cellsOf u=Enc.enc new) (h0:0<=i) (hn:i<xs.length) (M:At I (vc e v xs) (vc e v<|xs.set i.toNat new) I'):Eff P κ N Q ⟨none,.store T x y,ty,ps,af,gd⟩ L I λL' I''=>L'=L/\I''=I':=by
 have hs:=dy6 xs i.toNat new (by omega)
 have hl:=n3 xs
 refine Eff.ca9 (sz:=Enc.sz α) (n:=xs.length) (cs:=cells xs) (cs':=cells (xs.set i.toNat new)) (e:=e) hT hx hy E (Enc.len _) (Enc.one _) (by omega) ?_ ?_ ?_
 ·rw [Enc.len,hl]
  have:(i.toNat+1)*Enc.sz α<=xs.length*Enc.sz α:=Hs _ (by omega)
  rw [Jk] at this
  omega
 ·rw [Enc.len];exact hs
 have:=M
 unfold vc at this
 rw [Gd] at this
 exact this
theorem br4{α:Type}[Enc α]{new:α}(hj:j<Enc.sz α):∀(xs:List α) (i:Nat) (hi:i<xs.length),Enc.enc new=(Enc.enc xs[i]).set j u->(cells xs).set (i*Enc.sz α+j) u=cells (xs.set i new)
 |[],i,hi,_=>by simp at hi
 |x::xs,0,_,h=>by
  rw [List.set_cons_zero,L4,L4,h,List.set_append_left _ _<|by rw [Enc.len];omega,Nat.zero_mul,Lz];rfl
 |x::xs,i+1,hi,h=>by
  have e:(i+1)*Enc.sz α+j=Enc.sz α+(i*Enc.sz α+j):=by rw [Jk];omega
  rw [List.set_cons_succ,L4,L4,e,List.set_append_right _ _<|by rw [Enc.len];omega,Enc.len,Jj,br4 hj xs i (by simpa using hi) h]
theorem Eff.gg4[Inhabited α]{new:α}(hT:tyF P T=some (1,false,by',z))(hx:ep L x=some (s6 v (i.toNat*Enc.sz α+j)))(hy:ep L y=some u)
  (hu:cellsOf u=[u]) (h1:u.oneCell'=true) (hj:j<Enc.sz α) (M:Enc.enc new=(Enc.enc<|e_ xs i).set j u) (h0:0<=i) (hn:i<xs.length) (E:At I (vc e v xs) (vc e v<|xs.set i.toNat new) I'):Eff P κ N Q ⟨none,.store T x y,ty,ps,af,gd⟩ L I λL' I''=>L'=L/\I''=I':=by
 have hl:=n3 xs
 have hlt:i.toNat*Enc.sz α+j<(cells xs).length:=by
  rw [hl]
  have:(i.toNat+1)*Enc.sz α<=xs.length*Enc.sz α:=Hs _ (by omega)
  rw [Jk] at this
  omega
 have hs:=br4 (u:=u) (new:=new) hj xs i.toNat (by omega) (by rw [ax3 h0 hn] at M;exact M)
 refine Eff.ca9 (sz:=Enc.sz α) (n:=xs.length) (cs:=cells xs) (cs':=cells (xs.set i.toNat new)) (e:=e) hT hx hy hu C (λw hw=>by rw [Gj.1 hw];exact h1) (by omega) hlt ?_ ?_
 ·rw [←hs,Ml,By hlt];simp
 have:=E
 unfold vc at this
 rw [Gd] at this
 exact this
theorem Eff.app{ys:List α}(ht:P.underlying t=some (.slice e))(hT:tyF P e=some (Enc.sz α,ag,by',z))(ae:z.length=Enc.sz α)(hx:ep L x=some v)(hy:ep L y=some u)
  (hv:vc e v xs∈I) (hu:Sl κ I u ys) (aa:(xs.length+ys.length)*by'<=140737488355328) (M:0<by') (hN:Nat.blt dd N.n=true) {I':Option Addr->Nat->List Item} (E:∀ad c,At I (vc e v xs) (vc e (.slice ad (xs++ys).length c)<|xs++ys)<|I' ad c) :
  Eff P κ N Q ⟨some dd,.call {callee:= .builtin .append,args:= #[x,y],argTypes:= #[t,t]},ty,ps,af,gd⟩ L I λL' I''=>∃ad c,L'=(dd,.slice ad (xs++ys).length c)::L/\I''=I' ad c:=by
 have ab:xs.length+ys.length<=maxLen:=by
  have:=Mj (xs.length+ys.length) M
  simp only [maxLen];omega
 have h:=Eff.append (P:=P) (κ:=κ) (N:=N) (Q:=Q) (ty:=ty) (ps:=ps) (af:=af) (gd:=gd) (I':=I') ht hT ae hx hy hv hu (cells_one ys) ab aa hN λad c=>by
  have:=E ad c
  unfold vc at this
  rw [A_,N3] at this
  exact this
 rw [←A_] at h
 exact h
theorem bf4[Inhabited α]:∀(n:Nat),(List.replicate n (Enc.enc (default:α))).flatten=cells (List.replicate n (default:α))
 |0=>rfl
 |n+1=>by rw [List.replicate_succ,List.replicate_succ,L4,List.flatten_cons,bf4 n]
theorem Eff.make[Inhabited α](ht:P.underlying t=some (.slice e))(hT:tyF P e=some (Enc.sz α,ag,by',z))(hz:z=Enc.enc (default:α))(hx:ep L x=some (e7 m))(hy:ep L y=some (e7 m))(hm:m=(n:Int))
  (E:n*by'<=281474976710656) (M:0<by') (hN:Nat.blt dd N.n=true) :
  Eff P κ N Q ⟨some dd,.makeSlice t x y,ty,ps,af,gd⟩ L I λL' I''=>∃ad c,L'=(dd,.slice ad (List.replicate n (default:α)).length c)::L/\I''=vc e (.slice ad (List.replicate n (default:α)).length c) (List.replicate n (default:α))::I:=by
 subst hm
 have aa:n<=maxLen:=by
  have:=Mj n M
  simp only [maxLen];omega
 have h:=Eff.makeSlice (P:=P) (κ:=κ) (N:=N) (Q:=Q) (L:=L) (I:=I) (ty:=ty) (ps:=ps) (af:=af) (gd:=gd) ht hT (by rw [hz,Enc.len]) hx hy aa E hN
 have e:(List.replicate n z).flatten=cells (List.replicate n (default:α)):=by rw [hz,bf4]
 unfold vc
 rw [Fw]
 rw [e] at h
 exact h
def M0(ad:Option Addr)(c l sz:Nat):Option Addr:=if c=l then ad else ad.map (·.add (l*sz))
theorem Sl.take(hv:Sl κ I (.slice ad n c) xs)(hh:h<=xs.length):Sl κ I (.slice ad (xs.take h).length c) (xs.take h):=λw hs=>by
 obtain ⟨a,cap,he,h1,h2,h3,E⟩:=hv w hs
 cases he
 refine ⟨ad,c,rfl,n3 _,by rw [Fx];omega,h3,λM=>?_⟩
 obtain ⟨b,off,rfl,hr⟩:=E M
 refine ⟨b,off,rfl,λj u hj=>hr j u ?_⟩
 rw [U8,Jf] at hj
 split at hj
 ·exact hj
 cases hj
theorem Sl.drop(hv:Sl κ I (.slice ad n c) xs)(hl:l<=xs.length):Sl κ I (.slice (M0 ad c l (Enc.sz α)) (xs.drop l).length (c - l)) (xs.drop l):=λw hs=>by
 obtain ⟨a,cap,he,h1,h2,h3,M⟩:=hv w hs
 cases he
 refine ⟨_,c - l,rfl,by rw [n3,Ge],by rw [Ge];omega,by omega,λhc=>?_⟩
 obtain ⟨b,off,rfl,E⟩:=M (by omega)
 refine ⟨b,off+l*Enc.sz α,by unfold M0;rw [An (by omega)];simp [y5],λj u hj=>?_⟩
 rw [ae0,Jg] at hj
 rw [Mu]
 exact E _ u hj
theorem j0.hi(ht:P.underlying T=some (.slice E))(hE:tyF P E=some (Enc.sz α,ag,by',z))(hx:ep L x=some (.slice ad n c))(hy:ep L y=some (e7 m))(M:m=(h:Int))
  (hv:Sl κ J (.slice ad n c) xs) (hh:h<=xs.length):j0 P κ N ⟨d,.slice T x none (some y) none,ty,ps,af,gd⟩ L J (.slice ad (xs.take h).length c):=λa w ha hs=>by
 subst M
 obtain ⟨_,_,he,_,h2,_⟩:=hv w hs
 cases he
 have:=j0.slice (P:=P) (κ:=κ) (N:=N) (L:=L) (J:=J) (d:=d) (ty:=ty) (ps:=ps) (af:=af) (gd:=gd) (l:=0) (h:=h) ht hE hx (.inl ⟨rfl,rfl⟩) (.inr ⟨y,rfl,hy⟩) (Le _) (by omega) a w ha hs
 rw [this,Fx,Nat.min_eq_left hh]
 have e:(if c=0 then ad else ad.map (λx=>x.add<|0*Enc.sz α))=ad:=by
  split
  ·rfl
  cases ad<;>simp [Addr.add]
 rw [e]
 rfl
theorem j0.lo(ht:P.underlying T=some (.slice E))(hE:tyF P E=some (Enc.sz α,ag,by',z))(hx:ep L x=some (.slice ad n c))(hy:ep L y=some (e7 m))(M:m=(l:Int))
  (hv:Sl κ J (.slice ad n c) xs) (hl:l<=xs.length):j0 P κ N ⟨d,.slice T x (some y) none none,ty,ps,af,gd⟩ L J (.slice (M0 ad c l<|Enc.sz α) (xs.drop l).length (c - l)):=λa w ha hs=>by
 subst M
 obtain ⟨_,_,he,_,h2,_⟩:=hv w hs
 cases he
 rw [Ge]
 exact j0.slice (P:=P) (κ:=κ) (N:=N) (L:=L) (J:=J) (d:=d) (ty:=ty) (ps:=ps) (af:=af) (gd:=gd) (l:=l) ht hE hx (.inr ⟨y,rfl,hy⟩) (.inl ⟨rfl,rfl⟩) hl h2 a w ha hs
theorem Eff.bs{cs:List Value}{M:List (Nat×Operand)}{vs:List Value}{xs:List α}(ht:P.underlying t=some (.slice e))(hT:tyF P e=some (Enc.sz α,ag,by',z))(ab:z.length=Enc.sz α)
  (hp:Q5 L (M.map (·.2))=some vs) (hn:0<n) (aa:n*Enc.sz α<=16777216) (E:xs.length=n)
  (hf:Instr.fill (λi=>some (i*Enc.sz α,Enc.sz α)) (List.replicate n z).flatten.toArray ((M.map (·.1)).zip vs)=some cs.toArray) (hc:cs=cells xs) (hN:Nat.blt dd N.n=true) :
  Eff P κ N Q ⟨some dd,.buildSlice t n M.toArray,ty,ps,af,gd⟩ L I λL' I''=>∃ad,L'=(dd,.slice ad n n)::L/\I''=vc e (.slice ad n n) xs::I:=by
 have h:=Eff.buildSlice (P:=P) (κ:=κ) (N:=N) (Q:=Q) (L:=L) (I:=I) (ty:=ty) (ps:=ps) (af:=af) (gd:=gd) (cells:=cells xs) ht hT ab hp (Nat.mul_pos hn Enc.pos) aa (by rw [hf,hc]) (by rw [n3,E]) hN
 unfold vc
 rw [E]
 exact h
theorem Fit.gr9(e:TypeId)(J:List Item):Fit κ J (vc e (.slice none 0 0) ([]:List α)::J):=λw s=>s.dn5 e (Enc.sz α)
theorem Eff.clone{ys:List α}(ht:P.underlying t=some (.slice e))(hT:tyF P e=some (Enc.sz α,ag,by',z))(aa:z.length=Enc.sz α)(hx:ep L x=some (.slice none 0 0))(hy:ep L y=some u)
  (hu:Sl κ I u ys) (E:ys.length*by'<=140737488355328) (M:0<by') (hN:Nat.blt dd N.n=true) :
  Eff P κ N Q ⟨some dd,.call {callee:= .builtin .append,args:= #[x,y],argTypes:= #[t,t]},ty,ps,af,gd⟩ L I λL' I''=>∃ad c,L'=(dd,.slice ad ys.length c)::L/\I''=vc e (.slice ad ys.length c) ys::I:=by
 intro a w ha hs
 have h:=Eff.app (P:=P) (κ:=κ) (N:=N) (Q:=Q) (L:=L) (I:=vc e (.slice none 0 0) ([]:List α)::I) (ty:=ty) (ps:=ps) (af:=af) (gd:=gd) (xs:=[]) (dd:=dd) (I':=λad c=>vc e (.slice ad ([]++ys).length c) ([]++ys)::I) ht hT aa hx hy C_ (Sl.fit hu<|Fit.tail<|Fit.refl _) (by simpa using E) M hN (λ_ _=>At.head _ _ _)
 exact h a w ha<|hs.dn5 e<|Enc.sz α
theorem dp9{e:TypeId}{xs:List α}(hl:l<=xs.length):∀w,(vc e (.slice ad n c) xs).ok w->(vc e (.slice (M0 ad c l (Enc.sz α)) (xs.drop l).length (c - l)) (xs.drop l)).ok w/\
  ∀k,(vc e (.slice (M0 ad c l<|Enc.sz α) (xs.drop l).length (c - l))<|xs.drop l).fp k->(vc e (.slice ad n c) xs).fp k:=by
 intro w h
 obtain ⟨a,cap,hv,h1,h2,h3,h4⟩:=h
 cases hv
 refine ⟨⟨_,c - l,rfl,by rw [n3,Ge],by rw [Ge];omega,by omega,λhc=>?_⟩,λk hk=>?_⟩
 ·obtain ⟨b,off,cur,rfl,hb,ae,E⟩:=h4 (by omega)
  refine ⟨b,off+l*Enc.sz α,cur,by unfold M0;rw [An (by omega)];simp [y5],hb,?_,λj u hj=>?_⟩
  ·rw [Nat.sub_mul]
   have:l*Enc.sz α<=c*Enc.sz α:=Hs _ (by omega)
   omega
  rw [ae0,Jg] at hj
  rw [Mu]
  exact E _ _ hj
 obtain ⟨off,n',ab,hv,hc⟩:=hk
 simp only [Value.slice.injEq] at hv
 obtain ⟨M,ah,ai⟩:=hv
 obtain ⟨b,aa,cur,rfl,_⟩:=h4 (by omega)
 unfold M0 at M
 rw [An (by omega)] at M
 simp only [Option.map_some,y5,Ka,Addr.mk.injEq] at M
 exact ⟨aa,xs.length,c,by rw [←M.1],by omega⟩
theorem Fit.upd{x x':Item}{I:List Item}(M:At I x x' I')(h:∀w,x.ok w->x'.ok w/\∀k,x'.fp k->x.fp k):Fit κ I I':=λw hs=>
 hs.upd M rfl ⟨rfl,Gk _⟩ rfl (Gk _) (λ_ _ _=>rfl) (h w (hs.ok _ M.mem).1).1 λk E=> .inl ((h w (hs.ok _ M.mem).1).2 k E)
end
end Go.Sl
namespace Go.Sl
variable{I':List Item}{x:Operand}{E T b by' sz:Nat}{cs vs z:List Value}
theorem ab5.app{xs I:List Item}{x:Item}(h:ab5 I x I'):ab5 (xs++I) x (xs++I'):=by
 induction xs with
 |nil=>exact h
 |cons y xs ih=>exact ab5.tail y ih
theorem Sp.au8(xs I:List Item):Sp (xs++I) I:=by
 induction xs with
 |nil=>exact Sp.refl _
 |cons y xs ih=>exact Sp.skip y ih
section
variable {P:Program}{κ:Ctx}{N:Frm}{Q:Exit->Act->World->Prop}{L:Env}{I J:List Item}{ops:Array Oper}{o:Oper}{rest:List Oper}
theorem fi7{L:Env}{k:Nat}{m n:Int}(h:look L k=some (.int .i64 m):=by exact rfl)(e:m=n:=by first|omega|(dsimp only<;>omega)):look L k=some (.int .i64 n):=gj0 h e
theorem Fit.m(h:Fit κ I J:=by repeat (first|exact Fit.refl _|apply Fit.tail|exact Fit.au8 _ _|apply Fit.di0)):Fit κ I J:=h
theorem Fit.sub(h:J.Sublist I:=by repeat (first|exact Jm _|apply List.Sublist.cons_cons|apply List.Sublist.cons|exact Gv _ _)):Fit κ I J:=Fit.H8 h
theorem ta2{p:Prop}(h:p:=by repeat (first|exact ab5.head _ _|apply ab5.tail|apply ab5.app)):p:=h
theorem Fit.s(h:Sp I J:=by repeat (first|exact Sp.refl _|refine Sp.pick ta2 ?_|apply Sp.skip|exact Sp.au8 _ _)):Fit κ I J:=Fit.sp h
theorem G.e{R:Env->List Item->Prop}(M:Eff P κ N Q o L I R)(h:∀L' I',R L' I'->G P κ N ops Q rest L' I')(E:p8 N ops o L:=by exact p8.plain rfl):G P κ N ops Q (o::rest) L I:=G.eff E M h
theorem G.nt{y:Code}(h:W P κ N y Q L I):G P κ N ops (Exit.then (y.wp P Q) Q) [] L I:=G.nil (V.then h)
theorem W.sr{id:Nat}{l:List Oper}{y:Code}(h:G P κ N l.toArray (Exit.then (y.wp P Q) Q) l L I):W P κ N (.seq (.region id l.toArray false) y) Q L I:=W.seq (W.region h)
end
section
variable {α:Type}[Enc α]{κ:Ctx}{I J:List Item}{v:Value}{xs:List α}
theorem Sl.f(h:Sl κ I v xs)(M:Fit κ J I:=by repeat (first|exact Fit.refl _|apply Fit.tail|exact Fit.au8 _ _|apply Fit.di0)):Sl κ J v xs:=h.fit M
theorem Sl.o{e:TypeId}(h:vc e v xs∈I:=by repeat (first|exact C_|apply Fv)):Sl κ I v xs:=Sl.vec h
end
section
variable {P:Program}{κ:Ctx}{N:Frm}{Q:Exit->Act->World->Prop}{L:Env}{I J:List Item}
variable {d:Option Tmp}{ty:TypeId}{ps:String}{af:Array Edge}{gd:Option (Nat×Bool)}
theorem j0.gj9{P:Program}{κ:Ctx}{N:Frm}{L:Env}{J:List Item}{d:Option Tmp}{ty:TypeId}{ps:String}{af:Array Edge}{gd:Option (Nat×Bool)}{α:Type}[Enc α][Inhabited α]{v:Value}{xs:List α}{s:Nat}{i:Int}{u:Value}(hT:tyF P T=some (s,false,by',z))(E:ep L x=some (s6 v (i.toNat*Enc.sz α)))(hv:Sl κ J v xs)(h0:0<=i)(hn:i<xs.length)
  (M:(Enc.enc<|e_ xs i)[0]? = some u):j0 P κ N ⟨d,.load T x,ty,ps,af,gd⟩ L J u:=j0.gs9 (j:=0) hT E hv h0 hn M
theorem j0.ld{o:Nat}{v:Value}(hT:tyF P T=some (sz,false,by',z))(hx:ep L x=some (.pointer (some ⟨b,o,none⟩)):=by exact rfl)
  (hb:e8 b cs E∈J:=by repeat (first|exact C_|apply Fv)) (M:cs[o]? = some v:=by exact rfl):j0 P κ N ⟨d,.load T x,ty,ps,af,gd⟩ L J v:=j0.load hT hx hb M
theorem j0.lds{o:Nat}{vs:List Value}(hT:tyF P T=some (sz,true,by',z))(hx:ep L x=some (.pointer (some ⟨b,o,none⟩)):=by exact rfl)
  (hb:e8 b cs E∈J:=by repeat (first|exact C_|apply Fv)) (M:(cs.drop o).take sz=vs:=by exact rfl) (hl:vs.length=sz:=by exact rfl):j0 P κ N ⟨d,.load T x,ty,ps,af,gd⟩ L J (.agg vs.toArray):=j0.ao4 hT hx hb M hl
theorem j0.lj{o:Nat}{v0 v1 v2 v3 v4 v5 v6 v7 v8 v9 v10 v11 v12 v13 v14 v15 v16 v17 v18 v19 v20 v21 v22 v23 v24:Value}(hT:tyF P T=some (sz,true,by',z))(hx:ep L x=some (.pointer (some ⟨b,o,none⟩)):=by exact rfl)
  (hb:e8 b cs E∈J:=by repeat (first|exact C_|apply Fv)) (M:(cs.drop o).take sz=[v0,v1,v2,v3,v4,v5,v6,v7,v8,v9,v10,v11,v12,v13,v14,v15,v16,v17,v18,v19,v20,v21,v22,v23,v24]:=by exact rfl) (hl:[v0,v1,v2,v3,v4,v5,v6,v7,v8,v9,v10,v11,v12,v13,v14,v15,v16,v17,v18,v19,v20,v21,v22,v23,v24].length=sz:=by exact rfl):j0 P κ N ⟨d,.load T x,ty,ps,af,gd⟩ L J (.agg [v0,v1,v2,v3,v4,v5,v6,v7,v8,v9,v10,v11,v12,v13,v14,v15,v16,v17,v18,v19,v20,v21,v22,v23,v24].toArray):=j0.ao4 hT hx hb M hl
theorem Eff.st{y:Operand}{o E:Nat}{ag:Bool}{cs cs':List Value}{v:Value}{I':List Item}(hT:tyF P T=some (sz,ag,by',z))(hx:ep L x=some (.pointer (some ⟨b,o,none⟩)):=by exact rfl)(hy:ep L y=some v:=by exact rfl)
  (hv:cellsOf v=vs:=by exact rfl) (hl:vs.length=sz:=by exact rfl) (h1:z6 vs:=by repeat (first|exact z6.nil|refine z6.cons rfl ?_)) (M:At I (e8 b cs E) (e8 b cs' E) I':=by repeat (first|exact At.head _ _ _|apply At.tail)) (hr:o+vs.length<=cs.length:=by exact Ji rfl) (aa:cs.take o++vs++cs.drop (o+vs.length)=cs':=by exact rfl) :
  Eff P κ N Q ⟨none,.store T x y,ty,ps,af,gd⟩ L I λL' I''=>L'=L/\I''=I':=Eff.store hT hx hy hv hl h1.all hr aa M
theorem Eff.sk{y:Operand}{o E:Nat}{ag:Bool}{c0 c1 c2 c3 c4 c5 c6 c7 c8 c9 c10 c11 c12 c13 c14 c15 c16 c17 c18 c19 c20 c21 c22 c23 c24 w0 w1 w2 w3 w4 w5 w6 w7 w8 w9 w10 w11 w12 w13 w14 w15 w16 w17 w18 w19 w20 w21 w22 w23 w24 u0 u1 u2 u3 u4 u5 u6 u7 u8 u9 u10 u11 u12 u13 u14 u15 u16 u17 u18 u19 u20 u21 u22 u23 u24:Value}{v:Value}{I':List Item}(hT:tyF P T=some (sz,ag,by',z))(hx:ep L x=some (.pointer (some ⟨b,o,none⟩)):=by exact rfl)(hy:ep L y=some v:=by exact rfl)
  (hv:cellsOf v=[u0,u1,u2,u3,u4,u5,u6,u7,u8,u9,u10,u11,u12,u13,u14,u15,u16,u17,u18,u19,u20,u21,u22,u23,u24]:=by exact rfl) (hl:[u0,u1,u2,u3,u4,u5,u6,u7,u8,u9,u10,u11,u12,u13,u14,u15,u16,u17,u18,u19,u20,u21,u22,u23,u24].length=sz:=by exact rfl) (h1:z6 [u0,u1,u2,u3,u4,u5,u6,u7,u8,u9,u10,u11,u12,u13,u14,u15,u16,u17,u18,u19,u20,u21,u22,u23,u24]:=by repeat (first|exact z6.nil|refine z6.cons rfl ?_)) (M:At I (e8 b [c0,c1,c2,c3,c4,c5,c6,c7,c8,c9,c10,c11,c12,c13,c14,c15,c16,c17,c18,c19,c20,c21,c22,c23,c24] E) (e8 b [w0,w1,w2,w3,w4,w5,w6,w7,w8,w9,w10,w11,w12,w13,w14,w15,w16,w17,w18,w19,w20,w21,w22,w23,w24] E) I':=by repeat (first|exact At.head _ _ _|apply At.tail)) (hr:o+[u0,u1,u2,u3,u4,u5,u6,u7,u8,u9,u10,u11,u12,u13,u14,u15,u16,u17,u18,u19,u20,u21,u22,u23,u24].length<=[c0,c1,c2,c3,c4,c5,c6,c7,c8,c9,c10,c11,c12,c13,c14,c15,c16,c17,c18,c19,c20,c21,c22,c23,c24].length:=by exact Ji rfl) (aa:[c0,c1,c2,c3,c4,c5,c6,c7,c8,c9,c10,c11,c12,c13,c14,c15,c16,c17,c18,c19,c20,c21,c22,c23,c24].take o++[u0,u1,u2,u3,u4,u5,u6,u7,u8,u9,u10,u11,u12,u13,u14,u15,u16,u17,u18,u19,u20,u21,u22,u23,u24]++[c0,c1,c2,c3,c4,c5,c6,c7,c8,c9,c10,c11,c12,c13,c14,c15,c16,c17,c18,c19,c20,c21,c22,c23,c24].drop (o+[u0,u1,u2,u3,u4,u5,u6,u7,u8,u9,u10,u11,u12,u13,u14,u15,u16,u17,u18,u19,u20,u21,u22,u23,u24].length)=[w0,w1,w2,w3,w4,w5,w6,w7,w8,w9,w10,w11,w12,w13,w14,w15,w16,w17,w18,w19,w20,w21,w22,w23,w24]:=by exact rfl) :
  Eff P κ N Q ⟨none,.store T x y,ty,ps,af,gd⟩ L I λL' I''=>L'=L/\I''=I':=Eff.store hT hx hy hv hl h1.all hr aa M
end
end Go.Sl
