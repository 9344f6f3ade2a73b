/- A part of the proofs of statements of this seat: contracts of functions, and the plain laws that they lean on. No conditions. -/
import Derived.Test.YtoagcglbkeomgaaGreatDoorE0
import Derived.KernelRfl
set_option linter.unusedVariables false
set_option linter.unusedSimpArgs false
set_option linter.unusedSectionVars false
namespace Go.Sl
open Go.RowKit (Below)
variable{u v:Value}{c:Operand}{M cells cs cs' vs z:List Value}{E b by' dd e o off s sz t:Nat}{w:World}{ag:Bool}{ad:Option Addr}{I':List Item}{xs:List Operand}{fn:Func}
def InR(n:Int):Prop:= -9223372036854775808<=n/\n<=9223372036854775807
theorem InR.wrap{n:Int}(h:InR n):IntKind.i64.wrap n=n:=Go.IntWalk.i64_in _ h
def U2(P:Program)(T:TypeId)(k:Nat):Option Nat:=
 match P.underlying T with
 |some (.struct fs)=>(fs[k]?).bind λf=>(P.info? f.type).bind λi=>if i.size=0 then none else some f.offset
 |_=>none
def V3(P:Program)(f:FuncId):Bool:=
 match P.funcs[f]? with
 | some fn => !(fn.name == "runtime.NumGoroutine") && fn.body.isSome
 |none=>false
def T6(L:Env):List Operand->Option (List Value)
 |[]=>some []
 |x::xs=>match er L x,T6 L xs with
  |some v,some vs=>some (v::vs)
  |_,_=>none
section
variable {P:Program}{κ:Ctx}{N:Frm}{Q:Exit->Act->World->Prop}{L:Env}{I J:List Item}
variable {d:Option Tmp}{ty:TypeId}{ps:String}{af:Array Edge}{gd:Option (Nat×Bool)}
theorem Ag.T6{a:Act}(M:Ag N a L):∀{xs:List Operand} {vs:List Value},T6 L xs=some vs->xs.map a.eval=vs
 |[],vs,h=>by simp [Sl.T6] at h;simp [h]
 |x::xs,vs,h=>by
  simp only [Sl.T6] at h
  split at h
  ·rename_i v vs' h1 h2
   simp only [Jt] at h
   subst h
   simp [M.eval h1,Ag.T6 M h2]
  cases h
theorem j7.move{x:Operand}(M:er L x=some v):j7 P κ N ⟨d,.move x,ty,ps,af,gd⟩ L J v:=λa w ha _=>by simp [execOp,ha.eval M]
theorem j7.assign{x:Operand}(M:er L x=some v):j7 P κ N ⟨d,.assign x,ty,ps,af,gd⟩ L J v:=λa w ha _=>by simp [execOp,ha.eval M]
section ints
variable {x y:Operand}{k:IntKind}{m n:Int}{T U:TypeId}
theorem j7.gj8(hx:er L x=some (.int k m))(hy:er L y=some (.int k n)):j7 P κ N ⟨d,.binOp .add T x y U,ty,ps,af,gd⟩ L J (.int k (k.wrap (m+n))):=
 λa w M _=>by simp only [execOp,M.eval hx,M.eval hy];simp [go_sem,Op.intArith]
theorem j7.gd1(hx:er L x=some (.int k m))(hy:er L y=some (.int k n)):j7 P κ N ⟨d,.binOp .sub T x y U,ty,ps,af,gd⟩ L J (.int k (k.wrap (m - n))):=
 λa w M _=>by simp only [execOp,M.eval hx,M.eval hy];simp [go_sem,Op.intArith]
theorem j7.gj1(hx:er L x=some (.int k m))(hy:er L y=some (.int k n)):j7 P κ N ⟨d,.binOp .mul T x y U,ty,ps,af,gd⟩ L J (.int k (k.wrap (m*n))):=
 λa w M _=>by simp only [execOp,M.eval hx,M.eval hy];simp [go_sem,Op.intArith]
theorem j7.rem(hx:er L x=some (.int k m))(hy:er L y=some (.int k n))(h0:n≠0):j7 P κ N ⟨d,.binOp .rem T x y U,ty,ps,af,gd⟩ L J (.int k (m.tmod n)):=
 λa w M _=>by simp only [execOp,M.eval hx,M.eval hy];simp [go_sem,Op.intDiv,h0]
theorem j7.quow(hx:er L x=some (.int k m))(hy:er L y=some (.int k n))(h0:n≠0):j7 P κ N ⟨d,.binOp .quo T x y U,ty,ps,af,gd⟩ L J (.int k (k.wrap (m.tdiv n))):=
 λa w M _=>by simp only [execOp,M.eval hx,M.eval hy];simp [go_sem,Op.intDiv,h0]
theorem j7.add(M:er L x=some (e7 m))(hy:er L y=some (e7 n))(hr:InR (m+n)):j7 P κ N ⟨d,.binOp .add T x y U,ty,ps,af,gd⟩ L J (e7 (m+n)):=by
 have h:=j7.gj8 (P:=P) (κ:=κ) (N:=N) (J:=J) (d:=d) (ty:=ty) (ps:=ps) (af:=af) (gd:=gd) (T:=T) (U:=U) M hy
 rwa [hr.wrap] at h
theorem j7.sub(M:er L x=some (e7 m))(hy:er L y=some (e7 n))(hr:InR (m - n)):j7 P κ N ⟨d,.binOp .sub T x y U,ty,ps,af,gd⟩ L J (e7 (m - n)):=by
 have h:=j7.gd1 (P:=P) (κ:=κ) (N:=N) (J:=J) (d:=d) (ty:=ty) (ps:=ps) (af:=af) (gd:=gd) (T:=T) (U:=U) M hy
 rwa [hr.wrap] at h
theorem j7.mul(M:er L x=some (e7 m))(hy:er L y=some (e7 n))(hr:InR (m*n)):j7 P κ N ⟨d,.binOp .mul T x y U,ty,ps,af,gd⟩ L J (e7 (m*n)):=by
 have h:=j7.gj1 (P:=P) (κ:=κ) (N:=N) (J:=J) (d:=d) (ty:=ty) (ps:=ps) (af:=af) (gd:=gd) (T:=T) (U:=U) M hy
 rwa [hr.wrap] at h
theorem j7.lss(hx:er L x=some (.int k m))(hy:er L y=some (.int k n)):j7 P κ N ⟨d,.binOp .lss T x y U,ty,ps,af,gd⟩ L J (.bool (decide (m<n))):=
 λa w M _=>by simp only [execOp,M.eval hx,M.eval hy];simp [go_sem]
theorem j7.leq(hx:er L x=some (.int k m))(hy:er L y=some (.int k n)):j7 P κ N ⟨d,.binOp .leq T x y U,ty,ps,af,gd⟩ L J (.bool (decide (m<=n))):=
 λa w M _=>by simp only [execOp,M.eval hx,M.eval hy];simp [go_sem]
theorem j7.gtr(hx:er L x=some (.int k m))(hy:er L y=some (.int k n)):j7 P κ N ⟨d,.binOp .gtr T x y U,ty,ps,af,gd⟩ L J (.bool (decide (n<m))):=
 λa w M _=>by simp only [execOp,M.eval hx,M.eval hy];simp [go_sem]
theorem j7.geq(hx:er L x=some (.int k m))(hy:er L y=some (.int k n)):j7 P κ N ⟨d,.binOp .geq T x y U,ty,ps,af,gd⟩ L J (.bool (decide (n<=m))):=
 λa w M _=>by simp only [execOp,M.eval hx,M.eval hy];simp [go_sem]
theorem j7.eql(hx:er L x=some (.int k m))(hy:er L y=some (.int k n)):j7 P κ N ⟨d,.binOp .eql T x y U,ty,ps,af,gd⟩ L J (.bool (decide (m=n))):=
 λa w M _=>by simp only [execOp,M.eval hx,M.eval hy];simp [go_sem];rfl
theorem j7.neq(hx:er L x=some (.int k m))(hy:er L y=some (.int k n)):j7 P κ N ⟨d,.binOp .neq T x y U,ty,ps,af,gd⟩ L J (.bool (decide (m≠n))):=
 λa w M _=>by
  simp only [execOp,M.eval hx,M.eval hy]
  simp [go_sem]
  by_cases h:m=n<;>simp [h]
theorem j7.min(hx:er L x=some (.int k m))(hy:er L y=some (.int k n)){as:Array TypeId} :
  j7 P κ N ⟨d,.call {callee:= .builtin .min,args:= #[x,y],argTypes:=as},ty,ps,af,gd⟩ L J (.int k (if n<m then n else m)):=
 λa w M _=>by simp [execOp,resolve,invoke,builtin,M.eval hx,M.eval hy,Builtin.min_,Builtin.min2]
theorem j7.max(hx:er L x=some (.int k m))(hy:er L y=some (.int k n)){as:Array TypeId} :
  j7 P κ N ⟨d,.call {callee:= .builtin .max,args:= #[x,y],argTypes:=as},ty,ps,af,gd⟩ L J (.int k (if m<n then n else m)):=
 λa w M _=>by simp [execOp,resolve,invoke,builtin,M.eval hx,M.eval hy,Builtin.max_,Builtin.max2]
end ints
theorem j7.not{x:Operand}{b:Bool}{T:TypeId}(M:er L x=some (.bool b)):j7 P κ N ⟨d,.unOp .not T x,ty,ps,af,gd⟩ L J (.bool !b):=
 λa w ha _=>by simp [execOp,ha.eval M,Op.unary]
theorem j7.fm6{x:Operand}{p:Prop}[Decidable p]{T:TypeId}(M:er L x=some (.bool (decide p))):j7 P κ N ⟨d,.unOp .not T x,ty,ps,af,gd⟩ L J (.bool (decide ¬p)):=
 λa w ha _=>by simp [execOp,ha.eval M,Op.unary]
theorem j7.fx2{x y:Operand}(hc:er L c=some (.bool true))(hx:er L x=some v):j7 P κ N ⟨d,.pick c x y,ty,ps,af,gd⟩ L J v:=
 λa w M _=>by simp [execOp,M.eval hc,M.eval hx,asBool]
theorem j7.fx3{x y:Operand}(hc:er L c=some (.bool false))(hy:er L y=some v):j7 P κ N ⟨d,.pick c x y,ty,ps,af,gd⟩ L J v:=
 λa w M _=>by simp [execOp,M.eval hc,M.eval hy,asBool]
theorem j7.nilCheck{x:Operand}{p:Addr}(M:er L x=some (.pointer (some p))):j7 P κ N ⟨d,.nilCheck x,ty,ps,af,gd⟩ L J (.pointer (some p)):=
 λa w ha _=>by simp [execOp,ha.eval M]
theorem j7.extract{x:Operand}{vs:Array Value}{i:Nat}(M:er L x=some (.tuple vs))(hv:vs[i]? = some v):j7 P κ N ⟨d,.extract x i,ty,ps,af,gd⟩ L J v:=
 λa w ha _=>by simp [execOp,ha.eval M,Instr.extract,hv]
theorem j7.makeFunc{M:Fn}{first cap:List Operand}{us:List Value}(h1:T6 L first=some vs)(h2:T6 L cap=some us):j7 P κ N ⟨d,.makeFunc M first.toArray cap.toArray,ty,ps,af,gd⟩ L J (.func M vs.toArray us.toArray):=
 λa w ha _=>by simp [execOp,Instr.makeFunc,ha.T6 h1,ha.T6 h2]
theorem di9{T k:Nat}(h:U2 P T k=some off):∃fs f i,P.underlying T=some (.struct fs)/\fs[k]? = some f/\P.info? f.type=some i/\i.size≠0/\f.offset=off:=by
 unfold U2 at h
 split at h
 ·rename_i fs hu
  cases hf:fs[k]? with
  |none=>simp [hf] at h
  |some f=>
   cases hi:P.info? f.type with
   |none=>simp [hf,hi] at h
   |some i=>
    simp [hf,hi] at h
    exact ⟨fs,f,i,hu,hf,hi,h.1,h.2⟩
 cases h
theorem bc5{T k:Nat}(h:U2 P T k=some off)(p:Addr)(w:World):(Instr.fieldAt T (.pointer (some p)) k).run P w = .ok (.pointer (some (p.add off))) w:=by
 obtain ⟨fs,f,i,hu,hf,hi,M,ho⟩:=di9 h
 subst ho
 simp [Instr.fieldAt,run_underlying hu,hf,Instr.sureAddr,fieldPlace,sizeOf,typeInfo,hi,M]
theorem j7.fieldAddr{x:Operand}{T k:Nat}(h:U2 P T k=some off)(M:er L x=some (.pointer (some ⟨b,o,none⟩))) :
  j7 P κ N ⟨d,.fieldAddr T x k,ty,ps,af,gd⟩ L J (.pointer<|some ⟨b,o+off,none⟩):=
 λa w ha _=>by simp [execOp,ha.eval M,bc5 h,G9]
theorem da4.some{n:Nat}(h:da4 w sz v n cs)(hn:0<n):∃b off cap,v = .slice (some ⟨b,off,none⟩) n cap/\∀j u,cs[j]? = some u->w.cell? ⟨b,off+j,none⟩=some u:=by
 obtain ⟨a,cap,rfl,h1,h2,h3,h4⟩:=h
 obtain ⟨b,off,rfl,M⟩:=h4 (by omega)
 exact ⟨b,off,cap,rfl,M⟩
theorem j7.dj7{x:Operand}{T k m n:Nat}(h:U2 P T k=some off)(hx:er L x=some (F1 v m))(hv:au2 κ J sz v n cs)(hn:0<n) :
  j7 P κ N ⟨d,.fieldAddr T x k,ty,ps,af,gd⟩ L J (F1 v<|m+off):=
 λa w M hs=>by
  obtain ⟨b,o,cap,rfl,_⟩:=(hv w hs).some hn
  simp [execOp,M.eval hx,F1,bc5 h,G9,Mh]
theorem j7.indexAddr{x y:Operand}{T n:Nat}{i:Int}(ht:P.underlying T=some (.slice E))(hE:tyF P E=some (sz,ag,by',z))(hx:er L x=some v)
  (hy:er L y=some (e7 i)) (hv:au2 κ J sz v n cs) (h0:0<=i) (hn:i<n):j7 P κ N ⟨d,.indexAddr T x y,ty,ps,af,gd⟩ L J (F1 v<|i.toNat*sz):=
 λa w M hs=>by
  obtain ⟨b,o,cap,rfl,_⟩:=(hv w hs).some (by omega)
  simp [execOp,M.eval hx,M.eval hy,Instr.indexAt,asIntOf,run_underlying ht,h0,hn,run_sizeOf hE,F1]
theorem j7.len{x:Operand}{T n:Nat}(ht:P.underlying T=some (.slice E))(M:er L x=some v)(hv:au2 κ J sz v n cs) :
  j7 P κ N ⟨d,.call {callee:= .builtin .len,args:= #[x],argTypes:= #[T]},ty,ps,af,gd⟩ L J (e7 n):=
 λa w ha hs=>by
  obtain ⟨ad,cap,rfl,_⟩:=hv w hs
  simp [execOp,resolve,invoke,builtin,ha.eval M,Builtin.len_,run_underlying ht,goInt]
theorem j7.lens{x:Operand}{T n c:Nat}(ht:P.underlying T=some (.slice E))(M:er L x=some (.slice ad n c)) :
  j7 P κ N ⟨d,.call {callee:= .builtin .len,args:= #[x],argTypes:= #[T]},ty,ps,af,gd⟩ L J (e7 n):=
 λa w ha hs=>by
  simp [execOp,resolve,invoke,builtin,ha.eval M,Builtin.len_,run_underlying ht,goInt]
theorem j7.load{x:Operand}{T:Nat}(hT:tyF P T=some (sz,false,by',z))(M:er L x=some (.pointer (some ⟨b,o,none⟩)))(hb:e8 b cs E∈J)(hc:cs[o]? = some v) :
  j7 P κ N ⟨d,.load T x,ty,ps,af,gd⟩ L J v:=
 λa w ha hs=>by
  have:=am2 (w:=w) (hs.ok _ hb).1 o
  simp [execOp,ha.eval M,Instr.loadAt,Instr.sureAddr,aa2 hT<|this.trans hc]
theorem j7.ar6{x:Operand}{T:Nat}(hT:tyF P T=some (sz,true,by',z))(hx:er L x=some (.pointer (some ⟨b,o,none⟩)))(hb:e8 b cs E∈J)(hc:(cs.drop o).take sz=vs)(hl:vs.length=sz) :
  j7 P κ N ⟨d,.load T x,ty,ps,af,gd⟩ L J (.agg vs.toArray):=
 λa w ha hs=>by
  have M:=λj=>am2 (w:=w) (hs.ok _ hb).1 j
  have:(loadVar T ⟨b,o,none⟩).run P w = .ok (.agg vs.toArray) w:=aa0 hT hl λj u hj=>by
   rw [G9,M,←hj,←hc,Jf,B_<|by have:=(G_.1 hj).1;omega,Jw]
  simp [execOp,ha.eval hx,Instr.loadAt,Instr.sureAddr,this]
theorem j7.br0{x:Operand}{T n k:Nat}(hT:tyF P T=some (s,false,by',z))(hx:er L x=some (F1 v k))(hv:au2 κ J sz v n cs)(hc:cs[k]? = some u) :
  j7 P κ N ⟨d,.load T x,ty,ps,af,gd⟩ L J u:=
 λa w ha hs=>by
  have hn:0<n:=Kz λh=>by
   obtain ⟨_,_,_,M,_⟩:=hv w hs
   have:=(G_.1 hc).1
   subst h
   simp at M
   simp [M] at this
  obtain ⟨b,o,cap,rfl,hr⟩:=(hv w hs).some hn
  simp [execOp,ha.eval hx,F1,G9,Instr.loadAt,Instr.sureAddr,aa2 hT<|hr k u hc]
theorem j7.dg4{x:Operand}{T n k:Nat}(hT:tyF P T=some (s,true,by',z))(hx:er L x=some (F1 v k))(hv:au2 κ J sz v n cs)(hn:0<n)(hc:∀j u,M[j]? = some u->cs[k+j]? = some u)
  (hl:M.length=s):j7 P κ N ⟨d,.load T x,ty,ps,af,gd⟩ L J (.agg M.toArray):=
 λa w ha hs=>by
  obtain ⟨b,o,cap,rfl,hr⟩:=(hv w hs).some hn
  have:(loadVar T ⟨b,o+k,none⟩).run P w = .ok (.agg M.toArray) w:=aa0 hT hl λj u hj=>by
   rw [G9,Mh]
   exact hr (k+j) u<|hc j u hj
  simp [execOp,ha.eval hx,F1,G9,Instr.loadAt,Instr.sureAddr,this]
def J2(P:Program)(T:TypeId):Sem (Array (Nat×Nat)):=
 match P.underlying T with
 |some (.struct fs)=>fs.mapM λf=>do pure (f.offset,←sizeOf f.type)
 |_=>pure #[]
theorem j7.build{T:Nat}{fs:Array Field}{M:List (Nat×Operand)}{aa:Array (Nat×Nat)}(hT:tyF P T=some (sz,ag,by',z))(ht:P.underlying T=some (.struct fs))
  (ai:∀w:World,(J2 P T).run P w = .ok aa w)
  (hp:T6 L (M.map (·.2))=some vs) (hf:Instr.fill (aa[·]?) z.toArray ((M.map (·.1)).zip vs)=some cells.toArray):j7 P κ N ⟨d,.build T M.toArray,ty,ps,af,gd⟩ L J (.agg cells.toArray):=
 λa w ha hs=>by
  obtain ⟨zv,hz,ah⟩:=aa1 hT w
  have ae:M.map (λp=>(p.1,a.eval p.2))=(M.map (·.1)).zip vs:=by
   rw [←ha.T6 hp]
   clear hp hf
   induction M with
   |nil=>rfl
   |cons p ps ih=>simp [ih]
  have ab:List.map (λx:Nat×Operand=>match x with |(i,x)=>(i,a.eval x)) M=(M.map (·.1)).zip vs:=ae
  have ad:=ai w
  simp only [J2,ht] at ad
  simp only [execOp,Instr.build,Sem.run_bind,hz,Result.andThen_ok,run_underlying ht,ad,Jq,ab,ah,hf,Sem.run_pure]
theorem j7.slice{x:Operand}{T n c l h:Nat}{lo hi:Option Operand}(ht:P.underlying T=some (.slice E))(hE:tyF P E=some (sz,ag,by',z))(hx:er L x=some (.slice ad n c))
  (ai:(lo=none/\l=0)\/∃y,lo=some y/\er L y=some (e7 l)) (ae:(hi=none/\h=n)\/∃y,hi=some y/\er L y=some (e7 h)) (M:l<=h) (aa:h<=c) :
  j7 P κ N ⟨d,.slice T x lo hi none,ty,ps,af,gd⟩ L J (.slice (if c=l then ad else ad.map (·.add (l*sz))) (h - l)<|c - l):=
 λa w ha hs=>by
  have h1:((l:Int)<=(h:Int)):=by omega
  have h2:((h:Int)<=(c:Int)):=by omega
  have ah:(Instr.sliceBounds true n c (lo.map a.eval) (hi.map a.eval) none).run P w = .ok (l,h,c) w:=by
   rcases ai with ⟨rfl,rfl⟩|⟨y,rfl,hy⟩<;>rcases ae with ⟨rfl,rfl⟩|⟨y',rfl,ab⟩
   ·simp [Instr.sliceBounds]
   ·simp [Instr.sliceBounds,ha.eval ab,Instr.sliceBound,asIntOf,aa]
   ·simp [Instr.sliceBounds,ha.eval hy,Instr.sliceBound,asIntOf,M]
   simp [Instr.sliceBounds,ha.eval hy,ha.eval ab,Instr.sliceBound,asIntOf,M,aa]
  simp [execOp,Instr.sliceAt,Instr.slice,run_underlying ht,ha.eval hx,ah,run_sizeOf hE]
def G6:List Value->Prop
 |[]=>True
 |v::vs=>v.oneCell'=true/\G6 vs
theorem G6.nil:G6 []:=trivial
theorem G6.cons(h:v.oneCell'=true)(t:G6 vs):G6 (v::vs):=⟨h,t⟩
theorem G6.all:∀{vs:List Value},G6 vs->∀u∈vs,u.oneCell'=true
 |[],_,u,hu=>by cases hu
 |v::vs,h,u,hu=>by
  rcases Fy.1 hu with rfl|hu
  ·exact h.1
  exact G6.all h.2 u hu
theorem Eff.Q4{o:Oper}{R:Env->List Item->Prop}(hd:o.dst=some dd)(hN:Nat.blt dd N.n=true)
  (h:∀a w,Ag N a L->Sep κ w I->∃v w' I',(execOp a.eval o).run P w = .ok (.value v) w'/\R ((dd,v)::L) I'/\Sep κ w' I'):Eff P κ N Q o L I R:=λa w ha hs=>by
 obtain ⟨v,w',I',hr,hR,M⟩:=h a w ha hs
 simp only [Oper.wp,hr,Oper.upon,hd]
 exact ⟨_,_,hR,ha.put dd hN v,M⟩
theorem Eff.bq5{o:Oper}{R:Env->List Item->Prop}(hd:o.dst=none)
  (h:∀a w,Ag N a L->Sep κ w I->∃w' I',(execOp a.eval o).run P w = .ok .skip w'/\R L I'/\Sep κ w' I'):Eff P κ N Q o L I R:=λa w ha hs=>by
 obtain ⟨w',I',hr,hR,M⟩:=h a w ha hs
 simp only [Oper.wp,hr,Oper.upon,hd]
 exact ⟨_,_,hR,ha,M⟩
theorem bk0(hs:Sep κ w I)(cs:List Value)(T:TypeId):Sep κ (w.alloc (.cells cs.toArray T)) (e8 w.heap.size cs T::I):=
 hs.new (hs.alloc _) (heap_alloc_new w _) λk M=>by obtain rfl:k=_:=M;exact ⟨Gg _,by simp⟩
theorem Eff.alloc{T:Nat}(hT:tyF P T=some (sz,ag,by',z))(hN:Nat.blt dd N.n=true) :
  Eff P κ N Q ⟨some dd,.alloc T,ty,ps,af,gd⟩ L I λL' I'=>∃b,L'=(dd,pt b)::L/\I'=e8 b z T::I:=
 Eff.Q4 rfl hN λa w ha hs=>by
  obtain ⟨zv,hz,M⟩:=aa1 hT w
  exact ⟨_,_,_,by simp [execOp,Instr.alloc,hz,newVar,newRow,M],⟨_,rfl,rfl⟩,bk0 hs z T⟩
theorem Eff.box{x:Operand}{T:Nat}(hx:er L x=some v)(hc:cellsOf v=cs)(hN:Nat.blt dd N.n=true) :
  Eff P κ N Q ⟨some dd,.box T x,ty,ps,af,gd⟩ L I λL' I'=>∃b,L'=(dd,pt b)::L/\I'=e8 b cs T::I:=
 Eff.Q4 rfl hN λa w ha hs=>by
  have M:v.cells=cs.toArray:=by rw [←hc];simp [cellsOf]
  exact ⟨_,_,_,by simp [execOp,Instr.box,ha.eval hx,newVar,newRow,M],⟨_,rfl,rfl⟩,bk0 hs cs T⟩
theorem Eff.store{x y:Operand}{T:Nat}(hT:tyF P T=some (sz,ag,by',z))(hx:er L x=some (.pointer (some ⟨b,o,none⟩)))(hy:er L y=some v)
  (hv:cellsOf v=vs) (hl:vs.length=sz) (h1:∀u∈vs,u.oneCell'=true) (hr:o+vs.length<=cs.length) (ad:cs.take o++vs++cs.drop (o+vs.length)=cs') (M:At I (e8 b cs E) (e8 b cs' E) I') :
  Eff P κ N Q ⟨none,.store T x y,ty,ps,af,gd⟩ L I λL' I''=>L'=L/\I''=I':=
 Eff.bq5 rfl λa w ha hs=>by
  have hb:=(hs.ok _ M.mem).1
  have aa:=ax8 hT hv hl h1 hb hr
  rw [ad] at aa
  refine ⟨_,I',by simp [execOp,ha.eval hx,ha.eval hy,Instr.storeAt,Instr.sureAddr,aa];rfl,⟨rfl,rfl⟩,?_⟩
  exact hs.upd M rfl ⟨rfl,Gg _⟩ rfl (by simp) (λk _ ab=>setRow_other w b k _ λe=>ab e) (setRow_heap w b cs.toArray _ E _ hb) λk hk=> .inl hk
theorem au6.some{n:Nat}(h:au6 w e sz v n cs)(hn:0<n) :
  ∃b off cap M,v = .slice (some ⟨b,off,none⟩) n cap/\cs.length=n*sz/\n<=cap/\cap<=maxLen/\w.heap[b]? = some (.cells M e (0,0))/\off+cap*sz<=M.size/\∀j u,cs[j]? = some u->M[off+j]? = some u:=by
 obtain ⟨a,cap,rfl,h1,h2,h3,h4⟩:=h
 obtain ⟨b,off,M,rfl,h5,h6,h7⟩:=h4 (by omega)
 exact ⟨b,off,cap,M,rfl,h1,h2,h3,h5,h6,h7⟩
theorem Eff.dc1{x y:Operand}{T n k:Nat}(hT:tyF P T=some (s,ag,by',z))(hx:er L x=some (F1 v k))(hy:er L y=some u)
  (hv:cellsOf u=vs) (hl:vs.length=s) (h1:∀u∈vs,u.oneCell'=true) (hn:0<n) (hr:k+vs.length<=cs.length) (ah:cs.take k++vs++cs.drop (k+vs.length)=cs') (aj:At I (vec e sz v n cs) (vec e sz v n cs') I') :
  Eff P κ N Q ⟨none,.store T x y,ty,ps,af,gd⟩ L I λL' I''=>L'=L/\I''=I':=
 Eff.bq5 rfl λa w ha hs=>by
  obtain ⟨b,off,cap,ab,rfl,ad,ae,ak,hb,an,aa⟩:=au6.some (hs.ok _ aj.mem).1 hn
  have ap:w.heap[b]? = some (.cells ab.toList.toArray e (0,0)):=by simpa using hb
  have ar:n*sz<=cap*sz:=Hk sz ae
  have ao:=ax8 hT hv hl h1 ap (o:=off+k) (by simp only [Hj];omega)
  refine ⟨_,I',by simp [execOp,ha.eval hx,ha.eval hy,F1,G9,Instr.storeAt,Instr.sureAddr];rw [ao];simp;rfl,⟨rfl,rfl⟩,?_⟩
  refine hs.upd aj rfl ⟨rfl,Gg _⟩ rfl (by simp) (λk' _ aq=>setRow_other w b k' _ λe=>aq<|by subst e;exact ⟨off,n,cap,rfl,by omega⟩) ?_ λk hk=> .inl hk
  have ai:cs'.length=cs.length:=by rw [←ah];simp only [By,Fr,Fz];omega
  refine ⟨_,cap,rfl,ai.trans ad,ae,ak,λhc=>⟨b,off,_,rfl,setRow_heap w b ab _ e _ hb,?_,λj u' M=>?_⟩⟩
  ·simp only [Jj,By,Fr,Fz,Hj];omega
  have au:j<cs.length:=by rw [←ai];exact (G_.1 M).1
  have hA:(ab.toList.take<|off+k).length=off+k:=by simp only [Fr,Hj];omega
  have hB:(cs.take k).length=k:=by simp only [Fr];omega
  rw [←ah] at M
  simp only [Jn]
  rw [Fu] at M
  try rw [Fu]
  by_cases hjk:j<k
  ·rw [Gv (by omega),Jf,B_ hjk] at M
   rw [Gv (by omega),Jf,B_<|by omega]
   simpa using aa j u' M
  rw [Hh (by omega),hB] at M
  rw [Hh (by omega),hA,show off+j - (off+k)=j - k from by omega]
  by_cases hjv:j - k<vs.length
  ·rw [Gv hjv] at M
   rw [Gv hjv]
   exact M
  rw [Hh (by omega),Jw,show k+vs.length+(j - k - vs.length)=j from by omega] at M
  rw [Hh (by omega),Jw,show off+k+vs.length+(j - k - vs.length)=off+j from by omega]
  simpa using aa j u' M
theorem Eff.append{x y:Operand}{n m:Nat}{ds:List Value}(ht:P.underlying t=some (.slice e))(hT:tyF P e=some (sz,ag,by',z))(ab:z.length=sz)(hx:er L x=some v)(hy:er L y=some u)
  (hv:vec e sz v n cs∈I) (hu:au2 κ I sz u m ds) (h1:∀u∈ds,u.oneCell'=true) (ai:n+m<=maxLen) (ae:(n+m)*by'<=140737488355328) (hN:Nat.blt dd N.n=true) {I':Option Addr->Nat->List Item} (an:∀ad c,At I (vec e sz v n cs) (vec e sz (.slice ad (n+m) c) (n+m)<|cs++ds)<|I' ad c) :
  Eff P κ N Q ⟨some dd,.call {callee:= .builtin .append,args:= #[x,y],argTypes:= #[t,t]},ty,ps,af,gd⟩ L I λL' I''=>∃ad c,L'=(dd,.slice ad (n+m) c)::L/\I''=I' ad c:=
 Eff.Q4 rfl hN λa w ha hs=>by
  obtain ⟨v',w',hr,ah,ho,aj,aa,ak,hk,hf⟩:=bi6 (P:=P) (ty:=ty) ht hT ab (hs.ok _ hv).1 (hu w hs) h1 ai ae
  obtain ⟨ad,c,rfl,M⟩:=ah
  refine ⟨_,w',I' ad c,by simp [execOp,resolve,invoke,builtin,ha.eval hx,ha.eval hy,hr],⟨ad,c,rfl,rfl⟩,?_⟩
  exact hs.upd (an _ _) ho aj aa ak hk ⟨ad,c,rfl,M⟩ hf
theorem Eff.makeSlice{x y:Operand}{n:Nat}(ht:P.underlying t=some (.slice e))(hT:tyF P e=some (sz,ag,by',z))(ae:z.length=sz)(hx:er L x=some (e7 n))(hy:er L y=some (e7 n))
  (aj:n<=maxLen) (ah:n*by'<=281474976710656) (hN:Nat.blt dd N.n=true) :
  Eff P κ N Q ⟨some dd,.makeSlice t x y,ty,ps,af,gd⟩ L I λL' I''=>∃ad c,L'=(dd,.slice ad n c)::L/\I''=vec e sz (.slice ad n c) n (List.replicate n z).flatten::I:=
 Eff.Q4 rfl hN λa w ha hs=>by
  obtain ⟨v',w',hr,ai,ho,ak,aa,an,hk,hf⟩:=av2 (P:=P) (w:=w) ht hT ae n aj ah
  obtain ⟨ad,c,rfl,M⟩:=ai
  refine ⟨_,w',_,by simp [execOp,ha.eval hx,ha.eval hy,hr],⟨ad,c,rfl,rfl⟩,?_⟩
  refine hs.new (hs.frame ho ak aa an λx hx k ab=>hk k<|(hs.ok x hx).2 k ab) ⟨ad,c,rfl,M⟩ hf
theorem Eff.buildSlice{n:Nat}{M:List (Nat×Operand)}(ht:P.underlying t=some (.slice e))(hT:tyF P e=some (sz,ag,by',z))(aa:z.length=sz)
  (hp:T6 L (M.map (·.2))=some vs) (hn:0<n*sz) (an:n*sz<=16777216)
  (hf:Instr.fill (λi=>some (i*sz,sz)) (List.replicate n z).flatten.toArray ((M.map (·.1)).zip vs)=some cells.toArray) (hl:cells.length=n*sz) (hN:Nat.blt dd N.n=true) :
  Eff P κ N Q ⟨some dd,.buildSlice t n M.toArray,ty,ps,af,gd⟩ L I λL' I''=>∃ad,L'=(dd,.slice ad n n)::L/\I''=vec e sz (.slice ad n n) n cells::I:=
 Eff.Q4 rfl hN λa w ha hs=>by
  obtain ⟨zv,hz,ak⟩:=aa1 hT w
  have aj:M.map (λp=>(p.1,a.eval p.2))=(M.map (·.1)).zip vs:=by
   rw [←ha.T6 hp]
   clear hp hf
   induction M with
   |nil=>rfl
   |cons p ps ih=>simp [ih]
  have ae:List.map (λx:Nat×Operand=>match x with |(i,x)=>(i,a.eval x)) M=(M.map (·.1)).zip vs:=aj
  have ab:(Array.range<|n*sz).map (λj=>zv.cells[j % zv.cells.size]!)=(List.replicate n z).flatten.toArray:=by
   apply Array.ext'
   simp only [Mf,Lm]
   rw [ak]
   apply Mw
   intro j
   simp only [Kt,Jj,aa]
   by_cases hj:j<n*sz
   ·have hs:0<sz:=Kz λh=>by subst h;simp at hj
    rw [Mn hj]
    have ah:j % sz<z.length:=by rw [aa];exact Nat.mod_lt _ hs
    rw [aa8 z n j (by rw [aa];exact hs) (by rw [aa];exact hj),aa]
    simp [ah]
   rw [Jo (by simpa using hj),Jo (by rw [aw0,aa];omega)]
   rfl
  have h0:¬n*sz=0:=by omega
  have h1:¬16777216<n*sz:=by omega
  have ai:(Instr.buildSlice t n ((M.map (·.1)).zip vs).toArray).run P w = .ok (.slice (some ⟨w.heap.size,0,none⟩) n n) (w.alloc<|.cells cells.toArray e):=by
   simp [Instr.buildSlice,run_underlying ht,run_sizeOf hT,h0,h1,hz,ab,hf,newRow]
  refine ⟨.slice (some ⟨w.heap.size,0,none⟩) n n,_,_,by simp only [execOp,Jq,ae];rw [Sem.run_bind,ai];rfl,⟨_,rfl,rfl⟩,?_⟩
  refine hs.new (hs.alloc _) ⟨_,n,rfl,hl,Gg _,?_,λ_=>⟨w.heap.size,0,_,rfl,heap_alloc_new w _,by simp [hl],λj u hj=>by simpa using hj⟩⟩ λk hk=>?_
  ·have hs:0<sz:=Kz λh=>by subst h;simp at hn
   have:=Lo n hs
   simp only [maxLen];omega
  obtain ⟨o,n',c',he,ao⟩:=hk
  cases he
  exact ⟨Gg _,by simp⟩
theorem bs9{f: FuncId}(h : V3 P f = true) : ∃ fn, P.funcs[f]? = some fn ∧ (fn.name == "runtime.NumGoroutine") = false ∧ fn.body.isNone = false := by
 unfold V3 at h
 split at h
 ·rename_i fn hf
  simp at h
  exact ⟨fn,hf,by simpa using h.1,by
   cases hb:fn.body with
   |none=>simp [hb] at h
   |some _=>rfl⟩
 cases h
theorem ai0{f:FuncId}(h:V3 P f=true)(M:Array Value)(w:World):(callFunc f M).run P w = .ok (.enter f M) w:=by
 obtain ⟨fn,ad,aa,ab⟩:=bs9 h
 simp only [callFunc,Sem.run_bind,run_program,Result.andThen_ok,ad,aa,ab,Bool.false_eq_true,if_false]
 rfl
theorem Eff.call{f:FuncId}{as:Array TypeId}{Post:Value->List Item->Prop}(hf:V3 P f=true)(hx:T6 L xs=some vs)(hN:Nat.blt dd N.n=true)(hc:eu P κ f vs I Post) :
  Eff P κ N Q ⟨some dd,.call {callee:= .value (.func f),args:=xs.toArray,argTypes:=as},ty,ps,af,gd⟩ L I λL' I''=>∃v J,Post v J/\L'=(dd,v)::L/\J=I'':=λa w ha hs=>by
 have he:(execOp a.eval ⟨some dd,.call {callee:= .value (.func f),args:=xs.toArray,argTypes:=as},ty,ps,af,gd⟩).run P w = .ok (.enter f vs.toArray) w:=by
  have e1:a.eval (.func f) = .func (.func f) #[] #[]:=rfl
  simp only [execOp,resolve,e1,Deferred.ofValue,invoke,Sem.run_bind,Sem.run_pure,Result.andThen_ok,Jq,ha.T6 hx,ai0 hf]
  simp
 simp only [Oper.wp,he,Oper.upon]
 refine (hc w hs).mono λe w' ⟨v,J,aa,hp,M⟩=>?_
 subst aa
 exact ⟨_,_,⟨v,J,hp,rfl,rfl⟩,ha.put dd hN v,M⟩
theorem Eff.gg9{f:FuncId}{x:Operand}{first caps:List Value}{as:Array TypeId}{Post:Value->List Item->Prop}(hf:V3 P f=true)(M:er L x=some (.func (.func f) first.toArray caps.toArray))
  (hx:T6 L xs=some vs) (hN:Nat.blt dd N.n=true) (hc:eu P κ f (first++vs++caps) I Post) :
  Eff P κ N Q ⟨some dd,.call {callee:= .value x,args:=xs.toArray,argTypes:=as},ty,ps,af,gd⟩ L I λL' I''=>∃v J,Post v J/\L'=(dd,v)::L/\J=I'':=λa w ha hs=>by
 have he:(execOp a.eval ⟨some dd,.call {callee:= .value x,args:=xs.toArray,argTypes:=as},ty,ps,af,gd⟩).run P w = .ok (.enter f (first++vs++caps).toArray) w:=by
  simp only [execOp,resolve,ha.eval M,Deferred.ofValue,invoke,Sem.run_bind,Sem.run_pure,Result.andThen_ok,Jq,ha.T6 hx,ai0 hf]
  simp
 simp only [Oper.wp,he,Oper.upon]
 refine (hc w hs).mono λe w' ⟨v,J,ab,hp,aa⟩=>?_
 subst ab
 exact ⟨_,_,⟨v,J,hp,rfl,rfl⟩,ha.put dd hN v,aa⟩
def ch6(κ:Ctx)(Post:Value->List Item->Prop):Ending->World->Prop:=λe w'=>∃v J,e = .returned v/\Post v J/\Sep κ w' J
theorem eu.enter{f:FuncId}{c:Code}{n:Nat}{Post:Value->List Item->Prop}(hf:P.funcs[f]? = some fn)(hb:fn.body=some c)(hN:fn.ntmps=n)(hl:Nat.ble M.length n=true)(hL:bn3 0 M=L)
  (h:W P κ ⟨n,[]⟩ c (bodyPost P fn<|ch6 κ Post) L I):eu P κ f M I Post:=λw hs=>by
 refine calls_of_wp hf hb ?_
 rw [hN]
 subst hL
 exact h _ w (Ag.start M n<|by simpa using hl) hs
theorem V.ret1{M:Func}{t:Tmp}{Post:Value->List Item->Prop}(hr:M.results = #[.tmp t])(hv:look L t=some v)(J:List Item)(hf:Fit κ I J)(hp:Post v J)(h0:N.ds=[]:=by rfl):V κ N (bodyPost P M (ch6 κ Post)) .ret L I:=
 λa w ha hs=>bodyPost_ret (v:=v) (by rw [results_tmp hr];simp [ha.get t v hv]) (ha.defers.trans h0) ⟨v,J,rfl,hp,hf w hs⟩
theorem V.ret2{t u:Tmp}{M:Value}{Post:Value->List Item->Prop}(hr:fn.results = #[.tmp t,.tmp u])(hv:look L t=some v)(aa:look L u=some M)(J:List Item)(hf:Fit κ I J)(hp:Post (.tuple #[v,M]) J)(h0:N.ds=[]:=by rfl):V κ N (bodyPost P fn (ch6 κ Post)) .ret L I:=
 λa w ha hs=>bodyPost_ret (v:= .tuple #[v,M]) (by rw [results_tmp2 hr];simp [ha.get t v hv,ha.get u M aa]) (ha.defers.trans h0) ⟨_,J,rfl,hp,hf w hs⟩
theorem V.end0{M:Func}{Post:Value->List Item->Prop}(hr:M.results = #[])(J:List Item)(hf:Fit κ I J)(hp:Post (.tuple #[]) J)(h0:N.ds=[]:=by rfl):V κ N (bodyPost P M (ch6 κ Post)) .normal L I:=
 λa w ha hs=>bodyPost_end (v:= .tuple #[]) (by rw [results_none hr]) (ha.defers.trans h0) ⟨_,J,rfl,hp,hf w hs⟩
theorem V.retc{t:Tmp}{T:Nat}{Post:Value->List Item->Prop}(hr:fn.results = #[.cell t T])(hT:tyF P T=some (sz,true,by',z))(hv:look L t=some ((pt b)))(hb:e8 b cs E∈I)(hl:cs.length=sz)
  (J:List Item) (hf:Fit κ I J) (hp:Post (.agg cs.toArray) J) (h0:N.ds=[]:=by rfl):V κ N (bodyPost P fn<|ch6 κ Post) .ret L I:=
 λa w ha hs=>by
  have aa:=λj=>am2 (w:=w) (hs.ok _ hb).1 j
  have M:(loadVar T ⟨b,0,none⟩).run P w = .ok (.agg cs.toArray) w:=aa0 hT hl λj u hj=>by rw [G9,aa,←hj];simp
  refine bodyPost_ret (v:= .agg cs.toArray) ?_ (ha.defers.trans h0) ⟨_,J,rfl,hp,hf w hs⟩
  simp [results,hr,ha.get t _ hv,asAddr,M]
theorem V.ge0{t u:Tmp}{T:Nat}{v':Value}{Post:Value->List Item->Prop}(hr:fn.results = #[.cell t T,.tmp u])(hT:tyF P T=some (sz,true,by',z))(hv:look L t=some ((pt b)))(ab:look L u=some v')(hb:e8 b cs E∈I)
  (hl:cs.length=sz) (J:List Item) (hf:Fit κ I J) (hp:Post (.tuple #[.agg cs.toArray,v']) J) (h0:N.ds=[]:=by rfl):V κ N (bodyPost P fn<|ch6 κ Post) .ret L I:=
 λa w ha hs=>by
  have aa:=λj=>am2 (w:=w) (hs.ok _ hb).1 j
  have M:(loadVar T ⟨b,0,none⟩).run P w = .ok (.agg cs.toArray) w:=aa0 hT hl λj u hj=>by rw [G9,aa,←hj];simp
  refine bodyPost_ret (v:= .tuple #[.agg cs.toArray,v']) ?_ (ha.defers.trans h0) ⟨_,J,rfl,hp,hf w hs⟩
  simp [results,hr,ha.get t _ hv,ha.get u _ ab,asAddr,M]
end
end Go.Sl
namespace Go.Sl
variable{i m:Int}{x y:Operand}{E T by' c dd e h l n s t:Nat}{ag:Bool}{z:List Value}{u:Value}{I':List Item}{ad:Option Addr}
class Enc (α:Type) where
 enc:α->List Value
 sz:Nat
 pos:0<sz
 len:∀x,(enc x).length=sz
 one:∀x,∀u∈enc x,u.oneCell'=true
instance:Enc Bool:=⟨λb=>[.bool b],1,by omega,λ_=>rfl,λ_ u h=>by simp at h;subst h;rfl⟩
instance:Enc Int:=⟨λn=>[e7 n],1,by omega,λ_=>rfl,λ_ u h=>by simp at h;subst h;rfl⟩
def e_{α:Type}[Inhabited α](xs:List α)(i:Int):α:=xs.getD i.toNat default
theorem bi9{α:Type}[Inhabited α]{xs:List α}(M:0<=i)(hn:i<xs.length):e_ xs i=xs[i.toNat]'(by omega):=by
 simp [e_,Hs,Jb (show i.toNat<xs.length by omega)]
def cells{α:Type}[Enc α](xs:List α):List Value:=xs.flatMap Enc.enc
def Sl{α:Type}[Enc α](κ:Ctx)(I:List Item)(v:Value)(xs:List α):Prop:=au2 κ I (Enc.sz α) v xs.length (cells xs)
def vc{α:Type}[Enc α](e:TypeId)(v:Value)(xs:List α):Item:=vec e (Enc.sz α) v xs.length (cells xs)
abbrev vk{α:Type}[Enc α](e:TypeId)(a:Option Addr)(c:Nat)(l:List α):Item:=vc e (.slice a l.length c) l
section
variable {α:Type}[Enc α]
theorem U9(x:α)(xs:List α):cells (x::xs)=Enc.enc x++cells xs:=rfl
theorem K9(xs ys:List α):cells (xs++ys)=cells xs++cells ys:=by simp [cells]
theorem r8(xs:List α):(cells xs).length=xs.length*Enc.sz α:=by
 induction xs with
 |nil=>simp [cells]
 |cons x xs ih=>rw [U9,By,ih,Enc.len,E_,Jh];omega
theorem cells_one(xs:List α):∀u∈cells xs,u.oneCell'=true:=λu hu=>by
 obtain ⟨x,_,M⟩:=Kw.1 hu
 exact Enc.one x u M
theorem V9(xs:List α):∀(i j:Nat) (hi:i<xs.length),j<Enc.sz α->(cells xs)[i*Enc.sz α+j]? = (Enc.enc xs[i])[j]? :=by
 induction xs with
 |nil=>intro i j hi;simp at hi
 |cons x xs ih=>
  intro i j hi M
  rw [U9]
  cases i with
  |zero=>
   rw [Gv (by rw [Enc.len];omega)]
   simp
  |succ i=>
   have e:(i+1)*Enc.sz α+j=Enc.sz α+(i*Enc.sz α+j):=by rw [Jh];omega
   rw [e,Hh (by rw [Enc.len];omega),Enc.len,Kh,ih i j (by simpa using hi) M]
   simp
theorem R3(xs:List α)(i:Nat):cells (xs.take i)=(cells xs).take (i*Enc.sz α):=by
 induction xs generalizing i with
 |nil=>simp [cells]
 |cons x xs ih=>
  cases i with
  |zero=>simp [cells]
  |succ i=>
   have e:(i+1)*Enc.sz α=Enc.sz α+i*Enc.sz α:=by rw [Jh];omega
   have M:(Enc.enc x).take (Enc.sz α+i*Enc.sz α)=Enc.enc x:=Fx (by rw [Enc.len];omega)
   rw [List.take_succ_cons,U9,U9,ih,List.take_append,Enc.len,e,M,Kh]
theorem Z0(xs:List α)(i:Nat):cells (xs.drop i)=(cells xs).drop (i*Enc.sz α):=by
 induction xs generalizing i with
 |nil=>simp [cells]
 |cons x xs ih=>
  cases i with
  |zero=>simp [cells]
  |succ i=>
   have e:(i+1)*Enc.sz α=Enc.sz α+i*Enc.sz α:=by rw [Jh];omega
   have M:(Enc.enc x).drop (Enc.sz α+i*Enc.sz α)=[]:=Hb (by rw [Enc.len];omega)
   rw [List.drop_succ_cons,U9,ih,List.drop_append,Enc.len,e,M,Kh,Ko]
theorem dm7(xs:List α)(i:Nat)(x:α)(hi:i<xs.length):(cells xs).take (i*Enc.sz α)++Enc.enc x++(cells xs).drop (i*Enc.sz α+Enc.sz α)=cells (xs.set i x):=by
 have M:xs.set i x=xs.take i++x::xs.drop (i+1):=List.set_eq_take_append_cons_drop.trans (by rw [B_ hi])
 rw [M,K9,U9,R3,Z0,Jh,Nat.one_mul,Fu]
variable {κ:Ctx}{I J:List Item}{v:Value}{xs:List α}
theorem Sl.fit(h:Sl κ I v xs)(M:Fit κ J I):Sl κ J v xs:=au2.fit h M
theorem Sl.vec{e:TypeId}(h:vc e v xs∈I):Sl κ I v xs:=au2.vec h
theorem Sl.nil(I:List Item):Sl κ I (.slice none 0 0) ([]:List α):=au2.nil I _
theorem Sl.le(h:Sl κ I v xs):∀w,Sep κ w I->xs.length<=9223372036854775807:=λw hs=>by
 obtain ⟨_,_,_,_,h1,M,_⟩:=h w hs
 simp only [maxLen] at M
 omega
end
section
variable {P:Program}{κ:Ctx}{N:Frm}{Q:Exit->Act->World->Prop}{L:Env}{I J:List Item}
variable {d:Option Tmp}{ty:TypeId}{ps:String}{af:Array Edge}{gd:Option (Nat×Bool)}
variable {α:Type}[Enc α]{v:Value}{xs:List α}
theorem j7.idx(ht:P.underlying T=some (.slice E))(hE:tyF P E=some (Enc.sz α,ag,by',z))(hx:er L x=some v)
  (hy:er L y=some (e7 i)) (hv:Sl κ J v xs) (M:0<=i) (hn:i<xs.length):j7 P κ N ⟨d,.indexAddr T x y,ty,ps,af,gd⟩ L J (F1 v<|i.toNat*Enc.sz α):=
 j7.indexAddr ht hE hx hy hv M hn
theorem j7.gj3(ht:P.underlying T=some (.slice E))(M:er L x=some v)(hv:Sl κ J v xs) :
  j7 P κ N ⟨d,.call {callee:= .builtin .len,args:= #[x],argTypes:= #[T]},ty,ps,af,gd⟩ L J (e7 xs.length):=j7.len ht M hv
theorem j7.get{xs:List Int}(hT:tyF P T=some (s,false,by',z))(hx:er L x=some (F1 v (i.toNat*Enc.sz Int)))(hv:Sl κ J v xs)(M:0<=i)(hn:i<xs.length) :
  j7 P κ N ⟨d,.load T x,ty,ps,af,gd⟩ L J (e7<|e_ xs i):=
 j7.br0 hT hx hv (by
  have:=V9 xs i.toNat 0 (by omega) (by decide)
  simp only [K_] at this
  rw [this,bi9 M hn];rfl)
theorem j7.getB{xs:List Bool}(hT:tyF P T=some (s,false,by',z))(hx:er L x=some (F1 v (i.toNat*Enc.sz Bool)))(hv:Sl κ J v xs)(M:0<=i)(hn:i<xs.length) :
  j7 P κ N ⟨d,.load T x,ty,ps,af,gd⟩ L J (.bool<|e_ xs i):=
 j7.br0 hT hx hv (by
  have:=V9 xs i.toNat 0 (by omega) (by decide)
  simp only [K_] at this
  rw [this,bi9 M hn];rfl)
theorem j7.gj5[Inhabited α](hT:tyF P T=some (Enc.sz α,true,by',z))(hx:er L x=some (F1 v (i.toNat*Enc.sz α)))(hv:Sl κ J v xs)(h0:0<=i)(hn:i<xs.length) :
  j7 P κ N ⟨d,.load T x,ty,ps,af,gd⟩ L J (.agg (Enc.enc<|e_ xs i).toArray):=
 j7.dg4 hT hx hv (by omega) (λj u hj=>by
  have M:j<Enc.sz α:=by rw [←Enc.len (e_ xs i)];exact (G_.1 hj).1
  rw [V9 xs i.toNat j (by omega) M,←bi9 h0 hn];exact hj) (Enc.len _)
theorem j7.fld{k off m:Nat}(h:U2 P T k=some off)(M:er L x=some (F1 v m))(hv:Sl κ J v xs)(hn:0<xs.length) :
  j7 P κ N ⟨d,.fieldAddr T x k,ty,ps,af,gd⟩ L J (F1 v<|m+off):=j7.dj7 h M hv hn
theorem j7.gf7[Inhabited α]{j:Nat}(hT:tyF P T=some (s,false,by',z))(hx:er L x=some (F1 v (i.toNat*Enc.sz α+j)))(hv:Sl κ J v xs)(h0:0<=i)(hn:i<xs.length)
  (hu:(Enc.enc<|e_ xs i)[j]? = some u):j7 P κ N ⟨d,.load T x,ty,ps,af,gd⟩ L J u:=
 j7.br0 hT hx hv (by
  have M:j<Enc.sz α:=by rw [←Enc.len (e_ xs i)];exact (G_.1 hu).1
  rw [V9 xs i.toNat j (by omega) M,←bi9 h0 hn];exact hu)
theorem Eff.set{new:α}(hT:tyF P T=some (Enc.sz α,ag,by',z))(hx:er L x=some (F1 v (i.toNat*Enc.sz α)))(hy:er L y=some u)
  (hu:cellsOf u=Enc.enc new) (h0:0<=i) (hn:i<xs.length) (M:At I (vc e v xs) (vc e v<|xs.set i.toNat new) I'):Eff P κ N Q ⟨none,.store T x y,ty,ps,af,gd⟩ L I λL' I''=>L'=L/\I''=I':=by
 have hs:=dm7 xs i.toNat new (by omega)
 have hl:=r8 xs
 refine Eff.dc1 (sz:=Enc.sz α) (n:=xs.length) (cs:=cells xs) (cs':=cells (xs.set i.toNat new)) (e:=e) hT hx hy hu (Enc.len _) (Enc.one _) (by omega) ?_ ?_ ?_
 ·rw [Enc.len,hl]
  have:(i.toNat+1)*Enc.sz α<=xs.length*Enc.sz α:=Hk _ (by omega)
  rw [Jh] at this
  omega
 ·rw [Enc.len];exact hs
 have:=M
 unfold vc at this
 rw [Fq] at this
 exact this
theorem Eff.app{ys:List α}(ht:P.underlying t=some (.slice e))(hT:tyF P e=some (Enc.sz α,ag,by',z))(ae:z.length=Enc.sz α)(hx:er L x=some v)(hy:er L y=some u)
  (hv:vc e v xs∈I) (hu:Sl κ I u ys) (ah:(xs.length+ys.length)*by'<=140737488355328) (M:0<by') (hN:Nat.blt dd N.n=true) {I':Option Addr->Nat->List Item} (ab:∀ad c,At I (vc e v xs) (vc e (.slice ad (xs++ys).length c)<|xs++ys)<|I' ad c) :
  Eff P κ N Q ⟨some dd,.call {callee:= .builtin .append,args:= #[x,y],argTypes:= #[t,t]},ty,ps,af,gd⟩ L I λL' I''=>∃ad c,L'=(dd,.slice ad (xs++ys).length c)::L/\I''=I' ad c:=by
 have aa:xs.length+ys.length<=maxLen:=by
  have:=Lo (xs.length+ys.length) M
  simp only [maxLen];omega
 have h:=Eff.append (P:=P) (κ:=κ) (N:=N) (Q:=Q) (ty:=ty) (ps:=ps) (af:=af) (gd:=gd) (I':=I') ht hT ae hx hy hv hu (cells_one ys) aa ah hN λad c=>by
  have:=ab ad c
  unfold vc at this
  rw [By,K9] at this
  exact this
 rw [←By] at h
 exact h
theorem bc6[Inhabited α]:∀(n:Nat),(List.replicate n (Enc.enc (default:α))).flatten=cells (List.replicate n (default:α))
 |0=>rfl
 |n+1=>by rw [Mm,Mm,U9,List.flatten_cons,bc6 n]
theorem Eff.make[Inhabited α](ht:P.underlying t=some (.slice e))(hT:tyF P e=some (Enc.sz α,ag,by',z))(hz:z=Enc.enc (default:α))(hx:er L x=some (e7 m))(hy:er L y=some (e7 m))(hm:m=(n:Int))
  (ab:n*by'<=281474976710656) (M:0<by') (hN:Nat.blt dd N.n=true) :
  Eff P κ N Q ⟨some dd,.makeSlice t x y,ty,ps,af,gd⟩ L I λL' I''=>∃ad c,L'=(dd,.slice ad (List.replicate n (default:α)).length c)::L/\I''=vc e (.slice ad (List.replicate n (default:α)).length c) (List.replicate n (default:α))::I:=by
 subst hm
 have aa:n<=maxLen:=by
  have:=Lo n M
  simp only [maxLen];omega
 have h:=Eff.makeSlice (P:=P) (κ:=κ) (N:=N) (Q:=Q) (L:=L) (I:=I) (ty:=ty) (ps:=ps) (af:=af) (gd:=gd) ht hT (by rw [hz,Enc.len]) hx hy aa ab hN
 have e:(List.replicate n z).flatten=cells (List.replicate n (default:α)):=by rw [hz,bc6]
 unfold vc
 rw [F_]
 rw [e] at h
 exact h
def N9(ad:Option Addr)(c l sz:Nat):Option Addr:=if c=l then ad else ad.map (·.add (l*sz))
theorem Sl.take(hv:Sl κ I (.slice ad n c) xs)(hh:h<=xs.length):Sl κ I (.slice ad (xs.take h).length c) (xs.take h):=λw hs=>by
 obtain ⟨a,cap,he,h1,h2,h3,h4⟩:=hv w hs
 cases he
 refine ⟨ad,c,rfl,r8 _,by rw [Fr];omega,h3,λhc=>?_⟩
 obtain ⟨b,off,rfl,hr⟩:=h4 hc
 refine ⟨b,off,rfl,λj u M=>hr j u ?_⟩
 rw [R3,Jf] at M
 split at M
 ·exact M
 cases M
theorem Sl.drop(hv:Sl κ I (.slice ad n c) xs)(hl:l<=xs.length):Sl κ I (.slice (N9 ad c l (Enc.sz α)) (xs.drop l).length (c - l)) (xs.drop l):=λw hs=>by
 obtain ⟨a,cap,he,h1,h2,h3,h4⟩:=hv w hs
 cases he
 refine ⟨_,c - l,rfl,by rw [r8,Fz],by rw [Fz];omega,by omega,λhc=>?_⟩
 obtain ⟨b,off,rfl,hr⟩:=h4 (by omega)
 refine ⟨b,off+l*Enc.sz α,by unfold N9;rw [An (by omega)];simp [G9],λj u M=>?_⟩
 rw [Z0,Jw] at M
 rw [Mh]
 exact hr _ u M
theorem j7.hi(ht:P.underlying T=some (.slice E))(M:tyF P E=some (Enc.sz α,ag,by',z))(hx:er L x=some (.slice ad n c))(hy:er L y=some (e7 m))(hm:m=(h:Int))
  (hv:Sl κ J (.slice ad n c) xs) (hh:h<=xs.length):j7 P κ N ⟨d,.slice T x none (some y) none,ty,ps,af,gd⟩ L J (.slice ad (xs.take h).length c):=λa w ha hs=>by
 subst hm
 obtain ⟨_,_,he,_,h2,_⟩:=hv w hs
 cases he
 have:=j7.slice (P:=P) (κ:=κ) (N:=N) (L:=L) (J:=J) (d:=d) (ty:=ty) (ps:=ps) (af:=af) (gd:=gd) (l:=0) (h:=h) ht M hx (.inl ⟨rfl,rfl⟩) (.inr ⟨y,rfl,hy⟩) (Mt _) (by omega) a w ha hs
 rw [this,Fr,Mk hh]
 have e:(if c=0 then ad else ad.map (λx=>x.add<|0*Enc.sz α))=ad:=by
  split
  ·rfl
  cases ad<;>simp [Addr.add]
 rw [e]
 rfl
theorem j7.lo(ht:P.underlying T=some (.slice E))(hE:tyF P E=some (Enc.sz α,ag,by',z))(hx:er L x=some (.slice ad n c))(hy:er L y=some (e7 m))(hm:m=(l:Int))
  (hv:Sl κ J (.slice ad n c) xs) (M:l<=xs.length):j7 P κ N ⟨d,.slice T x (some y) none none,ty,ps,af,gd⟩ L J (.slice (N9 ad c l<|Enc.sz α) (xs.drop l).length (c - l)):=λa w ha hs=>by
 subst hm
 obtain ⟨_,_,he,_,h2,_⟩:=hv w hs
 cases he
 rw [Fz]
 exact j7.slice (P:=P) (κ:=κ) (N:=N) (L:=L) (J:=J) (d:=d) (ty:=ty) (ps:=ps) (af:=af) (gd:=gd) (l:=l) ht hE hx (.inr ⟨y,rfl,hy⟩) (.inl ⟨rfl,rfl⟩) M h2 a w ha hs
theorem Eff.bs{cs:List Value}{M:List (Nat×Operand)}{vs:List Value}{xs:List α}(ht:P.underlying t=some (.slice e))(hT:tyF P e=some (Enc.sz α,ag,by',z))(ae:z.length=Enc.sz α)
  (hp:T6 L (M.map (·.2))=some vs) (hn:0<n) (ab:n*Enc.sz α<=16777216) (aa:xs.length=n)
  (hf:Instr.fill (λi=>some (i*Enc.sz α,Enc.sz α)) (List.replicate n z).flatten.toArray ((M.map (·.1)).zip vs)=some cs.toArray) (hc:cs=cells xs) (hN:Nat.blt dd N.n=true) :
  Eff P κ N Q ⟨some dd,.buildSlice t n M.toArray,ty,ps,af,gd⟩ L I λL' I''=>∃ad,L'=(dd,.slice ad n n)::L/\I''=vc e (.slice ad n n) xs::I:=by
 have h:=Eff.buildSlice (P:=P) (κ:=κ) (N:=N) (Q:=Q) (L:=L) (I:=I) (ty:=ty) (ps:=ps) (af:=af) (gd:=gd) (cells:=cells xs) ht hT ae hp (Nat.mul_pos hn Enc.pos) ab (by rw [hf,hc]) (by rw [r8,aa]) hN
 unfold vc
 rw [aa]
 exact h
theorem Fit.ge6(e:TypeId)(J:List Item):Fit κ J (vc e (.slice none 0 0) ([]:List α)::J):=λw s=>s.da8 e (Enc.sz α)
theorem Eff.clone{ys:List α}(ht:P.underlying t=some (.slice e))(hT:tyF P e=some (Enc.sz α,ag,by',z))(aa:z.length=Enc.sz α)(hx:er L x=some (.slice none 0 0))(hy:er L y=some u)
  (hu:Sl κ I u ys) (ab:ys.length*by'<=140737488355328) (M:0<by') (hN:Nat.blt dd N.n=true) :
  Eff P κ N Q ⟨some dd,.call {callee:= .builtin .append,args:= #[x,y],argTypes:= #[t,t]},ty,ps,af,gd⟩ L I λL' I''=>∃ad c,L'=(dd,.slice ad ys.length c)::L/\I''=vc e (.slice ad ys.length c) ys::I:=by
 intro a w ha hs
 have h:=Eff.app (P:=P) (κ:=κ) (N:=N) (Q:=Q) (L:=L) (I:=vc e (.slice none 0 0) ([]:List α)::I) (ty:=ty) (ps:=ps) (af:=af) (gd:=gd) (xs:=[]) (dd:=dd) (I':=λad c=>vc e (.slice ad ([]++ys).length c) ([]++ys)::I) ht hT aa hx hy A_ (Sl.fit hu<|Fit.tail<|Fit.refl _) (by simpa using ab) M hN (λ_ _=>At.head _ _ _)
 exact h a w ha<|hs.da8 e<|Enc.sz α
theorem Fit.upd{x x':Item}{I:List Item}(M:At I x x' I')(h:∀w,x.ok w->x'.ok w/\∀k,x'.fp k->x.fp k):Fit κ I I':=λw hs=>
 hs.upd M rfl ⟨rfl,Gg _⟩ rfl (Gg _) (λ_ _ _=>rfl) (h w (hs.ok _ M.mem).1).1 λk hk=> .inl ((h w (hs.ok _ M.mem).1).2 k hk)
end
end Go.Sl
namespace Go.Sl
variable{I':List Item}{x:Operand}{E T b by' sz:Nat}{cs vs z:List Value}
theorem ab5.app{xs I:List Item}{x:Item}(h:ab5 I x I'):ab5 (xs++I) x (xs++I'):=by
 induction xs with
 |nil=>exact h
 |cons y xs ih=>exact ab5.tail y ih
theorem Sp.az0(xs I:List Item):Sp (xs++I) I:=by
 induction xs with
 |nil=>exact Sp.refl _
 |cons y xs ih=>exact Sp.skip y ih
section
variable {P:Program}{κ:Ctx}{N:Frm}{Q:Exit->Act->World->Prop}{L:Env}{I J:List Item}{ops:Array Oper}{o:Oper}{rest:List Oper}
theorem dw9{L:Env}{k:Nat}{m n:Int}(h:look L k=some (.int .i64 m):=by exact rfl)(e:m=n:=by first|omega|(dsimp only<;>omega)):look L k=some (.int .i64 n):=fy3 h e
theorem Fit.m(h:Fit κ I J:=by repeat (first|exact Fit.refl _|apply Fit.tail|exact Fit.az0 _ _|apply Fit.dn5)):Fit κ I J:=h
theorem Fit.sub(h:J.Sublist I:=by repeat (first|exact Jp _|apply List.Sublist.cons_cons|apply List.Sublist.cons|exact Gn _ _)):Fit κ I J:=Fit.K7 h
theorem ta4{p:Prop}(h:p:=by repeat (first|exact ab5.head _ _|apply ab5.tail|apply ab5.app)):p:=h
theorem Fit.s(h:Sp I J:=by repeat (first|exact Sp.refl _|refine Sp.pick ta4 ?_|apply Sp.skip|exact Sp.az0 _ _)):Fit κ I J:=Fit.sp h
theorem G.e{R:Env->List Item->Prop}(M:Eff P κ N Q o L I R)(h:∀L' I',R L' I'->G P κ N ops Q rest L' I')(hw:q8 N ops o L:=by exact q8.plain rfl):G P κ N ops Q (o::rest) L I:=G.eff hw M h
theorem G.nt{y:Code}(h:W P κ N y Q L I):G P κ N ops (Exit.then (y.wp P Q) Q) [] L I:=G.nil (V.then h)
theorem W.sr{id:Nat}{l:List Oper}{y:Code}(h:G P κ N l.toArray (Exit.then (y.wp P Q) Q) l L I):W P κ N (.seq (.region id l.toArray false) y) Q L I:=W.seq (W.region h)
end
section
variable {α:Type}[Enc α]{κ:Ctx}{I J:List Item}{v:Value}{xs:List α}
theorem Sl.f(h:Sl κ I v xs)(M:Fit κ J I:=by repeat (first|exact Fit.refl _|apply Fit.tail|exact Fit.az0 _ _|apply Fit.dn5)):Sl κ J v xs:=h.fit M
theorem Sl.o{e:TypeId}(h:vc e v xs∈I:=by repeat (first|exact A_|apply C_)):Sl κ I v xs:=Sl.vec h
end
section
variable {P:Program}{κ:Ctx}{N:Frm}{Q:Exit->Act->World->Prop}{L:Env}{I J:List Item}
variable {d:Option Tmp}{ty:TypeId}{ps:String}{af:Array Edge}{gd:Option (Nat×Bool)}
theorem j7.fy8{P:Program}{κ:Ctx}{N:Frm}{L:Env}{J:List Item}{d:Option Tmp}{ty:TypeId}{ps:String}{af:Array Edge}{gd:Option (Nat×Bool)}{α:Type}[Enc α][Inhabited α]{v:Value}{xs:List α}{s:Nat}{i:Int}{u:Value}(hT:tyF P T=some (s,false,by',z))(hx:er L x=some (F1 v (i.toNat*Enc.sz α)))(hv:Sl κ J v xs)(M:0<=i)(hn:i<xs.length)
  (hu:(Enc.enc<|e_ xs i)[0]? = some u):j7 P κ N ⟨d,.load T x,ty,ps,af,gd⟩ L J u:=j7.gf7 (j:=0) hT hx hv M hn hu
theorem j7.ld{o:Nat}{v:Value}(hT:tyF P T=some (sz,false,by',z))(M:er L x=some (.pointer (some ⟨b,o,none⟩)):=by exact rfl)
  (hb:e8 b cs E∈J:=by repeat (first|exact A_|apply C_)) (hc:cs[o]? = some v:=by exact rfl):j7 P κ N ⟨d,.load T x,ty,ps,af,gd⟩ L J v:=j7.load hT M hb hc
theorem j7.lds{o:Nat}{vs:List Value}(hT:tyF P T=some (sz,true,by',z))(M:er L x=some (.pointer (some ⟨b,o,none⟩)):=by exact rfl)
  (hb:e8 b cs E∈J:=by repeat (first|exact A_|apply C_)) (hc:(cs.drop o).take sz=vs:=by exact rfl) (hl:vs.length=sz:=by exact rfl):j7 P κ N ⟨d,.load T x,ty,ps,af,gd⟩ L J (.agg vs.toArray):=j7.ar6 hT M hb hc hl
theorem j7.lj{o:Nat}{v0 v1 v2 v3 v4 v5 v6 v7 v8 v9 v10 v11 v12 v13 v14 v15 v16 v17 v18 v19 v20 v21 v22 v23 v24:Value}(hT:tyF P T=some (sz,true,by',z))(M:er L x=some (.pointer (some ⟨b,o,none⟩)):=by exact rfl)
  (hb:e8 b cs E∈J:=by repeat (first|exact A_|apply C_)) (hc:(cs.drop o).take sz=[v0,v1,v2,v3,v4,v5,v6,v7,v8,v9,v10,v11,v12,v13,v14,v15,v16,v17,v18,v19,v20,v21,v22,v23,v24]:=by exact rfl) (hl:[v0,v1,v2,v3,v4,v5,v6,v7,v8,v9,v10,v11,v12,v13,v14,v15,v16,v17,v18,v19,v20,v21,v22,v23,v24].length=sz:=by exact rfl):j7 P κ N ⟨d,.load T x,ty,ps,af,gd⟩ L J (.agg [v0,v1,v2,v3,v4,v5,v6,v7,v8,v9,v10,v11,v12,v13,v14,v15,v16,v17,v18,v19,v20,v21,v22,v23,v24].toArray):=j7.ar6 hT M hb hc hl
theorem Eff.st{y:Operand}{o E:Nat}{ag:Bool}{cs cs':List Value}{v:Value}{I':List Item}(hT:tyF P T=some (sz,ag,by',z))(hx:er L x=some (.pointer (some ⟨b,o,none⟩)):=by exact rfl)(hy:er L y=some v:=by exact rfl)
  (hv:cellsOf v=vs:=by exact rfl) (hl:vs.length=sz:=by exact rfl) (h1:G6 vs:=by repeat (first|exact G6.nil|refine G6.cons rfl ?_)) (aa:At I (e8 b cs E) (e8 b cs' E) I':=by repeat (first|exact At.head _ _ _|apply At.tail)) (hr:o+vs.length<=cs.length:=by exact Jg rfl) (M:cs.take o++vs++cs.drop (o+vs.length)=cs':=by exact rfl) :
  Eff P κ N Q ⟨none,.store T x y,ty,ps,af,gd⟩ L I λL' I''=>L'=L/\I''=I':=Eff.store hT hx hy hv hl h1.all hr M aa
theorem Eff.sq{y:Operand}{o E:Nat}{ag:Bool}{c0 c1 c2 c3 c4 c5 c6 c7 c8 c9 c10 c11 c12 c13 c14 c15 c16 c17 c18 c19 c20 c21 c22 c23 c24 w0 w1 w2 w3 w4 w5 w6 w7 w8 w9 w10 w11 w12 w13 w14 w15 w16 w17 w18 w19 w20 w21 w22 w23 w24 u0 u1 u2 u3 u4 u5 u6 u7 u8 u9 u10 u11 u12 u13 u14 u15 u16 u17 u18 u19 u20 u21 u22 u23 u24:Value}{v:Value}{I':List Item}(hT:tyF P T=some (sz,ag,by',z))(hx:er L x=some (.pointer (some ⟨b,o,none⟩)):=by exact rfl)(hy:er L y=some v:=by exact rfl)
  (hv:cellsOf v=[u0,u1,u2,u3,u4,u5,u6,u7,u8,u9,u10,u11,u12,u13,u14,u15,u16,u17,u18,u19,u20,u21,u22,u23,u24]:=by exact rfl) (hl:[u0,u1,u2,u3,u4,u5,u6,u7,u8,u9,u10,u11,u12,u13,u14,u15,u16,u17,u18,u19,u20,u21,u22,u23,u24].length=sz:=by exact rfl) (h1:G6 [u0,u1,u2,u3,u4,u5,u6,u7,u8,u9,u10,u11,u12,u13,u14,u15,u16,u17,u18,u19,u20,u21,u22,u23,u24]:=by repeat (first|exact G6.nil|refine G6.cons rfl ?_)) (aa:At I (e8 b [c0,c1,c2,c3,c4,c5,c6,c7,c8,c9,c10,c11,c12,c13,c14,c15,c16,c17,c18,c19,c20,c21,c22,c23,c24] E) (e8 b [w0,w1,w2,w3,w4,w5,w6,w7,w8,w9,w10,w11,w12,w13,w14,w15,w16,w17,w18,w19,w20,w21,w22,w23,w24] E) I':=by repeat (first|exact At.head _ _ _|apply At.tail)) (hr:o+[u0,u1,u2,u3,u4,u5,u6,u7,u8,u9,u10,u11,u12,u13,u14,u15,u16,u17,u18,u19,u20,u21,u22,u23,u24].length<=[c0,c1,c2,c3,c4,c5,c6,c7,c8,c9,c10,c11,c12,c13,c14,c15,c16,c17,c18,c19,c20,c21,c22,c23,c24].length:=by exact Jg rfl) (M:[c0,c1,c2,c3,c4,c5,c6,c7,c8,c9,c10,c11,c12,c13,c14,c15,c16,c17,c18,c19,c20,c21,c22,c23,c24].take o++[u0,u1,u2,u3,u4,u5,u6,u7,u8,u9,u10,u11,u12,u13,u14,u15,u16,u17,u18,u19,u20,u21,u22,u23,u24]++[c0,c1,c2,c3,c4,c5,c6,c7,c8,c9,c10,c11,c12,c13,c14,c15,c16,c17,c18,c19,c20,c21,c22,c23,c24].drop (o+[u0,u1,u2,u3,u4,u5,u6,u7,u8,u9,u10,u11,u12,u13,u14,u15,u16,u17,u18,u19,u20,u21,u22,u23,u24].length)=[w0,w1,w2,w3,w4,w5,w6,w7,w8,w9,w10,w11,w12,w13,w14,w15,w16,w17,w18,w19,w20,w21,w22,w23,w24]:=by exact rfl) :
  Eff P κ N Q ⟨none,.store T x y,ty,ps,af,gd⟩ L I λL' I''=>L'=L/\I''=I':=Eff.store hT hx hy hv hl h1.all hr M aa
end
end Go.Sl
