/- A part of the proofs of statements of this seat: contracts of functions, and the plain laws that they lean on. No conditions. -/
import Derived.Test.YtoagcglbkeomgaaGreatDoorV0
import Derived.KernelRfl
set_option linter.unusedVariables false
set_option linter.unusedSimpArgs false
set_option linter.unusedSectionVars false
namespace Go.Sl
open Go.RowKit (Below)
variable{u v:Value}{c:Operand}{M cells cs cs' vs z:List Value}{E b by' dd e o off s sz t:Nat}{w:World}{ag:Bool}{ad:Option Addr}{I':List Item}{xs:List Operand}{fn:Func}
def InR(n:Int):Prop:= -9223372036854775808<=n/\n<=9223372036854775807
theorem InR.wrap{n:Int}(h:InR n):IntKind.i64.wrap n=n:=Go.IntWalk.i64_in _ h
def U2(P:Program)(T:TypeId)(k:Nat):Option Nat:=
 match P.underlying T with
 |some (.struct fs)=>(fs[k]?).bind λf=>(P.info? f.type).bind λi=>if i.size=0 then none else some f.offset
 |_=>none
def V5(P:Program)(f:FuncId):Bool:=
 match P.funcs[f]? with
 | some fn => !(fn.name == "runtime.NumGoroutine") && fn.body.isSome
 |none=>false
def T5(L:Env):List Operand->Option (List Value)
 |[]=>some []
 |x::xs=>match er L x,T5 L xs with
  |some v,some vs=>some (v::vs)
  |_,_=>none
section
variable {P:Program}{κ:Ctx}{N:Frm}{Q:Exit->Act->World->Prop}{L:Env}{I J:List Item}
variable {d:Option Tmp}{ty:TypeId}{ps:String}{af:Array Edge}{gd:Option (Nat×Bool)}
theorem Ag.T5{a:Act}(M:Ag N a L):∀{xs:List Operand} {vs:List Value},T5 L xs=some vs->xs.map a.eval=vs
 |[],vs,h=>by simp [Sl.T5] at h;simp [h]
 |x::xs,vs,h=>by
  simp only [Sl.T5] at h
  split at h
  ·rename_i v vs' h1 h2
   simp only [Jr] at h
   subst h
   simp [M.eval h1,Ag.T5 M h2]
  cases h
theorem j8.move{x:Operand}(hx:er L x=some v):j8 P κ N ⟨d,.move x,ty,ps,af,gd⟩ L J v:=λa w M _=>by simp [execOp,M.eval hx]
theorem j8.assign{x:Operand}(hx:er L x=some v):j8 P κ N ⟨d,.assign x,ty,ps,af,gd⟩ L J v:=λa w M _=>by simp [execOp,M.eval hx]
section ints
variable {x y:Operand}{k:IntKind}{m n:Int}{T U:TypeId}
theorem j8.gm0(hx:er L x=some (.int k m))(hy:er L y=some (.int k n)):j8 P κ N ⟨d,.binOp .add T x y U,ty,ps,af,gd⟩ L J (.int k (k.wrap (m+n))):=
 λa w M _=>by simp only [execOp,M.eval hx,M.eval hy];simp [go_sem,Op.intArith]
theorem j8.ge4(hx:er L x=some (.int k m))(hy:er L y=some (.int k n)):j8 P κ N ⟨d,.binOp .sub T x y U,ty,ps,af,gd⟩ L J (.int k (k.wrap (m - n))):=
 λa w M _=>by simp only [execOp,M.eval hx,M.eval hy];simp [go_sem,Op.intArith]
theorem j8.gk3(hx:er L x=some (.int k m))(hy:er L y=some (.int k n)):j8 P κ N ⟨d,.binOp .mul T x y U,ty,ps,af,gd⟩ L J (.int k (k.wrap (m*n))):=
 λa w M _=>by simp only [execOp,M.eval hx,M.eval hy];simp [go_sem,Op.intArith]
theorem j8.rem(hx:er L x=some (.int k m))(hy:er L y=some (.int k n))(h0:n≠0):j8 P κ N ⟨d,.binOp .rem T x y U,ty,ps,af,gd⟩ L J (.int k (m.tmod n)):=
 λa w M _=>by simp only [execOp,M.eval hx,M.eval hy];simp [go_sem,Op.intDiv,h0]
theorem j8.quow(hx:er L x=some (.int k m))(hy:er L y=some (.int k n))(h0:n≠0):j8 P κ N ⟨d,.binOp .quo T x y U,ty,ps,af,gd⟩ L J (.int k (k.wrap (m.tdiv n))):=
 λa w M _=>by simp only [execOp,M.eval hx,M.eval hy];simp [go_sem,Op.intDiv,h0]
theorem j8.add(hx:er L x=some (e7 m))(M:er L y=some (e7 n))(hr:InR (m+n)):j8 P κ N ⟨d,.binOp .add T x y U,ty,ps,af,gd⟩ L J (e7 (m+n)):=by
 have h:=j8.gm0 (P:=P) (κ:=κ) (N:=N) (J:=J) (d:=d) (ty:=ty) (ps:=ps) (af:=af) (gd:=gd) (T:=T) (U:=U) hx M
 rwa [hr.wrap] at h
theorem j8.sub(hx:er L x=some (e7 m))(M:er L y=some (e7 n))(hr:InR (m - n)):j8 P κ N ⟨d,.binOp .sub T x y U,ty,ps,af,gd⟩ L J (e7 (m - n)):=by
 have h:=j8.ge4 (P:=P) (κ:=κ) (N:=N) (J:=J) (d:=d) (ty:=ty) (ps:=ps) (af:=af) (gd:=gd) (T:=T) (U:=U) hx M
 rwa [hr.wrap] at h
theorem j8.mul(hx:er L x=some (e7 m))(M:er L y=some (e7 n))(hr:InR (m*n)):j8 P κ N ⟨d,.binOp .mul T x y U,ty,ps,af,gd⟩ L J (e7 (m*n)):=by
 have h:=j8.gk3 (P:=P) (κ:=κ) (N:=N) (J:=J) (d:=d) (ty:=ty) (ps:=ps) (af:=af) (gd:=gd) (T:=T) (U:=U) hx M
 rwa [hr.wrap] at h
theorem j8.lss(hx:er L x=some (.int k m))(hy:er L y=some (.int k n)):j8 P κ N ⟨d,.binOp .lss T x y U,ty,ps,af,gd⟩ L J (.bool (decide (m<n))):=
 λa w M _=>by simp only [execOp,M.eval hx,M.eval hy];simp [go_sem]
theorem j8.leq(hx:er L x=some (.int k m))(hy:er L y=some (.int k n)):j8 P κ N ⟨d,.binOp .leq T x y U,ty,ps,af,gd⟩ L J (.bool (decide (m<=n))):=
 λa w M _=>by simp only [execOp,M.eval hx,M.eval hy];simp [go_sem]
theorem j8.gtr(hx:er L x=some (.int k m))(hy:er L y=some (.int k n)):j8 P κ N ⟨d,.binOp .gtr T x y U,ty,ps,af,gd⟩ L J (.bool (decide (n<m))):=
 λa w M _=>by simp only [execOp,M.eval hx,M.eval hy];simp [go_sem]
theorem j8.geq(hx:er L x=some (.int k m))(hy:er L y=some (.int k n)):j8 P κ N ⟨d,.binOp .geq T x y U,ty,ps,af,gd⟩ L J (.bool (decide (n<=m))):=
 λa w M _=>by simp only [execOp,M.eval hx,M.eval hy];simp [go_sem]
theorem j8.eql(hx:er L x=some (.int k m))(hy:er L y=some (.int k n)):j8 P κ N ⟨d,.binOp .eql T x y U,ty,ps,af,gd⟩ L J (.bool (decide (m=n))):=
 λa w M _=>by simp only [execOp,M.eval hx,M.eval hy];simp [go_sem];rfl
theorem j8.neq(hx:er L x=some (.int k m))(hy:er L y=some (.int k n)):j8 P κ N ⟨d,.binOp .neq T x y U,ty,ps,af,gd⟩ L J (.bool (decide (m≠n))):=
 λa w M _=>by
  simp only [execOp,M.eval hx,M.eval hy]
  simp [go_sem]
  by_cases h:m=n<;>simp [h]
theorem j8.min(hx:er L x=some (.int k m))(hy:er L y=some (.int k n)){as:Array TypeId} :
  j8 P κ N ⟨d,.call {callee:= .builtin .min,args:= #[x,y],argTypes:=as},ty,ps,af,gd⟩ L J (.int k (if n<m then n else m)):=
 λa w M _=>by simp [execOp,resolve,invoke,builtin,M.eval hx,M.eval hy,Builtin.min_,Builtin.min2]
theorem j8.max(hx:er L x=some (.int k m))(hy:er L y=some (.int k n)){as:Array TypeId} :
  j8 P κ N ⟨d,.call {callee:= .builtin .max,args:= #[x,y],argTypes:=as},ty,ps,af,gd⟩ L J (.int k (if m<n then n else m)):=
 λa w M _=>by simp [execOp,resolve,invoke,builtin,M.eval hx,M.eval hy,Builtin.max_,Builtin.max2]
end ints
theorem j8.not{x:Operand}{b:Bool}{T:TypeId}(hx:er L x=some (.bool b)):j8 P κ N ⟨d,.unOp .not T x,ty,ps,af,gd⟩ L J (.bool !b):=
 λa w M _=>by simp [execOp,M.eval hx,Op.unary]
theorem j8.gk2{x:Operand}{p:Prop}[Decidable p]{T:TypeId}(hx:er L x=some (.bool (decide p))):j8 P κ N ⟨d,.unOp .not T x,ty,ps,af,gd⟩ L J (.bool (decide ¬p)):=
 λa w M _=>by simp [execOp,M.eval hx,Op.unary]
theorem j8.fy3{x y:Operand}(hc:er L c=some (.bool true))(hx:er L x=some v):j8 P κ N ⟨d,.pick c x y,ty,ps,af,gd⟩ L J v:=
 λa w M _=>by simp [execOp,M.eval hc,M.eval hx,asBool]
theorem j8.fy4{x y:Operand}(hc:er L c=some (.bool false))(hy:er L y=some v):j8 P κ N ⟨d,.pick c x y,ty,ps,af,gd⟩ L J v:=
 λa w M _=>by simp [execOp,M.eval hc,M.eval hy,asBool]
theorem j8.nilCheck{x:Operand}{p:Addr}(hx:er L x=some (.pointer (some p))):j8 P κ N ⟨d,.nilCheck x,ty,ps,af,gd⟩ L J (.pointer (some p)):=
 λa w M _=>by simp [execOp,M.eval hx]
theorem j8.extract{x:Operand}{vs:Array Value}{i:Nat}(M:er L x=some (.tuple vs))(hv:vs[i]? = some v):j8 P κ N ⟨d,.extract x i,ty,ps,af,gd⟩ L J v:=
 λa w ha _=>by simp [execOp,ha.eval M,Instr.extract,hv]
theorem j8.makeFunc{fn:Fn}{first cap:List Operand}(h1:T5 L first=some vs)(h2:T5 L cap=some M):j8 P κ N ⟨d,.makeFunc fn first.toArray cap.toArray,ty,ps,af,gd⟩ L J (.func fn vs.toArray M.toArray):=
 λa w ha _=>by simp [execOp,Instr.makeFunc,ha.T5 h1,ha.T5 h2]
theorem dj6{T k:Nat}(h:U2 P T k=some off):∃fs f i,P.underlying T=some (.struct fs)/\fs[k]? = some f/\P.info? f.type=some i/\i.size≠0/\f.offset=off:=by
 unfold U2 at h
 split at h
 ·rename_i fs hu
  cases hf:fs[k]? with
  |none=>simp [hf] at h
  |some f=>
   cases hi:P.info? f.type with
   |none=>simp [hf,hi] at h
   |some i=>
    simp [hf,hi] at h
    exact ⟨fs,f,i,hu,hf,hi,h.1,h.2⟩
 cases h
theorem bd1{T k:Nat}(h:U2 P T k=some off)(p:Addr)(w:World):(Instr.fieldAt T (.pointer (some p)) k).run P w = .ok (.pointer (some (p.add off))) w:=by
 obtain ⟨fs,f,i,hu,M,hi,h0,ho⟩:=dj6 h
 subst ho
 simp [Instr.fieldAt,run_underlying hu,M,Instr.sureAddr,fieldPlace,sizeOf,typeInfo,hi,h0]
theorem j8.fieldAddr{x:Operand}{T k:Nat}(h:U2 P T k=some off)(M:er L x=some (.pointer (some ⟨b,o,none⟩))) :
  j8 P κ N ⟨d,.fieldAddr T x k,ty,ps,af,gd⟩ L J (.pointer<|some ⟨b,o+off,none⟩):=
 λa w ha _=>by simp [execOp,ha.eval M,bd1 h,G9]
theorem da7.some{n:Nat}(h:da7 w sz v n cs)(hn:0<n):∃b off cap,v = .slice (some ⟨b,off,none⟩) n cap/\∀j u,cs[j]? = some u->w.cell? ⟨b,off+j,none⟩=some u:=by
 obtain ⟨a,cap,rfl,h1,h2,h3,M⟩:=h
 obtain ⟨b,off,rfl,h5⟩:=M (by omega)
 exact ⟨b,off,cap,rfl,h5⟩
theorem j8.dk3{x:Operand}{T k m n:Nat}(h:U2 P T k=some off)(M:er L x=some (F0 v m))(hv:au7 κ J sz v n cs)(hn:0<n) :
  j8 P κ N ⟨d,.fieldAddr T x k,ty,ps,af,gd⟩ L J (F0 v<|m+off):=
 λa w ha hs=>by
  obtain ⟨b,o,cap,rfl,_⟩:=(hv w hs).some hn
  simp [execOp,ha.eval M,F0,bd1 h,G9,Mf]
theorem j8.indexAddr{x y:Operand}{T n:Nat}{i:Int}(ht:P.underlying T=some (.slice E))(hE:tyF P E=some (sz,ag,by',z))(hx:er L x=some v)
  (hy:er L y=some (e7 i)) (hv:au7 κ J sz v n cs) (h0:0<=i) (hn:i<n):j8 P κ N ⟨d,.indexAddr T x y,ty,ps,af,gd⟩ L J (F0 v<|i.toNat*sz):=
 λa w M hs=>by
  obtain ⟨b,o,cap,rfl,_⟩:=(hv w hs).some (by omega)
  simp [execOp,M.eval hx,M.eval hy,Instr.indexAt,asIntOf,run_underlying ht,h0,hn,run_sizeOf hE,F0]
theorem j8.len{x:Operand}{T n:Nat}(M:P.underlying T=some (.slice E))(hx:er L x=some v)(hv:au7 κ J sz v n cs) :
  j8 P κ N ⟨d,.call {callee:= .builtin .len,args:= #[x],argTypes:= #[T]},ty,ps,af,gd⟩ L J (e7 n):=
 λa w ha hs=>by
  obtain ⟨ad,cap,rfl,_⟩:=hv w hs
  simp [execOp,resolve,invoke,builtin,ha.eval hx,Builtin.len_,run_underlying M,goInt]
theorem j8.lens{x:Operand}{T n c:Nat}(M:P.underlying T=some (.slice E))(hx:er L x=some (.slice ad n c)) :
  j8 P κ N ⟨d,.call {callee:= .builtin .len,args:= #[x],argTypes:= #[T]},ty,ps,af,gd⟩ L J (e7 n):=
 λa w ha hs=>by
  simp [execOp,resolve,invoke,builtin,ha.eval hx,Builtin.len_,run_underlying M,goInt]
theorem j8.load{x:Operand}{T:Nat}(hT:tyF P T=some (sz,false,by',z))(M:er L x=some (.pointer (some ⟨b,o,none⟩)))(hb:e8 b cs E∈J)(hc:cs[o]? = some v) :
  j8 P κ N ⟨d,.load T x,ty,ps,af,gd⟩ L J v:=
 λa w ha hs=>by
  have:=am6 (w:=w) (hs.ok _ hb).1 o
  simp [execOp,ha.eval M,Instr.loadAt,Instr.sureAddr,aa2 hT<|this.trans hc]
theorem j8.as0{x:Operand}{T:Nat}(hT:tyF P T=some (sz,true,by',z))(hx:er L x=some (.pointer (some ⟨b,o,none⟩)))(hb:e8 b cs E∈J)(hc:(cs.drop o).take sz=vs)(hl:vs.length=sz) :
  j8 P κ N ⟨d,.load T x,ty,ps,af,gd⟩ L J (.agg vs.toArray):=
 λa w ha hs=>by
  have M:=λj=>am6 (w:=w) (hs.ok _ hb).1 j
  have:(loadVar T ⟨b,o,none⟩).run P w = .ok (.agg vs.toArray) w:=aa0 hT hl λj u hj=>by
   rw [G9,M,←hj,←hc,Je,B_<|by have:=(Gw.1 hj).1;omega,Ju]
  simp [execOp,ha.eval hx,Instr.loadAt,Instr.sureAddr,this]
theorem j8.br7{x:Operand}{T n k:Nat}(hT:tyF P T=some (s,false,by',z))(hx:er L x=some (F0 v k))(hv:au7 κ J sz v n cs)(hc:cs[k]? = some u) :
  j8 P κ N ⟨d,.load T x,ty,ps,af,gd⟩ L J u:=
 λa w ha hs=>by
  have hn:0<n:=Ky λh=>by
   obtain ⟨_,_,_,M,_⟩:=hv w hs
   have:=(Gw.1 hc).1
   subst h
   simp at M
   simp [M] at this
  obtain ⟨b,o,cap,rfl,hr⟩:=(hv w hs).some hn
  simp [execOp,ha.eval hx,F0,G9,Instr.loadAt,Instr.sureAddr,aa2 hT<|hr k u hc]
theorem j8.dg9{x:Operand}{T n k:Nat}(hT:tyF P T=some (s,true,by',z))(hx:er L x=some (F0 v k))(hv:au7 κ J sz v n cs)(hn:0<n)(hc:∀j u,M[j]? = some u->cs[k+j]? = some u)
  (hl:M.length=s):j8 P κ N ⟨d,.load T x,ty,ps,af,gd⟩ L J (.agg M.toArray):=
 λa w ha hs=>by
  obtain ⟨b,o,cap,rfl,hr⟩:=(hv w hs).some hn
  have:(loadVar T ⟨b,o+k,none⟩).run P w = .ok (.agg M.toArray) w:=aa0 hT hl λj u hj=>by
   rw [G9,Mf]
   exact hr (k+j) u<|hc j u hj
  simp [execOp,ha.eval hx,F0,G9,Instr.loadAt,Instr.sureAddr,this]
def H8(P:Program)(T:TypeId):Sem (Array (Nat×Nat)):=
 match P.underlying T with
 |some (.struct fs)=>fs.mapM λf=>do pure (f.offset,←sizeOf f.type)
 |_=>pure #[]
theorem j8.build{T:Nat}{fs:Array Field}{M:List (Nat×Operand)}{aa:Array (Nat×Nat)}(hT:tyF P T=some (sz,ag,by',z))(ht:P.underlying T=some (.struct fs))
  (ai:∀w:World,(H8 P T).run P w = .ok aa w)
  (hp:T5 L (M.map (·.2))=some vs) (hf:Instr.fill (aa[·]?) z.toArray ((M.map (·.1)).zip vs)=some cells.toArray):j8 P κ N ⟨d,.build T M.toArray,ty,ps,af,gd⟩ L J (.agg cells.toArray):=
 λa w ha hs=>by
  obtain ⟨zv,hz,ae⟩:=aa1 hT w
  have ah:M.map (λp=>(p.1,a.eval p.2))=(M.map (·.1)).zip vs:=by
   rw [←ha.T5 hp]
   clear hp hf
   induction M with
   |nil=>rfl
   |cons p ps ih=>simp [ih]
  have ad:List.map (λx:Nat×Operand=>match x with |(i,x)=>(i,a.eval x)) M=(M.map (·.1)).zip vs:=ah
  have ab:=ai w
  simp only [H8,ht] at ab
  simp only [execOp,Instr.build,Sem.run_bind,hz,Result.andThen_ok,run_underlying ht,ab,Jp,ad,ae,hf,Sem.run_pure]
theorem j8.slice{x:Operand}{T n c l h:Nat}{lo hi:Option Operand}(ht:P.underlying T=some (.slice E))(hE:tyF P E=some (sz,ag,by',z))(hx:er L x=some (.slice ad n c))
  (ae:(lo=none/\l=0)\/∃y,lo=some y/\er L y=some (e7 l)) (ah:(hi=none/\h=n)\/∃y,hi=some y/\er L y=some (e7 h)) (aa:l<=h) (M:h<=c) :
  j8 P κ N ⟨d,.slice T x lo hi none,ty,ps,af,gd⟩ L J (.slice (if c=l then ad else ad.map (·.add (l*sz))) (h - l)<|c - l):=
 λa w ha hs=>by
  have h1:((l:Int)<=(h:Int)):=by omega
  have h2:((h:Int)<=(c:Int)):=by omega
  have ai:(Instr.sliceBounds true n c (lo.map a.eval) (hi.map a.eval) none).run P w = .ok (l,h,c) w:=by
   rcases ae with ⟨rfl,rfl⟩|⟨y,rfl,hy⟩<;>rcases ah with ⟨rfl,rfl⟩|⟨y',rfl,ab⟩
   ·simp [Instr.sliceBounds]
   ·simp [Instr.sliceBounds,ha.eval ab,Instr.sliceBound,asIntOf,M]
   ·simp [Instr.sliceBounds,ha.eval hy,Instr.sliceBound,asIntOf,aa]
   simp [Instr.sliceBounds,ha.eval hy,ha.eval ab,Instr.sliceBound,asIntOf,aa,M]
  simp [execOp,Instr.sliceAt,Instr.slice,run_underlying ht,ha.eval hx,ai,run_sizeOf hE]
def G7:List Value->Prop
 |[]=>True
 |v::vs=>v.oneCell'=true/\G7 vs
theorem G7.nil:G7 []:=trivial
theorem G7.cons(h:v.oneCell'=true)(t:G7 vs):G7 (v::vs):=⟨h,t⟩
theorem G7.all:∀{vs:List Value},G7 vs->∀u∈vs,u.oneCell'=true
 |[],_,u,hu=>by cases hu
 |v::vs,h,u,hu=>by
  rcases Fw.1 hu with rfl|hu
  ·exact h.1
  exact G7.all h.2 u hu
theorem Eff.Q6{o:Oper}{R:Env->List Item->Prop}(hd:o.dst=some dd)(hN:Nat.blt dd N.n=true)
  (h:∀a w,Ag N a L->Sep κ w I->∃v w' I',(execOp a.eval o).run P w = .ok (.value v) w'/\R ((dd,v)::L) I'/\Sep κ w' I'):Eff P κ N Q o L I R:=λa w ha hs=>by
 obtain ⟨v,w',I',hr,hR,M⟩:=h a w ha hs
 simp only [Oper.wp,hr,Oper.upon,hd]
 exact ⟨_,_,hR,ha.put dd hN v,M⟩
theorem Eff.br2{o:Oper}{R:Env->List Item->Prop}(hd:o.dst=none)
  (h:∀a w,Ag N a L->Sep κ w I->∃w' I',(execOp a.eval o).run P w = .ok .skip w'/\R L I'/\Sep κ w' I'):Eff P κ N Q o L I R:=λa w ha hs=>by
 obtain ⟨w',I',hr,hR,M⟩:=h a w ha hs
 simp only [Oper.wp,hr,Oper.upon,hd]
 exact ⟨_,_,hR,ha,M⟩
theorem bk9(hs:Sep κ w I)(cs:List Value)(T:TypeId):Sep κ (w.alloc (.cells cs.toArray T)) (e8 w.heap.size cs T::I):=
 hs.new (hs.alloc _) (heap_alloc_new w _) λk M=>by obtain rfl:k=_:=M;exact ⟨Gd _,by simp⟩
theorem Eff.alloc{T:Nat}(hT:tyF P T=some (sz,ag,by',z))(hN:Nat.blt dd N.n=true) :
  Eff P κ N Q ⟨some dd,.alloc T,ty,ps,af,gd⟩ L I λL' I'=>∃b,L'=(dd,pt b)::L/\I'=e8 b z T::I:=
 Eff.Q6 rfl hN λa w ha hs=>by
  obtain ⟨zv,hz,M⟩:=aa1 hT w
  exact ⟨_,_,_,by simp [execOp,Instr.alloc,hz,newVar,newRow,M],⟨_,rfl,rfl⟩,bk9 hs z T⟩
theorem Eff.box{x:Operand}{T:Nat}(hx:er L x=some v)(hc:cellsOf v=cs)(hN:Nat.blt dd N.n=true) :
  Eff P κ N Q ⟨some dd,.box T x,ty,ps,af,gd⟩ L I λL' I'=>∃b,L'=(dd,pt b)::L/\I'=e8 b cs T::I:=
 Eff.Q6 rfl hN λa w ha hs=>by
  have M:v.cells=cs.toArray:=by rw [←hc];simp [cellsOf]
  exact ⟨_,_,_,by simp [execOp,Instr.box,ha.eval hx,newVar,newRow,M],⟨_,rfl,rfl⟩,bk9 hs cs T⟩
theorem Eff.store{x y:Operand}{T:Nat}(hT:tyF P T=some (sz,ag,by',z))(hx:er L x=some (.pointer (some ⟨b,o,none⟩)))(hy:er L y=some v)
  (hv:cellsOf v=vs) (hl:vs.length=sz) (h1:∀u∈vs,u.oneCell'=true) (hr:o+vs.length<=cs.length) (ab:cs.take o++vs++cs.drop (o+vs.length)=cs') (M:At I (e8 b cs E) (e8 b cs' E) I') :
  Eff P κ N Q ⟨none,.store T x y,ty,ps,af,gd⟩ L I λL' I''=>L'=L/\I''=I':=
 Eff.br2 rfl λa w ha hs=>by
  have hb:=(hs.ok _ M.mem).1
  have aa:=ay2 hT hv hl h1 hb hr
  rw [ab] at aa
  refine ⟨_,I',by simp [execOp,ha.eval hx,ha.eval hy,Instr.storeAt,Instr.sureAddr,aa];rfl,⟨rfl,rfl⟩,?_⟩
  exact hs.upd M rfl ⟨rfl,Gd _⟩ rfl (by simp) (λk _ ad=>setRow_other w b k _ λe=>ad e) (setRow_heap w b cs.toArray _ E _ hb) λk hk=> .inl hk
theorem av0.some{n:Nat}(h:av0 w e sz v n cs)(hn:0<n) :
  ∃b off cap M,v = .slice (some ⟨b,off,none⟩) n cap/\cs.length=n*sz/\n<=cap/\cap<=maxLen/\w.heap[b]? = some (.cells M e (0,0))/\off+cap*sz<=M.size/\∀j u,cs[j]? = some u->M[off+j]? = some u:=by
 obtain ⟨a,cap,rfl,h1,h2,h3,h4⟩:=h
 obtain ⟨b,off,M,rfl,h5,h6,h7⟩:=h4 (by omega)
 exact ⟨b,off,cap,M,rfl,h1,h2,h3,h5,h6,h7⟩
theorem Eff.dc5{x y:Operand}{T n k:Nat}(hT:tyF P T=some (s,ag,by',z))(hx:er L x=some (F0 v k))(hy:er L y=some u)
  (hv:cellsOf u=vs) (hl:vs.length=s) (h1:∀u∈vs,u.oneCell'=true) (hn:0<n) (hr:k+vs.length<=cs.length) (ai:cs.take k++vs++cs.drop (k+vs.length)=cs') (ae:At I (vec e sz v n cs) (vec e sz v n cs') I') :
  Eff P κ N Q ⟨none,.store T x y,ty,ps,af,gd⟩ L I λL' I''=>L'=L/\I''=I':=
 Eff.br2 rfl λa w ha hs=>by
  obtain ⟨b,off,cap,ab,rfl,aj,ad,aq,hb,ap,aa⟩:=av0.some (hs.ok _ ae.mem).1 hn
  have ak:w.heap[b]? = some (.cells ab.toList.toArray e (0,0)):=by simpa using hb
  have ar:n*sz<=cap*sz:=Hi sz ad
  have ao:=ay2 hT hv hl h1 ak (o:=off+k) (by simp only [Hh];omega)
  refine ⟨_,I',by simp [execOp,ha.eval hx,ha.eval hy,F0,G9,Instr.storeAt,Instr.sureAddr];rw [ao];simp;rfl,⟨rfl,rfl⟩,?_⟩
  refine hs.upd ae rfl ⟨rfl,Gd _⟩ rfl (by simp) (λk' _ an=>setRow_other w b k' _ λe=>an<|by subst e;exact ⟨off,n,cap,rfl,by omega⟩) ?_ λk hk=> .inl hk
  have ah:cs'.length=cs.length:=by rw [←ai];simp only [By,Fp,Fx];omega
  refine ⟨_,cap,rfl,ah.trans aj,ad,aq,λhc=>⟨b,off,_,rfl,setRow_heap w b ab _ e _ hb,?_,λj u' M=>?_⟩⟩
  ·simp only [Ji,By,Fp,Fx,Hh];omega
  have au:j<cs.length:=by rw [←ah];exact (Gw.1 M).1
  have hA:(ab.toList.take<|off+k).length=off+k:=by simp only [Fp,Hh];omega
  have hB:(cs.take k).length=k:=by simp only [Fp];omega
  rw [←ai] at M
  simp only [Jm]
  rw [Fr] at M
  try rw [Fr]
  by_cases hjk:j<k
  ·rw [Gu (by omega),Je,B_ hjk] at M
   rw [Gu (by omega),Je,B_<|by omega]
   simpa using aa j u' M
  rw [Hf (by omega),hB] at M
  rw [Hf (by omega),hA,show off+j - (off+k)=j - k from by omega]
  by_cases hjv:j - k<vs.length
  ·rw [Gu hjv] at M
   rw [Gu hjv]
   exact M
  rw [Hf (by omega),Ju,show k+vs.length+(j - k - vs.length)=j from by omega] at M
  rw [Hf (by omega),Ju,show off+k+vs.length+(j - k - vs.length)=off+j from by omega]
  simpa using aa j u' M
theorem Eff.append{x y:Operand}{n m:Nat}{ds:List Value}(ht:P.underlying t=some (.slice e))(hT:tyF P e=some (sz,ag,by',z))(ab:z.length=sz)(hx:er L x=some v)(hy:er L y=some u)
  (hv:vec e sz v n cs∈I) (hu:au7 κ I sz u m ds) (h1:∀u∈ds,u.oneCell'=true) (ai:n+m<=maxLen) (ah:(n+m)*by'<=140737488355328) (hN:Nat.blt dd N.n=true) {I':Option Addr->Nat->List Item} (ae:∀ad c,At I (vec e sz v n cs) (vec e sz (.slice ad (n+m) c) (n+m)<|cs++ds)<|I' ad c) :
  Eff P κ N Q ⟨some dd,.call {callee:= .builtin .append,args:= #[x,y],argTypes:= #[t,t]},ty,ps,af,gd⟩ L I λL' I''=>∃ad c,L'=(dd,.slice ad (n+m) c)::L/\I''=I' ad c:=
 Eff.Q6 rfl hN λa w ha hs=>by
  obtain ⟨v',w',hr,aj,ho,an,aa,ak,hk,hf⟩:=bj6 (P:=P) (ty:=ty) ht hT ab (hs.ok _ hv).1 (hu w hs) h1 ai ah
  obtain ⟨ad,c,rfl,M⟩:=aj
  refine ⟨_,w',I' ad c,by simp [execOp,resolve,invoke,builtin,ha.eval hx,ha.eval hy,hr],⟨ad,c,rfl,rfl⟩,?_⟩
  exact hs.upd (ae _ _) ho an aa ak hk ⟨ad,c,rfl,M⟩ hf
theorem Eff.makeSlice{x y:Operand}{n:Nat}(ht:P.underlying t=some (.slice e))(hT:tyF P e=some (sz,ag,by',z))(ab:z.length=sz)(hx:er L x=some (e7 n))(hy:er L y=some (e7 n))
  (ah:n<=maxLen) (ae:n*by'<=281474976710656) (hN:Nat.blt dd N.n=true) :
  Eff P κ N Q ⟨some dd,.makeSlice t x y,ty,ps,af,gd⟩ L I λL' I''=>∃ad c,L'=(dd,.slice ad n c)::L/\I''=vec e sz (.slice ad n c) n (List.replicate n z).flatten::I:=
 Eff.Q6 rfl hN λa w ha hs=>by
  obtain ⟨v',w',hr,ai,ho,an,aa,ak,hk,hf⟩:=av4 (P:=P) (w:=w) ht hT ab n ah ae
  obtain ⟨ad,c,rfl,M⟩:=ai
  refine ⟨_,w',_,by simp [execOp,ha.eval hx,ha.eval hy,hr],⟨ad,c,rfl,rfl⟩,?_⟩
  refine hs.new (hs.frame ho an aa ak λx hx k aj=>hk k<|(hs.ok x hx).2 k aj) ⟨ad,c,rfl,M⟩ hf
theorem Eff.buildSlice{n:Nat}{M:List (Nat×Operand)}(ht:P.underlying t=some (.slice e))(hT:tyF P e=some (sz,ag,by',z))(aa:z.length=sz)
  (hp:T5 L (M.map (·.2))=some vs) (hn:0<n*sz) (an:n*sz<=16777216)
  (hf:Instr.fill (λi=>some (i*sz,sz)) (List.replicate n z).flatten.toArray ((M.map (·.1)).zip vs)=some cells.toArray) (hl:cells.length=n*sz) (hN:Nat.blt dd N.n=true) :
  Eff P κ N Q ⟨some dd,.buildSlice t n M.toArray,ty,ps,af,gd⟩ L I λL' I''=>∃ad,L'=(dd,.slice ad n n)::L/\I''=vec e sz (.slice ad n n) n cells::I:=
 Eff.Q6 rfl hN λa w ha hs=>by
  obtain ⟨zv,hz,aj⟩:=aa1 hT w
  have ai:M.map (λp=>(p.1,a.eval p.2))=(M.map (·.1)).zip vs:=by
   rw [←ha.T5 hp]
   clear hp hf
   induction M with
   |nil=>rfl
   |cons p ps ih=>simp [ih]
  have ae:List.map (λx:Nat×Operand=>match x with |(i,x)=>(i,a.eval x)) M=(M.map (·.1)).zip vs:=ai
  have ab:(Array.range<|n*sz).map (λj=>zv.cells[j % zv.cells.size]!)=(List.replicate n z).flatten.toArray:=by
   apply Array.ext'
   simp only [Md,Ll]
   rw [aj]
   apply Mt
   intro j
   simp only [Kr,Ji,aa]
   by_cases hj:j<n*sz
   ·have hs:0<sz:=Ky λh=>by subst h;simp at hj
    rw [Ml hj]
    have ah:j % sz<z.length:=by rw [aa];exact Nat.mod_lt _ hs
    rw [aa9 z n j (by rw [aa];exact hs) (by rw [aa];exact hj),aa]
    simp [ah]
   rw [Jn (by simpa using hj),Jn (by rw [aw2,aa];omega)]
   rfl
  have h0:¬n*sz=0:=by omega
  have h1:¬16777216<n*sz:=by omega
  have ak:(Instr.buildSlice t n ((M.map (·.1)).zip vs).toArray).run P w = .ok (.slice (some ⟨w.heap.size,0,none⟩) n n) (w.alloc<|.cells cells.toArray e):=by
   simp [Instr.buildSlice,run_underlying ht,run_sizeOf hT,h0,h1,hz,ab,hf,newRow]
  refine ⟨.slice (some ⟨w.heap.size,0,none⟩) n n,_,_,by simp only [execOp,Jp,ae];rw [Sem.run_bind,ak];rfl,⟨_,rfl,rfl⟩,?_⟩
  refine hs.new (hs.alloc _) ⟨_,n,rfl,hl,Gd _,?_,λ_=>⟨w.heap.size,0,_,rfl,heap_alloc_new w _,by simp [hl],λj u hj=>by simpa using hj⟩⟩ λk hk=>?_
  ·have hs:0<sz:=Ky λh=>by subst h;simp at hn
   have:=Lm n hs
   simp only [maxLen];omega
  obtain ⟨o,n',c',he,ao⟩:=hk
  cases he
  exact ⟨Gd _,by simp⟩
theorem bt3{f: FuncId}(h : V5 P f = true) : ∃ fn, P.funcs[f]? = some fn ∧ (fn.name == "runtime.NumGoroutine") = false ∧ fn.body.isNone = false := by
 unfold V5 at h
 split at h
 ·rename_i fn hf
  simp at h
  exact ⟨fn,hf,by simpa using h.1,by
   cases hb:fn.body with
   |none=>simp [hb] at h
   |some _=>rfl⟩
 cases h
theorem ai3{f:FuncId}(h:V5 P f=true)(M:Array Value)(w:World):(callFunc f M).run P w = .ok (.enter f M) w:=by
 obtain ⟨fn,ad,ab,aa⟩:=bt3 h
 simp only [callFunc,Sem.run_bind,run_program,Result.andThen_ok,ad,ab,aa,Bool.false_eq_true,if_false]
 rfl
theorem Eff.call{f:FuncId}{as:Array TypeId}{Post:Value->List Item->Prop}(hf:V5 P f=true)(hx:T5 L xs=some vs)(hN:Nat.blt dd N.n=true)(hc:eu P κ f vs I Post) :
  Eff P κ N Q ⟨some dd,.call {callee:= .value (.func f),args:=xs.toArray,argTypes:=as},ty,ps,af,gd⟩ L I λL' I''=>∃v J,Post v J/\L'=(dd,v)::L/\J=I'':=λa w ha hs=>by
 have he:(execOp a.eval ⟨some dd,.call {callee:= .value (.func f),args:=xs.toArray,argTypes:=as},ty,ps,af,gd⟩).run P w = .ok (.enter f vs.toArray) w:=by
  have e1:a.eval (.func f) = .func (.func f) #[] #[]:=rfl
  simp only [execOp,resolve,e1,Deferred.ofValue,invoke,Sem.run_bind,Sem.run_pure,Result.andThen_ok,Jp,ha.T5 hx,ai3 hf]
  simp
 simp only [Oper.wp,he,Oper.upon]
 refine (hc w hs).mono λe w' ⟨v,J,M,hp,aa⟩=>?_
 subst M
 exact ⟨_,_,⟨v,J,hp,rfl,rfl⟩,ha.put dd hN v,aa⟩
theorem Eff.gi1{f:FuncId}{x:Operand}{first caps:List Value}{as:Array TypeId}{Post:Value->List Item->Prop}(hf:V5 P f=true)(M:er L x=some (.func (.func f) first.toArray caps.toArray))
  (hx:T5 L xs=some vs) (hN:Nat.blt dd N.n=true) (hc:eu P κ f (first++vs++caps) I Post) :
  Eff P κ N Q ⟨some dd,.call {callee:= .value x,args:=xs.toArray,argTypes:=as},ty,ps,af,gd⟩ L I λL' I''=>∃v J,Post v J/\L'=(dd,v)::L/\J=I'':=λa w ha hs=>by
 have he:(execOp a.eval ⟨some dd,.call {callee:= .value x,args:=xs.toArray,argTypes:=as},ty,ps,af,gd⟩).run P w = .ok (.enter f (first++vs++caps).toArray) w:=by
  simp only [execOp,resolve,ha.eval M,Deferred.ofValue,invoke,Sem.run_bind,Sem.run_pure,Result.andThen_ok,Jp,ha.T5 hx,ai3 hf]
  simp
 simp only [Oper.wp,he,Oper.upon]
 refine (hc w hs).mono λe w' ⟨v,J,aa,hp,ab⟩=>?_
 subst aa
 exact ⟨_,_,⟨v,J,hp,rfl,rfl⟩,ha.put dd hN v,ab⟩
def ch5(κ:Ctx)(Post:Value->List Item->Prop):Ending->World->Prop:=λe w'=>∃v J,e = .returned v/\Post v J/\Sep κ w' J
theorem eu.enter{f:FuncId}{c:Code}{n:Nat}{Post:Value->List Item->Prop}(hf:P.funcs[f]? = some fn)(hb:fn.body=some c)(hN:fn.ntmps=n)(hl:Nat.ble M.length n=true)(hL:bo2 0 M=L)
  (h:W P κ ⟨n,[]⟩ c (bodyPost P fn<|ch5 κ Post) L I):eu P κ f M I Post:=λw hs=>by
 refine calls_of_wp hf hb ?_
 rw [hN]
 subst hL
 exact h _ w (Ag.start M n<|by simpa using hl) hs
theorem V.ret1{t:Tmp}{Post:Value->List Item->Prop}(hr:fn.results = #[.tmp t])(hv:look L t=some v)(J:List Item)(hf:Fit κ I J)(hp:Post v J)(h0:N.ds=[]:=by rfl):V κ N (bodyPost P fn (ch5 κ Post)) .ret L I:=
 λa w M hs=>bodyPost_ret (v:=v) (by rw [results_tmp hr];simp [M.get t v hv]) (M.defers.trans h0) ⟨v,J,rfl,hp,hf w hs⟩
theorem V.ret2{t u:Tmp}{M:Value}{Post:Value->List Item->Prop}(hr:fn.results = #[.tmp t,.tmp u])(hv:look L t=some v)(aa:look L u=some M)(J:List Item)(hf:Fit κ I J)(hp:Post (.tuple #[v,M]) J)(h0:N.ds=[]:=by rfl):V κ N (bodyPost P fn (ch5 κ Post)) .ret L I:=
 λa w ha hs=>bodyPost_ret (v:= .tuple #[v,M]) (by rw [results_tmp2 hr];simp [ha.get t v hv,ha.get u M aa]) (ha.defers.trans h0) ⟨_,J,rfl,hp,hf w hs⟩
theorem V.end0{M:Func}{Post:Value->List Item->Prop}(hr:M.results = #[])(J:List Item)(hf:Fit κ I J)(hp:Post (.tuple #[]) J)(h0:N.ds=[]:=by rfl):V κ N (bodyPost P M (ch5 κ Post)) .normal L I:=
 λa w ha hs=>bodyPost_end (v:= .tuple #[]) (by rw [results_none hr]) (ha.defers.trans h0) ⟨_,J,rfl,hp,hf w hs⟩
theorem V.retc{t:Tmp}{T:Nat}{Post:Value->List Item->Prop}(hr:fn.results = #[.cell t T])(hT:tyF P T=some (sz,true,by',z))(hv:look L t=some ((pt b)))(hb:e8 b cs E∈I)(hl:cs.length=sz)
  (J:List Item) (hf:Fit κ I J) (hp:Post (.agg cs.toArray) J) (h0:N.ds=[]:=by rfl):V κ N (bodyPost P fn<|ch5 κ Post) .ret L I:=
 λa w ha hs=>by
  have M:=λj=>am6 (w:=w) (hs.ok _ hb).1 j
  have aa:(loadVar T ⟨b,0,none⟩).run P w = .ok (.agg cs.toArray) w:=aa0 hT hl λj u hj=>by rw [G9,M,←hj];simp
  refine bodyPost_ret (v:= .agg cs.toArray) ?_ (ha.defers.trans h0) ⟨_,J,rfl,hp,hf w hs⟩
  simp [results,hr,ha.get t _ hv,asAddr,aa]
theorem V.gf3{t u:Tmp}{T:Nat}{v':Value}{Post:Value->List Item->Prop}(hr:fn.results = #[.cell t T,.tmp u])(hT:tyF P T=some (sz,true,by',z))(hv:look L t=some ((pt b)))(ab:look L u=some v')(hb:e8 b cs E∈I)
  (hl:cs.length=sz) (J:List Item) (hf:Fit κ I J) (hp:Post (.tuple #[.agg cs.toArray,v']) J) (h0:N.ds=[]:=by rfl):V κ N (bodyPost P fn<|ch5 κ Post) .ret L I:=
 λa w ha hs=>by
  have M:=λj=>am6 (w:=w) (hs.ok _ hb).1 j
  have aa:(loadVar T ⟨b,0,none⟩).run P w = .ok (.agg cs.toArray) w:=aa0 hT hl λj u hj=>by rw [G9,M,←hj];simp
  refine bodyPost_ret (v:= .tuple #[.agg cs.toArray,v']) ?_ (ha.defers.trans h0) ⟨_,J,rfl,hp,hf w hs⟩
  simp [results,hr,ha.get t _ hv,ha.get u _ ab,asAddr,aa]
end
end Go.Sl
namespace Go.Sl
variable{i m:Int}{x y:Operand}{E T by' c dd e h l n s t:Nat}{ag:Bool}{z:List Value}{u:Value}{I':List Item}{ad:Option Addr}
class Enc (α:Type) where
 enc:α->List Value
 sz:Nat
 pos:0<sz
 len:∀x,(enc x).length=sz
 one:∀x,∀u∈enc x,u.oneCell'=true
instance:Enc Bool:=⟨λb=>[.bool b],1,by omega,λ_=>rfl,λ_ u h=>by simp at h;subst h;rfl⟩
instance:Enc Int:=⟨λn=>[e7 n],1,by omega,λ_=>rfl,λ_ u h=>by simp at h;subst h;rfl⟩
def e_{α:Type}[Inhabited α](xs:List α)(i:Int):α:=xs.getD i.toNat default
theorem bj9{α:Type}[Inhabited α]{xs:List α}(M:0<=i)(hn:i<xs.length):e_ xs i=xs[i.toNat]'(by omega):=by
 simp [e_,Hq,H_ (show i.toNat<xs.length by omega)]
def cells{α:Type}[Enc α](xs:List α):List Value:=xs.flatMap Enc.enc
def Sl{α:Type}[Enc α](κ:Ctx)(I:List Item)(v:Value)(xs:List α):Prop:=au7 κ I (Enc.sz α) v xs.length (cells xs)
def vc{α:Type}[Enc α](e:TypeId)(v:Value)(xs:List α):Item:=vec e (Enc.sz α) v xs.length (cells xs)
abbrev vk{α:Type}[Enc α](e:TypeId)(a:Option Addr)(c:Nat)(l:List α):Item:=vc e (.slice a l.length c) l
section
variable {α:Type}[Enc α]
theorem V0(x:α)(xs:List α):cells (x::xs)=Enc.enc x++cells xs:=rfl
theorem K8(xs ys:List α):cells (xs++ys)=cells xs++cells ys:=by simp [cells]
theorem r9(xs:List α):(cells xs).length=xs.length*Enc.sz α:=by
 induction xs with
 |nil=>simp [cells]
 |cons x xs ih=>rw [V0,By,ih,Enc.len,E_,Jg];omega
theorem cells_one(xs:List α):∀u∈cells xs,u.oneCell'=true:=λu hu=>by
 obtain ⟨x,_,M⟩:=Kv.1 hu
 exact Enc.one x u M
theorem W1(xs:List α):∀(i j:Nat) (hi:i<xs.length),j<Enc.sz α->(cells xs)[i*Enc.sz α+j]? = (Enc.enc xs[i])[j]? :=by
 induction xs with
 |nil=>intro i j hi;simp at hi
 |cons x xs ih=>
  intro i j hi M
  rw [V0]
  cases i with
  |zero=>
   rw [Gu (by rw [Enc.len];omega)]
   simp
  |succ i=>
   have e:(i+1)*Enc.sz α+j=Enc.sz α+(i*Enc.sz α+j):=by rw [Jg];omega
   rw [e,Hf (by rw [Enc.len];omega),Enc.len,Kg,ih i j (by simpa using hi) M]
   simp
theorem R3(xs:List α)(i:Nat):cells (xs.take i)=(cells xs).take (i*Enc.sz α):=by
 induction xs generalizing i with
 |nil=>simp [cells]
 |cons x xs ih=>
  cases i with
  |zero=>simp [cells]
  |succ i=>
   have e:(i+1)*Enc.sz α=Enc.sz α+i*Enc.sz α:=by rw [Jg];omega
   have M:(Enc.enc x).take (Enc.sz α+i*Enc.sz α)=Enc.enc x:=Fv (by rw [Enc.len];omega)
   rw [List.take_succ_cons,V0,V0,ih,List.take_append,Enc.len,e,M,Kg]
theorem Z3(xs:List α)(i:Nat):cells (xs.drop i)=(cells xs).drop (i*Enc.sz α):=by
 induction xs generalizing i with
 |nil=>simp [cells]
 |cons x xs ih=>
  cases i with
  |zero=>simp [cells]
  |succ i=>
   have e:(i+1)*Enc.sz α=Enc.sz α+i*Enc.sz α:=by rw [Jg];omega
   have M:(Enc.enc x).drop (Enc.sz α+i*Enc.sz α)=[]:=Ha (by rw [Enc.len];omega)
   rw [List.drop_succ_cons,V0,ih,List.drop_append,Enc.len,e,M,Kg,Km]
theorem dn3(xs:List α)(i:Nat)(x:α)(hi:i<xs.length):(cells xs).take (i*Enc.sz α)++Enc.enc x++(cells xs).drop (i*Enc.sz α+Enc.sz α)=cells (xs.set i x):=by
 have M:xs.set i x=xs.take i++x::xs.drop (i+1):=List.set_eq_take_append_cons_drop.trans (by rw [B_ hi])
 rw [M,K8,V0,R3,Z3,Jg,Nat.one_mul,Fr]
variable {κ:Ctx}{I J:List Item}{v:Value}{xs:List α}
theorem Sl.fit(h:Sl κ I v xs)(M:Fit κ J I):Sl κ J v xs:=au7.fit h M
theorem Sl.vec{e:TypeId}(h:vc e v xs∈I):Sl κ I v xs:=au7.vec h
theorem Sl.nil(I:List Item):Sl κ I (.slice none 0 0) ([]:List α):=au7.nil I _
theorem Sl.le(h:Sl κ I v xs):∀w,Sep κ w I->xs.length<=9223372036854775807:=λw hs=>by
 obtain ⟨_,_,_,_,h1,M,_⟩:=h w hs
 simp only [maxLen] at M
 omega
end
section
variable {P:Program}{κ:Ctx}{N:Frm}{Q:Exit->Act->World->Prop}{L:Env}{I J:List Item}
variable {d:Option Tmp}{ty:TypeId}{ps:String}{af:Array Edge}{gd:Option (Nat×Bool)}
variable {α:Type}[Enc α]{v:Value}{xs:List α}
theorem j8.idx(M:P.underlying T=some (.slice E))(hE:tyF P E=some (Enc.sz α,ag,by',z))(hx:er L x=some v)
  (hy:er L y=some (e7 i)) (hv:Sl κ J v xs) (h0:0<=i) (hn:i<xs.length):j8 P κ N ⟨d,.indexAddr T x y,ty,ps,af,gd⟩ L J (F0 v<|i.toNat*Enc.sz α):=
 j8.indexAddr M hE hx hy hv h0 hn
theorem j8.gk5(M:P.underlying T=some (.slice E))(hx:er L x=some v)(hv:Sl κ J v xs) :
  j8 P κ N ⟨d,.call {callee:= .builtin .len,args:= #[x],argTypes:= #[T]},ty,ps,af,gd⟩ L J (e7 xs.length):=j8.len M hx hv
theorem j8.get{xs:List Int}(hT:tyF P T=some (s,false,by',z))(M:er L x=some (F0 v (i.toNat*Enc.sz Int)))(hv:Sl κ J v xs)(h0:0<=i)(hn:i<xs.length) :
  j8 P κ N ⟨d,.load T x,ty,ps,af,gd⟩ L J (e7<|e_ xs i):=
 j8.br7 hT M hv (by
  have:=W1 xs i.toNat 0 (by omega) (by decide)
  simp only [Kz] at this
  rw [this,bj9 h0 hn];rfl)
theorem j8.getB{xs:List Bool}(hT:tyF P T=some (s,false,by',z))(M:er L x=some (F0 v (i.toNat*Enc.sz Bool)))(hv:Sl κ J v xs)(h0:0<=i)(hn:i<xs.length) :
  j8 P κ N ⟨d,.load T x,ty,ps,af,gd⟩ L J (.bool<|e_ xs i):=
 j8.br7 hT M hv (by
  have:=W1 xs i.toNat 0 (by omega) (by decide)
  simp only [Kz] at this
  rw [this,bj9 h0 hn];rfl)
theorem j8.gk7[Inhabited α](hT:tyF P T=some (Enc.sz α,true,by',z))(hx:er L x=some (F0 v (i.toNat*Enc.sz α)))(hv:Sl κ J v xs)(h0:0<=i)(hn:i<xs.length) :
  j8 P κ N ⟨d,.load T x,ty,ps,af,gd⟩ L J (.agg (Enc.enc<|e_ xs i).toArray):=
 j8.dg9 hT hx hv (by omega) (λj u hj=>by
  have M:j<Enc.sz α:=by rw [←Enc.len (e_ xs i)];exact (Gw.1 hj).1
  rw [W1 xs i.toNat j (by omega) M,←bj9 h0 hn];exact hj) (Enc.len _)
theorem j8.fld{k off m:Nat}(h:U2 P T k=some off)(M:er L x=some (F0 v m))(hv:Sl κ J v xs)(hn:0<xs.length) :
  j8 P κ N ⟨d,.fieldAddr T x k,ty,ps,af,gd⟩ L J (F0 v<|m+off):=j8.dk3 h M hv hn
theorem j8.gh0[Inhabited α]{j:Nat}(hT:tyF P T=some (s,false,by',z))(hx:er L x=some (F0 v (i.toNat*Enc.sz α+j)))(hv:Sl κ J v xs)(h0:0<=i)(hn:i<xs.length)
  (hu:(Enc.enc<|e_ xs i)[j]? = some u):j8 P κ N ⟨d,.load T x,ty,ps,af,gd⟩ L J u:=
 j8.br7 hT hx hv (by
  have M:j<Enc.sz α:=by rw [←Enc.len (e_ xs i)];exact (Gw.1 hu).1
  rw [W1 xs i.toNat j (by omega) M,←bj9 h0 hn];exact hu)
theorem Eff.set{new:α}(hT:tyF P T=some (Enc.sz α,ag,by',z))(hx:er L x=some (F0 v (i.toNat*Enc.sz α)))(hy:er L y=some u)
  (hu:cellsOf u=Enc.enc new) (h0:0<=i) (hn:i<xs.length) (M:At I (vc e v xs) (vc e v<|xs.set i.toNat new) I'):Eff P κ N Q ⟨none,.store T x y,ty,ps,af,gd⟩ L I λL' I''=>L'=L/\I''=I':=by
 have hs:=dn3 xs i.toNat new (by omega)
 have hl:=r9 xs
 refine Eff.dc5 (sz:=Enc.sz α) (n:=xs.length) (cs:=cells xs) (cs':=cells (xs.set i.toNat new)) (e:=e) hT hx hy hu (Enc.len _) (Enc.one _) (by omega) ?_ ?_ ?_
 ·rw [Enc.len,hl]
  have:(i.toNat+1)*Enc.sz α<=xs.length*Enc.sz α:=Hi _ (by omega)
  rw [Jg] at this
  omega
 ·rw [Enc.len];exact hs
 have:=M
 unfold vc at this
 rw [Fo] at this
 exact this
theorem Eff.app{ys:List α}(ht:P.underlying t=some (.slice e))(hT:tyF P e=some (Enc.sz α,ag,by',z))(aa:z.length=Enc.sz α)(hx:er L x=some v)(hy:er L y=some u)
  (hv:vc e v xs∈I) (hu:Sl κ I u ys) (ae:(xs.length+ys.length)*by'<=140737488355328) (M:0<by') (hN:Nat.blt dd N.n=true) {I':Option Addr->Nat->List Item} (ab:∀ad c,At I (vc e v xs) (vc e (.slice ad (xs++ys).length c)<|xs++ys)<|I' ad c) :
  Eff P κ N Q ⟨some dd,.call {callee:= .builtin .append,args:= #[x,y],argTypes:= #[t,t]},ty,ps,af,gd⟩ L I λL' I''=>∃ad c,L'=(dd,.slice ad (xs++ys).length c)::L/\I''=I' ad c:=by
 have ah:xs.length+ys.length<=maxLen:=by
  have:=Lm (xs.length+ys.length) M
  simp only [maxLen];omega
 have h:=Eff.append (P:=P) (κ:=κ) (N:=N) (Q:=Q) (ty:=ty) (ps:=ps) (af:=af) (gd:=gd) (I':=I') ht hT aa hx hy hv hu (cells_one ys) ah ae hN λad c=>by
  have:=ab ad c
  unfold vc at this
  rw [By,K8] at this
  exact this
 rw [←By] at h
 exact h
theorem bd2[Inhabited α]:∀(n:Nat),(List.replicate n (Enc.enc (default:α))).flatten=cells (List.replicate n (default:α))
 |0=>rfl
 |n+1=>by rw [Mk,Mk,V0,List.flatten_cons,bd2 n]
theorem Eff.make[Inhabited α](ht:P.underlying t=some (.slice e))(hT:tyF P e=some (Enc.sz α,ag,by',z))(hz:z=Enc.enc (default:α))(hx:er L x=some (e7 m))(hy:er L y=some (e7 m))(hm:m=(n:Int))
  (aa:n*by'<=281474976710656) (M:0<by') (hN:Nat.blt dd N.n=true) :
  Eff P κ N Q ⟨some dd,.makeSlice t x y,ty,ps,af,gd⟩ L I λL' I''=>∃ad c,L'=(dd,.slice ad (List.replicate n (default:α)).length c)::L/\I''=vc e (.slice ad (List.replicate n (default:α)).length c) (List.replicate n (default:α))::I:=by
 subst hm
 have ab:n<=maxLen:=by
  have:=Lm n M
  simp only [maxLen];omega
 have h:=Eff.makeSlice (P:=P) (κ:=κ) (N:=N) (Q:=Q) (L:=L) (I:=I) (ty:=ty) (ps:=ps) (af:=af) (gd:=gd) ht hT (by rw [hz,Enc.len]) hx hy ab aa hN
 have e:(List.replicate n z).flatten=cells (List.replicate n (default:α)):=by rw [hz,bd2]
 unfold vc
 rw [Fy]
 rw [e] at h
 exact h
def N9(ad:Option Addr)(c l sz:Nat):Option Addr:=if c=l then ad else ad.map (·.add (l*sz))
theorem Sl.take(hv:Sl κ I (.slice ad n c) xs)(hh:h<=xs.length):Sl κ I (.slice ad (xs.take h).length c) (xs.take h):=λw hs=>by
 obtain ⟨a,cap,he,h1,h2,h3,h4⟩:=hv w hs
 cases he
 refine ⟨ad,c,rfl,r9 _,by rw [Fp];omega,h3,λhc=>?_⟩
 obtain ⟨b,off,rfl,hr⟩:=h4 hc
 refine ⟨b,off,rfl,λj u M=>hr j u ?_⟩
 rw [R3,Je] at M
 split at M
 ·exact M
 cases M
theorem Sl.drop(hv:Sl κ I (.slice ad n c) xs)(hl:l<=xs.length):Sl κ I (.slice (N9 ad c l (Enc.sz α)) (xs.drop l).length (c - l)) (xs.drop l):=λw hs=>by
 obtain ⟨a,cap,he,h1,h2,h3,h4⟩:=hv w hs
 cases he
 refine ⟨_,c - l,rfl,by rw [r9,Fx],by rw [Fx];omega,by omega,λhc=>?_⟩
 obtain ⟨b,off,rfl,hr⟩:=h4 (by omega)
 refine ⟨b,off+l*Enc.sz α,by unfold N9;rw [An (by omega)];simp [G9],λj u M=>?_⟩
 rw [Z3,Ju] at M
 rw [Mf]
 exact hr _ u M
theorem j8.hi(M:P.underlying T=some (.slice E))(hE:tyF P E=some (Enc.sz α,ag,by',z))(hx:er L x=some (.slice ad n c))(hy:er L y=some (e7 m))(hm:m=(h:Int))
  (hv:Sl κ J (.slice ad n c) xs) (hh:h<=xs.length):j8 P κ N ⟨d,.slice T x none (some y) none,ty,ps,af,gd⟩ L J (.slice ad (xs.take h).length c):=λa w ha hs=>by
 subst hm
 obtain ⟨_,_,he,_,h2,_⟩:=hv w hs
 cases he
 have:=j8.slice (P:=P) (κ:=κ) (N:=N) (L:=L) (J:=J) (d:=d) (ty:=ty) (ps:=ps) (af:=af) (gd:=gd) (l:=0) (h:=h) M hE hx (.inl ⟨rfl,rfl⟩) (.inr ⟨y,rfl,hy⟩) (Mq _) (by omega) a w ha hs
 rw [this,Fp,Mi hh]
 have e:(if c=0 then ad else ad.map (λx=>x.add<|0*Enc.sz α))=ad:=by
  split
  ·rfl
  cases ad<;>simp [Addr.add]
 rw [e]
 rfl
theorem j8.lo(M:P.underlying T=some (.slice E))(hE:tyF P E=some (Enc.sz α,ag,by',z))(hx:er L x=some (.slice ad n c))(hy:er L y=some (e7 m))(hm:m=(l:Int))
  (hv:Sl κ J (.slice ad n c) xs) (hl:l<=xs.length):j8 P κ N ⟨d,.slice T x (some y) none none,ty,ps,af,gd⟩ L J (.slice (N9 ad c l<|Enc.sz α) (xs.drop l).length (c - l)):=λa w ha hs=>by
 subst hm
 obtain ⟨_,_,he,_,h2,_⟩:=hv w hs
 cases he
 rw [Fx]
 exact j8.slice (P:=P) (κ:=κ) (N:=N) (L:=L) (J:=J) (d:=d) (ty:=ty) (ps:=ps) (af:=af) (gd:=gd) (l:=l) M hE hx (.inr ⟨y,rfl,hy⟩) (.inl ⟨rfl,rfl⟩) hl h2 a w ha hs
theorem Eff.bs{cs:List Value}{M:List (Nat×Operand)}{vs:List Value}{xs:List α}(ht:P.underlying t=some (.slice e))(hT:tyF P e=some (Enc.sz α,ag,by',z))(ab:z.length=Enc.sz α)
  (hp:T5 L (M.map (·.2))=some vs) (hn:0<n) (ae:n*Enc.sz α<=16777216) (aa:xs.length=n)
  (hf:Instr.fill (λi=>some (i*Enc.sz α,Enc.sz α)) (List.replicate n z).flatten.toArray ((M.map (·.1)).zip vs)=some cs.toArray) (hc:cs=cells xs) (hN:Nat.blt dd N.n=true) :
  Eff P κ N Q ⟨some dd,.buildSlice t n M.toArray,ty,ps,af,gd⟩ L I λL' I''=>∃ad,L'=(dd,.slice ad n n)::L/\I''=vc e (.slice ad n n) xs::I:=by
 have h:=Eff.buildSlice (P:=P) (κ:=κ) (N:=N) (Q:=Q) (L:=L) (I:=I) (ty:=ty) (ps:=ps) (af:=af) (gd:=gd) (cells:=cells xs) ht hT ab hp (Nat.mul_pos hn Enc.pos) ae (by rw [hf,hc]) (by rw [r9,aa]) hN
 unfold vc
 rw [aa]
 exact h
theorem Fit.gf9(e:TypeId)(J:List Item):Fit κ J (vc e (.slice none 0 0) ([]:List α)::J):=λw s=>s.db2 e (Enc.sz α)
theorem Eff.clone{ys:List α}(ht:P.underlying t=some (.slice e))(hT:tyF P e=some (Enc.sz α,ag,by',z))(aa:z.length=Enc.sz α)(hx:er L x=some (.slice none 0 0))(hy:er L y=some u)
  (hu:Sl κ I u ys) (ab:ys.length*by'<=140737488355328) (M:0<by') (hN:Nat.blt dd N.n=true) :
  Eff P κ N Q ⟨some dd,.call {callee:= .builtin .append,args:= #[x,y],argTypes:= #[t,t]},ty,ps,af,gd⟩ L I λL' I''=>∃ad c,L'=(dd,.slice ad ys.length c)::L/\I''=vc e (.slice ad ys.length c) ys::I:=by
 intro a w ha hs
 have h:=Eff.app (P:=P) (κ:=κ) (N:=N) (Q:=Q) (L:=L) (I:=vc e (.slice none 0 0) ([]:List α)::I) (ty:=ty) (ps:=ps) (af:=af) (gd:=gd) (xs:=[]) (dd:=dd) (I':=λad c=>vc e (.slice ad ([]++ys).length c) ([]++ys)::I) ht hT aa hx hy A_ (Sl.fit hu<|Fit.tail<|Fit.refl _) (by simpa using ab) M hN (λ_ _=>At.head _ _ _)
 exact h a w ha<|hs.db2 e<|Enc.sz α
theorem Fit.upd{x x':Item}{I:List Item}(M:At I x x' I')(h:∀w,x.ok w->x'.ok w/\∀k,x'.fp k->x.fp k):Fit κ I I':=λw hs=>
 hs.upd M rfl ⟨rfl,Gd _⟩ rfl (Gd _) (λ_ _ _=>rfl) (h w (hs.ok _ M.mem).1).1 λk hk=> .inl ((h w (hs.ok _ M.mem).1).2 k hk)
end
end Go.Sl
namespace Go.Sl
variable{I':List Item}{x:Operand}{E T b by' sz:Nat}{cs vs z:List Value}
theorem ab6.app{xs I:List Item}{x:Item}(h:ab6 I x I'):ab6 (xs++I) x (xs++I'):=by
 induction xs with
 |nil=>exact h
 |cons y xs ih=>exact ab6.tail y ih
theorem Sp.az4(xs I:List Item):Sp (xs++I) I:=by
 induction xs with
 |nil=>exact Sp.refl _
 |cons y xs ih=>exact Sp.skip y ih
section
variable {P:Program}{κ:Ctx}{N:Frm}{Q:Exit->Act->World->Prop}{L:Env}{I J:List Item}{ops:Array Oper}{o:Oper}{rest:List Oper}
theorem dx6{L:Env}{k:Nat}{m n:Int}(h:look L k=some (.int .i64 m):=by exact rfl)(e:m=n:=by first|omega|(dsimp only<;>omega)):look L k=some (.int .i64 n):=fz4 h e
theorem Fit.m(h:Fit κ I J:=by repeat (first|exact Fit.refl _|apply Fit.tail|exact Fit.az4 _ _|apply Fit.do1)):Fit κ I J:=h
theorem Fit.sub(h:J.Sublist I:=by repeat (first|exact Jo _|apply List.Sublist.cons_cons|apply List.Sublist.cons|exact Gk _ _)):Fit κ I J:=Fit.K6 h
theorem ta4{p:Prop}(h:p:=by repeat (first|exact ab6.head _ _|apply ab6.tail|apply ab6.app)):p:=h
theorem Fit.s(h:Sp I J:=by repeat (first|exact Sp.refl _|refine Sp.pick ta4 ?_|apply Sp.skip|exact Sp.az4 _ _)):Fit κ I J:=Fit.sp h
theorem G.e{R:Env->List Item->Prop}(he:Eff P κ N Q o L I R)(h:∀L' I',R L' I'->G P κ N ops Q rest L' I')(M:q8 N ops o L:=by exact q8.plain rfl):G P κ N ops Q (o::rest) L I:=G.eff M he h
theorem G.nt{y:Code}(h:W P κ N y Q L I):G P κ N ops (Exit.then (y.wp P Q) Q) [] L I:=G.nil (V.then h)
theorem W.sr{id:Nat}{l:List Oper}{y:Code}(h:G P κ N l.toArray (Exit.then (y.wp P Q) Q) l L I):W P κ N (.seq (.region id l.toArray false) y) Q L I:=W.seq (W.region h)
end
section
variable {α:Type}[Enc α]{κ:Ctx}{I J:List Item}{v:Value}{xs:List α}
theorem Sl.f(h:Sl κ I v xs)(M:Fit κ J I:=by repeat (first|exact Fit.refl _|apply Fit.tail|exact Fit.az4 _ _|apply Fit.do1)):Sl κ J v xs:=h.fit M
theorem Sl.o{e:TypeId}(h:vc e v xs∈I:=by repeat (first|exact A_|apply C_)):Sl κ I v xs:=Sl.vec h
end
section
variable {P:Program}{κ:Ctx}{N:Frm}{Q:Exit->Act->World->Prop}{L:Env}{I J:List Item}
variable {d:Option Tmp}{ty:TypeId}{ps:String}{af:Array Edge}{gd:Option (Nat×Bool)}
theorem j8.fz9{P:Program}{κ:Ctx}{N:Frm}{L:Env}{J:List Item}{d:Option Tmp}{ty:TypeId}{ps:String}{af:Array Edge}{gd:Option (Nat×Bool)}{α:Type}[Enc α][Inhabited α]{v:Value}{xs:List α}{s:Nat}{i:Int}{u:Value}(hT:tyF P T=some (s,false,by',z))(M:er L x=some (F0 v (i.toNat*Enc.sz α)))(hv:Sl κ J v xs)(h0:0<=i)(hn:i<xs.length)
  (hu:(Enc.enc<|e_ xs i)[0]? = some u):j8 P κ N ⟨d,.load T x,ty,ps,af,gd⟩ L J u:=j8.gh0 (j:=0) hT M hv h0 hn hu
theorem j8.ld{o:Nat}{v:Value}(hT:tyF P T=some (sz,false,by',z))(M:er L x=some (.pointer (some ⟨b,o,none⟩)):=by exact rfl)
  (hb:e8 b cs E∈J:=by repeat (first|exact A_|apply C_)) (hc:cs[o]? = some v:=by exact rfl):j8 P κ N ⟨d,.load T x,ty,ps,af,gd⟩ L J v:=j8.load hT M hb hc
theorem j8.lds{o:Nat}{vs:List Value}(hT:tyF P T=some (sz,true,by',z))(M:er L x=some (.pointer (some ⟨b,o,none⟩)):=by exact rfl)
  (hb:e8 b cs E∈J:=by repeat (first|exact A_|apply C_)) (hc:(cs.drop o).take sz=vs:=by exact rfl) (hl:vs.length=sz:=by exact rfl):j8 P κ N ⟨d,.load T x,ty,ps,af,gd⟩ L J (.agg vs.toArray):=j8.as0 hT M hb hc hl
theorem j8.lj{o:Nat}{v0 v1 v2 v3 v4 v5 v6 v7 v8 v9 v10 v11 v12 v13 v14 v15 v16 v17 v18 v19 v20 v21 v22 v23 v24:Value}(hT:tyF P T=some (sz,true,by',z))(M:er L x=some (.pointer (some ⟨b,o,none⟩)):=by exact rfl)
  (hb:e8 b cs E∈J:=by repeat (first|exact A_|apply C_)) (hc:(cs.drop o).take sz=[v0,v1,v2,v3,v4,v5,v6,v7,v8,v9,v10,v11,v12,v13,v14,v15,v16,v17,v18,v19,v20,v21,v22,v23,v24]:=by exact rfl) (hl:[v0,v1,v2,v3,v4,v5,v6,v7,v8,v9,v10,v11,v12,v13,v14,v15,v16,v17,v18,v19,v20,v21,v22,v23,v24].length=sz:=by exact rfl):j8 P κ N ⟨d,.load T x,ty,ps,af,gd⟩ L J (.agg [v0,v1,v2,v3,v4,v5,v6,v7,v8,v9,v10,v11,v12,v13,v14,v15,v16,v17,v18,v19,v20,v21,v22,v23,v24].toArray):=j8.as0 hT M hb hc hl
theorem Eff.st{y:Operand}{o E:Nat}{ag:Bool}{cs cs':List Value}{v:Value}{I':List Item}(hT:tyF P T=some (sz,ag,by',z))(hx:er L x=some (.pointer (some ⟨b,o,none⟩)):=by exact rfl)(hy:er L y=some v:=by exact rfl)
  (hv:cellsOf v=vs:=by exact rfl) (hl:vs.length=sz:=by exact rfl) (h1:G7 vs:=by repeat (first|exact G7.nil|refine G7.cons rfl ?_)) (aa:At I (e8 b cs E) (e8 b cs' E) I':=by repeat (first|exact At.head _ _ _|apply At.tail)) (hr:o+vs.length<=cs.length:=by exact Jf rfl) (M:cs.take o++vs++cs.drop (o+vs.length)=cs':=by exact rfl) :
  Eff P κ N Q ⟨none,.store T x y,ty,ps,af,gd⟩ L I λL' I''=>L'=L/\I''=I':=Eff.store hT hx hy hv hl h1.all hr M aa
theorem Eff.sq{y:Operand}{o E:Nat}{ag:Bool}{c0 c1 c2 c3 c4 c5 c6 c7 c8 c9 c10 c11 c12 c13 c14 c15 c16 c17 c18 c19 c20 c21 c22 c23 c24 w0 w1 w2 w3 w4 w5 w6 w7 w8 w9 w10 w11 w12 w13 w14 w15 w16 w17 w18 w19 w20 w21 w22 w23 w24 u0 u1 u2 u3 u4 u5 u6 u7 u8 u9 u10 u11 u12 u13 u14 u15 u16 u17 u18 u19 u20 u21 u22 u23 u24:Value}{v:Value}{I':List Item}(hT:tyF P T=some (sz,ag,by',z))(hx:er L x=some (.pointer (some ⟨b,o,none⟩)):=by exact rfl)(hy:er L y=some v:=by exact rfl)
  (hv:cellsOf v=[u0,u1,u2,u3,u4,u5,u6,u7,u8,u9,u10,u11,u12,u13,u14,u15,u16,u17,u18,u19,u20,u21,u22,u23,u24]:=by exact rfl) (hl:[u0,u1,u2,u3,u4,u5,u6,u7,u8,u9,u10,u11,u12,u13,u14,u15,u16,u17,u18,u19,u20,u21,u22,u23,u24].length=sz:=by exact rfl) (h1:G7 [u0,u1,u2,u3,u4,u5,u6,u7,u8,u9,u10,u11,u12,u13,u14,u15,u16,u17,u18,u19,u20,u21,u22,u23,u24]:=by repeat (first|exact G7.nil|refine G7.cons rfl ?_)) (aa:At I (e8 b [c0,c1,c2,c3,c4,c5,c6,c7,c8,c9,c10,c11,c12,c13,c14,c15,c16,c17,c18,c19,c20,c21,c22,c23,c24] E) (e8 b [w0,w1,w2,w3,w4,w5,w6,w7,w8,w9,w10,w11,w12,w13,w14,w15,w16,w17,w18,w19,w20,w21,w22,w23,w24] E) I':=by repeat (first|exact At.head _ _ _|apply At.tail)) (hr:o+[u0,u1,u2,u3,u4,u5,u6,u7,u8,u9,u10,u11,u12,u13,u14,u15,u16,u17,u18,u19,u20,u21,u22,u23,u24].length<=[c0,c1,c2,c3,c4,c5,c6,c7,c8,c9,c10,c11,c12,c13,c14,c15,c16,c17,c18,c19,c20,c21,c22,c23,c24].length:=by exact Jf rfl) (M:[c0,c1,c2,c3,c4,c5,c6,c7,c8,c9,c10,c11,c12,c13,c14,c15,c16,c17,c18,c19,c20,c21,c22,c23,c24].take o++[u0,u1,u2,u3,u4,u5,u6,u7,u8,u9,u10,u11,u12,u13,u14,u15,u16,u17,u18,u19,u20,u21,u22,u23,u24]++[c0,c1,c2,c3,c4,c5,c6,c7,c8,c9,c10,c11,c12,c13,c14,c15,c16,c17,c18,c19,c20,c21,c22,c23,c24].drop (o+[u0,u1,u2,u3,u4,u5,u6,u7,u8,u9,u10,u11,u12,u13,u14,u15,u16,u17,u18,u19,u20,u21,u22,u23,u24].length)=[w0,w1,w2,w3,w4,w5,w6,w7,w8,w9,w10,w11,w12,w13,w14,w15,w16,w17,w18,w19,w20,w21,w22,w23,w24]:=by exact rfl) :
  Eff P κ N Q ⟨none,.store T x y,ty,ps,af,gd⟩ L I λL' I''=>L'=L/\I''=I':=Eff.store hT hx hy hv hl h1.all hr M aa
end
end Go.Sl
