/- A part of the proofs of statements of this seat: contracts of functions, and the plain laws that they lean on. No conditions. -/
import Derived.Test.YtoagcglbkeomgaaGreatDoorS0
import Derived.KernelRfl
set_option linter.unusedVariables false
set_option linter.unusedSimpArgs false
set_option linter.unusedSectionVars false
namespace Go.Sl
open Go.RowKit (Below)
variable{u v:Value}{c:Operand}{Z cells cs cs' vs z:List Value}{E b by' dd e o off s sz t:Nat}{w:World}{ag:Bool}{ad:Option Addr}{I':List Item}{xs:List Operand}{fn:Func}
def InR(n:Int):Prop:= -9223372036854775808<=n/\n<=9223372036854775807
theorem InR.wrap{n:Int}(h:InR n):IntKind.i64.wrap n=n:=Go.IntWalk.i64_in _ h
def fldF(P:Program)(T:TypeId)(k:Nat):Option Nat:=
 match P.underlying T with
 |some (.struct fs)=>(fs[k]?).bind λf=>(P.info? f.type).bind λi=>if i.size=0 then none else some f.offset
 |_=>none
def callable(P:Program)(f:FuncId):Bool:=
 match P.funcs[f]? with
 | some fn => !(fn.name == "runtime.NumGoroutine") && fn.body.isSome
 |none=>false
def evalL(L:Env):List Operand->Option (List Value)
 |[]=>some []
 |x::xs=>match er L x,evalL L xs with
  |some v,some vs=>some (v::vs)
  |_,_=>none
section
variable {P:Program}{κ:Ctx}{N:Frm}{Q:Exit->Act->World->Prop}{L:Env}{I J:List Item}
variable {d:Option Tmp}{ty:TypeId}{ps:String}{af:Array Edge}{gd:Option (Nat×Bool)}
theorem Ag.evalL{a:Act}(Z:Ag N a L):∀{xs:List Operand} {vs:List Value},evalL L xs=some vs->xs.map a.eval=vs
 |[],vs,h=>by simp [Sl.evalL] at h;simp [h]
 |x::xs,vs,h=>by
  simp only [Sl.evalL] at h
  split at h
  ·rename_i v vs' h1 h2
   simp only [Option.some.injEq] at h
   subst h
   simp [Z.eval h1,Ag.evalL Z h2]
  cases h
theorem Runs.move{x:Operand}(Z:er L x=some v):Runs P κ N ⟨d,.move x,ty,ps,af,gd⟩ L J v:=λa w M _=>by simp [execOp,M.eval Z]
theorem Runs.assign{x:Operand}(Z:er L x=some v):Runs P κ N ⟨d,.assign x,ty,ps,af,gd⟩ L J v:=λa w M _=>by simp [execOp,M.eval Z]
section ints
variable {x y:Operand}{k:IntKind}{m n:Int}{T U:TypeId}
theorem Runs.addw(hx:er L x=some (.int k m))(M:er L y=some (.int k n)):Runs P κ N ⟨d,.binOp .add T x y U,ty,ps,af,gd⟩ L J (.int k (k.wrap (m+n))):=
 λa w Z _=>by simp only [execOp,Z.eval hx,Z.eval M];simp [go_sem,Op.intArith]
theorem Runs.subw(hx:er L x=some (.int k m))(M:er L y=some (.int k n)):Runs P κ N ⟨d,.binOp .sub T x y U,ty,ps,af,gd⟩ L J (.int k (k.wrap (m - n))):=
 λa w Z _=>by simp only [execOp,Z.eval hx,Z.eval M];simp [go_sem,Op.intArith]
theorem Runs.mulw(hx:er L x=some (.int k m))(M:er L y=some (.int k n)):Runs P κ N ⟨d,.binOp .mul T x y U,ty,ps,af,gd⟩ L J (.int k (k.wrap (m*n))):=
 λa w Z _=>by simp only [execOp,Z.eval hx,Z.eval M];simp [go_sem,Op.intArith]
theorem Runs.rem(hx:er L x=some (.int k m))(M:er L y=some (.int k n))(h0:n≠0):Runs P κ N ⟨d,.binOp .rem T x y U,ty,ps,af,gd⟩ L J (.int k (m.tmod n)):=
 λa w Z _=>by simp only [execOp,Z.eval hx,Z.eval M];simp [go_sem,Op.intDiv,h0]
theorem Runs.quow(hx:er L x=some (.int k m))(M:er L y=some (.int k n))(h0:n≠0):Runs P κ N ⟨d,.binOp .quo T x y U,ty,ps,af,gd⟩ L J (.int k (k.wrap (m.tdiv n))):=
 λa w Z _=>by simp only [execOp,Z.eval hx,Z.eval M];simp [go_sem,Op.intDiv,h0]
theorem Runs.add(Z:er L x=some (e7 m))(M:er L y=some (e7 n))(hr:InR (m+n)):Runs P κ N ⟨d,.binOp .add T x y U,ty,ps,af,gd⟩ L J (e7 (m+n)):=by
 have h:=Runs.addw (P:=P) (κ:=κ) (N:=N) (J:=J) (d:=d) (ty:=ty) (ps:=ps) (af:=af) (gd:=gd) (T:=T) (U:=U) Z M
 rwa [hr.wrap] at h
theorem Runs.sub(Z:er L x=some (e7 m))(M:er L y=some (e7 n))(hr:InR (m - n)):Runs P κ N ⟨d,.binOp .sub T x y U,ty,ps,af,gd⟩ L J (e7 (m - n)):=by
 have h:=Runs.subw (P:=P) (κ:=κ) (N:=N) (J:=J) (d:=d) (ty:=ty) (ps:=ps) (af:=af) (gd:=gd) (T:=T) (U:=U) Z M
 rwa [hr.wrap] at h
theorem Runs.mul(Z:er L x=some (e7 m))(M:er L y=some (e7 n))(hr:InR (m*n)):Runs P κ N ⟨d,.binOp .mul T x y U,ty,ps,af,gd⟩ L J (e7 (m*n)):=by
 have h:=Runs.mulw (P:=P) (κ:=κ) (N:=N) (J:=J) (d:=d) (ty:=ty) (ps:=ps) (af:=af) (gd:=gd) (T:=T) (U:=U) Z M
 rwa [hr.wrap] at h
theorem Runs.lss(hx:er L x=some (.int k m))(M:er L y=some (.int k n)):Runs P κ N ⟨d,.binOp .lss T x y U,ty,ps,af,gd⟩ L J (.bool (decide (m<n))):=
 λa w Z _=>by simp only [execOp,Z.eval hx,Z.eval M];simp [go_sem]
theorem Runs.leq(hx:er L x=some (.int k m))(M:er L y=some (.int k n)):Runs P κ N ⟨d,.binOp .leq T x y U,ty,ps,af,gd⟩ L J (.bool (decide (m<=n))):=
 λa w Z _=>by simp only [execOp,Z.eval hx,Z.eval M];simp [go_sem]
theorem Runs.gtr(hx:er L x=some (.int k m))(M:er L y=some (.int k n)):Runs P κ N ⟨d,.binOp .gtr T x y U,ty,ps,af,gd⟩ L J (.bool (decide (n<m))):=
 λa w Z _=>by simp only [execOp,Z.eval hx,Z.eval M];simp [go_sem]
theorem Runs.geq(hx:er L x=some (.int k m))(M:er L y=some (.int k n)):Runs P κ N ⟨d,.binOp .geq T x y U,ty,ps,af,gd⟩ L J (.bool (decide (n<=m))):=
 λa w Z _=>by simp only [execOp,Z.eval hx,Z.eval M];simp [go_sem]
theorem Runs.eql(hx:er L x=some (.int k m))(M:er L y=some (.int k n)):Runs P κ N ⟨d,.binOp .eql T x y U,ty,ps,af,gd⟩ L J (.bool (decide (m=n))):=
 λa w Z _=>by simp only [execOp,Z.eval hx,Z.eval M];simp [go_sem];rfl
theorem Runs.neq(hx:er L x=some (.int k m))(M:er L y=some (.int k n)):Runs P κ N ⟨d,.binOp .neq T x y U,ty,ps,af,gd⟩ L J (.bool (decide (m≠n))):=
 λa w Z _=>by
  simp only [execOp,Z.eval hx,Z.eval M]
  simp [go_sem]
  by_cases h:m=n<;>simp [h]
theorem Runs.min(hx:er L x=some (.int k m))(M:er L y=some (.int k n)){as:Array TypeId} :
  Runs P κ N ⟨d,.call {callee:= .builtin .min,args:= #[x,y],argTypes:=as},ty,ps,af,gd⟩ L J (.int k (if n<m then n else m)):=
 λa w Z _=>by simp [execOp,resolve,invoke,builtin,Z.eval hx,Z.eval M,Builtin.min_,Builtin.min2]
theorem Runs.max(hx:er L x=some (.int k m))(M:er L y=some (.int k n)){as:Array TypeId} :
  Runs P κ N ⟨d,.call {callee:= .builtin .max,args:= #[x,y],argTypes:=as},ty,ps,af,gd⟩ L J (.int k (if m<n then n else m)):=
 λa w Z _=>by simp [execOp,resolve,invoke,builtin,Z.eval hx,Z.eval M,Builtin.max_,Builtin.max2]
end ints
theorem Runs.not{x:Operand}{b:Bool}{T:TypeId}(Z:er L x=some (.bool b)):Runs P κ N ⟨d,.unOp .not T x,ty,ps,af,gd⟩ L J (.bool !b):=
 λa w M _=>by simp [execOp,M.eval Z,Op.unary]
theorem Runs.notd{x:Operand}{p:Prop}[Decidable p]{T:TypeId}(Z:er L x=some (.bool (decide p))):Runs P κ N ⟨d,.unOp .not T x,ty,ps,af,gd⟩ L J (.bool (decide ¬p)):=
 λa w M _=>by simp [execOp,M.eval Z,Op.unary]
theorem Runs.pickt{x y:Operand}(hc:er L c=some (.bool true))(M:er L x=some v):Runs P κ N ⟨d,.pick c x y,ty,ps,af,gd⟩ L J v:=
 λa w Z _=>by simp [execOp,Z.eval hc,Z.eval M,asBool]
theorem Runs.pickf{x y:Operand}(hc:er L c=some (.bool false))(M:er L y=some v):Runs P κ N ⟨d,.pick c x y,ty,ps,af,gd⟩ L J v:=
 λa w Z _=>by simp [execOp,Z.eval hc,Z.eval M,asBool]
theorem Runs.nilCheck{x:Operand}{p:Addr}(Z:er L x=some (.pointer (some p))):Runs P κ N ⟨d,.nilCheck x,ty,ps,af,gd⟩ L J (.pointer (some p)):=
 λa w M _=>by simp [execOp,M.eval Z]
theorem Runs.extract{x:Operand}{vs:Array Value}{i:Nat}(Z:er L x=some (.tuple vs))(hv:vs[i]? = some v):Runs P κ N ⟨d,.extract x i,ty,ps,af,gd⟩ L J v:=
 λa w M _=>by simp [execOp,M.eval Z,Instr.extract,hv]
theorem Runs.makeFunc{M:Fn}{first cap:List Operand}(h1:evalL L first=some vs)(h2:evalL L cap=some Z):Runs P κ N ⟨d,.makeFunc M first.toArray cap.toArray,ty,ps,af,gd⟩ L J (.func M vs.toArray Z.toArray):=
 λa w ha _=>by simp [execOp,Instr.makeFunc,ha.evalL h1,ha.evalL h2]
theorem fldF_spec{T k:Nat}(h:fldF P T k=some off):∃fs f i,P.underlying T=some (.struct fs)/\fs[k]? = some f/\P.info? f.type=some i/\i.size≠0/\f.offset=off:=by
 unfold fldF at h
 split at h
 ·rename_i fs hu
  cases hf:fs[k]? with
  |none=>simp [hf] at h
  |some f=>
   cases hi:P.info? f.type with
   |none=>simp [hf,hi] at h
   |some i=>
    simp [hf,hi] at h
    exact ⟨fs,f,i,hu,hf,hi,h.1,h.2⟩
 cases h
theorem run_fieldAt{T k:Nat}(h:fldF P T k=some off)(p:Addr)(w:World):(Instr.fieldAt T (.pointer (some p)) k).run P w = .ok (.pointer (some (p.add off))) w:=by
 obtain ⟨fs,f,i,hu,Z,hi,M,ho⟩:=fldF_spec h
 subst ho
 simp [Instr.fieldAt,run_underlying hu,Z,Instr.sureAddr,fieldPlace,sizeOf,typeInfo,hi,M]
theorem Runs.fieldAddr{x:Operand}{T k:Nat}(h:fldF P T k=some off)(Z:er L x=some (.pointer (some ⟨b,o,none⟩))) :
  Runs P κ N ⟨d,.fieldAddr T x k,ty,ps,af,gd⟩ L J (.pointer<|some ⟨b,o+off,none⟩):=
 λa w M _=>by simp [execOp,M.eval Z,run_fieldAt h,addr_add]
theorem slOk.some{n:Nat}(h:slOk w sz v n cs)(hn:0<n):∃b off cap,v = .slice (some ⟨b,off,none⟩) n cap/\∀j u,cs[j]? = some u->w.cell? ⟨b,off+j,none⟩=some u:=by
 obtain ⟨a,cap,rfl,h1,h2,h3,M⟩:=h
 obtain ⟨b,off,rfl,Z⟩:=M (by omega)
 exact ⟨b,off,cap,rfl,Z⟩
theorem Runs.fieldElem{x:Operand}{T k m n:Nat}(h:fldF P T k=some off)(M:er L x=some (elemPtr v m))(hv:SlRd κ J sz v n cs)(hn:0<n) :
  Runs P κ N ⟨d,.fieldAddr T x k,ty,ps,af,gd⟩ L J (elemPtr v<|m+off):=
 λa w Z hs=>by
  obtain ⟨b,o,cap,rfl,_⟩:=(hv w hs).some hn
  simp [execOp,Z.eval M,elemPtr,run_fieldAt h,addr_add,Nat.add_assoc]
theorem Runs.indexAddr{x y:Operand}{T n:Nat}{i:Int}(ht:P.underlying T=some (.slice E))(hE:tyF P E=some (sz,ag,by',z))(hx:er L x=some v)
  (M:er L y=some (e7 i)) (hv:SlRd κ J sz v n cs) (h0:0<=i) (hn:i<n):Runs P κ N ⟨d,.indexAddr T x y,ty,ps,af,gd⟩ L J (elemPtr v<|i.toNat*sz):=
 λa w Z hs=>by
  obtain ⟨b,o,cap,rfl,_⟩:=(hv w hs).some (by omega)
  simp [execOp,Z.eval hx,Z.eval M,Instr.indexAt,asIntOf,run_underlying ht,h0,hn,run_sizeOf hE,elemPtr]
theorem Runs.len{x:Operand}{T n:Nat}(M:P.underlying T=some (.slice E))(Z:er L x=some v)(hv:SlRd κ J sz v n cs) :
  Runs P κ N ⟨d,.call {callee:= .builtin .len,args:= #[x],argTypes:= #[T]},ty,ps,af,gd⟩ L J (e7 n):=
 λa w ha hs=>by
  obtain ⟨ad,cap,rfl,_⟩:=hv w hs
  simp [execOp,resolve,invoke,builtin,ha.eval Z,Builtin.len_,run_underlying M,goInt]
theorem Runs.lens{x:Operand}{T n c:Nat}(M:P.underlying T=some (.slice E))(Z:er L x=some (.slice ad n c)) :
  Runs P κ N ⟨d,.call {callee:= .builtin .len,args:= #[x],argTypes:= #[T]},ty,ps,af,gd⟩ L J (e7 n):=
 λa w ha hs=>by
  simp [execOp,resolve,invoke,builtin,ha.eval Z,Builtin.len_,run_underlying M,goInt]
theorem Runs.load{x:Operand}{T:Nat}(M:tyF P T=some (sz,false,by',z))(Z:er L x=some (.pointer (some ⟨b,o,none⟩)))(hb:e8 b cs E∈J)(hc:cs[o]? = some v) :
  Runs P κ N ⟨d,.load T x,ty,ps,af,gd⟩ L J v:=
 λa w ha hs=>by
  have:=cell_blk (w:=w) (hs.ok _ hb).1 o
  simp [execOp,ha.eval Z,Instr.loadAt,Instr.sureAddr,run_loadVar_one M<|this.trans hc]
theorem Runs.loads{x:Operand}{T:Nat}(hT:tyF P T=some (sz,true,by',z))(hx:er L x=some (.pointer (some ⟨b,o,none⟩)))(hb:e8 b cs E∈J)(hc:(cs.drop o).take sz=vs)(hl:vs.length=sz) :
  Runs P κ N ⟨d,.load T x,ty,ps,af,gd⟩ L J (.agg vs.toArray):=
 λa w ha hs=>by
  have Z:=λj=>cell_blk (w:=w) (hs.ok _ hb).1 j
  have:(loadVar T ⟨b,o,none⟩).run P w = .ok (.agg vs.toArray) w:=run_loadVar_agg hT hl λj u M=>by
   rw [addr_add,Z,←M,←hc,List.getElem?_take,if_pos<|by have:=(List.getElem?_eq_some_iff.1 M).1;omega,List.getElem?_drop]
  simp [execOp,ha.eval hx,Instr.loadAt,Instr.sureAddr,this]
theorem Runs.loadElem{x:Operand}{T n k:Nat}(hT:tyF P T=some (s,false,by',z))(hx:er L x=some (elemPtr v k))(hv:SlRd κ J sz v n cs)(M:cs[k]? = some u) :
  Runs P κ N ⟨d,.load T x,ty,ps,af,gd⟩ L J u:=
 λa w ha hs=>by
  have hn:0<n:=Nat.pos_of_ne_zero λh=>by
   obtain ⟨_,_,_,Z,_⟩:=hv w hs
   have:=(List.getElem?_eq_some_iff.1 M).1
   subst h
   simp at Z
   simp [Z] at this
  obtain ⟨b,o,cap,rfl,hr⟩:=(hv w hs).some hn
  simp [execOp,ha.eval hx,elemPtr,addr_add,Instr.loadAt,Instr.sureAddr,run_loadVar_one hT<|hr k u M]
theorem Runs.loadElems{x:Operand}{T n k:Nat}(hT:tyF P T=some (s,true,by',z))(hx:er L x=some (elemPtr v k))(hv:SlRd κ J sz v n cs)(hn:0<n)(hc:∀j u,Z[j]? = some u->cs[k+j]? = some u)
  (M:Z.length=s):Runs P κ N ⟨d,.load T x,ty,ps,af,gd⟩ L J (.agg Z.toArray):=
 λa w ha hs=>by
  obtain ⟨b,o,cap,rfl,hr⟩:=(hv w hs).some hn
  have:(loadVar T ⟨b,o+k,none⟩).run P w = .ok (.agg Z.toArray) w:=run_loadVar_agg hT M λj u hj=>by
   rw [addr_add,Nat.add_assoc]
   exact hr (k+j) u<|hc j u hj
  simp [execOp,ha.eval hx,elemPtr,addr_add,Instr.loadAt,Instr.sureAddr,this]
def placesRun(P:Program)(T:TypeId):Sem (Array (Nat×Nat)):=
 match P.underlying T with
 |some (.struct fs)=>fs.mapM λf=>do pure (f.offset,←sizeOf f.type)
 |_=>pure #[]
theorem Runs.build{T:Nat}{fs:Array Field}{Z:List (Nat×Operand)}{M:Array (Nat×Nat)}(hT:tyF P T=some (sz,ag,by',z))(ht:P.underlying T=some (.struct fs))
  (ah:∀w:World,(placesRun P T).run P w = .ok M w)
  (hp:evalL L (Z.map (·.2))=some vs) (hf:Instr.fill (M[·]?) z.toArray ((Z.map (·.1)).zip vs)=some cells.toArray):Runs P κ N ⟨d,.build T Z.toArray,ty,ps,af,gd⟩ L J (.agg cells.toArray):=
 λa w ha hs=>by
  obtain ⟨zv,hz,ae⟩:=run_zeroCells hT w
  have ad:Z.map (λp=>(p.1,a.eval p.2))=(Z.map (·.1)).zip vs:=by
   rw [←ha.evalL hp]
   clear hp hf
   induction Z with
   |nil=>rfl
   |cons p ps ih=>simp [ih]
  have aa:List.map (λx:Nat×Operand=>match x with |(i,x)=>(i,a.eval x)) Z=(Z.map (·.1)).zip vs:=ad
  have ab:=ah w
  simp only [placesRun,ht] at ab
  simp only [execOp,Instr.build,Sem.run_bind,hz,Result.andThen_ok,run_underlying ht,ab,List.map_toArray,aa,ae,hf,Sem.run_pure]
theorem Runs.slice{x:Operand}{T n c l h:Nat}{lo hi:Option Operand}(ht:P.underlying T=some (.slice E))(hE:tyF P E=some (sz,ag,by',z))(hx:er L x=some (.slice ad n c))
  (ah:(lo=none/\l=0)\/∃y,lo=some y/\er L y=some (e7 l)) (ae:(hi=none/\h=n)\/∃y,hi=some y/\er L y=some (e7 h)) (aa:l<=h) (M:h<=c) :
  Runs P κ N ⟨d,.slice T x lo hi none,ty,ps,af,gd⟩ L J (.slice (if c=l then ad else ad.map (·.add (l*sz))) (h - l)<|c - l):=
 λa w ha hs=>by
  have h1:((l:Int)<=(h:Int)):=by omega
  have h2:((h:Int)<=(c:Int)):=by omega
  have ab:(Instr.sliceBounds true n c (lo.map a.eval) (hi.map a.eval) none).run P w = .ok (l,h,c) w:=by
   rcases ah with ⟨rfl,rfl⟩|⟨y,rfl,hy⟩<;>rcases ae with ⟨rfl,rfl⟩|⟨y',rfl,Z⟩
   ·simp [Instr.sliceBounds]
   ·simp [Instr.sliceBounds,ha.eval Z,Instr.sliceBound,asIntOf,M]
   ·simp [Instr.sliceBounds,ha.eval hy,Instr.sliceBound,asIntOf,aa]
   simp [Instr.sliceBounds,ha.eval hy,ha.eval Z,Instr.sliceBound,asIntOf,aa,M]
  simp [execOp,Instr.sliceAt,Instr.slice,run_underlying ht,ha.eval hx,ab,run_sizeOf hE]
def AllOne:List Value->Prop
 |[]=>True
 |v::vs=>v.oneCell'=true/\AllOne vs
theorem AllOne.nil:AllOne []:=trivial
theorem AllOne.cons(h:v.oneCell'=true)(t:AllOne vs):AllOne (v::vs):=⟨h,t⟩
theorem AllOne.all:∀{vs:List Value},AllOne vs->∀u∈vs,u.oneCell'=true
 |[],_,u,hu=>by cases hu
 |v::vs,h,u,hu=>by
  rcases List.mem_cons.1 hu with rfl|hu
  ·exact h.1
  exact AllOne.all h.2 u hu
theorem Eff.of_value{o:Oper}{R:Env->List Item->Prop}(hd:o.dst=some dd)(hN:Nat.blt dd N.n=true)
  (h:∀a w,Ag N a L->Sep κ w I->∃v w' I',(execOp a.eval o).run P w = .ok (.value v) w'/\R ((dd,v)::L) I'/\Sep κ w' I'):Eff P κ N Q o L I R:=λa w M hs=>by
 obtain ⟨v,w',I',hr,hR,Z⟩:=h a w M hs
 simp only [Oper.wp,hr,Oper.upon,hd]
 exact ⟨_,_,hR,M.put dd hN v,Z⟩
theorem Eff.of_skip{o:Oper}{R:Env->List Item->Prop}(hd:o.dst=none)
  (h:∀a w,Ag N a L->Sep κ w I->∃w' I',(execOp a.eval o).run P w = .ok .skip w'/\R L I'/\Sep κ w' I'):Eff P κ N Q o L I R:=λa w M hs=>by
 obtain ⟨w',I',hr,hR,Z⟩:=h a w M hs
 simp only [Oper.wp,hr,Oper.upon,hd]
 exact ⟨_,_,hR,M,Z⟩
theorem sep_newblk(hs:Sep κ w I)(cs:List Value)(T:TypeId):Sep κ (w.alloc (.cells cs.toArray T)) (e8 w.heap.size cs T::I):=
 hs.new (hs.alloc _) (heap_alloc_new w _) λk Z=>by obtain rfl:k=_:=Z;exact ⟨Nat.le_refl _,by simp⟩
theorem Eff.alloc{T:Nat}(hT:tyF P T=some (sz,ag,by',z))(hN:Nat.blt dd N.n=true) :
  Eff P κ N Q ⟨some dd,.alloc T,ty,ps,af,gd⟩ L I λL' I'=>∃b,L'=(dd,pt b)::L/\I'=e8 b z T::I:=
 Eff.of_value rfl hN λa w ha hs=>by
  obtain ⟨zv,M,Z⟩:=run_zeroCells hT w
  exact ⟨_,_,_,by simp [execOp,Instr.alloc,M,newVar,newRow,Z],⟨_,rfl,rfl⟩,sep_newblk hs z T⟩
theorem Eff.box{x:Operand}{T:Nat}(M:er L x=some v)(hc:cellsOf v=cs)(hN:Nat.blt dd N.n=true) :
  Eff P κ N Q ⟨some dd,.box T x,ty,ps,af,gd⟩ L I λL' I'=>∃b,L'=(dd,pt b)::L/\I'=e8 b cs T::I:=
 Eff.of_value rfl hN λa w ha hs=>by
  have Z:v.cells=cs.toArray:=by rw [←hc];simp [cellsOf]
  exact ⟨_,_,_,by simp [execOp,Instr.box,ha.eval M,newVar,newRow,Z],⟨_,rfl,rfl⟩,sep_newblk hs cs T⟩
theorem Eff.store{x y:Operand}{T:Nat}(hT:tyF P T=some (sz,ag,by',z))(hx:er L x=some (.pointer (some ⟨b,o,none⟩)))(hy:er L y=some v)
  (hv:cellsOf v=vs) (hl:vs.length=sz) (h1:∀u∈vs,u.oneCell'=true) (hr:o+vs.length<=cs.length) (ab:cs.take o++vs++cs.drop (o+vs.length)=cs') (Z:At I (e8 b cs E) (e8 b cs' E) I') :
  Eff P κ N Q ⟨none,.store T x y,ty,ps,af,gd⟩ L I λL' I''=>L'=L/\I''=I':=
 Eff.of_skip rfl λa w ha hs=>by
  have hb:=(hs.ok _ Z.mem).1
  have M:=run_storeVar hT hv hl h1 hb hr
  rw [ab] at M
  refine ⟨_,I',by simp [execOp,ha.eval hx,ha.eval hy,Instr.storeAt,Instr.sureAddr,M];rfl,⟨rfl,rfl⟩,?_⟩
  exact hs.upd Z rfl ⟨rfl,Nat.le_refl _⟩ rfl (by simp) (λk _ aa=>setRow_other w b k _ λe=>aa e) (setRow_heap w b cs.toArray _ E _ hb) λk hk=> .inl hk
theorem vecOk.some{n:Nat}(h:vecOk w e sz v n cs)(hn:0<n) :
  ∃b off cap Z,v = .slice (some ⟨b,off,none⟩) n cap/\cs.length=n*sz/\n<=cap/\cap<=maxLen/\w.heap[b]? = some (.cells Z e (0,0))/\off+cap*sz<=Z.size/\∀j u,cs[j]? = some u->Z[off+j]? = some u:=by
 obtain ⟨a,cap,rfl,h1,h2,h3,h4⟩:=h
 obtain ⟨b,off,Z,rfl,M,h6,h7⟩:=h4 (by omega)
 exact ⟨b,off,cap,Z,rfl,h1,h2,h3,M,h6,h7⟩
theorem Eff.storeElem{x y:Operand}{T n k:Nat}(hT:tyF P T=some (s,ag,by',z))(hx:er L x=some (elemPtr v k))(hy:er L y=some u)
  (hv:cellsOf u=vs) (hl:vs.length=s) (h1:∀u∈vs,u.oneCell'=true) (hn:0<n) (hr:k+vs.length<=cs.length) (ah:cs.take k++vs++cs.drop (k+vs.length)=cs') (ai:At I (vec e sz v n cs) (vec e sz v n cs') I') :
  Eff P κ N Q ⟨none,.store T x y,ty,ps,af,gd⟩ L I λL' I''=>L'=L/\I''=I':=
 Eff.of_skip rfl λa w ha hs=>by
  obtain ⟨b,off,cap,aa,rfl,ae,ab,aj,hb,ak,M⟩:=vecOk.some (hs.ok _ ai.mem).1 hn
  have ap:w.heap[b]? = some (.cells aa.toList.toArray e (0,0)):=by simpa using hb
  have aq:n*sz<=cap*sz:=Nat.mul_le_mul_right sz ab
  have ao:=run_storeVar hT hv hl h1 ap (o:=off+k) (by simp only [Array.length_toList];omega)
  refine ⟨_,I',by simp [execOp,ha.eval hx,ha.eval hy,elemPtr,addr_add,Instr.storeAt,Instr.sureAddr];rw [ao];simp;rfl,⟨rfl,rfl⟩,?_⟩
  refine hs.upd ai rfl ⟨rfl,Nat.le_refl _⟩ rfl (by simp) (λk' _ an=>setRow_other w b k' _ λe=>an<|by subst e;exact ⟨off,n,cap,rfl,by omega⟩) ?_ λk hk=> .inl hk
  have ad:cs'.length=cs.length:=by rw [←ah];simp only [List.length_append,List.length_take,List.length_drop];omega
  refine ⟨_,cap,rfl,ad.trans ae,ab,aj,λhc=>⟨b,off,_,rfl,setRow_heap w b aa _ e _ hb,?_,λj u' Z=>?_⟩⟩
  ·simp only [List.size_toArray,List.length_append,List.length_take,List.length_drop,Array.length_toList];omega
  have ar:j<cs.length:=by rw [←ad];exact (List.getElem?_eq_some_iff.1 Z).1
  have hA:(aa.toList.take<|off+k).length=off+k:=by simp only [List.length_take,Array.length_toList];omega
  have hB:(cs.take k).length=k:=by simp only [List.length_take];omega
  rw [←ah] at Z
  simp only [List.getElem?_toArray]
  rw [List.append_assoc] at Z
  try rw [List.append_assoc]
  by_cases hjk:j<k
  ·rw [List.getElem?_append_left (by omega),List.getElem?_take,if_pos hjk] at Z
   rw [List.getElem?_append_left (by omega),List.getElem?_take,if_pos<|by omega]
   simpa using M j u' Z
  rw [List.getElem?_append_right (by omega),hB] at Z
  rw [List.getElem?_append_right (by omega),hA,show off+j - (off+k)=j - k from by omega]
  by_cases hjv:j - k<vs.length
  ·rw [List.getElem?_append_left hjv] at Z
   rw [List.getElem?_append_left hjv]
   exact Z
  rw [List.getElem?_append_right (by omega),List.getElem?_drop,show k+vs.length+(j - k - vs.length)=j from by omega] at Z
  rw [List.getElem?_append_right (by omega),List.getElem?_drop,show off+k+vs.length+(j - k - vs.length)=off+j from by omega]
  simpa using M j u' Z
theorem Eff.append{x y:Operand}{n m:Nat}{ds:List Value}(ht:P.underlying t=some (.slice e))(hT:tyF P e=some (sz,ag,by',z))(ab:z.length=sz)(hx:er L x=some v)(hy:er L y=some u)
  (hv:vec e sz v n cs∈I) (hu:SlRd κ I sz u m ds) (h1:∀u∈ds,u.oneCell'=true) (aj:n+m<=maxLen) (aa:(n+m)*by'<=140737488355328) (hN:Nat.blt dd N.n=true) {I':Option Addr->Nat->List Item} (ae:∀ad c,At I (vec e sz v n cs) (vec e sz (.slice ad (n+m) c) (n+m)<|cs++ds)<|I' ad c) :
  Eff P κ N Q ⟨some dd,.call {callee:= .builtin .append,args:= #[x,y],argTypes:= #[t,t]},ty,ps,af,gd⟩ L I λL' I''=>∃ad c,L'=(dd,.slice ad (n+m) c)::L/\I''=I' ad c:=
 Eff.of_value rfl hN λa w ha hs=>by
  obtain ⟨v',w',hr,ah,ho,ak,M,ai,hk,hf⟩:=run_append_vec (P:=P) (ty:=ty) ht hT ab (hs.ok _ hv).1 (hu w hs) h1 aj aa
  obtain ⟨ad,c,rfl,Z⟩:=ah
  refine ⟨_,w',I' ad c,by simp [execOp,resolve,invoke,builtin,ha.eval hx,ha.eval hy,hr],⟨ad,c,rfl,rfl⟩,?_⟩
  exact hs.upd (ae _ _) ho ak M ai hk ⟨ad,c,rfl,Z⟩ hf
theorem Eff.makeSlice{x y:Operand}{n:Nat}(ht:P.underlying t=some (.slice e))(hT:tyF P e=some (sz,ag,by',z))(ab:z.length=sz)(hx:er L x=some (e7 n))(hy:er L y=some (e7 n))
  (aj:n<=maxLen) (aa:n*by'<=281474976710656) (hN:Nat.blt dd N.n=true) :
  Eff P κ N Q ⟨some dd,.makeSlice t x y,ty,ps,af,gd⟩ L I λL' I''=>∃ad c,L'=(dd,.slice ad n c)::L/\I''=vec e sz (.slice ad n c) n (List.replicate n z).flatten::I:=
 Eff.of_value rfl hN λa w ha hs=>by
  obtain ⟨v',w',hr,ah,ho,ak,M,ai,hk,hf⟩:=run_makeSlice_vec (P:=P) (w:=w) ht hT ab n aj aa
  obtain ⟨ad,c,rfl,Z⟩:=ah
  refine ⟨_,w',_,by simp [execOp,ha.eval hx,ha.eval hy,hr],⟨ad,c,rfl,rfl⟩,?_⟩
  refine hs.new (hs.frame ho ak M ai λx hx k ae=>hk k<|(hs.ok x hx).2 k ae) ⟨ad,c,rfl,Z⟩ hf
theorem Eff.buildSlice{n:Nat}{Z:List (Nat×Operand)}(ht:P.underlying t=some (.slice e))(hT:tyF P e=some (sz,ag,by',z))(M:z.length=sz)
  (hp:evalL L (Z.map (·.2))=some vs) (hn:0<n*sz) (an:n*sz<=16777216)
  (hf:Instr.fill (λi=>some (i*sz,sz)) (List.replicate n z).flatten.toArray ((Z.map (·.1)).zip vs)=some cells.toArray) (hl:cells.length=n*sz) (hN:Nat.blt dd N.n=true) :
  Eff P κ N Q ⟨some dd,.buildSlice t n Z.toArray,ty,ps,af,gd⟩ L I λL' I''=>∃ad,L'=(dd,.slice ad n n)::L/\I''=vec e sz (.slice ad n n) n cells::I:=
 Eff.of_value rfl hN λa w ha hs=>by
  obtain ⟨zv,hz,ah⟩:=run_zeroCells hT w
  have aj:Z.map (λp=>(p.1,a.eval p.2))=(Z.map (·.1)).zip vs:=by
   rw [←ha.evalL hp]
   clear hp hf
   induction Z with
   |nil=>rfl
   |cons p ps ih=>simp [ih]
  have ab:List.map (λx:Nat×Operand=>match x with |(i,x)=>(i,a.eval x)) Z=(Z.map (·.1)).zip vs:=aj
  have aa:(Array.range<|n*sz).map (λj=>zv.cells[j % zv.cells.size]!)=(List.replicate n z).flatten.toArray:=by
   apply Array.ext'
   simp only [Array.toList_map,Array.toList_range]
   rw [ah]
   apply List.ext_getElem?
   intro j
   simp only [List.getElem?_map,List.size_toArray,M]
   by_cases hj:j<n*sz
   ·have hs:0<sz:=Nat.pos_of_ne_zero λh=>by subst h;simp at hj
    rw [List.getElem?_range hj]
    have ae:j % sz<z.length:=by rw [M];exact Nat.mod_lt _ hs
    rw [flatten_rep z n j (by rw [M];exact hs) (by rw [M];exact hj),M]
    simp [ae]
   rw [List.getElem?_eq_none (by simpa using hj),List.getElem?_eq_none (by rw [len_rep,M];omega)]
   rfl
  have h0:¬n*sz=0:=by omega
  have h1:¬16777216<n*sz:=by omega
  have ai:(Instr.buildSlice t n ((Z.map (·.1)).zip vs).toArray).run P w = .ok (.slice (some ⟨w.heap.size,0,none⟩) n n) (w.alloc<|.cells cells.toArray e):=by
   simp [Instr.buildSlice,run_underlying ht,run_sizeOf hT,h0,h1,hz,aa,hf,newRow]
  refine ⟨.slice (some ⟨w.heap.size,0,none⟩) n n,_,_,by simp only [execOp,List.map_toArray,ab];rw [Sem.run_bind,ai];rfl,⟨_,rfl,rfl⟩,?_⟩
  refine hs.new (hs.alloc _) ⟨_,n,rfl,hl,Nat.le_refl _,?_,λ_=>⟨w.heap.size,0,_,rfl,heap_alloc_new w _,by simp [hl],λj u hj=>by simpa using hj⟩⟩ λk hk=>?_
  ·have hs:0<sz:=Nat.pos_of_ne_zero λh=>by subst h;simp at hn
   have:=Nat.le_mul_of_pos_right n hs
   simp only [maxLen];omega
  obtain ⟨o,n',c',he,ak⟩:=hk
  cases he
  exact ⟨Nat.le_refl _,by simp⟩
theorem callable_spec{f: FuncId}(h : callable P f = true) : ∃ fn, P.funcs[f]? = some fn ∧ (fn.name == "runtime.NumGoroutine") = false ∧ fn.body.isNone = false := by
 unfold callable at h
 split at h
 ·rename_i fn hf
  simp at h
  exact ⟨fn,hf,by simpa using h.1,by
   cases hb:fn.body with
   |none=>simp [hb] at h
   |some _=>rfl⟩
 cases h
theorem run_callFunc{f:FuncId}(h:callable P f=true)(Z:Array Value)(w:World):(callFunc f Z).run P w = .ok (.enter f Z) w:=by
 obtain ⟨fn,ab,M,aa⟩:=callable_spec h
 simp only [callFunc,Sem.run_bind,run_program,Result.andThen_ok,ab,M,aa,Bool.false_eq_true,if_false]
 rfl
theorem Eff.call{f:FuncId}{as:Array TypeId}{Post:Value->List Item->Prop}(hf:callable P f=true)(hx:evalL L xs=some vs)(hN:Nat.blt dd N.n=true)(hc:eu P κ f vs I Post) :
  Eff P κ N Q ⟨some dd,.call {callee:= .value (.func f),args:=xs.toArray,argTypes:=as},ty,ps,af,gd⟩ L I λL' I''=>∃v J,Post v J/\L'=(dd,v)::L/\J=I'':=λa w ha hs=>by
 have he:(execOp a.eval ⟨some dd,.call {callee:= .value (.func f),args:=xs.toArray,argTypes:=as},ty,ps,af,gd⟩).run P w = .ok (.enter f vs.toArray) w:=by
  have e1:a.eval (.func f) = .func (.func f) #[] #[]:=rfl
  simp only [execOp,resolve,e1,Deferred.ofValue,invoke,Sem.run_bind,Sem.run_pure,Result.andThen_ok,List.map_toArray,ha.evalL hx,run_callFunc hf]
  simp
 simp only [Oper.wp,he,Oper.upon]
 refine (hc w hs).mono λe w' ⟨v,J,Z,hp,M⟩=>?_
 subst Z
 exact ⟨_,_,⟨v,J,hp,rfl,rfl⟩,ha.put dd hN v,M⟩
theorem Eff.callv{f:FuncId}{x:Operand}{first caps:List Value}{as:Array TypeId}{Post:Value->List Item->Prop}(hf:callable P f=true)(Z:er L x=some (.func (.func f) first.toArray caps.toArray))
  (hx:evalL L xs=some vs) (hN:Nat.blt dd N.n=true) (hc:eu P κ f (first++vs++caps) I Post) :
  Eff P κ N Q ⟨some dd,.call {callee:= .value x,args:=xs.toArray,argTypes:=as},ty,ps,af,gd⟩ L I λL' I''=>∃v J,Post v J/\L'=(dd,v)::L/\J=I'':=λa w ha hs=>by
 have he:(execOp a.eval ⟨some dd,.call {callee:= .value x,args:=xs.toArray,argTypes:=as},ty,ps,af,gd⟩).run P w = .ok (.enter f (first++vs++caps).toArray) w:=by
  simp only [execOp,resolve,ha.eval Z,Deferred.ofValue,invoke,Sem.run_bind,Sem.run_pure,Result.andThen_ok,List.map_toArray,ha.evalL hx,run_callFunc hf]
  simp
 simp only [Oper.wp,he,Oper.upon]
 refine (hc w hs).mono λe w' ⟨v,J,M,hp,aa⟩=>?_
 subst M
 exact ⟨_,_,⟨v,J,hp,rfl,rfl⟩,ha.put dd hN v,aa⟩
def RetR(κ:Ctx)(Post:Value->List Item->Prop):Ending->World->Prop:=λe w'=>∃v J,e = .returned v/\Post v J/\Sep κ w' J
theorem eu.enter{f:FuncId}{M:Func}{c:Code}{n:Nat}{Post:Value->List Item->Prop}(hf:P.funcs[f]? = some M)(hb:M.body=some c)(hN:M.ntmps=n)(hl:Nat.ble Z.length n=true)(hL:argEnv 0 Z=L)
  (h:W P κ ⟨n,[]⟩ c (bodyPost P M<|RetR κ Post) L I):eu P κ f Z I Post:=λw hs=>by
 refine calls_of_wp hf hb ?_
 rw [hN]
 subst hL
 exact h _ w (Ag.start Z n<|by simpa using hl) hs
theorem V.ret1{Z:Func}{t:Tmp}{Post:Value->List Item->Prop}(hr:Z.results = #[.tmp t])(hv:look L t=some v)(J:List Item)(hf:Fit κ I J)(hp:Post v J)(h0:N.ds=[]:=by rfl):V κ N (bodyPost P Z (RetR κ Post)) .ret L I:=
 λa w M hs=>bodyPost_ret (v:=v) (by rw [results_tmp hr];simp [M.get t v hv]) (M.defers.trans h0) ⟨v,J,rfl,hp,hf w hs⟩
theorem V.ret2{t u:Tmp}{Z:Value}{Post:Value->List Item->Prop}(hr:fn.results = #[.tmp t,.tmp u])(hv:look L t=some v)(M:look L u=some Z)(J:List Item)(hf:Fit κ I J)(hp:Post (.tuple #[v,Z]) J)(h0:N.ds=[]:=by rfl):V κ N (bodyPost P fn (RetR κ Post)) .ret L I:=
 λa w ha hs=>bodyPost_ret (v:= .tuple #[v,Z]) (by rw [results_tmp2 hr];simp [ha.get t v hv,ha.get u Z M]) (ha.defers.trans h0) ⟨_,J,rfl,hp,hf w hs⟩
theorem V.end0{Z:Func}{Post:Value->List Item->Prop}(hr:Z.results = #[])(J:List Item)(M:Fit κ I J)(hp:Post (.tuple #[]) J)(h0:N.ds=[]:=by rfl):V κ N (bodyPost P Z (RetR κ Post)) .normal L I:=
 λa w ha hs=>bodyPost_end (v:= .tuple #[]) (by rw [results_none hr]) (ha.defers.trans h0) ⟨_,J,rfl,hp,M w hs⟩
theorem V.retc{t:Tmp}{T:Nat}{Post:Value->List Item->Prop}(hr:fn.results = #[.cell t T])(hT:tyF P T=some (sz,true,by',z))(hv:look L t=some ((pt b)))(hb:e8 b cs E∈I)(hl:cs.length=sz)
  (J:List Item) (hf:Fit κ I J) (hp:Post (.agg cs.toArray) J) (h0:N.ds=[]:=by rfl):V κ N (bodyPost P fn<|RetR κ Post) .ret L I:=
 λa w ha hs=>by
  have Z:=λj=>cell_blk (w:=w) (hs.ok _ hb).1 j
  have M:(loadVar T ⟨b,0,none⟩).run P w = .ok (.agg cs.toArray) w:=run_loadVar_agg hT hl λj u hj=>by rw [addr_add,Z,←hj];simp
  refine bodyPost_ret (v:= .agg cs.toArray) ?_ (ha.defers.trans h0) ⟨_,J,rfl,hp,hf w hs⟩
  simp [results,hr,ha.get t _ hv,asAddr,M]
theorem V.retc1{t u:Tmp}{T:Nat}{v':Value}{Post:Value->List Item->Prop}(hr:fn.results = #[.cell t T,.tmp u])(hT:tyF P T=some (sz,true,by',z))(hv:look L t=some ((pt b)))(aa:look L u=some v')(hb:e8 b cs E∈I)
  (hl:cs.length=sz) (J:List Item) (hf:Fit κ I J) (hp:Post (.tuple #[.agg cs.toArray,v']) J) (h0:N.ds=[]:=by rfl):V κ N (bodyPost P fn<|RetR κ Post) .ret L I:=
 λa w ha hs=>by
  have Z:=λj=>cell_blk (w:=w) (hs.ok _ hb).1 j
  have M:(loadVar T ⟨b,0,none⟩).run P w = .ok (.agg cs.toArray) w:=run_loadVar_agg hT hl λj u hj=>by rw [addr_add,Z,←hj];simp
  refine bodyPost_ret (v:= .tuple #[.agg cs.toArray,v']) ?_ (ha.defers.trans h0) ⟨_,J,rfl,hp,hf w hs⟩
  simp [results,hr,ha.get t _ hv,ha.get u _ aa,asAddr,M]
end
end Go.Sl
namespace Go.Sl
variable{i m:Int}{x y:Operand}{E T by' c dd e h l n s t:Nat}{ag:Bool}{z:List Value}{u:Value}{I':List Item}{ad:Option Addr}
class Enc (α:Type) where
 enc:α->List Value
 sz:Nat
 pos:0<sz
 len:∀x,(enc x).length=sz
 one:∀x,∀u∈enc x,u.oneCell'=true
instance:Enc Bool:=⟨λb=>[.bool b],1,by omega,λ_=>rfl,λ_ u h=>by simp at h;subst h;rfl⟩
instance:Enc Int:=⟨λn=>[e7 n],1,by omega,λ_=>rfl,λ_ u h=>by simp at h;subst h;rfl⟩
def e_{α:Type}[Inhabited α](xs:List α)(i:Int):α:=xs.getD i.toNat default
theorem at_eq{α:Type}[Inhabited α]{xs:List α}(Z:0<=i)(hn:i<xs.length):e_ xs i=xs[i.toNat]'(by omega):=by
 simp [e_,List.getD_eq_getElem?_getD,List.getElem?_eq_getElem (show i.toNat<xs.length by omega)]
def cells{α:Type}[Enc α](xs:List α):List Value:=xs.flatMap Enc.enc
def Sl{α:Type}[Enc α](κ:Ctx)(I:List Item)(v:Value)(xs:List α):Prop:=SlRd κ I (Enc.sz α) v xs.length (cells xs)
def vc{α:Type}[Enc α](e:TypeId)(v:Value)(xs:List α):Item:=vec e (Enc.sz α) v xs.length (cells xs)
abbrev vk{α:Type}[Enc α](e:TypeId)(a:Option Addr)(c:Nat)(l:List α):Item:=vc e (.slice a l.length c) l
section
variable {α:Type}[Enc α]
theorem cells_cons(x:α)(xs:List α):cells (x::xs)=Enc.enc x++cells xs:=rfl
theorem cells_append(xs ys:List α):cells (xs++ys)=cells xs++cells ys:=by simp [cells]
theorem cells_length(xs:List α):(cells xs).length=xs.length*Enc.sz α:=by
 induction xs with
 |nil=>simp [cells]
 |cons x xs ih=>rw [cells_cons,List.length_append,ih,Enc.len,List.length_cons,Nat.add_mul];omega
theorem cells_one(xs:List α):∀u∈cells xs,u.oneCell'=true:=λu hu=>by
 obtain ⟨x,_,Z⟩:=List.mem_flatMap.1 hu
 exact Enc.one x u Z
theorem cells_get(xs:List α):∀(i j:Nat) (hi:i<xs.length),j<Enc.sz α->(cells xs)[i*Enc.sz α+j]? = (Enc.enc xs[i])[j]? :=by
 induction xs with
 |nil=>intro i j hi;simp at hi
 |cons x xs ih=>
  intro i j hi Z
  rw [cells_cons]
  cases i with
  |zero=>
   rw [List.getElem?_append_left (by rw [Enc.len];omega)]
   simp
  |succ i=>
   have e:(i+1)*Enc.sz α+j=Enc.sz α+(i*Enc.sz α+j):=by rw [Nat.add_mul];omega
   rw [e,List.getElem?_append_right (by rw [Enc.len];omega),Enc.len,Nat.add_sub_cancel_left,ih i j (by simpa using hi) Z]
   simp
theorem cells_take(xs:List α)(i:Nat):cells (xs.take i)=(cells xs).take (i*Enc.sz α):=by
 induction xs generalizing i with
 |nil=>simp [cells]
 |cons x xs ih=>
  cases i with
  |zero=>simp [cells]
  |succ i=>
   have e:(i+1)*Enc.sz α=Enc.sz α+i*Enc.sz α:=by rw [Nat.add_mul];omega
   have Z:(Enc.enc x).take (Enc.sz α+i*Enc.sz α)=Enc.enc x:=List.take_of_length_le (by rw [Enc.len];omega)
   rw [List.take_succ_cons,cells_cons,cells_cons,ih,List.take_append,Enc.len,e,Z,Nat.add_sub_cancel_left]
theorem cells_drop(xs:List α)(i:Nat):cells (xs.drop i)=(cells xs).drop (i*Enc.sz α):=by
 induction xs generalizing i with
 |nil=>simp [cells]
 |cons x xs ih=>
  cases i with
  |zero=>simp [cells]
  |succ i=>
   have e:(i+1)*Enc.sz α=Enc.sz α+i*Enc.sz α:=by rw [Nat.add_mul];omega
   have Z:(Enc.enc x).drop (Enc.sz α+i*Enc.sz α)=[]:=List.drop_eq_nil_of_le (by rw [Enc.len];omega)
   rw [List.drop_succ_cons,cells_cons,ih,List.drop_append,Enc.len,e,Z,Nat.add_sub_cancel_left,List.nil_append]
theorem cells_set(xs:List α)(i:Nat)(x:α)(hi:i<xs.length):(cells xs).take (i*Enc.sz α)++Enc.enc x++(cells xs).drop (i*Enc.sz α+Enc.sz α)=cells (xs.set i x):=by
 have Z:xs.set i x=xs.take i++x::xs.drop (i+1):=List.set_eq_take_append_cons_drop.trans (by rw [if_pos hi])
 rw [Z,cells_append,cells_cons,cells_take,cells_drop,Nat.add_mul,Nat.one_mul,List.append_assoc]
variable {κ:Ctx}{I J:List Item}{v:Value}{xs:List α}
theorem Sl.fit(h:Sl κ I v xs)(Z:Fit κ J I):Sl κ J v xs:=SlRd.fit h Z
theorem Sl.vec{e:TypeId}(h:vc e v xs∈I):Sl κ I v xs:=SlRd.vec h
theorem Sl.nil(I:List Item):Sl κ I (.slice none 0 0) ([]:List α):=SlRd.nil I _
theorem Sl.le(h:Sl κ I v xs):∀w,Sep κ w I->xs.length<=9223372036854775807:=λw hs=>by
 obtain ⟨_,_,_,_,M,Z,_⟩:=h w hs
 simp only [maxLen] at Z
 omega
end
section
variable {P:Program}{κ:Ctx}{N:Frm}{Q:Exit->Act->World->Prop}{L:Env}{I J:List Item}
variable {d:Option Tmp}{ty:TypeId}{ps:String}{af:Array Edge}{gd:Option (Nat×Bool)}
variable {α:Type}[Enc α]{v:Value}{xs:List α}
theorem Runs.idx(ht:P.underlying T=some (.slice E))(hE:tyF P E=some (Enc.sz α,ag,by',z))(M:er L x=some v)
  (Z:er L y=some (e7 i)) (hv:Sl κ J v xs) (h0:0<=i) (hn:i<xs.length):Runs P κ N ⟨d,.indexAddr T x y,ty,ps,af,gd⟩ L J (elemPtr v<|i.toNat*Enc.sz α):=
 Runs.indexAddr ht hE M Z hv h0 hn
theorem Runs.lenT(M:P.underlying T=some (.slice E))(Z:er L x=some v)(hv:Sl κ J v xs) :
  Runs P κ N ⟨d,.call {callee:= .builtin .len,args:= #[x],argTypes:= #[T]},ty,ps,af,gd⟩ L J (e7 xs.length):=Runs.len M Z hv
theorem Runs.get{xs:List Int}(M:tyF P T=some (s,false,by',z))(Z:er L x=some (elemPtr v (i.toNat*Enc.sz Int)))(hv:Sl κ J v xs)(h0:0<=i)(hn:i<xs.length) :
  Runs P κ N ⟨d,.load T x,ty,ps,af,gd⟩ L J (e7<|e_ xs i):=
 Runs.loadElem M Z hv (by
  have:=cells_get xs i.toNat 0 (by omega) (by decide)
  simp only [Nat.add_zero] at this
  rw [this,at_eq h0 hn];rfl)
theorem Runs.getB{xs:List Bool}(M:tyF P T=some (s,false,by',z))(Z:er L x=some (elemPtr v (i.toNat*Enc.sz Bool)))(hv:Sl κ J v xs)(h0:0<=i)(hn:i<xs.length) :
  Runs P κ N ⟨d,.load T x,ty,ps,af,gd⟩ L J (.bool<|e_ xs i):=
 Runs.loadElem M Z hv (by
  have:=cells_get xs i.toNat 0 (by omega) (by decide)
  simp only [Nat.add_zero] at this
  rw [this,at_eq h0 hn];rfl)
theorem Runs.gets[Inhabited α](hT:tyF P T=some (Enc.sz α,true,by',z))(hx:er L x=some (elemPtr v (i.toNat*Enc.sz α)))(hv:Sl κ J v xs)(h0:0<=i)(hn:i<xs.length) :
  Runs P κ N ⟨d,.load T x,ty,ps,af,gd⟩ L J (.agg (Enc.enc<|e_ xs i).toArray):=
 Runs.loadElems hT hx hv (by omega) (λj u M=>by
  have Z:j<Enc.sz α:=by rw [←Enc.len (e_ xs i)];exact (List.getElem?_eq_some_iff.1 M).1
  rw [cells_get xs i.toNat j (by omega) Z,←at_eq h0 hn];exact M) (Enc.len _)
theorem Runs.fld{k off m:Nat}(h:fldF P T k=some off)(Z:er L x=some (elemPtr v m))(hv:Sl κ J v xs)(hn:0<xs.length) :
  Runs P κ N ⟨d,.fieldAddr T x k,ty,ps,af,gd⟩ L J (elemPtr v<|m+off):=Runs.fieldElem h Z hv hn
theorem Runs.getf[Inhabited α]{j:Nat}(hT:tyF P T=some (s,false,by',z))(M:er L x=some (elemPtr v (i.toNat*Enc.sz α+j)))(hv:Sl κ J v xs)(h0:0<=i)(hn:i<xs.length)
  (hu:(Enc.enc<|e_ xs i)[j]? = some u):Runs P κ N ⟨d,.load T x,ty,ps,af,gd⟩ L J u:=
 Runs.loadElem hT M hv (by
  have Z:j<Enc.sz α:=by rw [←Enc.len (e_ xs i)];exact (List.getElem?_eq_some_iff.1 hu).1
  rw [cells_get xs i.toNat j (by omega) Z,←at_eq h0 hn];exact hu)
theorem Eff.set{new:α}(hT:tyF P T=some (Enc.sz α,ag,by',z))(hx:er L x=some (elemPtr v (i.toNat*Enc.sz α)))(hy:er L y=some u)
  (hu:cellsOf u=Enc.enc new) (h0:0<=i) (hn:i<xs.length) (Z:At I (vc e v xs) (vc e v<|xs.set i.toNat new) I'):Eff P κ N Q ⟨none,.store T x y,ty,ps,af,gd⟩ L I λL' I''=>L'=L/\I''=I':=by
 have hs:=cells_set xs i.toNat new (by omega)
 have M:=cells_length xs
 refine Eff.storeElem (sz:=Enc.sz α) (n:=xs.length) (cs:=cells xs) (cs':=cells (xs.set i.toNat new)) (e:=e) hT hx hy hu (Enc.len _) (Enc.one _) (by omega) ?_ ?_ ?_
 ·rw [Enc.len,M]
  have:(i.toNat+1)*Enc.sz α<=xs.length*Enc.sz α:=Nat.mul_le_mul_right _ (by omega)
  rw [Nat.add_mul] at this
  omega
 ·rw [Enc.len];exact hs
 have:=Z
 unfold vc at this
 rw [List.length_set] at this
 exact this
theorem Eff.app{ys:List α}(ht:P.underlying t=some (.slice e))(hT:tyF P e=some (Enc.sz α,ag,by',z))(ab:z.length=Enc.sz α)(hx:er L x=some v)(hy:er L y=some u)
  (hv:vc e v xs∈I) (hu:Sl κ I u ys) (aa:(xs.length+ys.length)*by'<=140737488355328) (Z:0<by') (hN:Nat.blt dd N.n=true) {I':Option Addr->Nat->List Item} (ae:∀ad c,At I (vc e v xs) (vc e (.slice ad (xs++ys).length c)<|xs++ys)<|I' ad c) :
  Eff P κ N Q ⟨some dd,.call {callee:= .builtin .append,args:= #[x,y],argTypes:= #[t,t]},ty,ps,af,gd⟩ L I λL' I''=>∃ad c,L'=(dd,.slice ad (xs++ys).length c)::L/\I''=I' ad c:=by
 have M:xs.length+ys.length<=maxLen:=by
  have:=Nat.le_mul_of_pos_right (xs.length+ys.length) Z
  simp only [maxLen];omega
 have h:=Eff.append (P:=P) (κ:=κ) (N:=N) (Q:=Q) (ty:=ty) (ps:=ps) (af:=af) (gd:=gd) (I':=I') ht hT ab hx hy hv hu (cells_one ys) M aa hN λad c=>by
  have:=ae ad c
  unfold vc at this
  rw [List.length_append,cells_append] at this
  exact this
 rw [←List.length_append] at h
 exact h
theorem rep_cells[Inhabited α]:∀(n:Nat),(List.replicate n (Enc.enc (default:α))).flatten=cells (List.replicate n (default:α))
 |0=>rfl
 |n+1=>by rw [List.replicate_succ,List.replicate_succ,cells_cons,List.flatten_cons,rep_cells n]
theorem Eff.make[Inhabited α](ht:P.underlying t=some (.slice e))(hT:tyF P e=some (Enc.sz α,ag,by',z))(hz:z=Enc.enc (default:α))(hx:er L x=some (e7 m))(hy:er L y=some (e7 m))(hm:m=(n:Int))
  (aa:n*by'<=281474976710656) (Z:0<by') (hN:Nat.blt dd N.n=true) :
  Eff P κ N Q ⟨some dd,.makeSlice t x y,ty,ps,af,gd⟩ L I λL' I''=>∃ad c,L'=(dd,.slice ad (List.replicate n (default:α)).length c)::L/\I''=vc e (.slice ad (List.replicate n (default:α)).length c) (List.replicate n (default:α))::I:=by
 subst hm
 have M:n<=maxLen:=by
  have:=Nat.le_mul_of_pos_right n Z
  simp only [maxLen];omega
 have h:=Eff.makeSlice (P:=P) (κ:=κ) (N:=N) (Q:=Q) (L:=L) (I:=I) (ty:=ty) (ps:=ps) (af:=af) (gd:=gd) ht hT (by rw [hz,Enc.len]) hx hy M aa hN
 have e:(List.replicate n z).flatten=cells (List.replicate n (default:α)):=by rw [hz,rep_cells]
 unfold vc
 rw [List.length_replicate]
 rw [e] at h
 exact h
def adrop(ad:Option Addr)(c l sz:Nat):Option Addr:=if c=l then ad else ad.map (·.add (l*sz))
theorem Sl.take(hv:Sl κ I (.slice ad n c) xs)(hh:h<=xs.length):Sl κ I (.slice ad (xs.take h).length c) (xs.take h):=λw hs=>by
 obtain ⟨a,cap,he,h1,h2,M,h4⟩:=hv w hs
 cases he
 refine ⟨ad,c,rfl,cells_length _,by rw [List.length_take];omega,M,λhc=>?_⟩
 obtain ⟨b,off,rfl,hr⟩:=h4 hc
 refine ⟨b,off,rfl,λj u Z=>hr j u ?_⟩
 rw [cells_take,List.getElem?_take] at Z
 split at Z
 ·exact Z
 cases Z
theorem Sl.drop(hv:Sl κ I (.slice ad n c) xs)(hl:l<=xs.length):Sl κ I (.slice (adrop ad c l (Enc.sz α)) (xs.drop l).length (c - l)) (xs.drop l):=λw hs=>by
 obtain ⟨a,cap,he,h1,h2,h3,h4⟩:=hv w hs
 cases he
 refine ⟨_,c - l,rfl,by rw [cells_length,List.length_drop],by rw [List.length_drop];omega,by omega,λhc=>?_⟩
 obtain ⟨b,off,rfl,M⟩:=h4 (by omega)
 refine ⟨b,off+l*Enc.sz α,by unfold adrop;rw [if_neg (by omega)];simp [addr_add],λj u Z=>?_⟩
 rw [cells_drop,List.getElem?_drop] at Z
 rw [Nat.add_assoc]
 exact M _ u Z
theorem Runs.hi(ht:P.underlying T=some (.slice E))(M:tyF P E=some (Enc.sz α,ag,by',z))(hx:er L x=some (.slice ad n c))(Z:er L y=some (e7 m))(hm:m=(h:Int))
  (hv:Sl κ J (.slice ad n c) xs) (hh:h<=xs.length):Runs P κ N ⟨d,.slice T x none (some y) none,ty,ps,af,gd⟩ L J (.slice ad (xs.take h).length c):=λa w ha hs=>by
 subst hm
 obtain ⟨_,_,he,_,h2,_⟩:=hv w hs
 cases he
 have:=Runs.slice (P:=P) (κ:=κ) (N:=N) (L:=L) (J:=J) (d:=d) (ty:=ty) (ps:=ps) (af:=af) (gd:=gd) (l:=0) (h:=h) ht M hx (.inl ⟨rfl,rfl⟩) (.inr ⟨y,rfl,Z⟩) (Nat.zero_le _) (by omega) a w ha hs
 rw [this,List.length_take,Nat.min_eq_left hh]
 have e:(if c=0 then ad else ad.map (λx=>x.add<|0*Enc.sz α))=ad:=by
  split
  ·rfl
  cases ad<;>simp [Addr.add]
 rw [e]
 rfl
theorem Runs.lo(ht:P.underlying T=some (.slice E))(hE:tyF P E=some (Enc.sz α,ag,by',z))(hx:er L x=some (.slice ad n c))(Z:er L y=some (e7 m))(hm:m=(l:Int))
  (hv:Sl κ J (.slice ad n c) xs) (M:l<=xs.length):Runs P κ N ⟨d,.slice T x (some y) none none,ty,ps,af,gd⟩ L J (.slice (adrop ad c l<|Enc.sz α) (xs.drop l).length (c - l)):=λa w ha hs=>by
 subst hm
 obtain ⟨_,_,he,_,h2,_⟩:=hv w hs
 cases he
 rw [List.length_drop]
 exact Runs.slice (P:=P) (κ:=κ) (N:=N) (L:=L) (J:=J) (d:=d) (ty:=ty) (ps:=ps) (af:=af) (gd:=gd) (l:=l) ht hE hx (.inr ⟨y,rfl,Z⟩) (.inl ⟨rfl,rfl⟩) M h2 a w ha hs
theorem Eff.bs{cs:List Value}{Z:List (Nat×Operand)}{vs:List Value}{xs:List α}(ht:P.underlying t=some (.slice e))(hT:tyF P e=some (Enc.sz α,ag,by',z))(aa:z.length=Enc.sz α)
  (hp:evalL L (Z.map (·.2))=some vs) (hn:0<n) (ab:n*Enc.sz α<=16777216) (M:xs.length=n)
  (hf:Instr.fill (λi=>some (i*Enc.sz α,Enc.sz α)) (List.replicate n z).flatten.toArray ((Z.map (·.1)).zip vs)=some cs.toArray) (hc:cs=cells xs) (hN:Nat.blt dd N.n=true) :
  Eff P κ N Q ⟨some dd,.buildSlice t n Z.toArray,ty,ps,af,gd⟩ L I λL' I''=>∃ad,L'=(dd,.slice ad n n)::L/\I''=vc e (.slice ad n n) xs::I:=by
 have h:=Eff.buildSlice (P:=P) (κ:=κ) (N:=N) (Q:=Q) (L:=L) (I:=I) (ty:=ty) (ps:=ps) (af:=af) (gd:=gd) (cells:=cells xs) ht hT aa hp (Nat.mul_pos hn Enc.pos) ab (by rw [hf,hc]) (by rw [cells_length,M]) hN
 unfold vc
 rw [M]
 exact h
theorem Fit.nilvc(e:TypeId)(J:List Item):Fit κ J (vc e (.slice none 0 0) ([]:List α)::J):=λw s=>s.vec_nil e (Enc.sz α)
theorem Eff.clone{ys:List α}(ht:P.underlying t=some (.slice e))(hT:tyF P e=some (Enc.sz α,ag,by',z))(aa:z.length=Enc.sz α)(hx:er L x=some (.slice none 0 0))(hy:er L y=some u)
  (hu:Sl κ I u ys) (M:ys.length*by'<=140737488355328) (Z:0<by') (hN:Nat.blt dd N.n=true) :
  Eff P κ N Q ⟨some dd,.call {callee:= .builtin .append,args:= #[x,y],argTypes:= #[t,t]},ty,ps,af,gd⟩ L I λL' I''=>∃ad c,L'=(dd,.slice ad ys.length c)::L/\I''=vc e (.slice ad ys.length c) ys::I:=by
 intro a w ha hs
 have h:=Eff.app (P:=P) (κ:=κ) (N:=N) (Q:=Q) (L:=L) (I:=vc e (.slice none 0 0) ([]:List α)::I) (ty:=ty) (ps:=ps) (af:=af) (gd:=gd) (xs:=[]) (dd:=dd) (I':=λad c=>vc e (.slice ad ([]++ys).length c) ([]++ys)::I) ht hT aa hx hy List.mem_cons_self (Sl.fit hu<|Fit.tail<|Fit.refl _) (by simpa using M) Z hN (λ_ _=>At.head _ _ _)
 exact h a w ha<|hs.vec_nil e<|Enc.sz α
theorem Fit.upd{x x':Item}{I:List Item}(Z:At I x x' I')(h:∀w,x.ok w->x'.ok w/\∀k,x'.fp k->x.fp k):Fit κ I I':=λw hs=>
 hs.upd Z rfl ⟨rfl,Nat.le_refl _⟩ rfl (Nat.le_refl _) (λ_ _ _=>rfl) (h w (hs.ok _ Z.mem).1).1 λk M=> .inl ((h w (hs.ok _ Z.mem).1).2 k M)
end
end Go.Sl
namespace Go.Sl
variable{I':List Item}{x:Operand}{E T b by' sz:Nat}{cs vs z:List Value}
theorem Pick.app{xs I:List Item}{x:Item}(h:Pick I x I'):Pick (xs++I) x (xs++I'):=by
 induction xs with
 |nil=>exact h
 |cons y xs ih=>exact Pick.tail y ih
theorem Sp.appR(xs I:List Item):Sp (xs++I) I:=by
 induction xs with
 |nil=>exact Sp.refl _
 |cons y xs ih=>exact Sp.skip y ih
section
variable {P:Program}{κ:Ctx}{N:Frm}{Q:Exit->Act->World->Prop}{L:Env}{I J:List Item}{ops:Array Oper}{o:Oper}{rest:List Oper}
theorem lookO{L:Env}{k:Nat}{m n:Int}(h:look L k=some (.int .i64 m):=by exact rfl)(e:m=n:=by first|omega|(dsimp only<;>omega)):look L k=some (.int .i64 n):=lookI h e
theorem Fit.m(h:Fit κ I J:=by repeat (first|exact Fit.refl _|apply Fit.tail|exact Fit.appR _ _|apply Fit.appL)):Fit κ I J:=h
theorem Fit.sub(h:J.Sublist I:=by repeat (first|exact List.Sublist.refl _|apply List.Sublist.cons_cons|apply List.Sublist.cons|exact List.sublist_append_right _ _)):Fit κ I J:=Fit.of_sublist h
theorem Fit.s(h:Sp I J:=by repeat (first|exact Sp.refl _|refine Sp.pick (by repeat (first|exact Pick.head _ _|apply Pick.tail|apply Pick.app)) ?_|apply Sp.skip|exact Sp.appR _ _)):Fit κ I J:=Fit.sp h
theorem G.e{R:Env->List Item->Prop}(Z:Eff P κ N Q o L I R)(h:∀L' I',R L' I'->G P κ N ops Q rest L' I')(M:Wanted N ops o L:=by exact Wanted.plain rfl):G P κ N ops Q (o::rest) L I:=G.eff M Z h
theorem G.nt{y:Code}(h:W P κ N y Q L I):G P κ N ops (Exit.then (y.wp P Q) Q) [] L I:=G.nil (V.then h)
theorem W.sr{id:Nat}{l:List Oper}{y:Code}(h:G P κ N l.toArray (Exit.then (y.wp P Q) Q) l L I):W P κ N (.seq (.region id l.toArray false) y) Q L I:=W.seq (W.region h)
end
section
variable {α:Type}[Enc α]{κ:Ctx}{I J:List Item}{v:Value}{xs:List α}
theorem Sl.f(h:Sl κ I v xs)(Z:Fit κ J I:=by repeat (first|exact Fit.refl _|apply Fit.tail|exact Fit.appR _ _|apply Fit.appL)):Sl κ J v xs:=h.fit Z
theorem Sl.o{e:TypeId}(h:vc e v xs∈I:=by repeat (first|exact List.mem_cons_self|apply List.mem_cons_of_mem)):Sl κ I v xs:=Sl.vec h
end
section
variable {P:Program}{κ:Ctx}{N:Frm}{Q:Exit->Act->World->Prop}{L:Env}{I J:List Item}
variable {d:Option Tmp}{ty:TypeId}{ps:String}{af:Array Edge}{gd:Option (Nat×Bool)}
theorem Runs.getf0{P:Program}{κ:Ctx}{N:Frm}{L:Env}{J:List Item}{d:Option Tmp}{ty:TypeId}{ps:String}{af:Array Edge}{gd:Option (Nat×Bool)}{α:Type}[Enc α][Inhabited α]{v:Value}{xs:List α}{s:Nat}{i:Int}{u:Value}(Z:tyF P T=some (s,false,by',z))(M:er L x=some (elemPtr v (i.toNat*Enc.sz α)))(hv:Sl κ J v xs)(h0:0<=i)(hn:i<xs.length)
  (hu:(Enc.enc<|e_ xs i)[0]? = some u):Runs P κ N ⟨d,.load T x,ty,ps,af,gd⟩ L J u:=Runs.getf (j:=0) Z M hv h0 hn hu
theorem Runs.ld{o:Nat}{v:Value}(M:tyF P T=some (sz,false,by',z))(Z:er L x=some (.pointer (some ⟨b,o,none⟩)):=by exact rfl)
  (hb:e8 b cs E∈J:=by repeat (first|exact List.mem_cons_self|apply List.mem_cons_of_mem)) (hc:cs[o]? = some v:=by exact rfl):Runs P κ N ⟨d,.load T x,ty,ps,af,gd⟩ L J v:=Runs.load M Z hb hc
theorem Runs.lds{o:Nat}{vs:List Value}(hT:tyF P T=some (sz,true,by',z))(M:er L x=some (.pointer (some ⟨b,o,none⟩)):=by exact rfl)
  (hb:e8 b cs E∈J:=by repeat (first|exact List.mem_cons_self|apply List.mem_cons_of_mem)) (hc:(cs.drop o).take sz=vs:=by exact rfl) (Z:vs.length=sz:=by exact rfl):Runs P κ N ⟨d,.load T x,ty,ps,af,gd⟩ L J (.agg vs.toArray):=Runs.loads hT M hb hc Z
theorem Runs.lq{o:Nat}{v0 v1 v2 v3 v4 v5 v6 v7 v8 v9 v10 v11 v12 v13 v14 v15 v16 v17 v18 v19 v20 v21 v22 v23 v24:Value}(hT:tyF P T=some (sz,true,by',z))(M:er L x=some (.pointer (some ⟨b,o,none⟩)):=by exact rfl)
  (hb:e8 b cs E∈J:=by repeat (first|exact List.mem_cons_self|apply List.mem_cons_of_mem)) (hc:(cs.drop o).take sz=[v0,v1,v2,v3,v4,v5,v6,v7,v8,v9,v10,v11,v12,v13,v14,v15,v16,v17,v18,v19,v20,v21,v22,v23,v24]:=by exact rfl) (Z:[v0,v1,v2,v3,v4,v5,v6,v7,v8,v9,v10,v11,v12,v13,v14,v15,v16,v17,v18,v19,v20,v21,v22,v23,v24].length=sz:=by exact rfl):Runs P κ N ⟨d,.load T x,ty,ps,af,gd⟩ L J (.agg [v0,v1,v2,v3,v4,v5,v6,v7,v8,v9,v10,v11,v12,v13,v14,v15,v16,v17,v18,v19,v20,v21,v22,v23,v24].toArray):=Runs.loads hT M hb hc Z
theorem Eff.st{y:Operand}{o E:Nat}{ag:Bool}{cs cs':List Value}{v:Value}{I':List Item}(hT:tyF P T=some (sz,ag,by',z))(hx:er L x=some (.pointer (some ⟨b,o,none⟩)):=by exact rfl)(hy:er L y=some v:=by exact rfl)
  (hv:cellsOf v=vs:=by exact rfl) (hl:vs.length=sz:=by exact rfl) (h1:AllOne vs:=by repeat (first|exact AllOne.nil|refine AllOne.cons rfl ?_)) (Z:At I (e8 b cs E) (e8 b cs' E) I':=by repeat (first|exact At.head _ _ _|apply At.tail)) (hr:o+vs.length<=cs.length:=by exact Nat.le_of_ble_eq_true rfl) (M:cs.take o++vs++cs.drop (o+vs.length)=cs':=by exact rfl) :
  Eff P κ N Q ⟨none,.store T x y,ty,ps,af,gd⟩ L I λL' I''=>L'=L/\I''=I':=Eff.store hT hx hy hv hl h1.all hr M Z
theorem Eff.sq{y:Operand}{o E:Nat}{ag:Bool}{c0 c1 c2 c3 c4 c5 c6 c7 c8 c9 c10 c11 c12 c13 c14 c15 c16 c17 c18 c19 c20 c21 c22 c23 c24 w0 w1 w2 w3 w4 w5 w6 w7 w8 w9 w10 w11 w12 w13 w14 w15 w16 w17 w18 w19 w20 w21 w22 w23 w24 u0 u1 u2 u3 u4 u5 u6 u7 u8 u9 u10 u11 u12 u13 u14 u15 u16 u17 u18 u19 u20 u21 u22 u23 u24:Value}{v:Value}{I':List Item}(hT:tyF P T=some (sz,ag,by',z))(hx:er L x=some (.pointer (some ⟨b,o,none⟩)):=by exact rfl)(hy:er L y=some v:=by exact rfl)
  (hv:cellsOf v=[u0,u1,u2,u3,u4,u5,u6,u7,u8,u9,u10,u11,u12,u13,u14,u15,u16,u17,u18,u19,u20,u21,u22,u23,u24]:=by exact rfl) (hl:[u0,u1,u2,u3,u4,u5,u6,u7,u8,u9,u10,u11,u12,u13,u14,u15,u16,u17,u18,u19,u20,u21,u22,u23,u24].length=sz:=by exact rfl) (h1:AllOne [u0,u1,u2,u3,u4,u5,u6,u7,u8,u9,u10,u11,u12,u13,u14,u15,u16,u17,u18,u19,u20,u21,u22,u23,u24]:=by repeat (first|exact AllOne.nil|refine AllOne.cons rfl ?_)) (Z:At I (e8 b [c0,c1,c2,c3,c4,c5,c6,c7,c8,c9,c10,c11,c12,c13,c14,c15,c16,c17,c18,c19,c20,c21,c22,c23,c24] E) (e8 b [w0,w1,w2,w3,w4,w5,w6,w7,w8,w9,w10,w11,w12,w13,w14,w15,w16,w17,w18,w19,w20,w21,w22,w23,w24] E) I':=by repeat (first|exact At.head _ _ _|apply At.tail)) (hr:o+[u0,u1,u2,u3,u4,u5,u6,u7,u8,u9,u10,u11,u12,u13,u14,u15,u16,u17,u18,u19,u20,u21,u22,u23,u24].length<=[c0,c1,c2,c3,c4,c5,c6,c7,c8,c9,c10,c11,c12,c13,c14,c15,c16,c17,c18,c19,c20,c21,c22,c23,c24].length:=by exact Nat.le_of_ble_eq_true rfl) (M:[c0,c1,c2,c3,c4,c5,c6,c7,c8,c9,c10,c11,c12,c13,c14,c15,c16,c17,c18,c19,c20,c21,c22,c23,c24].take o++[u0,u1,u2,u3,u4,u5,u6,u7,u8,u9,u10,u11,u12,u13,u14,u15,u16,u17,u18,u19,u20,u21,u22,u23,u24]++[c0,c1,c2,c3,c4,c5,c6,c7,c8,c9,c10,c11,c12,c13,c14,c15,c16,c17,c18,c19,c20,c21,c22,c23,c24].drop (o+[u0,u1,u2,u3,u4,u5,u6,u7,u8,u9,u10,u11,u12,u13,u14,u15,u16,u17,u18,u19,u20,u21,u22,u23,u24].length)=[w0,w1,w2,w3,w4,w5,w6,w7,w8,w9,w10,w11,w12,w13,w14,w15,w16,w17,w18,w19,w20,w21,w22,w23,w24]:=by exact rfl) :
  Eff P κ N Q ⟨none,.store T x y,ty,ps,af,gd⟩ L I λL' I''=>L'=L/\I''=I':=Eff.store hT hx hy hv hl h1.all hr M Z
end
end Go.Sl
