/- A part of the proofs of statements of this seat: contracts of functions, and the plain laws that they lean on. No conditions. -/
import Derived.Test.YtfkcohmipjhfcaaGreatDoorW2
import Derived.Lib.Overlaps
import Derived.Lib.AppendZerosOnto
import Derived.Lib.SliceRun
import Derived.MapKept
import Derived.Shelf.SortM.Plain
import Derived.Shelf.SortM.SortNone
import Derived.RangeFuncRecord
import Derived.RangeFuncCalls
import Derived.TacticsIn
set_option linter.unusedVariables false
set_option linter.unusedSimpArgs false
set_option linter.unusedSectionVars false
namespace Go.Sl
section
variable {P:Program}{κ:Ctx}{N:Frm}{Q:Exit->Act->World->Prop}{L:Env}{I J:List Item}
variable {d:Option Tmp}{ty:TypeId}{ps:String}{af:Array Edge}{gd:Option (Nat×Bool)}
theorem Runs.convw{x:Operand}{S T:TypeId}{k k' q:IntKind}{n:Int}(hs:P.underlying S=some (.int q))(ht:P.underlying T=some (.int k))(hx:er L x=some (.int k' n)) :
  Runs P κ N ⟨d,.convert S T x,ty,ps,af,gd⟩ L J (.int k (k.wrap n)):=λa w ha _=>by
 simp [execOp,ha.eval hx,convert,run_underlying hs,run_underlying ht,Conv.intToInt]
theorem Runs.convI{x:Operand}{S T:TypeId}{k' q:IntKind}{n:Int}(hs:P.underlying S=some (.int q))(ht:P.underlying T=some (.int .i64))(hx:er L x=some (.int k' n))(hr:InR n) :
  Runs P κ N ⟨d,.convert S T x,ty,ps,af,gd⟩ L J (e7 n):=by
 have h:=Runs.convw (P:=P) (κ:=κ) (N:=N) (J:=J) (d:=d) (ty:=ty) (ps:=ps) (af:=af) (gd:=gd) hs ht hx
 rwa [hr.wrap] at h
theorem Runs.convU{x:Operand}{S T:TypeId}{k' q:IntKind}{n:Int}(hs:P.underlying S=some (.int q))(ht:P.underlying T=some (.int .u64))(hx:er L x=some (.int k' n))(hr:0<=n/\n<=18446744073709551615) :
  Runs P κ N ⟨d,.convert S T x,ty,ps,af,gd⟩ L J (.int .u64 n):=by
 have h:=Runs.convw (P:=P) (κ:=κ) (N:=N) (J:=J) (d:=d) (ty:=ty) (ps:=ps) (af:=af) (gd:=gd) hs ht hx
 rwa [Go.IntWalk.u64_in _ hr] at h
theorem Runs.shrw{x y:Operand}{T U:TypeId}{k k':IntKind}{m n:Int}(hx:er L x=some (.int k m))(hy:er L y=some (.int k' n))(h0:0<=n) :
  Runs P κ N ⟨d,.binOp .shr T x y U,ty,ps,af,gd⟩ L J (.int k (m.fdiv (2 ^ Min.min n.toNat k.bits))):=λa w ha _=>by
 have h:¬n<0:=by omega
 simp only [execOp,ha.eval hx,ha.eval hy]
 simp [go_sem,Op.shift,h]
theorem Runs.shlw{x y:Operand}{T U:TypeId}{k k':IntKind}{m n:Int}(hx:er L x=some (.int k m))(hy:er L y=some (.int k' n))(h0:0<=n) :
  Runs P κ N ⟨d,.binOp .shl T x y U,ty,ps,af,gd⟩ L J (.int k (k.wrap (m*2 ^ Min.min n.toNat k.bits))):=λa w ha _=>by
 have h:¬n<0:=by omega
 simp only [execOp,ha.eval hx,ha.eval hy]
 simp [go_sem,Op.shift,h]
theorem Runs.shr1{x y:Operand}{T U:TypeId}{k':IntKind}{m:Int}(hx:er L x=some (.int .u64 m))(hy:er L y=some (.int k' 1)) :
  Runs P κ N ⟨d,.binOp .shr T x y U,ty,ps,af,gd⟩ L J (.int .u64 (m / 2)):=by
 have h:=Runs.shrw (P:=P) (κ:=κ) (N:=N) (J:=J) (d:=d) (ty:=ty) (ps:=ps) (af:=af) (gd:=gd) (T:=T) (U:=U) hx hy (by decide)
 have e:m.fdiv (2 ^ Min.min (1:Int).toNat IntKind.u64.bits)=m / 2:=by
  rw [show (2:Int) ^ Min.min (1:Int).toNat IntKind.u64.bits=2 by decide]
  exact Int.fdiv_eq_ediv_of_nonneg _ (by decide)
 rwa [e] at h
theorem V.retc2{fn:Func}{t u s:Tmp}{T b E sz by':Nat}{z cs:List Value}{v' v'':Value}{Post:Value->List Item->Prop}(hr:fn.results = #[.cell t T,.tmp u,.tmp s])(hT:tyF P T=some (sz,true,by',z))(hv:look L t=some (.pointer (some ⟨b,0,none⟩)))(hv':look L u=some v')(hv'':look L s=some v'')(hb:e8 b cs E∈I)
  (hl:cs.length=sz) (J:List Item) (hf:Fit κ I J) (hp:Post (.tuple #[.agg cs.toArray,v',v'']) J) (h0:N.ds=[]:=by rfl):V κ N (bodyPost P fn (RetR κ Post)) .ret L I:=
 λa w ha hs=>by
  have hcell:=λj=>cell_blk (w:=w) (hs.ok _ hb).1 j
  have hload:(loadVar T ⟨b,0,none⟩).run P w = .ok (.agg cs.toArray) w:=run_loadVar_agg hT hl λj u hj=>by rw [addr_add,hcell,←hj];simp
  refine bodyPost_ret (v:= .tuple #[.agg cs.toArray,v',v'']) ?_ (ha.defers.trans h0) ⟨_,J,rfl,hp,hf w hs⟩
  simp [results,hr,ha.get t _ hv,ha.get u _ hv',ha.get s _ hv'',asAddr,hload]
end
end Go.Sl
namespace Go.Sl
open Go.RowKit (Below)
section
variable {P:Program}{κ:Ctx}{N:Frm}{Q:Exit->Act->World->Prop}{L:Env}{I J:List Item}{ops:Array Oper}{rest:List Oper}
variable {d:Option Tmp}{ty:TypeId}{ps:String}{af:Array Edge}{gd:Option (Nat×Bool)}
theorem run_firstCells_pre{w:World}{sz:Nat}{v:Value}{m q:Nat}{ds:List Value}(h:slOk w sz v m ds)(hq:q<=m):(Builtin.firstCells sz q v).run P w = .ok (ds.take (q*sz)).toArray w:=by
 obtain ⟨a,cap,rfl,h1,h2,h3,h4⟩:=h
 have hmul:q*sz<=m*sz:=Nat.mul_le_mul_right _ hq
 by_cases hc:0<cap
 ·obtain ⟨b,off,rfl,hr⟩:=h4 hc
  exact run_firstCells_some w sz q _ m cap _ (by rw [List.length_take];omega) λj u hj=>by
   rw [addr_add]
   rw [List.getElem?_take] at hj
   split at hj
   ·exact hr j u hj
   ·cases hj
 ·obtain rfl:m=0:=by omega
  obtain rfl:q=0:=by omega
  cases a with
  |none=>simp [Builtin.firstCells]
  |some a=>rw [run_firstCells_some w sz 0 a 0 cap [] (by simp) (by simp)];simp
theorem vec_put{w:World}{e:TypeId}{sz n c b off:Nat}{cs vs:List Value}{cur:Array Value}{k:Nat}(hl:cs.length=n*sz)(hnc:n<=c)(hcm:c<=maxLen)(hb:w.heap[b]? = some (.cells cur e (0,0)))
  (hsize:off+c*sz<=cur.size) (hcur:∀j u,cs[j]? = some u->cur[off+j]? = some u) (hk:k+vs.length<=cs.length) :
  vecOk (w.setRow b (cur.toList.take (off+k)++vs++cur.toList.drop (off+k+vs.length)).toArray) e sz (.slice (some ⟨b,off,none⟩) n c) n (cs.take k++vs++cs.drop (k+vs.length)):=by
 have hmul:n*sz<=c*sz:=Nat.mul_le_mul_right _ hnc
 refine ⟨_,c,rfl,by simp only [List.length_append,List.length_take,List.length_drop];omega,hnc,hcm,λhc=>⟨b,off,_,rfl,setRow_heap w b cur _ e _ hb,?_,λj u' hj=>?_⟩⟩
 ·simp only [List.size_toArray,List.length_append,List.length_take,List.length_drop,Array.length_toList];omega
 ·have hjl:j<cs.length:=by have:=(List.getElem?_eq_some_iff.1 hj).1;simp only [List.length_append,List.length_take,List.length_drop] at this;omega
  have hA:(cur.toList.take (off+k)).length=off+k:=by simp only [List.length_take,Array.length_toList];omega
  have hB:(cs.take k).length=k:=by simp only [List.length_take];omega
  simp only [List.getElem?_toArray]
  rw [List.append_assoc] at hj
  rw [List.append_assoc]
  by_cases hjk:j<k
  ·rw [List.getElem?_append_left (by omega),List.getElem?_take,if_pos hjk] at hj
   rw [List.getElem?_append_left (by omega),List.getElem?_take,if_pos (by omega)]
   simpa using hcur j u' hj
  ·rw [List.getElem?_append_right (by omega),hB] at hj
   rw [List.getElem?_append_right (by omega),hA,show off+j - (off+k)=j - k from by omega]
   by_cases hjv:j - k<vs.length
   ·rw [List.getElem?_append_left hjv] at hj
    rw [List.getElem?_append_left hjv]
    exact hj
   ·rw [List.getElem?_append_right (by omega),List.getElem?_drop,show k+vs.length+(j - k - vs.length)=j from by omega] at hj
    rw [List.getElem?_append_right (by omega),List.getElem?_drop,show off+k+vs.length+(j - k - vs.length)=off+j from by omega]
    simpa using hcur j u' hj
theorem Eff.copyR{x y:Operand}{t t' e sz by' n n' m k q c dd:Nat}{ag:Bool}{z cs ds:List Value}{ad:Option Addr}{u:Value}{I':List Item}(ht:P.underlying t=some (.slice e))(hT:tyF P e=some (sz,ag,by',z))
  (hx:er L x=some (.slice (adrop ad c k sz) n' (c - k))) (hn':n'=n - k) (hy:er L y=some u) (hu:SlRd κ I sz u m ds) (hk:k<=n) (hq:q=min m (n - k)) (h1:∀w∈ds.take (q*sz),w.oneCell'=true) (hN:Nat.blt dd N.n=true)
  (hat:At I (vec e sz (.slice ad n c) n cs) (vec e sz (.slice ad n c) n (cs.take (k*sz)++ds.take (q*sz)++cs.drop (k*sz+q*sz))) I') :
  Eff P κ N Q ⟨some dd,.call {callee:= .builtin .copy,args:= #[x,y],argTypes:= #[t,t']},ty,ps,af,gd⟩ L I λL' I''=>L'=(dd,e7 q)::L/\I''=I':=
 Eff.of_value rfl hN λa w ha hs=>by
  subst hn'
  obtain ⟨a',cap',hv,hl,hnc,hcm,hcap⟩:=(hs.ok _ hat.mem).1
  cases hv
  have hrd:=hu w hs
  have hlen:=run_lenOf_sl (P:=P) hrd
  have hml:m*sz<=ds.length:=by obtain ⟨_,_,_,h,_⟩:=hrd;omega
  have hql:q*sz<=m*sz:=Nat.mul_le_mul_right _ (by omega)
  have hfc:=run_firstCells_pre (P:=P) hrd (show q<=m by omega)
  have hmin:m.min (n - k)=q:=hq.symm
  have hdl:(ds.take (q*sz)).length=q*sz:=by rw [List.length_take];omega
  have hq1:q*sz+k*sz<=n*sz:=by rw [←Nat.add_mul];exact Nat.mul_le_mul_right _ (by omega)
  by_cases hq0:q=0
  ·subst hq0
   refine ⟨e7 0,w,I',?_,⟨rfl,rfl⟩,?_⟩
   ·cases had:adrop ad c k sz with
    |none=>simp [execOp,resolve,invoke,builtin,ha.eval hx,ha.eval hy,Builtin.copy_,run_underlying ht,hlen,run_sizeOf hT,hmin,hfc,had,goInt]
    |some aa=>simp [execOp,resolve,invoke,builtin,ha.eval hx,ha.eval hy,Builtin.copy_,run_underlying ht,hlen,run_sizeOf hT,hmin,hfc,had,goInt,storeCells]
   ·refine Fit.upd hat (λw hw=>?_) w hs
    have e:cs.take (k*sz)++ds.take (0*sz)++cs.drop (k*sz+0*sz)=cs:=by simp
    rw [e]
    exact ⟨hw,λ_ h=>h⟩
  ·obtain ⟨b,off,cur,rfl,hb,hsize,hcur⟩:=hcap (by omega)
   have hcs:=run_storeCells_at P b (off+k*sz) e (ds.take (q*sz)) 0 cur w hb (by
    have:=Nat.mul_le_mul_right sz hnc
    simp only [Nat.add_zero];omega) h1
   simp only [Nat.add_zero] at hcs
   have had:adrop (some ⟨b,off,none⟩) c k sz=some ⟨b,off+k*sz,none⟩:=by unfold adrop;rw [if_neg (by omega)];simp [addr_add]
   refine ⟨e7 q,_,I',by simp only [execOp,resolve,invoke,builtin,List.map_toArray,List.map_cons,List.map_nil,ha.eval hx,ha.eval hy];simp [Builtin.copy_,run_underlying ht,hlen,run_sizeOf hT,hmin,hfc,had,goInt];rw [hcs];simp only [Result.andThen_ok];rfl,⟨rfl,rfl⟩,?_⟩
   refine hs.upd hat rfl ⟨rfl,Nat.le_refl _⟩ rfl (by simp) (λk' _ hne=>setRow_other w b k' _ λe=>hne (by subst e;exact ⟨off,n,c,rfl,by omega⟩)) ?_ λk' hk'=> .inl ?_
   ·have:=vec_put (k:=k*sz) (vs:=ds.take (q*sz)) hl hnc hcm hb hsize hcur (by rw [hdl];omega)
    rw [hdl] at this
    rw [hdl]
    exact this
   ·exact hk'
theorem vec.room{e:TypeId}{sz n c h:Nat}{ad:Option Addr}{cs:List Value}(hh:n<=h)(hc:h<=c):∀w,(vec e sz (.slice ad n c) n cs).ok w->∃js:List Value,js.length=(h - n)*sz/\(vec e sz (.slice ad h c) h (cs++js)).ok w:=by
 intro w hw
 obtain ⟨a',cap',hv,hl,hnc,hcm,hcap⟩:=hw
 cases hv
 by_cases hc0:0<c
 ·obtain ⟨b,off,cur,rfl,hb,hsize,hcur⟩:=hcap hc0
  have hmul:h*sz<=c*sz:=Nat.mul_le_mul_right _ hc
  have hmul2:n*sz+(h - n)*sz=h*sz:=by rw [←Nat.add_mul];congr 1;omega
  refine ⟨(cur.toList.drop (off+n*sz)).take ((h - n)*sz),by simp only [List.length_take,List.length_drop,Array.length_toList];omega,_,c,rfl,by simp only [List.length_append,List.length_take,List.length_drop,Array.length_toList];omega,hc,hcm,λ_=>⟨b,off,cur,rfl,hb,hsize,λj u hj=>?_⟩⟩
  by_cases hjn:j<cs.length
  ·rw [List.getElem?_append_left hjn] at hj;exact hcur j u hj
  ·rw [List.getElem?_append_right (by omega),List.getElem?_take] at hj
   split at hj
   ·rw [List.getElem?_drop,show off+n*sz+(j - cs.length)=off+j from by omega] at hj
    simpa using hj
   ·cases hj
 ·obtain rfl:h=0:=by omega
  obtain rfl:n=0:=by omega
  exact ⟨[],by simp,_,c,rfl,by simpa using hl,by omega,hcm,λh=>absurd h hc0⟩
theorem Eff.grow{α:Type}[Enc α][Inhabited α]{xs:List α}{x y:Operand}{t u e by' i k c dd:Nat}{m:Int}{ag:Bool}{z:List Value}{ad:Option Addr}(ht:P.underlying t=some (.slice e))(hu:P.underlying u=some (.int .i64))(hT:tyF P e=some (Enc.sz α,ag,by',z))(hz:z=Enc.enc (default:α))
  (hx:er L x=some (.slice ad i c)) (hy:er L y=some (e7 m)) (hm:m=(k:Int)) (hv:Sl κ I (.slice ad xs.length c) xs) (hi:i<=xs.length) (hk:0<k) (hg:c<i+k) (hby:(i+k)*by'<=140737488355328) (hby0:0<by') (hN:Nat.blt dd N.n=true) :
  Eff P κ N Q ⟨some dd,.call {callee:= .builtin .append,args:= #[x,y],argTypes:= #[t,u]},ty,ps,af,gd⟩ L I λL' I''=>∃ad' c',L'=(dd,.slice ad' (i+k) c')::L/\I''=vc e (.slice ad' (i+k) c') (xs.take i++List.replicate k (default:α))::I:=
 Eff.of_value rfl hN λa w ha hs=>by
  subst hm
  obtain ⟨i0,zv,d0,hi0,hz0,hd0,hsz,hag,hbt,hzc⟩:=tyF_spec hT
  have hpos:=Enc.pos (α:=α)
  have h63:i+k<=maxLen:=by
   have:=Nat.le_mul_of_pos_right (i+k) hby0
   simp only [maxLen];omega
  have hrd:=(Sl.take hv hi) w.drew (hs.drew)
  have hlt:(xs.take i).length=i:=by rw [List.length_take];omega
  rw [hlt] at hrd
  have hold:=run_firstCells_pre (P:=P) hrd (Nat.le_refl i)
  have hcl:(cells (xs.take i)).length=i*Enc.sz α:=by rw [cells_length,hlt]
  rw [List.take_of_length_le (by omega)] at hold
  have hrun:=Go.Lib.run_append_grow_zeros (P:=P) w t u ty e i0 zv .i64 .i64 ht hu hi0 hz0 ad i c (cells (xs.take i)) (by rw [hsz];exact hold) k hk (by omega) hg (by simp only [maxLen] at h63;omega)
   (by rw [hbt];rw [Nat.add_mul] at hby;omega) (growslice_fits hg (by rw [hbt];exact hby))
  have hge:=grownCap_ge w (i+k) c e
  have hgm:=grownCap_le_maxLen w (i+k) c e h63
  have hzs:zv.cells.size=Enc.sz α:=by rw [hzc,hz,List.size_toArray,Enc.len]
  have hcells:(Builtin.zeroCells zv.cells k).toList=cells (List.replicate k (default:α)):=by
   rw [←rep_cells,←hz]
   apply List.ext_getElem?
   intro j
   simp only [Builtin.zeroCells,Array.toList_map,Array.toList_range,List.getElem?_map,hzs]
   by_cases hj:j<k*Enc.sz α
   ·rw [List.getElem?_range hj]
    have hjm:j % Enc.sz α<z.length:=by rw [hz,Enc.len];exact Nat.mod_lt _ hpos
    rw [flatten_rep z k j (by omega) (by rw [hz,Enc.len];exact hj),show z.length=Enc.sz α from by rw [hz,Enc.len],hzc]
    simp [hjm]
   ·rw [List.getElem?_eq_none (by simpa using hj),List.getElem?_eq_none (by rw [len_rep,hz,Enc.len];omega)]
    rfl
  refine ⟨.slice (some ⟨w.heap.size,0,none⟩) (i+k) (grownCap w (i+k) c e),w.drew.alloc (.cells ((cells (xs.take i)).toArray++Builtin.zeroCells zv.cells k++Builtin.zeroCells zv.cells (grownCap w (i+k) c e - (i+k))) e),_,by simp only [execOp,resolve,invoke,builtin,List.map_toArray,List.map_cons,List.map_nil,ha.eval hx,ha.eval hy];simp [hrun],⟨_,_,rfl,rfl⟩,?_⟩
  have hxl:(xs.take i++List.replicate k (default:α)).length=i+k:=by rw [List.length_append,hlt,List.length_replicate]
  refine hs.drew.new (hs.drew.alloc _) ?_ λj hj=>?_
  ·show vecOk _ e _ _ _ _
   rw [hxl]
   refine ⟨_,_,rfl,by rw [cells_length,hxl],hge,hgm,λ_=>⟨w.heap.size,0,_,rfl,heap_alloc_new w.drew _,?_,λj u hj=>?_⟩⟩
   ·simp only [Array.size_append,List.size_toArray,size_zeroCells,hzs,hcl,←Nat.add_mul,Nat.zero_add]
    rw [Nat.add_sub_cancel' hge]
    exact Nat.le_refl _
   ·rw [Nat.zero_add,Array.getElem?_append_left (by
     have:=(List.getElem?_eq_some_iff.1 hj).1
     rw [cells_length,hxl] at this
     simp only [Array.size_append,List.size_toArray,size_zeroCells,hzs,hcl,←Nat.add_mul];exact this)]
    rw [cells_append,←hcells] at hj
    have e1:(cells (xs.take i)).toArray++Builtin.zeroCells zv.cells k=(cells (xs.take i)++(Builtin.zeroCells zv.cells k).toList).toArray:=by
     apply Array.ext';simp
    rw [e1,List.getElem?_toArray];exact hj
  ·obtain ⟨o,n',c',he,hc'⟩:=hj
   cases he
   exact ⟨Nat.le_refl _,by simp⟩
theorem Eff.overlaps{f t tb e sz by' n m k k' c c' dd:Nat}{ag:Bool}{z cs ds:List Value}{x y:Operand}{tys:Array TypeId}{ad ad':Option Addr}{e' sz':Nat}{K:List Item}
  (hov:∀args w,(callFunc f args).run P w=((Extern.SlicesOverlaps.overlaps #[t,t] #[tb] args).run P w).andThen λv w'=> .ok (.value v) w') (ht:P.underlying t=some (.slice e)) (hT:tyF P e=some (sz,ag,by',z))
  (hx:er L x=some (.slice ad m c)) (hy:er L y=some (.slice (adrop ad' c' k sz) k' (c' - k))) (hkc:k<=c') (h0:0<m) (h0':0<n) (hfit:Fit κ I (vec e sz (.slice ad m c) m cs::vec e' sz' (.slice ad' n c') n ds::K)) (hss:0<c'*sz') (hN:Nat.blt dd N.n=true) :
  Eff P κ N Q ⟨some dd,.call {callee:= .value (.func f),args:= #[x,y],argTypes:=tys},ty,ps,af,gd⟩ L I λL' I''=>L'=(dd,.bool false)::L/\I''=I:=
 Eff.of_value rfl hN λa w ha hs=>by
  have hs2:=hfit w hs
  obtain ⟨_,_,hv,_,hmc,_,hcap⟩:=(hs2.ok _ List.mem_cons_self).1
  cases hv
  obtain ⟨_,_,hv',_,hnc',_,hcap'⟩:=(hs2.ok _ (List.mem_cons_of_mem _ List.mem_cons_self)).1
  cases hv'
  obtain ⟨b,off,cur,rfl,hb,hsize,_⟩:=hcap (by omega)
  obtain ⟨b',off',cur',rfl,hb',hsize',_⟩:=hcap' (by omega)
  have hap:Item.apart _ _:=(List.pairwise_cons.1 hs2.pw).1 _ List.mem_cons_self
  have hne:b≠b':=λe=>by
   subst e
   exact hap b ⟨off,m,c,rfl,by omega⟩ ⟨off',n,c',rfl,by omega⟩
  have had:∃o,adrop (some ⟨b',off',none⟩) c' k sz=some ⟨b',o,none⟩:=by
   unfold adrop;split
   ·exact ⟨_,rfl⟩
   ·exact ⟨_,by simp [addr_add];rfl⟩
  obtain ⟨o,ho⟩:=had
  rw [ho] at hy
  have hrun:=Go.Lib.run_overlaps_apart w t tb e ht sz (λw=>run_sizeOf hT w) ⟨b,off,none⟩ ⟨b',o,none⟩ m c k' (c' - k) hne e e' cur.size cur'.size (by simp [World.shape?,hb]) (by simp [World.shape?,hb']) (by omega) (by simp [World.frozen?,hb]) (by simp [World.frozen?,hb])
  refine ⟨.bool false,w,I,?_,⟨rfl,rfl⟩,hs⟩
  have e1:a.eval (.func f) = .func (.func f) #[] #[]:=rfl
  simp only [execOp,resolve,e1,Deferred.ofValue,invoke,Sem.run_bind,Sem.run_pure,Result.andThen_ok,List.map_toArray,List.map_cons,List.map_nil,ha.eval hx,ha.eval hy]
  simp only [Array.empty_append,Array.append_empty,hov,hrun,Result.andThen_ok]
theorem Runs.eqnil{x y:Operand}{T E U n c:Nat}{ad:Option Addr}(ht:P.underlying T=some (.slice E))(hx:er L x=some (.slice ad n c))(hy:er L y=some (.slice none 0 0)) :
  Runs P κ N ⟨d,.binOp .eql T x y U,ty,ps,af,gd⟩ L J (.bool ad.isNone):=λa w ha _=>by
 have hg:(eqGuard .eql T x y (.slice ad n c) (.slice none 0 0)).run P w = .ok () w:=by simp [eqGuard]
 have h:=Go.Lib.run_eql_slice_nil (P:=P) w T E ad n c 0 0 ht
 simp only [execOp,ha.eval hx,ha.eval hy]
 simp [hg,h]
theorem Eff.bs0{α:Type}[Enc α]{t e by' dd:Nat}{ag:Bool}{z:List Value}(ht:P.underlying t=some (.slice e))(hT:tyF P e=some (Enc.sz α,ag,by',z))(hN:Nat.blt dd N.n=true) :
  Eff P κ N Q ⟨some dd,.buildSlice t 0 #[],ty,ps,af,gd⟩ L I λL' I''=>∃ad,L'=(dd,.slice ad 0 0)::L/\I''=vc e (.slice ad 0 0) ([]:List α)::I:=
 Eff.of_value rfl hN λa w ha hs=>by
  refine ⟨.slice (some ⟨w.heap.size,0,none⟩) 0 0,w.alloc (.cells #[] e),_,by simp [execOp,Instr.buildSlice,run_underlying ht,run_sizeOf hT,Instr.fill,newRow,Array.range_zero'],⟨_,rfl,rfl⟩,?_⟩
  exact hs.new (hs.alloc _) ⟨_,0,rfl,by simp [cells],Nat.le_refl _,by simp,λh=>absurd h (by decide)⟩ λk hk=>by
   obtain ⟨o,n',c',he,hc'⟩:=hk
   cases he
   omega
theorem Sl.isNone{α:Type}[Enc α]{xs:List α}{ad:Option Addr}{c:Nat}(h:Sl κ I (.slice ad xs.length c) xs):∀w,Sep κ w I->ad.isNone=true->xs=[]/\c=0:=λw hs hn=>by
 obtain ⟨a,cap,he,h1,h2,h3,h4⟩:=h w hs
 cases he
 by_cases hc:0<c
 ·obtain ⟨b,off,rfl,_⟩:=h4 hc;cases hn
 ·exact ⟨List.eq_nil_of_length_eq_zero (by omega),by omega⟩
end
end Go.Sl
namespace Go.Sl
section
variable {β:Type}{xs ys js:List β}{i m n r:Nat}{d:β}
theorem take_app{a b:List β}{k:Nat}(h:a.length=k):(a++b).take k=a:=by subst h;simp
theorem drop_app{a b:List β}{k:Nat}(h:a.length=k):(a++b).drop k=b:=by subst h;simp
theorem ins1(hi:i<=xs.length):(xs.take i++List.replicate (xs.length+ys.length - i) d).take i++ys.take ys.length++(xs.take i++List.replicate (xs.length+ys.length - i) d).drop (i+ys.length)=xs.take i++ys++List.replicate (xs.length - i) d:=by
 have hl:(xs.take i).length=i:=by rw [List.length_take];omega
 rw [take_app hl,List.take_length,←List.drop_drop,drop_app hl,List.drop_replicate,show xs.length+ys.length - i - ys.length=xs.length - i by omega]
theorem ins2(hi:i<=xs.length):(xs.take i++ys++List.replicate (xs.length - i) d).take (i+ys.length)++(xs.drop i).take (xs.length - i)++(xs.take i++ys++List.replicate (xs.length - i) d).drop (i+ys.length+(xs.length - i))=xs.take i++ys++xs.drop i:=by
 have hl:(xs.take i++ys).length=i+ys.length:=by rw [List.length_append,List.length_take];omega
 have e1:(xs.drop i).take (xs.length - i)=xs.drop i:=List.take_of_length_le (by rw [List.length_drop];omega)
 have e2:(xs.take i++ys++List.replicate (xs.length - i) d).drop (i+ys.length+(xs.length - i))=[]:=List.drop_eq_nil_of_le (by simp only [List.length_append,List.length_take,List.length_replicate];omega)
 rw [take_app hl,e1,e2,List.append_nil]
theorem ins3{cs:List β}(hn:cs.length=n)(hj:js.length=m)(hy:ys.length=m)(hi:i<=n) :
  let A:=(cs++js).take (i+m)++((cs++js).drop i).take (n - i)++(cs++js).drop (i+m+(n - i))
  A.take i++ys.take m++A.drop (i+m)=cs.take i++ys++cs.drop i:=by
 intro A
 have hA1:((cs++js).take (i+m)).length=i+m:=by rw [List.length_take,List.length_append];omega
 have hd:((cs++js).drop i).take (n - i)=cs.drop i:=by
  rw [List.drop_append,show i - cs.length=0 by omega,List.drop_zero]
  exact take_app (by rw [List.length_drop];omega)
 have hz:(cs++js).drop (i+m+(n - i))=[]:=List.drop_eq_nil_of_le (by rw [List.length_append];omega)
 have e:A=(cs++js).take (i+m)++cs.drop i:=by show _++_++_=_;rw [hd,hz,List.append_nil]
 have e1:ys.take m=ys:=List.take_of_length_le (by omega)
 have e2:A.take i=cs.take i:=by
  rw [e,List.take_append_of_le_length (by rw [hA1];omega),List.take_take,Nat.min_eq_left (by omega),List.take_append_of_le_length (by omega)]
 rw [e1,e2,e,drop_app hA1]
end
section
variable {P:Program}{κ:Ctx}{N:Frm}{Q:Exit->Act->World->Prop}{L:Env}{I J:List Item}{ops:Array Oper}{rest:List Oper}
variable {d:Option Tmp}{ty:TypeId}{ps:String}{af:Array Edge}{gd:Option (Nat×Bool)}
variable {α:Type}[Enc α]{xs ys R:List α}
theorem Eff.copyT{x y:Operand}{t t' e by' n n' k q c dd:Nat}{ag:Bool}{z:List Value}{ad:Option Addr}{u:Value}{I':List Item}(ht:P.underlying t=some (.slice e))(hT:tyF P e=some (Enc.sz α,ag,by',z))
  (hx:er L x=some (.slice (adrop ad c k (Enc.sz α)) n' (c - k))) (hn':n'=xs.length - k) (hy:er L y=some u) (hu:Sl κ I u ys) (hk:k<=xs.length) (hq:q=min ys.length (xs.length - k)) (hN:Nat.blt dd N.n=true)
  (hR:xs.take k++ys.take q++xs.drop (k+q)=R) (hn:n=xs.length) (hat:At I (vc e (.slice ad n c) xs) (vc e (.slice ad n c) R) I') :
  Eff P κ N Q ⟨some dd,.call {callee:= .builtin .copy,args:= #[x,y],argTypes:= #[t,t']},ty,ps,af,gd⟩ L I λL' I''=>L'=(dd,e7 q)::L/\I''=I':=by
 subst hn
 have hl:R.length=xs.length:=by rw [←hR];simp only [List.length_append,List.length_take,List.length_drop];omega
 have hc:cells R=(cells xs).take (k*Enc.sz α)++(cells ys).take (q*Enc.sz α)++(cells xs).drop (k*Enc.sz α+q*Enc.sz α):=by
  rw [←hR,cells_append,cells_append,cells_take,cells_take,cells_drop,Nat.add_mul]
 refine Eff.copyR (cs:=cells xs) ht hT hx hn' hy hu hk hq (λu hu=>cells_one ys u (List.mem_of_mem_take hu)) hN ?_
 have:=hat
 unfold vc at this
 rw [hl,hc] at this
 exact this
theorem ins_cells{i:Nat}{js:List Value}(hi:i<=xs.length)(hj:js.length=(xs.length+ys.length - xs.length)*Enc.sz α) :
  List.take (i*Enc.sz α) (List.take ((i+ys.length)*Enc.sz α) (cells xs++js)++List.take ((xs.length - i)*Enc.sz α) (List.drop (i*Enc.sz α) (cells xs++js))++List.drop ((i+ys.length)*Enc.sz α+(xs.length - i)*Enc.sz α) (cells xs++js))++List.take (ys.length*Enc.sz α) (cells ys)++List.drop (i*Enc.sz α+ys.length*Enc.sz α) (List.take ((i+ys.length)*Enc.sz α) (cells xs++js)++List.take ((xs.length - i)*Enc.sz α) (List.drop (i*Enc.sz α) (cells xs++js))++List.drop ((i+ys.length)*Enc.sz α+(xs.length - i)*Enc.sz α) (cells xs++js))=cells (List.take i xs++ys++List.drop i xs):=by
 rw [cells_append,cells_append,cells_take,cells_drop,Nat.add_mul,Nat.sub_mul]
 exact ins3 (cells_length xs) (by rw [hj];congr 1;omega) (cells_length ys) (Nat.mul_le_mul_right _ hi)
theorem ins_one{i:Nat}{js:List Value}(hi:i<=xs.length):∀u∈List.take ((xs.length - i)*Enc.sz α) (List.drop (i*Enc.sz α) (cells xs++js)),u.oneCell'=true:=λu hu=>by
 have hm:i*Enc.sz α<=xs.length*Enc.sz α:=Nat.mul_le_mul_right _ hi
 have hl:=cells_length xs
 rw [List.drop_append,show i*Enc.sz α - (cells xs).length=0 by omega,List.drop_zero,take_app (by rw [List.length_drop,hl,Nat.sub_mul])] at hu
 exact cells_one xs u (List.mem_of_mem_drop hu)
theorem Runs.loraw{x y:Operand}{T E sz by' n c l:Nat}{ag:Bool}{z:List Value}{ad:Option Addr}{m:Int}(ht:P.underlying T=some (.slice E))(hE:tyF P E=some (sz,ag,by',z))(hx:er L x=some (.slice ad n c))(hy:er L y=some (e7 m))(hm:m=(l:Int))
  (hl:l<=n) (hn:n<=c):Runs P κ N ⟨d,.slice T x (some y) none none,ty,ps,af,gd⟩ L J (.slice (adrop ad c l sz) (n - l) (c - l)):=λa w ha hs=>by
 subst hm
 exact Runs.slice (P:=P) (κ:=κ) (N:=N) (L:=L) (J:=J) (d:=d) (ty:=ty) (ps:=ps) (af:=af) (gd:=gd) (l:=l) ht hE hx (.inr ⟨y,rfl,hy⟩) (.inl ⟨rfl,rfl⟩) hl hn a w ha hs
theorem SlRd.dropR{sz n c l:Nat}{ad:Option Addr}{cs:List Value}(hv:SlRd κ I sz (.slice ad n c) n cs)(hl:l<=n):SlRd κ I sz (.slice (adrop ad c l sz) (n - l) (c - l)) (n - l) (cs.drop (l*sz)):=λw hs=>by
 obtain ⟨a,cap,he,h1,h2,h3,h4⟩:=hv w hs
 cases he
 refine ⟨_,c - l,rfl,by rw [List.length_drop,h1,Nat.sub_mul],by omega,by omega,λhc=>?_⟩
 obtain ⟨b,off,rfl,hr⟩:=h4 (by omega)
 refine ⟨b,off+l*sz,by unfold adrop;rw [if_neg (by omega)];simp [addr_add],λj u hj=>?_⟩
 rw [List.getElem?_drop] at hj
 rw [Nat.add_assoc]
 exact hr _ u hj
theorem G.ex{β:Type}{x:Item}{x':β->Item}{p:β->Prop}{F:Item->List Item}(hat:AtF I x F)(h:∀w,x.ok w->∃y,p y/\(x' y).ok w)(hf:∀y k,(x' y).fp k->x.fp k)(hG:∀y,p y->G P κ N ops Q rest L (F (x' y))):G P κ N ops Q rest L I:=λa w ha hs=>by
 obtain ⟨J,h1,h2⟩:=hat.perm
 have hJ:=hs.perm h1
 obtain ⟨y,hp,hy⟩:=h w (hJ.ok x List.mem_cons_self).1
 refine hG y hp a w ha (Sep.perm ?_ (h2 _).symm)
 have ha':∀z∈J,∀k,x.fp k->¬z.fp k:=(List.pairwise_cons.1 hJ.pw).1
 exact hJ.tail.cons hy (λk hk=>(hJ.ok x List.mem_cons_self).2 k (hf y k hk)) λz hz k hk=>ha' z hz k (hf y k hk)
theorem G.room{e n c h:Nat}{ad:Option Addr}{F:Item->List Item}(hat:AtF I (vc e (.slice ad n c) xs) F)(hn:n=xs.length)(hh:n<=h)(hc:h<=c)
  (hG:∀js:List Value,js.length=(h - n)*Enc.sz α->G P κ N ops Q rest L (F (vec e (Enc.sz α) (.slice ad h c) h (cells xs++js)))):G P κ N ops Q rest L I:=by
 subst hn
 exact G.ex hat (x':=λjs=>vec e (Enc.sz α) (.slice ad h c) h (cells xs++js)) (vec.room hh hc) (λjs k hk=>by obtain ⟨o,n',c',he,hc'⟩:=hk;cases he;exact ⟨o,_,_,rfl,hc'⟩) hG
end
end Go.Sl
namespace Go.Sl
open Go.RowKit (Below)
def mp(r:Nat)(es:List MapEntry)(cl:Nat):Item where
 fp k:=k=r
 ok w:=w.heap[r]? = some (.map es.toArray cl)
 loc w w' h hw:=(h r rfl).trans hw
section
variable {P:Program}{κ:Ctx}{N:Frm}{Q:Exit->Act->World->Prop}{L:Env}{I J:List Item}{ops:Array Oper}{rest:List Oper}
variable {d:Option Tmp}{ty:TypeId}{ps:String}{af:Array Edge}{gd:Option (Nat×Bool)}
theorem Eff.makeMap{T dd:Nat}(hN:Nat.blt dd N.n=true) :
  Eff P κ N Q ⟨some dd,.makeMap T none,ty,ps,af,gd⟩ L I λL' I'=>∃r,L'=(dd,.map (some r))::L/\I'=mp r [] 0::I:=
 Eff.of_value rfl hN λa w ha hs=>
  ⟨_,_,_,by simp [execOp,Instr.makeMap,Result.andThen],⟨_,rfl,rfl⟩,hs.new (hs.alloc (.map #[] 0)) (heap_alloc_new w _) λk hk=>by obtain rfl:k=_:=hk;exact ⟨Nat.le_refl _,by simp⟩⟩
theorem Eff.insertK{x y z:Operand}{T kt et r cl:Nat}{es:List MapEntry}{kd:IntKind}{k v:Value}{I':List Item}(ht:P.underlying T=some (.map kt et))(hkt:P.underlying kt=some (.int kd))(hx:er L x=some (.map (some r)))
  (hy:er L y=some k) (hz:er L z=some v) (hk:MapKept.IsKey (.int kd) k) (hf:Instr.findNow (.int kd) k es 0=some none) (hat:At I (mp r es cl) (mp r (es++[{key:=k,val:=v,born:=cl}]) (cl+1)) I') :
  Eff P κ N Q ⟨none,.insert T x y z,ty,ps,af,gd⟩ L I λL' I''=>L'=L/\I''=I':=
 Eff.of_skip rfl λa w ha hs=>by
  have hb:=(hs.ok _ hat.mem).1
  refine ⟨{w with heap:=w.heap.setIfInBounds r (.map (es++[({key:=k,val:=v,born:=cl}:MapEntry)]).toArray (cl+1))},I',?_,⟨rfl,rfl⟩,?_⟩
  ·simp [execOp,ha.eval hx,ha.eval hy,ha.eval hz,Instr.mapUpdate,run_underlying ht,MapKept.run_getObj_map hb,MapKept.run_checkKey hkt hk,MapKept.run_findKey hkt hf,MapKept.run_setObj_map _ hb,Result.andThen]
  ·exact hs.upd hat rfl ⟨rfl,Nat.le_refl _⟩ rfl (by simp) (λk _ hne=>(MapKept.heap_set hb).2 k λe=>hne e) (MapKept.heap_set hb).1 λk hk=> .inl hk
theorem Runs.lookupK{x y:Operand}{T kt et r cl i:Nat}{es:List MapEntry}{kd:IntKind}{k v:Value}(ht:P.underlying T=some (.map kt et))(hkt:P.underlying kt=some (.int kd))(hx:er L x=some (.map (some r)))
  (hy:er L y=some k) (hk:MapKept.IsKey (.int kd) k) (hm:mp r es cl∈J) (hf:Instr.findNow (.int kd) k es 0=some (some (i,v))):Runs P κ N ⟨d,.lookup T x y false,ty,ps,af,gd⟩ L J v:=
 λa w ha hs=>by
  have hb:=(hs.ok _ hm).1
  simp [execOp,ha.eval hx,ha.eval hy,Instr.lookup,run_underlying ht,MapKept.run_getObj_map hb,MapKept.run_checkKey hkt hk,MapKept.run_findKey hkt hf,Result.andThen]
end
end Go.Sl
namespace Go.Sl
variable {α:Type}[Inhabited α]
def insG(l:List α)(j:Nat)(x:α):List α:=l.take j++x::l.drop j
def placeG(cf:α->α->Int)(l:List α)(x:α):Nat->Nat
 |0=>0
 |j+1=>if cf x (e_ l j)<0 then placeG cf l x j else j+1
def insertG(cf:α->α->Int)(l:List α)(x:α):List α:=insG l (placeG cf l x l.length) x
def isortG(cf:α->α->Int)(xs:List α):List α:=xs.foldl (insertG cf) []
theorem insAt_permG(l:List α)(j:Nat)(x:α):(insG l j x).Perm (x::l):=by
 have:=List.perm_middle (a:=x) (l₁:=l.take j) (l₂:=l.drop j)
 rw [List.take_append_drop] at this;exact this
theorem foldI_permG(cf:α->α->Int):∀(xs acc:List α),(xs.foldl (insertG cf) acc).Perm (xs++acc)
 |[],acc=> .refl _
 |x::xs,acc=>by
  rw [List.foldl_cons]
  refine (foldI_permG cf xs _).trans ?_
  refine (List.Perm.append_left xs (insAt_permG acc _ x)).trans ?_
  exact List.perm_middle
theorem isort_permG(cf:α->α->Int)(xs:List α):(isortG cf xs).Perm xs:=by
 have:=foldI_permG cf xs []
 rwa [List.append_nil] at this
theorem isort_takeG(cf:α->α->Int){xs:List α}{i:Nat}(h:i<xs.length):isortG cf (xs.take (i+1))=insertG cf (isortG cf (xs.take i)) (e_ xs i):=by
 unfold isortG;rw [take_at xs i h,List.foldl_append];rfl
theorem isort_tlenG(cf:α->α->Int){xs:List α}{i:Nat}(h:i<=xs.length):(isortG cf (xs.take i)).length=i:=by
 rw [(isort_permG cf _).length_eq,List.length_take];omega
theorem at_midG{l r:List α}{j:Nat}{x:α}(h:j<=l.length):e_ (insG l j x++r) j=x:=by
 unfold insG
 have hl:(l.take j).length=j:=by rw [List.length_take];omega
 rw [at_nat,List.getD_eq_getElem?_getD,List.append_assoc,List.getElem?_append_right (by omega),hl,Nat.sub_self];rfl
theorem at_prevG{l r:List α}{j:Nat}{x:α}(h0:0<j)(h:j<=l.length):e_ (insG l j x++r) ((j:Int) - 1)=e_ l ((j:Int) - 1):=by
 unfold insG
 have hl:(l.take j).length=j:=by rw [List.length_take];omega
 have e:(j:Int) - 1=((j - 1:Nat):Int):=by omega
 rw [e,at_nat,at_nat,List.getD_eq_getElem?_getD,List.getD_eq_getElem?_getD,List.append_assoc,List.getElem?_append_left (by omega),List.getElem?_take,if_pos (by omega)]
theorem ins_swapG{l r:List α}{j:Nat}{x:α}(h0:0<j)(h:j<=l.length):((insG l j x++r).set j (e_ l ((j:Int) - 1))).set (j - 1) x=insG l (j - 1) x++r:=by
 obtain ⟨m,rfl⟩:∃m,j=m+1:=⟨j - 1,by omega⟩
 have e:((m+1:Nat):Int) - 1=(m:Int):=by omega
 rw [e,Nat.add_sub_cancel]
 have hm:(l.take m).length=m:=by rw [List.length_take];omega
 have e1:insG l (m+1) x++r=l.take m++(e_ l m::x::(l.drop (m+1)++r)):=by
  unfold insG;rw [take_at l m (by omega)];simp
 have e2:insG l m x++r=l.take m++(x::e_ l m::(l.drop (m+1)++r)):=by
  unfold insG;rw [drop_at l m (by omega)];simp
 rw [e1,e2,List.set_append_right _ _ (by omega),hm,Nat.add_sub_cancel_left,List.set_append_right _ _ (by omega),hm,Nat.sub_self];rfl
theorem ins_startG{cf:α->α->Int}{xs:List α}{i:Nat}(h:i<xs.length):isortG cf (xs.take i)++xs.drop i=insG (isortG cf (xs.take i)) i (e_ xs i)++xs.drop (i+1):=by
 have hl:=isort_tlenG cf (Nat.le_of_lt h)
 generalize isortG cf (xs.take i)=l at hl ⊢
 unfold insG
 rw [drop_at xs i h,List.take_of_length_le (show l.length<=i by omega),List.drop_eq_nil_of_le (show l.length<=i by omega)];simp
theorem ins_endsG{cf:α->α->Int}{xs:List α}{i j:Nat}(h:i<xs.length)(hp:placeG cf (isortG cf (xs.take i)) (e_ xs i) j=placeG cf (isortG cf (xs.take i)) (e_ xs i) i)(hj:j=0\/(0<j/\¬cf (e_ xs i) (e_ (isortG cf (xs.take i)) ((j:Int) - 1))<0)):insG (isortG cf (xs.take i)) j (e_ xs i)++xs.drop (i+1)=isortG cf (xs.take (i+1))++xs.drop (i+1):=by
 have hl:=isort_tlenG cf (Nat.le_of_lt h)
 have hpj:placeG cf (isortG cf (xs.take i)) (e_ xs i) j=j:=by
  rcases hj with rfl|⟨h0,hn⟩
  ·rfl
  ·obtain ⟨m,rfl⟩:∃m,j=m+1:=⟨j - 1,by omega⟩
   rw [show ((m+1:Nat):Int) - 1=(m:Int) by omega] at hn
   unfold placeG;rw [if_neg hn]
 rw [isort_takeG cf h]
 unfold insertG
 rw [hl,←hp,hpj]
theorem place_stepG{cf:α->α->Int}{l:List α}{x:α}{j:Nat}(h0:0<j)(h:cf x (e_ l ((j:Int) - 1))<0):placeG cf l x (j - 1)=placeG cf l x j:=by
 obtain ⟨m,rfl⟩:∃m,j=m+1:=⟨j - 1,by omega⟩
 rw [show ((m+1:Nat):Int) - 1=(m:Int) by omega] at h
 conv=>rhs;unfold placeG
 rw [if_pos h];rfl
end Go.Sl
namespace Go.Sl
open Go.Proofs Go.Shelf Go.RowKit Go.Lib Go.Sort
def sortZ(xs:List Int):List Int:=xs.mergeSort λx y=>decide (x<=y)
theorem sortZ_perm(xs:List Int):(sortZ xs).Perm xs:=List.mergeSort_perm _ _
theorem sortZ_len(xs:List Int):(sortZ xs).length=xs.length:=(sortZ_perm xs).length_eq
theorem mem_sortZ{xs:List Int}{x:Int}:x∈sortZ xs↔x∈xs:=(sortZ_perm xs).mem_iff
theorem sortZ_asc(xs:List Int):(sortZ xs).Pairwise (· <= ·):=by
 have h:=List.pairwise_mergeSort (le:=λx y:Int=>decide (x<=y)) (λa b c h1 h2=>by simp at *; omega) (λa b=>by simp;omega) xs
 exact h.imp λh=>by simpa using h
theorem sortI_base{P:Program}{ρ:Ren}{κ:Ctx}{I:List Item}(L:SlLaysM.n5 P ρ){e:TypeId}{ad:Option Addr}{c:Nat}{xs:List Int}(hc:0<c)(hsz:xs.length<4611686018427387904):eu P κ (ρ.f 5) [.slice ad xs.length c] (vc e (.slice ad xs.length c) xs::I) λr J=>r = .tuple #[]/\J=vc e (.slice ad (sortZ xs).length c) (sortZ xs)::I:=by
 intro w hs
 obtain ⟨hok,_⟩:=hs.ok _ List.mem_cons_self
 obtain ⟨a',cap',hv,hl,hnc,hcm,hcap⟩:=hok
 cases hv
 obtain ⟨b,off,cur,rfl,hb,hsize,hcur⟩:=hcap hc
 have hbw:b<w.heap.size:=(Array.getElem?_eq_some_iff.1 hb).1
 have hlen:=sortZ_len xs
 have hcx:∀ys:List Int,cells ys=ys.map λx=>e7 x:=λys=>by
  induction ys with
  |nil=>rfl
  |cons y ys ih=>show e7 y::cells ys=_;rw [ih];rfl
 have hcl:∀ys:List Int,(cells ys).length=ys.length:=λys=>by rw [hcx,List.length_map]
 have hH:Holds (Value.int .i64) w b off xs.toArray:=λj hj=>by
  have hj':j<xs.length:=by simpa using hj
  have h1:=hcur j (e7 xs[j]) (by rw [hcx,List.getElem?_map,List.getElem?_eq_getElem hj'];rfl)
  refine ⟨?_,by simp [World.frozen?,hb]⟩
  rw [cell_of_row w b (off+j) cur e (0,0) hb,h1]
  simp [getElem!_pos,hj']
 have h:=AnyM.slices_Sort_int L b off c xs w hH hbw hsz
 refine Calls.mono h ?_
 rintro e' w' ⟨rfl,n,os,rfl⟩
 refine ⟨_,_,rfl,⟨rfl,rfl⟩,?_⟩
 have hz:(xs.mergeSort λx y=>decide (x<=y))=sortZ xs:=rfl
 rw [hz]
 refine hs.upd (At.head _ _ _) rfl ⟨rfl,by simp [putRow,mapBlock,Sort.grow,Sort.ahead]⟩ rfl (by simp [putRow,mapBlock,Sort.grow,Sort.ahead]) (λk hk hne=>?_) ?_ λk hk=> .inl ?_
 ·have hkb:k≠b:=λekb=>hne (by subst ekb;exact ⟨off,xs.length,c,rfl,hc⟩)
  simp only [Sort.grow,putRow,mapBlock,Sort.ahead]
  rw [Array.getElem?_append_left (by simpa using hk),Array.getElem?_modify,if_neg (λe=>hkb e.symm)]
 ·refine ⟨_,c,rfl,(hcl _).trans (Nat.mul_one _).symm,by rw [hlen];exact hnc,hcm,λ_=>⟨b,off,putCells (Value.int .i64) off (sortZ xs).toArray cur,rfl,?_,?_,λj u hj=>?_⟩⟩
  ·simp only [Sort.grow,putRow,mapBlock,Sort.ahead]
   rw [Array.getElem?_append_left (by simpa using hbw),Array.getElem?_modify,if_pos rfl]
   show (w.heap[b]?).map _=_
   rw [hb];rfl
  ·simpa [putCells] using hsize
  ·have hj':j<(sortZ xs).length:=by rw [←hcl];exact (List.getElem?_eq_some_iff.1 hj).1
   have hoff:off+j<cur.size:=by
    have:=hsize;rw [hlen] at hj'
    have:c*Enc.sz Int=c:=Nat.mul_one c
    omega
   simp only [putCells,Array.getElem?_mapIdx,Array.getElem?_eq_getElem hoff,Option.map_some]
   rw [if_pos ⟨by omega,by simpa using hj'⟩,Nat.add_sub_cancel_left]
   rw [hcx,List.getElem?_map,List.getElem?_eq_getElem hj'] at hj
   simpa [getElem!_pos,hj'] using hj
 ·obtain ⟨o',n',c',hv',hc'⟩:=hk
  cases hv'
  exact ⟨off,xs.length,c,rfl,hc⟩
theorem sortI_any{P:Program}{ρ:Ren}{κ:Ctx}{I:List Item}(L:SlLaysM.n5 P ρ){e:TypeId}{ad:Option Addr}{c:Nat}{xs:List Int}(hsz:xs.length<4611686018427387904):eu P κ (ρ.f 5) [.slice ad xs.length c] (vc e (.slice ad xs.length c) xs::I) λr J=>r = .tuple #[]/\J=vc e (.slice ad (sortZ xs).length c) (sortZ xs)::I:=by
 by_cases hc:0<c
 ·exact sortI_base L hc hsz
 ·intro w hs
  obtain ⟨hok,_⟩:=hs.ok _ List.mem_cons_self
  obtain ⟨a',cap',hv,hl,hnc,hcm,hcap⟩:=hok
  cases hv
  obtain rfl:xs=[]:=List.eq_nil_of_length_eq_zero (by omega)
  refine Calls.mono (AnyM.slices_Sort_int_none L ad c w) ?_
  rintro e' w' ⟨rfl,rfl⟩
  have hz:sortZ []=[]:=List.eq_nil_of_length_eq_zero (sortZ_len [])
  refine ⟨_,_,rfl,⟨rfl,rfl⟩,?_⟩
  rw [hz];exact hs
end Go.Sl
namespace Go.Sl
abbrev U64(b:BitVec 64):Value:= .int .u64 (b.toNat:Int)
theorem u64_wrap(n:Int):IntKind.u64.wrap n=n % 18446744073709551616:=IntKind.wrap_u64 n
theorem ofInt_toNat64(a:BitVec 64):BitVec.ofInt IntKind.u64.bits (a.toNat:Int)=a:=by
 show BitVec.ofInt 64 (a.toNat:Int)=a
 rw [BitVec.ofInt_natCast,BitVec.ofNat_toNat];simp
theorem wrap_toNat64(a:BitVec 64):IntKind.u64.wrap (a.toNat:Int)=(a.toNat:Int):=by
 rw [u64_wrap];have:=a.isLt;omega
theorem bits_andB(a b:BitVec 64):bits .and .u64 (a.toNat:Int) (b.toNat:Int)=((a &&& b).toNat:Int):=by
 unfold bits;simp only [ofInt_toNat64];exact wrap_toNat64 (a &&& b)
theorem bits_orB(a b:BitVec 64):bits .or .u64 (a.toNat:Int) (b.toNat:Int)=((a ||| b).toNat:Int):=by
 unfold bits;simp only [ofInt_toNat64];exact wrap_toNat64 (a ||| b)
theorem bits_andNotB(a b:BitVec 64):bits .andNot .u64 (a.toNat:Int) (b.toNat:Int)=((a &&& ~~~b).toNat:Int):=by
 unfold bits;simp only [ofInt_toNat64];exact wrap_toNat64 (a &&& ~~~b)
theorem toNat_inj64{a b:BitVec 64}:((a.toNat:Int)=(b.toNat:Int))↔a=b:=⟨λh=>BitVec.eq_of_toNat_eq (by omega),λh=>by rw [h]⟩
section
variable {P:Program}{κ:Ctx}{N:Frm}{Q:Exit->Act->World->Prop}{L:Env}{I J:List Item}
variable {d:Option Tmp}{ty:TypeId}{ps:String}{af:Array Edge}{gd:Option (Nat×Bool)}
variable {x y:Operand}{T U:TypeId}{a b:BitVec 64}
theorem Runs.andB(hx:er L x=some (U64 a))(hy:er L y=some (U64 b)):Runs P κ N ⟨d,.binOp .and T x y U,ty,ps,af,gd⟩ L J (U64 (a &&& b)):=
 λact w ha _=>by simp only [execOp,ha.eval hx,ha.eval hy];simp [go_sem,bits_andB]
theorem Runs.orB(hx:er L x=some (U64 a))(hy:er L y=some (U64 b)):Runs P κ N ⟨d,.binOp .or T x y U,ty,ps,af,gd⟩ L J (U64 (a ||| b)):=
 λact w ha _=>by simp only [execOp,ha.eval hx,ha.eval hy];simp [go_sem,bits_orB]
theorem Runs.andNotB(hx:er L x=some (U64 a))(hy:er L y=some (U64 b)):Runs P κ N ⟨d,.binOp .andNot T x y U,ty,ps,af,gd⟩ L J (U64 (a &&& ~~~b)):=
 λact w ha _=>by
  simp only [execOp,ha.eval hx,ha.eval hy]
  have h:=bits_andNotB a b
  simp [go_sem,h]
theorem Runs.addB(hx:er L x=some (U64 a))(hy:er L y=some (U64 b)):Runs P κ N ⟨d,.binOp .add T x y U,ty,ps,af,gd⟩ L J (U64 (a+b)):=by
 have h:=Runs.addw (P:=P) (κ:=κ) (N:=N) (J:=J) (d:=d) (ty:=ty) (ps:=ps) (af:=af) (gd:=gd) (T:=T) (U:=U) hx hy
 have e:IntKind.u64.wrap ((a.toNat:Int)+(b.toNat:Int))=((a+b).toNat:Int):=by rw [u64_wrap,BitVec.toNat_add];omega
 rwa [e] at h
theorem Runs.subB(hx:er L x=some (U64 a))(hy:er L y=some (U64 b)):Runs P κ N ⟨d,.binOp .sub T x y U,ty,ps,af,gd⟩ L J (U64 (a - b)):=by
 have h:=Runs.subw (P:=P) (κ:=κ) (N:=N) (J:=J) (d:=d) (ty:=ty) (ps:=ps) (af:=af) (gd:=gd) (T:=T) (U:=U) hx hy
 have e:IntKind.u64.wrap ((a.toNat:Int) - (b.toNat:Int))=((a - b).toNat:Int):=by rw [u64_wrap,BitVec.toNat_sub];have:=a.isLt;have:=b.isLt;omega
 rwa [e] at h
theorem Runs.shlB{k':IntKind}{n:Int}(hx:er L x=some (U64 a))(hy:er L y=some (.int k' n))(h0:0<=n)(h1:n<64):Runs P κ N ⟨d,.binOp .shl T x y U,ty,ps,af,gd⟩ L J (U64 (a <<< n.toNat)):=by
 have h:=Runs.shlw (P:=P) (κ:=κ) (N:=N) (J:=J) (d:=d) (ty:=ty) (ps:=ps) (af:=af) (gd:=gd) (T:=T) (U:=U) hx hy h0
 have e:IntKind.u64.wrap ((a.toNat:Int)*2 ^ Min.min n.toNat IntKind.u64.bits)=((a <<< n.toNat).toNat:Int):=by
  have hm:Min.min n.toNat IntKind.u64.bits=n.toNat:=by show Min.min n.toNat 64=_;omega
  have hc:((a.toNat:Int)*2 ^ n.toNat)=((a.toNat*2 ^ n.toNat:Nat):Int):=by rw [Int.natCast_mul,Int.natCast_pow];rfl
  rw [hm,u64_wrap,BitVec.toNat_shiftLeft,Nat.shiftLeft_eq,hc]
  generalize a.toNat*2 ^ n.toNat=m
  omega
 rwa [e] at h
theorem Runs.shrB{k':IntKind}{n:Int}(hx:er L x=some (U64 a))(hy:er L y=some (.int k' n))(h0:0<=n)(h1:n<64):Runs P κ N ⟨d,.binOp .shr T x y U,ty,ps,af,gd⟩ L J (U64 (a >>> n.toNat)):=by
 have h:=Runs.shrw (P:=P) (κ:=κ) (N:=N) (J:=J) (d:=d) (ty:=ty) (ps:=ps) (af:=af) (gd:=gd) (T:=T) (U:=U) hx hy h0
 have e:(a.toNat:Int).fdiv (2 ^ Min.min n.toNat IntKind.u64.bits)=((a >>> n.toNat).toNat:Int):=by
  have hm:Min.min n.toNat IntKind.u64.bits=n.toNat:=by show Min.min n.toNat 64=_;omega
  rw [hm,BitVec.toNat_ushiftRight,Nat.shiftRight_eq_div_pow,Int.fdiv_eq_ediv_of_nonneg _ (Int.pow_nonneg (by decide))]
  push_cast;rfl
 rwa [e] at h
theorem Runs.eqB(hx:er L x=some (U64 a))(hy:er L y=some (U64 b)):Runs P κ N ⟨d,.binOp .eql T x y U,ty,ps,af,gd⟩ L J (.bool (decide (a=b))):=by
 have h:=Runs.eql (P:=P) (κ:=κ) (N:=N) (J:=J) (d:=d) (ty:=ty) (ps:=ps) (af:=af) (gd:=gd) (T:=T) (U:=U) hx hy
 rwa [decide_eq_decide.2 (toNat_inj64 (a:=a) (b:=b))] at h
theorem Runs.neB(hx:er L x=some (U64 a))(hy:er L y=some (U64 b)):Runs P κ N ⟨d,.binOp .neq T x y U,ty,ps,af,gd⟩ L J (.bool (decide (a≠b))):=by
 have h:=Runs.neq (P:=P) (κ:=κ) (N:=N) (J:=J) (d:=d) (ty:=ty) (ps:=ps) (af:=af) (gd:=gd) (T:=T) (U:=U) hx hy
 rwa [decide_eq_decide.2 (not_congr (toNat_inj64 (a:=a) (b:=b)))] at h
theorem Runs.toI{S:TypeId}{q:IntKind}(hs:P.underlying S=some (.int q))(ht:P.underlying T=some (.int .i64))(hx:er L x=some (U64 a))(hr:a.toNat<9223372036854775808):Runs P κ N ⟨d,.convert S T x,ty,ps,af,gd⟩ L J (e7 (a.toNat:Int)):=
 Runs.convI hs ht hx (by unfold InR;omega)
theorem Runs.and127{n:Int}(hx:er L x=some (e7 n))(hy:er L y=some (e7 127))(h0:0<=n):Runs P κ N ⟨d,.binOp .and T x y U,ty,ps,af,gd⟩ L J (e7 (n % 128)):=
 λact w ha _=>by
  simp only [execOp,ha.eval hx,ha.eval hy]
  obtain ⟨m,rfl⟩:∃m:Nat,n=(m:Int):=⟨n.toNat,by omega⟩
  have e:bits .and .i64 (m:Int) 127=(m:Int) % 128:=by
   have e1:(BitVec.ofInt 64 (m:Int) &&& BitVec.ofInt 64 127).toNat=m % 128:=by
    rw [BitVec.toNat_and,BitVec.toNat_ofInt,BitVec.toNat_ofInt,show ((127:Int) % (2 ^ 64:Nat)).toNat=2 ^ 7 - 1 by decide,Nat.and_two_pow_sub_one_eq_mod]
    omega
   unfold bits
   show IntKind.i64.wrap ((BitVec.ofInt 64 (m:Int) &&& BitVec.ofInt 64 127).toNat:Int)=_
   rw [e1,IntKind.wrap_i64];omega
  simp [go_sem,e]
end
end Go.Sl
namespace Go.Sl
open Go.RowKit (Below)
def recI(l:Nat)(r:Loop):Item where
 fp k:=k=l
 ok w:=w.heap[l]? = some (.loop r)
 loc w w' h hw:=(h l rfl).trans hw
def dfrI(D:Nat):Item where
 fp k:=k=D
 ok w:=w.heap[D]? = some (.deferred (some []))
 loc w w' h hw:=(h D rfl).trans hw
theorem Sep.putRec{κ:Ctx}{w:World}{l:Nat}{r r':Loop}{I:List Item}(h:Sep κ w (recI l r::I)):Sep κ (w.putObj l (.loop r')) (recI l r'::I):=by
 have hl:=(h.ok _ List.mem_cons_self).1
 have hlt:l<w.heap.size:=(Array.getElem?_eq_some_iff.1 hl).1
 exact h.upd (.head _ _ _) rfl ⟨rfl,Nat.le_refl _⟩ rfl (by simp) (λk _ hne=>World.putObj_heap_other hne) (World.putObj_heap_same hlt) λk hk=> .inl hk
section
variable {P:Program}{κ:Ctx}{N:Frm}{Q:Exit->Act->World->Prop}{L:Env}{I J:List Item}{ops:Array Oper}
def WR(P:Program)(κ:Ctx)(N:Frm)(l m:Nat)(c:Code)(Q:Exit->Act->World->Prop)(L:Env)(I:List Item):Prop:=∀a w,Ag N a L->Sep κ w I->c.wpIn (Fence.wide.inRound l) m P Q a w
variable {l m:Nat}
theorem WR.seq{x y:Code}(h:WR P κ N l m x (Exit.then (y.wpIn (Fence.wide.inRound l) m P Q) Q) L I):WR P κ N l m (.seq x y) Q L I:=λa w ha hs=>wpIn_seq (h a w ha hs)
theorem WR.block{id:Nat}{c:Code}(h:WR P κ N l m c (Exit.inBlock id Q) L I):WR P κ N l m (.block id c) Q L I:=λa w ha hs=>wpIn_block (h a w ha hs)
theorem WR.sub{c:Code}{L':Env}(hf:Sub L L')(h:WR P κ N l m c Q L' I):WR P κ N l m c Q L I:=λa w ha hs=>h a w (ha.sub hf) hs
theorem V.thenR{y:Code}(h:WR P κ N l m y Q L I):V κ N (Exit.then (y.wpIn (Fence.wide.inRound l) m P Q) Q) .normal L I:=h
theorem upon_round{o:Oper}{a:Act}{next next':Act->World->Prop}(hq:¬LetsOut Q)(hn:∀a w,next a w->next' a w):∀res:Result Next,o.upon P a next Q res->o.uponIn (Fence.wide.inRound l) m P a next' Q res
 | .ok (.value v) w',h=>hn _ _ h
 | .ok .skip w',h=>hn _ _ h
 | .ok (.defer d) w',h=>hn _ _ h
 | .ok (.enter f args) w',h=>⟨λhd=>by simp [Fence.wide] at hd,CallsIn.inRound l ((callsIn_wide.2 h).mono λe w'' he=>by
   cases e with
   |returned v=>exact hn _ _ he
   |panicked c=>exact he
   |outgrown=>exact he)⟩
 | .ok (.row row args) w',h=>⟨λhd=>by simp [Fence.wide] at hd,λc cs _=>by
   obtain ⟨v,w'',hr,hs⟩:=h c cs
   exact ⟨v,w'',hn _ _ hr,stepsIn_wide.2 hs⟩⟩
 | .ok (.round _ _ _ _ _) _,h=>h.elim
 | .halt e w',h=>by cases e<;>first|exact h|exact h.elim
theorem list_round(hq:¬LetsOut Q):∀(rest:List Oper),(∀o∈rest,∀c,o.op ≠ .defer c)->∀a w,wpList P ops Q rest a w->wpListIn (Fence.wide.inRound l) m P ops Q rest a w
 |[],_,a,w,h=>h
 |o::rest,hnd,a,w,h=>by
  unfold wpList at h
  unfold wpListIn
  by_cases hw:Region.wanted o (yielded ops a.tmps)=true
  ·rw [if_pos hw] at h ⊢
   rcases h with h|h
   ·refine ⟨λ_ _=>trivial,?_⟩
    rw [Fence.inRound_round,Oper.semAt_some _ _ _ (hnd o List.mem_cons_self)]
    exact upon_round hq (λa' w' h'=>list_round hq rest (λo ho=>hnd o (List.mem_cons_of_mem _ ho)) a' w' h') _ h
   ·exact absurd h.2 hq
  ·rw [if_neg hw] at h ⊢
   exact ⟨λ_ _=>trivial,list_round hq rest (λo ho=>hnd o (List.mem_cons_of_mem _ ho)) _ _ h⟩
def noDefer:List Oper->Bool
 |[]=>true
 |o::l=>(match o.op with | .defer _=>false|_=>true)&&noDefer l
theorem noDefer_all:∀{l:List Oper},noDefer l=true->∀o∈l,∀c,o.op ≠ .defer c
 |[],_,o,ho,_=>by cases ho
 |x::l,h,o,ho,c=>by
  unfold noDefer at h
  rw [Bool.and_eq_true] at h
  rcases List.mem_cons.1 ho with rfl|ho
  ·intro e
   rw [e] at h;cases h.1
  ·exact noDefer_all h.2 o ho c
theorem WR.region{id:Nat}{ls:List Oper}(hq:∀a w,¬Q .outgrown a w)(hd:noDefer ls=true)(h:G P κ N ls.toArray Q ls L I):WR P κ N l m (.region id ls.toArray false) Q L I:=
 λa w ha hs=>wpIn_region_lit (list_round (λ⟨a,w,h⟩=>hq a w h) ls (noDefer_all hd) a w (h a w ha hs))
def GY(P:Program)(κ:Ctx)(N:Frm)(ops:Array Oper)(Q:Exit->Act->World->Prop)(rest:List Oper)(L:Env)(I:List Item):Prop:=∀a w,Ag N a L->Sep κ w I->wpListIn Fence.wide 0 P ops Q rest a w
theorem W.regionI{id:Nat}{ls:List Oper}(h:GY P κ N ls.toArray Q ls L I):W P κ N (.region id ls.toArray false) Q L I:=λa w ha hs=>wpIn_wide.1 (wpIn_region_lit (n:=0) (h a w ha hs))
theorem GY.nil(h:V κ N Q .normal L I):GY P κ N ops Q [] L I:=λa w ha hs=>h a w ha hs
theorem GY.fit{rest:List Oper}(hf:Fit κ I J)(h:GY P κ N ops Q rest L J):GY P κ N ops Q rest L I:=λa w ha hs=>h a w ha (hf w hs)
theorem GY.read{o:Oper}{rest:List Oper}{d:Nat}{v:Value}(hw:Wanted N ops o L)(hd:o.dst=some d)(hN:Nat.blt d N.n=true)(hr:Runs P κ N o L I v)(h:GY P κ N ops Q rest ((d,v)::L) I):GY P κ N ops Q (o::rest) L I:=
 λa w ha hs=>by
  unfold wpListIn
  rw [if_pos (hw a ha)]
  refine ⟨λ_ _=>trivial,?_⟩
  simp only [Fence.wide_round,Oper.semAt_none,hr a w ha hs,Oper.uponIn,hd]
  exact h _ w (ha.put d hN v) hs
def markD(D:Nat):Deferred:={target:= .collected D,args:= #[]}
def bodyPostR(P:Program)(fn:Func)(R:Ending->World->Prop):Exit->Act->World->Prop
 | .normal,a,w | .ret,a,w=>LeavesInM Fence.wide 0 P fn a.tmps R a.defers .returning w
 |_,_,_=>False
theorem eu.enterM{f:FuncId}{fn:Func}{c:Code}{n:Nat}{args:List Value}{Post:Value->List Item->Prop}(hf:P.funcs[f]? = some fn)(hb:fn.body=some c)(hN:fn.ntmps=n)(hl:Nat.ble args.length n=true)(hL:argEnv 0 args=L)
  (h:W P κ ⟨n,[]⟩ c (bodyPostR P fn (RetR κ Post)) L I):eu P κ f args I Post:=λw hs=>by
 refine (callsIn_wide (n:=0)).1 (callsIn_of_wp_marks hf hb trivial ?_)
 rw [hN]
 subst hL
 refine wpIn_mono (wpIn_wide.2 (h _ w (Ag.start args n (by simpa using hl)) hs)) λe a w hq=>?_
 cases e<;>first|exact hq|exact False.elim hq
theorem V.leave{n D:Nat}{fn:Func}{R:Ending->World->Prop}(h:V κ ⟨n,[]⟩ (bodyPost P fn R) .ret L I):V κ ⟨n,[markD D]⟩ (bodyPostR P fn R) .ret L (dfrI D::I):=λa w ha hs=>by
 have hD:=(hs.ok _ List.mem_cons_self).1
 have hlt:D<w.heap.size:=(Array.getElem?_eq_some_iff.1 hD).1
 have hs':Sep κ (w.putObj D (.deferred none)) I:=hs.tail.frame rfl ⟨rfl,Nat.le_refl _⟩ rfl (by simp) λx hx k hk=>World.putObj_heap_other λe=>(List.pairwise_cons.1 hs.pw).1 x hx D rfl (e▸hk)
 obtain ⟨_,v,hr,hR⟩:=h {a with defers:=[]} _ ⟨rfl,ha.size,ha.get⟩ hs'
 show LeavesInM _ _ _ _ _ _ a.defers _ _
 rw [ha.defers]
 exact ⟨by simp,.inl ⟨D,_,rfl,run_takeDeferred hD,v,hr,hR⟩⟩
end
end Go.Sl
namespace Go.Sl
open Go.RowKit (Below)
section
variable {P:Program}{κ:Ctx}{N:Frm}{Q:Exit->Act->World->Prop}{L:Env}{I J:List Item}{ops:Array Oper}{l m:Nat}
theorem WR.cond{c:Operand}{x y:Code}{t:Bool}(hc:er L c=some (.bool t))(h1:t=true->WR P κ N l m x Q L I)(h2:t=false->WR P κ N l m y Q L I):WR P κ N l m (.cond c x y) Q L I:=
 λa w ha hs=>wpIn_cond_split (ha.eval hc) (λh=>h1 h a w ha hs) (λh=>h2 h a w ha hs)
theorem WR.ite{c:Operand}{x y:Code}{p:Prop}[Decidable p](hc:er L c=some (.bool (decide p)))(h1:p->WR P κ N l m x Q L I)(h2:¬p->WR P κ N l m y Q L I):WR P κ N l m (.cond c x y) Q L I:=
 WR.cond hc (λh=>h1 (of_decide_eq_true h)) (λh=>h2 (of_decide_eq_false h))
theorem WR.yes{c:Operand}{x y:Code}(hc:er L c=some (.bool true))(h:WR P κ N l m x Q L I):WR P κ N l m (.cond c x y) Q L I:=WR.cond hc (λ_=>h) (λe=>by cases e)
theorem WR.no{c:Operand}{x y:Code}(hc:er L c=some (.bool false))(h:WR P κ N l m y Q L I):WR P κ N l m (.cond c x y) Q L I:=WR.cond hc (λe=>by cases e) (λ_=>h)
theorem WR.skip(h:V κ N Q .normal L I):WR P κ N l m .skip Q L I:=λa w ha hs=>wpIn_skip (h a w ha hs)
theorem WR.exit{id:Nat}(h:V κ N Q (.exit id) L I):WR P κ N l m (.exit id) Q L I:=λa w ha hs=>wpIn_exit (h a w ha hs)
theorem WR.ret(h:V κ N Q .ret L I):WR P κ N l m .ret Q L I:=λa w ha hs=>wpIn_ret (h a w ha hs)
def YieldB(P:Program)(κ:Ctx)(l:Nat)(args:List Value)(I:List Item)(Post:Bool->List Item->Prop):Prop:=∀w,Sep κ w I->YieldAt Fence.wide 0 P l args.toArray w λe w'=>∃b,e = .returned (.bool b)/\∃J,Post b J/\Sep κ w' J
theorem V.roundB{r:Loop}{Post:Bool->List Item->Prop}(J:List Item)(hf:Fit κ I (recI l {r with state:= .busy}::J))(hp:r.state = .ready/\r.pending=none)(hP:Post true (recI l r::J)):V κ N (roundPost P l λe w'=>∃b,e = .returned (.bool b)/\∃K,Post b K/\Sep κ w' K) .normal L I:=λa w ha hs=>by
 have hs':=hf w hs
 have hl:=(hs'.ok _ List.mem_cons_self).1
 refine ⟨_,_,run_endRound none hl,true,rfl,?_⟩
 have e:({({r with state:= .busy}:Loop) with state:=if (none:Option Code).isNone then .ready else .done,pending:=none}:Loop)=r:=by
  obtain ⟨h1,h2⟩:=hp
  cases r;simp_all
 rw [e]
 exact ⟨_,hP,hs'.putRec⟩
theorem V.roundX{r:Loop}{Post:Bool->List Item->Prop}{id:Nat}(J:List Item)(hf:Fit κ I (recI l {r with state:= .busy}::J))(hP:Post false (recI l {r with state:= .done,pending:=some (.exit id)}::J)):V κ N (roundPost P l λe w'=>∃b,e = .returned (.bool b)/\∃K,Post b K/\Sep κ w' K) (.exit id) L I:=λa w ha hs=>by
 have hs':=hf w hs
 have hl:=(hs'.ok _ List.mem_cons_self).1
 exact ⟨_,_,run_endRound (some (.exit id)) hl,false,rfl,_,hP,hs'.putRec⟩
theorem V.roundRet{r:Loop}{Post:Bool->List Item->Prop}(J:List Item)(hf:Fit κ I (recI l {r with state:= .busy}::J))(hP:Post false (recI l {r with state:= .done,pending:=some .ret}::J)):V κ N (roundPost P l λe w'=>∃b,e = .returned (.bool b)/\∃K,Post b K/\Sep κ w' K) .ret L I:=λa w ha hs=>by
 have hs':=hf w hs
 have hl:=(hs'.ok _ List.mem_cons_self).1
 exact ⟨_,_,run_endRound (some .ret) hl,false,rfl,_,hP,hs'.putRec⟩
theorem YieldB.mk{r:Loop}{Post:Bool->List Item->Prop}{args:List Value}{L₁:Env}(hps:args.length=r.params.size)(hrd:r.state = .ready/\r.pending=none){body:Code}(hb:r.body=body)
  (hassign:∀(w:World) (K:Act->World->Prop),(∀a₁,Ag N a₁ L₁->K a₁ w)->r.assign.wpIn (Fence.wide.inRound l) 0 P (Exit.then K (λ_ _ _=>False)) {tmps:=(r.params.zip args.toArray).foldl (λt (p,v)=>t.setIfInBounds p v) r.tmps,defers:=[]} w)
  (hbody:WR P κ N l 0 body (roundPost P l λe w'=>∃b,e = .returned (.bool b)/\∃K,Post b K/\Sep κ w' K) L₁ (recI l {r with state:= .busy}::I)) :
  YieldB P κ l args (recI l r::I) Post:=λw hs=>by
 have hl:=(hs.ok _ List.mem_cons_self).1
 refine ⟨_,_,_,_,run_yield hl (by simpa using hps),roundIn_of_wpIn trivial ?_⟩
 refine hassign w _ λa₁ ha=>⟨_,run_beginRound hl hrd.1,?_⟩
 have h:=hbody a₁ _ ha hs.putRec
 rw [←hb] at h
 exact h
theorem fold_two(tm:Array Value)(p q:Tmp)(v u:Value):(#[p,q].zip [v,u].toArray).foldl (λt (p,v)=>t.setIfInBounds p v) tm=(tm.setIfInBounds p v).setIfInBounds q u:=by simp
theorem GY.yieldB{rest:List Oper}{Post:Bool->List Item->Prop}{l dd:Nat}{x:Operand}{xs:List Operand}{vs:List Value}{ats:Array TypeId}{ty:TypeId}{ps:String}{af:Array Edge}{gd:Option (Nat×Bool)}
  (hw:Wanted N ops ⟨some dd,.call {callee:= .value x,args:=xs.toArray,argTypes:=ats},ty,ps,af,gd⟩ L) (hfv:er L x=some (.func (.yield l) #[] #[])) (hx:evalL L xs=some vs) (hN:Nat.blt dd N.n=true) (hy:YieldB P κ l vs I Post)
  (h:∀b J,Post b J->GY P κ N ops Q rest ((dd,.bool b)::L) J):GY P κ N ops Q (⟨some dd,.call {callee:= .value x,args:=xs.toArray,argTypes:=ats},ty,ps,af,gd⟩::rest) L I:=λa w ha hs=>by
 obtain ⟨fn,tmps,assign,body,hyr,hR⟩:=hy w hs
 have he:(execOp a.eval ⟨some dd,.call {callee:= .value x,args:=xs.toArray,argTypes:=ats},ty,ps,af,gd⟩).run P w = .ok (.round l fn tmps assign body) w:=by
  simp only [execOp,resolve,ha.eval hfv,Deferred.ofValue,invoke,Sem.run_bind,Sem.run_pure,Result.andThen_ok,List.map_toArray,ha.evalL hx]
  simpa using hyr
 unfold wpListIn
 rw [if_pos (hw a ha)]
 refine ⟨λ_ _=>trivial,?_⟩
 simp only [Fence.wide_round,Oper.semAt_none,he,Oper.uponIn]
 refine ⟨λhd=>by simp [Fence.wide] at hd,hR.mono λe w' ⟨b,h1,J,hP,h2⟩=>?_⟩
 subst h1
 exact h b J hP _ w' (ha.put dd hN _) h2
theorem GY.pass{o:Oper}{rest:List Oper}{d:Nat}(hw:Unwanted N ops o L)(hd:o.dst=some d)(hN:Nat.blt d N.n=true)(h:GY P κ N ops Q rest ((d,undef)::L) I):GY P κ N ops Q (o::rest) L I:=
 λa w ha hs=>by
  unfold wpListIn
  rw [if_neg (by simp [hw a ha])]
  rw [hd]
  exact ⟨λ_ _=>trivial,h _ w (ha.put d hN _) hs⟩
theorem YieldB.fit{l:Nat}{args:List Value}{Post:Bool->List Item->Prop}(hf:Fit κ I J)(h:YieldB P κ l args J Post):YieldB P κ l args I Post:=λw hs=>h w (hf w hs)
theorem perm_fr{A L T:List Item}:(A++(L++T)).Perm (L++(A++T)):=by
 rw [←List.append_assoc,←List.append_assoc];exact List.perm_append_comm.append_right T
theorem W.rangeFnB{g:Operand}{ps:Array Tmp}{assign body:Code}{gf:FuncId}{lb:List Value}(hg:er L g=some (.func (.func gf) #[] lb.toArray))(hc:callable P gf=true)
  (h:∀(D l:Nat) (r:Loop),(r.state = .ready/\r.pending=none)->r.params=ps->r.assign=assign->r.body=body->Ag ⟨N.n,[]⟩ {tmps:=r.tmps,defers:=[]} L->
   eu P κ gf (.func (.yield l) #[] #[]::lb) (recI l r::dfrI D::I) λv K=>
    (∃J,K=recI l r::dfrI D::J/\V κ ⟨N.n,markD D::N.ds⟩ Q .normal L (dfrI D::J))\/
    ∃c J,K=recI l {r with state:= .done,pending:=some c}::dfrI D::J/\W P κ ⟨N.n,markD D::N.ds⟩ c Q L (dfrI D::J)) :
  W P κ N (.rangeFunc g ps assign body) Q L I:=λa w ha hs=>by
 refine (wpIn_wide (n:=0)).1 (wpIn_rangeFunc ?_)
 intro fn _
 obtain ⟨r,hr⟩:∃r:Loop,r={state:= .ready,pending:=none,fn,tmps:=a.tmps,params:=ps,assign,body,defers:=w.heap.size}:=⟨_,rfl⟩
 obtain ⟨W1,hW1⟩:∃W1,(w.alloc (.deferred (some []))).alloc (.loop r)=W1:=⟨_,rfl⟩
 have hD1:(w.alloc (.deferred (some []))).heap[w.heap.size]? = some (.deferred (some [])):=World.alloc_heap_new w _
 have s1:Sep κ (w.alloc (.deferred (some []))) (dfrI w.heap.size::I):=hs.new (hs.alloc _) hD1 λk hk=>by obtain rfl:k=_:=hk;exact ⟨Nat.le_refl _,by simp⟩
 have hL1:W1.heap[w.heap.size+1]? = some (.loop r):=by
  rw [←hW1];have:=World.alloc_heap_new (w.alloc (.deferred (some []))) (.loop r);rwa [World.size_alloc] at this
 have s2:Sep κ W1 (recI (w.heap.size+1) r::dfrI w.heap.size::I):=by
  rw [←hW1]
  exact s1.new (s1.alloc _) (by rw [hW1];exact hL1) λk hk=>by obtain rfl:k=_:=hk;exact ⟨by simp,by simp⟩
 have hcall:=h w.heap.size (w.heap.size+1) r (by rw [hr];exact ⟨rfl,rfl⟩) (by rw [hr]) (by rw [hr]) (by rw [hr]) ⟨rfl,by rw [hr];exact ha.size,by rw [hr];exact ha.get⟩ W1 s2
 refine ⟨w.heap.size+1,[markD w.heap.size],W1,{target:= .fn (.func gf) lb.toArray,args:= #[.func (.yield (w.heap.size+1)) #[] #[]]},W1,gf, #[.func (.yield (w.heap.size+1)) #[] #[]]++lb.toArray,W1,?_,?_,λ_ _=>trivial,?_,λhd=>by simp [Fence.wide] at hd,?_⟩
 ·rw [←hW1,hr];exact run_enterLoop_outer _ _ _ _ _
 ·simp only [resolve,ha.eval hg]
  simp [go_sem]
 ·simp [invoke,go_sem,run_callFunc hc]
 ·refine callsIn_wide.2 ?_
  have e1:(#[.func (.yield (w.heap.size+1)) #[] #[]]++lb.toArray:Array Value)=(Value.func (.yield (w.heap.size+1)) #[] #[]::lb).toArray:=by simp
  rw [e1]
  have hag:∀(N':Frm) (t:Array Value),True->True:=λ_ _ _=>trivial
  refine hcall.mono λe w' ⟨v,K,he,hK,hs'⟩=>?_
  subst he
  rcases hK with ⟨J,hK,hV⟩|⟨c,J,hK,hW⟩
  ·subst hK
   have hl:=(hs'.ok _ List.mem_cons_self).1
   have hst:r.state ≠ .busy:=by rw [hr];exact λh=>by cases h
   refine ⟨_,_,run_endLoop hl hst,?_⟩
   have hp:r.pending=none:=by rw [hr]
   rw [hp]
   exact hV _ _ ⟨by show [markD w.heap.size]++a.defers=_;rw [ha.defers];rfl,ha.size,ha.get⟩ hs'.putRec.tail
  ·subst hK
   have hl:=(hs'.ok _ List.mem_cons_self).1
   refine ⟨_,_,run_endLoop hl (λh=>by cases h),?_⟩
   exact wpIn_wide.2 (hW _ _ ⟨by show [markD w.heap.size]++a.defers=_;rw [ha.defers];rfl,ha.size,ha.get⟩ hs'.putRec.tail)
end
end Go.Sl
