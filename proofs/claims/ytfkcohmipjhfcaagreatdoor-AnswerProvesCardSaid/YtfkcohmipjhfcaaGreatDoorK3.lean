/- A part of the proofs of statements of this seat: contracts of functions, and the plain laws that they lean on. No conditions. -/
import Derived.Test.YtfkcohmipjhfcaaGreatDoorK2
import Derived.Lib.Overlaps
import Derived.Lib.AppendZerosOnto
import Derived.Lib.SliceRun
import Derived.MapKept
import Derived.RangeFuncRecord
import Derived.RangeFuncCalls
import Derived.TacticsIn
set_option linter.unusedVariables false
set_option linter.unusedSimpArgs false
set_option linter.unusedSectionVars false
namespace Go.Sl
open Go.RowKit (Below)
section
variable {P:Program}{κ:Ctx}{N:Frm}{Q:Exit->Act->World->Prop}{L:Env}{I J:List Item}{ops:Array Oper}{rest:List Oper}
variable {d:Option Tmp}{ty:TypeId}{ps:String}{af:Array Edge}{gd:Option (Nat×Bool)}
theorem run_firstCells_pre{w:World}{sz:Nat}{v:Value}{m q:Nat}{ds:List Value}(h:slOk w sz v m ds)(hq:q<=m):(Builtin.firstCells sz q v).run P w = .ok (ds.take (q*sz)).toArray w:=by
 obtain ⟨a,cap,rfl,h1,h2,h3,h4⟩:=h
 have hmul:q*sz<=m*sz:=Nat.mul_le_mul_right _ hq
 by_cases hc:0<cap
 ·obtain ⟨b,off,rfl,hr⟩:=h4 hc
  exact run_firstCells_some w sz q _ m cap _ (by rw [List.length_take];omega) λj u hj=>by
   rw [addr_add]
   rw [List.getElem?_take] at hj
   split at hj
   ·exact hr j u hj
   ·cases hj
 ·obtain rfl:m=0:=by omega
  obtain rfl:q=0:=by omega
  cases a with
  |none=>simp [Builtin.firstCells]
  |some a=>rw [run_firstCells_some w sz 0 a 0 cap [] (by simp) (by simp)];simp
theorem vec_put{w:World}{e:TypeId}{sz n c b off:Nat}{cs vs:List Value}{cur:Array Value}{k:Nat}(hl:cs.length=n*sz)(hnc:n<=c)(hcm:c<=maxLen)(hb:w.heap[b]? = some (.cells cur e (0,0)))
  (hsize:off+c*sz<=cur.size) (hcur:∀j u,cs[j]? = some u->cur[off+j]? = some u) (hk:k+vs.length<=cs.length) :
  vecOk (w.setRow b (cur.toList.take (off+k)++vs++cur.toList.drop (off+k+vs.length)).toArray) e sz (.slice (some ⟨b,off,none⟩) n c) n (cs.take k++vs++cs.drop (k+vs.length)):=by
 have hmul:n*sz<=c*sz:=Nat.mul_le_mul_right _ hnc
 refine ⟨_,c,rfl,by simp only [List.length_append,List.length_take,List.length_drop];omega,hnc,hcm,λhc=>⟨b,off,_,rfl,setRow_heap w b cur _ e _ hb,?_,λj u' hj=>?_⟩⟩
 ·simp only [List.size_toArray,List.length_append,List.length_take,List.length_drop,Array.length_toList];omega
 ·have hjl:j<cs.length:=by have:=(List.getElem?_eq_some_iff.1 hj).1;simp only [List.length_append,List.length_take,List.length_drop] at this;omega
  have hA:(cur.toList.take (off+k)).length=off+k:=by simp only [List.length_take,Array.length_toList];omega
  have hB:(cs.take k).length=k:=by simp only [List.length_take];omega
  simp only [List.getElem?_toArray]
  rw [List.append_assoc] at hj
  rw [List.append_assoc]
  by_cases hjk:j<k
  ·rw [List.getElem?_append_left (by omega),List.getElem?_take,if_pos hjk] at hj
   rw [List.getElem?_append_left (by omega),List.getElem?_take,if_pos (by omega)]
   simpa using hcur j u' hj
  ·rw [List.getElem?_append_right (by omega),hB] at hj
   rw [List.getElem?_append_right (by omega),hA,show off+j - (off+k)=j - k from by omega]
   by_cases hjv:j - k<vs.length
   ·rw [List.getElem?_append_left hjv] at hj
    rw [List.getElem?_append_left hjv]
    exact hj
   ·rw [List.getElem?_append_right (by omega),List.getElem?_drop,show k+vs.length+(j - k - vs.length)=j from by omega] at hj
    rw [List.getElem?_append_right (by omega),List.getElem?_drop,show off+k+vs.length+(j - k - vs.length)=off+j from by omega]
    simpa using hcur j u' hj
theorem Eff.copyR{x y:Operand}{t t' e sz by' n n' m k q c dd:Nat}{ag:Bool}{z cs ds:List Value}{ad:Option Addr}{u:Value}{I':List Item}(ht:P.underlying t=some (.slice e))(hT:tyF P e=some (sz,ag,by',z))
  (hx:er L x=some (.slice (adrop ad c k sz) n' (c - k))) (hn':n'=n - k) (hy:er L y=some u) (hu:SlRd κ I sz u m ds) (hk:k<=n) (hq:q=min m (n - k)) (h1:∀w∈ds.take (q*sz),w.oneCell'=true) (hN:Nat.blt dd N.n=true)
  (hat:At I (vec e sz (.slice ad n c) n cs) (vec e sz (.slice ad n c) n (cs.take (k*sz)++ds.take (q*sz)++cs.drop (k*sz+q*sz))) I') :
  Eff P κ N Q ⟨some dd,.call {callee:= .builtin .copy,args:= #[x,y],argTypes:= #[t,t']},ty,ps,af,gd⟩ L I λL' I''=>L'=(dd,e7 q)::L/\I''=I':=
 Eff.of_value rfl hN λa w ha hs=>by
  subst hn'
  obtain ⟨a',cap',hv,hl,hnc,hcm,hcap⟩:=(hs.ok _ hat.mem).1
  cases hv
  have hrd:=hu w hs
  have hlen:=run_lenOf_sl (P:=P) hrd
  have hml:m*sz<=ds.length:=by obtain ⟨_,_,_,h,_⟩:=hrd;omega
  have hql:q*sz<=m*sz:=Nat.mul_le_mul_right _ (by omega)
  have hfc:=run_firstCells_pre (P:=P) hrd (show q<=m by omega)
  have hmin:m.min (n - k)=q:=hq.symm
  have hdl:(ds.take (q*sz)).length=q*sz:=by rw [List.length_take];omega
  have hq1:q*sz+k*sz<=n*sz:=by rw [←Nat.add_mul];exact Nat.mul_le_mul_right _ (by omega)
  by_cases hq0:q=0
  ·subst hq0
   refine ⟨e7 0,w,I',?_,⟨rfl,rfl⟩,?_⟩
   ·cases had:adrop ad c k sz with
    |none=>simp [execOp,resolve,invoke,builtin,ha.eval hx,ha.eval hy,Builtin.copy_,run_underlying ht,hlen,run_sizeOf hT,hmin,hfc,had,goInt]
    |some aa=>simp [execOp,resolve,invoke,builtin,ha.eval hx,ha.eval hy,Builtin.copy_,run_underlying ht,hlen,run_sizeOf hT,hmin,hfc,had,goInt,storeCells]
   ·refine Fit.upd hat (λw hw=>?_) w hs
    have e:cs.take (k*sz)++ds.take (0*sz)++cs.drop (k*sz+0*sz)=cs:=by simp
    rw [e]
    exact ⟨hw,λ_ h=>h⟩
  ·obtain ⟨b,off,cur,rfl,hb,hsize,hcur⟩:=hcap (by omega)
   have hcs:=run_storeCells_at P b (off+k*sz) e (ds.take (q*sz)) 0 cur w hb (by
    have:=Nat.mul_le_mul_right sz hnc
    simp only [Nat.add_zero];omega) h1
   simp only [Nat.add_zero] at hcs
   have had:adrop (some ⟨b,off,none⟩) c k sz=some ⟨b,off+k*sz,none⟩:=by unfold adrop;rw [if_neg (by omega)];simp [addr_add]
   refine ⟨e7 q,_,I',by simp only [execOp,resolve,invoke,builtin,List.map_toArray,List.map_cons,List.map_nil,ha.eval hx,ha.eval hy];simp [Builtin.copy_,run_underlying ht,hlen,run_sizeOf hT,hmin,hfc,had,goInt];rw [hcs];simp only [Result.andThen_ok];rfl,⟨rfl,rfl⟩,?_⟩
   refine hs.upd hat rfl ⟨rfl,Nat.le_refl _⟩ rfl (by simp) (λk' _ hne=>setRow_other w b k' _ λe=>hne (by subst e;exact ⟨off,n,c,rfl,by omega⟩)) ?_ λk' hk'=> .inl ?_
   ·have:=vec_put (k:=k*sz) (vs:=ds.take (q*sz)) hl hnc hcm hb hsize hcur (by rw [hdl];omega)
    rw [hdl] at this
    rw [hdl]
    exact this
   ·exact hk'
theorem vec.room{e:TypeId}{sz n c h:Nat}{ad:Option Addr}{cs:List Value}(hh:n<=h)(hc:h<=c):∀w,(vec e sz (.slice ad n c) n cs).ok w->∃js:List Value,js.length=(h - n)*sz/\(vec e sz (.slice ad h c) h (cs++js)).ok w:=by
 intro w hw
 obtain ⟨a',cap',hv,hl,hnc,hcm,hcap⟩:=hw
 cases hv
 by_cases hc0:0<c
 ·obtain ⟨b,off,cur,rfl,hb,hsize,hcur⟩:=hcap hc0
  have hmul:h*sz<=c*sz:=Nat.mul_le_mul_right _ hc
  have hmul2:n*sz+(h - n)*sz=h*sz:=by rw [←Nat.add_mul];congr 1;omega
  refine ⟨(cur.toList.drop (off+n*sz)).take ((h - n)*sz),by simp only [List.length_take,List.length_drop,Array.length_toList];omega,_,c,rfl,by simp only [List.length_append,List.length_take,List.length_drop,Array.length_toList];omega,hc,hcm,λ_=>⟨b,off,cur,rfl,hb,hsize,λj u hj=>?_⟩⟩
  by_cases hjn:j<cs.length
  ·rw [List.getElem?_append_left hjn] at hj;exact hcur j u hj
  ·rw [List.getElem?_append_right (by omega),List.getElem?_take] at hj
   split at hj
   ·rw [List.getElem?_drop,show off+n*sz+(j - cs.length)=off+j from by omega] at hj
    simpa using hj
   ·cases hj
 ·obtain rfl:h=0:=by omega
  obtain rfl:n=0:=by omega
  exact ⟨[],by simp,_,c,rfl,by simpa using hl,by omega,hcm,λh=>absurd h hc0⟩
theorem Eff.grow{α:Type}[Enc α][Inhabited α]{xs:List α}{x y:Operand}{t u e by' i k c dd:Nat}{m:Int}{ag:Bool}{z:List Value}{ad:Option Addr}(ht:P.underlying t=some (.slice e))(hu:P.underlying u=some (.int .i64))(hT:tyF P e=some (Enc.sz α,ag,by',z))(hz:z=Enc.enc (default:α))
  (hx:er L x=some (.slice ad i c)) (hy:er L y=some (e7 m)) (hm:m=(k:Int)) (hv:Sl κ I (.slice ad xs.length c) xs) (hi:i<=xs.length) (hk:0<k) (hg:c<i+k) (hby:(i+k)*by'<=140737488355328) (hby0:0<by') (hN:Nat.blt dd N.n=true) :
  Eff P κ N Q ⟨some dd,.call {callee:= .builtin .append,args:= #[x,y],argTypes:= #[t,u]},ty,ps,af,gd⟩ L I λL' I''=>∃ad' c',L'=(dd,.slice ad' (i+k) c')::L/\I''=vc e (.slice ad' (i+k) c') (xs.take i++List.replicate k (default:α))::I:=
 Eff.of_value rfl hN λa w ha hs=>by
  subst hm
  obtain ⟨i0,zv,d0,hi0,hz0,hd0,hsz,hag,hbt,hzc⟩:=tyF_spec hT
  have hpos:=Enc.pos (α:=α)
  have h63:i+k<=maxLen:=by
   have:=Nat.le_mul_of_pos_right (i+k) hby0
   simp only [maxLen];omega
  have hrd:=(Sl.take hv hi) w.drew (hs.drew)
  have hlt:(xs.take i).length=i:=by rw [List.length_take];omega
  rw [hlt] at hrd
  have hold:=run_firstCells_pre (P:=P) hrd (Nat.le_refl i)
  have hcl:(cells (xs.take i)).length=i*Enc.sz α:=by rw [cells_length,hlt]
  rw [List.take_of_length_le (by omega)] at hold
  have hrun:=Go.Lib.run_append_grow_zeros (P:=P) w t u ty e i0 zv .i64 .i64 ht hu hi0 hz0 ad i c (cells (xs.take i)) (by rw [hsz];exact hold) k hk (by omega) hg (by simp only [maxLen] at h63;omega)
   (by rw [hbt];rw [Nat.add_mul] at hby;omega) (growslice_fits hg (by rw [hbt];exact hby))
  have hge:=grownCap_ge w (i+k) c e
  have hgm:=grownCap_le_maxLen w (i+k) c e h63
  have hzs:zv.cells.size=Enc.sz α:=by rw [hzc,hz,List.size_toArray,Enc.len]
  have hcells:(Builtin.zeroCells zv.cells k).toList=cells (List.replicate k (default:α)):=by
   rw [←rep_cells,←hz]
   apply List.ext_getElem?
   intro j
   simp only [Builtin.zeroCells,Array.toList_map,Array.toList_range,List.getElem?_map,hzs]
   by_cases hj:j<k*Enc.sz α
   ·rw [List.getElem?_range hj]
    have hjm:j % Enc.sz α<z.length:=by rw [hz,Enc.len];exact Nat.mod_lt _ hpos
    rw [flatten_rep z k j (by omega) (by rw [hz,Enc.len];exact hj),show z.length=Enc.sz α from by rw [hz,Enc.len],hzc]
    simp [hjm]
   ·rw [List.getElem?_eq_none (by simpa using hj),List.getElem?_eq_none (by rw [len_rep,hz,Enc.len];omega)]
    rfl
  refine ⟨.slice (some ⟨w.heap.size,0,none⟩) (i+k) (grownCap w (i+k) c e),w.drew.alloc (.cells ((cells (xs.take i)).toArray++Builtin.zeroCells zv.cells k++Builtin.zeroCells zv.cells (grownCap w (i+k) c e - (i+k))) e),_,by simp only [execOp,resolve,invoke,builtin,List.map_toArray,List.map_cons,List.map_nil,ha.eval hx,ha.eval hy];simp [hrun],⟨_,_,rfl,rfl⟩,?_⟩
  have hxl:(xs.take i++List.replicate k (default:α)).length=i+k:=by rw [List.length_append,hlt,List.length_replicate]
  refine hs.drew.new (hs.drew.alloc _) ?_ λj hj=>?_
  ·show vecOk _ e _ _ _ _
   rw [hxl]
   refine ⟨_,_,rfl,by rw [cells_length,hxl],hge,hgm,λ_=>⟨w.heap.size,0,_,rfl,heap_alloc_new w.drew _,?_,λj u hj=>?_⟩⟩
   ·simp only [Array.size_append,List.size_toArray,size_zeroCells,hzs,hcl,←Nat.add_mul,Nat.zero_add]
    rw [Nat.add_sub_cancel' hge]
    exact Nat.le_refl _
   ·rw [Nat.zero_add,Array.getElem?_append_left (by
     have:=(List.getElem?_eq_some_iff.1 hj).1
     rw [cells_length,hxl] at this
     simp only [Array.size_append,List.size_toArray,size_zeroCells,hzs,hcl,←Nat.add_mul];exact this)]
    rw [cells_append,←hcells] at hj
    have e1:(cells (xs.take i)).toArray++Builtin.zeroCells zv.cells k=(cells (xs.take i)++(Builtin.zeroCells zv.cells k).toList).toArray:=by
     apply Array.ext';simp
    rw [e1,List.getElem?_toArray];exact hj
  ·obtain ⟨o,n',c',he,hc'⟩:=hj
   cases he
   exact ⟨Nat.le_refl _,by simp⟩
theorem Eff.overlaps{f t tb e sz by' n m k k' c c' dd:Nat}{ag:Bool}{z cs ds:List Value}{x y:Operand}{tys:Array TypeId}{ad ad':Option Addr}{e' sz':Nat}{K:List Item}
  (hov:∀args w,(callFunc f args).run P w=((Extern.SlicesOverlaps.overlaps #[t,t] #[tb] args).run P w).andThen λv w'=> .ok (.value v) w') (ht:P.underlying t=some (.slice e)) (hT:tyF P e=some (sz,ag,by',z))
  (hx:er L x=some (.slice ad m c)) (hy:er L y=some (.slice (adrop ad' c' k sz) k' (c' - k))) (hkc:k<=c') (h0:0<m) (h0':0<n) (hfit:Fit κ I (vec e sz (.slice ad m c) m cs::vec e' sz' (.slice ad' n c') n ds::K)) (hss:0<c'*sz') (hN:Nat.blt dd N.n=true) :
  Eff P κ N Q ⟨some dd,.call {callee:= .value (.func f),args:= #[x,y],argTypes:=tys},ty,ps,af,gd⟩ L I λL' I''=>L'=(dd,.bool false)::L/\I''=I:=
 Eff.of_value rfl hN λa w ha hs=>by
  have hs2:=hfit w hs
  obtain ⟨_,_,hv,_,hmc,_,hcap⟩:=(hs2.ok _ List.mem_cons_self).1
  cases hv
  obtain ⟨_,_,hv',_,hnc',_,hcap'⟩:=(hs2.ok _ (List.mem_cons_of_mem _ List.mem_cons_self)).1
  cases hv'
  obtain ⟨b,off,cur,rfl,hb,hsize,_⟩:=hcap (by omega)
  obtain ⟨b',off',cur',rfl,hb',hsize',_⟩:=hcap' (by omega)
  have hap:Item.apart _ _:=(List.pairwise_cons.1 hs2.pw).1 _ List.mem_cons_self
  have hne:b≠b':=λe=>by
   subst e
   exact hap b ⟨off,m,c,rfl,by omega⟩ ⟨off',n,c',rfl,by omega⟩
  have had:∃o,adrop (some ⟨b',off',none⟩) c' k sz=some ⟨b',o,none⟩:=by
   unfold adrop;split
   ·exact ⟨_,rfl⟩
   ·exact ⟨_,by simp [addr_add];rfl⟩
  obtain ⟨o,ho⟩:=had
  rw [ho] at hy
  have hrun:=Go.Lib.run_overlaps_apart w t tb e ht sz (λw=>run_sizeOf hT w) ⟨b,off,none⟩ ⟨b',o,none⟩ m c k' (c' - k) hne e e' cur.size cur'.size (by simp [World.shape?,hb]) (by simp [World.shape?,hb']) (by omega) (by simp [World.frozen?,hb]) (by simp [World.frozen?,hb])
  refine ⟨.bool false,w,I,?_,⟨rfl,rfl⟩,hs⟩
  have e1:a.eval (.func f) = .func (.func f) #[] #[]:=rfl
  simp only [execOp,resolve,e1,Deferred.ofValue,invoke,Sem.run_bind,Sem.run_pure,Result.andThen_ok,List.map_toArray,List.map_cons,List.map_nil,ha.eval hx,ha.eval hy]
  simp only [Array.empty_append,Array.append_empty,hov,hrun,Result.andThen_ok]
theorem Runs.eqnil{x y:Operand}{T E U n c:Nat}{ad:Option Addr}(ht:P.underlying T=some (.slice E))(hx:er L x=some (.slice ad n c))(hy:er L y=some (.slice none 0 0)) :
  Runs P κ N ⟨d,.binOp .eql T x y U,ty,ps,af,gd⟩ L J (.bool ad.isNone):=λa w ha _=>by
 have hg:(eqGuard .eql T x y (.slice ad n c) (.slice none 0 0)).run P w = .ok () w:=by simp [eqGuard]
 have h:=Go.Lib.run_eql_slice_nil (P:=P) w T E ad n c 0 0 ht
 simp only [execOp,ha.eval hx,ha.eval hy]
 simp [hg,h]
theorem Eff.bs0{α:Type}[Enc α]{t e by' dd:Nat}{ag:Bool}{z:List Value}(ht:P.underlying t=some (.slice e))(hT:tyF P e=some (Enc.sz α,ag,by',z))(hN:Nat.blt dd N.n=true) :
  Eff P κ N Q ⟨some dd,.buildSlice t 0 #[],ty,ps,af,gd⟩ L I λL' I''=>∃ad,L'=(dd,.slice ad 0 0)::L/\I''=vc e (.slice ad 0 0) ([]:List α)::I:=
 Eff.of_value rfl hN λa w ha hs=>by
  refine ⟨.slice (some ⟨w.heap.size,0,none⟩) 0 0,w.alloc (.cells #[] e),_,by simp [execOp,Instr.buildSlice,run_underlying ht,run_sizeOf hT,Instr.fill,newRow,Array.range_zero'],⟨_,rfl,rfl⟩,?_⟩
  exact hs.new (hs.alloc _) ⟨_,0,rfl,by simp [cells],Nat.le_refl _,by simp,λh=>absurd h (by decide)⟩ λk hk=>by
   obtain ⟨o,n',c',he,hc'⟩:=hk
   cases he
   omega
theorem Sl.isNone{α:Type}[Enc α]{xs:List α}{ad:Option Addr}{c:Nat}(h:Sl κ I (.slice ad xs.length c) xs):∀w,Sep κ w I->ad.isNone=true->xs=[]/\c=0:=λw hs hn=>by
 obtain ⟨a,cap,he,h1,h2,h3,h4⟩:=h w hs
 cases he
 by_cases hc:0<c
 ·obtain ⟨b,off,rfl,_⟩:=h4 hc;cases hn
 ·exact ⟨List.eq_nil_of_length_eq_zero (by omega),by omega⟩
end
end Go.Sl
namespace Go.Sl
section
variable {β:Type}{xs ys js:List β}{i m n r:Nat}{d:β}
theorem take_app{a b:List β}{k:Nat}(h:a.length=k):(a++b).take k=a:=by subst h;simp
theorem drop_app{a b:List β}{k:Nat}(h:a.length=k):(a++b).drop k=b:=by subst h;simp
theorem ins1(hi:i<=xs.length):(xs.take i++List.replicate (xs.length+ys.length - i) d).take i++ys.take ys.length++(xs.take i++List.replicate (xs.length+ys.length - i) d).drop (i+ys.length)=xs.take i++ys++List.replicate (xs.length - i) d:=by
 have hl:(xs.take i).length=i:=by rw [List.length_take];omega
 rw [take_app hl,List.take_length,←List.drop_drop,drop_app hl,List.drop_replicate,show xs.length+ys.length - i - ys.length=xs.length - i by omega]
theorem ins2(hi:i<=xs.length):(xs.take i++ys++List.replicate (xs.length - i) d).take (i+ys.length)++(xs.drop i).take (xs.length - i)++(xs.take i++ys++List.replicate (xs.length - i) d).drop (i+ys.length+(xs.length - i))=xs.take i++ys++xs.drop i:=by
 have hl:(xs.take i++ys).length=i+ys.length:=by rw [List.length_append,List.length_take];omega
 have e1:(xs.drop i).take (xs.length - i)=xs.drop i:=List.take_of_length_le (by rw [List.length_drop];omega)
 have e2:(xs.take i++ys++List.replicate (xs.length - i) d).drop (i+ys.length+(xs.length - i))=[]:=List.drop_eq_nil_of_le (by simp only [List.length_append,List.length_take,List.length_replicate];omega)
 rw [take_app hl,e1,e2,List.append_nil]
theorem ins3{cs:List β}(hn:cs.length=n)(hj:js.length=m)(hy:ys.length=m)(hi:i<=n) :
  let A:=(cs++js).take (i+m)++((cs++js).drop i).take (n - i)++(cs++js).drop (i+m+(n - i))
  A.take i++ys.take m++A.drop (i+m)=cs.take i++ys++cs.drop i:=by
 intro A
 have hA1:((cs++js).take (i+m)).length=i+m:=by rw [List.length_take,List.length_append];omega
 have hd:((cs++js).drop i).take (n - i)=cs.drop i:=by
  rw [List.drop_append,show i - cs.length=0 by omega,List.drop_zero]
  exact take_app (by rw [List.length_drop];omega)
 have hz:(cs++js).drop (i+m+(n - i))=[]:=List.drop_eq_nil_of_le (by rw [List.length_append];omega)
 have e:A=(cs++js).take (i+m)++cs.drop i:=by show _++_++_=_;rw [hd,hz,List.append_nil]
 have e1:ys.take m=ys:=List.take_of_length_le (by omega)
 have e2:A.take i=cs.take i:=by
  rw [e,List.take_append_of_le_length (by rw [hA1];omega),List.take_take,Nat.min_eq_left (by omega),List.take_append_of_le_length (by omega)]
 rw [e1,e2,e,drop_app hA1]
end
section
variable {P:Program}{κ:Ctx}{N:Frm}{Q:Exit->Act->World->Prop}{L:Env}{I J:List Item}{ops:Array Oper}{rest:List Oper}
variable {d:Option Tmp}{ty:TypeId}{ps:String}{af:Array Edge}{gd:Option (Nat×Bool)}
variable {α:Type}[Enc α]{xs ys R:List α}
theorem Eff.copyT{x y:Operand}{t t' e by' n n' k q c dd:Nat}{ag:Bool}{z:List Value}{ad:Option Addr}{u:Value}{I':List Item}(ht:P.underlying t=some (.slice e))(hT:tyF P e=some (Enc.sz α,ag,by',z))
  (hx:er L x=some (.slice (adrop ad c k (Enc.sz α)) n' (c - k))) (hn':n'=xs.length - k) (hy:er L y=some u) (hu:Sl κ I u ys) (hk:k<=xs.length) (hq:q=min ys.length (xs.length - k)) (hN:Nat.blt dd N.n=true)
  (hR:xs.take k++ys.take q++xs.drop (k+q)=R) (hn:n=xs.length) (hat:At I (vc e (.slice ad n c) xs) (vc e (.slice ad n c) R) I') :
  Eff P κ N Q ⟨some dd,.call {callee:= .builtin .copy,args:= #[x,y],argTypes:= #[t,t']},ty,ps,af,gd⟩ L I λL' I''=>L'=(dd,e7 q)::L/\I''=I':=by
 subst hn
 have hl:R.length=xs.length:=by rw [←hR];simp only [List.length_append,List.length_take,List.length_drop];omega
 have hc:cells R=(cells xs).take (k*Enc.sz α)++(cells ys).take (q*Enc.sz α)++(cells xs).drop (k*Enc.sz α+q*Enc.sz α):=by
  rw [←hR,cells_append,cells_append,cells_take,cells_take,cells_drop,Nat.add_mul]
 refine Eff.copyR (cs:=cells xs) ht hT hx hn' hy hu hk hq (λu hu=>cells_one ys u (List.mem_of_mem_take hu)) hN ?_
 have:=hat
 unfold vc at this
 rw [hl,hc] at this
 exact this
theorem ins_cells{i:Nat}{js:List Value}(hi:i<=xs.length)(hj:js.length=(xs.length+ys.length - xs.length)*Enc.sz α) :
  List.take (i*Enc.sz α) (List.take ((i+ys.length)*Enc.sz α) (cells xs++js)++List.take ((xs.length - i)*Enc.sz α) (List.drop (i*Enc.sz α) (cells xs++js))++List.drop ((i+ys.length)*Enc.sz α+(xs.length - i)*Enc.sz α) (cells xs++js))++List.take (ys.length*Enc.sz α) (cells ys)++List.drop (i*Enc.sz α+ys.length*Enc.sz α) (List.take ((i+ys.length)*Enc.sz α) (cells xs++js)++List.take ((xs.length - i)*Enc.sz α) (List.drop (i*Enc.sz α) (cells xs++js))++List.drop ((i+ys.length)*Enc.sz α+(xs.length - i)*Enc.sz α) (cells xs++js))=cells (List.take i xs++ys++List.drop i xs):=by
 rw [cells_append,cells_append,cells_take,cells_drop,Nat.add_mul,Nat.sub_mul]
 exact ins3 (cells_length xs) (by rw [hj];congr 1;omega) (cells_length ys) (Nat.mul_le_mul_right _ hi)
theorem ins_one{i:Nat}{js:List Value}(hi:i<=xs.length):∀u∈List.take ((xs.length - i)*Enc.sz α) (List.drop (i*Enc.sz α) (cells xs++js)),u.oneCell'=true:=λu hu=>by
 have hm:i*Enc.sz α<=xs.length*Enc.sz α:=Nat.mul_le_mul_right _ hi
 have hl:=cells_length xs
 rw [List.drop_append,show i*Enc.sz α - (cells xs).length=0 by omega,List.drop_zero,take_app (by rw [List.length_drop,hl,Nat.sub_mul])] at hu
 exact cells_one xs u (List.mem_of_mem_drop hu)
theorem Runs.loraw{x y:Operand}{T E sz by' n c l:Nat}{ag:Bool}{z:List Value}{ad:Option Addr}{m:Int}(ht:P.underlying T=some (.slice E))(hE:tyF P E=some (sz,ag,by',z))(hx:er L x=some (.slice ad n c))(hy:er L y=some (e7 m))(hm:m=(l:Int))
  (hl:l<=n) (hn:n<=c):Runs P κ N ⟨d,.slice T x (some y) none none,ty,ps,af,gd⟩ L J (.slice (adrop ad c l sz) (n - l) (c - l)):=λa w ha hs=>by
 subst hm
 exact Runs.slice (P:=P) (κ:=κ) (N:=N) (L:=L) (J:=J) (d:=d) (ty:=ty) (ps:=ps) (af:=af) (gd:=gd) (l:=l) ht hE hx (.inr ⟨y,rfl,hy⟩) (.inl ⟨rfl,rfl⟩) hl hn a w ha hs
theorem SlRd.dropR{sz n c l:Nat}{ad:Option Addr}{cs:List Value}(hv:SlRd κ I sz (.slice ad n c) n cs)(hl:l<=n):SlRd κ I sz (.slice (adrop ad c l sz) (n - l) (c - l)) (n - l) (cs.drop (l*sz)):=λw hs=>by
 obtain ⟨a,cap,he,h1,h2,h3,h4⟩:=hv w hs
 cases he
 refine ⟨_,c - l,rfl,by rw [List.length_drop,h1,Nat.sub_mul],by omega,by omega,λhc=>?_⟩
 obtain ⟨b,off,rfl,hr⟩:=h4 (by omega)
 refine ⟨b,off+l*sz,by unfold adrop;rw [if_neg (by omega)];simp [addr_add],λj u hj=>?_⟩
 rw [List.getElem?_drop] at hj
 rw [Nat.add_assoc]
 exact hr _ u hj
theorem G.ex{β:Type}{x:Item}{x':β->Item}{p:β->Prop}{F:Item->List Item}(hat:AtF I x F)(h:∀w,x.ok w->∃y,p y/\(x' y).ok w)(hf:∀y k,(x' y).fp k->x.fp k)(hG:∀y,p y->G P κ N ops Q rest L (F (x' y))):G P κ N ops Q rest L I:=λa w ha hs=>by
 obtain ⟨J,h1,h2⟩:=hat.perm
 have hJ:=hs.perm h1
 obtain ⟨y,hp,hy⟩:=h w (hJ.ok x List.mem_cons_self).1
 refine hG y hp a w ha (Sep.perm ?_ (h2 _).symm)
 have ha':∀z∈J,∀k,x.fp k->¬z.fp k:=(List.pairwise_cons.1 hJ.pw).1
 exact hJ.tail.cons hy (λk hk=>(hJ.ok x List.mem_cons_self).2 k (hf y k hk)) λz hz k hk=>ha' z hz k (hf y k hk)
theorem G.room{e n c h:Nat}{ad:Option Addr}{F:Item->List Item}(hat:AtF I (vc e (.slice ad n c) xs) F)(hn:n=xs.length)(hh:n<=h)(hc:h<=c)
  (hG:∀js:List Value,js.length=(h - n)*Enc.sz α->G P κ N ops Q rest L (F (vec e (Enc.sz α) (.slice ad h c) h (cells xs++js)))):G P κ N ops Q rest L I:=by
 subst hn
 exact G.ex hat (x':=λjs=>vec e (Enc.sz α) (.slice ad h c) h (cells xs++js)) (vec.room hh hc) (λjs k hk=>by obtain ⟨o,n',c',he,hc'⟩:=hk;cases he;exact ⟨o,_,_,rfl,hc'⟩) hG
end
end Go.Sl
namespace Go.Sl
open Go.RowKit (Below)
def mp(r:Nat)(es:List MapEntry)(cl:Nat):Item where
 fp k:=k=r
 ok w:=w.heap[r]? = some (.map es.toArray cl)
 loc w w' h hw:=(h r rfl).trans hw
section
variable {P:Program}{κ:Ctx}{N:Frm}{Q:Exit->Act->World->Prop}{L:Env}{I J:List Item}{ops:Array Oper}{rest:List Oper}
variable {d:Option Tmp}{ty:TypeId}{ps:String}{af:Array Edge}{gd:Option (Nat×Bool)}
theorem Eff.makeMap{T dd:Nat}(hN:Nat.blt dd N.n=true) :
  Eff P κ N Q ⟨some dd,.makeMap T none,ty,ps,af,gd⟩ L I λL' I'=>∃r,L'=(dd,.map (some r))::L/\I'=mp r [] 0::I:=
 Eff.of_value rfl hN λa w ha hs=>
  ⟨_,_,_,by simp [execOp,Instr.makeMap,Result.andThen],⟨_,rfl,rfl⟩,hs.new (hs.alloc (.map #[] 0)) (heap_alloc_new w _) λk hk=>by obtain rfl:k=_:=hk;exact ⟨Nat.le_refl _,by simp⟩⟩
theorem Eff.insertK{x y z:Operand}{T kt et r cl:Nat}{es:List MapEntry}{kd:IntKind}{k v:Value}{I':List Item}(ht:P.underlying T=some (.map kt et))(hkt:P.underlying kt=some (.int kd))(hx:er L x=some (.map (some r)))
  (hy:er L y=some k) (hz:er L z=some v) (hk:MapKept.IsKey (.int kd) k) (hf:Instr.findNow (.int kd) k es 0=some none) (hat:At I (mp r es cl) (mp r (es++[{key:=k,val:=v,born:=cl}]) (cl+1)) I') :
  Eff P κ N Q ⟨none,.insert T x y z,ty,ps,af,gd⟩ L I λL' I''=>L'=L/\I''=I':=
 Eff.of_skip rfl λa w ha hs=>by
  have hb:=(hs.ok _ hat.mem).1
  refine ⟨{w with heap:=w.heap.setIfInBounds r (.map (es++[({key:=k,val:=v,born:=cl}:MapEntry)]).toArray (cl+1))},I',?_,⟨rfl,rfl⟩,?_⟩
  ·simp [execOp,ha.eval hx,ha.eval hy,ha.eval hz,Instr.mapUpdate,run_underlying ht,MapKept.run_getObj_map hb,MapKept.run_checkKey hkt hk,MapKept.run_findKey hkt hf,MapKept.run_setObj_map _ hb,Result.andThen]
  ·exact hs.upd hat rfl ⟨rfl,Nat.le_refl _⟩ rfl (by simp) (λk _ hne=>(MapKept.heap_set hb).2 k λe=>hne e) (MapKept.heap_set hb).1 λk hk=> .inl hk
theorem Runs.lookupK{x y:Operand}{T kt et r cl i:Nat}{es:List MapEntry}{kd:IntKind}{k v:Value}(ht:P.underlying T=some (.map kt et))(hkt:P.underlying kt=some (.int kd))(hx:er L x=some (.map (some r)))
  (hy:er L y=some k) (hk:MapKept.IsKey (.int kd) k) (hm:mp r es cl∈J) (hf:Instr.findNow (.int kd) k es 0=some (some (i,v))):Runs P κ N ⟨d,.lookup T x y false,ty,ps,af,gd⟩ L J v:=
 λa w ha hs=>by
  have hb:=(hs.ok _ hm).1
  simp [execOp,ha.eval hx,ha.eval hy,Instr.lookup,run_underlying ht,MapKept.run_getObj_map hb,MapKept.run_checkKey hkt hk,MapKept.run_findKey hkt hf,Result.andThen]
end
end Go.Sl
namespace Go.Sl
abbrev U64(b:BitVec 64):Value:= .int .u64 (b.toNat:Int)
theorem u64_wrap(n:Int):IntKind.u64.wrap n=n % 18446744073709551616:=IntKind.wrap_u64 n
theorem ofInt_toNat64(a:BitVec 64):BitVec.ofInt IntKind.u64.bits (a.toNat:Int)=a:=by
 show BitVec.ofInt 64 (a.toNat:Int)=a
 rw [BitVec.ofInt_natCast,BitVec.ofNat_toNat];simp
theorem wrap_toNat64(a:BitVec 64):IntKind.u64.wrap (a.toNat:Int)=(a.toNat:Int):=by
 rw [u64_wrap];have:=a.isLt;omega
theorem bits_andB(a b:BitVec 64):bits .and .u64 (a.toNat:Int) (b.toNat:Int)=((a &&& b).toNat:Int):=by
 unfold bits;simp only [ofInt_toNat64];exact wrap_toNat64 (a &&& b)
theorem bits_orB(a b:BitVec 64):bits .or .u64 (a.toNat:Int) (b.toNat:Int)=((a ||| b).toNat:Int):=by
 unfold bits;simp only [ofInt_toNat64];exact wrap_toNat64 (a ||| b)
theorem bits_andNotB(a b:BitVec 64):bits .andNot .u64 (a.toNat:Int) (b.toNat:Int)=((a &&& ~~~b).toNat:Int):=by
 unfold bits;simp only [ofInt_toNat64];exact wrap_toNat64 (a &&& ~~~b)
theorem toNat_inj64{a b:BitVec 64}:((a.toNat:Int)=(b.toNat:Int))↔a=b:=⟨λh=>BitVec.eq_of_toNat_eq (by omega),λh=>by rw [h]⟩
section
variable {P:Program}{κ:Ctx}{N:Frm}{Q:Exit->Act->World->Prop}{L:Env}{I J:List Item}
variable {d:Option Tmp}{ty:TypeId}{ps:String}{af:Array Edge}{gd:Option (Nat×Bool)}
variable {x y:Operand}{T U:TypeId}{a b:BitVec 64}
theorem Runs.andB(hx:er L x=some (U64 a))(hy:er L y=some (U64 b)):Runs P κ N ⟨d,.binOp .and T x y U,ty,ps,af,gd⟩ L J (U64 (a &&& b)):=
 λact w ha _=>by simp only [execOp,ha.eval hx,ha.eval hy];simp [go_sem,bits_andB]
theorem Runs.orB(hx:er L x=some (U64 a))(hy:er L y=some (U64 b)):Runs P κ N ⟨d,.binOp .or T x y U,ty,ps,af,gd⟩ L J (U64 (a ||| b)):=
 λact w ha _=>by simp only [execOp,ha.eval hx,ha.eval hy];simp [go_sem,bits_orB]
theorem Runs.andNotB(hx:er L x=some (U64 a))(hy:er L y=some (U64 b)):Runs P κ N ⟨d,.binOp .andNot T x y U,ty,ps,af,gd⟩ L J (U64 (a &&& ~~~b)):=
 λact w ha _=>by
  simp only [execOp,ha.eval hx,ha.eval hy]
  have h:=bits_andNotB a b
  simp [go_sem,h]
theorem Runs.addB(hx:er L x=some (U64 a))(hy:er L y=some (U64 b)):Runs P κ N ⟨d,.binOp .add T x y U,ty,ps,af,gd⟩ L J (U64 (a+b)):=by
 have h:=Runs.addw (P:=P) (κ:=κ) (N:=N) (J:=J) (d:=d) (ty:=ty) (ps:=ps) (af:=af) (gd:=gd) (T:=T) (U:=U) hx hy
 have e:IntKind.u64.wrap ((a.toNat:Int)+(b.toNat:Int))=((a+b).toNat:Int):=by rw [u64_wrap,BitVec.toNat_add];omega
 rwa [e] at h
theorem Runs.subB(hx:er L x=some (U64 a))(hy:er L y=some (U64 b)):Runs P κ N ⟨d,.binOp .sub T x y U,ty,ps,af,gd⟩ L J (U64 (a - b)):=by
 have h:=Runs.subw (P:=P) (κ:=κ) (N:=N) (J:=J) (d:=d) (ty:=ty) (ps:=ps) (af:=af) (gd:=gd) (T:=T) (U:=U) hx hy
 have e:IntKind.u64.wrap ((a.toNat:Int) - (b.toNat:Int))=((a - b).toNat:Int):=by rw [u64_wrap,BitVec.toNat_sub];have:=a.isLt;have:=b.isLt;omega
 rwa [e] at h
theorem Runs.shlB{k':IntKind}{n:Int}(hx:er L x=some (U64 a))(hy:er L y=some (.int k' n))(h0:0<=n)(h1:n<64):Runs P κ N ⟨d,.binOp .shl T x y U,ty,ps,af,gd⟩ L J (U64 (a <<< n.toNat)):=by
 have h:=Runs.shlw (P:=P) (κ:=κ) (N:=N) (J:=J) (d:=d) (ty:=ty) (ps:=ps) (af:=af) (gd:=gd) (T:=T) (U:=U) hx hy h0
 have e:IntKind.u64.wrap ((a.toNat:Int)*2 ^ Min.min n.toNat IntKind.u64.bits)=((a <<< n.toNat).toNat:Int):=by
  have hm:Min.min n.toNat IntKind.u64.bits=n.toNat:=by show Min.min n.toNat 64=_;omega
  have hc:((a.toNat:Int)*2 ^ n.toNat)=((a.toNat*2 ^ n.toNat:Nat):Int):=by rw [Int.natCast_mul,Int.natCast_pow];rfl
  rw [hm,u64_wrap,BitVec.toNat_shiftLeft,Nat.shiftLeft_eq,hc]
  generalize a.toNat*2 ^ n.toNat=m
  omega
 rwa [e] at h
theorem Runs.shrB{k':IntKind}{n:Int}(hx:er L x=some (U64 a))(hy:er L y=some (.int k' n))(h0:0<=n)(h1:n<64):Runs P κ N ⟨d,.binOp .shr T x y U,ty,ps,af,gd⟩ L J (U64 (a >>> n.toNat)):=by
 have h:=Runs.shrw (P:=P) (κ:=κ) (N:=N) (J:=J) (d:=d) (ty:=ty) (ps:=ps) (af:=af) (gd:=gd) (T:=T) (U:=U) hx hy h0
 have e:(a.toNat:Int).fdiv (2 ^ Min.min n.toNat IntKind.u64.bits)=((a >>> n.toNat).toNat:Int):=by
  have hm:Min.min n.toNat IntKind.u64.bits=n.toNat:=by show Min.min n.toNat 64=_;omega
  rw [hm,BitVec.toNat_ushiftRight,Nat.shiftRight_eq_div_pow,Int.fdiv_eq_ediv_of_nonneg _ (Int.pow_nonneg (by decide))]
  push_cast;rfl
 rwa [e] at h
theorem Runs.eqB(hx:er L x=some (U64 a))(hy:er L y=some (U64 b)):Runs P κ N ⟨d,.binOp .eql T x y U,ty,ps,af,gd⟩ L J (.bool (decide (a=b))):=by
 have h:=Runs.eql (P:=P) (κ:=κ) (N:=N) (J:=J) (d:=d) (ty:=ty) (ps:=ps) (af:=af) (gd:=gd) (T:=T) (U:=U) hx hy
 rwa [decide_eq_decide.2 (toNat_inj64 (a:=a) (b:=b))] at h
theorem Runs.neB(hx:er L x=some (U64 a))(hy:er L y=some (U64 b)):Runs P κ N ⟨d,.binOp .neq T x y U,ty,ps,af,gd⟩ L J (.bool (decide (a≠b))):=by
 have h:=Runs.neq (P:=P) (κ:=κ) (N:=N) (J:=J) (d:=d) (ty:=ty) (ps:=ps) (af:=af) (gd:=gd) (T:=T) (U:=U) hx hy
 rwa [decide_eq_decide.2 (not_congr (toNat_inj64 (a:=a) (b:=b)))] at h
theorem Runs.toI{S:TypeId}{q:IntKind}(hs:P.underlying S=some (.int q))(ht:P.underlying T=some (.int .i64))(hx:er L x=some (U64 a))(hr:a.toNat<9223372036854775808):Runs P κ N ⟨d,.convert S T x,ty,ps,af,gd⟩ L J (e7 (a.toNat:Int)):=
 Runs.convI hs ht hx (by unfold InR;omega)
theorem Runs.and127{n:Int}(hx:er L x=some (e7 n))(hy:er L y=some (e7 127))(h0:0<=n):Runs P κ N ⟨d,.binOp .and T x y U,ty,ps,af,gd⟩ L J (e7 (n % 128)):=
 λact w ha _=>by
  simp only [execOp,ha.eval hx,ha.eval hy]
  obtain ⟨m,rfl⟩:∃m:Nat,n=(m:Int):=⟨n.toNat,by omega⟩
  have e:bits .and .i64 (m:Int) 127=(m:Int) % 128:=by
   have e1:(BitVec.ofInt 64 (m:Int) &&& BitVec.ofInt 64 127).toNat=m % 128:=by
    rw [BitVec.toNat_and,BitVec.toNat_ofInt,BitVec.toNat_ofInt,show ((127:Int) % (2 ^ 64:Nat)).toNat=2 ^ 7 - 1 by decide,Nat.and_two_pow_sub_one_eq_mod]
    omega
   unfold bits
   show IntKind.i64.wrap ((BitVec.ofInt 64 (m:Int) &&& BitVec.ofInt 64 127).toNat:Int)=_
   rw [e1,IntKind.wrap_i64];omega
  simp [go_sem,e]
end
end Go.Sl
namespace Go.Sl
open Go.RowKit (Below)
def recI(l:Nat)(r:Loop):Item where
 fp k:=k=l
 ok w:=w.heap[l]? = some (.loop r)
 loc w w' h hw:=(h l rfl).trans hw
def dfrI(D:Nat):Item where
 fp k:=k=D
 ok w:=w.heap[D]? = some (.deferred (some []))
 loc w w' h hw:=(h D rfl).trans hw
theorem Sep.putRec{κ:Ctx}{w:World}{l:Nat}{r r':Loop}{I:List Item}(h:Sep κ w (recI l r::I)):Sep κ (w.putObj l (.loop r')) (recI l r'::I):=by
 have hl:=(h.ok _ List.mem_cons_self).1
 have hlt:l<w.heap.size:=(Array.getElem?_eq_some_iff.1 hl).1
 exact h.upd (.head _ _ _) rfl ⟨rfl,Nat.le_refl _⟩ rfl (by simp) (λk _ hne=>World.putObj_heap_other hne) (World.putObj_heap_same hlt) λk hk=> .inl hk
section
variable {P:Program}{κ:Ctx}{N:Frm}{Q:Exit->Act->World->Prop}{L:Env}{I J:List Item}{ops:Array Oper}
def WR(P:Program)(κ:Ctx)(N:Frm)(l m:Nat)(c:Code)(Q:Exit->Act->World->Prop)(L:Env)(I:List Item):Prop:=∀a w,Ag N a L->Sep κ w I->c.wpIn (Fence.wide.inRound l) m P Q a w
variable {l m:Nat}
theorem WR.seq{x y:Code}(h:WR P κ N l m x (Exit.then (y.wpIn (Fence.wide.inRound l) m P Q) Q) L I):WR P κ N l m (.seq x y) Q L I:=λa w ha hs=>wpIn_seq (h a w ha hs)
theorem WR.block{id:Nat}{c:Code}(h:WR P κ N l m c (Exit.inBlock id Q) L I):WR P κ N l m (.block id c) Q L I:=λa w ha hs=>wpIn_block (h a w ha hs)
theorem WR.sub{c:Code}{L':Env}(hf:Sub L L')(h:WR P κ N l m c Q L' I):WR P κ N l m c Q L I:=λa w ha hs=>h a w (ha.sub hf) hs
theorem V.thenR{y:Code}(h:WR P κ N l m y Q L I):V κ N (Exit.then (y.wpIn (Fence.wide.inRound l) m P Q) Q) .normal L I:=h
theorem upon_round{o:Oper}{a:Act}{next next':Act->World->Prop}(hq:¬LetsOut Q)(hn:∀a w,next a w->next' a w):∀res:Result Next,o.upon P a next Q res->o.uponIn (Fence.wide.inRound l) m P a next' Q res
 | .ok (.value v) w',h=>hn _ _ h
 | .ok .skip w',h=>hn _ _ h
 | .ok (.defer d) w',h=>hn _ _ h
 | .ok (.enter f args) w',h=>⟨λhd=>by simp [Fence.wide] at hd,CallsIn.inRound l ((callsIn_wide.2 h).mono λe w'' he=>by
   cases e with
   |returned v=>exact hn _ _ he
   |panicked c=>exact he
   |outgrown=>exact he)⟩
 | .ok (.row row args) w',h=>⟨λhd=>by simp [Fence.wide] at hd,λc cs _=>by
   obtain ⟨v,w'',hr,hs⟩:=h c cs
   exact ⟨v,w'',hn _ _ hr,stepsIn_wide.2 hs⟩⟩
 | .ok (.round _ _ _ _ _) _,h=>h.elim
 | .halt e w',h=>by cases e<;>first|exact h|exact h.elim
theorem list_round(hq:¬LetsOut Q):∀(rest:List Oper),(∀o∈rest,∀c,o.op ≠ .defer c)->∀a w,wpList P ops Q rest a w->wpListIn (Fence.wide.inRound l) m P ops Q rest a w
 |[],_,a,w,h=>h
 |o::rest,hnd,a,w,h=>by
  unfold wpList at h
  unfold wpListIn
  by_cases hw:Region.wanted o (yielded ops a.tmps)=true
  ·rw [if_pos hw] at h ⊢
   rcases h with h|h
   ·refine ⟨λ_ _=>trivial,?_⟩
    rw [Fence.inRound_round,Oper.semAt_some _ _ _ (hnd o List.mem_cons_self)]
    exact upon_round hq (λa' w' h'=>list_round hq rest (λo ho=>hnd o (List.mem_cons_of_mem _ ho)) a' w' h') _ h
   ·exact absurd h.2 hq
  ·rw [if_neg hw] at h ⊢
   exact ⟨λ_ _=>trivial,list_round hq rest (λo ho=>hnd o (List.mem_cons_of_mem _ ho)) _ _ h⟩
def noDefer:List Oper->Bool
 |[]=>true
 |o::l=>(match o.op with | .defer _=>false|_=>true)&&noDefer l
theorem noDefer_all:∀{l:List Oper},noDefer l=true->∀o∈l,∀c,o.op ≠ .defer c
 |[],_,o,ho,_=>by cases ho
 |x::l,h,o,ho,c=>by
  unfold noDefer at h
  rw [Bool.and_eq_true] at h
  rcases List.mem_cons.1 ho with rfl|ho
  ·intro e
   rw [e] at h;cases h.1
  ·exact noDefer_all h.2 o ho c
theorem WR.region{id:Nat}{ls:List Oper}(hq:∀a w,¬Q .outgrown a w)(hd:noDefer ls=true)(h:G P κ N ls.toArray Q ls L I):WR P κ N l m (.region id ls.toArray false) Q L I:=
 λa w ha hs=>wpIn_region_lit (list_round (λ⟨a,w,h⟩=>hq a w h) ls (noDefer_all hd) a w (h a w ha hs))
def GY(P:Program)(κ:Ctx)(N:Frm)(ops:Array Oper)(Q:Exit->Act->World->Prop)(rest:List Oper)(L:Env)(I:List Item):Prop:=∀a w,Ag N a L->Sep κ w I->wpListIn Fence.wide 0 P ops Q rest a w
theorem W.regionI{id:Nat}{ls:List Oper}(h:GY P κ N ls.toArray Q ls L I):W P κ N (.region id ls.toArray false) Q L I:=λa w ha hs=>wpIn_wide.1 (wpIn_region_lit (n:=0) (h a w ha hs))
theorem GY.nil(h:V κ N Q .normal L I):GY P κ N ops Q [] L I:=λa w ha hs=>h a w ha hs
theorem GY.fit{rest:List Oper}(hf:Fit κ I J)(h:GY P κ N ops Q rest L J):GY P κ N ops Q rest L I:=λa w ha hs=>h a w ha (hf w hs)
theorem GY.read{o:Oper}{rest:List Oper}{d:Nat}{v:Value}(hw:Wanted N ops o L)(hd:o.dst=some d)(hN:Nat.blt d N.n=true)(hr:Runs P κ N o L I v)(h:GY P κ N ops Q rest ((d,v)::L) I):GY P κ N ops Q (o::rest) L I:=
 λa w ha hs=>by
  unfold wpListIn
  rw [if_pos (hw a ha)]
  refine ⟨λ_ _=>trivial,?_⟩
  simp only [Fence.wide_round,Oper.semAt_none,hr a w ha hs,Oper.uponIn,hd]
  exact h _ w (ha.put d hN v) hs
def markD(D:Nat):Deferred:={target:= .collected D,args:= #[]}
def bodyPostR(P:Program)(fn:Func)(R:Ending->World->Prop):Exit->Act->World->Prop
 | .normal,a,w | .ret,a,w=>LeavesInM Fence.wide 0 P fn a.tmps R a.defers .returning w
 |_,_,_=>False
theorem eu.enterM{f:FuncId}{fn:Func}{c:Code}{n:Nat}{args:List Value}{Post:Value->List Item->Prop}(hf:P.funcs[f]? = some fn)(hb:fn.body=some c)(hN:fn.ntmps=n)(hl:Nat.ble args.length n=true)(hL:argEnv 0 args=L)
  (h:W P κ ⟨n,[]⟩ c (bodyPostR P fn (RetR κ Post)) L I):eu P κ f args I Post:=λw hs=>by
 refine (callsIn_wide (n:=0)).1 (callsIn_of_wp_marks hf hb trivial ?_)
 rw [hN]
 subst hL
 refine wpIn_mono (wpIn_wide.2 (h _ w (Ag.start args n (by simpa using hl)) hs)) λe a w hq=>?_
 cases e<;>first|exact hq|exact False.elim hq
theorem V.leave{n D:Nat}{fn:Func}{R:Ending->World->Prop}(h:V κ ⟨n,[]⟩ (bodyPost P fn R) .ret L I):V κ ⟨n,[markD D]⟩ (bodyPostR P fn R) .ret L (dfrI D::I):=λa w ha hs=>by
 have hD:=(hs.ok _ List.mem_cons_self).1
 have hlt:D<w.heap.size:=(Array.getElem?_eq_some_iff.1 hD).1
 have hs':Sep κ (w.putObj D (.deferred none)) I:=hs.tail.frame rfl ⟨rfl,Nat.le_refl _⟩ rfl (by simp) λx hx k hk=>World.putObj_heap_other λe=>(List.pairwise_cons.1 hs.pw).1 x hx D rfl (e▸hk)
 obtain ⟨_,v,hr,hR⟩:=h {a with defers:=[]} _ ⟨rfl,ha.size,ha.get⟩ hs'
 show LeavesInM _ _ _ _ _ _ a.defers _ _
 rw [ha.defers]
 exact ⟨by simp,.inl ⟨D,_,rfl,run_takeDeferred hD,v,hr,hR⟩⟩
end
end Go.Sl
namespace Go.Sl
def TabRd(κ:Ctx)(I:List Item)(g:Nat)(tab:List Value):Prop:=∀w,Sep κ w I->∀j u,tab[j]? = some u->w.cell? ⟨g,j,none⟩=some u
theorem TabRd.fit{κ:Ctx}{I J:List Item}{g:Nat}{tab:List Value}(h:TabRd κ I g tab)(hf:Fit κ J I):TabRd κ J g tab:=λw hs=>h w (hf w hs)
section
variable {P:Program}{κ:Ctx}{N:Frm}{Q:Exit->Act->World->Prop}{L:Env}{I J:List Item}
variable {d:Option Tmp}{ty:TypeId}{ps:String}{af:Array Edge}{gd:Option (Nat×Bool)}
variable {x y:Operand}{T U:TypeId}{a b:BitVec 64}
theorem Runs.negB(hx:er L x=some (U64 a)):Runs P κ N ⟨d,.unOp .neg T x,ty,ps,af,gd⟩ L J (U64 (-a)):=λact w ha _=>by
 have e:IntKind.u64.wrap (-(a.toNat:Int))=((-a).toNat:Int):=by
  have e2:(-a).toNat=(18446744073709551616 - a.toNat) % 18446744073709551616:=BitVec.toNat_neg a
  have h1:a.toNat<18446744073709551616:=a.isLt
  rw [u64_wrap,e2];omega
 simp only [execOp,ha.eval hx]
 simp [go_sem,e]
theorem Runs.mulB(hx:er L x=some (U64 a))(hy:er L y=some (U64 b)):Runs P κ N ⟨d,.binOp .mul T x y U,ty,ps,af,gd⟩ L J (U64 (a*b)):=by
 have h:=Runs.mulw (P:=P) (κ:=κ) (N:=N) (J:=J) (d:=d) (ty:=ty) (ps:=ps) (af:=af) (gd:=gd) (T:=T) (U:=U) hx hy
 have e:IntKind.u64.wrap ((a.toNat:Int)*(b.toNat:Int))=((a*b).toNat:Int):=by 
  have e2:(a*b).toNat=a.toNat*b.toNat % 18446744073709551616:=BitVec.toNat_mul a b
  rw [u64_wrap,e2,←Int.natCast_mul];omega
 rwa [e] at h
theorem Runs.idxArrU{E n g sz by':Nat}{k:IntKind}{ag:Bool}{z:List Value}{i:Nat}(ht:P.underlying T=some (.array n E))(hE:tyF P E=some (sz,ag,by',z))(hx:er L x=some (.pointer (some ⟨g,0,none⟩)))
  (hy:er L y=some (.int k (i:Int))) (hn:i<n):Runs P κ N ⟨d,.indexAddr T x y,ty,ps,af,gd⟩ L J (.pointer (some ⟨g,0+i*sz,none⟩)):=
 λact w ha hs=>by
  simp [execOp,ha.eval hx,ha.eval hy,Instr.indexAt,asIntOf,run_underlying ht,hn,run_sizeOf hE,Instr.sureAddr,addr_add]
theorem Runs.loadTab{sz by' g i:Nat}{z tab:List Value}{v:Value}(hT:tyF P T=some (sz,false,by',z))(hx:er L x=some (.pointer (some ⟨g,0+i*1,none⟩)))(hb:TabRd κ J g tab)(hc:tab[i]? = some v) :
  Runs P κ N ⟨d,.load T x,ty,ps,af,gd⟩ L J v:=λact w ha hs=>by
 simp only [execOp,ha.eval hx]
 simp [Instr.loadAt,Instr.sureAddr,run_loadVar_one hT (hb w hs i v hc)]
end
def tzTab:List Int:=[0,1,56,2,57,49,28,3,61,58,42,50,38,29,17,4,62,47,59,36,45,43,51,22,53,39,33,30,24,18,12,5,63,55,48,27,60,41,37,16,46,35,44,21,52,32,23,11,54,26,40,15,34,20,31,10,25,14,19,9,13,8,7,6]
def tzCells:List Value:=tzTab.map λn=> .int .u8 n
def tzIx(m:BitVec 64):Nat:=(((m &&& (-m))*285870213051353865#64) >>> (58:Int).toNat).toNat
def tzB(m:BitVec 64):Int:=if m=0#64 then 64 else tzTab.getD (tzIx m) 0
theorem tzIx_lt(m:BitVec 64):tzIx m<64:=by
 unfold tzIx
 rw [BitVec.toNat_ushiftRight,Nat.shiftRight_eq_div_pow,show 2 ^ (58:Int).toNat=288230376151711744 by decide]
 have:=((m &&& (-m))*285870213051353865#64).isLt
 omega
theorem tzCells_at(m:BitVec 64):tzCells[tzIx m]? = some (.int .u8 (tzTab.getD (tzIx m) 0)):=by
 unfold tzCells
 have h:tzIx m<tzTab.length:=tzIx_lt m
 rw [List.getElem?_map,List.getElem?_eq_getElem h,List.getD_eq_getElem?_getD,List.getElem?_eq_getElem h,Option.map_some,Option.getD_some]
theorem odd_part:∀n:Nat,0<n->∃k q,n=2 ^ k*(2*q+1)
 |n,h=>by
  by_cases hp:n % 2=1
  ·exact ⟨0,n / 2,by omega⟩
  ·obtain ⟨k,q,e⟩:=odd_part (n / 2) (by omega)
   exact ⟨k+1,q,by rw [Nat.pow_succ,Nat.mul_assoc,Nat.mul_comm 2 (2*q+1),←Nat.mul_assoc,←e];omega⟩
theorem bit_of{k q j:Nat}:(2 ^ k*(2*q+1)).testBit j=(decide (k<=j)&&if j=k then true else q.testBit (j - k - 1)):=by
 rw [Nat.testBit_two_pow_mul]
 by_cases h:k<=j
 ·rw [show decide (k<=j)=true from decide_eq_true h]
  by_cases hj:j=k
  ·subst hj;simp
  ·rw [if_neg hj,show j - k=(j - k - 1)+1 by omega,Nat.testBit_succ,show (2*q+1) / 2=q by omega];simp
 ·rw [show decide (k<=j)=false from decide_eq_false h];simp
theorem bit_pred{k q j:Nat}:(2 ^ k*(2*q+1) - 1).testBit j=if j<k then true else if j=k then false else q.testBit (j - k - 1):=by
 have hk:0<2 ^ k:=Nat.two_pow_pos k
 have e:2 ^ k*(2*q+1) - 1=2 ^ k*(2*q)+(2 ^ k - 1):=by rw [Nat.mul_add];omega
 rw [e,Nat.testBit_two_pow_mul_add _ (by omega)]
 by_cases h:j<k
 ·rw [if_pos h,if_pos h,Nat.testBit_two_pow_sub_one];simpa using h
 ·rw [if_neg h,if_neg h]
  by_cases hj:j=k
  ·rw [if_pos hj,hj];simp
  ·rw [if_neg hj,show j - k=(j - k - 1)+1 by omega,Nat.testBit_succ,show 2*q / 2=q by omega];simp
theorem least_bit{m:BitVec 64}(h:m≠0#64):∃k:Nat,k<64/\m.getLsbD k=true/\(∀j,j<k->m.getLsbD j=false)/\m &&& (-m)=1#64 <<< k/\∀j,(m &&& (m - 1#64)).getLsbD j=(m.getLsbD j&&decide (j≠k)):=by
 have h0:0<m.toNat:=by
  rcases Nat.eq_zero_or_pos m.toNat with h1|h1
  ·exact absurd (BitVec.eq_of_toNat_eq (by rw [h1];rfl)) h
  ·exact h1
 obtain ⟨k,q,e⟩:=odd_part m.toNat h0
 have hlt:=m.isLt
 have hk:k<64:=by
  rcases Nat.lt_or_ge k 64 with hk|hk
  ·exact hk
  ·have h1:2 ^ 64<=2 ^ k:=Nat.pow_le_pow_right (by decide) hk
   have h2:2 ^ k*1<=2 ^ k*(2*q+1):=Nat.mul_le_mul_left _ (by omega)
   omega
 have hm:∀j,m.getLsbD j=(decide (k<=j)&&if j=k then true else q.testBit (j - k - 1)):=λj=>by
  rw [BitVec.getLsbD,e,bit_of]
 have hp:∀j,(m - 1#64).getLsbD j=if j<k then true else if j=k then false else q.testBit (j - k - 1):=λj=>by
  have e1:(m - 1#64).toNat=m.toNat - 1:=by rw [BitVec.toNat_sub];show (2 ^ 64 - 1+m.toNat) % 2 ^ 64=_;omega
  rw [BitVec.getLsbD,e1,e,bit_pred]
 have hn:∀j,j<64->(-m).getLsbD j = !(if j<k then true else if j=k then false else q.testBit (j - k - 1)):=λj hj=>by
  have e1:(-m).toNat=2 ^ 64 - ((m.toNat - 1)+1):=by rw [BitVec.toNat_neg];omega
  rw [BitVec.getLsbD,e1,Nat.testBit_two_pow_sub_succ (by omega),decide_eq_true hj,e,bit_pred];rfl
 refine ⟨k,hk,by rw [hm];simp,λj hj=>by rw [hm,decide_eq_false (by omega)];rfl,?_,λj=>?_⟩
 ·refine BitVec.eq_of_getLsbD_eq λj hj=>?_
  rw [BitVec.getLsbD_and,hm,hn j hj,BitVec.getLsbD_shiftLeft,decide_eq_true hj,BitVec.getLsbD_one]
  by_cases h1:j<k
  ·rw [if_pos h1,decide_eq_false (show ¬k<=j by omega),decide_eq_true h1];rfl
  ·rw [if_neg h1,decide_eq_true (show k<=j by omega),decide_eq_false h1]
   by_cases h2:j=k
   ·rw [if_pos h2,if_pos h2,decide_eq_true (show j - k=0 by omega)];rfl
   ·rw [if_neg h2,if_neg h2,decide_eq_false (show ¬j - k=0 by omega)]
    cases q.testBit (j - k - 1)<;>rfl
 ·rw [BitVec.getLsbD_and,hm,hp]
  by_cases h1:j<k
  ·rw [if_pos h1,decide_eq_false (show ¬k<=j by omega)];rfl
  ·rw [if_neg h1,decide_eq_true (show k<=j by omega)]
   by_cases h2:j=k
   ·rw [if_pos h2,if_pos h2,decide_eq_false (show ¬j≠k from λhc=>hc h2),Bool.and_false]
   ·rw [if_neg h2,if_neg h2,decide_eq_true h2]
    cases q.testBit (j - k - 1)<;>rfl
theorem tz_pow:∀k:Fin 64,tzTab.getD (((1#64 <<< k.val)*285870213051353865#64) >>> (58:Int).toNat).toNat 0=(k.val:Int):=by decide+kernel
theorem tzB_eq{m:BitVec 64}{k:Nat}(h:m≠0#64)(hk:k<64)(he:m &&& (-m)=1#64 <<< k):tzB m=(k:Int):=by
 unfold tzB tzIx
 rw [if_neg h,he]
 exact tz_pow ⟨k,hk⟩
def listN(m:BitVec 64):List Nat:=(List.range 64).filter λi=>m.getLsbD i
def eo(m:BitVec 64):List Int:=(listN m).map fun (i:Nat)=>(i:Int)
theorem listN_asc(m:BitVec 64):(listN m).Pairwise (· < ·):=(List.pairwise_lt_range).sublist List.filter_sublist
theorem mem_listN{m:BitVec 64}{i:Nat}:i∈listN m↔m.getLsbD i=true:=by
 unfold listN
 rw [List.mem_filter,List.mem_range]
 exact ⟨λh=>h.2,λh=>⟨BitVec.lt_of_getLsbD h,h⟩⟩
theorem natLin:LinO (α:=Nat) (· < ·):=⟨Nat.lt_irrefl,λ_ _ _=>Nat.lt_trans,Nat.lt_trichotomy⟩
theorem listN_zero:listN 0#64=[]:=by
 unfold listN
 exact List.filter_eq_nil_iff.2 λi _=>by simp
theorem listN_step{m:BitVec 64}(h:m≠0#64):∃k:Nat,k<64/\tzB m=(k:Int)/\m.getLsbD k=true/\listN m=k::listN (m &&& (m - 1#64)):=by
 obtain ⟨k,hk,hb,hl,he,hc⟩:=least_bit h
 refine ⟨k,hk,tzB_eq h hk he,hb,natLin.uniq (listN_asc m) (List.pairwise_cons.2 ⟨λj hj=>?_,listN_asc _⟩) λj=>?_⟩
 ·rw [mem_listN,hc,Bool.and_eq_true,decide_eq_true_eq] at hj
  rcases Nat.lt_trichotomy j k with h1|h1|h1
  ·rw [hl j h1] at hj;cases hj.1
  ·exact absurd h1 hj.2
  ·exact h1
 ·rw [List.mem_cons,mem_listN,mem_listN,hc,Bool.and_eq_true,decide_eq_true_eq]
  constructor
  ·intro h1
   by_cases h2:j=k
   ·exact .inl h2
   ·exact .inr ⟨h1,h2⟩
  ·rintro (rfl|⟨h1,_⟩)
   ·exact hb
   ·exact h1
theorem listB_zero:eo 0#64=[]:=by unfold eo;rw [listN_zero];rfl
theorem listB_step{m:BitVec 64}(h:m≠0#64):eo m=tzB m::eo (m &&& (m - 1#64)):=by
 obtain ⟨k,hk,ht,_,he⟩:=listN_step h
 unfold eo
 rw [he,ht];rfl
theorem tzB_range{m:BitVec 64}(h:m≠0#64):0<=tzB m/\tzB m<64/\m.getLsbD (tzB m).toNat=true:=by
 obtain ⟨k,hk,ht,hb,_⟩:=listN_step h
 rw [ht];exact ⟨by omega,by omega,by rw [Int.toNat_natCast];exact hb⟩
theorem listN_len(m:BitVec 64):(listN m).length<=64:=by
 unfold listN
 have:=List.length_filter_le (λi=>m.getLsbD i) (List.range 64)
 rwa [List.length_range] at this
theorem listB_len(m:BitVec 64):(eo m).length<=64:=by unfold eo;rw [List.length_map];exact listN_len m
theorem listB_less{m:BitVec 64}(h:m≠0#64):(eo (m &&& (m - 1#64))).length<(eo m).length:=by rw [listB_step h];exact Nat.lt_succ_self _
theorem mem_listB{m:BitVec 64}{x:Int}:x∈eo m↔0<=x/\m.getLsbD x.toNat=true:=by
 unfold eo
 rw [List.mem_map]
 constructor
 ·rintro ⟨i,hi,rfl⟩;exact ⟨by omega,by rw [Int.toNat_natCast];exact mem_listN.1 hi⟩
 ·rintro ⟨h1,h2⟩;exact ⟨x.toNat,mem_listN.2 h2,by omega⟩
theorem listB_asc(m:BitVec 64):(eo m).Pairwise (· < ·):=by
 unfold eo
 rw [List.pairwise_map]
 exact (listN_asc m).imp λh=>by omega
end Go.Sl
namespace Go.Sl
open Go.RowKit (Below)
section
variable {P:Program}{κ:Ctx}{N:Frm}{Q:Exit->Act->World->Prop}{L:Env}{I J:List Item}{ops:Array Oper}{rest:List Oper}
variable {d:Option Tmp}{ty:TypeId}{ps:String}{af:Array Edge}{gd:Option (Nat×Bool)}
variable {α:Type}[Enc α]{xs ys R:List α}
def Cmps(P:Program)(κ:Ctx)(I:List Item)(g:FuncId)(caps:List Value)(cf:α->α->Int):Prop:=callable P g=true/\∀(x y:α) (J:List Item),Fit κ J I->eu P κ g ([]++[.agg (Enc.enc x).toArray,.agg (Enc.enc y).toArray]++caps) J λr J'=>r=e7 (cf x y)/\J=J'
structure BFound [Inhabited α] (cf:α->α->Int) (xs:List α) (x:α) (i:Nat) (b:Bool):Prop where
 le:i<=xs.length
 low:0<i->cf (e_ xs ((i:Int) - 1)) x<0
 high:i<xs.length->¬cf (e_ xs i) x<0
 is:b=decide (i<xs.length/\cf (e_ xs i) x=0)
end
end Go.Sl
namespace Go.Sl
section
variable {l:List Pt}{n:Nat}
theorem asc_at{i j:Nat}(h:AscP l)(hij:i<j)(hj:j<l.length):Pt.lt (e_ l i) (e_ l j):=(pairwise_at l).1 h i j hij hj
end
end Go.Sl
namespace Go.Sl
end Go.Sl
namespace Go.Sl
def cmpI(a b:Int):Int:=if a<b then -1 else if b<a then 1 else 0
def orL:List Int->Int
 |[]=>0
 |x::xs=>if x≠0 then x else orL xs
theorem orL_stop{xs:List Int}{k:Nat}(hk:k<xs.length)(h:e_ xs k≠0):orL (xs.drop k)=e_ xs k:=by
 rw [drop_at xs k hk];simp only [orL];rw [if_pos h]
theorem orL_step{xs:List Int}{k:Nat}(hk:k<xs.length)(h:e_ xs k=0):orL (xs.drop k)=orL (xs.drop (k+1)):=by
 rw [drop_at xs k hk];simp only [orL];rw [if_neg (by simp [h])]
theorem orL_end{xs:List Int}{k:Nat}(hk:xs.length<=k):orL (xs.drop k)=0:=by rw [List.drop_eq_nil_of_le hk];rfl
theorem orL_cmp(a b:Pt):orL [cmpI a.u b.u,cmpI a.v b.v]=Pt.cmp a b:=by
 simp only [orL,cmpI,Pt.cmp]
 split<;>(try split at *)<;>(try split at *)<;>(try split at *)<;>(try split at *)<;>(try split at *)<;>omega
end Go.Sl
namespace Go.Sl
structure GrOk (nodes:Int) (es:List Pt):Prop where
 rng:0<=nodes/\nodes<=64
 asc:AscP es
 edge:∀e∈es,0<=e.u/\e.u<e.v/\e.v<nodes
def badE(nodes:Int)(e:Pt):Int:=if e.u<0\/e.v<=e.u\/nodes<=e.v then 6 else 0
def checkG(nodes:Int)(es:List Pt):Int:=if nodes<0\/64<nodes then 1 else scanL (badE nodes) Pt.lt none es
theorem badE_zero{nodes:Int}{e:Pt}:badE nodes e=0↔0<=e.u/\e.u<e.v/\e.v<nodes:=by
 unfold badE;split<;>omega
theorem checkG_ok{nodes:Int}{es:List Pt}:checkG nodes es=0↔GrOk nodes es:=by
 unfold checkG
 split
 ·rename_i h
  exact ⟨λe=>by omega,λe=>by have:=e.rng;omega⟩
 ·rename_i h
  rw [scanL_zero Pt.lin]
  constructor
  ·rintro ⟨h1,h2⟩;exact ⟨by omega,h2,λe he=>badE_zero.1 (h1 e he)⟩
  ·intro h1;exact ⟨λe he=>badE_zero.2 (h1.edge e he),h1.asc⟩
variable {nodes:Int}{es:List Pt}
theorem GrOk.at(h:GrOk nodes es){k:Nat}(hk:k<es.length):0<=(e_ es k).u/\(e_ es k).u<(e_ es k).v/\(e_ es k).v<nodes:=h.edge _ (at_mem (by omega) (by omega))
theorem flt_yes{l:List Pt}{P:Pt->Bool}{k:Nat}(hk:k<l.length)(h:P (e_ l k)=true):(l.take (k+1)).filter P=(l.take k).filter P++[e_ l k]:=by
 rw [take_at l k hk,List.filter_append];simp [h]
theorem flt_no{l:List Pt}{P:Pt->Bool}{k:Nat}(hk:k<l.length)(h:P (e_ l k)=false):(l.take (k+1)).filter P=(l.take k).filter P:=by
 rw [take_at l k hk,List.filter_append];simp [h]
theorem asc_nodup{l:List Pt}(h:AscP l):l.Nodup:=h.imp fun {a b} h e=>Pt.lin.ne h e
end Go.Sl
namespace Go.Sl
def edgeP(u v:Int):Pt:=⟨if v<u then v else u,if u<v then v else u⟩
theorem Pt.cmp_zero(a b:Pt):Pt.cmp a b=0↔a=b:=by
 rw [Pt.ext_iff']
 unfold Pt.cmp
 split<;>(try split)<;>(try split)<;>(try split)<;>omega
section
variable {es:List Pt}{e:Pt}{i:Nat}{q:Bool}
theorem BFound.below(h:BFound Pt.cmp es e i q)(ha:AscP es):∀j,j<i->Pt.lt (e_ es j) e:=λj hj=>by
 have h1:=(Pt.cmp_lt _ _).1 (h.low (by omega))
 rw [show (i:Int) - 1=((i - 1:Nat):Int) by omega] at h1
 by_cases hq:j=i - 1
 ·rw [hq];exact h1
 ·exact Pt.lin.tr _ _ _ (asc_at ha (i:=j) (j:=i - 1) (by omega) (by have:=h.le;omega)) h1
theorem BFound.mem(h:BFound Pt.cmp es e i q)(ha:AscP es):(i<es.length/\e_ es i=e)↔e∈es:=by
 constructor
 ·rintro ⟨h1,h2⟩;rw [←h2];exact at_mem (by omega) (by omega)
 ·intro hm
  obtain ⟨j,hj,he⟩:=mem_at hm
  have h1:¬j<i:=λhlt=>by have:=h.below ha j hlt;rw [he] at this;exact Pt.lin.irr _ this
  have h2:i<es.length:=by omega
  refine ⟨h2,?_⟩
  by_cases hq:j=i
  ·rw [←hq];exact he
  ·have h3:=h.high h2
   rw [Pt.cmp_lt] at h3
   have h4:=asc_at ha (i:=i) (j:=j) (by omega) hj
   rw [he] at h4
   exact absurd h4 h3
end
end Go.Sl
namespace Go.Sl
set_option maxRecDepth 10000
instance:Enc (BitVec 64):=⟨λb=>[U64 b],1,by omega,λ_=>rfl,λ_ u h=>by simp at h;subst h;rfl⟩
def addRow(rows:List (BitVec 64))(e:Pt):List (BitVec 64):=
 if 0<=e.u/\e.u<e.v/\e.v<rows.length then
  (rows.set e.u.toNat (e_ rows e.u ||| 1#64 <<< e.v.toNat)).set e.v.toNat (e_ (rows.set e.u.toNat (e_ rows e.u ||| 1#64 <<< e.v.toNat)) e.v ||| 1#64 <<< e.u.toNat)
 else rows
def rows0(nd:Int):List (BitVec 64):=List.replicate (min (max nd 0) 64).toNat 0#64
def ek(nd:Int)(es:List Pt):List (BitVec 64):=es.foldl addRow (rows0 nd)
theorem addRow_len(rows:List (BitVec 64))(e:Pt):(addRow rows e).length=rows.length:=by
 unfold addRow;split<;>simp
theorem rowsB_take{nd:Int}{es:List Pt}{k:Nat}(h:k<es.length):ek nd (es.take (k+1))=addRow (ek nd (es.take k)) (e_ es k):=by
 unfold ek;rw [take_at es k h,List.foldl_append];rfl
theorem rowsB_len(nd:Int)(es:List Pt):(ek nd es).length=(min (max nd 0) 64).toNat:=by
 unfold ek
 have:∀(es:List Pt) (r:List (BitVec 64)),(es.foldl addRow r).length=r.length:=λes=>by
  induction es with
  |nil=>intro r;rfl
  |cons e es ih=>intro r;rw [List.foldl_cons,ih,addRow_len]
 rw [this];simp [rows0]
theorem at_rep64(n:Nat)(i:Int):e_ (List.replicate n (0#64)) i=0#64:=by
 unfold e_
 rw [List.getD_eq_getElem?_getD,List.getElem?_replicate]
 split<;>rfl
structure RowsOk (nd:Int) (es:List Pt) (rows:List (BitVec 64)):Prop where
 len:(rows.length:Int)=nd
 bit:∀v w:Int,0<=v->v<nd->0<=w->w<64->((e_ rows v).getLsbD w.toNat=decide ((⟨v,w⟩:Pt)∈es\/(⟨w,v⟩:Pt)∈es))
theorem RowsOk.start{nd:Int}(h:0<=nd/\nd<=64):RowsOk nd [] (rows0 nd):=
 ⟨by unfold rows0;simp;omega,λv w _ _ _ _=>by unfold rows0;rw [at_rep64];simp⟩
theorem addRow_at{rows:List (BitVec 64)}{e:Pt}(h:0<=e.u/\e.u<e.v/\e.v<rows.length)(j:Int)(h0:0<=j)(h1:j<rows.length) :
  e_ (addRow rows e) j=if e.v=j then e_ rows e.v ||| 1#64 <<< e.u.toNat else if e.u=j then e_ rows e.u ||| 1#64 <<< e.v.toNat else e_ rows j:=by
 unfold addRow
 rw [if_pos h,at_set _ e.v j _ (by omega) h0 (by rw [List.length_set];omega)]
 by_cases hv:e.v=j
 ·rw [if_pos hv,if_pos hv,at_set _ e.u e.v _ (by omega) (by omega) (by omega),if_neg (by omega)]
 ·rw [if_neg hv,if_neg hv,at_set _ e.u j _ (by omega) h0 (by omega)]
theorem getLsb_shl(a i:Nat)(hi:i<64):(1#64 <<< a).getLsbD i=decide (a=i):=by
 show (BitVec.twoPow 64 a).getLsbD i=_
 rw [BitVec.getLsbD_twoPow]
 by_cases h:a=i
 ·subst h;simp [hi]
 ·simp [h]
theorem RowsOk.push{nd:Int}{es:List Pt}{rows:List (BitVec 64)}{e:Pt}(h:RowsOk nd es rows)(he:0<=e.u/\e.u<e.v/\e.v<nd)(hn:nd<=64):RowsOk nd (es++[e]) (addRow rows e):=by
 have hl:=h.len
 refine ⟨by rw [addRow_len];exact hl,λv w v0 v1 w0 w1=>?_⟩
 rw [addRow_at (by omega) v v0 (by omega)]
 have hb:=h.bit v w v0 v1 w0 w1
 have hext:∀a b:Int,((⟨a,b⟩:Pt)=e)↔(a=e.u/\b=e.v):=λa b=>by rw [Pt.ext_iff']
 simp only [List.mem_append,List.mem_singleton,hext]
 by_cases hv:e.v=v
 ·rw [if_pos hv,BitVec.getLsbD_or,getLsb_shl _ _ (by omega),hv,hb]
  have e1:(e.u.toNat=w.toNat)↔(w=e.u/\v=e.v):=by omega
  have e2:¬(v=e.u/\w=e.v):=by omega
  rw [decide_eq_decide.2 e1]
  rw [←Bool.decide_or,decide_eq_decide]
  constructor
  ·rintro ((a|b)|c)
   ·exact .inl (.inl a)
   ·exact .inr (.inl b)
   ·exact .inr (.inr ⟨c.1,rfl⟩)
  ·rintro ((a|c)|(b|c))
   ·exact .inl (.inl a)
   ·exact absurd c (λc=>by omega)
   ·exact .inl (.inr b)
   ·exact .inr ⟨c.1,hv.symm⟩
 ·rw [if_neg hv]
  by_cases hu:e.u=v
  ·rw [if_pos hu,BitVec.getLsbD_or,getLsb_shl _ _ (by omega),hu,hb]
   have e1:(e.v.toNat=w.toNat)↔(v=e.u/\w=e.v):=by omega
   have e2:¬(w=e.u/\v=e.v):=by omega
   rw [decide_eq_decide.2 e1]
   rw [←Bool.decide_or,decide_eq_decide]
   constructor
   ·rintro ((a|b)|c)
    ·exact .inl (.inl a)
    ·exact .inr (.inl b)
    ·exact .inl (.inr ⟨rfl,c.2⟩)
   ·rintro ((a|c)|(b|c))
    ·exact .inl (.inl a)
    ·exact .inr ⟨hu.symm,c.2⟩
    ·exact .inl (.inr b)
    ·exact absurd c (λc=>by omega)
  ·rw [if_neg hu,hb]
   have e1:¬(v=e.u/\w=e.v):=by omega
   have e2:¬(w=e.u/\v=e.v):=by omega
   simp [e1,e2]
theorem rowsB_ok{nd:Int}{es:List Pt}(h:GrOk nd es):∀k,k<=es.length->RowsOk nd (es.take k) (ek nd (es.take k))
 |0,_=>by simpa [ek] using RowsOk.start h.rng
 |k+1,hk=>by
  rw [rowsB_take (by omega),take_at es k (by omega)]
  exact (rowsB_ok h k (by omega)).push (h.at (by omega)) h.rng.2
theorem GrOk.rows{nd:Int}{es:List Pt}(h:GrOk nd es):RowsOk nd es (ek nd es):=by
 have:=rowsB_ok h es.length (Nat.le_refl _)
 rwa [List.take_length] at this
end Go.Sl
