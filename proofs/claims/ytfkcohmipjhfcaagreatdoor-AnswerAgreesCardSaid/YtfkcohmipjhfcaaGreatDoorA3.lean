/- A part of the proofs of statements of this seat: contracts of functions, and the plain laws that they lean on. No conditions. -/
import Derived.Test.YtfkcohmipjhfcaaGreatDoorA2
import Derived.Lib.Overlaps
import Derived.Lib.AppendZerosOnto
import Derived.Lib.SliceRun
import Derived.MapKept
import Derived.RangeFuncRecord
import Derived.RangeFuncCalls
import Derived.TacticsIn
set_option linter.unusedVariables false
set_option linter.unusedSimpArgs false
set_option linter.unusedSectionVars false
namespace Go.Sl
open Go.RowKit (Below)
section
variable {P:Program}{κ:Ctx}{N:Frm}{Q:Exit→Act→World→Prop}{L:Env}{I J:List Item}{ops:Array Oper}{rest:List Oper}
variable {d:Option Tmp}{ty:TypeId}{ps:String}{af:Array Edge}{gd:Option (Nat×Bool)}
theorem run_firstCells_pre{w:World}{sz:Nat}{v:Value}{m q:Nat}{ds:List Value}(h:slOk w sz v m ds)(hq:q≤m):(Builtin.firstCells sz q v).run P w = .ok (ds.take (q*sz)).toArray w:=by
 obtain ⟨a,cap,rfl,h1,h2,h3,h4⟩:=h
 have hmul:q*sz≤m*sz:=Nat.mul_le_mul_right _ hq
 by_cases hc:0<cap
 ·obtain ⟨b,off,rfl,hr⟩:=h4 hc
  exact run_firstCells_some w sz q _ m cap _ (by rw [List.length_take];omega) fun j u hj=>by
   rw [addr_add]
   rw [List.getElem?_take] at hj
   split at hj
   ·exact hr j u hj
   ·cases hj
 ·obtain rfl:m=0:=by omega
  obtain rfl:q=0:=by omega
  cases a with
  |none=>simp [Builtin.firstCells]
  |some a=>rw [run_firstCells_some w sz 0 a 0 cap [] (by simp) (by simp)];simp
theorem vec_put{w:World}{e:TypeId}{sz n c b off:Nat}{cs vs:List Value}{cur:Array Value}{k:Nat}(hl:cs.length=n*sz)(hnc:n≤c)(hcm:c≤maxLen)(hb:w.heap[b]? = some (.cells cur e (0,0)))
  (hsize:off+c*sz≤cur.size) (hcur:∀j u,cs[j]? = some u→cur[off+j]? = some u) (hk:k+vs.length≤cs.length) :
  vecOk (w.setRow b (cur.toList.take (off+k)++vs++cur.toList.drop (off+k+vs.length)).toArray) e sz (.slice (some ⟨b,off,none⟩) n c) n (cs.take k++vs++cs.drop (k+vs.length)):=by
 have hmul:n*sz≤c*sz:=Nat.mul_le_mul_right _ hnc
 refine ⟨_,c,rfl,by simp only [List.length_append,List.length_take,List.length_drop];omega,hnc,hcm,fun hc=>⟨b,off,_,rfl,setRow_heap w b cur _ e _ hb,?_,fun j u' hj=>?_⟩⟩
 ·simp only [List.size_toArray,List.length_append,List.length_take,List.length_drop,Array.length_toList];omega
 ·have hjl:j<cs.length:=by have:=(List.getElem?_eq_some_iff.1 hj).1;simp only [List.length_append,List.length_take,List.length_drop] at this;omega
  have hA:(cur.toList.take (off+k)).length=off+k:=by simp only [List.length_take,Array.length_toList];omega
  have hB:(cs.take k).length=k:=by simp only [List.length_take];omega
  simp only [List.getElem?_toArray]
  rw [List.append_assoc] at hj
  rw [List.append_assoc]
  by_cases hjk:j<k
  ·rw [List.getElem?_append_left (by omega),List.getElem?_take,if_pos hjk] at hj
   rw [List.getElem?_append_left (by omega),List.getElem?_take,if_pos (by omega)]
   simpa using hcur j u' hj
  ·rw [List.getElem?_append_right (by omega),hB] at hj
   rw [List.getElem?_append_right (by omega),hA,show off+j - (off+k)=j - k from by omega]
   by_cases hjv:j - k<vs.length
   ·rw [List.getElem?_append_left hjv] at hj
    rw [List.getElem?_append_left hjv]
    exact hj
   ·rw [List.getElem?_append_right (by omega),List.getElem?_drop,show k+vs.length+(j - k - vs.length)=j from by omega] at hj
    rw [List.getElem?_append_right (by omega),List.getElem?_drop,show off+k+vs.length+(j - k - vs.length)=off+j from by omega]
    simpa using hcur j u' hj
theorem Eff.copyR{x y:Operand}{t t' e sz by' n n' m k q c dd:Nat}{ag:Bool}{z cs ds:List Value}{ad:Option Addr}{u:Value}{I':List Item}(ht:P.underlying t=some (.slice e))(hT:tyF P e=some (sz,ag,by',z))
  (hx:evalO L x=some (.slice (adrop ad c k sz) n' (c - k))) (hn':n'=n - k) (hy:evalO L y=some u) (hu:SlRd κ I sz u m ds) (hk:k≤n) (hq:q=min m (n - k)) (h1:∀w∈ds.take (q*sz),w.oneCell'=true) (hN:Nat.blt dd N.n=true)
  (hat:At I (vec e sz (.slice ad n c) n cs) (vec e sz (.slice ad n c) n (cs.take (k*sz)++ds.take (q*sz)++cs.drop (k*sz+q*sz))) I') :
  Eff P κ N Q ⟨some dd,.call {callee:= .builtin .copy,args:= #[x,y],argTypes:= #[t,t']},ty,ps,af,gd⟩ L I fun L' I''=>L'=(dd,I64 q)::L∧I''=I':=
 Eff.of_value rfl hN fun a w ha hs=>by
  subst hn'
  obtain ⟨a',cap',hv,hl,hnc,hcm,hcap⟩:=(hs.ok _ hat.mem).1
  cases hv
  have hrd:=hu w hs
  have hlen:=run_lenOf_sl (P:=P) hrd
  have hml:m*sz≤ds.length:=by obtain ⟨_,_,_,h,_⟩:=hrd;omega
  have hql:q*sz≤m*sz:=Nat.mul_le_mul_right _ (by omega)
  have hfc:=run_firstCells_pre (P:=P) hrd (show q≤m by omega)
  have hmin:m.min (n - k)=q:=hq.symm
  have hdl:(ds.take (q*sz)).length=q*sz:=by rw [List.length_take];omega
  have hq1:q*sz+k*sz≤n*sz:=by rw [←Nat.add_mul];exact Nat.mul_le_mul_right _ (by omega)
  by_cases hq0:q=0
  ·subst hq0
   refine ⟨I64 0,w,I',?_,⟨rfl,rfl⟩,?_⟩
   ·cases had:adrop ad c k sz with
    |none=>simp [execOp,resolve,invoke,builtin,ha.eval hx,ha.eval hy,Builtin.copy_,run_underlying ht,hlen,run_sizeOf hT,hmin,hfc,had,goInt]
    |some aa=>simp [execOp,resolve,invoke,builtin,ha.eval hx,ha.eval hy,Builtin.copy_,run_underlying ht,hlen,run_sizeOf hT,hmin,hfc,had,goInt,storeCells]
   ·refine Fit.upd hat (fun w hw=>?_) w hs
    have e:cs.take (k*sz)++ds.take (0*sz)++cs.drop (k*sz+0*sz)=cs:=by simp
    rw [e]
    exact ⟨hw,fun _ h=>h⟩
  ·obtain ⟨b,off,cur,rfl,hb,hsize,hcur⟩:=hcap (by omega)
   have hcs:=run_storeCells_at P b (off+k*sz) e (ds.take (q*sz)) 0 cur w hb (by
    have:=Nat.mul_le_mul_right sz hnc
    simp only [Nat.add_zero];omega) h1
   simp only [Nat.add_zero] at hcs
   have had:adrop (some ⟨b,off,none⟩) c k sz=some ⟨b,off+k*sz,none⟩:=by unfold adrop;rw [if_neg (by omega)];simp [addr_add]
   refine ⟨I64 q,_,I',by simp only [execOp,resolve,invoke,builtin,List.map_toArray,List.map_cons,List.map_nil,ha.eval hx,ha.eval hy];simp [Builtin.copy_,run_underlying ht,hlen,run_sizeOf hT,hmin,hfc,had,goInt];rw [hcs];simp only [Result.andThen_ok];rfl,⟨rfl,rfl⟩,?_⟩
   refine hs.upd hat rfl ⟨rfl,Nat.le_refl _⟩ rfl (by simp) (fun k' _ hne=>setRow_other w b k' _ fun e=>hne (by subst e;exact ⟨off,n,c,rfl,by omega⟩)) ?_ fun k' hk'=> .inl ?_
   ·have:=vec_put (k:=k*sz) (vs:=ds.take (q*sz)) hl hnc hcm hb hsize hcur (by rw [hdl];omega)
    rw [hdl] at this
    rw [hdl]
    exact this
   ·exact hk'
theorem vec.room{e:TypeId}{sz n c h:Nat}{ad:Option Addr}{cs:List Value}(hh:n≤h)(hc:h≤c):∀w,(vec e sz (.slice ad n c) n cs).ok w→∃js:List Value,js.length=(h - n)*sz∧(vec e sz (.slice ad h c) h (cs++js)).ok w:=by
 intro w hw
 obtain ⟨a',cap',hv,hl,hnc,hcm,hcap⟩:=hw
 cases hv
 by_cases hc0:0<c
 ·obtain ⟨b,off,cur,rfl,hb,hsize,hcur⟩:=hcap hc0
  have hmul:h*sz≤c*sz:=Nat.mul_le_mul_right _ hc
  have hmul2:n*sz+(h - n)*sz=h*sz:=by rw [←Nat.add_mul];congr 1;omega
  refine ⟨(cur.toList.drop (off+n*sz)).take ((h - n)*sz),by simp only [List.length_take,List.length_drop,Array.length_toList];omega,_,c,rfl,by simp only [List.length_append,List.length_take,List.length_drop,Array.length_toList];omega,hc,hcm,fun _=>⟨b,off,cur,rfl,hb,hsize,fun j u hj=>?_⟩⟩
  by_cases hjn:j<cs.length
  ·rw [List.getElem?_append_left hjn] at hj;exact hcur j u hj
  ·rw [List.getElem?_append_right (by omega),List.getElem?_take] at hj
   split at hj
   ·rw [List.getElem?_drop,show off+n*sz+(j - cs.length)=off+j from by omega] at hj
    simpa using hj
   ·cases hj
 ·obtain rfl:h=0:=by omega
  obtain rfl:n=0:=by omega
  exact ⟨[],by simp,_,c,rfl,by simpa using hl,by omega,hcm,fun h=>absurd h hc0⟩
theorem Eff.grow{α:Type}[Enc α][Inhabited α]{xs:List α}{x y:Operand}{t u e by' i k c dd:Nat}{m:Int}{ag:Bool}{z:List Value}{ad:Option Addr}(ht:P.underlying t=some (.slice e))(hu:P.underlying u=some (.int .i64))(hT:tyF P e=some (Enc.sz α,ag,by',z))(hz:z=Enc.enc (default:α))
  (hx:evalO L x=some (.slice ad i c)) (hy:evalO L y=some (I64 m)) (hm:m=(k:Int)) (hv:Sl κ I (.slice ad xs.length c) xs) (hi:i≤xs.length) (hk:0<k) (hg:c<i+k) (hby:(i+k)*by'≤140737488355328) (hby0:0<by') (hN:Nat.blt dd N.n=true) :
  Eff P κ N Q ⟨some dd,.call {callee:= .builtin .append,args:= #[x,y],argTypes:= #[t,u]},ty,ps,af,gd⟩ L I fun L' I''=>∃ad' c',L'=(dd,.slice ad' (i+k) c')::L∧I''=vc e (.slice ad' (i+k) c') (xs.take i++List.replicate k (default:α))::I:=
 Eff.of_value rfl hN fun a w ha hs=>by
  subst hm
  obtain ⟨i0,zv,d0,hi0,hz0,hd0,hsz,hag,hbt,hzc⟩:=tyF_spec hT
  have hpos:=Enc.pos (α:=α)
  have h63:i+k≤maxLen:=by
   have:=Nat.le_mul_of_pos_right (i+k) hby0
   simp only [maxLen];omega
  have hrd:=(Sl.take hv hi) w.drew (hs.drew)
  have hlt:(xs.take i).length=i:=by rw [List.length_take];omega
  rw [hlt] at hrd
  have hold:=run_firstCells_pre (P:=P) hrd (Nat.le_refl i)
  have hcl:(cells (xs.take i)).length=i*Enc.sz α:=by rw [cells_length,hlt]
  rw [List.take_of_length_le (by omega)] at hold
  have hrun:=Go.Lib.run_append_grow_zeros (P:=P) w t u ty e i0 zv .i64 .i64 ht hu hi0 hz0 ad i c (cells (xs.take i)) (by rw [hsz];exact hold) k hk (by omega) hg (by simp only [maxLen] at h63;omega)
   (by rw [hbt];rw [Nat.add_mul] at hby;omega) (growslice_fits hg (by rw [hbt];exact hby))
  have hge:=grownCap_ge w (i+k) c e
  have hgm:=grownCap_le_maxLen w (i+k) c e h63
  have hzs:zv.cells.size=Enc.sz α:=by rw [hzc,hz,List.size_toArray,Enc.len]
  have hcells:(Builtin.zeroCells zv.cells k).toList=cells (List.replicate k (default:α)):=by
   rw [←rep_cells,←hz]
   apply List.ext_getElem?
   intro j
   simp only [Builtin.zeroCells,Array.toList_map,Array.toList_range,List.getElem?_map,hzs]
   by_cases hj:j<k*Enc.sz α
   ·rw [List.getElem?_range hj]
    have hjm:j % Enc.sz α<z.length:=by rw [hz,Enc.len];exact Nat.mod_lt _ hpos
    rw [flatten_rep z k j (by omega) (by rw [hz,Enc.len];exact hj),show z.length=Enc.sz α from by rw [hz,Enc.len],hzc]
    simp [hjm]
   ·rw [List.getElem?_eq_none (by simpa using hj),List.getElem?_eq_none (by rw [len_rep,hz,Enc.len];omega)]
    rfl
  refine ⟨.slice (some ⟨w.heap.size,0,none⟩) (i+k) (grownCap w (i+k) c e),w.drew.alloc (.cells ((cells (xs.take i)).toArray++Builtin.zeroCells zv.cells k++Builtin.zeroCells zv.cells (grownCap w (i+k) c e - (i+k))) e),_,by simp only [execOp,resolve,invoke,builtin,List.map_toArray,List.map_cons,List.map_nil,ha.eval hx,ha.eval hy];simp [hrun],⟨_,_,rfl,rfl⟩,?_⟩
  have hxl:(xs.take i++List.replicate k (default:α)).length=i+k:=by rw [List.length_append,hlt,List.length_replicate]
  refine hs.drew.new (hs.drew.alloc _) ?_ fun j hj=>?_
  ·show vecOk _ e _ _ _ _
   rw [hxl]
   refine ⟨_,_,rfl,by rw [cells_length,hxl],hge,hgm,fun _=>⟨w.heap.size,0,_,rfl,heap_alloc_new w.drew _,?_,fun j u hj=>?_⟩⟩
   ·simp only [Array.size_append,List.size_toArray,size_zeroCells,hzs,hcl,←Nat.add_mul,Nat.zero_add]
    rw [Nat.add_sub_cancel' hge]
    exact Nat.le_refl _
   ·rw [Nat.zero_add,Array.getElem?_append_left (by
     have:=(List.getElem?_eq_some_iff.1 hj).1
     rw [cells_length,hxl] at this
     simp only [Array.size_append,List.size_toArray,size_zeroCells,hzs,hcl,←Nat.add_mul];exact this)]
    rw [cells_append,←hcells] at hj
    have e1:(cells (xs.take i)).toArray++Builtin.zeroCells zv.cells k=(cells (xs.take i)++(Builtin.zeroCells zv.cells k).toList).toArray:=by
     apply Array.ext';simp
    rw [e1,List.getElem?_toArray];exact hj
  ·obtain ⟨o,n',c',he,hc'⟩:=hj
   cases he
   exact ⟨Nat.le_refl _,by simp⟩
theorem Eff.overlaps{f t tb e sz by' n m k k' c c' dd:Nat}{ag:Bool}{z cs ds:List Value}{x y:Operand}{tys:Array TypeId}{ad ad':Option Addr}{e' sz':Nat}{K:List Item}
  (hov:∀args w,(callFunc f args).run P w=((Extern.SlicesOverlaps.overlaps #[t,t] #[tb] args).run P w).andThen fun v w'=> .ok (.value v) w') (ht:P.underlying t=some (.slice e)) (hT:tyF P e=some (sz,ag,by',z))
  (hx:evalO L x=some (.slice ad m c)) (hy:evalO L y=some (.slice (adrop ad' c' k sz) k' (c' - k))) (hkc:k≤c') (h0:0<m) (h0':0<n) (hfit:Fit κ I (vec e sz (.slice ad m c) m cs::vec e' sz' (.slice ad' n c') n ds::K)) (hss:0<c'*sz') (hN:Nat.blt dd N.n=true) :
  Eff P κ N Q ⟨some dd,.call {callee:= .value (.func f),args:= #[x,y],argTypes:=tys},ty,ps,af,gd⟩ L I fun L' I''=>L'=(dd,.bool false)::L∧I''=I:=
 Eff.of_value rfl hN fun a w ha hs=>by
  have hs2:=hfit w hs
  obtain ⟨_,_,hv,_,hmc,_,hcap⟩:=(hs2.ok _ List.mem_cons_self).1
  cases hv
  obtain ⟨_,_,hv',_,hnc',_,hcap'⟩:=(hs2.ok _ (List.mem_cons_of_mem _ List.mem_cons_self)).1
  cases hv'
  obtain ⟨b,off,cur,rfl,hb,hsize,_⟩:=hcap (by omega)
  obtain ⟨b',off',cur',rfl,hb',hsize',_⟩:=hcap' (by omega)
  have hap:Item.apart _ _:=(List.pairwise_cons.1 hs2.pw).1 _ List.mem_cons_self
  have hne:b≠b':=fun e=>by
   subst e
   exact hap b ⟨off,m,c,rfl,by omega⟩ ⟨off',n,c',rfl,by omega⟩
  have had:∃o,adrop (some ⟨b',off',none⟩) c' k sz=some ⟨b',o,none⟩:=by
   unfold adrop;split
   ·exact ⟨_,rfl⟩
   ·exact ⟨_,by simp [addr_add];rfl⟩
  obtain ⟨o,ho⟩:=had
  rw [ho] at hy
  have hrun:=Go.Lib.run_overlaps_apart w t tb e ht sz (fun w=>run_sizeOf hT w) ⟨b,off,none⟩ ⟨b',o,none⟩ m c k' (c' - k) hne e e' cur.size cur'.size (by simp [World.shape?,hb]) (by simp [World.shape?,hb']) (by omega) (by simp [World.frozen?,hb]) (by simp [World.frozen?,hb])
  refine ⟨.bool false,w,I,?_,⟨rfl,rfl⟩,hs⟩
  have e1:a.eval (.func f) = .func (.func f) #[] #[]:=rfl
  simp only [execOp,resolve,e1,Deferred.ofValue,invoke,Sem.run_bind,Sem.run_pure,Result.andThen_ok,List.map_toArray,List.map_cons,List.map_nil,ha.eval hx,ha.eval hy]
  simp only [Array.empty_append,Array.append_empty,hov,hrun,Result.andThen_ok]
theorem Runs.eqnil{x y:Operand}{T E U n c:Nat}{ad:Option Addr}(ht:P.underlying T=some (.slice E))(hx:evalO L x=some (.slice ad n c))(hy:evalO L y=some (.slice none 0 0)) :
  Runs P κ N ⟨d,.binOp .eql T x y U,ty,ps,af,gd⟩ L J (.bool ad.isNone):=fun a w ha _=>by
 have hg:(eqGuard .eql T x y (.slice ad n c) (.slice none 0 0)).run P w = .ok () w:=by simp [eqGuard]
 have h:=Go.Lib.run_eql_slice_nil (P:=P) w T E ad n c 0 0 ht
 simp only [execOp,ha.eval hx,ha.eval hy]
 simp [hg,h]
theorem Eff.bs0{α:Type}[Enc α]{t e by' dd:Nat}{ag:Bool}{z:List Value}(ht:P.underlying t=some (.slice e))(hT:tyF P e=some (Enc.sz α,ag,by',z))(hN:Nat.blt dd N.n=true) :
  Eff P κ N Q ⟨some dd,.buildSlice t 0 #[],ty,ps,af,gd⟩ L I fun L' I''=>∃ad,L'=(dd,.slice ad 0 0)::L∧I''=vc e (.slice ad 0 0) ([]:List α)::I:=
 Eff.of_value rfl hN fun a w ha hs=>by
  refine ⟨.slice (some ⟨w.heap.size,0,none⟩) 0 0,w.alloc (.cells #[] e),_,by simp [execOp,Instr.buildSlice,run_underlying ht,run_sizeOf hT,Instr.fill,newRow,Array.range_zero'],⟨_,rfl,rfl⟩,?_⟩
  exact hs.new (hs.alloc _) ⟨_,0,rfl,by simp [cells],Nat.le_refl _,by simp,fun h=>absurd h (by decide)⟩ fun k hk=>by
   obtain ⟨o,n',c',he,hc'⟩:=hk
   cases he
   omega
theorem Sl.isNone{α:Type}[Enc α]{xs:List α}{ad:Option Addr}{c:Nat}(h:Sl κ I (.slice ad xs.length c) xs):∀w,Sep κ w I→ad.isNone=true→xs=[]∧c=0:=fun w hs hn=>by
 obtain ⟨a,cap,he,h1,h2,h3,h4⟩:=h w hs
 cases he
 by_cases hc:0<c
 ·obtain ⟨b,off,rfl,_⟩:=h4 hc;cases hn
 ·exact ⟨List.eq_nil_of_length_eq_zero (by omega),by omega⟩
end
end Go.Sl
namespace Go.Sl
section
variable {β:Type}{xs ys js:List β}{i m n r:Nat}{d:β}
theorem take_app{a b:List β}{k:Nat}(h:a.length=k):(a++b).take k=a:=by subst h;simp
theorem drop_app{a b:List β}{k:Nat}(h:a.length=k):(a++b).drop k=b:=by subst h;simp
theorem ins1(hi:i≤xs.length):(xs.take i++List.replicate (xs.length+ys.length - i) d).take i++ys.take ys.length++(xs.take i++List.replicate (xs.length+ys.length - i) d).drop (i+ys.length)=xs.take i++ys++List.replicate (xs.length - i) d:=by
 have hl:(xs.take i).length=i:=by rw [List.length_take];omega
 rw [take_app hl,List.take_length,←List.drop_drop,drop_app hl,List.drop_replicate,show xs.length+ys.length - i - ys.length=xs.length - i by omega]
theorem ins2(hi:i≤xs.length):(xs.take i++ys++List.replicate (xs.length - i) d).take (i+ys.length)++(xs.drop i).take (xs.length - i)++(xs.take i++ys++List.replicate (xs.length - i) d).drop (i+ys.length+(xs.length - i))=xs.take i++ys++xs.drop i:=by
 have hl:(xs.take i++ys).length=i+ys.length:=by rw [List.length_append,List.length_take];omega
 have e1:(xs.drop i).take (xs.length - i)=xs.drop i:=List.take_of_length_le (by rw [List.length_drop];omega)
 have e2:(xs.take i++ys++List.replicate (xs.length - i) d).drop (i+ys.length+(xs.length - i))=[]:=List.drop_eq_nil_of_le (by simp only [List.length_append,List.length_take,List.length_replicate];omega)
 rw [take_app hl,e1,e2,List.append_nil]
theorem ins3{cs:List β}(hn:cs.length=n)(hj:js.length=m)(hy:ys.length=m)(hi:i≤n) :
  let A:=(cs++js).take (i+m)++((cs++js).drop i).take (n - i)++(cs++js).drop (i+m+(n - i))
  A.take i++ys.take m++A.drop (i+m)=cs.take i++ys++cs.drop i:=by
 intro A
 have hA1:((cs++js).take (i+m)).length=i+m:=by rw [List.length_take,List.length_append];omega
 have hd:((cs++js).drop i).take (n - i)=cs.drop i:=by
  rw [List.drop_append,show i - cs.length=0 by omega,List.drop_zero]
  exact take_app (by rw [List.length_drop];omega)
 have hz:(cs++js).drop (i+m+(n - i))=[]:=List.drop_eq_nil_of_le (by rw [List.length_append];omega)
 have e:A=(cs++js).take (i+m)++cs.drop i:=by show _++_++_=_;rw [hd,hz,List.append_nil]
 have e1:ys.take m=ys:=List.take_of_length_le (by omega)
 have e2:A.take i=cs.take i:=by
  rw [e,List.take_append_of_le_length (by rw [hA1];omega),List.take_take,Nat.min_eq_left (by omega),List.take_append_of_le_length (by omega)]
 rw [e1,e2,e,drop_app hA1]
end
section
variable {P:Program}{κ:Ctx}{N:Frm}{Q:Exit→Act→World→Prop}{L:Env}{I J:List Item}{ops:Array Oper}{rest:List Oper}
variable {d:Option Tmp}{ty:TypeId}{ps:String}{af:Array Edge}{gd:Option (Nat×Bool)}
variable {α:Type}[Enc α]{xs ys R:List α}
theorem Eff.copyT{x y:Operand}{t t' e by' n n' k q c dd:Nat}{ag:Bool}{z:List Value}{ad:Option Addr}{u:Value}{I':List Item}(ht:P.underlying t=some (.slice e))(hT:tyF P e=some (Enc.sz α,ag,by',z))
  (hx:evalO L x=some (.slice (adrop ad c k (Enc.sz α)) n' (c - k))) (hn':n'=xs.length - k) (hy:evalO L y=some u) (hu:Sl κ I u ys) (hk:k≤xs.length) (hq:q=min ys.length (xs.length - k)) (hN:Nat.blt dd N.n=true)
  (hR:xs.take k++ys.take q++xs.drop (k+q)=R) (hn:n=xs.length) (hat:At I (vc e (.slice ad n c) xs) (vc e (.slice ad n c) R) I') :
  Eff P κ N Q ⟨some dd,.call {callee:= .builtin .copy,args:= #[x,y],argTypes:= #[t,t']},ty,ps,af,gd⟩ L I fun L' I''=>L'=(dd,I64 q)::L∧I''=I':=by
 subst hn
 have hl:R.length=xs.length:=by rw [←hR];simp only [List.length_append,List.length_take,List.length_drop];omega
 have hc:cells R=(cells xs).take (k*Enc.sz α)++(cells ys).take (q*Enc.sz α)++(cells xs).drop (k*Enc.sz α+q*Enc.sz α):=by
  rw [←hR,cells_append,cells_append,cells_take,cells_take,cells_drop,Nat.add_mul]
 refine Eff.copyR (cs:=cells xs) ht hT hx hn' hy hu hk hq (fun u hu=>cells_one ys u (List.mem_of_mem_take hu)) hN ?_
 have:=hat
 unfold vc at this
 rw [hl,hc] at this
 exact this
theorem ins_cells{i:Nat}{js:List Value}(hi:i≤xs.length)(hj:js.length=(xs.length+ys.length - xs.length)*Enc.sz α) :
  List.take (i*Enc.sz α) (List.take ((i+ys.length)*Enc.sz α) (cells xs++js)++List.take ((xs.length - i)*Enc.sz α) (List.drop (i*Enc.sz α) (cells xs++js))++List.drop ((i+ys.length)*Enc.sz α+(xs.length - i)*Enc.sz α) (cells xs++js))++List.take (ys.length*Enc.sz α) (cells ys)++List.drop (i*Enc.sz α+ys.length*Enc.sz α) (List.take ((i+ys.length)*Enc.sz α) (cells xs++js)++List.take ((xs.length - i)*Enc.sz α) (List.drop (i*Enc.sz α) (cells xs++js))++List.drop ((i+ys.length)*Enc.sz α+(xs.length - i)*Enc.sz α) (cells xs++js))=cells (List.take i xs++ys++List.drop i xs):=by
 rw [cells_append,cells_append,cells_take,cells_drop,Nat.add_mul,Nat.sub_mul]
 exact ins3 (cells_length xs) (by rw [hj];congr 1;omega) (cells_length ys) (Nat.mul_le_mul_right _ hi)
theorem ins_one{i:Nat}{js:List Value}(hi:i≤xs.length):∀u∈List.take ((xs.length - i)*Enc.sz α) (List.drop (i*Enc.sz α) (cells xs++js)),u.oneCell'=true:=fun u hu=>by
 have hm:i*Enc.sz α≤xs.length*Enc.sz α:=Nat.mul_le_mul_right _ hi
 have hl:=cells_length xs
 rw [List.drop_append,show i*Enc.sz α - (cells xs).length=0 by omega,List.drop_zero,take_app (by rw [List.length_drop,hl,Nat.sub_mul])] at hu
 exact cells_one xs u (List.mem_of_mem_drop hu)
theorem Runs.loraw{x y:Operand}{T E sz by' n c l:Nat}{ag:Bool}{z:List Value}{ad:Option Addr}{m:Int}(ht:P.underlying T=some (.slice E))(hE:tyF P E=some (sz,ag,by',z))(hx:evalO L x=some (.slice ad n c))(hy:evalO L y=some (I64 m))(hm:m=(l:Int))
  (hl:l≤n) (hn:n≤c):Runs P κ N ⟨d,.slice T x (some y) none none,ty,ps,af,gd⟩ L J (.slice (adrop ad c l sz) (n - l) (c - l)):=fun a w ha hs=>by
 subst hm
 exact Runs.slice (P:=P) (κ:=κ) (N:=N) (L:=L) (J:=J) (d:=d) (ty:=ty) (ps:=ps) (af:=af) (gd:=gd) (l:=l) ht hE hx (.inr ⟨y,rfl,hy⟩) (.inl ⟨rfl,rfl⟩) hl hn a w ha hs
theorem SlRd.dropR{sz n c l:Nat}{ad:Option Addr}{cs:List Value}(hv:SlRd κ I sz (.slice ad n c) n cs)(hl:l≤n):SlRd κ I sz (.slice (adrop ad c l sz) (n - l) (c - l)) (n - l) (cs.drop (l*sz)):=fun w hs=>by
 obtain ⟨a,cap,he,h1,h2,h3,h4⟩:=hv w hs
 cases he
 refine ⟨_,c - l,rfl,by rw [List.length_drop,h1,Nat.sub_mul],by omega,by omega,fun hc=>?_⟩
 obtain ⟨b,off,rfl,hr⟩:=h4 (by omega)
 refine ⟨b,off+l*sz,by unfold adrop;rw [if_neg (by omega)];simp [addr_add],fun j u hj=>?_⟩
 rw [List.getElem?_drop] at hj
 rw [Nat.add_assoc]
 exact hr _ u hj
theorem G.ex{β:Type}{x:Item}{x':β→Item}{p:β→Prop}{F:Item→List Item}(hat:AtF I x F)(h:∀w,x.ok w→∃y,p y∧(x' y).ok w)(hf:∀y k,(x' y).fp k→x.fp k)(hG:∀y,p y→G P κ N ops Q rest L (F (x' y))):G P κ N ops Q rest L I:=fun a w ha hs=>by
 obtain ⟨J,h1,h2⟩:=hat.perm
 have hJ:=hs.perm h1
 obtain ⟨y,hp,hy⟩:=h w (hJ.ok x List.mem_cons_self).1
 refine hG y hp a w ha (Sep.perm ?_ (h2 _).symm)
 have ha':∀z∈J,∀k,x.fp k→¬z.fp k:=(List.pairwise_cons.1 hJ.pw).1
 exact hJ.tail.cons hy (fun k hk=>(hJ.ok x List.mem_cons_self).2 k (hf y k hk)) fun z hz k hk=>ha' z hz k (hf y k hk)
theorem G.room{e n c h:Nat}{ad:Option Addr}{F:Item→List Item}(hat:AtF I (vc e (.slice ad n c) xs) F)(hn:n=xs.length)(hh:n≤h)(hc:h≤c)
  (hG:∀js:List Value,js.length=(h - n)*Enc.sz α→G P κ N ops Q rest L (F (vec e (Enc.sz α) (.slice ad h c) h (cells xs++js)))):G P κ N ops Q rest L I:=by
 subst hn
 exact G.ex hat (x':=fun js=>vec e (Enc.sz α) (.slice ad h c) h (cells xs++js)) (vec.room hh hc) (fun js k hk=>by obtain ⟨o,n',c',he,hc'⟩:=hk;cases he;exact ⟨o,_,_,rfl,hc'⟩) hG
end
end Go.Sl
namespace Go.Sl
open Go.RowKit (Below)
def mp(r:Nat)(es:List MapEntry)(cl:Nat):Item where
 fp k:=k=r
 ok w:=w.heap[r]? = some (.map es.toArray cl)
 loc w w' h hw:=(h r rfl).trans hw
section
variable {P:Program}{κ:Ctx}{N:Frm}{Q:Exit→Act→World→Prop}{L:Env}{I J:List Item}{ops:Array Oper}{rest:List Oper}
variable {d:Option Tmp}{ty:TypeId}{ps:String}{af:Array Edge}{gd:Option (Nat×Bool)}
theorem Eff.makeMap{T dd:Nat}(hN:Nat.blt dd N.n=true) :
  Eff P κ N Q ⟨some dd,.makeMap T none,ty,ps,af,gd⟩ L I fun L' I'=>∃r,L'=(dd,.map (some r))::L∧I'=mp r [] 0::I:=
 Eff.of_value rfl hN fun a w ha hs=>
  ⟨_,_,_,by simp [execOp,Instr.makeMap,Result.andThen],⟨_,rfl,rfl⟩,hs.new (hs.alloc (.map #[] 0)) (heap_alloc_new w _) fun k hk=>by obtain rfl:k=_:=hk;exact ⟨Nat.le_refl _,by simp⟩⟩
theorem Eff.insertK{x y z:Operand}{T kt et r cl:Nat}{es:List MapEntry}{kd:IntKind}{k v:Value}{I':List Item}(ht:P.underlying T=some (.map kt et))(hkt:P.underlying kt=some (.int kd))(hx:evalO L x=some (.map (some r)))
  (hy:evalO L y=some k) (hz:evalO L z=some v) (hk:MapKept.IsKey (.int kd) k) (hf:Instr.findNow (.int kd) k es 0=some none) (hat:At I (mp r es cl) (mp r (es++[{key:=k,val:=v,born:=cl}]) (cl+1)) I') :
  Eff P κ N Q ⟨none,.insert T x y z,ty,ps,af,gd⟩ L I fun L' I''=>L'=L∧I''=I':=
 Eff.of_skip rfl fun a w ha hs=>by
  have hb:=(hs.ok _ hat.mem).1
  refine ⟨{w with heap:=w.heap.setIfInBounds r (.map (es++[({key:=k,val:=v,born:=cl}:MapEntry)]).toArray (cl+1))},I',?_,⟨rfl,rfl⟩,?_⟩
  ·simp [execOp,ha.eval hx,ha.eval hy,ha.eval hz,Instr.mapUpdate,run_underlying ht,MapKept.run_getObj_map hb,MapKept.run_checkKey hkt hk,MapKept.run_findKey hkt hf,MapKept.run_setObj_map _ hb,Result.andThen]
  ·exact hs.upd hat rfl ⟨rfl,Nat.le_refl _⟩ rfl (by simp) (fun k _ hne=>(MapKept.heap_set hb).2 k fun e=>hne e) (MapKept.heap_set hb).1 fun k hk=> .inl hk
theorem Runs.lookupK{x y:Operand}{T kt et r cl i:Nat}{es:List MapEntry}{kd:IntKind}{k v:Value}(ht:P.underlying T=some (.map kt et))(hkt:P.underlying kt=some (.int kd))(hx:evalO L x=some (.map (some r)))
  (hy:evalO L y=some k) (hk:MapKept.IsKey (.int kd) k) (hm:mp r es cl∈J) (hf:Instr.findNow (.int kd) k es 0=some (some (i,v))):Runs P κ N ⟨d,.lookup T x y false,ty,ps,af,gd⟩ L J v:=
 fun a w ha hs=>by
  have hb:=(hs.ok _ hm).1
  simp [execOp,ha.eval hx,ha.eval hy,Instr.lookup,run_underlying ht,MapKept.run_getObj_map hb,MapKept.run_checkKey hkt hk,MapKept.run_findKey hkt hf,Result.andThen]
end
end Go.Sl
namespace Go.Sl
abbrev U64(b:BitVec 64):Value:= .int .u64 (b.toNat:Int)
theorem u64_wrap(n:Int):IntKind.u64.wrap n=n % 18446744073709551616:=IntKind.wrap_u64 n
theorem ofInt_toNat64(a:BitVec 64):BitVec.ofInt IntKind.u64.bits (a.toNat:Int)=a:=by
 show BitVec.ofInt 64 (a.toNat:Int)=a
 rw [BitVec.ofInt_natCast,BitVec.ofNat_toNat];simp
theorem wrap_toNat64(a:BitVec 64):IntKind.u64.wrap (a.toNat:Int)=(a.toNat:Int):=by
 rw [u64_wrap];have:=a.isLt;omega
theorem bits_andB(a b:BitVec 64):bits .and .u64 (a.toNat:Int) (b.toNat:Int)=((a &&& b).toNat:Int):=by
 unfold bits;simp only [ofInt_toNat64];exact wrap_toNat64 (a &&& b)
theorem bits_orB(a b:BitVec 64):bits .or .u64 (a.toNat:Int) (b.toNat:Int)=((a ||| b).toNat:Int):=by
 unfold bits;simp only [ofInt_toNat64];exact wrap_toNat64 (a ||| b)
theorem bits_andNotB(a b:BitVec 64):bits .andNot .u64 (a.toNat:Int) (b.toNat:Int)=((a &&& ~~~b).toNat:Int):=by
 unfold bits;simp only [ofInt_toNat64];exact wrap_toNat64 (a &&& ~~~b)
theorem toNat_inj64{a b:BitVec 64}:((a.toNat:Int)=(b.toNat:Int))↔a=b:=⟨fun h=>BitVec.eq_of_toNat_eq (by omega),fun h=>by rw [h]⟩
section
variable {P:Program}{κ:Ctx}{N:Frm}{Q:Exit→Act→World→Prop}{L:Env}{I J:List Item}
variable {d:Option Tmp}{ty:TypeId}{ps:String}{af:Array Edge}{gd:Option (Nat×Bool)}
variable {x y:Operand}{T U:TypeId}{a b:BitVec 64}
theorem Runs.andB(hx:evalO L x=some (U64 a))(hy:evalO L y=some (U64 b)):Runs P κ N ⟨d,.binOp .and T x y U,ty,ps,af,gd⟩ L J (U64 (a &&& b)):=
 fun act w ha _=>by simp only [execOp,ha.eval hx,ha.eval hy];simp [go_sem,bits_andB]
theorem Runs.orB(hx:evalO L x=some (U64 a))(hy:evalO L y=some (U64 b)):Runs P κ N ⟨d,.binOp .or T x y U,ty,ps,af,gd⟩ L J (U64 (a ||| b)):=
 fun act w ha _=>by simp only [execOp,ha.eval hx,ha.eval hy];simp [go_sem,bits_orB]
theorem Runs.andNotB(hx:evalO L x=some (U64 a))(hy:evalO L y=some (U64 b)):Runs P κ N ⟨d,.binOp .andNot T x y U,ty,ps,af,gd⟩ L J (U64 (a &&& ~~~b)):=
 fun act w ha _=>by
  simp only [execOp,ha.eval hx,ha.eval hy]
  have h:=bits_andNotB a b
  simp [go_sem,h]
theorem Runs.addB(hx:evalO L x=some (U64 a))(hy:evalO L y=some (U64 b)):Runs P κ N ⟨d,.binOp .add T x y U,ty,ps,af,gd⟩ L J (U64 (a+b)):=by
 have h:=Runs.addw (P:=P) (κ:=κ) (N:=N) (J:=J) (d:=d) (ty:=ty) (ps:=ps) (af:=af) (gd:=gd) (T:=T) (U:=U) hx hy
 have e:IntKind.u64.wrap ((a.toNat:Int)+(b.toNat:Int))=((a+b).toNat:Int):=by rw [u64_wrap,BitVec.toNat_add];omega
 rwa [e] at h
theorem Runs.subB(hx:evalO L x=some (U64 a))(hy:evalO L y=some (U64 b)):Runs P κ N ⟨d,.binOp .sub T x y U,ty,ps,af,gd⟩ L J (U64 (a - b)):=by
 have h:=Runs.subw (P:=P) (κ:=κ) (N:=N) (J:=J) (d:=d) (ty:=ty) (ps:=ps) (af:=af) (gd:=gd) (T:=T) (U:=U) hx hy
 have e:IntKind.u64.wrap ((a.toNat:Int) - (b.toNat:Int))=((a - b).toNat:Int):=by rw [u64_wrap,BitVec.toNat_sub];have:=a.isLt;have:=b.isLt;omega
 rwa [e] at h
theorem Runs.shlB{k':IntKind}{n:Int}(hx:evalO L x=some (U64 a))(hy:evalO L y=some (.int k' n))(h0:0≤n)(h1:n<64):Runs P κ N ⟨d,.binOp .shl T x y U,ty,ps,af,gd⟩ L J (U64 (a <<< n.toNat)):=by
 have h:=Runs.shlw (P:=P) (κ:=κ) (N:=N) (J:=J) (d:=d) (ty:=ty) (ps:=ps) (af:=af) (gd:=gd) (T:=T) (U:=U) hx hy h0
 have e:IntKind.u64.wrap ((a.toNat:Int)*2 ^ Min.min n.toNat IntKind.u64.bits)=((a <<< n.toNat).toNat:Int):=by
  have hm:Min.min n.toNat IntKind.u64.bits=n.toNat:=by show Min.min n.toNat 64=_;omega
  have hc:((a.toNat:Int)*2 ^ n.toNat)=((a.toNat*2 ^ n.toNat:Nat):Int):=by rw [Int.natCast_mul,Int.natCast_pow];rfl
  rw [hm,u64_wrap,BitVec.toNat_shiftLeft,Nat.shiftLeft_eq,hc]
  generalize a.toNat*2 ^ n.toNat=m
  omega
 rwa [e] at h
theorem Runs.shrB{k':IntKind}{n:Int}(hx:evalO L x=some (U64 a))(hy:evalO L y=some (.int k' n))(h0:0≤n)(h1:n<64):Runs P κ N ⟨d,.binOp .shr T x y U,ty,ps,af,gd⟩ L J (U64 (a >>> n.toNat)):=by
 have h:=Runs.shrw (P:=P) (κ:=κ) (N:=N) (J:=J) (d:=d) (ty:=ty) (ps:=ps) (af:=af) (gd:=gd) (T:=T) (U:=U) hx hy h0
 have e:(a.toNat:Int).fdiv (2 ^ Min.min n.toNat IntKind.u64.bits)=((a >>> n.toNat).toNat:Int):=by
  have hm:Min.min n.toNat IntKind.u64.bits=n.toNat:=by show Min.min n.toNat 64=_;omega
  rw [hm,BitVec.toNat_ushiftRight,Nat.shiftRight_eq_div_pow,Int.fdiv_eq_ediv_of_nonneg _ (Int.pow_nonneg (by decide))]
  push_cast;rfl
 rwa [e] at h
theorem Runs.eqB(hx:evalO L x=some (U64 a))(hy:evalO L y=some (U64 b)):Runs P κ N ⟨d,.binOp .eql T x y U,ty,ps,af,gd⟩ L J (.bool (decide (a=b))):=by
 have h:=Runs.eql (P:=P) (κ:=κ) (N:=N) (J:=J) (d:=d) (ty:=ty) (ps:=ps) (af:=af) (gd:=gd) (T:=T) (U:=U) hx hy
 rwa [decide_eq_decide.2 (toNat_inj64 (a:=a) (b:=b))] at h
theorem Runs.neB(hx:evalO L x=some (U64 a))(hy:evalO L y=some (U64 b)):Runs P κ N ⟨d,.binOp .neq T x y U,ty,ps,af,gd⟩ L J (.bool (decide (a≠b))):=by
 have h:=Runs.neq (P:=P) (κ:=κ) (N:=N) (J:=J) (d:=d) (ty:=ty) (ps:=ps) (af:=af) (gd:=gd) (T:=T) (U:=U) hx hy
 rwa [decide_eq_decide.2 (not_congr (toNat_inj64 (a:=a) (b:=b)))] at h
theorem Runs.toI{S:TypeId}{q:IntKind}(hs:P.underlying S=some (.int q))(ht:P.underlying T=some (.int .i64))(hx:evalO L x=some (U64 a))(hr:a.toNat<9223372036854775808):Runs P κ N ⟨d,.convert S T x,ty,ps,af,gd⟩ L J (I64 (a.toNat:Int)):=
 Runs.convI hs ht hx (by unfold InR;omega)
theorem Runs.and127{n:Int}(hx:evalO L x=some (I64 n))(hy:evalO L y=some (I64 127))(h0:0≤n):Runs P κ N ⟨d,.binOp .and T x y U,ty,ps,af,gd⟩ L J (I64 (n % 128)):=
 fun act w ha _=>by
  simp only [execOp,ha.eval hx,ha.eval hy]
  obtain ⟨m,rfl⟩:∃m:Nat,n=(m:Int):=⟨n.toNat,by omega⟩
  have e:bits .and .i64 (m:Int) 127=(m:Int) % 128:=by
   have e1:(BitVec.ofInt 64 (m:Int) &&& BitVec.ofInt 64 127).toNat=m % 128:=by
    rw [BitVec.toNat_and,BitVec.toNat_ofInt,BitVec.toNat_ofInt,show ((127:Int) % (2 ^ 64:Nat)).toNat=2 ^ 7 - 1 by decide,Nat.and_two_pow_sub_one_eq_mod]
    omega
   unfold bits
   show IntKind.i64.wrap ((BitVec.ofInt 64 (m:Int) &&& BitVec.ofInt 64 127).toNat:Int)=_
   rw [e1,IntKind.wrap_i64];omega
  simp [go_sem,e]
end
end Go.Sl
namespace Go.Sl
open Go.RowKit (Below)
def recI(l:Nat)(r:Loop):Item where
 fp k:=k=l
 ok w:=w.heap[l]? = some (.loop r)
 loc w w' h hw:=(h l rfl).trans hw
def dfrI(D:Nat):Item where
 fp k:=k=D
 ok w:=w.heap[D]? = some (.deferred (some []))
 loc w w' h hw:=(h D rfl).trans hw
theorem Sep.putRec{κ:Ctx}{w:World}{l:Nat}{r r':Loop}{I:List Item}(h:Sep κ w (recI l r::I)):Sep κ (w.putObj l (.loop r')) (recI l r'::I):=by
 have hl:=(h.ok _ List.mem_cons_self).1
 have hlt:l<w.heap.size:=(Array.getElem?_eq_some_iff.1 hl).1
 exact h.upd (.head _ _ _) rfl ⟨rfl,Nat.le_refl _⟩ rfl (by simp) (fun k _ hne=>World.putObj_heap_other hne) (World.putObj_heap_same hlt) fun k hk=> .inl hk
section
variable {P:Program}{κ:Ctx}{N:Frm}{Q:Exit→Act→World→Prop}{L:Env}{I J:List Item}{ops:Array Oper}
def WR(P:Program)(κ:Ctx)(N:Frm)(l m:Nat)(c:Code)(Q:Exit→Act→World→Prop)(L:Env)(I:List Item):Prop:=∀a w,Ag N a L→Sep κ w I→c.wpIn (Fence.wide.inRound l) m P Q a w
variable {l m:Nat}
theorem WR.seq{x y:Code}(h:WR P κ N l m x (Exit.then (y.wpIn (Fence.wide.inRound l) m P Q) Q) L I):WR P κ N l m (.seq x y) Q L I:=fun a w ha hs=>wpIn_seq (h a w ha hs)
theorem WR.block{id:Nat}{c:Code}(h:WR P κ N l m c (Exit.inBlock id Q) L I):WR P κ N l m (.block id c) Q L I:=fun a w ha hs=>wpIn_block (h a w ha hs)
theorem WR.sub{c:Code}{L':Env}(hf:Sub L L')(h:WR P κ N l m c Q L' I):WR P κ N l m c Q L I:=fun a w ha hs=>h a w (ha.sub hf) hs
theorem V.thenR{y:Code}(h:WR P κ N l m y Q L I):V κ N (Exit.then (y.wpIn (Fence.wide.inRound l) m P Q) Q) .normal L I:=h
theorem upon_round{o:Oper}{a:Act}{next next':Act→World→Prop}(hq:¬LetsOut Q)(hn:∀a w,next a w→next' a w):∀res:Result Next,o.upon P a next Q res→o.uponIn (Fence.wide.inRound l) m P a next' Q res
 | .ok (.value v) w',h=>hn _ _ h
 | .ok .skip w',h=>hn _ _ h
 | .ok (.defer d) w',h=>hn _ _ h
 | .ok (.enter f args) w',h=>⟨fun hd=>by simp [Fence.wide] at hd,CallsIn.inRound l ((callsIn_wide.2 h).mono fun e w'' he=>by
   cases e with
   |returned v=>exact hn _ _ he
   |panicked c=>exact he
   |outgrown=>exact he)⟩
 | .ok (.row row args) w',h=>⟨fun hd=>by simp [Fence.wide] at hd,fun c cs _=>by
   obtain ⟨v,w'',hr,hs⟩:=h c cs
   exact ⟨v,w'',hn _ _ hr,stepsIn_wide.2 hs⟩⟩
 | .ok (.round _ _ _ _ _) _,h=>h.elim
 | .halt e w',h=>by cases e<;>first|exact h|exact h.elim
theorem list_round(hq:¬LetsOut Q):∀(rest:List Oper),(∀o∈rest,∀c,o.op ≠ .defer c)→∀a w,wpList P ops Q rest a w→wpListIn (Fence.wide.inRound l) m P ops Q rest a w
 |[],_,a,w,h=>h
 |o::rest,hnd,a,w,h=>by
  unfold wpList at h
  unfold wpListIn
  by_cases hw:Region.wanted o (yielded ops a.tmps)=true
  ·rw [if_pos hw] at h ⊢
   rcases h with h|h
   ·refine ⟨fun _ _=>trivial,?_⟩
    rw [Fence.inRound_round,Oper.semAt_some _ _ _ (hnd o List.mem_cons_self)]
    exact upon_round hq (fun a' w' h'=>list_round hq rest (fun o ho=>hnd o (List.mem_cons_of_mem _ ho)) a' w' h') _ h
   ·exact absurd h.2 hq
  ·rw [if_neg hw] at h ⊢
   exact ⟨fun _ _=>trivial,list_round hq rest (fun o ho=>hnd o (List.mem_cons_of_mem _ ho)) _ _ h⟩
def noDefer:List Oper→Bool
 |[]=>true
 |o::l=>(match o.op with | .defer _=>false|_=>true)&&noDefer l
theorem noDefer_all:∀{l:List Oper},noDefer l=true→∀o∈l,∀c,o.op ≠ .defer c
 |[],_,o,ho,_=>by cases ho
 |x::l,h,o,ho,c=>by
  unfold noDefer at h
  rw [Bool.and_eq_true] at h
  rcases List.mem_cons.1 ho with rfl|ho
  ·intro e
   rw [e] at h;cases h.1
  ·exact noDefer_all h.2 o ho c
theorem WR.region{id:Nat}{ls:List Oper}(hq:∀a w,¬Q .outgrown a w)(hd:noDefer ls=true)(h:G P κ N ls.toArray Q ls L I):WR P κ N l m (.region id ls.toArray false) Q L I:=
 fun a w ha hs=>wpIn_region_lit (list_round (fun ⟨a,w,h⟩=>hq a w h) ls (noDefer_all hd) a w (h a w ha hs))
def GY(P:Program)(κ:Ctx)(N:Frm)(ops:Array Oper)(Q:Exit→Act→World→Prop)(rest:List Oper)(L:Env)(I:List Item):Prop:=∀a w,Ag N a L→Sep κ w I→wpListIn Fence.wide 0 P ops Q rest a w
theorem W.regionI{id:Nat}{ls:List Oper}(h:GY P κ N ls.toArray Q ls L I):W P κ N (.region id ls.toArray false) Q L I:=fun a w ha hs=>wpIn_wide.1 (wpIn_region_lit (n:=0) (h a w ha hs))
theorem GY.nil(h:V κ N Q .normal L I):GY P κ N ops Q [] L I:=fun a w ha hs=>h a w ha hs
theorem GY.fit{rest:List Oper}(hf:Fit κ I J)(h:GY P κ N ops Q rest L J):GY P κ N ops Q rest L I:=fun a w ha hs=>h a w ha (hf w hs)
theorem GY.read{o:Oper}{rest:List Oper}{d:Nat}{v:Value}(hw:Wanted N ops o L)(hd:o.dst=some d)(hN:Nat.blt d N.n=true)(hr:Runs P κ N o L I v)(h:GY P κ N ops Q rest ((d,v)::L) I):GY P κ N ops Q (o::rest) L I:=
 fun a w ha hs=>by
  unfold wpListIn
  rw [if_pos (hw a ha)]
  refine ⟨fun _ _=>trivial,?_⟩
  simp only [Fence.wide_round,Oper.semAt_none,hr a w ha hs,Oper.uponIn,hd]
  exact h _ w (ha.put d hN v) hs
def markD(D:Nat):Deferred:={target:= .collected D,args:= #[]}
def bodyPostR(P:Program)(fn:Func)(R:Ending→World→Prop):Exit→Act→World→Prop
 | .normal,a,w | .ret,a,w=>LeavesInM Fence.wide 0 P fn a.tmps R a.defers .returning w
 |_,_,_=>False
theorem CallS.enterM{f:FuncId}{fn:Func}{c:Code}{n:Nat}{args:List Value}{Post:Value→List Item→Prop}(hf:P.funcs[f]? = some fn)(hb:fn.body=some c)(hN:fn.ntmps=n)(hl:Nat.ble args.length n=true)(hL:argEnv 0 args=L)
  (h:W P κ ⟨n,[]⟩ c (bodyPostR P fn (RetR κ Post)) L I):CallS P κ f args I Post:=fun w hs=>by
 refine (callsIn_wide (n:=0)).1 (callsIn_of_wp_marks hf hb trivial ?_)
 rw [hN]
 subst hL
 refine wpIn_mono (wpIn_wide.2 (h _ w (Ag.start args n (by simpa using hl)) hs)) fun e a w hq=>?_
 cases e<;>first|exact hq|exact False.elim hq
theorem V.leave{n D:Nat}{fn:Func}{R:Ending→World→Prop}(h:V κ ⟨n,[]⟩ (bodyPost P fn R) .ret L I):V κ ⟨n,[markD D]⟩ (bodyPostR P fn R) .ret L (dfrI D::I):=fun a w ha hs=>by
 have hD:=(hs.ok _ List.mem_cons_self).1
 have hlt:D<w.heap.size:=(Array.getElem?_eq_some_iff.1 hD).1
 have hs':Sep κ (w.putObj D (.deferred none)) I:=hs.tail.frame rfl ⟨rfl,Nat.le_refl _⟩ rfl (by simp) fun x hx k hk=>World.putObj_heap_other fun e=>(List.pairwise_cons.1 hs.pw).1 x hx D rfl (e▸hk)
 obtain ⟨_,v,hr,hR⟩:=h {a with defers:=[]} _ ⟨rfl,ha.size,ha.get⟩ hs'
 show LeavesInM _ _ _ _ _ _ a.defers _ _
 rw [ha.defers]
 exact ⟨by simp,.inl ⟨D,_,rfl,run_takeDeferred hD,v,hr,hR⟩⟩
end
end Go.Sl
namespace Go.Sl
def TabRd(κ:Ctx)(I:List Item)(g:Nat)(tab:List Value):Prop:=∀w,Sep κ w I→∀j u,tab[j]? = some u→w.cell? ⟨g,j,none⟩=some u
theorem TabRd.fit{κ:Ctx}{I J:List Item}{g:Nat}{tab:List Value}(h:TabRd κ I g tab)(hf:Fit κ J I):TabRd κ J g tab:=fun w hs=>h w (hf w hs)
section
variable {P:Program}{κ:Ctx}{N:Frm}{Q:Exit→Act→World→Prop}{L:Env}{I J:List Item}
variable {d:Option Tmp}{ty:TypeId}{ps:String}{af:Array Edge}{gd:Option (Nat×Bool)}
variable {x y:Operand}{T U:TypeId}{a b:BitVec 64}
theorem Runs.negB(hx:evalO L x=some (U64 a)):Runs P κ N ⟨d,.unOp .neg T x,ty,ps,af,gd⟩ L J (U64 (-a)):=fun act w ha _=>by
 have e:IntKind.u64.wrap (-(a.toNat:Int))=((-a).toNat:Int):=by
  have e2:(-a).toNat=(18446744073709551616 - a.toNat) % 18446744073709551616:=BitVec.toNat_neg a
  have h1:a.toNat<18446744073709551616:=a.isLt
  rw [u64_wrap,e2];omega
 simp only [execOp,ha.eval hx]
 simp [go_sem,e]
theorem Runs.mulB(hx:evalO L x=some (U64 a))(hy:evalO L y=some (U64 b)):Runs P κ N ⟨d,.binOp .mul T x y U,ty,ps,af,gd⟩ L J (U64 (a*b)):=by
 have h:=Runs.mulw (P:=P) (κ:=κ) (N:=N) (J:=J) (d:=d) (ty:=ty) (ps:=ps) (af:=af) (gd:=gd) (T:=T) (U:=U) hx hy
 have e:IntKind.u64.wrap ((a.toNat:Int)*(b.toNat:Int))=((a*b).toNat:Int):=by 
  have e2:(a*b).toNat=a.toNat*b.toNat % 18446744073709551616:=BitVec.toNat_mul a b
  rw [u64_wrap,e2,←Int.natCast_mul];omega
 rwa [e] at h
theorem Runs.idxArrU{E n g sz by':Nat}{k:IntKind}{ag:Bool}{z:List Value}{i:Nat}(ht:P.underlying T=some (.array n E))(hE:tyF P E=some (sz,ag,by',z))(hx:evalO L x=some (.pointer (some ⟨g,0,none⟩)))
  (hy:evalO L y=some (.int k (i:Int))) (hn:i<n):Runs P κ N ⟨d,.indexAddr T x y,ty,ps,af,gd⟩ L J (.pointer (some ⟨g,0+i*sz,none⟩)):=
 fun act w ha hs=>by
  simp [execOp,ha.eval hx,ha.eval hy,Instr.indexAt,asIntOf,run_underlying ht,hn,run_sizeOf hE,Instr.sureAddr,addr_add]
theorem Runs.loadTab{sz by' g i:Nat}{z tab:List Value}{v:Value}(hT:tyF P T=some (sz,false,by',z))(hx:evalO L x=some (.pointer (some ⟨g,0+i*1,none⟩)))(hb:TabRd κ J g tab)(hc:tab[i]? = some v) :
  Runs P κ N ⟨d,.load T x,ty,ps,af,gd⟩ L J v:=fun act w ha hs=>by
 simp only [execOp,ha.eval hx]
 simp [Instr.loadAt,Instr.sureAddr,run_loadVar_one hT (hb w hs i v hc)]
end
def tzTab:List Int:=[0,1,56,2,57,49,28,3,61,58,42,50,38,29,17,4,62,47,59,36,45,43,51,22,53,39,33,30,24,18,12,5,63,55,48,27,60,41,37,16,46,35,44,21,52,32,23,11,54,26,40,15,34,20,31,10,25,14,19,9,13,8,7,6]
def tzCells:List Value:=tzTab.map fun n=> .int .u8 n
def tzIx(m:BitVec 64):Nat:=(((m &&& (-m))*285870213051353865#64) >>> (58:Int).toNat).toNat
def tzB(m:BitVec 64):Int:=if m=0#64 then 64 else tzTab.getD (tzIx m) 0
theorem tzIx_lt(m:BitVec 64):tzIx m<64:=by
 unfold tzIx
 rw [BitVec.toNat_ushiftRight,Nat.shiftRight_eq_div_pow,show 2 ^ (58:Int).toNat=288230376151711744 by decide]
 have:=((m &&& (-m))*285870213051353865#64).isLt
 omega
theorem tzCells_at(m:BitVec 64):tzCells[tzIx m]? = some (.int .u8 (tzTab.getD (tzIx m) 0)):=by
 unfold tzCells
 have h:tzIx m<tzTab.length:=tzIx_lt m
 rw [List.getElem?_map,List.getElem?_eq_getElem h,List.getD_eq_getElem?_getD,List.getElem?_eq_getElem h,Option.map_some,Option.getD_some]
theorem odd_part:∀n:Nat,0<n→∃k q,n=2 ^ k*(2*q+1)
 |n,h=>by
  by_cases hp:n % 2=1
  ·exact ⟨0,n / 2,by omega⟩
  ·obtain ⟨k,q,e⟩:=odd_part (n / 2) (by omega)
   exact ⟨k+1,q,by rw [Nat.pow_succ,Nat.mul_assoc,Nat.mul_comm 2 (2*q+1),←Nat.mul_assoc,←e];omega⟩
theorem bit_of{k q j:Nat}:(2 ^ k*(2*q+1)).testBit j=(decide (k≤j)&&if j=k then true else q.testBit (j - k - 1)):=by
 rw [Nat.testBit_two_pow_mul]
 by_cases h:k≤j
 ·rw [show decide (k≤j)=true from decide_eq_true h]
  by_cases hj:j=k
  ·subst hj;simp
  ·rw [if_neg hj,show j - k=(j - k - 1)+1 by omega,Nat.testBit_succ,show (2*q+1) / 2=q by omega];simp
 ·rw [show decide (k≤j)=false from decide_eq_false h];simp
theorem bit_pred{k q j:Nat}:(2 ^ k*(2*q+1) - 1).testBit j=if j<k then true else if j=k then false else q.testBit (j - k - 1):=by
 have hk:0<2 ^ k:=Nat.two_pow_pos k
 have e:2 ^ k*(2*q+1) - 1=2 ^ k*(2*q)+(2 ^ k - 1):=by rw [Nat.mul_add];omega
 rw [e,Nat.testBit_two_pow_mul_add _ (by omega)]
 by_cases h:j<k
 ·rw [if_pos h,if_pos h,Nat.testBit_two_pow_sub_one];simpa using h
 ·rw [if_neg h,if_neg h]
  by_cases hj:j=k
  ·rw [if_pos hj,hj];simp
  ·rw [if_neg hj,show j - k=(j - k - 1)+1 by omega,Nat.testBit_succ,show 2*q / 2=q by omega];simp
theorem least_bit{m:BitVec 64}(h:m≠0#64):∃k:Nat,k<64∧m.getLsbD k=true∧(∀j,j<k→m.getLsbD j=false)∧m &&& (-m)=1#64 <<< k∧∀j,(m &&& (m - 1#64)).getLsbD j=(m.getLsbD j&&decide (j≠k)):=by
 have h0:0<m.toNat:=by
  rcases Nat.eq_zero_or_pos m.toNat with h1|h1
  ·exact absurd (BitVec.eq_of_toNat_eq (by rw [h1];rfl)) h
  ·exact h1
 obtain ⟨k,q,e⟩:=odd_part m.toNat h0
 have hlt:=m.isLt
 have hk:k<64:=by
  rcases Nat.lt_or_ge k 64 with hk|hk
  ·exact hk
  ·have h1:2 ^ 64≤2 ^ k:=Nat.pow_le_pow_right (by decide) hk
   have h2:2 ^ k*1≤2 ^ k*(2*q+1):=Nat.mul_le_mul_left _ (by omega)
   omega
 have hm:∀j,m.getLsbD j=(decide (k≤j)&&if j=k then true else q.testBit (j - k - 1)):=fun j=>by
  rw [BitVec.getLsbD,e,bit_of]
 have hp:∀j,(m - 1#64).getLsbD j=if j<k then true else if j=k then false else q.testBit (j - k - 1):=fun j=>by
  have e1:(m - 1#64).toNat=m.toNat - 1:=by rw [BitVec.toNat_sub];show (2 ^ 64 - 1+m.toNat) % 2 ^ 64=_;omega
  rw [BitVec.getLsbD,e1,e,bit_pred]
 have hn:∀j,j<64→(-m).getLsbD j = !(if j<k then true else if j=k then false else q.testBit (j - k - 1)):=fun j hj=>by
  have e1:(-m).toNat=2 ^ 64 - ((m.toNat - 1)+1):=by rw [BitVec.toNat_neg];omega
  rw [BitVec.getLsbD,e1,Nat.testBit_two_pow_sub_succ (by omega),decide_eq_true hj,e,bit_pred];rfl
 refine ⟨k,hk,by rw [hm];simp,fun j hj=>by rw [hm,decide_eq_false (by omega)];rfl,?_,fun j=>?_⟩
 ·refine BitVec.eq_of_getLsbD_eq fun j hj=>?_
  rw [BitVec.getLsbD_and,hm,hn j hj,BitVec.getLsbD_shiftLeft,decide_eq_true hj,BitVec.getLsbD_one]
  by_cases h1:j<k
  ·rw [if_pos h1,decide_eq_false (show ¬k≤j by omega),decide_eq_true h1];rfl
  ·rw [if_neg h1,decide_eq_true (show k≤j by omega),decide_eq_false h1]
   by_cases h2:j=k
   ·rw [if_pos h2,if_pos h2,decide_eq_true (show j - k=0 by omega)];rfl
   ·rw [if_neg h2,if_neg h2,decide_eq_false (show ¬j - k=0 by omega)]
    cases q.testBit (j - k - 1)<;>rfl
 ·rw [BitVec.getLsbD_and,hm,hp]
  by_cases h1:j<k
  ·rw [if_pos h1,decide_eq_false (show ¬k≤j by omega)];rfl
  ·rw [if_neg h1,decide_eq_true (show k≤j by omega)]
   by_cases h2:j=k
   ·rw [if_pos h2,if_pos h2,decide_eq_false (show ¬j≠k from fun hc=>hc h2),Bool.and_false]
   ·rw [if_neg h2,if_neg h2,decide_eq_true h2]
    cases q.testBit (j - k - 1)<;>rfl
theorem tz_pow:∀k:Fin 64,tzTab.getD (((1#64 <<< k.val)*285870213051353865#64) >>> (58:Int).toNat).toNat 0=(k.val:Int):=by decide+kernel
theorem tzB_eq{m:BitVec 64}{k:Nat}(h:m≠0#64)(hk:k<64)(he:m &&& (-m)=1#64 <<< k):tzB m=(k:Int):=by
 unfold tzB tzIx
 rw [if_neg h,he]
 exact tz_pow ⟨k,hk⟩
def listN(m:BitVec 64):List Nat:=(List.range 64).filter fun i=>m.getLsbD i
def listB(m:BitVec 64):List Int:=(listN m).map fun (i:Nat)=>(i:Int)
theorem listN_asc(m:BitVec 64):(listN m).Pairwise (· < ·):=(List.pairwise_lt_range).sublist List.filter_sublist
theorem mem_listN{m:BitVec 64}{i:Nat}:i∈listN m↔m.getLsbD i=true:=by
 unfold listN
 rw [List.mem_filter,List.mem_range]
 exact ⟨fun h=>h.2,fun h=>⟨BitVec.lt_of_getLsbD h,h⟩⟩
theorem natLin:LinO (α:=Nat) (· < ·):=⟨Nat.lt_irrefl,fun _ _ _=>Nat.lt_trans,Nat.lt_trichotomy⟩
theorem listN_zero:listN 0#64=[]:=by
 unfold listN
 exact List.filter_eq_nil_iff.2 fun i _=>by simp
theorem listN_step{m:BitVec 64}(h:m≠0#64):∃k:Nat,k<64∧tzB m=(k:Int)∧m.getLsbD k=true∧listN m=k::listN (m &&& (m - 1#64)):=by
 obtain ⟨k,hk,hb,hl,he,hc⟩:=least_bit h
 refine ⟨k,hk,tzB_eq h hk he,hb,natLin.uniq (listN_asc m) (List.pairwise_cons.2 ⟨fun j hj=>?_,listN_asc _⟩) fun j=>?_⟩
 ·rw [mem_listN,hc,Bool.and_eq_true,decide_eq_true_eq] at hj
  rcases Nat.lt_trichotomy j k with h1|h1|h1
  ·rw [hl j h1] at hj;cases hj.1
  ·exact absurd h1 hj.2
  ·exact h1
 ·rw [List.mem_cons,mem_listN,mem_listN,hc,Bool.and_eq_true,decide_eq_true_eq]
  constructor
  ·intro h1
   by_cases h2:j=k
   ·exact .inl h2
   ·exact .inr ⟨h1,h2⟩
  ·rintro (rfl|⟨h1,_⟩)
   ·exact hb
   ·exact h1
theorem listB_zero:listB 0#64=[]:=by unfold listB;rw [listN_zero];rfl
theorem listB_step{m:BitVec 64}(h:m≠0#64):listB m=tzB m::listB (m &&& (m - 1#64)):=by
 obtain ⟨k,hk,ht,_,he⟩:=listN_step h
 unfold listB
 rw [he,ht];rfl
theorem listN_len(m:BitVec 64):(listN m).length≤64:=by
 unfold listN
 have:=List.length_filter_le (fun i=>m.getLsbD i) (List.range 64)
 rwa [List.length_range] at this
theorem listB_len(m:BitVec 64):(listB m).length≤64:=by unfold listB;rw [List.length_map];exact listN_len m
theorem listB_less{m:BitVec 64}(h:m≠0#64):(listB (m &&& (m - 1#64))).length<(listB m).length:=by rw [listB_step h];exact Nat.lt_succ_self _
theorem mem_listB{m:BitVec 64}{x:Int}:x∈listB m↔0≤x∧m.getLsbD x.toNat=true:=by
 unfold listB
 rw [List.mem_map]
 constructor
 ·rintro ⟨i,hi,rfl⟩;exact ⟨by omega,by rw [Int.toNat_natCast];exact mem_listN.1 hi⟩
 ·rintro ⟨h1,h2⟩;exact ⟨x.toNat,mem_listN.2 h2,by omega⟩
theorem listB_asc(m:BitVec 64):(listB m).Pairwise (· < ·):=by
 unfold listB
 rw [List.pairwise_map]
 exact (listN_asc m).imp fun h=>by omega
end Go.Sl
namespace Go.Sl
open Go.RowKit (Below)
section
variable {P:Program}{κ:Ctx}{N:Frm}{Q:Exit→Act→World→Prop}{L:Env}{I J:List Item}{ops:Array Oper}{rest:List Oper}
variable {d:Option Tmp}{ty:TypeId}{ps:String}{af:Array Edge}{gd:Option (Nat×Bool)}
variable {α:Type}[Enc α]{xs ys R:List α}
def Cmps(P:Program)(κ:Ctx)(I:List Item)(g:FuncId)(caps:List Value)(cf:α→α→Int):Prop:=callable P g=true∧∀(x y:α) (J:List Item),Fit κ J I→CallS P κ g ([]++[.agg (Enc.enc x).toArray,.agg (Enc.enc y).toArray]++caps) J fun r J'=>r=I64 (cf x y)∧J=J'
structure BFound [Inhabited α] (cf:α→α→Int) (xs:List α) (x:α) (i:Nat) (b:Bool):Prop where
 le:i≤xs.length
 low:0<i→cf (at_ xs ((i:Int) - 1)) x<0
 high:i<xs.length→¬cf (at_ xs (i:Int)) x<0
 is:b=decide (i<xs.length∧cf (at_ xs (i:Int)) x=0)
end
end Go.Sl
namespace Go.Sl
section
variable {P:Program}
def flatF(P:Program):List Field→Nat→Bool
 |[],_=>true
 | f :: fs, o => (f.name != "_") && (match P.underlying f.type with | some (.int .i64) => true | _ => false) && (f.offset == o) && flatF P fs (o + 1)
theorem run_eqFlat(d:Nat)(w:World)(ns ms:List Int):∀(fs:List Field) (o:Nat),flatF P fs o=true→ns.length=o+fs.length→ms.length=o+fs.length→
  (Op.eqFields (d+1) (ns.map I64).toArray (ms.map I64).toArray fs).run P w = .ok (decide (ns.drop o=ms.drop o)) w
 |[],o,_,hn,hm=>by
  have h1:ns.drop o=[]:=List.drop_eq_nil_of_le (by simp at hn;omega)
  have h2:ms.drop o=[]:=List.drop_eq_nil_of_le (by simp at hm;omega)
  simp [Op.eqFields,h1,h2]
 |f::fs,o,h,hn,hm=>by
  simp only [flatF,Bool.and_eq_true,bne_iff_ne,beq_iff_eq] at h
  obtain ⟨⟨⟨h1,h2⟩,h3⟩,h4⟩:=h
  have hu:P.underlying f.type=some (.int .i64):=by
   revert h2
   split
   ·intro _;assumption
   ·intro h;cases h
  simp only [List.length_cons] at hn hm
  have hno:o<ns.length:=by omega
  have hmo:o<ms.length:=by omega
  have ha:(isAgg f.type).run P w = .ok false w:=by simp [isAgg,run_underlying hu]
  have hp:∀(ks:List Int) (hk:o<ks.length),(part f.type (ks.map I64).toArray f.offset).run P w = .ok (I64 ks[o]) w:=fun ks hk=>by
   simp [part,ha,h3,hk]
  have ih:=run_eqFlat d w ns ms fs (o+1) h4 (by omega) (by omega)
  simp only [Op.eqFields,if_pos h1,Sem.run_bind,hp ns hno,hp ms hmo,Result.andThen_ok,run_equalIn_int _ _ _ _ _ _ _ hu]
  have key:(ns.drop o=ms.drop o)↔(ns[o]=ms[o]∧ns.drop (o+1)=ms.drop (o+1)):=by rw [List.drop_eq_getElem_cons hno,List.drop_eq_getElem_cons hmo,List.cons.injEq]
  have key2:decide (ns.drop o=ms.drop o)=decide (ns[o]=ms[o]∧ns.drop (o+1)=ms.drop (o+1)):=decide_eq_decide.2 key
  rw [key2]
  by_cases he:ns[o]=ms[o]
  ·simp [he,ih]
  ·simp [he]
theorem EqT.flat{α:Type}[Enc α][DecidableEq α]{T n:Nat}(ints:α→List Int)(henc:∀x,Enc.enc x=(ints x).map I64)(hinj:∀x y,ints x=ints y→x=y)(hlen:∀x,(ints x).length=n)
  (ht:P.underlying T=some (.struct (P.fieldsOf T))) (hp:P.stoodInHeld T=false) (hf:flatF P (P.fieldsOf T).toList 0=true) (hn:(P.fieldsOf T).size=n) (hg:P.eqGuardType P.depth T=false):EqT P T α:=by
 refine ⟨fun x y w=>?_,hg⟩
 rw [show (10000:Nat)=9999+1 from rfl,run_equalIn_struct w 9999 T _ _ ht hp,henc,henc,show (9999:Nat)=9998+1 from rfl,
  run_eqFlat 9998 w (ints x) (ints y) _ 0 hf (by rw [hlen,Array.length_toList,hn];omega) (by rw [hlen,Array.length_toList,hn];omega)]
 congr 1
 rw [List.drop_zero,List.drop_zero,decide_eq_decide]
 exact ⟨hinj x y,fun e=>by rw [e]⟩
end
end Go.Sl
namespace Go.Sl
structure Wd where
 hi:Int
 lo:Int
deriving DecidableEq
instance:Inhabited Wd:=⟨⟨0,0⟩⟩
instance:Enc Wd:=⟨fun r=>[.int .u64 r.hi,.int .u64 r.lo],2,by omega,fun _=>rfl,fun r u hu=>by
 simp only [List.mem_cons,List.not_mem_nil,or_false] at hu
 rcases hu with rfl|rfl<;>rfl⟩
section
variable {P:Program}
def flatU(P:Program):List Field→Nat→Bool
 |[],_=>true
 | f :: fs, o => (f.name != "_") && (match P.underlying f.type with | some (.int .u64) => true | _ => false) && (f.offset == o) && flatU P fs (o + 1)
theorem run_eqFlatU(d:Nat)(w:World)(ns ms:List Int):∀(fs:List Field) (o:Nat),flatU P fs o=true→ns.length=o+fs.length→ms.length=o+fs.length→
  (Op.eqFields (d+1) (ns.map (Value.int .u64)).toArray (ms.map (Value.int .u64)).toArray fs).run P w = .ok (decide (ns.drop o=ms.drop o)) w
 |[],o,_,hn,hm=>by
  have h1:ns.drop o=[]:=List.drop_eq_nil_of_le (by simp at hn;omega)
  have h2:ms.drop o=[]:=List.drop_eq_nil_of_le (by simp at hm;omega)
  simp [Op.eqFields,h1,h2]
 |f::fs,o,h,hn,hm=>by
  simp only [flatU,Bool.and_eq_true,bne_iff_ne,beq_iff_eq] at h
  obtain ⟨⟨⟨h1,h2⟩,h3⟩,h4⟩:=h
  have hu:P.underlying f.type=some (.int .u64):=by
   revert h2
   split
   ·intro _;assumption
   ·intro h;cases h
  simp only [List.length_cons] at hn hm
  have hno:o<ns.length:=by omega
  have hmo:o<ms.length:=by omega
  have ha:(isAgg f.type).run P w = .ok false w:=by simp [isAgg,run_underlying hu]
  have hp:∀(ks:List Int) (hk:o<ks.length),(part f.type (ks.map (Value.int .u64)).toArray f.offset).run P w = .ok ((Value.int .u64) ks[o]) w:=fun ks hk=>by
   simp [part,ha,h3,hk]
  have ih:=run_eqFlatU d w ns ms fs (o+1) h4 (by omega) (by omega)
  simp only [Op.eqFields,if_pos h1,Sem.run_bind,hp ns hno,hp ms hmo,Result.andThen_ok,run_equalIn_int _ _ _ _ _ _ _ hu]
  have key:(ns.drop o=ms.drop o)↔(ns[o]=ms[o]∧ns.drop (o+1)=ms.drop (o+1)):=by rw [List.drop_eq_getElem_cons hno,List.drop_eq_getElem_cons hmo,List.cons.injEq]
  have key2:decide (ns.drop o=ms.drop o)=decide (ns[o]=ms[o]∧ns.drop (o+1)=ms.drop (o+1)):=decide_eq_decide.2 key
  rw [key2]
  by_cases he:ns[o]=ms[o]
  ·simp [he,ih]
  ·simp [he]
theorem EqT.flatU{α:Type}[Enc α][DecidableEq α]{T n:Nat}(ints:α→List Int)(henc:∀x,Enc.enc x=(ints x).map (Value.int .u64))(hinj:∀x y,ints x=ints y→x=y)(hlen:∀x,(ints x).length=n)
  (ht:P.underlying T=some (.struct (P.fieldsOf T))) (hp:P.stoodInHeld T=false) (hf:flatU P (P.fieldsOf T).toList 0=true) (hn:(P.fieldsOf T).size=n) (hg:P.eqGuardType P.depth T=false):EqT P T α:=by
 refine ⟨fun x y w=>?_,hg⟩
 rw [show (10000:Nat)=9999+1 from rfl,run_equalIn_struct w 9999 T _ _ ht hp,henc,henc,show (9999:Nat)=9998+1 from rfl,
  run_eqFlatU 9998 w (ints x) (ints y) _ 0 hf (by rw [hlen,Array.length_toList,hn];omega) (by rw [hlen,Array.length_toList,hn];omega)]
 congr 1
 rw [List.drop_zero,List.drop_zero,decide_eq_decide]
 exact ⟨hinj x y,fun e=>by rw [e]⟩
end
def bitA(a i:Int):Int:=a / 2 ^ i.toNat % 2
theorem bitA_two(a i:Int):bitA a i=0∨bitA a i=1:=by unfold bitA;omega
theorem u64_nat{n:Int}(h0:0≤n)(h1:n<18446744073709551616):∃b:BitVec 64,n=(b.toNat:Int):=
 ⟨BitVec.ofNat 64 n.toNat,by rw [BitVec.toNat_ofNat];omega⟩
section
variable {P:Program}{κ:Ctx}{N:Frm}{L:Env}{J:List Item}{d:Option Tmp}{ty:TypeId}{ps:String}{af:Array Edge}{gd:Option (Nat×Bool)}{x y:Operand}{T U:TypeId}{k':IntKind}
theorem Runs.shlU{m:Int}(hx:evalO L x=some (.int .u64 m))(hy:evalO L y=some (.int k' 1))(h0:0≤m)(h1:m<9223372036854775808):Runs P κ N ⟨d,.binOp .shl T x y U,ty,ps,af,gd⟩ L J (.int .u64 (2*m)):=by
 have h:=Runs.shlw (P:=P) (κ:=κ) (N:=N) (J:=J) (d:=d) (ty:=ty) (ps:=ps) (af:=af) (gd:=gd) (T:=T) (U:=U) hx hy (by decide)
 have e:IntKind.u64.wrap (m*2 ^ Min.min (1:Int).toNat IntKind.u64.bits)=2*m:=by
  rw [show Min.min (1:Int).toNat IntKind.u64.bits=1 from rfl,u64_wrap];omega
 rwa [e] at h
theorem Runs.shr63{m:Int}(hx:evalO L x=some (.int .u64 m))(hy:evalO L y=some (.int k' 63))(h0:0≤m)(h1:m<9223372036854775808):Runs P κ N ⟨d,.binOp .shr T x y U,ty,ps,af,gd⟩ L J (.int .u64 0):=by
 have h:=Runs.shrw (P:=P) (κ:=κ) (N:=N) (J:=J) (d:=d) (ty:=ty) (ps:=ps) (af:=af) (gd:=gd) (T:=T) (U:=U) hx hy (by decide)
 have e:m.fdiv (2 ^ Min.min (63:Int).toNat IntKind.u64.bits)=0:=by
  rw [show Min.min (63:Int).toNat IntKind.u64.bits=63 from rfl,Int.fdiv_eq_ediv_of_nonneg _ (by decide)];omega
 rwa [e] at h
theorem Runs.shrU{m n:Int}(hx:evalO L x=some (.int .u64 m))(hy:evalO L y=some (.int k' n))(h0:0≤n)(h1:n<64):Runs P κ N ⟨d,.binOp .shr T x y U,ty,ps,af,gd⟩ L J (.int .u64 (m / 2 ^ n.toNat)):=by
 have h:=Runs.shrw (P:=P) (κ:=κ) (N:=N) (J:=J) (d:=d) (ty:=ty) (ps:=ps) (af:=af) (gd:=gd) (T:=T) (U:=U) hx hy h0
 have e:m.fdiv (2 ^ Min.min n.toNat IntKind.u64.bits)=m / 2 ^ n.toNat:=by
  rw [show Min.min n.toNat IntKind.u64.bits=n.toNat by show Min.min n.toNat 64=_;omega,Int.fdiv_eq_ediv_of_nonneg _ (Int.pow_nonneg (by decide))]
 rwa [e] at h
theorem Runs.zeroU{n:Int}(hx:evalO L x=some (.int .u64 0))(hy:evalO L y=some (.int k' n))(h0:0≤n)(h1:n<64):Runs P κ N ⟨d,.binOp .shr T x y U,ty,ps,af,gd⟩ L J (.int .u64 0):=by
 have h:=Runs.shrU (P:=P) (κ:=κ) (N:=N) (J:=J) (d:=d) (ty:=ty) (ps:=ps) (af:=af) (gd:=gd) (T:=T) (U:=U) hx hy h0 h1
 rwa [Int.zero_ediv] at h
theorem Runs.and1U{m:Int}(hx:evalO L x=some (.int .u64 m))(hy:evalO L y=some (.int .u64 1))(h0:0≤m)(h1:m<18446744073709551616):Runs P κ N ⟨d,.binOp .and T x y U,ty,ps,af,gd⟩ L J (.int .u64 (m % 2)):=by
 obtain ⟨b,rfl⟩:=u64_nat h0 h1
 have h:=Runs.andB (P:=P) (κ:=κ) (N:=N) (J:=J) (d:=d) (ty:=ty) (ps:=ps) (af:=af) (gd:=gd) (T:=T) (U:=U) (b:=1#64) hx hy
 have e:((b &&& 1#64).toNat:Int)=(b.toNat:Int) % 2:=by
  rw [BitVec.toNat_and,show (1#64).toNat=1 from rfl,Nat.and_one_is_mod];rfl
 show Runs P κ N _ L J (.int .u64 ((b.toNat:Int) % 2))
 rw [←e];exact h
theorem Runs.bitU{a i:Int}(hx:evalO L x=some (.int .u64 (a / 2 ^ i.toNat)))(hy:evalO L y=some (.int .u64 1))(h0:0≤a)(h1:a<18446744073709551616):Runs P κ N ⟨d,.binOp .and T x y U,ty,ps,af,gd⟩ L J (.int .u64 (bitA a i)):=
 Runs.and1U hx hy (Int.ediv_nonneg h0 (Int.pow_nonneg (by decide))) (Int.lt_of_le_of_lt (Int.ediv_le_self _ h0) h1)
theorem Runs.zand(hx:evalO L x=some (.int .u64 0))(hy:evalO L y=some (.int .u64 1)):Runs P κ N ⟨d,.binOp .and T x y U,ty,ps,af,gd⟩ L J (.int .u64 0):=
 Runs.and1U hx hy (by decide) (by decide)
theorem Runs.or1U{m:Int}(hx:evalO L x=some (.int .u64 (2*m)))(hy:evalO L y=some (.int .u64 1))(h0:0≤m)(h1:m<9223372036854775808):Runs P κ N ⟨d,.binOp .or T x y U,ty,ps,af,gd⟩ L J (.int .u64 (2*m+1)):=by
 obtain ⟨b,hb⟩:=u64_nat (n:=2*m) (by omega) (by omega)
 rw [hb] at hx
 have h:=Runs.orB (P:=P) (κ:=κ) (N:=N) (J:=J) (d:=d) (ty:=ty) (ps:=ps) (af:=af) (gd:=gd) (T:=T) (U:=U) (b:=1#64) hx hy
 have hz:b &&& 1#64=0#64:=BitVec.eq_of_toNat_eq (by rw [BitVec.toNat_and,show (1#64).toNat=1 from rfl,Nat.and_one_is_mod];show b.toNat % 2=0;omega)
 have e:((b ||| 1#64).toNat:Int)=2*m+1:=by
  rw [←BitVec.add_eq_or_of_and_eq_zero _ _ hz,BitVec.toNat_add,show (1#64).toNat=1 from rfl];omega
 show Runs P κ N _ L J (.int .u64 (2*m+1))
 rw [←e];exact h
theorem Runs.orZ(hx:evalO L x=some (.int .u64 (2*0)))(hy:evalO L y=some (.int .u64 0)):Runs P κ N ⟨d,.binOp .or T x y U,ty,ps,af,gd⟩ L J (.int .u64 0):=
 Runs.orB (a:=0#64) (b:=0#64) hx hy
theorem Runs.subU{m n:Int}(hx:evalO L x=some (.int .u64 m))(hy:evalO L y=some (.int .u64 n))(h0:0≤n)(h1:n≤m)(h2:m<18446744073709551616):Runs P κ N ⟨d,.binOp .sub T x y U,ty,ps,af,gd⟩ L J (.int .u64 (m - n)):=by
 have h:=Runs.subw (P:=P) (κ:=κ) (N:=N) (J:=J) (d:=d) (ty:=ty) (ps:=ps) (af:=af) (gd:=gd) (T:=T) (U:=U) hx hy
 have e:IntKind.u64.wrap (m - n)=m - n:=by rw [u64_wrap];omega
 rwa [e] at h
end
theorem bit_step{a i:Int}(h0:0≤a)(hi:0≤i):a / 2 ^ i.toNat=2*(a / 2 ^ (i+1).toNat)+bitA a i:=by
 have e:(2:Int) ^ (i+1).toNat=2 ^ i.toNat*2:=by rw [show (i+1).toNat=i.toNat+1 by omega,Int.pow_succ]
 unfold bitA
 rw [e,←Int.ediv_ediv_of_nonneg (Int.pow_nonneg (by decide))]
 omega
theorem div_n0{a b q r r' i:Int}(h0:0≤a)(h:a / 2 ^ (i+1).toNat=q*b+r)(hi:0≤i)(hr:r'=2*r+bitA a i):a / 2 ^ (i - 1+1).toNat=2*q*b+r':=by
 rw [show i - 1+1=i by omega,bit_step h0 hi,h,hr,Int.mul_add,Int.mul_assoc];omega
theorem div_n1{a b q r r' i:Int}(h0:0≤a)(h:a / 2 ^ (i+1).toNat=q*b+r)(hi:0≤i)(hr:r'=2*r+bitA a i):a / 2 ^ (i - 1+1).toNat=(2*q+1)*b+(r' - b):=by
 rw [div_n0 h0 h hi hr,Int.add_mul,Int.one_mul];omega
theorem bitA_high{a i:Int}(h0:0≤a)(h1:a<9223372036854775808)(hi:63≤i):bitA a i=0:=by
 unfold bitA
 rw [Int.ediv_eq_zero_of_lt h0]
 ·rfl
 ·have:(2:Int) ^ 63≤2 ^ i.toNat:=by have h:=Nat.pow_le_pow_right (n:=2) (by decide) (show 63≤i.toNat by omega);exact_mod_cast h
  omega
theorem div_start{a b:Int}(h0:0≤a)(h1:a<9223372036854775808):a / 2 ^ ((127:Int)+1).toNat=0*b+0:=by
 rw [Int.ediv_eq_zero_of_lt h0]
 ·omega
 ·exact Int.lt_of_lt_of_le h1 (by decide+kernel)
theorem div_end{a b q r i:Int}(h:a / 2 ^ (i+1).toNat=q*b+r)(hi:i = -1)(h0:0≤r)(h1:r<b):q=a / b∧r=a % b:=by
 subst hi
 rw [show ((-1:Int)+1).toNat=0 from rfl,Int.pow_zero,Int.ediv_one] at h
 have hb:0<b:=by omega
 have e1:a / b=q:=by rw [h,Int.add_comm,Int.add_mul_ediv_right _ _ (by omega),Int.ediv_eq_zero_of_lt h0 h1];omega
 have e2:a % b=r:=by rw [h,Int.add_comm,Int.add_mul_emod_self_right,Int.emod_eq_of_lt h0 h1]
 exact ⟨e1.symm,e2.symm⟩
theorem div_bd{a b q r i:Int}(h0:0≤a)(h:a / 2 ^ (i+1).toNat=q*b+r)(hr:0≤r)(hb:0<b)(hq:0≤q):q≤a:=by
 have h1:a / 2 ^ (i+1).toNat≤a:=Int.ediv_le_self _ h0
 have h2:q*1≤q*b:=Int.mul_le_mul_of_nonneg_left (by omega) hq
 omega
theorem V.retcc{P:Program}{κ:Ctx}{N:Frm}{L:Env}{I:List Item}{fn:Func}{t u:Tmp}{T U b b' E E' sz sz' by' by2:Nat}{z z' cs ds:List Value}{Post:Value→List Item→Prop}(hr:fn.results = #[.cell t T,.cell u U])(hT:tyF P T=some (sz,true,by',z))(hU:tyF P U=some (sz',true,by2,z'))
  (hv:look L t=some (.pointer (some ⟨b,0,none⟩))) (hv':look L u=some (.pointer (some ⟨b',0,none⟩))) (hb:blk b cs E∈I) (hb':blk b' ds E'∈I)
  (hl:cs.length=sz) (hl':ds.length=sz') (J:List Item) (hf:Fit κ I J) (hp:Post (.tuple #[.agg cs.toArray,.agg ds.toArray]) J) (h0:N.ds=[]:=by rfl):V κ N (bodyPost P fn (RetR κ Post)) .ret L I:=
 fun a w ha hs=>by
  have hcell:=fun j=>cell_blk (w:=w) (hs.ok _ hb).1 j
  have hcell2:=fun j=>cell_blk (w:=w) (hs.ok _ hb').1 j
  have hload:(loadVar T ⟨b,0,none⟩).run P w = .ok (.agg cs.toArray) w:=run_loadVar_agg hT hl fun j u hj=>by rw [addr_add,hcell,←hj];simp
  have hload2:(loadVar U ⟨b',0,none⟩).run P w = .ok (.agg ds.toArray) w:=run_loadVar_agg hU hl' fun j u hj=>by rw [addr_add,hcell2,←hj];simp
  refine bodyPost_ret (v:= .tuple #[.agg cs.toArray,.agg ds.toArray]) ?_ (ha.defers.trans h0) ⟨_,J,rfl,hp,hf w hs⟩
  simp [results,hr,ha.get t _ hv,ha.get u _ hv',asAddr,hload,hload2]
end Go.Sl
