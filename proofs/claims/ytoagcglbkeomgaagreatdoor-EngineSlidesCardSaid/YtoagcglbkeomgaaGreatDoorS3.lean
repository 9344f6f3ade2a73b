/- A part of the proofs of statements of this seat: contracts of functions, and the plain laws that they lean on. No conditions. -/
import Derived.Test.YtoagcglbkeomgaaGreatDoorS2
import Derived.Lib.Overlaps
import Derived.Lib.AppendZerosOnto
import Derived.Lib.SliceRun
import Derived.RangeFuncRecord
import Derived.RangeFuncCalls
import Derived.TacticsIn
set_option linter.unusedVariables false
set_option linter.unusedSimpArgs false
set_option linter.unusedSectionVars false
namespace Go.Sl
open Go.RowKit (Below)
variable{w:World}{by' c dd e k m n q sz t:Nat}{cs ds z:List Value}{x y:Operand}{ag:Bool}{ad:Option Addr}
section
variable {P:Program}{κ:Ctx}{N:Frm}{Q:Exit->Act->World->Prop}{L:Env}{I J:List Item}{ops:Array Oper}{rest:List Oper}
variable {d:Option Tmp}{ty:TypeId}{ps:String}{af:Array Edge}{gd:Option (Nat×Bool)}
theorem run_firstCells_pre{v:Value}(h:slOk w sz v m ds)(hq:q<=m):(Builtin.firstCells sz q v).run P w = .ok (ds.take (q*sz)).toArray w:=by
 obtain ⟨a,cap,rfl,h1,h2,h3,h4⟩:=h
 have M:q*sz<=m*sz:=Nat.mul_le_mul_right _ hq
 by_cases hc:0<cap
 ·obtain ⟨b,off,rfl,hr⟩:=h4 hc
  exact run_firstCells_some w sz q _ m cap _ (by rw [List.length_take];omega) λj u Z=>by
   rw [addr_add]
   rw [List.getElem?_take] at Z
   split at Z
   ·exact hr j u Z
   cases Z
 obtain rfl:m=0:=by omega
 obtain rfl:q=0:=by omega
 cases a with
 |none=>simp [Builtin.firstCells]
 |some a=>rw [run_firstCells_some w sz 0 a 0 cap [] (by simp) (by simp)];simp
theorem vec_put{e:TypeId}{b off:Nat}{vs:List Value}{Z:Array Value}(hl:cs.length=n*sz)(ab:n<=c)(ad:c<=maxLen)(hb:w.heap[b]? = some (.cells Z e (0,0)))
  (ae:off+c*sz<=Z.size) (aa:∀j u,cs[j]? = some u->Z[off+j]? = some u) (hk:k+vs.length<=cs.length) :
  vecOk (w.setRow b (Z.toList.take (off+k)++vs++Z.toList.drop (off+k+vs.length)).toArray) e sz (.slice (some ⟨b,off,none⟩) n c) n (cs.take k++vs++cs.drop (k+vs.length)):=by
 have ah:n*sz<=c*sz:=Nat.mul_le_mul_right _ ab
 refine ⟨_,c,rfl,by simp only [List.length_append,List.length_take,List.length_drop];omega,ab,ad,λhc=>⟨b,off,_,rfl,setRow_heap w b Z _ e _ hb,?_,λj u' M=>?_⟩⟩
 ·simp only [List.size_toArray,List.length_append,List.length_take,List.length_drop,Array.length_toList];omega
 have ai:j<cs.length:=by have:=(List.getElem?_eq_some_iff.1 M).1;simp only [List.length_append,List.length_take,List.length_drop] at this;omega
 have hA:(Z.toList.take<|off+k).length=off+k:=by simp only [List.length_take,Array.length_toList];omega
 have hB:(cs.take k).length=k:=by simp only [List.length_take];omega
 simp only [List.getElem?_toArray]
 rw [List.append_assoc] at M
 rw [List.append_assoc]
 by_cases hjk:j<k
 ·rw [List.getElem?_append_left (by omega),List.getElem?_take,if_pos hjk] at M
  rw [List.getElem?_append_left (by omega),List.getElem?_take,if_pos<|by omega]
  simpa using aa j u' M
 rw [List.getElem?_append_right (by omega),hB] at M
 rw [List.getElem?_append_right (by omega),hA,show off+j - (off+k)=j - k from by omega]
 by_cases hjv:j - k<vs.length
 ·rw [List.getElem?_append_left hjv] at M
  rw [List.getElem?_append_left hjv]
  exact M
 rw [List.getElem?_append_right (by omega),List.getElem?_drop,show k+vs.length+(j - k - vs.length)=j from by omega] at M
 rw [List.getElem?_append_right (by omega),List.getElem?_drop,show off+k+vs.length+(j - k - vs.length)=off+j from by omega]
 simpa using aa j u' M
theorem Eff.copyR{t' n':Nat}{u:Value}{I':List Item}(ht:P.underlying t=some (.slice e))(hT:tyF P e=some (sz,ag,by',z))
  (hx:er L x=some (.slice (adrop ad c k sz) n'<|c - k)) (ax:n'=n - k) (hy:er L y=some u) (hu:SlRd κ I sz u m ds) (hk:k<=n) (hq:q=min m (n - k)) (h1:∀w∈ds.take (q*sz),w.oneCell'=true) (hN:Nat.blt dd N.n=true)
  (aj:At I (vec e sz (.slice ad n c) n cs) (vec e sz (.slice ad n c) n<|cs.take (k*sz)++ds.take (q*sz)++cs.drop (k*sz+q*sz)) I') :
  Eff P κ N Q ⟨some dd,.call {callee:= .builtin .copy,args:= #[x,y],argTypes:= #[t,t']},ty,ps,af,gd⟩ L I λL' I''=>L'=(dd,e7 q)::L/\I''=I':=
 Eff.of_value rfl hN λa w ha hs=>by
  subst ax
  obtain ⟨a',ay,hv,hl,an,ar,aq⟩:=(hs.ok _ aj.mem).1
  cases hv
  have ah:=hu w hs
  have Z:=run_lenOf_sl (P:=P) ah
  have a0:m*sz<=ds.length:=by obtain ⟨_,_,_,h,_⟩:=ah;omega
  have az:q*sz<=m*sz:=Nat.mul_le_mul_right _ (by omega)
  have ak:=run_firstCells_pre (P:=P) ah (show q<=m by omega)
  have M:m.min (n - k)=q:=hq.symm
  have ae:(ds.take<|q*sz).length=q*sz:=by rw [List.length_take];omega
  have a1:q*sz+k*sz<=n*sz:=by rw [←Nat.add_mul];exact Nat.mul_le_mul_right _ (by omega)
  by_cases hq0:q=0
  ·subst hq0
   refine ⟨e7 0,w,I',?_,⟨rfl,rfl⟩,?_⟩
   ·cases ab:adrop ad c k sz with
    |none=>simp [execOp,resolve,invoke,builtin,ha.eval hx,ha.eval hy,Builtin.copy_,run_underlying ht,Z,run_sizeOf hT,M,ak,ab,goInt]
    |some aa=>simp [execOp,resolve,invoke,builtin,ha.eval hx,ha.eval hy,Builtin.copy_,run_underlying ht,Z,run_sizeOf hT,M,ak,ab,goInt,storeCells]
   refine Fit.upd aj (λw hw=>?_) w hs
   have e:cs.take (k*sz)++ds.take (0*sz)++cs.drop (k*sz+0*sz)=cs:=by simp
   rw [e]
   exact ⟨hw,λ_ h=>h⟩
  obtain ⟨b,off,aw,rfl,hb,ai,ao⟩:=aq (by omega)
  have ap:=run_storeCells_at P b (off+k*sz) e (ds.take (q*sz)) 0 aw w hb (by
   have:=Nat.mul_le_mul_right sz an
   simp only [Nat.add_zero];omega) h1
  simp only [Nat.add_zero] at ap
  have ab:adrop (some ⟨b,off,none⟩) c k sz=some ⟨b,off+k*sz,none⟩:=by unfold adrop;rw [if_neg (by omega)];simp [addr_add]
  refine ⟨e7 q,_,I',by simp only [execOp,resolve,invoke,builtin,List.map_toArray,List.map_cons,List.map_nil,ha.eval hx,ha.eval hy];simp [Builtin.copy_,run_underlying ht,Z,run_sizeOf hT,M,ak,ab,goInt];rw [ap];simp only [Result.andThen_ok];rfl,⟨rfl,rfl⟩,?_⟩
  refine hs.upd aj rfl ⟨rfl,Nat.le_refl _⟩ rfl (by simp) (λk' _ au=>setRow_other w b k' _ λe=>au<|by subst e;exact ⟨off,n,c,rfl,by omega⟩) ?_ λk' av=> .inl ?_
  ·have:=vec_put (k:=k*sz) (vs:=ds.take (q*sz)) hl an ar hb ai ao (by rw [ae];omega)
   rw [ae] at this
   rw [ae]
   exact this
  exact av
theorem vec.room{e:TypeId}{h:Nat}(hh:n<=h)(hc:h<=c):∀w,(vec e sz (.slice ad n c) n cs).ok w->∃js:List Value,js.length=(h - n)*sz/\(vec e sz (.slice ad h c) h (cs++js)).ok w:=by
 intro w hw
 obtain ⟨a',aj,hv,hl,an,aa,ah⟩:=hw
 cases hv
 by_cases hc0:0<c
 ·obtain ⟨b,off,ae,rfl,hb,Z,ab⟩:=ah hc0
  have ak:h*sz<=c*sz:=Nat.mul_le_mul_right _ hc
  have ai:n*sz+(h - n)*sz=h*sz:=by rw [←Nat.add_mul];congr 1;omega
  refine ⟨(ae.toList.drop<|off+n*sz).take ((h - n)*sz),by simp only [List.length_take,List.length_drop,Array.length_toList];omega,_,c,rfl,by simp only [List.length_append,List.length_take,List.length_drop,Array.length_toList];omega,hc,aa,λ_=>⟨b,off,ae,rfl,hb,Z,λj u M=>?_⟩⟩
  by_cases hjn:j<cs.length
  ·rw [List.getElem?_append_left hjn] at M;exact ab j u M
  rw [List.getElem?_append_right (by omega),List.getElem?_take] at M
  split at M
  ·rw [List.getElem?_drop,show off+n*sz+(j - cs.length)=off+j from by omega] at M
   simpa using M
  cases M
 obtain rfl:h=0:=by omega
 obtain rfl:n=0:=by omega
 exact ⟨[],by simp,_,c,rfl,by simpa using hl,by omega,aa,λh=>absurd h hc0⟩
theorem Eff.grow{α:Type}[Enc α][Inhabited α]{xs:List α}{u i:Nat}{m:Int}(ht:P.underlying t=some (.slice e))(hu:P.underlying u=some (.int .i64))(hT:tyF P e=some (Enc.sz α,ag,by',z))(hz:z=Enc.enc (default:α))
  (hx:er L x=some (.slice ad i c)) (hy:er L y=some (e7 m)) (hm:m=(k:Int)) (hv:Sl κ I (.slice ad xs.length c) xs) (hi:i<=xs.length) (hk:0<k) (hg:c<i+k) (ap:(i+k)*by'<=140737488355328) (ai:0<by') (hN:Nat.blt dd N.n=true) :
  Eff P κ N Q ⟨some dd,.call {callee:= .builtin .append,args:= #[x,y],argTypes:= #[t,u]},ty,ps,af,gd⟩ L I λL' I''=>∃ad' c',L'=(dd,.slice ad' (i+k) c')::L/\I''=vc e (.slice ad' (i+k) c') (xs.take i++List.replicate k (default:α))::I:=
 Eff.of_value rfl hN λa w ha hs=>by
  subst hm
  obtain ⟨i0,zv,d0,aw,ay,az,ax,a0,ar,ao⟩:=tyF_spec hT
  have ak:=Enc.pos (α:=α)
  have aq:i+k<=maxLen:=by
   have:=Nat.le_mul_of_pos_right (i+k) ai
   simp only [maxLen];omega
  have ah:=(Sl.take hv hi) w.drew (hs.drew)
  have hlt:(xs.take i).length=i:=by rw [List.length_take];omega
  rw [hlt] at ah
  have hold:=run_firstCells_pre (P:=P) ah (Nat.le_refl i)
  have an:(cells<|xs.take i).length=i*Enc.sz α:=by rw [cells_length,hlt]
  rw [List.take_of_length_le (by omega)] at hold
  have ae:=Go.Lib.run_append_grow_zeros (P:=P) w t u ty e i0 zv .i64 .i64 ht hu aw ay ad i c (cells<|xs.take i) (by rw [ax];exact hold) k hk (by omega) hg (by simp only [maxLen] at aq;omega)
   (by rw [ar];rw [Nat.add_mul] at ap;omega) (growslice_fits hg<|by rw [ar];exact ap)
  have aj:=grownCap_ge w (i+k) c e
  have av:=grownCap_le_maxLen w (i+k) c e aq
  have aa:zv.cells.size=Enc.sz α:=by rw [ao,hz,List.size_toArray,Enc.len]
  have M:(Builtin.zeroCells zv.cells k).toList=cells (List.replicate k (default:α)):=by
   rw [←rep_cells,←hz]
   apply List.ext_getElem?
   intro j
   simp only [Builtin.zeroCells,Array.toList_map,Array.toList_range,List.getElem?_map,aa]
   by_cases Z:j<k*Enc.sz α
   ·rw [List.getElem?_range Z]
    have au:j % Enc.sz α<z.length:=by rw [hz,Enc.len];exact Nat.mod_lt _ ak
    rw [flatten_rep z k j (by omega) (by rw [hz,Enc.len];exact Z),show z.length=Enc.sz α from by rw [hz,Enc.len],ao]
    simp [au]
   rw [List.getElem?_eq_none (by simpa using Z),List.getElem?_eq_none (by rw [len_rep,hz,Enc.len];omega)]
   rfl
  refine ⟨.slice (some ⟨w.heap.size,0,none⟩) (i+k)<|grownCap w (i+k) c e,w.drew.alloc<|.cells ((cells<|xs.take i).toArray++Builtin.zeroCells zv.cells k++Builtin.zeroCells zv.cells (grownCap w (i+k) c e - (i+k))) e,_,by simp only [execOp,resolve,invoke,builtin,List.map_toArray,List.map_cons,List.map_nil,ha.eval hx,ha.eval hy];simp [ae],⟨_,_,rfl,rfl⟩,?_⟩
  have ab:(xs.take i++List.replicate k (default:α)).length=i+k:=by rw [List.length_append,hlt,List.length_replicate]
  refine hs.drew.new (hs.drew.alloc _) ?_ λj Z=>?_
  ·show vecOk _ e _ _ _ _
   rw [ab]
   refine ⟨_,_,rfl,by rw [cells_length,ab],aj,av,λ_=>⟨w.heap.size,0,_,rfl,heap_alloc_new w.drew _,?_,λj u Z=>?_⟩⟩
   ·simp only [Array.size_append,List.size_toArray,size_zeroCells,aa,an,←Nat.add_mul,Nat.zero_add]
    rw [Nat.add_sub_cancel' aj]
    exact Nat.le_refl _
   rw [Nat.zero_add,Array.getElem?_append_left (by
    have:=(List.getElem?_eq_some_iff.1 Z).1
    rw [cells_length,ab] at this
    simp only [Array.size_append,List.size_toArray,size_zeroCells,aa,an,←Nat.add_mul];exact this)]
   rw [cells_append,←M] at Z
   have e1:(cells<|xs.take i).toArray++Builtin.zeroCells zv.cells k=(cells (xs.take i)++(Builtin.zeroCells zv.cells k).toList).toArray:=by
    apply Array.ext';simp
   rw [e1,List.getElem?_toArray];exact Z
  obtain ⟨o,n',c',he,a1⟩:=Z
  cases he
  exact ⟨Nat.le_refl _,by simp⟩
theorem Eff.overlaps{f tb k' M:Nat}{av:Array TypeId}{ah:Option Addr}{e' ai:Nat}{K:List Item}
  (ax:∀args w,(callFunc f args).run P w=((Extern.SlicesOverlaps.overlaps #[t,t] #[tb] args).run P w).andThen λv w'=> .ok (.value v) w') (ht:P.underlying t=some (.slice e)) (hT:tyF P e=some (sz,ag,by',z))
  (hx:er L x=some (.slice ad m c)) (hy:er L y=some (.slice (adrop ah M k sz) k'<|M - k)) (a5:k<=M) (h0:0<m) (a4:0<n) (aj:Fit κ I (vec e sz (.slice ad m c) m cs::vec e' ai (.slice ah n M) n ds::K)) (a1:0<M*ai) (hN:Nat.blt dd N.n=true) :
  Eff P κ N Q ⟨some dd,.call {callee:= .value (.func f),args:= #[x,y],argTypes:=av},ty,ps,af,gd⟩ L I λL' I''=>L'=(dd,.bool false)::L/\I''=I:=
 Eff.of_value rfl hN λa w ha hs=>by
  have ab:=aj w hs
  obtain ⟨_,_,hv,_,a3,_,an⟩:=(ab.ok _ List.mem_cons_self).1
  cases hv
  obtain ⟨_,_,aw,_,a0,_,aa⟩:=(ab.ok _<|List.mem_cons_of_mem _ List.mem_cons_self).1
  cases aw
  obtain ⟨b,off,ar,rfl,hb,ap,_⟩:=an (by omega)
  obtain ⟨b',Z,ak,rfl,az,ao,_⟩:=aa (by omega)
  have au:Item.apart _ _:=(List.pairwise_cons.1 ab.pw).1 _ List.mem_cons_self
  have aq:b≠b':=λe=>by
   subst e
   exact au b ⟨off,m,c,rfl,by omega⟩ ⟨Z,n,M,rfl,by omega⟩
  have ay:∃o,adrop (some ⟨b',Z,none⟩) M k sz=some ⟨b',o,none⟩:=by
   unfold adrop;split
   ·exact ⟨_,rfl⟩
   exact ⟨_,by simp [addr_add];rfl⟩
  obtain ⟨o,ho⟩:=ay
  rw [ho] at hy
  have ae:=Go.Lib.run_overlaps_apart w t tb e ht sz (λw=>run_sizeOf hT w) ⟨b,off,none⟩ ⟨b',o,none⟩ m c k' (M - k) aq e e' ar.size ak.size (by simp [World.shape?,hb]) (by simp [World.shape?,az]) (by omega) (by simp [World.frozen?,hb]) (by simp [World.frozen?,hb])
  refine ⟨.bool false,w,I,?_,⟨rfl,rfl⟩,hs⟩
  have e1:a.eval (.func f) = .func (.func f) #[] #[]:=rfl
  simp only [execOp,resolve,e1,Deferred.ofValue,invoke,Sem.run_bind,Sem.run_pure,Result.andThen_ok,List.map_toArray,List.map_cons,List.map_nil,ha.eval hx,ha.eval hy]
  simp only [Array.empty_append,Array.append_empty,ax,ae,Result.andThen_ok]
theorem Runs.eqnil{T E U:Nat}(ht:P.underlying T=some (.slice E))(hx:er L x=some (.slice ad n c))(M:er L y=some (.slice none 0 0)) :
  Runs P κ N ⟨d,.binOp .eql T x y U,ty,ps,af,gd⟩ L J (.bool ad.isNone):=λa w Z _=>by
 have hg:(eqGuard .eql T x y (.slice ad n c)<|.slice none 0 0).run P w = .ok () w:=by simp [eqGuard]
 have h:=Go.Lib.run_eql_slice_nil (P:=P) w T E ad n c 0 0 ht
 simp only [execOp,Z.eval hx,Z.eval M]
 simp [hg,h]
theorem Eff.bs0{α:Type}[Enc α](ht:P.underlying t=some (.slice e))(M:tyF P e=some (Enc.sz α,ag,by',z))(hN:Nat.blt dd N.n=true) :
  Eff P κ N Q ⟨some dd,.buildSlice t 0 #[],ty,ps,af,gd⟩ L I λL' I''=>∃ad,L'=(dd,.slice ad 0 0)::L/\I''=vc e (.slice ad 0 0) ([]:List α)::I:=
 Eff.of_value rfl hN λa w ha hs=>by
  refine ⟨.slice (some ⟨w.heap.size,0,none⟩) 0 0,w.alloc<|.cells #[] e,_,by simp [execOp,Instr.buildSlice,run_underlying ht,run_sizeOf M,Instr.fill,newRow,Array.range_zero'],⟨_,rfl,rfl⟩,?_⟩
  exact hs.new (hs.alloc _) ⟨_,0,rfl,by simp [cells],Nat.le_refl _,by simp,λh=>absurd h<|by decide⟩ λk hk=>by
   obtain ⟨o,n',c',he,Z⟩:=hk
   cases he
   omega
theorem Sl.isNone{α:Type}[Enc α]{xs:List α}(h:Sl κ I (.slice ad xs.length c) xs):∀w,Sep κ w I->ad.isNone=true->xs=[]/\c=0:=λw hs hn=>by
 obtain ⟨a,cap,M,h1,h2,h3,Z⟩:=h w hs
 cases M
 by_cases hc:0<c
 ·obtain ⟨b,off,rfl,_⟩:=Z hc;cases hn
 exact ⟨List.eq_nil_of_length_eq_zero<|by omega,by omega⟩
end
end Go.Sl
namespace Go.Sl
variable{E T by' c e h k l sz:Nat}{x y:Operand}{ag:Bool}{z:List Value}{ad:Option Addr}
section
variable {β:Type}{xs ys js:List β}{i m n r:Nat}{d:β}
theorem take_app{a b:List β}(h:a.length=k):(a++b).take k=a:=by subst h;simp
theorem drop_app{a b:List β}(h:a.length=k):(a++b).drop k=b:=by subst h;simp
theorem ins1(hi:i<=xs.length):(xs.take i++List.replicate (xs.length+ys.length - i) d).take i++ys.take ys.length++(xs.take i++List.replicate (xs.length+ys.length - i) d).drop (i+ys.length)=xs.take i++ys++List.replicate (xs.length - i) d:=by
 have Z:(xs.take i).length=i:=by rw [List.length_take];omega
 rw [take_app Z,List.take_length,←List.drop_drop,drop_app Z,List.drop_replicate,show xs.length+ys.length - i - ys.length=xs.length - i by omega]
theorem ins2(hi:i<=xs.length):(xs.take i++ys++List.replicate (xs.length - i) d).take (i+ys.length)++(xs.drop i).take (xs.length - i)++(xs.take i++ys++List.replicate (xs.length - i) d).drop (i+ys.length+(xs.length - i))=xs.take i++ys++xs.drop i:=by
 have Z:(xs.take i++ys).length=i+ys.length:=by rw [List.length_append,List.length_take];omega
 have e1:(xs.drop i).take (xs.length - i)=xs.drop i:=List.take_of_length_le (by rw [List.length_drop];omega)
 have e2:(xs.take i++ys++List.replicate (xs.length - i) d).drop (i+ys.length+(xs.length - i))=[]:=List.drop_eq_nil_of_le (by simp only [List.length_append,List.length_take,List.length_replicate];omega)
 rw [take_app Z,e1,e2,List.append_nil]
theorem ins3{cs:List β}(hn:cs.length=n)(hj:js.length=m)(hy:ys.length=m)(hi:i<=n) :
  let A:=(cs++js).take (i+m)++((cs++js).drop i).take (n - i)++(cs++js).drop (i+m+(n - i))
  A.take i++ys.take m++A.drop (i+m)=cs.take i++ys++cs.drop i:=by
 intro A
 have Z:((cs++js).take (i+m)).length=i+m:=by rw [List.length_take,List.length_append];omega
 have hd:((cs++js).drop i).take (n - i)=cs.drop i:=by
  rw [List.drop_append,show i - cs.length=0 by omega,List.drop_zero]
  exact take_app<|by rw [List.length_drop];omega
 have M:(cs++js).drop (i+m+(n - i))=[]:=List.drop_eq_nil_of_le (by rw [List.length_append];omega)
 have e:A=(cs++js).take (i+m)++cs.drop i:=by show _++_++_=_;rw [hd,M,List.append_nil]
 have e1:ys.take m=ys:=List.take_of_length_le (by omega)
 have e2:A.take i=cs.take i:=by
  rw [e,List.take_append_of_le_length<|by rw [Z];omega,List.take_take,Nat.min_eq_left<|by omega,List.take_append_of_le_length<|by omega]
 rw [e1,e2,e,drop_app Z]
theorem insB_eq[Inhabited β]{lt:β->β->Prop}[DecidableRel lt][DecidableEq β](x:β):∀(l:List β) (i:Nat),i<=l.length->(∀j,j<i->lt (e_ l j) x)->(i<l.length->¬lt (e_ l i) x/\e_ l i≠x)->insB lt l x=l.take i++[x]++l.drop i
 |[],i,hi,_,_=>by
  obtain rfl:i=0:=by simpa using hi
  rfl
 |y::l,0,_,_,h=>by
  have:¬lt y x/\y≠x:=h (by simp)
  simp only [insB]
  rw [if_neg this.1,if_neg this.2];rfl
 |y::l,i+1,hi,h1,h2=>by
  have M:lt y x:=h1 0 (by omega)
  simp only [insB]
  rw [if_pos M,insB_eq x l i (by simpa using hi) (λj hj=>?_)<|λZ=>?_]
  ·rfl
  ·have:=h1 (j+1) (by omega)
   rwa [at_nat,List.getD_cons_succ,←at_nat] at this
  have:=h2 (by simpa using Z)
  rwa [at_nat,List.getD_cons_succ,←at_nat] at this
end
section
variable {P:Program}{κ:Ctx}{N:Frm}{Q:Exit->Act->World->Prop}{L:Env}{I J:List Item}{ops:Array Oper}{rest:List Oper}
variable {d:Option Tmp}{ty:TypeId}{ps:String}{af:Array Edge}{gd:Option (Nat×Bool)}
variable {α:Type}[Enc α]{xs ys R:List α}
theorem Eff.copyT{t t' n n' q dd:Nat}{u:Value}{I':List Item}(ht:P.underlying t=some (.slice e))(hT:tyF P e=some (Enc.sz α,ag,by',z))
  (hx:er L x=some (.slice (adrop ad c k<|Enc.sz α) n'<|c - k)) (Z:n'=xs.length - k) (hy:er L y=some u) (hu:Sl κ I u ys) (hk:k<=xs.length) (hq:q=min ys.length (xs.length - k)) (hN:Nat.blt dd N.n=true)
  (hR:xs.take k++ys.take q++xs.drop (k+q)=R) (hn:n=xs.length) (M:At I (vc e (.slice ad n c) xs) (vc e (.slice ad n c) R) I') :
  Eff P κ N Q ⟨some dd,.call {callee:= .builtin .copy,args:= #[x,y],argTypes:= #[t,t']},ty,ps,af,gd⟩ L I λL' I''=>L'=(dd,e7 q)::L/\I''=I':=by
 subst hn
 have hl:R.length=xs.length:=by rw [←hR];simp only [List.length_append,List.length_take,List.length_drop];omega
 have hc:cells R=(cells xs).take (k*Enc.sz α)++(cells ys).take (q*Enc.sz α)++(cells xs).drop (k*Enc.sz α+q*Enc.sz α):=by
  rw [←hR,cells_append,cells_append,cells_take,cells_take,cells_drop,Nat.add_mul]
 refine Eff.copyR (cs:=cells xs) ht hT hx Z hy hu hk hq (λu hu=>cells_one ys u<|List.mem_of_mem_take hu) hN ?_
 have:=M
 unfold vc at this
 rw [hl,hc] at this
 exact this
theorem ins_cells{i:Nat}{js:List Value}(hi:i<=xs.length)(Z:js.length=(xs.length+ys.length - xs.length)*Enc.sz α) :
  List.take (i*Enc.sz α) (List.take ((i+ys.length)*Enc.sz α) (cells xs++js)++List.take ((xs.length - i)*Enc.sz α) (List.drop (i*Enc.sz α)<|cells xs++js)++List.drop ((i+ys.length)*Enc.sz α+(xs.length - i)*Enc.sz α) (cells xs++js))++List.take (ys.length*Enc.sz α) (cells ys)++List.drop (i*Enc.sz α+ys.length*Enc.sz α) (List.take ((i+ys.length)*Enc.sz α) (cells xs++js)++List.take ((xs.length - i)*Enc.sz α) (List.drop (i*Enc.sz α)<|cells xs++js)++List.drop ((i+ys.length)*Enc.sz α+(xs.length - i)*Enc.sz α) (cells xs++js))=cells (List.take i xs++ys++List.drop i xs):=by
 rw [cells_append,cells_append,cells_take,cells_drop,Nat.add_mul,Nat.sub_mul]
 exact ins3 (cells_length xs) (by rw [Z];congr 1;omega) (cells_length ys)<|Nat.mul_le_mul_right _ hi
theorem ins_one{i:Nat}{js:List Value}(hi:i<=xs.length):∀u∈List.take ((xs.length - i)*Enc.sz α) (List.drop (i*Enc.sz α) (cells xs++js)),u.oneCell'=true:=λu hu=>by
 have M:i*Enc.sz α<=xs.length*Enc.sz α:=Nat.mul_le_mul_right _ hi
 have Z:=cells_length xs
 rw [List.drop_append,show i*Enc.sz α - (cells xs).length=0 by omega,List.drop_zero,take_app<|by rw [List.length_drop,Z,Nat.sub_mul]] at hu
 exact cells_one xs u<|List.mem_of_mem_drop hu
theorem Runs.loraw{n:Nat}{m:Int}(ht:P.underlying T=some (.slice E))(hE:tyF P E=some (sz,ag,by',z))(hx:er L x=some (.slice ad n c))(Z:er L y=some (e7 m))(hm:m=(l:Int))
  (M:l<=n) (hn:n<=c):Runs P κ N ⟨d,.slice T x (some y) none none,ty,ps,af,gd⟩ L J (.slice (adrop ad c l sz) (n - l)<|c - l):=λa w ha hs=>by
 subst hm
 exact Runs.slice (P:=P) (κ:=κ) (N:=N) (L:=L) (J:=J) (d:=d) (ty:=ty) (ps:=ps) (af:=af) (gd:=gd) (l:=l) ht hE hx (.inr ⟨y,rfl,Z⟩) (.inl ⟨rfl,rfl⟩) M hn a w ha hs
theorem Runs.lohiraw{Z:Operand}{n:Nat}{m m':Int}(ht:P.underlying T=some (.slice E))(hE:tyF P E=some (sz,ag,by',z))(hx:er L x=some (.slice ad n c))(hy:er L y=some (e7 m))(hm:m=(l:Int))(M:er L Z=some (e7 m'))(aa:m'=(h:Int))
  (hl:l<=h) (hn:h<=c):Runs P κ N ⟨d,.slice T x (some y) (some Z) none,ty,ps,af,gd⟩ L J (.slice (adrop ad c l sz) (h - l)<|c - l):=λa w ha hs=>by
 subst hm aa
 exact Runs.slice (P:=P) (κ:=κ) (N:=N) (L:=L) (J:=J) (d:=d) (ty:=ty) (ps:=ps) (af:=af) (gd:=gd) (l:=l) (h:=h) ht hE hx (.inr ⟨y,rfl,hy⟩) (.inr ⟨Z,rfl,M⟩) hl hn a w ha hs
theorem SlRd.dropR{n:Nat}{cs:List Value}(hv:SlRd κ I sz (.slice ad n c) n cs)(hl:l<=n):SlRd κ I sz (.slice (adrop ad c l sz) (n - l) (c - l)) (n - l) (cs.drop (l*sz)):=λw hs=>by
 obtain ⟨a,cap,he,h1,h2,h3,h4⟩:=hv w hs
 cases he
 refine ⟨_,c - l,rfl,by rw [List.length_drop,h1,Nat.sub_mul],by omega,by omega,λhc=>?_⟩
 obtain ⟨b,off,rfl,M⟩:=h4 (by omega)
 refine ⟨b,off+l*sz,by unfold adrop;rw [if_neg (by omega)];simp [addr_add],λj u Z=>?_⟩
 rw [List.getElem?_drop] at Z
 rw [Nat.add_assoc]
 exact M _ u Z
theorem G.ex{β:Type}{x:Item}{x':β->Item}{p:β->Prop}{F:Item->List Item}(aa:AtF I x F)(h:∀w,x.ok w->∃y,p y/\(x' y).ok w)(hf:∀y k,(x' y).fp k->x.fp k)(hG:∀y,p y->G P κ N ops Q rest L (F (x' y))):G P κ N ops Q rest L I:=λa w ha hs=>by
 obtain ⟨J,h1,h2⟩:=aa.perm
 have Z:=hs.perm h1
 obtain ⟨y,hp,hy⟩:=h w (Z.ok x List.mem_cons_self).1
 refine hG y hp a w ha<|Sep.perm ?_ (h2 _).symm
 have M:∀z∈J,∀k,x.fp k->¬z.fp k:=(List.pairwise_cons.1 Z.pw).1
 exact Z.tail.cons hy (λk hk=>(Z.ok x List.mem_cons_self).2 k (hf y k hk)) λz hz k hk=>M z hz k<|hf y k hk
theorem G.room{n:Nat}{F:Item->List Item}(M:AtF I (vc e (.slice ad n c) xs) F)(hn:n=xs.length)(hh:n<=h)(hc:h<=c)
  (hG:∀js:List Value,js.length=(h - n)*Enc.sz α->G P κ N ops Q rest L (F<|vec e (Enc.sz α) (.slice ad h c) h<|cells xs++js)):G P κ N ops Q rest L I:=by
 subst hn
 exact G.ex M (x':=λjs=>vec e (Enc.sz α) (.slice ad h c) h<|cells xs++js) (vec.room hh hc) (λjs k hk=>by obtain ⟨o,n',c',he,Z⟩:=hk;cases he;exact ⟨o,_,_,rfl,Z⟩) hG
end
end Go.Sl
namespace Go.Sl
variable{n:Int}
abbrev U64(b:BitVec 64):Value:= .int .u64 (b.toNat:Int)
theorem u64_wrap(n:Int):IntKind.u64.wrap n=n % 18446744073709551616:=IntKind.wrap_u64 n
theorem ofInt_toNat64(a:BitVec 64):BitVec.ofInt IntKind.u64.bits (a.toNat:Int)=a:=by
 show BitVec.ofInt 64 (a.toNat:Int)=a
 rw [BitVec.ofInt_natCast,BitVec.ofNat_toNat];simp
theorem wrap_toNat64(a:BitVec 64):IntKind.u64.wrap (a.toNat:Int)=(a.toNat:Int):=by
 rw [u64_wrap];have:=a.isLt;omega
theorem bits_andB(a b:BitVec 64):bits .and .u64 (a.toNat:Int) (b.toNat:Int)=((a &&& b).toNat:Int):=by
 unfold bits;simp only [ofInt_toNat64];exact wrap_toNat64 (a &&& b)
theorem bits_orB(a b:BitVec 64):bits .or .u64 (a.toNat:Int) (b.toNat:Int)=((a ||| b).toNat:Int):=by
 unfold bits;simp only [ofInt_toNat64];exact wrap_toNat64 (a ||| b)
theorem bits_andNotB(a b:BitVec 64):bits .andNot .u64 (a.toNat:Int) (b.toNat:Int)=((a &&& ~~~b).toNat:Int):=by
 unfold bits;simp only [ofInt_toNat64];exact wrap_toNat64 (a &&& ~~~b)
theorem toNat_inj64{a b:BitVec 64}:((a.toNat:Int)=(b.toNat:Int))↔a=b:=⟨λh=>BitVec.eq_of_toNat_eq (by omega),λh=>by rw [h]⟩
section
variable {P:Program}{κ:Ctx}{N:Frm}{Q:Exit->Act->World->Prop}{L:Env}{I J:List Item}
variable {d:Option Tmp}{ty:TypeId}{ps:String}{af:Array Edge}{gd:Option (Nat×Bool)}
variable {x y:Operand}{T U:TypeId}{a b:BitVec 64}
theorem Runs.andB(hx:er L x=some (U64 a))(hy:er L y=some (U64 b)):Runs P κ N ⟨d,.binOp .and T x y U,ty,ps,af,gd⟩ L J (U64 (a &&& b)):=
 λM w Z _=>by simp only [execOp,Z.eval hx,Z.eval hy];simp [go_sem,bits_andB]
theorem Runs.orB(hx:er L x=some (U64 a))(hy:er L y=some (U64 b)):Runs P κ N ⟨d,.binOp .or T x y U,ty,ps,af,gd⟩ L J (U64 (a ||| b)):=
 λM w Z _=>by simp only [execOp,Z.eval hx,Z.eval hy];simp [go_sem,bits_orB]
theorem Runs.andNotB(hx:er L x=some (U64 a))(hy:er L y=some (U64 b)):Runs P κ N ⟨d,.binOp .andNot T x y U,ty,ps,af,gd⟩ L J (U64 (a &&& ~~~b)):=
 λM w Z _=>by
  simp only [execOp,Z.eval hx,Z.eval hy]
  have h:=bits_andNotB a b
  simp [go_sem,h]
theorem Runs.addB(Z:er L x=some (U64 a))(M:er L y=some (U64 b)):Runs P κ N ⟨d,.binOp .add T x y U,ty,ps,af,gd⟩ L J (U64 (a+b)):=by
 have h:=Runs.addw (P:=P) (κ:=κ) (N:=N) (J:=J) (d:=d) (ty:=ty) (ps:=ps) (af:=af) (gd:=gd) (T:=T) (U:=U) Z M
 have e:IntKind.u64.wrap ((a.toNat:Int)+(b.toNat:Int))=((a+b).toNat:Int):=by rw [u64_wrap,BitVec.toNat_add];omega
 rwa [e] at h
theorem Runs.subB(Z:er L x=some (U64 a))(M:er L y=some (U64 b)):Runs P κ N ⟨d,.binOp .sub T x y U,ty,ps,af,gd⟩ L J (U64 (a - b)):=by
 have h:=Runs.subw (P:=P) (κ:=κ) (N:=N) (J:=J) (d:=d) (ty:=ty) (ps:=ps) (af:=af) (gd:=gd) (T:=T) (U:=U) Z M
 have e:IntKind.u64.wrap ((a.toNat:Int) - (b.toNat:Int))=((a - b).toNat:Int):=by rw [u64_wrap,BitVec.toNat_sub];have:=a.isLt;have:=b.isLt;omega
 rwa [e] at h
theorem Runs.shlB{k':IntKind}(M:er L x=some (U64 a))(Z:er L y=some (.int k' n))(h0:0<=n)(h1:n<64):Runs P κ N ⟨d,.binOp .shl T x y U,ty,ps,af,gd⟩ L J (U64 (a <<< n.toNat)):=by
 have h:=Runs.shlw (P:=P) (κ:=κ) (N:=N) (J:=J) (d:=d) (ty:=ty) (ps:=ps) (af:=af) (gd:=gd) (T:=T) (U:=U) M Z h0
 have e:IntKind.u64.wrap ((a.toNat:Int)*2 ^ Min.min n.toNat IntKind.u64.bits)=((a <<< n.toNat).toNat:Int):=by
  have hm:Min.min n.toNat IntKind.u64.bits=n.toNat:=by show Min.min n.toNat 64=_;omega
  have hc:((a.toNat:Int)*2 ^ n.toNat)=((a.toNat*2 ^ n.toNat:Nat):Int):=by rw [Int.natCast_mul,Int.natCast_pow];rfl
  rw [hm,u64_wrap,BitVec.toNat_shiftLeft,Nat.shiftLeft_eq,hc]
  generalize a.toNat*2 ^ n.toNat=m
  omega
 rwa [e] at h
theorem Runs.shrB{k':IntKind}(M:er L x=some (U64 a))(Z:er L y=some (.int k' n))(h0:0<=n)(h1:n<64):Runs P κ N ⟨d,.binOp .shr T x y U,ty,ps,af,gd⟩ L J (U64 (a >>> n.toNat)):=by
 have h:=Runs.shrw (P:=P) (κ:=κ) (N:=N) (J:=J) (d:=d) (ty:=ty) (ps:=ps) (af:=af) (gd:=gd) (T:=T) (U:=U) M Z h0
 have e:(a.toNat:Int).fdiv (2 ^ Min.min n.toNat IntKind.u64.bits)=((a >>> n.toNat).toNat:Int):=by
  have hm:Min.min n.toNat IntKind.u64.bits=n.toNat:=by show Min.min n.toNat 64=_;omega
  rw [hm,BitVec.toNat_ushiftRight,Nat.shiftRight_eq_div_pow,Int.fdiv_eq_ediv_of_nonneg _<|Int.pow_nonneg<|by decide]
  push_cast;rfl
 rwa [e] at h
theorem Runs.eqB(Z:er L x=some (U64 a))(M:er L y=some (U64 b)):Runs P κ N ⟨d,.binOp .eql T x y U,ty,ps,af,gd⟩ L J (.bool (decide (a=b))):=by
 have h:=Runs.eql (P:=P) (κ:=κ) (N:=N) (J:=J) (d:=d) (ty:=ty) (ps:=ps) (af:=af) (gd:=gd) (T:=T) (U:=U) Z M
 rwa [decide_eq_decide.2 (toNat_inj64 (a:=a) (b:=b))] at h
theorem Runs.neB(Z:er L x=some (U64 a))(M:er L y=some (U64 b)):Runs P κ N ⟨d,.binOp .neq T x y U,ty,ps,af,gd⟩ L J (.bool (decide (a≠b))):=by
 have h:=Runs.neq (P:=P) (κ:=κ) (N:=N) (J:=J) (d:=d) (ty:=ty) (ps:=ps) (af:=af) (gd:=gd) (T:=T) (U:=U) Z M
 rwa [decide_eq_decide.2 (not_congr<|toNat_inj64 (a:=a) (b:=b))] at h
theorem Runs.toI{S:TypeId}{q:IntKind}(hs:P.underlying S=some (.int q))(M:P.underlying T=some (.int .i64))(Z:er L x=some (U64 a))(hr:a.toNat<9223372036854775808):Runs P κ N ⟨d,.convert S T x,ty,ps,af,gd⟩ L J (e7 (a.toNat:Int)):=
 Runs.convI hs M Z (by unfold InR;omega)
theorem Runs.and127(hx:er L x=some (e7 n))(hy:er L y=some (e7 127))(h0:0<=n):Runs P κ N ⟨d,.binOp .and T x y U,ty,ps,af,gd⟩ L J (e7 (n % 128)):=
 λM w Z _=>by
  simp only [execOp,Z.eval hx,Z.eval hy]
  obtain ⟨m,rfl⟩:∃m:Nat,n=(m:Int):=⟨n.toNat,by omega⟩
  have e:bits .and .i64 (m:Int) 127=(m:Int) % 128:=by
   have e1:(BitVec.ofInt 64 (m:Int) &&& BitVec.ofInt 64 127).toNat=m % 128:=by
    rw [BitVec.toNat_and,BitVec.toNat_ofInt,BitVec.toNat_ofInt,show ((127:Int) % (2 ^ 64:Nat)).toNat=2 ^ 7 - 1 by decide,Nat.and_two_pow_sub_one_eq_mod]
    omega
   unfold bits
   show IntKind.i64.wrap ((BitVec.ofInt 64 (m:Int) &&& BitVec.ofInt 64 127).toNat:Int)=_
   rw [e1,IntKind.wrap_i64];omega
  simp [go_sem,e]
end
end Go.Sl
namespace Go.Sl
open Go.RowKit (Below)
end Go.Sl
namespace Go.Sl
open Go.RowKit (Below)
section
variable {P:Program}{κ:Ctx}{N:Frm}{Q:Exit->Act->World->Prop}{L:Env}{I J:List Item}{ops:Array Oper}{l m:Nat}
theorem perm_fr{A L T:List Item}:(A++(L++T)).Perm (L++(A++T)):=by
 rw [←List.append_assoc,←List.append_assoc];exact List.perm_append_comm.append_right T
end
end Go.Sl
namespace Go.Sl
variable{by' g i j k q sz:Nat}{Z z:List Value}{m:BitVec 64}
def TabRd(κ:Ctx)(I:List Item)(g:Nat)(tab:List Value):Prop:=∀w,Sep κ w I->∀j u,tab[j]? = some u->w.cell? ⟨g,j,none⟩=some u
theorem TabRd.fit{κ:Ctx}{I J:List Item}(h:TabRd κ I g Z)(M:Fit κ J I):TabRd κ J g Z:=λw hs=>h w (M w hs)
section
variable {P:Program}{κ:Ctx}{N:Frm}{Q:Exit->Act->World->Prop}{L:Env}{I J:List Item}
variable {d:Option Tmp}{ty:TypeId}{ps:String}{af:Array Edge}{gd:Option (Nat×Bool)}
variable {x y:Operand}{T U:TypeId}{a b:BitVec 64}
theorem Runs.negB(M:er L x=some (U64 a)):Runs P κ N ⟨d,.unOp .neg T x,ty,ps,af,gd⟩ L J (U64 (-a)):=λZ w ha _=>by
 have e:IntKind.u64.wrap (-(a.toNat:Int))=((-a).toNat:Int):=by
  have e2:(-a).toNat=(18446744073709551616 - a.toNat) % 18446744073709551616:=BitVec.toNat_neg a
  have h1:a.toNat<18446744073709551616:=a.isLt
  rw [u64_wrap,e2];omega
 simp only [execOp,ha.eval M]
 simp [go_sem,e]
theorem Runs.mulB(M:er L x=some (U64 a))(Z:er L y=some (U64 b)):Runs P κ N ⟨d,.binOp .mul T x y U,ty,ps,af,gd⟩ L J (U64 (a*b)):=by
 have h:=Runs.mulw (P:=P) (κ:=κ) (N:=N) (J:=J) (d:=d) (ty:=ty) (ps:=ps) (af:=af) (gd:=gd) (T:=T) (U:=U) M Z
 have e:IntKind.u64.wrap ((a.toNat:Int)*(b.toNat:Int))=((a*b).toNat:Int):=by 
  have e2:(a*b).toNat=a.toNat*b.toNat % 18446744073709551616:=BitVec.toNat_mul a b
  rw [u64_wrap,e2,←Int.natCast_mul];omega
 rwa [e] at h
theorem Runs.idxArrU{E n:Nat}{k:IntKind}{ag:Bool}(ht:P.underlying T=some (.array n E))(hE:tyF P E=some (sz,ag,by',z))(hx:er L x=some ((pt g)))
  (hy:er L y=some (.int k (i:Int))) (hn:i<n):Runs P κ N ⟨d,.indexAddr T x y,ty,ps,af,gd⟩ L J (.pointer<|some ⟨g,0+i*sz,none⟩):=
 λM w Z hs=>by
  simp [execOp,Z.eval hx,Z.eval hy,Instr.indexAt,asIntOf,run_underlying ht,hn,run_sizeOf hE,Instr.sureAddr,addr_add]
theorem Runs.loadTab{v:Value}(hT:tyF P T=some (sz,false,by',z))(hx:er L x=some (.pointer (some ⟨g,0+i*1,none⟩)))(hb:TabRd κ J g Z)(hc:Z[i]? = some v) :
  Runs P κ N ⟨d,.load T x,ty,ps,af,gd⟩ L J v:=λM w ha hs=>by
 simp only [execOp,ha.eval hx]
 simp [Instr.loadAt,Instr.sureAddr,run_loadVar_one hT<|hb w hs i v hc]
end
def tzTab:List Int:=[0,1,56,2,57,49,28,3,61,58,42,50,38,29,17,4,62,47,59,36,45,43,51,22,53,39,33,30,24,18,12,5,63,55,48,27,60,41,37,16,46,35,44,21,52,32,23,11,54,26,40,15,34,20,31,10,25,14,19,9,13,8,7,6]
def tzCells:List Value:=tzTab.map λn=> .int .u8 n
def tzIx(m:BitVec 64):Nat:=(((m &&& (-m))*285870213051353865#64) >>> (58:Int).toNat).toNat
def tzB(m:BitVec 64):Int:=if m=0#64 then 64 else tzTab.getD (tzIx m) 0
theorem tzIx_lt(m:BitVec 64):tzIx m<64:=by
 unfold tzIx
 rw [BitVec.toNat_ushiftRight,Nat.shiftRight_eq_div_pow,show 2 ^ (58:Int).toNat=288230376151711744 by decide]
 have:=((m &&& (-m))*285870213051353865#64).isLt
 omega
theorem tzCells_at(m:BitVec 64):tzCells[tzIx m]? = some (.int .u8 (tzTab.getD (tzIx m) 0)):=by
 unfold tzCells
 have h:tzIx m<tzTab.length:=tzIx_lt m
 rw [List.getElem?_map,List.getElem?_eq_getElem h,List.getD_eq_getElem?_getD,List.getElem?_eq_getElem h,Option.map_some,Option.getD_some]
theorem odd_part:∀n:Nat,0<n->∃k q,n=2 ^ k*(2*q+1)
 |n,h=>by
  by_cases hp:n % 2=1
  ·exact ⟨0,n / 2,by omega⟩
  obtain ⟨k,q,e⟩:=odd_part (n / 2) (by omega)
  exact ⟨k+1,q,by rw [Nat.pow_succ,Nat.mul_assoc,Nat.mul_comm 2<|2*q+1,←Nat.mul_assoc,←e];omega⟩
theorem bit_of:(2 ^ k*(2*q+1)).testBit j=(decide (k<=j)&&if j=k then true else q.testBit (j - k - 1)):=by
 rw [Nat.testBit_two_pow_mul]
 by_cases h:k<=j
 ·rw [show decide (k<=j)=true from decide_eq_true h]
  by_cases hj:j=k
  ·subst hj;simp
  rw [if_neg hj,show j - k=(j - k - 1)+1 by omega,Nat.testBit_succ,show (2*q+1) / 2=q by omega];simp
 rw [show decide (k<=j)=false from decide_eq_false h];simp
theorem bit_pred:(2 ^ k*(2*q+1) - 1).testBit j=if j<k then true else if j=k then false else q.testBit (j - k - 1):=by
 have Z:0<2 ^ k:=Nat.two_pow_pos k
 have e:2 ^ k*(2*q+1) - 1=2 ^ k*(2*q)+(2 ^ k - 1):=by rw [Nat.mul_add];omega
 rw [e,Nat.testBit_two_pow_mul_add _<|by omega]
 by_cases h:j<k
 ·rw [if_pos h,if_pos h,Nat.testBit_two_pow_sub_one];simpa using h
 rw [if_neg h,if_neg h]
 by_cases hj:j=k
 ·rw [if_pos hj,hj];simp
 rw [if_neg hj,show j - k=(j - k - 1)+1 by omega,Nat.testBit_succ,show 2*q / 2=q by omega];simp
theorem least_bit(h:m≠0#64):∃k:Nat,k<64/\m.getLsbD k=true/\(∀j,j<k->m.getLsbD j=false)/\m &&& (-m)=1#64 <<< k/\∀j,(m &&& (m - 1#64)).getLsbD j=(m.getLsbD j&&decide (j≠k)):=by
 have h0:0<m.toNat:=by
  rcases Nat.eq_zero_or_pos m.toNat with h1|h1
  ·exact absurd (BitVec.eq_of_toNat_eq<|by rw [h1];rfl) h
  exact h1
 obtain ⟨k,q,e⟩:=odd_part m.toNat h0
 have hlt:=m.isLt
 have hk:k<64:=by
  rcases Nat.lt_or_ge k 64 with hk|hk
  ·exact hk
  have h1:2 ^ 64<=2 ^ k:=Nat.pow_le_pow_right (by decide) hk
  have Z:2 ^ k*1<=2 ^ k*(2*q+1):=Nat.mul_le_mul_left _ (by omega)
  omega
 have hm:∀j,m.getLsbD j=(decide (k<=j)&&if j=k then true else q.testBit (j - k - 1)):=λj=>by
  rw [BitVec.getLsbD,e,bit_of]
 have hp:∀j,(m - 1#64).getLsbD j=if j<k then true else if j=k then false else q.testBit (j - k - 1):=λj=>by
  have e1:(m - 1#64).toNat=m.toNat - 1:=by rw [BitVec.toNat_sub];show (2 ^ 64 - 1+m.toNat) % 2 ^ 64=_;omega
  rw [BitVec.getLsbD,e1,e,bit_pred]
 have hn:∀j,j<64->(-m).getLsbD j = !(if j<k then true else if j=k then false else q.testBit (j - k - 1)):=λj M=>by
  have e1:(-m).toNat=2 ^ 64 - ((m.toNat - 1)+1):=by rw [BitVec.toNat_neg];omega
  rw [BitVec.getLsbD,e1,Nat.testBit_two_pow_sub_succ<|by omega,decide_eq_true M,e,bit_pred];rfl
 refine ⟨k,hk,by rw [hm];simp,λj M=>by rw [hm,decide_eq_false<|by omega];rfl,?_,λj=>?_⟩
 ·refine BitVec.eq_of_getLsbD_eq λj M=>?_
  rw [BitVec.getLsbD_and,hm,hn j M,BitVec.getLsbD_shiftLeft,decide_eq_true M,BitVec.getLsbD_one]
  by_cases h1:j<k
  ·rw [if_pos h1,decide_eq_false (show ¬k<=j by omega),decide_eq_true h1];rfl
  rw [if_neg h1,decide_eq_true (show k<=j by omega),decide_eq_false h1]
  by_cases Z:j=k
  ·rw [if_pos Z,if_pos Z,decide_eq_true (show j - k=0 by omega)];rfl
  rw [if_neg Z,if_neg Z,decide_eq_false (show ¬j - k=0 by omega)]
  cases q.testBit (j - k - 1)<;>rfl
 rw [BitVec.getLsbD_and,hm,hp]
 by_cases h1:j<k
 ·rw [if_pos h1,decide_eq_false (show ¬k<=j by omega)];rfl
 rw [if_neg h1,decide_eq_true (show k<=j by omega)]
 by_cases Z:j=k
 ·rw [if_pos Z,if_pos Z,decide_eq_false (show ¬j≠k from λhc=>hc Z),Bool.and_false]
 rw [if_neg Z,if_neg Z,decide_eq_true Z]
 cases q.testBit (j - k - 1)<;>rfl
theorem tz_pow:∀k:Fin 64,tzTab.getD (((1#64 <<< k.val)*285870213051353865#64) >>> (58:Int).toNat).toNat 0=(k.val:Int):=by decide+kernel
theorem tzB_eq(h:m≠0#64)(Z:k<64)(M:m &&& (-m)=1#64 <<< k):tzB m=(k:Int):=by
 unfold tzB tzIx
 rw [if_neg h,M]
 exact tz_pow ⟨k,Z⟩
def listN(m:BitVec 64):List Nat:=(List.range 64).filter λi=>m.getLsbD i
def eo(m:BitVec 64):List Int:=(listN m).map fun (i:Nat)=>(i:Int)
theorem listN_asc(m:BitVec 64):(listN m).Pairwise (· < ·):=(List.pairwise_lt_range).sublist List.filter_sublist
theorem mem_listN:i∈listN m↔m.getLsbD i=true:=by
 unfold listN
 rw [List.mem_filter,List.mem_range]
 exact ⟨λh=>h.2,λh=>⟨BitVec.lt_of_getLsbD h,h⟩⟩
theorem natLin:LinO (α:=Nat) (· < ·):=⟨Nat.lt_irrefl,λ_ _ _=>Nat.lt_trans,Nat.lt_trichotomy⟩
theorem listN_zero:listN 0#64=[]:=by
 unfold listN
 exact List.filter_eq_nil_iff.2 λi _=>by simp
theorem listN_step(h:m≠0#64):∃k:Nat,k<64/\tzB m=(k:Int)/\m.getLsbD k=true/\listN m=k::listN (m &&& (m - 1#64)):=by
 obtain ⟨k,hk,hb,hl,he,M⟩:=least_bit h
 refine ⟨k,hk,tzB_eq h hk he,hb,natLin.uniq (listN_asc m) (List.pairwise_cons.2 ⟨λj Z=>?_,listN_asc _⟩) λj=>?_⟩
 ·rw [mem_listN,M,Bool.and_eq_true,decide_eq_true_eq] at Z
  rcases Nat.lt_trichotomy j k with h1|h1|h1
  ·rw [hl j h1] at Z;cases Z.1
  ·exact absurd h1 Z.2
  exact h1
 rw [List.mem_cons,mem_listN,mem_listN,M,Bool.and_eq_true,decide_eq_true_eq]
 constructor
 ·intro h1
  by_cases h2:j=k
  ·exact .inl h2
  exact .inr ⟨h1,h2⟩
 rintro (rfl|⟨h1,_⟩)
 ·exact hb
 exact h1
theorem listB_zero:eo 0#64=[]:=by unfold eo;rw [listN_zero];rfl
theorem listB_step(h:m≠0#64):eo m=tzB m::eo (m &&& (m - 1#64)):=by
 obtain ⟨k,hk,M,_,Z⟩:=listN_step h
 unfold eo
 rw [Z,M];rfl
theorem listN_len(m:BitVec 64):(listN m).length<=64:=by
 unfold listN
 have:=List.length_filter_le (λi=>m.getLsbD i) (List.range 64)
 rwa [List.length_range] at this
theorem listB_len(m:BitVec 64):(eo m).length<=64:=by unfold eo;rw [List.length_map];exact listN_len m
theorem listB_less(h:m≠0#64):(eo (m &&& (m - 1#64))).length<(eo m).length:=by rw [listB_step h];exact Nat.lt_succ_self _
theorem mem_listB{x:Int}:x∈eo m↔0<=x/\m.getLsbD x.toNat=true:=by
 unfold eo
 rw [List.mem_map]
 constructor
 ·rintro ⟨i,hi,rfl⟩;exact ⟨by omega,by rw [Int.toNat_natCast];exact mem_listN.1 hi⟩
 rintro ⟨M,Z⟩;exact ⟨x.toNat,mem_listN.2 Z,by omega⟩
theorem listB_asc(m:BitVec 64):(eo m).Pairwise (· < ·):=by
 unfold eo
 rw [List.pairwise_map]
 exact (listN_asc m).imp λh=>by omega
end Go.Sl
namespace Go.Sl
open Go.RowKit (Below)
variable{x y:Operand}{by' c e h n t:Nat}{ag:Bool}{z:List Value}{ad:Option Addr}{I':List Item}
section
variable {P:Program}{κ:Ctx}{N:Frm}{Q:Exit->Act->World->Prop}{L:Env}{I J:List Item}{ops:Array Oper}{rest:List Oper}
variable {d:Option Tmp}{ty:TypeId}{ps:String}{af:Array Edge}{gd:Option (Nat×Bool)}
variable {α:Type}[Enc α]{xs ys R:List α}
theorem Eff.appIn{i j dd:Nat}(ht:P.underlying t=some (.slice e))(hT:tyF P e=some (Enc.sz α,ag,by',z))
  (hx:er L x=some (.slice ad i c)) (hy:er L y=some (.slice (adrop ad c j<|Enc.sz α) (n - j)<|c - j)) (hn:n=xs.length) (a8:i<=j) (hj:j<=xs.length) (hc:0<xs.length) (hN:Nat.blt dd N.n=true)
  (ah:At I (vc e (.slice ad n c) xs) (vc e (.slice ad (xs.take i++xs.drop j).length c)<|xs.take i++xs.drop j) I') :
  Eff P κ N Q ⟨some dd,.call {callee:= .builtin .append,args:= #[x,y],argTypes:= #[t,t]},ty,ps,af,gd⟩ L I λL' I''=>L'=(dd,.slice ad (xs.take i++xs.drop j).length c)::L/\I''=I':=
 Eff.of_value rfl hN λa w ha hs=>by
  subst hn
  have a1:(xs.take i++xs.drop j).length=i+(xs.length - j):=by simp only [List.length_append,List.length_take,List.length_drop];omega
  have ay:Sl κ I (.slice ad xs.length c) xs:=Sl.vec ah.mem
  have ak:=(SlRd.dropR ay hj) w hs
  have Z:=run_firstCells_pre (P:=P) ak (Nat.le_refl<|xs.length - j)
  have ar:=run_lenOf_sl (P:=P) ak
  have ax:=(hs.ok _ ah.mem).1
  obtain ⟨a',a7,hv,hl,ap,av,au⟩:=ax
  cases hv
  obtain ⟨b,off,aa,rfl,hb,M,an⟩:=au (by omega)
  have a4:xs.length*Enc.sz α<=c*Enc.sz α:=Nat.mul_le_mul_right _ ap
  have aw:((cells xs).drop (j*Enc.sz α)).length=(xs.length - j)*Enc.sz α:=by rw [List.length_drop,hl,Nat.sub_mul]
  rw [List.take_of_length_le (by omega)] at Z
  have ab:i+(xs.length - j)<=c:=by omega
  have a6:i*Enc.sz α+(xs.length - j)*Enc.sz α<=xs.length*Enc.sz α:=by rw [←Nat.add_mul];exact Nat.mul_le_mul_right _ (by omega)
  have aq:∀u∈(cells xs).drop (j*Enc.sz α),u.oneCell'=true:=λu hu=>cells_one xs u (List.mem_of_mem_drop hu)
  have ai:=run_storeCells_at P b (off+i*Enc.sz α) e ((cells xs).drop (j*Enc.sz α)) 0 aa w hb (by simp only [Nat.add_zero];omega) aq
  simp only [Nat.add_zero] at ai
  obtain ⟨W',hW⟩:∃W',W'=w.setRow b (aa.toList.take (off+i*Enc.sz α)++(cells xs).drop (j*Enc.sz α)++aa.toList.drop (off+i*Enc.sz α+((cells xs).drop (j*Enc.sz α)).length)).toArray:=⟨_,rfl⟩
  rw [←hW] at ai
  refine ⟨.slice (some ⟨b,off,none⟩) (xs.take i++xs.drop j).length c,W',_,?_,⟨rfl,rfl⟩,?_⟩
  ·rw [a1]
   simp only [execOp,resolve,invoke,builtin,List.map_toArray,List.map_cons,List.map_nil,ha.eval hx,ha.eval hy]
   simp only [Builtin.append_,List.getElem?_toArray,List.getElem?_cons_zero,List.getElem?_cons_succ,Sem.run_bind,run_underlying ht,Result.andThen_ok,run_sizeOf hT]
   simp [run_underlying ht,run_sizeOf hT,ar,ab,Z,addr_add]
   rw [ai]
   rfl
  rw [hW]
  have hp:=vec_put (k:=i*Enc.sz α) (vs:=(cells xs).drop (j*Enc.sz α)) hl ap av hb M an (by rw [aw];omega)
  refine hs.upd ah rfl ⟨rfl,Nat.le_refl _⟩ rfl (by simp) (λk' _ az=>setRow_other w b k' _ λe=>az<|by subst e;exact ⟨off,xs.length,c,rfl,by omega⟩) ?_ λk' a0=> .inl ?_
  ·obtain ⟨_,_,hv,ba,a5,ao,ae⟩:=hp
   cases hv
   refine ⟨_,c,rfl,cells_length _,by omega,ao,λh=>?_⟩
   obtain ⟨b2,a3,aj,he,h1,h2,h3⟩:=ae h
   cases he
   refine ⟨b,off,aj,rfl,h1,h2,λq u hq=>h3 q u ?_⟩
   rw [cells_append,cells_take,cells_drop] at hq
   have hlt:q<((cells xs).take (i*Enc.sz α)++(cells xs).drop (j*Enc.sz α)).length:=(List.getElem?_eq_some_iff.1 hq).1
   rw [List.getElem?_append_left hlt]
   exact hq
  obtain ⟨o,n',c',he,a9⟩:=a0
  cases he
  exact ⟨off,xs.length,c,rfl,by omega⟩
theorem Eff.clearB{k:Nat}(ht:P.underlying t=some (.slice e))(hT:tyF P e=some (Enc.sz α,ag,by',z))(hz:AllOne z)(aq:z.length=Enc.sz α)
  (hx:er L x=some (.slice (adrop ad c k<|Enc.sz α) (h - k)<|c - k)) (hk:k=xs.length) (hn:n=xs.length) (a3:k<=h) (au:h<=c) (ab:At I (vc e (.slice ad n c) xs) (vc e (.slice ad n c) xs) I') :
  Eff P κ N Q ⟨none,.call {callee:= .builtin .clear,args:= #[x],argTypes:= #[t]},ty,ps,af,gd⟩ L I λL' I''=>L'=L/\I''=I':=
 Eff.of_value0 rfl λa w ha hs=>by
  subst hk hn
  have aw:=(hs.ok _ ab.mem).1
  obtain ⟨a',a0,hv,hl,an,ap,ak⟩:=aw
  cases hv
  by_cases hkl:h=xs.length
  ·subst hkl
   refine ⟨.tuple #[],w,I',?_,⟨rfl,rfl⟩,Fit.upd ab (λw hw=>⟨hw,λ_ h=>h⟩) w hs⟩
   rw [Nat.sub_self] at hx
   generalize adrop ad c xs.length (Enc.sz α)=aa at hx
   cases aa<;>simp [execOp,resolve,invoke,builtin,ha.eval hx,Builtin.clear_,run_underlying ht]
  obtain ⟨b,off,ai,rfl,hb,ar,ah⟩:=ak (by omega)
  obtain ⟨zv,ay,ae⟩:=run_zeroCells hT w
  have az:h*Enc.sz α<=c*Enc.sz α:=Nat.mul_le_mul_right _ au
  obtain ⟨m,hm⟩:∃m,h - xs.length=m+1:=⟨h - xs.length - 1,by omega⟩
  have ax:xs.length*Enc.sz α+(m+1)*Enc.sz α=h*Enc.sz α:=by rw [←Nat.add_mul];congr 1;omega
  obtain ⟨Z,hZ⟩:∃Z,Z=(Builtin.zeroCells zv.cells<|m+1).toList:=⟨_,rfl⟩
  have M:Z.length=(m+1)*Enc.sz α:=by rw [hZ,Array.length_toList,size_zeroCells,ae,List.size_toArray,aq]
  have h1:∀u∈Z,u.oneCell'=true:=by rw [hZ];exact zeroCells_one (by rw [ae];intro u hu;exact hz.all u<|by simpa using hu) _
  have aj:=run_storeCells_at P b (off+xs.length*Enc.sz α) e Z 0 ai w hb (by rw [M];omega) h1
  simp only [Nat.add_zero] at aj
  have ao:er L x=some (.slice (some ⟨b,off+xs.length*Enc.sz α,none⟩) (m+1)<|c - xs.length):=by
   rw [hx,hm];unfold adrop;rw [if_neg (by omega)];simp [addr_add]
  refine ⟨.tuple #[],_,I',by simp only [execOp,resolve,invoke,builtin,List.map_toArray,List.map_cons,List.map_nil,ha.eval ao];simp [Builtin.clear_,run_underlying ht,ay];rw [←hZ,aj];simp only [Result.andThen_ok];rfl,⟨rfl,rfl⟩,?_⟩
  refine hs.upd ab rfl ⟨rfl,Nat.le_refl _⟩ rfl (by simp) (λk' _ av=>setRow_other w b k' _ λe=>av<|by subst e;exact ⟨off,xs.length,c,rfl,by omega⟩) ?_ λk hk=> .inl hk
  refine ⟨_,c,rfl,hl,an,ap,λhc=>⟨b,off,_,rfl,setRow_heap w b ai _ e _ hb,?_,λj u' hj=>?_⟩⟩
  ·simp only [List.size_toArray,List.length_append,List.length_take,List.length_drop,M,Array.length_toList];omega
  have a1:j<xs.length*Enc.sz α:=by
   have:=(List.getElem?_eq_some_iff.1 hj).1
   omega
  have:=ah j u' hj
  rw [List.getElem?_toArray,List.getElem?_append_left (by simp only [List.length_append,List.length_take,Array.length_toList];omega),List.getElem?_append_left (by simp only [List.length_take,Array.length_toList];omega),List.getElem?_take,if_pos<|by omega]
  simpa using this
theorem Runs.lohi3{y' Z:Operand}{T E sz l q:Nat}{m m' M:Int}(ht:P.underlying T=some (.slice E))(hE:tyF P E=some (sz,ag,by',z))(hx:er L x=some (.slice ad n c))(hy:er L y=some (e7 m))(hm:m=(l:Int))(ah:er L y'=some (e7 m'))(ai:m'=(h:Int))(ab:er L Z=some (e7 M))(aa:M=(q:Int))
  (hl:l<=h) (hn:h<=q) (hq:q<=c):Runs P κ N ⟨d,.slice T x (some y) (some y')<|some Z,ty,ps,af,gd⟩ L J (.slice (if q=l then ad else ad.map (·.add (l*sz))) (h - l)<|q - l):=λa w ha hs=>by
 subst hm ai aa
 have h1:((l:Int)<=(h:Int)):=by omega
 have h2:((h:Int)<=(q:Int)):=by omega
 have h3:((q:Int)<=(c:Int)):=by omega
 have ae:(Instr.sliceBounds true n c (some<|a.eval y) (some<|a.eval y')<|some<|a.eval Z).run P w = .ok (l,h,q) w:=by
  simp [Instr.sliceBounds,ha.eval hy,ha.eval ah,ha.eval ab,Instr.sliceBound,asIntOf,hl,hn,hq]
 simp [execOp,Instr.sliceAt,Instr.slice,run_underlying ht,ha.eval hx,ae,run_sizeOf hE]
def Cmps(P:Program)(κ:Ctx)(I:List Item)(g:FuncId)(caps:List Value)(cf:α->α->Int):Prop:=callable P g=true/\∀(x y:α) (J:List Item),Fit κ J I->eu P κ g ([]++[.agg (Enc.enc x).toArray,.agg (Enc.enc y).toArray]++caps) J λr J'=>r=e7 (cf x y)/\J=J'
structure BFound [Inhabited α] (cf:α->α->Int) (xs:List α) (x:α) (i:Nat) (b:Bool):Prop where
 le:i<=xs.length
 low:0<i->cf (e_ xs<|(i:Int) - 1) x<0
 high:i<xs.length->¬cf (e_ xs i) x<0
 is:b=decide (i<xs.length/\cf (e_ xs i) x=0)
end
end Go.Sl
namespace Go.Sl
variable{nd u v:Int}
def endsP(nd u v:Int):Prop:=0<=u/\0<=v/\u<nd/\v<nd/\u≠v
instance (nd u v:Int):Decidable (endsP nd u v):=by unfold endsP;infer_instance
def edgeP(u v:Int):Pt:=⟨if v<u then v else u,if u<v then v else u⟩
def changeG(nd:Int)(es:List Pt)(u v:Int):Int:=if checkG nd es≠0 then checkG nd es else if endsP nd u v then 0 else 6
def addG(nd:Int)(es:List Pt)(u v:Int):Int:=if changeG nd es u v≠0 then changeG nd es u v else if edgeP u v∈es then 15 else 0
def remG(nd:Int)(es:List Pt)(u v:Int):Int:=if changeG nd es u v≠0 then changeG nd es u v else if edgeP u v∈es then 0 else 7
theorem changeG_zero{es:List Pt}:changeG nd es u v=0↔GrOk nd es/\endsP nd u v:=by
 unfold changeG
 by_cases h:checkG nd es=0
 ·rw [if_neg (by simp [h])]
  by_cases h2:endsP nd u v
  ·simp [h2,checkG_ok.1 h]
  simp [h2]
 rw [if_pos h]
 exact ⟨λe=>absurd e h,λe=>absurd (checkG_ok.2 e.1) h⟩
theorem edgeP_ok(h:endsP nd u v):0<=(edgeP u v).u/\(edgeP u v).u<(edgeP u v).v/\(edgeP u v).v<nd:=by
 unfold endsP at h;unfold edgeP;simp only;split<;>split<;>omega
theorem edgeP_of(h:endsP nd u v):(edgeP u v=⟨u,v⟩/\u<v)\/(edgeP u v=⟨v,u⟩/\v<u):=by
 unfold endsP at h;unfold edgeP
 by_cases h1:u<v
 ·left;rw [if_neg (by omega),if_pos h1];exact ⟨rfl,h1⟩
 right;rw [if_pos (by omega),if_neg h1];exact ⟨rfl,by omega⟩
theorem edgeP_swap(u v:Int):edgeP u v=edgeP v u:=by
 unfold edgeP;congr 1<;>split<;>split<;>omega
theorem Pt.cmp_zero(a b:Pt):Pt.cmp a b=0↔a=b:=by
 rw [Pt.ext_iff']
 unfold Pt.cmp
 split<;>(try split)<;>(try split)<;>(try split)<;>omega
section
variable {es:List Pt}{e:Pt}{i:Nat}{q:Bool}
theorem BFound.below(h:BFound Pt.cmp es e i q)(M:AscP es):∀j,j<i->Pt.lt (e_ es j) e:=λj hj=>by
 have Z:=(Pt.cmp_lt _ _).1 (h.low<|by omega)
 rw [show (i:Int) - 1=((i - 1:Nat):Int) by omega] at Z
 by_cases hq:j=i - 1
 ·rw [hq];exact Z
 exact Pt.lin.tr _ _ _ (asc_at M (i:=j) (j:=i - 1) (by omega)<|by have:=h.le;omega) Z
theorem BFound.above(h:BFound Pt.cmp es e i q)(ha:AscP es):∀j,i<=j->j<es.length->¬Pt.lt (e_ es j) e:=λj hj hl M=>by
 have Z:=h.high (by omega)
 rw [Pt.cmp_lt] at Z
 by_cases hq:j=i
 ·rw [hq] at M;exact Z M
 exact Z<|Pt.lin.tr _ _ _ (asc_at ha (i:=i) (j:=j) (by omega) hl) M
theorem BFound.mem(h:BFound Pt.cmp es e i q)(ha:AscP es):(i<es.length/\e_ es i=e)↔e∈es:=by
 constructor
 ·rintro ⟨h1,Z⟩;rw [←Z];exact at_mem (by omega) (by omega)
 intro hm
 obtain ⟨j,hj,M⟩:=mem_at hm
 have h1:¬j<i:=λhlt=>by have:=h.below ha j hlt;rw [M] at this;exact Pt.lin.irr _ this
 have Z:i<es.length:=by omega
 refine ⟨Z,?_⟩
 by_cases hq:j=i
 ·rw [←hq];exact M
 have h3:=h.high Z
 rw [Pt.cmp_lt] at h3
 have h4:=asc_at ha (i:=i) (j:=j) (by omega) hj
 rw [M] at h4
 exact absurd h4 h3
theorem BFound.ins(h:BFound Pt.cmp es e i q)(Z:AscP es)(hn:e∉es):es.take i++[e]++es.drop i=insB Pt.lt es e:=
 (insB_eq e es i h.le (h.below Z) λM=>⟨h.above Z i (Nat.le_refl _) M,λhe=>hn<|(h.mem Z).1 ⟨M,he⟩⟩).symm
def without(es:List Pt)(e:Pt):List Pt:=es.filter λp=>decide (p≠e)
theorem BFound.del(h:BFound Pt.cmp es e i q)(ha:AscP es)(hm:e∈es):es.take i++es.drop (i+1)=without es e:=by
 obtain ⟨hl,he⟩:=(h.mem ha).2 hm
 have Z:∀j,j<es.length->j≠i->e_ es j≠e:=λj M ab hq=>by
  rcases Nat.lt_or_ge j i with h1|h1
  ·have:=h.below ha j h1;rw [hq] at this;exact Pt.lin.irr _ this
  have:=asc_at ha (i:=i) (j:=j) (by omega) M;rw [he,hq] at this;exact Pt.lin.irr _ this
 have aa:es=es.take i++e::es.drop (i+1):=by
  conv=>lhs;rw [←List.take_append_drop i es,drop_at es i hl,he]
 have h1:(es.take i).filter (λp=>decide<|p≠e)=es.take i:=List.filter_eq_self.2 λp hp=>by
  obtain ⟨j,M,rfl⟩:=List.getElem_of_mem hp
  rw [List.length_take] at M
  have:(es.take i)[j]=e_ es j:=by rw [at_get es j (by omega)];simp
  rw [this];simpa using Z j (by omega) (by omega)
 have h2:(es.drop<|i+1).filter (λp=>decide<|p≠e)=es.drop (i+1):=List.filter_eq_self.2 λp hp=>by
  obtain ⟨j,M,rfl⟩:=List.getElem_of_mem hp
  rw [List.length_drop] at M
  have:(es.drop<|i+1)[j]=e_ es ((i+1+j:Nat):Int):=by rw [at_get es _ (by omega)];simp
  rw [this];simpa using Z (i+1+j) (by omega) (by omega)
 unfold without
 conv=>rhs;rw [aa]
 rw [List.filter_append,List.filter_cons,h1,h2]
 simp
theorem GrOk.add(h:GrOk nd es)(Z:endsP nd u v):GrOk nd (insB Pt.lt es (edgeP u v)):=
 ⟨h.rng,Pt.lin.insB _ h.asc,λp hp=>by
  rcases (mem_insB _ _ _).1 hp with rfl|hp
  ·exact edgeP_ok Z
  exact h.edge p hp⟩
theorem GrOk.rem(h:GrOk nd es):GrOk nd (without es e):=⟨h.rng,h.asc.sublist List.filter_sublist,λp Z=>h.edge p ((List.mem_filter.1 Z).1)⟩
end
end Go.Sl
namespace Go.Sl
set_option maxRecDepth 10000
variable{nd:Int}{es:List Pt}
instance:Enc (BitVec 64):=⟨λb=>[U64 b],1,by omega,λ_=>rfl,λ_ u h=>by simp at h;subst h;rfl⟩
def addRow(rows:List (BitVec 64))(e:Pt):List (BitVec 64):=
 if 0<=e.u/\e.u<e.v/\e.v<rows.length then
  (rows.set e.u.toNat<|e_ rows e.u ||| 1#64 <<< e.v.toNat).set e.v.toNat (e_ (rows.set e.u.toNat<|e_ rows e.u ||| 1#64 <<< e.v.toNat) e.v ||| 1#64 <<< e.u.toNat)
 else rows
def rows0(nd:Int):List (BitVec 64):=List.replicate (min (max nd 0) 64).toNat 0#64
def ek(nd:Int)(es:List Pt):List (BitVec 64):=es.foldl addRow (rows0 nd)
theorem addRow_len(rows:List (BitVec 64))(e:Pt):(addRow rows e).length=rows.length:=by
 unfold addRow;split<;>simp
theorem rowsB_take{k:Nat}(h:k<es.length):ek nd (es.take (k+1))=addRow (ek nd (es.take k)) (e_ es k):=by
 unfold ek;rw [take_at es k h,List.foldl_append];rfl
theorem rowsB_len(nd:Int)(es:List Pt):(ek nd es).length=(min (max nd 0) 64).toNat:=by
 unfold ek
 have:∀(es:List Pt) (r:List (BitVec 64)),(es.foldl addRow r).length=r.length:=λes=>by
  induction es with
  |nil=>intro r;rfl
  |cons e es ih=>intro r;rw [List.foldl_cons,ih,addRow_len]
 rw [this];simp [rows0]
theorem at_rep64(n:Nat)(i:Int):e_ (List.replicate n (0#64)) i=0#64:=by
 unfold e_
 rw [List.getD_eq_getElem?_getD,List.getElem?_replicate]
 split<;>rfl
structure RowsOk (nd:Int) (es:List Pt) (rows:List (BitVec 64)):Prop where
 len:(rows.length:Int)=nd
 bit:∀v w:Int,0<=v->v<nd->0<=w->w<64->((e_ rows v).getLsbD w.toNat=decide ((⟨v,w⟩:Pt)∈es\/(⟨w,v⟩:Pt)∈es))
theorem RowsOk.start(h:0<=nd/\nd<=64):RowsOk nd [] (rows0 nd):=
 ⟨by unfold rows0;simp;omega,λv w _ _ _ _=>by unfold rows0;rw [at_rep64];simp⟩
theorem addRow_at{rows:List (BitVec 64)}{e:Pt}(h:0<=e.u/\e.u<e.v/\e.v<rows.length)(j:Int)(Z:0<=j)(M:j<rows.length) :
  e_ (addRow rows e) j=if e.v=j then e_ rows e.v ||| 1#64 <<< e.u.toNat else if e.u=j then e_ rows e.u ||| 1#64 <<< e.v.toNat else e_ rows j:=by
 unfold addRow
 rw [if_pos h,at_set _ e.v j _ (by omega) Z<|by rw [List.length_set];omega]
 by_cases hv:e.v=j
 ·rw [if_pos hv,if_pos hv,at_set _ e.u e.v _ (by omega) (by omega)<|by omega,if_neg<|by omega]
 rw [if_neg hv,if_neg hv,at_set _ e.u j _ (by omega) Z<|by omega]
theorem getLsb_shl(a i:Nat)(hi:i<64):(1#64 <<< a).getLsbD i=decide (a=i):=by
 show (BitVec.twoPow 64 a).getLsbD i=_
 rw [BitVec.getLsbD_twoPow]
 by_cases h:a=i
 ·subst h;simp [hi]
 simp [h]
theorem RowsOk.push{rows:List (BitVec 64)}{e:Pt}(h:RowsOk nd es rows)(he:0<=e.u/\e.u<e.v/\e.v<nd)(hn:nd<=64):RowsOk nd (es++[e]) (addRow rows e):=by
 have hl:=h.len
 refine ⟨by rw [addRow_len];exact hl,λv w v0 v1 w0 w1=>?_⟩
 rw [addRow_at (by omega) v v0 (by omega)]
 have M:=h.bit v w v0 v1 w0 w1
 have Z:∀a b:Int,((⟨a,b⟩:Pt)=e)↔(a=e.u/\b=e.v):=λa b=>by rw [Pt.ext_iff']
 simp only [List.mem_append,List.mem_singleton,Z]
 by_cases hv:e.v=v
 ·rw [if_pos hv,BitVec.getLsbD_or,getLsb_shl _ _<|by omega,hv,M]
  have e1:(e.u.toNat=w.toNat)↔(w=e.u/\v=e.v):=by omega
  have e2:¬(v=e.u/\w=e.v):=by omega
  rw [decide_eq_decide.2 e1]
  rw [←Bool.decide_or,decide_eq_decide]
  constructor
  ·rintro ((a|b)|c)
   ·exact .inl<|.inl a
   ·exact .inr<|.inl b
   exact .inr<|.inr ⟨c.1,rfl⟩
  rintro ((a|c)|(b|c))
  ·exact .inl<|.inl a
  ·exact absurd c<|λc=>by omega
  ·exact .inl<|.inr b
  exact .inr ⟨c.1,hv.symm⟩
 rw [if_neg hv]
 by_cases hu:e.u=v
 ·rw [if_pos hu,BitVec.getLsbD_or,getLsb_shl _ _<|by omega,hu,M]
  have e1:(e.v.toNat=w.toNat)↔(v=e.u/\w=e.v):=by omega
  have e2:¬(w=e.u/\v=e.v):=by omega
  rw [decide_eq_decide.2 e1]
  rw [←Bool.decide_or,decide_eq_decide]
  constructor
  ·rintro ((a|b)|c)
   ·exact .inl<|.inl a
   ·exact .inr<|.inl b
   exact .inl<|.inr ⟨rfl,c.2⟩
  rintro ((a|c)|(b|c))
  ·exact .inl<|.inl a
  ·exact .inr ⟨hu.symm,c.2⟩
  ·exact .inl<|.inr b
  exact absurd c<|λc=>by omega
 rw [if_neg hu,M]
 have e1:¬(v=e.u/\w=e.v):=by omega
 have e2:¬(w=e.u/\v=e.v):=by omega
 simp [e1,e2]
theorem rowsB_ok(h:GrOk nd es):∀k,k<=es.length->RowsOk nd (es.take k) (ek nd (es.take k))
 |0,_=>by simpa [ek] using RowsOk.start h.rng
 |k+1,hk=>by
  rw [rowsB_take (by omega),take_at es k<|by omega]
  exact (rowsB_ok h k<|by omega).push (h.at<|by omega) h.rng.2
theorem GrOk.rows(h:GrOk nd es):RowsOk nd es (ek nd es):=by
 have:=rowsB_ok h es.length (Nat.le_refl _)
 rwa [List.take_length] at this
end Go.Sl
