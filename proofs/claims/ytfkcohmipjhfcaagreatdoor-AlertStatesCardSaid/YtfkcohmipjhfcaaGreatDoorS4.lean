/- A part of the proofs of statements of this seat: contracts of functions, and the plain laws that they lean on. No conditions. -/
import Derived.Test.YtfkcohmipjhfcaaGreatDoorS3
import Derived.Test.YtfkcohmipjhfcaaGreatDoorProg
set_option linter.unusedVariables false
set_option linter.unusedSimpArgs false
set_option linter.unusedSectionVars false
open Go.Proofs.Tryz (prog)
namespace Go.Sl
structure GrOk (nodes:Int) (es:List Pt):Prop where
 rng:0<=nodes/\nodes<=64
 asc:AscP es
 edge:∀e∈es,0<=e.u/\e.u<e.v/\e.v<nodes
section
variable {nodes u v w:Int}{es:List Pt}
end
def badE(nodes:Int)(e:Pt):Int:=if e.u<0\/e.v<=e.u\/nodes<=e.v then 6 else 0
def checkG(nodes:Int)(es:List Pt):Int:=if nodes<0\/64<nodes then 1 else scanL (badE nodes) Pt.lt none es
theorem badE_zero{nodes:Int}{e:Pt}:badE nodes e=0↔0<=e.u/\e.u<e.v/\e.v<nodes:=by
 unfold badE;split<;>omega
theorem checkG_ok{nodes:Int}{es:List Pt}:checkG nodes es=0↔GrOk nodes es:=by
 unfold checkG
 split
 ·rename_i h
  exact ⟨λe=>by omega,λe=>by have:=e.rng;omega⟩
 ·rename_i h
  rw [scanL_zero Pt.lin]
  constructor
  ·rintro ⟨h1,h2⟩;exact ⟨by omega,h2,λe he=>badE_zero.1 (h1 e he)⟩
  ·intro h1;exact ⟨λe he=>badE_zero.2 (h1.edge e he),h1.asc⟩
variable {nodes:Int}{es:List Pt}
theorem GrOk.at(h:GrOk nodes es){k:Nat}(hk:k<es.length):0<=(e_ es k).u/\(e_ es k).u<(e_ es k).v/\(e_ es k).v<nodes:=h.edge _ (at_mem (by omega) (by omega))
theorem flt_yes{l:List Pt}{P:Pt->Bool}{k:Nat}(hk:k<l.length)(h:P (e_ l k)=true):(l.take (k+1)).filter P=(l.take k).filter P++[e_ l k]:=by
 rw [take_at l k hk,List.filter_append];simp [h]
theorem flt_no{l:List Pt}{P:Pt->Bool}{k:Nat}(hk:k<l.length)(h:P (e_ l k)=false):(l.take (k+1)).filter P=(l.take k).filter P:=by
 rw [take_at l k hk,List.filter_append];simp [h]
theorem asc_nodup{l:List Pt}(h:AscP l):l.Nodup:=h.imp fun {a b} h e=>Pt.lin.ne h e
end Go.Sl
namespace Go.Sl
def edgeP(u v:Int):Pt:=⟨if v<u then v else u,if u<v then v else u⟩
theorem Pt.cmp_zero(a b:Pt):Pt.cmp a b=0↔a=b:=by
 rw [Pt.ext_iff']
 unfold Pt.cmp
 split<;>(try split)<;>(try split)<;>(try split)<;>omega
section
variable {es:List Pt}{e:Pt}{i:Nat}{q:Bool}
end
end Go.Sl
namespace Go.Sl
set_option maxRecDepth 10000
instance:Enc (BitVec 64):=⟨λb=>[U64 b],1,by omega,λ_=>rfl,λ_ u h=>by simp at h;subst h;rfl⟩
def addRow(rows:List (BitVec 64))(e:Pt):List (BitVec 64):=
 if 0<=e.u/\e.u<e.v/\e.v<rows.length then
  (rows.set e.u.toNat (e_ rows e.u ||| 1#64 <<< e.v.toNat)).set e.v.toNat (e_ (rows.set e.u.toNat (e_ rows e.u ||| 1#64 <<< e.v.toNat)) e.v ||| 1#64 <<< e.u.toNat)
 else rows
def rows0(nd:Int):List (BitVec 64):=List.replicate (min (max nd 0) 64).toNat 0#64
def ek(nd:Int)(es:List Pt):List (BitVec 64):=es.foldl addRow (rows0 nd)
theorem addRow_len(rows:List (BitVec 64))(e:Pt):(addRow rows e).length=rows.length:=by
 unfold addRow;split<;>simp
theorem rowsB_take{nd:Int}{es:List Pt}{k:Nat}(h:k<es.length):ek nd (es.take (k+1))=addRow (ek nd (es.take k)) (e_ es k):=by
 unfold ek;rw [take_at es k h,List.foldl_append];rfl
theorem rowsB_len(nd:Int)(es:List Pt):(ek nd es).length=(min (max nd 0) 64).toNat:=by
 unfold ek
 have:∀(es:List Pt) (r:List (BitVec 64)),(es.foldl addRow r).length=r.length:=λes=>by
  induction es with
  |nil=>intro r;rfl
  |cons e es ih=>intro r;rw [List.foldl_cons,ih,addRow_len]
 rw [this];simp [rows0]
theorem at_rep64(n:Nat)(i:Int):e_ (List.replicate n (0#64)) i=0#64:=by
 unfold e_
 rw [List.getD_eq_getElem?_getD,List.getElem?_replicate]
 split<;>rfl
structure RowsOk (nd:Int) (es:List Pt) (rows:List (BitVec 64)):Prop where
 len:(rows.length:Int)=nd
 bit:∀v w:Int,0<=v->v<nd->0<=w->w<64->((e_ rows v).getLsbD w.toNat=decide ((⟨v,w⟩:Pt)∈es\/(⟨w,v⟩:Pt)∈es))
theorem RowsOk.start{nd:Int}(h:0<=nd/\nd<=64):RowsOk nd [] (rows0 nd):=
 ⟨by unfold rows0;simp;omega,λv w _ _ _ _=>by unfold rows0;rw [at_rep64];simp⟩
theorem addRow_at{rows:List (BitVec 64)}{e:Pt}(h:0<=e.u/\e.u<e.v/\e.v<rows.length)(j:Int)(h0:0<=j)(h1:j<rows.length) :
  e_ (addRow rows e) j=if e.v=j then e_ rows e.v ||| 1#64 <<< e.u.toNat else if e.u=j then e_ rows e.u ||| 1#64 <<< e.v.toNat else e_ rows j:=by
 unfold addRow
 rw [if_pos h,at_set _ e.v j _ (by omega) h0 (by rw [List.length_set];omega)]
 by_cases hv:e.v=j
 ·rw [if_pos hv,if_pos hv,at_set _ e.u e.v _ (by omega) (by omega) (by omega),if_neg (by omega)]
 ·rw [if_neg hv,if_neg hv,at_set _ e.u j _ (by omega) h0 (by omega)]
theorem getLsb_shl(a i:Nat)(hi:i<64):(1#64 <<< a).getLsbD i=decide (a=i):=by
 show (BitVec.twoPow 64 a).getLsbD i=_
 rw [BitVec.getLsbD_twoPow]
 by_cases h:a=i
 ·subst h;simp [hi]
 ·simp [h]
theorem RowsOk.push{nd:Int}{es:List Pt}{rows:List (BitVec 64)}{e:Pt}(h:RowsOk nd es rows)(he:0<=e.u/\e.u<e.v/\e.v<nd)(hn:nd<=64):RowsOk nd (es++[e]) (addRow rows e):=by
 have hl:=h.len
 refine ⟨by rw [addRow_len];exact hl,λv w v0 v1 w0 w1=>?_⟩
 rw [addRow_at (by omega) v v0 (by omega)]
 have hb:=h.bit v w v0 v1 w0 w1
 have hext:∀a b:Int,((⟨a,b⟩:Pt)=e)↔(a=e.u/\b=e.v):=λa b=>by rw [Pt.ext_iff']
 simp only [List.mem_append,List.mem_singleton,hext]
 by_cases hv:e.v=v
 ·rw [if_pos hv,BitVec.getLsbD_or,getLsb_shl _ _ (by omega),hv,hb]
  have e1:(e.u.toNat=w.toNat)↔(w=e.u/\v=e.v):=by omega
  have e2:¬(v=e.u/\w=e.v):=by omega
  rw [decide_eq_decide.2 e1]
  rw [←Bool.decide_or,decide_eq_decide]
  constructor
  ·rintro ((a|b)|c)
   ·exact .inl (.inl a)
   ·exact .inr (.inl b)
   ·exact .inr (.inr ⟨c.1,rfl⟩)
  ·rintro ((a|c)|(b|c))
   ·exact .inl (.inl a)
   ·exact absurd c (λc=>by omega)
   ·exact .inl (.inr b)
   ·exact .inr ⟨c.1,hv.symm⟩
 ·rw [if_neg hv]
  by_cases hu:e.u=v
  ·rw [if_pos hu,BitVec.getLsbD_or,getLsb_shl _ _ (by omega),hu,hb]
   have e1:(e.v.toNat=w.toNat)↔(v=e.u/\w=e.v):=by omega
   have e2:¬(w=e.u/\v=e.v):=by omega
   rw [decide_eq_decide.2 e1]
   rw [←Bool.decide_or,decide_eq_decide]
   constructor
   ·rintro ((a|b)|c)
    ·exact .inl (.inl a)
    ·exact .inr (.inl b)
    ·exact .inl (.inr ⟨rfl,c.2⟩)
   ·rintro ((a|c)|(b|c))
    ·exact .inl (.inl a)
    ·exact .inr ⟨hu.symm,c.2⟩
    ·exact .inl (.inr b)
    ·exact absurd c (λc=>by omega)
  ·rw [if_neg hu,hb]
   have e1:¬(v=e.u/\w=e.v):=by omega
   have e2:¬(w=e.u/\v=e.v):=by omega
   simp [e1,e2]
theorem rowsB_ok{nd:Int}{es:List Pt}(h:GrOk nd es):∀k,k<=es.length->RowsOk nd (es.take k) (ek nd (es.take k))
 |0,_=>by simpa [ek] using RowsOk.start h.rng
 |k+1,hk=>by
  rw [rowsB_take (by omega),take_at es k (by omega)]
  exact (rowsB_ok h k (by omega)).push (h.at (by omega)) h.rng.2
theorem GrOk.rows{nd:Int}{es:List Pt}(h:GrOk nd es):RowsOk nd es (ek nd es):=by
 have:=rowsB_ok h es.length (Nat.le_refl _)
 rwa [List.take_length] at this
end Go.Sl
namespace Go.Sl
section
variable {P:Program}{κ:Ctx}{N:Frm}{Q:Exit->Act->World->Prop}{L:Env}{I J:List Item}
variable {d:Option Tmp}{ty:TypeId}{ps:String}{af:Array Edge}{gd:Option (Nat×Bool)}
theorem Runs.getAU{xs:List (BitVec 64)}{x:Operand}{T sz by' b E:Nat}{z:List Value}{i:Int}(hT:tyF P T=some (sz,false,by',z))(hx:eo L x=some (.pointer (some ⟨b,0+i.toNat*1,none⟩)))(hb:BlkRd κ J b (cells xs) E)(h0:0<=i)(hn:i<xs.length) :
  Runs P κ N ⟨d,.load T x,ty,ps,af,gd⟩ L J (U64 (e_ xs i)):=by
 refine Runs.loadB hT hx hb ?_
 have:=cells_get xs i.toNat 0 (by omega) (by decide)
 rw [show 0+i.toNat*1=i.toNat*Enc.sz (BitVec 64)+0 by show 0+i.toNat*1=i.toNat*1+0;omega,this,at_eq h0 hn];rfl
theorem cells_setU(xs:List (BitVec 64))(i:Nat)(n:BitVec 64)(h:i<xs.length):(cells xs).take i++[U64 n]++(cells xs).drop (i+1)=cells (xs.set i n):=by
 induction xs generalizing i with
 |nil=>simp at h
 |cons x xs ih=>
  cases i with
  |zero=>rfl
  |succ i=>
   have h':i<xs.length:=by simpa using h
   have e:cells (x::xs)=U64 x::cells xs:=rfl
   rw [e,List.set_cons_succ]
   have e2:cells (x::xs.set i n)=U64 x::cells (xs.set i n):=rfl
   rw [e2,←ih i h'];rfl
theorem Eff.setAU{xs:List (BitVec 64)}{x y:Operand}{T sz by' b E:Nat}{ag:Bool}{z:List Value}{i:Int}{n:BitVec 64}{I':List Item}(hT:tyF P T=some (sz,ag,by',z))(hs1:sz=1)(hx:eo L x=some (.pointer (some ⟨b,0+i.toNat*1,none⟩)))(hy:eo L y=some (U64 n))(h0:0<=i)(hn:i<xs.length)
  (hat:At I (e8 b (cells xs) E) (e8 b (cells (xs.set i.toNat n)) E) I') :
  Eff P κ N Q ⟨none,.store T x y,ty,ps,af,gd⟩ L I λL' I''=>L'=L/\I''=I':=by
 have hl:(cells xs).length=xs.length:=by rw [cells_length];show xs.length*1=_;omega
 refine Eff.store (vs:=[U64 n]) (cs':=cells (xs.set i.toNat n)) hT hx hy C (by rw [hs1];rfl) (λu hu=>by rw [List.mem_singleton] at hu;subst hu;rfl) (by rw [hl];simp;omega) ?_ hat
 have h:=cells_setU xs i.toNat n (by omega)
 rw [show 0+i.toNat*1=i.toNat by omega]
 exact h
end
end Go.Sl
namespace Go.Sl
open Go.Proofs
abbrev Aa:= @Sub.cons
abbrev Ab:= @Runs.fieldAddr
abbrev Ac:= @Tryz.underlying22
abbrev Ad:= @Runs.move
abbrev Af:= @G.nt
abbrev Ah:= @W.sr
abbrev Ai:= @V.then_ret
abbrev Aj:= @V.then
abbrev Ak:= @V.block_normal
abbrev Al:= @Runs.pickf
abbrev Am:= @Runs.pickt
abbrev Ao:= @Eff.call
abbrev Ap:= @V.then_exit
abbrev Aq:= @W.sub
abbrev Ar:= @Tryz.underlying109
abbrev As:= @Runs.ld
abbrev Au:= @W.seq
abbrev Av:= @V.block_ret
abbrev Aw:= @W.ret
abbrev Ax:= @W.region
abbrev Ay:= @W.skip
abbrev Az:= @Tryz.underlying28
abbrev A0:= @Fit.m
abbrev A1:= @V.ret1
abbrev A2:= @Runs.extract
abbrev A3:= @Runs.idx
abbrev A4:= @W.block
abbrev A5:= @Fit.sub
abbrev A6:= @W.ite
abbrev A7:= @V.block_hit
abbrev A8:= @Eff.alloc
abbrev A9:= @Runs.lss
abbrev Ba:= @G.split
abbrev Bb:= @Runs.assign
abbrev Bc:= @Eff.box
abbrev Bd:= @G.nil
abbrev Be:= @Runs.neq
abbrev Bf:= @Runs.build
abbrev Bg:= @Sl.o
abbrev Bh:= @Sl.f
abbrev Bi:= @Runs.eql
abbrev Bj:= @Sub.nil
abbrev Bk:= @Runs.nilCheck
abbrev Bl:= @W.drawn
abbrev Bm:= @Runs.lens
abbrev Bo:= @Tryz.underlying46
abbrev Bp:= @Runs.gets
abbrev Bq:= @Runs.lds
abbrev Br:= @A.hold
abbrev Bs:= @W.exit
abbrev Bt:= @Fit.nilvc
abbrev Bu:= @W.loop
abbrev Bv:= @Runs.gtr
abbrev Bw:= @Tryz.underlying58
abbrev Bx:= @Runs.lenT
abbrev Bz:= @Runs.get
abbrev B0:= @Eff.bs
abbrev B1:= @Eff.app
abbrev B2:= @V.nx
abbrev B3:= @ep.pull
abbrev B4:= @Fit.s
abbrev B5:= @Sl.fit
abbrev B6:= @Tryz.underlying3
abbrev B7:= @W.yes
abbrev B8:= @Runs.geq
abbrev B9:= @lookO
abbrev Ca:= @at_mem
abbrev Cb:= @Runs.not
abbrev Cc:= @Fit.trans
abbrev Cd:= @Es2_2
abbrev Ce:= @Tryz.underlying64
abbrev Cf:= @Tryz.underlying228
abbrev Cg:= @TabRd.fit
abbrev Ch:= @Tryz.underlying40
abbrev Ci:= @Tryz.underlying337
abbrev Cj:= @Eff.make
abbrev Ck:= @Tryz.underlying79
abbrev Cl:= @Runs.idxArr
abbrev Cm:= @ep.fit
abbrev Cn:= @Tryz.underlying33
abbrev Co:= @V.ret2
abbrev Cp:= @Wanted.plain
abbrev Cq:= @Wanted.on
abbrev Cr:= @lookV
abbrev Cs:= @Eff.set
abbrev Ct:= @Eff.callv
abbrev Cu:= @take_at
abbrev Cv:= @Tryz.underlying264
abbrev Cw:= @Tryz.underlying111
abbrev Cx:= @Runs.andB
abbrev Cy:= @Tryz.underlying35
abbrev Cz:= @scanL_bad
abbrev C0:= @Runs.notd
abbrev C1:= @BlkRd.fit
abbrev C2:= @W.no
abbrev C3:= @Tryz.underlying65
abbrev C4:= @lookI
abbrev C5:= @Es6_6
abbrev C6:= @Tryz.underlying108
abbrev C7:= @Runs.loadB
abbrev C8:= @Runs.getf0
abbrev C9:= @D.split
abbrev Da:= @at_set
abbrev Db:= @V.retc
abbrev Dc:= @Runs.fld
abbrev De:= @Runs.getf
abbrev Df:= @listB_zero
abbrev Dg:= @D.stop
abbrev Dh:= @A.done
abbrev Di:= @V.mi
abbrev Dj:= @Fit.refl
abbrev Dk:= @all_succ
abbrev Dl:= @Tryz.underlying301
abbrev Dn:= @Tryz.underlying297
abbrev Do:= @Tryz.underlying175
abbrev Dp:= @Tryz.underlying135
abbrev Dq:= @V.retc1
abbrev Ds:= @D.step
abbrev Dt:= @Sl.drop
abbrev Du:= @Runs.leq
abbrev Dv:= @BlkRd.of
abbrev Dw:= @sumN_congr
abbrev Dx:= @at_get
abbrev Dy:= @Tryz.underlying339
abbrev D0:= @Tryz.underlying277
abbrev D1:= @Tryz.underlying211
abbrev D2:= @Runs.max
abbrev D3:= @isort_permG
abbrev D4:= @ep.at
abbrev D5:= @drop_at
abbrev D6:= @Tryz.underlying5
abbrev D7:= @Tryz.underlying4
abbrev D8:= @Runs.makeFunc
abbrev D9:= @Es7_1
abbrev Ea:= @Tryz.underlying132
abbrev Eb:= @at_append_left
abbrev Ec:= @G.eff
abbrev Ed:= @Es2_1
abbrev Ee:= @Runs.loraw
abbrev Ef:= @Runs.getB
abbrev Eg:= @Runs.lo
abbrev Eh:= @GY.read
abbrev Ei:= @W.cond
abbrev Ej:= @all2
abbrev Ek:= @Runs.andNotB
abbrev El:= @sortZ_len
abbrev Em:= @mem_listB
abbrev En:= @W.cut
abbrev Eo:= @Tryz.underlying181
abbrev Ep:= @Tryz.underlying102
abbrev Eq:= @Sl.vec
abbrev Er:= @Runs.neB
abbrev Es:= @Es5_5
abbrev Et:= @all1
abbrev Eu:= @Tryz.underlying44
abbrev Ew:= @Tryz.underlying31
abbrev Ex:= @Sl.dropn
abbrev Ey:= @Runs.shrB
abbrev Ez:= @Runs.orB
abbrev E0:= @Runs.mul
abbrev E1:= @Runs.min
abbrev E2:= @Es7_7
abbrev E3:= @scanL_step
abbrev E4:= @V.block_miss
abbrev E5:= @Runs.getAU
theorem kr{p:Prop}(h:p:=by kernel_rfl):p:=h
theorem dc{p:Prop}(h:p:=by decide):p:=h
theorem lcn{p:Prop}(h:p:=by simp only [List.length_cons,List.length_nil];omega):p:=h
theorem asm{p:Prop}(h:p:=by assumption):p:=h
theorem lat{p:Prop}(h:p:=by first|omega|(simp only [List.length_append,List.length_take,List.length_drop,List.length_replicate]<;>omega)):p:=h
theorem lap{p:Prop}(h:p:=by simp only [List.length_append,List.length_cons,List.length_nil];omega):p:=h
theorem olp{p:Prop}(h:p:=by first|omega|(simp only [List.length_append,List.length_cons,List.length_nil];omega)):p:=h
theorem olr{p:Prop}(h:p:=by first|omega|(simp only [List.length_replicate];omega)):p:=h
end Go.Sl
namespace Go.Sl
open Go.Proofs
theorem ty2:tyF prog 2=some (1,false,8,[e7 (0)]):=by kernel_rfl
theorem ef:tyF prog 3=some (1,false,8,[e7 (0)]):=by kernel_rfl
theorem ty4:tyF prog 4=some (1,false,1,[.bool false]):=by kernel_rfl
theorem ty5:tyF prog 5=some (1,false,1,[.int .u8 (0)]):=by kernel_rfl
theorem ty22:tyF prog 22=some (1,false,24,[.slice none 0 0]):=by kernel_rfl
theorem ty28:tyF prog 28=some (1,false,24,[.slice none 0 0]):=by kernel_rfl
theorem ty31:tyF prog 31=some (3,true,24,[e7 (0),e7 (0),e7 (0)]):=by kernel_rfl
theorem fld31_0:fldF prog 31 0=some 0:=by kernel_rfl
theorem fld31_1:fldF prog 31 1=some 1:=by kernel_rfl
theorem fld31_2:fldF prog 31 2=some 2:=by kernel_rfl
theorem pl31(w:World):(placesRun prog 31).run prog w = .ok #[(0,1),(1,1),(2,1)] w:=by kernel_rfl
theorem ty40:tyF prog 40=some (2,true,16,[e7 (0),e7 (0)]):=by kernel_rfl
theorem fld40_0:fldF prog 40 0=some 0:=by kernel_rfl
theorem fld40_1:fldF prog 40 1=some 1:=by kernel_rfl
theorem pl40(w:World):(placesRun prog 40).run prog w = .ok #[(0,1),(1,1)] w:=by kernel_rfl
theorem ty42:tyF prog 42=some (6,true,64,[e7 (0),e7 (0),e7 (0),.slice none 0 0,e7 (0),e7 (0)]):=by kernel_rfl
theorem fld42_0:fldF prog 42 0=some 0:=by kernel_rfl
theorem fld42_1:fldF prog 42 1=some 1:=by kernel_rfl
theorem fld42_2:fldF prog 42 2=some 2:=by kernel_rfl
theorem fld42_3:fldF prog 42 3=some 3:=by kernel_rfl
theorem fld42_4:fldF prog 42 4=some 4:=by kernel_rfl
theorem pl42(w:World):(placesRun prog 42).run prog w = .ok #[(0,1),(1,1),(2,1),(3,1),(4,2)] w:=by kernel_rfl
theorem ty44:tyF prog 44=some (3,true,24,[e7 (0),e7 (0),.bool false]):=by kernel_rfl
theorem fld44_0:fldF prog 44 0=some 0:=by kernel_rfl
theorem fld44_1:fldF prog 44 1=some 1:=by kernel_rfl
theorem fld44_2:fldF prog 44 2=some 2:=by kernel_rfl
theorem pl44(w:World):(placesRun prog 44).run prog w = .ok #[(0,1),(1,1),(2,1)] w:=by kernel_rfl
theorem ty46:tyF prog 46=some (1,false,24,[.slice none 0 0]):=by kernel_rfl
theorem ty48:tyF prog 48=some (2,true,32,[e7 (0),.slice none 0 0]):=by kernel_rfl
theorem fld48_0:fldF prog 48 0=some 0:=by kernel_rfl
theorem fld48_1:fldF prog 48 1=some 1:=by kernel_rfl
theorem pl48(w:World):(placesRun prog 48).run prog w = .ok #[(0,1),(1,1)] w:=by kernel_rfl
theorem ty64:tyF prog 64=some (2,true,16,[e7 (0),e7 (0)]):=by kernel_rfl
theorem ty65:tyF prog 65=some (1,false,24,[.slice none 0 0]):=by kernel_rfl
theorem ty79:tyF prog 79=some (1,false,24,[.slice none 0 0]):=by kernel_rfl
theorem ty88:tyF prog 88=some (2,true,32,[e7 (0),.slice none 0 0]):=by kernel_rfl
theorem pl88(w:World):(placesRun prog 88).run prog w = .ok #[(0,1),(1,1)] w:=by kernel_rfl
theorem ty102:tyF prog 102=some (5,true,72,[.slice none 0 0,e7 (0),e7 (0),e7 (0),.slice none 0 0]):=by kernel_rfl
theorem fld102_1:fldF prog 102 1=some 1:=by kernel_rfl
theorem pl102(w:World):(placesRun prog 102).run prog w = .ok #[(0,1),(1,2),(3,2)] w:=by kernel_rfl
theorem ty108:tyF prog 108=some (7,true,56,[e7 (0),e7 (0),e7 (0),e7 (0),e7 (0),e7 (0),e7 (0)]):=by kernel_rfl
theorem fld108_0:fldF prog 108 0=some 0:=by kernel_rfl
theorem fld108_1:fldF prog 108 1=some 1:=by kernel_rfl
theorem fld108_2:fldF prog 108 2=some 2:=by kernel_rfl
theorem fld108_3:fldF prog 108 3=some 3:=by kernel_rfl
theorem fld108_4:fldF prog 108 4=some 4:=by kernel_rfl
theorem fld108_5:fldF prog 108 5=some 5:=by kernel_rfl
theorem fld108_6:fldF prog 108 6=some 6:=by kernel_rfl
theorem pl108(w:World):(placesRun prog 108).run prog w = .ok #[(0,1),(1,1),(2,1),(3,1),(4,1),(5,1),(6,1)] w:=by kernel_rfl
theorem ty109:tyF prog 109=some (1,false,24,[.slice none 0 0]):=by kernel_rfl
theorem ty111:tyF prog 111=some (2,true,32,[e7 (0),.slice none 0 0]):=by kernel_rfl
theorem fld111_0:fldF prog 111 0=some 0:=by kernel_rfl
theorem fld111_1:fldF prog 111 1=some 1:=by kernel_rfl
theorem pl111(w:World):(placesRun prog 111).run prog w = .ok #[(0,1),(1,1)] w:=by kernel_rfl
theorem ty125:tyF prog 125=some (2,true,32,[.slice none 0 0,e7 (0)]):=by kernel_rfl
theorem fld125_0:fldF prog 125 0=some 0:=by kernel_rfl
theorem fld125_1:fldF prog 125 1=some 1:=by kernel_rfl
theorem pl125(w:World):(placesRun prog 125).run prog w = .ok #[(0,1),(1,1)] w:=by kernel_rfl
theorem ty130:tyF prog 130=some (1,false,8,[.nilFunc]):=by kernel_rfl
end Go.Sl
namespace Go.Sl
open Go.Proofs
theorem ty132:tyF prog 132=some (5,true,16,[.bool false,.bool false,.bool false,.bool false,.nilFunc]):=by kernel_rfl
theorem fld132_0:fldF prog 132 0=some 0:=by kernel_rfl
theorem fld132_1:fldF prog 132 1=some 1:=by kernel_rfl
theorem fld132_2:fldF prog 132 2=some 2:=by kernel_rfl
theorem fld132_3:fldF prog 132 3=some 3:=by kernel_rfl
theorem fld132_4:fldF prog 132 4=some 4:=by kernel_rfl
theorem pl132(w:World):(placesRun prog 132).run prog w = .ok #[(0,1),(1,1),(2,1),(3,1),(4,1)] w:=by kernel_rfl
theorem ty135:tyF prog 135=some (2,true,16,[e7 (0),e7 (0)]):=by kernel_rfl
theorem fld135_0:fldF prog 135 0=some 0:=by kernel_rfl
theorem fld135_1:fldF prog 135 1=some 1:=by kernel_rfl
theorem pl135(w:World):(placesRun prog 135).run prog w = .ok #[(0,1),(1,1)] w:=by kernel_rfl
theorem ty146:tyF prog 146=some (6,true,48,[e7 (0),e7 (0),e7 (0),e7 (0),e7 (0),e7 (0)]):=by kernel_rfl
theorem fld146_0:fldF prog 146 0=some 0:=by kernel_rfl
theorem fld146_1:fldF prog 146 1=some 1:=by kernel_rfl
theorem fld146_2:fldF prog 146 2=some 2:=by kernel_rfl
theorem fld146_3:fldF prog 146 3=some 3:=by kernel_rfl
theorem fld146_4:fldF prog 146 4=some 4:=by kernel_rfl
theorem fld146_5:fldF prog 146 5=some 5:=by kernel_rfl
theorem pl146(w:World):(placesRun prog 146).run prog w = .ok #[(0,1),(1,1),(2,1),(3,1),(4,1),(5,1)] w:=by kernel_rfl
theorem ty153:tyF prog 153=some (2,true,16,[e7 (0),.bool false]):=by kernel_rfl
theorem fld153_0:fldF prog 153 0=some 0:=by kernel_rfl
theorem fld153_1:fldF prog 153 1=some 1:=by kernel_rfl
theorem pl153(w:World):(placesRun prog 153).run prog w = .ok #[(0,1),(1,1)] w:=by kernel_rfl
theorem ty175:tyF prog 175=some (1,false,8,[.int .u64 (0)]):=by kernel_rfl
theorem ty208:tyF prog 208=some (2,true,32,[.int .u64 (0),.slice none 0 0]):=by kernel_rfl
theorem fld208_0:fldF prog 208 0=some 0:=by kernel_rfl
theorem fld208_1:fldF prog 208 1=some 1:=by kernel_rfl
theorem pl208(w:World):(placesRun prog 208).run prog w = .ok #[(0,1),(1,1)] w:=by kernel_rfl
theorem ty211:tyF prog 211=some (6,true,112,[.slice none 0 0,.slice none 0 0,.slice none 0 0,.slice none 0 0,.int .u64 (0),.int .u64 (0)]):=by kernel_rfl
theorem fld211_0:fldF prog 211 0=some 0:=by kernel_rfl
theorem fld211_1:fldF prog 211 1=some 1:=by kernel_rfl
theorem fld211_2:fldF prog 211 2=some 2:=by kernel_rfl
theorem fld211_3:fldF prog 211 3=some 3:=by kernel_rfl
theorem fld211_4:fldF prog 211 4=some 4:=by kernel_rfl
theorem fld211_5:fldF prog 211 5=some 5:=by kernel_rfl
theorem pl211(w:World):(placesRun prog 211).run prog w = .ok #[(0,1),(1,1),(2,1),(3,1),(4,1),(5,1)] w:=by kernel_rfl
theorem ty241:tyF prog 241=some (3,true,56,[e7 (0),.slice none 0 0,.slice none 0 0]):=by kernel_rfl
theorem fld241_0:fldF prog 241 0=some 0:=by kernel_rfl
theorem fld241_1:fldF prog 241 1=some 2:=by kernel_rfl
theorem pl241(w:World):(placesRun prog 241).run prog w = .ok #[(0,2),(2,1)] w:=by kernel_rfl
theorem ty264:tyF prog 264=some (64,true,512,[.int .u64 (0),.int .u64 (0),.int .u64 (0),.int .u64 (0),.int .u64 (0),.int .u64 (0),.int .u64 (0),.int .u64 (0),.int .u64 (0),.int .u64 (0),.int .u64 (0),.int .u64 (0),.int .u64 (0),.int .u64 (0),.int .u64 (0),.int .u64 (0),.int .u64 (0),.int .u64 (0),.int .u64 (0),.int .u64 (0),.int .u64 (0),.int .u64 (0),.int .u64 (0),.int .u64 (0),.int .u64 (0),.int .u64 (0),.int .u64 (0),.int .u64 (0),.int .u64 (0),.int .u64 (0),.int .u64 (0),.int .u64 (0),.int .u64 (0),.int .u64 (0),.int .u64 (0),.int .u64 (0),.int .u64 (0),.int .u64 (0),.int .u64 (0),.int .u64 (0),.int .u64 (0),.int .u64 (0),.int .u64 (0),.int .u64 (0),.int .u64 (0),.int .u64 (0),.int .u64 (0),.int .u64 (0),.int .u64 (0),.int .u64 (0),.int .u64 (0),.int .u64 (0),.int .u64 (0),.int .u64 (0),.int .u64 (0),.int .u64 (0),.int .u64 (0),.int .u64 (0),.int .u64 (0),.int .u64 (0),.int .u64 (0),.int .u64 (0),.int .u64 (0),.int .u64 (0)]):=by kernel_rfl
end Go.Sl
namespace Go.Sl
open Go.Proofs
theorem ty301:tyF prog 301=some (1,false,24,[.slice none 0 0]):=by kernel_rfl
theorem ty303:tyF prog 303=some (4,true,48,[e7 (0),e7 (0),e7 (0),.slice none 0 0]):=by kernel_rfl
theorem fld303_0:fldF prog 303 0=some 0:=by kernel_rfl
theorem fld303_1:fldF prog 303 1=some 1:=by kernel_rfl
theorem fld303_2:fldF prog 303 2=some 2:=by kernel_rfl
theorem fld303_3:fldF prog 303 3=some 3:=by kernel_rfl
theorem pl303(w:World):(placesRun prog 303).run prog w = .ok #[(0,1),(1,1),(2,1),(3,1)] w:=by kernel_rfl
theorem ty305:tyF prog 305=some (3,true,24,[e7 (0),e7 (0),e7 (0)]):=by kernel_rfl
theorem fld305_0:fldF prog 305 0=some 0:=by kernel_rfl
theorem fld305_1:fldF prog 305 1=some 1:=by kernel_rfl
theorem fld305_2:fldF prog 305 2=some 2:=by kernel_rfl
theorem pl305(w:World):(placesRun prog 305).run prog w = .ok #[(0,1),(1,1),(2,1)] w:=by kernel_rfl
theorem ty336:tyF prog 336=some (4,true,32,[e7 (0),e7 (0),e7 (0),e7 (0)]):=by kernel_rfl
theorem fld336_0:fldF prog 336 0=some 0:=by kernel_rfl
theorem fld336_1:fldF prog 336 1=some 3:=by kernel_rfl
theorem pl336(w:World):(placesRun prog 336).run prog w = .ok #[(0,3),(3,1)] w:=by kernel_rfl
theorem ty337:tyF prog 337=some (1,false,24,[.slice none 0 0]):=by kernel_rfl
theorem ty339:tyF prog 339=some (5,true,104,[.slice none 0 0,.slice none 0 0,.slice none 0 0,.slice none 0 0,e7 (0)]):=by kernel_rfl
theorem fld339_0:fldF prog 339 0=some 0:=by kernel_rfl
theorem fld339_1:fldF prog 339 1=some 1:=by kernel_rfl
theorem fld339_2:fldF prog 339 2=some 2:=by kernel_rfl
theorem fld339_3:fldF prog 339 3=some 3:=by kernel_rfl
theorem fld339_4:fldF prog 339 4=some 4:=by kernel_rfl
theorem pl339(w:World):(placesRun prog 339).run prog w = .ok #[(0,1),(1,1),(2,1),(3,1),(4,1)] w:=by kernel_rfl
theorem call16:callable prog 16=true:=by kernel_rfl
theorem call17:callable prog 17=true:=by kernel_rfl
theorem call18:callable prog 18=true:=by kernel_rfl
theorem call19:callable prog 19=true:=by kernel_rfl
theorem call20:callable prog 20=true:=by kernel_rfl
theorem call21:callable prog 21=true:=by kernel_rfl
theorem call22:callable prog 22=true:=by kernel_rfl
theorem call23:callable prog 23=true:=by kernel_rfl
theorem call24:callable prog 24=true:=by kernel_rfl
theorem call26:callable prog 26=true:=by kernel_rfl
theorem call28:callable prog 28=true:=by kernel_rfl
theorem call29:callable prog 29=true:=by kernel_rfl
theorem call32:callable prog 32=true:=by kernel_rfl
theorem call37:callable prog 37=true:=by kernel_rfl
theorem call39:callable prog 39=true:=by kernel_rfl
theorem call40:callable prog 40=true:=by kernel_rfl
theorem call44:callable prog 44=true:=by kernel_rfl
theorem call46:callable prog 46=true:=by kernel_rfl
theorem call49:callable prog 49=true:=by kernel_rfl
theorem call59:callable prog 59=true:=by kernel_rfl
theorem call69:callable prog 69=true:=by kernel_rfl
theorem call70:callable prog 70=true:=by kernel_rfl
theorem call76:callable prog 76=true:=by kernel_rfl
theorem call77:callable prog 77=true:=by kernel_rfl
theorem call78:callable prog 78=true:=by kernel_rfl
theorem call79:callable prog 79=true:=by kernel_rfl
theorem call80:callable prog 80=true:=by kernel_rfl
theorem call81:callable prog 81=true:=by kernel_rfl
theorem call82:callable prog 82=true:=by kernel_rfl
theorem call83:callable prog 83=true:=by kernel_rfl
theorem call84:callable prog 84=true:=by kernel_rfl
theorem call85:callable prog 85=true:=by kernel_rfl
theorem call86:callable prog 86=true:=by kernel_rfl
theorem call88:callable prog 88=true:=by kernel_rfl
theorem call89:callable prog 89=true:=by kernel_rfl
theorem call93:callable prog 93=true:=by kernel_rfl
theorem call94:callable prog 94=true:=by kernel_rfl
theorem call95:callable prog 95=true:=by kernel_rfl
theorem call96:callable prog 96=true:=by kernel_rfl
theorem call97:callable prog 97=true:=by kernel_rfl
theorem call98:callable prog 98=true:=by kernel_rfl
theorem call100:callable prog 100=true:=by kernel_rfl
theorem call101:callable prog 101=true:=by kernel_rfl
theorem call102:callable prog 102=true:=by kernel_rfl
theorem call104:callable prog 104=true:=by kernel_rfl
theorem call109:callable prog 109=true:=by kernel_rfl
theorem call110:callable prog 110=true:=by kernel_rfl
end Go.Sl
namespace Go.Sl
open Go.Proofs
theorem call129:callable prog 129=true:=by kernel_rfl
theorem call130:callable prog 130=true:=by kernel_rfl
theorem call131:callable prog 131=true:=by kernel_rfl
theorem call132:callable prog 132=true:=by kernel_rfl
theorem call139:callable prog 139=true:=by kernel_rfl
theorem call140:callable prog 140=true:=by kernel_rfl
theorem call141:callable prog 141=true:=by kernel_rfl
theorem call142:callable prog 142=true:=by kernel_rfl
theorem call143:callable prog 143=true:=by kernel_rfl
theorem call144:callable prog 144=true:=by kernel_rfl
theorem call145:callable prog 145=true:=by kernel_rfl
theorem call146:callable prog 146=true:=by kernel_rfl
theorem call147:callable prog 147=true:=by kernel_rfl
theorem call148:callable prog 148=true:=by kernel_rfl
theorem call149:callable prog 149=true:=by kernel_rfl
theorem call150:callable prog 150=true:=by kernel_rfl
theorem call151:callable prog 151=true:=by kernel_rfl
theorem call152:callable prog 152=true:=by kernel_rfl
theorem call153:callable prog 153=true:=by kernel_rfl
theorem call154:callable prog 154=true:=by kernel_rfl
theorem call155:callable prog 155=true:=by kernel_rfl
theorem call157:callable prog 157=true:=by kernel_rfl
theorem call158:callable prog 158=true:=by kernel_rfl
theorem call160:callable prog 160=true:=by kernel_rfl
theorem call161:callable prog 161=true:=by kernel_rfl
theorem call162:callable prog 162=true:=by kernel_rfl
theorem call163:callable prog 163=true:=by kernel_rfl
theorem call164:callable prog 164=true:=by kernel_rfl
theorem call165:callable prog 165=true:=by kernel_rfl
theorem call166:callable prog 166=true:=by kernel_rfl
theorem call167:callable prog 167=true:=by kernel_rfl
theorem call168:callable prog 168=true:=by kernel_rfl
theorem call169:callable prog 169=true:=by kernel_rfl
theorem call170:callable prog 170=true:=by kernel_rfl
theorem call171:callable prog 171=true:=by kernel_rfl
theorem call172:callable prog 172=true:=by kernel_rfl
theorem call173:callable prog 173=true:=by kernel_rfl
theorem call174:callable prog 174=true:=by kernel_rfl
theorem call175:callable prog 175=true:=by kernel_rfl
theorem call197:callable prog 197=true:=by kernel_rfl
theorem call198:callable prog 198=true:=by kernel_rfl
theorem call199:callable prog 199=true:=by kernel_rfl
theorem call200:callable prog 200=true:=by kernel_rfl
theorem call205:callable prog 205=true:=by kernel_rfl
theorem call209:callable prog 209=true:=by kernel_rfl
theorem call210:callable prog 210=true:=by kernel_rfl
theorem call211:callable prog 211=true:=by kernel_rfl
theorem call212:callable prog 212=true:=by kernel_rfl
theorem call213:callable prog 213=true:=by kernel_rfl
theorem call214:callable prog 214=true:=by kernel_rfl
theorem call215:callable prog 215=true:=by kernel_rfl
theorem call216:callable prog 216=true:=by kernel_rfl
theorem call219:callable prog 219=true:=by kernel_rfl
theorem call220:callable prog 220=true:=by kernel_rfl
theorem call221:callable prog 221=true:=by kernel_rfl
theorem call222:callable prog 222=true:=by kernel_rfl
theorem call223:callable prog 223=true:=by kernel_rfl
theorem call224:callable prog 224=true:=by kernel_rfl
theorem call225:callable prog 225=true:=by kernel_rfl
theorem call226:callable prog 226=true:=by kernel_rfl
theorem call229:callable prog 229=true:=by kernel_rfl
theorem call230:callable prog 230=true:=by kernel_rfl
theorem call231:callable prog 231=true:=by kernel_rfl
theorem call232:callable prog 232=true:=by kernel_rfl
theorem call233:callable prog 233=true:=by kernel_rfl
theorem call234:callable prog 234=true:=by kernel_rfl
theorem call235:callable prog 235=true:=by kernel_rfl
theorem call236:callable prog 236=true:=by kernel_rfl
theorem call237:callable prog 237=true:=by kernel_rfl
theorem call238:callable prog 238=true:=by kernel_rfl
theorem call250:callable prog 250=true:=by kernel_rfl
theorem call251:callable prog 251=true:=by kernel_rfl
theorem call252:callable prog 252=true:=by kernel_rfl
theorem call253:callable prog 253=true:=by kernel_rfl
theorem call254:callable prog 254=true:=by kernel_rfl
theorem call255:callable prog 255=true:=by kernel_rfl
theorem call256:callable prog 256=true:=by kernel_rfl
theorem call257:callable prog 257=true:=by kernel_rfl
theorem call258:callable prog 258=true:=by kernel_rfl
theorem call259:callable prog 259=true:=by kernel_rfl
theorem call271:callable prog 271=true:=by kernel_rfl
theorem call272:callable prog 272=true:=by kernel_rfl
theorem call275:callable prog 275=true:=by kernel_rfl
theorem call276:callable prog 276=true:=by kernel_rfl
theorem call277:callable prog 277=true:=by kernel_rfl
theorem call280:callable prog 280=true:=by kernel_rfl
theorem call281:callable prog 281=true:=by kernel_rfl
theorem call282:callable prog 282=true:=by kernel_rfl
theorem call283:callable prog 283=true:=by kernel_rfl
theorem call284:callable prog 284=true:=by kernel_rfl
theorem call291:callable prog 291=true:=by kernel_rfl
theorem call292:callable prog 292=true:=by kernel_rfl
theorem call293:callable prog 293=true:=by kernel_rfl
theorem call294:callable prog 294=true:=by kernel_rfl
theorem call295:callable prog 295=true:=by kernel_rfl
theorem call296:callable prog 296=true:=by kernel_rfl
theorem call297:callable prog 297=true:=by kernel_rfl
theorem call298:callable prog 298=true:=by kernel_rfl
theorem call299:callable prog 299=true:=by kernel_rfl
theorem call300:callable prog 300=true:=by kernel_rfl
theorem call301:callable prog 301=true:=by kernel_rfl
theorem call302:callable prog 302=true:=by kernel_rfl
theorem call303:callable prog 303=true:=by kernel_rfl
theorem call309:callable prog 309=true:=by kernel_rfl
theorem call314:callable prog 314=true:=by kernel_rfl
theorem call315:callable prog 315=true:=by kernel_rfl
theorem call317:callable prog 317=true:=by kernel_rfl
theorem call318:callable prog 318=true:=by kernel_rfl
theorem call321:callable prog 321=true:=by kernel_rfl
theorem call323:callable prog 323=true:=by kernel_rfl
theorem call333:callable prog 333=true:=by kernel_rfl
theorem call335:callable prog 335=true:=by kernel_rfl
theorem call336:callable prog 336=true:=by kernel_rfl
theorem call341:callable prog 341=true:=by kernel_rfl
theorem call342:callable prog 342=true:=by kernel_rfl
theorem mixed:prog.follows .mixedOrders=true:=by kernel_rfl
end Go.Sl

namespace Go.Sl
open Go.Proofs
set_option maxRecDepth 4000
variable {κ:Ctx}{I:List Item}
abbrev deck(b:Nat)(lv:Value)(i:Int):Item:=e8 b [lv,e7 i] 125
theorem Mod_ok{n k:Int}(h1:1<=k)(h2:k<=1000000000000):ep prog κ 76 [e7 n,e7 k] I (λr J=>∃x:Int,r=e7 x/\(0<=x/\x<k)/\I=J):=by
 have q1:=Int.tmod_lt_of_pos n (b:=k) om
 have q2:=Int.lt_tmod_of_pos n (b:=k) om
 refine Ce2 Tryz.func76 C C ?_
 refine Ah (Ga C (Af (Ah (Gm C (Gm C (Gr (Runs.rem C C om) (Gm C (Gr (Rad C C) (Gm C (Gr (Runs.rem C C om) (Ga C (Af (Aw ?_)))))))))))))
 have t1:=Int.tmod_nonneg k (a:=Int.tmod n k+k) om
 have t2:=Int.tmod_lt_of_pos (Int.tmod n k+k) (b:=k) om
 exact A1 C C _ A0 ⟨_,rfl,⟨t1,t2⟩,rfl⟩
theorem Next_base{b:Nat}{lv:Value}{ls:List Int}{i:Int}(hl:Sl κ (deck b lv i::I) lv ls)(h0:0<=i){n:Int}(hn:n<=1000000000000):ep prog κ 19 [.pointer (some ⟨b,0,none⟩),e7 n] (e8 b [lv,e7 i] 125::I) (λr J=>∃y:Int×Int,(r=e7 y.1/\(0<=y.1/\(1<=n->y.1<n)/\(n<1->y.1=0))/\0<=y.2)/\J=[]++deck b lv y.2::I):=by
 refine B3 hl.le λhmax=>?_
 refine Ce2 Tryz.func19 C C ?_
 refine Ah (Ga C (Af (Au (Au (Bl mixed (Br (e8 b [lv,e7 i] 125::I) 14 (Dr 0 C (Ad C) (Dr 1 C (A9 C C) (Dr 2 C (Ad C) (C9 (d:=8) C (λg8=>?_) (λg8=>?_)))))))))))
 ·exact Dpo 3 C (Dpo 4 C (Dpo 5 C (Dpo 6 C (Dpo 7 C (Dpo 8 C (Dpo 9 C (Dpo 10 C (Dpo 11 C (Dpo 12 C (Dr 13 C (Am C C) (Dz (Aj (Aq (S3 19 0 1 C C C) (B7 C (Ah (Ga C (Af (Aw (Ai (A1 C C _ A0 ⟨(0,i),⟨rfl,⟨Int.le_refl _,by intro _;show (0:Int)<n;omega,λ_=>rfl⟩,h0⟩,rfl⟩))))))))))))))))))))
 ·refine Dro 3 C (Ad C) (Dro 4 C (Bk C) (Dro 5 C (Ab fld125_1 C) (Dro 6 C (As ef) ?_)))
  refine Dro 7 C (Ad C) (Dro 8 C (Bk C) (Dro 9 C (Ab fld125_0 C) (Dro 10 C (As ty22) ?_)))
  refine Dro 11 C (Bx (α:=Int) (xs:=ls) Ac C (Bh hl)) (Dro 12 C (B8 C C) (Dr 13 C (Al C C) (Dz (Aj (Aq (S3 19 0 1 C C C) (A6 C (λc19=>?_) (λc19=>?_)))))))
  ·exact Ah (Ga C (Af (Aw (Ai (A1 C C _ A0 ⟨(0,i),⟨rfl,⟨Int.le_refl _,by intro _;show (0:Int)<n;omega,λ_=>rfl⟩,h0⟩,rfl⟩)))))
  ·refine Ay (Aj (Au (Bl mixed (Br (e8 b [lv,e7 i] 125::I) 11 (Dr 0 C (Ad C) (Dr 1 C (Bk C) (Dr 2 C (Ab fld125_0 C) (Dr 3 C (As ty22) ?_))))))))
   refine Dr 4 C (Ad C) (Dr 5 C (Bk C) (Dr 6 C (Ab fld125_1 C) (Dr 7 C (As ef) ?_)))
   refine Dr 8 C (A3 (α:=Int) (xs:=ls) Ac ef C C (Bh hl) om om) (Dr 9 C (Bz (xs:=ls) ef C (Bh hl) om om) (Dr 10 C (Bb C) (Dz (Aj (Aq (S3 5 0 1 C C C) (Ah (Gm C (Gr (Bk C) (Gf fld125_1 C (Gl ef ?_))))))))))
   refine Gr (Rad C C) (Gr (Bk C) (Gf fld125_1 C (Ge0 (Ed ef) ?_)))
   refine Af (Ah (Gm C (Gm C (G.e (Ao call76 C C (Mod_ok om om)) ?_))))
   rintro _ _ ⟨_,_,⟨x1,rfl,hx1,rfl⟩,rfl,rfl⟩
   exact Ga C (Af (Aq (S1 4 C) (Aw (A1 C C _ A0 ⟨(x1,i+1),⟨rfl,⟨by omega,by omega,by omega⟩,by show 0<=i+1;omega⟩,rfl⟩))))
theorem Next_ok{F:Item->List Item}{b:Nat}{lv:Value}{ls:List Int}{i:Int}(hat:AtF I (deck b lv i) F)(hl:Sl κ I lv ls)(h0:0<=i){n:Int}(hn:n<=1000000000000):ep prog κ 19 [.pointer (some ⟨b,0,none⟩),e7 n] I λr J=>∃x i',r=e7 x/\(0<=x/\(1<=n->x<n)/\(n<1->x=0))/\0<=i'/\J=F (deck b lv i'):=
 (D4 (Z:=λ_=>[]) (X:=λy:Int×Int=>deck b lv y.2) hat λ_ hJ _=>Next_base (hl.fit hJ) h0 hn).mono λ_ _ ⟨y,⟨h1,h2,h3⟩,h4⟩=>⟨y.1,y.2,h1,h2,h3,h4⟩
theorem New_ok{a:Option Addr}{n c:Nat} :
    ep prog κ 18 [.slice a n c] I (λr J=>∃b,r = .pointer (some ⟨b,0,none⟩)/\J=deck b (.slice a n c) 0::I):=by
 refine Ce1 Tryz.func18 C C ?_
 exact Ah (Ga C (Af (Ah (Gm C (Gr (Bf (cells:=[_,_]) ty125 Tryz.underlying125 pl125 C C) (Ge1 (Bc (cs:=[_,_]) C C C) λb1=>Ga C (Af (Aw (A1 C C _ A0 ⟨b1,rfl,rfl⟩)))))))))
def ValidP(xs:List Int)(nodes:Int):Prop:=∀j,j<xs.length->(0<=e_ xs j/\e_ xs j<nodes)/\(0<j->e_ xs ((j:Int) - 1)<e_ xs j)
instance (xs:List Int) (nodes:Int):Decidable (ValidP xs nodes):=by unfold ValidP;infer_instance
theorem NValid_ok{v:Value}{xs:List Int}(hl:Sl κ I v xs)(nodes:Int):ep prog κ 88 [v,e7 nodes] I (λr J=>r = .bool (decide (ValidP xs nodes))/\I=J):=by
 refine B3 hl.le λhmax=>?_
 refine Ce2 Tryz.func88 C C ?_
 refine Ah (Ga C (Af (Au (Ah (Gm C (Gr (Bx (α:=Int) (xs:=xs) Ac C (Bh hl)) (Gm C (Af (A4 (Bu (σ:=Nat) (λs=>([(0,v),(1,e7 nodes),(7,v),(8,e7 ((xs.length:Nat):Int)),(9,e7 ((s:Nat):Int))]:Env)) (λs=>I) (λs=>(s<=xs.length)/\(∀j,j<s->(0<=e_ xs j/\e_ xs j<nodes)/\(0<j->e_ xs ((j:Int) - 1)<e_ xs j))) (λs=>xs.length - s) 0 (show ((0:Nat)<=xs.length)/\(∀j,j<(0:Nat)->(0<=e_ xs j/\e_ xs j<nodes)/\(0<j->e_ xs ((j:Int) - 1)<e_ xs j)) from ⟨om,all_zero⟩) (Aa C (Aa C (Aa C (Aa C (Aa B9 Bj))))) (show Fit κ _ I from A5) ?_))))))))))
 rintro k hp
 obtain ⟨hk,hn⟩:=hp
 refine Ah (Gr (A9 C C) (Af (Au (A6 C (λc10=>?_) (λc10=>?_)))))
 ·refine Ay (Aj (Au (A4 (Ah (Gm C (Gr (A3 (α:=Int) (xs:=xs) Ac ef C C (Bh hl) om om) (Gr (Bz (xs:=xs) ef C (Bh hl) om om) (Ga C (Ga C (Af (Ah (Gm C (Gr (A9 C C) (Gm C (Ba (d:=16) C (λg16=>?_) (λg16=>?_))))))))))))))))
  ·refine eb (eb (eb (Gr (Am C C) (Gm C (eb (eb (eb (ee (ee (ee (ee (ee (ee (ee (eb (Gr (Am C C) (Af (Aq (S6 33 0 1 7 8 9 C C C C C C) (B7 C (Ah (Ga C (Af (Aw (Av (Ai (Ai (Av (Ai ?_))))))))))))))))))))))))))))
   have hm:¬ValidP xs nodes:=λhv=>by have:=hv k om;omega
   exact A1 C C _ A0 ⟨by rw [decide_eq_false hm],rfl⟩
  ·refine e9 (Ad C) (e9 (Ad C) (e9 (B8 C C) (Gr (Al C C) (Gm C (Ba (d:=21) C (λg21=>?_) (λg21=>?_))))))
   ·refine eb (eb (eb (ee (ee (ee (ee (ee (ee (ee (eb (Gr (Am C C) (Af (Aq (S6 33 0 1 7 8 9 C C C C C C) (B7 C (Ah (Ga C (Af (Aw (Av (Ai (Ai (Av (Ai ?_)))))))))))))))))))))))
    have hm:¬ValidP xs nodes:=λhv=>by have:=hv k om;omega
    exact A1 C C _ A0 ⟨by rw [decide_eq_false hm],rfl⟩
   ·refine e9 (Ad C) (e9 (Bv C C) (e9 (Ad C) (Ba (d:=24) C (λg24=>?_) (λg24=>?_))))
    ·refine e9 (Ad C) (e9 (Ad C) (e9 (Rsu C C) (e9 (A3 (α:=Int) (xs:=xs) Ac ef C C (Bh hl) om om) (e9 (Bz (xs:=xs) ef C (Bh hl) om om) (e9 (Ad C) (e9 (B8 C C) (e9 (Am C C) (Gr (Al C C) (Af (Aq (S6 33 0 1 7 8 9 C C C C C C) (A6 C (λc33=>?_) (λc33=>?_))))))))))))
     ·refine Ah (Ga C (Af (Aw (Av (Ai (Ai (Av (Ai ?_))))))))
      have hm:¬ValidP xs nodes:=λhv=>by have:=hv k om;have:=this.2 om;omega
      exact A1 C C _ A0 ⟨by rw [decide_eq_false hm],rfl⟩
     ·exact Ay (Ak (Aj (Ax (Gr (Rad C C) (Gm C (Bd (B2 ((k+1)) ⟨om,(Dk hn ⟨by omega,λ_=>by omega⟩)⟩)))))))
    ·exact eb (eb (eb (eb (eb (eb (eb (e9 (Al C C) (Gr (Al C C) (Af (Aq (S6 33 0 1 7 8 9 C C C C C C) (C2 C (Ay (Ak (Aj (Ax (Gr (Rad C C) (Gm C (Bd (B2 ((k+1)) ⟨om,(Dk hn ⟨by omega,λ_=>by omega⟩)⟩)))))))))))))))))))
 ·refine Bs (Ap (Ap (A7 (Aj (Ah (Ga C (Af (Aw ?_))))))))
  have hm:ValidP xs nodes:=λj hj=>hn j om
  exact A1 C C _ A0 ⟨by rw [decide_eq_true hm],rfl⟩
variable {κ:Ctx}{I:List Item}
theorem IsNaN_ok(n:Int):ep prog κ 277 [e7 n] I (λr J=>r = .bool false/\I=J):=by
 refine Ce1 Tryz.func277 C C ?_
 exact Ah (Ga C (Af (Ah (Gm C (Gm C (Gr (Be C C) (Ga C (Af (Aw (A1 C C I A0 ⟨by simp,rfl⟩))))))))))
theorem Compare_ok(m n:Int):ep prog κ 225 [e7 m,e7 n] I (λr J=>r=e7 (cmpI m n)/\I=J):=by
 refine Ce2 Tryz.func225 C C ?_
 refine Ah (Ga C (Af (Ah (Gm C (Gc0 (Ao call277 C C (IsNaN_ok m)) ?_)))))
 refine Ga C (Af (Ah (Gm C (Gc0 (Ao call277 C C (IsNaN_ok n)) ?_))))
 refine Ga C (Af (Au (Ah (Gm C (Af (C2 C (Ay (Aj (Au (Ah (Gm C (Af (C2 C (Ay (Aj (Au (Ah (Gm C (Gm C (Gr (A9 C C) (Af (Aq (S3 16 0 1 C C C) (A6 C (λc16=>?_) (λc16=>?_))))))))))))))))))))))))
 ·exact Ah (Ga C (Af (Aw (Ai (A1 C C I A0 ⟨by unfold cmpI;rw [if_pos c16],rfl⟩)))))
 ·refine Ay (Aj (Au (Ah (Gm C (Gm C (Gr (Bv C C) (Af (A6 C (λc19=>?_) (λc19=>?_)))))))))
  ·exact Ah (Ga C (Af (Aw (Ai (A1 C C I A0 ⟨by unfold cmpI;rw [if_neg c16,if_pos c19],rfl⟩)))))
  ·exact Ay (Aj (Ah (Ga C (Af (Aw (A1 C C I A0 ⟨by unfold cmpI;rw [if_neg c16,if_neg c19],rfl⟩))))))
theorem Or_ok{v:Value}{xs:List Int}(hl:Sl κ I v xs):ep prog κ 224 [v] I (λr J=>r=e7 (orL xs)/\I=J):=by
 refine B3 hl.le λhmax=>?_
 refine Ce1 Tryz.func224 C C ?_
 refine Ah (Ga C (Af (Ah (Ga C (Af (Au (Ah (Gm C (Gr (Bx (α:=Int) (xs:=xs) Ac C (Bh hl)) (Gm C (Af (A4 (Bu (σ:=Nat) (λs=>([(3,e7 0),(6,v),(7,e7 ((xs.length:Nat):Int)),(8,e7 ((s:Nat):Int))]:Env)) (λs=>I) (λs=>(s<=xs.length)/\(orL xs=orL (xs.drop s))) (λs=>xs.length - s) 0 (show ((0:Nat)<=xs.length)/\(orL xs=orL (xs.drop (0:Nat))) from ⟨om,rfl⟩) (Aa C (Aa C (Aa C (Aa B9 Bj)))) (show Fit κ _ I from A5) ?_)))))))))))))
 rintro k hp
 obtain ⟨hk,ho⟩:=hp
 refine Ah (Gr (A9 C C) (Af (Au (A6 C (λc9=>?_) (λc9=>?_)))))
 ·refine Ay (Aj (Au (A4 (Ah (Gr (A3 (α:=Int) (xs:=xs) Ac ef C C (Bh hl) om om) (Gr (Bz (xs:=xs) ef C (Bh hl) om om) (Ga C (Af (Ah (Gm C (Gm C (Gr (Be C C) (Af (A6 C (λc14=>?_) (λc14=>?_)))))))))))))))
  ·exact Ah (Gm C (Ga C (Af (Aw (Av (Ai (Ai (Av (Ai (A1 C C I A0 ⟨by rw [ho,orL_stop om c14],rfl⟩))))))))))
  ·exact Ay (Ak (Aj (Ax (Gr (Rad C C) (Gm C (Bd (B2 ((k+1)) ⟨om,(ho.trans (orL_step om (Decidable.of_not_not c14)))⟩)))))))
 ·exact Bs (Ap (Ap (A7 (Aj (Ah (Gm C (Ga C (Af (Aw (A1 C C I A0 ⟨by rw [ho,orL_end om],rfl⟩))))))))))
theorem Before03_ok{κ:Ctx}{I:List Item}(a c:Pt):ep prog κ 84 [.agg #[e7 (a.u),e7 (a.v)],.agg #[e7 (c.u),e7 (c.v)]] I (λr J=>r = .bool (decide (Pt.lt a c))/\I=J):=by
 refine Ce2 Tryz.func84 C C ?_
 refine Ah (Ge1 (Bc (cs:=[_,_]) C C C) λb1=>Ge1 (Bc (cs:=[_,_]) C C C) λb2=>Ga C (Af (Ah (Gf fld135_0 C (Gl ef ?_)))))
 refine Gf fld135_0 C (Gl ef ?_)
 refine Gr (A9 C C) (Gm C (Ba (d:=10) C (λg10=>?_) (λg10=>?_)))
 ·exact eb (eb (eb (eb (eb (eb (ee (ee (ee (ee (ee (eb (Gr (Am C C) (Ga C (Af (Aq (S1 4 C) (Aw (A1 C C I A0 ⟨(by first|exact congrArg Value.bool (decide_eq_decide.2 (by unfold Pt.lt;omega))|exact congrArg Value.bool (decide_eq_true (by unfold Pt.lt;omega)).symm|exact congrArg Value.bool (decide_eq_false (by unfold Pt.lt;omega)).symm),rfl⟩)))))))))))))))))
 ·refine e9 (Ab fld135_0 C) (e9 (As ef) ?_)
  refine e9 (Ab fld135_0 C) (e9 (As ef) ?_)
  refine e9 (Bi C C) (e9 (Ad C) (Ba (d:=16) C (λg16=>?_) (λg16=>?_)))
  ·refine e9 (Ab fld135_1 C) (e9 (As ef) ?_)
   refine e9 (Ab fld135_1 C) (e9 (As ef) ?_)
   exact e9 (A9 C C) (e9 (Am C C) (Gr (Al C C) (Ga C (Af (Aq (S1 4 C) (Aw (A1 C C I A0 ⟨(by first|exact congrArg Value.bool (decide_eq_decide.2 (by unfold Pt.lt;omega))|exact congrArg Value.bool (decide_eq_true (by unfold Pt.lt;omega)).symm|exact congrArg Value.bool (decide_eq_false (by unfold Pt.lt;omega)).symm),rfl⟩)))))))
  ·exact eb (eb (eb (eb (eb (e9 (Al C C) (Gr (Al C C) (Ga C (Af (Aq (S1 4 C) (Aw (A1 C C I A0 ⟨(by first|exact congrArg Value.bool (decide_eq_decide.2 (by unfold Pt.lt;omega))|exact congrArg Value.bool (decide_eq_true (by unfold Pt.lt;omega)).symm|exact congrArg Value.bool (decide_eq_false (by unfold Pt.lt;omega)).symm),rfl⟩)))))))))))
variable {κ:Ctx}{I:List Item}
def putL:List Int->Int->List Int
 |[],x=>[x]
 |y::ys,x=>if y<x then y::putL ys x else if y=x then y::ys else x::y::ys
def ofL(l:List Int):List Int:=l.foldl putL []
theorem putL_at:∀(xs:List Int) (i:Nat) (x:Int),i<=xs.length->(∀j,j<i->e_ xs j<x)->
  (i<xs.length->e_ xs i=x->putL xs x=xs)/\((i=xs.length\/(i<xs.length/\x<e_ xs i))->putL xs x=(xs.take i++[x])++xs.drop i)
 |[],i,x,hi,h=>by
  obtain rfl:i=0:=by simpa using hi
  exact ⟨λh=>by simp at h,λ_=>rfl⟩
 |y::ys,0,x,hi,h=>by
  refine ⟨λ_ e=>?_,λe=>?_⟩
  ·have e':y=x:=e
   simp only [putL];rw [if_neg om,if_pos e']
  ·rcases e with e|⟨_,e⟩
   ·simp at e
   ·have e':x<y:=e
    simp only [putL];rw [if_neg om,if_neg om];rfl
 |y::ys,i+1,x,hi,h=>by
  have h0:y<x:=h 0 om
  have ha:∀j:Nat,e_ (y::ys) ((j+1:Nat):Int)=e_ ys j:=λj=>by rw [at_nat,at_nat];simp
  obtain ⟨h1,h2⟩:=putL_at ys i x (by simpa using hi) λj hj=>by have:=h (j+1) om;rwa [ha] at this
  refine ⟨λhl e=>?_,λe=>?_⟩
  ·simp only [putL];rw [if_pos h0,h1 (by simpa using hl) (by rwa [ha] at e)]
  ·simp only [putL];rw [if_pos h0,h2 (by rw [ha] at e;simpa using e)];rfl
theorem ofL_take(xs:List Int)(k:Nat)(h:k<xs.length):ofL (xs.take (k+1))=putL (ofL (xs.take k)) (e_ xs k):=by
 rw [Cu xs k h];simp [ofL]
theorem mem_putL(x y:Int):∀l,y∈putL l x↔y=x\/y∈l
 |[]=>by simp [putL]
 |z::zs=>by
  simp only [putL]
  split
  ·simp only [List.mem_cons,mem_putL x y zs]
   constructor
   ·rintro (h|h|h)<;>simp [h]
   ·rintro (h|h|h)<;>simp [h]
  ·split
   ·rename_i e;subst e;simp
   ·simp
theorem mem_foldl_putL(y:Int):∀(l acc:List Int),y∈l.foldl putL acc↔y∈l\/y∈acc
 |[],acc=>by simp
 |x::l,acc=>by
  rw [List.foldl_cons,mem_foldl_putL y l,mem_putL]
  simp only [List.mem_cons]
  constructor
  ·rintro (h|h|h)<;>simp [h]
  ·rintro ((h|h)|h)<;>simp [h]
theorem mem_ofL(l:List Int)(y:Int):y∈ofL l↔y∈l:=by simp [ofL,mem_foldl_putL]
theorem putL_len(x:Int):∀l,(putL l x).length<=l.length+1
 |[]=>by simp [putL]
 |y::ys=>by
  simp only [putL]
  split
  ·have:=putL_len x ys;simp;omega
  ·split<;>simp
theorem ofL_len(l:List Int):(ofL l).length<=l.length:=by
 have h:∀(l acc:List Int),(l.foldl putL acc).length<=l.length+acc.length:=λl=>by
  induction l with
  |nil=>intro acc;simp
  |cons x l ih=>intro acc;have:=ih (putL acc x);have:=putL_len x acc;simp;omega
 have:=h l []
 simpa [ofL] using this
theorem Put_ok{a:Option Addr}{c:Nat}{xs:List Int}(hb:xs.length<17592186044415)(x:Int):ep prog κ 153 [.slice a xs.length c,e7 x] (vc 3 (.slice a xs.length c) (xs)::I) (λr J=>∃a' c',r = .slice a' (putL xs x).length c'/\J=vc 3 (.slice a' (putL xs x).length c') (putL xs x)::I):=by
 refine B3 (λw hs=>(Eq (κ:=κ) (List.mem_cons_self)).le w hs) λhmax=>?_
 refine Ce2 Tryz.func153 C C ?_
 refine Ah (Ga C (Af (Ah (Ga C (Af (En (σ:=Nat) (λs=>([(0,.slice a xs.length c),(1,e7 x),(5,e7 ((s:Nat):Int))]:Env)) (λs=>vc 3 (.slice a xs.length c) (xs)::I) (λs=>(s<=xs.length)/\(∀j,j<s->e_ xs j<x)/\(s=xs.length\/(s<xs.length/\¬e_ xs s<x))) ?_ ?_))))))
 ·refine A4 (Bu (σ:=Nat) (λs=>([(0,.slice a xs.length c),(1,e7 x),(5,e7 ((s:Nat):Int))]:Env)) (λs=>vc 3 (.slice a xs.length c) (xs)::I) (λs=>(s<=xs.length)/\(∀j,j<s->e_ xs j<x)) (λs=>xs.length - s) 0 (show ((0:Nat)<=xs.length)/\(∀j,j<(0:Nat)->e_ xs j<x) from ⟨om,all_zero⟩) (Aa C (Aa C (Aa B9 Bj))) (show Fit κ _ (vc 3 (.slice a xs.length c) (xs)::I) from A5) ?_)
  rintro i hp
  obtain ⟨hi,hlt⟩:=hp
  refine Au (Ah (Gm C (Gm C (Gr (Bm Ac C) (Gr (A9 C C) (Gm C (Ba (d:=11) C (λg11=>?_) (λg11=>?_))))))))
  ·refine e9 (Ad C) (e9 (Ad C) (e9 (A3 (α:=Int) (xs:=xs) Ac ef C C Bg om om) (e9 (Bz (xs:=xs) ef C Bg om om) (e9 (Ad C) (e9 (A9 C C) (Gr (Am C C) (Af (Aq (S4 18 0 1 5 C C C C) (A6 C (λc18=>?_) (λc18=>?_))))))))))
   ·exact Ay (Aj (A4 (Ax (Gm C (Gr (Rad C C) (Ga C (Bd (Ak (B2 ((i+1)) ⟨om,(Dk hlt om)⟩)))))))))
   ·exact Bs (Ap (Ap (A7 (Di ((i)) ⟨om,hlt,om⟩))))
  ·exact eb (eb (eb (eb (eb (eb (Gr (Al C C) (Af (Aq (S4 18 0 1 5 C C C C) (C2 C (Bs (Ap (Ap (A7 (Di ((i)) ⟨om,hlt,om⟩))))))))))))))
 ·rintro i hp
  obtain ⟨hi,hlt,hst⟩:(i<=xs.length)/\(∀j,j<i->e_ xs j<x)/\(i=xs.length\/(i<xs.length/\¬e_ xs i<x)):=hp
  show W prog κ 46 _ _ ([(0,.slice a xs.length c),(1,e7 x),(5,e7 ((i:Int)))]:Env) (vc 3 (.slice a xs.length c) (xs)::I)
  refine Au (Ah (Gm C (Gm C (Gr (Bm Ac C) (Gr (A9 C C) (Gm C (Ba (d:=25) C (λg25=>?_) (λg25=>?_))))))))
  ·refine e9 (Ad C) (e9 (Ad C) (e9 (A3 (α:=Int) (xs:=xs) Ac ef C C Bg om om) (e9 (Bz (xs:=xs) ef C Bg om om) (e9 (Ad C) (e9 (Bi C C) (Gr (Am C C) (Af (Aq (S4 32 0 1 5 C C C C) (A6 C (λc32=>?_) (λc32=>?_))))))))))
   ·refine Ah (Gm C (Ga C (Af (Aw (Ai ?_)))))
    have hp:=(putL_at xs i x hi hlt).1 om om
    exact A1 C C _ A0 ⟨a,c,by rw [hp],by rw [hp]⟩
   ·refine Ay (Aj (Ah (Gm C (Gm C (Gr (Runs.hi (α:=Int) (xs:=xs) (h:=i) Ac ef C C om Bg om) (Ge2 (Eff.clone (α:=Int) (ys:=List.take i xs) Ac ef C C C (Sl.take Bg om) (by simp only [List.length_append,List.length_cons,List.length_nil,List.length_take,List.length_drop];omega) dc C) λad1 cp2=>?_))))))
    refine Ga C (Af (Au (Bl mixed (Br (vc 3 (.slice a xs.length c) (xs)::I) 9 (Dr 0 C (Ad C) (Dr 1 C (Ad C) (Dr 4 C (Ad C) (Dr 5 C (Ad C) (Dr 6 C (Eg (α:=Int) (xs:=xs) (l:=i) Ac ef C C om Bg om) (Ds1 2 (Se1 C (B0 (α:=Int) (cs:=[_]) (xs:=[x]) Ac ef C C dc dc C C C C) λad3=>?_)))))))))))
    refine Ds1 3 (Se2 C (B1 (α:=Int) (e:=3) (xs:=List.take i xs) (ys:=([x]:List Int)) Ac ef C C C mm Bg (by simp only [List.length_append,List.length_cons,List.length_nil,List.length_take,List.length_drop];omega) dc C (λ_ _=>am)) λad4 cp5=>?_)
    refine Ds1 7 (Se2 C (B1 (α:=Int) (e:=3) (xs:=(List.take i xs)++([x]:List Int)) (ys:=List.drop i xs) Ac ef C C C mm (Dt Bg om) (by simp only [List.length_append,List.length_cons,List.length_nil,List.length_take,List.length_drop];omega) dc C (λ_ _=>am)) λad6 cp7=>?_)
    refine Dr 8 C (Bb C) (Dz (Aj (Aq (S1 4 C) (Aw ?_))))
    have hp:=(putL_at xs i x hi hlt).2 om
    exact A1 C C (vc 3 (.slice ad6 (putL xs x).length cp7) (putL xs x)::I) (by rw [hp];exact A5) ⟨ad6,cp7,by rw [hp],rfl⟩
  ·refine eb (eb (eb (eb (eb (eb (Gr (Al C C) (Af (Aq (S4 32 0 1 5 C C C C) (C2 C (Ay (Aj (Ah (Gm C (Gm C (Gr (Runs.hi (α:=Int) (xs:=xs) (h:=i) Ac ef C C om Bg om) (Ge2 (Eff.clone (α:=Int) (ys:=List.take i xs) Ac ef C C C (Sl.take Bg om) (by simp only [List.length_append,List.length_cons,List.length_nil,List.length_take,List.length_drop];omega) dc C) λad8 cp9=>?_))))))))))))))))
   refine Ga C (Af (Au (Bl mixed (Br (vc 3 (.slice a xs.length c) (xs)::I) 9 (Dr 0 C (Ad C) (Dr 1 C (Ad C) (Dr 4 C (Ad C) (Dr 5 C (Ad C) (Dr 6 C (Eg (α:=Int) (xs:=xs) (l:=i) Ac ef C C om Bg om) (Ds1 2 (Se1 C (B0 (α:=Int) (cs:=[_]) (xs:=[x]) Ac ef C C dc dc C C C C) λad10=>?_)))))))))))
   refine Ds1 3 (Se2 C (B1 (α:=Int) (e:=3) (xs:=List.take i xs) (ys:=([x]:List Int)) Ac ef C C C mm Bg (by simp only [List.length_append,List.length_cons,List.length_nil,List.length_take,List.length_drop];omega) dc C (λ_ _=>am)) λad11 cp12=>?_)
   refine Ds1 7 (Se2 C (B1 (α:=Int) (e:=3) (xs:=(List.take i xs)++([x]:List Int)) (ys:=List.drop i xs) Ac ef C C C mm (Dt Bg om) (by simp only [List.length_append,List.length_cons,List.length_nil,List.length_take,List.length_drop];omega) dc C (λ_ _=>am)) λad13 cp14=>?_)
   refine Dr 8 C (Bb C) (Dz (Aj (Aq (S1 4 C) (Aw ?_))))
   have hp:=(putL_at xs i x hi hlt).2 om
   exact A1 C C (vc 3 (.slice ad13 (putL xs x).length cp14) (putL xs x)::I) (by rw [hp];exact A5) ⟨ad13,cp14,by rw [hp],rfl⟩
theorem Put_at{F:Item->List Item}{a:Option Addr}{c:Nat}{xs:List Int}(hat:AtF I (vc 3 (.slice a xs.length c) xs) F)(hb:xs.length<17592186044415)(x:Int):ep prog κ 153 [.slice a xs.length c,e7 x] I λr J=>∃a' c',r = .slice a' (putL xs x).length c'/\J=F (vc 3 (.slice a' (putL xs x).length c') (putL xs x)):=
 (D4 (Z:=λ_=>[]) (X:=λy:Option Addr×Nat=>vc 3 (.slice y.1 (putL xs x).length y.2) (putL xs x)) (Post:=λr y=>r = .slice y.1 (putL xs x).length y.2) hat λJ _ _=>(Put_ok (a:=a) (c:=c) hb x).mono λr J' ⟨a',c',h1,h2⟩=>⟨(a',c'),h1,h2⟩).mono λ_ _ ⟨y,h1,h2⟩=>⟨y.1,y.2,h1,h2⟩
theorem Of_ok{v:Value}{xs:List Int}(hl:Sl κ I v xs)(hb:xs.length<17592186044415):ep prog κ 82 [v] I (λr J=>∃a c,r = .slice a (ofL xs).length c/\J=vc 3 (.slice a (ofL xs).length c) (ofL xs)::I):=by
 refine B3 hl.le λhmax=>?_
 refine Ce1 Tryz.func82 C C ?_
 refine Ah (Ga C (Af (Ah (Ga C (Af (Au (Ah (Gm C (Gr (Bx (α:=Int) (xs:=xs) Ac C (Bh hl)) (Gm C (Af (A4 (Bu (σ:=Nat×(Option Addr)×Nat×(List Int)) (λs=>([(3,.slice s.2.1 s.2.2.2.length s.2.2.1),(6,v),(7,e7 ((xs.length:Nat):Int)),(8,e7 ((s.1:Nat):Int))]:Env)) (λs=>vc 3 (.slice s.2.1 s.2.2.2.length s.2.2.1) (s.2.2.2)::I) (λs=>(s.1<=xs.length)/\(s.2.2.2=ofL (xs.take s.1))) (λs=>xs.length - s.1) (0,none,0,[]) (show ((0:Nat)<=xs.length)/\(([]:List Int)=ofL (xs.take (0:Nat))) from ⟨om,rfl⟩) (Aa (Cr C (by first|rfl|simp)) (Aa C (Aa C (Aa B9 Bj)))) (show Fit κ _ (vc 3 (.slice none ([]).length 0) (([]))::I) from (Bt _ _)) ?_)))))))))))))
 rintro ⟨k,a,c,out⟩ hp
 dsimp only at hp ⊢
 obtain ⟨hk,ho⟩:=hp
 refine Ah (Gr (A9 C C) (Af (Au (A6 C (λc9=>?_) (λc9=>?_)))))
 ·refine Ay (Aj (Au (A4 (Ah (Gr (A3 (α:=Int) (xs:=xs) Ac ef C C (Bh hl) om om) (Gr (Bz (xs:=xs) ef C (Bh hl) om om) (Ga C (Af (Ax (Gm C (Gm C (Gc2 (Ao call153 C C (Put_at (by repeat (first|exact AtF.head _ _|apply AtF.tail)) (by rw [ho];have:=ofL_len (xs.take k);simp only [List.length_take] at this;omega) (e_ xs k))) λad1 cp2=>?_))))))))))))
  show G prog κ _ _ _ _ ([(14,.slice ad1 (putL out (e_ xs k)).length cp2),(13,e7 (e_ xs k)),(12,.slice a out.length c),(5,e7 (e_ xs k)),(11,e7 (e_ xs k)),(10,elemPtr v (((k:Int)).toNat*Enc.sz Int)),(9,.bool (decide ((k:Int)<((xs.length:Nat):Int)))),(3,.slice a out.length c),(6,v),(7,e7 ((xs.length:Nat):Int)),(8,e7 ((k:Int)))]:Env) (vc 3 (.slice ad1 (putL out (e_ xs k)).length cp2) (putL out (e_ xs k))::I)
  exact Ga C (Bd (Ak (Aj (Ax (Gr (Rad C C) (Gm C (Bd (B2 ((k+1),(ad1),(cp2),(putL out (e_ xs k))) (by dsimp only;exact ⟨om,(by rw [ofL_take xs k om,←ho])⟩)))))))))
 ·refine Bs (Ap (Ap (A7 (Aj (Ah (Gm C (Ga C (Af (Aw ?_)))))))))
  have hk2:xs.take k=xs:=List.take_of_length_le om
  rw [hk2] at ho
  subst ho
  exact A1 C C _ A0 ⟨a,c,rfl,rfl⟩
variable {κ:Ctx}{I:List Item}
theorem ValidP_nil(w:Int):ValidP [] w:=λj hj=>absurd hj (Nat.not_lt_zero j)
theorem ValidP_mono{xs:List Int}{w w':Int}(h:ValidP xs w)(hw:w<=w'):ValidP xs w':=λj hj=>⟨⟨(h j hj).1.1,by have:=(h j hj).1.2;omega⟩,(h j hj).2⟩
theorem ValidP_push{xs:List Int}{w:Int}(h:ValidP xs w)(h0:0<=w):ValidP (xs++[w]) (w+1):=λj hj=>by
 by_cases hl:j<xs.length
 ·obtain ⟨⟨h1,h2⟩,h3⟩:=h j hl
  rw [Eb xs [w] j hl]
  refine ⟨⟨h1,by omega⟩,λhp=>?_⟩
  have e:((j:Int) - 1)=((j - 1:Nat):Int):=by omega
  rw [e,Eb xs [w] (j - 1) om,←e]
  exact h3 hp
 ·obtain rfl:j=xs.length:=by simp at hj;omega
  rw [at_last]
  refine ⟨⟨h0,by omega⟩,λhp=>?_⟩
  have e:((xs.length:Int) - 1)=((xs.length - 1:Nat):Int):=by omega
  rw [e,Eb xs [w] (xs.length - 1) om]
  exact (h _ om).1.2
theorem ValidP_of{xs:List Int}{w n:Int}(h:ValidP xs w)(hl:xs.length<=w.toNat)(hw:w<=n\/w=0):ValidP xs n:=by
 rcases hw with hw|hw
 ·exact ValidP_mono h hw
 ·subst hw
  have:xs=[]:=List.eq_nil_of_length_eq_zero (by simpa using hl)
  subst this;exact ValidP_nil n
theorem Set_base{b:Nat}{lv:Value}{ls:List Int}{i:Int}(hl:∀q,Sl κ (deck b lv q::I) lv ls)(h0:0<=i){nodes:Int}(hn:nodes<=1000000000):ep prog κ 28 [.pointer (some ⟨b,0,none⟩),e7 nodes] (e8 b [lv,e7 i] 125::I) (λr J=>∃y:Option Addr×Nat×List Int×Int,(r = .slice y.1 y.2.2.1.length y.2.1/\ValidP y.2.2.1 nodes/\(y.2.2.1.length:Int)<=max nodes 0/\0<=y.2.2.2)/\J=[vc 3 (.slice y.1 y.2.2.1.length y.2.1) y.2.2.1]++deck b lv y.2.2.2::I):=by
 refine Ce2 Tryz.func28 C C ?_
 refine Ah (Ga C (Af (Ah (Ga C (Af (Au (Ah (Ga C (Af (A4 (Bu (σ:=Int×Int×(Option Addr)×Nat×(List Int)) (λs=>([(0,.pointer (some ⟨b,0,none⟩)),(1,e7 nodes),(5,.slice s.2.2.1 s.2.2.2.2.length s.2.2.2.1),(6,e7 (s.1))]:Env)) (λs=>vc 3 (.slice s.2.2.1 s.2.2.2.2.length s.2.2.2.1) (s.2.2.2.2)::e8 b [lv,e7 (s.2.1)] 125::I) (λs=>(0<=s.1/\(s.1<=nodes\/s.1=0))/\(0<=s.2.1)/\(ValidP s.2.2.2.2 s.1)/\(s.2.2.2.2.length<=s.1.toNat)) (λs=>(nodes - s.1).toNat) (0,i,none,0,[]) (show (0<=(0:Int)/\((0:Int)<=nodes\/(0:Int)=0))/\(0<=(i:Int))/\(ValidP ([]:List Int) (0:Int))/\(([]:List Int).length<=(0:Int).toNat) from ⟨⟨by omega,.inr rfl⟩,om,(ValidP_nil _),(Nat.le_refl _)⟩) (Aa C (Aa C (Aa (Cr C (by first|rfl|simp)) (Aa B9 Bj)))) (show Fit κ _ (vc 3 (.slice none ([]).length 0) (([]))::e8 b [lv,e7 ((i))] 125::I) from (Bt _ _)) ?_)))))))))))
 rintro ⟨w,q,a,c,out⟩ hp
 dsimp only at hp ⊢
 obtain ⟨hw,hq,hv,hol⟩:=hp
 refine Au (Ah (Gm C (Gm C (Gr (A9 C C) (Af (A6 C (λc9=>?_) (λc9=>?_)))))))
 ·refine Ay (Aj (Au (A4 (Ah (Gm C (G.e (Ao call19 C C (Next_ok (by repeat (first|exact AtF.head _ _|apply AtF.tail)) (B5 (hl _) A0) om om)) ?_))))))
  rintro _ _ ⟨_,_,⟨x1,i2,rfl,hx1,hi2,rfl⟩,rfl,rfl⟩
  show G prog κ _ _ _ _ ([(13,e7 x1),(12,.pointer (some ⟨b,0,none⟩)),(9,.bool (decide (w<nodes))),(8,e7 nodes),(7,e7 w),(0,.pointer (some ⟨b,0,none⟩)),(1,e7 nodes),(5,.slice a out.length c),(6,e7 w)]:Env) (vc 3 (.slice a out.length c) (out)::e8 b [lv,e7 i2] 125::I)
  refine Gr (Bi C C) (Af (A6 C (λc14=>?_) (λc14=>?_)))
  ·refine Ax (Gm C (Gm C (Ge1 (B0 (α:=Int) (cs:=[_]) (xs:=[w]) Ac ef C C dc dc C C C C) λad3=>?_)))
   refine Ge2 (B1 (α:=Int) (e:=3) (xs:=out) (ys:=([w]:List Int)) Ac ef C C C mm Bg lcn dc C (λ_ _=>am)) λad4 cp5=>?_
   exact Ga C (Bd (Ak (Aj (Aq (S4 5 0 1 6 C C C C) (Ax (Gm C (Gr (Rad C C) (Ga C (Bd (B2 ((w+1),(i2),(ad4),(cp5),(out++([w]:List Int))) (by dsimp only;exact ⟨om,om,(by first|exact ValidP_push hv hw.1|exact ValidP_mono hv om),olp⟩)))))))))))
  ·exact Ay (Ak (Aj (Ax (Gm C (Gr (Rad C C) (Ga C (Bd (B2 ((w+1),(i2),(a),(c),(out)) (by dsimp only;exact ⟨om,om,(by first|exact ValidP_push hv hw.1|exact ValidP_mono hv om),olp⟩)))))))))
 ·exact Bs (Ap (Ap (A7 (Aj (Ah (Gm C (Ga C (Af (Aw (A1 C C _ A0 ⟨(a,c,out,q),⟨rfl,ValidP_of hv hol hw.2,by show (out.length:Int)<=max nodes 0;omega,hq⟩,rfl⟩))))))))))
theorem Set_at{F:Item->List Item}{b:Nat}{lv:Value}{ls:List Int}{i:Int}(hat:AtF I (deck b lv i) F)(hl:∀q,Sl κ (F (deck b lv q)) lv ls)(h0:0<=i){nodes:Int}(hn:nodes<=1000000000):ep prog κ 28 [.pointer (some ⟨b,0,none⟩),e7 nodes] I λr J=>∃a c out i',r = .slice a out.length c/\ValidP out nodes/\(out.length:Int)<=max nodes 0/\0<=i'/\J=vc 3 (.slice a out.length c) out::F (deck b lv i'):=
 (D4 (Post:=λr (y:Option Addr×Nat×List Int×Int)=>r = .slice y.1 y.2.2.1.length y.2.1/\ValidP y.2.2.1 nodes/\(y.2.2.1.length:Int)<=max nodes 0/\0<=y.2.2.2) (Z:=λy:Option Addr×Nat×List Int×Int=>[vc 3 (.slice y.1 y.2.2.1.length y.2.1) y.2.2.1]) (X:=λy:Option Addr×Nat×List Int×Int=>deck b lv y.2.2.2) hat λJ _ hF=>Set_base (λq=>(hl q).fit (hF _)) h0 hn).mono λ_ _ ⟨y,⟨h1,h2,h3,h4⟩,h5⟩=>⟨y.1,y.2.1,y.2.2.1,y.2.2.2,h1,h2,h3,h4,h5⟩
structure Arc where
 frm:Int
 dst:Int
 cap:Int
deriving Inhabited
instance:Enc Arc:=⟨λa=>[e7 a.frm,e7 a.dst,e7 a.cap],3,by omega,λ_=>rfl,λa u h=>by
 simp only [List.mem_cons,List.not_mem_nil,or_false] at h
 rcases h with rfl|rfl|rfl<;>rfl⟩
structure Net where
 nodes:Int
 source:Int
 sink:Int
 arcs:List Arc
structure Net.Ok (n:Net):Prop where
 lim:n.nodes<=4200/\n.arcs.length<=16384
 two:2<=n.nodes
 src:0<=n.source/\n.source<n.nodes
 snk:0<=n.sink/\n.sink<n.nodes
 ne:n.source≠n.sink
 arc:∀a∈n.arcs,(0<=a.frm/\a.frm<n.nodes)/\(0<=a.dst/\a.dst<n.nodes)/\a.frm≠a.dst/\0<=a.cap/\a.cap<=1099511627776
end Go.Sl
