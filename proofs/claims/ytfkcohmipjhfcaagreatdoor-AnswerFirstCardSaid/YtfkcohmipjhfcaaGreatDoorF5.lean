/- A part of the proofs of statements of this seat: contracts of functions, and the plain laws that they lean on. No conditions. -/
import Derived.Shelf.SlSortCmp.NoneTotal
import Derived.Shelf.SlSortCmp.WholeK
import Derived.Test.YtfkcohmipjhfcaaGreatDoorF4
set_option linter.unusedVariables false
set_option linter.unusedSimpArgs false
set_option linter.unusedSectionVars false
namespace Go.Sl
open Go.Proofs Go.Shelf Go.RowKit Go.Lib Go.Sort
section
variable {α:Type}[Enc α][Inhabited α]
theorem flat_cells(d:Array α):flatK Enc.enc (Enc.sz α) d=(cells d.toList).toArray:=by
 apply Array.ext
 ·simp [cells_length]
 ·intro t h1 h2
  have h1':t<d.size*Enc.sz α:=by simpa using h1
  have hpos:0<Enc.sz α:=Enc.pos
  have hi:t / Enc.sz α<d.size:=Nat.div_lt_of_lt_mul (by rw [Nat.mul_comm];exact h1')
  have hj:t % Enc.sz α<Enc.sz α:=Nat.mod_lt _ hpos
  have e1:t=t / Enc.sz α*Enc.sz α+t % Enc.sz α:=by rw [Nat.mul_comm];exact (Nat.div_add_mod t (Enc.sz α)).symm
  have e2:=cells_get d.toList (t / Enc.sz α) (t % Enc.sz α) (by simpa using hi) hj
  rw [←e1] at e2
  have e3:(cells d.toList)[t]? = some ((cells d.toList)[t]'(by simpa using h2)):=List.getElem?_eq_getElem _
  rw [e3] at e2
  have hlen:t % Enc.sz α<(Enc.enc (d.toList[t / Enc.sz α]'(by simpa using hi))).length:=by rw [Enc.len];exact hj
  rw [List.getElem?_eq_getElem hlen] at e2
  have e4:=Option.some.inj e2
  simp only [List.getElem_toArray]
  rw [e4]
  simp [flatK,getElem!_pos,hi,Enc.len,hj]
theorem sort_base{P:Program}{ρ:Ren}{κ:Ctx}{I:List Item}(L:SlLaysF0.n6 P ρ)(aE:∀w,(isAgg (ρ.t 24)).run P w = .ok true w)(zE:∀w,(Go.sizeOf (ρ.t 24)).run P w = .ok (Enc.sz α) w)(cf:α→α→Int)(hO:SWO (ltOf cf))(g:Nat)(cb:Array Value)
  (eg:∀args w,(callFunc g args).run P w = .ok (.enter g args) w) (hcmp:∀(x y:α) (W:World),Calls P g (#[.agg (Enc.enc x).toArray,.agg (Enc.enc y).toArray]++cb) W fun e w'=>e = .returned (.int .i64 (cf x y))∧∃q os',w'=grow (W.drewN q) os')
  {e:TypeId} {ad:Option Addr} {c:Nat} {xs:List α} (hc:0<c) (hsz:xs.length<4611686018427387904) :
  CallS P κ (ρ.f 6) [.slice ad xs.length c,.func (.func g) #[] cb] (vc e (.slice ad xs.length c) xs::I) fun r J=>∃ys:List α,(r = .tuple #[]∧ys.Perm xs∧ys.Pairwise fun a b=>ltOf cf b a=false)∧J=[]++vc e (.slice ad ys.length c) ys::I:=by
 intro w hs
 obtain ⟨hok,_⟩:=hs.ok _ List.mem_cons_self
 obtain ⟨a',cap',hv,hl,hnc,hcm,hcap⟩:=hok
 cases hv
 obtain ⟨b,off,cur,rfl,hb,hsize,hcur⟩:=hcap hc
 have hbw:b<w.heap.size:=(Array.getElem?_eq_some_iff.1 hb).1
 have hcl:=cells_length xs
 have hle:xs.length*Enc.sz α≤c*Enc.sz α:=Nat.mul_le_mul_right _ hnc
 have hH:HoldsK Enc.enc (Enc.sz α) w b off xs.toArray:=fun j hj=>by
  rw [flat_cells] at hj ⊢
  have hj':j<(cells xs).length:=by simpa using hj
  have h1:=hcur j ((cells xs)[j]) (List.getElem?_eq_getElem hj')
  refine ⟨?_,by simp [World.frozen?,hb]⟩
  rw [cell_of_row w b (off+j) cur e (0,0) hb,h1]
  simp [getElem!_pos,hj']
 have h:=AnyQ.slices_SortFunc L (Enc.sz α) aE zE Enc.enc Enc.len Enc.one cf hO g cb b off c xs.toArray w eg (fun m os dk _ x y=>hcmp x y _) hH hbw (by simpa using hsz)
 refine Calls.mono h ?_
 rintro e' w' ⟨rfl,d',n,os,⟨hs1,_,hperm⟩,hsort,rfl⟩
 have hs1':d'.size=xs.length:=by simpa using hs1
 have hperm':d'.toList.Perm xs:=by
  have e1:d'.extract 0 xs.toArray.size=d':=by rw [←hs1];simp
  have e2:xs.toArray.extract 0 xs.toArray.size=xs.toArray:=by simp
  rw [e1,e2] at hperm
  exact hperm
 have hlen:d'.toList.length=xs.length:=by simpa using hs1'
 refine ⟨_,_,rfl,⟨d'.toList,⟨rfl,hperm',?_⟩,rfl⟩,?_⟩
 ·rw [List.pairwise_iff_getElem]
  intro i j hi hj hij
  have:=hsort i j (Nat.zero_le _) hij (by simpa [hs1'] using hj)
  simp only [Array.length_toList] at hi hj
  rw [getElem!_pos d' i hi,getElem!_pos d' j hj] at this
  simpa using this
 ·show Sep κ _ (vc e (.slice (some ⟨b,off,none⟩) d'.toList.length c) d'.toList::I)
  refine hs.upd (At.head _ _ _) rfl ⟨rfl,by simp [sortWorldK,putRowK,Sort.grow]⟩ rfl (by simp [sortWorldK,putRowK]) (fun k hk hne=>?_) ?_ fun k hk=> .inl ?_
  ·have hkb:k≠b:=fun ekb=>hne (by subst ekb;exact ⟨off,xs.length,c,rfl,hc⟩)
   simp only [sortWorldK,Sort.grow,putRowK,putRow,mapBlock]
   rw [Array.getElem?_append_left (by simpa using hk),Array.getElem?_modify,if_neg (fun e=>hkb e.symm)]
   rfl
  ·refine ⟨_,c,rfl,cells_length _,by rw [hlen];exact hnc,hcm,fun _=>⟨b,off,putCells id off (flatK Enc.enc (Enc.sz α) d') cur,rfl,?_,?_,fun j u hj=>?_⟩⟩
   ·simp only [sortWorldK,Sort.grow,putRowK,putRow,mapBlock]
    rw [Array.getElem?_append_left (by simpa using hbw),Array.getElem?_modify,if_pos rfl]
    show (w.heap[b]?).map _=_
    rw [hb];rfl
   ·simpa [putCells] using hsize
   ·have hj':j<(cells d'.toList).length:=(List.getElem?_eq_some_iff.1 hj).1
    have hj2:j<xs.length*Enc.sz α:=by rw [cells_length,hlen] at hj';exact hj'
    have hoff:off+j<cur.size:=by omega
    rw [flat_cells]
    simp only [putCells,Array.getElem?_mapIdx,Array.getElem?_eq_getElem hoff,Option.map_some]
    rw [if_pos ⟨by omega,by simpa using hj'⟩,Nat.add_sub_cancel_left]
    rw [List.getElem?_eq_getElem hj'] at hj
    simpa [getElem!_pos,hj'] using hj
  ·obtain ⟨o',n',c',hv',hc'⟩:=hk
   cases hv'
   exact ⟨off,xs.length,c,rfl,hc⟩
theorem sort_any{P:Program}{ρ:Ren}{κ:Ctx}{I:List Item}(L:SlLaysF0.n6 P ρ)(aE:∀w,(isAgg (ρ.t 24)).run P w = .ok true w)(zE:∀w,(Go.sizeOf (ρ.t 24)).run P w = .ok (Enc.sz α) w)(cf:α→α→Int)(hO:SWO (ltOf cf))(g:Nat)(cb:Array Value)
  (eg:∀args w,(callFunc g args).run P w = .ok (.enter g args) w) (hcmp:∀(x y:α) (W:World),Calls P g (#[.agg (Enc.enc x).toArray,.agg (Enc.enc y).toArray]++cb) W fun e w'=>e = .returned (.int .i64 (cf x y))∧∃q os',w'=grow (W.drewN q) os')
  {e:TypeId} {ad:Option Addr} {c:Nat} {xs:List α} (hsz:xs.length<4611686018427387904) :
  CallS P κ (ρ.f 6) [.slice ad xs.length c,.func (.func g) #[] cb] (vc e (.slice ad xs.length c) xs::I) fun r J=>∃ys:List α,(r = .tuple #[]∧ys.Perm xs∧ys.Pairwise fun a b=>ltOf cf b a=false)∧J=[]++vc e (.slice ad ys.length c) ys::I:=by
 by_cases hc:0<c
 ·exact sort_base L aE zE cf hO g cb eg hcmp hc hsz
 ·intro w hs
  obtain ⟨hok,_⟩:=hs.ok _ List.mem_cons_self
  obtain ⟨a',cap',hv,hl,hnc,hcm,hcap⟩:=hok
  cases hv
  obtain rfl:xs=[]:=List.eq_nil_of_length_eq_zero (by omega)
  refine Calls.mono (AnyF.slices_SortFunc_none L ad c _ w) ?_
  rintro e' w' ⟨rfl,rfl⟩
  exact ⟨_,_,rfl,⟨[],⟨rfl,List.Perm.nil,List.Pairwise.nil⟩,rfl⟩,hs⟩
end
theorem lays_of{P:Program}{f:FuncId}{args:List Value}{v:Value}{W:World}(h:CallS P ⟨W.os,W.tape,W.output,W.drawn⟩ f args [old W.heap.size W] fun r J=>r=v∧[old W.heap.size W]=J) :
  Calls P f args.toArray W fun e w'=>e = .returned v∧∃q os',w'=Sort.grow (W.drewN q) os':=(h W (Sep.begin W)).mono fun e w' ⟨r,J,he,⟨hv,hJ⟩,hs⟩=>by
 subst hv hJ
 refine ⟨he,w'.drawn - W.drawn,w'.heap.extract W.heap.size w'.heap.size,?_⟩
 have hb:=hs.below List.mem_cons_self
 have hok:∀k,k<W.heap.size→w'.heap[k]? = W.heap[k]? :=(hs.ok _ List.mem_cons_self).1
 have hd:=hs.tape.2
 have hheap:w'.heap=W.heap++w'.heap.extract W.heap.size w'.heap.size:=by
  apply Array.ext_getElem?
  intro k
  by_cases hk:k<W.heap.size
  ·rw [Array.getElem?_append_left hk];exact hok k hk
  ·rw [Array.getElem?_append_right (by omega),Array.getElem?_extract]
   have hsz:=hb.size
   by_cases hk2:k<w'.heap.size
   ·rw [if_pos (by omega)];congr 1;omega
   ·rw [Array.getElem?_eq_none (by omega)]
    split
    ·omega
    ·rfl
 have e:W.drawn+(w'.drawn - W.drawn)=w'.drawn:=by have:W.drawn≤w'.drawn:=hd;omega
 have hos:w'.os=W.os:=hs.os
 have htp:w'.tape=W.tape:=hs.tape.1
 have hou:w'.output=W.output:=hs.output
 obtain ⟨heap',tape',drawn',os',out'⟩:=w'
 simp only [Sort.grow,World.drewN] at *
 subst hos htp hou
 rw [e,←hheap]
end Go.Sl
namespace Go.Proofs
def Tryz.sort321_ren:Go.Shelf.Ren:=⟨fun |6=>321|15=>218|14=>337|28=>269|29=>270|20=>343|21=>344|22=>345|23=>346|24=>347|25=>348|26=>349|27=>350|46=>352|47=>305|48=>306|49=>353|50=>354|57=>355|n=>n,fun |22=>109|24=>146|25=>279|3=>3|39=>181|0=>0|53=>291|55=>175|4=>4|46=>285|45=>284|50=>273|5=>5|9=>9|66=>320|70=>324|76=>346|77=>259|n=>n,fun |n=>n⟩
theorem Tryz.sort321:Go.Proofs.SlLaysF0.n6 Tryz.prog Tryz.sort321_ren:={
 mixed:=by kernel_rfl,
 f6:=⟨Tryz.f321.name,by decide,Tryz.func321.trans (congrArg some (by kernel_rfl))⟩,
 f14:=⟨Tryz.f337.name,by decide,Tryz.func337.trans (congrArg some (by kernel_rfl))⟩,
 f15:=Tryz.func218.trans (congrArg some (by kernel_rfl)),
 f20:=⟨Tryz.f343.name,by decide,Tryz.func343.trans (congrArg some (by kernel_rfl))⟩,
 f21:=⟨Tryz.f344.name,by decide,Tryz.func344.trans (congrArg some (by kernel_rfl))⟩,
 f22:=⟨Tryz.f345.name,by decide,Tryz.func345.trans (congrArg some (by kernel_rfl))⟩,
 f23:=⟨Tryz.f346.name,by decide,Tryz.func346.trans (congrArg some (by kernel_rfl))⟩,
 f24:=⟨Tryz.f347.name,by decide,Tryz.func347.trans (congrArg some (by kernel_rfl))⟩,
 f25:=⟨Tryz.f348.name,by decide,Tryz.func348.trans (congrArg some (by kernel_rfl))⟩,
 f26:=⟨Tryz.f349.name,by decide,Tryz.func349.trans (congrArg some (by kernel_rfl))⟩,
 f27:=⟨Tryz.f350.name,by decide,Tryz.func350.trans (congrArg some (by kernel_rfl))⟩,
 f28:=Tryz.func269.trans (congrArg some (by kernel_rfl)),
 f29:=Tryz.func270.trans (congrArg some (by kernel_rfl)),
 f46:=⟨Tryz.f352.name,by decide,Tryz.func352.trans (congrArg some (by kernel_rfl))⟩,
 f47:=Tryz.func305.trans (congrArg some (by kernel_rfl)),
 f48:=Tryz.func306.trans (congrArg some (by kernel_rfl)),
 f49:=⟨Tryz.f353.name,by decide,Tryz.func353.trans (congrArg some (by kernel_rfl))⟩,
 f50:=⟨Tryz.f354.name,by decide,Tryz.func354.trans (congrArg some (by kernel_rfl))⟩,
 f57:=⟨Tryz.f355.name,by decide,Tryz.func355.trans (congrArg some (by kernel_rfl))⟩,
 t0:=Tryz.underlying0,
 a0:=Tryz.isAgg0,
 z0:=Tryz.sizeOf0,
 v0:=Tryz.zeroValue0,
 t3:=Tryz.underlying3,
 a3:=Tryz.isAgg3,
 z3:=Tryz.sizeOf3,
 v3:=Tryz.zeroValue3,
 t4:=Tryz.underlying4,
 a4:=Tryz.isAgg4,
 z4:=Tryz.sizeOf4,
 v4:=Tryz.zeroValue4,
 t5:=Tryz.underlying5,
 a5:=Tryz.isAgg5,
 z5:=Tryz.sizeOf5,
 v5:=Tryz.zeroValue5,
 t9:=Tryz.underlying9,
 a9:=Tryz.isAgg9,
 z9:=Tryz.sizeOf9,
 v9:=Tryz.zeroValue9,
 t22:=Tryz.underlying109,
 a22:=Tryz.isAgg109,
 z22:=Tryz.sizeOf109,
 v22:=Tryz.zeroValue109,
 t25:=Tryz.underlying279,
 a25:=Tryz.isAgg279,
 z25:=Tryz.sizeOf279,
 v25:=Tryz.zeroValue279,
 t39:=Tryz.underlying181,
 a39:=Tryz.isAgg181,
 z39:=Tryz.sizeOf181,
 v39:=Tryz.zeroValue181,
 t45:=Tryz.underlying284,
 a45:=Tryz.isAgg284,
 z45:=Tryz.sizeOf284,
 v45:=Tryz.zeroValue284,
 t46:=Tryz.underlying285,
 a46:=Tryz.isAgg285,
 z46:=Tryz.sizeOf285,
 v46:=Tryz.zeroValue285,
 t50:=Tryz.underlying273,
 a50:=Tryz.isAgg273,
 z50:=Tryz.sizeOf273,
 v50:=Tryz.zeroValue273,
 t53:=Tryz.underlying291,
 a53:=Tryz.isAgg291,
 z53:=Tryz.sizeOf291,
 v53:=Tryz.zeroValue291,
 t55:=Tryz.underlying175,
 a55:=Tryz.isAgg175,
 z55:=Tryz.sizeOf175,
 v55:=Tryz.zeroValue175,
 t66:=Tryz.underlying320,
 a66:=Tryz.isAgg320,
 z66:=Tryz.sizeOf320,
 v66:=Tryz.zeroValue320,
 t70:=Tryz.underlying324,
 a70:=Tryz.isAgg324,
 z70:=Tryz.sizeOf324,
 v70:=Tryz.zeroValue324,
 t76:=Tryz.underlying346,
 a76:=Tryz.isAgg346,
 z76:=Tryz.sizeOf346,
 v76:=Tryz.zeroValue346,
 t77:=Tryz.underlying259,
 a77:=Tryz.isAgg259,
 z77:=Tryz.sizeOf259,
 v77:=Tryz.zeroValue259}
end Go.Proofs
namespace Go.Sl
open Go.Proofs
set_option maxRecDepth 4000
theorem Order_ok{κ:Ctx}{I:List Item}(a c:Pt) :
    CallS Tryz.prog κ 154 [.agg #[I64 (a.u),I64 (a.v)],.agg #[I64 (c.u),I64 (c.v)]] I (fun r J=>r=I64 (Pt.cmp a c)∧I=J):=by
 refine Ce2 Tryz.func154 rfl rfl ?_
 refine Ah (Ge1 (Bb (cs:=[_,_]) rfl rfl rfl) fun b1=>Ge1 (Bb (cs:=[_,_]) rfl rfl rfl) fun b2=>Ga rfl (Af (Av (Bk mixed (Bq (blk b2 [I64 (c.u),I64 (c.v)] 135::blk b1 [I64 (a.u),I64 (a.v)] 135::I) 12 (Dr 0 rfl (Aa fld135_0 rfl) (Dr 1 rfl (As ty3) ?_)))))))
 refine Dr 2 rfl (Aa fld135_0 rfl) (Dr 3 rfl (As ty3) ?_)
 refine Dr 5 rfl (Aa fld135_1 rfl) (Dr 6 rfl (As ty3) ?_)
 refine Dr 7 rfl (Aa fld135_1 rfl) (Dr 8 rfl (As ty3) ?_)
 refine Ds1 4 (Sc0 rfl (Aj call225 rfl rfl (Compare_ok a.u c.u)) ?_)
 refine Ds1 9 (Sc0 rfl (Aj call225 rfl rfl (Compare_ok a.v c.v)) ?_)
 refine Ds1 10 (Se1 rfl (B1 (α:=Int) (cs:=[_,_]) (xs:=[cmpI a.u c.u,cmpI a.v c.v]) Am ty3 rfl rfl dc dc rfl rfl rfl rfl) fun ad3=>?_)
 refine Ds1 11 (Sc0 rfl (Aj call224 rfl rfl (Or_ok Bo)) ?_)
 refine Dh kr ?_
 refine A.read (i:=12) kr rfl (Ce rfl) rfl rfl (Bd rfl) ?_
 refine Di kr ?_
 exact Ai (Ar (S1 4 rfl) (Ay (A0 rfl rfl (I) A1 ⟨by rw [←orL_cmp],rfl⟩)))
variable {κ:Ctx}{I:List Item}
structure Lk where
 u:Int
 v:Int
 w:Int
 lb:Int
 sg:Int
 tm:Int
deriving DecidableEq,Inhabited
instance:Enc Lk:=⟨fun x=>[I64 x.u,I64 x.v,I64 x.w,I64 x.lb,I64 x.sg,I64 x.tm],6,by omega,fun _=>rfl,fun x u h=>by
 simp only [List.mem_cons,List.not_mem_nil,or_false] at h
 rcases h with rfl|rfl|rfl|rfl|rfl|rfl<;>rfl⟩
theorem eqt146:EqT Tryz.prog 146 Lk:=EqT.flat (fun p:Lk=>[p.u,p.v,p.w,p.lb,p.sg,p.tm]) (fun _=>rfl) (fun x y h=>by cases x;cases y;simpa using h) (n:=6) (fun _=>rfl) kr kr kr kr kr
structure Ev where
 kd:Int
 tm:Int
 u:Int
 v:Int
 w:Int
 lb:Int
 sg:Int
deriving DecidableEq,Inhabited
instance:Enc Ev:=⟨fun x=>[I64 x.kd,I64 x.tm,I64 x.u,I64 x.v,I64 x.w,I64 x.lb,I64 x.sg],7,by omega,fun _=>rfl,fun x u h=>by
 simp only [List.mem_cons,List.not_mem_nil,or_false] at h
 rcases h with rfl|rfl|rfl|rfl|rfl|rfl|rfl<;>rfl⟩
def Lk.p(l:Lk):Pt:=⟨l.u,l.v⟩
def Lk.cmp(a c:Lk):Int:=Pt.cmp a.p c.p
def Lk.lt(a c:Lk):Prop:=Pt.lt a.p c.p
instance:DecidableRel Lk.lt:=fun a c=>by unfold Lk.lt;infer_instance
def rightW(w lb sg:Int):Prop:=1≤w∧w≤1000∧0≤lb∧lb≤15∧(sg=1∨sg = -1)
instance (w lb sg:Int):Decidable (rightW w lb sg):=by unfold rightW;infer_instance
def badL(n:Int)(l:Lk):Int:=if l.u<0∨l.v≤l.u∨n≤l.v then 6 else if ¬rightW l.w l.lb l.sg then 1 else if l.tm<0∨1048576<l.tm then 9 else 0
def checkS(n:Int)(xs:List Lk):Int:=if n<0∨64<n then 1 else scanL (badL n) Lk.lt none xs
theorem badL_zero{n:Int}{l:Lk}(h1:¬(l.u<0∨l.v≤l.u∨n≤l.v))(h2:rightW l.w l.lb l.sg)(h3:¬(l.tm<0∨1048576<l.tm)):badL n l=0:=by
 unfold badL;rw [if_neg h1,if_neg (fun h=>h h2),if_neg h3]
theorem badL_six{n:Int}{l:Lk}(h1:l.u<0∨l.v≤l.u∨n≤l.v):badL n l=6:=by unfold badL;rw [if_pos h1]
theorem badL_one{n:Int}{l:Lk}(h1:¬(l.u<0∨l.v≤l.u∨n≤l.v))(h2:¬rightW l.w l.lb l.sg):badL n l=1:=by unfold badL;rw [if_neg h1,if_pos h2]
theorem badL_nine{n:Int}{l:Lk}(h1:¬(l.u<0∨l.v≤l.u∨n≤l.v))(h2:rightW l.w l.lb l.sg)(h3:l.tm<0∨1048576<l.tm):badL n l=9:=by unfold badL;rw [if_neg h1,if_neg (fun h=>h h2),if_pos h3]
def checkW(kd wd mo:Int):Int:=if kd<1∨3<kd then 8 else if (kd=2∧(wd<1∨1048576<wd))∨(kd≠2∧wd≠0)∨(kd=3∧(mo<0∨2016<mo))∨(kd≠3∧mo≠0) then 1 else 0
theorem CheckW_ok(kd wd mo:Int) :
    CallS Tryz.prog κ 78 [.agg #[I64 (kd),I64 (wd),I64 (mo)]] I (fun r J=>r=I64 (checkW kd wd mo)∧I=J):=by
 refine Ce1 Tryz.func78 rfl rfl ?_
 refine Ah (Ge1 (Bb (cs:=[_,_,_]) rfl rfl rfl) fun b1=>Ga rfl (Af (Ah (Ga rfl (Ga rfl (Af (Av (Ah (Gf fld31_0 rfl (Gl ty3 ?_))))))))))
 refine Af (A5 (Ah (Gr (Bi rfl rfl) (Ga rfl (Af (A6 rfl (fun c7=>?_) (fun c7=>?_)))))))
 ·refine Az (Al (Ai (Av (Ah (Gf fld31_1 rfl (Gl ty3 ?_))))))
  refine Gm rfl (Gr (Bh rfl rfl) (Gm rfl (A7 (d:=37) rfl (fun g37=>?_) (fun g37=>?_))))
  ·exact Gpo (Gpo (Gpo (Gpo (Gr (Ao rfl rfl) (Af (Ar (S1 42 rfl) (B6 rfl (Ah (Ga rfl (Af (Ay (Ad (A0 rfl rfl (I) A1 ⟨by rw [show checkW kd wd mo=1 from by unfold checkW;split<;>first|rfl|omega|(split<;>first|rfl|omega)],rfl⟩)))))))))))))
  ·refine Gro (Aa fld31_2 rfl) (Gro (As ty3) ?_)
   refine Gro (Ac rfl) (Gro (Bh rfl rfl) (Gr (Ak rfl rfl) (Af (Ar (S1 42 rfl) (A6 rfl (fun c42=>?_) (fun c42=>?_))))))
   ·exact Ah (Ga rfl (Af (Ay (Ad (A0 rfl rfl (I) A1 ⟨by rw [show checkW kd wd mo=1 from by unfold checkW;split<;>first|rfl|omega|(split<;>first|rfl|omega)],rfl⟩)))))
   ·exact Az (Ai (Ah (Ga rfl (Af (Ay (A0 rfl rfl (I) A1 ⟨by rw [show checkW kd wd mo=0 from by unfold checkW;split<;>first|rfl|omega|(split<;>first|rfl|omega)],rfl⟩))))))
 ·refine Ah (Gr (Bi rfl rfl) (Ga rfl (Af (A6 rfl (fun c9=>?_) (fun c9=>?_)))))
  ·refine Av (Ah (Gf fld31_1 rfl (Gl ty3 ?_)))
   refine Gr (A8 rfl rfl) (Gm rfl (A7 (d:=14) rfl (fun g14=>?_) (fun g14=>?_)))
   ·exact Gpo (Gpo (Gpo (Gr (Ao rfl rfl) (Af (Ar (S3 18 4 1 rfl rfl rfl) (B6 rfl (Ah (Ga rfl (Af (Ay (Ad (Au (Ad (A0 rfl rfl (I) A1 ⟨by rw [show checkW kd wd mo=1 from by unfold checkW;split<;>first|rfl|omega|(split<;>first|rfl|omega)],rfl⟩))))))))))))))
   ·refine Gro (Aa fld31_1 rfl) (Gro (As ty3) ?_)
    refine Gro (Br rfl rfl) (Gr (Ak rfl rfl) (Af (Ar (S3 18 4 1 rfl rfl rfl) (A6 rfl (fun c18=>?_) (fun c18=>?_)))))
    ·exact Ah (Ga rfl (Af (Ay (Ad (Au (Ad (A0 rfl rfl (I) A1 ⟨by rw [show checkW kd wd mo=1 from by unfold checkW;split<;>first|rfl|omega|(split<;>first|rfl|omega)],rfl⟩)))))))
    ·refine Az (Ai (A2 (Gf fld31_1 rfl (Gl ty3 ?_))))
     refine Ga rfl (Be (Al (Ai (Av (Ah (Gf fld31_1 rfl (Gl ty3 ?_)))))))
     refine Gm rfl (Gr (Bh rfl rfl) (Gm rfl (A7 (d:=37) rfl (fun g37=>?_) (fun g37=>?_))))
     ·exact Gpo (Gpo (Gpo (Gpo (Gr (Ao rfl rfl) (Af (Ar (S1 42 rfl) (B6 rfl (Ah (Ga rfl (Af (Ay (Ad (A0 rfl rfl (I) A1 ⟨by rw [show checkW kd wd mo=1 from by unfold checkW;split<;>first|rfl|omega|(split<;>first|rfl|omega)],rfl⟩)))))))))))))
     ·refine Gro (Aa fld31_2 rfl) (Gro (As ty3) ?_)
      refine Gro (Ac rfl) (Gro (Bh rfl rfl) (Gr (Ak rfl rfl) (Af (Ar (S1 42 rfl) (A6 rfl (fun c42=>?_) (fun c42=>?_))))))
      ·exact Ah (Ga rfl (Af (Ay (Ad (A0 rfl rfl (I) A1 ⟨by rw [show checkW kd wd mo=1 from by unfold checkW;split<;>first|rfl|omega|(split<;>first|rfl|omega)],rfl⟩)))))
      ·exact Az (Ai (Ah (Ga rfl (Af (Ay (A0 rfl rfl (I) A1 ⟨by rw [show checkW kd wd mo=0 from by unfold checkW;split<;>first|rfl|omega|(split<;>first|rfl|omega)],rfl⟩))))))
  ·refine Ah (Gr (Bi rfl rfl) (Ga rfl (Af (A6 rfl (fun c21=>?_) (fun c21=>?_)))))
   ·refine Av (Ah (Gf fld31_2 rfl (Gl ty3 ?_)))
    refine Gr (A8 rfl rfl) (Gm rfl (A7 (d:=26) rfl (fun g26=>?_) (fun g26=>?_)))
    ·exact Gpo (Gpo (Gpo (Gr (Ao rfl rfl) (Af (Ar (S3 30 3 1 rfl rfl rfl) (B6 rfl (Ah (Ga rfl (Af (Ay (Ad (Au (Ad (A0 rfl rfl (I) A1 ⟨by rw [show checkW kd wd mo=1 from by unfold checkW;split<;>first|rfl|omega|(split<;>first|rfl|omega)],rfl⟩))))))))))))))
    ·refine Gro (Aa fld31_2 rfl) (Gro (As ty3) ?_)
     refine Gro (Br rfl rfl) (Gr (Ak rfl rfl) (Af (Ar (S3 30 3 1 rfl rfl rfl) (A6 rfl (fun c30=>?_) (fun c30=>?_)))))
     ·exact Ah (Ga rfl (Af (Ay (Ad (Au (Ad (A0 rfl rfl (I) A1 ⟨by rw [show checkW kd wd mo=1 from by unfold checkW;split<;>first|rfl|omega|(split<;>first|rfl|omega)],rfl⟩)))))))
     ·refine Az (Ai (A2 (Gf fld31_2 rfl (Gl ty3 ?_))))
      refine Ga rfl (Be (Al (Ai (Av (Ah (Gf fld31_1 rfl (Gl ty3 ?_)))))))
      refine Gm rfl (Gr (Bh rfl rfl) (Gm rfl (A7 (d:=37) rfl (fun g37=>?_) (fun g37=>?_))))
      ·exact Gpo (Gpo (Gpo (Gpo (Gr (Ao rfl rfl) (Af (Ar (S1 42 rfl) (B6 rfl (Ah (Ga rfl (Af (Ay (Ad (A0 rfl rfl (I) A1 ⟨by rw [show checkW kd wd mo=1 from by unfold checkW;split<;>first|rfl|omega|(split<;>first|rfl|omega)],rfl⟩)))))))))))))
      ·refine Gro (Aa fld31_2 rfl) (Gro (As ty3) ?_)
       refine Gro (Ac rfl) (Gro (Bh rfl rfl) (Gr (Ak rfl rfl) (Af (Ar (S1 42 rfl) (A6 rfl (fun c42=>?_) (fun c42=>?_))))))
       ·exact Ah (Ga rfl (Af (Ay (Ad (A0 rfl rfl (I) A1 ⟨by rw [show checkW kd wd mo=1 from by unfold checkW;split<;>first|rfl|omega|(split<;>first|rfl|omega)],rfl⟩)))))
       ·exact Az (Ai (Ah (Ga rfl (Af (Ay (A0 rfl rfl (I) A1 ⟨by rw [show checkW kd wd mo=0 from by unfold checkW;split<;>first|rfl|omega|(split<;>first|rfl|omega)],rfl⟩))))))
   ·exact Ah (Ga rfl (Af (Ar (S1 2 rfl) (Ay (Au (Ad (A0 rfl rfl (I) A1 ⟨by rw [show checkW kd wd mo=8 from by unfold checkW;split<;>first|rfl|omega|(split<;>first|rfl|omega)],rfl⟩)))))))
theorem CheckW7_ok(kd wd mo:Int) :
    CallS Tryz.prog κ 85 [.agg #[I64 (kd),I64 (wd),I64 (mo)]] I (fun r J=>r=I64 (checkW kd wd mo)∧I=J):=by
 refine Ce1 Tryz.func85 rfl rfl ?_
 refine Ah (Ge1 (Bb (cs:=[_,_,_]) rfl rfl rfl) fun b1=>Ga rfl (Af (Av (Ah (Gf fld31_0 rfl (Gl ty3 ?_))))))
 refine Gr (A8 rfl rfl) (Gm rfl (A7 (d:=6) rfl (fun g6=>?_) (fun g6=>?_)))
 ·exact Gpo (Gpo (Gpo (Gr (Ao rfl rfl) (Af (B6 rfl (Ah (Ga rfl (Af (Ay (Ad (A0 rfl rfl (I) A1 ⟨by rw [show checkW kd wd mo=8 from by unfold checkW;split<;>first|rfl|omega|(split<;>first|rfl|omega)],rfl⟩)))))))))))
 ·refine Gro (Aa fld31_0 rfl) (Gro (As ty3) ?_)
  refine Gro (Br rfl rfl) (Gr (Ak rfl rfl) (Af (A6 rfl (fun c10=>?_) (fun c10=>?_))))
  ·exact Ah (Ga rfl (Af (Ay (Ad (A0 rfl rfl (I) A1 ⟨by rw [show checkW kd wd mo=8 from by unfold checkW;split<;>first|rfl|omega|(split<;>first|rfl|omega)],rfl⟩)))))
  ·refine Az (Ai (Av (Ah (Gf fld31_0 rfl (Gl ty3 ?_)))))
   refine Gr (Bi rfl rfl) (Gm rfl (A7 (d:=14) rfl (fun g14=>?_) (fun g14=>?_)))
   ·refine Gro (Aa fld31_1 rfl) (Gro (As ty3) ?_)
    refine Gro (A8 rfl rfl) (Gro (Ac rfl) (A7 (d:=18) rfl (fun g18=>?_) (fun g18=>?_)))
    ·exact Gpo (Gpo (Gpo (Gro (Ao rfl rfl) (Gr (Ao rfl rfl) (Gm rfl (Gpo (Gpo (Gpo (Gpo (Gpu (Gpu (Gpu (Gpo (Gr (Ao rfl rfl) (Af (Ar (S2 33 1 rfl rfl) (B6 rfl (Ah (Ga rfl (Af (Ay (Ad (A0 rfl rfl (I) A1 ⟨by rw [show checkW kd wd mo=1 from by unfold checkW;split<;>first|rfl|omega|(split<;>first|rfl|omega)],rfl⟩)))))))))))))))))))))))
    ·refine Gro (Aa fld31_1 rfl) (Gro (As ty3) ?_)
     refine Gro (Br rfl rfl) (Gro (Ak rfl rfl) (Gr (Ao rfl rfl) (Gm rfl (A7 (d:=24) rfl (fun g24=>?_) (fun g24=>?_)))))
     ·exact Gpo (Gpo (Gpo (Gpo (Gpu (Gpu (Gpu (Gpo (Gr (Ao rfl rfl) (Af (Ar (S2 33 1 rfl rfl) (B6 rfl (Ah (Ga rfl (Af (Ay (Ad (A0 rfl rfl (I) A1 ⟨by rw [show checkW kd wd mo=1 from by unfold checkW;split<;>first|rfl|omega|(split<;>first|rfl|omega)],rfl⟩)))))))))))))))))
     ·refine Gro (Aa fld31_0 rfl) (Gro (As ty3) ?_)
      refine Gro (Bh rfl rfl) (Gro (Ac rfl) (A7 (d:=28) rfl (fun g28=>?_) (fun g28=>?_)))
      ·refine Gro (Aa fld31_1 rfl) (Gro (As ty3) ?_)
       refine Gro (Bh rfl rfl) (Gro (Ao rfl rfl) (Gr (Ak rfl rfl) (Af (Ar (S2 33 1 rfl rfl) (A6 rfl (fun c33=>?_) (fun c33=>?_))))))
       ·exact Ah (Ga rfl (Af (Ay (Ad (A0 rfl rfl (I) A1 ⟨by rw [show checkW kd wd mo=1 from by unfold checkW;split<;>first|rfl|omega|(split<;>first|rfl|omega)],rfl⟩)))))
       ·refine Az (Ai (Av (Ah (Gf fld31_0 rfl (Gl ty3 ?_)))))
        refine Gr (Bi rfl rfl) (Gm rfl (A7 (d:=37) rfl (fun g37=>?_) (fun g37=>?_)))
        ·refine Gro (Aa fld31_2 rfl) (Gro (As ty3) ?_)
         refine Gro (A8 rfl rfl) (Gro (Ac rfl) (A7 (d:=41) rfl (fun g41=>?_) (fun g41=>?_)))
         ·exact Gpo (Gpo (Gpo (Gro (Ao rfl rfl) (Gr (Ao rfl rfl) (Gm rfl (Gpo (Gpo (Gpo (Gpo (Gpu (Gpu (Gpu (Gpo (Gr (Ao rfl rfl) (Af (Ar (S1 56 rfl) (B6 rfl (Ah (Ga rfl (Af (Ay (Ad (A0 rfl rfl (I) A1 ⟨by rw [show checkW kd wd mo=1 from by unfold checkW;split<;>first|rfl|omega|(split<;>first|rfl|omega)],rfl⟩)))))))))))))))))))))))
         ·refine Gro (Aa fld31_2 rfl) (Gro (As ty3) ?_)
          refine Gro (Br rfl rfl) (Gro (Ak rfl rfl) (Gr (Ao rfl rfl) (Gm rfl (A7 (d:=47) rfl (fun g47=>?_) (fun g47=>?_)))))
          ·exact Gpo (Gpo (Gpo (Gpo (Gpu (Gpu (Gpu (Gpo (Gr (Ao rfl rfl) (Af (Ar (S1 56 rfl) (B6 rfl (Ah (Ga rfl (Af (Ay (Ad (A0 rfl rfl (I) A1 ⟨by rw [show checkW kd wd mo=1 from by unfold checkW;split<;>first|rfl|omega|(split<;>first|rfl|omega)],rfl⟩)))))))))))))))))
          ·refine Gro (Aa fld31_0 rfl) (Gro (As ty3) ?_)
           refine Gro (Bh rfl rfl) (Gro (Ac rfl) (A7 (d:=51) rfl (fun g51=>?_) (fun g51=>?_)))
           ·refine Gro (Aa fld31_2 rfl) (Gro (As ty3) ?_)
            refine Gro (Bh rfl rfl) (Gro (Ao rfl rfl) (Gr (Ak rfl rfl) (Af (Ar (S1 56 rfl) (A6 rfl (fun c56=>?_) (fun c56=>?_))))))
            ·exact Ah (Ga rfl (Af (Ay (Ad (A0 rfl rfl (I) A1 ⟨by rw [show checkW kd wd mo=1 from by unfold checkW;split<;>first|rfl|omega|(split<;>first|rfl|omega)],rfl⟩)))))
            ·exact Az (Ai (Ah (Ga rfl (Af (Ay (A0 rfl rfl (I) A1 ⟨by rw [show checkW kd wd mo=0 from by unfold checkW;split<;>first|rfl|omega|(split<;>first|rfl|omega)],rfl⟩))))))
           ·exact Gpo (Gpo (Gpo (Gro (Ak rfl rfl) (Gr (Ak rfl rfl) (Af (Ar (S1 56 rfl) (Cw rfl (Az (Ai (Ah (Ga rfl (Af (Ay (A0 rfl rfl (I) A1 ⟨by rw [show checkW kd wd mo=0 from by unfold checkW;split<;>first|rfl|omega|(split<;>first|rfl|omega)],rfl⟩))))))))))))))
        ·refine Gpo (Gpo (Gpo (Gpo (Gpu (Gpu (Gpu (Gpo (Gr (Ak rfl rfl) (Gm rfl (Gro (Aa fld31_0 rfl) (Gro (As ty3) ?_)))))))))))
         refine Gro (Bh rfl rfl) (Gro (Ac rfl) (A7 (d:=51) rfl (fun g51=>?_) (fun g51=>?_)))
         ·refine Gro (Aa fld31_2 rfl) (Gro (As ty3) ?_)
          refine Gro (Bh rfl rfl) (Gro (Ao rfl rfl) (Gr (Ak rfl rfl) (Af (Ar (S1 56 rfl) (A6 rfl (fun c56=>?_) (fun c56=>?_))))))
          ·exact Ah (Ga rfl (Af (Ay (Ad (A0 rfl rfl (I) A1 ⟨by rw [show checkW kd wd mo=1 from by unfold checkW;split<;>first|rfl|omega|(split<;>first|rfl|omega)],rfl⟩)))))
          ·exact Az (Ai (Ah (Ga rfl (Af (Ay (A0 rfl rfl (I) A1 ⟨by rw [show checkW kd wd mo=0 from by unfold checkW;split<;>first|rfl|omega|(split<;>first|rfl|omega)],rfl⟩))))))
         ·exact Gpo (Gpo (Gpo (Gro (Ak rfl rfl) (Gr (Ak rfl rfl) (Af (Ar (S1 56 rfl) (Cw rfl (Az (Ai (Ah (Ga rfl (Af (Ay (A0 rfl rfl (I) A1 ⟨by rw [show checkW kd wd mo=0 from by unfold checkW;split<;>first|rfl|omega|(split<;>first|rfl|omega)],rfl⟩))))))))))))))
      ·refine Gpo (Gpo (Gpo (Gro (Ak rfl rfl) (Gr (Ak rfl rfl) (Af (Ar (S2 33 1 rfl rfl) (Cw rfl (Az (Ai (Av (Ah (Gf fld31_0 rfl (Gl ty3 ?_)))))))))))))
       refine Gr (Bi rfl rfl) (Gm rfl (A7 (d:=37) rfl (fun g37=>?_) (fun g37=>?_)))
       ·refine Gro (Aa fld31_2 rfl) (Gro (As ty3) ?_)
        refine Gro (A8 rfl rfl) (Gro (Ac rfl) (A7 (d:=41) rfl (fun g41=>?_) (fun g41=>?_)))
        ·exact Gpo (Gpo (Gpo (Gro (Ao rfl rfl) (Gr (Ao rfl rfl) (Gm rfl (Gpo (Gpo (Gpo (Gpo (Gpu (Gpu (Gpu (Gpo (Gr (Ao rfl rfl) (Af (Ar (S1 56 rfl) (B6 rfl (Ah (Ga rfl (Af (Ay (Ad (A0 rfl rfl (I) A1 ⟨by rw [show checkW kd wd mo=1 from by unfold checkW;split<;>first|rfl|omega|(split<;>first|rfl|omega)],rfl⟩)))))))))))))))))))))))
        ·refine Gro (Aa fld31_2 rfl) (Gro (As ty3) ?_)
         refine Gro (Br rfl rfl) (Gro (Ak rfl rfl) (Gr (Ao rfl rfl) (Gm rfl (A7 (d:=47) rfl (fun g47=>?_) (fun g47=>?_)))))
         ·exact Gpo (Gpo (Gpo (Gpo (Gpu (Gpu (Gpu (Gpo (Gr (Ao rfl rfl) (Af (Ar (S1 56 rfl) (B6 rfl (Ah (Ga rfl (Af (Ay (Ad (A0 rfl rfl (I) A1 ⟨by rw [show checkW kd wd mo=1 from by unfold checkW;split<;>first|rfl|omega|(split<;>first|rfl|omega)],rfl⟩)))))))))))))))))
         ·refine Gro (Aa fld31_0 rfl) (Gro (As ty3) ?_)
          refine Gro (Bh rfl rfl) (Gro (Ac rfl) (A7 (d:=51) rfl (fun g51=>?_) (fun g51=>?_)))
          ·refine Gro (Aa fld31_2 rfl) (Gro (As ty3) ?_)
           refine Gro (Bh rfl rfl) (Gro (Ao rfl rfl) (Gr (Ak rfl rfl) (Af (Ar (S1 56 rfl) (A6 rfl (fun c56=>?_) (fun c56=>?_))))))
           ·exact Ah (Ga rfl (Af (Ay (Ad (A0 rfl rfl (I) A1 ⟨by rw [show checkW kd wd mo=1 from by unfold checkW;split<;>first|rfl|omega|(split<;>first|rfl|omega)],rfl⟩)))))
           ·exact Az (Ai (Ah (Ga rfl (Af (Ay (A0 rfl rfl (I) A1 ⟨by rw [show checkW kd wd mo=0 from by unfold checkW;split<;>first|rfl|omega|(split<;>first|rfl|omega)],rfl⟩))))))
          ·exact Gpo (Gpo (Gpo (Gro (Ak rfl rfl) (Gr (Ak rfl rfl) (Af (Ar (S1 56 rfl) (Cw rfl (Az (Ai (Ah (Ga rfl (Af (Ay (A0 rfl rfl (I) A1 ⟨by rw [show checkW kd wd mo=0 from by unfold checkW;split<;>first|rfl|omega|(split<;>first|rfl|omega)],rfl⟩))))))))))))))
       ·refine Gpo (Gpo (Gpo (Gpo (Gpu (Gpu (Gpu (Gpo (Gr (Ak rfl rfl) (Gm rfl (Gro (Aa fld31_0 rfl) (Gro (As ty3) ?_)))))))))))
        refine Gro (Bh rfl rfl) (Gro (Ac rfl) (A7 (d:=51) rfl (fun g51=>?_) (fun g51=>?_)))
        ·refine Gro (Aa fld31_2 rfl) (Gro (As ty3) ?_)
         refine Gro (Bh rfl rfl) (Gro (Ao rfl rfl) (Gr (Ak rfl rfl) (Af (Ar (S1 56 rfl) (A6 rfl (fun c56=>?_) (fun c56=>?_))))))
         ·exact Ah (Ga rfl (Af (Ay (Ad (A0 rfl rfl (I) A1 ⟨by rw [show checkW kd wd mo=1 from by unfold checkW;split<;>first|rfl|omega|(split<;>first|rfl|omega)],rfl⟩)))))
         ·exact Az (Ai (Ah (Ga rfl (Af (Ay (A0 rfl rfl (I) A1 ⟨by rw [show checkW kd wd mo=0 from by unfold checkW;split<;>first|rfl|omega|(split<;>first|rfl|omega)],rfl⟩))))))
        ·exact Gpo (Gpo (Gpo (Gro (Ak rfl rfl) (Gr (Ak rfl rfl) (Af (Ar (S1 56 rfl) (Cw rfl (Az (Ai (Ah (Ga rfl (Af (Ay (A0 rfl rfl (I) A1 ⟨by rw [show checkW kd wd mo=0 from by unfold checkW;split<;>first|rfl|omega|(split<;>first|rfl|omega)],rfl⟩))))))))))))))
   ·refine Gpo (Gpo (Gpo (Gpo (Gpu (Gpu (Gpu (Gpo (Gr (Ak rfl rfl) (Gm rfl (Gro (Aa fld31_0 rfl) (Gro (As ty3) ?_)))))))))))
    refine Gro (Bh rfl rfl) (Gro (Ac rfl) (A7 (d:=28) rfl (fun g28=>?_) (fun g28=>?_)))
    ·refine Gro (Aa fld31_1 rfl) (Gro (As ty3) ?_)
     refine Gro (Bh rfl rfl) (Gro (Ao rfl rfl) (Gr (Ak rfl rfl) (Af (Ar (S2 33 1 rfl rfl) (A6 rfl (fun c33=>?_) (fun c33=>?_))))))
     ·exact Ah (Ga rfl (Af (Ay (Ad (A0 rfl rfl (I) A1 ⟨by rw [show checkW kd wd mo=1 from by unfold checkW;split<;>first|rfl|omega|(split<;>first|rfl|omega)],rfl⟩)))))
     ·refine Az (Ai (Av (Ah (Gf fld31_0 rfl (Gl ty3 ?_)))))
      refine Gr (Bi rfl rfl) (Gm rfl (A7 (d:=37) rfl (fun g37=>?_) (fun g37=>?_)))
      ·refine Gro (Aa fld31_2 rfl) (Gro (As ty3) ?_)
       refine Gro (A8 rfl rfl) (Gro (Ac rfl) (A7 (d:=41) rfl (fun g41=>?_) (fun g41=>?_)))
       ·exact Gpo (Gpo (Gpo (Gro (Ao rfl rfl) (Gr (Ao rfl rfl) (Gm rfl (Gpo (Gpo (Gpo (Gpo (Gpu (Gpu (Gpu (Gpo (Gr (Ao rfl rfl) (Af (Ar (S1 56 rfl) (B6 rfl (Ah (Ga rfl (Af (Ay (Ad (A0 rfl rfl (I) A1 ⟨by rw [show checkW kd wd mo=1 from by unfold checkW;split<;>first|rfl|omega|(split<;>first|rfl|omega)],rfl⟩)))))))))))))))))))))))
       ·refine Gro (Aa fld31_2 rfl) (Gro (As ty3) ?_)
        refine Gro (Br rfl rfl) (Gro (Ak rfl rfl) (Gr (Ao rfl rfl) (Gm rfl (A7 (d:=47) rfl (fun g47=>?_) (fun g47=>?_)))))
        ·exact Gpo (Gpo (Gpo (Gpo (Gpu (Gpu (Gpu (Gpo (Gr (Ao rfl rfl) (Af (Ar (S1 56 rfl) (B6 rfl (Ah (Ga rfl (Af (Ay (Ad (A0 rfl rfl (I) A1 ⟨by rw [show checkW kd wd mo=1 from by unfold checkW;split<;>first|rfl|omega|(split<;>first|rfl|omega)],rfl⟩)))))))))))))))))
        ·refine Gro (Aa fld31_0 rfl) (Gro (As ty3) ?_)
         refine Gro (Bh rfl rfl) (Gro (Ac rfl) (A7 (d:=51) rfl (fun g51=>?_) (fun g51=>?_)))
         ·refine Gro (Aa fld31_2 rfl) (Gro (As ty3) ?_)
          refine Gro (Bh rfl rfl) (Gro (Ao rfl rfl) (Gr (Ak rfl rfl) (Af (Ar (S1 56 rfl) (A6 rfl (fun c56=>?_) (fun c56=>?_))))))
          ·exact Ah (Ga rfl (Af (Ay (Ad (A0 rfl rfl (I) A1 ⟨by rw [show checkW kd wd mo=1 from by unfold checkW;split<;>first|rfl|omega|(split<;>first|rfl|omega)],rfl⟩)))))
          ·exact Az (Ai (Ah (Ga rfl (Af (Ay (A0 rfl rfl (I) A1 ⟨by rw [show checkW kd wd mo=0 from by unfold checkW;split<;>first|rfl|omega|(split<;>first|rfl|omega)],rfl⟩))))))
         ·exact Gpo (Gpo (Gpo (Gro (Ak rfl rfl) (Gr (Ak rfl rfl) (Af (Ar (S1 56 rfl) (Cw rfl (Az (Ai (Ah (Ga rfl (Af (Ay (A0 rfl rfl (I) A1 ⟨by rw [show checkW kd wd mo=0 from by unfold checkW;split<;>first|rfl|omega|(split<;>first|rfl|omega)],rfl⟩))))))))))))))
      ·refine Gpo (Gpo (Gpo (Gpo (Gpu (Gpu (Gpu (Gpo (Gr (Ak rfl rfl) (Gm rfl (Gro (Aa fld31_0 rfl) (Gro (As ty3) ?_)))))))))))
       refine Gro (Bh rfl rfl) (Gro (Ac rfl) (A7 (d:=51) rfl (fun g51=>?_) (fun g51=>?_)))
       ·refine Gro (Aa fld31_2 rfl) (Gro (As ty3) ?_)
        refine Gro (Bh rfl rfl) (Gro (Ao rfl rfl) (Gr (Ak rfl rfl) (Af (Ar (S1 56 rfl) (A6 rfl (fun c56=>?_) (fun c56=>?_))))))
        ·exact Ah (Ga rfl (Af (Ay (Ad (A0 rfl rfl (I) A1 ⟨by rw [show checkW kd wd mo=1 from by unfold checkW;split<;>first|rfl|omega|(split<;>first|rfl|omega)],rfl⟩)))))
        ·exact Az (Ai (Ah (Ga rfl (Af (Ay (A0 rfl rfl (I) A1 ⟨by rw [show checkW kd wd mo=0 from by unfold checkW;split<;>first|rfl|omega|(split<;>first|rfl|omega)],rfl⟩))))))
       ·exact Gpo (Gpo (Gpo (Gro (Ak rfl rfl) (Gr (Ak rfl rfl) (Af (Ar (S1 56 rfl) (Cw rfl (Az (Ai (Ah (Ga rfl (Af (Ay (A0 rfl rfl (I) A1 ⟨by rw [show checkW kd wd mo=0 from by unfold checkW;split<;>first|rfl|omega|(split<;>first|rfl|omega)],rfl⟩))))))))))))))
    ·refine Gpo (Gpo (Gpo (Gro (Ak rfl rfl) (Gr (Ak rfl rfl) (Af (Ar (S2 33 1 rfl rfl) (Cw rfl (Az (Ai (Av (Ah (Gf fld31_0 rfl (Gl ty3 ?_)))))))))))))
     refine Gr (Bi rfl rfl) (Gm rfl (A7 (d:=37) rfl (fun g37=>?_) (fun g37=>?_)))
     ·refine Gro (Aa fld31_2 rfl) (Gro (As ty3) ?_)
      refine Gro (A8 rfl rfl) (Gro (Ac rfl) (A7 (d:=41) rfl (fun g41=>?_) (fun g41=>?_)))
      ·exact Gpo (Gpo (Gpo (Gro (Ao rfl rfl) (Gr (Ao rfl rfl) (Gm rfl (Gpo (Gpo (Gpo (Gpo (Gpu (Gpu (Gpu (Gpo (Gr (Ao rfl rfl) (Af (Ar (S1 56 rfl) (B6 rfl (Ah (Ga rfl (Af (Ay (Ad (A0 rfl rfl (I) A1 ⟨by rw [show checkW kd wd mo=1 from by unfold checkW;split<;>first|rfl|omega|(split<;>first|rfl|omega)],rfl⟩)))))))))))))))))))))))
      ·refine Gro (Aa fld31_2 rfl) (Gro (As ty3) ?_)
       refine Gro (Br rfl rfl) (Gro (Ak rfl rfl) (Gr (Ao rfl rfl) (Gm rfl (A7 (d:=47) rfl (fun g47=>?_) (fun g47=>?_)))))
       ·exact Gpo (Gpo (Gpo (Gpo (Gpu (Gpu (Gpu (Gpo (Gr (Ao rfl rfl) (Af (Ar (S1 56 rfl) (B6 rfl (Ah (Ga rfl (Af (Ay (Ad (A0 rfl rfl (I) A1 ⟨by rw [show checkW kd wd mo=1 from by unfold checkW;split<;>first|rfl|omega|(split<;>first|rfl|omega)],rfl⟩)))))))))))))))))
       ·refine Gro (Aa fld31_0 rfl) (Gro (As ty3) ?_)
        refine Gro (Bh rfl rfl) (Gro (Ac rfl) (A7 (d:=51) rfl (fun g51=>?_) (fun g51=>?_)))
        ·refine Gro (Aa fld31_2 rfl) (Gro (As ty3) ?_)
         refine Gro (Bh rfl rfl) (Gro (Ao rfl rfl) (Gr (Ak rfl rfl) (Af (Ar (S1 56 rfl) (A6 rfl (fun c56=>?_) (fun c56=>?_))))))
         ·exact Ah (Ga rfl (Af (Ay (Ad (A0 rfl rfl (I) A1 ⟨by rw [show checkW kd wd mo=1 from by unfold checkW;split<;>first|rfl|omega|(split<;>first|rfl|omega)],rfl⟩)))))
         ·exact Az (Ai (Ah (Ga rfl (Af (Ay (A0 rfl rfl (I) A1 ⟨by rw [show checkW kd wd mo=0 from by unfold checkW;split<;>first|rfl|omega|(split<;>first|rfl|omega)],rfl⟩))))))
        ·exact Gpo (Gpo (Gpo (Gro (Ak rfl rfl) (Gr (Ak rfl rfl) (Af (Ar (S1 56 rfl) (Cw rfl (Az (Ai (Ah (Ga rfl (Af (Ay (A0 rfl rfl (I) A1 ⟨by rw [show checkW kd wd mo=0 from by unfold checkW;split<;>first|rfl|omega|(split<;>first|rfl|omega)],rfl⟩))))))))))))))
     ·refine Gpo (Gpo (Gpo (Gpo (Gpu (Gpu (Gpu (Gpo (Gr (Ak rfl rfl) (Gm rfl (Gro (Aa fld31_0 rfl) (Gro (As ty3) ?_)))))))))))
      refine Gro (Bh rfl rfl) (Gro (Ac rfl) (A7 (d:=51) rfl (fun g51=>?_) (fun g51=>?_)))
      ·refine Gro (Aa fld31_2 rfl) (Gro (As ty3) ?_)
       refine Gro (Bh rfl rfl) (Gro (Ao rfl rfl) (Gr (Ak rfl rfl) (Af (Ar (S1 56 rfl) (A6 rfl (fun c56=>?_) (fun c56=>?_))))))
       ·exact Ah (Ga rfl (Af (Ay (Ad (A0 rfl rfl (I) A1 ⟨by rw [show checkW kd wd mo=1 from by unfold checkW;split<;>first|rfl|omega|(split<;>first|rfl|omega)],rfl⟩)))))
       ·exact Az (Ai (Ah (Ga rfl (Af (Ay (A0 rfl rfl (I) A1 ⟨by rw [show checkW kd wd mo=0 from by unfold checkW;split<;>first|rfl|omega|(split<;>first|rfl|omega)],rfl⟩))))))
      ·exact Gpo (Gpo (Gpo (Gro (Ak rfl rfl) (Gr (Ak rfl rfl) (Af (Ar (S1 56 rfl) (Cw rfl (Az (Ai (Ah (Ga rfl (Af (Ay (A0 rfl rfl (I) A1 ⟨by rw [show checkW kd wd mo=0 from by unfold checkW;split<;>first|rfl|omega|(split<;>first|rfl|omega)],rfl⟩))))))))))))))
theorem RightW_ok(w lb sg:Int) :
    CallS Tryz.prog κ 251 [I64 (w),I64 (lb),I64 (sg)] I (fun r J=>r = .bool (decide (rightW w lb sg))∧I=J):=by
 refine Ce3 Tryz.func251 rfl rfl ?_
 refine Ah (Ga rfl (Af (Ah (Gm rfl (Gr (B5 rfl rfl) (Gm rfl (A7 (d:=9) rfl (fun g9=>?_) (fun g9=>?_))))))))
 ·refine Gro (Ac rfl) (Gro (D3 rfl rfl) (Gr (Ao rfl rfl) (Gm rfl (A7 (d:=13) rfl (fun g13=>?_) (fun g13=>?_)))))
  ·refine Gro (Ac rfl) (Gro (B5 rfl rfl) (Gr (Ao rfl rfl) (Gm rfl (A7 (d:=17) rfl (fun g17=>?_) (fun g17=>?_)))))
   ·refine Gro (Ac rfl) (Gro (D3 rfl rfl) (Gr (Ao rfl rfl) (Gm rfl (A7 (d:=21) rfl (fun g21=>?_) (fun g21=>?_)))))
    ·refine Gro (Ac rfl) (Gro (Bi rfl rfl) (Gro (Ac rfl) (A7 (d:=24) rfl (fun g24=>?_) (fun g24=>?_))))
     ·exact Gpo (Gpo (Gro (Ao rfl rfl) (Gr (Ao rfl rfl) (Ga rfl (Af (Ar (S1 6 rfl) (Ay (A0 rfl rfl (I) A1 ⟨(by first|exact congrArg Value.bool (decide_eq_decide.2 (by unfold rightW;omega))|exact congrArg Value.bool (decide_eq_true (by unfold rightW;omega)).symm|exact congrArg Value.bool (decide_eq_false (by unfold rightW;omega)).symm),rfl⟩))))))))
     ·exact Gro (Ac rfl) (Gro (Bi rfl rfl) (Gro (Ak rfl rfl) (Gr (Ao rfl rfl) (Ga rfl (Af (Ar (S1 6 rfl) (Ay (A0 rfl rfl (I) A1 ⟨(by first|exact congrArg Value.bool (decide_eq_decide.2 (by unfold rightW;omega))|exact congrArg Value.bool (decide_eq_true (by unfold rightW;omega)).symm|exact congrArg Value.bool (decide_eq_false (by unfold rightW;omega)).symm),rfl⟩))))))))
    ·exact Gpo (Gpo (Gpo (Gpu (Gpu (Gpo (Gr (Ak rfl rfl) (Ga rfl (Af (Ar (S1 6 rfl) (Ay (A0 rfl rfl (I) A1 ⟨(by first|exact congrArg Value.bool (decide_eq_decide.2 (by unfold rightW;omega))|exact congrArg Value.bool (decide_eq_true (by unfold rightW;omega)).symm|exact congrArg Value.bool (decide_eq_false (by unfold rightW;omega)).symm),rfl⟩)))))))))))
   ·exact Gpo (Gpo (Gr (Ak rfl rfl) (Gm rfl (Gpo (Gpo (Gpo (Gpu (Gpu (Gpo (Gr (Ak rfl rfl) (Ga rfl (Af (Ar (S1 6 rfl) (Ay (A0 rfl rfl (I) A1 ⟨(by first|exact congrArg Value.bool (decide_eq_decide.2 (by unfold rightW;omega))|exact congrArg Value.bool (decide_eq_true (by unfold rightW;omega)).symm|exact congrArg Value.bool (decide_eq_false (by unfold rightW;omega)).symm),rfl⟩)))))))))))))))
  ·exact Gpo (Gpo (Gr (Ak rfl rfl) (Gm rfl (Gpo (Gpo (Gr (Ak rfl rfl) (Gm rfl (Gpo (Gpo (Gpo (Gpu (Gpu (Gpo (Gr (Ak rfl rfl) (Ga rfl (Af (Ar (S1 6 rfl) (Ay (A0 rfl rfl (I) A1 ⟨(by first|exact congrArg Value.bool (decide_eq_decide.2 (by unfold rightW;omega))|exact congrArg Value.bool (decide_eq_true (by unfold rightW;omega)).symm|exact congrArg Value.bool (decide_eq_false (by unfold rightW;omega)).symm),rfl⟩)))))))))))))))))))
 ·exact Gpo (Gpo (Gr (Ak rfl rfl) (Gm rfl (Gpo (Gpo (Gr (Ak rfl rfl) (Gm rfl (Gpo (Gpo (Gr (Ak rfl rfl) (Gm rfl (Gpo (Gpo (Gpo (Gpu (Gpu (Gpo (Gr (Ak rfl rfl) (Ga rfl (Af (Ar (S1 6 rfl) (Ay (A0 rfl rfl (I) A1 ⟨(by first|exact congrArg Value.bool (decide_eq_decide.2 (by unfold rightW;omega))|exact congrArg Value.bool (decide_eq_true (by unfold rightW;omega)).symm|exact congrArg Value.bool (decide_eq_false (by unfold rightW;omega)).symm),rfl⟩)))))))))))))))))))))))
theorem From4_ok(n a c:Int) :
    CallS Tryz.prog κ 226 [I64 (n),I64 (a),I64 (c)] I (fun r J=>r = .bool (decide (a≤n∧n≤c))∧I=J):=by
 refine Ce3 Tryz.func226 rfl rfl ?_
 refine Ah (Ga rfl (Af (Ah (Gm rfl (Gm rfl (Gr (B5 rfl rfl) (Gm rfl (A7 (d:=10) rfl (fun g10=>?_) (fun g10=>?_)))))))))
 ·exact Gro (Ac rfl) (Gro (Ac rfl) (Gro (D3 rfl rfl) (Gr (Ao rfl rfl) (Ga rfl (Af (Ar (S1 6 rfl) (Ay (A0 rfl rfl (I) A1 ⟨(by first|exact congrArg Value.bool (decide_eq_decide.2 (by skip;omega))|exact congrArg Value.bool (decide_eq_true (by skip;omega)).symm|exact congrArg Value.bool (decide_eq_false (by skip;omega)).symm),rfl⟩))))))))
 ·exact Gpo (Gpo (Gpo (Gr (Ak rfl rfl) (Ga rfl (Af (Ar (S1 6 rfl) (Ay (A0 rfl rfl (I) A1 ⟨(by first|exact congrArg Value.bool (decide_eq_decide.2 (by skip;omega))|exact congrArg Value.bool (decide_eq_true (by skip;omega)).symm|exact congrArg Value.bool (decide_eq_false (by skip;omega)).symm),rfl⟩))))))))
theorem Attr4_ok(w lb sg:Int) :
    CallS Tryz.prog κ 205 [I64 (w),I64 (lb),I64 (sg)] I (fun r J=>r=I64 (if rightW w lb sg then 0 else 1)∧I=J):=by
 refine Ce3 Tryz.func205 rfl rfl ?_
 refine Ah (Ga rfl (Af (Av (Ah (Gm rfl (Gc0 (Aj call226 rfl rfl (From4_ok w 1 1000)) ?_))))))
 refine Gr (Cd rfl) (Gm rfl (A7 (d:=10) rfl (fun g10=>?_) (fun g10=>?_)))
 ·exact Gpo (Gpo (Gpo (Gr (Ao rfl rfl) (Gm rfl (Gpo (Gpo (Gpo (Gpu (Gpu (Gpo (Gr (Ao rfl rfl) (Af (Ar (S1 22 rfl) (B6 rfl (Ah (Ga rfl (Af (Ay (Ad (A0 rfl rfl (I) A1 ⟨by rw [if_neg (by unfold rightW;omega)],rfl⟩))))))))))))))))))))
 ·refine Gro (Ac rfl) (Et (Cu rfl rfl rfl) (Aj call226 rfl rfl (From4_ok lb 0 15)) ?_)
  rintro _ _ ⟨_,_,⟨rfl,rfl⟩,rfl,rfl⟩
  refine Gro (Cd rfl) (Gr (Ak rfl rfl) (Gm rfl (A7 (d:=15) rfl (fun g15=>?_) (fun g15=>?_))))
  ·exact Gpo (Gpo (Gpo (Gpu (Gpu (Gpo (Gr (Ao rfl rfl) (Af (Ar (S1 22 rfl) (B6 rfl (Ah (Ga rfl (Af (Ay (Ad (A0 rfl rfl (I) A1 ⟨by rw [if_neg (by unfold rightW;omega)],rfl⟩)))))))))))))))
  ·refine Gro (Ac rfl) (Gro (Bh rfl rfl) (Gro (Ac rfl) (A7 (d:=18) rfl (fun g18=>?_) (fun g18=>?_))))
   ·refine Gro (Ac rfl) (Gro (Bh rfl rfl) (Gro (Ao rfl rfl) (Gr (Ak rfl rfl) (Af (Ar (S1 22 rfl) (A6 rfl (fun c22=>?_) (fun c22=>?_)))))))
    ·exact Ah (Ga rfl (Af (Ay (Ad (A0 rfl rfl (I) A1 ⟨by rw [if_neg (by unfold rightW;omega)],rfl⟩)))))
    ·exact Az (Ai (Ah (Ga rfl (Af (Ay (A0 rfl rfl (I) A1 ⟨by rw [if_pos (by unfold rightW;omega)],rfl⟩))))))
   ·exact Gpo (Gpo (Gro (Ak rfl rfl) (Gr (Ak rfl rfl) (Af (Ar (S1 22 rfl) (Cw rfl (Az (Ai (Ah (Ga rfl (Af (Ay (A0 rfl rfl (I) A1 ⟨by rw [if_pos (by unfold rightW;omega)],rfl⟩)))))))))))))
theorem OrderL_ok(a c:Lk) :
    CallS Tryz.prog κ 255 [.agg #[I64 (a.u),I64 (a.v),I64 (a.w),I64 (a.lb),I64 (a.sg),I64 (a.tm)],.agg #[I64 (c.u),I64 (c.v),I64 (c.w),I64 (c.lb),I64 (c.sg),I64 (c.tm)]] I (fun r J=>r=I64 (Lk.cmp a c)∧I=J):=by
 refine Ce2 Tryz.func255 rfl rfl ?_
 refine Ah (Ge1 (Bb (cs:=[_,_,_,_,_,_]) rfl rfl rfl) fun b1=>Ge1 (Bb (cs:=[_,_,_,_,_,_]) rfl rfl rfl) fun b2=>Ga rfl (Af (Av (Bk mixed (Bq (blk b2 [I64 (c.u),I64 (c.v),I64 (c.w),I64 (c.lb),I64 (c.sg),I64 (c.tm)] 146::blk b1 [I64 (a.u),I64 (a.v),I64 (a.w),I64 (a.lb),I64 (a.sg),I64 (a.tm)] 146::I) 12 (Dr 0 rfl (Aa fld146_0 rfl) (Dr 1 rfl (As ty3) ?_)))))))
 refine Dr 2 rfl (Aa fld146_0 rfl) (Dr 3 rfl (As ty3) ?_)
 refine Dr 5 rfl (Aa fld146_1 rfl) (Dr 6 rfl (As ty3) ?_)
 refine Dr 7 rfl (Aa fld146_1 rfl) (Dr 8 rfl (As ty3) ?_)
 refine Ds1 4 (Sc0 rfl (Aj call225 rfl rfl (Compare_ok a.u c.u)) ?_)
 refine Ds1 9 (Sc0 rfl (Aj call225 rfl rfl (Compare_ok a.v c.v)) ?_)
 refine Ds1 10 (Se1 rfl (B1 (α:=Int) (cs:=[_,_]) (xs:=[cmpI a.u c.u,cmpI a.v c.v]) Am ty3 rfl rfl dc dc rfl rfl rfl rfl) fun ad3=>?_)
 refine Ds1 11 (Sc0 rfl (Aj call224 rfl rfl (Or_ok Bo)) ?_)
 refine Dh kr ?_
 refine A.read (i:=12) kr rfl (Ce rfl) rfl rfl (Bd rfl) ?_
 refine Di kr ?_
 exact Ai (Ar (S1 4 rfl) (Ay (A0 rfl rfl (I) A1 ⟨by rw [show Lk.cmp a c=Pt.cmp ⟨a.u,a.v⟩ ⟨c.u,c.v⟩ from rfl,←orL_cmp],rfl⟩)))
theorem Edge5_ok(l:Lk) :
    CallS Tryz.prog κ 130 [.agg #[I64 (l.u),I64 (l.v),I64 (l.w),I64 (l.lb),I64 (l.sg),I64 (l.tm)]] I (fun r J=>r = .agg #[I64 l.p.u,I64 l.p.v]∧I=J):=by
 refine Ce1 Tryz.func130 rfl rfl ?_
 refine Ah (Ge1 (Bb (cs:=[_,_,_,_,_,_]) rfl rfl rfl) fun b1=>Ge1 (Ax ty135 rfl) fun b2=>Af (Ah (Gf fld146_0 rfl (Gl ty3 ?_))))
 refine Gf fld146_1 rfl (Gl ty3 ?_)
 refine Gr (Bc (cells:=[_,_]) ty135 Tryz.underlying135 pl135 rfl rfl) (Ge0 (Bj ty135) ?_)
 exact Af (Ay (C6 rfl ty135 rfl mm rfl (I) A1 ⟨rfl,rfl⟩))
end Go.Sl
namespace Go.Sl
end Go.Sl
namespace Go.Sl
open Go.Proofs
set_option maxRecDepth 4000
theorem at_drop{α:Type}[Inhabited α](xs:List α)(l:Nat)(i:Int)(h0:0≤i):at_ (xs.drop l) i=at_ xs ((l:Int)+i):=by
 unfold at_
 rw [List.getD_eq_getElem?_getD,List.getD_eq_getElem?_getD,List.getElem?_drop]
 congr 2;omega
variable {κ:Ctx}{I:List Item}
theorem Lk.cmp_lt(a c:Lk):Lk.cmp a c<0↔Lk.lt a c:=Pt.cmp_lt _ _
def askE(nd:Int)(xs:List Lk)(kd wd mo nw:Int):Int:=if checkW kd wd mo≠0 then checkW kd wd mo else if checkS nd xs≠0 then checkS nd xs else if nw<0∨1048576<nw∨xs.any (fun x=>decide (nw<x.tm))=true then 9 else 0
theorem CheckS_ok{nd:Int}{va:Value}{xs:List Lk}(hl:Sl κ I va xs) :
    CallS Tryz.prog κ 214 [.agg #[I64 (nd),va]] I (fun r J=>r=I64 (checkS nd xs)∧I=J):=by
 refine B4 hl.le fun hmax=>?_
 refine Ce1 Tryz.func214 rfl rfl ?_
 refine Ah (Ge1 (Bb (cs:=[_,_]) rfl rfl rfl) fun b1=>Ga rfl (Af (Av (Ah (Gf fld111_0 rfl (Gl ty3 ?_))))))
 refine Gr (A8 rfl rfl) (Gm rfl (A7 (d:=8) rfl (fun g8=>?_) (fun g8=>?_)))
 ·exact Gpo (Gpo (Gpo (Gr (Ao rfl rfl) (Af (B6 rfl (Ah (Ga rfl (Af (Ay (Ad (A0 rfl rfl (I) A1 ⟨by rw [show checkS nd xs=1 from (by first|(unfold checkS;rw [if_pos om];done)|exact hs.trans ((Cn om (by rw [badL_one om asm];decide)).trans (badL_one om asm)))],rfl⟩)))))))))))
 ·refine Gro (Aa fld111_0 rfl) (Gro (As ty3) ?_)
  refine Gro (Br rfl rfl) (Gr (Ak rfl rfl) (Af (A6 rfl (fun c12=>?_) (fun c12=>?_))))
  ·exact Ah (Ga rfl (Af (Ay (Ad (A0 rfl rfl (I) A1 ⟨by rw [show checkS nd xs=1 from (by first|(unfold checkS;rw [if_pos om];done)|exact hs.trans ((Cn om (by rw [badL_one om asm];decide)).trans (badL_one om asm)))],rfl⟩)))))
  ·refine Az (Ai (Av (Ah (Gf fld111_1 rfl (Gl ty109 ?_)))))
   refine Gr (Bu (α:=Lk) (xs:=xs) Ap rfl (Bl hl)) (Gm rfl (Af (Ar (S4 16 15 14 1 rfl rfl rfl rfl) (A5 (Bv (σ:=Nat) (fun s=>([(1,.pointer (some ⟨b1,0,none⟩)),(14,va),(15,I64 (((xs.length:Nat):Int))),(16,I64 (((s:Nat):Int)))]:Env)) (fun s=>blk b1 [I64 (nd),va] 111::I) (fun s=>(s≤xs.length)∧(checkS nd xs=scanL (badL nd) Lk.lt (prevAt xs s) (xs.drop s))) (fun s=>xs.length - s) (0) (show ((0:Nat)≤xs.length)∧(checkS nd xs=scanL (badL nd) Lk.lt (prevAt xs (0:Nat)) (xs.drop (0:Nat))) from ⟨om,(by unfold checkS;rw [if_neg om];rfl)⟩) (Ab rfl (Ab rfl (Ab rfl (Ab Ca Bp)))) (show Fit κ _ (blk b1 [I64 (nd),va] 111::I) from A4) ?_)))))
   rintro k hp
   obtain ⟨hk,hs⟩:=hp
   refine Ah (Gr (A8 rfl rfl) (Af (Av (A6 rfl (fun c17=>?_) (fun c17=>?_)))))
   ·refine Az (Ai (Av (A5 (Ah (Gm rfl (Gr (Ba (α:=Lk) (xs:=xs) Ap ty146 rfl rfl (Bl hl) om om) (Gr (Bs (α:=Lk) (xs:=xs) ty146 rfl (Bl hl) om om) (Ge1 (Ax ty146 rfl) fun b2=>Ga rfl (Ge0 (Dw ty146) ?_)))))))))
    refine Af (A5 (Ah (Gf fld146_0 rfl (Gl ty3 ?_))))
    refine Gr (A8 rfl rfl) (Gm rfl (A7 (d:=25) rfl (fun g25=>?_) (fun g25=>?_)))
    ·exact Gpo (Gpo (Gpo (Gpo (Gpo (Gr (Ao rfl rfl) (Gm rfl (Gpo (Gpo (Gpo (Gpo (Gpo (Gr (Ao rfl rfl) (Ga rfl (Af (Ar (S7 21 3 4 1 14 15 16 rfl rfl rfl rfl rfl rfl rfl) (B6 rfl (Ah (Ga rfl (Af (Ay (Au (Au (Ad (Ad (Au (Ad (A0 rfl rfl (I) A1 ⟨by rw [show checkS nd xs=6 from (hs.trans ((Cn om (by rw [badL_six om];decide)).trans (badL_six om)))],rfl⟩)))))))))))))))))))))))))))
    ·refine Gro (Aa fld146_0 rfl) (Gro (As ty3) ?_)
     refine Gro (Aa fld146_1 rfl) (Gro (As ty3) ?_)
     refine Gro (B5 rfl rfl) (Gr (Ak rfl rfl) (Gm rfl (A7 (d:=32) rfl (fun g32=>?_) (fun g32=>?_))))
     ·exact Gpo (Gpo (Gpo (Gpo (Gpo (Gr (Ao rfl rfl) (Ga rfl (Af (Ar (S7 21 3 4 1 14 15 16 rfl rfl rfl rfl rfl rfl rfl) (B6 rfl (Ah (Ga rfl (Af (Ay (Au (Au (Ad (Ad (Au (Ad (A0 rfl rfl (I) A1 ⟨by rw [show checkS nd xs=6 from (hs.trans ((Cn om (by rw [badL_six om];decide)).trans (badL_six om)))],rfl⟩))))))))))))))))))))
     ·refine Gro (Aa fld146_1 rfl) (Gro (As ty3) ?_)
      refine Gro (Aa fld111_0 rfl) (Gro (As ty3) ?_)
      refine Gro (B5 rfl rfl) (Gr (Ak rfl rfl) (Ga rfl (Af (Ar (S7 21 3 4 1 14 15 16 rfl rfl rfl rfl rfl rfl rfl) (A6 rfl (fun c21=>?_) (fun c21=>?_))))))
      ·exact Ah (Ga rfl (Af (Ay (Au (Au (Ad (Ad (Au (Ad (A0 rfl rfl (I) A1 ⟨by rw [show checkS nd xs=6 from (hs.trans ((Cn om (by rw [badL_six om];decide)).trans (badL_six om)))],rfl⟩))))))))))
      ·refine Ah (Gf fld146_2 rfl (Gl ty3 ?_))
       refine Gf fld146_3 rfl (Gl ty3 ?_)
       refine Gf fld146_4 rfl (Gl ty3 ?_)
       refine Gc0 (Aj call251 rfl rfl (RightW_ok ((at_ xs (k:Int)).w) ((at_ xs (k:Int)).lb) ((at_ xs (k:Int)).sg))) ?_
       refine Gr (Cd rfl) (Ga rfl (Af (Ar (S7 39 3 4 1 14 15 16 rfl rfl rfl rfl rfl rfl rfl) (A6 rfl (fun c39=>?_) (fun c39=>?_)))))
       ·exact Ah (Ga rfl (Af (Ay (Au (Au (Ad (Ad (Au (Ad (A0 rfl rfl (I) A1 ⟨by rw [show checkS nd xs=1 from (by first|(unfold checkS;rw [if_pos om];done)|exact hs.trans ((Cn om (by rw [badL_one om asm];decide)).trans (badL_one om asm)))],rfl⟩))))))))))
       ·refine Ah (Gf fld146_5 rfl (Gl ty3 ?_))
        refine Gr (A8 rfl rfl) (Gm rfl (A7 (d:=52) rfl (fun g52=>?_) (fun g52=>?_)))
        ·exact Gpo (Gpo (Gpo (Gr (Ao rfl rfl) (Ga rfl (Af (Ar (S7 48 3 4 1 14 15 16 rfl rfl rfl rfl rfl rfl rfl) (B6 rfl (Ah (Ga rfl (Af (Ay (Au (Au (Ad (Ad (Au (Ad (A0 rfl rfl (I) A1 ⟨by rw [show checkS nd xs=9 from (hs.trans ((Cn om (by rw [badL_nine om (by first|assumption|exact Classical.not_not.1 asm|exact Classical.byContradiction fun h=>c47 (by rw [if_neg h];decide)) om];decide)).trans (badL_nine om (by first|assumption|exact Classical.not_not.1 asm|exact Classical.byContradiction fun h=>c47 (by rw [if_neg h];decide)) om)))],rfl⟩))))))))))))))))))
        ·refine Gro (Aa fld146_5 rfl) (Gro (As ty3) ?_)
         refine Gro (Br rfl rfl) (Gr (Ak rfl rfl) (Ga rfl (Af (Ar (S7 48 3 4 1 14 15 16 rfl rfl rfl rfl rfl rfl rfl) (A6 rfl (fun c48=>?_) (fun c48=>?_))))))
         ·exact Ah (Ga rfl (Af (Ay (Au (Au (Ad (Ad (Au (Ad (A0 rfl rfl (I) A1 ⟨by rw [show checkS nd xs=9 from (hs.trans ((Cn om (by rw [badL_nine om (by first|assumption|exact Classical.not_not.1 asm|exact Classical.byContradiction fun h=>c47 (by rw [if_neg h];decide)) om];decide)).trans (badL_nine om (by first|assumption|exact Classical.not_not.1 asm|exact Classical.byContradiction fun h=>c47 (by rw [if_neg h];decide)) om)))],rfl⟩))))))))))
         ·refine Av (Bk mixed (Bq (blk b2 [I64 ((at_ xs (k:Int)).u),I64 ((at_ xs (k:Int)).v),I64 ((at_ xs (k:Int)).w),I64 ((at_ xs (k:Int)).lb),I64 ((at_ xs (k:Int)).sg),I64 ((at_ xs (k:Int)).tm)] 146::blk b1 [I64 (nd),va] 111::I) 14 (Dr 0 rfl (Ac rfl) (Dr 1 rfl (Br rfl rfl) (Dr 2 rfl (Ac rfl) (Dt (d:=60) rfl (fun g60=>?_) (fun g60=>?_)))))))
          ·refine Dro 3 rfl (Aa fld111_1 rfl) (Dro 4 rfl (As ty109) ?_)
           refine Dro 5 rfl (Ac rfl) (Dro 6 rfl (Rsu rfl rfl) (Dro 7 rfl (Ba (α:=Lk) (xs:=xs) Ap ty146 rfl rfl (Bl hl) om om) (Dro 8 rfl (Bs (α:=Lk) (xs:=xs) ty146 rfl (Bl hl) om om) (Dro 9 rfl (Bm (vs:=[_,_,_,_,_,_]) ty146) ?_))))
           refine Ds1 10 (Sc0 rfl (Aj call255 rfl rfl (OrderL_ok (at_ xs ((k:Int) - 1)) (at_ xs (k:Int)))) ?_)
           refine Dro 11 rfl (B5 rfl rfl) (Dr 12 rfl (Ao rfl rfl) (Dr 13 rfl (Bd rfl) (Dz (Ai (Ar (S5 57 1 14 15 16 rfl rfl rfl rfl rfl) (A6 rfl (fun c57=>?_) (fun c57=>?_)))))))
           ·exact Ah (Ga rfl (Af (Ay (Au (Au (Ad (Ad (Au (Ad (A0 rfl rfl (I) A1 ⟨by rw [show checkS nd xs=5 from (hs.trans (scanL_order om (badL_zero om (by first|assumption|exact Classical.not_not.1 asm|exact Classical.byContradiction fun h=>c47 (by rw [if_neg h];decide)) om) om (by first|assumption|(intro h;have:=(Lk.cmp_lt _ _).2 h;omega))))],rfl⟩))))))))))
           ·exact Az (Al (Al (Ai (A2 (Gr (Rad rfl rfl) (Gm rfl (Be (B0 ((k+1)) ⟨om,(hs.trans (D6 om (badL_zero om (by first|assumption|exact Classical.not_not.1 asm|exact Classical.byContradiction fun h=>c47 (by rw [if_neg h];decide)) om) (fun h0=>by first|omega|exact (Lk.cmp_lt _ _).1 om|exact Classical.not_not.1 asm)))⟩))))))))
          ·exact Dpo 3 rfl (Dpo 4 rfl (Dpo 5 rfl (Dpo 6 rfl (Dpo 7 rfl (Dpo 8 rfl (Dpo 9 rfl (Dpo 10 rfl (Dpo 11 rfl (Dr 12 rfl (Ak rfl rfl) (Dr 13 rfl (Bd rfl) (Dz (Ai (Ar (S5 57 1 14 15 16 rfl rfl rfl rfl rfl) (Cw rfl (Az (Al (Al (Ai (A2 (Gr (Rad rfl rfl) (Gm rfl (Be (B0 ((k+1)) ⟨om,(hs.trans (D6 om (badL_zero om (by first|assumption|exact Classical.not_not.1 asm|exact Classical.byContradiction fun h=>c47 (by rw [if_neg h];decide)) om) (fun h0=>by first|omega|exact (Lk.cmp_lt _ _).1 om|exact Classical.not_not.1 asm)))⟩)))))))))))))))))))))))
   ·exact Bt (Aq (Aq (A9 (Ai (Ah (Ga rfl (Af (Ay (A0 rfl rfl (I) A1 ⟨by rw [show checkS nd xs=0 from (hs.trans (scanL_end om))],rfl⟩)))))))))
theorem CheckS5_ok{nd:Int}{va:Value}{xs:List Lk}(hl:Sl κ I va xs) :
    CallS Tryz.prog κ 129 [.agg #[I64 (nd),va]] I (fun r J=>r=I64 (checkS nd xs)∧I=J):=by
 refine B4 hl.le fun hmax=>?_
 refine Ce1 Tryz.func129 rfl rfl ?_
 refine Ah (Ge1 (Bb (cs:=[_,_]) rfl rfl rfl) fun b1=>Ga rfl (Af (Av (Ah (Gf fld111_0 rfl (Gl ty3 ?_))))))
 refine Gr (A8 rfl rfl) (Gm rfl (A7 (d:=9) rfl (fun g9=>?_) (fun g9=>?_)))
 ·exact Gpo (Gpo (Gpo (Gr (Ao rfl rfl) (Af (B6 rfl (Ah (Ga rfl (Af (Ay (Ad (A0 rfl rfl (I) A1 ⟨by rw [show checkS nd xs=1 from (by first|(unfold checkS;rw [if_pos om];done)|exact hs.trans ((Cn om (by rw [badL_one om asm];decide)).trans (badL_one om asm)))],rfl⟩)))))))))))
 ·refine Gro (Aa fld111_0 rfl) (Gro (As ty3) ?_)
  refine Gro (Br rfl rfl) (Gr (Ak rfl rfl) (Af (A6 rfl (fun c13=>?_) (fun c13=>?_))))
  ·exact Ah (Ga rfl (Af (Ay (Ad (A0 rfl rfl (I) A1 ⟨by rw [show checkS nd xs=1 from (by first|(unfold checkS;rw [if_pos om];done)|exact hs.trans ((Cn om (by rw [badL_one om asm];decide)).trans (badL_one om asm)))],rfl⟩)))))
  ·refine Az (Ai (Av (Ah (Gf fld111_1 rfl (Gl ty109 ?_)))))
   refine Gr (Bu (α:=Lk) (xs:=xs) Ap rfl (Bl hl)) (Gm rfl (Af (Ar (S4 17 16 15 1 rfl rfl rfl rfl) (A5 (Bv (σ:=Nat) (fun s=>([(1,.pointer (some ⟨b1,0,none⟩)),(15,va),(16,I64 (((xs.length:Nat):Int))),(17,I64 (((s:Nat):Int)))]:Env)) (fun s=>blk b1 [I64 (nd),va] 111::I) (fun s=>(s≤xs.length)∧(checkS nd xs=scanL (badL nd) Lk.lt (prevAt xs s) (xs.drop s))) (fun s=>xs.length - s) (0) (show ((0:Nat)≤xs.length)∧(checkS nd xs=scanL (badL nd) Lk.lt (prevAt xs (0:Nat)) (xs.drop (0:Nat))) from ⟨om,(by unfold checkS;rw [if_neg om];rfl)⟩) (Ab rfl (Ab rfl (Ab rfl (Ab Ca Bp)))) (show Fit κ _ (blk b1 [I64 (nd),va] 111::I) from A4) ?_)))))
   rintro k hp
   obtain ⟨hk,hs⟩:=hp
   refine Ah (Gr (A8 rfl rfl) (Af (Av (A6 rfl (fun c18=>?_) (fun c18=>?_)))))
   ·refine Az (Ai (Av (A5 (Ah (Gm rfl (Gr (Ba (α:=Lk) (xs:=xs) Ap ty146 rfl rfl (Bl hl) om om) (Gr (Bs (α:=Lk) (xs:=xs) ty146 rfl (Bl hl) om om) (Ge1 (Ax ty146 rfl) fun b2=>Ga rfl (Ge0 (Dw ty146) ?_)))))))))
    refine Af (Av (Ah (Gf fld146_0 rfl (Gl ty3 ?_))))
    refine Gr (A8 rfl rfl) (Gm rfl (A7 (d:=25) rfl (fun g25=>?_) (fun g25=>?_)))
    ·exact Gpo (Gpo (Gpo (Gpo (Gpo (Gr (Ao rfl rfl) (Gm rfl (Gpo (Gpo (Gpo (Gpo (Gpo (Gr (Ao rfl rfl) (Af (Ar (S7 38 3 4 1 15 16 17 rfl rfl rfl rfl rfl rfl rfl) (B6 rfl (Ah (Ga rfl (Af (Ay (Ad (Au (Ad (Ad (Au (Ad (A0 rfl rfl (I) A1 ⟨by rw [show checkS nd xs=6 from (hs.trans ((Cn om (by rw [badL_six om];decide)).trans (badL_six om)))],rfl⟩))))))))))))))))))))))))))
    ·refine Gro (Aa fld146_0 rfl) (Gro (As ty3) ?_)
     refine Gro (Aa fld146_1 rfl) (Gro (As ty3) ?_)
     refine Gro (B5 rfl rfl) (Gr (Ak rfl rfl) (Gm rfl (A7 (d:=32) rfl (fun g32=>?_) (fun g32=>?_))))
     ·exact Gpo (Gpo (Gpo (Gpo (Gpo (Gr (Ao rfl rfl) (Af (Ar (S7 38 3 4 1 15 16 17 rfl rfl rfl rfl rfl rfl rfl) (B6 rfl (Ah (Ga rfl (Af (Ay (Ad (Au (Ad (Ad (Au (Ad (A0 rfl rfl (I) A1 ⟨by rw [show checkS nd xs=6 from (hs.trans ((Cn om (by rw [badL_six om];decide)).trans (badL_six om)))],rfl⟩)))))))))))))))))))
     ·refine Gro (Aa fld146_1 rfl) (Gro (As ty3) ?_)
      refine Gro (Aa fld111_0 rfl) (Gro (As ty3) ?_)
      refine Gro (B5 rfl rfl) (Gr (Ak rfl rfl) (Af (Ar (S7 38 3 4 1 15 16 17 rfl rfl rfl rfl rfl rfl rfl) (A6 rfl (fun c38=>?_) (fun c38=>?_)))))
      ·exact Ah (Ga rfl (Af (Ay (Ad (Au (Ad (Ad (Au (Ad (A0 rfl rfl (I) A1 ⟨by rw [show checkS nd xs=6 from (hs.trans ((Cn om (by rw [badL_six om];decide)).trans (badL_six om)))],rfl⟩))))))))))
      ·refine Az (Ai (Av (Ah (Gf fld146_2 rfl (Gl ty3 ?_)))))
       refine Gf fld146_3 rfl (Gl ty3 ?_)
       refine Gf fld146_4 rfl (Gl ty3 ?_)
       refine Gc0 (Aj call205 rfl rfl (Attr4_ok ((at_ xs (k:Int)).w) ((at_ xs (k:Int)).lb) ((at_ xs (k:Int)).sg))) ?_
       refine Ga rfl (Af (Ar (S7 5 3 4 1 15 16 17 rfl rfl rfl rfl rfl rfl rfl) (Ah (Gm rfl (Gr (Bh rfl rfl) (Af (A6 rfl (fun c47=>?_) (fun c47=>?_))))))))
       ·refine Ah (Gm rfl (Ga rfl (Af (Ay (Ad (Au (Ad (Ad (Au (Ad ?_))))))))))
        have hnr:¬rightW (at_ xs (k:Int)).w (at_ xs (k:Int)).lb (at_ xs (k:Int)).sg:=fun h=>c47 (if_pos h)
        exact A0 rfl rfl (I) A1 ⟨by rw [if_neg hnr,show checkS nd xs=1 from (by first|(unfold checkS;rw [if_pos om];done)|exact hs.trans ((Cn om (by rw [badL_one om asm];decide)).trans (badL_one om asm)))],rfl⟩
       ·refine Az (Ai (Av (Ah (Gf fld146_5 rfl (Gl ty3 ?_)))))
        refine Gr (A8 rfl rfl) (Gm rfl (A7 (d:=52) rfl (fun g52=>?_) (fun g52=>?_)))
        ·exact Gpo (Gpo (Gpo (Gr (Ao rfl rfl) (Af (Ar (S7 56 3 4 1 15 16 17 rfl rfl rfl rfl rfl rfl rfl) (B6 rfl (Ah (Ga rfl (Af (Ay (Ad (Au (Ad (Ad (Au (Ad (A0 rfl rfl (I) A1 ⟨by rw [show checkS nd xs=9 from (hs.trans ((Cn om (by rw [badL_nine om (by first|assumption|exact Classical.not_not.1 asm|exact Classical.byContradiction fun h=>c47 (by rw [if_neg h];decide)) om];decide)).trans (badL_nine om (by first|assumption|exact Classical.not_not.1 asm|exact Classical.byContradiction fun h=>c47 (by rw [if_neg h];decide)) om)))],rfl⟩)))))))))))))))))
        ·refine Gro (Aa fld146_5 rfl) (Gro (As ty3) ?_)
         refine Gro (Br rfl rfl) (Gr (Ak rfl rfl) (Af (Ar (S7 56 3 4 1 15 16 17 rfl rfl rfl rfl rfl rfl rfl) (A6 rfl (fun c56=>?_) (fun c56=>?_)))))
         ·exact Ah (Ga rfl (Af (Ay (Ad (Au (Ad (Ad (Au (Ad (A0 rfl rfl (I) A1 ⟨by rw [show checkS nd xs=9 from (hs.trans ((Cn om (by rw [badL_nine om (by first|assumption|exact Classical.not_not.1 asm|exact Classical.byContradiction fun h=>c47 (by rw [if_neg h];decide)) om];decide)).trans (badL_nine om (by first|assumption|exact Classical.not_not.1 asm|exact Classical.byContradiction fun h=>c47 (by rw [if_neg h];decide)) om)))],rfl⟩))))))))))
         ·refine Az (Ai (Av (Bk mixed (Bq (blk b2 [I64 ((at_ xs (k:Int)).u),I64 ((at_ xs (k:Int)).v),I64 ((at_ xs (k:Int)).w),I64 ((at_ xs (k:Int)).lb),I64 ((at_ xs (k:Int)).sg),I64 ((at_ xs (k:Int)).tm)] 146::blk b1 [I64 (nd),va] 111::I) 15 (Dr 0 rfl (Ac rfl) (Dr 1 rfl (Br rfl rfl) (Dr 2 rfl (Ac rfl) (Dt (d:=59) rfl (fun g59=>?_) (fun g59=>?_)))))))))
          ·refine Dro 3 rfl (Aa fld111_1 rfl) (Dro 4 rfl (As ty109) ?_)
           refine Dro 5 rfl (Ac rfl) (Dro 6 rfl (Rsu rfl rfl) (Dro 7 rfl (Ba (α:=Lk) (xs:=xs) Ap ty146 rfl rfl (Bl hl) om om) (Dro 8 rfl (Bs (α:=Lk) (xs:=xs) ty146 rfl (Bl hl) om om) (Dro 10 rfl (Bm (vs:=[_,_,_,_,_,_]) ty146) ?_))))
           refine Ds1 9 (Sc0 rfl (Aj call130 rfl rfl (Edge5_ok (at_ xs ((k:Int) - 1)))) ?_)
           refine Ds1 11 (Sc0 rfl (Aj call130 rfl rfl (Edge5_ok (at_ xs (k:Int)))) ?_)
           refine Ds1 12 (Sc0 rfl (Aj call84 rfl rfl (Before03_ok (at_ xs ((k:Int) - 1)).p (at_ xs (k:Int)).p)) ?_)
           refine Dro 13 rfl (Cd rfl) (Dr 14 rfl (Ao rfl rfl) (Dz (Ai (Ar (S5 71 1 15 16 17 rfl rfl rfl rfl rfl) (A6 rfl (fun c71=>?_) (fun c71=>?_))))))
           ·exact Ah (Ga rfl (Af (Ay (Au (Ad (Ad (Au (Ad (A0 rfl rfl (I) A1 ⟨by rw [show checkS nd xs=5 from (hs.trans (scanL_order om (badL_zero om (by first|assumption|exact Classical.not_not.1 asm|exact Classical.byContradiction fun h=>c47 (by rw [if_neg h];decide)) om) om (by first|assumption|(intro h;have:=(Lk.cmp_lt _ _).2 h;omega))))],rfl⟩)))))))))
           ·exact Az (Al (Ai (A2 (Gr (Rad rfl rfl) (Gm rfl (Be (B0 ((k+1)) ⟨om,(hs.trans (D6 om (badL_zero om (by first|assumption|exact Classical.not_not.1 asm|exact Classical.byContradiction fun h=>c47 (by rw [if_neg h];decide)) om) (fun h0=>by first|omega|exact (Lk.cmp_lt _ _).1 om|exact Classical.not_not.1 asm)))⟩)))))))
          ·exact Dpo 3 rfl (Dpo 4 rfl (Dpo 5 rfl (Dpo 6 rfl (Dpo 7 rfl (Dpo 8 rfl (Dpo 10 rfl (Dpo 9 rfl (Dpo 11 rfl (Dpo 12 rfl (Dpo 13 rfl (Dr 14 rfl (Ak rfl rfl) (Dz (Ai (Ar (S5 71 1 15 16 17 rfl rfl rfl rfl rfl) (Cw rfl (Az (Al (Ai (A2 (Gr (Rad rfl rfl) (Gm rfl (Be (B0 ((k+1)) ⟨om,(hs.trans (D6 om (badL_zero om (by first|assumption|exact Classical.not_not.1 asm|exact Classical.byContradiction fun h=>c47 (by rw [if_neg h];decide)) om) (fun h0=>by first|omega|exact (Lk.cmp_lt _ _).1 om|exact Classical.not_not.1 asm)))⟩)))))))))))))))))))))))
   ·exact Bt (Aq (Aq (A9 (Ai (Ah (Ga rfl (Af (Ay (A0 rfl rfl (I) A1 ⟨by rw [show checkS nd xs=0 from (hs.trans (scanL_end om))],rfl⟩)))))))))
theorem Wrong_ok{κ:Ctx}{I:List Item}{nd kd wd mo nw:Int}{va:Value}{xs:List Lk}(hl:Sl κ I va xs) :
    CallS Tryz.prog κ 131 [.agg #[I64 (nd),va],.agg #[I64 (kd),I64 (wd),I64 (mo)],I64 (nw)] I (fun r J=>r=I64 (askE nd xs kd wd mo nw)∧I=J):=by
 refine B4 hl.le fun hmax=>?_
 refine Ce3 Tryz.func131 rfl rfl ?_
 refine Ah (Ge1 (Bb (cs:=[_,_]) rfl rfl rfl) fun b1=>Ge1 (Bb (cs:=[_,_,_]) rfl rfl rfl) fun b2=>Ga rfl (Af (Av (Ah (Gl3 ty31 ?_)))))
 refine Gc0 (Aj call85 rfl rfl (CheckW7_ok kd wd mo)) ?_
 refine Ga rfl (Af (Ah (Gm rfl (Gr (Bh rfl rfl) (Af (A6 rfl (fun c14=>?_) (fun c14=>?_)))))))
 ·exact Ah (Gm rfl (Ga rfl (Af (Ay (Ad (A0 rfl rfl (I) A1 ⟨by rw [show askE nd xs kd wd mo nw=checkW kd wd mo from (by unfold askE;rw [if_pos c14])],rfl⟩))))))
 ·refine Az (Ai (Av (Ah (Gl2 ty111 ?_))))
  refine Gc0 (Aj call129 rfl rfl (CheckS5_ok (nd:=nd) (Bl hl))) ?_
  refine Ga rfl (Af (Ar (S3 8 3 2 rfl rfl rfl) (Ah (Gm rfl (Gr (Bh rfl rfl) (Af (A6 rfl (fun c19=>?_) (fun c19=>?_))))))))
  ·exact Ah (Gm rfl (Ga rfl (Af (Ay (Ad (A0 rfl rfl (I) A1 ⟨by rw [show askE nd xs kd wd mo nw=checkS nd xs from (by unfold askE;rw [if_neg c14,if_pos c19])],rfl⟩))))))
  ·refine Az (Ai (Av (Ah (Gm rfl (Gr (A8 rfl rfl) (Gm rfl (A7 (d:=23) rfl (fun g23=>?_) (fun g23=>?_))))))))
   ·exact Gpo (Gpo (Gr (Ao rfl rfl) (Af (B6 rfl (Ah (Ga rfl (Af (Ay (Ad (A0 rfl rfl (I) A1 ⟨by rw [show askE nd xs kd wd mo nw=9 from (by unfold askE;rw [if_neg c14,if_neg c19,if_pos (by first|omega|(simp only [*];done)|exact .inr (.inr asm)|exact .inr (.inr (List.any_eq_true.2 ⟨_,Cf (i:=(k:Int)) om om,decide_eq_true c37⟩)))])],rfl⟩))))))))))
   ·refine Gro (Ac rfl) (Gro (Br rfl rfl) (Gr (Ak rfl rfl) (Af (A6 rfl (fun c26=>?_) (fun c26=>?_)))))
    ·exact Ah (Ga rfl (Af (Ay (Ad (A0 rfl rfl (I) A1 ⟨by rw [show askE nd xs kd wd mo nw=9 from (by unfold askE;rw [if_neg c14,if_neg c19,if_pos (by first|omega|(simp only [*];done)|exact .inr (.inr asm)|exact .inr (.inr (List.any_eq_true.2 ⟨_,Cf (i:=(k:Int)) om om,decide_eq_true c37⟩)))])],rfl⟩)))))
    ·refine Az (Ai (Av (Ah (Gf fld111_1 rfl (Gl ty109 ?_)))))
     refine Gr (Bu (α:=Lk) (xs:=xs) Ap rfl (Bl hl)) (Gm rfl (Af (Ar (S4 30 29 28 2 rfl rfl rfl rfl) (A5 (Bv (σ:=Nat) (fun s=>([(2,I64 (nw)),(28,va),(29,I64 (((xs.length:Nat):Int))),(30,I64 (((s:Nat):Int)))]:Env)) (fun s=>blk b2 [I64 (kd),I64 (wd),I64 (mo)] 31::blk b1 [I64 (nd),va] 111::I) (fun s=>(s≤xs.length)∧(∀j,j<s→¬nw<(at_ xs (j:Int)).tm)) (fun s=>xs.length - s) (0) (show ((0:Nat)≤xs.length)∧(∀j,j<(0:Nat)→¬nw<(at_ xs (j:Int)).tm) from ⟨om,all_zero⟩) (Ab rfl (Ab rfl (Ab rfl (Ab Ca Bp)))) (show Fit κ _ (blk b2 [I64 (kd),I64 (wd),I64 (mo)] 31::blk b1 [I64 (nd),va] 111::I) from A4) ?_)))))
     rintro k hp
     obtain ⟨hk,hn⟩:=hp
     refine Ah (Gr (A8 rfl rfl) (Af (Av (A6 rfl (fun c31=>?_) (fun c31=>?_)))))
     ·refine Az (Ai (Av (A5 (Ah (Gr (Ba (α:=Lk) (xs:=xs) Ap ty146 rfl rfl (Bl hl) om om) (Gr (Bs (α:=Lk) (xs:=xs) ty146 rfl (Bl hl) om om) (Ge1 (Ax ty146 rfl) fun b3=>Ge0 (Dw ty146) ?_)))))))
      refine Af (Ah (Gf fld146_5 rfl (Gl ty3 ?_)))
      refine Gm rfl (Gr (Br rfl rfl) (Af (A6 rfl (fun c37=>?_) (fun c37=>?_))))
      ·exact Ah (Ga rfl (Af (Ay (Au (Ad (Ad (Au (Ad (A0 rfl rfl (I) A1 ⟨by rw [show askE nd xs kd wd mo nw=9 from (by unfold askE;rw [if_neg c14,if_neg c19,if_pos (by first|omega|(simp only [*];done)|exact .inr (.inr asm)|exact .inr (.inr (List.any_eq_true.2 ⟨_,Cf (i:=(k:Int)) om om,decide_eq_true c37⟩)))])],rfl⟩)))))))))
      ·exact Az (Al (Ai (A2 (Gr (Rad rfl rfl) (Gm rfl (Be (B0 ((k+1)) ⟨om,(Du hn c37)⟩)))))))
     ·exact Bt (Aq (Aq (A9 (Ai (Ah (Ga rfl (Af (Ay (A0 rfl rfl (I) A1 ⟨by rw [show askE nd xs kd wd mo nw=0 from (by unfold askE;rw [if_neg c14,if_neg c19,if_neg (by rintro (h|h|h)<;>first|omega|(obtain ⟨x,hx,h2⟩:=List.any_eq_true.1 h;obtain ⟨j,hj,rfl⟩:=mem_at hx;exact hn j om (of_decide_eq_true h2)))])],rfl⟩)))))))))
end Go.Sl
