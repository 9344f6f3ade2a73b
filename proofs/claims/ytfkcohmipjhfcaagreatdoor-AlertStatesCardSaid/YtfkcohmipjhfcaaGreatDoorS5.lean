/- A part of the proofs of statements of this seat: contracts of functions, and the plain laws that they lean on. No conditions. -/
import Derived.Shelf.SlSortCmp.NoneTotal
import Derived.Shelf.SlSortCmp.WholeK
import Derived.Test.YtfkcohmipjhfcaaGreatDoorS4
import Derived.MapKept
set_option linter.unusedVariables false
set_option linter.unusedSimpArgs false
set_option linter.unusedSectionVars false
open Go.Proofs.Tryz (prog)
namespace Go.Sl
open Go.Proofs Go.Shelf Go.RowKit Go.Lib Go.Sort
section
variable {α:Type}[Enc α][Inhabited α]
theorem flat_cells(d:Array α):flatK Enc.enc (Enc.sz α) d=(cells d.toList).toArray:=by
 apply Array.ext
 ·simp [cells_length]
 ·intro t h1 h2
  have h1':t<d.size*Enc.sz α:=by simpa using h1
  have hpos:0<Enc.sz α:=Enc.pos
  have hi:t / Enc.sz α<d.size:=Nat.div_lt_of_lt_mul (by rw [Nat.mul_comm];exact h1')
  have hj:t % Enc.sz α<Enc.sz α:=Nat.mod_lt _ hpos
  have e1:t=t / Enc.sz α*Enc.sz α+t % Enc.sz α:=by rw [Nat.mul_comm];exact (Nat.div_add_mod t (Enc.sz α)).symm
  have e2:=cells_get d.toList (t / Enc.sz α) (t % Enc.sz α) (by simpa using hi) hj
  rw [←e1] at e2
  have e3:(cells d.toList)[t]? = some ((cells d.toList)[t]'(by simpa using h2)):=List.getElem?_eq_getElem _
  rw [e3] at e2
  have hlen:t % Enc.sz α<(Enc.enc (d.toList[t / Enc.sz α]'(by simpa using hi))).length:=by rw [Enc.len];exact hj
  rw [List.getElem?_eq_getElem hlen] at e2
  have e4:=Option.some.inj e2
  simp only [List.getElem_toArray]
  rw [e4]
  simp [flatK,getElem!_pos,hi,Enc.len,hj]
theorem sort_base{P:Program}{ρ:Ren}{κ:Ctx}{I:List Item}(L:SlLaysF0.n6 P ρ)(aE:∀w,(isAgg (ρ.t 24)).run P w = .ok true w)(zE:∀w,(Go.sizeOf (ρ.t 24)).run P w = .ok (Enc.sz α) w)(cf:α->α->Int)(hO:SWO (ltOf cf))(g:Nat)(cb:Array Value)
  (eg:∀args w,(callFunc g args).run P w = .ok (.enter g args) w) (hcmp:∀(x y:α) (W:World),Calls P g (#[.agg (Enc.enc x).toArray,.agg (Enc.enc y).toArray]++cb) W λe w'=>e = .returned (.int .i64 (cf x y))/\∃q os',w'=grow (W.drewN q) os')
  {e:TypeId} {ad:Option Addr} {c:Nat} {xs:List α} (hc:0<c) (hsz:xs.length<4611686018427387904):ep P κ (ρ.f 6) [.slice ad xs.length c,.func (.func g) #[] cb] (vc e (.slice ad xs.length c) xs::I) λr J=>∃ys:List α,(r = .tuple #[]/\ys.Perm xs/\ys.Pairwise λa b=>ltOf cf b a=false)/\J=[]++vc e (.slice ad ys.length c) ys::I:=by
 intro w hs
 obtain ⟨hok,_⟩:=hs.ok _ List.mem_cons_self
 obtain ⟨a',cap',hv,hl,hnc,hcm,hcap⟩:=hok
 cases hv
 obtain ⟨b,off,cur,rfl,hb,hsize,hcur⟩:=hcap hc
 have hbw:b<w.heap.size:=(Array.getElem?_eq_some_iff.1 hb).1
 have hcl:=cells_length xs
 have hle:xs.length*Enc.sz α<=c*Enc.sz α:=Nat.mul_le_mul_right _ hnc
 have hH:HoldsK Enc.enc (Enc.sz α) w b off xs.toArray:=λj hj=>by
  rw [flat_cells] at hj ⊢
  have hj':j<(cells xs).length:=by simpa using hj
  have h1:=hcur j ((cells xs)[j]) (List.getElem?_eq_getElem hj')
  refine ⟨?_,by simp [World.frozen?,hb]⟩
  rw [cell_of_row w b (off+j) cur e (0,0) hb,h1]
  simp [getElem!_pos,hj']
 have h:=AnyQ.slices_SortFunc L (Enc.sz α) aE zE Enc.enc Enc.len Enc.one cf hO g cb b off c xs.toArray w eg (λm os dk _ x y=>hcmp x y _) hH hbw (by simpa using hsz)
 refine Calls.mono h ?_
 rintro e' w' ⟨rfl,d',n,os,⟨hs1,_,hperm⟩,hsort,rfl⟩
 have hs1':d'.size=xs.length:=by simpa using hs1
 have hperm':d'.toList.Perm xs:=by
  have e1:d'.extract 0 xs.toArray.size=d':=by rw [←hs1];simp
  have e2:xs.toArray.extract 0 xs.toArray.size=xs.toArray:=by simp
  rw [e1,e2] at hperm
  exact hperm
 have hlen:d'.toList.length=xs.length:=by simpa using hs1'
 refine ⟨_,_,rfl,⟨d'.toList,⟨rfl,hperm',?_⟩,rfl⟩,?_⟩
 ·rw [List.pairwise_iff_getElem]
  intro i j hi hj hij
  have:=hsort i j (Nat.zero_le _) hij (by simpa [hs1'] using hj)
  simp only [Array.length_toList] at hi hj
  rw [getElem!_pos d' i hi,getElem!_pos d' j hj] at this
  simpa using this
 ·show Sep κ _ (vc e (.slice (some ⟨b,off,none⟩) d'.toList.length c) d'.toList::I)
  refine hs.upd (At.head _ _ _) rfl ⟨rfl,by simp [sortWorldK,putRowK,Sort.grow]⟩ rfl (by simp [sortWorldK,putRowK]) (λk hk hne=>?_) ?_ λk hk=> .inl ?_
  ·have hkb:k≠b:=λekb=>hne (by subst ekb;exact ⟨off,xs.length,c,rfl,hc⟩)
   simp only [sortWorldK,Sort.grow,putRowK,putRow,mapBlock]
   rw [Array.getElem?_append_left (by simpa using hk),Array.getElem?_modify,if_neg (λe=>hkb e.symm)]
   rfl
  ·refine ⟨_,c,rfl,cells_length _,by rw [hlen];exact hnc,hcm,λ_=>⟨b,off,putCells id off (flatK Enc.enc (Enc.sz α) d') cur,rfl,?_,?_,λj u hj=>?_⟩⟩
   ·simp only [sortWorldK,Sort.grow,putRowK,putRow,mapBlock]
    rw [Array.getElem?_append_left (by simpa using hbw),Array.getElem?_modify,if_pos rfl]
    show (w.heap[b]?).map _=_
    rw [hb];rfl
   ·simpa [putCells] using hsize
   ·have hj':j<(cells d'.toList).length:=(List.getElem?_eq_some_iff.1 hj).1
    have hj2:j<xs.length*Enc.sz α:=by rw [cells_length,hlen] at hj';exact hj'
    have hoff:off+j<cur.size:=by omega
    rw [flat_cells]
    simp only [putCells,Array.getElem?_mapIdx,Array.getElem?_eq_getElem hoff,Option.map_some]
    rw [if_pos ⟨by omega,by simpa using hj'⟩,Nat.add_sub_cancel_left]
    rw [List.getElem?_eq_getElem hj'] at hj
    simpa [getElem!_pos,hj'] using hj
  ·obtain ⟨o',n',c',hv',hc'⟩:=hk
   cases hv'
   exact ⟨off,xs.length,c,rfl,hc⟩
theorem sort_any{P:Program}{ρ:Ren}{κ:Ctx}{I:List Item}(L:SlLaysF0.n6 P ρ)(aE:∀w,(isAgg (ρ.t 24)).run P w = .ok true w)(zE:∀w,(Go.sizeOf (ρ.t 24)).run P w = .ok (Enc.sz α) w)(cf:α->α->Int)(hO:SWO (ltOf cf))(g:Nat)(cb:Array Value)
  (eg:∀args w,(callFunc g args).run P w = .ok (.enter g args) w) (hcmp:∀(x y:α) (W:World),Calls P g (#[.agg (Enc.enc x).toArray,.agg (Enc.enc y).toArray]++cb) W λe w'=>e = .returned (.int .i64 (cf x y))/\∃q os',w'=grow (W.drewN q) os')
  {e:TypeId} {ad:Option Addr} {c:Nat} {xs:List α} (hsz:xs.length<4611686018427387904):ep P κ (ρ.f 6) [.slice ad xs.length c,.func (.func g) #[] cb] (vc e (.slice ad xs.length c) xs::I) λr J=>∃ys:List α,(r = .tuple #[]/\ys.Perm xs/\ys.Pairwise λa b=>ltOf cf b a=false)/\J=[]++vc e (.slice ad ys.length c) ys::I:=by
 by_cases hc:0<c
 ·exact sort_base L aE zE cf hO g cb eg hcmp hc hsz
 ·intro w hs
  obtain ⟨hok,_⟩:=hs.ok _ List.mem_cons_self
  obtain ⟨a',cap',hv,hl,hnc,hcm,hcap⟩:=hok
  cases hv
  obtain rfl:xs=[]:=List.eq_nil_of_length_eq_zero (by omega)
  refine Calls.mono (AnyF.slices_SortFunc_none L ad c _ w) ?_
  rintro e' w' ⟨rfl,rfl⟩
  exact ⟨_,_,rfl,⟨[],⟨rfl,List.Perm.nil,List.Pairwise.nil⟩,rfl⟩,hs⟩
end
theorem lays_of{P:Program}{f:FuncId}{args:List Value}{v:Value}{W:World}(h:ep P ⟨W.os,W.tape,W.output,W.drawn⟩ f args [old W.heap.size W] λr J=>r=v/\[old W.heap.size W]=J) :
  Calls P f args.toArray W λe w'=>e = .returned v/\∃q os',w'=Sort.grow (W.drewN q) os':=(h W (Sep.begin W)).mono λe w' ⟨r,J,he,⟨hv,hJ⟩,hs⟩=>by
 subst hv hJ
 refine ⟨he,w'.drawn - W.drawn,w'.heap.extract W.heap.size w'.heap.size,?_⟩
 have hb:=hs.below List.mem_cons_self
 have hok:∀k,k<W.heap.size->w'.heap[k]? = W.heap[k]? :=(hs.ok _ List.mem_cons_self).1
 have hd:=hs.tape.2
 have hheap:w'.heap=W.heap++w'.heap.extract W.heap.size w'.heap.size:=by
  apply Array.ext_getElem?
  intro k
  by_cases hk:k<W.heap.size
  ·rw [Array.getElem?_append_left hk];exact hok k hk
  ·rw [Array.getElem?_append_right (by omega),Array.getElem?_extract]
   have hsz:=hb.size
   by_cases hk2:k<w'.heap.size
   ·rw [if_pos (by omega)];congr 1;omega
   ·rw [Array.getElem?_eq_none (by omega)]
    split
    ·omega
    ·rfl
 have e:W.drawn+(w'.drawn - W.drawn)=w'.drawn:=by have:W.drawn<=w'.drawn:=hd;omega
 have hos:w'.os=W.os:=hs.os
 have htp:w'.tape=W.tape:=hs.tape.1
 have hou:w'.output=W.output:=hs.output
 obtain ⟨heap',tape',drawn',os',out'⟩:=w'
 simp only [Sort.grow,World.drewN] at *
 subst hos htp hou
 rw [e,←hheap]
end Go.Sl
namespace Go.Proofs
def Tryz.sort321_ren:Go.Shelf.Ren:=⟨fun |6=>321|15=>218|14=>337|28=>269|29=>270|20=>343|21=>344|22=>345|23=>346|24=>347|25=>348|26=>349|27=>350|46=>352|47=>305|48=>306|49=>353|50=>354|57=>355|n=>n,fun |22=>109|24=>146|25=>279|3=>3|39=>181|0=>0|53=>291|55=>175|4=>4|46=>285|45=>284|50=>273|5=>5|9=>9|66=>320|70=>324|76=>346|77=>259|n=>n,fun |n=>n⟩
theorem Tryz.sort321:Go.Proofs.SlLaysF0.n6 prog Tryz.sort321_ren:={
 mixed:=by kernel_rfl,
 f6:=⟨Tryz.f321.name,by decide,Tryz.func321.trans (congrArg some (by kernel_rfl))⟩,
 f14:=⟨Tryz.f337.name,by decide,Tryz.func337.trans (congrArg some (by kernel_rfl))⟩,
 f15:=Tryz.func218.trans (congrArg some (by kernel_rfl)),
 f20:=⟨Tryz.f343.name,by decide,Tryz.func343.trans (congrArg some (by kernel_rfl))⟩,
 f21:=⟨Tryz.f344.name,by decide,Tryz.func344.trans (congrArg some (by kernel_rfl))⟩,
 f22:=⟨Tryz.f345.name,by decide,Tryz.func345.trans (congrArg some (by kernel_rfl))⟩,
 f23:=⟨Tryz.f346.name,by decide,Tryz.func346.trans (congrArg some (by kernel_rfl))⟩,
 f24:=⟨Tryz.f347.name,by decide,Tryz.func347.trans (congrArg some (by kernel_rfl))⟩,
 f25:=⟨Tryz.f348.name,by decide,Tryz.func348.trans (congrArg some (by kernel_rfl))⟩,
 f26:=⟨Tryz.f349.name,by decide,Tryz.func349.trans (congrArg some (by kernel_rfl))⟩,
 f27:=⟨Tryz.f350.name,by decide,Tryz.func350.trans (congrArg some (by kernel_rfl))⟩,
 f28:=Tryz.func269.trans (congrArg some (by kernel_rfl)),
 f29:=Tryz.func270.trans (congrArg some (by kernel_rfl)),
 f46:=⟨Tryz.f352.name,by decide,Tryz.func352.trans (congrArg some (by kernel_rfl))⟩,
 f47:=Tryz.func305.trans (congrArg some (by kernel_rfl)),
 f48:=Tryz.func306.trans (congrArg some (by kernel_rfl)),
 f49:=⟨Tryz.f353.name,by decide,Tryz.func353.trans (congrArg some (by kernel_rfl))⟩,
 f50:=⟨Tryz.f354.name,by decide,Tryz.func354.trans (congrArg some (by kernel_rfl))⟩,
 f57:=⟨Tryz.f355.name,by decide,Tryz.func355.trans (congrArg some (by kernel_rfl))⟩,
 t0:=Tryz.underlying0,
 a0:=Tryz.isAgg0,
 z0:=Tryz.sizeOf0,
 v0:=Tryz.zeroValue0,
 t3:=Tryz.underlying3,
 a3:=Tryz.isAgg3,
 z3:=Tryz.sizeOf3,
 v3:=Tryz.zeroValue3,
 t4:=Tryz.underlying4,
 a4:=Tryz.isAgg4,
 z4:=Tryz.sizeOf4,
 v4:=Tryz.zeroValue4,
 t5:=Tryz.underlying5,
 a5:=Tryz.isAgg5,
 z5:=Tryz.sizeOf5,
 v5:=Tryz.zeroValue5,
 t9:=Tryz.underlying9,
 a9:=Tryz.isAgg9,
 z9:=Tryz.sizeOf9,
 v9:=Tryz.zeroValue9,
 t22:=Tryz.underlying109,
 a22:=Tryz.isAgg109,
 z22:=Tryz.sizeOf109,
 v22:=Tryz.zeroValue109,
 t25:=Tryz.underlying279,
 a25:=Tryz.isAgg279,
 z25:=Tryz.sizeOf279,
 v25:=Tryz.zeroValue279,
 t39:=Tryz.underlying181,
 a39:=Tryz.isAgg181,
 z39:=Tryz.sizeOf181,
 v39:=Tryz.zeroValue181,
 t45:=Tryz.underlying284,
 a45:=Tryz.isAgg284,
 z45:=Tryz.sizeOf284,
 v45:=Tryz.zeroValue284,
 t46:=Tryz.underlying285,
 a46:=Tryz.isAgg285,
 z46:=Tryz.sizeOf285,
 v46:=Tryz.zeroValue285,
 t50:=Tryz.underlying273,
 a50:=Tryz.isAgg273,
 z50:=Tryz.sizeOf273,
 v50:=Tryz.zeroValue273,
 t53:=Tryz.underlying291,
 a53:=Tryz.isAgg291,
 z53:=Tryz.sizeOf291,
 v53:=Tryz.zeroValue291,
 t55:=Tryz.underlying175,
 a55:=Tryz.isAgg175,
 z55:=Tryz.sizeOf175,
 v55:=Tryz.zeroValue175,
 t66:=Tryz.underlying320,
 a66:=Tryz.isAgg320,
 z66:=Tryz.sizeOf320,
 v66:=Tryz.zeroValue320,
 t70:=Tryz.underlying324,
 a70:=Tryz.isAgg324,
 z70:=Tryz.sizeOf324,
 v70:=Tryz.zeroValue324,
 t76:=Tryz.underlying346,
 a76:=Tryz.isAgg346,
 z76:=Tryz.sizeOf346,
 v76:=Tryz.zeroValue346,
 t77:=Tryz.underlying259,
 a77:=Tryz.isAgg259,
 z77:=Tryz.sizeOf259,
 v77:=Tryz.zeroValue259}
end Go.Proofs
namespace Go.Sl
open Go.Proofs
set_option maxRecDepth 4000
theorem Order_ok{κ:Ctx}{I:List Item}(a c:Pt):ep prog κ 154 [.agg #[e7 (a.u),e7 (a.v)],.agg #[e7 (c.u),e7 (c.v)]] I (λr J=>r=e7 (Pt.cmp a c)/\I=J):=by
 refine Ce2 Tryz.func154 C C ?_
 refine Ah (Ge1 (Bc (cs:=[_,_]) C C C) λb1=>Ge1 (Bc (cs:=[_,_]) C C C) λb2=>Ga C (Af (Au (Bl mixed (Br (e8 b2 [e7 (c.u),e7 (c.v)] 135::e8 b1 [e7 (a.u),e7 (a.v)] 135::I) 12 (Dr 0 C (Ab fld135_0 C) (Dr 1 C (As ef) ?_)))))))
 refine Dr 2 C (Ab fld135_0 C) (Dr 3 C (As ef) ?_)
 refine Dr 5 C (Ab fld135_1 C) (Dr 6 C (As ef) ?_)
 refine Dr 7 C (Ab fld135_1 C) (Dr 8 C (As ef) ?_)
 refine Ds1 4 (Sc0 C (Ao call225 C C (Compare_ok a.u c.u)) ?_)
 refine Ds1 9 (Sc0 C (Ao call225 C C (Compare_ok a.v c.v)) ?_)
 refine Ds1 10 (Se1 C (B0 (α:=Int) (cs:=[_,_]) (xs:=[cmpI a.u c.u,cmpI a.v c.v]) Ac ef C C dc dc C C C C) λad3=>?_)
 refine Ds1 11 (Sc0 C (Ao call224 C C (Or_ok Bg)) ?_)
 refine Dg kr ?_
 refine A.read (i:=12) kr C (Cp C) C C (Bb C) ?_
 refine Dh kr ?_
 exact Aj (Aq (S1 4 C) (Aw (A1 C C I A0 ⟨by rw [←orL_cmp],rfl⟩)))
variable {κ:Ctx}{I:List Item}
structure Lk where
 u:Int
 v:Int
 w:Int
 lb:Int
 sg:Int
 tm:Int
deriving DecidableEq,Inhabited
instance:Enc Lk:=⟨λx=>[e7 x.u,e7 x.v,e7 x.w,e7 x.lb,e7 x.sg,e7 x.tm],6,by omega,λ_=>rfl,λx u h=>by
 simp only [List.mem_cons,List.not_mem_nil,or_false] at h
 rcases h with rfl|rfl|rfl|rfl|rfl|rfl<;>rfl⟩
theorem eqt146:EqT prog 146 Lk:=EqT.flat (λp:Lk=>[p.u,p.v,p.w,p.lb,p.sg,p.tm]) (λ_=>rfl) (λx y h=>by cases x;cases y;simpa using h) (n:=6) (λ_=>rfl) kr kr kr kr kr
structure Ev where
 kd:Int
 tm:Int
 u:Int
 v:Int
 w:Int
 lb:Int
 sg:Int
deriving DecidableEq,Inhabited
instance:Enc Ev:=⟨λx=>[e7 x.kd,e7 x.tm,e7 x.u,e7 x.v,e7 x.w,e7 x.lb,e7 x.sg],7,by omega,λ_=>rfl,λx u h=>by
 simp only [List.mem_cons,List.not_mem_nil,or_false] at h
 rcases h with rfl|rfl|rfl|rfl|rfl|rfl|rfl<;>rfl⟩
def Lk.p(l:Lk):Pt:=⟨l.u,l.v⟩
def Lk.cmp(a c:Lk):Int:=Pt.cmp a.p c.p
def Lk.lt(a c:Lk):Prop:=Pt.lt a.p c.p
instance:DecidableRel Lk.lt:=λa c=>by unfold Lk.lt;infer_instance
def rightW(w lb sg:Int):Prop:=1<=w/\w<=1000/\0<=lb/\lb<=15/\(sg=1\/sg = -1)
instance (w lb sg:Int):Decidable (rightW w lb sg):=by unfold rightW;infer_instance
def badL(n:Int)(l:Lk):Int:=if l.u<0\/l.v<=l.u\/n<=l.v then 6 else if ¬rightW l.w l.lb l.sg then 1 else if l.tm<0\/1048576<l.tm then 9 else 0
def checkS(n:Int)(xs:List Lk):Int:=if n<0\/64<n then 1 else scanL (badL n) Lk.lt none xs
theorem badL_zero{n:Int}{l:Lk}(h1:¬(l.u<0\/l.v<=l.u\/n<=l.v))(h2:rightW l.w l.lb l.sg)(h3:¬(l.tm<0\/1048576<l.tm)):badL n l=0:=by
 unfold badL;rw [if_neg h1,if_neg (λh=>h h2),if_neg h3]
theorem badL_six{n:Int}{l:Lk}(h1:l.u<0\/l.v<=l.u\/n<=l.v):badL n l=6:=by unfold badL;rw [if_pos h1]
theorem badL_one{n:Int}{l:Lk}(h1:¬(l.u<0\/l.v<=l.u\/n<=l.v))(h2:¬rightW l.w l.lb l.sg):badL n l=1:=by unfold badL;rw [if_neg h1,if_pos h2]
theorem badL_nine{n:Int}{l:Lk}(h1:¬(l.u<0\/l.v<=l.u\/n<=l.v))(h2:rightW l.w l.lb l.sg)(h3:l.tm<0\/1048576<l.tm):badL n l=9:=by unfold badL;rw [if_neg h1,if_neg (λh=>h h2),if_pos h3]
def checkW(kd wd mo:Int):Int:=if kd<1\/3<kd then 8 else if (kd=2/\(wd<1\/1048576<wd))\/(kd≠2/\wd≠0)\/(kd=3/\(mo<0\/2016<mo))\/(kd≠3/\mo≠0) then 1 else 0
theorem CheckW_ok(kd wd mo:Int):ep prog κ 78 [.agg #[e7 kd,e7 wd,e7 mo]] I (λr J=>r=e7 (checkW kd wd mo)/\I=J):=by
 refine Ce1 Tryz.func78 C C ?_
 refine Ah (Ge1 (Bc (cs:=[_,_,_]) C C C) λb1=>Ga C (Af (Ah (Ga C (Ga C (Af (Au (Ah (Gf fld31_0 C (Gl ef ?_))))))))))
 refine Af (A4 (Ah (Gr (Bi C C) (Ga C (Af (A6 C (λc7=>?_) (λc7=>?_)))))))
 ·refine Ay (Ak (Aj (Au (Ah (Gf fld31_1 C (Gl ef ?_))))))
  refine Gm C (Gr (Be C C) (Gm C (Ba (d:=37) C (λg37=>?_) (λg37=>?_))))
  ·exact eb (eb (eb (eb (Gr (Am C C) (Af (Aq (S1 42 C) (B7 C (Ah (Ga C (Af (Aw (Ai (A1 C C I A0 ⟨by rw [show checkW kd wd mo=1 from by unfold checkW;split<;>first|rfl|omega|(split<;>first|rfl|omega)],rfl⟩)))))))))))))
  ·refine e9 (Ab fld31_2 C) (e9 (As ef) ?_)
   refine e9 (Ad C) (e9 (Be C C) (Gr (Al C C) (Af (Aq (S1 42 C) (A6 C (λc42=>?_) (λc42=>?_))))))
   ·exact Ah (Ga C (Af (Aw (Ai (A1 C C I A0 ⟨by rw [show checkW kd wd mo=1 from by unfold checkW;split<;>first|rfl|omega|(split<;>first|rfl|omega)],rfl⟩)))))
   ·exact Ay (Aj (Ah (Ga C (Af (Aw (A1 C C I A0 ⟨by rw [show checkW kd wd mo=0 from by unfold checkW;split<;>first|rfl|omega|(split<;>first|rfl|omega)],rfl⟩))))))
 ·refine Ah (Gr (Bi C C) (Ga C (Af (A6 C (λc9=>?_) (λc9=>?_)))))
  ·refine Au (Ah (Gf fld31_1 C (Gl ef ?_)))
   refine Gr (A9 C C) (Gm C (Ba (d:=14) C (λg14=>?_) (λg14=>?_)))
   ·exact eb (eb (eb (Gr (Am C C) (Af (Aq (S3 18 4 1 C C C) (B7 C (Ah (Ga C (Af (Aw (Ai (Av (Ai (A1 C C I A0 ⟨by rw [show checkW kd wd mo=1 from by unfold checkW;split<;>first|rfl|omega|(split<;>first|rfl|omega)],rfl⟩))))))))))))))
   ·refine e9 (Ab fld31_1 C) (e9 (As ef) ?_)
    refine e9 (Bv C C) (Gr (Al C C) (Af (Aq (S3 18 4 1 C C C) (A6 C (λc18=>?_) (λc18=>?_)))))
    ·exact Ah (Ga C (Af (Aw (Ai (Av (Ai (A1 C C I A0 ⟨by rw [show checkW kd wd mo=1 from by unfold checkW;split<;>first|rfl|omega|(split<;>first|rfl|omega)],rfl⟩)))))))
    ·refine Ay (Aj (Ax (Gf fld31_1 C (Gl ef ?_))))
     refine Ga C (Bd (Ak (Aj (Au (Ah (Gf fld31_1 C (Gl ef ?_)))))))
     refine Gm C (Gr (Be C C) (Gm C (Ba (d:=37) C (λg37=>?_) (λg37=>?_))))
     ·exact eb (eb (eb (eb (Gr (Am C C) (Af (Aq (S1 42 C) (B7 C (Ah (Ga C (Af (Aw (Ai (A1 C C I A0 ⟨by rw [show checkW kd wd mo=1 from by unfold checkW;split<;>first|rfl|omega|(split<;>first|rfl|omega)],rfl⟩)))))))))))))
     ·refine e9 (Ab fld31_2 C) (e9 (As ef) ?_)
      refine e9 (Ad C) (e9 (Be C C) (Gr (Al C C) (Af (Aq (S1 42 C) (A6 C (λc42=>?_) (λc42=>?_))))))
      ·exact Ah (Ga C (Af (Aw (Ai (A1 C C I A0 ⟨by rw [show checkW kd wd mo=1 from by unfold checkW;split<;>first|rfl|omega|(split<;>first|rfl|omega)],rfl⟩)))))
      ·exact Ay (Aj (Ah (Ga C (Af (Aw (A1 C C I A0 ⟨by rw [show checkW kd wd mo=0 from by unfold checkW;split<;>first|rfl|omega|(split<;>first|rfl|omega)],rfl⟩))))))
  ·refine Ah (Gr (Bi C C) (Ga C (Af (A6 C (λc21=>?_) (λc21=>?_)))))
   ·refine Au (Ah (Gf fld31_2 C (Gl ef ?_)))
    refine Gr (A9 C C) (Gm C (Ba (d:=26) C (λg26=>?_) (λg26=>?_)))
    ·exact eb (eb (eb (Gr (Am C C) (Af (Aq (S3 30 3 1 C C C) (B7 C (Ah (Ga C (Af (Aw (Ai (Av (Ai (A1 C C I A0 ⟨by rw [show checkW kd wd mo=1 from by unfold checkW;split<;>first|rfl|omega|(split<;>first|rfl|omega)],rfl⟩))))))))))))))
    ·refine e9 (Ab fld31_2 C) (e9 (As ef) ?_)
     refine e9 (Bv C C) (Gr (Al C C) (Af (Aq (S3 30 3 1 C C C) (A6 C (λc30=>?_) (λc30=>?_)))))
     ·exact Ah (Ga C (Af (Aw (Ai (Av (Ai (A1 C C I A0 ⟨by rw [show checkW kd wd mo=1 from by unfold checkW;split<;>first|rfl|omega|(split<;>first|rfl|omega)],rfl⟩)))))))
     ·refine Ay (Aj (Ax (Gf fld31_2 C (Gl ef ?_))))
      refine Ga C (Bd (Ak (Aj (Au (Ah (Gf fld31_1 C (Gl ef ?_)))))))
      refine Gm C (Gr (Be C C) (Gm C (Ba (d:=37) C (λg37=>?_) (λg37=>?_))))
      ·exact eb (eb (eb (eb (Gr (Am C C) (Af (Aq (S1 42 C) (B7 C (Ah (Ga C (Af (Aw (Ai (A1 C C I A0 ⟨by rw [show checkW kd wd mo=1 from by unfold checkW;split<;>first|rfl|omega|(split<;>first|rfl|omega)],rfl⟩)))))))))))))
      ·refine e9 (Ab fld31_2 C) (e9 (As ef) ?_)
       refine e9 (Ad C) (e9 (Be C C) (Gr (Al C C) (Af (Aq (S1 42 C) (A6 C (λc42=>?_) (λc42=>?_))))))
       ·exact Ah (Ga C (Af (Aw (Ai (A1 C C I A0 ⟨by rw [show checkW kd wd mo=1 from by unfold checkW;split<;>first|rfl|omega|(split<;>first|rfl|omega)],rfl⟩)))))
       ·exact Ay (Aj (Ah (Ga C (Af (Aw (A1 C C I A0 ⟨by rw [show checkW kd wd mo=0 from by unfold checkW;split<;>first|rfl|omega|(split<;>first|rfl|omega)],rfl⟩))))))
   ·exact Ah (Ga C (Af (Aq (S1 2 C) (Aw (Av (Ai (A1 C C I A0 ⟨by rw [show checkW kd wd mo=8 from by unfold checkW;split<;>first|rfl|omega|(split<;>first|rfl|omega)],rfl⟩)))))))
theorem CheckW7_ok(kd wd mo:Int):ep prog κ 85 [.agg #[e7 kd,e7 wd,e7 mo]] I (λr J=>r=e7 (checkW kd wd mo)/\I=J):=by
 refine Ce1 Tryz.func85 C C ?_
 refine Ah (Ge1 (Bc (cs:=[_,_,_]) C C C) λb1=>Ga C (Af (Au (Ah (Gf fld31_0 C (Gl ef ?_))))))
 refine Gr (A9 C C) (Gm C (Ba (d:=6) C (λg6=>?_) (λg6=>?_)))
 ·exact eb (eb (eb (Gr (Am C C) (Af (B7 C (Ah (Ga C (Af (Aw (Ai (A1 C C I A0 ⟨by rw [show checkW kd wd mo=8 from by unfold checkW;split<;>first|rfl|omega|(split<;>first|rfl|omega)],rfl⟩)))))))))))
 ·refine e9 (Ab fld31_0 C) (e9 (As ef) ?_)
  refine e9 (Bv C C) (Gr (Al C C) (Af (A6 C (λc10=>?_) (λc10=>?_))))
  ·exact Ah (Ga C (Af (Aw (Ai (A1 C C I A0 ⟨by rw [show checkW kd wd mo=8 from by unfold checkW;split<;>first|rfl|omega|(split<;>first|rfl|omega)],rfl⟩)))))
  ·refine Ay (Aj (Au (Ah (Gf fld31_0 C (Gl ef ?_)))))
   refine Gr (Bi C C) (Gm C (Ba (d:=14) C (λg14=>?_) (λg14=>?_)))
   ·refine e9 (Ab fld31_1 C) (e9 (As ef) ?_)
    refine e9 (A9 C C) (e9 (Ad C) (Ba (d:=18) C (λg18=>?_) (λg18=>?_)))
    ·exact eb (eb (eb (e9 (Am C C) (Gr (Am C C) (Gm C (eb (eb (eb (eb (ee (ee (ee (eb (Gr (Am C C) (Af (Aq (S2 33 1 C C) (B7 C (Ah (Ga C (Af (Aw (Ai (A1 C C I A0 ⟨by rw [show checkW kd wd mo=1 from by unfold checkW;split<;>first|rfl|omega|(split<;>first|rfl|omega)],rfl⟩)))))))))))))))))))))))
    ·refine e9 (Ab fld31_1 C) (e9 (As ef) ?_)
     refine e9 (Bv C C) (e9 (Al C C) (Gr (Am C C) (Gm C (Ba (d:=24) C (λg24=>?_) (λg24=>?_)))))
     ·exact eb (eb (eb (eb (ee (ee (ee (eb (Gr (Am C C) (Af (Aq (S2 33 1 C C) (B7 C (Ah (Ga C (Af (Aw (Ai (A1 C C I A0 ⟨by rw [show checkW kd wd mo=1 from by unfold checkW;split<;>first|rfl|omega|(split<;>first|rfl|omega)],rfl⟩)))))))))))))))))
     ·refine e9 (Ab fld31_0 C) (e9 (As ef) ?_)
      refine e9 (Be C C) (e9 (Ad C) (Ba (d:=28) C (λg28=>?_) (λg28=>?_)))
      ·refine e9 (Ab fld31_1 C) (e9 (As ef) ?_)
       refine e9 (Be C C) (e9 (Am C C) (Gr (Al C C) (Af (Aq (S2 33 1 C C) (A6 C (λc33=>?_) (λc33=>?_))))))
       ·exact Ah (Ga C (Af (Aw (Ai (A1 C C I A0 ⟨by rw [show checkW kd wd mo=1 from by unfold checkW;split<;>first|rfl|omega|(split<;>first|rfl|omega)],rfl⟩)))))
       ·refine Ay (Aj (Au (Ah (Gf fld31_0 C (Gl ef ?_)))))
        refine Gr (Bi C C) (Gm C (Ba (d:=37) C (λg37=>?_) (λg37=>?_)))
        ·refine e9 (Ab fld31_2 C) (e9 (As ef) ?_)
         refine e9 (A9 C C) (e9 (Ad C) (Ba (d:=41) C (λg41=>?_) (λg41=>?_)))
         ·exact eb (eb (eb (e9 (Am C C) (Gr (Am C C) (Gm C (eb (eb (eb (eb (ee (ee (ee (eb (Gr (Am C C) (Af (Aq (S1 56 C) (B7 C (Ah (Ga C (Af (Aw (Ai (A1 C C I A0 ⟨by rw [show checkW kd wd mo=1 from by unfold checkW;split<;>first|rfl|omega|(split<;>first|rfl|omega)],rfl⟩)))))))))))))))))))))))
         ·refine e9 (Ab fld31_2 C) (e9 (As ef) ?_)
          refine e9 (Bv C C) (e9 (Al C C) (Gr (Am C C) (Gm C (Ba (d:=47) C (λg47=>?_) (λg47=>?_)))))
          ·exact eb (eb (eb (eb (ee (ee (ee (eb (Gr (Am C C) (Af (Aq (S1 56 C) (B7 C (Ah (Ga C (Af (Aw (Ai (A1 C C I A0 ⟨by rw [show checkW kd wd mo=1 from by unfold checkW;split<;>first|rfl|omega|(split<;>first|rfl|omega)],rfl⟩)))))))))))))))))
          ·refine e9 (Ab fld31_0 C) (e9 (As ef) ?_)
           refine e9 (Be C C) (e9 (Ad C) (Ba (d:=51) C (λg51=>?_) (λg51=>?_)))
           ·refine e9 (Ab fld31_2 C) (e9 (As ef) ?_)
            refine e9 (Be C C) (e9 (Am C C) (Gr (Al C C) (Af (Aq (S1 56 C) (A6 C (λc56=>?_) (λc56=>?_))))))
            ·exact Ah (Ga C (Af (Aw (Ai (A1 C C I A0 ⟨by rw [show checkW kd wd mo=1 from by unfold checkW;split<;>first|rfl|omega|(split<;>first|rfl|omega)],rfl⟩)))))
            ·exact Ay (Aj (Ah (Ga C (Af (Aw (A1 C C I A0 ⟨by rw [show checkW kd wd mo=0 from by unfold checkW;split<;>first|rfl|omega|(split<;>first|rfl|omega)],rfl⟩))))))
           ·exact eb (eb (eb (e9 (Al C C) (Gr (Al C C) (Af (Aq (S1 56 C) (C2 C (Ay (Aj (Ah (Ga C (Af (Aw (A1 C C I A0 ⟨by rw [show checkW kd wd mo=0 from by unfold checkW;split<;>first|rfl|omega|(split<;>first|rfl|omega)],rfl⟩))))))))))))))
        ·refine eb (eb (eb (eb (ee (ee (ee (eb (Gr (Al C C) (Gm C (e9 (Ab fld31_0 C) (e9 (As ef) ?_)))))))))))
         refine e9 (Be C C) (e9 (Ad C) (Ba (d:=51) C (λg51=>?_) (λg51=>?_)))
         ·refine e9 (Ab fld31_2 C) (e9 (As ef) ?_)
          refine e9 (Be C C) (e9 (Am C C) (Gr (Al C C) (Af (Aq (S1 56 C) (A6 C (λc56=>?_) (λc56=>?_))))))
          ·exact Ah (Ga C (Af (Aw (Ai (A1 C C I A0 ⟨by rw [show checkW kd wd mo=1 from by unfold checkW;split<;>first|rfl|omega|(split<;>first|rfl|omega)],rfl⟩)))))
          ·exact Ay (Aj (Ah (Ga C (Af (Aw (A1 C C I A0 ⟨by rw [show checkW kd wd mo=0 from by unfold checkW;split<;>first|rfl|omega|(split<;>first|rfl|omega)],rfl⟩))))))
         ·exact eb (eb (eb (e9 (Al C C) (Gr (Al C C) (Af (Aq (S1 56 C) (C2 C (Ay (Aj (Ah (Ga C (Af (Aw (A1 C C I A0 ⟨by rw [show checkW kd wd mo=0 from by unfold checkW;split<;>first|rfl|omega|(split<;>first|rfl|omega)],rfl⟩))))))))))))))
      ·refine eb (eb (eb (e9 (Al C C) (Gr (Al C C) (Af (Aq (S2 33 1 C C) (C2 C (Ay (Aj (Au (Ah (Gf fld31_0 C (Gl ef ?_)))))))))))))
       refine Gr (Bi C C) (Gm C (Ba (d:=37) C (λg37=>?_) (λg37=>?_)))
       ·refine e9 (Ab fld31_2 C) (e9 (As ef) ?_)
        refine e9 (A9 C C) (e9 (Ad C) (Ba (d:=41) C (λg41=>?_) (λg41=>?_)))
        ·exact eb (eb (eb (e9 (Am C C) (Gr (Am C C) (Gm C (eb (eb (eb (eb (ee (ee (ee (eb (Gr (Am C C) (Af (Aq (S1 56 C) (B7 C (Ah (Ga C (Af (Aw (Ai (A1 C C I A0 ⟨by rw [show checkW kd wd mo=1 from by unfold checkW;split<;>first|rfl|omega|(split<;>first|rfl|omega)],rfl⟩)))))))))))))))))))))))
        ·refine e9 (Ab fld31_2 C) (e9 (As ef) ?_)
         refine e9 (Bv C C) (e9 (Al C C) (Gr (Am C C) (Gm C (Ba (d:=47) C (λg47=>?_) (λg47=>?_)))))
         ·exact eb (eb (eb (eb (ee (ee (ee (eb (Gr (Am C C) (Af (Aq (S1 56 C) (B7 C (Ah (Ga C (Af (Aw (Ai (A1 C C I A0 ⟨by rw [show checkW kd wd mo=1 from by unfold checkW;split<;>first|rfl|omega|(split<;>first|rfl|omega)],rfl⟩)))))))))))))))))
         ·refine e9 (Ab fld31_0 C) (e9 (As ef) ?_)
          refine e9 (Be C C) (e9 (Ad C) (Ba (d:=51) C (λg51=>?_) (λg51=>?_)))
          ·refine e9 (Ab fld31_2 C) (e9 (As ef) ?_)
           refine e9 (Be C C) (e9 (Am C C) (Gr (Al C C) (Af (Aq (S1 56 C) (A6 C (λc56=>?_) (λc56=>?_))))))
           ·exact Ah (Ga C (Af (Aw (Ai (A1 C C I A0 ⟨by rw [show checkW kd wd mo=1 from by unfold checkW;split<;>first|rfl|omega|(split<;>first|rfl|omega)],rfl⟩)))))
           ·exact Ay (Aj (Ah (Ga C (Af (Aw (A1 C C I A0 ⟨by rw [show checkW kd wd mo=0 from by unfold checkW;split<;>first|rfl|omega|(split<;>first|rfl|omega)],rfl⟩))))))
          ·exact eb (eb (eb (e9 (Al C C) (Gr (Al C C) (Af (Aq (S1 56 C) (C2 C (Ay (Aj (Ah (Ga C (Af (Aw (A1 C C I A0 ⟨by rw [show checkW kd wd mo=0 from by unfold checkW;split<;>first|rfl|omega|(split<;>first|rfl|omega)],rfl⟩))))))))))))))
       ·refine eb (eb (eb (eb (ee (ee (ee (eb (Gr (Al C C) (Gm C (e9 (Ab fld31_0 C) (e9 (As ef) ?_)))))))))))
        refine e9 (Be C C) (e9 (Ad C) (Ba (d:=51) C (λg51=>?_) (λg51=>?_)))
        ·refine e9 (Ab fld31_2 C) (e9 (As ef) ?_)
         refine e9 (Be C C) (e9 (Am C C) (Gr (Al C C) (Af (Aq (S1 56 C) (A6 C (λc56=>?_) (λc56=>?_))))))
         ·exact Ah (Ga C (Af (Aw (Ai (A1 C C I A0 ⟨by rw [show checkW kd wd mo=1 from by unfold checkW;split<;>first|rfl|omega|(split<;>first|rfl|omega)],rfl⟩)))))
         ·exact Ay (Aj (Ah (Ga C (Af (Aw (A1 C C I A0 ⟨by rw [show checkW kd wd mo=0 from by unfold checkW;split<;>first|rfl|omega|(split<;>first|rfl|omega)],rfl⟩))))))
        ·exact eb (eb (eb (e9 (Al C C) (Gr (Al C C) (Af (Aq (S1 56 C) (C2 C (Ay (Aj (Ah (Ga C (Af (Aw (A1 C C I A0 ⟨by rw [show checkW kd wd mo=0 from by unfold checkW;split<;>first|rfl|omega|(split<;>first|rfl|omega)],rfl⟩))))))))))))))
   ·refine eb (eb (eb (eb (ee (ee (ee (eb (Gr (Al C C) (Gm C (e9 (Ab fld31_0 C) (e9 (As ef) ?_)))))))))))
    refine e9 (Be C C) (e9 (Ad C) (Ba (d:=28) C (λg28=>?_) (λg28=>?_)))
    ·refine e9 (Ab fld31_1 C) (e9 (As ef) ?_)
     refine e9 (Be C C) (e9 (Am C C) (Gr (Al C C) (Af (Aq (S2 33 1 C C) (A6 C (λc33=>?_) (λc33=>?_))))))
     ·exact Ah (Ga C (Af (Aw (Ai (A1 C C I A0 ⟨by rw [show checkW kd wd mo=1 from by unfold checkW;split<;>first|rfl|omega|(split<;>first|rfl|omega)],rfl⟩)))))
     ·refine Ay (Aj (Au (Ah (Gf fld31_0 C (Gl ef ?_)))))
      refine Gr (Bi C C) (Gm C (Ba (d:=37) C (λg37=>?_) (λg37=>?_)))
      ·refine e9 (Ab fld31_2 C) (e9 (As ef) ?_)
       refine e9 (A9 C C) (e9 (Ad C) (Ba (d:=41) C (λg41=>?_) (λg41=>?_)))
       ·exact eb (eb (eb (e9 (Am C C) (Gr (Am C C) (Gm C (eb (eb (eb (eb (ee (ee (ee (eb (Gr (Am C C) (Af (Aq (S1 56 C) (B7 C (Ah (Ga C (Af (Aw (Ai (A1 C C I A0 ⟨by rw [show checkW kd wd mo=1 from by unfold checkW;split<;>first|rfl|omega|(split<;>first|rfl|omega)],rfl⟩)))))))))))))))))))))))
       ·refine e9 (Ab fld31_2 C) (e9 (As ef) ?_)
        refine e9 (Bv C C) (e9 (Al C C) (Gr (Am C C) (Gm C (Ba (d:=47) C (λg47=>?_) (λg47=>?_)))))
        ·exact eb (eb (eb (eb (ee (ee (ee (eb (Gr (Am C C) (Af (Aq (S1 56 C) (B7 C (Ah (Ga C (Af (Aw (Ai (A1 C C I A0 ⟨by rw [show checkW kd wd mo=1 from by unfold checkW;split<;>first|rfl|omega|(split<;>first|rfl|omega)],rfl⟩)))))))))))))))))
        ·refine e9 (Ab fld31_0 C) (e9 (As ef) ?_)
         refine e9 (Be C C) (e9 (Ad C) (Ba (d:=51) C (λg51=>?_) (λg51=>?_)))
         ·refine e9 (Ab fld31_2 C) (e9 (As ef) ?_)
          refine e9 (Be C C) (e9 (Am C C) (Gr (Al C C) (Af (Aq (S1 56 C) (A6 C (λc56=>?_) (λc56=>?_))))))
          ·exact Ah (Ga C (Af (Aw (Ai (A1 C C I A0 ⟨by rw [show checkW kd wd mo=1 from by unfold checkW;split<;>first|rfl|omega|(split<;>first|rfl|omega)],rfl⟩)))))
          ·exact Ay (Aj (Ah (Ga C (Af (Aw (A1 C C I A0 ⟨by rw [show checkW kd wd mo=0 from by unfold checkW;split<;>first|rfl|omega|(split<;>first|rfl|omega)],rfl⟩))))))
         ·exact eb (eb (eb (e9 (Al C C) (Gr (Al C C) (Af (Aq (S1 56 C) (C2 C (Ay (Aj (Ah (Ga C (Af (Aw (A1 C C I A0 ⟨by rw [show checkW kd wd mo=0 from by unfold checkW;split<;>first|rfl|omega|(split<;>first|rfl|omega)],rfl⟩))))))))))))))
      ·refine eb (eb (eb (eb (ee (ee (ee (eb (Gr (Al C C) (Gm C (e9 (Ab fld31_0 C) (e9 (As ef) ?_)))))))))))
       refine e9 (Be C C) (e9 (Ad C) (Ba (d:=51) C (λg51=>?_) (λg51=>?_)))
       ·refine e9 (Ab fld31_2 C) (e9 (As ef) ?_)
        refine e9 (Be C C) (e9 (Am C C) (Gr (Al C C) (Af (Aq (S1 56 C) (A6 C (λc56=>?_) (λc56=>?_))))))
        ·exact Ah (Ga C (Af (Aw (Ai (A1 C C I A0 ⟨by rw [show checkW kd wd mo=1 from by unfold checkW;split<;>first|rfl|omega|(split<;>first|rfl|omega)],rfl⟩)))))
        ·exact Ay (Aj (Ah (Ga C (Af (Aw (A1 C C I A0 ⟨by rw [show checkW kd wd mo=0 from by unfold checkW;split<;>first|rfl|omega|(split<;>first|rfl|omega)],rfl⟩))))))
       ·exact eb (eb (eb (e9 (Al C C) (Gr (Al C C) (Af (Aq (S1 56 C) (C2 C (Ay (Aj (Ah (Ga C (Af (Aw (A1 C C I A0 ⟨by rw [show checkW kd wd mo=0 from by unfold checkW;split<;>first|rfl|omega|(split<;>first|rfl|omega)],rfl⟩))))))))))))))
    ·refine eb (eb (eb (e9 (Al C C) (Gr (Al C C) (Af (Aq (S2 33 1 C C) (C2 C (Ay (Aj (Au (Ah (Gf fld31_0 C (Gl ef ?_)))))))))))))
     refine Gr (Bi C C) (Gm C (Ba (d:=37) C (λg37=>?_) (λg37=>?_)))
     ·refine e9 (Ab fld31_2 C) (e9 (As ef) ?_)
      refine e9 (A9 C C) (e9 (Ad C) (Ba (d:=41) C (λg41=>?_) (λg41=>?_)))
      ·exact eb (eb (eb (e9 (Am C C) (Gr (Am C C) (Gm C (eb (eb (eb (eb (ee (ee (ee (eb (Gr (Am C C) (Af (Aq (S1 56 C) (B7 C (Ah (Ga C (Af (Aw (Ai (A1 C C I A0 ⟨by rw [show checkW kd wd mo=1 from by unfold checkW;split<;>first|rfl|omega|(split<;>first|rfl|omega)],rfl⟩)))))))))))))))))))))))
      ·refine e9 (Ab fld31_2 C) (e9 (As ef) ?_)
       refine e9 (Bv C C) (e9 (Al C C) (Gr (Am C C) (Gm C (Ba (d:=47) C (λg47=>?_) (λg47=>?_)))))
       ·exact eb (eb (eb (eb (ee (ee (ee (eb (Gr (Am C C) (Af (Aq (S1 56 C) (B7 C (Ah (Ga C (Af (Aw (Ai (A1 C C I A0 ⟨by rw [show checkW kd wd mo=1 from by unfold checkW;split<;>first|rfl|omega|(split<;>first|rfl|omega)],rfl⟩)))))))))))))))))
       ·refine e9 (Ab fld31_0 C) (e9 (As ef) ?_)
        refine e9 (Be C C) (e9 (Ad C) (Ba (d:=51) C (λg51=>?_) (λg51=>?_)))
        ·refine e9 (Ab fld31_2 C) (e9 (As ef) ?_)
         refine e9 (Be C C) (e9 (Am C C) (Gr (Al C C) (Af (Aq (S1 56 C) (A6 C (λc56=>?_) (λc56=>?_))))))
         ·exact Ah (Ga C (Af (Aw (Ai (A1 C C I A0 ⟨by rw [show checkW kd wd mo=1 from by unfold checkW;split<;>first|rfl|omega|(split<;>first|rfl|omega)],rfl⟩)))))
         ·exact Ay (Aj (Ah (Ga C (Af (Aw (A1 C C I A0 ⟨by rw [show checkW kd wd mo=0 from by unfold checkW;split<;>first|rfl|omega|(split<;>first|rfl|omega)],rfl⟩))))))
        ·exact eb (eb (eb (e9 (Al C C) (Gr (Al C C) (Af (Aq (S1 56 C) (C2 C (Ay (Aj (Ah (Ga C (Af (Aw (A1 C C I A0 ⟨by rw [show checkW kd wd mo=0 from by unfold checkW;split<;>first|rfl|omega|(split<;>first|rfl|omega)],rfl⟩))))))))))))))
     ·refine eb (eb (eb (eb (ee (ee (ee (eb (Gr (Al C C) (Gm C (e9 (Ab fld31_0 C) (e9 (As ef) ?_)))))))))))
      refine e9 (Be C C) (e9 (Ad C) (Ba (d:=51) C (λg51=>?_) (λg51=>?_)))
      ·refine e9 (Ab fld31_2 C) (e9 (As ef) ?_)
       refine e9 (Be C C) (e9 (Am C C) (Gr (Al C C) (Af (Aq (S1 56 C) (A6 C (λc56=>?_) (λc56=>?_))))))
       ·exact Ah (Ga C (Af (Aw (Ai (A1 C C I A0 ⟨by rw [show checkW kd wd mo=1 from by unfold checkW;split<;>first|rfl|omega|(split<;>first|rfl|omega)],rfl⟩)))))
       ·exact Ay (Aj (Ah (Ga C (Af (Aw (A1 C C I A0 ⟨by rw [show checkW kd wd mo=0 from by unfold checkW;split<;>first|rfl|omega|(split<;>first|rfl|omega)],rfl⟩))))))
      ·exact eb (eb (eb (e9 (Al C C) (Gr (Al C C) (Af (Aq (S1 56 C) (C2 C (Ay (Aj (Ah (Ga C (Af (Aw (A1 C C I A0 ⟨by rw [show checkW kd wd mo=0 from by unfold checkW;split<;>first|rfl|omega|(split<;>first|rfl|omega)],rfl⟩))))))))))))))
theorem RightW_ok(w lb sg:Int):ep prog κ 251 [e7 w,e7 lb,e7 sg] I (λr J=>r = .bool (decide (rightW w lb sg))/\I=J):=by
 refine Ce3 Tryz.func251 C C ?_
 refine Ah (Ga C (Af (Ah (Gm C (Gr (B8 C C) (Gm C (Ba (d:=9) C (λg9=>?_) (λg9=>?_))))))))
 ·refine e9 (Ad C) (e9 (Du C C) (Gr (Am C C) (Gm C (Ba (d:=13) C (λg13=>?_) (λg13=>?_)))))
  ·refine e9 (Ad C) (e9 (B8 C C) (Gr (Am C C) (Gm C (Ba (d:=17) C (λg17=>?_) (λg17=>?_)))))
   ·refine e9 (Ad C) (e9 (Du C C) (Gr (Am C C) (Gm C (Ba (d:=21) C (λg21=>?_) (λg21=>?_)))))
    ·refine e9 (Ad C) (e9 (Bi C C) (e9 (Ad C) (Ba (d:=24) C (λg24=>?_) (λg24=>?_))))
     ·exact eb (eb (e9 (Am C C) (Gr (Am C C) (Ga C (Af (Aq (S1 6 C) (Aw (A1 C C I A0 ⟨(by first|exact congrArg Value.bool (decide_eq_decide.2 (by unfold rightW;omega))|exact congrArg Value.bool (decide_eq_true (by unfold rightW;omega)).symm|exact congrArg Value.bool (decide_eq_false (by unfold rightW;omega)).symm),rfl⟩))))))))
     ·exact e9 (Ad C) (e9 (Bi C C) (e9 (Al C C) (Gr (Am C C) (Ga C (Af (Aq (S1 6 C) (Aw (A1 C C I A0 ⟨(by first|exact congrArg Value.bool (decide_eq_decide.2 (by unfold rightW;omega))|exact congrArg Value.bool (decide_eq_true (by unfold rightW;omega)).symm|exact congrArg Value.bool (decide_eq_false (by unfold rightW;omega)).symm),rfl⟩))))))))
    ·exact eb (eb (eb (ee (ee (eb (Gr (Al C C) (Ga C (Af (Aq (S1 6 C) (Aw (A1 C C I A0 ⟨(by first|exact congrArg Value.bool (decide_eq_decide.2 (by unfold rightW;omega))|exact congrArg Value.bool (decide_eq_true (by unfold rightW;omega)).symm|exact congrArg Value.bool (decide_eq_false (by unfold rightW;omega)).symm),rfl⟩)))))))))))
   ·exact eb (eb (Gr (Al C C) (Gm C (eb (eb (eb (ee (ee (eb (Gr (Al C C) (Ga C (Af (Aq (S1 6 C) (Aw (A1 C C I A0 ⟨(by first|exact congrArg Value.bool (decide_eq_decide.2 (by unfold rightW;omega))|exact congrArg Value.bool (decide_eq_true (by unfold rightW;omega)).symm|exact congrArg Value.bool (decide_eq_false (by unfold rightW;omega)).symm),rfl⟩)))))))))))))))
  ·exact eb (eb (Gr (Al C C) (Gm C (eb (eb (Gr (Al C C) (Gm C (eb (eb (eb (ee (ee (eb (Gr (Al C C) (Ga C (Af (Aq (S1 6 C) (Aw (A1 C C I A0 ⟨(by first|exact congrArg Value.bool (decide_eq_decide.2 (by unfold rightW;omega))|exact congrArg Value.bool (decide_eq_true (by unfold rightW;omega)).symm|exact congrArg Value.bool (decide_eq_false (by unfold rightW;omega)).symm),rfl⟩)))))))))))))))))))
 ·exact eb (eb (Gr (Al C C) (Gm C (eb (eb (Gr (Al C C) (Gm C (eb (eb (Gr (Al C C) (Gm C (eb (eb (eb (ee (ee (eb (Gr (Al C C) (Ga C (Af (Aq (S1 6 C) (Aw (A1 C C I A0 ⟨(by first|exact congrArg Value.bool (decide_eq_decide.2 (by unfold rightW;omega))|exact congrArg Value.bool (decide_eq_true (by unfold rightW;omega)).symm|exact congrArg Value.bool (decide_eq_false (by unfold rightW;omega)).symm),rfl⟩)))))))))))))))))))))))
theorem From4_ok(n a c:Int):ep prog κ 226 [e7 n,e7 a,e7 c] I (λr J=>r = .bool (decide (a<=n/\n<=c))/\I=J):=by
 refine Ce3 Tryz.func226 C C ?_
 refine Ah (Ga C (Af (Ah (Gm C (Gm C (Gr (B8 C C) (Gm C (Ba (d:=10) C (λg10=>?_) (λg10=>?_)))))))))
 ·exact e9 (Ad C) (e9 (Ad C) (e9 (Du C C) (Gr (Am C C) (Ga C (Af (Aq (S1 6 C) (Aw (A1 C C I A0 ⟨(by first|exact congrArg Value.bool (decide_eq_decide.2 (by skip;omega))|exact congrArg Value.bool (decide_eq_true (by skip;omega)).symm|exact congrArg Value.bool (decide_eq_false (by skip;omega)).symm),rfl⟩))))))))
 ·exact eb (eb (eb (Gr (Al C C) (Ga C (Af (Aq (S1 6 C) (Aw (A1 C C I A0 ⟨(by first|exact congrArg Value.bool (decide_eq_decide.2 (by skip;omega))|exact congrArg Value.bool (decide_eq_true (by skip;omega)).symm|exact congrArg Value.bool (decide_eq_false (by skip;omega)).symm),rfl⟩))))))))
theorem Attr4_ok(w lb sg:Int):ep prog κ 205 [e7 w,e7 lb,e7 sg] I (λr J=>r=e7 (if rightW w lb sg then 0 else 1)/\I=J):=by
 refine Ce3 Tryz.func205 C C ?_
 refine Ah (Ga C (Af (Au (Ah (Gm C (Gc0 (Ao call226 C C (From4_ok w 1 1000)) ?_))))))
 refine Gr (C0 C) (Gm C (Ba (d:=10) C (λg10=>?_) (λg10=>?_)))
 ·exact eb (eb (eb (Gr (Am C C) (Gm C (eb (eb (eb (ee (ee (eb (Gr (Am C C) (Af (Aq (S1 22 C) (B7 C (Ah (Ga C (Af (Aw (Ai (A1 C C I A0 ⟨by rw [if_neg (by unfold rightW;omega)],rfl⟩))))))))))))))))))))
 ·refine e9 (Ad C) (Ec (Cq C C C) (Ao call226 C C (From4_ok lb 0 15)) ?_)
  rintro _ _ ⟨_,_,⟨rfl,rfl⟩,rfl,rfl⟩
  refine e9 (C0 C) (Gr (Al C C) (Gm C (Ba (d:=15) C (λg15=>?_) (λg15=>?_))))
  ·exact eb (eb (eb (ee (ee (eb (Gr (Am C C) (Af (Aq (S1 22 C) (B7 C (Ah (Ga C (Af (Aw (Ai (A1 C C I A0 ⟨by rw [if_neg (by unfold rightW;omega)],rfl⟩)))))))))))))))
  ·refine e9 (Ad C) (e9 (Be C C) (e9 (Ad C) (Ba (d:=18) C (λg18=>?_) (λg18=>?_))))
   ·refine e9 (Ad C) (e9 (Be C C) (e9 (Am C C) (Gr (Al C C) (Af (Aq (S1 22 C) (A6 C (λc22=>?_) (λc22=>?_)))))))
    ·exact Ah (Ga C (Af (Aw (Ai (A1 C C I A0 ⟨by rw [if_neg (by unfold rightW;omega)],rfl⟩)))))
    ·exact Ay (Aj (Ah (Ga C (Af (Aw (A1 C C I A0 ⟨by rw [if_pos (by unfold rightW;omega)],rfl⟩))))))
   ·exact eb (eb (e9 (Al C C) (Gr (Al C C) (Af (Aq (S1 22 C) (C2 C (Ay (Aj (Ah (Ga C (Af (Aw (A1 C C I A0 ⟨by rw [if_pos (by unfold rightW;omega)],rfl⟩)))))))))))))
theorem OrderL_ok(a c:Lk):ep prog κ 255 [.agg #[e7 (a.u),e7 (a.v),e7 (a.w),e7 (a.lb),e7 (a.sg),e7 (a.tm)],.agg #[e7 (c.u),e7 (c.v),e7 (c.w),e7 (c.lb),e7 (c.sg),e7 (c.tm)]] I (λr J=>r=e7 (Lk.cmp a c)/\I=J):=by
 refine Ce2 Tryz.func255 C C ?_
 refine Ah (Ge1 (Bc (cs:=[_,_,_,_,_,_]) C C C) λb1=>Ge1 (Bc (cs:=[_,_,_,_,_,_]) C C C) λb2=>Ga C (Af (Au (Bl mixed (Br (e8 b2 [e7 (c.u),e7 (c.v),e7 (c.w),e7 (c.lb),e7 (c.sg),e7 (c.tm)] 146::e8 b1 [e7 (a.u),e7 (a.v),e7 (a.w),e7 (a.lb),e7 (a.sg),e7 (a.tm)] 146::I) 12 (Dr 0 C (Ab fld146_0 C) (Dr 1 C (As ef) ?_)))))))
 refine Dr 2 C (Ab fld146_0 C) (Dr 3 C (As ef) ?_)
 refine Dr 5 C (Ab fld146_1 C) (Dr 6 C (As ef) ?_)
 refine Dr 7 C (Ab fld146_1 C) (Dr 8 C (As ef) ?_)
 refine Ds1 4 (Sc0 C (Ao call225 C C (Compare_ok a.u c.u)) ?_)
 refine Ds1 9 (Sc0 C (Ao call225 C C (Compare_ok a.v c.v)) ?_)
 refine Ds1 10 (Se1 C (B0 (α:=Int) (cs:=[_,_]) (xs:=[cmpI a.u c.u,cmpI a.v c.v]) Ac ef C C dc dc C C C C) λad3=>?_)
 refine Ds1 11 (Sc0 C (Ao call224 C C (Or_ok Bg)) ?_)
 refine Dg kr ?_
 refine A.read (i:=12) kr C (Cp C) C C (Bb C) ?_
 refine Dh kr ?_
 exact Aj (Aq (S1 4 C) (Aw (A1 C C I A0 ⟨by rw [show Lk.cmp a c=Pt.cmp ⟨a.u,a.v⟩ ⟨c.u,c.v⟩ from rfl,←orL_cmp],rfl⟩)))
theorem Edge5_ok(l:Lk):ep prog κ 130 [.agg #[e7 (l.u),e7 (l.v),e7 (l.w),e7 (l.lb),e7 (l.sg),e7 (l.tm)]] I (λr J=>r = .agg #[e7 l.p.u,e7 l.p.v]/\I=J):=by
 refine Ce1 Tryz.func130 C C ?_
 refine Ah (Ge1 (Bc (cs:=[_,_,_,_,_,_]) C C C) λb1=>Ge1 (A8 ty135 C) λb2=>Af (Ah (Gf fld146_0 C (Gl ef ?_))))
 refine Gf fld146_1 C (Gl ef ?_)
 refine Gr (Bf (cells:=[_,_]) ty135 Dp pl135 C C) (Ge0 (Cd ty135) ?_)
 exact Af (Aw (Db C ty135 C mm C I A0 ⟨rfl,rfl⟩))
end Go.Sl
namespace Go.Sl
end Go.Sl
namespace Go.Sl
open Go.Proofs
set_option maxRecDepth 4000
theorem at_drop{α:Type}[Inhabited α](xs:List α)(l:Nat)(i:Int)(h0:0<=i):e_ (xs.drop l) i=e_ xs ((l:Int)+i):=by
 unfold e_
 rw [List.getD_eq_getElem?_getD,List.getD_eq_getElem?_getD,List.getElem?_drop]
 congr 2;omega
variable {κ:Ctx}{I:List Item}
theorem Lk.cmp_lt(a c:Lk):Lk.cmp a c<0↔Lk.lt a c:=Pt.cmp_lt _ _
def askE(nd:Int)(xs:List Lk)(kd wd mo nw:Int):Int:=if checkW kd wd mo≠0 then checkW kd wd mo else if checkS nd xs≠0 then checkS nd xs else if nw<0\/1048576<nw\/xs.any (λx=>decide (nw<x.tm))=true then 9 else 0
theorem CheckS_ok{nd:Int}{va:Value}{xs:List Lk}(hl:Sl κ I va xs):ep prog κ 214 [.agg #[e7 nd,va]] I (λr J=>r=e7 (checkS nd xs)/\I=J):=by
 refine B3 hl.le λhmax=>?_
 refine Ce1 Tryz.func214 C C ?_
 refine Ah (Ge1 (Bc (cs:=[_,_]) C C C) λb1=>Ga C (Af (Au (Ah (Gf fld111_0 C (Gl ef ?_))))))
 refine Gr (A9 C C) (Gm C (Ba (d:=8) C (λg8=>?_) (λg8=>?_)))
 ·exact eb (eb (eb (Gr (Am C C) (Af (B7 C (Ah (Ga C (Af (Aw (Ai (A1 C C I A0 ⟨by rw [show checkS nd xs=1 from (by first|(unfold checkS;rw [if_pos om];done)|exact hs.trans ((Cz om (by rw [badL_one om asm];decide)).trans (badL_one om asm)))],rfl⟩)))))))))))
 ·refine e9 (Ab fld111_0 C) (e9 (As ef) ?_)
  refine e9 (Bv C C) (Gr (Al C C) (Af (A6 C (λc12=>?_) (λc12=>?_))))
  ·exact Ah (Ga C (Af (Aw (Ai (A1 C C I A0 ⟨by rw [show checkS nd xs=1 from (by first|(unfold checkS;rw [if_pos om];done)|exact hs.trans ((Cz om (by rw [badL_one om asm];decide)).trans (badL_one om asm)))],rfl⟩)))))
  ·refine Ay (Aj (Au (Ah (Gf fld111_1 C (Gl ty109 ?_)))))
   refine Gr (Bx (α:=Lk) (xs:=xs) Ar C (Bh hl)) (Gm C (Af (Aq (S4 16 15 14 1 C C C C) (A4 (Bu (σ:=Nat) (λs=>([(1,.pointer (some ⟨b1,0,none⟩)),(14,va),(15,e7 ((xs.length:Nat):Int)),(16,e7 ((s:Nat):Int))]:Env)) (λs=>e8 b1 [e7 nd,va] 111::I) (λs=>(s<=xs.length)/\(checkS nd xs=scanL (badL nd) Lk.lt (prevAt xs s) (xs.drop s))) (λs=>xs.length - s) 0 (show ((0:Nat)<=xs.length)/\(checkS nd xs=scanL (badL nd) Lk.lt (prevAt xs (0:Nat)) (xs.drop (0:Nat))) from ⟨om,(by unfold checkS;rw [if_neg om];rfl)⟩) (Aa C (Aa C (Aa C (Aa B9 Bj)))) (show Fit κ _ (e8 b1 [e7 nd,va] 111::I) from A5) ?_)))))
   rintro k hp
   obtain ⟨hk,hs⟩:=hp
   refine Ah (Gr (A9 C C) (Af (Au (A6 C (λc17=>?_) (λc17=>?_)))))
   ·refine Ay (Aj (Au (A4 (Ah (Gm C (Gr (A3 (α:=Lk) (xs:=xs) Ar ty146 C C (Bh hl) om om) (Gr (Bp (α:=Lk) (xs:=xs) ty146 C (Bh hl) om om) (Ge1 (A8 ty146 C) λb2=>Ga C (Ge0 (C5 ty146) ?_)))))))))
    refine Af (A4 (Ah (Gf fld146_0 C (Gl ef ?_))))
    refine Gr (A9 C C) (Gm C (Ba (d:=25) C (λg25=>?_) (λg25=>?_)))
    ·exact eb (eb (eb (eb (eb (Gr (Am C C) (Gm C (eb (eb (eb (eb (eb (Gr (Am C C) (Ga C (Af (Aq (S7 21 3 4 1 14 15 16 C C C C C C C) (B7 C (Ah (Ga C (Af (Aw (Av (Av (Ai (Ai (Av (Ai (A1 C C I A0 ⟨by rw [show checkS nd xs=6 from (hs.trans ((Cz om (by rw [badL_six om];decide)).trans (badL_six om)))],rfl⟩)))))))))))))))))))))))))))
    ·refine e9 (Ab fld146_0 C) (e9 (As ef) ?_)
     refine e9 (Ab fld146_1 C) (e9 (As ef) ?_)
     refine e9 (B8 C C) (Gr (Al C C) (Gm C (Ba (d:=32) C (λg32=>?_) (λg32=>?_))))
     ·exact eb (eb (eb (eb (eb (Gr (Am C C) (Ga C (Af (Aq (S7 21 3 4 1 14 15 16 C C C C C C C) (B7 C (Ah (Ga C (Af (Aw (Av (Av (Ai (Ai (Av (Ai (A1 C C I A0 ⟨by rw [show checkS nd xs=6 from (hs.trans ((Cz om (by rw [badL_six om];decide)).trans (badL_six om)))],rfl⟩))))))))))))))))))))
     ·refine e9 (Ab fld146_1 C) (e9 (As ef) ?_)
      refine e9 (Ab fld111_0 C) (e9 (As ef) ?_)
      refine e9 (B8 C C) (Gr (Al C C) (Ga C (Af (Aq (S7 21 3 4 1 14 15 16 C C C C C C C) (A6 C (λc21=>?_) (λc21=>?_))))))
      ·exact Ah (Ga C (Af (Aw (Av (Av (Ai (Ai (Av (Ai (A1 C C I A0 ⟨by rw [show checkS nd xs=6 from (hs.trans ((Cz om (by rw [badL_six om];decide)).trans (badL_six om)))],rfl⟩))))))))))
      ·refine Ah (Gf fld146_2 C (Gl ef ?_))
       refine Gf fld146_3 C (Gl ef ?_)
       refine Gf fld146_4 C (Gl ef ?_)
       refine Gc0 (Ao call251 C C (RightW_ok ((e_ xs k).w) ((e_ xs k).lb) ((e_ xs k).sg))) ?_
       refine Gr (C0 C) (Ga C (Af (Aq (S7 39 3 4 1 14 15 16 C C C C C C C) (A6 C (λc39=>?_) (λc39=>?_)))))
       ·exact Ah (Ga C (Af (Aw (Av (Av (Ai (Ai (Av (Ai (A1 C C I A0 ⟨by rw [show checkS nd xs=1 from (by first|(unfold checkS;rw [if_pos om];done)|exact hs.trans ((Cz om (by rw [badL_one om asm];decide)).trans (badL_one om asm)))],rfl⟩))))))))))
       ·refine Ah (Gf fld146_5 C (Gl ef ?_))
        refine Gr (A9 C C) (Gm C (Ba (d:=52) C (λg52=>?_) (λg52=>?_)))
        ·exact eb (eb (eb (Gr (Am C C) (Ga C (Af (Aq (S7 48 3 4 1 14 15 16 C C C C C C C) (B7 C (Ah (Ga C (Af (Aw (Av (Av (Ai (Ai (Av (Ai (A1 C C I A0 ⟨by rw [show checkS nd xs=9 from (hs.trans ((Cz om (by rw [badL_nine om (by first|assumption|exact Classical.not_not.1 asm|exact Classical.byContradiction λh=>c47 (by rw [if_neg h];decide)) om];decide)).trans (badL_nine om (by first|assumption|exact Classical.not_not.1 asm|exact Classical.byContradiction λh=>c47 (by rw [if_neg h];decide)) om)))],rfl⟩))))))))))))))))))
        ·refine e9 (Ab fld146_5 C) (e9 (As ef) ?_)
         refine e9 (Bv C C) (Gr (Al C C) (Ga C (Af (Aq (S7 48 3 4 1 14 15 16 C C C C C C C) (A6 C (λc48=>?_) (λc48=>?_))))))
         ·exact Ah (Ga C (Af (Aw (Av (Av (Ai (Ai (Av (Ai (A1 C C I A0 ⟨by rw [show checkS nd xs=9 from (hs.trans ((Cz om (by rw [badL_nine om (by first|assumption|exact Classical.not_not.1 asm|exact Classical.byContradiction λh=>c47 (by rw [if_neg h];decide)) om];decide)).trans (badL_nine om (by first|assumption|exact Classical.not_not.1 asm|exact Classical.byContradiction λh=>c47 (by rw [if_neg h];decide)) om)))],rfl⟩))))))))))
         ·refine Au (Bl mixed (Br (e8 b2 [e7 ((e_ xs k).u),e7 ((e_ xs k).v),e7 ((e_ xs k).w),e7 ((e_ xs k).lb),e7 ((e_ xs k).sg),e7 ((e_ xs k).tm)] 146::e8 b1 [e7 nd,va] 111::I) 14 (Dr 0 C (Ad C) (Dr 1 C (Bv C C) (Dr 2 C (Ad C) (C9 (d:=60) C (λg60=>?_) (λg60=>?_)))))))
          ·refine Dro 3 C (Ab fld111_1 C) (Dro 4 C (As ty109) ?_)
           refine Dro 5 C (Ad C) (Dro 6 C (Rsu C C) (Dro 7 C (A3 (α:=Lk) (xs:=xs) Ar ty146 C C (Bh hl) om om) (Dro 8 C (Bp (α:=Lk) (xs:=xs) ty146 C (Bh hl) om om) (Dro 9 C (Bq (vs:=[_,_,_,_,_,_]) ty146) ?_))))
           refine Ds1 10 (Sc0 C (Ao call255 C C (OrderL_ok (e_ xs ((k:Int) - 1)) (e_ xs k))) ?_)
           refine Dro 11 C (B8 C C) (Dr 12 C (Am C C) (Dr 13 C (Bb C) (Dz (Aj (Aq (S5 57 1 14 15 16 C C C C C) (A6 C (λc57=>?_) (λc57=>?_)))))))
           ·exact Ah (Ga C (Af (Aw (Av (Av (Ai (Ai (Av (Ai (A1 C C I A0 ⟨by rw [show checkS nd xs=5 from (hs.trans (scanL_order om (badL_zero om (by first|assumption|exact Classical.not_not.1 asm|exact Classical.byContradiction λh=>c47 (by rw [if_neg h];decide)) om) om (by first|assumption|(intro h;have:=(Lk.cmp_lt _ _).2 h;omega))))],rfl⟩))))))))))
           ·exact Ay (Ak (Ak (Aj (Ax (Gr (Rad C C) (Gm C (Bd (B2 ((k+1)) ⟨om,(hs.trans (E3 om (badL_zero om (by first|assumption|exact Classical.not_not.1 asm|exact Classical.byContradiction λh=>c47 (by rw [if_neg h];decide)) om) (λh0=>by first|omega|exact (Lk.cmp_lt _ _).1 om|exact Classical.not_not.1 asm)))⟩))))))))
          ·exact Dpo 3 C (Dpo 4 C (Dpo 5 C (Dpo 6 C (Dpo 7 C (Dpo 8 C (Dpo 9 C (Dpo 10 C (Dpo 11 C (Dr 12 C (Al C C) (Dr 13 C (Bb C) (Dz (Aj (Aq (S5 57 1 14 15 16 C C C C C) (C2 C (Ay (Ak (Ak (Aj (Ax (Gr (Rad C C) (Gm C (Bd (B2 ((k+1)) ⟨om,(hs.trans (E3 om (badL_zero om (by first|assumption|exact Classical.not_not.1 asm|exact Classical.byContradiction λh=>c47 (by rw [if_neg h];decide)) om) (λh0=>by first|omega|exact (Lk.cmp_lt _ _).1 om|exact Classical.not_not.1 asm)))⟩)))))))))))))))))))))))
   ·exact Bs (Ap (Ap (A7 (Aj (Ah (Ga C (Af (Aw (A1 C C I A0 ⟨by rw [show checkS nd xs=0 from (hs.trans (scanL_end om))],rfl⟩)))))))))
theorem CheckS5_ok{nd:Int}{va:Value}{xs:List Lk}(hl:Sl κ I va xs):ep prog κ 129 [.agg #[e7 nd,va]] I (λr J=>r=e7 (checkS nd xs)/\I=J):=by
 refine B3 hl.le λhmax=>?_
 refine Ce1 Tryz.func129 C C ?_
 refine Ah (Ge1 (Bc (cs:=[_,_]) C C C) λb1=>Ga C (Af (Au (Ah (Gf fld111_0 C (Gl ef ?_))))))
 refine Gr (A9 C C) (Gm C (Ba (d:=9) C (λg9=>?_) (λg9=>?_)))
 ·exact eb (eb (eb (Gr (Am C C) (Af (B7 C (Ah (Ga C (Af (Aw (Ai (A1 C C I A0 ⟨by rw [show checkS nd xs=1 from (by first|(unfold checkS;rw [if_pos om];done)|exact hs.trans ((Cz om (by rw [badL_one om asm];decide)).trans (badL_one om asm)))],rfl⟩)))))))))))
 ·refine e9 (Ab fld111_0 C) (e9 (As ef) ?_)
  refine e9 (Bv C C) (Gr (Al C C) (Af (A6 C (λc13=>?_) (λc13=>?_))))
  ·exact Ah (Ga C (Af (Aw (Ai (A1 C C I A0 ⟨by rw [show checkS nd xs=1 from (by first|(unfold checkS;rw [if_pos om];done)|exact hs.trans ((Cz om (by rw [badL_one om asm];decide)).trans (badL_one om asm)))],rfl⟩)))))
  ·refine Ay (Aj (Au (Ah (Gf fld111_1 C (Gl ty109 ?_)))))
   refine Gr (Bx (α:=Lk) (xs:=xs) Ar C (Bh hl)) (Gm C (Af (Aq (S4 17 16 15 1 C C C C) (A4 (Bu (σ:=Nat) (λs=>([(1,.pointer (some ⟨b1,0,none⟩)),(15,va),(16,e7 ((xs.length:Nat):Int)),(17,e7 ((s:Nat):Int))]:Env)) (λs=>e8 b1 [e7 nd,va] 111::I) (λs=>(s<=xs.length)/\(checkS nd xs=scanL (badL nd) Lk.lt (prevAt xs s) (xs.drop s))) (λs=>xs.length - s) 0 (show ((0:Nat)<=xs.length)/\(checkS nd xs=scanL (badL nd) Lk.lt (prevAt xs (0:Nat)) (xs.drop (0:Nat))) from ⟨om,(by unfold checkS;rw [if_neg om];rfl)⟩) (Aa C (Aa C (Aa C (Aa B9 Bj)))) (show Fit κ _ (e8 b1 [e7 nd,va] 111::I) from A5) ?_)))))
   rintro k hp
   obtain ⟨hk,hs⟩:=hp
   refine Ah (Gr (A9 C C) (Af (Au (A6 C (λc18=>?_) (λc18=>?_)))))
   ·refine Ay (Aj (Au (A4 (Ah (Gm C (Gr (A3 (α:=Lk) (xs:=xs) Ar ty146 C C (Bh hl) om om) (Gr (Bp (α:=Lk) (xs:=xs) ty146 C (Bh hl) om om) (Ge1 (A8 ty146 C) λb2=>Ga C (Ge0 (C5 ty146) ?_)))))))))
    refine Af (Au (Ah (Gf fld146_0 C (Gl ef ?_))))
    refine Gr (A9 C C) (Gm C (Ba (d:=25) C (λg25=>?_) (λg25=>?_)))
    ·exact eb (eb (eb (eb (eb (Gr (Am C C) (Gm C (eb (eb (eb (eb (eb (Gr (Am C C) (Af (Aq (S7 38 3 4 1 15 16 17 C C C C C C C) (B7 C (Ah (Ga C (Af (Aw (Ai (Av (Ai (Ai (Av (Ai (A1 C C I A0 ⟨by rw [show checkS nd xs=6 from (hs.trans ((Cz om (by rw [badL_six om];decide)).trans (badL_six om)))],rfl⟩))))))))))))))))))))))))))
    ·refine e9 (Ab fld146_0 C) (e9 (As ef) ?_)
     refine e9 (Ab fld146_1 C) (e9 (As ef) ?_)
     refine e9 (B8 C C) (Gr (Al C C) (Gm C (Ba (d:=32) C (λg32=>?_) (λg32=>?_))))
     ·exact eb (eb (eb (eb (eb (Gr (Am C C) (Af (Aq (S7 38 3 4 1 15 16 17 C C C C C C C) (B7 C (Ah (Ga C (Af (Aw (Ai (Av (Ai (Ai (Av (Ai (A1 C C I A0 ⟨by rw [show checkS nd xs=6 from (hs.trans ((Cz om (by rw [badL_six om];decide)).trans (badL_six om)))],rfl⟩)))))))))))))))))))
     ·refine e9 (Ab fld146_1 C) (e9 (As ef) ?_)
      refine e9 (Ab fld111_0 C) (e9 (As ef) ?_)
      refine e9 (B8 C C) (Gr (Al C C) (Af (Aq (S7 38 3 4 1 15 16 17 C C C C C C C) (A6 C (λc38=>?_) (λc38=>?_)))))
      ·exact Ah (Ga C (Af (Aw (Ai (Av (Ai (Ai (Av (Ai (A1 C C I A0 ⟨by rw [show checkS nd xs=6 from (hs.trans ((Cz om (by rw [badL_six om];decide)).trans (badL_six om)))],rfl⟩))))))))))
      ·refine Ay (Aj (Au (Ah (Gf fld146_2 C (Gl ef ?_)))))
       refine Gf fld146_3 C (Gl ef ?_)
       refine Gf fld146_4 C (Gl ef ?_)
       refine Gc0 (Ao call205 C C (Attr4_ok ((e_ xs k).w) ((e_ xs k).lb) ((e_ xs k).sg))) ?_
       refine Ga C (Af (Aq (S7 5 3 4 1 15 16 17 C C C C C C C) (Ah (Gm C (Gr (Be C C) (Af (A6 C (λc47=>?_) (λc47=>?_))))))))
       ·refine Ah (Gm C (Ga C (Af (Aw (Ai (Av (Ai (Ai (Av (Ai ?_))))))))))
        have hnr:¬rightW (e_ xs k).w (e_ xs k).lb (e_ xs k).sg:=λh=>c47 (if_pos h)
        exact A1 C C I A0 ⟨by rw [if_neg hnr,show checkS nd xs=1 from (by first|(unfold checkS;rw [if_pos om];done)|exact hs.trans ((Cz om (by rw [badL_one om asm];decide)).trans (badL_one om asm)))],rfl⟩
       ·refine Ay (Aj (Au (Ah (Gf fld146_5 C (Gl ef ?_)))))
        refine Gr (A9 C C) (Gm C (Ba (d:=52) C (λg52=>?_) (λg52=>?_)))
        ·exact eb (eb (eb (Gr (Am C C) (Af (Aq (S7 56 3 4 1 15 16 17 C C C C C C C) (B7 C (Ah (Ga C (Af (Aw (Ai (Av (Ai (Ai (Av (Ai (A1 C C I A0 ⟨by rw [show checkS nd xs=9 from (hs.trans ((Cz om (by rw [badL_nine om (by first|assumption|exact Classical.not_not.1 asm|exact Classical.byContradiction λh=>c47 (by rw [if_neg h];decide)) om];decide)).trans (badL_nine om (by first|assumption|exact Classical.not_not.1 asm|exact Classical.byContradiction λh=>c47 (by rw [if_neg h];decide)) om)))],rfl⟩)))))))))))))))))
        ·refine e9 (Ab fld146_5 C) (e9 (As ef) ?_)
         refine e9 (Bv C C) (Gr (Al C C) (Af (Aq (S7 56 3 4 1 15 16 17 C C C C C C C) (A6 C (λc56=>?_) (λc56=>?_)))))
         ·exact Ah (Ga C (Af (Aw (Ai (Av (Ai (Ai (Av (Ai (A1 C C I A0 ⟨by rw [show checkS nd xs=9 from (hs.trans ((Cz om (by rw [badL_nine om (by first|assumption|exact Classical.not_not.1 asm|exact Classical.byContradiction λh=>c47 (by rw [if_neg h];decide)) om];decide)).trans (badL_nine om (by first|assumption|exact Classical.not_not.1 asm|exact Classical.byContradiction λh=>c47 (by rw [if_neg h];decide)) om)))],rfl⟩))))))))))
         ·refine Ay (Aj (Au (Bl mixed (Br (e8 b2 [e7 ((e_ xs k).u),e7 ((e_ xs k).v),e7 ((e_ xs k).w),e7 ((e_ xs k).lb),e7 ((e_ xs k).sg),e7 ((e_ xs k).tm)] 146::e8 b1 [e7 nd,va] 111::I) 15 (Dr 0 C (Ad C) (Dr 1 C (Bv C C) (Dr 2 C (Ad C) (C9 (d:=59) C (λg59=>?_) (λg59=>?_)))))))))
          ·refine Dro 3 C (Ab fld111_1 C) (Dro 4 C (As ty109) ?_)
           refine Dro 5 C (Ad C) (Dro 6 C (Rsu C C) (Dro 7 C (A3 (α:=Lk) (xs:=xs) Ar ty146 C C (Bh hl) om om) (Dro 8 C (Bp (α:=Lk) (xs:=xs) ty146 C (Bh hl) om om) (Dro 10 C (Bq (vs:=[_,_,_,_,_,_]) ty146) ?_))))
           refine Ds1 9 (Sc0 C (Ao call130 C C (Edge5_ok (e_ xs ((k:Int) - 1)))) ?_)
           refine Ds1 11 (Sc0 C (Ao call130 C C (Edge5_ok (e_ xs k))) ?_)
           refine Ds1 12 (Sc0 C (Ao call84 C C (Before03_ok (e_ xs ((k:Int) - 1)).p (e_ xs k).p)) ?_)
           refine Dro 13 C (C0 C) (Dr 14 C (Am C C) (Dz (Aj (Aq (S5 71 1 15 16 17 C C C C C) (A6 C (λc71=>?_) (λc71=>?_))))))
           ·exact Ah (Ga C (Af (Aw (Av (Ai (Ai (Av (Ai (A1 C C I A0 ⟨by rw [show checkS nd xs=5 from (hs.trans (scanL_order om (badL_zero om (by first|assumption|exact Classical.not_not.1 asm|exact Classical.byContradiction λh=>c47 (by rw [if_neg h];decide)) om) om (by first|assumption|(intro h;have:=(Lk.cmp_lt _ _).2 h;omega))))],rfl⟩)))))))))
           ·exact Ay (Ak (Aj (Ax (Gr (Rad C C) (Gm C (Bd (B2 ((k+1)) ⟨om,(hs.trans (E3 om (badL_zero om (by first|assumption|exact Classical.not_not.1 asm|exact Classical.byContradiction λh=>c47 (by rw [if_neg h];decide)) om) (λh0=>by first|omega|exact (Lk.cmp_lt _ _).1 om|exact Classical.not_not.1 asm)))⟩)))))))
          ·exact Dpo 3 C (Dpo 4 C (Dpo 5 C (Dpo 6 C (Dpo 7 C (Dpo 8 C (Dpo 10 C (Dpo 9 C (Dpo 11 C (Dpo 12 C (Dpo 13 C (Dr 14 C (Al C C) (Dz (Aj (Aq (S5 71 1 15 16 17 C C C C C) (C2 C (Ay (Ak (Aj (Ax (Gr (Rad C C) (Gm C (Bd (B2 ((k+1)) ⟨om,(hs.trans (E3 om (badL_zero om (by first|assumption|exact Classical.not_not.1 asm|exact Classical.byContradiction λh=>c47 (by rw [if_neg h];decide)) om) (λh0=>by first|omega|exact (Lk.cmp_lt _ _).1 om|exact Classical.not_not.1 asm)))⟩)))))))))))))))))))))))
   ·exact Bs (Ap (Ap (A7 (Aj (Ah (Ga C (Af (Aw (A1 C C I A0 ⟨by rw [show checkS nd xs=0 from (hs.trans (scanL_end om))],rfl⟩)))))))))
end Go.Sl
namespace Go.Sl
open Go.RowKit (Below)
def mp(r:Nat)(es:List MapEntry)(cl:Nat):Item where
 fp k:=k=r
 ok w:=w.heap[r]? = some (.map es.toArray cl)
 loc w w' h hw:=(h r rfl).trans hw
section
variable {P:Program}{κ:Ctx}{N:Frm}{Q:Exit->Act->World->Prop}{L:Env}{I J:List Item}{ops:Array Oper}{rest:List Oper}
variable {d:Option Tmp}{ty:TypeId}{ps:String}{af:Array Edge}{gd:Option (Nat×Bool)}
theorem Eff.makeMap{T dd:Nat}(hN:Nat.blt dd N.n=true) :
  Eff P κ N Q ⟨some dd,.makeMap T none,ty,ps,af,gd⟩ L I λL' I'=>∃r,L'=(dd,.map (some r))::L/\I'=mp r [] 0::I:=
 Eff.of_value rfl hN λa w ha hs=>
  ⟨_,_,_,by simp [execOp,Instr.makeMap,Result.andThen],⟨_,rfl,rfl⟩,hs.new (hs.alloc (.map #[] 0)) (heap_alloc_new w _) λk hk=>by obtain rfl:k=_:=hk;exact ⟨Nat.le_refl _,by simp⟩⟩
theorem Eff.insertK{x y z:Operand}{T kt et r cl:Nat}{es:List MapEntry}{kd:IntKind}{k v:Value}{I':List Item}(ht:P.underlying T=some (.map kt et))(hkt:P.underlying kt=some (.int kd))(hx:eo L x=some (.map (some r)))
  (hy:eo L y=some k) (hz:eo L z=some v) (hk:MapKept.IsKey (.int kd) k) (hf:Instr.findNow (.int kd) k es 0=some none) (hat:At I (mp r es cl) (mp r (es++[{key:=k,val:=v,born:=cl}]) (cl+1)) I') :
  Eff P κ N Q ⟨none,.insert T x y z,ty,ps,af,gd⟩ L I λL' I''=>L'=L/\I''=I':=
 Eff.of_skip rfl λa w ha hs=>by
  have hb:=(hs.ok _ hat.mem).1
  refine ⟨{w with heap:=w.heap.setIfInBounds r (.map (es++[({key:=k,val:=v,born:=cl}:MapEntry)]).toArray (cl+1))},I',?_,⟨rfl,rfl⟩,?_⟩
  ·simp [execOp,ha.eval hx,ha.eval hy,ha.eval hz,Instr.mapUpdate,run_underlying ht,MapKept.run_getObj_map hb,MapKept.run_checkKey hkt hk,MapKept.run_findKey hkt hf,MapKept.run_setObj_map _ hb,Result.andThen]
  ·exact hs.upd hat rfl ⟨rfl,Nat.le_refl _⟩ rfl (by simp) (λk _ hne=>(MapKept.heap_set hb).2 k λe=>hne e) (MapKept.heap_set hb).1 λk hk=> .inl hk
theorem Runs.lookupK{x y:Operand}{T kt et r cl i:Nat}{es:List MapEntry}{kd:IntKind}{k v:Value}(ht:P.underlying T=some (.map kt et))(hkt:P.underlying kt=some (.int kd))(hx:eo L x=some (.map (some r)))
  (hy:eo L y=some k) (hk:MapKept.IsKey (.int kd) k) (hm:mp r es cl∈J) (hf:Instr.findNow (.int kd) k es 0=some (some (i,v))):Runs P κ N ⟨d,.lookup T x y false,ty,ps,af,gd⟩ L J v:=
 λa w ha hs=>by
  have hb:=(hs.ok _ hm).1
  simp [execOp,ha.eval hx,ha.eval hy,Instr.lookup,run_underlying ht,MapKept.run_getObj_map hb,MapKept.run_checkKey hkt hk,MapKept.run_findKey hkt hf,Result.andThen]
end
end Go.Sl
