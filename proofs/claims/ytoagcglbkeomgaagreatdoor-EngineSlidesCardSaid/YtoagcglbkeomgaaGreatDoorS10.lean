/- A part of the proofs of statements of this seat: contracts of functions, and the plain laws that they lean on. No conditions. -/
import Derived.Shelf.SortM.Plain
import Derived.Shelf.SortM.SortNone
import Derived.Test.YtoagcglbkeomgaaGreatDoorS6
set_option linter.unusedVariables false
set_option linter.unusedSimpArgs false
set_option linter.unusedSectionVars false
open Go.Proofs.Tryz (prog)
set_option maxHeartbeats 8000000
namespace Go.Proofs
def Tryz.sortI_ren:Go.Shelf.Ren:=⟨fun |5=>163|8=>181|7=>180|19=>207|20=>208|10=>198|11=>199|12=>200|13=>201|14=>202|15=>203|16=>204|17=>205|18=>206|30=>214|31=>215|32=>216|33=>217|34=>218|35=>179|40=>222|n=>n,fun |23=>22|25=>3|3=>3|32=>233|22=>22|0=>0|44=>251|46=>207|4=>4|36=>244|35=>243|41=>225|5=>5|9=>9|53=>256|57=>260|63=>265|64=>266|n=>n,fun |n=>n⟩
theorem Tryz.sortI:Go.Proofs.SlLaysM.n5 prog Tryz.sortI_ren:={
 mixed:=by kernel_rfl,
 f5:=⟨Tryz.f163.name,by decide,Tryz.func163.trans<|congrArg some<|by kernel_rfl⟩,
 f7:=⟨Tryz.f180.name,by decide,Tryz.func180.trans<|congrArg some<|by kernel_rfl⟩,
 f8:=Tryz.func181.trans (congrArg some<|by kernel_rfl),
 f10:=⟨Tryz.f198.name,by decide,Tryz.func198.trans<|congrArg some<|by kernel_rfl⟩,
 f11:=⟨Tryz.f199.name,by decide,Tryz.func199.trans<|congrArg some<|by kernel_rfl⟩,
 f12:=⟨Tryz.f200.name,by decide,Tryz.func200.trans<|congrArg some<|by kernel_rfl⟩,
 f13:=⟨Tryz.f201.name,by decide,Tryz.func201.trans<|congrArg some<|by kernel_rfl⟩,
 f14:=⟨Tryz.f202.name,by decide,Tryz.func202.trans<|congrArg some<|by kernel_rfl⟩,
 f15:=⟨Tryz.f203.name,by decide,Tryz.func203.trans<|congrArg some<|by kernel_rfl⟩,
 f16:=⟨Tryz.f204.name,by decide,Tryz.func204.trans<|congrArg some<|by kernel_rfl⟩,
 f17:=⟨Tryz.f205.name,by decide,Tryz.func205.trans<|congrArg some<|by kernel_rfl⟩,
 f18:=⟨Tryz.f206.name,by decide,Tryz.func206.trans<|congrArg some<|by kernel_rfl⟩,
 f19:=Tryz.func207.trans (congrArg some<|by kernel_rfl),
 f20:=Tryz.func208.trans (congrArg some<|by kernel_rfl),
 f30:=⟨Tryz.f214.name,by decide,Tryz.func214.trans<|congrArg some<|by kernel_rfl⟩,
 f31:=Tryz.func215.trans (congrArg some<|by kernel_rfl),
 f32:=Tryz.func216.trans (congrArg some<|by kernel_rfl),
 f33:=⟨Tryz.f217.name,by decide,Tryz.func217.trans<|congrArg some<|by kernel_rfl⟩,
 f34:=⟨Tryz.f218.name,by decide,Tryz.func218.trans<|congrArg some<|by kernel_rfl⟩,
 f35:=⟨Tryz.f179.name,by decide,Tryz.func179.trans<|congrArg some<|by kernel_rfl⟩,
 f40:=⟨Tryz.f222.name,by decide,Tryz.func222.trans<|congrArg some<|by kernel_rfl⟩,
 t0:=Tryz.underlying0,
 a0:=Tryz.isAgg0,
 z0:=Tryz.sizeOf0,
 v0:=Tryz.zeroValue0,
 t3:=Tryz.underlying3,
 a3:=Tryz.isAgg3,
 z3:=Tryz.sizeOf3,
 v3:=Tryz.zeroValue3,
 t4:=Tryz.underlying4,
 a4:=Tryz.isAgg4,
 z4:=Tryz.sizeOf4,
 v4:=Tryz.zeroValue4,
 t5:=Tryz.underlying5,
 a5:=Tryz.isAgg5,
 z5:=Tryz.sizeOf5,
 v5:=Tryz.zeroValue5,
 t9:=Tryz.underlying9,
 a9:=Tryz.isAgg9,
 z9:=Tryz.sizeOf9,
 v9:=Tryz.zeroValue9,
 t22:=Tryz.underlying22,
 a22:=Tryz.isAgg22,
 z22:=Tryz.sizeOf22,
 v22:=Tryz.zeroValue22,
 t23:=Tryz.underlying22,
 a23:=Tryz.isAgg22,
 z23:=Tryz.sizeOf22,
 v23:=Tryz.zeroValue22,
 t25:=Tryz.underlying3,
 a25:=Tryz.isAgg3,
 z25:=Tryz.sizeOf3,
 v25:=Tryz.zeroValue3,
 t32:=Tryz.underlying233,
 a32:=Tryz.isAgg233,
 z32:=Tryz.sizeOf233,
 v32:=Tryz.zeroValue233,
 t35:=Tryz.underlying243,
 a35:=Tryz.isAgg243,
 z35:=Tryz.sizeOf243,
 v35:=Tryz.zeroValue243,
 t36:=Tryz.underlying244,
 a36:=Tryz.isAgg244,
 z36:=Tryz.sizeOf244,
 v36:=Tryz.zeroValue244,
 t41:=Tryz.underlying225,
 a41:=Tryz.isAgg225,
 z41:=Tryz.sizeOf225,
 v41:=Tryz.zeroValue225,
 t44:=Tryz.underlying251,
 a44:=Tryz.isAgg251,
 z44:=Tryz.sizeOf251,
 v44:=Tryz.zeroValue251,
 t46:=Tryz.underlying207,
 a46:=Tryz.isAgg207,
 z46:=Tryz.sizeOf207,
 v46:=Tryz.zeroValue207,
 t53:=Tryz.underlying256,
 a53:=Tryz.isAgg256,
 z53:=Tryz.sizeOf256,
 v53:=Tryz.zeroValue256,
 t57:=Tryz.underlying260,
 a57:=Tryz.isAgg260,
 z57:=Tryz.sizeOf260,
 v57:=Tryz.zeroValue260,
 t63:=Tryz.underlying265,
 a63:=Tryz.isAgg265,
 z63:=Tryz.sizeOf265,
 v63:=Tryz.zeroValue265,
 t64:=Tryz.underlying266,
 a64:=Tryz.isAgg266,
 z64:=Tryz.sizeOf266,
 v64:=Tryz.zeroValue266}
end Go.Proofs
namespace Go.Sl
open Go.Proofs Go.Shelf Go.RowKit Go.Lib Go.Sort
variable{xs:List Int}{P:Program}{κ:Ctx}{I:List Item}{e:TypeId}{ad:Option Addr}{c:Nat}
def sortZ(xs:List Int):List Int:=xs.mergeSort λx y=>decide (x<=y)
theorem sortZ_perm(xs:List Int):(sortZ xs).Perm xs:=List.mergeSort_perm _ _
theorem sortZ_len(xs:List Int):(sortZ xs).length=xs.length:=(sortZ_perm xs).length_eq
theorem mem_sortZ{x:Int}:x∈sortZ xs↔x∈xs:=(sortZ_perm xs).mem_iff
theorem sortZ_asc(xs:List Int):(sortZ xs).Pairwise (· <= ·):=by
 have h:=List.pairwise_mergeSort (le:=λx y:Int=>decide<|x<=y) (λa b c Z M=>by simp at *; omega) (λa b=>by simp;omega) xs
 exact h.imp λh=>by simpa using h
theorem sortI_base{ρ:Ren}(L:SlLaysM.n5 P ρ)(hc:0<c)(aw:xs.length<4611686018427387904):eu P κ (ρ.f 5) [.slice ad xs.length c] (vc e (.slice ad xs.length c) xs::I) λr J=>r = .tuple #[]/\J=vc e (.slice ad (sortZ xs).length c) (sortZ xs)::I:=by
 intro w hs
 obtain ⟨av,_⟩:=hs.ok _ List.mem_cons_self
 obtain ⟨a',ay,hv,hl,ao,ap,an⟩:=av
 cases hv
 obtain ⟨b,off,ae,rfl,hb,M,ai⟩:=an hc
 have ak:b<w.heap.size:=(Array.getElem?_eq_some_iff.1 hb).1
 have aa:=sortZ_len xs
 have ab:∀ys:List Int,cells ys=ys.map λx=>e7 x:=λys=>by
  induction ys with
  |nil=>rfl
  |cons y ys ih=>show e7 y::cells ys=_;rw [ih];rfl
 have ah:∀ys:List Int,(cells ys).length=ys.length:=λys=>by rw [ab,List.length_map]
 have hH:Holds (Value.int .i64) w b off xs.toArray:=λj hj=>by
  have Z:j<xs.length:=by simpa using hj
  have h1:=ai j (e7 xs[j]) (by rw [ab,List.getElem?_map,List.getElem?_eq_getElem Z];rfl)
  refine ⟨?_,by simp [World.frozen?,hb]⟩
  rw [cell_of_row w b (off+j) ae e (0,0) hb,h1]
  simp [getElem!_pos,Z]
 have h:=AnyM.slices_Sort_int L b off c xs w hH ak aw
 refine Calls.mono h ?_
 rintro e' w' ⟨rfl,n,os,rfl⟩
 refine ⟨_,_,rfl,⟨rfl,rfl⟩,?_⟩
 have hz:(xs.mergeSort λx y=>decide<|x<=y)=sortZ xs:=rfl
 rw [hz]
 refine hs.upd (At.head _ _ _) rfl ⟨rfl,by simp [putRow,mapBlock,Sort.grow,Sort.ahead]⟩ rfl (by simp [putRow,mapBlock,Sort.grow,Sort.ahead]) (λk hk ar=>?_) ?_ λk hk=> .inl ?_
 ·have au:k≠b:=λaq=>ar (by subst aq;exact ⟨off,xs.length,c,rfl,hc⟩)
  simp only [Sort.grow,putRow,mapBlock,Sort.ahead]
  rw [Array.getElem?_append_left (by simpa using hk),Array.getElem?_modify,if_neg<|λe=>au e.symm]
 ·refine ⟨_,c,rfl,(ah _).trans (Nat.mul_one _).symm,by rw [aa];exact ao,ap,λ_=>⟨b,off,putCells (Value.int .i64) off (sortZ xs).toArray ae,rfl,?_,?_,λj u hj=>?_⟩⟩
  ·simp only [Sort.grow,putRow,mapBlock,Sort.ahead]
   rw [Array.getElem?_append_left (by simpa using ak),Array.getElem?_modify,if_pos rfl]
   show (w.heap[b]?).map _=_
   rw [hb];rfl
  ·simpa [putCells] using M
  have Z:j<(sortZ xs).length:=by rw [←ah];exact (List.getElem?_eq_some_iff.1 hj).1
  have aj:off+j<ae.size:=by
   have:=M;rw [aa] at Z
   have:c*Enc.sz Int=c:=Nat.mul_one c
   omega
  simp only [putCells,Array.getElem?_mapIdx,Array.getElem?_eq_getElem aj,Option.map_some]
  rw [if_pos ⟨by omega,by simpa using Z⟩,Nat.add_sub_cancel_left]
  rw [ab,List.getElem?_map,List.getElem?_eq_getElem Z] at hj
  simpa [getElem!_pos,Z] using hj
 obtain ⟨o',n',c',ax,az⟩:=hk
 cases ax
 exact ⟨off,xs.length,c,rfl,hc⟩
theorem sortI_any{ρ:Ren}(L:SlLaysM.n5 P ρ)(M:xs.length<4611686018427387904):eu P κ (ρ.f 5) [.slice ad xs.length c] (vc e (.slice ad xs.length c) xs::I) λr J=>r = .tuple #[]/\J=vc e (.slice ad (sortZ xs).length c) (sortZ xs)::I:=by
 by_cases hc:0<c
 ·exact sortI_base L hc M
 intro w hs
 obtain ⟨Z,_⟩:=hs.ok _ List.mem_cons_self
 obtain ⟨a',aa,hv,hl,ae,ah,ab⟩:=Z
 cases hv
 obtain rfl:xs=[]:=List.eq_nil_of_length_eq_zero (by omega)
 refine Calls.mono (AnyM.slices_Sort_int_none L ad c w) ?_
 rintro e' w' ⟨rfl,rfl⟩
 have hz:sortZ []=[]:=List.eq_nil_of_length_eq_zero (sortZ_len [])
 refine ⟨_,_,rfl,⟨rfl,rfl⟩,?_⟩
 rw [hz];exact hs
end Go.Sl
namespace Go.Sl
end Go.Sl
namespace Go.Sl
open Go.Proofs
set_option maxRecDepth 4000
variable{Z c i:Nat}{a:Option Addr}{es xs ys:List Pt}{v va:Value}{nd:Int}
theorem ext_at{α:Type}[Inhabited α]{xs ys:List α}(M:xs.length=ys.length)(h:∀j,j<xs.length->e_ xs j=e_ ys j):xs=ys:=by
 refine List.ext_getElem M λj Z h2=>?_
 have:=h j Z
 rwa [C7 xs j Z,C7 ys j h2] at this
theorem Few_ok{κ:Ctx}{I:List Item}{M:Option Addr}{lc:Nat} :
    eu prog κ 10 [.slice M Z lc] I (λr J=>r = .bool (decide<|(Z:Int)<=500)/\I=J):=by
 refine Ce1 Tryz.func10 C C ?_
 exact Ad<|Ga C<|Ac<|Ad<|Gm C<|Gr (Bk Af C)<|Gr (Ej C C)<|Ga C<|Ac<|Az<|A1 C C I Ax ⟨rfl,rfl⟩
variable {κ:Ctx}{I:List Item}
theorem CloneE(hl:Sl κ I (.slice a xs.length c) xs)(hb:xs.length<=1000000000):eu prog κ 84 [.slice a xs.length c] I (λr J=>∃a' c',r = .slice a' xs.length c'/\J=vk 105 a' c' xs::I):=by
 refine B5 (p:=a.isNone=true->xs=[]/\c=0) (λw hs hn=>hl.isNone w hs hn) λZ=>?_
 refine Ce1 Tryz.func84 C C ?_
 refine Ad<|Ga C<|Ac<|Ar<|Ad<|Gm C<|Gr (Runs.eqnil A6 C C)<|Ac<|D1 C (λc4=>?_)<|λc4=>?_
 ·refine Ad (Ga C<|Ac<|Az<|Ao ?_)
  obtain ⟨ab,_⟩:=Z c4
  subst ab
  exact A1 C C (vk 105 none 0 ([]:List Pt)::I) (Cf _ _) ⟨none,0,rfl,rfl⟩
 refine Aw<|Ah<|Ad<|Ge1 (Eff.bs0 (α:=Pt) A6 ty105 C) λad=>?_
 refine Gm C<|Ge2 (B3 (α:=Pt) (e:=105) (xs:=([]:List Pt)) (ys:=xs) A6 ty105 C C C mm (A8 hl) (by simp only [List.length_nil];omega) dc C<|λ_ _=>am) λaa M=>?_
 exact Ga C<|Ac<|Az<|A1 C C (vk 105 aa M xs::I) Bg ⟨aa,M,rfl,rfl⟩
theorem ov276:∀Z w,(callFunc 276 Z).run prog w=((Extern.SlicesOverlaps.overlaps #[36,36] #[4] Z).run prog w).andThen λv w'=> .ok (.value v) w':=λZ w=>run_callFunc_extern (e:=Extern.SlicesOverlaps.overlaps #[36,36] #[4]) Tryz.func276 kr kr kr kr Z w
theorem InsertE_ok{va:Option Addr}(hi:i<=xs.length)(hy:0<ys.length)(aq:xs.length+ys.length<=1000000000):eu prog κ 269 [.slice a xs.length c,e7 ((i:Int)),.slice va ys.length Z] (vc 105 (.slice a xs.length c) (xs)::vc 105 (.slice va ys.length Z) (ys)::I) (λr J=>∃a' c',r = .slice a' (List.take i xs++ys++List.drop i xs).length c'/\J=vc 105 (.slice a' (List.take i xs++ys++List.drop i xs).length c') (List.take i xs++ys++List.drop i xs)::I):=by
 refine B5 (vc.cap List.mem_cons_self) λao=>?_
 have aa:(List.take i xs++ys++List.drop i xs).length=xs.length+ys.length:=by simp only [List.length_append,List.length_take,List.length_drop];omega
 refine Ce3 Tryz.func269 C C ?_
 refine Ad<|Ga C<|Ac<|Ad<|Gm C<|Gm C<|Gr (D0 (α:=Pt) (xs:=xs) (l:=i) A6 ty105 C C om Bi lat)<|Ac<|Ad<|Gm C<|Gr (Bk A6 C)<|Ga C<|Ac<|Ar<|Ad<|Gm C<|Gr (Br C C)<|Ac<|A7 C (λad=>?_)<|λad=>?_
 ·exact absurd ad om
 refine Aw<|Ah<|Ad<|Gm C<|Gr (Bk A6 C)<|Ga C<|Ac<|Ap (S5 8 7 0 1 2)<|Ar<|Ad<|Gm C<|Gm C<|Gr (Br C C)<|Ac<|A7 C (λak=>?_)<|λak=>?_
 ·refine Ad (Gm C<|Gm C<|Ge2 (B3 (α:=Pt) (e:=105) (xs:=xs) (ys:=ys) A6 ty105 C C C mm Bi om dc C<|λ_ _=>am) λab ae=>?_)
  refine Ga C<|Ac<|Az<|Ao ?_
  have hR:List.take i xs++ys++List.drop i xs=xs++ys:=by rw [List.take_of_length_le om,List.drop_eq_nil_of_le om,List.append_nil]
  exact A1 C C (vc 105 (.slice ab (List.take i xs++ys++List.drop i xs).length ae) (List.take i xs++ys++List.drop i xs)::I) (by rw [hR];exact Bl) ⟨ab,ae,by rw [hR],rfl⟩
 refine Aw<|Ah<|Ar<|Ad<|Gm C<|Gm C<|Gr (Rad C C)<|Gm C<|Gr (Runs.caps A6 C)<|Gr (B2 C C)<|Ac<|Ap (S6 31 8 7 0 1 2)<|A7 C (λaj=>?_)<|λaj=>?_
 ·refine Ad (Gm C<|Gm C<|Gr (E3 (h:=i) A6 ty105 C C om om)<|Gm C<|Gm C<|Gr (Rad C C)<|Gm C<|Gr (Rsu C C)<|Ge2 (Eff.grow (α:=Pt) (xs:=xs) (k:=xs.length+ys.length - i) A6 Ci ty105 C C C om Bi om om om om dc C) λah M=>?_)
  refine Ga C<|G.pull (p:=(List.take i xs++List.replicate (xs.length+ys.length - i) (default:Pt)).length<=M) (vc.cap mm) λan=>?_
  have ap:(List.take i xs++List.replicate (xs.length+ys.length - i) (default:Pt)).length=xs.length+ys.length:=by simp only [List.length_append,List.length_take,List.length_replicate];omega
  refine Ac<|Ap (S5 9 7 0 1 2)<|Ad<|Gm C<|Gm C<|Gr (D0 (α:=Pt) (xs:=List.take i xs++List.replicate (xs.length+ys.length - i) (default:Pt)) (l:=i) A6 ty105 C C om Bi lat)<|Gm C<|Ge0 (Fh (α:=Pt) (k:=i) (q:=ys.length) (R:=List.take i xs++ys++List.replicate (xs.length - i) (default:Pt)) (n:=(i+(xs.length+ys.length - i))) A6 ty105 C lat C Bi lat lat C (ins1 hi) lat am) ?_
  refine Ac<|Ar<|Bs mixed<|Cc I 9<|Dr 0 C (Ai C)<|Dr 1 C (Ai C)<|Dr 2 C (Ai C)<|Dr 3 C (Rad C C)<|Dr 4 C (C3 (l:=(i+ys.length)) A6 ty105 C C om om om)<|Dr 5 C (Ai C)<|Dr 6 C (Ai C)<|Dr 7 C (C3 (l:=i) A6 ty105 C C om om om)<|Ds1 8<|Se0 C (Fh (α:=Pt) (k:=(i+ys.length)) (q:=(xs.length - i)) (R:=List.take i xs++ys++List.drop i xs) (n:=(i+(xs.length+ys.length - i))) A6 ty105 C lat C (Sl.dropn (De (xs:=xs) mm) om om) lat lat C (ins2 hi) lat am) ?_
  exact Dz<|Ah<|Ap (S1 9)<|Ad<|Gm C<|Ga C<|Ac<|Az<|Ao<|A1 C C (vc 105 (.slice ah (List.take i xs++ys++List.drop i xs).length M) (List.take i xs++ys++List.drop i xs)::I) (by rw [show (List.take i xs++ys++List.drop i xs).length=i+(xs.length+ys.length - i) by omega];exact Bl) ⟨ah,M,by rw [show (List.take i xs++ys++List.drop i xs).length=i+(xs.length+ys.length - i) by omega],rfl⟩
 refine Aw<|Ah<|Ad<|Gm C<|Gm C<|Gm C<|Gr (Rad C C)<|Gr (E3 (h:=xs.length+ys.length) A6 ty105 C C om om)<|Ga C<|G.room (h:=xs.length+ys.length) (by repeat (first|exact AtF.head _ _|apply AtF.tail)) C om om<|λjs ai=>?_
 show G prog κ _ _ _ _ ([(0,.slice a (xs.length+ys.length) c),(60,.slice a (xs.length+ys.length) c),(59,e7<|((xs.length:Nat):Int)+((ys.length:Nat):Int)),(58,e7 ((ys.length:Nat):Int)),(57,e7 ((xs.length:Nat):Int)),(56,.slice a xs.length c),(31,.bool<|decide<|(c:Int)<(((xs.length:Nat):Int)+((ys.length:Nat):Int))),(8,e7 ((xs.length:Nat):Int)),(7,e7 ((ys.length:Nat):Int)),(0,.slice a xs.length c),(1,e7<|(i:Int)),(2,.slice va ys.length Z)]:Env) (vec 105 (Enc.sz Pt) (.slice a (xs.length+ys.length) c) (xs.length+ys.length) (cells xs++js)::vc 105 (.slice va ys.length Z) (ys)::I)
 refine Ac<|Ar<|Ad<|Gm C<|Gm C<|Gm C<|Gm C<|Gr (Rad C C)<|Gr (C3 (l:=(i+ys.length)) A6 ty105 C C om om om)<|Ge0 (Eff.overlaps (k:=i+ys.length) ov276 A6 ty105 C C om om om (show Fit κ _ (vc 105 (.slice va ys.length Z) ys::vec 105 (Enc.sz Pt) (.slice a (xs.length+ys.length) c) (xs.length+ys.length) (cells xs++js)::I) from Fit.sp (Sp.pick (Pick.tail _<|Pick.head _ _)<|Sp.refl _)) (Nat.mul_pos om Enc.pos) C) ?_
 refine Gr (Cn C)<|Ac<|Ap (S6 68 0 8 7 1 2)<|Cu C<|Ar<|Bs mixed<|Cc I 9<|Dr 0 C (Ai C)<|Dr 1 C (Ai C)<|Dr 2 C (Ai C)<|Dr 3 C (Rad C C)<|Dr 4 C (C3 (l:=(i+ys.length)) A6 ty105 C C om om om)<|Dr 5 C (Ai C)<|Dr 6 C (Ai C)<|Dr 7 C (C3 (l:=i) A6 ty105 C C om om om)<|Ds1 8<|Se0 C (Eff.copyR (sz:=Enc.sz Pt) (n:=xs.length+ys.length) (cs:=(cells xs++js)) (k:=(i+ys.length)) (q:=(xs.length - i)) A6 ty105 C om C (SlRd.dropR (SlRd.vec mm) om) om om (ins_one hi) C am) ?_
 show D prog κ _ _ _ _ _ _ _ ([(77,e7<|(((xs.length - i):Nat):Int)),(76,.slice (adrop a c i<|Enc.sz Pt) ((xs.length+ys.length) - i)<|c - i),(75,e7<|(i:Int)),(74,.slice a (xs.length+ys.length) c),(73,.slice (adrop a c (i+ys.length)<|Enc.sz Pt) ((xs.length+ys.length) - (i+ys.length))<|c - (i+ys.length)),(72,e7<|(i:Int)+((ys.length:Nat):Int)),(71,e7 ((ys.length:Nat):Int)),(70,e7<|(i:Int)),(69,.slice a (xs.length+ys.length) c),(68,.bool true),(0,.slice a (xs.length+ys.length) c),(8,e7 ((xs.length:Nat):Int)),(7,e7 ((ys.length:Nat):Int)),(1,e7<|(i:Int)),(2,.slice va ys.length Z)]:Env) (vec 105 (Enc.sz Pt) (.slice a (xs.length+ys.length) c) (xs.length+ys.length) (List.take ((i+ys.length)*Enc.sz Pt) (cells xs++js)++List.take ((xs.length - i)*Enc.sz Pt) (List.drop (i*Enc.sz Pt)<|cells xs++js)++List.drop ((i+ys.length)*Enc.sz Pt+(xs.length - i)*Enc.sz Pt) (cells xs++js))::vc 105 (.slice va ys.length Z) (ys)::I)
 refine Dz<|Ah<|Ap (S3 0 1 2)<|Ad<|Gm C<|Gm C<|Gr (C3 (l:=i) A6 ty105 C C om om om)<|Gm C<|Ge0 (Eff.copyR (sz:=Enc.sz Pt) (n:=xs.length+ys.length) (cs:=(List.take ((i+ys.length)*Enc.sz Pt) (cells xs++js)++List.take ((xs.length - i)*Enc.sz Pt) (List.drop (i*Enc.sz Pt)<|cells xs++js)++List.drop ((i+ys.length)*Enc.sz Pt+(xs.length - i)*Enc.sz Pt) (cells xs++js))) (k:=i) (q:=ys.length) A6 ty105 C om C (show Sl κ _ (.slice va ys.length Z) ys from (De (e:=105) (xs:=ys) mm)) om om (λu hu=>cells_one ys u<|List.mem_of_mem_take hu) C am) ?_
 show G prog κ _ _ _ _ ([(82,e7 ((ys.length:Nat):Int)),(81,.slice va ys.length Z),(80,.slice (adrop a c i<|Enc.sz Pt) ((xs.length+ys.length) - i)<|c - i),(79,e7<|(i:Int)),(78,.slice a (xs.length+ys.length) c),(0,.slice a (xs.length+ys.length) c),(1,e7<|(i:Int)),(2,.slice va ys.length Z)]:Env) (vec 105 (Enc.sz Pt) (.slice a (xs.length+ys.length) c) (xs.length+ys.length) (List.take (i*Enc.sz Pt) (List.take ((i+ys.length)*Enc.sz Pt) (cells xs++js)++List.take ((xs.length - i)*Enc.sz Pt) (List.drop (i*Enc.sz Pt)<|cells xs++js)++List.drop ((i+ys.length)*Enc.sz Pt+(xs.length - i)*Enc.sz Pt) (cells xs++js))++List.take (ys.length*Enc.sz Pt) (cells ys)++List.drop (i*Enc.sz Pt+ys.length*Enc.sz Pt) (List.take ((i+ys.length)*Enc.sz Pt) (cells xs++js)++List.take ((xs.length - i)*Enc.sz Pt) (List.drop (i*Enc.sz Pt)<|cells xs++js)++List.drop ((i+ys.length)*Enc.sz Pt+(xs.length - i)*Enc.sz Pt) (cells xs++js)))::vc 105 (.slice va ys.length Z) (ys)::I)
 refine Ac<|Ad<|Gm C<|Ga C<|Ac<|Az<|Ao ?_
 have hC:(List.take (i*Enc.sz Pt) (List.take ((i+ys.length)*Enc.sz Pt) (cells xs++js)++List.take ((xs.length - i)*Enc.sz Pt) (List.drop (i*Enc.sz Pt)<|cells xs++js)++List.drop ((i+ys.length)*Enc.sz Pt+(xs.length - i)*Enc.sz Pt) (cells xs++js))++List.take (ys.length*Enc.sz Pt) (cells ys)++List.drop (i*Enc.sz Pt+ys.length*Enc.sz Pt) (List.take ((i+ys.length)*Enc.sz Pt) (cells xs++js)++List.take ((xs.length - i)*Enc.sz Pt) (List.drop (i*Enc.sz Pt)<|cells xs++js)++List.drop ((i+ys.length)*Enc.sz Pt+(xs.length - i)*Enc.sz Pt) (cells xs++js)))=cells (List.take i xs++ys++List.drop i xs):=ins_cells hi ai
 exact A1 C C (vc 105 (.slice a (List.take i xs++ys++List.drop i xs).length c) (List.take i xs++ys++List.drop i xs)::I) (by rw [hC];show Fit κ _ (vec 105 _ (.slice a (List.take i xs++ys++List.drop i xs).length c) (List.take i xs++ys++List.drop i xs).length (cells<|List.take i xs++ys++List.drop i xs)::I);rw [aa];exact Bl) ⟨a,c,by rw [aa],rfl⟩
variable {κ:Ctx}{I:List Item}
theorem sortI_ok{e:TypeId}{ad:Option Addr}{xs:List Int}(Z:xs.length<4611686018427387904):eu prog κ 163 [.slice ad xs.length c] (vc e (.slice ad xs.length c) xs::I) λr J=>r = .tuple #[]/\J=vc e (.slice ad xs.length c) (sortZ xs)::I:=
 (sortI_any (κ:=κ) (I:=I) Tryz.sortI (e:=e) (ad:=ad) (c:=c) Z).mono λr J ⟨h1,M⟩=>⟨h1,by rw [M,sortZ_len]⟩
theorem CloneI{xs:List Int}(hl:Sl κ I (.slice a xs.length c) xs)(hb:xs.length<=1000000000):eu prog κ 128 [.slice a xs.length c] I (λr J=>∃a' c',r = .slice a' xs.length c'/\J=vk 3 a' c' xs::I):=by
 refine B5 (p:=a.isNone=true->xs=[]/\c=0) (λw hs hn=>hl.isNone w hs hn) λZ=>?_
 refine Ce1 Tryz.func128 C C ?_
 refine Ad<|Ga C<|Ac<|Ar<|Ad<|Gm C<|Gr (Runs.eqnil Af C C)<|Ac<|D1 C (λc4=>?_)<|λc4=>?_
 ·refine Ad (Ga C<|Ac<|Az<|Ao ?_)
  obtain ⟨ab,_⟩:=Z c4
  subst ab
  exact A1 C C (vk 3 none 0 ([]:List Int)::I) (Cf _ _) ⟨none,0,rfl,rfl⟩
 refine Aw<|Ah<|Ad<|Ge1 (Eff.bs0 (α:=Int) Af ef C) λad=>?_
 refine Gm C<|Ge2 (B3 (α:=Int) (e:=3) (xs:=([]:List Int)) (ys:=xs) Af ef C C C mm (A8 hl) (by simp only [List.length_nil];omega) dc C<|λ_ _=>am) λaa M=>?_
 exact Ga C<|Ac<|Az<|A1 C C (vk 3 aa M xs::I) Bg ⟨aa,M,rfl,rfl⟩
variable {κ:Ctx}{I:List Item}
theorem eqt105:EqT prog 105 Pt:=EqT.flat (λp:Pt=>[p.u,p.v]) (λ_=>rfl) (λx y h=>by cases x;cases y;simpa using h) (n:=2) (λ_=>rfl) kr kr kr kr kr
theorem DeleteE_ok{j:Nat}(aa:i<j)(hj:j<=xs.length)(ad:xs.length<=1000000000):eu prog κ 274 [.slice a xs.length c,e7 ((i:Int)),e7 ((j:Int))] (vk 105 a c xs::I) (λr J=>r = .slice a (List.take i xs++List.drop j xs).length c/\vk 105 a c (List.take i xs++List.drop j xs)::I=J):=by
 refine B5 (vc.cap List.mem_cons_self) λM=>?_
 have ab:(List.take i xs++List.drop j xs).length=i+(xs.length - j):=by simp only [List.length_append,List.length_take,List.length_drop];omega
 refine Ce3 Tryz.func274 C C ?_
 refine Ad<|Ga C<|Ac<|Ad<|Gm C<|Gm C<|Gm C<|Gm C<|Gr (Bk A6 C)<|Gr (Runs.lohi3 (l:=i) (h:=j) (q:=xs.length) A6 ty105 C C om C om C om om om om)<|Ac<|Ar<|Ad<|Gm C<|Gm C<|Gr (Br C C)<|Ac<|A7 C (λZ=>?_)<|λZ=>?_
 ·exact absurd Z om
 refine Aw<|Ah<|Ad<|Gm C<|Gr (Bk A6 C)<|Ga C<|Ac<|Ap (S4 7 0 1 2)<|Ar<|Bs mixed<|Cc I 8<|Dr 0 C (Ai C)<|Dr 1 C (Ai C)<|Dr 2 C (E3 (h:=i) A6 ty105 C C om om)<|Dr 3 C (Ai C)<|Dr 4 C (Ai C)<|Dr 5 C (C3 (l:=j) A6 ty105 C C om om om)<|Ds1 6<|Se0 C (Eff.appIn (α:=Pt) (xs:=xs) (i:=i) (j:=j) A6 ty105 C C C om om om C am) ?_
 refine Dr 7 C (Bf C)<|Dz<|Ah<|Ad<|Gm C<|Gm C<|Gr (Bk A6 C)<|Gm C<|Gr (Runs.lohiraw (l:=(List.take i xs++List.drop j xs).length) (h:=xs.length) A6 ty105 C C om C om om om)<|Ge0 (Eff.clearB (α:=Pt) (xs:=(List.take i xs++List.drop j xs)) (k:=(List.take i xs++List.drop j xs).length) (h:=xs.length) A6 ty105 (AllOne.cons C<|AllOne.cons C AllOne.nil) C C C C om om am) ?_
 exact Ac<|Ap (S1 0)<|Ad<|Gm C<|Ga C<|Ac<|Az<|A1 C C _ (Dn _) ⟨rfl,rfl⟩
theorem BSearchE(hl:Sl κ I v xs)(x:Pt){g:FuncId}{Z:List Value}{cf:Pt->Pt->Int}(M:Cmps prog κ I g Z cf)(an:xs.length<=1000000000000):eu prog κ 189 [v,.agg #[e7 (x.u),e7 (x.v)],.func (.func g) #[] Z.toArray] I (λr J=>∃i b,r = .tuple #[e7 ((i:Nat):Int),.bool b]/\BFound cf xs x i b/\I=J):=by
 refine B5 hl.le λaj=>?_
 refine Ce3 Tryz.func189 C C ?_
 refine Ad<|Ge1 (Bd (cs:=[_,_]) C C C) λb1=>Ga C<|Ga C<|Ac<|Ad<|Gm C<|Gr (Bw (α:=Pt) (xs:=xs) A6 C<|A8 hl)<|Ga C<|Ac<|Ad<|Gm C<|Ga C<|Ga C<|Ac<|Ar<|A5<|B1 (σ:=Nat×Nat) (λs=>([(0,v),(2,.func (.func g) #[] Z.toArray),(4,pt b1),(8,e7 ((xs.length:Nat):Int)),(9,e7 ((s.1:Nat):Int)),(10,e7 ((s.2:Nat):Int))]:Env)) (λs=>e8 b1 [e7 (x.u),e7<|x.v] 105::I) (λs=>(s.1<=s.2)/\(s.2<=xs.length)/\(0<s.1->cf (e_ xs<|(s.1:Int) - 1) x<0)/\(s.2<xs.length->¬cf (e_ xs s.2) x<0)) (λs=>s.2 - s.1) (0,xs.length) (show ((0:Nat)<=(xs.length:Nat))/\((xs.length:Nat)<=xs.length)/\(0<(0:Nat)->cf (e_ xs<|((0:Nat):Int) - 1) x<0)/\((xs.length:Nat)<xs.length->¬cf (e_ xs ((xs.length:Nat):Int)) x<0) from ⟨om,om,(λh=>absurd h dc),(λh=>absurd h om)⟩) (cx4<|Aa Cd<|Aa Cd Bp) (show Fit κ _ (e8 b1 [e7 (x.u),e7<|x.v] 105::I) from Bg) ?_
 rintro ⟨i,j⟩ hp
 dsimp only at hp ⊢
 obtain ⟨ak,hj,ae,ad⟩:=hp
 refine Ar<|Ad<|Gm C<|Gm C<|Gr (A9 C C)<|Ac<|A7 C (λah=>?_)<|λah=>?_
 ·refine Aw (Ah<|A5<|Ad<|Gm C<|Gm C<|Gr (Rad C C)<|Gr (Runs.convU Ci Eb C om)<|Gr (Runs.shr1 C C)<|Gr (Runs.convI Eb Ci C<|by unfold InR;omega)<|Ga C<|Ac<|Ap (S7 11 0 2 4 8 9 10)<|Ar<|Bs mixed<|Cc (e8 b1 [e7 (x.u),e7<|x.v] 105::I) 8<|Dr 0 C (Ai C)<|Dr 1 C (Ai C)<|Dr 2 C (Ai C)<|Dr 3 C (A3 (α:=Pt) (xs:=xs) A6 ty105 C C (A8 hl) om om)<|Dr 4 C (Bv (α:=Pt) (xs:=xs) ty105 C (A8 hl) om om)<|Dr 5 C (Bc (vs:=[_,_]) ty105) ?_)
  refine Ds1 6<|Se C (Cx M.1 (first:=[]) (caps:=Z) C C C<|M.2 (e_ xs<|((i:Int)+(j:Int)) / 2) x _ Ax) ?_
  rintro _ _ ⟨_,_,⟨rfl,rfl⟩,rfl,rfl⟩
  refine ⟨Bg,?_⟩
  refine Dr 7 C (A9 C C)<|Dz<|Ah<|Ap (S8 31 11 0 2 4 8 9 10)<|A7 C (λaa=>?_)<|λaa=>?_
  ·exact Ay<|Gm C<|Gr (Rad C C)<|Ga C<|Bj<|Am<|Cb (((i+j) / 2+1),(j))<|by dsimp only;exact ⟨om,om,(λ_=>by rw [show (((i+j) / 2+1:Nat):Int) - 1=((i:Int)+(j:Int)) / 2 by omega];exact aa),ad⟩
  exact Ay<|Gm C<|Ga C<|Bj<|Am<|Cb ((i),((i+j) / 2))<|by dsimp only;exact ⟨om,om,ae,(λ_=>by rw [show (((i+j) / 2:Nat):Int)=((i:Int)+(j:Int)) / 2 by omega];exact aa)⟩
 refine Bt<|Aq<|Aq<|Bb<|Ah<|Ar<|Bs mixed<|Cc (e8 b1 [e7 (x.u),e7<|x.v] 105::I) 16<|Dr 0 C (Ai C)<|Dr 1 C (Ai C)<|Dr 2 C (Ai C)<|Dr 3 C (A9 C C)<|Dr 4 C (Ai C)<|Dw (d:=39) C (λai=>?_)<|λai=>?_
 ·refine Dro 5 C (Ai C) (Dro 6 C (Ai C)<|Dro 7 C (Ai C)<|Dro 8 C (A3 (α:=Pt) (xs:=xs) A6 ty105 C C (A8 hl) om om)<|Dro 9 C (Bv (α:=Pt) (xs:=xs) ty105 C (A8 hl) om om)<|Dro 10 C (Bc (vs:=[_,_]) ty105) ?_)
  refine Ds1 11<|Se C (Cx M.1 (first:=[]) (caps:=Z) C C C<|M.2 (e_ xs i) x _ Ax) ?_
  rintro _ _ ⟨_,_,⟨rfl,rfl⟩,rfl,rfl⟩
  refine ⟨Bg,?_⟩
  refine Dro 12 C (Br C C)<|Dr 13 C (Av C C)<|Dr 14 C (Bf C)<|Dr 15 C (Bf C)<|Dz<|Ah<|Ap (S2 7 6)<|Az ?_
  have ab:i=j:=by omega
  subst ab
  exact C2 C C C I Ax ⟨i,_,rfl,⟨hj,ae,ad,(decide_eq_decide.2 ⟨λh=>⟨by omega,h⟩,λh=>h.2⟩)⟩,rfl⟩
 refine Dpo 5 C<|Dpo 6 C<|Dpo 7 C<|Dpo 8 C<|Dpo 9 C<|Dpo 10 C<|Dpo 11 C<|Dpo 12 C<|Dr 13 C (Au C C)<|Dr 14 C (Bf C)<|Dr 15 C (Bf C)<|Dz<|Ah<|Ap (S2 7 6)<|Az ?_
 have ab:i=j:=by omega
 subst ab
 exact C2 C C C I Ax ⟨i,_,rfl,⟨hj,ae,ad,((decide_eq_false<|λh=>by omega).symm)⟩,rfl⟩
variable {κ:Ctx}{I:List Item}
theorem CheckGen_ok(Z:Sl κ I v es):eu prog κ 86 [.agg #[e7 nd,v]] I (λr J=>r=e7 (checkG nd es)/\I=J):=by
 refine B5 Z.le λai=>?_
 refine Ce1 Tryz.func86 C C ?_
 refine Ad<|Ge1 (Bd (cs:=[_,_]) C C C) λb1=>Ga C<|Ac<|Ar<|Ad<|Gf fld38_0 C<|Gl ef ?_
 refine Gr (A9 C C)<|Gm C<|Bh (d:=8) C (λg8=>?_)<|λg8=>?_
 ·exact eb<|eb<|eb<|Gr (Av C C)<|Ac<|Cu C<|Ad<|Ga C<|Ac<|Az<|Ao<|A1 C C I Ax ⟨by rw [show checkG nd es=1 from (by unfold checkG;rw [if_pos om])],rfl⟩
 refine e9 (Ab fld38_0 C)<|e9 (A0 ef) ?_
 refine e9 (B2 C C)<|Gr (Au C C)<|Ac<|A7 C (λc12=>?_)<|λc12=>?_
 ·exact Ad<|Ga C<|Ac<|Az<|Ao<|A1 C C I Ax ⟨by rw [show checkG nd es=1 from (by unfold checkG;rw [if_pos om])],rfl⟩
 refine Aw<|Ah<|Ar<|Ad<|Gf fld38_1 C<|Gl ty36 ?_
 refine Gr (Bw (α:=Pt) (xs:=es) A6 C<|A8 Z)<|Gm C<|Ac<|Ap (S4 16 15 14 1)<|A5<|B1 (σ:=Nat) (λs=>([(1,pt b1),(14,v),(15,e7 ((es.length:Nat):Int)),(16,e7 ((s:Nat):Int))]:Env)) (λs=>e8 b1 [e7 nd,v] 38::I) (λs=>(s<=es.length)/\(checkG nd es=scanL (badE nd) Pt.lt (prevAt es s) (es.drop s))) (λs=>es.length - s) 0 (show ((0:Nat)<=es.length)/\(checkG nd es=scanL (badE nd) Pt.lt (prevAt es (0:Nat)) (es.drop (0:Nat))) from ⟨om,(by unfold checkG;rw [if_neg om];rfl)⟩) (cx2<|Aa C<|Aa Cd Bp) (show Fit κ _ (e8 b1 [e7 nd,v] 38::I) from Bg) ?_
 rintro k hp
 obtain ⟨hk,hs⟩:=hp
 refine Ad<|Gr (A9 C C)<|Ac<|Ar<|A7 C (λad=>?_)<|λad=>?_
 ·refine Aw (Ah<|Ar<|A5<|Ad<|Gm C<|Gr (A3 (α:=Pt) (xs:=es) A6 ty105 C C (A8 Z) om om)<|Gr (Bv (α:=Pt) (xs:=es) ty105 C (A8 Z) om om)<|Ge1 (A4 ty105 C) λb2=>Ga C<|Ge0 (Cz ty105) ?_)
  refine Ac<|A5<|Ad<|Gf fld105_0 C<|Gl ef ?_
  refine Gr (A9 C C)<|Gm C<|Bh (d:=25) C (λaa=>?_)<|λaa=>?_
  ·exact eb<|eb<|eb<|eb<|eb<|Gr (Av C C)<|Gm C<|eb<|eb<|eb<|eb<|eb<|Gr (Av C C)<|Ga C<|Ac<|Ap (S7 21 3 4 1 14 15 16)<|Cu C<|Ad<|Ga C<|Ac<|Az<|Ba<|Ba<|Ao<|Ao<|Ba<|Ao<|A1 C C I Ax ⟨by rw [show checkG nd es=6 from (hs.trans<|(Di om<|by unfold badE;rw [if_pos om];decide).trans (by unfold badE;rw [if_pos om]))],rfl⟩
  refine e9 (Ab fld105_0 C)<|e9 (A0 ef) ?_
  refine e9 (Ab fld105_1 C)<|e9 (A0 ef) ?_
  refine e9 (Cv C C)<|Gr (Au C C)<|Gm C<|Bh (d:=32) C (λah=>?_)<|λah=>?_
  ·exact eb<|eb<|eb<|eb<|eb<|Gr (Av C C)<|Ga C<|Ac<|Ap (S7 21 3 4 1 14 15 16)<|Cu C<|Ad<|Ga C<|Ac<|Az<|Ba<|Ba<|Ao<|Ao<|Ba<|Ao<|A1 C C I Ax ⟨by rw [show checkG nd es=6 from (hs.trans<|(Di om<|by unfold badE;rw [if_pos om];decide).trans (by unfold badE;rw [if_pos om]))],rfl⟩
  refine e9 (Ab fld105_1 C)<|e9 (A0 ef) ?_
  refine e9 (Ab fld38_0 C)<|e9 (A0 ef) ?_
  refine e9 (Cv C C)<|Gr (Au C C)<|Ga C<|Ac<|Ap (S7 21 3 4 1 14 15 16)<|A7 C (λab=>?_)<|λab=>?_
  ·exact Ad<|Ga C<|Ac<|Az<|Ba<|Ba<|Ao<|Ao<|Ba<|Ao<|A1 C C I Ax ⟨by rw [show checkG nd es=6 from (hs.trans<|(Di om<|by unfold badE;rw [if_pos om];decide).trans (by unfold badE;rw [if_pos om]))],rfl⟩
  refine Ar<|Bs mixed<|Cc (e8 b2 [e7 ((e_ es k).u),e7<|(e_ es k).v] 105::e8 b1 [e7 nd,v] 38::I) 14<|Dr 0 C (Ai C)<|Dr 1 C (B2 C C)<|Dr 2 C (Ai C)<|Dw (d:=42) C (λae=>?_)<|λae=>?_
  ·refine Dro 3 C (Ab fld38_1 C) (Dro 4 C (A0 ty36) ?_)
   refine Dro 5 C (Ai C)<|Dro 6 C (Rsu C C)<|Dro 7 C (A3 (α:=Pt) (xs:=es) A6 ty105 C C (A8 Z) om om)<|Dro 8 C (Bv (α:=Pt) (xs:=es) ty105 C (A8 Z) om om)<|Dro 9 C (Bc (vs:=[_,_]) ty105) ?_
   refine Ds1 10<|Se C (Aj c_ C C<|Order_ok (e_ es<|(k:Int) - 1)<|e_ es k) ?_
   rintro _ _ ⟨_,_,⟨rfl,rfl⟩,rfl,rfl⟩
   refine ⟨Ax,?_⟩
   refine Dro 11 C (Cv C C)<|Dr 12 C (Av C C)<|Dr 13 C (Bf C)<|Dz<|Ah<|Ap (S5 39 1 14 15 16)<|A7 C (λM=>?_)<|λM=>?_
   ·exact Ad<|Ga C<|Ac<|Az<|Ba<|Ba<|Ao<|Ao<|Ba<|Ao<|A1 C C I Ax ⟨by rw [show checkG nd es=5 from (hs.trans<|scanL_order om (badE_zero.2 om) om (λh=>by have:=(Pt.cmp_lt _ _).2 h;omega))],rfl⟩
   exact Aw<|Am<|Am<|Ah<|Ay<|Gr (Rad C C)<|Gm C<|Bj<|Cb ((k+1)) ⟨om,(hs.trans<|Fj om (badE_zero.2 om)<|λh0=>by first|omega|exact (Pt.cmp_lt _ _).1 om)⟩
  exact Dpo 3 C<|Dpo 4 C<|Dpo 5 C<|Dpo 6 C<|Dpo 7 C<|Dpo 8 C<|Dpo 9 C<|Dpo 10 C<|Dpo 11 C<|Dr 12 C (Au C C)<|Dr 13 C (Bf C)<|Dz<|Ah<|Ap (S5 39 1 14 15 16)<|Dg C<|Aw<|Am<|Am<|Ah<|Ay<|Gr (Rad C C)<|Gm C<|Bj<|Cb ((k+1)) ⟨om,(hs.trans<|Fj om (badE_zero.2 om)<|λh0=>by first|omega|exact (Pt.cmp_lt _ _).1 om)⟩
 exact Bt<|Aq<|Aq<|Bb<|Ah<|Ad<|Ga C<|Ac<|Az<|A1 C C I Ax ⟨by rw [show checkG nd es=0 from (hs.trans<|scanL_end om)],rfl⟩
theorem Ends_ok(nd u v:Int):eu prog κ 267 [e7 nd,e7 u,e7 v] I (λr J=>r = .bool (decide (endsP nd u v))/\I=J):=by
 have aa:((if v<u then v else u)<=u/\(if v<u then v else u)<=v/\((if v<u then v else u)=u\/(if v<u then v else u)=v))/\(u<=(if u<v then v else u)/\v<=(if u<v then v else u)/\((if u<v then v else u)=u\/(if u<v then v else u)=v)):=by refine ⟨⟨?_,?_,?_⟩,⟨?_,?_,?_⟩⟩<;>split<;>omega
 refine Ce3 Tryz.func267 C C ?_
 refine Ad<|Ga C<|Ac<|Ad<|Gm C<|Gm C<|Gr (Be C C)<|Gm C<|Bh (d:=10) C (λZ=>?_)<|λZ=>?_
 ·refine e9 (Ai C) (e9 (Ai C)<|e9 (Es C C)<|e9 (Cv C C)<|Gr (Av C C)<|Gm C<|Bh (d:=16) C (λM=>?_)<|λM=>?_)
  ·exact e9 (Ai C)<|e9 (Ai C)<|e9 (Dm C C)<|e9 (Ai C)<|e9 (A9 C C)<|Gr (Av C C)<|Ga C<|Ac<|Ap (S1 6)<|Az<|A1 C C I Ax ⟨(by first|exact congrArg Value.bool (decide_eq_decide.2<|by unfold endsP;omega)|exact congrArg Value.bool (decide_eq_true<|by unfold endsP;omega).symm|exact congrArg Value.bool (decide_eq_false<|by unfold endsP;omega).symm),rfl⟩
  exact eb<|eb<|eb<|eb<|eb<|Gr (Au C C)<|Ga C<|Ac<|Ap (S1 6)<|Az<|A1 C C I Ax ⟨(by first|exact congrArg Value.bool (decide_eq_decide.2<|by unfold endsP;omega)|exact congrArg Value.bool (decide_eq_true<|by unfold endsP;omega).symm|exact congrArg Value.bool (decide_eq_false<|by unfold endsP;omega).symm),rfl⟩
 exact eb<|eb<|eb<|eb<|Gr (Au C C)<|Gm C<|eb<|eb<|eb<|eb<|eb<|Gr (Au C C)<|Ga C<|Ac<|Ap (S1 6)<|Az<|A1 C C I Ax ⟨(by first|exact congrArg Value.bool (decide_eq_decide.2<|by unfold endsP;omega)|exact congrArg Value.bool (decide_eq_true<|by unfold endsP;omega).symm|exact congrArg Value.bool (decide_eq_false<|by unfold endsP;omega).symm),rfl⟩
theorem EdgeG_ok(u v:Int):eu prog κ 188 [e7 u,e7 v] I (λr J=>r = .agg #[e7 (edgeP u v).u,e7 (edgeP u v).v]/\I=J):=by
 refine Ce2 Tryz.func188 C C ?_
 refine Ad<|Ge1 (A4 ty105 C) λb1=>Ac<|Ad<|Gm C<|Gm C<|Gr (Es C C)<|Gm C<|Gm C<|Gr (Dm C C)<|Gr (Bq (cells:=[_,_]) ty105 Ds pl105 C C)<|Ge0 (Cz ty105) ?_
 exact Ac<|Az<|Ez C ty105 C mm C I Ax ⟨rfl,rfl⟩
theorem Change_ok(M:Sl κ I va es)(u v:Int):eu prog κ 268 [.agg #[e7 nd,va],e7 u,e7 v] I (λr J=>r=e7 (changeG nd es u v)/\I=J):=by
 refine Ce3 Tryz.func268 C C ?_
 refine Ad<|Ge1 (Bd (cs:=[_,_]) C C C) λb1=>Ga C<|Ac<|Ar<|Ad<|Gl2 ty38 ?_
 refine Gc0 (Aj c_ C C<|CheckGen_ok<|A8 M) ?_
 refine Ga C<|Ac<|Ad<|Gm C<|Gr (Be C C)<|Ac<|A7 C (λc11=>?_)<|λc11=>?_
 ·exact Ad<|Gm C<|Ga C<|Ac<|Az<|Ao<|A1 C C I Ax ⟨by unfold changeG;rw [if_pos om],rfl⟩
 refine Aw<|Ah<|Ar<|Ad<|Gf fld38_0 C<|Gl ef ?_
 refine Gm C<|Gm C<|Gc0 (Aj c_ C C<|Ends_ok nd u v) ?_
 refine Gr (Dc C)<|Ac<|Ap (S1 18)<|A7 C (λZ=>?_)<|λZ=>?_
 ·exact Ad<|Ga C<|Ac<|Az<|Ao<|A1 C C I Ax ⟨by unfold changeG;rw [if_neg om,if_neg asm],rfl⟩
 exact Aw<|Ah<|Ad<|Ga C<|Ac<|Az<|A1 C C I Ax ⟨by unfold changeG;rw [if_neg om,if_pos<|Classical.not_not.1 asm],rfl⟩
theorem Order_cmps:Cmps prog κ I 131 [] Pt.cmp:=⟨c_,λx y J Z=>Order_ok x y⟩
theorem Place_ok(Z:Sl κ I va es)(u v:Int)(hb:es.length<=1000000000):eu prog κ 172 [.agg #[e7 nd,va],e7 u,e7 v] I (λr J=>∃i q,r = .tuple #[e7 ((i:Nat):Int),.bool (decide (i<es.length/\e_ es ((i:Nat):Int)=(edgeP u v)))]/\BFound Pt.cmp es (edgeP u v) i q/\I=J):=by
 refine B5 Z.le λab=>?_
 refine Ce3 Tryz.func172 C C ?_
 refine Ad<|Ge1 (Bd (cs:=[_,_]) C C C) λb1=>Ga C<|Ga C<|Ac<|Ad<|Gm C<|Gm C<|Gc0 (Aj c_ C C<|EdgeG_ok u v) ?_
 refine Ge1 (A4 ty105 C) λb2=>Ge0 (Cz ty105) ?_
 refine Ac<|Ad<|Gf fld38_1 C<|Gl ty36 ?_
 refine Gl2 ty105 ?_
 refine G.e (Aj c_ C C<|BSearchE (A8 Z) (edgeP u v) Order_cmps om) ?_
 rintro _ _ ⟨_,_,⟨M,q4,rfl,hi3,rfl⟩,rfl,rfl⟩
 refine Gm C<|Gr (Ak C C)<|Gr (Ak C C)<|Ga C<|Ga C<|Ac<|Ap (S3 9 8 3)<|Ar<|Bs mixed<|Cc (e8 b2 [e7 ((edgeP u v).u),e7<|(edgeP u v).v] 105::e8 b1 [e7 nd,va] 38::I) 17<|Dr 0 C (Ai C)<|Dr 1 C (Ai C)<|Dr 2 C (Ab fld38_1 C)<|Dr 3 C (A0 ty36) ?_
 refine Dr 4 C (Bw (α:=Pt) (xs:=es) A6 C<|A8 Z)<|Dr 5 C (A9 C C)<|Dr 6 C (Ai C)<|Dw (d:=27) C (λaa=>?_)<|λaa=>?_
 ·refine Dro 7 C (Ab fld38_1 C) (Dro 8 C (A0 ty36) ?_)
  refine Dro 9 C (Ai C)<|Dro 10 C (A3 (α:=Pt) (xs:=es) A6 ty105 C C (A8 Z) om om)<|Dro 11 C (Bv (α:=Pt) (xs:=es) ty105 C (A8 Z) om om)<|Dro 12 C (Bc (vs:=[_,_]) ty105) ?_
  exact Dro 13 C (Runs.eqlT (α:=Pt) (a:=(e_ es M)) (b:=(edgeP u v)) eqt105 C C)<|Dr 14 C (Av C C)<|Dr 15 C (Bf C)<|Dr 16 C (Bf C)<|Dz<|Ah<|Ap (S2 7 6)<|Az<|C2 C C C I Ax ⟨M,q4,congrArg (λb_=>Value.tuple #[e7 (M:Int),.bool b_])<|decide_eq_decide.2 ⟨λh=>⟨by omega,h⟩,λh=>h.2⟩,hi3,rfl⟩
 exact Dpo 7 C<|Dpo 8 C<|Dpo 9 C<|Dpo 10 C<|Dpo 11 C<|Dpo 12 C<|Dpo 13 C<|Dr 14 C (Au C C)<|Dr 15 C (Bf C)<|Dr 16 C (Bf C)<|Dz<|Ah<|Ap (S2 7 6)<|Az<|C2 C C C I Ax ⟨M,q4,congrArg (λb_=>Value.tuple #[e7 (M:Int),.bool b_]) (decide_eq_false<|λh=>by omega).symm,hi3,rfl⟩
theorem InsertE_two{va:Option Addr}{n m:Nat}{K:List Item}(hf:Fit κ I (vc 105 (.slice a n c) xs::vc 105 (.slice va m Z) ys::K))(hn:n=xs.length)(hm:m=ys.length)(hi:i<=xs.length)(hy:0<ys.length)(M:xs.length+ys.length<=1000000000):eu prog κ 269 [.slice a n c,e7 (i:Int),.slice va m Z] I (λr J=>∃a' c',r = .slice a' (List.take i xs++ys++List.drop i xs).length c'/\J=vk 105 a' c' (List.take i xs++ys++List.drop i xs)::K):=by
 subst hn hm
 exact Cp hf<|InsertE_ok hi hy M
theorem AddG_ok{nd:Int}{a0:Option Addr}{c0:Nat}{es:List Pt}(hl:Sl κ I (.slice a0 es.length c0) es)(u v:Int)(hb:es.length<=10000000):eu prog κ 261 [.agg #[e7 nd,.slice a0 es.length c0],e7 u,e7 v] I (λr J=>(addG nd es u v≠0/\r = .tuple #[.agg #[e7 0,.slice none 0 0],e7 (addG nd es u v)]/\I=J)\/(∃a c,addG nd es u v=0/\r = .tuple #[.agg #[e7 nd,.slice a (insB Pt.lt es (edgeP u v)).length c],e7 0]/\J=vc 105 (.slice a (insB Pt.lt es (edgeP u v)).length c) (insB Pt.lt es (edgeP u v))::I)):=by
 refine Ce3 Tryz.func261 C C ?_
 refine Ad (Ge1 (Bd (cs:=[_,_]) C C C) λb1=>Ge1 (A4 ty38 C) λb2=>Ga C (Ac (Ar (Ad (Gl2 ty38 ?_)))))
 refine Gm C (Gm C (Gc0 (Aj c_ C C (Change_ok (A8 hl) u v)) ?_))
 refine Ga C (Ac (Ad (Gm C (Gr (Be C C) (Ac (A7 C (λc16=>?_) (λc16=>?_)))))))
 ·refine Ad (Gr (Bq (cells:=[_,_]) ty38 Da pl38 C C) (Gm C (Ge0 (Cz ty38) ?_)))
  refine Ga C (Ac (Ap (S2 7 6 C C) (Az (Ao ?_))))
  have hz:addG nd es u v=changeG nd es u v:=by unfold addG;rw [if_pos om]
  exact C0 C ty38 C C mm C I Ax (.inl ⟨by rw [hz];omega,by rw [hz],rfl⟩)
 refine Aw (Ah (Ad (Gl2 ty38 ?_)))
 refine Gm C (Gm C (G.e (Aj c_ C C (Place_ok (A8 hl) u v om)) ?_))
 rintro _ _ ⟨_,_,⟨i3,q4,rfl,hi3,rfl⟩,rfl,rfl⟩
 have hG:=(changeG_zero.1 (by omega:changeG nd es u v=0)).1
 have hile:=hi3.le
 refine Gm C (Gr (Ak C C) (Gr (Ak C C) (Ga C (Ga C (Ac (Ap (S6 10 9 6 3 1 2 C C C C C C) (Ar (Ad (Gm C (Ac (A7 C (λc26=>?_) (λc26=>?_))))))))))))
 ·refine Ad (Gr (Bq (cells:=[_,_]) ty38 Da pl38 C C) (Ge0 (Cz ty38) ?_))
  refine Ga C (Ac (Az (Ao ?_)))
  have hz:addG nd es u v=15:=by unfold addG;rw [if_neg om,if_pos ((hi3.mem hG.asc).1 c26)]
  exact C0 C ty38 C C mm C I Ax (.inl ⟨by rw [hz];decide,by rw [hz],rfl⟩)
 refine Aw (Ah (Ar (Bs mixed (Cc (e8 b2 [e7 0,.slice none 0 0] 38::e8 b1 [e7 nd,.slice a0 es.length c0] 38::I) 12 (Dr 0 C (Ab fld38_0 C) (Dr 1 C (A0 ef) ?_))))))
 refine Dr 2 C (Ab fld38_1 C) (Dr 3 C (A0 ty36) ?_)
 refine Dr 5 C (Ai C) (Dr 6 C (Ai C) (Dr 7 C (Ai C) (Ds1 4 (Sc2 C (Aj c_ C C (CloneE (xs:=es) (A8 hl) om)) λad5 cp6=>?_))))
 refine Ds1 8 (Sc0 C (Aj c_ C C (EdgeG_ok u v)) ?_)
 refine Ds1 9 (Se1 C (Ce (α:=Pt) (cs:=[_,_]) (xs:=[⟨(edgeP u v).u,(edgeP u v).v⟩]) A6 ty105 C C dc dc C C C C) λad7=>?_)
 refine Ds1 10 (Sc2 C (Aj c_ C C (InsertE_two (i:=i3) (xs:=es) (ys:=([⟨(edgeP u v).u,(edgeP u v).v⟩]:List Pt)) (show Fit κ _ (vc 105 (.slice ad5 es.length cp6) (es)::vc 105 (.slice ad7 1 1) (([⟨(edgeP u v).u,(edgeP u v).v⟩]:List Pt))::e8 b2 [e7 0,.slice none 0 0] 38::e8 b1 [e7 nd,.slice a0 es.length c0] 38::I) from Bl) C C om (by simp only [List.length_cons];omega) lcn)) λad8 cp9=>?_)
 show D prog κ _ _ _ _ _ _ _ ([(38,.slice ad8 (List.take i3 es++([⟨(edgeP u v).u,(edgeP u v).v⟩]:List Pt)++List.drop i3 es).length cp9),(37,.slice ad7 1 1),(36,.agg #[e7 ((edgeP u v).u),e7 ((edgeP u v).v)]),(32,.slice ad5 es.length cp6),(35,e7 v),(34,e7 u),(33,e7 ((i3:Int))),(31,.slice a0 es.length c0),(30,.pointer (some ⟨b1,1,none⟩)),(29,e7 nd),(28,.pointer (some ⟨b1,0,none⟩)),(26,.bool (decide (i3<es.length/\e_ es i3=edgeP u v))),(10,.bool (decide (i3<es.length/\e_ es i3=edgeP u v))),(9,e7 ((i3:Int))),(6,.pointer (some ⟨b2,0,none⟩)),(3,.pointer (some ⟨b1,0,none⟩)),(1,e7 u),(2,e7 v)]:Env) (vc 105 (.slice ad8 (List.take i3 es++([⟨(edgeP u v).u,(edgeP u v).v⟩]:List Pt)++List.drop i3 es).length cp9) (List.take i3 es++([⟨(edgeP u v).u,(edgeP u v).v⟩]:List Pt)++List.drop i3 es)::e8 b2 [e7 0,.slice none 0 0] 38::e8 b1 [e7 nd,.slice a0 es.length c0] 38::I)
 refine Dr 11 C (Bq (cells:=[_,_]) ty38 Da pl38 C C) (Cs kr ?_)
 refine Ae 12 C (Cz ty38) ?_
 rintro _ _ ⟨rfl,rfl⟩
 refine Dv (i:=13) kr C (Bm C) C C (Bf C) ?_
 refine Ct kr ?_
 refine Ah (Ap (S2 7 6 C C) (Az ?_))
 have hz:addG nd es u v=0:=by unfold addG;rw [if_neg om,if_neg (λhm=>c26 ((hi3.mem hG.asc).2 hm))]
 have hE:List.take i3 es++([⟨(edgeP u v).u,(edgeP u v).v⟩]:List Pt)++List.drop i3 es=(insB Pt.lt es (edgeP u v)):=hi3.ins hG.asc (λhm=>c26 ((hi3.mem hG.asc).2 hm))
 exact C0 C ty38 C C mm C (vc 105 (.slice ad8 (insB Pt.lt es (edgeP u v)).length cp9) (insB Pt.lt es (edgeP u v))::I) (by rw [←hE];exact Bg) (.inr ⟨ad8,cp9,hz,by rw [←hE];rfl,rfl⟩)
variable {κ:Ctx}{I:List Item}
theorem SameEdges_ok{vb:Value}(M:Sl κ I va xs)(hy:Sl κ I vb ys):eu prog κ 64 [va,vb] I (λr J=>r = .bool (decide (xs=ys))/\I=J):=by
 refine B5 M.le λab=>?_
 refine B5 hy.le λad=>?_
 refine Ce2 Tryz.func64 C C ?_
 refine Ad<|Ga C<|Ac<|Ar<|Ad<|Gm C<|Gr (Bw (α:=Pt) (xs:=xs) A6 C<|A8 M)<|Gm C<|Gr (Bw (α:=Pt) (xs:=ys) A6 C<|A8 hy)<|Gr (Be C C)<|Ac<|A7 C (λc10=>?_)<|λc10=>?_
 ·exact Ad<|Ga C<|Ac<|Az<|Ao<|A1 C C I Ax ⟨by rw [decide_eq_false (show ¬xs=ys from λe=>by first|(have e2:=congrArg List.length e;omega)|(have e3:=congrArg (λl=>e_ l k) e;exact absurd e3 asm))],rfl⟩
 refine Aw<|Ah<|Ar<|Ad<|Gm C<|Gr (Bw (α:=Pt) (xs:=xs) A6 C<|A8 M)<|Gm C<|Ac<|A5<|B1 (σ:=Nat) (λs=>([(0,va),(1,vb),(12,e7 ((xs.length:Nat):Int)),(13,e7 ((s:Nat):Int))]:Env)) (λs=>I) (λs=>(s<=xs.length)/\(∀j,j<s->e_ xs j=e_ ys j)) (λs=>xs.length - s) 0 (show ((0:Nat)<=xs.length)/\(∀j,j<(0:Nat)->e_ xs j=e_ ys j) from ⟨om,all_zero⟩) (cx2<|Aa C<|Aa Cd Bp) (show Fit κ _ I from Bg) ?_
 rintro k hp
 obtain ⟨hk,hn⟩:=hp
 refine Ad<|Gr (A9 C C)<|Ac<|Ar<|A7 C (λaa=>?_)<|λaa=>?_
 ·refine Aw (Ah<|Ar<|A5<|Ad<|Gm C<|Ga C<|Ac<|Ar<|Bs mixed<|Cc I 9<|Dr 0 C (Ai C)<|Dr 1 C (Ai C)<|Dr 2 C (A3 (α:=Pt) (xs:=xs) A6 ty105 C C (A8 M) om om)<|Dr 3 C (Bv (α:=Pt) (xs:=xs) ty105 C (A8 M) om om)<|Dr 4 C (Ai C)<|Dr 5 C (Ai C)<|Dr 6 C (A3 (α:=Pt) (xs:=ys) A6 ty105 C C (A8 hy) om om)<|Dr 7 C (Bv (α:=Pt) (xs:=ys) ty105 C (A8 hy) om om)<|Dr 8 C (Runs.neqT (α:=Pt) (a:=(e_ xs k)) (b:=(e_ ys k)) eqt105 C C)<|Dz<|Ah<|Ap (S5 24 0 1 12 13)<|A7 C (λZ=>?_)<|λZ=>?_)
  ·exact Ad<|Ga C<|Ac<|Az<|Ba<|Ao<|Ao<|Ba<|Ao<|A1 C C I Ax ⟨by rw [decide_eq_false (show ¬xs=ys from λe=>by first|(have e2:=congrArg List.length e;omega)|(have e3:=congrArg (λl=>e_ l k) e;exact absurd e3 asm))],rfl⟩
  exact Aw<|Am<|Ah<|Ay<|Gr (Rad C C)<|Gm C<|Bj<|Cb ((k+1)) ⟨om,(Eh hn<|Classical.not_not.1 Z)⟩
 exact Bt<|Aq<|Aq<|Bb<|Ah<|Ad<|Ga C<|Ac<|Az<|A1 C C I Ax ⟨by rw [decide_eq_true (show xs=ys from ext_at om (λj hj=>hn j om))],rfl⟩
theorem Same03_ok{n m:Int}{M:Value}(hx:Sl κ I va xs)(hy:Sl κ I M ys):eu prog κ 24 [.agg #[e7 n,va],.agg #[e7 m,M]] I (λr J=>r = .bool (decide (n=m/\xs=ys))/\I=J):=by
 refine Ce2 Tryz.func24 C C ?_
 refine Ad<|Ge1 (Bd (cs:=[_,_]) C C C) λb1=>Ge1 (Bd (cs:=[_,_]) C C C) λb2=>Ga C<|Ac<|Ad<|Gf fld38_0 C<|Gl ef ?_
 refine Gf fld38_0 C<|Gl ef ?_
 refine Gr (Br C C)<|Gm C<|Bh (d:=10) C (λZ=>?_)<|λZ=>?_
 ·refine e9 (Ab fld38_1 C) (e9 (A0 ty36) ?_)
  refine e9 (Ab fld38_1 C)<|e9 (A0 ty36) ?_
  refine Dx (Cq C C C) (Aj c_ C C<|SameEdges_ok (A8 hx)<|A8 hy) ?_
  rintro _ _ ⟨_,_,⟨rfl,rfl⟩,rfl,rfl⟩
  exact Gr (Av C C)<|Ga C<|Ac<|Ap (S1 4)<|Az<|A1 C C I Ax ⟨congrArg Value.bool<|decide_eq_decide.2 ⟨λh=>⟨by assumption,h⟩,λh=>h.2⟩,rfl⟩
 exact eb<|eb<|eb<|eb<|eb<|Gr (Au C C)<|Ga C<|Ac<|Ap (S1 4)<|Az<|A1 C C I Ax ⟨congrArg Value.bool (decide_eq_false (λh=>by have:=h.1;omega)).symm,rfl⟩
variable {κ:Ctx}{I:List Item}
def bitB(v:Int):BitVec 64:=if v<0\/64<=v then 0#64 else 1#64 <<< v.toNat
def maskB(l:List Int):BitVec 64:=l.foldl (λm v=>m ||| bitB v) 0#64
def allB(n:Int):BitVec 64:=if n<=0 then 0#64 else if 64<=n then 18446744073709551615#64 else (1#64 <<< n.toNat) - 1#64
def ones1(m:BitVec 64):BitVec 64:=((m >>> (1:Int).toNat) &&& 6148914691236517205#64)+(m &&& 6148914691236517205#64)
def ones2(m:BitVec 64):BitVec 64:=((m >>> (2:Int).toNat) &&& 3689348814741910323#64)+(m &&& 3689348814741910323#64)
def ones3(m:BitVec 64):BitVec 64:=((m >>> (4:Int).toNat)+m) &&& 1085102592571150095#64
def ones4(m:BitVec 64):BitVec 64:=m+(m >>> (8:Int).toNat)
def ones5(m:BitVec 64):BitVec 64:=m+(m >>> (16:Int).toNat)
def ones6(m:BitVec 64):BitVec 64:=m+(m >>> (32:Int).toNat)
def onesB(m:BitVec 64):Int:=((ones6 (ones5 (ones4 (ones3 (ones2 (ones1 m)))))).toNat:Int) % 128
theorem ones_small(m:BitVec 64):(ones6 (ones5 (ones4 (ones3 m)))).toNat<9223372036854775808:=by
 have M:(ones3 m).toNat<=1085102592571150095:=by unfold ones3;rw [BitVec.toNat_and];exact Nat.and_le_right
 generalize ones3 m=a at M
 have h4:(ones4 a).toNat<=a.toNat+a.toNat / 256:=by
  unfold ones4;rw [BitVec.toNat_add,BitVec.toNat_ushiftRight,Nat.shiftRight_eq_div_pow,show 2 ^ (8:Int).toNat=256 by decide];exact Nat.mod_le _ _
 generalize ones4 a=b at h4
 have Z:(ones5 b).toNat<=b.toNat+b.toNat / 65536:=by
  unfold ones5;rw [BitVec.toNat_add,BitVec.toNat_ushiftRight,Nat.shiftRight_eq_div_pow,show 2 ^ (16:Int).toNat=65536 by decide];exact Nat.mod_le _ _
 generalize ones5 b=c at Z
 have h6:(ones6 c).toNat<=c.toNat+c.toNat / 4294967296:=by
  unfold ones6;rw [BitVec.toNat_add,BitVec.toNat_ushiftRight,Nat.shiftRight_eq_div_pow,show 2 ^ (32:Int).toNat=4294967296 by decide];exact Nat.mod_le _ _
 omega
theorem Bit_ok(v:Int):eu prog κ 156 [e7 v] I (λr J=>r=U64 (bitB v)/\I=J):=by
 refine Ce1 Tryz.func156 C C ?_
 refine Ad<|Ga C<|Ac<|Ar<|Ad<|Gm C<|Gr (A9 C C)<|Gm C<|Bh (d:=5) C (λZ=>?_)<|λZ=>?_
 ·exact eb<|eb<|Gr (Av C C)<|Ac<|Cu C<|Ad<|Ga C<|Ac<|Az<|Ao<|A1 C C I Ax ⟨by unfold bitB;rw [if_pos om];rfl,rfl⟩
 refine e9 (Ai C)<|e9 (Cv C C)<|Gr (Au C C)<|Ac<|A7 C (λM=>?_)<|λM=>?_
 ·exact Ad<|Ga C<|Ac<|Az<|Ao<|A1 C C I Ax ⟨by unfold bitB;rw [if_pos om];rfl,rfl⟩
 exact Aw<|Ah<|Ad<|Gm C<|Gr (Runs.shlB (a:=1#64) C C om om)<|Ga C<|Ac<|Az<|A1 C C I Ax ⟨by unfold bitB;rw [if_neg om],rfl⟩
theorem MaskAll_ok(n:Int):eu prog κ 157 [e7 n] I (λr J=>r=U64 (allB n)/\I=J):=by
 refine Ce1 Tryz.func157 C C ?_
 refine Ad<|Ga C<|Ac<|Ar<|A5<|Ad<|Gm C<|Gr (Ej C C)<|Ga C<|Ac<|A7 C (λZ=>?_)<|λZ=>?_
 ·exact Ad<|Ga C<|Ac<|Az<|Ba<|Ao<|A1 C C I Ax ⟨by unfold allB;rw [if_pos om];rfl,rfl⟩
 refine Ad<|Gm C<|Gr (Cv C C)<|Ga C<|Ac<|A7 C (λM=>?_)<|λM=>?_
 ·exact Ad<|Ga C<|Ac<|Az<|Ba<|Ao<|A1 C C I Ax ⟨by unfold allB;rw [if_neg om,if_pos om];rfl,rfl⟩
 exact Aw<|Am<|Ah<|Ad<|Gm C<|Gr (Runs.shlB (a:=1#64) C C om om)<|Gr (Runs.subB (a:=(1#64) <<< (n).toNat) (b:=1#64) C C)<|Ga C<|Ac<|Az<|A1 C C I Ax ⟨by unfold allB;rw [if_neg om,if_neg om],rfl⟩
theorem OnesCount_ok(m:BitVec 64):eu prog κ 176 [U64 m] I (λr J=>r=e7 (onesB m)/\I=J):=by
 refine Ce1 Tryz.func176 C C ?_
 refine Ad<|Ga C<|Ac<|Ad<|Gm C<|Gr (Ff (a:=m) C C om om)<|Gr (Ek (a:=m >>> (1:Int).toNat) (b:=6148914691236517205#64) C C)<|Gm C<|Gr (Ek (a:=m) (b:=6148914691236517205#64) C C)<|Gr (Runs.addB (a:=(m >>> (1:Int).toNat) &&& (6148914691236517205#64)) (b:=m &&& (6148914691236517205#64)) C C)<|Ga C ?_
 generalize hm1:((m >>> (1:Int).toNat) &&& (6148914691236517205#64))+(m &&& (6148914691236517205#64))=m1
 refine Ac<|Ad<|Gm C<|Gr (Ff (a:=m1) C C om om)<|Gr (Ek (a:=m1 >>> (2:Int).toNat) (b:=3689348814741910323#64) C C)<|Gm C<|Gr (Ek (a:=m1) (b:=3689348814741910323#64) C C)<|Gr (Runs.addB (a:=(m1 >>> (2:Int).toNat) &&& (3689348814741910323#64)) (b:=m1 &&& (3689348814741910323#64)) C C)<|Ga C ?_
 generalize hm2:((m1 >>> (2:Int).toNat) &&& (3689348814741910323#64))+(m1 &&& (3689348814741910323#64))=m2
 refine Ac<|Ap (S1 0)<|Ad<|Gm C<|Gr (Ff (a:=m2) C C om om)<|Gm C<|Gr (Runs.addB (a:=m2 >>> (4:Int).toNat) (b:=m2) C C)<|Gr (Ek (a:=(m2 >>> (4:Int).toNat)+m2) (b:=1085102592571150095#64) C C)<|Ga C ?_
 generalize hm3:((m2 >>> (4:Int).toNat)+m2) &&& (1085102592571150095#64)=m3
 refine Ac<|Ad<|Gm C<|Gm C<|Gr (Ff (a:=m3) C C om om)<|Gr (Runs.addB (a:=m3) (b:=m3 >>> (8:Int).toNat) C C)<|Ga C ?_
 generalize hm4:m3+(m3 >>> (8:Int).toNat)=m4
 refine Ac<|Ad<|Gm C<|Gm C<|Gr (Ff (a:=m4) C C om om)<|Gr (Runs.addB (a:=m4) (b:=m4 >>> (16:Int).toNat) C C)<|Ga C ?_
 generalize hm5:m4+(m4 >>> (16:Int).toNat)=m5
 refine Ac<|Ap (S1 0)<|Ad<|Gm C<|Gm C<|Gr (Ff (a:=m5) C C om om)<|Gr (Runs.addB (a:=m5) (b:=m5 >>> (32:Int).toNat) C C)<|Ga C ?_
 generalize hm6:m5+(m5 >>> (32:Int).toNat)=m6
 exact Ac<|Ad<|Gm C<|Gr (Runs.toI Tryz.underlying207 Ci C<|by subst hm6 hm5 hm4 hm3;exact ones_small _)<|Gr (Runs.and127 C C om)<|Ga C<|Ac<|Az<|A1 C C I Ax ⟨by subst hm6 hm5 hm4 hm3 hm2 hm1;rfl,rfl⟩
theorem MCount_ok(m:BitVec 64):eu prog κ 155 [U64 m] I (λr J=>r=e7 (onesB m)/\I=J):=by
 refine Ce1 Tryz.func155 C C ?_
 refine Ad<|Ga C<|Ac<|Ad<|Gm C<|Gc0 (Aj c_ C C<|OnesCount_ok m) ?_
 exact Ga C<|Ac<|Az<|A1 C C I Ax ⟨rfl,rfl⟩
theorem bitB_two{v:Int}(Z:0<=v)(M:v<64):bitB v=BitVec.twoPow 64 v.toNat:=by
 unfold bitB;rw [if_neg om];rfl
theorem getLsb_bitB{v:Int}(hi:i<64):(bitB v).getLsbD i=decide (v=(i:Int)):=by
 by_cases h:0<=v/\v<64
 ·rw [bitB_two h.1 h.2,BitVec.getLsbD_twoPow]
  have e:(v.toNat=i)↔(v=(i:Int)):=by omega
  simp [hi,h,e]
 unfold bitB
 rw [if_pos om]
 have:¬v=(i:Int):=by omega
 simp [this]
theorem getLsb_maskB(hi:i<64):∀(l:List Int) (m:BitVec 64),(l.foldl (λm v=>m ||| bitB v) m).getLsbD i=(m.getLsbD i||decide ((i:Int)∈l))
 |[],m=>by simp
 |v::l,m=>by
  rw [List.foldl_cons,getLsb_maskB hi l,BitVec.getLsbD_or,getLsb_bitB hi]
  by_cases h1:v=(i:Int)
  ·simp [h1]
  have:¬(i:Int)=v:=λe=>h1 e.symm
  simp [h1,this]
end Go.Sl
