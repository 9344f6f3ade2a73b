/- A part of the proofs of statements of this seat: contracts of functions, and the plain laws that they lean on. No conditions. -/
import Derived.Test.YtoagcglbkeomgaaGreatDoorS5
import Derived.Shelf.SlSortCmp.NoneTotal
import Derived.Shelf.SlSortCmp.WholeK
set_option linter.unusedVariables false
set_option linter.unusedSimpArgs false
set_option linter.unusedSectionVars false
open Go.Proofs.Tryz (prog)
namespace Go.Sl
open Go.Proofs
set_option maxRecDepth 4000
variable{u v:Value}{xs ys:List Int}
variable {κ:Ctx}{I:List Item}
def cmpL:List Int->List Int->Int
 |[],[]=>0
 |[],_::_=> -1
 |_::_,[]=>1
 |x::xs,y::ys=>if y<x then 1 else if x<y then -1 else cmpL xs ys
theorem cmpL_eq:∀xs ys,cmpL xs ys=0↔xs=ys
 |[],[]=>by simp [cmpL]
 |[],_::_=>by simp [cmpL]
 |_::_,[]=>by simp [cmpL]
 |x::xs,y::ys=>by
  simp only [cmpL]
  split
  ·simp;omega
  split
  ·simp;omega
  rw [cmpL_eq xs ys]
  have:x=y:=by omega
  simp [this]
theorem cmpL_drop(xs ys:List Int)(k:Nat)(hx:k<xs.length)(Z:k<ys.length)(h1:¬e_ ys k<e_ xs k)(M:¬e_ xs k<e_ ys k):cmpL (xs.drop k) (ys.drop k)=cmpL (xs.drop (k+1)) (ys.drop (k+1)):=by
 rw [Dt xs k hx,Dt ys k Z]
 simp only [cmpL]
 rw [if_neg h1,if_neg M]
theorem cmpL_drop1(xs ys:List Int)(k:Nat)(M:k<xs.length)(h:ys.length<=k\/(k<ys.length/\e_ ys k<e_ xs k)):cmpL (xs.drop k) (ys.drop k)=1:=by
 rw [Dt xs k M]
 rcases h with h|⟨Z,h⟩
 ·rw [List.drop_eq_nil_of_le h];rfl
 rw [Dt ys k Z];simp only [cmpL];rw [if_pos h]
theorem cmpL_dropn(xs ys:List Int)(k:Nat)(M:k<xs.length)(Z:k<ys.length)(h1:¬e_ ys k<e_ xs k)(h:e_ xs k<e_ ys k):cmpL (xs.drop k) (ys.drop k) = -1:=by
 rw [Dt xs k M,Dt ys k Z];simp only [cmpL];rw [if_neg h1,if_pos h]
theorem cmpL_end(xs ys:List Int)(k:Nat)(Z:xs.length<=k):cmpL (xs.drop k) (ys.drop k)=if k<ys.length then -1 else 0:=by
 rw [List.drop_eq_nil_of_le Z]
 split
 ·rename_i h;rw [Dt ys k h];rfl
 rename_i h;rw [List.drop_eq_nil_of_le om];rfl
theorem Cmp_ok(hu:Sl κ I u xs)(hv:Sl κ I v ys):eu prog κ 25 [u,v] I (λr J=>r=e7 (cmpL xs ys)/\I=J):=by
 refine B5 hu.le λae=>?_
 refine B5 hv.le λab=>?_
 refine Ce2 Tryz.func25 C C ?_
 refine Ad<|Ga C<|Ac<|Ar<|Ad<|Gm C<|Gr (Bw (α:=Int) (xs:=xs) Af C<|A8 hu)<|Gm C<|Ac<|A5<|B1 (σ:=Nat) (λs=>([(0,u),(1,v),(7,e7 ((xs.length:Nat):Int)),(8,e7 ((s:Nat):Int))]:Env)) (λs=>I) (λs=>(s<=xs.length)/\(cmpL xs ys=cmpL (xs.drop s) (ys.drop s))) (λs=>xs.length - s) 0 (show ((0:Nat)<=xs.length)/\(cmpL xs ys=cmpL (xs.drop (0:Nat)) (ys.drop (0:Nat))) from ⟨om,rfl⟩) (cx2<|Aa C<|Aa Cd Bp) (show Fit κ _ I from Bg) ?_
 rintro k hp
 obtain ⟨hk,Z⟩:=hp
 refine Ad<|Gr (A9 C C)<|Ac<|Ar<|A7 C (λc9=>?_)<|λc9=>?_
 ·refine Aw (Ah<|Ar<|A5<|Ad<|Gm C<|Ga C<|Ac<|A5<|Ar<|Bs mixed<|Cc I 16<|Dr 0 C (Ai C)<|Dr 1 C (Ai C)<|Dr 2 C (Bw (α:=Int) (xs:=ys) Af C<|A8 hv)<|Dr 3 C (Cv C C)<|Dr 4 C (Ai C)<|Dw (d:=16) C (λad=>?_)<|λad=>?_)
  ·exact Dpo 5 C<|Dpo 6 C<|Dpo 7 C<|Dpo 8 C<|Dpo 9 C<|Dpo 10 C<|Dpo 11 C<|Dpo 12 C<|Dpo 13 C<|Dr 14 C (Av C C)<|Dr 15 C (Bf C)<|Dz<|Ah<|Ap (S6 11 5 0 1 7 8)<|Cu C<|Ad<|Ga C<|Ac<|Az<|Ba<|Ba<|Ao<|Ao<|Ba<|Ao<|A1 C C _ Ax ⟨by rw [Z,cmpL_drop1 xs ys k om<|.inl om],rfl⟩
  refine Dro 5 C (Ai C)<|Dro 6 C (Ai C)<|Dro 7 C (A3 (α:=Int) (xs:=xs) Af ef C C (A8 hu) om om)<|Dro 8 C (Bx (xs:=xs) ef C (A8 hu) om om)<|Dro 9 C (Ai C)<|Dro 10 C (Ai C)<|Dro 11 C (A3 (α:=Int) (xs:=ys) Af ef C C (A8 hv) om om)<|Dro 12 C (Bx (xs:=ys) ef C (A8 hv) om om)<|Dro 13 C (B2 C C)<|Dr 14 C (Au C C)<|Dr 15 C (Bf C)<|Dz<|Ah<|Ap (S6 11 5 0 1 7 8)<|A7 C (λc11=>?_)<|λc11=>?_
  ·exact Ad<|Ga C<|Ac<|Az<|Ba<|Ba<|Ao<|Ao<|Ba<|Ao<|A1 C C _ Ax ⟨by rw [Z,cmpL_drop1 xs ys k om<|.inr ⟨by omega,by omega⟩],rfl⟩
  refine Ar<|Bs mixed<|Cc I 10<|Dr 0 C (Ai C)<|Dr 1 C (Ai C)<|Dr 2 C (A3 (α:=Int) (xs:=xs) Af ef C C (A8 hu) om om)<|Dr 3 C (Bx (xs:=xs) ef C (A8 hu) om om)<|Dr 4 C (Ai C)<|Dr 5 C (Ai C)<|Dr 6 C (A3 (α:=Int) (xs:=ys) Af ef C C (A8 hv) om om)<|Dr 7 C (Bx (xs:=ys) ef C (A8 hv) om om)<|Dr 8 C (A9 C C)<|Dr 9 C (Bf C)<|Dz<|Ah<|Ap (S5 27 0 1 7 8)<|A7 C (λM=>?_)<|λM=>?_
  ·exact Ad<|Ga C<|Ac<|Az<|Ba<|Ba<|Ao<|Ao<|Ba<|Ao<|A1 C C _ Ax ⟨by rw [Z,cmpL_dropn xs ys k om om om om],rfl⟩
  exact Aw<|Am<|Am<|Ah<|Ay<|Gr (Rad C C)<|Gm C<|Bj<|Cb ((k+1)) ⟨om,(Z.trans<|cmpL_drop xs ys k om om om om)⟩
 refine Bt<|Aq<|Aq<|Bb<|Ah<|Ar<|Ad<|Gm C<|Gr (Bw (α:=Int) (xs:=xs) Af C<|A8 hu)<|Gm C<|Gr (Bw (α:=Int) (xs:=ys) Af C<|A8 hv)<|Gr (A9 C C)<|Ac<|A7 C (λaa=>?_)<|λaa=>?_
 ·exact Ad<|Ga C<|Ac<|Az<|Ao<|A1 C C _ Ax ⟨by rw [Z,cmpL_end xs ys k om,if_pos om],rfl⟩
 exact Aw<|Ah<|Ad<|Ga C<|Ac<|Az<|A1 C C _ Ax ⟨by rw [Z,cmpL_end xs ys k om,if_neg om],rfl⟩
theorem Same_ok(hu:Sl κ I u xs)(hv:Sl κ I v ys):eu prog κ 120 [u,v] I (λr J=>r = .bool (decide (xs=ys))/\I=J):=by
 refine Ce2 Tryz.func120 C C ?_
 refine Ad<|Ga C<|Ac<|Ad<|Gm C<|Gr (Bw (α:=Int) (xs:=xs) Af C<|A8 hu)<|Gm C<|Gr (Bw (α:=Int) (xs:=ys) Af C<|A8 hv)<|Gr (Br C C)<|Gm C<|Bh (d:=10) C (λZ=>?_)<|λZ=>?_
 ·refine e9 (Ai C) (e9 (Ai C)<|Dx (Cq C C C) (Aj c_ C C<|Cmp_ok (A8 hu)<|A8 hv) ?_)
  rintro _ _ ⟨_,_,⟨rfl,rfl⟩,rfl,rfl⟩
  refine e9 (Br C C)<|Gr (Av C C)<|Ga C<|Ac<|Ap (S1 4)<|Az ?_
  have M:decide (cmpL xs ys=0)=decide (xs=ys):=by rw [decide_eq_decide];exact cmpL_eq xs ys
  exact A1 C C _ Ax ⟨by rw [M],rfl⟩
 refine eb<|eb<|eb<|eb<|Gr (Au C C)<|Ga C<|Ac<|Ap (S1 4)<|Az ?_
 have M:¬xs=ys:=λe=>by subst e;exact absurd rfl Z
 exact A1 C C _ Ax ⟨by rw [decide_eq_false M],rfl⟩
def putL:List Int->Int->List Int
 |[],x=>[x]
 |y::ys,x=>if y<x then y::putL ys x else if y=x then y::ys else x::y::ys
def ofL(l:List Int):List Int:=l.foldl putL []
theorem mem_putL(x y:Int):∀l,y∈putL l x↔y=x\/y∈l
 |[]=>by simp [putL]
 |z::zs=>by
  simp only [putL]
  split
  ·simp only [List.mem_cons,mem_putL x y zs]
   constructor
   ·rintro (h|h|h)<;>simp [h]
   rintro (h|h|h)<;>simp [h]
  split
  ·rename_i e;subst e;simp
  simp
theorem mem_foldl_putL(y:Int):∀(l acc:List Int),y∈l.foldl putL acc↔y∈l\/y∈acc
 |[],acc=>by simp
 |x::l,acc=>by
  rw [List.foldl_cons,mem_foldl_putL y l,mem_putL]
  simp only [List.mem_cons]
  constructor
  ·rintro (h|h|h)<;>simp [h]
  rintro ((h|h)|h)<;>simp [h]
theorem mem_ofL(l:List Int)(y:Int):y∈ofL l↔y∈l:=by simp [ofL,mem_foldl_putL]
end Go.Sl
namespace Go.Sl
open Go.Proofs Go.Shelf Go.RowKit Go.Lib Go.Sort
variable{P:Program}{κ:Ctx}{I:List Item}
section
variable {α:Type}[Enc α][Inhabited α]
theorem flat_cells(d:Array α):flatK Enc.enc (Enc.sz α) d=(cells d.toList).toArray:=by
 apply Array.ext
 ·simp [cells_length]
 intro t h1 h2
 have aa:t<d.size*Enc.sz α:=by simpa using h1
 have M:0<Enc.sz α:=Enc.pos
 have hi:t / Enc.sz α<d.size:=Nat.div_lt_of_lt_mul (by rw [Nat.mul_comm];exact aa)
 have hj:t % Enc.sz α<Enc.sz α:=Nat.mod_lt _ M
 have e1:t=t / Enc.sz α*Enc.sz α+t % Enc.sz α:=by rw [Nat.mul_comm];exact (Nat.div_add_mod t<|Enc.sz α).symm
 have e2:=cells_get d.toList (t / Enc.sz α) (t % Enc.sz α) (by simpa using hi) hj
 rw [←e1] at e2
 have e3:(cells d.toList)[t]? = some ((cells d.toList)[t]'(by simpa using h2)):=List.getElem?_eq_getElem _
 rw [e3] at e2
 have Z:t % Enc.sz α<(Enc.enc<|d.toList[t / Enc.sz α]'(by simpa using hi)).length:=by rw [Enc.len];exact hj
 rw [List.getElem?_eq_getElem Z] at e2
 have e4:=Option.some.inj e2
 simp only [List.getElem_toArray]
 rw [e4]
 simp [flatK,getElem!_pos,hi,Enc.len,hj]
theorem sort_base{ρ:Ren}(L:SlLaysF0.n6 P ρ)(aE:∀w,(isAgg (ρ.t 24)).run P w = .ok true w)(zE:∀w,(Go.sizeOf (ρ.t 24)).run P w = .ok (Enc.sz α) w)(cf:α->α->Int)(hO:SWO (ltOf cf))(g:Nat)(cb:Array Value)
  (eg:∀args w,(callFunc g args).run P w = .ok (.enter g args) w) (ap:∀(x y:α) (W:World),Calls P g (#[.agg (Enc.enc x).toArray,.agg (Enc.enc y).toArray]++cb) W λe w'=>e = .returned (.int .i64<|cf x y)/\∃q os',w'=grow (W.drewN q) os')
  {e:TypeId} {ad:Option Addr} {c:Nat} {xs:List α} (hc:0<c) (a4:xs.length<4611686018427387904):eu P κ (ρ.f 6) [.slice ad xs.length c,.func (.func g) #[] cb] (vc e (.slice ad xs.length c) xs::I) λr J=>∃ys:List α,(r = .tuple #[]/\ys.Perm xs/\ys.Pairwise λa b=>ltOf cf b a=false)/\J=[]++vc e (.slice ad ys.length c) ys::I:=by
 intro w hs
 obtain ⟨az,_⟩:=hs.ok _ List.mem_cons_self
 obtain ⟨a',a5,hv,hl,ar,ax,an⟩:=az
 cases hv
 obtain ⟨b,off,aj,rfl,hb,ai,ao⟩:=an hc
 have av:b<w.heap.size:=(Array.getElem?_eq_some_iff.1 hb).1
 have a9:=cells_length xs
 have a6:xs.length*Enc.sz α<=c*Enc.sz α:=Nat.mul_le_mul_right _ ar
 have hH:HoldsK Enc.enc (Enc.sz α) w b off xs.toArray:=λj hj=>by
  rw [flat_cells] at hj ⊢
  have Z:j<(cells xs).length:=by simpa using hj
  have h1:=ao j ((cells xs)[j]) (List.getElem?_eq_getElem Z)
  refine ⟨?_,by simp [World.frozen?,hb]⟩
  rw [cell_of_row w b (off+j) aj e (0,0) hb,h1]
  simp [getElem!_pos,Z]
 have h:=AnyQ.slices_SortFunc L (Enc.sz α) aE zE Enc.enc Enc.len Enc.one cf hO g cb b off c xs.toArray w eg (λm os dk _ x y=>ap x y _) hH av (by simpa using a4)
 refine Calls.mono h ?_
 rintro e' w' ⟨rfl,M,n,os,⟨au,_,aa⟩,ak,rfl⟩
 have ah:M.size=xs.length:=by simpa using au
 have ab:M.toList.Perm xs:=by
  have e1:M.extract 0 xs.toArray.size=M:=by rw [←au];simp
  have e2:xs.toArray.extract 0 xs.toArray.size=xs.toArray:=by simp
  rw [e1,e2] at aa
  exact aa
 have ae:M.toList.length=xs.length:=by simpa using ah
 refine ⟨_,_,rfl,⟨M.toList,⟨rfl,ab,?_⟩,rfl⟩,?_⟩
 ·rw [List.pairwise_iff_getElem]
  intro i j hi hj aw
  have:=ak i j (Nat.zero_le _) aw (by simpa [ah] using hj)
  simp only [Array.length_toList] at hi hj
  rw [getElem!_pos M i hi,getElem!_pos M j hj] at this
  simpa using this
 show Sep κ _ (vc e (.slice (some ⟨b,off,none⟩) M.toList.length c) M.toList::I)
 refine hs.upd (At.head _ _ _) rfl ⟨rfl,by simp [sortWorldK,putRowK,Sort.grow]⟩ rfl (by simp [sortWorldK,putRowK]) (λk hk a1=>?_) ?_ λk hk=> .inl ?_
 ·have a3:k≠b:=λay=>a1 (by subst ay;exact ⟨off,xs.length,c,rfl,hc⟩)
  simp only [sortWorldK,Sort.grow,putRowK,putRow,mapBlock]
  rw [Array.getElem?_append_left (by simpa using hk),Array.getElem?_modify,if_neg<|λe=>a3 e.symm]
  rfl
 ·refine ⟨_,c,rfl,cells_length _,by rw [ae];exact ar,ax,λ_=>⟨b,off,putCells id off (flatK Enc.enc (Enc.sz α) M) aj,rfl,?_,?_,λj u hj=>?_⟩⟩
  ·simp only [sortWorldK,Sort.grow,putRowK,putRow,mapBlock]
   rw [Array.getElem?_append_left (by simpa using av),Array.getElem?_modify,if_pos rfl]
   show (w.heap[b]?).map _=_
   rw [hb];rfl
  ·simpa [putCells] using ai
  have Z:j<(cells M.toList).length:=(List.getElem?_eq_some_iff.1 hj).1
  have a7:j<xs.length*Enc.sz α:=by rw [cells_length,ae] at Z;exact Z
  have aq:off+j<aj.size:=by omega
  rw [flat_cells]
  simp only [putCells,Array.getElem?_mapIdx,Array.getElem?_eq_getElem aq,Option.map_some]
  rw [if_pos ⟨by omega,by simpa using Z⟩,Nat.add_sub_cancel_left]
  rw [List.getElem?_eq_getElem Z] at hj
  simpa [getElem!_pos,Z] using hj
 obtain ⟨o',n',c',a0,a8⟩:=hk
 cases a0
 exact ⟨off,xs.length,c,rfl,hc⟩
theorem sort_any{ρ:Ren}(L:SlLaysF0.n6 P ρ)(aE:∀w,(isAgg (ρ.t 24)).run P w = .ok true w)(zE:∀w,(Go.sizeOf (ρ.t 24)).run P w = .ok (Enc.sz α) w)(M:α->α->Int)(hO:SWO (ltOf M))(g:Nat)(cb:Array Value)
  (eg:∀args w,(callFunc g args).run P w = .ok (.enter g args) w) (Z:∀(x y:α) (W:World),Calls P g (#[.agg (Enc.enc x).toArray,.agg (Enc.enc y).toArray]++cb) W λe w'=>e = .returned (.int .i64<|M x y)/\∃q os',w'=grow (W.drewN q) os')
  {e:TypeId} {ad:Option Addr} {c:Nat} {xs:List α} (ab:xs.length<4611686018427387904):eu P κ (ρ.f 6) [.slice ad xs.length c,.func (.func g) #[] cb] (vc e (.slice ad xs.length c) xs::I) λr J=>∃ys:List α,(r = .tuple #[]/\ys.Perm xs/\ys.Pairwise λa b=>ltOf M b a=false)/\J=[]++vc e (.slice ad ys.length c) ys::I:=by
 by_cases hc:0<c
 ·exact sort_base L aE zE M hO g cb eg Z hc ab
 intro w hs
 obtain ⟨aa,_⟩:=hs.ok _ List.mem_cons_self
 obtain ⟨a',ah,hv,hl,ai,aj,ae⟩:=aa
 cases hv
 obtain rfl:xs=[]:=List.eq_nil_of_length_eq_zero (by omega)
 refine Calls.mono (AnyF.slices_SortFunc_none L ad c _ w) ?_
 rintro e' w' ⟨rfl,rfl⟩
 exact ⟨_,_,rfl,⟨[],⟨rfl,List.Perm.nil,List.Pairwise.nil⟩,rfl⟩,hs⟩
end
theorem lays_of{f:FuncId}{Z:List Value}{v:Value}{W:World}(h:eu P ⟨W.os,W.tape,W.output,W.drawn⟩ f Z [old W.heap.size W] λr J=>r=v/\[old W.heap.size W]=J) :
  Calls P f Z.toArray W λe w'=>e = .returned v/\∃q aa,w'=Sort.grow (W.drewN q) aa:=(h W<|Sep.begin W).mono λe w' ⟨r,J,he,⟨hv,hJ⟩,hs⟩=>by
 subst hv hJ
 refine ⟨he,w'.drawn - W.drawn,w'.heap.extract W.heap.size w'.heap.size,?_⟩
 have hb:=hs.below List.mem_cons_self
 have ai:∀k,k<W.heap.size->w'.heap[k]? = W.heap[k]? :=(hs.ok _ List.mem_cons_self).1
 have hd:=hs.tape.2
 have M:w'.heap=W.heap++w'.heap.extract W.heap.size w'.heap.size:=by
  apply Array.ext_getElem?
  intro k
  by_cases hk:k<W.heap.size
  ·rw [Array.getElem?_append_left hk];exact ai k hk
  rw [Array.getElem?_append_right (by omega),Array.getElem?_extract]
  have ao:=hb.size
  by_cases hk2:k<w'.heap.size
  ·rw [if_pos (by omega)];congr 1;omega
  rw [Array.getElem?_eq_none (by omega)]
  split
  ·omega
  rfl
 have e:W.drawn+(w'.drawn - W.drawn)=w'.drawn:=by have:W.drawn<=w'.drawn:=hd;omega
 have ah:w'.os=W.os:=hs.os
 have ak:w'.tape=W.tape:=hs.tape.1
 have ae:w'.output=W.output:=hs.output
 obtain ⟨aj,ad,ab,aa,an⟩:=w'
 simp only [Sort.grow,World.drewN] at *
 subst ah ak ae
 rw [e,←M]
end Go.Sl
namespace Go.Proofs
def Tryz.sort211_ren:Go.Shelf.Ren:=⟨fun |6=>211|15=>181|14=>221|28=>207|29=>208|20=>224|21=>225|22=>226|23=>227|24=>228|25=>229|26=>230|27=>231|46=>233|47=>215|48=>216|49=>234|50=>235|57=>236|n=>n,fun |22=>33|24=>82|25=>202|3=>3|39=>233|0=>0|53=>251|55=>207|4=>4|46=>244|45=>243|50=>225|5=>5|9=>9|66=>256|70=>260|76=>265|77=>266|n=>n,fun |n=>n⟩
theorem Tryz.sort211:Go.Proofs.SlLaysF0.n6 prog Tryz.sort211_ren:={
 mixed:=by kernel_rfl,
 f6:=⟨Tryz.f211.name,by decide,Tryz.func211.trans<|congrArg some<|by kernel_rfl⟩,
 f14:=⟨Tryz.f221.name,by decide,Tryz.func221.trans<|congrArg some<|by kernel_rfl⟩,
 f15:=Tryz.func181.trans (congrArg some<|by kernel_rfl),
 f20:=⟨Tryz.f224.name,by decide,Tryz.func224.trans<|congrArg some<|by kernel_rfl⟩,
 f21:=⟨Tryz.f225.name,by decide,Tryz.func225.trans<|congrArg some<|by kernel_rfl⟩,
 f22:=⟨Tryz.f226.name,by decide,Tryz.func226.trans<|congrArg some<|by kernel_rfl⟩,
 f23:=⟨Tryz.f227.name,by decide,Tryz.func227.trans<|congrArg some<|by kernel_rfl⟩,
 f24:=⟨Tryz.f228.name,by decide,Tryz.func228.trans<|congrArg some<|by kernel_rfl⟩,
 f25:=⟨Tryz.f229.name,by decide,Tryz.func229.trans<|congrArg some<|by kernel_rfl⟩,
 f26:=⟨Tryz.f230.name,by decide,Tryz.func230.trans<|congrArg some<|by kernel_rfl⟩,
 f27:=⟨Tryz.f231.name,by decide,Tryz.func231.trans<|congrArg some<|by kernel_rfl⟩,
 f28:=Tryz.func207.trans (congrArg some<|by kernel_rfl),
 f29:=Tryz.func208.trans (congrArg some<|by kernel_rfl),
 f46:=⟨Tryz.f233.name,by decide,Tryz.func233.trans<|congrArg some<|by kernel_rfl⟩,
 f47:=Tryz.func215.trans (congrArg some<|by kernel_rfl),
 f48:=Tryz.func216.trans (congrArg some<|by kernel_rfl),
 f49:=⟨Tryz.f234.name,by decide,Tryz.func234.trans<|congrArg some<|by kernel_rfl⟩,
 f50:=⟨Tryz.f235.name,by decide,Tryz.func235.trans<|congrArg some<|by kernel_rfl⟩,
 f57:=⟨Tryz.f236.name,by decide,Tryz.func236.trans<|congrArg some<|by kernel_rfl⟩,
 t0:=Tryz.underlying0,
 a0:=Tryz.isAgg0,
 z0:=Tryz.sizeOf0,
 v0:=Tryz.zeroValue0,
 t3:=Tryz.underlying3,
 a3:=Tryz.isAgg3,
 z3:=Tryz.sizeOf3,
 v3:=Tryz.zeroValue3,
 t4:=Tryz.underlying4,
 a4:=Tryz.isAgg4,
 z4:=Tryz.sizeOf4,
 v4:=Tryz.zeroValue4,
 t5:=Tryz.underlying5,
 a5:=Tryz.isAgg5,
 z5:=Tryz.sizeOf5,
 v5:=Tryz.zeroValue5,
 t9:=Tryz.underlying9,
 a9:=Tryz.isAgg9,
 z9:=Tryz.sizeOf9,
 v9:=Tryz.zeroValue9,
 t22:=Tryz.underlying33,
 a22:=Tryz.isAgg33,
 z22:=Tryz.sizeOf33,
 v22:=Tryz.zeroValue33,
 t25:=Tryz.underlying202,
 a25:=Tryz.isAgg202,
 z25:=Tryz.sizeOf202,
 v25:=Tryz.zeroValue202,
 t39:=Tryz.underlying233,
 a39:=Tryz.isAgg233,
 z39:=Tryz.sizeOf233,
 v39:=Tryz.zeroValue233,
 t45:=Tryz.underlying243,
 a45:=Tryz.isAgg243,
 z45:=Tryz.sizeOf243,
 v45:=Tryz.zeroValue243,
 t46:=Tryz.underlying244,
 a46:=Tryz.isAgg244,
 z46:=Tryz.sizeOf244,
 v46:=Tryz.zeroValue244,
 t50:=Tryz.underlying225,
 a50:=Tryz.isAgg225,
 z50:=Tryz.sizeOf225,
 v50:=Tryz.zeroValue225,
 t53:=Tryz.underlying251,
 a53:=Tryz.isAgg251,
 z53:=Tryz.sizeOf251,
 v53:=Tryz.zeroValue251,
 t55:=Tryz.underlying207,
 a55:=Tryz.isAgg207,
 z55:=Tryz.sizeOf207,
 v55:=Tryz.zeroValue207,
 t66:=Tryz.underlying256,
 a66:=Tryz.isAgg256,
 z66:=Tryz.sizeOf256,
 v66:=Tryz.zeroValue256,
 t70:=Tryz.underlying260,
 a70:=Tryz.isAgg260,
 z70:=Tryz.sizeOf260,
 v70:=Tryz.zeroValue260,
 t76:=Tryz.underlying265,
 a76:=Tryz.isAgg265,
 z76:=Tryz.sizeOf265,
 v76:=Tryz.zeroValue265,
 t77:=Tryz.underlying266,
 a77:=Tryz.isAgg266,
 z77:=Tryz.sizeOf266,
 v77:=Tryz.zeroValue266}
end Go.Proofs
namespace Go.Sl
open Go.Proofs
set_option maxRecDepth 4000
variable{n:Int}
theorem Order_ok{κ:Ctx}{I:List Item}(a c:Pt):eu prog κ 131 [.agg #[e7 (a.u),e7 (a.v)],.agg #[e7 (c.u),e7 (c.v)]] I (λr J=>r=e7 (Pt.cmp a c)/\I=J):=by
 refine Ce2 Tryz.func131 C C ?_
 refine Ad<|Ge1 (Bd (cs:=[_,_]) C C C) λb1=>Ge1 (Bd (cs:=[_,_]) C C C) λZ=>Ga C<|Ac<|Ar<|Bs mixed<|Cc (e8 Z [e7 (c.u),e7<|c.v] 105::e8 b1 [e7 (a.u),e7<|a.v] 105::I) 12<|Dr 0 C (Ab fld105_0 C)<|Dr 1 C (A0 ef) ?_
 refine Dr 2 C (Ab fld105_0 C)<|Dr 3 C (A0 ef) ?_
 refine Dr 5 C (Ab fld105_1 C)<|Dr 6 C (A0 ef) ?_
 refine Dr 7 C (Ab fld105_1 C)<|Dr 8 C (A0 ef) ?_
 refine Ds1 4<|Sc0 C (Aj c_ C C<|Compare_ok a.u c.u) ?_
 refine Ds1 9<|Sc0 C (Aj c_ C C<|Compare_ok a.v c.v) ?_
 refine Ds1 10<|Se1 C (Ce (α:=Int) (cs:=[_,_]) (xs:=[cmpI a.u c.u,cmpI a.v c.v]) Af ef C C dc dc C C C C) λM=>?_
 refine Ds1 11<|Sc0 C (Aj c_ C C<|Or_ok Bi) ?_
 refine Cs kr ?_
 refine Dv (i:=12) kr C (Bm C) C C (Bf C) ?_
 refine Ct kr ?_
 exact Ah<|Ap (S1 4)<|Az<|A1 C C I Ax ⟨by rw [←orL_cmp],rfl⟩
variable {κ:Ctx}{I:List Item}
structure Lk where
 u:Int
 v:Int
 w:Int
 lb:Int
 sg:Int
 tm:Int
deriving DecidableEq,Inhabited
abbrev kl(x:Lk):List Value:=[e7 x.u,e7 x.v,e7 x.w,e7 x.lb,e7 x.sg,e7 x.tm]
instance:Enc Lk:=⟨λx=>(kl x),6,by omega,λ_=>rfl,λx u h=>by
 simp only [List.mem_cons,List.not_mem_nil,or_false] at h
 rcases h with rfl|rfl|rfl|rfl|rfl|rfl<;>rfl⟩
theorem eqt82:EqT prog 82 Lk:=EqT.flat (λp:Lk=>[p.u,p.v,p.w,p.lb,p.sg,p.tm]) (λ_=>rfl) (λx y h=>by cases x;cases y;simpa using h) (n:=6) (λ_=>rfl) kr kr kr kr kr
structure Ev where
 kd:Int
 tm:Int
 u:Int
 v:Int
 w:Int
 lb:Int
 sg:Int
deriving DecidableEq,Inhabited
abbrev ez(x:Ev):List Value:=[e7 x.kd,e7 x.tm,e7 x.u,e7 x.v,e7 x.w,e7 x.lb,e7 x.sg]
instance:Enc Ev:=⟨λx=>(ez x),7,by omega,λ_=>rfl,λx u h=>by
 simp only [List.mem_cons,List.not_mem_nil,or_false] at h
 rcases h with rfl|rfl|rfl|rfl|rfl|rfl|rfl<;>rfl⟩
theorem eqt54:EqT prog 54 Ev:=EqT.flat (λp:Ev=>[p.kd,p.tm,p.u,p.v,p.w,p.lb,p.sg]) (λ_=>rfl) (λx y h=>by cases x;cases y;simpa using h) (n:=7) (λ_=>rfl) kr kr kr kr kr
def Lk.p(l:Lk):Pt:=⟨l.u,l.v⟩
def Lk.cmp(a c:Lk):Int:=Pt.cmp a.p c.p
def Lk.lt(a c:Lk):Prop:=Pt.lt a.p c.p
instance:DecidableRel Lk.lt:=λa c=>by unfold Lk.lt;infer_instance
def rightW(w lb sg:Int):Prop:=1<=w/\w<=1000/\0<=lb/\lb<=15/\(sg=1\/sg = -1)
instance (w lb sg:Int):Decidable (rightW w lb sg):=by unfold rightW;infer_instance
def badL(n:Int)(l:Lk):Int:=if l.u<0\/l.v<=l.u\/n<=l.v then 6 else if ¬rightW l.w l.lb l.sg then 1 else if l.tm<0\/1048576<l.tm then 9 else 0
def checkS(n:Int)(xs:List Lk):Int:=if n<0\/64<n then 1 else scanL (badL n) Lk.lt none xs
theorem badL_zero{l:Lk}(h1:¬(l.u<0\/l.v<=l.u\/n<=l.v))(M:rightW l.w l.lb l.sg)(Z:¬(l.tm<0\/1048576<l.tm)):badL n l=0:=by
 unfold badL;rw [if_neg h1,if_neg<|λh=>h M,if_neg Z]
theorem badL_six{l:Lk}(Z:l.u<0\/l.v<=l.u\/n<=l.v):badL n l=6:=by unfold badL;rw [if_pos Z]
theorem badL_one{l:Lk}(Z:¬(l.u<0\/l.v<=l.u\/n<=l.v))(M:¬rightW l.w l.lb l.sg):badL n l=1:=by unfold badL;rw [if_neg Z,if_pos M]
theorem badL_nine{l:Lk}(h1:¬(l.u<0\/l.v<=l.u\/n<=l.v))(M:rightW l.w l.lb l.sg)(Z:l.tm<0\/1048576<l.tm):badL n l=9:=by unfold badL;rw [if_neg h1,if_neg (λh=>h M),if_pos Z]
def checkW(kd wd mo:Int):Int:=if kd<1\/3<kd then 8 else if (kd=2/\(wd<1\/1048576<wd))\/(kd≠2/\wd≠0)\/(kd=3/\(mo<0\/2016<mo))\/(kd≠3/\mo≠0) then 1 else 0
theorem cw{kd wd mo r:Int}(h:checkW kd wd mo=r:=by unfold checkW;split<;>first|rfl|omega|(split<;>first|rfl|omega)):checkW kd wd mo=r:=h
theorem CheckW_ok(kd wd mo:Int):eu prog κ 40 [.agg #[e7 kd,e7 wd,e7 mo]] I (λr J=>r=e7 (checkW kd wd mo)/\I=J):=by
 refine Ce1 Tryz.func40 C C ?_
 refine Ad<|Ge1 (Bd (cs:=[_,_,_]) C C C) λb1=>Ga C<|Ac<|Ad<|Ga C<|Ga C<|Ac<|Ar<|Ad<|Gf fld29_0 C<|Gl ef ?_
 refine Ac<|A5<|Ad<|Gr (Br C C)<|Ga C<|Ac<|A7 C (λc7=>?_)<|λc7=>?_
 ·refine Aw (Am<|Ah<|Ar<|Ad<|Gf fld29_1 C<|Gl ef ?_)
  refine Gm C<|Gr (Be C C)<|Gm C<|Bh (d:=37) C (λM=>?_)<|λM=>?_
  ·exact eb<|eb<|eb<|eb<|Gr (Av C C)<|Ac<|Ap (S1 42)<|Cu C<|Ad<|Ga C<|Ac<|Az<|Ao<|A1 C C I Ax ⟨by rw [show checkW kd wd mo=1 from cw],rfl⟩
  refine e9 (Ab fld29_2 C)<|e9 (A0 ef) ?_
  refine e9 (Ai C)<|e9 (Be C C)<|Gr (Au C C)<|Ac<|Ap (S1 42)<|A7 C (λZ=>?_)<|λZ=>?_
  ·exact Ad<|Ga C<|Ac<|Az<|Ao<|A1 C C I Ax ⟨by rw [show checkW kd wd mo=1 from cw],rfl⟩
  exact Aw<|Ah<|Ad<|Ga C<|Ac<|Az<|A1 C C I Ax ⟨by rw [show checkW kd wd mo=0 from cw],rfl⟩
 refine Ad<|Gr (Br C C)<|Ga C<|Ac<|A7 C (λc9=>?_)<|λc9=>?_
 ·refine Ar (Ad<|Gf fld29_1 C<|Gl ef ?_)
  refine Gr (A9 C C)<|Gm C<|Bh (d:=14) C (λab=>?_)<|λab=>?_
  ·exact eb<|eb<|eb<|Gr (Av C C)<|Ac<|Ap (S3 18 4 1)<|Cu C<|Ad<|Ga C<|Ac<|Az<|Ao<|Ba<|Ao<|A1 C C I Ax ⟨by rw [show checkW kd wd mo=1 from cw],rfl⟩
  refine e9 (Ab fld29_1 C)<|e9 (A0 ef) ?_
  refine e9 (B2 C C)<|Gr (Au C C)<|Ac<|Ap (S3 18 4 1)<|A7 C (λad=>?_)<|λad=>?_
  ·exact Ad<|Ga C<|Ac<|Az<|Ao<|Ba<|Ao<|A1 C C I Ax ⟨by rw [show checkW kd wd mo=1 from cw],rfl⟩
  refine Aw<|Ah<|Ay<|Gf fld29_1 C<|Gl ef ?_
  refine Ga C<|Bj<|Am<|Ah<|Ar<|Ad<|Gf fld29_1 C<|Gl ef ?_
  refine Gm C<|Gr (Be C C)<|Gm C<|Bh (d:=37) C (λM=>?_)<|λM=>?_
  ·exact eb<|eb<|eb<|eb<|Gr (Av C C)<|Ac<|Ap (S1 42)<|Cu C<|Ad<|Ga C<|Ac<|Az<|Ao<|A1 C C I Ax ⟨by rw [show checkW kd wd mo=1 from cw],rfl⟩
  refine e9 (Ab fld29_2 C)<|e9 (A0 ef) ?_
  refine e9 (Ai C)<|e9 (Be C C)<|Gr (Au C C)<|Ac<|Ap (S1 42)<|A7 C (λZ=>?_)<|λZ=>?_
  ·exact Ad<|Ga C<|Ac<|Az<|Ao<|A1 C C I Ax ⟨by rw [show checkW kd wd mo=1 from cw],rfl⟩
  exact Aw<|Ah<|Ad<|Ga C<|Ac<|Az<|A1 C C I Ax ⟨by rw [show checkW kd wd mo=0 from cw],rfl⟩
 refine Ad<|Gr (Br C C)<|Ga C<|Ac<|A7 C (λaa=>?_)<|λaa=>?_
 ·refine Ar (Ad<|Gf fld29_2 C<|Gl ef ?_)
  refine Gr (A9 C C)<|Gm C<|Bh (d:=26) C (λah=>?_)<|λah=>?_
  ·exact eb<|eb<|eb<|Gr (Av C C)<|Ac<|Ap (S3 30 3 1)<|Cu C<|Ad<|Ga C<|Ac<|Az<|Ao<|Ba<|Ao<|A1 C C I Ax ⟨by rw [show checkW kd wd mo=1 from cw],rfl⟩
  refine e9 (Ab fld29_2 C)<|e9 (A0 ef) ?_
  refine e9 (B2 C C)<|Gr (Au C C)<|Ac<|Ap (S3 30 3 1)<|A7 C (λae=>?_)<|λae=>?_
  ·exact Ad<|Ga C<|Ac<|Az<|Ao<|Ba<|Ao<|A1 C C I Ax ⟨by rw [show checkW kd wd mo=1 from cw],rfl⟩
  refine Aw<|Ah<|Ay<|Gf fld29_2 C<|Gl ef ?_
  refine Ga C<|Bj<|Am<|Ah<|Ar<|Ad<|Gf fld29_1 C<|Gl ef ?_
  refine Gm C<|Gr (Be C C)<|Gm C<|Bh (d:=37) C (λM=>?_)<|λM=>?_
  ·exact eb<|eb<|eb<|eb<|Gr (Av C C)<|Ac<|Ap (S1 42)<|Cu C<|Ad<|Ga C<|Ac<|Az<|Ao<|A1 C C I Ax ⟨by rw [show checkW kd wd mo=1 from cw],rfl⟩
  refine e9 (Ab fld29_2 C)<|e9 (A0 ef) ?_
  refine e9 (Ai C)<|e9 (Be C C)<|Gr (Au C C)<|Ac<|Ap (S1 42)<|A7 C (λZ=>?_)<|λZ=>?_
  ·exact Ad<|Ga C<|Ac<|Az<|Ao<|A1 C C I Ax ⟨by rw [show checkW kd wd mo=1 from cw],rfl⟩
  exact Aw<|Ah<|Ad<|Ga C<|Ac<|Az<|A1 C C I Ax ⟨by rw [show checkW kd wd mo=0 from cw],rfl⟩
 exact Ad<|Ga C<|Ac<|Ap (S1 2)<|Az<|Ba<|Ao<|A1 C C I Ax ⟨by rw [show checkW kd wd mo=8 from cw],rfl⟩
theorem CheckW7_ok(kd wd mo:Int):eu prog κ 69 [.agg #[e7 kd,e7 wd,e7 mo]] I (λr J=>r=e7 (checkW kd wd mo)/\I=J):=by
 refine Ce1 Tryz.func69 C C ?_
 refine Ad<|Ge1 (Bd (cs:=[_,_,_]) C C C) λb1=>Ga C<|Ac<|Ar<|Ad<|Gf fld29_0 C<|Gl ef ?_
 refine Gr (A9 C C)<|Gm C<|Bh (d:=6) C (λg6=>?_)<|λg6=>?_
 ·exact eb<|eb<|eb<|Gr (Av C C)<|Ac<|Cu C<|Ad<|Ga C<|Ac<|Az<|Ao<|A1 C C I Ax ⟨by rw [show checkW kd wd mo=8 from cw],rfl⟩
 refine e9 (Ab fld29_0 C)<|e9 (A0 ef) ?_
 refine e9 (B2 C C)<|Gr (Au C C)<|Ac<|A7 C (λc10=>?_)<|λc10=>?_
 ·exact Ad<|Ga C<|Ac<|Az<|Ao<|A1 C C I Ax ⟨by rw [show checkW kd wd mo=8 from cw],rfl⟩
 refine Aw<|Ah<|Ar<|Ad<|Gf fld29_0 C<|Gl ef ?_
 refine Gr (Br C C)<|Gm C<|Bh (d:=14) C (λaj=>?_)<|λaj=>?_
 ·refine e9 (Ab fld29_1 C) (e9 (A0 ef) ?_)
  refine e9 (A9 C C)<|e9 (Ai C)<|Bh (d:=18) C (λak=>?_)<|λak=>?_
  ·exact eb<|eb<|eb<|e9 (Av C C)<|Gr (Av C C)<|Gm C<|eb<|eb<|eb<|eb<|ee<|ee<|ee<|eb<|Gr (Av C C)<|Ac<|Ap (S2 33 1)<|Cu C<|Ad<|Ga C<|Ac<|Az<|Ao<|A1 C C I Ax ⟨by rw [show checkW kd wd mo=1 from cw],rfl⟩
  refine e9 (Ab fld29_1 C)<|e9 (A0 ef) ?_
  refine e9 (B2 C C)<|e9 (Au C C)<|Gr (Av C C)<|Gm C<|Bh (d:=24) C (λai=>?_)<|λai=>?_
  ·exact eb<|eb<|eb<|eb<|ee<|ee<|ee<|eb<|Gr (Av C C)<|Ac<|Ap (S2 33 1)<|Cu C<|Ad<|Ga C<|Ac<|Az<|Ao<|A1 C C I Ax ⟨by rw [show checkW kd wd mo=1 from cw],rfl⟩
  refine e9 (Ab fld29_0 C)<|e9 (A0 ef) ?_
  refine e9 (Be C C)<|e9 (Ai C)<|Bh (d:=28) C (λah=>?_)<|λah=>?_
  ·refine e9 (Ab fld29_1 C) (e9 (A0 ef) ?_)
   refine e9 (Be C C)<|e9 (Av C C)<|Gr (Au C C)<|Ac<|Ap (S2 33 1)<|A7 C (λae=>?_)<|λae=>?_
   ·exact Ad<|Ga C<|Ac<|Az<|Ao<|A1 C C I Ax ⟨by rw [show checkW kd wd mo=1 from cw],rfl⟩
   refine Aw<|Ah<|Ar<|Ad<|Gf fld29_0 C<|Gl ef ?_
   refine Gr (Br C C)<|Gm C<|Bh (d:=37) C (λab=>?_)<|λab=>?_
   ·refine e9 (Ab fld29_2 C) (e9 (A0 ef) ?_)
    refine e9 (A9 C C)<|e9 (Ai C)<|Bh (d:=41) C (λaa=>?_)<|λaa=>?_
    ·exact eb<|eb<|eb<|e9 (Av C C)<|Gr (Av C C)<|Gm C<|eb<|eb<|eb<|eb<|ee<|ee<|ee<|eb<|Gr (Av C C)<|Ac<|Ap (S1 56)<|Cu C<|Ad<|Ga C<|Ac<|Az<|Ao<|A1 C C I Ax ⟨by rw [show checkW kd wd mo=1 from cw],rfl⟩
    refine e9 (Ab fld29_2 C)<|e9 (A0 ef) ?_
    refine e9 (B2 C C)<|e9 (Au C C)<|Gr (Av C C)<|Gm C<|Bh (d:=47) C (λad=>?_)<|λad=>?_
    ·exact eb<|eb<|eb<|eb<|ee<|ee<|ee<|eb<|Gr (Av C C)<|Ac<|Ap (S1 56)<|Cu C<|Ad<|Ga C<|Ac<|Az<|Ao<|A1 C C I Ax ⟨by rw [show checkW kd wd mo=1 from cw],rfl⟩
    refine e9 (Ab fld29_0 C)<|e9 (A0 ef) ?_
    refine e9 (Be C C)<|e9 (Ai C)<|Bh (d:=51) C (λM=>?_)<|λM=>?_
    ·refine e9 (Ab fld29_2 C) (e9 (A0 ef) ?_)
     refine e9 (Be C C)<|e9 (Av C C)<|Gr (Au C C)<|Ac<|Ap (S1 56)<|A7 C (λZ=>?_)<|λZ=>?_
     ·exact Ad<|Ga C<|Ac<|Az<|Ao<|A1 C C I Ax ⟨by rw [show checkW kd wd mo=1 from cw],rfl⟩
     exact Aw<|Ah<|Ad<|Ga C<|Ac<|Az<|A1 C C I Ax ⟨by rw [show checkW kd wd mo=0 from cw],rfl⟩
    exact eb<|eb<|eb<|e9 (Au C C)<|Gr (Au C C)<|Ac<|Ap (S1 56)<|Dg C<|Aw<|Ah<|Ad<|Ga C<|Ac<|Az<|A1 C C I Ax ⟨by rw [show checkW kd wd mo=0 from cw],rfl⟩
   refine eb<|eb<|eb<|eb<|ee<|ee<|ee<|eb<|Gr (Au C C)<|Gm C<|e9 (Ab fld29_0 C)<|e9 (A0 ef) ?_
   refine e9 (Be C C)<|e9 (Ai C)<|Bh (d:=51) C (λM=>?_)<|λM=>?_
   ·refine e9 (Ab fld29_2 C) (e9 (A0 ef) ?_)
    refine e9 (Be C C)<|e9 (Av C C)<|Gr (Au C C)<|Ac<|Ap (S1 56)<|A7 C (λZ=>?_)<|λZ=>?_
    ·exact Ad<|Ga C<|Ac<|Az<|Ao<|A1 C C I Ax ⟨by rw [show checkW kd wd mo=1 from cw],rfl⟩
    exact Aw<|Ah<|Ad<|Ga C<|Ac<|Az<|A1 C C I Ax ⟨by rw [show checkW kd wd mo=0 from cw],rfl⟩
   exact eb<|eb<|eb<|e9 (Au C C)<|Gr (Au C C)<|Ac<|Ap (S1 56)<|Dg C<|Aw<|Ah<|Ad<|Ga C<|Ac<|Az<|A1 C C I Ax ⟨by rw [show checkW kd wd mo=0 from cw],rfl⟩
  refine eb<|eb<|eb<|e9 (Au C C)<|Gr (Au C C)<|Ac<|Ap (S2 33 1)<|Dg C<|Aw<|Ah<|Ar<|Ad<|Gf fld29_0 C<|Gl ef ?_
  refine Gr (Br C C)<|Gm C<|Bh (d:=37) C (λab=>?_)<|λab=>?_
  ·refine e9 (Ab fld29_2 C) (e9 (A0 ef) ?_)
   refine e9 (A9 C C)<|e9 (Ai C)<|Bh (d:=41) C (λaa=>?_)<|λaa=>?_
   ·exact eb<|eb<|eb<|e9 (Av C C)<|Gr (Av C C)<|Gm C<|eb<|eb<|eb<|eb<|ee<|ee<|ee<|eb<|Gr (Av C C)<|Ac<|Ap (S1 56)<|Cu C<|Ad<|Ga C<|Ac<|Az<|Ao<|A1 C C I Ax ⟨by rw [show checkW kd wd mo=1 from cw],rfl⟩
   refine e9 (Ab fld29_2 C)<|e9 (A0 ef) ?_
   refine e9 (B2 C C)<|e9 (Au C C)<|Gr (Av C C)<|Gm C<|Bh (d:=47) C (λad=>?_)<|λad=>?_
   ·exact eb<|eb<|eb<|eb<|ee<|ee<|ee<|eb<|Gr (Av C C)<|Ac<|Ap (S1 56)<|Cu C<|Ad<|Ga C<|Ac<|Az<|Ao<|A1 C C I Ax ⟨by rw [show checkW kd wd mo=1 from cw],rfl⟩
   refine e9 (Ab fld29_0 C)<|e9 (A0 ef) ?_
   refine e9 (Be C C)<|e9 (Ai C)<|Bh (d:=51) C (λM=>?_)<|λM=>?_
   ·refine e9 (Ab fld29_2 C) (e9 (A0 ef) ?_)
    refine e9 (Be C C)<|e9 (Av C C)<|Gr (Au C C)<|Ac<|Ap (S1 56)<|A7 C (λZ=>?_)<|λZ=>?_
    ·exact Ad<|Ga C<|Ac<|Az<|Ao<|A1 C C I Ax ⟨by rw [show checkW kd wd mo=1 from cw],rfl⟩
    exact Aw<|Ah<|Ad<|Ga C<|Ac<|Az<|A1 C C I Ax ⟨by rw [show checkW kd wd mo=0 from cw],rfl⟩
   exact eb<|eb<|eb<|e9 (Au C C)<|Gr (Au C C)<|Ac<|Ap (S1 56)<|Dg C<|Aw<|Ah<|Ad<|Ga C<|Ac<|Az<|A1 C C I Ax ⟨by rw [show checkW kd wd mo=0 from cw],rfl⟩
  refine eb<|eb<|eb<|eb<|ee<|ee<|ee<|eb<|Gr (Au C C)<|Gm C<|e9 (Ab fld29_0 C)<|e9 (A0 ef) ?_
  refine e9 (Be C C)<|e9 (Ai C)<|Bh (d:=51) C (λM=>?_)<|λM=>?_
  ·refine e9 (Ab fld29_2 C) (e9 (A0 ef) ?_)
   refine e9 (Be C C)<|e9 (Av C C)<|Gr (Au C C)<|Ac<|Ap (S1 56)<|A7 C (λZ=>?_)<|λZ=>?_
   ·exact Ad<|Ga C<|Ac<|Az<|Ao<|A1 C C I Ax ⟨by rw [show checkW kd wd mo=1 from cw],rfl⟩
   exact Aw<|Ah<|Ad<|Ga C<|Ac<|Az<|A1 C C I Ax ⟨by rw [show checkW kd wd mo=0 from cw],rfl⟩
  exact eb<|eb<|eb<|e9 (Au C C)<|Gr (Au C C)<|Ac<|Ap (S1 56)<|Dg C<|Aw<|Ah<|Ad<|Ga C<|Ac<|Az<|A1 C C I Ax ⟨by rw [show checkW kd wd mo=0 from cw],rfl⟩
 refine eb<|eb<|eb<|eb<|ee<|ee<|ee<|eb<|Gr (Au C C)<|Gm C<|e9 (Ab fld29_0 C)<|e9 (A0 ef) ?_
 refine e9 (Be C C)<|e9 (Ai C)<|Bh (d:=28) C (λah=>?_)<|λah=>?_
 ·refine e9 (Ab fld29_1 C) (e9 (A0 ef) ?_)
  refine e9 (Be C C)<|e9 (Av C C)<|Gr (Au C C)<|Ac<|Ap (S2 33 1)<|A7 C (λae=>?_)<|λae=>?_
  ·exact Ad<|Ga C<|Ac<|Az<|Ao<|A1 C C I Ax ⟨by rw [show checkW kd wd mo=1 from cw],rfl⟩
  refine Aw<|Ah<|Ar<|Ad<|Gf fld29_0 C<|Gl ef ?_
  refine Gr (Br C C)<|Gm C<|Bh (d:=37) C (λab=>?_)<|λab=>?_
  ·refine e9 (Ab fld29_2 C) (e9 (A0 ef) ?_)
   refine e9 (A9 C C)<|e9 (Ai C)<|Bh (d:=41) C (λaa=>?_)<|λaa=>?_
   ·exact eb<|eb<|eb<|e9 (Av C C)<|Gr (Av C C)<|Gm C<|eb<|eb<|eb<|eb<|ee<|ee<|ee<|eb<|Gr (Av C C)<|Ac<|Ap (S1 56)<|Cu C<|Ad<|Ga C<|Ac<|Az<|Ao<|A1 C C I Ax ⟨by rw [show checkW kd wd mo=1 from cw],rfl⟩
   refine e9 (Ab fld29_2 C)<|e9 (A0 ef) ?_
   refine e9 (B2 C C)<|e9 (Au C C)<|Gr (Av C C)<|Gm C<|Bh (d:=47) C (λad=>?_)<|λad=>?_
   ·exact eb<|eb<|eb<|eb<|ee<|ee<|ee<|eb<|Gr (Av C C)<|Ac<|Ap (S1 56)<|Cu C<|Ad<|Ga C<|Ac<|Az<|Ao<|A1 C C I Ax ⟨by rw [show checkW kd wd mo=1 from cw],rfl⟩
   refine e9 (Ab fld29_0 C)<|e9 (A0 ef) ?_
   refine e9 (Be C C)<|e9 (Ai C)<|Bh (d:=51) C (λM=>?_)<|λM=>?_
   ·refine e9 (Ab fld29_2 C) (e9 (A0 ef) ?_)
    refine e9 (Be C C)<|e9 (Av C C)<|Gr (Au C C)<|Ac<|Ap (S1 56)<|A7 C (λZ=>?_)<|λZ=>?_
    ·exact Ad<|Ga C<|Ac<|Az<|Ao<|A1 C C I Ax ⟨by rw [show checkW kd wd mo=1 from cw],rfl⟩
    exact Aw<|Ah<|Ad<|Ga C<|Ac<|Az<|A1 C C I Ax ⟨by rw [show checkW kd wd mo=0 from cw],rfl⟩
   exact eb<|eb<|eb<|e9 (Au C C)<|Gr (Au C C)<|Ac<|Ap (S1 56)<|Dg C<|Aw<|Ah<|Ad<|Ga C<|Ac<|Az<|A1 C C I Ax ⟨by rw [show checkW kd wd mo=0 from cw],rfl⟩
  refine eb<|eb<|eb<|eb<|ee<|ee<|ee<|eb<|Gr (Au C C)<|Gm C<|e9 (Ab fld29_0 C)<|e9 (A0 ef) ?_
  refine e9 (Be C C)<|e9 (Ai C)<|Bh (d:=51) C (λM=>?_)<|λM=>?_
  ·refine e9 (Ab fld29_2 C) (e9 (A0 ef) ?_)
   refine e9 (Be C C)<|e9 (Av C C)<|Gr (Au C C)<|Ac<|Ap (S1 56)<|A7 C (λZ=>?_)<|λZ=>?_
   ·exact Ad<|Ga C<|Ac<|Az<|Ao<|A1 C C I Ax ⟨by rw [show checkW kd wd mo=1 from cw],rfl⟩
   exact Aw<|Ah<|Ad<|Ga C<|Ac<|Az<|A1 C C I Ax ⟨by rw [show checkW kd wd mo=0 from cw],rfl⟩
  exact eb<|eb<|eb<|e9 (Au C C)<|Gr (Au C C)<|Ac<|Ap (S1 56)<|Dg C<|Aw<|Ah<|Ad<|Ga C<|Ac<|Az<|A1 C C I Ax ⟨by rw [show checkW kd wd mo=0 from cw],rfl⟩
 refine eb<|eb<|eb<|e9 (Au C C)<|Gr (Au C C)<|Ac<|Ap (S2 33 1)<|Dg C<|Aw<|Ah<|Ar<|Ad<|Gf fld29_0 C<|Gl ef ?_
 refine Gr (Br C C)<|Gm C<|Bh (d:=37) C (λab=>?_)<|λab=>?_
 ·refine e9 (Ab fld29_2 C) (e9 (A0 ef) ?_)
  refine e9 (A9 C C)<|e9 (Ai C)<|Bh (d:=41) C (λaa=>?_)<|λaa=>?_
  ·exact eb<|eb<|eb<|e9 (Av C C)<|Gr (Av C C)<|Gm C<|eb<|eb<|eb<|eb<|ee<|ee<|ee<|eb<|Gr (Av C C)<|Ac<|Ap (S1 56)<|Cu C<|Ad<|Ga C<|Ac<|Az<|Ao<|A1 C C I Ax ⟨by rw [show checkW kd wd mo=1 from cw],rfl⟩
  refine e9 (Ab fld29_2 C)<|e9 (A0 ef) ?_
  refine e9 (B2 C C)<|e9 (Au C C)<|Gr (Av C C)<|Gm C<|Bh (d:=47) C (λad=>?_)<|λad=>?_
  ·exact eb<|eb<|eb<|eb<|ee<|ee<|ee<|eb<|Gr (Av C C)<|Ac<|Ap (S1 56)<|Cu C<|Ad<|Ga C<|Ac<|Az<|Ao<|A1 C C I Ax ⟨by rw [show checkW kd wd mo=1 from cw],rfl⟩
  refine e9 (Ab fld29_0 C)<|e9 (A0 ef) ?_
  refine e9 (Be C C)<|e9 (Ai C)<|Bh (d:=51) C (λM=>?_)<|λM=>?_
  ·refine e9 (Ab fld29_2 C) (e9 (A0 ef) ?_)
   refine e9 (Be C C)<|e9 (Av C C)<|Gr (Au C C)<|Ac<|Ap (S1 56)<|A7 C (λZ=>?_)<|λZ=>?_
   ·exact Ad<|Ga C<|Ac<|Az<|Ao<|A1 C C I Ax ⟨by rw [show checkW kd wd mo=1 from cw],rfl⟩
   exact Aw<|Ah<|Ad<|Ga C<|Ac<|Az<|A1 C C I Ax ⟨by rw [show checkW kd wd mo=0 from cw],rfl⟩
  exact eb<|eb<|eb<|e9 (Au C C)<|Gr (Au C C)<|Ac<|Ap (S1 56)<|Dg C<|Aw<|Ah<|Ad<|Ga C<|Ac<|Az<|A1 C C I Ax ⟨by rw [show checkW kd wd mo=0 from cw],rfl⟩
 refine eb<|eb<|eb<|eb<|ee<|ee<|ee<|eb<|Gr (Au C C)<|Gm C<|e9 (Ab fld29_0 C)<|e9 (A0 ef) ?_
 refine e9 (Be C C)<|e9 (Ai C)<|Bh (d:=51) C (λM=>?_)<|λM=>?_
 ·refine e9 (Ab fld29_2 C) (e9 (A0 ef) ?_)
  refine e9 (Be C C)<|e9 (Av C C)<|Gr (Au C C)<|Ac<|Ap (S1 56)<|A7 C (λZ=>?_)<|λZ=>?_
  ·exact Ad<|Ga C<|Ac<|Az<|Ao<|A1 C C I Ax ⟨by rw [show checkW kd wd mo=1 from cw],rfl⟩
  exact Aw<|Ah<|Ad<|Ga C<|Ac<|Az<|A1 C C I Ax ⟨by rw [show checkW kd wd mo=0 from cw],rfl⟩
 exact eb<|eb<|eb<|e9 (Au C C)<|Gr (Au C C)<|Ac<|Ap (S1 56)<|Dg C<|Aw<|Ah<|Ad<|Ga C<|Ac<|Az<|A1 C C I Ax ⟨by rw [show checkW kd wd mo=0 from cw],rfl⟩
theorem RightW_ok(w lb sg:Int):eu prog κ 92 [e7 w,e7 lb,e7 sg] I (λr J=>r = .bool (decide (rightW w lb sg))/\I=J):=by
 refine Ce3 Tryz.func92 C C ?_
 refine Ad<|Ga C<|Ac<|Ad<|Gm C<|Gr (Cv C C)<|Gm C<|Bh (d:=9) C (λg9=>?_)<|λg9=>?_
 ·refine e9 (Ai C) (e9 (Ej C C)<|Gr (Av C C)<|Gm C<|Bh (d:=13) C (λZ=>?_)<|λZ=>?_)
  ·refine e9 (Ai C) (e9 (Cv C C)<|Gr (Av C C)<|Gm C<|Bh (d:=17) C (λaa=>?_)<|λaa=>?_)
   ·refine e9 (Ai C) (e9 (Ej C C)<|Gr (Av C C)<|Gm C<|Bh (d:=21) C (λab=>?_)<|λab=>?_)
    ·refine e9 (Ai C) (e9 (Br C C)<|e9 (Ai C)<|Bh (d:=24) C (λM=>?_)<|λM=>?_)
     ·exact eb<|eb<|e9 (Av C C)<|Gr (Av C C)<|Ga C<|Ac<|Ap (S1 6)<|Az<|A1 C C I Ax ⟨(by first|exact congrArg Value.bool (decide_eq_decide.2<|by unfold rightW;omega)|exact congrArg Value.bool (decide_eq_true<|by unfold rightW;omega).symm|exact congrArg Value.bool (decide_eq_false<|by unfold rightW;omega).symm),rfl⟩
     exact e9 (Ai C)<|e9 (Br C C)<|e9 (Au C C)<|Gr (Av C C)<|Ga C<|Ac<|Ap (S1 6)<|Az<|A1 C C I Ax ⟨(by first|exact congrArg Value.bool (decide_eq_decide.2<|by unfold rightW;omega)|exact congrArg Value.bool (decide_eq_true<|by unfold rightW;omega).symm|exact congrArg Value.bool (decide_eq_false<|by unfold rightW;omega).symm),rfl⟩
    exact eb<|eb<|eb<|ee<|ee<|eb<|Gr (Au C C)<|Ga C<|Ac<|Ap (S1 6)<|Az<|A1 C C I Ax ⟨(by first|exact congrArg Value.bool (decide_eq_decide.2<|by unfold rightW;omega)|exact congrArg Value.bool (decide_eq_true<|by unfold rightW;omega).symm|exact congrArg Value.bool (decide_eq_false<|by unfold rightW;omega).symm),rfl⟩
   exact eb<|eb<|Gr (Au C C)<|Gm C<|eb<|eb<|eb<|ee<|ee<|eb<|Gr (Au C C)<|Ga C<|Ac<|Ap (S1 6)<|Az<|A1 C C I Ax ⟨(by first|exact congrArg Value.bool (decide_eq_decide.2<|by unfold rightW;omega)|exact congrArg Value.bool (decide_eq_true<|by unfold rightW;omega).symm|exact congrArg Value.bool (decide_eq_false<|by unfold rightW;omega).symm),rfl⟩
  exact eb<|eb<|Gr (Au C C)<|Gm C<|eb<|eb<|Gr (Au C C)<|Gm C<|eb<|eb<|eb<|ee<|ee<|eb<|Gr (Au C C)<|Ga C<|Ac<|Ap (S1 6)<|Az<|A1 C C I Ax ⟨(by first|exact congrArg Value.bool (decide_eq_decide.2<|by unfold rightW;omega)|exact congrArg Value.bool (decide_eq_true<|by unfold rightW;omega).symm|exact congrArg Value.bool (decide_eq_false<|by unfold rightW;omega).symm),rfl⟩
 exact eb<|eb<|Gr (Au C C)<|Gm C<|eb<|eb<|Gr (Au C C)<|Gm C<|eb<|eb<|Gr (Au C C)<|Gm C<|eb<|eb<|eb<|ee<|ee<|eb<|Gr (Au C C)<|Ga C<|Ac<|Ap (S1 6)<|Az<|A1 C C I Ax ⟨(by first|exact congrArg Value.bool (decide_eq_decide.2<|by unfold rightW;omega)|exact congrArg Value.bool (decide_eq_true<|by unfold rightW;omega).symm|exact congrArg Value.bool (decide_eq_false<|by unfold rightW;omega).symm),rfl⟩
theorem From4_ok(n a c:Int):eu prog κ 114 [e7 n,e7 a,e7 c] I (λr J=>r = .bool (decide (a<=n/\n<=c))/\I=J):=by
 refine Ce3 Tryz.func114 C C ?_
 refine Ad<|Ga C<|Ac<|Ad<|Gm C<|Gm C<|Gr (Cv C C)<|Gm C<|Bh (d:=10) C (λZ=>?_)<|λZ=>?_
 ·exact e9 (Ai C)<|e9 (Ai C)<|e9 (Ej C C)<|Gr (Av C C)<|Ga C<|Ac<|Ap (S1 6)<|Az<|A1 C C I Ax ⟨(by first|exact congrArg Value.bool (decide_eq_decide.2<|by skip;omega)|exact congrArg Value.bool (decide_eq_true<|by skip;omega).symm|exact congrArg Value.bool (decide_eq_false<|by skip;omega).symm),rfl⟩
 exact eb<|eb<|eb<|Gr (Au C C)<|Ga C<|Ac<|Ap (S1 6)<|Az<|A1 C C I Ax ⟨(by first|exact congrArg Value.bool (decide_eq_decide.2<|by skip;omega)|exact congrArg Value.bool (decide_eq_true<|by skip;omega).symm|exact congrArg Value.bool (decide_eq_false<|by skip;omega).symm),rfl⟩
theorem Attr4_ok(w lb sg:Int):eu prog κ 97 [e7 w,e7 lb,e7 sg] I (λr J=>r=e7 (if rightW w lb sg then 0 else 1)/\I=J):=by
 refine Ce3 Tryz.func97 C C ?_
 refine Ad<|Ga C<|Ac<|Ar<|Ad<|Gm C<|Gc0 (Aj c_ C C<|From4_ok w 1 1000) ?_
 refine Gr (Dc C)<|Gm C<|Bh (d:=10) C (λZ=>?_)<|λZ=>?_
 ·exact eb<|eb<|eb<|Gr (Av C C)<|Gm C<|eb<|eb<|eb<|ee<|ee<|eb<|Gr (Av C C)<|Ac<|Ap (S1 22)<|Cu C<|Ad<|Ga C<|Ac<|Az<|Ao<|A1 C C I Ax ⟨by rw [if_neg (by unfold rightW;omega)],rfl⟩
 refine e9 (Ai C)<|Dx (Cq C C C) (Aj c_ C C<|From4_ok lb 0 15) ?_
 rintro _ _ ⟨_,_,⟨rfl,rfl⟩,rfl,rfl⟩
 refine e9 (Dc C)<|Gr (Au C C)<|Gm C<|Bh (d:=15) C (λM=>?_)<|λM=>?_
 ·exact eb<|eb<|eb<|ee<|ee<|eb<|Gr (Av C C)<|Ac<|Ap (S1 22)<|Cu C<|Ad<|Ga C<|Ac<|Az<|Ao<|A1 C C I Ax ⟨by rw [if_neg (by unfold rightW;omega)],rfl⟩
 refine e9 (Ai C)<|e9 (Be C C)<|e9 (Ai C)<|Bh (d:=18) C (λab=>?_)<|λab=>?_
 ·refine e9 (Ai C) (e9 (Be C C)<|e9 (Av C C)<|Gr (Au C C)<|Ac<|Ap (S1 22)<|A7 C (λaa=>?_)<|λaa=>?_)
  ·exact Ad<|Ga C<|Ac<|Az<|Ao<|A1 C C I Ax ⟨by rw [if_neg (by unfold rightW;omega)],rfl⟩
  exact Aw<|Ah<|Ad<|Ga C<|Ac<|Az<|A1 C C I Ax ⟨by rw [if_pos (by unfold rightW;omega)],rfl⟩
 exact eb<|eb<|e9 (Au C C)<|Gr (Au C C)<|Ac<|Ap (S1 22)<|Dg C<|Aw<|Ah<|Ad<|Ga C<|Ac<|Az<|A1 C C I Ax ⟨by rw [if_pos (by unfold rightW;omega)],rfl⟩
theorem OrderL_ok(a c:Lk):eu prog κ 144 [.agg (kl a).toArray,.agg (kl c).toArray] I (λr J=>r=e7 (Lk.cmp a c)/\I=J):=by
 refine Ce2 Tryz.func144 C C ?_
 refine Ad<|Ge1 (Bd (cs:=[_,_,_,_,_,_]) C C C) λb1=>Ge1 (Bd (cs:=[_,_,_,_,_,_]) C C C) λZ=>Ga C<|Ac<|Ar<|Bs mixed<|Cc (e8 Z (kl c) 82::e8 b1 (kl a) 82::I) 12<|Dr 0 C (Ab fld82_0 C)<|Dr 1 C (A0 ef) ?_
 refine Dr 2 C (Ab fld82_0 C)<|Dr 3 C (A0 ef) ?_
 refine Dr 5 C (Ab fld82_1 C)<|Dr 6 C (A0 ef) ?_
 refine Dr 7 C (Ab fld82_1 C)<|Dr 8 C (A0 ef) ?_
 refine Ds1 4<|Sc0 C (Aj c_ C C<|Compare_ok a.u c.u) ?_
 refine Ds1 9<|Sc0 C (Aj c_ C C<|Compare_ok a.v c.v) ?_
 refine Ds1 10<|Se1 C (Ce (α:=Int) (cs:=[_,_]) (xs:=[cmpI a.u c.u,cmpI a.v c.v]) Af ef C C dc dc C C C C) λM=>?_
 refine Ds1 11<|Sc0 C (Aj c_ C C<|Or_ok Bi) ?_
 refine Cs kr ?_
 refine Dv (i:=12) kr C (Bm C) C C (Bf C) ?_
 refine Ct kr ?_
 exact Ah<|Ap (S1 4)<|Az<|A1 C C I Ax ⟨by rw [show Lk.cmp a c=Pt.cmp ⟨a.u,a.v⟩ ⟨c.u,c.v⟩ from rfl,←orL_cmp],rfl⟩
theorem Edge5_ok(l:Lk):eu prog κ 50 [.agg (kl l).toArray] I (λr J=>r = .agg #[e7 l.p.u,e7 l.p.v]/\I=J):=by
 refine Ce1 Tryz.func50 C C ?_
 refine Ad<|Ge1 (Bd (cs:=[_,_,_,_,_,_]) C C C) λb1=>Ge1 (A4 ty105 C) λZ=>Ac<|Ad<|Gf fld82_0 C<|Gl ef ?_
 refine Gf fld82_1 C<|Gl ef ?_
 refine Gr (Bq (cells:=[_,_]) ty105 Ds pl105 C C)<|Ge0 (Cz ty105) ?_
 exact Ac<|Az<|Ez C ty105 C mm C I Ax ⟨rfl,rfl⟩
end Go.Sl
namespace Go.Sl
end Go.Sl
namespace Go.Sl
open Go.Proofs
set_option maxRecDepth 4000
def IdxF{α:Type}[Inhabited α](p:α->Bool)(xs:List α)(y:Int):Prop:=
 (y = -1/\∀j:Nat,j<xs.length->p (e_ xs j)=false)\/(0<=y/\y<xs.length/\(∀j:Nat,(j:Int)<y->p (e_ xs j)=false)/\p (e_ xs y)=true)
theorem IdxF.any{α:Type}[Inhabited α]{p:α->Bool}{xs:List α}{y:Int}(h:IdxF p xs y):decide (0<=y)=xs.any p:=by
 rcases h with ⟨rfl,h⟩|⟨Z,hl,_,h⟩
 ·have:xs.any p=false:=by
   rw [List.any_eq_false];intro x M
   obtain ⟨j,hj,rfl⟩:=mem_at M
   rw [h j hj];decide
  rw [this];rfl
 rw [decide_eq_true Z]
 exact (List.any_eq_true.2 ⟨_,B7 Z om,h⟩).symm
end Go.Sl
