/- A part of the proofs of statements of this seat: contracts of functions, and the plain laws that they lean on. No conditions. -/
import Derived.Test.YtoagcglbkeomgaaGreatDoorQ5
import Derived.Shelf.SlSortCmp.NoneTotal
import Derived.Shelf.SlSortCmp.WholeK
import Derived.MapKept
set_option linter.unusedVariables false
set_option linter.unusedSimpArgs false
set_option linter.unusedSectionVars false
open Go.Proofs.Tryz (prog)
namespace Go.Sl
open Go.Proofs
set_option maxRecDepth 4000
variable{u v:Value}{xs ys:List Int}
variable {κ:Ctx}{I:List Item}
def cmpL:List Int->List Int->Int
 |[],[]=>0
 |[],_::_=> -1
 |_::_,[]=>1
 |x::xs,y::ys=>if y<x then 1 else if x<y then -1 else cmpL xs ys
theorem cmpL_eq:∀xs ys,cmpL xs ys=0↔xs=ys
 |[],[]=>by simp [cmpL]
 |[],_::_=>by simp [cmpL]
 |_::_,[]=>by simp [cmpL]
 |x::xs,y::ys=>by
  simp only [cmpL]
  split
  ·simp;omega
  split
  ·simp;omega
  rw [cmpL_eq xs ys]
  have:x=y:=by omega
  simp [this]
theorem cmpL_drop(xs ys:List Int)(k:Nat)(hx:k<xs.length)(M:k<ys.length)(h1:¬e_ ys k<e_ xs k)(Z:¬e_ xs k<e_ ys k):cmpL (xs.drop k) (ys.drop k)=cmpL (xs.drop (k+1)) (ys.drop (k+1)):=by
 rw [E2 xs k hx,E2 ys k M]
 simp only [cmpL]
 rw [if_neg h1,if_neg Z]
theorem cmpL_drop1(xs ys:List Int)(k:Nat)(M:k<xs.length)(h:ys.length<=k\/(k<ys.length/\e_ ys k<e_ xs k)):cmpL (xs.drop k) (ys.drop k)=1:=by
 rw [E2 xs k M]
 rcases h with h|⟨Z,h⟩
 ·rw [List.drop_eq_nil_of_le h];rfl
 rw [E2 ys k Z];simp only [cmpL];rw [if_pos h]
theorem cmpL_dropn(xs ys:List Int)(k:Nat)(hx:k<xs.length)(Z:k<ys.length)(M:¬e_ ys k<e_ xs k)(h:e_ xs k<e_ ys k):cmpL (xs.drop k) (ys.drop k) = -1:=by
 rw [E2 xs k hx,E2 ys k Z];simp only [cmpL];rw [if_neg M,if_pos h]
theorem cmpL_end(xs ys:List Int)(k:Nat)(Z:xs.length<=k):cmpL (xs.drop k) (ys.drop k)=if k<ys.length then -1 else 0:=by
 rw [List.drop_eq_nil_of_le Z]
 split
 ·rename_i h;rw [E2 ys k h];rfl
 rename_i h;rw [List.drop_eq_nil_of_le om];rfl
theorem Cmp_ok(hu:Sl κ I u xs)(hv:Sl κ I v ys):eu prog κ 25 [u,v] I (λr J=>r=e7 (cmpL xs ys)/\I=J):=by
 refine B9 hu.le λae=>?_
 refine B9 hv.le λaa=>?_
 refine Ce2 Tryz.func25 C C ?_
 refine Af<|Ga C<|Ad<|Ap<|Af<|Gm C<|Gr (B5 (α:=Int) (xs:=xs) Ab C<|A6 hu)<|Gm C<|Ad<|A0<|B1 (σ:=Nat) (λs=>([(0,u),(1,v),(7,e7 ((xs.length:Nat):Int)),(8,e7 ((s:Nat):Int))]:Env)) (λs=>I) (λs=>(s<=xs.length)/\(cmpL xs ys=cmpL (xs.drop s) (ys.drop s))) (λs=>xs.length - s) 0 (show ((0:Nat)<=xs.length)/\(cmpL xs ys=cmpL (xs.drop (0:Nat)) (ys.drop (0:Nat))) from ⟨om,rfl⟩) (Aa C<|Aa C<|Aa C<|Aa Cd Bl) (show Fit κ _ I from Bf) ?_
 rintro k hp
 obtain ⟨hk,Z⟩:=hp
 refine Af<|Gr (Bb C C)<|Ad<|Ap<|A8 C (λc9=>?_)<|λc9=>?_
 ·refine Aw (Ah<|Ap<|A0<|Af<|Gm C<|Ga C<|Ad<|A0<|Ap<|Bq mixed<|Cc I 16<|Dr 0 C (Ai C)<|Dr 1 C (Ai C)<|Dr 2 C (B5 (α:=Int) (xs:=ys) Ab C<|A6 hv)<|Dr 3 C (C3 C C)<|Dr 4 C (Ai C)<|Ey (d:=16) C (λad=>?_)<|λad=>?_)
  ·exact Dpo 5 C<|Dpo 6 C<|Dpo 7 C<|Dpo 8 C<|Dpo 9 C<|Dpo 10 C<|Dpo 11 C<|Dpo 12 C<|Dpo 13 C<|Dr 14 C (A3 C C)<|Dr 15 C (Ba C)<|Dz<|Ah<|Am (S6 11 5 0 1 7 8 C C C C C C)<|Dp C<|Af<|Ga C<|Ad<|Ay<|Be<|Be<|Aq<|Aq<|Be<|Aq<|A1 C C _ Av ⟨by rw [Z,cmpL_drop1 xs ys k om<|.inl om],rfl⟩
  refine Dro 5 C (Ai C)<|Dro 6 C (Ai C)<|Dro 7 C (Az (α:=Int) (xs:=xs) Ab ef C C (A6 hu) om om)<|Dro 8 C (Bw (xs:=xs) ef C (A6 hu) om om)<|Dro 9 C (Ai C)<|Dro 10 C (Ai C)<|Dro 11 C (Az (α:=Int) (xs:=ys) Ab ef C C (A6 hv) om om)<|Dro 12 C (Bw (xs:=ys) ef C (A6 hv) om om)<|Dro 13 C (Ck C C)<|Dr 14 C (Bd C C)<|Dr 15 C (Ba C)<|Dz<|Ah<|Am (S6 11 5 0 1 7 8 C C C C C C)<|A8 C (λc11=>?_)<|λc11=>?_
  ·exact Af<|Ga C<|Ad<|Ay<|Be<|Be<|Aq<|Aq<|Be<|Aq<|A1 C C _ Av ⟨by rw [Z,cmpL_drop1 xs ys k om<|.inr ⟨by omega,by omega⟩],rfl⟩
  refine Ap<|Bq mixed<|Cc I 10<|Dr 0 C (Ai C)<|Dr 1 C (Ai C)<|Dr 2 C (Az (α:=Int) (xs:=xs) Ab ef C C (A6 hu) om om)<|Dr 3 C (Bw (xs:=xs) ef C (A6 hu) om om)<|Dr 4 C (Ai C)<|Dr 5 C (Ai C)<|Dr 6 C (Az (α:=Int) (xs:=ys) Ab ef C C (A6 hv) om om)<|Dr 7 C (Bw (xs:=ys) ef C (A6 hv) om om)<|Dr 8 C (Bb C C)<|Dr 9 C (Ba C)<|Dz<|Ah<|Am (S5 27 0 1 7 8 C C C C C)<|A8 C (λM=>?_)<|λM=>?_
  ·exact Af<|Ga C<|Ad<|Ay<|Be<|Be<|Aq<|Aq<|Be<|Aq<|A1 C C _ Av ⟨by rw [Z,cmpL_dropn xs ys k om om om om],rfl⟩
  exact Aw<|Al<|Al<|Ah<|Au<|Gr (Rad C C)<|Gm C<|Bo<|Cf ((k+1)) ⟨om,(Z.trans<|cmpL_drop xs ys k om om om om)⟩
 refine Bx<|Ao<|Ao<|A9<|Ah<|Ap<|Af<|Gm C<|Gr (B5 (α:=Int) (xs:=xs) Ab C<|A6 hu)<|Gm C<|Gr (B5 (α:=Int) (xs:=ys) Ab C<|A6 hv)<|Gr (Bb C C)<|Ad<|A8 C (λab=>?_)<|λab=>?_
 ·exact Af<|Ga C<|Ad<|Ay<|Aq<|A1 C C _ Av ⟨by rw [Z,cmpL_end xs ys k om,if_pos om],rfl⟩
 exact Aw<|Ah<|Af<|Ga C<|Ad<|Ay<|A1 C C _ Av ⟨by rw [Z,cmpL_end xs ys k om,if_neg om],rfl⟩
theorem Same_ok(hu:Sl κ I u xs)(hv:Sl κ I v ys):eu prog κ 120 [u,v] I (λr J=>r = .bool (decide (xs=ys))/\I=J):=by
 refine Ce2 Tryz.func120 C C ?_
 refine Af<|Ga C<|Ad<|Af<|Gm C<|Gr (B5 (α:=Int) (xs:=xs) Ab C<|A6 hu)<|Gm C<|Gr (B5 (α:=Int) (xs:=ys) Ab C<|A6 hv)<|Gr (Bs C C)<|Gm C<|Br (d:=10) C (λZ=>?_)<|λZ=>?_
 ·refine e9 (Ai C) (e9 (Ai C)<|Dm (Ch C C C) (Aj c_ C C<|Cmp_ok (A6 hu)<|A6 hv) ?_)
  rintro _ _ ⟨_,_,⟨rfl,rfl⟩,rfl,rfl⟩
  refine e9 (Bs C C)<|Gr (A3 C C)<|Ga C<|Ad<|Am (S1 4 C)<|Ay ?_
  have M:decide (cmpL xs ys=0)=decide (xs=ys):=by rw [decide_eq_decide];exact cmpL_eq xs ys
  exact A1 C C _ Av ⟨by rw [M],rfl⟩
 refine eb<|eb<|eb<|eb<|Gr (Bd C C)<|Ga C<|Ad<|Am (S1 4 C)<|Ay ?_
 have M:¬xs=ys:=λe=>by subst e;exact absurd rfl Z
 exact A1 C C _ Av ⟨by rw [decide_eq_false M],rfl⟩
def putL:List Int->Int->List Int
 |[],x=>[x]
 |y::ys,x=>if y<x then y::putL ys x else if y=x then y::ys else x::y::ys
def ofL(l:List Int):List Int:=l.foldl putL []
theorem mem_putL(x y:Int):∀l,y∈putL l x↔y=x\/y∈l
 |[]=>by simp [putL]
 |z::zs=>by
  simp only [putL]
  split
  ·simp only [List.mem_cons,mem_putL x y zs]
   constructor
   ·rintro (h|h|h)<;>simp [h]
   rintro (h|h|h)<;>simp [h]
  split
  ·rename_i e;subst e;simp
  simp
theorem mem_foldl_putL(y:Int):∀(l acc:List Int),y∈l.foldl putL acc↔y∈l\/y∈acc
 |[],acc=>by simp
 |x::l,acc=>by
  rw [List.foldl_cons,mem_foldl_putL y l,mem_putL]
  simp only [List.mem_cons]
  constructor
  ·rintro (h|h|h)<;>simp [h]
  rintro ((h|h)|h)<;>simp [h]
theorem mem_ofL(l:List Int)(y:Int):y∈ofL l↔y∈l:=by simp [ofL,mem_foldl_putL]





end Go.Sl
namespace Go.Sl
open Go.Proofs Go.Shelf Go.RowKit Go.Lib Go.Sort
variable{P:Program}{κ:Ctx}{I:List Item}
section
variable {α:Type}[Enc α][Inhabited α]
theorem flat_cells(d:Array α):flatK Enc.enc (Enc.sz α) d=(cells d.toList).toArray:=by
 apply Array.ext
 ·simp [cells_length]
 intro t h1 h2
 have aa:t<d.size*Enc.sz α:=by simpa using h1
 have M:0<Enc.sz α:=Enc.pos
 have hi:t / Enc.sz α<d.size:=Nat.div_lt_of_lt_mul (by rw [Nat.mul_comm];exact aa)
 have hj:t % Enc.sz α<Enc.sz α:=Nat.mod_lt _ M
 have e1:t=t / Enc.sz α*Enc.sz α+t % Enc.sz α:=by rw [Nat.mul_comm];exact (Nat.div_add_mod t<|Enc.sz α).symm
 have e2:=cells_get d.toList (t / Enc.sz α) (t % Enc.sz α) (by simpa using hi) hj
 rw [←e1] at e2
 have e3:(cells d.toList)[t]? = some ((cells d.toList)[t]'(by simpa using h2)):=List.getElem?_eq_getElem _
 rw [e3] at e2
 have Z:t % Enc.sz α<(Enc.enc<|d.toList[t / Enc.sz α]'(by simpa using hi)).length:=by rw [Enc.len];exact hj
 rw [List.getElem?_eq_getElem Z] at e2
 have e4:=Option.some.inj e2
 simp only [List.getElem_toArray]
 rw [e4]
 simp [flatK,getElem!_pos,hi,Enc.len,hj]
theorem sort_base{ρ:Ren}(L:SlLaysF0.n6 P ρ)(aE:∀w,(isAgg (ρ.t 24)).run P w = .ok true w)(zE:∀w,(Go.sizeOf (ρ.t 24)).run P w = .ok (Enc.sz α) w)(cf:α->α->Int)(hO:SWO (ltOf cf))(g:Nat)(cb:Array Value)
  (eg:∀args w,(callFunc g args).run P w = .ok (.enter g args) w) (ao:∀(x y:α) (W:World),Calls P g (#[.agg (Enc.enc x).toArray,.agg (Enc.enc y).toArray]++cb) W λe w'=>e = .returned (.int .i64<|cf x y)/\∃q os',w'=grow (W.drewN q) os')
  {e:TypeId} {ad:Option Addr} {c:Nat} {xs:List α} (hc:0<c) (a3:xs.length<4611686018427387904):eu P κ (ρ.f 6) [.slice ad xs.length c,.func (.func g) #[] cb] (vc e (.slice ad xs.length c) xs::I) λr J=>∃ys:List α,(r = .tuple #[]/\ys.Perm xs/\ys.Pairwise λa b=>ltOf cf b a=false)/\J=[]++vc e (.slice ad ys.length c) ys::I:=by
 intro w hs
 obtain ⟨a0,_⟩:=hs.ok _ List.mem_cons_self
 obtain ⟨a',a5,hv,hl,aq,a1,ap⟩:=a0
 cases hv
 obtain ⟨b,off,aj,rfl,hb,ak,an⟩:=ap hc
 have ar:b<w.heap.size:=(Array.getElem?_eq_some_iff.1 hb).1
 have a8:=cells_length xs
 have a7:xs.length*Enc.sz α<=c*Enc.sz α:=Nat.mul_le_mul_right _ aq
 have hH:HoldsK Enc.enc (Enc.sz α) w b off xs.toArray:=λj hj=>by
  rw [flat_cells] at hj ⊢
  have Z:j<(cells xs).length:=by simpa using hj
  have h1:=an j ((cells xs)[j]) (List.getElem?_eq_getElem Z)
  refine ⟨?_,by simp [World.frozen?,hb]⟩
  rw [cell_of_row w b (off+j) aj e (0,0) hb,h1]
  simp [getElem!_pos,Z]
 have h:=AnyQ.slices_SortFunc L (Enc.sz α) aE zE Enc.enc Enc.len Enc.one cf hO g cb b off c xs.toArray w eg (λm os dk _ x y=>ao x y _) hH ar (by simpa using a3)
 refine Calls.mono h ?_
 rintro e' w' ⟨rfl,M,n,os,⟨au,_,aa⟩,ai,rfl⟩
 have ah:M.size=xs.length:=by simpa using au
 have ab:M.toList.Perm xs:=by
  have e1:M.extract 0 xs.toArray.size=M:=by rw [←au];simp
  have e2:xs.toArray.extract 0 xs.toArray.size=xs.toArray:=by simp
  rw [e1,e2] at aa
  exact aa
 have ae:M.toList.length=xs.length:=by simpa using ah
 refine ⟨_,_,rfl,⟨M.toList,⟨rfl,ab,?_⟩,rfl⟩,?_⟩
 ·rw [List.pairwise_iff_getElem]
  intro i j hi hj ax
  have:=ai i j (Nat.zero_le _) ax (by simpa [ah] using hj)
  simp only [Array.length_toList] at hi hj
  rw [getElem!_pos M i hi,getElem!_pos M j hj] at this
  simpa using this
 show Sep κ _ (vc e (.slice (some ⟨b,off,none⟩) M.toList.length c) M.toList::I)
 refine hs.upd (At.head _ _ _) rfl ⟨rfl,by simp [sortWorldK,putRowK,Sort.grow]⟩ rfl (by simp [sortWorldK,putRowK]) (λk hk az=>?_) ?_ λk hk=> .inl ?_
 ·have ay:k≠b:=λaw=>az (by subst aw;exact ⟨off,xs.length,c,rfl,hc⟩)
  simp only [sortWorldK,Sort.grow,putRowK,putRow,mapBlock]
  rw [Array.getElem?_append_left (by simpa using hk),Array.getElem?_modify,if_neg<|λe=>ay e.symm]
  rfl
 ·refine ⟨_,c,rfl,cells_length _,by rw [ae];exact aq,a1,λ_=>⟨b,off,putCells id off (flatK Enc.enc (Enc.sz α) M) aj,rfl,?_,?_,λj u hj=>?_⟩⟩
  ·simp only [sortWorldK,Sort.grow,putRowK,putRow,mapBlock]
   rw [Array.getElem?_append_left (by simpa using ar),Array.getElem?_modify,if_pos rfl]
   show (w.heap[b]?).map _=_
   rw [hb];rfl
  ·simpa [putCells] using ak
  have Z:j<(cells M.toList).length:=(List.getElem?_eq_some_iff.1 hj).1
  have a6:j<xs.length*Enc.sz α:=by rw [cells_length,ae] at Z;exact Z
  have av:off+j<aj.size:=by omega
  rw [flat_cells]
  simp only [putCells,Array.getElem?_mapIdx,Array.getElem?_eq_getElem av,Option.map_some]
  rw [if_pos ⟨by omega,by simpa using Z⟩,Nat.add_sub_cancel_left]
  rw [List.getElem?_eq_getElem Z] at hj
  simpa [getElem!_pos,Z] using hj
 obtain ⟨o',n',c',a4,a9⟩:=hk
 cases a4
 exact ⟨off,xs.length,c,rfl,hc⟩
theorem sort_any{ρ:Ren}(L:SlLaysF0.n6 P ρ)(aE:∀w,(isAgg (ρ.t 24)).run P w = .ok true w)(zE:∀w,(Go.sizeOf (ρ.t 24)).run P w = .ok (Enc.sz α) w)(M:α->α->Int)(hO:SWO (ltOf M))(g:Nat)(cb:Array Value)
  (eg:∀args w,(callFunc g args).run P w = .ok (.enter g args) w) (Z:∀(x y:α) (W:World),Calls P g (#[.agg (Enc.enc x).toArray,.agg (Enc.enc y).toArray]++cb) W λe w'=>e = .returned (.int .i64<|M x y)/\∃q os',w'=grow (W.drewN q) os')
  {e:TypeId} {ad:Option Addr} {c:Nat} {xs:List α} (ab:xs.length<4611686018427387904):eu P κ (ρ.f 6) [.slice ad xs.length c,.func (.func g) #[] cb] (vc e (.slice ad xs.length c) xs::I) λr J=>∃ys:List α,(r = .tuple #[]/\ys.Perm xs/\ys.Pairwise λa b=>ltOf M b a=false)/\J=[]++vc e (.slice ad ys.length c) ys::I:=by
 by_cases hc:0<c
 ·exact sort_base L aE zE M hO g cb eg Z hc ab
 intro w hs
 obtain ⟨aa,_⟩:=hs.ok _ List.mem_cons_self
 obtain ⟨a',ae,hv,hl,ai,aj,ah⟩:=aa
 cases hv
 obtain rfl:xs=[]:=List.eq_nil_of_length_eq_zero (by omega)
 refine Calls.mono (AnyF.slices_SortFunc_none L ad c _ w) ?_
 rintro e' w' ⟨rfl,rfl⟩
 exact ⟨_,_,rfl,⟨[],⟨rfl,List.Perm.nil,List.Pairwise.nil⟩,rfl⟩,hs⟩
end
theorem lays_of{f:FuncId}{Z:List Value}{v:Value}{W:World}(h:eu P ⟨W.os,W.tape,W.output,W.drawn⟩ f Z [old W.heap.size W] λr J=>r=v/\[old W.heap.size W]=J) :
  Calls P f Z.toArray W λe w'=>e = .returned v/\∃q aa,w'=Sort.grow (W.drewN q) aa:=(h W<|Sep.begin W).mono λe w' ⟨r,J,he,⟨hv,hJ⟩,hs⟩=>by
 subst hv hJ
 refine ⟨he,w'.drawn - W.drawn,w'.heap.extract W.heap.size w'.heap.size,?_⟩
 have hb:=hs.below List.mem_cons_self
 have aj:∀k,k<W.heap.size->w'.heap[k]? = W.heap[k]? :=(hs.ok _ List.mem_cons_self).1
 have hd:=hs.tape.2
 have M:w'.heap=W.heap++w'.heap.extract W.heap.size w'.heap.size:=by
  apply Array.ext_getElem?
  intro k
  by_cases hk:k<W.heap.size
  ·rw [Array.getElem?_append_left hk];exact aj k hk
  rw [Array.getElem?_append_right (by omega),Array.getElem?_extract]
  have ao:=hb.size
  by_cases hk2:k<w'.heap.size
  ·rw [if_pos (by omega)];congr 1;omega
  rw [Array.getElem?_eq_none (by omega)]
  split
  ·omega
  rfl
 have e:W.drawn+(w'.drawn - W.drawn)=w'.drawn:=by have:W.drawn<=w'.drawn:=hd;omega
 have ah:w'.os=W.os:=hs.os
 have ak:w'.tape=W.tape:=hs.tape.1
 have ai:w'.output=W.output:=hs.output
 obtain ⟨ad,ae,ab,aa,an⟩:=w'
 simp only [Sort.grow,World.drewN] at *
 subst ah ak ai
 rw [e,←M]
end Go.Sl
namespace Go.Proofs
def Tryz.sort211_ren:Go.Shelf.Ren:=⟨fun |6=>211|15=>181|14=>221|28=>207|29=>208|20=>224|21=>225|22=>226|23=>227|24=>228|25=>229|26=>230|27=>231|46=>233|47=>215|48=>216|49=>234|50=>235|57=>236|n=>n,fun |22=>33|24=>82|25=>202|3=>3|39=>233|0=>0|53=>251|55=>207|4=>4|46=>244|45=>243|50=>225|5=>5|9=>9|66=>256|70=>260|76=>265|77=>266|n=>n,fun |n=>n⟩
theorem Tryz.sort211:Go.Proofs.SlLaysF0.n6 prog Tryz.sort211_ren:={
 mixed:=by kernel_rfl,
 f6:=⟨Tryz.f211.name,by decide,Tryz.func211.trans<|congrArg some<|by kernel_rfl⟩,
 f14:=⟨Tryz.f221.name,by decide,Tryz.func221.trans<|congrArg some<|by kernel_rfl⟩,
 f15:=Tryz.func181.trans (congrArg some<|by kernel_rfl),
 f20:=⟨Tryz.f224.name,by decide,Tryz.func224.trans<|congrArg some<|by kernel_rfl⟩,
 f21:=⟨Tryz.f225.name,by decide,Tryz.func225.trans<|congrArg some<|by kernel_rfl⟩,
 f22:=⟨Tryz.f226.name,by decide,Tryz.func226.trans<|congrArg some<|by kernel_rfl⟩,
 f23:=⟨Tryz.f227.name,by decide,Tryz.func227.trans<|congrArg some<|by kernel_rfl⟩,
 f24:=⟨Tryz.f228.name,by decide,Tryz.func228.trans<|congrArg some<|by kernel_rfl⟩,
 f25:=⟨Tryz.f229.name,by decide,Tryz.func229.trans<|congrArg some<|by kernel_rfl⟩,
 f26:=⟨Tryz.f230.name,by decide,Tryz.func230.trans<|congrArg some<|by kernel_rfl⟩,
 f27:=⟨Tryz.f231.name,by decide,Tryz.func231.trans<|congrArg some<|by kernel_rfl⟩,
 f28:=Tryz.func207.trans (congrArg some<|by kernel_rfl),
 f29:=Tryz.func208.trans (congrArg some<|by kernel_rfl),
 f46:=⟨Tryz.f233.name,by decide,Tryz.func233.trans<|congrArg some<|by kernel_rfl⟩,
 f47:=Tryz.func215.trans (congrArg some<|by kernel_rfl),
 f48:=Tryz.func216.trans (congrArg some<|by kernel_rfl),
 f49:=⟨Tryz.f234.name,by decide,Tryz.func234.trans<|congrArg some<|by kernel_rfl⟩,
 f50:=⟨Tryz.f235.name,by decide,Tryz.func235.trans<|congrArg some<|by kernel_rfl⟩,
 f57:=⟨Tryz.f236.name,by decide,Tryz.func236.trans<|congrArg some<|by kernel_rfl⟩,
 t0:=Tryz.underlying0,
 a0:=Tryz.isAgg0,
 z0:=Tryz.sizeOf0,
 v0:=Tryz.zeroValue0,
 t3:=Tryz.underlying3,
 a3:=Tryz.isAgg3,
 z3:=Tryz.sizeOf3,
 v3:=Tryz.zeroValue3,
 t4:=Tryz.underlying4,
 a4:=Tryz.isAgg4,
 z4:=Tryz.sizeOf4,
 v4:=Tryz.zeroValue4,
 t5:=Tryz.underlying5,
 a5:=Tryz.isAgg5,
 z5:=Tryz.sizeOf5,
 v5:=Tryz.zeroValue5,
 t9:=Tryz.underlying9,
 a9:=Tryz.isAgg9,
 z9:=Tryz.sizeOf9,
 v9:=Tryz.zeroValue9,
 t22:=Tryz.underlying33,
 a22:=Tryz.isAgg33,
 z22:=Tryz.sizeOf33,
 v22:=Tryz.zeroValue33,
 t25:=Tryz.underlying202,
 a25:=Tryz.isAgg202,
 z25:=Tryz.sizeOf202,
 v25:=Tryz.zeroValue202,
 t39:=Tryz.underlying233,
 a39:=Tryz.isAgg233,
 z39:=Tryz.sizeOf233,
 v39:=Tryz.zeroValue233,
 t45:=Tryz.underlying243,
 a45:=Tryz.isAgg243,
 z45:=Tryz.sizeOf243,
 v45:=Tryz.zeroValue243,
 t46:=Tryz.underlying244,
 a46:=Tryz.isAgg244,
 z46:=Tryz.sizeOf244,
 v46:=Tryz.zeroValue244,
 t50:=Tryz.underlying225,
 a50:=Tryz.isAgg225,
 z50:=Tryz.sizeOf225,
 v50:=Tryz.zeroValue225,
 t53:=Tryz.underlying251,
 a53:=Tryz.isAgg251,
 z53:=Tryz.sizeOf251,
 v53:=Tryz.zeroValue251,
 t55:=Tryz.underlying207,
 a55:=Tryz.isAgg207,
 z55:=Tryz.sizeOf207,
 v55:=Tryz.zeroValue207,
 t66:=Tryz.underlying256,
 a66:=Tryz.isAgg256,
 z66:=Tryz.sizeOf256,
 v66:=Tryz.zeroValue256,
 t70:=Tryz.underlying260,
 a70:=Tryz.isAgg260,
 z70:=Tryz.sizeOf260,
 v70:=Tryz.zeroValue260,
 t76:=Tryz.underlying265,
 a76:=Tryz.isAgg265,
 z76:=Tryz.sizeOf265,
 v76:=Tryz.zeroValue265,
 t77:=Tryz.underlying266,
 a77:=Tryz.isAgg266,
 z77:=Tryz.sizeOf266,
 v77:=Tryz.zeroValue266}
end Go.Proofs
namespace Go.Sl
open Go.Proofs
set_option maxRecDepth 4000
variable{n:Int}
theorem Order_ok{κ:Ctx}{I:List Item}(a c:Pt):eu prog κ 131 [.agg #[e7 (a.u),e7 (a.v)],.agg #[e7 (c.u),e7 (c.v)]] I (λr J=>r=e7 (Pt.cmp a c)/\I=J):=by
 refine Ce2 Tryz.func131 C C ?_
 refine Af<|Ge1 (Bc (cs:=[_,_]) C C C) λb1=>Ge1 (Bc (cs:=[_,_]) C C C) λZ=>Ga C<|Ad<|Ap<|Bq mixed<|Cc (e8 Z [e7 (c.u),e7<|c.v] 105::e8 b1 [e7 (a.u),e7<|a.v] 105::I) 12<|Dr 0 C (Ac fld105_0 C)<|Dr 1 C (A7 ef) ?_
 refine Dr 2 C (Ac fld105_0 C)<|Dr 3 C (A7 ef) ?_
 refine Dr 5 C (Ac fld105_1 C)<|Dr 6 C (A7 ef) ?_
 refine Dr 7 C (Ac fld105_1 C)<|Dr 8 C (A7 ef) ?_
 refine Ds1 4<|Sc0 C (Aj c_ C C<|Compare_ok a.u c.u) ?_
 refine Ds1 9<|Sc0 C (Aj c_ C C<|Compare_ok a.v c.v) ?_
 refine Ds1 10<|Se1 C (Co (α:=Int) (cs:=[_,_]) (xs:=[cmpI a.u c.u,cmpI a.v c.v]) Ab ef C C dc dc C C C C) λM=>?_
 refine Ds1 11<|Sc0 C (Aj c_ C C<|Or_ok Bh) ?_
 refine Ct kr ?_
 refine Du (i:=12) kr C (Bk C) C C (Ba C) ?_
 refine Cu kr ?_
 exact Ah<|Am (S1 4 C)<|Ay<|A1 C C I Av ⟨by rw [←orL_cmp],rfl⟩
variable {κ:Ctx}{I:List Item}
structure Lk where
 u:Int
 v:Int
 w:Int
 lb:Int
 sg:Int
 tm:Int
deriving DecidableEq,Inhabited
instance:Enc Lk:=⟨λx=>[e7 x.u,e7 x.v,e7 x.w,e7 x.lb,e7 x.sg,e7 x.tm],6,by omega,λ_=>rfl,λx u h=>by
 simp only [List.mem_cons,List.not_mem_nil,or_false] at h
 rcases h with rfl|rfl|rfl|rfl|rfl|rfl<;>rfl⟩
theorem eqt82:EqT prog 82 Lk:=EqT.flat (λp:Lk=>[p.u,p.v,p.w,p.lb,p.sg,p.tm]) (λ_=>rfl) (λx y h=>by cases x;cases y;simpa using h) (n:=6) (λ_=>rfl) kr kr kr kr kr
structure Ev where
 kd:Int
 tm:Int
 u:Int
 v:Int
 w:Int
 lb:Int
 sg:Int
deriving DecidableEq,Inhabited
instance:Enc Ev:=⟨λx=>[e7 x.kd,e7 x.tm,e7 x.u,e7 x.v,e7 x.w,e7 x.lb,e7 x.sg],7,by omega,λ_=>rfl,λx u h=>by
 simp only [List.mem_cons,List.not_mem_nil,or_false] at h
 rcases h with rfl|rfl|rfl|rfl|rfl|rfl|rfl<;>rfl⟩
theorem eqt54:EqT prog 54 Ev:=EqT.flat (λp:Ev=>[p.kd,p.tm,p.u,p.v,p.w,p.lb,p.sg]) (λ_=>rfl) (λx y h=>by cases x;cases y;simpa using h) (n:=7) (λ_=>rfl) kr kr kr kr kr
def Lk.p(l:Lk):Pt:=⟨l.u,l.v⟩
def Lk.cmp(a c:Lk):Int:=Pt.cmp a.p c.p
def Lk.lt(a c:Lk):Prop:=Pt.lt a.p c.p
instance:DecidableRel Lk.lt:=λa c=>by unfold Lk.lt;infer_instance
def rightW(w lb sg:Int):Prop:=1<=w/\w<=1000/\0<=lb/\lb<=15/\(sg=1\/sg = -1)
instance (w lb sg:Int):Decidable (rightW w lb sg):=by unfold rightW;infer_instance
def badL(n:Int)(l:Lk):Int:=if l.u<0\/l.v<=l.u\/n<=l.v then 6 else if ¬rightW l.w l.lb l.sg then 1 else if l.tm<0\/1048576<l.tm then 9 else 0
def checkS(n:Int)(xs:List Lk):Int:=if n<0\/64<n then 1 else scanL (badL n) Lk.lt none xs
theorem badL_zero{l:Lk}(M:¬(l.u<0\/l.v<=l.u\/n<=l.v))(Z:rightW l.w l.lb l.sg)(h3:¬(l.tm<0\/1048576<l.tm)):badL n l=0:=by
 unfold badL;rw [if_neg M,if_neg<|λh=>h Z,if_neg h3]
theorem badL_six{l:Lk}(Z:l.u<0\/l.v<=l.u\/n<=l.v):badL n l=6:=by unfold badL;rw [if_pos Z]
theorem badL_one{l:Lk}(M:¬(l.u<0\/l.v<=l.u\/n<=l.v))(Z:¬rightW l.w l.lb l.sg):badL n l=1:=by unfold badL;rw [if_neg M,if_pos Z]
theorem badL_nine{l:Lk}(M:¬(l.u<0\/l.v<=l.u\/n<=l.v))(Z:rightW l.w l.lb l.sg)(h3:l.tm<0\/1048576<l.tm):badL n l=9:=by unfold badL;rw [if_neg M,if_neg (λh=>h Z),if_pos h3]
def checkW(kd wd mo:Int):Int:=if kd<1\/3<kd then 8 else if (kd=2/\(wd<1\/1048576<wd))\/(kd≠2/\wd≠0)\/(kd=3/\(mo<0\/2016<mo))\/(kd≠3/\mo≠0) then 1 else 0
theorem CheckW_ok(kd wd mo:Int):eu prog κ 40 [.agg #[e7 kd,e7 wd,e7 mo]] I (λr J=>r=e7 (checkW kd wd mo)/\I=J):=by
 refine Ce1 Tryz.func40 C C ?_
 refine Af<|Ge1 (Bc (cs:=[_,_,_]) C C C) λb1=>Ga C<|Ad<|Af<|Ga C<|Ga C<|Ad<|Ap<|Af<|Gf fld29_0 C<|Gl ef ?_
 refine Ad<|A0<|Af<|Gr (Bs C C)<|Ga C<|Ad<|A8 C (λc7=>?_)<|λc7=>?_
 ·refine Aw (Al<|Ah<|Ap<|Af<|Gf fld29_1 C<|Gl ef ?_)
  refine Gm C<|Gr (Bn C C)<|Gm C<|Br (d:=37) C (λM=>?_)<|λM=>?_
  ·exact eb<|eb<|eb<|eb<|Gr (A3 C C)<|Ad<|Am (S1 42 C)<|Dp C<|Af<|Ga C<|Ad<|Ay<|Aq<|A1 C C I Av ⟨by rw [show checkW kd wd mo=1 from by unfold checkW;split<;>first|rfl|omega|(split<;>first|rfl|omega)],rfl⟩
  refine e9 (Ac fld29_2 C)<|e9 (A7 ef) ?_
  refine e9 (Ai C)<|e9 (Bn C C)<|Gr (Bd C C)<|Ad<|Am (S1 42 C)<|A8 C (λZ=>?_)<|λZ=>?_
  ·exact Af<|Ga C<|Ad<|Ay<|Aq<|A1 C C I Av ⟨by rw [show checkW kd wd mo=1 from by unfold checkW;split<;>first|rfl|omega|(split<;>first|rfl|omega)],rfl⟩
  exact Aw<|Ah<|Af<|Ga C<|Ad<|Ay<|A1 C C I Av ⟨by rw [show checkW kd wd mo=0 from by unfold checkW;split<;>first|rfl|omega|(split<;>first|rfl|omega)],rfl⟩
 refine Af<|Gr (Bs C C)<|Ga C<|Ad<|A8 C (λc9=>?_)<|λc9=>?_
 ·refine Ap (Af<|Gf fld29_1 C<|Gl ef ?_)
  refine Gr (Bb C C)<|Gm C<|Br (d:=14) C (λab=>?_)<|λab=>?_
  ·exact eb<|eb<|eb<|Gr (A3 C C)<|Ad<|Am (S3 18 4 1 C C C)<|Dp C<|Af<|Ga C<|Ad<|Ay<|Aq<|Be<|Aq<|A1 C C I Av ⟨by rw [show checkW kd wd mo=1 from by unfold checkW;split<;>first|rfl|omega|(split<;>first|rfl|omega)],rfl⟩
  refine e9 (Ac fld29_1 C)<|e9 (A7 ef) ?_
  refine e9 (Ck C C)<|Gr (Bd C C)<|Ad<|Am (S3 18 4 1 C C C)<|A8 C (λaa=>?_)<|λaa=>?_
  ·exact Af<|Ga C<|Ad<|Ay<|Aq<|Be<|Aq<|A1 C C I Av ⟨by rw [show checkW kd wd mo=1 from by unfold checkW;split<;>first|rfl|omega|(split<;>first|rfl|omega)],rfl⟩
  refine Aw<|Ah<|Au<|Gf fld29_1 C<|Gl ef ?_
  refine Ga C<|Bo<|Al<|Ah<|Ap<|Af<|Gf fld29_1 C<|Gl ef ?_
  refine Gm C<|Gr (Bn C C)<|Gm C<|Br (d:=37) C (λM=>?_)<|λM=>?_
  ·exact eb<|eb<|eb<|eb<|Gr (A3 C C)<|Ad<|Am (S1 42 C)<|Dp C<|Af<|Ga C<|Ad<|Ay<|Aq<|A1 C C I Av ⟨by rw [show checkW kd wd mo=1 from by unfold checkW;split<;>first|rfl|omega|(split<;>first|rfl|omega)],rfl⟩
  refine e9 (Ac fld29_2 C)<|e9 (A7 ef) ?_
  refine e9 (Ai C)<|e9 (Bn C C)<|Gr (Bd C C)<|Ad<|Am (S1 42 C)<|A8 C (λZ=>?_)<|λZ=>?_
  ·exact Af<|Ga C<|Ad<|Ay<|Aq<|A1 C C I Av ⟨by rw [show checkW kd wd mo=1 from by unfold checkW;split<;>first|rfl|omega|(split<;>first|rfl|omega)],rfl⟩
  exact Aw<|Ah<|Af<|Ga C<|Ad<|Ay<|A1 C C I Av ⟨by rw [show checkW kd wd mo=0 from by unfold checkW;split<;>first|rfl|omega|(split<;>first|rfl|omega)],rfl⟩
 refine Af<|Gr (Bs C C)<|Ga C<|Ad<|A8 C (λad=>?_)<|λad=>?_
 ·refine Ap (Af<|Gf fld29_2 C<|Gl ef ?_)
  refine Gr (Bb C C)<|Gm C<|Br (d:=26) C (λah=>?_)<|λah=>?_
  ·exact eb<|eb<|eb<|Gr (A3 C C)<|Ad<|Am (S3 30 3 1 C C C)<|Dp C<|Af<|Ga C<|Ad<|Ay<|Aq<|Be<|Aq<|A1 C C I Av ⟨by rw [show checkW kd wd mo=1 from by unfold checkW;split<;>first|rfl|omega|(split<;>first|rfl|omega)],rfl⟩
  refine e9 (Ac fld29_2 C)<|e9 (A7 ef) ?_
  refine e9 (Ck C C)<|Gr (Bd C C)<|Ad<|Am (S3 30 3 1 C C C)<|A8 C (λae=>?_)<|λae=>?_
  ·exact Af<|Ga C<|Ad<|Ay<|Aq<|Be<|Aq<|A1 C C I Av ⟨by rw [show checkW kd wd mo=1 from by unfold checkW;split<;>first|rfl|omega|(split<;>first|rfl|omega)],rfl⟩
  refine Aw<|Ah<|Au<|Gf fld29_2 C<|Gl ef ?_
  refine Ga C<|Bo<|Al<|Ah<|Ap<|Af<|Gf fld29_1 C<|Gl ef ?_
  refine Gm C<|Gr (Bn C C)<|Gm C<|Br (d:=37) C (λM=>?_)<|λM=>?_
  ·exact eb<|eb<|eb<|eb<|Gr (A3 C C)<|Ad<|Am (S1 42 C)<|Dp C<|Af<|Ga C<|Ad<|Ay<|Aq<|A1 C C I Av ⟨by rw [show checkW kd wd mo=1 from by unfold checkW;split<;>first|rfl|omega|(split<;>first|rfl|omega)],rfl⟩
  refine e9 (Ac fld29_2 C)<|e9 (A7 ef) ?_
  refine e9 (Ai C)<|e9 (Bn C C)<|Gr (Bd C C)<|Ad<|Am (S1 42 C)<|A8 C (λZ=>?_)<|λZ=>?_
  ·exact Af<|Ga C<|Ad<|Ay<|Aq<|A1 C C I Av ⟨by rw [show checkW kd wd mo=1 from by unfold checkW;split<;>first|rfl|omega|(split<;>first|rfl|omega)],rfl⟩
  exact Aw<|Ah<|Af<|Ga C<|Ad<|Ay<|A1 C C I Av ⟨by rw [show checkW kd wd mo=0 from by unfold checkW;split<;>first|rfl|omega|(split<;>first|rfl|omega)],rfl⟩
 exact Af<|Ga C<|Ad<|Am (S1 2 C)<|Ay<|Be<|Aq<|A1 C C I Av ⟨by rw [show checkW kd wd mo=8 from by unfold checkW;split<;>first|rfl|omega|(split<;>first|rfl|omega)],rfl⟩
theorem RightW_ok(w lb sg:Int):eu prog κ 92 [e7 w,e7 lb,e7 sg] I (λr J=>r = .bool (decide (rightW w lb sg))/\I=J):=by
 refine Ce3 Tryz.func92 C C ?_
 refine Af<|Ga C<|Ad<|Af<|Gm C<|Gr (C3 C C)<|Gm C<|Br (d:=9) C (λg9=>?_)<|λg9=>?_
 ·refine e9 (Ai C) (e9 (E3 C C)<|Gr (A3 C C)<|Gm C<|Br (d:=13) C (λab=>?_)<|λab=>?_)
  ·refine e9 (Ai C) (e9 (C3 C C)<|Gr (A3 C C)<|Gm C<|Br (d:=17) C (λM=>?_)<|λM=>?_)
   ·refine e9 (Ai C) (e9 (E3 C C)<|Gr (A3 C C)<|Gm C<|Br (d:=21) C (λaa=>?_)<|λaa=>?_)
    ·refine e9 (Ai C) (e9 (Bs C C)<|e9 (Ai C)<|Br (d:=24) C (λZ=>?_)<|λZ=>?_)
     ·exact eb<|eb<|e9 (A3 C C)<|Gr (A3 C C)<|Ga C<|Ad<|Am (S1 6 C)<|Ay<|A1 C C I Av ⟨(by first|exact congrArg Value.bool (decide_eq_decide.2<|by unfold rightW;omega)|exact congrArg Value.bool (decide_eq_true<|by unfold rightW;omega).symm|exact congrArg Value.bool (decide_eq_false<|by unfold rightW;omega).symm),rfl⟩
     exact e9 (Ai C)<|e9 (Bs C C)<|e9 (Bd C C)<|Gr (A3 C C)<|Ga C<|Ad<|Am (S1 6 C)<|Ay<|A1 C C I Av ⟨(by first|exact congrArg Value.bool (decide_eq_decide.2<|by unfold rightW;omega)|exact congrArg Value.bool (decide_eq_true<|by unfold rightW;omega).symm|exact congrArg Value.bool (decide_eq_false<|by unfold rightW;omega).symm),rfl⟩
    exact eb<|eb<|eb<|ee<|ee<|eb<|Gr (Bd C C)<|Ga C<|Ad<|Am (S1 6 C)<|Ay<|A1 C C I Av ⟨(by first|exact congrArg Value.bool (decide_eq_decide.2<|by unfold rightW;omega)|exact congrArg Value.bool (decide_eq_true<|by unfold rightW;omega).symm|exact congrArg Value.bool (decide_eq_false<|by unfold rightW;omega).symm),rfl⟩
   exact eb<|eb<|Gr (Bd C C)<|Gm C<|eb<|eb<|eb<|ee<|ee<|eb<|Gr (Bd C C)<|Ga C<|Ad<|Am (S1 6 C)<|Ay<|A1 C C I Av ⟨(by first|exact congrArg Value.bool (decide_eq_decide.2<|by unfold rightW;omega)|exact congrArg Value.bool (decide_eq_true<|by unfold rightW;omega).symm|exact congrArg Value.bool (decide_eq_false<|by unfold rightW;omega).symm),rfl⟩
  exact eb<|eb<|Gr (Bd C C)<|Gm C<|eb<|eb<|Gr (Bd C C)<|Gm C<|eb<|eb<|eb<|ee<|ee<|eb<|Gr (Bd C C)<|Ga C<|Ad<|Am (S1 6 C)<|Ay<|A1 C C I Av ⟨(by first|exact congrArg Value.bool (decide_eq_decide.2<|by unfold rightW;omega)|exact congrArg Value.bool (decide_eq_true<|by unfold rightW;omega).symm|exact congrArg Value.bool (decide_eq_false<|by unfold rightW;omega).symm),rfl⟩
 exact eb<|eb<|Gr (Bd C C)<|Gm C<|eb<|eb<|Gr (Bd C C)<|Gm C<|eb<|eb<|Gr (Bd C C)<|Gm C<|eb<|eb<|eb<|ee<|ee<|eb<|Gr (Bd C C)<|Ga C<|Ad<|Am (S1 6 C)<|Ay<|A1 C C I Av ⟨(by first|exact congrArg Value.bool (decide_eq_decide.2<|by unfold rightW;omega)|exact congrArg Value.bool (decide_eq_true<|by unfold rightW;omega).symm|exact congrArg Value.bool (decide_eq_false<|by unfold rightW;omega).symm),rfl⟩
theorem OrderL_ok(a c:Lk):eu prog κ 144 [.agg #[e7 (a.u),e7 (a.v),e7 (a.w),e7 (a.lb),e7 (a.sg),e7 (a.tm)],.agg #[e7 (c.u),e7 (c.v),e7 (c.w),e7 (c.lb),e7 (c.sg),e7 (c.tm)]] I (λr J=>r=e7 (Lk.cmp a c)/\I=J):=by
 refine Ce2 Tryz.func144 C C ?_
 refine Af<|Ge1 (Bc (cs:=[_,_,_,_,_,_]) C C C) λb1=>Ge1 (Bc (cs:=[_,_,_,_,_,_]) C C C) λZ=>Ga C<|Ad<|Ap<|Bq mixed<|Cc (e8 Z [e7 (c.u),e7<|c.v,e7<|c.w,e7<|c.lb,e7<|c.sg,e7<|c.tm] 82::e8 b1 [e7 (a.u),e7<|a.v,e7<|a.w,e7<|a.lb,e7<|a.sg,e7<|a.tm] 82::I) 12<|Dr 0 C (Ac fld82_0 C)<|Dr 1 C (A7 ef) ?_
 refine Dr 2 C (Ac fld82_0 C)<|Dr 3 C (A7 ef) ?_
 refine Dr 5 C (Ac fld82_1 C)<|Dr 6 C (A7 ef) ?_
 refine Dr 7 C (Ac fld82_1 C)<|Dr 8 C (A7 ef) ?_
 refine Ds1 4<|Sc0 C (Aj c_ C C<|Compare_ok a.u c.u) ?_
 refine Ds1 9<|Sc0 C (Aj c_ C C<|Compare_ok a.v c.v) ?_
 refine Ds1 10<|Se1 C (Co (α:=Int) (cs:=[_,_]) (xs:=[cmpI a.u c.u,cmpI a.v c.v]) Ab ef C C dc dc C C C C) λM=>?_
 refine Ds1 11<|Sc0 C (Aj c_ C C<|Or_ok Bh) ?_
 refine Ct kr ?_
 refine Du (i:=12) kr C (Bk C) C C (Ba C) ?_
 refine Cu kr ?_
 exact Ah<|Am (S1 4 C)<|Ay<|A1 C C I Av ⟨by rw [show Lk.cmp a c=Pt.cmp ⟨a.u,a.v⟩ ⟨c.u,c.v⟩ from rfl,←orL_cmp],rfl⟩
end Go.Sl
namespace Go.Sl
end Go.Sl
namespace Go.Sl
open Go.Proofs
set_option maxRecDepth 4000
def IdxF{α:Type}[Inhabited α](p:α->Bool)(xs:List α)(y:Int):Prop:=
 (y = -1/\∀j:Nat,j<xs.length->p (e_ xs j)=false)\/(0<=y/\y<xs.length/\(∀j:Nat,(j:Int)<y->p (e_ xs j)=false)/\p (e_ xs y)=true)
theorem IdxF.any{α:Type}[Inhabited α]{p:α->Bool}{xs:List α}{y:Int}(h:IdxF p xs y):decide (0<=y)=xs.any p:=by
 rcases h with ⟨rfl,h⟩|⟨Z,hl,_,h⟩
 ·have:xs.any p=false:=by
   rw [List.any_eq_false];intro x hx
   obtain ⟨j,M,rfl⟩:=mem_at hx
   rw [h j M];decide
  rw [this];rfl
 rw [decide_eq_true Z]
 exact (List.any_eq_true.2 ⟨_,Ca Z om,h⟩).symm
theorem ext_atw{α:Type}[Inhabited α]{xs ys:List α}(hl:xs.length=ys.length)(h:∀j,j<xs.length->e_ xs j=e_ ys j):xs=ys:=by
 refine List.ext_getElem hl λj Z M=>?_
 have:=h j Z
 rwa [Cy xs j Z,Cy ys j M] at this
theorem Lk.cmp_lt(a c:Lk):Lk.cmp a c<0↔Lk.lt a c:=Pt.cmp_lt _ _
def askE(nd:Int)(xs:List Lk)(kd wd mo nw:Int):Int:=if checkW kd wd mo≠0 then checkW kd wd mo else if checkS nd xs≠0 then checkS nd xs else if nw<0\/1048576<nw\/xs.any (λx=>decide (nw<x.tm))=true then 9 else 0
theorem CheckS_ok{κ:Ctx}{I:List Item}{nd:Int}{va:Value}{xs:List Lk}(Z:Sl κ I va xs):eu prog κ 107 [.agg #[e7 nd,va]] I (λr J=>r=e7 (checkS nd xs)/\I=J):=by
 refine B9 Z.le λan=>?_
 refine Ce1 Tryz.func107 C C ?_
 refine Af<|Ge1 (Bc (cs:=[_,_]) C C C) λb1=>Ga C<|Ad<|Ap<|Af<|Gf fld35_0 C<|Gl ef ?_
 refine Gr (Bb C C)<|Gm C<|Br (d:=8) C (λg8=>?_)<|λg8=>?_
 ·exact eb<|eb<|eb<|Gr (A3 C C)<|Ad<|Dp C<|Af<|Ga C<|Ad<|Ay<|Aq<|A1 C C I Av ⟨by rw [show checkS nd xs=1 from (by first|(unfold checkS;rw [if_pos om];done)|exact hs.trans ((Eh om<|by rw [badL_one om asm];decide).trans (badL_one om asm)))],rfl⟩
 refine e9 (Ac fld35_0 C)<|e9 (A7 ef) ?_
 refine e9 (Ck C C)<|Gr (Bd C C)<|Ad<|A8 C (λc12=>?_)<|λc12=>?_
 ·exact Af<|Ga C<|Ad<|Ay<|Aq<|A1 C C I Av ⟨by rw [show checkS nd xs=1 from (by first|(unfold checkS;rw [if_pos om];done)|exact hs.trans ((Eh om<|by rw [badL_one om asm];decide).trans (badL_one om asm)))],rfl⟩
 refine Aw<|Ah<|Ap<|Af<|Gf fld35_1 C<|Gl ty33 ?_
 refine Gr (B5 (α:=Lk) (xs:=xs) A4 C<|A6 Z)<|Gm C<|Ad<|Am (S4 16 15 14 1 C C C C)<|A0<|B1 (σ:=Nat) (λs=>([(1,.pointer<|some ⟨b1,0,none⟩),(14,va),(15,e7 ((xs.length:Nat):Int)),(16,e7 ((s:Nat):Int))]:Env)) (λs=>e8 b1 [e7 nd,va] 35::I) (λs=>(s<=xs.length)/\(checkS nd xs=scanL (badL nd) Lk.lt (prevAt xs s) (xs.drop s))) (λs=>xs.length - s) 0 (show ((0:Nat)<=xs.length)/\(checkS nd xs=scanL (badL nd) Lk.lt (prevAt xs (0:Nat)) (xs.drop (0:Nat))) from ⟨om,(by unfold checkS;rw [if_neg om];rfl)⟩) (Aa C<|Aa C<|Aa C<|Aa Cd Bl) (show Fit κ _ (e8 b1 [e7 nd,va] 35::I) from Bf) ?_
 rintro k hp
 obtain ⟨hk,hs⟩:=hp
 refine Af<|Gr (Bb C C)<|Ad<|Ap<|A8 C (λah=>?_)<|λah=>?_
 ·refine Aw (Ah<|Ap<|A0<|Af<|Gm C<|Gr (Az (α:=Lk) (xs:=xs) A4 ty82 C C (A6 Z) om om)<|Gr (B2 (α:=Lk) (xs:=xs) ty82 C (A6 Z) om om)<|Ge1 (A2 ty82 C) λb2=>Ga C<|Ge0 (Es6_6 ty82) ?_)
  refine Ad<|A0<|Af<|Gf fld82_0 C<|Gl ef ?_
  refine Gr (Bb C C)<|Gm C<|Br (d:=25) C (λaj=>?_)<|λaj=>?_
  ·exact eb<|eb<|eb<|eb<|eb<|Gr (A3 C C)<|Gm C<|eb<|eb<|eb<|eb<|eb<|Gr (A3 C C)<|Ga C<|Ad<|Am (S7 21 3 4 1 14 15 16 C C C C C C C)<|Dp C<|Af<|Ga C<|Ad<|Ay<|Be<|Be<|Aq<|Aq<|Be<|Aq<|A1 C C I Av ⟨by rw [show checkS nd xs=6 from (hs.trans<|(Eh om<|by rw [badL_six om];decide).trans (badL_six om))],rfl⟩
  refine e9 (Ac fld82_0 C)<|e9 (A7 ef) ?_
  refine e9 (Ac fld82_1 C)<|e9 (A7 ef) ?_
  refine e9 (C3 C C)<|Gr (Bd C C)<|Gm C<|Br (d:=32) C (λM=>?_)<|λM=>?_
  ·exact eb<|eb<|eb<|eb<|eb<|Gr (A3 C C)<|Ga C<|Ad<|Am (S7 21 3 4 1 14 15 16 C C C C C C C)<|Dp C<|Af<|Ga C<|Ad<|Ay<|Be<|Be<|Aq<|Aq<|Be<|Aq<|A1 C C I Av ⟨by rw [show checkS nd xs=6 from (hs.trans<|(Eh om<|by rw [badL_six om];decide).trans (badL_six om))],rfl⟩
  refine e9 (Ac fld82_1 C)<|e9 (A7 ef) ?_
  refine e9 (Ac fld35_0 C)<|e9 (A7 ef) ?_
  refine e9 (C3 C C)<|Gr (Bd C C)<|Ga C<|Ad<|Am (S7 21 3 4 1 14 15 16 C C C C C C C)<|A8 C (λak=>?_)<|λak=>?_
  ·exact Af<|Ga C<|Ad<|Ay<|Be<|Be<|Aq<|Aq<|Be<|Aq<|A1 C C I Av ⟨by rw [show checkS nd xs=6 from (hs.trans<|(Eh om<|by rw [badL_six om];decide).trans (badL_six om))],rfl⟩
  refine Af<|Gf fld82_2 C<|Gl ef ?_
  refine Gf fld82_3 C<|Gl ef ?_
  refine Gf fld82_4 C<|Gl ef ?_
  refine Gc0 (Aj c_ C C<|RightW_ok ((e_ xs k).w) ((e_ xs k).lb)<|(e_ xs k).sg) ?_
  refine Gr (Ea C)<|Ga C<|Ad<|Am (S7 39 3 4 1 14 15 16 C C C C C C C)<|A8 C (λaa=>?_)<|λaa=>?_
  ·exact Af<|Ga C<|Ad<|Ay<|Be<|Be<|Aq<|Aq<|Be<|Aq<|A1 C C I Av ⟨by rw [show checkS nd xs=1 from (by first|(unfold checkS;rw [if_pos om];done)|exact hs.trans ((Eh om<|by rw [badL_one om asm];decide).trans (badL_one om asm)))],rfl⟩
  refine Af<|Gf fld82_5 C<|Gl ef ?_
  refine Gr (Bb C C)<|Gm C<|Br (d:=52) C (λab=>?_)<|λab=>?_
  ·exact eb<|eb<|eb<|Gr (A3 C C)<|Ga C<|Ad<|Am (S7 48 3 4 1 14 15 16 C C C C C C C)<|Dp C<|Af<|Ga C<|Ad<|Ay<|Be<|Be<|Aq<|Aq<|Be<|Aq<|A1 C C I Av ⟨by rw [show checkS nd xs=9 from (hs.trans<|(Eh om<|by rw [badL_nine om (by first|assumption|exact Classical.not_not.1 asm|exact Classical.byContradiction λh=>c47<|by rw [if_neg h];decide) om];decide).trans (badL_nine om (by first|assumption|exact Classical.not_not.1 asm|exact Classical.byContradiction λh=>c47<|by rw [if_neg h];decide) om))],rfl⟩
  refine e9 (Ac fld82_5 C)<|e9 (A7 ef) ?_
  refine e9 (Ck C C)<|Gr (Bd C C)<|Ga C<|Ad<|Am (S7 48 3 4 1 14 15 16 C C C C C C C)<|A8 C (λad=>?_)<|λad=>?_
  ·exact Af<|Ga C<|Ad<|Ay<|Be<|Be<|Aq<|Aq<|Be<|Aq<|A1 C C I Av ⟨by rw [show checkS nd xs=9 from (hs.trans<|(Eh om<|by rw [badL_nine om (by first|assumption|exact Classical.not_not.1 asm|exact Classical.byContradiction λh=>c47<|by rw [if_neg h];decide) om];decide).trans (badL_nine om (by first|assumption|exact Classical.not_not.1 asm|exact Classical.byContradiction λh=>c47<|by rw [if_neg h];decide) om))],rfl⟩
  refine Ap<|Bq mixed<|Cc (e8 b2 [e7 ((e_ xs k).u),e7<|(e_ xs k).v,e7<|(e_ xs k).w,e7<|(e_ xs k).lb,e7<|(e_ xs k).sg,e7<|(e_ xs k).tm] 82::e8 b1 [e7 nd,va] 35::I) 14<|Dr 0 C (Ai C)<|Dr 1 C (Ck C C)<|Dr 2 C (Ai C)<|Ey (d:=60) C (λai=>?_)<|λai=>?_
  ·refine Dro 3 C (Ac fld35_1 C) (Dro 4 C (A7 ty33) ?_)
   refine Dro 5 C (Ai C)<|Dro 6 C (Rsu C C)<|Dro 7 C (Az (α:=Lk) (xs:=xs) A4 ty82 C C (A6 Z) om om)<|Dro 8 C (B2 (α:=Lk) (xs:=xs) ty82 C (A6 Z) om om)<|Dro 9 C (A5 (vs:=[_,_,_,_,_,_]) ty82) ?_
   refine Ds1 10<|Sc0 C (Aj c_ C C<|OrderL_ok (e_ xs<|(k:Int) - 1)<|e_ xs k) ?_
   refine Dro 11 C (C3 C C)<|Dr 12 C (A3 C C)<|Dr 13 C (Ba C)<|Dz<|Ah<|Am (S5 57 1 14 15 16 C C C C C)<|A8 C (λae=>?_)<|λae=>?_
   ·exact Af<|Ga C<|Ad<|Ay<|Be<|Be<|Aq<|Aq<|Be<|Aq<|A1 C C I Av ⟨by rw [show checkS nd xs=5 from (hs.trans<|scanL_order om (badL_zero om (by first|assumption|exact Classical.not_not.1 asm|exact Classical.byContradiction λh=>c47<|by rw [if_neg h];decide) om) om<|by first|assumption|(intro h;have:=(Lk.cmp_lt _ _).2 h;omega))],rfl⟩
   exact Aw<|Al<|Al<|Ah<|Au<|Gr (Rad C C)<|Gm C<|Bo<|Cf ((k+1)) ⟨om,(hs.trans<|scanL_step om (badL_zero om (by first|assumption|exact Classical.not_not.1 asm|exact Classical.byContradiction λh=>c47<|by rw [if_neg h];decide) om)<|λh0=>by first|omega|exact (Lk.cmp_lt _ _).1 om|exact Classical.not_not.1 asm)⟩
  exact Dpo 3 C<|Dpo 4 C<|Dpo 5 C<|Dpo 6 C<|Dpo 7 C<|Dpo 8 C<|Dpo 9 C<|Dpo 10 C<|Dpo 11 C<|Dr 12 C (Bd C C)<|Dr 13 C (Ba C)<|Dz<|Ah<|Am (S5 57 1 14 15 16 C C C C C)<|Dw C<|Aw<|Al<|Al<|Ah<|Au<|Gr (Rad C C)<|Gm C<|Bo<|Cf ((k+1)) ⟨om,(hs.trans<|scanL_step om (badL_zero om (by first|assumption|exact Classical.not_not.1 asm|exact Classical.byContradiction λh=>c47<|by rw [if_neg h];decide) om)<|λh0=>by first|omega|exact (Lk.cmp_lt _ _).1 om|exact Classical.not_not.1 asm)⟩
 exact Bx<|Ao<|Ao<|A9<|Ah<|Af<|Ga C<|Ad<|Ay<|A1 C C I Av ⟨by rw [show checkS nd xs=0 from (hs.trans<|scanL_end om)],rfl⟩
variable {κ:Ctx}{I:List Item}
theorem Same4_ok{va vb:Value}{xs ys:List Ev}(Z:Sl κ I va xs)(hy:Sl κ I vb ys):eu prog κ 119 [va,vb] I (λr J=>r = .bool (decide (xs=ys))/\I=J):=by
 refine B9 Z.le λab=>?_
 refine B9 hy.le λad=>?_
 refine Ce2 Tryz.func119 C C ?_
 refine Af<|Ga C<|Ad<|Ap<|Af<|Gm C<|Gr (B5 (α:=Ev) (xs:=xs) Ar C<|A6 Z)<|Gm C<|Gr (B5 (α:=Ev) (xs:=ys) Ar C<|A6 hy)<|Gr (Bn C C)<|Ad<|A8 C (λc10=>?_)<|λc10=>?_
 ·exact Af<|Ga C<|Ad<|Ay<|Aq<|A1 C C I Av ⟨by rw [decide_eq_false (show ¬xs=ys from λe=>by first|(have e2:=congrArg List.length e;omega)|(have e3:=congrArg (λl=>e_ l k) e;exact absurd e3 asm))],rfl⟩
 refine Aw<|Ah<|Ap<|Af<|Gm C<|Gr (B5 (α:=Ev) (xs:=xs) Ar C<|A6 Z)<|Gm C<|Ad<|A0<|B1 (σ:=Nat) (λs=>([(0,va),(1,vb),(12,e7 ((xs.length:Nat):Int)),(13,e7 ((s:Nat):Int))]:Env)) (λs=>I) (λs=>(s<=xs.length)/\(∀j,j<s->e_ xs j=e_ ys j)) (λs=>xs.length - s) 0 (show ((0:Nat)<=xs.length)/\(∀j,j<(0:Nat)->e_ xs j=e_ ys j) from ⟨om,all_zero⟩) (Aa C<|Aa C<|Aa C<|Aa Cd Bl) (show Fit κ _ I from Bf) ?_
 rintro k hp
 obtain ⟨hk,hn⟩:=hp
 refine Af<|Gr (Bb C C)<|Ad<|Ap<|A8 C (λaa=>?_)<|λaa=>?_
 ·refine Aw (Ah<|Ap<|A0<|Af<|Gm C<|Ga C<|Ad<|Ap<|Bq mixed<|Cc I 9<|Dr 0 C (Ai C)<|Dr 1 C (Ai C)<|Dr 2 C (Az (α:=Ev) (xs:=xs) Ar ty54 C C (A6 Z) om om)<|Dr 3 C (B2 (α:=Ev) (xs:=xs) ty54 C (A6 Z) om om)<|Dr 4 C (Ai C)<|Dr 5 C (Ai C)<|Dr 6 C (Az (α:=Ev) (xs:=ys) Ar ty54 C C (A6 hy) om om)<|Dr 7 C (B2 (α:=Ev) (xs:=ys) ty54 C (A6 hy) om om)<|Dr 8 C (Runs.neqT (α:=Ev) (a:=(e_ xs k)) (b:=(e_ ys k)) eqt54 C C)<|Dz<|Ah<|Am (S5 24 0 1 12 13 C C C C C)<|A8 C (λM=>?_)<|λM=>?_)
  ·exact Af<|Ga C<|Ad<|Ay<|Be<|Aq<|Aq<|Be<|Aq<|A1 C C I Av ⟨by rw [decide_eq_false (show ¬xs=ys from λe=>by first|(have e2:=congrArg List.length e;omega)|(have e3:=congrArg (λl=>e_ l k) e;exact absurd e3 asm))],rfl⟩
  exact Aw<|Al<|Ah<|Au<|Gr (Rad C C)<|Gm C<|Bo<|Cf ((k+1)) ⟨om,(all_succ hn<|Classical.not_not.1 M)⟩
 exact Bx<|Ao<|Ao<|A9<|Ah<|Af<|Ga C<|Ad<|Ay<|A1 C C I Av ⟨by rw [decide_eq_true (show xs=ys from ext_atw om (λj hj=>hn j om))],rfl⟩
theorem Same5_ok{n m:Int}{va Z:Value}{xs ys:List Lk}(M:Sl κ I va xs)(hy:Sl κ I Z ys):eu prog κ 32 [.agg #[e7 n,va],.agg #[e7 m,Z]] I (λr J=>r = .bool (decide (n=m/\xs=ys))/\I=J):=by
 refine B9 M.le λah=>?_
 refine B9 hy.le λai=>?_
 refine Ce2 Tryz.func32 C C ?_
 refine Af<|Ge1 (Bc (cs:=[_,_]) C C C) λb1=>Ge1 (Bc (cs:=[_,_]) C C C) λb2=>Ga C<|Ad<|Ap<|Af<|Gf fld35_0 C<|Gl ef ?_
 refine Gf fld35_0 C<|Gl ef ?_
 refine Gr (Bn C C)<|Gm C<|Br (d:=11) C (λae=>?_)<|λae=>?_
 ·exact eb<|eb<|eb<|eb<|eb<|eb<|eb<|Gr (A3 C C)<|Ad<|Am (S3 19 3 2 C C C)<|Dp C<|Af<|Ga C<|Ad<|Ay<|Aq<|A1 C C I Av ⟨by rw [decide_eq_false (show ¬(n=m/\xs=ys) from λe=>by first|(have e2:=congrArg List.length e.2;omega)|(have e3:=congrArg (λl=>e_ l k) e.2;exact absurd e3 asm)|(have:=e.1;omega))],rfl⟩
 refine e9 (Ac fld35_1 C)<|e9 (A7 ty33) ?_
 refine e9 (B5 (α:=Lk) (xs:=xs) A4 C<|A6 M)<|e9 (Ac fld35_1 C)<|e9 (A7 ty33) ?_
 refine e9 (B5 (α:=Lk) (xs:=ys) A4 C<|A6 hy)<|e9 (Bn C C)<|Gr (Bd C C)<|Ad<|Am (S3 19 3 2 C C C)<|A8 C (λab=>?_)<|λab=>?_
 ·exact Af<|Ga C<|Ad<|Ay<|Aq<|A1 C C I Av ⟨by rw [decide_eq_false (show ¬(n=m/\xs=ys) from λe=>by first|(have e2:=congrArg List.length e.2;omega)|(have e3:=congrArg (λl=>e_ l k) e.2;exact absurd e3 asm)|(have:=e.1;omega))],rfl⟩
 refine Aw<|Ah<|Ap<|Af<|Gf fld35_1 C<|Gl ty33 ?_
 refine Gr (B5 (α:=Lk) (xs:=xs) A4 C<|A6 M)<|Gm C<|Ad<|A0<|B1 (σ:=Nat) (λs=>([(2,.pointer<|some ⟨b1,0,none⟩),(3,.pointer<|some ⟨b2,0,none⟩),(22,e7 ((xs.length:Nat):Int)),(23,e7 ((s:Nat):Int))]:Env)) (λs=>e8 b2 [e7 m,Z] 35::e8 b1 [e7 n,va] 35::I) (λs=>(s<=xs.length)/\(∀j,j<s->e_ xs j=e_ ys j)) (λs=>xs.length - s) 0 (show ((0:Nat)<=xs.length)/\(∀j,j<(0:Nat)->e_ xs j=e_ ys j) from ⟨om,all_zero⟩) (Aa C<|Aa C<|Aa C<|Aa Cd Bl) (show Fit κ _ (e8 b2 [e7 m,Z] 35::e8 b1 [e7 n,va] 35::I) from Bf) ?_
 rintro k hp
 obtain ⟨hk,hn⟩:=hp
 refine Af<|Gr (Bb C C)<|Ad<|Ap<|A8 C (λad=>?_)<|λad=>?_
 ·refine Aw (Ah<|Ap<|A0<|Af<|Gm C<|Ga C<|Ad<|Ap<|Bq mixed<|Cc (e8 b2 [e7 m,Z] 35::e8 b1 [e7 n,va] 35::I) 11<|Dr 0 C (Ac fld35_1 C)<|Dr 1 C (A7 ty33) ?_)
  refine Dr 2 C (Ai C)<|Dr 3 C (Az (α:=Lk) (xs:=xs) A4 ty82 C C (A6 M) om om)<|Dr 4 C (B2 (α:=Lk) (xs:=xs) ty82 C (A6 M) om om)<|Dr 5 C (Ac fld35_1 C)<|Dr 6 C (A7 ty33) ?_
  refine Dr 7 C (Ai C)<|Dr 8 C (Az (α:=Lk) (xs:=ys) A4 ty82 C C (A6 hy) om om)<|Dr 9 C (B2 (α:=Lk) (xs:=ys) ty82 C (A6 hy) om om)<|Dr 10 C (Runs.neqT (α:=Lk) (a:=(e_ xs k)) (b:=(e_ ys k)) eqt82 C C)<|Dz<|Ah<|Am (S5 36 2 3 22 23 C C C C C)<|A8 C (λaa=>?_)<|λaa=>?_
  ·exact Af<|Ga C<|Ad<|Ay<|Be<|Aq<|Aq<|Be<|Aq<|A1 C C I Av ⟨by rw [decide_eq_false (show ¬(n=m/\xs=ys) from λe=>by first|(have e2:=congrArg List.length e.2;omega)|(have e3:=congrArg (λl=>e_ l k) e.2;exact absurd e3 asm)|(have:=e.1;omega))],rfl⟩
  exact Aw<|Al<|Ah<|Au<|Gr (Rad C C)<|Gm C<|Bo<|Cf ((k+1)) ⟨om,(all_succ hn<|Classical.not_not.1 aa)⟩
 exact Bx<|Ao<|Ao<|A9<|Ah<|Af<|Ga C<|Ad<|Ay<|A1 C C I Av ⟨by rw [decide_eq_true (show n=m/\xs=ys from ⟨by omega,ext_atw om<|λj hj=>hn j om⟩)],rfl⟩
end Go.Sl
namespace Go.Sl
open Go.RowKit (Below)
variable{T cl et kt r:Nat}{x y:Operand}{es:List MapEntry}{k v:Value}
def mp(r:Nat)(es:List MapEntry)(cl:Nat):Item where
 fp k:=k=r
 ok w:=w.heap[r]? = some (.map es.toArray cl)
 loc w w' h hw:=(h r rfl).trans hw
section
variable {P:Program}{κ:Ctx}{N:Frm}{Q:Exit->Act->World->Prop}{L:Env}{I J:List Item}{ops:Array Oper}{rest:List Oper}
variable {d:Option Tmp}{ty:TypeId}{ps:String}{af:Array Edge}{gd:Option (Nat×Bool)}
theorem Eff.makeMap{dd:Nat}(Z:Nat.blt dd N.n=true) :
  Eff P κ N Q ⟨some dd,.makeMap T none,ty,ps,af,gd⟩ L I λL' I'=>∃r,L'=(dd,.map<|some r)::L/\I'=mp r [] 0::I:=
 Eff.of_value rfl Z λa w ha hs=>
  ⟨_,_,_,by simp [execOp,Instr.makeMap,Result.andThen],⟨_,rfl,rfl⟩,hs.new (hs.alloc<|.map #[] 0) (heap_alloc_new w _) λk M=>by obtain rfl:k=_:=M;exact ⟨Nat.le_refl _,by simp⟩⟩
theorem Eff.insertK{z:Operand}{kd:IntKind}{I':List Item}(ht:P.underlying T=some (.map kt et))(Z:P.underlying kt=some (.int kd))(hx:er L x=some (.map (some r)))
  (hy:er L y=some k) (hz:er L z=some v) (hk:MapKept.IsKey (.int kd) k) (hf:Instr.findNow (.int kd) k es 0=some none) (M:At I (mp r es cl) (mp r (es++[{key:=k,val:=v,born:=cl}])<|cl+1) I') :
  Eff P κ N Q ⟨none,.insert T x y z,ty,ps,af,gd⟩ L I λL' I''=>L'=L/\I''=I':=
 Eff.of_skip rfl λa w ha hs=>by
  have hb:=(hs.ok _ M.mem).1
  refine ⟨{w with heap:=w.heap.setIfInBounds r (.map (es++[({key:=k,val:=v,born:=cl}:MapEntry)]).toArray (cl+1))},I',?_,⟨rfl,rfl⟩,?_⟩
  ·simp [execOp,ha.eval hx,ha.eval hy,ha.eval hz,Instr.mapUpdate,run_underlying ht,MapKept.run_getObj_map hb,MapKept.run_checkKey Z hk,MapKept.run_findKey Z hf,MapKept.run_setObj_map _ hb,Result.andThen]
  exact hs.upd M rfl ⟨rfl,Nat.le_refl _⟩ rfl (by simp) (λk _ aa=>(MapKept.heap_set hb).2 k λe=>aa e) (MapKept.heap_set hb).1 λk hk=> .inl hk
theorem Runs.lookupK{i:Nat}{kd:IntKind}(ht:P.underlying T=some (.map kt et))(Z:P.underlying kt=some (.int kd))(hx:er L x=some (.map (some r)))
  (hy:er L y=some k) (hk:MapKept.IsKey (.int kd) k) (hm:mp r es cl∈J) (hf:Instr.findNow (.int kd) k es 0=some (some (i,v))):Runs P κ N ⟨d,.lookup T x y false,ty,ps,af,gd⟩ L J v:=
 λa w M hs=>by
  have hb:=(hs.ok _ hm).1
  simp [execOp,M.eval hx,M.eval hy,Instr.lookup,run_underlying ht,MapKept.run_getObj_map hb,MapKept.run_checkKey Z hk,MapKept.run_findKey Z hf,Result.andThen]
end
end Go.Sl
namespace Go.Sl
open Go.Proofs
set_option maxRecDepth 4000
variable{v va:Value}{xs:List Lk}{Z:List Value}{b:Nat}{kd mo nd nw wd:Int}
variable {κ:Ctx}{I:List Item}
theorem IndexFuncL(hl:Sl κ I v xs){g:FuncId}{p:Lk->Bool}(aa:Says prog κ I g Z p):eu prog κ 109 [v,.func (.func g) #[] Z.toArray] I (λr J=>∃y:Int,r=e7 y/\IdxF p xs y/\I=J):=by
 refine B9 hl.le λab=>?_
 refine Ce2 Tryz.func109 C C ?_
 refine Af<|Ga C<|Ad<|Ap<|Af<|Gm C<|Gr (B5 (α:=Lk) (xs:=xs) A4 C<|A6 hl)<|Gm C<|Ad<|A0<|B1 (σ:=Nat) (λs=>([(0,v),(1,.func (.func g) #[] Z.toArray),(7,e7 ((xs.length:Nat):Int)),(8,e7 ((s:Nat):Int))]:Env)) (λs=>I) (λs=>(s<=xs.length)/\(∀j,j<s->p (e_ xs j)=false)) (λs=>xs.length - s) 0 (show ((0:Nat)<=xs.length)/\(∀j,j<(0:Nat)->p (e_ xs j)=false) from ⟨om,all_zero⟩) (Aa C<|Aa C<|Aa C<|Aa Cd Bl) (show Fit κ _ I from Bf) ?_
 rintro k hp
 obtain ⟨hk,hn⟩:=hp
 refine Af<|Gr (Bb C C)<|Ad<|Ap<|A8 C (λc9=>?_)<|λc9=>?_
 ·refine Aw (Ah<|Ap<|A0<|Af<|Gm C<|Ga C<|Ad<|Af<|Gm C<|Gm C<|Gm C<|Gr (Az (α:=Lk) (xs:=xs) A4 ty82 C C (A6 hl) om om)<|Gr (B2 (α:=Lk) (xs:=xs) ty82 C (A6 hl) om om)<|G.e (Cs aa.1 (first:=[]) (caps:=Z) C C C<|aa.2 (e_ xs k) _ Av) ?_)
  rintro _ _ ⟨_,_,⟨rfl,rfl⟩,rfl,rfl⟩
  refine Ad<|Eg C (λM=>?_)<|λM=>?_
  ·exact Af<|Gm C<|Ga C<|Ad<|Am (S1 4 C)<|Ay<|Be<|Aq<|Aq<|Be<|Aq<|A1 C C I Av ⟨_,rfl,.inr ⟨by omega,by omega,λj hj=>hn j om,M⟩,rfl⟩
  exact Aw<|Al<|Ah<|Au<|Gr (Rad C C)<|Gm C<|Bo<|Cf ((k+1)) ⟨om,(all_succ hn M)⟩
 exact Bx<|Ao<|Ao<|A9<|Ah<|Af<|Ga C<|Ad<|Ay<|A1 C C I Av ⟨_,rfl,.inl ⟨rfl,λj hj=>hn j om⟩,rfl⟩
theorem ContainsFuncL(hl:Sl κ I v xs){g:FuncId}{p:Lk->Bool}(M:Says prog κ I g Z p):eu prog κ 58 [v,.func (.func g) #[] Z.toArray] I (λr J=>r = .bool (xs.any p)/\I=J):=by
 refine Ce2 Tryz.func58 C C ?_
 refine Af<|Ga C<|Ad<|Af<|Gm C<|Gm C<|G.e (Aj c_ C C<|IndexFuncL (A6 hl)<|Says.fit M Av) ?_
 rintro _ _ ⟨_,_,⟨y1,rfl,aa,rfl⟩,rfl,rfl⟩
 exact Gr (C3 C C)<|Ga C<|Ad<|Ay<|A1 C C I Av ⟨by rw [←IdxF.any asm],rfl⟩
theorem Asked1_ok(Z:BlkRd κ I b [e7 nw] 3)(x:Lk):eu prog κ 173 [.agg #[e7 (x.u),e7 (x.v),e7 (x.w),e7 (x.lb),e7 (x.sg),e7 (x.tm)],.pointer (some ⟨b,0,none⟩)] I (λr J=>r = .bool (decide (nw<x.tm))/\I=J):=by
 refine Ce2 Tryz.func173 C C ?_
 refine Af<|Ge1 (Bc (cs:=[_,_,_,_,_,_]) C C C) λb1=>Ga C<|Ad<|Af<|Gf fld82_5 C<|Gl ef ?_
 exact Gr (D6 ef C (Ei Z Av) C)<|Gr (Ck C C)<|Ga C<|Ad<|Ay<|A1 C C I Av ⟨rfl,rfl⟩
theorem Asked1_says(M:BlkRd κ I b [e7 nw] 3):Says prog κ I 173 [.pointer (some ⟨b,0,none⟩)] (λx:Lk=>decide (nw<x.tm)):=⟨c_,λx J Z=>Asked1_ok (M.fit Z) x⟩
theorem Asked_ok(hl:Sl κ I va xs):eu prog κ 152 [.agg #[e7 nd,va],.agg #[e7 kd,e7 wd,e7 mo],e7 nw] I (λr J=>r=e7 (askE nd xs kd wd mo nw)/\I=J):=by
 refine B9 hl.le λad=>?_
 refine Ce3 Tryz.func152 C C ?_
 refine Af<|Ge1 (Bc (cs:=[_,_]) C C C) λb1=>Ge1 (Bc (cs:=[_,_,_]) C C C) λb2=>Ge1 (Bc (cs:=[_]) C C C) λb3=>Ga C<|Ad<|Ap<|Af<|Gl3 ty29 ?_
 refine G.e (Aj c_ C C<|CheckW_ok kd wd mo) ?_
 rintro _ _ ⟨_,_,⟨rfl,rfl⟩,rfl,rfl⟩
 refine Ga C<|Ad<|Af<|Gm C<|Gr (Bn C C)<|Ad<|A8 C (λc12=>?_)<|λc12=>?_
 ·exact Af<|Gm C<|Ga C<|Ad<|Am (S1 6 C)<|Ay<|Aq<|A1 C C I Av ⟨by rw [show askE nd xs kd wd mo nw=checkW kd wd mo from (by unfold askE;rw [if_pos c12])],rfl⟩
 refine Aw<|Ah<|Ap<|Af<|Gl2 ty35 ?_
 refine G.e (Aj c_ C C<|CheckS_ok (nd:=nd)<|A6 hl) ?_
 rintro _ _ ⟨_,_,⟨rfl,rfl⟩,rfl,rfl⟩
 refine Ga C<|Ad<|Am (S3 8 5 3 C C C)<|Af<|Gm C<|Gr (Bn C C)<|Ad<|A8 C (λZ=>?_)<|λZ=>?_
 ·exact Af<|Gm C<|Ga C<|Ad<|Ay<|Aq<|A1 C C I Av ⟨by rw [show askE nd xs kd wd mo nw=checkS nd xs from (by unfold askE;rw [if_neg c12,if_pos Z])],rfl⟩
 refine Aw<|Ah<|Ap<|Af<|Gl ef ?_
 refine Gr (Bb C C)<|Gm C<|Br (d:=21) C (λab=>?_)<|λab=>?_
 ·exact eb<|eb<|Gr (A3 C C)<|Gm C<|eb<|eb<|eb<|eb<|Gr (A3 C C)<|Ad<|Am (S1 30 C)<|Dp C<|Af<|Ga C<|Ad<|Ay<|Aq<|A1 C C I Av ⟨by rw [show askE nd xs kd wd mo nw=9 from (by unfold askE;rw [if_neg c12,if_neg Z,if_pos<|by first|omega|(simp only [*];done)|exact .inr (.inr asm)|exact .inr (.inr M)])],rfl⟩
 refine e9 (A7 ef) ?_
 refine e9 (Ck C C)<|Gr (Bd C C)<|Gm C<|Br (d:=25) C (λaa=>?_)<|λaa=>?_
 ·exact eb<|eb<|eb<|eb<|Gr (A3 C C)<|Ad<|Am (S1 30 C)<|Dp C<|Af<|Ga C<|Ad<|Ay<|Aq<|A1 C C I Av ⟨by rw [show askE nd xs kd wd mo nw=9 from (by unfold askE;rw [if_neg c12,if_neg Z,if_pos<|by first|omega|(simp only [*];done)|exact .inr (.inr asm)|exact .inr (.inr M)])],rfl⟩
 refine e9 (Ac fld35_1 C)<|e9 (A7 ty33) ?_
 refine e9 (Ds C C)<|Dm (Ch C C C) (Aj c_ C C<|ContainsFuncL (A6 hl)<|Asked1_says<|Dy mm) ?_
 rintro _ _ ⟨_,_,⟨rfl,rfl⟩,rfl,rfl⟩
 refine Gr (Bd C C)<|Ad<|Am (S1 30 C)<|Eg C (λM=>?_)<|λM=>?_
 ·exact Af<|Ga C<|Ad<|Ay<|Aq<|A1 C C I Av ⟨by rw [show askE nd xs kd wd mo nw=9 from (by unfold askE;rw [if_neg c12,if_neg Z,if_pos<|by first|omega|(simp only [*];done)|exact .inr (.inr asm)|exact .inr (.inr M)])],rfl⟩
 exact Aw<|Ah<|Af<|Ga C<|Ad<|Ay<|A1 C C I Av ⟨by rw [show askE nd xs kd wd mo nw=0 from (by unfold askE;rw [if_neg c12,if_neg Z,if_neg<|by rintro (h|h|h)<;>first|omega|(exact absurd (M.symm.trans h) dc)])],rfl⟩
variable {κ:Ctx}{I:List Item}
theorem All1_ok(x:Lk):eu prog κ 191 [.agg #[e7 (x.u),e7 (x.v),e7 (x.w),e7 (x.lb),e7 (x.sg),e7 (x.tm)]] I (λr J=>r = .bool true/\I=J):=by
 refine Ce1 Tryz.func191 C C ?_
 exact Af<|Ge1 (Bc (cs:=[_,_,_,_,_,_]) C C C) λb1=>Ga C<|Ad<|Af<|Ga C<|Ad<|Ay<|A1 C C I Av ⟨rfl,rfl⟩
theorem Age1_ok{c:Nat}(Z:BlkRd κ I b [e7 nw] 3)(M:BlkRd κ I c [e7 kd,e7 wd,e7 mo] 29)(x:Lk):eu prog κ 193 [.agg #[e7 (x.u),e7 (x.v),e7 (x.w),e7 (x.lb),e7 (x.sg),e7 (x.tm)],.pointer (some ⟨b,0,none⟩),.pointer (some ⟨c,0,none⟩)] I (λr J=>r = .bool (decide (IntKind.i64.wrap (nw - x.tm)<wd))/\I=J):=by
 refine Ce3 Tryz.func193 C C ?_
 refine Af<|Ge1 (Bc (cs:=[_,_,_,_,_,_]) C C C) λb1=>Ga C<|Ad<|Af<|Gr (D6 ef C (Ei Z Av) C)<|Gf fld82_5 C<|Gl ef ?_
 exact Gr (Runs.subw C C)<|Gf fld29_1 C<|Gr (D6 ef C (Ei M Av) C)<|Gr (Bb C C)<|Ga C<|Ad<|Ay<|A1 C C I Av ⟨rfl,rfl⟩
theorem Rule1_ok :
    eu prog κ 190 [.agg #[e7 nd,va],.agg #[e7 kd,e7 wd,e7 mo],e7 nw] I (λr J=>r = .func (.func 191) #[] #[]/\I=J):=by
 refine Ce3 Tryz.func190 C C ?_
 exact Af<|Ge1 (Bc (cs:=[_,_]) C C C) λb1=>Ge1 (Bc (cs:=[_,_,_]) C C C) λZ=>Ga C<|Ad<|Af<|Ga C<|Ad<|Ay<|A1 C C I Av ⟨rfl,rfl⟩
theorem Rule2_ok :
    eu prog κ 192 [.agg #[e7 nd,va],.agg #[e7 kd,e7 wd,e7 mo],e7 nw] I (λr J=>∃b c,r = .func (.func 193) #[] #[.pointer (some ⟨b,0,none⟩),.pointer<|some ⟨c,0,none⟩]/\J=e8 b [e7 nw] 3::e8 c [e7 kd,e7 wd,e7 mo] 29::I):=by
 refine Ce3 Tryz.func192 C C ?_
 exact Af<|Ge1 (Bc (cs:=[_,_]) C C C) λb1=>Ge1 (Bc (cs:=[_,_,_]) C C C) λM=>Ge1 (Bc (cs:=[_]) C C C) λZ=>Ga C<|Ad<|Af<|Gr (Ds C C)<|Ga C<|Ad<|Ay<|A1 C C (e8 Z [e7 nw] 3::e8 M [e7 kd,e7 wd,e7 mo] 29::I) Bf ⟨Z,M,rfl,rfl⟩
theorem Rules_ok  :
    eu prog κ 174 [] I (λr J=>∃m,r = .map (some m)/\J=mp m [({key:=e7 1,val:= .func (.func 190) #[] #[],born:=0}:MapEntry),({key:=e7 2,val:= .func (.func 192) #[] #[],born:=1}:MapEntry),({key:=e7 3,val:= .func (.func 194) #[] #[],born:=2}:MapEntry)] 3::I):=by
 refine Ce0 Tryz.func174 C C ?_
 refine Af<|Ga C<|Ad<|Af<|Ge1 (Eff.makeMap C) λZ=>?_
 refine Ge0 (Eff.insertK D3 Cb C C C C C am) ?_
 refine Ge0 (Eff.insertK D3 Cb C C C C C am) ?_
 refine Ge0 (Eff.insertK D3 Cb C C C C C am) ?_
 exact Gm C<|Ga C<|Ad<|Ay<|A1 C C (mp Z [({key:=e7 1,val:= .func (.func 190) #[] #[],born:=0}:MapEntry),({key:=e7 2,val:= .func (.func 192) #[] #[],born:=1}:MapEntry),({key:=e7 3,val:= .func (.func 194) #[] #[],born:=2}:MapEntry)] 3::I) Bf ⟨Z,rfl,rfl⟩
end Go.Sl
