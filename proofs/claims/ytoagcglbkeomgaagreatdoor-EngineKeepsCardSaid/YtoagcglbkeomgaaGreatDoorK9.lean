/- A part of the proofs of statements of this seat: contracts of functions, and the plain laws that they lean on. No conditions. -/
import Derived.Shelf.SortM.SortNone
import Derived.Test.YtoagcglbkeomgaaGreatDoorK8
set_option linter.unusedVariables false
set_option linter.unusedSimpArgs false
set_option linter.unusedSectionVars false
open Go.Proofs.Tryz (prog)
open List (replicate)
set_option maxHeartbeats 8000000
namespace Go.Sl
open Go.Proofs Go.Shelf Go.RowKit Go.Lib Go.Sort
variable{xs:List Int}{P:Program}{κ:Ctx}{I:List Item}{e:TypeId}{ad:Option Addr}{c:Nat}
def sortZ(xs:List Int):List Int:=xs.mergeSort λx y=>decide (x<=y)
theorem sortZ_perm(xs:List Int):(sortZ xs).Perm xs:=List.mergeSort_perm _ _
theorem sortZ_len(xs:List Int):(sortZ xs).length=xs.length:=(sortZ_perm xs).length_eq
theorem mem_sortZ{x:Int}:x∈sortZ xs↔x∈xs:=(sortZ_perm xs).mem_iff
theorem sortZ_asc(xs:List Int):(sortZ xs).Pairwise (· <= ·):=by
 have h:=List.pairwise_mergeSort (le:=λx y:Int=>decide<|x<=y) (λa b c Z M=>by simp at *; omega) (λa b=>by simp;omega) xs
 exact h.imp λh=>by simpa using h
theorem sortI_base{ρ:Ren}(L:SlLaysM.n5 P ρ)(hc:0<c)(aw:xs.length<4611686018427387904):eu P κ (ρ.f 5) [.slice ad xs.length c] (vc e (.slice ad xs.length c) xs::I) λr J=>r = .tuple #[]/\J=vc e (.slice ad (sortZ xs).length c) (sortZ xs)::I:=by
 intro w hs
 obtain ⟨ao,_⟩:=hs.ok _ List.mem_cons_self
 obtain ⟨a',ay,hv,hl,aq,ap,an⟩:=ao
 cases hv
 obtain ⟨b,off,ae,rfl,hb,M,ai⟩:=an hc
 have ak:b<w.heap.size:=(Array.getElem?_eq_some_iff.1 hb).1
 have aa:=sortZ_len xs
 have ab:∀ys:List Int,cells ys=ys.map λx=>e7 x:=λys=>by
  induction ys with
  |nil=>rfl
  |cons y ys ih=>show e7 y::cells ys=_;rw [ih];rfl
 have ah:∀ys:List Int,(cells ys).length=ys.length:=λys=>by rw [ab,List.length_map]
 have hH:Holds (Value.int .i64) w b off xs.toArray:=λj hj=>by
  have Z:j<xs.length:=by simpa using hj
  have h1:=ai j (e7 xs[j]) (by rw [ab,List.getElem?_map,List.getElem?_eq_getElem Z];rfl)
  refine ⟨?_,by simp [World.frozen?,hb]⟩
  rw [cell_of_row w b (off+j) ae e (0,0) hb,h1]
  simp [getElem!_pos,Z]
 have h:=AnyM.slices_Sort_int L b off c xs w hH ak aw
 refine Calls.mono h ?_
 rintro e' w' ⟨rfl,n,os,rfl⟩
 refine ⟨_,_,rfl,⟨rfl,rfl⟩,?_⟩
 have hz:(xs.mergeSort λx y=>decide<|x<=y)=sortZ xs:=rfl
 rw [hz]
 refine hs.upd (At.head _ _ _) rfl ⟨rfl,by simp [putRow,mapBlock,Sort.grow,Sort.ahead]⟩ rfl (by simp [putRow,mapBlock,Sort.grow,Sort.ahead]) (λk hk ax=>?_) ?_ λk hk=> .inl ?_
 ·have av:k≠b:=λar=>ax (by subst ar;exact ⟨off,xs.length,c,rfl,hc⟩)
  simp only [Sort.grow,putRow,mapBlock,Sort.ahead]
  rw [Array.getElem?_append_left (by simpa using hk),Array.getElem?_modify,if_neg<|λe=>av e.symm]
 ·refine ⟨_,c,rfl,(ah _).trans (Nat.mul_one _).symm,by rw [aa];exact aq,ap,λ_=>⟨b,off,putCells (Value.int .i64) off (sortZ xs).toArray ae,rfl,?_,?_,λj u hj=>?_⟩⟩
  ·simp only [Sort.grow,putRow,mapBlock,Sort.ahead]
   rw [Array.getElem?_append_left (by simpa using ak),Array.getElem?_modify,if_pos rfl]
   show (w.heap[b]?).map _=_
   rw [hb];rfl
  ·simpa [putCells] using M
  have Z:j<(sortZ xs).length:=by rw [←ah];exact (List.getElem?_eq_some_iff.1 hj).1
  have aj:off+j<ae.size:=by
   have:=M;rw [aa] at Z
   have:c*Enc.sz Int=c:=Nat.mul_one c
   omega
  simp only [putCells,Array.getElem?_mapIdx,Array.getElem?_eq_getElem aj,Option.map_some]
  rw [if_pos ⟨by omega,by simpa using Z⟩,Nat.add_sub_cancel_left]
  rw [ab,List.getElem?_map,List.getElem?_eq_getElem Z] at hj
  simpa [getElem!_pos,Z] using hj
 obtain ⟨o',n',c',au,az⟩:=hk
 cases au
 exact ⟨off,xs.length,c,rfl,hc⟩
theorem sortI_any{ρ:Ren}(L:SlLaysM.n5 P ρ)(M:xs.length<4611686018427387904):eu P κ (ρ.f 5) [.slice ad xs.length c] (vc e (.slice ad xs.length c) xs::I) λr J=>r = .tuple #[]/\J=vc e (.slice ad (sortZ xs).length c) (sortZ xs)::I:=by
 by_cases hc:0<c
 ·exact sortI_base L hc M
 intro w hs
 obtain ⟨Z,_⟩:=hs.ok _ List.mem_cons_self
 obtain ⟨a',aa,hv,hl,ah,ae,ab⟩:=Z
 cases hv
 obtain rfl:xs=[]:=List.eq_nil_of_length_eq_zero (by omega)
 refine Calls.mono (AnyM.slices_Sort_int_none L ad c w) ?_
 rintro e' w' ⟨rfl,rfl⟩
 have hz:sortZ []=[]:=List.eq_nil_of_length_eq_zero (sortZ_len [])
 refine ⟨_,_,rfl,⟨rfl,rfl⟩,?_⟩
 rw [hz];exact hs
end Go.Sl
namespace Go.Sl
end Go.Sl
namespace Go.Sl
open Go.Proofs
set_option maxRecDepth 4000
variable{Z c c0 i j n:Nat}{a a0:Option Addr}{es xs ys:List Pt}{v va:Value}{nd:Int}
theorem ext_at{α:Type}[Inhabited α]{xs ys:List α}(M:xs.length=ys.length)(h:∀j,j<xs.length->e_ xs j=e_ ys j):xs=ys:=by
 refine List.ext_getElem M λj Z h2=>?_
 have:=h j Z
 rwa [Cn xs j Z,Cn ys j h2] at this
theorem Few_ok{κ:Ctx}{I:List Item}{M:Option Addr}{lc:Nat} :
    eu prog κ 10 [.slice M Z lc] I (λr J=>r = .bool (decide<|(Z:Int)<=500)/\I=J):=by
 refine Ce1 Tryz.func10 C C ?_
 exact Af<|Ga C<|Ac<|Af<|Gm C<|Gr (Bh Ab C)<|Gr (E5 C C)<|Ga C<|Ac<|Az<|A1 C C I Ay ⟨rfl,rfl⟩
variable {κ:Ctx}{I:List Item}
theorem CloneE(hl:Sl κ I (.slice a xs.length c) xs)(hb:xs.length<=1000000000):eu prog κ 84 [.slice a xs.length c] I (λr J=>∃a' c',r = .slice a' xs.length c'/\J=vk 105 a' c' xs::I):=by
 refine B8 (p:=a.isNone=true->xs=[]/\c=0) (λw hs hn=>hl.isNone w hs hn) λZ=>?_
 refine Ce1 Tryz.func84 C C ?_
 refine Af<|Ga C<|Ac<|Aq<|Af<|Gm C<|Gr (Runs.eqnil Au C C)<|Ac<|D4 C (λc4=>?_)<|λc4=>?_
 ·refine Af (Ga C<|Ac<|Az<|Ap ?_)
  obtain ⟨ab,_⟩:=Z c4
  subst ab
  exact A1 C C (vk 105 none 0 ([]:List Pt)::I) (Cb _ _) ⟨none,0,rfl,rfl⟩
 refine Av<|Ah<|Af<|Ge1 (Eff.bs0 (α:=Pt) Au ty105 C) λad=>?_
 refine Gm C<|Ge2 (Cg (α:=Pt) (e:=105) (xs:=([]:List Pt)) (ys:=xs) Au ty105 C C C mm (A8 hl) (by simp only [List.length_nil];omega) dc C<|λ_ _=>am) λM aa=>?_
 exact Ga C<|Ac<|Az<|A1 C C (vk 105 M aa xs::I) Bc ⟨M,aa,rfl,rfl⟩
theorem ov276:∀Z w,(callFunc 276 Z).run prog w=((Extern.SlicesOverlaps.overlaps #[36,36] #[4] Z).run prog w).andThen λv w'=> .ok (.value v) w':=λZ w=>run_callFunc_extern (e:=Extern.SlicesOverlaps.overlaps #[36,36] #[4]) Tryz.func276 kr kr kr kr Z w
theorem InsertE_ok{a va:Option Addr}{c Z i:Nat}{xs ys:List Pt}(hi:i<=xs.length)(hy:0<ys.length)(aq:xs.length+ys.length<=1000000000):eu prog κ 269 [.slice a xs.length c,e7 ((i:Int)),.slice va ys.length Z] (vc 105 (.slice a xs.length c) (xs)::vc 105 (.slice va ys.length Z) (ys)::I) (λr J=>∃a' c',r = .slice a' (List.take i xs++ys++List.drop i xs).length c'/\J=vc 105 (.slice a' (List.take i xs++ys++List.drop i xs).length c') (List.take i xs++ys++List.drop i xs)::I):=by
 refine B8 (vc.cap List.mem_cons_self) λao=>?_
 have aa:(List.take i xs++ys++List.drop i xs).length=xs.length+ys.length:=by simp only [List.length_append,List.length_take,List.length_drop];omega
 refine Ce3 Tryz.func269 C C ?_
 refine Af<|Ga C<|Ac<|Af<|Gm C<|Gm C<|Gr (Ek (α:=Pt) (xs:=xs) (l:=i) Au ty105 C C om Bf lat)<|Ac<|Af<|Gm C<|Gr (Bh Au C)<|Ga C<|Ac<|Aq<|Af<|Gm C<|Gr (Bw C C)<|Ac<|A5 C (λah=>?_)<|λah=>?_
 ·exact absurd ah om
 refine Av<|Ah<|Af<|Gm C<|Gr (Bh Au C)<|Ga C<|Ac<|Ao (S5 8 7 0 1 2 C C C C C)<|Aq<|Af<|Gm C<|Gm C<|Gr (Bw C C)<|Ac<|A5 C (λak=>?_)<|λak=>?_
 ·refine Af (Gm C<|Gm C<|Ge2 (Cg (α:=Pt) (e:=105) (xs:=xs) (ys:=ys) Au ty105 C C C mm Bf om dc C<|λ_ _=>am) λad ae=>?_)
  refine Ga C<|Ac<|Az<|Ap ?_
  have hR:List.take i xs++ys++List.drop i xs=xs++ys:=by rw [List.take_of_length_le om,List.drop_eq_nil_of_le om,List.append_nil]
  exact A1 C C (vc 105 (.slice ad (List.take i xs++ys++List.drop i xs).length ae) (List.take i xs++ys++List.drop i xs)::I) (by rw [hR];exact Bl) ⟨ad,ae,by rw [hR],rfl⟩
 refine Av<|Ah<|Aq<|Af<|Gm C<|Gm C<|Gr (Rad C C)<|Gm C<|Gr (Runs.caps Au C)<|Gr (Cc C C)<|Ac<|Ao (S6 31 8 7 0 1 2 C C C C C C)<|A5 C (λai=>?_)<|λai=>?_
 ·refine Af (Gm C<|Gm C<|Gr (E2 (h:=i) Au ty105 C C om om)<|Gm C<|Gm C<|Gr (Rad C C)<|Gm C<|Gr (Rsu C C)<|Ge2 (Eff.grow (α:=Pt) (xs:=xs) (k:=xs.length+ys.length - i) Au Ce ty105 C C C om Bf om om om om dc C) λab M=>?_)
  refine Ga C<|G.pull (p:=(List.take i xs++replicate (xs.length+ys.length - i) (default:Pt)).length<=M) (vc.cap mm) λan=>?_
  have ap:(List.take i xs++replicate (xs.length+ys.length - i) (default:Pt)).length=xs.length+ys.length:=by simp only [List.length_append,List.length_take,List.length_replicate];omega
  refine Ac<|Ao (S5 9 7 0 1 2 C C C C C)<|Af<|Gm C<|Gm C<|Gr (Ek (α:=Pt) (xs:=List.take i xs++replicate (xs.length+ys.length - i) (default:Pt)) (l:=i) Au ty105 C C om Bf lat)<|Gm C<|Ge0 (Fe (α:=Pt) (k:=i) (q:=ys.length) (R:=List.take i xs++ys++replicate (xs.length - i) (default:Pt)) (n:=(i+(xs.length+ys.length - i))) Au ty105 C lat C Bf lat lat C (ins1 hi) lat am) ?_
  refine Ac<|Aq<|Bq mixed<|Ca I 9<|Dr 0 C (Ai C)<|Dr 1 C (Ai C)<|Dr 2 C (Ai C)<|Dr 3 C (Rad C C)<|Dr 4 C (C1 (l:=(i+ys.length)) Au ty105 C C om om om)<|Dr 5 C (Ai C)<|Dr 6 C (Ai C)<|Dr 7 C (C1 (l:=i) Au ty105 C C om om om)<|Ds1 8<|Se0 C (Fe (α:=Pt) (k:=(i+ys.length)) (q:=(xs.length - i)) (R:=List.take i xs++ys++List.drop i xs) (n:=(i+(xs.length+ys.length - i))) Au ty105 C lat C (Sl.dropn (C3 (xs:=xs) mm) om om) lat lat C (ins2 hi) lat am) ?_
  exact Dz<|Ah<|Ao (S1 9 C)<|Af<|Gm C<|Ga C<|Ac<|Az<|Ap<|A1 C C (vc 105 (.slice ab (List.take i xs++ys++List.drop i xs).length M) (List.take i xs++ys++List.drop i xs)::I) (by rw [show (List.take i xs++ys++List.drop i xs).length=i+(xs.length+ys.length - i) by omega];exact Bl) ⟨ab,M,by rw [show (List.take i xs++ys++List.drop i xs).length=i+(xs.length+ys.length - i) by omega],rfl⟩
 refine Av<|Ah<|Af<|Gm C<|Gm C<|Gm C<|Gr (Rad C C)<|Gr (E2 (h:=xs.length+ys.length) Au ty105 C C om om)<|Ga C<|G.room (h:=xs.length+ys.length) (by repeat (first|exact AtF.head _ _|apply AtF.tail)) C om om<|λjs aj=>?_
 show G prog κ _ _ _ _ ([(0,.slice a (xs.length+ys.length) c),(60,.slice a (xs.length+ys.length) c),(59,e7<|((xs.length:Nat):Int)+((ys.length:Nat):Int)),(58,e7 ((ys.length:Nat):Int)),(57,e7 ((xs.length:Nat):Int)),(56,.slice a xs.length c),(31,.bool<|decide<|(c:Int)<(((xs.length:Nat):Int)+((ys.length:Nat):Int))),(8,e7 ((xs.length:Nat):Int)),(7,e7 ((ys.length:Nat):Int)),(0,.slice a xs.length c),(1,e7<|(i:Int)),(2,.slice va ys.length Z)]:Env) (vec 105 (Enc.sz Pt) (.slice a (xs.length+ys.length) c) (xs.length+ys.length) (cells xs++js)::vc 105 (.slice va ys.length Z) (ys)::I)
 refine Ac<|Aq<|Af<|Gm C<|Gm C<|Gm C<|Gm C<|Gr (Rad C C)<|Gr (C1 (l:=(i+ys.length)) Au ty105 C C om om om)<|Ge0 (Eff.overlaps (k:=i+ys.length) ov276 Au ty105 C C om om om (show Fit κ _ (vc 105 (.slice va ys.length Z) ys::vec 105 (Enc.sz Pt) (.slice a (xs.length+ys.length) c) (xs.length+ys.length) (cells xs++js)::I) from Fit.sp (Sp.pick (Pick.tail _<|Pick.head _ _)<|Sp.refl _)) (Nat.mul_pos om Enc.pos) C) ?_
 refine Gr (Co C)<|Ac<|Ao (S6 68 0 8 7 1 2 C C C C C C)<|Dj C<|Aq<|Bq mixed<|Ca I 9<|Dr 0 C (Ai C)<|Dr 1 C (Ai C)<|Dr 2 C (Ai C)<|Dr 3 C (Rad C C)<|Dr 4 C (C1 (l:=(i+ys.length)) Au ty105 C C om om om)<|Dr 5 C (Ai C)<|Dr 6 C (Ai C)<|Dr 7 C (C1 (l:=i) Au ty105 C C om om om)<|Ds1 8<|Se0 C (Eff.copyR (sz:=Enc.sz Pt) (n:=xs.length+ys.length) (cs:=(cells xs++js)) (k:=(i+ys.length)) (q:=(xs.length - i)) Au ty105 C om C (SlRd.dropR (SlRd.vec mm) om) om om (ins_one hi) C am) ?_
 show D prog κ _ _ _ _ _ _ _ ([(77,e7<|(((xs.length - i):Nat):Int)),(76,.slice (adrop a c i<|Enc.sz Pt) ((xs.length+ys.length) - i)<|c - i),(75,e7<|(i:Int)),(74,.slice a (xs.length+ys.length) c),(73,.slice (adrop a c (i+ys.length)<|Enc.sz Pt) ((xs.length+ys.length) - (i+ys.length))<|c - (i+ys.length)),(72,e7<|(i:Int)+((ys.length:Nat):Int)),(71,e7 ((ys.length:Nat):Int)),(70,e7<|(i:Int)),(69,.slice a (xs.length+ys.length) c),(68,.bool true),(0,.slice a (xs.length+ys.length) c),(8,e7 ((xs.length:Nat):Int)),(7,e7 ((ys.length:Nat):Int)),(1,e7<|(i:Int)),(2,.slice va ys.length Z)]:Env) (vec 105 (Enc.sz Pt) (.slice a (xs.length+ys.length) c) (xs.length+ys.length) (List.take ((i+ys.length)*Enc.sz Pt) (cells xs++js)++List.take ((xs.length - i)*Enc.sz Pt) (List.drop (i*Enc.sz Pt)<|cells xs++js)++List.drop ((i+ys.length)*Enc.sz Pt+(xs.length - i)*Enc.sz Pt) (cells xs++js))::vc 105 (.slice va ys.length Z) (ys)::I)
 refine Dz<|Ah<|Ao (S3 0 1 2 C C C)<|Af<|Gm C<|Gm C<|Gr (C1 (l:=i) Au ty105 C C om om om)<|Gm C<|Ge0 (Eff.copyR (sz:=Enc.sz Pt) (n:=xs.length+ys.length) (cs:=(List.take ((i+ys.length)*Enc.sz Pt) (cells xs++js)++List.take ((xs.length - i)*Enc.sz Pt) (List.drop (i*Enc.sz Pt)<|cells xs++js)++List.drop ((i+ys.length)*Enc.sz Pt+(xs.length - i)*Enc.sz Pt) (cells xs++js))) (k:=i) (q:=ys.length) Au ty105 C om C (show Sl κ _ (.slice va ys.length Z) ys from (C3 (e:=105) (xs:=ys) mm)) om om (λu hu=>cells_one ys u<|List.mem_of_mem_take hu) C am) ?_
 show G prog κ _ _ _ _ ([(82,e7 ((ys.length:Nat):Int)),(81,.slice va ys.length Z),(80,.slice (adrop a c i<|Enc.sz Pt) ((xs.length+ys.length) - i)<|c - i),(79,e7<|(i:Int)),(78,.slice a (xs.length+ys.length) c),(0,.slice a (xs.length+ys.length) c),(1,e7<|(i:Int)),(2,.slice va ys.length Z)]:Env) (vec 105 (Enc.sz Pt) (.slice a (xs.length+ys.length) c) (xs.length+ys.length) (List.take (i*Enc.sz Pt) (List.take ((i+ys.length)*Enc.sz Pt) (cells xs++js)++List.take ((xs.length - i)*Enc.sz Pt) (List.drop (i*Enc.sz Pt)<|cells xs++js)++List.drop ((i+ys.length)*Enc.sz Pt+(xs.length - i)*Enc.sz Pt) (cells xs++js))++List.take (ys.length*Enc.sz Pt) (cells ys)++List.drop (i*Enc.sz Pt+ys.length*Enc.sz Pt) (List.take ((i+ys.length)*Enc.sz Pt) (cells xs++js)++List.take ((xs.length - i)*Enc.sz Pt) (List.drop (i*Enc.sz Pt)<|cells xs++js)++List.drop ((i+ys.length)*Enc.sz Pt+(xs.length - i)*Enc.sz Pt) (cells xs++js)))::vc 105 (.slice va ys.length Z) (ys)::I)
 refine Ac<|Af<|Gm C<|Ga C<|Ac<|Az<|Ap ?_
 have hC:(List.take (i*Enc.sz Pt) (List.take ((i+ys.length)*Enc.sz Pt) (cells xs++js)++List.take ((xs.length - i)*Enc.sz Pt) (List.drop (i*Enc.sz Pt)<|cells xs++js)++List.drop ((i+ys.length)*Enc.sz Pt+(xs.length - i)*Enc.sz Pt) (cells xs++js))++List.take (ys.length*Enc.sz Pt) (cells ys)++List.drop (i*Enc.sz Pt+ys.length*Enc.sz Pt) (List.take ((i+ys.length)*Enc.sz Pt) (cells xs++js)++List.take ((xs.length - i)*Enc.sz Pt) (List.drop (i*Enc.sz Pt)<|cells xs++js)++List.drop ((i+ys.length)*Enc.sz Pt+(xs.length - i)*Enc.sz Pt) (cells xs++js)))=cells (List.take i xs++ys++List.drop i xs):=ins_cells hi aj
 exact A1 C C (vc 105 (.slice a (List.take i xs++ys++List.drop i xs).length c) (List.take i xs++ys++List.drop i xs)::I) (by rw [hC];show Fit κ _ (vec 105 _ (.slice a (List.take i xs++ys++List.drop i xs).length c) (List.take i xs++ys++List.drop i xs).length (cells<|List.take i xs++ys++List.drop i xs)::I);rw [aa];exact Bl) ⟨a,c,by rw [aa],rfl⟩
variable {κ:Ctx}{I:List Item}
theorem sortI_ok{e:TypeId}{ad:Option Addr}{xs:List Int}(Z:xs.length<4611686018427387904):eu prog κ 163 [.slice ad xs.length c] (vc e (.slice ad xs.length c) xs::I) λr J=>r = .tuple #[]/\J=vc e (.slice ad xs.length c) (sortZ xs)::I:=
 (sortI_any (κ:=κ) (I:=I) Tryz.sortI (e:=e) (ad:=ad) (c:=c) Z).mono λr J ⟨M,h2⟩=>⟨M,by rw [h2,sortZ_len]⟩
theorem CloneI{xs:List Int}(hl:Sl κ I (.slice a xs.length c) xs)(hb:xs.length<=1000000000):eu prog κ 128 [.slice a xs.length c] I (λr J=>∃a' c',r = .slice a' xs.length c'/\J=vk 3 a' c' xs::I):=by
 refine B8 (p:=a.isNone=true->xs=[]/\c=0) (λw hs hn=>hl.isNone w hs hn) λZ=>?_
 refine Ce1 Tryz.func128 C C ?_
 refine Af<|Ga C<|Ac<|Aq<|Af<|Gm C<|Gr (Runs.eqnil Ab C C)<|Ac<|D4 C (λc4=>?_)<|λc4=>?_
 ·refine Af (Ga C<|Ac<|Az<|Ap ?_)
  obtain ⟨ab,_⟩:=Z c4
  subst ab
  exact A1 C C (vk 3 none 0 ([]:List Int)::I) (Cb _ _) ⟨none,0,rfl,rfl⟩
 refine Av<|Ah<|Af<|Ge1 (Eff.bs0 (α:=Int) Ab ef C) λad=>?_
 refine Gm C<|Ge2 (Cg (α:=Int) (e:=3) (xs:=([]:List Int)) (ys:=xs) Ab ef C C C mm (A8 hl) (by simp only [List.length_nil];omega) dc C<|λ_ _=>am) λM aa=>?_
 exact Ga C<|Ac<|Az<|A1 C C (vk 3 M aa xs::I) Bc ⟨M,aa,rfl,rfl⟩
variable {κ:Ctx}{I:List Item}
theorem eqt105:EqT prog 105 Pt:=EqT.flat (λp:Pt=>[p.u,p.v]) (λ_=>rfl) (λx y h=>by cases x;cases y;simpa using h) (n:=2) (λ_=>rfl) kr kr kr kr kr
theorem DeleteE_ok(ad:i<j)(hj:j<=xs.length)(ab:xs.length<=1000000000):eu prog κ 274 [.slice a xs.length c,e7 ((i:Int)),e7 ((j:Int))] (vk 105 a c xs::I) (λr J=>r = .slice a (List.take i xs++List.drop j xs).length c/\vk 105 a c (List.take i xs++List.drop j xs)::I=J):=by
 refine B8 (vc.cap List.mem_cons_self) λM=>?_
 have aa:(List.take i xs++List.drop j xs).length=i+(xs.length - j):=by simp only [List.length_append,List.length_take,List.length_drop];omega
 refine Ce3 Tryz.func274 C C ?_
 refine Af<|Ga C<|Ac<|Af<|Gm C<|Gm C<|Gm C<|Gm C<|Gr (Bh Au C)<|Gr (Runs.lohi3 (l:=i) (h:=j) (q:=xs.length) Au ty105 C C om C om C om om om om)<|Ac<|Aq<|Af<|Gm C<|Gm C<|Gr (Bw C C)<|Ac<|A5 C (λZ=>?_)<|λZ=>?_
 ·exact absurd Z om
 refine Av<|Ah<|Af<|Gm C<|Gr (Bh Au C)<|Ga C<|Ac<|Ao (S4 7 0 1 2 C C C C)<|Aq<|Bq mixed<|Ca I 8<|Dr 0 C (Ai C)<|Dr 1 C (Ai C)<|Dr 2 C (E2 (h:=i) Au ty105 C C om om)<|Dr 3 C (Ai C)<|Dr 4 C (Ai C)<|Dr 5 C (C1 (l:=j) Au ty105 C C om om om)<|Ds1 6<|Se0 C (Eff.appIn (α:=Pt) (xs:=xs) (i:=i) (j:=j) Au ty105 C C C om om om C am) ?_
 refine Dr 7 C (Bd C)<|Dz<|Ah<|Af<|Gm C<|Gm C<|Gr (Bh Au C)<|Gm C<|Gr (Runs.lohiraw (l:=(List.take i xs++List.drop j xs).length) (h:=xs.length) Au ty105 C C om C om om om)<|Ge0 (Eff.clearB (α:=Pt) (xs:=(List.take i xs++List.drop j xs)) (k:=(List.take i xs++List.drop j xs).length) (h:=xs.length) Au ty105 (AllOne.cons C<|AllOne.cons C AllOne.nil) C C C C om om am) ?_
 exact Ac<|Ao (S1 0 C)<|Af<|Gm C<|Ga C<|Ac<|Az<|A1 C C _ (Er _) ⟨rfl,rfl⟩
theorem BSearchE(hl:Sl κ I v xs)(x:Pt){g:FuncId}{Z:List Value}{cf:Pt->Pt->Int}(M:Cmps prog κ I g Z cf)(an:xs.length<=1000000000000):eu prog κ 189 [v,.agg #[e7 (x.u),e7 (x.v)],.func (.func g) #[] Z.toArray] I (λr J=>∃i b,r = .tuple #[e7 ((i:Nat):Int),.bool b]/\BFound cf xs x i b/\I=J):=by
 refine B8 hl.le λaj=>?_
 refine Ce3 Tryz.func189 C C ?_
 refine Af<|Ge1 (Bg (cs:=[_,_]) C C C) λb1=>Ga C<|Ga C<|Ac<|Af<|Gm C<|Gr (B9 (α:=Pt) (xs:=xs) Au C<|A8 hl)<|Ga C<|Ac<|Af<|Gm C<|Ga C<|Ga C<|Ac<|Aq<|Aw<|Bu (σ:=Nat×Nat) (λs=>([(0,v),(2,.func (.func g) #[] Z.toArray),(4,pt b1),(8,e7 ((xs.length:Nat):Int)),(9,e7 ((s.1:Nat):Int)),(10,e7 ((s.2:Nat):Int))]:Env)) (λs=>e8 b1 [e7 (x.u),e7<|x.v] 105::I) (λs=>(s.1<=s.2)/\(s.2<=xs.length)/\(0<s.1->cf (e_ xs<|(s.1:Int) - 1) x<0)/\(s.2<xs.length->¬cf (e_ xs s.2) x<0)) (λs=>s.2 - s.1) (0,xs.length) (show ((0:Nat)<=(xs.length:Nat))/\((xs.length:Nat)<=xs.length)/\(0<(0:Nat)->cf (e_ xs<|((0:Nat):Int) - 1) x<0)/\((xs.length:Nat)<xs.length->¬cf (e_ xs ((xs.length:Nat):Int)) x<0) from ⟨om,om,(λh=>absurd h dc),(λh=>absurd h om)⟩) (Aa C<|Aa C<|Aa C<|Aa C<|Aa B2<|Aa B2 Bi) (show Fit κ _ (e8 b1 [e7 (x.u),e7<|x.v] 105::I) from Bc) ?_
 rintro ⟨i,j⟩ hp
 dsimp only at hp ⊢
 obtain ⟨ak,hj,aa,ae⟩:=hp
 refine Aq<|Af<|Gm C<|Gm C<|Gr (A4 C C)<|Ac<|A5 C (λai=>?_)<|λai=>?_
 ·refine Av (Ah<|Aw<|Af<|Gm C<|Gm C<|Gr (Rad C C)<|Gr (Runs.convU Ce D5 C om)<|Gr (Runs.shr1 C C)<|Gr (Runs.convI D5 Ce C<|by unfold InR;omega)<|Ga C<|Ac<|Ao (S7 11 0 2 4 8 9 10 C C C C C C C)<|Aq<|Bq mixed<|Ca (e8 b1 [e7 (x.u),e7<|x.v] 105::I) 8<|Dr 0 C (Ai C)<|Dr 1 C (Ai C)<|Dr 2 C (Ai C)<|Dr 3 C (Ax (α:=Pt) (xs:=xs) Au ty105 C C (A8 hl) om om)<|Dr 4 C (Bx (α:=Pt) (xs:=xs) ty105 C (A8 hl) om om)<|Dr 5 C (Be (vs:=[_,_]) ty105) ?_)
  refine Ds1 6<|Se C (Cv M.1 (first:=[]) (caps:=Z) C C C<|M.2 (e_ xs<|((i:Int)+(j:Int)) / 2) x _ Ay) ?_
  rintro _ _ ⟨_,_,⟨rfl,rfl⟩,rfl,rfl⟩
  refine ⟨Bc,?_⟩
  refine Dr 7 C (A4 C C)<|Dz<|Ah<|Ao (S8 31 11 0 2 4 8 9 10 C C C C C C C C)<|A5 C (λab=>?_)<|λab=>?_
  ·exact Ar<|Gm C<|Gr (Rad C C)<|Ga C<|Bj<|Aj<|B3 (((i+j) / 2+1),(j))<|by dsimp only;exact ⟨om,om,(λ_=>by rw [show (((i+j) / 2+1:Nat):Int) - 1=((i:Int)+(j:Int)) / 2 by omega];exact ab),ae⟩
  exact Ar<|Gm C<|Ga C<|Bj<|Aj<|B3 ((i),((i+j) / 2))<|by dsimp only;exact ⟨om,om,aa,(λ_=>by rw [show (((i+j) / 2:Nat):Int)=((i:Int)+(j:Int)) / 2 by omega];exact ab)⟩
 refine Bs<|Al<|Al<|A2<|Ah<|Aq<|Bq mixed<|Ca (e8 b1 [e7 (x.u),e7<|x.v] 105::I) 16<|Dr 0 C (Ai C)<|Dr 1 C (Ai C)<|Dr 2 C (Ai C)<|Dr 3 C (A4 C C)<|Dr 4 C (Ai C)<|El (d:=39) C (λah=>?_)<|λah=>?_
 ·refine Dro 5 C (Ai C) (Dro 6 C (Ai C)<|Dro 7 C (Ai C)<|Dro 8 C (Ax (α:=Pt) (xs:=xs) Au ty105 C C (A8 hl) om om)<|Dro 9 C (Bx (α:=Pt) (xs:=xs) ty105 C (A8 hl) om om)<|Dro 10 C (Be (vs:=[_,_]) ty105) ?_)
  refine Ds1 11<|Se C (Cv M.1 (first:=[]) (caps:=Z) C C C<|M.2 (e_ xs i) x _ Ay) ?_
  rintro _ _ ⟨_,_,⟨rfl,rfl⟩,rfl,rfl⟩
  refine ⟨Bc,?_⟩
  refine Dro 12 C (Bw C C)<|Dr 13 C (Ba C C)<|Dr 14 C (Bd C)<|Dr 15 C (Bd C)<|Dz<|Ah<|Ao (S2 7 6 C C)<|Az ?_
  have ad:i=j:=by omega
  subst ad
  exact C7 C C C I Ay ⟨i,_,rfl,⟨hj,aa,ae,(decide_eq_decide.2 ⟨λh=>⟨by omega,h⟩,λh=>h.2⟩)⟩,rfl⟩
 refine Dpo 5 C<|Dpo 6 C<|Dpo 7 C<|Dpo 8 C<|Dpo 9 C<|Dpo 10 C<|Dpo 11 C<|Dpo 12 C<|Dr 13 C (A6 C C)<|Dr 14 C (Bd C)<|Dr 15 C (Bd C)<|Dz<|Ah<|Ao (S2 7 6 C C)<|Az ?_
 have ad:i=j:=by omega
 subst ad
 exact C7 C C C I Ay ⟨i,_,rfl,⟨hj,aa,ae,((decide_eq_false<|λh=>by omega).symm)⟩,rfl⟩
variable {κ:Ctx}{I:List Item}
theorem CheckGen_ok(Z:Sl κ I v es):eu prog κ 86 [.agg #[e7 nd,v]] I (λr J=>r=e7 (checkG nd es)/\I=J):=by
 refine B8 Z.le λai=>?_
 refine Ce1 Tryz.func86 C C ?_
 refine Af<|Ge1 (Bg (cs:=[_,_]) C C C) λb1=>Ga C<|Ac<|Aq<|Af<|Gf fld38_0 C<|Gl ef ?_
 refine Gr (A4 C C)<|Gm C<|Bt (d:=8) C (λg8=>?_)<|λg8=>?_
 ·exact eb<|eb<|eb<|Gr (Ba C C)<|Ac<|Dj C<|Af<|Ga C<|Ac<|Az<|Ap<|A1 C C I Ay ⟨by rw [show checkG nd es=1 from (by unfold checkG;rw [if_pos om])],rfl⟩
 refine e9 (Ad fld38_0 C)<|e9 (Bb ef) ?_
 refine e9 (Cc C C)<|Gr (A6 C C)<|Ac<|A5 C (λc12=>?_)<|λc12=>?_
 ·exact Af<|Ga C<|Ac<|Az<|Ap<|A1 C C I Ay ⟨by rw [show checkG nd es=1 from (by unfold checkG;rw [if_pos om])],rfl⟩
 refine Av<|Ah<|Aq<|Af<|Gf fld38_1 C<|Gl ty36 ?_
 refine Gr (B9 (α:=Pt) (xs:=es) Au C<|A8 Z)<|Gm C<|Ac<|Ao (S4 16 15 14 1 C C C C)<|Aw<|Bu (σ:=Nat) (λs=>([(1,pt b1),(14,v),(15,e7 ((es.length:Nat):Int)),(16,e7 ((s:Nat):Int))]:Env)) (λs=>e8 b1 [e7 nd,v] 38::I) (λs=>(s<=es.length)/\(checkG nd es=scanL (badE nd) Pt.lt (prevAt es s) (es.drop s))) (λs=>es.length - s) 0 (show ((0:Nat)<=es.length)/\(checkG nd es=scanL (badE nd) Pt.lt (prevAt es (0:Nat)) (es.drop (0:Nat))) from ⟨om,(by unfold checkG;rw [if_neg om];rfl)⟩) (Aa C<|Aa C<|Aa C<|Aa B2 Bi) (show Fit κ _ (e8 b1 [e7 nd,v] 38::I) from Bc) ?_
 rintro k hp
 obtain ⟨hk,hs⟩:=hp
 refine Af<|Gr (A4 C C)<|Ac<|Aq<|A5 C (λaa=>?_)<|λaa=>?_
 ·refine Av (Ah<|Aq<|Aw<|Af<|Gm C<|Gr (Ax (α:=Pt) (xs:=es) Au ty105 C C (A8 Z) om om)<|Gr (Bx (α:=Pt) (xs:=es) ty105 C (A8 Z) om om)<|Ge1 (A3 ty105 C) λb2=>Ga C<|Ge0 (Cz ty105) ?_)
  refine Ac<|Aw<|Af<|Gf fld105_0 C<|Gl ef ?_
  refine Gr (A4 C C)<|Gm C<|Bt (d:=25) C (λM=>?_)<|λM=>?_
  ·exact eb<|eb<|eb<|eb<|eb<|Gr (Ba C C)<|Gm C<|eb<|eb<|eb<|eb<|eb<|Gr (Ba C C)<|Ga C<|Ac<|Ao (S7 21 3 4 1 14 15 16 C C C C C C C)<|Dj C<|Af<|Ga C<|Ac<|Az<|A7<|A7<|Ap<|Ap<|A7<|Ap<|A1 C C I Ay ⟨by rw [show checkG nd es=6 from (hs.trans<|(C4 om<|by unfold badE;rw [if_pos om];decide).trans (by unfold badE;rw [if_pos om]))],rfl⟩
  refine e9 (Ad fld105_0 C)<|e9 (Bb ef) ?_
  refine e9 (Ad fld105_1 C)<|e9 (Bb ef) ?_
  refine e9 (Cr C C)<|Gr (A6 C C)<|Gm C<|Bt (d:=32) C (λah=>?_)<|λah=>?_
  ·exact eb<|eb<|eb<|eb<|eb<|Gr (Ba C C)<|Ga C<|Ac<|Ao (S7 21 3 4 1 14 15 16 C C C C C C C)<|Dj C<|Af<|Ga C<|Ac<|Az<|A7<|A7<|Ap<|Ap<|A7<|Ap<|A1 C C I Ay ⟨by rw [show checkG nd es=6 from (hs.trans<|(C4 om<|by unfold badE;rw [if_pos om];decide).trans (by unfold badE;rw [if_pos om]))],rfl⟩
  refine e9 (Ad fld105_1 C)<|e9 (Bb ef) ?_
  refine e9 (Ad fld38_0 C)<|e9 (Bb ef) ?_
  refine e9 (Cr C C)<|Gr (A6 C C)<|Ga C<|Ac<|Ao (S7 21 3 4 1 14 15 16 C C C C C C C)<|A5 C (λae=>?_)<|λae=>?_
  ·exact Af<|Ga C<|Ac<|Az<|A7<|A7<|Ap<|Ap<|A7<|Ap<|A1 C C I Ay ⟨by rw [show checkG nd es=6 from (hs.trans<|(C4 om<|by unfold badE;rw [if_pos om];decide).trans (by unfold badE;rw [if_pos om]))],rfl⟩
  refine Aq<|Bq mixed<|Ca (e8 b2 [e7 ((e_ es k).u),e7<|(e_ es k).v] 105::e8 b1 [e7 nd,v] 38::I) 14<|Dr 0 C (Ai C)<|Dr 1 C (Cc C C)<|Dr 2 C (Ai C)<|El (d:=42) C (λad=>?_)<|λad=>?_
  ·refine Dro 3 C (Ad fld38_1 C) (Dro 4 C (Bb ty36) ?_)
   refine Dro 5 C (Ai C)<|Dro 6 C (Rsu C C)<|Dro 7 C (Ax (α:=Pt) (xs:=es) Au ty105 C C (A8 Z) om om)<|Dro 8 C (Bx (α:=Pt) (xs:=es) ty105 C (A8 Z) om om)<|Dro 9 C (Be (vs:=[_,_]) ty105) ?_
   refine Ds1 10<|Se C (Ak c_ C C<|Order_ok (e_ es<|(k:Int) - 1)<|e_ es k) ?_
   rintro _ _ ⟨_,_,⟨rfl,rfl⟩,rfl,rfl⟩
   refine ⟨Ay,?_⟩
   refine Dro 11 C (Cr C C)<|Dr 12 C (Ba C C)<|Dr 13 C (Bd C)<|Dz<|Ah<|Ao (S5 39 1 14 15 16 C C C C C)<|A5 C (λab=>?_)<|λab=>?_
   ·exact Af<|Ga C<|Ac<|Az<|A7<|A7<|Ap<|Ap<|A7<|Ap<|A1 C C I Ay ⟨by rw [show checkG nd es=5 from (hs.trans<|scanL_order om (badE_zero.2 om) om (λh=>by have:=(Pt.cmp_lt _ _).2 h;omega))],rfl⟩
   exact Av<|Aj<|Aj<|Ah<|Ar<|Gr (Rad C C)<|Gm C<|Bj<|B3 ((k+1)) ⟨om,(hs.trans<|E1 om (badE_zero.2 om)<|λh0=>by first|omega|exact (Pt.cmp_lt _ _).1 om)⟩
  exact Dpo 3 C<|Dpo 4 C<|Dpo 5 C<|Dpo 6 C<|Dpo 7 C<|Dpo 8 C<|Dpo 9 C<|Dpo 10 C<|Dpo 11 C<|Dr 12 C (A6 C C)<|Dr 13 C (Bd C)<|Dz<|Ah<|Ao (S5 39 1 14 15 16 C C C C C)<|Dp C<|Av<|Aj<|Aj<|Ah<|Ar<|Gr (Rad C C)<|Gm C<|Bj<|B3 ((k+1)) ⟨om,(hs.trans<|E1 om (badE_zero.2 om)<|λh0=>by first|omega|exact (Pt.cmp_lt _ _).1 om)⟩
 exact Bs<|Al<|Al<|A2<|Ah<|Af<|Ga C<|Ac<|Az<|A1 C C I Ay ⟨by rw [show checkG nd es=0 from (hs.trans<|scanL_end om)],rfl⟩
theorem Ends_ok(nd u v:Int):eu prog κ 267 [e7 nd,e7 u,e7 v] I (λr J=>r = .bool (decide (endsP nd u v))/\I=J):=by
 have aa:((if v<u then v else u)<=u/\(if v<u then v else u)<=v/\((if v<u then v else u)=u\/(if v<u then v else u)=v))/\(u<=(if u<v then v else u)/\v<=(if u<v then v else u)/\((if u<v then v else u)=u\/(if u<v then v else u)=v)):=by refine ⟨⟨?_,?_,?_⟩,⟨?_,?_,?_⟩⟩<;>split<;>omega
 refine Ce3 Tryz.func267 C C ?_
 refine Af<|Ga C<|Ac<|Af<|Gm C<|Gm C<|Gr (Bo C C)<|Gm C<|Bt (d:=10) C (λM=>?_)<|λM=>?_
 ·refine e9 (Ai C) (e9 (Ai C)<|e9 (Ep C C)<|e9 (Cr C C)<|Gr (Ba C C)<|Gm C<|Bt (d:=16) C (λZ=>?_)<|λZ=>?_)
  ·exact e9 (Ai C)<|e9 (Ai C)<|e9 (Dq C C)<|e9 (Ai C)<|e9 (A4 C C)<|Gr (Ba C C)<|Ga C<|Ac<|Ao (S1 6 C)<|Az<|A1 C C I Ay ⟨(by first|exact congrArg Value.bool (decide_eq_decide.2<|by unfold endsP;omega)|exact congrArg Value.bool (decide_eq_true<|by unfold endsP;omega).symm|exact congrArg Value.bool (decide_eq_false<|by unfold endsP;omega).symm),rfl⟩
  exact eb<|eb<|eb<|eb<|eb<|Gr (A6 C C)<|Ga C<|Ac<|Ao (S1 6 C)<|Az<|A1 C C I Ay ⟨(by first|exact congrArg Value.bool (decide_eq_decide.2<|by unfold endsP;omega)|exact congrArg Value.bool (decide_eq_true<|by unfold endsP;omega).symm|exact congrArg Value.bool (decide_eq_false<|by unfold endsP;omega).symm),rfl⟩
 exact eb<|eb<|eb<|eb<|Gr (A6 C C)<|Gm C<|eb<|eb<|eb<|eb<|eb<|Gr (A6 C C)<|Ga C<|Ac<|Ao (S1 6 C)<|Az<|A1 C C I Ay ⟨(by first|exact congrArg Value.bool (decide_eq_decide.2<|by unfold endsP;omega)|exact congrArg Value.bool (decide_eq_true<|by unfold endsP;omega).symm|exact congrArg Value.bool (decide_eq_false<|by unfold endsP;omega).symm),rfl⟩
theorem EdgeG_ok(u v:Int):eu prog κ 188 [e7 u,e7 v] I (λr J=>r = .agg #[e7 (edgeP u v).u,e7 (edgeP u v).v]/\I=J):=by
 refine Ce2 Tryz.func188 C C ?_
 refine Af<|Ge1 (A3 ty105 C) λb1=>Ac<|Af<|Gm C<|Gm C<|Gr (Ep C C)<|Gm C<|Gm C<|Gr (Dq C C)<|Gr (Bp (cells:=[_,_]) ty105 De pl105 C C)<|Ge0 (Cz ty105) ?_
 exact Ac<|Az<|E6 C ty105 C mm C I Ay ⟨rfl,rfl⟩
theorem Change_ok(M:Sl κ I va es)(u v:Int):eu prog κ 268 [.agg #[e7 nd,va],e7 u,e7 v] I (λr J=>r=e7 (changeG nd es u v)/\I=J):=by
 refine Ce3 Tryz.func268 C C ?_
 refine Af<|Ge1 (Bg (cs:=[_,_]) C C C) λb1=>Ga C<|Ac<|Aq<|Af<|Gl2 ty38 ?_
 refine Gc0 (Ak c_ C C<|CheckGen_ok<|A8 M) ?_
 refine Ga C<|Ac<|Af<|Gm C<|Gr (Bo C C)<|Ac<|A5 C (λc11=>?_)<|λc11=>?_
 ·exact Af<|Gm C<|Ga C<|Ac<|Az<|Ap<|A1 C C I Ay ⟨by unfold changeG;rw [if_pos om],rfl⟩
 refine Av<|Ah<|Aq<|Af<|Gf fld38_0 C<|Gl ef ?_
 refine Gm C<|Gm C<|Gc0 (Ak c_ C C<|Ends_ok nd u v) ?_
 refine Gr (Dk C)<|Ac<|Ao (S1 18 C)<|A5 C (λZ=>?_)<|λZ=>?_
 ·exact Af<|Ga C<|Ac<|Az<|Ap<|A1 C C I Ay ⟨by unfold changeG;rw [if_neg om,if_neg asm],rfl⟩
 exact Av<|Ah<|Af<|Ga C<|Ac<|Az<|A1 C C I Ay ⟨by unfold changeG;rw [if_neg om,if_pos<|Classical.not_not.1 asm],rfl⟩
theorem Order_cmps:Cmps prog κ I 131 [] Pt.cmp:=⟨c_,λx y J Z=>Order_ok x y⟩
theorem Place_ok(Z:Sl κ I va es)(u v:Int)(hb:es.length<=1000000000):eu prog κ 172 [.agg #[e7 nd,va],e7 u,e7 v] I (λr J=>∃i q,r = .tuple #[e7 ((i:Nat):Int),.bool (decide (i<es.length/\e_ es ((i:Nat):Int)=(edgeP u v)))]/\BFound Pt.cmp es (edgeP u v) i q/\I=J):=by
 refine B8 Z.le λab=>?_
 refine Ce3 Tryz.func172 C C ?_
 refine Af<|Ge1 (Bg (cs:=[_,_]) C C C) λb1=>Ga C<|Ga C<|Ac<|Af<|Gm C<|Gm C<|Gc0 (Ak c_ C C<|EdgeG_ok u v) ?_
 refine Ge1 (A3 ty105 C) λb2=>Ge0 (Cz ty105) ?_
 refine Ac<|Af<|Gf fld38_1 C<|Gl ty36 ?_
 refine Gl2 ty105 ?_
 refine G.e (Ak c_ C C<|BSearchE (A8 Z) (edgeP u v) Order_cmps om) ?_
 rintro _ _ ⟨_,_,⟨M,q4,rfl,hi3,rfl⟩,rfl,rfl⟩
 refine Gm C<|Gr (Am C C)<|Gr (Am C C)<|Ga C<|Ga C<|Ac<|Ao (S3 9 8 3 C C C)<|Aq<|Bq mixed<|Ca (e8 b2 [e7 ((edgeP u v).u),e7<|(edgeP u v).v] 105::e8 b1 [e7 nd,va] 38::I) 17<|Dr 0 C (Ai C)<|Dr 1 C (Ai C)<|Dr 2 C (Ad fld38_1 C)<|Dr 3 C (Bb ty36) ?_
 refine Dr 4 C (B9 (α:=Pt) (xs:=es) Au C<|A8 Z)<|Dr 5 C (A4 C C)<|Dr 6 C (Ai C)<|El (d:=27) C (λaa=>?_)<|λaa=>?_
 ·refine Dro 7 C (Ad fld38_1 C) (Dro 8 C (Bb ty36) ?_)
  refine Dro 9 C (Ai C)<|Dro 10 C (Ax (α:=Pt) (xs:=es) Au ty105 C C (A8 Z) om om)<|Dro 11 C (Bx (α:=Pt) (xs:=es) ty105 C (A8 Z) om om)<|Dro 12 C (Be (vs:=[_,_]) ty105) ?_
  exact Dro 13 C (Runs.eqlT (α:=Pt) (a:=(e_ es M)) (b:=(edgeP u v)) eqt105 C C)<|Dr 14 C (Ba C C)<|Dr 15 C (Bd C)<|Dr 16 C (Bd C)<|Dz<|Ah<|Ao (S2 7 6 C C)<|Az<|C7 C C C I Ay ⟨M,q4,congrArg (λb_=>Value.tuple #[e7 (M:Int),.bool b_])<|decide_eq_decide.2 ⟨λh=>⟨by omega,h⟩,λh=>h.2⟩,hi3,rfl⟩
 exact Dpo 7 C<|Dpo 8 C<|Dpo 9 C<|Dpo 10 C<|Dpo 11 C<|Dpo 12 C<|Dpo 13 C<|Dr 14 C (A6 C C)<|Dr 15 C (Bd C)<|Dr 16 C (Bd C)<|Dz<|Ah<|Ao (S2 7 6 C C)<|Az<|C7 C C C I Ay ⟨M,q4,congrArg (λb_=>Value.tuple #[e7 (M:Int),.bool b_]) (decide_eq_false<|λh=>by omega).symm,hi3,rfl⟩
theorem InsertE_two{va:Option Addr}{m:Nat}{K:List Item}(hf:Fit κ I (vc 105 (.slice a n c) xs::vc 105 (.slice va m Z) ys::K))(hn:n=xs.length)(hm:m=ys.length)(hi:i<=xs.length)(hy:0<ys.length)(M:xs.length+ys.length<=1000000000):eu prog κ 269 [.slice a n c,e7 (i:Int),.slice va m Z] I (λr J=>∃a' c',r = .slice a' (List.take i xs++ys++List.drop i xs).length c'/\J=vk 105 a' c' (List.take i xs++ys++List.drop i xs)::K):=by
 subst hn hm
 exact Cm hf<|InsertE_ok hi hy M
theorem AddG_ok{nd:Int}{a0:Option Addr}{c0:Nat}{es:List Pt}(hl:Sl κ I (.slice a0 es.length c0) es)(u v:Int)(hb:es.length<=10000000):eu prog κ 261 [.agg #[e7 nd,.slice a0 es.length c0],e7 u,e7 v] I (λr J=>(addG nd es u v≠0/\r = .tuple #[.agg #[e7 0,.slice none 0 0],e7 (addG nd es u v)]/\I=J)\/(∃a c,addG nd es u v=0/\r = .tuple #[.agg #[e7 nd,.slice a (insB Pt.lt es (edgeP u v)).length c],e7 0]/\J=vc 105 (.slice a (insB Pt.lt es (edgeP u v)).length c) (insB Pt.lt es (edgeP u v))::I)):=by
 refine Ce3 Tryz.func261 C C ?_
 refine Af (Ge1 (Bg (cs:=[_,_]) C C C) λb1=>Ge1 (A3 ty38 C) λb2=>Ga C (Ac (Aq (Af (Gl2 ty38 ?_)))))
 refine Gm C (Gm C (Gc0 (Ak c_ C C (Change_ok (A8 hl) u v)) ?_))
 refine Ga C (Ac (Af (Gm C (Gr (Bo C C) (Ac (A5 C (λc16=>?_) (λc16=>?_)))))))
 ·refine Af (Gr (Bp (cells:=[_,_]) ty38 Cy pl38 C C) (Gm C (Ge0 (Cz ty38) ?_)))
  refine Ga C (Ac (Ao (S2 7 6 C C) (Az (Ap ?_))))
  have hz:addG nd es u v=changeG nd es u v:=by unfold addG;rw [if_pos om]
  exact C0 C ty38 C C mm C I Ay (.inl ⟨by rw [hz];omega,by rw [hz],rfl⟩)
 refine Av (Ah (Af (Gl2 ty38 ?_)))
 refine Gm C (Gm C (G.e (Ak c_ C C (Place_ok (A8 hl) u v om)) ?_))
 rintro _ _ ⟨_,_,⟨i3,q4,rfl,hi3,rfl⟩,rfl,rfl⟩
 have hG:=(changeG_zero.1 (by omega:changeG nd es u v=0)).1
 have hile:=hi3.le
 refine Gm C (Gr (Am C C) (Gr (Am C C) (Ga C (Ga C (Ac (Ao (S6 10 9 6 3 1 2 C C C C C C) (Aq (Af (Gm C (Ac (A5 C (λc26=>?_) (λc26=>?_))))))))))))
 ·refine Af (Gr (Bp (cells:=[_,_]) ty38 Cy pl38 C C) (Ge0 (Cz ty38) ?_))
  refine Ga C (Ac (Az (Ap ?_)))
  have hz:addG nd es u v=15:=by unfold addG;rw [if_neg om,if_pos ((hi3.mem hG.asc).1 c26)]
  exact C0 C ty38 C C mm C I Ay (.inl ⟨by rw [hz];decide,by rw [hz],rfl⟩)
 refine Av (Ah (Aq (Bq mixed (Ca (e8 b2 [e7 0,.slice none 0 0] 38::e8 b1 [e7 nd,.slice a0 es.length c0] 38::I) 12 (Dr 0 C (Ad fld38_0 C) (Dr 1 C (Bb ef) ?_))))))
 refine Dr 2 C (Ad fld38_1 C) (Dr 3 C (Bb ty36) ?_)
 refine Dr 5 C (Ai C) (Dr 6 C (Ai C) (Dr 7 C (Ai C) (Ds1 4 (Sc2 C (Ak c_ C C (CloneE (xs:=es) (A8 hl) om)) λad5 cp6=>?_))))
 refine Ds1 8 (Sc0 C (Ak c_ C C (EdgeG_ok u v)) ?_)
 refine Ds1 9 (Se1 C (Cf (α:=Pt) (cs:=[_,_]) (xs:=[⟨(edgeP u v).u,(edgeP u v).v⟩]) Au ty105 C C dc dc C C C C) λad7=>?_)
 refine Ds1 10 (Sc2 C (Ak c_ C C (InsertE_two (i:=i3) (xs:=es) (ys:=([⟨(edgeP u v).u,(edgeP u v).v⟩]:List Pt)) (show Fit κ _ (vc 105 (.slice ad5 es.length cp6) (es)::vc 105 (.slice ad7 1 1) (([⟨(edgeP u v).u,(edgeP u v).v⟩]:List Pt))::e8 b2 [e7 0,.slice none 0 0] 38::e8 b1 [e7 nd,.slice a0 es.length c0] 38::I) from Bl) C C om (by simp only [List.length_cons];omega) lcn)) λad8 cp9=>?_)
 show D prog κ _ _ _ _ _ _ _ ([(38,.slice ad8 (List.take i3 es++([⟨(edgeP u v).u,(edgeP u v).v⟩]:List Pt)++List.drop i3 es).length cp9),(37,.slice ad7 1 1),(36,.agg #[e7 ((edgeP u v).u),e7 ((edgeP u v).v)]),(32,.slice ad5 es.length cp6),(35,e7 v),(34,e7 u),(33,e7 ((i3:Int))),(31,.slice a0 es.length c0),(30,.pointer (some ⟨b1,1,none⟩)),(29,e7 nd),(28,.pointer (some ⟨b1,0,none⟩)),(26,.bool (decide (i3<es.length/\e_ es i3=edgeP u v))),(10,.bool (decide (i3<es.length/\e_ es i3=edgeP u v))),(9,e7 ((i3:Int))),(6,.pointer (some ⟨b2,0,none⟩)),(3,.pointer (some ⟨b1,0,none⟩)),(1,e7 u),(2,e7 v)]:Env) (vc 105 (.slice ad8 (List.take i3 es++([⟨(edgeP u v).u,(edgeP u v).v⟩]:List Pt)++List.drop i3 es).length cp9) (List.take i3 es++([⟨(edgeP u v).u,(edgeP u v).v⟩]:List Pt)++List.drop i3 es)::e8 b2 [e7 0,.slice none 0 0] 38::e8 b1 [e7 nd,.slice a0 es.length c0] 38::I)
 refine Dr 11 C (Bp (cells:=[_,_]) ty38 Cy pl38 C C) (Cs kr ?_)
 refine Ae 12 C (Cz ty38) ?_
 rintro _ _ ⟨rfl,rfl⟩
 refine Dy (i:=13) kr C (Bn C) C C (Bd C) ?_
 refine Ct kr ?_
 refine Ah (Ao (S2 7 6 C C) (Az ?_))
 have hz:addG nd es u v=0:=by unfold addG;rw [if_neg om,if_neg (λhm=>c26 ((hi3.mem hG.asc).2 hm))]
 have hE:List.take i3 es++([⟨(edgeP u v).u,(edgeP u v).v⟩]:List Pt)++List.drop i3 es=(insB Pt.lt es (edgeP u v)):=hi3.ins hG.asc (λhm=>c26 ((hi3.mem hG.asc).2 hm))
 exact C0 C ty38 C C mm C (vc 105 (.slice ad8 (insB Pt.lt es (edgeP u v)).length cp9) (insB Pt.lt es (edgeP u v))::I) (by rw [←hE];exact Bc) (.inr ⟨ad8,cp9,hz,by rw [←hE];rfl,rfl⟩)
variable {κ:Ctx}{I:List Item}
theorem SameEdges_ok{vb:Value}(M:Sl κ I va xs)(hy:Sl κ I vb ys):eu prog κ 64 [va,vb] I (λr J=>r = .bool (decide (xs=ys))/\I=J):=by
 refine B8 M.le λab=>?_
 refine B8 hy.le λad=>?_
 refine Ce2 Tryz.func64 C C ?_
 refine Af<|Ga C<|Ac<|Aq<|Af<|Gm C<|Gr (B9 (α:=Pt) (xs:=xs) Au C<|A8 M)<|Gm C<|Gr (B9 (α:=Pt) (xs:=ys) Au C<|A8 hy)<|Gr (Bo C C)<|Ac<|A5 C (λc10=>?_)<|λc10=>?_
 ·exact Af<|Ga C<|Ac<|Az<|Ap<|A1 C C I Ay ⟨by rw [decide_eq_false (show ¬xs=ys from λe=>by first|(have e2:=congrArg List.length e;omega)|(have e3:=congrArg (λl=>e_ l k) e;exact absurd e3 asm))],rfl⟩
 refine Av<|Ah<|Aq<|Af<|Gm C<|Gr (B9 (α:=Pt) (xs:=xs) Au C<|A8 M)<|Gm C<|Ac<|Aw<|Bu (σ:=Nat) (λs=>([(0,va),(1,vb),(12,e7 ((xs.length:Nat):Int)),(13,e7 ((s:Nat):Int))]:Env)) (λs=>I) (λs=>(s<=xs.length)/\(∀j,j<s->e_ xs j=e_ ys j)) (λs=>xs.length - s) 0 (show ((0:Nat)<=xs.length)/\(∀j,j<(0:Nat)->e_ xs j=e_ ys j) from ⟨om,all_zero⟩) (Aa C<|Aa C<|Aa C<|Aa B2 Bi) (show Fit κ _ I from Bc) ?_
 rintro k hp
 obtain ⟨hk,hn⟩:=hp
 refine Af<|Gr (A4 C C)<|Ac<|Aq<|A5 C (λaa=>?_)<|λaa=>?_
 ·refine Av (Ah<|Aq<|Aw<|Af<|Gm C<|Ga C<|Ac<|Aq<|Bq mixed<|Ca I 9<|Dr 0 C (Ai C)<|Dr 1 C (Ai C)<|Dr 2 C (Ax (α:=Pt) (xs:=xs) Au ty105 C C (A8 M) om om)<|Dr 3 C (Bx (α:=Pt) (xs:=xs) ty105 C (A8 M) om om)<|Dr 4 C (Ai C)<|Dr 5 C (Ai C)<|Dr 6 C (Ax (α:=Pt) (xs:=ys) Au ty105 C C (A8 hy) om om)<|Dr 7 C (Bx (α:=Pt) (xs:=ys) ty105 C (A8 hy) om om)<|Dr 8 C (Runs.neqT (α:=Pt) (a:=(e_ xs k)) (b:=(e_ ys k)) eqt105 C C)<|Dz<|Ah<|Ao (S5 24 0 1 12 13 C C C C C)<|A5 C (λZ=>?_)<|λZ=>?_)
  ·exact Af<|Ga C<|Ac<|Az<|A7<|Ap<|Ap<|A7<|Ap<|A1 C C I Ay ⟨by rw [decide_eq_false (show ¬xs=ys from λe=>by first|(have e2:=congrArg List.length e;omega)|(have e3:=congrArg (λl=>e_ l k) e;exact absurd e3 asm))],rfl⟩
  exact Av<|Aj<|Ah<|Ar<|Gr (Rad C C)<|Gm C<|Bj<|B3 ((k+1)) ⟨om,(all_succ hn<|Classical.not_not.1 Z)⟩
 exact Bs<|Al<|Al<|A2<|Ah<|Af<|Ga C<|Ac<|Az<|A1 C C I Ay ⟨by rw [decide_eq_true (show xs=ys from ext_at om (λj hj=>hn j om))],rfl⟩
theorem Same03_ok{n m:Int}{M:Value}(hx:Sl κ I va xs)(hy:Sl κ I M ys):eu prog κ 24 [.agg #[e7 n,va],.agg #[e7 m,M]] I (λr J=>r = .bool (decide (n=m/\xs=ys))/\I=J):=by
 refine Ce2 Tryz.func24 C C ?_
 refine Af<|Ge1 (Bg (cs:=[_,_]) C C C) λb1=>Ge1 (Bg (cs:=[_,_]) C C C) λb2=>Ga C<|Ac<|Af<|Gf fld38_0 C<|Gl ef ?_
 refine Gf fld38_0 C<|Gl ef ?_
 refine Gr (Bw C C)<|Gm C<|Bt (d:=10) C (λZ=>?_)<|λZ=>?_
 ·refine e9 (Ad fld38_1 C) (e9 (Bb ty36) ?_)
  refine e9 (Ad fld38_1 C)<|e9 (Bb ty36) ?_
  refine Ew (C5 C C C) (Ak c_ C C<|SameEdges_ok (A8 hx)<|A8 hy) ?_
  rintro _ _ ⟨_,_,⟨rfl,rfl⟩,rfl,rfl⟩
  exact Gr (Ba C C)<|Ga C<|Ac<|Ao (S1 4 C)<|Az<|A1 C C I Ay ⟨congrArg Value.bool<|decide_eq_decide.2 ⟨λh=>⟨by assumption,h⟩,λh=>h.2⟩,rfl⟩
 exact eb<|eb<|eb<|eb<|eb<|Gr (A6 C C)<|Ga C<|Ac<|Ao (S1 4 C)<|Az<|A1 C C I Ay ⟨congrArg Value.bool (decide_eq_false (λh=>by have:=h.1;omega)).symm,rfl⟩
variable {κ:Ctx}{I:List Item}
def bitB(v:Int):BitVec 64:=if v<0\/64<=v then 0#64 else 1#64 <<< v.toNat
def maskB(l:List Int):BitVec 64:=l.foldl (λm v=>m ||| bitB v) 0#64
def allB(n:Int):BitVec 64:=if n<=0 then 0#64 else if 64<=n then 18446744073709551615#64 else (1#64 <<< n.toNat) - 1#64
def ones1(m:BitVec 64):BitVec 64:=((m >>> (1:Int).toNat) &&& 6148914691236517205#64)+(m &&& 6148914691236517205#64)
def ones2(m:BitVec 64):BitVec 64:=((m >>> (2:Int).toNat) &&& 3689348814741910323#64)+(m &&& 3689348814741910323#64)
def ones3(m:BitVec 64):BitVec 64:=((m >>> (4:Int).toNat)+m) &&& 1085102592571150095#64
def ones4(m:BitVec 64):BitVec 64:=m+(m >>> (8:Int).toNat)
def ones5(m:BitVec 64):BitVec 64:=m+(m >>> (16:Int).toNat)
def ones6(m:BitVec 64):BitVec 64:=m+(m >>> (32:Int).toNat)
def onesB(m:BitVec 64):Int:=((ones6 (ones5 (ones4 (ones3 (ones2 (ones1 m)))))).toNat:Int) % 128
theorem ones_small(m:BitVec 64):(ones6 (ones5 (ones4 (ones3 m)))).toNat<9223372036854775808:=by
 have Z:(ones3 m).toNat<=1085102592571150095:=by unfold ones3;rw [BitVec.toNat_and];exact Nat.and_le_right
 generalize ones3 m=a at Z
 have h4:(ones4 a).toNat<=a.toNat+a.toNat / 256:=by
  unfold ones4;rw [BitVec.toNat_add,BitVec.toNat_ushiftRight,Nat.shiftRight_eq_div_pow,show 2 ^ (8:Int).toNat=256 by decide];exact Nat.mod_le _ _
 generalize ones4 a=b at h4
 have M:(ones5 b).toNat<=b.toNat+b.toNat / 65536:=by
  unfold ones5;rw [BitVec.toNat_add,BitVec.toNat_ushiftRight,Nat.shiftRight_eq_div_pow,show 2 ^ (16:Int).toNat=65536 by decide];exact Nat.mod_le _ _
 generalize ones5 b=c at M
 have h6:(ones6 c).toNat<=c.toNat+c.toNat / 4294967296:=by
  unfold ones6;rw [BitVec.toNat_add,BitVec.toNat_ushiftRight,Nat.shiftRight_eq_div_pow,show 2 ^ (32:Int).toNat=4294967296 by decide];exact Nat.mod_le _ _
 omega
theorem Bit_ok(v:Int):eu prog κ 156 [e7 v] I (λr J=>r=U64 (bitB v)/\I=J):=by
 refine Ce1 Tryz.func156 C C ?_
 refine Af<|Ga C<|Ac<|Aq<|Af<|Gm C<|Gr (A4 C C)<|Gm C<|Bt (d:=5) C (λZ=>?_)<|λZ=>?_
 ·exact eb<|eb<|Gr (Ba C C)<|Ac<|Dj C<|Af<|Ga C<|Ac<|Az<|Ap<|A1 C C I Ay ⟨by unfold bitB;rw [if_pos om];rfl,rfl⟩
 refine e9 (Ai C)<|e9 (Cr C C)<|Gr (A6 C C)<|Ac<|A5 C (λM=>?_)<|λM=>?_
 ·exact Af<|Ga C<|Ac<|Az<|Ap<|A1 C C I Ay ⟨by unfold bitB;rw [if_pos om];rfl,rfl⟩
 exact Av<|Ah<|Af<|Gm C<|Gr (Runs.shlB (a:=1#64) C C om om)<|Ga C<|Ac<|Az<|A1 C C I Ay ⟨by unfold bitB;rw [if_neg om],rfl⟩
theorem MaskAll_ok(n:Int):eu prog κ 157 [e7 n] I (λr J=>r=U64 (allB n)/\I=J):=by
 refine Ce1 Tryz.func157 C C ?_
 refine Af<|Ga C<|Ac<|Aq<|Aw<|Af<|Gm C<|Gr (E5 C C)<|Ga C<|Ac<|A5 C (λM=>?_)<|λM=>?_
 ·exact Af<|Ga C<|Ac<|Az<|A7<|Ap<|A1 C C I Ay ⟨by unfold allB;rw [if_pos om];rfl,rfl⟩
 refine Af<|Gm C<|Gr (Cr C C)<|Ga C<|Ac<|A5 C (λZ=>?_)<|λZ=>?_
 ·exact Af<|Ga C<|Ac<|Az<|A7<|Ap<|A1 C C I Ay ⟨by unfold allB;rw [if_neg om,if_pos om];rfl,rfl⟩
 exact Av<|Aj<|Ah<|Af<|Gm C<|Gr (Runs.shlB (a:=1#64) C C om om)<|Gr (Runs.subB (a:=(1#64) <<< (n).toNat) (b:=1#64) C C)<|Ga C<|Ac<|Az<|A1 C C I Ay ⟨by unfold allB;rw [if_neg om,if_neg om],rfl⟩
theorem OnesCount_ok(m:BitVec 64):eu prog κ 176 [U64 m] I (λr J=>r=e7 (onesB m)/\I=J):=by
 refine Ce1 Tryz.func176 C C ?_
 refine Af<|Ga C<|Ac<|Af<|Gm C<|Gr (Fc (a:=m) C C om om)<|Gr (Ed (a:=m >>> (1:Int).toNat) (b:=6148914691236517205#64) C C)<|Gm C<|Gr (Ed (a:=m) (b:=6148914691236517205#64) C C)<|Gr (Runs.addB (a:=(m >>> (1:Int).toNat) &&& (6148914691236517205#64)) (b:=m &&& (6148914691236517205#64)) C C)<|Ga C ?_
 generalize hm1:((m >>> (1:Int).toNat) &&& (6148914691236517205#64))+(m &&& (6148914691236517205#64))=m1
 refine Ac<|Af<|Gm C<|Gr (Fc (a:=m1) C C om om)<|Gr (Ed (a:=m1 >>> (2:Int).toNat) (b:=3689348814741910323#64) C C)<|Gm C<|Gr (Ed (a:=m1) (b:=3689348814741910323#64) C C)<|Gr (Runs.addB (a:=(m1 >>> (2:Int).toNat) &&& (3689348814741910323#64)) (b:=m1 &&& (3689348814741910323#64)) C C)<|Ga C ?_
 generalize hm2:((m1 >>> (2:Int).toNat) &&& (3689348814741910323#64))+(m1 &&& (3689348814741910323#64))=m2
 refine Ac<|Ao (S1 0 C)<|Af<|Gm C<|Gr (Fc (a:=m2) C C om om)<|Gm C<|Gr (Runs.addB (a:=m2 >>> (4:Int).toNat) (b:=m2) C C)<|Gr (Ed (a:=(m2 >>> (4:Int).toNat)+m2) (b:=1085102592571150095#64) C C)<|Ga C ?_
 generalize hm3:((m2 >>> (4:Int).toNat)+m2) &&& (1085102592571150095#64)=m3
 refine Ac<|Af<|Gm C<|Gm C<|Gr (Fc (a:=m3) C C om om)<|Gr (Runs.addB (a:=m3) (b:=m3 >>> (8:Int).toNat) C C)<|Ga C ?_
 generalize hm4:m3+(m3 >>> (8:Int).toNat)=m4
 refine Ac<|Af<|Gm C<|Gm C<|Gr (Fc (a:=m4) C C om om)<|Gr (Runs.addB (a:=m4) (b:=m4 >>> (16:Int).toNat) C C)<|Ga C ?_
 generalize hm5:m4+(m4 >>> (16:Int).toNat)=m5
 refine Ac<|Ao (S1 0 C)<|Af<|Gm C<|Gm C<|Gr (Fc (a:=m5) C C om om)<|Gr (Runs.addB (a:=m5) (b:=m5 >>> (32:Int).toNat) C C)<|Ga C ?_
 generalize hm6:m5+(m5 >>> (32:Int).toNat)=m6
 exact Ac<|Af<|Gm C<|Gr (Runs.toI Tryz.underlying207 Ce C<|by subst hm6 hm5 hm4 hm3;exact ones_small _)<|Gr (Runs.and127 C C om)<|Ga C<|Ac<|Az<|A1 C C I Ay ⟨by subst hm6 hm5 hm4 hm3 hm2 hm1;rfl,rfl⟩
theorem MCount_ok(m:BitVec 64):eu prog κ 155 [U64 m] I (λr J=>r=e7 (onesB m)/\I=J):=by
 refine Ce1 Tryz.func155 C C ?_
 refine Af<|Ga C<|Ac<|Af<|Gm C<|Gc0 (Ak c_ C C<|OnesCount_ok m) ?_
 exact Ga C<|Ac<|Az<|A1 C C I Ay ⟨rfl,rfl⟩
theorem bitB_two{v:Int}(M:0<=v)(Z:v<64):bitB v=BitVec.twoPow 64 v.toNat:=by
 unfold bitB;rw [if_neg om];rfl
theorem getLsb_bitB{v:Int}(hi:i<64):(bitB v).getLsbD i=decide (v=(i:Int)):=by
 by_cases h:0<=v/\v<64
 ·rw [bitB_two h.1 h.2,BitVec.getLsbD_twoPow]
  have e:(v.toNat=i)↔(v=(i:Int)):=by omega
  simp [hi,h,e]
 unfold bitB
 rw [if_pos om]
 have:¬v=(i:Int):=by omega
 simp [this]
theorem getLsb_maskB(hi:i<64):∀(l:List Int) (m:BitVec 64),(l.foldl (λm v=>m ||| bitB v) m).getLsbD i=(m.getLsbD i||decide ((i:Int)∈l))
 |[],m=>by simp
 |v::l,m=>by
  rw [List.foldl_cons,getLsb_maskB hi l,BitVec.getLsbD_or,getLsb_bitB hi]
  by_cases h1:v=(i:Int)
  ·simp [h1]
  have:¬(i:Int)=v:=λe=>h1 e.symm
  simp [h1,this]
variable {κ:Ctx}{I:List Item}
theorem addRow_no{rows:List (BitVec 64)}{e:Pt}(h:¬(0<=e.u/\e.u<e.v/\e.v<rows.length)):addRow rows e=rows:=by unfold addRow;rw [if_neg h]
theorem MRows_ok{nd:Int}{v:Value}{es:List Pt}(hl:Sl κ I v es):eu prog κ 154 [.agg #[e7 nd,v]] I (λr J=>∃a c,r = .slice a (ek nd es).length c/\J=vc 207 (.slice a (ek nd es).length c) (ek nd es)::I):=by
 refine B8 hl.le λak=>?_
 refine Ce1 Tryz.func154 C C ?_
 refine Af<|Ge1 (Bg (cs:=[_,_]) C C C) λb1=>Ga C<|Ac<|Af<|Gf fld38_0 C<|Gl ef ?_
 refine Gr (Dq C C)<|Gr (Ep C C)<|Ge2 (Du (α:=(BitVec 64)) (n:=(min (max nd 0) 64).toNat) B5 ty207 C C C om om dc C) λaa ab=>?_
 refine Ga C ?_
 have an:(replicate (min (max nd 0) 64).toNat (default:(BitVec 64))).length=(min (max nd 0) 64).toNat:=List.length_replicate
 refine Ac<|Aq<|Af<|Gf fld38_1 C<|Gl ty36 ?_
 refine Gr (B9 (α:=Pt) (xs:=es) Au C<|A8 hl)<|Gm C<|Ac<|Aw<|Bu (σ:=Nat×(List<|BitVec 64)) (λs=>([(3,.slice aa (replicate ((min (max nd 0) 64).toNat) (default:(BitVec 64))).length ab),(12,v),(13,e7 ((es.length:Nat):Int)),(14,e7 ((s.1:Nat):Int))]:Env)) (λs=>vc 207 (.slice aa (replicate ((min (max nd 0) 64).toNat) (default:(BitVec 64))).length ab) (s.2)::e8 b1 [e7 nd,v] 38::I) (λs=>(s.1<=es.length)/\(s.2=ek nd (es.take s.1))/\(s.2.length=(min (max nd 0) 64).toNat)) (λs=>es.length - s.1) (0,replicate (min (max nd 0) 64).toNat (default:(BitVec 64))) (show ((0:Nat)<=es.length)/\((replicate (min (max nd 0) 64).toNat (default:(BitVec 64)):List (BitVec 64))=ek nd (es.take (0:Nat)))/\((replicate (min (max nd 0) 64).toNat (default:(BitVec 64)):List (BitVec 64)).length=(min (max nd 0) 64).toNat) from ⟨om,rfl,(by simp)⟩) (Aa C<|Aa C<|Aa C<|Aa B2 Bi) (show Fit κ _ (vc 207 (.slice aa (replicate ((min (max nd 0) 64).toNat) (default:(BitVec 64))).length ab) ((replicate (min (max nd 0) 64).toNat (default:(BitVec 64))))::e8 b1 [e7 nd,v] 38::I) from Bc) ?_
 rintro ⟨k,rows⟩ hp
 dsimp only at hp ⊢
 obtain ⟨hk,hr,M⟩:=hp
 refine Af<|Gr (A4 C C)<|Ac<|Aq<|A5 C (λai=>?_)<|λai=>?_
 ·refine Av (Ah<|Aq<|Aw<|Af<|Gr (Ax (α:=Pt) (xs:=es) Au ty105 C C (A8 hl) om oo)<|Gr (Bx (α:=Pt) (xs:=es) ty105 C (A8 hl) om oo)<|Ge1 (A3 ty105 C) λb4=>Ge0 (Cz ty105) ?_)
  refine Ac<|Af<|Gf fld105_0 C<|Gl ef ?_
  refine Gr (Cr C C)<|Gm C<|Bt (d:=21) C (λae=>?_)<|λae=>?_
  ·refine e9 (Ad fld105_0 C) (e9 (Bb ef) ?_)
   refine e9 (Ad fld105_1 C)<|e9 (Bb ef) ?_
   refine e9 (A4 C C)<|Gr (Ba C C)<|Gm C<|Bt (d:=28) C (λaj=>?_)<|λaj=>?_
   ·refine e9 (Ad fld105_1 C) (e9 (Bb ef) ?_)
    refine e9 (Ai C)<|e9 (Bh B5 C)<|e9 (A4 C C)<|Gr (Ba C C)<|Ac<|Ao (S6 34 5 3 12 13 14 C C C C C C)<|A5 C (λah=>?_)<|λah=>?_
    ·refine Aq (Bq mixed<|Ca (e8 b4 [e7 ((e_ es k).u),e7<|(e_ es k).v] 105::vc 207 (.slice aa (replicate ((min (max nd 0) 64).toNat) (default:(BitVec 64))).length ab) (rows)::e8 b1 [e7 nd,v] 38::I) 10<|Dr 0 C (Ai C)<|Dr 1 C (Ad fld105_0 C)<|Dr 2 C (Bb ef) ?_)
     refine Dr 3 C (Ax (α:=(BitVec 64)) (xs:=rows) B5 ty207 C C Bf om oo)<|Dr 4 C (B7 (α:=(BitVec 64)) (xs:=rows) (u:=U64 ((e_ rows<|(e_ es k).u))) ty207 C Bf om oo C)<|Dr 5 C (Ad fld105_1 C)<|Dr 6 C (Bb ef) ?_
     refine Dr 7 C (Runs.shlB (a:=1#64) C C om om)<|Dr 8 C (Eb (a:=(e_ rows<|(e_ es k).u)) (b:=(1#64) <<< ((e_ es k).v).toNat) C C)<|Dr 9 C (Ax (α:=(BitVec 64)) (xs:=rows) B5 ty207 C C Bf om oo)<|Cs kr ?_
     refine Ae 10 C (Cu (α:=(BitVec 64)) (xs:=rows) (e:=207) (new:=(e_ rows<|(e_ es k).u) ||| ((1#64) <<< ((e_ es k).v).toNat)) ty207 C C C om oo am) ?_
     rintro _ _ ⟨rfl,rfl⟩
     refine Ct kr ?_
     refine Ah<|Ao (S5 5 3 12 13 14 C C C C C)<|Bq mixed<|Ca (e8 b4 [e7 ((e_ es k).u),e7<|(e_ es k).v] 105::vc 207 (.slice aa (replicate ((min (max nd 0) 64).toNat) (default:(BitVec 64))).length ab) (List.set rows ((e_ es k).u).toNat ((e_ rows<|(e_ es k).u) ||| ((1#64) <<< ((e_ es k).v).toNat)))::e8 b1 [e7 nd,v] 38::I) 10<|Dr 0 C (Ai C)<|Dr 1 C (Ad fld105_1 C)<|Dr 2 C (Bb ef) ?_
     refine Dr 3 C (Ax (α:=(BitVec 64)) (xs:=List.set rows ((e_ es k).u).toNat ((e_ rows<|(e_ es k).u) ||| ((1#64) <<< ((e_ es k).v).toNat))) B5 ty207 C C Bf om oo)<|Dr 4 C (B7 (α:=(BitVec 64)) (xs:=List.set rows ((e_ es k).u).toNat ((e_ rows<|(e_ es k).u) ||| ((1#64) <<< ((e_ es k).v).toNat))) (u:=U64 ((e_ (List.set rows ((e_ es k).u).toNat ((e_ rows<|(e_ es k).u) ||| ((1#64) <<< ((e_ es k).v).toNat)))<|(e_ es k).v))) ty207 C Bf om oo C)<|Dr 5 C (Ad fld105_0 C)<|Dr 6 C (Bb ef) ?_
     refine Dr 7 C (Runs.shlB (a:=1#64) C C om om)<|Dr 8 C (Eb (a:=(e_ (List.set rows ((e_ es k).u).toNat ((e_ rows<|(e_ es k).u) ||| ((1#64) <<< ((e_ es k).v).toNat)))<|(e_ es k).v)) (b:=(1#64) <<< ((e_ es k).u).toNat) C C)<|Dr 9 C (Ax (α:=(BitVec 64)) (xs:=List.set rows ((e_ es k).u).toNat ((e_ rows<|(e_ es k).u) ||| ((1#64) <<< ((e_ es k).v).toNat))) B5 ty207 C C Bf om oo)<|Cs kr ?_
     refine Ae 10 C (Cu (α:=(BitVec 64)) (xs:=List.set rows ((e_ es k).u).toNat ((e_ rows<|(e_ es k).u) ||| ((1#64) <<< ((e_ es k).v).toNat))) (e:=207) (new:=(e_ (List.set rows ((e_ es k).u).toNat ((e_ rows<|(e_ es k).u) ||| ((1#64) <<< ((e_ es k).v).toNat)))<|(e_ es k).v) ||| ((1#64) <<< ((e_ es k).u).toNat)) ty207 C C C om oo am) ?_
     rintro _ _ ⟨rfl,rfl⟩
     refine Ct kr ?_
     refine Aj<|Ah<|Ao (S4 3 12 13 14 C C C C)<|Ar<|Gr (Rad C C)<|Gm C<|Bj ?_
     have Z:List.set (List.set rows ((e_ es k).u).toNat ((e_ rows<|(e_ es k).u) ||| ((1#64) <<< ((e_ es k).v).toNat))) ((e_ es k).v).toNat ((e_ (List.set rows ((e_ es k).u).toNat ((e_ rows<|(e_ es k).u) ||| ((1#64) <<< ((e_ es k).v).toNat)))<|(e_ es k).v) ||| ((1#64) <<< ((e_ es k).u).toNat))=addRow rows (e_ es k):=by unfold addRow;rw [if_pos om]
     rw [Z]
     exact B3 ((k+1),(addRow rows<|e_ es k))<|by dsimp only;exact ⟨om,(by rw [rowsB_take om,←hr];first|done|exact Z),(by first|exact M|(rw [addRow_len];exact M))⟩
    refine Av<|Aj<|Ah<|Ar<|Gr (Rad C C)<|Gm C<|Bj ?_
    have Z:rows=addRow rows (e_ es k):=(addRow_no om).symm
    exact B3 ((k+1),(rows))<|by dsimp only;exact ⟨om,(by rw [rowsB_take om,←hr];first|done|exact Z),(by first|exact M|(rw [addRow_len];exact M))⟩
   refine eb<|eb<|eb<|eb<|eb<|Gr (A6 C C)<|Ac<|Ao (S6 34 5 3 12 13 14 C C C C C C)<|Dp C<|Av<|Aj<|Ah<|Ar<|Gr (Rad C C)<|Gm C<|Bj ?_
   have Z:rows=addRow rows (e_ es k):=(addRow_no om).symm
   exact B3 ((k+1),(rows))<|by dsimp only;exact ⟨om,(by rw [rowsB_take om,←hr];first|done|exact Z),(by first|exact M|(rw [addRow_len];exact M))⟩
  refine eb<|eb<|eb<|eb<|eb<|Gr (A6 C C)<|Gm C<|eb<|eb<|eb<|eb<|eb<|Gr (A6 C C)<|Ac<|Ao (S6 34 5 3 12 13 14 C C C C C C)<|Dp C<|Av<|Aj<|Ah<|Ar<|Gr (Rad C C)<|Gm C<|Bj ?_
  have Z:rows=addRow rows (e_ es k):=(addRow_no om).symm
  exact B3 ((k+1),(rows))<|by dsimp only;exact ⟨om,(by rw [rowsB_take om,←hr];first|done|exact Z),(by first|exact M|(rw [addRow_len];exact M))⟩
 refine Bs<|Al<|Al<|A2<|Ah<|Af<|Gm C<|Ga C<|Ac<|Az ?_
 rw [List.take_of_length_le om] at hr
 subst hr
 have ad:(ek nd es).length=(replicate (min (max nd 0) 64).toNat (default:(BitVec 64))).length:=by omega
 exact A1 C C (vc 207 (.slice aa (ek nd es).length ab) (ek nd es)::I) (by rw [ad];exact Bc) ⟨_,_,by rw [ad],rfl⟩
theorem DeleteE_at{F:Item->List Item}(ab:AtF I (vc 105 (.slice a n c) xs) F)(hn:n=xs.length)(M:i<j)(hj:j<=xs.length)(aa:xs.length<=1000000000):eu prog κ 274 [.slice a n c,e7 (i:Int),e7 (j:Int)] I λr J=>∃ys:List Pt,(r = .slice a (List.take i xs++List.drop j xs).length c/\ys=(List.take i xs++List.drop j xs))/\J=[]++F (vk 105 a c ys):=
 eu.at (Z:=λ_=>[]) (X:=λys:List Pt=>vk 105 a c ys) (Post:=λr ys=>r = .slice a (List.take i xs++List.drop j xs).length c/\ys=(List.take i xs++List.drop j xs)) ab λJ _ _=>by subst hn;exact (DeleteE_ok M hj aa).mono λr J' h=>⟨_,⟨h.1,rfl⟩,h.2.symm⟩
theorem RemG_ok{nd:Int}{a0:Option Addr}{c0:Nat}{es:List Pt}(hl:Sl κ I (.slice a0 es.length c0) es)(u v:Int)(hb:es.length<=10000000):eu prog κ 263 [.agg #[e7 nd,.slice a0 es.length c0],e7 u,e7 v] I (λr J=>(remG nd es u v≠0/\r = .tuple #[.agg #[e7 0,.slice none 0 0],e7 (remG nd es u v)]/\I=J)\/(∃a c,remG nd es u v=0/\r = .tuple #[.agg #[e7 nd,.slice a (without es (edgeP u v)).length c],e7 0]/\J=vc 105 (.slice a (without es (edgeP u v)).length c) (without es (edgeP u v))::I)):=by
 refine Ce3 Tryz.func263 C C ?_
 refine Af (Ge1 (Bg (cs:=[_,_]) C C C) λb1=>Ge1 (A3 ty38 C) λb2=>Ga C (Ac (Aq (Af (Gl2 ty38 ?_)))))
 refine Gm C (Gm C (Gc0 (Ak c_ C C (Change_ok (A8 hl) u v)) ?_))
 refine Ga C (Ac (Af (Gm C (Gr (Bo C C) (Ac (A5 C (λc16=>?_) (λc16=>?_)))))))
 ·refine Af (Gr (Bp (cells:=[_,_]) ty38 Cy pl38 C C) (Gm C (Ge0 (Cz ty38) ?_)))
  refine Ga C (Ac (Ao (S2 7 6 C C) (Az (Ap ?_))))
  have hz:remG nd es u v=changeG nd es u v:=by unfold remG;rw [if_pos om]
  exact C0 C ty38 C C mm C I Ay (.inl ⟨by rw [hz];omega,by rw [hz],rfl⟩)
 refine Av (Ah (Af (Gl2 ty38 ?_)))
 refine Gm C (Gm C (G.e (Ak c_ C C (Place_ok (A8 hl) u v om)) ?_))
 rintro _ _ ⟨_,_,⟨i3,q4,rfl,hi3,rfl⟩,rfl,rfl⟩
 have hG:=(changeG_zero.1 (by omega:changeG nd es u v=0)).1
 have hile:=hi3.le
 refine Gm C (Gr (Am C C) (Gr (Am C C) (Ga C (Ga C (Ac (Ao (S4 10 9 6 3 C C C C) (Aq (Af (Gm C (Gr (Dk C) (Ac (A5 C (λc27=>?_) (λc27=>?_)))))))))))))
 ·refine Af (Gr (Bp (cells:=[_,_]) ty38 Cy pl38 C C) (Ge0 (Cz ty38) ?_))
  refine Ga C (Ac (Az (Ap ?_)))
  have hz:remG nd es u v=7:=by unfold remG;rw [if_neg om,if_neg (λhm=>c27 ((hi3.mem hG.asc).2 hm))]
  exact C0 C ty38 C C mm C I Ay (.inl ⟨by rw [hz];decide,by rw [hz],rfl⟩)
 refine Av (Ah (Aq (Bq mixed (Ca (e8 b2 [e7 0,.slice none 0 0] 38::e8 b1 [e7 nd,.slice a0 es.length c0] 38::I) 10 (Dr 0 C (Ad fld38_0 C) (Dr 1 C (Bb ef) ?_))))))
 refine Dr 2 C (Ad fld38_1 C) (Dr 3 C (Bb ty36) ?_)
 refine Dr 5 C (Ai C) (Dr 6 C (Ai C) (Dr 7 C (Rad C C) (Ds1 4 (Sc2 C (Ak c_ C C (CloneE (xs:=es) (A8 hl) om)) λad5 cp6=>?_))))
 refine Ds1 8 (Se C (Ak c_ C C (DeleteE_at (i:=i3) (j:=(i3+1)) (by repeat (first|exact AtF.head _ _|apply AtF.tail)) C om om om)) ?_)
 rintro _ _ ⟨_,_,⟨_,⟨rfl,rfl⟩,rfl⟩,rfl,rfl⟩
 refine ⟨Bc,?_⟩
 show D prog κ _ _ _ _ _ _ _ ([(37,.slice ad5 (List.take i3 es++List.drop (i3+1) es).length cp6),(33,.slice ad5 es.length cp6),(36,e7 ((i3:Int)+1)),(35,e7 ((i3:Int))),(34,e7 ((i3:Int))),(32,.slice a0 es.length c0),(31,.pointer (some ⟨b1,1,none⟩)),(30,e7 nd),(29,.pointer (some ⟨b1,0,none⟩)),(27,.bool (decide (¬(i3<es.length/\e_ es i3=edgeP u v)))),(26,.bool (decide (i3<es.length/\e_ es i3=edgeP u v))),(10,.bool (decide (i3<es.length/\e_ es i3=edgeP u v))),(9,e7 ((i3:Int))),(6,.pointer (some ⟨b2,0,none⟩)),(3,.pointer (some ⟨b1,0,none⟩))]:Env) (vc 105 (.slice ad5 (List.take i3 es++List.drop (i3+1) es).length cp6) (List.take i3 es++List.drop (i3+1) es)::e8 b2 [e7 0,.slice none 0 0] 38::e8 b1 [e7 nd,.slice a0 es.length c0] 38::I)
 refine Dr 9 C (Bp (cells:=[_,_]) ty38 Cy pl38 C C) (Cs kr ?_)
 refine Ae 10 C (Cz ty38) ?_
 rintro _ _ ⟨rfl,rfl⟩
 refine Dy (i:=11) kr C (Bn C) C C (Bd C) ?_
 refine Ct kr ?_
 refine Ah (Ao (S2 7 6 C C) (Az ?_))
 have hz:remG nd es u v=0:=by unfold remG;rw [if_neg om,if_pos ((hi3.mem hG.asc).1 (Classical.not_not.1 c27))]
 have hE:List.take i3 es++List.drop (i3+1) es=(without es (edgeP u v)):=hi3.del hG.asc ((hi3.mem hG.asc).1 (Classical.not_not.1 c27))
 exact C0 C ty38 C C mm C (vc 105 (.slice ad5 (without es (edgeP u v)).length cp6) (without es (edgeP u v))::I) (by rw [←hE];exact Bc) (.inr ⟨ad5,cp6,hz,by rw [←hE];rfl,rfl⟩)
end Go.Sl
