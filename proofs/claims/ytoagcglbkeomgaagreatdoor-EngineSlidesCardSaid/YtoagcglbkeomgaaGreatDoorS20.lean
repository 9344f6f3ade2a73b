/- A part of the proofs of statements of this seat: contracts of functions, and the plain laws that they lean on. No conditions. -/
import Derived.Test.YtoagcglbkeomgaaGreatDoorS19
set_option linter.unusedVariables false
set_option linter.unusedSimpArgs false
set_option linter.unusedSectionVars false
open Go.Proofs.Tryz (prog)
open List (length_set length_append length_take length_drop take_of_length_le mem_append take_zero nil_append)
namespace Go.Sl
open Go.Proofs
set_option maxRecDepth 4000
variable{k nd u v x:Int}{es:List Pt}{L num out:List Int}{j:Nat}
def NBX(nd:Int)(es:List Pt)(u v x y:Int):Prop:=y∈nbG nd es x\/(x=u/\y=v)\/(x=v/\y=u)
def rowsU(nd:Int)(es:List Pt)(u v:Int):List (BitVec 64):=List.set (List.set (ek nd es) u.toNat (e_ (ek nd es) u ||| bitB v)) v.toNat (e_ (List.set (ek nd es) u.toNat (e_ (ek nd es) u ||| bitB v)) v ||| bitB u)
theorem rowsU_mem(Z:GrOk nd es)(hu:NodeR nd u)(hv:NodeR nd v)(aa:u≠v){y:Int}(M:NodeR nd x):y∈eo (e_ (rowsU nd es u v) x)↔NBX nd es u v x y:=by
 unfold NodeR at hu hv M
 have hl:=Z.rows.len
 have hr:=Z.rng
 have hb:y∈eo (e_ (ek nd es) x)↔y∈nbG nd es x:=by
  rw [Z.rows.mem M.1 M.2,mem_nb Z]
  refine ⟨λh=>h.2,λh=>⟨?_,h⟩⟩
  have:=nbe_rng Z ((mem_nb Z).2 h);omega
 unfold rowsU NBX
 rw [En _ v x _ hv.1 M.1 (by rw [length_set];omega)]
 by_cases q1:v=x
 ·rw [if_pos q1,mem_orBit om,En _ u v _ hu.1 hv.1 om,if_neg aa,q1,hb]
  constructor
  ·rintro (h|h)
   ·exact .inl h
   exact .inr<|.inr ⟨rfl,h⟩
  rintro (h|h|h)
  ·exact .inl h
  ·omega
  exact .inr h.2
 rw [if_neg q1,En _ u x _ hu.1 M.1 om]
 by_cases q2:u=x
 ·rw [if_pos q2,mem_orBit om,q2,hb]
  constructor
  ·rintro (h|h)
   ·exact .inl h
   exact .inr<|.inl ⟨rfl,h⟩
  rintro (h|h|h)
  ·exact .inl h
  ·exact .inr h.2
  omega
 rw [if_neg q2,hb]
 constructor
 ·exact .inl
 rintro (h|h|h)
 ·exact h
 ·exact absurd h.1.symm q2
 exact absurd h.1.symm q1
structure RgI (NB:Int->Int->Prop) (P:Int->Prop) (L1:List Int) (F:BitVec 64) (sk:List Int):Prop where
 lev:∀x∈eo F,P x
 seed:∀x∈L1,x∈eo F
 st:∀x∈sk,x∈eo F
 cl:∀x∈eo F,x∈sk\/∀y,NB x y->P y->y∈eo F
section
variable {NB:Int->Int->Prop}{P:Int->Prop}{L1 L2 st:List Int}{F F2:BitVec 64}
theorem RgI.pop(h:RgI NB P L1 F st)(h0:0<st.length)(hL:∀y,y∈L2↔NB (e_ st ((st.length:Int) - 1)) y/\P y/\y∉eo F)(Z:∀x,x∈eo F2↔x∈eo F\/x∈L2):RgI NB P L1 F2 (st.take (st.length - 1)++L2):=by
 refine ⟨λx hx=>?_,λx hx=>(Z x).2 (.inl<|h.seed x hx),λx hx=>?_,λx hx=>?_⟩
 ·rcases (Z x).1 hx with hx|hx
  ·exact h.lev x hx
  exact ((hL x).1 hx).2.1
 ·rcases mem_append.1 hx with hx|hx
  ·exact (Z x).2 (.inl<|h.st x<|List.mem_of_mem_take hx)
  exact (Z x).2 (.inr hx)
 rcases (Z x).1 hx with hx|hx
 ·rcases h.cl x hx with hq|hq
  ·by_cases e:x=e_ st ((st.length:Int) - 1)
   ·refine .inr λy M hP=>?_
    by_cases hyF:y∈eo F
    ·exact (Z y).2 (.inl hyF)
    exact (Z y).2 (.inr<|(hL y).2 ⟨e▸M,hP,hyF⟩)
   refine .inl<|List.mem_append_left _ ?_
   obtain ⟨i,hi,rfl⟩:=List.getElem_of_mem hq
   have aa:i≠st.length - 1:=λq=>e (by rw [show ((st.length:Int) - 1)=((st.length - 1:Nat):Int) by omega,C7 st _ om];congr 1)
   rw [List.mem_iff_getElem]
   exact ⟨i,by rw [length_take];omega,by rw [List.getElem_take]⟩
  exact .inr λy M hP=>(Z y).2 (.inl<|hq y M hP)
 exact .inl<|List.mem_append_right _ hx
theorem rg_more(hF:∀x,x∈eo F2↔x∈eo F\/x∈L2)(hn:L2.Nodup)(M:∀x∈L2,x∉eo F):(eo F2).length=(eo F).length+L2.length:=by
 have Z:(eo F2).Perm (eo F++L2):=(List.perm_ext_iff_of_nodup (Dp _)<|List.nodup_append.2 ⟨Dp _,hn,λa ha b hb e=>M b hb<|e▸ha⟩).2 λx=>by rw [hF,mem_append]
 rw [Z.length_eq,length_append]
end
theorem or_take{F F2:BitVec 64}(Z:j<L.length)(M:∀x∈L,0<=x/\x<64)(h:∀x,x∈eo F2↔x∈eo F\/x∈L.take j):∀x,x∈eo (F2 ||| bitB (e_ L j))↔x∈eo F\/x∈L.take (j+1):=λx=>by
 rw [mem_orBit (M _<|B7 om om),h,Cj L j Z,mem_append,List.mem_singleton,or_assoc]
theorem app_take{st:List Int}(Z:j<L.length)(ho:out=st++L.take j):out++[e_ L j]=st++L.take (j+1):=by rw [ho,Cj L j Z,List.append_assoc]
theorem mem_bitB(h:0<=k/\k<64):x∈eo (bitB k)↔x=k:=by
 have Z:=mem_orBit (m:=0#64) (u:=x) h
 rw [Ea] at Z
 have e:(0#64 ||| bitB k)=bitB k:=by simp
 rw [e] at Z
 rw [Z]
 exact ⟨λh=>h.elim (λh=>by cases h) id,.inr⟩
theorem rg_start{NB:Int->Int->Prop}{P:Int->Prop}{L1:List Int}{F:BitVec 64}(hF:∀x,x∈eo F↔x∈eo 0#64\/x∈L1)(ho:out=L1)(hP:∀x∈L1,P x):RgI NB P L1 F out:=by
 have M:∀x,x∈eo F↔x∈L1:=λx=>by rw [hF,Ea];simp
 subst ho
 exact ⟨λx Z=>hP x<|(M x).1 Z,λx Z=>(M x).2 Z,λx Z=>(M x).2 Z,λx Z=> .inl<|(M x).1 Z⟩
structure RegX (nd:Int) (es:List Pt) (num:List Int) (u v k:Int) (F:BitVec 64):Prop where
 lev:∀x∈eo F,NodeR nd x/\e_ num x=k
 hu:e_ num u=k->u∈eo F
 hv:e_ num v=k->v∈eo F
 cl:∀x∈eo F,∀y,NBX nd es u v x y->e_ num y=k->y∈eo F
theorem RgI.reg{F ms:BitVec 64}{st:List Int}(hG:GrOk nd es)(hl:(num.length:Int)=nd)(hu:NodeR nd u)(hv:NodeR nd v)
  (hm:∀x,x∈eo ms↔(0<=x/\x<(num.length:Int))/\e_ num x=k) (h:RgI (NBX nd es u v) (λx:Int=>(0<=x/\x<(num.length:Int))/\e_ num x=k) (eo<|(bitB u ||| bitB v) &&& ms) F st) (hs:st.length=0):RegX nd es num u v k F:=by
 unfold NodeR at hu hv
 have hr:=hG.rng
 obtain rfl:=List.length_eq_zero_iff.1 hs
 refine ⟨λx M=>?_,λhk=>h.seed u ?_,λhk=>h.seed v ?_,λx M y Z aa=>?_⟩
 ·have:=h.lev x M;unfold NodeR;exact ⟨by omega,this.2⟩
 ·rw [mem_andB,mem_orB2,mem_bitB om,hm];exact ⟨.inl rfl,by omega,hk⟩
 ·rw [mem_andB,mem_orB2,mem_bitB (k:=v) om,hm];exact ⟨.inr rfl,by omega,hk⟩
 refine ((h.cl x M).resolve_left (by simp)) y Z ⟨?_,aa⟩
 rcases Z with q|q|q
 ·have:=(nbe_rng hG q).2.1;omega
 ·omega
 omega
set_option maxHeartbeats 2000000 in
theorem Region_ok{κ:Ctx}{I:List Item}{ea na:Option Addr}{ec nc:Nat}(hl:Sl κ I (.slice ea es.length ec) es)(hm:Sl κ I (.slice na num.length nc) num)(hG:GrOk nd es)(aw:(num.length:Int)=nd)(hu:NodeR nd u)(hv:NodeR nd v)(a5:u≠v)(hT:TabRd κ I 0 tzCells):eu prog κ 270 [.agg #[e7 nd,.slice ea es.length ec,.slice na num.length nc],e7 u,e7 v] I (λr J=>∃F:BitVec 64,r = .tuple #[U64 F,e7 (min (e_ num u) (e_ num v))]/\RegX nd es num u v (min (e_ num u) (e_ num v)) F/\I=J):=by
 have a7:=hG.rng
 have bc:=hG.rows.len
 have bg:0<=u/\u<nd:=hu
 have bj:0<=v/\v<nd:=hv
 have bb:(rowsU nd es u v).length=(ek nd es).length:=by unfold rowsU;rw [length_set,length_set]
 refine Ce3 Tryz.func270 C C ?_
 refine Ad<|Ge1 (Bd (cs:=[_,_,_]) C C C) λb1=>Ga C<|Ga C<|Ac<|Ad<|Gf fld40_0 C<|Gl2 ty38 ?_
 refine G.e (Aj c_ C C<|MRows_ok (nd:=nd)<|A8 hl) ?_
 rintro _ _ ⟨_,_,⟨aa,ab,rfl,rfl⟩,rfl,rfl⟩
 have ay:=rowsB_len nd es
 refine Ga C<|Ac<|Ar<|Bs mixed<|El 8<|Dr 0 C (Ai C)<|Dr 1 C (Ai C)<|Dr 2 C (A3 (α:=(BitVec 64)) (xs:=ek nd es) B8 ty207 C C Bi (by first|omega|(have h1:=(M om).1;unfold NodeR at h1;omega))<|by first|omega|(simp only [length_set];omega)|(have h1:=(M om).1;unfold NodeR at h1;omega))<|Dr 3 C (B9 (α:=(BitVec 64)) (xs:=ek nd es) (u:=U64 ((e_ (ek nd es) u))) ty207 C Bi (by first|omega|(have h1:=(M om).1;unfold NodeR at h1;omega)) (by first|omega|(simp only [length_set];omega)|(have h1:=(M om).1;unfold NodeR at h1;omega)) C)<|Dr 4 C (Ai C)<|Ds1 5<|Se C (Aj c_ C C<|Bit_ok v) ?_
 rintro _ _ ⟨_,_,⟨rfl,rfl⟩,rfl,rfl⟩
 refine ⟨Ax,?_⟩
 refine Dr 6 C (Ei (a:=(e_ (ek nd es) u)) (b:=bitB v) C C)<|Dr 7 C (A3 (α:=(BitVec 64)) (xs:=ek nd es) B8 ty207 C C Bi (by first|omega|(have h1:=(M om).1;unfold NodeR at h1;omega))<|by first|omega|(simp only [length_set];omega)|(have h1:=(M om).1;unfold NodeR at h1;omega))<|Cs kr ?_
 refine Ae 8 C (C1 (α:=(BitVec 64)) (xs:=ek nd es) (e:=207) (new:=(e_ (ek nd es) u) ||| (bitB v)) ty207 C C C (by first|omega|(have h1:=(M om).1;unfold NodeR at h1;omega)) (by first|omega|(simp only [length_set];omega)|(have h1:=(M om).1;unfold NodeR at h1;omega)) am) ?_
 rintro _ _ ⟨rfl,rfl⟩
 refine Ct kr ?_
 refine Ah<|Ap (S4 8 3 1 2)<|Ar<|Bs mixed<|El 8<|Dr 0 C (Ai C)<|Dr 1 C (Ai C)<|Dr 2 C (A3 (α:=(BitVec 64)) (xs:=List.set (ek nd es) (u).toNat ((e_ (ek nd es) u) ||| (bitB v))) B8 ty207 C C Bi (by first|omega|(have h1:=(M om).1;unfold NodeR at h1;omega))<|by first|omega|(simp only [length_set];omega)|(have h1:=(M om).1;unfold NodeR at h1;omega))<|Dr 3 C (B9 (α:=(BitVec 64)) (xs:=List.set (ek nd es) (u).toNat ((e_ (ek nd es) u) ||| (bitB v))) (u:=U64 ((e_ (List.set (ek nd es) (u).toNat ((e_ (ek nd es) u) ||| (bitB v))) v))) ty207 C Bi (by first|omega|(have h1:=(M om).1;unfold NodeR at h1;omega)) (by first|omega|(simp only [length_set];omega)|(have h1:=(M om).1;unfold NodeR at h1;omega)) C)<|Dr 4 C (Ai C)<|Ds1 5<|Se C (Aj c_ C C<|Bit_ok u) ?_
 rintro _ _ ⟨_,_,⟨rfl,rfl⟩,rfl,rfl⟩
 refine ⟨Ax,?_⟩
 refine Dr 6 C (Ei (a:=(e_ (List.set (ek nd es) (u).toNat ((e_ (ek nd es) u) ||| (bitB v))) v)) (b:=bitB u) C C)<|Dr 7 C (A3 (α:=(BitVec 64)) (xs:=List.set (ek nd es) (u).toNat ((e_ (ek nd es) u) ||| (bitB v))) B8 ty207 C C Bi (by first|omega|(have h1:=(M om).1;unfold NodeR at h1;omega))<|by first|omega|(simp only [length_set];omega)|(have h1:=(M om).1;unfold NodeR at h1;omega))<|Cs kr ?_
 refine Ae 8 C (C1 (α:=(BitVec 64)) (xs:=List.set (ek nd es) (u).toNat ((e_ (ek nd es) u) ||| (bitB v))) (e:=207) (new:=(e_ (List.set (ek nd es) (u).toNat ((e_ (ek nd es) u) ||| (bitB v))) v) ||| (bitB u)) ty207 C C C (by first|omega|(have h1:=(M om).1;unfold NodeR at h1;omega)) (by first|omega|(simp only [length_set];omega)|(have h1:=(M om).1;unfold NodeR at h1;omega)) am) ?_
 rintro _ _ ⟨rfl,rfl⟩
 refine Ct kr ?_
 refine Ah<|Ar<|Bs mixed<|El 12<|Dr 0 C (Ab fld40_1 C)<|Dr 1 C (A0 ty22) ?_
 refine Dr 2 C (Ai C)<|Dr 3 C (A3 (α:=Int) (xs:=num) Af ef C C (A8 hm) (by first|omega|(have h1:=(M om).1;unfold NodeR at h1;omega))<|by first|omega|(simp only [length_set];omega)|(have h1:=(M om).1;unfold NodeR at h1;omega))<|Dr 4 C (Bx (xs:=num) ef C (A8 hm) (by first|omega|(have h1:=(M om).1;unfold NodeR at h1;omega))<|by first|omega|(simp only [length_set];omega)|(have h1:=(M om).1;unfold NodeR at h1;omega))<|Dr 5 C (Ab fld40_1 C)<|Dr 6 C (A0 ty22) ?_
 refine Dr 7 C (Ai C)<|Dr 8 C (A3 (α:=Int) (xs:=num) Af ef C C (A8 hm) (by first|omega|(have h1:=(M om).1;unfold NodeR at h1;omega))<|by first|omega|(simp only [length_set];omega)|(have h1:=(M om).1;unfold NodeR at h1;omega))<|Dr 9 C (Bx (xs:=num) ef C (A8 hm) (by first|omega|(have h1:=(M om).1;unfold NodeR at h1;omega))<|by first|omega|(simp only [length_set];omega)|(have h1:=(M om).1;unfold NodeR at h1;omega))<|Dr 10 C (Es C C)<|Dr 11 C (Bf C)<|Dz<|Ah<|Ap (S5 9 8 3 1 2)<|Ad<|Gf fld40_1 C<|D9 (J:=vc 207 (.slice aa (ek nd es).length ab) ((rowsU nd es u v))::e8 b1 [e7 nd,.slice ea es.length ec,.slice na num.length nc] 40::I) (Dn _) ?_
 have a1:(if (e_ num v)<(e_ num u) then (e_ num v) else (e_ num u))=(min (e_ num u)<|e_ num v):=ifmin _ _
 rw [a1]
 refine Gl ty22 ?_
 refine Gm C<|G.e (Aj c_ C C<|Level_ok (num:=num) (lv:=(min (e_ num u)<|e_ num v)) (A8 hm) om) ?_
 rintro _ _ ⟨_,_,⟨Z,rfl,ad,rfl⟩,rfl,rfl⟩
 refine Ga C<|Ac<|Ad<|Ga C<|Ac<|Ad<|Gm C<|Gr (Bk B8 C)<|Ge2 (Eff.make0 (α:=Int) (n:=(ek nd es).length) Af ef C C C om om om C) λaz a0=>?_
 refine Ga C<|Ac<|Ap (S7 12 11 10 9 8 1 2)<|Ar<|Ad<|Gm C<|G.e (Aj c_ C C<|Bit_ok u) ?_
 rintro _ _ ⟨_,_,⟨rfl,rfl⟩,rfl,rfl⟩
 refine Gm C<|G.e (Aj c_ C C<|Bit_ok v) ?_
 rintro _ _ ⟨_,_,⟨rfl,rfl⟩,rfl,rfl⟩
 refine Gr (Ei (a:=bitB u) (b:=bitB v) C C)<|Gm C<|Gr (Ek (a:=(bitB u) ||| (bitB v)) (b:=Z) C C)<|Gc2 (Aj c_ C C<|MList_ok (((bitB u) ||| (bitB v)) &&& Z)<|Bn hT Ax) λah ae=>?_
 refine Gr (Bk Af C)<|Gm C<|Ac<|Ap (S8 64 63 62 12 11 10 9 8)<|A5<|B1 (σ:=Nat×(BitVec 64)×(Option Addr)×Nat×(List Int)) (λs=>([(8,.slice aa (ek nd es).length ab),(9,e7<|(min (e_ num u)<|e_ num v)),(10,U64 Z),(11,U64<|s.2.1),(12,.slice s.2.2.1 s.2.2.2.2.length s.2.2.2.1),(62,.slice ah (eo<|((bitB u) ||| (bitB v)) &&& Z).length ae),(63,e7<|(((eo<|((bitB u) ||| (bitB v)) &&& Z).length:Nat):Int)),(64,e7 ((s.1:Nat):Int))]:Env)) (λs=>vk 3 ah ae (eo<|((bitB u) ||| (bitB v)) &&& Z)::vk 3 s.2.2.1 s.2.2.2.1 s.2.2.2.2::vc 207 (.slice aa (ek nd es).length ab) ((rowsU nd es u v))::e8 b1 [e7 nd,.slice ea es.length ec,.slice na num.length nc] 40::I) (λs=>(s.1<=(eo<|(bitB u ||| bitB v) &&& Z).length)/\(∀x,x∈eo s.2.1↔x∈eo 0#64\/x∈(eo<|(bitB u ||| bitB v) &&& Z).take s.1)/\(s.2.2.2.2=[]++(eo<|(bitB u ||| bitB v) &&& Z).take s.1)) (λs=>(eo<|(bitB u ||| bitB v) &&& Z).length - s.1) (0,0#64,az,a0,[]) ⟨om,(λx=>by rw [take_zero];simp),rfl⟩ (cx2<|Aa C<|Aa (C8 C<|by first|rfl|simp)<|Aa (C8 C<|by first|rfl|simp)<|cx2<|Aa Cd Bp) Bg ?_
 rintro ⟨k,F,a,c,out⟩ hp
 dsimp only at hp ⊢
 obtain ⟨hk,hF,ho⟩:=hp
 have bi:out.length=k:=by rw [ho,nil_append,length_take];omega
 have be:=Ex ((bitB u ||| bitB v) &&& Z)
 refine Ad<|Gr (A9 C C)<|Ac<|Ar<|A7 C (λa6=>?_)<|λa6=>?_
 ·refine Aw (Ah<|Ar<|A5<|Ad<|Gr (A3 (α:=Int) (xs:=eo (((bitB u) ||| (bitB v)) &&& Z)) Af ef C C Bi (by first|omega|(have h1:=(M om).1;unfold NodeR at h1;omega))<|by first|omega|(simp only [length_set];omega)|(have h1:=(M om).1;unfold NodeR at h1;omega))<|Gr (Bx (xs:=eo (((bitB u) ||| (bitB v)) &&& Z)) ef C Bi (by first|omega|(have h1:=(M om).1;unfold NodeR at h1;omega))<|by first|omega|(simp only [length_set];omega)|(have h1:=(M om).1;unfold NodeR at h1;omega))<|Ga C<|Ac<|Ad<|Gm C<|Gm C<|G.e (Aj c_ C C<|Bit_ok<|e_ (eo<|((bitB u) ||| (bitB v)) &&& Z) (k:Int)) ?_)
  rintro _ _ ⟨_,_,⟨rfl,rfl⟩,rfl,rfl⟩
  refine Gr (Ei (a:=F) (b:=bitB (e_ (eo<|((bitB u) ||| (bitB v)) &&& Z) (k:Int))) C C)<|Ga C<|Ac<|Ap (S9 11 14 8 9 10 12 62 63 64)<|Ay<|Gm C<|Gm C<|Ge1 (Ce (α:=Int) (cs:=[_]) (xs:=[e_ (eo<|((bitB u) ||| (bitB v)) &&& Z) (k:Int)]) Af ef C C dc dc C C C C) λbk=>?_
  refine Ge2 (B3 (α:=Int) (e:=3) (xs:=out) (ys:=([e_ (eo<|((bitB u) ||| (bitB v)) &&& Z) (k:Int)]:List Int)) Af ef C C C mm Bi lcn dc C<|λ_ _=>am) λax au=>?_
  exact Ga C<|Bj<|Am<|Ah<|Ap (S8 12 11 8 9 10 62 63 64)<|Ay<|Gr (Rad C C)<|Gm C<|Bj<|Cb ((k+1),(F ||| (bitB<|e_ (eo<|((bitB u) ||| (bitB v)) &&& Z) (k:Int))),(ax),(au),(out++([e_ (eo<|((bitB u) ||| (bitB v)) &&& Z) (k:Int)]:List Int)))<|by dsimp only;exact ⟨om,(or_take om (λx hx=>Ey hx) hF),(app_take om ho)⟩
 refine Bt<|Aq<|Aq<|Bb<|Ah<|Ar<|A5<|B1 (σ:=(BitVec 64)×(Option Addr)×Nat×(List Int)) (λs=>([(8,.slice aa (ek nd es).length ab),(9,e7<|(min (e_ num u)<|e_ num v)),(10,U64 Z),(11,U64<|s.1),(12,.slice s.2.1 s.2.2.2.length s.2.2.1)]:Env)) (λs=>vk 3 ah ae (eo<|((bitB u) ||| (bitB v)) &&& Z)::vk 3 s.2.1 s.2.2.1 s.2.2.2::vc 207 (.slice aa (ek nd es).length ab) ((rowsU nd es u v))::e8 b1 [e7 nd,.slice ea es.length ec,.slice na num.length nc] 40::I) (λs=>(RgI (NBX nd es u v) (λx:Int=>(0<=x/\x<(num.length:Int))/\e_ num x=(min (e_ num u)<|e_ num v)) (eo<|(bitB u ||| bitB v) &&& Z) s.1 s.2.2.2)/\(s.2.2.2.length<=(eo s.1).length)) (λs=>2*(64 - (eo s.1).length)+s.2.2.2.length) (F,a,c,out) (show (RgI (NBX nd es u v) (λx:Int=>(0<=x/\x<(num.length:Int))/\e_ num x=(min (e_ num u)<|e_ num v)) (eo<|(bitB u ||| bitB v) &&& Z) (F:BitVec 64) (out:List Int))/\((out:List Int).length<=(eo (F:BitVec 64)).length) from ⟨(rg_start (by rw [take_of_length_le om] at hF;exact hF) (by rw [ho,nil_append,take_of_length_le om])<|λx hx=>(ad x).1 (mem_andB.1 hx).2),(by have h2:=rg_more (F:=0#64) (F2:=F) (L2:=(eo<|(bitB u ||| bitB v) &&& Z)) (by rw [take_of_length_le om] at hF;exact hF) (Dp _) (λx _=>by rw [Ea];simp);rw [Ea] at h2;simp only [List.length_nil] at h2;omega)⟩) (cx2<|Aa C<|Aa (C8 C<|by first|rfl|simp)<|Aa (C8 C<|by first|rfl|simp) Bp) Bg ?_
 rintro ⟨F,a,c,sk⟩ hp
 dsimp only at hp ⊢
 obtain ⟨hR,bf⟩:=hp
 have bh:=Ex F
 have M:=λh:0<sk.length=>hR.lev _ (hR.st _<|B7 (xs:=sk) (i:=(sk.length:Int) - 1) om om)
 refine Ar<|Ad<|Gm C<|Gr (Bk Af C)<|Gr (B2 C C)<|Ac<|A7 C (λa4=>?_)<|λa4=>?_
 ·refine Aw (Ah<|A5<|Ad<|Gm C<|Gm C<|Gr (Bk Af C)<|Gr (Rsu C C)<|Gr (A3 (α:=Int) (xs:=sk) Af ef C C Bi (by first|omega|(have h1:=(M om).1;unfold NodeR at h1;omega))<|by first|omega|(simp only [length_set];omega)|(have h1:=(M om).1;unfold NodeR at h1;omega))<|Gr (Bx (xs:=sk) ef C Bi (by first|omega|(have h1:=(M om).1;unfold NodeR at h1;omega))<|by first|omega|(simp only [length_set];omega)|(have h1:=(M om).1;unfold NodeR at h1;omega))<|Ga C<|Ac<|Ap (S6 15 8 9 10 11 12)<|Ad<|Gm C<|Gm C<|Gr (Bk Af C)<|Gr (Rsu C C)<|Gm C<|Gr (Runs.caps Af C)<|Gr (Runs.hicap (α:=Int) (xs:=sk) (h:=sk.length - 1) Af ef C C C om Bi om om)<|Ga C<|D9 (J:=vk 3 a c (List.take (sk.length - 1) sk)::vk 3 ah ae (eo<|((bitB u) ||| (bitB v)) &&& Z)::vc 207 (.slice aa (ek nd es).length ab) ((rowsU nd es u v))::e8 b1 [e7 nd,.slice ea es.length ec,.slice na num.length nc] 40::I) (Co Bl<|Fit.takevc (α:=Int) C) ?_)
  refine Ac<|Ap (S6 12 15 8 9 10 11)<|Ad<|Gm C<|Gm C<|Gr (A3 (α:=(BitVec 64)) (xs:=(rowsU nd es u v)) B8 ty207 C C Bi (by first|omega|(have h1:=(M om).1;unfold NodeR at h1;omega))<|by first|omega|(simp only [length_set];omega)|(have h1:=(M om).1;unfold NodeR at h1;omega))<|Gr (B9 (α:=(BitVec 64)) (xs:=(rowsU nd es u v)) (u:=U64 ((e_ (rowsU nd es u v)<|e_ sk<|((sk.length:Nat):Int) - 1))) ty207 C Bi (by first|omega|(have h1:=(M om).1;unfold NodeR at h1;omega)) (by first|omega|(simp only [length_set];omega)|(have h1:=(M om).1;unfold NodeR at h1;omega)) C)<|Gm C<|Gr (Ek (a:=(e_ (rowsU nd es u v)<|e_ sk<|((sk.length:Nat):Int) - 1)) (b:=Z) C C)<|Gm C<|Gr (E2 (a:=(e_ (rowsU nd es u v)<|e_ sk<|((sk.length:Nat):Int) - 1) &&& Z) (b:=F) C C)<|Gc2 (Aj c_ C C<|MList_ok (((e_ (rowsU nd es u v)<|e_ sk<|((sk.length:Nat):Int) - 1) &&& Z) &&& ~~~F)<|Bn hT Ax) λao an=>?_
  refine Gr (Bk Af C)<|Gm C<|Ac<|Ap (S8 103 102 101 12 8 9 10 11)<|A5<|B1 (σ:=Nat×(BitVec 64)×(Option Addr)×Nat×(List Int)) (λs=>([(8,.slice aa (ek nd es).length ab),(9,e7<|(min (e_ num u)<|e_ num v)),(10,U64 Z),(11,U64<|s.2.1),(12,.slice s.2.2.1 s.2.2.2.2.length s.2.2.2.1),(101,.slice ao (eo<|((e_ (rowsU nd es u v)<|e_ sk<|((sk.length:Nat):Int) - 1) &&& Z) &&& ~~~F).length an),(102,e7<|(((eo<|((e_ (rowsU nd es u v)<|e_ sk<|((sk.length:Nat):Int) - 1) &&& Z) &&& ~~~F).length:Nat):Int)),(103,e7 ((s.1:Nat):Int))]:Env)) (λs=>vk 3 ao an (eo<|((e_ (rowsU nd es u v)<|e_ sk<|((sk.length:Nat):Int) - 1) &&& Z) &&& ~~~F)::vk 3 s.2.2.1 s.2.2.2.1 s.2.2.2.2::vk 3 ah ae (eo<|((bitB u) ||| (bitB v)) &&& Z)::vc 207 (.slice aa (ek nd es).length ab) ((rowsU nd es u v))::e8 b1 [e7 nd,.slice ea es.length ec,.slice na num.length nc] 40::I) (λs=>(s.1<=(eo<|((e_ (rowsU nd es u v)<|e_ sk<|((sk.length:Nat):Int) - 1) &&& Z) &&& ~~~F).length)/\(∀x,x∈eo s.2.1↔x∈eo F\/x∈(eo<|((e_ (rowsU nd es u v)<|e_ sk<|((sk.length:Nat):Int) - 1) &&& Z) &&& ~~~F).take s.1)/\(s.2.2.2.2=List.take (sk.length - 1) sk++(eo<|((e_ (rowsU nd es u v)<|e_ sk<|((sk.length:Nat):Int) - 1) &&& Z) &&& ~~~F).take s.1)) (λs=>(eo<|((e_ (rowsU nd es u v)<|e_ sk<|((sk.length:Nat):Int) - 1) &&& Z) &&& ~~~F).length - s.1) (0,F,a,c,(List.take (sk.length - 1) sk)) ⟨om,(λx=>by rw [take_zero];simp),(by rw [take_zero,List.append_nil])⟩ (cx2<|Aa C<|Aa (C8 C<|by first|rfl|simp)<|Aa (C8 C<|by first|rfl|simp)<|cx2<|Aa Cd Bp) Bg ?_
  rintro ⟨j,F3,a3,c3,o3⟩ hp
  dsimp only at hp ⊢
  obtain ⟨hj,ak,aj⟩:=hp
  have a8:o3.length=sk.length - 1+j:=by rw [aj,length_append,length_take,length_take];omega
  have a9:=Ex ((((e_ (rowsU nd es u v)<|e_ sk<|((sk.length:Nat):Int) - 1) &&& Z) &&& ~~~F))
  have ar:∀y,y∈eo (((e_ (rowsU nd es u v)<|e_ sk<|((sk.length:Nat):Int) - 1) &&& Z) &&& ~~~F)↔NBX nd es u v (e_ sk<|(sk.length:Int) - 1) y/\((0<=y/\y<(num.length:Int))/\e_ num y=(min (e_ num u)<|e_ num v))/\y∉eo F:=λy=>by rw [mem_andNot,mem_andB,rowsU_mem hG hu hv a5<|by have:=(M om).1;unfold NodeR;omega,ad y,and_assoc]
  have ai:j=(eo<|((e_ (rowsU nd es u v)<|e_ sk<|((sk.length:Nat):Int) - 1) &&& Z) &&& ~~~F).length->(∀x,x∈eo F3↔x∈eo F\/x∈eo (((e_ (rowsU nd es u v)<|e_ sk<|((sk.length:Nat):Int) - 1) &&& Z) &&& ~~~F))/\(eo F3).length=(eo F).length+(eo<|((e_ (rowsU nd es u v)<|e_ sk<|((sk.length:Nat):Int) - 1) &&& Z) &&& ~~~F).length/\o3=List.take (sk.length - 1) sk++eo (((e_ (rowsU nd es u v)<|e_ sk<|((sk.length:Nat):Int) - 1) &&& Z) &&& ~~~F):=λe=>by rw [take_of_length_le (l:=eo (((e_ (rowsU nd es u v)<|e_ sk<|((sk.length:Nat):Int) - 1) &&& Z) &&& ~~~F)) (i:=j) om] at ak aj;exact ⟨ak,rg_more ak (Dp _)<|λx hx=>((ar x).1 hx).2.2,aj⟩
  refine Ad<|Gr (A9 C C)<|Ac<|Ar<|A7 C (λav=>?_)<|λav=>?_
  ·refine Aw (Ah<|Ar<|A5<|Ad<|Gr (A3 (α:=Int) (xs:=eo (((e_ (rowsU nd es u v)<|e_ sk<|((sk.length:Nat):Int) - 1) &&& Z) &&& ~~~F)) Af ef C C Bi (by first|omega|(have h1:=(M om).1;unfold NodeR at h1;omega))<|by first|omega|(simp only [length_set];omega)|(have h1:=(M om).1;unfold NodeR at h1;omega))<|Gr (Bx (xs:=eo (((e_ (rowsU nd es u v)<|e_ sk<|((sk.length:Nat):Int) - 1) &&& Z) &&& ~~~F)) ef C Bi (by first|omega|(have h1:=(M om).1;unfold NodeR at h1;omega))<|by first|omega|(simp only [length_set];omega)|(have h1:=(M om).1;unfold NodeR at h1;omega))<|Ga C<|Ac<|Ad<|Gm C<|Gm C<|G.e (Aj c_ C C<|Bit_ok<|e_ (eo<|((e_ (rowsU nd es u v)<|e_ sk<|((sk.length:Nat):Int) - 1) &&& Z) &&& ~~~F) (j:Int)) ?_)
   rintro _ _ ⟨_,_,⟨rfl,rfl⟩,rfl,rfl⟩
   refine Gr (Ei (a:=F3) (b:=bitB (e_ (eo<|((e_ (rowsU nd es u v)<|e_ sk<|((sk.length:Nat):Int) - 1) &&& Z) &&& ~~~F) (j:Int))) C C)<|Ga C<|Ac<|Ap (S9 11 17 8 9 10 12 101 102 103)<|Ay<|Gm C<|Gm C<|Ge1 (Ce (α:=Int) (cs:=[_]) (xs:=[e_ (eo<|((e_ (rowsU nd es u v)<|e_ sk<|((sk.length:Nat):Int) - 1) &&& Z) &&& ~~~F) (j:Int)]) Af ef C C dc dc C C C C) λba=>?_
   refine Ge2 (B3 (α:=Int) (e:=3) (xs:=o3) (ys:=([e_ (eo<|((e_ (rowsU nd es u v)<|e_ sk<|((sk.length:Nat):Int) - 1) &&& Z) &&& ~~~F) (j:Int)]:List Int)) Af ef C C C mm Bi lcn dc C<|λ_ _=>am) λap aq=>?_
   exact Ga C<|Bj<|Am<|Ah<|Ap (S8 12 11 8 9 10 101 102 103)<|Ay<|Gr (Rad C C)<|Gm C<|Bj<|Cb ((j+1),(F3 ||| (bitB<|e_ (eo<|((e_ (rowsU nd es u v)<|e_ sk<|((sk.length:Nat):Int) - 1) &&& Z) &&& ~~~F) (j:Int))),(ap),(aq),(o3++([e_ (eo<|((e_ (rowsU nd es u v)<|e_ sk<|((sk.length:Nat):Int) - 1) &&& Z) &&& ~~~F) (j:Int)]:List Int)))<|by dsimp only;exact ⟨om,(or_take om (λx hx=>Ey hx) ak),(app_take om aj)⟩
  exact Bt<|Aq<|Aq<|Bb<|Am<|Cb ((F3),(a3),(c3),(o3)) (by dsimp only;exact ⟨(by rw [(ai om).2.2];exact hR.pop om ar (ai om).1),(by have h4:=(ai om).2.1;omega)⟩) (hlt:=by (try dsimp only);exact (by have h4:=(ai om).2.1;have h5:=Ex F3;omega))
 exact Bt<|Aq<|Aq<|Bb<|Ah<|Ad<|Gm C<|Gm C<|Ga C<|Ga C<|Ac<|Az<|C2 C C C I Ax ⟨F,rfl,hR.reg hG aw hu hv ad om,rfl⟩
end Go.Sl
namespace Go.Sl
variable {P:Program}{κ:Ctx}{N:Frm}{L:Env}{I:List Item}
end Go.Sl
namespace Go.Sl
open Go.Proofs
set_option maxRecDepth 4000
variable{Z ea ga na:Option Addr}{M ec gc nc:Nat}
section
variable {nd u v k:Int}{es es':List Pt}{F A S B C:BitVec 64}
theorem coreN_bdR(Z:GrOk nd es):∀x∈coreN nd es,0<=x/\x<=1000:=λx M=>by
 obtain ⟨i,hi,rfl⟩:=mem_atN M
 have h1:=coreN_lenG Z
 have h2:=core_pos Z (u:=(i:Int)) om om
 have:=Z.rng
 omega
theorem RegX.rng(M:GrOk nd es){num:List Int}(h:RegX nd es num u v k F):∀x∈eo F,0<=x/\x<nd:=λx Z=>(h.lev x Z).1
theorem ins_core(h:OneE nd es es' u v)(hk:k=min (e_ (coreN nd es) u) (e_ (coreN nd es) v))(M:RegX nd es (coreN nd es) u v k F)(hA:∀x,x∈eo A↔(0<=x/\x<((coreN nd es).length:Int))/\k<e_ (coreN nd es) x)
  (hS:SetR (ek nd es') F A (k+1) S):(eo S).foldl (incL 1) (coreN nd es)=coreN nd es':=by
 have h1:=coreN_lenG h.ok
 have h2:∀x∈eo S,0<=x/\x<((coreN nd es).length:Int):=λx Z=>by rw [h1];exact M.rng h.ok x (hS.sub x Z)
 refine coreN_ext h.ok' (by rw [incs_len];exact h1) λx Z=>?_
 rw [incs_at _ _ h2 _ Z.1,sum_ind_nodup<|Dp _,Int.one_mul]
 exact (core_comes h hk ⟨M.lev,M.hu,M.hv,λx Z y hy hk=>M.cl x Z y ((h.nb x y).1 hy) hk⟩ (λx=>by rw [hA,h1];exact Iff.rfl) hS Z).symm
theorem del_above(M:GrOk nd es')(hR:RegX nd es' (coreN nd es') u v k F)(Z:∀x,x∈eo B↔(0<=x/\x<((coreN nd es').length:Int))/\k<e_ (coreN nd es') x)
  (hC:∀x,x∈eo C↔(0<=x/\x<((coreN nd es').length:Int))/\e_ (coreN nd es') x=k) (x:Int):x∈eo (B ||| (C &&& ~~~F))↔NodeR nd x/\k<=e_ (coreN nd es') x/\x∉eo F:=by
 have h1:=coreN_lenG M
 rw [mem_orB2,mem_andNot,Z,hC,h1]
 unfold NodeR
 constructor
 ·rintro (⟨a,b⟩|⟨⟨a,b⟩,c⟩)
  ·exact ⟨a,by omega,λq=>by have:=(hR.lev x q).2;omega⟩
  exact ⟨a,by omega,c⟩
 rintro ⟨a,b,c⟩
 by_cases e:e_ (coreN nd es') x=k
 ·exact .inr ⟨⟨a,e⟩,c⟩
 exact .inl ⟨a,by omega⟩
theorem del_core(h:OneE nd es es' u v)(hk:k=min (e_ (coreN nd es') u) (e_ (coreN nd es') v))(M:RegX nd es' (coreN nd es') u v k F)(hA:∀x,x∈eo A↔NodeR nd x/\k<=e_ (coreN nd es') x/\x∉eo F)
  (hS:SetR (ek nd es) F A k S):(eo<|F &&& ~~~S).foldl (incL<|-1) (coreN nd es')=coreN nd es:=by
 have h1:=coreN_lenG h.ok'
 have h2:∀x∈eo (F &&& ~~~S),0<=x/\x<((coreN nd es').length:Int):=λx Z=>by rw [h1];exact M.rng h.ok' x (mem_andNot.1 Z).1
 refine coreN_ext h.ok (by rw [incs_len];exact h1) λx Z=>?_
 rw [incs_at _ _ h2 _ Z.1,sum_ind_nodup<|Dp _]
 have h3:=core_goes h hk ⟨M.lev,M.hu,M.hv,λx Z y hy hk=>M.cl x Z y (.inl hy) hk⟩ hA hS Z
 by_cases e:x∈eo (F &&& ~~~S)
 ·rw [if_pos e];rw [if_pos (mem_andNot.1 e)] at h3;omega
 rw [if_neg e];rw [if_neg (λq=>e<|mem_andNot.2 q)] at h3;omega
end
theorem RIns_ok{κ:Ctx}{I:List Item}{nd u v:Int}{es es':List Pt}(hl:Sl κ I (.slice ea es.length ec) es)(hm:Sl κ I (.slice na (coreN nd es).length nc) (coreN nd es))(hg:Sl κ I (.slice ga es'.length gc) es')(h:OneE nd es es' u v)(hT:TabRd κ I 0 tzCells):eu prog κ 262 [.agg #[e7 nd,.slice ea es.length ec,.slice na (coreN nd es).length nc],.agg #[e7 nd,.slice ga es'.length gc],e7 u,e7 v] I (λr J=>∃(a:Option Addr) (c:Nat) (w:Value),r = .tuple #[.agg #[e7 nd,.slice ga es'.length gc,.slice a (coreN nd es').length c],w]/\J=vk 3 a c (coreN nd es')::I):=by
 have ai:=h.ok'
 have hG:=h.ok
 have ay:(ek nd es').length=nd:=ai.rows.len
 have aq:(ek nd es).length=nd:=hG.rows.len
 have ap:=hG.rng
 have an:=h.ends
 unfold endsP at an
 have aw:=coreN_lenG hG
 have ar:=coreN_lenG ai
 have a0:=core_pos hG (u:=u) om om
 have a1:=core_pos hG (u:=v) om om
 refine Ce4 Tryz.func262 C C ?_
 refine Ad<|Ge1 (Bd (cs:=[_,_,_]) C C C) λb1=>Ge1 (Bd (cs:=[_,_]) C C C) λb2=>Ge1 (A4 ty40 C) λb3=>Ga C<|Ac<|Ad<|Gl3 ty40 ?_
 refine Gm C<|Gm C<|G.e (Aj c_ C C<|Region_ok (nd:=nd) (u:=u) (v:=v) (A8 hl) (A8 hm) hG om (by unfold NodeR;omega) (by unfold NodeR;omega) om<|Bn hT Ax) ?_
 rintro _ _ ⟨_,_,⟨ak,rfl,Z,rfl⟩,rfl,rfl⟩
 refine Gm C<|Gr (Ak C C)<|Gr (Ak C C)<|Ga C<|Ga C<|Ac<|Ap (S5 11 10 8 5 4)<|Ar<|Bs mixed<|El 15<|Dr 0 C (Bc (vs:=[_,_,_]) ty40) ?_
 refine Dr 1 C (Bc (vs:=[_,_]) ty38) ?_
 refine Dr 2 C (Bc (vs:=[_,_]) ty38) ?_
 refine Dr 4 C (Ai C)<|Dr 5 C (Ab fld40_1 C)<|Dr 6 C (A0 ty22) ?_
 refine Dr 7 C (Ai C)<|Dr 9 C (Ai C)<|Dr 10 C (Rad C C)<|Ds1 3<|Se C (Aj c_ C C<|MRows_ok (nd:=nd)<|A8 hg) ?_
 rintro _ _ ⟨_,_,⟨ax,az,rfl,rfl⟩,rfl,rfl⟩
 refine ⟨Ax,?_⟩
 have aj:=rowsB_len nd es'
 refine Ds1 8<|Se C (Aj c_ C C<|Above_ok (num:=coreN nd es) (lv:=min (e_ (coreN nd es) u) (e_ (coreN nd es) v)) (A8 hm) om) ?_
 rintro _ _ ⟨_,_,⟨ao,rfl,ad,rfl⟩,rfl,rfl⟩
 refine ⟨Ax,?_⟩
 refine Ds1 11<|Se C (Aj c_ C C<|Settle_ok (rows:=ek nd es') (F:=ak) (A:=ao) (k:=(min (e_ (coreN nd es) u)<|e_ (coreN nd es) v)+1) Bi om (λx hx=>by have h9:=(Z.lev x hx).1;unfold NodeR at h9;omega)<|Bn hT Ax) ?_
 rintro _ _ ⟨_,_,⟨ah,rfl,aa,rfl⟩,rfl,rfl⟩
 refine ⟨Ax,?_⟩
 refine Ds1 12<|Se C (Aj c_ C C<|Moved_ok (nd:=nd) (nd':=nd) (b':=1) (va:= .slice ea es.length ec) (ga:=ga) (gn:=es'.length) (gc:=gc) (S:=ah) (A8 hm) (λx hx=>by have h9:=(Z.lev x<|aa.sub x hx).1;unfold NodeR at h9;omega) (coreN_bdR hG) dc om<|Bn hT Ax) ?_
 rintro _ _ ⟨_,_,⟨ae,M,av,au,rfl,rfl⟩,rfl,rfl⟩
 refine ⟨Ax,?_⟩
 refine Dr 13 C (Ak C C)<|Dr 14 C (Ak C C)<|Cs kr ?_
 refine Ae 15 C (Df ty40) ?_
 rintro _ _ ⟨rfl,rfl⟩
 refine Dv (i:=16) kr C (Bm C) C C (Bf C) ?_
 refine Ct kr ?_
 refine Ah<|Ap (S2 9 8)<|Az ?_
 have hE:(eo ah).foldl (incL 1) (coreN nd es)=coreN nd es':=ins_core h rfl Z ad aa
 have ab:(coreN nd es).length=(coreN nd es').length:=by have h1:=coreN_lenG h.ok;have h2:=coreN_lenG h.ok';omega
 exact C0 C ty40 C C mm C (vk 3 ae M (coreN nd es')::I) (by unfold vk;rw [←hE,hE,←ab,←hE];exact Bl) ⟨ae,M,_,by rw [←ab],rfl⟩
theorem RRem_ok{κ:Ctx}{I:List Item}{nd u v:Int}{es es':List Pt}(hl:Sl κ I (.slice ea es'.length ec) es')(hm:Sl κ I (.slice na (coreN nd es').length nc) (coreN nd es'))(hg:Sl κ I (.slice ga es.length gc) es)(h:OneE nd es es' u v)(hT:TabRd κ I 0 tzCells):eu prog κ 264 [.agg #[e7 nd,.slice ea es'.length ec,.slice na (coreN nd es').length nc],.agg #[e7 nd,.slice ga es.length gc],e7 u,e7 v] I (λr J=>∃(a:Option Addr) (c:Nat) (w:Value),r = .tuple #[.agg #[e7 nd,.slice ga es.length gc,.slice a (coreN nd es).length c],w]/\J=vk 3 a c (coreN nd es)::I):=by
 have M:=h.ok'
 have hG:=h.ok
 have a3:(ek nd es').length=nd:=M.rows.len
 have au:(ek nd es).length=nd:=hG.rows.len
 have ar:=hG.rng
 have aq:=h.ends
 unfold endsP at aq
 have a1:=coreN_lenG hG
 have av:=coreN_lenG M
 have a4:=core_pos M (u:=u) om om
 have az:=core_pos M (u:=v) om om
 refine Ce4 Tryz.func264 C C ?_
 refine Ad<|Ge1 (Bd (cs:=[_,_,_]) C C C) λb1=>Ge1 (Bd (cs:=[_,_]) C C C) λb2=>Ge1 (A4 ty40 C) λb3=>Ga C<|Ac<|Ad<|Gl3 ty40 ?_
 refine Gm C<|Gm C<|G.e (Aj c_ C C<|Region_ok (nd:=nd) (u:=u) (v:=v) (A8 hl) (A8 hm) M om (by unfold NodeR;omega) (by unfold NodeR;omega) om<|Bn hT Ax) ?_
 rintro _ _ ⟨_,_,⟨Z,rfl,aa,rfl⟩,rfl,rfl⟩
 refine Gm C<|Gr (Ak C C)<|Gr (Ak C C)<|Ga C<|Ga C<|Ac<|Ap (S5 11 10 8 5 4)<|Ar<|Bs mixed<|El 17<|Dr 0 C (Bc (vs:=[_,_]) ty38) ?_
 refine Dr 2 C (Ai C)<|Dr 3 C (Ab fld40_1 C)<|Dr 4 C (A0 ty22) ?_
 refine Dr 5 C (Ai C)<|Dr 7 C (Ab fld40_1 C)<|Dr 8 C (A0 ty22) ?_
 refine Dr 9 C (Ai C)<|Dr 11 C (Ai C)<|Dr 14 C (Ai C)<|Ds1 1<|Se C (Aj c_ C C<|MRows_ok (nd:=nd)<|A8 hg) ?_
 rintro _ _ ⟨_,_,⟨ay,a0,rfl,rfl⟩,rfl,rfl⟩
 refine ⟨Ax,?_⟩
 have ap:=rowsB_len nd es
 refine Ds1 6<|Se C (Aj c_ C C<|Above_ok (num:=coreN nd es') (lv:=min (e_ (coreN nd es') u) (e_ (coreN nd es') v)) (A8 hm) om) ?_
 rintro _ _ ⟨_,_,⟨ao,rfl,aj,rfl⟩,rfl,rfl⟩
 refine ⟨Ax,?_⟩
 refine Ds1 10<|Se C (Aj c_ C C<|Level_ok (num:=coreN nd es') (lv:=min (e_ (coreN nd es') u) (e_ (coreN nd es') v)) (A8 hm) om) ?_
 rintro _ _ ⟨_,_,⟨ae,rfl,an,rfl⟩,rfl,rfl⟩
 refine ⟨Ax,?_⟩
 refine Dr 12 C (E2 (a:=ae) (b:=Z) C C)<|Dr 13 C (Ei (a:=ao) (b:=ae &&& ~~~Z) C C)<|Ds1 15<|Se C (Aj c_ C C<|Settle_ok (rows:=ek nd es) (F:=Z) (A:=ao ||| (ae &&& ~~~Z)) (k:=min (e_ (coreN nd es') u) (e_ (coreN nd es') v)) Bi om (λx hx=>by have h9:=(aa.lev x hx).1;unfold NodeR at h9;omega)<|Bn hT Ax) ?_
 rintro _ _ ⟨_,_,⟨ah,rfl,ak,rfl⟩,rfl,rfl⟩
 refine ⟨Ax,?_⟩
 refine Dr 16 C (Bf C)<|Dz<|Ah<|Ap (S5 12 10 8 5 4)<|Ad<|Gl3 ty40 ?_
 refine Gl2 ty38 ?_
 refine Gm C<|Gm C<|Gr (E2 (a:=Z) (b:=ah) C C)<|G.e (Aj c_ C C<|Moved_ok (nd:=nd) (nd':=nd) (b':= -1) (va:= .slice ea es'.length ec) (ga:=ga) (gn:=es.length) (gc:=gc) (S:=Z &&& ~~~ah) (A8 hm) (λx hx=>by have h9:=(aa.lev x (mem_andNot.1 hx).1).1;unfold NodeR at h9;omega) (coreN_bdR M) dc om<|Bn hT Ax) ?_
 rintro _ _ ⟨_,_,⟨ad,ab,ax,aw,rfl,rfl⟩,rfl,rfl⟩
 refine Gr (Ak C C)<|Gr (Ak C C)<|Ge0 (Df ty40) ?_
 refine Ga C<|Ac<|Ap (S2 9 8)<|Az ?_
 have hE:(eo<|Z &&& ~~~ah).foldl (incL<|-1) (coreN nd es')=coreN nd es:=del_core h rfl aa (λx=>del_above M aa aj an x) ak
 have ai:(coreN nd es').length=(coreN nd es).length:=by have h1:=coreN_lenG h.ok;have h2:=coreN_lenG h.ok';omega
 exact C0 C ty40 C C mm C (vk 3 ad ab (coreN nd es)::I) (by unfold vk;rw [←hE,hE,←ai,←hE];exact Bl) ⟨ad,ab,_,by rw [←ai],rfl⟩
variable {κ:Ctx}{I:List Item}
theorem add_zero{nd:Int}{es:List Pt}{u v:Int}(M:GrOk nd es)(Z:endsP nd u v)(hn:edgeP u v∉es):addG nd es u v=0:=by
 have h1:=changeG_zero.2 ⟨M,Z⟩
 unfold addG;rw [if_neg om,if_neg hn]
theorem rem_zero{nd:Int}{es:List Pt}{u v:Int}(M:GrOk nd es)(Z:endsP nd u v)(hn:edgeP u v∈es):remG nd es u v=0:=by
 have h1:=changeG_zero.2 ⟨M,Z⟩
 unfold remG;rw [if_neg om,if_pos hn]
theorem AddG_yes{nd:Int}{es:List Pt}(hl:Sl κ I (.slice Z es.length M) es){u v:Int}(hz:addG nd es u v=0)(hb:es.length<=10000000):eu prog κ 261 [.agg #[e7 nd,.slice Z es.length M],e7 u,e7 v] I λr J=>∃a c,r = .tuple #[.agg #[e7 nd,.slice a (insB Pt.lt es (edgeP u v)).length c],e7 0]/\J=vk 105 a c (insB Pt.lt es (edgeP u v))::I:=
 (AddG_ok hl u v hb).mono λr J h=>by
  rcases h with h|⟨a,c,_,h1,h2⟩
  ·exact absurd hz h.1
  exact ⟨a,c,h1,h2⟩
theorem RemG_yes{nd:Int}{es:List Pt}(hl:Sl κ I (.slice Z es.length M) es){u v:Int}(hz:remG nd es u v=0)(hb:es.length<=10000000):eu prog κ 263 [.agg #[e7 nd,.slice Z es.length M],e7 u,e7 v] I λr J=>∃a c,r = .tuple #[.agg #[e7 nd,.slice a (without es (edgeP u v)).length c],e7 0]/\J=vk 105 a c (without es (edgeP u v))::I:=
 (RemG_ok hl u v hb).mono λr J h=>by
  rcases h with h|⟨a,c,_,h1,h2⟩
  ·exact absurd hz h.1
  exact ⟨a,c,h1,h2⟩
theorem EqN_ok{va vb:Value}{xs ys:List Int}(hl:Sl κ I va xs)(hm:Sl κ I vb ys):eu prog κ 266 [va,vb] I (λr J=>r = .bool (decide (xs=ys))/\I=J):=by
 refine B5 hl.le λad=>?_
 refine B5 hm.le λab=>?_
 refine Ce2 Tryz.func266 C C ?_
 refine Ad<|Ga C<|Ac<|Ar<|Ad<|Gm C<|Gr (Bw (α:=Int) (xs:=xs) Af C<|A8 hl)<|Gm C<|Gr (Bw (α:=Int) (xs:=ys) Af C<|A8 hm)<|Gr (Be C C)<|Ac<|A7 C (λc10=>?_)<|λc10=>?_
 ·refine Ad (Ga C<|Ac<|Az<|Ao ?_)
  have Z:xs≠ys:=λe=>by subst e;omega
  exact A1 C C I Ax ⟨by rw [decide_eq_false Z],rfl⟩
 refine Aw<|Ah<|Ar<|Ad<|Gm C<|Gr (Bw (α:=Int) (xs:=xs) Af C<|A8 hl)<|Gm C<|Ac<|A5<|B1 (σ:=Nat) (λs=>([(0,va),(1,vb),(12,e7 ((xs.length:Nat):Int)),(13,e7 ((s:Nat):Int))]:Env)) (λs=>I) (λs=>(s<=xs.length)/\(∀j:Nat,j<s->e_ xs j=e_ ys j)) (λs=>xs.length - s) 0 ⟨om,(λj h=>by omega)⟩ (cx2<|Aa C<|Aa Cd Bp) (show Fit κ _ I from Bg) ?_
 rintro k hp
 obtain ⟨hk,hn⟩:=hp
 refine Ad<|Gr (A9 C C)<|Ac<|Ar<|A7 C (λaa=>?_)<|λaa=>?_
 ·refine Aw (Ah<|Ar<|A5<|Ad<|Gm C<|Ga C<|Ac<|Ar<|Bs mixed<|Cc I 9<|Dr 0 C (Ai C)<|Dr 1 C (Ai C)<|Dr 2 C (A3 (α:=Int) (xs:=xs) Af ef C C (A8 hl) om om)<|Dr 3 C (Bx (xs:=xs) ef C (A8 hl) om om)<|Dr 4 C (Ai C)<|Dr 5 C (Ai C)<|Dr 6 C (A3 (α:=Int) (xs:=ys) Af ef C C (A8 hm) om om)<|Dr 7 C (Bx (xs:=ys) ef C (A8 hm) om om)<|Dr 8 C (Be C C)<|Dz<|Ah<|Ap (S5 24 0 1 12 13)<|A7 C (λM=>?_)<|λM=>?_)
  ·refine Ad (Ga C<|Ac<|Az<|Ba<|Ao<|Ao<|Ba<|Ao ?_)
   have Z:xs≠ys:=λe=>by subst e;exact M rfl
   exact A1 C C I Ax ⟨by rw [decide_eq_false Z],rfl⟩
  exact Aw<|Am<|Ah<|Ay<|Gr (Rad C C)<|Gm C<|Bj<|Cb ((k+1)) ⟨om,(λj h=>by by_cases e:j=k;(· subst e;exact Classical.not_not.1 M);(· exact hn j om))⟩
 refine Bt<|Aq<|Aq<|Bb<|Ah<|Ad<|Ga C<|Ac<|Az ?_
 have he:xs=ys:=List.ext_getElem om λi h1 h2=>by have:=hn i om;rwa [C7 xs i h1,C7 ys i h2] at this
 exact A1 C C I Ax ⟨by rw [decide_eq_true he],rfl⟩
theorem RepV_ok{nd:Int}{es:List Pt}(hl:Sl κ I (.slice ea es.length ec) es)(hm:Sl κ I (.slice na (coreN nd es).length nc) (coreN nd es))(hG:GrOk nd es)(hT:TabRd κ I 0 tzCells):eu prog κ 259 [.agg #[e7 nd,.slice ea es.length ec,.slice na (coreN nd es).length nc]] I (λr J=>r = .bool true/\I=J):=by
 have Z:=checkG_ok.2 hG
 refine Ce1 Tryz.func259 C C ?_
 refine Ad<|Ge1 (Bd (cs:=[_,_,_]) C C C) λb1=>Ga C<|Ac<|Ad<|Gf fld40_0 C<|Gl2 ty38 ?_
 refine Gc2 (Aj c_ C C<|CNumbers_ok (nd:=nd) (A8 hl)<|Bn hT Ax) λab aa=>?_
 refine Gm C<|Gr (Ak C C)<|Gr (Ak C C)<|Ga C<|Ga C<|Ac<|Ad<|Gm C<|Gr (Br C C)<|Gm C<|Bh (d:=13) C (λM=>?_)<|λM=>?_
 ·refine e9 (Ai C) (e9 (Ab fld40_1 C)<|e9 (A0 ty22) ?_)
  refine Dx (Cq C C C) (Aj c_ C C<|EqN_ok (xs:=coreN nd es) (ys:=coreN nd es) Bi<|A8 hm) ?_
  rintro _ _ ⟨_,_,⟨rfl,rfl⟩,rfl,rfl⟩
  exact Gr (Av C C)<|Ga C<|Ac<|Ap (S1 2)<|Az<|A1 C C I Ax ⟨by first|rfl|(simp;done)|exact absurd Z asm,rfl⟩
 exact eb<|eb<|eb<|eb<|Gr (Au C C)<|Ga C<|Ac<|Ap (S1 2)<|Az<|A1 C C I Ax ⟨by first|rfl|(simp;done)|exact absurd Z asm,rfl⟩
theorem RAsked_ok{nd:Int}{es:List Pt}(hl:Sl κ I (.slice ea es.length ec) es)(hm:Sl κ I (.slice Z (coreN nd es).length nc) (coreN nd es))(hG:GrOk nd es){u v:Int}(M:endsP nd u v)(hT:TabRd κ I 0 tzCells):eu prog κ 260 [.agg #[e7 nd,.slice ea es.length ec,.slice Z (coreN nd es).length nc],e7 u,e7 v] I (λr J=>r=e7 0/\I=J):=by
 refine Ce3 Tryz.func260 C C ?_
 refine Ad<|Ge1 (Bd (cs:=[_,_,_]) C C C) λb1=>Ga C<|Ac<|Ar<|A5<|Ad<|Gl3 ty40 ?_
 refine Gc0 (Aj c_ C C<|RepV_ok (nd:=nd) (A8 hl) (A8 hm) hG<|Bn hT Ax) ?_
 refine Gr (Cn C)<|Ga C<|Ac<|Dg C<|Ad<|Gf fld40_0 C<|Gf fld38_0 C<|Gl ef ?_
 refine Gm C<|Gm C<|Gc0 (Aj c_ C C<|Ends_ok nd u v) ?_
 refine Gr (Dc C)<|Ga C<|Ac<|Ap (S1 11)<|A7 C (λc11=>?_)<|λc11=>?_
 ·exact Ad<|Ga C<|Ac<|Az<|Ba<|Ao<|A1 C C I Ax ⟨by first|rfl|exact absurd M asm,rfl⟩
 exact Aw<|Am<|Ah<|Ad<|Ga C<|Ac<|Az<|A1 C C I Ax ⟨by first|rfl|exact absurd M asm,rfl⟩
theorem RInsert_ok{nd:Int}{es:List Pt}(hl:Sl κ I (.slice ea es.length ec) es)(hm:Sl κ I (.slice na (coreN nd es).length nc) (coreN nd es))(hG:GrOk nd es){u v:Int}(he:endsP nd u v)(hn:edgeP u v∉es)(hT:TabRd κ I 0 tzCells):eu prog κ 256 [.agg #[e7 nd,.slice ea es.length ec,.slice na (coreN nd es).length nc],e7 u,e7 v] I (λr J=>∃(ga:Option Addr) (gc:Nat) (a:Option Addr) (c:Nat) (w:Value),r = .tuple #[.agg #[e7 nd,.slice ga (insB Pt.lt es (edgeP u v)).length gc,.slice a (coreN nd (insB Pt.lt es (edgeP u v))).length c],w,e7 0]/\J=vk 3 a c (coreN nd (insB Pt.lt es (edgeP u v)))::vk 105 ga gc (insB Pt.lt es (edgeP u v))::I):=by
 refine Ce3 Tryz.func256 C C ?_
 refine Ad<|Ge1 (Bd (cs:=[_,_,_]) C C C) λb1=>Ge1 (A4 ty40 C) λb2=>Ga C<|Ga C<|Ac<|Ar<|Ad<|Gl3 ty40 ?_
 refine Gm C<|Gm C<|Gc0 (Aj c_ C C<|RAsked_ok (nd:=nd) (u:=u) (v:=v) (A8 hl) (A8 hm) hG he<|Bn hT Ax) ?_
 refine Ga C<|Ac<|Ad<|Gm C<|Gr (Be C C)<|Ac<|Ap (S6 19 9 6 3 1 2)<|A7 C (λad=>?_)<|λad=>?_
 ·refine Ad (Gr (Bq (cells:=[_,_,_]) ty40 Dy pl40 C C)<|Gm C<|Ge0 (Df ty40) ?_)
  refine Ga C<|Ga C<|Ac<|Az<|Ao ?_
  exact absurd rfl asm
 refine Aw<|Ah<|Ad<|Gf fld40_0 C<|Gl2 ty38 ?_
 refine Gm C<|Gm C<|G.e (Aj c_ C C<|AddG_yes (nd:=nd) (u:=u) (v:=v) (A8 hl) (add_zero hG he hn)<|by have:=edges_le hG;omega) ?_
 rintro _ _ ⟨_,_,⟨ab,M,rfl,rfl⟩,rfl,rfl⟩
 refine Gm C<|Gr (Ak C C)<|Gr (Ak C C)<|Ge1 (A4 ty38 C) λb5=>Ge0 (Cz ty38) ?_
 refine Ga C<|Ac<|Ap (S6 11 10 6 3 1 2)<|Ar<|Ad<|Gm C<|Gr (Be C C)<|Ac<|A7 C (λae=>?_)<|λae=>?_
 ·refine Ad (Gr (Bq (cells:=[_,_,_]) ty40 Dy pl40 C C)<|Gm C<|Ge0 (Df ty40) ?_)
  refine Ga C<|Ga C<|Ac<|Az<|Ao ?_
  exact absurd rfl asm
 refine Aw<|Ah<|Ad<|Gl3 ty40 ?_
 refine Gl2 ty38 ?_
 refine Gm C<|Gm C<|G.e (Aj c_ C C<|RIns_ok (nd:=nd) (u:=u) (v:=v) (A8 hl) (A8 hm) Bi (OneE.add hG he hn)<|Bn hT Ax) ?_
 rintro _ _ ⟨_,_,⟨Z,aa,w8,rfl,rfl⟩,rfl,rfl⟩
 refine Gm C<|Gr (Ak C C)<|Gr (Ak C C)<|Ge1 (A4 ty40 C) λb9=>Ge0 (Df ty40) ?_
 refine Ga C<|Ac<|Ap (S3 13 12 6)<|Ad<|Gl3 ty40 ?_
 refine Gm C<|Ge0 (Df ty40) ?_
 exact Ga C<|Ga C<|Ac<|Az<|Cy C ty40 C C C mm C (vk 3 Z aa (coreN nd<|insB Pt.lt es<|edgeP u v)::vk 105 ab M (insB Pt.lt es<|edgeP u v)::I) Bl ⟨ab,M,Z,aa,_,rfl,rfl⟩
theorem RDelete_ok{nd:Int}{es:List Pt}(hl:Sl κ I (.slice ea es.length ec) es)(hm:Sl κ I (.slice na (coreN nd es).length nc) (coreN nd es))(hG:GrOk nd es){u v:Int}(he:endsP nd u v)(hn:edgeP u v∈es)(hT:TabRd κ I 0 tzCells):eu prog κ 257 [.agg #[e7 nd,.slice ea es.length ec,.slice na (coreN nd es).length nc],e7 u,e7 v] I (λr J=>∃(ga:Option Addr) (gc:Nat) (a:Option Addr) (c:Nat) (w:Value),r = .tuple #[.agg #[e7 nd,.slice ga (without es (edgeP u v)).length gc,.slice a (coreN nd (without es (edgeP u v))).length c],w,e7 0]/\J=vk 3 a c (coreN nd (without es (edgeP u v)))::vk 105 ga gc (without es (edgeP u v))::I):=by
 refine Ce3 Tryz.func257 C C ?_
 refine Ad<|Ge1 (Bd (cs:=[_,_,_]) C C C) λb1=>Ge1 (A4 ty40 C) λb2=>Ga C<|Ga C<|Ac<|Ar<|Ad<|Gl3 ty40 ?_
 refine Gm C<|Gm C<|Gc0 (Aj c_ C C<|RAsked_ok (nd:=nd) (u:=u) (v:=v) (A8 hl) (A8 hm) hG he<|Bn hT Ax) ?_
 refine Ga C<|Ac<|Ad<|Gm C<|Gr (Be C C)<|Ac<|Ap (S6 19 9 6 3 1 2)<|A7 C (λad=>?_)<|λad=>?_
 ·refine Ad (Gr (Bq (cells:=[_,_,_]) ty40 Dy pl40 C C)<|Gm C<|Ge0 (Df ty40) ?_)
  refine Ga C<|Ga C<|Ac<|Az<|Ao ?_
  exact absurd rfl asm
 refine Aw<|Ah<|Ad<|Gf fld40_0 C<|Gl2 ty38 ?_
 refine Gm C<|Gm C<|Gc2 (Aj c_ C C<|RemG_yes (nd:=nd) (u:=u) (v:=v) (A8 hl) (rem_zero hG he hn)<|by have:=edges_le hG;omega) λab M=>?_
 refine Gm C<|Gr (Ak C C)<|Gr (Ak C C)<|Ge1 (A4 ty38 C) λb5=>Ge0 (Cz ty38) ?_
 refine Ga C<|Ac<|Ap (S6 11 10 6 3 1 2)<|Ar<|Ad<|Gm C<|Gr (Be C C)<|Ac<|A7 C (λae=>?_)<|λae=>?_
 ·refine Ad (Gr (Bq (cells:=[_,_,_]) ty40 Dy pl40 C C)<|Gm C<|Ge0 (Df ty40) ?_)
  refine Ga C<|Ga C<|Ac<|Az<|Ao ?_
  exact absurd rfl asm
 refine Aw<|Ah<|Ad<|Gl3 ty40 ?_
 refine Gl2 ty38 ?_
 refine Gm C<|Gm C<|G.e (Aj c_ C C<|RRem_ok (nd:=nd) (u:=u) (v:=v) (A8 hl) (A8 hm) Bi (OneE.rem hG he hn)<|Bn hT Ax) ?_
 rintro _ _ ⟨_,_,⟨Z,aa,w8,rfl,rfl⟩,rfl,rfl⟩
 refine Gm C<|Gr (Ak C C)<|Gr (Ak C C)<|Ge1 (A4 ty40 C) λb9=>Ge0 (Df ty40) ?_
 refine Ga C<|Ac<|Ap (S3 13 12 6)<|Ad<|Gl3 ty40 ?_
 refine Gm C<|Ge0 (Df ty40) ?_
 exact Ga C<|Ga C<|Ac<|Az<|Cy C ty40 C C C mm C (vk 3 Z aa (coreN nd<|without es<|edgeP u v)::vk 105 ab M (without es<|edgeP u v)::I) Bl ⟨ab,M,Z,aa,_,rfl,rfl⟩
end Go.Sl
namespace Go.Sl
section
variable {ys:List Int}{m:Nat}{k:Int}
theorem srt_le(hs:ys.Pairwise λa b=>a<=b){i j:Nat}(M:i<=j)(Z:j<ys.length):e_ ys i<=e_ ys j:=by
 by_cases e:i=j
 ·subst e;exact Int.le_refl _
 rw [at_get ys i (by omega),at_get ys j Z]
 exact (List.pairwise_iff_getElem.1 hs) i j (by omega) Z<|by omega
theorem srt_cnt_ge(hs:ys.Pairwise λa b=>a<=b)(hm:m<ys.length)(h:k<=e_ ys m):ys.length - m<=(ys.filter λx=>decide (k<=x)).length:=by
 have h1:(ys.drop m).filter (λx=>decide<|k<=x)=ys.drop m:=List.filter_eq_self.2 λx Z=>by
  obtain ⟨i,hi,rfl⟩:=List.getElem_of_mem Z
  rw [length_drop] at hi
  rw [List.getElem_drop,←at_get ys (m+i) (by omega)]
  have:=srt_le hs (i:=m) (j:=m+i) (by omega) (by omega)
  exact decide_eq_true<|by omega
 have M:ys.filter (λx=>decide<|k<=x)=(ys.take m).filter (λx=>decide<|k<=x)++(ys.drop m).filter (λx=>decide<|k<=x):=by rw [←List.filter_append,List.take_append_drop]
 rw [M,h1,length_append,length_drop];omega
theorem srt_cnt_le(hs:ys.Pairwise λa b=>a<=b)(hm:m<ys.length)(h:e_ ys m<k):(ys.filter λx=>decide (k<=x)).length<=ys.length - 1 - m:=by
 have h1:(ys.take<|m+1).filter (λx=>decide<|k<=x)=[]:=List.filter_eq_nil_iff.2 λx M=>by
  obtain ⟨i,hi,rfl⟩:=List.getElem_of_mem M
  rw [length_take] at hi
  rw [List.getElem_take,←at_get ys i (by omega)]
  have:=srt_le hs (i:=i) (j:=m) (by omega) (by omega)
  simp;omega
 have h2:ys.filter (λx=>decide<|k<=x)=(ys.take<|m+1).filter (λx=>decide<|k<=x)++(ys.drop<|m+1).filter (λx=>decide<|k<=x):=by rw [←List.filter_append,List.take_append_drop]
 have Z:=List.length_filter_le (λx=>decide<|k<=x) (ys.drop<|m+1)
 rw [length_drop] at Z
 rw [h2,h1,nil_append];omega
theorem hi_of{xs:List Int}{h:Nat}(hp:ys.Perm xs)(hs:ys.Pairwise λa b=>a<=b)(hh:h<=ys.length)(Z:0<h->(h:Int) - 1<e_ ys (((ys.length - h:Nat)):Int))(M:h<ys.length->e_ ys (((ys.length - 1 - h:Nat)):Int)<=h):HI xs h:=by
 have hf:∀k:Int,((xs.filter λx=>decide<|k<=x).length:Int)=((ys.filter λx=>decide<|k<=x).length:Int):=λk=>by rw [(hp.filter _).length_eq]
 refine ⟨by omega,?_,λk hk=>?_⟩
 ·rw [hf]
  by_cases h0:h=0
  ·omega
  have:=srt_cnt_ge hs (m:=ys.length - h) (k:=(h:Int)) (by omega) (by have:=Z (by omega);omega)
  omega
 rw [hf] at hk
 refine Classical.byContradiction λhlt=>?_
 by_cases hl:h<ys.length
 ·have:=srt_cnt_le hs (m:=ys.length - 1 - h) (k:=k) (by omega) (by have:=M hl;omega)
  omega
 have:=List.length_filter_le (λx=>decide<|k<=x) ys
 omega
end
end Go.Sl
namespace Go.Sl
open Go.Proofs
set_option maxRecDepth 4000
theorem H_ok{κ:Ctx}{I:List Item}{a0:Option Addr}{c0:Nat}{xs:List Int}(hl:Sl κ I (.slice a0 xs.length c0) xs)(hb:xs.length<=1000000):eu prog κ 291 [.slice a0 xs.length c0] I (λr J=>∃h:Nat,r=e7 (h:Int)/\HI xs h/\I=J):=by
 have M:=sortZ_len xs
 refine Ce1 Tryz.func291 C C ?_
 refine Ad<|Ga C<|Ac<|Ad<|Gm C<|Gc2 (Aj c_ C C<|CloneI (xs:=xs) (A8 hl) om) λad ae=>?_
 refine Ga C<|Ac<|Ad<|Gm C<|Gc1 (Aj c_ C C<|Cp (J:=vk 3 ad ae xs::I) Bl<|sortI_ok om) ?_
 refine Ac<|Ad<|Ga C<|Ac<|Ar<|A5<|B1 (σ:=Nat) (λs=>([(0,.slice ad xs.length ae),(3,e7 ((s:Nat):Int))]:Env)) (λs=>vc 3 (.slice ad xs.length ae) (sortZ xs)::I) (λs=>(s<=xs.length)/\(0<s->(s:Int) - 1<e_ (sortZ xs) (((xs.length - s:Nat)):Int))) (λs=>xs.length - s) 0 ⟨om,(λh=>absurd h om)⟩ (Aa C<|Aa Cd Bp) Bg ?_
 rintro h hp
 obtain ⟨hh,ab⟩:=hp
 have ai:h<xs.length->(((xs.length - (h+1):Nat)):Int)=(xs.length:Int) - 1 - (h:Int):=λh=>by omega
 have aa:h<xs.length->(((xs.length - 1 - h:Nat)):Int)=(xs.length:Int) - 1 - (h:Int):=λh=>by omega
 refine Ar<|Ad<|Gm C<|Gm C<|Gr (Bk Af C)<|Gr (A9 C C)<|Gm C<|Bh (d:=12) C (λah=>?_)<|λah=>?_
 ·refine e9 (Ai C) (e9 (Ai C)<|e9 (Bk Af C)<|e9 (Rsu C C)<|e9 (Ai C)<|e9 (Rsu C C)<|e9 (A3 (α:=Int) (xs:=sortZ xs) Af ef C C Bi om om)<|e9 (Bx (xs:=sortZ xs) ef C Bi om om)<|e9 (Ai C)<|e9 (B2 C C)<|Gr (Av C C)<|Ac<|Ap (S3 23 0 3)<|A7 C (λaj=>?_)<|λaj=>?_)
  ·exact Aw<|Ah<|A5<|Ay<|Gm C<|Gr (Rad C C)<|Ga C<|Bj<|Am<|Cb ((h+1)) ⟨om,(λ_=>by rw [ai om];omega)⟩
  exact Bt<|Aq<|Aq<|Bb<|Ah<|Ad<|Gm C<|Ga C<|Ac<|Az<|A1 C C I Ax ⟨h,rfl,hi_of (sortZ_perm xs) (sortZ_asc xs) om (λZ=>by rw [M];exact ab Z)<|λZ=>by rw [M] at Z ⊢; rw [aa Z];omega,rfl⟩
 exact eb<|eb<|eb<|eb<|eb<|eb<|eb<|eb<|eb<|eb<|Gr (Au C C)<|Ac<|Ap (S3 23 0 3)<|Dg C<|Bt<|Aq<|Aq<|Bb<|Ah<|Ad<|Gm C<|Ga C<|Ac<|Az<|A1 C C I Ax ⟨h,rfl,hi_of (sortZ_perm xs) (sortZ_asc xs) om (λZ=>by rw [M];exact ab Z)<|λZ=>by rw [M] at Z ⊢; rw [aa Z];omega,rfl⟩
end Go.Sl
namespace Go.Sl
section
variable {α:Type}[Enc α]{κ:Ctx}{I:List Item}
theorem Fit.dropvc{e:TypeId}{a:Option Addr}{n c k:Nat}{xs:List α}(hn:n=xs.length)(hk:k<=xs.length):Fit κ (vc e (.slice a n c) xs::I) (vc e (.slice (adrop a c k (Enc.sz α)) (xs.drop k).length (c - k)) (xs.drop k)::I):=by
 subst hn
 refine Fit.upd (At.head _ _ _) λw h=>⟨?_,λj ⟨o,m,c',hv,hc⟩=>?_⟩
 ·obtain ⟨a',cap,hv,h1,h2,h3,h4⟩:=h
  cases hv
  refine ⟨_,c - k,rfl,cells_length _,by rw [length_drop];omega,by omega,λhc=>?_⟩
  obtain ⟨b,off,M,Z,hb,h5,h6⟩:=h4 (by omega)
  refine ⟨b,off+k*Enc.sz α,M,by rw [Z];unfold adrop;rw [if_neg (by omega)];simp [addr_add],hb,?_,λj u hj=>?_⟩
  ·have e1:(c - k)*Enc.sz α+k*Enc.sz α=c*Enc.sz α:=by rw [←Nat.add_mul];congr 1;omega
   omega
  rw [cells_drop,List.getElem?_drop] at hj
  rw [Nat.add_assoc]
  exact h6 _ u hj
 injection hv with Z hm hcc
 subst hcc
 unfold adrop at Z
 rw [if_neg (by omega)] at Z
 obtain ⟨a',cap,hv,h1,h2,h3,h4⟩:=h
 cases hv
 obtain ⟨b,off,M,h5,hb,_⟩:=h4 (by omega)
 subst h5
 simp only [Option.map_some,Option.some.injEq,addr_add] at Z
 injection Z with hb1
 subst hb1
 exact ⟨off,_,c,rfl,by omega⟩
end
end Go.Sl
namespace Go.Sl
open Go.Proofs
set_option maxRecDepth 4000
variable{b ec nc:Nat}{qs:List Int}{nd:Int}{ea:Option Addr}{es:List Pt}
variable {κ:Ctx}{I:List Item}
theorem QPut_ok{la:Option Addr}{lc:Nat}{i:Int}(hb:qs.length<=1000000000):eu prog κ 292 [e7 i,(pt b)] (vk 3 la lc qs::e8 b [.slice la qs.length lc] 22::I) (λr J=>∃(a:Option Addr) (c:Nat),r = .tuple #[]/\J=vk 3 a c (qs++[i])::e8 b [.slice a (qs++[i]).length c] 22::I):=by
 refine Ce2 Tryz.func292 C C ?_
 refine Ay<|Gl ty22 ?_
 refine Gm C<|Ge1 (Ce (α:=Int) (cs:=[_]) (xs:=[i]) Af ef C C dc dc C C C C) λaa=>?_
 refine Ge2 (B3 (α:=Int) (e:=3) (xs:=qs) (ys:=([i]:List Int)) Af ef C C C mm Bi lcn dc C<|λ_ _=>am) λM Z=>?_
 refine Ge0 (B6 (cs:=[_]) (vs:=[_]) (cs':=[_]) ty22) ?_
 exact Bj<|V.end0 C (vk 3 M Z (qs++[i])::e8 b [.slice M (qs++[i]).length Z] 22::I) Bl ⟨M,Z,rfl,rfl⟩
theorem QTake_ok{M:Option Addr}{Z:Nat}(hb:qs.length<=1000000000):eu prog κ 293 [(pt b)] (vk 3 M Z qs::e8 b [.slice M qs.length Z] 22::I) (λr J=>(qs=[]/\r = .tuple #[e7 0,.bool false]/\J=vk 3 M Z qs::e8 b [.slice M qs.length Z] 22::I)\/(0<qs.length/\∃(a:Option Addr) (c:Nat),r = .tuple #[e7 (e_ qs 0),.bool true]/\J=vk 3 a c (qs.drop 1)::e8 b [.slice a (qs.drop 1).length c] 22::I)):=by
 refine Ce1 Tryz.func293 C C ?_
 refine Ad<|Ga C<|Ga C<|Ac<|Ar<|Ad<|Gl ty22 ?_
 refine Gr (Bk Af C)<|Gr (Br C C)<|Ac<|A7 C (λc6=>?_)<|λc6=>?_
 ·exact Ad<|Ga C<|Ga C<|Ac<|Az<|Ao<|C2 C C C (vk 3 M Z qs::e8 b [.slice M qs.length Z] 22::I) Bl<|.inl ⟨List.length_eq_zero_iff.1 om,rfl,rfl⟩
 refine Aw<|Ah<|Ad<|Gl ty22 ?_
 refine Gr (A3 (α:=Int) (xs:=qs) Af ef C C Bi om om)<|Gr (Bx (xs:=qs) ef C Bi om om)<|Ga C<|Ac<|Ad<|Gl ty22 ?_
 refine Gr (D0 (α:=Int) (xs:=qs) (l:=1) Af ef C C om Bi om)<|Ge0 (B6 (cs:=[_]) (vs:=[_]) (cs':=[_]) ty22) ?_
 exact Ac<|Ad<|Gm C<|Ga C<|Ga C<|Ac<|Ap (S2 2 1)<|Az<|C2 C C C (vc 3 (.slice (adrop M Z 1<|Enc.sz Int) (List.drop 1 qs).length (Z - 1)) (qs.drop 1)::e8 b [.slice (adrop M Z 1<|Enc.sz Int) (List.drop 1 qs).length (Z - 1)] 22::I) (Co Bl<|Fit.dropvc (α:=Int) C om)<|.inr ⟨by omega,(adrop M Z 1<|Enc.sz Int),(Z - 1),rfl,rfl⟩
theorem Queue_ok  :
    eu prog κ 290 [] I (λr J=>∃b:Nat,r = .tuple #[.func (.func 292) #[] #[(pt b)],.func (.func 293) #[] #[(pt b)]]/\J=vk 3 none 0 ([]:List Int)::e8 b [.slice none ([]:List Int).length 0] 22::I):=by
 refine Ce0 Tryz.func290 C C ?_
 exact Ad<|Ga C<|Ga C<|Ac<|Ad<|Ge1 (A4 ty22 C) λb1=>Ac<|Ad<|Gr (D3 C C)<|Ga C<|Ac<|Ad<|Gr (D3 C C)<|Ga C<|Ac<|Ad<|Gm C<|Gm C<|Ga C<|Ga C<|Ac<|Az<|C2 C C C (vk 3 none 0 ([]:List Int)::e8 b1 [.slice none ([]:List Int).length 0] 22::I) (Co Bl<|Cf (α:=Int) _ _) ⟨b1,rfl,rfl⟩
variable {κ:Ctx}{I:List Item}
theorem MV_ok{na:Option Addr}(hl:Sl κ I (.slice ea es.length ec) es)(hm:Sl κ I (.slice na (trussG nd es).length nc) (trussG nd es))(hG:GrOk nd es)(hT:TabRd κ I 0 tzCells):eu prog κ 285 [.agg #[e7 nd,.slice ea es.length ec,.slice na (trussG nd es).length nc]] I (λr J=>r = .bool true/\I=J):=by
 have Z:=checkG_ok.2 hG
 have ab:=edges_le hG
 refine Ce1 Tryz.func285 C C ?_
 refine Ad<|Ge1 (Bd (cs:=[_,_,_]) C C C) λb1=>Ga C<|Ac<|Ad<|Gf fld41_0 C<|Gl2 ty38 ?_
 refine G.e (Aj c_ C C<|TNumbers_ok (nd:=nd) (A8 hl) om<|Bn hT Ax) ?_
 rintro _ _ ⟨_,_,⟨ad,aa,rfl,rfl⟩,rfl,rfl⟩
 refine Gm C<|Gr (Ak C C)<|Gr (Ak C C)<|Ga C<|Ga C<|Ac<|Ad<|Gm C<|Gr (Br C C)<|Gm C<|Bh (d:=13) C (λM=>?_)<|λM=>?_
 ·refine e9 (Ai C) (e9 (Ab fld41_1 C)<|e9 (A0 ty22) ?_)
  refine Dx (Cq C C C) (Aj c_ C C<|EqN_ok (xs:=trussG nd es) (ys:=trussG nd es) Bi<|A8 hm) ?_
  rintro _ _ ⟨_,_,⟨rfl,rfl⟩,rfl,rfl⟩
  exact Gr (Av C C)<|Ga C<|Ac<|Ap (S1 2)<|Az<|A1 C C I Ax ⟨by first|rfl|(simp;done)|exact absurd Z asm,rfl⟩
 exact eb<|eb<|eb<|eb<|Gr (Au C C)<|Ga C<|Ac<|Ap (S1 2)<|Az<|A1 C C I Ax ⟨by first|rfl|(simp;done)|exact absurd Z asm,rfl⟩
theorem MAsked_ok{Z:Option Addr}(hl:Sl κ I (.slice ea es.length ec) es)(hm:Sl κ I (.slice Z (trussG nd es).length nc) (trussG nd es))(hG:GrOk nd es){u v:Int}(M:endsP nd u v)(hT:TabRd κ I 0 tzCells):eu prog κ 286 [.agg #[e7 nd,.slice ea es.length ec,.slice Z (trussG nd es).length nc],e7 u,e7 v] I (λr J=>r=e7 0/\I=J):=by
 refine Ce3 Tryz.func286 C C ?_
 refine Ad<|Ge1 (Bd (cs:=[_,_,_]) C C C) λb1=>Ga C<|Ac<|Ar<|A5<|Ad<|Gl3 ty41 ?_
 refine Gc0 (Aj c_ C C<|MV_ok (nd:=nd) (A8 hl) (A8 hm) hG<|Bn hT Ax) ?_
 refine Gr (Cn C)<|Ga C<|Ac<|Dg C<|Ad<|Gf fld41_0 C<|Gf fld38_0 C<|Gl ef ?_
 refine Gm C<|Gm C<|Gc0 (Aj c_ C C<|Ends_ok nd u v) ?_
 refine Gr (Dc C)<|Ga C<|Ac<|Ap (S1 11)<|A7 C (λc11=>?_)<|λc11=>?_
 ·exact Ad<|Ga C<|Ac<|Az<|Ba<|Ao<|A1 C C I Ax ⟨by first|rfl|exact absurd M asm,rfl⟩
 exact Aw<|Am<|Ah<|Ad<|Ga C<|Ac<|Az<|A1 C C I Ax ⟨by first|rfl|exact absurd M asm,rfl⟩
theorem MOpen_ok(hl:Sl κ I (.slice ea es.length ec) es)(hG:GrOk nd es)(hT:TabRd κ I 0 tzCells):eu prog κ 42 [.agg #[e7 nd,.slice ea es.length ec]] I (λr J=>∃(ga:Option Addr) (gc:Nat) (a:Option Addr) (c:Nat),r = .tuple #[.agg #[e7 nd,.slice ga es.length gc,.slice a (trussG nd es).length c],e7 0]/\J=vk 3 a c (trussG nd es)::vk 105 ga gc es::I):=by
 have ad:=checkG_ok.2 hG
 have ae:=edges_le hG
 refine Ce1 Tryz.func42 C C ?_
 refine Ad<|Ge1 (Bd (cs:=[_,_]) C C C) λb1=>Ge1 (A4 ty41 C) λb2=>Ga C<|Ac<|Ad<|Gl2 ty38 ?_
 refine G.e (Aj c_ C C<|TNumbers_ok (nd:=nd) (A8 hl) om<|Bn hT Ax) ?_
 rintro _ _ ⟨_,_,⟨ab,Z,rfl,rfl⟩,rfl,rfl⟩
 refine Gm C<|Gr (Ak C C)<|Gr (Ak C C)<|Ga C<|Ga C<|Ac<|Ar<|Ad<|Gm C<|Gr (Be C C)<|Ac<|A7 C (λc12=>?_)<|λc12=>?_
 ·refine Ad (Gr (Bq (cells:=[_,_,_]) ty41 Dd pl41 C C)<|Gm C<|Ge0 (Df ty41) ?_)
  exact Ga C<|Ac<|Ap (S2 3 2)<|Az<|Ao<|C0 C ty41 C C mm C I Ax<|by exfalso;first|exact absurd ad asm|omega
 refine Aw<|Ah<|Ar<|Bs mixed<|El 8<|Dr 0 C (Ab fld38_0 C)<|Dr 1 C (A0 ef) ?_
 refine Dr 2 C (Ab fld38_1 C)<|Dr 3 C (A0 ty36) ?_
 refine Dr 6 C (Ai C)<|Ds1 4<|Sc2 C (Aj c_ C C<|CloneE (xs:=es) (A8 hl) om) λM aa=>?_
 refine Dr 5 C (Bq (cells:=[_,_]) ty38 Da pl38 C C)<|Dr 7 C (Bq (cells:=[_,_,_]) ty41 Dd pl41 C C)<|Cs kr ?_
 refine Ae 8 C (Df ty41) ?_
 rintro _ _ ⟨rfl,rfl⟩
 refine Dv (i:=9) kr C (Bm C) C C (Bf C) ?_
 refine Ct kr ?_
 exact Ah<|Ap (S2 3 2)<|Az<|C0 C ty41 C C mm C (vk 3 ab Z (trussG nd es)::vk 105 M aa es::I) Bl ⟨M,aa,ab,Z,rfl,rfl⟩
end Go.Sl
