/- A part of the proofs of statements of this seat: contracts of functions, and the plain laws that they lean on. No conditions. -/
import Derived.Test.YtoagcglbkeomgaaGreatDoorQ16
set_option linter.unusedVariables false
set_option linter.unusedSimpArgs false
set_option linter.unusedSectionVars false
open Go.Proofs.Tryz (prog)
namespace Go.Sl
open Go.Proofs
set_option maxRecDepth 4000
variable{k nd u v x:Int}{es:List Pt}{L num out:List Int}{j:Nat}
def NBX(nd:Int)(es:List Pt)(u v x y:Int):Prop:=y∈nbG nd es x\/(x=u/\y=v)\/(x=v/\y=u)
def rowsU(nd:Int)(es:List Pt)(u v:Int):List (BitVec 64):=List.set (List.set (ek nd es) u.toNat (e_ (ek nd es) u ||| bitB v)) v.toNat (e_ (List.set (ek nd es) u.toNat (e_ (ek nd es) u ||| bitB v)) v ||| bitB u)
theorem rowsU_mem(Z:GrOk nd es)(hu:NodeR nd u)(hv:NodeR nd v)(aa:u≠v){y:Int}(M:NodeR nd x):y∈eo (e_ (rowsU nd es u v) x)↔NBX nd es u v x y:=by
 unfold NodeR at hu hv M
 have hl:=Z.rows.len
 have hr:=Z.rng
 have hb:y∈eo (e_ (ek nd es) x)↔y∈nbG nd es x:=by
  rw [Z.rows.mem M.1 M.2,mem_nb Z]
  refine ⟨λh=>h.2,λh=>⟨?_,h⟩⟩
  have:=nbe_rng Z ((mem_nb Z).2 h);omega
 unfold rowsU NBX
 rw [Ef _ v x _ hv.1 M.1 (by rw [List.length_set];omega)]
 by_cases q1:v=x
 ·rw [if_pos q1,mem_orBit om,Ef _ u v _ hu.1 hv.1 om,if_neg aa,q1,hb]
  constructor
  ·rintro (h|h)
   ·exact .inl h
   exact .inr<|.inr ⟨rfl,h⟩
  rintro (h|h|h)
  ·exact .inl h
  ·omega
  exact .inr h.2
 rw [if_neg q1,Ef _ u x _ hu.1 M.1 om]
 by_cases q2:u=x
 ·rw [if_pos q2,mem_orBit om,q2,hb]
  constructor
  ·rintro (h|h)
   ·exact .inl h
   exact .inr<|.inl ⟨rfl,h⟩
  rintro (h|h|h)
  ·exact .inl h
  ·exact .inr h.2
  omega
 rw [if_neg q2,hb]
 constructor
 ·exact .inl
 rintro (h|h|h)
 ·exact h
 ·exact absurd h.1.symm q2
 exact absurd h.1.symm q1
structure RgI (NB:Int->Int->Prop) (P:Int->Prop) (L1:List Int) (F:BitVec 64) (sk:List Int):Prop where
 lev:∀x∈eo F,P x
 seed:∀x∈L1,x∈eo F
 st:∀x∈sk,x∈eo F
 cl:∀x∈eo F,x∈sk\/∀y,NB x y->P y->y∈eo F
section
variable {NB:Int->Int->Prop}{P:Int->Prop}{L1 L2 st:List Int}{F F2:BitVec 64}
theorem RgI.pop(h:RgI NB P L1 F st)(h0:0<st.length)(hL:∀y,y∈L2↔NB (e_ st ((st.length:Int) - 1)) y/\P y/\y∉eo F)(Z:∀x,x∈eo F2↔x∈eo F\/x∈L2):RgI NB P L1 F2 (st.take (st.length - 1)++L2):=by
 refine ⟨λx hx=>?_,λx hx=>(Z x).2 (.inl<|h.seed x hx),λx hx=>?_,λx hx=>?_⟩
 ·rcases (Z x).1 hx with hx|hx
  ·exact h.lev x hx
  exact ((hL x).1 hx).2.1
 ·rcases List.mem_append.1 hx with hx|hx
  ·exact (Z x).2 (.inl<|h.st x<|List.mem_of_mem_take hx)
  exact (Z x).2 (.inr hx)
 rcases (Z x).1 hx with hx|hx
 ·rcases h.cl x hx with hq|hq
  ·by_cases e:x=e_ st ((st.length:Int) - 1)
   ·refine .inr λy hy M=>?_
    by_cases hyF:y∈eo F
    ·exact (Z y).2 (.inl hyF)
    exact (Z y).2 (.inr<|(hL y).2 ⟨e▸hy,M,hyF⟩)
   refine .inl<|List.mem_append_left _ ?_
   obtain ⟨i,hi,rfl⟩:=List.getElem_of_mem hq
   have aa:i≠st.length - 1:=λq=>e (by rw [show ((st.length:Int) - 1)=((st.length - 1:Nat):Int) by omega,Cy st _ om];congr 1)
   rw [List.mem_iff_getElem]
   exact ⟨i,by rw [List.length_take];omega,by rw [List.getElem_take]⟩
  exact .inr λy hy M=>(Z y).2 (.inl<|hq y hy M)
 exact .inl<|List.mem_append_right _ hx
theorem rg_more(hF:∀x,x∈eo F2↔x∈eo F\/x∈L2)(hn:L2.Nodup)(M:∀x∈L2,x∉eo F):(eo F2).length=(eo F).length+L2.length:=by
 have Z:(eo F2).Perm (eo F++L2):=(List.perm_ext_iff_of_nodup (Dh _)<|List.nodup_append.2 ⟨Dh _,hn,λa ha b hb e=>M b hb<|e▸ha⟩).2 λx=>by rw [hF,List.mem_append]
 rw [Z.length_eq,List.length_append]
end
theorem or_take{F F2:BitVec 64}(Z:j<L.length)(M:∀x∈L,0<=x/\x<64)(h:∀x,x∈eo F2↔x∈eo F\/x∈L.take j):∀x,x∈eo (F2 ||| bitB (e_ L j))↔x∈eo F\/x∈L.take (j+1):=λx=>by
 rw [mem_orBit (M _<|Ca om om),h,Cl L j Z,List.mem_append,List.mem_singleton,or_assoc]
theorem app_take{st:List Int}(Z:j<L.length)(ho:out=st++L.take j):out++[e_ L j]=st++L.take (j+1):=by rw [ho,Cl L j Z,List.append_assoc]
theorem mem_bitB(h:0<=k/\k<64):x∈eo (bitB k)↔x=k:=by
 have Z:=mem_orBit (m:=0#64) (u:=x) h
 rw [D0] at Z
 have e:(0#64 ||| bitB k)=bitB k:=by simp
 rw [e] at Z
 rw [Z]
 exact ⟨λh=>h.elim (λh=>by cases h) id,.inr⟩
theorem rg_start{NB:Int->Int->Prop}{P:Int->Prop}{L1:List Int}{F:BitVec 64}(hF:∀x,x∈eo F↔x∈eo 0#64\/x∈L1)(ho:out=L1)(hP:∀x∈L1,P x):RgI NB P L1 F out:=by
 have M:∀x,x∈eo F↔x∈L1:=λx=>by rw [hF,D0];simp
 subst ho
 exact ⟨λx Z=>hP x<|(M x).1 Z,λx Z=>(M x).2 Z,λx Z=>(M x).2 Z,λx Z=> .inl<|(M x).1 Z⟩
structure RegX (nd:Int) (es:List Pt) (num:List Int) (u v k:Int) (F:BitVec 64):Prop where
 lev:∀x∈eo F,NodeR nd x/\e_ num x=k
 hu:e_ num u=k->u∈eo F
 hv:e_ num v=k->v∈eo F
 cl:∀x∈eo F,∀y,NBX nd es u v x y->e_ num y=k->y∈eo F
theorem RgI.reg{F ms:BitVec 64}{st:List Int}(hG:GrOk nd es)(hl:(num.length:Int)=nd)(hu:NodeR nd u)(hv:NodeR nd v)
  (hm:∀x,x∈eo ms↔(0<=x/\x<(num.length:Int))/\e_ num x=k) (h:RgI (NBX nd es u v) (λx:Int=>(0<=x/\x<(num.length:Int))/\e_ num x=k) (eo<|(bitB u ||| bitB v) &&& ms) F st) (hs:st.length=0):RegX nd es num u v k F:=by
 unfold NodeR at hu hv
 have hr:=hG.rng
 obtain rfl:=List.length_eq_zero_iff.1 hs
 refine ⟨λx hx=>?_,λM=>h.seed u ?_,λM=>h.seed v ?_,λx hx y Z aa=>?_⟩
 ·have:=h.lev x hx;unfold NodeR;exact ⟨by omega,this.2⟩
 ·rw [mem_andB,mem_orB2,mem_bitB om,hm];exact ⟨.inl rfl,by omega,M⟩
 ·rw [mem_andB,mem_orB2,mem_bitB (k:=v) om,hm];exact ⟨.inr rfl,by omega,M⟩
 refine ((h.cl x hx).resolve_left (by simp)) y Z ⟨?_,aa⟩
 rcases Z with q|q|q
 ·have:=(nbe_rng hG q).2.1;omega
 ·omega
 omega
set_option maxHeartbeats 2000000 in
theorem Region_ok{κ:Ctx}{I:List Item}{ea na:Option Addr}{ec nc:Nat}(hl:Sl κ I (.slice ea es.length ec) es)(hm:Sl κ I (.slice na num.length nc) num)(hG:GrOk nd es)(au:(num.length:Int)=nd)(hu:NodeR nd u)(hv:NodeR nd v)(a0:u≠v)(hT:TabRd κ I 0 tzCells):eu prog κ 270 [.agg #[e7 nd,.slice ea es.length ec,.slice na num.length nc],e7 u,e7 v] I (λr J=>∃F:BitVec 64,r = .tuple #[U64 F,e7 (min (e_ num u) (e_ num v))]/\RegX nd es num u v (min (e_ num u) (e_ num v)) F/\I=J):=by
 have ba:=hG.rng
 have bf:=hG.rows.len
 have bk:0<=u/\u<nd:=hu
 have bc:0<=v/\v<nd:=hv
 have bg:(rowsU nd es u v).length=(ek nd es).length:=by unfold rowsU;rw [List.length_set,List.length_set]
 refine Ce3 Tryz.func270 C C ?_
 refine Af<|Ge1 (Bc (cs:=[_,_,_]) C C C) λb1=>Ga C<|Ga C<|Ad<|Af<|Gf fld40_0 C<|Gl2 ty38 ?_
 refine G.e (Aj c_ C C<|MRows_ok (nd:=nd)<|A6 hl) ?_
 rintro _ _ ⟨_,_,⟨aa,ab,rfl,rfl⟩,rfl,rfl⟩
 have ay:=rowsB_len nd es
 refine Ga C<|Ad<|Ap<|Bq mixed<|Ee 8<|Dr 0 C (Ai C)<|Dr 1 C (Ai C)<|Dr 2 C (Az (α:=(BitVec 64)) (xs:=ek nd es) B3 ty207 C C Bh (by first|omega|(have h1:=(M om).1;unfold NodeR at h1;omega))<|by first|omega|(simp only [List.length_set];omega)|(have h1:=(M om).1;unfold NodeR at h1;omega))<|Dr 3 C (B4 (α:=(BitVec 64)) (xs:=ek nd es) (u:=U64 ((e_ (ek nd es) u))) ty207 C Bh (by first|omega|(have h1:=(M om).1;unfold NodeR at h1;omega)) (by first|omega|(simp only [List.length_set];omega)|(have h1:=(M om).1;unfold NodeR at h1;omega)) C)<|Dr 4 C (Ai C)<|Ds1 5<|Se C (Aj c_ C C<|Bit_ok v) ?_
 rintro _ _ ⟨_,_,⟨rfl,rfl⟩,rfl,rfl⟩
 refine ⟨Av,?_⟩
 refine Dr 6 C (D8 (a:=(e_ (ek nd es) u)) (b:=bitB v) C C)<|Dr 7 C (Az (α:=(BitVec 64)) (xs:=ek nd es) B3 ty207 C C Bh (by first|omega|(have h1:=(M om).1;unfold NodeR at h1;omega))<|by first|omega|(simp only [List.length_set];omega)|(have h1:=(M om).1;unfold NodeR at h1;omega))<|Ct kr ?_
 refine Ae 8 C (Cx (α:=(BitVec 64)) (xs:=ek nd es) (e:=207) (new:=(e_ (ek nd es) u) ||| (bitB v)) ty207 C C C (by first|omega|(have h1:=(M om).1;unfold NodeR at h1;omega)) (by first|omega|(simp only [List.length_set];omega)|(have h1:=(M om).1;unfold NodeR at h1;omega)) am) ?_
 rintro _ _ ⟨rfl,rfl⟩
 refine Cu kr ?_
 refine Ah<|Am (S4 8 3 1 2 C C C C)<|Ap<|Bq mixed<|Ee 8<|Dr 0 C (Ai C)<|Dr 1 C (Ai C)<|Dr 2 C (Az (α:=(BitVec 64)) (xs:=List.set (ek nd es) (u).toNat ((e_ (ek nd es) u) ||| (bitB v))) B3 ty207 C C Bh (by first|omega|(have h1:=(M om).1;unfold NodeR at h1;omega))<|by first|omega|(simp only [List.length_set];omega)|(have h1:=(M om).1;unfold NodeR at h1;omega))<|Dr 3 C (B4 (α:=(BitVec 64)) (xs:=List.set (ek nd es) (u).toNat ((e_ (ek nd es) u) ||| (bitB v))) (u:=U64 ((e_ (List.set (ek nd es) (u).toNat ((e_ (ek nd es) u) ||| (bitB v))) v))) ty207 C Bh (by first|omega|(have h1:=(M om).1;unfold NodeR at h1;omega)) (by first|omega|(simp only [List.length_set];omega)|(have h1:=(M om).1;unfold NodeR at h1;omega)) C)<|Dr 4 C (Ai C)<|Ds1 5<|Se C (Aj c_ C C<|Bit_ok u) ?_
 rintro _ _ ⟨_,_,⟨rfl,rfl⟩,rfl,rfl⟩
 refine ⟨Av,?_⟩
 refine Dr 6 C (D8 (a:=(e_ (List.set (ek nd es) (u).toNat ((e_ (ek nd es) u) ||| (bitB v))) v)) (b:=bitB u) C C)<|Dr 7 C (Az (α:=(BitVec 64)) (xs:=List.set (ek nd es) (u).toNat ((e_ (ek nd es) u) ||| (bitB v))) B3 ty207 C C Bh (by first|omega|(have h1:=(M om).1;unfold NodeR at h1;omega))<|by first|omega|(simp only [List.length_set];omega)|(have h1:=(M om).1;unfold NodeR at h1;omega))<|Ct kr ?_
 refine Ae 8 C (Cx (α:=(BitVec 64)) (xs:=List.set (ek nd es) (u).toNat ((e_ (ek nd es) u) ||| (bitB v))) (e:=207) (new:=(e_ (List.set (ek nd es) (u).toNat ((e_ (ek nd es) u) ||| (bitB v))) v) ||| (bitB u)) ty207 C C C (by first|omega|(have h1:=(M om).1;unfold NodeR at h1;omega)) (by first|omega|(simp only [List.length_set];omega)|(have h1:=(M om).1;unfold NodeR at h1;omega)) am) ?_
 rintro _ _ ⟨rfl,rfl⟩
 refine Cu kr ?_
 refine Ah<|Ap<|Bq mixed<|Ee 12<|Dr 0 C (Ac fld40_1 C)<|Dr 1 C (A7 ty22) ?_
 refine Dr 2 C (Ai C)<|Dr 3 C (Az (α:=Int) (xs:=num) Ab ef C C (A6 hm) (by first|omega|(have h1:=(M om).1;unfold NodeR at h1;omega))<|by first|omega|(simp only [List.length_set];omega)|(have h1:=(M om).1;unfold NodeR at h1;omega))<|Dr 4 C (Bw (xs:=num) ef C (A6 hm) (by first|omega|(have h1:=(M om).1;unfold NodeR at h1;omega))<|by first|omega|(simp only [List.length_set];omega)|(have h1:=(M om).1;unfold NodeR at h1;omega))<|Dr 5 C (Ac fld40_1 C)<|Dr 6 C (A7 ty22) ?_
 refine Dr 7 C (Ai C)<|Dr 8 C (Az (α:=Int) (xs:=num) Ab ef C C (A6 hm) (by first|omega|(have h1:=(M om).1;unfold NodeR at h1;omega))<|by first|omega|(simp only [List.length_set];omega)|(have h1:=(M om).1;unfold NodeR at h1;omega))<|Dr 9 C (Bw (xs:=num) ef C (A6 hm) (by first|omega|(have h1:=(M om).1;unfold NodeR at h1;omega))<|by first|omega|(simp only [List.length_set];omega)|(have h1:=(M om).1;unfold NodeR at h1;omega))<|Dr 10 C (Er C C)<|Dr 11 C (Ba C)<|Dz<|Ah<|Am (S5 9 8 3 1 2 C C C C C)<|Af<|Gf fld40_1 C<|D9 (J:=vc 207 (.slice aa (ek nd es).length ab) ((rowsU nd es u v))::e8 b1 [e7 nd,.slice ea es.length ec,.slice na num.length nc] 40::I) (E0 _) ?_
 have a4:(if (e_ num v)<(e_ num u) then (e_ num v) else (e_ num u))=(min (e_ num u)<|e_ num v):=ifmin _ _
 rw [a4]
 refine Gl ty22 ?_
 refine Gm C<|G.e (Aj c_ C C<|Level_ok (num:=num) (lv:=(min (e_ num u)<|e_ num v)) (A6 hm) om) ?_
 rintro _ _ ⟨_,_,⟨Z,rfl,ae,rfl⟩,rfl,rfl⟩
 refine Ga C<|Ad<|Af<|Ga C<|Ad<|Af<|Gm C<|Gr (Bj B3 C)<|Ge2 (Eff.make0 (α:=Int) (n:=(ek nd es).length) Ab ef C C C om om om C) λaz a6=>?_
 refine Ga C<|Ad<|Am (S7 12 11 10 9 8 1 2 C C C C C C C)<|Ap<|Af<|Gm C<|G.e (Aj c_ C C<|Bit_ok u) ?_
 rintro _ _ ⟨_,_,⟨rfl,rfl⟩,rfl,rfl⟩
 refine Gm C<|G.e (Aj c_ C C<|Bit_ok v) ?_
 rintro _ _ ⟨_,_,⟨rfl,rfl⟩,rfl,rfl⟩
 refine Gr (D8 (a:=bitB u) (b:=bitB v) C C)<|Gm C<|Gr (Eb (a:=(bitB u) ||| (bitB v)) (b:=Z) C C)<|Gc2 (Aj c_ C C<|MList_ok (((bitB u) ||| (bitB v)) &&& Z)<|Bg hT Av) λah ad=>?_
 refine Gr (Bj Ab C)<|Gm C<|Ad<|Am (S8 64 63 62 12 11 10 9 8 C C C C C C C C)<|A0<|B1 (σ:=Nat×(BitVec 64)×(Option Addr)×Nat×(List Int)) (λs=>([(8,.slice aa (ek nd es).length ab),(9,e7<|(min (e_ num u)<|e_ num v)),(10,U64 Z),(11,U64<|s.2.1),(12,.slice s.2.2.1 s.2.2.2.2.length s.2.2.2.1),(62,.slice ah (eo<|((bitB u) ||| (bitB v)) &&& Z).length ad),(63,e7<|(((eo<|((bitB u) ||| (bitB v)) &&& Z).length:Nat):Int)),(64,e7 ((s.1:Nat):Int))]:Env)) (λs=>vc 3 (.slice ah (eo<|((bitB u) ||| (bitB v)) &&& Z).length ad) (eo<|((bitB u) ||| (bitB v)) &&& Z)::vc 3 (.slice s.2.2.1 s.2.2.2.2.length s.2.2.2.1) (s.2.2.2.2)::vc 207 (.slice aa (ek nd es).length ab) ((rowsU nd es u v))::e8 b1 [e7 nd,.slice ea es.length ec,.slice na num.length nc] 40::I) (λs=>(s.1<=(eo<|(bitB u ||| bitB v) &&& Z).length)/\(∀x,x∈eo s.2.1↔x∈eo 0#64\/x∈(eo<|(bitB u ||| bitB v) &&& Z).take s.1)/\(s.2.2.2.2=[]++(eo<|(bitB u ||| bitB v) &&& Z).take s.1)) (λs=>(eo<|(bitB u ||| bitB v) &&& Z).length - s.1) (0,0#64,az,a6,[]) ⟨om,(λx=>by rw [List.take_zero];simp),rfl⟩ (Aa C<|Aa C<|Aa C<|Aa (Dd C<|by first|rfl|simp)<|Aa (Dd C<|by first|rfl|simp)<|Aa C<|Aa C<|Aa Cd Bl) Bf ?_
 rintro ⟨k,F,a,c,out⟩ hp
 dsimp only at hp ⊢
 obtain ⟨hk,hF,ho⟩:=hp
 have bj:out.length=k:=by rw [ho,List.nil_append,List.length_take];omega
 have be:=Em ((bitB u ||| bitB v) &&& Z)
 refine Af<|Gr (Bb C C)<|Ad<|Ap<|A8 C (λa1=>?_)<|λa1=>?_
 ·refine Aw (Ah<|Ap<|A0<|Af<|Gr (Az (α:=Int) (xs:=eo (((bitB u) ||| (bitB v)) &&& Z)) Ab ef C C Bh (by first|omega|(have h1:=(M om).1;unfold NodeR at h1;omega))<|by first|omega|(simp only [List.length_set];omega)|(have h1:=(M om).1;unfold NodeR at h1;omega))<|Gr (Bw (xs:=eo (((bitB u) ||| (bitB v)) &&& Z)) ef C Bh (by first|omega|(have h1:=(M om).1;unfold NodeR at h1;omega))<|by first|omega|(simp only [List.length_set];omega)|(have h1:=(M om).1;unfold NodeR at h1;omega))<|Ga C<|Ad<|Af<|Gm C<|Gm C<|G.e (Aj c_ C C<|Bit_ok<|e_ (eo<|((bitB u) ||| (bitB v)) &&& Z) (k:Int)) ?_)
  rintro _ _ ⟨_,_,⟨rfl,rfl⟩,rfl,rfl⟩
  refine Gr (D8 (a:=F) (b:=bitB (e_ (eo<|((bitB u) ||| (bitB v)) &&& Z) (k:Int))) C C)<|Ga C<|Ad<|Am (S9 11 14 8 9 10 12 62 63 64 C C C C C C C C C)<|Au<|Gm C<|Gm C<|Ge1 (Co (α:=Int) (cs:=[_]) (xs:=[e_ (eo<|((bitB u) ||| (bitB v)) &&& Z) (k:Int)]) Ab ef C C dc dc C C C C) λbh=>?_
  refine Ge2 (Cp (α:=Int) (e:=3) (xs:=out) (ys:=([e_ (eo<|((bitB u) ||| (bitB v)) &&& Z) (k:Int)]:List Int)) Ab ef C C C mm Bh lcn dc C<|λ_ _=>am) λap aq=>?_
  exact Ga C<|Bo<|Al<|Ah<|Am (S8 12 11 8 9 10 62 63 64 C C C C C C C C)<|Au<|Gr (Rad C C)<|Gm C<|Bo<|Cf ((k+1),(F ||| (bitB<|e_ (eo<|((bitB u) ||| (bitB v)) &&& Z) (k:Int))),(ap),(aq),(out++([e_ (eo<|((bitB u) ||| (bitB v)) &&& Z) (k:Int)]:List Int)))<|by dsimp only;exact ⟨om,(or_take om (λx hx=>En hx) hF),(app_take om ho)⟩
 refine Bx<|Ao<|Ao<|A9<|Ah<|Ap<|A0<|B1 (σ:=(BitVec 64)×(Option Addr)×Nat×(List Int)) (λs=>([(8,.slice aa (ek nd es).length ab),(9,e7<|(min (e_ num u)<|e_ num v)),(10,U64 Z),(11,U64<|s.1),(12,.slice s.2.1 s.2.2.2.length s.2.2.1)]:Env)) (λs=>vc 3 (.slice ah (eo<|((bitB u) ||| (bitB v)) &&& Z).length ad) (eo<|((bitB u) ||| (bitB v)) &&& Z)::vc 3 (.slice s.2.1 s.2.2.2.length s.2.2.1) (s.2.2.2)::vc 207 (.slice aa (ek nd es).length ab) ((rowsU nd es u v))::e8 b1 [e7 nd,.slice ea es.length ec,.slice na num.length nc] 40::I) (λs=>(RgI (NBX nd es u v) (λx:Int=>(0<=x/\x<(num.length:Int))/\e_ num x=(min (e_ num u)<|e_ num v)) (eo<|(bitB u ||| bitB v) &&& Z) s.1 s.2.2.2)/\(s.2.2.2.length<=(eo s.1).length)) (λs=>2*(64 - (eo s.1).length)+s.2.2.2.length) (F,a,c,out) (show (RgI (NBX nd es u v) (λx:Int=>(0<=x/\x<(num.length:Int))/\e_ num x=(min (e_ num u)<|e_ num v)) (eo<|(bitB u ||| bitB v) &&& Z) (F:BitVec 64) (out:List Int))/\((out:List Int).length<=(eo (F:BitVec 64)).length) from ⟨(rg_start (by rw [List.take_of_length_le om] at hF;exact hF) (by rw [ho,List.nil_append,List.take_of_length_le om])<|λx hx=>(ae x).1 (mem_andB.1 hx).2),(by have h2:=rg_more (F:=0#64) (F2:=F) (L2:=(eo<|(bitB u ||| bitB v) &&& Z)) (by rw [List.take_of_length_le om] at hF;exact hF) (Dh _) (λx _=>by rw [D0];simp);rw [D0] at h2;simp only [List.length_nil] at h2;omega)⟩) (Aa C<|Aa C<|Aa C<|Aa (Dd C<|by first|rfl|simp)<|Aa (Dd C<|by first|rfl|simp) Bl) Bf ?_
 rintro ⟨F,a,c,sk⟩ hp
 dsimp only at hp ⊢
 obtain ⟨hR,bb⟩:=hp
 have bi:=Em F
 have M:=λh:0<sk.length=>hR.lev _ (hR.st _<|Ca (xs:=sk) (i:=(sk.length:Int) - 1) om om)
 refine Ap<|Af<|Gm C<|Gr (Bj Ab C)<|Gr (Ck C C)<|Ad<|A8 C (λa5=>?_)<|λa5=>?_
 ·refine Aw (Ah<|A0<|Af<|Gm C<|Gm C<|Gr (Bj Ab C)<|Gr (Rsu C C)<|Gr (Az (α:=Int) (xs:=sk) Ab ef C C Bh (by first|omega|(have h1:=(M om).1;unfold NodeR at h1;omega))<|by first|omega|(simp only [List.length_set];omega)|(have h1:=(M om).1;unfold NodeR at h1;omega))<|Gr (Bw (xs:=sk) ef C Bh (by first|omega|(have h1:=(M om).1;unfold NodeR at h1;omega))<|by first|omega|(simp only [List.length_set];omega)|(have h1:=(M om).1;unfold NodeR at h1;omega))<|Ga C<|Ad<|Am (S6 15 8 9 10 11 12 C C C C C C)<|Af<|Gm C<|Gm C<|Gr (Bj Ab C)<|Gr (Rsu C C)<|Gm C<|Gr (Runs.caps Ab C)<|Gr (Runs.hicap (α:=Int) (xs:=sk) (h:=sk.length - 1) Ab ef C C C om Bh om om)<|Ga C<|D9 (J:=vc 3 (.slice a (List.take (sk.length - 1) sk).length c) (List.take (sk.length - 1) sk)::vc 3 (.slice ah (eo<|((bitB u) ||| (bitB v)) &&& Z).length ad) (eo<|((bitB u) ||| (bitB v)) &&& Z)::vc 207 (.slice aa (ek nd es).length ab) ((rowsU nd es u v))::e8 b1 [e7 nd,.slice ea es.length ec,.slice na num.length nc] 40::I) (Cv Bm<|Fit.takevc (α:=Int) C) ?_)
  refine Ad<|Am (S6 12 15 8 9 10 11 C C C C C C)<|Af<|Gm C<|Gm C<|Gr (Az (α:=(BitVec 64)) (xs:=(rowsU nd es u v)) B3 ty207 C C Bh (by first|omega|(have h1:=(M om).1;unfold NodeR at h1;omega))<|by first|omega|(simp only [List.length_set];omega)|(have h1:=(M om).1;unfold NodeR at h1;omega))<|Gr (B4 (α:=(BitVec 64)) (xs:=(rowsU nd es u v)) (u:=U64 ((e_ (rowsU nd es u v)<|e_ sk<|((sk.length:Nat):Int) - 1))) ty207 C Bh (by first|omega|(have h1:=(M om).1;unfold NodeR at h1;omega)) (by first|omega|(simp only [List.length_set];omega)|(have h1:=(M om).1;unfold NodeR at h1;omega)) C)<|Gm C<|Gr (Eb (a:=(e_ (rowsU nd es u v)<|e_ sk<|((sk.length:Nat):Int) - 1)) (b:=Z) C C)<|Gm C<|Gr (Et (a:=(e_ (rowsU nd es u v)<|e_ sk<|((sk.length:Nat):Int) - 1) &&& Z) (b:=F) C C)<|Gc2 (Aj c_ C C<|MList_ok (((e_ (rowsU nd es u v)<|e_ sk<|((sk.length:Nat):Int) - 1) &&& Z) &&& ~~~F)<|Bg hT Av) λan ao=>?_
  refine Gr (Bj Ab C)<|Gm C<|Ad<|Am (S8 103 102 101 12 8 9 10 11 C C C C C C C C)<|A0<|B1 (σ:=Nat×(BitVec 64)×(Option Addr)×Nat×(List Int)) (λs=>([(8,.slice aa (ek nd es).length ab),(9,e7<|(min (e_ num u)<|e_ num v)),(10,U64 Z),(11,U64<|s.2.1),(12,.slice s.2.2.1 s.2.2.2.2.length s.2.2.2.1),(101,.slice an (eo<|((e_ (rowsU nd es u v)<|e_ sk<|((sk.length:Nat):Int) - 1) &&& Z) &&& ~~~F).length ao),(102,e7<|(((eo<|((e_ (rowsU nd es u v)<|e_ sk<|((sk.length:Nat):Int) - 1) &&& Z) &&& ~~~F).length:Nat):Int)),(103,e7 ((s.1:Nat):Int))]:Env)) (λs=>vc 3 (.slice an (eo<|((e_ (rowsU nd es u v)<|e_ sk<|((sk.length:Nat):Int) - 1) &&& Z) &&& ~~~F).length ao) (eo<|((e_ (rowsU nd es u v)<|e_ sk<|((sk.length:Nat):Int) - 1) &&& Z) &&& ~~~F)::vc 3 (.slice s.2.2.1 s.2.2.2.2.length s.2.2.2.1) (s.2.2.2.2)::vc 3 (.slice ah (eo<|((bitB u) ||| (bitB v)) &&& Z).length ad) (eo<|((bitB u) ||| (bitB v)) &&& Z)::vc 207 (.slice aa (ek nd es).length ab) ((rowsU nd es u v))::e8 b1 [e7 nd,.slice ea es.length ec,.slice na num.length nc] 40::I) (λs=>(s.1<=(eo<|((e_ (rowsU nd es u v)<|e_ sk<|((sk.length:Nat):Int) - 1) &&& Z) &&& ~~~F).length)/\(∀x,x∈eo s.2.1↔x∈eo F\/x∈(eo<|((e_ (rowsU nd es u v)<|e_ sk<|((sk.length:Nat):Int) - 1) &&& Z) &&& ~~~F).take s.1)/\(s.2.2.2.2=List.take (sk.length - 1) sk++(eo<|((e_ (rowsU nd es u v)<|e_ sk<|((sk.length:Nat):Int) - 1) &&& Z) &&& ~~~F).take s.1)) (λs=>(eo<|((e_ (rowsU nd es u v)<|e_ sk<|((sk.length:Nat):Int) - 1) &&& Z) &&& ~~~F).length - s.1) (0,F,a,c,(List.take (sk.length - 1) sk)) ⟨om,(λx=>by rw [List.take_zero];simp),(by rw [List.take_zero,List.append_nil])⟩ (Aa C<|Aa C<|Aa C<|Aa (Dd C<|by first|rfl|simp)<|Aa (Dd C<|by first|rfl|simp)<|Aa C<|Aa C<|Aa Cd Bl) Bf ?_
  rintro ⟨j,F3,a3,c3,o3⟩ hp
  dsimp only at hp ⊢
  obtain ⟨hj,ai,aj⟩:=hp
  have a9:o3.length=sk.length - 1+j:=by rw [aj,List.length_append,List.length_take,List.length_take];omega
  have a7:=Em ((((e_ (rowsU nd es u v)<|e_ sk<|((sk.length:Nat):Int) - 1) &&& Z) &&& ~~~F))
  have aw:∀y,y∈eo (((e_ (rowsU nd es u v)<|e_ sk<|((sk.length:Nat):Int) - 1) &&& Z) &&& ~~~F)↔NBX nd es u v (e_ sk<|(sk.length:Int) - 1) y/\((0<=y/\y<(num.length:Int))/\e_ num y=(min (e_ num u)<|e_ num v))/\y∉eo F:=λy=>by rw [mem_andNot,mem_andB,rowsU_mem hG hu hv a0<|by have:=(M om).1;unfold NodeR;omega,ae y,and_assoc]
  have ak:j=(eo<|((e_ (rowsU nd es u v)<|e_ sk<|((sk.length:Nat):Int) - 1) &&& Z) &&& ~~~F).length->(∀x,x∈eo F3↔x∈eo F\/x∈eo (((e_ (rowsU nd es u v)<|e_ sk<|((sk.length:Nat):Int) - 1) &&& Z) &&& ~~~F))/\(eo F3).length=(eo F).length+(eo<|((e_ (rowsU nd es u v)<|e_ sk<|((sk.length:Nat):Int) - 1) &&& Z) &&& ~~~F).length/\o3=List.take (sk.length - 1) sk++eo (((e_ (rowsU nd es u v)<|e_ sk<|((sk.length:Nat):Int) - 1) &&& Z) &&& ~~~F):=λe=>by rw [List.take_of_length_le (l:=eo (((e_ (rowsU nd es u v)<|e_ sk<|((sk.length:Nat):Int) - 1) &&& Z) &&& ~~~F)) (i:=j) om] at ai aj;exact ⟨ai,rg_more ai (Dh _)<|λx hx=>((aw x).1 hx).2.2,aj⟩
  refine Af<|Gr (Bb C C)<|Ad<|Ap<|A8 C (λav=>?_)<|λav=>?_
  ·refine Aw (Ah<|Ap<|A0<|Af<|Gr (Az (α:=Int) (xs:=eo (((e_ (rowsU nd es u v)<|e_ sk<|((sk.length:Nat):Int) - 1) &&& Z) &&& ~~~F)) Ab ef C C Bh (by first|omega|(have h1:=(M om).1;unfold NodeR at h1;omega))<|by first|omega|(simp only [List.length_set];omega)|(have h1:=(M om).1;unfold NodeR at h1;omega))<|Gr (Bw (xs:=eo (((e_ (rowsU nd es u v)<|e_ sk<|((sk.length:Nat):Int) - 1) &&& Z) &&& ~~~F)) ef C Bh (by first|omega|(have h1:=(M om).1;unfold NodeR at h1;omega))<|by first|omega|(simp only [List.length_set];omega)|(have h1:=(M om).1;unfold NodeR at h1;omega))<|Ga C<|Ad<|Af<|Gm C<|Gm C<|G.e (Aj c_ C C<|Bit_ok<|e_ (eo<|((e_ (rowsU nd es u v)<|e_ sk<|((sk.length:Nat):Int) - 1) &&& Z) &&& ~~~F) (j:Int)) ?_)
   rintro _ _ ⟨_,_,⟨rfl,rfl⟩,rfl,rfl⟩
   refine Gr (D8 (a:=F3) (b:=bitB (e_ (eo<|((e_ (rowsU nd es u v)<|e_ sk<|((sk.length:Nat):Int) - 1) &&& Z) &&& ~~~F) (j:Int))) C C)<|Ga C<|Ad<|Am (S9 11 17 8 9 10 12 101 102 103 C C C C C C C C C)<|Au<|Gm C<|Gm C<|Ge1 (Co (α:=Int) (cs:=[_]) (xs:=[e_ (eo<|((e_ (rowsU nd es u v)<|e_ sk<|((sk.length:Nat):Int) - 1) &&& Z) &&& ~~~F) (j:Int)]) Ab ef C C dc dc C C C C) λa8=>?_
   refine Ge2 (Cp (α:=Int) (e:=3) (xs:=o3) (ys:=([e_ (eo<|((e_ (rowsU nd es u v)<|e_ sk<|((sk.length:Nat):Int) - 1) &&& Z) &&& ~~~F) (j:Int)]:List Int)) Ab ef C C C mm Bh lcn dc C<|λ_ _=>am) λax ar=>?_
   exact Ga C<|Bo<|Al<|Ah<|Am (S8 12 11 8 9 10 101 102 103 C C C C C C C C)<|Au<|Gr (Rad C C)<|Gm C<|Bo<|Cf ((j+1),(F3 ||| (bitB<|e_ (eo<|((e_ (rowsU nd es u v)<|e_ sk<|((sk.length:Nat):Int) - 1) &&& Z) &&& ~~~F) (j:Int))),(ax),(ar),(o3++([e_ (eo<|((e_ (rowsU nd es u v)<|e_ sk<|((sk.length:Nat):Int) - 1) &&& Z) &&& ~~~F) (j:Int)]:List Int)))<|by dsimp only;exact ⟨om,(or_take om (λx hx=>En hx) ai),(app_take om aj)⟩
  exact Bx<|Ao<|Ao<|A9<|Al<|Cf ((F3),(a3),(c3),(o3)) (by dsimp only;exact ⟨(by rw [(ak om).2.2];exact hR.pop om aw (ak om).1),(by have h4:=(ak om).2.1;omega)⟩) (hlt:=by (try dsimp only);exact (by have h4:=(ak om).2.1;have h5:=Em F3;omega))
 exact Bx<|Ao<|Ao<|A9<|Ah<|Af<|Gm C<|Gm C<|Ga C<|Ga C<|Ad<|Ay<|De C C C I Av ⟨F,rfl,hR.reg hG au hu hv ae om,rfl⟩
end Go.Sl
namespace Go.Sl
variable {P:Program}{κ:Ctx}{N:Frm}{L:Env}{I:List Item}
end Go.Sl
namespace Go.Sl
open Go.Proofs
set_option maxRecDepth 4000
variable{Z ea ga na:Option Addr}{M ec gc nc:Nat}
section
variable {nd u v k:Int}{es es':List Pt}{F A S B C:BitVec 64}
theorem coreN_bdR(Z:GrOk nd es):∀x∈coreN nd es,0<=x/\x<=1000:=λx M=>by
 obtain ⟨i,hi,rfl⟩:=mem_atN M
 have h1:=coreN_lenG Z
 have h2:=core_pos Z (u:=(i:Int)) om om
 have:=Z.rng
 omega
theorem RegX.rng(M:GrOk nd es){num:List Int}(h:RegX nd es num u v k F):∀x∈eo F,0<=x/\x<nd:=λx Z=>(h.lev x Z).1
theorem ins_core(h:OneE nd es es' u v)(hk:k=min (e_ (coreN nd es) u) (e_ (coreN nd es) v))(M:RegX nd es (coreN nd es) u v k F)(hA:∀x,x∈eo A↔(0<=x/\x<((coreN nd es).length:Int))/\k<e_ (coreN nd es) x)
  (hS:SetR (ek nd es') F A (k+1) S):(eo S).foldl (incL 1) (coreN nd es)=coreN nd es':=by
 have h1:=coreN_lenG h.ok
 have h2:∀x∈eo S,0<=x/\x<((coreN nd es).length:Int):=λx Z=>by rw [h1];exact M.rng h.ok x (hS.sub x Z)
 refine coreN_ext h.ok' (by rw [incs_len];exact h1) λx Z=>?_
 rw [incs_at _ _ h2 _ Z.1,sum_ind_nodup<|Dh _,Int.one_mul]
 exact (core_comes h hk ⟨M.lev,M.hu,M.hv,λx Z y hy hk=>M.cl x Z y ((h.nb x y).1 hy) hk⟩ (λx=>by rw [hA,h1];exact Iff.rfl) hS Z).symm
theorem del_above(hG:GrOk nd es')(M:RegX nd es' (coreN nd es') u v k F)(Z:∀x,x∈eo B↔(0<=x/\x<((coreN nd es').length:Int))/\k<e_ (coreN nd es') x)
  (hC:∀x,x∈eo C↔(0<=x/\x<((coreN nd es').length:Int))/\e_ (coreN nd es') x=k) (x:Int):x∈eo (B ||| (C &&& ~~~F))↔NodeR nd x/\k<=e_ (coreN nd es') x/\x∉eo F:=by
 have h1:=coreN_lenG hG
 rw [mem_orB2,mem_andNot,Z,hC,h1]
 unfold NodeR
 constructor
 ·rintro (⟨a,b⟩|⟨⟨a,b⟩,c⟩)
  ·exact ⟨a,by omega,λq=>by have:=(M.lev x q).2;omega⟩
  exact ⟨a,by omega,c⟩
 rintro ⟨a,b,c⟩
 by_cases e:e_ (coreN nd es') x=k
 ·exact .inr ⟨⟨a,e⟩,c⟩
 exact .inl ⟨a,by omega⟩
theorem del_core(h:OneE nd es es' u v)(hk:k=min (e_ (coreN nd es') u) (e_ (coreN nd es') v))(M:RegX nd es' (coreN nd es') u v k F)(hA:∀x,x∈eo A↔NodeR nd x/\k<=e_ (coreN nd es') x/\x∉eo F)
  (hS:SetR (ek nd es) F A k S):(eo<|F &&& ~~~S).foldl (incL<|-1) (coreN nd es')=coreN nd es:=by
 have h1:=coreN_lenG h.ok'
 have h2:∀x∈eo (F &&& ~~~S),0<=x/\x<((coreN nd es').length:Int):=λx Z=>by rw [h1];exact M.rng h.ok' x (mem_andNot.1 Z).1
 refine coreN_ext h.ok (by rw [incs_len];exact h1) λx Z=>?_
 rw [incs_at _ _ h2 _ Z.1,sum_ind_nodup<|Dh _]
 have h3:=core_goes h hk ⟨M.lev,M.hu,M.hv,λx Z y hy hk=>M.cl x Z y (.inl hy) hk⟩ hA hS Z
 by_cases e:x∈eo (F &&& ~~~S)
 ·rw [if_pos e];rw [if_pos (mem_andNot.1 e)] at h3;omega
 rw [if_neg e];rw [if_neg (λq=>e<|mem_andNot.2 q)] at h3;omega
end
theorem RIns_ok{κ:Ctx}{I:List Item}{nd u v:Int}{es es':List Pt}(hl:Sl κ I (.slice ea es.length ec) es)(hm:Sl κ I (.slice na (coreN nd es).length nc) (coreN nd es))(hg:Sl κ I (.slice ga es'.length gc) es')(h:OneE nd es es' u v)(hT:TabRd κ I 0 tzCells):eu prog κ 262 [.agg #[e7 nd,.slice ea es.length ec,.slice na (coreN nd es).length nc],.agg #[e7 nd,.slice ga es'.length gc],e7 u,e7 v] I (λr J=>∃(a:Option Addr) (c:Nat) (w:Value),r = .tuple #[.agg #[e7 nd,.slice ga es'.length gc,.slice a (coreN nd es').length c],w]/\J=vc 3 (.slice a (coreN nd es').length c) (coreN nd es')::I):=by
 have ab:=h.ok'
 have hG:=h.ok
 have a1:(ek nd es').length=nd:=ab.rows.len
 have ap:(ek nd es).length=nd:=hG.rows.len
 have av:=hG.rng
 have an:=h.ends
 unfold endsP at an
 have ax:=coreN_lenG hG
 have au:=coreN_lenG ab
 have aw:=core_pos hG (u:=u) om om
 have az:=core_pos hG (u:=v) om om
 refine Ce4 Tryz.func262 C C ?_
 refine Af<|Ge1 (Bc (cs:=[_,_,_]) C C C) λb1=>Ge1 (Bc (cs:=[_,_]) C C C) λb2=>Ge1 (A2 ty40 C) λb3=>Ga C<|Ad<|Af<|Gl3 ty40 ?_
 refine Gm C<|Gm C<|G.e (Aj c_ C C<|Region_ok (nd:=nd) (u:=u) (v:=v) (A6 hl) (A6 hm) hG om (by unfold NodeR;omega) (by unfold NodeR;omega) om<|Bg hT Av) ?_
 rintro _ _ ⟨_,_,⟨ao,rfl,Z,rfl⟩,rfl,rfl⟩
 refine Gm C<|Gr (Ak C C)<|Gr (Ak C C)<|Ga C<|Ga C<|Ad<|Am (S5 11 10 8 5 4 C C C C C)<|Ap<|Bq mixed<|Ee 15<|Dr 0 C (A5 (vs:=[_,_,_]) ty40) ?_
 refine Dr 1 C (A5 (vs:=[_,_]) ty38) ?_
 refine Dr 2 C (A5 (vs:=[_,_]) ty38) ?_
 refine Dr 4 C (Ai C)<|Dr 5 C (Ac fld40_1 C)<|Dr 6 C (A7 ty22) ?_
 refine Dr 7 C (Ai C)<|Dr 9 C (Ai C)<|Dr 10 C (Rad C C)<|Ds1 3<|Se C (Aj c_ C C<|MRows_ok (nd:=nd)<|A6 hg) ?_
 rintro _ _ ⟨_,_,⟨ay,a0,rfl,rfl⟩,rfl,rfl⟩
 refine ⟨Av,?_⟩
 have aj:=rowsB_len nd es'
 refine Ds1 8<|Se C (Aj c_ C C<|Above_ok (num:=coreN nd es) (lv:=min (e_ (coreN nd es) u) (e_ (coreN nd es) v)) (A6 hm) om) ?_
 rintro _ _ ⟨_,_,⟨ak,rfl,ad,rfl⟩,rfl,rfl⟩
 refine ⟨Av,?_⟩
 refine Ds1 11<|Se C (Aj c_ C C<|Settle_ok (rows:=ek nd es') (F:=ao) (A:=ak) (k:=(min (e_ (coreN nd es) u)<|e_ (coreN nd es) v)+1) Bh om (λx hx=>by have h9:=(Z.lev x hx).1;unfold NodeR at h9;omega)<|Bg hT Av) ?_
 rintro _ _ ⟨_,_,⟨ae,rfl,M,rfl⟩,rfl,rfl⟩
 refine ⟨Av,?_⟩
 refine Ds1 12<|Se C (Aj c_ C C<|Moved_ok (nd:=nd) (nd':=nd) (b':=1) (va:= .slice ea es.length ec) (ga:=ga) (gn:=es'.length) (gc:=gc) (S:=ae) (A6 hm) (λx hx=>by have h9:=(Z.lev x<|M.sub x hx).1;unfold NodeR at h9;omega) (coreN_bdR hG) dc om<|Bg hT Av) ?_
 rintro _ _ ⟨_,_,⟨ai,aa,ar,aq,rfl,rfl⟩,rfl,rfl⟩
 refine ⟨Av,?_⟩
 refine Dr 13 C (Ak C C)<|Dr 14 C (Ak C C)<|Ct kr ?_
 refine Ae 15 C (C9 ty40) ?_
 rintro _ _ ⟨rfl,rfl⟩
 refine Du (i:=16) kr C (Bk C) C C (Ba C) ?_
 refine Cu kr ?_
 refine Ah<|Am (S2 9 8 C C)<|Ay ?_
 have hE:(eo ae).foldl (incL 1) (coreN nd es)=coreN nd es':=ins_core h rfl Z ad M
 have ah:(coreN nd es).length=(coreN nd es').length:=by have h1:=coreN_lenG h.ok;have h2:=coreN_lenG h.ok';omega
 exact C0 C ty40 C C mm C (vc 3 (.slice ai (coreN nd es').length aa) (coreN nd es')::I) (by rw [←hE,hE,←ah,←hE];exact Bm) ⟨ai,aa,_,by rw [←ah],rfl⟩
theorem RRem_ok{κ:Ctx}{I:List Item}{nd u v:Int}{es es':List Pt}(hl:Sl κ I (.slice ea es'.length ec) es')(hm:Sl κ I (.slice na (coreN nd es').length nc) (coreN nd es'))(hg:Sl κ I (.slice ga es.length gc) es)(h:OneE nd es es' u v)(hT:TabRd κ I 0 tzCells):eu prog κ 264 [.agg #[e7 nd,.slice ea es'.length ec,.slice na (coreN nd es').length nc],.agg #[e7 nd,.slice ga es.length gc],e7 u,e7 v] I (λr J=>∃(a:Option Addr) (c:Nat) (w:Value),r = .tuple #[.agg #[e7 nd,.slice ga es.length gc,.slice a (coreN nd es).length c],w]/\J=vc 3 (.slice a (coreN nd es).length c) (coreN nd es)::I):=by
 have Z:=h.ok'
 have hG:=h.ok
 have a1:(ek nd es').length=nd:=Z.rows.len
 have au:(ek nd es).length=nd:=hG.rows.len
 have ax:=hG.rng
 have aq:=h.ends
 unfold endsP at aq
 have a3:=coreN_lenG hG
 have ar:=coreN_lenG Z
 have ay:=core_pos Z (u:=u) om om
 have a0:=core_pos Z (u:=v) om om
 refine Ce4 Tryz.func264 C C ?_
 refine Af<|Ge1 (Bc (cs:=[_,_,_]) C C C) λb1=>Ge1 (Bc (cs:=[_,_]) C C C) λb2=>Ge1 (A2 ty40 C) λb3=>Ga C<|Ad<|Af<|Gl3 ty40 ?_
 refine Gm C<|Gm C<|G.e (Aj c_ C C<|Region_ok (nd:=nd) (u:=u) (v:=v) (A6 hl) (A6 hm) Z om (by unfold NodeR;omega) (by unfold NodeR;omega) om<|Bg hT Av) ?_
 rintro _ _ ⟨_,_,⟨M,rfl,aa,rfl⟩,rfl,rfl⟩
 refine Gm C<|Gr (Ak C C)<|Gr (Ak C C)<|Ga C<|Ga C<|Ad<|Am (S5 11 10 8 5 4 C C C C C)<|Ap<|Bq mixed<|Ee 17<|Dr 0 C (A5 (vs:=[_,_]) ty38) ?_
 refine Dr 2 C (Ai C)<|Dr 3 C (Ac fld40_1 C)<|Dr 4 C (A7 ty22) ?_
 refine Dr 5 C (Ai C)<|Dr 7 C (Ac fld40_1 C)<|Dr 8 C (A7 ty22) ?_
 refine Dr 9 C (Ai C)<|Dr 11 C (Ai C)<|Dr 14 C (Ai C)<|Ds1 1<|Se C (Aj c_ C C<|MRows_ok (nd:=nd)<|A6 hg) ?_
 rintro _ _ ⟨_,_,⟨az,a4,rfl,rfl⟩,rfl,rfl⟩
 refine ⟨Av,?_⟩
 have ap:=rowsB_len nd es
 refine Ds1 6<|Se C (Aj c_ C C<|Above_ok (num:=coreN nd es') (lv:=min (e_ (coreN nd es') u) (e_ (coreN nd es') v)) (A6 hm) om) ?_
 rintro _ _ ⟨_,_,⟨aj,rfl,ak,rfl⟩,rfl,rfl⟩
 refine ⟨Av,?_⟩
 refine Ds1 10<|Se C (Aj c_ C C<|Level_ok (num:=coreN nd es') (lv:=min (e_ (coreN nd es') u) (e_ (coreN nd es') v)) (A6 hm) om) ?_
 rintro _ _ ⟨_,_,⟨ah,rfl,an,rfl⟩,rfl,rfl⟩
 refine ⟨Av,?_⟩
 refine Dr 12 C (Et (a:=ah) (b:=M) C C)<|Dr 13 C (D8 (a:=aj) (b:=ah &&& ~~~M) C C)<|Ds1 15<|Se C (Aj c_ C C<|Settle_ok (rows:=ek nd es) (F:=M) (A:=aj ||| (ah &&& ~~~M)) (k:=min (e_ (coreN nd es') u) (e_ (coreN nd es') v)) Bh om (λx hx=>by have h9:=(aa.lev x hx).1;unfold NodeR at h9;omega)<|Bg hT Av) ?_
 rintro _ _ ⟨_,_,⟨ae,rfl,ai,rfl⟩,rfl,rfl⟩
 refine ⟨Av,?_⟩
 refine Dr 16 C (Ba C)<|Dz<|Ah<|Am (S5 12 10 8 5 4 C C C C C)<|Af<|Gl3 ty40 ?_
 refine Gl2 ty38 ?_
 refine Gm C<|Gm C<|Gr (Et (a:=M) (b:=ae) C C)<|G.e (Aj c_ C C<|Moved_ok (nd:=nd) (nd':=nd) (b':= -1) (va:= .slice ea es'.length ec) (ga:=ga) (gn:=es.length) (gc:=gc) (S:=M &&& ~~~ae) (A6 hm) (λx hx=>by have h9:=(aa.lev x (mem_andNot.1 hx).1).1;unfold NodeR at h9;omega) (coreN_bdR Z) dc om<|Bg hT Av) ?_
 rintro _ _ ⟨_,_,⟨ab,ad,av,aw,rfl,rfl⟩,rfl,rfl⟩
 refine Gr (Ak C C)<|Gr (Ak C C)<|Ge0 (C9 ty40) ?_
 refine Ga C<|Ad<|Am (S2 9 8 C C)<|Ay ?_
 have hE:(eo<|M &&& ~~~ae).foldl (incL<|-1) (coreN nd es')=coreN nd es:=del_core h rfl aa (λx=>del_above Z aa ak an x) ai
 have ao:(coreN nd es').length=(coreN nd es).length:=by have h1:=coreN_lenG h.ok;have h2:=coreN_lenG h.ok';omega
 exact C0 C ty40 C C mm C (vc 3 (.slice ab (coreN nd es).length ad) (coreN nd es)::I) (by rw [←hE,hE,←ao,←hE];exact Bm) ⟨ab,ad,_,by rw [←ao],rfl⟩
variable {κ:Ctx}{I:List Item}
theorem add_zero{nd:Int}{es:List Pt}{u v:Int}(Z:GrOk nd es)(M:endsP nd u v)(hn:edgeP u v∉es):addG nd es u v=0:=by
 have h1:=changeG_zero.2 ⟨Z,M⟩
 unfold addG;rw [if_neg om,if_neg hn]
theorem rem_zero{nd:Int}{es:List Pt}{u v:Int}(Z:GrOk nd es)(M:endsP nd u v)(hn:edgeP u v∈es):remG nd es u v=0:=by
 have h1:=changeG_zero.2 ⟨Z,M⟩
 unfold remG;rw [if_neg om,if_pos hn]
theorem AddG_yes{nd:Int}{es:List Pt}(hl:Sl κ I (.slice Z es.length M) es){u v:Int}(hz:addG nd es u v=0)(hb:es.length<=10000000):eu prog κ 261 [.agg #[e7 nd,.slice Z es.length M],e7 u,e7 v] I λr J=>∃a c,r = .tuple #[.agg #[e7 nd,.slice a (insB Pt.lt es (edgeP u v)).length c],e7 0]/\J=vc 105 (.slice a (insB Pt.lt es (edgeP u v)).length c) (insB Pt.lt es (edgeP u v))::I:=
 (AddG_ok hl u v hb).mono λr J h=>by
  rcases h with h|⟨a,c,_,h1,h2⟩
  ·exact absurd hz h.1
  exact ⟨a,c,h1,h2⟩
theorem RemG_yes{nd:Int}{es:List Pt}(hl:Sl κ I (.slice Z es.length M) es){u v:Int}(hz:remG nd es u v=0)(hb:es.length<=10000000):eu prog κ 263 [.agg #[e7 nd,.slice Z es.length M],e7 u,e7 v] I λr J=>∃a c,r = .tuple #[.agg #[e7 nd,.slice a (without es (edgeP u v)).length c],e7 0]/\J=vc 105 (.slice a (without es (edgeP u v)).length c) (without es (edgeP u v))::I:=
 (RemG_ok hl u v hb).mono λr J h=>by
  rcases h with h|⟨a,c,_,h1,h2⟩
  ·exact absurd hz h.1
  exact ⟨a,c,h1,h2⟩
theorem EqN_ok{va vb:Value}{xs ys:List Int}(hl:Sl κ I va xs)(hm:Sl κ I vb ys):eu prog κ 266 [va,vb] I (λr J=>r = .bool (decide (xs=ys))/\I=J):=by
 refine B9 hl.le λad=>?_
 refine B9 hm.le λaa=>?_
 refine Ce2 Tryz.func266 C C ?_
 refine Af<|Ga C<|Ad<|Ap<|Af<|Gm C<|Gr (B5 (α:=Int) (xs:=xs) Ab C<|A6 hl)<|Gm C<|Gr (B5 (α:=Int) (xs:=ys) Ab C<|A6 hm)<|Gr (Bn C C)<|Ad<|A8 C (λc10=>?_)<|λc10=>?_
 ·refine Af (Ga C<|Ad<|Ay<|Aq ?_)
  have Z:xs≠ys:=λe=>by subst e;omega
  exact A1 C C I Av ⟨by rw [decide_eq_false Z],rfl⟩
 refine Aw<|Ah<|Ap<|Af<|Gm C<|Gr (B5 (α:=Int) (xs:=xs) Ab C<|A6 hl)<|Gm C<|Ad<|A0<|B1 (σ:=Nat) (λs=>([(0,va),(1,vb),(12,e7 ((xs.length:Nat):Int)),(13,e7 ((s:Nat):Int))]:Env)) (λs=>I) (λs=>(s<=xs.length)/\(∀j:Nat,j<s->e_ xs j=e_ ys j)) (λs=>xs.length - s) 0 ⟨om,(λj h=>by omega)⟩ (Aa C<|Aa C<|Aa C<|Aa Cd Bl) (show Fit κ _ I from Bf) ?_
 rintro k hp
 obtain ⟨hk,hn⟩:=hp
 refine Af<|Gr (Bb C C)<|Ad<|Ap<|A8 C (λab=>?_)<|λab=>?_
 ·refine Aw (Ah<|Ap<|A0<|Af<|Gm C<|Ga C<|Ad<|Ap<|Bq mixed<|Cc I 9<|Dr 0 C (Ai C)<|Dr 1 C (Ai C)<|Dr 2 C (Az (α:=Int) (xs:=xs) Ab ef C C (A6 hl) om om)<|Dr 3 C (Bw (xs:=xs) ef C (A6 hl) om om)<|Dr 4 C (Ai C)<|Dr 5 C (Ai C)<|Dr 6 C (Az (α:=Int) (xs:=ys) Ab ef C C (A6 hm) om om)<|Dr 7 C (Bw (xs:=ys) ef C (A6 hm) om om)<|Dr 8 C (Bn C C)<|Dz<|Ah<|Am (S5 24 0 1 12 13 C C C C C)<|A8 C (λM=>?_)<|λM=>?_)
  ·refine Af (Ga C<|Ad<|Ay<|Be<|Aq<|Aq<|Be<|Aq ?_)
   have Z:xs≠ys:=λe=>by subst e;exact M rfl
   exact A1 C C I Av ⟨by rw [decide_eq_false Z],rfl⟩
  exact Aw<|Al<|Ah<|Au<|Gr (Rad C C)<|Gm C<|Bo<|Cf ((k+1)) ⟨om,(λj h=>by by_cases e:j=k;(· subst e;exact Classical.not_not.1 M);(· exact hn j om))⟩
 refine Bx<|Ao<|Ao<|A9<|Ah<|Af<|Ga C<|Ad<|Ay ?_
 have he:xs=ys:=List.ext_getElem om λi h1 h2=>by have:=hn i om;rwa [Cy xs i h1,Cy ys i h2] at this
 exact A1 C C I Av ⟨by rw [decide_eq_true he],rfl⟩
theorem RepV_ok{nd:Int}{es:List Pt}(hl:Sl κ I (.slice ea es.length ec) es)(hm:Sl κ I (.slice na (coreN nd es).length nc) (coreN nd es))(hG:GrOk nd es)(hT:TabRd κ I 0 tzCells):eu prog κ 259 [.agg #[e7 nd,.slice ea es.length ec,.slice na (coreN nd es).length nc]] I (λr J=>r = .bool true/\I=J):=by
 have Z:=checkG_ok.2 hG
 refine Ce1 Tryz.func259 C C ?_
 refine Af<|Ge1 (Bc (cs:=[_,_,_]) C C C) λb1=>Ga C<|Ad<|Af<|Gf fld40_0 C<|Gl2 ty38 ?_
 refine Gc2 (Aj c_ C C<|CNumbers_ok (nd:=nd) (A6 hl)<|Bg hT Av) λaa ab=>?_
 refine Gm C<|Gr (Ak C C)<|Gr (Ak C C)<|Ga C<|Ga C<|Ad<|Af<|Gm C<|Gr (Bs C C)<|Gm C<|Br (d:=13) C (λM=>?_)<|λM=>?_
 ·refine e9 (Ai C) (e9 (Ac fld40_1 C)<|e9 (A7 ty22) ?_)
  refine Dm (Ch C C C) (Aj c_ C C<|EqN_ok (xs:=coreN nd es) (ys:=coreN nd es) Bh<|A6 hm) ?_
  rintro _ _ ⟨_,_,⟨rfl,rfl⟩,rfl,rfl⟩
  exact Gr (A3 C C)<|Ga C<|Ad<|Am (S1 2 C)<|Ay<|A1 C C I Av ⟨by first|rfl|(simp;done)|exact absurd Z asm,rfl⟩
 exact eb<|eb<|eb<|eb<|Gr (Bd C C)<|Ga C<|Ad<|Am (S1 2 C)<|Ay<|A1 C C I Av ⟨by first|rfl|(simp;done)|exact absurd Z asm,rfl⟩
theorem RAsked_ok{nd:Int}{M:Option Addr}{es:List Pt}(hl:Sl κ I (.slice Z es.length ec) es)(hm:Sl κ I (.slice M (coreN nd es).length nc) (coreN nd es))(hG:GrOk nd es){u v:Int}(he:endsP nd u v)(hT:TabRd κ I 0 tzCells):eu prog κ 260 [.agg #[e7 nd,.slice Z es.length ec,.slice M (coreN nd es).length nc],e7 u,e7 v] I (λr J=>r=e7 0/\I=J):=by
 refine Ce3 Tryz.func260 C C ?_
 refine Af<|Ge1 (Bc (cs:=[_,_,_]) C C C) λb1=>Ga C<|Ad<|Ap<|A0<|Af<|Gl3 ty40 ?_
 refine Gc0 (Aj c_ C C<|RepV_ok (nd:=nd) (A6 hl) (A6 hm) hG<|Bg hT Av) ?_
 refine Gr (Cr C)<|Ga C<|Ad<|Dw C<|Af<|Gf fld40_0 C<|Gf fld38_0 C<|Gl ef ?_
 refine Gm C<|Gm C<|Gc0 (Aj c_ C C<|Ends_ok nd u v) ?_
 refine Gr (Ea C)<|Ga C<|Ad<|Am (S1 11 C)<|A8 C (λc11=>?_)<|λc11=>?_
 ·exact Af<|Ga C<|Ad<|Ay<|Be<|Aq<|A1 C C I Av ⟨by first|rfl|exact absurd he asm,rfl⟩
 exact Aw<|Al<|Ah<|Af<|Ga C<|Ad<|Ay<|A1 C C I Av ⟨by first|rfl|exact absurd he asm,rfl⟩
theorem RInsert_ok{nd:Int}{es:List Pt}(hl:Sl κ I (.slice ea es.length ec) es)(hm:Sl κ I (.slice na (coreN nd es).length nc) (coreN nd es))(hG:GrOk nd es){u v:Int}(he:endsP nd u v)(hn:edgeP u v∉es)(hT:TabRd κ I 0 tzCells):eu prog κ 256 [.agg #[e7 nd,.slice ea es.length ec,.slice na (coreN nd es).length nc],e7 u,e7 v] I (λr J=>∃(ga:Option Addr) (gc:Nat) (a:Option Addr) (c:Nat) (w:Value),r = .tuple #[.agg #[e7 nd,.slice ga (insB Pt.lt es (edgeP u v)).length gc,.slice a (coreN nd (insB Pt.lt es (edgeP u v))).length c],w,e7 0]/\J=vc 3 (.slice a (coreN nd (insB Pt.lt es (edgeP u v))).length c) (coreN nd (insB Pt.lt es (edgeP u v)))::vc 105 (.slice ga (insB Pt.lt es (edgeP u v)).length gc) (insB Pt.lt es (edgeP u v))::I):=by
 refine Ce3 Tryz.func256 C C ?_
 refine Af<|Ge1 (Bc (cs:=[_,_,_]) C C C) λb1=>Ge1 (A2 ty40 C) λb2=>Ga C<|Ga C<|Ad<|Ap<|Af<|Gl3 ty40 ?_
 refine Gm C<|Gm C<|Gc0 (Aj c_ C C<|RAsked_ok (nd:=nd) (u:=u) (v:=v) (A6 hl) (A6 hm) hG he<|Bg hT Av) ?_
 refine Ga C<|Ad<|Af<|Gm C<|Gr (Bn C C)<|Ad<|Am (S6 19 9 6 3 1 2 C C C C C C)<|A8 C (λad=>?_)<|λad=>?_
 ·refine Af (Gr (Bp (cells:=[_,_,_]) ty40 Dq pl40 C C)<|Gm C<|Ge0 (C9 ty40) ?_)
  refine Ga C<|Ga C<|Ad<|Ay<|Aq ?_
  exact absurd rfl asm
 refine Aw<|Ah<|Af<|Gf fld40_0 C<|Gl2 ty38 ?_
 refine Gm C<|Gm C<|G.e (Aj c_ C C<|AddG_yes (nd:=nd) (u:=u) (v:=v) (A6 hl) (add_zero hG he hn)<|by have:=edges_le hG;omega) ?_
 rintro _ _ ⟨_,_,⟨M,aa,rfl,rfl⟩,rfl,rfl⟩
 refine Gm C<|Gr (Ak C C)<|Gr (Ak C C)<|Ge1 (A2 ty38 C) λb5=>Ge0 (Da ty38) ?_
 refine Ga C<|Ad<|Am (S6 11 10 6 3 1 2 C C C C C C)<|Ap<|Af<|Gm C<|Gr (Bn C C)<|Ad<|A8 C (λae=>?_)<|λae=>?_
 ·refine Af (Gr (Bp (cells:=[_,_,_]) ty40 Dq pl40 C C)<|Gm C<|Ge0 (C9 ty40) ?_)
  refine Ga C<|Ga C<|Ad<|Ay<|Aq ?_
  exact absurd rfl asm
 refine Aw<|Ah<|Af<|Gl3 ty40 ?_
 refine Gl2 ty38 ?_
 refine Gm C<|Gm C<|G.e (Aj c_ C C<|RIns_ok (nd:=nd) (u:=u) (v:=v) (A6 hl) (A6 hm) Bh (OneE.add hG he hn)<|Bg hT Av) ?_
 rintro _ _ ⟨_,_,⟨ab,Z,w8,rfl,rfl⟩,rfl,rfl⟩
 refine Gm C<|Gr (Ak C C)<|Gr (Ak C C)<|Ge1 (A2 ty40 C) λb9=>Ge0 (C9 ty40) ?_
 refine Ga C<|Ad<|Am (S3 13 12 6 C C C)<|Af<|Gl3 ty40 ?_
 refine Gm C<|Ge0 (C9 ty40) ?_
 exact Ga C<|Ga C<|Ad<|Ay<|C4 C ty40 C C C mm C (vc 3 (.slice ab (coreN nd<|insB Pt.lt es<|edgeP u v).length Z) (coreN nd<|insB Pt.lt es<|edgeP u v)::vc 105 (.slice M (insB Pt.lt es<|edgeP u v).length aa) (insB Pt.lt es<|edgeP u v)::I) Bm ⟨M,aa,ab,Z,_,rfl,rfl⟩
theorem RDelete_ok{nd:Int}{es:List Pt}(hl:Sl κ I (.slice ea es.length ec) es)(hm:Sl κ I (.slice na (coreN nd es).length nc) (coreN nd es))(hG:GrOk nd es){u v:Int}(he:endsP nd u v)(hn:edgeP u v∈es)(hT:TabRd κ I 0 tzCells):eu prog κ 257 [.agg #[e7 nd,.slice ea es.length ec,.slice na (coreN nd es).length nc],e7 u,e7 v] I (λr J=>∃(ga:Option Addr) (gc:Nat) (a:Option Addr) (c:Nat) (w:Value),r = .tuple #[.agg #[e7 nd,.slice ga (without es (edgeP u v)).length gc,.slice a (coreN nd (without es (edgeP u v))).length c],w,e7 0]/\J=vc 3 (.slice a (coreN nd (without es (edgeP u v))).length c) (coreN nd (without es (edgeP u v)))::vc 105 (.slice ga (without es (edgeP u v)).length gc) (without es (edgeP u v))::I):=by
 refine Ce3 Tryz.func257 C C ?_
 refine Af<|Ge1 (Bc (cs:=[_,_,_]) C C C) λb1=>Ge1 (A2 ty40 C) λb2=>Ga C<|Ga C<|Ad<|Ap<|Af<|Gl3 ty40 ?_
 refine Gm C<|Gm C<|Gc0 (Aj c_ C C<|RAsked_ok (nd:=nd) (u:=u) (v:=v) (A6 hl) (A6 hm) hG he<|Bg hT Av) ?_
 refine Ga C<|Ad<|Af<|Gm C<|Gr (Bn C C)<|Ad<|Am (S6 19 9 6 3 1 2 C C C C C C)<|A8 C (λad=>?_)<|λad=>?_
 ·refine Af (Gr (Bp (cells:=[_,_,_]) ty40 Dq pl40 C C)<|Gm C<|Ge0 (C9 ty40) ?_)
  refine Ga C<|Ga C<|Ad<|Ay<|Aq ?_
  exact absurd rfl asm
 refine Aw<|Ah<|Af<|Gf fld40_0 C<|Gl2 ty38 ?_
 refine Gm C<|Gm C<|Gc2 (Aj c_ C C<|RemG_yes (nd:=nd) (u:=u) (v:=v) (A6 hl) (rem_zero hG he hn)<|by have:=edges_le hG;omega) λM aa=>?_
 refine Gm C<|Gr (Ak C C)<|Gr (Ak C C)<|Ge1 (A2 ty38 C) λb5=>Ge0 (Da ty38) ?_
 refine Ga C<|Ad<|Am (S6 11 10 6 3 1 2 C C C C C C)<|Ap<|Af<|Gm C<|Gr (Bn C C)<|Ad<|A8 C (λae=>?_)<|λae=>?_
 ·refine Af (Gr (Bp (cells:=[_,_,_]) ty40 Dq pl40 C C)<|Gm C<|Ge0 (C9 ty40) ?_)
  refine Ga C<|Ga C<|Ad<|Ay<|Aq ?_
  exact absurd rfl asm
 refine Aw<|Ah<|Af<|Gl3 ty40 ?_
 refine Gl2 ty38 ?_
 refine Gm C<|Gm C<|G.e (Aj c_ C C<|RRem_ok (nd:=nd) (u:=u) (v:=v) (A6 hl) (A6 hm) Bh (OneE.rem hG he hn)<|Bg hT Av) ?_
 rintro _ _ ⟨_,_,⟨ab,Z,w8,rfl,rfl⟩,rfl,rfl⟩
 refine Gm C<|Gr (Ak C C)<|Gr (Ak C C)<|Ge1 (A2 ty40 C) λb9=>Ge0 (C9 ty40) ?_
 refine Ga C<|Ad<|Am (S3 13 12 6 C C C)<|Af<|Gl3 ty40 ?_
 refine Gm C<|Ge0 (C9 ty40) ?_
 exact Ga C<|Ga C<|Ad<|Ay<|C4 C ty40 C C C mm C (vc 3 (.slice ab (coreN nd<|without es<|edgeP u v).length Z) (coreN nd<|without es<|edgeP u v)::vc 105 (.slice M (without es<|edgeP u v).length aa) (without es<|edgeP u v)::I) Bm ⟨M,aa,ab,Z,_,rfl,rfl⟩
end Go.Sl
namespace Go.Sl
section
variable {ys:List Int}{m:Nat}{k:Int}
theorem srt_le(hs:ys.Pairwise λa b=>a<=b){i j:Nat}(M:i<=j)(Z:j<ys.length):e_ ys i<=e_ ys j:=by
 by_cases e:i=j
 ·subst e;exact Int.le_refl _
 rw [at_get ys i (by omega),at_get ys j Z]
 exact (List.pairwise_iff_getElem.1 hs) i j (by omega) Z<|by omega
theorem srt_cnt_ge(hs:ys.Pairwise λa b=>a<=b)(hm:m<ys.length)(h:k<=e_ ys m):ys.length - m<=(ys.filter λx=>decide (k<=x)).length:=by
 have Z:(ys.drop m).filter (λx=>decide<|k<=x)=ys.drop m:=List.filter_eq_self.2 λx M=>by
  obtain ⟨i,hi,rfl⟩:=List.getElem_of_mem M
  rw [List.length_drop] at hi
  rw [List.getElem_drop,←at_get ys (m+i) (by omega)]
  have:=srt_le hs (i:=m) (j:=m+i) (by omega) (by omega)
  exact decide_eq_true<|by omega
 have h2:ys.filter (λx=>decide<|k<=x)=(ys.take m).filter (λx=>decide<|k<=x)++(ys.drop m).filter (λx=>decide<|k<=x):=by rw [←List.filter_append,List.take_append_drop]
 rw [h2,Z,List.length_append,List.length_drop];omega
theorem srt_cnt_le(hs:ys.Pairwise λa b=>a<=b)(hm:m<ys.length)(h:e_ ys m<k):(ys.filter λx=>decide (k<=x)).length<=ys.length - 1 - m:=by
 have Z:(ys.take<|m+1).filter (λx=>decide<|k<=x)=[]:=List.filter_eq_nil_iff.2 λx M=>by
  obtain ⟨i,hi,rfl⟩:=List.getElem_of_mem M
  rw [List.length_take] at hi
  rw [List.getElem_take,←at_get ys i (by omega)]
  have:=srt_le hs (i:=i) (j:=m) (by omega) (by omega)
  simp;omega
 have h2:ys.filter (λx=>decide<|k<=x)=(ys.take<|m+1).filter (λx=>decide<|k<=x)++(ys.drop<|m+1).filter (λx=>decide<|k<=x):=by rw [←List.filter_append,List.take_append_drop]
 have h3:=List.length_filter_le (λx=>decide<|k<=x) (ys.drop<|m+1)
 rw [List.length_drop] at h3
 rw [h2,Z,List.nil_append];omega
theorem hi_of{xs:List Int}{h:Nat}(hp:ys.Perm xs)(hs:ys.Pairwise λa b=>a<=b)(hh:h<=ys.length)(Z:0<h->(h:Int) - 1<e_ ys (((ys.length - h:Nat)):Int))(M:h<ys.length->e_ ys (((ys.length - 1 - h:Nat)):Int)<=h):HI xs h:=by
 have hf:∀k:Int,((xs.filter λx=>decide<|k<=x).length:Int)=((ys.filter λx=>decide<|k<=x).length:Int):=λk=>by rw [(hp.filter _).length_eq]
 refine ⟨by omega,?_,λk hk=>?_⟩
 ·rw [hf]
  by_cases h0:h=0
  ·omega
  have:=srt_cnt_ge hs (m:=ys.length - h) (k:=(h:Int)) (by omega) (by have:=Z (by omega);omega)
  omega
 rw [hf] at hk
 refine Classical.byContradiction λhlt=>?_
 by_cases hl:h<ys.length
 ·have:=srt_cnt_le hs (m:=ys.length - 1 - h) (k:=k) (by omega) (by have:=M hl;omega)
  omega
 have:=List.length_filter_le (λx=>decide<|k<=x) ys
 omega
end
end Go.Sl
namespace Go.Sl
open Go.Proofs
set_option maxRecDepth 4000
theorem H_ok{κ:Ctx}{I:List Item}{a0:Option Addr}{c0:Nat}{xs:List Int}(hl:Sl κ I (.slice a0 xs.length c0) xs)(hb:xs.length<=1000000):eu prog κ 291 [.slice a0 xs.length c0] I (λr J=>∃h:Nat,r=e7 (h:Int)/\HI xs h/\I=J):=by
 have Z:=sortZ_len xs
 refine Ce1 Tryz.func291 C C ?_
 refine Af<|Ga C<|Ad<|Af<|Gm C<|Gc2 (Aj c_ C C<|CloneI (xs:=xs) (A6 hl) om) λad ae=>?_
 refine Ga C<|Ad<|Af<|Gm C<|Gc1 (Aj c_ C C<|Cn (J:=vc 3 (.slice ad xs.length ae) (xs)::I) Bm<|sortI_ok om) ?_
 refine Ad<|Af<|Ga C<|Ad<|Ap<|A0<|B1 (σ:=Nat) (λs=>([(0,.slice ad xs.length ae),(3,e7 ((s:Nat):Int))]:Env)) (λs=>vc 3 (.slice ad xs.length ae) (sortZ xs)::I) (λs=>(s<=xs.length)/\(0<s->(s:Int) - 1<e_ (sortZ xs) (((xs.length - s:Nat)):Int))) (λs=>xs.length - s) 0 ⟨om,(λh=>absurd h om)⟩ (Aa C<|Aa Cd Bl) Bf ?_
 rintro h hp
 obtain ⟨hh,aa⟩:=hp
 have ai:h<xs.length->(((xs.length - (h+1):Nat)):Int)=(xs.length:Int) - 1 - (h:Int):=λh=>by omega
 have ab:h<xs.length->(((xs.length - 1 - h:Nat)):Int)=(xs.length:Int) - 1 - (h:Int):=λh=>by omega
 refine Ap<|Af<|Gm C<|Gm C<|Gr (Bj Ab C)<|Gr (Bb C C)<|Gm C<|Br (d:=12) C (λah=>?_)<|λah=>?_
 ·refine e9 (Ai C) (e9 (Ai C)<|e9 (Bj Ab C)<|e9 (Rsu C C)<|e9 (Ai C)<|e9 (Rsu C C)<|e9 (Az (α:=Int) (xs:=sortZ xs) Ab ef C C Bh om om)<|e9 (Bw (xs:=sortZ xs) ef C Bh om om)<|e9 (Ai C)<|e9 (Ck C C)<|Gr (A3 C C)<|Ad<|Am (S3 23 0 3 C C C)<|A8 C (λaj=>?_)<|λaj=>?_)
  ·exact Aw<|Ah<|A0<|Au<|Gm C<|Gr (Rad C C)<|Ga C<|Bo<|Al<|Cf ((h+1)) ⟨om,(λ_=>by rw [ai om];omega)⟩
  exact Bx<|Ao<|Ao<|A9<|Ah<|Af<|Gm C<|Ga C<|Ad<|Ay<|A1 C C I Av ⟨h,rfl,hi_of (sortZ_perm xs) (sortZ_asc xs) om (λM=>by rw [Z];exact aa M)<|λM=>by rw [Z] at M ⊢; rw [ab M];omega,rfl⟩
 exact eb<|eb<|eb<|eb<|eb<|eb<|eb<|eb<|eb<|eb<|Gr (Bd C C)<|Ad<|Am (S3 23 0 3 C C C)<|Dw C<|Bx<|Ao<|Ao<|A9<|Ah<|Af<|Gm C<|Ga C<|Ad<|Ay<|A1 C C I Av ⟨h,rfl,hi_of (sortZ_perm xs) (sortZ_asc xs) om (λM=>by rw [Z];exact aa M)<|λM=>by rw [Z] at M ⊢; rw [ab M];omega,rfl⟩
end Go.Sl
namespace Go.Sl
section
variable {α:Type}[Enc α]{κ:Ctx}{I:List Item}
theorem Fit.dropvc{e:TypeId}{a:Option Addr}{n c k:Nat}{xs:List α}(hn:n=xs.length)(hk:k<=xs.length):Fit κ (vc e (.slice a n c) xs::I) (vc e (.slice (adrop a c k (Enc.sz α)) (xs.drop k).length (c - k)) (xs.drop k)::I):=by
 subst hn
 refine Fit.upd (At.head _ _ _) λw h=>⟨?_,λj ⟨o,m,c',hv,hc⟩=>?_⟩
 ·obtain ⟨a',cap,hv,h1,h2,h3,h4⟩:=h
  cases hv
  refine ⟨_,c - k,rfl,cells_length _,by rw [List.length_drop];omega,by omega,λhc=>?_⟩
  obtain ⟨b,off,M,Z,hb,h5,h6⟩:=h4 (by omega)
  refine ⟨b,off+k*Enc.sz α,M,by rw [Z];unfold adrop;rw [if_neg (by omega)];simp [addr_add],hb,?_,λj u hj=>?_⟩
  ·have e1:(c - k)*Enc.sz α+k*Enc.sz α=c*Enc.sz α:=by rw [←Nat.add_mul];congr 1;omega
   omega
  rw [cells_drop,List.getElem?_drop] at hj
  rw [Nat.add_assoc]
  exact h6 _ u hj
 injection hv with Z hm hcc
 subst hcc
 unfold adrop at Z
 rw [if_neg (by omega)] at Z
 obtain ⟨a',cap,hv,h1,h2,h3,h4⟩:=h
 cases hv
 obtain ⟨b,off,M,h5,hb,_⟩:=h4 (by omega)
 subst h5
 simp only [Option.map_some,Option.some.injEq,addr_add] at Z
 injection Z with hb1
 subst hb1
 exact ⟨off,_,c,rfl,by omega⟩
end
end Go.Sl
namespace Go.Sl
open Go.Proofs
set_option maxRecDepth 4000
variable{b ec nc:Nat}{qs:List Int}{M ea:Option Addr}{nd:Int}{es:List Pt}
variable {κ:Ctx}{I:List Item}
theorem QPut_ok{la:Option Addr}{lc:Nat}{i:Int}(hb:qs.length<=1000000000):eu prog κ 292 [e7 i,.pointer (some ⟨b,0,none⟩)] (vc 3 (.slice la qs.length lc) (qs)::e8 b [.slice la qs.length lc] 22::I) (λr J=>∃(a:Option Addr) (c:Nat),r = .tuple #[]/\J=vc 3 (.slice a (qs++[i]).length c) (qs++[i])::e8 b [.slice a (qs++[i]).length c] 22::I):=by
 refine Ce2 Tryz.func292 C C ?_
 refine Au<|Gl ty22 ?_
 refine Gm C<|Ge1 (Co (α:=Int) (cs:=[_]) (xs:=[i]) Ab ef C C dc dc C C C C) λaa=>?_
 refine Ge2 (Cp (α:=Int) (e:=3) (xs:=qs) (ys:=([i]:List Int)) Ab ef C C C mm Bh lcn dc C<|λ_ _=>am) λM Z=>?_
 refine Ge0 (B6 (cs:=[_]) (vs:=[_]) (cs':=[_]) ty22) ?_
 exact Bo<|V.end0 C (vc 3 (.slice M (qs++[i]).length Z) (qs++[i])::e8 b [.slice M (qs++[i]).length Z] 22::I) Bm ⟨M,Z,rfl,rfl⟩
theorem QTake_ok{Z:Nat}(hb:qs.length<=1000000000):eu prog κ 293 [.pointer (some ⟨b,0,none⟩)] (vc 3 (.slice M qs.length Z) (qs)::e8 b [.slice M qs.length Z] 22::I) (λr J=>(qs=[]/\r = .tuple #[e7 0,.bool false]/\J=vc 3 (.slice M qs.length Z) qs::e8 b [.slice M qs.length Z] 22::I)\/(0<qs.length/\∃(a:Option Addr) (c:Nat),r = .tuple #[e7 (e_ qs 0),.bool true]/\J=vc 3 (.slice a (qs.drop 1).length c) (qs.drop 1)::e8 b [.slice a (qs.drop 1).length c] 22::I)):=by
 refine Ce1 Tryz.func293 C C ?_
 refine Af<|Ga C<|Ga C<|Ad<|Ap<|Af<|Gl ty22 ?_
 refine Gr (Bj Ab C)<|Gr (Bs C C)<|Ad<|A8 C (λc6=>?_)<|λc6=>?_
 ·exact Af<|Ga C<|Ga C<|Ad<|Ay<|Aq<|De C C C (vc 3 (.slice M qs.length Z) qs::e8 b [.slice M qs.length Z] 22::I) Bm<|.inl ⟨List.length_eq_zero_iff.1 om,rfl,rfl⟩
 refine Aw<|Ah<|Af<|Gl ty22 ?_
 refine Gr (Az (α:=Int) (xs:=qs) Ab ef C C Bh om om)<|Gr (Bw (xs:=qs) ef C Bh om om)<|Ga C<|Ad<|Af<|Gl ty22 ?_
 refine Gr (Es (α:=Int) (xs:=qs) (l:=1) Ab ef C C om Bh om)<|Ge0 (B6 (cs:=[_]) (vs:=[_]) (cs':=[_]) ty22) ?_
 exact Ad<|Af<|Gm C<|Ga C<|Ga C<|Ad<|Am (S2 2 1 C C)<|Ay<|De C C C (vc 3 (.slice (adrop M Z 1<|Enc.sz Int) (List.drop 1 qs).length (Z - 1)) (qs.drop 1)::e8 b [.slice (adrop M Z 1<|Enc.sz Int) (List.drop 1 qs).length (Z - 1)] 22::I) (Cv Bm<|Fit.dropvc (α:=Int) C om)<|.inr ⟨by omega,(adrop M Z 1<|Enc.sz Int),(Z - 1),rfl,rfl⟩
theorem Queue_ok  :
    eu prog κ 290 [] I (λr J=>∃b:Nat,r = .tuple #[.func (.func 292) #[] #[.pointer (some ⟨b,0,none⟩)],.func (.func 293) #[] #[.pointer (some ⟨b,0,none⟩)]]/\J=vc 3 (.slice none ([]:List Int).length 0) ([]:List Int)::e8 b [.slice none ([]:List Int).length 0] 22::I):=by
 refine Ce0 Tryz.func290 C C ?_
 exact Af<|Ga C<|Ga C<|Ad<|Af<|Ge1 (A2 ty22 C) λb1=>Ad<|Af<|Gr (Ds C C)<|Ga C<|Ad<|Af<|Gr (Ds C C)<|Ga C<|Ad<|Af<|Gm C<|Gm C<|Ga C<|Ga C<|Ad<|Ay<|De C C C (vc 3 (.slice none ([]:List Int).length 0) ([]:List Int)::e8 b1 [.slice none ([]:List Int).length 0] 22::I) (Cv Bm<|Cm (α:=Int) _ _) ⟨b1,rfl,rfl⟩
variable {κ:Ctx}{I:List Item}
theorem MV_ok{na:Option Addr}(hl:Sl κ I (.slice ea es.length ec) es)(hm:Sl κ I (.slice na (trussG nd es).length nc) (trussG nd es))(hG:GrOk nd es)(hT:TabRd κ I 0 tzCells):eu prog κ 285 [.agg #[e7 nd,.slice ea es.length ec,.slice na (trussG nd es).length nc]] I (λr J=>r = .bool true/\I=J):=by
 have Z:=checkG_ok.2 hG
 have aa:=edges_le hG
 refine Ce1 Tryz.func285 C C ?_
 refine Af<|Ge1 (Bc (cs:=[_,_,_]) C C C) λb1=>Ga C<|Ad<|Af<|Gf fld41_0 C<|Gl2 ty38 ?_
 refine G.e (Aj c_ C C<|TNumbers_ok (nd:=nd) (A6 hl) om<|Bg hT Av) ?_
 rintro _ _ ⟨_,_,⟨ab,ad,rfl,rfl⟩,rfl,rfl⟩
 refine Gm C<|Gr (Ak C C)<|Gr (Ak C C)<|Ga C<|Ga C<|Ad<|Af<|Gm C<|Gr (Bs C C)<|Gm C<|Br (d:=13) C (λM=>?_)<|λM=>?_
 ·refine e9 (Ai C) (e9 (Ac fld41_1 C)<|e9 (A7 ty22) ?_)
  refine Dm (Ch C C C) (Aj c_ C C<|EqN_ok (xs:=trussG nd es) (ys:=trussG nd es) Bh<|A6 hm) ?_
  rintro _ _ ⟨_,_,⟨rfl,rfl⟩,rfl,rfl⟩
  exact Gr (A3 C C)<|Ga C<|Ad<|Am (S1 2 C)<|Ay<|A1 C C I Av ⟨by first|rfl|(simp;done)|exact absurd Z asm,rfl⟩
 exact eb<|eb<|eb<|eb<|Gr (Bd C C)<|Ga C<|Ad<|Am (S1 2 C)<|Ay<|A1 C C I Av ⟨by first|rfl|(simp;done)|exact absurd Z asm,rfl⟩
theorem MAsked_ok{Z:Option Addr}(hl:Sl κ I (.slice Z es.length ec) es)(hm:Sl κ I (.slice M (trussG nd es).length nc) (trussG nd es))(hG:GrOk nd es){u v:Int}(he:endsP nd u v)(hT:TabRd κ I 0 tzCells):eu prog κ 286 [.agg #[e7 nd,.slice Z es.length ec,.slice M (trussG nd es).length nc],e7 u,e7 v] I (λr J=>r=e7 0/\I=J):=by
 refine Ce3 Tryz.func286 C C ?_
 refine Af<|Ge1 (Bc (cs:=[_,_,_]) C C C) λb1=>Ga C<|Ad<|Ap<|A0<|Af<|Gl3 ty41 ?_
 refine Gc0 (Aj c_ C C<|MV_ok (nd:=nd) (A6 hl) (A6 hm) hG<|Bg hT Av) ?_
 refine Gr (Cr C)<|Ga C<|Ad<|Dw C<|Af<|Gf fld41_0 C<|Gf fld38_0 C<|Gl ef ?_
 refine Gm C<|Gm C<|Gc0 (Aj c_ C C<|Ends_ok nd u v) ?_
 refine Gr (Ea C)<|Ga C<|Ad<|Am (S1 11 C)<|A8 C (λc11=>?_)<|λc11=>?_
 ·exact Af<|Ga C<|Ad<|Ay<|Be<|Aq<|A1 C C I Av ⟨by first|rfl|exact absurd he asm,rfl⟩
 exact Aw<|Al<|Ah<|Af<|Ga C<|Ad<|Ay<|A1 C C I Av ⟨by first|rfl|exact absurd he asm,rfl⟩
theorem MOpen_ok(hl:Sl κ I (.slice ea es.length ec) es)(hG:GrOk nd es)(hT:TabRd κ I 0 tzCells):eu prog κ 42 [.agg #[e7 nd,.slice ea es.length ec]] I (λr J=>∃(ga:Option Addr) (gc:Nat) (a:Option Addr) (c:Nat),r = .tuple #[.agg #[e7 nd,.slice ga es.length gc,.slice a (trussG nd es).length c],e7 0]/\J=vc 3 (.slice a (trussG nd es).length c) (trussG nd es)::vc 105 (.slice ga es.length gc) es::I):=by
 have ad:=checkG_ok.2 hG
 have ae:=edges_le hG
 refine Ce1 Tryz.func42 C C ?_
 refine Af<|Ge1 (Bc (cs:=[_,_]) C C C) λb1=>Ge1 (A2 ty41 C) λb2=>Ga C<|Ad<|Af<|Gl2 ty38 ?_
 refine G.e (Aj c_ C C<|TNumbers_ok (nd:=nd) (A6 hl) om<|Bg hT Av) ?_
 rintro _ _ ⟨_,_,⟨aa,ab,rfl,rfl⟩,rfl,rfl⟩
 refine Gm C<|Gr (Ak C C)<|Gr (Ak C C)<|Ga C<|Ga C<|Ad<|Ap<|Af<|Gm C<|Gr (Bn C C)<|Ad<|A8 C (λc12=>?_)<|λc12=>?_
 ·refine Af (Gr (Bp (cells:=[_,_,_]) ty41 C7 pl41 C C)<|Gm C<|Ge0 (C9 ty41) ?_)
  exact Ga C<|Ad<|Am (S2 3 2 C C)<|Ay<|Aq<|C0 C ty41 C C mm C I Av<|by exfalso;first|exact absurd ad asm|omega
 refine Aw<|Ah<|Ap<|Bq mixed<|Ee 8<|Dr 0 C (Ac fld38_0 C)<|Dr 1 C (A7 ef) ?_
 refine Dr 2 C (Ac fld38_1 C)<|Dr 3 C (A7 ty36) ?_
 refine Dr 6 C (Ai C)<|Ds1 4<|Sc2 C (Aj c_ C C<|CloneE (xs:=es) (A6 hl) om) λZ M=>?_
 refine Dr 5 C (Bp (cells:=[_,_]) ty38 C2 pl38 C C)<|Dr 7 C (Bp (cells:=[_,_,_]) ty41 C7 pl41 C C)<|Ct kr ?_
 refine Ae 8 C (C9 ty41) ?_
 rintro _ _ ⟨rfl,rfl⟩
 refine Du (i:=9) kr C (Bk C) C C (Ba C) ?_
 refine Cu kr ?_
 exact Ah<|Am (S2 3 2 C C)<|Ay<|C0 C ty41 C C mm C (vc 3 (.slice aa (trussG nd es).length ab) (trussG nd es)::vc 105 (.slice Z es.length M) es::I) Bm ⟨Z,M,aa,ab,rfl,rfl⟩
end Go.Sl
