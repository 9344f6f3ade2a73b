/- A part of the proofs of statements of this seat: contracts of functions, and the plain laws that they lean on. No conditions. -/
import Derived.Test.YtoagcglbkeomgaaGreatDoorK16
set_option linter.unusedVariables false
set_option linter.unusedSimpArgs false
set_option linter.unusedSectionVars false
open Go.Proofs.Tryz (prog)
set_option maxHeartbeats 2000000
namespace Go.Sl
open Go.Proofs
set_option maxRecDepth 4000
variable{k nd u v x:Int}{es:List Pt}{L num out:List Int}{j:Nat}
def NBX(nd:Int)(es:List Pt)(u v x y:Int):Prop:=y∈nbG nd es x\/(x=u/\y=v)\/(x=v/\y=u)
def rowsU(nd:Int)(es:List Pt)(u v:Int):List (BitVec 64):=List.set (List.set (ek nd es) u.toNat (e_ (ek nd es) u ||| bitB v)) v.toNat (e_ (List.set (ek nd es) u.toNat (e_ (ek nd es) u ||| bitB v)) v ||| bitB u)
theorem rowsU_mem(Z:GrOk nd es)(hu:NodeR nd u)(hv:NodeR nd v)(aa:u≠v){y:Int}(M:NodeR nd x):y∈eo (e_ (rowsU nd es u v) x)↔NBX nd es u v x y:=by
 unfold NodeR at hu hv M
 have hl:=Z.rows.len
 have hr:=Z.rng
 have hb:y∈eo (e_ (ek nd es) x)↔y∈nbG nd es x:=by
  rw [Z.rows.mem M.1 M.2,mem_nb Z]
  refine ⟨λh=>h.2,λh=>⟨?_,h⟩⟩
  have:=nbe_rng Z ((mem_nb Z).2 h);omega
 unfold rowsU NBX
 rw [Ee _ v x _ hv.1 M.1 (by rw [List.length_set];omega)]
 by_cases q1:v=x
 ·rw [if_pos q1,mem_orBit om,Ee _ u v _ hu.1 hv.1 om,if_neg aa,q1,hb]
  constructor
  ·rintro (h|h)
   ·exact .inl h
   exact .inr<|.inr ⟨rfl,h⟩
  rintro (h|h|h)
  ·exact .inl h
  ·omega
  exact .inr h.2
 rw [if_neg q1,Ee _ u x _ hu.1 M.1 om]
 by_cases q2:u=x
 ·rw [if_pos q2,mem_orBit om,q2,hb]
  constructor
  ·rintro (h|h)
   ·exact .inl h
   exact .inr<|.inl ⟨rfl,h⟩
  rintro (h|h|h)
  ·exact .inl h
  ·exact .inr h.2
  omega
 rw [if_neg q2,hb]
 constructor
 ·exact .inl
 rintro (h|h|h)
 ·exact h
 ·exact absurd h.1.symm q2
 exact absurd h.1.symm q1
structure RgI (NB:Int->Int->Prop) (P:Int->Prop) (L1:List Int) (F:BitVec 64) (sk:List Int):Prop where
 lev:∀x∈eo F,P x
 seed:∀x∈L1,x∈eo F
 st:∀x∈sk,x∈eo F
 cl:∀x∈eo F,x∈sk\/∀y,NB x y->P y->y∈eo F
section
variable {NB:Int->Int->Prop}{P:Int->Prop}{L1 L2 st:List Int}{F F2:BitVec 64}
theorem RgI.pop(h:RgI NB P L1 F st)(h0:0<st.length)(hL:∀y,y∈L2↔NB (e_ st ((st.length:Int) - 1)) y/\P y/\y∉eo F)(Z:∀x,x∈eo F2↔x∈eo F\/x∈L2):RgI NB P L1 F2 (st.take (st.length - 1)++L2):=by
 refine ⟨λx hx=>?_,λx hx=>(Z x).2 (.inl<|h.seed x hx),λx hx=>?_,λx hx=>?_⟩
 ·rcases (Z x).1 hx with hx|hx
  ·exact h.lev x hx
  exact ((hL x).1 hx).2.1
 ·rcases List.mem_append.1 hx with hx|hx
  ·exact (Z x).2 (.inl<|h.st x<|List.mem_of_mem_take hx)
  exact (Z x).2 (.inr hx)
 rcases (Z x).1 hx with hx|hx
 ·rcases h.cl x hx with hq|hq
  ·by_cases e:x=e_ st ((st.length:Int) - 1)
   ·refine .inr λy M hP=>?_
    by_cases hyF:y∈eo F
    ·exact (Z y).2 (.inl hyF)
    exact (Z y).2 (.inr<|(hL y).2 ⟨e▸M,hP,hyF⟩)
   refine .inl<|List.mem_append_left _ ?_
   obtain ⟨i,hi,rfl⟩:=List.getElem_of_mem hq
   have aa:i≠st.length - 1:=λq=>e (by rw [show ((st.length:Int) - 1)=((st.length - 1:Nat):Int) by omega,Cn st _ om];congr 1)
   rw [List.mem_iff_getElem]
   exact ⟨i,by rw [List.length_take];omega,by rw [List.getElem_take]⟩
  exact .inr λy M hP=>(Z y).2 (.inl<|hq y M hP)
 exact .inl<|List.mem_append_right _ hx
theorem rg_more(M:∀x,x∈eo F2↔x∈eo F\/x∈L2)(hn:L2.Nodup)(hd:∀x∈L2,x∉eo F):(eo F2).length=(eo F).length+L2.length:=by
 have hp:(eo F2).Perm (eo F++L2):=(List.perm_ext_iff_of_nodup (Di _)<|List.nodup_append.2 ⟨Di _,hn,λa ha b Z e=>hd b Z<|e▸ha⟩).2 λx=>by rw [M,List.mem_append]
 rw [hp.length_eq,List.length_append]
end
theorem or_take{F F2:BitVec 64}(M:j<L.length)(Z:∀x∈L,0<=x/\x<64)(h:∀x,x∈eo F2↔x∈eo F\/x∈L.take j):∀x,x∈eo (F2 ||| bitB (e_ L j))↔x∈eo F\/x∈L.take (j+1):=λx=>by
 rw [mem_orBit (Z _<|B1 om om),h,Cj L j M,List.mem_append,List.mem_singleton,or_assoc]
theorem app_take{st:List Int}(Z:j<L.length)(ho:out=st++L.take j):out++[e_ L j]=st++L.take (j+1):=by rw [ho,Cj L j Z,List.append_assoc]
theorem mem_bitB(h:0<=k/\k<64):x∈eo (bitB k)↔x=k:=by
 have Z:=mem_orBit (m:=0#64) (u:=x) h
 rw [D3] at Z
 have e:(0#64 ||| bitB k)=bitB k:=by simp
 rw [e] at Z
 rw [Z]
 exact ⟨λh=>h.elim (λh=>by cases h) id,.inr⟩
theorem rg_start{NB:Int->Int->Prop}{P:Int->Prop}{L1:List Int}{F:BitVec 64}(hF:∀x,x∈eo F↔x∈eo 0#64\/x∈L1)(ho:out=L1)(hP:∀x∈L1,P x):RgI NB P L1 F out:=by
 have M:∀x,x∈eo F↔x∈L1:=λx=>by rw [hF,D3];simp
 subst ho
 exact ⟨λx Z=>hP x<|(M x).1 Z,λx Z=>(M x).2 Z,λx Z=>(M x).2 Z,λx Z=> .inl<|(M x).1 Z⟩
structure RegX (nd:Int) (es:List Pt) (num:List Int) (u v k:Int) (F:BitVec 64):Prop where
 lev:∀x∈eo F,NodeR nd x/\e_ num x=k
 hu:e_ num u=k->u∈eo F
 hv:e_ num v=k->v∈eo F
 cl:∀x∈eo F,∀y,NBX nd es u v x y->e_ num y=k->y∈eo F
theorem RgI.reg{F ms:BitVec 64}{st:List Int}(hG:GrOk nd es)(hl:(num.length:Int)=nd)(hu:NodeR nd u)(hv:NodeR nd v)
  (hm:∀x,x∈eo ms↔(0<=x/\x<(num.length:Int))/\e_ num x=k) (h:RgI (NBX nd es u v) (λx:Int=>(0<=x/\x<(num.length:Int))/\e_ num x=k) (eo<|(bitB u ||| bitB v) &&& ms) F st) (hs:st.length=0):RegX nd es num u v k F:=by
 unfold NodeR at hu hv
 have hr:=hG.rng
 obtain rfl:=List.length_eq_zero_iff.1 hs
 refine ⟨λx hx=>?_,λM=>h.seed u ?_,λM=>h.seed v ?_,λx hx y Z aa=>?_⟩
 ·have:=h.lev x hx;unfold NodeR;exact ⟨by omega,this.2⟩
 ·rw [mem_andB,mem_orB2,mem_bitB om,hm];exact ⟨.inl rfl,by omega,M⟩
 ·rw [mem_andB,mem_orB2,mem_bitB (k:=v) om,hm];exact ⟨.inr rfl,by omega,M⟩
 refine ((h.cl x hx).resolve_left (by simp)) y Z ⟨?_,aa⟩
 rcases Z with q|q|q
 ·have:=(nbe_rng hG q).2.1;omega
 ·omega
 omega
theorem Region_ok{κ:Ctx}{I:List Item}{ea na:Option Addr}{ec nc:Nat}(hl:Sl κ I (.slice ea es.length ec) es)(hm:Sl κ I (.slice na num.length nc) num)(hG:GrOk nd es)(aq:(num.length:Int)=nd)(hu:NodeR nd u)(hv:NodeR nd v)(a5:u≠v)(hT:TabRd κ I 0 tzCells):eu prog κ 270 [.agg #[e7 nd,.slice ea es.length ec,.slice na num.length nc],e7 u,e7 v] I (λr J=>∃F:BitVec 64,r = .tuple #[U64 F,e7 (min (e_ num u) (e_ num v))]/\RegX nd es num u v (min (e_ num u) (e_ num v)) F/\I=J):=by
 have ba:=hG.rng
 have bk:=hG.rows.len
 have bc:0<=u/\u<nd:=hu
 have bb:0<=v/\v<nd:=hv
 have bf:(rowsU nd es u v).length=(ek nd es).length:=by unfold rowsU;rw [List.length_set,List.length_set]
 refine Ce3 Tryz.func270 C C ?_
 refine Af<|Ge1 (Bg (cs:=[_,_,_]) C C C) λb1=>Ga C<|Ga C<|Ac<|Af<|Gf fld40_0 C<|Gl2 ty38 ?_
 refine G.e (Ak c_ C C<|MRows_ok (nd:=nd)<|A8 hl) ?_
 rintro _ _ ⟨_,_,⟨ab,aa,rfl,rfl⟩,rfl,rfl⟩
 have ay:=rowsB_len nd es
 refine Ga C<|Ac<|Aq<|Bq mixed<|Ef 8<|Dr 0 C (Ai C)<|Dr 1 C (Ai C)<|Dr 2 C (Ax (α:=(BitVec 64)) (xs:=ek nd es) B5 ty207 C C Bf (by first|omega|(have h1:=(M om).1;unfold NodeR at h1;omega))<|by first|omega|(simp only [List.length_set];omega)|(have h1:=(M om).1;unfold NodeR at h1;omega))<|Dr 3 C (B7 (α:=(BitVec 64)) (xs:=ek nd es) (u:=U64 ((e_ (ek nd es) u))) ty207 C Bf (by first|omega|(have h1:=(M om).1;unfold NodeR at h1;omega)) (by first|omega|(simp only [List.length_set];omega)|(have h1:=(M om).1;unfold NodeR at h1;omega)) C)<|Dr 4 C (Ai C)<|Ds1 5<|Se C (Ak c_ C C<|Bit_ok v) ?_
 rintro _ _ ⟨_,_,⟨rfl,rfl⟩,rfl,rfl⟩
 refine ⟨Ay,?_⟩
 refine Dr 6 C (Eb (a:=(e_ (ek nd es) u)) (b:=bitB v) C C)<|Dr 7 C (Ax (α:=(BitVec 64)) (xs:=ek nd es) B5 ty207 C C Bf (by first|omega|(have h1:=(M om).1;unfold NodeR at h1;omega))<|by first|omega|(simp only [List.length_set];omega)|(have h1:=(M om).1;unfold NodeR at h1;omega))<|Cs kr ?_
 refine Ae 8 C (Cu (α:=(BitVec 64)) (xs:=ek nd es) (e:=207) (new:=(e_ (ek nd es) u) ||| (bitB v)) ty207 C C C (by first|omega|(have h1:=(M om).1;unfold NodeR at h1;omega)) (by first|omega|(simp only [List.length_set];omega)|(have h1:=(M om).1;unfold NodeR at h1;omega)) am) ?_
 rintro _ _ ⟨rfl,rfl⟩
 refine Ct kr ?_
 refine Ah<|Ao (S4 8 3 1 2 C C C C)<|Aq<|Bq mixed<|Ef 8<|Dr 0 C (Ai C)<|Dr 1 C (Ai C)<|Dr 2 C (Ax (α:=(BitVec 64)) (xs:=List.set (ek nd es) (u).toNat ((e_ (ek nd es) u) ||| (bitB v))) B5 ty207 C C Bf (by first|omega|(have h1:=(M om).1;unfold NodeR at h1;omega))<|by first|omega|(simp only [List.length_set];omega)|(have h1:=(M om).1;unfold NodeR at h1;omega))<|Dr 3 C (B7 (α:=(BitVec 64)) (xs:=List.set (ek nd es) (u).toNat ((e_ (ek nd es) u) ||| (bitB v))) (u:=U64 ((e_ (List.set (ek nd es) (u).toNat ((e_ (ek nd es) u) ||| (bitB v))) v))) ty207 C Bf (by first|omega|(have h1:=(M om).1;unfold NodeR at h1;omega)) (by first|omega|(simp only [List.length_set];omega)|(have h1:=(M om).1;unfold NodeR at h1;omega)) C)<|Dr 4 C (Ai C)<|Ds1 5<|Se C (Ak c_ C C<|Bit_ok u) ?_
 rintro _ _ ⟨_,_,⟨rfl,rfl⟩,rfl,rfl⟩
 refine ⟨Ay,?_⟩
 refine Dr 6 C (Eb (a:=(e_ (List.set (ek nd es) (u).toNat ((e_ (ek nd es) u) ||| (bitB v))) v)) (b:=bitB u) C C)<|Dr 7 C (Ax (α:=(BitVec 64)) (xs:=List.set (ek nd es) (u).toNat ((e_ (ek nd es) u) ||| (bitB v))) B5 ty207 C C Bf (by first|omega|(have h1:=(M om).1;unfold NodeR at h1;omega))<|by first|omega|(simp only [List.length_set];omega)|(have h1:=(M om).1;unfold NodeR at h1;omega))<|Cs kr ?_
 refine Ae 8 C (Cu (α:=(BitVec 64)) (xs:=List.set (ek nd es) (u).toNat ((e_ (ek nd es) u) ||| (bitB v))) (e:=207) (new:=(e_ (List.set (ek nd es) (u).toNat ((e_ (ek nd es) u) ||| (bitB v))) v) ||| (bitB u)) ty207 C C C (by first|omega|(have h1:=(M om).1;unfold NodeR at h1;omega)) (by first|omega|(simp only [List.length_set];omega)|(have h1:=(M om).1;unfold NodeR at h1;omega)) am) ?_
 rintro _ _ ⟨rfl,rfl⟩
 refine Ct kr ?_
 refine Ah<|Aq<|Bq mixed<|Ef 12<|Dr 0 C (Ad fld40_1 C)<|Dr 1 C (Bb ty22) ?_
 refine Dr 2 C (Ai C)<|Dr 3 C (Ax (α:=Int) (xs:=num) Ab ef C C (A8 hm) (by first|omega|(have h1:=(M om).1;unfold NodeR at h1;omega))<|by first|omega|(simp only [List.length_set];omega)|(have h1:=(M om).1;unfold NodeR at h1;omega))<|Dr 4 C (Br (xs:=num) ef C (A8 hm) (by first|omega|(have h1:=(M om).1;unfold NodeR at h1;omega))<|by first|omega|(simp only [List.length_set];omega)|(have h1:=(M om).1;unfold NodeR at h1;omega))<|Dr 5 C (Ad fld40_1 C)<|Dr 6 C (Bb ty22) ?_
 refine Dr 7 C (Ai C)<|Dr 8 C (Ax (α:=Int) (xs:=num) Ab ef C C (A8 hm) (by first|omega|(have h1:=(M om).1;unfold NodeR at h1;omega))<|by first|omega|(simp only [List.length_set];omega)|(have h1:=(M om).1;unfold NodeR at h1;omega))<|Dr 9 C (Br (xs:=num) ef C (A8 hm) (by first|omega|(have h1:=(M om).1;unfold NodeR at h1;omega))<|by first|omega|(simp only [List.length_set];omega)|(have h1:=(M om).1;unfold NodeR at h1;omega))<|Dr 10 C (Ep C C)<|Dr 11 C (Bd C)<|Dz<|Ah<|Ao (S5 9 8 3 1 2 C C C C C)<|Af<|Gf fld40_1 C<|Eh (J:=vc 207 (.slice ab (ek nd es).length aa) ((rowsU nd es u v))::e8 b1 [e7 nd,.slice ea es.length ec,.slice na num.length nc] 40::I) (Er _) ?_
 have a4:(if (e_ num v)<(e_ num u) then (e_ num v) else (e_ num u))=(min (e_ num u)<|e_ num v):=ifmin _ _
 rw [a4]
 refine Gl ty22 ?_
 refine Gm C<|G.e (Ak c_ C C<|Level_ok (num:=num) (lv:=(min (e_ num u)<|e_ num v)) (A8 hm) om) ?_
 rintro _ _ ⟨_,_,⟨Z,rfl,ah,rfl⟩,rfl,rfl⟩
 refine Ga C<|Ac<|Af<|Ga C<|Ac<|Af<|Gm C<|Gr (Bh B5 C)<|Ge2 (Eff.make0 (α:=Int) (n:=(ek nd es).length) Ab ef C C C om om om C) λa0 a1=>?_
 refine Ga C<|Ac<|Ao (S7 12 11 10 9 8 1 2 C C C C C C C)<|Aq<|Af<|Gm C<|G.e (Ak c_ C C<|Bit_ok u) ?_
 rintro _ _ ⟨_,_,⟨rfl,rfl⟩,rfl,rfl⟩
 refine Gm C<|G.e (Ak c_ C C<|Bit_ok v) ?_
 rintro _ _ ⟨_,_,⟨rfl,rfl⟩,rfl,rfl⟩
 refine Gr (Eb (a:=bitB u) (b:=bitB v) C C)<|Gm C<|Gr (Ed (a:=(bitB u) ||| (bitB v)) (b:=Z) C C)<|Gc2 (Ak c_ C C<|MList_ok (((bitB u) ||| (bitB v)) &&& Z)<|Bm hT Ay) λae ad=>?_
 refine Gr (Bh Ab C)<|Gm C<|Ac<|Ao (S8 64 63 62 12 11 10 9 8 C C C C C C C C)<|Aw<|Bu (σ:=Nat×(BitVec 64)×(Option Addr)×Nat×(List Int)) (λs=>([(8,.slice ab (ek nd es).length aa),(9,e7<|(min (e_ num u)<|e_ num v)),(10,U64 Z),(11,U64<|s.2.1),(12,.slice s.2.2.1 s.2.2.2.2.length s.2.2.2.1),(62,.slice ae (eo<|((bitB u) ||| (bitB v)) &&& Z).length ad),(63,e7<|(((eo<|((bitB u) ||| (bitB v)) &&& Z).length:Nat):Int)),(64,e7 ((s.1:Nat):Int))]:Env)) (λs=>vk 3 ae ad (eo<|((bitB u) ||| (bitB v)) &&& Z)::vk 3 s.2.2.1 s.2.2.2.1 s.2.2.2.2::vc 207 (.slice ab (ek nd es).length aa) ((rowsU nd es u v))::e8 b1 [e7 nd,.slice ea es.length ec,.slice na num.length nc] 40::I) (λs=>(s.1<=(eo<|(bitB u ||| bitB v) &&& Z).length)/\(∀x,x∈eo s.2.1↔x∈eo 0#64\/x∈(eo<|(bitB u ||| bitB v) &&& Z).take s.1)/\(s.2.2.2.2=[]++(eo<|(bitB u ||| bitB v) &&& Z).take s.1)) (λs=>(eo<|(bitB u ||| bitB v) &&& Z).length - s.1) (0,0#64,a0,a1,[]) ⟨om,(λx=>by rw [List.take_zero];simp),rfl⟩ (Aa C<|Aa C<|Aa C<|Aa (Cx C<|by first|rfl|simp)<|Aa (Cx C<|by first|rfl|simp)<|Aa C<|Aa C<|Aa B2 Bi) Bc ?_
 rintro ⟨k,F,a,c,out⟩ hp
 dsimp only at hp ⊢
 obtain ⟨hk,hF,ho⟩:=hp
 have bg:out.length=k:=by rw [ho,List.nil_append,List.length_take];omega
 have bj:=Eu ((bitB u ||| bitB v) &&& Z)
 refine Af<|Gr (A4 C C)<|Ac<|Aq<|A5 C (λa6=>?_)<|λa6=>?_
 ·refine Av (Ah<|Aq<|Aw<|Af<|Gr (Ax (α:=Int) (xs:=eo (((bitB u) ||| (bitB v)) &&& Z)) Ab ef C C Bf (by first|omega|(have h1:=(M om).1;unfold NodeR at h1;omega))<|by first|omega|(simp only [List.length_set];omega)|(have h1:=(M om).1;unfold NodeR at h1;omega))<|Gr (Br (xs:=eo (((bitB u) ||| (bitB v)) &&& Z)) ef C Bf (by first|omega|(have h1:=(M om).1;unfold NodeR at h1;omega))<|by first|omega|(simp only [List.length_set];omega)|(have h1:=(M om).1;unfold NodeR at h1;omega))<|Ga C<|Ac<|Af<|Gm C<|Gm C<|G.e (Ak c_ C C<|Bit_ok<|e_ (eo<|((bitB u) ||| (bitB v)) &&& Z) (k:Int)) ?_)
  rintro _ _ ⟨_,_,⟨rfl,rfl⟩,rfl,rfl⟩
  refine Gr (Eb (a:=F) (b:=bitB (e_ (eo<|((bitB u) ||| (bitB v)) &&& Z) (k:Int))) C C)<|Ga C<|Ac<|Ao (S9 11 14 8 9 10 12 62 63 64 C C C C C C C C C)<|Ar<|Gm C<|Gm C<|Ge1 (Cf (α:=Int) (cs:=[_]) (xs:=[e_ (eo<|((bitB u) ||| (bitB v)) &&& Z) (k:Int)]) Ab ef C C dc dc C C C C) λbh=>?_
  refine Ge2 (Cg (α:=Int) (e:=3) (xs:=out) (ys:=([e_ (eo<|((bitB u) ||| (bitB v)) &&& Z) (k:Int)]:List Int)) Ab ef C C C mm Bf lcn dc C<|λ_ _=>am) λax av=>?_
  exact Ga C<|Bj<|Aj<|Ah<|Ao (S8 12 11 8 9 10 62 63 64 C C C C C C C C)<|Ar<|Gr (Rad C C)<|Gm C<|Bj<|B3 ((k+1),(F ||| (bitB<|e_ (eo<|((bitB u) ||| (bitB v)) &&& Z) (k:Int))),(ax),(av),(out++([e_ (eo<|((bitB u) ||| (bitB v)) &&& Z) (k:Int)]:List Int)))<|by dsimp only;exact ⟨om,(or_take om (λx hx=>Eo hx) hF),(app_take om ho)⟩
 refine Bs<|Al<|Al<|A2<|Ah<|Aq<|Aw<|Bu (σ:=(BitVec 64)×(Option Addr)×Nat×(List Int)) (λs=>([(8,.slice ab (ek nd es).length aa),(9,e7<|(min (e_ num u)<|e_ num v)),(10,U64 Z),(11,U64<|s.1),(12,.slice s.2.1 s.2.2.2.length s.2.2.1)]:Env)) (λs=>vk 3 ae ad (eo<|((bitB u) ||| (bitB v)) &&& Z)::vk 3 s.2.1 s.2.2.1 s.2.2.2::vc 207 (.slice ab (ek nd es).length aa) ((rowsU nd es u v))::e8 b1 [e7 nd,.slice ea es.length ec,.slice na num.length nc] 40::I) (λs=>(RgI (NBX nd es u v) (λx:Int=>(0<=x/\x<(num.length:Int))/\e_ num x=(min (e_ num u)<|e_ num v)) (eo<|(bitB u ||| bitB v) &&& Z) s.1 s.2.2.2)/\(s.2.2.2.length<=(eo s.1).length)) (λs=>2*(64 - (eo s.1).length)+s.2.2.2.length) (F,a,c,out) (show (RgI (NBX nd es u v) (λx:Int=>(0<=x/\x<(num.length:Int))/\e_ num x=(min (e_ num u)<|e_ num v)) (eo<|(bitB u ||| bitB v) &&& Z) (F:BitVec 64) (out:List Int))/\((out:List Int).length<=(eo (F:BitVec 64)).length) from ⟨(rg_start (by rw [List.take_of_length_le om] at hF;exact hF) (by rw [ho,List.nil_append,List.take_of_length_le om])<|λx hx=>(ah x).1 (mem_andB.1 hx).2),(by have h2:=rg_more (F:=0#64) (F2:=F) (L2:=(eo<|(bitB u ||| bitB v) &&& Z)) (by rw [List.take_of_length_le om] at hF;exact hF) (Di _) (λx _=>by rw [D3];simp);rw [D3] at h2;simp only [List.length_nil] at h2;omega)⟩) (Aa C<|Aa C<|Aa C<|Aa (Cx C<|by first|rfl|simp)<|Aa (Cx C<|by first|rfl|simp) Bi) Bc ?_
 rintro ⟨F,a,c,sk⟩ hp
 dsimp only at hp ⊢
 obtain ⟨hR,bi⟩:=hp
 have be:=Eu F
 have M:=λh:0<sk.length=>hR.lev _ (hR.st _<|B1 (xs:=sk) (i:=(sk.length:Int) - 1) om om)
 refine Aq<|Af<|Gm C<|Gr (Bh Ab C)<|Gr (Cc C C)<|Ac<|A5 C (λaz=>?_)<|λaz=>?_
 ·refine Av (Ah<|Aw<|Af<|Gm C<|Gm C<|Gr (Bh Ab C)<|Gr (Rsu C C)<|Gr (Ax (α:=Int) (xs:=sk) Ab ef C C Bf (by first|omega|(have h1:=(M om).1;unfold NodeR at h1;omega))<|by first|omega|(simp only [List.length_set];omega)|(have h1:=(M om).1;unfold NodeR at h1;omega))<|Gr (Br (xs:=sk) ef C Bf (by first|omega|(have h1:=(M om).1;unfold NodeR at h1;omega))<|by first|omega|(simp only [List.length_set];omega)|(have h1:=(M om).1;unfold NodeR at h1;omega))<|Ga C<|Ac<|Ao (S6 15 8 9 10 11 12 C C C C C C)<|Af<|Gm C<|Gm C<|Gr (Bh Ab C)<|Gr (Rsu C C)<|Gm C<|Gr (Runs.caps Ab C)<|Gr (Runs.hicap (α:=Int) (xs:=sk) (h:=sk.length - 1) Ab ef C C C om Bf om om)<|Ga C<|Eh (J:=vk 3 a c (List.take (sk.length - 1) sk)::vk 3 ae ad (eo<|((bitB u) ||| (bitB v)) &&& Z)::vc 207 (.slice ab (ek nd es).length aa) ((rowsU nd es u v))::e8 b1 [e7 nd,.slice ea es.length ec,.slice na num.length nc] 40::I) (Cq Bl<|Fit.takevc (α:=Int) C) ?_)
  refine Ac<|Ao (S6 12 15 8 9 10 11 C C C C C C)<|Af<|Gm C<|Gm C<|Gr (Ax (α:=(BitVec 64)) (xs:=(rowsU nd es u v)) B5 ty207 C C Bf (by first|omega|(have h1:=(M om).1;unfold NodeR at h1;omega))<|by first|omega|(simp only [List.length_set];omega)|(have h1:=(M om).1;unfold NodeR at h1;omega))<|Gr (B7 (α:=(BitVec 64)) (xs:=(rowsU nd es u v)) (u:=U64 ((e_ (rowsU nd es u v)<|e_ sk<|((sk.length:Nat):Int) - 1))) ty207 C Bf (by first|omega|(have h1:=(M om).1;unfold NodeR at h1;omega)) (by first|omega|(simp only [List.length_set];omega)|(have h1:=(M om).1;unfold NodeR at h1;omega)) C)<|Gm C<|Gr (Ed (a:=(e_ (rowsU nd es u v)<|e_ sk<|((sk.length:Nat):Int) - 1)) (b:=Z) C C)<|Gm C<|Gr (E0 (a:=(e_ (rowsU nd es u v)<|e_ sk<|((sk.length:Nat):Int) - 1) &&& Z) (b:=F) C C)<|Gc2 (Ak c_ C C<|MList_ok (((e_ (rowsU nd es u v)<|e_ sk<|((sk.length:Nat):Int) - 1) &&& Z) &&& ~~~F)<|Bm hT Ay) λan ao=>?_
  refine Gr (Bh Ab C)<|Gm C<|Ac<|Ao (S8 103 102 101 12 8 9 10 11 C C C C C C C C)<|Aw<|Bu (σ:=Nat×(BitVec 64)×(Option Addr)×Nat×(List Int)) (λs=>([(8,.slice ab (ek nd es).length aa),(9,e7<|(min (e_ num u)<|e_ num v)),(10,U64 Z),(11,U64<|s.2.1),(12,.slice s.2.2.1 s.2.2.2.2.length s.2.2.2.1),(101,.slice an (eo<|((e_ (rowsU nd es u v)<|e_ sk<|((sk.length:Nat):Int) - 1) &&& Z) &&& ~~~F).length ao),(102,e7<|(((eo<|((e_ (rowsU nd es u v)<|e_ sk<|((sk.length:Nat):Int) - 1) &&& Z) &&& ~~~F).length:Nat):Int)),(103,e7 ((s.1:Nat):Int))]:Env)) (λs=>vk 3 an ao (eo<|((e_ (rowsU nd es u v)<|e_ sk<|((sk.length:Nat):Int) - 1) &&& Z) &&& ~~~F)::vk 3 s.2.2.1 s.2.2.2.1 s.2.2.2.2::vk 3 ae ad (eo<|((bitB u) ||| (bitB v)) &&& Z)::vc 207 (.slice ab (ek nd es).length aa) ((rowsU nd es u v))::e8 b1 [e7 nd,.slice ea es.length ec,.slice na num.length nc] 40::I) (λs=>(s.1<=(eo<|((e_ (rowsU nd es u v)<|e_ sk<|((sk.length:Nat):Int) - 1) &&& Z) &&& ~~~F).length)/\(∀x,x∈eo s.2.1↔x∈eo F\/x∈(eo<|((e_ (rowsU nd es u v)<|e_ sk<|((sk.length:Nat):Int) - 1) &&& Z) &&& ~~~F).take s.1)/\(s.2.2.2.2=List.take (sk.length - 1) sk++(eo<|((e_ (rowsU nd es u v)<|e_ sk<|((sk.length:Nat):Int) - 1) &&& Z) &&& ~~~F).take s.1)) (λs=>(eo<|((e_ (rowsU nd es u v)<|e_ sk<|((sk.length:Nat):Int) - 1) &&& Z) &&& ~~~F).length - s.1) (0,F,a,c,(List.take (sk.length - 1) sk)) ⟨om,(λx=>by rw [List.take_zero];simp),(by rw [List.take_zero,List.append_nil])⟩ (Aa C<|Aa C<|Aa C<|Aa (Cx C<|by first|rfl|simp)<|Aa (Cx C<|by first|rfl|simp)<|Aa C<|Aa C<|Aa B2 Bi) Bc ?_
  rintro ⟨j,F3,a3,c3,o3⟩ hp
  dsimp only at hp ⊢
  obtain ⟨hj,ak,aj⟩:=hp
  have a8:o3.length=sk.length - 1+j:=by rw [aj,List.length_append,List.length_take,List.length_take];omega
  have a9:=Eu ((((e_ (rowsU nd es u v)<|e_ sk<|((sk.length:Nat):Int) - 1) &&& Z) &&& ~~~F))
  have aw:∀y,y∈eo (((e_ (rowsU nd es u v)<|e_ sk<|((sk.length:Nat):Int) - 1) &&& Z) &&& ~~~F)↔NBX nd es u v (e_ sk<|(sk.length:Int) - 1) y/\((0<=y/\y<(num.length:Int))/\e_ num y=(min (e_ num u)<|e_ num v))/\y∉eo F:=λy=>by rw [mem_andNot,mem_andB,rowsU_mem hG hu hv a5<|by have:=(M om).1;unfold NodeR;omega,ah y,and_assoc]
  have ai:j=(eo<|((e_ (rowsU nd es u v)<|e_ sk<|((sk.length:Nat):Int) - 1) &&& Z) &&& ~~~F).length->(∀x,x∈eo F3↔x∈eo F\/x∈eo (((e_ (rowsU nd es u v)<|e_ sk<|((sk.length:Nat):Int) - 1) &&& Z) &&& ~~~F))/\(eo F3).length=(eo F).length+(eo<|((e_ (rowsU nd es u v)<|e_ sk<|((sk.length:Nat):Int) - 1) &&& Z) &&& ~~~F).length/\o3=List.take (sk.length - 1) sk++eo (((e_ (rowsU nd es u v)<|e_ sk<|((sk.length:Nat):Int) - 1) &&& Z) &&& ~~~F):=λe=>by rw [List.take_of_length_le (l:=eo (((e_ (rowsU nd es u v)<|e_ sk<|((sk.length:Nat):Int) - 1) &&& Z) &&& ~~~F)) (i:=j) om] at ak aj;exact ⟨ak,rg_more ak (Di _)<|λx hx=>((aw x).1 hx).2.2,aj⟩
  refine Af<|Gr (A4 C C)<|Ac<|Aq<|A5 C (λap=>?_)<|λap=>?_
  ·refine Av (Ah<|Aq<|Aw<|Af<|Gr (Ax (α:=Int) (xs:=eo (((e_ (rowsU nd es u v)<|e_ sk<|((sk.length:Nat):Int) - 1) &&& Z) &&& ~~~F)) Ab ef C C Bf (by first|omega|(have h1:=(M om).1;unfold NodeR at h1;omega))<|by first|omega|(simp only [List.length_set];omega)|(have h1:=(M om).1;unfold NodeR at h1;omega))<|Gr (Br (xs:=eo (((e_ (rowsU nd es u v)<|e_ sk<|((sk.length:Nat):Int) - 1) &&& Z) &&& ~~~F)) ef C Bf (by first|omega|(have h1:=(M om).1;unfold NodeR at h1;omega))<|by first|omega|(simp only [List.length_set];omega)|(have h1:=(M om).1;unfold NodeR at h1;omega))<|Ga C<|Ac<|Af<|Gm C<|Gm C<|G.e (Ak c_ C C<|Bit_ok<|e_ (eo<|((e_ (rowsU nd es u v)<|e_ sk<|((sk.length:Nat):Int) - 1) &&& Z) &&& ~~~F) (j:Int)) ?_)
   rintro _ _ ⟨_,_,⟨rfl,rfl⟩,rfl,rfl⟩
   refine Gr (Eb (a:=F3) (b:=bitB (e_ (eo<|((e_ (rowsU nd es u v)<|e_ sk<|((sk.length:Nat):Int) - 1) &&& Z) &&& ~~~F) (j:Int))) C C)<|Ga C<|Ac<|Ao (S9 11 17 8 9 10 12 101 102 103 C C C C C C C C C)<|Ar<|Gm C<|Gm C<|Ge1 (Cf (α:=Int) (cs:=[_]) (xs:=[e_ (eo<|((e_ (rowsU nd es u v)<|e_ sk<|((sk.length:Nat):Int) - 1) &&& Z) &&& ~~~F) (j:Int)]) Ab ef C C dc dc C C C C) λa7=>?_
   refine Ge2 (Cg (α:=Int) (e:=3) (xs:=o3) (ys:=([e_ (eo<|((e_ (rowsU nd es u v)<|e_ sk<|((sk.length:Nat):Int) - 1) &&& Z) &&& ~~~F) (j:Int)]:List Int)) Ab ef C C C mm Bf lcn dc C<|λ_ _=>am) λar au=>?_
   exact Ga C<|Bj<|Aj<|Ah<|Ao (S8 12 11 8 9 10 101 102 103 C C C C C C C C)<|Ar<|Gr (Rad C C)<|Gm C<|Bj<|B3 ((j+1),(F3 ||| (bitB<|e_ (eo<|((e_ (rowsU nd es u v)<|e_ sk<|((sk.length:Nat):Int) - 1) &&& Z) &&& ~~~F) (j:Int))),(ar),(au),(o3++([e_ (eo<|((e_ (rowsU nd es u v)<|e_ sk<|((sk.length:Nat):Int) - 1) &&& Z) &&& ~~~F) (j:Int)]:List Int)))<|by dsimp only;exact ⟨om,(or_take om (λx hx=>Eo hx) ak),(app_take om aj)⟩
  exact Bs<|Al<|Al<|A2<|Aj<|B3 ((F3),(a3),(c3),(o3)) (by dsimp only;exact ⟨(by rw [(ai om).2.2];exact hR.pop om aw (ai om).1),(by have h4:=(ai om).2.1;omega)⟩) (hlt:=by (try dsimp only);exact (by have h4:=(ai om).2.1;have h5:=Eu F3;omega))
 exact Bs<|Al<|Al<|A2<|Ah<|Af<|Gm C<|Gm C<|Ga C<|Ga C<|Ac<|Az<|C7 C C C I Ay ⟨F,rfl,hR.reg hG aq hu hv ah om,rfl⟩
end Go.Sl
namespace Go.Sl
variable {P:Program}{κ:Ctx}{N:Frm}{L:Env}{I:List Item}
end Go.Sl
namespace Go.Sl
open Go.Proofs
set_option maxRecDepth 4000
variable{Z ea ga na:Option Addr}{M ec gc nc:Nat}{va:Value}{a n y:Int}
section
variable {nd u v k:Int}{es es':List Pt}{F A S B C:BitVec 64}
theorem coreN_bdR(Z:GrOk nd es):∀x∈coreN nd es,0<=x/\x<=1000:=λx M=>by
 obtain ⟨i,hi,rfl⟩:=mem_atN M
 have h1:=coreN_lenG Z
 have h2:=core_pos Z (u:=(i:Int)) om om
 have:=Z.rng
 omega
theorem RegX.rng(M:GrOk nd es){num:List Int}(h:RegX nd es num u v k F):∀x∈eo F,0<=x/\x<nd:=λx Z=>(h.lev x Z).1
theorem ins_core(h:OneE nd es es' u v)(hk:k=min (e_ (coreN nd es) u) (e_ (coreN nd es) v))(M:RegX nd es (coreN nd es) u v k F)(hA:∀x,x∈eo A↔(0<=x/\x<((coreN nd es).length:Int))/\k<e_ (coreN nd es) x)
  (hS:SetR (ek nd es') F A (k+1) S):(eo S).foldl (incL 1) (coreN nd es)=coreN nd es':=by
 have h1:=coreN_lenG h.ok
 have h2:∀x∈eo S,0<=x/\x<((coreN nd es).length:Int):=λx Z=>by rw [h1];exact M.rng h.ok x (hS.sub x Z)
 refine coreN_ext h.ok' (by rw [incs_len];exact h1) λx Z=>?_
 rw [incs_at _ _ h2 _ Z.1,sum_ind_nodup<|Di _,Int.one_mul]
 exact (core_comes h hk ⟨M.lev,M.hu,M.hv,λx Z y hy hk=>M.cl x Z y ((h.nb x y).1 hy) hk⟩ (λx=>by rw [hA,h1];exact Iff.rfl) hS Z).symm
theorem del_above(M:GrOk nd es')(hR:RegX nd es' (coreN nd es') u v k F)(hB:∀x,x∈eo B↔(0<=x/\x<((coreN nd es').length:Int))/\k<e_ (coreN nd es') x)
  (hC:∀x,x∈eo C↔(0<=x/\x<((coreN nd es').length:Int))/\e_ (coreN nd es') x=k) (x:Int):x∈eo (B ||| (C &&& ~~~F))↔NodeR nd x/\k<=e_ (coreN nd es') x/\x∉eo F:=by
 have Z:=coreN_lenG M
 rw [mem_orB2,mem_andNot,hB,hC,Z]
 unfold NodeR
 constructor
 ·rintro (⟨a,b⟩|⟨⟨a,b⟩,c⟩)
  ·exact ⟨a,by omega,λq=>by have:=(hR.lev x q).2;omega⟩
  exact ⟨a,by omega,c⟩
 rintro ⟨a,b,c⟩
 by_cases e:e_ (coreN nd es') x=k
 ·exact .inr ⟨⟨a,e⟩,c⟩
 exact .inl ⟨a,by omega⟩
theorem del_core(h:OneE nd es es' u v)(hk:k=min (e_ (coreN nd es') u) (e_ (coreN nd es') v))(M:RegX nd es' (coreN nd es') u v k F)(hA:∀x,x∈eo A↔NodeR nd x/\k<=e_ (coreN nd es') x/\x∉eo F)
  (hS:SetR (ek nd es) F A k S):(eo<|F &&& ~~~S).foldl (incL<|-1) (coreN nd es')=coreN nd es:=by
 have h1:=coreN_lenG h.ok'
 have h2:∀x∈eo (F &&& ~~~S),0<=x/\x<((coreN nd es').length:Int):=λx Z=>by rw [h1];exact M.rng h.ok' x (mem_andNot.1 Z).1
 refine coreN_ext h.ok (by rw [incs_len];exact h1) λx Z=>?_
 rw [incs_at _ _ h2 _ Z.1,sum_ind_nodup<|Di _]
 have h3:=core_goes h hk ⟨M.lev,M.hu,M.hv,λx Z y hy hk=>M.cl x Z y (.inl hy) hk⟩ hA hS Z
 by_cases e:x∈eo (F &&& ~~~S)
 ·rw [if_pos e];rw [if_pos (mem_andNot.1 e)] at h3;omega
 rw [if_neg e];rw [if_neg (λq=>e<|mem_andNot.2 q)] at h3;omega
end
theorem RIns_ok{κ:Ctx}{I:List Item}{nd u v:Int}{ea ga na:Option Addr}{ec gc nc:Nat}{es es':List Pt}(hl:Sl κ I (.slice ea es.length ec) es)(hm:Sl κ I (.slice na (coreN nd es).length nc) (coreN nd es))(hg:Sl κ I (.slice ga es'.length gc) es')(h:OneE nd es es' u v)(hT:TabRd κ I 0 tzCells):eu prog κ 262 [.agg #[e7 nd,.slice ea es.length ec,.slice na (coreN nd es).length nc],.agg #[e7 nd,.slice ga es'.length gc],e7 u,e7 v] I (λr J=>∃(a:Option Addr) (c:Nat) (w:Value),r = .tuple #[.agg #[e7 nd,.slice ga es'.length gc,.slice a (coreN nd es').length c],w]/\J=vc 3 (.slice a (coreN nd es').length c) (coreN nd es')::I):=by
 have ab:=h.ok'
 have hG:=h.ok
 have aw:(ek nd es').length=nd:=ab.rows.len
 have ap:(ek nd es).length=nd:=hG.rows.len
 have av:=hG.rng
 have ao:=h.ends
 unfold endsP at ao
 have az:=coreN_lenG hG
 have aq:=coreN_lenG ab
 have a1:=core_pos hG (u:=u) om om
 have ax:=core_pos hG (u:=v) om om
 refine Ce4 Tryz.func262 C C ?_
 refine Af<|Ge1 (Bg (cs:=[_,_,_]) C C C) λb1=>Ge1 (Bg (cs:=[_,_]) C C C) λb2=>Ge1 (A3 ty40 C) λb3=>Ga C<|Ac<|Af<|Gl3 ty40 ?_
 refine Gm C<|Gm C<|G.e (Ak c_ C C<|Region_ok (nd:=nd) (u:=u) (v:=v) (A8 hl) (A8 hm) hG om (by unfold NodeR;omega) (by unfold NodeR;omega) om<|Bm hT Ay) ?_
 rintro _ _ ⟨_,_,⟨ak,rfl,Z,rfl⟩,rfl,rfl⟩
 refine Gm C<|Gr (Am C C)<|Gr (Am C C)<|Ga C<|Ga C<|Ac<|Ao (S5 11 10 8 5 4 C C C C C)<|Aq<|Bq mixed<|Ef 15<|Dr 0 C (Be (vs:=[_,_,_]) ty40) ?_
 refine Dr 1 C (Be (vs:=[_,_]) ty38) ?_
 refine Dr 2 C (Be (vs:=[_,_]) ty38) ?_
 refine Dr 4 C (Ai C)<|Dr 5 C (Ad fld40_1 C)<|Dr 6 C (Bb ty22) ?_
 refine Dr 7 C (Ai C)<|Dr 9 C (Ai C)<|Dr 10 C (Rad C C)<|Ds1 3<|Se C (Ak c_ C C<|MRows_ok (nd:=nd)<|A8 hg) ?_
 rintro _ _ ⟨_,_,⟨ay,a0,rfl,rfl⟩,rfl,rfl⟩
 refine ⟨Ay,?_⟩
 have aj:=rowsB_len nd es'
 refine Ds1 8<|Se C (Ak c_ C C<|Above_ok (num:=coreN nd es) (lv:=min (e_ (coreN nd es) u) (e_ (coreN nd es) v)) (A8 hm) om) ?_
 rintro _ _ ⟨_,_,⟨an,rfl,ai,rfl⟩,rfl,rfl⟩
 refine ⟨Ay,?_⟩
 refine Ds1 11<|Se C (Ak c_ C C<|Settle_ok (rows:=ek nd es') (F:=ak) (A:=an) (k:=(min (e_ (coreN nd es) u)<|e_ (coreN nd es) v)+1) Bf om (λx hx=>by have h9:=(Z.lev x hx).1;unfold NodeR at h9;omega)<|Bm hT Ay) ?_
 rintro _ _ ⟨_,_,⟨ae,rfl,M,rfl⟩,rfl,rfl⟩
 refine ⟨Ay,?_⟩
 refine Ds1 12<|Se C (Ak c_ C C<|Moved_ok (nd:=nd) (nd':=nd) (b':=1) (va:= .slice ea es.length ec) (ga:=ga) (gn:=es'.length) (gc:=gc) (S:=ae) (A8 hm) (λx hx=>by have h9:=(Z.lev x<|M.sub x hx).1;unfold NodeR at h9;omega) (coreN_bdR hG) dc om<|Bm hT Ay) ?_
 rintro _ _ ⟨_,_,⟨ad,aa,au,ar,rfl,rfl⟩,rfl,rfl⟩
 refine ⟨Ay,?_⟩
 refine Dr 13 C (Am C C)<|Dr 14 C (Am C C)<|Cs kr ?_
 refine Ae 15 C (Dc ty40) ?_
 rintro _ _ ⟨rfl,rfl⟩
 refine Dy (i:=16) kr C (Bn C) C C (Bd C) ?_
 refine Ct kr ?_
 refine Ah<|Ao (S2 9 8 C C)<|Az ?_
 have hE:(eo ae).foldl (incL 1) (coreN nd es)=coreN nd es':=ins_core h rfl Z ai M
 have ah:(coreN nd es).length=(coreN nd es').length:=by have h1:=coreN_lenG h.ok;have h2:=coreN_lenG h.ok';omega
 exact C0 C ty40 C C mm C (vc 3 (.slice ad (coreN nd es').length aa) (coreN nd es')::I) (by rw [←hE,hE,←ah,←hE];exact Bl) ⟨ad,aa,_,by rw [←ah],rfl⟩
theorem RRem_ok{κ:Ctx}{I:List Item}{nd u v:Int}{ea ga na:Option Addr}{ec gc nc:Nat}{es es':List Pt}(hl:Sl κ I (.slice ea es'.length ec) es')(hm:Sl κ I (.slice na (coreN nd es').length nc) (coreN nd es'))(hg:Sl κ I (.slice ga es.length gc) es)(h:OneE nd es es' u v)(hT:TabRd κ I 0 tzCells):eu prog κ 264 [.agg #[e7 nd,.slice ea es'.length ec,.slice na (coreN nd es').length nc],.agg #[e7 nd,.slice ga es.length gc],e7 u,e7 v] I (λr J=>∃(a:Option Addr) (c:Nat) (w:Value),r = .tuple #[.agg #[e7 nd,.slice ga es.length gc,.slice a (coreN nd es).length c],w]/\J=vc 3 (.slice a (coreN nd es).length c) (coreN nd es)::I):=by
 have Z:=h.ok'
 have hG:=h.ok
 have a1:(ek nd es').length=nd:=Z.rows.len
 have ar:(ek nd es).length=nd:=hG.rows.len
 have ax:=hG.rng
 have aq:=h.ends
 unfold endsP at aq
 have a4:=coreN_lenG hG
 have aw:=coreN_lenG Z
 have a0:=core_pos Z (u:=u) om om
 have a3:=core_pos Z (u:=v) om om
 refine Ce4 Tryz.func264 C C ?_
 refine Af<|Ge1 (Bg (cs:=[_,_,_]) C C C) λb1=>Ge1 (Bg (cs:=[_,_]) C C C) λb2=>Ge1 (A3 ty40 C) λb3=>Ga C<|Ac<|Af<|Gl3 ty40 ?_
 refine Gm C<|Gm C<|G.e (Ak c_ C C<|Region_ok (nd:=nd) (u:=u) (v:=v) (A8 hl) (A8 hm) Z om (by unfold NodeR;omega) (by unfold NodeR;omega) om<|Bm hT Ay) ?_
 rintro _ _ ⟨_,_,⟨M,rfl,aa,rfl⟩,rfl,rfl⟩
 refine Gm C<|Gr (Am C C)<|Gr (Am C C)<|Ga C<|Ga C<|Ac<|Ao (S5 11 10 8 5 4 C C C C C)<|Aq<|Bq mixed<|Ef 17<|Dr 0 C (Be (vs:=[_,_]) ty38) ?_
 refine Dr 2 C (Ai C)<|Dr 3 C (Ad fld40_1 C)<|Dr 4 C (Bb ty22) ?_
 refine Dr 5 C (Ai C)<|Dr 7 C (Ad fld40_1 C)<|Dr 8 C (Bb ty22) ?_
 refine Dr 9 C (Ai C)<|Dr 11 C (Ai C)<|Dr 14 C (Ai C)<|Ds1 1<|Se C (Ak c_ C C<|MRows_ok (nd:=nd)<|A8 hg) ?_
 rintro _ _ ⟨_,_,⟨ay,az,rfl,rfl⟩,rfl,rfl⟩
 refine ⟨Ay,?_⟩
 have ap:=rowsB_len nd es
 refine Ds1 6<|Se C (Ak c_ C C<|Above_ok (num:=coreN nd es') (lv:=min (e_ (coreN nd es') u) (e_ (coreN nd es') v)) (A8 hm) om) ?_
 rintro _ _ ⟨_,_,⟨ai,rfl,ao,rfl⟩,rfl,rfl⟩
 refine ⟨Ay,?_⟩
 refine Ds1 10<|Se C (Ak c_ C C<|Level_ok (num:=coreN nd es') (lv:=min (e_ (coreN nd es') u) (e_ (coreN nd es') v)) (A8 hm) om) ?_
 rintro _ _ ⟨_,_,⟨ae,rfl,aj,rfl⟩,rfl,rfl⟩
 refine ⟨Ay,?_⟩
 refine Dr 12 C (E0 (a:=ae) (b:=M) C C)<|Dr 13 C (Eb (a:=ai) (b:=ae &&& ~~~M) C C)<|Ds1 15<|Se C (Ak c_ C C<|Settle_ok (rows:=ek nd es) (F:=M) (A:=ai ||| (ae &&& ~~~M)) (k:=min (e_ (coreN nd es') u) (e_ (coreN nd es') v)) Bf om (λx hx=>by have h9:=(aa.lev x hx).1;unfold NodeR at h9;omega)<|Bm hT Ay) ?_
 rintro _ _ ⟨_,_,⟨ah,rfl,ak,rfl⟩,rfl,rfl⟩
 refine ⟨Ay,?_⟩
 refine Dr 16 C (Bd C)<|Dz<|Ah<|Ao (S5 12 10 8 5 4 C C C C C)<|Af<|Gl3 ty40 ?_
 refine Gl2 ty38 ?_
 refine Gm C<|Gm C<|Gr (E0 (a:=M) (b:=ah) C C)<|G.e (Ak c_ C C<|Moved_ok (nd:=nd) (nd':=nd) (b':= -1) (va:= .slice ea es'.length ec) (ga:=ga) (gn:=es.length) (gc:=gc) (S:=M &&& ~~~ah) (A8 hm) (λx hx=>by have h9:=(aa.lev x (mem_andNot.1 hx).1).1;unfold NodeR at h9;omega) (coreN_bdR Z) dc om<|Bm hT Ay) ?_
 rintro _ _ ⟨_,_,⟨ad,ab,au,av,rfl,rfl⟩,rfl,rfl⟩
 refine Gr (Am C C)<|Gr (Am C C)<|Ge0 (Dc ty40) ?_
 refine Ga C<|Ac<|Ao (S2 9 8 C C)<|Az ?_
 have hE:(eo<|M &&& ~~~ah).foldl (incL<|-1) (coreN nd es')=coreN nd es:=del_core h rfl aa (λx=>del_above Z aa ao aj x) ak
 have an:(coreN nd es').length=(coreN nd es).length:=by have h1:=coreN_lenG h.ok;have h2:=coreN_lenG h.ok';omega
 exact C0 C ty40 C C mm C (vc 3 (.slice ad (coreN nd es).length ab) (coreN nd es)::I) (by rw [←hE,hE,←an,←hE];exact Bl) ⟨ad,ab,_,by rw [←an],rfl⟩
variable {κ:Ctx}{I:List Item}
theorem add_zero{nd:Int}{es:List Pt}{u v:Int}(Z:GrOk nd es)(M:endsP nd u v)(hn:edgeP u v∉es):addG nd es u v=0:=by
 have h1:=changeG_zero.2 ⟨Z,M⟩
 unfold addG;rw [if_neg om,if_neg hn]
theorem rem_zero{nd:Int}{es:List Pt}{u v:Int}(Z:GrOk nd es)(M:endsP nd u v)(hn:edgeP u v∈es):remG nd es u v=0:=by
 have h1:=changeG_zero.2 ⟨Z,M⟩
 unfold remG;rw [if_neg om,if_pos hn]
theorem AddG_yes{nd:Int}{es:List Pt}(hl:Sl κ I (.slice Z es.length M) es){u v:Int}(hz:addG nd es u v=0)(hb:es.length<=10000000):eu prog κ 261 [.agg #[e7 nd,.slice Z es.length M],e7 u,e7 v] I λr J=>∃a c,r = .tuple #[.agg #[e7 nd,.slice a (insB Pt.lt es (edgeP u v)).length c],e7 0]/\J=vk 105 a c (insB Pt.lt es (edgeP u v))::I:=
 (AddG_ok hl u v hb).mono λr J h=>by
  rcases h with h|⟨a,c,_,h1,h2⟩
  ·exact absurd hz h.1
  exact ⟨a,c,h1,h2⟩
theorem RemG_yes{nd:Int}{es:List Pt}(hl:Sl κ I (.slice Z es.length M) es){u v:Int}(hz:remG nd es u v=0)(hb:es.length<=10000000):eu prog κ 263 [.agg #[e7 nd,.slice Z es.length M],e7 u,e7 v] I λr J=>∃a c,r = .tuple #[.agg #[e7 nd,.slice a (without es (edgeP u v)).length c],e7 0]/\J=vk 105 a c (without es (edgeP u v))::I:=
 (RemG_ok hl u v hb).mono λr J h=>by
  rcases h with h|⟨a,c,_,h1,h2⟩
  ·exact absurd hz h.1
  exact ⟨a,c,h1,h2⟩
theorem EqN_ok{vb:Value}{xs ys:List Int}(hl:Sl κ I va xs)(hm:Sl κ I vb ys):eu prog κ 266 [va,vb] I (λr J=>r = .bool (decide (xs=ys))/\I=J):=by
 refine B8 hl.le λad=>?_
 refine B8 hm.le λab=>?_
 refine Ce2 Tryz.func266 C C ?_
 refine Af<|Ga C<|Ac<|Aq<|Af<|Gm C<|Gr (B9 (α:=Int) (xs:=xs) Ab C<|A8 hl)<|Gm C<|Gr (B9 (α:=Int) (xs:=ys) Ab C<|A8 hm)<|Gr (Bo C C)<|Ac<|A5 C (λc10=>?_)<|λc10=>?_
 ·refine Af (Ga C<|Ac<|Az<|Ap ?_)
  have Z:xs≠ys:=λe=>by subst e;omega
  exact A1 C C I Ay ⟨by rw [decide_eq_false Z],rfl⟩
 refine Av<|Ah<|Aq<|Af<|Gm C<|Gr (B9 (α:=Int) (xs:=xs) Ab C<|A8 hl)<|Gm C<|Ac<|Aw<|Bu (σ:=Nat) (λs=>([(0,va),(1,vb),(12,e7 ((xs.length:Nat):Int)),(13,e7 ((s:Nat):Int))]:Env)) (λs=>I) (λs=>(s<=xs.length)/\(∀j:Nat,j<s->e_ xs j=e_ ys j)) (λs=>xs.length - s) 0 ⟨om,(λj h=>by omega)⟩ (Aa C<|Aa C<|Aa C<|Aa B2 Bi) (show Fit κ _ I from Bc) ?_
 rintro k hp
 obtain ⟨hk,hn⟩:=hp
 refine Af<|Gr (A4 C C)<|Ac<|Aq<|A5 C (λaa=>?_)<|λaa=>?_
 ·refine Av (Ah<|Aq<|Aw<|Af<|Gm C<|Ga C<|Ac<|Aq<|Bq mixed<|Ca I 9<|Dr 0 C (Ai C)<|Dr 1 C (Ai C)<|Dr 2 C (Ax (α:=Int) (xs:=xs) Ab ef C C (A8 hl) om om)<|Dr 3 C (Br (xs:=xs) ef C (A8 hl) om om)<|Dr 4 C (Ai C)<|Dr 5 C (Ai C)<|Dr 6 C (Ax (α:=Int) (xs:=ys) Ab ef C C (A8 hm) om om)<|Dr 7 C (Br (xs:=ys) ef C (A8 hm) om om)<|Dr 8 C (Bo C C)<|Dz<|Ah<|Ao (S5 24 0 1 12 13 C C C C C)<|A5 C (λM=>?_)<|λM=>?_)
  ·refine Af (Ga C<|Ac<|Az<|A7<|Ap<|Ap<|A7<|Ap ?_)
   have Z:xs≠ys:=λe=>by subst e;exact M rfl
   exact A1 C C I Ay ⟨by rw [decide_eq_false Z],rfl⟩
  exact Av<|Aj<|Ah<|Ar<|Gr (Rad C C)<|Gm C<|Bj<|B3 ((k+1)) ⟨om,(λj h=>by by_cases e:j=k;(· subst e;exact Classical.not_not.1 M);(· exact hn j om))⟩
 refine Bs<|Al<|Al<|A2<|Ah<|Af<|Ga C<|Ac<|Az ?_
 have he:xs=ys:=List.ext_getElem om λi h1 h2=>by have:=hn i om;rwa [Cn xs i h1,Cn ys i h2] at this
 exact A1 C C I Ay ⟨by rw [decide_eq_true he],rfl⟩
theorem RepV_ok{nd:Int}{es:List Pt}(hl:Sl κ I (.slice ea es.length ec) es)(hm:Sl κ I (.slice na (coreN nd es).length nc) (coreN nd es))(hG:GrOk nd es)(hT:TabRd κ I 0 tzCells):eu prog κ 259 [.agg #[e7 nd,.slice ea es.length ec,.slice na (coreN nd es).length nc]] I (λr J=>r = .bool true/\I=J):=by
 have Z:=checkG_ok.2 hG
 refine Ce1 Tryz.func259 C C ?_
 refine Af<|Ge1 (Bg (cs:=[_,_,_]) C C C) λb1=>Ga C<|Ac<|Af<|Gf fld40_0 C<|Gl2 ty38 ?_
 refine Gc2 (Ak c_ C C<|CNumbers_ok (nd:=nd) (A8 hl)<|Bm hT Ay) λaa ab=>?_
 refine Gm C<|Gr (Am C C)<|Gr (Am C C)<|Ga C<|Ga C<|Ac<|Af<|Gm C<|Gr (Bw C C)<|Gm C<|Bt (d:=13) C (λM=>?_)<|λM=>?_
 ·refine e9 (Ai C) (e9 (Ad fld40_1 C)<|e9 (Bb ty22) ?_)
  refine Ew (C5 C C C) (Ak c_ C C<|EqN_ok (xs:=coreN nd es) (ys:=coreN nd es) Bf<|A8 hm) ?_
  rintro _ _ ⟨_,_,⟨rfl,rfl⟩,rfl,rfl⟩
  exact Gr (Ba C C)<|Ga C<|Ac<|Ao (S1 2 C)<|Az<|A1 C C I Ay ⟨by first|rfl|(simp;done)|exact absurd Z asm,rfl⟩
 exact eb<|eb<|eb<|eb<|Gr (A6 C C)<|Ga C<|Ac<|Ao (S1 2 C)<|Az<|A1 C C I Ay ⟨by first|rfl|(simp;done)|exact absurd Z asm,rfl⟩
theorem RAsked_ok{nd:Int}{M:Option Addr}{Z:Nat}{es:List Pt}(hl:Sl κ I (.slice M es.length ec) es)(hm:Sl κ I (.slice na (coreN nd es).length Z) (coreN nd es))(hG:GrOk nd es){u v:Int}(he:endsP nd u v)(hT:TabRd κ I 0 tzCells):eu prog κ 260 [.agg #[e7 nd,.slice M es.length ec,.slice na (coreN nd es).length Z],e7 u,e7 v] I (λr J=>r=e7 0/\I=J):=by
 refine Ce3 Tryz.func260 C C ?_
 refine Af<|Ge1 (Bg (cs:=[_,_,_]) C C C) λb1=>Ga C<|Ac<|Aq<|Aw<|Af<|Gl3 ty40 ?_
 refine Gc0 (Ak c_ C C<|RepV_ok (nd:=nd) (A8 hl) (A8 hm) hG<|Bm hT Ay) ?_
 refine Gr (Co C)<|Ga C<|Ac<|Dp C<|Af<|Gf fld40_0 C<|Gf fld38_0 C<|Gl ef ?_
 refine Gm C<|Gm C<|Gc0 (Ak c_ C C<|Ends_ok nd u v) ?_
 refine Gr (Dk C)<|Ga C<|Ac<|Ao (S1 11 C)<|A5 C (λc11=>?_)<|λc11=>?_
 ·exact Af<|Ga C<|Ac<|Az<|A7<|Ap<|A1 C C I Ay ⟨by first|rfl|exact absurd he asm,rfl⟩
 exact Av<|Aj<|Ah<|Af<|Ga C<|Ac<|Az<|A1 C C I Ay ⟨by first|rfl|exact absurd he asm,rfl⟩
theorem RInsert_ok{nd:Int}{es:List Pt}(hl:Sl κ I (.slice ea es.length ec) es)(hm:Sl κ I (.slice na (coreN nd es).length nc) (coreN nd es))(hG:GrOk nd es){u v:Int}(he:endsP nd u v)(hn:edgeP u v∉es)(hT:TabRd κ I 0 tzCells):eu prog κ 256 [.agg #[e7 nd,.slice ea es.length ec,.slice na (coreN nd es).length nc],e7 u,e7 v] I (λr J=>∃(ga:Option Addr) (gc:Nat) (a:Option Addr) (c:Nat) (w:Value),r = .tuple #[.agg #[e7 nd,.slice ga (insB Pt.lt es (edgeP u v)).length gc,.slice a (coreN nd (insB Pt.lt es (edgeP u v))).length c],w,e7 0]/\J=vk 3 a c (coreN nd (insB Pt.lt es (edgeP u v)))::vk 105 ga gc (insB Pt.lt es (edgeP u v))::I):=by
 refine Ce3 Tryz.func256 C C ?_
 refine Af<|Ge1 (Bg (cs:=[_,_,_]) C C C) λb1=>Ge1 (A3 ty40 C) λb2=>Ga C<|Ga C<|Ac<|Aq<|Af<|Gl3 ty40 ?_
 refine Gm C<|Gm C<|Gc0 (Ak c_ C C<|RAsked_ok (nd:=nd) (u:=u) (v:=v) (A8 hl) (A8 hm) hG he<|Bm hT Ay) ?_
 refine Ga C<|Ac<|Af<|Gm C<|Gr (Bo C C)<|Ac<|Ao (S6 19 9 6 3 1 2 C C C C C C)<|A5 C (λad=>?_)<|λad=>?_
 ·refine Af (Gr (Bp (cells:=[_,_,_]) ty40 Dv pl40 C C)<|Gm C<|Ge0 (Dc ty40) ?_)
  refine Ga C<|Ga C<|Ac<|Az<|Ap ?_
  exact absurd rfl asm
 refine Av<|Ah<|Af<|Gf fld40_0 C<|Gl2 ty38 ?_
 refine Gm C<|Gm C<|G.e (Ak c_ C C<|AddG_yes (nd:=nd) (u:=u) (v:=v) (A8 hl) (add_zero hG he hn)<|by have:=edges_le hG;omega) ?_
 rintro _ _ ⟨_,_,⟨aa,ab,rfl,rfl⟩,rfl,rfl⟩
 refine Gm C<|Gr (Am C C)<|Gr (Am C C)<|Ge1 (A3 ty38 C) λb5=>Ge0 (Cz ty38) ?_
 refine Ga C<|Ac<|Ao (S6 11 10 6 3 1 2 C C C C C C)<|Aq<|Af<|Gm C<|Gr (Bo C C)<|Ac<|A5 C (λae=>?_)<|λae=>?_
 ·refine Af (Gr (Bp (cells:=[_,_,_]) ty40 Dv pl40 C C)<|Gm C<|Ge0 (Dc ty40) ?_)
  refine Ga C<|Ga C<|Ac<|Az<|Ap ?_
  exact absurd rfl asm
 refine Av<|Ah<|Af<|Gl3 ty40 ?_
 refine Gl2 ty38 ?_
 refine Gm C<|Gm C<|G.e (Ak c_ C C<|RIns_ok (nd:=nd) (u:=u) (v:=v) (A8 hl) (A8 hm) Bf (OneE.add hG he hn)<|Bm hT Ay) ?_
 rintro _ _ ⟨_,_,⟨M,Z,w8,rfl,rfl⟩,rfl,rfl⟩
 refine Gm C<|Gr (Am C C)<|Gr (Am C C)<|Ge1 (A3 ty40 C) λb9=>Ge0 (Dc ty40) ?_
 refine Ga C<|Ac<|Ao (S3 13 12 6 C C C)<|Af<|Gl3 ty40 ?_
 refine Gm C<|Ge0 (Dc ty40) ?_
 exact Ga C<|Ga C<|Ac<|Az<|C6 C ty40 C C C mm C (vk 3 M Z (coreN nd<|insB Pt.lt es<|edgeP u v)::vk 105 aa ab (insB Pt.lt es<|edgeP u v)::I) Bl ⟨aa,ab,M,Z,_,rfl,rfl⟩
theorem RDelete_ok{nd:Int}{es:List Pt}(hl:Sl κ I (.slice ea es.length ec) es)(hm:Sl κ I (.slice na (coreN nd es).length nc) (coreN nd es))(hG:GrOk nd es){u v:Int}(he:endsP nd u v)(hn:edgeP u v∈es)(hT:TabRd κ I 0 tzCells):eu prog κ 257 [.agg #[e7 nd,.slice ea es.length ec,.slice na (coreN nd es).length nc],e7 u,e7 v] I (λr J=>∃(ga:Option Addr) (gc:Nat) (a:Option Addr) (c:Nat) (w:Value),r = .tuple #[.agg #[e7 nd,.slice ga (without es (edgeP u v)).length gc,.slice a (coreN nd (without es (edgeP u v))).length c],w,e7 0]/\J=vk 3 a c (coreN nd (without es (edgeP u v)))::vk 105 ga gc (without es (edgeP u v))::I):=by
 refine Ce3 Tryz.func257 C C ?_
 refine Af<|Ge1 (Bg (cs:=[_,_,_]) C C C) λb1=>Ge1 (A3 ty40 C) λb2=>Ga C<|Ga C<|Ac<|Aq<|Af<|Gl3 ty40 ?_
 refine Gm C<|Gm C<|Gc0 (Ak c_ C C<|RAsked_ok (nd:=nd) (u:=u) (v:=v) (A8 hl) (A8 hm) hG he<|Bm hT Ay) ?_
 refine Ga C<|Ac<|Af<|Gm C<|Gr (Bo C C)<|Ac<|Ao (S6 19 9 6 3 1 2 C C C C C C)<|A5 C (λad=>?_)<|λad=>?_
 ·refine Af (Gr (Bp (cells:=[_,_,_]) ty40 Dv pl40 C C)<|Gm C<|Ge0 (Dc ty40) ?_)
  refine Ga C<|Ga C<|Ac<|Az<|Ap ?_
  exact absurd rfl asm
 refine Av<|Ah<|Af<|Gf fld40_0 C<|Gl2 ty38 ?_
 refine Gm C<|Gm C<|Gc2 (Ak c_ C C<|RemG_yes (nd:=nd) (u:=u) (v:=v) (A8 hl) (rem_zero hG he hn)<|by have:=edges_le hG;omega) λaa ab=>?_
 refine Gm C<|Gr (Am C C)<|Gr (Am C C)<|Ge1 (A3 ty38 C) λb5=>Ge0 (Cz ty38) ?_
 refine Ga C<|Ac<|Ao (S6 11 10 6 3 1 2 C C C C C C)<|Aq<|Af<|Gm C<|Gr (Bo C C)<|Ac<|A5 C (λae=>?_)<|λae=>?_
 ·refine Af (Gr (Bp (cells:=[_,_,_]) ty40 Dv pl40 C C)<|Gm C<|Ge0 (Dc ty40) ?_)
  refine Ga C<|Ga C<|Ac<|Az<|Ap ?_
  exact absurd rfl asm
 refine Av<|Ah<|Af<|Gl3 ty40 ?_
 refine Gl2 ty38 ?_
 refine Gm C<|Gm C<|G.e (Ak c_ C C<|RRem_ok (nd:=nd) (u:=u) (v:=v) (A8 hl) (A8 hm) Bf (OneE.rem hG he hn)<|Bm hT Ay) ?_
 rintro _ _ ⟨_,_,⟨M,Z,w8,rfl,rfl⟩,rfl,rfl⟩
 refine Gm C<|Gr (Am C C)<|Gr (Am C C)<|Ge1 (A3 ty40 C) λb9=>Ge0 (Dc ty40) ?_
 refine Ga C<|Ac<|Ao (S3 13 12 6 C C C)<|Af<|Gl3 ty40 ?_
 refine Gm C<|Ge0 (Dc ty40) ?_
 exact Ga C<|Ga C<|Ac<|Az<|C6 C ty40 C C C mm C (vk 3 M Z (coreN nd<|without es<|edgeP u v)::vk 105 aa ab (without es<|edgeP u v)::I) Bl ⟨aa,ab,M,Z,_,rfl,rfl⟩
section
variable {nd u v:Int}{es:List Pt}
theorem nb_edge(Z:GrOk nd es){x:Int}:y∈nbG nd es x↔edgeP x y∈es:=by
 rw [mem_nb Z]
 constructor
 ·rintro (h|h)
  ·have:=(Z.edge _ h).2.1
   simp only at this
   have e:edgeP x y=⟨x,y⟩:=by unfold edgeP;rw [if_neg om,if_pos this]
   rw [e];exact h
  have:=(Z.edge _ h).2.1
  simp only at this
  have e:edgeP x y=⟨y,x⟩:=by unfold edgeP;rw [if_pos this,if_neg om]
  rw [e];exact h
 intro h
 have hlt:=(Z.edge _ h).2.1
 rcases Int.lt_trichotomy x y with h1|h1|h1
 ·have e:edgeP x y=⟨x,y⟩:=by unfold edgeP;rw [if_neg om,if_pos h1]
  exact .inl<|e▸h
 ·subst h1;unfold edgeP at hlt;simp at hlt
 have e:edgeP x y=⟨y,x⟩:=by unfold edgeP;rw [if_pos h1,if_neg om]
 exact .inr<|e▸h
theorem find_nb(Z:GrOk nd es){b:Int}(h:FindP nd es a b y):0<=y↔b∈nbG nd es a:=by
 rw [nb_edge Z]
 rcases h with ⟨_,j,rfl,hj,e⟩|⟨rfl,h|h⟩
 ·exact ⟨λ_=>e▸B1 om om,λ_=>by omega⟩
 ·exact absurd (checkG_ok.2 Z) h
 exact ⟨λh=>by omega,λM=>absurd M h⟩
theorem fm_take{α β:Type}[Inhabited α](f:α->List β)(xs:List α){k:Nat}(Z:k<xs.length):(xs.take (k+1)).flatMap f=(xs.take k).flatMap f++f (e_ xs k):=by
 rw [Cj xs k Z,List.flatMap_append];simp
def ovrK(nd:Int)(es:List Pt)(u v a:Int)(k:Nat):List Pt:=(((nbG nd es v).take k).filter λb=>decide (b≠u/\b∈nbG nd es a)).map λb=>(⟨a,b⟩:Pt)
theorem ovrK_yes{k:Nat}(Z:k<(nbG nd es v).length)(h:e_ (nbG nd es v) k≠u/\e_ (nbG nd es v) k∈nbG nd es a):ovrK nd es u v a (k+1)=ovrK nd es u v a k++[(⟨a,e_ (nbG nd es v) k⟩:Pt)]:=by
 unfold ovrK
 rw [Cj _ k Z,List.filter_append,List.filter_cons,if_pos<|decide_eq_true h,List.map_append];rfl
theorem ovrK_no{k:Nat}(Z:k<(nbG nd es v).length)(h:¬(e_ (nbG nd es v) k≠u/\e_ (nbG nd es v) k∈nbG nd es a)):ovrK nd es u v a (k+1)=ovrK nd es u v a k:=by
 unfold ovrK
 rw [Cj _ k Z,List.filter_append,List.filter_cons,if_neg<|λq=>h<|of_decide_eq_true q];simp
theorem ovrK_all(h:a≠v):ovrK nd es u v a (nbG nd es v).length=overR nd es u v a:=by
 unfold ovrK overR
 rw [List.take_length,if_neg h]
theorem overR_v(h:a=v):overR nd es u v a=[]:=by unfold overR;rw [if_pos h]
end
theorem Over_ok{κ:Ctx}{I:List Item}{nd u v:Int}{es:List Pt}(hl:Sl κ I va es)(hG:GrOk nd es)(hT:TabRd κ I 0 tzCells):eu prog κ 308 [.agg #[e7 nd,va],e7 u,e7 v] I (λr J=>∃a c,r = .slice a (overL nd es u v).length c/\J=vk 200 a c (overL nd es u v)::I):=by
 have aw:=edges_le hG
 refine Ce3 Tryz.func308 C C ?_
 refine Af<|Ge1 (Bg (cs:=[_,_]) C C C) λb1=>Ga C<|Ac<|Af<|Ga C<|Ac<|Aq<|Af<|Gl2 ty38 ?_
 refine Gm C<|Gc2 (Ak c_ C C<|NeighG_ok (nd:=nd) (A8 hl) u<|Bm hT Ay) λaa M=>?_
 refine Gr (Bh Ab C)<|Gm C<|Ac<|Aw<|Bu (σ:=Nat×(Option Addr)×Nat×(List Pt)) (λs=>([(1,e7 u),(2,e7 v),(3,pt b1),(7,.slice s.2.1 s.2.2.2.length s.2.2.1),(14,.slice aa (nbG nd es u).length M),(15,e7<|(((nbG nd es u).length:Nat):Int)),(16,e7 ((s.1:Nat):Int))]:Env)) (λs=>vk 200 s.2.1 s.2.2.1 s.2.2.2::vk 3 aa M (nbG nd es u)::e8 b1 [e7 nd,va] 38::I) (λs=>(s.1<=(nbG nd es u).length)/\(s.2.2.2=((nbG nd es u).take s.1).flatMap (overR nd es u v))/\(s.2.2.2.length<=64*s.1)) (λs=>(nbG nd es u).length - s.1) (0,none,0,[]) ⟨om,rfl,(by simp)⟩ (Aa C<|Aa C<|Aa C<|Aa (Cx C<|by first|rfl|simp)<|Aa C<|Aa C<|Aa B2 Bi) (Cq (show Fit κ _ _ from Bl)<|Cb (α:=Pt) _ _) ?_
 rintro ⟨k,oa,oc,o⟩ hp
 dsimp only at hp ⊢
 obtain ⟨hk,ho,aq⟩:=hp
 have ax:=nbG_len nd es u
 have ar:=nbG_len nd es v
 refine Af<|Gr (A4 C C)<|Ac<|Aq<|A5 C (λak=>?_)<|λak=>?_
 ·refine Av (Ah<|Aq<|Aw<|Af<|Gr (Ax (α:=Int) (xs:=nbG nd es u) Ab ef C C Bf om om)<|Gr (Br (xs:=nbG nd es u) ef C Bf om om)<|Ga C<|Ac<|Aq<|Af<|Gm C<|Gm C<|Gr (Bw C C)<|Ac<|Ao (S9 22 9 1 2 3 7 14 15 16 C C C C C C C C C)<|A5 C (λao=>?_)<|λao=>?_)
  ·exact Bs<|Al<|A2<|Ah<|Ar<|Gr (Rad C C)<|Gm C<|Bj<|B3 ((k+1),(oa),(oc),(o))<|by dsimp only;exact ⟨om,(by rw [fm_take _ _ om,←ho];first|(rw [overR_v asm];simp;done)|(rw [Z,show k2=(nbG nd es v).length by omega,ovrK_all asm])),om⟩
  refine Av<|Ah<|Af<|Gl2 ty38 ?_
  refine Gm C<|Gc2 (Ak c_ C C<|NeighG_ok (nd:=nd) (A8 hl) v<|Bm hT Ay) λab ad=>?_
  refine Gr (Bh Ab C)<|Gm C<|Ac<|Ao (S11 27 26 25 9 1 2 3 7 14 15 16 C C C C C C C C C C C)<|Aw<|Bu (σ:=Nat×(Option Addr)×Nat×(List Pt)) (λs=>([(1,e7 u),(2,e7 v),(3,pt b1),(7,.slice s.2.1 s.2.2.2.length s.2.2.1),(9,e7<|e_ (nbG nd es u) k),(14,.slice aa (nbG nd es u).length M),(15,e7<|(((nbG nd es u).length:Nat):Int)),(16,e7<|(k:Int)),(25,.slice ab (nbG nd es v).length ad),(26,e7<|(((nbG nd es v).length:Nat):Int)),(27,e7 ((s.1:Nat):Int))]:Env)) (λs=>vk 3 ab ad (nbG nd es v)::vk 200 s.2.1 s.2.2.1 s.2.2.2::vk 3 aa M (nbG nd es u)::e8 b1 [e7 nd,va] 38::I) (λs=>(s.1<=(nbG nd es v).length)/\(s.2.2.2=o++ovrK nd es u v (e_ (nbG nd es u) k) s.1)/\(s.2.2.2.length<=o.length+s.1)) (λs=>(nbG nd es v).length - s.1) (0,oa,oc,o) (show ((0:Nat)<=(nbG nd es v).length)/\((o:List Pt)=o++ovrK nd es u v (e_ (nbG nd es u) k) (0:Nat))/\((o:List Pt).length<=o.length+(0:Nat)) from ⟨om,(by unfold ovrK;simp),om⟩) (Aa C<|Aa C<|Aa C<|Aa (Cx C<|by first|rfl|simp)<|Aa C<|Aa C<|Aa C<|Aa C<|Aa C<|Aa C<|Aa B2 Bi) Bc ?_
  rintro ⟨k2,qa,qc,q⟩ hp
  dsimp only at hp ⊢
  obtain ⟨ap,Z,ay⟩:=hp
  refine Af<|Gr (A4 C C)<|Ac<|Aq<|A5 C (λah=>?_)<|λah=>?_
  ·refine Av (Ah<|Aq<|Aw<|Af<|Gr (Ax (α:=Int) (xs:=nbG nd es v) Ab ef C C Bf om om)<|Gr (Br (xs:=nbG nd es v) ef C Bf om om)<|Ga C<|Ac<|Ao (S12 11 1 2 3 7 9 14 15 16 25 26 27 C C C C C C C C C C C C)<|Af<|Gm C<|Gm C<|Gr (Bo C C)<|Gm C<|Bt (d:=34) C (λan=>?_)<|λan=>?_)
   ·refine e9 (Be (vs:=[_,_]) ty38) ?_
    refine e9 (Ai C)<|e9 (Ai C)<|Ew (C5 C C C) (Ak c_ C C<|FindG_ok (nd:=nd) (A8 hl) (e_ (nbG nd es u) k) (e_ (nbG nd es v) k2) om) ?_
    rintro _ _ ⟨_,_,⟨y6,rfl,av,rfl⟩,rfl,rfl⟩
    refine e9 (Cr C C)<|Gr (Ba C C)<|Ac<|Ao (S13 40 11 1 2 3 7 9 14 15 16 25 26 27 C C C C C C C C C C C C C)<|A5 C (λae=>?_)<|λae=>?_
    ·refine Ar (Gm C<|Gm C<|Gm C<|Gr (Ec (cells:=[_,_]) ty200 B6 ef C C)<|Ge1 (Cf (α:=Pt) (cs:=[_,_]) (xs:=[⟨e_ (nbG nd es u) k,e_ (nbG nd es v) k2⟩]) Bv ty200 C C dc dc C C C C) λau=>?_)
     refine Ge2 (Cg (α:=Pt) (e:=200) (xs:=q) (ys:=([⟨e_ (nbG nd es u) k,e_ (nbG nd es v) k2⟩]:List Pt)) Bv ty200 C C C mm Bf lcn dc C<|λ_ _=>am) λaj ai=>?_
     exact Ga C<|Bj<|Aj<|Ah<|Ao (S11 7 1 2 3 9 14 15 16 25 26 27 C C C C C C C C C C C)<|Ar<|Gr (Rad C C)<|Gm C<|Bj<|B3 ((k2+1),(aj),(ai),(q++([⟨e_ (nbG nd es u) k,e_ (nbG nd es v) k2⟩]:List Pt)))<|by dsimp only;exact ⟨om,(by first|(rw [ovrK_yes om ⟨by assumption,(find_nb hG asm).1 asm⟩,←List.append_assoc,←Z])|(rw [ovrK_no om (λh=>by first|exact absurd h.1 asm|exact absurd ((find_nb hG asm).2 h.2) asm)];exact Z)|(rw [ovrK_no om (λh=>by omega)];exact Z)),olp⟩
    exact Av<|Aj<|Ah<|Ar<|Gr (Rad C C)<|Gm C<|Bj<|B3 ((k2+1),(qa),(qc),(q))<|by dsimp only;exact ⟨om,(by first|(rw [ovrK_yes om ⟨by assumption,(find_nb hG asm).1 asm⟩,←List.append_assoc,←Z])|(rw [ovrK_no om (λh=>by first|exact absurd h.1 asm|exact absurd ((find_nb hG asm).2 h.2) asm)];exact Z)|(rw [ovrK_no om (λh=>by omega)];exact Z)),olp⟩
   exact eb<|eb<|eb<|eb<|eb<|Gr (A6 C C)<|Ac<|Ao (S13 40 11 1 2 3 7 9 14 15 16 25 26 27 C C C C C C C C C C C C C)<|Dp C<|Av<|Aj<|Ah<|Ar<|Gr (Rad C C)<|Gm C<|Bj<|B3 ((k2+1),(qa),(qc),(q))<|by dsimp only;exact ⟨om,(by first|(rw [ovrK_yes om ⟨by assumption,(find_nb hG asm).1 asm⟩,←List.append_assoc,←Z])|(rw [ovrK_no om (λh=>by first|exact absurd h.1 asm|exact absurd ((find_nb hG asm).2 h.2) asm)];exact Z)|(rw [ovrK_no om (λh=>by omega)];exact Z)),olp⟩
  exact Bs<|Al<|Al<|A2<|Aj<|Ah<|Ar<|Gr (Rad C C)<|Gm C<|Bj<|B3 ((k+1),(qa),(qc),(q))<|by dsimp only;exact ⟨om,(by rw [fm_take _ _ om,←ho];first|(rw [overR_v asm];simp;done)|(rw [Z,show k2=(nbG nd es v).length by omega,ovrK_all asm])),om⟩
 refine Bs<|Al<|Al<|A2<|Ah<|Af<|Gm C<|Ga C<|Ac<|Az ?_
 have hE:(overL nd es u v)=o:=by rw [ho,show k=(nbG nd es u).length by omega,List.take_length];rfl
 exact A1 C C (vk 200 oa oc (overL nd es u v)::I) (by rw [hE];exact Bl) ⟨oa,oc,by rw [hE],rfl⟩
variable {κ:Ctx}{I:List Item}
theorem prs_nn(h:0<=n/\n<=100000):0<=n*(n - 1)/\n*(n - 1)<=10000000000:=by
 by_cases h0:n=0
 ·subst h0;simp
 refine ⟨Int.mul_nonneg h.1 om,?_⟩
 have Z:=Int.mul_le_mul (a:=n) (b:=n - 1) (c:=100000) (d:=100000) h.2 om om om
 omega
theorem prs_bd(h:0<=n/\n<=64):0<=prs n/\prs n<=2016:=by
 have Z:=prs_nn (n:=n) ⟨h.1,by omega⟩
 unfold prs
 refine ⟨Int.ediv_nonneg Z.1 dc,?_⟩
 by_cases h0:n=0
 ·subst h0;decide
 have Z:=Int.mul_le_mul (a:=n) (b:=n - 1) (c:=64) (d:=63) h.2 om om om
 omega
def wedK(nd:Int)(es:List Pt)(k:Nat):Int:=sumN k λw=>prs ((nbG nd es (w:Int)).length:Int)
theorem wedK_bd(nd:Int)(es:List Pt):∀k:Nat,0<=wedK nd es k/\wedK nd es k<=2016*(k:Int)
 |0=>by simp [wedK,sumN]
 |k+1=>by
  have Z:=wedK_bd nd es k
  have h2:=nbG_len nd es (k:Int)
  have M:=prs_bd (n:=((nbG nd es (k:Int)).length:Int)) ⟨by omega,by omega⟩
  have e:wedK nd es (k+1)=wedK nd es k+prs ((nbG nd es (k:Int)).length:Int):=rfl
  rw [e];omega
theorem Pairs_ok(n:Int)(h:0<=n/\n<=100000):eu prog κ 135 [e7 n] I (λr J=>r=e7 (prs n)/\I=J):=by
 have Z:=prs_nn h
 refine Ce1 Tryz.func135 C C ?_
 exact Af<|Ga C<|Ac<|Af<|Gm C<|Gm C<|Gr (Rsu C C)<|Gr (Ez C C<|by unfold InR;omega)<|Gr (Runs.quo C C om om<|by unfold InR;omega)<|Ga C<|Ac<|Az<|A1 C C I Ay ⟨rfl,rfl⟩
theorem Wedges_ok{nd:Int}{es:List Pt}(hl:Sl κ I va es)(ae:0<=nd/\nd<=64):eu prog κ 90 [.agg #[e7 nd,va]] I (λr J=>r=e7 (wedgeC nd es)/\I=J):=by
 refine Ce1 Tryz.func90 C C ?_
 refine Af<|Ge1 (Bg (cs:=[_,_]) C C C) λb1=>Ga C<|Ac<|Af<|Ga C<|Ac<|Aq<|Af<|Gf fld38_0 C<|Gl ef ?_
 refine Gm C<|Ac<|Aw<|Bu (σ:=Nat×Int) (λs=>([(1,pt b1),(3,e7<|s.2),(6,e7 nd),(7,e7 ((s.1:Nat):Int))]:Env)) (λs=>e8 b1 [e7 nd,va] 38::I) (λs=>((s.1:Int)<=nd)/\(s.2=wedK nd es s.1)) (λs=>nd.toNat - s.1) (0,0) ⟨om,rfl⟩ (Aa C<|Aa B2<|Aa C<|Aa B2 Bi) Bc ?_
 rintro ⟨k,q⟩ hp
 dsimp only at hp ⊢
 obtain ⟨hk,M⟩:=hp
 have aa:=nbG_len nd es (k:Int)
 have ad:=wedK_bd nd es k
 have ab:=prs_bd (n:=((nbG nd es (k:Int)).length:Int)) ⟨by omega,by omega⟩
 refine Af<|Gr (A4 C C)<|Ac<|Aq<|A5 C (λc8=>?_)<|λc8=>?_
 ·refine Av (Ah<|Aq<|Aw<|Af<|Gm C<|Ga C<|Ac<|Ar<|Gm C<|Gl2 ty38 ?_)
  refine Gm C<|Gc0 (Ak c_ C C<|DegreeG_ok (nd:=nd) (A8 hl) (k:Int)) ?_
  refine G.e (Ak c_ C C<|Pairs_ok ((((nbG nd es (k:Int)).length:Nat)):Int) om) ?_
  rintro _ _ ⟨_,_,⟨rfl,rfl⟩,rfl,rfl⟩
  exact Gr (Rad C C)<|Ga C<|Bj<|Aj<|Ah<|Ao (S4 3 1 6 7 C C C C)<|Ar<|Gr (Rad C C)<|Gm C<|Bj<|B3 ((k+1),(q+(prs ((((nbG nd es (k:Int)).length:Nat)):Int))))<|by dsimp only;exact ⟨om,(by rw [M];rfl)⟩
 refine Bs<|Al<|Al<|A2<|Ah<|Af<|Gm C<|Ga C<|Ac<|Az ?_
 have Z:k=nd.toNat:=by omega
 exact A1 C C I Ay ⟨by rw [M,Z];rfl,rfl⟩
end Go.Sl
namespace Go.Sl
open Go.RowKit (Below)
section
variable {P:Program}{κ:Ctx}{N:Frm}{Q:Exit->Act->World->Prop}{L:Env}{I J:List Item}
variable {d:Option Tmp}{ty:TypeId}{ps:String}{af:Array Edge}{gd:Option (Nat×Bool)}
theorem Runs.index4{x y:Operand}{T E by':Nat}{z:List Value}{a b c e i:Int}(ht:P.underlying T=some (.array 4 E))(Z:tyF P E=some (1,false,by',z))(hx:er L x=some (.agg #[e7 a,e7 b,e7 c,e7 e]))(hy:er L y=some (e7 i))(h0:0<=i)(h4:i<4) :
  Runs P κ N ⟨d,.index T x y,ty,ps,af,gd⟩ L J (e7<|e_ [a,b,c,e] i):=by
 intro s w M hs
 obtain ⟨j,rfl⟩:∃j:Nat,i=(j:Int):=⟨i.toNat,by omega⟩
 have hj:j=0\/j=1\/j=2\/j=3:=by omega
 rcases hj with rfl|rfl|rfl|rfl<;>simp [execOp,M.eval hx,M.eval hy,Instr.index,asIntOf,run_underlying ht,run_sizeOf Z,part,run_isAgg Z,e_]
end
end Go.Sl
