/- A part of the proofs of statements of this seat: contracts of functions, and the plain laws that they lean on. No conditions. -/
import Derived.Test.YtoagcglbkeomgaaGreatDoorE17
set_option linter.unusedVariables false
set_option linter.unusedSimpArgs false
set_option linter.unusedSectionVars false
open Go.Proofs.Tryz (prog)
set_option maxHeartbeats 2000000
namespace Go.Sl
open Go.Proofs
set_option maxRecDepth 4000
variable{k nd u v x:Int}{es:List Pt}{L num out:List Int}{j:Nat}
def NBX(nd:Int)(es:List Pt)(u v x y:Int):Prop:=y∈nbG nd es x\/(x=u/\y=v)\/(x=v/\y=u)
def N2(nd:Int)(es:List Pt)(u v:Int):List (BitVec 64):=List.set (List.set (ek nd es) u.toNat (e_ (ek nd es) u ||| H8 v)) v.toNat (e_ (List.set (ek nd es) u.toNat (e_ (ek nd es) u ||| H8 v)) v ||| H8 u)
theorem dd5(M:s8 nd es)(hu:p8 nd u)(hv:p8 nd v)(aa:u≠v){y:Int}(hx:p8 nd x):y∈eo (e_ (N2 nd es u v) x)↔NBX nd es u v x y:=by
 unfold p8 at hu hv hx
 have hl:=M.rows.len
 have hr:=M.rng
 have hb:y∈eo (e_ (ek nd es) x)↔y∈nbG nd es x:=by
  rw [M.rows.mem hx.1 hx.2,ag8 M]
  refine ⟨λh=>h.2,λh=>⟨?_,h⟩⟩
  have:=N3 M ((ag8 M).2 h);omega
 unfold N2 NBX
 rw [Eh _ v x _ hv.1 hx.1 (by rw [Fq];omega)]
 by_cases q1:v=x
 ·rw [B_ q1,ad7 om,Eh _ u v _ hu.1 hv.1 om,An aa,q1,hb]
  constructor
  ·rintro (h|h)
   ·exact .inl h
   exact .inr<|.inr ⟨rfl,h⟩
  rintro (h|h|h)
  ·exact .inl h
  ·omega
  exact .inr h.2
 rw [An q1,Eh _ u x _ hu.1 hx.1 om]
 by_cases q2:u=x
 ·rw [B_ q2,ad7 om,q2,hb]
  constructor
  ·rintro (h|h)
   ·exact .inl h
   exact .inr<|.inl ⟨rfl,h⟩
  rintro (h|h|h)
  ·exact .inl h
  ·exact .inr h.2
  omega
 rw [An q2,hb]
 constructor
 ·exact .inl
 rintro (h|h|h)
 ·exact h
 ·exact absurd h.1.symm q2
 exact absurd h.1.symm q1
structure RgI (NB:Int->Int->Prop) (P:Int->Prop) (L1:List Int) (F:BitVec 64) (sk:List Int):Prop where
 lev:∀x∈eo F,P x
 gd7:∀x∈L1,x∈eo F
 st:∀x∈sk,x∈eo F
 cl:∀x∈eo F,x∈sk\/∀y,NB x y->P y->y∈eo F
section
variable {NB:Int->Int->Prop}{P:Int->Prop}{L1 L2 st:List Int}{F F2:BitVec 64}
theorem RgI.pop(h:RgI NB P L1 F st)(h0:0<st.length)(hL:∀y,y∈L2↔NB (e_ st ((st.length:Int) - 1)) y/\P y/\y∉eo F)(M:∀x,x∈eo F2↔x∈eo F\/x∈L2):RgI NB P L1 F2 (st.take (st.length - 1)++L2):=by
 refine ⟨λx hx=>?_,λx hx=>(M x).2 (.inl<|h.gd7 x hx),λx hx=>?_,λx hx=>?_⟩
 ·rcases (M x).1 hx with hx|hx
  ·exact h.lev x hx
  exact ((hL x).1 hx).2.1
 ·rcases Gu.1 hx with hx|hx
  ·exact (M x).2 (.inl<|h.st x<|Hx hx)
  exact (M x).2 (.inr hx)
 rcases (M x).1 hx with hx|hx
 ·rcases h.cl x hx with hq|hq
  ·by_cases e:x=e_ st ((st.length:Int) - 1)
   ·refine .inr λy hy hP=>?_
    by_cases hyF:y∈eo F
    ·exact (M y).2 (.inl hyF)
    exact (M y).2 (.inr<|(hL y).2 ⟨e▸hy,hP,hyF⟩)
   refine .inl<|Gk _ ?_
   obtain ⟨i,hi,rfl⟩:=Hv hq
   have aa:i≠st.length - 1:=λq=>e (by rw [show ((st.length:Int) - 1)=((st.length - 1:Nat):Int) by omega,Cs st _ om];congr 1)
   rw [Jx]
   exact ⟨i,by rw [Fr];omega,by rw [Ki]⟩
  exact .inr λy hy hP=>(M y).2 (.inl<|hq y hy hP)
 exact .inl<|Ma _ hx
theorem dd7(hF:∀x,x∈eo F2↔x∈eo F\/x∈L2)(hn:L2.Nodup)(hd:∀x∈L2,x∉eo F):(eo F2).length=(eo F).length+L2.length:=by
 have hp:(eo F2).Perm (eo F++L2):=(Hr (Df _)<|Mv.2 ⟨Df _,hn,λa ha b M e=>hd b M<|e▸ha⟩).2 λx=>by rw [hF,Gu]
 rw [hp.length_eq,By]
end
theorem de7{F F2:BitVec 64}(M:j<L.length)(hr:∀x∈L,0<=x/\x<64)(h:∀x,x∈eo F2↔x∈eo F\/x∈L.take j):∀x,x∈eo (F2 ||| H8 (e_ L j))↔x∈eo F\/x∈L.take (j+1):=λx=>by
 rw [ad7 (hr _<|Bn om om),h,Ca L j M,Gu,Ge,or_assoc]
theorem cp6{st:List Int}(M:j<L.length)(ho:out=st++L.take j):out++[e_ L j]=st++L.take (j+1):=by rw [ho,Ca L j M,Fu]
theorem cm3(h:0<=k/\k<64):x∈eo (H8 k)↔x=k:=by
 have M:=ad7 (m:=0#64) (u:=x) h
 rw [D3] at M
 have e:(0#64 ||| H8 k)=H8 k:=by simp
 rw [e] at M
 rw [M]
 exact ⟨λh=>h.elim (λh=>by cases h) id,.inr⟩
theorem du4{NB:Int->Int->Prop}{P:Int->Prop}{L1:List Int}{F:BitVec 64}(hF:∀x,x∈eo F↔x∈eo 0#64\/x∈L1)(ho:out=L1)(hP:∀x∈L1,P x):RgI NB P L1 F out:=by
 have h1:∀x,x∈eo F↔x∈L1:=λx=>by rw [hF,D3];simp
 subst ho
 exact ⟨λx M=>hP x<|(h1 x).1 M,λx M=>(h1 x).2 M,λx M=>(h1 x).2 M,λx M=> .inl<|(h1 x).1 M⟩
structure fr0 (nd:Int) (es:List Pt) (num:List Int) (u v k:Int) (F:BitVec 64):Prop where
 lev:∀x∈eo F,p8 nd x/\e_ num x=k
 hu:e_ num u=k->u∈eo F
 hv:e_ num v=k->v∈eo F
 cl:∀x∈eo F,∀y,NBX nd es u v x y->e_ num y=k->y∈eo F
theorem RgI.reg{F ms:BitVec 64}{st:List Int}(hG:s8 nd es)(hl:(num.length:Int)=nd)(hu:p8 nd u)(hv:p8 nd v)
  (hm:∀x,x∈eo ms↔(0<=x/\x<(num.length:Int))/\e_ num x=k) (h:RgI (NBX nd es u v) (λx:Int=>(0<=x/\x<(num.length:Int))/\e_ num x=k) (eo<|(H8 u ||| H8 v) &&& ms) F st) (hs:st.length=0):fr0 nd es num u v k F:=by
 unfold p8 at hu hv
 have hr:=hG.rng
 obtain rfl:=Kx.1 hs
 refine ⟨λx hx=>?_,λhk=>h.gd7 u ?_,λhk=>h.gd7 v ?_,λx hx y M aa=>?_⟩
 ·have:=h.lev x hx;unfold p8;exact ⟨by omega,this.2⟩
 ·rw [K2,ak8,cm3 om,hm];exact ⟨.inl rfl,by omega,hk⟩
 ·rw [K2,ak8,cm3 (k:=v) om,hm];exact ⟨.inr rfl,by omega,hk⟩
 refine ((h.cl x hx).resolve_left (by simp)) y M ⟨?_,aa⟩
 rcases M with q|q|q
 ·have:=(N3 hG q).2.1;omega
 ·omega
 omega
theorem cb2{κ:Ctx}{I:List Item}{ea na:Option Addr}{ec nc:Nat}(hl:Sl κ I (.slice ea es.length ec) es)(hm:Sl κ I (.slice na num.length nc) num)(hG:s8 nd es)(ar:(num.length:Int)=nd)(hu:p8 nd u)(hv:p8 nd v)(a1:u≠v)(hT:F4 κ I 0 p5):eu prog κ 270 [.agg #[e7 nd,.slice ea es.length ec,.slice na num.length nc],e7 u,e7 v] I (λr J=>∃F:BitVec 64,r = .tuple #[U64 F,e7 (min (e_ num u) (e_ num v))]/\fr0 nd es num u v (min (e_ num u) (e_ num v)) F/\I=J):=by
 have bb:=hG.rng
 have bk:=hG.rows.len
 have bh:0<=u/\u<nd:=hu
 have bc:0<=v/\v<nd:=hv
 have bm:(N2 nd es u v).length=(ek nd es).length:=by unfold N2;rw [Fq,Fq]
 refine Ce3 Tryz.func270 C C ?_
 refine Am<|Ge1 (Au (cs:=[_,_,_]) C C C) λb1=>Ga C<|Ga C<|Ar<|Am<|Gf dj4 C<|Gl2 J9 ?_
 refine G.e (Ac c_ C C<|at4 (nd:=nd)<|A4 hl) ?_
 rintro _ _ ⟨_,_,⟨ab,ad,rfl,rfl⟩,rfl,rfl⟩
 have az:=ad6 nd es
 refine Ga C<|Ar<|Ay<|A9 mixed<|Ed 8<|Dr 0 C (Aq C)<|Dr 1 C (Aq C)<|Dr 2 C (A2 (α:=(BitVec 64)) (xs:=ek nd es) Cp M3 C C A5 (by first|omega|(have h1:=(aa om).1;unfold p8 at h1;omega))<|by first|omega|(simp only [Fq];omega)|(have h1:=(aa om).1;unfold p8 at h1;omega))<|Dr 3 C (Cc (α:=(BitVec 64)) (xs:=ek nd es) (u:=U64 ((e_ (ek nd es) u))) M3 C A5 (by first|omega|(have h1:=(aa om).1;unfold p8 at h1;omega)) (by first|omega|(simp only [Fq];omega)|(have h1:=(aa om).1;unfold p8 at h1;omega)) C)<|Dr 4 C (Aq C)<|Ds1 5<|Se C (Ac c_ C C<|ac3 v) ?_
 rintro _ _ ⟨_,_,⟨rfl,rfl⟩,rfl,rfl⟩
 refine ⟨Ah,?_⟩
 refine Dr 6 C (Eb (a:=(e_ (ek nd es) u)) (b:=H8 v) C C)<|Dr 7 C (A2 (α:=(BitVec 64)) (xs:=ek nd es) Cp M3 C C A5 (by first|omega|(have h1:=(aa om).1;unfold p8 at h1;omega))<|by first|omega|(simp only [Fq];omega)|(have h1:=(aa om).1;unfold p8 at h1;omega))<|Cg kr ?_
 refine Ae 8 C (Cv (α:=(BitVec 64)) (xs:=ek nd es) (e:=207) (new:=(e_ (ek nd es) u) ||| (H8 v)) M3 C C C (by first|omega|(have h1:=(aa om).1;unfold p8 at h1;omega)) (by first|omega|(simp only [Fq];omega)|(have h1:=(aa om).1;unfold p8 at h1;omega)) am) ?_
 rintro _ _ ⟨rfl,rfl⟩
 refine Ch kr ?_
 refine Ao<|A0 (S4 8 3 1 2)<|Ay<|A9 mixed<|Ed 8<|Dr 0 C (Aq C)<|Dr 1 C (Aq C)<|Dr 2 C (A2 (α:=(BitVec 64)) (xs:=List.set (ek nd es) (u).toNat ((e_ (ek nd es) u) ||| (H8 v))) Cp M3 C C A5 (by first|omega|(have h1:=(aa om).1;unfold p8 at h1;omega))<|by first|omega|(simp only [Fq];omega)|(have h1:=(aa om).1;unfold p8 at h1;omega))<|Dr 3 C (Cc (α:=(BitVec 64)) (xs:=List.set (ek nd es) (u).toNat ((e_ (ek nd es) u) ||| (H8 v))) (u:=U64 ((e_ (List.set (ek nd es) (u).toNat ((e_ (ek nd es) u) ||| (H8 v))) v))) M3 C A5 (by first|omega|(have h1:=(aa om).1;unfold p8 at h1;omega)) (by first|omega|(simp only [Fq];omega)|(have h1:=(aa om).1;unfold p8 at h1;omega)) C)<|Dr 4 C (Aq C)<|Ds1 5<|Se C (Ac c_ C C<|ac3 u) ?_
 rintro _ _ ⟨_,_,⟨rfl,rfl⟩,rfl,rfl⟩
 refine ⟨Ah,?_⟩
 refine Dr 6 C (Eb (a:=(e_ (List.set (ek nd es) (u).toNat ((e_ (ek nd es) u) ||| (H8 v))) v)) (b:=H8 u) C C)<|Dr 7 C (A2 (α:=(BitVec 64)) (xs:=List.set (ek nd es) (u).toNat ((e_ (ek nd es) u) ||| (H8 v))) Cp M3 C C A5 (by first|omega|(have h1:=(aa om).1;unfold p8 at h1;omega))<|by first|omega|(simp only [Fq];omega)|(have h1:=(aa om).1;unfold p8 at h1;omega))<|Cg kr ?_
 refine Ae 8 C (Cv (α:=(BitVec 64)) (xs:=List.set (ek nd es) (u).toNat ((e_ (ek nd es) u) ||| (H8 v))) (e:=207) (new:=(e_ (List.set (ek nd es) (u).toNat ((e_ (ek nd es) u) ||| (H8 v))) v) ||| (H8 u)) M3 C C C (by first|omega|(have h1:=(aa om).1;unfold p8 at h1;omega)) (by first|omega|(simp only [Fq];omega)|(have h1:=(aa om).1;unfold p8 at h1;omega)) am) ?_
 rintro _ _ ⟨rfl,rfl⟩
 refine Ch kr ?_
 refine Ao<|Ay<|A9 mixed<|Ed 12<|Dr 0 C (Af be8 C)<|Dr 1 C (Bf W4) ?_
 refine Dr 2 C (Aq C)<|Dr 3 C (A2 (α:=Int) (xs:=num) Ab ef C C (A4 hm) (by first|omega|(have h1:=(aa om).1;unfold p8 at h1;omega))<|by first|omega|(simp only [Fq];omega)|(have h1:=(aa om).1;unfold p8 at h1;omega))<|Dr 4 C (B8 (xs:=num) ef C (A4 hm) (by first|omega|(have h1:=(aa om).1;unfold p8 at h1;omega))<|by first|omega|(simp only [Fq];omega)|(have h1:=(aa om).1;unfold p8 at h1;omega))<|Dr 5 C (Af be8 C)<|Dr 6 C (Bf W4) ?_
 refine Dr 7 C (Aq C)<|Dr 8 C (A2 (α:=Int) (xs:=num) Ab ef C C (A4 hm) (by first|omega|(have h1:=(aa om).1;unfold p8 at h1;omega))<|by first|omega|(simp only [Fq];omega)|(have h1:=(aa om).1;unfold p8 at h1;omega))<|Dr 9 C (B8 (xs:=num) ef C (A4 hm) (by first|omega|(have h1:=(aa om).1;unfold p8 at h1;omega))<|by first|omega|(simp only [Fq];omega)|(have h1:=(aa om).1;unfold p8 at h1;omega))<|Dr 10 C (j7.min C C)<|Dr 11 C (Be C)<|Dz<|Ao<|A0 (S5 9 8 3 1 2)<|Am<|Gf be8 C<|Ds (J:=vc 207 (.slice ab (ek nd es).length ad) ((N2 nd es u v))::e8 b1 [e7 nd,.slice ea es.length ec,.slice na num.length nc] 40::I) (Dd _) ?_
 have a5:(if (e_ num v)<(e_ num u) then (e_ num v) else (e_ num u))=(min (e_ num u)<|e_ num v):=fy5 _ _
 rw [a5]
 refine Gl W4 ?_
 refine Gm C<|G.e (Ac c_ C C<|cq7 (num:=num) (lv:=(min (e_ num u)<|e_ num v)) (A4 hm) om) ?_
 rintro _ _ ⟨_,_,⟨M,rfl,ai,rfl⟩,rfl,rfl⟩
 refine Ga C<|Ar<|Am<|Ga C<|Ar<|Am<|Gm C<|Gr (Bl Cp C)<|Ge2 (Eff.ge7 (α:=Int) (n:=(ek nd es).length) Ab ef C C C om om om C) λa0 a6=>?_
 refine Ga C<|Ar<|A0 (S7 12 11 10 9 8 1 2)<|Ay<|Am<|Gm C<|G.e (Ac c_ C C<|ac3 u) ?_
 rintro _ _ ⟨_,_,⟨rfl,rfl⟩,rfl,rfl⟩
 refine Gm C<|G.e (Ac c_ C C<|ac3 v) ?_
 rintro _ _ ⟨_,_,⟨rfl,rfl⟩,rfl,rfl⟩
 refine Gr (Eb (a:=H8 u) (b:=H8 v) C C)<|Gm C<|Gr (Eg (a:=(H8 u) ||| (H8 v)) (b:=M) C C)<|Gc2 (Ac c_ C C<|ac1 (((H8 u) ||| (H8 v)) &&& M)<|A6 hT Ah) λah ae=>?_
 refine Gr (Bl Ab C)<|Gm C<|Ar<|A0 (S8 64 63 62 12 11 10 9 8)<|A8<|B9 (σ:=Nat×(BitVec 64)×(Option Addr)×Nat×(List Int)) (λs=>([(8,.slice ab (ek nd es).length ad),(9,e7<|(min (e_ num u)<|e_ num v)),(10,U64 M),(11,U64<|s.2.1),(12,.slice s.2.2.1 s.2.2.2.2.length s.2.2.2.1),(62,.slice ah (eo<|((H8 u) ||| (H8 v)) &&& M).length ae),(63,e7<|(((eo<|((H8 u) ||| (H8 v)) &&& M).length:Nat):Int)),(64,e7 ((s.1:Nat):Int))]:Env)) (λs=>vk 3 ah ae (eo<|((H8 u) ||| (H8 v)) &&& M)::vk 3 s.2.2.1 s.2.2.2.1 s.2.2.2.2::vc 207 (.slice ab (ek nd es).length ad) ((N2 nd es u v))::e8 b1 [e7 nd,.slice ea es.length ec,.slice na num.length nc] 40::I) (λs=>(s.1<=(eo<|(H8 u ||| H8 v) &&& M).length)/\(∀x,x∈eo s.2.1↔x∈eo 0#64\/x∈(eo<|(H8 u ||| H8 v) &&& M).take s.1)/\(s.2.2.2.2=[]++(eo<|(H8 u ||| H8 v) &&& M).take s.1)) (λs=>(eo<|(H8 u ||| H8 v) &&& M).length - s.1) (0,0#64,a0,a6,[]) ⟨om,(λx=>by rw [Ju];simp),rfl⟩ (cx2<|Aa C<|Aa (Db C<|by first|rfl|simp)<|Aa (Db C<|by first|rfl|simp)<|cx2<|Aa Cn Bb) Ai ?_
 rintro ⟨k,F,a,c,out⟩ hp
 dsimp only at hp ⊢
 obtain ⟨hk,hF,ho⟩:=hp
 have bj:out.length=k:=by rw [ho,Ko,Fr];omega
 have bf:=Et ((H8 u ||| H8 v) &&& M)
 refine Am<|Gr (Bj C C)<|Ar<|Ay<|Al C (λa7=>?_)<|λa7=>?_
 ·refine Bc (Ao<|Ay<|A8<|Am<|Gr (A2 (α:=Int) (xs:=eo (((H8 u) ||| (H8 v)) &&& M)) Ab ef C C A5 (by first|omega|(have h1:=(aa om).1;unfold p8 at h1;omega))<|by first|omega|(simp only [Fq];omega)|(have h1:=(aa om).1;unfold p8 at h1;omega))<|Gr (B8 (xs:=eo (((H8 u) ||| (H8 v)) &&& M)) ef C A5 (by first|omega|(have h1:=(aa om).1;unfold p8 at h1;omega))<|by first|omega|(simp only [Fq];omega)|(have h1:=(aa om).1;unfold p8 at h1;omega))<|Ga C<|Ar<|Am<|Gm C<|Gm C<|G.e (Ac c_ C C<|ac3<|e_ (eo<|((H8 u) ||| (H8 v)) &&& M) (k:Int)) ?_)
  rintro _ _ ⟨_,_,⟨rfl,rfl⟩,rfl,rfl⟩
  refine Gr (Eb (a:=F) (b:=H8 (e_ (eo<|((H8 u) ||| (H8 v)) &&& M) (k:Int))) C C)<|Ga C<|Ar<|A0 (S9 11 14 8 9 10 12 62 63 64)<|Ba<|Gm C<|Gm C<|Ge1 (B0 (α:=Int) (cs:=[_]) (xs:=[e_ (eo<|((H8 u) ||| (H8 v)) &&& M) (k:Int)]) Ab ef C C dc dc C C C C) λbi=>?_
  refine Ge2 (Bp (α:=Int) (e:=3) (xs:=out) (ys:=([e_ (eo<|((H8 u) ||| (H8 v)) &&& M) (k:Int)]:List Int)) Ab ef C C C mm A5 lcn dc C<|λ_ _=>am) λaq av=>?_
  exact Ga C<|Bs<|Av<|Ao<|A0 (S8 12 11 8 9 10 62 63 64)<|Ba<|Gr (Rad C C)<|Gm C<|Bs<|Bt ((k+1),(F ||| (H8<|e_ (eo<|((H8 u) ||| (H8 v)) &&& M) (k:Int))),(aq),(av),(out++([e_ (eo<|((H8 u) ||| (H8 v)) &&& M) (k:Int)]:List Int)))<|by dsimp only;exact ⟨om,(de7 om (λx hx=>Eo hx) hF),(cp6 om ho)⟩
 refine Ck<|Aw<|Aw<|Bi<|Ao<|Ay<|A8<|B9 (σ:=(BitVec 64)×(Option Addr)×Nat×(List Int)) (λs=>([(8,.slice ab (ek nd es).length ad),(9,e7<|(min (e_ num u)<|e_ num v)),(10,U64 M),(11,U64<|s.1),(12,.slice s.2.1 s.2.2.2.length s.2.2.1)]:Env)) (λs=>vk 3 ah ae (eo<|((H8 u) ||| (H8 v)) &&& M)::vk 3 s.2.1 s.2.2.1 s.2.2.2::vc 207 (.slice ab (ek nd es).length ad) ((N2 nd es u v))::e8 b1 [e7 nd,.slice ea es.length ec,.slice na num.length nc] 40::I) (λs=>(RgI (NBX nd es u v) (λx:Int=>(0<=x/\x<(num.length:Int))/\e_ num x=(min (e_ num u)<|e_ num v)) (eo<|(H8 u ||| H8 v) &&& M) s.1 s.2.2.2)/\(s.2.2.2.length<=(eo s.1).length)) (λs=>2*(64 - (eo s.1).length)+s.2.2.2.length) (F,a,c,out) (show (RgI (NBX nd es u v) (λx:Int=>(0<=x/\x<(num.length:Int))/\e_ num x=(min (e_ num u)<|e_ num v)) (eo<|(H8 u ||| H8 v) &&& M) (F:BitVec 64) (out:List Int))/\((out:List Int).length<=(eo (F:BitVec 64)).length) from ⟨(du4 (by rw [Fx om] at hF;exact hF) (by rw [ho,Ko,Fx om])<|λx hx=>(ai x).1 (K2.1 hx).2),(by have h2:=dd7 (F:=0#64) (F2:=F) (L2:=(eo<|(H8 u ||| H8 v) &&& M)) (by rw [Fx om] at hF;exact hF) (Df _) (λx _=>by rw [D3];simp);rw [D3] at h2;simp only [Fw] at h2;omega)⟩) (cx2<|Aa C<|Aa (Db C<|by first|rfl|simp)<|Aa (Db C<|by first|rfl|simp) Bb) Ai ?_
 rintro ⟨F,a,c,sk⟩ hp
 dsimp only at hp ⊢
 obtain ⟨hR,be⟩:=hp
 have bg:=Et F
 have aa:=λh:0<sk.length=>hR.lev _ (hR.st _<|Bn (xs:=sk) (i:=(sk.length:Int) - 1) om om)
 refine Ay<|Am<|Gm C<|Gr (Bl Ab C)<|Gr (Ec C C)<|Ar<|Al C (λa4=>?_)<|λa4=>?_
 ·refine Bc (Ao<|A8<|Am<|Gm C<|Gm C<|Gr (Bl Ab C)<|Gr (Rsu C C)<|Gr (A2 (α:=Int) (xs:=sk) Ab ef C C A5 (by first|omega|(have h1:=(aa om).1;unfold p8 at h1;omega))<|by first|omega|(simp only [Fq];omega)|(have h1:=(aa om).1;unfold p8 at h1;omega))<|Gr (B8 (xs:=sk) ef C A5 (by first|omega|(have h1:=(aa om).1;unfold p8 at h1;omega))<|by first|omega|(simp only [Fq];omega)|(have h1:=(aa om).1;unfold p8 at h1;omega))<|Ga C<|Ar<|A0 (S6 15 8 9 10 11 12)<|Am<|Gm C<|Gm C<|Gr (Bl Ab C)<|Gr (Rsu C C)<|Gm C<|Gr (j7.caps Ab C)<|Gr (j7.gf6 (α:=Int) (xs:=sk) (h:=sk.length - 1) Ab ef C C C om A5 om om)<|Ga C<|Ds (J:=vk 3 a c (List.take (sk.length - 1) sk)::vk 3 ah ae (eo<|((H8 u) ||| (H8 v)) &&& M)::vc 207 (.slice ab (ek nd es).length ad) ((N2 nd es u v))::e8 b1 [e7 nd,.slice ea es.length ec,.slice na num.length nc] 40::I) (A7 Az<|Fit.fv2 (α:=Int) C) ?_)
  refine Ar<|A0 (S6 12 15 8 9 10 11)<|Am<|Gm C<|Gm C<|Gr (A2 (α:=(BitVec 64)) (xs:=(N2 nd es u v)) Cp M3 C C A5 (by first|omega|(have h1:=(aa om).1;unfold p8 at h1;omega))<|by first|omega|(simp only [Fq];omega)|(have h1:=(aa om).1;unfold p8 at h1;omega))<|Gr (Cc (α:=(BitVec 64)) (xs:=(N2 nd es u v)) (u:=U64 ((e_ (N2 nd es u v)<|e_ sk<|((sk.length:Nat):Int) - 1))) M3 C A5 (by first|omega|(have h1:=(aa om).1;unfold p8 at h1;omega)) (by first|omega|(simp only [Fq];omega)|(have h1:=(aa om).1;unfold p8 at h1;omega)) C)<|Gm C<|Gr (Eg (a:=(e_ (N2 nd es u v)<|e_ sk<|((sk.length:Nat):Int) - 1)) (b:=M) C C)<|Gm C<|Gr (E0 (a:=(e_ (N2 nd es u v)<|e_ sk<|((sk.length:Nat):Int) - 1) &&& M) (b:=F) C C)<|Gc2 (Ac c_ C C<|ac1 (((e_ (N2 nd es u v)<|e_ sk<|((sk.length:Nat):Int) - 1) &&& M) &&& ~~~F)<|A6 hT Ah) λao ap=>?_
  refine Gr (Bl Ab C)<|Gm C<|Ar<|A0 (S8 103 102 101 12 8 9 10 11)<|A8<|B9 (σ:=Nat×(BitVec 64)×(Option Addr)×Nat×(List Int)) (λs=>([(8,.slice ab (ek nd es).length ad),(9,e7<|(min (e_ num u)<|e_ num v)),(10,U64 M),(11,U64<|s.2.1),(12,.slice s.2.2.1 s.2.2.2.2.length s.2.2.2.1),(101,.slice ao (eo<|((e_ (N2 nd es u v)<|e_ sk<|((sk.length:Nat):Int) - 1) &&& M) &&& ~~~F).length ap),(102,e7<|(((eo<|((e_ (N2 nd es u v)<|e_ sk<|((sk.length:Nat):Int) - 1) &&& M) &&& ~~~F).length:Nat):Int)),(103,e7 ((s.1:Nat):Int))]:Env)) (λs=>vk 3 ao ap (eo<|((e_ (N2 nd es u v)<|e_ sk<|((sk.length:Nat):Int) - 1) &&& M) &&& ~~~F)::vk 3 s.2.2.1 s.2.2.2.1 s.2.2.2.2::vk 3 ah ae (eo<|((H8 u) ||| (H8 v)) &&& M)::vc 207 (.slice ab (ek nd es).length ad) ((N2 nd es u v))::e8 b1 [e7 nd,.slice ea es.length ec,.slice na num.length nc] 40::I) (λs=>(s.1<=(eo<|((e_ (N2 nd es u v)<|e_ sk<|((sk.length:Nat):Int) - 1) &&& M) &&& ~~~F).length)/\(∀x,x∈eo s.2.1↔x∈eo F\/x∈(eo<|((e_ (N2 nd es u v)<|e_ sk<|((sk.length:Nat):Int) - 1) &&& M) &&& ~~~F).take s.1)/\(s.2.2.2.2=List.take (sk.length - 1) sk++(eo<|((e_ (N2 nd es u v)<|e_ sk<|((sk.length:Nat):Int) - 1) &&& M) &&& ~~~F).take s.1)) (λs=>(eo<|((e_ (N2 nd es u v)<|e_ sk<|((sk.length:Nat):Int) - 1) &&& M) &&& ~~~F).length - s.1) (0,F,a,c,(List.take (sk.length - 1) sk)) ⟨om,(λx=>by rw [Ju];simp),(by rw [Ju,Gt])⟩ (cx2<|Aa C<|Aa (Db C<|by first|rfl|simp)<|Aa (Db C<|by first|rfl|simp)<|cx2<|Aa Cn Bb) Ai ?_
  rintro ⟨j,F3,a3,c3,o3⟩ hp
  dsimp only at hp ⊢
  obtain ⟨hj,aj,an⟩:=hp
  have a9:o3.length=sk.length - 1+j:=by rw [an,By,Fr,Fr];omega
  have a8:=Et ((((e_ (N2 nd es u v)<|e_ sk<|((sk.length:Nat):Int) - 1) &&& M) &&& ~~~F))
  have ay:∀y,y∈eo (((e_ (N2 nd es u v)<|e_ sk<|((sk.length:Nat):Int) - 1) &&& M) &&& ~~~F)↔NBX nd es u v (e_ sk<|(sk.length:Int) - 1) y/\((0<=y/\y<(num.length:Int))/\e_ num y=(min (e_ num u)<|e_ num v))/\y∉eo F:=λy=>by rw [M9,K2,dd5 hG hu hv a1<|by have:=(aa om).1;unfold p8;omega,ai y,and_assoc]
  have ak:j=(eo<|((e_ (N2 nd es u v)<|e_ sk<|((sk.length:Nat):Int) - 1) &&& M) &&& ~~~F).length->(∀x,x∈eo F3↔x∈eo F\/x∈eo (((e_ (N2 nd es u v)<|e_ sk<|((sk.length:Nat):Int) - 1) &&& M) &&& ~~~F))/\(eo F3).length=(eo F).length+(eo<|((e_ (N2 nd es u v)<|e_ sk<|((sk.length:Nat):Int) - 1) &&& M) &&& ~~~F).length/\o3=List.take (sk.length - 1) sk++eo (((e_ (N2 nd es u v)<|e_ sk<|((sk.length:Nat):Int) - 1) &&& M) &&& ~~~F):=λe=>by rw [Fx (l:=eo (((e_ (N2 nd es u v)<|e_ sk<|((sk.length:Nat):Int) - 1) &&& M) &&& ~~~F)) (i:=j) om] at aj an;exact ⟨aj,dd7 aj (Df _)<|λx hx=>((ay x).1 hx).2.2,an⟩
  refine Am<|Gr (Bj C C)<|Ar<|Ay<|Al C (λax=>?_)<|λax=>?_
  ·refine Bc (Ao<|Ay<|A8<|Am<|Gr (A2 (α:=Int) (xs:=eo (((e_ (N2 nd es u v)<|e_ sk<|((sk.length:Nat):Int) - 1) &&& M) &&& ~~~F)) Ab ef C C A5 (by first|omega|(have h1:=(aa om).1;unfold p8 at h1;omega))<|by first|omega|(simp only [Fq];omega)|(have h1:=(aa om).1;unfold p8 at h1;omega))<|Gr (B8 (xs:=eo (((e_ (N2 nd es u v)<|e_ sk<|((sk.length:Nat):Int) - 1) &&& M) &&& ~~~F)) ef C A5 (by first|omega|(have h1:=(aa om).1;unfold p8 at h1;omega))<|by first|omega|(simp only [Fq];omega)|(have h1:=(aa om).1;unfold p8 at h1;omega))<|Ga C<|Ar<|Am<|Gm C<|Gm C<|G.e (Ac c_ C C<|ac3<|e_ (eo<|((e_ (N2 nd es u v)<|e_ sk<|((sk.length:Nat):Int) - 1) &&& M) &&& ~~~F) (j:Int)) ?_)
   rintro _ _ ⟨_,_,⟨rfl,rfl⟩,rfl,rfl⟩
   refine Gr (Eb (a:=F3) (b:=H8 (e_ (eo<|((e_ (N2 nd es u v)<|e_ sk<|((sk.length:Nat):Int) - 1) &&& M) &&& ~~~F) (j:Int))) C C)<|Ga C<|Ar<|A0 (S9 11 17 8 9 10 12 101 102 103)<|Ba<|Gm C<|Gm C<|Ge1 (B0 (α:=Int) (cs:=[_]) (xs:=[e_ (eo<|((e_ (N2 nd es u v)<|e_ sk<|((sk.length:Nat):Int) - 1) &&& M) &&& ~~~F) (j:Int)]) Ab ef C C dc dc C C C C) λba=>?_
   refine Ge2 (Bp (α:=Int) (e:=3) (xs:=o3) (ys:=([e_ (eo<|((e_ (N2 nd es u v)<|e_ sk<|((sk.length:Nat):Int) - 1) &&& M) &&& ~~~F) (j:Int)]:List Int)) Ab ef C C C mm A5 lcn dc C<|λ_ _=>am) λaw au=>?_
   exact Ga C<|Bs<|Av<|Ao<|A0 (S8 12 11 8 9 10 101 102 103)<|Ba<|Gr (Rad C C)<|Gm C<|Bs<|Bt ((j+1),(F3 ||| (H8<|e_ (eo<|((e_ (N2 nd es u v)<|e_ sk<|((sk.length:Nat):Int) - 1) &&& M) &&& ~~~F) (j:Int))),(aw),(au),(o3++([e_ (eo<|((e_ (N2 nd es u v)<|e_ sk<|((sk.length:Nat):Int) - 1) &&& M) &&& ~~~F) (j:Int)]:List Int)))<|by dsimp only;exact ⟨om,(de7 om (λx hx=>Eo hx) aj),(cp6 om an)⟩
  exact Ck<|Aw<|Aw<|Bi<|Av<|Bt ((F3),(a3),(c3),(o3)) (by dsimp only;exact ⟨(by rw [(ak om).2.2];exact hR.pop om ay (ak om).1),(by have h4:=(ak om).2.1;omega)⟩) (hlt:=by (try dsimp only);exact (by have h4:=(ak om).2.1;have h5:=Et F3;omega))
 exact Ck<|Aw<|Aw<|Bi<|Ao<|Am<|Gm C<|Gm C<|Ga C<|Ga C<|Ar<|B2<|C3 C C C I Ah ⟨F,rfl,hR.reg hG ar hu hv ai om,rfl⟩
end Go.Sl
namespace Go.Sl
variable {P:Program}{κ:Ctx}{N:Frm}{L:Env}{I:List Item}
end Go.Sl
namespace Go.Sl
open Go.Proofs
set_option maxRecDepth 4000
end Go.Sl
namespace Go.Sl
open Go.Proofs
set_option maxRecDepth 4000
variable{a0 ea ga na:Option Addr}{M ec gc nc:Nat}
attribute [local irreducible] W G V D A j7 Eff
section
variable {nd u v k:Int}{es es':List Pt}{F A S B C:BitVec 64}
theorem bz4(M:s8 nd es):∀x∈j9 nd es,0<=x/\x<=1000:=λx hx=>by
 obtain ⟨i,hi,rfl⟩:=av8 hx
 have h1:=G8 M
 have h2:=T7 M (u:=(i:Int)) om om
 have:=M.rng
 omega
theorem fr0.rng(hG:s8 nd es){num:List Int}(h:fr0 nd es num u v k F):∀x∈eo F,0<=x/\x<nd:=λx M=>(h.lev x M).1
theorem dx8(h:R6 nd es es' u v)(hk:k=min (e_ (j9 nd es) u) (e_ (j9 nd es) v))(hR:fr0 nd es (j9 nd es) u v k F)(hA:∀x,x∈eo A↔(0<=x/\x<((j9 nd es).length:Int))/\k<e_ (j9 nd es) x)
  (hS:ft6 (ek nd es') F A (k+1) S):(eo S).foldl (X8 1) (j9 nd es)=j9 nd es':=by
 have h1:=G8 h.ok
 have h2:∀x∈eo S,0<=x/\x<((j9 nd es).length:Int):=λx M=>by rw [h1];exact hR.rng h.ok x (hS.sub x M)
 refine bz3 h.ok' (by rw [J3];exact h1) λx M=>?_
 rw [ac6 _ _ h2 _ M.1,M1<|Df _,Int.one_mul]
 exact (cu8 h hk ⟨hR.lev,hR.hu,hR.hv,λx M y hy hk=>hR.cl x M y ((h.nb x y).1 hy) hk⟩ (λx=>by rw [hA,h1];exact Iff.rfl) hS M).symm
theorem dk1(hG:s8 nd es')(M:fr0 nd es' (j9 nd es') u v k F)(hB:∀x,x∈eo B↔(0<=x/\x<((j9 nd es').length:Int))/\k<e_ (j9 nd es') x)
  (hC:∀x,x∈eo C↔(0<=x/\x<((j9 nd es').length:Int))/\e_ (j9 nd es') x=k) (x:Int):x∈eo (B ||| (C &&& ~~~F))↔p8 nd x/\k<=e_ (j9 nd es') x/\x∉eo F:=by
 have h1:=G8 hG
 rw [ak8,M9,hB,hC,h1]
 unfold p8
 constructor
 ·rintro (⟨a,b⟩|⟨⟨a,b⟩,c⟩)
  ·exact ⟨a,by omega,λq=>by have:=(M.lev x q).2;omega⟩
  exact ⟨a,by omega,c⟩
 rintro ⟨a,b,c⟩
 by_cases e:e_ (j9 nd es') x=k
 ·exact .inr ⟨⟨a,e⟩,c⟩
 exact .inl ⟨a,by omega⟩
theorem dz4(h:R6 nd es es' u v)(hk:k=min (e_ (j9 nd es') u) (e_ (j9 nd es') v))(hR:fr0 nd es' (j9 nd es') u v k F)(hA:∀x,x∈eo A↔p8 nd x/\k<=e_ (j9 nd es') x/\x∉eo F)
  (hS:ft6 (ek nd es) F A k S):(eo<|F &&& ~~~S).foldl (X8<|-1) (j9 nd es')=j9 nd es:=by
 have h1:=G8 h.ok'
 have h2:∀x∈eo (F &&& ~~~S),0<=x/\x<((j9 nd es').length:Int):=λx M=>by rw [h1];exact hR.rng h.ok' x (M9.1 M).1
 refine bz3 h.ok (by rw [J3];exact h1) λx M=>?_
 rw [ac6 _ _ h2 _ M.1,M1<|Df _]
 have h3:=dk7 h hk ⟨hR.lev,hR.hu,hR.hv,λx M y hy hk=>hR.cl x M y (.inl hy) hk⟩ hA hS M
 by_cases e:x∈eo (F &&& ~~~S)
 ·rw [B_ e];rw [B_ (M9.1 e)] at h3;omega
 rw [An e];rw [An (λq=>e<|M9.2 q)] at h3;omega
end
theorem ta8{p:Prop}(h:p:=by unfold p8;omega):p:=h
theorem fr2{κ:Ctx}{I:List Item}{nd u v:Int}{es es':List Pt}(hl:Sl κ I (.slice ea es.length ec) es)(hm:Sl κ I (.slice na (j9 nd es).length nc) (j9 nd es))(hg:Sl κ I (.slice ga es'.length gc) es')(h:R6 nd es es' u v)(hT:F4 κ I 0 p5):eu prog κ 262 [.agg #[e7 nd,.slice ea es.length ec,.slice na (j9 nd es).length nc],.agg #[e7 nd,.slice ga es'.length gc],e7 u,e7 v] I (λr J=>∃(a:Option Addr) (c:Nat) (w:Value),r = .tuple #[.agg #[e7 nd,.slice ga es'.length gc,.slice a (j9 nd es').length c],w]/\J=vk 3 a c (j9 nd es')::I):=by
 have ah:=h.ok'
 have hG:=h.ok
 have a3:(ek nd es').length=nd:=ah.rows.len
 have aw:(ek nd es).length=nd:=hG.rows.len
 have av:=hG.rng
 have an:=h.ends
 unfold F5 at an
 have a0:=G8 hG
 have au:=G8 ah
 have az:=T7 hG (u:=u) om om
 have ax:=T7 hG (u:=v) om om
 refine Ce4 Tryz.func262 C C ?_
 refine Am<|Ge1 (Au (cs:=[_,_,_]) C C C) λb1=>Ge1 (Au (cs:=[_,_]) C C C) λb2=>Ge1 (Aj ab6 C) λb3=>Z ?_
 refine G.e (Ac c_ C C<|cb2 (nd:=nd) (u:=u) (v:=v) (A4 hl) (A4 hm) hG om ta8 ta8 om<|A6 hT Ah) ?_
 rintro _ _ ⟨_,_,⟨ap,rfl,M,rfl⟩,rfl,rfl⟩
 refine Z ?_
 refine A9 mixed<|Ed 15<|Z ?_
 refine Ds1 3<|Se C (Ac c_ C C<|at4 (nd:=nd)<|A4 hg) ?_
 rintro _ _ ⟨_,_,⟨a1,ay,rfl,rfl⟩,rfl,rfl⟩
 refine ⟨Ah,?_⟩
 have ak:=ad6 nd es'
 refine Ds1 8<|Se C (Ac c_ C C<|cr4 (num:=j9 nd es) (lv:=min (e_ (j9 nd es) u) (e_ (j9 nd es) v)) (A4 hm) om) ?_
 rintro _ _ ⟨_,_,⟨ao,rfl,ae,rfl⟩,rfl,rfl⟩
 refine ⟨Ah,?_⟩
 refine Ds1 11<|Se C (Ac c_ C C<|ca8 (rows:=ek nd es') (F:=ap) (A:=ao) (k:=(min (e_ (j9 nd es) u)<|e_ (j9 nd es) v)+1) A5 om (λx hx=>by have h9:=(M.lev x hx).1;unfold p8 at h9;omega)<|A6 hT Ah) ?_
 rintro _ _ ⟨_,_,⟨aj,rfl,aa,rfl⟩,rfl,rfl⟩
 refine ⟨Ah,?_⟩
 refine Ds1 12<|Se C (Ac c_ C C<|cq3 (nd:=nd) (nd':=nd) (b':=1) (va:= .slice ea es.length ec) (ga:=ga) (gn:=es'.length) (gc:=gc) (S:=aj) (A4 hm) (λx hx=>by have h9:=(M.lev x<|aa.sub x hx).1;unfold p8 at h9;omega) (bz4 hG) dc om<|A6 hT Ah) ?_
 rintro _ _ ⟨_,_,⟨ad,ab,aq,ar,rfl,rfl⟩,rfl,rfl⟩
 refine ⟨Ah,?_⟩
 refine Z ?_
 refine Cg kr ?_
 refine Ae 15 C (C9 ab6) ?_
 rintro _ _ ⟨rfl,rfl⟩
 refine Dg (i:=16) kr C (Ap C) C C (Be C) ?_
 refine Ch kr<|Z ?_
 have hE:(eo aj).foldl (X8 1) (j9 nd es)=j9 nd es':=dx8 h rfl M ae aa
 have ai:(j9 nd es).length=(j9 nd es').length:=by have h1:=G8 h.ok;have h2:=G8 h.ok';omega
 exact Co C ab6 C C mm C (vk 3 ad ab (j9 nd es')::I) (by unfold vk;rw [←hE,hE,←ai,←hE];exact Az) ⟨ad,ab,_,by rw [←ai],rfl⟩
theorem fr1{κ:Ctx}{I:List Item}{nd u v:Int}{es es':List Pt}(hl:Sl κ I (.slice ea es'.length ec) es')(hm:Sl κ I (.slice na (j9 nd es').length nc) (j9 nd es'))(hg:Sl κ I (.slice ga es.length gc) es)(h:R6 nd es es' u v)(hT:F4 κ I 0 p5):eu prog κ 264 [.agg #[e7 nd,.slice ea es'.length ec,.slice na (j9 nd es').length nc],.agg #[e7 nd,.slice ga es.length gc],e7 u,e7 v] I (λr J=>∃(a:Option Addr) (c:Nat) (w:Value),r = .tuple #[.agg #[e7 nd,.slice ga es.length gc,.slice a (j9 nd es).length c],w]/\J=vk 3 a c (j9 nd es)::I):=by
 have M:=h.ok'
 have hG:=h.ok
 have a4:(ek nd es').length=nd:=M.rows.len
 have av:(ek nd es).length=nd:=hG.rows.len
 have ay:=hG.rng
 have ar:=h.ends
 unfold F5 at ar
 have a1:=G8 hG
 have ax:=G8 M
 have a0:=T7 M (u:=u) om om
 have az:=T7 M (u:=v) om om
 refine Ce4 Tryz.func264 C C ?_
 refine Am<|Ge1 (Au (cs:=[_,_,_]) C C C) λb1=>Ge1 (Au (cs:=[_,_]) C C C) λb2=>Ge1 (Aj ab6 C) λb3=>Z ?_
 refine G.e (Ac c_ C C<|cb2 (nd:=nd) (u:=u) (v:=v) (A4 hl) (A4 hm) M om ta8 ta8 om<|A6 hT Ah) ?_
 rintro _ _ ⟨_,_,⟨aa,rfl,ab,rfl⟩,rfl,rfl⟩
 refine Z ?_
 refine A9 mixed<|Ed 17<|Z ?_
 refine Ds1 1<|Se C (Ac c_ C C<|at4 (nd:=nd)<|A4 hg) ?_
 rintro _ _ ⟨_,_,⟨a3,a5,rfl,rfl⟩,rfl,rfl⟩
 refine ⟨Ah,?_⟩
 have aq:=ad6 nd es
 refine Ds1 6<|Se C (Ac c_ C C<|cr4 (num:=j9 nd es') (lv:=min (e_ (j9 nd es') u) (e_ (j9 nd es') v)) (A4 hm) om) ?_
 rintro _ _ ⟨_,_,⟨ao,rfl,an,rfl⟩,rfl,rfl⟩
 refine ⟨Ah,?_⟩
 refine Ds1 10<|Se C (Ac c_ C C<|cq7 (num:=j9 nd es') (lv:=min (e_ (j9 nd es') u) (e_ (j9 nd es') v)) (A4 hm) om) ?_
 rintro _ _ ⟨_,_,⟨ai,rfl,aj,rfl⟩,rfl,rfl⟩
 refine ⟨Ah,?_⟩
 refine Dr 12 C (E0 (a:=ai) (b:=aa) C C)<|Dr 13 C (Eb (a:=ao) (b:=ai &&& ~~~aa) C C)<|Ds1 15<|Se C (Ac c_ C C<|ca8 (rows:=ek nd es) (F:=aa) (A:=ao ||| (ai &&& ~~~aa)) (k:=min (e_ (j9 nd es') u) (e_ (j9 nd es') v)) A5 om (λx hx=>by have h9:=(ab.lev x hx).1;unfold p8 at h9;omega)<|A6 hT Ah) ?_
 rintro _ _ ⟨_,_,⟨ah,rfl,ak,rfl⟩,rfl,rfl⟩
 refine ⟨Ah,?_⟩
 refine Z ?_
 refine Gr (E0 (a:=aa) (b:=ah) C C)<|G.e (Ac c_ C C<|cq3 (nd:=nd) (nd':=nd) (b':= -1) (va:= .slice ea es'.length ec) (ga:=ga) (gn:=es.length) (gc:=gc) (S:=aa &&& ~~~ah) (A4 hm) (λx hx=>by have h9:=(ab.lev x (M9.1 hx).1).1;unfold p8 at h9;omega) (bz4 M) dc om<|A6 hT Ah) ?_
 rintro _ _ ⟨_,_,⟨ad,ae,au,aw,rfl,rfl⟩,rfl,rfl⟩
 refine Z ?_
 refine Ge0 (C9 ab6)<|Z ?_
 have hE:(eo<|aa &&& ~~~ah).foldl (X8<|-1) (j9 nd es')=j9 nd es:=dz4 h rfl ab (λx=>dk1 M ab an aj x) ak
 have ap:(j9 nd es').length=(j9 nd es).length:=by have h1:=G8 h.ok;have h2:=G8 h.ok';omega
 exact Co C ab6 C C mm C (vk 3 ad ae (j9 nd es)::I) (by unfold vk;rw [←hE,hE,←ap,←hE];exact Az) ⟨ad,ae,_,by rw [←ap],rfl⟩
variable {κ:Ctx}{I:List Item}
theorem add_zero{nd:Int}{es:List Pt}{u v:Int}(M:s8 nd es)(he:F5 nd u v)(hn:j4 u v∉es):da6 nd es u v=0:=by
 have h1:=ac0.2 ⟨M,he⟩
 unfold da6;rw [An om,An hn]
theorem az6{nd:Int}{es:List Pt}{u v:Int}(M:s8 nd es)(he:F5 nd u v)(hn:j4 u v∈es):da5 nd es u v=0:=by
 have h1:=ac0.2 ⟨M,he⟩
 unfold da5;rw [An om,B_ hn]
theorem bb2{nd:Int}{es:List Pt}(hl:Sl κ I (.slice a0 es.length M) es){u v:Int}(hz:da6 nd es u v=0)(hb:es.length<=10000000):eu prog κ 261 [.agg #[e7 nd,.slice a0 es.length M],e7 u,e7 v] I λr J=>∃a c,r = .tuple #[.agg #[e7 nd,.slice a (z8 Pt.lt es (j4 u v)).length c],e7 0]/\J=vk 105 a c (z8 Pt.lt es (j4 u v))::I:=
 (fs6 hl u v hb).mono λr J h=>by
  rcases h with h|⟨a,c,_,h1,h2⟩
  ·exact absurd hz h.1
  exact ⟨a,c,h1,h2⟩
theorem bb0{nd:Int}{es:List Pt}(hl:Sl κ I (.slice a0 es.length M) es){u v:Int}(hz:da5 nd es u v=0)(hb:es.length<=10000000):eu prog κ 263 [.agg #[e7 nd,.slice a0 es.length M],e7 u,e7 v] I λr J=>∃a c,r = .tuple #[.agg #[e7 nd,.slice a (j6 es (j4 u v)).length c],e7 0]/\J=vk 105 a c (j6 es (j4 u v))::I:=
 (fq9 hl u v hb).mono λr J h=>by
  rcases h with h|⟨a,c,_,h1,h2⟩
  ·exact absurd hz h.1
  exact ⟨a,c,h1,h2⟩
theorem cr1{va vb:Value}{xs ys:List Int}(hl:Sl κ I va xs)(hm:Sl κ I vb ys):eu prog κ 266 [va,vb] I (λr J=>r = .bool (decide (xs=ys))/\I=J):=by
 refine Bw hl.le λae=>?_
 refine Bw hm.le λad=>?_
 refine Ce2 Tryz.func266 C C<|Z ?_
 refine Al C (λc10=>Z ?_)<|λc10=>Z ?_
 ·have aa:xs≠ys:=λe=>by subst e;omega
  exact Ak C C I Ah ⟨by rw [D_ aa],rfl⟩
 refine Dh (σ:=Nat) (λs=>[(13,e7 ((s:Nat):Int))]) (λ_=>[]) (λs=>(s<=xs.length)/\(∀j:Nat,j<s->e_ xs j=e_ ys j)) (λs=>xs.length - s) 0 ⟨om,(λj h=>by omega)⟩ ?_
 rintro k hp
 obtain ⟨hk,hn⟩:=hp
 refine Z ?_
 refine Al C (λab=>Z ?_)<|λab=>Z ?_
 ·refine A9 mixed (Bx I 9<|Z ?_)
  refine Al C (λM=>Z ?_)<|λM=>Z ?_
  ·have aa:xs≠ys:=λe=>by subst e;exact M rfl
   exact Ak C C I Ah ⟨by rw [D_ aa],rfl⟩
  exact Bt ((k+1)) ⟨om,(λj h=>by by_cases e:j=k;(· subst e;exact Fv.1 M);(· exact hn j om))⟩
 have he:xs=ys:=Me om λi h1 h2=>by have:=hn i om;rwa [Cs xs i h1,Cs ys i h2] at this
 exact Ak C C I Ah ⟨by rw [As he],rfl⟩
theorem do9{nd:Int}{es:List Pt}(hl:Sl κ I (.slice ea es.length ec) es)(hm:Sl κ I (.slice na (j9 nd es).length nc) (j9 nd es))(hG:s8 nd es)(hT:F4 κ I 0 p5):eu prog κ 259 [.agg #[e7 nd,.slice ea es.length ec,.slice na (j9 nd es).length nc]] I (λr J=>r = .bool true/\I=J):=by
 have M:=s4.2 hG
 refine Ce1 Tryz.func259 C C ?_
 refine Am<|Ge1 (Au (cs:=[_,_,_]) C C C) λb1=>Z ?_
 refine Gc2 (Ac c_ C C<|bh8 (nd:=nd) (A4 hl)<|A6 hT Ah) λab ad=>Z ?_
 refine A1 (d:=13) C (λaa=>Z ?_)<|λaa=>Z ?_
 ·refine Dj (Cf C C C) (Ac c_ C C<|cr1 (xs:=j9 nd es) (ys:=j9 nd es) A5<|A4 hm) ?_
  rintro _ _ ⟨_,_,⟨rfl,rfl⟩,rfl,rfl⟩
  refine Z ?_
  exact Ak C C I Ah ⟨by first|rfl|(simp;done)|exact absurd M asm,rfl⟩
 exact Ak C C I Ah ⟨by first|rfl|(simp;done)|exact absurd M asm,rfl⟩
theorem cb3{nd:Int}{es:List Pt}(hl:Sl κ I (.slice ea es.length ec) es)(hm:Sl κ I (.slice na (j9 nd es).length nc) (j9 nd es))(hG:s8 nd es){u v:Int}(M:F5 nd u v)(hT:F4 κ I 0 p5):eu prog κ 260 [.agg #[e7 nd,.slice ea es.length ec,.slice na (j9 nd es).length nc],e7 u,e7 v] I (λr J=>r=e7 0/\I=J):=by
 refine Ce3 Tryz.func260 C C ?_
 refine Am<|Ge1 (Au (cs:=[_,_,_]) C C C) λb1=>Z ?_
 refine Gc0 (Ac c_ C C<|do9 (nd:=nd) (A4 hl) (A4 hm) hG<|A6 hT Ah)<|Z ?_
 refine Gc0 (Ac c_ C C<|ci6 nd u v)<|Z ?_
 refine Al C (λc11=>Z ?_)<|λc11=>Z ?_
 ·exact Ak C C I Ah ⟨by first|rfl|exact absurd M asm,rfl⟩
 exact Ak C C I Ah ⟨by first|rfl|exact absurd M asm,rfl⟩
theorem cx5{nd:Int}{es:List Pt}(hl:Sl κ I (.slice ea es.length ec) es)(hm:Sl κ I (.slice na (j9 nd es).length nc) (j9 nd es))(hG:s8 nd es){u v:Int}(he:F5 nd u v)(hn:j4 u v∉es)(hT:F4 κ I 0 p5):eu prog κ 256 [.agg #[e7 nd,.slice ea es.length ec,.slice na (j9 nd es).length nc],e7 u,e7 v] I (λr J=>∃(ga:Option Addr) (gc:Nat) (a:Option Addr) (c:Nat) (w:Value),r = .tuple #[.agg #[e7 nd,.slice ga (z8 Pt.lt es (j4 u v)).length gc,.slice a (j9 nd (z8 Pt.lt es (j4 u v))).length c],w,e7 0]/\J=vk 3 a c (j9 nd (z8 Pt.lt es (j4 u v)))::vk 105 ga gc (z8 Pt.lt es (j4 u v))::I):=by
 refine Ce3 Tryz.func256 C C ?_
 refine Am<|Ge1 (Au (cs:=[_,_,_]) C C C) λb1=>Ge1 (Aj ab6 C) λb2=>Z ?_
 refine Gc0 (Ac c_ C C<|cb3 (nd:=nd) (u:=u) (v:=v) (A4 hl) (A4 hm) hG he<|A6 hT Ah)<|Z ?_
 refine Al C (λah=>Z ?_)<|λah=>Z ?_
 ·refine Ge0 (C9 ab6) (Z ?_)
  exact absurd rfl asm
 refine G.e (Ac c_ C C<|bb2 (nd:=nd) (u:=u) (v:=v) (A4 hl) (add_zero hG he hn)<|by have:=q9 hG;omega) ?_
 rintro _ _ ⟨_,_,⟨aa,M,rfl,rfl⟩,rfl,rfl⟩
 refine Z ?_
 refine Ge1 (Aj J9 C) λb5=>Ge0 (Cr J9)<|Z ?_
 refine Al C (λae=>Z ?_)<|λae=>Z ?_
 ·refine Ge0 (C9 ab6) (Z ?_)
  exact absurd rfl asm
 refine G.e (Ac c_ C C<|fr2 (nd:=nd) (u:=u) (v:=v) (A4 hl) (A4 hm) A5 (R6.add hG he hn)<|A6 hT Ah) ?_
 rintro _ _ ⟨_,_,⟨ad,ab,w8,rfl,rfl⟩,rfl,rfl⟩
 refine Z ?_
 refine Ge1 (Aj ab6 C) λb9=>Ge0 (C9 ab6)<|Z ?_
 refine Ge0 (C9 ab6)<|Z ?_
 exact Cu C ab6 C C C mm C (vk 3 ad ab (j9 nd<|z8 Pt.lt es<|j4 u v)::vk 105 aa M (z8 Pt.lt es<|j4 u v)::I) Az ⟨aa,M,ad,ab,_,rfl,rfl⟩
theorem cx6{nd:Int}{es:List Pt}(hl:Sl κ I (.slice ea es.length ec) es)(hm:Sl κ I (.slice na (j9 nd es).length nc) (j9 nd es))(hG:s8 nd es){u v:Int}(he:F5 nd u v)(hn:j4 u v∈es)(hT:F4 κ I 0 p5):eu prog κ 257 [.agg #[e7 nd,.slice ea es.length ec,.slice na (j9 nd es).length nc],e7 u,e7 v] I (λr J=>∃(ga:Option Addr) (gc:Nat) (a:Option Addr) (c:Nat) (w:Value),r = .tuple #[.agg #[e7 nd,.slice ga (j6 es (j4 u v)).length gc,.slice a (j9 nd (j6 es (j4 u v))).length c],w,e7 0]/\J=vk 3 a c (j9 nd (j6 es (j4 u v)))::vk 105 ga gc (j6 es (j4 u v))::I):=by
 refine Ce3 Tryz.func257 C C ?_
 refine Am<|Ge1 (Au (cs:=[_,_,_]) C C C) λb1=>Ge1 (Aj ab6 C) λb2=>Z ?_
 refine Gc0 (Ac c_ C C<|cb3 (nd:=nd) (u:=u) (v:=v) (A4 hl) (A4 hm) hG he<|A6 hT Ah)<|Z ?_
 refine Al C (λah=>Z ?_)<|λah=>Z ?_
 ·refine Ge0 (C9 ab6) (Z ?_)
  exact absurd rfl asm
 refine Gc2 (Ac c_ C C<|bb0 (nd:=nd) (u:=u) (v:=v) (A4 hl) (az6 hG he hn)<|by have:=q9 hG;omega) λaa M=>Z ?_
 refine Ge1 (Aj J9 C) λb5=>Ge0 (Cr J9)<|Z ?_
 refine Al C (λae=>Z ?_)<|λae=>Z ?_
 ·refine Ge0 (C9 ab6) (Z ?_)
  exact absurd rfl asm
 refine G.e (Ac c_ C C<|fr1 (nd:=nd) (u:=u) (v:=v) (A4 hl) (A4 hm) A5 (R6.rem hG he hn)<|A6 hT Ah) ?_
 rintro _ _ ⟨_,_,⟨ad,ab,w8,rfl,rfl⟩,rfl,rfl⟩
 refine Z ?_
 refine Ge1 (Aj ab6 C) λb9=>Ge0 (C9 ab6)<|Z ?_
 refine Ge0 (C9 ab6)<|Z ?_
 exact Cu C ab6 C C C mm C (vk 3 ad ab (j9 nd<|j6 es<|j4 u v)::vk 105 aa M (j6 es<|j4 u v)::I) Az ⟨aa,M,ad,ab,_,rfl,rfl⟩
end Go.Sl
namespace Go.Sl
open Go.Proofs
set_option maxRecDepth 4000
variable{a y:Int}{k:Nat}
section
variable {nd u v:Int}{es:List Pt}
theorem fm7(M:s8 nd es){x:Int}:y∈nbG nd es x↔j4 x y∈es:=by
 rw [ag8 M]
 constructor
 ·rintro (h|h)
  ·have:=(M.aa9 _ h).2.1
   simp only at this
   have e:j4 x y=⟨x,y⟩:=by unfold j4;rw [An om,B_ this]
   rw [e];exact h
  have:=(M.aa9 _ h).2.1
  simp only at this
  have e:j4 x y=⟨y,x⟩:=by unfold j4;rw [B_ this,An om]
  rw [e];exact h
 intro h
 have hlt:=(M.aa9 _ h).2.1
 rcases Lz x y with h1|h1|h1
 ·have e:j4 x y=⟨x,y⟩:=by unfold j4;rw [An om,B_ h1]
  exact .inl<|e▸h
 ·subst h1;unfold j4 at hlt;simp at hlt
 have e:j4 x y=⟨y,x⟩:=by unfold j4;rw [B_ h1,An om]
 exact .inr<|e▸h
theorem aw6(M:s8 nd es){b:Int}(h:at5 nd es a b y):0<=y↔b∈nbG nd es a:=by
 rw [fm7 M]
 rcases h with ⟨_,j,rfl,hj,e⟩|⟨rfl,h|h⟩
 ·exact ⟨λ_=>e▸Bn om om,λ_=>by omega⟩
 ·exact absurd (s4.2 M) h
 exact ⟨λh=>by omega,λh2=>absurd h2 h⟩
theorem cf2{α β:Type}[Inhabited α](f:α->List β)(xs:List α)(M:k<xs.length):(xs.take (k+1)).flatMap f=(xs.take k).flatMap f++f (e_ xs k):=by
 rw [Ca xs k M,List.flatMap_append];simp
def de4(nd:Int)(es:List Pt)(u v a:Int)(k:Nat):List Pt:=(((nbG nd es v).take k).filter λb=>decide (b≠u/\b∈nbG nd es a)).map λb=>(⟨a,b⟩:Pt)
theorem bq2(M:k<(nbG nd es v).length)(h:e_ (nbG nd es v) k≠u/\e_ (nbG nd es v) k∈nbG nd es a):de4 nd es u v a (k+1)=de4 nd es u v a k++[(⟨a,e_ (nbG nd es v) k⟩:Pt)]:=by
 unfold de4
 rw [Ca _ k M,Gs,Hl,B_<|As h,Ht];rfl
theorem av4(M:k<(nbG nd es v).length)(h:¬(e_ (nbG nd es v) k≠u/\e_ (nbG nd es v) k∈nbG nd es a)):de4 nd es u v a (k+1)=de4 nd es u v a k:=by
 unfold de4
 rw [Ca _ k M,Gs,Hl,An<|λq=>h<|Fs q];simp
theorem ck6(h:a≠v):de4 nd es u v a (nbG nd es v).length=bd0 nd es u v a:=by
 unfold de4 bd0
 rw [Hd,An h]
theorem de5(h:a=v):bd0 nd es u v a=[]:=by unfold bd0;rw [B_ h]
end
theorem fr4{κ:Ctx}{I:List Item}{nd u v:Int}{va:Value}{es:List Pt}(hl:Sl κ I va es)(hG:s8 nd es)(hT:F4 κ I 0 p5):eu prog κ 308 [.agg #[e7 nd,va],e7 u,e7 v] I (λr J=>∃a c,r = .slice a (p6 nd es u v).length c/\J=vk 200 a c (p6 nd es u v)::I):=by
 have az:=q9 hG
 refine Ce3 Tryz.func308 C C ?_
 refine Am<|Ge1 (Au (cs:=[_,_]) C C C) λb1=>Ga C<|Ar<|Am<|Ga C<|Ar<|Ay<|Am<|Gl2 J9 ?_
 refine Gm C<|Gc2 (Ac c_ C C<|bh0 (nd:=nd) (A4 hl) u<|A6 hT Ah) λaa ab=>?_
 refine Gr (Bl Ab C)<|Gm C<|Ar<|A8<|B9 (σ:=Nat×(Option Addr)×Nat×(List Pt)) (λs=>([(1,e7 u),(2,e7 v),(3,pt b1),(7,.slice s.2.1 s.2.2.2.length s.2.2.1),(14,.slice aa (nbG nd es u).length ab),(15,e7<|(((nbG nd es u).length:Nat):Int)),(16,e7 ((s.1:Nat):Int))]:Env)) (λs=>vk 200 s.2.1 s.2.2.1 s.2.2.2::vk 3 aa ab (nbG nd es u)::e8 b1 [e7 nd,va] 38::I) (λs=>(s.1<=(nbG nd es u).length)/\(s.2.2.2=((nbG nd es u).take s.1).flatMap (bd0 nd es u v))/\(s.2.2.2.length<=64*s.1)) (λs=>(nbG nd es u).length - s.1) (0,none,0,[]) ⟨om,rfl,(by simp)⟩ (cx2<|Aa C<|Aa (Db C<|by first|rfl|simp)<|cx2<|Aa Cn Bb) (A7 (show Fit κ _ _ from Az)<|B6 (α:=Pt) _ _) ?_
 rintro ⟨k,oa,oc,o⟩ hp
 dsimp only at hp ⊢
 obtain ⟨hk,ho,ax⟩:=hp
 have av:=K0 nd es u
 have ay:=K0 nd es v
 refine Am<|Gr (Bj C C)<|Ar<|Ay<|Al C (λaj=>?_)<|λaj=>?_
 ·refine Bc (Ao<|Ay<|A8<|Am<|Gr (A2 (α:=Int) (xs:=nbG nd es u) Ab ef C C A5 om om)<|Gr (B8 (xs:=nbG nd es u) ef C A5 om om)<|Ga C<|Ar<|Ay<|Am<|Gm C<|Gm C<|Gr (C4 C C)<|Ar<|A0 (S9 22 9 1 2 3 7 14 15 16)<|Al C (λah=>?_)<|λah=>?_)
  ·exact Ck<|Aw<|Bi<|Ao<|Ba<|Gr (Rad C C)<|Gm C<|Bs<|Bt ((k+1),(oa),(oc),(o))<|by dsimp only;exact ⟨om,(by rw [cf2 _ _ om,←ho];first|(rw [de5 asm];simp;done)|(rw [M,show k2=(nbG nd es v).length by omega,ck6 asm])),om⟩
  refine Bc<|Ao<|Am<|Gl2 J9 ?_
  refine Gm C<|Gc2 (Ac c_ C C<|bh0 (nd:=nd) (A4 hl) v<|A6 hT Ah) λae ad=>?_
  refine Gr (Bl Ab C)<|Gm C<|Ar<|A0 (S11 27 26 25 9 1 2 3 7 14 15 16 C C C C C C C C C C C)<|A8<|B9 (σ:=Nat×(Option Addr)×Nat×(List Pt)) (λs=>([(1,e7 u),(2,e7 v),(3,pt b1),(7,.slice s.2.1 s.2.2.2.length s.2.2.1),(9,e7<|e_ (nbG nd es u) k),(14,.slice aa (nbG nd es u).length ab),(15,e7<|(((nbG nd es u).length:Nat):Int)),(16,e7<|(k:Int)),(25,.slice ae (nbG nd es v).length ad),(26,e7<|(((nbG nd es v).length:Nat):Int)),(27,e7 ((s.1:Nat):Int))]:Env)) (λs=>vk 3 ae ad (nbG nd es v)::vk 200 s.2.1 s.2.2.1 s.2.2.2::vk 3 aa ab (nbG nd es u)::e8 b1 [e7 nd,va] 38::I) (λs=>(s.1<=(nbG nd es v).length)/\(s.2.2.2=o++de4 nd es u v (e_ (nbG nd es u) k) s.1)/\(s.2.2.2.length<=o.length+s.1)) (λs=>(nbG nd es v).length - s.1) (0,oa,oc,o) (show ((0:Nat)<=(nbG nd es v).length)/\((o:List Pt)=o++de4 nd es u v (e_ (nbG nd es u) k) (0:Nat))/\((o:List Pt).length<=o.length+(0:Nat)) from ⟨om,(by unfold de4;simp),om⟩) (cx2<|Aa C<|Aa (Db C<|by first|rfl|simp)<|cx4<|cx2<|Aa Cn Bb) Ai ?_
  rintro ⟨k2,qa,qc,q⟩ hp
  dsimp only at hp ⊢
  obtain ⟨aq,M,aw⟩:=hp
  refine Am<|Gr (Bj C C)<|Ar<|Ay<|Al C (λan=>?_)<|λan=>?_
  ·refine Bc (Ao<|Ay<|A8<|Am<|Gr (A2 (α:=Int) (xs:=nbG nd es v) Ab ef C C A5 om om)<|Gr (B8 (xs:=nbG nd es v) ef C A5 om om)<|Ga C<|Ar<|A0 (S12 11 1 2 3 7 9 14 15 16 25 26 27)<|Am<|Gm C<|Gm C<|Gr (Ci C C)<|Gm C<|A1 (d:=34) C (λap=>?_)<|λap=>?_)
   ·refine e9 (Bm (vs:=[_,_]) J9) ?_
    refine e9 (Aq C)<|e9 (Aq C)<|Dj (Cf C C C) (Ac c_ C C<|at6 (nd:=nd) (A4 hl) (e_ (nbG nd es u) k) (e_ (nbG nd es v) k2) om) ?_
    rintro _ _ ⟨_,_,⟨y6,rfl,ar,rfl⟩,rfl,rfl⟩
    refine e9 (j7.geq C C)<|Gr (B4 C C)<|Ar<|A0 (S13 40 11 1 2 3 7 9 14 15 16 25 26 27)<|Al C (λao=>?_)<|λao=>?_
    ·refine Ba (Gm C<|Gm C<|Gm C<|Gr (Ef (cells:=[_,_]) L8 B7 ef C C)<|Ge1 (B0 (α:=Pt) (cs:=[_,_]) (xs:=[⟨e_ (nbG nd es u) k,e_ (nbG nd es v) k2⟩]) Bv L8 C C dc dc C C C C) λau=>?_)
     refine Ge2 (Bp (α:=Pt) (e:=200) (xs:=q) (ys:=([⟨e_ (nbG nd es u) k,e_ (nbG nd es v) k2⟩]:List Pt)) Bv L8 C C C mm A5 lcn dc C<|λ_ _=>am) λai ak=>?_
     exact Ga C<|Bs<|Av<|Ao<|A0 (S11 7 1 2 3 9 14 15 16 25 26 27 C C C C C C C C C C C)<|Ba<|Gr (Rad C C)<|Gm C<|Bs<|Bt ((k2+1),(ai),(ak),(q++([⟨e_ (nbG nd es u) k,e_ (nbG nd es v) k2⟩]:List Pt)))<|by dsimp only;exact ⟨om,(by first|(rw [bq2 om ⟨by assumption,(aw6 hG asm).1 asm⟩,←Fu,←M])|(rw [av4 om (λh=>by first|exact absurd h.1 asm|exact absurd ((aw6 hG asm).2 h.2) asm)];exact M)|(rw [av4 om (λh=>by omega)];exact M)),olp⟩
    exact Bc<|Av<|Ao<|Ba<|Gr (Rad C C)<|Gm C<|Bs<|Bt ((k2+1),(qa),(qc),(q))<|by dsimp only;exact ⟨om,(by first|(rw [bq2 om ⟨by assumption,(aw6 hG asm).1 asm⟩,←Fu,←M])|(rw [av4 om (λh=>by first|exact absurd h.1 asm|exact absurd ((aw6 hG asm).2 h.2) asm)];exact M)|(rw [av4 om (λh=>by omega)];exact M)),olp⟩
   exact eb<|eb<|eb<|eb<|eb<|Gr (Bq C C)<|Ar<|A0 (S13 40 11 1 2 3 7 9 14 15 16 25 26 27)<|W.no C<|Bc<|Av<|Ao<|Ba<|Gr (Rad C C)<|Gm C<|Bs<|Bt ((k2+1),(qa),(qc),(q))<|by dsimp only;exact ⟨om,(by first|(rw [bq2 om ⟨by assumption,(aw6 hG asm).1 asm⟩,←Fu,←M])|(rw [av4 om (λh=>by first|exact absurd h.1 asm|exact absurd ((aw6 hG asm).2 h.2) asm)];exact M)|(rw [av4 om (λh=>by omega)];exact M)),olp⟩
  exact Ck<|Aw<|Aw<|Bi<|Av<|Ao<|Ba<|Gr (Rad C C)<|Gm C<|Bs<|Bt ((k+1),(qa),(qc),(q))<|by dsimp only;exact ⟨om,(by rw [cf2 _ _ om,←ho];first|(rw [de5 asm];simp;done)|(rw [M,show k2=(nbG nd es v).length by omega,ck6 asm])),om⟩
 refine Ck<|Aw<|Aw<|Bi<|Ao<|Am<|Gm C<|Ga C<|Ar<|B2 ?_
 have hE:(p6 nd es u v)=o:=by rw [ho,show k=(nbG nd es u).length by omega,Hd];rfl
 exact Ak C C (vk 200 oa oc (p6 nd es u v)::I) (by unfold vk;rw [hE];exact Az) ⟨oa,oc,by rw [hE],rfl⟩
end Go.Sl
namespace Go.Sl
open Go.Proofs
set_option maxRecDepth 4000
variable {κ:Ctx}{I:List Item}
attribute [local irreducible] W G V D A j7 Eff
theorem de2{n:Int}(h:0<=n/\n<=100000):0<=n*(n - 1)/\n*(n - 1)<=10000000000:=by
 by_cases h0:n=0
 ·subst h0;simp
 refine ⟨Int.mul_nonneg h.1 om,?_⟩
 have M:=Int.mul_le_mul (a:=n) (b:=n - 1) (c:=100000) (d:=100000) h.2 om om om
 omega
theorem bw9{n:Int}(h:0<=n/\n<=64):0<=prs n/\prs n<=2016:=by
 have M:=de2 (n:=n) ⟨h.1,by omega⟩
 unfold prs
 refine ⟨Int.ediv_nonneg M.1 dc,?_⟩
 by_cases h0:n=0
 ·subst h0;decide
 have M:=Int.mul_le_mul (a:=n) (b:=n - 1) (c:=64) (d:=63) h.2 om om om
 omega
def ds6(nd:Int)(es:List Pt)(k:Nat):Int:=p7 k λw=>prs ((nbG nd es (w:Int)).length:Int)
theorem bo2(nd:Int)(es:List Pt):∀k:Nat,0<=ds6 nd es k/\ds6 nd es k<=2016*(k:Int)
 |0=>by simp [ds6,p7]
 |k+1=>by
  have h1:=bo2 nd es k
  have h2:=K0 nd es (k:Int)
  have M:=bw9 (n:=((nbG nd es (k:Int)).length:Int)) ⟨by omega,by omega⟩
  have e:ds6 nd es (k+1)=ds6 nd es k+prs ((nbG nd es (k:Int)).length:Int):=rfl
  rw [e];omega
theorem cq1(n:Int)(h:0<=n/\n<=100000):eu prog κ 135 [e7 n] I (λr J=>r=e7 (prs n)/\I=J):=by
 have M:=de2 h
 refine Ce1 Tryz.func135 C C<|Z ?_
 exact Gr (Ep C C<|by unfold InR;omega)<|Gr (j7.quo C C om om<|by unfold InR;omega)<|Ga C<|Ar<|B2<|Ak C C I Ah ⟨rfl,rfl⟩
theorem ca4{nd:Int}{va:Value}{es:List Pt}(hl:Sl κ I va es)(ad:0<=nd/\nd<=64):eu prog κ 90 [.agg #[e7 nd,va]] I (λr J=>r=e7 (F7 nd es)/\I=J):=by
 refine Ce1 Tryz.func90 C C ?_
 refine Am<|Ge1 (Au (cs:=[_,_]) C C C) λb1=>Z ?_
 refine Dh (σ:=Nat×Int) (λs=>[(3,e7<|s.2),(7,e7 ((s.1:Nat):Int))]) (λ_=>[]) (λs=>((s.1:Int)<=nd)/\(s.2=ds6 nd es s.1)) (λs=>nd.toNat - s.1) (0,0) ⟨om,rfl⟩ ?_
 rintro ⟨k,q⟩ hp
 dsimp only at hp ⊢
 obtain ⟨hk,hq⟩:=hp
 have ab:=K0 nd es (k:Int)
 have ae:=bo2 nd es k
 have aa:=bw9 (n:=((nbG nd es (k:Int)).length:Int)) ⟨by omega,by omega⟩
 refine Z ?_
 refine Al C (λc8=>Z ?_)<|λc8=>Z ?_
 ·refine Gc0 (Ac c_ C C<|Z4 (nd:=nd) (A4 hl) (k:Int)) ?_
  refine G.e (Ac c_ C C<|cq1 ((((nbG nd es (k:Int)).length:Nat)):Int) om) ?_
  rintro _ _ ⟨_,_,⟨rfl,rfl⟩,rfl,rfl⟩
  refine Z ?_
  exact Bt ((k+1),(q+(prs ((((nbG nd es (k:Int)).length:Nat)):Int))))<|by dsimp only;exact ⟨om,(by rw [hq];rfl)⟩
 have M:k=nd.toNat:=by omega
 exact Ak C C I Ah ⟨by rw [hq,M];rfl,rfl⟩
end Go.Sl
namespace Go.Sl
open Go.RowKit (Below)
section
variable {P:Program}{κ:Ctx}{N:Frm}{Q:Exit->Act->World->Prop}{L:Env}{I J:List Item}
variable {d:Option Tmp}{ty:TypeId}{ps:String}{af:Array Edge}{gd:Option (Nat×Bool)}
theorem j7.cm8{x y:Operand}{T E by':Nat}{z:List Value}{a b c e i:Int}(ht:P.underlying T=some (.array 4 E))(M:tyF P E=some (1,false,by',z))(hx:er L x=some (.agg #[e7 a,e7 b,e7 c,e7 e]))(hy:er L y=some (e7 i))(h0:0<=i)(h4:i<4) :
  j7 P κ N ⟨d,.index T x y,ty,ps,af,gd⟩ L J (e7<|e_ [a,b,c,e] i):=by
 intro s w ha hs
 obtain ⟨j,rfl⟩:∃j:Nat,i=(j:Int):=⟨i.toNat,by omega⟩
 have hj:j=0\/j=1\/j=2\/j=3:=by omega
 rcases hj with rfl|rfl|rfl|rfl<;>simp [execOp,ha.eval hx,ha.eval hy,Instr.index,asIntOf,run_underlying ht,run_sizeOf M,part,bc4 M,e_]
end
end Go.Sl
