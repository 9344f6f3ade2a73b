/- A part of the proofs of statements of this seat: contracts of functions, and the plain laws that they lean on. No conditions. -/
import Derived.Test.YtoagcglbkeomgaaGreatDoorA17
set_option linter.unusedVariables false
set_option linter.unusedSimpArgs false
set_option linter.unusedSectionVars false
open Go.Proofs.Tryz (prog)
set_option maxHeartbeats 2000000
namespace Go.Sl
open Go.Proofs
set_option maxRecDepth 4000
variable{k nd u v x:Int}{es:List Pt}{L num out:List Int}{j:Nat}
def NBX(nd:Int)(es:List Pt)(u v x y:Int):Prop:=y∈nbG nd es x\/(x=u/\y=v)\/(x=v/\y=u)
def N3(nd:Int)(es:List Pt)(u v:Int):List (BitVec 64):=List.set (List.set (ek nd es) u.toNat (e_ (ek nd es) u ||| J1 v)) v.toNat (e_ (List.set (ek nd es) u.toNat (e_ (ek nd es) u ||| J1 v)) v ||| J1 u)
theorem dd4(M:s8 nd es)(hu:q7 nd u)(hv:q7 nd v)(aa:u≠v){y:Int}(hx:q7 nd x):y∈eo (e_ (N3 nd es u v) x)↔NBX nd es u v x y:=by
 unfold q7 at hu hv hx
 have hl:=M.rows.len
 have hr:=M.rng
 have hb:y∈eo (e_ (ek nd es) x)↔y∈nbG nd es x:=by
  rw [M.rows.mem hx.1 hx.2,ag7 M]
  refine ⟨λh=>h.2,λh=>⟨?_,h⟩⟩
  have:=N4 M ((ag7 M).2 h);omega
 unfold N3 NBX
 rw [Ei _ v x _ hv.1 hx.1 (by rw [Fs];omega)]
 by_cases q1:v=x
 ·rw [B_ q1,ad7 om,Ei _ u v _ hu.1 hv.1 om,An aa,q1,hb]
  constructor
  ·rintro (h|h)
   ·exact .inl h
   exact .inr<|.inr ⟨rfl,h⟩
  rintro (h|h|h)
  ·exact .inl h
  ·omega
  exact .inr h.2
 rw [An q1,Ei _ u x _ hu.1 hx.1 om]
 by_cases q2:u=x
 ·rw [B_ q2,ad7 om,q2,hb]
  constructor
  ·rintro (h|h)
   ·exact .inl h
   exact .inr<|.inl ⟨rfl,h⟩
  rintro (h|h|h)
  ·exact .inl h
  ·exact .inr h.2
  omega
 rw [An q2,hb]
 constructor
 ·exact .inl
 rintro (h|h|h)
 ·exact h
 ·exact absurd h.1.symm q2
 exact absurd h.1.symm q1
structure RgI (NB:Int->Int->Prop) (P:Int->Prop) (L1:List Int) (F:BitVec 64) (sk:List Int):Prop where
 lev:∀x∈eo F,P x
 gd9:∀x∈L1,x∈eo F
 st:∀x∈sk,x∈eo F
 cl:∀x∈eo F,x∈sk\/∀y,NB x y->P y->y∈eo F
section
variable {NB:Int->Int->Prop}{P:Int->Prop}{L1 L2 st:List Int}{F F2:BitVec 64}
theorem RgI.pop(h:RgI NB P L1 F st)(h0:0<st.length)(hL:∀y,y∈L2↔NB (e_ st ((st.length:Int) - 1)) y/\P y/\y∉eo F)(M:∀x,x∈eo F2↔x∈eo F\/x∈L2):RgI NB P L1 F2 (st.take (st.length - 1)++L2):=by
 refine ⟨λx hx=>?_,λx hx=>(M x).2 (.inl<|h.gd9 x hx),λx hx=>?_,λx hx=>?_⟩
 ·rcases (M x).1 hx with hx|hx
  ·exact h.lev x hx
  exact ((hL x).1 hx).2.1
 ·rcases Gw.1 hx with hx|hx
  ·exact (M x).2 (.inl<|h.st x<|Hz hx)
  exact (M x).2 (.inr hx)
 rcases (M x).1 hx with hx|hx
 ·rcases h.cl x hx with hq|hq
  ·by_cases e:x=e_ st ((st.length:Int) - 1)
   ·refine .inr λy hy hP=>?_
    by_cases hyF:y∈eo F
    ·exact (M y).2 (.inl hyF)
    exact (M y).2 (.inr<|(hL y).2 ⟨e▸hy,hP,hyF⟩)
   refine .inl<|Gk _ ?_
   obtain ⟨i,hi,rfl⟩:=Hx hq
   have aa:i≠st.length - 1:=λq=>e (by rw [show ((st.length:Int) - 1)=((st.length - 1:Nat):Int) by omega,Ct st _ om];congr 1)
   rw [Jz]
   exact ⟨i,by rw [Ft];omega,by rw [Kk]⟩
  exact .inr λy hy hP=>(M y).2 (.inl<|hq y hy hP)
 exact .inl<|Mc _ hx
theorem dd6(hF:∀x,x∈eo F2↔x∈eo F\/x∈L2)(hn:L2.Nodup)(hd:∀x∈L2,x∉eo F):(eo F2).length=(eo F).length+L2.length:=by
 have hp:(eo F2).Perm (eo F++L2):=(Ht (Dh _)<|Mw.2 ⟨Dh _,hn,λa M b hb e=>hd b hb<|e▸M⟩).2 λx=>by rw [hF,Gw]
 rw [hp.length_eq,By]
end
theorem de5{F F2:BitVec 64}(M:j<L.length)(hr:∀x∈L,0<=x/\x<64)(h:∀x,x∈eo F2↔x∈eo F\/x∈L.take j):∀x,x∈eo (F2 ||| J1 (e_ L j))↔x∈eo F\/x∈L.take (j+1):=λx=>by
 rw [ad7 (hr _<|Bo om om),h,Ca L j M,Gw,Gh,or_assoc]
theorem cp4{st:List Int}(M:j<L.length)(ho:out=st++L.take j):out++[e_ L j]=st++L.take (j+1):=by rw [ho,Ca L j M,Fv]
theorem cm2(h:0<=k/\k<64):x∈eo (J1 k)↔x=k:=by
 have M:=ad7 (m:=0#64) (u:=x) h
 rw [D4] at M
 have e:(0#64 ||| J1 k)=J1 k:=by simp
 rw [e] at M
 rw [M]
 exact ⟨λh=>h.elim (λh=>by cases h) id,.inr⟩
theorem du0{NB:Int->Int->Prop}{P:Int->Prop}{L1:List Int}{F:BitVec 64}(hF:∀x,x∈eo F↔x∈eo 0#64\/x∈L1)(ho:out=L1)(hP:∀x∈L1,P x):RgI NB P L1 F out:=by
 have h1:∀x,x∈eo F↔x∈L1:=λx=>by rw [hF,D4];simp
 subst ho
 exact ⟨λx M=>hP x<|(h1 x).1 M,λx M=>(h1 x).2 M,λx M=>(h1 x).2 M,λx M=> .inl<|(h1 x).1 M⟩
structure fq8 (nd:Int) (es:List Pt) (num:List Int) (u v k:Int) (F:BitVec 64):Prop where
 lev:∀x∈eo F,q7 nd x/\e_ num x=k
 hu:e_ num u=k->u∈eo F
 hv:e_ num v=k->v∈eo F
 cl:∀x∈eo F,∀y,NBX nd es u v x y->e_ num y=k->y∈eo F
theorem RgI.reg{F ms:BitVec 64}{st:List Int}(hG:s8 nd es)(hl:(num.length:Int)=nd)(hu:q7 nd u)(hv:q7 nd v)
  (hm:∀x,x∈eo ms↔(0<=x/\x<(num.length:Int))/\e_ num x=k) (h:RgI (NBX nd es u v) (λx:Int=>(0<=x/\x<(num.length:Int))/\e_ num x=k) (eo<|(J1 u ||| J1 v) &&& ms) F st) (hs:st.length=0):fq8 nd es num u v k F:=by
 unfold q7 at hu hv
 have hr:=hG.rng
 obtain rfl:=Kz.1 hs
 refine ⟨λx hx=>?_,λhk=>h.gd9 u ?_,λhk=>h.gd9 v ?_,λx hx y M aa=>?_⟩
 ·have:=h.lev x hx;unfold q7;exact ⟨by omega,this.2⟩
 ·rw [K3,ak6,cm2 om,hm];exact ⟨.inl rfl,by omega,hk⟩
 ·rw [K3,ak6,cm2 (k:=v) om,hm];exact ⟨.inr rfl,by omega,hk⟩
 refine ((h.cl x hx).resolve_left (by simp)) y M ⟨?_,aa⟩
 rcases M with q|q|q
 ·have:=(N4 hG q).2.1;omega
 ·omega
 omega
theorem cb0{κ:Ctx}{I:List Item}{ea na:Option Addr}{ec nc:Nat}(hl:Sl κ I (.slice ea es.length ec) es)(hm:Sl κ I (.slice na num.length nc) num)(hG:s8 nd es)(av:(num.length:Int)=nd)(hu:q7 nd u)(hv:q7 nd v)(a6:u≠v)(hT:F4 κ I 0 p5):eu prog κ 270 [.agg #[e7 nd,.slice ea es.length ec,.slice na num.length nc],e7 u,e7 v] I (λr J=>∃F:BitVec 64,r = .tuple #[U64 F,e7 (min (e_ num u) (e_ num v))]/\fq8 nd es num u v (min (e_ num u) (e_ num v)) F/\I=J):=by
 have a9:=hG.rng
 have bf:=hG.rows.len
 have bh:0<=u/\u<nd:=hu
 have bk:0<=v/\v<nd:=hv
 have bm:(N3 nd es u v).length=(ek nd es).length:=by unfold N3;rw [Fs,Fs]
 refine Ce3 Tryz.func270 C C ?_
 refine Al<|Ge1 (Av (cs:=[_,_,_]) C C C) λb1=>Ga C<|Ga C<|Ar<|Al<|Gf dj2 C<|Gl2 K0 ?_
 refine G.e (Ab c_ C C<|at2 (nd:=nd)<|A3 hl) ?_
 rintro _ _ ⟨_,_,⟨ab,ad,rfl,rfl⟩,rfl,rfl⟩
 have az:=ad6 nd es
 refine Ga C<|Ar<|Ax<|A8 mixed<|Ee 8<|Dr 0 C (Ap C)<|Dr 1 C (Ap C)<|Dr 2 C (A1 (α:=(BitVec 64)) (xs:=ek nd es) Cq M4 C C A5 (by first|omega|(have h1:=(aa om).1;unfold q7 at h1;omega))<|by first|omega|(simp only [Fs];omega)|(have h1:=(aa om).1;unfold q7 at h1;omega))<|Dr 3 C (Cc (α:=(BitVec 64)) (xs:=ek nd es) (u:=U64 ((e_ (ek nd es) u))) M4 C A5 (by first|omega|(have h1:=(aa om).1;unfold q7 at h1;omega)) (by first|omega|(simp only [Fs];omega)|(have h1:=(aa om).1;unfold q7 at h1;omega)) C)<|Dr 4 C (Ap C)<|Ds1 5<|Se C (Ab c_ C C<|ac3 v) ?_
 rintro _ _ ⟨_,_,⟨rfl,rfl⟩,rfl,rfl⟩
 refine ⟨Ah,?_⟩
 refine Dr 6 C (Ed (a:=(e_ (ek nd es) u)) (b:=J1 v) C C)<|Dr 7 C (A1 (α:=(BitVec 64)) (xs:=ek nd es) Cq M4 C C A5 (by first|omega|(have h1:=(aa om).1;unfold q7 at h1;omega))<|by first|omega|(simp only [Fs];omega)|(have h1:=(aa om).1;unfold q7 at h1;omega))<|Ch kr ?_
 refine Ae 8 C (Cw (α:=(BitVec 64)) (xs:=ek nd es) (e:=207) (new:=(e_ (ek nd es) u) ||| (J1 v)) M4 C C C (by first|omega|(have h1:=(aa om).1;unfold q7 at h1;omega)) (by first|omega|(simp only [Fs];omega)|(have h1:=(aa om).1;unfold q7 at h1;omega)) am) ?_
 rintro _ _ ⟨rfl,rfl⟩
 refine Ci kr ?_
 refine Ak<|A0 (S4 8 3 1 2)<|Ax<|A8 mixed<|Ee 8<|Dr 0 C (Ap C)<|Dr 1 C (Ap C)<|Dr 2 C (A1 (α:=(BitVec 64)) (xs:=List.set (ek nd es) (u).toNat ((e_ (ek nd es) u) ||| (J1 v))) Cq M4 C C A5 (by first|omega|(have h1:=(aa om).1;unfold q7 at h1;omega))<|by first|omega|(simp only [Fs];omega)|(have h1:=(aa om).1;unfold q7 at h1;omega))<|Dr 3 C (Cc (α:=(BitVec 64)) (xs:=List.set (ek nd es) (u).toNat ((e_ (ek nd es) u) ||| (J1 v))) (u:=U64 ((e_ (List.set (ek nd es) (u).toNat ((e_ (ek nd es) u) ||| (J1 v))) v))) M4 C A5 (by first|omega|(have h1:=(aa om).1;unfold q7 at h1;omega)) (by first|omega|(simp only [Fs];omega)|(have h1:=(aa om).1;unfold q7 at h1;omega)) C)<|Dr 4 C (Ap C)<|Ds1 5<|Se C (Ab c_ C C<|ac3 u) ?_
 rintro _ _ ⟨_,_,⟨rfl,rfl⟩,rfl,rfl⟩
 refine ⟨Ah,?_⟩
 refine Dr 6 C (Ed (a:=(e_ (List.set (ek nd es) (u).toNat ((e_ (ek nd es) u) ||| (J1 v))) v)) (b:=J1 u) C C)<|Dr 7 C (A1 (α:=(BitVec 64)) (xs:=List.set (ek nd es) (u).toNat ((e_ (ek nd es) u) ||| (J1 v))) Cq M4 C C A5 (by first|omega|(have h1:=(aa om).1;unfold q7 at h1;omega))<|by first|omega|(simp only [Fs];omega)|(have h1:=(aa om).1;unfold q7 at h1;omega))<|Ch kr ?_
 refine Ae 8 C (Cw (α:=(BitVec 64)) (xs:=List.set (ek nd es) (u).toNat ((e_ (ek nd es) u) ||| (J1 v))) (e:=207) (new:=(e_ (List.set (ek nd es) (u).toNat ((e_ (ek nd es) u) ||| (J1 v))) v) ||| (J1 u)) M4 C C C (by first|omega|(have h1:=(aa om).1;unfold q7 at h1;omega)) (by first|omega|(simp only [Fs];omega)|(have h1:=(aa om).1;unfold q7 at h1;omega)) am) ?_
 rintro _ _ ⟨rfl,rfl⟩
 refine Ci kr ?_
 refine Ak<|Ax<|A8 mixed<|Ee 12<|Dr 0 C (Af bf1 C)<|Dr 1 C (Be W4) ?_
 refine Dr 2 C (Ap C)<|Dr 3 C (A1 (α:=Int) (xs:=num) Ac ef C C (A3 hm) (by first|omega|(have h1:=(aa om).1;unfold q7 at h1;omega))<|by first|omega|(simp only [Fs];omega)|(have h1:=(aa om).1;unfold q7 at h1;omega))<|Dr 4 C (B8 (xs:=num) ef C (A3 hm) (by first|omega|(have h1:=(aa om).1;unfold q7 at h1;omega))<|by first|omega|(simp only [Fs];omega)|(have h1:=(aa om).1;unfold q7 at h1;omega))<|Dr 5 C (Af bf1 C)<|Dr 6 C (Be W4) ?_
 refine Dr 7 C (Ap C)<|Dr 8 C (A1 (α:=Int) (xs:=num) Ac ef C C (A3 hm) (by first|omega|(have h1:=(aa om).1;unfold q7 at h1;omega))<|by first|omega|(simp only [Fs];omega)|(have h1:=(aa om).1;unfold q7 at h1;omega))<|Dr 9 C (B8 (xs:=num) ef C (A3 hm) (by first|omega|(have h1:=(aa om).1;unfold q7 at h1;omega))<|by first|omega|(simp only [Fs];omega)|(have h1:=(aa om).1;unfold q7 at h1;omega))<|Dr 10 C (j8.min C C)<|Dr 11 C (Bj C)<|Dz<|Ak<|A0 (S5 9 8 3 1 2)<|Al<|Gf bf1 C<|Dp (J:=vc 207 (.slice ab (ek nd es).length ad) ((N3 nd es u v))::e8 b1 [e7 nd,.slice ea es.length ec,.slice na num.length nc] 40::I) (De _) ?_
 have a5:(if (e_ num v)<(e_ num u) then (e_ num v) else (e_ num u))=(min (e_ num u)<|e_ num v):=fy2 _ _
 rw [a5]
 refine Gl W4 ?_
 refine Gm C<|G.e (Ab c_ C C<|cq6 (num:=num) (lv:=(min (e_ num u)<|e_ num v)) (A3 hm) om) ?_
 rintro _ _ ⟨_,_,⟨M,rfl,ae,rfl⟩,rfl,rfl⟩
 refine Ga C<|Ar<|Al<|Ga C<|Ar<|Al<|Gm C<|Gr (Bn Cq C)<|Ge2 (Eff.ge9 (α:=Int) (n:=(ek nd es).length) Ac ef C C C om om om C) λa4 a0=>?_
 refine Ga C<|Ar<|A0 (S7 12 11 10 9 8 1 2)<|Ax<|Al<|Gm C<|G.e (Ab c_ C C<|ac3 u) ?_
 rintro _ _ ⟨_,_,⟨rfl,rfl⟩,rfl,rfl⟩
 refine Gm C<|G.e (Ab c_ C C<|ac3 v) ?_
 rintro _ _ ⟨_,_,⟨rfl,rfl⟩,rfl,rfl⟩
 refine Gr (Ed (a:=J1 u) (b:=J1 v) C C)<|Gm C<|Gr (Eh (a:=(J1 u) ||| (J1 v)) (b:=M) C C)<|Gc2 (Ab c_ C C<|ac1 (((J1 u) ||| (J1 v)) &&& M)<|Ba hT Ah) λai ah=>?_
 refine Gr (Bn Ac C)<|Gm C<|Ar<|A0 (S8 64 63 62 12 11 10 9 8)<|A7<|B9 (σ:=Nat×(BitVec 64)×(Option Addr)×Nat×(List Int)) (λs=>([(8,.slice ab (ek nd es).length ad),(9,e7<|(min (e_ num u)<|e_ num v)),(10,U64 M),(11,U64<|s.2.1),(12,.slice s.2.2.1 s.2.2.2.2.length s.2.2.2.1),(62,.slice ai (eo<|((J1 u) ||| (J1 v)) &&& M).length ah),(63,e7<|(((eo<|((J1 u) ||| (J1 v)) &&& M).length:Nat):Int)),(64,e7 ((s.1:Nat):Int))]:Env)) (λs=>vk 3 ai ah (eo<|((J1 u) ||| (J1 v)) &&& M)::vk 3 s.2.2.1 s.2.2.2.1 s.2.2.2.2::vc 207 (.slice ab (ek nd es).length ad) ((N3 nd es u v))::e8 b1 [e7 nd,.slice ea es.length ec,.slice na num.length nc] 40::I) (λs=>(s.1<=(eo<|(J1 u ||| J1 v) &&& M).length)/\(∀x,x∈eo s.2.1↔x∈eo 0#64\/x∈(eo<|(J1 u ||| J1 v) &&& M).take s.1)/\(s.2.2.2.2=[]++(eo<|(J1 u ||| J1 v) &&& M).take s.1)) (λs=>(eo<|(J1 u ||| J1 v) &&& M).length - s.1) (0,0#64,a4,a0,[]) ⟨om,(λx=>by rw [Jw];simp),rfl⟩ (cx2<|Aa C<|Aa (Da C<|by first|rfl|simp)<|Aa (Da C<|by first|rfl|simp)<|cx2<|Aa Cl Bb) Ai ?_
 rintro ⟨k,F,a,c,out⟩ hp
 dsimp only at hp ⊢
 obtain ⟨hk,hF,ho⟩:=hp
 have bj:out.length=k:=by rw [ho,Kr,Ft];omega
 have be:=Er ((J1 u ||| J1 v) &&& M)
 refine Al<|Gr (Bm C C)<|Ar<|Ax<|Ao C (λa7=>?_)<|λa7=>?_
 ·refine Bc (Ak<|Ax<|A7<|Al<|Gr (A1 (α:=Int) (xs:=eo (((J1 u) ||| (J1 v)) &&& M)) Ac ef C C A5 (by first|omega|(have h1:=(aa om).1;unfold q7 at h1;omega))<|by first|omega|(simp only [Fs];omega)|(have h1:=(aa om).1;unfold q7 at h1;omega))<|Gr (B8 (xs:=eo (((J1 u) ||| (J1 v)) &&& M)) ef C A5 (by first|omega|(have h1:=(aa om).1;unfold q7 at h1;omega))<|by first|omega|(simp only [Fs];omega)|(have h1:=(aa om).1;unfold q7 at h1;omega))<|Ga C<|Ar<|Al<|Gm C<|Gm C<|G.e (Ab c_ C C<|ac3<|e_ (eo<|((J1 u) ||| (J1 v)) &&& M) (k:Int)) ?_)
  rintro _ _ ⟨_,_,⟨rfl,rfl⟩,rfl,rfl⟩
  refine Gr (Ed (a:=F) (b:=J1 (e_ (eo<|((J1 u) ||| (J1 v)) &&& M) (k:Int))) C C)<|Ga C<|Ar<|A0 (S9 11 14 8 9 10 12 62 63 64)<|A6<|Gm C<|Gm C<|Ge1 (B1 (α:=Int) (cs:=[_]) (xs:=[e_ (eo<|((J1 u) ||| (J1 v)) &&& M) (k:Int)]) Ac ef C C dc dc C C C C) λbg=>?_
  refine Ge2 (Bs (α:=Int) (e:=3) (xs:=out) (ys:=([e_ (eo<|((J1 u) ||| (J1 v)) &&& M) (k:Int)]:List Int)) Ac ef C C C mm A5 lcn dc C<|λ_ _=>am) λar aq=>?_
  exact Ga C<|Bq<|Au<|Ak<|A0 (S8 12 11 8 9 10 62 63 64)<|A6<|Gr (Rad C C)<|Gm C<|Bq<|Bu ((k+1),(F ||| (J1<|e_ (eo<|((J1 u) ||| (J1 v)) &&& M) (k:Int))),(ar),(aq),(out++([e_ (eo<|((J1 u) ||| (J1 v)) &&& M) (k:Int)]:List Int)))<|by dsimp only;exact ⟨om,(de5 om (λx hx=>Em hx) hF),(cp4 om ho)⟩
 refine Cg<|Aw<|Aw<|Bi<|Ak<|Ax<|A7<|B9 (σ:=(BitVec 64)×(Option Addr)×Nat×(List Int)) (λs=>([(8,.slice ab (ek nd es).length ad),(9,e7<|(min (e_ num u)<|e_ num v)),(10,U64 M),(11,U64<|s.1),(12,.slice s.2.1 s.2.2.2.length s.2.2.1)]:Env)) (λs=>vk 3 ai ah (eo<|((J1 u) ||| (J1 v)) &&& M)::vk 3 s.2.1 s.2.2.1 s.2.2.2::vc 207 (.slice ab (ek nd es).length ad) ((N3 nd es u v))::e8 b1 [e7 nd,.slice ea es.length ec,.slice na num.length nc] 40::I) (λs=>(RgI (NBX nd es u v) (λx:Int=>(0<=x/\x<(num.length:Int))/\e_ num x=(min (e_ num u)<|e_ num v)) (eo<|(J1 u ||| J1 v) &&& M) s.1 s.2.2.2)/\(s.2.2.2.length<=(eo s.1).length)) (λs=>2*(64 - (eo s.1).length)+s.2.2.2.length) (F,a,c,out) (show (RgI (NBX nd es u v) (λx:Int=>(0<=x/\x<(num.length:Int))/\e_ num x=(min (e_ num u)<|e_ num v)) (eo<|(J1 u ||| J1 v) &&& M) (F:BitVec 64) (out:List Int))/\((out:List Int).length<=(eo (F:BitVec 64)).length) from ⟨(du0 (by rw [Fz om] at hF;exact hF) (by rw [ho,Kr,Fz om])<|λx hx=>(ae x).1 (K3.1 hx).2),(by have h2:=dd6 (F:=0#64) (F2:=F) (L2:=(eo<|(J1 u ||| J1 v) &&& M)) (by rw [Fz om] at hF;exact hF) (Dh _) (λx _=>by rw [D4];simp);rw [D4] at h2;simp only [Fy] at h2;omega)⟩) (cx2<|Aa C<|Aa (Da C<|by first|rfl|simp)<|Aa (Da C<|by first|rfl|simp) Bb) Ai ?_
 rintro ⟨F,a,c,sk⟩ hp
 dsimp only at hp ⊢
 obtain ⟨hR,bi⟩:=hp
 have bc:=Er F
 have aa:=λh:0<sk.length=>hR.lev _ (hR.st _<|Bo (xs:=sk) (i:=(sk.length:Int) - 1) om om)
 refine Ax<|Al<|Gm C<|Gr (Bn Ac C)<|Gr (Dc C C)<|Ar<|Ao C (λa1=>?_)<|λa1=>?_
 ·refine Bc (Ak<|A7<|Al<|Gm C<|Gm C<|Gr (Bn Ac C)<|Gr (Rsu C C)<|Gr (A1 (α:=Int) (xs:=sk) Ac ef C C A5 (by first|omega|(have h1:=(aa om).1;unfold q7 at h1;omega))<|by first|omega|(simp only [Fs];omega)|(have h1:=(aa om).1;unfold q7 at h1;omega))<|Gr (B8 (xs:=sk) ef C A5 (by first|omega|(have h1:=(aa om).1;unfold q7 at h1;omega))<|by first|omega|(simp only [Fs];omega)|(have h1:=(aa om).1;unfold q7 at h1;omega))<|Ga C<|Ar<|A0 (S6 15 8 9 10 11 12)<|Al<|Gm C<|Gm C<|Gr (Bn Ac C)<|Gr (Rsu C C)<|Gm C<|Gr (j8.caps Ac C)<|Gr (j8.gf8 (α:=Int) (xs:=sk) (h:=sk.length - 1) Ac ef C C C om A5 om om)<|Ga C<|Dp (J:=vk 3 a c (List.take (sk.length - 1) sk)::vk 3 ai ah (eo<|((J1 u) ||| (J1 v)) &&& M)::vc 207 (.slice ab (ek nd es).length ad) ((N3 nd es u v))::e8 b1 [e7 nd,.slice ea es.length ec,.slice na num.length nc] 40::I) (A9 Az<|Fit.fu9 (α:=Int) C) ?_)
  refine Ar<|A0 (S6 12 15 8 9 10 11)<|Al<|Gm C<|Gm C<|Gr (A1 (α:=(BitVec 64)) (xs:=(N3 nd es u v)) Cq M4 C C A5 (by first|omega|(have h1:=(aa om).1;unfold q7 at h1;omega))<|by first|omega|(simp only [Fs];omega)|(have h1:=(aa om).1;unfold q7 at h1;omega))<|Gr (Cc (α:=(BitVec 64)) (xs:=(N3 nd es u v)) (u:=U64 ((e_ (N3 nd es u v)<|e_ sk<|((sk.length:Nat):Int) - 1))) M4 C A5 (by first|omega|(have h1:=(aa om).1;unfold q7 at h1;omega)) (by first|omega|(simp only [Fs];omega)|(have h1:=(aa om).1;unfold q7 at h1;omega)) C)<|Gm C<|Gr (Eh (a:=(e_ (N3 nd es u v)<|e_ sk<|((sk.length:Nat):Int) - 1)) (b:=M) C C)<|Gm C<|Gr (Ez (a:=(e_ (N3 nd es u v)<|e_ sk<|((sk.length:Nat):Int) - 1) &&& M) (b:=F) C C)<|Gc2 (Ab c_ C C<|ac1 (((e_ (N3 nd es u v)<|e_ sk<|((sk.length:Nat):Int) - 1) &&& M) &&& ~~~F)<|Ba hT Ah) λao ap=>?_
  refine Gr (Bn Ac C)<|Gm C<|Ar<|A0 (S8 103 102 101 12 8 9 10 11)<|A7<|B9 (σ:=Nat×(BitVec 64)×(Option Addr)×Nat×(List Int)) (λs=>([(8,.slice ab (ek nd es).length ad),(9,e7<|(min (e_ num u)<|e_ num v)),(10,U64 M),(11,U64<|s.2.1),(12,.slice s.2.2.1 s.2.2.2.2.length s.2.2.2.1),(101,.slice ao (eo<|((e_ (N3 nd es u v)<|e_ sk<|((sk.length:Nat):Int) - 1) &&& M) &&& ~~~F).length ap),(102,e7<|(((eo<|((e_ (N3 nd es u v)<|e_ sk<|((sk.length:Nat):Int) - 1) &&& M) &&& ~~~F).length:Nat):Int)),(103,e7 ((s.1:Nat):Int))]:Env)) (λs=>vk 3 ao ap (eo<|((e_ (N3 nd es u v)<|e_ sk<|((sk.length:Nat):Int) - 1) &&& M) &&& ~~~F)::vk 3 s.2.2.1 s.2.2.2.1 s.2.2.2.2::vk 3 ai ah (eo<|((J1 u) ||| (J1 v)) &&& M)::vc 207 (.slice ab (ek nd es).length ad) ((N3 nd es u v))::e8 b1 [e7 nd,.slice ea es.length ec,.slice na num.length nc] 40::I) (λs=>(s.1<=(eo<|((e_ (N3 nd es u v)<|e_ sk<|((sk.length:Nat):Int) - 1) &&& M) &&& ~~~F).length)/\(∀x,x∈eo s.2.1↔x∈eo F\/x∈(eo<|((e_ (N3 nd es u v)<|e_ sk<|((sk.length:Nat):Int) - 1) &&& M) &&& ~~~F).take s.1)/\(s.2.2.2.2=List.take (sk.length - 1) sk++(eo<|((e_ (N3 nd es u v)<|e_ sk<|((sk.length:Nat):Int) - 1) &&& M) &&& ~~~F).take s.1)) (λs=>(eo<|((e_ (N3 nd es u v)<|e_ sk<|((sk.length:Nat):Int) - 1) &&& M) &&& ~~~F).length - s.1) (0,F,a,c,(List.take (sk.length - 1) sk)) ⟨om,(λx=>by rw [Jw];simp),(by rw [Jw,Gv])⟩ (cx2<|Aa C<|Aa (Da C<|by first|rfl|simp)<|Aa (Da C<|by first|rfl|simp)<|cx2<|Aa Cl Bb) Ai ?_
  rintro ⟨j,F3,a3,c3,o3⟩ hp
  dsimp only at hp ⊢
  obtain ⟨hj,aj,an⟩:=hp
  have bb:o3.length=sk.length - 1+j:=by rw [an,By,Ft,Ft];omega
  have ba:=Er ((((e_ (N3 nd es u v)<|e_ sk<|((sk.length:Nat):Int) - 1) &&& M) &&& ~~~F))
  have au:∀y,y∈eo (((e_ (N3 nd es u v)<|e_ sk<|((sk.length:Nat):Int) - 1) &&& M) &&& ~~~F)↔NBX nd es u v (e_ sk<|(sk.length:Int) - 1) y/\((0<=y/\y<(num.length:Int))/\e_ num y=(min (e_ num u)<|e_ num v))/\y∉eo F:=λy=>by rw [N0,K3,dd4 hG hu hv a6<|by have:=(aa om).1;unfold q7;omega,ae y,and_assoc]
  have ak:j=(eo<|((e_ (N3 nd es u v)<|e_ sk<|((sk.length:Nat):Int) - 1) &&& M) &&& ~~~F).length->(∀x,x∈eo F3↔x∈eo F\/x∈eo (((e_ (N3 nd es u v)<|e_ sk<|((sk.length:Nat):Int) - 1) &&& M) &&& ~~~F))/\(eo F3).length=(eo F).length+(eo<|((e_ (N3 nd es u v)<|e_ sk<|((sk.length:Nat):Int) - 1) &&& M) &&& ~~~F).length/\o3=List.take (sk.length - 1) sk++eo (((e_ (N3 nd es u v)<|e_ sk<|((sk.length:Nat):Int) - 1) &&& M) &&& ~~~F):=λe=>by rw [Fz (l:=eo (((e_ (N3 nd es u v)<|e_ sk<|((sk.length:Nat):Int) - 1) &&& M) &&& ~~~F)) (i:=j) om] at aj an;exact ⟨aj,dd6 aj (Dh _)<|λx hx=>((au x).1 hx).2.2,an⟩
  refine Al<|Gr (Bm C C)<|Ar<|Ax<|Ao C (λay=>?_)<|λay=>?_
  ·refine Bc (Ak<|Ax<|A7<|Al<|Gr (A1 (α:=Int) (xs:=eo (((e_ (N3 nd es u v)<|e_ sk<|((sk.length:Nat):Int) - 1) &&& M) &&& ~~~F)) Ac ef C C A5 (by first|omega|(have h1:=(aa om).1;unfold q7 at h1;omega))<|by first|omega|(simp only [Fs];omega)|(have h1:=(aa om).1;unfold q7 at h1;omega))<|Gr (B8 (xs:=eo (((e_ (N3 nd es u v)<|e_ sk<|((sk.length:Nat):Int) - 1) &&& M) &&& ~~~F)) ef C A5 (by first|omega|(have h1:=(aa om).1;unfold q7 at h1;omega))<|by first|omega|(simp only [Fs];omega)|(have h1:=(aa om).1;unfold q7 at h1;omega))<|Ga C<|Ar<|Al<|Gm C<|Gm C<|G.e (Ab c_ C C<|ac3<|e_ (eo<|((e_ (N3 nd es u v)<|e_ sk<|((sk.length:Nat):Int) - 1) &&& M) &&& ~~~F) (j:Int)) ?_)
   rintro _ _ ⟨_,_,⟨rfl,rfl⟩,rfl,rfl⟩
   refine Gr (Ed (a:=F3) (b:=J1 (e_ (eo<|((e_ (N3 nd es u v)<|e_ sk<|((sk.length:Nat):Int) - 1) &&& M) &&& ~~~F) (j:Int))) C C)<|Ga C<|Ar<|A0 (S9 11 17 8 9 10 12 101 102 103)<|A6<|Gm C<|Gm C<|Ge1 (B1 (α:=Int) (cs:=[_]) (xs:=[e_ (eo<|((e_ (N3 nd es u v)<|e_ sk<|((sk.length:Nat):Int) - 1) &&& M) &&& ~~~F) (j:Int)]) Ac ef C C dc dc C C C C) λa8=>?_
   refine Ge2 (Bs (α:=Int) (e:=3) (xs:=o3) (ys:=([e_ (eo<|((e_ (N3 nd es u v)<|e_ sk<|((sk.length:Nat):Int) - 1) &&& M) &&& ~~~F) (j:Int)]:List Int)) Ac ef C C C mm A5 lcn dc C<|λ_ _=>am) λaw ax=>?_
   exact Ga C<|Bq<|Au<|Ak<|A0 (S8 12 11 8 9 10 101 102 103)<|A6<|Gr (Rad C C)<|Gm C<|Bq<|Bu ((j+1),(F3 ||| (J1<|e_ (eo<|((e_ (N3 nd es u v)<|e_ sk<|((sk.length:Nat):Int) - 1) &&& M) &&& ~~~F) (j:Int))),(aw),(ax),(o3++([e_ (eo<|((e_ (N3 nd es u v)<|e_ sk<|((sk.length:Nat):Int) - 1) &&& M) &&& ~~~F) (j:Int)]:List Int)))<|by dsimp only;exact ⟨om,(de5 om (λx hx=>Em hx) aj),(cp4 om an)⟩
  exact Cg<|Aw<|Aw<|Bi<|Au<|Bu ((F3),(a3),(c3),(o3)) (by dsimp only;exact ⟨(by rw [(ak om).2.2];exact hR.pop om au (ak om).1),(by have h4:=(ak om).2.1;omega)⟩) (hlt:=by (try dsimp only);exact (by have h4:=(ak om).2.1;have h5:=Er F3;omega))
 exact Cg<|Aw<|Aw<|Bi<|Ak<|Al<|Gm C<|Gm C<|Ga C<|Ga C<|Ar<|B3<|C2 C C C I Ah ⟨F,rfl,hR.reg hG av hu hv ae om,rfl⟩
end Go.Sl
namespace Go.Sl
variable {P:Program}{κ:Ctx}{N:Frm}{L:Env}{I:List Item}
end Go.Sl
namespace Go.Sl
open Go.Proofs
set_option maxRecDepth 4000
end Go.Sl
namespace Go.Sl
open Go.Proofs
set_option maxRecDepth 4000
variable{M ea ga na:Option Addr}{c0 ec gc nc:Nat}
attribute [local irreducible] W G V D A j8 Eff
section
variable {nd u v k:Int}{es es':List Pt}{F A S B C:BitVec 64}
theorem bz2(M:s8 nd es):∀x∈j9 nd es,0<=x/\x<=1000:=λx hx=>by
 obtain ⟨i,hi,rfl⟩:=av6 hx
 have h1:=G8 M
 have h2:=T7 M (u:=(i:Int)) om om
 have:=M.rng
 omega
theorem fq8.rng(hG:s8 nd es){num:List Int}(h:fq8 nd es num u v k F):∀x∈eo F,0<=x/\x<nd:=λx M=>(h.lev x M).1
theorem dx4(h:R7 nd es es' u v)(hk:k=min (e_ (j9 nd es) u) (e_ (j9 nd es) v))(hR:fq8 nd es (j9 nd es) u v k F)(hA:∀x,x∈eo A↔(0<=x/\x<((j9 nd es).length:Int))/\k<e_ (j9 nd es) x)
  (hS:ft3 (ek nd es') F A (k+1) S):(eo S).foldl (X7 1) (j9 nd es)=j9 nd es':=by
 have h1:=G8 h.ok
 have h2:∀x∈eo S,0<=x/\x<((j9 nd es).length:Int):=λx M=>by rw [h1];exact hR.rng h.ok x (hS.sub x M)
 refine bz1 h.ok' (by rw [J5];exact h1) λx M=>?_
 rw [ac6 _ _ h2 _ M.1,M2<|Dh _,Int.one_mul]
 exact (cu6 h hk ⟨hR.lev,hR.hu,hR.hv,λx M y hy hk=>hR.cl x M y ((h.nb x y).1 hy) hk⟩ (λx=>by rw [hA,h1];exact Iff.rfl) hS M).symm
theorem dj9(hG:s8 nd es')(hR:fq8 nd es' (j9 nd es') u v k F)(hB:∀x,x∈eo B↔(0<=x/\x<((j9 nd es').length:Int))/\k<e_ (j9 nd es') x)
  (M:∀x,x∈eo C↔(0<=x/\x<((j9 nd es').length:Int))/\e_ (j9 nd es') x=k) (x:Int):x∈eo (B ||| (C &&& ~~~F))↔q7 nd x/\k<=e_ (j9 nd es') x/\x∉eo F:=by
 have h1:=G8 hG
 rw [ak6,N0,hB,M,h1]
 unfold q7
 constructor
 ·rintro (⟨a,b⟩|⟨⟨a,b⟩,c⟩)
  ·exact ⟨a,by omega,λq=>by have:=(hR.lev x q).2;omega⟩
  exact ⟨a,by omega,c⟩
 rintro ⟨a,b,c⟩
 by_cases e:e_ (j9 nd es') x=k
 ·exact .inr ⟨⟨a,e⟩,c⟩
 exact .inl ⟨a,by omega⟩
theorem dz0(h:R7 nd es es' u v)(hk:k=min (e_ (j9 nd es') u) (e_ (j9 nd es') v))(hR:fq8 nd es' (j9 nd es') u v k F)(hA:∀x,x∈eo A↔q7 nd x/\k<=e_ (j9 nd es') x/\x∉eo F)
  (hS:ft3 (ek nd es) F A k S):(eo<|F &&& ~~~S).foldl (X7<|-1) (j9 nd es')=j9 nd es:=by
 have h1:=G8 h.ok'
 have h2:∀x∈eo (F &&& ~~~S),0<=x/\x<((j9 nd es').length:Int):=λx M=>by rw [h1];exact hR.rng h.ok' x (N0.1 M).1
 refine bz1 h.ok (by rw [J5];exact h1) λx M=>?_
 rw [ac6 _ _ h2 _ M.1,M2<|Dh _]
 have h3:=dk5 h hk ⟨hR.lev,hR.hu,hR.hv,λx M y hy hk=>hR.cl x M y (.inl hy) hk⟩ hA hS M
 by_cases e:x∈eo (F &&& ~~~S)
 ·rw [B_ e];rw [B_ (N0.1 e)] at h3;omega
 rw [An e];rw [An (λq=>e<|N0.2 q)] at h3;omega
end
theorem ta8{p:Prop}(h:p:=by unfold q7;omega):p:=h
theorem fr0{κ:Ctx}{I:List Item}{nd u v:Int}{es es':List Pt}(hl:Sl κ I (.slice ea es.length ec) es)(hm:Sl κ I (.slice na (j9 nd es).length nc) (j9 nd es))(hg:Sl κ I (.slice ga es'.length gc) es')(h:R7 nd es es' u v)(hT:F4 κ I 0 p5):eu prog κ 262 [.agg #[e7 nd,.slice ea es.length ec,.slice na (j9 nd es).length nc],.agg #[e7 nd,.slice ga es'.length gc],e7 u,e7 v] I (λr J=>∃(a:Option Addr) (c:Nat) (w:Value),r = .tuple #[.agg #[e7 nd,.slice ga es'.length gc,.slice a (j9 nd es').length c],w]/\J=vk 3 a c (j9 nd es')::I):=by
 have ad:=h.ok'
 have hG:=h.ok
 have a3:(ek nd es').length=nd:=ad.rows.len
 have aq:(ek nd es).length=nd:=hG.rows.len
 have au:=hG.rng
 have ap:=h.ends
 unfold F5 at ap
 have az:=G8 hG
 have aw:=G8 ad
 have a0:=T7 hG (u:=u) om om
 have a1:=T7 hG (u:=v) om om
 refine Ce4 Tryz.func262 C C ?_
 refine Al<|Ge1 (Av (cs:=[_,_,_]) C C C) λb1=>Ge1 (Av (cs:=[_,_]) C C C) λb2=>Ge1 (Aj ab6 C) λb3=>Z ?_
 refine G.e (Ab c_ C C<|cb0 (nd:=nd) (u:=u) (v:=v) (A3 hl) (A3 hm) hG om ta8 ta8 om<|Ba hT Ah) ?_
 rintro _ _ ⟨_,_,⟨an,rfl,M,rfl⟩,rfl,rfl⟩
 refine Z ?_
 refine A8 mixed<|Ee 15<|Z ?_
 refine Ds1 3<|Se C (Ab c_ C C<|at2 (nd:=nd)<|A3 hg) ?_
 rintro _ _ ⟨_,_,⟨ax,ay,rfl,rfl⟩,rfl,rfl⟩
 refine ⟨Ah,?_⟩
 have ak:=ad6 nd es'
 refine Ds1 8<|Se C (Ab c_ C C<|cr2 (num:=j9 nd es) (lv:=min (e_ (j9 nd es) u) (e_ (j9 nd es) v)) (A3 hm) om) ?_
 rintro _ _ ⟨_,_,⟨ao,rfl,ai,rfl⟩,rfl,rfl⟩
 refine ⟨Ah,?_⟩
 refine Ds1 11<|Se C (Ab c_ C C<|ca6 (rows:=ek nd es') (F:=an) (A:=ao) (k:=(min (e_ (j9 nd es) u)<|e_ (j9 nd es) v)+1) A5 om (λx hx=>by have h9:=(M.lev x hx).1;unfold q7 at h9;omega)<|Ba hT Ah) ?_
 rintro _ _ ⟨_,_,⟨ah,rfl,aa,rfl⟩,rfl,rfl⟩
 refine ⟨Ah,?_⟩
 refine Ds1 12<|Se C (Ab c_ C C<|cq2 (nd:=nd) (nd':=nd) (b':=1) (va:= .slice ea es.length ec) (ga:=ga) (gn:=es'.length) (gc:=gc) (S:=ah) (A3 hm) (λx hx=>by have h9:=(M.lev x<|aa.sub x hx).1;unfold q7 at h9;omega) (bz2 hG) dc om<|Ba hT Ah) ?_
 rintro _ _ ⟨_,_,⟨aj,ab,av,ar,rfl,rfl⟩,rfl,rfl⟩
 refine ⟨Ah,?_⟩
 refine Z ?_
 refine Ch kr ?_
 refine Ae 15 C (Db ab6) ?_
 rintro _ _ ⟨rfl,rfl⟩
 refine Di (i:=16) kr C (Aq C) C C (Bj C) ?_
 refine Ci kr<|Z ?_
 have hE:(eo ah).foldl (X7 1) (j9 nd es)=j9 nd es':=dx4 h rfl M ai aa
 have ae:(j9 nd es).length=(j9 nd es').length:=by have h1:=G8 h.ok;have h2:=G8 h.ok';omega
 exact Cp C ab6 C C mm C (vk 3 aj ab (j9 nd es')::I) (by unfold vk;rw [←hE,hE,←ae,←hE];exact Az) ⟨aj,ab,_,by rw [←ae],rfl⟩
theorem fq9{κ:Ctx}{I:List Item}{nd u v:Int}{es es':List Pt}(hl:Sl κ I (.slice ea es'.length ec) es')(hm:Sl κ I (.slice na (j9 nd es').length nc) (j9 nd es'))(hg:Sl κ I (.slice ga es.length gc) es)(h:R7 nd es es' u v)(hT:F4 κ I 0 p5):eu prog κ 264 [.agg #[e7 nd,.slice ea es'.length ec,.slice na (j9 nd es').length nc],.agg #[e7 nd,.slice ga es.length gc],e7 u,e7 v] I (λr J=>∃(a:Option Addr) (c:Nat) (w:Value),r = .tuple #[.agg #[e7 nd,.slice ga es.length gc,.slice a (j9 nd es).length c],w]/\J=vk 3 a c (j9 nd es)::I):=by
 have aa:=h.ok'
 have hG:=h.ok
 have a1:(ek nd es').length=nd:=aa.rows.len
 have aw:(ek nd es).length=nd:=hG.rows.len
 have au:=hG.rng
 have ar:=h.ends
 unfold F5 at ar
 have a4:=G8 hG
 have av:=G8 aa
 have a0:=T7 aa (u:=u) om om
 have a5:=T7 aa (u:=v) om om
 refine Ce4 Tryz.func264 C C ?_
 refine Al<|Ge1 (Av (cs:=[_,_,_]) C C C) λb1=>Ge1 (Av (cs:=[_,_]) C C C) λb2=>Ge1 (Aj ab6 C) λb3=>Z ?_
 refine G.e (Ab c_ C C<|cb0 (nd:=nd) (u:=u) (v:=v) (A3 hl) (A3 hm) aa om ta8 ta8 om<|Ba hT Ah) ?_
 rintro _ _ ⟨_,_,⟨M,rfl,ab,rfl⟩,rfl,rfl⟩
 refine Z ?_
 refine A8 mixed<|Ee 17<|Z ?_
 refine Ds1 1<|Se C (Ab c_ C C<|at2 (nd:=nd)<|A3 hg) ?_
 rintro _ _ ⟨_,_,⟨a3,az,rfl,rfl⟩,rfl,rfl⟩
 refine ⟨Ah,?_⟩
 have aq:=ad6 nd es
 refine Ds1 6<|Se C (Ab c_ C C<|cr2 (num:=j9 nd es') (lv:=min (e_ (j9 nd es') u) (e_ (j9 nd es') v)) (A3 hm) om) ?_
 rintro _ _ ⟨_,_,⟨ak,rfl,ap,rfl⟩,rfl,rfl⟩
 refine ⟨Ah,?_⟩
 refine Ds1 10<|Se C (Ab c_ C C<|cq6 (num:=j9 nd es') (lv:=min (e_ (j9 nd es') u) (e_ (j9 nd es') v)) (A3 hm) om) ?_
 rintro _ _ ⟨_,_,⟨ah,rfl,ao,rfl⟩,rfl,rfl⟩
 refine ⟨Ah,?_⟩
 refine Dr 12 C (Ez (a:=ah) (b:=M) C C)<|Dr 13 C (Ed (a:=ak) (b:=ah &&& ~~~M) C C)<|Ds1 15<|Se C (Ab c_ C C<|ca6 (rows:=ek nd es) (F:=M) (A:=ak ||| (ah &&& ~~~M)) (k:=min (e_ (j9 nd es') u) (e_ (j9 nd es') v)) A5 om (λx hx=>by have h9:=(ab.lev x hx).1;unfold q7 at h9;omega)<|Ba hT Ah) ?_
 rintro _ _ ⟨_,_,⟨ai,rfl,an,rfl⟩,rfl,rfl⟩
 refine ⟨Ah,?_⟩
 refine Z ?_
 refine Gr (Ez (a:=M) (b:=ai) C C)<|G.e (Ab c_ C C<|cq2 (nd:=nd) (nd':=nd) (b':= -1) (va:= .slice ea es'.length ec) (ga:=ga) (gn:=es.length) (gc:=gc) (S:=M &&& ~~~ai) (A3 hm) (λx hx=>by have h9:=(ab.lev x (N0.1 hx).1).1;unfold q7 at h9;omega) (bz2 aa) dc om<|Ba hT Ah) ?_
 rintro _ _ ⟨_,_,⟨ae,ad,ax,ay,rfl,rfl⟩,rfl,rfl⟩
 refine Z ?_
 refine Ge0 (Db ab6)<|Z ?_
 have hE:(eo<|M &&& ~~~ai).foldl (X7<|-1) (j9 nd es')=j9 nd es:=dz0 h rfl ab (λx=>dj9 aa ab ap ao x) an
 have aj:(j9 nd es').length=(j9 nd es).length:=by have h1:=G8 h.ok;have h2:=G8 h.ok';omega
 exact Cp C ab6 C C mm C (vk 3 ae ad (j9 nd es)::I) (by unfold vk;rw [←hE,hE,←aj,←hE];exact Az) ⟨ae,ad,_,by rw [←aj],rfl⟩
variable {κ:Ctx}{I:List Item}
theorem add_zero{nd:Int}{es:List Pt}{u v:Int}(hG:s8 nd es)(M:F5 nd u v)(hn:j4 u v∉es):da5 nd es u v=0:=by
 have h1:=ac0.2 ⟨hG,M⟩
 unfold da5;rw [An om,An hn]
theorem az7{nd:Int}{es:List Pt}{u v:Int}(hG:s8 nd es)(M:F5 nd u v)(hn:j4 u v∈es):da3 nd es u v=0:=by
 have h1:=ac0.2 ⟨hG,M⟩
 unfold da3;rw [An om,B_ hn]
theorem bb3{nd:Int}{es:List Pt}(hl:Sl κ I (.slice M es.length c0) es){u v:Int}(hz:da5 nd es u v=0)(hb:es.length<=10000000):eu prog κ 261 [.agg #[e7 nd,.slice M es.length c0],e7 u,e7 v] I λr J=>∃a c,r = .tuple #[.agg #[e7 nd,.slice a (z8 Pt.lt es (j4 u v)).length c],e7 0]/\J=vk 105 a c (z8 Pt.lt es (j4 u v))::I:=
 (fs4 hl u v hb).mono λr J h=>by
  rcases h with h|⟨a,c,_,h1,h2⟩
  ·exact absurd hz h.1
  exact ⟨a,c,h1,h2⟩
theorem bb1{nd:Int}{es:List Pt}(hl:Sl κ I (.slice M es.length c0) es){u v:Int}(hz:da3 nd es u v=0)(hb:es.length<=10000000):eu prog κ 263 [.agg #[e7 nd,.slice M es.length c0],e7 u,e7 v] I λr J=>∃a c,r = .tuple #[.agg #[e7 nd,.slice a (j7 es (j4 u v)).length c],e7 0]/\J=vk 105 a c (j7 es (j4 u v))::I:=
 (fq7 hl u v hb).mono λr J h=>by
  rcases h with h|⟨a,c,_,h1,h2⟩
  ·exact absurd hz h.1
  exact ⟨a,c,h1,h2⟩
theorem cq9{va vb:Value}{xs ys:List Int}(hl:Sl κ I va xs)(hm:Sl κ I vb ys):eu prog κ 266 [va,vb] I (λr J=>r = .bool (decide (xs=ys))/\I=J):=by
 refine Bx hl.le λae=>?_
 refine Bx hm.le λad=>?_
 refine Ce2 Tryz.func266 C C<|Z ?_
 refine Ao C (λc10=>Z ?_)<|λc10=>Z ?_
 ·have aa:xs≠ys:=λe=>by subst e;omega
  exact Am C C I Ah ⟨by rw [D_ aa],rfl⟩
 refine Dj (σ:=Nat) (λs=>[(13,e7 ((s:Nat):Int))]) (λ_=>[]) (λs=>(s<=xs.length)/\(∀j:Nat,j<s->e_ xs j=e_ ys j)) (λs=>xs.length - s) 0 ⟨om,(λj h=>by omega)⟩ ?_
 rintro k hp
 obtain ⟨hk,hn⟩:=hp
 refine Z ?_
 refine Ao C (λab=>Z ?_)<|λab=>Z ?_
 ·refine A8 mixed (Bv I 9<|Z ?_)
  refine Ao C (λM=>Z ?_)<|λM=>Z ?_
  ·have aa:xs≠ys:=λe=>by subst e;exact M rfl
   exact Am C C I Ah ⟨by rw [D_ aa],rfl⟩
  exact Bu ((k+1)) ⟨om,(λj h=>by by_cases e:j=k;(· subst e;exact Fx.1 M);(· exact hn j om))⟩
 have he:xs=ys:=Mg om λi h1 h2=>by have:=hn i om;rwa [Ct xs i h1,Ct ys i h2] at this
 exact Am C C I Ah ⟨by rw [As he],rfl⟩
theorem do7{nd:Int}{es:List Pt}(hl:Sl κ I (.slice ea es.length ec) es)(hm:Sl κ I (.slice na (j9 nd es).length nc) (j9 nd es))(hG:s8 nd es)(hT:F4 κ I 0 p5):eu prog κ 259 [.agg #[e7 nd,.slice ea es.length ec,.slice na (j9 nd es).length nc]] I (λr J=>r = .bool true/\I=J):=by
 have M:=s4.2 hG
 refine Ce1 Tryz.func259 C C ?_
 refine Al<|Ge1 (Av (cs:=[_,_,_]) C C C) λb1=>Z ?_
 refine Gc2 (Ab c_ C C<|bi0 (nd:=nd) (A3 hl)<|Ba hT Ah) λab ad=>Z ?_
 refine A4 (d:=13) C (λaa=>Z ?_)<|λaa=>Z ?_
 ·refine Dt (Cm C C C) (Ab c_ C C<|cq9 (xs:=j9 nd es) (ys:=j9 nd es) A5<|A3 hm) ?_
  rintro _ _ ⟨_,_,⟨rfl,rfl⟩,rfl,rfl⟩
  refine Z ?_
  exact Am C C I Ah ⟨by first|rfl|(simp;done)|exact absurd M asm,rfl⟩
 exact Am C C I Ah ⟨by first|rfl|(simp;done)|exact absurd M asm,rfl⟩
theorem cb1{nd:Int}{es:List Pt}(hl:Sl κ I (.slice ea es.length ec) es)(hm:Sl κ I (.slice M (j9 nd es).length nc) (j9 nd es))(hG:s8 nd es){u v:Int}(he:F5 nd u v)(hT:F4 κ I 0 p5):eu prog κ 260 [.agg #[e7 nd,.slice ea es.length ec,.slice M (j9 nd es).length nc],e7 u,e7 v] I (λr J=>r=e7 0/\I=J):=by
 refine Ce3 Tryz.func260 C C ?_
 refine Al<|Ge1 (Av (cs:=[_,_,_]) C C C) λb1=>Z ?_
 refine Gc0 (Ab c_ C C<|do7 (nd:=nd) (A3 hl) (A3 hm) hG<|Ba hT Ah)<|Z ?_
 refine Gc0 (Ab c_ C C<|ci5 nd u v)<|Z ?_
 refine Ao C (λc11=>Z ?_)<|λc11=>Z ?_
 ·exact Am C C I Ah ⟨by first|rfl|exact absurd he asm,rfl⟩
 exact Am C C I Ah ⟨by first|rfl|exact absurd he asm,rfl⟩
theorem cx1{nd:Int}{es:List Pt}(hl:Sl κ I (.slice ea es.length ec) es)(hm:Sl κ I (.slice na (j9 nd es).length nc) (j9 nd es))(hG:s8 nd es){u v:Int}(he:F5 nd u v)(hn:j4 u v∉es)(hT:F4 κ I 0 p5):eu prog κ 256 [.agg #[e7 nd,.slice ea es.length ec,.slice na (j9 nd es).length nc],e7 u,e7 v] I (λr J=>∃(ga:Option Addr) (gc:Nat) (a:Option Addr) (c:Nat) (w:Value),r = .tuple #[.agg #[e7 nd,.slice ga (z8 Pt.lt es (j4 u v)).length gc,.slice a (j9 nd (z8 Pt.lt es (j4 u v))).length c],w,e7 0]/\J=vk 3 a c (j9 nd (z8 Pt.lt es (j4 u v)))::vk 105 ga gc (z8 Pt.lt es (j4 u v))::I):=by
 refine Ce3 Tryz.func256 C C ?_
 refine Al<|Ge1 (Av (cs:=[_,_,_]) C C C) λb1=>Ge1 (Aj ab6 C) λb2=>Z ?_
 refine Gc0 (Ab c_ C C<|cb1 (nd:=nd) (u:=u) (v:=v) (A3 hl) (A3 hm) hG he<|Ba hT Ah)<|Z ?_
 refine Ao C (λah=>Z ?_)<|λah=>Z ?_
 ·refine Ge0 (Db ab6) (Z ?_)
  exact absurd rfl asm
 refine G.e (Ab c_ C C<|bb3 (nd:=nd) (u:=u) (v:=v) (A3 hl) (add_zero hG he hn)<|by have:=q9 hG;omega) ?_
 rintro _ _ ⟨_,_,⟨ab,aa,rfl,rfl⟩,rfl,rfl⟩
 refine Z ?_
 refine Ge1 (Aj K0 C) λb5=>Ge0 (Co K0)<|Z ?_
 refine Ao C (λae=>Z ?_)<|λae=>Z ?_
 ·refine Ge0 (Db ab6) (Z ?_)
  exact absurd rfl asm
 refine G.e (Ab c_ C C<|fr0 (nd:=nd) (u:=u) (v:=v) (A3 hl) (A3 hm) A5 (R7.add hG he hn)<|Ba hT Ah) ?_
 rintro _ _ ⟨_,_,⟨ad,M,w8,rfl,rfl⟩,rfl,rfl⟩
 refine Z ?_
 refine Ge1 (Aj ab6 C) λb9=>Ge0 (Db ab6)<|Z ?_
 refine Ge0 (Db ab6)<|Z ?_
 exact Cs C ab6 C C C mm C (vk 3 ad M (j9 nd<|z8 Pt.lt es<|j4 u v)::vk 105 ab aa (z8 Pt.lt es<|j4 u v)::I) Az ⟨ab,aa,ad,M,_,rfl,rfl⟩
theorem cx3{nd:Int}{es:List Pt}(hl:Sl κ I (.slice ea es.length ec) es)(hm:Sl κ I (.slice na (j9 nd es).length nc) (j9 nd es))(hG:s8 nd es){u v:Int}(he:F5 nd u v)(hn:j4 u v∈es)(hT:F4 κ I 0 p5):eu prog κ 257 [.agg #[e7 nd,.slice ea es.length ec,.slice na (j9 nd es).length nc],e7 u,e7 v] I (λr J=>∃(ga:Option Addr) (gc:Nat) (a:Option Addr) (c:Nat) (w:Value),r = .tuple #[.agg #[e7 nd,.slice ga (j7 es (j4 u v)).length gc,.slice a (j9 nd (j7 es (j4 u v))).length c],w,e7 0]/\J=vk 3 a c (j9 nd (j7 es (j4 u v)))::vk 105 ga gc (j7 es (j4 u v))::I):=by
 refine Ce3 Tryz.func257 C C ?_
 refine Al<|Ge1 (Av (cs:=[_,_,_]) C C C) λb1=>Ge1 (Aj ab6 C) λb2=>Z ?_
 refine Gc0 (Ab c_ C C<|cb1 (nd:=nd) (u:=u) (v:=v) (A3 hl) (A3 hm) hG he<|Ba hT Ah)<|Z ?_
 refine Ao C (λah=>Z ?_)<|λah=>Z ?_
 ·refine Ge0 (Db ab6) (Z ?_)
  exact absurd rfl asm
 refine Gc2 (Ab c_ C C<|bb1 (nd:=nd) (u:=u) (v:=v) (A3 hl) (az7 hG he hn)<|by have:=q9 hG;omega) λab aa=>Z ?_
 refine Ge1 (Aj K0 C) λb5=>Ge0 (Co K0)<|Z ?_
 refine Ao C (λae=>Z ?_)<|λae=>Z ?_
 ·refine Ge0 (Db ab6) (Z ?_)
  exact absurd rfl asm
 refine G.e (Ab c_ C C<|fq9 (nd:=nd) (u:=u) (v:=v) (A3 hl) (A3 hm) A5 (R7.rem hG he hn)<|Ba hT Ah) ?_
 rintro _ _ ⟨_,_,⟨ad,M,w8,rfl,rfl⟩,rfl,rfl⟩
 refine Z ?_
 refine Ge1 (Aj ab6 C) λb9=>Ge0 (Db ab6)<|Z ?_
 refine Ge0 (Db ab6)<|Z ?_
 exact Cs C ab6 C C C mm C (vk 3 ad M (j9 nd<|j7 es<|j4 u v)::vk 105 ab aa (j7 es<|j4 u v)::I) Az ⟨ab,aa,ad,M,_,rfl,rfl⟩
end Go.Sl
namespace Go.Sl
open Go.Proofs
set_option maxRecDepth 4000
variable{a y:Int}{k:Nat}
section
variable {nd u v:Int}{es:List Pt}
theorem fm6(M:s8 nd es){x:Int}:y∈nbG nd es x↔j4 x y∈es:=by
 rw [ag7 M]
 constructor
 ·rintro (h|h)
  ·have:=(M.aa9 _ h).2.1
   simp only at this
   have e:j4 x y=⟨x,y⟩:=by unfold j4;rw [An om,B_ this]
   rw [e];exact h
  have:=(M.aa9 _ h).2.1
  simp only at this
  have e:j4 x y=⟨y,x⟩:=by unfold j4;rw [B_ this,An om]
  rw [e];exact h
 intro h
 have hlt:=(M.aa9 _ h).2.1
 rcases Ma x y with h1|h1|h1
 ·have e:j4 x y=⟨x,y⟩:=by unfold j4;rw [An om,B_ h1]
  exact .inl<|e▸h
 ·subst h1;unfold j4 at hlt;simp at hlt
 have e:j4 x y=⟨y,x⟩:=by unfold j4;rw [B_ h1,An om]
 exact .inr<|e▸h
theorem aw7(M:s8 nd es){b:Int}(h:at4 nd es a b y):0<=y↔b∈nbG nd es a:=by
 rw [fm6 M]
 rcases h with ⟨_,j,rfl,hj,e⟩|⟨rfl,h|h⟩
 ·exact ⟨λ_=>e▸Bo om om,λ_=>by omega⟩
 ·exact absurd (s4.2 M) h
 exact ⟨λh=>by omega,λh2=>absurd h2 h⟩
theorem cf1{α β:Type}[Inhabited α](f:α->List β)(xs:List α)(M:k<xs.length):(xs.take (k+1)).flatMap f=(xs.take k).flatMap f++f (e_ xs k):=by
 rw [Ca xs k M,List.flatMap_append];simp
def de2(nd:Int)(es:List Pt)(u v a:Int)(k:Nat):List Pt:=(((nbG nd es v).take k).filter λb=>decide (b≠u/\b∈nbG nd es a)).map λb=>(⟨a,b⟩:Pt)
theorem bq4(M:k<(nbG nd es v).length)(h:e_ (nbG nd es v) k≠u/\e_ (nbG nd es v) k∈nbG nd es a):de2 nd es u v a (k+1)=de2 nd es u v a k++[(⟨a,e_ (nbG nd es v) k⟩:Pt)]:=by
 unfold de2
 rw [Ca _ k M,Gu,Hn,B_<|As h,Hv];rfl
theorem av2(M:k<(nbG nd es v).length)(h:¬(e_ (nbG nd es v) k≠u/\e_ (nbG nd es v) k∈nbG nd es a)):de2 nd es u v a (k+1)=de2 nd es u v a k:=by
 unfold de2
 rw [Ca _ k M,Gu,Hn,An<|λq=>h<|Fu q];simp
theorem ck5(h:a≠v):de2 nd es u v a (nbG nd es v).length=bd3 nd es u v a:=by
 unfold de2 bd3
 rw [Hg,An h]
theorem de3(h:a=v):bd3 nd es u v a=[]:=by unfold bd3;rw [B_ h]
end
theorem fr2{κ:Ctx}{I:List Item}{nd u v:Int}{va:Value}{es:List Pt}(hl:Sl κ I va es)(hG:s8 nd es)(hT:F4 κ I 0 p5):eu prog κ 308 [.agg #[e7 nd,va],e7 u,e7 v] I (λr J=>∃a c,r = .slice a (p7 nd es u v).length c/\J=vk 200 a c (p7 nd es u v)::I):=by
 have ar:=q9 hG
 refine Ce3 Tryz.func308 C C ?_
 refine Al<|Ge1 (Av (cs:=[_,_]) C C C) λb1=>Ga C<|Ar<|Al<|Ga C<|Ar<|Ax<|Al<|Gl2 K0 ?_
 refine Gm C<|Gc2 (Ab c_ C C<|bh3 (nd:=nd) (A3 hl) u<|Ba hT Ah) λaa ab=>?_
 refine Gr (Bn Ac C)<|Gm C<|Ar<|A7<|B9 (σ:=Nat×(Option Addr)×Nat×(List Pt)) (λs=>([(1,e7 u),(2,e7 v),(3,pt b1),(7,.slice s.2.1 s.2.2.2.length s.2.2.1),(14,.slice aa (nbG nd es u).length ab),(15,e7<|(((nbG nd es u).length:Nat):Int)),(16,e7 ((s.1:Nat):Int))]:Env)) (λs=>vk 200 s.2.1 s.2.2.1 s.2.2.2::vk 3 aa ab (nbG nd es u)::e8 b1 [e7 nd,va] 38::I) (λs=>(s.1<=(nbG nd es u).length)/\(s.2.2.2=((nbG nd es u).take s.1).flatMap (bd3 nd es u v))/\(s.2.2.2.length<=64*s.1)) (λs=>(nbG nd es u).length - s.1) (0,none,0,[]) ⟨om,rfl,(by simp)⟩ (cx2<|Aa C<|Aa (Da C<|by first|rfl|simp)<|cx2<|Aa Cl Bb) (A9 (show Fit κ _ _ from Az)<|B6 (α:=Pt) _ _) ?_
 rintro ⟨k,oa,oc,o⟩ hp
 dsimp only at hp ⊢
 obtain ⟨hk,ho,aw⟩:=hp
 have au:=K1 nd es u
 have av:=K1 nd es v
 refine Al<|Gr (Bm C C)<|Ar<|Ax<|Ao C (λah=>?_)<|λah=>?_
 ·refine Bc (Ak<|Ax<|A7<|Al<|Gr (A1 (α:=Int) (xs:=nbG nd es u) Ac ef C C A5 om om)<|Gr (B8 (xs:=nbG nd es u) ef C A5 om om)<|Ga C<|Ar<|Ax<|Al<|Gm C<|Gm C<|Gr (C3 C C)<|Ar<|A0 (S9 22 9 1 2 3 7 14 15 16)<|Ao C (λaj=>?_)<|λaj=>?_)
  ·exact Cg<|Aw<|Bi<|Ak<|A6<|Gr (Rad C C)<|Gm C<|Bq<|Bu ((k+1),(oa),(oc),(o))<|by dsimp only;exact ⟨om,(by rw [cf1 _ _ om,←ho];first|(rw [de3 asm];simp;done)|(rw [M,show k2=(nbG nd es v).length by omega,ck5 asm])),om⟩
  refine Bc<|Ak<|Al<|Gl2 K0 ?_
  refine Gm C<|Gc2 (Ab c_ C C<|bh3 (nd:=nd) (A3 hl) v<|Ba hT Ah) λae ad=>?_
  refine Gr (Bn Ac C)<|Gm C<|Ar<|A0 (S11 27 26 25 9 1 2 3 7 14 15 16)<|A7<|B9 (σ:=Nat×(Option Addr)×Nat×(List Pt)) (λs=>([(1,e7 u),(2,e7 v),(3,pt b1),(7,.slice s.2.1 s.2.2.2.length s.2.2.1),(9,e7<|e_ (nbG nd es u) k),(14,.slice aa (nbG nd es u).length ab),(15,e7<|(((nbG nd es u).length:Nat):Int)),(16,e7<|(k:Int)),(25,.slice ae (nbG nd es v).length ad),(26,e7<|(((nbG nd es v).length:Nat):Int)),(27,e7 ((s.1:Nat):Int))]:Env)) (λs=>vk 3 ae ad (nbG nd es v)::vk 200 s.2.1 s.2.2.1 s.2.2.2::vk 3 aa ab (nbG nd es u)::e8 b1 [e7 nd,va] 38::I) (λs=>(s.1<=(nbG nd es v).length)/\(s.2.2.2=o++de2 nd es u v (e_ (nbG nd es u) k) s.1)/\(s.2.2.2.length<=o.length+s.1)) (λs=>(nbG nd es v).length - s.1) (0,oa,oc,o) (show ((0:Nat)<=(nbG nd es v).length)/\((o:List Pt)=o++de2 nd es u v (e_ (nbG nd es u) k) (0:Nat))/\((o:List Pt).length<=o.length+(0:Nat)) from ⟨om,(by unfold de2;simp),om⟩) (cx2<|Aa C<|Aa (Da C<|by first|rfl|simp)<|cx4<|cx2<|Aa Cl Bb) Ai ?_
  rintro ⟨k2,qa,qc,q⟩ hp
  dsimp only at hp ⊢
  obtain ⟨ax,M,aq⟩:=hp
  refine Al<|Gr (Bm C C)<|Ar<|Ax<|Ao C (λan=>?_)<|λan=>?_
  ·refine Bc (Ak<|Ax<|A7<|Al<|Gr (A1 (α:=Int) (xs:=nbG nd es v) Ac ef C C A5 om om)<|Gr (B8 (xs:=nbG nd es v) ef C A5 om om)<|Ga C<|Ar<|A0 (S12 11 1 2 3 7 9 14 15 16 25 26 27 C C C C C C C C C C C C)<|Al<|Gm C<|Gm C<|Gr (Cb C C)<|Gm C<|A4 (d:=34) C (λak=>?_)<|λak=>?_)
   ·refine e9 (Bl (vs:=[_,_]) K0) ?_
    refine e9 (Ap C)<|e9 (Ap C)<|Dt (Cm C C C) (Ab c_ C C<|at5 (nd:=nd) (A3 hl) (e_ (nbG nd es u) k) (e_ (nbG nd es v) k2) om) ?_
    rintro _ _ ⟨_,_,⟨y6,rfl,az,rfl⟩,rfl,rfl⟩
    refine e9 (j8.geq C C)<|Gr (B0 C C)<|Ar<|A0 (S13 40 11 1 2 3 7 9 14 15 16 25 26 27 C C C C C C C C C C C C C)<|Ao C (λao=>?_)<|λao=>?_
    ·refine A6 (Gm C<|Gm C<|Gm C<|Gr (Eg (cells:=[_,_]) L9 B7 ef C C)<|Ge1 (B1 (α:=Pt) (cs:=[_,_]) (xs:=[⟨e_ (nbG nd es u) k,e_ (nbG nd es v) k2⟩]) Bw L9 C C dc dc C C C C) λay=>?_)
     refine Ge2 (Bs (α:=Pt) (e:=200) (xs:=q) (ys:=([⟨e_ (nbG nd es u) k,e_ (nbG nd es v) k2⟩]:List Pt)) Bw L9 C C C mm A5 lcn dc C<|λ_ _=>am) λap ai=>?_
     exact Ga C<|Bq<|Au<|Ak<|A0 (S11 7 1 2 3 9 14 15 16 25 26 27)<|A6<|Gr (Rad C C)<|Gm C<|Bq<|Bu ((k2+1),(ap),(ai),(q++([⟨e_ (nbG nd es u) k,e_ (nbG nd es v) k2⟩]:List Pt)))<|by dsimp only;exact ⟨om,(by first|(rw [bq4 om ⟨by assumption,(aw7 hG asm).1 asm⟩,←Fv,←M])|(rw [av2 om (λh=>by first|exact absurd h.1 asm|exact absurd ((aw7 hG asm).2 h.2) asm)];exact M)|(rw [av2 om (λh=>by omega)];exact M)),olp⟩
    exact Bc<|Au<|Ak<|A6<|Gr (Rad C C)<|Gm C<|Bq<|Bu ((k2+1),(qa),(qc),(q))<|by dsimp only;exact ⟨om,(by first|(rw [bq4 om ⟨by assumption,(aw7 hG asm).1 asm⟩,←Fv,←M])|(rw [av2 om (λh=>by first|exact absurd h.1 asm|exact absurd ((aw7 hG asm).2 h.2) asm)];exact M)|(rw [av2 om (λh=>by omega)];exact M)),olp⟩
   exact eb<|eb<|eb<|eb<|eb<|Gr (Bk C C)<|Ar<|A0 (S13 40 11 1 2 3 7 9 14 15 16 25 26 27 C C C C C C C C C C C C C)<|W.no C<|Bc<|Au<|Ak<|A6<|Gr (Rad C C)<|Gm C<|Bq<|Bu ((k2+1),(qa),(qc),(q))<|by dsimp only;exact ⟨om,(by first|(rw [bq4 om ⟨by assumption,(aw7 hG asm).1 asm⟩,←Fv,←M])|(rw [av2 om (λh=>by first|exact absurd h.1 asm|exact absurd ((aw7 hG asm).2 h.2) asm)];exact M)|(rw [av2 om (λh=>by omega)];exact M)),olp⟩
  exact Cg<|Aw<|Aw<|Bi<|Au<|Ak<|A6<|Gr (Rad C C)<|Gm C<|Bq<|Bu ((k+1),(qa),(qc),(q))<|by dsimp only;exact ⟨om,(by rw [cf1 _ _ om,←ho];first|(rw [de3 asm];simp;done)|(rw [M,show k2=(nbG nd es v).length by omega,ck5 asm])),om⟩
 refine Cg<|Aw<|Aw<|Bi<|Ak<|Al<|Gm C<|Ga C<|Ar<|B3 ?_
 have hE:(p7 nd es u v)=o:=by rw [ho,show k=(nbG nd es u).length by omega,Hg];rfl
 exact Am C C (vk 200 oa oc (p7 nd es u v)::I) (by unfold vk;rw [hE];exact Az) ⟨oa,oc,by rw [hE],rfl⟩
end Go.Sl
namespace Go.Sl
open Go.Proofs
set_option maxRecDepth 4000
variable {κ:Ctx}{I:List Item}
attribute [local irreducible] W G V D A j8 Eff
theorem de0{n:Int}(h:0<=n/\n<=100000):0<=n*(n - 1)/\n*(n - 1)<=10000000000:=by
 by_cases h0:n=0
 ·subst h0;simp
 refine ⟨Int.mul_nonneg h.1 om,?_⟩
 have M:=Int.mul_le_mul (a:=n) (b:=n - 1) (c:=100000) (d:=100000) h.2 om om om
 omega
theorem bw7{n:Int}(h:0<=n/\n<=64):0<=prs n/\prs n<=2016:=by
 have M:=de0 (n:=n) ⟨h.1,by omega⟩
 unfold prs
 refine ⟨Int.ediv_nonneg M.1 dc,?_⟩
 by_cases h0:n=0
 ·subst h0;decide
 have M:=Int.mul_le_mul (a:=n) (b:=n - 1) (c:=64) (d:=63) h.2 om om om
 omega
def ds2(nd:Int)(es:List Pt)(k:Nat):Int:=p8 k λw=>prs ((nbG nd es (w:Int)).length:Int)
theorem bo4(nd:Int)(es:List Pt):∀k:Nat,0<=ds2 nd es k/\ds2 nd es k<=2016*(k:Int)
 |0=>by simp [ds2,p8]
 |k+1=>by
  have h1:=bo4 nd es k
  have M:=K1 nd es (k:Int)
  have h3:=bw7 (n:=((nbG nd es (k:Int)).length:Int)) ⟨by omega,by omega⟩
  have e:ds2 nd es (k+1)=ds2 nd es k+prs ((nbG nd es (k:Int)).length:Int):=rfl
  rw [e];omega
theorem cq0(n:Int)(h:0<=n/\n<=100000):eu prog κ 135 [e7 n] I (λr J=>r=e7 (prs n)/\I=J):=by
 have M:=de0 h
 refine Ce1 Tryz.func135 C C<|Z ?_
 exact Gr (En C C<|by unfold InR;omega)<|Gr (j8.quo C C om om<|by unfold InR;omega)<|Ga C<|Ar<|B3<|Am C C I Ah ⟨rfl,rfl⟩
theorem ca2{nd:Int}{va:Value}{es:List Pt}(hl:Sl κ I va es)(ab:0<=nd/\nd<=64):eu prog κ 90 [.agg #[e7 nd,va]] I (λr J=>r=e7 (F8 nd es)/\I=J):=by
 refine Ce1 Tryz.func90 C C ?_
 refine Al<|Ge1 (Av (cs:=[_,_]) C C C) λb1=>Z ?_
 refine Dj (σ:=Nat×Int) (λs=>[(3,e7<|s.2),(7,e7 ((s.1:Nat):Int))]) (λ_=>[]) (λs=>((s.1:Int)<=nd)/\(s.2=ds2 nd es s.1)) (λs=>nd.toNat - s.1) (0,0) ⟨om,rfl⟩ ?_
 rintro ⟨k,q⟩ hp
 dsimp only at hp ⊢
 obtain ⟨hk,hq⟩:=hp
 have ad:=K1 nd es (k:Int)
 have ae:=bo4 nd es k
 have aa:=bw7 (n:=((nbG nd es (k:Int)).length:Int)) ⟨by omega,by omega⟩
 refine Z ?_
 refine Ao C (λc8=>Z ?_)<|λc8=>Z ?_
 ·refine Gc0 (Ab c_ C C<|Z2 (nd:=nd) (A3 hl) (k:Int)) ?_
  refine G.e (Ab c_ C C<|cq0 ((((nbG nd es (k:Int)).length:Nat)):Int) om) ?_
  rintro _ _ ⟨_,_,⟨rfl,rfl⟩,rfl,rfl⟩
  refine Z ?_
  exact Bu ((k+1),(q+(prs ((((nbG nd es (k:Int)).length:Nat)):Int))))<|by dsimp only;exact ⟨om,(by rw [hq];rfl)⟩
 have M:k=nd.toNat:=by omega
 exact Am C C I Ah ⟨by rw [hq,M];rfl,rfl⟩
end Go.Sl
namespace Go.Sl
open Go.RowKit (Below)
section
variable {P:Program}{κ:Ctx}{N:Frm}{Q:Exit->Act->World->Prop}{L:Env}{I J:List Item}
variable {d:Option Tmp}{ty:TypeId}{ps:String}{af:Array Edge}{gd:Option (Nat×Bool)}
theorem j8.cm7{x y:Operand}{T E by':Nat}{z:List Value}{a b c e i:Int}(ht:P.underlying T=some (.array 4 E))(hE:tyF P E=some (1,false,by',z))(hx:er L x=some (.agg #[e7 a,e7 b,e7 c,e7 e]))(hy:er L y=some (e7 i))(h0:0<=i)(h4:i<4) :
  j8 P κ N ⟨d,.index T x y,ty,ps,af,gd⟩ L J (e7<|e_ [a,b,c,e] i):=by
 intro s w M hs
 obtain ⟨j,rfl⟩:∃j:Nat,i=(j:Int):=⟨i.toNat,by omega⟩
 have hj:j=0\/j=1\/j=2\/j=3:=by omega
 rcases hj with rfl|rfl|rfl|rfl<;>simp [execOp,M.eval hx,M.eval hy,Instr.index,asIntOf,run_underlying ht,run_sizeOf hE,part,bc7 hE,e_]
end
end Go.Sl
