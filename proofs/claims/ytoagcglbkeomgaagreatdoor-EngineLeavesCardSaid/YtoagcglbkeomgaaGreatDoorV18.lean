/- A part of the proofs of statements of this seat: contracts of functions, and the plain laws that they lean on. No conditions. -/
import Derived.Test.YtoagcglbkeomgaaGreatDoorV17
set_option linter.unusedVariables false
set_option linter.unusedSimpArgs false
set_option linter.unusedSectionVars false
open Go.Proofs.Tryz (prog)
set_option maxHeartbeats 2000000
namespace Go.Sl
open Go.Proofs
set_option maxRecDepth 4000
variable{k nd u v x:Int}{es:List Pt}{L num out:List Int}{j:Nat}
def NBX(nd:Int)(es:List Pt)(u v x y:Int):Prop:=y∈nbG nd es x\/(x=u/\y=v)\/(x=v/\y=u)
def N2(nd:Int)(es:List Pt)(u v:Int):List (BitVec 64):=List.set (List.set (ek nd es) u.toNat (e_ (ek nd es) u ||| H9 v)) v.toNat (e_ (List.set (ek nd es) u.toNat (e_ (ek nd es) u ||| H9 v)) v ||| H9 u)
theorem de0(M:s6 nd es)(hu:p8 nd u)(hv:p8 nd v)(aa:u≠v){y:Int}(hx:p8 nd x):y∈eo (e_ (N2 nd es u v) x)↔NBX nd es u v x y:=by
 unfold p8 at hu hv hx
 have hl:=M.rows.len
 have hr:=M.rng
 have hb:y∈eo (e_ (ek nd es) x)↔y∈nbG nd es x:=by
  rw [M.rows.mem hx.1 hx.2,ae1 M]
  refine ⟨λh=>h.2,λh=>⟨?_,h⟩⟩
  have:=N3 M ((ae1 M).2 h);omega
 unfold N2 NBX
 rw [Ei _ v x _ hv.1 hx.1 (by rw [Fo];omega)]
 by_cases q1:v=x
 ·rw [B_ q1,ae0 om,Ei _ u v _ hu.1 hv.1 om,An aa,q1,hb]
  constructor
  ·rintro (h|h)
   ·exact .inl h
   exact .inr<|.inr ⟨rfl,h⟩
  rintro (h|h|h)
  ·exact .inl h
  ·omega
  exact .inr h.2
 rw [An q1,Ei _ u x _ hu.1 hx.1 om]
 by_cases q2:u=x
 ·rw [B_ q2,ae0 om,q2,hb]
  constructor
  ·rintro (h|h)
   ·exact .inl h
   exact .inr<|.inl ⟨rfl,h⟩
  rintro (h|h|h)
  ·exact .inl h
  ·exact .inr h.2
  omega
 rw [An q2,hb]
 constructor
 ·exact .inl
 rintro (h|h|h)
 ·exact h
 ·exact absurd h.1.symm q2
 exact absurd h.1.symm q1
structure RgI (NB:Int->Int->Prop) (P:Int->Prop) (L1:List Int) (F:BitVec 64) (sk:List Int):Prop where
 lev:∀x∈eo F,P x
 gf0:∀x∈L1,x∈eo F
 st:∀x∈sk,x∈eo F
 cl:∀x∈eo F,x∈sk\/∀y,NB x y->P y->y∈eo F
section
variable {NB:Int->Int->Prop}{P:Int->Prop}{L1 L2 st:List Int}{F F2:BitVec 64}
theorem RgI.pop(h:RgI NB P L1 F st)(h0:0<st.length)(hL:∀y,y∈L2↔NB (e_ st ((st.length:Int) - 1)) y/\P y/\y∉eo F)(M:∀x,x∈eo F2↔x∈eo F\/x∈L2):RgI NB P L1 F2 (st.take (st.length - 1)++L2):=by
 refine ⟨λx hx=>?_,λx hx=>(M x).2 (.inl<|h.gf0 x hx),λx hx=>?_,λx hx=>?_⟩
 ·rcases (M x).1 hx with hx|hx
  ·exact h.lev x hx
  exact ((hL x).1 hx).2.1
 ·rcases Gt.1 hx with hx|hx
  ·exact (M x).2 (.inl<|h.st x<|Hw hx)
  exact (M x).2 (.inr hx)
 rcases (M x).1 hx with hx|hx
 ·rcases h.cl x hx with hq|hq
  ·by_cases e:x=e_ st ((st.length:Int) - 1)
   ·refine .inr λy hy hP=>?_
    by_cases hyF:y∈eo F
    ·exact (M y).2 (.inl hyF)
    exact (M y).2 (.inr<|(hL y).2 ⟨e▸hy,hP,hyF⟩)
   refine .inl<|Gi _ ?_
   obtain ⟨i,hi,rfl⟩:=Hu hq
   have aa:i≠st.length - 1:=λq=>e (by rw [show ((st.length:Int) - 1)=((st.length - 1:Nat):Int) by omega,Ct st _ om];congr 1)
   rw [Jv]
   exact ⟨i,by rw [Fp];omega,by rw [Kh]⟩
  exact .inr λy hy hP=>(M y).2 (.inl<|hq y hy hP)
 exact .inl<|Lz _ hx
theorem de2(M:∀x,x∈eo F2↔x∈eo F\/x∈L2)(hn:L2.Nodup)(hd:∀x∈L2,x∉eo F):(eo F2).length=(eo F).length+L2.length:=by
 have hp:(eo F2).Perm (eo F++L2):=(Hp (Df _)<|Ms.2 ⟨Df _,hn,λa ha b hb e=>hd b hb<|e▸ha⟩).2 λx=>by rw [M,Gt]
 rw [hp.length_eq,By]
end
theorem df2{F F2:BitVec 64}(M:j<L.length)(hr:∀x∈L,0<=x/\x<64)(h:∀x,x∈eo F2↔x∈eo F\/x∈L.take j):∀x,x∈eo (F2 ||| H9 (e_ L j))↔x∈eo F\/x∈L.take (j+1):=λx=>by
 rw [ae0 (hr _<|Bp om om),h,Ca L j M,Gt,Gc,or_assoc]
theorem cp6{st:List Int}(M:j<L.length)(ho:out=st++L.take j):out++[e_ L j]=st++L.take (j+1):=by rw [ho,Ca L j M,Fr]
theorem cm2(h:0<=k/\k<64):x∈eo (H9 k)↔x=k:=by
 have M:=ae0 (m:=0#64) (u:=x) h
 rw [D4] at M
 have e:(0#64 ||| H9 k)=H9 k:=by simp
 rw [e] at M
 rw [M]
 exact ⟨λh=>h.elim (λh=>by cases h) id,.inr⟩
theorem dv1{NB:Int->Int->Prop}{P:Int->Prop}{L1:List Int}{F:BitVec 64}(hF:∀x,x∈eo F↔x∈eo 0#64\/x∈L1)(ho:out=L1)(hP:∀x∈L1,P x):RgI NB P L1 F out:=by
 have h1:∀x,x∈eo F↔x∈L1:=λx=>by rw [hF,D4];simp
 subst ho
 exact ⟨λx M=>hP x<|(h1 x).1 M,λx M=>(h1 x).2 M,λx M=>(h1 x).2 M,λx M=> .inl<|(h1 x).1 M⟩
structure fs1 (nd:Int) (es:List Pt) (num:List Int) (u v k:Int) (F:BitVec 64):Prop where
 lev:∀x∈eo F,p8 nd x/\e_ num x=k
 hu:e_ num u=k->u∈eo F
 hv:e_ num v=k->v∈eo F
 cl:∀x∈eo F,∀y,NBX nd es u v x y->e_ num y=k->y∈eo F
theorem RgI.reg{F ms:BitVec 64}{st:List Int}(hG:s6 nd es)(hl:(num.length:Int)=nd)(hu:p8 nd u)(hv:p8 nd v)
  (hm:∀x,x∈eo ms↔(0<=x/\x<(num.length:Int))/\e_ num x=k) (h:RgI (NBX nd es u v) (λx:Int=>(0<=x/\x<(num.length:Int))/\e_ num x=k) (eo<|(H9 u ||| H9 v) &&& ms) F st) (hs:st.length=0):fs1 nd es num u v k F:=by
 unfold p8 at hu hv
 have hr:=hG.rng
 obtain rfl:=Kw.1 hs
 refine ⟨λx hx=>?_,λhk=>h.gf0 u ?_,λhk=>h.gf0 v ?_,λx hx y M aa=>?_⟩
 ·have:=h.lev x hx;unfold p8;exact ⟨by omega,this.2⟩
 ·rw [K1,am1,cm2 om,hm];exact ⟨.inl rfl,by omega,hk⟩
 ·rw [K1,am1,cm2 (k:=v) om,hm];exact ⟨.inr rfl,by omega,hk⟩
 refine ((h.cl x hx).resolve_left (by simp)) y M ⟨?_,aa⟩
 rcases M with q|q|q
 ·have:=(N3 hG q).2.1;omega
 ·omega
 omega
theorem cb5{κ:Ctx}{I:List Item}{ea na:Option Addr}{ec nc:Nat}(hl:Sl κ I (.slice ea es.length ec) es)(hm:Sl κ I (.slice na num.length nc) num)(hG:s6 nd es)(ay:(num.length:Int)=nd)(hu:p8 nd u)(hv:p8 nd v)(a0:u≠v)(hT:F4 κ I 0 p6):eu prog κ 270 [.agg #[e7 nd,.slice ea es.length ec,.slice na num.length nc],e7 u,e7 v] I (λr J=>∃F:BitVec 64,r = .tuple #[U64 F,e7 (min (e_ num u) (e_ num v))]/\fs1 nd es num u v (min (e_ num u) (e_ num v)) F/\I=J):=by
 have a9:=hG.rng
 have bj:=hG.rows.len
 have bk:0<=u/\u<nd:=hu
 have bg:0<=v/\v<nd:=hv
 have bi:(N2 nd es u v).length=(ek nd es).length:=by unfold N2;rw [Fo,Fo]
 refine Ce3 Tryz.func270 C C ?_
 refine Ak<|Ge1 (Au (cs:=[_,_,_]) C C C) λb1=>Ga C<|Ga C<|Ar<|Ak<|Gf dk1 C<|Gl2 J8 ?_
 refine G.e (Ac c_ C C<|at7 (nd:=nd)<|A4 hl) ?_
 rintro _ _ ⟨_,_,⟨ad,ab,rfl,rfl⟩,rfl,rfl⟩
 have az:=ad9 nd es
 refine Ga C<|Ar<|Ax<|Ba mixed<|Ee 8<|Dr 0 C (Aq C)<|Dr 1 C (Aq C)<|Dr 2 C (A2 (α:=(BitVec 64)) (xs:=ek nd es) Cq M4 C C A5 (by first|omega|(have h1:=(aa om).1;unfold p8 at h1;omega))<|by first|omega|(simp only [Fo];omega)|(have h1:=(aa om).1;unfold p8 at h1;omega))<|Dr 3 C (Cc (α:=(BitVec 64)) (xs:=ek nd es) (u:=U64 ((e_ (ek nd es) u))) M4 C A5 (by first|omega|(have h1:=(aa om).1;unfold p8 at h1;omega)) (by first|omega|(simp only [Fo];omega)|(have h1:=(aa om).1;unfold p8 at h1;omega)) C)<|Dr 4 C (Aq C)<|Ds1 5<|Se C (Ac c_ C C<|ac5 v) ?_
 rintro _ _ ⟨_,_,⟨rfl,rfl⟩,rfl,rfl⟩
 refine ⟨Ah,?_⟩
 refine Dr 6 C (Ec (a:=(e_ (ek nd es) u)) (b:=H9 v) C C)<|Dr 7 C (A2 (α:=(BitVec 64)) (xs:=ek nd es) Cq M4 C C A5 (by first|omega|(have h1:=(aa om).1;unfold p8 at h1;omega))<|by first|omega|(simp only [Fo];omega)|(have h1:=(aa om).1;unfold p8 at h1;omega))<|Cg kr ?_
 refine Ae 8 C (Cw (α:=(BitVec 64)) (xs:=ek nd es) (e:=207) (new:=(e_ (ek nd es) u) ||| (H9 v)) M4 C C C (by first|omega|(have h1:=(aa om).1;unfold p8 at h1;omega)) (by first|omega|(simp only [Fo];omega)|(have h1:=(aa om).1;unfold p8 at h1;omega)) am) ?_
 rintro _ _ ⟨rfl,rfl⟩
 refine Ch kr ?_
 refine Ao<|A1 (S4 8 3 1 2)<|Ax<|Ba mixed<|Ee 8<|Dr 0 C (Aq C)<|Dr 1 C (Aq C)<|Dr 2 C (A2 (α:=(BitVec 64)) (xs:=List.set (ek nd es) (u).toNat ((e_ (ek nd es) u) ||| (H9 v))) Cq M4 C C A5 (by first|omega|(have h1:=(aa om).1;unfold p8 at h1;omega))<|by first|omega|(simp only [Fo];omega)|(have h1:=(aa om).1;unfold p8 at h1;omega))<|Dr 3 C (Cc (α:=(BitVec 64)) (xs:=List.set (ek nd es) (u).toNat ((e_ (ek nd es) u) ||| (H9 v))) (u:=U64 ((e_ (List.set (ek nd es) (u).toNat ((e_ (ek nd es) u) ||| (H9 v))) v))) M4 C A5 (by first|omega|(have h1:=(aa om).1;unfold p8 at h1;omega)) (by first|omega|(simp only [Fo];omega)|(have h1:=(aa om).1;unfold p8 at h1;omega)) C)<|Dr 4 C (Aq C)<|Ds1 5<|Se C (Ac c_ C C<|ac5 u) ?_
 rintro _ _ ⟨_,_,⟨rfl,rfl⟩,rfl,rfl⟩
 refine ⟨Ah,?_⟩
 refine Dr 6 C (Ec (a:=(e_ (List.set (ek nd es) (u).toNat ((e_ (ek nd es) u) ||| (H9 v))) v)) (b:=H9 u) C C)<|Dr 7 C (A2 (α:=(BitVec 64)) (xs:=List.set (ek nd es) (u).toNat ((e_ (ek nd es) u) ||| (H9 v))) Cq M4 C C A5 (by first|omega|(have h1:=(aa om).1;unfold p8 at h1;omega))<|by first|omega|(simp only [Fo];omega)|(have h1:=(aa om).1;unfold p8 at h1;omega))<|Cg kr ?_
 refine Ae 8 C (Cw (α:=(BitVec 64)) (xs:=List.set (ek nd es) (u).toNat ((e_ (ek nd es) u) ||| (H9 v))) (e:=207) (new:=(e_ (List.set (ek nd es) (u).toNat ((e_ (ek nd es) u) ||| (H9 v))) v) ||| (H9 u)) M4 C C C (by first|omega|(have h1:=(aa om).1;unfold p8 at h1;omega)) (by first|omega|(simp only [Fo];omega)|(have h1:=(aa om).1;unfold p8 at h1;omega)) am) ?_
 rintro _ _ ⟨rfl,rfl⟩
 refine Ch kr ?_
 refine Ao<|Ax<|Ba mixed<|Ee 12<|Dr 0 C (Af ao5 C)<|Dr 1 C (Bd U1) ?_
 refine Dr 2 C (Aq C)<|Dr 3 C (A2 (α:=Int) (xs:=num) Ab ef C C (A4 hm) (by first|omega|(have h1:=(aa om).1;unfold p8 at h1;omega))<|by first|omega|(simp only [Fo];omega)|(have h1:=(aa om).1;unfold p8 at h1;omega))<|Dr 4 C (B6 (xs:=num) ef C (A4 hm) (by first|omega|(have h1:=(aa om).1;unfold p8 at h1;omega))<|by first|omega|(simp only [Fo];omega)|(have h1:=(aa om).1;unfold p8 at h1;omega))<|Dr 5 C (Af ao5 C)<|Dr 6 C (Bd U1) ?_
 refine Dr 7 C (Aq C)<|Dr 8 C (A2 (α:=Int) (xs:=num) Ab ef C C (A4 hm) (by first|omega|(have h1:=(aa om).1;unfold p8 at h1;omega))<|by first|omega|(simp only [Fo];omega)|(have h1:=(aa om).1;unfold p8 at h1;omega))<|Dr 9 C (B6 (xs:=num) ef C (A4 hm) (by first|omega|(have h1:=(aa om).1;unfold p8 at h1;omega))<|by first|omega|(simp only [Fo];omega)|(have h1:=(aa om).1;unfold p8 at h1;omega))<|Dr 10 C (j8.min C C)<|Dr 11 C (Bh C)<|Dz<|Ao<|A1 (S5 9 8 3 1 2)<|Ak<|Gf ao5 C<|Dq (J:=vc 207 (.slice ad (ek nd es).length ab) ((N2 nd es u v))::e8 b1 [e7 nd,.slice ea es.length ec,.slice na num.length nc] 40::I) (Dd _) ?_
 have a6:(if (e_ num v)<(e_ num u) then (e_ num v) else (e_ num u))=(min (e_ num u)<|e_ num v):=fz6 _ _
 rw [a6]
 refine Gl U1 ?_
 refine Gm C<|G.e (Ac c_ C C<|cq7 (num:=num) (lv:=(min (e_ num u)<|e_ num v)) (A4 hm) om) ?_
 rintro _ _ ⟨_,_,⟨M,rfl,ah,rfl⟩,rfl,rfl⟩
 refine Ga C<|Ar<|Ak<|Ga C<|Ar<|Ak<|Gm C<|Gr (Bk Cq C)<|Ge2 (Eff.gg0 (α:=Int) (n:=(ek nd es).length) Ab ef C C C om om om C) λa1 a5=>?_
 refine Ga C<|Ar<|A1 (S7 12 11 10 9 8 1 2)<|Ax<|Ak<|Gm C<|G.e (Ac c_ C C<|ac5 u) ?_
 rintro _ _ ⟨_,_,⟨rfl,rfl⟩,rfl,rfl⟩
 refine Gm C<|G.e (Ac c_ C C<|ac5 v) ?_
 rintro _ _ ⟨_,_,⟨rfl,rfl⟩,rfl,rfl⟩
 refine Gr (Ec (a:=H9 u) (b:=H9 v) C C)<|Gm C<|Gr (Eh (a:=(H9 u) ||| (H9 v)) (b:=M) C C)<|Gc2 (Ac c_ C C<|ac3 (((H9 u) ||| (H9 v)) &&& M)<|A8 hT Ah) λae ai=>?_
 refine Gr (Bk Ab C)<|Gm C<|Ar<|A1 (S8 64 63 62 12 11 10 9 8)<|A7<|B9 (σ:=Nat×(BitVec 64)×(Option Addr)×Nat×(List Int)) (λs=>([(8,.slice ad (ek nd es).length ab),(9,e7<|(min (e_ num u)<|e_ num v)),(10,U64 M),(11,U64<|s.2.1),(12,.slice s.2.2.1 s.2.2.2.2.length s.2.2.2.1),(62,.slice ae (eo<|((H9 u) ||| (H9 v)) &&& M).length ai),(63,e7<|(((eo<|((H9 u) ||| (H9 v)) &&& M).length:Nat):Int)),(64,e7 ((s.1:Nat):Int))]:Env)) (λs=>vk 3 ae ai (eo<|((H9 u) ||| (H9 v)) &&& M)::vk 3 s.2.2.1 s.2.2.2.1 s.2.2.2.2::vc 207 (.slice ad (ek nd es).length ab) ((N2 nd es u v))::e8 b1 [e7 nd,.slice ea es.length ec,.slice na num.length nc] 40::I) (λs=>(s.1<=(eo<|(H9 u ||| H9 v) &&& M).length)/\(∀x,x∈eo s.2.1↔x∈eo 0#64\/x∈(eo<|(H9 u ||| H9 v) &&& M).take s.1)/\(s.2.2.2.2=[]++(eo<|(H9 u ||| H9 v) &&& M).take s.1)) (λs=>(eo<|(H9 u ||| H9 v) &&& M).length - s.1) (0,0#64,a1,a5,[]) ⟨om,(λx=>by rw [Js];simp),rfl⟩ (cx2<|Aa C<|Aa (Db C<|by first|rfl|simp)<|Aa (Db C<|by first|rfl|simp)<|cx2<|Aa Co Bb) Ai ?_
 rintro ⟨k,F,a,c,out⟩ hp
 dsimp only at hp ⊢
 obtain ⟨hk,hF,ho⟩:=hp
 have be:out.length=k:=by rw [ho,Km,Fp];omega
 have bm:=Es ((H9 u ||| H9 v) &&& M)
 refine Ak<|Gr (Bl C C)<|Ar<|Ax<|Am C (λa7=>?_)<|λa7=>?_
 ·refine Bc (Ao<|Ax<|A7<|Ak<|Gr (A2 (α:=Int) (xs:=eo (((H9 u) ||| (H9 v)) &&& M)) Ab ef C C A5 (by first|omega|(have h1:=(aa om).1;unfold p8 at h1;omega))<|by first|omega|(simp only [Fo];omega)|(have h1:=(aa om).1;unfold p8 at h1;omega))<|Gr (B6 (xs:=eo (((H9 u) ||| (H9 v)) &&& M)) ef C A5 (by first|omega|(have h1:=(aa om).1;unfold p8 at h1;omega))<|by first|omega|(simp only [Fo];omega)|(have h1:=(aa om).1;unfold p8 at h1;omega))<|Ga C<|Ar<|Ak<|Gm C<|Gm C<|G.e (Ac c_ C C<|ac5<|e_ (eo<|((H9 u) ||| (H9 v)) &&& M) (k:Int)) ?_)
  rintro _ _ ⟨_,_,⟨rfl,rfl⟩,rfl,rfl⟩
  refine Gr (Ec (a:=F) (b:=H9 (e_ (eo<|((H9 u) ||| (H9 v)) &&& M) (k:Int))) C C)<|Ga C<|Ar<|A1 (S9 11 14 8 9 10 12 62 63 64)<|A6<|Gm C<|Gm C<|Ge1 (B2 (α:=Int) (cs:=[_]) (xs:=[e_ (eo<|((H9 u) ||| (H9 v)) &&& M) (k:Int)]) Ab ef C C dc dc C C C C) λbf=>?_
  refine Ge2 (Br (α:=Int) (e:=3) (xs:=out) (ys:=([e_ (eo<|((H9 u) ||| (H9 v)) &&& M) (k:Int)]:List Int)) Ab ef C C C mm A5 lcn dc C<|λ_ _=>am) λax aq=>?_
  exact Ga C<|Bq<|Av<|Ao<|A1 (S8 12 11 8 9 10 62 63 64)<|A6<|Gr (Rad C C)<|Gm C<|Bq<|Bt ((k+1),(F ||| (H9<|e_ (eo<|((H9 u) ||| (H9 v)) &&& M) (k:Int))),(ax),(aq),(out++([e_ (eo<|((H9 u) ||| (H9 v)) &&& M) (k:Int)]:List Int)))<|by dsimp only;exact ⟨om,(df2 om (λx hx=>En hx) hF),(cp6 om ho)⟩
 refine Ci<|Aw<|Aw<|Bi<|Ao<|Ax<|A7<|B9 (σ:=(BitVec 64)×(Option Addr)×Nat×(List Int)) (λs=>([(8,.slice ad (ek nd es).length ab),(9,e7<|(min (e_ num u)<|e_ num v)),(10,U64 M),(11,U64<|s.1),(12,.slice s.2.1 s.2.2.2.length s.2.2.1)]:Env)) (λs=>vk 3 ae ai (eo<|((H9 u) ||| (H9 v)) &&& M)::vk 3 s.2.1 s.2.2.1 s.2.2.2::vc 207 (.slice ad (ek nd es).length ab) ((N2 nd es u v))::e8 b1 [e7 nd,.slice ea es.length ec,.slice na num.length nc] 40::I) (λs=>(RgI (NBX nd es u v) (λx:Int=>(0<=x/\x<(num.length:Int))/\e_ num x=(min (e_ num u)<|e_ num v)) (eo<|(H9 u ||| H9 v) &&& M) s.1 s.2.2.2)/\(s.2.2.2.length<=(eo s.1).length)) (λs=>2*(64 - (eo s.1).length)+s.2.2.2.length) (F,a,c,out) (show (RgI (NBX nd es u v) (λx:Int=>(0<=x/\x<(num.length:Int))/\e_ num x=(min (e_ num u)<|e_ num v)) (eo<|(H9 u ||| H9 v) &&& M) (F:BitVec 64) (out:List Int))/\((out:List Int).length<=(eo (F:BitVec 64)).length) from ⟨(dv1 (by rw [Fv om] at hF;exact hF) (by rw [ho,Km,Fv om])<|λx hx=>(ah x).1 (K1.1 hx).2),(by have h2:=de2 (F:=0#64) (F2:=F) (L2:=(eo<|(H9 u ||| H9 v) &&& M)) (by rw [Fv om] at hF;exact hF) (Df _) (λx _=>by rw [D4];simp);rw [D4] at h2;simp only [Fu] at h2;omega)⟩) (cx2<|Aa C<|Aa (Db C<|by first|rfl|simp)<|Aa (Db C<|by first|rfl|simp) Bb) Ai ?_
 rintro ⟨F,a,c,sk⟩ hp
 dsimp only at hp ⊢
 obtain ⟨hR,bc⟩:=hp
 have bh:=Es F
 have aa:=λh:0<sk.length=>hR.lev _ (hR.st _<|Bp (xs:=sk) (i:=(sk.length:Int) - 1) om om)
 refine Ax<|Ak<|Gm C<|Gr (Bk Ab C)<|Gr (Ed C C)<|Ar<|Am C (λa4=>?_)<|λa4=>?_
 ·refine Bc (Ao<|A7<|Ak<|Gm C<|Gm C<|Gr (Bk Ab C)<|Gr (Rsu C C)<|Gr (A2 (α:=Int) (xs:=sk) Ab ef C C A5 (by first|omega|(have h1:=(aa om).1;unfold p8 at h1;omega))<|by first|omega|(simp only [Fo];omega)|(have h1:=(aa om).1;unfold p8 at h1;omega))<|Gr (B6 (xs:=sk) ef C A5 (by first|omega|(have h1:=(aa om).1;unfold p8 at h1;omega))<|by first|omega|(simp only [Fo];omega)|(have h1:=(aa om).1;unfold p8 at h1;omega))<|Ga C<|Ar<|A1 (S6 15 8 9 10 11 12)<|Ak<|Gm C<|Gm C<|Gr (Bk Ab C)<|Gr (Rsu C C)<|Gm C<|Gr (j8.caps Ab C)<|Gr (j8.gg9 (α:=Int) (xs:=sk) (h:=sk.length - 1) Ab ef C C C om A5 om om)<|Ga C<|Dq (J:=vk 3 a c (List.take (sk.length - 1) sk)::vk 3 ae ai (eo<|((H9 u) ||| (H9 v)) &&& M)::vc 207 (.slice ad (ek nd es).length ab) ((N2 nd es u v))::e8 b1 [e7 nd,.slice ea es.length ec,.slice na num.length nc] 40::I) (A9 Az<|Fit.fw3 (α:=Int) C) ?_)
  refine Ar<|A1 (S6 12 15 8 9 10 11)<|Ak<|Gm C<|Gm C<|Gr (A2 (α:=(BitVec 64)) (xs:=(N2 nd es u v)) Cq M4 C C A5 (by first|omega|(have h1:=(aa om).1;unfold p8 at h1;omega))<|by first|omega|(simp only [Fo];omega)|(have h1:=(aa om).1;unfold p8 at h1;omega))<|Gr (Cc (α:=(BitVec 64)) (xs:=(N2 nd es u v)) (u:=U64 ((e_ (N2 nd es u v)<|e_ sk<|((sk.length:Nat):Int) - 1))) M4 C A5 (by first|omega|(have h1:=(aa om).1;unfold p8 at h1;omega)) (by first|omega|(simp only [Fo];omega)|(have h1:=(aa om).1;unfold p8 at h1;omega)) C)<|Gm C<|Gr (Eh (a:=(e_ (N2 nd es u v)<|e_ sk<|((sk.length:Nat):Int) - 1)) (b:=M) C C)<|Gm C<|Gr (Ey (a:=(e_ (N2 nd es u v)<|e_ sk<|((sk.length:Nat):Int) - 1) &&& M) (b:=F) C C)<|Gc2 (Ac c_ C C<|ac3 (((e_ (N2 nd es u v)<|e_ sk<|((sk.length:Nat):Int) - 1) &&& M) &&& ~~~F)<|A8 hT Ah) λap ao=>?_
  refine Gr (Bk Ab C)<|Gm C<|Ar<|A1 (S8 103 102 101 12 8 9 10 11)<|A7<|B9 (σ:=Nat×(BitVec 64)×(Option Addr)×Nat×(List Int)) (λs=>([(8,.slice ad (ek nd es).length ab),(9,e7<|(min (e_ num u)<|e_ num v)),(10,U64 M),(11,U64<|s.2.1),(12,.slice s.2.2.1 s.2.2.2.2.length s.2.2.2.1),(101,.slice ap (eo<|((e_ (N2 nd es u v)<|e_ sk<|((sk.length:Nat):Int) - 1) &&& M) &&& ~~~F).length ao),(102,e7<|(((eo<|((e_ (N2 nd es u v)<|e_ sk<|((sk.length:Nat):Int) - 1) &&& M) &&& ~~~F).length:Nat):Int)),(103,e7 ((s.1:Nat):Int))]:Env)) (λs=>vk 3 ap ao (eo<|((e_ (N2 nd es u v)<|e_ sk<|((sk.length:Nat):Int) - 1) &&& M) &&& ~~~F)::vk 3 s.2.2.1 s.2.2.2.1 s.2.2.2.2::vk 3 ae ai (eo<|((H9 u) ||| (H9 v)) &&& M)::vc 207 (.slice ad (ek nd es).length ab) ((N2 nd es u v))::e8 b1 [e7 nd,.slice ea es.length ec,.slice na num.length nc] 40::I) (λs=>(s.1<=(eo<|((e_ (N2 nd es u v)<|e_ sk<|((sk.length:Nat):Int) - 1) &&& M) &&& ~~~F).length)/\(∀x,x∈eo s.2.1↔x∈eo F\/x∈(eo<|((e_ (N2 nd es u v)<|e_ sk<|((sk.length:Nat):Int) - 1) &&& M) &&& ~~~F).take s.1)/\(s.2.2.2.2=List.take (sk.length - 1) sk++(eo<|((e_ (N2 nd es u v)<|e_ sk<|((sk.length:Nat):Int) - 1) &&& M) &&& ~~~F).take s.1)) (λs=>(eo<|((e_ (N2 nd es u v)<|e_ sk<|((sk.length:Nat):Int) - 1) &&& M) &&& ~~~F).length - s.1) (0,F,a,c,(List.take (sk.length - 1) sk)) ⟨om,(λx=>by rw [Js];simp),(by rw [Js,Gq])⟩ (cx2<|Aa C<|Aa (Db C<|by first|rfl|simp)<|Aa (Db C<|by first|rfl|simp)<|cx2<|Aa Co Bb) Ai ?_
  rintro ⟨j,F3,a3,c3,o3⟩ hp
  dsimp only at hp ⊢
  obtain ⟨hj,an,aj⟩:=hp
  have a8:o3.length=sk.length - 1+j:=by rw [aj,By,Fp,Fp];omega
  have bb:=Es ((((e_ (N2 nd es u v)<|e_ sk<|((sk.length:Nat):Int) - 1) &&& M) &&& ~~~F))
  have aw:∀y,y∈eo (((e_ (N2 nd es u v)<|e_ sk<|((sk.length:Nat):Int) - 1) &&& M) &&& ~~~F)↔NBX nd es u v (e_ sk<|(sk.length:Int) - 1) y/\((0<=y/\y<(num.length:Int))/\e_ num y=(min (e_ num u)<|e_ num v))/\y∉eo F:=λy=>by rw [N0,K1,de0 hG hu hv a0<|by have:=(aa om).1;unfold p8;omega,ah y,and_assoc]
  have ak:j=(eo<|((e_ (N2 nd es u v)<|e_ sk<|((sk.length:Nat):Int) - 1) &&& M) &&& ~~~F).length->(∀x,x∈eo F3↔x∈eo F\/x∈eo (((e_ (N2 nd es u v)<|e_ sk<|((sk.length:Nat):Int) - 1) &&& M) &&& ~~~F))/\(eo F3).length=(eo F).length+(eo<|((e_ (N2 nd es u v)<|e_ sk<|((sk.length:Nat):Int) - 1) &&& M) &&& ~~~F).length/\o3=List.take (sk.length - 1) sk++eo (((e_ (N2 nd es u v)<|e_ sk<|((sk.length:Nat):Int) - 1) &&& M) &&& ~~~F):=λe=>by rw [Fv (l:=eo (((e_ (N2 nd es u v)<|e_ sk<|((sk.length:Nat):Int) - 1) &&& M) &&& ~~~F)) (i:=j) om] at an aj;exact ⟨an,de2 an (Df _)<|λx hx=>((aw x).1 hx).2.2,aj⟩
  refine Ak<|Gr (Bl C C)<|Ar<|Ax<|Am C (λar=>?_)<|λar=>?_
  ·refine Bc (Ao<|Ax<|A7<|Ak<|Gr (A2 (α:=Int) (xs:=eo (((e_ (N2 nd es u v)<|e_ sk<|((sk.length:Nat):Int) - 1) &&& M) &&& ~~~F)) Ab ef C C A5 (by first|omega|(have h1:=(aa om).1;unfold p8 at h1;omega))<|by first|omega|(simp only [Fo];omega)|(have h1:=(aa om).1;unfold p8 at h1;omega))<|Gr (B6 (xs:=eo (((e_ (N2 nd es u v)<|e_ sk<|((sk.length:Nat):Int) - 1) &&& M) &&& ~~~F)) ef C A5 (by first|omega|(have h1:=(aa om).1;unfold p8 at h1;omega))<|by first|omega|(simp only [Fo];omega)|(have h1:=(aa om).1;unfold p8 at h1;omega))<|Ga C<|Ar<|Ak<|Gm C<|Gm C<|G.e (Ac c_ C C<|ac5<|e_ (eo<|((e_ (N2 nd es u v)<|e_ sk<|((sk.length:Nat):Int) - 1) &&& M) &&& ~~~F) (j:Int)) ?_)
   rintro _ _ ⟨_,_,⟨rfl,rfl⟩,rfl,rfl⟩
   refine Gr (Ec (a:=F3) (b:=H9 (e_ (eo<|((e_ (N2 nd es u v)<|e_ sk<|((sk.length:Nat):Int) - 1) &&& M) &&& ~~~F) (j:Int))) C C)<|Ga C<|Ar<|A1 (S9 11 17 8 9 10 12 101 102 103)<|A6<|Gm C<|Gm C<|Ge1 (B2 (α:=Int) (cs:=[_]) (xs:=[e_ (eo<|((e_ (N2 nd es u v)<|e_ sk<|((sk.length:Nat):Int) - 1) &&& M) &&& ~~~F) (j:Int)]) Ab ef C C dc dc C C C C) λba=>?_
   refine Ge2 (Br (α:=Int) (e:=3) (xs:=o3) (ys:=([e_ (eo<|((e_ (N2 nd es u v)<|e_ sk<|((sk.length:Nat):Int) - 1) &&& M) &&& ~~~F) (j:Int)]:List Int)) Ab ef C C C mm A5 lcn dc C<|λ_ _=>am) λav au=>?_
   exact Ga C<|Bq<|Av<|Ao<|A1 (S8 12 11 8 9 10 101 102 103)<|A6<|Gr (Rad C C)<|Gm C<|Bq<|Bt ((j+1),(F3 ||| (H9<|e_ (eo<|((e_ (N2 nd es u v)<|e_ sk<|((sk.length:Nat):Int) - 1) &&& M) &&& ~~~F) (j:Int))),(av),(au),(o3++([e_ (eo<|((e_ (N2 nd es u v)<|e_ sk<|((sk.length:Nat):Int) - 1) &&& M) &&& ~~~F) (j:Int)]:List Int)))<|by dsimp only;exact ⟨om,(df2 om (λx hx=>En hx) an),(cp6 om aj)⟩
  exact Ci<|Aw<|Aw<|Bi<|Av<|Bt ((F3),(a3),(c3),(o3)) (by dsimp only;exact ⟨(by rw [(ak om).2.2];exact hR.pop om aw (ak om).1),(by have h4:=(ak om).2.1;omega)⟩) (hlt:=by (try dsimp only);exact (by have h4:=(ak om).2.1;have h5:=Es F3;omega))
 exact Ci<|Aw<|Aw<|Bi<|Ao<|Ak<|Gm C<|Gm C<|Ga C<|Ga C<|Ar<|B3<|C3 C C C I Ah ⟨F,rfl,hR.reg hG ay hu hv ah om,rfl⟩
end Go.Sl
namespace Go.Sl
variable {P:Program}{κ:Ctx}{N:Frm}{L:Env}{I:List Item}
end Go.Sl
namespace Go.Sl
open Go.Proofs
set_option maxRecDepth 4000
end Go.Sl
namespace Go.Sl
open Go.Proofs
set_option maxRecDepth 4000
variable{M ea ga na:Option Addr}{c0 ec gc nc:Nat}
attribute [local irreducible] W G V D A j8 Eff
section
variable {nd u v k:Int}{es es':List Pt}{F A S B C:BitVec 64}
theorem bg7(M:s6 nd es):∀x∈j9 nd es,0<=x/\x<=1000:=λx hx=>by
 obtain ⟨i,hi,rfl⟩:=aw0 hx
 have h1:=G0 M
 have h2:=T6 M (u:=(i:Int)) om om
 have:=M.rng
 omega
theorem fs1.rng(hG:s6 nd es){num:List Int}(h:fs1 nd es num u v k F):∀x∈eo F,0<=x/\x<nd:=λx M=>(h.lev x M).1
theorem dy5(h:R5 nd es es' u v)(hk:k=min (e_ (j9 nd es) u) (e_ (j9 nd es) v))(hR:fs1 nd es (j9 nd es) u v k F)(hA:∀x,x∈eo A↔(0<=x/\x<((j9 nd es).length:Int))/\k<e_ (j9 nd es) x)
  (hS:fu7 (ek nd es') F A (k+1) S):(eo S).foldl (Y0 1) (j9 nd es)=j9 nd es':=by
 have h1:=G0 h.ok
 have h2:∀x∈eo S,0<=x/\x<((j9 nd es).length:Int):=λx M=>by rw [h1];exact hR.rng h.ok x (hS.sub x M)
 refine bz7 h.ok' (by rw [J3];exact h1) λx M=>?_
 rw [ac8 _ _ h2 _ M.1,M1<|Df _,Int.one_mul]
 exact (cv0 h hk ⟨hR.lev,hR.hu,hR.hv,λx M y hy hk=>hR.cl x M y ((h.nb x y).1 hy) hk⟩ (λx=>by rw [hA,h1];exact Iff.rfl) hS M).symm
theorem dk7(hG:s6 nd es')(hR:fs1 nd es' (j9 nd es') u v k F)(M:∀x,x∈eo B↔(0<=x/\x<((j9 nd es').length:Int))/\k<e_ (j9 nd es') x)
  (hC:∀x,x∈eo C↔(0<=x/\x<((j9 nd es').length:Int))/\e_ (j9 nd es') x=k) (x:Int):x∈eo (B ||| (C &&& ~~~F))↔p8 nd x/\k<=e_ (j9 nd es') x/\x∉eo F:=by
 have h1:=G0 hG
 rw [am1,N0,M,hC,h1]
 unfold p8
 constructor
 ·rintro (⟨a,b⟩|⟨⟨a,b⟩,c⟩)
  ·exact ⟨a,by omega,λq=>by have:=(hR.lev x q).2;omega⟩
  exact ⟨a,by omega,c⟩
 rintro ⟨a,b,c⟩
 by_cases e:e_ (j9 nd es') x=k
 ·exact .inr ⟨⟨a,e⟩,c⟩
 exact .inl ⟨a,by omega⟩
theorem fa0(h:R5 nd es es' u v)(hk:k=min (e_ (j9 nd es') u) (e_ (j9 nd es') v))(hR:fs1 nd es' (j9 nd es') u v k F)(hA:∀x,x∈eo A↔p8 nd x/\k<=e_ (j9 nd es') x/\x∉eo F)
  (hS:fu7 (ek nd es) F A k S):(eo<|F &&& ~~~S).foldl (Y0<|-1) (j9 nd es')=j9 nd es:=by
 have h1:=G0 h.ok'
 have h2:∀x∈eo (F &&& ~~~S),0<=x/\x<((j9 nd es').length:Int):=λx M=>by rw [h1];exact hR.rng h.ok' x (N0.1 M).1
 refine bz7 h.ok (by rw [J3];exact h1) λx M=>?_
 rw [ac8 _ _ h2 _ M.1,M1<|Df _]
 have h3:=dm4 h hk ⟨hR.lev,hR.hu,hR.hv,λx M y hy hk=>hR.cl x M y (.inl hy) hk⟩ hA hS M
 by_cases e:x∈eo (F &&& ~~~S)
 ·rw [B_ e];rw [B_ (N0.1 e)] at h3;omega
 rw [An e];rw [An (λq=>e<|N0.2 q)] at h3;omega
end
theorem ta8{p:Prop}(h:p:=by unfold p8;omega):p:=h
theorem fs3{κ:Ctx}{I:List Item}{nd u v:Int}{es es':List Pt}(hl:Sl κ I (.slice ea es.length ec) es)(hm:Sl κ I (.slice na (j9 nd es).length nc) (j9 nd es))(hg:Sl κ I (.slice ga es'.length gc) es')(h:R5 nd es es' u v)(hT:F4 κ I 0 p6):eu prog κ 262 [.agg #[e7 nd,.slice ea es.length ec,.slice na (j9 nd es).length nc],.agg #[e7 nd,.slice ga es'.length gc],e7 u,e7 v] I (λr J=>∃(a:Option Addr) (c:Nat) (w:Value),r = .tuple #[.agg #[e7 nd,.slice ga es'.length gc,.slice a (j9 nd es').length c],w]/\J=vk 3 a c (j9 nd es')::I):=by
 have ad:=h.ok'
 have hG:=h.ok
 have a0:(ek nd es').length=nd:=ad.rows.len
 have au:(ek nd es).length=nd:=hG.rows.len
 have ar:=hG.rng
 have ao:=h.ends
 unfold F5 at ao
 have az:=G0 hG
 have aw:=G0 ad
 have ay:=T6 hG (u:=u) om om
 have a1:=T6 hG (u:=v) om om
 refine Ce4 Tryz.func262 C C ?_
 refine Ak<|Ge1 (Au (cs:=[_,_,_]) C C C) λb1=>Ge1 (Au (cs:=[_,_]) C C C) λb2=>Ge1 (Aj ab7 C) λb3=>Z ?_
 refine G.e (Ac c_ C C<|cb5 (nd:=nd) (u:=u) (v:=v) (A4 hl) (A4 hm) hG om ta8 ta8 om<|A8 hT Ah) ?_
 rintro _ _ ⟨_,_,⟨an,rfl,M,rfl⟩,rfl,rfl⟩
 refine Z ?_
 refine Ba mixed<|Ee 15<|Z ?_
 refine Ds1 3<|Se C (Ac c_ C C<|at7 (nd:=nd)<|A4 hg) ?_
 rintro _ _ ⟨_,_,⟨a3,ax,rfl,rfl⟩,rfl,rfl⟩
 refine ⟨Ah,?_⟩
 have ak:=ad9 nd es'
 refine Ds1 8<|Se C (Ac c_ C C<|cr3 (num:=j9 nd es) (lv:=min (e_ (j9 nd es) u) (e_ (j9 nd es) v)) (A4 hm) om) ?_
 rintro _ _ ⟨_,_,⟨ap,rfl,aj,rfl⟩,rfl,rfl⟩
 refine ⟨Ah,?_⟩
 refine Ds1 11<|Se C (Ac c_ C C<|cb1 (rows:=ek nd es') (F:=an) (A:=ap) (k:=(min (e_ (j9 nd es) u)<|e_ (j9 nd es) v)+1) A5 om (λx hx=>by have h9:=(M.lev x hx).1;unfold p8 at h9;omega)<|A8 hT Ah) ?_
 rintro _ _ ⟨_,_,⟨ai,rfl,ab,rfl⟩,rfl,rfl⟩
 refine ⟨Ah,?_⟩
 refine Ds1 12<|Se C (Ac c_ C C<|cq3 (nd:=nd) (nd':=nd) (b':=1) (va:= .slice ea es.length ec) (ga:=ga) (gn:=es'.length) (gc:=gc) (S:=ai) (A4 hm) (λx hx=>by have h9:=(M.lev x<|ab.sub x hx).1;unfold p8 at h9;omega) (bg7 hG) dc om<|A8 hT Ah) ?_
 rintro _ _ ⟨_,_,⟨ae,aa,av,aq,rfl,rfl⟩,rfl,rfl⟩
 refine ⟨Ah,?_⟩
 refine Z ?_
 refine Cg kr ?_
 refine Ae 15 C (Da ab7) ?_
 rintro _ _ ⟨rfl,rfl⟩
 refine Dg (i:=16) kr C (Ap C) C C (Bh C) ?_
 refine Ch kr<|Z ?_
 have hE:(eo ai).foldl (Y0 1) (j9 nd es)=j9 nd es':=dy5 h rfl M aj ab
 have ah:(j9 nd es).length=(j9 nd es').length:=by have h1:=G0 h.ok;have h2:=G0 h.ok';omega
 exact Cp C ab7 C C mm C (vk 3 ae aa (j9 nd es')::I) (by unfold vk;rw [←hE,hE,←ah,←hE];exact Az) ⟨ae,aa,_,by rw [←ah],rfl⟩
theorem fs2{κ:Ctx}{I:List Item}{nd u v:Int}{es es':List Pt}(hl:Sl κ I (.slice ea es'.length ec) es')(hm:Sl κ I (.slice na (j9 nd es').length nc) (j9 nd es'))(hg:Sl κ I (.slice ga es.length gc) es)(h:R5 nd es es' u v)(hT:F4 κ I 0 p6):eu prog κ 264 [.agg #[e7 nd,.slice ea es'.length ec,.slice na (j9 nd es').length nc],.agg #[e7 nd,.slice ga es.length gc],e7 u,e7 v] I (λr J=>∃(a:Option Addr) (c:Nat) (w:Value),r = .tuple #[.agg #[e7 nd,.slice ga es.length gc,.slice a (j9 nd es).length c],w]/\J=vk 3 a c (j9 nd es)::I):=by
 have aa:=h.ok'
 have hG:=h.ok
 have a1:(ek nd es').length=nd:=aa.rows.len
 have av:(ek nd es).length=nd:=hG.rows.len
 have au:=hG.rng
 have ar:=h.ends
 unfold F5 at ar
 have a0:=G0 hG
 have ay:=G0 aa
 have az:=T6 aa (u:=u) om om
 have a3:=T6 aa (u:=v) om om
 refine Ce4 Tryz.func264 C C ?_
 refine Ak<|Ge1 (Au (cs:=[_,_,_]) C C C) λb1=>Ge1 (Au (cs:=[_,_]) C C C) λb2=>Ge1 (Aj ab7 C) λb3=>Z ?_
 refine G.e (Ac c_ C C<|cb5 (nd:=nd) (u:=u) (v:=v) (A4 hl) (A4 hm) aa om ta8 ta8 om<|A8 hT Ah) ?_
 rintro _ _ ⟨_,_,⟨M,rfl,ab,rfl⟩,rfl,rfl⟩
 refine Z ?_
 refine Ba mixed<|Ee 17<|Z ?_
 refine Ds1 1<|Se C (Ac c_ C C<|at7 (nd:=nd)<|A4 hg) ?_
 rintro _ _ ⟨_,_,⟨a4,a5,rfl,rfl⟩,rfl,rfl⟩
 refine ⟨Ah,?_⟩
 have aq:=ad9 nd es
 refine Ds1 6<|Se C (Ac c_ C C<|cr3 (num:=j9 nd es') (lv:=min (e_ (j9 nd es') u) (e_ (j9 nd es') v)) (A4 hm) om) ?_
 rintro _ _ ⟨_,_,⟨an,rfl,ap,rfl⟩,rfl,rfl⟩
 refine ⟨Ah,?_⟩
 refine Ds1 10<|Se C (Ac c_ C C<|cq7 (num:=j9 nd es') (lv:=min (e_ (j9 nd es') u) (e_ (j9 nd es') v)) (A4 hm) om) ?_
 rintro _ _ ⟨_,_,⟨ah,rfl,aj,rfl⟩,rfl,rfl⟩
 refine ⟨Ah,?_⟩
 refine Dr 12 C (Ey (a:=ah) (b:=M) C C)<|Dr 13 C (Ec (a:=an) (b:=ah &&& ~~~M) C C)<|Ds1 15<|Se C (Ac c_ C C<|cb1 (rows:=ek nd es) (F:=M) (A:=an ||| (ah &&& ~~~M)) (k:=min (e_ (j9 nd es') u) (e_ (j9 nd es') v)) A5 om (λx hx=>by have h9:=(ab.lev x hx).1;unfold p8 at h9;omega)<|A8 hT Ah) ?_
 rintro _ _ ⟨_,_,⟨ai,rfl,ak,rfl⟩,rfl,rfl⟩
 refine ⟨Ah,?_⟩
 refine Z ?_
 refine Gr (Ey (a:=M) (b:=ai) C C)<|G.e (Ac c_ C C<|cq3 (nd:=nd) (nd':=nd) (b':= -1) (va:= .slice ea es'.length ec) (ga:=ga) (gn:=es.length) (gc:=gc) (S:=M &&& ~~~ai) (A4 hm) (λx hx=>by have h9:=(ab.lev x (N0.1 hx).1).1;unfold p8 at h9;omega) (bg7 aa) dc om<|A8 hT Ah) ?_
 rintro _ _ ⟨_,_,⟨ae,ad,ax,aw,rfl,rfl⟩,rfl,rfl⟩
 refine Z ?_
 refine Ge0 (Da ab7)<|Z ?_
 have hE:(eo<|M &&& ~~~ai).foldl (Y0<|-1) (j9 nd es')=j9 nd es:=fa0 h rfl ab (λx=>dk7 aa ab ap aj x) ak
 have ao:(j9 nd es').length=(j9 nd es).length:=by have h1:=G0 h.ok;have h2:=G0 h.ok';omega
 exact Cp C ab7 C C mm C (vk 3 ae ad (j9 nd es)::I) (by unfold vk;rw [←hE,hE,←ao,←hE];exact Az) ⟨ae,ad,_,by rw [←ao],rfl⟩
variable {κ:Ctx}{I:List Item}
theorem add_zero{nd:Int}{es:List Pt}{u v:Int}(M:s6 nd es)(he:F5 nd u v)(hn:j4 u v∉es):db0 nd es u v=0:=by
 have h1:=ac2.2 ⟨M,he⟩
 unfold db0;rw [An om,An hn]
theorem ba0{nd:Int}{es:List Pt}{u v:Int}(M:s6 nd es)(he:F5 nd u v)(hn:j4 u v∈es):da8 nd es u v=0:=by
 have h1:=ac2.2 ⟨M,he⟩
 unfold da8;rw [An om,B_ hn]
theorem bb6{nd:Int}{es:List Pt}(hl:Sl κ I (.slice M es.length c0) es){u v:Int}(hz:db0 nd es u v=0)(hb:es.length<=10000000):eu prog κ 261 [.agg #[e7 nd,.slice M es.length c0],e7 u,e7 v] I λr J=>∃a c,r = .tuple #[.agg #[e7 nd,.slice a (z7 Pt.lt es (j4 u v)).length c],e7 0]/\J=vk 105 a c (z7 Pt.lt es (j4 u v))::I:=
 (ft7 hl u v hb).mono λr J h=>by
  rcases h with h|⟨a,c,_,h1,h2⟩
  ·exact absurd hz h.1
  exact ⟨a,c,h1,h2⟩
theorem bb4{nd:Int}{es:List Pt}(hl:Sl κ I (.slice M es.length c0) es){u v:Int}(hz:da8 nd es u v=0)(hb:es.length<=10000000):eu prog κ 263 [.agg #[e7 nd,.slice M es.length c0],e7 u,e7 v] I λr J=>∃a c,r = .tuple #[.agg #[e7 nd,.slice a (j7 es (j4 u v)).length c],e7 0]/\J=vk 105 a c (j7 es (j4 u v))::I:=
 (fs0 hl u v hb).mono λr J h=>by
  rcases h with h|⟨a,c,_,h1,h2⟩
  ·exact absurd hz h.1
  exact ⟨a,c,h1,h2⟩
theorem cr0{va vb:Value}{xs ys:List Int}(hl:Sl κ I va xs)(hm:Sl κ I vb ys):eu prog κ 266 [va,vb] I (λr J=>r = .bool (decide (xs=ys))/\I=J):=by
 refine Bv hl.le λae=>?_
 refine Bv hm.le λab=>?_
 refine Ce2 Tryz.func266 C C<|Z ?_
 refine Am C (λc10=>Z ?_)<|λc10=>Z ?_
 ·have M:xs≠ys:=λe=>by subst e;omega
  exact Al C C I Ah ⟨by rw [D_ M],rfl⟩
 refine Dh (σ:=Nat) (λs=>[(13,e7 ((s:Nat):Int))]) (λ_=>[]) (λs=>(s<=xs.length)/\(∀j:Nat,j<s->e_ xs j=e_ ys j)) (λs=>xs.length - s) 0 ⟨om,(λj h=>by omega)⟩ ?_
 rintro k hp
 obtain ⟨hk,hn⟩:=hp
 refine Z ?_
 refine Am C (λad=>Z ?_)<|λad=>Z ?_
 ·refine Ba mixed (Bx I 9<|Z ?_)
  refine Am C (λaa=>Z ?_)<|λaa=>Z ?_
  ·have M:xs≠ys:=λe=>by subst e;exact aa rfl
   exact Al C C I Ah ⟨by rw [D_ M],rfl⟩
  exact Bt ((k+1)) ⟨om,(λj h=>by by_cases e:j=k;(· subst e;exact Ft.1 aa);(· exact hn j om))⟩
 have he:xs=ys:=Mc om λi h1 h2=>by have:=hn i om;rwa [Ct xs i h1,Ct ys i h2] at this
 exact Al C C I Ah ⟨by rw [As he],rfl⟩
theorem dp6{nd:Int}{es:List Pt}(hl:Sl κ I (.slice ea es.length ec) es)(hm:Sl κ I (.slice na (j9 nd es).length nc) (j9 nd es))(hG:s6 nd es)(hT:F4 κ I 0 p6):eu prog κ 259 [.agg #[e7 nd,.slice ea es.length ec,.slice na (j9 nd es).length nc]] I (λr J=>r = .bool true/\I=J):=by
 have M:=s4.2 hG
 refine Ce1 Tryz.func259 C C ?_
 refine Ak<|Ge1 (Au (cs:=[_,_,_]) C C C) λb1=>Z ?_
 refine Gc2 (Ac c_ C C<|bi7 (nd:=nd) (A4 hl)<|A8 hT Ah) λad ab=>Z ?_
 refine A3 (d:=13) C (λaa=>Z ?_)<|λaa=>Z ?_
 ·refine Ds (Cn C C C) (Ac c_ C C<|cr0 (xs:=j9 nd es) (ys:=j9 nd es) A5<|A4 hm) ?_
  rintro _ _ ⟨_,_,⟨rfl,rfl⟩,rfl,rfl⟩
  refine Z ?_
  exact Al C C I Ah ⟨by first|rfl|(simp;done)|exact absurd M asm,rfl⟩
 exact Al C C I Ah ⟨by first|rfl|(simp;done)|exact absurd M asm,rfl⟩
theorem cb6{nd:Int}{M:Nat}{es:List Pt}(hl:Sl κ I (.slice ea es.length ec) es)(hm:Sl κ I (.slice na (j9 nd es).length M) (j9 nd es))(hG:s6 nd es){u v:Int}(he:F5 nd u v)(hT:F4 κ I 0 p6):eu prog κ 260 [.agg #[e7 nd,.slice ea es.length ec,.slice na (j9 nd es).length M],e7 u,e7 v] I (λr J=>r=e7 0/\I=J):=by
 refine Ce3 Tryz.func260 C C ?_
 refine Ak<|Ge1 (Au (cs:=[_,_,_]) C C C) λb1=>Z ?_
 refine Gc0 (Ac c_ C C<|dp6 (nd:=nd) (A4 hl) (A4 hm) hG<|A8 hT Ah)<|Z ?_
 refine Gc0 (Ac c_ C C<|ci5 nd u v)<|Z ?_
 refine Am C (λc11=>Z ?_)<|λc11=>Z ?_
 ·exact Al C C I Ah ⟨by first|rfl|exact absurd he asm,rfl⟩
 exact Al C C I Ah ⟨by first|rfl|exact absurd he asm,rfl⟩
theorem cx7{nd:Int}{es:List Pt}(hl:Sl κ I (.slice ea es.length ec) es)(hm:Sl κ I (.slice na (j9 nd es).length nc) (j9 nd es))(hG:s6 nd es){u v:Int}(he:F5 nd u v)(hn:j4 u v∉es)(hT:F4 κ I 0 p6):eu prog κ 256 [.agg #[e7 nd,.slice ea es.length ec,.slice na (j9 nd es).length nc],e7 u,e7 v] I (λr J=>∃(ga:Option Addr) (gc:Nat) (a:Option Addr) (c:Nat) (w:Value),r = .tuple #[.agg #[e7 nd,.slice ga (z7 Pt.lt es (j4 u v)).length gc,.slice a (j9 nd (z7 Pt.lt es (j4 u v))).length c],w,e7 0]/\J=vk 3 a c (j9 nd (z7 Pt.lt es (j4 u v)))::vk 105 ga gc (z7 Pt.lt es (j4 u v))::I):=by
 refine Ce3 Tryz.func256 C C ?_
 refine Ak<|Ge1 (Au (cs:=[_,_,_]) C C C) λb1=>Ge1 (Aj ab7 C) λb2=>Z ?_
 refine Gc0 (Ac c_ C C<|cb6 (nd:=nd) (u:=u) (v:=v) (A4 hl) (A4 hm) hG he<|A8 hT Ah)<|Z ?_
 refine Am C (λae=>Z ?_)<|λae=>Z ?_
 ·refine Ge0 (Da ab7) (Z ?_)
  exact absurd rfl asm
 refine G.e (Ac c_ C C<|bb6 (nd:=nd) (u:=u) (v:=v) (A4 hl) (add_zero hG he hn)<|by have:=q9 hG;omega) ?_
 rintro _ _ ⟨_,_,⟨ad,ab,rfl,rfl⟩,rfl,rfl⟩
 refine Z ?_
 refine Ge1 (Aj J8 C) λb5=>Ge0 (Cs J8)<|Z ?_
 refine Am C (λah=>Z ?_)<|λah=>Z ?_
 ·refine Ge0 (Da ab7) (Z ?_)
  exact absurd rfl asm
 refine G.e (Ac c_ C C<|fs3 (nd:=nd) (u:=u) (v:=v) (A4 hl) (A4 hm) A5 (R5.add hG he hn)<|A8 hT Ah) ?_
 rintro _ _ ⟨_,_,⟨M,aa,w8,rfl,rfl⟩,rfl,rfl⟩
 refine Z ?_
 refine Ge1 (Aj ab7 C) λb9=>Ge0 (Da ab7)<|Z ?_
 refine Ge0 (Da ab7)<|Z ?_
 exact Cu C ab7 C C C mm C (vk 3 M aa (j9 nd<|z7 Pt.lt es<|j4 u v)::vk 105 ad ab (z7 Pt.lt es<|j4 u v)::I) Az ⟨ad,ab,M,aa,_,rfl,rfl⟩
theorem cx8{nd:Int}{es:List Pt}(hl:Sl κ I (.slice ea es.length ec) es)(hm:Sl κ I (.slice na (j9 nd es).length nc) (j9 nd es))(hG:s6 nd es){u v:Int}(he:F5 nd u v)(hn:j4 u v∈es)(hT:F4 κ I 0 p6):eu prog κ 257 [.agg #[e7 nd,.slice ea es.length ec,.slice na (j9 nd es).length nc],e7 u,e7 v] I (λr J=>∃(ga:Option Addr) (gc:Nat) (a:Option Addr) (c:Nat) (w:Value),r = .tuple #[.agg #[e7 nd,.slice ga (j7 es (j4 u v)).length gc,.slice a (j9 nd (j7 es (j4 u v))).length c],w,e7 0]/\J=vk 3 a c (j9 nd (j7 es (j4 u v)))::vk 105 ga gc (j7 es (j4 u v))::I):=by
 refine Ce3 Tryz.func257 C C ?_
 refine Ak<|Ge1 (Au (cs:=[_,_,_]) C C C) λb1=>Ge1 (Aj ab7 C) λb2=>Z ?_
 refine Gc0 (Ac c_ C C<|cb6 (nd:=nd) (u:=u) (v:=v) (A4 hl) (A4 hm) hG he<|A8 hT Ah)<|Z ?_
 refine Am C (λae=>Z ?_)<|λae=>Z ?_
 ·refine Ge0 (Da ab7) (Z ?_)
  exact absurd rfl asm
 refine Gc2 (Ac c_ C C<|bb4 (nd:=nd) (u:=u) (v:=v) (A4 hl) (ba0 hG he hn)<|by have:=q9 hG;omega) λad ab=>Z ?_
 refine Ge1 (Aj J8 C) λb5=>Ge0 (Cs J8)<|Z ?_
 refine Am C (λah=>Z ?_)<|λah=>Z ?_
 ·refine Ge0 (Da ab7) (Z ?_)
  exact absurd rfl asm
 refine G.e (Ac c_ C C<|fs2 (nd:=nd) (u:=u) (v:=v) (A4 hl) (A4 hm) A5 (R5.rem hG he hn)<|A8 hT Ah) ?_
 rintro _ _ ⟨_,_,⟨M,aa,w8,rfl,rfl⟩,rfl,rfl⟩
 refine Z ?_
 refine Ge1 (Aj ab7 C) λb9=>Ge0 (Da ab7)<|Z ?_
 refine Ge0 (Da ab7)<|Z ?_
 exact Cu C ab7 C C C mm C (vk 3 M aa (j9 nd<|j7 es<|j4 u v)::vk 105 ad ab (j7 es<|j4 u v)::I) Az ⟨ad,ab,M,aa,_,rfl,rfl⟩
end Go.Sl
namespace Go.Sl
open Go.Proofs
set_option maxRecDepth 4000
variable{a y:Int}{k:Nat}
section
variable {nd u v:Int}{es:List Pt}
theorem fn9(M:s6 nd es){x:Int}:y∈nbG nd es x↔j4 x y∈es:=by
 rw [ae1 M]
 constructor
 ·rintro (h|h)
  ·have:=(M.Z1 _ h).2.1
   simp only at this
   have e:j4 x y=⟨x,y⟩:=by unfold j4;rw [An om,B_ this]
   rw [e];exact h
  have:=(M.Z1 _ h).2.1
  simp only at this
  have e:j4 x y=⟨y,x⟩:=by unfold j4;rw [B_ this,An om]
  rw [e];exact h
 intro h
 have hlt:=(M.Z1 _ h).2.1
 rcases Lx x y with h1|h1|h1
 ·have e:j4 x y=⟨x,y⟩:=by unfold j4;rw [An om,B_ h1]
  exact .inl<|e▸h
 ·subst h1;unfold j4 at hlt;simp at hlt
 have e:j4 x y=⟨y,x⟩:=by unfold j4;rw [B_ h1,An om]
 exact .inr<|e▸h
theorem aw8(M:s6 nd es){b:Int}(h:au1 nd es a b y):0<=y↔b∈nbG nd es a:=by
 rw [fn9 M]
 rcases h with ⟨_,j,rfl,hj,e⟩|⟨rfl,h|h⟩
 ·exact ⟨λ_=>e▸Bp om om,λ_=>by omega⟩
 ·exact absurd (s4.2 M) h
 exact ⟨λh=>by omega,λh2=>absurd h2 h⟩
theorem cf5{α β:Type}[Inhabited α](f:α->List β)(xs:List α)(M:k<xs.length):(xs.take (k+1)).flatMap f=(xs.take k).flatMap f++f (e_ xs k):=by
 rw [Ca xs k M,List.flatMap_append];simp
def de9(nd:Int)(es:List Pt)(u v a:Int)(k:Nat):List Pt:=(((nbG nd es v).take k).filter λb=>decide (b≠u/\b∈nbG nd es a)).map λb=>(⟨a,b⟩:Pt)
theorem bq9(M:k<(nbG nd es v).length)(h:e_ (nbG nd es v) k≠u/\e_ (nbG nd es v) k∈nbG nd es a):de9 nd es u v a (k+1)=de9 nd es u v a k++[(⟨a,e_ (nbG nd es v) k⟩:Pt)]:=by
 unfold de9
 rw [Ca _ k M,Gj,Hj,B_<|As h,Hr];rfl
theorem av6(M:k<(nbG nd es v).length)(h:¬(e_ (nbG nd es v) k≠u/\e_ (nbG nd es v) k∈nbG nd es a)):de9 nd es u v a (k+1)=de9 nd es u v a k:=by
 unfold de9
 rw [Ca _ k M,Gj,Hj,An<|λq=>h<|Fq q];simp
theorem ck5(h:a≠v):de9 nd es u v a (nbG nd es v).length=bd6 nd es u v a:=by
 unfold de9 bd6
 rw [Hb,An h]
theorem df0(h:a=v):bd6 nd es u v a=[]:=by unfold bd6;rw [B_ h]
end
theorem fs5{κ:Ctx}{I:List Item}{nd u v:Int}{va:Value}{es:List Pt}(hl:Sl κ I va es)(hG:s6 nd es)(hT:F4 κ I 0 p6):eu prog κ 308 [.agg #[e7 nd,va],e7 u,e7 v] I (λr J=>∃a c,r = .slice a (p7 nd es u v).length c/\J=vk 200 a c (p7 nd es u v)::I):=by
 have ax:=q9 hG
 refine Ce3 Tryz.func308 C C ?_
 refine Ak<|Ge1 (Au (cs:=[_,_]) C C C) λb1=>Ga C<|Ar<|Ak<|Ga C<|Ar<|Ax<|Ak<|Gl2 J8 ?_
 refine Gm C<|Gc2 (Ac c_ C C<|bi0 (nd:=nd) (A4 hl) u<|A8 hT Ah) λab aa=>?_
 refine Gr (Bk Ab C)<|Gm C<|Ar<|A7<|B9 (σ:=Nat×(Option Addr)×Nat×(List Pt)) (λs=>([(1,e7 u),(2,e7 v),(3,pt b1),(7,.slice s.2.1 s.2.2.2.length s.2.2.1),(14,.slice ab (nbG nd es u).length aa),(15,e7<|(((nbG nd es u).length:Nat):Int)),(16,e7 ((s.1:Nat):Int))]:Env)) (λs=>vk 200 s.2.1 s.2.2.1 s.2.2.2::vk 3 ab aa (nbG nd es u)::e8 b1 [e7 nd,va] 38::I) (λs=>(s.1<=(nbG nd es u).length)/\(s.2.2.2=((nbG nd es u).take s.1).flatMap (bd6 nd es u v))/\(s.2.2.2.length<=64*s.1)) (λs=>(nbG nd es u).length - s.1) (0,none,0,[]) ⟨om,rfl,(by simp)⟩ (cx2<|Aa C<|Aa (Db C<|by first|rfl|simp)<|cx2<|Aa Co Bb) (A9 (show Fit κ _ _ from Az)<|B7 (α:=Pt) _ _) ?_
 rintro ⟨k,oa,oc,o⟩ hp
 dsimp only at hp ⊢
 obtain ⟨hk,ho,av⟩:=hp
 have aw:=J9 nd es u
 have aq:=J9 nd es v
 refine Ak<|Gr (Bl C C)<|Ar<|Ax<|Am C (λai=>?_)<|λai=>?_
 ·refine Bc (Ao<|Ax<|A7<|Ak<|Gr (A2 (α:=Int) (xs:=nbG nd es u) Ab ef C C A5 om om)<|Gr (B6 (xs:=nbG nd es u) ef C A5 om om)<|Ga C<|Ar<|Ax<|Ak<|Gm C<|Gm C<|Gr (Cx C C)<|Ar<|A1 (S9 22 9 1 2 3 7 14 15 16)<|Am C (λap=>?_)<|λap=>?_)
  ·exact Ci<|Aw<|Bi<|Ao<|A6<|Gr (Rad C C)<|Gm C<|Bq<|Bt ((k+1),(oa),(oc),(o))<|by dsimp only;exact ⟨om,(by rw [cf5 _ _ om,←ho];first|(rw [df0 asm];simp;done)|(rw [M,show k2=(nbG nd es v).length by omega,ck5 asm])),om⟩
  refine Bc<|Ao<|Ak<|Gl2 J8 ?_
  refine Gm C<|Gc2 (Ac c_ C C<|bi0 (nd:=nd) (A4 hl) v<|A8 hT Ah) λae ad=>?_
  refine Gr (Bk Ab C)<|Gm C<|Ar<|A1 (S11 27 26 25 9 1 2 3 7 14 15 16)<|A7<|B9 (σ:=Nat×(Option Addr)×Nat×(List Pt)) (λs=>([(1,e7 u),(2,e7 v),(3,pt b1),(7,.slice s.2.1 s.2.2.2.length s.2.2.1),(9,e7<|e_ (nbG nd es u) k),(14,.slice ab (nbG nd es u).length aa),(15,e7<|(((nbG nd es u).length:Nat):Int)),(16,e7<|(k:Int)),(25,.slice ae (nbG nd es v).length ad),(26,e7<|(((nbG nd es v).length:Nat):Int)),(27,e7 ((s.1:Nat):Int))]:Env)) (λs=>vk 3 ae ad (nbG nd es v)::vk 200 s.2.1 s.2.2.1 s.2.2.2::vk 3 ab aa (nbG nd es u)::e8 b1 [e7 nd,va] 38::I) (λs=>(s.1<=(nbG nd es v).length)/\(s.2.2.2=o++de9 nd es u v (e_ (nbG nd es u) k) s.1)/\(s.2.2.2.length<=o.length+s.1)) (λs=>(nbG nd es v).length - s.1) (0,oa,oc,o) (show ((0:Nat)<=(nbG nd es v).length)/\((o:List Pt)=o++de9 nd es u v (e_ (nbG nd es u) k) (0:Nat))/\((o:List Pt).length<=o.length+(0:Nat)) from ⟨om,(by unfold de9;simp),om⟩) (cx2<|Aa C<|Aa (Db C<|by first|rfl|simp)<|cx4<|cx2<|Aa Co Bb) Ai ?_
  rintro ⟨k2,qa,qc,q⟩ hp
  dsimp only at hp ⊢
  obtain ⟨au,M,ay⟩:=hp
  refine Ak<|Gr (Bl C C)<|Ar<|Ax<|Am C (λak=>?_)<|λak=>?_
  ·refine Bc (Ao<|Ax<|A7<|Ak<|Gr (A2 (α:=Int) (xs:=nbG nd es v) Ab ef C C A5 om om)<|Gr (B6 (xs:=nbG nd es v) ef C A5 om om)<|Ga C<|Ar<|A1 (S12 11 1 2 3 7 9 14 15 16 25 26 27 C C C C C C C C C C C C)<|Ak<|Gm C<|Gm C<|Gr (Cb C C)<|Gm C<|A3 (d:=34) C (λao=>?_)<|λao=>?_)
   ·refine e9 (Bm (vs:=[_,_]) J8) ?_
    refine e9 (Aq C)<|e9 (Aq C)<|Ds (Cn C C C) (Ac c_ C C<|au2 (nd:=nd) (A4 hl) (e_ (nbG nd es u) k) (e_ (nbG nd es v) k2) om) ?_
    rintro _ _ ⟨_,_,⟨y6,rfl,az,rfl⟩,rfl,rfl⟩
    refine e9 (j8.geq C C)<|Gr (Bz C C)<|Ar<|A1 (S13 40 11 1 2 3 7 9 14 15 16 25 26 27)<|Am C (λah=>?_)<|λah=>?_
    ·refine A6 (Gm C<|Gm C<|Gm C<|Gr (Eg (cells:=[_,_]) L8 B8 ef C C)<|Ge1 (B2 (α:=Pt) (cs:=[_,_]) (xs:=[⟨e_ (nbG nd es u) k,e_ (nbG nd es v) k2⟩]) Bw L8 C C dc dc C C C C) λar=>?_)
     refine Ge2 (Br (α:=Pt) (e:=200) (xs:=q) (ys:=([⟨e_ (nbG nd es u) k,e_ (nbG nd es v) k2⟩]:List Pt)) Bw L8 C C C mm A5 lcn dc C<|λ_ _=>am) λan aj=>?_
     exact Ga C<|Bq<|Av<|Ao<|A1 (S11 7 1 2 3 9 14 15 16 25 26 27)<|A6<|Gr (Rad C C)<|Gm C<|Bq<|Bt ((k2+1),(an),(aj),(q++([⟨e_ (nbG nd es u) k,e_ (nbG nd es v) k2⟩]:List Pt)))<|by dsimp only;exact ⟨om,(by first|(rw [bq9 om ⟨by assumption,(aw8 hG asm).1 asm⟩,←Fr,←M])|(rw [av6 om (λh=>by first|exact absurd h.1 asm|exact absurd ((aw8 hG asm).2 h.2) asm)];exact M)|(rw [av6 om (λh=>by omega)];exact M)),olp⟩
    exact Bc<|Av<|Ao<|A6<|Gr (Rad C C)<|Gm C<|Bq<|Bt ((k2+1),(qa),(qc),(q))<|by dsimp only;exact ⟨om,(by first|(rw [bq9 om ⟨by assumption,(aw8 hG asm).1 asm⟩,←Fr,←M])|(rw [av6 om (λh=>by first|exact absurd h.1 asm|exact absurd ((aw8 hG asm).2 h.2) asm)];exact M)|(rw [av6 om (λh=>by omega)];exact M)),olp⟩
   exact eb<|eb<|eb<|eb<|eb<|Gr (Bo C C)<|Ar<|A1 (S13 40 11 1 2 3 7 9 14 15 16 25 26 27)<|W.no C<|Bc<|Av<|Ao<|A6<|Gr (Rad C C)<|Gm C<|Bq<|Bt ((k2+1),(qa),(qc),(q))<|by dsimp only;exact ⟨om,(by first|(rw [bq9 om ⟨by assumption,(aw8 hG asm).1 asm⟩,←Fr,←M])|(rw [av6 om (λh=>by first|exact absurd h.1 asm|exact absurd ((aw8 hG asm).2 h.2) asm)];exact M)|(rw [av6 om (λh=>by omega)];exact M)),olp⟩
  exact Ci<|Aw<|Aw<|Bi<|Av<|Ao<|A6<|Gr (Rad C C)<|Gm C<|Bq<|Bt ((k+1),(qa),(qc),(q))<|by dsimp only;exact ⟨om,(by rw [cf5 _ _ om,←ho];first|(rw [df0 asm];simp;done)|(rw [M,show k2=(nbG nd es v).length by omega,ck5 asm])),om⟩
 refine Ci<|Aw<|Aw<|Bi<|Ao<|Ak<|Gm C<|Ga C<|Ar<|B3 ?_
 have hE:(p7 nd es u v)=o:=by rw [ho,show k=(nbG nd es u).length by omega,Hb];rfl
 exact Al C C (vk 200 oa oc (p7 nd es u v)::I) (by unfold vk;rw [hE];exact Az) ⟨oa,oc,by rw [hE],rfl⟩
end Go.Sl
namespace Go.Sl
open Go.Proofs
set_option maxRecDepth 4000
variable {κ:Ctx}{I:List Item}
attribute [local irreducible] W G V D A j8 Eff
theorem de7{n:Int}(h:0<=n/\n<=100000):0<=n*(n - 1)/\n*(n - 1)<=10000000000:=by
 by_cases h0:n=0
 ·subst h0;simp
 refine ⟨Int.mul_nonneg h.1 om,?_⟩
 have M:=Int.mul_le_mul (a:=n) (b:=n - 1) (c:=100000) (d:=100000) h.2 om om om
 omega
theorem bx2{n:Int}(h:0<=n/\n<=64):0<=prs n/\prs n<=2016:=by
 have M:=de7 (n:=n) ⟨h.1,by omega⟩
 unfold prs
 refine ⟨Int.ediv_nonneg M.1 dc,?_⟩
 by_cases h0:n=0
 ·subst h0;decide
 have M:=Int.mul_le_mul (a:=n) (b:=n - 1) (c:=64) (d:=63) h.2 om om om
 omega
def dt2(nd:Int)(es:List Pt)(k:Nat):Int:=p9 k λw=>prs ((nbG nd es (w:Int)).length:Int)
theorem bo9(nd:Int)(es:List Pt):∀k:Nat,0<=dt2 nd es k/\dt2 nd es k<=2016*(k:Int)
 |0=>by simp [dt2,p9]
 |k+1=>by
  have h1:=bo9 nd es k
  have h2:=J9 nd es (k:Int)
  have M:=bx2 (n:=((nbG nd es (k:Int)).length:Int)) ⟨by omega,by omega⟩
  have e:dt2 nd es (k+1)=dt2 nd es k+prs ((nbG nd es (k:Int)).length:Int):=rfl
  rw [e];omega
theorem cq1(n:Int)(h:0<=n/\n<=100000):eu prog κ 135 [e7 n] I (λr J=>r=e7 (prs n)/\I=J):=by
 have M:=de7 h
 refine Ce1 Tryz.func135 C C<|Z ?_
 exact Gr (Eo C C<|by unfold InR;omega)<|Gr (j8.quo C C om om<|by unfold InR;omega)<|Ga C<|Ar<|B3<|Al C C I Ah ⟨rfl,rfl⟩
theorem ca7{nd:Int}{va:Value}{es:List Pt}(hl:Sl κ I va es)(ae:0<=nd/\nd<=64):eu prog κ 90 [.agg #[e7 nd,va]] I (λr J=>r=e7 (F8 nd es)/\I=J):=by
 refine Ce1 Tryz.func90 C C ?_
 refine Ak<|Ge1 (Au (cs:=[_,_]) C C C) λb1=>Z ?_
 refine Dh (σ:=Nat×Int) (λs=>[(3,e7<|s.2),(7,e7 ((s.1:Nat):Int))]) (λ_=>[]) (λs=>((s.1:Int)<=nd)/\(s.2=dt2 nd es s.1)) (λs=>nd.toNat - s.1) (0,0) ⟨om,rfl⟩ ?_
 rintro ⟨k,q⟩ hp
 dsimp only at hp ⊢
 obtain ⟨hk,hq⟩:=hp
 have ab:=J9 nd es (k:Int)
 have ad:=bo9 nd es k
 have aa:=bx2 (n:=((nbG nd es (k:Int)).length:Int)) ⟨by omega,by omega⟩
 refine Z ?_
 refine Am C (λc8=>Z ?_)<|λc8=>Z ?_
 ·refine Gc0 (Ac c_ C C<|Z5 (nd:=nd) (A4 hl) (k:Int)) ?_
  refine G.e (Ac c_ C C<|cq1 ((((nbG nd es (k:Int)).length:Nat)):Int) om) ?_
  rintro _ _ ⟨_,_,⟨rfl,rfl⟩,rfl,rfl⟩
  refine Z ?_
  exact Bt ((k+1),(q+(prs ((((nbG nd es (k:Int)).length:Nat)):Int))))<|by dsimp only;exact ⟨om,(by rw [hq];rfl)⟩
 have M:k=nd.toNat:=by omega
 exact Al C C I Ah ⟨by rw [hq,M];rfl,rfl⟩
end Go.Sl
namespace Go.Sl
open Go.RowKit (Below)
section
variable {P:Program}{κ:Ctx}{N:Frm}{Q:Exit->Act->World->Prop}{L:Env}{I J:List Item}
variable {d:Option Tmp}{ty:TypeId}{ps:String}{af:Array Edge}{gd:Option (Nat×Bool)}
theorem j8.cm8{x y:Operand}{T E by':Nat}{z:List Value}{a b c e i:Int}(ht:P.underlying T=some (.array 4 E))(M:tyF P E=some (1,false,by',z))(hx:er L x=some (.agg #[e7 a,e7 b,e7 c,e7 e]))(hy:er L y=some (e7 i))(h0:0<=i)(h4:i<4) :
  j8 P κ N ⟨d,.index T x y,ty,ps,af,gd⟩ L J (e7<|e_ [a,b,c,e] i):=by
 intro s w ha hs
 obtain ⟨j,rfl⟩:∃j:Nat,i=(j:Int):=⟨i.toNat,by omega⟩
 have hj:j=0\/j=1\/j=2\/j=3:=by omega
 rcases hj with rfl|rfl|rfl|rfl<;>simp [execOp,ha.eval hx,ha.eval hy,Instr.index,asIntOf,run_underlying ht,run_sizeOf M,part,bd0 M,e_]
end
end Go.Sl
