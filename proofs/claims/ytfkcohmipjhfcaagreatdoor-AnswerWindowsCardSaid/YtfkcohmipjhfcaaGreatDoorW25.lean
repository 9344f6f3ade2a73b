/- A part of the proofs of statements of this seat: contracts of functions, and the plain laws that they lean on. No conditions. -/
import Derived.Test.YtfkcohmipjhfcaaGreatDoorW24
import Derived.ProofKit
import Derived.OpenShut
import Derived.ChangeOld
import Derived.Below
import Derived.SizedLaws
import Derived.JoinedOf
import Derived.Deep.Slices
import Derived.Deep.Fields
set_option linter.unusedVariables false
set_option linter.unusedSimpArgs false
set_option linter.unusedSectionVars false
namespace Go.Sl
open Go.Proofs
set_option maxRecDepth 4000
variable {κ:Ctx}{I:List Item}
theorem eqt117:EqT Tryz.prog 117 Pt:=EqT.flat (λp:Pt=>[p.u,p.v]) (λ_=>rfl) (λx y h=>by cases x;cases y;simpa using h) (n:=2) (λ_=>rfl) kr kr kr kr kr
theorem list_eqP{xs ys:List Pt}(hl:xs.length=ys.length)(h:∀j:Nat,j<xs.length->e_ xs j=e_ ys j):xs=ys:=by
 refine List.ext_getElem hl λi h1 h2=>?_
 have:=h i h1
 rwa [Db xs i h1,Db ys i h2] at this
def alikeP(A B:AnV):Prop:=A.fd=B.fd/\A.num=B.num/\A.tm=B.tm/\cmpL A.S B.S=0/\(⟨A.dn,A.dd⟩:Fr)=⟨B.dn,B.dd⟩/\A.P=B.P
instance (A B:AnV):Decidable (alikeP A B):=inferInstanceAs (Decidable (_/\_))
theorem SameSp_ok{va vb:Value}{xs ys:List Pt}(hl:Sl κ I va xs)(hm:Sl κ I vb ys):eu Tryz.prog κ 54 [va,vb] I (λr J=>r = .bool (decide (xs=ys))/\I=J):=by
 refine Cg hl.le λhmax=>?_
 refine Cg hm.le λhmax2=>?_
 refine Ce2 Tryz.func54 C C ?_
 refine Aj (Ga C (Ah (Au (Aj (Gm C (Gr (Cb (α:=Pt) (xs:=xs) Cl C (Bj hl)) (Gm C (Gr (Cb (α:=Pt) (xs:=ys) Cl C (Bj hm)) (Gr (Bx C C) (Ah (Bd C (λc10=>?_) (λc10=>?_))))))))))))
 ·refine Aj (Ga C (Ah (Az (Ar ?_))))
  have hne:xs≠ys:=λe=>by subst e;omega
  exact Ba C C I Ay ⟨by rw [decide_eq_false hne],rfl⟩
 ·refine A4 (Ai (Au (Aj (Ga C (Ah (A6 (Ca (σ:=Nat) (λs=>([(0,va),(1,vb),(5,e7 ((s:Nat):Int))]:Env)) (λs=>I) (λs=>(s<=xs.length)/\(∀j:Nat,j<s->e_ xs j=e_ ys j)) (λs=>xs.length - s) 0 ⟨om,(λj h=>by omega)⟩ (Aa C (Aa C (Aa Cr Bq))) (show Fit κ _ I from A5) ?_)))))))
  rintro k hp
  obtain ⟨hk,hn⟩:=hp
  refine Au (Aj (Gm C (Gm C (Gr (Cb (α:=Pt) (xs:=xs) Cl C (Bj hl)) (Gr (Bi C C) (Ah (Bd C (λc14=>?_) (λc14=>?_))))))))
  ·refine A4 (Ai (Au (A6 (Au (Bt mixed (C9 I 9 (Dr 0 C (Af C) (Dr 1 C (Af C) (Dr 2 C (A2 (α:=Pt) (xs:=xs) Cl ty117 C C (Bj hl) om om) (Dr 3 C (B7 (α:=Pt) (xs:=xs) ty117 C (Bj hl) om om) (Dr 4 C (Af C) (Dr 5 C (Af C) (Dr 6 C (A2 (α:=Pt) (xs:=ys) Cl ty117 C C (Bj hm) om om) (Dr 7 C (B7 (α:=Pt) (xs:=ys) ty117 C (Bj hm) om om) (Dr 8 C (Ds (α:=Pt) (a:=(e_ xs k)) (b:=(e_ ys k)) eqt117 C C) (Dz (Ai (Av (S4 25 0 1 5 C C C C) (Bd C (λc25=>?_) (λc25=>?_))))))))))))))))))))
   ·refine Aj (Ga C (Ah (Az (A3 (Ar (Ar (A3 (Ar ?_))))))))
    have hne:xs≠ys:=λe=>by subst e;exact c25 rfl
    exact Ba C C I Ay ⟨by rw [decide_eq_false hne],rfl⟩
   ·exact A4 (Ak (Ai (A0 (Gm C (Gr (Rad C C) (Ga C (Bf (Ch ((k+1)) ⟨om,(λj h=>by by_cases e:j=k;(· subst e;exact Classical.not_not.1 c25);(· exact hn j om))⟩))))))))
  ·refine Bp (Ac (Ac (Aw (Ai (Aj (Ga C (Ah (Az ?_))))))))
   have he:xs=ys:=list_eqP om (λj hj=>hn j om)
   exact Ba C C I Ay ⟨by rw [decide_eq_true he],rfl⟩
theorem Alike_ok{A B:AnV}(hA1:Sl κ I (.slice A.sa A.S.length A.sc) A.S)(hA2:Sl κ I (.slice A.pa A.P.length A.pc) A.P)(hB1:Sl κ I (.slice B.sa B.S.length B.sc) B.S)(hB2:Sl κ I (.slice B.pa B.P.length B.pc) B.P):eu Tryz.prog κ 58 [.agg #[.bool (A.fd),e7 (A.num),e7 (A.tm),.slice A.sa A.S.length A.sc,e7 (A.dn),e7 (A.dd),.slice A.pa A.P.length A.pc,.slice A.oa A.O.length A.oc,.slice A.na A.N.length A.nc,e7 (A.E),.slice A.qa A.Q.length A.qc],.agg #[.bool (B.fd),e7 (B.num),e7 (B.tm),.slice B.sa B.S.length B.sc,e7 (B.dn),e7 (B.dd),.slice B.pa B.P.length B.pc,.slice B.oa B.O.length B.oc,.slice B.na B.N.length B.nc,e7 (B.E),.slice B.qa B.Q.length B.qc]] I (λr J=>r = .bool (decide (alikeP A B))/\I=J):=by
 refine Ce2 Tryz.func58 C C ?_
 refine Aj (Ge1 (Bg (cs:=[_,_,_,_,_,_,_,_,_,_,_]) C C C) λb1=>Ge1 (Bg (cs:=[_,_,_,_,_,_,_,_,_,_,_]) C C C) λb2=>Ga C (Ah (Aj (Gf fld90_0 C (Gl ty4 ?_)))))
 refine Gf fld90_0 C (Gl ty4 ?_)
 refine Gr (Runs.eqlb Fg C C) (Gm C (Bs (d:=10) C (λg10=>?_) (λg10=>?_)))
 ·refine e9 (Ab fld90_1 C) (e9 (As ef) ?_)
  refine e9 (Ab fld90_1 C) (e9 (As ef) ?_)
  refine e9 (Bl C C) (Gr (Ap C C) (Gm C (Bs (d:=17) C (λg17=>?_) (λg17=>?_))))
  ·refine e9 (Ab fld90_2 C) (e9 (As ef) ?_)
   refine e9 (Ab fld90_2 C) (e9 (As ef) ?_)
   refine e9 (Bl C C) (Gr (Ap C C) (Gm C (Bs (d:=24) C (λg24=>?_) (λg24=>?_))))
   ·refine e9 (Ab fld90_3 C) (e9 (As ty22) ?_)
    refine e9 (Ab fld90_3 C) (e9 (As ty22) ?_)
    refine Et (Cz C C C) (Am call61 C C (Cmp_ok (Bj hA1) (Bj hB1))) ?_
    rintro _ _ ⟨_,_,⟨rfl,rfl⟩,rfl,rfl⟩
    refine e9 (Bl C C) (Gr (Ap C C) (Gm C (Bs (d:=32) C (λg32=>?_) (λg32=>?_))))
    ·refine e9 (Ab fld90_4 C) (e9 (Be (vs:=[_,_]) ty40) ?_)
     refine e9 (Ab fld90_4 C) (e9 (Be (vs:=[_,_]) ty40) ?_)
     refine e9 (Runs.eqlT (α:=Fr) (a:=(⟨A.dn,A.dd⟩:Fr)) (b:=(⟨B.dn,B.dd⟩:Fr)) eqt40 C C) (Gr (Ap C C) (Gm C (Bs (d:=39) C (λg39=>?_) (λg39=>?_))))
     ·refine e9 (Ab fld90_5 C) (e9 (As ty81) ?_)
      refine e9 (Ab fld90_5 C) (e9 (As ty81) ?_)
      refine Et (Cz C C C) (Am call54 C C (SameSp_ok (Bj hA2) (Bj hB2))) ?_
      rintro _ _ ⟨_,_,⟨rfl,rfl⟩,rfl,rfl⟩
      exact Gr (Ap C C) (Ga C (Ah (Av (S1 4 C) (Az (Ba C C I Ay ⟨congrArg Value.bool (by first|exact decide_eq_decide.2 ⟨λh=>⟨by assumption,by assumption,by assumption,by assumption,by assumption,h⟩,λh=>h.2.2.2.2.2⟩|exact (decide_eq_false (λh=>absurd h.1 asm)).symm|exact (decide_eq_false (λh=>absurd h.2.1 asm)).symm|exact (decide_eq_false (λh=>absurd h.2.2.1 asm)).symm|exact (decide_eq_false (λh=>absurd h.2.2.2.1 asm)).symm|exact (decide_eq_false (λh=>absurd h.2.2.2.2.1 asm)).symm),rfl⟩)))))
     ·exact eb (eb (eb (eb (eb (Gr (Al C C) (Ga C (Ah (Av (S1 4 C) (Az (Ba C C I Ay ⟨congrArg Value.bool (by first|exact decide_eq_decide.2 ⟨λh=>⟨by assumption,by assumption,by assumption,by assumption,by assumption,h⟩,λh=>h.2.2.2.2.2⟩|exact (decide_eq_false (λh=>absurd h.1 asm)).symm|exact (decide_eq_false (λh=>absurd h.2.1 asm)).symm|exact (decide_eq_false (λh=>absurd h.2.2.1 asm)).symm|exact (decide_eq_false (λh=>absurd h.2.2.2.1 asm)).symm|exact (decide_eq_false (λh=>absurd h.2.2.2.2.1 asm)).symm),rfl⟩))))))))))
    ·exact eb (eb (eb (eb (eb (Gr (Al C C) (Gm C (eb (eb (eb (eb (eb (Gr (Al C C) (Ga C (Ah (Av (S1 4 C) (Az (Ba C C I Ay ⟨congrArg Value.bool (by first|exact decide_eq_decide.2 ⟨λh=>⟨by assumption,by assumption,by assumption,by assumption,by assumption,h⟩,λh=>h.2.2.2.2.2⟩|exact (decide_eq_false (λh=>absurd h.1 asm)).symm|exact (decide_eq_false (λh=>absurd h.2.1 asm)).symm|exact (decide_eq_false (λh=>absurd h.2.2.1 asm)).symm|exact (decide_eq_false (λh=>absurd h.2.2.2.1 asm)).symm|exact (decide_eq_false (λh=>absurd h.2.2.2.2.1 asm)).symm),rfl⟩)))))))))))))))))
   ·exact eb (eb (eb (eb (eb (eb (Gr (Al C C) (Gm C (eb (eb (eb (eb (eb (Gr (Al C C) (Gm C (eb (eb (eb (eb (eb (Gr (Al C C) (Ga C (Ah (Av (S1 4 C) (Az (Ba C C I Ay ⟨congrArg Value.bool (by first|exact decide_eq_decide.2 ⟨λh=>⟨by assumption,by assumption,by assumption,by assumption,by assumption,h⟩,λh=>h.2.2.2.2.2⟩|exact (decide_eq_false (λh=>absurd h.1 asm)).symm|exact (decide_eq_false (λh=>absurd h.2.1 asm)).symm|exact (decide_eq_false (λh=>absurd h.2.2.1 asm)).symm|exact (decide_eq_false (λh=>absurd h.2.2.2.1 asm)).symm|exact (decide_eq_false (λh=>absurd h.2.2.2.2.1 asm)).symm),rfl⟩)))))))))))))))))))))))))
  ·exact eb (eb (eb (eb (eb (Gr (Al C C) (Gm C (eb (eb (eb (eb (eb (eb (Gr (Al C C) (Gm C (eb (eb (eb (eb (eb (Gr (Al C C) (Gm C (eb (eb (eb (eb (eb (Gr (Al C C) (Ga C (Ah (Av (S1 4 C) (Az (Ba C C I Ay ⟨congrArg Value.bool (by first|exact decide_eq_decide.2 ⟨λh=>⟨by assumption,by assumption,by assumption,by assumption,by assumption,h⟩,λh=>h.2.2.2.2.2⟩|exact (decide_eq_false (λh=>absurd h.1 asm)).symm|exact (decide_eq_false (λh=>absurd h.2.1 asm)).symm|exact (decide_eq_false (λh=>absurd h.2.2.1 asm)).symm|exact (decide_eq_false (λh=>absurd h.2.2.2.1 asm)).symm|exact (decide_eq_false (λh=>absurd h.2.2.2.2.1 asm)).symm),rfl⟩))))))))))))))))))))))))))))))))
 ·exact eb (eb (eb (eb (eb (Gr (Al C C) (Gm C (eb (eb (eb (eb (eb (Gr (Al C C) (Gm C (eb (eb (eb (eb (eb (eb (Gr (Al C C) (Gm C (eb (eb (eb (eb (eb (Gr (Al C C) (Gm C (eb (eb (eb (eb (eb (Gr (Al C C) (Ga C (Ah (Av (S1 4 C) (Az (Ba C C I Ay ⟨congrArg Value.bool (by first|exact decide_eq_decide.2 ⟨λh=>⟨by assumption,by assumption,by assumption,by assumption,by assumption,h⟩,λh=>h.2.2.2.2.2⟩|exact (decide_eq_false (λh=>absurd h.1 asm)).symm|exact (decide_eq_false (λh=>absurd h.2.1 asm)).symm|exact (decide_eq_false (λh=>absurd h.2.2.1 asm)).symm|exact (decide_eq_false (λh=>absurd h.2.2.2.1 asm)).symm|exact (decide_eq_false (λh=>absurd h.2.2.2.2.1 asm)).symm),rfl⟩)))))))))))))))))))))))))))))))))))))))
set_option maxHeartbeats 2000000 in
theorem MkQuery_base{b:Nat}{lv:Value}{ls:List Int}{i:Int}{nodes:Int}(hl:∀q,Sl κ (deck b lv q::I) lv ls)(h0:0<=i)(hn:nodes<=64):eu Tryz.prog κ 55 [.pointer (some ⟨b,0,none⟩),e7 nodes] (e8 b [lv,e7 i] 125::I) (λr J=>∃y:Int×Int×Int×Int×(Option Addr)×Nat×(List Int)×Int×Int×Int,((r = .agg #[e7 y.1,e7 y.2.1,e7 y.2.2.1,e7 y.2.2.2.1,.slice y.2.2.2.2.1 y.2.2.2.2.2.2.1.length y.2.2.2.2.2.1,e7 y.2.2.2.2.2.2.2.1,e7 y.2.2.2.2.2.2.2.2.1]/\(densF y.1=true->FrV ⟨y.2.2.2.2.2.2.2.1,y.2.2.2.2.2.2.2.2.1⟩)/\y.2.2.2.1<=29/\(1<=y.1/\y.1<=10))/\0<=y.2.2.2.2.2.2.2.2.2)/\J=[vc 3 (.slice y.2.2.2.2.1 y.2.2.2.2.2.2.1.length y.2.2.2.2.2.1) y.2.2.2.2.2.2.1]++deck b lv y.2.2.2.2.2.2.2.2.2::I):=by
 refine Ce2 Tryz.func55 C C ?_
 refine Aj (Ge1 (A9 ty71 C) λb1=>Ah (Aj (Gm C (G.e (Am call19 C C (Next_ok (by repeat (first|exact AtF.head _ _|apply AtF.tail)) (Ce (hl _) Ay) om om)) ?_))))
 rintro _ _ ⟨_,_,⟨x2,i3,rfl,hx2,hi3,rfl⟩,rfl,rfl⟩
 refine Gr (Rad C C) (Gr (Bc (cells:=[_,_,_,_,_,_,_]) ty71 Tryz.underlying71 pl71 C C) (Ge1 (A9 ty71 C) λb4=>Ge0 (Fl ty71) ?_))
 refine Ah (Aj (Gm C (Gr (D7 C C) ?_)))
 obtain ⟨mq,hme⟩:∃mq,(if 1<nodes then nodes else 1)=mq:=⟨_,rfl⟩
 have hmq:1<=mq/\mq<=64:=by rw [←hme];split<;>omega
 rw [hme]
 refine Ga C (Ah (Fe (σ:=Int×Int×Int×Int×(Option Addr)×Nat×(List Int)×Int×Int×Int) (λs=>([(0,.pointer (some ⟨b,0,none⟩)),(4,.pointer (some ⟨b1,0,none⟩)),(5,.pointer (some ⟨b4,0,none⟩))]:Env)) (λs=>e8 b4 [e7 (s.1),e7 (s.2.1),e7 (s.2.2.1),e7 (s.2.2.2.1),.slice s.2.2.2.2.1 s.2.2.2.2.2.2.1.length s.2.2.2.2.2.1,e7 (s.2.2.2.2.2.2.2.1),e7 (s.2.2.2.2.2.2.2.2.1)] 71::vc 3 (.slice s.2.2.2.2.1 s.2.2.2.2.2.2.1.length s.2.2.2.2.2.1) (s.2.2.2.2.2.2.1)::e8 b1 [e7 0,e7 0,e7 0,e7 0,.slice none 0 0,e7 0,e7 0] 71::e8 b [lv,e7 (s.2.2.2.2.2.2.2.2.2)] 125::I) (λs=>(1<=s.1/\s.1<=10)/\((0<=s.2.1/\s.2.1<64)/\(0<=s.2.2.1/\s.2.2.1<=3)/\(0<=s.2.2.2.1/\s.2.2.2.1<=29)/\0<=s.2.2.2.2.2.2.2.2.2)/\(s.1=8->FrV ⟨s.2.2.2.2.2.2.2.1,s.2.2.2.2.2.2.2.2.1⟩)) ?_ ?_))
 ·refine Aj (Gf fld71_0 C (Gl ef ?_))
  refine Ah (Av (S5 16 6 5 4 0 C C C C C) (A6 (Aj (Gr (Bl C C) (Ga C (Ah (Bd C (λc20=>?_) (λc20=>?_))))))))
  ·refine A0 (Gm C (Gm C (G.e (Am call19 C C (Next_ok (by repeat (first|exact AtF.head _ _|apply AtF.tail)) (Ce (hl _) Ay) om om)) ?_)))
   rintro _ _ ⟨_,_,⟨x5,i6,rfl,hx5,hi6,rfl⟩,rfl,rfl⟩
   refine Gm C (G.e (Am call19 C C (Next_ok (by repeat (first|exact AtF.head _ _|apply AtF.tail)) (Ce (hl _) Ay) om om)) ?_)
   rintro _ _ ⟨_,_,⟨x7,i8,rfl,hx7,hi8,rfl⟩,rfl,rfl⟩
   refine Gf fld71_1 C (Ge0 (Dp ef) ?_)
   refine Gf fld71_3 C (Ge0 (Dp ef) ?_)
   exact Bf (Ak (Cp ((1+x2),(x5),(0),(x7),(none),(0),([]),(0),(0),(i8)) (by dsimp only;exact ⟨om,om,(λh=>by first|assumption|(exfalso;omega))⟩) (hI:=by (try dsimp only);exact (A8 (nv3 _) Bv))))
  ·refine Aj (Gr (Bl C C) (Ga C (Ah (Bd C (λc29=>?_) (λc29=>?_)))))
   ·refine A0 (Gm C (Gm C (G.e (Am call19 C C (Next_ok (by repeat (first|exact AtF.head _ _|apply AtF.tail)) (Ce (hl _) Ay) om om)) ?_)))
    rintro _ _ ⟨_,_,⟨x9,i10,rfl,hx9,hi10,rfl⟩,rfl,rfl⟩
    refine Gm C (G.e (Am call19 C C (Next_ok (by repeat (first|exact AtF.head _ _|apply AtF.tail)) (Ce (hl _) Ay) om om)) ?_)
    rintro _ _ ⟨_,_,⟨x11,i12,rfl,hx11,hi12,rfl⟩,rfl,rfl⟩
    refine Gm C (G.e (Am call19 C C (Next_ok (by repeat (first|exact AtF.head _ _|apply AtF.tail)) (Ce (hl _) Ay) om om)) ?_)
    rintro _ _ ⟨_,_,⟨x13,i14,rfl,hx13,hi14,rfl⟩,rfl,rfl⟩
    refine Gf fld71_1 C (Ge0 (Dp ef) ?_)
    refine Gf fld71_2 C (Ge0 (Dp ef) ?_)
    refine Gf fld71_3 C (Ge0 (Dp ef) ?_)
    exact Bf (Ak (Cp ((1+x2),(x9),(x11),(x13),(none),(0),([]),(0),(0),(i14)) (by dsimp only;exact ⟨om,om,(λh=>by first|assumption|(exfalso;omega))⟩) (hI:=by (try dsimp only);exact (A8 (nv3 _) Bv))))
   ·refine Aj (Gr (Bl C C) (Ga C (Ah (Bd C (λc41=>?_) (λc41=>?_)))))
    ·refine Aj (Gm C (Gm C (G.e (Am call19 C C (Next_ok (by repeat (first|exact AtF.head _ _|apply AtF.tail)) (Ce (hl _) Ay) om om)) ?_)))
     rintro _ _ ⟨_,_,⟨x15,i16,rfl,hx15,hi16,rfl⟩,rfl,rfl⟩
     refine Ga C (Ah (Av (S5 7 6 5 4 0 C C C C C) (Aj (Gm C (Gm C (G.e (Am call19 C C (Next_ok (by repeat (first|exact AtF.head _ _|apply AtF.tail)) (Ce (hl _) Ay) om om)) ?_))))))
     rintro _ _ ⟨_,_,⟨x17,i18,rfl,hx17,hi18,rfl⟩,rfl,rfl⟩
     refine Ga C (Ah (A0 (Gm C (Gm C (Gr (E9 C C) (Gm C (Gm C (Gr (D7 C C) (Ge1 (Cj (α:=Int) (cs:=[_,_]) (xs:=[if x17<x15 then x17 else x15,if x15<x17 then x17 else x15]) Ad ef C C dc dc C C C C) λad19=>?_)))))))))
     refine Gm C (G.e (Am call19 C C (Next_ok (by repeat (first|exact AtF.head _ _|apply AtF.tail)) (Ce (hl _) Ay) om om)) ?_)
     rintro _ _ ⟨_,_,⟨x20,i21,rfl,hx20,hi21,rfl⟩,rfl,rfl⟩
     refine Gf fld71_4 C (Ge0 (Dp ty22) ?_)
     refine Gf fld71_3 C (Ge0 (Dp ef) ?_)
     exact Bf (Ak (Cp ((1+x2),(0),(0),(x20),(ad19),(2),(([if x17<x15 then x17 else x15,if x15<x17 then x17 else x15]:List Int)),(0),(0),(i21)) (by dsimp only;exact ⟨om,om,(λh=>by first|assumption|(exfalso;omega))⟩)))
    ·refine Aj (Gr (Bl C C) (Ga C (Ah (Bd C (λc60=>?_) (λc60=>?_)))))
     ·refine A0 (Gm C (Gm C (G.e (Am call49 C C (MkSome_at (by repeat (first|exact AtF.head _ _|apply AtF.tail)) (λ_=>Ce (hl _) Ay) om  om)) ?_)))
      rintro _ _ ⟨_,_,⟨⟨ad22,cp23,sx24,i25⟩,⟨⟨rfl,hvsx24,hlsx24⟩,hi25⟩,rfl⟩,rfl,rfl⟩
      have hi25:0<=i25:=hi25
      dsimp only at hvsx24
      dsimp only at hlsx24
      refine Gm C (G.e (Am call19 C C (Next_ok (by repeat (first|exact AtF.head _ _|apply AtF.tail)) (Ce (hl _) Ay) om om)) ?_)
      rintro _ _ ⟨_,_,⟨x26,i27,rfl,hx26,hi27,rfl⟩,rfl,rfl⟩
      refine Gf fld71_4 C (Ge0 (Dp ty22) ?_)
      refine Gf fld71_3 C (Ge0 (Dp ef) ?_)
      exact Bf (Ak (Cp ((1+x2),(0),(0),(x26),(ad22),(cp23),(sx24),(0),(0),(i27)) (by dsimp only;exact ⟨om,om,(λh=>by first|assumption|(exfalso;omega))⟩)))
     ·refine Aj (Gr (Bl C C) (Ga C (Ah (Av (S6 69 16 6 5 4 0 C C C C C C) (Bd C (λc69=>?_) (λc69=>?_))))))
      ·refine A0 (Gm C (G.e (Am call46 C C (MkFrac_at (by repeat (first|exact AtF.head _ _|apply AtF.tail)) (λ_=>Ce (hl _) Ay) om  )) ?_))
       rintro _ _ ⟨_,_,⟨⟨nu28,de29,i30⟩,⟨⟨rfl,hfnu28,hfnnu28⟩,hi30⟩,rfl⟩,rfl,rfl⟩
       have hi30:0<=i30:=hi30
       dsimp only at hfnu28
       dsimp only at hfnnu28
       refine Gf fld71_5 C (Ge0 (B4 (cs:=[_,_,_,_,_,_,_]) (vs:=[_,_]) (cs':=[_,_,_,_,_,_,_]) ty40) ?_)
       exact Bf (Ak (Cp ((1+x2),(0),(0),(0),(none),(0),([]),(nu28),(de29),(i30)) (by dsimp only;exact ⟨om,om,(λh=>by first|assumption|(exfalso;omega))⟩) (hI:=by (try dsimp only);exact (A8 (nv3 _) Bv))))
      ·refine Aj (Gr (Bl C C) (Ga C (Ah (Bd C (λc74=>?_) (λc74=>?_)))))
       ·refine A0 (Gm C (Gm C (G.e (Am call49 C C (MkSome_at (by repeat (first|exact AtF.head _ _|apply AtF.tail)) (λ_=>Ce (hl _) Ay) om  om)) ?_)))
        rintro _ _ ⟨_,_,⟨⟨ad31,cp32,sx33,i34⟩,⟨⟨rfl,hvsx33,hlsx33⟩,hi34⟩,rfl⟩,rfl,rfl⟩
        have hi34:0<=i34:=hi34
        dsimp only at hvsx33
        dsimp only at hlsx33
        refine Gm C (G.e (Am call19 C C (Next_ok (by repeat (first|exact AtF.head _ _|apply AtF.tail)) (Ce (hl _) Ay) om om)) ?_)
        rintro _ _ ⟨_,_,⟨x35,i36,rfl,hx35,hi36,rfl⟩,rfl,rfl⟩
        refine Gf fld71_4 C (Ge0 (Dp ty22) ?_)
        refine Gf fld71_2 C (Ge0 (Dp ef) ?_)
        exact Bf (Ak (Cp ((1+x2),(0),(x35),(0),(ad31),(cp32),(sx33),(0),(0),(i36)) (by dsimp only;exact ⟨om,om,(λh=>by first|assumption|(exfalso;omega))⟩)))
       ·refine Aj (Gr (Bl C C) (Ga C (Ah (Bd C (λc83=>?_) (λc83=>?_)))))
        ·refine A0 (Gm C (Gm C (G.e (Am call19 C C (Next_ok (by repeat (first|exact AtF.head _ _|apply AtF.tail)) (Ce (hl _) Ay) om om)) ?_)))
         rintro _ _ ⟨_,_,⟨x37,i38,rfl,hx37,hi38,rfl⟩,rfl,rfl⟩
         refine Gf fld71_1 C (Ge0 (Dp ef) ?_)
         exact Bf (Ak (Cp ((1+x2),(x37),(0),(0),(none),(0),([]),(0),(0),(i38)) (by dsimp only;exact ⟨om,om,(λh=>by first|assumption|(exfalso;omega))⟩) (hI:=by (try dsimp only);exact (A8 (nv3 _) Bv))))
        ·refine A0 (Gm C (G.e (Am call19 C C (Next_ok (by repeat (first|exact AtF.head _ _|apply AtF.tail)) (Ce (hl _) Ay) om om)) ?_))
         rintro _ _ ⟨_,_,⟨x39,i40,rfl,hx39,hi40,rfl⟩,rfl,rfl⟩
         refine Gf fld71_3 C (Ge0 (Dp ef) ?_)
         exact Bf (Ak (Cp ((1+x2),(0),(0),(x39),(none),(0),([]),(0),(0),(i40)) (by dsimp only;exact ⟨om,om,(λh=>by first|assumption|(exfalso;omega))⟩) (hI:=by (try dsimp only);exact (A8 (nv3 _) Bv))))
 ·rintro ⟨K,no,le,tq,a,c,S,nu,de,iq⟩ hp
  obtain ⟨hK,hb,hd⟩:(1<=K/\K<=10)/\((0<=no/\no<64)/\(0<=le/\le<=3)/\(0<=tq/\tq<=29)/\0<=iq)/\(K=8->FrV ⟨nu,de⟩):=hp
  dsimp only
  refine Au (Aj (Gm C (G.e (Am call19 C C (Next_ok (by repeat (first|exact AtF.head _ _|apply AtF.tail)) (Ce (hl _) Ay) om om)) ?_)))
  rintro _ _ ⟨_,_,⟨x41,i42,rfl,hx41,hi42,rfl⟩,rfl,rfl⟩
  refine Ah (A6 (Aj (Gr (Bl C C) (Ga C (Ah (Bd C (λc91=>?_) (λc91=>?_)))))))
  ·refine A0 (Gf fld71_2 C (Gl ef ?_))
   refine Gr (Rad C C) (Gf fld71_2 C (Ge0 (Dp ef) ?_))
   refine Bf (Ak (Ai (Aj (Gl7 ty71 ?_))))
   refine Ge0 (Fl ty71) ?_
   exact Ah (Az (Cf C ty71 C mm C (vc 3 (.slice a S.length c) (S)::e8 b [lv,e7 i42] 125::I) Bv ⟨(K,no,le+1,tq,a,c,S,nu,de,i42),⟨⟨rfl,(λh=>hd (of_decide_eq_true h)),by show tq<=29;omega,by show 1<=K/\K<=10;omega⟩,by show 0<=i42;omega⟩,rfl⟩))
  ·refine Aj (Gr (Bl C C) (Ga C (Ah (Bd C (λc97=>?_) (λc97=>?_)))))
   ·refine A0 (Gf fld71_1 C (Gl ef ?_))
    refine Gr (Rad C C) (Gf fld71_1 C (Ge0 (Dp ef) ?_))
    refine Bf (Ak (Ai (Aj (Gl7 ty71 ?_))))
    refine Ge0 (Fl ty71) ?_
    exact Ah (Av (S1 4 C) (Az (Cf C ty71 C mm C (vc 3 (.slice a S.length c) (S)::e8 b [lv,e7 i42] 125::I) Bv ⟨(K,no+3,le,tq,a,c,S,nu,de,i42),⟨⟨rfl,(λh=>hd (of_decide_eq_true h)),by show tq<=29;omega,by show 1<=K/\K<=10;omega⟩,by show 0<=i42;omega⟩,rfl⟩)))
   ·refine Aj (Gr (Bl C C) (Ga C (Ah (Bd C (λc103=>?_) (λc103=>?_)))))
    ·refine A0 (Gf fld71_3 C (Gl ef ?_))
     refine Gr (Rsu C C) (Gf fld71_3 C (Ge0 (Dp ef) ?_))
     refine Bf (Ak (Ai (Av (S2 4 5 C C) (Aj (Gl7 ty71 ?_)))))
     refine Ge0 (Fl ty71) ?_
     exact Ah (Az (Cf C ty71 C mm C (vc 3 (.slice a S.length c) (S)::e8 b [lv,e7 i42] 125::I) Bv ⟨(K,no,le,tq - 20,a,c,S,nu,de,i42),⟨⟨rfl,(λh=>hd (of_decide_eq_true h)),by show tq - 20<=29;omega,by show 1<=K/\K<=10;omega⟩,by show 0<=i42;omega⟩,rfl⟩))
    ·refine A4 (Ak (Ai (Aj (Gl7 ty71 ?_))))
     refine Ge0 (Fl ty71) ?_
     exact Ah (Az (Cf C ty71 C mm C (vc 3 (.slice a S.length c) (S)::e8 b [lv,e7 i42] 125::I) Bv ⟨(K,no,le,tq,a,c,S,nu,de,i42),⟨⟨rfl,(λh=>hd (of_decide_eq_true h)),by show tq<=29;omega,by show 1<=K/\K<=10;omega⟩,by show 0<=i42;omega⟩,rfl⟩))
theorem MkQuery_at{F:Item->List Item}{b:Nat}{lv:Value}{ls:List Int}{i:Int}{nodes:Int}(hat:AtF I (deck b lv i) F)(hl:∀q,Sl κ (F (deck b lv q)) lv ls)(h0:0<=i)(hn:nodes<=64):eu Tryz.prog κ 55 [.pointer (some ⟨b,0,none⟩),e7 nodes] I λr J=>∃y:Int×Int×Int×Int×(Option Addr)×Nat×(List Int)×Int×Int×Int,((r = .agg #[e7 y.1,e7 y.2.1,e7 y.2.2.1,e7 y.2.2.2.1,.slice y.2.2.2.2.1 y.2.2.2.2.2.2.1.length y.2.2.2.2.2.1,e7 y.2.2.2.2.2.2.2.1,e7 y.2.2.2.2.2.2.2.2.1]/\(densF y.1=true->FrV ⟨y.2.2.2.2.2.2.2.1,y.2.2.2.2.2.2.2.2.1⟩)/\y.2.2.2.1<=29/\(1<=y.1/\y.1<=10))/\0<=y.2.2.2.2.2.2.2.2.2)/\J=[vc 3 (.slice y.2.2.2.2.1 y.2.2.2.2.2.2.1.length y.2.2.2.2.2.1) y.2.2.2.2.2.2.1]++F (deck b lv y.2.2.2.2.2.2.2.2.2):=
 Ej (Post:=λr (y:Int×Int×Int×Int×(Option Addr)×Nat×(List Int)×Int×Int×Int)=>(r = .agg #[e7 y.1,e7 y.2.1,e7 y.2.2.1,e7 y.2.2.2.1,.slice y.2.2.2.2.1 y.2.2.2.2.2.2.1.length y.2.2.2.2.2.1,e7 y.2.2.2.2.2.2.2.1,e7 y.2.2.2.2.2.2.2.2.1]/\(densF y.1=true->FrV ⟨y.2.2.2.2.2.2.2.1,y.2.2.2.2.2.2.2.2.1⟩)/\y.2.2.2.1<=29/\(1<=y.1/\y.1<=10))/\0<=y.2.2.2.2.2.2.2.2.2) (Z:=λy:Int×Int×Int×Int×(Option Addr)×Nat×(List Int)×Int×Int×Int=>[vc 3 (.slice y.2.2.2.2.1 y.2.2.2.2.2.2.1.length y.2.2.2.2.2.1) y.2.2.2.2.2.2.1]) (X:=λy:Int×Int×Int×Int×(Option Addr)×Nat×(List Int)×Int×Int×Int=>deck b lv y.2.2.2.2.2.2.2.2.2) hat λJ _ hF=>MkQuery_base (λq=>(hl q).fit (hF _)) h0  hn
end Go.Sl
namespace Go.Sl
end Go.Sl
namespace Go.Sl
open Go.Proofs
set_option maxRecDepth 4000
end Go.Sl
namespace Go.Sl
end Go.Sl
namespace Go.Sl
open Go.Proofs
set_option maxRecDepth 4000
theorem nat_frac{a b x y:Nat}(hb:0<b)(hy:0<y)(h:a*y=x*b):a / a.gcd b=x / x.gcd y/\b / a.gcd b=y / x.gcd y:=by
 have hg:=Nat.gcd_pos_of_pos_right a hb
 have hk:=Nat.gcd_pos_of_pos_right x hy
 have c1:=Nat.coprime_div_gcd_div_gcd hg
 have c2:=Nat.coprime_div_gcd_div_gcd hk
 have e1:=Nat.div_mul_cancel (Nat.gcd_dvd_left a b)
 have e2:=Nat.div_mul_cancel (Nat.gcd_dvd_right a b)
 have e3:=Nat.div_mul_cancel (Nat.gcd_dvd_left x y)
 have e4:=Nat.div_mul_cancel (Nat.gcd_dvd_right x y)
 generalize a.gcd b=g at hg c1 e1 e2 ⊢
 generalize x.gcd y=k at hk c2 e3 e4 ⊢
 generalize a / g=a1 at c1 e1 ⊢
 generalize b / g=b1 at c1 e2 ⊢
 generalize x / k=x1 at c2 e3 ⊢
 generalize y / k=y1 at c2 e4 ⊢
 subst e1 e2 e3 e4
 have h2:a1*y1=x1*b1:=by
  refine Nat.eq_of_mul_eq_mul_right (Nat.mul_pos hg hk) ?_
  have l:a1*y1*(g*k)=a1*g*(y1*k):=by ac_rfl
  have r:x1*b1*(g*k)=x1*k*(b1*g):=by ac_rfl
  rw [l,r];exact h
 have d1:b1 ∣ y1:=c1.symm.dvd_of_dvd_mul_left (m:=a1) ⟨x1,by rw [h2,Nat.mul_comm]⟩
 have d2:y1 ∣ b1:=c2.symm.dvd_of_dvd_mul_left (m:=x1) ⟨a1,by rw [←h2,Nat.mul_comm]⟩
 have e:=Nat.dvd_antisymm d1 d2
 subst e
 have hb1:0<b1:=Nat.pos_of_mul_pos_right hb
 exact ⟨Nat.eq_of_mul_eq_mul_right hb1 h2,rfl⟩
theorem mkF_eq{a b x y:Int}(ha:0<=a)(hb:0<b)(hx:0<=x)(hy:0<y)(h:a*y=x*b):mkF a b=mkF x y:=by
 obtain ⟨a,rfl⟩:=Int.eq_ofNat_of_zero_le ha
 obtain ⟨b,rfl⟩:=Int.eq_ofNat_of_zero_le (Int.le_of_lt hb)
 obtain ⟨x,rfl⟩:=Int.eq_ofNat_of_zero_le hx
 obtain ⟨y,rfl⟩:=Int.eq_ofNat_of_zero_le (Int.le_of_lt hy)
 obtain ⟨h1,h2⟩:=nat_frac (a:=a) (b:=b) (x:=x) (y:=y) om om (by exact_mod_cast h)
 unfold mkF gcdI
 simp only [Int.toNat_natCast]
 rw [←Int.natCast_ediv,←Int.natCast_ediv,←Int.natCast_ediv,←Int.natCast_ediv,h1,h2]
section
variable {nd kd wd mo K node lv tq num den:Int}{S:List Int}{es:List Pt}{ev:List Ev}{A B:AnV}
theorem mkF_self{N D:Int}(h:FrV ⟨N,D⟩):mkF N D=⟨N,D⟩:=by
 have h1:gcdI N D=1:=h.cop
 unfold mkF
 rw [h1,Int.ediv_one,Int.ediv_one]
theorem BestR.uniq{N D N' D':Int}{B B':BitVec 64}(hG:GrOk nd es)(h:BestR nd es N D B)(h':BestR nd es N' D' B'):N=N'/\D=D'/\eo B=eo B':=by
 have hz:=checkG_ok.2 hG
 by_cases hn:nd=0
 ·obtain ⟨a1,a2,a3⟩:=h.none hz hn
  obtain ⟨b1,b2,b3⟩:=h'.none hz hn
  subst a1 a2 a3 b1 b2 b3
  exact ⟨rfl,rfl,rfl⟩
 ·have d:=h.some hz hn
  have d':=h'.some hz hn
  have e:=DensP.uniq d.den.1 d'.den.1 d.dens d'.dens
  have f:=h.frv hG
  have f':=h'.frv hG
  have n0:0<=N:=f.n0
  have n0':0<=N':=f'.n0
  have d0:1<=D:=f.d0
  have d0':1<=D':=f'.d0
  have key:=mkF_eq n0 (show 0<D by omega) n0' (show 0<D' by omega) e
  rw [mkF_self f,mkF_self f'] at key
  obtain ⟨rfl,rfl⟩:N=N'/\D=D':=by injection key with h1 h2;exact ⟨h1,h2⟩
  exact ⟨rfl,rfl,intLin.uniq (listB_asc _) (listB_asc _) λx=>⟨λhx=>d'.dens.great B d.dens.sub d.dens.eq x hx,λhx=>d.dens.great B' d'.dens.sub d'.dens.eq x hx⟩⟩
def same6(A B:AnV):Prop:=A.fd=B.fd/\A.num=B.num/\A.S=B.S/\A.dn=B.dn/\A.dd=B.dd/\A.P=B.P
theorem is_eq{fd:Bool}{n:Int}{L:List Int}{x y:Int}{Z:List Pt}(a:A.is fd n L x y Z)(b:B.is fd n L x y Z):same6 A B:=by
 obtain ⟨a1,a2,a3,a4,a5,a6⟩:=a
 obtain ⟨b1,b2,b3,b4,b5,b6⟩:=b
 exact ⟨a1.trans b1.symm,a2.trans b2.symm,a3.trans b3.symm,a4.trans b4.symm,a5.trans b5.symm,a6.trans b6.symm⟩
theorem GrP.same(hG:GrOk nd es)(hK:1<=K/\K<=7)(a:GrP nd es K node lv S A)(b:GrP nd es K node lv S B):same6 A B:=by
 rcases (show K=1\/K=2\/K=3\/K=4\/K=5\/K=6\/K=7 by omega) with e|e|e|e|e|e|e
 ·exact is_eq (a.k1 e).1 (b.k1 e).1
 ·exact is_eq (a.k2 e).1 (b.k2 e).1
 ·obtain ⟨y,h1,s1,x1,z1,p1,_⟩:=a.k3 e
  obtain ⟨y2,h2,s2,x2,z2,p2,_⟩:=b.k3 e
  obtain rfl:=h1.find.uniq h2.find
  refine ⟨h1.fd.trans h2.fd.symm,?_,s1.trans s2.symm,x1.trans x2.symm,z1.trans z2.symm,p1.trans p2.symm⟩
  by_cases hy:y<0
  ·rw [(h1.none hy).1,(h2.none hy).1]
  ·rw [(h1.some om).1,(h2.some om).1]
 ·exact is_eq (a.k4 e).1 (b.k4 e).1
 ·obtain ⟨⟨B1,h1,_,s1⟩,f1,n1,p1,_⟩:=a.k5 e
  obtain ⟨⟨B2,h2,_,s2⟩,f2,n2,p2,_⟩:=b.k5 e
  obtain ⟨e1,e2,e3⟩:=h1.uniq hG h2
  exact ⟨f1.trans f2.symm,n1.trans n2.symm,s1.trans (e3.trans s2.symm),e1,e2,p1.trans p2.symm⟩
 ·obtain ⟨h1,i1,_⟩:=a.k6 e
  obtain ⟨h2,i2,_⟩:=b.k6 e
  have:=h1.uniq h2
  rw [←this] at i2
  exact is_eq i1 i2
 ·exact is_eq (a.k7 e).1 (b.k7 e).1
theorem same_alike(h:same6 A B)(ht:A.tm=B.tm):alikeP A B:=⟨h.1,h.2.1,ht,(cmpL_eq _ _).2 h.2.2.1,by rw [h.2.2.2.1,h.2.2.2.2.1],h.2.2.2.2.2⟩
theorem zero_alike(a:A.zero)(b:B.zero):alikeP A B:=same_alike (is_eq a.1 b.1) (a.2.2.trans b.2.2.symm)
theorem FirstP.uniq{p:Int->Prop}{t t2:Int}{k k2:Bool}(h:FirstP kd wd mo ev p t k)(h2:FirstP kd wd mo ev p t2 k2):t=t2/\k=k2:=by
 rcases h with ⟨rfl,⟨e,he,rfl⟩,hp,hl⟩|⟨rfl,rfl,hn⟩<;>rcases h2 with ⟨rfl,⟨e2,he2,rfl⟩,hp2,hl2⟩|⟨rfl,rfl,hn2⟩
 ·have a1:¬e2.tm<e.tm:=λq=>hl e2 he2 q hp2
  have a2:¬e.tm<e2.tm:=λq=>hl2 e he q hp
  exact ⟨by omega,rfl⟩
 ·exact absurd hp (hn2 e he)
 ·exact absurd hp2 (hn e2 he2)
 ·exact ⟨rfl,rfl⟩
theorem AnsP.alike(hH:HistOk nd kd wd mo ev)(hK:1<=K/\K<=10)(a:AnsP nd kd wd mo ev K node lv tq S num den A)(b:AnsP nd kd wd mo ev K node lv tq S num den B):alikeP A B:=by
 by_cases h7:K<=7
 ·exact same_alike ((a.g h7).1.same (hH.graph _) ⟨hK.1,h7⟩ (b.g h7).1) ((a.g h7).2.trans (b.g h7).2.symm)
 rcases (show K=8\/K=9\/K=10 by omega) with e|e|e
 ·obtain ⟨t,k,hf,hy,hn⟩:=a.k8 e
  obtain ⟨t2,k2,hf2,hy2,hn2⟩:=b.k8 e
  obtain ⟨rfl,rfl⟩:=hf.uniq hf2
  cases k with
  |true=>exact same_alike ((hy rfl).1.same (hH.graph _) dc (hy2 rfl).1) ((hy rfl).2.trans (hy2 rfl).2.symm)
  |false=>exact zero_alike (hn rfl) (hn2 rfl)
 ·obtain ⟨t,k,hf,hy,hn⟩:=a.k9 e
  obtain ⟨t2,k2,hf2,hy2,hn2⟩:=b.k9 e
  obtain ⟨rfl,rfl⟩:=hf.uniq hf2
  cases k with
  |true=>exact same_alike (is_eq (hy rfl).1 (hy2 rfl).1) ((hy rfl).2.2.trans (hy2 rfl).2.2.symm)
  |false=>exact zero_alike (hn rfl) (hn2 rfl)
 ·exact same_alike (is_eq (a.k10 e).1 (b.k10 e).1) ((a.k10 e).2.2.trans (b.k10 e).2.2.symm)
variable {k2 w2 m2:Int}{ev2:List Ev}
theorem AnsP.move7(hK:K<=7)(hg:atG kd wd mo ev tq=atG k2 w2 m2 ev2 tq)(a:AnsP nd kd wd mo ev K node lv tq S num den A):AnsP nd k2 w2 m2 ev2 K node lv tq S num den A:=⟨λh=>by rw [←hg];exact a.g h,λh=>by omega,λh=>by omega,λh=>by omega⟩
theorem AnsP.move(hall:allE kd wd mo ev=allE k2 w2 m2 ev2)(a:AnsP nd kd wd mo ev K node lv tq S num den A):AnsP nd k2 w2 m2 ev2 K node lv tq S num den A:=by
 have hg:atG kd wd mo ev=atG k2 w2 m2 ev2:=by funext t;unfold atG atK;rw [hall]
 obtain ⟨g,k8,k9,k10⟩:=a
 refine ⟨λh=>by rw [←hg];exact g h,λh=>?_,λh=>?_,λh=>?_⟩
 ·have:=k8 h
  unfold FirstP FirstYes reachQ at this ⊢
  rw [hall,hg] at this;exact this
 ·have:=k9 h
  unfold FirstP FirstYes togQ at this ⊢
  rw [hall,hg] at this;exact this
 ·have:=k10 h
  unfold numT at this ⊢
  rw [hall,hg] at this;exact this
theorem askQ_ok(h:HistOk nd kd wd mo ev):askQ nd kd wd mo ev K node lv tq S num den=checkQ nd K node lv tq S num den:=if_neg (by simp [slideE_zeroH h])
theorem win_alike(hA:HistOk nd kd wd mo ev)(hB:HistOk nd k2 w2 m2 ev2)(a:askQ nd kd wd mo ev K node lv tq S num den=0->AnsP nd kd wd mo ev K node lv tq S num den A)(za:askQ nd kd wd mo ev K node lv tq S num den≠0->A.zero)(b:askQ nd k2 w2 m2 ev2 K node lv tq S num den=0->AnsP nd k2 w2 m2 ev2 K node lv tq S num den B)(zb:askQ nd k2 w2 m2 ev2 K node lv tq S num den≠0->B.zero)
  (hm:QV nd K node lv tq S num den->AnsP nd k2 w2 m2 ev2 K node lv tq S num den B->AnsP nd kd wd mo ev K node lv tq S num den B):askQ nd kd wd mo ev K node lv tq S num den=askQ nd k2 w2 m2 ev2 K node lv tq S num den/\alikeP A B:=by
 rw [askQ_ok hA] at a za ⊢
 rw [askQ_ok hB] at b zb ⊢
 refine ⟨rfl,?_⟩
 by_cases h:checkQ nd K node lv tq S num den=0
 ·exact (a h).alike hA (QV.of h).rng (hm (QV.of h) (b h))
 ·exact zero_alike (za h) (zb h)
theorem lateL_no{xs:List Lk}(h:kd≠2):lateL kd wd xs=[]:=by
 unfold lateL
 rw [List.filter_eq_nil_iff.2 λx _=>by unfold lateP;simp [h]];rfl
theorem all_many(h:StOk nd ev)(hl:ev.length<=50):allE 3 0 100 ev=allE 1 0 0 ev:=by
 unfold allE
 rw [many_same h hl,all_same,lateL_no dc,lateL_no dc]
theorem atG_wide(h:StOk nd ev)(ht:0<=tq/\tq<=900):atG 2 1000 0 ev tq=atG 1 0 0 ev tq:=by
 have h2:HistOk nd 2 1000 0 ev:=⟨h,by decide⟩
 have h1:HistOk nd 1 0 0 ev:=⟨h,by decide⟩
 unfold atG
 rw [atK_up h2 ⟨ht.1,by omega⟩,atK_up h1 ⟨ht.1,by omega⟩,if_pos rfl,if_neg dc,if_neg dc,List.filter_eq_self.2]
 intro x hx
 have hv:checkS nd ((ev.filter (upT tq)).foldl ep [])=0:=steps_val h.nodes _ _ (valNil h.nodes) λy hy=>h.mem y (List.mem_filter.1 hy).1
 have:=badL_tm ((checkS_ok hv).2.1 x hx)
 unfold aliveB
 simp;omega
theorem atG_void(h:HistOk nd 3 0 0 ev)(ht:0<=tq/\tq<=1048576):atG 3 0 0 ev tq=[]:=by
 have:=atG_cnt h ht rfl
 exact List.eq_nil_of_length_eq_zero om
theorem atG_nil:atG 1 0 0 [] tq=[]:=rfl
theorem QV.tim(h:QV nd K node lv tq S num den)(hK:K<=7):0<=tq/\tq<=1048576:=h.time (decide_eq_true ⟨h.rng.1,hK⟩)
end
set_option maxHeartbeats 8000000 in
theorem AnswerWindows_walk{κ:Ctx}{I:List Item}{la:Option Addr}{ln lc:Nat}{ls:List Int}(hl:Sl κ I (.slice la ln lc) ls)(hT:TabRd κ I 0 tzCells):eu Tryz.prog κ 15 [.slice la ln lc] I (λr J=>r = .bool true/\I=J):=by
 refine Ce1 Tryz.func15 C C ?_
 refine Aj (Ga C (Ah (Au (Aj (Gm C (Gc0 (Am call16 C C Few_ok) ?_))))))
 refine Gr (D5 C) (Ah (Bd C (λc20=>?_) (λc20=>?_)))
 ·refine Aj (Gc0 (Am call41 C C (Awake43_ok (Bw hT Ay))) ?_)
  exact Ga C (Ah (Az (Ar (Ba C C I (by first|exact Ay|exact FitW) ⟨rfl,rfl⟩))))
 ·refine A4 (Ai (Aj (Gm C (G.e (Am call18 C C New_ok) ?_))))
  rintro _ _ ⟨_,_,⟨dk1,rfl,rfl⟩,rfl,rfl⟩
  have hi0:(0:Int)<=0:=Int.le_refl _
  refine Ga C (Ah (Aj (Gm C (G.e (Am call42 C C (Some43_at (by repeat (first|exact AtF.head _ _|apply AtF.tail)) (λ_=>Ce hl Ay) om  )) ?_))))
  rintro _ _ ⟨_,_,⟨⟨nn2,ad3,cp4,es5,kd6,wd7,mo8,i9⟩,⟨⟨rfl,hHes5,hles5,hnes5⟩,hi9⟩,rfl⟩,rfl,rfl⟩
  have hi9:0<=i9:=hi9
  dsimp only at hHes5
  dsimp only at hles5
  dsimp only at hnes5
  refine Gm C (Gr (Ax C C) (Gr (Ax C C) (Gr (Ax C C) (Ge1 (A9 ty31 C) λb10=>Ga C (Ga C (Ge0 (Es3_3 ty31) ?_))))))
  have hH:HistOk nn2 kd6 wd7 mo8 es5:=hHes5
  have hel:es5.length<=19:=by have h9:es5.length<=12:=hles5;omega
  have hn2:2<=nn2/\nn2<=6:=hnes5
  refine Ah (Av (S3 5 4 3 C C C) (Aj (Gm C (Gm C (G.e (Am call55 C C (MkQuery_at (by repeat (first|exact AtF.head _ _|apply AtF.tail)) (λ_=>Ce hl Ay) om  om)) ?_)))))
  rintro _ _ ⟨_,_,⟨⟨kq11,nq12,lq13,tq14,ad15,cp16,sq17,uq18,dq19,i20⟩,⟨⟨rfl,hqfkq11,hqtkq11,hqkkq11⟩,hi20⟩,rfl⟩,rfl,rfl⟩
  have hi20:0<=i20:=hi20
  dsimp only at hqfkq11
  dsimp only at hqtkq11
  dsimp only at hqkkq11
  refine Ge1 (A9 ty71 C) λb21=>Ge0 (Fl ty71) ?_
  have hS9:StOk nn2 es5:=hH.st
  have hW1:HistOk nn2 1 0 0 es5:=⟨hS9,by decide⟩
  have hW2:HistOk nn2 3 0 100 es5:=⟨hS9,by decide⟩
  have hW3:HistOk nn2 2 1000 0 es5:=⟨hS9,by decide⟩
  have hW4:HistOk nn2 3 0 0 es5:=⟨hS9,by decide⟩
  have hW5:HistOk nn2 1 0 0 []:=⟨(hist_nil hH).st,by decide⟩
  have hqf:=hqfkq11
  refine Ah (Aj (Gm C (Gm C (Gr (Bc (cells:=[_,_,_]) ty31 Dk pl31 C C) (Gl7 ty71 ?_)))))
  refine G.e (Am call56 C C (AskG_ok (nd:=nn2) (kd:=1) (wd:=0) (mo:=0) (es:=es5) (K:=kq11) (node:=nq12) (lv:=lq13) (tq:=tq14) (num:=uq18) (den:=dq19) (S:=sq17) Bk Bk (by first|exact hel|exact Nat.zero_le _) om hqf (Bw hT Ay))) ?_
  rintro _ _ ⟨_,_,⟨AV22,rfl,hAV22,hzAV22,rfl⟩,rfl,rfl⟩
  refine Gm C (Gr (Ax C C) (Gr (Ax C C) (Ge1 (A9 ty90 C) λb23=>Ge0 (B4 (cs:=[_,_,_,_,_,_,_,_,_,_,_]) (vs:=[_,_,_,_,_,_,_,_,_,_,_]) (cs':=[_,_,_,_,_,_,_,_,_,_,_]) ty90) ?_)))
  refine Ga C (Ah (Av (S5 9 8 7 5 4 C C C C C) (Aj (Gm C (Gm C (Gr (Bc (cells:=[_,_,_]) ty31 Dk pl31 C C) (Gl7 ty71 ?_)))))))
  refine G.e (Am call56 C C (AskG_ok (nd:=nn2) (kd:=3) (wd:=0) (mo:=100) (es:=es5) (K:=kq11) (node:=nq12) (lv:=lq13) (tq:=tq14) (num:=uq18) (den:=dq19) (S:=sq17) Bk Bk (by first|exact hel|exact Nat.zero_le _) om hqf (Bw hT Ay))) ?_
  rintro _ _ ⟨_,_,⟨AV24,rfl,hAV24,hzAV24,rfl⟩,rfl,rfl⟩
  refine Gm C (Gr (Ax C C) (Gr (Ax C C) (Ge1 (A9 ty90 C) λb25=>Ge0 (B4 (cs:=[_,_,_,_,_,_,_,_,_,_,_]) (vs:=[_,_,_,_,_,_,_,_,_,_,_]) (cs':=[_,_,_,_,_,_,_,_,_,_,_]) ty90) ?_)))
  refine Ga C ?_
  have hw1:=win_alike hW1 hW2 hAV22 hzAV22 hAV24 hzAV24 (λ_ x=>x.move (all_many hS9 om))
  refine Ah (Av (S7 11 10 9 8 7 5 4 C C C C C C C) (Au (Aj (Gm C (Gm C (Gr (Bx C C) (Gm C (Bs (d:=52) C (λg52=>?_) (λg52=>?_)))))))))
  ·exact absurd hw1.1 g52
  ·refine e9 (Be (vs:=[_,_,_,_,_,_,_,_,_,_,_]) ty90) ?_
   refine e9 (Be (vs:=[_,_,_,_,_,_,_,_,_,_,_]) ty90) ?_
   refine Et (Cz C C C) (Am call58 C C (Alike_ok (A:=AV22) (B:=AV24) Bk Bk Bk Bk)) ?_
   rintro _ _ ⟨_,_,⟨rfl,rfl⟩,rfl,rfl⟩
   refine e9 (D5 C) (Gr (Al C C) (Ah (Av (S6 57 9 8 7 5 4 C C C C C C) (Bd C (λc57=>?_) (λc57=>?_)))))
   ·exact absurd hw1.2 c57
   ·refine A4 (Ai (Au (Aj (Gf fld71_0 C (Gl ef ?_)))))
    refine Gr (Bx C C) (Gm C (Bs (d:=61) C (λg61=>?_) (λg61=>?_)))
    ·refine e9 (Ab fld71_0 C) (e9 (As ef) ?_)
     refine e9 (Bx C C) (Gr (Ap C C) (Gm C (Bs (d:=66) C (λg66=>?_) (λg66=>?_))))
     ·refine e9 (Ab fld71_0 C) (e9 (As ef) ?_)
      refine e9 (Bx C C) (Gr (Ap C C) (Ah (Av (S6 70 9 8 7 5 4 C C C C C C) (Bd C (λc70=>?_) (λc70=>?_)))))
      ·refine Aj (Gm C (Gm C (Gr (Bc (cells:=[_,_,_]) ty31 Dk pl31 C C) (Gl7 ty71 ?_))))
       refine G.e (Am call56 C C (AskG_ok (nd:=nn2) (kd:=2) (wd:=1000) (mo:=0) (es:=es5) (K:=kq11) (node:=nq12) (lv:=lq13) (tq:=tq14) (num:=uq18) (den:=dq19) (S:=sq17) Bk Bk (by first|exact hel|exact Nat.zero_le _) om hqf (Bw hT Ay))) ?_
       rintro _ _ ⟨_,_,⟨AV26,rfl,hAV26,hzAV26,rfl⟩,rfl,rfl⟩
       refine Gm C (Gr (Ax C C) (Gr (Ax C C) (Ge1 (A9 ty90 C) λb27=>Ge0 (B4 (cs:=[_,_,_,_,_,_,_,_,_,_,_]) (vs:=[_,_,_,_,_,_,_,_,_,_,_]) (cs':=[_,_,_,_,_,_,_,_,_,_,_]) ty90) ?_)))
       refine Ga C (Ah (Av (S7 13 12 9 8 7 5 4 C C C C C C C) (Aj (Gm C (Gm C (Gr (Bc (cells:=[_,_,_]) ty31 Dk pl31 C C) (Gl7 ty71 ?_)))))))
       refine G.e (Am call56 C C (AskG_ok (nd:=nn2) (kd:=3) (wd:=0) (mo:=0) (es:=es5) (K:=kq11) (node:=nq12) (lv:=lq13) (tq:=tq14) (num:=uq18) (den:=dq19) (S:=sq17) Bk Bk (by first|exact hel|exact Nat.zero_le _) om hqf (Bw hT Ay))) ?_
       rintro _ _ ⟨_,_,⟨AV28,rfl,hAV28,hzAV28,rfl⟩,rfl,rfl⟩
       refine Gm C (Gr (Ax C C) (Gr (Ax C C) (Ge1 (A9 ty90 C) λb29=>Ge0 (B4 (cs:=[_,_,_,_,_,_,_,_,_,_,_]) (vs:=[_,_,_,_,_,_,_,_,_,_,_]) (cs':=[_,_,_,_,_,_,_,_,_,_,_]) ty90) ?_)))
       refine Ga C (Ah (Av (S8 15 14 13 12 9 8 7 4 C C C C C C C C) (Aj (Gm C (Gr (Bc (cells:=[_,_,_]) ty31 Dk pl31 C C) (Gl7 ty71 ?_))))))
       refine G.e (Am call56 C C (AskG_ok (nd:=nn2) (kd:=1) (wd:=0) (mo:=0) (es:=[]) (K:=kq11) (node:=nq12) (lv:=lq13) (tq:=tq14) (num:=uq18) (den:=dq19) (S:=sq17) (Sl.nil _) Bk (by first|exact hel|exact Nat.zero_le _) om hqf (Bw hT Ay))) ?_
       rintro _ _ ⟨_,_,⟨AV30,rfl,hAV30,hzAV30,rfl⟩,rfl,rfl⟩
       refine Gm C (Gr (Ax C C) (Gr (Ax C C) (Ge1 (A9 ty90 C) λb31=>Ge0 (B4 (cs:=[_,_,_,_,_,_,_,_,_,_,_]) (vs:=[_,_,_,_,_,_,_,_,_,_,_]) (cs':=[_,_,_,_,_,_,_,_,_,_,_]) ty90) ?_)))
       refine Ga C ?_
       have hK7:kq11<=7:=by have:=hqkkq11;omega
       have hw2:=win_alike hW1 hW3 hAV22 hzAV22 hAV26 hzAV26 (λhq x=>x.move7 hK7 (atG_wide hS9 ⟨(hq.tim hK7).1,by have:=hqtkq11;omega⟩))
       have hw3:=win_alike hW4 hW5 hAV28 hzAV28 hAV30 hzAV30 (λhq x=>x.move7 hK7 (atG_nil.trans (atG_void hW4 (hq.tim hK7)).symm))
       refine Ah (Av (S8 17 16 15 14 13 12 9 8 C C C C C C C C) (Aj (Gm C (Gm C (Gr (Bx C C) (Gm C (Bs (d:=97) C (λg97=>?_) (λg97=>?_))))))))
       ·exact absurd hw2.1.symm g97
       ·refine e9 (Be (vs:=[_,_,_,_,_,_,_,_,_,_,_]) ty90) ?_
        refine e9 (Be (vs:=[_,_,_,_,_,_,_,_,_,_,_]) ty90) ?_
        refine Et (Cz C C C) (Am call58 C C (Alike_ok (A:=AV22) (B:=AV26) Bk Bk Bk Bk)) ?_
        rintro _ _ ⟨_,_,⟨rfl,rfl⟩,rfl,rfl⟩
        refine e9 (D5 C) (Gr (Al C C) (Gm C (Bs (d:=103) C (λg103=>?_) (λg103=>?_))))
        ·exact absurd hw2.2 g103
        ·refine e9 (Af C) (e9 (Af C) (e9 (Bx C C) (Gr (Al C C) (Gm C (Bs (d:=108) C (λg108=>?_) (λg108=>?_))))))
         ·exact absurd hw3.1 g108
         ·refine e9 (Be (vs:=[_,_,_,_,_,_,_,_,_,_,_]) ty90) ?_
          refine e9 (Be (vs:=[_,_,_,_,_,_,_,_,_,_,_]) ty90) ?_
          refine Et (Cz C C C) (Am call58 C C (Alike_ok (A:=AV28) (B:=AV30) Bk Bk Bk Bk)) ?_
          rintro _ _ ⟨_,_,⟨rfl,rfl⟩,rfl,rfl⟩
          refine e9 (D5 C) (Gr (Al C C) (Ah (Av (S1 113 C) (Bd C (λc113=>?_) (λc113=>?_)))))
          ·exact absurd hw3.2 c113
          ·refine A4 (Ai (Aj (Gc0 (Am call41 C C (Awake43_ok (Bw hT Ay))) ?_)))
           exact Ga C (Ah (Az (Ba C C I (by first|exact Ay|exact FitW) ⟨rfl,rfl⟩)))
      ·refine A4 (Ai (Aj (Gc0 (Am call41 C C (Awake43_ok (Bw hT Ay))) ?_)))
       exact Ga C (Ah (Az (Ba C C I (by first|exact Ay|exact FitW) ⟨rfl,rfl⟩)))
     ·refine eb (eb (eb (Gr (Al C C) (Ah (Av (S6 70 9 8 7 5 4 C C C C C C) (Eo C (A4 (Ai (Aj (Gc0 (Am call41 C C (Awake43_ok (Bw hT Ay))) ?_))))))))))
      exact Ga C (Ah (Az (Ba C C I (by first|exact Ay|exact FitW) ⟨rfl,rfl⟩)))
    ·refine eb (eb (eb (Gr (Al C C) (Gm C (eb (eb (eb (Gr (Al C C) (Ah (Av (S6 70 9 8 7 5 4 C C C C C C) (Eo C (A4 (Ai (Aj (Gc0 (Am call41 C C (Awake43_ok (Bw hT Ay))) ?_)))))))))))))))
     exact Ga C (Ah (Az (Ba C C I (by first|exact Ay|exact FitW) ⟨rfl,rfl⟩)))
end Go.Sl
namespace Go.Sl
open Go.ChangeShapes Go.WideShapes Go.ChangeAt Go.RowKit Go.Deep
section
variable {κ:Ctx}{w w':World}{I:List Item}
theorem old_cell(hs:Sep κ w' I)(hm:old w.heap.size w∈I){b o:Nat}{u:Value}(hc:w.cell? ⟨b,o,none⟩=some u):w'.cell? ⟨b,o,none⟩=some u:=by
 have hok:∀k,k<w.heap.size->w'.heap[k]? = w.heap[k]? :=(hs.ok _ hm).1
 have hb:b<w.heap.size:=by
  refine Nat.not_le.1 λh=>?_
  simp [World.cell?,Array.getElem?_eq_none h] at hc
 have:=hok b hb
 simp only [World.cell?,this] at hc ⊢
 exact hc
def SlW{α:Type}[Enc α](w:World)(v:Value)(xs:List α):Prop:=slOk w (Enc.sz α) v xs.length (cells xs)
theorem SlW.sl{α:Type}[Enc α]{v:Value}{xs:List α}(h:SlW w v xs)(hm:old w.heap.size w∈I):Sl κ I v xs:=λw' hs=>by
 obtain ⟨a,cap,hv,h1,h2,h3,h4⟩:=h
 refine ⟨a,cap,hv,h1,h2,h3,λhc=>?_⟩
 obtain ⟨b,off,ha,hr⟩:=h4 hc
 exact ⟨b,off,ha,λj u hj=>old_cell hs hm (hr j u hj)⟩
end
section
variable {P:Program}{w:World}{r:Reach}{b0:Nat}{t:TypeId}{H:Type}{enc:TypeId×Value->H}{base:Nat}{spare:Nat->Bool}{held:Bool}
theorem spot_none{e:TypeId}{a:Addr}{len cap:Nat}(ht:P.underlying t=some (.slice e))(h:Cell.okWide P w r b0 t (.slice (some a) len cap)):a.spot=none:=by
 simp only [Cell.okWide,Cell.ok,ht] at h
 exact h.2.2.2.1
theorem InR_of{n:Int}(h:(Lit.int .i64 n).wf=true):InR n:=by
 simp only [Lit.wf,Bool.and_eq_true,decide_eq_true_eq] at h
 exact h
def Light(P:Program)(t:TypeId)(d:DataW H):Prop:=∀n∈d.weights P t,n<=reachBytes
theorem light_arg{ts:List TypeId}{ds:List (DataW H)}(h:(DataW.weightsEach P ts ds).all (· <= reachBytes)=true){j:Nat}{d:DataW H}(ht:ts[j]? = some t)(hd:ds[j]? = some d):Light P t d:=λn hn=>by
 have:=List.all_eq_true.1 h _ (DataW.weights_mem_each ht hd n hn)
 simpa using this
theorem light_slice{e:TypeId}{es sp:List (DataW H)}(ht:P.underlying t=some (.slice e))(h:Light P t (.slice es sp)):es.length*P.bytesOf e<=140737488351232:=by
 have h1:=h ((es.length+sp.length)*P.bytesOf e) (by simp [DataW.weights,ht])
 have h2:es.length*P.bytesOf e<=(es.length+sp.length)*P.bytesOf e:=Nat.mul_le_mul_right _ (by omega)
 simp only [reachBytes] at h1
 omega
theorem addr_eta{a:Addr}(h:a.spot=none):a=⟨a.block,a.off,none⟩:=by cases a;simp_all
theorem in_ints{e:TypeId}{v:Value}{fuel:Nat}{x:DataW H×List MemPlace}(ht:P.underlying t=some (.slice e))(he:P.underlying e=some (.int .i64))(hc:P.cellsOf e=1)
  (hv:Cell.okWide P w r b0 t v) (h:DataW.trod enc P w base spare held fuel t [v]=some x) (hw:Light P t x.1):∃(a:Option Addr) (c:Nat) (xs:List Int),v = .slice a xs.length c/\SlW w (.slice a xs.length c) xs/\(∀n∈xs,InR n)/\xs.length*P.bytesOf e<=140737488351232:=by
 rcases open_ints ht he hc h with ⟨hcs,_⟩|⟨a,l,c,zs,hcs,_,hl,hm,hz,hx,hcell,hwz⟩
 ·obtain rfl:v = .slice none 0 0:=by simpa using hcs
  exact ⟨none,0,[],rfl,⟨none,0,rfl,by simp [cells],Nat.le_refl _,by simp,λh=>by omega⟩,by simp,by simp⟩
 ·obtain rfl:v = .slice (some a) l c:=by simpa using hcs
  have hsp:=spot_none ht hv
  have hlen:l<=zs.length:=by rw [hz];split<;>omega
  have hxl:(zs.take l).length=l:=by rw [List.length_take];omega
  refine ⟨some a,c,zs.take l,by rw [hxl],⟨some a,c,rfl,cells_length _,by rw [hxl];exact hl,hm,λhc0=>⟨a.block,a.off,by rw [←addr_eta hsp],λj u hj=>?_⟩⟩,λn hn=>InR_of (hwz n (List.mem_of_mem_take hn)),by
   rw [hx] at hw
   have:=light_slice ht hw
   simpa [lits] using this⟩
  have hjl:j<l:=by
   have:=(List.getElem?_eq_some_iff.1 hj).1
   rw [cells_length,hxl] at this
   have e1:Enc.sz Int=1:=rfl
   rw [e1] at this;omega
  have h1:=cells_get (zs.take l) j 0 (by omega) (by decide)
  have e1:j*Enc.sz Int+0=j:=by show j*1+0=j;omega
  rw [e1] at h1
  rw [h1] at hj
  have h2:=hcell j (by omega)
  rw [addr_eta hsp,addr_add] at h2
  have h3:u=e7 (zs.getD j 0):=by
   have h4:some (e7 ((zs.take l)[j]'(by omega)))=some u:=hj
   simp only [Option.some.injEq] at h4
   rw [←h4]
   simp [List.getD_eq_getElem?_getD,List.getElem?_eq_getElem (show j<zs.length by omega)]
  rw [h3];exact h2
theorem arg_cell{v:Value}{d:DataW H}{ps:List MemPlace}{e:TypeId}(ht:P.underlying t=some (.slice e))(hv:Value.okWide P w r b0 t v)(h:DataW.Trod enc P w base spare held t v d ps):Cell.okWide P w r b0 t v/\∃fuel,DataW.trod enc P w base spare held fuel t [v]=some (d,ps):=by
 obtain ⟨a,len,cap,rfl⟩:=okWide_slice ht hv
 simp only [Value.okWide,ht] at hv
 obtain ⟨fuel,hf⟩:=h
 exact ⟨hv,fuel,by simpa [Value.cells] using hf⟩
theorem joined_mk{P:Program}{f:FuncId}{fn:Func}{s:ChangeSpec}{c:OpenClaim}(h1:(c.wf (OpenSpec.ofChange s))=true)(h2:(laidOutB P)=true)(h3:(mapsRowed P)=true)(h4:(fn.params.all (P.readableRec ·))=true)(h5:(namedTie P c.named s.vars)=true)(h6:((c.stops==[]))=true)(h7:((P.stops==[]))=true)(h8:((c.knobs==[]))=true)(h9:((P.stopKnobs==[]))=true)(h10:((c.inPlace==P.inPlace f))=true)(h11:((c.unfollowed==P.unfollowed f))=true)(h12:((c.recurses==P.recurses f))=true)(h13:((c.named==P.varsNamed f))=true)(h14:((c.maps==(fn.params.toList++s.plain.varTypes P).any (P.mapsRec ·)))=true)(h15:((c.ifaces==(fn.params.toList++s.plain.varTypes P).any (P.ifacesRec ·)))=true)(h16:((c.mapsOut==P.mapsAmong fn.resultTypes.toList))=true)(h17:((c.loops==(fn.params.toList++s.plain.varTypes P).any (P.loopsFrom ·)))=true)(h18:((c.wideKeys==(fn.params.toList++s.plain.varTypes P++fn.resultTypes.toList).any (P.wideKeysFrom ·)))=true)(h19:(s.vars.all (P.varReadable ·))=true)(h20:(fn.resultTypes.all (λt=>P.readableRec t&&decide (t<P.types.size)))=true)(h21:((c.ifacesOut==fn.resultTypes.toList.any (P.ifacesRec ·)))=true)(h22:((c.loopsOut==fn.resultTypes.toList.any (P.loopsFrom ·)))=true)(h23:((c.plainKeys==P.plainKeys))=true)(h24:(c.shortTexts.isNone)=true)(h25:(P.stopsHeard)=true)(h26:(P.mayEnter)=true)(h27:((c.lifted==P.liftsFinal))=true)(h28:((P.make==some c.make))=true)(h29:((c.kinds==(if c.domain.isEmpty then [] else fn.params.toList.map λt=>match P.underlying t with |some (.int k)=>some k|_=>none)))=true)(h30:((c.pinned==c.pinnedBy))=true)(h31:((c.veiled==(fn.params.toList++s.plain.varTypes P++fn.resultTypes.toList).any (P.veiledRec ·)))=true)(h32:(c.veiledFits P fn.params.toList (fn.params.toList++s.plain.varTypes P++fn.resultTypes.toList))=true):joinedFacts P f fn s c=true:=by
 unfold joinedFacts
 exact (Bool.and_eq_true_iff.2 ⟨(Bool.and_eq_true_iff.2 ⟨(Bool.and_eq_true_iff.2 ⟨(Bool.and_eq_true_iff.2 ⟨(Bool.and_eq_true_iff.2 ⟨(Bool.and_eq_true_iff.2 ⟨(Bool.and_eq_true_iff.2 ⟨(Bool.and_eq_true_iff.2 ⟨(Bool.and_eq_true_iff.2 ⟨(Bool.and_eq_true_iff.2 ⟨(Bool.and_eq_true_iff.2 ⟨(Bool.and_eq_true_iff.2 ⟨(Bool.and_eq_true_iff.2 ⟨(Bool.and_eq_true_iff.2 ⟨(Bool.and_eq_true_iff.2 ⟨(Bool.and_eq_true_iff.2 ⟨(Bool.and_eq_true_iff.2 ⟨(Bool.and_eq_true_iff.2 ⟨(Bool.and_eq_true_iff.2 ⟨(Bool.and_eq_true_iff.2 ⟨(Bool.and_eq_true_iff.2 ⟨(Bool.and_eq_true_iff.2 ⟨(Bool.and_eq_true_iff.2 ⟨(Bool.and_eq_true_iff.2 ⟨(Bool.and_eq_true_iff.2 ⟨(Bool.and_eq_true_iff.2 ⟨(Bool.and_eq_true_iff.2 ⟨(Bool.and_eq_true_iff.2 ⟨(Bool.and_eq_true_iff.2 ⟨(Bool.and_eq_true_iff.2 ⟨(Bool.and_eq_true_iff.2 ⟨h1,h2⟩),h3⟩),h4⟩),h5⟩),h6⟩),h7⟩),h8⟩),h9⟩),h10⟩),h11⟩),h12⟩),h13⟩),h14⟩),h15⟩),h16⟩),h17⟩),h18⟩),h19⟩),h20⟩),h21⟩),h22⟩),h23⟩),h24⟩),h25⟩),h26⟩),h27⟩),h28⟩),h29⟩),h30⟩),h31⟩),h32⟩)
theorem calls_below{f:FuncId}{args:List Value}(h:eu P ⟨w.os,w.tape,w.output,w.drawn⟩ f args [old w.heap.size w] λr J=>r = .bool true/\[old w.heap.size w]=J) :
  Calls P f args.toArray w λe w'=>e = .returned (.bool true)/\Below w.heap.size w w':=
 (h w (Sep.begin w)).mono λe w' ⟨v,J,he,⟨hv,hJ⟩,hs⟩=>by
  subst hv hJ
  exact ⟨he,hs.below List.mem_cons_self⟩
end
end Go.Sl
