/- A part of the proofs of statements of this seat: contracts of functions, and the plain laws that they lean on. No conditions. -/
import Derived.Test.YtnbkccjkdpolmaaGreatDoorA21
set_option linter.unusedVariables false
set_option linter.unusedSimpArgs false
set_option linter.unusedSectionVars false
open Go.Proofs.Tryz (prog)
set_option maxHeartbeats 2000000
namespace Go.Sl
open Go.Proofs
set_option maxRecDepth 4000
variable{xs ys:List Pt}{b:Nat}{lv:Value}{ls:List Int}{i nodes:Int}
variable {κ:Ctx}{I:List Item}
attribute [local irreducible] W G V D A Runs Eff
theorem eqt51:EqT prog 51 Pt:=EqT.flat (λp:Pt=>[p.u,p.v]) (λ_=>rfl) (λx y h=>by cases x;cases y;simpa using h) (n:=2) (λ_=>rfl) kr kr kr kr kr
theorem list_eqP(hl:xs.length=ys.length)(h:∀j:Nat,j<xs.length->e_ xs j=e_ ys j):xs=ys:=by
 refine List.ext_getElem hl λi M h2=>?_
 have:=h i M
 rwa [Cx xs i M,Cx ys i h2] at this
def alikeP(A B:AnV):Prop:=A.fd=B.fd/\A.num=B.num/\A.tm=B.tm/\cmpL A.S B.S=0/\(⟨A.dn,A.dd⟩:Fr)=⟨B.dn,B.dd⟩/\A.P=B.P
instance (A B:AnV):Decidable (alikeP A B):=inferInstanceAs (Decidable (_/\_))
theorem SameSp_ok{va vb:Value}(hl:Sl κ I va xs)(hm:Sl κ I vb ys):eu prog κ 42 [va,vb] I (λr J=>r = .bool (decide (xs=ys))/\I=J):=by
 refine Bu hl.le λae=>?_
 refine Bu hm.le λad=>?_
 refine Ce2 Tryz.func42 C C<|Z ?_
 refine Ap C (λc10=>Z ?_)<|λc10=>Z ?_
 ·have M:xs≠ys:=λe=>by subst e;omega
  exact Ai C C I Ah ⟨by rw [decide_eq_false M],rfl⟩
 refine D7 (σ:=Nat) (λs=>[(5,e7 ((s:Nat):Int))]) (λ_=>[]) (λs=>(s<=xs.length)/\(∀j:Nat,j<s->e_ xs j=e_ ys j)) (λs=>xs.length - s) 0 ⟨om,(λj h=>by omega)⟩ ?_
 rintro k hp
 obtain ⟨hk,hn⟩:=hp
 refine Z ?_
 refine Ap C (λab=>Z ?_)<|λab=>Z ?_
 ·refine A4 mixed (Cm I 9<|Z ?_)
  refine Dr 8 C (Dc (α:=Pt) (a:=(e_ xs k)) (b:=(e_ ys k)) eqt51 C C)<|Z ?_
  refine Ap C (λaa=>Z ?_)<|λaa=>Z ?_
  ·have M:xs≠ys:=λe=>by subst e;exact aa rfl
   exact Ai C C I Ah ⟨by rw [decide_eq_false M],rfl⟩
  exact B5 ((k+1)) ⟨om,(λj h=>by by_cases e:j=k;(· subst e;exact Classical.not_not.1 aa);(· exact hn j om))⟩
 have he:xs=ys:=list_eqP om (λj hj=>hn j om)
 exact Ai C C I Ah ⟨by rw [decide_eq_true he],rfl⟩
theorem Alike_ok{A B:AnV}(ak:Sl κ I (.slice A.sa A.S.length A.sc) A.S)(ab:Sl κ I (.slice A.pa A.P.length A.pc) A.P)(aa:Sl κ I (.slice B.sa B.S.length B.sc) B.S)(M:Sl κ I (.slice B.pa B.P.length B.pc) B.P):eu prog κ 16 [.agg #[.bool (A.fd),e7 (A.num),e7 (A.tm),.slice A.sa A.S.length A.sc,e7 (A.dn),e7 (A.dd),.slice A.pa A.P.length A.pc,.slice A.oa A.O.length A.oc,.slice A.na A.N.length A.nc,e7 (A.E),.slice A.qa A.Q.length A.qc],.agg #[.bool (B.fd),e7 (B.num),e7 (B.tm),.slice B.sa B.S.length B.sc,e7 (B.dn),e7 (B.dd),.slice B.pa B.P.length B.pc,.slice B.oa B.O.length B.oc,.slice B.na B.N.length B.nc,e7 (B.E),.slice B.qa B.Q.length B.qc]] I (λr J=>r = .bool (decide (alikeP A B))/\I=J):=by
 refine Ce2 Tryz.func16 C C ?_
 refine Ar<|Ge1 (Al (cs:=[_,_,_,_,_,_,_,_,_,_,_]) C C C) λb1=>Ge1 (Al (cs:=[_,_,_,_,_,_,_,_,_,_,_]) C C C) λb2=>Z ?_
 refine Gr (Runs.eqlb E0 C C)<|Gm C<|A6 (d:=10) C (λad=>Z ?_)<|λad=>Z ?_
 ·refine A6 (d:=17) C (λae=>Z ?_) (λae=>Z ?_)
  ·refine A6 (d:=24) C (λaj=>Z ?_) (λaj=>Z ?_)
   ·refine Dn (B7 C C C) (Ac c_ C C<|Cmp_ok (Au ak)<|Au aa) ?_
    rintro _ _ ⟨_,_,⟨rfl,rfl⟩,rfl,rfl⟩
    refine Z ?_
    refine A6 (d:=32) C (λai=>Z ?_)<|λai=>Z ?_
    ·refine e9 (Runs.eqlT (a:=(⟨A.dn,A.dd⟩:Fr)) (b:=(⟨B.dn,B.dd⟩:Fr)) eqt34 C C) (Z ?_)
     refine A6 (d:=39) C (λah=>Z ?_)<|λah=>Z ?_
     ·refine Dn (B7 C C C) (Ac c_ C C<|SameSp_ok (Au ab)<|Au M) ?_
      rintro _ _ ⟨_,_,⟨rfl,rfl⟩,rfl,rfl⟩
      refine Z ?_
      exact Ai C C I Ah ⟨congrArg Value.bool<|by first|exact decide_eq_decide.2 ⟨λh=>⟨by assumption,by assumption,by assumption,by assumption,by assumption,h⟩,λh=>h.2.2.2.2.2⟩|exact (decide_eq_false<|λh=>absurd h.1 asm).symm|exact (decide_eq_false<|λh=>absurd h.2.1 asm).symm|exact (decide_eq_false<|λh=>absurd h.2.2.1 asm).symm|exact (decide_eq_false<|λh=>absurd h.2.2.2.1 asm).symm|exact (decide_eq_false<|λh=>absurd h.2.2.2.2.1 asm).symm,rfl⟩
     exact Ai C C I Ah ⟨congrArg Value.bool<|by first|exact decide_eq_decide.2 ⟨λh=>⟨by assumption,by assumption,by assumption,by assumption,by assumption,h⟩,λh=>h.2.2.2.2.2⟩|exact (decide_eq_false<|λh=>absurd h.1 asm).symm|exact (decide_eq_false<|λh=>absurd h.2.1 asm).symm|exact (decide_eq_false<|λh=>absurd h.2.2.1 asm).symm|exact (decide_eq_false<|λh=>absurd h.2.2.2.1 asm).symm|exact (decide_eq_false<|λh=>absurd h.2.2.2.2.1 asm).symm,rfl⟩
    exact Ai C C I Ah ⟨congrArg Value.bool<|by first|exact decide_eq_decide.2 ⟨λh=>⟨by assumption,by assumption,by assumption,by assumption,by assumption,h⟩,λh=>h.2.2.2.2.2⟩|exact (decide_eq_false<|λh=>absurd h.1 asm).symm|exact (decide_eq_false<|λh=>absurd h.2.1 asm).symm|exact (decide_eq_false<|λh=>absurd h.2.2.1 asm).symm|exact (decide_eq_false<|λh=>absurd h.2.2.2.1 asm).symm|exact (decide_eq_false<|λh=>absurd h.2.2.2.2.1 asm).symm,rfl⟩
   exact Ai C C I Ah ⟨congrArg Value.bool<|by first|exact decide_eq_decide.2 ⟨λh=>⟨by assumption,by assumption,by assumption,by assumption,by assumption,h⟩,λh=>h.2.2.2.2.2⟩|exact (decide_eq_false<|λh=>absurd h.1 asm).symm|exact (decide_eq_false<|λh=>absurd h.2.1 asm).symm|exact (decide_eq_false<|λh=>absurd h.2.2.1 asm).symm|exact (decide_eq_false<|λh=>absurd h.2.2.2.1 asm).symm|exact (decide_eq_false<|λh=>absurd h.2.2.2.2.1 asm).symm,rfl⟩
  exact Ai C C I Ah ⟨congrArg Value.bool<|by first|exact decide_eq_decide.2 ⟨λh=>⟨by assumption,by assumption,by assumption,by assumption,by assumption,h⟩,λh=>h.2.2.2.2.2⟩|exact (decide_eq_false<|λh=>absurd h.1 asm).symm|exact (decide_eq_false<|λh=>absurd h.2.1 asm).symm|exact (decide_eq_false<|λh=>absurd h.2.2.1 asm).symm|exact (decide_eq_false<|λh=>absurd h.2.2.2.1 asm).symm|exact (decide_eq_false<|λh=>absurd h.2.2.2.2.1 asm).symm,rfl⟩
 exact Ai C C I Ah ⟨congrArg Value.bool<|by first|exact decide_eq_decide.2 ⟨λh=>⟨by assumption,by assumption,by assumption,by assumption,by assumption,h⟩,λh=>h.2.2.2.2.2⟩|exact (decide_eq_false<|λh=>absurd h.1 asm).symm|exact (decide_eq_false<|λh=>absurd h.2.1 asm).symm|exact (decide_eq_false<|λh=>absurd h.2.2.1 asm).symm|exact (decide_eq_false<|λh=>absurd h.2.2.2.1 asm).symm|exact (decide_eq_false<|λh=>absurd h.2.2.2.2.1 asm).symm,rfl⟩
theorem MkQuery_base(hl:∀q,Sl κ (deck b lv q::I) lv ls)(h0:0<=i)(hn:nodes<=64):eu prog κ 12 [.pointer (some ⟨b,0,none⟩),e7 nodes] (e8 b [lv,e7 i] 65::I) (λr J=>∃y:Int×Int×Int×Int×(Option Addr)×Nat×(List Int)×Int×Int×Int,((r = .agg #[e7 y.1,e7 y.2.1,e7 y.2.2.1,e7 y.2.2.2.1,.slice y.2.2.2.2.1 y.2.2.2.2.2.2.1.length y.2.2.2.2.2.1,e7 y.2.2.2.2.2.2.2.1,e7 y.2.2.2.2.2.2.2.2.1]/\(densF y.1=true->FrV ⟨y.2.2.2.2.2.2.2.1,y.2.2.2.2.2.2.2.2.1⟩)/\y.2.2.2.1<=29/\(1<=y.1/\y.1<=10))/\0<=y.2.2.2.2.2.2.2.2.2)/\J=[vc 3 (.slice y.2.2.2.2.1 y.2.2.2.2.2.2.1.length y.2.2.2.2.2.1) y.2.2.2.2.2.2.1]++deck b lv y.2.2.2.2.2.2.2.2.2::I):=by
 refine Ce2 Tryz.func12 C C ?_
 refine Ar<|Ge1 (Am ty36 C) λb1=>As<|Ar<|Gm C<|G.e (Ac c_ C C<|Next_ok (by repeat (first|exact AtF.head _ _|apply AtF.tail)) (Bm (hl _) Ah) om om) ?_
 rintro _ _ ⟨_,_,⟨x2,i3,rfl,ct,cn,rfl⟩,rfl,rfl⟩
 refine Z ?_
 refine Ge1 (Am ty36 C) λb4=>Ge0 (Fj ty36) ?_
 refine As<|Ar<|Gm C<|Gr (Runs.max C C) ?_
 obtain ⟨mq,a4⟩:∃mq,(if 1<nodes then nodes else 1)=mq:=⟨_,rfl⟩
 have cz:1<=mq/\mq<=64:=by rw [←a4];split<;>omega
 rw [a4]
 refine Ga C<|As<|E8 (σ:=Int×Int×Int×Int×(Option Addr)×Nat×(List Int)×Int×Int×Int) (λs=>([(0,.pointer<|some ⟨b,0,none⟩),(4,.pointer<|some ⟨b1,0,none⟩),(5,.pointer<|some ⟨b4,0,none⟩)]:Env)) (λs=>e8 b4 [e7 (s.1),e7<|s.2.1,e7<|s.2.2.1,e7<|s.2.2.2.1,.slice s.2.2.2.2.1 s.2.2.2.2.2.2.1.length s.2.2.2.2.2.1,e7<|s.2.2.2.2.2.2.2.1,e7<|s.2.2.2.2.2.2.2.2.1] 36::vc 3 (.slice s.2.2.2.2.1 s.2.2.2.2.2.2.1.length s.2.2.2.2.2.1) (s.2.2.2.2.2.2.1)::e8 b1 [e7 0,e7 0,e7 0,e7 0,.slice none 0 0,e7 0,e7 0] 36::e8 b [lv,e7<|s.2.2.2.2.2.2.2.2.2] 65::I) (λs=>(1<=s.1/\s.1<=10)/\((0<=s.2.1/\s.2.1<64)/\(0<=s.2.2.1/\s.2.2.1<=3)/\(0<=s.2.2.2.1/\s.2.2.2.1<=29)/\0<=s.2.2.2.2.2.2.2.2.2)/\(s.1=8->FrV ⟨s.2.2.2.2.2.2.2.1,s.2.2.2.2.2.2.2.2.1⟩)) ?_ ?_
 ·refine Z ?_
  refine Ap C (λbw=>Z ?_)<|λbw=>Z ?_
  ·refine G.e (Ac c_ C C<|Next_ok (by repeat (first|exact AtF.head _ _|apply AtF.tail)) (Bm (hl _) Ah) om om) ?_
   rintro _ _ ⟨_,_,⟨x5,i6,rfl,cp,cy,rfl⟩,rfl,rfl⟩
   refine Gm C<|G.e (Ac c_ C C<|Next_ok (by repeat (first|exact AtF.head _ _|apply AtF.tail)) (Bm (hl _) Ah) om om) ?_
   rintro _ _ ⟨_,_,⟨x7,i8,rfl,cu,cw,rfl⟩,rfl,rfl⟩
   refine Gf fld36_1 C<|Ge0 (Do ef) ?_
   refine Gf fld36_3 C<|Ge0 (Do ef) ?_
   exact Bi<|Av<|Cg ((1+x2),(x5),(0),(x7),(none),(0),([]),(0),(0),(i8)) (by dsimp only;exact ⟨om,om,(λh=>by first|assumption|(exfalso;omega))⟩) (hI:=by (try dsimp only);exact (Ak (nv3 _) Bb))
  refine Ap C (λbi=>Z ?_)<|λbi=>Z ?_
  ·refine G.e (Ac c_ C C<|Next_ok (by repeat (first|exact AtF.head _ _|apply AtF.tail)) (Bm (hl _) Ah) om om) ?_
   rintro _ _ ⟨_,_,⟨x9,cr,rfl,cv,cf,rfl⟩,rfl,rfl⟩
   refine Gm C<|G.e (Ac c_ C C<|Next_ok (by repeat (first|exact AtF.head _ _|apply AtF.tail)) (Bm (hl _) Ah) om om) ?_
   rintro _ _ ⟨_,_,⟨bf,co,rfl,ce,bx,rfl⟩,rfl,rfl⟩
   refine Gm C<|G.e (Ac c_ C C<|Next_ok (by repeat (first|exact AtF.head _ _|apply AtF.tail)) (Bm (hl _) Ah) om om) ?_
   rintro _ _ ⟨_,_,⟨bu,bq,rfl,b2,cj,rfl⟩,rfl,rfl⟩
   refine Gf fld36_1 C<|Ge0 (Do ef) ?_
   refine Gf fld36_2 C<|Ge0 (Do ef) ?_
   refine Gf fld36_3 C<|Ge0 (Do ef) ?_
   exact Bi<|Av<|Cg ((1+x2),(x9),(bf),(bu),(none),(0),([]),(0),(0),(bq)) (by dsimp only;exact ⟨om,om,(λh=>by first|assumption|(exfalso;omega))⟩) (hI:=by (try dsimp only);exact (Ak (nv3 _) Bb))
  refine Ap C (λa9=>Z ?_)<|λa9=>Z ?_
  ·refine G.e (Ac c_ C C<|Next_ok (by repeat (first|exact AtF.head _ _|apply AtF.tail)) (Bm (hl _) Ah) om om) ?_
   rintro _ _ ⟨_,_,⟨ab,cq,rfl,b6,bz,rfl⟩,rfl,rfl⟩
   refine Z ?_
   refine G.e (Ac c_ C C<|Next_ok (by repeat (first|exact AtF.head _ _|apply AtF.tail)) (Bm (hl _) Ah) om om) ?_
   rintro _ _ ⟨_,_,⟨aa,cx,rfl,b7,ch,rfl⟩,rfl,rfl⟩
   refine Z ?_
   refine Ge1 (B9 (α:=Int) (cs:=[_,_]) (xs:=[if aa<ab then aa else ab,if ab<aa then aa else ab]) Aa ef C C dc dc C C C C) λax=>?_
   refine Gm C<|G.e (Ac c_ C C<|Next_ok (by repeat (first|exact AtF.head _ _|apply AtF.tail)) (Bm (hl _) Ah) om om) ?_
   rintro _ _ ⟨_,_,⟨bg,bo,rfl,b5,ck,rfl⟩,rfl,rfl⟩
   refine Gf fld36_4 C<|Ge0 (Do ty22) ?_
   refine Gf fld36_3 C<|Ge0 (Do ef) ?_
   exact Bi<|Av<|Cg ((1+x2),(0),(0),(bg),(ax),(2),(([if aa<ab then aa else ab,if ab<aa then aa else ab]:List Int)),(0),(0),(bo))<|by dsimp only;exact ⟨om,om,(λh=>by first|assumption|(exfalso;omega))⟩
  refine Ap C (λbh=>Z ?_)<|λbh=>Z ?_
  ·refine G.e (Ac c_ C C<|MkSome_at (by repeat (first|exact AtF.head _ _|apply AtF.tail)) (λ_=>Bm (hl _) Ah) om  om) ?_
   rintro _ _ ⟨_,_,⟨⟨a1,au,ay,ba⟩,⟨⟨rfl,ak,ai⟩,ap⟩,rfl⟩,rfl,rfl⟩
   have ap:0<=ba:=ap
   dsimp only at ak
   dsimp only at ai
   refine Gm C<|G.e (Ac c_ C C<|Next_ok (by repeat (first|exact AtF.head _ _|apply AtF.tail)) (Bm (hl _) Ah) om om) ?_
   rintro _ _ ⟨_,_,⟨bk,bj,rfl,cc,ca,rfl⟩,rfl,rfl⟩
   refine Gf fld36_4 C<|Ge0 (Do ty22) ?_
   refine Gf fld36_3 C<|Ge0 (Do ef) ?_
   exact Bi<|Av<|Cg ((1+x2),(0),(0),(bk),(a1),(au),(ay),(0),(0),(bj))<|by dsimp only;exact ⟨om,om,(λh=>by first|assumption|(exfalso;omega))⟩
  refine Ap C (λbv=>?_)<|λbv=>Z ?_
  ·refine Be (Gm C<|G.e (Ac c_ C C<|MkFrac_at (by repeat (first|exact AtF.head _ _|apply AtF.tail)) (λ_=>Bm (hl _) Ah) om  ) ?_)
   rintro _ _ ⟨_,_,⟨⟨av,az,a0⟩,⟨⟨rfl,aj,ad⟩,an⟩,rfl⟩,rfl,rfl⟩
   have an:0<=a0:=an
   dsimp only at aj
   dsimp only at ad
   refine Gf fld36_5 C<|Ge0 (A3 (cs:=[_,_,_,_,_,_,_]) (vs:=[_,_]) (cs':=[_,_,_,_,_,_,_]) ty34) ?_
   exact Bi<|Av<|Cg ((1+x2),(0),(0),(0),(none),(0),([]),(av),(az),(a0)) (by dsimp only;exact ⟨om,om,(λh=>by first|assumption|(exfalso;omega))⟩) (hI:=by (try dsimp only);exact (Ak (nv3 _) Bb))
  refine Ap C (λbe=>Z ?_)<|λbe=>Z ?_
  ·refine G.e (Ac c_ C C<|MkSome_at (by repeat (first|exact AtF.head _ _|apply AtF.tail)) (λ_=>Bm (hl _) Ah) om  om) ?_
   rintro _ _ ⟨_,_,⟨⟨aw,ar,a3,a6⟩,⟨⟨rfl,ae,ah⟩,ao⟩,rfl⟩,rfl,rfl⟩
   have ao:0<=a6:=ao
   dsimp only at ae
   dsimp only at ah
   refine Gm C<|G.e (Ac c_ C C<|Next_ok (by repeat (first|exact AtF.head _ _|apply AtF.tail)) (Bm (hl _) Ah) om om) ?_
   rintro _ _ ⟨_,_,⟨a8,bb,rfl,ci,b9,rfl⟩,rfl,rfl⟩
   refine Gf fld36_4 C<|Ge0 (Do ty22) ?_
   refine Gf fld36_2 C<|Ge0 (Do ef) ?_
   exact Bi<|Av<|Cg ((1+x2),(0),(a8),(0),(aw),(ar),(a3),(0),(0),(bb))<|by dsimp only;exact ⟨om,om,(λh=>by first|assumption|(exfalso;omega))⟩
  refine Ap C (λa7=>Z ?_)<|λa7=>?_
  ·refine G.e (Ac c_ C C<|Next_ok (by repeat (first|exact AtF.head _ _|apply AtF.tail)) (Bm (hl _) Ah) om om) ?_
   rintro _ _ ⟨_,_,⟨a5,bc,rfl,cd,cg,rfl⟩,rfl,rfl⟩
   refine Gf fld36_1 C<|Ge0 (Do ef) ?_
   exact Bi<|Av<|Cg ((1+x2),(a5),(0),(0),(none),(0),([]),(0),(0),(bc)) (by dsimp only;exact ⟨om,om,(λh=>by first|assumption|(exfalso;omega))⟩) (hI:=by (try dsimp only);exact (Ak (nv3 _) Bb))
  refine Be<|Gm C<|G.e (Ac c_ C C<|Next_ok (by repeat (first|exact AtF.head _ _|apply AtF.tail)) (Bm (hl _) Ah) om om) ?_
  rintro _ _ ⟨_,_,⟨bm,bp,rfl,b3,cm,rfl⟩,rfl,rfl⟩
  refine Gf fld36_3 C<|Ge0 (Do ef) ?_
  exact Bi<|Av<|Cg ((1+x2),(0),(0),(bm),(none),(0),([]),(0),(0),(bp)) (by dsimp only;exact ⟨om,om,(λh=>by first|assumption|(exfalso;omega))⟩) (hI:=by (try dsimp only);exact (Ak (nv3 _) Bb))
 rintro ⟨K,no,le,tq,a,c,S,nu,de,iq⟩ hp
 obtain ⟨hK,hb,hd⟩:(1<=K/\K<=10)/\((0<=no/\no<64)/\(0<=le/\le<=3)/\(0<=tq/\tq<=29)/\0<=iq)/\(K=8->FrV ⟨nu,de⟩):=hp
 dsimp only
 refine A5<|Ar<|Gm C<|G.e (Ac c_ C C<|Next_ok (by repeat (first|exact AtF.head _ _|apply AtF.tail)) (Bm (hl _) Ah) om om) ?_
 rintro _ _ ⟨_,_,⟨bt,M,rfl,b8,cb,rfl⟩,rfl,rfl⟩
 show G prog κ _ _ _ _ ([(90,e7 bt),(89,.pointer<|some ⟨b,0,none⟩),(0,.pointer<|some ⟨b,0,none⟩),(4,.pointer<|some ⟨b1,0,none⟩),(5,.pointer<|some ⟨b4,0,none⟩)]:Env) (e8 b4 [e7 K,e7 no,e7 le,e7 tq,.slice a S.length c,e7 nu,e7 de] 36::vc 3 (.slice a S.length c) (S)::e8 b1 [e7 0,e7 0,e7 0,e7 0,.slice none 0 0,e7 0,e7 0] 36::e8 b [lv,e7 M] 65::I)
 refine Z ?_
 refine Ap C (λbr=>Z ?_)<|λbr=>Z ?_
 ·refine Ge0 (Do ef) (Z ?_)
  refine Ge0 (Fj ty36) ?_
  exact As<|Bf<|B0 C ty36 C mm C (vc 3 (.slice a S.length c) (S)::e8 b [lv,e7 M] 65::I) Bb ⟨(K,no,le+1,tq,a,c,S,nu,de,M),⟨⟨rfl,(λh=>hd<|of_decide_eq_true h),by show tq<=29;omega,by show 1<=K/\K<=10;omega⟩,by show 0<=M;omega⟩,rfl⟩
 refine Ap C (λbn=>Z ?_)<|λbn=>Z ?_
 ·refine Ge0 (Do ef) (Z ?_)
  refine Ge0 (Fj ty36)<|Z ?_
  exact B0 C ty36 C mm C (vc 3 (.slice a S.length c) (S)::e8 b [lv,e7 M] 65::I) Bb ⟨(K,no+3,le,tq,a,c,S,nu,de,M),⟨⟨rfl,(λh=>hd<|of_decide_eq_true h),by show tq<=29;omega,by show 1<=K/\K<=10;omega⟩,by show 0<=M;omega⟩,rfl⟩
 refine Ap C (λaq=>Z ?_)<|λaq=>Z ?_
 ·refine Ge0 (Do ef) (Z ?_)
  refine Ge0 (Fj ty36) ?_
  exact As<|Bf<|B0 C ty36 C mm C (vc 3 (.slice a S.length c) (S)::e8 b [lv,e7 M] 65::I) Bb ⟨(K,no,le,tq - 20,a,c,S,nu,de,M),⟨⟨rfl,(λh=>hd<|of_decide_eq_true h),by show tq - 20<=29;omega,by show 1<=K/\K<=10;omega⟩,by show 0<=M;omega⟩,rfl⟩
 refine Ge0 (Fj ty36) ?_
 exact As<|Bf<|B0 C ty36 C mm C (vc 3 (.slice a S.length c) (S)::e8 b [lv,e7 M] 65::I) Bb ⟨(K,no,le,tq,a,c,S,nu,de,M),⟨⟨rfl,(λh=>hd<|of_decide_eq_true h),by show tq<=29;omega,by show 1<=K/\K<=10;omega⟩,by show 0<=M;omega⟩,rfl⟩
theorem MkQuery_at{F:Item->List Item}(M:AtF I (deck b lv i) F)(hl:∀q,Sl κ (F (deck b lv q)) lv ls)(h0:0<=i)(hn:nodes<=64):eu prog κ 12 [.pointer (some ⟨b,0,none⟩),e7 nodes] I λr J=>∃y:Int×Int×Int×Int×(Option Addr)×Nat×(List Int)×Int×Int×Int,((r = .agg #[e7 y.1,e7 y.2.1,e7 y.2.2.1,e7 y.2.2.2.1,.slice y.2.2.2.2.1 y.2.2.2.2.2.2.1.length y.2.2.2.2.2.1,e7 y.2.2.2.2.2.2.2.1,e7 y.2.2.2.2.2.2.2.2.1]/\(densF y.1=true->FrV ⟨y.2.2.2.2.2.2.2.1,y.2.2.2.2.2.2.2.2.1⟩)/\y.2.2.2.1<=29/\(1<=y.1/\y.1<=10))/\0<=y.2.2.2.2.2.2.2.2.2)/\J=[vc 3 (.slice y.2.2.2.2.1 y.2.2.2.2.2.2.1.length y.2.2.2.2.2.1) y.2.2.2.2.2.2.1]++F (deck b lv y.2.2.2.2.2.2.2.2.2):=
 Ep (Post:=λr (y:Int×Int×Int×Int×(Option Addr)×Nat×(List Int)×Int×Int×Int)=>(r = .agg #[e7 y.1,e7 y.2.1,e7 y.2.2.1,e7 y.2.2.2.1,.slice y.2.2.2.2.1 y.2.2.2.2.2.2.1.length y.2.2.2.2.2.1,e7 y.2.2.2.2.2.2.2.1,e7 y.2.2.2.2.2.2.2.2.1]/\(densF y.1=true->FrV ⟨y.2.2.2.2.2.2.2.1,y.2.2.2.2.2.2.2.2.1⟩)/\y.2.2.2.1<=29/\(1<=y.1/\y.1<=10))/\0<=y.2.2.2.2.2.2.2.2.2) (Z:=λy:Int×Int×Int×Int×(Option Addr)×Nat×(List Int)×Int×Int×Int=>[vc 3 (.slice y.2.2.2.2.1 y.2.2.2.2.2.2.1.length y.2.2.2.2.2.1) y.2.2.2.2.2.2.1]) (X:=λy:Int×Int×Int×Int×(Option Addr)×Nat×(List Int)×Int×Int×Int=>deck b lv y.2.2.2.2.2.2.2.2.2) M λJ _ hF=>MkQuery_base (λq=>(hl q).fit (hF _)) h0  hn
end Go.Sl
namespace Go.Sl
section
variable {rows:List (BitVec 64)}
theorem coreR_later(left:BitVec 64)(k:Nat):∀aa v m M,coreR rows left k=aa++(v,m)::M->∃L:BitVec 64,(∀u,u∈eo L↔u∈ordL M)/\degB rows L v<=m:=by
 refine coreR_ind (rows:=rows) (X:=λleft k l=>∀aa v m M,l=aa++(v,m)::M->∃L:BitVec 64,(∀u,u∈eo L↔u∈ordL M)/\degB rows L v<=m) (λk aa v m M h=>?_) (λleft k v hT ih aa v' m M h=>?_) _ left k rfl
 ·exact absurd h<|by simp
 cases aa with
 |nil=>
  rw [List.nil_append,List.cons.injEq,Prod.mk.injEq] at h
  obtain ⟨⟨rfl,rfl⟩,rfl⟩:=h
  have h0:=(listB_lt hT.mem).1
  refine ⟨_,λu=>((coreR_keys _ _).2 u).symm,?_⟩
  have:=degB_mono (rows:=rows) (W:=left &&& ~~~(1#64 <<< v.toNat)) (L:=left) (λu hu=>((mem_minus h0).1 hu).1) v
  omega
 |cons p aa=>
  rw [List.cons_append,List.cons.injEq] at h
  exact ih aa v' m M h.2
theorem coreR_asc(left:BitVec 64)(k:Nat):(coreR rows left k).Pairwise λp q=>p.2<=q.2:=by
 refine coreR_ind (rows:=rows) (X:=λleft k l=>l.Pairwise λp q=>p.2<=q.2) (λk=>List.Pairwise.nil) (λleft k v hT ih=>List.pairwise_cons.2 ⟨λq M=>?_,ih⟩) _ left k rfl
 exact coreR_ge _ _ q M
theorem coreR_high(left:BitVec 64):∀p∈coreR rows left 0,∃W:BitVec 64,p.2<=degB rows W p.1/\(∀u∈eo W,u∈eo left)/\∀q∈coreR rows left 0,q.1∈eo W->p.2<=q.2:=λp hp=>by
 by_cases h0:p.2=0
 ·refine ⟨0#64,by omega,λu hu=>?_,λq _ hq=>by omega⟩
  rw [listB_zero] at hu;cases hu
 obtain ⟨W,h1,h2,M⟩:=coreR_core (rows:=rows) left 0 p.2 (by omega)
 exact ⟨W,h1 _<|(M p hp).1 (Nat.le_refl _),h2,λq hq hW=>(M q hq).2 hW⟩
end
end Go.Sl
namespace Go.Sl
open Go.Proofs
set_option maxRecDepth 4000
variable{i:Nat}{l:List Int}
theorem key_inj{l:List (Int×Nat)}(h:(ordL l).Nodup){p q:Int×Nat}(hp:p∈l)(hq:q∈l)(e:p.1=q.1):p=q:=by
 induction l with
 |nil=>cases hp
 |cons x l ih=>
  obtain ⟨h1,h2⟩:=List.nodup_cons.1 (show (x.1::ordL l).Nodup from h)
  rcases List.mem_cons.1 hp with e1|aa<;>rcases List.mem_cons.1 hq with e2|M
  ·rw [e1,e2]
  ·exact absurd (show x.1∈ordL l from List.mem_map.2 ⟨q,M,by rw [←e,e1]⟩) h1
  ·exact absurd (show x.1∈ordL l from List.mem_map.2 ⟨p,aa,by rw [e,e2]⟩) h1
  exact ih h2 aa M
structure CoreE (nd:Int) (es:List Pt) (num ord:List Int):Prop where
 nlen:(num.length:Int)=nd
 olen:(ord.length:Int)=nd
 nodup:ord.Nodup
 rng:∀v∈ord,0<=v/\v<nd
 asc:∀i:Nat,i+1<ord.length->e_ num (e_ ord i)<=e_ num (e_ ord ((i+1:Nat):Int))
 later:∀i:Nat,i<ord.length->((meetL (nbG nd es<|e_ ord i)<|List.drop (i+1) ord).length:Int)<=e_ num (e_ ord i)
 high:∀i:Nat,i<ord.length->e_ num (e_ ord i)<=(((nbG nd es<|e_ ord i).filter λw=>decide<|e_ num (e_ ord i)<=e_ num w).length:Int)
section
variable {nd:Int}{es:List Pt}
theorem coreO_perm(M:GrOk nd es):(coreO nd es).Nodup/\∀v,v∈coreO nd es↔0<=v/\v<nd:=by
 have hl:=M.rows.len
 have hr:=M.rng
 have hS:=rows_sym M
 have hk:=coreR_keys (rows:=ek nd es) (allB ((ek nd es).length:Int)) 0
 refine ⟨hk.1,λv=>?_⟩
 have:=hk.2 v
 rw [mem_allN hS.le] at this
 show v∈ordL (coreR0 nd es)↔_
 unfold coreR0
 rw [this]
 constructor<;>intro h<;>omega
theorem coreO_len(M:GrOk nd es):((coreO nd es).length:Int)=nd:=by
 have hr:=M.rng
 obtain ⟨h1,h2⟩:=coreO_perm M
 have hp:(coreO nd es).Perm (rangeI nd):=(List.perm_ext_iff_of_nodup h1<|(ValidP_iff.1<|range_valid hr).2.imp λh=>by omega).2 λv=>by rw [h2,mem_rangeI];constructor<;>intro h<;>omega
 rw [hp.length_eq]
 unfold rangeI
 rw [List.length_map,List.length_range];omega
theorem coreO_at(hG:GrOk nd es)(h:i<(coreO nd es).length):∃pre m post,coreR0 nd es=pre++(e_ (coreO nd es) i,m)::post/\pre.length=i/\List.drop (i+1) (coreO nd es)=ordL post/\e_ (coreN nd es) (e_ (coreO nd es) i)=(m:Int)/\(e_ (coreO nd es) i,m)∈coreR0 nd es:=by
 have hi:i<(coreR0 nd es).length:=by unfold coreO at h;rwa [ordL_len] at h
 have e:e_ (coreO nd es) i=((coreR0 nd es)[i]).1:=by
  show e_ (ordL<|coreR0 nd es) (i:Int)=_
  rw [Cx _ i (by rw [ordL_len];exact hi)]
  simp [ordL]
 have ab:coreR0 nd es=(coreR0 nd es).take i++((coreR0 nd es)[i])::(coreR0 nd es).drop (i+1):=by
  rw [←List.drop_eq_getElem_cons hi,List.take_append_drop]
 have M:(coreR0 nd es)[i]∈coreR0 nd es:=List.getElem_mem hi
 have hr:=((coreO_perm hG).2 ((coreR0 nd es)[i]).1).1 (List.mem_map.2 ⟨_,M,rfl⟩)
 obtain ⟨p,hp,e1,e2⟩:=coreL_at hG hr.1 hr.2
 have hk:=(coreR_keys (rows:=ek nd es) (allB ((ek nd es).length:Int)) 0).1
 have aa:p=(coreR0 nd es)[i]:=key_inj hk hp M e1
 refine ⟨(coreR0 nd es).take i,((coreR0 nd es)[i]).2,(coreR0 nd es).drop (i+1),?_,by rw [List.length_take];omega,?_,?_,?_⟩
 ·rw [e];exact ab
 ·show List.drop (i+1) (ordL<|coreR0 nd es)=_
  unfold ordL
  rw [List.map_drop]
 ·rw [e,e2,aa]
 rw [e];exact M
theorem coreE(hG:GrOk nd es):CoreE nd es (coreN nd es) (coreO nd es):=by
 have hr:=hG.rng
 obtain ⟨h1,h2⟩:=coreO_perm hG
 refine ⟨coreN_lenG hG,coreO_len hG,h1,λv hv=>(h2 v).1 hv,λi hi=>?_,λi hi=>?_,λi hi=>?_⟩
 ·obtain ⟨aa,m,M,e,hp,hd,hm,_⟩:=coreO_at hG (i:=i) om
  obtain ⟨ak,m',ae,e',ap,_,an,_⟩:=coreO_at hG hi
  rw [hm,an]
  have ha:=coreR_asc (rows:=ek nd es) (allB ((ek nd es).length:Int)) 0
  have g1:(coreR0 nd es)[i]'(by rw [e];simp;omega)=(e_ (coreO nd es) i,m):=by
   have:(aa++(e_ (coreO nd es) i,m)::M)[i]? = some (e_ (coreO nd es) i,m):=by rw [List.getElem?_append_right om,hp];simp
   rw [←e] at this
   exact (List.getElem?_eq_some_iff.1 this).2
  have g2:(coreR0 nd es)[i+1]'(by rw [e'];simp;omega)=(e_ (coreO nd es) ((i+1:Nat):Int),m'):=by
   have:(ak++(e_ (coreO nd es) ((i+1:Nat):Int),m')::ae)[i+1]? = some (e_ (coreO nd es) ((i+1:Nat):Int),m'):=by rw [List.getElem?_append_right om,ap];simp
   rw [←e'] at this
   exact (List.getElem?_eq_some_iff.1 this).2
  have:=(List.pairwise_iff_getElem.1 ha) i (i+1) (by show i<(coreR0 nd es).length;rw [e];simp;omega) (by show i+1<(coreR0 nd es).length;rw [e'];simp;omega) om
  have h3:((coreR0 nd es)[i]'(by rw [e];simp;omega)).2<=((coreR0 nd es)[i+1]'(by rw [e'];simp;omega)).2:=this
  rw [g1,g2] at h3
  simp only at h3;omega
 ·obtain ⟨aa,m,M,e,hp,hd,hm,ab⟩:=coreO_at hG hi
  have hv:=(h2 _).1 (Bx (i:=(i:Int)) om om)
  obtain ⟨L,hL,ad⟩:=coreR_later (rows:=ek nd es) _ 0 aa _ m M e
  rw [hm,hd,←deg_meet hG hL hv.1 hv.2];omega
 obtain ⟨aa,m,M,e,hp,hd,hm,ab⟩:=coreO_at hG hi
 have hv:=(h2 _).1 (Bx (i:=(i:Int)) om om)
 obtain ⟨W,ad,ah,ai⟩:=coreR_high (rows:=ek nd es) _ _ ab
 have hS:=rows_sym hG
 have hl:=hG.rows.len
 rw [hm]
 refine Int.le_trans (show (m:Int)<=(degB (ek nd es) W (e_ (coreO nd es) i):Int) by simp only at ad;omega) ?_
 unfold degB
 refine Int.ofNat_le.2<|List.Nodup.length_le_of_subset (Dq _) λx hx=>?_
 obtain ⟨ao,aj⟩:=mem_andB.1 hx
 have aq:=(mem_allN hS.le).1 (ah x aj)
 rw [List.mem_filter,decide_eq_true_eq]
 constructor
 ·unfold nbG
  rw [if_neg (by rw [checkG_ok.2 hG];decide),mem_ofL,mem_nbL]
  exact ((hG.rows.mem hv.1 hv.2).1 ao).2
 obtain ⟨q,hq,e1,e2⟩:=coreL_at hG (u:=x) om om
 have:=ai q hq (by rw [e1];exact aj)
 simp only at this
 rw [e2];omega
end
theorem ofL_nodup_len(h:l.Nodup):(ofL l).length=l.length:=((List.perm_ext_iff_of_nodup ((ofL_asc l).imp λh=>by omega) h).2 λx=>mem_ofL l x).length_eq
theorem nodup_at(h:l.Nodup){j:Nat}(hi:i<l.length)(hj:j<l.length)(e:e_ l i=e_ l j):i=j:=by
 rw [Cx _ i hi,Cx _ j hj] at e
 rcases Nat.lt_trichotomy i j with h1|h1|h1
 ·exact absurd e<|(List.pairwise_iff_getElem.1 h) i j hi hj h1
 ·exact h1
 exact absurd e.symm<|(List.pairwise_iff_getElem.1 h) j i hj hi h1
end Go.Sl
namespace Go.Sl
open Go.Proofs
set_option maxRecDepth 4000
variable{ec i k:Nat}{κ:Ctx}{I:List Item}{va vo:Value}{ea:Option Addr}{xs:List Int}
attribute [local irreducible] W G V D A Runs Eff
theorem asc_lenNd{l:List Int}{n:Nat}(h:l.Nodup)(M:∀x∈l,0<=x/\x<n):l.length<=n:=by
 have:=List.Nodup.length_le_of_subset h (l₂:=(List.range n).map λi=>((i:Nat):Int)) λx hx=>by
  have:=M x hx
  exact List.mem_map.2 ⟨x.toNat,List.mem_range.2 om,by omega⟩
 rwa [List.length_map,List.length_range] at this
def WholeP(ord:List Int)(n:Int):Prop:=(∀v∈ord,0<=v/\v<n)/\ord.Nodup/\(ord.length:Int)=n
instance (ord:List Int) (n:Int):Decidable (WholeP ord n):=inferInstanceAs (Decidable (_/\_))
def latS(rows:List (BitVec 64))(st:List Int×BitVec 64)(v:Int):List Int×BitVec 64:=(st.1.set v.toNat (onesB (e_ rows v &&& (st.2 &&& ~~~bitB v))),st.2 &&& ~~~bitB v)
def latK(rows:List (BitVec 64))(ord:List Int)(k:Nat):List Int×BitVec 64:=(ord.take k).foldl (latS rows) (List.replicate rows.length 0,allB (rows.length:Int))
def laterL(rows:List (BitVec 64))(ord:List Int):List Int:=(latK rows ord ord.length).1
theorem latK_succ{rows:List (BitVec 64)}{ord:List Int}(h:k<ord.length):latK rows ord (k+1)=latS rows (latK rows ord k) (e_ ord k):=by
 unfold latK
 rw [Ct ord k h,List.foldl_append];rfl
theorem latK_len(rows:List (BitVec 64))(ord:List Int):∀k:Nat,k<=ord.length->(latK rows ord k).1.length=rows.length
 |0,_=>by unfold latK;simp
 |k+1,h=>by
  rw [latK_succ om]
  show (List.set _ _ _).length=_
  rw [List.length_set];exact latK_len rows ord k om
section
variable {rows:List (BitVec 64)}{ord:List Int}
theorem latK_left(M:rows.length<=64)(hr:∀v∈ord,0<=v/\v<rows.length):∀k:Nat,k<=ord.length->∀x:Int,x∈eo (latK rows ord k).2↔(0<=x/\x<rows.length)/\x∉ord.take k
 |0,_,x=>by
  show x∈eo (allB (rows.length:Int))↔_
  rw [mem_allN M];simp
 |k+1,h,x=>by
  have hv:=hr _ (Bx (i:=(k:Int)) om om)
  rw [latK_succ om]
  show x∈eo (_ &&& ~~~bitB (e_ ord k))↔_
  rw [bit_sh hv.1 om,mem_minus hv.1,latK_left M hr k om x,Ct ord k om,List.mem_append,List.mem_singleton]
  constructor
  ·rintro ⟨⟨h1,h2⟩,h3⟩;exact ⟨h1,λh=>h.elim h2 h3⟩
  rintro ⟨h1,h2⟩;exact ⟨⟨h1,λh=>h2<|.inl h⟩,λh=>h2<|.inr h⟩
theorem latK_at(hr:∀v∈ord,0<=v/\v<rows.length)(hn:ord.Nodup)(hi:i<ord.length):∀d:Nat,i+1+d<=ord.length->e_ (latK rows ord (i+1+d)).1 (e_ ord i)=onesB (e_ rows (e_ ord i) &&& (latK rows ord (i+1)).2)
 |0,_=>by
  have M:=hr _ (Bx (i:=(i:Int)) om om)
  rw [Nat.add_zero,latK_succ hi]
  show e_ (List.set _ _ _) _=_
  rw [C2 _ _ _ _ M.1 M.1 (by rw [latK_len rows ord i om];exact M.2),if_pos rfl];rfl
 |d+1,h=>by
  have M:=hr _ (Bx (i:=(i:Int)) om om)
  have hw:=hr _ (Bx (i:=((i+1+d:Nat):Int)) om om)
  rw [←Nat.add_assoc,latK_succ om]
  show e_ (List.set _ _ _) _=_
  rw [C2 _ _ _ _ hw.1 M.1 (by rw [latK_len rows ord _ om];exact hw.2),if_neg (λe=>by have:=nodup_at hn (show i+1+d<ord.length by omega) hi e;omega)]
  exact latK_at hr hn hi d om
end
section
variable {nd:Int}{es:List Pt}{num ord:List Int}
theorem CoreE.whole(M:CoreE nd es num ord):WholeP ord nd:=⟨M.rng,M.nodup,M.olen⟩
theorem CoreE.lat(hG:GrOk nd es)(M:CoreE nd es num ord)(hi:i<ord.length):e_ (laterL (ek nd es) ord) (e_ ord i)<=e_ num (e_ ord i):=by
 have hl:=hG.rows.len
 have hr:=hG.rng
 have aa:∀v∈ord,0<=v/\v<(ek nd es).length:=λv hv=>by have:=M.rng v hv;omega
 have hv:=M.rng _ (Bx (i:=(i:Int)) om om)
 have h:=latK_at aa M.nodup hi (ord.length - (i+1)) om
 rw [show i+1+(ord.length - (i+1))=ord.length by omega] at h
 unfold laterL
 rw [h,ones_pop]
 have hm:∀x:Int,x∈eo (latK (ek nd es) ord<|i+1).2↔x∈List.drop (i+1) ord:=λx=>by
  rw [latK_left om aa (i+1) om x]
  constructor
  ·rintro ⟨h1,h2⟩
   have hx:x∈ord:=by
    by_cases hx:x∈ord
    ·exact hx
    have h3:=asc_lenNd (n:=nd.toNat) (List.nodup_cons.2 ⟨hx,M.nodup⟩) λy hy=>by
     rcases List.mem_cons.1 hy with rfl|hy
     ·omega
     have:=M.rng y hy;omega
    have:=M.olen
    rw [List.length_cons] at h3
    omega
   rw [←List.take_append_drop (i+1) ord,List.mem_append] at hx
   exact hx.resolve_left h2
  intro hx
  refine ⟨aa x<|List.mem_of_mem_drop hx,λh2=>?_⟩
  have hn:=M.nodup
  rw [←List.take_append_drop (i+1) ord] at hn
  exact (List.nodup_append.1 hn).2.2 x h2 x hx rfl
 have:=M.later i hi
 rw [←deg_meet hG hm hv.1 hv.2] at this
 exact this
theorem CoreE.hi(hG:GrOk nd es)(M:CoreE nd es num ord)(hi:i<ord.length):e_ num (e_ ord i)<=(((eo (e_ (ek nd es) (e_ ord i))).filter λw=>decide (e_ num (e_ ord i)<=e_ num w)).length:Int):=by
 have hl:=hG.rows.len
 have hv:=M.rng _ (Bx (i:=(i:Int)) om om)
 have h:=M.high i hi
 rw [←nb_eq,show rowG nd es (e_ ord i)=e_ (ek nd es) (e_ ord i) from if_neg (λh=>by have:=checkG_ok.2 hG;omega)] at h
 exact h
theorem CoreE.up(M:CoreE nd es num ord)(h0:0<i)(hi:i<ord.length):e_ num (e_ ord ((i:Int) - 1))<=e_ num (e_ ord i):=by
 have:=M.asc (i - 1) om
 rwa [show ((i - 1:Nat):Int)=(i:Int) - 1 by omega,show i - 1+1=i by omega] at this
end
theorem nodup_new{ord:List Int}(h:ord.Nodup)(hk:k<ord.length)(hm:e_ ord k∈ord.take k):False:=by
 have M:(ord.take<|k+1).Nodup:=h.sublist (List.take_sublist _ _)
 rw [Ct ord k hk] at M
 exact (List.nodup_append.1 M).2.2 _ hm _ (List.mem_singleton.2 rfl) rfl
theorem Whole_ok{n:Int}{ord:List Int}(hl:Sl κ I va ord)(hn:0<=n/\n<=1000000):eu prog κ 350 [va,e7 n] I (λr J=>r = .bool (decide (WholeP ord n))/\I=J):=by
 refine Bu hl.le λak=>?_
 refine Ce2 Tryz.func350 C C<|Z ?_
 refine Ge2 (Cj (α:=Bool) (n:=n.toNat) Cq ty4 C C C om om dc C) λah ae=>Z ?_
 refine D7 (σ:=Nat×(List Bool)) (λs=>[(12,e7 ((s.1:Nat):Int))]) (λs=>[vc 4 (.slice ah (List.replicate n.toNat (default:Bool)).length ae) (s.2)]) (λs=>(s.1<=ord.length)/\(s.2.length=n.toNat)/\(∀v:Int,0<=v->v<n->e_ s.2 v=decide (v∈ord.take s.1))/\(∀v∈ord.take s.1,0<=v/\v<n)/\((ord.take s.1).Nodup)) (λs=>ord.length - s.1) (0,List.replicate n.toNat false) ⟨om,(List.length_replicate),(λv h0 h1=>by rw [Fy _ _ _ h0 om];simp),(λv hv=>by simp at hv),List.nodup_nil⟩ ?_
 rintro ⟨k,sn⟩ hp
 dsimp only at hp ⊢
 obtain ⟨hk,ad,M,hr,ab⟩:=hp
 refine Z ?_
 refine Ap C (λc13=>?_)<|λc13=>Z ?_
 ·refine Bt (Ay<|A5<|Bk<|Ar<|Gr (Az (α:=Int) (xs:=ord) Aa ef C C (Au hl) om olr)<|Gr (Bj (xs:=ord) ef C (Au hl) om olr)<|Z ?_)
  refine A6 (d:=18) C (λai=>Z ?_)<|λai=>Z ?_
  ·exact Ai C C I Ah ⟨congrArg Value.bool (decide_eq_false (λh=>by have hb:=h.1 _ (Bx (xs:=ord) (i:=(k:Int)) om om);first|omega|(have hs:=M (e_ ord k) hb.1 hb.2;rw [aa] at hs;exact nodup_new h.2.1 om<|of_decide_eq_true hs.symm))).symm,rfl⟩
  refine A6 (d:=23) C (λaj=>Z ?_)<|λaj=>?_
  ·exact Ai C C I Ah ⟨congrArg Value.bool (decide_eq_false (λh=>by have hb:=h.1 _ (Bx (xs:=ord) (i:=(k:Int)) om om);first|omega|(have hs:=M (e_ ord k) hb.1 hb.2;rw [aa] at hs;exact nodup_new h.2.1 om<|of_decide_eq_true hs.symm))).symm,rfl⟩
  refine e9 (Af C)<|e9 (Af C)<|e9 (Az (α:=Bool) (xs:=sn) Cq ty4 C C A7 om olr)<|e9 (Runs.getB (xs:=sn) ty4 C A7 om olr)<|Z ?_
  refine D8 C (λaa=>Z ?_)<|λaa=>?_
  ·exact Ai C C I Ah ⟨congrArg Value.bool (decide_eq_false (λh=>by have hb:=h.1 _ (Bx (xs:=ord) (i:=(k:Int)) om om);first|omega|(have hs:=M (e_ ord k) hb.1 hb.2;rw [aa] at hs;exact nodup_new h.2.1 om<|of_decide_eq_true hs.symm))).symm,rfl⟩
  refine Bt<|Ay<|Be<|Gm C<|Gm C<|Gr (Az (α:=Bool) (xs:=sn) Cq ty4 C C A7 om olr)<|Ge0 (Ci (α:=Bool) (xs:=sn) (e:=4) (new:=true) ty4 C C C om olr am)<|Z ?_
  exact B5 ((k+1),(List.set sn (e_ ord k).toNat (true)))<|by dsimp only;exact ⟨om,(by rw [List.length_set];exact ad),(λv h0 h1=>by rw [C2 _ _ _ _ om h0 om,Ct ord k om];by_cases e:(e_ ord k)=v;(· rw [if_pos e];exact (decide_eq_true<|List.mem_append.2<|.inr<|List.mem_singleton.2 e.symm).symm);(· rw [if_neg e,M v h0 h1];exact decide_eq_decide.2 ⟨λh=>List.mem_append.2<|.inl h,λh=>(List.mem_append.1 h).resolve_right (λh=>e (List.mem_singleton.1 h).symm)⟩)),(λv hv=>by rw [Ct ord k om] at hv;rcases List.mem_append.1 hv with h|h;(· exact hr v h);(· rw [List.mem_singleton.1 h];omega)),(by rw [Ct ord k om];exact List.nodup_append.2 ⟨ab,(by simp),λa ha b hb e=>by rw [List.mem_singleton.1 hb] at e;rw [e] at ha;have hs:=M (e_ ord k) om om;rw [aa,decide_eq_true ha] at hs;cases hs⟩)⟩
 have hE:ord.take k=ord:=List.take_of_length_le om
 rw [hE] at hr ab
 exact Ai C C I Ah ⟨congrArg Value.bool<|decide_eq_decide.2 ⟨λh=>⟨hr,ab,h⟩,λh=>h.2.2⟩,rfl⟩
theorem laterC_ok{nd:Int}{es:List Pt}{ord:List Int}(hl:Sl κ I va es)(ho:Sl κ I vo ord)(hG:GrOk nd es)(hw:WholeP ord nd):eu prog κ 351 [.agg #[e7 nd,va],vo] I (λr J=>∃a c,r = .slice a (laterL (ek nd es) ord).length c/\J=vc 3 (.slice a (laterL (ek nd es) ord).length c) (laterL (ek nd es) ord)::I):=by
 have an:=hG.rows.len
 have hr:=hG.rng
 refine Bu ho.le λak=>?_
 refine Ce2 Tryz.func351 C C ?_
 refine Ar<|Ge1 (Al (cs:=[_,_]) C C C) λb1=>Ga C<|As<|Ar<|Gl2 ty56 ?_
 refine G.e (Ac c_ C C<|MRows_ok (nd:=nd)<|Au hl) ?_
 rintro _ _ ⟨_,_,⟨ae,ad,rfl,rfl⟩,rfl,rfl⟩
 have ah:=Fm nd es
 refine Ga C<|As<|Ar<|Gm C<|Gr (Ca Cl C)<|Ge2 (Cj (α:=Int) (n:=(ek nd es).length) Aa ef C C C om om dc C) λM aa=>?_
 refine Ga C<|As<|Ar<|Gm C<|Gr (Ca Cl C)<|Gc0 (Ac c_ C C<|MaskAll_ok (((ek nd es).length:Nat):Int)) ?_
 refine Ga C<|As<|Bg (S4 7 6 5 1 C C C C)<|A5<|Ar<|Gm C<|Gr (Da (α:=Int) (xs:=ord) Aa C<|Au ho)<|Gm C<|As<|Bk<|Cn (σ:=Nat×(List Int)×(BitVec 64)) (λs=>([(5,.slice ae (ek nd es).length ad),(6,.slice M (List.replicate ((ek nd es).length) (default:Int)).length aa),(7,U64<|s.2.2),(18,vo),(19,e7 ((ord.length:Nat):Int)),(20,e7 ((s.1:Nat):Int))]:Env)) (λs=>vc 3 (.slice M (List.replicate ((ek nd es).length) (default:Int)).length aa) (s.2.1)::vc 152 (.slice ae (ek nd es).length ad) (ek nd es)::e8 b1 [e7 nd,va] 56::I) (λs=>(s.1<=ord.length)/\((s.2.1,s.2.2)=latK (ek nd es) ord s.1)) (λs=>ord.length - s.1) (0,List.replicate (ek nd es).length 0,allB (((ek nd es).length:Nat):Int)) ⟨om,rfl⟩ (Ab C<|Ab C<|Ab (El C<|by first|rfl|simp)<|Ab C<|Ab C<|Ab Dg Bs) Bb ?_
 rintro ⟨k,out,m⟩ hp
 dsimp only at hp ⊢
 obtain ⟨hk,ab⟩:=hp
 have aj:out.length=(ek nd es).length:=by have h:=latK_len (ek nd es) ord k om;rw [←ab] at h;exact h
 have hv:k<ord.length->0<=(e_ ord k)/\(e_ ord k)<nd:=λh=>hw.1 _ (Bx om om)
 refine Ar<|Gr (Ch C C)<|As<|A5<|Ap C (λai=>?_)<|λai=>?_
 ·refine Bt (Ay<|A5<|Bk<|Ar<|Gr (Az (α:=Int) (xs:=ord) Aa ef C C (Au ho) om olr)<|Gr (Bj (xs:=ord) ef C (Au ho) om olr)<|Ga C<|As<|Ar<|Gm C<|Gm C<|G.e (Ac c_ C C<|Bit_ok<|e_ ord k) ?_)
  rintro _ _ ⟨_,_,⟨rfl,rfl⟩,rfl,rfl⟩
  refine Gr (D1 (a:=m) (b:=bitB (e_ ord k)) C C)<|Ga C<|As<|Bg (S7 7 9 5 6 18 19 20 C C C C C C C)<|Be<|Gm C<|Gm C<|Gm C<|Gm C<|Gr (Az (α:=(BitVec 64)) (xs:=ek nd es) Cl ty152 C C A7 om olr)<|Gr (Dj (α:=(BitVec 64)) (xs:=ek nd es) (u:=U64 ((e_ (ek nd es)<|e_ ord k))) ty152 C A7 om olr C)<|Gm C<|Gr (Cz (a:=(e_ (ek nd es)<|e_ ord k)) (b:=m &&& ~~~(bitB<|e_ ord k)) C C)<|Gc0 (Ac c_ C C<|MCount_ok<|(e_ (ek nd es)<|e_ ord k) &&& (m &&& ~~~(bitB<|e_ ord k))) ?_
  refine Gr (Az (α:=Int) (xs:=out) Aa ef C C A7 om olr)<|Ge0 (Ci (α:=Int) (xs:=out) (e:=3) (new:=onesB ((e_ (ek nd es)<|e_ ord k) &&& (m &&& ~~~(bitB<|e_ ord k)))) ef C C C om olr am) ?_
  exact Bi<|Av<|Ay<|Bg (S6 7 5 6 18 19 20 C C C C C C)<|Be<|Gr (Rad C C)<|Gm C<|Bi<|B5 ((k+1),(List.set out (e_ ord k).toNat (onesB<|(e_ (ek nd es)<|e_ ord k) &&& (m &&& ~~~(bitB<|e_ ord k)))),(m &&& ~~~(bitB<|e_ ord k)))<|by dsimp only;exact ⟨om,(by rw [latK_succ om,←ab];rfl)⟩
 refine C7<|A9<|A9<|B3<|Ay<|Ar<|Gm C<|Ga C<|As<|Bf ?_
 have hE:out=laterL (ek nd es) ord:=by unfold laterL;rw [show ord.length=k by omega,←ab]
 have hq:(List.replicate ((ek nd es).length) (default:Int)).length=out.length:=by rw [aj,List.length_replicate]
 exact Ai C C (vc 3 (.slice M (laterL (ek nd es) ord).length aa) (laterL (ek nd es) ord)::I) (by rw [←hE,←hq];exact Bb) ⟨M,aa,by rw [←hE,←hq],rfl⟩
theorem LaterC_ok{nd:Int}{es:List Pt}{ord:List Int}(hl:Sl κ I (.slice ea es.length ec) es)(ho:Sl κ I vo ord)(hG:GrOk nd es):eu prog κ 349 [.agg #[e7 nd,.slice ea es.length ec],vo] I (λr J=>∃a c X e,r = .tuple #[.slice a X.length c,e7 e]/\(e=4/\¬WholeP ord nd\/e=0/\X=laterL (ek nd es) ord/\WholeP ord nd)/\J=vc 3 (.slice a X.length c) X::I):=by
 refine Ce2 Tryz.func349 C C ?_
 refine Ar<|Ge1 (Al (cs:=[_,_]) C C C) λb1=>Z ?_
 refine Gc0 (Ac c_ C C<|CheckGen_ok<|Au hl)<|Z ?_
 refine Ap C (λc10=>?_)<|λc10=>Z ?_
 ·exact absurd (checkG_ok.2 hG) c10
 refine G.e (Ac c_ C C<|Whole_ok (n:=nd) (Au ho)<|by have:=hG.rng;omega) ?_
 rintro _ _ ⟨_,_,⟨rfl,rfl⟩,rfl,rfl⟩
 refine Z ?_
 refine Ap C (λM=>Z ?_)<|λM=>Z ?_
 ·exact Cy C C C (vc 3 (.slice none ([]:List Int).length 0) ([]:List Int)::I) (Ak (show Fit κ _ I from Ah)<|nv3 _) ⟨none,0,[],4,rfl,.inl ⟨rfl,by simpa using M⟩,rfl⟩
 refine Gc2 (Ac c_ C C<|laterC_ok (nd:=nd) (Au hl) (Au ho) hG<|Classical.not_not.1 M) λab aa=>Z ?_
 exact Cy C C C (vc 3 (.slice ab (laterL (ek nd es) ord).length aa) (laterL (ek nd es) ord)::I) Bb ⟨ab,aa,laterL (ek nd es) ord,0,rfl,.inr ⟨rfl,rfl,Classical.not_not.1 M⟩,rfl⟩
theorem row_rng{nd:Int}{es:List Pt}(M:GrOk nd es){v:Int}(h0:0<=v)(h1:v<nd){w:Int}(h:w∈eo (e_ (ek nd es) v)):0<=w/\w<nd:=by
 have:=(M.rows.mem h0 h1).1 h
 rcases this.2 with h2|h2
 ·have:=M.edge _ h2;simp only at this;omega
 have:=M.edge _ h2;simp only at this;omega
theorem fti_yes(p:Int->Bool)(h:k<xs.length)(M:p (e_ xs k)=true):((((xs.take (k+1)).filter p).length:Nat):Int)=(((xs.take k).filter p).length:Nat)+1:=by
 rw [Ct _ k h,List.filter_append,List.length_append,List.filter_cons,if_pos M];simp
theorem fti_no(p:Int->Bool)(h:k<xs.length)(M:p (e_ xs k)=false):((((xs.take (k+1)).filter p).length:Nat):Int)=(((xs.take k).filter p).length:Nat):=by
 rw [Ct _ k h,List.filter_append,List.length_append,List.filter_cons,M];simp
theorem CCheck_ok{nd:Int}{vn:Value}{es:List Pt}{num ord:List Int}(hl:Sl κ I (.slice ea es.length ec) es)(aa:Sl κ I vn num)(ho:Sl κ I vo ord)(hG:GrOk nd es)(hT:TabRd κ I 0 tzCells):eu prog κ 348 [.agg #[e7 nd,.slice ea es.length ec],vn,vo] I (λr J=>∃c,r=e7 c/\(CoreE nd es num ord->c=0)/\I=J):=by
 have a8:=hG.rows.len
 have bc:=hG.rng
 refine Bu ho.le λa7=>?_
 refine Bu aa.le λaz=>?_
 refine Ce3 Tryz.func348 C C ?_
 refine Ar<|Ge1 (Al (cs:=[_,_]) C C C) λb1=>Ga C<|As<|Ar<|Gl2 ty56 ?_
 refine Gm C<|G.e (Ac c_ C C<|LaterC_ok (nd:=nd) (Au hl) (Au ho) hG) ?_
 rintro _ _ ⟨_,_,⟨ae,ah,LX4,au,rfl,an,rfl⟩,rfl,rfl⟩
 refine Gm C<|Gr (Bv C C)<|Gr (Bv C C)<|Ga C<|Ga C<|As<|A5<|Bk<|Ar<|Gm C<|Gr (C9 C C)<|Ga C<|As<|Bg (S6 21 8 7 3 1 2 C C C C C C)<|Ap C (λak=>?_)<|λak=>?_
 ·exact Ar<|Gm C<|Ga C<|As<|Bf<|B6<|Bq<|Ai C C I Ah ⟨au,rfl,(λhE=>by rcases an with ⟨h1,h2⟩|⟨h1,_⟩;(· exact absurd hE.whole h2);(· exact h1)),rfl⟩
 refine Ar<|Gm C<|Gr (Da (α:=Int) (xs:=num) Aa C<|Au aa)<|Gf fld56_0 C<|Gl ef ?_
 refine Gr (C9 C C)<|Ga C<|As<|Ap C (λa4=>?_)<|λa4=>?_
 ·exact Ar<|Ga C<|As<|Bf<|B6<|Bq<|Ai C C I Ah ⟨4,rfl,(λhE=>absurd hE.nlen om),rfl⟩
 refine Bt<|Av<|Ay<|Ar<|Gl2 ty56 ?_
 have M:WholeP ord nd/\LX4=laterL (ek nd es) ord:=by rcases an with ⟨h1,h2⟩|⟨h1,h2,h3⟩;(· exact absurd (show ¬au≠0 from ak) om);(· exact ⟨h3,h2⟩)
 refine G.e (Ac c_ C C<|MRows_ok (nd:=nd)<|Au hl) ?_
 rintro _ _ ⟨_,_,⟨ad,ab,rfl,rfl⟩,rfl,rfl⟩
 have aw:=Fm nd es
 refine Ga C<|As<|Bg (S4 9 7 1 2 C C C C)<|A5<|Ar<|Gm C<|Gr (Da (α:=Int) (xs:=ord) Aa C<|Au ho)<|Gm C<|As<|Bk<|Cn (σ:=Nat) (λs=>([(1,vn),(2,vo),(7,.slice ae LX4.length ah),(9,.slice ad (ek nd es).length ab),(33,vo),(34,e7 ((ord.length:Nat):Int)),(35,e7 ((s:Nat):Int))]:Env)) (λs=>vc 152 (.slice ad (ek nd es).length ab) (ek nd es)::vc 3 (.slice ae LX4.length ah) (LX4)::e8 b1 [e7 nd,.slice ea es.length ec] 56::I) (λs=>(s<=ord.length)) (λs=>ord.length - s) 0 (show ((0:Nat)<=ord.length) from om) (Ab C<|Ab C<|Ab C<|Ab C<|Ab C<|Ab C<|Ab Dg Bs) Aj ?_
 rintro k hp
 have hk:=hp
 have ar:k<ord.length->0<=(e_ ord k)/\(e_ ord k)<nd:=λh=>M.1.1 _ (Bx om om)
 have a6:0<k->k<=ord.length->0<=e_ ord ((k:Int) - 1)/\e_ ord ((k:Int) - 1)<nd:=λh0 h=>M.1.1 _ (Bx om om)
 have a9:LX4.length=(ek nd es).length:=by rw [M.2];exact latK_len _ _ _ (Nat.le_refl _)
 refine Ar<|Gr (Ch C C)<|As<|A5<|Ap C (λa5=>?_)<|λa5=>?_
 ·refine Bt (Ay<|A5<|Bk<|Ar<|Gm C<|Gr (Az (α:=Int) (xs:=ord) Aa ef C C (Au ho) om<|by first|omega|(simp only [M.2,laterL,latK_len _ _ _<|Nat.le_refl _];omega))<|Gr (Bj (xs:=ord) ef C (Au ho) om<|by first|omega|(simp only [M.2,laterL,latK_len _ _ _<|Nat.le_refl _];omega))<|Ga C<|Ga C<|As<|A5<|E8 (σ:=Bool) (λs=>([(1,vn),(2,vo),(7,.slice ae LX4.length ah),(9,.slice ad (ek nd es).length ab),(11,e7<|e_ ord k),(33,vo),(34,e7 ((ord.length:Nat):Int)),(35,e7<|(k:Int)),(67,.bool s)]:Env)) (λs=>vc 152 (.slice ad (ek nd es).length ab) (ek nd es)::vc 3 (.slice ae LX4.length ah) (LX4)::e8 b1 [e7 nd,.slice ea es.length ec] 56::I) (λs=>(s=true->¬CoreE nd es num ord)) ?_ ?_)
  ·refine A4 mixed (Cr 28<|Dr 0 C (Af C)<|Dr 1 C (Df C C)<|Dr 2 C (Af C)<|Du (d:=42) C (λa0=>?_)<|λa0=>?_)
   ·refine Dro 3 C (Af C) (Dro 4 C (Af C)<|Dro 5 C (Af C)<|Dro 6 C (Rsu C C)<|Dro 7 C (Az (α:=Int) (xs:=ord) Aa ef C C (Au ho) om<|by first|omega|(simp only [M.2,laterL,latK_len _ _ _<|Nat.le_refl _];omega))<|Dro 8 C (Bj (xs:=ord) ef C (Au ho) om<|by first|omega|(simp only [M.2,laterL,latK_len _ _ _<|Nat.le_refl _];omega))<|Dro 9 C (Az (α:=Int) (xs:=num) Aa ef C C (Au aa) om<|by first|omega|(simp only [M.2,laterL,latK_len _ _ _<|Nat.le_refl _];omega))<|Dro 10 C (Bj (xs:=num) ef C (Au aa) om<|by first|omega|(simp only [M.2,laterL,latK_len _ _ _<|Nat.le_refl _];omega))<|Dro 11 C (Af C)<|Dro 12 C (Af C)<|Dro 13 C (Az (α:=Int) (xs:=num) Aa ef C C (Au aa) om<|by first|omega|(simp only [M.2,laterL,latK_len _ _ _<|Nat.le_refl _];omega))<|Dro 14 C (Bj (xs:=num) ef C (Au aa) om<|by first|omega|(simp only [M.2,laterL,latK_len _ _ _<|Nat.le_refl _];omega))<|Dro 15 C (Df C C)<|Dr 16 C (A2 C C)<|Dr 17 C (Af C)<|Du (d:=57) C (λa3=>?_)<|λa3=>?_)
    ·exact Dpo 18 C<|Dpo 19 C<|Dpo 20 C<|Dpo 21 C<|Dpo 22 C<|Dpo 23 C<|Dpo 24 C<|Dpo 25 C<|Dpo 26 C<|Dr 27 C (A2 C C)<|Dz<|Cg ((true))<|λhb hE=>by first|(have h:=hE.up (i:=k) om om;omega)|(have h:=hE.lat hG (i:=k) om;rw [←M.2] at h;have h2:=of_decide_eq_true hb;omega)
    exact Dro 18 C (Af C)<|Dro 19 C (Af C)<|Dro 20 C (Az (α:=Int) (xs:=LX4) Aa ef C C A7 om<|by first|omega|(simp only [M.2,laterL,latK_len _ _ _<|Nat.le_refl _];omega))<|Dro 21 C (Bj (xs:=LX4) ef C A7 om<|by first|omega|(simp only [M.2,laterL,latK_len _ _ _<|Nat.le_refl _];omega))<|Dro 22 C (Af C)<|Dro 23 C (Af C)<|Dro 24 C (Az (α:=Int) (xs:=num) Aa ef C C (Au aa) om<|by first|omega|(simp only [M.2,laterL,latK_len _ _ _<|Nat.le_refl _];omega))<|Dro 25 C (Bj (xs:=num) ef C (Au aa) om<|by first|omega|(simp only [M.2,laterL,latK_len _ _ _<|Nat.le_refl _];omega))<|Dro 26 C (Df C C)<|Dr 27 C (Ao C C)<|Dz<|Cg ((decide<|(e_ num<|e_ ord k)<(e_ LX4<|e_ ord k)))<|λhb hE=>by first|(have h:=hE.up (i:=k) om om;omega)|(have h:=hE.lat hG (i:=k) om;rw [←M.2] at h;have h2:=of_decide_eq_true hb;omega)
   exact Dpo 3 C<|Dpo 4 C<|Dpo 5 C<|Dpo 6 C<|Dpo 7 C<|Dpo 8 C<|Dpo 9 C<|Dpo 10 C<|Dpo 11 C<|Dpo 12 C<|Dpo 13 C<|Dpo 14 C<|Dpo 15 C<|Dr 16 C (Ao C C)<|Dr 17 C (Af C)<|Dro 18 C (Af C)<|Dro 19 C (Af C)<|Dro 20 C (Az (α:=Int) (xs:=LX4) Aa ef C C A7 om<|by first|omega|(simp only [M.2,laterL,latK_len _ _ _<|Nat.le_refl _];omega))<|Dro 21 C (Bj (xs:=LX4) ef C A7 om<|by first|omega|(simp only [M.2,laterL,latK_len _ _ _<|Nat.le_refl _];omega))<|Dro 22 C (Af C)<|Dro 23 C (Af C)<|Dro 24 C (Az (α:=Int) (xs:=num) Aa ef C C (Au aa) om<|by first|omega|(simp only [M.2,laterL,latK_len _ _ _<|Nat.le_refl _];omega))<|Dro 25 C (Bj (xs:=num) ef C (Au aa) om<|by first|omega|(simp only [M.2,laterL,latK_len _ _ _<|Nat.le_refl _];omega))<|Dro 26 C (Df C C)<|Dr 27 C (Ao C C)<|Dz<|Cg ((decide<|(e_ num<|e_ ord k)<(e_ LX4<|e_ ord k)))<|λhb hE=>by first|(have h:=hE.up (i:=k) om om;omega)|(have h:=hE.lat hG (i:=k) om;rw [←M.2] at h;have h2:=of_decide_eq_true hb;omega)
  rintro bq hp
  have av:(bq=true->¬CoreE nd es num ord):=hp
  refine D8 C (λaj=>?_)<|λaj=>?_
  ·exact Ar<|Ga C<|As<|Bf<|Bq<|B6<|Bq<|Bq<|B6<|Bq<|Ai C C I Ah ⟨12,rfl,(λhE=>by first|exact absurd hE (av aj)|(have h:=hE.hi hG (i:=k) om;rw [List.take_of_length_le om] at hn;omega)),rfl⟩
  refine Bt<|Ay<|Ar<|Ga C<|As<|A5<|Ar<|Gm C<|Gm C<|Gr (Az (α:=(BitVec 64)) (xs:=ek nd es) Cl ty152 C C A7 om<|by first|omega|(simp only [M.2,laterL,latK_len _ _ _<|Nat.le_refl _];omega))<|Gr (Dj (α:=(BitVec 64)) (xs:=ek nd es) (u:=U64 ((e_ (ek nd es)<|e_ ord k))) ty152 C A7 om (by first|omega|(simp only [M.2,laterL,latK_len _ _ _<|Nat.le_refl _];omega)) C)<|Gc2 (Ac c_ C C<|MList_ok (e_ (ek nd es)<|e_ ord k)<|A8 hT Ah) λaq ap=>?_
  refine Gr (Ca Aa C)<|Gm C<|As<|Bg (S12 74 73 72 12 1 2 7 9 11 33 34 35 C C C C C C C C C C C C)<|Bk<|Cn (σ:=Nat×Int) (λs=>([(1,vn),(2,vo),(7,.slice ae LX4.length ah),(9,.slice ad (ek nd es).length ab),(11,e7<|e_ ord k),(12,e7<|s.2),(33,vo),(34,e7 ((ord.length:Nat):Int)),(35,e7<|(k:Int)),(72,.slice aq (eo<|e_ (ek nd es)<|e_ ord k).length ap),(73,e7<|(((eo<|e_ (ek nd es)<|e_ ord k).length:Nat):Int)),(74,e7 ((s.1:Nat):Int))]:Env)) (λs=>vc 3 (.slice aq (eo<|e_ (ek nd es)<|e_ ord k).length ap) (eo<|e_ (ek nd es)<|e_ ord k)::vc 152 (.slice ad (ek nd es).length ab) (ek nd es)::vc 3 (.slice ae LX4.length ah) (LX4)::e8 b1 [e7 nd,.slice ea es.length ec] 56::I) (λs=>(s.1<=(eo<|e_ (ek nd es)<|e_ ord k).length)/\(s.2=((((eo<|e_ (ek nd es)<|e_ ord k).take s.1).filter (λw=>decide<|e_ num (e_ ord k)<=e_ num w)).length:Int))) (λs=>(eo<|e_ (ek nd es)<|e_ ord k).length - s.1) (0,0) ⟨om,rfl⟩ (Ab C<|Ab C<|Ab C<|Ab C<|Ab C<|Ab Dg<|Ab C<|Ab C<|Ab C<|Ab C<|Ab C<|Ab Dg Bs) Aj ?_
  rintro ⟨j,n⟩ hp
  dsimp only at hp ⊢
  obtain ⟨hj,hn⟩:=hp
  have ao:=ar om
  have bb:j<(eo<|e_ (ek nd es)<|e_ ord k).length->0<=e_ (eo<|e_ (ek nd es)<|e_ ord k) (j:Int)/\e_ (eo<|e_ (ek nd es)<|e_ ord k) (j:Int)<nd:=λh=>row_rng hG ao.1 ao.2 (Bx om om)
  have a1:=List.length_filter_le (λw=>decide<|e_ num (e_ ord k)<=e_ num w) ((eo<|e_ (ek nd es)<|e_ ord k).take j)
  rw [List.length_take] at a1
  have ba:=Ee (e_ (ek nd es)<|e_ ord k)
  refine Ar<|Gr (Ch C C)<|As<|A5<|Ap C (λay=>?_)<|λay=>?_
  ·refine Bt (Ay<|A5<|Bk<|Ar<|Gr (Az (α:=Int) (xs:=eo (e_ (ek nd es)<|e_ ord k)) Aa ef C C A7 om<|by first|omega|(simp only [M.2,laterL,latK_len _ _ _<|Nat.le_refl _];omega))<|Gr (Bj (xs:=eo (e_ (ek nd es)<|e_ ord k)) ef C A7 om<|by first|omega|(simp only [M.2,laterL,latK_len _ _ _<|Nat.le_refl _];omega))<|Ga C<|As<|Bg (S13 14 1 2 7 9 11 12 33 34 35 72 73 74 C C C C C C C C C C C C C)<|A5<|A4 mixed<|Cr 9<|Dr 0 C (Af C)<|Dr 1 C (Af C)<|Dr 2 C (Az (α:=Int) (xs:=num) Aa ef C C (Au aa) om<|by first|omega|(simp only [M.2,laterL,latK_len _ _ _<|Nat.le_refl _];omega))<|Dr 3 C (Bj (xs:=num) ef C (Au aa) om<|by first|omega|(simp only [M.2,laterL,latK_len _ _ _<|Nat.le_refl _];omega))<|Dr 4 C (Af C)<|Dr 5 C (Af C)<|Dr 6 C (Az (α:=Int) (xs:=num) Aa ef C C (Au aa) om<|by first|omega|(simp only [M.2,laterL,latK_len _ _ _<|Nat.le_refl _];omega))<|Dr 7 C (Bj (xs:=num) ef C (Au aa) om<|by first|omega|(simp only [M.2,laterL,latK_len _ _ _<|Nat.le_refl _];omega))<|Dr 8 C (Ff C C)<|Dz<|Ay<|Bg (S13 86 1 2 7 9 11 12 33 34 35 72 73 74 C C C C C C C C C C C C C)<|Ap C (λai=>?_)<|λai=>?_)
   ·exact Be<|Gm C<|Gr (Rad C C)<|Ga C<|Bi<|Av<|Ay<|Bg (S12 12 1 2 7 9 11 33 34 35 72 73 74 C C C C C C C C C C C C)<|Be<|Gr (Rad C C)<|Gm C<|Bi<|B5 ((j+1),(n+1))<|by dsimp only;exact ⟨om,(by first|(rw [fti_yes (λw=>decide<|e_ num (e_ ord k)<=e_ num w) om (decide_eq_true ai),hn])|(rw [fti_no (λw=>decide<|e_ num (e_ ord k)<=e_ num w) om (decide_eq_false ai),hn]))⟩
   exact Bt<|Av<|Ay<|Be<|Gr (Rad C C)<|Gm C<|Bi<|B5 ((j+1),(n))<|by dsimp only;exact ⟨om,(by first|(rw [fti_yes (λw=>decide<|e_ num (e_ ord k)<=e_ num w) om (decide_eq_true ai),hn])|(rw [fti_no (λw=>decide<|e_ num (e_ ord k)<=e_ num w) om (decide_eq_false ai),hn]))⟩
  refine C7<|A9<|A9<|B3<|Ay<|Ar<|Gm C<|Gm C<|Gm C<|Gr (Az (α:=Int) (xs:=num) Aa ef C C (Au aa) om<|by first|omega|(simp only [M.2,laterL,latK_len _ _ _<|Nat.le_refl _];omega))<|Gr (Bj (xs:=num) ef C (Au aa) om<|by first|omega|(simp only [M.2,laterL,latK_len _ _ _<|Nat.le_refl _];omega))<|Gr (Ch C C)<|As<|Bg (S8 95 1 2 7 9 33 34 35 C C C C C C C C)<|Ap C (λax=>?_)<|λax=>?_
  ·exact Ar<|Ga C<|As<|Bf<|B6<|Bq<|Bq<|B6<|Bq<|Ai C C I Ah ⟨12,rfl,(λhE=>by first|exact absurd hE (av aj)|(have h:=hE.hi hG (i:=k) om;rw [List.take_of_length_le om] at hn;omega)),rfl⟩
  exact Bt<|Av<|Ay<|Be<|Gr (Rad C C)<|Gm C<|Bi<|B5 ((k+1)) om
 exact C7<|A9<|A9<|B3<|Ay<|Ar<|Ga C<|As<|Bf<|Ai C C I Ah ⟨0,rfl,(λ_=>rfl),rfl⟩
end Go.Sl
