/- A part of the proofs of statements of this seat: contracts of functions, and the plain laws that they lean on. No conditions. -/
import Derived.Test.YtnbkccjkdpolmaaGreatDoorR23
set_option linter.unusedVariables false
set_option linter.unusedSimpArgs false
set_option linter.unusedSectionVars false
open Go.Proofs.Tryz (prog)
namespace Go.Sl
open Go.Proofs
set_option maxRecDepth 4000
variable{A:AnV}{wf:Bool}{M aa nd tm wn:Int}{ea na oa wa:Option Addr}{ec nc oc wc:Nat}{N O ws:List Int}{va vb:Value}{es:List Pt}
variable {κ:Ctx}{I:List Item}
attribute [local irreducible] W G V D A Runs Eff
structure HdA (κ:Ctx) (I:List Item) (A:AnV):Prop where
 s:Sl κ I (.slice A.sa A.S.length A.sc) A.S
 p:Sl κ I (.slice A.pa A.P.length A.pc) A.P
 o:Sl κ I (.slice A.oa A.O.length A.oc) A.O
 n:Sl κ I (.slice A.na A.N.length A.nc) A.N
 q:Sl κ I (.slice A.qa A.Q.length A.qc) A.Q
 b:A.N.length+A.O.length<=1000000
theorem HdA.fit{κ:Ctx}{I J:List Item}(h:HdA κ J A)(M:Fit κ I J):HdA κ I A:=⟨h.s.fit M,h.p.fit M,h.o.fit M,h.n.fit M,h.q.fit M,h.b⟩
def sameP(A B:AnV):Prop:=A.fd=B.fd/\A.num=B.num/\A.tm=B.tm/\(⟨A.dn,A.dd⟩:Fr)=⟨B.dn,B.dd⟩/\A.S=B.S/\A.P=B.P
instance (A B:AnV):Decidable (sameP A B):=inferInstanceAs (Decidable (_/\_))
def bare1(A:AnV):Prop:=A.E=0/\A.Q.length=0
def bare2(A:AnV):Prop:=A.N.length=0/\A.O.length=0
instance (A:AnV):Decidable (bare1 A):=inferInstanceAs (Decidable (_/\_))
instance (A:AnV):Decidable (bare2 A):=inferInstanceAs (Decidable (_/\_))
def GrX(nd:Int)(es:List Pt)(K node lv:Int)(S:List Int)(A:AnV):Prop:=(K=8->GrP nd es 5 0 0 [] A)/\(K=9->A.is true 0 (commG nd es (e_ S 0) lv) 0 0 []/\A.ev [] [] 0 [])/\(K<=7->GrP nd es K node lv S A)
def WantR(nd:Int)(es:List Pt)(K node lv:Int)(S:List Int)(wf:Bool)(wn:Int)(ws:List Int)(wdn wdd:Int):Prop:=∃W:AnV,GrX nd es K node lv S W/\W.is wf wn ws wdn wdd []
theorem same_is(h:sameP A ⟨wf,wn,tm,wa,wc,ws,M,aa,none,0,[],none,0,[],none,0,[],0,none,0,[]⟩):A.is wf wn ws M aa []/\A.tm=tm:=by
 obtain ⟨h1,h2,h3,h4,h5,h6⟩:=h
 injection h4 with h7 h8
 exact ⟨⟨h1,h2,h5,h7,h8,h6⟩,h3⟩
theorem is_same(h:A.is wf wn ws M aa [])(ht:A.tm=tm):sameP A ⟨wf,wn,tm,wa,wc,ws,M,aa,none,0,[],none,0,[],none,0,[],0,none,0,[]⟩:=by
 obtain ⟨h1,h2,h3,h4,h5,h6⟩:=h
 exact ⟨h1,h2,ht,by rw [h4,h5],h3,h6⟩
theorem EqI_ok{xs ys:List Int}(hl:Sl κ I va xs)(hm:Sl κ I vb ys):eu prog κ 78 [va,vb] I (λr J=>r = .bool (decide (xs=ys))/\I=J):=by
 refine B0 hl.le λae=>?_
 refine B0 hm.le λad=>?_
 refine Ce2 Tryz.func78 C C<|Z ?_
 refine Av C (λc10=>Z ?_)<|λc10=>Z ?_
 ·have M:xs≠ys:=λe=>by subst e;omega
  exact Ai C C I Ah ⟨by rw [decide_eq_false M],rfl⟩
 refine Ed (σ:=Nat) (λs=>[(13,e7 ((s:Nat):Int))]) (λ_=>[]) (λs=>(s<=xs.length)/\(∀j:Nat,j<s->e_ xs j=e_ ys j)) (λs=>xs.length - s) 0 ⟨om,(λj h=>by omega)⟩ ?_
 rintro k hp
 obtain ⟨hk,hn⟩:=hp
 refine Z ?_
 refine Av C (λab=>Z ?_)<|λab=>Z ?_
 ·refine A4 mixed (Cg I 9<|Z ?_)
  refine Av C (λaa=>Z ?_)<|λaa=>Z ?_
  ·have M:xs≠ys:=λe=>by subst e;exact aa rfl
   exact Ai C C I Ah ⟨by rw [decide_eq_false M],rfl⟩
  exact B7 ((k+1)) ⟨om,(λj h=>by by_cases e:j=k;(· subst e;exact Classical.not_not.1 aa);(· exact hn j om))⟩
 have he:xs=ys:=List.ext_getElem om λi h1 h2=>by have:=hn i om;rwa [C0 xs i h1,C0 ys i h2] at this
 exact Ai C C I Ah ⟨by rw [decide_eq_true he],rfl⟩
theorem EqS_ok{xs ys:List Pt}(hl:Sl κ I va xs)(hm:Sl κ I vb ys):eu prog κ 79 [va,vb] I (λr J=>r = .bool (decide (xs=ys))/\I=J):=by
 refine B0 hl.le λae=>?_
 refine B0 hm.le λad=>?_
 refine Ce2 Tryz.func79 C C<|Z ?_
 refine Av C (λc10=>Z ?_)<|λc10=>Z ?_
 ·have M:xs≠ys:=λe=>by subst e;omega
  exact Ai C C I Ah ⟨by rw [decide_eq_false M],rfl⟩
 refine Ed (σ:=Nat) (λs=>[(13,e7 ((s:Nat):Int))]) (λ_=>[]) (λs=>(s<=xs.length)/\(∀j:Nat,j<s->e_ xs j=e_ ys j)) (λs=>xs.length - s) 0 ⟨om,(λj h=>by omega)⟩ ?_
 rintro k hp
 obtain ⟨hk,hn⟩:=hp
 refine Z ?_
 refine Av C (λab=>Z ?_)<|λab=>Z ?_
 ·refine A4 mixed (Cg I 9<|Z ?_)
  refine Dr 8 C (Dj (α:=Pt) (a:=(e_ xs k)) (b:=(e_ ys k)) eqt51 C C)<|Z ?_
  refine Av C (λaa=>Z ?_)<|λaa=>Z ?_
  ·have M:xs≠ys:=λe=>by subst e;exact aa rfl
   exact Ai C C I Ah ⟨by rw [decide_eq_false M],rfl⟩
  exact B7 ((k+1)) ⟨om,(λj h=>by by_cases e:j=k;(· subst e;exact Classical.not_not.1 aa);(· exact hn j om))⟩
 have he:xs=ys:=List.ext_getElem om λi h1 h2=>by have:=hn i om;rwa [C0 xs i h1,C0 ys i h2] at this
 exact Ai C C I Ah ⟨by rw [decide_eq_true he],rfl⟩
theorem Same45_ok{B:AnV}(ak:Sl κ I (.slice A.sa A.S.length A.sc) A.S)(ah:Sl κ I (.slice A.pa A.P.length A.pc) A.P)(ai:Sl κ I (.slice B.sa B.S.length B.sc) B.S)(aj:Sl κ I (.slice B.pa B.P.length B.pc) B.P):eu prog κ 33 [.agg #[.bool (A.fd),e7 (A.num),e7 (A.tm),.slice A.sa A.S.length A.sc,e7 (A.dn),e7 (A.dd),.slice A.pa A.P.length A.pc,.slice A.oa A.O.length A.oc,.slice A.na A.N.length A.nc,e7 (A.E),.slice A.qa A.Q.length A.qc],.agg #[.bool (B.fd),e7 (B.num),e7 (B.tm),.slice B.sa B.S.length B.sc,e7 (B.dn),e7 (B.dd),.slice B.pa B.P.length B.pc,.slice B.oa B.O.length B.oc,.slice B.na B.N.length B.nc,e7 (B.E),.slice B.qa B.Q.length B.qc]] I (λr J=>r = .bool (decide (sameP A B))/\I=J):=by
 refine Ce2 Tryz.func33 C C ?_
 refine Ap<|Ge1 (Ak (cs:=[_,_,_,_,_,_,_,_,_,_,_]) C C C) λb1=>Ge1 (Ak (cs:=[_,_,_,_,_,_,_,_,_,_,_]) C C C) λb2=>Z ?_
 refine Gr (Runs.eqlb Fm C C)<|Gm C<|A6 (d:=10) C (λad=>Z ?_)<|λad=>Z ?_
 ·refine A6 (d:=17) C (λaa=>Z ?_) (λaa=>Z ?_)
  ·refine A6 (d:=24) C (λM=>Z ?_) (λM=>Z ?_)
   ·refine e9 (Runs.eqlT (a:=(⟨A.dn,A.dd⟩:Fr)) (b:=(⟨B.dn,B.dd⟩:Fr)) eqt34 C C) (Z ?_)
    refine A6 (d:=31) C (λab=>Z ?_)<|λab=>Z ?_
    ·refine Dn (B5 C C C) (Ad c_ C C<|EqI_ok (ys:=B.S) (As ak)<|As ai) ?_
     rintro _ _ ⟨_,_,⟨rfl,rfl⟩,rfl,rfl⟩
     refine Z ?_
     refine A6 (d:=38) C (λae=>Z ?_)<|λae=>Z ?_
     ·refine Dn (B5 C C C) (Ad c_ C C<|EqS_ok (ys:=B.P) (As ah)<|As aj) ?_
      rintro _ _ ⟨_,_,⟨rfl,rfl⟩,rfl,rfl⟩
      refine Z ?_
      exact Ai C C I Ah ⟨congrArg Value.bool<|by first|exact decide_eq_decide.2 ⟨λh=>⟨by assumption,by assumption,by assumption,by assumption,by assumption,h⟩,λh=>h.2.2.2.2.2⟩|exact (decide_eq_false<|λh=>absurd h.1 asm).symm|exact (decide_eq_false<|λh=>absurd h.2.1 asm).symm|exact (decide_eq_false<|λh=>absurd h.2.2.1 asm).symm|exact (decide_eq_false<|λh=>absurd h.2.2.2.1 asm).symm|exact (decide_eq_false<|λh=>absurd h.2.2.2.2.1 asm).symm,rfl⟩
     exact Ai C C I Ah ⟨congrArg Value.bool<|by first|exact decide_eq_decide.2 ⟨λh=>⟨by assumption,by assumption,by assumption,by assumption,by assumption,h⟩,λh=>h.2.2.2.2.2⟩|exact (decide_eq_false<|λh=>absurd h.1 asm).symm|exact (decide_eq_false<|λh=>absurd h.2.1 asm).symm|exact (decide_eq_false<|λh=>absurd h.2.2.1 asm).symm|exact (decide_eq_false<|λh=>absurd h.2.2.2.1 asm).symm|exact (decide_eq_false<|λh=>absurd h.2.2.2.2.1 asm).symm,rfl⟩
    exact Ai C C I Ah ⟨congrArg Value.bool<|by first|exact decide_eq_decide.2 ⟨λh=>⟨by assumption,by assumption,by assumption,by assumption,by assumption,h⟩,λh=>h.2.2.2.2.2⟩|exact (decide_eq_false<|λh=>absurd h.1 asm).symm|exact (decide_eq_false<|λh=>absurd h.2.1 asm).symm|exact (decide_eq_false<|λh=>absurd h.2.2.1 asm).symm|exact (decide_eq_false<|λh=>absurd h.2.2.2.1 asm).symm|exact (decide_eq_false<|λh=>absurd h.2.2.2.2.1 asm).symm,rfl⟩
   exact Ai C C I Ah ⟨congrArg Value.bool<|by first|exact decide_eq_decide.2 ⟨λh=>⟨by assumption,by assumption,by assumption,by assumption,by assumption,h⟩,λh=>h.2.2.2.2.2⟩|exact (decide_eq_false<|λh=>absurd h.1 asm).symm|exact (decide_eq_false<|λh=>absurd h.2.1 asm).symm|exact (decide_eq_false<|λh=>absurd h.2.2.1 asm).symm|exact (decide_eq_false<|λh=>absurd h.2.2.2.1 asm).symm|exact (decide_eq_false<|λh=>absurd h.2.2.2.2.1 asm).symm,rfl⟩
  exact Ai C C I Ah ⟨congrArg Value.bool<|by first|exact decide_eq_decide.2 ⟨λh=>⟨by assumption,by assumption,by assumption,by assumption,by assumption,h⟩,λh=>h.2.2.2.2.2⟩|exact (decide_eq_false<|λh=>absurd h.1 asm).symm|exact (decide_eq_false<|λh=>absurd h.2.1 asm).symm|exact (decide_eq_false<|λh=>absurd h.2.2.1 asm).symm|exact (decide_eq_false<|λh=>absurd h.2.2.2.1 asm).symm|exact (decide_eq_false<|λh=>absurd h.2.2.2.2.1 asm).symm,rfl⟩
 exact Ai C C I Ah ⟨congrArg Value.bool<|by first|exact decide_eq_decide.2 ⟨λh=>⟨by assumption,by assumption,by assumption,by assumption,by assumption,h⟩,λh=>h.2.2.2.2.2⟩|exact (decide_eq_false<|λh=>absurd h.1 asm).symm|exact (decide_eq_false<|λh=>absurd h.2.1 asm).symm|exact (decide_eq_false<|λh=>absurd h.2.2.1 asm).symm|exact (decide_eq_false<|λh=>absurd h.2.2.2.1 asm).symm|exact (decide_eq_false<|λh=>absurd h.2.2.2.2.1 asm).symm,rfl⟩
theorem Bareft_ok(hA:HdA κ I A):eu prog κ 34 [.agg #[.bool (A.fd),e7 (A.num),e7 (A.tm),.slice A.sa A.S.length A.sc,e7 (A.dn),e7 (A.dd),.slice A.pa A.P.length A.pc,.slice A.oa A.O.length A.oc,.slice A.na A.N.length A.nc,e7 (A.E),.slice A.qa A.Q.length A.qc],.bool false,.bool true] I (λr J=>r = .bool (decide (bare1 A))/\I=J):=by
 refine Ce3 Tryz.func34 C C ?_
 refine Ap<|Ge1 (Ak (cs:=[_,_,_,_,_,_,_,_,_,_,_]) C C C) λb1=>Z ?_
 refine A6 (d:=25) C (λM=>Z ?_)<|λM=>Z ?_
 ·exact Ai C C I Ah ⟨congrArg Value.bool<|bF<|by unfold bare1;omega,rfl⟩
 exact Ai C C I Ah ⟨congrArg Value.bool<|bD<|by unfold bare1;omega,rfl⟩
theorem Barett_ok(hA:HdA κ I A):eu prog κ 34 [.agg #[.bool (A.fd),e7 (A.num),e7 (A.tm),.slice A.sa A.S.length A.sc,e7 (A.dn),e7 (A.dd),.slice A.pa A.P.length A.pc,.slice A.oa A.O.length A.oc,.slice A.na A.N.length A.nc,e7 (A.E),.slice A.qa A.Q.length A.qc],.bool true,.bool true] I (λr J=>r = .bool (decide (bare2 A/\bare1 A))/\I=J):=by
 have ab:=hA.b
 refine Ce3 Tryz.func34 C C ?_
 refine Ap<|Ge1 (Ak (cs:=[_,_,_,_,_,_,_,_,_,_,_]) C C C) λb1=>Z ?_
 refine A6 (d:=18) C (λaa=>Z ?_)<|λaa=>Z ?_
 ·exact Ai C C I Ah ⟨congrArg Value.bool<|bF<|by unfold bare2 bare1;omega,rfl⟩
 refine A6 (d:=25) C (λM=>Z ?_)<|λM=>Z ?_
 ·exact Ai C C I Ah ⟨congrArg Value.bool<|bF<|by unfold bare2 bare1;omega,rfl⟩
 exact Ai C C I Ah ⟨congrArg Value.bool<|bD<|by unfold bare2 bare1;omega,rfl⟩
theorem Baretf_ok(hA:HdA κ I A):eu prog κ 34 [.agg #[.bool (A.fd),e7 (A.num),e7 (A.tm),.slice A.sa A.S.length A.sc,e7 (A.dn),e7 (A.dd),.slice A.pa A.P.length A.pc,.slice A.oa A.O.length A.oc,.slice A.na A.N.length A.nc,e7 (A.E),.slice A.qa A.Q.length A.qc],.bool true,.bool false] I (λr J=>r = .bool (decide (bare2 A))/\I=J):=by
 have aa:=hA.b
 refine Ce3 Tryz.func34 C C ?_
 refine Ap<|Ge1 (Ak (cs:=[_,_,_,_,_,_,_,_,_,_,_]) C C C) λb1=>Z ?_
 refine A6 (d:=18) C (λM=>Z ?_)<|λM=>Z ?_
 ·exact Ai C C I Ah ⟨congrArg Value.bool<|bF<|by unfold bare2;omega,rfl⟩
 exact Ai C C I Ah ⟨congrArg Value.bool<|bT<|by unfold bare2;omega,rfl⟩
theorem Verdict_ok{t:Bool} :
    eu prog κ 32 [.bool t] I (λr J=>r=e7 (if t=true then 0 else 12)/\I=J):=by
 refine Ce1 Tryz.func32 C C<|Z ?_
 refine D6 C (λM=>Z ?_)<|λM=>Z ?_
 ·exact Ai C C I Ah ⟨by rw [if_pos M],rfl⟩
 exact Ai C C I Ah ⟨by rw [if_neg (by simp [M])],rfl⟩
theorem Prove_nodes(hl:Sl κ I (.slice ea es.length ec) es)(hN:Sl κ I (.slice na N.length nc) N)(hO:Sl κ I (.slice oa O.length oc) O)(hG:GrOk nd es)(hT:TabRd κ I 0 tzCells):eu prog κ 347 [.agg #[.slice na N.length nc,.slice oa O.length oc],.agg #[e7 nd,.slice ea es.length ec]] I (λr J=>∃t:Bool,r = .bool t/\(CoreE nd es N O->t=true)/\I=J):=by
 refine Ce2 Tryz.func347 C C ?_
 refine Ap<|Ge1 (Ak (cs:=[_,_]) C C C) λb1=>Ge1 (Ak (cs:=[_,_]) C C C) λb2=>Z ?_
 refine G.e (Ad c_ C C<|CCheck_ok (nd:=nd) (As hl) (As hN) (As hO) hG<|A5 hT Ah) ?_
 rintro _ _ ⟨_,_,⟨aa,rfl,M,rfl⟩,rfl,rfl⟩
 refine Z ?_
 exact Ai C C I Ah ⟨decide<|aa=0,rfl,(λhE=>decide_eq_true<|M hE),rfl⟩
theorem Prove_edges(hl:Sl κ I (.slice ea es.length ec) es)(hN:Sl κ I (.slice na N.length nc) N)(hO:Sl κ I (.slice oa O.length oc) O)(hG:GrOk nd es)(hT:TabRd κ I 0 tzCells):eu prog κ 352 [.agg #[.slice na N.length nc,.slice oa O.length oc],.agg #[e7 nd,.slice ea es.length ec]] I (λr J=>∃t:Bool,r = .bool t/\(TrussE (trisE nd es) N O->t=true)/\I=J):=by
 refine Ce2 Tryz.func352 C C ?_
 refine Ap<|Ge1 (Ak (cs:=[_,_]) C C C) λb1=>Ge1 (Ak (cs:=[_,_]) C C C) λb2=>Z ?_
 refine G.e (Ad c_ C C<|TCheck_ok (nd:=nd) (As hl) (As hN) (As hO) hG<|A5 hT Ah) ?_
 rintro _ _ ⟨_,_,⟨aa,rfl,M,rfl⟩,rfl,rfl⟩
 refine Z ?_
 exact Ai C C I Ah ⟨decide<|aa=0,rfl,(λhE=>decide_eq_true<|M hE),rfl⟩
theorem Prove_split{dn dd E:Int}{sa pa:Option Addr}{sc pc:Nat}{S parts:List Int}(hl:Sl κ I (.slice ea es.length ec) es)(hS:Sl κ I (.slice sa S.length sc) S)(hs:Sl κ I (.slice pa parts.length pc) parts)(hG:GrOk nd es)(M:E<=1000):eu prog κ 356 [.agg #[.slice sa S.length sc,e7 dn,e7 dd,e7 E,.slice pa parts.length pc],.agg #[e7 nd,.slice ea es.length ec]] I (λr J=>∃t:Bool,r = .bool t/\(AccD nd es S dn dd E parts->t=true)/\I=J):=by
 refine Ce2 Tryz.func356 C C ?_
 refine Ap<|Ge1 (Ak (cs:=[_,_,_,_,_]) C C C) λb1=>Ge1 (Ak (cs:=[_,_]) C C C) λb2=>Z ?_
 refine G.e (Ad c_ C C<|DCheck_ok (nd:=nd) (dn:=dn) (dd:=dd) (E:=E) (As hl) (As hS) (As hs) hG M) ?_
 rintro _ _ ⟨_,_,⟨ab,rfl,aa,rfl⟩,rfl,rfl⟩
 refine Z ?_
 exact Ai C C I Ah ⟨decide<|ab=0,rfl,(λM=>decide_eq_true<|aa M),rfl⟩
theorem Prove_nothing :
    eu prog κ 366 [.agg #[],.agg #[e7 nd,va]] I (λr J=>∃t:Bool,r = .bool t/\(True->t=true)/\I=J):=by
 refine Ce2 Tryz.func366 C C ?_
 refine Ap<|Ge1 (Ak (cs:=[]) C C C) λb1=>Ge1 (Ak (cs:=[_,_]) C C C) λM=>Z ?_
 exact Ai C C I Ah ⟨true,rfl,(λ_=>rfl),rfl⟩
end Go.Sl
