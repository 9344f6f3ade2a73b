/- A part of the proofs of statements of this seat: contracts of functions, and the plain laws that they lean on. No conditions. -/
import Derived.Test.YtnbkccjkdpolmaaGreatDoorR19
set_option linter.unusedVariables false
set_option linter.unusedSimpArgs false
set_option linter.unusedSectionVars false
namespace Go.Sl
open Go.Proofs
set_option maxRecDepth 4000
variable{K den lv nd node num tq:Int}{S:List Int}{I:List Item}{sa:Option Addr}{sc:Nat}
def nodeF(K:Int):Bool:=decide (K=1\/K=2\/K=10)
def setF(K:Int):Bool:=decide (K=3\/K=4\/K=9)
def levelF(K:Int):Bool:=decide (K=2\/K=9)
def timeF(K:Int):Bool:=decide (1<=K/\K<=7)
def densF(K:Int):Bool:=decide (K=8)
def noneF(K:Int):Bool:= !(nodeF K||setF K||levelF K||timeF K||densF K)
def setOk(K:Int)(S:List Int)(nd:Int):Prop:=ValidP S nd/\0<S.length/\(K≠3\/S.length=2)
instance (K:Int) (S:List Int) (nd:Int):Decidable (setOk K S nd):=inferInstanceAs (Decidable (_/\_))
def bad4(nd K node:Int)(S:List Int):Prop:=(nodeF K=true/\(node<0\/nd<=node))\/(setF K=true/\¬setOk K S nd)
def bad6(K tq:Int):Prop:=timeF K=true/\(tq<0\/1048576<tq)
def bad8(K lv:Int):Prop:=levelF K=true/\(lv<0\/64<lv)
def bad10(K node lv tq:Int)(S:List Int)(num den:Int):Prop:=(nodeF K=false/\node≠0)\/(setF K=false/\0<S.length)\/(timeF K=false/\tq≠0)\/(levelF K=false/\lv≠0)\/(densF K=false/\¬(num=0/\den=0))
instance (nd K node:Int) (S:List Int):Decidable (bad4 nd K node S):=inferInstanceAs (Decidable (_\/_))
instance (K tq:Int):Decidable (bad6 K tq):=inferInstanceAs (Decidable (_/\_))
instance (K lv:Int):Decidable (bad8 K lv):=inferInstanceAs (Decidable (_/\_))
instance (K node lv tq:Int) (S:List Int) (num den:Int):Decidable (bad10 K node lv tq S num den):=inferInstanceAs (Decidable (_\/_))
def checkQ(nd K node lv tq:Int)(S:List Int)(num den:Int):Int:=if noneF K=true then 8 else if bad4 nd K node S then 6 else if bad6 K tq then 9 else if bad8 K lv then 1 else if bad10 K node lv tq S num den then 34 else 0
structure QV (nd K node lv tq:Int) (S:List Int) (num den:Int):Prop where
 some:noneF K=false
 node:nodeF K=true->0<=node/\node<nd
 set:setF K=true->setOk K S nd
 time:timeF K=true->0<=tq/\tq<=1048576
 level:levelF K=true->0<=lv/\lv<=64
theorem bT{p:Prop}[Decidable p](h:p):true=decide p:=(decide_eq_true h).symm
theorem bF{p:Prop}[Decidable p](h:¬p):false=decide p:=(decide_eq_false h).symm
theorem bD{p q:Prop}[Decidable p][Decidable q](h:p↔q):decide p=decide q:=decide_eq_decide.2 h
theorem QV.of(h:checkQ nd K node lv tq S num den=0):QV nd K node lv tq S num den:=by
 unfold checkQ at h
 by_cases h1:noneF K=true
 ·rw [if_pos h1] at h;exact absurd h dc
 by_cases h2:bad4 nd K node S
 ·rw [if_neg h1,if_pos h2] at h;exact absurd h dc
 by_cases h3:bad6 K tq
 ·rw [if_neg h1,if_neg h2,if_pos h3] at h;exact absurd h dc
 by_cases h4:bad8 K lv
 ·rw [if_neg h1,if_neg h2,if_neg h3,if_pos h4] at h;exact absurd h dc
 unfold bad4 at h2;unfold bad6 at h3;unfold bad8 at h4
 exact ⟨by simpa using h1,λe=>by
  by_cases q:node<0\/nd<=node
  ·exact absurd (.inl ⟨e,q⟩) h2
  ·omega,λe=>Classical.not_not.1 λq=>h2<|.inr ⟨e,q⟩,λe=>by
  by_cases q:tq<0\/1048576<tq
  ·exact absurd ⟨e,q⟩ h3
  ·omega,λe=>by
  by_cases q:lv<0\/64<lv
  ·exact absurd ⟨e,q⟩ h4
  omega⟩
theorem QV.rng(h:QV nd K node lv tq S num den):1<=K/\K<=10:=by
 have M:=h.some
 unfold noneF nodeF setF levelF timeF densF at M
 simp only [Bool.not_eq_false',Bool.or_eq_true,decide_eq_true_eq] at M
 omega
section
variable {P:Program}{κ:Ctx}{N:Frm}{L:Env}{J:List Item}{d:Option Tmp}{ty:TypeId}{ps:String}{af:Array Edge}{gd:Option (Nat×Bool)}
theorem Runs.eqShape{x y:Operand}{T U:TypeId}{b1 b2 b3 b4 b5:Bool}(hg:∀(c1 c2 c3 c4 c5:Bool) (w:World),(eqGuard .eql T x y (.agg #[.bool c1,.bool c2,.bool c3,.bool c4,.bool c5]) (.agg #[.bool false,.bool false,.bool false,.bool false,.bool false])).run P w = .ok () w)
  (hT:∀(c1 c2 c3 c4 c5:Bool) (w:World),(binOp .eql T (.agg #[.bool c1,.bool c2,.bool c3,.bool c4,.bool c5])<|.agg #[.bool false,.bool false,.bool false,.bool false,.bool false]).run P w = .ok (.bool<|!(c1||c2||c3||c4||c5)) w)
  (hx:er L x=some (.agg #[.bool b1,.bool b2,.bool b3,.bool b4,.bool b5])) (hy:er L y=some (.agg #[.bool false,.bool false,.bool false,.bool false,.bool false])) :
  Runs P κ N ⟨d,.binOp .eql T x y U,ty,ps,af,gd⟩ L J (.bool<|!(b1||b2||b3||b4||b5)):=λa w M _=>by
 simp only [execOp,M.eval hx,M.eval hy]
 simp [hg,hT]
end
attribute [local irreducible] W G V D A Runs Eff
theorem QOfG_ok{κ:Ctx} :
    eu Tryz.prog κ 54 [e7 K] I (λr J=>r = .agg #[.bool (nodeF K),.bool<|setF K,.bool<|levelF K,.bool<|timeF K,.bool<|densF K]/\I=J):=by
 refine Ce1 Tryz.func54 C C ?_
 refine Ap<|Ge1 (Am ty98 C) λb1=>Ar<|Ap<|Ge1 (Am ty98 C) λb2=>Z ?_
 refine Av C (λc5=>Z ?_)<|λc5=>Z ?_
 ·refine Ge0 (A9 (cs:=[_,_,_,_,_]) (vs:=[_]) (cs':=[_,_,_,_,_]) ty4) (Z ?_)
  refine Ge0 (A9 (cs:=[_,_,_,_,_]) (vs:=[_]) (cs':=[_,_,_,_,_]) ty4)<|Z ?_
  refine Ge0 (A9 (cs:=[_,_,_,_,_]) (vs:=[_]) (cs':=[_,_,_,_,_]) ty4)<|Z ?_
  refine Ge0 (Dl ty98) ?_
  exact Ar<|Bo<|B8 C ty98 C mm C I Ah ⟨by simp [nodeF,setF,levelF,timeF,densF, *]<;>omega,rfl⟩
 refine Av C (λc7=>Z ?_)<|λc7=>Z ?_
 ·refine Ge0 (A9 (cs:=[_,_,_,_,_]) (vs:=[_]) (cs':=[_,_,_,_,_]) ty4) (Z ?_)
  refine Ge0 (A9 (cs:=[_,_,_,_,_]) (vs:=[_]) (cs':=[_,_,_,_,_]) ty4)<|Z ?_
  refine Ge0 (Dl ty98) ?_
  exact Ar<|Bo<|B8 C ty98 C mm C I Ah ⟨by simp [nodeF,setF,levelF,timeF,densF, *]<;>omega,rfl⟩
 refine Av C (λc9=>Z ?_)<|λc9=>Z ?_
 ·refine Ge0 (A9 (cs:=[_,_,_,_,_]) (vs:=[_]) (cs':=[_,_,_,_,_]) ty4) (Z ?_)
  refine Ge0 (Dl ty98) ?_
  exact Ar<|Bo<|B8 C ty98 C mm C I Ah ⟨by simp [nodeF,setF,levelF,timeF,densF, *]<;>omega,rfl⟩
 refine Av C (λc11=>?_)<|λc11=>Z ?_
 ·refine Bs (Au<|Av C (λc11=>Z ?_)<|λc11=>Z ?_)
  ·refine Ge0 (A9 (cs:=[_,_,_,_,_]) (vs:=[_]) (cs':=[_,_,_,_,_]) ty4) (Z ?_)
   refine Ge0 (A9 (cs:=[_,_,_,_,_]) (vs:=[_]) (cs':=[_,_,_,_,_]) ty4)<|Z ?_
   refine Ge0 (Dl ty98) ?_
   exact Ar<|Bo<|B8 C ty98 C mm C I Ah ⟨by simp [nodeF,setF,levelF,timeF,densF, *]<;>omega,rfl⟩
  refine Av C (λM=>?_)<|λM=>Z ?_
  ·refine Bs (Au<|Av C (λM=>Z ?_)<|λM=>Z ?_)
   ·refine Ge0 (A9 (cs:=[_,_,_,_,_]) (vs:=[_]) (cs':=[_,_,_,_,_]) ty4) (Z ?_)
    refine Ge0 (Dl ty98) ?_
    exact Ar<|Bo<|B8 C ty98 C mm C I Ah ⟨by simp [nodeF,setF,levelF,timeF,densF, *]<;>omega,rfl⟩
   refine Av C (λab=>Z ?_)<|λab=>Z ?_
   ·refine Ge0 (A9 (cs:=[_,_,_,_,_]) (vs:=[_]) (cs':=[_,_,_,_,_]) ty4) (Z ?_)
    refine Ge0 (Dl ty98) ?_
    exact Ar<|Bo<|B8 C ty98 C mm C I Ah ⟨by simp [nodeF,setF,levelF,timeF,densF, *]<;>omega,rfl⟩
   refine Av C (λaa=>Z ?_)<|λaa=>Z ?_
   ·refine Ge0 (A9 (cs:=[_,_,_,_,_]) (vs:=[_]) (cs':=[_,_,_,_,_]) ty4) ?_
    refine Gf fld98_2 C<|Ge0 (A9 (cs:=[_,_,_,_,_]) (vs:=[_]) (cs':=[_,_,_,_,_]) ty4)<|Z ?_
    refine Ge0 (Dl ty98) ?_
    exact Ar<|Bo<|B8 C ty98 C mm C I Ah ⟨by simp [nodeF,setF,levelF,timeF,densF, *]<;>omega,rfl⟩
   refine Ge0 (Dl ty98) ?_
   exact Ar<|Bo<|B8 C ty98 C mm C I Ah ⟨by simp [nodeF,setF,levelF,timeF,densF, *]<;>omega,rfl⟩
  refine Av C (λM=>?_)<|λM=>Z ?_
  ·refine Bs (Au<|Av C (λM=>Z ?_)<|λM=>Z ?_)
   ·refine Ge0 (A9 (cs:=[_,_,_,_,_]) (vs:=[_]) (cs':=[_,_,_,_,_]) ty4) (Z ?_)
    refine Ge0 (Dl ty98) ?_
    exact Ar<|Bo<|B8 C ty98 C mm C I Ah ⟨by simp [nodeF,setF,levelF,timeF,densF, *]<;>omega,rfl⟩
   refine Av C (λab=>Z ?_)<|λab=>Z ?_
   ·refine Ge0 (A9 (cs:=[_,_,_,_,_]) (vs:=[_]) (cs':=[_,_,_,_,_]) ty4) (Z ?_)
    refine Ge0 (Dl ty98) ?_
    exact Ar<|Bo<|B8 C ty98 C mm C I Ah ⟨by simp [nodeF,setF,levelF,timeF,densF, *]<;>omega,rfl⟩
   refine Av C (λaa=>Z ?_)<|λaa=>Z ?_
   ·refine Ge0 (A9 (cs:=[_,_,_,_,_]) (vs:=[_]) (cs':=[_,_,_,_,_]) ty4) ?_
    refine Gf fld98_2 C<|Ge0 (A9 (cs:=[_,_,_,_,_]) (vs:=[_]) (cs':=[_,_,_,_,_]) ty4)<|Z ?_
    refine Ge0 (Dl ty98) ?_
    exact Ar<|Bo<|B8 C ty98 C mm C I Ah ⟨by simp [nodeF,setF,levelF,timeF,densF, *]<;>omega,rfl⟩
   refine Ge0 (Dl ty98) ?_
   exact Ar<|Bo<|B8 C ty98 C mm C I Ah ⟨by simp [nodeF,setF,levelF,timeF,densF, *]<;>omega,rfl⟩
  refine Av C (λM=>Z ?_)<|λM=>Z ?_
  ·refine Ge0 (A9 (cs:=[_,_,_,_,_]) (vs:=[_]) (cs':=[_,_,_,_,_]) ty4) (Z ?_)
   refine Ge0 (Dl ty98) ?_
   exact Ar<|Bo<|B8 C ty98 C mm C I Ah ⟨by simp [nodeF,setF,levelF,timeF,densF, *]<;>omega,rfl⟩
  refine Av C (λab=>Z ?_)<|λab=>Z ?_
  ·refine Ge0 (A9 (cs:=[_,_,_,_,_]) (vs:=[_]) (cs':=[_,_,_,_,_]) ty4) (Z ?_)
   refine Ge0 (Dl ty98) ?_
   exact Ar<|Bo<|B8 C ty98 C mm C I Ah ⟨by simp [nodeF,setF,levelF,timeF,densF, *]<;>omega,rfl⟩
  refine Av C (λaa=>Z ?_)<|λaa=>Z ?_
  ·refine Ge0 (A9 (cs:=[_,_,_,_,_]) (vs:=[_]) (cs':=[_,_,_,_,_]) ty4) ?_
   refine Gf fld98_2 C<|Ge0 (A9 (cs:=[_,_,_,_,_]) (vs:=[_]) (cs':=[_,_,_,_,_]) ty4)<|Z ?_
   refine Ge0 (Dl ty98) ?_
   exact Ar<|Bo<|B8 C ty98 C mm C I Ah ⟨by simp [nodeF,setF,levelF,timeF,densF, *]<;>omega,rfl⟩
  refine Ge0 (Dl ty98) ?_
  exact Ar<|Bo<|B8 C ty98 C mm C I Ah ⟨by simp [nodeF,setF,levelF,timeF,densF, *]<;>omega,rfl⟩
 refine Av C (λc11=>Z ?_)<|λc11=>Z ?_
 ·refine Ge0 (A9 (cs:=[_,_,_,_,_]) (vs:=[_]) (cs':=[_,_,_,_,_]) ty4) (Z ?_)
  refine Ge0 (A9 (cs:=[_,_,_,_,_]) (vs:=[_]) (cs':=[_,_,_,_,_]) ty4)<|Z ?_
  refine Ge0 (Dl ty98) ?_
  exact Ar<|Bo<|B8 C ty98 C mm C I Ah ⟨by simp [nodeF,setF,levelF,timeF,densF, *]<;>omega,rfl⟩
 refine Av C (λM=>?_)<|λM=>Z ?_
 ·refine Bs (Au<|Av C (λM=>Z ?_)<|λM=>Z ?_)
  ·refine Ge0 (A9 (cs:=[_,_,_,_,_]) (vs:=[_]) (cs':=[_,_,_,_,_]) ty4) (Z ?_)
   refine Ge0 (Dl ty98) ?_
   exact Ar<|Bo<|B8 C ty98 C mm C I Ah ⟨by simp [nodeF,setF,levelF,timeF,densF, *]<;>omega,rfl⟩
  refine Av C (λab=>Z ?_)<|λab=>Z ?_
  ·refine Ge0 (A9 (cs:=[_,_,_,_,_]) (vs:=[_]) (cs':=[_,_,_,_,_]) ty4) (Z ?_)
   refine Ge0 (Dl ty98) ?_
   exact Ar<|Bo<|B8 C ty98 C mm C I Ah ⟨by simp [nodeF,setF,levelF,timeF,densF, *]<;>omega,rfl⟩
  refine Av C (λaa=>Z ?_)<|λaa=>Z ?_
  ·refine Ge0 (A9 (cs:=[_,_,_,_,_]) (vs:=[_]) (cs':=[_,_,_,_,_]) ty4) ?_
   refine Gf fld98_2 C<|Ge0 (A9 (cs:=[_,_,_,_,_]) (vs:=[_]) (cs':=[_,_,_,_,_]) ty4)<|Z ?_
   refine Ge0 (Dl ty98) ?_
   exact Ar<|Bo<|B8 C ty98 C mm C I Ah ⟨by simp [nodeF,setF,levelF,timeF,densF, *]<;>omega,rfl⟩
  refine Ge0 (Dl ty98) ?_
  exact Ar<|Bo<|B8 C ty98 C mm C I Ah ⟨by simp [nodeF,setF,levelF,timeF,densF, *]<;>omega,rfl⟩
 refine Av C (λM=>?_)<|λM=>Z ?_
 ·refine Bs (Au<|Av C (λM=>Z ?_)<|λM=>Z ?_)
  ·refine Ge0 (A9 (cs:=[_,_,_,_,_]) (vs:=[_]) (cs':=[_,_,_,_,_]) ty4) (Z ?_)
   refine Ge0 (Dl ty98) ?_
   exact Ar<|Bo<|B8 C ty98 C mm C I Ah ⟨by simp [nodeF,setF,levelF,timeF,densF, *]<;>omega,rfl⟩
  refine Av C (λab=>Z ?_)<|λab=>Z ?_
  ·refine Ge0 (A9 (cs:=[_,_,_,_,_]) (vs:=[_]) (cs':=[_,_,_,_,_]) ty4) (Z ?_)
   refine Ge0 (Dl ty98) ?_
   exact Ar<|Bo<|B8 C ty98 C mm C I Ah ⟨by simp [nodeF,setF,levelF,timeF,densF, *]<;>omega,rfl⟩
  refine Av C (λaa=>Z ?_)<|λaa=>Z ?_
  ·refine Ge0 (A9 (cs:=[_,_,_,_,_]) (vs:=[_]) (cs':=[_,_,_,_,_]) ty4) ?_
   refine Gf fld98_2 C<|Ge0 (A9 (cs:=[_,_,_,_,_]) (vs:=[_]) (cs':=[_,_,_,_,_]) ty4)<|Z ?_
   refine Ge0 (Dl ty98) ?_
   exact Ar<|Bo<|B8 C ty98 C mm C I Ah ⟨by simp [nodeF,setF,levelF,timeF,densF, *]<;>omega,rfl⟩
  refine Ge0 (Dl ty98) ?_
  exact Ar<|Bo<|B8 C ty98 C mm C I Ah ⟨by simp [nodeF,setF,levelF,timeF,densF, *]<;>omega,rfl⟩
 refine Av C (λM=>Z ?_)<|λM=>Z ?_
 ·refine Ge0 (A9 (cs:=[_,_,_,_,_]) (vs:=[_]) (cs':=[_,_,_,_,_]) ty4) (Z ?_)
  refine Ge0 (Dl ty98) ?_
  exact Ar<|Bo<|B8 C ty98 C mm C I Ah ⟨by simp [nodeF,setF,levelF,timeF,densF, *]<;>omega,rfl⟩
 refine Av C (λab=>Z ?_)<|λab=>Z ?_
 ·refine Ge0 (A9 (cs:=[_,_,_,_,_]) (vs:=[_]) (cs':=[_,_,_,_,_]) ty4) (Z ?_)
  refine Ge0 (Dl ty98)<|Z ?_
  exact B8 C ty98 C mm C I Ah ⟨by simp [nodeF,setF,levelF,timeF,densF, *]<;>omega,rfl⟩
 refine Av C (λaa=>Z ?_)<|λaa=>Z ?_
 ·refine Ge0 (A9 (cs:=[_,_,_,_,_]) (vs:=[_]) (cs':=[_,_,_,_,_]) ty4) ?_
  refine Gf fld98_2 C<|Ge0 (A9 (cs:=[_,_,_,_,_]) (vs:=[_]) (cs':=[_,_,_,_,_]) ty4)<|Z ?_
  refine Ge0 (Dl ty98) ?_
  exact Ar<|Bo<|B8 C ty98 C mm C I Ah ⟨by simp [nodeF,setF,levelF,timeF,densF, *]<;>omega,rfl⟩
 refine Ge0 (Dl ty98) ?_
 exact Ar<|Bo<|B8 C ty98 C mm C I Ah ⟨by simp [nodeF,setF,levelF,timeF,densF, *]<;>omega,rfl⟩
theorem QSetG_ok{κ:Ctx}{n:Int}{xs:List Int}(hs:Sl κ I (.slice sa xs.length sc) xs):eu Tryz.prog κ 55 [e7 K,.slice sa xs.length sc,e7 n] I (λr J=>r = .bool (decide (setOk K xs n))/\I=J):=by
 refine Ce3 Tryz.func55 C C<|Z ?_
 refine Gc0 (Ad c_ C C<|NValid_ok (As hs) n) ?_
 refine Gm C<|A6 (d:=10) C (λaa=>Z ?_)<|λaa=>Z ?_
 ·refine A6 (d:=15) C (λM=>Z ?_) (λM=>Z ?_)
  ·refine A6 (d:=18) C (λab=>Z ?_) (λab=>Z ?_)
   ·exact Ai C C I Ah ⟨congrArg Value.bool<|by unfold setOk;first|exact (decide_eq_false<|by simp_all).symm|exact (decide_eq_true<|by simp_all;try omega).symm|exact decide_eq_decide.2 (by simp_all;try omega),rfl⟩
   exact Ai C C I Ah ⟨congrArg Value.bool<|by unfold setOk;first|exact (decide_eq_false<|by simp_all).symm|exact (decide_eq_true<|by simp_all;try omega).symm|exact decide_eq_decide.2 (by simp_all;try omega),rfl⟩
  exact Ai C C I Ah ⟨congrArg Value.bool<|by unfold setOk;first|exact (decide_eq_false<|by simp_all).symm|exact (decide_eq_true<|by simp_all;try omega).symm|exact decide_eq_decide.2 (by simp_all;try omega),rfl⟩
 exact Ai C C I Ah ⟨congrArg Value.bool<|by unfold setOk;first|exact (decide_eq_false<|by simp_all).symm|exact (decide_eq_true<|by simp_all;try omega).symm|exact decide_eq_decide.2 (by simp_all;try omega),rfl⟩
theorem QCheckG_ok{κ:Ctx}(hs:Sl κ I (.slice sa S.length sc) S)(hf:densF K=true->FrV ⟨num,den⟩):eu Tryz.prog κ 27 [.agg #[e7 K,e7 node,e7 lv,e7 tq,.slice sa S.length sc,e7 num,e7 den],e7 nd] I (λr J=>r=e7 (checkQ nd K node lv tq S num den)/\I=J):=by
 have bb:densF K=true->0<=num:=λh=>(hf h).n0
 refine Ce2 Tryz.func27 C C ?_
 refine Ap<|Ge1 (Ak (cs:=[_,_,_,_,_,_,_]) C C C) λb1=>Ga C<|Ar<|Ap<|Gf fld36_0 C<|Gl ef ?_
 refine G.e (Ad c_ C C<|QOfG_ok (K:=K)) ?_
 rintro _ _ ⟨_,_,⟨rfl,rfl⟩,rfl,rfl⟩
 refine Ge1 (Am ty98 C) λb2=>Ge0 (Dl ty98) ?_
 refine Ar<|A3<|Bl<|Ap<|Gr (Bd (vs:=[_,_,_,_,_]) ty98) ?_
 refine Gr (Bg (cells:=[_,_,_,_,_]) ty98 Tryz.underlying98 pl98 C C)<|Gr (Runs.eqShape (λc1 c2 c3 c4 c5 w=>by cases c1<;>cases c2<;>cases c3<;>cases c4<;>cases c5<;>kernel_rfl) (λc1 c2 c3 c4 c5 w=>by cases c1<;>cases c2<;>cases c3<;>cases c4<;>cases c5<;>kernel_rfl) C C)<|Ga C<|Ar<|D6 C (λc9=>?_)<|λc9=>?_
 ·refine Ap (Ga C<|Ar<|Bo<|B3<|Bp ?_)
  have c9:noneF K=true:=c9
  exact Ai C C I Ah ⟨congrArg (λn=>Value.int .i64 n)<|by unfold checkQ;rw [if_pos c9],rfl⟩
 refine Fa (σ:=Bool) (λs=>([(2,.pointer<|some ⟨b1,0,none⟩),(5,.pointer<|some ⟨b2,0,none⟩),(13,.bool s)]:Env)) (λs=>e8 b2 [.bool (nodeF K),.bool<|setF K,.bool<|levelF K,.bool<|timeF K,.bool<|densF K] 98::e8 b1 [e7 K,e7 node,e7 lv,e7 tq,.slice sa S.length sc,e7 num,e7 den] 36::I) (λs=>(s=decide (bad4 nd K node S))) ?_ ?_
 ·refine Bi (Gf fld98_0 C<|Gl ty4 ?_)
  refine Gm C<|Cd (d:=16) C (λa1=>?_)<|λa1=>?_
  ·refine e9 (Ac fld36_1 C) (e9 (Ax ef) ?_)
   refine e9 (Ch C C)<|e9 (Af C)<|A6 (d:=20) C (λa3=>?_)<|λa3=>?_
   ·exact eb<|eb<|eb<|eb<|e9 (A2 C C)<|Gr (A2 C C)<|Gm C<|eb<|eb<|eb<|ee<|ee<|ee<|ee<|ee<|ee<|ee<|eb<|Gr (A2 C C)<|Ga C<|Bm<|Cn ((true))<|bT<|by unfold bad4;simp_all<;>omega
   refine e9 (Ac fld36_1 C)<|e9 (Ax ef) ?_
   refine e9 (Af C)<|e9 (Ff C C)<|e9 (Al C C)<|Gr (A2 C C)<|Gm C<|A6 (d:=27) C (λa8=>?_)<|λa8=>?_
   ·exact eb<|eb<|eb<|ee<|ee<|ee<|ee<|ee<|ee<|ee<|eb<|Gr (A2 C C)<|Ga C<|Bm<|Cn ((true))<|bT<|by unfold bad4;simp_all<;>omega
   refine e9 (Ac fld98_1 C)<|e9 (Ax ty4) ?_
   refine e9 (Af C)<|Cd (d:=30) C (λaq=>?_)<|λaq=>?_
   ·refine e9 (Ac fld36_0 C) (e9 (Ax ef) ?_)
    refine e9 (Ac fld36_4 C)<|e9 (Ax ty22) ?_
    refine e9 (Af C)<|Dn (B5 C C C) (Ad c_ C C<|QSetG_ok (K:=K) (n:=nd) (xs:=S)<|As hs) ?_
    rintro _ _ ⟨_,_,⟨rfl,rfl⟩,rfl,rfl⟩
    exact e9 (Runs.notd C)<|e9 (A2 C C)<|Gr (Al C C)<|Ga C<|Bm<|Cn ((decide<|¬(setOk K S nd)))<|bD<|by unfold bad4;simp_all<;>omega
   exact eb<|eb<|eb<|eb<|eb<|eb<|eb<|e9 (Al C C)<|Gr (Al C C)<|Ga C<|Bm<|Cn ((false))<|bF<|by unfold bad4;simp_all<;>omega
  refine eb<|eb<|eb<|eb<|ee<|ee<|ee<|ee<|eb<|Gr (Al C C)<|Gm C<|e9 (Ac fld98_1 C)<|e9 (Ax ty4) ?_
  refine e9 (Af C)<|Cd (d:=30) C (λaq=>?_)<|λaq=>?_
  ·refine e9 (Ac fld36_0 C) (e9 (Ax ef) ?_)
   refine e9 (Ac fld36_4 C)<|e9 (Ax ty22) ?_
   refine e9 (Af C)<|Dn (B5 C C C) (Ad c_ C C<|QSetG_ok (K:=K) (n:=nd) (xs:=S)<|As hs) ?_
   rintro _ _ ⟨_,_,⟨rfl,rfl⟩,rfl,rfl⟩
   exact e9 (Runs.notd C)<|e9 (A2 C C)<|Gr (Al C C)<|Ga C<|Bm<|Cn ((decide<|¬(setOk K S nd)))<|bD<|by unfold bad4;simp_all<;>omega
  exact eb<|eb<|eb<|eb<|eb<|eb<|eb<|e9 (Al C C)<|Gr (Al C C)<|Ga C<|Bm<|Cn ((false))<|bF<|by unfold bad4;simp_all<;>omega
 rintro ax hp
 have ah:(ax=decide (bad4 nd K node S)):=hp
 refine D6 C (λc13=>?_)<|λc13=>?_
 ·refine Ap (Ga C<|Ar<|Bo<|B3<|Bp ?_)
  have c9:noneF K=false:=c9
  exact Ai C C I Ah ⟨congrArg (λn=>Value.int .i64 n)<|by unfold checkQ;rw [if_neg (by simp [c9]),if_pos<|of_decide_eq_true<|ah.symm.trans c13],rfl⟩
 refine Fa (σ:=Bool) (λs=>([(2,.pointer<|some ⟨b1,0,none⟩),(5,.pointer<|some ⟨b2,0,none⟩),(40,.bool s)]:Env)) (λs=>e8 b2 [.bool (nodeF K),.bool<|setF K,.bool<|levelF K,.bool<|timeF K,.bool<|densF K] 98::e8 b1 [e7 K,e7 node,e7 lv,e7 tq,.slice sa S.length sc,e7 num,e7 den] 36::I) (λs=>(s=decide (bad6 K tq))) ?_ ?_
 ·refine Bi (Gf fld98_3 C<|Gl ty4 ?_)
  refine Gm C<|Cd (d:=43) C (λa4=>?_)<|λa4=>?_
  ·refine e9 (Ac fld36_3 C) (e9 (Ax ef) ?_)
   refine e9 (Ch C C)<|e9 (Af C)<|A6 (d:=47) C (λa6=>?_)<|λa6=>?_
   ·exact eb<|eb<|eb<|e9 (A2 C C)<|Gr (A2 C C)<|Ga C<|Bm<|Cn ((true))<|bT<|by unfold bad6;simp_all<;>omega
   refine e9 (Ac fld36_3 C)<|e9 (Ax ef) ?_
   exact e9 (Dh C C)<|e9 (Al C C)<|Gr (A2 C C)<|Ga C<|Bm<|Cn ((decide<|1048576<tq))<|bD<|by unfold bad6;simp_all<;>omega
  exact eb<|eb<|eb<|eb<|ee<|ee<|ee<|eb<|Gr (Al C C)<|Ga C<|Bm<|Cn ((false))<|bF<|by unfold bad6;simp_all<;>omega
 rintro ay hp
 have ai:(ay=decide (bad6 K tq)):=hp
 refine D6 C (λaj=>?_)<|λaj=>?_
 ·refine Ap (Ga C<|Ar<|Bo<|B3<|Bp ?_)
  have c9:noneF K=false:=c9
  exact Ai C C I Ah ⟨congrArg (λn=>Value.int .i64 n)<|by unfold checkQ;rw [if_neg (by simp [c9]),if_neg<|of_decide_eq_false<|ah.symm.trans c13,if_pos<|of_decide_eq_true<|ai.symm.trans aj],rfl⟩
 refine Fa (σ:=Bool) (λs=>([(2,.pointer<|some ⟨b1,0,none⟩),(5,.pointer<|some ⟨b2,0,none⟩),(53,.bool s)]:Env)) (λs=>e8 b2 [.bool (nodeF K),.bool<|setF K,.bool<|levelF K,.bool<|timeF K,.bool<|densF K] 98::e8 b1 [e7 K,e7 node,e7 lv,e7 tq,.slice sa S.length sc,e7 num,e7 den] 36::I) (λs=>(s=decide (bad8 K lv))) ?_ ?_
 ·refine Bi (Gf fld98_2 C<|Gl ty4 ?_)
  refine Gm C<|Cd (d:=56) C (λba=>?_)<|λba=>?_
  ·refine e9 (Ac fld36_2 C) (e9 (Ax ef) ?_)
   refine e9 (Ch C C)<|e9 (Af C)<|A6 (d:=60) C (λa0=>?_)<|λa0=>?_
   ·exact eb<|eb<|eb<|e9 (A2 C C)<|Gr (A2 C C)<|Gm C<|eb<|eb<|eb<|ee<|ee<|ee<|ee<|ee<|ee<|ee<|ee<|ee<|ee<|eb<|Gr (A2 C C)<|Ga C<|Bm<|Cn ((true))<|bT<|by unfold bad8;simp_all<;>omega
   refine e9 (Ac fld36_2 C)<|e9 (Ax ef) ?_
   refine e9 (Dh C C)<|e9 (Al C C)<|Gr (A2 C C)<|Gm C<|A6 (d:=66) C (λa5=>?_)<|λa5=>?_
   ·exact eb<|eb<|eb<|ee<|ee<|ee<|ee<|ee<|ee<|ee<|ee<|ee<|ee<|eb<|Gr (A2 C C)<|Ga C<|Bm<|Cn ((true))<|bT<|by unfold bad8;simp_all<;>omega
   refine e9 (Ac fld98_4 C)<|e9 (Ax ty4) ?_
   refine e9 (Af C)<|Cd (d:=69) C (λar=>?_)<|λar=>?_
   ·refine e9 (Ac fld36_5 C) (e9 (Bd (vs:=[_,_]) ty34) ?_)
    refine Dn (B5 C C C) (Ad c_ C C<|RatValid_ok (⟨num,den⟩:Fr)<|hf asm) ?_
    rintro _ _ ⟨_,_,⟨rfl,rfl⟩,rfl,rfl⟩
    refine e9 (Cc C)<|e9 (Af C)<|e9 (Ac fld36_5 C)<|e9 (Ac fld34_0 C)<|e9 (Ax ef) ?_
    exact e9 (Ch C C)<|e9 (Al C C)<|e9 (A2 C C)<|Gr (Al C C)<|Ga C<|Bm<|Cn ((decide<|num<0))<|bD<|by unfold bad8;simp_all<;>omega
   exact eb<|eb<|eb<|eb<|eb<|ee<|ee<|ee<|ee<|eb<|e9 (Al C C)<|Gr (Al C C)<|Ga C<|Bm<|Cn ((false))<|bF<|by unfold bad8;simp_all<;>omega
  refine eb<|eb<|eb<|eb<|ee<|ee<|ee<|eb<|Gr (Al C C)<|Gm C<|e9 (Ac fld98_4 C)<|e9 (Ax ty4) ?_
  refine e9 (Af C)<|Cd (d:=69) C (λar=>?_)<|λar=>?_
  ·refine e9 (Ac fld36_5 C) (e9 (Bd (vs:=[_,_]) ty34) ?_)
   refine Dn (B5 C C C) (Ad c_ C C<|RatValid_ok (⟨num,den⟩:Fr)<|hf asm) ?_
   rintro _ _ ⟨_,_,⟨rfl,rfl⟩,rfl,rfl⟩
   refine e9 (Cc C)<|e9 (Af C)<|e9 (Ac fld36_5 C)<|e9 (Ac fld34_0 C)<|e9 (Ax ef) ?_
   exact e9 (Ch C C)<|e9 (Al C C)<|e9 (A2 C C)<|Gr (Al C C)<|Ga C<|Bm<|Cn ((decide<|num<0))<|bD<|by unfold bad8;simp_all<;>omega
  exact eb<|eb<|eb<|eb<|eb<|ee<|ee<|ee<|ee<|eb<|e9 (Al C C)<|Gr (Al C C)<|Ga C<|Bm<|Cn ((false))<|bF<|by unfold bad8;simp_all<;>omega
 rintro az hp
 have an:(az=decide (bad8 K lv)):=hp
 refine D6 C (λao=>?_)<|λao=>?_
 ·refine Ap (Ga C<|Ar<|Bo<|B3<|Bp ?_)
  have c9:noneF K=false:=c9
  exact Ai C C I Ah ⟨congrArg (λn=>Value.int .i64 n)<|by unfold checkQ;rw [if_neg (by simp [c9]),if_neg<|of_decide_eq_false<|ah.symm.trans c13,if_neg<|of_decide_eq_false<|ai.symm.trans aj,if_pos<|of_decide_eq_true<|an.symm.trans ao],rfl⟩
 refine Fa (σ:=Bool) (λs=>([(82,.bool s)]:Env)) (λs=>e8 b2 [.bool (nodeF K),.bool<|setF K,.bool<|levelF K,.bool<|timeF K,.bool<|densF K] 98::e8 b1 [e7 K,e7 node,e7 lv,e7 tq,.slice sa S.length sc,e7 num,e7 den] 36::I) (λs=>(s=decide (bad10 K node lv tq S num den))) ?_ ?_
 ·refine Bi (Gf fld98_0 C<|Gl ty4 ?_)
  refine Gr (Cc C)<|Gm C<|Cd (d:=86) C (λa7=>?_)<|λa7=>?_
  ·refine e9 (Ac fld36_1 C) (e9 (Ax ef) ?_)
   refine e9 (C3 C C)<|Gr (A2 C C)<|Gm C<|A6 (d:=91) C (λa9=>?_)<|λa9=>?_
   ·exact eb<|eb<|eb<|eb<|ee<|ee<|ee<|ee<|eb<|Gr (A2 C C)<|Gm C<|eb<|eb<|eb<|eb<|ee<|ee<|ee<|eb<|Gr (A2 C C)<|Gm C<|eb<|eb<|eb<|eb<|ee<|ee<|ee<|eb<|Gr (A2 C C)<|Gm C<|eb<|eb<|eb<|eb<|ee<|ee<|ee<|ee<|eb<|Gr (A2 C C)<|Ga C<|Bm<|Cn ((true))<|bT<|by unfold bad10;simp_all<;>omega
   refine e9 (Ac fld98_1 C)<|e9 (Ax ty4) ?_
   refine e9 (Cc C)<|e9 (Af C)<|Cd (d:=95) C (λau=>?_)<|λau=>?_
   ·refine e9 (Ac fld36_4 C) (e9 (Ax ty22) ?_)
    refine e9 (Ce Aa C)<|e9 (Dh C C)<|e9 (A2 C C)<|Gr (Al C C)<|Gm C<|A6 (d:=102) C (λak=>?_)<|λak=>?_
    ·exact eb<|eb<|eb<|eb<|ee<|ee<|ee<|eb<|Gr (A2 C C)<|Gm C<|eb<|eb<|eb<|eb<|ee<|ee<|ee<|eb<|Gr (A2 C C)<|Gm C<|eb<|eb<|eb<|eb<|ee<|ee<|ee<|ee<|eb<|Gr (A2 C C)<|Ga C<|Bm<|Cn ((true))<|bT<|by unfold bad10;simp_all<;>omega
    refine e9 (Ac fld98_3 C)<|e9 (Ax ty4) ?_
    refine e9 (Cc C)<|e9 (Af C)<|Cd (d:=106) C (λae=>?_)<|λae=>?_
    ·refine e9 (Ac fld36_3 C) (e9 (Ax ef) ?_)
     refine e9 (C3 C C)<|e9 (A2 C C)<|Gr (Al C C)<|Gm C<|A6 (d:=112) C (λad=>?_)<|λad=>?_
     ·exact eb<|eb<|eb<|eb<|ee<|ee<|ee<|eb<|Gr (A2 C C)<|Gm C<|eb<|eb<|eb<|eb<|ee<|ee<|ee<|ee<|eb<|Gr (A2 C C)<|Ga C<|Bm<|Cn ((true))<|bT<|by unfold bad10;simp_all<;>omega
     refine e9 (Ac fld98_2 C)<|e9 (Ax ty4) ?_
     refine e9 (Cc C)<|e9 (Af C)<|Cd (d:=116) C (λab=>?_)<|λab=>?_
     ·refine e9 (Ac fld36_2 C) (e9 (Ax ef) ?_)
      refine e9 (C3 C C)<|e9 (A2 C C)<|Gr (Al C C)<|Gm C<|A6 (d:=122) C (λaa=>?_)<|λaa=>?_
      ·exact eb<|eb<|eb<|eb<|ee<|ee<|ee<|ee<|eb<|Gr (A2 C C)<|Ga C<|Bm<|Cn ((true))<|bT<|by unfold bad10;simp_all<;>omega
      refine e9 (Ac fld98_4 C)<|e9 (Ax ty4) ?_
      refine e9 (Cc C)<|e9 (Af C)<|Cd (d:=126) C (λM=>?_)<|λM=>?_
      ·refine e9 (Ac fld36_5 C) (e9 (Bd (vs:=[_,_]) ty34) ?_)
       exact e9 (Bg (cells:=[_,_]) ty34 B9 pl34 C C)<|e9 (Dj (α:=Fr) (a:=(⟨num,den⟩:Fr)) (b:=(⟨0,0⟩:Fr)) eqt34 C C)<|e9 (A2 C C)<|Gr (Al C C)<|Ga C<|Bm<|Cn ((decide<|(⟨num,den⟩:Fr)≠(⟨0,0⟩:Fr)))<|bD<|by unfold bad10;simp_all<;>omega
      exact eb<|eb<|eb<|eb<|e9 (Al C C)<|Gr (Al C C)<|Ga C<|Bm<|Cn ((false))<|bF<|by unfold bad10;simp_all<;>omega
     refine eb<|eb<|eb<|e9 (Al C C)<|Gr (Al C C)<|Gm C<|e9 (Ac fld98_4 C)<|e9 (Ax ty4) ?_
     refine e9 (Cc C)<|e9 (Af C)<|Cd (d:=126) C (λM=>?_)<|λM=>?_
     ·refine e9 (Ac fld36_5 C) (e9 (Bd (vs:=[_,_]) ty34) ?_)
      exact e9 (Bg (cells:=[_,_]) ty34 B9 pl34 C C)<|e9 (Dj (α:=Fr) (a:=(⟨num,den⟩:Fr)) (b:=(⟨0,0⟩:Fr)) eqt34 C C)<|e9 (A2 C C)<|Gr (Al C C)<|Ga C<|Bm<|Cn ((decide<|(⟨num,den⟩:Fr)≠(⟨0,0⟩:Fr)))<|bD<|by unfold bad10;simp_all<;>omega
     exact eb<|eb<|eb<|eb<|e9 (Al C C)<|Gr (Al C C)<|Ga C<|Bm<|Cn ((false))<|bF<|by unfold bad10;simp_all<;>omega
    refine eb<|eb<|eb<|e9 (Al C C)<|Gr (Al C C)<|Gm C<|e9 (Ac fld98_2 C)<|e9 (Ax ty4) ?_
    refine e9 (Cc C)<|e9 (Af C)<|Cd (d:=116) C (λab=>?_)<|λab=>?_
    ·refine e9 (Ac fld36_2 C) (e9 (Ax ef) ?_)
     refine e9 (C3 C C)<|e9 (A2 C C)<|Gr (Al C C)<|Gm C<|A6 (d:=122) C (λaa=>?_)<|λaa=>?_
     ·exact eb<|eb<|eb<|eb<|ee<|ee<|ee<|ee<|eb<|Gr (A2 C C)<|Ga C<|Bm<|Cn ((true))<|bT<|by unfold bad10;simp_all<;>omega
     refine e9 (Ac fld98_4 C)<|e9 (Ax ty4) ?_
     refine e9 (Cc C)<|e9 (Af C)<|Cd (d:=126) C (λM=>?_)<|λM=>?_
     ·refine e9 (Ac fld36_5 C) (e9 (Bd (vs:=[_,_]) ty34) ?_)
      exact e9 (Bg (cells:=[_,_]) ty34 B9 pl34 C C)<|e9 (Dj (α:=Fr) (a:=(⟨num,den⟩:Fr)) (b:=(⟨0,0⟩:Fr)) eqt34 C C)<|e9 (A2 C C)<|Gr (Al C C)<|Ga C<|Bm<|Cn ((decide<|(⟨num,den⟩:Fr)≠(⟨0,0⟩:Fr)))<|bD<|by unfold bad10;simp_all<;>omega
     exact eb<|eb<|eb<|eb<|e9 (Al C C)<|Gr (Al C C)<|Ga C<|Bm<|Cn ((false))<|bF<|by unfold bad10;simp_all<;>omega
    refine eb<|eb<|eb<|e9 (Al C C)<|Gr (Al C C)<|Gm C<|e9 (Ac fld98_4 C)<|e9 (Ax ty4) ?_
    refine e9 (Cc C)<|e9 (Af C)<|Cd (d:=126) C (λM=>?_)<|λM=>?_
    ·refine e9 (Ac fld36_5 C) (e9 (Bd (vs:=[_,_]) ty34) ?_)
     exact e9 (Bg (cells:=[_,_]) ty34 B9 pl34 C C)<|e9 (Dj (α:=Fr) (a:=(⟨num,den⟩:Fr)) (b:=(⟨0,0⟩:Fr)) eqt34 C C)<|e9 (A2 C C)<|Gr (Al C C)<|Ga C<|Bm<|Cn ((decide<|(⟨num,den⟩:Fr)≠(⟨0,0⟩:Fr)))<|bD<|by unfold bad10;simp_all<;>omega
    exact eb<|eb<|eb<|eb<|e9 (Al C C)<|Gr (Al C C)<|Ga C<|Bm<|Cn ((false))<|bF<|by unfold bad10;simp_all<;>omega
   refine eb<|eb<|eb<|eb<|e9 (Al C C)<|Gr (Al C C)<|Gm C<|e9 (Ac fld98_3 C)<|e9 (Ax ty4) ?_
   refine e9 (Cc C)<|e9 (Af C)<|Cd (d:=106) C (λae=>?_)<|λae=>?_
   ·refine e9 (Ac fld36_3 C) (e9 (Ax ef) ?_)
    refine e9 (C3 C C)<|e9 (A2 C C)<|Gr (Al C C)<|Gm C<|A6 (d:=112) C (λad=>?_)<|λad=>?_
    ·exact eb<|eb<|eb<|eb<|ee<|ee<|ee<|eb<|Gr (A2 C C)<|Gm C<|eb<|eb<|eb<|eb<|ee<|ee<|ee<|ee<|eb<|Gr (A2 C C)<|Ga C<|Bm<|Cn ((true))<|bT<|by unfold bad10;simp_all<;>omega
    refine e9 (Ac fld98_2 C)<|e9 (Ax ty4) ?_
    refine e9 (Cc C)<|e9 (Af C)<|Cd (d:=116) C (λab=>?_)<|λab=>?_
    ·refine e9 (Ac fld36_2 C) (e9 (Ax ef) ?_)
     refine e9 (C3 C C)<|e9 (A2 C C)<|Gr (Al C C)<|Gm C<|A6 (d:=122) C (λaa=>?_)<|λaa=>?_
     ·exact eb<|eb<|eb<|eb<|ee<|ee<|ee<|ee<|eb<|Gr (A2 C C)<|Ga C<|Bm<|Cn ((true))<|bT<|by unfold bad10;simp_all<;>omega
     refine e9 (Ac fld98_4 C)<|e9 (Ax ty4) ?_
     refine e9 (Cc C)<|e9 (Af C)<|Cd (d:=126) C (λM=>?_)<|λM=>?_
     ·refine e9 (Ac fld36_5 C) (e9 (Bd (vs:=[_,_]) ty34) ?_)
      exact e9 (Bg (cells:=[_,_]) ty34 B9 pl34 C C)<|e9 (Dj (α:=Fr) (a:=(⟨num,den⟩:Fr)) (b:=(⟨0,0⟩:Fr)) eqt34 C C)<|e9 (A2 C C)<|Gr (Al C C)<|Ga C<|Bm<|Cn ((decide<|(⟨num,den⟩:Fr)≠(⟨0,0⟩:Fr)))<|bD<|by unfold bad10;simp_all<;>omega
     exact eb<|eb<|eb<|eb<|e9 (Al C C)<|Gr (Al C C)<|Ga C<|Bm<|Cn ((false))<|bF<|by unfold bad10;simp_all<;>omega
    refine eb<|eb<|eb<|e9 (Al C C)<|Gr (Al C C)<|Gm C<|e9 (Ac fld98_4 C)<|e9 (Ax ty4) ?_
    refine e9 (Cc C)<|e9 (Af C)<|Cd (d:=126) C (λM=>?_)<|λM=>?_
    ·refine e9 (Ac fld36_5 C) (e9 (Bd (vs:=[_,_]) ty34) ?_)
     exact e9 (Bg (cells:=[_,_]) ty34 B9 pl34 C C)<|e9 (Dj (α:=Fr) (a:=(⟨num,den⟩:Fr)) (b:=(⟨0,0⟩:Fr)) eqt34 C C)<|e9 (A2 C C)<|Gr (Al C C)<|Ga C<|Bm<|Cn ((decide<|(⟨num,den⟩:Fr)≠(⟨0,0⟩:Fr)))<|bD<|by unfold bad10;simp_all<;>omega
    exact eb<|eb<|eb<|eb<|e9 (Al C C)<|Gr (Al C C)<|Ga C<|Bm<|Cn ((false))<|bF<|by unfold bad10;simp_all<;>omega
   refine eb<|eb<|eb<|e9 (Al C C)<|Gr (Al C C)<|Gm C<|e9 (Ac fld98_2 C)<|e9 (Ax ty4) ?_
   refine e9 (Cc C)<|e9 (Af C)<|Cd (d:=116) C (λab=>?_)<|λab=>?_
   ·refine e9 (Ac fld36_2 C) (e9 (Ax ef) ?_)
    refine e9 (C3 C C)<|e9 (A2 C C)<|Gr (Al C C)<|Gm C<|A6 (d:=122) C (λaa=>?_)<|λaa=>?_
    ·exact eb<|eb<|eb<|eb<|ee<|ee<|ee<|ee<|eb<|Gr (A2 C C)<|Ga C<|Bm<|Cn ((true))<|bT<|by unfold bad10;simp_all<;>omega
    refine e9 (Ac fld98_4 C)<|e9 (Ax ty4) ?_
    refine e9 (Cc C)<|e9 (Af C)<|Cd (d:=126) C (λM=>?_)<|λM=>?_
    ·refine e9 (Ac fld36_5 C) (e9 (Bd (vs:=[_,_]) ty34) ?_)
     exact e9 (Bg (cells:=[_,_]) ty34 B9 pl34 C C)<|e9 (Dj (α:=Fr) (a:=(⟨num,den⟩:Fr)) (b:=(⟨0,0⟩:Fr)) eqt34 C C)<|e9 (A2 C C)<|Gr (Al C C)<|Ga C<|Bm<|Cn ((decide<|(⟨num,den⟩:Fr)≠(⟨0,0⟩:Fr)))<|bD<|by unfold bad10;simp_all<;>omega
    exact eb<|eb<|eb<|eb<|e9 (Al C C)<|Gr (Al C C)<|Ga C<|Bm<|Cn ((false))<|bF<|by unfold bad10;simp_all<;>omega
   refine eb<|eb<|eb<|e9 (Al C C)<|Gr (Al C C)<|Gm C<|e9 (Ac fld98_4 C)<|e9 (Ax ty4) ?_
   refine e9 (Cc C)<|e9 (Af C)<|Cd (d:=126) C (λM=>?_)<|λM=>?_
   ·refine e9 (Ac fld36_5 C) (e9 (Bd (vs:=[_,_]) ty34) ?_)
    exact e9 (Bg (cells:=[_,_]) ty34 B9 pl34 C C)<|e9 (Dj (α:=Fr) (a:=(⟨num,den⟩:Fr)) (b:=(⟨0,0⟩:Fr)) eqt34 C C)<|e9 (A2 C C)<|Gr (Al C C)<|Ga C<|Bm<|Cn ((decide<|(⟨num,den⟩:Fr)≠(⟨0,0⟩:Fr)))<|bD<|by unfold bad10;simp_all<;>omega
   exact eb<|eb<|eb<|eb<|e9 (Al C C)<|Gr (Al C C)<|Ga C<|Bm<|Cn ((false))<|bF<|by unfold bad10;simp_all<;>omega
  refine eb<|eb<|eb<|Gr (Al C C)<|Gm C<|e9 (Ac fld98_1 C)<|e9 (Ax ty4) ?_
  refine e9 (Cc C)<|e9 (Af C)<|Cd (d:=95) C (λau=>?_)<|λau=>?_
  ·refine e9 (Ac fld36_4 C) (e9 (Ax ty22) ?_)
   refine e9 (Ce Aa C)<|e9 (Dh C C)<|e9 (A2 C C)<|Gr (Al C C)<|Gm C<|A6 (d:=102) C (λak=>?_)<|λak=>?_
   ·exact eb<|eb<|eb<|eb<|ee<|ee<|ee<|eb<|Gr (A2 C C)<|Gm C<|eb<|eb<|eb<|eb<|ee<|ee<|ee<|eb<|Gr (A2 C C)<|Gm C<|eb<|eb<|eb<|eb<|ee<|ee<|ee<|ee<|eb<|Gr (A2 C C)<|Ga C<|Bm<|Cn ((true))<|bT<|by unfold bad10;simp_all<;>omega
   refine e9 (Ac fld98_3 C)<|e9 (Ax ty4) ?_
   refine e9 (Cc C)<|e9 (Af C)<|Cd (d:=106) C (λae=>?_)<|λae=>?_
   ·refine e9 (Ac fld36_3 C) (e9 (Ax ef) ?_)
    refine e9 (C3 C C)<|e9 (A2 C C)<|Gr (Al C C)<|Gm C<|A6 (d:=112) C (λad=>?_)<|λad=>?_
    ·exact eb<|eb<|eb<|eb<|ee<|ee<|ee<|eb<|Gr (A2 C C)<|Gm C<|eb<|eb<|eb<|eb<|ee<|ee<|ee<|ee<|eb<|Gr (A2 C C)<|Ga C<|Bm<|Cn ((true))<|bT<|by unfold bad10;simp_all<;>omega
    refine e9 (Ac fld98_2 C)<|e9 (Ax ty4) ?_
    refine e9 (Cc C)<|e9 (Af C)<|Cd (d:=116) C (λab=>?_)<|λab=>?_
    ·refine e9 (Ac fld36_2 C) (e9 (Ax ef) ?_)
     refine e9 (C3 C C)<|e9 (A2 C C)<|Gr (Al C C)<|Gm C<|A6 (d:=122) C (λaa=>?_)<|λaa=>?_
     ·exact eb<|eb<|eb<|eb<|ee<|ee<|ee<|ee<|eb<|Gr (A2 C C)<|Ga C<|Bm<|Cn ((true))<|bT<|by unfold bad10;simp_all<;>omega
     refine e9 (Ac fld98_4 C)<|e9 (Ax ty4) ?_
     refine e9 (Cc C)<|e9 (Af C)<|Cd (d:=126) C (λM=>?_)<|λM=>?_
     ·refine e9 (Ac fld36_5 C) (e9 (Bd (vs:=[_,_]) ty34) ?_)
      exact e9 (Bg (cells:=[_,_]) ty34 B9 pl34 C C)<|e9 (Dj (α:=Fr) (a:=(⟨num,den⟩:Fr)) (b:=(⟨0,0⟩:Fr)) eqt34 C C)<|e9 (A2 C C)<|Gr (Al C C)<|Ga C<|Bm<|Cn ((decide<|(⟨num,den⟩:Fr)≠(⟨0,0⟩:Fr)))<|bD<|by unfold bad10;simp_all<;>omega
     exact eb<|eb<|eb<|eb<|e9 (Al C C)<|Gr (Al C C)<|Ga C<|Bm<|Cn ((false))<|bF<|by unfold bad10;simp_all<;>omega
    refine eb<|eb<|eb<|e9 (Al C C)<|Gr (Al C C)<|Gm C<|e9 (Ac fld98_4 C)<|e9 (Ax ty4) ?_
    refine e9 (Cc C)<|e9 (Af C)<|Cd (d:=126) C (λM=>?_)<|λM=>?_
    ·refine e9 (Ac fld36_5 C) (e9 (Bd (vs:=[_,_]) ty34) ?_)
     exact e9 (Bg (cells:=[_,_]) ty34 B9 pl34 C C)<|e9 (Dj (α:=Fr) (a:=(⟨num,den⟩:Fr)) (b:=(⟨0,0⟩:Fr)) eqt34 C C)<|e9 (A2 C C)<|Gr (Al C C)<|Ga C<|Bm<|Cn ((decide<|(⟨num,den⟩:Fr)≠(⟨0,0⟩:Fr)))<|bD<|by unfold bad10;simp_all<;>omega
    exact eb<|eb<|eb<|eb<|e9 (Al C C)<|Gr (Al C C)<|Ga C<|Bm<|Cn ((false))<|bF<|by unfold bad10;simp_all<;>omega
   refine eb<|eb<|eb<|e9 (Al C C)<|Gr (Al C C)<|Gm C<|e9 (Ac fld98_2 C)<|e9 (Ax ty4) ?_
   refine e9 (Cc C)<|e9 (Af C)<|Cd (d:=116) C (λab=>?_)<|λab=>?_
   ·refine e9 (Ac fld36_2 C) (e9 (Ax ef) ?_)
    refine e9 (C3 C C)<|e9 (A2 C C)<|Gr (Al C C)<|Gm C<|A6 (d:=122) C (λaa=>?_)<|λaa=>?_
    ·exact eb<|eb<|eb<|eb<|ee<|ee<|ee<|ee<|eb<|Gr (A2 C C)<|Ga C<|Bm<|Cn ((true))<|bT<|by unfold bad10;simp_all<;>omega
    refine e9 (Ac fld98_4 C)<|e9 (Ax ty4) ?_
    refine e9 (Cc C)<|e9 (Af C)<|Cd (d:=126) C (λM=>?_)<|λM=>?_
    ·refine e9 (Ac fld36_5 C) (e9 (Bd (vs:=[_,_]) ty34) ?_)
     exact e9 (Bg (cells:=[_,_]) ty34 B9 pl34 C C)<|e9 (Dj (α:=Fr) (a:=(⟨num,den⟩:Fr)) (b:=(⟨0,0⟩:Fr)) eqt34 C C)<|e9 (A2 C C)<|Gr (Al C C)<|Ga C<|Bm<|Cn ((decide<|(⟨num,den⟩:Fr)≠(⟨0,0⟩:Fr)))<|bD<|by unfold bad10;simp_all<;>omega
    exact eb<|eb<|eb<|eb<|e9 (Al C C)<|Gr (Al C C)<|Ga C<|Bm<|Cn ((false))<|bF<|by unfold bad10;simp_all<;>omega
   refine eb<|eb<|eb<|e9 (Al C C)<|Gr (Al C C)<|Gm C<|e9 (Ac fld98_4 C)<|e9 (Ax ty4) ?_
   refine e9 (Cc C)<|e9 (Af C)<|Cd (d:=126) C (λM=>?_)<|λM=>?_
   ·refine e9 (Ac fld36_5 C) (e9 (Bd (vs:=[_,_]) ty34) ?_)
    exact e9 (Bg (cells:=[_,_]) ty34 B9 pl34 C C)<|e9 (Dj (α:=Fr) (a:=(⟨num,den⟩:Fr)) (b:=(⟨0,0⟩:Fr)) eqt34 C C)<|e9 (A2 C C)<|Gr (Al C C)<|Ga C<|Bm<|Cn ((decide<|(⟨num,den⟩:Fr)≠(⟨0,0⟩:Fr)))<|bD<|by unfold bad10;simp_all<;>omega
   exact eb<|eb<|eb<|eb<|e9 (Al C C)<|Gr (Al C C)<|Ga C<|Bm<|Cn ((false))<|bF<|by unfold bad10;simp_all<;>omega
  refine eb<|eb<|eb<|eb<|e9 (Al C C)<|Gr (Al C C)<|Gm C<|e9 (Ac fld98_3 C)<|e9 (Ax ty4) ?_
  refine e9 (Cc C)<|e9 (Af C)<|Cd (d:=106) C (λae=>?_)<|λae=>?_
  ·refine e9 (Ac fld36_3 C) (e9 (Ax ef) ?_)
   refine e9 (C3 C C)<|e9 (A2 C C)<|Gr (Al C C)<|Gm C<|A6 (d:=112) C (λad=>?_)<|λad=>?_
   ·exact eb<|eb<|eb<|eb<|ee<|ee<|ee<|eb<|Gr (A2 C C)<|Gm C<|eb<|eb<|eb<|eb<|ee<|ee<|ee<|ee<|eb<|Gr (A2 C C)<|Ga C<|Bm<|Cn ((true))<|bT<|by unfold bad10;simp_all<;>omega
   refine e9 (Ac fld98_2 C)<|e9 (Ax ty4) ?_
   refine e9 (Cc C)<|e9 (Af C)<|Cd (d:=116) C (λab=>?_)<|λab=>?_
   ·refine e9 (Ac fld36_2 C) (e9 (Ax ef) ?_)
    refine e9 (C3 C C)<|e9 (A2 C C)<|Gr (Al C C)<|Gm C<|A6 (d:=122) C (λaa=>?_)<|λaa=>?_
    ·exact eb<|eb<|eb<|eb<|ee<|ee<|ee<|ee<|eb<|Gr (A2 C C)<|Ga C<|Bm<|Cn ((true))<|bT<|by unfold bad10;simp_all<;>omega
    refine e9 (Ac fld98_4 C)<|e9 (Ax ty4) ?_
    refine e9 (Cc C)<|e9 (Af C)<|Cd (d:=126) C (λM=>?_)<|λM=>?_
    ·refine e9 (Ac fld36_5 C) (e9 (Bd (vs:=[_,_]) ty34) ?_)
     exact e9 (Bg (cells:=[_,_]) ty34 B9 pl34 C C)<|e9 (Dj (α:=Fr) (a:=(⟨num,den⟩:Fr)) (b:=(⟨0,0⟩:Fr)) eqt34 C C)<|e9 (A2 C C)<|Gr (Al C C)<|Ga C<|Bm<|Cn ((decide<|(⟨num,den⟩:Fr)≠(⟨0,0⟩:Fr)))<|bD<|by unfold bad10;simp_all<;>omega
    exact eb<|eb<|eb<|eb<|e9 (Al C C)<|Gr (Al C C)<|Ga C<|Bm<|Cn ((false))<|bF<|by unfold bad10;simp_all<;>omega
   refine eb<|eb<|eb<|e9 (Al C C)<|Gr (Al C C)<|Gm C<|e9 (Ac fld98_4 C)<|e9 (Ax ty4) ?_
   refine e9 (Cc C)<|e9 (Af C)<|Cd (d:=126) C (λM=>?_)<|λM=>?_
   ·refine e9 (Ac fld36_5 C) (e9 (Bd (vs:=[_,_]) ty34) ?_)
    exact e9 (Bg (cells:=[_,_]) ty34 B9 pl34 C C)<|e9 (Dj (α:=Fr) (a:=(⟨num,den⟩:Fr)) (b:=(⟨0,0⟩:Fr)) eqt34 C C)<|e9 (A2 C C)<|Gr (Al C C)<|Ga C<|Bm<|Cn ((decide<|(⟨num,den⟩:Fr)≠(⟨0,0⟩:Fr)))<|bD<|by unfold bad10;simp_all<;>omega
   exact eb<|eb<|eb<|eb<|e9 (Al C C)<|Gr (Al C C)<|Ga C<|Bm<|Cn ((false))<|bF<|by unfold bad10;simp_all<;>omega
  refine eb<|eb<|eb<|e9 (Al C C)<|Gr (Al C C)<|Gm C<|e9 (Ac fld98_2 C)<|e9 (Ax ty4) ?_
  refine e9 (Cc C)<|e9 (Af C)<|Cd (d:=116) C (λab=>?_)<|λab=>?_
  ·refine e9 (Ac fld36_2 C) (e9 (Ax ef) ?_)
   refine e9 (C3 C C)<|e9 (A2 C C)<|Gr (Al C C)<|Gm C<|A6 (d:=122) C (λaa=>?_)<|λaa=>?_
   ·exact eb<|eb<|eb<|eb<|ee<|ee<|ee<|ee<|eb<|Gr (A2 C C)<|Ga C<|Bm<|Cn ((true))<|bT<|by unfold bad10;simp_all<;>omega
   refine e9 (Ac fld98_4 C)<|e9 (Ax ty4) ?_
   refine e9 (Cc C)<|e9 (Af C)<|Cd (d:=126) C (λM=>?_)<|λM=>?_
   ·refine e9 (Ac fld36_5 C) (e9 (Bd (vs:=[_,_]) ty34) ?_)
    exact e9 (Bg (cells:=[_,_]) ty34 B9 pl34 C C)<|e9 (Dj (α:=Fr) (a:=(⟨num,den⟩:Fr)) (b:=(⟨0,0⟩:Fr)) eqt34 C C)<|e9 (A2 C C)<|Gr (Al C C)<|Ga C<|Bm<|Cn ((decide<|(⟨num,den⟩:Fr)≠(⟨0,0⟩:Fr)))<|bD<|by unfold bad10;simp_all<;>omega
   exact eb<|eb<|eb<|eb<|e9 (Al C C)<|Gr (Al C C)<|Ga C<|Bm<|Cn ((false))<|bF<|by unfold bad10;simp_all<;>omega
  refine eb<|eb<|eb<|e9 (Al C C)<|Gr (Al C C)<|Gm C<|e9 (Ac fld98_4 C)<|e9 (Ax ty4) ?_
  refine e9 (Cc C)<|e9 (Af C)<|Cd (d:=126) C (λM=>?_)<|λM=>?_
  ·refine e9 (Ac fld36_5 C) (e9 (Bd (vs:=[_,_]) ty34) ?_)
   exact e9 (Bg (cells:=[_,_]) ty34 B9 pl34 C C)<|e9 (Dj (α:=Fr) (a:=(⟨num,den⟩:Fr)) (b:=(⟨0,0⟩:Fr)) eqt34 C C)<|e9 (A2 C C)<|Gr (Al C C)<|Ga C<|Bm<|Cn ((decide<|(⟨num,den⟩:Fr)≠(⟨0,0⟩:Fr)))<|bD<|by unfold bad10;simp_all<;>omega
  exact eb<|eb<|eb<|eb<|e9 (Al C C)<|Gr (Al C C)<|Ga C<|Bm<|Cn ((false))<|bF<|by unfold bad10;simp_all<;>omega
 rintro aw hp
 have ap:(aw=decide (bad10 K node lv tq S num den)):=hp
 refine D6 C (λav=>?_)<|λav=>?_
 ·refine Ap (Ga C<|Ar<|Bo<|B3<|Bp ?_)
  have c9:noneF K=false:=c9
  exact Ai C C I Ah ⟨congrArg (λn=>Value.int .i64 n)<|by unfold checkQ;rw [if_neg (by simp [c9]),if_neg<|of_decide_eq_false<|ah.symm.trans c13,if_neg<|of_decide_eq_false<|ai.symm.trans aj,if_neg<|of_decide_eq_false<|an.symm.trans ao,if_pos<|of_decide_eq_true<|ap.symm.trans av],rfl⟩
 refine Bs<|Ay<|Au<|Ap<|Ga C<|Ar<|Bo ?_
 have c9:noneF K=false:=c9
 exact Ai C C I Ah ⟨congrArg (λn=>Value.int .i64 n)<|by unfold checkQ;rw [if_neg (by simp [c9]),if_neg<|of_decide_eq_false<|ah.symm.trans c13,if_neg<|of_decide_eq_false<|ai.symm.trans aj,if_neg<|of_decide_eq_false<|an.symm.trans ao,if_neg<|of_decide_eq_false<|ap.symm.trans av],rfl⟩
end Go.Sl
namespace Go.Sl
variable {P:Program}{κ:Ctx}{N:Frm}{L:Env}{I:List Item}
theorem V.retvv{fn:Func}{t u:Tmp}{T U b b' E E' by' ae:Nat}{z z':List Value}{v v':Value}{Post:Value->List Item->Prop}(hr:fn.results = #[.cell t T,.cell u U])(hT:tyF P T=some (1,false,by',z))(hU:tyF P U=some (1,false,ae,z'))
  (hv:look L t=some (.pointer<|some ⟨b,0,none⟩)) (ah:look L u=some (.pointer<|some ⟨b',0,none⟩)) (hb:e8 b [v] E∈I) (ai:e8 b' [v'] E'∈I)
  (J:List Item) (hf:Fit κ I J) (hp:Post (.tuple #[v,v']) J) (h0:N.ds=[]:=by rfl):V κ N (bodyPost P fn<|RetR κ Post) .ret L I:=
 λa w ha hs=>by
  have ad:w.cell? ⟨b,0,none⟩=some v:=by rw [cell_blk (w:=w) (hs.ok _ hb).1 0];rfl
  have M:w.cell? ⟨b',0,none⟩=some v':=by rw [cell_blk (w:=w) (hs.ok _ ai).1 0];rfl
  have ab:(loadVar T ⟨b,0,none⟩).run P w = .ok v w:=run_loadVar_one hT ad
  have aa:(loadVar U ⟨b',0,none⟩).run P w = .ok v' w:=run_loadVar_one hU M
  refine bodyPost_ret (v:= .tuple #[v,v']) ?_ (ha.defers.trans h0) ⟨_,J,rfl,hp,hf w hs⟩
  simp [results,hr,ha.get t _ hv,ha.get u _ ah,asAddr,ab,aa]
end Go.Sl
namespace Go.Sl
open Go.Proofs
set_option maxRecDepth 4000
def numT(nd kd wd mo:Int)(es:List Ev)(v t:Int):Int:=e_ (coreN nd (atG kd wd mo es t)) v
theorem allE_len{nd kd wd mo:Int}{es:List Ev}(hH:HistOk nd kd wd mo es)(hlen:es.length<=19):(allE kd wd mo es).length<=57:=by
 have M:=hH.len2
 have h3:=hH.len
 have h4:=lateL_len kd wd (eh (slideS kd wd mo es).2)
 unfold allE
 rw [List.length_append,(isort_permG _ _).length_eq]
 omega
end Go.Sl
