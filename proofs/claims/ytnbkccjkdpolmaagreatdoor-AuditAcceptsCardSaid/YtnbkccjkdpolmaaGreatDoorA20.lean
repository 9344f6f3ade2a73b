/- A part of the proofs of statements of this seat: contracts of functions, and the plain laws that they lean on. No conditions. -/
import Derived.Test.YtnbkccjkdpolmaaGreatDoorA19
set_option linter.unusedVariables false
set_option linter.unusedSimpArgs false
set_option linter.unusedSectionVars false
namespace Go.Sl
open Go.Proofs
set_option maxRecDepth 4000
variable{K den lv nd node num tq:Int}{S:List Int}{I:List Item}{sa:Option Addr}{sc:Nat}
def nodeF(K:Int):Bool:=decide (K=1\/K=2\/K=10)
def setF(K:Int):Bool:=decide (K=3\/K=4\/K=9)
def levelF(K:Int):Bool:=decide (K=2\/K=9)
def timeF(K:Int):Bool:=decide (1<=K/\K<=7)
def densF(K:Int):Bool:=decide (K=8)
def noneF(K:Int):Bool:= !(nodeF K||setF K||levelF K||timeF K||densF K)
def setOk(K:Int)(S:List Int)(nd:Int):Prop:=ValidP S nd/\0<S.length/\(K≠3\/S.length=2)
instance (K:Int) (S:List Int) (nd:Int):Decidable (setOk K S nd):=inferInstanceAs (Decidable (_/\_))
def bad4(nd K node:Int)(S:List Int):Prop:=(nodeF K=true/\(node<0\/nd<=node))\/(setF K=true/\¬setOk K S nd)
def bad6(K tq:Int):Prop:=timeF K=true/\(tq<0\/1048576<tq)
def bad8(K lv:Int):Prop:=levelF K=true/\(lv<0\/64<lv)
def bad10(K node lv tq:Int)(S:List Int)(num den:Int):Prop:=(nodeF K=false/\node≠0)\/(setF K=false/\0<S.length)\/(timeF K=false/\tq≠0)\/(levelF K=false/\lv≠0)\/(densF K=false/\¬(num=0/\den=0))
instance (nd K node:Int) (S:List Int):Decidable (bad4 nd K node S):=inferInstanceAs (Decidable (_\/_))
instance (K tq:Int):Decidable (bad6 K tq):=inferInstanceAs (Decidable (_/\_))
instance (K lv:Int):Decidable (bad8 K lv):=inferInstanceAs (Decidable (_/\_))
instance (K node lv tq:Int) (S:List Int) (num den:Int):Decidable (bad10 K node lv tq S num den):=inferInstanceAs (Decidable (_\/_))
def checkQ(nd K node lv tq:Int)(S:List Int)(num den:Int):Int:=if noneF K=true then 8 else if bad4 nd K node S then 6 else if bad6 K tq then 9 else if bad8 K lv then 1 else if bad10 K node lv tq S num den then 34 else 0
structure QV (nd K node lv tq:Int) (S:List Int) (num den:Int):Prop where
 some:noneF K=false
 node:nodeF K=true->0<=node/\node<nd
 set:setF K=true->setOk K S nd
 time:timeF K=true->0<=tq/\tq<=1048576
 level:levelF K=true->0<=lv/\lv<=64
theorem bT{p:Prop}[Decidable p](h:p):true=decide p:=(decide_eq_true h).symm
theorem bF{p:Prop}[Decidable p](h:¬p):false=decide p:=(decide_eq_false h).symm
theorem bD{p q:Prop}[Decidable p][Decidable q](h:p↔q):decide p=decide q:=decide_eq_decide.2 h
theorem QV.of(h:checkQ nd K node lv tq S num den=0):QV nd K node lv tq S num den:=by
 unfold checkQ at h
 by_cases h1:noneF K=true
 ·rw [if_pos h1] at h;exact absurd h dc
 by_cases h2:bad4 nd K node S
 ·rw [if_neg h1,if_pos h2] at h;exact absurd h dc
 by_cases h3:bad6 K tq
 ·rw [if_neg h1,if_neg h2,if_pos h3] at h;exact absurd h dc
 by_cases h4:bad8 K lv
 ·rw [if_neg h1,if_neg h2,if_neg h3,if_pos h4] at h;exact absurd h dc
 unfold bad4 at h2;unfold bad6 at h3;unfold bad8 at h4
 exact ⟨by simpa using h1,λe=>by
  by_cases q:node<0\/nd<=node
  ·exact absurd (.inl ⟨e,q⟩) h2
  ·omega,λe=>Classical.not_not.1 λq=>h2<|.inr ⟨e,q⟩,λe=>by
  by_cases q:tq<0\/1048576<tq
  ·exact absurd ⟨e,q⟩ h3
  ·omega,λe=>by
  by_cases q:lv<0\/64<lv
  ·exact absurd ⟨e,q⟩ h4
  omega⟩
theorem QV.rng(h:QV nd K node lv tq S num den):1<=K/\K<=10:=by
 have M:=h.some
 unfold noneF nodeF setF levelF timeF densF at M
 simp only [Bool.not_eq_false',Bool.or_eq_true,decide_eq_true_eq] at M
 omega
section
variable {P:Program}{κ:Ctx}{N:Frm}{L:Env}{J:List Item}{d:Option Tmp}{ty:TypeId}{ps:String}{af:Array Edge}{gd:Option (Nat×Bool)}
theorem Runs.eqShape{x y:Operand}{T U:TypeId}{b1 b2 b3 b4 b5:Bool}(hg:∀(c1 c2 c3 c4 c5:Bool) (w:World),(eqGuard .eql T x y (.agg #[.bool c1,.bool c2,.bool c3,.bool c4,.bool c5]) (.agg #[.bool false,.bool false,.bool false,.bool false,.bool false])).run P w = .ok () w)
  (hT:∀(c1 c2 c3 c4 c5:Bool) (w:World),(binOp .eql T (.agg #[.bool c1,.bool c2,.bool c3,.bool c4,.bool c5])<|.agg #[.bool false,.bool false,.bool false,.bool false,.bool false]).run P w = .ok (.bool<|!(c1||c2||c3||c4||c5)) w)
  (hx:er L x=some (.agg #[.bool b1,.bool b2,.bool b3,.bool b4,.bool b5])) (hy:er L y=some (.agg #[.bool false,.bool false,.bool false,.bool false,.bool false])) :
  Runs P κ N ⟨d,.binOp .eql T x y U,ty,ps,af,gd⟩ L J (.bool<|!(b1||b2||b3||b4||b5)):=λa w M _=>by
 simp only [execOp,M.eval hx,M.eval hy]
 simp [hg,hT]
end
attribute [local irreducible] W G V D A Runs Eff
theorem QOfG_ok{κ:Ctx} :
    eu Tryz.prog κ 54 [e7 K] I (λr J=>r = .agg #[.bool (nodeF K),.bool<|setF K,.bool<|levelF K,.bool<|timeF K,.bool<|densF K]/\I=J):=by
 refine Ce1 Tryz.func54 C C ?_
 refine Ar<|Ge1 (Am ty98 C) λb1=>As<|Ar<|Ge1 (Am ty98 C) λb2=>Z ?_
 refine Ap C (λc5=>Z ?_)<|λc5=>Z ?_
 ·refine Ge0 (A3 (cs:=[_,_,_,_,_]) (vs:=[_]) (cs':=[_,_,_,_,_]) ty4) (Z ?_)
  refine Ge0 (A3 (cs:=[_,_,_,_,_]) (vs:=[_]) (cs':=[_,_,_,_,_]) ty4)<|Z ?_
  refine Ge0 (A3 (cs:=[_,_,_,_,_]) (vs:=[_]) (cs':=[_,_,_,_,_]) ty4)<|Z ?_
  refine Ge0 (Dl ty98) ?_
  exact As<|Bf<|B0 C ty98 C mm C I Ah ⟨by simp [nodeF,setF,levelF,timeF,densF, *]<;>omega,rfl⟩
 refine Ap C (λc7=>Z ?_)<|λc7=>Z ?_
 ·refine Ge0 (A3 (cs:=[_,_,_,_,_]) (vs:=[_]) (cs':=[_,_,_,_,_]) ty4) (Z ?_)
  refine Ge0 (A3 (cs:=[_,_,_,_,_]) (vs:=[_]) (cs':=[_,_,_,_,_]) ty4)<|Z ?_
  refine Ge0 (Dl ty98) ?_
  exact As<|Bf<|B0 C ty98 C mm C I Ah ⟨by simp [nodeF,setF,levelF,timeF,densF, *]<;>omega,rfl⟩
 refine Ap C (λc9=>Z ?_)<|λc9=>Z ?_
 ·refine Ge0 (A3 (cs:=[_,_,_,_,_]) (vs:=[_]) (cs':=[_,_,_,_,_]) ty4) (Z ?_)
  refine Ge0 (Dl ty98) ?_
  exact As<|Bf<|B0 C ty98 C mm C I Ah ⟨by simp [nodeF,setF,levelF,timeF,densF, *]<;>omega,rfl⟩
 refine Ap C (λc11=>?_)<|λc11=>Z ?_
 ·refine Bt (Ay<|Ap C (λc11=>Z ?_)<|λc11=>Z ?_)
  ·refine Ge0 (A3 (cs:=[_,_,_,_,_]) (vs:=[_]) (cs':=[_,_,_,_,_]) ty4) (Z ?_)
   refine Ge0 (A3 (cs:=[_,_,_,_,_]) (vs:=[_]) (cs':=[_,_,_,_,_]) ty4)<|Z ?_
   refine Ge0 (Dl ty98) ?_
   exact As<|Bf<|B0 C ty98 C mm C I Ah ⟨by simp [nodeF,setF,levelF,timeF,densF, *]<;>omega,rfl⟩
  refine Ap C (λM=>?_)<|λM=>Z ?_
  ·refine Bt (Ay<|Ap C (λM=>Z ?_)<|λM=>Z ?_)
   ·refine Ge0 (A3 (cs:=[_,_,_,_,_]) (vs:=[_]) (cs':=[_,_,_,_,_]) ty4) (Z ?_)
    refine Ge0 (Dl ty98) ?_
    exact As<|Bf<|B0 C ty98 C mm C I Ah ⟨by simp [nodeF,setF,levelF,timeF,densF, *]<;>omega,rfl⟩
   refine Ap C (λaa=>Z ?_)<|λaa=>Z ?_
   ·refine Ge0 (A3 (cs:=[_,_,_,_,_]) (vs:=[_]) (cs':=[_,_,_,_,_]) ty4) (Z ?_)
    refine Ge0 (Dl ty98) ?_
    exact As<|Bf<|B0 C ty98 C mm C I Ah ⟨by simp [nodeF,setF,levelF,timeF,densF, *]<;>omega,rfl⟩
   refine Ap C (λab=>Z ?_)<|λab=>Z ?_
   ·refine Ge0 (A3 (cs:=[_,_,_,_,_]) (vs:=[_]) (cs':=[_,_,_,_,_]) ty4) ?_
    refine Gf fld98_2 C<|Ge0 (A3 (cs:=[_,_,_,_,_]) (vs:=[_]) (cs':=[_,_,_,_,_]) ty4)<|Z ?_
    refine Ge0 (Dl ty98) ?_
    exact As<|Bf<|B0 C ty98 C mm C I Ah ⟨by simp [nodeF,setF,levelF,timeF,densF, *]<;>omega,rfl⟩
   refine Ge0 (Dl ty98) ?_
   exact As<|Bf<|B0 C ty98 C mm C I Ah ⟨by simp [nodeF,setF,levelF,timeF,densF, *]<;>omega,rfl⟩
  refine Ap C (λM=>?_)<|λM=>Z ?_
  ·refine Bt (Ay<|Ap C (λM=>Z ?_)<|λM=>Z ?_)
   ·refine Ge0 (A3 (cs:=[_,_,_,_,_]) (vs:=[_]) (cs':=[_,_,_,_,_]) ty4) (Z ?_)
    refine Ge0 (Dl ty98) ?_
    exact As<|Bf<|B0 C ty98 C mm C I Ah ⟨by simp [nodeF,setF,levelF,timeF,densF, *]<;>omega,rfl⟩
   refine Ap C (λaa=>Z ?_)<|λaa=>Z ?_
   ·refine Ge0 (A3 (cs:=[_,_,_,_,_]) (vs:=[_]) (cs':=[_,_,_,_,_]) ty4) (Z ?_)
    refine Ge0 (Dl ty98) ?_
    exact As<|Bf<|B0 C ty98 C mm C I Ah ⟨by simp [nodeF,setF,levelF,timeF,densF, *]<;>omega,rfl⟩
   refine Ap C (λab=>Z ?_)<|λab=>Z ?_
   ·refine Ge0 (A3 (cs:=[_,_,_,_,_]) (vs:=[_]) (cs':=[_,_,_,_,_]) ty4) ?_
    refine Gf fld98_2 C<|Ge0 (A3 (cs:=[_,_,_,_,_]) (vs:=[_]) (cs':=[_,_,_,_,_]) ty4)<|Z ?_
    refine Ge0 (Dl ty98) ?_
    exact As<|Bf<|B0 C ty98 C mm C I Ah ⟨by simp [nodeF,setF,levelF,timeF,densF, *]<;>omega,rfl⟩
   refine Ge0 (Dl ty98) ?_
   exact As<|Bf<|B0 C ty98 C mm C I Ah ⟨by simp [nodeF,setF,levelF,timeF,densF, *]<;>omega,rfl⟩
  refine Ap C (λM=>Z ?_)<|λM=>Z ?_
  ·refine Ge0 (A3 (cs:=[_,_,_,_,_]) (vs:=[_]) (cs':=[_,_,_,_,_]) ty4) (Z ?_)
   refine Ge0 (Dl ty98) ?_
   exact As<|Bf<|B0 C ty98 C mm C I Ah ⟨by simp [nodeF,setF,levelF,timeF,densF, *]<;>omega,rfl⟩
  refine Ap C (λaa=>Z ?_)<|λaa=>Z ?_
  ·refine Ge0 (A3 (cs:=[_,_,_,_,_]) (vs:=[_]) (cs':=[_,_,_,_,_]) ty4) (Z ?_)
   refine Ge0 (Dl ty98) ?_
   exact As<|Bf<|B0 C ty98 C mm C I Ah ⟨by simp [nodeF,setF,levelF,timeF,densF, *]<;>omega,rfl⟩
  refine Ap C (λab=>Z ?_)<|λab=>Z ?_
  ·refine Ge0 (A3 (cs:=[_,_,_,_,_]) (vs:=[_]) (cs':=[_,_,_,_,_]) ty4) ?_
   refine Gf fld98_2 C<|Ge0 (A3 (cs:=[_,_,_,_,_]) (vs:=[_]) (cs':=[_,_,_,_,_]) ty4)<|Z ?_
   refine Ge0 (Dl ty98) ?_
   exact As<|Bf<|B0 C ty98 C mm C I Ah ⟨by simp [nodeF,setF,levelF,timeF,densF, *]<;>omega,rfl⟩
  refine Ge0 (Dl ty98) ?_
  exact As<|Bf<|B0 C ty98 C mm C I Ah ⟨by simp [nodeF,setF,levelF,timeF,densF, *]<;>omega,rfl⟩
 refine Ap C (λc11=>Z ?_)<|λc11=>Z ?_
 ·refine Ge0 (A3 (cs:=[_,_,_,_,_]) (vs:=[_]) (cs':=[_,_,_,_,_]) ty4) (Z ?_)
  refine Ge0 (A3 (cs:=[_,_,_,_,_]) (vs:=[_]) (cs':=[_,_,_,_,_]) ty4)<|Z ?_
  refine Ge0 (Dl ty98) ?_
  exact As<|Bf<|B0 C ty98 C mm C I Ah ⟨by simp [nodeF,setF,levelF,timeF,densF, *]<;>omega,rfl⟩
 refine Ap C (λM=>?_)<|λM=>Z ?_
 ·refine Bt (Ay<|Ap C (λM=>Z ?_)<|λM=>Z ?_)
  ·refine Ge0 (A3 (cs:=[_,_,_,_,_]) (vs:=[_]) (cs':=[_,_,_,_,_]) ty4) (Z ?_)
   refine Ge0 (Dl ty98) ?_
   exact As<|Bf<|B0 C ty98 C mm C I Ah ⟨by simp [nodeF,setF,levelF,timeF,densF, *]<;>omega,rfl⟩
  refine Ap C (λaa=>Z ?_)<|λaa=>Z ?_
  ·refine Ge0 (A3 (cs:=[_,_,_,_,_]) (vs:=[_]) (cs':=[_,_,_,_,_]) ty4) (Z ?_)
   refine Ge0 (Dl ty98) ?_
   exact As<|Bf<|B0 C ty98 C mm C I Ah ⟨by simp [nodeF,setF,levelF,timeF,densF, *]<;>omega,rfl⟩
  refine Ap C (λab=>Z ?_)<|λab=>Z ?_
  ·refine Ge0 (A3 (cs:=[_,_,_,_,_]) (vs:=[_]) (cs':=[_,_,_,_,_]) ty4) ?_
   refine Gf fld98_2 C<|Ge0 (A3 (cs:=[_,_,_,_,_]) (vs:=[_]) (cs':=[_,_,_,_,_]) ty4)<|Z ?_
   refine Ge0 (Dl ty98) ?_
   exact As<|Bf<|B0 C ty98 C mm C I Ah ⟨by simp [nodeF,setF,levelF,timeF,densF, *]<;>omega,rfl⟩
  refine Ge0 (Dl ty98) ?_
  exact As<|Bf<|B0 C ty98 C mm C I Ah ⟨by simp [nodeF,setF,levelF,timeF,densF, *]<;>omega,rfl⟩
 refine Ap C (λM=>?_)<|λM=>Z ?_
 ·refine Bt (Ay<|Ap C (λM=>Z ?_)<|λM=>Z ?_)
  ·refine Ge0 (A3 (cs:=[_,_,_,_,_]) (vs:=[_]) (cs':=[_,_,_,_,_]) ty4) (Z ?_)
   refine Ge0 (Dl ty98) ?_
   exact As<|Bf<|B0 C ty98 C mm C I Ah ⟨by simp [nodeF,setF,levelF,timeF,densF, *]<;>omega,rfl⟩
  refine Ap C (λaa=>Z ?_)<|λaa=>Z ?_
  ·refine Ge0 (A3 (cs:=[_,_,_,_,_]) (vs:=[_]) (cs':=[_,_,_,_,_]) ty4) (Z ?_)
   refine Ge0 (Dl ty98) ?_
   exact As<|Bf<|B0 C ty98 C mm C I Ah ⟨by simp [nodeF,setF,levelF,timeF,densF, *]<;>omega,rfl⟩
  refine Ap C (λab=>Z ?_)<|λab=>Z ?_
  ·refine Ge0 (A3 (cs:=[_,_,_,_,_]) (vs:=[_]) (cs':=[_,_,_,_,_]) ty4) ?_
   refine Gf fld98_2 C<|Ge0 (A3 (cs:=[_,_,_,_,_]) (vs:=[_]) (cs':=[_,_,_,_,_]) ty4)<|Z ?_
   refine Ge0 (Dl ty98) ?_
   exact As<|Bf<|B0 C ty98 C mm C I Ah ⟨by simp [nodeF,setF,levelF,timeF,densF, *]<;>omega,rfl⟩
  refine Ge0 (Dl ty98) ?_
  exact As<|Bf<|B0 C ty98 C mm C I Ah ⟨by simp [nodeF,setF,levelF,timeF,densF, *]<;>omega,rfl⟩
 refine Ap C (λM=>Z ?_)<|λM=>Z ?_
 ·refine Ge0 (A3 (cs:=[_,_,_,_,_]) (vs:=[_]) (cs':=[_,_,_,_,_]) ty4) (Z ?_)
  refine Ge0 (Dl ty98) ?_
  exact As<|Bf<|B0 C ty98 C mm C I Ah ⟨by simp [nodeF,setF,levelF,timeF,densF, *]<;>omega,rfl⟩
 refine Ap C (λaa=>Z ?_)<|λaa=>Z ?_
 ·refine Ge0 (A3 (cs:=[_,_,_,_,_]) (vs:=[_]) (cs':=[_,_,_,_,_]) ty4) (Z ?_)
  refine Ge0 (Dl ty98)<|Z ?_
  exact B0 C ty98 C mm C I Ah ⟨by simp [nodeF,setF,levelF,timeF,densF, *]<;>omega,rfl⟩
 refine Ap C (λab=>Z ?_)<|λab=>Z ?_
 ·refine Ge0 (A3 (cs:=[_,_,_,_,_]) (vs:=[_]) (cs':=[_,_,_,_,_]) ty4) ?_
  refine Gf fld98_2 C<|Ge0 (A3 (cs:=[_,_,_,_,_]) (vs:=[_]) (cs':=[_,_,_,_,_]) ty4)<|Z ?_
  refine Ge0 (Dl ty98) ?_
  exact As<|Bf<|B0 C ty98 C mm C I Ah ⟨by simp [nodeF,setF,levelF,timeF,densF, *]<;>omega,rfl⟩
 refine Ge0 (Dl ty98) ?_
 exact As<|Bf<|B0 C ty98 C mm C I Ah ⟨by simp [nodeF,setF,levelF,timeF,densF, *]<;>omega,rfl⟩
theorem QSetG_ok{κ:Ctx}{n:Int}{xs:List Int}(hs:Sl κ I (.slice sa xs.length sc) xs):eu Tryz.prog κ 55 [e7 K,.slice sa xs.length sc,e7 n] I (λr J=>r = .bool (decide (setOk K xs n))/\I=J):=by
 refine Ce3 Tryz.func55 C C<|Z ?_
 refine Gc0 (Ac c_ C C<|NValid_ok (Au hs) n) ?_
 refine Gm C<|A6 (d:=10) C (λab=>Z ?_)<|λab=>Z ?_
 ·refine A6 (d:=15) C (λM=>Z ?_) (λM=>Z ?_)
  ·refine A6 (d:=18) C (λaa=>Z ?_) (λaa=>Z ?_)
   ·exact Ai C C I Ah ⟨congrArg Value.bool<|by unfold setOk;first|exact (decide_eq_false<|by simp_all).symm|exact (decide_eq_true<|by simp_all;try omega).symm|exact decide_eq_decide.2 (by simp_all;try omega),rfl⟩
   exact Ai C C I Ah ⟨congrArg Value.bool<|by unfold setOk;first|exact (decide_eq_false<|by simp_all).symm|exact (decide_eq_true<|by simp_all;try omega).symm|exact decide_eq_decide.2 (by simp_all;try omega),rfl⟩
  exact Ai C C I Ah ⟨congrArg Value.bool<|by unfold setOk;first|exact (decide_eq_false<|by simp_all).symm|exact (decide_eq_true<|by simp_all;try omega).symm|exact decide_eq_decide.2 (by simp_all;try omega),rfl⟩
 exact Ai C C I Ah ⟨congrArg Value.bool<|by unfold setOk;first|exact (decide_eq_false<|by simp_all).symm|exact (decide_eq_true<|by simp_all;try omega).symm|exact decide_eq_decide.2 (by simp_all;try omega),rfl⟩
theorem QCheckG_ok{κ:Ctx}(hs:Sl κ I (.slice sa S.length sc) S)(hf:densF K=true->FrV ⟨num,den⟩):eu Tryz.prog κ 27 [.agg #[e7 K,e7 node,e7 lv,e7 tq,.slice sa S.length sc,e7 num,e7 den],e7 nd] I (λr J=>r=e7 (checkQ nd K node lv tq S num den)/\I=J):=by
 have bb:densF K=true->0<=num:=λh=>(hf h).n0
 refine Ce2 Tryz.func27 C C ?_
 refine Ar<|Ge1 (Al (cs:=[_,_,_,_,_,_,_]) C C C) λb1=>Ga C<|As<|Ar<|Gf fld36_0 C<|Gl ef ?_
 refine G.e (Ac c_ C C<|QOfG_ok (K:=K)) ?_
 rintro _ _ ⟨_,_,⟨rfl,rfl⟩,rfl,rfl⟩
 refine Ge1 (Am ty98 C) λb2=>Ge0 (Dl ty98) ?_
 refine As<|A5<|Bk<|Ar<|Gr (Bl (vs:=[_,_,_,_,_]) ty98) ?_
 refine Gr (Br (cells:=[_,_,_,_,_]) ty98 Tryz.underlying98 pl98 C C)<|Gr (Runs.eqShape (λc1 c2 c3 c4 c5 w=>by cases c1<;>cases c2<;>cases c3<;>cases c4<;>cases c5<;>kernel_rfl) (λc1 c2 c3 c4 c5 w=>by cases c1<;>cases c2<;>cases c3<;>cases c4<;>cases c5<;>kernel_rfl) C C)<|Ga C<|As<|D8 C (λc9=>?_)<|λc9=>?_
 ·refine Ar (Ga C<|As<|Bf<|B6<|Bq ?_)
  have c9:noneF K=true:=c9
  exact Ai C C I Ah ⟨congrArg (λn=>Value.int .i64 n)<|by unfold checkQ;rw [if_pos c9],rfl⟩
 refine E8 (σ:=Bool) (λs=>([(2,.pointer<|some ⟨b1,0,none⟩),(5,.pointer<|some ⟨b2,0,none⟩),(13,.bool s)]:Env)) (λs=>e8 b2 [.bool (nodeF K),.bool<|setF K,.bool<|levelF K,.bool<|timeF K,.bool<|densF K] 98::e8 b1 [e7 K,e7 node,e7 lv,e7 tq,.slice sa S.length sc,e7 num,e7 den] 36::I) (λs=>(s=decide (bad4 nd K node S))) ?_ ?_
 ·refine Be (Gf fld98_0 C<|Gl ty4 ?_)
  refine Gm C<|Ce (d:=16) C (λa3=>?_)<|λa3=>?_
  ·refine e9 (Ad fld36_1 C) (e9 (Ax ef) ?_)
   refine e9 (Ch C C)<|e9 (Af C)<|A6 (d:=20) C (λa4=>?_)<|λa4=>?_
   ·exact eb<|eb<|eb<|eb<|e9 (A2 C C)<|Gr (A2 C C)<|Gm C<|eb<|eb<|eb<|ee<|ee<|ee<|ee<|ee<|ee<|ee<|eb<|Gr (A2 C C)<|Ga C<|Bi<|Cg ((true))<|bT<|by unfold bad4;simp_all<;>omega
   refine e9 (Ad fld36_1 C)<|e9 (Ax ef) ?_
   refine e9 (Af C)<|e9 (Ff C C)<|e9 (Ao C C)<|Gr (A2 C C)<|Gm C<|A6 (d:=27) C (λa7=>?_)<|λa7=>?_
   ·exact eb<|eb<|eb<|ee<|ee<|ee<|ee<|ee<|ee<|ee<|eb<|Gr (A2 C C)<|Ga C<|Bi<|Cg ((true))<|bT<|by unfold bad4;simp_all<;>omega
   refine e9 (Ad fld98_1 C)<|e9 (Ax ty4) ?_
   refine e9 (Af C)<|Ce (d:=30) C (λar=>?_)<|λar=>?_
   ·refine e9 (Ad fld36_0 C) (e9 (Ax ef) ?_)
    refine e9 (Ad fld36_4 C)<|e9 (Ax ty22) ?_
    refine e9 (Af C)<|Dn (B7 C C C) (Ac c_ C C<|QSetG_ok (K:=K) (n:=nd) (xs:=S)<|Au hs) ?_
    rintro _ _ ⟨_,_,⟨rfl,rfl⟩,rfl,rfl⟩
    exact e9 (Runs.notd C)<|e9 (A2 C C)<|Gr (Ao C C)<|Ga C<|Bi<|Cg ((decide<|¬(setOk K S nd)))<|bD<|by unfold bad4;simp_all<;>omega
   exact eb<|eb<|eb<|eb<|eb<|eb<|eb<|e9 (Ao C C)<|Gr (Ao C C)<|Ga C<|Bi<|Cg ((false))<|bF<|by unfold bad4;simp_all<;>omega
  refine eb<|eb<|eb<|eb<|ee<|ee<|ee<|ee<|eb<|Gr (Ao C C)<|Gm C<|e9 (Ad fld98_1 C)<|e9 (Ax ty4) ?_
  refine e9 (Af C)<|Ce (d:=30) C (λar=>?_)<|λar=>?_
  ·refine e9 (Ad fld36_0 C) (e9 (Ax ef) ?_)
   refine e9 (Ad fld36_4 C)<|e9 (Ax ty22) ?_
   refine e9 (Af C)<|Dn (B7 C C C) (Ac c_ C C<|QSetG_ok (K:=K) (n:=nd) (xs:=S)<|Au hs) ?_
   rintro _ _ ⟨_,_,⟨rfl,rfl⟩,rfl,rfl⟩
   exact e9 (Runs.notd C)<|e9 (A2 C C)<|Gr (Ao C C)<|Ga C<|Bi<|Cg ((decide<|¬(setOk K S nd)))<|bD<|by unfold bad4;simp_all<;>omega
  exact eb<|eb<|eb<|eb<|eb<|eb<|eb<|e9 (Ao C C)<|Gr (Ao C C)<|Ga C<|Bi<|Cg ((false))<|bF<|by unfold bad4;simp_all<;>omega
 rintro ax hp
 have ah:(ax=decide (bad4 nd K node S)):=hp
 refine D8 C (λc13=>?_)<|λc13=>?_
 ·refine Ar (Ga C<|As<|Bf<|B6<|Bq ?_)
  have c9:noneF K=false:=c9
  exact Ai C C I Ah ⟨congrArg (λn=>Value.int .i64 n)<|by unfold checkQ;rw [if_neg (by simp [c9]),if_pos<|of_decide_eq_true<|ah.symm.trans c13],rfl⟩
 refine E8 (σ:=Bool) (λs=>([(2,.pointer<|some ⟨b1,0,none⟩),(5,.pointer<|some ⟨b2,0,none⟩),(40,.bool s)]:Env)) (λs=>e8 b2 [.bool (nodeF K),.bool<|setF K,.bool<|levelF K,.bool<|timeF K,.bool<|densF K] 98::e8 b1 [e7 K,e7 node,e7 lv,e7 tq,.slice sa S.length sc,e7 num,e7 den] 36::I) (λs=>(s=decide (bad6 K tq))) ?_ ?_
 ·refine Be (Gf fld98_3 C<|Gl ty4 ?_)
  refine Gm C<|Ce (d:=43) C (λa5=>?_)<|λa5=>?_
  ·refine e9 (Ad fld36_3 C) (e9 (Ax ef) ?_)
   refine e9 (Ch C C)<|e9 (Af C)<|A6 (d:=47) C (λa9=>?_)<|λa9=>?_
   ·exact eb<|eb<|eb<|e9 (A2 C C)<|Gr (A2 C C)<|Ga C<|Bi<|Cg ((true))<|bT<|by unfold bad6;simp_all<;>omega
   refine e9 (Ad fld36_3 C)<|e9 (Ax ef) ?_
   exact e9 (Df C C)<|e9 (Ao C C)<|Gr (A2 C C)<|Ga C<|Bi<|Cg ((decide<|1048576<tq))<|bD<|by unfold bad6;simp_all<;>omega
  exact eb<|eb<|eb<|eb<|ee<|ee<|ee<|eb<|Gr (Ao C C)<|Ga C<|Bi<|Cg ((false))<|bF<|by unfold bad6;simp_all<;>omega
 rintro ay hp
 have ai:(ay=decide (bad6 K tq)):=hp
 refine D8 C (λaj=>?_)<|λaj=>?_
 ·refine Ar (Ga C<|As<|Bf<|B6<|Bq ?_)
  have c9:noneF K=false:=c9
  exact Ai C C I Ah ⟨congrArg (λn=>Value.int .i64 n)<|by unfold checkQ;rw [if_neg (by simp [c9]),if_neg<|of_decide_eq_false<|ah.symm.trans c13,if_pos<|of_decide_eq_true<|ai.symm.trans aj],rfl⟩
 refine E8 (σ:=Bool) (λs=>([(2,.pointer<|some ⟨b1,0,none⟩),(5,.pointer<|some ⟨b2,0,none⟩),(53,.bool s)]:Env)) (λs=>e8 b2 [.bool (nodeF K),.bool<|setF K,.bool<|levelF K,.bool<|timeF K,.bool<|densF K] 98::e8 b1 [e7 K,e7 node,e7 lv,e7 tq,.slice sa S.length sc,e7 num,e7 den] 36::I) (λs=>(s=decide (bad8 K lv))) ?_ ?_
 ·refine Be (Gf fld98_2 C<|Gl ty4 ?_)
  refine Gm C<|Ce (d:=56) C (λa1=>?_)<|λa1=>?_
  ·refine e9 (Ad fld36_2 C) (e9 (Ax ef) ?_)
   refine e9 (Ch C C)<|e9 (Af C)<|A6 (d:=60) C (λba=>?_)<|λba=>?_
   ·exact eb<|eb<|eb<|e9 (A2 C C)<|Gr (A2 C C)<|Gm C<|eb<|eb<|eb<|ee<|ee<|ee<|ee<|ee<|ee<|ee<|ee<|ee<|ee<|eb<|Gr (A2 C C)<|Ga C<|Bi<|Cg ((true))<|bT<|by unfold bad8;simp_all<;>omega
   refine e9 (Ad fld36_2 C)<|e9 (Ax ef) ?_
   refine e9 (Df C C)<|e9 (Ao C C)<|Gr (A2 C C)<|Gm C<|A6 (d:=66) C (λa8=>?_)<|λa8=>?_
   ·exact eb<|eb<|eb<|ee<|ee<|ee<|ee<|ee<|ee<|ee<|ee<|ee<|ee<|eb<|Gr (A2 C C)<|Ga C<|Bi<|Cg ((true))<|bT<|by unfold bad8;simp_all<;>omega
   refine e9 (Ad fld98_4 C)<|e9 (Ax ty4) ?_
   refine e9 (Af C)<|Ce (d:=69) C (λav=>?_)<|λav=>?_
   ·refine e9 (Ad fld36_5 C) (e9 (Bl (vs:=[_,_]) ty34) ?_)
    refine Dn (B7 C C C) (Ac c_ C C<|RatValid_ok (⟨num,den⟩:Fr)<|hf asm) ?_
    rintro _ _ ⟨_,_,⟨rfl,rfl⟩,rfl,rfl⟩
    refine e9 (Cd C)<|e9 (Af C)<|e9 (Ad fld36_5 C)<|e9 (Ad fld34_0 C)<|e9 (Ax ef) ?_
    exact e9 (Ch C C)<|e9 (Ao C C)<|e9 (A2 C C)<|Gr (Ao C C)<|Ga C<|Bi<|Cg ((decide<|num<0))<|bD<|by unfold bad8;simp_all<;>omega
   exact eb<|eb<|eb<|eb<|eb<|ee<|ee<|ee<|ee<|eb<|e9 (Ao C C)<|Gr (Ao C C)<|Ga C<|Bi<|Cg ((false))<|bF<|by unfold bad8;simp_all<;>omega
  refine eb<|eb<|eb<|eb<|ee<|ee<|ee<|eb<|Gr (Ao C C)<|Gm C<|e9 (Ad fld98_4 C)<|e9 (Ax ty4) ?_
  refine e9 (Af C)<|Ce (d:=69) C (λav=>?_)<|λav=>?_
  ·refine e9 (Ad fld36_5 C) (e9 (Bl (vs:=[_,_]) ty34) ?_)
   refine Dn (B7 C C C) (Ac c_ C C<|RatValid_ok (⟨num,den⟩:Fr)<|hf asm) ?_
   rintro _ _ ⟨_,_,⟨rfl,rfl⟩,rfl,rfl⟩
   refine e9 (Cd C)<|e9 (Af C)<|e9 (Ad fld36_5 C)<|e9 (Ad fld34_0 C)<|e9 (Ax ef) ?_
   exact e9 (Ch C C)<|e9 (Ao C C)<|e9 (A2 C C)<|Gr (Ao C C)<|Ga C<|Bi<|Cg ((decide<|num<0))<|bD<|by unfold bad8;simp_all<;>omega
  exact eb<|eb<|eb<|eb<|eb<|ee<|ee<|ee<|ee<|eb<|e9 (Ao C C)<|Gr (Ao C C)<|Ga C<|Bi<|Cg ((false))<|bF<|by unfold bad8;simp_all<;>omega
 rintro az hp
 have ak:(az=decide (bad8 K lv)):=hp
 refine D8 C (λao=>?_)<|λao=>?_
 ·refine Ar (Ga C<|As<|Bf<|B6<|Bq ?_)
  have c9:noneF K=false:=c9
  exact Ai C C I Ah ⟨congrArg (λn=>Value.int .i64 n)<|by unfold checkQ;rw [if_neg (by simp [c9]),if_neg<|of_decide_eq_false<|ah.symm.trans c13,if_neg<|of_decide_eq_false<|ai.symm.trans aj,if_pos<|of_decide_eq_true<|ak.symm.trans ao],rfl⟩
 refine E8 (σ:=Bool) (λs=>([(82,.bool s)]:Env)) (λs=>e8 b2 [.bool (nodeF K),.bool<|setF K,.bool<|levelF K,.bool<|timeF K,.bool<|densF K] 98::e8 b1 [e7 K,e7 node,e7 lv,e7 tq,.slice sa S.length sc,e7 num,e7 den] 36::I) (λs=>(s=decide (bad10 K node lv tq S num den))) ?_ ?_
 ·refine Be (Gf fld98_0 C<|Gl ty4 ?_)
  refine Gr (Cd C)<|Gm C<|Ce (d:=86) C (λa6=>?_)<|λa6=>?_
  ·refine e9 (Ad fld36_1 C) (e9 (Ax ef) ?_)
   refine e9 (C9 C C)<|Gr (A2 C C)<|Gm C<|A6 (d:=91) C (λa0=>?_)<|λa0=>?_
   ·exact eb<|eb<|eb<|eb<|ee<|ee<|ee<|ee<|eb<|Gr (A2 C C)<|Gm C<|eb<|eb<|eb<|eb<|ee<|ee<|ee<|eb<|Gr (A2 C C)<|Gm C<|eb<|eb<|eb<|eb<|ee<|ee<|ee<|eb<|Gr (A2 C C)<|Gm C<|eb<|eb<|eb<|eb<|ee<|ee<|ee<|ee<|eb<|Gr (A2 C C)<|Ga C<|Bi<|Cg ((true))<|bT<|by unfold bad10;simp_all<;>omega
   refine e9 (Ad fld98_1 C)<|e9 (Ax ty4) ?_
   refine e9 (Cd C)<|e9 (Af C)<|Ce (d:=95) C (λau=>?_)<|λau=>?_
   ·refine e9 (Ad fld36_4 C) (e9 (Ax ty22) ?_)
    refine e9 (Ca Aa C)<|e9 (Df C C)<|e9 (A2 C C)<|Gr (Ao C C)<|Gm C<|A6 (d:=102) C (λan=>?_)<|λan=>?_
    ·exact eb<|eb<|eb<|eb<|ee<|ee<|ee<|eb<|Gr (A2 C C)<|Gm C<|eb<|eb<|eb<|eb<|ee<|ee<|ee<|eb<|Gr (A2 C C)<|Gm C<|eb<|eb<|eb<|eb<|ee<|ee<|ee<|ee<|eb<|Gr (A2 C C)<|Ga C<|Bi<|Cg ((true))<|bT<|by unfold bad10;simp_all<;>omega
    refine e9 (Ad fld98_3 C)<|e9 (Ax ty4) ?_
    refine e9 (Cd C)<|e9 (Af C)<|Ce (d:=106) C (λad=>?_)<|λad=>?_
    ·refine e9 (Ad fld36_3 C) (e9 (Ax ef) ?_)
     refine e9 (C9 C C)<|e9 (A2 C C)<|Gr (Ao C C)<|Gm C<|A6 (d:=112) C (λae=>?_)<|λae=>?_
     ·exact eb<|eb<|eb<|eb<|ee<|ee<|ee<|eb<|Gr (A2 C C)<|Gm C<|eb<|eb<|eb<|eb<|ee<|ee<|ee<|ee<|eb<|Gr (A2 C C)<|Ga C<|Bi<|Cg ((true))<|bT<|by unfold bad10;simp_all<;>omega
     refine e9 (Ad fld98_2 C)<|e9 (Ax ty4) ?_
     refine e9 (Cd C)<|e9 (Af C)<|Ce (d:=116) C (λaa=>?_)<|λaa=>?_
     ·refine e9 (Ad fld36_2 C) (e9 (Ax ef) ?_)
      refine e9 (C9 C C)<|e9 (A2 C C)<|Gr (Ao C C)<|Gm C<|A6 (d:=122) C (λab=>?_)<|λab=>?_
      ·exact eb<|eb<|eb<|eb<|ee<|ee<|ee<|ee<|eb<|Gr (A2 C C)<|Ga C<|Bi<|Cg ((true))<|bT<|by unfold bad10;simp_all<;>omega
      refine e9 (Ad fld98_4 C)<|e9 (Ax ty4) ?_
      refine e9 (Cd C)<|e9 (Af C)<|Ce (d:=126) C (λM=>?_)<|λM=>?_
      ·refine e9 (Ad fld36_5 C) (e9 (Bl (vs:=[_,_]) ty34) ?_)
       exact e9 (Br (cells:=[_,_]) ty34 Cc pl34 C C)<|e9 (Dc (α:=Fr) (a:=(⟨num,den⟩:Fr)) (b:=(⟨0,0⟩:Fr)) eqt34 C C)<|e9 (A2 C C)<|Gr (Ao C C)<|Ga C<|Bi<|Cg ((decide<|(⟨num,den⟩:Fr)≠(⟨0,0⟩:Fr)))<|bD<|by unfold bad10;simp_all<;>omega
      exact eb<|eb<|eb<|eb<|e9 (Ao C C)<|Gr (Ao C C)<|Ga C<|Bi<|Cg ((false))<|bF<|by unfold bad10;simp_all<;>omega
     refine eb<|eb<|eb<|e9 (Ao C C)<|Gr (Ao C C)<|Gm C<|e9 (Ad fld98_4 C)<|e9 (Ax ty4) ?_
     refine e9 (Cd C)<|e9 (Af C)<|Ce (d:=126) C (λM=>?_)<|λM=>?_
     ·refine e9 (Ad fld36_5 C) (e9 (Bl (vs:=[_,_]) ty34) ?_)
      exact e9 (Br (cells:=[_,_]) ty34 Cc pl34 C C)<|e9 (Dc (α:=Fr) (a:=(⟨num,den⟩:Fr)) (b:=(⟨0,0⟩:Fr)) eqt34 C C)<|e9 (A2 C C)<|Gr (Ao C C)<|Ga C<|Bi<|Cg ((decide<|(⟨num,den⟩:Fr)≠(⟨0,0⟩:Fr)))<|bD<|by unfold bad10;simp_all<;>omega
     exact eb<|eb<|eb<|eb<|e9 (Ao C C)<|Gr (Ao C C)<|Ga C<|Bi<|Cg ((false))<|bF<|by unfold bad10;simp_all<;>omega
    refine eb<|eb<|eb<|e9 (Ao C C)<|Gr (Ao C C)<|Gm C<|e9 (Ad fld98_2 C)<|e9 (Ax ty4) ?_
    refine e9 (Cd C)<|e9 (Af C)<|Ce (d:=116) C (λaa=>?_)<|λaa=>?_
    ·refine e9 (Ad fld36_2 C) (e9 (Ax ef) ?_)
     refine e9 (C9 C C)<|e9 (A2 C C)<|Gr (Ao C C)<|Gm C<|A6 (d:=122) C (λab=>?_)<|λab=>?_
     ·exact eb<|eb<|eb<|eb<|ee<|ee<|ee<|ee<|eb<|Gr (A2 C C)<|Ga C<|Bi<|Cg ((true))<|bT<|by unfold bad10;simp_all<;>omega
     refine e9 (Ad fld98_4 C)<|e9 (Ax ty4) ?_
     refine e9 (Cd C)<|e9 (Af C)<|Ce (d:=126) C (λM=>?_)<|λM=>?_
     ·refine e9 (Ad fld36_5 C) (e9 (Bl (vs:=[_,_]) ty34) ?_)
      exact e9 (Br (cells:=[_,_]) ty34 Cc pl34 C C)<|e9 (Dc (α:=Fr) (a:=(⟨num,den⟩:Fr)) (b:=(⟨0,0⟩:Fr)) eqt34 C C)<|e9 (A2 C C)<|Gr (Ao C C)<|Ga C<|Bi<|Cg ((decide<|(⟨num,den⟩:Fr)≠(⟨0,0⟩:Fr)))<|bD<|by unfold bad10;simp_all<;>omega
     exact eb<|eb<|eb<|eb<|e9 (Ao C C)<|Gr (Ao C C)<|Ga C<|Bi<|Cg ((false))<|bF<|by unfold bad10;simp_all<;>omega
    refine eb<|eb<|eb<|e9 (Ao C C)<|Gr (Ao C C)<|Gm C<|e9 (Ad fld98_4 C)<|e9 (Ax ty4) ?_
    refine e9 (Cd C)<|e9 (Af C)<|Ce (d:=126) C (λM=>?_)<|λM=>?_
    ·refine e9 (Ad fld36_5 C) (e9 (Bl (vs:=[_,_]) ty34) ?_)
     exact e9 (Br (cells:=[_,_]) ty34 Cc pl34 C C)<|e9 (Dc (α:=Fr) (a:=(⟨num,den⟩:Fr)) (b:=(⟨0,0⟩:Fr)) eqt34 C C)<|e9 (A2 C C)<|Gr (Ao C C)<|Ga C<|Bi<|Cg ((decide<|(⟨num,den⟩:Fr)≠(⟨0,0⟩:Fr)))<|bD<|by unfold bad10;simp_all<;>omega
    exact eb<|eb<|eb<|eb<|e9 (Ao C C)<|Gr (Ao C C)<|Ga C<|Bi<|Cg ((false))<|bF<|by unfold bad10;simp_all<;>omega
   refine eb<|eb<|eb<|eb<|e9 (Ao C C)<|Gr (Ao C C)<|Gm C<|e9 (Ad fld98_3 C)<|e9 (Ax ty4) ?_
   refine e9 (Cd C)<|e9 (Af C)<|Ce (d:=106) C (λad=>?_)<|λad=>?_
   ·refine e9 (Ad fld36_3 C) (e9 (Ax ef) ?_)
    refine e9 (C9 C C)<|e9 (A2 C C)<|Gr (Ao C C)<|Gm C<|A6 (d:=112) C (λae=>?_)<|λae=>?_
    ·exact eb<|eb<|eb<|eb<|ee<|ee<|ee<|eb<|Gr (A2 C C)<|Gm C<|eb<|eb<|eb<|eb<|ee<|ee<|ee<|ee<|eb<|Gr (A2 C C)<|Ga C<|Bi<|Cg ((true))<|bT<|by unfold bad10;simp_all<;>omega
    refine e9 (Ad fld98_2 C)<|e9 (Ax ty4) ?_
    refine e9 (Cd C)<|e9 (Af C)<|Ce (d:=116) C (λaa=>?_)<|λaa=>?_
    ·refine e9 (Ad fld36_2 C) (e9 (Ax ef) ?_)
     refine e9 (C9 C C)<|e9 (A2 C C)<|Gr (Ao C C)<|Gm C<|A6 (d:=122) C (λab=>?_)<|λab=>?_
     ·exact eb<|eb<|eb<|eb<|ee<|ee<|ee<|ee<|eb<|Gr (A2 C C)<|Ga C<|Bi<|Cg ((true))<|bT<|by unfold bad10;simp_all<;>omega
     refine e9 (Ad fld98_4 C)<|e9 (Ax ty4) ?_
     refine e9 (Cd C)<|e9 (Af C)<|Ce (d:=126) C (λM=>?_)<|λM=>?_
     ·refine e9 (Ad fld36_5 C) (e9 (Bl (vs:=[_,_]) ty34) ?_)
      exact e9 (Br (cells:=[_,_]) ty34 Cc pl34 C C)<|e9 (Dc (α:=Fr) (a:=(⟨num,den⟩:Fr)) (b:=(⟨0,0⟩:Fr)) eqt34 C C)<|e9 (A2 C C)<|Gr (Ao C C)<|Ga C<|Bi<|Cg ((decide<|(⟨num,den⟩:Fr)≠(⟨0,0⟩:Fr)))<|bD<|by unfold bad10;simp_all<;>omega
     exact eb<|eb<|eb<|eb<|e9 (Ao C C)<|Gr (Ao C C)<|Ga C<|Bi<|Cg ((false))<|bF<|by unfold bad10;simp_all<;>omega
    refine eb<|eb<|eb<|e9 (Ao C C)<|Gr (Ao C C)<|Gm C<|e9 (Ad fld98_4 C)<|e9 (Ax ty4) ?_
    refine e9 (Cd C)<|e9 (Af C)<|Ce (d:=126) C (λM=>?_)<|λM=>?_
    ·refine e9 (Ad fld36_5 C) (e9 (Bl (vs:=[_,_]) ty34) ?_)
     exact e9 (Br (cells:=[_,_]) ty34 Cc pl34 C C)<|e9 (Dc (α:=Fr) (a:=(⟨num,den⟩:Fr)) (b:=(⟨0,0⟩:Fr)) eqt34 C C)<|e9 (A2 C C)<|Gr (Ao C C)<|Ga C<|Bi<|Cg ((decide<|(⟨num,den⟩:Fr)≠(⟨0,0⟩:Fr)))<|bD<|by unfold bad10;simp_all<;>omega
    exact eb<|eb<|eb<|eb<|e9 (Ao C C)<|Gr (Ao C C)<|Ga C<|Bi<|Cg ((false))<|bF<|by unfold bad10;simp_all<;>omega
   refine eb<|eb<|eb<|e9 (Ao C C)<|Gr (Ao C C)<|Gm C<|e9 (Ad fld98_2 C)<|e9 (Ax ty4) ?_
   refine e9 (Cd C)<|e9 (Af C)<|Ce (d:=116) C (λaa=>?_)<|λaa=>?_
   ·refine e9 (Ad fld36_2 C) (e9 (Ax ef) ?_)
    refine e9 (C9 C C)<|e9 (A2 C C)<|Gr (Ao C C)<|Gm C<|A6 (d:=122) C (λab=>?_)<|λab=>?_
    ·exact eb<|eb<|eb<|eb<|ee<|ee<|ee<|ee<|eb<|Gr (A2 C C)<|Ga C<|Bi<|Cg ((true))<|bT<|by unfold bad10;simp_all<;>omega
    refine e9 (Ad fld98_4 C)<|e9 (Ax ty4) ?_
    refine e9 (Cd C)<|e9 (Af C)<|Ce (d:=126) C (λM=>?_)<|λM=>?_
    ·refine e9 (Ad fld36_5 C) (e9 (Bl (vs:=[_,_]) ty34) ?_)
     exact e9 (Br (cells:=[_,_]) ty34 Cc pl34 C C)<|e9 (Dc (α:=Fr) (a:=(⟨num,den⟩:Fr)) (b:=(⟨0,0⟩:Fr)) eqt34 C C)<|e9 (A2 C C)<|Gr (Ao C C)<|Ga C<|Bi<|Cg ((decide<|(⟨num,den⟩:Fr)≠(⟨0,0⟩:Fr)))<|bD<|by unfold bad10;simp_all<;>omega
    exact eb<|eb<|eb<|eb<|e9 (Ao C C)<|Gr (Ao C C)<|Ga C<|Bi<|Cg ((false))<|bF<|by unfold bad10;simp_all<;>omega
   refine eb<|eb<|eb<|e9 (Ao C C)<|Gr (Ao C C)<|Gm C<|e9 (Ad fld98_4 C)<|e9 (Ax ty4) ?_
   refine e9 (Cd C)<|e9 (Af C)<|Ce (d:=126) C (λM=>?_)<|λM=>?_
   ·refine e9 (Ad fld36_5 C) (e9 (Bl (vs:=[_,_]) ty34) ?_)
    exact e9 (Br (cells:=[_,_]) ty34 Cc pl34 C C)<|e9 (Dc (α:=Fr) (a:=(⟨num,den⟩:Fr)) (b:=(⟨0,0⟩:Fr)) eqt34 C C)<|e9 (A2 C C)<|Gr (Ao C C)<|Ga C<|Bi<|Cg ((decide<|(⟨num,den⟩:Fr)≠(⟨0,0⟩:Fr)))<|bD<|by unfold bad10;simp_all<;>omega
   exact eb<|eb<|eb<|eb<|e9 (Ao C C)<|Gr (Ao C C)<|Ga C<|Bi<|Cg ((false))<|bF<|by unfold bad10;simp_all<;>omega
  refine eb<|eb<|eb<|Gr (Ao C C)<|Gm C<|e9 (Ad fld98_1 C)<|e9 (Ax ty4) ?_
  refine e9 (Cd C)<|e9 (Af C)<|Ce (d:=95) C (λau=>?_)<|λau=>?_
  ·refine e9 (Ad fld36_4 C) (e9 (Ax ty22) ?_)
   refine e9 (Ca Aa C)<|e9 (Df C C)<|e9 (A2 C C)<|Gr (Ao C C)<|Gm C<|A6 (d:=102) C (λan=>?_)<|λan=>?_
   ·exact eb<|eb<|eb<|eb<|ee<|ee<|ee<|eb<|Gr (A2 C C)<|Gm C<|eb<|eb<|eb<|eb<|ee<|ee<|ee<|eb<|Gr (A2 C C)<|Gm C<|eb<|eb<|eb<|eb<|ee<|ee<|ee<|ee<|eb<|Gr (A2 C C)<|Ga C<|Bi<|Cg ((true))<|bT<|by unfold bad10;simp_all<;>omega
   refine e9 (Ad fld98_3 C)<|e9 (Ax ty4) ?_
   refine e9 (Cd C)<|e9 (Af C)<|Ce (d:=106) C (λad=>?_)<|λad=>?_
   ·refine e9 (Ad fld36_3 C) (e9 (Ax ef) ?_)
    refine e9 (C9 C C)<|e9 (A2 C C)<|Gr (Ao C C)<|Gm C<|A6 (d:=112) C (λae=>?_)<|λae=>?_
    ·exact eb<|eb<|eb<|eb<|ee<|ee<|ee<|eb<|Gr (A2 C C)<|Gm C<|eb<|eb<|eb<|eb<|ee<|ee<|ee<|ee<|eb<|Gr (A2 C C)<|Ga C<|Bi<|Cg ((true))<|bT<|by unfold bad10;simp_all<;>omega
    refine e9 (Ad fld98_2 C)<|e9 (Ax ty4) ?_
    refine e9 (Cd C)<|e9 (Af C)<|Ce (d:=116) C (λaa=>?_)<|λaa=>?_
    ·refine e9 (Ad fld36_2 C) (e9 (Ax ef) ?_)
     refine e9 (C9 C C)<|e9 (A2 C C)<|Gr (Ao C C)<|Gm C<|A6 (d:=122) C (λab=>?_)<|λab=>?_
     ·exact eb<|eb<|eb<|eb<|ee<|ee<|ee<|ee<|eb<|Gr (A2 C C)<|Ga C<|Bi<|Cg ((true))<|bT<|by unfold bad10;simp_all<;>omega
     refine e9 (Ad fld98_4 C)<|e9 (Ax ty4) ?_
     refine e9 (Cd C)<|e9 (Af C)<|Ce (d:=126) C (λM=>?_)<|λM=>?_
     ·refine e9 (Ad fld36_5 C) (e9 (Bl (vs:=[_,_]) ty34) ?_)
      exact e9 (Br (cells:=[_,_]) ty34 Cc pl34 C C)<|e9 (Dc (α:=Fr) (a:=(⟨num,den⟩:Fr)) (b:=(⟨0,0⟩:Fr)) eqt34 C C)<|e9 (A2 C C)<|Gr (Ao C C)<|Ga C<|Bi<|Cg ((decide<|(⟨num,den⟩:Fr)≠(⟨0,0⟩:Fr)))<|bD<|by unfold bad10;simp_all<;>omega
     exact eb<|eb<|eb<|eb<|e9 (Ao C C)<|Gr (Ao C C)<|Ga C<|Bi<|Cg ((false))<|bF<|by unfold bad10;simp_all<;>omega
    refine eb<|eb<|eb<|e9 (Ao C C)<|Gr (Ao C C)<|Gm C<|e9 (Ad fld98_4 C)<|e9 (Ax ty4) ?_
    refine e9 (Cd C)<|e9 (Af C)<|Ce (d:=126) C (λM=>?_)<|λM=>?_
    ·refine e9 (Ad fld36_5 C) (e9 (Bl (vs:=[_,_]) ty34) ?_)
     exact e9 (Br (cells:=[_,_]) ty34 Cc pl34 C C)<|e9 (Dc (α:=Fr) (a:=(⟨num,den⟩:Fr)) (b:=(⟨0,0⟩:Fr)) eqt34 C C)<|e9 (A2 C C)<|Gr (Ao C C)<|Ga C<|Bi<|Cg ((decide<|(⟨num,den⟩:Fr)≠(⟨0,0⟩:Fr)))<|bD<|by unfold bad10;simp_all<;>omega
    exact eb<|eb<|eb<|eb<|e9 (Ao C C)<|Gr (Ao C C)<|Ga C<|Bi<|Cg ((false))<|bF<|by unfold bad10;simp_all<;>omega
   refine eb<|eb<|eb<|e9 (Ao C C)<|Gr (Ao C C)<|Gm C<|e9 (Ad fld98_2 C)<|e9 (Ax ty4) ?_
   refine e9 (Cd C)<|e9 (Af C)<|Ce (d:=116) C (λaa=>?_)<|λaa=>?_
   ·refine e9 (Ad fld36_2 C) (e9 (Ax ef) ?_)
    refine e9 (C9 C C)<|e9 (A2 C C)<|Gr (Ao C C)<|Gm C<|A6 (d:=122) C (λab=>?_)<|λab=>?_
    ·exact eb<|eb<|eb<|eb<|ee<|ee<|ee<|ee<|eb<|Gr (A2 C C)<|Ga C<|Bi<|Cg ((true))<|bT<|by unfold bad10;simp_all<;>omega
    refine e9 (Ad fld98_4 C)<|e9 (Ax ty4) ?_
    refine e9 (Cd C)<|e9 (Af C)<|Ce (d:=126) C (λM=>?_)<|λM=>?_
    ·refine e9 (Ad fld36_5 C) (e9 (Bl (vs:=[_,_]) ty34) ?_)
     exact e9 (Br (cells:=[_,_]) ty34 Cc pl34 C C)<|e9 (Dc (α:=Fr) (a:=(⟨num,den⟩:Fr)) (b:=(⟨0,0⟩:Fr)) eqt34 C C)<|e9 (A2 C C)<|Gr (Ao C C)<|Ga C<|Bi<|Cg ((decide<|(⟨num,den⟩:Fr)≠(⟨0,0⟩:Fr)))<|bD<|by unfold bad10;simp_all<;>omega
    exact eb<|eb<|eb<|eb<|e9 (Ao C C)<|Gr (Ao C C)<|Ga C<|Bi<|Cg ((false))<|bF<|by unfold bad10;simp_all<;>omega
   refine eb<|eb<|eb<|e9 (Ao C C)<|Gr (Ao C C)<|Gm C<|e9 (Ad fld98_4 C)<|e9 (Ax ty4) ?_
   refine e9 (Cd C)<|e9 (Af C)<|Ce (d:=126) C (λM=>?_)<|λM=>?_
   ·refine e9 (Ad fld36_5 C) (e9 (Bl (vs:=[_,_]) ty34) ?_)
    exact e9 (Br (cells:=[_,_]) ty34 Cc pl34 C C)<|e9 (Dc (α:=Fr) (a:=(⟨num,den⟩:Fr)) (b:=(⟨0,0⟩:Fr)) eqt34 C C)<|e9 (A2 C C)<|Gr (Ao C C)<|Ga C<|Bi<|Cg ((decide<|(⟨num,den⟩:Fr)≠(⟨0,0⟩:Fr)))<|bD<|by unfold bad10;simp_all<;>omega
   exact eb<|eb<|eb<|eb<|e9 (Ao C C)<|Gr (Ao C C)<|Ga C<|Bi<|Cg ((false))<|bF<|by unfold bad10;simp_all<;>omega
  refine eb<|eb<|eb<|eb<|e9 (Ao C C)<|Gr (Ao C C)<|Gm C<|e9 (Ad fld98_3 C)<|e9 (Ax ty4) ?_
  refine e9 (Cd C)<|e9 (Af C)<|Ce (d:=106) C (λad=>?_)<|λad=>?_
  ·refine e9 (Ad fld36_3 C) (e9 (Ax ef) ?_)
   refine e9 (C9 C C)<|e9 (A2 C C)<|Gr (Ao C C)<|Gm C<|A6 (d:=112) C (λae=>?_)<|λae=>?_
   ·exact eb<|eb<|eb<|eb<|ee<|ee<|ee<|eb<|Gr (A2 C C)<|Gm C<|eb<|eb<|eb<|eb<|ee<|ee<|ee<|ee<|eb<|Gr (A2 C C)<|Ga C<|Bi<|Cg ((true))<|bT<|by unfold bad10;simp_all<;>omega
   refine e9 (Ad fld98_2 C)<|e9 (Ax ty4) ?_
   refine e9 (Cd C)<|e9 (Af C)<|Ce (d:=116) C (λaa=>?_)<|λaa=>?_
   ·refine e9 (Ad fld36_2 C) (e9 (Ax ef) ?_)
    refine e9 (C9 C C)<|e9 (A2 C C)<|Gr (Ao C C)<|Gm C<|A6 (d:=122) C (λab=>?_)<|λab=>?_
    ·exact eb<|eb<|eb<|eb<|ee<|ee<|ee<|ee<|eb<|Gr (A2 C C)<|Ga C<|Bi<|Cg ((true))<|bT<|by unfold bad10;simp_all<;>omega
    refine e9 (Ad fld98_4 C)<|e9 (Ax ty4) ?_
    refine e9 (Cd C)<|e9 (Af C)<|Ce (d:=126) C (λM=>?_)<|λM=>?_
    ·refine e9 (Ad fld36_5 C) (e9 (Bl (vs:=[_,_]) ty34) ?_)
     exact e9 (Br (cells:=[_,_]) ty34 Cc pl34 C C)<|e9 (Dc (α:=Fr) (a:=(⟨num,den⟩:Fr)) (b:=(⟨0,0⟩:Fr)) eqt34 C C)<|e9 (A2 C C)<|Gr (Ao C C)<|Ga C<|Bi<|Cg ((decide<|(⟨num,den⟩:Fr)≠(⟨0,0⟩:Fr)))<|bD<|by unfold bad10;simp_all<;>omega
    exact eb<|eb<|eb<|eb<|e9 (Ao C C)<|Gr (Ao C C)<|Ga C<|Bi<|Cg ((false))<|bF<|by unfold bad10;simp_all<;>omega
   refine eb<|eb<|eb<|e9 (Ao C C)<|Gr (Ao C C)<|Gm C<|e9 (Ad fld98_4 C)<|e9 (Ax ty4) ?_
   refine e9 (Cd C)<|e9 (Af C)<|Ce (d:=126) C (λM=>?_)<|λM=>?_
   ·refine e9 (Ad fld36_5 C) (e9 (Bl (vs:=[_,_]) ty34) ?_)
    exact e9 (Br (cells:=[_,_]) ty34 Cc pl34 C C)<|e9 (Dc (α:=Fr) (a:=(⟨num,den⟩:Fr)) (b:=(⟨0,0⟩:Fr)) eqt34 C C)<|e9 (A2 C C)<|Gr (Ao C C)<|Ga C<|Bi<|Cg ((decide<|(⟨num,den⟩:Fr)≠(⟨0,0⟩:Fr)))<|bD<|by unfold bad10;simp_all<;>omega
   exact eb<|eb<|eb<|eb<|e9 (Ao C C)<|Gr (Ao C C)<|Ga C<|Bi<|Cg ((false))<|bF<|by unfold bad10;simp_all<;>omega
  refine eb<|eb<|eb<|e9 (Ao C C)<|Gr (Ao C C)<|Gm C<|e9 (Ad fld98_2 C)<|e9 (Ax ty4) ?_
  refine e9 (Cd C)<|e9 (Af C)<|Ce (d:=116) C (λaa=>?_)<|λaa=>?_
  ·refine e9 (Ad fld36_2 C) (e9 (Ax ef) ?_)
   refine e9 (C9 C C)<|e9 (A2 C C)<|Gr (Ao C C)<|Gm C<|A6 (d:=122) C (λab=>?_)<|λab=>?_
   ·exact eb<|eb<|eb<|eb<|ee<|ee<|ee<|ee<|eb<|Gr (A2 C C)<|Ga C<|Bi<|Cg ((true))<|bT<|by unfold bad10;simp_all<;>omega
   refine e9 (Ad fld98_4 C)<|e9 (Ax ty4) ?_
   refine e9 (Cd C)<|e9 (Af C)<|Ce (d:=126) C (λM=>?_)<|λM=>?_
   ·refine e9 (Ad fld36_5 C) (e9 (Bl (vs:=[_,_]) ty34) ?_)
    exact e9 (Br (cells:=[_,_]) ty34 Cc pl34 C C)<|e9 (Dc (α:=Fr) (a:=(⟨num,den⟩:Fr)) (b:=(⟨0,0⟩:Fr)) eqt34 C C)<|e9 (A2 C C)<|Gr (Ao C C)<|Ga C<|Bi<|Cg ((decide<|(⟨num,den⟩:Fr)≠(⟨0,0⟩:Fr)))<|bD<|by unfold bad10;simp_all<;>omega
   exact eb<|eb<|eb<|eb<|e9 (Ao C C)<|Gr (Ao C C)<|Ga C<|Bi<|Cg ((false))<|bF<|by unfold bad10;simp_all<;>omega
  refine eb<|eb<|eb<|e9 (Ao C C)<|Gr (Ao C C)<|Gm C<|e9 (Ad fld98_4 C)<|e9 (Ax ty4) ?_
  refine e9 (Cd C)<|e9 (Af C)<|Ce (d:=126) C (λM=>?_)<|λM=>?_
  ·refine e9 (Ad fld36_5 C) (e9 (Bl (vs:=[_,_]) ty34) ?_)
   exact e9 (Br (cells:=[_,_]) ty34 Cc pl34 C C)<|e9 (Dc (α:=Fr) (a:=(⟨num,den⟩:Fr)) (b:=(⟨0,0⟩:Fr)) eqt34 C C)<|e9 (A2 C C)<|Gr (Ao C C)<|Ga C<|Bi<|Cg ((decide<|(⟨num,den⟩:Fr)≠(⟨0,0⟩:Fr)))<|bD<|by unfold bad10;simp_all<;>omega
  exact eb<|eb<|eb<|eb<|e9 (Ao C C)<|Gr (Ao C C)<|Ga C<|Bi<|Cg ((false))<|bF<|by unfold bad10;simp_all<;>omega
 rintro aw hp
 have ap:(aw=decide (bad10 K node lv tq S num den)):=hp
 refine D8 C (λaq=>?_)<|λaq=>?_
 ·refine Ar (Ga C<|As<|Bf<|B6<|Bq ?_)
  have c9:noneF K=false:=c9
  exact Ai C C I Ah ⟨congrArg (λn=>Value.int .i64 n)<|by unfold checkQ;rw [if_neg (by simp [c9]),if_neg<|of_decide_eq_false<|ah.symm.trans c13,if_neg<|of_decide_eq_false<|ai.symm.trans aj,if_neg<|of_decide_eq_false<|ak.symm.trans ao,if_pos<|of_decide_eq_true<|ap.symm.trans aq],rfl⟩
 refine Bt<|Av<|Ay<|Ar<|Ga C<|As<|Bf ?_
 have c9:noneF K=false:=c9
 exact Ai C C I Ah ⟨congrArg (λn=>Value.int .i64 n)<|by unfold checkQ;rw [if_neg (by simp [c9]),if_neg<|of_decide_eq_false<|ah.symm.trans c13,if_neg<|of_decide_eq_false<|ai.symm.trans aj,if_neg<|of_decide_eq_false<|ak.symm.trans ao,if_neg<|of_decide_eq_false<|ap.symm.trans aq],rfl⟩
end Go.Sl
namespace Go.Sl
variable {P:Program}{κ:Ctx}{N:Frm}{L:Env}{I:List Item}
theorem V.retvv{fn:Func}{t u:Tmp}{T U b b' E E' by' ae:Nat}{z z':List Value}{v v':Value}{Post:Value->List Item->Prop}(hr:fn.results = #[.cell t T,.cell u U])(hT:tyF P T=some (1,false,by',z))(hU:tyF P U=some (1,false,ae,z'))
  (hv:look L t=some (.pointer<|some ⟨b,0,none⟩)) (ah:look L u=some (.pointer<|some ⟨b',0,none⟩)) (hb:e8 b [v] E∈I) (ai:e8 b' [v'] E'∈I)
  (J:List Item) (hf:Fit κ I J) (hp:Post (.tuple #[v,v']) J) (h0:N.ds=[]:=by rfl):V κ N (bodyPost P fn<|RetR κ Post) .ret L I:=
 λa w ha hs=>by
  have ab:w.cell? ⟨b,0,none⟩=some v:=by rw [cell_blk (w:=w) (hs.ok _ hb).1 0];rfl
  have M:w.cell? ⟨b',0,none⟩=some v':=by rw [cell_blk (w:=w) (hs.ok _ ai).1 0];rfl
  have ad:(loadVar T ⟨b,0,none⟩).run P w = .ok v w:=run_loadVar_one hT ab
  have aa:(loadVar U ⟨b',0,none⟩).run P w = .ok v' w:=run_loadVar_one hU M
  refine bodyPost_ret (v:= .tuple #[v,v']) ?_ (ha.defers.trans h0) ⟨_,J,rfl,hp,hf w hs⟩
  simp [results,hr,ha.get t _ hv,ha.get u _ ah,asAddr,ad,aa]
end Go.Sl
namespace Go.Sl
open Go.Proofs
set_option maxRecDepth 4000
def numT(nd kd wd mo:Int)(es:List Ev)(v t:Int):Int:=e_ (coreN nd (atG kd wd mo es t)) v
theorem allE_len{nd kd wd mo:Int}{es:List Ev}(hH:HistOk nd kd wd mo es)(hlen:es.length<=19):(allE kd wd mo es).length<=57:=by
 have h2:=hH.len2
 have M:=hH.len
 have h4:=lateL_len kd wd (eh (slideS kd wd mo es).2)
 unfold allE
 rw [List.length_append,(isort_permG _ _).length_eq]
 omega
end Go.Sl
