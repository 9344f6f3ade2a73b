/- A part of the proofs of statements of this seat: contracts of functions, and the plain laws that they lean on. No conditions. -/
import Derived.Test.YtfkcohmipjhfcaaGreatDoorW19
set_option linter.unusedVariables false
set_option linter.unusedSimpArgs false
set_option linter.unusedSectionVars false
namespace Go.Sl
open Go.Proofs
set_option maxRecDepth 4000
def nodeF(K:Int):Bool:=decide (K=1\/K=2\/K=10)
def setF(K:Int):Bool:=decide (K=3\/K=4\/K=9)
def levelF(K:Int):Bool:=decide (K=2\/K=9)
def timeF(K:Int):Bool:=decide (1<=K/\K<=7)
def densF(K:Int):Bool:=decide (K=8)
def noneF(K:Int):Bool:= !(nodeF K||setF K||levelF K||timeF K||densF K)
def setOk(K:Int)(S:List Int)(nd:Int):Prop:=ValidP S nd/\0<S.length/\(K≠3\/S.length=2)
instance (K:Int) (S:List Int) (nd:Int):Decidable (setOk K S nd):=inferInstanceAs (Decidable (_/\_))
def bad4(nd K node:Int)(S:List Int):Prop:=(nodeF K=true/\(node<0\/nd<=node))\/(setF K=true/\¬setOk K S nd)
def bad6(K tq:Int):Prop:=timeF K=true/\(tq<0\/1048576<tq)
def bad8(K lv:Int):Prop:=levelF K=true/\(lv<0\/64<lv)
def bad10(K node lv tq:Int)(S:List Int)(num den:Int):Prop:=(nodeF K=false/\node≠0)\/(setF K=false/\0<S.length)\/(timeF K=false/\tq≠0)\/(levelF K=false/\lv≠0)\/(densF K=false/\¬(num=0/\den=0))
instance (nd K node:Int) (S:List Int):Decidable (bad4 nd K node S):=inferInstanceAs (Decidable (_\/_))
instance (K tq:Int):Decidable (bad6 K tq):=inferInstanceAs (Decidable (_/\_))
instance (K lv:Int):Decidable (bad8 K lv):=inferInstanceAs (Decidable (_/\_))
instance (K node lv tq:Int) (S:List Int) (num den:Int):Decidable (bad10 K node lv tq S num den):=inferInstanceAs (Decidable (_\/_))
def checkQ(nd K node lv tq:Int)(S:List Int)(num den:Int):Int:=if noneF K=true then 8 else if bad4 nd K node S then 6 else if bad6 K tq then 9 else if bad8 K lv then 1 else if bad10 K node lv tq S num den then 34 else 0
structure QV (nd K node lv tq:Int) (S:List Int) (num den:Int):Prop where
 some:noneF K=false
 node:nodeF K=true->0<=node/\node<nd
 set:setF K=true->setOk K S nd
 time:timeF K=true->0<=tq/\tq<=1048576
 level:levelF K=true->0<=lv/\lv<=64
theorem QV.of{nd K node lv tq num den:Int}{S:List Int}(h:checkQ nd K node lv tq S num den=0):QV nd K node lv tq S num den:=by
 unfold checkQ at h
 by_cases h1:noneF K=true
 ·rw [if_pos h1] at h;exact absurd h dc
 by_cases h2:bad4 nd K node S
 ·rw [if_neg h1,if_pos h2] at h;exact absurd h dc
 by_cases h3:bad6 K tq
 ·rw [if_neg h1,if_neg h2,if_pos h3] at h;exact absurd h dc
 by_cases h4:bad8 K lv
 ·rw [if_neg h1,if_neg h2,if_neg h3,if_pos h4] at h;exact absurd h dc
 unfold bad4 at h2;unfold bad6 at h3;unfold bad8 at h4
 exact ⟨by simpa using h1,λe=>by
  by_cases q:node<0\/nd<=node
  ·exact absurd (.inl ⟨e,q⟩) h2
  ·omega,λe=>Classical.not_not.1 λq=>h2 (.inr ⟨e,q⟩),λe=>by
  by_cases q:tq<0\/1048576<tq
  ·exact absurd ⟨e,q⟩ h3
  ·omega,λe=>by
  by_cases q:lv<0\/64<lv
  ·exact absurd ⟨e,q⟩ h4
  ·omega⟩
theorem QV.rng{nd K node lv tq num den:Int}{S:List Int}(h:QV nd K node lv tq S num den):1<=K/\K<=10:=by
 have h1:=h.some
 unfold noneF nodeF setF levelF timeF densF at h1
 simp only [Bool.not_eq_false',Bool.or_eq_true,decide_eq_true_eq] at h1
 omega
section
variable {P:Program}{κ:Ctx}{N:Frm}{L:Env}{J:List Item}{d:Option Tmp}{ty:TypeId}{ps:String}{af:Array Edge}{gd:Option (Nat×Bool)}
theorem Runs.eqShape{x y:Operand}{T U:TypeId}{b1 b2 b3 b4 b5:Bool}(hg:∀(c1 c2 c3 c4 c5:Bool) (w:World),(eqGuard .eql T x y (.agg #[.bool c1,.bool c2,.bool c3,.bool c4,.bool c5]) (.agg #[.bool false,.bool false,.bool false,.bool false,.bool false])).run P w = .ok () w)
  (hT:∀(c1 c2 c3 c4 c5:Bool) (w:World),(binOp .eql T (.agg #[.bool c1,.bool c2,.bool c3,.bool c4,.bool c5]) (.agg #[.bool false,.bool false,.bool false,.bool false,.bool false])).run P w = .ok (.bool (!(c1||c2||c3||c4||c5))) w)
  (hx:er L x=some (.agg #[.bool b1,.bool b2,.bool b3,.bool b4,.bool b5])) (hy:er L y=some (.agg #[.bool false,.bool false,.bool false,.bool false,.bool false])) :
  Runs P κ N ⟨d,.binOp .eql T x y U,ty,ps,af,gd⟩ L J (.bool (!(b1||b2||b3||b4||b5))):=λa w ha _=>by
 simp only [execOp,ha.eval hx,ha.eval hy]
 simp [hg,hT]
end
theorem QOfG_ok{κ:Ctx}{I:List Item}{K:Int} :
    eu Tryz.prog κ 176 [e7 K] I (λr J=>r = .agg #[.bool (nodeF K),.bool (setF K),.bool (levelF K),.bool (timeF K),.bool (densF K)]/\I=J):=by
 refine Ce1 Tryz.func176 C C ?_
 refine Aj (Ge1 (A9 ty220 C) λb1=>Ah (Aj (Ge1 (A9 ty220 C) λb2=>Ah (Au (Aj (Gm C (Ah (A6 (Au (A6 (Au (A6 (Au (A6 (Au (A6 (Au (A6 (Au (A6 (Au (A6 (Au (Au (Aj (Gr (Bl C C) (Ga C (Ah (Bd C (λc5=>?_) (λc5=>?_))))))))))))))))))))))))))))))
 ·refine Bp (Ac (Ac (Aw (Ai (A0 (Gf fld220_2 C (Ge0 (B4 (cs:=[_,_,_,_,_]) (vs:=[_]) (cs':=[_,_,_,_,_]) ty4) ?_)))))))
  refine Bf (Ak (Ai (A0 (Gf fld220_3 C (Ge0 (B4 (cs:=[_,_,_,_,_]) (vs:=[_]) (cs':=[_,_,_,_,_]) ty4) ?_)))))
  refine Bf (Ak (Ai (Aj (Gf fld220_0 C (Ge0 (B4 (cs:=[_,_,_,_,_]) (vs:=[_]) (cs':=[_,_,_,_,_]) ty4) ?_)))))
  refine Ah (Bp (Ao C (Ac (Ao C (Ac (Ao C (Ac (Ao C (Ac (Aw (Ai (Aj (Gr (Be (vs:=[_,_,_,_,_]) ty220) ?_)))))))))))))
  refine Ge0 (Dn ty220) ?_
  exact Ah (Az (Cf C ty220 C mm C I Ay ⟨by rw [show nodeF K=true from decide_eq_true om,show setF K=false from decide_eq_false om,show levelF K=true from decide_eq_true om,show timeF K=true from decide_eq_true om,show densF K=false from decide_eq_false om],rfl⟩))
 ·refine A4 (Ai (Au (Aj (Gr (Bl C C) (Ga C (Ah (Bd C (λc7=>?_) (λc7=>?_))))))))
  ·refine Bp (Ac (Ac (Ao C (Ac (Aw (Ai (A0 (Gf fld220_3 C (Ge0 (B4 (cs:=[_,_,_,_,_]) (vs:=[_]) (cs':=[_,_,_,_,_]) ty4) ?_)))))))))
   refine Bf (Ak (Ai (Aj (Gf fld220_0 C (Ge0 (B4 (cs:=[_,_,_,_,_]) (vs:=[_]) (cs':=[_,_,_,_,_]) ty4) ?_)))))
   refine Ah (Bp (Ao C (Ac (Ao C (Ac (Ao C (Ac (Ao C (Ac (Aw (Ai (Aj (Gr (Be (vs:=[_,_,_,_,_]) ty220) ?_)))))))))))))
   refine Ge0 (Dn ty220) ?_
   exact Ah (Az (Cf C ty220 C mm C I Ay ⟨by rw [show nodeF K=true from decide_eq_true om,show setF K=false from decide_eq_false om,show levelF K=false from decide_eq_false om,show timeF K=true from decide_eq_true om,show densF K=false from decide_eq_false om],rfl⟩))
  ·refine A4 (Ai (Au (Aj (Gr (Bl C C) (Ga C (Ah (Bd C (λc9=>?_) (λc9=>?_))))))))
   ·refine Bp (Ac (Ac (Ao C (Ac (Ao C (Ac (Aw (Ai (Aj (Gf fld220_0 C (Ge0 (B4 (cs:=[_,_,_,_,_]) (vs:=[_]) (cs':=[_,_,_,_,_]) ty4) ?_)))))))))))
    refine Ah (Bp (Ao C (Ac (Ao C (Ac (Ao C (Ac (Ao C (Ac (Aw (Ai (Aj (Gr (Be (vs:=[_,_,_,_,_]) ty220) ?_)))))))))))))
    refine Ge0 (Dn ty220) ?_
    exact Ah (Az (Cf C ty220 C mm C I Ay ⟨by rw [show nodeF K=true from decide_eq_true om,show setF K=false from decide_eq_false om,show levelF K=false from decide_eq_false om,show timeF K=false from decide_eq_false om,show densF K=false from decide_eq_false om],rfl⟩))
   ·refine A4 (Ai (Au (Au (Aj (Gr (Bl C C) (Ga C (Ah (Bd C (λc11=>?_) (λc11=>?_)))))))))
    ·refine A4 (Ai (Bd C (λc11=>?_) (λc11=>?_)))
     ·refine Bp (Ac (Ac (Ao C (Ac (Ao C (Ac (Ao C (Ac (Aw (Ai (A0 (Gf fld220_1 C (Ge0 (B4 (cs:=[_,_,_,_,_]) (vs:=[_]) (cs':=[_,_,_,_,_]) ty4) ?_)))))))))))))
      refine Bf (Ak (Ai (Aj (Gf fld220_3 C (Ge0 (B4 (cs:=[_,_,_,_,_]) (vs:=[_]) (cs':=[_,_,_,_,_]) ty4) ?_)))))
      refine Ah (Av (S2 3 2 C C) (Bp (Ao C (Ac (Ao C (Ac (Aw (Ai (Aj (Gr (Be (vs:=[_,_,_,_,_]) ty220) ?_))))))))))
      refine Ge0 (Dn ty220) ?_
      exact Ah (Az (Cf C ty220 C mm C I Ay ⟨by rw [show nodeF K=false from decide_eq_false om,show setF K=true from decide_eq_true om,show levelF K=false from decide_eq_false om,show timeF K=true from decide_eq_true om,show densF K=false from decide_eq_false om],rfl⟩))
     ·refine A4 (Ai (Au (Au (Aj (Gr (Bl C C) (Ga C (Ah (Av (S4 14 4 3 2 C C C C) (Bd C (λc14=>?_) (λc14=>?_))))))))))
      ·refine A4 (Ai (Bd C (λc14=>?_) (λc14=>?_)))
       ·refine Bp (Ac (Ac (Ao C (Ac (Ao C (Ac (Ao C (Ac (Ao C (Ac (Aw (Ai (Aj (Gf fld220_3 C (Ge0 (B4 (cs:=[_,_,_,_,_]) (vs:=[_]) (cs':=[_,_,_,_,_]) ty4) ?_)))))))))))))))
        refine Ah (Bp (Ao C (Ac (Ao C (Ac (Aw (Ai (Aj (Gr (Be (vs:=[_,_,_,_,_]) ty220) ?_)))))))))
        refine Ge0 (Dn ty220) ?_
        exact Ah (Az (Cf C ty220 C mm C I Ay ⟨by rw [show nodeF K=false from decide_eq_false om,show setF K=false from decide_eq_false om,show levelF K=false from decide_eq_false om,show timeF K=true from decide_eq_true om,show densF K=false from decide_eq_false om],rfl⟩))
       ·refine A4 (Ai (Au (Aj (Gr (Bl C C) (Ga C (Ah (Bd C (λc18=>?_) (λc18=>?_))))))))
        ·refine Bp (Ac (Ac (Ao C (Ac (Ao C (Ac (Ao C (Ac (Ao C (Ac (Ao C (Ac (Aw (Ai (Aj (Gf fld220_4 C (Ge0 (B4 (cs:=[_,_,_,_,_]) (vs:=[_]) (cs':=[_,_,_,_,_]) ty4) ?_)))))))))))))))))
         refine Ah (Bp (Ao C (Ac (Aw (Ai (Aj (Gr (Be (vs:=[_,_,_,_,_]) ty220) ?_)))))))
         refine Ge0 (Dn ty220) ?_
         exact Ah (Az (Cf C ty220 C mm C I Ay ⟨by rw [show nodeF K=false from decide_eq_false om,show setF K=false from decide_eq_false om,show levelF K=false from decide_eq_false om,show timeF K=false from decide_eq_false om,show densF K=true from decide_eq_true om],rfl⟩))
        ·refine A4 (Ai (Aj (Gr (Bl C C) (Ga C (Ah (Bd C (λc20=>?_) (λc20=>?_)))))))
         ·refine Bp (Ac (Ao C (Ac (Ao C (Ac (Ao C (Ac (Ao C (Ac (Ao C (Ac (Ao C (Ac (Aw (Ai (Aj (Gf fld220_1 C (Ge0 (B4 (cs:=[_,_,_,_,_]) (vs:=[_]) (cs':=[_,_,_,_,_]) ty4) ?_))))))))))))))))))
          refine Gf fld220_2 C (Ge0 (B4 (cs:=[_,_,_,_,_]) (vs:=[_]) (cs':=[_,_,_,_,_]) ty4) ?_)
          refine Ah (Bp (Aw (Ai (Aj (Gr (Be (vs:=[_,_,_,_,_]) ty220) ?_)))))
          refine Ge0 (Dn ty220) ?_
          exact Ah (Az (Cf C ty220 C mm C I Ay ⟨by rw [show nodeF K=false from decide_eq_false om,show setF K=true from decide_eq_true om,show levelF K=true from decide_eq_true om,show timeF K=false from decide_eq_false om,show densF K=false from decide_eq_false om],rfl⟩))
         ·refine A4 (Ai (Bp (Ao C (Ac (Ao C (Ac (Ao C (Ac (Ao C (Ac (Ao C (Ac (Ao C (Ac (Ao C (Ac (Aw (Ai (Aj (Gr (Be (vs:=[_,_,_,_,_]) ty220) ?_))))))))))))))))))))
          refine Ge0 (Dn ty220) ?_
          exact Ah (Az (Cf C ty220 C mm C I Ay ⟨by rw [show nodeF K=false from decide_eq_false om,show setF K=false from decide_eq_false om,show levelF K=false from decide_eq_false om,show timeF K=false from decide_eq_false om,show densF K=false from decide_eq_false om],rfl⟩))
      ·refine Aj (Gr (Bl C C) (Ga C (Ah (Bd C (λc14=>?_) (λc14=>?_)))))
       ·refine A4 (Ai (Bd C (λc14=>?_) (λc14=>?_)))
        ·refine Bp (Ac (Ac (Ao C (Ac (Ao C (Ac (Ao C (Ac (Ao C (Ac (Aw (Ai (Aj (Gf fld220_3 C (Ge0 (B4 (cs:=[_,_,_,_,_]) (vs:=[_]) (cs':=[_,_,_,_,_]) ty4) ?_)))))))))))))))
         refine Ah (Bp (Ao C (Ac (Ao C (Ac (Aw (Ai (Aj (Gr (Be (vs:=[_,_,_,_,_]) ty220) ?_)))))))))
         refine Ge0 (Dn ty220) ?_
         exact Ah (Az (Cf C ty220 C mm C I Ay ⟨by rw [show nodeF K=false from decide_eq_false om,show setF K=false from decide_eq_false om,show levelF K=false from decide_eq_false om,show timeF K=true from decide_eq_true om,show densF K=false from decide_eq_false om],rfl⟩))
        ·refine A4 (Ai (Au (Aj (Gr (Bl C C) (Ga C (Ah (Bd C (λc18=>?_) (λc18=>?_))))))))
         ·refine Bp (Ac (Ac (Ao C (Ac (Ao C (Ac (Ao C (Ac (Ao C (Ac (Ao C (Ac (Aw (Ai (Aj (Gf fld220_4 C (Ge0 (B4 (cs:=[_,_,_,_,_]) (vs:=[_]) (cs':=[_,_,_,_,_]) ty4) ?_)))))))))))))))))
          refine Ah (Bp (Ao C (Ac (Aw (Ai (Aj (Gr (Be (vs:=[_,_,_,_,_]) ty220) ?_)))))))
          refine Ge0 (Dn ty220) ?_
          exact Ah (Az (Cf C ty220 C mm C I Ay ⟨by rw [show nodeF K=false from decide_eq_false om,show setF K=false from decide_eq_false om,show levelF K=false from decide_eq_false om,show timeF K=false from decide_eq_false om,show densF K=true from decide_eq_true om],rfl⟩))
         ·refine A4 (Ai (Aj (Gr (Bl C C) (Ga C (Ah (Bd C (λc20=>?_) (λc20=>?_)))))))
          ·refine Bp (Ac (Ao C (Ac (Ao C (Ac (Ao C (Ac (Ao C (Ac (Ao C (Ac (Ao C (Ac (Aw (Ai (Aj (Gf fld220_1 C (Ge0 (B4 (cs:=[_,_,_,_,_]) (vs:=[_]) (cs':=[_,_,_,_,_]) ty4) ?_))))))))))))))))))
           refine Gf fld220_2 C (Ge0 (B4 (cs:=[_,_,_,_,_]) (vs:=[_]) (cs':=[_,_,_,_,_]) ty4) ?_)
           refine Ah (Bp (Aw (Ai (Aj (Gr (Be (vs:=[_,_,_,_,_]) ty220) ?_)))))
           refine Ge0 (Dn ty220) ?_
           exact Ah (Az (Cf C ty220 C mm C I Ay ⟨by rw [show nodeF K=false from decide_eq_false om,show setF K=true from decide_eq_true om,show levelF K=true from decide_eq_true om,show timeF K=false from decide_eq_false om,show densF K=false from decide_eq_false om],rfl⟩))
          ·refine A4 (Ai (Bp (Ao C (Ac (Ao C (Ac (Ao C (Ac (Ao C (Ac (Ao C (Ac (Ao C (Ac (Ao C (Ac (Aw (Ai (Aj (Gr (Be (vs:=[_,_,_,_,_]) ty220) ?_))))))))))))))))))))
           refine Ge0 (Dn ty220) ?_
           exact Ah (Az (Cf C ty220 C mm C I Ay ⟨by rw [show nodeF K=false from decide_eq_false om,show setF K=false from decide_eq_false om,show levelF K=false from decide_eq_false om,show timeF K=false from decide_eq_false om,show densF K=false from decide_eq_false om],rfl⟩))
       ·refine A0 (Gr (Bl C C) (Ga C (Ah (Bd C (λc14=>?_) (λc14=>?_)))))
        ·refine Bp (Ac (Ac (Ao C (Ac (Ao C (Ac (Ao C (Ac (Ao C (Ac (Aw (Ai (Aj (Gf fld220_3 C (Ge0 (B4 (cs:=[_,_,_,_,_]) (vs:=[_]) (cs':=[_,_,_,_,_]) ty4) ?_)))))))))))))))
         refine Ah (Bp (Ao C (Ac (Ao C (Ac (Aw (Ai (Aj (Gr (Be (vs:=[_,_,_,_,_]) ty220) ?_)))))))))
         refine Ge0 (Dn ty220) ?_
         exact Ah (Az (Cf C ty220 C mm C I Ay ⟨by rw [show nodeF K=false from decide_eq_false om,show setF K=false from decide_eq_false om,show levelF K=false from decide_eq_false om,show timeF K=true from decide_eq_true om,show densF K=false from decide_eq_false om],rfl⟩))
        ·refine A4 (Ai (Au (Aj (Gr (Bl C C) (Ga C (Ah (Bd C (λc18=>?_) (λc18=>?_))))))))
         ·refine Bp (Ac (Ac (Ao C (Ac (Ao C (Ac (Ao C (Ac (Ao C (Ac (Ao C (Ac (Aw (Ai (Aj (Gf fld220_4 C (Ge0 (B4 (cs:=[_,_,_,_,_]) (vs:=[_]) (cs':=[_,_,_,_,_]) ty4) ?_)))))))))))))))))
          refine Ah (Bp (Ao C (Ac (Aw (Ai (Aj (Gr (Be (vs:=[_,_,_,_,_]) ty220) ?_)))))))
          refine Ge0 (Dn ty220) ?_
          exact Ah (Az (Cf C ty220 C mm C I Ay ⟨by rw [show nodeF K=false from decide_eq_false om,show setF K=false from decide_eq_false om,show levelF K=false from decide_eq_false om,show timeF K=false from decide_eq_false om,show densF K=true from decide_eq_true om],rfl⟩))
         ·refine A4 (Ai (Aj (Gr (Bl C C) (Ga C (Ah (Bd C (λc20=>?_) (λc20=>?_)))))))
          ·refine Bp (Ac (Ao C (Ac (Ao C (Ac (Ao C (Ac (Ao C (Ac (Ao C (Ac (Ao C (Ac (Aw (Ai (Aj (Gf fld220_1 C (Ge0 (B4 (cs:=[_,_,_,_,_]) (vs:=[_]) (cs':=[_,_,_,_,_]) ty4) ?_))))))))))))))))))
           refine Gf fld220_2 C (Ge0 (B4 (cs:=[_,_,_,_,_]) (vs:=[_]) (cs':=[_,_,_,_,_]) ty4) ?_)
           refine Ah (Av (S2 3 2 C C) (Bp (Aw (Ai (Aj (Gr (Be (vs:=[_,_,_,_,_]) ty220) ?_))))))
           refine Ge0 (Dn ty220) ?_
           exact Ah (Az (Cf C ty220 C mm C I Ay ⟨by rw [show nodeF K=false from decide_eq_false om,show setF K=true from decide_eq_true om,show levelF K=true from decide_eq_true om,show timeF K=false from decide_eq_false om,show densF K=false from decide_eq_false om],rfl⟩))
          ·refine A4 (Ai (Bp (Ao C (Ac (Ao C (Ac (Ao C (Ac (Ao C (Ac (Ao C (Ac (Ao C (Ac (Ao C (Ac (Aw (Ai (Aj (Gr (Be (vs:=[_,_,_,_,_]) ty220) ?_))))))))))))))))))))
           refine Ge0 (Dn ty220) ?_
           exact Ah (Az (Cf C ty220 C mm C I Ay ⟨by rw [show nodeF K=false from decide_eq_false om,show setF K=false from decide_eq_false om,show levelF K=false from decide_eq_false om,show timeF K=false from decide_eq_false om,show densF K=false from decide_eq_false om],rfl⟩))
    ·refine A0 (Gr (Bl C C) (Ga C (Ah (Av (S4 11 4 3 2 C C C C) (Bd C (λc11=>?_) (λc11=>?_))))))
     ·refine Bp (Ac (Ac (Ao C (Ac (Ao C (Ac (Ao C (Ac (Aw (Ai (A0 (Gf fld220_1 C (Ge0 (B4 (cs:=[_,_,_,_,_]) (vs:=[_]) (cs':=[_,_,_,_,_]) ty4) ?_)))))))))))))
      refine Bf (Ak (Ai (Aj (Gf fld220_3 C (Ge0 (B4 (cs:=[_,_,_,_,_]) (vs:=[_]) (cs':=[_,_,_,_,_]) ty4) ?_)))))
      refine Ah (Bp (Ao C (Ac (Ao C (Ac (Aw (Ai (Aj (Gr (Be (vs:=[_,_,_,_,_]) ty220) ?_)))))))))
      refine Ge0 (Dn ty220) ?_
      exact Ah (Az (Cf C ty220 C mm C I Ay ⟨by rw [show nodeF K=false from decide_eq_false om,show setF K=true from decide_eq_true om,show levelF K=false from decide_eq_false om,show timeF K=true from decide_eq_true om,show densF K=false from decide_eq_false om],rfl⟩))
     ·refine A4 (Ai (Au (Au (Aj (Gr (Bl C C) (Ga C (Ah (Bd C (λc14=>?_) (λc14=>?_)))))))))
      ·refine A4 (Ai (Bd C (λc14=>?_) (λc14=>?_)))
       ·refine Bp (Ac (Ac (Ao C (Ac (Ao C (Ac (Ao C (Ac (Ao C (Ac (Aw (Ai (Aj (Gf fld220_3 C (Ge0 (B4 (cs:=[_,_,_,_,_]) (vs:=[_]) (cs':=[_,_,_,_,_]) ty4) ?_)))))))))))))))
        refine Ah (Bp (Ao C (Ac (Ao C (Ac (Aw (Ai (Aj (Gr (Be (vs:=[_,_,_,_,_]) ty220) ?_)))))))))
        refine Ge0 (Dn ty220) ?_
        exact Ah (Az (Cf C ty220 C mm C I Ay ⟨by rw [show nodeF K=false from decide_eq_false om,show setF K=false from decide_eq_false om,show levelF K=false from decide_eq_false om,show timeF K=true from decide_eq_true om,show densF K=false from decide_eq_false om],rfl⟩))
       ·refine A4 (Ai (Au (Aj (Gr (Bl C C) (Ga C (Ah (Bd C (λc18=>?_) (λc18=>?_))))))))
        ·refine Bp (Ac (Ac (Ao C (Ac (Ao C (Ac (Ao C (Ac (Ao C (Ac (Ao C (Ac (Aw (Ai (Aj (Gf fld220_4 C (Ge0 (B4 (cs:=[_,_,_,_,_]) (vs:=[_]) (cs':=[_,_,_,_,_]) ty4) ?_)))))))))))))))))
         refine Ah (Bp (Ao C (Ac (Aw (Ai (Aj (Gr (Be (vs:=[_,_,_,_,_]) ty220) ?_)))))))
         refine Ge0 (Dn ty220) ?_
         exact Ah (Az (Cf C ty220 C mm C I Ay ⟨by rw [show nodeF K=false from decide_eq_false om,show setF K=false from decide_eq_false om,show levelF K=false from decide_eq_false om,show timeF K=false from decide_eq_false om,show densF K=true from decide_eq_true om],rfl⟩))
        ·refine A4 (Ai (Aj (Gr (Bl C C) (Ga C (Ah (Bd C (λc20=>?_) (λc20=>?_)))))))
         ·refine Bp (Ac (Ao C (Ac (Ao C (Ac (Ao C (Ac (Ao C (Ac (Ao C (Ac (Ao C (Ac (Aw (Ai (Aj (Gf fld220_1 C (Ge0 (B4 (cs:=[_,_,_,_,_]) (vs:=[_]) (cs':=[_,_,_,_,_]) ty4) ?_))))))))))))))))))
          refine Gf fld220_2 C (Ge0 (B4 (cs:=[_,_,_,_,_]) (vs:=[_]) (cs':=[_,_,_,_,_]) ty4) ?_)
          refine Ah (Bp (Aw (Ai (Aj (Gr (Be (vs:=[_,_,_,_,_]) ty220) ?_)))))
          refine Ge0 (Dn ty220) ?_
          exact Ah (Az (Cf C ty220 C mm C I Ay ⟨by rw [show nodeF K=false from decide_eq_false om,show setF K=true from decide_eq_true om,show levelF K=true from decide_eq_true om,show timeF K=false from decide_eq_false om,show densF K=false from decide_eq_false om],rfl⟩))
         ·refine A4 (Ai (Bp (Ao C (Ac (Ao C (Ac (Ao C (Ac (Ao C (Ac (Ao C (Ac (Ao C (Ac (Ao C (Ac (Aw (Ai (Aj (Gr (Be (vs:=[_,_,_,_,_]) ty220) ?_))))))))))))))))))))
          refine Ge0 (Dn ty220) ?_
          exact Ah (Az (Cf C ty220 C mm C I Ay ⟨by rw [show nodeF K=false from decide_eq_false om,show setF K=false from decide_eq_false om,show levelF K=false from decide_eq_false om,show timeF K=false from decide_eq_false om,show densF K=false from decide_eq_false om],rfl⟩))
      ·refine Aj (Gr (Bl C C) (Ga C (Ah (Bd C (λc14=>?_) (λc14=>?_)))))
       ·refine A4 (Ai (Bd C (λc14=>?_) (λc14=>?_)))
        ·refine Bp (Ac (Ac (Ao C (Ac (Ao C (Ac (Ao C (Ac (Ao C (Ac (Aw (Ai (Aj (Gf fld220_3 C (Ge0 (B4 (cs:=[_,_,_,_,_]) (vs:=[_]) (cs':=[_,_,_,_,_]) ty4) ?_)))))))))))))))
         refine Ah (Bp (Ao C (Ac (Ao C (Ac (Aw (Ai (Aj (Gr (Be (vs:=[_,_,_,_,_]) ty220) ?_)))))))))
         refine Ge0 (Dn ty220) ?_
         exact Ah (Az (Cf C ty220 C mm C I Ay ⟨by rw [show nodeF K=false from decide_eq_false om,show setF K=false from decide_eq_false om,show levelF K=false from decide_eq_false om,show timeF K=true from decide_eq_true om,show densF K=false from decide_eq_false om],rfl⟩))
        ·refine A4 (Ai (Au (Aj (Gr (Bl C C) (Ga C (Ah (Bd C (λc18=>?_) (λc18=>?_))))))))
         ·refine Bp (Ac (Ac (Ao C (Ac (Ao C (Ac (Ao C (Ac (Ao C (Ac (Ao C (Ac (Aw (Ai (Aj (Gf fld220_4 C (Ge0 (B4 (cs:=[_,_,_,_,_]) (vs:=[_]) (cs':=[_,_,_,_,_]) ty4) ?_)))))))))))))))))
          refine Ah (Bp (Ao C (Ac (Aw (Ai (Aj (Gr (Be (vs:=[_,_,_,_,_]) ty220) ?_)))))))
          refine Ge0 (Dn ty220) ?_
          exact Ah (Az (Cf C ty220 C mm C I Ay ⟨by rw [show nodeF K=false from decide_eq_false om,show setF K=false from decide_eq_false om,show levelF K=false from decide_eq_false om,show timeF K=false from decide_eq_false om,show densF K=true from decide_eq_true om],rfl⟩))
         ·refine A4 (Ai (Aj (Gr (Bl C C) (Ga C (Ah (Bd C (λc20=>?_) (λc20=>?_)))))))
          ·refine Bp (Ac (Ao C (Ac (Ao C (Ac (Ao C (Ac (Ao C (Ac (Ao C (Ac (Ao C (Ac (Aw (Ai (Aj (Gf fld220_1 C (Ge0 (B4 (cs:=[_,_,_,_,_]) (vs:=[_]) (cs':=[_,_,_,_,_]) ty4) ?_))))))))))))))))))
           refine Gf fld220_2 C (Ge0 (B4 (cs:=[_,_,_,_,_]) (vs:=[_]) (cs':=[_,_,_,_,_]) ty4) ?_)
           refine Ah (Av (S2 3 2 C C) (Bp (Aw (Ai (Aj (Gr (Be (vs:=[_,_,_,_,_]) ty220) ?_))))))
           refine Ge0 (Dn ty220) ?_
           exact Ah (Az (Cf C ty220 C mm C I Ay ⟨by rw [show nodeF K=false from decide_eq_false om,show setF K=true from decide_eq_true om,show levelF K=true from decide_eq_true om,show timeF K=false from decide_eq_false om,show densF K=false from decide_eq_false om],rfl⟩))
          ·refine A4 (Ai (Bp (Ao C (Ac (Ao C (Ac (Ao C (Ac (Ao C (Ac (Ao C (Ac (Ao C (Ac (Ao C (Ac (Aw (Ai (Aj (Gr (Be (vs:=[_,_,_,_,_]) ty220) ?_))))))))))))))))))))
           refine Ge0 (Dn ty220) ?_
           exact Ah (Az (Cf C ty220 C mm C I Ay ⟨by rw [show nodeF K=false from decide_eq_false om,show setF K=false from decide_eq_false om,show levelF K=false from decide_eq_false om,show timeF K=false from decide_eq_false om,show densF K=false from decide_eq_false om],rfl⟩))
       ·refine A0 (Gr (Bl C C) (Ga C (Ah (Bd C (λc14=>?_) (λc14=>?_)))))
        ·refine Bp (Ac (Ac (Ao C (Ac (Ao C (Ac (Ao C (Ac (Ao C (Ac (Aw (Ai (Aj (Gf fld220_3 C (Ge0 (B4 (cs:=[_,_,_,_,_]) (vs:=[_]) (cs':=[_,_,_,_,_]) ty4) ?_)))))))))))))))
         refine Ah (Bp (Ao C (Ac (Ao C (Ac (Aw (Ai (Aj (Gr (Be (vs:=[_,_,_,_,_]) ty220) ?_)))))))))
         refine Ge0 (Dn ty220) ?_
         exact Ah (Az (Cf C ty220 C mm C I Ay ⟨by rw [show nodeF K=false from decide_eq_false om,show setF K=false from decide_eq_false om,show levelF K=false from decide_eq_false om,show timeF K=true from decide_eq_true om,show densF K=false from decide_eq_false om],rfl⟩))
        ·refine A4 (Ai (Au (Aj (Gr (Bl C C) (Ga C (Ah (Bd C (λc18=>?_) (λc18=>?_))))))))
         ·refine Bp (Ac (Ac (Ao C (Ac (Ao C (Ac (Ao C (Ac (Ao C (Ac (Ao C (Ac (Aw (Ai (Aj (Gf fld220_4 C (Ge0 (B4 (cs:=[_,_,_,_,_]) (vs:=[_]) (cs':=[_,_,_,_,_]) ty4) ?_)))))))))))))))))
          refine Ah (Bp (Ao C (Ac (Aw (Ai (Aj (Gr (Be (vs:=[_,_,_,_,_]) ty220) ?_)))))))
          refine Ge0 (Dn ty220) ?_
          exact Ah (Av (S1 2 C) (Az (Cf C ty220 C mm C I Ay ⟨by rw [show nodeF K=false from decide_eq_false om,show setF K=false from decide_eq_false om,show levelF K=false from decide_eq_false om,show timeF K=false from decide_eq_false om,show densF K=true from decide_eq_true om],rfl⟩)))
         ·refine A4 (Ai (Aj (Gr (Bl C C) (Ga C (Ah (Av (S3 20 3 2 C C C) (Bd C (λc20=>?_) (λc20=>?_))))))))
          ·refine Bp (Ac (Ao C (Ac (Ao C (Ac (Ao C (Ac (Ao C (Ac (Ao C (Ac (Ao C (Ac (Aw (Ai (Aj (Gf fld220_1 C (Ge0 (B4 (cs:=[_,_,_,_,_]) (vs:=[_]) (cs':=[_,_,_,_,_]) ty4) ?_))))))))))))))))))
           refine Gf fld220_2 C (Ge0 (B4 (cs:=[_,_,_,_,_]) (vs:=[_]) (cs':=[_,_,_,_,_]) ty4) ?_)
           refine Ah (Bp (Aw (Ai (Aj (Gr (Be (vs:=[_,_,_,_,_]) ty220) ?_)))))
           refine Ge0 (Dn ty220) ?_
           exact Ah (Az (Cf C ty220 C mm C I Ay ⟨by rw [show nodeF K=false from decide_eq_false om,show setF K=true from decide_eq_true om,show levelF K=true from decide_eq_true om,show timeF K=false from decide_eq_false om,show densF K=false from decide_eq_false om],rfl⟩))
          ·refine A4 (Ai (Bp (Ao C (Ac (Ao C (Ac (Ao C (Ac (Ao C (Ac (Ao C (Ac (Ao C (Ac (Ao C (Ac (Aw (Ai (Aj (Gr (Be (vs:=[_,_,_,_,_]) ty220) ?_))))))))))))))))))))
           refine Ge0 (Dn ty220) ?_
           exact Ah (Az (Cf C ty220 C mm C I Ay ⟨by rw [show nodeF K=false from decide_eq_false om,show setF K=false from decide_eq_false om,show levelF K=false from decide_eq_false om,show timeF K=false from decide_eq_false om,show densF K=false from decide_eq_false om],rfl⟩))
theorem QSetG_ok{κ:Ctx}{I:List Item}{K n:Int}{xs:List Int}{sa:Option Addr}{sc:Nat}(hs:Sl κ I (.slice sa xs.length sc) xs):eu Tryz.prog κ 177 [e7 K,.slice sa xs.length sc,e7 n] I (λr J=>r = .bool (decide (setOk K xs n))/\I=J):=by
 refine Ce3 Tryz.func177 C C ?_
 refine Aj (Ga C (Ah (Aj (Gm C (Gm C (Gc0 (Am call88 C C (NValid_ok (Bj hs) n)) ?_))))))
 refine Gm C (Bs (d:=10) C (λg10=>?_) (λg10=>?_))
 ·refine e9 (Af C) (e9 (Bz Ad C) (e9 (Ci C C) (Gr (Ap C C) (Gm C (Bs (d:=15) C (λg15=>?_) (λg15=>?_))))))
  ·refine e9 (Af C) (e9 (Bx C C) (e9 (Af C) (Bs (d:=18) C (λg18=>?_) (λg18=>?_))))
   ·exact eb (eb (eb (e9 (Ap C C) (Gr (Ap C C) (Ga C (Ah (Av (S1 6 C) (Az (Ba C C I Ay ⟨congrArg Value.bool (by unfold setOk;first|exact (decide_eq_false (by simp_all)).symm|exact (decide_eq_true (by simp_all;try omega)).symm|exact decide_eq_decide.2 (by simp_all;try omega)),rfl⟩)))))))))
   ·exact e9 (Af C) (e9 (Bz Ad C) (e9 (Bl C C) (e9 (Al C C) (Gr (Ap C C) (Ga C (Ah (Av (S1 6 C) (Az (Ba C C I Ay ⟨congrArg Value.bool (by unfold setOk;first|exact (decide_eq_false (by simp_all)).symm|exact (decide_eq_true (by simp_all;try omega)).symm|exact decide_eq_decide.2 (by simp_all;try omega)),rfl⟩)))))))))
  ·exact eb (eb (eb (ee (ee (ee (eb (Gr (Al C C) (Ga C (Ah (Av (S1 6 C) (Az (Ba C C I Ay ⟨congrArg Value.bool (by unfold setOk;first|exact (decide_eq_false (by simp_all)).symm|exact (decide_eq_true (by simp_all;try omega)).symm|exact decide_eq_decide.2 (by simp_all;try omega)),rfl⟩))))))))))))
 ·exact eb (eb (eb (Gr (Al C C) (Gm C (eb (eb (eb (ee (ee (ee (eb (Gr (Al C C) (Ga C (Ah (Av (S1 6 C) (Az (Ba C C I Ay ⟨congrArg Value.bool (by unfold setOk;first|exact (decide_eq_false (by simp_all)).symm|exact (decide_eq_true (by simp_all;try omega)).symm|exact decide_eq_decide.2 (by simp_all;try omega)),rfl⟩)))))))))))))))))
theorem QCheckG_ok{κ:Ctx}{I:List Item}{nd K node lv tq num den:Int}{S:List Int}{sa:Option Addr}{sc:Nat}(hs:Sl κ I (.slice sa S.length sc) S)(hf:densF K=true->FrV ⟨num,den⟩):eu Tryz.prog κ 105 [.agg #[e7 K,e7 node,e7 lv,e7 tq,.slice sa S.length sc,e7 num,e7 den],e7 nd] I (λr J=>r=e7 (checkQ nd K node lv tq S num den)/\I=J):=by
 have hn0:densF K=true->0<=num:=λh=>(hf h).n0
 refine Ce2 Tryz.func105 C C ?_
 refine Aj (Ge1 (Bg (cs:=[_,_,_,_,_,_,_]) C C C) λb1=>Ga C (Ah (Aj (Gf fld71_0 C (Gl ef ?_)))))
 refine G.e (Am call176 C C (QOfG_ok (K:=K))) ?_
 rintro _ _ ⟨_,_,⟨rfl,rfl⟩,rfl,rfl⟩
 refine Ge1 (A9 ty220 C) λb2=>Ge0 (Dn ty220) ?_
 refine Ah (Au (A6 (Aj (Gr (Be (vs:=[_,_,_,_,_]) ty220) ?_))))
 refine Gr (Bc (cells:=[_,_,_,_,_]) ty220 Tryz.underlying220 pl220 C C) (Gr (Runs.eqShape (λc1 c2 c3 c4 c5 w=>by cases c1<;>cases c2<;>cases c3<;>cases c4<;>cases c5<;>kernel_rfl) (λc1 c2 c3 c4 c5 w=>by cases c1<;>cases c2<;>cases c3<;>cases c4<;>cases c5<;>kernel_rfl) C C) (Ga C (Ah (Ez C (λc9=>?_) (λc9=>?_)))))
 ·refine Aj (Ga C (Ah (Az (A3 (Ar ?_)))))
  have c9:noneF K=true:=c9
  exact Ba C C I Ay ⟨congrArg (λn=>Value.int .i64 n) (by unfold checkQ;rw [if_pos c9]),rfl⟩
 ·refine Fe (σ:=Bool) (λs=>([(2,.pointer (some ⟨b1,0,none⟩)),(5,.pointer (some ⟨b2,0,none⟩)),(13,.bool s)]:Env)) (λs=>e8 b2 [.bool (nodeF K),.bool (setF K),.bool (levelF K),.bool (timeF K),.bool (densF K)] 220::e8 b1 [e7 K,e7 node,e7 lv,e7 tq,.slice sa S.length sc,e7 num,e7 den] 71::I) (λs=>(s=decide (bad4 nd K node S))) ?_ ?_
  ·refine A0 (Gf fld220_0 C (Gl ty4 ?_))
   refine Gm C (Ck (d:=16) C (λg16=>?_) (λg16=>?_))
   ·refine e9 (Ab fld71_1 C) (e9 (As ef) ?_)
    refine e9 (Bi C C) (e9 (Af C) (Bs (d:=20) C (λg20=>?_) (λg20=>?_)))
    ·exact eb (eb (eb (eb (e9 (Ap C C) (Gr (Ap C C) (Gm C (eb (eb (eb (ee (ee (ee (ee (ee (ee (ee (eb (Gr (Ap C C) (Ga C (Bf (Cp ((true)) (by unfold bad4;first|exact (decide_eq_true (by simp_all<;>omega)).symm|exact (decide_eq_false (by simp_all<;>omega)).symm|exact decide_eq_decide.2 (by simp_all<;>omega)))))))))))))))))))))))
    ·refine e9 (Ab fld71_1 C) (e9 (As ef) ?_)
     refine e9 (Af C) (e9 (Cu C C) (e9 (Al C C) (Gr (Ap C C) (Gm C (Bs (d:=27) C (λg27=>?_) (λg27=>?_))))))
     ·exact eb (eb (eb (ee (ee (ee (ee (ee (ee (ee (eb (Gr (Ap C C) (Ga C (Bf (Cp ((true)) (by unfold bad4;first|exact (decide_eq_true (by simp_all<;>omega)).symm|exact (decide_eq_false (by simp_all<;>omega)).symm|exact decide_eq_decide.2 (by simp_all<;>omega))))))))))))))))
     ·refine e9 (Ab fld220_1 C) (e9 (As ty4) ?_)
      refine e9 (Af C) (Ck (d:=30) C (λg30=>?_) (λg30=>?_))
      ·refine e9 (Ab fld71_0 C) (e9 (As ef) ?_)
       refine e9 (Ab fld71_4 C) (e9 (As ty22) ?_)
       refine e9 (Af C) (Et (Cz C C C) (Am call177 C C (QSetG_ok (K:=K) (n:=nd) (xs:=S) (Bj hs))) ?_)
       rintro _ _ ⟨_,_,⟨rfl,rfl⟩,rfl,rfl⟩
       exact e9 (D5 C) (e9 (Ap C C) (Gr (Al C C) (Ga C (Bf (Cp ((decide (¬(setOk K S nd)))) (by unfold bad4;first|exact (decide_eq_true (by simp_all<;>omega)).symm|exact (decide_eq_false (by simp_all<;>omega)).symm|exact decide_eq_decide.2 (by simp_all<;>omega)))))))
      ·exact eb (eb (eb (eb (eb (eb (eb (e9 (Al C C) (Gr (Al C C) (Ga C (Bf (Cp ((false)) (by unfold bad4;first|exact (decide_eq_true (by simp_all<;>omega)).symm|exact (decide_eq_false (by simp_all<;>omega)).symm|exact decide_eq_decide.2 (by simp_all<;>omega)))))))))))))
   ·refine eb (eb (eb (eb (ee (ee (ee (ee (eb (Gr (Al C C) (Gm C (e9 (Ab fld220_1 C) (e9 (As ty4) ?_))))))))))))
    refine e9 (Af C) (Ck (d:=30) C (λg30=>?_) (λg30=>?_))
    ·refine e9 (Ab fld71_0 C) (e9 (As ef) ?_)
     refine e9 (Ab fld71_4 C) (e9 (As ty22) ?_)
     refine e9 (Af C) (Et (Cz C C C) (Am call177 C C (QSetG_ok (K:=K) (n:=nd) (xs:=S) (Bj hs))) ?_)
     rintro _ _ ⟨_,_,⟨rfl,rfl⟩,rfl,rfl⟩
     exact e9 (D5 C) (e9 (Ap C C) (Gr (Al C C) (Ga C (Bf (Cp ((decide (¬(setOk K S nd)))) (by unfold bad4;first|exact (decide_eq_true (by simp_all<;>omega)).symm|exact (decide_eq_false (by simp_all<;>omega)).symm|exact decide_eq_decide.2 (by simp_all<;>omega)))))))
    ·exact eb (eb (eb (eb (eb (eb (eb (e9 (Al C C) (Gr (Al C C) (Ga C (Bf (Cp ((false)) (by unfold bad4;first|exact (decide_eq_true (by simp_all<;>omega)).symm|exact (decide_eq_false (by simp_all<;>omega)).symm|exact decide_eq_decide.2 (by simp_all<;>omega)))))))))))))
  ·rintro bq13 hp
   have hb13:(bq13=decide (bad4 nd K node S)):=hp
   refine Ez C (λc13=>?_) (λc13=>?_)
   ·refine Aj (Ga C (Ah (Az (A3 (Ar ?_)))))
    have c9:noneF K=false:=c9
    exact Ba C C I Ay ⟨congrArg (λn=>Value.int .i64 n) (by unfold checkQ;rw [if_neg (by simp [c9]),if_pos (of_decide_eq_true (hb13.symm.trans c13))]),rfl⟩
   ·refine Fe (σ:=Bool) (λs=>([(2,.pointer (some ⟨b1,0,none⟩)),(5,.pointer (some ⟨b2,0,none⟩)),(40,.bool s)]:Env)) (λs=>e8 b2 [.bool (nodeF K),.bool (setF K),.bool (levelF K),.bool (timeF K),.bool (densF K)] 220::e8 b1 [e7 K,e7 node,e7 lv,e7 tq,.slice sa S.length sc,e7 num,e7 den] 71::I) (λs=>(s=decide (bad6 K tq))) ?_ ?_
    ·refine A0 (Gf fld220_3 C (Gl ty4 ?_))
     refine Gm C (Ck (d:=43) C (λg43=>?_) (λg43=>?_))
     ·refine e9 (Ab fld71_3 C) (e9 (As ef) ?_)
      refine e9 (Bi C C) (e9 (Af C) (Bs (d:=47) C (λg47=>?_) (λg47=>?_)))
      ·exact eb (eb (eb (e9 (Ap C C) (Gr (Ap C C) (Ga C (Bf (Cp ((true)) (by unfold bad6;first|exact (decide_eq_true (by simp_all<;>omega)).symm|exact (decide_eq_false (by simp_all<;>omega)).symm|exact decide_eq_decide.2 (by simp_all<;>omega)))))))))
      ·refine e9 (Ab fld71_3 C) (e9 (As ef) ?_)
       exact e9 (Ci C C) (e9 (Al C C) (Gr (Ap C C) (Ga C (Bf (Cp ((decide (1048576<tq))) (by unfold bad6;first|exact (decide_eq_true (by simp_all<;>omega)).symm|exact (decide_eq_false (by simp_all<;>omega)).symm|exact decide_eq_decide.2 (by simp_all<;>omega)))))))
     ·exact eb (eb (eb (eb (ee (ee (ee (eb (Gr (Al C C) (Ga C (Bf (Cp ((false)) (by unfold bad6;first|exact (decide_eq_true (by simp_all<;>omega)).symm|exact (decide_eq_false (by simp_all<;>omega)).symm|exact decide_eq_decide.2 (by simp_all<;>omega)))))))))))))
    ·rintro bq40 hp
     have hb40:(bq40=decide (bad6 K tq)):=hp
     refine Ez C (λc40=>?_) (λc40=>?_)
     ·refine Aj (Ga C (Ah (Az (A3 (Ar ?_)))))
      have c9:noneF K=false:=c9
      exact Ba C C I Ay ⟨congrArg (λn=>Value.int .i64 n) (by unfold checkQ;rw [if_neg (by simp [c9]),if_neg (of_decide_eq_false (hb13.symm.trans c13)),if_pos (of_decide_eq_true (hb40.symm.trans c40))]),rfl⟩
     ·refine Fe (σ:=Bool) (λs=>([(2,.pointer (some ⟨b1,0,none⟩)),(5,.pointer (some ⟨b2,0,none⟩)),(53,.bool s)]:Env)) (λs=>e8 b2 [.bool (nodeF K),.bool (setF K),.bool (levelF K),.bool (timeF K),.bool (densF K)] 220::e8 b1 [e7 K,e7 node,e7 lv,e7 tq,.slice sa S.length sc,e7 num,e7 den] 71::I) (λs=>(s=decide (bad8 K lv))) ?_ ?_
      ·refine A0 (Gf fld220_2 C (Gl ty4 ?_))
       refine Gm C (Ck (d:=56) C (λg56=>?_) (λg56=>?_))
       ·refine e9 (Ab fld71_2 C) (e9 (As ef) ?_)
        refine e9 (Bi C C) (e9 (Af C) (Bs (d:=60) C (λg60=>?_) (λg60=>?_)))
        ·exact eb (eb (eb (e9 (Ap C C) (Gr (Ap C C) (Gm C (eb (eb (eb (ee (ee (ee (ee (ee (ee (ee (ee (ee (ee (eb (Gr (Ap C C) (Ga C (Bf (Cp ((true)) (by unfold bad8;first|exact (decide_eq_true (by simp_all<;>omega)).symm|exact (decide_eq_false (by simp_all<;>omega)).symm|exact decide_eq_decide.2 (by simp_all<;>omega)))))))))))))))))))))))))
        ·refine e9 (Ab fld71_2 C) (e9 (As ef) ?_)
         refine e9 (Ci C C) (e9 (Al C C) (Gr (Ap C C) (Gm C (Bs (d:=66) C (λg66=>?_) (λg66=>?_)))))
         ·exact eb (eb (eb (ee (ee (ee (ee (ee (ee (ee (ee (ee (ee (eb (Gr (Ap C C) (Ga C (Bf (Cp ((true)) (by unfold bad8;first|exact (decide_eq_true (by simp_all<;>omega)).symm|exact (decide_eq_false (by simp_all<;>omega)).symm|exact decide_eq_decide.2 (by simp_all<;>omega)))))))))))))))))))
         ·refine e9 (Ab fld220_4 C) (e9 (As ty4) ?_)
          refine e9 (Af C) (Ck (d:=69) C (λg69=>?_) (λg69=>?_))
          ·refine e9 (Ab fld71_5 C) (e9 (Be (vs:=[_,_]) ty40) ?_)
           refine Et (Cz C C C) (Am call89 C C (RatValid_ok (⟨num,den⟩:Fr) (hf asm))) ?_
           rintro _ _ ⟨_,_,⟨rfl,rfl⟩,rfl,rfl⟩
           refine e9 (B8 C) (e9 (Af C) (e9 (Ab fld71_5 C) (e9 (Ab fld40_0 C) (e9 (As ef) ?_))))
           exact e9 (Bi C C) (e9 (Al C C) (e9 (Ap C C) (Gr (Al C C) (Ga C (Bf (Cp ((decide (num<0))) (by unfold bad8;first|exact (decide_eq_true (by simp_all<;>omega)).symm|exact (decide_eq_false (by simp_all<;>omega)).symm|exact decide_eq_decide.2 (by simp_all<;>omega))))))))
          ·exact eb (eb (eb (eb (eb (ee (ee (ee (ee (eb (e9 (Al C C) (Gr (Al C C) (Ga C (Bf (Cp ((false)) (by unfold bad8;first|exact (decide_eq_true (by simp_all<;>omega)).symm|exact (decide_eq_false (by simp_all<;>omega)).symm|exact decide_eq_decide.2 (by simp_all<;>omega))))))))))))))))
       ·refine eb (eb (eb (eb (ee (ee (ee (eb (Gr (Al C C) (Gm C (e9 (Ab fld220_4 C) (e9 (As ty4) ?_)))))))))))
        refine e9 (Af C) (Ck (d:=69) C (λg69=>?_) (λg69=>?_))
        ·refine e9 (Ab fld71_5 C) (e9 (Be (vs:=[_,_]) ty40) ?_)
         refine Et (Cz C C C) (Am call89 C C (RatValid_ok (⟨num,den⟩:Fr) (hf asm))) ?_
         rintro _ _ ⟨_,_,⟨rfl,rfl⟩,rfl,rfl⟩
         refine e9 (B8 C) (e9 (Af C) (e9 (Ab fld71_5 C) (e9 (Ab fld40_0 C) (e9 (As ef) ?_))))
         exact e9 (Bi C C) (e9 (Al C C) (e9 (Ap C C) (Gr (Al C C) (Ga C (Bf (Cp ((decide (num<0))) (by unfold bad8;first|exact (decide_eq_true (by simp_all<;>omega)).symm|exact (decide_eq_false (by simp_all<;>omega)).symm|exact decide_eq_decide.2 (by simp_all<;>omega))))))))
        ·exact eb (eb (eb (eb (eb (ee (ee (ee (ee (eb (e9 (Al C C) (Gr (Al C C) (Ga C (Bf (Cp ((false)) (by unfold bad8;first|exact (decide_eq_true (by simp_all<;>omega)).symm|exact (decide_eq_false (by simp_all<;>omega)).symm|exact decide_eq_decide.2 (by simp_all<;>omega))))))))))))))))
      ·rintro bq53 hp
       have hb53:(bq53=decide (bad8 K lv)):=hp
       refine Ez C (λc53=>?_) (λc53=>?_)
       ·refine Aj (Ga C (Ah (Az (A3 (Ar ?_)))))
        have c9:noneF K=false:=c9
        exact Ba C C I Ay ⟨congrArg (λn=>Value.int .i64 n) (by unfold checkQ;rw [if_neg (by simp [c9]),if_neg (of_decide_eq_false (hb13.symm.trans c13)),if_neg (of_decide_eq_false (hb40.symm.trans c40)),if_pos (of_decide_eq_true (hb53.symm.trans c53))]),rfl⟩
       ·refine Fe (σ:=Bool) (λs=>([(82,.bool s)]:Env)) (λs=>e8 b2 [.bool (nodeF K),.bool (setF K),.bool (levelF K),.bool (timeF K),.bool (densF K)] 220::e8 b1 [e7 K,e7 node,e7 lv,e7 tq,.slice sa S.length sc,e7 num,e7 den] 71::I) (λs=>(s=decide (bad10 K node lv tq S num den))) ?_ ?_
        ·refine A0 (Gf fld220_0 C (Gl ty4 ?_))
         refine Gr (B8 C) (Gm C (Ck (d:=86) C (λg86=>?_) (λg86=>?_)))
         ·refine e9 (Ab fld71_1 C) (e9 (As ef) ?_)
          refine e9 (Bx C C) (Gr (Ap C C) (Gm C (Bs (d:=91) C (λg91=>?_) (λg91=>?_))))
          ·exact eb (eb (eb (eb (ee (ee (ee (ee (eb (Gr (Ap C C) (Gm C (eb (eb (eb (eb (ee (ee (ee (eb (Gr (Ap C C) (Gm C (eb (eb (eb (eb (ee (ee (ee (eb (Gr (Ap C C) (Gm C (eb (eb (eb (eb (ee (ee (ee (ee (eb (Gr (Ap C C) (Ga C (Bf (Cp ((true)) (by unfold bad10;first|exact (decide_eq_true (by simp_all<;>omega)).symm|exact (decide_eq_false (by simp_all<;>omega)).symm|exact decide_eq_decide.2 (by simp_all<;>omega)))))))))))))))))))))))))))))))))))))))))))))
          ·refine e9 (Ab fld220_1 C) (e9 (As ty4) ?_)
           refine e9 (B8 C) (e9 (Af C) (Ck (d:=95) C (λg95=>?_) (λg95=>?_)))
           ·refine e9 (Ab fld71_4 C) (e9 (As ty22) ?_)
            refine e9 (Bz Ad C) (e9 (Ci C C) (e9 (Ap C C) (Gr (Al C C) (Gm C (Bs (d:=102) C (λg102=>?_) (λg102=>?_))))))
            ·exact eb (eb (eb (eb (ee (ee (ee (eb (Gr (Ap C C) (Gm C (eb (eb (eb (eb (ee (ee (ee (eb (Gr (Ap C C) (Gm C (eb (eb (eb (eb (ee (ee (ee (ee (eb (Gr (Ap C C) (Ga C (Bf (Cp ((true)) (by unfold bad10;first|exact (decide_eq_true (by simp_all<;>omega)).symm|exact (decide_eq_false (by simp_all<;>omega)).symm|exact decide_eq_decide.2 (by simp_all<;>omega))))))))))))))))))))))))))))))))))
            ·refine e9 (Ab fld220_3 C) (e9 (As ty4) ?_)
             refine e9 (B8 C) (e9 (Af C) (Ck (d:=106) C (λg106=>?_) (λg106=>?_)))
             ·refine e9 (Ab fld71_3 C) (e9 (As ef) ?_)
              refine e9 (Bx C C) (e9 (Ap C C) (Gr (Al C C) (Gm C (Bs (d:=112) C (λg112=>?_) (λg112=>?_)))))
              ·exact eb (eb (eb (eb (ee (ee (ee (eb (Gr (Ap C C) (Gm C (eb (eb (eb (eb (ee (ee (ee (ee (eb (Gr (Ap C C) (Ga C (Bf (Cp ((true)) (by unfold bad10;first|exact (decide_eq_true (by simp_all<;>omega)).symm|exact (decide_eq_false (by simp_all<;>omega)).symm|exact decide_eq_decide.2 (by simp_all<;>omega))))))))))))))))))))))))
              ·refine e9 (Ab fld220_2 C) (e9 (As ty4) ?_)
               refine e9 (B8 C) (e9 (Af C) (Ck (d:=116) C (λg116=>?_) (λg116=>?_)))
               ·refine e9 (Ab fld71_2 C) (e9 (As ef) ?_)
                refine e9 (Bx C C) (e9 (Ap C C) (Gr (Al C C) (Gm C (Bs (d:=122) C (λg122=>?_) (λg122=>?_)))))
                ·exact eb (eb (eb (eb (ee (ee (ee (ee (eb (Gr (Ap C C) (Ga C (Bf (Cp ((true)) (by unfold bad10;first|exact (decide_eq_true (by simp_all<;>omega)).symm|exact (decide_eq_false (by simp_all<;>omega)).symm|exact decide_eq_decide.2 (by simp_all<;>omega))))))))))))))
                ·refine e9 (Ab fld220_4 C) (e9 (As ty4) ?_)
                 refine e9 (B8 C) (e9 (Af C) (Ck (d:=126) C (λg126=>?_) (λg126=>?_)))
                 ·refine e9 (Ab fld71_5 C) (e9 (Be (vs:=[_,_]) ty40) ?_)
                  exact e9 (Bc (cells:=[_,_]) ty40 B0 pl40 C C) (e9 (Ds (α:=Fr) (a:=(⟨num,den⟩:Fr)) (b:=(⟨0,0⟩:Fr)) eqt40 C C) (e9 (Ap C C) (Gr (Al C C) (Ga C (Bf (Cp ((decide ((⟨num,den⟩:Fr)≠(⟨0,0⟩:Fr)))) (by unfold bad10;first|exact (decide_eq_true (by simp_all<;>omega)).symm|exact (decide_eq_false (by simp_all<;>omega)).symm|exact decide_eq_decide.2 (by simp_all<;>omega))))))))
                 ·exact eb (eb (eb (eb (e9 (Al C C) (Gr (Al C C) (Ga C (Bf (Cp ((false)) (by unfold bad10;first|exact (decide_eq_true (by simp_all<;>omega)).symm|exact (decide_eq_false (by simp_all<;>omega)).symm|exact decide_eq_decide.2 (by simp_all<;>omega))))))))))
               ·refine eb (eb (eb (e9 (Al C C) (Gr (Al C C) (Gm C (e9 (Ab fld220_4 C) (e9 (As ty4) ?_)))))))
                refine e9 (B8 C) (e9 (Af C) (Ck (d:=126) C (λg126=>?_) (λg126=>?_)))
                ·refine e9 (Ab fld71_5 C) (e9 (Be (vs:=[_,_]) ty40) ?_)
                 exact e9 (Bc (cells:=[_,_]) ty40 B0 pl40 C C) (e9 (Ds (α:=Fr) (a:=(⟨num,den⟩:Fr)) (b:=(⟨0,0⟩:Fr)) eqt40 C C) (e9 (Ap C C) (Gr (Al C C) (Ga C (Bf (Cp ((decide ((⟨num,den⟩:Fr)≠(⟨0,0⟩:Fr)))) (by unfold bad10;first|exact (decide_eq_true (by simp_all<;>omega)).symm|exact (decide_eq_false (by simp_all<;>omega)).symm|exact decide_eq_decide.2 (by simp_all<;>omega))))))))
                ·exact eb (eb (eb (eb (e9 (Al C C) (Gr (Al C C) (Ga C (Bf (Cp ((false)) (by unfold bad10;first|exact (decide_eq_true (by simp_all<;>omega)).symm|exact (decide_eq_false (by simp_all<;>omega)).symm|exact decide_eq_decide.2 (by simp_all<;>omega))))))))))
             ·refine eb (eb (eb (e9 (Al C C) (Gr (Al C C) (Gm C (e9 (Ab fld220_2 C) (e9 (As ty4) ?_)))))))
              refine e9 (B8 C) (e9 (Af C) (Ck (d:=116) C (λg116=>?_) (λg116=>?_)))
              ·refine e9 (Ab fld71_2 C) (e9 (As ef) ?_)
               refine e9 (Bx C C) (e9 (Ap C C) (Gr (Al C C) (Gm C (Bs (d:=122) C (λg122=>?_) (λg122=>?_)))))
               ·exact eb (eb (eb (eb (ee (ee (ee (ee (eb (Gr (Ap C C) (Ga C (Bf (Cp ((true)) (by unfold bad10;first|exact (decide_eq_true (by simp_all<;>omega)).symm|exact (decide_eq_false (by simp_all<;>omega)).symm|exact decide_eq_decide.2 (by simp_all<;>omega))))))))))))))
               ·refine e9 (Ab fld220_4 C) (e9 (As ty4) ?_)
                refine e9 (B8 C) (e9 (Af C) (Ck (d:=126) C (λg126=>?_) (λg126=>?_)))
                ·refine e9 (Ab fld71_5 C) (e9 (Be (vs:=[_,_]) ty40) ?_)
                 exact e9 (Bc (cells:=[_,_]) ty40 B0 pl40 C C) (e9 (Ds (α:=Fr) (a:=(⟨num,den⟩:Fr)) (b:=(⟨0,0⟩:Fr)) eqt40 C C) (e9 (Ap C C) (Gr (Al C C) (Ga C (Bf (Cp ((decide ((⟨num,den⟩:Fr)≠(⟨0,0⟩:Fr)))) (by unfold bad10;first|exact (decide_eq_true (by simp_all<;>omega)).symm|exact (decide_eq_false (by simp_all<;>omega)).symm|exact decide_eq_decide.2 (by simp_all<;>omega))))))))
                ·exact eb (eb (eb (eb (e9 (Al C C) (Gr (Al C C) (Ga C (Bf (Cp ((false)) (by unfold bad10;first|exact (decide_eq_true (by simp_all<;>omega)).symm|exact (decide_eq_false (by simp_all<;>omega)).symm|exact decide_eq_decide.2 (by simp_all<;>omega))))))))))
              ·refine eb (eb (eb (e9 (Al C C) (Gr (Al C C) (Gm C (e9 (Ab fld220_4 C) (e9 (As ty4) ?_)))))))
               refine e9 (B8 C) (e9 (Af C) (Ck (d:=126) C (λg126=>?_) (λg126=>?_)))
               ·refine e9 (Ab fld71_5 C) (e9 (Be (vs:=[_,_]) ty40) ?_)
                exact e9 (Bc (cells:=[_,_]) ty40 B0 pl40 C C) (e9 (Ds (α:=Fr) (a:=(⟨num,den⟩:Fr)) (b:=(⟨0,0⟩:Fr)) eqt40 C C) (e9 (Ap C C) (Gr (Al C C) (Ga C (Bf (Cp ((decide ((⟨num,den⟩:Fr)≠(⟨0,0⟩:Fr)))) (by unfold bad10;first|exact (decide_eq_true (by simp_all<;>omega)).symm|exact (decide_eq_false (by simp_all<;>omega)).symm|exact decide_eq_decide.2 (by simp_all<;>omega))))))))
               ·exact eb (eb (eb (eb (e9 (Al C C) (Gr (Al C C) (Ga C (Bf (Cp ((false)) (by unfold bad10;first|exact (decide_eq_true (by simp_all<;>omega)).symm|exact (decide_eq_false (by simp_all<;>omega)).symm|exact decide_eq_decide.2 (by simp_all<;>omega))))))))))
           ·refine eb (eb (eb (eb (e9 (Al C C) (Gr (Al C C) (Gm C (e9 (Ab fld220_3 C) (e9 (As ty4) ?_))))))))
            refine e9 (B8 C) (e9 (Af C) (Ck (d:=106) C (λg106=>?_) (λg106=>?_)))
            ·refine e9 (Ab fld71_3 C) (e9 (As ef) ?_)
             refine e9 (Bx C C) (e9 (Ap C C) (Gr (Al C C) (Gm C (Bs (d:=112) C (λg112=>?_) (λg112=>?_)))))
             ·exact eb (eb (eb (eb (ee (ee (ee (eb (Gr (Ap C C) (Gm C (eb (eb (eb (eb (ee (ee (ee (ee (eb (Gr (Ap C C) (Ga C (Bf (Cp ((true)) (by unfold bad10;first|exact (decide_eq_true (by simp_all<;>omega)).symm|exact (decide_eq_false (by simp_all<;>omega)).symm|exact decide_eq_decide.2 (by simp_all<;>omega))))))))))))))))))))))))
             ·refine e9 (Ab fld220_2 C) (e9 (As ty4) ?_)
              refine e9 (B8 C) (e9 (Af C) (Ck (d:=116) C (λg116=>?_) (λg116=>?_)))
              ·refine e9 (Ab fld71_2 C) (e9 (As ef) ?_)
               refine e9 (Bx C C) (e9 (Ap C C) (Gr (Al C C) (Gm C (Bs (d:=122) C (λg122=>?_) (λg122=>?_)))))
               ·exact eb (eb (eb (eb (ee (ee (ee (ee (eb (Gr (Ap C C) (Ga C (Bf (Cp ((true)) (by unfold bad10;first|exact (decide_eq_true (by simp_all<;>omega)).symm|exact (decide_eq_false (by simp_all<;>omega)).symm|exact decide_eq_decide.2 (by simp_all<;>omega))))))))))))))
               ·refine e9 (Ab fld220_4 C) (e9 (As ty4) ?_)
                refine e9 (B8 C) (e9 (Af C) (Ck (d:=126) C (λg126=>?_) (λg126=>?_)))
                ·refine e9 (Ab fld71_5 C) (e9 (Be (vs:=[_,_]) ty40) ?_)
                 exact e9 (Bc (cells:=[_,_]) ty40 B0 pl40 C C) (e9 (Ds (α:=Fr) (a:=(⟨num,den⟩:Fr)) (b:=(⟨0,0⟩:Fr)) eqt40 C C) (e9 (Ap C C) (Gr (Al C C) (Ga C (Bf (Cp ((decide ((⟨num,den⟩:Fr)≠(⟨0,0⟩:Fr)))) (by unfold bad10;first|exact (decide_eq_true (by simp_all<;>omega)).symm|exact (decide_eq_false (by simp_all<;>omega)).symm|exact decide_eq_decide.2 (by simp_all<;>omega))))))))
                ·exact eb (eb (eb (eb (e9 (Al C C) (Gr (Al C C) (Ga C (Bf (Cp ((false)) (by unfold bad10;first|exact (decide_eq_true (by simp_all<;>omega)).symm|exact (decide_eq_false (by simp_all<;>omega)).symm|exact decide_eq_decide.2 (by simp_all<;>omega))))))))))
              ·refine eb (eb (eb (e9 (Al C C) (Gr (Al C C) (Gm C (e9 (Ab fld220_4 C) (e9 (As ty4) ?_)))))))
               refine e9 (B8 C) (e9 (Af C) (Ck (d:=126) C (λg126=>?_) (λg126=>?_)))
               ·refine e9 (Ab fld71_5 C) (e9 (Be (vs:=[_,_]) ty40) ?_)
                exact e9 (Bc (cells:=[_,_]) ty40 B0 pl40 C C) (e9 (Ds (α:=Fr) (a:=(⟨num,den⟩:Fr)) (b:=(⟨0,0⟩:Fr)) eqt40 C C) (e9 (Ap C C) (Gr (Al C C) (Ga C (Bf (Cp ((decide ((⟨num,den⟩:Fr)≠(⟨0,0⟩:Fr)))) (by unfold bad10;first|exact (decide_eq_true (by simp_all<;>omega)).symm|exact (decide_eq_false (by simp_all<;>omega)).symm|exact decide_eq_decide.2 (by simp_all<;>omega))))))))
               ·exact eb (eb (eb (eb (e9 (Al C C) (Gr (Al C C) (Ga C (Bf (Cp ((false)) (by unfold bad10;first|exact (decide_eq_true (by simp_all<;>omega)).symm|exact (decide_eq_false (by simp_all<;>omega)).symm|exact decide_eq_decide.2 (by simp_all<;>omega))))))))))
            ·refine eb (eb (eb (e9 (Al C C) (Gr (Al C C) (Gm C (e9 (Ab fld220_2 C) (e9 (As ty4) ?_)))))))
             refine e9 (B8 C) (e9 (Af C) (Ck (d:=116) C (λg116=>?_) (λg116=>?_)))
             ·refine e9 (Ab fld71_2 C) (e9 (As ef) ?_)
              refine e9 (Bx C C) (e9 (Ap C C) (Gr (Al C C) (Gm C (Bs (d:=122) C (λg122=>?_) (λg122=>?_)))))
              ·exact eb (eb (eb (eb (ee (ee (ee (ee (eb (Gr (Ap C C) (Ga C (Bf (Cp ((true)) (by unfold bad10;first|exact (decide_eq_true (by simp_all<;>omega)).symm|exact (decide_eq_false (by simp_all<;>omega)).symm|exact decide_eq_decide.2 (by simp_all<;>omega))))))))))))))
              ·refine e9 (Ab fld220_4 C) (e9 (As ty4) ?_)
               refine e9 (B8 C) (e9 (Af C) (Ck (d:=126) C (λg126=>?_) (λg126=>?_)))
               ·refine e9 (Ab fld71_5 C) (e9 (Be (vs:=[_,_]) ty40) ?_)
                exact e9 (Bc (cells:=[_,_]) ty40 B0 pl40 C C) (e9 (Ds (α:=Fr) (a:=(⟨num,den⟩:Fr)) (b:=(⟨0,0⟩:Fr)) eqt40 C C) (e9 (Ap C C) (Gr (Al C C) (Ga C (Bf (Cp ((decide ((⟨num,den⟩:Fr)≠(⟨0,0⟩:Fr)))) (by unfold bad10;first|exact (decide_eq_true (by simp_all<;>omega)).symm|exact (decide_eq_false (by simp_all<;>omega)).symm|exact decide_eq_decide.2 (by simp_all<;>omega))))))))
               ·exact eb (eb (eb (eb (e9 (Al C C) (Gr (Al C C) (Ga C (Bf (Cp ((false)) (by unfold bad10;first|exact (decide_eq_true (by simp_all<;>omega)).symm|exact (decide_eq_false (by simp_all<;>omega)).symm|exact decide_eq_decide.2 (by simp_all<;>omega))))))))))
             ·refine eb (eb (eb (e9 (Al C C) (Gr (Al C C) (Gm C (e9 (Ab fld220_4 C) (e9 (As ty4) ?_)))))))
              refine e9 (B8 C) (e9 (Af C) (Ck (d:=126) C (λg126=>?_) (λg126=>?_)))
              ·refine e9 (Ab fld71_5 C) (e9 (Be (vs:=[_,_]) ty40) ?_)
               exact e9 (Bc (cells:=[_,_]) ty40 B0 pl40 C C) (e9 (Ds (α:=Fr) (a:=(⟨num,den⟩:Fr)) (b:=(⟨0,0⟩:Fr)) eqt40 C C) (e9 (Ap C C) (Gr (Al C C) (Ga C (Bf (Cp ((decide ((⟨num,den⟩:Fr)≠(⟨0,0⟩:Fr)))) (by unfold bad10;first|exact (decide_eq_true (by simp_all<;>omega)).symm|exact (decide_eq_false (by simp_all<;>omega)).symm|exact decide_eq_decide.2 (by simp_all<;>omega))))))))
              ·exact eb (eb (eb (eb (e9 (Al C C) (Gr (Al C C) (Ga C (Bf (Cp ((false)) (by unfold bad10;first|exact (decide_eq_true (by simp_all<;>omega)).symm|exact (decide_eq_false (by simp_all<;>omega)).symm|exact decide_eq_decide.2 (by simp_all<;>omega))))))))))
         ·refine eb (eb (eb (Gr (Al C C) (Gm C (e9 (Ab fld220_1 C) (e9 (As ty4) ?_))))))
          refine e9 (B8 C) (e9 (Af C) (Ck (d:=95) C (λg95=>?_) (λg95=>?_)))
          ·refine e9 (Ab fld71_4 C) (e9 (As ty22) ?_)
           refine e9 (Bz Ad C) (e9 (Ci C C) (e9 (Ap C C) (Gr (Al C C) (Gm C (Bs (d:=102) C (λg102=>?_) (λg102=>?_))))))
           ·exact eb (eb (eb (eb (ee (ee (ee (eb (Gr (Ap C C) (Gm C (eb (eb (eb (eb (ee (ee (ee (eb (Gr (Ap C C) (Gm C (eb (eb (eb (eb (ee (ee (ee (ee (eb (Gr (Ap C C) (Ga C (Bf (Cp ((true)) (by unfold bad10;first|exact (decide_eq_true (by simp_all<;>omega)).symm|exact (decide_eq_false (by simp_all<;>omega)).symm|exact decide_eq_decide.2 (by simp_all<;>omega))))))))))))))))))))))))))))))))))
           ·refine e9 (Ab fld220_3 C) (e9 (As ty4) ?_)
            refine e9 (B8 C) (e9 (Af C) (Ck (d:=106) C (λg106=>?_) (λg106=>?_)))
            ·refine e9 (Ab fld71_3 C) (e9 (As ef) ?_)
             refine e9 (Bx C C) (e9 (Ap C C) (Gr (Al C C) (Gm C (Bs (d:=112) C (λg112=>?_) (λg112=>?_)))))
             ·exact eb (eb (eb (eb (ee (ee (ee (eb (Gr (Ap C C) (Gm C (eb (eb (eb (eb (ee (ee (ee (ee (eb (Gr (Ap C C) (Ga C (Bf (Cp ((true)) (by unfold bad10;first|exact (decide_eq_true (by simp_all<;>omega)).symm|exact (decide_eq_false (by simp_all<;>omega)).symm|exact decide_eq_decide.2 (by simp_all<;>omega))))))))))))))))))))))))
             ·refine e9 (Ab fld220_2 C) (e9 (As ty4) ?_)
              refine e9 (B8 C) (e9 (Af C) (Ck (d:=116) C (λg116=>?_) (λg116=>?_)))
              ·refine e9 (Ab fld71_2 C) (e9 (As ef) ?_)
               refine e9 (Bx C C) (e9 (Ap C C) (Gr (Al C C) (Gm C (Bs (d:=122) C (λg122=>?_) (λg122=>?_)))))
               ·exact eb (eb (eb (eb (ee (ee (ee (ee (eb (Gr (Ap C C) (Ga C (Bf (Cp ((true)) (by unfold bad10;first|exact (decide_eq_true (by simp_all<;>omega)).symm|exact (decide_eq_false (by simp_all<;>omega)).symm|exact decide_eq_decide.2 (by simp_all<;>omega))))))))))))))
               ·refine e9 (Ab fld220_4 C) (e9 (As ty4) ?_)
                refine e9 (B8 C) (e9 (Af C) (Ck (d:=126) C (λg126=>?_) (λg126=>?_)))
                ·refine e9 (Ab fld71_5 C) (e9 (Be (vs:=[_,_]) ty40) ?_)
                 exact e9 (Bc (cells:=[_,_]) ty40 B0 pl40 C C) (e9 (Ds (α:=Fr) (a:=(⟨num,den⟩:Fr)) (b:=(⟨0,0⟩:Fr)) eqt40 C C) (e9 (Ap C C) (Gr (Al C C) (Ga C (Bf (Cp ((decide ((⟨num,den⟩:Fr)≠(⟨0,0⟩:Fr)))) (by unfold bad10;first|exact (decide_eq_true (by simp_all<;>omega)).symm|exact (decide_eq_false (by simp_all<;>omega)).symm|exact decide_eq_decide.2 (by simp_all<;>omega))))))))
                ·exact eb (eb (eb (eb (e9 (Al C C) (Gr (Al C C) (Ga C (Bf (Cp ((false)) (by unfold bad10;first|exact (decide_eq_true (by simp_all<;>omega)).symm|exact (decide_eq_false (by simp_all<;>omega)).symm|exact decide_eq_decide.2 (by simp_all<;>omega))))))))))
              ·refine eb (eb (eb (e9 (Al C C) (Gr (Al C C) (Gm C (e9 (Ab fld220_4 C) (e9 (As ty4) ?_)))))))
               refine e9 (B8 C) (e9 (Af C) (Ck (d:=126) C (λg126=>?_) (λg126=>?_)))
               ·refine e9 (Ab fld71_5 C) (e9 (Be (vs:=[_,_]) ty40) ?_)
                exact e9 (Bc (cells:=[_,_]) ty40 B0 pl40 C C) (e9 (Ds (α:=Fr) (a:=(⟨num,den⟩:Fr)) (b:=(⟨0,0⟩:Fr)) eqt40 C C) (e9 (Ap C C) (Gr (Al C C) (Ga C (Bf (Cp ((decide ((⟨num,den⟩:Fr)≠(⟨0,0⟩:Fr)))) (by unfold bad10;first|exact (decide_eq_true (by simp_all<;>omega)).symm|exact (decide_eq_false (by simp_all<;>omega)).symm|exact decide_eq_decide.2 (by simp_all<;>omega))))))))
               ·exact eb (eb (eb (eb (e9 (Al C C) (Gr (Al C C) (Ga C (Bf (Cp ((false)) (by unfold bad10;first|exact (decide_eq_true (by simp_all<;>omega)).symm|exact (decide_eq_false (by simp_all<;>omega)).symm|exact decide_eq_decide.2 (by simp_all<;>omega))))))))))
            ·refine eb (eb (eb (e9 (Al C C) (Gr (Al C C) (Gm C (e9 (Ab fld220_2 C) (e9 (As ty4) ?_)))))))
             refine e9 (B8 C) (e9 (Af C) (Ck (d:=116) C (λg116=>?_) (λg116=>?_)))
             ·refine e9 (Ab fld71_2 C) (e9 (As ef) ?_)
              refine e9 (Bx C C) (e9 (Ap C C) (Gr (Al C C) (Gm C (Bs (d:=122) C (λg122=>?_) (λg122=>?_)))))
              ·exact eb (eb (eb (eb (ee (ee (ee (ee (eb (Gr (Ap C C) (Ga C (Bf (Cp ((true)) (by unfold bad10;first|exact (decide_eq_true (by simp_all<;>omega)).symm|exact (decide_eq_false (by simp_all<;>omega)).symm|exact decide_eq_decide.2 (by simp_all<;>omega))))))))))))))
              ·refine e9 (Ab fld220_4 C) (e9 (As ty4) ?_)
               refine e9 (B8 C) (e9 (Af C) (Ck (d:=126) C (λg126=>?_) (λg126=>?_)))
               ·refine e9 (Ab fld71_5 C) (e9 (Be (vs:=[_,_]) ty40) ?_)
                exact e9 (Bc (cells:=[_,_]) ty40 B0 pl40 C C) (e9 (Ds (α:=Fr) (a:=(⟨num,den⟩:Fr)) (b:=(⟨0,0⟩:Fr)) eqt40 C C) (e9 (Ap C C) (Gr (Al C C) (Ga C (Bf (Cp ((decide ((⟨num,den⟩:Fr)≠(⟨0,0⟩:Fr)))) (by unfold bad10;first|exact (decide_eq_true (by simp_all<;>omega)).symm|exact (decide_eq_false (by simp_all<;>omega)).symm|exact decide_eq_decide.2 (by simp_all<;>omega))))))))
               ·exact eb (eb (eb (eb (e9 (Al C C) (Gr (Al C C) (Ga C (Bf (Cp ((false)) (by unfold bad10;first|exact (decide_eq_true (by simp_all<;>omega)).symm|exact (decide_eq_false (by simp_all<;>omega)).symm|exact decide_eq_decide.2 (by simp_all<;>omega))))))))))
             ·refine eb (eb (eb (e9 (Al C C) (Gr (Al C C) (Gm C (e9 (Ab fld220_4 C) (e9 (As ty4) ?_)))))))
              refine e9 (B8 C) (e9 (Af C) (Ck (d:=126) C (λg126=>?_) (λg126=>?_)))
              ·refine e9 (Ab fld71_5 C) (e9 (Be (vs:=[_,_]) ty40) ?_)
               exact e9 (Bc (cells:=[_,_]) ty40 B0 pl40 C C) (e9 (Ds (α:=Fr) (a:=(⟨num,den⟩:Fr)) (b:=(⟨0,0⟩:Fr)) eqt40 C C) (e9 (Ap C C) (Gr (Al C C) (Ga C (Bf (Cp ((decide ((⟨num,den⟩:Fr)≠(⟨0,0⟩:Fr)))) (by unfold bad10;first|exact (decide_eq_true (by simp_all<;>omega)).symm|exact (decide_eq_false (by simp_all<;>omega)).symm|exact decide_eq_decide.2 (by simp_all<;>omega))))))))
              ·exact eb (eb (eb (eb (e9 (Al C C) (Gr (Al C C) (Ga C (Bf (Cp ((false)) (by unfold bad10;first|exact (decide_eq_true (by simp_all<;>omega)).symm|exact (decide_eq_false (by simp_all<;>omega)).symm|exact decide_eq_decide.2 (by simp_all<;>omega))))))))))
          ·refine eb (eb (eb (eb (e9 (Al C C) (Gr (Al C C) (Gm C (e9 (Ab fld220_3 C) (e9 (As ty4) ?_))))))))
           refine e9 (B8 C) (e9 (Af C) (Ck (d:=106) C (λg106=>?_) (λg106=>?_)))
           ·refine e9 (Ab fld71_3 C) (e9 (As ef) ?_)
            refine e9 (Bx C C) (e9 (Ap C C) (Gr (Al C C) (Gm C (Bs (d:=112) C (λg112=>?_) (λg112=>?_)))))
            ·exact eb (eb (eb (eb (ee (ee (ee (eb (Gr (Ap C C) (Gm C (eb (eb (eb (eb (ee (ee (ee (ee (eb (Gr (Ap C C) (Ga C (Bf (Cp ((true)) (by unfold bad10;first|exact (decide_eq_true (by simp_all<;>omega)).symm|exact (decide_eq_false (by simp_all<;>omega)).symm|exact decide_eq_decide.2 (by simp_all<;>omega))))))))))))))))))))))))
            ·refine e9 (Ab fld220_2 C) (e9 (As ty4) ?_)
             refine e9 (B8 C) (e9 (Af C) (Ck (d:=116) C (λg116=>?_) (λg116=>?_)))
             ·refine e9 (Ab fld71_2 C) (e9 (As ef) ?_)
              refine e9 (Bx C C) (e9 (Ap C C) (Gr (Al C C) (Gm C (Bs (d:=122) C (λg122=>?_) (λg122=>?_)))))
              ·exact eb (eb (eb (eb (ee (ee (ee (ee (eb (Gr (Ap C C) (Ga C (Bf (Cp ((true)) (by unfold bad10;first|exact (decide_eq_true (by simp_all<;>omega)).symm|exact (decide_eq_false (by simp_all<;>omega)).symm|exact decide_eq_decide.2 (by simp_all<;>omega))))))))))))))
              ·refine e9 (Ab fld220_4 C) (e9 (As ty4) ?_)
               refine e9 (B8 C) (e9 (Af C) (Ck (d:=126) C (λg126=>?_) (λg126=>?_)))
               ·refine e9 (Ab fld71_5 C) (e9 (Be (vs:=[_,_]) ty40) ?_)
                exact e9 (Bc (cells:=[_,_]) ty40 B0 pl40 C C) (e9 (Ds (α:=Fr) (a:=(⟨num,den⟩:Fr)) (b:=(⟨0,0⟩:Fr)) eqt40 C C) (e9 (Ap C C) (Gr (Al C C) (Ga C (Bf (Cp ((decide ((⟨num,den⟩:Fr)≠(⟨0,0⟩:Fr)))) (by unfold bad10;first|exact (decide_eq_true (by simp_all<;>omega)).symm|exact (decide_eq_false (by simp_all<;>omega)).symm|exact decide_eq_decide.2 (by simp_all<;>omega))))))))
               ·exact eb (eb (eb (eb (e9 (Al C C) (Gr (Al C C) (Ga C (Bf (Cp ((false)) (by unfold bad10;first|exact (decide_eq_true (by simp_all<;>omega)).symm|exact (decide_eq_false (by simp_all<;>omega)).symm|exact decide_eq_decide.2 (by simp_all<;>omega))))))))))
             ·refine eb (eb (eb (e9 (Al C C) (Gr (Al C C) (Gm C (e9 (Ab fld220_4 C) (e9 (As ty4) ?_)))))))
              refine e9 (B8 C) (e9 (Af C) (Ck (d:=126) C (λg126=>?_) (λg126=>?_)))
              ·refine e9 (Ab fld71_5 C) (e9 (Be (vs:=[_,_]) ty40) ?_)
               exact e9 (Bc (cells:=[_,_]) ty40 B0 pl40 C C) (e9 (Ds (α:=Fr) (a:=(⟨num,den⟩:Fr)) (b:=(⟨0,0⟩:Fr)) eqt40 C C) (e9 (Ap C C) (Gr (Al C C) (Ga C (Bf (Cp ((decide ((⟨num,den⟩:Fr)≠(⟨0,0⟩:Fr)))) (by unfold bad10;first|exact (decide_eq_true (by simp_all<;>omega)).symm|exact (decide_eq_false (by simp_all<;>omega)).symm|exact decide_eq_decide.2 (by simp_all<;>omega))))))))
              ·exact eb (eb (eb (eb (e9 (Al C C) (Gr (Al C C) (Ga C (Bf (Cp ((false)) (by unfold bad10;first|exact (decide_eq_true (by simp_all<;>omega)).symm|exact (decide_eq_false (by simp_all<;>omega)).symm|exact decide_eq_decide.2 (by simp_all<;>omega))))))))))
           ·refine eb (eb (eb (e9 (Al C C) (Gr (Al C C) (Gm C (e9 (Ab fld220_2 C) (e9 (As ty4) ?_)))))))
            refine e9 (B8 C) (e9 (Af C) (Ck (d:=116) C (λg116=>?_) (λg116=>?_)))
            ·refine e9 (Ab fld71_2 C) (e9 (As ef) ?_)
             refine e9 (Bx C C) (e9 (Ap C C) (Gr (Al C C) (Gm C (Bs (d:=122) C (λg122=>?_) (λg122=>?_)))))
             ·exact eb (eb (eb (eb (ee (ee (ee (ee (eb (Gr (Ap C C) (Ga C (Bf (Cp ((true)) (by unfold bad10;first|exact (decide_eq_true (by simp_all<;>omega)).symm|exact (decide_eq_false (by simp_all<;>omega)).symm|exact decide_eq_decide.2 (by simp_all<;>omega))))))))))))))
             ·refine e9 (Ab fld220_4 C) (e9 (As ty4) ?_)
              refine e9 (B8 C) (e9 (Af C) (Ck (d:=126) C (λg126=>?_) (λg126=>?_)))
              ·refine e9 (Ab fld71_5 C) (e9 (Be (vs:=[_,_]) ty40) ?_)
               exact e9 (Bc (cells:=[_,_]) ty40 B0 pl40 C C) (e9 (Ds (α:=Fr) (a:=(⟨num,den⟩:Fr)) (b:=(⟨0,0⟩:Fr)) eqt40 C C) (e9 (Ap C C) (Gr (Al C C) (Ga C (Bf (Cp ((decide ((⟨num,den⟩:Fr)≠(⟨0,0⟩:Fr)))) (by unfold bad10;first|exact (decide_eq_true (by simp_all<;>omega)).symm|exact (decide_eq_false (by simp_all<;>omega)).symm|exact decide_eq_decide.2 (by simp_all<;>omega))))))))
              ·exact eb (eb (eb (eb (e9 (Al C C) (Gr (Al C C) (Ga C (Bf (Cp ((false)) (by unfold bad10;first|exact (decide_eq_true (by simp_all<;>omega)).symm|exact (decide_eq_false (by simp_all<;>omega)).symm|exact decide_eq_decide.2 (by simp_all<;>omega))))))))))
            ·refine eb (eb (eb (e9 (Al C C) (Gr (Al C C) (Gm C (e9 (Ab fld220_4 C) (e9 (As ty4) ?_)))))))
             refine e9 (B8 C) (e9 (Af C) (Ck (d:=126) C (λg126=>?_) (λg126=>?_)))
             ·refine e9 (Ab fld71_5 C) (e9 (Be (vs:=[_,_]) ty40) ?_)
              exact e9 (Bc (cells:=[_,_]) ty40 B0 pl40 C C) (e9 (Ds (α:=Fr) (a:=(⟨num,den⟩:Fr)) (b:=(⟨0,0⟩:Fr)) eqt40 C C) (e9 (Ap C C) (Gr (Al C C) (Ga C (Bf (Cp ((decide ((⟨num,den⟩:Fr)≠(⟨0,0⟩:Fr)))) (by unfold bad10;first|exact (decide_eq_true (by simp_all<;>omega)).symm|exact (decide_eq_false (by simp_all<;>omega)).symm|exact decide_eq_decide.2 (by simp_all<;>omega))))))))
             ·exact eb (eb (eb (eb (e9 (Al C C) (Gr (Al C C) (Ga C (Bf (Cp ((false)) (by unfold bad10;first|exact (decide_eq_true (by simp_all<;>omega)).symm|exact (decide_eq_false (by simp_all<;>omega)).symm|exact decide_eq_decide.2 (by simp_all<;>omega))))))))))
        ·rintro bq82 hp
         have hb82:(bq82=decide (bad10 K node lv tq S num den)):=hp
         refine Ez C (λc82=>?_) (λc82=>?_)
         ·refine Aj (Ga C (Ah (Az (A3 (Ar ?_)))))
          have c9:noneF K=false:=c9
          exact Ba C C I Ay ⟨congrArg (λn=>Value.int .i64 n) (by unfold checkQ;rw [if_neg (by simp [c9]),if_neg (of_decide_eq_false (hb13.symm.trans c13)),if_neg (of_decide_eq_false (hb40.symm.trans c40)),if_neg (of_decide_eq_false (hb53.symm.trans c53)),if_pos (of_decide_eq_true (hb82.symm.trans c82))]),rfl⟩
         ·refine A4 (Ak (Ai (Aj (Ga C (Ah (Az ?_))))))
          have c9:noneF K=false:=c9
          exact Ba C C I Ay ⟨congrArg (λn=>Value.int .i64 n) (by unfold checkQ;rw [if_neg (by simp [c9]),if_neg (of_decide_eq_false (hb13.symm.trans c13)),if_neg (of_decide_eq_false (hb40.symm.trans c40)),if_neg (of_decide_eq_false (hb53.symm.trans c53)),if_neg (of_decide_eq_false (hb82.symm.trans c82))]),rfl⟩
end Go.Sl
