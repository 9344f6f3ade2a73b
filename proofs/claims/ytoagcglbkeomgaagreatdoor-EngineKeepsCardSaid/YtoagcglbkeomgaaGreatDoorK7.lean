/- A part of the proofs of statements of this seat: contracts of functions, and the plain laws that they lean on. No conditions. -/
import Derived.Test.YtoagcglbkeomgaaGreatDoorK6
import Derived.MapKept
set_option linter.unusedVariables false
set_option linter.unusedSimpArgs false
set_option linter.unusedSectionVars false
open Go.Proofs.Tryz (prog)
namespace Go.Sl
open Go.Proofs
set_option maxRecDepth 4000
variable{nd:Int}{va:Value}{xs:List Lk}
variable {κ:Ctx}{I:List Item}
theorem ext_atw{α:Type}[Inhabited α]{xs ys:List α}(M:xs.length=ys.length)(h:∀j,j<xs.length->e_ xs j=e_ ys j):xs=ys:=by
 refine List.ext_getElem M λj Z h2=>?_
 have:=h j Z
 rwa [Cn xs j Z,Cn ys j h2] at this
theorem Lk.cmp_lt(a c:Lk):Lk.cmp a c<0↔Lk.lt a c:=Pt.cmp_lt _ _
def askE(nd:Int)(xs:List Lk)(kd wd mo nw:Int):Int:=if checkW kd wd mo≠0 then checkW kd wd mo else if checkS nd xs≠0 then checkS nd xs else if nw<0\/1048576<nw\/xs.any (λx=>decide (nw<x.tm))=true then 9 else 0
theorem CheckS_ok(Z:Sl κ I va xs):eu prog κ 107 [.agg #[e7 nd,va]] I (λr J=>r=e7 (checkS nd xs)/\I=J):=by
 refine B8 Z.le λan=>?_
 refine Ce1 Tryz.func107 C C ?_
 refine Af<|Ge1 (Bg (cs:=[_,_]) C C C) λb1=>Ga C<|Ac<|Aq<|Af<|Gf fld35_0 C<|Gl ef ?_
 refine Gr (A4 C C)<|Gm C<|Bt (d:=8) C (λg8=>?_)<|λg8=>?_
 ·exact eb<|eb<|eb<|Gr (Ba C C)<|Ac<|Dj C<|Af<|Ga C<|Ac<|Az<|Ap<|A1 C C I Ay ⟨by rw [show checkS nd xs=1 from (by first|(unfold checkS;rw [if_pos om];done)|exact hs.trans ((C4 om<|by rw [badL_one om asm];decide).trans (badL_one om asm)))],rfl⟩
 refine e9 (Ad fld35_0 C)<|e9 (Bb ef) ?_
 refine e9 (Cc C C)<|Gr (A6 C C)<|Ac<|A5 C (λc12=>?_)<|λc12=>?_
 ·exact Af<|Ga C<|Ac<|Az<|Ap<|A1 C C I Ay ⟨by rw [show checkS nd xs=1 from (by first|(unfold checkS;rw [if_pos om];done)|exact hs.trans ((C4 om<|by rw [badL_one om asm];decide).trans (badL_one om asm)))],rfl⟩
 refine Av<|Ah<|Aq<|Af<|Gf fld35_1 C<|Gl ty33 ?_
 refine Gr (B9 (α:=Lk) (xs:=xs) A9 C<|A8 Z)<|Gm C<|Ac<|Ao (S4 16 15 14 1 C C C C)<|Aw<|Bu (σ:=Nat) (λs=>([(1,pt b1),(14,va),(15,e7 ((xs.length:Nat):Int)),(16,e7 ((s:Nat):Int))]:Env)) (λs=>e8 b1 [e7 nd,va] 35::I) (λs=>(s<=xs.length)/\(checkS nd xs=scanL (badL nd) Lk.lt (prevAt xs s) (xs.drop s))) (λs=>xs.length - s) 0 (show ((0:Nat)<=xs.length)/\(checkS nd xs=scanL (badL nd) Lk.lt (prevAt xs (0:Nat)) (xs.drop (0:Nat))) from ⟨om,(by unfold checkS;rw [if_neg om];rfl)⟩) (Aa C<|Aa C<|Aa C<|Aa B2 Bi) (show Fit κ _ (e8 b1 [e7 nd,va] 35::I) from Bc) ?_
 rintro k hp
 obtain ⟨hk,hs⟩:=hp
 refine Af<|Gr (A4 C C)<|Ac<|Aq<|A5 C (λad=>?_)<|λad=>?_
 ·refine Av (Ah<|Aq<|Aw<|Af<|Gm C<|Gr (Ax (α:=Lk) (xs:=xs) A9 ty82 C C (A8 Z) om om)<|Gr (Bx (α:=Lk) (xs:=xs) ty82 C (A8 Z) om om)<|Ge1 (A3 ty82 C) λb2=>Ga C<|Ge0 (Es6_6 ty82) ?_)
  refine Ac<|Aw<|Af<|Gf fld82_0 C<|Gl ef ?_
  refine Gr (A4 C C)<|Gm C<|Bt (d:=25) C (λaa=>?_)<|λaa=>?_
  ·exact eb<|eb<|eb<|eb<|eb<|Gr (Ba C C)<|Gm C<|eb<|eb<|eb<|eb<|eb<|Gr (Ba C C)<|Ga C<|Ac<|Ao (S7 21 3 4 1 14 15 16 C C C C C C C)<|Dj C<|Af<|Ga C<|Ac<|Az<|A7<|A7<|Ap<|Ap<|A7<|Ap<|A1 C C I Ay ⟨by rw [show checkS nd xs=6 from (hs.trans<|(C4 om<|by rw [badL_six om];decide).trans (badL_six om))],rfl⟩
  refine e9 (Ad fld82_0 C)<|e9 (Bb ef) ?_
  refine e9 (Ad fld82_1 C)<|e9 (Bb ef) ?_
  refine e9 (Cr C C)<|Gr (A6 C C)<|Gm C<|Bt (d:=32) C (λaj=>?_)<|λaj=>?_
  ·exact eb<|eb<|eb<|eb<|eb<|Gr (Ba C C)<|Ga C<|Ac<|Ao (S7 21 3 4 1 14 15 16 C C C C C C C)<|Dj C<|Af<|Ga C<|Ac<|Az<|A7<|A7<|Ap<|Ap<|A7<|Ap<|A1 C C I Ay ⟨by rw [show checkS nd xs=6 from (hs.trans<|(C4 om<|by rw [badL_six om];decide).trans (badL_six om))],rfl⟩
  refine e9 (Ad fld82_1 C)<|e9 (Bb ef) ?_
  refine e9 (Ad fld35_0 C)<|e9 (Bb ef) ?_
  refine e9 (Cr C C)<|Gr (A6 C C)<|Ga C<|Ac<|Ao (S7 21 3 4 1 14 15 16 C C C C C C C)<|A5 C (λae=>?_)<|λae=>?_
  ·exact Af<|Ga C<|Ac<|Az<|A7<|A7<|Ap<|Ap<|A7<|Ap<|A1 C C I Ay ⟨by rw [show checkS nd xs=6 from (hs.trans<|(C4 om<|by rw [badL_six om];decide).trans (badL_six om))],rfl⟩
  refine Af<|Gf fld82_2 C<|Gl ef ?_
  refine Gf fld82_3 C<|Gl ef ?_
  refine Gf fld82_4 C<|Gl ef ?_
  refine Gc0 (Ak c_ C C<|RightW_ok ((e_ xs k).w) ((e_ xs k).lb)<|(e_ xs k).sg) ?_
  refine Gr (Dk C)<|Ga C<|Ac<|Ao (S7 39 3 4 1 14 15 16 C C C C C C C)<|A5 C (λak=>?_)<|λak=>?_
  ·exact Af<|Ga C<|Ac<|Az<|A7<|A7<|Ap<|Ap<|A7<|Ap<|A1 C C I Ay ⟨by rw [show checkS nd xs=1 from (by first|(unfold checkS;rw [if_pos om];done)|exact hs.trans ((C4 om<|by rw [badL_one om asm];decide).trans (badL_one om asm)))],rfl⟩
  refine Af<|Gf fld82_5 C<|Gl ef ?_
  refine Gr (A4 C C)<|Gm C<|Bt (d:=52) C (λah=>?_)<|λah=>?_
  ·exact eb<|eb<|eb<|Gr (Ba C C)<|Ga C<|Ac<|Ao (S7 48 3 4 1 14 15 16 C C C C C C C)<|Dj C<|Af<|Ga C<|Ac<|Az<|A7<|A7<|Ap<|Ap<|A7<|Ap<|A1 C C I Ay ⟨by rw [show checkS nd xs=9 from (hs.trans<|(C4 om<|by rw [badL_nine om (by first|assumption|exact Classical.not_not.1 asm|exact Classical.byContradiction λh=>c47<|by rw [if_neg h];decide) om];decide).trans (badL_nine om (by first|assumption|exact Classical.not_not.1 asm|exact Classical.byContradiction λh=>c47<|by rw [if_neg h];decide) om))],rfl⟩
  refine e9 (Ad fld82_5 C)<|e9 (Bb ef) ?_
  refine e9 (Cc C C)<|Gr (A6 C C)<|Ga C<|Ac<|Ao (S7 48 3 4 1 14 15 16 C C C C C C C)<|A5 C (λM=>?_)<|λM=>?_
  ·exact Af<|Ga C<|Ac<|Az<|A7<|A7<|Ap<|Ap<|A7<|Ap<|A1 C C I Ay ⟨by rw [show checkS nd xs=9 from (hs.trans<|(C4 om<|by rw [badL_nine om (by first|assumption|exact Classical.not_not.1 asm|exact Classical.byContradiction λh=>c47<|by rw [if_neg h];decide) om];decide).trans (badL_nine om (by first|assumption|exact Classical.not_not.1 asm|exact Classical.byContradiction λh=>c47<|by rw [if_neg h];decide) om))],rfl⟩
  refine Aq<|Bq mixed<|Ca (e8 b2 [e7 ((e_ xs k).u),e7<|(e_ xs k).v,e7<|(e_ xs k).w,e7<|(e_ xs k).lb,e7<|(e_ xs k).sg,e7<|(e_ xs k).tm] 82::e8 b1 [e7 nd,va] 35::I) 14<|Dr 0 C (Ai C)<|Dr 1 C (Cc C C)<|Dr 2 C (Ai C)<|El (d:=60) C (λab=>?_)<|λab=>?_
  ·refine Dro 3 C (Ad fld35_1 C) (Dro 4 C (Bb ty33) ?_)
   refine Dro 5 C (Ai C)<|Dro 6 C (Rsu C C)<|Dro 7 C (Ax (α:=Lk) (xs:=xs) A9 ty82 C C (A8 Z) om om)<|Dro 8 C (Bx (α:=Lk) (xs:=xs) ty82 C (A8 Z) om om)<|Dro 9 C (Be (vs:=[_,_,_,_,_,_]) ty82) ?_
   refine Ds1 10<|Sc0 C (Ak c_ C C<|OrderL_ok (e_ xs<|(k:Int) - 1)<|e_ xs k) ?_
   refine Dro 11 C (Cr C C)<|Dr 12 C (Ba C C)<|Dr 13 C (Bd C)<|Dz<|Ah<|Ao (S5 57 1 14 15 16 C C C C C)<|A5 C (λai=>?_)<|λai=>?_
   ·exact Af<|Ga C<|Ac<|Az<|A7<|A7<|Ap<|Ap<|A7<|Ap<|A1 C C I Ay ⟨by rw [show checkS nd xs=5 from (hs.trans<|scanL_order om (badL_zero om (by first|assumption|exact Classical.not_not.1 asm|exact Classical.byContradiction λh=>c47<|by rw [if_neg h];decide) om) om<|by first|assumption|(intro h;have:=(Lk.cmp_lt _ _).2 h;omega))],rfl⟩
   exact Av<|Aj<|Aj<|Ah<|Ar<|Gr (Rad C C)<|Gm C<|Bj<|B3 ((k+1)) ⟨om,(hs.trans<|E1 om (badL_zero om (by first|assumption|exact Classical.not_not.1 asm|exact Classical.byContradiction λh=>c47<|by rw [if_neg h];decide) om)<|λh0=>by first|omega|exact (Lk.cmp_lt _ _).1 om|exact Classical.not_not.1 asm)⟩
  exact Dpo 3 C<|Dpo 4 C<|Dpo 5 C<|Dpo 6 C<|Dpo 7 C<|Dpo 8 C<|Dpo 9 C<|Dpo 10 C<|Dpo 11 C<|Dr 12 C (A6 C C)<|Dr 13 C (Bd C)<|Dz<|Ah<|Ao (S5 57 1 14 15 16 C C C C C)<|Dp C<|Av<|Aj<|Aj<|Ah<|Ar<|Gr (Rad C C)<|Gm C<|Bj<|B3 ((k+1)) ⟨om,(hs.trans<|E1 om (badL_zero om (by first|assumption|exact Classical.not_not.1 asm|exact Classical.byContradiction λh=>c47<|by rw [if_neg h];decide) om)<|λh0=>by first|omega|exact (Lk.cmp_lt _ _).1 om|exact Classical.not_not.1 asm)⟩
 exact Bs<|Al<|Al<|A2<|Ah<|Af<|Ga C<|Ac<|Az<|A1 C C I Ay ⟨by rw [show checkS nd xs=0 from (hs.trans<|scanL_end om)],rfl⟩
theorem CheckS5_ok(M:Sl κ I va xs):eu prog κ 49 [.agg #[e7 nd,va]] I (λr J=>r=e7 (checkS nd xs)/\I=J):=by
 refine B8 M.le λao=>?_
 refine Ce1 Tryz.func49 C C ?_
 refine Af<|Ge1 (Bg (cs:=[_,_]) C C C) λb1=>Ga C<|Ac<|Aq<|Af<|Gf fld35_0 C<|Gl ef ?_
 refine Gr (A4 C C)<|Gm C<|Bt (d:=9) C (λg9=>?_)<|λg9=>?_
 ·exact eb<|eb<|eb<|Gr (Ba C C)<|Ac<|Dj C<|Af<|Ga C<|Ac<|Az<|Ap<|A1 C C I Ay ⟨by rw [show checkS nd xs=1 from (by first|(unfold checkS;rw [if_pos om];done)|exact hs.trans ((C4 om<|by rw [badL_one om asm];decide).trans (badL_one om asm)))],rfl⟩
 refine e9 (Ad fld35_0 C)<|e9 (Bb ef) ?_
 refine e9 (Cc C C)<|Gr (A6 C C)<|Ac<|A5 C (λc13=>?_)<|λc13=>?_
 ·exact Af<|Ga C<|Ac<|Az<|Ap<|A1 C C I Ay ⟨by rw [show checkS nd xs=1 from (by first|(unfold checkS;rw [if_pos om];done)|exact hs.trans ((C4 om<|by rw [badL_one om asm];decide).trans (badL_one om asm)))],rfl⟩
 refine Av<|Ah<|Aq<|Af<|Gf fld35_1 C<|Gl ty33 ?_
 refine Gr (B9 (α:=Lk) (xs:=xs) A9 C<|A8 M)<|Gm C<|Ac<|Ao (S4 17 16 15 1 C C C C)<|Aw<|Bu (σ:=Nat) (λs=>([(1,pt b1),(15,va),(16,e7 ((xs.length:Nat):Int)),(17,e7 ((s:Nat):Int))]:Env)) (λs=>e8 b1 [e7 nd,va] 35::I) (λs=>(s<=xs.length)/\(checkS nd xs=scanL (badL nd) Lk.lt (prevAt xs s) (xs.drop s))) (λs=>xs.length - s) 0 (show ((0:Nat)<=xs.length)/\(checkS nd xs=scanL (badL nd) Lk.lt (prevAt xs (0:Nat)) (xs.drop (0:Nat))) from ⟨om,(by unfold checkS;rw [if_neg om];rfl)⟩) (Aa C<|Aa C<|Aa C<|Aa B2 Bi) (show Fit κ _ (e8 b1 [e7 nd,va] 35::I) from Bc) ?_
 rintro k hp
 obtain ⟨hk,hs⟩:=hp
 refine Af<|Gr (A4 C C)<|Ac<|Aq<|A5 C (λad=>?_)<|λad=>?_
 ·refine Av (Ah<|Aq<|Aw<|Af<|Gm C<|Gr (Ax (α:=Lk) (xs:=xs) A9 ty82 C C (A8 M) om om)<|Gr (Bx (α:=Lk) (xs:=xs) ty82 C (A8 M) om om)<|Ge1 (A3 ty82 C) λb2=>Ga C<|Ge0 (Es6_6 ty82) ?_)
  refine Ac<|Aq<|Af<|Gf fld82_0 C<|Gl ef ?_
  refine Gr (A4 C C)<|Gm C<|Bt (d:=25) C (λae=>?_)<|λae=>?_
  ·exact eb<|eb<|eb<|eb<|eb<|Gr (Ba C C)<|Gm C<|eb<|eb<|eb<|eb<|eb<|Gr (Ba C C)<|Ac<|Ao (S7 38 3 4 1 15 16 17 C C C C C C C)<|Dj C<|Af<|Ga C<|Ac<|Az<|Ap<|A7<|Ap<|Ap<|A7<|Ap<|A1 C C I Ay ⟨by rw [show checkS nd xs=6 from (hs.trans<|(C4 om<|by rw [badL_six om];decide).trans (badL_six om))],rfl⟩
  refine e9 (Ad fld82_0 C)<|e9 (Bb ef) ?_
  refine e9 (Ad fld82_1 C)<|e9 (Bb ef) ?_
  refine e9 (Cr C C)<|Gr (A6 C C)<|Gm C<|Bt (d:=32) C (λan=>?_)<|λan=>?_
  ·exact eb<|eb<|eb<|eb<|eb<|Gr (Ba C C)<|Ac<|Ao (S7 38 3 4 1 15 16 17 C C C C C C C)<|Dj C<|Af<|Ga C<|Ac<|Az<|Ap<|A7<|Ap<|Ap<|A7<|Ap<|A1 C C I Ay ⟨by rw [show checkS nd xs=6 from (hs.trans<|(C4 om<|by rw [badL_six om];decide).trans (badL_six om))],rfl⟩
  refine e9 (Ad fld82_1 C)<|e9 (Bb ef) ?_
  refine e9 (Ad fld35_0 C)<|e9 (Bb ef) ?_
  refine e9 (Cr C C)<|Gr (A6 C C)<|Ac<|Ao (S7 38 3 4 1 15 16 17 C C C C C C C)<|A5 C (λah=>?_)<|λah=>?_
  ·exact Af<|Ga C<|Ac<|Az<|Ap<|A7<|Ap<|Ap<|A7<|Ap<|A1 C C I Ay ⟨by rw [show checkS nd xs=6 from (hs.trans<|(C4 om<|by rw [badL_six om];decide).trans (badL_six om))],rfl⟩
  refine Av<|Ah<|Aq<|Af<|Gf fld82_2 C<|Gl ef ?_
  refine Gf fld82_3 C<|Gl ef ?_
  refine Gf fld82_4 C<|Gl ef ?_
  refine Gc0 (Ak c_ C C<|Attr4_ok ((e_ xs k).w) ((e_ xs k).lb)<|(e_ xs k).sg) ?_
  refine Ga C<|Ac<|Ao (S7 5 3 4 1 15 16 17 C C C C C C C)<|Af<|Gm C<|Gr (Bo C C)<|Ac<|A5 C (λZ=>?_)<|λZ=>?_
  ·refine Af (Gm C<|Ga C<|Ac<|Az<|Ap<|A7<|Ap<|Ap<|A7<|Ap ?_)
   have aa:¬rightW (e_ xs k).w (e_ xs k).lb (e_ xs k).sg:=λh=>Z (if_pos h)
   exact A1 C C I Ay ⟨by rw [if_neg aa,show checkS nd xs=1 from (by first|(unfold checkS;rw [if_pos om];done)|exact hs.trans ((C4 om<|by rw [badL_one om asm];decide).trans (badL_one om asm)))],rfl⟩
  refine Av<|Ah<|Aq<|Af<|Gf fld82_5 C<|Gl ef ?_
  refine Gr (A4 C C)<|Gm C<|Bt (d:=52) C (λak=>?_)<|λak=>?_
  ·exact eb<|eb<|eb<|Gr (Ba C C)<|Ac<|Ao (S7 56 3 4 1 15 16 17 C C C C C C C)<|Dj C<|Af<|Ga C<|Ac<|Az<|Ap<|A7<|Ap<|Ap<|A7<|Ap<|A1 C C I Ay ⟨by rw [show checkS nd xs=9 from (hs.trans<|(C4 om<|by rw [badL_nine om (by first|assumption|exact Classical.not_not.1 asm|exact Classical.byContradiction λh=>Z<|by rw [if_neg h];decide) om];decide).trans (badL_nine om (by first|assumption|exact Classical.not_not.1 asm|exact Classical.byContradiction λh=>Z<|by rw [if_neg h];decide) om))],rfl⟩
  refine e9 (Ad fld82_5 C)<|e9 (Bb ef) ?_
  refine e9 (Cc C C)<|Gr (A6 C C)<|Ac<|Ao (S7 56 3 4 1 15 16 17 C C C C C C C)<|A5 C (λai=>?_)<|λai=>?_
  ·exact Af<|Ga C<|Ac<|Az<|Ap<|A7<|Ap<|Ap<|A7<|Ap<|A1 C C I Ay ⟨by rw [show checkS nd xs=9 from (hs.trans<|(C4 om<|by rw [badL_nine om (by first|assumption|exact Classical.not_not.1 asm|exact Classical.byContradiction λh=>Z<|by rw [if_neg h];decide) om];decide).trans (badL_nine om (by first|assumption|exact Classical.not_not.1 asm|exact Classical.byContradiction λh=>Z<|by rw [if_neg h];decide) om))],rfl⟩
  refine Av<|Ah<|Aq<|Bq mixed<|Ca (e8 b2 [e7 ((e_ xs k).u),e7<|(e_ xs k).v,e7<|(e_ xs k).w,e7<|(e_ xs k).lb,e7<|(e_ xs k).sg,e7<|(e_ xs k).tm] 82::e8 b1 [e7 nd,va] 35::I) 15<|Dr 0 C (Ai C)<|Dr 1 C (Cc C C)<|Dr 2 C (Ai C)<|El (d:=59) C (λaj=>?_)<|λaj=>?_
  ·refine Dro 3 C (Ad fld35_1 C) (Dro 4 C (Bb ty33) ?_)
   refine Dro 5 C (Ai C)<|Dro 6 C (Rsu C C)<|Dro 7 C (Ax (α:=Lk) (xs:=xs) A9 ty82 C C (A8 M) om om)<|Dro 8 C (Bx (α:=Lk) (xs:=xs) ty82 C (A8 M) om om)<|Dro 10 C (Be (vs:=[_,_,_,_,_,_]) ty82) ?_
   refine Ds1 9<|Sc0 C (Ak c_ C C<|Edge5_ok<|e_ xs<|(k:Int) - 1) ?_
   refine Ds1 11<|Sc0 C (Ak c_ C C<|Edge5_ok<|e_ xs k) ?_
   refine Ds1 12<|Sc0 C (Ak c_ C C<|Before03_ok (e_ xs<|(k:Int) - 1).p (e_ xs k).p) ?_
   refine Dro 13 C (Dk C)<|Dr 14 C (Ba C C)<|Dz<|Ah<|Ao (S5 71 1 15 16 17 C C C C C)<|A5 C (λab=>?_)<|λab=>?_
   ·exact Af<|Ga C<|Ac<|Az<|A7<|Ap<|Ap<|A7<|Ap<|A1 C C I Ay ⟨by rw [show checkS nd xs=5 from (hs.trans<|scanL_order om (badL_zero om (by first|assumption|exact Classical.not_not.1 asm|exact Classical.byContradiction λh=>Z<|by rw [if_neg h];decide) om) om<|by first|assumption|(intro h;have:=(Lk.cmp_lt _ _).2 h;omega))],rfl⟩
   exact Av<|Aj<|Ah<|Ar<|Gr (Rad C C)<|Gm C<|Bj<|B3 ((k+1)) ⟨om,(hs.trans<|E1 om (badL_zero om (by first|assumption|exact Classical.not_not.1 asm|exact Classical.byContradiction λh=>Z<|by rw [if_neg h];decide) om)<|λh0=>by first|omega|exact (Lk.cmp_lt _ _).1 om|exact Classical.not_not.1 asm)⟩
  exact Dpo 3 C<|Dpo 4 C<|Dpo 5 C<|Dpo 6 C<|Dpo 7 C<|Dpo 8 C<|Dpo 10 C<|Dpo 9 C<|Dpo 11 C<|Dpo 12 C<|Dpo 13 C<|Dr 14 C (A6 C C)<|Dz<|Ah<|Ao (S5 71 1 15 16 17 C C C C C)<|Dp C<|Av<|Aj<|Ah<|Ar<|Gr (Rad C C)<|Gm C<|Bj<|B3 ((k+1)) ⟨om,(hs.trans<|E1 om (badL_zero om (by first|assumption|exact Classical.not_not.1 asm|exact Classical.byContradiction λh=>Z<|by rw [if_neg h];decide) om)<|λh0=>by first|omega|exact (Lk.cmp_lt _ _).1 om|exact Classical.not_not.1 asm)⟩
 exact Bs<|Al<|Al<|A2<|Ah<|Af<|Ga C<|Ac<|Az<|A1 C C I Ay ⟨by rw [show checkS nd xs=0 from (hs.trans<|scanL_end om)],rfl⟩
end Go.Sl
namespace Go.Sl
open Go.RowKit (Below)
variable{T cl et r:Nat}{x y:Operand}{es:List MapEntry}{k v:Value}
def mp(r:Nat)(es:List MapEntry)(cl:Nat):Item where
 fp k:=k=r
 ok w:=w.heap[r]? = some (.map es.toArray cl)
 loc w w' h hw:=(h r rfl).trans hw
section
variable {P:Program}{κ:Ctx}{N:Frm}{Q:Exit->Act->World->Prop}{L:Env}{I J:List Item}{ops:Array Oper}{rest:List Oper}
variable {d:Option Tmp}{ty:TypeId}{ps:String}{af:Array Edge}{gd:Option (Nat×Bool)}
theorem Eff.makeMap{dd:Nat}(M:Nat.blt dd N.n=true) :
  Eff P κ N Q ⟨some dd,.makeMap T none,ty,ps,af,gd⟩ L I λL' I'=>∃r,L'=(dd,.map<|some r)::L/\I'=mp r [] 0::I:=
 Eff.of_value rfl M λa w ha hs=>
  ⟨_,_,_,by simp [execOp,Instr.makeMap,Result.andThen],⟨_,rfl,rfl⟩,hs.new (hs.alloc<|.map #[] 0) (heap_alloc_new w _) λk Z=>by obtain rfl:k=_:=Z;exact ⟨Nat.le_refl _,by simp⟩⟩
theorem Eff.insertK{z:Operand}{kt:Nat}{kd:IntKind}{I':List Item}(ht:P.underlying T=some (.map kt et))(M:P.underlying kt=some (.int kd))(hx:er L x=some (.map (some r)))
  (hy:er L y=some k) (hz:er L z=some v) (hk:MapKept.IsKey (.int kd) k) (hf:Instr.findNow (.int kd) k es 0=some none) (Z:At I (mp r es cl) (mp r (es++[{key:=k,val:=v,born:=cl}])<|cl+1) I') :
  Eff P κ N Q ⟨none,.insert T x y z,ty,ps,af,gd⟩ L I λL' I''=>L'=L/\I''=I':=
 Eff.of_skip rfl λa w ha hs=>by
  have hb:=(hs.ok _ Z.mem).1
  refine ⟨{w with heap:=w.heap.setIfInBounds r (.map (es++[({key:=k,val:=v,born:=cl}:MapEntry)]).toArray (cl+1))},I',?_,⟨rfl,rfl⟩,?_⟩
  ·simp [execOp,ha.eval hx,ha.eval hy,ha.eval hz,Instr.mapUpdate,run_underlying ht,MapKept.run_getObj_map hb,MapKept.run_checkKey M hk,MapKept.run_findKey M hf,MapKept.run_setObj_map _ hb,Result.andThen]
  exact hs.upd Z rfl ⟨rfl,Nat.le_refl _⟩ rfl (by simp) (λk _ aa=>(MapKept.heap_set hb).2 k λe=>aa e) (MapKept.heap_set hb).1 λk hk=> .inl hk
theorem Runs.lookupK{M i:Nat}{kd:IntKind}(ht:P.underlying T=some (.map M et))(Z:P.underlying M=some (.int kd))(hx:er L x=some (.map (some r)))
  (hy:er L y=some k) (hk:MapKept.IsKey (.int kd) k) (hm:mp r es cl∈J) (hf:Instr.findNow (.int kd) k es 0=some (some (i,v))):Runs P κ N ⟨d,.lookup T x y false,ty,ps,af,gd⟩ L J v:=
 λa w ha hs=>by
  have hb:=(hs.ok _ hm).1
  simp [execOp,ha.eval hx,ha.eval hy,Instr.lookup,run_underlying ht,MapKept.run_getObj_map hb,MapKept.run_checkKey Z hk,MapKept.run_findKey Z hf,Result.andThen]
end
end Go.Sl
namespace Go.Sl
open Go.Proofs
set_option maxRecDepth 4000
variable{v va:Value}{xs:List Lk}{Z:List Value}{b c c0:Nat}{kd mo nd nw wd:Int}{a a0:Option Addr}
variable {κ:Ctx}{I:List Item}
theorem IndexFuncL(hl:Sl κ I v xs){g:FuncId}{p:Lk->Bool}(aa:Says prog κ I g Z p):eu prog κ 109 [v,.func (.func g) #[] Z.toArray] I (λr J=>∃y:Int,r=e7 y/\IdxF p xs y/\I=J):=by
 refine B8 hl.le λab=>?_
 refine Ce2 Tryz.func109 C C ?_
 refine Af<|Ga C<|Ac<|Aq<|Af<|Gm C<|Gr (B9 (α:=Lk) (xs:=xs) A9 C<|A8 hl)<|Gm C<|Ac<|Aw<|Bu (σ:=Nat) (λs=>([(0,v),(1,.func (.func g) #[] Z.toArray),(7,e7 ((xs.length:Nat):Int)),(8,e7 ((s:Nat):Int))]:Env)) (λs=>I) (λs=>(s<=xs.length)/\(∀j,j<s->p (e_ xs j)=false)) (λs=>xs.length - s) 0 (show ((0:Nat)<=xs.length)/\(∀j,j<(0:Nat)->p (e_ xs j)=false) from ⟨om,all_zero⟩) (Aa C<|Aa C<|Aa C<|Aa B2 Bi) (show Fit κ _ I from Bc) ?_
 rintro k hp
 obtain ⟨hk,hn⟩:=hp
 refine Af<|Gr (A4 C C)<|Ac<|Aq<|A5 C (λc9=>?_)<|λc9=>?_
 ·refine Av (Ah<|Aq<|Aw<|Af<|Gm C<|Ga C<|Ac<|Af<|Gm C<|Gm C<|Gm C<|Gr (Ax (α:=Lk) (xs:=xs) A9 ty82 C C (A8 hl) om om)<|Gr (Bx (α:=Lk) (xs:=xs) ty82 C (A8 hl) om om)<|G.e (Cv aa.1 (first:=[]) (caps:=Z) C C C<|aa.2 (e_ xs k) _ Ay) ?_)
  rintro _ _ ⟨_,_,⟨rfl,rfl⟩,rfl,rfl⟩
  refine Ac<|D4 C (λM=>?_)<|λM=>?_
  ·exact Af<|Gm C<|Ga C<|Ac<|Ao (S1 4 C)<|Az<|A7<|Ap<|Ap<|A7<|Ap<|A1 C C I Ay ⟨_,rfl,.inr ⟨by omega,by omega,λj hj=>hn j om,M⟩,rfl⟩
  exact Av<|Aj<|Ah<|Ar<|Gr (Rad C C)<|Gm C<|Bj<|B3 ((k+1)) ⟨om,(all_succ hn M)⟩
 exact Bs<|Al<|Al<|A2<|Ah<|Af<|Ga C<|Ac<|Az<|A1 C C I Ay ⟨_,rfl,.inl ⟨rfl,λj hj=>hn j om⟩,rfl⟩
theorem ContainsFuncL(hl:Sl κ I v xs){g:FuncId}{p:Lk->Bool}(M:Says prog κ I g Z p):eu prog κ 58 [v,.func (.func g) #[] Z.toArray] I (λr J=>r = .bool (xs.any p)/\I=J):=by
 refine Ce2 Tryz.func58 C C ?_
 refine Af<|Ga C<|Ac<|Af<|Gm C<|Gm C<|G.e (Ak c_ C C<|IndexFuncL (A8 hl)<|Says.fit M Ay) ?_
 rintro _ _ ⟨_,_,⟨y1,rfl,aa,rfl⟩,rfl,rfl⟩
 exact Gr (Cr C C)<|Ga C<|Ac<|Az<|A1 C C I Ay ⟨by rw [←IdxF.any asm],rfl⟩
theorem Asked1_ok(Z:BlkRd κ I b [e7 nw] 3)(x:Lk):eu prog κ 173 [.agg #[e7 (x.u),e7 (x.v),e7 (x.w),e7 (x.lb),e7 (x.sg),e7 (x.tm)],(pt b)] I (λr J=>r = .bool (decide (nw<x.tm))/\I=J):=by
 refine Ce2 Tryz.func173 C C ?_
 refine Af<|Ge1 (Bg (cs:=[_,_,_,_,_,_]) C C C) λb1=>Ga C<|Ac<|Af<|Gf fld82_5 C<|Gl ef ?_
 exact Gr (D9 ef C (Em Z Ay) C)<|Gr (Cc C C)<|Ga C<|Ac<|Az<|A1 C C I Ay ⟨rfl,rfl⟩
theorem Asked1_says(Z:BlkRd κ I b [e7 nw] 3):Says prog κ I 173 [(pt b)] (λx:Lk=>decide (nw<x.tm)):=⟨c_,λx J M=>Asked1_ok (Z.fit M) x⟩
theorem Asked_ok(hl:Sl κ I va xs):eu prog κ 152 [.agg #[e7 nd,va],.agg #[e7 kd,e7 wd,e7 mo],e7 nw] I (λr J=>r=e7 (askE nd xs kd wd mo nw)/\I=J):=by
 refine B8 hl.le λad=>?_
 refine Ce3 Tryz.func152 C C ?_
 refine Af<|Ge1 (Bg (cs:=[_,_]) C C C) λb1=>Ge1 (Bg (cs:=[_,_,_]) C C C) λb2=>Ge1 (Bg (cs:=[_]) C C C) λb3=>Ga C<|Ac<|Aq<|Af<|Gl3 ty29 ?_
 refine G.e (Ak c_ C C<|CheckW_ok kd wd mo) ?_
 rintro _ _ ⟨_,_,⟨rfl,rfl⟩,rfl,rfl⟩
 refine Ga C<|Ac<|Af<|Gm C<|Gr (Bo C C)<|Ac<|A5 C (λc12=>?_)<|λc12=>?_
 ·exact Af<|Gm C<|Ga C<|Ac<|Ao (S1 6 C)<|Az<|Ap<|A1 C C I Ay ⟨by rw [show askE nd xs kd wd mo nw=checkW kd wd mo from (by unfold askE;rw [if_pos c12])],rfl⟩
 refine Av<|Ah<|Aq<|Af<|Gl2 ty35 ?_
 refine G.e (Ak c_ C C<|CheckS_ok (nd:=nd)<|A8 hl) ?_
 rintro _ _ ⟨_,_,⟨rfl,rfl⟩,rfl,rfl⟩
 refine Ga C<|Ac<|Ao (S3 8 5 3 C C C)<|Af<|Gm C<|Gr (Bo C C)<|Ac<|A5 C (λZ=>?_)<|λZ=>?_
 ·exact Af<|Gm C<|Ga C<|Ac<|Az<|Ap<|A1 C C I Ay ⟨by rw [show askE nd xs kd wd mo nw=checkS nd xs from (by unfold askE;rw [if_neg c12,if_pos Z])],rfl⟩
 refine Av<|Ah<|Aq<|Af<|Gl ef ?_
 refine Gr (A4 C C)<|Gm C<|Bt (d:=21) C (λaa=>?_)<|λaa=>?_
 ·exact eb<|eb<|Gr (Ba C C)<|Gm C<|eb<|eb<|eb<|eb<|Gr (Ba C C)<|Ac<|Ao (S1 30 C)<|Dj C<|Af<|Ga C<|Ac<|Az<|Ap<|A1 C C I Ay ⟨by rw [show askE nd xs kd wd mo nw=9 from (by unfold askE;rw [if_neg c12,if_neg Z,if_pos<|by first|omega|(simp only [*];done)|exact .inr (.inr asm)|exact .inr (.inr M)])],rfl⟩
 refine e9 (Bb ef) ?_
 refine e9 (Cc C C)<|Gr (A6 C C)<|Gm C<|Bt (d:=25) C (λab=>?_)<|λab=>?_
 ·exact eb<|eb<|eb<|eb<|Gr (Ba C C)<|Ac<|Ao (S1 30 C)<|Dj C<|Af<|Ga C<|Ac<|Az<|Ap<|A1 C C I Ay ⟨by rw [show askE nd xs kd wd mo nw=9 from (by unfold askE;rw [if_neg c12,if_neg Z,if_pos<|by first|omega|(simp only [*];done)|exact .inr (.inr asm)|exact .inr (.inr M)])],rfl⟩
 refine e9 (Ad fld35_1 C)<|e9 (Bb ty33) ?_
 refine e9 (Dw C C)<|Ew (C5 C C C) (Ak c_ C C<|ContainsFuncL (A8 hl)<|Asked1_says<|Ds mm) ?_
 rintro _ _ ⟨_,_,⟨rfl,rfl⟩,rfl,rfl⟩
 refine Gr (A6 C C)<|Ac<|Ao (S1 30 C)<|D4 C (λM=>?_)<|λM=>?_
 ·exact Af<|Ga C<|Ac<|Az<|Ap<|A1 C C I Ay ⟨by rw [show askE nd xs kd wd mo nw=9 from (by unfold askE;rw [if_neg c12,if_neg Z,if_pos<|by first|omega|(simp only [*];done)|exact .inr (.inr asm)|exact .inr (.inr M)])],rfl⟩
 exact Av<|Ah<|Af<|Ga C<|Ac<|Az<|A1 C C I Ay ⟨by rw [show askE nd xs kd wd mo nw=0 from (by unfold askE;rw [if_neg c12,if_neg Z,if_neg<|by rintro (h|h|h)<;>first|omega|(exact absurd (M.symm.trans h) dc)])],rfl⟩
variable {κ:Ctx}{I:List Item}
theorem All1_ok(x:Lk):eu prog κ 191 [.agg #[e7 (x.u),e7 (x.v),e7 (x.w),e7 (x.lb),e7 (x.sg),e7 (x.tm)]] I (λr J=>r = .bool true/\I=J):=by
 refine Ce1 Tryz.func191 C C ?_
 exact Af<|Ge1 (Bg (cs:=[_,_,_,_,_,_]) C C C) λb1=>Ga C<|Ac<|Af<|Ga C<|Ac<|Az<|A1 C C I Ay ⟨rfl,rfl⟩
theorem Age1_ok(Z:BlkRd κ I b [e7 nw] 3)(M:BlkRd κ I c [e7 kd,e7 wd,e7 mo] 29)(x:Lk):eu prog κ 193 [.agg #[e7 (x.u),e7 (x.v),e7 (x.w),e7 (x.lb),e7 (x.sg),e7 (x.tm)],(pt b),(pt c)] I (λr J=>r = .bool (decide (IntKind.i64.wrap (nw - x.tm)<wd))/\I=J):=by
 refine Ce3 Tryz.func193 C C ?_
 refine Af<|Ge1 (Bg (cs:=[_,_,_,_,_,_]) C C C) λb1=>Ga C<|Ac<|Af<|Gr (D9 ef C (Em Z Ay) C)<|Gf fld82_5 C<|Gl ef ?_
 exact Gr (Runs.subw C C)<|Gf fld29_1 C<|Gr (D9 ef C (Em M Ay) C)<|Gr (A4 C C)<|Ga C<|Ac<|Az<|A1 C C I Ay ⟨rfl,rfl⟩
theorem Rule1_ok :
    eu prog κ 190 [.agg #[e7 nd,va],.agg #[e7 kd,e7 wd,e7 mo],e7 nw] I (λr J=>r = .func (.func 191) #[] #[]/\I=J):=by
 refine Ce3 Tryz.func190 C C ?_
 exact Af<|Ge1 (Bg (cs:=[_,_]) C C C) λb1=>Ge1 (Bg (cs:=[_,_,_]) C C C) λZ=>Ga C<|Ac<|Af<|Ga C<|Ac<|Az<|A1 C C I Ay ⟨rfl,rfl⟩
theorem Rule2_ok :
    eu prog κ 192 [.agg #[e7 nd,va],.agg #[e7 kd,e7 wd,e7 mo],e7 nw] I (λr J=>∃b c,r = .func (.func 193) #[] #[(pt b),pt c]/\J=e8 b [e7 nw] 3::e8 c [e7 kd,e7 wd,e7 mo] 29::I):=by
 refine Ce3 Tryz.func192 C C ?_
 exact Af<|Ge1 (Bg (cs:=[_,_]) C C C) λb1=>Ge1 (Bg (cs:=[_,_,_]) C C C) λM=>Ge1 (Bg (cs:=[_]) C C C) λZ=>Ga C<|Ac<|Af<|Gr (Dw C C)<|Ga C<|Ac<|Az<|A1 C C (e8 Z [e7 nw] 3::e8 M [e7 kd,e7 wd,e7 mo] 29::I) Bc ⟨Z,M,rfl,rfl⟩
theorem Rules_ok  :
    eu prog κ 174 [] I (λr J=>∃m,r = .map (some m)/\J=mp m [({key:=e7 1,val:= .func (.func 190) #[] #[],born:=0}:MapEntry),({key:=e7 2,val:= .func (.func 192) #[] #[],born:=1}:MapEntry),({key:=e7 3,val:= .func (.func 194) #[] #[],born:=2}:MapEntry)] 3::I):=by
 refine Ce0 Tryz.func174 C C ?_
 refine Af<|Ga C<|Ac<|Af<|Ge1 (Eff.makeMap C) λZ=>?_
 refine Ge0 (Eff.insertK D6 Ce C C C C C am) ?_
 refine Ge0 (Eff.insertK D6 Ce C C C C C am) ?_
 refine Ge0 (Eff.insertK D6 Ce C C C C C am) ?_
 exact Gm C<|Ga C<|Ac<|Az<|A1 C C (mp Z [({key:=e7 1,val:= .func (.func 190) #[] #[],born:=0}:MapEntry),({key:=e7 2,val:= .func (.func 192) #[] #[],born:=1}:MapEntry),({key:=e7 3,val:= .func (.func 194) #[] #[],born:=2}:MapEntry)] 3::I) Bc ⟨Z,rfl,rfl⟩
variable {κ:Ctx}{I:List Item}
def Lk.lcmp(a c:Lk):Int:=orL [cmpI c.tm a.tm,Lk.cmp c a]
def Lk.late(a c:Lk):Prop:=c.tm<a.tm\/(a.tm=c.tm/\Lk.lt c a)
instance:DecidableRel Lk.late:=λa c=>by unfold Lk.late;infer_instance
theorem Lk.lcmp_lt(a c:Lk):Lk.lcmp a c<0↔Lk.late a c:=by
 unfold Lk.lcmp Lk.late
 rw [←Lk.cmp_lt]
 simp only [orL,cmpI]
 generalize Lk.cmp c a=z
 (repeat' split)<;>omega
def SortedK(xs ys:List Lk):Prop:=ys.Perm xs/\ys.Pairwise λa b=>¬Lk.late b a
open Go.Proofs Go.Shelf Go.Sort in
theorem swo_lk:SWO (ltOf Lk.lcmp) where
 irrefl x:=decide_eq_false λh=>by rw [Lk.lcmp_lt] at h;unfold Lk.late Lk.lt Pt.lt Lk.p at h;simp only at h;omega
 trans x y z h1 h2:=decide_eq_true (by
  have a:=of_decide_eq_true h1
  have b:=of_decide_eq_true h2
  rw [Lk.lcmp_lt] at a b ⊢
  unfold Lk.late Lk.lt Pt.lt Lk.p at a b ⊢
  simp only at a b ⊢
  omega)
 ntrans x y z h1 h2:=decide_eq_false λh=>by
  have a:=of_decide_eq_false h1
  have b:=of_decide_eq_false h2
  rw [Lk.lcmp_lt] at a b h
  unfold Lk.late Lk.lt Pt.lt Lk.p at a b h
  simp only at a b h
  omega
theorem CloneL(hl:Sl κ I (.slice a xs.length c) xs)(hb:xs.length<=1000000000):eu prog κ 127 [.slice a xs.length c] I (λr J=>∃a' c',r = .slice a' xs.length c'/\J=vk 82 a' c' xs::I):=by
 refine B8 (p:=a.isNone=true->xs=[]/\c=0) (λw hs hn=>hl.isNone w hs hn) λZ=>?_
 refine Ce1 Tryz.func127 C C ?_
 refine Af<|Ga C<|Ac<|Aq<|Af<|Gm C<|Gr (Runs.eqnil A9 C C)<|Ac<|D4 C (λc4=>?_)<|λc4=>?_
 ·refine Af (Ga C<|Ac<|Az<|Ap ?_)
  obtain ⟨ab,_⟩:=Z c4
  subst ab
  exact A1 C C (vk 82 none 0 ([]:List Lk)::I) (Cb _ _) ⟨none,0,rfl,rfl⟩
 refine Av<|Ah<|Af<|Ge1 (Eff.bs0 (α:=Lk) A9 ty82 C) λad=>?_
 refine Gm C<|Ge2 (Cg (α:=Lk) (e:=82) (xs:=([]:List Lk)) (ys:=xs) A9 ty82 C C C mm (A8 hl) (by simp only [List.length_nil];omega) dc C<|λ_ _=>am) λM aa=>?_
 exact Ga C<|Ac<|Az<|A1 C C (vk 82 M aa xs::I) Bc ⟨M,aa,rfl,rfl⟩
theorem LastCmp_ok(a c:Lk):eu prog κ 212 [.agg #[e7 (a.u),e7 (a.v),e7 (a.w),e7 (a.lb),e7 (a.sg),e7 (a.tm)],.agg #[e7 (c.u),e7 (c.v),e7 (c.w),e7 (c.lb),e7 (c.sg),e7 (c.tm)]] I (λr J=>r=e7 (Lk.lcmp a c)/\I=J):=by
 refine Ce2 Tryz.func212 C C ?_
 refine Af<|Ge1 (Bg (cs:=[_,_,_,_,_,_]) C C C) λb1=>Ge1 (Bg (cs:=[_,_,_,_,_,_]) C C C) λM=>Ga C<|Ac<|Aq<|Bq mixed<|Ca (e8 M [e7 (c.u),e7<|c.v,e7<|c.w,e7<|c.lb,e7<|c.sg,e7<|c.tm] 82::e8 b1 [e7 (a.u),e7<|a.v,e7<|a.w,e7<|a.lb,e7<|a.sg,e7<|a.tm] 82::I) 10<|Dr 0 C (Ad fld82_5 C)<|Dr 1 C (Bb ef) ?_
 refine Dr 2 C (Ad fld82_5 C)<|Dr 3 C (Bb ef) ?_
 refine Dr 5 C (Be (vs:=[_,_,_,_,_,_]) ty82) ?_
 refine Dr 6 C (Be (vs:=[_,_,_,_,_,_]) ty82) ?_
 refine Ds1 4<|Sc0 C (Ak c_ C C<|Compare_ok c.tm a.tm) ?_
 refine Ds1 7<|Sc0 C (Ak c_ C C<|OrderL_ok c a) ?_
 refine Ds1 8<|Se1 C (Cf (α:=Int) (cs:=[_,_]) (xs:=[cmpI c.tm a.tm,Lk.cmp c a]) Ab ef C C dc dc C C C C) λZ=>?_
 refine Ds1 9<|Sc0 C (Ak c_ C C<|Or_ok Bf) ?_
 refine Cs kr ?_
 refine Dy (i:=10) kr C (Bn C) C C (Bd C) ?_
 refine Ct kr ?_
 exact Ah<|Ao (S1 4 C)<|Az<|A1 C C I Ay ⟨rfl,rfl⟩
open Go.Proofs Go.Shelf Go.Sort in
theorem SortK_ok{κ:Ctx}{I:List Item}(aa:xs.length<1000000000):eu prog κ 211 [.slice a xs.length c,.func (.func 212) #[] #[]] (vk 82 a c xs::I) λr J=>∃ys:List Lk,(r = .tuple #[]/\SortedK xs ys/\ys.length=xs.length)/\J=[]++vc 82 (.slice a xs.length c) ys::I:=
 (sort_any (α:=Lk) (ρ:=Tryz.sort211_ren) Tryz.sort211 Tryz.isAgg82 Tryz.sizeOf82 Lk.lcmp swo_lk 212 #[] (enters_of Tryz.func212 (by kernel_rfl) rfl) (λx y W=>lays_of<|LastCmp_ok x y) om).mono λr J ⟨ys,⟨M,Z,h3⟩,h4⟩=>
  ⟨ys,⟨M,⟨Z,h3.imp fun {a b} h=>by rw [←Lk.lcmp_lt];exact of_decide_eq_false h⟩,Z.length_eq⟩,by rw [h4,Z.length_eq]⟩
theorem SortK_at{F:Item->List Item}{n:Nat}(M:AtF I (vc 82 (.slice a n c) xs) F)(hn:xs.length=n)(aa:xs.length<1000000000):eu prog κ 211 [.slice a n c,.func (.func 212) #[] #[]] I λr J=>∃ys:List Lk,(r = .tuple #[]/\SortedK xs ys/\ys.length=n)/\J=[]++F (vc 82 (.slice a n c) ys):=
 eu.at (Z:=λ_=>[]) (X:=λys:List Lk=>vc 82 (.slice a n c) ys) (Post:=λr ys=>r = .tuple #[]/\SortedK xs ys/\ys.length=n) M λJ _ _=>by subst hn;exact SortK_ok aa
theorem Last_ok(hl:Sl κ I (.slice a0 xs.length c0) xs)(h0:0<=mo)(ah:xs.length<=1000000):eu prog κ 195 [.agg #[e7 nd,.slice a0 xs.length c0],e7 mo] I (λr J=>∃(a:Option Addr) (c:Nat) (ys:List Lk) (m:Nat),r = .slice a (List.take m ys).length c/\(SortedK xs ys/\ys.length=xs.length/\(m:Int)<=mo/\m<=xs.length/\((m:Int)=mo\/m=xs.length))/\J=vc 82 (.slice a xs.length c) ys::I):=by
 refine Ce2 Tryz.func195 C C ?_
 refine Af<|Ge1 (Bg (cs:=[_,_]) C C C) λb1=>Ga C<|Ac<|Af<|Gf fld35_1 C<|Gl ty33 ?_
 refine G.e (Ak c_ C C<|CloneL (xs:=xs) (A8 hl) om) ?_
 rintro _ _ ⟨_,_,⟨Z,M,rfl,rfl⟩,rfl,rfl⟩
 refine Ga C<|Ac<|Af<|Gm C<|G.e (Ak c_ C C<|SortK_at (by repeat (first|exact AtF.head _ _|apply AtF.tail)) C om) ?_
 rintro _ _ ⟨_,_,⟨aa,⟨rfl,ab,ad⟩,rfl⟩,rfl,rfl⟩
 show G prog κ _ _ _ _ ([(10,.tuple #[]),(9,.slice Z xs.length M),(5,.slice Z xs.length M),(8,.slice Z xs.length M),(7,.slice a0 xs.length c0),(6,.pointer<|some ⟨b1,1,none⟩),(4,.slice none 0 0),(2,pt b1),(0,.agg #[e7 nd,.slice a0 xs.length c0]),(1,e7 mo)]:Env) (vc 82 (.slice Z xs.length M) (aa)::e8 b1 [e7 nd,.slice a0 xs.length c0] 35::I)
 refine Ac<|Af<|Gm C<|Gm C<|Gm C<|Gr (Bh A9 C)<|Gr (Ep C C)<|Gr (Runs.hi (α:=Lk) (xs:=aa) (h:=(if ((xs.length:Nat):Int)<mo then ((xs.length:Nat):Int) else mo).toNat) A9 ty82 C C om Bf<|by split<;>omega)<|Ga C<|Ac<|Ao (S1 4 C)<|Az ?_
 have ae:(((((if ((xs.length:Nat):Int)<mo then ((xs.length:Nat):Int) else mo).toNat)):Nat):Int)<=mo/\(((if ((xs.length:Nat):Int)<mo then ((xs.length:Nat):Int) else mo).toNat))<=xs.length/\((((((if ((xs.length:Nat):Int)<mo then ((xs.length:Nat):Int) else mo).toNat)):Nat):Int)=mo\/(((if ((xs.length:Nat):Int)<mo then ((xs.length:Nat):Int) else mo).toNat))=xs.length):=by split<;>omega
 exact A1 C C (vc 82 (.slice Z xs.length M) (aa)::I) Bc ⟨Z,M,aa,((if ((xs.length:Nat):Int)<mo then ((xs.length:Nat):Int) else mo).toNat),rfl,⟨ab,ad,ae⟩,rfl⟩
theorem IndexL_ok(M:Sl κ I v xs)(x:Lk):eu prog κ 213 [v,.agg #[e7 (x.u),e7 (x.v),e7 (x.w),e7 (x.lb),e7 (x.sg),e7 (x.tm)]] I (λr J=>∃y:Int,r=e7 y/\(0<=y↔x∈xs)/\I=J):=by
 refine B8 M.le λaa=>?_
 refine Ce2 Tryz.func213 C C ?_
 refine Af<|Ge1 (Bg (cs:=[_,_,_,_,_,_]) C C C) λb1=>Ga C<|Ac<|Aq<|Af<|Gm C<|Gr (B9 (α:=Lk) (xs:=xs) A9 C<|A8 M)<|Gm C<|Ac<|Aw<|Bu (σ:=Nat) (λs=>([(0,v),(3,pt b1),(7,e7 ((xs.length:Nat):Int)),(8,e7 ((s:Nat):Int))]:Env)) (λs=>e8 b1 [e7 (x.u),e7<|x.v,e7<|x.w,e7<|x.lb,e7<|x.sg,e7<|x.tm] 82::I) (λs=>(s<=xs.length)/\(∀j,j<s->e_ xs j≠x)) (λs=>xs.length - s) 0 (show ((0:Nat)<=xs.length)/\(∀j,j<(0:Nat)->e_ xs j≠x) from ⟨om,all_zero⟩) (Aa C<|Aa C<|Aa C<|Aa B2 Bi) (show Fit κ _ (e8 b1 [e7 (x.u),e7<|x.v,e7<|x.w,e7<|x.lb,e7<|x.sg,e7<|x.tm] 82::I) from Bc) ?_
 rintro k hp
 obtain ⟨hk,hn⟩:=hp
 refine Af<|Gr (A4 C C)<|Ac<|Aq<|A5 C (λc9=>?_)<|λc9=>?_
 ·refine Av (Ah<|Aq<|Aw<|Af<|Gm C<|Ga C<|Ac<|Aq<|Bq mixed<|Ca (e8 b1 [e7 (x.u),e7<|x.v,e7<|x.w,e7<|x.lb,e7<|x.sg,e7<|x.tm] 82::I) 6<|Dr 0 C (Be (vs:=[_,_,_,_,_,_]) ty82) ?_)
  refine Dr 1 C (Ai C)<|Dr 2 C (Ai C)<|Dr 3 C (Ax (α:=Lk) (xs:=xs) A9 ty82 C C (A8 M) om om)<|Dr 4 C (Bx (α:=Lk) (xs:=xs) ty82 C (A8 M) om om)<|Dr 5 C (Runs.eqlT (α:=Lk) (a:=x) (b:=(e_ xs k)) eqt82 C C)<|Dz<|Ah<|A5 C (λZ=>?_)<|λZ=>?_
  ·refine Af (Gm C<|Ga C<|Ac<|Ao (S1 4 C)<|Az<|A7<|Ap<|Ap<|A7<|Ap ?_)
   have hm:x∈xs:=by rw [show x=e_ xs k from Z];exact B1 om om
   exact A1 C C I Ay ⟨_,rfl,⟨λ_=>hm,λ_=>by omega⟩,rfl⟩
  exact Av<|Aj<|Ah<|Ar<|Gr (Rad C C)<|Gm C<|Bj<|B3 ((k+1)) ⟨om,(all_succ hn<|λe=>Z e.symm)⟩
 refine Bs<|Al<|Al<|A2<|Ah<|Af<|Ga C<|Ac<|Az ?_
 have hm:x∉xs:=not_mem_at hn om
 exact A1 C C I Ay ⟨_,rfl,⟨λh=>absurd h dc,λh=>absurd h hm⟩,rfl⟩
theorem ContainsL_ok(M:Sl κ I v xs)(x:Lk):eu prog κ 197 [v,.agg #[e7 (x.u),e7 (x.v),e7 (x.w),e7 (x.lb),e7 (x.sg),e7 (x.tm)]] I (λr J=>r = .bool (decide (x∈xs))/\I=J):=by
 refine Ce2 Tryz.func197 C C ?_
 refine Af<|Ge1 (Bg (cs:=[_,_,_,_,_,_]) C C C) λb1=>Ga C<|Ac<|Af<|Gm C<|Gl6 ty82 ?_
 refine G.e (Ak c_ C C<|IndexL_ok (A8 M) x) ?_
 rintro _ _ ⟨_,_,⟨y2,rfl,Z,rfl⟩,rfl,rfl⟩
 exact Gr (Cr C C)<|Ga C<|Ac<|Az<|A1 C C I Ay ⟨by rw [decide_eq_decide.2 asm],rfl⟩
theorem Last1_ok{zs:List Lk}(M:BlkRd κ I b [v] 33)(Z:Sl κ I v zs)(x:Lk):eu prog κ 196 [.agg #[e7 (x.u),e7 (x.v),e7 (x.w),e7 (x.lb),e7 (x.sg),e7 (x.tm)],(pt b)] I (λr J=>r = .bool (decide (x∈zs))/\I=J):=by
 refine Ce2 Tryz.func196 C C ?_
 refine Af<|Ge1 (Bg (cs:=[_,_,_,_,_,_]) C C C) λb1=>Ga C<|Ac<|Af<|Gr (D9 ty33 C (Em M Ay) C)<|Gl6 ty82 ?_
 refine Gc0 (Ak c_ C C<|ContainsL_ok (A8 Z) x) ?_
 exact Ga C<|Ac<|Az<|A1 C C I Ay ⟨rfl,rfl⟩
theorem Rule3_ok(hl:Sl κ I (.slice a0 xs.length c0) xs)(h0:0<=mo)(ae:xs.length<=1000000):eu prog κ 194 [.agg #[e7 nd,.slice a0 xs.length c0],.agg #[e7 kd,e7 wd,e7 mo],e7 nw] I (λr J=>∃(b:Nat) (a:Option Addr) (c:Nat) (ys:List Lk) (m:Nat),r = .func (.func 196) #[] #[(pt b)]/\(SortedK xs ys/\ys.length=xs.length/\(m:Int)<=mo/\m<=xs.length/\((m:Int)=mo\/m=xs.length))/\J=e8 b [.slice a (List.take m ys).length c] 33::vc 82 (.slice a xs.length c) ys::I):=by
 refine Ce3 Tryz.func194 C C ?_
 refine Af<|Ge1 (Bg (cs:=[_,_]) C C C) λb1=>Ge1 (Bg (cs:=[_,_,_]) C C C) λb2=>Ga C<|Ac<|Af<|Gl2 ty35 ?_
 refine Gf fld29_2 C<|Gl ef ?_
 refine G.e (Ak c_ C C<|Last_ok (nd:=nd) (A8 hl) h0 om) ?_
 rintro _ _ ⟨_,_,⟨aa,ab,M,ad,rfl,Z,rfl⟩,rfl,rfl⟩
 refine Ge1 (A3 ty33 C) λb7=>Ge0 (Cd (cs:=[_]) (vs:=[_]) (cs':=[_]) ty33) ?_
 exact Ac<|Af<|Gr (Dw C C)<|Ga C<|Ac<|Az<|A1 C C (e8 b7 [.slice aa (List.take ad M).length ab] 33::vc 82 (.slice aa xs.length ab) (M)::I) Bc ⟨b7,aa,ab,M,ad,rfl,Z,rfl⟩
end Go.Sl
namespace Go.Sl
variable{kd mo n nd nw wd:Int}{xs ys:List Lk}
theorem scan0:∀(xs:List Lk) (q:Lk),scanL (badL n) Lk.lt (some q) xs=0->(∀x∈xs,badL n x=0)/\(q::xs).Pairwise Lk.lt
 |[],q,_=>by simp
 |p::ps,q,h=>by
  simp only [scanL] at h
  by_cases hb:badL n p=0
  ·rw [if_neg (by simp [hb])] at h
   by_cases hl:Lk.lt q p
   ·rw [if_pos hl] at h
    obtain ⟨M,Z⟩:=scan0 ps p h
    refine ⟨λx hx=>?_,List.pairwise_cons.2 ⟨λx hx=>?_,Z⟩⟩
    ·rcases List.mem_cons.1 hx with rfl|hx
     ·exact hb
     exact M x hx
    rcases List.mem_cons.1 hx with rfl|hx
    ·exact hl
    exact Pt.lin.tr _ _ _ hl<|(List.pairwise_cons.1 Z).1 x hx
   rw [if_neg hl] at h;cases h
  rw [if_pos hb] at h;exact absurd h hb
theorem checkS_ok(h:checkS n xs=0):(0<=n/\n<=64)/\(∀x∈xs,badL n x=0)/\xs.Pairwise Lk.lt:=by
 unfold checkS at h
 by_cases hn:n<0\/64<n
 ·rw [if_pos hn] at h;cases h
 rw [if_neg hn] at h
 refine ⟨by omega,?_⟩
 cases xs with
 |nil=>exact ⟨(λx hx=>by cases hx),List.Pairwise.nil⟩
 |cons p ps=>
  simp only [scanL] at h
  by_cases hb:badL n p=0
  ·rw [if_neg (by simp [hb])] at h
   obtain ⟨Z,M⟩:=scan0 ps p h
   exact ⟨λx hx=>by
    rcases List.mem_cons.1 hx with rfl|hx
    ·exact hb
    exact Z x hx,M⟩
  rw [if_pos hb] at h;exact absurd h hb
theorem badL_tm{l:Lk}(h:badL n l=0):0<=l.tm/\l.tm<=1048576:=by
 unfold badL at h
 split at h
 ·cases h
 split at h
 ·cases h
 split at h
 ·cases h
 omega
structure AskOk (nd:Int) (xs:List Lk) (kd wd mo nw:Int):Prop where
 kind:1<=kd/\kd<=3
 width:kd=2->1<=wd/\wd<=1048576
 most:kd=3->0<=mo/\mo<=2016
 nodes:0<=nd/\nd<=64
 asc:xs.Pairwise Lk.lt
 now:0<=nw/\nw<=1048576
 tm:∀x∈xs,0<=x.tm/\x.tm<=nw
theorem askE_ok(h:askE nd xs kd wd mo nw=0):AskOk nd xs kd wd mo nw:=by
 unfold askE at h
 by_cases h1:checkW kd wd mo=0
 ·rw [if_neg (by simp [h1])] at h
  by_cases h2:checkS nd xs=0
  ·rw [if_neg (by simp [h2])] at h
   obtain ⟨h3,h4,h5⟩:=checkS_ok h2
   split at h
   ·cases h
   rename_i h6
   have Z:(1<=kd/\kd<=3)/\(kd=2->1<=wd/\wd<=1048576)/\(kd=3->0<=mo/\mo<=2016):=by
    unfold checkW at h1
    split at h1
    ·cases h1
    split at h1
    ·cases h1
    omega
   refine ⟨Z.1,Z.2.1,Z.2.2,h3,h5,by omega,λx M=>?_⟩
   have h7:=badL_tm (h4 x M)
   refine ⟨h7.1,?_⟩
   by_cases h8:nw<x.tm
   ·exact absurd (.inr<|.inr<|List.any_eq_true.2 ⟨x,M,decide_eq_true h8⟩) h6
   omega
  rw [if_pos h2] at h;exact absurd h h2
 rw [if_pos h1] at h;exact absurd h h1
def rankL(xs:List Lk)(x:Lk):Nat:=(xs.filter λy=>decide (Lk.late y x)).length
def inW(kd wd mo nw:Int)(xs:List Lk)(x:Lk):Bool:=if kd=2 then decide (nw - x.tm<wd) else if kd=3 then decide ((rankL xs x:Int)<mo) else true
theorem late_irr(x:Lk):¬Lk.late x x:=by unfold Lk.late Lk.lt Pt.lt;omega
theorem late_asymm{x y:Lk}(h:Lk.late x y):¬Lk.late y x:=by unfold Lk.late Lk.lt Pt.lt at *; omega
theorem rank_at:∀(ys:List Lk) (i:Nat) (hi:i<ys.length),ys.Pairwise Lk.late->rankL ys ys[i]=i
 |[],i,hi,_=>absurd hi (by simp)
 |y::ys,0,hi,hp=>by
  obtain ⟨M,h2⟩:=List.pairwise_cons.1 hp
  unfold rankL
  rw [List.filter_eq_nil_iff.2 λz hz=>?_]
  ·rfl
  simp only [List.getElem_cons_zero,decide_eq_true_eq]
  rcases List.mem_cons.1 hz with rfl|hz
  ·exact late_irr _
  exact late_asymm<|M z hz
 |y::ys,i+1,hi,hp=>by
  obtain ⟨M,h2⟩:=List.pairwise_cons.1 hp
  have Z:i<ys.length:=by simpa using hi
  have ih:=rank_at ys i Z h2
  unfold rankL at ih ⊢
  rw [List.getElem_cons_succ,List.filter_cons,if_pos<|decide_eq_true<|M _<|List.getElem_mem Z,List.length_cons,ih]
theorem sortedK_late(h:SortedK xs ys)(ha:xs.Pairwise Lk.lt):ys.Pairwise Lk.late:=by
 have h1:xs.Pairwise λa b=>Lk.late a b\/Lk.late b a:=ha.imp fun {a b} Z=>by unfold Lk.late Lk.lt Pt.lt at *; omega
 have h2:ys.Pairwise λa b=>Lk.late a b\/Lk.late b a:=(h.1.pairwise_iff fun {x y} M=>M.symm).2 h1
 exact (h2.and h.2).imp fun {a b} Z=>Z.1.resolve_right Z.2
theorem take_rank(h:SortedK xs ys)(ha:xs.Pairwise Lk.lt){x:Lk}(hx:x∈xs)(m:Nat):x∈ys.take m↔rankL xs x<m:=by
 have hp:=sortedK_late h ha
 have hr:∀z,rankL xs z=rankL ys z:=λz=>by unfold rankL;exact ((h.1.filter _).length_eq).symm
 constructor
 ·intro M
  obtain ⟨j,hj,Z⟩:=List.mem_take_iff_getElem.1 M
  rw [hr,←Z,rank_at ys j om hp];omega
 intro M
 obtain ⟨j,hj,Z⟩:=List.getElem_of_mem (h.1.mem_iff.2 hx)
 rw [hr,←Z,rank_at ys j hj hp] at M
 exact List.mem_take_iff_getElem.2 ⟨j,by omega,Z⟩
theorem inW_all(M:kd=1):(xs.filter λ_=>true)=xs.filter (inW kd wd mo nw xs):=
 List.filter_congr λx Z=>by unfold inW;rw [if_neg om,if_neg om]
theorem inW_age(h:AskOk nd xs kd wd mo nw)(M:kd=2):(xs.filter λx=>decide (IntKind.i64.wrap (nw - x.tm)<wd))=xs.filter (inW kd wd mo nw xs):=
 List.filter_congr λx Z=>by
  have h1:=h.tm x Z
  have h2:=h.now
  unfold inW;rw [if_pos M,InR.wrap<|by unfold InR;omega]
theorem inW_last{m:Nat}(h:AskOk nd xs kd wd mo nw)(hk:kd=3)(hs:SortedK xs ys/\ys.length=xs.length/\(m:Int)<=mo/\m<=xs.length/\((m:Int)=mo\/m=xs.length)) :
  (xs.filter λx=>decide<|x∈ys.take m)=xs.filter (inW kd wd mo nw xs):=
 List.filter_congr λx Z=>by
  unfold inW;rw [if_neg om,if_pos hk,decide_eq_decide,take_rank hs.1 h.asc Z]
  have hlt:rankL xs x<xs.length:=by
   have h1:=List.length_filter_le (λy=>decide<|Lk.late y x) xs
   obtain ⟨j,M,he⟩:=List.getElem_of_mem (hs.1.1.mem_iff.2 Z)
   have h2:rankL xs x=j:=by
    have:rankL xs x=rankL ys x:=by unfold rankL;exact ((hs.1.1.filter _).length_eq).symm
    rw [this,←he,rank_at ys j M<|sortedK_late hs.1 h.asc]
   omega
  omega
end Go.Sl
namespace Go.Sl
open Go.Proofs
set_option maxRecDepth 4000
variable{xs:List Lk}{c0 k:Nat}{mo nd nw wd:Int}{a0:Option Addr}
variable {κ:Ctx}{I:List Item}
def cutEv(nw:Int)(l:Lk):Ev:=⟨2,nw,l.u,l.v,0,0,0⟩
theorem gone_yes{P:Lk->Bool}{f:Lk->Ev}(Z:k<xs.length)(h:P (e_ xs k)=false):((xs.take (k+1)).filter λx=> !P x).map f=((xs.take k).filter λx=> !P x).map f++[f (e_ xs k)]:=by
 rw [Cj xs k Z,List.filter_append,List.map_append];simp [h]
theorem gone_no{P:Lk->Bool}{f:Lk->Ev}(Z:k<xs.length)(h:P (e_ xs k)=true):((xs.take (k+1)).filter λx=> !P x).map f=((xs.take k).filter λx=> !P x).map f:=by
 rw [Cj xs k Z,List.filter_append,List.map_append];simp [h]
theorem filt_not{P R:Lk->Bool}(h:xs.filter P=xs.filter R):(xs.filter λx=> !P x)=xs.filter λx=> !R x:=
 List.filter_congr λx M=>by
  have Z:x∈xs.filter P↔x∈xs.filter R:=by rw [h]
  rw [List.mem_filter,List.mem_filter] at Z
  simp only [M,true_and] at Z
  cases hp:P x<;>cases hr:R x<;>simp_all
def goneL(kd wd mo nw:Int)(xs:List Lk):List Ev:=(xs.filter λx=> !inW kd wd mo nw xs x).map (cutEv nw)
theorem Gone_ok(l:Lk)(nw:Int):eu prog κ 175 [.agg #[e7 (l.u),e7 (l.v),e7 (l.w),e7 (l.lb),e7 (l.sg),e7 (l.tm)],e7 nw] I (λr J=>r = .agg #[e7 2,e7 nw,e7 l.u,e7 l.v,e7 0,e7 0,e7 0]/\I=J):=by
 refine Ce2 Tryz.func175 C C ?_
 refine Af<|Ge1 (Bg (cs:=[_,_,_,_,_,_]) C C C) λb1=>Ge1 (A3 ty54 C) λZ=>Ac<|Af<|Gm C<|Gf fld82_0 C<|Gl ef ?_
 refine Gf fld82_1 C<|Gl ef ?_
 refine Gr (Bp (cells:=[_,_,_,_,_,_,_]) ty54 Dh pl54 C C)<|Ge0 (Es7_7 ty54) ?_
 exact Ac<|Az<|E6 C ty54 C mm C I Ay ⟨rfl,rfl⟩
theorem Gone1_ok{M:Option Addr}{Z:Nat}(hl:Sl κ I (.slice M xs.length Z) xs)(ad:xs.length<=1000000)(hA:askE nd xs 1 wd mo nw=0):eu prog κ 153 [.agg #[e7 nd,.slice M xs.length Z],.agg #[e7 1,e7 wd,e7 mo],e7 nw] I (λr J=>∃a c,r = .slice a (goneL 1 wd mo nw xs).length c/\J=vk 54 a c (goneL 1 wd mo nw xs)::I):=by
 refine Ce3 Tryz.func153 C C ?_
 refine Af<|Ge1 (Bg (cs:=[_,_]) C C C) λb1=>Ge1 (Bg (cs:=[_,_,_]) C C C) λb2=>Ga C<|Ac<|Aq<|Bq mixed<|Ca (e8 b2 [e7 1,e7 wd,e7 mo] 29::e8 b1 [e7 nd,.slice M xs.length Z] 35::I) 9<|Dr 1 C (Ad fld29_0 C)<|Dr 2 C (Bb ef) ?_
 refine Dr 4 C (Be (vs:=[_,_]) ty35) ?_
 refine Dr 5 C (Be (vs:=[_,_,_]) ty29) ?_
 refine Dr 6 C (Ai C)<|Ds1 0<|Se C (Ak c_ C C Rules_ok) ?_
 rintro _ _ ⟨_,_,⟨aa,rfl,rfl⟩,rfl,rfl⟩
 refine ⟨Bc,?_⟩
 refine Ds1 3<|Sr C (Runs.lookupK (i:=0) D6 Ce C C C mm C) Bc ?_
 refine Ds1 7<|Se C (Cv c_ C C C Rule1_ok) ?_
 rintro _ _ ⟨_,_,⟨rfl,rfl⟩,rfl,rfl⟩
 refine ⟨Bc,?_⟩
 refine Dr 8 C (Bd C)<|Dz<|Ah<|Ao (S3 7 3 2 C C C)<|Af<|Ga C<|Ac<|Aq<|Af<|Gf fld35_1 C<|Gl ty33 ?_
 refine Gr (Bh A9 C)<|Gm C<|Ac<|Aw<|Bu (σ:=Nat×(Option Addr)×Nat×(List Ev)) (λs=>([(2,e7 nw),(7,.func (.func 191) #[] #[]),(8,.slice s.2.1 s.2.2.2.length s.2.2.1),(20,.slice M xs.length Z),(21,e7 ((xs.length:Nat):Int)),(22,e7 ((s.1:Nat):Int))]:Env)) (λs=>vk 54 s.2.1 s.2.2.1 s.2.2.2::mp aa [({key:=e7 1,val:= .func (.func 190) #[] #[],born:=0}:MapEntry),({key:=e7 2,val:= .func (.func 192) #[] #[],born:=1}:MapEntry),({key:=e7 3,val:= .func (.func 194) #[] #[],born:=2}:MapEntry)] 3::e8 b2 [e7 1,e7 wd,e7 mo] 29::e8 b1 [e7 nd,.slice M xs.length Z] 35::I) (λs=>(s.1<=xs.length)/\(s.2.2.2=((xs.take s.1).filter λx=> !(λ_:Lk=>true) x).map (cutEv nw))) (λs=>xs.length - s.1) (0,none,0,[]) (show ((0:Nat)<=xs.length)/\(([]:List Ev)=((xs.take (0:Nat)).filter λx=> !(λ_:Lk=>true) x).map (cutEv nw)) from ⟨om,rfl⟩) (Aa C<|Aa C<|Aa (Cx C<|by first|rfl|simp)<|Aa C<|Aa C<|Aa B2 Bi) (show Fit κ _ (vk 54 none 0 ([])::mp aa [({key:=e7 1,val:= .func (.func 190) #[] #[],born:=0}:MapEntry),({key:=e7 2,val:= .func (.func 192) #[] #[],born:=1}:MapEntry),({key:=e7 3,val:= .func (.func 194) #[] #[],born:=2}:MapEntry)] 3::e8 b2 [e7 1,e7 wd,e7 mo] 29::e8 b1 [e7 nd,.slice M xs.length Z] 35::I) from (Cb _ _)) ?_
 rintro ⟨k,a,c,out⟩ hp
 dsimp only at hp ⊢
 obtain ⟨hk,ho⟩:=hp
 have ae:out.length<=xs.length:=by rw [ho,List.length_map];refine Nat.le_trans (List.length_filter_le _ _) ?_;simp only [List.length_take];omega
 refine Af<|Gr (A4 C C)<|Ac<|Aq<|A5 C (λab=>?_)<|λab=>?_
 ·refine Av (Ah<|Aq<|Aw<|Af<|Gr (Ax (α:=Lk) (xs:=xs) A9 ty82 C C (A8 hl) om om)<|Gr (Bx (α:=Lk) (xs:=xs) ty82 C (A8 hl) om om)<|Ge1 (A3 ty82 C) λb4=>Ge0 (Es6_6 ty82) ?_)
  refine Ac<|Af<|Gm C<|Gl6 ty82 ?_
  refine Gc0 (Cv c_ C C C<|All1_ok<|e_ xs k) ?_
  exact Gr (Co C)<|Ac<|Ao (S8 29 10 2 7 8 20 21 22 C C C C C C C C)<|Dp C<|Av<|Aj<|Ah<|Ar<|Gr (Rad C C)<|Gm C<|Bj<|B3 ((k+1),(a),(c),(out))<|by dsimp only;exact ⟨om,(by first|(rw [gone_yes (P:=(λ_:Lk=>true)) om (decide_eq_false c29),←ho];done)|(rw [gone_yes (P:=(λ_:Lk=>true)) om (decide_eq_false c29),←ho];rfl)|(rw [gone_no (P:=(λ_:Lk=>true)) om (decide_eq_true<|Classical.not_not.1 c29),←ho])|(rw [gone_no (P:=(λ_:Lk=>true)) om rfl,←ho]))⟩
 refine Bs<|Al<|Al<|A2<|Ah<|Af<|Gm C<|Ga C<|Ac<|Az ?_
 have hE:out=(goneL 1 wd mo nw xs):=by rw [ho,show List.take k xs=xs from List.take_of_length_le om];unfold goneL;rw [filt_not (P:=(λ_:Lk=>true)) (inW_all rfl)]
 subst hE
 exact A1 C C (vk 54 a c (goneL 1 wd mo nw xs)::I) Bc ⟨a,c,rfl,rfl⟩
theorem Gone2_ok{M:Nat}(hl:Sl κ I (.slice a0 xs.length M) xs)(ah:xs.length<=1000000)(hA:askE nd xs 2 wd mo nw=0):eu prog κ 153 [.agg #[e7 nd,.slice a0 xs.length M],.agg #[e7 2,e7 wd,e7 mo],e7 nw] I (λr J=>∃a c,r = .slice a (goneL 2 wd mo nw xs).length c/\J=vk 54 a c (goneL 2 wd mo nw xs)::I):=by
 refine Ce3 Tryz.func153 C C ?_
 refine Af<|Ge1 (Bg (cs:=[_,_]) C C C) λb1=>Ge1 (Bg (cs:=[_,_,_]) C C C) λb2=>Ga C<|Ac<|Aq<|Bq mixed<|Ca (e8 b2 [e7 2,e7 wd,e7 mo] 29::e8 b1 [e7 nd,.slice a0 xs.length M] 35::I) 9<|Dr 1 C (Ad fld29_0 C)<|Dr 2 C (Bb ef) ?_
 refine Dr 4 C (Be (vs:=[_,_]) ty35) ?_
 refine Dr 5 C (Be (vs:=[_,_,_]) ty29) ?_
 refine Dr 6 C (Ai C)<|Ds1 0<|Se C (Ak c_ C C Rules_ok) ?_
 rintro _ _ ⟨_,_,⟨aa,rfl,rfl⟩,rfl,rfl⟩
 refine ⟨Bc,?_⟩
 refine Ds1 3<|Sr C (Runs.lookupK (i:=1) D6 Ce C C C mm C) Bc ?_
 refine Ds1 7<|Sc2 C (Cv c_ C C C Rule2_ok) λb4 b5=>?_
 refine Dr 8 C (Bd C)<|Dz<|Ah<|Ao (S3 7 3 2 C C C)<|Af<|Ga C<|Ac<|Aq<|Af<|Gf fld35_1 C<|Gl ty33 ?_
 refine Gr (Bh A9 C)<|Gm C<|Ac<|Aw<|Bu (σ:=Nat×(Option Addr)×Nat×(List Ev)) (λs=>([(2,e7 nw),(7,.func (.func 193) #[] #[(pt b4),pt b5]),(8,.slice s.2.1 s.2.2.2.length s.2.2.1),(20,.slice a0 xs.length M),(21,e7 ((xs.length:Nat):Int)),(22,e7 ((s.1:Nat):Int))]:Env)) (λs=>vk 54 s.2.1 s.2.2.1 s.2.2.2::e8 b4 [e7 nw] 3::e8 b5 [e7 2,e7 wd,e7 mo] 29::mp aa [({key:=e7 1,val:= .func (.func 190) #[] #[],born:=0}:MapEntry),({key:=e7 2,val:= .func (.func 192) #[] #[],born:=1}:MapEntry),({key:=e7 3,val:= .func (.func 194) #[] #[],born:=2}:MapEntry)] 3::e8 b2 [e7 2,e7 wd,e7 mo] 29::e8 b1 [e7 nd,.slice a0 xs.length M] 35::I) (λs=>(s.1<=xs.length)/\(s.2.2.2=((xs.take s.1).filter λx=> !(λx:Lk=>decide<|IntKind.i64.wrap (nw - x.tm)<wd) x).map (cutEv nw))) (λs=>xs.length - s.1) (0,none,0,[]) (show ((0:Nat)<=xs.length)/\(([]:List Ev)=((xs.take (0:Nat)).filter λx=> !(λx:Lk=>decide<|IntKind.i64.wrap (nw - x.tm)<wd) x).map (cutEv nw)) from ⟨om,rfl⟩) (Aa C<|Aa C<|Aa (Cx C<|by first|rfl|simp)<|Aa C<|Aa C<|Aa B2 Bi) (show Fit κ _ (vk 54 none 0 ([])::e8 b4 [e7 nw] 3::e8 b5 [e7 2,e7 wd,e7 mo] 29::mp aa [({key:=e7 1,val:= .func (.func 190) #[] #[],born:=0}:MapEntry),({key:=e7 2,val:= .func (.func 192) #[] #[],born:=1}:MapEntry),({key:=e7 3,val:= .func (.func 194) #[] #[],born:=2}:MapEntry)] 3::e8 b2 [e7 2,e7 wd,e7 mo] 29::e8 b1 [e7 nd,.slice a0 xs.length M] 35::I) from (Cb _ _)) ?_
 rintro ⟨k,a,c,out⟩ hp
 dsimp only at hp ⊢
 obtain ⟨hk,ho⟩:=hp
 have ai:out.length<=xs.length:=by rw [ho,List.length_map];refine Nat.le_trans (List.length_filter_le _ _) ?_;simp only [List.length_take];omega
 refine Af<|Gr (A4 C C)<|Ac<|Aq<|A5 C (λad=>?_)<|λad=>?_
 ·refine Av (Ah<|Aq<|Aw<|Af<|Gr (Ax (α:=Lk) (xs:=xs) A9 ty82 C C (A8 hl) om om)<|Gr (Bx (α:=Lk) (xs:=xs) ty82 C (A8 hl) om om)<|Ge1 (A3 ty82 C) λb6=>Ge0 (Es6_6 ty82) ?_)
  refine Ac<|Af<|Gm C<|Gl6 ty82 ?_
  refine Gc0 (Cv c_ C C C<|Age1_ok (Ds mm) (Ds mm)<|e_ xs k) ?_
  refine Gr (Dk C)<|Ac<|Ao (S8 29 10 2 7 8 20 21 22 C C C C C C C C)<|A5 C (λZ=>?_)<|λZ=>?_
  ·refine Ar (Gm C<|Gl6 ty82 ?_)
   refine Gm C<|G.e (Ak c_ C C<|Gone_ok (e_ xs k) nw) ?_
   rintro _ _ ⟨_,_,⟨rfl,rfl⟩,rfl,rfl⟩
   refine Ge1 (Cf (α:=Ev) (cs:=[e7 2,e7 nw,e7<|(e_ xs k).u,e7<|(e_ xs k).v,e7 0,e7 0,e7 0]) (xs:=[⟨2,nw,(e_ xs k).u,(e_ xs k).v,0,0,0⟩]) A0 ty54 C C dc dc C kr C C) λaj=>?_
   refine Ge2 (Cg (α:=Ev) (e:=54) (xs:=out) (ys:=([⟨2,nw,(e_ xs k).u,(e_ xs k).v,0,0,0⟩]:List Ev)) A0 ty54 C C C mm Bf lcn dc C<|λ_ _=>am) λae ab=>?_
   exact Ga C<|Bj<|Aj<|Ah<|Ao (S6 8 2 7 20 21 22 C C C C C C)<|Ar<|Gr (Rad C C)<|Gm C<|Bj<|B3 ((k+1),(ae),(ab),(out++([⟨2,nw,(e_ xs k).u,(e_ xs k).v,0,0,0⟩]:List Ev)))<|by dsimp only;exact ⟨om,(by first|(rw [gone_yes (P:=(λx:Lk=>decide<|IntKind.i64.wrap (nw - x.tm)<wd)) om (decide_eq_false Z),←ho];done)|(rw [gone_yes (P:=(λx:Lk=>decide<|IntKind.i64.wrap (nw - x.tm)<wd)) om (decide_eq_false Z),←ho];rfl)|(rw [gone_no (P:=(λx:Lk=>decide<|IntKind.i64.wrap (nw - x.tm)<wd)) om (decide_eq_true<|Classical.not_not.1 Z),←ho])|(rw [gone_no (P:=(λx:Lk=>decide<|IntKind.i64.wrap (nw - x.tm)<wd)) om rfl,←ho]))⟩
  exact Av<|Aj<|Ah<|Ar<|Gr (Rad C C)<|Gm C<|Bj<|B3 ((k+1),(a),(c),(out))<|by dsimp only;exact ⟨om,(by first|(rw [gone_yes (P:=(λx:Lk=>decide<|IntKind.i64.wrap (nw - x.tm)<wd)) om (decide_eq_false Z),←ho];done)|(rw [gone_yes (P:=(λx:Lk=>decide<|IntKind.i64.wrap (nw - x.tm)<wd)) om (decide_eq_false Z),←ho];rfl)|(rw [gone_no (P:=(λx:Lk=>decide<|IntKind.i64.wrap (nw - x.tm)<wd)) om (decide_eq_true<|Classical.not_not.1 Z),←ho])|(rw [gone_no (P:=(λx:Lk=>decide<|IntKind.i64.wrap (nw - x.tm)<wd)) om rfl,←ho]))⟩
 refine Bs<|Al<|Al<|A2<|Ah<|Af<|Gm C<|Ga C<|Ac<|Az ?_
 have hE:out=(goneL 2 wd mo nw xs):=by rw [ho,show List.take k xs=xs from List.take_of_length_le om];unfold goneL;rw [filt_not (P:=(λx:Lk=>decide<|IntKind.i64.wrap (nw - x.tm)<wd)) (inW_age (askE_ok hA) rfl)]
 subst hE
 exact A1 C C (vk 54 a c (goneL 2 wd mo nw xs)::I) Bc ⟨a,c,rfl,rfl⟩
theorem Gone3_ok(hl:Sl κ I (.slice a0 xs.length c0) xs)(ap:xs.length<=1000000)(hA:askE nd xs 3 wd mo nw=0):eu prog κ 153 [.agg #[e7 nd,.slice a0 xs.length c0],.agg #[e7 3,e7 wd,e7 mo],e7 nw] I (λr J=>∃a c,r = .slice a (goneL 3 wd mo nw xs).length c/\J=vk 54 a c (goneL 3 wd mo nw xs)::I):=by
 refine Ce3 Tryz.func153 C C ?_
 refine Af<|Ge1 (Bg (cs:=[_,_]) C C C) λb1=>Ge1 (Bg (cs:=[_,_,_]) C C C) λb2=>Ga C<|Ac<|Aq<|Bq mixed<|Ca (e8 b2 [e7 3,e7 wd,e7 mo] 29::e8 b1 [e7 nd,.slice a0 xs.length c0] 35::I) 9<|Dr 1 C (Ad fld29_0 C)<|Dr 2 C (Bb ef) ?_
 refine Dr 4 C (Be (vs:=[_,_]) ty35) ?_
 refine Dr 5 C (Be (vs:=[_,_,_]) ty29) ?_
 refine Dr 6 C (Ai C)<|Ds1 0<|Se C (Ak c_ C C Rules_ok) ?_
 rintro _ _ ⟨_,_,⟨ai,rfl,rfl⟩,rfl,rfl⟩
 refine ⟨Bc,?_⟩
 refine Ds1 3<|Sr C (Runs.lookupK (i:=2) D6 Ce C C C mm C) Bc ?_
 refine Ds1 7<|Se C (Cv c_ C C C<|Rule3_ok (A8 hl) ((askE_ok hA).most C).1 om) ?_
 rintro _ _ ⟨_,_,⟨b4,ab,ad,Z,M,rfl,ae,rfl⟩,rfl,rfl⟩
 refine ⟨Bc,?_⟩
 refine Dr 8 C (Bd C)<|Dz<|Ah<|Ao (S3 7 3 2 C C C)<|Af<|Ga C<|Ac<|Aq<|Af<|Gf fld35_1 C<|Gl ty33 ?_
 refine Gr (Bh A9 C)<|Gm C<|Ac<|Aw<|Bu (σ:=Nat×(Option Addr)×Nat×(List Ev)) (λs=>([(2,e7 nw),(7,.func (.func 196) #[] #[(pt b4)]),(8,.slice s.2.1 s.2.2.2.length s.2.2.1),(20,.slice a0 xs.length c0),(21,e7 ((xs.length:Nat):Int)),(22,e7 ((s.1:Nat):Int))]:Env)) (λs=>vk 54 s.2.1 s.2.2.1 s.2.2.2::e8 b4 [.slice ab (List.take M Z).length ad] 33::vc 82 (.slice ab xs.length ad) (Z)::mp ai [({key:=e7 1,val:= .func (.func 190) #[] #[],born:=0}:MapEntry),({key:=e7 2,val:= .func (.func 192) #[] #[],born:=1}:MapEntry),({key:=e7 3,val:= .func (.func 194) #[] #[],born:=2}:MapEntry)] 3::e8 b2 [e7 3,e7 wd,e7 mo] 29::e8 b1 [e7 nd,.slice a0 xs.length c0] 35::I) (λs=>(s.1<=xs.length)/\(s.2.2.2=((xs.take s.1).filter λx=> !(λx:Lk=>decide<|x∈List.take M Z) x).map (cutEv nw))) (λs=>xs.length - s.1) (0,none,0,[]) (show ((0:Nat)<=xs.length)/\(([]:List Ev)=((xs.take (0:Nat)).filter λx=> !(λx:Lk=>decide<|x∈List.take M Z) x).map (cutEv nw)) from ⟨om,rfl⟩) (Aa C<|Aa C<|Aa (Cx C<|by first|rfl|simp)<|Aa C<|Aa C<|Aa B2 Bi) (show Fit κ _ (vk 54 none 0 ([])::e8 b4 [.slice ab (List.take M Z).length ad] 33::vc 82 (.slice ab xs.length ad) (Z)::mp ai [({key:=e7 1,val:= .func (.func 190) #[] #[],born:=0}:MapEntry),({key:=e7 2,val:= .func (.func 192) #[] #[],born:=1}:MapEntry),({key:=e7 3,val:= .func (.func 194) #[] #[],born:=2}:MapEntry)] 3::e8 b2 [e7 3,e7 wd,e7 mo] 29::e8 b1 [e7 nd,.slice a0 xs.length c0] 35::I) from (Cb _ _)) ?_
 rintro ⟨k,a,c,out⟩ hp
 dsimp only at hp ⊢
 obtain ⟨hk,ho⟩:=hp
 have ao:out.length<=xs.length:=by rw [ho,List.length_map];refine Nat.le_trans (List.length_filter_le _ _) ?_;simp only [List.length_take];omega
 refine Af<|Gr (A4 C C)<|Ac<|Aq<|A5 C (λak=>?_)<|λak=>?_
 ·refine Av (Ah<|Aq<|Aw<|Af<|Gr (Ax (α:=Lk) (xs:=xs) A9 ty82 C C (A8 hl) om om)<|Gr (Bx (α:=Lk) (xs:=xs) ty82 C (A8 hl) om om)<|Ge1 (A3 ty82 C) λb9=>Ge0 (Es6_6 ty82) ?_)
  refine Ac<|Af<|Gm C<|Gl6 ty82 ?_
  refine Gc0 (Cv c_ C C C<|Last1_ok (Ds mm) (Sl.take Bf om)<|e_ xs k) ?_
  refine Gr (Dk C)<|Ac<|Ao (S8 29 10 2 7 8 20 21 22 C C C C C C C C)<|A5 C (λaa=>?_)<|λaa=>?_
  ·refine Ar (Gm C<|Gl6 ty82 ?_)
   refine Gm C<|G.e (Ak c_ C C<|Gone_ok (e_ xs k) nw) ?_
   rintro _ _ ⟨_,_,⟨rfl,rfl⟩,rfl,rfl⟩
   refine Ge1 (Cf (α:=Ev) (cs:=[e7 2,e7 nw,e7<|(e_ xs k).u,e7<|(e_ xs k).v,e7 0,e7 0,e7 0]) (xs:=[⟨2,nw,(e_ xs k).u,(e_ xs k).v,0,0,0⟩]) A0 ty54 C C dc dc C kr C C) λan=>?_
   refine Ge2 (Cg (α:=Ev) (e:=54) (xs:=out) (ys:=([⟨2,nw,(e_ xs k).u,(e_ xs k).v,0,0,0⟩]:List Ev)) A0 ty54 C C C mm Bf lcn dc C<|λ_ _=>am) λaj ah=>?_
   exact Ga C<|Bj<|Aj<|Ah<|Ao (S6 8 2 7 20 21 22 C C C C C C)<|Ar<|Gr (Rad C C)<|Gm C<|Bj<|B3 ((k+1),(aj),(ah),(out++([⟨2,nw,(e_ xs k).u,(e_ xs k).v,0,0,0⟩]:List Ev)))<|by dsimp only;exact ⟨om,(by first|(rw [gone_yes (P:=(λx:Lk=>decide<|x∈List.take M Z)) om (decide_eq_false aa),←ho];done)|(rw [gone_yes (P:=(λx:Lk=>decide<|x∈List.take M Z)) om (decide_eq_false aa),←ho];rfl)|(rw [gone_no (P:=(λx:Lk=>decide<|x∈List.take M Z)) om (decide_eq_true<|Classical.not_not.1 aa),←ho])|(rw [gone_no (P:=(λx:Lk=>decide<|x∈List.take M Z)) om rfl,←ho]))⟩
  exact Av<|Aj<|Ah<|Ar<|Gr (Rad C C)<|Gm C<|Bj<|B3 ((k+1),(a),(c),(out))<|by dsimp only;exact ⟨om,(by first|(rw [gone_yes (P:=(λx:Lk=>decide<|x∈List.take M Z)) om (decide_eq_false aa),←ho];done)|(rw [gone_yes (P:=(λx:Lk=>decide<|x∈List.take M Z)) om (decide_eq_false aa),←ho];rfl)|(rw [gone_no (P:=(λx:Lk=>decide<|x∈List.take M Z)) om (decide_eq_true<|Classical.not_not.1 aa),←ho])|(rw [gone_no (P:=(λx:Lk=>decide<|x∈List.take M Z)) om rfl,←ho]))⟩
 refine Bs<|Al<|Al<|A2<|Ah<|Af<|Gm C<|Ga C<|Ac<|Az ?_
 have hE:out=(goneL 3 wd mo nw xs):=by rw [ho,show List.take k xs=xs from List.take_of_length_le om];unfold goneL;rw [filt_not (P:=(λx:Lk=>decide<|x∈List.take M Z)) (inW_last (askE_ok hA) rfl ae)]
 subst hE
 exact A1 C C (vk 54 a c (goneL 3 wd mo nw xs)::I) Bc ⟨a,c,rfl,rfl⟩
theorem GoneP_ok{kd:Int}(hl:Sl κ I (.slice a0 xs.length c0) xs)(Z:xs.length<=1000000)(M:askE nd xs kd wd mo nw=0):eu prog κ 153 [.agg #[e7 nd,.slice a0 xs.length c0],.agg #[e7 kd,e7 wd,e7 mo],e7 nw] I λr J=>∃a c,r = .slice a (goneL kd wd mo nw xs).length c/\J=vk 54 a c (goneL kd wd mo nw xs)::I:=by
 have hk:=(askE_ok M).kind
 rcases (by omega:kd=1\/kd=2\/kd=3) with rfl|rfl|rfl
 ·exact Gone1_ok hl Z M
 ·exact Gone2_ok hl Z M
 exact Gone3_ok hl Z M
end Go.Sl
