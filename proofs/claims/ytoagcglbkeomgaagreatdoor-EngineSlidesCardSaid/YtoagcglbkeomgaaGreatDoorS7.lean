/- A part of the proofs of statements of this seat: contracts of functions, and the plain laws that they lean on. No conditions. -/
import Derived.Test.YtoagcglbkeomgaaGreatDoorS6
import Derived.MapKept
set_option linter.unusedVariables false
set_option linter.unusedSimpArgs false
set_option linter.unusedSectionVars false
open Go.Proofs.Tryz (prog)
namespace Go.Sl
open Go.Proofs
set_option maxRecDepth 4000
variable{nd:Int}{va vb:Value}{xs:List Lk}
variable {κ:Ctx}{I:List Item}
theorem ext_atw{α:Type}[Inhabited α]{xs ys:List α}(M:xs.length=ys.length)(h:∀j,j<xs.length->e_ xs j=e_ ys j):xs=ys:=by
 refine List.ext_getElem M λj Z h2=>?_
 have:=h j Z
 rwa [C7 xs j Z,C7 ys j h2] at this
theorem Lk.cmp_lt(a c:Lk):Lk.cmp a c<0↔Lk.lt a c:=Pt.cmp_lt _ _
def askE(nd:Int)(xs:List Lk)(kd wd mo nw:Int):Int:=if checkW kd wd mo≠0 then checkW kd wd mo else if checkS nd xs≠0 then checkS nd xs else if nw<0\/1048576<nw\/xs.any (λx=>decide (nw<x.tm))=true then 9 else 0
theorem CheckS_ok(Z:Sl κ I va xs):eu prog κ 107 [.agg #[e7 nd,va]] I (λr J=>r=e7 (checkS nd xs)/\I=J):=by
 refine B5 Z.le λan=>?_
 refine Ce1 Tryz.func107 C C ?_
 refine Ad<|Ge1 (Bd (cs:=[_,_]) C C C) λb1=>Ga C<|Ac<|Ar<|Ad<|Gf fld35_0 C<|Gl ef ?_
 refine Gr (A9 C C)<|Gm C<|Bh (d:=8) C (λg8=>?_)<|λg8=>?_
 ·exact eb<|eb<|eb<|Gr (Av C C)<|Ac<|Cu C<|Ad<|Ga C<|Ac<|Az<|Ao<|A1 C C I Ax ⟨by rw [show checkS nd xs=1 from (by first|(unfold checkS;rw [if_pos om];done)|exact hs.trans ((Di om<|by rw [badL_one om asm];decide).trans (badL_one om asm)))],rfl⟩
 refine e9 (Ab fld35_0 C)<|e9 (A0 ef) ?_
 refine e9 (B2 C C)<|Gr (Au C C)<|Ac<|A7 C (λc12=>?_)<|λc12=>?_
 ·exact Ad<|Ga C<|Ac<|Az<|Ao<|A1 C C I Ax ⟨by rw [show checkS nd xs=1 from (by first|(unfold checkS;rw [if_pos om];done)|exact hs.trans ((Di om<|by rw [badL_one om asm];decide).trans (badL_one om asm)))],rfl⟩
 refine Aw<|Ah<|Ar<|Ad<|Gf fld35_1 C<|Gl ty33 ?_
 refine Gr (Bw (α:=Lk) (xs:=xs) A2 C<|A8 Z)<|Gm C<|Ac<|Ap (S4 16 15 14 1)<|A5<|B1 (σ:=Nat) (λs=>([(1,pt b1),(14,va),(15,e7 ((xs.length:Nat):Int)),(16,e7 ((s:Nat):Int))]:Env)) (λs=>e8 b1 [e7 nd,va] 35::I) (λs=>(s<=xs.length)/\(checkS nd xs=scanL (badL nd) Lk.lt (prevAt xs s) (xs.drop s))) (λs=>xs.length - s) 0 (show ((0:Nat)<=xs.length)/\(checkS nd xs=scanL (badL nd) Lk.lt (prevAt xs (0:Nat)) (xs.drop (0:Nat))) from ⟨om,(by unfold checkS;rw [if_neg om];rfl)⟩) (cx2<|Aa C<|Aa Cd Bp) (show Fit κ _ (e8 b1 [e7 nd,va] 35::I) from Bg) ?_
 rintro k hp
 obtain ⟨hk,hs⟩:=hp
 refine Ad<|Gr (A9 C C)<|Ac<|Ar<|A7 C (λae=>?_)<|λae=>?_
 ·refine Aw (Ah<|Ar<|A5<|Ad<|Gm C<|Gr (A3 (α:=Lk) (xs:=xs) A2 ty82 C C (A8 Z) om om)<|Gr (Bv (α:=Lk) (xs:=xs) ty82 C (A8 Z) om om)<|Ge1 (A4 ty82 C) λb2=>Ga C<|Ge0 (Es6_6 ty82) ?_)
  refine Ac<|A5<|Ad<|Gf fld82_0 C<|Gl ef ?_
  refine Gr (A9 C C)<|Gm C<|Bh (d:=25) C (λaa=>?_)<|λaa=>?_
  ·exact eb<|eb<|eb<|eb<|eb<|Gr (Av C C)<|Gm C<|eb<|eb<|eb<|eb<|eb<|Gr (Av C C)<|Ga C<|Ac<|Ap (S7 21 3 4 1 14 15 16)<|Cu C<|Ad<|Ga C<|Ac<|Az<|Ba<|Ba<|Ao<|Ao<|Ba<|Ao<|A1 C C I Ax ⟨by rw [show checkS nd xs=6 from (hs.trans<|(Di om<|by rw [badL_six om];decide).trans (badL_six om))],rfl⟩
  refine e9 (Ab fld82_0 C)<|e9 (A0 ef) ?_
  refine e9 (Ab fld82_1 C)<|e9 (A0 ef) ?_
  refine e9 (Cv C C)<|Gr (Au C C)<|Gm C<|Bh (d:=32) C (λak=>?_)<|λak=>?_
  ·exact eb<|eb<|eb<|eb<|eb<|Gr (Av C C)<|Ga C<|Ac<|Ap (S7 21 3 4 1 14 15 16)<|Cu C<|Ad<|Ga C<|Ac<|Az<|Ba<|Ba<|Ao<|Ao<|Ba<|Ao<|A1 C C I Ax ⟨by rw [show checkS nd xs=6 from (hs.trans<|(Di om<|by rw [badL_six om];decide).trans (badL_six om))],rfl⟩
  refine e9 (Ab fld82_1 C)<|e9 (A0 ef) ?_
  refine e9 (Ab fld35_0 C)<|e9 (A0 ef) ?_
  refine e9 (Cv C C)<|Gr (Au C C)<|Ga C<|Ac<|Ap (S7 21 3 4 1 14 15 16)<|A7 C (λad=>?_)<|λad=>?_
  ·exact Ad<|Ga C<|Ac<|Az<|Ba<|Ba<|Ao<|Ao<|Ba<|Ao<|A1 C C I Ax ⟨by rw [show checkS nd xs=6 from (hs.trans<|(Di om<|by rw [badL_six om];decide).trans (badL_six om))],rfl⟩
  refine Ad<|Gf fld82_2 C<|Gl ef ?_
  refine Gf fld82_3 C<|Gl ef ?_
  refine Gf fld82_4 C<|Gl ef ?_
  refine Gc0 (Aj c_ C C<|RightW_ok ((e_ xs k).w) ((e_ xs k).lb)<|(e_ xs k).sg) ?_
  refine Gr (Dc C)<|Ga C<|Ac<|Ap (S7 39 3 4 1 14 15 16)<|A7 C (λM=>?_)<|λM=>?_
  ·exact Ad<|Ga C<|Ac<|Az<|Ba<|Ba<|Ao<|Ao<|Ba<|Ao<|A1 C C I Ax ⟨by rw [show checkS nd xs=1 from (by first|(unfold checkS;rw [if_pos om];done)|exact hs.trans ((Di om<|by rw [badL_one om asm];decide).trans (badL_one om asm)))],rfl⟩
  refine Ad<|Gf fld82_5 C<|Gl ef ?_
  refine Gr (A9 C C)<|Gm C<|Bh (d:=52) C (λai=>?_)<|λai=>?_
  ·exact eb<|eb<|eb<|Gr (Av C C)<|Ga C<|Ac<|Ap (S7 48 3 4 1 14 15 16)<|Cu C<|Ad<|Ga C<|Ac<|Az<|Ba<|Ba<|Ao<|Ao<|Ba<|Ao<|A1 C C I Ax ⟨by rw [show checkS nd xs=9 from (hs.trans<|(Di om<|by rw [badL_nine om (by first|assumption|exact Classical.not_not.1 asm|exact Classical.byContradiction λh=>c47<|by rw [if_neg h];decide) om];decide).trans (badL_nine om (by first|assumption|exact Classical.not_not.1 asm|exact Classical.byContradiction λh=>c47<|by rw [if_neg h];decide) om))],rfl⟩
  refine e9 (Ab fld82_5 C)<|e9 (A0 ef) ?_
  refine e9 (B2 C C)<|Gr (Au C C)<|Ga C<|Ac<|Ap (S7 48 3 4 1 14 15 16)<|A7 C (λah=>?_)<|λah=>?_
  ·exact Ad<|Ga C<|Ac<|Az<|Ba<|Ba<|Ao<|Ao<|Ba<|Ao<|A1 C C I Ax ⟨by rw [show checkS nd xs=9 from (hs.trans<|(Di om<|by rw [badL_nine om (by first|assumption|exact Classical.not_not.1 asm|exact Classical.byContradiction λh=>c47<|by rw [if_neg h];decide) om];decide).trans (badL_nine om (by first|assumption|exact Classical.not_not.1 asm|exact Classical.byContradiction λh=>c47<|by rw [if_neg h];decide) om))],rfl⟩
  refine Ar<|Bs mixed<|Cc (e8 b2 (kl (e_ xs k)) 82::e8 b1 [e7 nd,va] 35::I) 14<|Dr 0 C (Ai C)<|Dr 1 C (B2 C C)<|Dr 2 C (Ai C)<|Dw (d:=60) C (λab=>?_)<|λab=>?_
  ·refine Dro 3 C (Ab fld35_1 C) (Dro 4 C (A0 ty33) ?_)
   refine Dro 5 C (Ai C)<|Dro 6 C (Rsu C C)<|Dro 7 C (A3 (α:=Lk) (xs:=xs) A2 ty82 C C (A8 Z) om om)<|Dro 8 C (Bv (α:=Lk) (xs:=xs) ty82 C (A8 Z) om om)<|Dro 9 C (Bc (vs:=[_,_,_,_,_,_]) ty82) ?_
   refine Ds1 10<|Sc0 C (Aj c_ C C<|OrderL_ok (e_ xs<|(k:Int) - 1)<|e_ xs k) ?_
   refine Dro 11 C (Cv C C)<|Dr 12 C (Av C C)<|Dr 13 C (Bf C)<|Dz<|Ah<|Ap (S5 57 1 14 15 16)<|A7 C (λaj=>?_)<|λaj=>?_
   ·exact Ad<|Ga C<|Ac<|Az<|Ba<|Ba<|Ao<|Ao<|Ba<|Ao<|A1 C C I Ax ⟨by rw [show checkS nd xs=5 from (hs.trans<|scanL_order om (badL_zero om (by first|assumption|exact Classical.not_not.1 asm|exact Classical.byContradiction λh=>c47<|by rw [if_neg h];decide) om) om<|by first|assumption|(intro h;have:=(Lk.cmp_lt _ _).2 h;omega))],rfl⟩
   exact Aw<|Am<|Am<|Ah<|Ay<|Gr (Rad C C)<|Gm C<|Bj<|Cb ((k+1)) ⟨om,(hs.trans<|Fj om (badL_zero om (by first|assumption|exact Classical.not_not.1 asm|exact Classical.byContradiction λh=>c47<|by rw [if_neg h];decide) om)<|λh0=>by first|omega|exact (Lk.cmp_lt _ _).1 om|exact Classical.not_not.1 asm)⟩
  exact Dpo 3 C<|Dpo 4 C<|Dpo 5 C<|Dpo 6 C<|Dpo 7 C<|Dpo 8 C<|Dpo 9 C<|Dpo 10 C<|Dpo 11 C<|Dr 12 C (Au C C)<|Dr 13 C (Bf C)<|Dz<|Ah<|Ap (S5 57 1 14 15 16)<|Dg C<|Aw<|Am<|Am<|Ah<|Ay<|Gr (Rad C C)<|Gm C<|Bj<|Cb ((k+1)) ⟨om,(hs.trans<|Fj om (badL_zero om (by first|assumption|exact Classical.not_not.1 asm|exact Classical.byContradiction λh=>c47<|by rw [if_neg h];decide) om)<|λh0=>by first|omega|exact (Lk.cmp_lt _ _).1 om|exact Classical.not_not.1 asm)⟩
 exact Bt<|Aq<|Aq<|Bb<|Ah<|Ad<|Ga C<|Ac<|Az<|A1 C C I Ax ⟨by rw [show checkS nd xs=0 from (hs.trans<|scanL_end om)],rfl⟩
theorem CheckS5_ok(M:Sl κ I va xs):eu prog κ 49 [.agg #[e7 nd,va]] I (λr J=>r=e7 (checkS nd xs)/\I=J):=by
 refine B5 M.le λao=>?_
 refine Ce1 Tryz.func49 C C ?_
 refine Ad<|Ge1 (Bd (cs:=[_,_]) C C C) λb1=>Ga C<|Ac<|Ar<|Ad<|Gf fld35_0 C<|Gl ef ?_
 refine Gr (A9 C C)<|Gm C<|Bh (d:=9) C (λg9=>?_)<|λg9=>?_
 ·exact eb<|eb<|eb<|Gr (Av C C)<|Ac<|Cu C<|Ad<|Ga C<|Ac<|Az<|Ao<|A1 C C I Ax ⟨by rw [show checkS nd xs=1 from (by first|(unfold checkS;rw [if_pos om];done)|exact hs.trans ((Di om<|by rw [badL_one om asm];decide).trans (badL_one om asm)))],rfl⟩
 refine e9 (Ab fld35_0 C)<|e9 (A0 ef) ?_
 refine e9 (B2 C C)<|Gr (Au C C)<|Ac<|A7 C (λc13=>?_)<|λc13=>?_
 ·exact Ad<|Ga C<|Ac<|Az<|Ao<|A1 C C I Ax ⟨by rw [show checkS nd xs=1 from (by first|(unfold checkS;rw [if_pos om];done)|exact hs.trans ((Di om<|by rw [badL_one om asm];decide).trans (badL_one om asm)))],rfl⟩
 refine Aw<|Ah<|Ar<|Ad<|Gf fld35_1 C<|Gl ty33 ?_
 refine Gr (Bw (α:=Lk) (xs:=xs) A2 C<|A8 M)<|Gm C<|Ac<|Ap (S4 17 16 15 1)<|A5<|B1 (σ:=Nat) (λs=>([(1,pt b1),(15,va),(16,e7 ((xs.length:Nat):Int)),(17,e7 ((s:Nat):Int))]:Env)) (λs=>e8 b1 [e7 nd,va] 35::I) (λs=>(s<=xs.length)/\(checkS nd xs=scanL (badL nd) Lk.lt (prevAt xs s) (xs.drop s))) (λs=>xs.length - s) 0 (show ((0:Nat)<=xs.length)/\(checkS nd xs=scanL (badL nd) Lk.lt (prevAt xs (0:Nat)) (xs.drop (0:Nat))) from ⟨om,(by unfold checkS;rw [if_neg om];rfl)⟩) (cx2<|Aa C<|Aa Cd Bp) (show Fit κ _ (e8 b1 [e7 nd,va] 35::I) from Bg) ?_
 rintro k hp
 obtain ⟨hk,hs⟩:=hp
 refine Ad<|Gr (A9 C C)<|Ac<|Ar<|A7 C (λad=>?_)<|λad=>?_
 ·refine Aw (Ah<|Ar<|A5<|Ad<|Gm C<|Gr (A3 (α:=Lk) (xs:=xs) A2 ty82 C C (A8 M) om om)<|Gr (Bv (α:=Lk) (xs:=xs) ty82 C (A8 M) om om)<|Ge1 (A4 ty82 C) λb2=>Ga C<|Ge0 (Es6_6 ty82) ?_)
  refine Ac<|Ar<|Ad<|Gf fld82_0 C<|Gl ef ?_
  refine Gr (A9 C C)<|Gm C<|Bh (d:=25) C (λaa=>?_)<|λaa=>?_
  ·exact eb<|eb<|eb<|eb<|eb<|Gr (Av C C)<|Gm C<|eb<|eb<|eb<|eb<|eb<|Gr (Av C C)<|Ac<|Ap (S7 38 3 4 1 15 16 17)<|Cu C<|Ad<|Ga C<|Ac<|Az<|Ao<|Ba<|Ao<|Ao<|Ba<|Ao<|A1 C C I Ax ⟨by rw [show checkS nd xs=6 from (hs.trans<|(Di om<|by rw [badL_six om];decide).trans (badL_six om))],rfl⟩
  refine e9 (Ab fld82_0 C)<|e9 (A0 ef) ?_
  refine e9 (Ab fld82_1 C)<|e9 (A0 ef) ?_
  refine e9 (Cv C C)<|Gr (Au C C)<|Gm C<|Bh (d:=32) C (λai=>?_)<|λai=>?_
  ·exact eb<|eb<|eb<|eb<|eb<|Gr (Av C C)<|Ac<|Ap (S7 38 3 4 1 15 16 17)<|Cu C<|Ad<|Ga C<|Ac<|Az<|Ao<|Ba<|Ao<|Ao<|Ba<|Ao<|A1 C C I Ax ⟨by rw [show checkS nd xs=6 from (hs.trans<|(Di om<|by rw [badL_six om];decide).trans (badL_six om))],rfl⟩
  refine e9 (Ab fld82_1 C)<|e9 (A0 ef) ?_
  refine e9 (Ab fld35_0 C)<|e9 (A0 ef) ?_
  refine e9 (Cv C C)<|Gr (Au C C)<|Ac<|Ap (S7 38 3 4 1 15 16 17)<|A7 C (λaj=>?_)<|λaj=>?_
  ·exact Ad<|Ga C<|Ac<|Az<|Ao<|Ba<|Ao<|Ao<|Ba<|Ao<|A1 C C I Ax ⟨by rw [show checkS nd xs=6 from (hs.trans<|(Di om<|by rw [badL_six om];decide).trans (badL_six om))],rfl⟩
  refine Aw<|Ah<|Ar<|Ad<|Gf fld82_2 C<|Gl ef ?_
  refine Gf fld82_3 C<|Gl ef ?_
  refine Gf fld82_4 C<|Gl ef ?_
  refine Gc0 (Aj c_ C C<|Attr4_ok ((e_ xs k).w) ((e_ xs k).lb)<|(e_ xs k).sg) ?_
  refine Ga C<|Ac<|Ap (S7 5 3 4 1 15 16 17)<|Ad<|Gm C<|Gr (Be C C)<|Ac<|A7 C (λZ=>?_)<|λZ=>?_
  ·refine Ad (Gm C<|Ga C<|Ac<|Az<|Ao<|Ba<|Ao<|Ao<|Ba<|Ao ?_)
   have an:¬rightW (e_ xs k).w (e_ xs k).lb (e_ xs k).sg:=λh=>Z (if_pos h)
   exact A1 C C I Ax ⟨by rw [if_neg an,show checkS nd xs=1 from (by first|(unfold checkS;rw [if_pos om];done)|exact hs.trans ((Di om<|by rw [badL_one om asm];decide).trans (badL_one om asm)))],rfl⟩
  refine Aw<|Ah<|Ar<|Ad<|Gf fld82_5 C<|Gl ef ?_
  refine Gr (A9 C C)<|Gm C<|Bh (d:=52) C (λae=>?_)<|λae=>?_
  ·exact eb<|eb<|eb<|Gr (Av C C)<|Ac<|Ap (S7 56 3 4 1 15 16 17)<|Cu C<|Ad<|Ga C<|Ac<|Az<|Ao<|Ba<|Ao<|Ao<|Ba<|Ao<|A1 C C I Ax ⟨by rw [show checkS nd xs=9 from (hs.trans<|(Di om<|by rw [badL_nine om (by first|assumption|exact Classical.not_not.1 asm|exact Classical.byContradiction λh=>Z<|by rw [if_neg h];decide) om];decide).trans (badL_nine om (by first|assumption|exact Classical.not_not.1 asm|exact Classical.byContradiction λh=>Z<|by rw [if_neg h];decide) om))],rfl⟩
  refine e9 (Ab fld82_5 C)<|e9 (A0 ef) ?_
  refine e9 (B2 C C)<|Gr (Au C C)<|Ac<|Ap (S7 56 3 4 1 15 16 17)<|A7 C (λab=>?_)<|λab=>?_
  ·exact Ad<|Ga C<|Ac<|Az<|Ao<|Ba<|Ao<|Ao<|Ba<|Ao<|A1 C C I Ax ⟨by rw [show checkS nd xs=9 from (hs.trans<|(Di om<|by rw [badL_nine om (by first|assumption|exact Classical.not_not.1 asm|exact Classical.byContradiction λh=>Z<|by rw [if_neg h];decide) om];decide).trans (badL_nine om (by first|assumption|exact Classical.not_not.1 asm|exact Classical.byContradiction λh=>Z<|by rw [if_neg h];decide) om))],rfl⟩
  refine Aw<|Ah<|Ar<|Bs mixed<|Cc (e8 b2 (kl (e_ xs k)) 82::e8 b1 [e7 nd,va] 35::I) 15<|Dr 0 C (Ai C)<|Dr 1 C (B2 C C)<|Dr 2 C (Ai C)<|Dw (d:=59) C (λak=>?_)<|λak=>?_
  ·refine Dro 3 C (Ab fld35_1 C) (Dro 4 C (A0 ty33) ?_)
   refine Dro 5 C (Ai C)<|Dro 6 C (Rsu C C)<|Dro 7 C (A3 (α:=Lk) (xs:=xs) A2 ty82 C C (A8 M) om om)<|Dro 8 C (Bv (α:=Lk) (xs:=xs) ty82 C (A8 M) om om)<|Dro 10 C (Bc (vs:=[_,_,_,_,_,_]) ty82) ?_
   refine Ds1 9<|Sc0 C (Aj c_ C C<|Edge5_ok<|e_ xs<|(k:Int) - 1) ?_
   refine Ds1 11<|Sc0 C (Aj c_ C C<|Edge5_ok<|e_ xs k) ?_
   refine Ds1 12<|Sc0 C (Aj c_ C C<|Before03_ok (e_ xs<|(k:Int) - 1).p (e_ xs k).p) ?_
   refine Dro 13 C (Dc C)<|Dr 14 C (Av C C)<|Dz<|Ah<|Ap (S5 71 1 15 16 17)<|A7 C (λah=>?_)<|λah=>?_
   ·exact Ad<|Ga C<|Ac<|Az<|Ba<|Ao<|Ao<|Ba<|Ao<|A1 C C I Ax ⟨by rw [show checkS nd xs=5 from (hs.trans<|scanL_order om (badL_zero om (by first|assumption|exact Classical.not_not.1 asm|exact Classical.byContradiction λh=>Z<|by rw [if_neg h];decide) om) om<|by first|assumption|(intro h;have:=(Lk.cmp_lt _ _).2 h;omega))],rfl⟩
   exact Aw<|Am<|Ah<|Ay<|Gr (Rad C C)<|Gm C<|Bj<|Cb ((k+1)) ⟨om,(hs.trans<|Fj om (badL_zero om (by first|assumption|exact Classical.not_not.1 asm|exact Classical.byContradiction λh=>Z<|by rw [if_neg h];decide) om)<|λh0=>by first|omega|exact (Lk.cmp_lt _ _).1 om|exact Classical.not_not.1 asm)⟩
  exact Dpo 3 C<|Dpo 4 C<|Dpo 5 C<|Dpo 6 C<|Dpo 7 C<|Dpo 8 C<|Dpo 10 C<|Dpo 9 C<|Dpo 11 C<|Dpo 12 C<|Dpo 13 C<|Dr 14 C (Au C C)<|Dz<|Ah<|Ap (S5 71 1 15 16 17)<|Dg C<|Aw<|Am<|Ah<|Ay<|Gr (Rad C C)<|Gm C<|Bj<|Cb ((k+1)) ⟨om,(hs.trans<|Fj om (badL_zero om (by first|assumption|exact Classical.not_not.1 asm|exact Classical.byContradiction λh=>Z<|by rw [if_neg h];decide) om)<|λh0=>by first|omega|exact (Lk.cmp_lt _ _).1 om|exact Classical.not_not.1 asm)⟩
 exact Bt<|Aq<|Aq<|Bb<|Ah<|Ad<|Ga C<|Ac<|Az<|A1 C C I Ax ⟨by rw [show checkS nd xs=0 from (hs.trans<|scanL_end om)],rfl⟩
variable {κ:Ctx}{I:List Item}
theorem Same4_ok{xs ys:List Ev}(M:Sl κ I va xs)(hy:Sl κ I vb ys):eu prog κ 119 [va,vb] I (λr J=>r = .bool (decide (xs=ys))/\I=J):=by
 refine B5 M.le λab=>?_
 refine B5 hy.le λad=>?_
 refine Ce2 Tryz.func119 C C ?_
 refine Ad<|Ga C<|Ac<|Ar<|Ad<|Gm C<|Gr (Bw (α:=Ev) (xs:=xs) Al C<|A8 M)<|Gm C<|Gr (Bw (α:=Ev) (xs:=ys) Al C<|A8 hy)<|Gr (Be C C)<|Ac<|A7 C (λc10=>?_)<|λc10=>?_
 ·exact Ad<|Ga C<|Ac<|Az<|Ao<|A1 C C I Ax ⟨by rw [decide_eq_false (show ¬xs=ys from λe=>by first|(have e2:=congrArg List.length e;omega)|(have e3:=congrArg (λl=>e_ l k) e;exact absurd e3 asm))],rfl⟩
 refine Aw<|Ah<|Ar<|Ad<|Gm C<|Gr (Bw (α:=Ev) (xs:=xs) Al C<|A8 M)<|Gm C<|Ac<|A5<|B1 (σ:=Nat) (λs=>([(0,va),(1,vb),(12,e7 ((xs.length:Nat):Int)),(13,e7 ((s:Nat):Int))]:Env)) (λs=>I) (λs=>(s<=xs.length)/\(∀j,j<s->e_ xs j=e_ ys j)) (λs=>xs.length - s) 0 (show ((0:Nat)<=xs.length)/\(∀j,j<(0:Nat)->e_ xs j=e_ ys j) from ⟨om,all_zero⟩) (cx2<|Aa C<|Aa Cd Bp) (show Fit κ _ I from Bg) ?_
 rintro k hp
 obtain ⟨hk,hn⟩:=hp
 refine Ad<|Gr (A9 C C)<|Ac<|Ar<|A7 C (λaa=>?_)<|λaa=>?_
 ·refine Aw (Ah<|Ar<|A5<|Ad<|Gm C<|Ga C<|Ac<|Ar<|Bs mixed<|Cc I 9<|Dr 0 C (Ai C)<|Dr 1 C (Ai C)<|Dr 2 C (A3 (α:=Ev) (xs:=xs) Al ty54 C C (A8 M) om om)<|Dr 3 C (Bv (α:=Ev) (xs:=xs) ty54 C (A8 M) om om)<|Dr 4 C (Ai C)<|Dr 5 C (Ai C)<|Dr 6 C (A3 (α:=Ev) (xs:=ys) Al ty54 C C (A8 hy) om om)<|Dr 7 C (Bv (α:=Ev) (xs:=ys) ty54 C (A8 hy) om om)<|Dr 8 C (Runs.neqT (α:=Ev) (a:=(e_ xs k)) (b:=(e_ ys k)) eqt54 C C)<|Dz<|Ah<|Ap (S5 24 0 1 12 13)<|A7 C (λZ=>?_)<|λZ=>?_)
  ·exact Ad<|Ga C<|Ac<|Az<|Ba<|Ao<|Ao<|Ba<|Ao<|A1 C C I Ax ⟨by rw [decide_eq_false (show ¬xs=ys from λe=>by first|(have e2:=congrArg List.length e;omega)|(have e3:=congrArg (λl=>e_ l k) e;exact absurd e3 asm))],rfl⟩
  exact Aw<|Am<|Ah<|Ay<|Gr (Rad C C)<|Gm C<|Bj<|Cb ((k+1)) ⟨om,(Eh hn<|Classical.not_not.1 Z)⟩
 exact Bt<|Aq<|Aq<|Bb<|Ah<|Ad<|Ga C<|Ac<|Az<|A1 C C I Ax ⟨by rw [decide_eq_true (show xs=ys from ext_atw om (λj hj=>hn j om))],rfl⟩
theorem Same5_ok{n m:Int}{ys:List Lk}(M:Sl κ I va xs)(hy:Sl κ I vb ys):eu prog κ 32 [.agg #[e7 n,va],.agg #[e7 m,vb]] I (λr J=>r = .bool (decide (n=m/\xs=ys))/\I=J):=by
 refine B5 M.le λae=>?_
 refine B5 hy.le λah=>?_
 refine Ce2 Tryz.func32 C C ?_
 refine Ad<|Ge1 (Bd (cs:=[_,_]) C C C) λb1=>Ge1 (Bd (cs:=[_,_]) C C C) λb2=>Ga C<|Ac<|Ar<|Ad<|Gf fld35_0 C<|Gl ef ?_
 refine Gf fld35_0 C<|Gl ef ?_
 refine Gr (Be C C)<|Gm C<|Bh (d:=11) C (λab=>?_)<|λab=>?_
 ·exact eb<|eb<|eb<|eb<|eb<|eb<|eb<|Gr (Av C C)<|Ac<|Ap (S3 19 3 2)<|Cu C<|Ad<|Ga C<|Ac<|Az<|Ao<|A1 C C I Ax ⟨by rw [decide_eq_false (show ¬(n=m/\xs=ys) from λe=>by first|(have e2:=congrArg List.length e.2;omega)|(have e3:=congrArg (λl=>e_ l k) e.2;exact absurd e3 asm)|(have:=e.1;omega))],rfl⟩
 refine e9 (Ab fld35_1 C)<|e9 (A0 ty33) ?_
 refine e9 (Bw (α:=Lk) (xs:=xs) A2 C<|A8 M)<|e9 (Ab fld35_1 C)<|e9 (A0 ty33) ?_
 refine e9 (Bw (α:=Lk) (xs:=ys) A2 C<|A8 hy)<|e9 (Be C C)<|Gr (Au C C)<|Ac<|Ap (S3 19 3 2)<|A7 C (λad=>?_)<|λad=>?_
 ·exact Ad<|Ga C<|Ac<|Az<|Ao<|A1 C C I Ax ⟨by rw [decide_eq_false (show ¬(n=m/\xs=ys) from λe=>by first|(have e2:=congrArg List.length e.2;omega)|(have e3:=congrArg (λl=>e_ l k) e.2;exact absurd e3 asm)|(have:=e.1;omega))],rfl⟩
 refine Aw<|Ah<|Ar<|Ad<|Gf fld35_1 C<|Gl ty33 ?_
 refine Gr (Bw (α:=Lk) (xs:=xs) A2 C<|A8 M)<|Gm C<|Ac<|A5<|B1 (σ:=Nat) (λs=>([(2,pt b1),(3,pt b2),(22,e7 ((xs.length:Nat):Int)),(23,e7 ((s:Nat):Int))]:Env)) (λs=>e8 b2 [e7 m,vb] 35::e8 b1 [e7 n,va] 35::I) (λs=>(s<=xs.length)/\(∀j,j<s->e_ xs j=e_ ys j)) (λs=>xs.length - s) 0 (show ((0:Nat)<=xs.length)/\(∀j,j<(0:Nat)->e_ xs j=e_ ys j) from ⟨om,all_zero⟩) (cx2<|Aa C<|Aa Cd Bp) (show Fit κ _ (e8 b2 [e7 m,vb] 35::e8 b1 [e7 n,va] 35::I) from Bg) ?_
 rintro k hp
 obtain ⟨hk,hn⟩:=hp
 refine Ad<|Gr (A9 C C)<|Ac<|Ar<|A7 C (λaa=>?_)<|λaa=>?_
 ·refine Aw (Ah<|Ar<|A5<|Ad<|Gm C<|Ga C<|Ac<|Ar<|Bs mixed<|Cc (e8 b2 [e7 m,vb] 35::e8 b1 [e7 n,va] 35::I) 11<|Dr 0 C (Ab fld35_1 C)<|Dr 1 C (A0 ty33) ?_)
  refine Dr 2 C (Ai C)<|Dr 3 C (A3 (α:=Lk) (xs:=xs) A2 ty82 C C (A8 M) om om)<|Dr 4 C (Bv (α:=Lk) (xs:=xs) ty82 C (A8 M) om om)<|Dr 5 C (Ab fld35_1 C)<|Dr 6 C (A0 ty33) ?_
  refine Dr 7 C (Ai C)<|Dr 8 C (A3 (α:=Lk) (xs:=ys) A2 ty82 C C (A8 hy) om om)<|Dr 9 C (Bv (α:=Lk) (xs:=ys) ty82 C (A8 hy) om om)<|Dr 10 C (Runs.neqT (α:=Lk) (a:=(e_ xs k)) (b:=(e_ ys k)) eqt82 C C)<|Dz<|Ah<|Ap (S5 36 2 3 22 23)<|A7 C (λZ=>?_)<|λZ=>?_
  ·exact Ad<|Ga C<|Ac<|Az<|Ba<|Ao<|Ao<|Ba<|Ao<|A1 C C I Ax ⟨by rw [decide_eq_false (show ¬(n=m/\xs=ys) from λe=>by first|(have e2:=congrArg List.length e.2;omega)|(have e3:=congrArg (λl=>e_ l k) e.2;exact absurd e3 asm)|(have:=e.1;omega))],rfl⟩
  exact Aw<|Am<|Ah<|Ay<|Gr (Rad C C)<|Gm C<|Bj<|Cb ((k+1)) ⟨om,(Eh hn<|Classical.not_not.1 Z)⟩
 exact Bt<|Aq<|Aq<|Bb<|Ah<|Ad<|Ga C<|Ac<|Az<|A1 C C I Ax ⟨by rw [decide_eq_true (show n=m/\xs=ys from ⟨by omega,ext_atw om<|λj hj=>hn j om⟩)],rfl⟩
end Go.Sl
namespace Go.Sl
open Go.RowKit (Below)
variable{T cl et r:Nat}{x y:Operand}{es:List MapEntry}{k v:Value}
def mp(r:Nat)(es:List MapEntry)(cl:Nat):Item where
 fp k:=k=r
 ok w:=w.heap[r]? = some (.map es.toArray cl)
 loc w w' h hw:=(h r rfl).trans hw
section
variable {P:Program}{κ:Ctx}{N:Frm}{Q:Exit->Act->World->Prop}{L:Env}{I J:List Item}{ops:Array Oper}{rest:List Oper}
variable {d:Option Tmp}{ty:TypeId}{ps:String}{af:Array Edge}{gd:Option (Nat×Bool)}
theorem Eff.makeMap{dd:Nat}(M:Nat.blt dd N.n=true) :
  Eff P κ N Q ⟨some dd,.makeMap T none,ty,ps,af,gd⟩ L I λL' I'=>∃r,L'=(dd,.map<|some r)::L/\I'=mp r [] 0::I:=
 Eff.of_value rfl M λa w ha hs=>
  ⟨_,_,_,by simp [execOp,Instr.makeMap,Result.andThen],⟨_,rfl,rfl⟩,hs.new (hs.alloc<|.map #[] 0) (heap_alloc_new w _) λk Z=>by obtain rfl:k=_:=Z;exact ⟨Nat.le_refl _,by simp⟩⟩
theorem Eff.insertK{z:Operand}{kt:Nat}{kd:IntKind}{I':List Item}(ht:P.underlying T=some (.map kt et))(Z:P.underlying kt=some (.int kd))(hx:er L x=some (.map (some r)))
  (hy:er L y=some k) (hz:er L z=some v) (hk:MapKept.IsKey (.int kd) k) (hf:Instr.findNow (.int kd) k es 0=some none) (M:At I (mp r es cl) (mp r (es++[{key:=k,val:=v,born:=cl}])<|cl+1) I') :
  Eff P κ N Q ⟨none,.insert T x y z,ty,ps,af,gd⟩ L I λL' I''=>L'=L/\I''=I':=
 Eff.of_skip rfl λa w ha hs=>by
  have hb:=(hs.ok _ M.mem).1
  refine ⟨{w with heap:=w.heap.setIfInBounds r (.map (es++[({key:=k,val:=v,born:=cl}:MapEntry)]).toArray (cl+1))},I',?_,⟨rfl,rfl⟩,?_⟩
  ·simp [execOp,ha.eval hx,ha.eval hy,ha.eval hz,Instr.mapUpdate,run_underlying ht,MapKept.run_getObj_map hb,MapKept.run_checkKey Z hk,MapKept.run_findKey Z hf,MapKept.run_setObj_map _ hb,Result.andThen]
  exact hs.upd M rfl ⟨rfl,Nat.le_refl _⟩ rfl (by simp) (λk _ aa=>(MapKept.heap_set hb).2 k λe=>aa e) (MapKept.heap_set hb).1 λk hk=> .inl hk
theorem Runs.lookupK{M i:Nat}{kd:IntKind}(ht:P.underlying T=some (.map M et))(Z:P.underlying M=some (.int kd))(hx:er L x=some (.map (some r)))
  (hy:er L y=some k) (hk:MapKept.IsKey (.int kd) k) (hm:mp r es cl∈J) (hf:Instr.findNow (.int kd) k es 0=some (some (i,v))):Runs P κ N ⟨d,.lookup T x y false,ty,ps,af,gd⟩ L J v:=
 λa w ha hs=>by
  have hb:=(hs.ok _ hm).1
  simp [execOp,ha.eval hx,ha.eval hy,Instr.lookup,run_underlying ht,MapKept.run_getObj_map hb,MapKept.run_checkKey Z hk,MapKept.run_findKey Z hf,Result.andThen]
end
end Go.Sl
namespace Go.Sl
open Go.Proofs
set_option maxRecDepth 4000
variable{v va:Value}{xs:List Lk}{Z:List Value}{b c c0 k:Nat}{kd mo nd nw wd:Int}{a a0:Option Addr}
variable {κ:Ctx}{I:List Item}
theorem IndexFuncL(hl:Sl κ I v xs){g:FuncId}{p:Lk->Bool}(aa:Says prog κ I g Z p):eu prog κ 109 [v,.func (.func g) #[] Z.toArray] I (λr J=>∃y:Int,r=e7 y/\IdxF p xs y/\I=J):=by
 refine B5 hl.le λab=>?_
 refine Ce2 Tryz.func109 C C ?_
 refine Ad<|Ga C<|Ac<|Ar<|Ad<|Gm C<|Gr (Bw (α:=Lk) (xs:=xs) A2 C<|A8 hl)<|Gm C<|Ac<|A5<|B1 (σ:=Nat) (λs=>([(0,v),(1,.func (.func g) #[] Z.toArray),(7,e7 ((xs.length:Nat):Int)),(8,e7 ((s:Nat):Int))]:Env)) (λs=>I) (λs=>(s<=xs.length)/\(∀j,j<s->p (e_ xs j)=false)) (λs=>xs.length - s) 0 (show ((0:Nat)<=xs.length)/\(∀j,j<(0:Nat)->p (e_ xs j)=false) from ⟨om,all_zero⟩) (cx2<|Aa C<|Aa Cd Bp) (show Fit κ _ I from Bg) ?_
 rintro k hp
 obtain ⟨hk,hn⟩:=hp
 refine Ad<|Gr (A9 C C)<|Ac<|Ar<|A7 C (λc9=>?_)<|λc9=>?_
 ·refine Aw (Ah<|Ar<|A5<|Ad<|Gm C<|Ga C<|Ac<|Ad<|Gm C<|Gm C<|Gm C<|Gr (A3 (α:=Lk) (xs:=xs) A2 ty82 C C (A8 hl) om om)<|Gr (Bv (α:=Lk) (xs:=xs) ty82 C (A8 hl) om om)<|G.e (Cx aa.1 (first:=[]) (caps:=Z) C C C<|aa.2 (e_ xs k) _ Ax) ?_)
  rintro _ _ ⟨_,_,⟨rfl,rfl⟩,rfl,rfl⟩
  refine Ac<|D1 C (λM=>?_)<|λM=>?_
  ·exact Ad<|Gm C<|Ga C<|Ac<|Ap (S1 4)<|Az<|Ba<|Ao<|Ao<|Ba<|Ao<|A1 C C I Ax ⟨_,rfl,.inr ⟨by omega,by omega,λj hj=>hn j om,M⟩,rfl⟩
  exact Aw<|Am<|Ah<|Ay<|Gr (Rad C C)<|Gm C<|Bj<|Cb ((k+1)) ⟨om,(Eh hn M)⟩
 exact Bt<|Aq<|Aq<|Bb<|Ah<|Ad<|Ga C<|Ac<|Az<|A1 C C I Ax ⟨_,rfl,.inl ⟨rfl,λj hj=>hn j om⟩,rfl⟩
theorem ContainsFuncL(hl:Sl κ I v xs){g:FuncId}{p:Lk->Bool}(M:Says prog κ I g Z p):eu prog κ 58 [v,.func (.func g) #[] Z.toArray] I (λr J=>r = .bool (xs.any p)/\I=J):=by
 refine Ce2 Tryz.func58 C C ?_
 refine Ad<|Ga C<|Ac<|Ad<|Gm C<|Gm C<|G.e (Aj c_ C C<|IndexFuncL (A8 hl)<|Says.fit M Ax) ?_
 rintro _ _ ⟨_,_,⟨y1,rfl,aa,rfl⟩,rfl,rfl⟩
 exact Gr (Cv C C)<|Ga C<|Ac<|Az<|A1 C C I Ax ⟨by rw [←IdxF.any asm],rfl⟩
theorem Asked1_ok(Z:BlkRd κ I b [e7 nw] 3)(x:Lk):eu prog κ 173 [.agg (kl x).toArray,(pt b)] I (λr J=>r = .bool (decide (nw<x.tm))/\I=J):=by
 refine Ce2 Tryz.func173 C C ?_
 refine Ad<|Ge1 (Bd (cs:=[_,_,_,_,_,_]) C C C) λb1=>Ga C<|Ac<|Ad<|Gf fld82_5 C<|Gl ef ?_
 exact Gr (Ef ef C (Ep Z Ax) C)<|Gr (B2 C C)<|Ga C<|Ac<|Az<|A1 C C I Ax ⟨rfl,rfl⟩
theorem Asked1_says(Z:BlkRd κ I b [e7 nw] 3):Says prog κ I 173 [(pt b)] (λx:Lk=>decide (nw<x.tm)):=⟨c_,λx J M=>Asked1_ok (Z.fit M) x⟩
theorem Asked_ok(hl:Sl κ I va xs):eu prog κ 152 [.agg #[e7 nd,va],.agg #[e7 kd,e7 wd,e7 mo],e7 nw] I (λr J=>r=e7 (askE nd xs kd wd mo nw)/\I=J):=by
 refine B5 hl.le λad=>?_
 refine Ce3 Tryz.func152 C C ?_
 refine Ad<|Ge1 (Bd (cs:=[_,_]) C C C) λb1=>Ge1 (Bd (cs:=[_,_,_]) C C C) λb2=>Ge1 (Bd (cs:=[_]) C C C) λb3=>Ga C<|Ac<|Ar<|Ad<|Gl3 ty29 ?_
 refine G.e (Aj c_ C C<|CheckW_ok kd wd mo) ?_
 rintro _ _ ⟨_,_,⟨rfl,rfl⟩,rfl,rfl⟩
 refine Ga C<|Ac<|Ad<|Gm C<|Gr (Be C C)<|Ac<|A7 C (λc12=>?_)<|λc12=>?_
 ·exact Ad<|Gm C<|Ga C<|Ac<|Ap (S1 6)<|Az<|Ao<|A1 C C I Ax ⟨by rw [show askE nd xs kd wd mo nw=checkW kd wd mo from (by unfold askE;rw [if_pos c12])],rfl⟩
 refine Aw<|Ah<|Ar<|Ad<|Gl2 ty35 ?_
 refine G.e (Aj c_ C C<|CheckS_ok (nd:=nd)<|A8 hl) ?_
 rintro _ _ ⟨_,_,⟨rfl,rfl⟩,rfl,rfl⟩
 refine Ga C<|Ac<|Ap (S3 8 5 3)<|Ad<|Gm C<|Gr (Be C C)<|Ac<|A7 C (λZ=>?_)<|λZ=>?_
 ·exact Ad<|Gm C<|Ga C<|Ac<|Az<|Ao<|A1 C C I Ax ⟨by rw [show askE nd xs kd wd mo nw=checkS nd xs from (by unfold askE;rw [if_neg c12,if_pos Z])],rfl⟩
 refine Aw<|Ah<|Ar<|Ad<|Gl ef ?_
 refine Gr (A9 C C)<|Gm C<|Bh (d:=21) C (λab=>?_)<|λab=>?_
 ·exact eb<|eb<|Gr (Av C C)<|Gm C<|eb<|eb<|eb<|eb<|Gr (Av C C)<|Ac<|Ap (S1 30)<|Cu C<|Ad<|Ga C<|Ac<|Az<|Ao<|A1 C C I Ax ⟨by rw [show askE nd xs kd wd mo nw=9 from (by unfold askE;rw [if_neg c12,if_neg Z,if_pos<|by first|omega|(simp only [*];done)|exact .inr (.inr asm)|exact .inr (.inr M)])],rfl⟩
 refine e9 (A0 ef) ?_
 refine e9 (B2 C C)<|Gr (Au C C)<|Gm C<|Bh (d:=25) C (λaa=>?_)<|λaa=>?_
 ·exact eb<|eb<|eb<|eb<|Gr (Av C C)<|Ac<|Ap (S1 30)<|Cu C<|Ad<|Ga C<|Ac<|Az<|Ao<|A1 C C I Ax ⟨by rw [show askE nd xs kd wd mo nw=9 from (by unfold askE;rw [if_neg c12,if_neg Z,if_pos<|by first|omega|(simp only [*];done)|exact .inr (.inr asm)|exact .inr (.inr M)])],rfl⟩
 refine e9 (Ab fld35_1 C)<|e9 (A0 ty33) ?_
 refine e9 (D3 C C)<|Dx (Cq C C C) (Aj c_ C C<|ContainsFuncL (A8 hl)<|Asked1_says<|D8 mm) ?_
 rintro _ _ ⟨_,_,⟨rfl,rfl⟩,rfl,rfl⟩
 refine Gr (Au C C)<|Ac<|Ap (S1 30)<|D1 C (λM=>?_)<|λM=>?_
 ·exact Ad<|Ga C<|Ac<|Az<|Ao<|A1 C C I Ax ⟨by rw [show askE nd xs kd wd mo nw=9 from (by unfold askE;rw [if_neg c12,if_neg Z,if_pos<|by first|omega|(simp only [*];done)|exact .inr (.inr asm)|exact .inr (.inr M)])],rfl⟩
 exact Aw<|Ah<|Ad<|Ga C<|Ac<|Az<|A1 C C I Ax ⟨by rw [show askE nd xs kd wd mo nw=0 from (by unfold askE;rw [if_neg c12,if_neg Z,if_neg<|by rintro (h|h|h)<;>first|omega|(exact absurd (M.symm.trans h) dc)])],rfl⟩
theorem Wrong_ok(hl:Sl κ I va xs):eu prog κ 115 [.agg #[e7 nd,va],.agg #[e7 kd,e7 wd,e7 mo],e7 nw] I (λr J=>r=e7 (askE nd xs kd wd mo nw)/\I=J):=by
 refine B5 hl.le λah=>?_
 refine Ce3 Tryz.func115 C C ?_
 refine Ad<|Ge1 (Bd (cs:=[_,_]) C C C) λb1=>Ge1 (Bd (cs:=[_,_,_]) C C C) λb2=>Ga C<|Ac<|Ar<|Ad<|Gl3 ty29 ?_
 refine Gc0 (Aj c_ C C<|CheckW7_ok kd wd mo) ?_
 refine Ga C<|Ac<|Ad<|Gm C<|Gr (Be C C)<|Ac<|A7 C (λZ=>?_)<|λZ=>?_
 ·exact Ad<|Gm C<|Ga C<|Ac<|Az<|Ao<|A1 C C I Ax ⟨by rw [show askE nd xs kd wd mo nw=checkW kd wd mo from (by unfold askE;rw [if_pos Z])],rfl⟩
 refine Aw<|Ah<|Ar<|Ad<|Gl2 ty35 ?_
 refine Gc0 (Aj c_ C C<|CheckS5_ok (nd:=nd)<|A8 hl) ?_
 refine Ga C<|Ac<|Ap (S3 8 3 2)<|Ad<|Gm C<|Gr (Be C C)<|Ac<|A7 C (λM=>?_)<|λM=>?_
 ·exact Ad<|Gm C<|Ga C<|Ac<|Az<|Ao<|A1 C C I Ax ⟨by rw [show askE nd xs kd wd mo nw=checkS nd xs from (by unfold askE;rw [if_neg Z,if_pos M])],rfl⟩
 refine Aw<|Ah<|Ar<|Ad<|Gm C<|Gr (A9 C C)<|Gm C<|Bh (d:=23) C (λae=>?_)<|λae=>?_
 ·exact eb<|eb<|Gr (Av C C)<|Ac<|Cu C<|Ad<|Ga C<|Ac<|Az<|Ao<|A1 C C I Ax ⟨by rw [show askE nd xs kd wd mo nw=9 from (by unfold askE;rw [if_neg Z,if_neg M,if_pos<|by first|omega|(simp only [*];done)|exact .inr (.inr asm)|exact .inr (.inr<|List.any_eq_true.2 ⟨_,B7 (i:=(k:Int)) om om,decide_eq_true aa⟩)])],rfl⟩
 refine e9 (Ai C)<|e9 (B2 C C)<|Gr (Au C C)<|Ac<|A7 C (λab=>?_)<|λab=>?_
 ·exact Ad<|Ga C<|Ac<|Az<|Ao<|A1 C C I Ax ⟨by rw [show askE nd xs kd wd mo nw=9 from (by unfold askE;rw [if_neg Z,if_neg M,if_pos<|by first|omega|(simp only [*];done)|exact .inr (.inr asm)|exact .inr (.inr<|List.any_eq_true.2 ⟨_,B7 (i:=(k:Int)) om om,decide_eq_true aa⟩)])],rfl⟩
 refine Aw<|Ah<|Ar<|Ad<|Gf fld35_1 C<|Gl ty33 ?_
 refine Gr (Bw (α:=Lk) (xs:=xs) A2 C<|A8 hl)<|Gm C<|Ac<|Ap (S4 30 29 28 2)<|A5<|B1 (σ:=Nat) (λs=>([(2,e7 nw),(28,va),(29,e7 ((xs.length:Nat):Int)),(30,e7 ((s:Nat):Int))]:Env)) (λs=>e8 b2 [e7 kd,e7 wd,e7 mo] 29::e8 b1 [e7 nd,va] 35::I) (λs=>(s<=xs.length)/\(∀j,j<s->¬nw<(e_ xs j).tm)) (λs=>xs.length - s) 0 (show ((0:Nat)<=xs.length)/\(∀j,j<(0:Nat)->¬nw<(e_ xs j).tm) from ⟨om,all_zero⟩) (cx2<|Aa C<|Aa Cd Bp) (show Fit κ _ (e8 b2 [e7 kd,e7 wd,e7 mo] 29::e8 b1 [e7 nd,va] 35::I) from Bg) ?_
 rintro k hp
 obtain ⟨hk,hn⟩:=hp
 refine Ad<|Gr (A9 C C)<|Ac<|Ar<|A7 C (λad=>?_)<|λad=>?_
 ·refine Aw (Ah<|Ar<|A5<|Ad<|Gr (A3 (α:=Lk) (xs:=xs) A2 ty82 C C (A8 hl) om om)<|Gr (Bv (α:=Lk) (xs:=xs) ty82 C (A8 hl) om om)<|Ge1 (A4 ty82 C) λb3=>Ge0 (Es6_6 ty82) ?_)
  refine Ac<|Ad<|Gf fld82_5 C<|Gl ef ?_
  refine Gm C<|Gr (B2 C C)<|Ac<|A7 C (λaa=>?_)<|λaa=>?_
  ·exact Ad<|Ga C<|Ac<|Az<|Ba<|Ao<|Ao<|Ba<|Ao<|A1 C C I Ax ⟨by rw [show askE nd xs kd wd mo nw=9 from (by unfold askE;rw [if_neg Z,if_neg M,if_pos<|by first|omega|(simp only [*];done)|exact .inr (.inr asm)|exact .inr (.inr<|List.any_eq_true.2 ⟨_,B7 (i:=(k:Int)) om om,decide_eq_true aa⟩)])],rfl⟩
  exact Aw<|Am<|Ah<|Ay<|Gr (Rad C C)<|Gm C<|Bj<|Cb ((k+1)) ⟨om,(Eh hn aa)⟩
 exact Bt<|Aq<|Aq<|Bb<|Ah<|Ad<|Ga C<|Ac<|Az<|A1 C C I Ax ⟨by rw [show askE nd xs kd wd mo nw=0 from (by unfold askE;rw [if_neg Z,if_neg M,if_neg<|by rintro (h|h|h)<;>first|omega|(obtain ⟨x,hx,h2⟩:=List.any_eq_true.1 h;obtain ⟨j,hj,rfl⟩:=mem_at hx;exact hn j om<|of_decide_eq_true h2)])],rfl⟩
variable {κ:Ctx}{I:List Item}
theorem All1_ok(x:Lk):eu prog κ 191 [.agg (kl x).toArray] I (λr J=>r = .bool true/\I=J):=by
 refine Ce1 Tryz.func191 C C ?_
 exact Ad<|Ge1 (Bd (cs:=[_,_,_,_,_,_]) C C C) λb1=>Ga C<|Ac<|Ad<|Ga C<|Ac<|Az<|A1 C C I Ax ⟨rfl,rfl⟩
theorem Age1_ok(M:BlkRd κ I b [e7 nw] 3)(Z:BlkRd κ I c [e7 kd,e7 wd,e7 mo] 29)(x:Lk):eu prog κ 193 [.agg (kl x).toArray,(pt b),(pt c)] I (λr J=>r = .bool (decide (IntKind.i64.wrap (nw - x.tm)<wd))/\I=J):=by
 refine Ce3 Tryz.func193 C C ?_
 refine Ad<|Ge1 (Bd (cs:=[_,_,_,_,_,_]) C C C) λb1=>Ga C<|Ac<|Ad<|Gr (Ef ef C (Ep M Ax) C)<|Gf fld82_5 C<|Gl ef ?_
 exact Gr (Runs.subw C C)<|Gf fld29_1 C<|Gr (Ef ef C (Ep Z Ax) C)<|Gr (A9 C C)<|Ga C<|Ac<|Az<|A1 C C I Ax ⟨rfl,rfl⟩
theorem flk_yes{p:Lk->Bool}(Z:k<xs.length)(h:p (e_ xs k)=true):(xs.take (k+1)).filter p=(xs.take k).filter p++[e_ xs k]:=by
 rw [Cj xs k Z,List.filter_append];simp [h]
theorem flk_no{p:Lk->Bool}(Z:k<xs.length)(h:p (e_ xs k)=false):(xs.take (k+1)).filter p=(xs.take k).filter p:=by
 rw [Cj xs k Z,List.filter_append];simp [h]
theorem Rule1_ok :
    eu prog κ 190 [.agg #[e7 nd,va],.agg #[e7 kd,e7 wd,e7 mo],e7 nw] I (λr J=>r = .func (.func 191) #[] #[]/\I=J):=by
 refine Ce3 Tryz.func190 C C ?_
 exact Ad<|Ge1 (Bd (cs:=[_,_]) C C C) λb1=>Ge1 (Bd (cs:=[_,_,_]) C C C) λZ=>Ga C<|Ac<|Ad<|Ga C<|Ac<|Az<|A1 C C I Ax ⟨rfl,rfl⟩
theorem Rule2_ok :
    eu prog κ 192 [.agg #[e7 nd,va],.agg #[e7 kd,e7 wd,e7 mo],e7 nw] I (λr J=>∃b c,r = .func (.func 193) #[] #[(pt b),pt c]/\J=e8 b [e7 nw] 3::e8 c [e7 kd,e7 wd,e7 mo] 29::I):=by
 refine Ce3 Tryz.func192 C C ?_
 exact Ad<|Ge1 (Bd (cs:=[_,_]) C C C) λb1=>Ge1 (Bd (cs:=[_,_,_]) C C C) λZ=>Ge1 (Bd (cs:=[_]) C C C) λM=>Ga C<|Ac<|Ad<|Gr (D3 C C)<|Ga C<|Ac<|Az<|A1 C C (e8 M [e7 nw] 3::e8 Z [e7 kd,e7 wd,e7 mo] 29::I) Bg ⟨M,Z,rfl,rfl⟩
theorem Rules_ok  :
    eu prog κ 174 [] I (λr J=>∃m,r = .map (some m)/\J=mp m [({key:=e7 1,val:= .func (.func 190) #[] #[],born:=0}:MapEntry),({key:=e7 2,val:= .func (.func 192) #[] #[],born:=1}:MapEntry),({key:=e7 3,val:= .func (.func 194) #[] #[],born:=2}:MapEntry)] 3::I):=by
 refine Ce0 Tryz.func174 C C ?_
 refine Ad<|Ga C<|Ac<|Ad<|Ge1 (Eff.makeMap C) λZ=>?_
 refine Ge0 (Eff.insertK Ec Ci C C C C C am) ?_
 refine Ge0 (Eff.insertK Ec Ci C C C C C am) ?_
 refine Ge0 (Eff.insertK Ec Ci C C C C C am) ?_
 exact Gm C<|Ga C<|Ac<|Az<|A1 C C (mp Z [({key:=e7 1,val:= .func (.func 190) #[] #[],born:=0}:MapEntry),({key:=e7 2,val:= .func (.func 192) #[] #[],born:=1}:MapEntry),({key:=e7 3,val:= .func (.func 194) #[] #[],born:=2}:MapEntry)] 3::I) Bg ⟨Z,rfl,rfl⟩
variable {κ:Ctx}{I:List Item}
def Lk.lcmp(a c:Lk):Int:=orL [cmpI c.tm a.tm,Lk.cmp c a]
def Lk.late(a c:Lk):Prop:=c.tm<a.tm\/(a.tm=c.tm/\Lk.lt c a)
instance:DecidableRel Lk.late:=λa c=>by unfold Lk.late;infer_instance
theorem Lk.lcmp_lt(a c:Lk):Lk.lcmp a c<0↔Lk.late a c:=by
 unfold Lk.lcmp Lk.late
 rw [←Lk.cmp_lt]
 simp only [orL,cmpI]
 generalize Lk.cmp c a=z
 (repeat' split)<;>omega
def SortedK(xs ys:List Lk):Prop:=ys.Perm xs/\ys.Pairwise λa b=>¬Lk.late b a
open Go.Proofs Go.Shelf Go.Sort in
theorem swo_lk:SWO (ltOf Lk.lcmp) where
 irrefl x:=decide_eq_false λh=>by rw [Lk.lcmp_lt] at h;unfold Lk.late Lk.lt Pt.lt Lk.p at h;simp only at h;omega
 trans x y z h1 h2:=decide_eq_true (by
  have a:=of_decide_eq_true h1
  have b:=of_decide_eq_true h2
  rw [Lk.lcmp_lt] at a b ⊢
  unfold Lk.late Lk.lt Pt.lt Lk.p at a b ⊢
  simp only at a b ⊢
  omega)
 ntrans x y z h1 h2:=decide_eq_false λh=>by
  have a:=of_decide_eq_false h1
  have b:=of_decide_eq_false h2
  rw [Lk.lcmp_lt] at a b h
  unfold Lk.late Lk.lt Pt.lt Lk.p at a b h
  simp only at a b h
  omega
theorem CloneL(hl:Sl κ I (.slice a xs.length c) xs)(hb:xs.length<=1000000000):eu prog κ 127 [.slice a xs.length c] I (λr J=>∃a' c',r = .slice a' xs.length c'/\J=vk 82 a' c' xs::I):=by
 refine B5 (p:=a.isNone=true->xs=[]/\c=0) (λw hs hn=>hl.isNone w hs hn) λZ=>?_
 refine Ce1 Tryz.func127 C C ?_
 refine Ad<|Ga C<|Ac<|Ar<|Ad<|Gm C<|Gr (Runs.eqnil A2 C C)<|Ac<|D1 C (λc4=>?_)<|λc4=>?_
 ·refine Ad (Ga C<|Ac<|Az<|Ao ?_)
  obtain ⟨ab,_⟩:=Z c4
  subst ab
  exact A1 C C (vk 82 none 0 ([]:List Lk)::I) (Cf _ _) ⟨none,0,rfl,rfl⟩
 refine Aw<|Ah<|Ad<|Ge1 (Eff.bs0 (α:=Lk) A2 ty82 C) λad=>?_
 refine Gm C<|Ge2 (B3 (α:=Lk) (e:=82) (xs:=([]:List Lk)) (ys:=xs) A2 ty82 C C C mm (A8 hl) (by simp only [List.length_nil];omega) dc C<|λ_ _=>am) λaa M=>?_
 exact Ga C<|Ac<|Az<|A1 C C (vk 82 aa M xs::I) Bg ⟨aa,M,rfl,rfl⟩
theorem LastCmp_ok(a c:Lk):eu prog κ 212 [.agg (kl a).toArray,.agg (kl c).toArray] I (λr J=>r=e7 (Lk.lcmp a c)/\I=J):=by
 refine Ce2 Tryz.func212 C C ?_
 refine Ad<|Ge1 (Bd (cs:=[_,_,_,_,_,_]) C C C) λb1=>Ge1 (Bd (cs:=[_,_,_,_,_,_]) C C C) λZ=>Ga C<|Ac<|Ar<|Bs mixed<|Cc (e8 Z (kl c) 82::e8 b1 (kl a) 82::I) 10<|Dr 0 C (Ab fld82_5 C)<|Dr 1 C (A0 ef) ?_
 refine Dr 2 C (Ab fld82_5 C)<|Dr 3 C (A0 ef) ?_
 refine Dr 5 C (Bc (vs:=[_,_,_,_,_,_]) ty82) ?_
 refine Dr 6 C (Bc (vs:=[_,_,_,_,_,_]) ty82) ?_
 refine Ds1 4<|Sc0 C (Aj c_ C C<|Compare_ok c.tm a.tm) ?_
 refine Ds1 7<|Sc0 C (Aj c_ C C<|OrderL_ok c a) ?_
 refine Ds1 8<|Se1 C (Ce (α:=Int) (cs:=[_,_]) (xs:=[cmpI c.tm a.tm,Lk.cmp c a]) Af ef C C dc dc C C C C) λM=>?_
 refine Ds1 9<|Sc0 C (Aj c_ C C<|Or_ok Bi) ?_
 refine Cs kr ?_
 refine Dv (i:=10) kr C (Bm C) C C (Bf C) ?_
 refine Ct kr ?_
 exact Ah<|Ap (S1 4)<|Az<|A1 C C I Ax ⟨rfl,rfl⟩
open Go.Proofs Go.Shelf Go.Sort in
theorem SortK_ok{κ:Ctx}{I:List Item}(aa:xs.length<1000000000):eu prog κ 211 [.slice a xs.length c,.func (.func 212) #[] #[]] (vk 82 a c xs::I) λr J=>∃ys:List Lk,(r = .tuple #[]/\SortedK xs ys/\ys.length=xs.length)/\J=[]++vc 82 (.slice a xs.length c) ys::I:=
 (sort_any (α:=Lk) (ρ:=Tryz.sort211_ren) Tryz.sort211 Tryz.isAgg82 Tryz.sizeOf82 Lk.lcmp swo_lk 212 #[] (enters_of Tryz.func212 (by kernel_rfl) rfl) (λx y W=>lays_of<|LastCmp_ok x y) om).mono λr J ⟨ys,⟨h1,Z,M⟩,h4⟩=>
  ⟨ys,⟨h1,⟨Z,M.imp fun {a b} h=>by rw [←Lk.lcmp_lt];exact of_decide_eq_false h⟩,Z.length_eq⟩,by rw [h4,Z.length_eq]⟩
theorem SortK_at{F:Item->List Item}{n:Nat}(M:AtF I (vc 82 (.slice a n c) xs) F)(hn:xs.length=n)(aa:xs.length<1000000000):eu prog κ 211 [.slice a n c,.func (.func 212) #[] #[]] I λr J=>∃ys:List Lk,(r = .tuple #[]/\SortedK xs ys/\ys.length=n)/\J=[]++F (vc 82 (.slice a n c) ys):=
 eu.at (Z:=λ_=>[]) (X:=λys:List Lk=>vc 82 (.slice a n c) ys) (Post:=λr ys=>r = .tuple #[]/\SortedK xs ys/\ys.length=n) M λJ _ _=>by subst hn;exact SortK_ok aa
theorem Last_ok(hl:Sl κ I (.slice a0 xs.length c0) xs)(h0:0<=mo)(ah:xs.length<=1000000):eu prog κ 195 [.agg #[e7 nd,.slice a0 xs.length c0],e7 mo] I (λr J=>∃(a:Option Addr) (c:Nat) (ys:List Lk) (m:Nat),r = .slice a (List.take m ys).length c/\(SortedK xs ys/\ys.length=xs.length/\(m:Int)<=mo/\m<=xs.length/\((m:Int)=mo\/m=xs.length))/\J=vc 82 (.slice a xs.length c) ys::I):=by
 refine Ce2 Tryz.func195 C C ?_
 refine Ad<|Ge1 (Bd (cs:=[_,_]) C C C) λb1=>Ga C<|Ac<|Ad<|Gf fld35_1 C<|Gl ty33 ?_
 refine G.e (Aj c_ C C<|CloneL (xs:=xs) (A8 hl) om) ?_
 rintro _ _ ⟨_,_,⟨M,Z,rfl,rfl⟩,rfl,rfl⟩
 refine Ga C<|Ac<|Ad<|Gm C<|G.e (Aj c_ C C<|SortK_at (by repeat (first|exact AtF.head _ _|apply AtF.tail)) C om) ?_
 rintro _ _ ⟨_,_,⟨aa,⟨rfl,ad,ab⟩,rfl⟩,rfl,rfl⟩
 show G prog κ _ _ _ _ ([(10,.tuple #[]),(9,.slice M xs.length Z),(5,.slice M xs.length Z),(8,.slice M xs.length Z),(7,.slice a0 xs.length c0),(6,.pointer<|some ⟨b1,1,none⟩),(4,.slice none 0 0),(2,pt b1),(0,.agg #[e7 nd,.slice a0 xs.length c0]),(1,e7 mo)]:Env) (vc 82 (.slice M xs.length Z) (aa)::e8 b1 [e7 nd,.slice a0 xs.length c0] 35::I)
 refine Ac<|Ad<|Gm C<|Gm C<|Gm C<|Gr (Bk A2 C)<|Gr (Es C C)<|Gr (Runs.hi (α:=Lk) (xs:=aa) (h:=(if ((xs.length:Nat):Int)<mo then ((xs.length:Nat):Int) else mo).toNat) A2 ty82 C C om Bi<|by split<;>omega)<|Ga C<|Ac<|Ap (S1 4)<|Az ?_
 have ae:(((((if ((xs.length:Nat):Int)<mo then ((xs.length:Nat):Int) else mo).toNat)):Nat):Int)<=mo/\(((if ((xs.length:Nat):Int)<mo then ((xs.length:Nat):Int) else mo).toNat))<=xs.length/\((((((if ((xs.length:Nat):Int)<mo then ((xs.length:Nat):Int) else mo).toNat)):Nat):Int)=mo\/(((if ((xs.length:Nat):Int)<mo then ((xs.length:Nat):Int) else mo).toNat))=xs.length):=by split<;>omega
 exact A1 C C (vc 82 (.slice M xs.length Z) (aa)::I) Bg ⟨M,Z,aa,((if ((xs.length:Nat):Int)<mo then ((xs.length:Nat):Int) else mo).toNat),rfl,⟨ad,ab,ae⟩,rfl⟩
theorem IndexL_ok(M:Sl κ I v xs)(x:Lk):eu prog κ 213 [v,.agg (kl x).toArray] I (λr J=>∃y:Int,r=e7 y/\(0<=y↔x∈xs)/\I=J):=by
 refine B5 M.le λaa=>?_
 refine Ce2 Tryz.func213 C C ?_
 refine Ad<|Ge1 (Bd (cs:=[_,_,_,_,_,_]) C C C) λb1=>Ga C<|Ac<|Ar<|Ad<|Gm C<|Gr (Bw (α:=Lk) (xs:=xs) A2 C<|A8 M)<|Gm C<|Ac<|A5<|B1 (σ:=Nat) (λs=>([(0,v),(3,pt b1),(7,e7 ((xs.length:Nat):Int)),(8,e7 ((s:Nat):Int))]:Env)) (λs=>e8 b1 (kl x) 82::I) (λs=>(s<=xs.length)/\(∀j,j<s->e_ xs j≠x)) (λs=>xs.length - s) 0 (show ((0:Nat)<=xs.length)/\(∀j,j<(0:Nat)->e_ xs j≠x) from ⟨om,all_zero⟩) (cx2<|Aa C<|Aa Cd Bp) (show Fit κ _ (e8 b1 (kl x) 82::I) from Bg) ?_
 rintro k hp
 obtain ⟨hk,hn⟩:=hp
 refine Ad<|Gr (A9 C C)<|Ac<|Ar<|A7 C (λc9=>?_)<|λc9=>?_
 ·refine Aw (Ah<|Ar<|A5<|Ad<|Gm C<|Ga C<|Ac<|Ar<|Bs mixed<|Cc (e8 b1 (kl x) 82::I) 6<|Dr 0 C (Bc (vs:=[_,_,_,_,_,_]) ty82) ?_)
  refine Dr 1 C (Ai C)<|Dr 2 C (Ai C)<|Dr 3 C (A3 (α:=Lk) (xs:=xs) A2 ty82 C C (A8 M) om om)<|Dr 4 C (Bv (α:=Lk) (xs:=xs) ty82 C (A8 M) om om)<|Dr 5 C (Runs.eqlT (α:=Lk) (a:=x) (b:=(e_ xs k)) eqt82 C C)<|Dz<|Ah<|A7 C (λZ=>?_)<|λZ=>?_
  ·refine Ad (Gm C<|Ga C<|Ac<|Ap (S1 4)<|Az<|Ba<|Ao<|Ao<|Ba<|Ao ?_)
   have hm:x∈xs:=by rw [show x=e_ xs k from Z];exact B7 om om
   exact A1 C C I Ax ⟨_,rfl,⟨λ_=>hm,λ_=>by omega⟩,rfl⟩
  exact Aw<|Am<|Ah<|Ay<|Gr (Rad C C)<|Gm C<|Bj<|Cb ((k+1)) ⟨om,(Eh hn<|λe=>Z e.symm)⟩
 refine Bt<|Aq<|Aq<|Bb<|Ah<|Ad<|Ga C<|Ac<|Az ?_
 have hm:x∉xs:=not_mem_at hn om
 exact A1 C C I Ax ⟨_,rfl,⟨λh=>absurd h dc,λh=>absurd h hm⟩,rfl⟩
theorem ContainsL_ok(Z:Sl κ I v xs)(x:Lk):eu prog κ 197 [v,.agg (kl x).toArray] I (λr J=>r = .bool (decide (x∈xs))/\I=J):=by
 refine Ce2 Tryz.func197 C C ?_
 refine Ad<|Ge1 (Bd (cs:=[_,_,_,_,_,_]) C C C) λb1=>Ga C<|Ac<|Ad<|Gm C<|Gl6 ty82 ?_
 refine G.e (Aj c_ C C<|IndexL_ok (A8 Z) x) ?_
 rintro _ _ ⟨_,_,⟨y2,rfl,M,rfl⟩,rfl,rfl⟩
 exact Gr (Cv C C)<|Ga C<|Ac<|Az<|A1 C C I Ax ⟨by rw [decide_eq_decide.2 asm],rfl⟩
theorem Last1_ok{zs:List Lk}(M:BlkRd κ I b [v] 33)(Z:Sl κ I v zs)(x:Lk):eu prog κ 196 [.agg (kl x).toArray,(pt b)] I (λr J=>r = .bool (decide (x∈zs))/\I=J):=by
 refine Ce2 Tryz.func196 C C ?_
 refine Ad<|Ge1 (Bd (cs:=[_,_,_,_,_,_]) C C C) λb1=>Ga C<|Ac<|Ad<|Gr (Ef ty33 C (Ep M Ax) C)<|Gl6 ty82 ?_
 refine Gc0 (Aj c_ C C<|ContainsL_ok (A8 Z) x) ?_
 exact Ga C<|Ac<|Az<|A1 C C I Ax ⟨rfl,rfl⟩
theorem Rule3_ok(hl:Sl κ I (.slice a0 xs.length c0) xs)(h0:0<=mo)(ae:xs.length<=1000000):eu prog κ 194 [.agg #[e7 nd,.slice a0 xs.length c0],.agg #[e7 kd,e7 wd,e7 mo],e7 nw] I (λr J=>∃(b:Nat) (a:Option Addr) (c:Nat) (ys:List Lk) (m:Nat),r = .func (.func 196) #[] #[(pt b)]/\(SortedK xs ys/\ys.length=xs.length/\(m:Int)<=mo/\m<=xs.length/\((m:Int)=mo\/m=xs.length))/\J=e8 b [.slice a (List.take m ys).length c] 33::vc 82 (.slice a xs.length c) ys::I):=by
 refine Ce3 Tryz.func194 C C ?_
 refine Ad<|Ge1 (Bd (cs:=[_,_]) C C C) λb1=>Ge1 (Bd (cs:=[_,_,_]) C C C) λb2=>Ga C<|Ac<|Ad<|Gl2 ty35 ?_
 refine Gf fld29_2 C<|Gl ef ?_
 refine G.e (Aj c_ C C<|Last_ok (nd:=nd) (A8 hl) h0 om) ?_
 rintro _ _ ⟨_,_,⟨ab,Z,M,ad,rfl,aa,rfl⟩,rfl,rfl⟩
 refine Ge1 (A4 ty33 C) λb7=>Ge0 (B6 (cs:=[_]) (vs:=[_]) (cs':=[_]) ty33) ?_
 exact Ac<|Ad<|Gr (D3 C C)<|Ga C<|Ac<|Az<|A1 C C (e8 b7 [.slice ab (List.take ad M).length Z] 33::vc 82 (.slice ab xs.length Z) (M)::I) Bg ⟨b7,ab,Z,M,ad,rfl,aa,rfl⟩
end Go.Sl
namespace Go.Sl
variable{kd mo n nd nw wd:Int}{xs ys:List Lk}
theorem scan0:∀(xs:List Lk) (q:Lk),scanL (badL n) Lk.lt (some q) xs=0->(∀x∈xs,badL n x=0)/\(q::xs).Pairwise Lk.lt
 |[],q,_=>by simp
 |p::ps,q,h=>by
  simp only [scanL] at h
  by_cases hb:badL n p=0
  ·rw [if_neg (by simp [hb])] at h
   by_cases hl:Lk.lt q p
   ·rw [if_pos hl] at h
    obtain ⟨M,Z⟩:=scan0 ps p h
    refine ⟨λx hx=>?_,List.pairwise_cons.2 ⟨λx hx=>?_,Z⟩⟩
    ·rcases List.mem_cons.1 hx with rfl|hx
     ·exact hb
     exact M x hx
    rcases List.mem_cons.1 hx with rfl|hx
    ·exact hl
    exact Pt.lin.tr _ _ _ hl<|(List.pairwise_cons.1 Z).1 x hx
   rw [if_neg hl] at h;cases h
  rw [if_pos hb] at h;exact absurd h hb
theorem checkS_ok(h:checkS n xs=0):(0<=n/\n<=64)/\(∀x∈xs,badL n x=0)/\xs.Pairwise Lk.lt:=by
 unfold checkS at h
 by_cases hn:n<0\/64<n
 ·rw [if_pos hn] at h;cases h
 rw [if_neg hn] at h
 refine ⟨by omega,?_⟩
 cases xs with
 |nil=>exact ⟨(λx hx=>by cases hx),List.Pairwise.nil⟩
 |cons p ps=>
  simp only [scanL] at h
  by_cases hb:badL n p=0
  ·rw [if_neg (by simp [hb])] at h
   obtain ⟨M,Z⟩:=scan0 ps p h
   exact ⟨λx hx=>by
    rcases List.mem_cons.1 hx with rfl|hx
    ·exact hb
    exact M x hx,Z⟩
  rw [if_pos hb] at h;exact absurd h hb
theorem badL_tm{l:Lk}(h:badL n l=0):0<=l.tm/\l.tm<=1048576:=by
 unfold badL at h
 split at h
 ·cases h
 split at h
 ·cases h
 split at h
 ·cases h
 omega
structure AskOk (nd:Int) (xs:List Lk) (kd wd mo nw:Int):Prop where
 kind:1<=kd/\kd<=3
 width:kd=2->1<=wd/\wd<=1048576
 most:kd=3->0<=mo/\mo<=2016
 nodes:0<=nd/\nd<=64
 asc:xs.Pairwise Lk.lt
 now:0<=nw/\nw<=1048576
 tm:∀x∈xs,0<=x.tm/\x.tm<=nw
theorem askE_ok(h:askE nd xs kd wd mo nw=0):AskOk nd xs kd wd mo nw:=by
 unfold askE at h
 by_cases h1:checkW kd wd mo=0
 ·rw [if_neg (by simp [h1])] at h
  by_cases h2:checkS nd xs=0
  ·rw [if_neg (by simp [h2])] at h
   obtain ⟨h3,h4,h5⟩:=checkS_ok h2
   split at h
   ·cases h
   rename_i h6
   have Z:(1<=kd/\kd<=3)/\(kd=2->1<=wd/\wd<=1048576)/\(kd=3->0<=mo/\mo<=2016):=by
    unfold checkW at h1
    split at h1
    ·cases h1
    split at h1
    ·cases h1
    omega
   refine ⟨Z.1,Z.2.1,Z.2.2,h3,h5,by omega,λx M=>?_⟩
   have h7:=badL_tm (h4 x M)
   refine ⟨h7.1,?_⟩
   by_cases h8:nw<x.tm
   ·exact absurd (.inr<|.inr<|List.any_eq_true.2 ⟨x,M,decide_eq_true h8⟩) h6
   omega
  rw [if_pos h2] at h;exact absurd h h2
 rw [if_pos h1] at h;exact absurd h h1
def rankL(xs:List Lk)(x:Lk):Nat:=(xs.filter λy=>decide (Lk.late y x)).length
def inW(kd wd mo nw:Int)(xs:List Lk)(x:Lk):Bool:=if kd=2 then decide (nw - x.tm<wd) else if kd=3 then decide ((rankL xs x:Int)<mo) else true
theorem late_irr(x:Lk):¬Lk.late x x:=by unfold Lk.late Lk.lt Pt.lt;omega
theorem late_asymm{x y:Lk}(h:Lk.late x y):¬Lk.late y x:=by unfold Lk.late Lk.lt Pt.lt at *; omega
theorem rank_at:∀(ys:List Lk) (i:Nat) (hi:i<ys.length),ys.Pairwise Lk.late->rankL ys ys[i]=i
 |[],i,hi,_=>absurd hi (by simp)
 |y::ys,0,hi,hp=>by
  obtain ⟨M,h2⟩:=List.pairwise_cons.1 hp
  unfold rankL
  rw [List.filter_eq_nil_iff.2 λz hz=>?_]
  ·rfl
  simp only [List.getElem_cons_zero,decide_eq_true_eq]
  rcases List.mem_cons.1 hz with rfl|hz
  ·exact late_irr _
  exact late_asymm<|M z hz
 |y::ys,i+1,hi,hp=>by
  obtain ⟨M,h2⟩:=List.pairwise_cons.1 hp
  have Z:i<ys.length:=by simpa using hi
  have ih:=rank_at ys i Z h2
  unfold rankL at ih ⊢
  rw [List.getElem_cons_succ,List.filter_cons,if_pos<|decide_eq_true<|M _<|List.getElem_mem Z,List.length_cons,ih]
theorem sortedK_late(h:SortedK xs ys)(ha:xs.Pairwise Lk.lt):ys.Pairwise Lk.late:=by
 have h1:xs.Pairwise λa b=>Lk.late a b\/Lk.late b a:=ha.imp fun {a b} Z=>by unfold Lk.late Lk.lt Pt.lt at *; omega
 have h2:ys.Pairwise λa b=>Lk.late a b\/Lk.late b a:=(h.1.pairwise_iff fun {x y} M=>M.symm).2 h1
 exact (h2.and h.2).imp fun {a b} Z=>Z.1.resolve_right Z.2
theorem take_rank(h:SortedK xs ys)(ha:xs.Pairwise Lk.lt){x:Lk}(hx:x∈xs)(m:Nat):x∈ys.take m↔rankL xs x<m:=by
 have hp:=sortedK_late h ha
 have hr:∀z,rankL xs z=rankL ys z:=λz=>by unfold rankL;exact ((h.1.filter _).length_eq).symm
 constructor
 ·intro M
  obtain ⟨j,hj,Z⟩:=List.mem_take_iff_getElem.1 M
  rw [hr,←Z,rank_at ys j om hp];omega
 intro M
 obtain ⟨j,hj,Z⟩:=List.getElem_of_mem (h.1.mem_iff.2 hx)
 rw [hr,←Z,rank_at ys j hj hp] at M
 exact List.mem_take_iff_getElem.2 ⟨j,by omega,Z⟩
theorem inW_all(M:kd=1):(xs.filter λ_=>true)=xs.filter (inW kd wd mo nw xs):=
 List.filter_congr λx Z=>by unfold inW;rw [if_neg om,if_neg om]
theorem inW_age(h:AskOk nd xs kd wd mo nw)(M:kd=2):(xs.filter λx=>decide (IntKind.i64.wrap (nw - x.tm)<wd))=xs.filter (inW kd wd mo nw xs):=
 List.filter_congr λx Z=>by
  have h1:=h.tm x Z
  have h2:=h.now
  unfold inW;rw [if_pos M,InR.wrap<|by unfold InR;omega]
theorem inW_last{m:Nat}(h:AskOk nd xs kd wd mo nw)(hk:kd=3)(hs:SortedK xs ys/\ys.length=xs.length/\(m:Int)<=mo/\m<=xs.length/\((m:Int)=mo\/m=xs.length)) :
  (xs.filter λx=>decide<|x∈ys.take m)=xs.filter (inW kd wd mo nw xs):=
 List.filter_congr λx Z=>by
  unfold inW;rw [if_neg om,if_pos hk,decide_eq_decide,take_rank hs.1 h.asc Z]
  have hlt:rankL xs x<xs.length:=by
   have h1:=List.length_filter_le (λy=>decide<|Lk.late y x) xs
   obtain ⟨j,hj,M⟩:=List.getElem_of_mem (hs.1.1.mem_iff.2 Z)
   have h2:rankL xs x=j:=by
    have:rankL xs x=rankL ys x:=by unfold rankL;exact ((hs.1.1.filter _).length_eq).symm
    rw [this,←M,rank_at ys j hj<|sortedK_late hs.1 h.asc]
   omega
  omega
theorem late_ix(M:xs.Pairwise Lk.lt){i j:Nat}(hi:i<xs.length)(hj:j<xs.length):Lk.late (e_ xs j) (e_ xs i)↔((e_ xs i).tm<(e_ xs j).tm\/((e_ xs j).tm=(e_ xs i).tm/\i<j)):=by
 unfold Lk.late
 have Z:Lk.lt (e_ xs i) (e_ xs j)↔i<j:=by
  constructor
  ·intro h
   rcases Nat.lt_trichotomy i j with h1|h1|h1
   ·exact h1
   ·subst h1;exact absurd h (Pt.lin.irr _)
   exact absurd (Pt.lin.tr _ _ _ h<|(pairwise_at xs).1 M j i h1 hi)<|Pt.lin.irr _
  intro h;exact (pairwise_at xs).1 M i j h hj
 rw [Z]
end Go.Sl
namespace Go.Sl
open Go.Proofs
set_option maxRecDepth 4000
theorem In7_ok{κ:Ctx}{I:List Item}{nd kd wd mo nw:Int}{va:Value}{xs:List Lk}(Z:Sl κ I va xs){i:Nat}(hi:i<xs.length)(M:AskOk nd xs kd wd mo nw):eu prog κ 116 [.agg #[e7 nd,va],.agg #[e7 kd,e7 wd,e7 mo],e7 nw,e7 ((i:Int))] I (λr J=>r = .bool (inW kd wd mo nw xs (e_ xs i))/\I=J):=by
 refine B5 Z.le λao=>?_
 have ap:=M.tm _ (B7 (xs:=xs) (i:=(i:Int)) om om)
 have an:=M.now
 refine Ce4 Tryz.func116 C C ?_
 refine Ad<|Ge1 (Bd (cs:=[_,_]) C C C) λb1=>Ge1 (Bd (cs:=[_,_,_]) C C C) λb2=>Ga C<|Ac<|Ar<|Ad<|Gf fld29_0 C<|Gl ef ?_
 refine Ac<|A5<|Ad<|Gr (Br C C)<|Ga C<|Ac<|A7 C (λaa=>?_)<|λaa=>?_
 ·refine Ar (Bs mixed<|Cc (e8 b2 [e7 kd,e7 wd,e7 mo] 29::e8 b1 [e7 nd,va] 35::I) 12<|Dr 0 C (Ai C)<|Dr 1 C (Ab fld35_1 C)<|Dr 2 C (A0 ty33) ?_)
  refine Dr 3 C (Ai C)<|Dr 4 C (A3 (α:=Lk) (xs:=xs) A2 ty82 C C (A8 Z) om om)<|Dr 5 C (Fg (α:=Lk) (xs:=xs) fld82_5 C (A8 Z) om)<|Dr 6 C (E9 (α:=Lk) (xs:=xs) (u:=e7 ((e_ xs i).tm)) ef C (A8 Z) om om C)<|Dr 7 C (Rsu C C)<|Dr 8 C (Ab fld29_1 C)<|Dr 9 C (A0 ef) ?_
  exact Dr 10 C (A9 C C)<|Dr 11 C (Bf C)<|Dz<|Ah<|Ap (S1 8)<|Az<|Ba<|Ao<|A1 C C I Ax ⟨by unfold inW;rw [if_pos aa],rfl⟩
 refine Ad<|Gr (Br C C)<|Ga C<|Ac<|A7 C (λab=>?_)<|λab=>?_
 ·refine Ad (Ga C<|Ac<|Ap (S4 9 5 4 3)<|Ar<|Ad<|Gf fld35_1 C<|Gl ty33 ?_)
  refine Gr (Bw (α:=Lk) (xs:=xs) A2 C<|A8 Z)<|Gm C<|Ac<|A5<|B1 (σ:=Nat×Int) (λs=>([(3,e7<|(i:Int)),(4,pt b1),(5,pt b2),(9,e7<|s.2),(30,va),(31,e7 ((xs.length:Nat):Int)),(32,e7 ((s.1:Nat):Int))]:Env)) (λs=>e8 b2 [e7 kd,e7 wd,e7 mo] 29::e8 b1 [e7 nd,va] 35::I) (λs=>(s.1<=xs.length)/\(s.2=((((xs.take s.1).filter (λy=>decide<|Lk.late y<|e_ xs i)).length:Nat):Int))) (λs=>xs.length - s.1) (0,0) (show ((0:Nat)<=xs.length)/\((0:Int)=((((xs.take (0:Nat)).filter (λy=>decide<|Lk.late y<|e_ xs i)).length:Nat):Int)) from ⟨om,(by simp)⟩) (cx2<|Aa C<|Aa Cd<|cx2<|Aa Cd Bp) (show Fit κ _ (e8 b2 [e7 kd,e7 wd,e7 mo] 29::e8 b1 [e7 nd,va] 35::I) from Bg) ?_
  rintro ⟨k,cn⟩ hp
  dsimp only at hp ⊢
  obtain ⟨hk,hc⟩:=hp
  have aq:0<=cn/\cn<=k:=by rw [hc];have ah:=List.length_filter_le (λy=>decide<|Lk.late y<|e_ xs i) (xs.take k);rw [List.length_take] at ah;omega
  refine Ad<|Gr (A9 C C)<|Ac<|Ar<|A7 C (λae=>?_)<|λae=>?_
  ·refine Aw (Ah<|Ar<|A5<|Ad<|Gm C<|Gr (A3 (α:=Lk) (xs:=xs) A2 ty82 C C (A8 Z) om om)<|Gr (Bv (α:=Lk) (xs:=xs) ty82 C (A8 Z) om om)<|Ge1 (A4 ty82 C) λb3=>Ga C<|Ge0 (Es6_6 ty82) ?_)
   refine Ac<|Ar<|Bs mixed<|Cc (e8 b3 (kl (e_ xs k)) 82::e8 b2 [e7 kd,e7 wd,e7 mo] 29::e8 b1 [e7 nd,va] 35::I) 25<|Dr 0 C (Ab fld82_5 C)<|Dr 1 C (A0 ef) ?_
   refine Dr 2 C (Ab fld35_1 C)<|Dr 3 C (A0 ty33) ?_
   refine Dr 4 C (Ai C)<|Dr 5 C (A3 (α:=Lk) (xs:=xs) A2 ty82 C C (A8 Z) om om)<|Dr 6 C (Fg (α:=Lk) (xs:=xs) fld82_5 C (A8 Z) om)<|Dr 7 C (E9 (α:=Lk) (xs:=xs) (u:=e7 ((e_ xs i).tm)) ef C (A8 Z) om om C)<|Dr 8 C (B2 C C)<|Dr 9 C (Ai C)<|Dw (d:=46) C (λaj=>?_)<|λaj=>?_
   ·exact Dpo 10 C<|Dpo 11 C<|Dpo 12 C<|Dpo 13 C<|Dpo 14 C<|Dpo 15 C<|Dpo 16 C<|Dpo 17 C<|Dpo 18 C<|Dpo 19 C<|Dpu 20 C<|Dpu 21 C<|Dpu 22 C<|Dpo 23 C<|Dr 24 C (Av C C)<|Dz<|Ah<|Ap (S8 61 3 4 5 9 30 31 32)<|Cu C<|Ay<|Gm C<|Gr (Rad C C)<|Ga C<|Bj<|Am<|Ah<|Ay<|Gr (Rad C C)<|Gm C<|Bj<|Cb ((k+1),(cn+1))<|by dsimp only;exact ⟨om,(by first|(rw [flk_yes om (decide_eq_true<|(late_ix M.asc hi om).2 om),List.length_append,List.length_singleton];omega)|(rw [flk_no om (decide_eq_false (λh=>by have:=(late_ix M.asc hi om).1 h;omega))];omega))⟩
   refine Dro 10 C (Ab fld82_5 C)<|Dro 11 C (A0 ef) ?_
   refine Dro 12 C (Ab fld35_1 C)<|Dro 13 C (A0 ty33) ?_
   refine Dro 14 C (Ai C)<|Dro 15 C (A3 (α:=Lk) (xs:=xs) A2 ty82 C C (A8 Z) om om)<|Dro 16 C (Fg (α:=Lk) (xs:=xs) fld82_5 C (A8 Z) om)<|Dro 17 C (E9 (α:=Lk) (xs:=xs) (u:=e7 ((e_ xs i).tm)) ef C (A8 Z) om om C)<|Dro 18 C (Br C C)<|Dro 19 C (Ai C)<|Dw (d:=56) C (λai=>?_)<|λai=>?_
   ·refine Dro 20 C (Ai C) (Dro 21 C (Ai C)<|Dro 22 C (B2 C C)<|Dro 23 C (Av C C)<|Dr 24 C (Au C C)<|Dz<|Ah<|Ap (S8 61 3 4 5 9 30 31 32)<|A7 C (λak=>?_)<|λak=>?_)
    ·exact Ay<|Gm C<|Gr (Rad C C)<|Ga C<|Bj<|Am<|Ah<|Ay<|Gr (Rad C C)<|Gm C<|Bj<|Cb ((k+1),(cn+1))<|by dsimp only;exact ⟨om,(by first|(rw [flk_yes om (decide_eq_true<|(late_ix M.asc hi om).2 om),List.length_append,List.length_singleton];omega)|(rw [flk_no om (decide_eq_false (λh=>by have:=(late_ix M.asc hi om).1 h;omega))];omega))⟩
    exact Aw<|Am<|Ah<|Ay<|Gr (Rad C C)<|Gm C<|Bj<|Cb ((k+1),(cn))<|by dsimp only;exact ⟨om,(by first|(rw [flk_yes om (decide_eq_true<|(late_ix M.asc hi om).2 om),List.length_append,List.length_singleton];omega)|(rw [flk_no om (decide_eq_false (λh=>by have:=(late_ix M.asc hi om).1 h;omega))];omega))⟩
   exact Dpo 20 C<|Dpo 21 C<|Dpo 22 C<|Dro 23 C (Au C C)<|Dr 24 C (Au C C)<|Dz<|Ah<|Ap (S8 61 3 4 5 9 30 31 32)<|Dg C<|Aw<|Am<|Ah<|Ay<|Gr (Rad C C)<|Gm C<|Bj<|Cb ((k+1),(cn))<|by dsimp only;exact ⟨om,(by first|(rw [flk_yes om (decide_eq_true<|(late_ix M.asc hi om).2 om),List.length_append,List.length_singleton];omega)|(rw [flk_no om (decide_eq_false (λh=>by have:=(late_ix M.asc hi om).1 h;omega))];omega))⟩
  refine Bt<|Aq<|Aq<|Bb<|Ah<|Ad<|Gm C<|Gf fld29_2 C<|Gl ef ?_
  refine Gr (A9 C C)<|Ga C<|Ac<|Az<|Ba<|Ao ?_
  have ad:cn=((rankL xs (e_ xs i):Nat):Int):=by rw [hc,List.take_of_length_le om];rfl
  exact A1 C C I Ax ⟨by unfold inW;rw [if_neg aa,if_pos ab,ad],rfl⟩
 exact Aw<|Am<|Ah<|Ad<|Ga C<|Ac<|Ap (S1 8)<|Az<|A1 C C I Ax ⟨by unfold inW;rw [if_neg aa,if_neg ab],rfl⟩
end Go.Sl
