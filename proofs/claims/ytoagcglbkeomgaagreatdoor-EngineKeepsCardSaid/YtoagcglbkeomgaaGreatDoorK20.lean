/- A part of the proofs of statements of this seat: contracts of functions, and the plain laws that they lean on. No conditions. -/
import Derived.Test.YtoagcglbkeomgaaGreatDoorK19
set_option linter.unusedVariables false
set_option linter.unusedSimpArgs false
set_option linter.unusedSectionVars false
open Go.Proofs.Tryz (prog)
set_option maxHeartbeats 1000000
namespace Go.Sl
open Go.Proofs
set_option maxRecDepth 4000
variable{T:List Item}{a0:Option Addr}{c0:Nat}{nd:Int}
theorem SetC_ok{κ:Ctx}{I:List Item}{T:List Item}{e:Ev}{a0:Option Addr}{c0:Nat}{xs:List Lk}(hT:Has I T)(hl:Sl κ T (.slice a0 xs.length c0) xs)(ha:xs.Pairwise Lk.lt)(ba:xs.length<=1000000):eu prog κ 184 [.slice a0 xs.length c0,.agg #[e7 (e.kd),e7 (e.tm),e7 (e.u),e7 (e.v),e7 (e.w),e7 (e.lb),e7 (e.sg)]] I (λr J=>∃(a:Option Addr) (c:Nat) (a2:Option Addr) (c2:Nat) (Y:List Item),r = .tuple #[.slice a (setL (eh e) xs).length c,.slice a2 (setC xs e).length c2]/\Sl κ (Y++T) (.slice a (setL (eh e) xs).length c) (setL (eh e) xs)/\J=vc 54 (.slice a2 (setC xs e).length c2) (setC xs e)::(Y++I)):=by
 refine Ce2 Tryz.func184 C C ?_
 refine Af<|Ge1 (Bg (cs:=[_,_,_,_,_,_,_]) C C C) λb1=>Ga C<|Ga C<|Ac<|Af<|Gf fld54_2 C<|Gl ef ?_
 refine Gf fld54_3 C<|Gl ef ?_
 refine Gr (Ep C C)<|Gf fld54_2 C<|Gl ef ?_
 refine Gf fld54_3 C<|Gl ef ?_
 refine Gr (Dq C C)<|Gf fld54_4 C<|Gl ef ?_
 refine Gf fld54_5 C<|Gl ef ?_
 refine Gf fld54_6 C<|Gl ef ?_
 refine Gf fld54_1 C<|Gl ef ?_
 refine Gr (Bp (cells:=[_,_,_,_,_,_]) ty82 Tryz.underlying82 pl82 C C)<|Ge1 (A3 ty82 C) λb2=>Ge0 (Es6_6 ty82) ?_
 refine Ac<|Ao (S3 6 3 0 C C C)<|Af<|Gm C<|Gl6 ty82 ?_
 refine G.e (Ak c_ C C<|BSearchL (Bz (Bz hl hT.fit) Ay) (⟨if e.v<e.u then e.v else e.u,if e.u<e.v then e.v else e.u,e.w,e.lb,e.sg,e.tm⟩:Lk) OrderL_cmps om) ?_
 rintro _ _ ⟨_,_,⟨Z,q4,rfl,hi3,rfl⟩,rfl,rfl⟩
 refine Gm C ?_
 have a6:=hi3.le
 refine Gr (Am C C)<|Gr (Am C C)<|Ga C<|Ga C<|Ac<|Aq<|Aq<|Bq mixed<|Ef 9<|Dr 0 C (Ai C)<|Dr 1 C (Ai C)<|D.splitb (d:=35) C (λM=>?_)<|λM=>?_
 ·have bb:=(setL_there hi3 ha M).1
  refine Dro 2 C (Ai C)<|Dro 3 C (Ai C)<|Dro 4 C (Ax (α:=Lk) (xs:=xs) A9 ty82 C C (Bz (Bz hl hT.fit) Ay) om om)<|Dro 5 C (Bx (α:=Lk) (xs:=xs) ty82 C (Bz (Bz hl hT.fit) Ay) om om)<|Dro 6 C (Be (vs:=[_,_,_,_,_,_]) ty82) ?_
  refine Dro 7 C (Runs.eqlT (α:=Lk) (a:=(e_ xs Z)) (b:=(⟨if e.v<e.u then e.v else e.u,if e.u<e.v then e.v else e.u,e.w,e.lb,e.sg,e.tm⟩:Lk)) eqt82 C C)<|Dr 8 C (Ba C C)<|Dz<|Ah<|Ao (S6 42 8 7 6 3 0 C C C C C C)<|A5 C (λan=>?_)<|λan=>?_
  ·refine Af (Gm C<|Ga C<|Ga C<|Ac<|Az<|Ap ?_)
   have az:Z<xs.length/\(setL (eh e) xs)=xs.set Z (eh e):=setL_there hi3 ha M
   have hE:(setL (eh e) xs)=xs:=by rw [az.2];exact set_self (n:=eh e) az.1 an
   have a1:eh e∈xs:=by have h9:=B1 (xs:=xs) (i:=(Z:Int)) om om;rw [show e_ xs Z=eh e from an] at h9;exact h9
   have hC:setC xs e=[]:=if_pos a1
   exact C7 C C C (vc 54 (.slice none (setC xs e).length 0) (setC xs e)::([]++I)) (by rw [hC];exact (Cq (show Fit κ _ I from Bl)<|Cb _ _)) ⟨a0,c0,none,0,[],by rw [hC,hE]<;>rfl,by rw [hE];exact hl,rfl⟩
  refine Av<|Ah<|Aq<|Af<|Gm C<|Gr (Co C)<|Ac<|D4 C (λak=>?_)<|λak=>?_
  ·rw [M] at ak;exact absurd ak dc
  refine Af<|Gm C<|G.e (Ak c_ C C<|CloneL (xs:=xs) (Bz (Bz hl hT.fit) Ay) om) ?_
  rintro _ _ ⟨_,_,⟨ah,ai,rfl,rfl⟩,rfl,rfl⟩
  refine Ga C<|Ac<|Ar<|Gm C<|Gm C<|Gl6 ty82 ?_
  refine Gr (Ax (α:=Lk) (xs:=xs) A9 ty82 C C Bf om om)<|Ge0 (Cu (α:=Lk) (xs:=xs) (e:=82) (new:=⟨if e.v<e.u then e.v else e.u,if e.u<e.v then e.v else e.u,e.w,e.lb,e.sg,e.tm⟩) ty82 C C C om om am) ?_
  refine Ac<|Ao (S3 0 6 3 C C C)<|Aq<|Bq mixed<|Ca (vc 82 (.slice ah xs.length ai) (List.set xs ((Z:Int)).toNat (⟨if e.v<e.u then e.v else e.u,if e.u<e.v then e.v else e.u,e.w,e.lb,e.sg,e.tm⟩))::e8 b2 [e7 (if e.v<e.u then e.v else e.u),e7 (if e.u<e.v then e.v else e.u),e7<|e.w,e7<|e.lb,e7<|e.sg,e7<|e.tm] 82::I) 5<|Dr 0 C (Ad fld82_0 C)<|Dr 1 C (Bb ef) ?_
  refine Dr 4 C (Ad fld54_2 C)<|Dt (rs:=[2,5]) kr C C<|E4 ?_<|Ei ?_
  ·refine Sr C (Ad fld82_1 C) Bc ?_
   refine Dt (rs:=[3,5]) kr C C<|E4 ?_<|Ei ?_
   ·refine Sr C (Bb ef) Bc ?_
    refine Cs kr ?_
    refine Ae 5 C (Es ef) ?_
    rintro _ _ ⟨rfl,rfl⟩
    refine Dy (i:=6) kr C (Bn C) C C (Ad fld54_3 C) ?_
    refine Ae 7 C (Es ef) ?_
    rintro _ _ ⟨rfl,rfl⟩
    refine Ct kr ?_
    refine Ah<|Aq<|Bq mixed<|Ca (vc 82 (.slice ah xs.length ai) (List.set xs ((Z:Int)).toNat (⟨if e.v<e.u then e.v else e.u,if e.u<e.v then e.v else e.u,e.w,e.lb,e.sg,e.tm⟩))::e8 b2 [e7 (if e.v<e.u then e.v else e.u),e7 (if e.u<e.v then e.v else e.u),e7<|e.w,e7<|e.lb,e7<|e.sg,e7<|e.tm] 82::e8 b1 [e7 (e.kd),e7<|e.tm,e7 (if e.v<e.u then e.v else e.u),e7 (if e.u<e.v then e.v else e.u),e7<|e.w,e7<|e.lb,e7<|e.sg] 54::I) 5<|Dr 0 C (Ai C)<|Dr 1 C (Be (vs:=[_,_,_,_,_,_,_]) ty54) ?_
    refine Dr 3 C (Bd C)<|Ds1 2<|Se1 C (Cf (α:=Ev) (cs:=[e7 (e.kd),e7<|e.tm,e7 (if e.v<e.u then e.v else e.u),e7 (if e.u<e.v then e.v else e.u),e7<|e.w,e7<|e.lb,e7<|e.sg]) (xs:=[⟨e.kd,e.tm,if e.v<e.u then e.v else e.u,if e.u<e.v then e.v else e.u,e.w,e.lb,e.sg⟩]) A0 ty54 C C dc dc C kr C C) λax=>?_
    refine Dr 4 C (Bd C)<|Dz<|Ah<|Ao (S2 5 4 C C)<|Az ?_
    have hE:List.set xs ((Z:Int)).toNat (⟨if e.v<e.u then e.v else e.u,if e.u<e.v then e.v else e.u,e.w,e.lb,e.sg,e.tm⟩)=(setL (eh e) xs):=(setL_there hi3 ha M).2.symm
    have aj:(setL (eh e) xs).length=xs.length:=by rw [←hE,List.length_set]
    have hC:setC xs e=[normE e]:=if_neg (set_not1 hi3 ha M an)
    exact C7 C C C (vc 54 (.slice ax (setC xs e).length 1) (setC xs e)::([vc 82 (.slice ah (setL (eh e) xs).length ai) (setL (eh e) xs)]++I)) (by rw [hC,aj,←hE];exact Bl) ⟨ah,ai,ax,1,[vc 82 (.slice ah (setL (eh e) xs).length ai) (setL (eh e) xs)],by rw [hC,aj]<;>rfl,C3<|List.mem_append_left _ List.mem_cons_self,rfl⟩
   refine Se0 C (Es ef) ?_
   refine Ds1 3<|Sr C (Bb ef) Bc ?_
   refine Ds1 6<|Sr C (Ad fld54_3 C) Bc ?_
   refine Ds1 7<|Se0 C (Es ef) ?_
   refine Dz<|Ah<|Aq<|Bq mixed<|Ca (vc 82 (.slice ah xs.length ai) (List.set xs ((Z:Int)).toNat (⟨if e.v<e.u then e.v else e.u,if e.u<e.v then e.v else e.u,e.w,e.lb,e.sg,e.tm⟩))::e8 b2 [e7 (if e.v<e.u then e.v else e.u),e7 (if e.u<e.v then e.v else e.u),e7<|e.w,e7<|e.lb,e7<|e.sg,e7<|e.tm] 82::e8 b1 [e7 (e.kd),e7<|e.tm,e7 (if e.v<e.u then e.v else e.u),e7 (if e.u<e.v then e.v else e.u),e7<|e.w,e7<|e.lb,e7<|e.sg] 54::I) 5<|Dr 0 C (Ai C)<|Dr 1 C (Be (vs:=[_,_,_,_,_,_,_]) ty54) ?_
   refine Dr 3 C (Bd C)<|Ds1 2<|Se1 C (Cf (α:=Ev) (cs:=[e7 (e.kd),e7<|e.tm,e7 (if e.v<e.u then e.v else e.u),e7 (if e.u<e.v then e.v else e.u),e7<|e.w,e7<|e.lb,e7<|e.sg]) (xs:=[⟨e.kd,e.tm,if e.v<e.u then e.v else e.u,if e.u<e.v then e.v else e.u,e.w,e.lb,e.sg⟩]) A0 ty54 C C dc dc C kr C C) λay=>?_
   refine Dr 4 C (Bd C)<|Dz<|Ah<|Ao (S2 5 4 C C)<|Az ?_
   have hE:List.set xs ((Z:Int)).toNat (⟨if e.v<e.u then e.v else e.u,if e.u<e.v then e.v else e.u,e.w,e.lb,e.sg,e.tm⟩)=(setL (eh e) xs):=(setL_there hi3 ha M).2.symm
   have aj:(setL (eh e) xs).length=xs.length:=by rw [←hE,List.length_set]
   have hC:setC xs e=[normE e]:=if_neg (set_not1 hi3 ha M an)
   exact C7 C C C (vc 54 (.slice ay (setC xs e).length 1) (setC xs e)::([vc 82 (.slice ah (setL (eh e) xs).length ai) (setL (eh e) xs)]++I)) (by rw [hC,aj,←hE];exact Bl) ⟨ah,ai,ay,1,[vc 82 (.slice ah (setL (eh e) xs).length ai) (setL (eh e) xs)],by rw [hC,aj]<;>rfl,C3<|List.mem_append_left _ List.mem_cons_self,rfl⟩
  refine Se0 C (Es ef) ?_
  refine Ds1 2<|Sr C (Ad fld82_1 C) Bc ?_
  refine Ds1 3<|Sr C (Bb ef) Bc ?_
  refine Ds1 6<|Sr C (Ad fld54_3 C) Bc ?_
  refine Ds1 7<|Se0 C (Es ef) ?_
  refine Dz<|Ah<|Aq<|Bq mixed<|Ef 5<|Dr 0 C (Ai C)<|Dr 1 C (Be (vs:=[_,_,_,_,_,_,_]) ty54) ?_
  refine Dr 3 C (Bd C)<|Ds1 2<|Se1 C (Cf (α:=Ev) (cs:=[e7 (e.kd),e7<|e.tm,e7 (if e.v<e.u then e.v else e.u),e7 (if e.u<e.v then e.v else e.u),e7<|e.w,e7<|e.lb,e7<|e.sg]) (xs:=[⟨e.kd,e.tm,if e.v<e.u then e.v else e.u,if e.u<e.v then e.v else e.u,e.w,e.lb,e.sg⟩]) A0 ty54 C C dc dc C kr C C) λaw=>?_
  refine Dr 4 C (Bd C)<|Dz<|Ah<|Ao (S2 5 4 C C)<|Az ?_
  have hE:List.set xs ((Z:Int)).toNat (⟨if e.v<e.u then e.v else e.u,if e.u<e.v then e.v else e.u,e.w,e.lb,e.sg,e.tm⟩)=(setL (eh e) xs):=(setL_there hi3 ha M).2.symm
  have aj:(setL (eh e) xs).length=xs.length:=by rw [←hE,List.length_set]
  have hC:setC xs e=[normE e]:=if_neg (set_not1 hi3 ha M an)
  exact C7 C C C (vc 54 (.slice aw (setC xs e).length 1) (setC xs e)::([vc 82 (.slice ah (setL (eh e) xs).length ai) (setL (eh e) xs)]++I)) (by rw [hC,aj,←hE];exact Bl) ⟨ah,ai,aw,1,[vc 82 (.slice ah (setL (eh e) xs).length ai) (setL (eh e) xs)],by rw [hC,aj]<;>rfl,C3<|List.mem_append_left _ List.mem_cons_self,rfl⟩
 refine Dpo 2 C<|Dpo 3 C<|Dpo 4 C<|Dpo 5 C<|Dpo 6 C<|Dpo 7 C<|Dr 8 C (A6 C C)<|Dz<|Ah<|Ao (S6 42 8 7 6 3 0 C C C C C C)<|Dp C<|Av<|Ah<|Aq<|Af<|Gm C<|Gr (Co C)<|Ac<|D4 C (λak=>?_)<|λak=>?_
 ·refine Bq mixed (Ef 7<|Dr 0 C (Ai C)<|Dr 2 C (Ai C)<|Dr 3 C (Be (vs:=[_,_,_,_,_,_]) ty82) ?_)
  refine Dt (rs:=[1,4]) kr C C<|E4 ?_<|Ei ?_
  ·refine Se C (Ak c_ C C<|CloneL (xs:=xs) (Bz (Bz hl hT.fit) Ay) om) ?_
   rintro _ _ ⟨_,_,⟨a9,a8,rfl,rfl⟩,rfl,rfl⟩
   refine ⟨Bc,?_⟩
   refine Ds1 4<|Se1 C (Cf (α:=Lk) (cs:=[e7 (if e.v<e.u then e.v else e.u),e7 (if e.u<e.v then e.v else e.u),e7<|e.w,e7<|e.lb,e7<|e.sg,e7<|e.tm]) (xs:=[⟨if e.v<e.u then e.v else e.u,if e.u<e.v then e.v else e.u,e.w,e.lb,e.sg,e.tm⟩]) A9 ty82 C C dc dc C kr C C) λa5=>?_
   refine Ds1 5<|Sc2 C (Ak c_ C C<|InsertL_two (i:=Z) (xs:=xs) (ys:=([⟨if e.v<e.u then e.v else e.u,if e.u<e.v then e.v else e.u,e.w,e.lb,e.sg,e.tm⟩]:List Lk)) Bl C C om (by simp only [List.length_cons];omega) lcn) λaa ad=>?_
   refine Dr 6 C (Bd C)<|Dz<|Ah<|Ao (S3 0 6 3 C C C)<|Aq<|Bq mixed<|Ca (vc 82 (.slice aa (List.take Z xs++([⟨if e.v<e.u then e.v else e.u,if e.u<e.v then e.v else e.u,e.w,e.lb,e.sg,e.tm⟩]:List Lk)++List.drop Z xs).length ad) (List.take Z xs++([⟨if e.v<e.u then e.v else e.u,if e.u<e.v then e.v else e.u,e.w,e.lb,e.sg,e.tm⟩]:List Lk)++List.drop Z xs)::e8 b2 [e7 (if e.v<e.u then e.v else e.u),e7 (if e.u<e.v then e.v else e.u),e7<|e.w,e7<|e.lb,e7<|e.sg,e7<|e.tm] 82::I) 5<|Dr 0 C (Ad fld82_0 C)<|Dr 1 C (Bb ef) ?_
   refine Dr 4 C (Ad fld54_2 C)<|Dt (rs:=[2,5]) kr C C<|E4 ?_<|Ei ?_
   ·refine Sr C (Ad fld82_1 C) Bc ?_
    refine Dt (rs:=[3,5]) kr C C<|E4 ?_<|Ei ?_
    ·refine Sr C (Bb ef) Bc ?_
     refine Cs kr ?_
     refine Ae 5 C (Es ef) ?_
     rintro _ _ ⟨rfl,rfl⟩
     refine Dy (i:=6) kr C (Bn C) C C (Ad fld54_3 C) ?_
     refine Ae 7 C (Es ef) ?_
     rintro _ _ ⟨rfl,rfl⟩
     refine Ct kr ?_
     refine Ah<|Aq<|Bq mixed<|Ca (vc 82 (.slice aa (List.take Z xs++([⟨if e.v<e.u then e.v else e.u,if e.u<e.v then e.v else e.u,e.w,e.lb,e.sg,e.tm⟩]:List Lk)++List.drop Z xs).length ad) (List.take Z xs++([⟨if e.v<e.u then e.v else e.u,if e.u<e.v then e.v else e.u,e.w,e.lb,e.sg,e.tm⟩]:List Lk)++List.drop Z xs)::e8 b2 [e7 (if e.v<e.u then e.v else e.u),e7 (if e.u<e.v then e.v else e.u),e7<|e.w,e7<|e.lb,e7<|e.sg,e7<|e.tm] 82::e8 b1 [e7 (e.kd),e7<|e.tm,e7 (if e.v<e.u then e.v else e.u),e7 (if e.u<e.v then e.v else e.u),e7<|e.w,e7<|e.lb,e7<|e.sg] 54::I) 5<|Dr 0 C (Ai C)<|Dr 1 C (Be (vs:=[_,_,_,_,_,_,_]) ty54) ?_
     refine Dr 3 C (Bd C)<|Ds1 2<|Se1 C (Cf (α:=Ev) (cs:=[e7 (e.kd),e7<|e.tm,e7 (if e.v<e.u then e.v else e.u),e7 (if e.u<e.v then e.v else e.u),e7<|e.w,e7<|e.lb,e7<|e.sg]) (xs:=[⟨e.kd,e.tm,if e.v<e.u then e.v else e.u,if e.u<e.v then e.v else e.u,e.w,e.lb,e.sg⟩]) A0 ty54 C C dc dc C kr C C) λao=>?_
     refine Dr 4 C (Bd C)<|Dz<|Ah<|Ao (S2 5 4 C C)<|Az ?_
     have hE:List.take Z xs++([⟨if e.v<e.u then e.v else e.u,if e.u<e.v then e.v else e.u,e.w,e.lb,e.sg,e.tm⟩]:List Lk)++List.drop Z xs=(setL (eh e) xs):=(setL_new hi3 ha M).symm
     have hC:setC xs e=[normE e]:=if_neg (set_not2 hi3 ha M)
     exact C7 C C C (vc 54 (.slice ao (setC xs e).length 1) (setC xs e)::([vc 82 (.slice aa (setL (eh e) xs).length ad) (setL (eh e) xs)]++I)) (by rw [hC,←hE];exact Bl) ⟨aa,ad,ao,1,[vc 82 (.slice aa (setL (eh e) xs).length ad) (setL (eh e) xs)],by rw [hC,←hE]<;>rfl,C3<|List.mem_append_left _ List.mem_cons_self,rfl⟩
    refine Se0 C (Es ef) ?_
    refine Ds1 3<|Sr C (Bb ef) Bc ?_
    refine Ds1 6<|Sr C (Ad fld54_3 C) Bc ?_
    refine Ds1 7<|Se0 C (Es ef) ?_
    refine Dz<|Ah<|Aq<|Bq mixed<|Ca (vc 82 (.slice aa (List.take Z xs++([⟨if e.v<e.u then e.v else e.u,if e.u<e.v then e.v else e.u,e.w,e.lb,e.sg,e.tm⟩]:List Lk)++List.drop Z xs).length ad) (List.take Z xs++([⟨if e.v<e.u then e.v else e.u,if e.u<e.v then e.v else e.u,e.w,e.lb,e.sg,e.tm⟩]:List Lk)++List.drop Z xs)::e8 b2 [e7 (if e.v<e.u then e.v else e.u),e7 (if e.u<e.v then e.v else e.u),e7<|e.w,e7<|e.lb,e7<|e.sg,e7<|e.tm] 82::e8 b1 [e7 (e.kd),e7<|e.tm,e7 (if e.v<e.u then e.v else e.u),e7 (if e.u<e.v then e.v else e.u),e7<|e.w,e7<|e.lb,e7<|e.sg] 54::I) 5<|Dr 0 C (Ai C)<|Dr 1 C (Be (vs:=[_,_,_,_,_,_,_]) ty54) ?_
    refine Dr 3 C (Bd C)<|Ds1 2<|Se1 C (Cf (α:=Ev) (cs:=[e7 (e.kd),e7<|e.tm,e7 (if e.v<e.u then e.v else e.u),e7 (if e.u<e.v then e.v else e.u),e7<|e.w,e7<|e.lb,e7<|e.sg]) (xs:=[⟨e.kd,e.tm,if e.v<e.u then e.v else e.u,if e.u<e.v then e.v else e.u,e.w,e.lb,e.sg⟩]) A0 ty54 C C dc dc C kr C C) λaq=>?_
    refine Dr 4 C (Bd C)<|Dz<|Ah<|Ao (S2 5 4 C C)<|Az ?_
    have hE:List.take Z xs++([⟨if e.v<e.u then e.v else e.u,if e.u<e.v then e.v else e.u,e.w,e.lb,e.sg,e.tm⟩]:List Lk)++List.drop Z xs=(setL (eh e) xs):=(setL_new hi3 ha M).symm
    have hC:setC xs e=[normE e]:=if_neg (set_not2 hi3 ha M)
    exact C7 C C C (vc 54 (.slice aq (setC xs e).length 1) (setC xs e)::([vc 82 (.slice aa (setL (eh e) xs).length ad) (setL (eh e) xs)]++I)) (by rw [hC,←hE];exact Bl) ⟨aa,ad,aq,1,[vc 82 (.slice aa (setL (eh e) xs).length ad) (setL (eh e) xs)],by rw [hC,←hE]<;>rfl,C3<|List.mem_append_left _ List.mem_cons_self,rfl⟩
   refine Se0 C (Es ef) ?_
   refine Ds1 2<|Sr C (Ad fld82_1 C) Bc ?_
   refine Ds1 3<|Sr C (Bb ef) Bc ?_
   refine Ds1 6<|Sr C (Ad fld54_3 C) Bc ?_
   refine Ds1 7<|Se0 C (Es ef) ?_
   refine Dz<|Ah<|Aq<|Bq mixed<|Ef 5<|Dr 0 C (Ai C)<|Dr 1 C (Be (vs:=[_,_,_,_,_,_,_]) ty54) ?_
   refine Dr 3 C (Bd C)<|Ds1 2<|Se1 C (Cf (α:=Ev) (cs:=[e7 (e.kd),e7<|e.tm,e7 (if e.v<e.u then e.v else e.u),e7 (if e.u<e.v then e.v else e.u),e7<|e.w,e7<|e.lb,e7<|e.sg]) (xs:=[⟨e.kd,e.tm,if e.v<e.u then e.v else e.u,if e.u<e.v then e.v else e.u,e.w,e.lb,e.sg⟩]) A0 ty54 C C dc dc C kr C C) λav=>?_
   refine Dr 4 C (Bd C)<|Dz<|Ah<|Ao (S2 5 4 C C)<|Az ?_
   have hE:List.take Z xs++([⟨if e.v<e.u then e.v else e.u,if e.u<e.v then e.v else e.u,e.w,e.lb,e.sg,e.tm⟩]:List Lk)++List.drop Z xs=(setL (eh e) xs):=(setL_new hi3 ha M).symm
   have hC:setC xs e=[normE e]:=if_neg (set_not2 hi3 ha M)
   exact C7 C C C (vc 54 (.slice av (setC xs e).length 1) (setC xs e)::([vc 82 (.slice aa (setL (eh e) xs).length ad) (setL (eh e) xs)]++I)) (by rw [hC,←hE];exact Bl) ⟨aa,ad,av,1,[vc 82 (.slice aa (setL (eh e) xs).length ad) (setL (eh e) xs)],by rw [hC,←hE]<;>rfl,C3<|List.mem_append_left _ List.mem_cons_self,rfl⟩
  refine Se1 C (Cf (α:=Lk) (cs:=[e7 (if e.v<e.u then e.v else e.u),e7 (if e.u<e.v then e.v else e.u),e7<|e.w,e7<|e.lb,e7<|e.sg,e7<|e.tm]) (xs:=[⟨if e.v<e.u then e.v else e.u,if e.u<e.v then e.v else e.u,e.w,e.lb,e.sg,e.tm⟩]) A9 ty82 C C dc dc C kr C C) λa4=>?_
  refine Ds1 1<|Se C (Ak c_ C C<|CloneL (xs:=xs) (Bz (Bz hl hT.fit) Ay) om) ?_
  rintro _ _ ⟨_,_,⟨a7,a3,rfl,rfl⟩,rfl,rfl⟩
  refine ⟨Bc,?_⟩
  refine Ds1 5<|Sc2 C (Ak c_ C C<|InsertL_two (i:=Z) (xs:=xs) (ys:=([⟨if e.v<e.u then e.v else e.u,if e.u<e.v then e.v else e.u,e.w,e.lb,e.sg,e.tm⟩]:List Lk)) Bl C C om (by simp only [List.length_cons];omega) lcn) λae ab=>?_
  refine Dr 6 C (Bd C)<|Dz<|Ah<|Ao (S3 0 6 3 C C C)<|Aq<|Bq mixed<|Ca (vc 82 (.slice ae (List.take Z xs++([⟨if e.v<e.u then e.v else e.u,if e.u<e.v then e.v else e.u,e.w,e.lb,e.sg,e.tm⟩]:List Lk)++List.drop Z xs).length ab) (List.take Z xs++([⟨if e.v<e.u then e.v else e.u,if e.u<e.v then e.v else e.u,e.w,e.lb,e.sg,e.tm⟩]:List Lk)++List.drop Z xs)::e8 b2 [e7 (if e.v<e.u then e.v else e.u),e7 (if e.u<e.v then e.v else e.u),e7<|e.w,e7<|e.lb,e7<|e.sg,e7<|e.tm] 82::I) 5<|Dr 0 C (Ad fld82_0 C)<|Dr 1 C (Bb ef) ?_
  refine Dr 4 C (Ad fld54_2 C)<|Dt (rs:=[2,5]) kr C C<|E4 ?_<|Ei ?_
  ·refine Sr C (Ad fld82_1 C) Bc ?_
   refine Dt (rs:=[3,5]) kr C C<|E4 ?_<|Ei ?_
   ·refine Sr C (Bb ef) Bc ?_
    refine Cs kr ?_
    refine Ae 5 C (Es ef) ?_
    rintro _ _ ⟨rfl,rfl⟩
    refine Dy (i:=6) kr C (Bn C) C C (Ad fld54_3 C) ?_
    refine Ae 7 C (Es ef) ?_
    rintro _ _ ⟨rfl,rfl⟩
    refine Ct kr ?_
    refine Ah<|Aq<|Bq mixed<|Ca (vc 82 (.slice ae (List.take Z xs++([⟨if e.v<e.u then e.v else e.u,if e.u<e.v then e.v else e.u,e.w,e.lb,e.sg,e.tm⟩]:List Lk)++List.drop Z xs).length ab) (List.take Z xs++([⟨if e.v<e.u then e.v else e.u,if e.u<e.v then e.v else e.u,e.w,e.lb,e.sg,e.tm⟩]:List Lk)++List.drop Z xs)::e8 b2 [e7 (if e.v<e.u then e.v else e.u),e7 (if e.u<e.v then e.v else e.u),e7<|e.w,e7<|e.lb,e7<|e.sg,e7<|e.tm] 82::e8 b1 [e7 (e.kd),e7<|e.tm,e7 (if e.v<e.u then e.v else e.u),e7 (if e.u<e.v then e.v else e.u),e7<|e.w,e7<|e.lb,e7<|e.sg] 54::I) 5<|Dr 0 C (Ai C)<|Dr 1 C (Be (vs:=[_,_,_,_,_,_,_]) ty54) ?_
    refine Dr 3 C (Bd C)<|Ds1 2<|Se1 C (Cf (α:=Ev) (cs:=[e7 (e.kd),e7<|e.tm,e7 (if e.v<e.u then e.v else e.u),e7 (if e.u<e.v then e.v else e.u),e7<|e.w,e7<|e.lb,e7<|e.sg]) (xs:=[⟨e.kd,e.tm,if e.v<e.u then e.v else e.u,if e.u<e.v then e.v else e.u,e.w,e.lb,e.sg⟩]) A0 ty54 C C dc dc C kr C C) λar=>?_
    refine Dr 4 C (Bd C)<|Dz<|Ah<|Ao (S2 5 4 C C)<|Az ?_
    have hE:List.take Z xs++([⟨if e.v<e.u then e.v else e.u,if e.u<e.v then e.v else e.u,e.w,e.lb,e.sg,e.tm⟩]:List Lk)++List.drop Z xs=(setL (eh e) xs):=(setL_new hi3 ha M).symm
    have hC:setC xs e=[normE e]:=if_neg (set_not2 hi3 ha M)
    exact C7 C C C (vc 54 (.slice ar (setC xs e).length 1) (setC xs e)::([vc 82 (.slice ae (setL (eh e) xs).length ab) (setL (eh e) xs)]++I)) (by rw [hC,←hE];exact Bl) ⟨ae,ab,ar,1,[vc 82 (.slice ae (setL (eh e) xs).length ab) (setL (eh e) xs)],by rw [hC,←hE]<;>rfl,C3<|List.mem_append_left _ List.mem_cons_self,rfl⟩
   refine Se0 C (Es ef) ?_
   refine Ds1 3<|Sr C (Bb ef) Bc ?_
   refine Ds1 6<|Sr C (Ad fld54_3 C) Bc ?_
   refine Ds1 7<|Se0 C (Es ef) ?_
   refine Dz<|Ah<|Aq<|Bq mixed<|Ca (vc 82 (.slice ae (List.take Z xs++([⟨if e.v<e.u then e.v else e.u,if e.u<e.v then e.v else e.u,e.w,e.lb,e.sg,e.tm⟩]:List Lk)++List.drop Z xs).length ab) (List.take Z xs++([⟨if e.v<e.u then e.v else e.u,if e.u<e.v then e.v else e.u,e.w,e.lb,e.sg,e.tm⟩]:List Lk)++List.drop Z xs)::e8 b2 [e7 (if e.v<e.u then e.v else e.u),e7 (if e.u<e.v then e.v else e.u),e7<|e.w,e7<|e.lb,e7<|e.sg,e7<|e.tm] 82::e8 b1 [e7 (e.kd),e7<|e.tm,e7 (if e.v<e.u then e.v else e.u),e7 (if e.u<e.v then e.v else e.u),e7<|e.w,e7<|e.lb,e7<|e.sg] 54::I) 5<|Dr 0 C (Ai C)<|Dr 1 C (Be (vs:=[_,_,_,_,_,_,_]) ty54) ?_
   refine Dr 3 C (Bd C)<|Ds1 2<|Se1 C (Cf (α:=Ev) (cs:=[e7 (e.kd),e7<|e.tm,e7 (if e.v<e.u then e.v else e.u),e7 (if e.u<e.v then e.v else e.u),e7<|e.w,e7<|e.lb,e7<|e.sg]) (xs:=[⟨e.kd,e.tm,if e.v<e.u then e.v else e.u,if e.u<e.v then e.v else e.u,e.w,e.lb,e.sg⟩]) A0 ty54 C C dc dc C kr C C) λau=>?_
   refine Dr 4 C (Bd C)<|Dz<|Ah<|Ao (S2 5 4 C C)<|Az ?_
   have hE:List.take Z xs++([⟨if e.v<e.u then e.v else e.u,if e.u<e.v then e.v else e.u,e.w,e.lb,e.sg,e.tm⟩]:List Lk)++List.drop Z xs=(setL (eh e) xs):=(setL_new hi3 ha M).symm
   have hC:setC xs e=[normE e]:=if_neg (set_not2 hi3 ha M)
   exact C7 C C C (vc 54 (.slice au (setC xs e).length 1) (setC xs e)::([vc 82 (.slice ae (setL (eh e) xs).length ab) (setL (eh e) xs)]++I)) (by rw [hC,←hE];exact Bl) ⟨ae,ab,au,1,[vc 82 (.slice ae (setL (eh e) xs).length ab) (setL (eh e) xs)],by rw [hC,←hE]<;>rfl,C3<|List.mem_append_left _ List.mem_cons_self,rfl⟩
  refine Se0 C (Es ef) ?_
  refine Ds1 2<|Sr C (Ad fld82_1 C) Bc ?_
  refine Ds1 3<|Sr C (Bb ef) Bc ?_
  refine Ds1 6<|Sr C (Ad fld54_3 C) Bc ?_
  refine Ds1 7<|Se0 C (Es ef) ?_
  refine Dz<|Ah<|Aq<|Bq mixed<|Ef 5<|Dr 0 C (Ai C)<|Dr 1 C (Be (vs:=[_,_,_,_,_,_,_]) ty54) ?_
  refine Dr 3 C (Bd C)<|Ds1 2<|Se1 C (Cf (α:=Ev) (cs:=[e7 (e.kd),e7<|e.tm,e7 (if e.v<e.u then e.v else e.u),e7 (if e.u<e.v then e.v else e.u),e7<|e.w,e7<|e.lb,e7<|e.sg]) (xs:=[⟨e.kd,e.tm,if e.v<e.u then e.v else e.u,if e.u<e.v then e.v else e.u,e.w,e.lb,e.sg⟩]) A0 ty54 C C dc dc C kr C C) λap=>?_
  refine Dr 4 C (Bd C)<|Dz<|Ah<|Ao (S2 5 4 C C)<|Az ?_
  have hE:List.take Z xs++([⟨if e.v<e.u then e.v else e.u,if e.u<e.v then e.v else e.u,e.w,e.lb,e.sg,e.tm⟩]:List Lk)++List.drop Z xs=(setL (eh e) xs):=(setL_new hi3 ha M).symm
  have hC:setC xs e=[normE e]:=if_neg (set_not2 hi3 ha M)
  exact C7 C C C (vc 54 (.slice ap (setC xs e).length 1) (setC xs e)::([vc 82 (.slice ae (setL (eh e) xs).length ab) (setL (eh e) xs)]++I)) (by rw [hC,←hE];exact Bl) ⟨ae,ab,ap,1,[vc 82 (.slice ae (setL (eh e) xs).length ab) (setL (eh e) xs)],by rw [hC,←hE]<;>rfl,C3<|List.mem_append_left _ List.mem_cons_self,rfl⟩
 rw [M] at ak;exact absurd ak dc
section
variable {p:Lk->Bool}{xs:List Lk}{j:Nat}{nw:Int}
theorem chx_yes(Z:j<xs.length)(h:p (e_ xs j)=true):((List.take (j+1) xs).filter p).map (cutEv nw)=((List.take j xs).filter p).map (cutEv nw)++[cutEv nw (e_ xs j)]:=by
 rw [Cj xs j Z,List.filter_append,List.map_append];simp [h]
theorem chx_no(Z:j<xs.length)(h:p (e_ xs j)=false):((List.take (j+1) xs).filter p).map (cutEv nw)=((List.take j xs).filter p).map (cutEv nw):=by
 rw [Cj xs j Z,List.filter_append,List.map_append];simp [h]
end
theorem CutC_ok{κ:Ctx}{I:List Item}{nw:Int}{xs:List Lk}{g:FuncId}{ah:List Value}{p:Lk->Bool}(hl:Sl κ I (.slice a0 xs.length c0) xs)(ao:Says prog κ I g ah p)(az:xs.length<=1000000):eu prog κ 185 [.slice a0 xs.length c0,e7 nw,.func (.func g) #[] ah.toArray] I (λr J=>∃(a:Option Addr) (c:Nat) (a2:Option Addr) (c2:Nat),r = .tuple #[.slice a (xs.filter (λx=> !p x)).length c,.slice a2 ((xs.filter p).map (cutEv nw)).length c2]/\J=vk 54 a2 c2 ((xs.filter p).map (cutEv nw))::vk 82 a c (xs.filter (λx=> !p x))::I):=by
 refine Ce3 Tryz.func185 C C ?_
 refine Af<|Ga C<|Ga C<|Ac<|Af<|Gm C<|G.e (Ak c_ C C<|CloneL (xs:=xs) (A8 hl) om) ?_
 rintro _ _ ⟨_,_,⟨ab,ad,rfl,rfl⟩,rfl,rfl⟩
 refine Ga C<|Ac<|Af<|Ga C<|Ac<|Aq<|Af<|Ga C<|Ac<|Aw<|Bu (σ:=Nat×(Option Addr)×Nat×(List Ev)) (λs=>([(0,.slice ab (keepL (λx=> !p x) xs s.1).length ad),(1,e7 nw),(2,.func (.func g) #[] ah.toArray),(8,.slice s.2.1 s.2.2.2.length s.2.2.1),(9,e7<|((keptN (λx=> !p x) xs s.1:Nat):Int))]:Env)) (λs=>vk 54 s.2.1 s.2.2.1 s.2.2.2::vk 82 ab ad (keepL (λx=> !p x) xs s.1)::I) (λs=>(s.1<=xs.length)/\(s.2.2.2=((List.take s.1 xs).filter p).map (cutEv nw))) (λs=>xs.length - s.1) (0,none,0,[]) ⟨om,rfl⟩ (Aa (Cx C<|by first|rfl|(rw [keepL_zero])|(rw [Z.1])|(rw [M]))<|Aa C<|Aa C<|Aa (Cx C<|by first|rfl|(rw [keepL_zero])|(rw [Z.1])|(rw [M]))<|Aa (En C<|by first|omega|(rw [keptN_zero];rfl)|(dsimp only;have e1:=Z.2;omega)|(dsimp only;have e1:=ak;omega)) Bi) (by rw [keepL_zero];exact Cb _ _) ?_
 rintro ⟨j,a2,c2,aa⟩ hp
 dsimp only at hp ⊢
 obtain ⟨hj,ae⟩:=hp
 have ay:=keptN_le (P:=(λx=> !p x)) (xs:=xs) (j:=j)
 have av:=keepL_len (P:=(λx=> !p x)) (xs:=xs) (j:=j)
 have aw:aa.length<=j:=by rw [ae,List.length_map];exact Nat.le_trans (List.length_filter_le _ _) (by rw [List.length_take];omega)
 refine W.pull (vc.cap (xs:=(keepL (λx=> !p x) xs j)) mm) λax=>?_
 refine Aq<|Af<|Gm C<|Gm C<|Gr (Bh A9 C)<|Gr (A4 C C)<|Ac<|A5 C (λar=>?_)<|λar=>?_
 ·refine Av (Ah<|Aw<|Aq<|Af<|Gm C<|Gm C<|Gm C<|Gr (Ax (α:=Lk) (xs:=(keepL (λx=> !p x) xs j)) A9 ty82 C C Bf om om)<|Gr (Bx (α:=Lk) (xs:=(keepL (λx=> !p x) xs j)) ty82 C Bf om om)<|G.e (Cv ao.1 (first:=[]) (caps:=ah) C C C<|ao.2 (e_ (keepL (λx=> !p x) xs j) ((keptN (λx=> !p x) xs j:Nat):Int)) _ Ay) ?_)
  rintro _ _ ⟨_,_,⟨rfl,rfl⟩,rfl,rfl⟩
  refine Gr (Co C)<|Ac<|Ao (S6 22 0 1 2 8 9 C C C C C C)<|D4 C (λaj=>?_)<|λaj=>?_
  ·refine Af (Gm C<|Gr (Rad C C)<|Ga C<|Ac<|Bs<|Al<|A2 ?_)
   have ai:=keepL_at (P:=(λx=> !p x)) (xs:=xs) (j:=j) om
   have Z:=keep_yes (P:=(λx=> !p x)) (xs:=xs) (j:=j) om (by rw [←ai];exact aj)
   exact B3 ((j+1),(a2),(c2),(aa)) (by dsimp only;exact ⟨om,(by rw [chx_no om (by rw [←ai];simpa using aj)];exact ae)⟩) (hL:=(Aa (Cx C<|by first|rfl|(rw [keepL_zero])|(rw [Z.1])|(rw [M]))<|Aa C<|Aa C<|Aa (Cx C<|by first|rfl|(rw [keepL_zero])|(rw [Z.1])|(rw [M]))<|Aa (En C<|by first|omega|(rw [keptN_zero];rfl)|(dsimp only;have e1:=Z.2;omega)|(dsimp only;have e1:=ak;omega)) Bi)) (hI:=by (try dsimp only);exact (by rw [Z.1];exact Bc))
  refine Av<|Ah<|Af<|Gm C ?_
  have an:(λx=> !p x) (e_ xs j)=false:=by rw [←keepL_at (P:=(λx=> !p x)) (xs:=xs) (j:=j) om];exact aj
  have ak:=keep_no (P:=(λx=> !p x)) (xs:=xs) (j:=j) om an
  refine Gm C<|Gm C<|Gr (Ax (α:=Lk) (xs:=(keepL (λx=> !p x) xs j)) A9 ty82 C C Bf om om)<|Gr (Bx (α:=Lk) (xs:=(keepL (λx=> !p x) xs j)) ty82 C Bf om om)<|Gm C<|G.e (Ak c_ C C<|Gone_ok (e_ (keepL (λx=> !p x) xs j) ((keptN (λx=> !p x) xs j:Nat):Int)) nw) ?_
  rintro _ _ ⟨_,_,⟨rfl,rfl⟩,rfl,rfl⟩
  refine Ge1 (Cf (α:=Ev) (cs:=[e7 2,e7 nw,e7<|(e_ (keepL (λx=> !p x) xs j) ((keptN (λx=> !p x) xs j:Nat):Int)).u,e7<|(e_ (keepL (λx=> !p x) xs j) ((keptN (λx=> !p x) xs j:Nat):Int)).v,e7 0,e7 0,e7 0]) (xs:=[⟨2,nw,(e_ (keepL (λx=> !p x) xs j) ((keptN (λx=> !p x) xs j:Nat):Int)).u,(e_ (keepL (λx=> !p x) xs j) ((keptN (λx=> !p x) xs j:Nat):Int)).v,0,0,0⟩]) A0 ty54 C C dc dc C kr C C) λau=>?_
  refine Ge2 (Cg (α:=Ev) (e:=54) (xs:=aa) (ys:=([⟨2,nw,(e_ (keepL (λx=> !p x) xs j) ((keptN (λx=> !p x) xs j:Nat):Int)).u,(e_ (keepL (λx=> !p x) xs j) ((keptN (λx=> !p x) xs j:Nat):Int)).v,0,0,0⟩]:List Ev)) A0 ty54 C C C mm Bf lcn dc C<|λ_ _=>am) λap aq=>?_
  refine Ga C<|Ac<|Ao (S5 8 0 1 2 9 C C C C C)<|Aq<|Bq mixed<|Ca I 8<|Dr 0 C (Ai C)<|Dr 1 C (Ai C)<|Dr 2 C (C1 (l:=keptN (λx=> !p x) xs j) A9 ty82 C C (by simp only [Int.natCast_add]<;>omega) om om)<|Dr 3 C (Ai C)<|Dr 4 C (Ai C)<|Dr 5 C (Rad C C)<|Dr 6 C (C1 (l:=(keptN (λx=> !p x) xs j+1)) A9 ty82 C C (by simp only [Int.natCast_add]<;>omega) om om)<|Ds1 7<|Se0 C (Fe (α:=Lk) (k:=keptN (λx=> !p x) xs j) (q:=(xs.length - j - 1)) (R:=(keepL (λx=> !p x) xs<|j+1)++List.drop (keptN (λx=> !p x) xs j+(xs.length - j - 1)) (keepL (λx=> !p x) xs j)) (n:=(keepL (λx=> !p x) xs j).length) A9 ty82 C lat C (Sl.dropn (C3 (xs:=(keepL (λx=> !p x) xs j)) mm) om om) lat lat C (keep_copy om an C) lat am) ?_
  refine Dz<|Ah<|Ar<|Gm C<|Gm C<|Gr (Bh A9 C)<|Gr (Rsu C C)<|Gr (E2 (h:=((keepL (λx=> !p x) xs j).length - 1)) A9 ty82 C C om om)<|Ga C ?_
  have M:(keepL (λx=> !p x) xs j).length - 1=(keepL (λx=> !p x) xs<|j+1).length:=by have h3:=keepL_len (P:=(λx=> !p x)) (xs:=xs) (j:=j+1);omega
  refine Eh (J:=vc 54 (.slice au 1 1) (([⟨2,nw,(e_ (keepL (λx=> !p x) xs j) ((keptN (λx=> !p x) xs j:Nat):Int)).u,(e_ (keepL (λx=> !p x) xs j) ((keptN (λx=> !p x) xs j:Nat):Int)).v,0,0,0⟩]:List Ev))::vk 54 ap aq (aa++([⟨2,nw,(e_ (keepL (λx=> !p x) xs j) ((keptN (λx=> !p x) xs j:Nat):Int)).u,(e_ (keepL (λx=> !p x) xs j) ((keptN (λx=> !p x) xs j:Nat):Int)).v,0,0,0⟩]:List Ev))::vk 82 ab ad (keepL (λx=> !p x) xs<|j+1)::I) (Fit.upd am (λw h=>by have h4:=cutshort (h:=((keepL (λx=> !p x) xs j).length - 1)) (by rw [List.length_append];omega) w h;rw [keep_take M] at h4;exact h4)) ?_
  refine Bj<|Aj ?_
  have ai:=keepL_at (P:=(λx=> !p x)) (xs:=xs) (j:=j) om
  exact B3 ((j+1),(ap),(aq),(aa++([⟨2,nw,(e_ (keepL (λx=> !p x) xs j) ((keptN (λx=> !p x) xs j:Nat):Int)).u,(e_ (keepL (λx=> !p x) xs j) ((keptN (λx=> !p x) xs j:Nat):Int)).v,0,0,0⟩]:List Ev))) (by dsimp only;exact ⟨om,(by rw [chx_yes om (by simpa using an),←ae,ai];rfl)⟩) (hL:=(Aa (Cx C<|by first|rfl|(rw [keepL_zero])|(rw [Z.1])|(rw [M]))<|Aa C<|Aa C<|Aa (Cx C<|by first|rfl|(rw [keepL_zero])|(rw [Z.1])|(rw [M]))<|Aa (En C<|by first|omega|(rw [keptN_zero];rfl)|(dsimp only;have e1:=Z.2;omega)|(dsimp only;have e1:=ak;omega)) Bi))
 refine Bs<|Al<|Al<|A2<|Ah<|Af<|Gm C<|Gm C<|Ga C<|Ga C<|Ac<|Az ?_
 have hE:(keepL (λx=> !p x) xs j)=(xs.filter<|λx=> !p x):=keepL_end om
 have hC:aa=(xs.filter p).map (cutEv nw):=by rw [ae,List.take_of_length_le om]
 exact C7 C C C (vk 54 a2 c2 ((xs.filter p).map (cutEv nw))::vk 82 ab ad (xs.filter<|λx=> !p x)::I) (by rw [←hE,←hC];exact Bc) ⟨ab,ad,a2,c2,by rw [←hE,←hC],rfl⟩
variable {κ:Ctx}{I:List Item}
theorem StepC_ok{e:Ev}{xs:List Lk}(hT:Has I T)(hl:Sl κ T (.slice a0 xs.length c0) xs)(ha:xs.Pairwise Lk.lt)(au:xs.length<=1000000):eu prog κ 171 [.agg #[e7 nd,.slice a0 xs.length c0],.agg (ez e).toArray] I (λr J=>∃(a:Option Addr) (c:Nat) (a2:Option Addr) (c2:Nat) (Y:List Item),r = .tuple #[.agg #[e7 nd,.slice a (ep xs e).length c],.slice a2 (chgL xs e).length c2]/\Sl κ (Y++T) (.slice a (ep xs e).length c) (ep xs e)/\J=vk 54 a2 c2 (chgL xs e)::(Y++I)):=by
 refine Ce2 Tryz.func171 C C ?_
 refine Af<|Ge1 (Bg (cs:=[_,_]) C C C) λb1=>Ge1 (Bg (cs:=[_,_,_,_,_,_,_]) C C C) λb2=>Ge1 (A3 ty35 C) λb3=>Ga C<|Ac<|Af<|Ga C<|Ac<|Aq<|Af<|Gf fld54_0 C<|Gl ef ?_
 refine Ac<|Aw<|Af<|Gr (Bw C C)<|Ga C<|Ac<|A5 C (λZ=>?_)<|λZ=>?_
 ·refine Ar (Gf fld35_1 C<|Gl ty33 ?_)
  refine Gl7 ty54 ?_
  refine G.e (Ak c_ C C<|SetC_ok (T:=T) (e:=e) (xs:=xs) (by repeat (first|exact hT|exact Ci _|apply Ch|apply C9)) hl ha om) ?_
  rintro _ _ ⟨_,_,⟨ap,ar,aj,an,Y8,rfl,aq,rfl⟩,rfl,rfl⟩
  refine Eh (J:=vk 54 aj an (setC xs e)::e8 b3 [e7 0,.slice none 0 0] 35::e8 b2 (ez e) 54::e8 b1 [e7 nd,.slice a0 xs.length c0] 35::(Y8++I)) (C2<|List.Perm.cons _<|Dl (A:=Y8) (L:=[e8 b3 [e7 0,.slice none 0 0] 35,e8 b2 (ez e) 54,e8 b1 [e7 nd,.slice a0 xs.length c0] 35]) (T:=I)) ?_
  refine Gm C<|Gr (Am C C)<|Gr (Am C C)<|Gf fld35_1 C<|Ge0 (Es2_1 ty33) ?_
  refine Ga C<|Bj<|Aj<|Ah<|Ao (S3 6 4 2 C C C)<|Af<|Gl2 ty35 ?_
  refine Gm C<|Ge0 (Cz ty35) ?_
  refine Ga C<|Ac<|Az ?_
  have hE:setL (eh e) xs=(ep xs e):=by unfold ep;rw [if_pos Z]
  have hC:setC xs e=chgL xs e:=by unfold chgL;rw [if_pos Z]
  exact C0 C ty35 C C mm C (vk 54 aj an (chgL xs e)::(Y8++I)) (by rw [←hC];exact Bl) ⟨ap,ar,aj,an,Y8,by rw [←hE,←hC]<;>rfl,by rw [←hE];exact aq,rfl⟩
 refine Af<|Gr (Bw C C)<|Ga C<|Ac<|A5 C (λak=>?_)<|λak=>?_
 ·refine Ar (Gf fld35_1 C<|Gl ty33 ?_)
  refine Gf fld54_1 C<|Gl ef ?_
  refine Gr (Dw C C)<|G.e (Ak c_ C C<|CutC_ok (xs:=xs) (nw:=e.tm) (Bz hl<|Cq Ay hT.fit) (Step1_says ak<|Ds mm) om) ?_
  rintro _ _ ⟨_,_,⟨ao,M,ae,ai,rfl,rfl⟩,rfl,rfl⟩
  refine Gm C<|Gr (Am C C)<|Gr (Am C C)<|Gf fld35_1 C<|Ge0 (Es2_1 ty33) ?_
  refine Ga C<|Bj<|Aj<|Ah<|Ao (S3 6 4 2 C C C)<|Af<|Gl2 ty35 ?_
  refine Gm C<|Ge0 (Cz ty35) ?_
  refine Ga C<|Ac<|Az ?_
  have hE:List.filter (λx=> !hitE e x) xs=(ep xs e):=by unfold ep;rw [if_neg Z]
  have hC:(xs.filter<|hitE e).map (cutEv e.tm)=chgL xs e:=by unfold chgL;rw [if_neg Z]
  exact C0 C ty35 C C mm C (vk 54 ae ai (chgL xs e)::([vk 82 ao M (ep xs e)]++I)) (by rw [←hC,←hE];exact Bl) ⟨ao,M,ae,ai,[vk 82 ao M (ep xs e)],by rw [←hE,←hC]<;>rfl,C3<|List.mem_append_left _ List.mem_cons_self,rfl⟩
 refine Ar<|Gf fld35_1 C<|Gl ty33 ?_
 refine Gf fld54_1 C<|Gl ef ?_
 refine Gr (Dw C C)<|G.e (Ak c_ C C<|CutC_ok (xs:=xs) (nw:=e.tm) (Bz hl<|Cq Ay hT.fit) (Step2_says ak<|Ds mm) om) ?_
 rintro _ _ ⟨_,_,⟨ab,aa,ah,ad,rfl,rfl⟩,rfl,rfl⟩
 refine Gm C<|Gr (Am C C)<|Gr (Am C C)<|Gf fld35_1 C<|Ge0 (Es2_1 ty33) ?_
 refine Ga C<|Bj<|Aj<|Ah<|Ao (S3 6 4 2 C C C)<|Af<|Gl2 ty35 ?_
 refine Gm C<|Ge0 (Cz ty35) ?_
 refine Ga C<|Ac<|Az ?_
 have hE:List.filter (λx=> !hitE e x) xs=(ep xs e):=by unfold ep;rw [if_neg Z]
 have hC:(xs.filter<|hitE e).map (cutEv e.tm)=chgL xs e:=by unfold chgL;rw [if_neg Z]
 exact C0 C ty35 C C mm C (vk 54 ah ad (chgL xs e)::([vk 82 ab aa (ep xs e)]++I)) (by rw [←hC,←hE];exact Bl) ⟨ab,aa,ah,ad,[vk 82 ab aa (ep xs e)],by rw [←hE,←hC]<;>rfl,C3<|List.mem_append_left _ List.mem_cons_self,rfl⟩
theorem ApplyC_ok{e:Ev}{xs:List Lk}(hl:Sl κ I (.slice a0 xs.length c0) xs)(hv:checkS nd xs=0)(hf:FitOk nd e)(ai:xs.length<=100000):eu prog κ 150 [.agg #[e7 nd,.slice a0 xs.length c0],.agg (ez e).toArray] I (λr J=>∃(a:Option Addr) (c:Nat) (a2:Option Addr) (c2:Nat),r = .tuple #[.agg #[e7 nd,.slice a (ep xs e).length c],.slice a2 (chgL xs e).length c2,e7 0]/\J=vk 82 a c (ep xs e)::vk 54 a2 c2 (chgL xs e)::I):=by
 refine Ce2 Tryz.func150 C C ?_
 refine Af<|Ge1 (Bg (cs:=[_,_]) C C C) λb1=>Ge1 (Bg (cs:=[_,_,_,_,_,_,_]) C C C) λb2=>Ge1 (A3 ty35 C) λb3=>Ga C<|Ga C<|Ac<|Af<|Gl2 ty35 ?_
 refine G.e (Ak c_ C C<|CheckS_ok (nd:=nd)<|A8 hl) ?_
 rintro _ _ ⟨_,_,⟨rfl,rfl⟩,rfl,rfl⟩
 refine Ga C<|Ac<|Aq<|Af<|Gm C<|Gr (Bw C C)<|Ac<|A5 C (λc13=>?_)<|λc13=>?_
 ·refine Ar (Gf fld35_0 C<|Gl ef ?_)
  refine Gl7 ty54 ?_
  refine Gc0 (Ak c_ C C<|FitsE_ok nd e) ?_
  refine Ga C<|Ac<|Ao (S4 7 4 3 2 C C C C)<|Aq<|Af<|Gm C<|Gr (Bo C C)<|Ac<|A5 C (λad=>?_)<|λad=>?_
  ·exact absurd (fitE_ok.2 hf) ad
  refine Av<|Ah<|Af<|Gl2 ty35 ?_
  refine Gl7 ty54 ?_
  refine G.e (Ak c_ C C<|StepC_ok (T:=I) (nd:=nd) (e:=e) (xs:=xs) (by repeat (first|exact hT|exact Ci _|apply Ch|apply C9)) hl (checkS_ok hv).2.2 om) ?_
  rintro _ _ ⟨_,_,⟨ah,aj,aa,ab,Y8,rfl,ae,rfl⟩,rfl,rfl⟩
  refine Eh (J:=vk 54 aa ab (chgL xs e)::e8 b3 [e7 0,.slice none 0 0] 35::e8 b2 (ez e) 54::e8 b1 [e7 nd,.slice a0 xs.length c0] 35::(Y8++I)) (C2<|List.Perm.cons _<|Dl (A:=Y8) (L:=[e8 b3 [e7 0,.slice none 0 0] 35,e8 b2 (ez e) 54,e8 b1 [e7 nd,.slice a0 xs.length c0] 35]) (T:=I)) ?_
  refine Gm C<|Gr (Am C C)<|Gr (Am C C)<|Ge1 (A3 ty35 C) λb9=>Ge0 (Cz ty35) ?_
  refine Ga C<|Ac<|Ao (S3 9 8 4 C C C)<|Af<|Gf fld35_1 C<|Gl ty33 ?_
  refine G.e (Ak c_ C C<|CloneL (xs:=ep xs e) (Bz ae Ay)<|by have h:=stepL_len xs e;omega) ?_
  rintro _ _ ⟨_,_,⟨M,Z,rfl,rfl⟩,rfl,rfl⟩
  refine Gf fld35_1 C<|Ge0 (Es2_1 ty33) ?_
  refine Ac<|Af<|Gl2 ty35 ?_
  refine Gm C<|Ge0 (Cz ty35) ?_
  exact Ga C<|Ga C<|Ac<|Az<|C6 C ty35 C C C mm C (vk 82 M Z (ep xs e)::vk 54 aa ab (chgL xs e)::I) Bl ⟨M,Z,aa,ab,rfl,rfl⟩
 exact absurd hv c13
end Go.Sl
namespace Go.Sl
section
variable {ys:List Int}{m:Nat}{k:Int}
theorem srt_le(hs:ys.Pairwise λa b=>a<=b){i j:Nat}(M:i<=j)(Z:j<ys.length):e_ ys i<=e_ ys j:=by
 by_cases e:i=j
 ·subst e;exact Int.le_refl _
 rw [at_get ys i (by omega),at_get ys j Z]
 exact (List.pairwise_iff_getElem.1 hs) i j (by omega) Z<|by omega
theorem srt_cnt_ge(hs:ys.Pairwise λa b=>a<=b)(hm:m<ys.length)(h:k<=e_ ys m):ys.length - m<=(ys.filter λx=>decide (k<=x)).length:=by
 have Z:(ys.drop m).filter (λx=>decide<|k<=x)=ys.drop m:=List.filter_eq_self.2 λx M=>by
  obtain ⟨i,hi,rfl⟩:=List.getElem_of_mem M
  rw [List.length_drop] at hi
  rw [List.getElem_drop,←at_get ys (m+i) (by omega)]
  have:=srt_le hs (i:=m) (j:=m+i) (by omega) (by omega)
  exact decide_eq_true<|by omega
 have h2:ys.filter (λx=>decide<|k<=x)=(ys.take m).filter (λx=>decide<|k<=x)++(ys.drop m).filter (λx=>decide<|k<=x):=by rw [←List.filter_append,List.take_append_drop]
 rw [h2,Z,List.length_append,List.length_drop];omega
theorem srt_cnt_le(hs:ys.Pairwise λa b=>a<=b)(hm:m<ys.length)(h:e_ ys m<k):(ys.filter λx=>decide (k<=x)).length<=ys.length - 1 - m:=by
 have Z:(ys.take<|m+1).filter (λx=>decide<|k<=x)=[]:=List.filter_eq_nil_iff.2 λx hx=>by
  obtain ⟨i,hi,rfl⟩:=List.getElem_of_mem hx
  rw [List.length_take] at hi
  rw [List.getElem_take,←at_get ys i (by omega)]
  have:=srt_le hs (i:=i) (j:=m) (by omega) (by omega)
  simp;omega
 have h2:ys.filter (λx=>decide<|k<=x)=(ys.take<|m+1).filter (λx=>decide<|k<=x)++(ys.drop<|m+1).filter (λx=>decide<|k<=x):=by rw [←List.filter_append,List.take_append_drop]
 have M:=List.length_filter_le (λx=>decide<|k<=x) (ys.drop<|m+1)
 rw [List.length_drop] at M
 rw [h2,Z,List.nil_append];omega
theorem hi_of{xs:List Int}{h:Nat}(hp:ys.Perm xs)(hs:ys.Pairwise λa b=>a<=b)(hh:h<=ys.length)(Z:0<h->(h:Int) - 1<e_ ys (((ys.length - h:Nat)):Int))(M:h<ys.length->e_ ys (((ys.length - 1 - h:Nat)):Int)<=h):HI xs h:=by
 have hf:∀k:Int,((xs.filter λx=>decide<|k<=x).length:Int)=((ys.filter λx=>decide<|k<=x).length:Int):=λk=>by rw [(hp.filter _).length_eq]
 refine ⟨by omega,?_,λk hk=>?_⟩
 ·rw [hf]
  by_cases h0:h=0
  ·omega
  have:=srt_cnt_ge hs (m:=ys.length - h) (k:=(h:Int)) (by omega) (by have:=Z (by omega);omega)
  omega
 rw [hf] at hk
 refine Classical.byContradiction λhlt=>?_
 by_cases hl:h<ys.length
 ·have:=srt_cnt_le hs (m:=ys.length - 1 - h) (k:=k) (by omega) (by have:=M hl;omega)
  omega
 have:=List.length_filter_le (λx=>decide<|k<=x) ys
 omega
end
end Go.Sl
namespace Go.Sl
open Go.Proofs
set_option maxRecDepth 4000
theorem H_ok{κ:Ctx}{I:List Item}{a0:Option Addr}{c0:Nat}{xs:List Int}(hl:Sl κ I (.slice a0 xs.length c0) xs)(hb:xs.length<=1000000):eu prog κ 291 [.slice a0 xs.length c0] I (λr J=>∃h:Nat,r=e7 (h:Int)/\HI xs h/\I=J):=by
 have Z:=sortZ_len xs
 refine Ce1 Tryz.func291 C C ?_
 refine Af<|Ga C<|Ac<|Af<|Gm C<|Gc2 (Ak c_ C C<|CloneI (xs:=xs) (A8 hl) om) λad ae=>?_
 refine Ga C<|Ac<|Af<|Gm C<|Gc1 (Ak c_ C C<|Cm (J:=vk 3 ad ae xs::I) Bl<|sortI_ok om) ?_
 refine Ac<|Af<|Ga C<|Ac<|Aq<|Aw<|Bu (σ:=Nat) (λs=>([(0,.slice ad xs.length ae),(3,e7 ((s:Nat):Int))]:Env)) (λs=>vc 3 (.slice ad xs.length ae) (sortZ xs)::I) (λs=>(s<=xs.length)/\(0<s->(s:Int) - 1<e_ (sortZ xs) (((xs.length - s:Nat)):Int))) (λs=>xs.length - s) 0 ⟨om,(λh=>absurd h om)⟩ (Aa C<|Aa B2 Bi) Bc ?_
 rintro h hp
 obtain ⟨hh,aa⟩:=hp
 have aj:h<xs.length->(((xs.length - (h+1):Nat)):Int)=(xs.length:Int) - 1 - (h:Int):=λh=>by omega
 have ab:h<xs.length->(((xs.length - 1 - h:Nat)):Int)=(xs.length:Int) - 1 - (h:Int):=λh=>by omega
 refine Aq<|Af<|Gm C<|Gm C<|Gr (Bh Ab C)<|Gr (A4 C C)<|Gm C<|Bt (d:=12) C (λai=>?_)<|λai=>?_
 ·refine e9 (Ai C) (e9 (Ai C)<|e9 (Bh Ab C)<|e9 (Rsu C C)<|e9 (Ai C)<|e9 (Rsu C C)<|e9 (Ax (α:=Int) (xs:=sortZ xs) Ab ef C C Bf om om)<|e9 (Br (xs:=sortZ xs) ef C Bf om om)<|e9 (Ai C)<|e9 (Cc C C)<|Gr (Ba C C)<|Ac<|Ao (S3 23 0 3 C C C)<|A5 C (λah=>?_)<|λah=>?_)
  ·exact Av<|Ah<|Aw<|Ar<|Gm C<|Gr (Rad C C)<|Ga C<|Bj<|Aj<|B3 ((h+1)) ⟨om,(λ_=>by rw [aj om];omega)⟩
  exact Bs<|Al<|Al<|A2<|Ah<|Af<|Gm C<|Ga C<|Ac<|Az<|A1 C C I Ay ⟨h,rfl,hi_of (sortZ_perm xs) (sortZ_asc xs) om (λM=>by rw [Z];exact aa M)<|λM=>by rw [Z] at M ⊢; rw [ab M];omega,rfl⟩
 exact eb<|eb<|eb<|eb<|eb<|eb<|eb<|eb<|eb<|eb<|Gr (A6 C C)<|Ac<|Ao (S3 23 0 3 C C C)<|Dp C<|Bs<|Al<|Al<|A2<|Ah<|Af<|Gm C<|Ga C<|Ac<|Az<|A1 C C I Ay ⟨h,rfl,hi_of (sortZ_perm xs) (sortZ_asc xs) om (λM=>by rw [Z];exact aa M)<|λM=>by rw [Z] at M ⊢; rw [ab M];omega,rfl⟩
end Go.Sl
namespace Go.Sl
section
variable {α:Type}[Enc α]{κ:Ctx}{I:List Item}
theorem Fit.dropvc{e:TypeId}{a:Option Addr}{n c k:Nat}{xs:List α}(hn:n=xs.length)(hk:k<=xs.length):Fit κ (vc e (.slice a n c) xs::I) (vc e (.slice (adrop a c k (Enc.sz α)) (xs.drop k).length (c - k)) (xs.drop k)::I):=by
 subst hn
 refine Fit.upd (At.head _ _ _) λw h=>⟨?_,λj ⟨o,m,c',hv,hc⟩=>?_⟩
 ·obtain ⟨a',cap,hv,h1,h2,h3,h4⟩:=h
  cases hv
  refine ⟨_,c - k,rfl,cells_length _,by rw [List.length_drop];omega,by omega,λhc=>?_⟩
  obtain ⟨b,off,M,Z,hb,h5,h6⟩:=h4 (by omega)
  refine ⟨b,off+k*Enc.sz α,M,by rw [Z];unfold adrop;rw [if_neg (by omega)];simp [addr_add],hb,?_,λj u hj=>?_⟩
  ·have e1:(c - k)*Enc.sz α+k*Enc.sz α=c*Enc.sz α:=by rw [←Nat.add_mul];congr 1;omega
   omega
  rw [cells_drop,List.getElem?_drop] at hj
  rw [Nat.add_assoc]
  exact h6 _ u hj
 injection hv with Z hm hcc
 subst hcc
 unfold adrop at Z
 rw [if_neg (by omega)] at Z
 obtain ⟨a',cap,hv,h1,h2,h3,h4⟩:=h
 cases hv
 obtain ⟨b,off,M,h5,hb,_⟩:=h4 (by omega)
 subst h5
 simp only [Option.map_some,Option.some.injEq,addr_add] at Z
 injection Z with hb1
 subst hb1
 exact ⟨off,_,c,rfl,by omega⟩
end
end Go.Sl
namespace Go.Sl
open Go.Proofs
set_option maxRecDepth 4000
variable{Z b ec nc:Nat}{qs:List Int}{M ea na:Option Addr}{nd u v:Int}{es:List Pt}
variable {κ:Ctx}{I:List Item}
theorem QPut_ok{la:Option Addr}{lc:Nat}{i:Int}(hb:qs.length<=1000000000):eu prog κ 292 [e7 i,(pt b)] (vk 3 la lc qs::e8 b [.slice la qs.length lc] 22::I) (λr J=>∃(a:Option Addr) (c:Nat),r = .tuple #[]/\J=vk 3 a c (qs++[i])::e8 b [.slice a (qs++[i]).length c] 22::I):=by
 refine Ce2 Tryz.func292 C C ?_
 refine Ar<|Gl ty22 ?_
 refine Gm C<|Ge1 (Cf (α:=Int) (cs:=[_]) (xs:=[i]) Ab ef C C dc dc C C C C) λaa=>?_
 refine Ge2 (Cg (α:=Int) (e:=3) (xs:=qs) (ys:=([i]:List Int)) Ab ef C C C mm Bf lcn dc C<|λ_ _=>am) λZ M=>?_
 refine Ge0 (Cd (cs:=[_]) (vs:=[_]) (cs':=[_]) ty22) ?_
 exact Bj<|V.end0 C (vk 3 Z M (qs++[i])::e8 b [.slice Z (qs++[i]).length M] 22::I) Bl ⟨Z,M,rfl,rfl⟩
theorem QTake_ok(hb:qs.length<=1000000000):eu prog κ 293 [(pt b)] (vk 3 M Z qs::e8 b [.slice M qs.length Z] 22::I) (λr J=>(qs=[]/\r = .tuple #[e7 0,.bool false]/\J=vk 3 M Z qs::e8 b [.slice M qs.length Z] 22::I)\/(0<qs.length/\∃(a:Option Addr) (c:Nat),r = .tuple #[e7 (e_ qs 0),.bool true]/\J=vk 3 a c (qs.drop 1)::e8 b [.slice a (qs.drop 1).length c] 22::I)):=by
 refine Ce1 Tryz.func293 C C ?_
 refine Af<|Ga C<|Ga C<|Ac<|Aq<|Af<|Gl ty22 ?_
 refine Gr (Bh Ab C)<|Gr (Bw C C)<|Ac<|A5 C (λc6=>?_)<|λc6=>?_
 ·exact Af<|Ga C<|Ga C<|Ac<|Az<|Ap<|C7 C C C (vk 3 M Z qs::e8 b [.slice M qs.length Z] 22::I) Bl<|.inl ⟨List.length_eq_zero_iff.1 om,rfl,rfl⟩
 refine Av<|Ah<|Af<|Gl ty22 ?_
 refine Gr (Ax (α:=Int) (xs:=qs) Ab ef C C Bf om om)<|Gr (Br (xs:=qs) ef C Bf om om)<|Ga C<|Ac<|Af<|Gl ty22 ?_
 refine Gr (Ek (α:=Int) (xs:=qs) (l:=1) Ab ef C C om Bf om)<|Ge0 (Cd (cs:=[_]) (vs:=[_]) (cs':=[_]) ty22) ?_
 exact Ac<|Af<|Gm C<|Ga C<|Ga C<|Ac<|Ao (S2 2 1 C C)<|Az<|C7 C C C (vc 3 (.slice (adrop M Z 1<|Enc.sz Int) (List.drop 1 qs).length (Z - 1)) (qs.drop 1)::e8 b [.slice (adrop M Z 1<|Enc.sz Int) (List.drop 1 qs).length (Z - 1)] 22::I) (Cq Bl<|Fit.dropvc (α:=Int) C om)<|.inr ⟨by omega,(adrop M Z 1<|Enc.sz Int),(Z - 1),rfl,rfl⟩
theorem Queue_ok  :
    eu prog κ 290 [] I (λr J=>∃b:Nat,r = .tuple #[.func (.func 292) #[] #[(pt b)],.func (.func 293) #[] #[(pt b)]]/\J=vk 3 none 0 ([]:List Int)::e8 b [.slice none ([]:List Int).length 0] 22::I):=by
 refine Ce0 Tryz.func290 C C ?_
 exact Af<|Ga C<|Ga C<|Ac<|Af<|Ge1 (A3 ty22 C) λb1=>Ac<|Af<|Gr (Dw C C)<|Ga C<|Ac<|Af<|Gr (Dw C C)<|Ga C<|Ac<|Af<|Gm C<|Gm C<|Ga C<|Ga C<|Ac<|Az<|C7 C C C (vk 3 none 0 ([]:List Int)::e8 b1 [.slice none ([]:List Int).length 0] 22::I) (Cq Bl<|Cb (α:=Int) _ _) ⟨b1,rfl,rfl⟩
variable {κ:Ctx}{I:List Item}
theorem MV_ok(hl:Sl κ I (.slice ea es.length ec) es)(hm:Sl κ I (.slice na (trussG nd es).length nc) (trussG nd es))(hG:GrOk nd es)(hT:TabRd κ I 0 tzCells):eu prog κ 285 [.agg #[e7 nd,.slice ea es.length ec,.slice na (trussG nd es).length nc]] I (λr J=>r = .bool true/\I=J):=by
 have Z:=checkG_ok.2 hG
 have aa:=edges_le hG
 refine Ce1 Tryz.func285 C C ?_
 refine Af<|Ge1 (Bg (cs:=[_,_,_]) C C C) λb1=>Ga C<|Ac<|Af<|Gf fld41_0 C<|Gl2 ty38 ?_
 refine G.e (Ak c_ C C<|TNumbers_ok (nd:=nd) (A8 hl) om<|Bm hT Ay) ?_
 rintro _ _ ⟨_,_,⟨ab,ad,rfl,rfl⟩,rfl,rfl⟩
 refine Gm C<|Gr (Am C C)<|Gr (Am C C)<|Ga C<|Ga C<|Ac<|Af<|Gm C<|Gr (Bw C C)<|Gm C<|Bt (d:=13) C (λM=>?_)<|λM=>?_
 ·refine e9 (Ai C) (e9 (Ad fld41_1 C)<|e9 (Bb ty22) ?_)
  refine Ew (C5 C C C) (Ak c_ C C<|EqN_ok (xs:=trussG nd es) (ys:=trussG nd es) Bf<|A8 hm) ?_
  rintro _ _ ⟨_,_,⟨rfl,rfl⟩,rfl,rfl⟩
  exact Gr (Ba C C)<|Ga C<|Ac<|Ao (S1 2 C)<|Az<|A1 C C I Ay ⟨by first|rfl|(simp;done)|exact absurd Z asm,rfl⟩
 exact eb<|eb<|eb<|eb<|Gr (A6 C C)<|Ga C<|Ac<|Ao (S1 2 C)<|Az<|A1 C C I Ay ⟨by first|rfl|(simp;done)|exact absurd Z asm,rfl⟩
theorem MAsked_ok(hl:Sl κ I (.slice M es.length ec) es)(hm:Sl κ I (.slice na (trussG nd es).length Z) (trussG nd es))(hG:GrOk nd es)(he:endsP nd u v)(hT:TabRd κ I 0 tzCells):eu prog κ 286 [.agg #[e7 nd,.slice M es.length ec,.slice na (trussG nd es).length Z],e7 u,e7 v] I (λr J=>r=e7 0/\I=J):=by
 refine Ce3 Tryz.func286 C C ?_
 refine Af<|Ge1 (Bg (cs:=[_,_,_]) C C C) λb1=>Ga C<|Ac<|Aq<|Aw<|Af<|Gl3 ty41 ?_
 refine Gc0 (Ak c_ C C<|MV_ok (nd:=nd) (A8 hl) (A8 hm) hG<|Bm hT Ay) ?_
 refine Gr (Co C)<|Ga C<|Ac<|Dp C<|Af<|Gf fld41_0 C<|Gf fld38_0 C<|Gl ef ?_
 refine Gm C<|Gm C<|Gc0 (Ak c_ C C<|Ends_ok nd u v) ?_
 refine Gr (Dk C)<|Ga C<|Ac<|Ao (S1 11 C)<|A5 C (λc11=>?_)<|λc11=>?_
 ·exact Af<|Ga C<|Ac<|Az<|A7<|Ap<|A1 C C I Ay ⟨by first|rfl|exact absurd he asm,rfl⟩
 exact Av<|Aj<|Ah<|Af<|Ga C<|Ac<|Az<|A1 C C I Ay ⟨by first|rfl|exact absurd he asm,rfl⟩
theorem MOpen_ok(hl:Sl κ I (.slice ea es.length ec) es)(hG:GrOk nd es)(hT:TabRd κ I 0 tzCells):eu prog κ 42 [.agg #[e7 nd,.slice ea es.length ec]] I (λr J=>∃(ga:Option Addr) (gc:Nat) (a:Option Addr) (c:Nat),r = .tuple #[.agg #[e7 nd,.slice ga es.length gc,.slice a (trussG nd es).length c],e7 0]/\J=vk 3 a c (trussG nd es)::vk 105 ga gc es::I):=by
 have ad:=checkG_ok.2 hG
 have ae:=edges_le hG
 refine Ce1 Tryz.func42 C C ?_
 refine Af<|Ge1 (Bg (cs:=[_,_]) C C C) λb1=>Ge1 (A3 ty41 C) λb2=>Ga C<|Ac<|Af<|Gl2 ty38 ?_
 refine G.e (Ak c_ C C<|TNumbers_ok (nd:=nd) (A8 hl) om<|Bm hT Ay) ?_
 rintro _ _ ⟨_,_,⟨M,aa,rfl,rfl⟩,rfl,rfl⟩
 refine Gm C<|Gr (Am C C)<|Gr (Am C C)<|Ga C<|Ga C<|Ac<|Aq<|Af<|Gm C<|Gr (Bo C C)<|Ac<|A5 C (λc12=>?_)<|λc12=>?_
 ·refine Af (Gr (Bp (cells:=[_,_,_]) ty41 Da pl41 C C)<|Gm C<|Ge0 (Dc ty41) ?_)
  exact Ga C<|Ac<|Ao (S2 3 2 C C)<|Az<|Ap<|C0 C ty41 C C mm C I Ay<|by exfalso;first|exact absurd ad asm|omega
 refine Av<|Ah<|Aq<|Bq mixed<|Ef 8<|Dr 0 C (Ad fld38_0 C)<|Dr 1 C (Bb ef) ?_
 refine Dr 2 C (Ad fld38_1 C)<|Dr 3 C (Bb ty36) ?_
 refine Dr 6 C (Ai C)<|Ds1 4<|Sc2 C (Ak c_ C C<|CloneE (xs:=es) (A8 hl) om) λZ ab=>?_
 refine Dr 5 C (Bp (cells:=[_,_]) ty38 Cy pl38 C C)<|Dr 7 C (Bp (cells:=[_,_,_]) ty41 Da pl41 C C)<|Cs kr ?_
 refine Ae 8 C (Dc ty41) ?_
 rintro _ _ ⟨rfl,rfl⟩
 refine Dy (i:=9) kr C (Bn C) C C (Bd C) ?_
 refine Ct kr ?_
 exact Ah<|Ao (S2 3 2 C C)<|Az<|C0 C ty41 C C mm C (vk 3 M aa (trussG nd es)::vk 105 Z ab es::I) Bl ⟨Z,ab,M,aa,rfl,rfl⟩
theorem findp_lt{y:Int}(h:FindP nd es u v y):y<(es.length:Int):=by
 rcases h with ⟨_,j,rfl,Z,_⟩|⟨rfl,_⟩<;>omega
theorem MChanged_ok{κ:Ctx}{I:List Item}{nd':Int}{ga ma:Option Addr}{gc mc:Nat}{es':List Pt}{num num':List Int}(hl:Sl κ I (.slice M es.length ec) es)(hm:Sl κ I (.slice na num.length nc) num)(ah:Sl κ I (.slice ga es'.length gc) es')(Z:Sl κ I (.slice ma num'.length mc) num')(hb:es.length<=1000000)(ap:es'.length<=1000000)(h1:num.length=es.length)(h2:num'.length=es'.length):eu prog κ 289 [.agg #[e7 nd,.slice M es.length ec,.slice na num.length nc],.agg #[e7 (nd'),.slice ga es'.length gc,.slice ma num'.length mc]] I (λr J=>∃w:Value,r=w/\J=I):=by
 refine Ce2 Tryz.func289 C C ?_
 refine Af<|Ge1 (Bg (cs:=[_,_,_]) C C C) λb1=>Ge1 (Bg (cs:=[_,_,_]) C C C) λb2=>Ga C<|Ac<|Af<|Ga C<|Ac<|Aq<|Af<|Gf fld41_0 C<|Gf fld38_1 C<|Gl ty36 ?_
 refine Gr (Bh Au C)<|Gm C<|Ac<|Aw<|Bu (σ:=Nat×(Option Addr)×Nat×(List Pt)) (λs=>([(2,pt b1),(3,pt b2),(5,.slice s.2.1 s.2.2.2.length s.2.2.1),(11,.slice M es.length ec),(12,e7 ((es.length:Nat):Int)),(13,e7 ((s.1:Nat):Int))]:Env)) (λs=>vk 105 s.2.1 s.2.2.1 s.2.2.2::e8 b2 [e7 (nd'),.slice ga es'.length gc,.slice ma num'.length mc] 41::e8 b1 [e7 nd,.slice M es.length ec,.slice na num.length nc] 41::I) (λs=>(s.1<=es.length)/\(s.2.2.2.length<=s.1)) (λs=>es.length - s.1) (0,none,0,[]) ⟨om,(by simp)⟩ (Aa C<|Aa C<|Aa (Cx C<|by first|rfl|simp)<|Aa C<|Aa C<|Aa B2 Bi) (Cq (show Fit κ _ _ from Bl)<|Cb (α:=Pt) _ _) ?_
 rintro ⟨k,oa,oc,o⟩ hp
 dsimp only at hp ⊢
 obtain ⟨hk,ao⟩:=hp
 refine Af<|Gr (A4 C C)<|Ac<|Aq<|A5 C (λai=>?_)<|λai=>?_
 ·refine Av (Ah<|Aq<|Aw<|Af<|Gm C<|Gr (Ax (α:=Pt) (xs:=es) Au ty105 C C (A8 hl) om om)<|Gr (Bx (α:=Pt) (xs:=es) ty105 C (A8 hl) om om)<|Ge1 (A3 ty105 C) λb3=>Ga C<|Ge0 (Cz ty105) ?_)
  refine Ac<|Af<|Gf fld41_0 C<|Gl2 ty38 ?_
  refine Gf fld105_0 C<|Gl ef ?_
  refine Gf fld105_1 C<|Gl ef ?_
  refine G.e (Ak c_ C C<|FindG_ok (nd:=nd') (A8 ah) ((e_ es k).u) ((e_ es k).v) om) ?_
  rintro _ _ ⟨_,_,⟨y4,rfl,ad,rfl⟩,rfl,rfl⟩
  refine Ga C ?_
  have ak:=findp_lt ad
  refine Ac<|Ao (S9 8 6 7 2 3 5 11 12 13 C C C C C C C C C)<|Aq<|Bq mixed<|Ef 15<|Dr 0 C (Ai C)<|Dr 1 C (Cr C C)<|Dr 2 C (Ai C)<|El (d:=27) C (λae=>?_)<|λae=>?_
  ·refine Dro 3 C (Ad fld41_1 C) (Dro 4 C (Bb ty22) ?_)
   refine Dro 5 C (Ai C)<|Dro 6 C (Ax (α:=Int) (xs:=num) Ab ef C C (A8 hm) om om)<|Dro 7 C (Br (xs:=num) ef C (A8 hm) om om)<|Dro 8 C (Ad fld41_1 C)<|Dro 9 C (Bb ty22) ?_
   refine Dro 10 C (Ai C)<|Dro 11 C (Ax (α:=Int) (xs:=num') Ab ef C C (A8 Z) om om)<|Dro 12 C (Br (xs:=num') ef C (A8 Z) om om)<|Dro 13 C (Bo C C)<|Dr 14 C (Ba C C)<|Dz<|Ah<|Ao (S8 39 7 2 3 5 11 12 13 C C C C C C C C)<|A5 C (λab=>?_)<|λab=>?_
   ·refine Ar (Gm C<|Gl2 ty105 ?_)
    refine Ge1 (Cf (α:=Pt) (cs:=[_,_]) (xs:=[⟨(e_ es k).u,(e_ es k).v⟩]) Au ty105 C C dc dc C C C C) λan=>?_
    refine Ge2 (Cg (α:=Pt) (e:=105) (xs:=o) (ys:=([⟨(e_ es k).u,(e_ es k).v⟩]:List Pt)) Au ty105 C C C mm Bf lcn dc C<|λ_ _=>am) λaj aa=>?_
    exact Ga C<|Bj<|Aj<|Ah<|Ar<|Gr (Rad C C)<|Gm C<|Bj<|B3 ((k+1),(aj),(aa),(o++([⟨(e_ es k).u,(e_ es k).v⟩]:List Pt)))<|by dsimp only;exact ⟨om,olp⟩
   exact Av<|Aj<|Ah<|Ar<|Gr (Rad C C)<|Gm C<|Bj<|B3 ((k+1),(oa),(oc),(o))<|by dsimp only;exact ⟨om,olp⟩
  exact Dpo 3 C<|Dpo 4 C<|Dpo 5 C<|Dpo 6 C<|Dpo 7 C<|Dpo 8 C<|Dpo 9 C<|Dpo 10 C<|Dpo 11 C<|Dpo 12 C<|Dpo 13 C<|Dr 14 C (A6 C C)<|Dz<|Ah<|Ao (S8 39 7 2 3 5 11 12 13 C C C C C C C C)<|Dp C<|Av<|Aj<|Ah<|Ar<|Gr (Rad C C)<|Gm C<|Bj<|B3 ((k+1),(oa),(oc),(o))<|by dsimp only;exact ⟨om,olp⟩
 exact Bs<|Al<|Al<|A2<|Ah<|Af<|Gm C<|Ga C<|Ac<|Az<|A1 C C I Ay ⟨_,rfl,rfl⟩
end Go.Sl
