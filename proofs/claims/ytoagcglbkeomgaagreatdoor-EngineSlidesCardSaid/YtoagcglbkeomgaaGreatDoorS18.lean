/- A part of the proofs of statements of this seat: contracts of functions, and the plain laws that they lean on. No conditions. -/
import Derived.Test.YtoagcglbkeomgaaGreatDoorS17
set_option linter.unusedVariables false
set_option linter.unusedSimpArgs false
set_option linter.unusedSectionVars false
set_option maxHeartbeats 1000000
namespace Go.Sl
open Go.Proofs
set_option maxRecDepth 4000
variable{T:List Item}{a0:Option Addr}{c0 n:Nat}{x y:Int}
theorem SetC_ok{κ:Ctx}{I:List Item}{e:Ev}{xs:List Lk}(hT:Has I T)(hl:Sl κ T (.slice a0 xs.length c0) xs)(ha:xs.Pairwise Lk.lt)(ba:xs.length<=1000000):eu Tryz.prog κ 184 [.slice a0 xs.length c0,.agg (ez e).toArray] I (λr J=>∃(a:Option Addr) (c:Nat) (a2:Option Addr) (c2:Nat) (Y:List Item),r = .tuple #[.slice a (setL (eh e) xs).length c,.slice a2 (setC xs e).length c2]/\Sl κ (Y++T) (.slice a (setL (eh e) xs).length c) (setL (eh e) xs)/\J=vk 54 a2 c2 (setC xs e)::(Y++I)):=by
 refine Ce2 Tryz.func184 C C ?_
 refine Ad<|Ge1 (Bd (cs:=[_,_,_,_,_,_,_]) C C C) λb1=>Ga C<|Ga C<|Ac<|Ad<|Gf fld54_2 C<|Gl ef ?_
 refine Gf fld54_3 C<|Gl ef ?_
 refine Gr (Es C C)<|Gf fld54_2 C<|Gl ef ?_
 refine Gf fld54_3 C<|Gl ef ?_
 refine Gr (Dm C C)<|Gf fld54_4 C<|Gl ef ?_
 refine Gf fld54_5 C<|Gl ef ?_
 refine Gf fld54_6 C<|Gl ef ?_
 refine Gf fld54_1 C<|Gl ef ?_
 refine Gr (Bq (cells:=[_,_,_,_,_,_]) ty82 Tryz.underlying82 pl82 C C)<|Ge1 (A4 ty82 C) λb2=>Ge0 (Es6_6 ty82) ?_
 refine Ac<|Ap (S3 6 3 0)<|Ad<|Gm C<|Gl6 ty82 ?_
 refine G.e (Aj c_ C C<|BSearchL (Bu (Bu hl hT.fit) Ax) (⟨if e.v<e.u then e.v else e.u,if e.u<e.v then e.v else e.u,e.w,e.lb,e.sg,e.tm⟩:Lk) OrderL_cmps om) ?_
 rintro _ _ ⟨_,_,⟨Z,q4,rfl,hi3,rfl⟩,rfl,rfl⟩
 refine Gm C ?_
 have a4:=hi3.le
 refine Gr (Ak C C)<|Gr (Ak C C)<|Ga C<|Ga C<|Ac<|Ar<|Ar<|Bs mixed<|El 9<|Dr 0 C (Ai C)<|Dr 1 C (Ai C)<|D.splitb (d:=35) C (λM=>?_)<|λM=>?_
 ·have bb:=(setL_there hi3 ha M).1
  refine Dro 2 C (Ai C)<|Dro 3 C (Ai C)<|Dro 4 C (A3 (α:=Lk) (xs:=xs) A2 ty82 C C (Bu (Bu hl hT.fit) Ax) om om)<|Dro 5 C (Bv (α:=Lk) (xs:=xs) ty82 C (Bu (Bu hl hT.fit) Ax) om om)<|Dro 6 C (Bc (vs:=[_,_,_,_,_,_]) ty82) ?_
  refine Dro 7 C (Runs.eqlT (α:=Lk) (a:=(e_ xs Z)) (b:=(⟨if e.v<e.u then e.v else e.u,if e.u<e.v then e.v else e.u,e.w,e.lb,e.sg,e.tm⟩:Lk)) eqt82 C C)<|Dr 8 C (Av C C)<|Dz<|Ah<|Ap (S6 42 8 7 6 3 0)<|A7 C (λan=>?_)<|λan=>?_
  ·refine Ad (Gm C<|Ga C<|Ga C<|Ac<|Az<|Ao ?_)
   have aw:Z<xs.length/\(setL (eh e) xs)=xs.set Z (eh e):=setL_there hi3 ha M
   have hE:(setL (eh e) xs)=xs:=by rw [aw.2];exact set_self (n:=eh e) aw.1 an
   have a1:eh e∈xs:=by have h9:=B7 (xs:=xs) (i:=(Z:Int)) om om;rw [show e_ xs Z=eh e from an] at h9;exact h9
   have hC:setC xs e=[]:=if_pos a1
   exact C2 C C C (vk 54 none 0 (setC xs e)::([]++I)) (by unfold vk;rw [hC];exact (Co (show Fit κ _ I from Bl)<|Cf _ _)) ⟨a0,c0,none,0,[],by rw [hC,hE]<;>rfl,by rw [hE];exact hl,rfl⟩
  refine Aw<|Ah<|Ar<|Ad<|Gm C<|Gr (Cn C)<|Ac<|D1 C (λak=>?_)<|λak=>?_
  ·rw [M] at ak;exact absurd ak dc
  refine Ad<|Gm C<|G.e (Aj c_ C C<|CloneL (xs:=xs) (Bu (Bu hl hT.fit) Ax) om) ?_
  rintro _ _ ⟨_,_,⟨ah,ai,rfl,rfl⟩,rfl,rfl⟩
  refine Ga C<|Ac<|Ay<|Gm C<|Gm C<|Gl6 ty82 ?_
  refine Gr (A3 (α:=Lk) (xs:=xs) A2 ty82 C C Bi om om)<|Ge0 (C1 (α:=Lk) (xs:=xs) (e:=82) (new:=⟨if e.v<e.u then e.v else e.u,if e.u<e.v then e.v else e.u,e.w,e.lb,e.sg,e.tm⟩) ty82 C C C om om am) ?_
  refine Ac<|Ap (S3 0 6 3)<|Ar<|Bs mixed<|Cc (vc 82 (.slice ah xs.length ai) (List.set xs ((Z:Int)).toNat (⟨if e.v<e.u then e.v else e.u,if e.u<e.v then e.v else e.u,e.w,e.lb,e.sg,e.tm⟩))::e8 b2 [e7 (if e.v<e.u then e.v else e.u),e7 (if e.u<e.v then e.v else e.u),e7<|e.w,e7<|e.lb,e7<|e.sg,e7<|e.tm] 82::I) 5<|Dr 0 C (Ab fld82_0 C)<|Dr 1 C (A0 ef) ?_
  refine Dr 4 C (Ab fld54_2 C)<|Do (rs:=[2,5]) kr C C<|Eu ?_<|D6 ?_
  ·refine Sr C (Ab fld82_1 C) Bg ?_
   refine Do (rs:=[3,5]) kr C C<|Eu ?_<|D6 ?_
   ·refine Sr C (A0 ef) Bg ?_
    refine Cs kr ?_
    refine Ae 5 C (Et ef) ?_
    rintro _ _ ⟨rfl,rfl⟩
    refine Dv (i:=6) kr C (Bm C) C C (Ab fld54_3 C) ?_
    refine Ae 7 C (Et ef) ?_
    rintro _ _ ⟨rfl,rfl⟩
    refine Ct kr ?_
    refine Ah<|Ar<|Bs mixed<|Cc (vc 82 (.slice ah xs.length ai) (List.set xs ((Z:Int)).toNat (⟨if e.v<e.u then e.v else e.u,if e.u<e.v then e.v else e.u,e.w,e.lb,e.sg,e.tm⟩))::e8 b2 [e7 (if e.v<e.u then e.v else e.u),e7 (if e.u<e.v then e.v else e.u),e7<|e.w,e7<|e.lb,e7<|e.sg,e7<|e.tm] 82::e8 b1 [e7 (e.kd),e7<|e.tm,e7 (if e.v<e.u then e.v else e.u),e7 (if e.u<e.v then e.v else e.u),e7<|e.w,e7<|e.lb,e7<|e.sg] 54::I) 5<|Dr 0 C (Ai C)<|Dr 1 C (Bc (vs:=[_,_,_,_,_,_,_]) ty54) ?_
    refine Dr 3 C (Bf C)<|Ds1 2<|Se1 C (Ce (α:=Ev) (cs:=[e7 (e.kd),e7<|e.tm,e7 (if e.v<e.u then e.v else e.u),e7 (if e.u<e.v then e.v else e.u),e7<|e.w,e7<|e.lb,e7<|e.sg]) (xs:=[⟨e.kd,e.tm,if e.v<e.u then e.v else e.u,if e.u<e.v then e.v else e.u,e.w,e.lb,e.sg⟩]) Al ty54 C C dc dc C kr C C) λaz=>?_
    refine Dr 4 C (Bf C)<|Dz<|Ah<|Ap (S2 5 4)<|Az ?_
    have hE:List.set xs ((Z:Int)).toNat (⟨if e.v<e.u then e.v else e.u,if e.u<e.v then e.v else e.u,e.w,e.lb,e.sg,e.tm⟩)=(setL (eh e) xs):=(setL_there hi3 ha M).2.symm
    have aj:(setL (eh e) xs).length=xs.length:=by rw [←hE,List.length_set]
    have hC:setC xs e=[normE e]:=if_neg (set_not1 hi3 ha M an)
    exact C2 C C C (vk 54 az 1 (setC xs e)::([vk 82 ah ai (setL (eh e) xs)]++I)) (by unfold vk;rw [hC,aj,←hE];exact Bl) ⟨ah,ai,az,1,[vk 82 ah ai (setL (eh e) xs)],by rw [hC,aj]<;>rfl,De<|List.mem_append_left _ List.mem_cons_self,rfl⟩
   refine Se0 C (Et ef) ?_
   refine Ds1 3<|Sr C (A0 ef) Bg ?_
   refine Ds1 6<|Sr C (Ab fld54_3 C) Bg ?_
   refine Ds1 7<|Se0 C (Et ef) ?_
   refine Dz<|Ah<|Ar<|Bs mixed<|Cc (vc 82 (.slice ah xs.length ai) (List.set xs ((Z:Int)).toNat (⟨if e.v<e.u then e.v else e.u,if e.u<e.v then e.v else e.u,e.w,e.lb,e.sg,e.tm⟩))::e8 b2 [e7 (if e.v<e.u then e.v else e.u),e7 (if e.u<e.v then e.v else e.u),e7<|e.w,e7<|e.lb,e7<|e.sg,e7<|e.tm] 82::e8 b1 [e7 (e.kd),e7<|e.tm,e7 (if e.v<e.u then e.v else e.u),e7 (if e.u<e.v then e.v else e.u),e7<|e.w,e7<|e.lb,e7<|e.sg] 54::I) 5<|Dr 0 C (Ai C)<|Dr 1 C (Bc (vs:=[_,_,_,_,_,_,_]) ty54) ?_
   refine Dr 3 C (Bf C)<|Ds1 2<|Se1 C (Ce (α:=Ev) (cs:=[e7 (e.kd),e7<|e.tm,e7 (if e.v<e.u then e.v else e.u),e7 (if e.u<e.v then e.v else e.u),e7<|e.w,e7<|e.lb,e7<|e.sg]) (xs:=[⟨e.kd,e.tm,if e.v<e.u then e.v else e.u,if e.u<e.v then e.v else e.u,e.w,e.lb,e.sg⟩]) Al ty54 C C dc dc C kr C C) λax=>?_
   refine Dr 4 C (Bf C)<|Dz<|Ah<|Ap (S2 5 4)<|Az ?_
   have hE:List.set xs ((Z:Int)).toNat (⟨if e.v<e.u then e.v else e.u,if e.u<e.v then e.v else e.u,e.w,e.lb,e.sg,e.tm⟩)=(setL (eh e) xs):=(setL_there hi3 ha M).2.symm
   have aj:(setL (eh e) xs).length=xs.length:=by rw [←hE,List.length_set]
   have hC:setC xs e=[normE e]:=if_neg (set_not1 hi3 ha M an)
   exact C2 C C C (vk 54 ax 1 (setC xs e)::([vk 82 ah ai (setL (eh e) xs)]++I)) (by unfold vk;rw [hC,aj,←hE];exact Bl) ⟨ah,ai,ax,1,[vk 82 ah ai (setL (eh e) xs)],by rw [hC,aj]<;>rfl,De<|List.mem_append_left _ List.mem_cons_self,rfl⟩
  refine Se0 C (Et ef) ?_
  refine Ds1 2<|Sr C (Ab fld82_1 C) Bg ?_
  refine Ds1 3<|Sr C (A0 ef) Bg ?_
  refine Ds1 6<|Sr C (Ab fld54_3 C) Bg ?_
  refine Ds1 7<|Se0 C (Et ef) ?_
  refine Dz<|Ah<|Ar<|Bs mixed<|El 5<|Dr 0 C (Ai C)<|Dr 1 C (Bc (vs:=[_,_,_,_,_,_,_]) ty54) ?_
  refine Dr 3 C (Bf C)<|Ds1 2<|Se1 C (Ce (α:=Ev) (cs:=[e7 (e.kd),e7<|e.tm,e7 (if e.v<e.u then e.v else e.u),e7 (if e.u<e.v then e.v else e.u),e7<|e.w,e7<|e.lb,e7<|e.sg]) (xs:=[⟨e.kd,e.tm,if e.v<e.u then e.v else e.u,if e.u<e.v then e.v else e.u,e.w,e.lb,e.sg⟩]) Al ty54 C C dc dc C kr C C) λay=>?_
  refine Dr 4 C (Bf C)<|Dz<|Ah<|Ap (S2 5 4)<|Az ?_
  have hE:List.set xs ((Z:Int)).toNat (⟨if e.v<e.u then e.v else e.u,if e.u<e.v then e.v else e.u,e.w,e.lb,e.sg,e.tm⟩)=(setL (eh e) xs):=(setL_there hi3 ha M).2.symm
  have aj:(setL (eh e) xs).length=xs.length:=by rw [←hE,List.length_set]
  have hC:setC xs e=[normE e]:=if_neg (set_not1 hi3 ha M an)
  exact C2 C C C (vk 54 ay 1 (setC xs e)::([vk 82 ah ai (setL (eh e) xs)]++I)) (by unfold vk;rw [hC,aj,←hE];exact Bl) ⟨ah,ai,ay,1,[vk 82 ah ai (setL (eh e) xs)],by rw [hC,aj]<;>rfl,De<|List.mem_append_left _ List.mem_cons_self,rfl⟩
 refine Dpo 2 C<|Dpo 3 C<|Dpo 4 C<|Dpo 5 C<|Dpo 6 C<|Dpo 7 C<|Dr 8 C (Au C C)<|Dz<|Ah<|Ap (S6 42 8 7 6 3 0)<|Dg C<|Aw<|Ah<|Ar<|Ad<|Gm C<|Gr (Cn C)<|Ac<|D1 C (λak=>?_)<|λak=>?_
 ·refine Bs mixed (El 7<|Dr 0 C (Ai C)<|Dr 2 C (Ai C)<|Dr 3 C (Bc (vs:=[_,_,_,_,_,_]) ty82) ?_)
  refine Do (rs:=[1,4]) kr C C<|Eu ?_<|D6 ?_
  ·refine Se C (Aj c_ C C<|CloneL (xs:=xs) (Bu (Bu hl hT.fit) Ax) om) ?_
   rintro _ _ ⟨_,_,⟨a8,a6,rfl,rfl⟩,rfl,rfl⟩
   refine ⟨Bg,?_⟩
   refine Ds1 4<|Se1 C (Ce (α:=Lk) (cs:=[e7 (if e.v<e.u then e.v else e.u),e7 (if e.u<e.v then e.v else e.u),e7<|e.w,e7<|e.lb,e7<|e.sg,e7<|e.tm]) (xs:=[⟨if e.v<e.u then e.v else e.u,if e.u<e.v then e.v else e.u,e.w,e.lb,e.sg,e.tm⟩]) A2 ty82 C C dc dc C kr C C) λa5=>?_
   refine Ds1 5<|Sc2 C (Aj c_ C C<|InsertL_two (i:=Z) (xs:=xs) (ys:=([⟨if e.v<e.u then e.v else e.u,if e.u<e.v then e.v else e.u,e.w,e.lb,e.sg,e.tm⟩]:List Lk)) Bl C C om (by simp only [List.length_cons];omega) lcn) λae ab=>?_
   refine Dr 6 C (Bf C)<|Dz<|Ah<|Ap (S3 0 6 3)<|Ar<|Bs mixed<|Cc (vk 82 ae ab (List.take Z xs++([⟨if e.v<e.u then e.v else e.u,if e.u<e.v then e.v else e.u,e.w,e.lb,e.sg,e.tm⟩]:List Lk)++List.drop Z xs)::e8 b2 [e7 (if e.v<e.u then e.v else e.u),e7 (if e.u<e.v then e.v else e.u),e7<|e.w,e7<|e.lb,e7<|e.sg,e7<|e.tm] 82::I) 5<|Dr 0 C (Ab fld82_0 C)<|Dr 1 C (A0 ef) ?_
   refine Dr 4 C (Ab fld54_2 C)<|Do (rs:=[2,5]) kr C C<|Eu ?_<|D6 ?_
   ·refine Sr C (Ab fld82_1 C) Bg ?_
    refine Do (rs:=[3,5]) kr C C<|Eu ?_<|D6 ?_
    ·refine Sr C (A0 ef) Bg ?_
     refine Cs kr ?_
     refine Ae 5 C (Et ef) ?_
     rintro _ _ ⟨rfl,rfl⟩
     refine Dv (i:=6) kr C (Bm C) C C (Ab fld54_3 C) ?_
     refine Ae 7 C (Et ef) ?_
     rintro _ _ ⟨rfl,rfl⟩
     refine Ct kr ?_
     refine Ah<|Ar<|Bs mixed<|Cc (vk 82 ae ab (List.take Z xs++([⟨if e.v<e.u then e.v else e.u,if e.u<e.v then e.v else e.u,e.w,e.lb,e.sg,e.tm⟩]:List Lk)++List.drop Z xs)::e8 b2 [e7 (if e.v<e.u then e.v else e.u),e7 (if e.u<e.v then e.v else e.u),e7<|e.w,e7<|e.lb,e7<|e.sg,e7<|e.tm] 82::e8 b1 [e7 (e.kd),e7<|e.tm,e7 (if e.v<e.u then e.v else e.u),e7 (if e.u<e.v then e.v else e.u),e7<|e.w,e7<|e.lb,e7<|e.sg] 54::I) 5<|Dr 0 C (Ai C)<|Dr 1 C (Bc (vs:=[_,_,_,_,_,_,_]) ty54) ?_
     refine Dr 3 C (Bf C)<|Ds1 2<|Se1 C (Ce (α:=Ev) (cs:=[e7 (e.kd),e7<|e.tm,e7 (if e.v<e.u then e.v else e.u),e7 (if e.u<e.v then e.v else e.u),e7<|e.w,e7<|e.lb,e7<|e.sg]) (xs:=[⟨e.kd,e.tm,if e.v<e.u then e.v else e.u,if e.u<e.v then e.v else e.u,e.w,e.lb,e.sg⟩]) Al ty54 C C dc dc C kr C C) λao=>?_
     refine Dr 4 C (Bf C)<|Dz<|Ah<|Ap (S2 5 4)<|Az ?_
     have hE:List.take Z xs++([⟨if e.v<e.u then e.v else e.u,if e.u<e.v then e.v else e.u,e.w,e.lb,e.sg,e.tm⟩]:List Lk)++List.drop Z xs=(setL (eh e) xs):=(setL_new hi3 ha M).symm
     have hC:setC xs e=[normE e]:=if_neg (set_not2 hi3 ha M)
     exact C2 C C C (vk 54 ao 1 (setC xs e)::([vk 82 ae ab (setL (eh e) xs)]++I)) (by unfold vk;rw [hC,←hE];exact Bl) ⟨ae,ab,ao,1,[vk 82 ae ab (setL (eh e) xs)],by rw [hC,←hE]<;>rfl,De<|List.mem_append_left _ List.mem_cons_self,rfl⟩
    refine Se0 C (Et ef) ?_
    refine Ds1 3<|Sr C (A0 ef) Bg ?_
    refine Ds1 6<|Sr C (Ab fld54_3 C) Bg ?_
    refine Ds1 7<|Se0 C (Et ef) ?_
    refine Dz<|Ah<|Ar<|Bs mixed<|Cc (vk 82 ae ab (List.take Z xs++([⟨if e.v<e.u then e.v else e.u,if e.u<e.v then e.v else e.u,e.w,e.lb,e.sg,e.tm⟩]:List Lk)++List.drop Z xs)::e8 b2 [e7 (if e.v<e.u then e.v else e.u),e7 (if e.u<e.v then e.v else e.u),e7<|e.w,e7<|e.lb,e7<|e.sg,e7<|e.tm] 82::e8 b1 [e7 (e.kd),e7<|e.tm,e7 (if e.v<e.u then e.v else e.u),e7 (if e.u<e.v then e.v else e.u),e7<|e.w,e7<|e.lb,e7<|e.sg] 54::I) 5<|Dr 0 C (Ai C)<|Dr 1 C (Bc (vs:=[_,_,_,_,_,_,_]) ty54) ?_
    refine Dr 3 C (Bf C)<|Ds1 2<|Se1 C (Ce (α:=Ev) (cs:=[e7 (e.kd),e7<|e.tm,e7 (if e.v<e.u then e.v else e.u),e7 (if e.u<e.v then e.v else e.u),e7<|e.w,e7<|e.lb,e7<|e.sg]) (xs:=[⟨e.kd,e.tm,if e.v<e.u then e.v else e.u,if e.u<e.v then e.v else e.u,e.w,e.lb,e.sg⟩]) Al ty54 C C dc dc C kr C C) λaq=>?_
    refine Dr 4 C (Bf C)<|Dz<|Ah<|Ap (S2 5 4)<|Az ?_
    have hE:List.take Z xs++([⟨if e.v<e.u then e.v else e.u,if e.u<e.v then e.v else e.u,e.w,e.lb,e.sg,e.tm⟩]:List Lk)++List.drop Z xs=(setL (eh e) xs):=(setL_new hi3 ha M).symm
    have hC:setC xs e=[normE e]:=if_neg (set_not2 hi3 ha M)
    exact C2 C C C (vk 54 aq 1 (setC xs e)::([vk 82 ae ab (setL (eh e) xs)]++I)) (by unfold vk;rw [hC,←hE];exact Bl) ⟨ae,ab,aq,1,[vk 82 ae ab (setL (eh e) xs)],by rw [hC,←hE]<;>rfl,De<|List.mem_append_left _ List.mem_cons_self,rfl⟩
   refine Se0 C (Et ef) ?_
   refine Ds1 2<|Sr C (Ab fld82_1 C) Bg ?_
   refine Ds1 3<|Sr C (A0 ef) Bg ?_
   refine Ds1 6<|Sr C (Ab fld54_3 C) Bg ?_
   refine Ds1 7<|Se0 C (Et ef) ?_
   refine Dz<|Ah<|Ar<|Bs mixed<|El 5<|Dr 0 C (Ai C)<|Dr 1 C (Bc (vs:=[_,_,_,_,_,_,_]) ty54) ?_
   refine Dr 3 C (Bf C)<|Ds1 2<|Se1 C (Ce (α:=Ev) (cs:=[e7 (e.kd),e7<|e.tm,e7 (if e.v<e.u then e.v else e.u),e7 (if e.u<e.v then e.v else e.u),e7<|e.w,e7<|e.lb,e7<|e.sg]) (xs:=[⟨e.kd,e.tm,if e.v<e.u then e.v else e.u,if e.u<e.v then e.v else e.u,e.w,e.lb,e.sg⟩]) Al ty54 C C dc dc C kr C C) λar=>?_
   refine Dr 4 C (Bf C)<|Dz<|Ah<|Ap (S2 5 4)<|Az ?_
   have hE:List.take Z xs++([⟨if e.v<e.u then e.v else e.u,if e.u<e.v then e.v else e.u,e.w,e.lb,e.sg,e.tm⟩]:List Lk)++List.drop Z xs=(setL (eh e) xs):=(setL_new hi3 ha M).symm
   have hC:setC xs e=[normE e]:=if_neg (set_not2 hi3 ha M)
   exact C2 C C C (vk 54 ar 1 (setC xs e)::([vk 82 ae ab (setL (eh e) xs)]++I)) (by unfold vk;rw [hC,←hE];exact Bl) ⟨ae,ab,ar,1,[vk 82 ae ab (setL (eh e) xs)],by rw [hC,←hE]<;>rfl,De<|List.mem_append_left _ List.mem_cons_self,rfl⟩
  refine Se1 C (Ce (α:=Lk) (cs:=[e7 (if e.v<e.u then e.v else e.u),e7 (if e.u<e.v then e.v else e.u),e7<|e.w,e7<|e.lb,e7<|e.sg,e7<|e.tm]) (xs:=[⟨if e.v<e.u then e.v else e.u,if e.u<e.v then e.v else e.u,e.w,e.lb,e.sg,e.tm⟩]) A2 ty82 C C dc dc C kr C C) λa9=>?_
  refine Ds1 1<|Se C (Aj c_ C C<|CloneL (xs:=xs) (Bu (Bu hl hT.fit) Ax) om) ?_
  rintro _ _ ⟨_,_,⟨a7,a3,rfl,rfl⟩,rfl,rfl⟩
  refine ⟨Bg,?_⟩
  refine Ds1 5<|Sc2 C (Aj c_ C C<|InsertL_two (i:=Z) (xs:=xs) (ys:=([⟨if e.v<e.u then e.v else e.u,if e.u<e.v then e.v else e.u,e.w,e.lb,e.sg,e.tm⟩]:List Lk)) Bl C C om (by simp only [List.length_cons];omega) lcn) λad aa=>?_
  refine Dr 6 C (Bf C)<|Dz<|Ah<|Ap (S3 0 6 3)<|Ar<|Bs mixed<|Cc (vk 82 ad aa (List.take Z xs++([⟨if e.v<e.u then e.v else e.u,if e.u<e.v then e.v else e.u,e.w,e.lb,e.sg,e.tm⟩]:List Lk)++List.drop Z xs)::e8 b2 [e7 (if e.v<e.u then e.v else e.u),e7 (if e.u<e.v then e.v else e.u),e7<|e.w,e7<|e.lb,e7<|e.sg,e7<|e.tm] 82::I) 5<|Dr 0 C (Ab fld82_0 C)<|Dr 1 C (A0 ef) ?_
  refine Dr 4 C (Ab fld54_2 C)<|Do (rs:=[2,5]) kr C C<|Eu ?_<|D6 ?_
  ·refine Sr C (Ab fld82_1 C) Bg ?_
   refine Do (rs:=[3,5]) kr C C<|Eu ?_<|D6 ?_
   ·refine Sr C (A0 ef) Bg ?_
    refine Cs kr ?_
    refine Ae 5 C (Et ef) ?_
    rintro _ _ ⟨rfl,rfl⟩
    refine Dv (i:=6) kr C (Bm C) C C (Ab fld54_3 C) ?_
    refine Ae 7 C (Et ef) ?_
    rintro _ _ ⟨rfl,rfl⟩
    refine Ct kr ?_
    refine Ah<|Ar<|Bs mixed<|Cc (vk 82 ad aa (List.take Z xs++([⟨if e.v<e.u then e.v else e.u,if e.u<e.v then e.v else e.u,e.w,e.lb,e.sg,e.tm⟩]:List Lk)++List.drop Z xs)::e8 b2 [e7 (if e.v<e.u then e.v else e.u),e7 (if e.u<e.v then e.v else e.u),e7<|e.w,e7<|e.lb,e7<|e.sg,e7<|e.tm] 82::e8 b1 [e7 (e.kd),e7<|e.tm,e7 (if e.v<e.u then e.v else e.u),e7 (if e.u<e.v then e.v else e.u),e7<|e.w,e7<|e.lb,e7<|e.sg] 54::I) 5<|Dr 0 C (Ai C)<|Dr 1 C (Bc (vs:=[_,_,_,_,_,_,_]) ty54) ?_
    refine Dr 3 C (Bf C)<|Ds1 2<|Se1 C (Ce (α:=Ev) (cs:=[e7 (e.kd),e7<|e.tm,e7 (if e.v<e.u then e.v else e.u),e7 (if e.u<e.v then e.v else e.u),e7<|e.w,e7<|e.lb,e7<|e.sg]) (xs:=[⟨e.kd,e.tm,if e.v<e.u then e.v else e.u,if e.u<e.v then e.v else e.u,e.w,e.lb,e.sg⟩]) Al ty54 C C dc dc C kr C C) λau=>?_
    refine Dr 4 C (Bf C)<|Dz<|Ah<|Ap (S2 5 4)<|Az ?_
    have hE:List.take Z xs++([⟨if e.v<e.u then e.v else e.u,if e.u<e.v then e.v else e.u,e.w,e.lb,e.sg,e.tm⟩]:List Lk)++List.drop Z xs=(setL (eh e) xs):=(setL_new hi3 ha M).symm
    have hC:setC xs e=[normE e]:=if_neg (set_not2 hi3 ha M)
    exact C2 C C C (vk 54 au 1 (setC xs e)::([vk 82 ad aa (setL (eh e) xs)]++I)) (by unfold vk;rw [hC,←hE];exact Bl) ⟨ad,aa,au,1,[vk 82 ad aa (setL (eh e) xs)],by rw [hC,←hE]<;>rfl,De<|List.mem_append_left _ List.mem_cons_self,rfl⟩
   refine Se0 C (Et ef) ?_
   refine Ds1 3<|Sr C (A0 ef) Bg ?_
   refine Ds1 6<|Sr C (Ab fld54_3 C) Bg ?_
   refine Ds1 7<|Se0 C (Et ef) ?_
   refine Dz<|Ah<|Ar<|Bs mixed<|Cc (vk 82 ad aa (List.take Z xs++([⟨if e.v<e.u then e.v else e.u,if e.u<e.v then e.v else e.u,e.w,e.lb,e.sg,e.tm⟩]:List Lk)++List.drop Z xs)::e8 b2 [e7 (if e.v<e.u then e.v else e.u),e7 (if e.u<e.v then e.v else e.u),e7<|e.w,e7<|e.lb,e7<|e.sg,e7<|e.tm] 82::e8 b1 [e7 (e.kd),e7<|e.tm,e7 (if e.v<e.u then e.v else e.u),e7 (if e.u<e.v then e.v else e.u),e7<|e.w,e7<|e.lb,e7<|e.sg] 54::I) 5<|Dr 0 C (Ai C)<|Dr 1 C (Bc (vs:=[_,_,_,_,_,_,_]) ty54) ?_
   refine Dr 3 C (Bf C)<|Ds1 2<|Se1 C (Ce (α:=Ev) (cs:=[e7 (e.kd),e7<|e.tm,e7 (if e.v<e.u then e.v else e.u),e7 (if e.u<e.v then e.v else e.u),e7<|e.w,e7<|e.lb,e7<|e.sg]) (xs:=[⟨e.kd,e.tm,if e.v<e.u then e.v else e.u,if e.u<e.v then e.v else e.u,e.w,e.lb,e.sg⟩]) Al ty54 C C dc dc C kr C C) λap=>?_
   refine Dr 4 C (Bf C)<|Dz<|Ah<|Ap (S2 5 4)<|Az ?_
   have hE:List.take Z xs++([⟨if e.v<e.u then e.v else e.u,if e.u<e.v then e.v else e.u,e.w,e.lb,e.sg,e.tm⟩]:List Lk)++List.drop Z xs=(setL (eh e) xs):=(setL_new hi3 ha M).symm
   have hC:setC xs e=[normE e]:=if_neg (set_not2 hi3 ha M)
   exact C2 C C C (vk 54 ap 1 (setC xs e)::([vk 82 ad aa (setL (eh e) xs)]++I)) (by unfold vk;rw [hC,←hE];exact Bl) ⟨ad,aa,ap,1,[vk 82 ad aa (setL (eh e) xs)],by rw [hC,←hE]<;>rfl,De<|List.mem_append_left _ List.mem_cons_self,rfl⟩
  refine Se0 C (Et ef) ?_
  refine Ds1 2<|Sr C (Ab fld82_1 C) Bg ?_
  refine Ds1 3<|Sr C (A0 ef) Bg ?_
  refine Ds1 6<|Sr C (Ab fld54_3 C) Bg ?_
  refine Ds1 7<|Se0 C (Et ef) ?_
  refine Dz<|Ah<|Ar<|Bs mixed<|El 5<|Dr 0 C (Ai C)<|Dr 1 C (Bc (vs:=[_,_,_,_,_,_,_]) ty54) ?_
  refine Dr 3 C (Bf C)<|Ds1 2<|Se1 C (Ce (α:=Ev) (cs:=[e7 (e.kd),e7<|e.tm,e7 (if e.v<e.u then e.v else e.u),e7 (if e.u<e.v then e.v else e.u),e7<|e.w,e7<|e.lb,e7<|e.sg]) (xs:=[⟨e.kd,e.tm,if e.v<e.u then e.v else e.u,if e.u<e.v then e.v else e.u,e.w,e.lb,e.sg⟩]) Al ty54 C C dc dc C kr C C) λav=>?_
  refine Dr 4 C (Bf C)<|Dz<|Ah<|Ap (S2 5 4)<|Az ?_
  have hE:List.take Z xs++([⟨if e.v<e.u then e.v else e.u,if e.u<e.v then e.v else e.u,e.w,e.lb,e.sg,e.tm⟩]:List Lk)++List.drop Z xs=(setL (eh e) xs):=(setL_new hi3 ha M).symm
  have hC:setC xs e=[normE e]:=if_neg (set_not2 hi3 ha M)
  exact C2 C C C (vk 54 av 1 (setC xs e)::([vk 82 ad aa (setL (eh e) xs)]++I)) (by unfold vk;rw [hC,←hE];exact Bl) ⟨ad,aa,av,1,[vk 82 ad aa (setL (eh e) xs)],by rw [hC,←hE]<;>rfl,De<|List.mem_append_left _ List.mem_cons_self,rfl⟩
 rw [M] at ak;exact absurd ak dc
section
variable {p:Lk->Bool}{xs:List Lk}{j:Nat}{nw:Int}
theorem chx_yes(Z:j<xs.length)(h:p (e_ xs j)=true):((List.take (j+1) xs).filter p).map (cutEv nw)=((List.take j xs).filter p).map (cutEv nw)++[cutEv nw (e_ xs j)]:=by
 rw [Cj xs j Z,List.filter_append,List.map_append];simp [h]
theorem chx_no(Z:j<xs.length)(h:p (e_ xs j)=false):((List.take (j+1) xs).filter p).map (cutEv nw)=((List.take j xs).filter p).map (cutEv nw):=by
 rw [Cj xs j Z,List.filter_append,List.map_append];simp [h]
end
theorem CutC_ok{κ:Ctx}{I:List Item}{nw:Int}{xs:List Lk}{g:FuncId}{ae:List Value}{p:Lk->Bool}(hl:Sl κ I (.slice a0 xs.length c0) xs)(ao:Says Tryz.prog κ I g ae p)(ay:xs.length<=1000000):eu Tryz.prog κ 185 [.slice a0 xs.length c0,e7 nw,.func (.func g) #[] ae.toArray] I (λr J=>∃(a:Option Addr) (c:Nat) (a2:Option Addr) (c2:Nat),r = .tuple #[.slice a (xs.filter (λx=> !p x)).length c,.slice a2 ((xs.filter p).map (cutEv nw)).length c2]/\J=vk 54 a2 c2 ((xs.filter p).map (cutEv nw))::vk 82 a c (xs.filter (λx=> !p x))::I):=by
 refine Ce3 Tryz.func185 C C ?_
 refine Ad<|Ga C<|Ga C<|Ac<|Ad<|Gm C<|G.e (Aj c_ C C<|CloneL (xs:=xs) (A8 hl) om) ?_
 rintro _ _ ⟨_,_,⟨ad,ab,rfl,rfl⟩,rfl,rfl⟩
 refine Ga C<|Ac<|Ad<|Ga C<|Ac<|Ar<|Ad<|Ga C<|Ac<|A5<|B1 (σ:=Nat×(Option Addr)×Nat×(List Ev)) (λs=>([(0,.slice ad (keepL (λx=> !p x) xs s.1).length ab),(1,e7 nw),(2,.func (.func g) #[] ae.toArray),(8,.slice s.2.1 s.2.2.2.length s.2.2.1),(9,e7<|((keptN (λx=> !p x) xs s.1:Nat):Int))]:Env)) (λs=>vk 54 s.2.1 s.2.2.1 s.2.2.2::vk 82 ad ab (keepL (λx=> !p x) xs s.1)::I) (λs=>(s.1<=xs.length)/\(s.2.2.2=((List.take s.1 xs).filter p).map (cutEv nw))) (λs=>xs.length - s.1) (0,none,0,[]) ⟨om,rfl⟩ (Aa (C8 C<|by first|rfl|(rw [keepL_zero])|(rw [Z.1])|(rw [aa]))<|cx2<|Aa (C8 C<|by first|rfl|(rw [keepL_zero])|(rw [Z.1])|(rw [aa]))<|Aa (Er C<|by first|omega|(rw [keptN_zero];rfl)|(dsimp only;have e1:=Z.2;omega)|(dsimp only;have e1:=an;omega)) Bp) (by rw [keepL_zero];exact Cf _ _) ?_
 rintro ⟨j,a2,c2,M⟩ hp
 dsimp only at hp ⊢
 obtain ⟨hj,ah⟩:=hp
 have az:=keptN_le (P:=(λx=> !p x)) (xs:=xs) (j:=j)
 have ax:=keepL_len (P:=(λx=> !p x)) (xs:=xs) (j:=j)
 have aw:M.length<=j:=by rw [ah,List.length_map];exact Nat.le_trans (List.length_filter_le _ _) (by rw [List.length_take];omega)
 refine W.pull (vc.cap (xs:=(keepL (λx=> !p x) xs j)) mm) λav=>?_
 refine Ar<|Ad<|Gm C<|Gm C<|Gr (Bk A2 C)<|Gr (A9 C C)<|Ac<|A7 C (λar=>?_)<|λar=>?_
 ·refine Aw (Ah<|A5<|Ar<|Ad<|Gm C<|Gm C<|Gm C<|Gr (A3 (α:=Lk) (xs:=(keepL (λx=> !p x) xs j)) A2 ty82 C C Bi om om)<|Gr (Bv (α:=Lk) (xs:=(keepL (λx=> !p x) xs j)) ty82 C Bi om om)<|G.e (Cx ao.1 (first:=[]) (caps:=ae) C C C<|ao.2 (e_ (keepL (λx=> !p x) xs j) ((keptN (λx=> !p x) xs j:Nat):Int)) _ Ax) ?_)
  rintro _ _ ⟨_,_,⟨rfl,rfl⟩,rfl,rfl⟩
  refine Gr (Cn C)<|Ac<|Ap (S6 22 0 1 2 8 9)<|D1 C (λai=>?_)<|λai=>?_
  ·refine Ad (Gm C<|Gr (Rad C C)<|Ga C<|Ac<|Bt<|Aq<|Bb ?_)
   have aj:=keepL_at (P:=(λx=> !p x)) (xs:=xs) (j:=j) om
   have Z:=keep_yes (P:=(λx=> !p x)) (xs:=xs) (j:=j) om (by rw [←aj];exact ai)
   exact Cb ((j+1),(a2),(c2),(M)) (by dsimp only;exact ⟨om,(by rw [chx_no om (by rw [←aj];simpa using ai)];exact ah)⟩) (hL:=(Aa (C8 C<|by first|rfl|(rw [keepL_zero])|(rw [Z.1])|(rw [aa]))<|cx2<|Aa (C8 C<|by first|rfl|(rw [keepL_zero])|(rw [Z.1])|(rw [aa]))<|Aa (Er C<|by first|omega|(rw [keptN_zero];rfl)|(dsimp only;have e1:=Z.2;omega)|(dsimp only;have e1:=an;omega)) Bp)) (hI:=by (try dsimp only);exact (by rw [Z.1];exact Bg))
  refine Aw<|Ah<|Ad<|Gm C ?_
  have ak:(λx=> !p x) (e_ xs j)=false:=by rw [←keepL_at (P:=(λx=> !p x)) (xs:=xs) (j:=j) om];exact ai
  have an:=keep_no (P:=(λx=> !p x)) (xs:=xs) (j:=j) om ak
  refine Gm C<|Gm C<|Gr (A3 (α:=Lk) (xs:=(keepL (λx=> !p x) xs j)) A2 ty82 C C Bi om om)<|Gr (Bv (α:=Lk) (xs:=(keepL (λx=> !p x) xs j)) ty82 C Bi om om)<|Gm C<|G.e (Aj c_ C C<|Gone_ok (e_ (keepL (λx=> !p x) xs j) ((keptN (λx=> !p x) xs j:Nat):Int)) nw) ?_
  rintro _ _ ⟨_,_,⟨rfl,rfl⟩,rfl,rfl⟩
  refine Ge1 (Ce (α:=Ev) (cs:=[e7 2,e7 nw,e7<|(e_ (keepL (λx=> !p x) xs j) ((keptN (λx=> !p x) xs j:Nat):Int)).u,e7<|(e_ (keepL (λx=> !p x) xs j) ((keptN (λx=> !p x) xs j:Nat):Int)).v,e7 0,e7 0,e7 0]) (xs:=[⟨2,nw,(e_ (keepL (λx=> !p x) xs j) ((keptN (λx=> !p x) xs j:Nat):Int)).u,(e_ (keepL (λx=> !p x) xs j) ((keptN (λx=> !p x) xs j:Nat):Int)).v,0,0,0⟩]) Al ty54 C C dc dc C kr C C) λau=>?_
  refine Ge2 (B3 (α:=Ev) (e:=54) (xs:=M) (ys:=([⟨2,nw,(e_ (keepL (λx=> !p x) xs j) ((keptN (λx=> !p x) xs j:Nat):Int)).u,(e_ (keepL (λx=> !p x) xs j) ((keptN (λx=> !p x) xs j:Nat):Int)).v,0,0,0⟩]:List Ev)) Al ty54 C C C mm Bi lcn dc C<|λ_ _=>am) λap aq=>?_
  refine Ga C<|Ac<|Ap (S5 8 0 1 2 9)<|Ar<|Bs mixed<|Cc I 8<|Dr 0 C (Ai C)<|Dr 1 C (Ai C)<|Dr 2 C (C3 (l:=keptN (λx=> !p x) xs j) A2 ty82 C C (by simp only [Int.natCast_add]<;>omega) om om)<|Dr 3 C (Ai C)<|Dr 4 C (Ai C)<|Dr 5 C (Rad C C)<|Dr 6 C (C3 (l:=(keptN (λx=> !p x) xs j+1)) A2 ty82 C C (by simp only [Int.natCast_add]<;>omega) om om)<|Ds1 7<|Se0 C (Fh (α:=Lk) (k:=keptN (λx=> !p x) xs j) (q:=(xs.length - j - 1)) (R:=(keepL (λx=> !p x) xs<|j+1)++List.drop (keptN (λx=> !p x) xs j+(xs.length - j - 1)) (keepL (λx=> !p x) xs j)) (n:=(keepL (λx=> !p x) xs j).length) A2 ty82 C lat C (Sl.dropn (De (xs:=(keepL (λx=> !p x) xs j)) mm) om om) lat lat C (keep_copy om ak C) lat am) ?_
  refine Dz<|Ah<|Ay<|Gm C<|Gm C<|Gr (Bk A2 C)<|Gr (Rsu C C)<|Gr (E3 (h:=((keepL (λx=> !p x) xs j).length - 1)) A2 ty82 C C om om)<|Ga C ?_
  have aa:(keepL (λx=> !p x) xs j).length - 1=(keepL (λx=> !p x) xs<|j+1).length:=by have h3:=keepL_len (P:=(λx=> !p x)) (xs:=xs) (j:=j+1);omega
  refine D9 (J:=vc 54 (.slice au 1 1) (([⟨2,nw,(e_ (keepL (λx=> !p x) xs j) ((keptN (λx=> !p x) xs j:Nat):Int)).u,(e_ (keepL (λx=> !p x) xs j) ((keptN (λx=> !p x) xs j:Nat):Int)).v,0,0,0⟩]:List Ev))::vk 54 ap aq (M++([⟨2,nw,(e_ (keepL (λx=> !p x) xs j) ((keptN (λx=> !p x) xs j:Nat):Int)).u,(e_ (keepL (λx=> !p x) xs j) ((keptN (λx=> !p x) xs j:Nat):Int)).v,0,0,0⟩]:List Ev))::vk 82 ad ab (keepL (λx=> !p x) xs<|j+1)::I) (Fit.upd am (λw h=>by have h4:=cutshort (h:=((keepL (λx=> !p x) xs j).length - 1)) (by rw [List.length_append];omega) w h;rw [keep_take aa] at h4;exact h4)) ?_
  refine Bj<|Am ?_
  have aj:=keepL_at (P:=(λx=> !p x)) (xs:=xs) (j:=j) om
  exact Cb ((j+1),(ap),(aq),(M++([⟨2,nw,(e_ (keepL (λx=> !p x) xs j) ((keptN (λx=> !p x) xs j:Nat):Int)).u,(e_ (keepL (λx=> !p x) xs j) ((keptN (λx=> !p x) xs j:Nat):Int)).v,0,0,0⟩]:List Ev))) (by dsimp only;exact ⟨om,(by rw [chx_yes om (by simpa using ak),←ah,aj];rfl)⟩) (hL:=(Aa (C8 C<|by first|rfl|(rw [keepL_zero])|(rw [Z.1])|(rw [aa]))<|cx2<|Aa (C8 C<|by first|rfl|(rw [keepL_zero])|(rw [Z.1])|(rw [aa]))<|Aa (Er C<|by first|omega|(rw [keptN_zero];rfl)|(dsimp only;have e1:=Z.2;omega)|(dsimp only;have e1:=an;omega)) Bp))
 refine Bt<|Aq<|Aq<|Bb<|Ah<|Ad<|Gm C<|Gm C<|Ga C<|Ga C<|Ac<|Az ?_
 have hE:(keepL (λx=> !p x) xs j)=(xs.filter<|λx=> !p x):=keepL_end om
 have hC:M=(xs.filter p).map (cutEv nw):=by rw [ah,List.take_of_length_le om]
 exact C2 C C C (vk 54 a2 c2 ((xs.filter p).map (cutEv nw))::vk 82 ad ab (xs.filter<|λx=> !p x)::I) (by unfold vk;rw [←hE,←hC];exact Bg) ⟨ad,ab,a2,c2,by rw [←hE,←hC],rfl⟩
variable {κ:Ctx}{I:List Item}
theorem StepC_ok{nd:Int}{e:Ev}{xs:List Lk}(hT:Has I T)(hl:Sl κ T (.slice a0 xs.length c0) xs)(ha:xs.Pairwise Lk.lt)(au:xs.length<=1000000):eu Tryz.prog κ 171 [.agg #[e7 nd,.slice a0 xs.length c0],.agg (ez e).toArray] I (λr J=>∃(a:Option Addr) (c:Nat) (a2:Option Addr) (c2:Nat) (Y:List Item),r = .tuple #[.agg #[e7 nd,.slice a (ep xs e).length c],.slice a2 (chgL xs e).length c2]/\Sl κ (Y++T) (.slice a (ep xs e).length c) (ep xs e)/\J=vk 54 a2 c2 (chgL xs e)::(Y++I)):=by
 refine Ce2 Tryz.func171 C C ?_
 refine Ad<|Ge1 (Bd (cs:=[_,_]) C C C) λb1=>Ge1 (Bd (cs:=[_,_,_,_,_,_,_]) C C C) λb2=>Ge1 (A4 ty35 C) λb3=>Ga C<|Ac<|Ad<|Ga C<|Ac<|Ar<|Ad<|Gf fld54_0 C<|Gl ef ?_
 refine Ac<|A5<|Ad<|Gr (Br C C)<|Ga C<|Ac<|A7 C (λZ=>?_)<|λZ=>?_
 ·refine Ay (Gf fld35_1 C<|Gl ty33 ?_)
  refine Gl7 ty54 ?_
  refine G.e (Aj c_ C C<|SetC_ok (T:=T) (e:=e) (xs:=xs) (by repeat (first|exact hT|exact B0 _|apply Bz|apply Cl)) hl ha om) ?_
  rintro _ _ ⟨_,_,⟨ap,ar,aj,ao,Y8,rfl,aq,rfl⟩,rfl,rfl⟩
  refine D9 (J:=vk 54 aj ao (setC xs e)::e8 b3 [e7 0,.slice none 0 0] 35::e8 b2 (ez e) 54::e8 b1 [e7 nd,.slice a0 xs.length c0] 35::(Y8++I)) (C4<|List.Perm.cons _<|Dk (A:=Y8) (L:=[e8 b3 [e7 0,.slice none 0 0] 35,e8 b2 (ez e) 54,e8 b1 [e7 nd,.slice a0 xs.length c0] 35]) (T:=I)) ?_
  refine Gm C<|Gr (Ak C C)<|Gr (Ak C C)<|Gf fld35_1 C<|Ge0 (Es2_1 ty33) ?_
  refine Ga C<|Bj<|Am<|Ah<|Ap (S3 6 4 2)<|Ad<|Gl2 ty35 ?_
  refine Gm C<|Ge0 (Cz ty35) ?_
  refine Ga C<|Ac<|Az ?_
  have hE:setL (eh e) xs=(ep xs e):=by unfold ep;rw [if_pos Z]
  have hC:setC xs e=chgL xs e:=by unfold chgL;rw [if_pos Z]
  exact C0 C ty35 C C mm C (vk 54 aj ao (chgL xs e)::(Y8++I)) (by unfold vk;rw [←hC];exact Bl) ⟨ap,ar,aj,ao,Y8,by rw [←hE,←hC]<;>rfl,by rw [←hE];exact aq,rfl⟩
 refine Ad<|Gr (Br C C)<|Ga C<|Ac<|A7 C (λak=>?_)<|λak=>?_
 ·refine Ay (Gf fld35_1 C<|Gl ty33 ?_)
  refine Gf fld54_1 C<|Gl ef ?_
  refine Gr (D3 C C)<|G.e (Aj c_ C C<|CutC_ok (xs:=xs) (nw:=e.tm) (Bu hl<|Co Ax hT.fit) (Step1_says ak<|D8 mm) om) ?_
  rintro _ _ ⟨_,_,⟨an,ab,ai,ah,rfl,rfl⟩,rfl,rfl⟩
  refine Gm C<|Gr (Ak C C)<|Gr (Ak C C)<|Gf fld35_1 C<|Ge0 (Es2_1 ty33) ?_
  refine Ga C<|Bj<|Am<|Ah<|Ap (S3 6 4 2)<|Ad<|Gl2 ty35 ?_
  refine Gm C<|Ge0 (Cz ty35) ?_
  refine Ga C<|Ac<|Az ?_
  have hE:List.filter (λx=> !hitE e x) xs=(ep xs e):=by unfold ep;rw [if_neg Z]
  have hC:(xs.filter<|hitE e).map (cutEv e.tm)=chgL xs e:=by unfold chgL;rw [if_neg Z]
  exact C0 C ty35 C C mm C (vk 54 ai ah (chgL xs e)::([vk 82 an ab (ep xs e)]++I)) (by unfold vk;rw [←hC,←hE];exact Bl) ⟨an,ab,ai,ah,[vk 82 an ab (ep xs e)],by rw [←hE,←hC]<;>rfl,De<|List.mem_append_left _ List.mem_cons_self,rfl⟩
 refine Ay<|Gf fld35_1 C<|Gl ty33 ?_
 refine Gf fld54_1 C<|Gl ef ?_
 refine Gr (D3 C C)<|G.e (Aj c_ C C<|CutC_ok (xs:=xs) (nw:=e.tm) (Bu hl<|Co Ax hT.fit) (Step2_says ak<|D8 mm) om) ?_
 rintro _ _ ⟨_,_,⟨aa,M,ad,ae,rfl,rfl⟩,rfl,rfl⟩
 refine Gm C<|Gr (Ak C C)<|Gr (Ak C C)<|Gf fld35_1 C<|Ge0 (Es2_1 ty33) ?_
 refine Ga C<|Bj<|Am<|Ah<|Ap (S3 6 4 2)<|Ad<|Gl2 ty35 ?_
 refine Gm C<|Ge0 (Cz ty35) ?_
 refine Ga C<|Ac<|Az ?_
 have hE:List.filter (λx=> !hitE e x) xs=(ep xs e):=by unfold ep;rw [if_neg Z]
 have hC:(xs.filter<|hitE e).map (cutEv e.tm)=chgL xs e:=by unfold chgL;rw [if_neg Z]
 exact C0 C ty35 C C mm C (vk 54 ad ae (chgL xs e)::([vk 82 aa M (ep xs e)]++I)) (by unfold vk;rw [←hC,←hE];exact Bl) ⟨aa,M,ad,ae,[vk 82 aa M (ep xs e)],by rw [←hE,←hC]<;>rfl,De<|List.mem_append_left _ List.mem_cons_self,rfl⟩
theorem ApplyC_ok{nd:Int}{e:Ev}{xs:List Lk}(hl:Sl κ I (.slice a0 xs.length c0) xs)(hv:checkS nd xs=0)(hf:FitOk nd e)(aj:xs.length<=100000):eu Tryz.prog κ 150 [.agg #[e7 nd,.slice a0 xs.length c0],.agg (ez e).toArray] I (λr J=>∃(a:Option Addr) (c:Nat) (a2:Option Addr) (c2:Nat),r = .tuple #[.agg #[e7 nd,.slice a (ep xs e).length c],.slice a2 (chgL xs e).length c2,e7 0]/\J=vk 82 a c (ep xs e)::vk 54 a2 c2 (chgL xs e)::I):=by
 refine Ce2 Tryz.func150 C C ?_
 refine Ad<|Ge1 (Bd (cs:=[_,_]) C C C) λb1=>Ge1 (Bd (cs:=[_,_,_,_,_,_,_]) C C C) λb2=>Ge1 (A4 ty35 C) λb3=>Ga C<|Ga C<|Ac<|Ad<|Gl2 ty35 ?_
 refine G.e (Aj c_ C C<|CheckS_ok (nd:=nd)<|A8 hl) ?_
 rintro _ _ ⟨_,_,⟨rfl,rfl⟩,rfl,rfl⟩
 refine Ga C<|Ac<|Ar<|Ad<|Gm C<|Gr (Br C C)<|Ac<|A7 C (λc13=>?_)<|λc13=>?_
 ·refine Ay (Gf fld35_0 C<|Gl ef ?_)
  refine Gl7 ty54 ?_
  refine Gc0 (Aj c_ C C<|FitsE_ok nd e) ?_
  refine Ga C<|Ac<|Ap (S4 7 4 3 2)<|Ar<|Ad<|Gm C<|Gr (Be C C)<|Ac<|A7 C (λad=>?_)<|λad=>?_
  ·exact absurd (fitE_ok.2 hf) ad
  refine Aw<|Ah<|Ad<|Gl2 ty35 ?_
  refine Gl7 ty54 ?_
  refine G.e (Aj c_ C C<|StepC_ok (T:=I) (nd:=nd) (e:=e) (xs:=xs) (by repeat (first|exact hT|exact B0 _|apply Bz|apply Cl)) hl (checkS_ok hv).2.2 om) ?_
  rintro _ _ ⟨_,_,⟨ah,ai,aa,ab,Y8,rfl,ae,rfl⟩,rfl,rfl⟩
  refine D9 (J:=vk 54 aa ab (chgL xs e)::e8 b3 [e7 0,.slice none 0 0] 35::e8 b2 (ez e) 54::e8 b1 [e7 nd,.slice a0 xs.length c0] 35::(Y8++I)) (C4<|List.Perm.cons _<|Dk (A:=Y8) (L:=[e8 b3 [e7 0,.slice none 0 0] 35,e8 b2 (ez e) 54,e8 b1 [e7 nd,.slice a0 xs.length c0] 35]) (T:=I)) ?_
  refine Gm C<|Gr (Ak C C)<|Gr (Ak C C)<|Ge1 (A4 ty35 C) λb9=>Ge0 (Cz ty35) ?_
  refine Ga C<|Ac<|Ap (S3 9 8 4)<|Ad<|Gf fld35_1 C<|Gl ty33 ?_
  refine G.e (Aj c_ C C<|CloneL (xs:=ep xs e) (Bu ae Ax)<|by have h:=stepL_len xs e;omega) ?_
  rintro _ _ ⟨_,_,⟨Z,M,rfl,rfl⟩,rfl,rfl⟩
  refine Gf fld35_1 C<|Ge0 (Es2_1 ty33) ?_
  refine Ac<|Ad<|Gl2 ty35 ?_
  refine Gm C<|Ge0 (Cz ty35) ?_
  exact Ga C<|Ga C<|Ac<|Az<|Cy C ty35 C C C mm C (vk 82 Z M (ep xs e)::vk 54 aa ab (chgL xs e)::I) Bl ⟨Z,M,aa,ab,rfl,rfl⟩
 exact absurd hv c13
theorem mem_orB2{a b:BitVec 64}{u:Int}:u∈eo (a ||| b)↔u∈eo a\/u∈eo b:=by
 simp only [D5,BitVec.getLsbD_or,Bool.or_eq_true]
 constructor
 ·rintro ⟨Z,h2|h2⟩
  ·exact .inl ⟨Z,h2⟩
  exact .inr ⟨Z,h2⟩
 rintro (⟨Z,h2⟩|⟨Z,h2⟩)
 ·exact ⟨Z,.inl h2⟩
 exact ⟨Z,.inr h2⟩
section
variable {nd:Int}{es es':List Pt}{u v k:Int}{F S A:BitVec 64}
theorem degB_cnt(M:GrOk nd es){W:BitVec 64}(Z:NodeR nd x):degB (ek nd es) W x=cntN (nbG nd es) (λy=>decide (y∈eo W)) x:=by
 rw [cntN_meet M,deg_meet M (W:=W) (λz=>Iff.rfl) Z.1 Z.2]
structure SetR (rows:List (BitVec 64)) (F A:BitVec 64) (k:Int) (S:BitVec 64):Prop where
 sub:∀x∈eo S,x∈eo F
 deg:∀x∈eo S,k<=((degB rows (S ||| A) x:Nat):Int)
 most:∀T:BitVec 64,(∀x∈eo T,x∈eo F)->(∀x∈eo T,k<=((degB rows (T ||| A) x:Nat):Int))->∀x∈eo T,x∈eo S
structure RegR (nd:Int) (es:List Pt) (N:List Int) (u v k:Int) (F:BitVec 64):Prop where
 lev:∀x∈eo F,NodeR nd x/\e_ N x=k
 hu:e_ N u=k->u∈eo F
 hv:e_ N v=k->v∈eo F
 cl:∀x∈eo F,∀y∈nbG nd es x,e_ N y=k->y∈eo F
theorem maskT(hG:GrOk nd es){T:Int->Bool}(Z:∀x,T x=true->NodeR nd x)(x:Int):x∈eo (maskB (sideL nd.toNat T))↔T x=true:=by
 have hr:=hG.rng
 rw [mask_list hr.2 (l:=sideL nd.toNat T) (λy M=>Z y (mem_sideL.1 M).2),mem_sideL]
 exact ⟨λh=>h.2,λh=>⟨by have:=Z x h;unfold NodeR at this;omega,h⟩⟩
theorem core_comes(h:OneE nd es es' u v)(hk:k=min (e_ (coreN nd es) u) (e_ (coreN nd es) v))(hF:RegR nd es' (coreN nd es) u v k F)(hA:∀x,x∈eo A↔NodeR nd x/\k<e_ (coreN nd es) x)(hS:SetR (ek nd es') F A (k+1) S)
  {x:Int} (hx:NodeR nd x):e_ (coreN nd es') x=e_ (coreN nd es) x+if x∈eo S then 1 else 0:=by
 have he:=h.ends
 unfold endsP at he
 have hp:=λy (Z:NodeR nd y)=>core_pos h.ok Z.1 Z.2
 have aj:=λy (Z:NodeR nd y)=>core_pos h.ok' Z.1 Z.2
 have hu:NodeR nd u:=⟨he.1,he.2.2.1⟩
 have hv:NodeR nd v:=⟨he.2.1,he.2.2.2.1⟩
 have pu:=hp u hu
 have pv:=hp v hv
 have hX:∀(T:BitVec 64) y,(decide (y∈eo T)||upN (NodeR nd) (λx=>(e_ (coreN nd es) x).toNat) (k.toNat+1) y)=decide (y∈eo (T ||| A)):=λT y=>by
  rw [Bool.eq_iff_iff,or_t,upN_t,decide_eq_true_iff,decide_eq_true_iff,mem_orB2,hA]
  constructor
  ·rintro (M|⟨M,h2⟩)
   ·exact .inl M
   exact .inr ⟨M,by omega⟩
  rintro (M|⟨M,h2⟩)
  ·exact .inl M
  exact .inr ⟨M,by have:=hp y M;omega⟩
 have hc:=core_ins (coreN_is h.ok) h.more (λa b ha hb ai=>nb_sym h.ok' ai) (k:=k.toNat) om (R:=λy=>decide<|y∈eo F) (S:=λy=>decide<|y∈eo S)
  (λy Z=>by have:=hF.lev y (of_decide_eq_true Z);exact ⟨this.1,by omega⟩) (λe=>decide_eq_true<|hF.hu om) (λe=>decide_eq_true<|hF.hv om)
  (λy z Z hz ae ak=>decide_eq_true<|hF.cl y (of_decide_eq_true Z) z hz<|by have:=hp z ae;omega)
  (λy Z=>decide_eq_true<|hS.sub y<|of_decide_eq_true Z)
  (λy Z=>by
   have Z:=of_decide_eq_true Z
   have ad:=(hF.lev y<|hS.sub y Z).1
   simp only [hX]
   rw [←degB_cnt h.ok' ad]
   have:=hS.deg y Z;omega)
  (λT ab ah y Z=>by
   have aa:∀z,T z=true->NodeR nd z:=λz hz=>(hF.lev z<|of_decide_eq_true<|ab z hz).1
   have hm:=maskT h.ok' aa
   refine decide_eq_true<|hS.most (maskB<|sideL nd.toNat T) (λz hz=>of_decide_eq_true<|ab z<|(hm z).1 hz) (λz hz=>?_) y<|(hm y).2 Z
   have hz:=(hm z).1 hz
   rw [degB_cnt h.ok' (aa z hz)]
   have h3:=ah z hz
   have h4:(λy=>T y||upN (NodeR nd) (λx=>(e_ (coreN nd es) x).toNat) (k.toNat+1) y)=λy=>decide (y∈eo (maskB (sideL nd.toNat T) ||| A)):=funext λy=>by
    rw [←hX];congr 1
    rw [Bool.eq_iff_iff,decide_eq_true_iff];exact (hm y).symm
   rw [h4] at h3;omega)
 have M:(e_ (coreN nd es') x).toNat=(e_ (coreN nd es) x).toNat+if decide (x∈eo S)=true then 1 else 0:=(coreN_is h.ok').uniq hc hx
 have h2:=hp x hx
 have h3:=aj x hx
 by_cases hs:x∈eo S
 ·rw [if_pos (decide_eq_true hs)] at M;rw [if_pos hs];omega
 rw [if_neg (λq=>hs<|of_decide_eq_true q)] at M;rw [if_neg hs];omega
theorem core_goes(h:OneE nd es es' u v)(hk:k=min (e_ (coreN nd es') u) (e_ (coreN nd es') v))(hF:RegR nd es' (coreN nd es') u v k F)(hA:∀x,x∈eo A↔NodeR nd x/\k<=e_ (coreN nd es') x/\x∉eo F)(hS:SetR (ek nd es) F A k S)
  {x:Int} (hx:NodeR nd x):e_ (coreN nd es) x=e_ (coreN nd es') x - if x∈eo F/\x∉eo S then 1 else 0:=by
 have he:=h.ends
 unfold endsP at he
 have hp:=λy (Z:NodeR nd y)=>core_pos h.ok Z.1 Z.2
 have M:=λy (Z:NodeR nd y)=>core_pos h.ok' Z.1 Z.2
 have hu:NodeR nd u:=⟨he.1,he.2.2.1⟩
 have hv:NodeR nd v:=⟨he.2.1,he.2.2.2.1⟩
 have pu:=M u hu
 have pv:=M v hv
 have hX:∀(T:BitVec 64) y,(decide (y∈eo T)||(upN (NodeR nd) (λx=>(e_ (coreN nd es') x).toNat) k.toNat y && !decide (y∈eo F)))=decide (y∈eo (T ||| A)):=λT y=>by
  rw [Bool.eq_iff_iff,or_t,and_t,upN_t,decide_eq_true_iff,decide_eq_true_iff,mem_orB2,hA,Bool.not_eq_true',decide_eq_false_iff_not]
  constructor
  ·rintro (h1|⟨⟨h1,h2⟩,h3⟩)
   ·exact .inl h1
   exact .inr ⟨h1,by have:=M y h1;omega,h3⟩
  rintro (h1|⟨h1,h2,h3⟩)
  ·exact .inl h1
  exact .inr ⟨⟨h1,by have:=M y h1;omega⟩,h3⟩
 have ak:=h.more.pos (coreN_is h.ok')
 have hc:=core_del (coreN_is h.ok') h.more (λa b ha hb ai=>nb_sym h.ok' ai) (k:=k.toNat) om (R:=λy=>decide<|y∈eo F) (S:=λy=>decide<|y∈eo S)
  (λy Z=>by have:=hF.lev y (of_decide_eq_true Z);exact ⟨this.1,by omega⟩) (λe=>decide_eq_true<|hF.hu om) (λe=>decide_eq_true<|hF.hv om)
  (λy z Z hz ae aj=>decide_eq_true<|hF.cl y (of_decide_eq_true Z) z hz<|by have:=M z ae;omega)
  (λy Z=>decide_eq_true<|hS.sub y<|of_decide_eq_true Z)
  (λy Z=>by
   have Z:=of_decide_eq_true Z
   have ad:=(hF.lev y<|hS.sub y Z).1
   simp only [hX]
   rw [←degB_cnt h.ok ad]
   have:=hS.deg y Z;omega)
  (λT ab ah y Z=>by
   have aa:∀z,T z=true->NodeR nd z:=λz hz=>(hF.lev z<|of_decide_eq_true<|ab z hz).1
   have hm:=maskT h.ok aa
   refine decide_eq_true<|hS.most (maskB<|sideL nd.toNat T) (λz hz=>of_decide_eq_true<|ab z<|(hm z).1 hz) (λz hz=>?_) y<|(hm y).2 Z
   have hz:=(hm z).1 hz
   rw [degB_cnt h.ok (aa z hz)]
   have h3:=ah z hz
   have h4:(λy=>T y||(upN (NodeR nd) (λx=>(e_ (coreN nd es') x).toNat) k.toNat y && !decide (y∈eo F)))=λy=>decide (y∈eo (maskB (sideL nd.toNat T) ||| A)):=funext λy=>by
    rw [←hX];congr 1
    rw [Bool.eq_iff_iff,decide_eq_true_iff];exact (hm y).symm
   rw [h4] at h3;omega)
 have h1:(e_ (coreN nd es) x).toNat=(e_ (coreN nd es') x).toNat - if decide (x∈eo F)=true/\decide (x∈eo S)≠true then 1 else 0:=(coreN_is h.ok).uniq hc hx
 have h2:=hp x hx
 have h3:=M x hx
 by_cases hs:x∈eo F/\x∉eo S
 ·have hl:=(hF.lev x hs.1).2
  rw [if_pos ⟨decide_eq_true hs.1,λq=>hs.2<|of_decide_eq_true q⟩] at h1;rw [if_pos hs];omega
 rw [if_neg (λq=>hs ⟨of_decide_eq_true q.1,λq2=>q.2<|decide_eq_true q2⟩)] at h1;rw [if_neg hs];omega
end
section
variable {nd:Int}{es es':List Pt}{u v:Int}
def triP(nd:Int)(es:List Pt)(e:Pt):List (Pt×Pt):=(commonG nd es e.u e.v).map λw=>(edgeP e.u w,edgeP e.v w)
def trusT(nd:Int)(es:List Pt)(e:Pt):Nat:=(e_ (trussG nd es) ((es.idxOf e:Nat):Int)).toNat
theorem trussG_eq(Z:GrOk nd es):trussG nd es=trussN (trisE nd es):=if_neg (by rw [checkG_ok.2 Z];decide)
theorem triP_in(hG:GrOk nd es){e:Pt}(M:e∈es):∀p∈triP nd es e,p.1∈es/\p.2∈es:=λp Z=>by
 obtain ⟨w,hw,rfl⟩:=List.mem_map.1 Z
 exact common_mem hG M hw
theorem trusT_is(M:GrOk nd es):IsTr (λe=>e∈es) (triP nd es) (trusT nd es):=by
 have h1:=trussE_is (triG M) (trussE (triG M)<|tris_ok M)
 have hl:(trisE nd es).length=es.length:=List.length_map ..
 have h2:=h1.move (E:=λe=>e∈es) (tri:=triP nd es) (λe=>((es.idxOf e:Nat):Int)) (λe Z=>by have:=List.idxOf_lt_length_of_mem Z;constructor<;>omega) (λe e' Z aa h=>idx_inj M Z aa om)
  (λb hb=>⟨e_ es b,B7 hb.1 om,by
   obtain ⟨k,rfl⟩:=Int.eq_ofNat_of_zero_le hb.1
   show ((es.idxOf (e_ es k):Nat):Int)=(k:Int)
   rw [idx_eq M om]⟩)
  (λe Z=>triP_in M Z) (λe Z=>by
   have hlt:=List.idxOf_lt_length_of_mem Z
   unfold triI triP
   rw [tri_at om om,(idx_at M Z).2]
   unfold triE
   rw [List.map_map,List.map_map]
   rfl)
 intro e Z k
 have:=h2 e Z k
 unfold trusT
 rw [trussG_eq M]
 exact this
theorem cntX_triP(X:Pt->Bool)(e:Pt):cntX (triP nd es) X e=((commonG nd es e.u e.v).filter λw=>X (edgeP e.u w)&&X (edgeP e.v w)).length:=by
 unfold cntX triP
 rw [List.filter_map,List.length_map]
 rfl
theorem common_nodup(nd:Int)(es:List Pt)(x y:Int):(commonG nd es x y).Nodup:=by
 unfold commonG
 split
 ·exact List.nodup_nil
 unfold meetL;exact ((ofL_asc _).imp λh=>by omega:(ofL<|nbG nd es x).Nodup).filter _
theorem OneE.cnt(h:OneE nd es es' u v){e:Pt}(he:e∈es')(ad:e≠edgeP u v){X Y:Pt->Bool}(ab:∀f,X f=true->f≠edgeP u v->Y f=true):cntX (triP nd es') X e<=cntX (triP nd es) Y e+1:=by
 have ae:=h.ok'.edge e he
 rw [cntX_triP,cntX_triP]
 have aa:=h.ends
 unfold endsP at aa
 have h1:∀w∈(commonG nd es' e.u e.v).filter (λw=>X (edgeP e.u w)&&X (edgeP e.v w)),w∈(if e.u=u then v else if e.u=v then u else if e.v=u then v else u)::(commonG nd es e.u e.v).filter λw=>Y (edgeP e.u w)&&Y (edgeP e.v w):=λw hw=>by
  obtain ⟨w1,w2⟩:=List.mem_filter.1 hw
  obtain ⟨w3,w4⟩:=and_t.1 w2
  obtain ⟨m1,m2⟩:=(mem_commonE h.ok' om).1 w1
  by_cases q:edgeP e.u w≠edgeP u v/\edgeP e.v w≠edgeP u v
  ·refine List.mem_cons_of_mem _ (List.mem_filter.2 ⟨(mem_commonE h.ok om).2 ⟨?_,?_⟩,and_t.2 ⟨ab _ w3 q.1,ab _ w4 q.2⟩⟩)
   ·exact ((h.mem _).1 m1).resolve_right q.1
   exact ((h.mem _).1 m2).resolve_right q.2
  have two:∀a b:Int,edgeP a b=edgeP u v->(a=u/\b=v)\/(a=v/\b=u):=λa b Z=>by
   rw [Dj] at Z
   unfold edgeP at Z
   simp only at Z
   split at Z<;>split at Z<;>split at Z<;>split at Z<;>omega
  have M:¬((e.u=u/\e.v=v)\/(e.u=v/\e.v=u)):=λq2=>ad (by
   rw [Dj]
   unfold edgeP
   simp only
   split<;>split<;>omega)
  have:w=if e.u=u then v else if e.u=v then u else if e.v=u then v else u:=by
   have q':edgeP e.u w=edgeP u v\/edgeP e.v w=edgeP u v:=Classical.byContradiction λq3=>q ⟨λq4=>q3<|.inl q4,λq4=>q3<|.inr q4⟩
   rcases q' with q'|q'
   ·rcases two _ _ q' with ⟨a,b⟩|⟨a,b⟩
    ·rw [if_pos a];exact b
    rw [if_neg om,if_pos a];exact b
   rcases two _ _ q' with ⟨a,b⟩|⟨a,b⟩
   ·by_cases c1:e.u=u
    ·omega
    by_cases c2:e.u=v
    ·exact absurd (.inr ⟨c2,a⟩) M
    rw [if_neg c1,if_neg c2,if_pos a];exact b
   by_cases c1:e.u=u
   ·exact absurd (.inl ⟨c1,a⟩) M
   by_cases c2:e.u=v
   ·omega
   rw [if_neg c1,if_neg c2,if_neg om];exact b
  rw [this];exact List.mem_cons_self
 have:=List.Nodup.length_le_of_subset ((common_nodup nd es' e.u e.v).filter _) h1
 simpa using this
theorem OneE.cnt_le(h:OneE nd es es' u v){e:Pt}(M:e∈es)(X:Pt->Bool):cntX (triP nd es) X e<=cntX (triP nd es') X e:=by
 have aa:=h.ok.edge e M
 rw [cntX_triP,cntX_triP]
 refine List.Nodup.length_le_of_subset ((common_nodup nd es e.u e.v).filter _) λw hw=>?_
 obtain ⟨w1,Z⟩:=List.mem_filter.1 hw
 obtain ⟨m1,m2⟩:=(mem_commonE h.ok om).1 w1
 exact List.mem_filter.2 ⟨(mem_commonE h.ok' om).2 ⟨(h.mem _).2 (.inl m1),(h.mem _).2 (.inl m2)⟩,Z⟩
theorem OneE.truss(h:OneE nd es es' u v){e:Pt}(M:e∈es):trusT nd es e<=trusT nd es' e/\trusT nd es' e<=trusT nd es e+1:=by
 have aa:e≠edgeP u v:=λq=>h.no (q▸M)
 exact ⟨tr_del (trusT_is h.ok') (trusT_is h.ok) (λf Z=>(h.mem f).2 (.inl Z)) (λf Z X=>h.cnt_le Z X) M,
  tr_ins (trusT_is h.ok) (trusT_is h.ok') (edgeP u v) (λf Z hn=>((h.mem f).1 Z).resolve_right hn) (λf Z hn X Y ab=>h.cnt Z hn ab) ((h.mem e).2 (.inl M)) aa⟩
theorem OneE.truss_new(h:OneE nd es es' u v):trusT nd es' (edgeP u v)<=(commonG nd es' u v).length:=by
 have hm:edgeP u v∈es':=(h.mem _).2 (.inr rfl)
 obtain ⟨X,h1,h2⟩:=(trusT_is h.ok' _ hm _).1 (Nat.le_refl _)
 have h3:=h1.deg _ h2
 rw [cntX_triP] at h3
 refine Nat.le_trans h3<|Nat.le_trans (List.length_filter_le _ _) ?_
 have aa:u≠v:=by have:=h.ends;unfold endsP at this;omega
 refine List.Nodup.length_le_of_subset (common_nodup _ _ _ _) λw hw=>?_
 have hu:(edgeP u v).u≠(edgeP u v).v:=by have:=h.ok'.edge _ hm;omega
 obtain ⟨Z,M⟩:=(mem_commonE h.ok' hu).1 hw
 rw [mem_commonE h.ok' aa]
 rcases edgeP_of h.ends with ⟨q,_⟩|⟨q,_⟩
 ·rw [q] at Z M;exact ⟨Z,M⟩
 rw [q] at Z M;exact ⟨M,Z⟩
end
theorem sum_list(g:Nat->Int):∀{l:List Int},l.Nodup->(∀x∈l,0<=x/\x<(n:Int))->(l.map λx=>g x.toNat).sum=sumN n λj=>if (j:Int)∈l then g j else 0
 |[],_,_=>by rw [Fi n (λj _=>if_neg<|by simp)];rfl
 |x::l,hn,hr=>by
  obtain ⟨h1,h2⟩:=List.nodup_cons.1 hn
  have hx:=hr x List.mem_cons_self
  rw [List.map_cons,List.sum_cons,sum_list g h2 λy M=>hr y<|List.mem_cons_of_mem _ M]
  have e1:sumN n (λj=>if (j:Int)∈x::l then g j else 0)=sumN n λj=>(if j=x.toNat then g x.toNat else 0)+if (j:Int)∈l then g j else 0:=C6 n λj hj=>by
   by_cases hq:j=x.toNat
   ·have Z:(j:Int)=x:=by omega
    rw [if_pos (by rw [Z];exact List.mem_cons_self),if_pos hq,if_neg<|by rw [Z];exact h1,hq];omega
   have Z:(j:Int)≠x:=by omega
   rw [if_neg hq,Int.zero_add]
   by_cases hm:(j:Int)∈l
   ·rw [if_pos hm,if_pos<|List.mem_cons_of_mem _ hm]
   rw [if_neg hm,if_neg<|λq=>(List.mem_cons.1 q).elim Z hm]
  rw [e1,sumN_add,sumN_at om]
theorem len_list{l:List Int}(hn:l.Nodup)(Z:∀x∈l,0<=x/\x<(n:Int)):(l.length:Int)=sumN n λj=>ind (decide ((j:Int)∈l)):=by
 have:=sum_list (n:=n) (λ_=>1) hn Z
 have e:∀l:List Int,(l.map λ_=>(1:Int)).sum=(l.length:Int):=λl=>by
  induction l with
  |nil=>rfl
  |cons x l ih=>rw [List.map_cons,List.sum_cons,ih,List.length_cons];omega
 rw [e] at this
 rw [this]
 exact C6 n λj _=>(ind_d _).symm
theorem sum_pairs(g:Nat->Nat->Int):∀{es:List Pt},es.Nodup->(∀p∈es,(0<=p.u/\p.u<(n:Int))/\0<=p.v/\p.v<(n:Int))->(es.map λp=>g p.u.toNat p.v.toNat).sum=sumN n λx=>sumN n λy=>if (⟨(x:Int),(y:Int)⟩:Pt)∈es then g x y else 0
 |[],_,_=>by rw [Fi n (λx _=>Fi n λy _=>if_neg<|by simp)];rfl
 |p::es,hn,hr=>by
  obtain ⟨h1,h2⟩:=List.nodup_cons.1 hn
  have hp:=hr p List.mem_cons_self
  rw [List.map_cons,List.sum_cons,sum_pairs g h2 λy M=>hr y<|List.mem_cons_of_mem _ M]
  have e1:(sumN n λx=>sumN n λy=>if (⟨(x:Int),(y:Int)⟩:Pt)∈p::es then g x y else 0)=sumN n λx=>(if x=p.u.toNat then g p.u.toNat p.v.toNat else 0)+sumN n λy=>if (⟨(x:Int),(y:Int)⟩:Pt)∈es then g x y else 0:=C6 n λx hx=>by
   by_cases hq:x=p.u.toNat
   ·rw [if_pos hq]
    have e2:(sumN n λy=>if (⟨(x:Int),(y:Int)⟩:Pt)∈p::es then g x y else 0)=sumN n λy=>(if y=p.v.toNat then g p.u.toNat p.v.toNat else 0)+if (⟨(x:Int),(y:Int)⟩:Pt)∈es then g x y else 0:=C6 n λy M=>by
     by_cases hr2:y=p.v.toNat
     ·have Z:(⟨(x:Int),(y:Int)⟩:Pt)=p:=by rw [Dj];simp only;omega
      rw [if_pos (by rw [Z];exact List.mem_cons_self),if_pos hr2,if_neg<|by rw [Z];exact h1,hq,hr2];omega
     have Z:(⟨(x:Int),(y:Int)⟩:Pt)≠p:=λq=>by rw [Dj] at q;simp only at q;omega
     rw [if_neg hr2,Int.zero_add]
     by_cases hm:(⟨(x:Int),(y:Int)⟩:Pt)∈es
     ·rw [if_pos hm,if_pos<|List.mem_cons_of_mem _ hm]
     rw [if_neg hm,if_neg<|λq=>(List.mem_cons.1 q).elim Z hm]
    rw [e2,sumN_add,sumN_at om]
   rw [if_neg hq,Int.zero_add]
   refine C6 n λy M=>?_
   have Z:(⟨(x:Int),(y:Int)⟩:Pt)≠p:=λq=>by rw [Dj] at q;simp only at q;omega
   by_cases hm:(⟨(x:Int),(y:Int)⟩:Pt)∈es
   ·rw [if_pos hm,if_pos<|List.mem_cons_of_mem _ hm]
   rw [if_neg hm,if_neg<|λq=>(List.mem_cons.1 q).elim Z hm]
  rw [e1,sumN_add,sumN_at om]
section
variable {nd:Int}{es es':List Pt}{u v:Int}
def adjE(nd:Int)(es:List Pt)(x y:Nat):Bool:=decide (((y:Int))∈nbG nd es (x:Int))
theorem adjE_ok(Z:GrOk nd es):AdjN nd.toNat (adjE nd es):=
 ⟨λx y=>by unfold adjE;rw [decide_eq_decide];exact ⟨λh=>nb_sym Z h,λh=>nb_sym Z h⟩,λx=>decide_eq_false λh=>(nbe_rng Z h).2.2 rfl⟩
theorem OneE.adj(h:OneE nd es es' u v):MoreA nd.toNat (adjE nd es) (adjE nd es') u.toNat v.toNat:=by
 have Z:=h.ends
 unfold endsP at Z
 refine ⟨adjE_ok h.ok,by omega,by omega,by omega,?_,λx y=>?_⟩
 ·unfold adjE
  rw [Int.toNat_of_nonneg Z.1,Int.toNat_of_nonneg Z.2.1]
  exact decide_eq_false h.nuv.1
 unfold adjE
 rw [Bool.eq_iff_iff,decide_eq_true_iff,h.nb,Bool.or_eq_true,Bool.or_eq_true,decide_eq_true_iff,decide_eq_true_iff,decide_eq_true_iff]
 refine or_congr Iff.rfl<|or_congr ?_ ?_
 ·omega
 omega
theorem adj_mem(Z:GrOk nd es)(x y:Nat):adjE nd es x y=(decide ((⟨(x:Int),(y:Int)⟩:Pt)∈es)||decide ((⟨(y:Int),(x:Int)⟩:Pt)∈es)):=by
 unfold adjE
 rw [Bool.eq_iff_iff,decide_eq_true_iff,mem_nb Z,Bool.or_eq_true,decide_eq_true_iff,decide_eq_true_iff]
theorem sum_edges(hG:GrOk nd es)(g:Nat->Nat->Int)(hg:∀x y,g x y=g y x):2*(es.map λp=>g p.u.toNat p.v.toNat).sum=sumN nd.toNat λx=>sumN nd.toNat λy=>if adjE nd es x y=true then g x y else 0:=by
 have hr:∀p∈es,(0<=p.u/\p.u<(nd.toNat:Int))/\0<=p.v/\p.v<(nd.toNat:Int):=λp hp=>by have:=hG.edge p hp;omega
 have h1:=sum_pairs (n:=nd.toNat) g (Fe hG.asc) hr
 have h2:(es.map λp=>g p.u.toNat p.v.toNat).sum=sumN nd.toNat λx=>sumN nd.toNat λy=>if (⟨(y:Int),(x:Int)⟩:Pt)∈es then g x y else 0:=by
  rw [h1,sumN_swap]
  exact C6 _ λy _=>C6 _ λx _=>by rw [hg x y]
 have h3:(sumN nd.toNat λx=>sumN nd.toNat λy=>if adjE nd es x y=true then g x y else 0)=(sumN nd.toNat λx=>sumN nd.toNat λy=>if (⟨(x:Int),(y:Int)⟩:Pt)∈es then g x y else 0)+sumN nd.toNat λx=>sumN nd.toNat λy=>if (⟨(y:Int),(x:Int)⟩:Pt)∈es then g x y else 0:=by
  rw [←sumN_add]
  refine C6 _ λx _=>?_
  rw [←sumN_add]
  refine C6 _ λy _=>?_
  have Z:adjE nd es x y=true↔(⟨(x:Int),(y:Int)⟩:Pt)∈es\/(⟨(y:Int),(x:Int)⟩:Pt)∈es:=by rw [adj_mem hG,Bool.or_eq_true,decide_eq_true_iff,decide_eq_true_iff]
  by_cases q1:(⟨(x:Int),(y:Int)⟩:Pt)∈es
  ·have M:¬(⟨(y:Int),(x:Int)⟩:Pt)∈es:=λM=>by have:=hG.edge _ q1;have:=hG.edge _ M;simp only at *; omega
   rw [if_pos (Z.2<|.inl q1),if_pos q1,if_neg M];omega
  by_cases M:(⟨(y:Int),(x:Int)⟩:Pt)∈es
  ·rw [if_pos (Z.2<|.inr M),if_neg q1,if_pos M];omega
  rw [if_neg (λq=>(Z.1 q).elim q1 M),if_neg q1,if_neg M];rfl
 rw [h3,←h1,←h2];omega
theorem mem_common2(M:GrOk nd es){w:Int}(Z:x≠y):w∈commonG nd es x y↔w∈nbG nd es x/\w∈nbG nd es y:=by
 unfold commonG;rw [if_neg Z,mem_meetL]
def triW(nd:Int)(es:List Pt)(w:Int):Int:=(es.map λp=>ind (decide (w∈commonG nd es p.u p.v))).sum
theorem triW_two(Z:GrOk nd es)(w:Nat):2*triW nd es (w:Int)=triT nd.toNat (adjE nd es) w:=by
 have h1:triW nd es (w:Int)=(es.map λp=>ind<|adjE nd es w p.u.toNat&&adjE nd es w p.v.toNat).sum:=by
  unfold triW
  congr 1
  refine List.map_congr_left λp hp=>?_
  have M:=Z.edge p hp
  congr 1
  unfold adjE
  rw [Int.toNat_of_nonneg M.1,Int.toNat_of_nonneg (show 0<=p.v by omega),Bool.eq_iff_iff,decide_eq_true_iff,mem_common2 Z om,Bool.and_eq_true,decide_eq_true_iff,decide_eq_true_iff]
  exact and_congr ⟨λh=>nb_sym Z h,λh=>nb_sym Z h⟩ ⟨λh=>nb_sym Z h,λh=>nb_sym Z h⟩
 rw [h1,sum_edges Z (λx y=>ind<|adjE nd es w x&&adjE nd es w y) λx y=>by rw [Bool.and_comm]]
 unfold triT
 refine C6 _ λx _=>C6 _ λy _=>?_
 cases adjE nd es x y with
 |true=>rw [if_pos rfl,Bool.true_and]
 |false=>rw [if_neg dc,Bool.false_and];rfl
theorem common_co(M:GrOk nd es)(hx:NodeR nd x)(hy:NodeR nd y)(Z:x≠y):((commonG nd es x y).length:Int)=coN nd.toNat (adjE nd es) x.toNat y.toNat:=by
 have hr:∀w∈commonG nd es x y,0<=w/\w<(nd.toNat:Int):=λw hw=>by
  have:=nbe_rng M ((mem_common2 M Z).1 hw).1;omega
 unfold NodeR at hx hy
 rw [len_list (common_nodup nd es x y) hr]
 unfold coN
 rw [if_neg om]
 refine C6 _ λj _=>?_
 congr 1
 unfold adjE
 rw [Int.toNat_of_nonneg hx.1,Int.toNat_of_nonneg hy.1,Bool.eq_iff_iff,decide_eq_true_iff,mem_common2 M Z,Bool.and_eq_true,decide_eq_true_iff,decide_eq_true_iff]
theorem triS_all(Z:GrOk nd es):sumN nd.toNat (triT nd.toNat (adjE nd es))=2*triS nd es:=by
 have h1:triS nd es=(es.map λp=>coN nd.toNat (adjE nd es) p.u.toNat p.v.toNat).sum:=by
  unfold triS
  congr 1
  refine List.map_congr_left λp hp=>?_
  have M:=Z.edge p hp
  exact common_co Z ⟨M.1,by omega⟩ ⟨by omega,M.2.2⟩ om
 rw [h1,sum_edges Z _ λx y=>coN_sym (adjE_ok Z) x y]
 unfold triT
 rw [sumN_swap]
 refine C6 _ λx _=>?_
 rw [sumN_swap]
 refine C6 _ λy _=>?_
 cases hxy:adjE nd es x y with
 |true=>
  rw [if_pos rfl]
  unfold coN
  rw [if_neg (λq=>by rw [q,(adjE_ok Z).irr] at hxy;cases hxy)]
  refine C6 _ λw _=>?_
  rw [Bool.true_and,(adjE_ok Z).sym w x,(adjE_ok Z).sym w y]
 |false=>rw [if_neg dc];exact Fi _ λw _=>by rw [Bool.false_and];rfl
theorem OneE.tri(h:OneE nd es es' u v):triS nd es'=triS nd es+3*((commonG nd es u v).length:Int)/\∀w:Nat,triW nd es' (w:Int)=triW nd es (w:Int)+(if (w:Int)∈commonG nd es u v then 1 else 0)+((if (w:Int)=u then ((commonG nd es u v).length:Int) else 0)+if (w:Int)=v then ((commonG nd es u v).length:Int) else 0):=by
 have Z:=h.ends
 unfold endsP at Z
 have aa:u≠v:=Z.2.2.2.2
 have hc:=common_co h.ok (x:=u) (y:=v) ⟨Z.1,Z.2.2.1⟩ ⟨Z.2.1,Z.2.2.2.1⟩ aa
 have h1:=h.adj.tri_all
 rw [triS_all h.ok,triS_all h.ok',←hc] at h1
 refine ⟨by omega,λw=>?_⟩
 have M:=h.adj.tri w
 rw [←triW_two h.ok,←triW_two h.ok',←hc] at M
 have h3:ind (adjE nd es u.toNat w&&adjE nd es v.toNat w)=if (w:Int)∈commonG nd es u v then 1 else 0:=by
  rw [←ind_d];congr 1
  unfold adjE
  rw [Int.toNat_of_nonneg Z.1,Int.toNat_of_nonneg Z.2.1,Bool.eq_iff_iff,Bool.and_eq_true,decide_eq_true_iff,decide_eq_true_iff,decide_eq_true_iff,mem_common2 h.ok aa]
 rw [h3] at M
 have e1:(w=u.toNat)↔((w:Int)=u):=by omega
 have e2:(w=v.toNat)↔((w:Int)=v):=by omega
 by_cases q1:(w:Int)=u
 ·rw [if_pos (e1.2 q1)] at M;rw [if_pos q1]
  by_cases q2:(w:Int)=v
  ·omega
  rw [if_neg (λq=>q2<|e2.1 q)] at M;rw [if_neg q2];omega
 rw [if_neg (λq=>q1<|e1.1 q)] at M;rw [if_neg q1]
 by_cases q2:(w:Int)=v
 ·rw [if_pos (e2.2 q2)] at M;rw [if_pos q2];omega
 rw [if_neg (λq=>q2<|e2.1 q)] at M;rw [if_neg q2];omega
end
end Go.Sl
