/- A part of the proofs of statements of this seat: contracts of functions, and the plain laws that they lean on. No conditions. -/
import Derived.Test.YtfkcohmipjhfcaaGreatDoorA7
set_option linter.unusedVariables false
set_option linter.unusedSimpArgs false
set_option linter.unusedSectionVars false
namespace Go.Sl
open Go.Proofs
set_option maxRecDepth 4000
set_option maxHeartbeats 1000000 in
theorem SetP_base{κ:Ctx}{I:List Item}{e:Ev}{a0:Option Addr}{c0:Nat}{xs:List Lk}(ha:xs.Pairwise Lk.lt)(hsz:xs.length≤1000000) :
    CallS Tryz.prog κ 256 [.slice a0 xs.length c0,.agg #[I64 (e.kd),I64 (e.tm),I64 (e.u),I64 (e.v),I64 (e.w),I64 (e.lb),I64 (e.sg)]] (vc 146 (.slice a0 xs.length c0) (xs)::I) (fun r J=>∃y:Option Addr×Nat×Value,(r = .tuple #[.slice y.1 (setL (lkOf e) xs).length y.2.1,y.2.2])∧J=[]++vc 146 (.slice y.1 (setL (lkOf e) xs).length y.2.1) (setL (lkOf e) xs)::I):=by
 refine Ce2 Tryz.func256 rfl rfl ?_
 refine Ah (Ge1 (Bb (cs:=[_,_,_,_,_,_,_]) rfl rfl rfl) fun b1=>Ga rfl (Ga rfl (Af (Ah (Gf fld108_2 rfl (Gl ty3 ?_))))))
 refine Gf fld108_3 rfl (Gl ty3 ?_)
 refine Gr (Runs.min rfl rfl) (Gf fld108_2 rfl (Gl ty3 ?_))
 refine Gf fld108_3 rfl (Gl ty3 ?_)
 refine Gr (Et rfl rfl) (Gf fld108_4 rfl (Gl ty3 ?_))
 refine Gf fld108_5 rfl (Gl ty3 ?_)
 refine Gf fld108_6 rfl (Gl ty3 ?_)
 refine Gf fld108_1 rfl (Gl ty3 ?_)
 refine Gr (Be (cells:=[_,_,_,_,_,_]) ty146 Tryz.underlying146 pl146 rfl rfl) (Ge1 (A5 ty146 rfl) fun b2=>Ge0 (Ej ty146) ?_)
 refine Af (As (S3 6 3 0 rfl rfl rfl) (Ah (Gm rfl (Gl6 ty146 ?_))))
 refine G.e (Am call302 rfl rfl (BSearchL Br (⟨if e.v<e.u then e.v else e.u,if e.u<e.v then e.v else e.u,e.w,e.lb,e.sg,e.tm⟩:Lk) OrderL_cmps om)) ?_
 rintro _ _ ⟨_,_,⟨i3,q4,rfl,hi3,rfl⟩,rfl,rfl⟩
 refine Gm rfl ?_
 have hile:=hi3.le
 refine Gr (Az rfl rfl) (Gr (Az rfl rfl) (Ga rfl (Ga rfl (Af (Ao (Ao (Bo mixed (Bu (blk b2 [I64 (if e.v<e.u then e.v else e.u),I64 (if e.u<e.v then e.v else e.u),I64 (e.w),I64 (e.lb),I64 (e.sg),I64 (e.tm)] 146::blk b1 [I64 (e.kd),I64 (e.tm),I64 (e.u),I64 (e.v),I64 (e.w),I64 (e.lb),I64 (e.sg)] 108::vc 146 (.slice a0 xs.length c0) (xs)::I) 9 (Dr 0 rfl (Ad rfl) (Dr 1 rfl (Ad rfl) (D.splitb (d:=35) rfl (fun g35=>?_) (fun g35=>?_))))))))))))
 ·have hil:=(setL_there hi3 ha g35).1
  refine Dro 2 rfl (Ad rfl) (Dro 3 rfl (Ad rfl) (Dro 4 rfl (A8 (α:=Lk) (xs:=xs) A3 ty146 rfl rfl Br om om) (Dro 5 rfl (B0 (α:=Lk) (xs:=xs) ty146 rfl Br om om) (Dro 6 rfl (Bm (vs:=[_,_,_,_,_,_]) ty146) ?_))))
  refine Dro 7 rfl (Runs.eqlT (α:=Lk) (a:=(at_ xs (i3:Int))) (b:=(⟨if e.v<e.u then e.v else e.u,if e.u<e.v then e.v else e.u,e.w,e.lb,e.sg,e.tm⟩:Lk)) eqt146 rfl rfl) (Dr 8 rfl (Ap rfl rfl) (Dz (Ai (As (S6 42 8 7 6 3 0 rfl rfl rfl rfl rfl rfl) (A9 rfl (fun c42=>?_) (fun c42=>?_))))))
  ·refine Ah (Gm rfl (Ga rfl (Ga rfl (Af (A2 (Al ?_))))))
   have hst:i3<xs.length∧(setL (lkOf e) xs)=xs.set i3 (lkOf e):=setL_there hi3 ha g35
   have hE:xs=(setL (lkOf e) xs):=by rw [hst.2];exact (set_self (n:=lkOf e) hst.1 c42).symm
   exact C9 rfl rfl rfl ([]++vc 146 (.slice a0 (setL (lkOf e) xs).length c0) (setL (lkOf e) xs)::I) (by rw [←hE];exact Ay) ⟨⟨a0,c0,.slice none 0 0⟩,by rw [←hE],rfl⟩
  ·refine A0 (Ai (Ao (Ah (Gm rfl (Gr (Cd rfl) (Af (W.cond rfl (fun c45=>?_) (fun c45=>?_))))))))
   ·rw [g35] at c45;exact absurd c45 dc
   ·refine Ah (Gm rfl (G.e (Am call216 rfl rfl (CloneL (xs:=xs) Br om)) ?_))
    rintro _ _ ⟨_,_,⟨ad5,cp6,rfl,rfl⟩,rfl,rfl⟩
    refine Ga rfl (Af (Aw (Gm rfl (Gm rfl (Gl6 ty146 ?_)))))
    refine Gr (A8 (α:=Lk) (xs:=xs) A3 ty146 rfl rfl Br om om) (Ge0 (Cy (α:=Lk) (xs:=xs) (e:=146) (new:=⟨if e.v<e.u then e.v else e.u,if e.u<e.v then e.v else e.u,e.w,e.lb,e.sg,e.tm⟩) ty146 rfl rfl rfl om om am) ?_)
    refine Af (As (S3 0 6 3 rfl rfl rfl) (Ao (Bo mixed (Bu (vc 146 (.slice ad5 xs.length cp6) (List.set xs ((i3:Int)).toNat (⟨if e.v<e.u then e.v else e.u,if e.u<e.v then e.v else e.u,e.w,e.lb,e.sg,e.tm⟩))::blk b2 [I64 (if e.v<e.u then e.v else e.u),I64 (if e.u<e.v then e.v else e.u),I64 (e.w),I64 (e.lb),I64 (e.sg),I64 (e.tm)] 146::vc 146 (.slice a0 xs.length c0) (xs)::I) 5 (Dr 0 rfl (Aa fld146_0 rfl) (Dr 1 rfl (Au ty3) ?_))))))
    refine Dr 4 rfl (Aa fld108_2 rfl) (De (rs:=[2,5]) kr rfl rfl (Eb ?_ (Du ?_)))
    ·refine Sr rfl (Aa fld146_1 rfl) Ay ?_
     refine De (rs:=[3,5]) kr rfl rfl (Eb ?_ (Du ?_))
     ·refine Sr rfl (Au ty3) Ay ?_
      refine C4 kr ?_
      refine Ae 5 rfl (Dx ty3) ?_
      rintro _ _ ⟨rfl,rfl⟩
      refine E3 (i:=6) kr rfl (Bg rfl) rfl rfl (Aa fld108_3 rfl) ?_
      refine Ae 7 rfl (Dx ty3) ?_
      rintro _ _ ⟨rfl,rfl⟩
      refine C5 kr ?_
      refine Ai (Ao (Bo mixed (Bu (vc 146 (.slice ad5 xs.length cp6) (List.set xs ((i3:Int)).toNat (⟨if e.v<e.u then e.v else e.u,if e.u<e.v then e.v else e.u,e.w,e.lb,e.sg,e.tm⟩))::blk b2 [I64 (if e.v<e.u then e.v else e.u),I64 (if e.u<e.v then e.v else e.u),I64 (e.w),I64 (e.lb),I64 (e.sg),I64 (e.tm)] 146::blk b1 [I64 (e.kd),I64 (e.tm),I64 (if e.v<e.u then e.v else e.u),I64 (if e.u<e.v then e.v else e.u),I64 (e.w),I64 (e.lb),I64 (e.sg)] 108::vc 146 (.slice a0 xs.length c0) (xs)::I) 5 (Dr 0 rfl (Ad rfl) (Dr 1 rfl (Bm (vs:=[_,_,_,_,_,_,_]) ty108) ?_)))))
      refine Dr 3 rfl (Bd rfl) (Ds1 2 (Se1 rfl (B9 (α:=Ev) (cs:=[I64 (e.kd),I64 (e.tm),I64 (if e.v<e.u then e.v else e.u),I64 (if e.u<e.v then e.v else e.u),I64 (e.w),I64 (e.lb),I64 (e.sg)]) (xs:=[⟨e.kd,e.tm,if e.v<e.u then e.v else e.u,if e.u<e.v then e.v else e.u,e.w,e.lb,e.sg⟩]) Ba ty108 rfl rfl dc dc rfl kr rfl rfl) fun ad7=>?_))
      refine Dr 4 rfl (Bd rfl) (Dz (Ai (As (S2 5 4 rfl rfl) (A2 ?_))))
      have hE:List.set xs ((i3:Int)).toNat (⟨if e.v<e.u then e.v else e.u,if e.u<e.v then e.v else e.u,e.w,e.lb,e.sg,e.tm⟩)=(setL (lkOf e) xs):=(setL_there hi3 ha g35).2.symm
      have hEl:(setL (lkOf e) xs).length=xs.length:=by rw [←hE,List.length_set]
      exact C9 rfl rfl rfl ([]++vc 146 (.slice ad5 (setL (lkOf e) xs).length cp6) (setL (lkOf e) xs)::I) (by rw [hEl,←hE];exact Ay) ⟨⟨ad5,cp6,.slice ad7 1 1⟩,by rw [hEl],rfl⟩
     ·refine Se0 rfl (Dx ty3) ?_
      refine Ds1 3 (Sr rfl (Au ty3) Ay ?_)
      refine Ds1 6 (Sr rfl (Aa fld108_3 rfl) Ay ?_)
      refine Ds1 7 (Se0 rfl (Dx ty3) ?_)
      refine Dz (Ai (Ao (Bo mixed (Bu (vc 146 (.slice ad5 xs.length cp6) (List.set xs ((i3:Int)).toNat (⟨if e.v<e.u then e.v else e.u,if e.u<e.v then e.v else e.u,e.w,e.lb,e.sg,e.tm⟩))::blk b2 [I64 (if e.v<e.u then e.v else e.u),I64 (if e.u<e.v then e.v else e.u),I64 (e.w),I64 (e.lb),I64 (e.sg),I64 (e.tm)] 146::blk b1 [I64 (e.kd),I64 (e.tm),I64 (if e.v<e.u then e.v else e.u),I64 (if e.u<e.v then e.v else e.u),I64 (e.w),I64 (e.lb),I64 (e.sg)] 108::vc 146 (.slice a0 xs.length c0) (xs)::I) 5 (Dr 0 rfl (Ad rfl) (Dr 1 rfl (Bm (vs:=[_,_,_,_,_,_,_]) ty108) ?_))))))
      refine Dr 3 rfl (Bd rfl) (Ds1 2 (Se1 rfl (B9 (α:=Ev) (cs:=[I64 (e.kd),I64 (e.tm),I64 (if e.v<e.u then e.v else e.u),I64 (if e.u<e.v then e.v else e.u),I64 (e.w),I64 (e.lb),I64 (e.sg)]) (xs:=[⟨e.kd,e.tm,if e.v<e.u then e.v else e.u,if e.u<e.v then e.v else e.u,e.w,e.lb,e.sg⟩]) Ba ty108 rfl rfl dc dc rfl kr rfl rfl) fun ad8=>?_))
      refine Dr 4 rfl (Bd rfl) (Dz (Ai (As (S2 5 4 rfl rfl) (A2 ?_))))
      have hE:List.set xs ((i3:Int)).toNat (⟨if e.v<e.u then e.v else e.u,if e.u<e.v then e.v else e.u,e.w,e.lb,e.sg,e.tm⟩)=(setL (lkOf e) xs):=(setL_there hi3 ha g35).2.symm
      have hEl:(setL (lkOf e) xs).length=xs.length:=by rw [←hE,List.length_set]
      exact C9 rfl rfl rfl ([]++vc 146 (.slice ad5 (setL (lkOf e) xs).length cp6) (setL (lkOf e) xs)::I) (by rw [hEl,←hE];exact Ay) ⟨⟨ad5,cp6,.slice ad8 1 1⟩,by rw [hEl],rfl⟩
    ·refine Se0 rfl (Dx ty3) ?_
     refine Ds1 2 (Sr rfl (Aa fld146_1 rfl) Ay ?_)
     refine Ds1 3 (Sr rfl (Au ty3) Ay ?_)
     refine Ds1 6 (Sr rfl (Aa fld108_3 rfl) Ay ?_)
     refine Ds1 7 (Se0 rfl (Dx ty3) ?_)
     refine Dz (Ai (Ao (Bo mixed (Bu (vc 146 (.slice ad5 xs.length cp6) (List.set xs ((i3:Int)).toNat (⟨if e.v<e.u then e.v else e.u,if e.u<e.v then e.v else e.u,e.w,e.lb,e.sg,e.tm⟩))::blk b2 [I64 (if e.v<e.u then e.v else e.u),I64 (if e.u<e.v then e.v else e.u),I64 (e.w),I64 (e.lb),I64 (e.sg),I64 (e.tm)] 146::blk b1 [I64 (e.kd),I64 (e.tm),I64 (if e.v<e.u then e.v else e.u),I64 (if e.u<e.v then e.v else e.u),I64 (e.w),I64 (e.lb),I64 (e.sg)] 108::vc 146 (.slice a0 xs.length c0) (xs)::I) 5 (Dr 0 rfl (Ad rfl) (Dr 1 rfl (Bm (vs:=[_,_,_,_,_,_,_]) ty108) ?_))))))
     refine Dr 3 rfl (Bd rfl) (Ds1 2 (Se1 rfl (B9 (α:=Ev) (cs:=[I64 (e.kd),I64 (e.tm),I64 (if e.v<e.u then e.v else e.u),I64 (if e.u<e.v then e.v else e.u),I64 (e.w),I64 (e.lb),I64 (e.sg)]) (xs:=[⟨e.kd,e.tm,if e.v<e.u then e.v else e.u,if e.u<e.v then e.v else e.u,e.w,e.lb,e.sg⟩]) Ba ty108 rfl rfl dc dc rfl kr rfl rfl) fun ad9=>?_))
     refine Dr 4 rfl (Bd rfl) (Dz (Ai (As (S2 5 4 rfl rfl) (A2 ?_))))
     have hE:List.set xs ((i3:Int)).toNat (⟨if e.v<e.u then e.v else e.u,if e.u<e.v then e.v else e.u,e.w,e.lb,e.sg,e.tm⟩)=(setL (lkOf e) xs):=(setL_there hi3 ha g35).2.symm
     have hEl:(setL (lkOf e) xs).length=xs.length:=by rw [←hE,List.length_set]
     exact C9 rfl rfl rfl ([]++vc 146 (.slice ad5 (setL (lkOf e) xs).length cp6) (setL (lkOf e) xs)::I) (by rw [hEl,←hE];exact Ay) ⟨⟨ad5,cp6,.slice ad9 1 1⟩,by rw [hEl],rfl⟩
 ·refine Dpo 2 rfl (Dpo 3 rfl (Dpo 4 rfl (Dpo 5 rfl (Dpo 6 rfl (Dpo 7 rfl (Dr 8 rfl (Av rfl rfl) (Dz (Ai (As (S6 42 8 7 6 3 0 rfl rfl rfl rfl rfl rfl) (Cx rfl (A0 (Ai (Ao (Ah (Gm rfl (Gr (Cd rfl) (Af (W.cond rfl (fun c45=>?_) (fun c45=>?_)))))))))))))))))))
  ·refine Bo mixed (Bu (blk b2 [I64 (if e.v<e.u then e.v else e.u),I64 (if e.u<e.v then e.v else e.u),I64 (e.w),I64 (e.lb),I64 (e.sg),I64 (e.tm)] 146::blk b1 [I64 (e.kd),I64 (e.tm),I64 (e.u),I64 (e.v),I64 (e.w),I64 (e.lb),I64 (e.sg)] 108::vc 146 (.slice a0 xs.length c0) (xs)::I) 7 (Dr 0 rfl (Ad rfl) (Dr 2 rfl (Ad rfl) (Dr 3 rfl (Bm (vs:=[_,_,_,_,_,_]) ty146) ?_))))
   refine De (rs:=[1,4]) kr rfl rfl (Eb ?_ (Du ?_))
   ·refine Se rfl (Am call216 rfl rfl (CloneL (xs:=xs) Br om)) ?_
    rintro _ _ ⟨_,_,⟨ad10,cp11,rfl,rfl⟩,rfl,rfl⟩
    refine ⟨Ay,?_⟩
    refine Ds1 4 (Se1 rfl (B9 (α:=Lk) (cs:=[I64 (if e.v<e.u then e.v else e.u),I64 (if e.u<e.v then e.v else e.u),I64 (e.w),I64 (e.lb),I64 (e.sg),I64 (e.tm)]) (xs:=[⟨if e.v<e.u then e.v else e.u,if e.u<e.v then e.v else e.u,e.w,e.lb,e.sg,e.tm⟩]) A3 ty146 rfl rfl dc dc rfl kr rfl rfl) fun ad12=>?_)
    refine Ds1 5 (Sc2 rfl (Am call303 rfl rfl (InsertL_two (i:=i3) (xs:=xs) (ys:=([⟨if e.v<e.u then e.v else e.u,if e.u<e.v then e.v else e.u,e.w,e.lb,e.sg,e.tm⟩]:List Lk)) (show Fit κ _ (vc 146 (.slice ad10 xs.length cp11) (xs)::vc 146 (.slice ad12 1 1) (([⟨if e.v<e.u then e.v else e.u,if e.u<e.v then e.v else e.u,e.w,e.lb,e.sg,e.tm⟩]:List Lk))::blk b2 [I64 (if e.v<e.u then e.v else e.u),I64 (if e.u<e.v then e.v else e.u),I64 (e.w),I64 (e.lb),I64 (e.sg),I64 (e.tm)] 146::blk b1 [I64 (e.kd),I64 (e.tm),I64 (e.u),I64 (e.v),I64 (e.w),I64 (e.lb),I64 (e.sg)] 108::vc 146 (.slice a0 xs.length c0) (xs)::I) from B7) rfl rfl om (by simp only [List.length_cons];omega) lcn)) fun ad13 cp14=>?_)
    show D Tryz.prog κ _ _ _ _ _ _ _ ([(51,.slice ad13 (List.take i3 xs++([⟨if e.v<e.u then e.v else e.u,if e.u<e.v then e.v else e.u,e.w,e.lb,e.sg,e.tm⟩]:List Lk)++List.drop i3 xs).length cp14),(50,.slice ad12 1 1),(47,.slice ad10 xs.length cp11),(49,.agg #[I64 (if e.v<e.u then e.v else e.u),I64 (if e.u<e.v then e.v else e.u),I64 (e.w),I64 (e.lb),I64 (e.sg),I64 (e.tm)]),(48,I64 ((i3:Int))),(46,.slice a0 xs.length c0),(45,.bool (!q4)),(44,.bool (q4)),(42,.bool false),(8,.bool (q4)),(7,I64 ((i3:Int))),(6,.pointer (some ⟨b2,0,none⟩)),(3,.pointer (some ⟨b1,0,none⟩)),(0,.slice a0 xs.length c0)]:Env) (vc 146 (.slice ad13 (List.take i3 xs++([⟨if e.v<e.u then e.v else e.u,if e.u<e.v then e.v else e.u,e.w,e.lb,e.sg,e.tm⟩]:List Lk)++List.drop i3 xs).length cp14) (List.take i3 xs++([⟨if e.v<e.u then e.v else e.u,if e.u<e.v then e.v else e.u,e.w,e.lb,e.sg,e.tm⟩]:List Lk)++List.drop i3 xs)::blk b2 [I64 (if e.v<e.u then e.v else e.u),I64 (if e.u<e.v then e.v else e.u),I64 (e.w),I64 (e.lb),I64 (e.sg),I64 (e.tm)] 146::blk b1 [I64 (e.kd),I64 (e.tm),I64 (e.u),I64 (e.v),I64 (e.w),I64 (e.lb),I64 (e.sg)] 108::vc 146 (.slice a0 xs.length c0) (xs)::I)
    refine Dr 6 rfl (Bd rfl) (Dz (Ai (As (S3 0 6 3 rfl rfl rfl) (Ao (Bo mixed (Bu (vc 146 (.slice ad13 (List.take i3 xs++([⟨if e.v<e.u then e.v else e.u,if e.u<e.v then e.v else e.u,e.w,e.lb,e.sg,e.tm⟩]:List Lk)++List.drop i3 xs).length cp14) (List.take i3 xs++([⟨if e.v<e.u then e.v else e.u,if e.u<e.v then e.v else e.u,e.w,e.lb,e.sg,e.tm⟩]:List Lk)++List.drop i3 xs)::blk b2 [I64 (if e.v<e.u then e.v else e.u),I64 (if e.u<e.v then e.v else e.u),I64 (e.w),I64 (e.lb),I64 (e.sg),I64 (e.tm)] 146::vc 146 (.slice a0 xs.length c0) (xs)::I) 5 (Dr 0 rfl (Aa fld146_0 rfl) (Dr 1 rfl (Au ty3) ?_))))))))
    refine Dr 4 rfl (Aa fld108_2 rfl) (De (rs:=[2,5]) kr rfl rfl (Eb ?_ (Du ?_)))
    ·refine Sr rfl (Aa fld146_1 rfl) Ay ?_
     refine De (rs:=[3,5]) kr rfl rfl (Eb ?_ (Du ?_))
     ·refine Sr rfl (Au ty3) Ay ?_
      refine C4 kr ?_
      refine Ae 5 rfl (Dx ty3) ?_
      rintro _ _ ⟨rfl,rfl⟩
      refine E3 (i:=6) kr rfl (Bg rfl) rfl rfl (Aa fld108_3 rfl) ?_
      refine Ae 7 rfl (Dx ty3) ?_
      rintro _ _ ⟨rfl,rfl⟩
      refine C5 kr ?_
      refine Ai (Ao (Bo mixed (Bu (vc 146 (.slice ad13 (List.take i3 xs++([⟨if e.v<e.u then e.v else e.u,if e.u<e.v then e.v else e.u,e.w,e.lb,e.sg,e.tm⟩]:List Lk)++List.drop i3 xs).length cp14) (List.take i3 xs++([⟨if e.v<e.u then e.v else e.u,if e.u<e.v then e.v else e.u,e.w,e.lb,e.sg,e.tm⟩]:List Lk)++List.drop i3 xs)::blk b2 [I64 (if e.v<e.u then e.v else e.u),I64 (if e.u<e.v then e.v else e.u),I64 (e.w),I64 (e.lb),I64 (e.sg),I64 (e.tm)] 146::blk b1 [I64 (e.kd),I64 (e.tm),I64 (if e.v<e.u then e.v else e.u),I64 (if e.u<e.v then e.v else e.u),I64 (e.w),I64 (e.lb),I64 (e.sg)] 108::vc 146 (.slice a0 xs.length c0) (xs)::I) 5 (Dr 0 rfl (Ad rfl) (Dr 1 rfl (Bm (vs:=[_,_,_,_,_,_,_]) ty108) ?_)))))
      refine Dr 3 rfl (Bd rfl) (Ds1 2 (Se1 rfl (B9 (α:=Ev) (cs:=[I64 (e.kd),I64 (e.tm),I64 (if e.v<e.u then e.v else e.u),I64 (if e.u<e.v then e.v else e.u),I64 (e.w),I64 (e.lb),I64 (e.sg)]) (xs:=[⟨e.kd,e.tm,if e.v<e.u then e.v else e.u,if e.u<e.v then e.v else e.u,e.w,e.lb,e.sg⟩]) Ba ty108 rfl rfl dc dc rfl kr rfl rfl) fun ad15=>?_))
      refine Dr 4 rfl (Bd rfl) (Dz (Ai (As (S2 5 4 rfl rfl) (A2 ?_))))
      have hE:List.take i3 xs++([⟨if e.v<e.u then e.v else e.u,if e.u<e.v then e.v else e.u,e.w,e.lb,e.sg,e.tm⟩]:List Lk)++List.drop i3 xs=(setL (lkOf e) xs):=(setL_new hi3 ha g35).symm
      exact C9 rfl rfl rfl ([]++vc 146 (.slice ad13 (setL (lkOf e) xs).length cp14) (setL (lkOf e) xs)::I) (by rw [←hE];exact Ay) ⟨⟨ad13,cp14,.slice ad15 1 1⟩,by rw [←hE],rfl⟩
     ·refine Se0 rfl (Dx ty3) ?_
      refine Ds1 3 (Sr rfl (Au ty3) Ay ?_)
      refine Ds1 6 (Sr rfl (Aa fld108_3 rfl) Ay ?_)
      refine Ds1 7 (Se0 rfl (Dx ty3) ?_)
      refine Dz (Ai (Ao (Bo mixed (Bu (vc 146 (.slice ad13 (List.take i3 xs++([⟨if e.v<e.u then e.v else e.u,if e.u<e.v then e.v else e.u,e.w,e.lb,e.sg,e.tm⟩]:List Lk)++List.drop i3 xs).length cp14) (List.take i3 xs++([⟨if e.v<e.u then e.v else e.u,if e.u<e.v then e.v else e.u,e.w,e.lb,e.sg,e.tm⟩]:List Lk)++List.drop i3 xs)::blk b2 [I64 (if e.v<e.u then e.v else e.u),I64 (if e.u<e.v then e.v else e.u),I64 (e.w),I64 (e.lb),I64 (e.sg),I64 (e.tm)] 146::blk b1 [I64 (e.kd),I64 (e.tm),I64 (if e.v<e.u then e.v else e.u),I64 (if e.u<e.v then e.v else e.u),I64 (e.w),I64 (e.lb),I64 (e.sg)] 108::vc 146 (.slice a0 xs.length c0) (xs)::I) 5 (Dr 0 rfl (Ad rfl) (Dr 1 rfl (Bm (vs:=[_,_,_,_,_,_,_]) ty108) ?_))))))
      refine Dr 3 rfl (Bd rfl) (Ds1 2 (Se1 rfl (B9 (α:=Ev) (cs:=[I64 (e.kd),I64 (e.tm),I64 (if e.v<e.u then e.v else e.u),I64 (if e.u<e.v then e.v else e.u),I64 (e.w),I64 (e.lb),I64 (e.sg)]) (xs:=[⟨e.kd,e.tm,if e.v<e.u then e.v else e.u,if e.u<e.v then e.v else e.u,e.w,e.lb,e.sg⟩]) Ba ty108 rfl rfl dc dc rfl kr rfl rfl) fun ad16=>?_))
      refine Dr 4 rfl (Bd rfl) (Dz (Ai (As (S2 5 4 rfl rfl) (A2 ?_))))
      have hE:List.take i3 xs++([⟨if e.v<e.u then e.v else e.u,if e.u<e.v then e.v else e.u,e.w,e.lb,e.sg,e.tm⟩]:List Lk)++List.drop i3 xs=(setL (lkOf e) xs):=(setL_new hi3 ha g35).symm
      exact C9 rfl rfl rfl ([]++vc 146 (.slice ad13 (setL (lkOf e) xs).length cp14) (setL (lkOf e) xs)::I) (by rw [←hE];exact Ay) ⟨⟨ad13,cp14,.slice ad16 1 1⟩,by rw [←hE],rfl⟩
    ·refine Se0 rfl (Dx ty3) ?_
     refine Ds1 2 (Sr rfl (Aa fld146_1 rfl) Ay ?_)
     refine Ds1 3 (Sr rfl (Au ty3) Ay ?_)
     refine Ds1 6 (Sr rfl (Aa fld108_3 rfl) Ay ?_)
     refine Ds1 7 (Se0 rfl (Dx ty3) ?_)
     refine Dz (Ai (Ao (Bo mixed (Bu (vc 146 (.slice ad13 (List.take i3 xs++([⟨if e.v<e.u then e.v else e.u,if e.u<e.v then e.v else e.u,e.w,e.lb,e.sg,e.tm⟩]:List Lk)++List.drop i3 xs).length cp14) (List.take i3 xs++([⟨if e.v<e.u then e.v else e.u,if e.u<e.v then e.v else e.u,e.w,e.lb,e.sg,e.tm⟩]:List Lk)++List.drop i3 xs)::blk b2 [I64 (if e.v<e.u then e.v else e.u),I64 (if e.u<e.v then e.v else e.u),I64 (e.w),I64 (e.lb),I64 (e.sg),I64 (e.tm)] 146::blk b1 [I64 (e.kd),I64 (e.tm),I64 (if e.v<e.u then e.v else e.u),I64 (if e.u<e.v then e.v else e.u),I64 (e.w),I64 (e.lb),I64 (e.sg)] 108::vc 146 (.slice a0 xs.length c0) (xs)::I) 5 (Dr 0 rfl (Ad rfl) (Dr 1 rfl (Bm (vs:=[_,_,_,_,_,_,_]) ty108) ?_))))))
     refine Dr 3 rfl (Bd rfl) (Ds1 2 (Se1 rfl (B9 (α:=Ev) (cs:=[I64 (e.kd),I64 (e.tm),I64 (if e.v<e.u then e.v else e.u),I64 (if e.u<e.v then e.v else e.u),I64 (e.w),I64 (e.lb),I64 (e.sg)]) (xs:=[⟨e.kd,e.tm,if e.v<e.u then e.v else e.u,if e.u<e.v then e.v else e.u,e.w,e.lb,e.sg⟩]) Ba ty108 rfl rfl dc dc rfl kr rfl rfl) fun ad17=>?_))
     refine Dr 4 rfl (Bd rfl) (Dz (Ai (As (S2 5 4 rfl rfl) (A2 ?_))))
     have hE:List.take i3 xs++([⟨if e.v<e.u then e.v else e.u,if e.u<e.v then e.v else e.u,e.w,e.lb,e.sg,e.tm⟩]:List Lk)++List.drop i3 xs=(setL (lkOf e) xs):=(setL_new hi3 ha g35).symm
     exact C9 rfl rfl rfl ([]++vc 146 (.slice ad13 (setL (lkOf e) xs).length cp14) (setL (lkOf e) xs)::I) (by rw [←hE];exact Ay) ⟨⟨ad13,cp14,.slice ad17 1 1⟩,by rw [←hE],rfl⟩
   ·refine Se1 rfl (B9 (α:=Lk) (cs:=[I64 (if e.v<e.u then e.v else e.u),I64 (if e.u<e.v then e.v else e.u),I64 (e.w),I64 (e.lb),I64 (e.sg),I64 (e.tm)]) (xs:=[⟨if e.v<e.u then e.v else e.u,if e.u<e.v then e.v else e.u,e.w,e.lb,e.sg,e.tm⟩]) A3 ty146 rfl rfl dc dc rfl kr rfl rfl) fun ad18=>?_
    refine Ds1 1 (Se rfl (Am call216 rfl rfl (CloneL (xs:=xs) Br om)) ?_)
    rintro _ _ ⟨_,_,⟨ad19,cp20,rfl,rfl⟩,rfl,rfl⟩
    refine ⟨Ay,?_⟩
    refine Ds1 5 (Sc2 rfl (Am call303 rfl rfl (InsertL_two (i:=i3) (xs:=xs) (ys:=([⟨if e.v<e.u then e.v else e.u,if e.u<e.v then e.v else e.u,e.w,e.lb,e.sg,e.tm⟩]:List Lk)) (show Fit κ _ (vc 146 (.slice ad19 xs.length cp20) (xs)::vc 146 (.slice ad18 1 1) (([⟨if e.v<e.u then e.v else e.u,if e.u<e.v then e.v else e.u,e.w,e.lb,e.sg,e.tm⟩]:List Lk))::blk b2 [I64 (if e.v<e.u then e.v else e.u),I64 (if e.u<e.v then e.v else e.u),I64 (e.w),I64 (e.lb),I64 (e.sg),I64 (e.tm)] 146::blk b1 [I64 (e.kd),I64 (e.tm),I64 (e.u),I64 (e.v),I64 (e.w),I64 (e.lb),I64 (e.sg)] 108::vc 146 (.slice a0 xs.length c0) (xs)::I) from B7) rfl rfl om (by simp only [List.length_cons];omega) lcn)) fun ad21 cp22=>?_)
    show D Tryz.prog κ _ _ _ _ _ _ _ ([(51,.slice ad21 (List.take i3 xs++([⟨if e.v<e.u then e.v else e.u,if e.u<e.v then e.v else e.u,e.w,e.lb,e.sg,e.tm⟩]:List Lk)++List.drop i3 xs).length cp22),(47,.slice ad19 xs.length cp20),(50,.slice ad18 1 1),(49,.agg #[I64 (if e.v<e.u then e.v else e.u),I64 (if e.u<e.v then e.v else e.u),I64 (e.w),I64 (e.lb),I64 (e.sg),I64 (e.tm)]),(48,I64 ((i3:Int))),(46,.slice a0 xs.length c0),(45,.bool (!q4)),(44,.bool (q4)),(42,.bool false),(8,.bool (q4)),(7,I64 ((i3:Int))),(6,.pointer (some ⟨b2,0,none⟩)),(3,.pointer (some ⟨b1,0,none⟩)),(0,.slice a0 xs.length c0)]:Env) (vc 146 (.slice ad21 (List.take i3 xs++([⟨if e.v<e.u then e.v else e.u,if e.u<e.v then e.v else e.u,e.w,e.lb,e.sg,e.tm⟩]:List Lk)++List.drop i3 xs).length cp22) (List.take i3 xs++([⟨if e.v<e.u then e.v else e.u,if e.u<e.v then e.v else e.u,e.w,e.lb,e.sg,e.tm⟩]:List Lk)++List.drop i3 xs)::blk b2 [I64 (if e.v<e.u then e.v else e.u),I64 (if e.u<e.v then e.v else e.u),I64 (e.w),I64 (e.lb),I64 (e.sg),I64 (e.tm)] 146::blk b1 [I64 (e.kd),I64 (e.tm),I64 (e.u),I64 (e.v),I64 (e.w),I64 (e.lb),I64 (e.sg)] 108::vc 146 (.slice a0 xs.length c0) (xs)::I)
    refine Dr 6 rfl (Bd rfl) (Dz (Ai (As (S3 0 6 3 rfl rfl rfl) (Ao (Bo mixed (Bu (vc 146 (.slice ad21 (List.take i3 xs++([⟨if e.v<e.u then e.v else e.u,if e.u<e.v then e.v else e.u,e.w,e.lb,e.sg,e.tm⟩]:List Lk)++List.drop i3 xs).length cp22) (List.take i3 xs++([⟨if e.v<e.u then e.v else e.u,if e.u<e.v then e.v else e.u,e.w,e.lb,e.sg,e.tm⟩]:List Lk)++List.drop i3 xs)::blk b2 [I64 (if e.v<e.u then e.v else e.u),I64 (if e.u<e.v then e.v else e.u),I64 (e.w),I64 (e.lb),I64 (e.sg),I64 (e.tm)] 146::vc 146 (.slice a0 xs.length c0) (xs)::I) 5 (Dr 0 rfl (Aa fld146_0 rfl) (Dr 1 rfl (Au ty3) ?_))))))))
    refine Dr 4 rfl (Aa fld108_2 rfl) (De (rs:=[2,5]) kr rfl rfl (Eb ?_ (Du ?_)))
    ·refine Sr rfl (Aa fld146_1 rfl) Ay ?_
     refine De (rs:=[3,5]) kr rfl rfl (Eb ?_ (Du ?_))
     ·refine Sr rfl (Au ty3) Ay ?_
      refine C4 kr ?_
      refine Ae 5 rfl (Dx ty3) ?_
      rintro _ _ ⟨rfl,rfl⟩
      refine E3 (i:=6) kr rfl (Bg rfl) rfl rfl (Aa fld108_3 rfl) ?_
      refine Ae 7 rfl (Dx ty3) ?_
      rintro _ _ ⟨rfl,rfl⟩
      refine C5 kr ?_
      refine Ai (Ao (Bo mixed (Bu (vc 146 (.slice ad21 (List.take i3 xs++([⟨if e.v<e.u then e.v else e.u,if e.u<e.v then e.v else e.u,e.w,e.lb,e.sg,e.tm⟩]:List Lk)++List.drop i3 xs).length cp22) (List.take i3 xs++([⟨if e.v<e.u then e.v else e.u,if e.u<e.v then e.v else e.u,e.w,e.lb,e.sg,e.tm⟩]:List Lk)++List.drop i3 xs)::blk b2 [I64 (if e.v<e.u then e.v else e.u),I64 (if e.u<e.v then e.v else e.u),I64 (e.w),I64 (e.lb),I64 (e.sg),I64 (e.tm)] 146::blk b1 [I64 (e.kd),I64 (e.tm),I64 (if e.v<e.u then e.v else e.u),I64 (if e.u<e.v then e.v else e.u),I64 (e.w),I64 (e.lb),I64 (e.sg)] 108::vc 146 (.slice a0 xs.length c0) (xs)::I) 5 (Dr 0 rfl (Ad rfl) (Dr 1 rfl (Bm (vs:=[_,_,_,_,_,_,_]) ty108) ?_)))))
      refine Dr 3 rfl (Bd rfl) (Ds1 2 (Se1 rfl (B9 (α:=Ev) (cs:=[I64 (e.kd),I64 (e.tm),I64 (if e.v<e.u then e.v else e.u),I64 (if e.u<e.v then e.v else e.u),I64 (e.w),I64 (e.lb),I64 (e.sg)]) (xs:=[⟨e.kd,e.tm,if e.v<e.u then e.v else e.u,if e.u<e.v then e.v else e.u,e.w,e.lb,e.sg⟩]) Ba ty108 rfl rfl dc dc rfl kr rfl rfl) fun ad23=>?_))
      refine Dr 4 rfl (Bd rfl) (Dz (Ai (As (S2 5 4 rfl rfl) (A2 ?_))))
      have hE:List.take i3 xs++([⟨if e.v<e.u then e.v else e.u,if e.u<e.v then e.v else e.u,e.w,e.lb,e.sg,e.tm⟩]:List Lk)++List.drop i3 xs=(setL (lkOf e) xs):=(setL_new hi3 ha g35).symm
      exact C9 rfl rfl rfl ([]++vc 146 (.slice ad21 (setL (lkOf e) xs).length cp22) (setL (lkOf e) xs)::I) (by rw [←hE];exact Ay) ⟨⟨ad21,cp22,.slice ad23 1 1⟩,by rw [←hE],rfl⟩
     ·refine Se0 rfl (Dx ty3) ?_
      refine Ds1 3 (Sr rfl (Au ty3) Ay ?_)
      refine Ds1 6 (Sr rfl (Aa fld108_3 rfl) Ay ?_)
      refine Ds1 7 (Se0 rfl (Dx ty3) ?_)
      refine Dz (Ai (Ao (Bo mixed (Bu (vc 146 (.slice ad21 (List.take i3 xs++([⟨if e.v<e.u then e.v else e.u,if e.u<e.v then e.v else e.u,e.w,e.lb,e.sg,e.tm⟩]:List Lk)++List.drop i3 xs).length cp22) (List.take i3 xs++([⟨if e.v<e.u then e.v else e.u,if e.u<e.v then e.v else e.u,e.w,e.lb,e.sg,e.tm⟩]:List Lk)++List.drop i3 xs)::blk b2 [I64 (if e.v<e.u then e.v else e.u),I64 (if e.u<e.v then e.v else e.u),I64 (e.w),I64 (e.lb),I64 (e.sg),I64 (e.tm)] 146::blk b1 [I64 (e.kd),I64 (e.tm),I64 (if e.v<e.u then e.v else e.u),I64 (if e.u<e.v then e.v else e.u),I64 (e.w),I64 (e.lb),I64 (e.sg)] 108::vc 146 (.slice a0 xs.length c0) (xs)::I) 5 (Dr 0 rfl (Ad rfl) (Dr 1 rfl (Bm (vs:=[_,_,_,_,_,_,_]) ty108) ?_))))))
      refine Dr 3 rfl (Bd rfl) (Ds1 2 (Se1 rfl (B9 (α:=Ev) (cs:=[I64 (e.kd),I64 (e.tm),I64 (if e.v<e.u then e.v else e.u),I64 (if e.u<e.v then e.v else e.u),I64 (e.w),I64 (e.lb),I64 (e.sg)]) (xs:=[⟨e.kd,e.tm,if e.v<e.u then e.v else e.u,if e.u<e.v then e.v else e.u,e.w,e.lb,e.sg⟩]) Ba ty108 rfl rfl dc dc rfl kr rfl rfl) fun ad24=>?_))
      refine Dr 4 rfl (Bd rfl) (Dz (Ai (As (S2 5 4 rfl rfl) (A2 ?_))))
      have hE:List.take i3 xs++([⟨if e.v<e.u then e.v else e.u,if e.u<e.v then e.v else e.u,e.w,e.lb,e.sg,e.tm⟩]:List Lk)++List.drop i3 xs=(setL (lkOf e) xs):=(setL_new hi3 ha g35).symm
      exact C9 rfl rfl rfl ([]++vc 146 (.slice ad21 (setL (lkOf e) xs).length cp22) (setL (lkOf e) xs)::I) (by rw [←hE];exact Ay) ⟨⟨ad21,cp22,.slice ad24 1 1⟩,by rw [←hE],rfl⟩
    ·refine Se0 rfl (Dx ty3) ?_
     refine Ds1 2 (Sr rfl (Aa fld146_1 rfl) Ay ?_)
     refine Ds1 3 (Sr rfl (Au ty3) Ay ?_)
     refine Ds1 6 (Sr rfl (Aa fld108_3 rfl) Ay ?_)
     refine Ds1 7 (Se0 rfl (Dx ty3) ?_)
     refine Dz (Ai (Ao (Bo mixed (Bu (vc 146 (.slice ad21 (List.take i3 xs++([⟨if e.v<e.u then e.v else e.u,if e.u<e.v then e.v else e.u,e.w,e.lb,e.sg,e.tm⟩]:List Lk)++List.drop i3 xs).length cp22) (List.take i3 xs++([⟨if e.v<e.u then e.v else e.u,if e.u<e.v then e.v else e.u,e.w,e.lb,e.sg,e.tm⟩]:List Lk)++List.drop i3 xs)::blk b2 [I64 (if e.v<e.u then e.v else e.u),I64 (if e.u<e.v then e.v else e.u),I64 (e.w),I64 (e.lb),I64 (e.sg),I64 (e.tm)] 146::blk b1 [I64 (e.kd),I64 (e.tm),I64 (if e.v<e.u then e.v else e.u),I64 (if e.u<e.v then e.v else e.u),I64 (e.w),I64 (e.lb),I64 (e.sg)] 108::vc 146 (.slice a0 xs.length c0) (xs)::I) 5 (Dr 0 rfl (Ad rfl) (Dr 1 rfl (Bm (vs:=[_,_,_,_,_,_,_]) ty108) ?_))))))
     refine Dr 3 rfl (Bd rfl) (Ds1 2 (Se1 rfl (B9 (α:=Ev) (cs:=[I64 (e.kd),I64 (e.tm),I64 (if e.v<e.u then e.v else e.u),I64 (if e.u<e.v then e.v else e.u),I64 (e.w),I64 (e.lb),I64 (e.sg)]) (xs:=[⟨e.kd,e.tm,if e.v<e.u then e.v else e.u,if e.u<e.v then e.v else e.u,e.w,e.lb,e.sg⟩]) Ba ty108 rfl rfl dc dc rfl kr rfl rfl) fun ad25=>?_))
     refine Dr 4 rfl (Bd rfl) (Dz (Ai (As (S2 5 4 rfl rfl) (A2 ?_))))
     have hE:List.take i3 xs++([⟨if e.v<e.u then e.v else e.u,if e.u<e.v then e.v else e.u,e.w,e.lb,e.sg,e.tm⟩]:List Lk)++List.drop i3 xs=(setL (lkOf e) xs):=(setL_new hi3 ha g35).symm
     exact C9 rfl rfl rfl ([]++vc 146 (.slice ad21 (setL (lkOf e) xs).length cp22) (setL (lkOf e) xs)::I) (by rw [←hE];exact Ay) ⟨⟨ad21,cp22,.slice ad25 1 1⟩,by rw [←hE],rfl⟩
  ·rw [g35] at c45;exact absurd c45 dc
set_option maxHeartbeats 1000000 in
theorem CutP_base{κ:Ctx}{I:List Item}{nw:Int}{a0:Option Addr}{c0:Nat}{xs:List Lk}{g:FuncId}{cp_:List Value}{p:Lk→Bool}(hcb:Says Tryz.prog κ (vc 146 (.slice a0 xs.length c0) xs::I) g cp_ p)(hsz:xs.length≤1000000) :
    CallS Tryz.prog κ 257 [.slice a0 xs.length c0,I64 (nw),.func (.func g) #[] cp_.toArray] (vc 146 (.slice a0 xs.length c0) (xs)::I) (fun r J=>∃y:Option Addr×Nat×Value,(r = .tuple #[.slice y.1 (xs.filter (fun x=> !p x)).length y.2.1,y.2.2])∧J=[]++vc 146 (.slice y.1 (xs.filter (fun x=> !p x)).length y.2.1) (xs.filter (fun x=> !p x))::I):=by
 refine Ce3 Tryz.func257 rfl rfl ?_
 refine Ah (Ga rfl (Ga rfl (Af (Ah (Gm rfl (G.e (Am call216 rfl rfl (CloneL (xs:=xs) Br om)) ?_))))))
 rintro _ _ ⟨_,_,⟨ad1,cp2,rfl,rfl⟩,rfl,rfl⟩
 refine Ga rfl (Af (Ah (Ga rfl (Af (Ao (Ah (Ga rfl (Af (Ax (Bx (σ:=Nat×(Option Addr)×Nat×(List Ev)) (fun s=>([(0,.slice ad1 (keepL (fun x=> !p x) xs s.1).length cp2),(1,I64 (nw)),(2,.func (.func g) #[] cp_.toArray),(8,.slice s.2.1 s.2.2.2.length s.2.2.1),(9,I64 (((keptN (fun x=> !p x) xs s.1:Nat):Int)))]:Env)) (fun s=>vc 108 (.slice s.2.1 s.2.2.2.length s.2.2.1) (s.2.2.2)::vc 146 (.slice ad1 (keepL (fun x=> !p x) xs s.1).length cp2) ((keepL (fun x=> !p x) xs s.1))::vc 146 (.slice a0 xs.length c0) (xs)::I) (fun s=>(s.1≤xs.length)∧(s.2.2.2.length≤s.1)) (fun s=>xs.length - s.1) (0,none,0,[]) (show ((0:Nat)≤xs.length)∧(([]:List Ev).length≤(0:Nat)) from ⟨om,(by simp)⟩) (Ac (Cz rfl (by first|rfl|(rw [keepL_zero])|(rw [hky.1])|(rw [hkl]))) (Ac rfl (Ac rfl (Ac (Cz rfl (by first|rfl|(rw [keepL_zero])|(rw [hky.1])|(rw [hkl]))) (Ac (Ec rfl (by first|omega|(rw [keptN_zero];rfl)|(dsimp only;have e1:=hky.2;omega)|(dsimp only;have e1:=hkn;omega))) Bq))))) (show Fit κ _ (vc 108 (.slice (none) ([]).length (0)) (([]))::vc 146 (.slice ad1 (keepL (fun x=> !p x) xs (0)).length cp2) ((keepL (fun x=> !p x) xs (0)))::vc 146 (.slice a0 xs.length c0) (xs)::I) from (by rw [keepL_zero];exact B3 _ _)) ?_))))))))))
 rintro ⟨j,a2,c2,chg⟩ hp
 dsimp only at hp ⊢
 obtain ⟨hj,hcg⟩:=hp
 have hkj:=keptN_le (P:=(fun x=> !p x)) (xs:=xs) (j:=j)
 have hkl0:=keepL_len (P:=(fun x=> !p x)) (xs:=xs) (j:=j)
 refine W.pull (vc.cap (xs:=(keepL (fun x=> !p x) xs j)) mm) fun hcap=>?_
 refine Ao (Ah (Gm rfl (Gm rfl (Gr (Bw A3 rfl) (Gr (Bc rfl rfl) (Af (A9 rfl (fun c15=>?_) (fun c15=>?_))))))))
 ·refine A0 (Ai (Ax (Ao (Ah (Gm rfl (Gm rfl (Gm rfl (Gr (A8 (α:=Lk) (xs:=(keepL (fun x=> !p x) xs j)) A3 ty146 rfl rfl Br om om) (Gr (B0 (α:=Lk) (xs:=(keepL (fun x=> !p x) xs j)) ty146 rfl Br om om) (G.e (Cr hcb.1 (first:=[]) (caps:=cp_) rfl rfl rfl (hcb.2 (at_ (keepL (fun x=> !p x) xs j) ((keptN (fun x=> !p x) xs j:Nat):Int)) _ A4)) ?_))))))))))
  rintro _ _ ⟨_,_,⟨rfl,rfl⟩,rfl,rfl⟩
  refine Gr (Cd rfl) (Af (As (S6 22 0 1 2 8 9 rfl rfl rfl rfl rfl rfl) (W.cond rfl (fun c22=>?_) (fun c22=>?_))))
  ·refine Ah (Gm rfl (Gr (Rad rfl rfl) (Ga rfl (Af (Bt (Ak (A6 ?_)))))))
   have hky:=keep_yes (P:=(fun x=> !p x)) (xs:=xs) (j:=j) om (by rw [←keepL_at (P:=(fun x=> !p x)) (xs:=xs) (j:=j) om];exact c22)
   exact B6 ((j+1),(a2),(c2),(chg)) (by dsimp only;exact ⟨om,om⟩) (hL:=(Ac (Cz rfl (by first|rfl|(rw [keepL_zero])|(rw [hky.1])|(rw [hkl]))) (Ac rfl (Ac rfl (Ac (Cz rfl (by first|rfl|(rw [keepL_zero])|(rw [hky.1])|(rw [hkl]))) (Ac (Ec rfl (by first|omega|(rw [keptN_zero];rfl)|(dsimp only;have e1:=hky.2;omega)|(dsimp only;have e1:=hkn;omega))) Bq)))))) (hI:=by (try dsimp only);exact (by rw [hky.1];exact Ay))
  ·refine A0 (Ai (Ah (Gm rfl ?_)))
   have hpj:(fun x=> !p x) (at_ xs (j:Int))=false:=by rw [←keepL_at (P:=(fun x=> !p x)) (xs:=xs) (j:=j) om];exact c22
   have hkn:=keep_no (P:=(fun x=> !p x)) (xs:=xs) (j:=j) om hpj
   refine Gm rfl (Gm rfl (Gr (A8 (α:=Lk) (xs:=(keepL (fun x=> !p x) xs j)) A3 ty146 rfl rfl Br om om) (Gr (B0 (α:=Lk) (xs:=(keepL (fun x=> !p x) xs j)) ty146 rfl Br om om) (Gm rfl (G.e (Am call254 rfl rfl (Gone_ok (at_ (keepL (fun x=> !p x) xs j) ((keptN (fun x=> !p x) xs j:Nat):Int)) nw)) ?_)))))
   rintro _ _ ⟨_,_,⟨rfl,rfl⟩,rfl,rfl⟩
   refine Ge1 (B9 (α:=Ev) (cs:=[I64 (2),I64 (nw),I64 ((at_ (keepL (fun x=> !p x) xs j) ((keptN (fun x=> !p x) xs j:Nat):Int)).u),I64 ((at_ (keepL (fun x=> !p x) xs j) ((keptN (fun x=> !p x) xs j:Nat):Int)).v),I64 (0),I64 (0),I64 (0)]) (xs:=[⟨2,nw,(at_ (keepL (fun x=> !p x) xs j) ((keptN (fun x=> !p x) xs j:Nat):Int)).u,(at_ (keepL (fun x=> !p x) xs j) ((keptN (fun x=> !p x) xs j:Nat):Int)).v,0,0,0⟩]) Ba ty108 rfl rfl dc dc rfl kr rfl rfl) fun ad3=>?_
   refine Ge2 (Ca (α:=Ev) (e:=108) (xs:=chg) (ys:=([⟨2,nw,(at_ (keepL (fun x=> !p x) xs j) ((keptN (fun x=> !p x) xs j:Nat):Int)).u,(at_ (keepL (fun x=> !p x) xs j) ((keptN (fun x=> !p x) xs j:Nat):Int)).v,0,0,0⟩]:List Ev)) Ba ty108 rfl rfl rfl mm Br lcn dc rfl (fun _ _=>am)) fun ad4 cp5=>?_
   refine Ga rfl (Af (As (S5 8 0 1 2 9 rfl rfl rfl rfl rfl) (Ao (Bo mixed (Bu (I) 8 (Dr 0 rfl (Ad rfl) (Dr 1 rfl (Ad rfl) (Dr 2 rfl (Eg (l:=keptN (fun x=> !p x) xs j) A3 ty146 rfl rfl (by simp only [Int.natCast_add]<;>omega) om om) (Dr 3 rfl (Ad rfl) (Dr 4 rfl (Ad rfl) (Dr 5 rfl (Rad rfl rfl) (Dr 6 rfl (Eg (l:=(keptN (fun x=> !p x) xs j+1)) A3 ty146 rfl rfl (by simp only [Int.natCast_add]<;>omega) om om) (Ds1 7 (Se0 rfl (Eff.copyT (α:=Lk) (k:=keptN (fun x=> !p x) xs j) (q:=(xs.length - j - 1)) (R:=(keepL (fun x=> !p x) xs (j+1))++List.drop (keptN (fun x=> !p x) xs j+(xs.length - j - 1)) (keepL (fun x=> !p x) xs j)) (n:=(keepL (fun x=> !p x) xs j).length) A3 ty146 rfl lat rfl (Sl.dropn (Sl.vec (xs:=(keepL (fun x=> !p x) xs j)) mm) om om) lat lat rfl (keep_copy om hpj rfl) lat am) ?_))))))))))))))
   refine Dz (Ai (Aw (Gm rfl (Gm rfl (Gr (Bw A3 rfl) (Gr (Rsu rfl rfl) (Gr (Runs.hiraw (h:=((keepL (fun x=> !p x) xs j).length - 1)) A3 ty146 rfl rfl om om) (Ga rfl ?_))))))))
   have hkl:(keepL (fun x=> !p x) xs j).length - 1=(keepL (fun x=> !p x) xs (j+1)).length:=by have h3:=keepL_len (P:=(fun x=> !p x)) (xs:=xs) (j:=j+1);omega
   refine G.fit (J:=vc 108 (.slice ad3 1 1) (([⟨2,nw,(at_ (keepL (fun x=> !p x) xs j) ((keptN (fun x=> !p x) xs j:Nat):Int)).u,(at_ (keepL (fun x=> !p x) xs j) ((keptN (fun x=> !p x) xs j:Nat):Int)).v,0,0,0⟩]:List Ev))::vc 108 (.slice ad4 (chg++([⟨2,nw,(at_ (keepL (fun x=> !p x) xs j) ((keptN (fun x=> !p x) xs j:Nat):Int)).u,(at_ (keepL (fun x=> !p x) xs j) ((keptN (fun x=> !p x) xs j:Nat):Int)).v,0,0,0⟩]:List Ev)).length cp5) (chg++([⟨2,nw,(at_ (keepL (fun x=> !p x) xs j) ((keptN (fun x=> !p x) xs j:Nat):Int)).u,(at_ (keepL (fun x=> !p x) xs j) ((keptN (fun x=> !p x) xs j:Nat):Int)).v,0,0,0⟩]:List Ev))::vc 146 (.slice ad1 (keepL (fun x=> !p x) xs (j+1)).length cp2) ((keepL (fun x=> !p x) xs (j+1)))::vc 146 (.slice a0 xs.length c0) (xs)::I) (Fit.upd am (fun w h=>by have h4:=cutshort (h:=((keepL (fun x=> !p x) xs j).length - 1)) (by rw [List.length_append];omega) w h;rw [keep_take hkl] at h4;exact h4)) ?_
   exact Bj (Aj (B6 ((j+1),(ad4),(cp5),(chg++([⟨2,nw,(at_ (keepL (fun x=> !p x) xs j) ((keptN (fun x=> !p x) xs j:Nat):Int)).u,(at_ (keepL (fun x=> !p x) xs j) ((keptN (fun x=> !p x) xs j:Nat):Int)).v,0,0,0⟩]:List Ev))) (by dsimp only;exact ⟨om,lap⟩) (hL:=(Ac (Cz rfl (by first|rfl|(rw [keepL_zero])|(rw [hky.1])|(rw [hkl]))) (Ac rfl (Ac rfl (Ac (Cz rfl (by first|rfl|(rw [keepL_zero])|(rw [hky.1])|(rw [hkl]))) (Ac (Ec rfl (by first|omega|(rw [keptN_zero];rfl)|(dsimp only;have e1:=hky.2;omega)|(dsimp only;have e1:=hkn;omega))) Bq))))))))
 ·refine Bt (Ak (Ak (A6 (Ai (Ah (Gm rfl (Gm rfl (Ga rfl (Ga rfl (Af (A2 ?_)))))))))))
  have hE:(keepL (fun x=> !p x) xs j)=(xs.filter (fun x=> !p x)):=keepL_end om
  exact C9 rfl rfl rfl ([]++vc 146 (.slice ad1 (xs.filter (fun x=> !p x)).length cp2) (xs.filter (fun x=> !p x))::I) (by rw [←hE];exact Ay) ⟨⟨ad1,cp2,.slice a2 chg.length c2⟩,by rw [←hE],rfl⟩
variable {κ:Ctx}{I:List Item}
theorem SetP_at{F:Item→List Item}{n:Nat}{e:Ev}{a0:Option Addr}{c0:Nat}{xs:List Lk}(hat:AtF I (vc 146 (.slice a0 n c0) xs) F)(hn:n=xs.length)(ha:xs.Pairwise Lk.lt)(hsz:xs.length≤1000000) :
  CallS Tryz.prog κ 256 [.slice a0 n c0,.agg #[I64 (e.kd),I64 (e.tm),I64 (e.u),I64 (e.v),I64 (e.w),I64 (e.lb),I64 (e.sg)]] I fun r J=>∃y:Option Addr×Nat×Value,(r = .tuple #[.slice y.1 (setL (lkOf e) xs).length y.2.1,y.2.2])∧J=[]++F (vc 146 (.slice y.1 (setL (lkOf e) xs).length y.2.1) (setL (lkOf e) xs)):=by
 subst hn
 exact Dy (Post:=fun r (y:Option Addr×Nat×Value)=>r = .tuple #[.slice y.1 (setL (lkOf e) xs).length y.2.1,y.2.2]) (Z:=fun _=>[]) (X:=fun y:Option Addr×Nat×Value=>vc 146 (.slice y.1 (setL (lkOf e) xs).length y.2.1) (setL (lkOf e) xs)) hat fun J hJ _=>SetP_base ha hsz
theorem CutP_at{F:Item→List Item}{n:Nat}{nw:Int}{a0:Option Addr}{c0:Nat}{xs:List Lk}{g:FuncId}{cp_:List Value}{p:Lk→Bool}(hat:AtF I (vc 146 (.slice a0 n c0) xs) F)(hn:n=xs.length)(hcb:Says Tryz.prog κ I g cp_ p)(hsz:xs.length≤1000000) :
  CallS Tryz.prog κ 257 [.slice a0 n c0,I64 (nw),.func (.func g) #[] cp_.toArray] I fun r J=>∃y:Option Addr×Nat×Value,(r = .tuple #[.slice y.1 (xs.filter (fun x=> !p x)).length y.2.1,y.2.2])∧J=[]++F (vc 146 (.slice y.1 (xs.filter (fun x=> !p x)).length y.2.1) (xs.filter (fun x=> !p x))):=by
 subst hn
 exact Dy (Post:=fun r (y:Option Addr×Nat×Value)=>r = .tuple #[.slice y.1 (xs.filter (fun x=> !p x)).length y.2.1,y.2.2]) (Z:=fun _=>[]) (X:=fun y:Option Addr×Nat×Value=>vc 146 (.slice y.1 (xs.filter (fun x=> !p x)).length y.2.1) (xs.filter (fun x=> !p x))) hat fun J hJ _=>CutP_base (hcb.fit hJ) hsz
theorem hitE_two{e:Ev}{l:Lk}(h:e.kd=2):hitE e l=decide (l.u=(if e.v<e.u then e.v else e.u)∧l.v=(if e.u<e.v then e.v else e.u)):=by unfold hitE;rw [if_pos h];rfl
theorem hitE_oth{e:Ev}{l:Lk}(h:¬e.kd=2):hitE e l=decide (l.u=e.u∨l.v=e.u):=by unfold hitE;rw [if_neg h]
theorem Step1_ok{b:Nat}{e:Ev}(hk:e.kd=2)(hb:BlkRd κ I b [I64 (e.kd),I64 (e.tm),I64 (e.u),I64 (e.v),I64 (e.w),I64 (e.lb),I64 (e.sg)] 108)(x:Lk) :
    CallS Tryz.prog κ 258 [.agg #[I64 (x.u),I64 (x.v),I64 (x.w),I64 (x.lb),I64 (x.sg),I64 (x.tm)],.pointer (some ⟨b,0,none⟩)] I (fun r J=>r = .bool (hitE e x)∧I=J):=by
 refine Ce2 Tryz.func258 rfl rfl ?_
 refine Ah (Ge1 (Bb (cs:=[_,_,_,_,_,_]) rfl rfl rfl) fun b1=>Ga rfl (Af (Ah (Gf fld146_0 rfl (Gl ty3 ?_)))))
 refine Gf fld108_2 rfl (Gr (Da ty3 rfl (C2 hb A4) rfl) (Gf fld108_3 rfl (Gr (Da ty3 rfl (C2 hb A4) rfl) (Gr (Runs.min rfl rfl) (Gr (Bs rfl rfl) (Gm rfl (Bi (d:=12) rfl (fun g12=>?_) (fun g12=>?_))))))))
 ·refine Gro (Aa fld146_1 rfl) (Gro (Au ty3) ?_)
  exact Gro (Aa fld108_2 rfl) (Gro (Da ty3 rfl (C2 hb A4) rfl) (Gro (Aa fld108_3 rfl) (Gro (Da ty3 rfl (C2 hb A4) rfl) (Gro (Et rfl rfl) (Gro (Bs rfl rfl) (Gr (Ap rfl rfl) (Ga rfl (Af (As (S1 3 rfl) (A2 (A7 rfl rfl (I) A4 ⟨by rw [hitE_two hk];exact (by first|exact congrArg Value.bool (decide_eq_decide.2 (by skip;omega))|exact congrArg Value.bool (decide_eq_true (by skip;omega)).symm|exact congrArg Value.bool (decide_eq_false (by skip;omega)).symm),rfl⟩)))))))))))
 ·exact Gpo (Gpo (Gpo (Gpo (Gpo (Gpo (Gpo (Gpo (Gr (Av rfl rfl) (Ga rfl (Af (As (S1 3 rfl) (A2 (A7 rfl rfl (I) A4 ⟨by rw [hitE_two hk];exact (by first|exact congrArg Value.bool (decide_eq_decide.2 (by skip;omega))|exact congrArg Value.bool (decide_eq_true (by skip;omega)).symm|exact congrArg Value.bool (decide_eq_false (by skip;omega)).symm),rfl⟩)))))))))))))
theorem Step1_says{b:Nat}{e:Ev}(hk:e.kd=2)(hb:BlkRd κ I b [I64 (e.kd),I64 (e.tm),I64 (e.u),I64 (e.v),I64 (e.w),I64 (e.lb),I64 (e.sg)] 108):Says Tryz.prog κ I 258 [.pointer (some ⟨b,0,none⟩)] (hitE e):=⟨call258,fun x J hf=>Step1_ok hk (hb.fit hf) x⟩
theorem Step2_ok{b:Nat}{e:Ev}(hk:¬e.kd=2)(hb:BlkRd κ I b [I64 (e.kd),I64 (e.tm),I64 (e.u),I64 (e.v),I64 (e.w),I64 (e.lb),I64 (e.sg)] 108)(x:Lk) :
    CallS Tryz.prog κ 259 [.agg #[I64 (x.u),I64 (x.v),I64 (x.w),I64 (x.lb),I64 (x.sg),I64 (x.tm)],.pointer (some ⟨b,0,none⟩)] I (fun r J=>r = .bool (hitE e x)∧I=J):=by
 refine Ce2 Tryz.func259 rfl rfl ?_
 refine Ah (Ge1 (Bb (cs:=[_,_,_,_,_,_]) rfl rfl rfl) fun b1=>Ga rfl (Af (Ah (Gf fld146_0 rfl (Gl ty3 ?_)))))
 refine Gf fld108_2 rfl (Gr (Da ty3 rfl (C2 hb A4) rfl) (Gr (Bs rfl rfl) (Gm rfl (Bi (d:=9) rfl (fun g9=>?_) (fun g9=>?_)))))
 ·exact Gpo (Gpo (Gpo (Gpo (Gpo (Gr (Ap rfl rfl) (Ga rfl (Af (As (S1 3 rfl) (A2 (A7 rfl rfl (I) A4 ⟨by rw [hitE_oth hk];exact (by first|exact congrArg Value.bool (decide_eq_decide.2 (by skip;omega))|exact congrArg Value.bool (decide_eq_true (by skip;omega)).symm|exact congrArg Value.bool (decide_eq_false (by skip;omega)).symm),rfl⟩))))))))))
 ·refine Gro (Aa fld146_1 rfl) (Gro (Au ty3) ?_)
  exact Gro (Aa fld108_2 rfl) (Gro (Da ty3 rfl (C2 hb A4) rfl) (Gro (Bs rfl rfl) (Gr (Av rfl rfl) (Ga rfl (Af (As (S1 3 rfl) (A2 (A7 rfl rfl (I) A4 ⟨by rw [hitE_oth hk];exact (by first|exact congrArg Value.bool (decide_eq_decide.2 (by skip;omega))|exact congrArg Value.bool (decide_eq_true (by skip;omega)).symm|exact congrArg Value.bool (decide_eq_false (by skip;omega)).symm),rfl⟩))))))))
theorem Step2_says{b:Nat}{e:Ev}(hk:¬e.kd=2)(hb:BlkRd κ I b [I64 (e.kd),I64 (e.tm),I64 (e.u),I64 (e.v),I64 (e.w),I64 (e.lb),I64 (e.sg)] 108):Says Tryz.prog κ I 259 [.pointer (some ⟨b,0,none⟩)] (hitE e):=⟨call259,fun x J hf=>Step2_ok hk (hb.fit hf) x⟩
theorem StepP_base{nd:Int}{e:Ev}{a0:Option Addr}{c0:Nat}{xs:List Lk}(ha:xs.Pairwise Lk.lt)(hsz:xs.length≤1000000) :
    CallS Tryz.prog κ 215 [.agg #[I64 (nd),.slice a0 xs.length c0],.agg #[I64 (e.kd),I64 (e.tm),I64 (e.u),I64 (e.v),I64 (e.w),I64 (e.lb),I64 (e.sg)]] (vc 146 (.slice a0 xs.length c0) (xs)::I) (fun r J=>∃y:Option Addr×Nat×Value,(r = .tuple #[.agg #[I64 nd,.slice y.1 (stepL xs e).length y.2.1],y.2.2])∧J=[]++vc 146 (.slice y.1 (stepL xs e).length y.2.1) (stepL xs e)::I):=by
 refine Ce2 Tryz.func215 rfl rfl ?_
 refine Ah (Ge1 (Bb (cs:=[_,_]) rfl rfl rfl) fun b1=>Ge1 (Bb (cs:=[_,_,_,_,_,_,_]) rfl rfl rfl) fun b2=>Ge1 (A5 ty111 rfl) fun b3=>Ga rfl (Af (Ah (Ga rfl (Af (Ao (Ah (Gf fld108_0 rfl (Gl ty3 ?_)))))))))
 refine Af (Ax (Ah (Gr (Bs rfl rfl) (Ga rfl (Af (A9 rfl (fun c19=>?_) (fun c19=>?_)))))))
 ·refine Aw (Gf fld111_1 rfl (Gl ty109 ?_))
  refine Gl7 ty108 ?_
  refine G.e (Am call256 rfl rfl (SetP_at (by repeat (first|exact AtF.head _ _|apply AtF.tail)) rfl ha om)) ?_
  rintro _ _ ⟨_,_,⟨⟨ad4,cp5,wv6⟩,rfl,rfl⟩,rfl,rfl⟩
  show G Tryz.prog κ _ _ _ _ ([(25,.tuple #[.slice ad4 (setL (lkOf e) xs).length cp5,wv6]),(24,.agg #[I64 (e.kd),I64 (e.tm),I64 (e.u),I64 (e.v),I64 (e.w),I64 (e.lb),I64 (e.sg)]),(23,.slice a0 xs.length c0),(22,.pointer (some ⟨b1,1,none⟩)),(19,.bool (decide (e.kd=1))),(20,.bool (decide (e.kd=1))),(8,I64 (e.kd)),(7,.pointer (some ⟨b2,0,none⟩)),(6,.slice none 0 0),(5,.slice none 0 0),(4,.pointer (some ⟨b3,0,none⟩)),(3,.pointer (some ⟨b2,0,none⟩)),(2,.pointer (some ⟨b1,0,none⟩)),(0,.agg #[I64 (nd),.slice a0 xs.length c0]),(1,.agg #[I64 (e.kd),I64 (e.tm),I64 (e.u),I64 (e.v),I64 (e.w),I64 (e.lb),I64 (e.sg)])]:Env) (blk b3 [I64 (0),.slice none 0 0] 111::blk b2 [I64 (e.kd),I64 (e.tm),I64 (e.u),I64 (e.v),I64 (e.w),I64 (e.lb),I64 (e.sg)] 108::blk b1 [I64 (nd),.slice a0 xs.length c0] 111::vc 146 (.slice ad4 (setL (lkOf e) xs).length cp5) (setL (lkOf e) xs)::I)
  refine Gm rfl (Gr (Az rfl rfl) (Gr (Az rfl rfl) (Gf fld111_1 rfl (Ge0 (Ek ty109) ?_))))
  refine Ga rfl (Bj (Aj (Ai (As (S3 6 4 2 rfl rfl rfl) (Ah (Gl2 ty111 ?_))))))
  refine Gm rfl (Ge0 (B1 ty111) ?_)
  refine Ga rfl (Af (A2 ?_))
  have hE:setL (lkOf e) xs=(stepL xs e):=by unfold stepL;rw [if_pos c19]
  exact Ct rfl ty111 rfl rfl mm rfl ([]++vc 146 (.slice ad4 (stepL xs e).length cp5) (stepL xs e)::I) (by rw [←hE];exact Ay) ⟨⟨ad4,cp5,wv6⟩,by rw [←hE]<;>rfl,rfl⟩
 ·refine Ah (Gr (Bs rfl rfl) (Ga rfl (Af (A9 rfl (fun c29=>?_) (fun c29=>?_)))))
  ·refine Aw (Gf fld111_1 rfl (Gl ty109 ?_))
   refine Gf fld108_1 rfl (Gl ty3 ?_)
   refine Gr (Dv rfl rfl) (G.e (Am call257 rfl rfl (CutP_at (by repeat (first|exact AtF.head _ _|apply AtF.tail)) rfl (Step1_says c29 (Ds mm)) om)) ?_)
   rintro _ _ ⟨_,_,⟨⟨ad7,cp8,wv9⟩,rfl,rfl⟩,rfl,rfl⟩
   show G Tryz.prog κ _ _ _ _ ([(37,.tuple #[.slice ad7 (List.filter (fun x=> !hitE e x) xs).length cp8,wv9]),(36,.func (.func 258) #[] #[.pointer (some ⟨b2,0,none⟩)]),(35,I64 (e.tm)),(34,.pointer (some ⟨b2,1,none⟩)),(33,.slice a0 xs.length c0),(32,.pointer (some ⟨b1,1,none⟩)),(29,.bool (decide (e.kd=2))),(30,.bool (decide (e.kd=2))),(19,.bool (decide (e.kd=1))),(20,.bool (decide (e.kd=1))),(8,I64 (e.kd)),(7,.pointer (some ⟨b2,0,none⟩)),(6,.slice none 0 0),(5,.slice none 0 0),(4,.pointer (some ⟨b3,0,none⟩)),(3,.pointer (some ⟨b2,0,none⟩)),(2,.pointer (some ⟨b1,0,none⟩)),(0,.agg #[I64 (nd),.slice a0 xs.length c0]),(1,.agg #[I64 (e.kd),I64 (e.tm),I64 (e.u),I64 (e.v),I64 (e.w),I64 (e.lb),I64 (e.sg)])]:Env) (blk b3 [I64 (0),.slice none 0 0] 111::blk b2 [I64 (e.kd),I64 (e.tm),I64 (e.u),I64 (e.v),I64 (e.w),I64 (e.lb),I64 (e.sg)] 108::blk b1 [I64 (nd),.slice a0 xs.length c0] 111::vc 146 (.slice ad7 (List.filter (fun x=> !hitE e x) xs).length cp8) (List.filter (fun x=> !hitE e x) xs)::I)
   refine Gm rfl (Gr (Az rfl rfl) (Gr (Az rfl rfl) (Gf fld111_1 rfl (Ge0 (Ek ty109) ?_))))
   refine Ga rfl (Bj (Aj (Ai (As (S3 6 4 2 rfl rfl rfl) (Ah (Gl2 ty111 ?_))))))
   refine Gm rfl (Ge0 (B1 ty111) ?_)
   refine Ga rfl (Af (A2 ?_))
   have hE:List.filter (fun x=> !hitE e x) xs=(stepL xs e):=by unfold stepL;rw [if_neg c19]
   exact Ct rfl ty111 rfl rfl mm rfl ([]++vc 146 (.slice ad7 (stepL xs e).length cp8) (stepL xs e)::I) (by rw [←hE];exact Ay) ⟨⟨ad7,cp8,wv9⟩,by rw [←hE]<;>rfl,rfl⟩
  ·refine Aw (Gf fld111_1 rfl (Gl ty109 ?_))
   refine Gf fld108_1 rfl (Gl ty3 ?_)
   refine Gr (Dv rfl rfl) (G.e (Am call257 rfl rfl (CutP_at (by repeat (first|exact AtF.head _ _|apply AtF.tail)) rfl (Step2_says c29 (Ds mm)) om)) ?_)
   rintro _ _ ⟨_,_,⟨⟨ad10,cp11,wv12⟩,rfl,rfl⟩,rfl,rfl⟩
   show G Tryz.prog κ _ _ _ _ ([(15,.tuple #[.slice ad10 (List.filter (fun x=> !hitE e x) xs).length cp11,wv12]),(14,.func (.func 259) #[] #[.pointer (some ⟨b2,0,none⟩)]),(13,I64 (e.tm)),(12,.pointer (some ⟨b2,1,none⟩)),(11,.slice a0 xs.length c0),(10,.pointer (some ⟨b1,1,none⟩)),(29,.bool (decide (e.kd=2))),(30,.bool (decide (e.kd=2))),(19,.bool (decide (e.kd=1))),(20,.bool (decide (e.kd=1))),(8,I64 (e.kd)),(7,.pointer (some ⟨b2,0,none⟩)),(6,.slice none 0 0),(5,.slice none 0 0),(4,.pointer (some ⟨b3,0,none⟩)),(3,.pointer (some ⟨b2,0,none⟩)),(2,.pointer (some ⟨b1,0,none⟩)),(0,.agg #[I64 (nd),.slice a0 xs.length c0]),(1,.agg #[I64 (e.kd),I64 (e.tm),I64 (e.u),I64 (e.v),I64 (e.w),I64 (e.lb),I64 (e.sg)])]:Env) (blk b3 [I64 (0),.slice none 0 0] 111::blk b2 [I64 (e.kd),I64 (e.tm),I64 (e.u),I64 (e.v),I64 (e.w),I64 (e.lb),I64 (e.sg)] 108::blk b1 [I64 (nd),.slice a0 xs.length c0] 111::vc 146 (.slice ad10 (List.filter (fun x=> !hitE e x) xs).length cp11) (List.filter (fun x=> !hitE e x) xs)::I)
   refine Gm rfl (Gr (Az rfl rfl) (Gr (Az rfl rfl) (Gf fld111_1 rfl (Ge0 (Ek ty109) ?_))))
   refine Ga rfl (Bj (Aj (Ai (As (S3 6 4 2 rfl rfl rfl) (Ah (Gl2 ty111 ?_))))))
   refine Gm rfl (Ge0 (B1 ty111) ?_)
   refine Ga rfl (Af (A2 ?_))
   have hE:List.filter (fun x=> !hitE e x) xs=(stepL xs e):=by unfold stepL;rw [if_neg c19]
   exact Ct rfl ty111 rfl rfl mm rfl ([]++vc 146 (.slice ad10 (stepL xs e).length cp11) (stepL xs e)::I) (by rw [←hE];exact Ay) ⟨⟨ad10,cp11,wv12⟩,by rw [←hE]<;>rfl,rfl⟩
theorem StepP_at{F:Item→List Item}{n:Nat}{nd:Int}{e:Ev}{a0:Option Addr}{c0:Nat}{xs:List Lk}(hat:AtF I (vc 146 (.slice a0 n c0) xs) F)(hn:n=xs.length)(ha:xs.Pairwise Lk.lt)(hsz:xs.length≤1000000) :
  CallS Tryz.prog κ 215 [.agg #[I64 (nd),.slice a0 n c0],.agg #[I64 (e.kd),I64 (e.tm),I64 (e.u),I64 (e.v),I64 (e.w),I64 (e.lb),I64 (e.sg)]] I fun r J=>∃y:Option Addr×Nat×Value,(r = .tuple #[.agg #[I64 nd,.slice y.1 (stepL xs e).length y.2.1],y.2.2])∧J=[]++F (vc 146 (.slice y.1 (stepL xs e).length y.2.1) (stepL xs e)):=by
 subst hn
 exact Dy (Post:=fun r (y:Option Addr×Nat×Value)=>r = .tuple #[.agg #[I64 nd,.slice y.1 (stepL xs e).length y.2.1],y.2.2]) (Z:=fun _=>[]) (X:=fun y:Option Addr×Nat×Value=>vc 146 (.slice y.1 (stepL xs e).length y.2.1) (stepL xs e)) hat fun J hJ _=>StepP_base ha hsz
set_option maxHeartbeats 1000000 in
theorem PutP_base{κ:Ctx}{I:List Item}{b:Nat}{nd:Int}{a0 o0:Option Addr}{c0 d0:Nat}{xs:List Lk}{out:List Ev}{va:Value}{es:List Ev}(hl:Sl κ I va es)(hval:checkS nd xs=0)(hfit:∀j:Nat,j<es.length→FitOk nd (at_ es (j:Int)))(hsz:xs.length+es.length≤1000000)(hso:out.length+es.length≤1000000) :
    CallS Tryz.prog κ 212 [.pointer (some ⟨b,0,none⟩),va] (blk b [I64 (nd),.slice a0 xs.length c0,.slice o0 out.length d0] 241::vc 146 (.slice a0 xs.length c0) (xs)::vc 108 (.slice o0 out.length d0) (out)::I) (fun r J=>∃y:Option Addr×Nat×Option Addr×Nat,r = .tuple #[]∧J=blk b [I64 (nd),.slice y.1 (List.foldl stepL xs es).length y.2.1,.slice y.2.2.1 (out++es).length y.2.2.2] 241::vc 146 (.slice y.1 (List.foldl stepL xs es).length y.2.1) (List.foldl stepL xs es)::vc 108 (.slice y.2.2.1 (out++es).length y.2.2.2) (out++es)::I):=by
 refine Ce2 Tryz.func212 rfl rfl ?_
 refine Ah (Gm rfl (Gr (Bz (α:=Ev) (xs:=es) Ba rfl (Bf hl)) (Gm rfl (Af (Ax (Bx (σ:=Nat×(Option Addr)×Nat×(Option Addr)×Nat) (fun s=>([(0,.pointer (some ⟨b,0,none⟩)),(6,va),(7,I64 (((es.length:Nat):Int))),(8,I64 (((s.1:Nat):Int)))]:Env)) (fun s=>blk b [I64 (nd),.slice s.2.1 (List.foldl stepL xs (List.take s.1 es)).length s.2.2.1,.slice s.2.2.2.1 (out++List.take s.1 es).length s.2.2.2.2] 241::vc 146 (.slice s.2.1 (List.foldl stepL xs (List.take s.1 es)).length s.2.2.1) (List.foldl stepL xs (List.take s.1 es))::vc 108 (.slice s.2.2.2.1 (out++List.take s.1 es).length s.2.2.2.2) (out++List.take s.1 es)::I) (fun s=>(s.1≤es.length)∧(checkS nd (List.foldl stepL xs (List.take s.1 es))=0)) (fun s=>es.length - s.1) (0,a0,c0,o0,d0) (show ((0:Nat)≤es.length)∧(checkS nd (List.foldl stepL xs (List.take (0:Nat) es))=0) from ⟨om,hval⟩) (Ac rfl (Ac rfl (Ac rfl (Ac Cb Bq)))) (show Fit κ _ (blk b [I64 (nd),.slice (a0) (List.foldl stepL xs (List.take (0) es)).length (c0),.slice (o0) (out++List.take (0) es).length (d0)] 241::vc 146 (.slice (a0) (List.foldl stepL xs (List.take (0) es)).length (c0)) (List.foldl stepL xs (List.take (0) es))::vc 108 (.slice (o0) (out++List.take (0) es).length (d0)) (out++List.take (0) es)::I) from (by rw [show out++List.take 0 es=out from List.append_nil _];exact Fit.refl _)) ?_))))))
 rintro ⟨k,a1,c1,o1,d1⟩ hp
 dsimp only at hp ⊢
 obtain ⟨hk,hv⟩:=hp
 refine Ah (Gr (Bc rfl rfl) (Af (Ao (A9 rfl (fun c9=>?_) (fun c9=>?_)))))
 ·refine A0 (Ai (Ao (Ax (Ah (Gr (A8 (α:=Ev) (xs:=es) Ba ty108 rfl rfl (Bf hl) om om) (Gr (B0 (α:=Ev) (xs:=es) ty108 rfl (Bf hl) om om) (Ge1 (A5 ty108 rfl) fun b1=>Ge0 (Es7_7 ty108) ?_)))))))
  refine Af (Ao (Bo mixed (Bu (blk b1 [I64 ((at_ es (k:Int)).kd),I64 ((at_ es (k:Int)).tm),I64 ((at_ es (k:Int)).u),I64 ((at_ es (k:Int)).v),I64 ((at_ es (k:Int)).w),I64 ((at_ es (k:Int)).lb),I64 ((at_ es (k:Int)).sg)] 108::I) 13 (Dr 0 rfl (Ad rfl) (Dr 1 rfl (Ad rfl) (Dr 2 rfl (Bk rfl) (Dr 3 rfl (Aa fld241_0 rfl) (Dr 5 rfl (Bm (vs:=[_,_,_,_,_,_,_]) ty108) ?_))))))))
  refine Ds1 4 (Sr rfl (Bm (vs:=[_,_]) ty111) Ay ?_)
  refine Ds1 6 (Se rfl (Am call215 rfl rfl (StepP_at (by repeat (first|exact AtF.head _ _|apply AtF.tail)) rfl (checkS_ok hv).2.2 (by have h:=steps_len (List.take k es) xs;rw [List.length_take] at h;omega))) ?_)
  rintro _ _ ⟨_,_,⟨⟨ad2,cp3,wv4⟩,rfl,rfl⟩,rfl,rfl⟩
  refine ⟨Ay,?_⟩
  show D Tryz.prog κ _ _ _ _ _ _ _ ([(19,.tuple #[.agg #[I64 (nd),.slice ad2 (stepL (List.foldl stepL xs (List.take k es)) (at_ es (k:Int))).length cp3],wv4]),(17,.agg #[I64 (nd),.slice a1 (List.foldl stepL xs (List.take k es)).length c1]),(18,.agg #[I64 ((at_ es (k:Int)).kd),I64 ((at_ es (k:Int)).tm),I64 ((at_ es (k:Int)).u),I64 ((at_ es (k:Int)).v),I64 ((at_ es (k:Int)).w),I64 ((at_ es (k:Int)).lb),I64 ((at_ es (k:Int)).sg)]),(16,.pointer (some ⟨b,0,none⟩)),(15,.pointer (some ⟨b,0,none⟩)),(14,.pointer (some ⟨b,0,none⟩)),(13,.pointer (some ⟨b,0,none⟩)),(5,.pointer (some ⟨b1,0,none⟩)),(11,.agg #[I64 ((at_ es (k:Int)).kd),I64 ((at_ es (k:Int)).tm),I64 ((at_ es (k:Int)).u),I64 ((at_ es (k:Int)).v),I64 ((at_ es (k:Int)).w),I64 ((at_ es (k:Int)).lb),I64 ((at_ es (k:Int)).sg)]),(10,elemPtr (va) (((k:Int)).toNat*Enc.sz Ev)),(9,.bool (decide ((k:Int)<((es.length:Nat):Int)))),(0,.pointer (some ⟨b,0,none⟩)),(6,va),(7,I64 (((es.length:Nat):Int))),(8,I64 ((k:Int)))]:Env) (blk b1 [I64 ((at_ es (k:Int)).kd),I64 ((at_ es (k:Int)).tm),I64 ((at_ es (k:Int)).u),I64 ((at_ es (k:Int)).v),I64 ((at_ es (k:Int)).w),I64 ((at_ es (k:Int)).lb),I64 ((at_ es (k:Int)).sg)] 108::blk b [I64 (nd),.slice a1 (List.foldl stepL xs (List.take k es)).length c1,.slice o1 (out++List.take k es).length d1] 241::vc 146 (.slice ad2 (stepL (List.foldl stepL xs (List.take k es)) (at_ es (k:Int))).length cp3) (stepL (List.foldl stepL xs (List.take k es)) (at_ es (k:Int)))::vc 108 (.slice o1 (out++List.take k es).length d1) (out++List.take k es)::I)
  refine Dr 7 rfl (Ad rfl) (Dr 8 rfl (Az rfl rfl) (Dr 9 rfl (Az rfl rfl) (Dr 10 rfl (Bk rfl) (Dr 11 rfl (Aa fld241_0 rfl) (Ds1 12 (Se0 rfl (Ci (cs:=[_,_,_]) (vs:=[_,_]) (cs':=[_,_,_]) ty111) ?_))))))
  refine Dz (Ai (As (S5 5 0 6 7 8 rfl rfl rfl rfl rfl) (Bo mixed (Bu (blk b1 [I64 ((at_ es (k:Int)).kd),I64 ((at_ es (k:Int)).tm),I64 ((at_ es (k:Int)).u),I64 ((at_ es (k:Int)).v),I64 ((at_ es (k:Int)).w),I64 ((at_ es (k:Int)).lb),I64 ((at_ es (k:Int)).sg)] 108::I) 11 (Dr 0 rfl (Ad rfl) (Dr 1 rfl (Ad rfl) (Dr 2 rfl (Bk rfl) (Dr 3 rfl (Aa fld241_1 rfl) (Dr 5 rfl (Bm (vs:=[_,_,_,_,_,_,_]) ty108) ?_)))))))))
  refine De (rs:=[4,6]) kr rfl rfl (Eb ?_ (Du ?_))
  ·refine Sr rfl (Au ty28) Ay ?_
   refine Ds1 6 (Se1 rfl (B9 (α:=Ev) (cs:=[I64 ((at_ es (k:Int)).kd),I64 ((at_ es (k:Int)).tm),I64 ((at_ es (k:Int)).u),I64 ((at_ es (k:Int)).v),I64 ((at_ es (k:Int)).w),I64 ((at_ es (k:Int)).lb),I64 ((at_ es (k:Int)).sg)]) (xs:=[⟨(at_ es (k:Int)).kd,(at_ es (k:Int)).tm,(at_ es (k:Int)).u,(at_ es (k:Int)).v,(at_ es (k:Int)).w,(at_ es (k:Int)).lb,(at_ es (k:Int)).sg⟩]) Ba ty108 rfl rfl dc dc rfl kr rfl rfl) fun ad5=>?_)
   refine Ds1 7 (Se2 rfl (Ca (α:=Ev) (e:=108) (xs:=out++List.take k es) (ys:=([⟨(at_ es (k:Int)).kd,(at_ es (k:Int)).tm,(at_ es (k:Int)).u,(at_ es (k:Int)).v,(at_ es (k:Int)).w,(at_ es (k:Int)).lb,(at_ es (k:Int)).sg⟩]:List Ev)) Ba ty108 rfl rfl rfl mm Br (by simp only [List.length_append,List.length_take,List.length_cons,List.length_nil];omega) dc rfl (fun _ _=>am)) fun ad6 cp7=>?_)
   refine Dr 8 rfl (Bk rfl) (Dr 9 rfl (Aa fld241_1 rfl) (Ds1 10 (Se0 rfl (Ci (cs:=[_,_,_]) (vs:=[_]) (cs':=[_,_,_]) ty28) ?_)))
   exact Dz (Aj (Ai (As (S4 0 6 7 8 rfl rfl rfl rfl) (Aw (Gr (Rad rfl rfl) (Gm rfl (Bj (B6 ((k+1),(ad2),(cp3),(ad6),(cp7)) (by dsimp only;exact ⟨om,(by rw [steps_succ om];exact stepL_val hv (hfit k om))⟩) (hI:=by (try dsimp only);exact (by rw [steps_succ om,out_succ om];exact Ay))))))))))
  ·refine Se1 rfl (B9 (α:=Ev) (cs:=[I64 ((at_ es (k:Int)).kd),I64 ((at_ es (k:Int)).tm),I64 ((at_ es (k:Int)).u),I64 ((at_ es (k:Int)).v),I64 ((at_ es (k:Int)).w),I64 ((at_ es (k:Int)).lb),I64 ((at_ es (k:Int)).sg)]) (xs:=[⟨(at_ es (k:Int)).kd,(at_ es (k:Int)).tm,(at_ es (k:Int)).u,(at_ es (k:Int)).v,(at_ es (k:Int)).w,(at_ es (k:Int)).lb,(at_ es (k:Int)).sg⟩]) Ba ty108 rfl rfl dc dc rfl kr rfl rfl) fun ad8=>?_
   refine Ds1 4 (Sr rfl (Au ty28) Ay ?_)
   refine Ds1 7 (Se2 rfl (Ca (α:=Ev) (e:=108) (xs:=out++List.take k es) (ys:=([⟨(at_ es (k:Int)).kd,(at_ es (k:Int)).tm,(at_ es (k:Int)).u,(at_ es (k:Int)).v,(at_ es (k:Int)).w,(at_ es (k:Int)).lb,(at_ es (k:Int)).sg⟩]:List Ev)) Ba ty108 rfl rfl rfl mm Br (by simp only [List.length_append,List.length_take,List.length_cons,List.length_nil];omega) dc rfl (fun _ _=>am)) fun ad9 cp10=>?_)
   refine Dr 8 rfl (Bk rfl) (Dr 9 rfl (Aa fld241_1 rfl) (Ds1 10 (Se0 rfl (Ci (cs:=[_,_,_]) (vs:=[_]) (cs':=[_,_,_]) ty28) ?_)))
   exact Dz (Aj (Ai (As (S4 0 6 7 8 rfl rfl rfl rfl) (Aw (Gr (Rad rfl rfl) (Gm rfl (Bj (B6 ((k+1),(ad2),(cp3),(ad9),(cp10)) (by dsimp only;exact ⟨om,(by rw [steps_succ om];exact stepL_val hv (hfit k om))⟩) (hI:=by (try dsimp only);exact (by rw [steps_succ om,out_succ om];exact Ay))))))))))
 ·refine Bt (Ak (Ak (A6 ?_)))
  have hk2:List.take k es=es:=List.take_of_length_le om
  exact V.end0 rfl (blk b [I64 (nd),.slice a1 (List.foldl stepL xs es).length c1,.slice o1 (out++es).length d1] 241::vc 146 (.slice a1 (List.foldl stepL xs es).length c1) (List.foldl stepL xs es)::vc 108 (.slice o1 (out++es).length d1) (out++es)::I) (by rw [hk2];exact Ay) ⟨⟨a1,c1,o1,d1⟩,rfl,rfl⟩
set_option maxHeartbeats 1000000 in
theorem AgeP_base{κ:Ctx}{I:List Item}{b:Nat}{nd wd mo T last:Int}{a0 o0:Option Addr}{c0 d0:Nat}{xs:List Lk}{out:List Ev}(hI0:SlI nd 2 wd last xs)(hw:checkW 2 wd mo=0)(hT:0≤last∧last≤T∧T≤1048576)(hsz:xs.length+out.length≤400000) :
    CallS Tryz.prog κ 211 [.pointer (some ⟨b,0,none⟩),.agg #[I64 (2),I64 (wd),I64 (mo)],I64 (T)] (blk b [I64 (nd),.slice a0 xs.length c0,.slice o0 out.length d0] 241::vc 146 (.slice a0 xs.length c0) (xs)::vc 108 (.slice o0 out.length d0) (out)::I) (fun r J=>∃y:Option Addr×Nat×Option Addr×Nat,(r = .tuple #[]∧SlI nd 2 wd T (ageL wd mo T xs out).1∧(ageL wd mo T xs out).1.length+(ageL wd mo T xs out).2.length=xs.length+out.length)∧J=blk b [I64 (nd),.slice y.1 ((ageL wd mo T xs out).1).length y.2.1,.slice y.2.2.1 ((ageL wd mo T xs out).2).length y.2.2.2] 241::vc 146 (.slice y.1 ((ageL wd mo T xs out).1).length y.2.1) ((ageL wd mo T xs out).1)::vc 108 (.slice y.2.2.1 ((ageL wd mo T xs out).2).length y.2.2.2) ((ageL wd mo T xs out).2)::I):=by
 refine Ce3 Tryz.func211 rfl rfl ?_
 refine Ah (Ge1 (Bb (cs:=[_,_,_]) rfl rfl rfl) fun b1=>Af (Ax (Bx (σ:=(Option Addr)×Nat×(Option Addr)×Nat×(List Lk)×(List Ev)) (fun s=>([(0,.pointer (some ⟨b,0,none⟩)),(2,I64 (T)),(4,.pointer (some ⟨b1,0,none⟩))]:Env)) (fun s=>blk b [I64 (nd),.slice s.1 s.2.2.2.2.1.length s.2.1,.slice s.2.2.1 s.2.2.2.2.2.length s.2.2.2.1] 241::vc 146 (.slice s.1 s.2.2.2.2.1.length s.2.1) (s.2.2.2.2.1)::vc 108 (.slice s.2.2.1 s.2.2.2.2.2.length s.2.2.2.1) (s.2.2.2.2.2)::blk b1 [I64 (2),I64 (wd),I64 (mo)] 31::I) (fun s=>((ageL wd mo T xs out)=ageL wd mo T s.2.2.2.2.1 s.2.2.2.2.2)∧(SlI nd 2 wd last s.2.2.2.2.1)∧(s.2.2.2.2.1.length+s.2.2.2.2.2.length=xs.length+out.length)) (fun s=>s.2.2.2.2.1.length) (a0,c0,o0,d0,xs,out) (show ((ageL wd mo T xs out)=ageL wd mo T (xs:List Lk) (out:List Ev))∧(SlI nd 2 wd last (xs:List Lk))∧((xs:List Lk).length+(out:List Ev).length=xs.length+out.length) from ⟨rfl,hI0,rfl⟩) (Ac rfl (Ac rfl (Ac rfl Bq))) (show Fit κ _ (blk b [I64 (nd),.slice (a0) (xs).length (c0),.slice (o0) (out).length (d0)] 241::vc 146 (.slice (a0) (xs).length (c0)) ((xs))::vc 108 (.slice (o0) (out).length (d0)) ((out))::blk b1 [I64 (2),I64 (wd),I64 (mo)] 31::I) from B7) ?_)))
 rintro ⟨a1,c1,o1,d1,ys,zs⟩ hp
 dsimp only at hp ⊢
 obtain ⟨hr,hI,hs⟩:=hp
 refine Ax (Ao (Bo mixed (Bu (blk b [I64 (nd),.slice a1 ys.length c1,.slice o1 zs.length d1] 241::vc 146 (.slice a1 ys.length c1) (ys)::vc 108 (.slice o1 zs.length d1) (zs)::blk b1 [I64 (2),I64 (wd),I64 (mo)] 31::I) 12 (Dr 0 rfl (Ad rfl) (Dr 1 rfl (Bk rfl) (Dr 2 rfl (Aa fld241_0 rfl) (Dr 3 rfl (Bm (vs:=[_,_]) ty111) ?_)))))))
 refine Dr 4 rfl (Aa fld31_1 rfl) (Dr 5 rfl (Au ty3) ?_)
 refine Ds1 6 (Se rfl (Am call252 rfl rfl (First_ok (nd:=nd) Br (checkS_tm' hI.val) (checkW_wd hw))) ?_)
 rintro _ _ ⟨_,_,⟨zf2,rfl,hfzf2,rfl⟩,rfl,rfl⟩
 refine ⟨Ay,?_⟩
 refine Dr 7 rfl (Ad rfl) (Dr 8 rfl (Az rfl rfl) (Dr 9 rfl (Az rfl rfl) (Dr 10 rfl (Bd rfl) (Dr 11 rfl (Bd rfl) ?_))))
 have hzf:=hfzf2
 refine Dz (Ai (As (S5 7 6 0 2 4 rfl rfl rfl rfl rfl) (Ao (Ah (Gm rfl (Gr (C7 rfl) (Gm rfl (Bi (d:=20) rfl (fun g20=>?_) (fun g20=>?_)))))))))
 ·refine Gpo (Gpo (Gpo (Gr (Ap rfl rfl) (Af (Cl rfl (A2 (Al (Ar (Al (Ar ?_))))))))))
  have hstop:¬(0<ys.length∧minT ys+wd≤T):=(fun h=>by have hz:=minT_uniq (hzf.1 h.1);omega)
  have hE:(ageL wd mo T xs out)=(ys,zs):=hr.trans (ageL_stop hstop)
  exact V.ret0 rfl (blk b [I64 (nd),.slice a1 ((ageL wd mo T xs out).1).length c1,.slice o1 ((ageL wd mo T xs out).2).length d1] 241::vc 146 (.slice a1 ((ageL wd mo T xs out).1).length c1) ((ageL wd mo T xs out).1)::vc 108 (.slice o1 ((ageL wd mo T xs out).2).length d1) ((ageL wd mo T xs out).2)::I) (by rw [hE];exact Ay) ⟨⟨a1,c1,o1,d1⟩,⟨rfl,by rw [hE];exact hI.later hT.2.1 (fun _=>hstop),by rw [hE];exact hs⟩,rfl⟩
 ·refine Gro (Ad rfl) (Gro (Ad rfl) (Gro (B5 rfl rfl) (Gr (Av rfl rfl) (Af (A9 rfl (fun c24=>?_) (fun c24=>?_))))))
  ·refine A2 (Al (Ar (Al (Ar ?_))))
   have hstop:¬(0<ys.length∧minT ys+wd≤T):=(fun h=>by have hz:=minT_uniq (hzf.1 h.1);omega)
   have hE:(ageL wd mo T xs out)=(ys,zs):=hr.trans (ageL_stop hstop)
   exact V.ret0 rfl (blk b [I64 (nd),.slice a1 ((ageL wd mo T xs out).1).length c1,.slice o1 ((ageL wd mo T xs out).2).length d1] 241::vc 146 (.slice a1 ((ageL wd mo T xs out).1).length c1) ((ageL wd mo T xs out).1)::vc 108 (.slice o1 ((ageL wd mo T xs out).2).length d1) ((ageL wd mo T xs out).2)::I) (by rw [hE];exact Ay) ⟨⟨a1,c1,o1,d1⟩,⟨rfl,by rw [hE];exact hI.later hT.2.1 (fun _=>hstop),by rw [hE];exact hs⟩,rfl⟩
  ·refine A0 (Ai (Bo mixed (Bu (blk b1 [I64 (2),I64 (wd),I64 (mo)] 31::I) 9 (Dr 0 rfl (Ad rfl) (Dr 1 rfl (Ad rfl) (Dr 2 rfl (Bk rfl) (Dr 3 rfl (Aa fld241_0 rfl) (Dr 5 rfl (Bm (vs:=[_,_,_]) ty31) ?_))))))))
   refine Dr 6 rfl (Ad rfl) (Ds1 4 (Sr rfl (Bm (vs:=[_,_]) ty111) Ay ?_))
   refine Ds1 7 (Sc2 rfl (Am call213 rfl rfl (GoneP_ok (nd:=nd) Br om (hI.ask hw (by have hzz:=hI.first rfl om;have hz:=minT_uniq (hzf.1 om);omega) (by have hzz:=hI.first rfl om;have hz:=minT_uniq (hzf.1 om);omega)))) fun ad3 cp4=>?_)
   refine Ds1 8 (Se rfl (Am call212 rfl rfl (Cn (J:=blk b [I64 (nd),.slice a1 ys.length c1,.slice o1 zs.length d1] 241::vc 146 (.slice a1 ys.length c1) (ys)::vc 108 (.slice o1 zs.length d1) (zs)::vc 108 (.slice ad3 (goneL 2 wd mo zf2 ys).length cp4) (goneL 2 wd mo zf2 ys)::blk b1 [I64 (2),I64 (wd),I64 (mo)] 31::I) B7 (PutP_base (nd:=nd) (xs:=ys) (out:=zs) (es:=goneL 2 wd mo zf2 ys) Br (hI.val) (fitgone hI.val (by have hzz:=hI.first rfl om;have hz:=minT_uniq (hzf.1 om);omega)) (by have h:=gone_len 2 wd mo zf2 ys;omega) (by have h:=gone_len 2 wd mo zf2 ys;omega)))) ?_)
   rintro _ _ ⟨_,_,⟨⟨ad5,cp6,ad7,cp8⟩,rfl,rfl⟩,rfl,rfl⟩
   refine ⟨Ay,?_⟩
   show D Tryz.prog κ _ _ _ _ _ _ _ ([(33,.tuple #[]),(32,.slice ad3 (goneL 2 wd mo zf2 ys).length cp4),(29,.agg #[I64 (nd),.slice a1 ys.length c1]),(31,I64 (zf2)),(30,.agg #[I64 (2),I64 (wd),I64 (mo)]),(28,.pointer (some ⟨b,0,none⟩)),(27,.pointer (some ⟨b,0,none⟩)),(26,.pointer (some ⟨b,0,none⟩)),(25,.pointer (some ⟨b,0,none⟩)),(24,.bool (decide (T<zf2))),(23,.bool (decide (T<zf2))),(22,I64 (T)),(21,I64 (zf2)),(20,.bool false),(20,.bool (decide (¬(0<ys.length)))),(19,.bool (decide (¬(0<ys.length)))),(18,.bool (decide (0<ys.length))),(7,.bool (decide (0<ys.length))),(6,I64 (zf2)),(0,.pointer (some ⟨b,0,none⟩)),(2,I64 (T)),(4,.pointer (some ⟨b1,0,none⟩))]:Env) (blk b [I64 (nd),.slice ad5 (List.foldl stepL ys (goneL 2 wd mo zf2 ys)).length cp6,.slice ad7 (zs++(goneL 2 wd mo zf2 ys)).length cp8] 241::vc 146 (.slice ad5 (List.foldl stepL ys (goneL 2 wd mo zf2 ys)).length cp6) (List.foldl stepL ys (goneL 2 wd mo zf2 ys))::vc 108 (.slice ad7 (zs++(goneL 2 wd mo zf2 ys)).length cp8) (zs++(goneL 2 wd mo zf2 ys))::vc 108 (.slice ad3 (goneL 2 wd mo zf2 ys).length cp4) (goneL 2 wd mo zf2 ys)::blk b1 [I64 (2),I64 (wd),I64 (mo)] 31::I)
   refine Dz (Aj ?_)
   have hpos:0<ys.length:=by omega
   have hz:zf2=minT ys+wd:=minT_uniq (hzf.1 hpos)
   have hg:List.foldl stepL ys (goneL 2 wd mo zf2 ys)=List.filter (inW 2 wd mo zf2 ys) ys:=gone_steps hI.val
   have hgl:=gone_len 2 wd mo zf2 ys
   have hal:(List.filter (inW 2 wd mo zf2 ys) ys).length<ys.length:=by rw [hz];exact age_less (wd:=wd) (mo:=mo) hpos
   exact B6 ((ad5),(cp6),(ad7),(cp8),(List.filter (inW 2 wd mo zf2 ys) ys),(zs++goneL 2 wd mo zf2 ys)) (by dsimp only;exact ⟨(by rw [hr,ageL_step ⟨hpos,by omega⟩,←hz]),(hI.filter _),(by rw [List.length_append];omega)⟩) (hlt:=by (try dsimp only);exact hal) (hI:=by (try dsimp only);exact (by rw [hg];exact Ay))
end Go.Sl
