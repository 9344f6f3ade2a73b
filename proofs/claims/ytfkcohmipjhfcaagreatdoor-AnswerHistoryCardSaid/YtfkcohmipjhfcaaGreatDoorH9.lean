/- A part of the proofs of statements of this seat: contracts of functions, and the plain laws that they lean on. No conditions. -/
import Derived.Test.YtfkcohmipjhfcaaGreatDoorH8
set_option linter.unusedVariables false
set_option linter.unusedSimpArgs false
set_option linter.unusedSectionVars false
namespace Go.Sl
open Go.Proofs
set_option maxRecDepth 4000
variable {κ:Ctx}{I:List Item}
theorem NodeE_ok(n:Int) :
    CallS Tryz.prog κ 291 [I64 (n)] I (fun r J=>r = .bool (decide (0≤n∧n<64))∧I=J):=by
 refine Ce1 Tryz.func291 rfl rfl ?_
 refine Ai (Ga rfl (Af (Ai (Gm rfl (Gr (B6 rfl rfl) (Gm rfl (Bb (d:=5) rfl (fun g5=>?_) (fun g5=>?_))))))))
 ·exact Gro (Ad rfl) (Gro (A9 rfl rfl) (Gr (Ao rfl rfl) (Ga rfl (Af (Ax (Ay rfl rfl (I) A0 ⟨(by first|exact congrArg Value.bool (decide_eq_decide.2 (by skip;omega))|exact congrArg Value.bool (decide_eq_true (by skip;omega)).symm|exact congrArg Value.bool (decide_eq_false (by skip;omega)).symm),rfl⟩))))))
 ·exact Gpo (Gpo (Gr (Al rfl rfl) (Ga rfl (Af (Ax (Ay rfl rfl (I) A0 ⟨(by first|exact congrArg Value.bool (decide_eq_decide.2 (by skip;omega))|exact congrArg Value.bool (decide_eq_true (by skip;omega)).symm|exact congrArg Value.bool (decide_eq_false (by skip;omega)).symm),rfl⟩))))))
theorem EndsE_ok(e:Ev) :
    CallS Tryz.prog κ 250 [.agg #[I64 (e.kd),I64 (e.tm),I64 (e.u),I64 (e.v),I64 (e.w),I64 (e.lb),I64 (e.sg)]] I (fun r J=>r = .bool (decide (endsE e))∧I=J):=by
 refine Ce1 Tryz.func250 rfl rfl ?_
 refine Ai (Ge1 (Bd (cs:=[_,_,_,_,_,_,_]) rfl rfl rfl) fun b1=>Ga rfl (Af (Au (Ai (Gf fld108_0 rfl (Gl ty3 ?_))))))
 refine Gr (Bi rfl rfl) (Af (A7 rfl (fun c5=>?_) (fun c5=>?_)))
 ·refine Ai (Gf fld108_2 rfl (Gl ty3 ?_))
  refine Gc0 (Ap call291 rfl rfl (NodeE_ok e.u)) ?_
  refine Gm rfl (Bb (d:=9) rfl (fun g9=>?_) (fun g9=>?_))
  ·refine Gro (Ab fld108_3 rfl) (Gro (As ty3) ?_)
   exact Gro (Bi rfl rfl) (Gr (Ao rfl rfl) (Ga rfl (Af (Ar (S1 2 rfl) (Ax (Ah (Ay rfl rfl (I) A0 ⟨(by first|exact congrArg Value.bool (decide_eq_decide.2 (by unfold endsE;omega))|exact congrArg Value.bool (decide_eq_true (by unfold endsE;omega)).symm|exact congrArg Value.bool (decide_eq_false (by unfold endsE;omega)).symm),rfl⟩)))))))
  ·exact Gpo (Gpo (Gpo (Gr (Al rfl rfl) (Ga rfl (Af (Ar (S1 2 rfl) (Ax (Ah (Ay rfl rfl (I) A0 ⟨(by first|exact congrArg Value.bool (decide_eq_decide.2 (by unfold endsE;omega))|exact congrArg Value.bool (decide_eq_true (by unfold endsE;omega)).symm|exact congrArg Value.bool (decide_eq_false (by unfold endsE;omega)).symm),rfl⟩)))))))))
 ·refine Aw (Aj (Ai (Gf fld108_2 rfl (Gl ty3 ?_))))
  refine Gc0 (Ap call291 rfl rfl (NodeE_ok e.u)) ?_
  refine Gm rfl (Bb (d:=17) rfl (fun g17=>?_) (fun g17=>?_))
  ·refine Gro (Ab fld108_3 rfl) (Gro (As ty3) ?_)
   refine Eo (Cv rfl rfl rfl) (Ap call291 rfl rfl (NodeE_ok e.v)) ?_
   rintro _ _ ⟨_,_,⟨rfl,rfl⟩,rfl,rfl⟩
   refine Gr (Ao rfl rfl) (Gm rfl (Bb (d:=22) rfl (fun g22=>?_) (fun g22=>?_)))
   ·refine Gro (Ab fld108_2 rfl) (Gro (As ty3) ?_)
    refine Gro (Ab fld108_3 rfl) (Gro (As ty3) ?_)
    exact Gro (Be rfl rfl) (Gr (Ao rfl rfl) (Ga rfl (Af (Ar (S1 2 rfl) (Ax (Ay rfl rfl (I) A0 ⟨(by first|exact congrArg Value.bool (decide_eq_decide.2 (by unfold endsE;omega))|exact congrArg Value.bool (decide_eq_true (by unfold endsE;omega)).symm|exact congrArg Value.bool (decide_eq_false (by unfold endsE;omega)).symm),rfl⟩))))))
   ·exact Gpo (Gpo (Gpo (Gpo (Gpo (Gr (Al rfl rfl) (Ga rfl (Af (Ar (S1 2 rfl) (Ax (Ay rfl rfl (I) A0 ⟨(by first|exact congrArg Value.bool (decide_eq_decide.2 (by unfold endsE;omega))|exact congrArg Value.bool (decide_eq_true (by unfold endsE;omega)).symm|exact congrArg Value.bool (decide_eq_false (by unfold endsE;omega)).symm),rfl⟩))))))))))
  ·exact Gpo (Gpo (Gpo (Gr (Al rfl rfl) (Gm rfl (Gpo (Gpo (Gpo (Gpo (Gpo (Gr (Al rfl rfl) (Ga rfl (Af (Ar (S1 2 rfl) (Ax (Ay rfl rfl (I) A0 ⟨(by first|exact congrArg Value.bool (decide_eq_decide.2 (by unfold endsE;omega))|exact congrArg Value.bool (decide_eq_true (by unfold endsE;omega)).symm|exact congrArg Value.bool (decide_eq_false (by unfold endsE;omega)).symm),rfl⟩)))))))))))))))
theorem CheckE_ok(e:Ev) :
    CallS Tryz.prog κ 209 [.agg #[I64 (e.kd),I64 (e.tm),I64 (e.u),I64 (e.v),I64 (e.w),I64 (e.lb),I64 (e.sg)]] I (fun r J=>r=I64 (checkE e)∧I=J):=by
 refine Ce1 Tryz.func209 rfl rfl ?_
 refine Ai (Ge1 (Bd (cs:=[_,_,_,_,_,_,_]) rfl rfl rfl) fun b1=>Ga rfl (Af (Au (A4 (Ai (Gf fld108_0 rfl (Gl ty3 ?_)))))))
 refine Gr (A9 rfl rfl) (Gm rfl (Bb (d:=7) rfl (fun g7=>?_) (fun g7=>?_)))
 ·exact Gpo (Gpo (Gpo (Gr (Ao rfl rfl) (Ga rfl (Af (Ca rfl (Ai (Ga rfl (Af (Ar (S1 2 rfl) (Ax (Av (Ah (Ay rfl rfl (I) A0 ⟨by rw [show checkE e=8 from checkE_eight om],rfl⟩))))))))))))))
 ·refine Gro (Ab fld108_0 rfl) (Gro (As ty3) ?_)
  refine Gro (Bz rfl rfl) (Gr (Al rfl rfl) (Ga rfl (Af (A7 rfl (fun c3=>?_) (fun c3=>?_)))))
  ·exact Ai (Ga rfl (Af (Ar (S1 2 rfl) (Ax (Av (Ah (Ay rfl rfl (I) A0 ⟨by rw [show checkE e=8 from checkE_eight om],rfl⟩)))))))
  ·refine Ai (Gf fld108_1 rfl (Gl ty3 ?_))
   refine Gr (A9 rfl rfl) (Gm rfl (Bb (d:=16) rfl (fun g16=>?_) (fun g16=>?_)))
   ·exact Gpo (Gpo (Gpo (Gr (Ao rfl rfl) (Ga rfl (Af (Ar (S2 12 1 rfl rfl) (Ca rfl (Ai (Ga rfl (Af (Ax (Av (Ah (Ay rfl rfl (I) A0 ⟨by rw [show checkE e=9 from checkE_nine om om],rfl⟩))))))))))))))
   ·refine Gro (Ab fld108_1 rfl) (Gro (As ty3) ?_)
    refine Gro (Bz rfl rfl) (Gr (Al rfl rfl) (Ga rfl (Af (Ar (S2 12 1 rfl rfl) (A7 rfl (fun c12=>?_) (fun c12=>?_))))))
    ·exact Ai (Ga rfl (Af (Ax (Av (Ah (Ay rfl rfl (I) A0 ⟨by rw [show checkE e=9 from checkE_nine om om],rfl⟩))))))
    ·refine Ai (Gl7 ty108 ?_)
     refine Gc0 (Ap call250 rfl rfl (EndsE_ok e)) ?_
     refine Gr (Cw rfl) (Ga rfl (Af (A7 rfl (fun c21=>?_) (fun c21=>?_))))
     ·exact Ai (Ga rfl (Af (Ax (Av (Ah (Ay rfl rfl (I) A0 ⟨by rw [show checkE e=6 from checkE_six om om (by first|assumption|(unfold endsE;omega))],rfl⟩))))))
     ·refine Ai (Gf fld108_0 rfl (Gl ty3 ?_))
      refine Gr (Bi rfl rfl) (Gm rfl (Bb (d:=29) rfl (fun g29=>?_) (fun g29=>?_)))
      ·refine Gro (Ab fld108_4 rfl) (Gro (As ty3) ?_)
       refine Gro (Ab fld108_5 rfl) (Gro (As ty3) ?_)
       refine Gro (Ab fld108_6 rfl) (Gro (As ty3) ?_)
       refine Eo (Cv rfl rfl rfl) (Ap call251 rfl rfl (RightW_ok e.w e.lb e.sg)) ?_
       rintro _ _ ⟨_,_,⟨rfl,rfl⟩,rfl,rfl⟩
       refine Gro (Cw rfl) (Gr (Ao rfl rfl) (Ga rfl (Af (Ar (S2 25 1 rfl rfl) (A7 rfl (fun c25=>?_) (fun c25=>?_))))))
       ·exact Ai (Ga rfl (Af (Ax (Av (Ah (Ay rfl rfl (I) A0 ⟨by rw [show checkE e=1 from checkE_one om om (by first|assumption|exact Classical.not_not.1 asm|(unfold endsE;omega)) (by first|(exact .inr om)|exact .inl ⟨by omega,by assumption⟩|exact .inl ⟨by omega,fun h=>by simp_all⟩)],rfl⟩))))))
       ·refine Ai (Gf fld108_0 rfl (Gl ty3 ?_))
        refine Gr (Be rfl rfl) (Gm rfl (Bb (d:=43) rfl (fun g43=>?_) (fun g43=>?_)))
        ·refine Gro (Ab fld108_4 rfl) (Gro (As ty3) ?_)
         refine Gro (Be rfl rfl) (Gro (Ad rfl) (Bb (d:=47) rfl (fun g47=>?_) (fun g47=>?_)))
         ·exact Gpo (Gpo (Gpo (Gro (Ao rfl rfl) (Gro (Ad rfl) (Gpo (Gpo (Gpo (Gro (Ao rfl rfl) (Gr (Ao rfl rfl) (Ga rfl (Af (Ar (S1 39 rfl) (Ca rfl (Ai (Ga rfl (Af (Ax (Av (Ah (Ay rfl rfl (I) A0 ⟨by rw [show checkE e=1 from checkE_one om om (by first|assumption|exact Classical.not_not.1 asm|(unfold endsE;omega)) (by first|(exact .inr om)|exact .inl ⟨by omega,by assumption⟩|exact .inl ⟨by omega,fun h=>by simp_all⟩)],rfl⟩))))))))))))))))))))
         ·refine Gro (Ab fld108_5 rfl) (Gro (As ty3) ?_)
          refine Gro (Be rfl rfl) (Gro (Al rfl rfl) (Gro (Ad rfl) (Bb (d:=52) rfl (fun g52=>?_) (fun g52=>?_))))
          ·exact Gpo (Gpo (Gpo (Gro (Ao rfl rfl) (Gr (Ao rfl rfl) (Ga rfl (Af (Ar (S1 39 rfl) (Ca rfl (Ai (Ga rfl (Af (Ax (Av (Ah (Ay rfl rfl (I) A0 ⟨by rw [show checkE e=1 from checkE_one om om (by first|assumption|exact Classical.not_not.1 asm|(unfold endsE;omega)) (by first|(exact .inr om)|exact .inl ⟨by omega,by assumption⟩|exact .inl ⟨by omega,fun h=>by simp_all⟩)],rfl⟩)))))))))))))))
          ·refine Gro (Ab fld108_6 rfl) (Gro (As ty3) ?_)
           refine Gro (Be rfl rfl) (Gro (Al rfl rfl) (Gr (Ao rfl rfl) (Ga rfl (Af (Ar (S1 39 rfl) (A7 rfl (fun c39=>?_) (fun c39=>?_)))))))
           ·exact Ai (Ga rfl (Af (Ax (Av (Ah (Ay rfl rfl (I) A0 ⟨by rw [show checkE e=1 from checkE_one om om (by first|assumption|exact Classical.not_not.1 asm|(unfold endsE;omega)) (by first|(exact .inr om)|exact .inl ⟨by omega,by assumption⟩|exact .inl ⟨by omega,fun h=>by simp_all⟩)],rfl⟩))))))
           ·exact Aw (Ak (Aj (Ai (Ga rfl (Af (Ax (Ay rfl rfl (I) A0 ⟨by rw [show checkE e=0 from checkE_zero om om (by first|assumption|exact Classical.not_not.1 asm|(unfold endsE;omega)) (fun h=>by first|(exfalso;omega)|assumption|exact Classical.not_not.1 asm) (fun h=>by omega)],rfl⟩)))))))
        ·exact Gpo (Gpo (Gpo (Gpo (Gpu (Gpu (Gpu (Gpo (Gpo (Gpu (Gpu (Gpu (Gpo (Gr (Al rfl rfl) (Ga rfl (Af (Ar (S1 39 rfl) (C9 rfl (Aw (Ak (Aj (Ai (Ga rfl (Af (Ax (Ay rfl rfl (I) A0 ⟨by rw [show checkE e=0 from checkE_zero om om (by first|assumption|exact Classical.not_not.1 asm|(unfold endsE;omega)) (fun h=>by first|(exfalso;omega)|assumption|exact Classical.not_not.1 asm) (fun h=>by omega)],rfl⟩)))))))))))))))))))))))))
      ·refine Gpo (Gpo (Gpo (Gpo (Gpo (Gpo (Gpo (Gpo (Gr (Al rfl rfl) (Ga rfl (Af (Ar (S2 25 1 rfl rfl) (C9 rfl (Ai (Gf fld108_0 rfl (Gl ty3 ?_)))))))))))))))
       refine Gr (Be rfl rfl) (Gm rfl (Bb (d:=43) rfl (fun g43=>?_) (fun g43=>?_)))
       ·refine Gro (Ab fld108_4 rfl) (Gro (As ty3) ?_)
        refine Gro (Be rfl rfl) (Gro (Ad rfl) (Bb (d:=47) rfl (fun g47=>?_) (fun g47=>?_)))
        ·exact Gpo (Gpo (Gpo (Gro (Ao rfl rfl) (Gro (Ad rfl) (Gpo (Gpo (Gpo (Gro (Ao rfl rfl) (Gr (Ao rfl rfl) (Ga rfl (Af (Ar (S1 39 rfl) (Ca rfl (Ai (Ga rfl (Af (Ax (Av (Ah (Ay rfl rfl (I) A0 ⟨by rw [show checkE e=1 from checkE_one om om (by first|assumption|exact Classical.not_not.1 asm|(unfold endsE;omega)) (by first|(exact .inr om)|exact .inl ⟨by omega,by assumption⟩|exact .inl ⟨by omega,fun h=>by simp_all⟩)],rfl⟩))))))))))))))))))))
        ·refine Gro (Ab fld108_5 rfl) (Gro (As ty3) ?_)
         refine Gro (Be rfl rfl) (Gro (Al rfl rfl) (Gro (Ad rfl) (Bb (d:=52) rfl (fun g52=>?_) (fun g52=>?_))))
         ·exact Gpo (Gpo (Gpo (Gro (Ao rfl rfl) (Gr (Ao rfl rfl) (Ga rfl (Af (Ar (S1 39 rfl) (Ca rfl (Ai (Ga rfl (Af (Ax (Av (Ah (Ay rfl rfl (I) A0 ⟨by rw [show checkE e=1 from checkE_one om om (by first|assumption|exact Classical.not_not.1 asm|(unfold endsE;omega)) (by first|(exact .inr om)|exact .inl ⟨by omega,by assumption⟩|exact .inl ⟨by omega,fun h=>by simp_all⟩)],rfl⟩)))))))))))))))
         ·refine Gro (Ab fld108_6 rfl) (Gro (As ty3) ?_)
          refine Gro (Be rfl rfl) (Gro (Al rfl rfl) (Gr (Ao rfl rfl) (Ga rfl (Af (Ar (S1 39 rfl) (A7 rfl (fun c39=>?_) (fun c39=>?_)))))))
          ·exact Ai (Ga rfl (Af (Ax (Av (Ah (Ay rfl rfl (I) A0 ⟨by rw [show checkE e=1 from checkE_one om om (by first|assumption|exact Classical.not_not.1 asm|(unfold endsE;omega)) (by first|(exact .inr om)|exact .inl ⟨by omega,by assumption⟩|exact .inl ⟨by omega,fun h=>by simp_all⟩)],rfl⟩))))))
          ·exact Aw (Ak (Aj (Ai (Ga rfl (Af (Ax (Ay rfl rfl (I) A0 ⟨by rw [show checkE e=0 from checkE_zero om om (by first|assumption|exact Classical.not_not.1 asm|(unfold endsE;omega)) (fun h=>by first|(exfalso;omega)|assumption|exact Classical.not_not.1 asm) (fun h=>by omega)],rfl⟩)))))))
       ·exact Gpo (Gpo (Gpo (Gpo (Gpu (Gpu (Gpu (Gpo (Gpo (Gpu (Gpu (Gpu (Gpo (Gr (Al rfl rfl) (Ga rfl (Af (Ar (S1 39 rfl) (C9 rfl (Aw (Ak (Aj (Ai (Ga rfl (Af (Ax (Ay rfl rfl (I) A0 ⟨by rw [show checkE e=0 from checkE_zero om om (by first|assumption|exact Classical.not_not.1 asm|(unfold endsE;omega)) (fun h=>by first|(exfalso;omega)|assumption|exact Classical.not_not.1 asm) (fun h=>by omega)],rfl⟩)))))))))))))))))))))))))
theorem CheckE4_ok(e:Ev) :
    CallS Tryz.prog κ 155 [.agg #[I64 (e.kd),I64 (e.tm),I64 (e.u),I64 (e.v),I64 (e.w),I64 (e.lb),I64 (e.sg)]] I (fun r J=>r=I64 (checkE e)∧I=J):=by
 refine Ce1 Tryz.func155 rfl rfl ?_
 refine Ai (Ge1 (Bd (cs:=[_,_,_,_,_,_,_]) rfl rfl rfl) fun b1=>Ga rfl (Af (Au (Ai (Gf fld108_0 rfl (Gl ty3 ?_))))))
 refine Gc0 (Ap call226 rfl rfl (From4_ok e.kd 1 3)) ?_
 refine Gr (Cw rfl) (Af (A7 rfl (fun c6=>?_) (fun c6=>?_)))
 ·exact Ai (Ga rfl (Af (Ax (Ah (Ay rfl rfl (I) A0 ⟨by rw [show checkE e=8 from checkE_eight om],rfl⟩)))))
 ·refine Aw (Aj (Au (Ai (Gf fld108_1 rfl (Gl ty3 ?_)))))
  refine Gc0 (Ap call226 rfl rfl (From4_ok e.tm 0 1048576)) ?_
  refine Gr (Cw rfl) (Af (A7 rfl (fun c10=>?_) (fun c10=>?_)))
  ·exact Ai (Ga rfl (Af (Ax (Ah (Ay rfl rfl (I) A0 ⟨by rw [show checkE e=9 from checkE_nine om om],rfl⟩)))))
  ·refine Aw (Aj (Au (Ai (Gf fld108_2 rfl (Gl ty3 ?_)))))
   refine Gc0 (Ap call226 rfl rfl (From4_ok e.u 0 63)) ?_
   refine Gr (Cw rfl) (Gm rfl (Bb (d:=15) rfl (fun g15=>?_) (fun g15=>?_)))
   ·exact Gpo (Gpo (Gpo (Gpo (Gpu (Gpu (Gpu (Gpo (Gr (Ao rfl rfl) (Gm rfl (Gpo (Gpo (Gpo (Gpo (Gpu (Gpu (Gpu (Gpu (Gpu (Gpu (Gpu (Gpu (Gpu (Gpu (Gpu (Gpo (Gr (Ao rfl rfl) (Af (Ar (S2 42 1 rfl rfl) (Ca rfl (Ai (Ga rfl (Af (Ax (Ah (Ay rfl rfl (I) A0 ⟨by rw [show checkE e=6 from checkE_six om om (by first|assumption|(unfold endsE;omega))],rfl⟩)))))))))))))))))))))))))))))))))))
   ·refine Gro (Ab fld108_0 rfl) (Gro (As ty3) ?_)
    refine Gro (Bi rfl rfl) (Gro (Ad rfl) (Bb (d:=19) rfl (fun g19=>?_) (fun g19=>?_)))
    ·refine Gro (Ab fld108_3 rfl) (Gro (As ty3) ?_)
     refine Gro (Be rfl rfl) (Gro (Ao rfl rfl) (Gr (Al rfl rfl) (Gm rfl (Bb (d:=25) rfl (fun g25=>?_) (fun g25=>?_)))))
     ·exact Gpo (Gpo (Gpo (Gpo (Gpu (Gpu (Gpu (Gpu (Gpu (Gpu (Gpu (Gpu (Gpu (Gpu (Gpu (Gpo (Gr (Ao rfl rfl) (Af (Ar (S2 42 1 rfl rfl) (Ca rfl (Ai (Ga rfl (Af (Ax (Ah (Ay rfl rfl (I) A0 ⟨by rw [show checkE e=6 from checkE_six om om (by first|assumption|(unfold endsE;omega))],rfl⟩)))))))))))))))))))))))))
     ·refine Gro (Ab fld108_0 rfl) (Gro (As ty3) ?_)
      refine Gro (Be rfl rfl) (Gro (Ad rfl) (Bb (d:=29) rfl (fun g29=>?_) (fun g29=>?_)))
      ·refine Gro (Ab fld108_3 rfl) (Gro (As ty3) ?_)
       refine Eo (Cv rfl rfl rfl) (Ap call226 rfl rfl (From4_ok e.v 0 63)) ?_
       rintro _ _ ⟨_,_,⟨rfl,rfl⟩,rfl,rfl⟩
       refine Gro (Cw rfl) (Gro (Ad rfl) (Bb (d:=34) rfl (fun g34=>?_) (fun g34=>?_)))
       ·exact Gpo (Gpo (Gpo (Gpo (Gpo (Gro (Ao rfl rfl) (Gro (Ao rfl rfl) (Gr (Al rfl rfl) (Af (Ar (S2 42 1 rfl rfl) (Ca rfl (Ai (Ga rfl (Af (Ax (Ah (Ay rfl rfl (I) A0 ⟨by rw [show checkE e=6 from checkE_six om om (by first|assumption|(unfold endsE;omega))],rfl⟩))))))))))))))))
       ·refine Gro (Ab fld108_2 rfl) (Gro (As ty3) ?_)
        refine Gro (Ab fld108_3 rfl) (Gro (As ty3) ?_)
        refine Gro (Bi rfl rfl) (Gro (Al rfl rfl) (Gro (Ao rfl rfl) (Gr (Al rfl rfl) (Af (Ar (S2 42 1 rfl rfl) (A7 rfl (fun c42=>?_) (fun c42=>?_)))))))
        ·exact Ai (Ga rfl (Af (Ax (Ah (Ay rfl rfl (I) A0 ⟨by rw [show checkE e=6 from checkE_six om om (by first|assumption|(unfold endsE;omega))],rfl⟩)))))
        ·refine Aw (Aj (Au (Ai (Gf fld108_0 rfl (Gl ty3 ?_)))))
         refine Gr (Bi rfl rfl) (Af (A7 rfl (fun c45=>?_) (fun c45=>?_)))
         ·refine Ai (Gf fld108_4 rfl (Gl ty3 ?_))
          refine Gf fld108_5 rfl (Gl ty3 ?_)
          refine Gf fld108_6 rfl (Gl ty3 ?_)
          refine Gc0 (Ap call205 rfl rfl (Attr4_ok e.w e.lb e.sg)) ?_
          exact Ga rfl (Af (Ax (Ah (Ay rfl rfl (I) A0 ⟨by rw [show checkE e=if rightW e.w e.lb e.sg then 0 else 1 from checkE_set om om (by first|assumption|exact Classical.not_not.1 asm|(unfold endsE;omega))],rfl⟩))))
         ·refine Aw (Aj (Au (Ai (Gf fld108_4 rfl (Gl ty3 ?_)))))
          refine Gr (Be rfl rfl) (Gm rfl (Bb (d:=56) rfl (fun g56=>?_) (fun g56=>?_)))
          ·exact Gpo (Gpo (Gpo (Gr (Ao rfl rfl) (Gm rfl (Gpo (Gpo (Gpo (Gr (Ao rfl rfl) (Af (Ar (S1 65 rfl) (Ca rfl (Ai (Ga rfl (Af (Ax (Ah (Ay rfl rfl (I) A0 ⟨by rw [show checkE e=1 from checkE_one om om (by first|assumption|exact Classical.not_not.1 asm|(unfold endsE;omega)) (by first|(exact .inr om)|exact .inl ⟨by omega,by assumption⟩|exact .inl ⟨by omega,fun h=>by simp_all⟩)],rfl⟩)))))))))))))))))
          ·refine Gro (Ab fld108_5 rfl) (Gro (As ty3) ?_)
           refine Gro (Be rfl rfl) (Gr (Al rfl rfl) (Gm rfl (Bb (d:=61) rfl (fun g61=>?_) (fun g61=>?_))))
           ·exact Gpo (Gpo (Gpo (Gr (Ao rfl rfl) (Af (Ar (S1 65 rfl) (Ca rfl (Ai (Ga rfl (Af (Ax (Ah (Ay rfl rfl (I) A0 ⟨by rw [show checkE e=1 from checkE_one om om (by first|assumption|exact Classical.not_not.1 asm|(unfold endsE;omega)) (by first|(exact .inr om)|exact .inl ⟨by omega,by assumption⟩|exact .inl ⟨by omega,fun h=>by simp_all⟩)],rfl⟩))))))))))))
           ·refine Gro (Ab fld108_6 rfl) (Gro (As ty3) ?_)
            refine Gro (Be rfl rfl) (Gr (Al rfl rfl) (Af (Ar (S1 65 rfl) (A7 rfl (fun c65=>?_) (fun c65=>?_)))))
            ·exact Ai (Ga rfl (Af (Ax (Ah (Ay rfl rfl (I) A0 ⟨by rw [show checkE e=1 from checkE_one om om (by first|assumption|exact Classical.not_not.1 asm|(unfold endsE;omega)) (by first|(exact .inr om)|exact .inl ⟨by omega,by assumption⟩|exact .inl ⟨by omega,fun h=>by simp_all⟩)],rfl⟩)))))
            ·exact Aw (Aj (Ai (Ga rfl (Af (Ax (Ay rfl rfl (I) A0 ⟨by rw [show checkE e=0 from checkE_zero om om (by first|assumption|exact Classical.not_not.1 asm|(unfold endsE;omega)) (fun h=>by first|(exfalso;omega)|assumption|exact Classical.not_not.1 asm) (fun h=>by omega)],rfl⟩))))))
      ·refine Gpo (Gpo (Gpo (Gpo (Gpo (Gpu (Gpu (Gpu (Gpu (Gpu (Gpo (Gro (Al rfl rfl) (Gr (Al rfl rfl) (Af (Ar (S2 42 1 rfl rfl) (C9 rfl (Aw (Aj (Au (Ai (Gf fld108_0 rfl (Gl ty3 ?_)))))))))))))))))))))
       refine Gr (Bi rfl rfl) (Af (A7 rfl (fun c45=>?_) (fun c45=>?_)))
       ·refine Ai (Gf fld108_4 rfl (Gl ty3 ?_))
        refine Gf fld108_5 rfl (Gl ty3 ?_)
        refine Gf fld108_6 rfl (Gl ty3 ?_)
        refine Gc0 (Ap call205 rfl rfl (Attr4_ok e.w e.lb e.sg)) ?_
        exact Ga rfl (Af (Ax (Ah (Ay rfl rfl (I) A0 ⟨by rw [show checkE e=if rightW e.w e.lb e.sg then 0 else 1 from checkE_set om om (by first|assumption|exact Classical.not_not.1 asm|(unfold endsE;omega))],rfl⟩))))
       ·refine Aw (Aj (Au (Ai (Gf fld108_4 rfl (Gl ty3 ?_)))))
        refine Gr (Be rfl rfl) (Gm rfl (Bb (d:=56) rfl (fun g56=>?_) (fun g56=>?_)))
        ·exact Gpo (Gpo (Gpo (Gr (Ao rfl rfl) (Gm rfl (Gpo (Gpo (Gpo (Gr (Ao rfl rfl) (Af (Ar (S1 65 rfl) (Ca rfl (Ai (Ga rfl (Af (Ax (Ah (Ay rfl rfl (I) A0 ⟨by rw [show checkE e=1 from checkE_one om om (by first|assumption|exact Classical.not_not.1 asm|(unfold endsE;omega)) (by first|(exact .inr om)|exact .inl ⟨by omega,by assumption⟩|exact .inl ⟨by omega,fun h=>by simp_all⟩)],rfl⟩)))))))))))))))))
        ·refine Gro (Ab fld108_5 rfl) (Gro (As ty3) ?_)
         refine Gro (Be rfl rfl) (Gr (Al rfl rfl) (Gm rfl (Bb (d:=61) rfl (fun g61=>?_) (fun g61=>?_))))
         ·exact Gpo (Gpo (Gpo (Gr (Ao rfl rfl) (Af (Ar (S1 65 rfl) (Ca rfl (Ai (Ga rfl (Af (Ax (Ah (Ay rfl rfl (I) A0 ⟨by rw [show checkE e=1 from checkE_one om om (by first|assumption|exact Classical.not_not.1 asm|(unfold endsE;omega)) (by first|(exact .inr om)|exact .inl ⟨by omega,by assumption⟩|exact .inl ⟨by omega,fun h=>by simp_all⟩)],rfl⟩))))))))))))
         ·refine Gro (Ab fld108_6 rfl) (Gro (As ty3) ?_)
          refine Gro (Be rfl rfl) (Gr (Al rfl rfl) (Af (Ar (S1 65 rfl) (A7 rfl (fun c65=>?_) (fun c65=>?_)))))
          ·exact Ai (Ga rfl (Af (Ax (Ah (Ay rfl rfl (I) A0 ⟨by rw [show checkE e=1 from checkE_one om om (by first|assumption|exact Classical.not_not.1 asm|(unfold endsE;omega)) (by first|(exact .inr om)|exact .inl ⟨by omega,by assumption⟩|exact .inl ⟨by omega,fun h=>by simp_all⟩)],rfl⟩)))))
          ·exact Aw (Aj (Ai (Ga rfl (Af (Ax (Ay rfl rfl (I) A0 ⟨by rw [show checkE e=0 from checkE_zero om om (by first|assumption|exact Classical.not_not.1 asm|(unfold endsE;omega)) (fun h=>by first|(exfalso;omega)|assumption|exact Classical.not_not.1 asm) (fun h=>by omega)],rfl⟩))))))
    ·refine Gpo (Gpo (Gpo (Gro (Al rfl rfl) (Gr (Al rfl rfl) (Gm rfl (Gro (Ab fld108_0 rfl) (Gro (As ty3) ?_)))))))
     refine Gro (Be rfl rfl) (Gro (Ad rfl) (Bb (d:=29) rfl (fun g29=>?_) (fun g29=>?_)))
     ·refine Gro (Ab fld108_3 rfl) (Gro (As ty3) ?_)
      refine Eo (Cv rfl rfl rfl) (Ap call226 rfl rfl (From4_ok e.v 0 63)) ?_
      rintro _ _ ⟨_,_,⟨rfl,rfl⟩,rfl,rfl⟩
      refine Gro (Cw rfl) (Gro (Ad rfl) (Bb (d:=34) rfl (fun g34=>?_) (fun g34=>?_)))
      ·exact Gpo (Gpo (Gpo (Gpo (Gpo (Gro (Ao rfl rfl) (Gro (Ao rfl rfl) (Gr (Al rfl rfl) (Af (Ar (S2 42 1 rfl rfl) (Ca rfl (Ai (Ga rfl (Af (Ax (Ah (Ay rfl rfl (I) A0 ⟨by rw [show checkE e=6 from checkE_six om om (by first|assumption|(unfold endsE;omega))],rfl⟩))))))))))))))))
      ·refine Gro (Ab fld108_2 rfl) (Gro (As ty3) ?_)
       refine Gro (Ab fld108_3 rfl) (Gro (As ty3) ?_)
       refine Gro (Bi rfl rfl) (Gro (Al rfl rfl) (Gro (Ao rfl rfl) (Gr (Al rfl rfl) (Af (Ar (S2 42 1 rfl rfl) (A7 rfl (fun c42=>?_) (fun c42=>?_)))))))
       ·exact Ai (Ga rfl (Af (Ax (Ah (Ay rfl rfl (I) A0 ⟨by rw [show checkE e=6 from checkE_six om om (by first|assumption|(unfold endsE;omega))],rfl⟩)))))
       ·refine Aw (Aj (Au (Ai (Gf fld108_0 rfl (Gl ty3 ?_)))))
        refine Gr (Bi rfl rfl) (Af (A7 rfl (fun c45=>?_) (fun c45=>?_)))
        ·refine Ai (Gf fld108_4 rfl (Gl ty3 ?_))
         refine Gf fld108_5 rfl (Gl ty3 ?_)
         refine Gf fld108_6 rfl (Gl ty3 ?_)
         refine Gc0 (Ap call205 rfl rfl (Attr4_ok e.w e.lb e.sg)) ?_
         exact Ga rfl (Af (Ax (Ah (Ay rfl rfl (I) A0 ⟨by rw [show checkE e=if rightW e.w e.lb e.sg then 0 else 1 from checkE_set om om (by first|assumption|exact Classical.not_not.1 asm|(unfold endsE;omega))],rfl⟩))))
        ·refine Aw (Aj (Au (Ai (Gf fld108_4 rfl (Gl ty3 ?_)))))
         refine Gr (Be rfl rfl) (Gm rfl (Bb (d:=56) rfl (fun g56=>?_) (fun g56=>?_)))
         ·exact Gpo (Gpo (Gpo (Gr (Ao rfl rfl) (Gm rfl (Gpo (Gpo (Gpo (Gr (Ao rfl rfl) (Af (Ar (S1 65 rfl) (Ca rfl (Ai (Ga rfl (Af (Ax (Ah (Ay rfl rfl (I) A0 ⟨by rw [show checkE e=1 from checkE_one om om (by first|assumption|exact Classical.not_not.1 asm|(unfold endsE;omega)) (by first|(exact .inr om)|exact .inl ⟨by omega,by assumption⟩|exact .inl ⟨by omega,fun h=>by simp_all⟩)],rfl⟩)))))))))))))))))
         ·refine Gro (Ab fld108_5 rfl) (Gro (As ty3) ?_)
          refine Gro (Be rfl rfl) (Gr (Al rfl rfl) (Gm rfl (Bb (d:=61) rfl (fun g61=>?_) (fun g61=>?_))))
          ·exact Gpo (Gpo (Gpo (Gr (Ao rfl rfl) (Af (Ar (S1 65 rfl) (Ca rfl (Ai (Ga rfl (Af (Ax (Ah (Ay rfl rfl (I) A0 ⟨by rw [show checkE e=1 from checkE_one om om (by first|assumption|exact Classical.not_not.1 asm|(unfold endsE;omega)) (by first|(exact .inr om)|exact .inl ⟨by omega,by assumption⟩|exact .inl ⟨by omega,fun h=>by simp_all⟩)],rfl⟩))))))))))))
          ·refine Gro (Ab fld108_6 rfl) (Gro (As ty3) ?_)
           refine Gro (Be rfl rfl) (Gr (Al rfl rfl) (Af (Ar (S1 65 rfl) (A7 rfl (fun c65=>?_) (fun c65=>?_)))))
           ·exact Ai (Ga rfl (Af (Ax (Ah (Ay rfl rfl (I) A0 ⟨by rw [show checkE e=1 from checkE_one om om (by first|assumption|exact Classical.not_not.1 asm|(unfold endsE;omega)) (by first|(exact .inr om)|exact .inl ⟨by omega,by assumption⟩|exact .inl ⟨by omega,fun h=>by simp_all⟩)],rfl⟩)))))
           ·exact Aw (Aj (Ai (Ga rfl (Af (Ax (Ay rfl rfl (I) A0 ⟨by rw [show checkE e=0 from checkE_zero om om (by first|assumption|exact Classical.not_not.1 asm|(unfold endsE;omega)) (fun h=>by first|(exfalso;omega)|assumption|exact Classical.not_not.1 asm) (fun h=>by omega)],rfl⟩))))))
     ·refine Gpo (Gpo (Gpo (Gpo (Gpo (Gpu (Gpu (Gpu (Gpu (Gpu (Gpo (Gro (Al rfl rfl) (Gr (Al rfl rfl) (Af (Ar (S2 42 1 rfl rfl) (C9 rfl (Aw (Aj (Au (Ai (Gf fld108_0 rfl (Gl ty3 ?_)))))))))))))))))))))
      refine Gr (Bi rfl rfl) (Af (A7 rfl (fun c45=>?_) (fun c45=>?_)))
      ·refine Ai (Gf fld108_4 rfl (Gl ty3 ?_))
       refine Gf fld108_5 rfl (Gl ty3 ?_)
       refine Gf fld108_6 rfl (Gl ty3 ?_)
       refine Gc0 (Ap call205 rfl rfl (Attr4_ok e.w e.lb e.sg)) ?_
       exact Ga rfl (Af (Ax (Ah (Ay rfl rfl (I) A0 ⟨by rw [show checkE e=if rightW e.w e.lb e.sg then 0 else 1 from checkE_set om om (by first|assumption|exact Classical.not_not.1 asm|(unfold endsE;omega))],rfl⟩))))
      ·refine Aw (Aj (Au (Ai (Gf fld108_4 rfl (Gl ty3 ?_)))))
       refine Gr (Be rfl rfl) (Gm rfl (Bb (d:=56) rfl (fun g56=>?_) (fun g56=>?_)))
       ·exact Gpo (Gpo (Gpo (Gr (Ao rfl rfl) (Gm rfl (Gpo (Gpo (Gpo (Gr (Ao rfl rfl) (Af (Ar (S1 65 rfl) (Ca rfl (Ai (Ga rfl (Af (Ax (Ah (Ay rfl rfl (I) A0 ⟨by rw [show checkE e=1 from checkE_one om om (by first|assumption|exact Classical.not_not.1 asm|(unfold endsE;omega)) (by first|(exact .inr om)|exact .inl ⟨by omega,by assumption⟩|exact .inl ⟨by omega,fun h=>by simp_all⟩)],rfl⟩)))))))))))))))))
       ·refine Gro (Ab fld108_5 rfl) (Gro (As ty3) ?_)
        refine Gro (Be rfl rfl) (Gr (Al rfl rfl) (Gm rfl (Bb (d:=61) rfl (fun g61=>?_) (fun g61=>?_))))
        ·exact Gpo (Gpo (Gpo (Gr (Ao rfl rfl) (Af (Ar (S1 65 rfl) (Ca rfl (Ai (Ga rfl (Af (Ax (Ah (Ay rfl rfl (I) A0 ⟨by rw [show checkE e=1 from checkE_one om om (by first|assumption|exact Classical.not_not.1 asm|(unfold endsE;omega)) (by first|(exact .inr om)|exact .inl ⟨by omega,by assumption⟩|exact .inl ⟨by omega,fun h=>by simp_all⟩)],rfl⟩))))))))))))
        ·refine Gro (Ab fld108_6 rfl) (Gro (As ty3) ?_)
         refine Gro (Be rfl rfl) (Gr (Al rfl rfl) (Af (Ar (S1 65 rfl) (A7 rfl (fun c65=>?_) (fun c65=>?_)))))
         ·exact Ai (Ga rfl (Af (Ax (Ah (Ay rfl rfl (I) A0 ⟨by rw [show checkE e=1 from checkE_one om om (by first|assumption|exact Classical.not_not.1 asm|(unfold endsE;omega)) (by first|(exact .inr om)|exact .inl ⟨by omega,by assumption⟩|exact .inl ⟨by omega,fun h=>by simp_all⟩)],rfl⟩)))))
         ·exact Aw (Aj (Ai (Ga rfl (Af (Ax (Ay rfl rfl (I) A0 ⟨by rw [show checkE e=0 from checkE_zero om om (by first|assumption|exact Classical.not_not.1 asm|(unfold endsE;omega)) (fun h=>by first|(exfalso;omega)|assumption|exact Classical.not_not.1 asm) (fun h=>by omega)],rfl⟩))))))
theorem FitsE_ok(nd:Int)(e:Ev) :
    CallS Tryz.prog κ 210 [I64 (nd),.agg #[I64 (e.kd),I64 (e.tm),I64 (e.u),I64 (e.v),I64 (e.w),I64 (e.lb),I64 (e.sg)]] I (fun r J=>r=I64 (fitE nd e)∧I=J):=by
 refine Ce2 Tryz.func210 rfl rfl ?_
 refine Ai (Ge1 (Bd (cs:=[_,_,_,_,_,_,_]) rfl rfl rfl) fun b1=>Ga rfl (Af (Au (Ai (Gl7 ty108 ?_)))))
 refine Gc0 (Ap call209 rfl rfl (CheckE_ok e)) ?_
 refine Ga rfl (Af (Ai (Gm rfl (Gr (Be rfl rfl) (Af (A7 rfl (fun c9=>?_) (fun c9=>?_)))))))
 ·exact Ai (Gm rfl (Ga rfl (Af (Ax (Ah (Ay rfl rfl (I) A0 ⟨by rw [show fitE nd e=checkE e from (by unfold fitE;rw [if_pos c9])],rfl⟩))))))
 ·refine Aw (Aj (Au (Ai (Gf fld108_2 rfl (Gl ty3 ?_)))))
  refine Gm rfl (Gr (B6 rfl rfl) (Gm rfl (Bb (d:=15) rfl (fun g15=>?_) (fun g15=>?_))))
  ·exact Gpo (Gpo (Gpo (Gpo (Gr (Ao rfl rfl) (Af (Ar (S1 20 rfl) (Ca rfl (Ai (Ga rfl (Af (Ax (Ah (Ay rfl rfl (I) A0 ⟨by rw [show fitE nd e=6 from (by unfold fitE;rw [if_neg c9,if_pos om])],rfl⟩)))))))))))))
  ·refine Gro (Ab fld108_3 rfl) (Gro (As ty3) ?_)
   refine Gro (Ad rfl) (Gro (B6 rfl rfl) (Gr (Al rfl rfl) (Af (Ar (S1 20 rfl) (A7 rfl (fun c20=>?_) (fun c20=>?_))))))
   ·exact Ai (Ga rfl (Af (Ax (Ah (Ay rfl rfl (I) A0 ⟨by rw [show fitE nd e=6 from (by unfold fitE;rw [if_neg c9,if_pos om])],rfl⟩)))))
   ·exact Aw (Aj (Ai (Ga rfl (Af (Ax (Ay rfl rfl (I) A0 ⟨by rw [show fitE nd e=0 from (by unfold fitE;rw [if_neg c9,if_neg om])],rfl⟩))))))
set_option maxHeartbeats 2000000 in
theorem Set5_ok(l:Lk)(nw:Int) :
    CallS Tryz.prog κ 163 [.agg #[I64 (l.u),I64 (l.v),I64 (l.w),I64 (l.lb),I64 (l.sg),I64 (l.tm)],I64 (nw)] I (fun r J=>r = .agg #[I64 1,I64 nw,I64 l.u,I64 l.v,I64 l.w,I64 l.lb,I64 l.sg]∧I=J):=by
 refine Ce2 Tryz.func163 rfl rfl ?_
 refine Ai (Ge1 (Bd (cs:=[_,_,_,_,_,_]) rfl rfl rfl) fun b1=>Ge1 (A8 ty108 rfl) fun b2=>Af (Ai (Gm rfl (Gf fld146_0 rfl (Gl ty3 ?_)))))
 refine Gf fld146_1 rfl (Gl ty3 ?_)
 refine Gf fld146_2 rfl (Gl ty3 ?_)
 refine Gf fld146_3 rfl (Gl ty3 ?_)
 refine Gf fld146_4 rfl (Gl ty3 ?_)
 refine Gr (Bl (cells:=[_,_,_,_,_,_,_]) ty108 C4 pl108 rfl rfl) (Ge0 (Es7_7 ty108) ?_)
 exact Af (Ar (S1 4 rfl) (Ax (D1 rfl ty108 rfl mm rfl (I) A0 ⟨rfl,rfl⟩)))
theorem fitE_chk{nd:Int}{e:Ev}(h:checkE e≠0):fitE nd e=checkE e:=by unfold fitE;rw [if_pos h]
theorem Stream_ok{κ:Ctx}{I:List Item}{nd:Int}{va:Value}{es:List Ev}(hl:Sl κ I va es) :
    CallS Tryz.prog κ 139 [I64 (nd),va] I (fun r J=>r=I64 (streamE nd es)∧I=J):=by
 refine B4 hl.le fun hmax=>?_
 refine Ce2 Tryz.func139 rfl rfl ?_
 refine Ai (Ga rfl (Af (Au (A4 (Ai (Gm rfl (Gr (A9 rfl rfl) (Gm rfl (Bb (d:=13) rfl (fun g13=>?_) (fun g13=>?_))))))))))
 ·exact Gpo (Gpo (Gr (Ao rfl rfl) (Ga rfl (Af (Ca rfl (Ai (Ga rfl (Af (Ax (Av (Ah (Ay rfl rfl (I) A0 ⟨by rw [show streamE nd es=1 from (by unfold streamE;rw [if_pos om])],rfl⟩))))))))))))
 ·refine Gro (Ad rfl) (Gro (Bz rfl rfl) (Gr (Al rfl rfl) (Ga rfl (Af (A7 rfl (fun c10=>?_) (fun c10=>?_))))))
  ·exact Ai (Ga rfl (Af (Ax (Av (Ah (Ay rfl rfl (I) A0 ⟨by rw [show streamE nd es=1 from (by unfold streamE;rw [if_pos om])],rfl⟩))))))
  ·refine Ai (Gm rfl (Gr (Bx (α:=Ev) (xs:=es) A1 rfl (Bj hl)) (Gr (Bz rfl rfl) (Ga rfl (Af (Ar (S3 17 0 1 rfl rfl rfl) (A7 rfl (fun c17=>?_) (fun c17=>?_))))))))
   ·exact Ai (Ga rfl (Af (Ax (Av (Ah (Ay rfl rfl (I) A0 ⟨by rw [show streamE nd es=3 from (by unfold streamE;rw [if_neg om,if_pos om])],rfl⟩))))))
   ·refine Aw (Ak (Aj (Ai (Ga rfl (Af (Au (Ai (Gm rfl (Gr (Bx (α:=Ev) (xs:=es) A1 rfl (Bj hl)) (Gm rfl (Af (A4 (Bv (σ:=Nat) (fun s=>([(0,I64 (nd)),(5,I64 (lastT es s)),(21,va),(22,I64 (((es.length:Nat):Int))),(23,I64 (((s:Nat):Int)))]:Env)) (fun s=>I) (fun s=>(s≤es.length)∧(streamE nd es=streamS nd (lastT es s) (es.drop s))) (fun s=>es.length - s) (0) (show ((0:Nat)≤es.length)∧(streamE nd es=streamS nd (lastT es (0:Nat)) (es.drop (0:Nat))) from ⟨om,(by unfold streamE;rw [if_neg om,if_neg om];rfl)⟩) (Aa rfl (Aa (D8 rfl (by first|omega|(dsimp only<;>omega)|exact (rfl:(0:Int)=lastT es 0)|exact (lastT_succ es k).symm)) (Aa rfl (Aa rfl (Aa (D8 rfl (by first|omega|(dsimp only<;>omega)|exact (rfl:(0:Int)=lastT es 0)|exact (lastT_succ es k).symm)) Bg))))) (show Fit κ _ (I) from A5) ?_)))))))))))))
    rintro k hp
    obtain ⟨hk,hs⟩:=hp
    refine Ai (Gr (A9 rfl rfl) (Af (Au (A7 rfl (fun c24=>?_) (fun c24=>?_)))))
    ·refine Aw (Aj (Au (A4 (Ai (Gr (A3 (α:=Ev) (xs:=es) A1 ty108 rfl rfl (Bj hl) om om) (Gr (Bu (α:=Ev) (xs:=es) ty108 rfl (Bj hl) om om) (Ge1 (A8 ty108 rfl) fun b1=>Ge0 (Es7_7 ty108) ?_)))))))
     refine Af (Au (Ai (Gl7 ty108 ?_)))
     refine Gc0 (Ap call209 rfl rfl (CheckE_ok (at_ es (k:Int)))) ?_
     refine Ga rfl (Af (Ai (Gm rfl (Gr (Be rfl rfl) (Af (Ar (S8 30 8 7 0 5 21 22 23 rfl rfl rfl rfl rfl rfl rfl rfl) (A7 rfl (fun c30=>?_) (fun c30=>?_))))))))
     ·exact Ai (Gm rfl (Ga rfl (Af (Ax (Ah (Av (Ah (Ah (Av (Ah (Ay rfl rfl (I) A0 ⟨by rw [show streamE nd es=checkE (at_ es (k:Int)) from (hs.trans ((streamS_bad om (by rw [fitE_chk c30];exact c30)).trans (fitE_chk c30)))],rfl⟩)))))))))))
     ·refine Aw (Aj (Au (Ai (Gm rfl (Gl7 ty108 ?_)))))
      refine Gc0 (Ap call210 rfl rfl (FitsE_ok nd (at_ es (k:Int)))) ?_
      refine Ga rfl (Af (Ai (Gm rfl (Gr (Be rfl rfl) (Af (Ar (S8 36 9 7 0 5 21 22 23 rfl rfl rfl rfl rfl rfl rfl rfl) (A7 rfl (fun c36=>?_) (fun c36=>?_))))))))
      ·exact Ai (Gm rfl (Ga rfl (Af (Ax (Ah (Av (Ah (Ah (Av (Ah (Ay rfl rfl (I) A0 ⟨by rw [show streamE nd es=fitE nd (at_ es (k:Int)) from (hs.trans (streamS_bad om c36))],rfl⟩)))))))))))
      ·refine Aw (Aj (Au (Ai (Gf fld108_1 rfl (Gl ty3 ?_)))))
       refine Gm rfl (Gr (A9 rfl rfl) (Af (A7 rfl (fun c41=>?_) (fun c41=>?_))))
       ·exact Ai (Ga rfl (Af (Ax (Ah (Av (Ah (Ah (Av (Ah (Ay rfl rfl (I) A0 ⟨by rw [show streamE nd es=9 from (hs.trans (streamS_late om (Classical.not_not.1 c36) om))],rfl⟩))))))))))
       ·refine Aw (Aj (Az (Gf fld108_1 rfl (Gl ty3 ?_))))
        exact Ga rfl (Bc (Ak (Aj (Ar (S5 5 0 21 22 23 rfl rfl rfl rfl rfl) (Az (Gr (Rad rfl rfl) (Gm rfl (Bc (B3 ((k+1)) ⟨om,(hs.trans (streamS_step om (Classical.not_not.1 c36) om))⟩ (hL:=(Aa rfl (Aa (D8 rfl (by first|omega|(dsimp only<;>omega)|exact (rfl:(0:Int)=lastT es 0)|exact (lastT_succ es k).symm)) (Aa rfl (Aa rfl (Aa (D8 rfl (by first|omega|(dsimp only<;>omega)|exact (rfl:(0:Int)=lastT es 0)|exact (lastT_succ es k).symm)) Bg)))))))))))))))
    ·exact Bs (Am (Am (A6 (Aj (Ai (Ga rfl (Af (Ax (Ay rfl rfl (I) A0 ⟨by rw [show streamE nd es=0 from (hs.trans (streamS_end om))],rfl⟩)))))))))
variable {κ:Ctx}{I:List Item}
theorem ov324:∀args w,(callFunc 324 args).run Tryz.prog w=((Extern.SlicesOverlaps.overlaps #[109,109] #[4] args).run Tryz.prog w).andThen fun v w'=> .ok (.value v) w':=fun args w=>run_callFunc_extern (e:=Extern.SlicesOverlaps.overlaps #[109,109] #[4]) Tryz.func324 kr kr kr kr args w
set_option maxHeartbeats 8000000 in
theorem InsertL_ok{a va:Option Addr}{c vcp i:Nat}{xs ys:List Lk}(hi:i≤xs.length)(hy:0<ys.length)(hsz:xs.length+ys.length≤1000000000) :
    CallS Tryz.prog κ 303 [.slice a xs.length c,I64 ((i:Int)),.slice va ys.length vcp] (vc 146 (.slice a xs.length c) (xs)::vc 146 (.slice va ys.length vcp) (ys)::I) (fun r J=>∃a' c',r = .slice a' (List.take i xs++ys++List.drop i xs).length c'∧J=vc 146 (.slice a' (List.take i xs++ys++List.drop i xs).length c') (List.take i xs++ys++List.drop i xs)::I):=by
 refine B4 (vc.cap List.mem_cons_self) fun hcap=>?_
 have hRl:(List.take i xs++ys++List.drop i xs).length=xs.length+ys.length:=by simp only [List.length_append,List.length_take,List.length_drop];omega
 refine Ce3 Tryz.func303 rfl rfl ?_
 refine Ai (Ga rfl (Af (Ai (Gm rfl (Gm rfl (Gr (Ec (α:=Lk) (xs:=xs) (l:=i) Aq ty146 rfl rfl om Bf lat) (Af (Ai (Gm rfl (Gr (Bp Aq rfl) (Ga rfl (Af (Au (Ai (Gm rfl (Gr (Bi rfl rfl) (Af (A7 rfl (fun c16=>?_) (fun c16=>?_)))))))))))))))))))
 ·exact absurd c16 om
 ·refine Aw (Aj (Ai (Gm rfl (Gr (Bp Aq rfl) (Ga rfl (Af (Ar (S5 8 7 0 1 2 rfl rfl rfl rfl rfl) (Au (Ai (Gm rfl (Gm rfl (Gr (Bi rfl rfl) (Af (A7 rfl (fun c22=>?_) (fun c22=>?_)))))))))))))))
  ·refine Ai (Gm rfl (Gm rfl (Ge2 (B0 (α:=Lk) (e:=146) (xs:=xs) (ys:=ys) Aq ty146 rfl rfl rfl mm Bf om dc rfl (fun _ _=>am)) fun ad1 cp2=>?_)))
   refine Ga rfl (Af (Ax (Ah ?_)))
   have hR:List.take i xs++ys++List.drop i xs=xs++ys:=by rw [List.take_of_length_le om,List.drop_eq_nil_of_le om,List.append_nil]
   exact Ay rfl rfl (vc 146 (.slice ad1 (List.take i xs++ys++List.drop i xs).length cp2) (List.take i xs++ys++List.drop i xs)::I) (by rw [hR];exact Bt) ⟨ad1,cp2,by rw [hR],rfl⟩
  ·refine Aw (Aj (Au (Ai (Gm rfl (Gm rfl (Gr (Rad rfl rfl) (Gm rfl (Gr (Runs.caps Aq rfl) (Gr (Bz rfl rfl) (Af (Ar (S6 31 8 7 0 1 2 rfl rfl rfl rfl rfl rfl) (A7 rfl (fun c31=>?_) (fun c31=>?_)))))))))))))
   ·refine Ai (Gm rfl (Gm rfl (Gr (Runs.hiraw (h:=i) Aq ty146 rfl rfl om om) (Gm rfl (Gm rfl (Gr (Rad rfl rfl) (Gm rfl (Gr (Rsu rfl rfl) (Ge2 (Eff.grow (α:=Lk) (xs:=xs) (k:=xs.length+ys.length - i) Aq Bm ty146 rfl rfl rfl om Bf om om om om dc rfl) fun ad3 cp4=>?_)))))))))
    refine Ga rfl (G.pull (p:=(List.take i xs++List.replicate (xs.length+ys.length - i) (default:Lk)).length≤cp4) (vc.cap mm) fun hcap2=>?_)
    have hZl:(List.take i xs++List.replicate (xs.length+ys.length - i) (default:Lk)).length=xs.length+ys.length:=by simp only [List.length_append,List.length_take,List.length_replicate];omega
    refine Af (Ar (S5 9 7 0 1 2 rfl rfl rfl rfl rfl) (Ai (Gm rfl (Gm rfl (Gr (Ec (α:=Lk) (xs:=List.take i xs++List.replicate (xs.length+ys.length - i) (default:Lk)) (l:=i) Aq ty146 rfl rfl om Bf lat) (Gm rfl (Ge0 (Eff.copyT (α:=Lk) (k:=i) (q:=ys.length) (R:=List.take i xs++ys++List.replicate (xs.length - i) (default:Lk)) (n:=(i+(xs.length+ys.length - i))) Aq ty146 rfl lat rfl Bf lat lat rfl (ins1 hi) lat am) ?_)))))))
    refine Af (Au (Bk mixed (Bo (I) 9 (Dr 0 rfl (Ad rfl) (Dr 1 rfl (Ad rfl) (Dr 2 rfl (Ad rfl) (Dr 3 rfl (Rad rfl rfl) (Dr 4 rfl (Ea (l:=(i+ys.length)) Aq ty146 rfl rfl om om om) (Dr 5 rfl (Ad rfl) (Dr 6 rfl (Ad rfl) (Dr 7 rfl (Ea (l:=i) Aq ty146 rfl rfl om om om) (Ds1 8 (Se0 rfl (Eff.copyT (α:=Lk) (k:=(i+ys.length)) (q:=(xs.length - i)) (R:=List.take i xs++ys++List.drop i xs) (n:=(i+(xs.length+ys.length - i))) Aq ty146 rfl lat rfl (E0 (E5 (xs:=xs) mm) om om) lat lat rfl (ins2 hi) lat am) ?_)))))))))))))
    exact Dz (Aj (Ar (S1 9 rfl) (Ai (Gm rfl (Ga rfl (Af (Ax (Ah (Ay rfl rfl (vc 146 (.slice ad3 (List.take i xs++ys++List.drop i xs).length cp4) (List.take i xs++ys++List.drop i xs)::I) (by rw [show (List.take i xs++ys++List.drop i xs).length=i+(xs.length+ys.length - i) by omega];exact Bt) ⟨ad3,cp4,by rw [show (List.take i xs++ys++List.drop i xs).length=i+(xs.length+ys.length - i) by omega],rfl⟩)))))))))
   ·refine Aw (Aj (Ai (Gm rfl (Gm rfl (Gm rfl (Gr (Rad rfl rfl) (Gr (Runs.hiraw (h:=xs.length+ys.length) Aq ty146 rfl rfl om om) (Ga rfl (G.room (h:=xs.length+ys.length) (by repeat (first|exact AtF.head _ _|apply AtF.tail)) rfl om om (fun js hjs=>?_))))))))))
    show G Tryz.prog κ _ _ _ _ ([(0,.slice a (xs.length+ys.length) c),(60,.slice a (xs.length+ys.length) c),(59,I64 (((xs.length:Nat):Int)+((ys.length:Nat):Int))),(58,I64 (((ys.length:Nat):Int))),(57,I64 (((xs.length:Nat):Int))),(56,.slice a xs.length c),(31,.bool (decide ((c:Int)<(((xs.length:Nat):Int)+((ys.length:Nat):Int))))),(8,I64 (((xs.length:Nat):Int))),(7,I64 (((ys.length:Nat):Int))),(0,.slice a xs.length c),(1,I64 ((i:Int))),(2,.slice va ys.length vcp)]:Env) (vec 146 (Enc.sz Lk) (.slice a (xs.length+ys.length) c) (xs.length+ys.length) (cells xs++js)::vc 146 (.slice va ys.length vcp) (ys)::I)
    refine Af (Au (Ai (Gm rfl (Gm rfl (Gm rfl (Gm rfl (Gr (Rad rfl rfl) (Gr (Ea (l:=(i+ys.length)) Aq ty146 rfl rfl om om om) (Ge0 (Eff.overlaps (k:=i+ys.length) ov324 Aq ty146 rfl rfl om om om (show Fit κ _ (vc 146 (.slice va ys.length vcp) ys::vec 146 (Enc.sz Lk) (.slice a (xs.length+ys.length) c) (xs.length+ys.length) (cells xs++js)::I) from Fit.sp (Sp.pick (Pick.tail _ (Pick.head _ _)) (Sp.refl _))) (Nat.mul_pos om Enc.pos) rfl) ?_)))))))))
    refine Gr (Cu rfl) (Af (Ar (S6 68 0 8 7 1 2 rfl rfl rfl rfl rfl rfl) (Ca rfl (Au (Bk mixed (Bo (I) 9 (Dr 0 rfl (Ad rfl) (Dr 1 rfl (Ad rfl) (Dr 2 rfl (Ad rfl) (Dr 3 rfl (Rad rfl rfl) (Dr 4 rfl (Ea (l:=(i+ys.length)) Aq ty146 rfl rfl om om om) (Dr 5 rfl (Ad rfl) (Dr 6 rfl (Ad rfl) (Dr 7 rfl (Ea (l:=i) Aq ty146 rfl rfl om om om) (Ds1 8 (Se0 rfl (Eff.copyR (sz:=Enc.sz Lk) (n:=xs.length+ys.length) (cs:=(cells xs++js)) (k:=(i+ys.length)) (q:=(xs.length - i)) Aq ty146 rfl om rfl (SlRd.dropR (SlRd.vec mm) om) om om (ins_one hi) rfl am) ?_))))))))))))))))
    show D Tryz.prog κ _ _ _ _ _ _ _ ([(77,I64 ((((xs.length - i):Nat):Int))),(76,.slice (adrop a c i (Enc.sz Lk)) ((xs.length+ys.length) - i) (c - i)),(75,I64 ((i:Int))),(74,.slice a (xs.length+ys.length) c),(73,.slice (adrop a c (i+ys.length) (Enc.sz Lk)) ((xs.length+ys.length) - (i+ys.length)) (c - (i+ys.length))),(72,I64 ((i:Int)+((ys.length:Nat):Int))),(71,I64 (((ys.length:Nat):Int))),(70,I64 ((i:Int))),(69,.slice a (xs.length+ys.length) c),(68,.bool true),(0,.slice a (xs.length+ys.length) c),(8,I64 (((xs.length:Nat):Int))),(7,I64 (((ys.length:Nat):Int))),(1,I64 ((i:Int))),(2,.slice va ys.length vcp)]:Env) (vec 146 (Enc.sz Lk) (.slice a (xs.length+ys.length) c) (xs.length+ys.length) (List.take ((i+ys.length)*Enc.sz Lk) (cells xs++js)++List.take ((xs.length - i)*Enc.sz Lk) (List.drop (i*Enc.sz Lk) (cells xs++js))++List.drop ((i+ys.length)*Enc.sz Lk+(xs.length - i)*Enc.sz Lk) (cells xs++js))::vc 146 (.slice va ys.length vcp) (ys)::I)
    refine Dz (Aj (Ar (S3 0 1 2 rfl rfl rfl) (Ai (Gm rfl (Gm rfl (Gr (Ea (l:=i) Aq ty146 rfl rfl om om om) (Gm rfl (Ge0 (Eff.copyR (sz:=Enc.sz Lk) (n:=xs.length+ys.length) (cs:=(List.take ((i+ys.length)*Enc.sz Lk) (cells xs++js)++List.take ((xs.length - i)*Enc.sz Lk) (List.drop (i*Enc.sz Lk) (cells xs++js))++List.drop ((i+ys.length)*Enc.sz Lk+(xs.length - i)*Enc.sz Lk) (cells xs++js))) (k:=i) (q:=ys.length) Aq ty146 rfl om rfl (show Sl κ _ (.slice va ys.length vcp) ys from (E5 (e:=146) (xs:=ys) mm)) om om (fun u hu=>cells_one ys u (List.mem_of_mem_take hu)) rfl am) ?_))))))))
    show G Tryz.prog κ _ _ _ _ ([(82,I64 (((ys.length:Nat):Int))),(81,.slice va ys.length vcp),(80,.slice (adrop a c i (Enc.sz Lk)) ((xs.length+ys.length) - i) (c - i)),(79,I64 ((i:Int))),(78,.slice a (xs.length+ys.length) c),(0,.slice a (xs.length+ys.length) c),(1,I64 ((i:Int))),(2,.slice va ys.length vcp)]:Env) (vec 146 (Enc.sz Lk) (.slice a (xs.length+ys.length) c) (xs.length+ys.length) (List.take (i*Enc.sz Lk) (List.take ((i+ys.length)*Enc.sz Lk) (cells xs++js)++List.take ((xs.length - i)*Enc.sz Lk) (List.drop (i*Enc.sz Lk) (cells xs++js))++List.drop ((i+ys.length)*Enc.sz Lk+(xs.length - i)*Enc.sz Lk) (cells xs++js))++List.take (ys.length*Enc.sz Lk) (cells ys)++List.drop (i*Enc.sz Lk+ys.length*Enc.sz Lk) (List.take ((i+ys.length)*Enc.sz Lk) (cells xs++js)++List.take ((xs.length - i)*Enc.sz Lk) (List.drop (i*Enc.sz Lk) (cells xs++js))++List.drop ((i+ys.length)*Enc.sz Lk+(xs.length - i)*Enc.sz Lk) (cells xs++js)))::vc 146 (.slice va ys.length vcp) (ys)::I)
    refine Af (Ai (Gm rfl (Ga rfl (Af (Ax (Ah ?_))))))
    have hC:(List.take (i*Enc.sz Lk) (List.take ((i+ys.length)*Enc.sz Lk) (cells xs++js)++List.take ((xs.length - i)*Enc.sz Lk) (List.drop (i*Enc.sz Lk) (cells xs++js))++List.drop ((i+ys.length)*Enc.sz Lk+(xs.length - i)*Enc.sz Lk) (cells xs++js))++List.take (ys.length*Enc.sz Lk) (cells ys)++List.drop (i*Enc.sz Lk+ys.length*Enc.sz Lk) (List.take ((i+ys.length)*Enc.sz Lk) (cells xs++js)++List.take ((xs.length - i)*Enc.sz Lk) (List.drop (i*Enc.sz Lk) (cells xs++js))++List.drop ((i+ys.length)*Enc.sz Lk+(xs.length - i)*Enc.sz Lk) (cells xs++js)))=cells (List.take i xs++ys++List.drop i xs):=ins_cells hi hjs
    exact Ay rfl rfl (vc 146 (.slice a (List.take i xs++ys++List.drop i xs).length c) (List.take i xs++ys++List.drop i xs)::I) (by rw [hC];show Fit κ _ (vec 146 _ (.slice a (List.take i xs++ys++List.drop i xs).length c) (List.take i xs++ys++List.drop i xs).length (cells (List.take i xs++ys++List.drop i xs))::I);rw [hRl];exact Bt) ⟨a,c,by rw [hRl],rfl⟩
theorem InsertL_two{a va:Option Addr}{n m c vcp i:Nat}{xs ys:List Lk}{K:List Item}(hf:Fit κ I (vc 146 (.slice a n c) xs::vc 146 (.slice va m vcp) ys::K))(hn:n=xs.length)(hm:m=ys.length)(hi:i≤xs.length)(hy:0<ys.length)(hsz:xs.length+ys.length≤1000000000) :
  CallS Tryz.prog κ 303 [.slice a n c,I64 (i:Int),.slice va m vcp] I (fun r J=>∃a' c',r = .slice a' (List.take i xs++ys++List.drop i xs).length c'∧J=vc 146 (.slice a' (List.take i xs++ys++List.drop i xs).length c') (List.take i xs++ys++List.drop i xs)::K):=by
 subst hn hm
 exact Cj hf (InsertL_ok hi hy hsz)
theorem BSearchL{v:Value}{xs:List Lk}(hl:Sl κ I v xs)(x:Lk){g:FuncId}{cp_:List Value}{cf:Lk→Lk→Int}(hcb:Cmps Tryz.prog κ I g cp_ cf)(hsz:xs.length≤1000000000000) :
    CallS Tryz.prog κ 302 [v,.agg #[I64 (x.u),I64 (x.v),I64 (x.w),I64 (x.lb),I64 (x.sg),I64 (x.tm)],.func (.func g) #[] cp_.toArray] I (fun r J=>∃i b,r = .tuple #[I64 ((i:Nat):Int),.bool b]∧BFound cf xs x i b∧I=J):=by
 refine B4 hl.le fun hmax=>?_
 refine Ce3 Tryz.func302 rfl rfl ?_
 refine Ai (Ge1 (Bd (cs:=[_,_,_,_,_,_]) rfl rfl rfl) fun b1=>Ga rfl (Ga rfl (Af (Ai (Gm rfl (Gr (Bx (α:=Lk) (xs:=xs) Aq rfl (Bj hl)) (Ga rfl (Af (Ai (Gm rfl (Ga rfl (Ga rfl (Af (Au (A4 (Bv (σ:=Nat×Nat) (fun s=>([(0,v),(2,.func (.func g) #[] cp_.toArray),(4,.pointer (some ⟨b1,0,none⟩)),(8,I64 (((xs.length:Nat):Int))),(9,I64 (((s.1:Nat):Int))),(10,I64 (((s.2:Nat):Int)))]:Env)) (fun s=>blk b1 [I64 (x.u),I64 (x.v),I64 (x.w),I64 (x.lb),I64 (x.sg),I64 (x.tm)] 146::I) (fun s=>(s.1≤s.2)∧(s.2≤xs.length)∧(0<s.1→cf (at_ xs ((s.1:Int) - 1)) x<0)∧(s.2<xs.length→¬cf (at_ xs (s.2:Int)) x<0)) (fun s=>s.2 - s.1) (0,xs.length) (show ((0:Nat)≤(xs.length:Nat))∧((xs.length:Nat)≤xs.length)∧(0<(0:Nat)→cf (at_ xs (((0:Nat):Int) - 1)) x<0)∧((xs.length:Nat)<xs.length→¬cf (at_ xs ((xs.length:Nat):Int)) x<0) from ⟨om,om,(fun h=>absurd h dc),(fun h=>absurd h om)⟩) (Aa rfl (Aa rfl (Aa rfl (Aa rfl (Aa B8 (Aa B8 Bg)))))) (show Fit κ _ (blk b1 [I64 (x.u),I64 (x.v),I64 (x.w),I64 (x.lb),I64 (x.sg),I64 (x.tm)] 146::I) from A5) ?_))))))))))))))))
 rintro ⟨i,j⟩ hp
 dsimp only at hp ⊢
 obtain ⟨hij,hj,hlo,hhi⟩:=hp
 refine Au (Ai (Gm rfl (Gm rfl (Gr (A9 rfl rfl) (Af (A7 rfl (fun c17=>?_) (fun c17=>?_)))))))
 ·refine Aw (Aj (A4 (Ai (Gm rfl (Gm rfl (Gr (Rad rfl rfl) (Gr (Runs.convU Bm El rfl om) (Gr (Runs.shr1 rfl rfl) (Gr (Runs.convI El Bm rfl (by unfold InR;omega)) (Ga rfl (Af (Ar (S7 11 0 2 4 8 9 10 rfl rfl rfl rfl rfl rfl rfl) (Au (Bk mixed (Bo (blk b1 [I64 (x.u),I64 (x.v),I64 (x.w),I64 (x.lb),I64 (x.sg),I64 (x.tm)] 146::I) 8 (Dr 0 rfl (Ad rfl) (Dr 1 rfl (Ad rfl) (Dr 2 rfl (Ad rfl) (Dr 3 rfl (A3 (α:=Lk) (xs:=xs) Aq ty146 rfl rfl (Bj hl) om om) (Dr 4 rfl (Bu (α:=Lk) (xs:=xs) ty146 rfl (Bj hl) om om) (Dr 5 rfl (Bq (vs:=[_,_,_,_,_,_]) ty146) ?_)))))))))))))))))))))
  refine Ds1 6 (Se rfl (Cx hcb.1 (first:=[]) (caps:=cp_) rfl rfl rfl (hcb.2 (at_ xs (((i:Int)+(j:Int)) / 2)) x _ A0)) ?_)
  rintro _ _ ⟨_,_,⟨rfl,rfl⟩,rfl,rfl⟩
  refine ⟨A5,?_⟩
  refine Dr 7 rfl (A9 rfl rfl) (Dz (Aj (Ar (S8 31 11 0 2 4 8 9 10 rfl rfl rfl rfl rfl rfl rfl rfl) (A7 rfl (fun c31=>?_) (fun c31=>?_)))))
  ·exact Az (Gm rfl (Gr (Rad rfl rfl) (Ga rfl (Bc (Ak (B3 (((i+j) / 2+1),(j)) (by dsimp only;exact ⟨om,om,(fun _=>by rw [show (((i+j) / 2+1:Nat):Int) - 1=((i:Int)+(j:Int)) / 2 by omega];exact c31),hhi⟩)))))))
  ·exact Az (Gm rfl (Ga rfl (Bc (Ak (B3 ((i),((i+j) / 2)) (by dsimp only;exact ⟨om,om,hlo,(fun _=>by rw [show (((i+j) / 2:Nat):Int)=((i:Int)+(j:Int)) / 2 by omega];exact c31)⟩))))))
 ·refine Bs (Am (Am (A6 (Aj (Au (Bk mixed (Bo (blk b1 [I64 (x.u),I64 (x.v),I64 (x.w),I64 (x.lb),I64 (x.sg),I64 (x.tm)] 146::I) 16 (Dr 0 rfl (Ad rfl) (Dr 1 rfl (Ad rfl) (Dr 2 rfl (Ad rfl) (Dr 3 rfl (A9 rfl rfl) (Dr 4 rfl (Ad rfl) (C7 (d:=39) rfl (fun g39=>?_) (fun g39=>?_))))))))))))))
  ·refine Dro 5 rfl (Ad rfl) (Dro 6 rfl (Ad rfl) (Dro 7 rfl (Ad rfl) (Dro 8 rfl (A3 (α:=Lk) (xs:=xs) Aq ty146 rfl rfl (Bj hl) om om) (Dro 9 rfl (Bu (α:=Lk) (xs:=xs) ty146 rfl (Bj hl) om om) (Dro 10 rfl (Bq (vs:=[_,_,_,_,_,_]) ty146) ?_)))))
   refine Ds1 11 (Se rfl (Cx hcb.1 (first:=[]) (caps:=cp_) rfl rfl rfl (hcb.2 (at_ xs (i:Int)) x _ A0)) ?_)
   rintro _ _ ⟨_,_,⟨rfl,rfl⟩,rfl,rfl⟩
   refine ⟨A5,?_⟩
   refine Dro 12 rfl (Bi rfl rfl) (Dr 13 rfl (Ao rfl rfl) (Dr 14 rfl (Ba rfl) (Dr 15 rfl (Ba rfl) (Dz (Aj (Ar (S2 7 6 rfl rfl) (Ax ?_)))))))
   have hie:i=j:=by omega
   subst hie
   exact Cl rfl rfl rfl (I) A0 ⟨i,_,rfl,⟨hj,hlo,hhi,(decide_eq_decide.2 ⟨fun h=>⟨by omega,h⟩,fun h=>h.2⟩)⟩,rfl⟩
  ·refine Dpo 5 rfl (Dpo 6 rfl (Dpo 7 rfl (Dpo 8 rfl (Dpo 9 rfl (Dpo 10 rfl (Dpo 11 rfl (Dpo 12 rfl (Dr 13 rfl (Al rfl rfl) (Dr 14 rfl (Ba rfl) (Dr 15 rfl (Ba rfl) (Dz (Aj (Ar (S2 7 6 rfl rfl) (Ax ?_))))))))))))))
   have hie:i=j:=by omega
   subst hie
   exact Cl rfl rfl rfl (I) A0 ⟨i,_,rfl,⟨hj,hlo,hhi,((decide_eq_false (fun h=>by omega)).symm)⟩,rfl⟩
theorem OrderL_cmps:Cmps Tryz.prog κ I 255 [] Lk.cmp:=⟨call255,fun x y J hf=>OrderL_ok x y⟩
end Go.Sl
