/- A part of the proofs of statements of this seat: contracts of functions, and the plain laws that they lean on. No conditions. -/
import Derived.Test.YtfkcohmipjhfcaaGreatDoorG6
set_option linter.unusedVariables false
set_option linter.unusedSimpArgs false
set_option linter.unusedSectionVars false
namespace Go.Sl
open Go.Proofs
set_option maxRecDepth 4000
variable {κ:Ctx}{I:List Item}
theorem NodeE_ok(n:Int) :
    CallS Tryz.prog κ 291 [I64 (n)] I (fun r J=>r = .bool (decide (0≤n∧n<64))∧I=J):=by
 refine Ce1 Tryz.func291 rfl rfl ?_
 refine Ah (Ga rfl (Af (Ah (Gm rfl (Gr (Ca rfl rfl) (Gm rfl (Bk (d:=5) rfl (fun g5=>?_) (fun g5=>?_))))))))
 ·exact Gro (Ad rfl) (Gro (Bb rfl rfl) (Gr (As rfl rfl) (Ga rfl (Af (Az (A4 rfl rfl (I) Ax ⟨(by first|exact congrArg Value.bool (decide_eq_decide.2 (by skip;omega))|exact congrArg Value.bool (decide_eq_true (by skip;omega)).symm|exact congrArg Value.bool (decide_eq_false (by skip;omega)).symm),rfl⟩))))))
 ·exact Gpo (Gpo (Gr (Au rfl rfl) (Ga rfl (Af (Az (A4 rfl rfl (I) Ax ⟨(by first|exact congrArg Value.bool (decide_eq_decide.2 (by skip;omega))|exact congrArg Value.bool (decide_eq_true (by skip;omega)).symm|exact congrArg Value.bool (decide_eq_false (by skip;omega)).symm),rfl⟩))))))
theorem EndsE_ok(e:Ev) :
    CallS Tryz.prog κ 250 [.agg #[I64 (e.kd),I64 (e.tm),I64 (e.u),I64 (e.v),I64 (e.w),I64 (e.lb),I64 (e.sg)]] I (fun r J=>r = .bool (decide (endsE e))∧I=J):=by
 refine Ce1 Tryz.func250 rfl rfl ?_
 refine Ah (Ge1 (Bc (cs:=[_,_,_,_,_,_,_]) rfl rfl rfl) fun b1=>Ga rfl (Af (Ap (Ah (Gf fld108_0 rfl (Gl ty3 ?_))))))
 refine Gr (Bm rfl rfl) (Af (A9 rfl (fun c5=>?_) (fun c5=>?_)))
 ·refine Ah (Gf fld108_2 rfl (Gl ty3 ?_))
  refine Gc0 (Al call291 rfl rfl (NodeE_ok e.u)) ?_
  refine Gm rfl (Bk (d:=9) rfl (fun g9=>?_) (fun g9=>?_))
  ·refine Gro (Ac fld108_3 rfl) (Gro (Av ty3) ?_)
   exact Gro (Bm rfl rfl) (Gr (As rfl rfl) (Ga rfl (Af (Ar (S1 2 rfl) (Az (Ak (A4 rfl rfl (I) Ax ⟨(by first|exact congrArg Value.bool (decide_eq_decide.2 (by unfold endsE;omega))|exact congrArg Value.bool (decide_eq_true (by unfold endsE;omega)).symm|exact congrArg Value.bool (decide_eq_false (by unfold endsE;omega)).symm),rfl⟩)))))))
  ·exact Gpo (Gpo (Gpo (Gr (Au rfl rfl) (Ga rfl (Af (Ar (S1 2 rfl) (Az (Ak (A4 rfl rfl (I) Ax ⟨(by first|exact congrArg Value.bool (decide_eq_decide.2 (by unfold endsE;omega))|exact congrArg Value.bool (decide_eq_true (by unfold endsE;omega)).symm|exact congrArg Value.bool (decide_eq_false (by unfold endsE;omega)).symm),rfl⟩)))))))))
 ·refine A1 (Ai (Ah (Gf fld108_2 rfl (Gl ty3 ?_))))
  refine Gc0 (Al call291 rfl rfl (NodeE_ok e.u)) ?_
  refine Gm rfl (Bk (d:=17) rfl (fun g17=>?_) (fun g17=>?_))
  ·refine Gro (Ac fld108_3 rfl) (Gro (Av ty3) ?_)
   refine G.eff (Cq rfl rfl rfl) (Al call291 rfl rfl (NodeE_ok e.v)) ?_
   rintro _ _ ⟨_,_,⟨rfl,rfl⟩,rfl,rfl⟩
   refine Gr (As rfl rfl) (Gm rfl (Bk (d:=22) rfl (fun g22=>?_) (fun g22=>?_)))
   ·refine Gro (Ac fld108_2 rfl) (Gro (Av ty3) ?_)
    refine Gro (Ac fld108_3 rfl) (Gro (Av ty3) ?_)
    exact Gro (Br rfl rfl) (Gr (As rfl rfl) (Ga rfl (Af (Ar (S1 2 rfl) (Az (A4 rfl rfl (I) Ax ⟨(by first|exact congrArg Value.bool (decide_eq_decide.2 (by unfold endsE;omega))|exact congrArg Value.bool (decide_eq_true (by unfold endsE;omega)).symm|exact congrArg Value.bool (decide_eq_false (by unfold endsE;omega)).symm),rfl⟩))))))
   ·exact Gpo (Gpo (Gpo (Gpo (Gpo (Gr (Au rfl rfl) (Ga rfl (Af (Ar (S1 2 rfl) (Az (A4 rfl rfl (I) Ax ⟨(by first|exact congrArg Value.bool (decide_eq_decide.2 (by unfold endsE;omega))|exact congrArg Value.bool (decide_eq_true (by unfold endsE;omega)).symm|exact congrArg Value.bool (decide_eq_false (by unfold endsE;omega)).symm),rfl⟩))))))))))
  ·exact Gpo (Gpo (Gpo (Gr (Au rfl rfl) (Gm rfl (Gpo (Gpo (Gpo (Gpo (Gpo (Gr (Au rfl rfl) (Ga rfl (Af (Ar (S1 2 rfl) (Az (A4 rfl rfl (I) Ax ⟨(by first|exact congrArg Value.bool (decide_eq_decide.2 (by unfold endsE;omega))|exact congrArg Value.bool (decide_eq_true (by unfold endsE;omega)).symm|exact congrArg Value.bool (decide_eq_false (by unfold endsE;omega)).symm),rfl⟩)))))))))))))))
theorem CheckE_ok(e:Ev) :
    CallS Tryz.prog κ 209 [.agg #[I64 (e.kd),I64 (e.tm),I64 (e.u),I64 (e.v),I64 (e.w),I64 (e.lb),I64 (e.sg)]] I (fun r J=>r=I64 (checkE e)∧I=J):=by
 refine Ce1 Tryz.func209 rfl rfl ?_
 refine Ah (Ge1 (Bc (cs:=[_,_,_,_,_,_,_]) rfl rfl rfl) fun b1=>Ga rfl (Af (Ap (A3 (Ah (Gf fld108_0 rfl (Gl ty3 ?_)))))))
 refine Gr (Bb rfl rfl) (Gm rfl (Bk (d:=7) rfl (fun g7=>?_) (fun g7=>?_)))
 ·exact Gpo (Gpo (Gpo (Gr (As rfl rfl) (Ga rfl (Af (C0 rfl (Ah (Ga rfl (Af (Ar (S1 2 rfl) (Az (Ao (Ak (A4 rfl rfl (I) Ax ⟨by rw [show checkE e=8 from checkE_eight om],rfl⟩))))))))))))))
 ·refine Gro (Ac fld108_0 rfl) (Gro (Av ty3) ?_)
  refine Gro (B2 rfl rfl) (Gr (Au rfl rfl) (Ga rfl (Af (A9 rfl (fun c3=>?_) (fun c3=>?_)))))
  ·exact Ah (Ga rfl (Af (Ar (S1 2 rfl) (Az (Ao (Ak (A4 rfl rfl (I) Ax ⟨by rw [show checkE e=8 from checkE_eight om],rfl⟩)))))))
  ·refine Ah (Gf fld108_1 rfl (Gl ty3 ?_))
   refine Gr (Bb rfl rfl) (Gm rfl (Bk (d:=16) rfl (fun g16=>?_) (fun g16=>?_)))
   ·exact Gpo (Gpo (Gpo (Gr (As rfl rfl) (Ga rfl (Af (Ar (S2 12 1 rfl rfl) (C0 rfl (Ah (Ga rfl (Af (Az (Ao (Ak (A4 rfl rfl (I) Ax ⟨by rw [show checkE e=9 from checkE_nine om om],rfl⟩))))))))))))))
   ·refine Gro (Ac fld108_1 rfl) (Gro (Av ty3) ?_)
    refine Gro (B2 rfl rfl) (Gr (Au rfl rfl) (Ga rfl (Af (Ar (S2 12 1 rfl rfl) (A9 rfl (fun c12=>?_) (fun c12=>?_))))))
    ·exact Ah (Ga rfl (Af (Az (Ao (Ak (A4 rfl rfl (I) Ax ⟨by rw [show checkE e=9 from checkE_nine om om],rfl⟩))))))
    ·refine Ah (Gl7 ty108 ?_)
     refine Gc0 (Al call250 rfl rfl (EndsE_ok e)) ?_
     refine Gr (Dp rfl) (Ga rfl (Af (A9 rfl (fun c21=>?_) (fun c21=>?_))))
     ·exact Ah (Ga rfl (Af (Az (Ao (Ak (A4 rfl rfl (I) Ax ⟨by rw [show checkE e=6 from checkE_six om om (by first|assumption|(unfold endsE;omega))],rfl⟩))))))
     ·refine Ah (Gf fld108_0 rfl (Gl ty3 ?_))
      refine Gr (Bm rfl rfl) (Gm rfl (Bk (d:=29) rfl (fun g29=>?_) (fun g29=>?_)))
      ·refine Gro (Ac fld108_4 rfl) (Gro (Av ty3) ?_)
       refine Gro (Ac fld108_5 rfl) (Gro (Av ty3) ?_)
       refine Gro (Ac fld108_6 rfl) (Gro (Av ty3) ?_)
       refine G.eff (Cq rfl rfl rfl) (Al call251 rfl rfl (RightW_ok e.w e.lb e.sg)) ?_
       rintro _ _ ⟨_,_,⟨rfl,rfl⟩,rfl,rfl⟩
       refine Gro (Dp rfl) (Gr (As rfl rfl) (Ga rfl (Af (Ar (S2 25 1 rfl rfl) (A9 rfl (fun c25=>?_) (fun c25=>?_))))))
       ·exact Ah (Ga rfl (Af (Az (Ao (Ak (A4 rfl rfl (I) Ax ⟨by rw [show checkE e=1 from checkE_one om om (by first|assumption|exact Classical.not_not.1 asm|(unfold endsE;omega)) (by first|(exact .inr om)|exact .inl ⟨by omega,by assumption⟩|exact .inl ⟨by omega,fun h=>by simp_all⟩)],rfl⟩))))))
       ·refine Ah (Gf fld108_0 rfl (Gl ty3 ?_))
        refine Gr (Br rfl rfl) (Gm rfl (Bk (d:=43) rfl (fun g43=>?_) (fun g43=>?_)))
        ·refine Gro (Ac fld108_4 rfl) (Gro (Av ty3) ?_)
         refine Gro (Br rfl rfl) (Gro (Ad rfl) (Bk (d:=47) rfl (fun g47=>?_) (fun g47=>?_)))
         ·exact Gpo (Gpo (Gpo (Gro (As rfl rfl) (Gro (Ad rfl) (Gpo (Gpo (Gpo (Gro (As rfl rfl) (Gr (As rfl rfl) (Ga rfl (Af (Ar (S1 39 rfl) (C0 rfl (Ah (Ga rfl (Af (Az (Ao (Ak (A4 rfl rfl (I) Ax ⟨by rw [show checkE e=1 from checkE_one om om (by first|assumption|exact Classical.not_not.1 asm|(unfold endsE;omega)) (by first|(exact .inr om)|exact .inl ⟨by omega,by assumption⟩|exact .inl ⟨by omega,fun h=>by simp_all⟩)],rfl⟩))))))))))))))))))))
         ·refine Gro (Ac fld108_5 rfl) (Gro (Av ty3) ?_)
          refine Gro (Br rfl rfl) (Gro (Au rfl rfl) (Gro (Ad rfl) (Bk (d:=52) rfl (fun g52=>?_) (fun g52=>?_))))
          ·exact Gpo (Gpo (Gpo (Gro (As rfl rfl) (Gr (As rfl rfl) (Ga rfl (Af (Ar (S1 39 rfl) (C0 rfl (Ah (Ga rfl (Af (Az (Ao (Ak (A4 rfl rfl (I) Ax ⟨by rw [show checkE e=1 from checkE_one om om (by first|assumption|exact Classical.not_not.1 asm|(unfold endsE;omega)) (by first|(exact .inr om)|exact .inl ⟨by omega,by assumption⟩|exact .inl ⟨by omega,fun h=>by simp_all⟩)],rfl⟩)))))))))))))))
          ·refine Gro (Ac fld108_6 rfl) (Gro (Av ty3) ?_)
           refine Gro (Br rfl rfl) (Gro (Au rfl rfl) (Gr (As rfl rfl) (Ga rfl (Af (Ar (S1 39 rfl) (A9 rfl (fun c39=>?_) (fun c39=>?_)))))))
           ·exact Ah (Ga rfl (Af (Az (Ao (Ak (A4 rfl rfl (I) Ax ⟨by rw [show checkE e=1 from checkE_one om om (by first|assumption|exact Classical.not_not.1 asm|(unfold endsE;omega)) (by first|(exact .inr om)|exact .inl ⟨by omega,by assumption⟩|exact .inl ⟨by omega,fun h=>by simp_all⟩)],rfl⟩))))))
           ·exact A1 (Aj (Ai (Ah (Ga rfl (Af (Az (A4 rfl rfl (I) Ax ⟨by rw [show checkE e=0 from checkE_zero om om (by first|assumption|exact Classical.not_not.1 asm|(unfold endsE;omega)) (fun h=>by first|(exfalso;omega)|assumption|exact Classical.not_not.1 asm) (fun h=>by omega)],rfl⟩)))))))
        ·exact Gpo (Gpo (Gpo (Gpo (Gpu (Gpu (Gpu (Gpo (Gpo (Gpu (Gpu (Gpu (Gpo (Gr (Au rfl rfl) (Ga rfl (Af (Ar (S1 39 rfl) (D0 rfl (A1 (Aj (Ai (Ah (Ga rfl (Af (Az (A4 rfl rfl (I) Ax ⟨by rw [show checkE e=0 from checkE_zero om om (by first|assumption|exact Classical.not_not.1 asm|(unfold endsE;omega)) (fun h=>by first|(exfalso;omega)|assumption|exact Classical.not_not.1 asm) (fun h=>by omega)],rfl⟩)))))))))))))))))))))))))
      ·refine Gpo (Gpo (Gpo (Gpo (Gpo (Gpo (Gpo (Gpo (Gr (Au rfl rfl) (Ga rfl (Af (Ar (S2 25 1 rfl rfl) (D0 rfl (Ah (Gf fld108_0 rfl (Gl ty3 ?_)))))))))))))))
       refine Gr (Br rfl rfl) (Gm rfl (Bk (d:=43) rfl (fun g43=>?_) (fun g43=>?_)))
       ·refine Gro (Ac fld108_4 rfl) (Gro (Av ty3) ?_)
        refine Gro (Br rfl rfl) (Gro (Ad rfl) (Bk (d:=47) rfl (fun g47=>?_) (fun g47=>?_)))
        ·exact Gpo (Gpo (Gpo (Gro (As rfl rfl) (Gro (Ad rfl) (Gpo (Gpo (Gpo (Gro (As rfl rfl) (Gr (As rfl rfl) (Ga rfl (Af (Ar (S1 39 rfl) (C0 rfl (Ah (Ga rfl (Af (Az (Ao (Ak (A4 rfl rfl (I) Ax ⟨by rw [show checkE e=1 from checkE_one om om (by first|assumption|exact Classical.not_not.1 asm|(unfold endsE;omega)) (by first|(exact .inr om)|exact .inl ⟨by omega,by assumption⟩|exact .inl ⟨by omega,fun h=>by simp_all⟩)],rfl⟩))))))))))))))))))))
        ·refine Gro (Ac fld108_5 rfl) (Gro (Av ty3) ?_)
         refine Gro (Br rfl rfl) (Gro (Au rfl rfl) (Gro (Ad rfl) (Bk (d:=52) rfl (fun g52=>?_) (fun g52=>?_))))
         ·exact Gpo (Gpo (Gpo (Gro (As rfl rfl) (Gr (As rfl rfl) (Ga rfl (Af (Ar (S1 39 rfl) (C0 rfl (Ah (Ga rfl (Af (Az (Ao (Ak (A4 rfl rfl (I) Ax ⟨by rw [show checkE e=1 from checkE_one om om (by first|assumption|exact Classical.not_not.1 asm|(unfold endsE;omega)) (by first|(exact .inr om)|exact .inl ⟨by omega,by assumption⟩|exact .inl ⟨by omega,fun h=>by simp_all⟩)],rfl⟩)))))))))))))))
         ·refine Gro (Ac fld108_6 rfl) (Gro (Av ty3) ?_)
          refine Gro (Br rfl rfl) (Gro (Au rfl rfl) (Gr (As rfl rfl) (Ga rfl (Af (Ar (S1 39 rfl) (A9 rfl (fun c39=>?_) (fun c39=>?_)))))))
          ·exact Ah (Ga rfl (Af (Az (Ao (Ak (A4 rfl rfl (I) Ax ⟨by rw [show checkE e=1 from checkE_one om om (by first|assumption|exact Classical.not_not.1 asm|(unfold endsE;omega)) (by first|(exact .inr om)|exact .inl ⟨by omega,by assumption⟩|exact .inl ⟨by omega,fun h=>by simp_all⟩)],rfl⟩))))))
          ·exact A1 (Aj (Ai (Ah (Ga rfl (Af (Az (A4 rfl rfl (I) Ax ⟨by rw [show checkE e=0 from checkE_zero om om (by first|assumption|exact Classical.not_not.1 asm|(unfold endsE;omega)) (fun h=>by first|(exfalso;omega)|assumption|exact Classical.not_not.1 asm) (fun h=>by omega)],rfl⟩)))))))
       ·exact Gpo (Gpo (Gpo (Gpo (Gpu (Gpu (Gpu (Gpo (Gpo (Gpu (Gpu (Gpu (Gpo (Gr (Au rfl rfl) (Ga rfl (Af (Ar (S1 39 rfl) (D0 rfl (A1 (Aj (Ai (Ah (Ga rfl (Af (Az (A4 rfl rfl (I) Ax ⟨by rw [show checkE e=0 from checkE_zero om om (by first|assumption|exact Classical.not_not.1 asm|(unfold endsE;omega)) (fun h=>by first|(exfalso;omega)|assumption|exact Classical.not_not.1 asm) (fun h=>by omega)],rfl⟩)))))))))))))))))))))))))
theorem FitsE_ok(nd:Int)(e:Ev) :
    CallS Tryz.prog κ 210 [I64 (nd),.agg #[I64 (e.kd),I64 (e.tm),I64 (e.u),I64 (e.v),I64 (e.w),I64 (e.lb),I64 (e.sg)]] I (fun r J=>r=I64 (fitE nd e)∧I=J):=by
 refine Ce2 Tryz.func210 rfl rfl ?_
 refine Ah (Ge1 (Bc (cs:=[_,_,_,_,_,_,_]) rfl rfl rfl) fun b1=>Ga rfl (Af (Ap (Ah (Gl7 ty108 ?_)))))
 refine Gc0 (Al call209 rfl rfl (CheckE_ok e)) ?_
 refine Ga rfl (Af (Ah (Gm rfl (Gr (Br rfl rfl) (Af (A9 rfl (fun c9=>?_) (fun c9=>?_)))))))
 ·exact Ah (Gm rfl (Ga rfl (Af (Az (Ak (A4 rfl rfl (I) Ax ⟨by rw [show fitE nd e=checkE e from (by unfold fitE;rw [if_pos c9])],rfl⟩))))))
 ·refine A1 (Ai (Ap (Ah (Gf fld108_2 rfl (Gl ty3 ?_)))))
  refine Gm rfl (Gr (Ca rfl rfl) (Gm rfl (Bk (d:=15) rfl (fun g15=>?_) (fun g15=>?_))))
  ·exact Gpo (Gpo (Gpo (Gpo (Gr (As rfl rfl) (Af (Ar (S1 20 rfl) (C0 rfl (Ah (Ga rfl (Af (Az (Ak (A4 rfl rfl (I) Ax ⟨by rw [show fitE nd e=6 from (by unfold fitE;rw [if_neg c9,if_pos om])],rfl⟩)))))))))))))
  ·refine Gro (Ac fld108_3 rfl) (Gro (Av ty3) ?_)
   refine Gro (Ad rfl) (Gro (Ca rfl rfl) (Gr (Au rfl rfl) (Af (Ar (S1 20 rfl) (A9 rfl (fun c20=>?_) (fun c20=>?_))))))
   ·exact Ah (Ga rfl (Af (Az (Ak (A4 rfl rfl (I) Ax ⟨by rw [show fitE nd e=6 from (by unfold fitE;rw [if_neg c9,if_pos om])],rfl⟩)))))
   ·exact A1 (Ai (Ah (Ga rfl (Af (Az (A4 rfl rfl (I) Ax ⟨by rw [show fitE nd e=0 from (by unfold fitE;rw [if_neg c9,if_neg om])],rfl⟩))))))
theorem fitE_chk{nd:Int}{e:Ev}(h:checkE e≠0):fitE nd e=checkE e:=by unfold fitE;rw [if_pos h]
theorem Stream_ok{κ:Ctx}{I:List Item}{nd:Int}{va:Value}{es:List Ev}(hl:Sl κ I va es) :
    CallS Tryz.prog κ 139 [I64 (nd),va] I (fun r J=>r=I64 (streamE nd es)∧I=J):=by
 refine B4 hl.le fun hmax=>?_
 refine Ce2 Tryz.func139 rfl rfl ?_
 refine Ah (Ga rfl (Af (Ap (A3 (Ah (Gm rfl (Gr (Bb rfl rfl) (Gm rfl (Bk (d:=13) rfl (fun g13=>?_) (fun g13=>?_))))))))))
 ·exact Gpo (Gpo (Gr (As rfl rfl) (Ga rfl (Af (C0 rfl (Ah (Ga rfl (Af (Az (Ao (Ak (A4 rfl rfl (I) Ax ⟨by rw [show streamE nd es=1 from (by unfold streamE;rw [if_pos om])],rfl⟩))))))))))))
 ·refine Gro (Ad rfl) (Gro (B2 rfl rfl) (Gr (Au rfl rfl) (Ga rfl (Af (A9 rfl (fun c10=>?_) (fun c10=>?_))))))
  ·exact Ah (Ga rfl (Af (Az (Ao (Ak (A4 rfl rfl (I) Ax ⟨by rw [show streamE nd es=1 from (by unfold streamE;rw [if_pos om])],rfl⟩))))))
  ·refine Ah (Gm rfl (Gr (Bw (α:=Ev) (xs:=es) A5 rfl (Bi hl)) (Gr (B2 rfl rfl) (Ga rfl (Af (Ar (S3 17 0 1 rfl rfl rfl) (A9 rfl (fun c17=>?_) (fun c17=>?_))))))))
   ·exact Ah (Ga rfl (Af (Az (Ao (Ak (A4 rfl rfl (I) Ax ⟨by rw [show streamE nd es=3 from (by unfold streamE;rw [if_neg om,if_pos om])],rfl⟩))))))
   ·refine A1 (Aj (Ai (Ah (Ga rfl (Af (Ap (Ah (Gm rfl (Gr (Bw (α:=Ev) (xs:=es) A5 rfl (Bi hl)) (Gm rfl (Af (A3 (Bv (σ:=Nat) (fun s=>([(0,I64 (nd)),(5,I64 (lastT es s)),(21,va),(22,I64 (((es.length:Nat):Int))),(23,I64 (((s:Nat):Int)))]:Env)) (fun s=>I) (fun s=>(s≤es.length)∧(streamE nd es=streamS nd (lastT es s) (es.drop s))) (fun s=>es.length - s) (0) (show ((0:Nat)≤es.length)∧(streamE nd es=streamS nd (lastT es (0:Nat)) (es.drop (0:Nat))) from ⟨om,(by unfold streamE;rw [if_neg om,if_neg om];rfl)⟩) (Ab rfl (Ab (Dy rfl (by first|omega|(dsimp only<;>omega)|exact (rfl:(0:Int)=lastT es 0)|exact (lastT_succ es k).symm)) (Ab rfl (Ab rfl (Ab (Dy rfl (by first|omega|(dsimp only<;>omega)|exact (rfl:(0:Int)=lastT es 0)|exact (lastT_succ es k).symm)) Bj))))) (show Fit κ _ (I) from Ay) ?_)))))))))))))
    rintro k hp
    obtain ⟨hk,hs⟩:=hp
    refine Ah (Gr (Bb rfl rfl) (Af (Ap (A9 rfl (fun c24=>?_) (fun c24=>?_)))))
    ·refine A1 (Ai (Ap (A3 (Ah (Gr (A0 (α:=Ev) (xs:=es) A5 ty108 rfl rfl (Bi hl) om om) (Gr (Bu (α:=Ev) (xs:=es) ty108 rfl (Bi hl) om om) (Ge1 (A8 ty108 rfl) fun b1=>Ge0 (Es7_7 ty108) ?_)))))))
     refine Af (Ap (Ah (Gl7 ty108 ?_)))
     refine Gc0 (Al call209 rfl rfl (CheckE_ok (at_ es (k:Int)))) ?_
     refine Ga rfl (Af (Ah (Gm rfl (Gr (Br rfl rfl) (Af (Ar (S8 30 8 7 0 5 21 22 23 rfl rfl rfl rfl rfl rfl rfl rfl) (A9 rfl (fun c30=>?_) (fun c30=>?_))))))))
     ·exact Ah (Gm rfl (Ga rfl (Af (Az (Ak (Ao (Ak (Ak (Ao (Ak (A4 rfl rfl (I) Ax ⟨by rw [show streamE nd es=checkE (at_ es (k:Int)) from (hs.trans ((streamS_bad om (by rw [fitE_chk c30];exact c30)).trans (fitE_chk c30)))],rfl⟩)))))))))))
     ·refine A1 (Ai (Ap (Ah (Gm rfl (Gl7 ty108 ?_)))))
      refine Gc0 (Al call210 rfl rfl (FitsE_ok nd (at_ es (k:Int)))) ?_
      refine Ga rfl (Af (Ah (Gm rfl (Gr (Br rfl rfl) (Af (Ar (S8 36 9 7 0 5 21 22 23 rfl rfl rfl rfl rfl rfl rfl rfl) (A9 rfl (fun c36=>?_) (fun c36=>?_))))))))
      ·exact Ah (Gm rfl (Ga rfl (Af (Az (Ak (Ao (Ak (Ak (Ao (Ak (A4 rfl rfl (I) Ax ⟨by rw [show streamE nd es=fitE nd (at_ es (k:Int)) from (hs.trans (streamS_bad om c36))],rfl⟩)))))))))))
      ·refine A1 (Ai (Ap (Ah (Gf fld108_1 rfl (Gl ty3 ?_)))))
       refine Gm rfl (Gr (Bb rfl rfl) (Af (A9 rfl (fun c41=>?_) (fun c41=>?_))))
       ·exact Ah (Ga rfl (Af (Az (Ak (Ao (Ak (Ak (Ao (Ak (A4 rfl rfl (I) Ax ⟨by rw [show streamE nd es=9 from (hs.trans (streamS_late om (Classical.not_not.1 c36) om))],rfl⟩))))))))))
       ·refine A1 (Ai (A2 (Gf fld108_1 rfl (Gl ty3 ?_))))
        exact Ga rfl (Bh (Aj (Ai (Ar (S5 5 0 21 22 23 rfl rfl rfl rfl rfl) (A2 (Gr (Rad rfl rfl) (Gm rfl (Bh (B7 ((k+1)) ⟨om,(hs.trans (streamS_step om (Classical.not_not.1 c36) om))⟩ (hL:=(Ab rfl (Ab (Dy rfl (by first|omega|(dsimp only<;>omega)|exact (rfl:(0:Int)=lastT es 0)|exact (lastT_succ es k).symm)) (Ab rfl (Ab rfl (Ab (Dy rfl (by first|omega|(dsimp only<;>omega)|exact (rfl:(0:Int)=lastT es 0)|exact (lastT_succ es k).symm)) Bj)))))))))))))))
    ·exact Bs (Am (Am (A7 (Ai (Ah (Ga rfl (Af (Az (A4 rfl rfl (I) Ax ⟨by rw [show streamE nd es=0 from (hs.trans (streamS_end om))],rfl⟩)))))))))
variable {κ:Ctx}{I:List Item}
theorem ov324:∀args w,(callFunc 324 args).run Tryz.prog w=((Extern.SlicesOverlaps.overlaps #[109,109] #[4] args).run Tryz.prog w).andThen fun v w'=> .ok (.value v) w':=fun args w=>run_callFunc_extern (e:=Extern.SlicesOverlaps.overlaps #[109,109] #[4]) Tryz.func324 kr kr kr kr args w
set_option maxHeartbeats 8000000 in
theorem InsertL_ok{a va:Option Addr}{c vcp i:Nat}{xs ys:List Lk}(hi:i≤xs.length)(hy:0<ys.length)(hsz:xs.length+ys.length≤1000000000) :
    CallS Tryz.prog κ 303 [.slice a xs.length c,I64 ((i:Int)),.slice va ys.length vcp] (vc 146 (.slice a xs.length c) (xs)::vc 146 (.slice va ys.length vcp) (ys)::I) (fun r J=>∃a' c',r = .slice a' (List.take i xs++ys++List.drop i xs).length c'∧J=vc 146 (.slice a' (List.take i xs++ys++List.drop i xs).length c') (List.take i xs++ys++List.drop i xs)::I):=by
 refine B4 (vc.cap List.mem_cons_self) fun hcap=>?_
 have hRl:(List.take i xs++ys++List.drop i xs).length=xs.length+ys.length:=by simp only [List.length_append,List.length_take,List.length_drop];omega
 refine Ce3 Tryz.func303 rfl rfl ?_
 refine Ah (Ga rfl (Af (Ah (Gm rfl (Gm rfl (Gr (Ed (α:=Lk) (xs:=xs) (l:=i) Aq ty146 rfl rfl om Bf lat) (Af (Ah (Gm rfl (Gr (Bq Aq rfl) (Ga rfl (Af (Ap (Ah (Gm rfl (Gr (Bm rfl rfl) (Af (A9 rfl (fun c16=>?_) (fun c16=>?_)))))))))))))))))))
 ·exact absurd c16 om
 ·refine A1 (Ai (Ah (Gm rfl (Gr (Bq Aq rfl) (Ga rfl (Af (Ar (S5 8 7 0 1 2 rfl rfl rfl rfl rfl) (Ap (Ah (Gm rfl (Gm rfl (Gr (Bm rfl rfl) (Af (A9 rfl (fun c22=>?_) (fun c22=>?_)))))))))))))))
  ·refine Ah (Gm rfl (Gm rfl (Ge2 (Ch (α:=Lk) (e:=146) (xs:=xs) (ys:=ys) Aq ty146 rfl rfl rfl mm Bf om dc rfl (fun _ _=>am)) fun ad1 cp2=>?_)))
   refine Ga rfl (Af (Az (Ak ?_)))
   have hR:List.take i xs++ys++List.drop i xs=xs++ys:=by rw [List.take_of_length_le om,List.drop_eq_nil_of_le om,List.append_nil]
   exact A4 rfl rfl (vc 146 (.slice ad1 (List.take i xs++ys++List.drop i xs).length cp2) (List.take i xs++ys++List.drop i xs)::I) (by rw [hR];exact Bt) ⟨ad1,cp2,by rw [hR],rfl⟩
  ·refine A1 (Ai (Ap (Ah (Gm rfl (Gm rfl (Gr (Rad rfl rfl) (Gm rfl (Gr (Runs.caps Aq rfl) (Gr (B2 rfl rfl) (Af (Ar (S6 31 8 7 0 1 2 rfl rfl rfl rfl rfl rfl) (A9 rfl (fun c31=>?_) (fun c31=>?_)))))))))))))
   ·refine Ah (Gm rfl (Gm rfl (Gr (Runs.hiraw (h:=i) Aq ty146 rfl rfl om om) (Gm rfl (Gm rfl (Gr (Rad rfl rfl) (Gm rfl (Gr (Rsu rfl rfl) (Ge2 (Eff.grow (α:=Lk) (xs:=xs) (k:=xs.length+ys.length - i) Aq Be ty146 rfl rfl rfl om Bf om om om om dc rfl) fun ad3 cp4=>?_)))))))))
    refine Ga rfl (G.pull (p:=(List.take i xs++List.replicate (xs.length+ys.length - i) (default:Lk)).length≤cp4) (vc.cap mm) fun hcap2=>?_)
    have hZl:(List.take i xs++List.replicate (xs.length+ys.length - i) (default:Lk)).length=xs.length+ys.length:=by simp only [List.length_append,List.length_take,List.length_replicate];omega
    refine Af (Ar (S5 9 7 0 1 2 rfl rfl rfl rfl rfl) (Ah (Gm rfl (Gm rfl (Gr (Ed (α:=Lk) (xs:=List.take i xs++List.replicate (xs.length+ys.length - i) (default:Lk)) (l:=i) Aq ty146 rfl rfl om Bf lat) (Gm rfl (Ge0 (Eff.copyT (α:=Lk) (k:=i) (q:=ys.length) (R:=List.take i xs++ys++List.replicate (xs.length - i) (default:Lk)) (n:=(i+(xs.length+ys.length - i))) Aq ty146 rfl lat rfl Bf lat lat rfl (ins1 hi) lat am) ?_)))))))
    refine Af (Ap (Bd mixed (Bl (I) 9 (Dr 0 rfl (Ad rfl) (Dr 1 rfl (Ad rfl) (Dr 2 rfl (Ad rfl) (Dr 3 rfl (Rad rfl rfl) (Dr 4 rfl (D1 (l:=(i+ys.length)) Aq ty146 rfl rfl om om om) (Dr 5 rfl (Ad rfl) (Dr 6 rfl (Ad rfl) (Dr 7 rfl (D1 (l:=i) Aq ty146 rfl rfl om om om) (Ds1 8 (Se0 rfl (Eff.copyT (α:=Lk) (k:=(i+ys.length)) (q:=(xs.length - i)) (R:=List.take i xs++ys++List.drop i xs) (n:=(i+(xs.length+ys.length - i))) Aq ty146 rfl lat rfl (Ee (Sl.vec (xs:=xs) mm) om om) lat lat rfl (ins2 hi) lat am) ?_)))))))))))))
    exact Dz (Ai (Ar (S1 9 rfl) (Ah (Gm rfl (Ga rfl (Af (Az (Ak (A4 rfl rfl (vc 146 (.slice ad3 (List.take i xs++ys++List.drop i xs).length cp4) (List.take i xs++ys++List.drop i xs)::I) (by rw [show (List.take i xs++ys++List.drop i xs).length=i+(xs.length+ys.length - i) by omega];exact Bt) ⟨ad3,cp4,by rw [show (List.take i xs++ys++List.drop i xs).length=i+(xs.length+ys.length - i) by omega],rfl⟩)))))))))
   ·refine A1 (Ai (Ah (Gm rfl (Gm rfl (Gm rfl (Gr (Rad rfl rfl) (Gr (Runs.hiraw (h:=xs.length+ys.length) Aq ty146 rfl rfl om om) (Ga rfl (G.room (h:=xs.length+ys.length) (by repeat (first|exact AtF.head _ _|apply AtF.tail)) rfl om om (fun js hjs=>?_))))))))))
    show G Tryz.prog κ _ _ _ _ ([(0,.slice a (xs.length+ys.length) c),(60,.slice a (xs.length+ys.length) c),(59,I64 (((xs.length:Nat):Int)+((ys.length:Nat):Int))),(58,I64 (((ys.length:Nat):Int))),(57,I64 (((xs.length:Nat):Int))),(56,.slice a xs.length c),(31,.bool (decide ((c:Int)<(((xs.length:Nat):Int)+((ys.length:Nat):Int))))),(8,I64 (((xs.length:Nat):Int))),(7,I64 (((ys.length:Nat):Int))),(0,.slice a xs.length c),(1,I64 ((i:Int))),(2,.slice va ys.length vcp)]:Env) (vec 146 (Enc.sz Lk) (.slice a (xs.length+ys.length) c) (xs.length+ys.length) (cells xs++js)::vc 146 (.slice va ys.length vcp) (ys)::I)
    refine Af (Ap (Ah (Gm rfl (Gm rfl (Gm rfl (Gm rfl (Gr (Rad rfl rfl) (Gr (D1 (l:=(i+ys.length)) Aq ty146 rfl rfl om om om) (Ge0 (Eff.overlaps (k:=i+ys.length) ov324 Aq ty146 rfl rfl om om om (show Fit κ _ (vc 146 (.slice va ys.length vcp) ys::vec 146 (Enc.sz Lk) (.slice a (xs.length+ys.length) c) (xs.length+ys.length) (cells xs++js)::I) from Fit.sp (Sp.pick (Pick.tail _ (Pick.head _ _)) (Sp.refl _))) (Nat.mul_pos om Enc.pos) rfl) ?_)))))))))
    refine Gr (Cn rfl) (Af (Ar (S6 68 0 8 7 1 2 rfl rfl rfl rfl rfl rfl) (C0 rfl (Ap (Bd mixed (Bl (I) 9 (Dr 0 rfl (Ad rfl) (Dr 1 rfl (Ad rfl) (Dr 2 rfl (Ad rfl) (Dr 3 rfl (Rad rfl rfl) (Dr 4 rfl (D1 (l:=(i+ys.length)) Aq ty146 rfl rfl om om om) (Dr 5 rfl (Ad rfl) (Dr 6 rfl (Ad rfl) (Dr 7 rfl (D1 (l:=i) Aq ty146 rfl rfl om om om) (Ds1 8 (Se0 rfl (Eff.copyR (sz:=Enc.sz Lk) (n:=xs.length+ys.length) (cs:=(cells xs++js)) (k:=(i+ys.length)) (q:=(xs.length - i)) Aq ty146 rfl om rfl (SlRd.dropR (SlRd.vec mm) om) om om (ins_one hi) rfl am) ?_))))))))))))))))
    show D Tryz.prog κ _ _ _ _ _ _ _ ([(77,I64 ((((xs.length - i):Nat):Int))),(76,.slice (adrop a c i (Enc.sz Lk)) ((xs.length+ys.length) - i) (c - i)),(75,I64 ((i:Int))),(74,.slice a (xs.length+ys.length) c),(73,.slice (adrop a c (i+ys.length) (Enc.sz Lk)) ((xs.length+ys.length) - (i+ys.length)) (c - (i+ys.length))),(72,I64 ((i:Int)+((ys.length:Nat):Int))),(71,I64 (((ys.length:Nat):Int))),(70,I64 ((i:Int))),(69,.slice a (xs.length+ys.length) c),(68,.bool true),(0,.slice a (xs.length+ys.length) c),(8,I64 (((xs.length:Nat):Int))),(7,I64 (((ys.length:Nat):Int))),(1,I64 ((i:Int))),(2,.slice va ys.length vcp)]:Env) (vec 146 (Enc.sz Lk) (.slice a (xs.length+ys.length) c) (xs.length+ys.length) (List.take ((i+ys.length)*Enc.sz Lk) (cells xs++js)++List.take ((xs.length - i)*Enc.sz Lk) (List.drop (i*Enc.sz Lk) (cells xs++js))++List.drop ((i+ys.length)*Enc.sz Lk+(xs.length - i)*Enc.sz Lk) (cells xs++js))::vc 146 (.slice va ys.length vcp) (ys)::I)
    refine Dz (Ai (Ar (S3 0 1 2 rfl rfl rfl) (Ah (Gm rfl (Gm rfl (Gr (D1 (l:=i) Aq ty146 rfl rfl om om om) (Gm rfl (Ge0 (Eff.copyR (sz:=Enc.sz Lk) (n:=xs.length+ys.length) (cs:=(List.take ((i+ys.length)*Enc.sz Lk) (cells xs++js)++List.take ((xs.length - i)*Enc.sz Lk) (List.drop (i*Enc.sz Lk) (cells xs++js))++List.drop ((i+ys.length)*Enc.sz Lk+(xs.length - i)*Enc.sz Lk) (cells xs++js))) (k:=i) (q:=ys.length) Aq ty146 rfl om rfl (show Sl κ _ (.slice va ys.length vcp) ys from (Sl.vec (e:=146) (xs:=ys) mm)) om om (fun u hu=>cells_one ys u (List.mem_of_mem_take hu)) rfl am) ?_))))))))
    show G Tryz.prog κ _ _ _ _ ([(82,I64 (((ys.length:Nat):Int))),(81,.slice va ys.length vcp),(80,.slice (adrop a c i (Enc.sz Lk)) ((xs.length+ys.length) - i) (c - i)),(79,I64 ((i:Int))),(78,.slice a (xs.length+ys.length) c),(0,.slice a (xs.length+ys.length) c),(1,I64 ((i:Int))),(2,.slice va ys.length vcp)]:Env) (vec 146 (Enc.sz Lk) (.slice a (xs.length+ys.length) c) (xs.length+ys.length) (List.take (i*Enc.sz Lk) (List.take ((i+ys.length)*Enc.sz Lk) (cells xs++js)++List.take ((xs.length - i)*Enc.sz Lk) (List.drop (i*Enc.sz Lk) (cells xs++js))++List.drop ((i+ys.length)*Enc.sz Lk+(xs.length - i)*Enc.sz Lk) (cells xs++js))++List.take (ys.length*Enc.sz Lk) (cells ys)++List.drop (i*Enc.sz Lk+ys.length*Enc.sz Lk) (List.take ((i+ys.length)*Enc.sz Lk) (cells xs++js)++List.take ((xs.length - i)*Enc.sz Lk) (List.drop (i*Enc.sz Lk) (cells xs++js))++List.drop ((i+ys.length)*Enc.sz Lk+(xs.length - i)*Enc.sz Lk) (cells xs++js)))::vc 146 (.slice va ys.length vcp) (ys)::I)
    refine Af (Ah (Gm rfl (Ga rfl (Af (Az (Ak ?_))))))
    have hC:(List.take (i*Enc.sz Lk) (List.take ((i+ys.length)*Enc.sz Lk) (cells xs++js)++List.take ((xs.length - i)*Enc.sz Lk) (List.drop (i*Enc.sz Lk) (cells xs++js))++List.drop ((i+ys.length)*Enc.sz Lk+(xs.length - i)*Enc.sz Lk) (cells xs++js))++List.take (ys.length*Enc.sz Lk) (cells ys)++List.drop (i*Enc.sz Lk+ys.length*Enc.sz Lk) (List.take ((i+ys.length)*Enc.sz Lk) (cells xs++js)++List.take ((xs.length - i)*Enc.sz Lk) (List.drop (i*Enc.sz Lk) (cells xs++js))++List.drop ((i+ys.length)*Enc.sz Lk+(xs.length - i)*Enc.sz Lk) (cells xs++js)))=cells (List.take i xs++ys++List.drop i xs):=ins_cells hi hjs
    exact A4 rfl rfl (vc 146 (.slice a (List.take i xs++ys++List.drop i xs).length c) (List.take i xs++ys++List.drop i xs)::I) (by rw [hC];show Fit κ _ (vec 146 _ (.slice a (List.take i xs++ys++List.drop i xs).length c) (List.take i xs++ys++List.drop i xs).length (cells (List.take i xs++ys++List.drop i xs))::I);rw [hRl];exact Bt) ⟨a,c,by rw [hRl],rfl⟩
theorem InsertL_two{a va:Option Addr}{n m c vcp i:Nat}{xs ys:List Lk}{K:List Item}(hf:Fit κ I (vc 146 (.slice a n c) xs::vc 146 (.slice va m vcp) ys::K))(hn:n=xs.length)(hm:m=ys.length)(hi:i≤xs.length)(hy:0<ys.length)(hsz:xs.length+ys.length≤1000000000) :
  CallS Tryz.prog κ 303 [.slice a n c,I64 (i:Int),.slice va m vcp] I (fun r J=>∃a' c',r = .slice a' (List.take i xs++ys++List.drop i xs).length c'∧J=vc 146 (.slice a' (List.take i xs++ys++List.drop i xs).length c') (List.take i xs++ys++List.drop i xs)::K):=by
 subst hn hm
 exact Cg hf (InsertL_ok hi hy hsz)
theorem BSearchL{v:Value}{xs:List Lk}(hl:Sl κ I v xs)(x:Lk){g:FuncId}{cp_:List Value}{cf:Lk→Lk→Int}(hcb:Cmps Tryz.prog κ I g cp_ cf)(hsz:xs.length≤1000000000000) :
    CallS Tryz.prog κ 302 [v,.agg #[I64 (x.u),I64 (x.v),I64 (x.w),I64 (x.lb),I64 (x.sg),I64 (x.tm)],.func (.func g) #[] cp_.toArray] I (fun r J=>∃i b,r = .tuple #[I64 ((i:Nat):Int),.bool b]∧BFound cf xs x i b∧I=J):=by
 refine B4 hl.le fun hmax=>?_
 refine Ce3 Tryz.func302 rfl rfl ?_
 refine Ah (Ge1 (Bc (cs:=[_,_,_,_,_,_]) rfl rfl rfl) fun b1=>Ga rfl (Ga rfl (Af (Ah (Gm rfl (Gr (Bw (α:=Lk) (xs:=xs) Aq rfl (Bi hl)) (Ga rfl (Af (Ah (Gm rfl (Ga rfl (Ga rfl (Af (Ap (A3 (Bv (σ:=Nat×Nat) (fun s=>([(0,v),(2,.func (.func g) #[] cp_.toArray),(4,.pointer (some ⟨b1,0,none⟩)),(8,I64 (((xs.length:Nat):Int))),(9,I64 (((s.1:Nat):Int))),(10,I64 (((s.2:Nat):Int)))]:Env)) (fun s=>blk b1 [I64 (x.u),I64 (x.v),I64 (x.w),I64 (x.lb),I64 (x.sg),I64 (x.tm)] 146::I) (fun s=>(s.1≤s.2)∧(s.2≤xs.length)∧(0<s.1→cf (at_ xs ((s.1:Int) - 1)) x<0)∧(s.2<xs.length→¬cf (at_ xs (s.2:Int)) x<0)) (fun s=>s.2 - s.1) (0,xs.length) (show ((0:Nat)≤(xs.length:Nat))∧((xs.length:Nat)≤xs.length)∧(0<(0:Nat)→cf (at_ xs (((0:Nat):Int) - 1)) x<0)∧((xs.length:Nat)<xs.length→¬cf (at_ xs ((xs.length:Nat):Int)) x<0) from ⟨om,om,(fun h=>absurd h dc),(fun h=>absurd h om)⟩) (Ab rfl (Ab rfl (Ab rfl (Ab rfl (Ab Cc (Ab Cc Bj)))))) (show Fit κ _ (blk b1 [I64 (x.u),I64 (x.v),I64 (x.w),I64 (x.lb),I64 (x.sg),I64 (x.tm)] 146::I) from Ay) ?_))))))))))))))))
 rintro ⟨i,j⟩ hp
 dsimp only at hp ⊢
 obtain ⟨hij,hj,hlo,hhi⟩:=hp
 refine Ap (Ah (Gm rfl (Gm rfl (Gr (Bb rfl rfl) (Af (A9 rfl (fun c17=>?_) (fun c17=>?_)))))))
 ·refine A1 (Ai (A3 (Ah (Gm rfl (Gm rfl (Gr (Rad rfl rfl) (Gr (Runs.convU Be D8 rfl om) (Gr (Runs.shr1 rfl rfl) (Gr (Runs.convI D8 Be rfl (by unfold InR;omega)) (Ga rfl (Af (Ar (S7 11 0 2 4 8 9 10 rfl rfl rfl rfl rfl rfl rfl) (Ap (Bd mixed (Bl (blk b1 [I64 (x.u),I64 (x.v),I64 (x.w),I64 (x.lb),I64 (x.sg),I64 (x.tm)] 146::I) 8 (Dr 0 rfl (Ad rfl) (Dr 1 rfl (Ad rfl) (Dr 2 rfl (Ad rfl) (Dr 3 rfl (A0 (α:=Lk) (xs:=xs) Aq ty146 rfl rfl (Bi hl) om om) (Dr 4 rfl (Bu (α:=Lk) (xs:=xs) ty146 rfl (Bi hl) om om) (Dr 5 rfl (Bo (vs:=[_,_,_,_,_,_]) ty146) ?_)))))))))))))))))))))
  refine Ds1 6 (Se rfl (Cl hcb.1 (first:=[]) (caps:=cp_) rfl rfl rfl (hcb.2 (at_ xs (((i:Int)+(j:Int)) / 2)) x _ Ax)) ?_)
  rintro _ _ ⟨_,_,⟨rfl,rfl⟩,rfl,rfl⟩
  refine ⟨Ay,?_⟩
  refine Dr 7 rfl (Bb rfl rfl) (Dz (Ai (Ar (S8 31 11 0 2 4 8 9 10 rfl rfl rfl rfl rfl rfl rfl rfl) (A9 rfl (fun c31=>?_) (fun c31=>?_)))))
  ·exact A2 (Gm rfl (Gr (Rad rfl rfl) (Ga rfl (Bh (Aj (B7 (((i+j) / 2+1),(j)) (by dsimp only;exact ⟨om,om,(fun _=>by rw [show (((i+j) / 2+1:Nat):Int) - 1=((i:Int)+(j:Int)) / 2 by omega];exact c31),hhi⟩)))))))
  ·exact A2 (Gm rfl (Ga rfl (Bh (Aj (B7 ((i),((i+j) / 2)) (by dsimp only;exact ⟨om,om,hlo,(fun _=>by rw [show (((i+j) / 2:Nat):Int)=((i:Int)+(j:Int)) / 2 by omega];exact c31)⟩))))))
 ·refine Bs (Am (Am (A7 (Ai (Ap (Bd mixed (Bl (blk b1 [I64 (x.u),I64 (x.v),I64 (x.w),I64 (x.lb),I64 (x.sg),I64 (x.tm)] 146::I) 16 (Dr 0 rfl (Ad rfl) (Dr 1 rfl (Ad rfl) (Dr 2 rfl (Ad rfl) (Dr 3 rfl (Bb rfl rfl) (Dr 4 rfl (Ad rfl) (Dl (d:=39) rfl (fun g39=>?_) (fun g39=>?_))))))))))))))
  ·refine Dro 5 rfl (Ad rfl) (Dro 6 rfl (Ad rfl) (Dro 7 rfl (Ad rfl) (Dro 8 rfl (A0 (α:=Lk) (xs:=xs) Aq ty146 rfl rfl (Bi hl) om om) (Dro 9 rfl (Bu (α:=Lk) (xs:=xs) ty146 rfl (Bi hl) om om) (Dro 10 rfl (Bo (vs:=[_,_,_,_,_,_]) ty146) ?_)))))
   refine Ds1 11 (Se rfl (Cl hcb.1 (first:=[]) (caps:=cp_) rfl rfl rfl (hcb.2 (at_ xs (i:Int)) x _ Ax)) ?_)
   rintro _ _ ⟨_,_,⟨rfl,rfl⟩,rfl,rfl⟩
   refine ⟨Ay,?_⟩
   refine Dro 12 rfl (Bm rfl rfl) (Dr 13 rfl (As rfl rfl) (Dr 14 rfl (A6 rfl) (Dr 15 rfl (A6 rfl) (Dz (Ai (Ar (S2 7 6 rfl rfl) (Az ?_)))))))
   have hie:i=j:=by omega
   subst hie
   exact Ct rfl rfl rfl (I) Ax ⟨i,_,rfl,⟨hj,hlo,hhi,(decide_eq_decide.2 ⟨fun h=>⟨by omega,h⟩,fun h=>h.2⟩)⟩,rfl⟩
  ·refine Dpo 5 rfl (Dpo 6 rfl (Dpo 7 rfl (Dpo 8 rfl (Dpo 9 rfl (Dpo 10 rfl (Dpo 11 rfl (Dpo 12 rfl (Dr 13 rfl (Au rfl rfl) (Dr 14 rfl (A6 rfl) (Dr 15 rfl (A6 rfl) (Dz (Ai (Ar (S2 7 6 rfl rfl) (Az ?_))))))))))))))
   have hie:i=j:=by omega
   subst hie
   exact Ct rfl rfl rfl (I) Ax ⟨i,_,rfl,⟨hj,hlo,hhi,((decide_eq_false (fun h=>by omega)).symm)⟩,rfl⟩
theorem OrderL_cmps:Cmps Tryz.prog κ I 255 [] Lk.cmp:=⟨call255,fun x y J hf=>OrderL_ok x y⟩
set_option maxHeartbeats 1000000 in
theorem SetP_base{κ:Ctx}{I:List Item}{e:Ev}{a0:Option Addr}{c0:Nat}{xs:List Lk}(ha:xs.Pairwise Lk.lt)(hsz:xs.length≤1000000) :
    CallS Tryz.prog κ 256 [.slice a0 xs.length c0,.agg #[I64 (e.kd),I64 (e.tm),I64 (e.u),I64 (e.v),I64 (e.w),I64 (e.lb),I64 (e.sg)]] (vc 146 (.slice a0 xs.length c0) (xs)::I) (fun r J=>∃y:Option Addr×Nat×Value,(r = .tuple #[.slice y.1 (setL (lkOf e) xs).length y.2.1,y.2.2])∧J=[]++vc 146 (.slice y.1 (setL (lkOf e) xs).length y.2.1) (setL (lkOf e) xs)::I):=by
 refine Ce2 Tryz.func256 rfl rfl ?_
 refine Ah (Ge1 (Bc (cs:=[_,_,_,_,_,_,_]) rfl rfl rfl) fun b1=>Ga rfl (Ga rfl (Af (Ah (Gf fld108_2 rfl (Gl ty3 ?_))))))
 refine Gf fld108_3 rfl (Gl ty3 ?_)
 refine Gr (Runs.min rfl rfl) (Gf fld108_2 rfl (Gl ty3 ?_))
 refine Gf fld108_3 rfl (Gl ty3 ?_)
 refine Gr (Ei rfl rfl) (Gf fld108_4 rfl (Gl ty3 ?_))
 refine Gf fld108_5 rfl (Gl ty3 ?_)
 refine Gf fld108_6 rfl (Gl ty3 ?_)
 refine Gf fld108_1 rfl (Gl ty3 ?_)
 refine Gr (Bg (cells:=[_,_,_,_,_,_]) ty146 Tryz.underlying146 pl146 rfl rfl) (Ge1 (A8 ty146 rfl) fun b2=>Ge0 (D5 ty146) ?_)
 refine Af (Ar (S3 6 3 0 rfl rfl rfl) (Ah (Gm rfl (Gl6 ty146 ?_))))
 refine G.e (Al call302 rfl rfl (BSearchL Bf (⟨if e.v<e.u then e.v else e.u,if e.u<e.v then e.v else e.u,e.w,e.lb,e.sg,e.tm⟩:Lk) OrderL_cmps om)) ?_
 rintro _ _ ⟨_,_,⟨i3,q4,rfl,hi3,rfl⟩,rfl,rfl⟩
 refine Gm rfl ?_
 have hile:=hi3.le
 refine Gr (Aw rfl rfl) (Gr (Aw rfl rfl) (Ga rfl (Ga rfl (Af (Ap (Ap (Bd mixed (Bl (blk b2 [I64 (if e.v<e.u then e.v else e.u),I64 (if e.u<e.v then e.v else e.u),I64 (e.w),I64 (e.lb),I64 (e.sg),I64 (e.tm)] 146::blk b1 [I64 (e.kd),I64 (e.tm),I64 (e.u),I64 (e.v),I64 (e.w),I64 (e.lb),I64 (e.sg)] 108::vc 146 (.slice a0 xs.length c0) (xs)::I) 9 (Dr 0 rfl (Ad rfl) (Dr 1 rfl (Ad rfl) (D.splitb (d:=35) rfl (fun g35=>?_) (fun g35=>?_))))))))))))
 ·have hil:=(setL_there hi3 ha g35).1
  refine Dro 2 rfl (Ad rfl) (Dro 3 rfl (Ad rfl) (Dro 4 rfl (A0 (α:=Lk) (xs:=xs) Aq ty146 rfl rfl Bf om om) (Dro 5 rfl (Bu (α:=Lk) (xs:=xs) ty146 rfl Bf om om) (Dro 6 rfl (Bo (vs:=[_,_,_,_,_,_]) ty146) ?_))))
  refine Dro 7 rfl (Runs.eqlT (α:=Lk) (a:=(at_ xs (i3:Int))) (b:=(⟨if e.v<e.u then e.v else e.u,if e.u<e.v then e.v else e.u,e.w,e.lb,e.sg,e.tm⟩:Lk)) eqt146 rfl rfl) (Dr 8 rfl (As rfl rfl) (Dz (Ai (Ar (S6 42 8 7 6 3 0 rfl rfl rfl rfl rfl rfl) (A9 rfl (fun c42=>?_) (fun c42=>?_))))))
  ·refine Ah (Gm rfl (Ga rfl (Ga rfl (Af (Az (Ak ?_))))))
   have hst:i3<xs.length∧(setL (lkOf e) xs)=xs.set i3 (lkOf e):=setL_there hi3 ha g35
   have hE:xs=(setL (lkOf e) xs):=by rw [hst.2];exact (set_self (n:=lkOf e) hst.1 c42).symm
   exact Ct rfl rfl rfl ([]++vc 146 (.slice a0 (setL (lkOf e) xs).length c0) (setL (lkOf e) xs)::I) (by rw [←hE];exact Ay) ⟨⟨a0,c0,.slice none 0 0⟩,by rw [←hE],rfl⟩
  ·refine A1 (Ai (Ap (Ah (Gm rfl (Gr (Cn rfl) (Af (W.cond rfl (fun c45=>?_) (fun c45=>?_))))))))
   ·rw [g35] at c45;exact absurd c45 dc
   ·refine Ah (Gm rfl (G.e (Al call216 rfl rfl (CloneL (xs:=xs) Bf om)) ?_))
    rintro _ _ ⟨_,_,⟨ad5,cp6,rfl,rfl⟩,rfl,rfl⟩
    refine Ga rfl (Af (A2 (Gm rfl (Gm rfl (Gl6 ty146 ?_)))))
    refine Gr (A0 (α:=Lk) (xs:=xs) Aq ty146 rfl rfl Bf om om) (Ge0 (Cw (α:=Lk) (xs:=xs) (e:=146) (new:=⟨if e.v<e.u then e.v else e.u,if e.u<e.v then e.v else e.u,e.w,e.lb,e.sg,e.tm⟩) ty146 rfl rfl rfl om om am) ?_)
    refine Af (Ar (S3 0 6 3 rfl rfl rfl) (Ap (Bd mixed (Bl (vc 146 (.slice ad5 xs.length cp6) (List.set xs ((i3:Int)).toNat (⟨if e.v<e.u then e.v else e.u,if e.u<e.v then e.v else e.u,e.w,e.lb,e.sg,e.tm⟩))::blk b2 [I64 (if e.v<e.u then e.v else e.u),I64 (if e.u<e.v then e.v else e.u),I64 (e.w),I64 (e.lb),I64 (e.sg),I64 (e.tm)] 146::vc 146 (.slice a0 xs.length c0) (xs)::I) 5 (Dr 0 rfl (Ac fld146_0 rfl) (Dr 1 rfl (Av ty3) ?_))))))
    refine Dr 4 rfl (Ac fld108_2 rfl) (Dh (rs:=[2,5]) kr rfl rfl (Ej ?_ (all1 ?_)))
    ·refine Sr rfl (Ac fld146_1 rfl) Ay ?_
     refine Dh (rs:=[3,5]) kr rfl rfl (Ej ?_ (all1 ?_))
     ·refine Sr rfl (Av ty3) Ay ?_
      refine Cy kr ?_
      refine Ae 5 rfl (Dn ty3) ?_
      rintro _ _ ⟨rfl,rfl⟩
      refine A.read (i:=6) kr rfl (B9 rfl) rfl rfl (Ac fld108_3 rfl) ?_
      refine Ae 7 rfl (Dn ty3) ?_
      rintro _ _ ⟨rfl,rfl⟩
      refine Cz kr ?_
      refine Ai (Ap (Bd mixed (Bl (vc 146 (.slice ad5 xs.length cp6) (List.set xs ((i3:Int)).toNat (⟨if e.v<e.u then e.v else e.u,if e.u<e.v then e.v else e.u,e.w,e.lb,e.sg,e.tm⟩))::blk b2 [I64 (if e.v<e.u then e.v else e.u),I64 (if e.u<e.v then e.v else e.u),I64 (e.w),I64 (e.lb),I64 (e.sg),I64 (e.tm)] 146::blk b1 [I64 (e.kd),I64 (e.tm),I64 (if e.v<e.u then e.v else e.u),I64 (if e.u<e.v then e.v else e.u),I64 (e.w),I64 (e.lb),I64 (e.sg)] 108::vc 146 (.slice a0 xs.length c0) (xs)::I) 5 (Dr 0 rfl (Ad rfl) (Dr 1 rfl (Bo (vs:=[_,_,_,_,_,_,_]) ty108) ?_)))))
      refine Dr 3 rfl (A6 rfl) (Ds1 2 (Se1 rfl (B8 (α:=Ev) (cs:=[I64 (e.kd),I64 (e.tm),I64 (if e.v<e.u then e.v else e.u),I64 (if e.u<e.v then e.v else e.u),I64 (e.w),I64 (e.lb),I64 (e.sg)]) (xs:=[⟨e.kd,e.tm,if e.v<e.u then e.v else e.u,if e.u<e.v then e.v else e.u,e.w,e.lb,e.sg⟩]) A5 ty108 rfl rfl dc dc rfl kr rfl rfl) fun ad7=>?_))
      refine Dr 4 rfl (A6 rfl) (Dz (Ai (Ar (S2 5 4 rfl rfl) (Az ?_))))
      have hE:List.set xs ((i3:Int)).toNat (⟨if e.v<e.u then e.v else e.u,if e.u<e.v then e.v else e.u,e.w,e.lb,e.sg,e.tm⟩)=(setL (lkOf e) xs):=(setL_there hi3 ha g35).2.symm
      have hEl:(setL (lkOf e) xs).length=xs.length:=by rw [←hE,List.length_set]
      exact Ct rfl rfl rfl ([]++vc 146 (.slice ad5 (setL (lkOf e) xs).length cp6) (setL (lkOf e) xs)::I) (by rw [hEl,←hE];exact Ay) ⟨⟨ad5,cp6,.slice ad7 1 1⟩,by rw [hEl],rfl⟩
     ·refine Se0 rfl (Dn ty3) ?_
      refine Ds1 3 (Sr rfl (Av ty3) Ay ?_)
      refine Ds1 6 (Sr rfl (Ac fld108_3 rfl) Ay ?_)
      refine Ds1 7 (Se0 rfl (Dn ty3) ?_)
      refine Dz (Ai (Ap (Bd mixed (Bl (vc 146 (.slice ad5 xs.length cp6) (List.set xs ((i3:Int)).toNat (⟨if e.v<e.u then e.v else e.u,if e.u<e.v then e.v else e.u,e.w,e.lb,e.sg,e.tm⟩))::blk b2 [I64 (if e.v<e.u then e.v else e.u),I64 (if e.u<e.v then e.v else e.u),I64 (e.w),I64 (e.lb),I64 (e.sg),I64 (e.tm)] 146::blk b1 [I64 (e.kd),I64 (e.tm),I64 (if e.v<e.u then e.v else e.u),I64 (if e.u<e.v then e.v else e.u),I64 (e.w),I64 (e.lb),I64 (e.sg)] 108::vc 146 (.slice a0 xs.length c0) (xs)::I) 5 (Dr 0 rfl (Ad rfl) (Dr 1 rfl (Bo (vs:=[_,_,_,_,_,_,_]) ty108) ?_))))))
      refine Dr 3 rfl (A6 rfl) (Ds1 2 (Se1 rfl (B8 (α:=Ev) (cs:=[I64 (e.kd),I64 (e.tm),I64 (if e.v<e.u then e.v else e.u),I64 (if e.u<e.v then e.v else e.u),I64 (e.w),I64 (e.lb),I64 (e.sg)]) (xs:=[⟨e.kd,e.tm,if e.v<e.u then e.v else e.u,if e.u<e.v then e.v else e.u,e.w,e.lb,e.sg⟩]) A5 ty108 rfl rfl dc dc rfl kr rfl rfl) fun ad8=>?_))
      refine Dr 4 rfl (A6 rfl) (Dz (Ai (Ar (S2 5 4 rfl rfl) (Az ?_))))
      have hE:List.set xs ((i3:Int)).toNat (⟨if e.v<e.u then e.v else e.u,if e.u<e.v then e.v else e.u,e.w,e.lb,e.sg,e.tm⟩)=(setL (lkOf e) xs):=(setL_there hi3 ha g35).2.symm
      have hEl:(setL (lkOf e) xs).length=xs.length:=by rw [←hE,List.length_set]
      exact Ct rfl rfl rfl ([]++vc 146 (.slice ad5 (setL (lkOf e) xs).length cp6) (setL (lkOf e) xs)::I) (by rw [hEl,←hE];exact Ay) ⟨⟨ad5,cp6,.slice ad8 1 1⟩,by rw [hEl],rfl⟩
    ·refine Se0 rfl (Dn ty3) ?_
     refine Ds1 2 (Sr rfl (Ac fld146_1 rfl) Ay ?_)
     refine Ds1 3 (Sr rfl (Av ty3) Ay ?_)
     refine Ds1 6 (Sr rfl (Ac fld108_3 rfl) Ay ?_)
     refine Ds1 7 (Se0 rfl (Dn ty3) ?_)
     refine Dz (Ai (Ap (Bd mixed (Bl (vc 146 (.slice ad5 xs.length cp6) (List.set xs ((i3:Int)).toNat (⟨if e.v<e.u then e.v else e.u,if e.u<e.v then e.v else e.u,e.w,e.lb,e.sg,e.tm⟩))::blk b2 [I64 (if e.v<e.u then e.v else e.u),I64 (if e.u<e.v then e.v else e.u),I64 (e.w),I64 (e.lb),I64 (e.sg),I64 (e.tm)] 146::blk b1 [I64 (e.kd),I64 (e.tm),I64 (if e.v<e.u then e.v else e.u),I64 (if e.u<e.v then e.v else e.u),I64 (e.w),I64 (e.lb),I64 (e.sg)] 108::vc 146 (.slice a0 xs.length c0) (xs)::I) 5 (Dr 0 rfl (Ad rfl) (Dr 1 rfl (Bo (vs:=[_,_,_,_,_,_,_]) ty108) ?_))))))
     refine Dr 3 rfl (A6 rfl) (Ds1 2 (Se1 rfl (B8 (α:=Ev) (cs:=[I64 (e.kd),I64 (e.tm),I64 (if e.v<e.u then e.v else e.u),I64 (if e.u<e.v then e.v else e.u),I64 (e.w),I64 (e.lb),I64 (e.sg)]) (xs:=[⟨e.kd,e.tm,if e.v<e.u then e.v else e.u,if e.u<e.v then e.v else e.u,e.w,e.lb,e.sg⟩]) A5 ty108 rfl rfl dc dc rfl kr rfl rfl) fun ad9=>?_))
     refine Dr 4 rfl (A6 rfl) (Dz (Ai (Ar (S2 5 4 rfl rfl) (Az ?_))))
     have hE:List.set xs ((i3:Int)).toNat (⟨if e.v<e.u then e.v else e.u,if e.u<e.v then e.v else e.u,e.w,e.lb,e.sg,e.tm⟩)=(setL (lkOf e) xs):=(setL_there hi3 ha g35).2.symm
     have hEl:(setL (lkOf e) xs).length=xs.length:=by rw [←hE,List.length_set]
     exact Ct rfl rfl rfl ([]++vc 146 (.slice ad5 (setL (lkOf e) xs).length cp6) (setL (lkOf e) xs)::I) (by rw [hEl,←hE];exact Ay) ⟨⟨ad5,cp6,.slice ad9 1 1⟩,by rw [hEl],rfl⟩
 ·refine Dpo 2 rfl (Dpo 3 rfl (Dpo 4 rfl (Dpo 5 rfl (Dpo 6 rfl (Dpo 7 rfl (Dr 8 rfl (Au rfl rfl) (Dz (Ai (Ar (S6 42 8 7 6 3 0 rfl rfl rfl rfl rfl rfl) (D0 rfl (A1 (Ai (Ap (Ah (Gm rfl (Gr (Cn rfl) (Af (W.cond rfl (fun c45=>?_) (fun c45=>?_)))))))))))))))))))
  ·refine Bd mixed (Bl (blk b2 [I64 (if e.v<e.u then e.v else e.u),I64 (if e.u<e.v then e.v else e.u),I64 (e.w),I64 (e.lb),I64 (e.sg),I64 (e.tm)] 146::blk b1 [I64 (e.kd),I64 (e.tm),I64 (e.u),I64 (e.v),I64 (e.w),I64 (e.lb),I64 (e.sg)] 108::vc 146 (.slice a0 xs.length c0) (xs)::I) 7 (Dr 0 rfl (Ad rfl) (Dr 2 rfl (Ad rfl) (Dr 3 rfl (Bo (vs:=[_,_,_,_,_,_]) ty146) ?_))))
   refine Dh (rs:=[1,4]) kr rfl rfl (Ej ?_ (all1 ?_))
   ·refine Se rfl (Al call216 rfl rfl (CloneL (xs:=xs) Bf om)) ?_
    rintro _ _ ⟨_,_,⟨ad10,cp11,rfl,rfl⟩,rfl,rfl⟩
    refine ⟨Ay,?_⟩
    refine Ds1 4 (Se1 rfl (B8 (α:=Lk) (cs:=[I64 (if e.v<e.u then e.v else e.u),I64 (if e.u<e.v then e.v else e.u),I64 (e.w),I64 (e.lb),I64 (e.sg),I64 (e.tm)]) (xs:=[⟨if e.v<e.u then e.v else e.u,if e.u<e.v then e.v else e.u,e.w,e.lb,e.sg,e.tm⟩]) Aq ty146 rfl rfl dc dc rfl kr rfl rfl) fun ad12=>?_)
    refine Ds1 5 (Sc2 rfl (Al call303 rfl rfl (InsertL_two (i:=i3) (xs:=xs) (ys:=([⟨if e.v<e.u then e.v else e.u,if e.u<e.v then e.v else e.u,e.w,e.lb,e.sg,e.tm⟩]:List Lk)) (show Fit κ _ (vc 146 (.slice ad10 xs.length cp11) (xs)::vc 146 (.slice ad12 1 1) (([⟨if e.v<e.u then e.v else e.u,if e.u<e.v then e.v else e.u,e.w,e.lb,e.sg,e.tm⟩]:List Lk))::blk b2 [I64 (if e.v<e.u then e.v else e.u),I64 (if e.u<e.v then e.v else e.u),I64 (e.w),I64 (e.lb),I64 (e.sg),I64 (e.tm)] 146::blk b1 [I64 (e.kd),I64 (e.tm),I64 (e.u),I64 (e.v),I64 (e.w),I64 (e.lb),I64 (e.sg)] 108::vc 146 (.slice a0 xs.length c0) (xs)::I) from Bt) rfl rfl om (by simp only [List.length_cons];omega) lcn)) fun ad13 cp14=>?_)
    show D Tryz.prog κ _ _ _ _ _ _ _ ([(51,.slice ad13 (List.take i3 xs++([⟨if e.v<e.u then e.v else e.u,if e.u<e.v then e.v else e.u,e.w,e.lb,e.sg,e.tm⟩]:List Lk)++List.drop i3 xs).length cp14),(50,.slice ad12 1 1),(47,.slice ad10 xs.length cp11),(49,.agg #[I64 (if e.v<e.u then e.v else e.u),I64 (if e.u<e.v then e.v else e.u),I64 (e.w),I64 (e.lb),I64 (e.sg),I64 (e.tm)]),(48,I64 ((i3:Int))),(46,.slice a0 xs.length c0),(45,.bool (!q4)),(44,.bool (q4)),(42,.bool false),(8,.bool (q4)),(7,I64 ((i3:Int))),(6,.pointer (some ⟨b2,0,none⟩)),(3,.pointer (some ⟨b1,0,none⟩)),(0,.slice a0 xs.length c0)]:Env) (vc 146 (.slice ad13 (List.take i3 xs++([⟨if e.v<e.u then e.v else e.u,if e.u<e.v then e.v else e.u,e.w,e.lb,e.sg,e.tm⟩]:List Lk)++List.drop i3 xs).length cp14) (List.take i3 xs++([⟨if e.v<e.u then e.v else e.u,if e.u<e.v then e.v else e.u,e.w,e.lb,e.sg,e.tm⟩]:List Lk)++List.drop i3 xs)::blk b2 [I64 (if e.v<e.u then e.v else e.u),I64 (if e.u<e.v then e.v else e.u),I64 (e.w),I64 (e.lb),I64 (e.sg),I64 (e.tm)] 146::blk b1 [I64 (e.kd),I64 (e.tm),I64 (e.u),I64 (e.v),I64 (e.w),I64 (e.lb),I64 (e.sg)] 108::vc 146 (.slice a0 xs.length c0) (xs)::I)
    refine Dr 6 rfl (A6 rfl) (Dz (Ai (Ar (S3 0 6 3 rfl rfl rfl) (Ap (Bd mixed (Bl (vc 146 (.slice ad13 (List.take i3 xs++([⟨if e.v<e.u then e.v else e.u,if e.u<e.v then e.v else e.u,e.w,e.lb,e.sg,e.tm⟩]:List Lk)++List.drop i3 xs).length cp14) (List.take i3 xs++([⟨if e.v<e.u then e.v else e.u,if e.u<e.v then e.v else e.u,e.w,e.lb,e.sg,e.tm⟩]:List Lk)++List.drop i3 xs)::blk b2 [I64 (if e.v<e.u then e.v else e.u),I64 (if e.u<e.v then e.v else e.u),I64 (e.w),I64 (e.lb),I64 (e.sg),I64 (e.tm)] 146::vc 146 (.slice a0 xs.length c0) (xs)::I) 5 (Dr 0 rfl (Ac fld146_0 rfl) (Dr 1 rfl (Av ty3) ?_))))))))
    refine Dr 4 rfl (Ac fld108_2 rfl) (Dh (rs:=[2,5]) kr rfl rfl (Ej ?_ (all1 ?_)))
    ·refine Sr rfl (Ac fld146_1 rfl) Ay ?_
     refine Dh (rs:=[3,5]) kr rfl rfl (Ej ?_ (all1 ?_))
     ·refine Sr rfl (Av ty3) Ay ?_
      refine Cy kr ?_
      refine Ae 5 rfl (Dn ty3) ?_
      rintro _ _ ⟨rfl,rfl⟩
      refine A.read (i:=6) kr rfl (B9 rfl) rfl rfl (Ac fld108_3 rfl) ?_
      refine Ae 7 rfl (Dn ty3) ?_
      rintro _ _ ⟨rfl,rfl⟩
      refine Cz kr ?_
      refine Ai (Ap (Bd mixed (Bl (vc 146 (.slice ad13 (List.take i3 xs++([⟨if e.v<e.u then e.v else e.u,if e.u<e.v then e.v else e.u,e.w,e.lb,e.sg,e.tm⟩]:List Lk)++List.drop i3 xs).length cp14) (List.take i3 xs++([⟨if e.v<e.u then e.v else e.u,if e.u<e.v then e.v else e.u,e.w,e.lb,e.sg,e.tm⟩]:List Lk)++List.drop i3 xs)::blk b2 [I64 (if e.v<e.u then e.v else e.u),I64 (if e.u<e.v then e.v else e.u),I64 (e.w),I64 (e.lb),I64 (e.sg),I64 (e.tm)] 146::blk b1 [I64 (e.kd),I64 (e.tm),I64 (if e.v<e.u then e.v else e.u),I64 (if e.u<e.v then e.v else e.u),I64 (e.w),I64 (e.lb),I64 (e.sg)] 108::vc 146 (.slice a0 xs.length c0) (xs)::I) 5 (Dr 0 rfl (Ad rfl) (Dr 1 rfl (Bo (vs:=[_,_,_,_,_,_,_]) ty108) ?_)))))
      refine Dr 3 rfl (A6 rfl) (Ds1 2 (Se1 rfl (B8 (α:=Ev) (cs:=[I64 (e.kd),I64 (e.tm),I64 (if e.v<e.u then e.v else e.u),I64 (if e.u<e.v then e.v else e.u),I64 (e.w),I64 (e.lb),I64 (e.sg)]) (xs:=[⟨e.kd,e.tm,if e.v<e.u then e.v else e.u,if e.u<e.v then e.v else e.u,e.w,e.lb,e.sg⟩]) A5 ty108 rfl rfl dc dc rfl kr rfl rfl) fun ad15=>?_))
      refine Dr 4 rfl (A6 rfl) (Dz (Ai (Ar (S2 5 4 rfl rfl) (Az ?_))))
      have hE:List.take i3 xs++([⟨if e.v<e.u then e.v else e.u,if e.u<e.v then e.v else e.u,e.w,e.lb,e.sg,e.tm⟩]:List Lk)++List.drop i3 xs=(setL (lkOf e) xs):=(setL_new hi3 ha g35).symm
      exact Ct rfl rfl rfl ([]++vc 146 (.slice ad13 (setL (lkOf e) xs).length cp14) (setL (lkOf e) xs)::I) (by rw [←hE];exact Ay) ⟨⟨ad13,cp14,.slice ad15 1 1⟩,by rw [←hE],rfl⟩
     ·refine Se0 rfl (Dn ty3) ?_
      refine Ds1 3 (Sr rfl (Av ty3) Ay ?_)
      refine Ds1 6 (Sr rfl (Ac fld108_3 rfl) Ay ?_)
      refine Ds1 7 (Se0 rfl (Dn ty3) ?_)
      refine Dz (Ai (Ap (Bd mixed (Bl (vc 146 (.slice ad13 (List.take i3 xs++([⟨if e.v<e.u then e.v else e.u,if e.u<e.v then e.v else e.u,e.w,e.lb,e.sg,e.tm⟩]:List Lk)++List.drop i3 xs).length cp14) (List.take i3 xs++([⟨if e.v<e.u then e.v else e.u,if e.u<e.v then e.v else e.u,e.w,e.lb,e.sg,e.tm⟩]:List Lk)++List.drop i3 xs)::blk b2 [I64 (if e.v<e.u then e.v else e.u),I64 (if e.u<e.v then e.v else e.u),I64 (e.w),I64 (e.lb),I64 (e.sg),I64 (e.tm)] 146::blk b1 [I64 (e.kd),I64 (e.tm),I64 (if e.v<e.u then e.v else e.u),I64 (if e.u<e.v then e.v else e.u),I64 (e.w),I64 (e.lb),I64 (e.sg)] 108::vc 146 (.slice a0 xs.length c0) (xs)::I) 5 (Dr 0 rfl (Ad rfl) (Dr 1 rfl (Bo (vs:=[_,_,_,_,_,_,_]) ty108) ?_))))))
      refine Dr 3 rfl (A6 rfl) (Ds1 2 (Se1 rfl (B8 (α:=Ev) (cs:=[I64 (e.kd),I64 (e.tm),I64 (if e.v<e.u then e.v else e.u),I64 (if e.u<e.v then e.v else e.u),I64 (e.w),I64 (e.lb),I64 (e.sg)]) (xs:=[⟨e.kd,e.tm,if e.v<e.u then e.v else e.u,if e.u<e.v then e.v else e.u,e.w,e.lb,e.sg⟩]) A5 ty108 rfl rfl dc dc rfl kr rfl rfl) fun ad16=>?_))
      refine Dr 4 rfl (A6 rfl) (Dz (Ai (Ar (S2 5 4 rfl rfl) (Az ?_))))
      have hE:List.take i3 xs++([⟨if e.v<e.u then e.v else e.u,if e.u<e.v then e.v else e.u,e.w,e.lb,e.sg,e.tm⟩]:List Lk)++List.drop i3 xs=(setL (lkOf e) xs):=(setL_new hi3 ha g35).symm
      exact Ct rfl rfl rfl ([]++vc 146 (.slice ad13 (setL (lkOf e) xs).length cp14) (setL (lkOf e) xs)::I) (by rw [←hE];exact Ay) ⟨⟨ad13,cp14,.slice ad16 1 1⟩,by rw [←hE],rfl⟩
    ·refine Se0 rfl (Dn ty3) ?_
     refine Ds1 2 (Sr rfl (Ac fld146_1 rfl) Ay ?_)
     refine Ds1 3 (Sr rfl (Av ty3) Ay ?_)
     refine Ds1 6 (Sr rfl (Ac fld108_3 rfl) Ay ?_)
     refine Ds1 7 (Se0 rfl (Dn ty3) ?_)
     refine Dz (Ai (Ap (Bd mixed (Bl (vc 146 (.slice ad13 (List.take i3 xs++([⟨if e.v<e.u then e.v else e.u,if e.u<e.v then e.v else e.u,e.w,e.lb,e.sg,e.tm⟩]:List Lk)++List.drop i3 xs).length cp14) (List.take i3 xs++([⟨if e.v<e.u then e.v else e.u,if e.u<e.v then e.v else e.u,e.w,e.lb,e.sg,e.tm⟩]:List Lk)++List.drop i3 xs)::blk b2 [I64 (if e.v<e.u then e.v else e.u),I64 (if e.u<e.v then e.v else e.u),I64 (e.w),I64 (e.lb),I64 (e.sg),I64 (e.tm)] 146::blk b1 [I64 (e.kd),I64 (e.tm),I64 (if e.v<e.u then e.v else e.u),I64 (if e.u<e.v then e.v else e.u),I64 (e.w),I64 (e.lb),I64 (e.sg)] 108::vc 146 (.slice a0 xs.length c0) (xs)::I) 5 (Dr 0 rfl (Ad rfl) (Dr 1 rfl (Bo (vs:=[_,_,_,_,_,_,_]) ty108) ?_))))))
     refine Dr 3 rfl (A6 rfl) (Ds1 2 (Se1 rfl (B8 (α:=Ev) (cs:=[I64 (e.kd),I64 (e.tm),I64 (if e.v<e.u then e.v else e.u),I64 (if e.u<e.v then e.v else e.u),I64 (e.w),I64 (e.lb),I64 (e.sg)]) (xs:=[⟨e.kd,e.tm,if e.v<e.u then e.v else e.u,if e.u<e.v then e.v else e.u,e.w,e.lb,e.sg⟩]) A5 ty108 rfl rfl dc dc rfl kr rfl rfl) fun ad17=>?_))
     refine Dr 4 rfl (A6 rfl) (Dz (Ai (Ar (S2 5 4 rfl rfl) (Az ?_))))
     have hE:List.take i3 xs++([⟨if e.v<e.u then e.v else e.u,if e.u<e.v then e.v else e.u,e.w,e.lb,e.sg,e.tm⟩]:List Lk)++List.drop i3 xs=(setL (lkOf e) xs):=(setL_new hi3 ha g35).symm
     exact Ct rfl rfl rfl ([]++vc 146 (.slice ad13 (setL (lkOf e) xs).length cp14) (setL (lkOf e) xs)::I) (by rw [←hE];exact Ay) ⟨⟨ad13,cp14,.slice ad17 1 1⟩,by rw [←hE],rfl⟩
   ·refine Se1 rfl (B8 (α:=Lk) (cs:=[I64 (if e.v<e.u then e.v else e.u),I64 (if e.u<e.v then e.v else e.u),I64 (e.w),I64 (e.lb),I64 (e.sg),I64 (e.tm)]) (xs:=[⟨if e.v<e.u then e.v else e.u,if e.u<e.v then e.v else e.u,e.w,e.lb,e.sg,e.tm⟩]) Aq ty146 rfl rfl dc dc rfl kr rfl rfl) fun ad18=>?_
    refine Ds1 1 (Se rfl (Al call216 rfl rfl (CloneL (xs:=xs) Bf om)) ?_)
    rintro _ _ ⟨_,_,⟨ad19,cp20,rfl,rfl⟩,rfl,rfl⟩
    refine ⟨Ay,?_⟩
    refine Ds1 5 (Sc2 rfl (Al call303 rfl rfl (InsertL_two (i:=i3) (xs:=xs) (ys:=([⟨if e.v<e.u then e.v else e.u,if e.u<e.v then e.v else e.u,e.w,e.lb,e.sg,e.tm⟩]:List Lk)) (show Fit κ _ (vc 146 (.slice ad19 xs.length cp20) (xs)::vc 146 (.slice ad18 1 1) (([⟨if e.v<e.u then e.v else e.u,if e.u<e.v then e.v else e.u,e.w,e.lb,e.sg,e.tm⟩]:List Lk))::blk b2 [I64 (if e.v<e.u then e.v else e.u),I64 (if e.u<e.v then e.v else e.u),I64 (e.w),I64 (e.lb),I64 (e.sg),I64 (e.tm)] 146::blk b1 [I64 (e.kd),I64 (e.tm),I64 (e.u),I64 (e.v),I64 (e.w),I64 (e.lb),I64 (e.sg)] 108::vc 146 (.slice a0 xs.length c0) (xs)::I) from Bt) rfl rfl om (by simp only [List.length_cons];omega) lcn)) fun ad21 cp22=>?_)
    show D Tryz.prog κ _ _ _ _ _ _ _ ([(51,.slice ad21 (List.take i3 xs++([⟨if e.v<e.u then e.v else e.u,if e.u<e.v then e.v else e.u,e.w,e.lb,e.sg,e.tm⟩]:List Lk)++List.drop i3 xs).length cp22),(47,.slice ad19 xs.length cp20),(50,.slice ad18 1 1),(49,.agg #[I64 (if e.v<e.u then e.v else e.u),I64 (if e.u<e.v then e.v else e.u),I64 (e.w),I64 (e.lb),I64 (e.sg),I64 (e.tm)]),(48,I64 ((i3:Int))),(46,.slice a0 xs.length c0),(45,.bool (!q4)),(44,.bool (q4)),(42,.bool false),(8,.bool (q4)),(7,I64 ((i3:Int))),(6,.pointer (some ⟨b2,0,none⟩)),(3,.pointer (some ⟨b1,0,none⟩)),(0,.slice a0 xs.length c0)]:Env) (vc 146 (.slice ad21 (List.take i3 xs++([⟨if e.v<e.u then e.v else e.u,if e.u<e.v then e.v else e.u,e.w,e.lb,e.sg,e.tm⟩]:List Lk)++List.drop i3 xs).length cp22) (List.take i3 xs++([⟨if e.v<e.u then e.v else e.u,if e.u<e.v then e.v else e.u,e.w,e.lb,e.sg,e.tm⟩]:List Lk)++List.drop i3 xs)::blk b2 [I64 (if e.v<e.u then e.v else e.u),I64 (if e.u<e.v then e.v else e.u),I64 (e.w),I64 (e.lb),I64 (e.sg),I64 (e.tm)] 146::blk b1 [I64 (e.kd),I64 (e.tm),I64 (e.u),I64 (e.v),I64 (e.w),I64 (e.lb),I64 (e.sg)] 108::vc 146 (.slice a0 xs.length c0) (xs)::I)
    refine Dr 6 rfl (A6 rfl) (Dz (Ai (Ar (S3 0 6 3 rfl rfl rfl) (Ap (Bd mixed (Bl (vc 146 (.slice ad21 (List.take i3 xs++([⟨if e.v<e.u then e.v else e.u,if e.u<e.v then e.v else e.u,e.w,e.lb,e.sg,e.tm⟩]:List Lk)++List.drop i3 xs).length cp22) (List.take i3 xs++([⟨if e.v<e.u then e.v else e.u,if e.u<e.v then e.v else e.u,e.w,e.lb,e.sg,e.tm⟩]:List Lk)++List.drop i3 xs)::blk b2 [I64 (if e.v<e.u then e.v else e.u),I64 (if e.u<e.v then e.v else e.u),I64 (e.w),I64 (e.lb),I64 (e.sg),I64 (e.tm)] 146::vc 146 (.slice a0 xs.length c0) (xs)::I) 5 (Dr 0 rfl (Ac fld146_0 rfl) (Dr 1 rfl (Av ty3) ?_))))))))
    refine Dr 4 rfl (Ac fld108_2 rfl) (Dh (rs:=[2,5]) kr rfl rfl (Ej ?_ (all1 ?_)))
    ·refine Sr rfl (Ac fld146_1 rfl) Ay ?_
     refine Dh (rs:=[3,5]) kr rfl rfl (Ej ?_ (all1 ?_))
     ·refine Sr rfl (Av ty3) Ay ?_
      refine Cy kr ?_
      refine Ae 5 rfl (Dn ty3) ?_
      rintro _ _ ⟨rfl,rfl⟩
      refine A.read (i:=6) kr rfl (B9 rfl) rfl rfl (Ac fld108_3 rfl) ?_
      refine Ae 7 rfl (Dn ty3) ?_
      rintro _ _ ⟨rfl,rfl⟩
      refine Cz kr ?_
      refine Ai (Ap (Bd mixed (Bl (vc 146 (.slice ad21 (List.take i3 xs++([⟨if e.v<e.u then e.v else e.u,if e.u<e.v then e.v else e.u,e.w,e.lb,e.sg,e.tm⟩]:List Lk)++List.drop i3 xs).length cp22) (List.take i3 xs++([⟨if e.v<e.u then e.v else e.u,if e.u<e.v then e.v else e.u,e.w,e.lb,e.sg,e.tm⟩]:List Lk)++List.drop i3 xs)::blk b2 [I64 (if e.v<e.u then e.v else e.u),I64 (if e.u<e.v then e.v else e.u),I64 (e.w),I64 (e.lb),I64 (e.sg),I64 (e.tm)] 146::blk b1 [I64 (e.kd),I64 (e.tm),I64 (if e.v<e.u then e.v else e.u),I64 (if e.u<e.v then e.v else e.u),I64 (e.w),I64 (e.lb),I64 (e.sg)] 108::vc 146 (.slice a0 xs.length c0) (xs)::I) 5 (Dr 0 rfl (Ad rfl) (Dr 1 rfl (Bo (vs:=[_,_,_,_,_,_,_]) ty108) ?_)))))
      refine Dr 3 rfl (A6 rfl) (Ds1 2 (Se1 rfl (B8 (α:=Ev) (cs:=[I64 (e.kd),I64 (e.tm),I64 (if e.v<e.u then e.v else e.u),I64 (if e.u<e.v then e.v else e.u),I64 (e.w),I64 (e.lb),I64 (e.sg)]) (xs:=[⟨e.kd,e.tm,if e.v<e.u then e.v else e.u,if e.u<e.v then e.v else e.u,e.w,e.lb,e.sg⟩]) A5 ty108 rfl rfl dc dc rfl kr rfl rfl) fun ad23=>?_))
      refine Dr 4 rfl (A6 rfl) (Dz (Ai (Ar (S2 5 4 rfl rfl) (Az ?_))))
      have hE:List.take i3 xs++([⟨if e.v<e.u then e.v else e.u,if e.u<e.v then e.v else e.u,e.w,e.lb,e.sg,e.tm⟩]:List Lk)++List.drop i3 xs=(setL (lkOf e) xs):=(setL_new hi3 ha g35).symm
      exact Ct rfl rfl rfl ([]++vc 146 (.slice ad21 (setL (lkOf e) xs).length cp22) (setL (lkOf e) xs)::I) (by rw [←hE];exact Ay) ⟨⟨ad21,cp22,.slice ad23 1 1⟩,by rw [←hE],rfl⟩
     ·refine Se0 rfl (Dn ty3) ?_
      refine Ds1 3 (Sr rfl (Av ty3) Ay ?_)
      refine Ds1 6 (Sr rfl (Ac fld108_3 rfl) Ay ?_)
      refine Ds1 7 (Se0 rfl (Dn ty3) ?_)
      refine Dz (Ai (Ap (Bd mixed (Bl (vc 146 (.slice ad21 (List.take i3 xs++([⟨if e.v<e.u then e.v else e.u,if e.u<e.v then e.v else e.u,e.w,e.lb,e.sg,e.tm⟩]:List Lk)++List.drop i3 xs).length cp22) (List.take i3 xs++([⟨if e.v<e.u then e.v else e.u,if e.u<e.v then e.v else e.u,e.w,e.lb,e.sg,e.tm⟩]:List Lk)++List.drop i3 xs)::blk b2 [I64 (if e.v<e.u then e.v else e.u),I64 (if e.u<e.v then e.v else e.u),I64 (e.w),I64 (e.lb),I64 (e.sg),I64 (e.tm)] 146::blk b1 [I64 (e.kd),I64 (e.tm),I64 (if e.v<e.u then e.v else e.u),I64 (if e.u<e.v then e.v else e.u),I64 (e.w),I64 (e.lb),I64 (e.sg)] 108::vc 146 (.slice a0 xs.length c0) (xs)::I) 5 (Dr 0 rfl (Ad rfl) (Dr 1 rfl (Bo (vs:=[_,_,_,_,_,_,_]) ty108) ?_))))))
      refine Dr 3 rfl (A6 rfl) (Ds1 2 (Se1 rfl (B8 (α:=Ev) (cs:=[I64 (e.kd),I64 (e.tm),I64 (if e.v<e.u then e.v else e.u),I64 (if e.u<e.v then e.v else e.u),I64 (e.w),I64 (e.lb),I64 (e.sg)]) (xs:=[⟨e.kd,e.tm,if e.v<e.u then e.v else e.u,if e.u<e.v then e.v else e.u,e.w,e.lb,e.sg⟩]) A5 ty108 rfl rfl dc dc rfl kr rfl rfl) fun ad24=>?_))
      refine Dr 4 rfl (A6 rfl) (Dz (Ai (Ar (S2 5 4 rfl rfl) (Az ?_))))
      have hE:List.take i3 xs++([⟨if e.v<e.u then e.v else e.u,if e.u<e.v then e.v else e.u,e.w,e.lb,e.sg,e.tm⟩]:List Lk)++List.drop i3 xs=(setL (lkOf e) xs):=(setL_new hi3 ha g35).symm
      exact Ct rfl rfl rfl ([]++vc 146 (.slice ad21 (setL (lkOf e) xs).length cp22) (setL (lkOf e) xs)::I) (by rw [←hE];exact Ay) ⟨⟨ad21,cp22,.slice ad24 1 1⟩,by rw [←hE],rfl⟩
    ·refine Se0 rfl (Dn ty3) ?_
     refine Ds1 2 (Sr rfl (Ac fld146_1 rfl) Ay ?_)
     refine Ds1 3 (Sr rfl (Av ty3) Ay ?_)
     refine Ds1 6 (Sr rfl (Ac fld108_3 rfl) Ay ?_)
     refine Ds1 7 (Se0 rfl (Dn ty3) ?_)
     refine Dz (Ai (Ap (Bd mixed (Bl (vc 146 (.slice ad21 (List.take i3 xs++([⟨if e.v<e.u then e.v else e.u,if e.u<e.v then e.v else e.u,e.w,e.lb,e.sg,e.tm⟩]:List Lk)++List.drop i3 xs).length cp22) (List.take i3 xs++([⟨if e.v<e.u then e.v else e.u,if e.u<e.v then e.v else e.u,e.w,e.lb,e.sg,e.tm⟩]:List Lk)++List.drop i3 xs)::blk b2 [I64 (if e.v<e.u then e.v else e.u),I64 (if e.u<e.v then e.v else e.u),I64 (e.w),I64 (e.lb),I64 (e.sg),I64 (e.tm)] 146::blk b1 [I64 (e.kd),I64 (e.tm),I64 (if e.v<e.u then e.v else e.u),I64 (if e.u<e.v then e.v else e.u),I64 (e.w),I64 (e.lb),I64 (e.sg)] 108::vc 146 (.slice a0 xs.length c0) (xs)::I) 5 (Dr 0 rfl (Ad rfl) (Dr 1 rfl (Bo (vs:=[_,_,_,_,_,_,_]) ty108) ?_))))))
     refine Dr 3 rfl (A6 rfl) (Ds1 2 (Se1 rfl (B8 (α:=Ev) (cs:=[I64 (e.kd),I64 (e.tm),I64 (if e.v<e.u then e.v else e.u),I64 (if e.u<e.v then e.v else e.u),I64 (e.w),I64 (e.lb),I64 (e.sg)]) (xs:=[⟨e.kd,e.tm,if e.v<e.u then e.v else e.u,if e.u<e.v then e.v else e.u,e.w,e.lb,e.sg⟩]) A5 ty108 rfl rfl dc dc rfl kr rfl rfl) fun ad25=>?_))
     refine Dr 4 rfl (A6 rfl) (Dz (Ai (Ar (S2 5 4 rfl rfl) (Az ?_))))
     have hE:List.take i3 xs++([⟨if e.v<e.u then e.v else e.u,if e.u<e.v then e.v else e.u,e.w,e.lb,e.sg,e.tm⟩]:List Lk)++List.drop i3 xs=(setL (lkOf e) xs):=(setL_new hi3 ha g35).symm
     exact Ct rfl rfl rfl ([]++vc 146 (.slice ad21 (setL (lkOf e) xs).length cp22) (setL (lkOf e) xs)::I) (by rw [←hE];exact Ay) ⟨⟨ad21,cp22,.slice ad25 1 1⟩,by rw [←hE],rfl⟩
  ·rw [g35] at c45;exact absurd c45 dc
end Go.Sl
