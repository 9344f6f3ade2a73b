/- A part of the proofs of statements of this seat: contracts of functions, and the plain laws that they lean on. No conditions. -/
import Derived.Test.YtfkcohmipjhfcaaGreatDoorH5
set_option linter.unusedVariables false
set_option linter.unusedSimpArgs false
set_option linter.unusedSectionVars false
namespace Go.Sl
open Go.Proofs
set_option maxRecDepth 4000
variable {κ:Ctx}{I:List Item}
structure Lk where
 u:Int
 v:Int
 w:Int
 lb:Int
 sg:Int
 tm:Int
deriving DecidableEq,Inhabited
instance:Enc Lk:=⟨fun x=>[I64 x.u,I64 x.v,I64 x.w,I64 x.lb,I64 x.sg,I64 x.tm],6,by omega,fun _=>rfl,fun x u h=>by
 simp only [List.mem_cons,List.not_mem_nil,or_false] at h
 rcases h with rfl|rfl|rfl|rfl|rfl|rfl<;>rfl⟩
theorem eqt146:EqT Tryz.prog 146 Lk:=EqT.flat (fun p:Lk=>[p.u,p.v,p.w,p.lb,p.sg,p.tm]) (fun _=>rfl) (fun x y h=>by cases x;cases y;simpa using h) (n:=6) (fun _=>rfl) kr kr kr kr kr
structure Ev where
 kd:Int
 tm:Int
 u:Int
 v:Int
 w:Int
 lb:Int
 sg:Int
deriving DecidableEq,Inhabited
instance:Enc Ev:=⟨fun x=>[I64 x.kd,I64 x.tm,I64 x.u,I64 x.v,I64 x.w,I64 x.lb,I64 x.sg],7,by omega,fun _=>rfl,fun x u h=>by
 simp only [List.mem_cons,List.not_mem_nil,or_false] at h
 rcases h with rfl|rfl|rfl|rfl|rfl|rfl|rfl<;>rfl⟩
def Lk.p(l:Lk):Pt:=⟨l.u,l.v⟩
def Lk.cmp(a c:Lk):Int:=Pt.cmp a.p c.p
def Lk.lt(a c:Lk):Prop:=Pt.lt a.p c.p
instance:DecidableRel Lk.lt:=fun a c=>by unfold Lk.lt;infer_instance
def rightW(w lb sg:Int):Prop:=1≤w∧w≤1000∧0≤lb∧lb≤15∧(sg=1∨sg = -1)
instance (w lb sg:Int):Decidable (rightW w lb sg):=by unfold rightW;infer_instance
def badL(n:Int)(l:Lk):Int:=if l.u<0∨l.v≤l.u∨n≤l.v then 6 else if ¬rightW l.w l.lb l.sg then 1 else if l.tm<0∨1048576<l.tm then 9 else 0
def checkS(n:Int)(xs:List Lk):Int:=if n<0∨64<n then 1 else scanL (badL n) Lk.lt none xs
theorem badL_zero{n:Int}{l:Lk}(h1:¬(l.u<0∨l.v≤l.u∨n≤l.v))(h2:rightW l.w l.lb l.sg)(h3:¬(l.tm<0∨1048576<l.tm)):badL n l=0:=by
 unfold badL;rw [if_neg h1,if_neg (fun h=>h h2),if_neg h3]
theorem badL_six{n:Int}{l:Lk}(h1:l.u<0∨l.v≤l.u∨n≤l.v):badL n l=6:=by unfold badL;rw [if_pos h1]
theorem badL_one{n:Int}{l:Lk}(h1:¬(l.u<0∨l.v≤l.u∨n≤l.v))(h2:¬rightW l.w l.lb l.sg):badL n l=1:=by unfold badL;rw [if_neg h1,if_pos h2]
theorem badL_nine{n:Int}{l:Lk}(h1:¬(l.u<0∨l.v≤l.u∨n≤l.v))(h2:rightW l.w l.lb l.sg)(h3:l.tm<0∨1048576<l.tm):badL n l=9:=by unfold badL;rw [if_neg h1,if_neg (fun h=>h h2),if_pos h3]
def checkW(kd wd mo:Int):Int:=if kd<1∨3<kd then 8 else if (kd=2∧(wd<1∨1048576<wd))∨(kd≠2∧wd≠0)∨(kd=3∧(mo<0∨2016<mo))∨(kd≠3∧mo≠0) then 1 else 0
theorem CheckW_ok(kd wd mo:Int) :
    CallS Tryz.prog κ 78 [.agg #[I64 (kd),I64 (wd),I64 (mo)]] I (fun r J=>r=I64 (checkW kd wd mo)∧I=J):=by
 refine Ce1 Tryz.func78 rfl rfl ?_
 refine Ai (Ge1 (Bd (cs:=[_,_,_]) rfl rfl rfl) fun b1=>Ga rfl (Af (Ai (Ga rfl (Ga rfl (Af (Au (Ai (Gf fld31_0 rfl (Gl ty3 ?_))))))))))
 refine Af (A4 (Ai (Gr (Bi rfl rfl) (Ga rfl (Af (A7 rfl (fun c7=>?_) (fun c7=>?_)))))))
 ·refine Aw (Ak (Aj (Au (Ai (Gf fld31_1 rfl (Gl ty3 ?_))))))
  refine Gm rfl (Gr (Be rfl rfl) (Gm rfl (Bb (d:=37) rfl (fun g37=>?_) (fun g37=>?_))))
  ·exact Gpo (Gpo (Gpo (Gpo (Gr (Ao rfl rfl) (Af (Ar (S1 42 rfl) (Ca rfl (Ai (Ga rfl (Af (Ax (Ah (Ay rfl rfl (I) A0 ⟨by rw [show checkW kd wd mo=1 from by unfold checkW;split<;>first|rfl|omega|(split<;>first|rfl|omega)],rfl⟩)))))))))))))
  ·refine Gro (Ab fld31_2 rfl) (Gro (As ty3) ?_)
   refine Gro (Ad rfl) (Gro (Be rfl rfl) (Gr (Al rfl rfl) (Af (Ar (S1 42 rfl) (A7 rfl (fun c42=>?_) (fun c42=>?_))))))
   ·exact Ai (Ga rfl (Af (Ax (Ah (Ay rfl rfl (I) A0 ⟨by rw [show checkW kd wd mo=1 from by unfold checkW;split<;>first|rfl|omega|(split<;>first|rfl|omega)],rfl⟩)))))
   ·exact Aw (Aj (Ai (Ga rfl (Af (Ax (Ay rfl rfl (I) A0 ⟨by rw [show checkW kd wd mo=0 from by unfold checkW;split<;>first|rfl|omega|(split<;>first|rfl|omega)],rfl⟩))))))
 ·refine Ai (Gr (Bi rfl rfl) (Ga rfl (Af (A7 rfl (fun c9=>?_) (fun c9=>?_)))))
  ·refine Au (Ai (Gf fld31_1 rfl (Gl ty3 ?_)))
   refine Gr (A9 rfl rfl) (Gm rfl (Bb (d:=14) rfl (fun g14=>?_) (fun g14=>?_)))
   ·exact Gpo (Gpo (Gpo (Gr (Ao rfl rfl) (Af (Ar (S3 18 4 1 rfl rfl rfl) (Ca rfl (Ai (Ga rfl (Af (Ax (Ah (Av (Ah (Ay rfl rfl (I) A0 ⟨by rw [show checkW kd wd mo=1 from by unfold checkW;split<;>first|rfl|omega|(split<;>first|rfl|omega)],rfl⟩))))))))))))))
   ·refine Gro (Ab fld31_1 rfl) (Gro (As ty3) ?_)
    refine Gro (Bz rfl rfl) (Gr (Al rfl rfl) (Af (Ar (S3 18 4 1 rfl rfl rfl) (A7 rfl (fun c18=>?_) (fun c18=>?_)))))
    ·exact Ai (Ga rfl (Af (Ax (Ah (Av (Ah (Ay rfl rfl (I) A0 ⟨by rw [show checkW kd wd mo=1 from by unfold checkW;split<;>first|rfl|omega|(split<;>first|rfl|omega)],rfl⟩)))))))
    ·refine Aw (Aj (Az (Gf fld31_1 rfl (Gl ty3 ?_))))
     refine Ga rfl (Bc (Ak (Aj (Au (Ai (Gf fld31_1 rfl (Gl ty3 ?_)))))))
     refine Gm rfl (Gr (Be rfl rfl) (Gm rfl (Bb (d:=37) rfl (fun g37=>?_) (fun g37=>?_))))
     ·exact Gpo (Gpo (Gpo (Gpo (Gr (Ao rfl rfl) (Af (Ar (S1 42 rfl) (Ca rfl (Ai (Ga rfl (Af (Ax (Ah (Ay rfl rfl (I) A0 ⟨by rw [show checkW kd wd mo=1 from by unfold checkW;split<;>first|rfl|omega|(split<;>first|rfl|omega)],rfl⟩)))))))))))))
     ·refine Gro (Ab fld31_2 rfl) (Gro (As ty3) ?_)
      refine Gro (Ad rfl) (Gro (Be rfl rfl) (Gr (Al rfl rfl) (Af (Ar (S1 42 rfl) (A7 rfl (fun c42=>?_) (fun c42=>?_))))))
      ·exact Ai (Ga rfl (Af (Ax (Ah (Ay rfl rfl (I) A0 ⟨by rw [show checkW kd wd mo=1 from by unfold checkW;split<;>first|rfl|omega|(split<;>first|rfl|omega)],rfl⟩)))))
      ·exact Aw (Aj (Ai (Ga rfl (Af (Ax (Ay rfl rfl (I) A0 ⟨by rw [show checkW kd wd mo=0 from by unfold checkW;split<;>first|rfl|omega|(split<;>first|rfl|omega)],rfl⟩))))))
  ·refine Ai (Gr (Bi rfl rfl) (Ga rfl (Af (A7 rfl (fun c21=>?_) (fun c21=>?_)))))
   ·refine Au (Ai (Gf fld31_2 rfl (Gl ty3 ?_)))
    refine Gr (A9 rfl rfl) (Gm rfl (Bb (d:=26) rfl (fun g26=>?_) (fun g26=>?_)))
    ·exact Gpo (Gpo (Gpo (Gr (Ao rfl rfl) (Af (Ar (S3 30 3 1 rfl rfl rfl) (Ca rfl (Ai (Ga rfl (Af (Ax (Ah (Av (Ah (Ay rfl rfl (I) A0 ⟨by rw [show checkW kd wd mo=1 from by unfold checkW;split<;>first|rfl|omega|(split<;>first|rfl|omega)],rfl⟩))))))))))))))
    ·refine Gro (Ab fld31_2 rfl) (Gro (As ty3) ?_)
     refine Gro (Bz rfl rfl) (Gr (Al rfl rfl) (Af (Ar (S3 30 3 1 rfl rfl rfl) (A7 rfl (fun c30=>?_) (fun c30=>?_)))))
     ·exact Ai (Ga rfl (Af (Ax (Ah (Av (Ah (Ay rfl rfl (I) A0 ⟨by rw [show checkW kd wd mo=1 from by unfold checkW;split<;>first|rfl|omega|(split<;>first|rfl|omega)],rfl⟩)))))))
     ·refine Aw (Aj (Az (Gf fld31_2 rfl (Gl ty3 ?_))))
      refine Ga rfl (Bc (Ak (Aj (Au (Ai (Gf fld31_1 rfl (Gl ty3 ?_)))))))
      refine Gm rfl (Gr (Be rfl rfl) (Gm rfl (Bb (d:=37) rfl (fun g37=>?_) (fun g37=>?_))))
      ·exact Gpo (Gpo (Gpo (Gpo (Gr (Ao rfl rfl) (Af (Ar (S1 42 rfl) (Ca rfl (Ai (Ga rfl (Af (Ax (Ah (Ay rfl rfl (I) A0 ⟨by rw [show checkW kd wd mo=1 from by unfold checkW;split<;>first|rfl|omega|(split<;>first|rfl|omega)],rfl⟩)))))))))))))
      ·refine Gro (Ab fld31_2 rfl) (Gro (As ty3) ?_)
       refine Gro (Ad rfl) (Gro (Be rfl rfl) (Gr (Al rfl rfl) (Af (Ar (S1 42 rfl) (A7 rfl (fun c42=>?_) (fun c42=>?_))))))
       ·exact Ai (Ga rfl (Af (Ax (Ah (Ay rfl rfl (I) A0 ⟨by rw [show checkW kd wd mo=1 from by unfold checkW;split<;>first|rfl|omega|(split<;>first|rfl|omega)],rfl⟩)))))
       ·exact Aw (Aj (Ai (Ga rfl (Af (Ax (Ay rfl rfl (I) A0 ⟨by rw [show checkW kd wd mo=0 from by unfold checkW;split<;>first|rfl|omega|(split<;>first|rfl|omega)],rfl⟩))))))
   ·exact Ai (Ga rfl (Af (Ar (S1 2 rfl) (Ax (Av (Ah (Ay rfl rfl (I) A0 ⟨by rw [show checkW kd wd mo=8 from by unfold checkW;split<;>first|rfl|omega|(split<;>first|rfl|omega)],rfl⟩)))))))
theorem CheckW7_ok(kd wd mo:Int) :
    CallS Tryz.prog κ 85 [.agg #[I64 (kd),I64 (wd),I64 (mo)]] I (fun r J=>r=I64 (checkW kd wd mo)∧I=J):=by
 refine Ce1 Tryz.func85 rfl rfl ?_
 refine Ai (Ge1 (Bd (cs:=[_,_,_]) rfl rfl rfl) fun b1=>Ga rfl (Af (Au (Ai (Gf fld31_0 rfl (Gl ty3 ?_))))))
 refine Gr (A9 rfl rfl) (Gm rfl (Bb (d:=6) rfl (fun g6=>?_) (fun g6=>?_)))
 ·exact Gpo (Gpo (Gpo (Gr (Ao rfl rfl) (Af (Ca rfl (Ai (Ga rfl (Af (Ax (Ah (Ay rfl rfl (I) A0 ⟨by rw [show checkW kd wd mo=8 from by unfold checkW;split<;>first|rfl|omega|(split<;>first|rfl|omega)],rfl⟩)))))))))))
 ·refine Gro (Ab fld31_0 rfl) (Gro (As ty3) ?_)
  refine Gro (Bz rfl rfl) (Gr (Al rfl rfl) (Af (A7 rfl (fun c10=>?_) (fun c10=>?_))))
  ·exact Ai (Ga rfl (Af (Ax (Ah (Ay rfl rfl (I) A0 ⟨by rw [show checkW kd wd mo=8 from by unfold checkW;split<;>first|rfl|omega|(split<;>first|rfl|omega)],rfl⟩)))))
  ·refine Aw (Aj (Au (Ai (Gf fld31_0 rfl (Gl ty3 ?_)))))
   refine Gr (Bi rfl rfl) (Gm rfl (Bb (d:=14) rfl (fun g14=>?_) (fun g14=>?_)))
   ·refine Gro (Ab fld31_1 rfl) (Gro (As ty3) ?_)
    refine Gro (A9 rfl rfl) (Gro (Ad rfl) (Bb (d:=18) rfl (fun g18=>?_) (fun g18=>?_)))
    ·exact Gpo (Gpo (Gpo (Gro (Ao rfl rfl) (Gr (Ao rfl rfl) (Gm rfl (Gpo (Gpo (Gpo (Gpo (Gpu (Gpu (Gpu (Gpo (Gr (Ao rfl rfl) (Af (Ar (S2 33 1 rfl rfl) (Ca rfl (Ai (Ga rfl (Af (Ax (Ah (Ay rfl rfl (I) A0 ⟨by rw [show checkW kd wd mo=1 from by unfold checkW;split<;>first|rfl|omega|(split<;>first|rfl|omega)],rfl⟩)))))))))))))))))))))))
    ·refine Gro (Ab fld31_1 rfl) (Gro (As ty3) ?_)
     refine Gro (Bz rfl rfl) (Gro (Al rfl rfl) (Gr (Ao rfl rfl) (Gm rfl (Bb (d:=24) rfl (fun g24=>?_) (fun g24=>?_)))))
     ·exact Gpo (Gpo (Gpo (Gpo (Gpu (Gpu (Gpu (Gpo (Gr (Ao rfl rfl) (Af (Ar (S2 33 1 rfl rfl) (Ca rfl (Ai (Ga rfl (Af (Ax (Ah (Ay rfl rfl (I) A0 ⟨by rw [show checkW kd wd mo=1 from by unfold checkW;split<;>first|rfl|omega|(split<;>first|rfl|omega)],rfl⟩)))))))))))))))))
     ·refine Gro (Ab fld31_0 rfl) (Gro (As ty3) ?_)
      refine Gro (Be rfl rfl) (Gro (Ad rfl) (Bb (d:=28) rfl (fun g28=>?_) (fun g28=>?_)))
      ·refine Gro (Ab fld31_1 rfl) (Gro (As ty3) ?_)
       refine Gro (Be rfl rfl) (Gro (Ao rfl rfl) (Gr (Al rfl rfl) (Af (Ar (S2 33 1 rfl rfl) (A7 rfl (fun c33=>?_) (fun c33=>?_))))))
       ·exact Ai (Ga rfl (Af (Ax (Ah (Ay rfl rfl (I) A0 ⟨by rw [show checkW kd wd mo=1 from by unfold checkW;split<;>first|rfl|omega|(split<;>first|rfl|omega)],rfl⟩)))))
       ·refine Aw (Aj (Au (Ai (Gf fld31_0 rfl (Gl ty3 ?_)))))
        refine Gr (Bi rfl rfl) (Gm rfl (Bb (d:=37) rfl (fun g37=>?_) (fun g37=>?_)))
        ·refine Gro (Ab fld31_2 rfl) (Gro (As ty3) ?_)
         refine Gro (A9 rfl rfl) (Gro (Ad rfl) (Bb (d:=41) rfl (fun g41=>?_) (fun g41=>?_)))
         ·exact Gpo (Gpo (Gpo (Gro (Ao rfl rfl) (Gr (Ao rfl rfl) (Gm rfl (Gpo (Gpo (Gpo (Gpo (Gpu (Gpu (Gpu (Gpo (Gr (Ao rfl rfl) (Af (Ar (S1 56 rfl) (Ca rfl (Ai (Ga rfl (Af (Ax (Ah (Ay rfl rfl (I) A0 ⟨by rw [show checkW kd wd mo=1 from by unfold checkW;split<;>first|rfl|omega|(split<;>first|rfl|omega)],rfl⟩)))))))))))))))))))))))
         ·refine Gro (Ab fld31_2 rfl) (Gro (As ty3) ?_)
          refine Gro (Bz rfl rfl) (Gro (Al rfl rfl) (Gr (Ao rfl rfl) (Gm rfl (Bb (d:=47) rfl (fun g47=>?_) (fun g47=>?_)))))
          ·exact Gpo (Gpo (Gpo (Gpo (Gpu (Gpu (Gpu (Gpo (Gr (Ao rfl rfl) (Af (Ar (S1 56 rfl) (Ca rfl (Ai (Ga rfl (Af (Ax (Ah (Ay rfl rfl (I) A0 ⟨by rw [show checkW kd wd mo=1 from by unfold checkW;split<;>first|rfl|omega|(split<;>first|rfl|omega)],rfl⟩)))))))))))))))))
          ·refine Gro (Ab fld31_0 rfl) (Gro (As ty3) ?_)
           refine Gro (Be rfl rfl) (Gro (Ad rfl) (Bb (d:=51) rfl (fun g51=>?_) (fun g51=>?_)))
           ·refine Gro (Ab fld31_2 rfl) (Gro (As ty3) ?_)
            refine Gro (Be rfl rfl) (Gro (Ao rfl rfl) (Gr (Al rfl rfl) (Af (Ar (S1 56 rfl) (A7 rfl (fun c56=>?_) (fun c56=>?_))))))
            ·exact Ai (Ga rfl (Af (Ax (Ah (Ay rfl rfl (I) A0 ⟨by rw [show checkW kd wd mo=1 from by unfold checkW;split<;>first|rfl|omega|(split<;>first|rfl|omega)],rfl⟩)))))
            ·exact Aw (Aj (Ai (Ga rfl (Af (Ax (Ay rfl rfl (I) A0 ⟨by rw [show checkW kd wd mo=0 from by unfold checkW;split<;>first|rfl|omega|(split<;>first|rfl|omega)],rfl⟩))))))
           ·exact Gpo (Gpo (Gpo (Gro (Al rfl rfl) (Gr (Al rfl rfl) (Af (Ar (S1 56 rfl) (C9 rfl (Aw (Aj (Ai (Ga rfl (Af (Ax (Ay rfl rfl (I) A0 ⟨by rw [show checkW kd wd mo=0 from by unfold checkW;split<;>first|rfl|omega|(split<;>first|rfl|omega)],rfl⟩))))))))))))))
        ·refine Gpo (Gpo (Gpo (Gpo (Gpu (Gpu (Gpu (Gpo (Gr (Al rfl rfl) (Gm rfl (Gro (Ab fld31_0 rfl) (Gro (As ty3) ?_)))))))))))
         refine Gro (Be rfl rfl) (Gro (Ad rfl) (Bb (d:=51) rfl (fun g51=>?_) (fun g51=>?_)))
         ·refine Gro (Ab fld31_2 rfl) (Gro (As ty3) ?_)
          refine Gro (Be rfl rfl) (Gro (Ao rfl rfl) (Gr (Al rfl rfl) (Af (Ar (S1 56 rfl) (A7 rfl (fun c56=>?_) (fun c56=>?_))))))
          ·exact Ai (Ga rfl (Af (Ax (Ah (Ay rfl rfl (I) A0 ⟨by rw [show checkW kd wd mo=1 from by unfold checkW;split<;>first|rfl|omega|(split<;>first|rfl|omega)],rfl⟩)))))
          ·exact Aw (Aj (Ai (Ga rfl (Af (Ax (Ay rfl rfl (I) A0 ⟨by rw [show checkW kd wd mo=0 from by unfold checkW;split<;>first|rfl|omega|(split<;>first|rfl|omega)],rfl⟩))))))
         ·exact Gpo (Gpo (Gpo (Gro (Al rfl rfl) (Gr (Al rfl rfl) (Af (Ar (S1 56 rfl) (C9 rfl (Aw (Aj (Ai (Ga rfl (Af (Ax (Ay rfl rfl (I) A0 ⟨by rw [show checkW kd wd mo=0 from by unfold checkW;split<;>first|rfl|omega|(split<;>first|rfl|omega)],rfl⟩))))))))))))))
      ·refine Gpo (Gpo (Gpo (Gro (Al rfl rfl) (Gr (Al rfl rfl) (Af (Ar (S2 33 1 rfl rfl) (C9 rfl (Aw (Aj (Au (Ai (Gf fld31_0 rfl (Gl ty3 ?_)))))))))))))
       refine Gr (Bi rfl rfl) (Gm rfl (Bb (d:=37) rfl (fun g37=>?_) (fun g37=>?_)))
       ·refine Gro (Ab fld31_2 rfl) (Gro (As ty3) ?_)
        refine Gro (A9 rfl rfl) (Gro (Ad rfl) (Bb (d:=41) rfl (fun g41=>?_) (fun g41=>?_)))
        ·exact Gpo (Gpo (Gpo (Gro (Ao rfl rfl) (Gr (Ao rfl rfl) (Gm rfl (Gpo (Gpo (Gpo (Gpo (Gpu (Gpu (Gpu (Gpo (Gr (Ao rfl rfl) (Af (Ar (S1 56 rfl) (Ca rfl (Ai (Ga rfl (Af (Ax (Ah (Ay rfl rfl (I) A0 ⟨by rw [show checkW kd wd mo=1 from by unfold checkW;split<;>first|rfl|omega|(split<;>first|rfl|omega)],rfl⟩)))))))))))))))))))))))
        ·refine Gro (Ab fld31_2 rfl) (Gro (As ty3) ?_)
         refine Gro (Bz rfl rfl) (Gro (Al rfl rfl) (Gr (Ao rfl rfl) (Gm rfl (Bb (d:=47) rfl (fun g47=>?_) (fun g47=>?_)))))
         ·exact Gpo (Gpo (Gpo (Gpo (Gpu (Gpu (Gpu (Gpo (Gr (Ao rfl rfl) (Af (Ar (S1 56 rfl) (Ca rfl (Ai (Ga rfl (Af (Ax (Ah (Ay rfl rfl (I) A0 ⟨by rw [show checkW kd wd mo=1 from by unfold checkW;split<;>first|rfl|omega|(split<;>first|rfl|omega)],rfl⟩)))))))))))))))))
         ·refine Gro (Ab fld31_0 rfl) (Gro (As ty3) ?_)
          refine Gro (Be rfl rfl) (Gro (Ad rfl) (Bb (d:=51) rfl (fun g51=>?_) (fun g51=>?_)))
          ·refine Gro (Ab fld31_2 rfl) (Gro (As ty3) ?_)
           refine Gro (Be rfl rfl) (Gro (Ao rfl rfl) (Gr (Al rfl rfl) (Af (Ar (S1 56 rfl) (A7 rfl (fun c56=>?_) (fun c56=>?_))))))
           ·exact Ai (Ga rfl (Af (Ax (Ah (Ay rfl rfl (I) A0 ⟨by rw [show checkW kd wd mo=1 from by unfold checkW;split<;>first|rfl|omega|(split<;>first|rfl|omega)],rfl⟩)))))
           ·exact Aw (Aj (Ai (Ga rfl (Af (Ax (Ay rfl rfl (I) A0 ⟨by rw [show checkW kd wd mo=0 from by unfold checkW;split<;>first|rfl|omega|(split<;>first|rfl|omega)],rfl⟩))))))
          ·exact Gpo (Gpo (Gpo (Gro (Al rfl rfl) (Gr (Al rfl rfl) (Af (Ar (S1 56 rfl) (C9 rfl (Aw (Aj (Ai (Ga rfl (Af (Ax (Ay rfl rfl (I) A0 ⟨by rw [show checkW kd wd mo=0 from by unfold checkW;split<;>first|rfl|omega|(split<;>first|rfl|omega)],rfl⟩))))))))))))))
       ·refine Gpo (Gpo (Gpo (Gpo (Gpu (Gpu (Gpu (Gpo (Gr (Al rfl rfl) (Gm rfl (Gro (Ab fld31_0 rfl) (Gro (As ty3) ?_)))))))))))
        refine Gro (Be rfl rfl) (Gro (Ad rfl) (Bb (d:=51) rfl (fun g51=>?_) (fun g51=>?_)))
        ·refine Gro (Ab fld31_2 rfl) (Gro (As ty3) ?_)
         refine Gro (Be rfl rfl) (Gro (Ao rfl rfl) (Gr (Al rfl rfl) (Af (Ar (S1 56 rfl) (A7 rfl (fun c56=>?_) (fun c56=>?_))))))
         ·exact Ai (Ga rfl (Af (Ax (Ah (Ay rfl rfl (I) A0 ⟨by rw [show checkW kd wd mo=1 from by unfold checkW;split<;>first|rfl|omega|(split<;>first|rfl|omega)],rfl⟩)))))
         ·exact Aw (Aj (Ai (Ga rfl (Af (Ax (Ay rfl rfl (I) A0 ⟨by rw [show checkW kd wd mo=0 from by unfold checkW;split<;>first|rfl|omega|(split<;>first|rfl|omega)],rfl⟩))))))
        ·exact Gpo (Gpo (Gpo (Gro (Al rfl rfl) (Gr (Al rfl rfl) (Af (Ar (S1 56 rfl) (C9 rfl (Aw (Aj (Ai (Ga rfl (Af (Ax (Ay rfl rfl (I) A0 ⟨by rw [show checkW kd wd mo=0 from by unfold checkW;split<;>first|rfl|omega|(split<;>first|rfl|omega)],rfl⟩))))))))))))))
   ·refine Gpo (Gpo (Gpo (Gpo (Gpu (Gpu (Gpu (Gpo (Gr (Al rfl rfl) (Gm rfl (Gro (Ab fld31_0 rfl) (Gro (As ty3) ?_)))))))))))
    refine Gro (Be rfl rfl) (Gro (Ad rfl) (Bb (d:=28) rfl (fun g28=>?_) (fun g28=>?_)))
    ·refine Gro (Ab fld31_1 rfl) (Gro (As ty3) ?_)
     refine Gro (Be rfl rfl) (Gro (Ao rfl rfl) (Gr (Al rfl rfl) (Af (Ar (S2 33 1 rfl rfl) (A7 rfl (fun c33=>?_) (fun c33=>?_))))))
     ·exact Ai (Ga rfl (Af (Ax (Ah (Ay rfl rfl (I) A0 ⟨by rw [show checkW kd wd mo=1 from by unfold checkW;split<;>first|rfl|omega|(split<;>first|rfl|omega)],rfl⟩)))))
     ·refine Aw (Aj (Au (Ai (Gf fld31_0 rfl (Gl ty3 ?_)))))
      refine Gr (Bi rfl rfl) (Gm rfl (Bb (d:=37) rfl (fun g37=>?_) (fun g37=>?_)))
      ·refine Gro (Ab fld31_2 rfl) (Gro (As ty3) ?_)
       refine Gro (A9 rfl rfl) (Gro (Ad rfl) (Bb (d:=41) rfl (fun g41=>?_) (fun g41=>?_)))
       ·exact Gpo (Gpo (Gpo (Gro (Ao rfl rfl) (Gr (Ao rfl rfl) (Gm rfl (Gpo (Gpo (Gpo (Gpo (Gpu (Gpu (Gpu (Gpo (Gr (Ao rfl rfl) (Af (Ar (S1 56 rfl) (Ca rfl (Ai (Ga rfl (Af (Ax (Ah (Ay rfl rfl (I) A0 ⟨by rw [show checkW kd wd mo=1 from by unfold checkW;split<;>first|rfl|omega|(split<;>first|rfl|omega)],rfl⟩)))))))))))))))))))))))
       ·refine Gro (Ab fld31_2 rfl) (Gro (As ty3) ?_)
        refine Gro (Bz rfl rfl) (Gro (Al rfl rfl) (Gr (Ao rfl rfl) (Gm rfl (Bb (d:=47) rfl (fun g47=>?_) (fun g47=>?_)))))
        ·exact Gpo (Gpo (Gpo (Gpo (Gpu (Gpu (Gpu (Gpo (Gr (Ao rfl rfl) (Af (Ar (S1 56 rfl) (Ca rfl (Ai (Ga rfl (Af (Ax (Ah (Ay rfl rfl (I) A0 ⟨by rw [show checkW kd wd mo=1 from by unfold checkW;split<;>first|rfl|omega|(split<;>first|rfl|omega)],rfl⟩)))))))))))))))))
        ·refine Gro (Ab fld31_0 rfl) (Gro (As ty3) ?_)
         refine Gro (Be rfl rfl) (Gro (Ad rfl) (Bb (d:=51) rfl (fun g51=>?_) (fun g51=>?_)))
         ·refine Gro (Ab fld31_2 rfl) (Gro (As ty3) ?_)
          refine Gro (Be rfl rfl) (Gro (Ao rfl rfl) (Gr (Al rfl rfl) (Af (Ar (S1 56 rfl) (A7 rfl (fun c56=>?_) (fun c56=>?_))))))
          ·exact Ai (Ga rfl (Af (Ax (Ah (Ay rfl rfl (I) A0 ⟨by rw [show checkW kd wd mo=1 from by unfold checkW;split<;>first|rfl|omega|(split<;>first|rfl|omega)],rfl⟩)))))
          ·exact Aw (Aj (Ai (Ga rfl (Af (Ax (Ay rfl rfl (I) A0 ⟨by rw [show checkW kd wd mo=0 from by unfold checkW;split<;>first|rfl|omega|(split<;>first|rfl|omega)],rfl⟩))))))
         ·exact Gpo (Gpo (Gpo (Gro (Al rfl rfl) (Gr (Al rfl rfl) (Af (Ar (S1 56 rfl) (C9 rfl (Aw (Aj (Ai (Ga rfl (Af (Ax (Ay rfl rfl (I) A0 ⟨by rw [show checkW kd wd mo=0 from by unfold checkW;split<;>first|rfl|omega|(split<;>first|rfl|omega)],rfl⟩))))))))))))))
      ·refine Gpo (Gpo (Gpo (Gpo (Gpu (Gpu (Gpu (Gpo (Gr (Al rfl rfl) (Gm rfl (Gro (Ab fld31_0 rfl) (Gro (As ty3) ?_)))))))))))
       refine Gro (Be rfl rfl) (Gro (Ad rfl) (Bb (d:=51) rfl (fun g51=>?_) (fun g51=>?_)))
       ·refine Gro (Ab fld31_2 rfl) (Gro (As ty3) ?_)
        refine Gro (Be rfl rfl) (Gro (Ao rfl rfl) (Gr (Al rfl rfl) (Af (Ar (S1 56 rfl) (A7 rfl (fun c56=>?_) (fun c56=>?_))))))
        ·exact Ai (Ga rfl (Af (Ax (Ah (Ay rfl rfl (I) A0 ⟨by rw [show checkW kd wd mo=1 from by unfold checkW;split<;>first|rfl|omega|(split<;>first|rfl|omega)],rfl⟩)))))
        ·exact Aw (Aj (Ai (Ga rfl (Af (Ax (Ay rfl rfl (I) A0 ⟨by rw [show checkW kd wd mo=0 from by unfold checkW;split<;>first|rfl|omega|(split<;>first|rfl|omega)],rfl⟩))))))
       ·exact Gpo (Gpo (Gpo (Gro (Al rfl rfl) (Gr (Al rfl rfl) (Af (Ar (S1 56 rfl) (C9 rfl (Aw (Aj (Ai (Ga rfl (Af (Ax (Ay rfl rfl (I) A0 ⟨by rw [show checkW kd wd mo=0 from by unfold checkW;split<;>first|rfl|omega|(split<;>first|rfl|omega)],rfl⟩))))))))))))))
    ·refine Gpo (Gpo (Gpo (Gro (Al rfl rfl) (Gr (Al rfl rfl) (Af (Ar (S2 33 1 rfl rfl) (C9 rfl (Aw (Aj (Au (Ai (Gf fld31_0 rfl (Gl ty3 ?_)))))))))))))
     refine Gr (Bi rfl rfl) (Gm rfl (Bb (d:=37) rfl (fun g37=>?_) (fun g37=>?_)))
     ·refine Gro (Ab fld31_2 rfl) (Gro (As ty3) ?_)
      refine Gro (A9 rfl rfl) (Gro (Ad rfl) (Bb (d:=41) rfl (fun g41=>?_) (fun g41=>?_)))
      ·exact Gpo (Gpo (Gpo (Gro (Ao rfl rfl) (Gr (Ao rfl rfl) (Gm rfl (Gpo (Gpo (Gpo (Gpo (Gpu (Gpu (Gpu (Gpo (Gr (Ao rfl rfl) (Af (Ar (S1 56 rfl) (Ca rfl (Ai (Ga rfl (Af (Ax (Ah (Ay rfl rfl (I) A0 ⟨by rw [show checkW kd wd mo=1 from by unfold checkW;split<;>first|rfl|omega|(split<;>first|rfl|omega)],rfl⟩)))))))))))))))))))))))
      ·refine Gro (Ab fld31_2 rfl) (Gro (As ty3) ?_)
       refine Gro (Bz rfl rfl) (Gro (Al rfl rfl) (Gr (Ao rfl rfl) (Gm rfl (Bb (d:=47) rfl (fun g47=>?_) (fun g47=>?_)))))
       ·exact Gpo (Gpo (Gpo (Gpo (Gpu (Gpu (Gpu (Gpo (Gr (Ao rfl rfl) (Af (Ar (S1 56 rfl) (Ca rfl (Ai (Ga rfl (Af (Ax (Ah (Ay rfl rfl (I) A0 ⟨by rw [show checkW kd wd mo=1 from by unfold checkW;split<;>first|rfl|omega|(split<;>first|rfl|omega)],rfl⟩)))))))))))))))))
       ·refine Gro (Ab fld31_0 rfl) (Gro (As ty3) ?_)
        refine Gro (Be rfl rfl) (Gro (Ad rfl) (Bb (d:=51) rfl (fun g51=>?_) (fun g51=>?_)))
        ·refine Gro (Ab fld31_2 rfl) (Gro (As ty3) ?_)
         refine Gro (Be rfl rfl) (Gro (Ao rfl rfl) (Gr (Al rfl rfl) (Af (Ar (S1 56 rfl) (A7 rfl (fun c56=>?_) (fun c56=>?_))))))
         ·exact Ai (Ga rfl (Af (Ax (Ah (Ay rfl rfl (I) A0 ⟨by rw [show checkW kd wd mo=1 from by unfold checkW;split<;>first|rfl|omega|(split<;>first|rfl|omega)],rfl⟩)))))
         ·exact Aw (Aj (Ai (Ga rfl (Af (Ax (Ay rfl rfl (I) A0 ⟨by rw [show checkW kd wd mo=0 from by unfold checkW;split<;>first|rfl|omega|(split<;>first|rfl|omega)],rfl⟩))))))
        ·exact Gpo (Gpo (Gpo (Gro (Al rfl rfl) (Gr (Al rfl rfl) (Af (Ar (S1 56 rfl) (C9 rfl (Aw (Aj (Ai (Ga rfl (Af (Ax (Ay rfl rfl (I) A0 ⟨by rw [show checkW kd wd mo=0 from by unfold checkW;split<;>first|rfl|omega|(split<;>first|rfl|omega)],rfl⟩))))))))))))))
     ·refine Gpo (Gpo (Gpo (Gpo (Gpu (Gpu (Gpu (Gpo (Gr (Al rfl rfl) (Gm rfl (Gro (Ab fld31_0 rfl) (Gro (As ty3) ?_)))))))))))
      refine Gro (Be rfl rfl) (Gro (Ad rfl) (Bb (d:=51) rfl (fun g51=>?_) (fun g51=>?_)))
      ·refine Gro (Ab fld31_2 rfl) (Gro (As ty3) ?_)
       refine Gro (Be rfl rfl) (Gro (Ao rfl rfl) (Gr (Al rfl rfl) (Af (Ar (S1 56 rfl) (A7 rfl (fun c56=>?_) (fun c56=>?_))))))
       ·exact Ai (Ga rfl (Af (Ax (Ah (Ay rfl rfl (I) A0 ⟨by rw [show checkW kd wd mo=1 from by unfold checkW;split<;>first|rfl|omega|(split<;>first|rfl|omega)],rfl⟩)))))
       ·exact Aw (Aj (Ai (Ga rfl (Af (Ax (Ay rfl rfl (I) A0 ⟨by rw [show checkW kd wd mo=0 from by unfold checkW;split<;>first|rfl|omega|(split<;>first|rfl|omega)],rfl⟩))))))
      ·exact Gpo (Gpo (Gpo (Gro (Al rfl rfl) (Gr (Al rfl rfl) (Af (Ar (S1 56 rfl) (C9 rfl (Aw (Aj (Ai (Ga rfl (Af (Ax (Ay rfl rfl (I) A0 ⟨by rw [show checkW kd wd mo=0 from by unfold checkW;split<;>first|rfl|omega|(split<;>first|rfl|omega)],rfl⟩))))))))))))))
theorem RightW_ok(w lb sg:Int) :
    CallS Tryz.prog κ 251 [I64 (w),I64 (lb),I64 (sg)] I (fun r J=>r = .bool (decide (rightW w lb sg))∧I=J):=by
 refine Ce3 Tryz.func251 rfl rfl ?_
 refine Ai (Ga rfl (Af (Ai (Gm rfl (Gr (B6 rfl rfl) (Gm rfl (Bb (d:=9) rfl (fun g9=>?_) (fun g9=>?_))))))))
 ·refine Gro (Ad rfl) (Gro (Dt rfl rfl) (Gr (Ao rfl rfl) (Gm rfl (Bb (d:=13) rfl (fun g13=>?_) (fun g13=>?_)))))
  ·refine Gro (Ad rfl) (Gro (B6 rfl rfl) (Gr (Ao rfl rfl) (Gm rfl (Bb (d:=17) rfl (fun g17=>?_) (fun g17=>?_)))))
   ·refine Gro (Ad rfl) (Gro (Dt rfl rfl) (Gr (Ao rfl rfl) (Gm rfl (Bb (d:=21) rfl (fun g21=>?_) (fun g21=>?_)))))
    ·refine Gro (Ad rfl) (Gro (Bi rfl rfl) (Gro (Ad rfl) (Bb (d:=24) rfl (fun g24=>?_) (fun g24=>?_))))
     ·exact Gpo (Gpo (Gro (Ao rfl rfl) (Gr (Ao rfl rfl) (Ga rfl (Af (Ar (S1 6 rfl) (Ax (Ay rfl rfl (I) A0 ⟨(by first|exact congrArg Value.bool (decide_eq_decide.2 (by unfold rightW;omega))|exact congrArg Value.bool (decide_eq_true (by unfold rightW;omega)).symm|exact congrArg Value.bool (decide_eq_false (by unfold rightW;omega)).symm),rfl⟩))))))))
     ·exact Gro (Ad rfl) (Gro (Bi rfl rfl) (Gro (Al rfl rfl) (Gr (Ao rfl rfl) (Ga rfl (Af (Ar (S1 6 rfl) (Ax (Ay rfl rfl (I) A0 ⟨(by first|exact congrArg Value.bool (decide_eq_decide.2 (by unfold rightW;omega))|exact congrArg Value.bool (decide_eq_true (by unfold rightW;omega)).symm|exact congrArg Value.bool (decide_eq_false (by unfold rightW;omega)).symm),rfl⟩))))))))
    ·exact Gpo (Gpo (Gpo (Gpu (Gpu (Gpo (Gr (Al rfl rfl) (Ga rfl (Af (Ar (S1 6 rfl) (Ax (Ay rfl rfl (I) A0 ⟨(by first|exact congrArg Value.bool (decide_eq_decide.2 (by unfold rightW;omega))|exact congrArg Value.bool (decide_eq_true (by unfold rightW;omega)).symm|exact congrArg Value.bool (decide_eq_false (by unfold rightW;omega)).symm),rfl⟩)))))))))))
   ·exact Gpo (Gpo (Gr (Al rfl rfl) (Gm rfl (Gpo (Gpo (Gpo (Gpu (Gpu (Gpo (Gr (Al rfl rfl) (Ga rfl (Af (Ar (S1 6 rfl) (Ax (Ay rfl rfl (I) A0 ⟨(by first|exact congrArg Value.bool (decide_eq_decide.2 (by unfold rightW;omega))|exact congrArg Value.bool (decide_eq_true (by unfold rightW;omega)).symm|exact congrArg Value.bool (decide_eq_false (by unfold rightW;omega)).symm),rfl⟩)))))))))))))))
  ·exact Gpo (Gpo (Gr (Al rfl rfl) (Gm rfl (Gpo (Gpo (Gr (Al rfl rfl) (Gm rfl (Gpo (Gpo (Gpo (Gpu (Gpu (Gpo (Gr (Al rfl rfl) (Ga rfl (Af (Ar (S1 6 rfl) (Ax (Ay rfl rfl (I) A0 ⟨(by first|exact congrArg Value.bool (decide_eq_decide.2 (by unfold rightW;omega))|exact congrArg Value.bool (decide_eq_true (by unfold rightW;omega)).symm|exact congrArg Value.bool (decide_eq_false (by unfold rightW;omega)).symm),rfl⟩)))))))))))))))))))
 ·exact Gpo (Gpo (Gr (Al rfl rfl) (Gm rfl (Gpo (Gpo (Gr (Al rfl rfl) (Gm rfl (Gpo (Gpo (Gr (Al rfl rfl) (Gm rfl (Gpo (Gpo (Gpo (Gpu (Gpu (Gpo (Gr (Al rfl rfl) (Ga rfl (Af (Ar (S1 6 rfl) (Ax (Ay rfl rfl (I) A0 ⟨(by first|exact congrArg Value.bool (decide_eq_decide.2 (by unfold rightW;omega))|exact congrArg Value.bool (decide_eq_true (by unfold rightW;omega)).symm|exact congrArg Value.bool (decide_eq_false (by unfold rightW;omega)).symm),rfl⟩)))))))))))))))))))))))
theorem From4_ok(n a c:Int) :
    CallS Tryz.prog κ 226 [I64 (n),I64 (a),I64 (c)] I (fun r J=>r = .bool (decide (a≤n∧n≤c))∧I=J):=by
 refine Ce3 Tryz.func226 rfl rfl ?_
 refine Ai (Ga rfl (Af (Ai (Gm rfl (Gm rfl (Gr (B6 rfl rfl) (Gm rfl (Bb (d:=10) rfl (fun g10=>?_) (fun g10=>?_)))))))))
 ·exact Gro (Ad rfl) (Gro (Ad rfl) (Gro (Dt rfl rfl) (Gr (Ao rfl rfl) (Ga rfl (Af (Ar (S1 6 rfl) (Ax (Ay rfl rfl (I) A0 ⟨(by first|exact congrArg Value.bool (decide_eq_decide.2 (by skip;omega))|exact congrArg Value.bool (decide_eq_true (by skip;omega)).symm|exact congrArg Value.bool (decide_eq_false (by skip;omega)).symm),rfl⟩))))))))
 ·exact Gpo (Gpo (Gpo (Gr (Al rfl rfl) (Ga rfl (Af (Ar (S1 6 rfl) (Ax (Ay rfl rfl (I) A0 ⟨(by first|exact congrArg Value.bool (decide_eq_decide.2 (by skip;omega))|exact congrArg Value.bool (decide_eq_true (by skip;omega)).symm|exact congrArg Value.bool (decide_eq_false (by skip;omega)).symm),rfl⟩))))))))
theorem Attr4_ok(w lb sg:Int) :
    CallS Tryz.prog κ 205 [I64 (w),I64 (lb),I64 (sg)] I (fun r J=>r=I64 (if rightW w lb sg then 0 else 1)∧I=J):=by
 refine Ce3 Tryz.func205 rfl rfl ?_
 refine Ai (Ga rfl (Af (Au (Ai (Gm rfl (Gc0 (Ap call226 rfl rfl (From4_ok w 1 1000)) ?_))))))
 refine Gr (Cw rfl) (Gm rfl (Bb (d:=10) rfl (fun g10=>?_) (fun g10=>?_)))
 ·exact Gpo (Gpo (Gpo (Gr (Ao rfl rfl) (Gm rfl (Gpo (Gpo (Gpo (Gpu (Gpu (Gpo (Gr (Ao rfl rfl) (Af (Ar (S1 22 rfl) (Ca rfl (Ai (Ga rfl (Af (Ax (Ah (Ay rfl rfl (I) A0 ⟨by rw [if_neg (by unfold rightW;omega)],rfl⟩))))))))))))))))))))
 ·refine Gro (Ad rfl) (Eo (Cv rfl rfl rfl) (Ap call226 rfl rfl (From4_ok lb 0 15)) ?_)
  rintro _ _ ⟨_,_,⟨rfl,rfl⟩,rfl,rfl⟩
  refine Gro (Cw rfl) (Gr (Al rfl rfl) (Gm rfl (Bb (d:=15) rfl (fun g15=>?_) (fun g15=>?_))))
  ·exact Gpo (Gpo (Gpo (Gpu (Gpu (Gpo (Gr (Ao rfl rfl) (Af (Ar (S1 22 rfl) (Ca rfl (Ai (Ga rfl (Af (Ax (Ah (Ay rfl rfl (I) A0 ⟨by rw [if_neg (by unfold rightW;omega)],rfl⟩)))))))))))))))
  ·refine Gro (Ad rfl) (Gro (Be rfl rfl) (Gro (Ad rfl) (Bb (d:=18) rfl (fun g18=>?_) (fun g18=>?_))))
   ·refine Gro (Ad rfl) (Gro (Be rfl rfl) (Gro (Ao rfl rfl) (Gr (Al rfl rfl) (Af (Ar (S1 22 rfl) (A7 rfl (fun c22=>?_) (fun c22=>?_)))))))
    ·exact Ai (Ga rfl (Af (Ax (Ah (Ay rfl rfl (I) A0 ⟨by rw [if_neg (by unfold rightW;omega)],rfl⟩)))))
    ·exact Aw (Aj (Ai (Ga rfl (Af (Ax (Ay rfl rfl (I) A0 ⟨by rw [if_pos (by unfold rightW;omega)],rfl⟩))))))
   ·exact Gpo (Gpo (Gro (Al rfl rfl) (Gr (Al rfl rfl) (Af (Ar (S1 22 rfl) (C9 rfl (Aw (Aj (Ai (Ga rfl (Af (Ax (Ay rfl rfl (I) A0 ⟨by rw [if_pos (by unfold rightW;omega)],rfl⟩)))))))))))))
theorem OrderL_ok(a c:Lk) :
    CallS Tryz.prog κ 255 [.agg #[I64 (a.u),I64 (a.v),I64 (a.w),I64 (a.lb),I64 (a.sg),I64 (a.tm)],.agg #[I64 (c.u),I64 (c.v),I64 (c.w),I64 (c.lb),I64 (c.sg),I64 (c.tm)]] I (fun r J=>r=I64 (Lk.cmp a c)∧I=J):=by
 refine Ce2 Tryz.func255 rfl rfl ?_
 refine Ai (Ge1 (Bd (cs:=[_,_,_,_,_,_]) rfl rfl rfl) fun b1=>Ge1 (Bd (cs:=[_,_,_,_,_,_]) rfl rfl rfl) fun b2=>Ga rfl (Af (Au (Bk mixed (Bo (blk b2 [I64 (c.u),I64 (c.v),I64 (c.w),I64 (c.lb),I64 (c.sg),I64 (c.tm)] 146::blk b1 [I64 (a.u),I64 (a.v),I64 (a.w),I64 (a.lb),I64 (a.sg),I64 (a.tm)] 146::I) 12 (Dr 0 rfl (Ab fld146_0 rfl) (Dr 1 rfl (As ty3) ?_)))))))
 refine Dr 2 rfl (Ab fld146_0 rfl) (Dr 3 rfl (As ty3) ?_)
 refine Dr 5 rfl (Ab fld146_1 rfl) (Dr 6 rfl (As ty3) ?_)
 refine Dr 7 rfl (Ab fld146_1 rfl) (Dr 8 rfl (As ty3) ?_)
 refine Ds1 4 (Sc0 rfl (Ap call225 rfl rfl (Compare_ok a.u c.u)) ?_)
 refine Ds1 9 (Sc0 rfl (Ap call225 rfl rfl (Compare_ok a.v c.v)) ?_)
 refine Ds1 10 (Se1 rfl (B1 (α:=Int) (cs:=[_,_]) (xs:=[cmpI a.u c.u,cmpI a.v c.v]) Ac ty3 rfl rfl dc dc rfl rfl rfl rfl) fun ad3=>?_)
 refine Ds1 11 (Sc0 rfl (Ap call224 rfl rfl (Or_ok Bf)) ?_)
 refine Dc kr ?_
 refine A.read (i:=12) kr rfl (Ch rfl) rfl rfl (Ba rfl) ?_
 refine De kr ?_
 exact Aj (Ar (S1 4 rfl) (Ax (Ay rfl rfl (I) A0 ⟨by rw [show Lk.cmp a c=Pt.cmp ⟨a.u,a.v⟩ ⟨c.u,c.v⟩ from rfl,←orL_cmp],rfl⟩)))
theorem Edge5_ok(l:Lk) :
    CallS Tryz.prog κ 130 [.agg #[I64 (l.u),I64 (l.v),I64 (l.w),I64 (l.lb),I64 (l.sg),I64 (l.tm)]] I (fun r J=>r = .agg #[I64 l.p.u,I64 l.p.v]∧I=J):=by
 refine Ce1 Tryz.func130 rfl rfl ?_
 refine Ai (Ge1 (Bd (cs:=[_,_,_,_,_,_]) rfl rfl rfl) fun b1=>Ge1 (A8 ty135 rfl) fun b2=>Af (Ai (Gf fld146_0 rfl (Gl ty3 ?_))))
 refine Gf fld146_1 rfl (Gl ty3 ?_)
 refine Gr (Bl (cells:=[_,_]) ty135 Tryz.underlying135 pl135 rfl rfl) (Ge0 (Ce ty135) ?_)
 exact Af (Ax (D1 rfl ty135 rfl mm rfl (I) A0 ⟨rfl,rfl⟩))
end Go.Sl
namespace Go.Sl
end Go.Sl
namespace Go.Sl
open Go.Proofs
set_option maxRecDepth 4000
theorem at_drop{α:Type}[Inhabited α](xs:List α)(l:Nat)(i:Int)(h0:0≤i):at_ (xs.drop l) i=at_ xs ((l:Int)+i):=by
 unfold at_
 rw [List.getD_eq_getElem?_getD,List.getD_eq_getElem?_getD,List.getElem?_drop]
 congr 2;omega
variable {κ:Ctx}{I:List Item}
theorem ext_atw{α:Type}[Inhabited α]{xs ys:List α}(hl:xs.length=ys.length)(h:∀j,j<xs.length→at_ xs (j:Int)=at_ ys (j:Int)):xs=ys:=by
 refine List.ext_getElem hl fun j h1 h2=>?_
 have:=h j h1
 rwa [Ds xs j h1,Ds ys j h2] at this
theorem Lk.cmp_lt(a c:Lk):Lk.cmp a c<0↔Lk.lt a c:=Pt.cmp_lt _ _
def askE(nd:Int)(xs:List Lk)(kd wd mo nw:Int):Int:=if checkW kd wd mo≠0 then checkW kd wd mo else if checkS nd xs≠0 then checkS nd xs else if nw<0∨1048576<nw∨xs.any (fun x=>decide (nw<x.tm))=true then 9 else 0
theorem CheckS_ok{nd:Int}{va:Value}{xs:List Lk}(hl:Sl κ I va xs) :
    CallS Tryz.prog κ 214 [.agg #[I64 (nd),va]] I (fun r J=>r=I64 (checkS nd xs)∧I=J):=by
 refine B4 hl.le fun hmax=>?_
 refine Ce1 Tryz.func214 rfl rfl ?_
 refine Ai (Ge1 (Bd (cs:=[_,_]) rfl rfl rfl) fun b1=>Ga rfl (Af (Au (Ai (Gf fld111_0 rfl (Gl ty3 ?_))))))
 refine Gr (A9 rfl rfl) (Gm rfl (Bb (d:=8) rfl (fun g8=>?_) (fun g8=>?_)))
 ·exact Gpo (Gpo (Gpo (Gr (Ao rfl rfl) (Af (Ca rfl (Ai (Ga rfl (Af (Ax (Ah (Ay rfl rfl (I) A0 ⟨by rw [show checkS nd xs=1 from (by first|(unfold checkS;rw [if_pos om];done)|exact hs.trans ((Cs om (by rw [badL_one om asm];decide)).trans (badL_one om asm)))],rfl⟩)))))))))))
 ·refine Gro (Ab fld111_0 rfl) (Gro (As ty3) ?_)
  refine Gro (Bz rfl rfl) (Gr (Al rfl rfl) (Af (A7 rfl (fun c12=>?_) (fun c12=>?_))))
  ·exact Ai (Ga rfl (Af (Ax (Ah (Ay rfl rfl (I) A0 ⟨by rw [show checkS nd xs=1 from (by first|(unfold checkS;rw [if_pos om];done)|exact hs.trans ((Cs om (by rw [badL_one om asm];decide)).trans (badL_one om asm)))],rfl⟩)))))
  ·refine Aw (Aj (Au (Ai (Gf fld111_1 rfl (Gl ty109 ?_)))))
   refine Gr (Bx (α:=Lk) (xs:=xs) Aq rfl (Bj hl)) (Gm rfl (Af (Ar (S4 16 15 14 1 rfl rfl rfl rfl) (A4 (Bv (σ:=Nat) (fun s=>([(1,.pointer (some ⟨b1,0,none⟩)),(14,va),(15,I64 (((xs.length:Nat):Int))),(16,I64 (((s:Nat):Int)))]:Env)) (fun s=>blk b1 [I64 (nd),va] 111::I) (fun s=>(s≤xs.length)∧(checkS nd xs=scanL (badL nd) Lk.lt (prevAt xs s) (xs.drop s))) (fun s=>xs.length - s) (0) (show ((0:Nat)≤xs.length)∧(checkS nd xs=scanL (badL nd) Lk.lt (prevAt xs (0:Nat)) (xs.drop (0:Nat))) from ⟨om,(by unfold checkS;rw [if_neg om];rfl)⟩) (Aa rfl (Aa rfl (Aa rfl (Aa B8 Bg)))) (show Fit κ _ (blk b1 [I64 (nd),va] 111::I) from A5) ?_)))))
   rintro k hp
   obtain ⟨hk,hs⟩:=hp
   refine Ai (Gr (A9 rfl rfl) (Af (Au (A7 rfl (fun c17=>?_) (fun c17=>?_)))))
   ·refine Aw (Aj (Au (A4 (Ai (Gm rfl (Gr (A3 (α:=Lk) (xs:=xs) Aq ty146 rfl rfl (Bj hl) om om) (Gr (Bu (α:=Lk) (xs:=xs) ty146 rfl (Bj hl) om om) (Ge1 (A8 ty146 rfl) fun b2=>Ga rfl (Ge0 (D3 ty146) ?_)))))))))
    refine Af (A4 (Ai (Gf fld146_0 rfl (Gl ty3 ?_))))
    refine Gr (A9 rfl rfl) (Gm rfl (Bb (d:=25) rfl (fun g25=>?_) (fun g25=>?_)))
    ·exact Gpo (Gpo (Gpo (Gpo (Gpo (Gr (Ao rfl rfl) (Gm rfl (Gpo (Gpo (Gpo (Gpo (Gpo (Gr (Ao rfl rfl) (Ga rfl (Af (Ar (S7 21 3 4 1 14 15 16 rfl rfl rfl rfl rfl rfl rfl) (Ca rfl (Ai (Ga rfl (Af (Ax (Av (Av (Ah (Ah (Av (Ah (Ay rfl rfl (I) A0 ⟨by rw [show checkS nd xs=6 from (hs.trans ((Cs om (by rw [badL_six om];decide)).trans (badL_six om)))],rfl⟩)))))))))))))))))))))))))))
    ·refine Gro (Ab fld146_0 rfl) (Gro (As ty3) ?_)
     refine Gro (Ab fld146_1 rfl) (Gro (As ty3) ?_)
     refine Gro (B6 rfl rfl) (Gr (Al rfl rfl) (Gm rfl (Bb (d:=32) rfl (fun g32=>?_) (fun g32=>?_))))
     ·exact Gpo (Gpo (Gpo (Gpo (Gpo (Gr (Ao rfl rfl) (Ga rfl (Af (Ar (S7 21 3 4 1 14 15 16 rfl rfl rfl rfl rfl rfl rfl) (Ca rfl (Ai (Ga rfl (Af (Ax (Av (Av (Ah (Ah (Av (Ah (Ay rfl rfl (I) A0 ⟨by rw [show checkS nd xs=6 from (hs.trans ((Cs om (by rw [badL_six om];decide)).trans (badL_six om)))],rfl⟩))))))))))))))))))))
     ·refine Gro (Ab fld146_1 rfl) (Gro (As ty3) ?_)
      refine Gro (Ab fld111_0 rfl) (Gro (As ty3) ?_)
      refine Gro (B6 rfl rfl) (Gr (Al rfl rfl) (Ga rfl (Af (Ar (S7 21 3 4 1 14 15 16 rfl rfl rfl rfl rfl rfl rfl) (A7 rfl (fun c21=>?_) (fun c21=>?_))))))
      ·exact Ai (Ga rfl (Af (Ax (Av (Av (Ah (Ah (Av (Ah (Ay rfl rfl (I) A0 ⟨by rw [show checkS nd xs=6 from (hs.trans ((Cs om (by rw [badL_six om];decide)).trans (badL_six om)))],rfl⟩))))))))))
      ·refine Ai (Gf fld146_2 rfl (Gl ty3 ?_))
       refine Gf fld146_3 rfl (Gl ty3 ?_)
       refine Gf fld146_4 rfl (Gl ty3 ?_)
       refine Gc0 (Ap call251 rfl rfl (RightW_ok ((at_ xs (k:Int)).w) ((at_ xs (k:Int)).lb) ((at_ xs (k:Int)).sg))) ?_
       refine Gr (Cw rfl) (Ga rfl (Af (Ar (S7 39 3 4 1 14 15 16 rfl rfl rfl rfl rfl rfl rfl) (A7 rfl (fun c39=>?_) (fun c39=>?_)))))
       ·exact Ai (Ga rfl (Af (Ax (Av (Av (Ah (Ah (Av (Ah (Ay rfl rfl (I) A0 ⟨by rw [show checkS nd xs=1 from (by first|(unfold checkS;rw [if_pos om];done)|exact hs.trans ((Cs om (by rw [badL_one om asm];decide)).trans (badL_one om asm)))],rfl⟩))))))))))
       ·refine Ai (Gf fld146_5 rfl (Gl ty3 ?_))
        refine Gr (A9 rfl rfl) (Gm rfl (Bb (d:=52) rfl (fun g52=>?_) (fun g52=>?_)))
        ·exact Gpo (Gpo (Gpo (Gr (Ao rfl rfl) (Ga rfl (Af (Ar (S7 48 3 4 1 14 15 16 rfl rfl rfl rfl rfl rfl rfl) (Ca rfl (Ai (Ga rfl (Af (Ax (Av (Av (Ah (Ah (Av (Ah (Ay rfl rfl (I) A0 ⟨by rw [show checkS nd xs=9 from (hs.trans ((Cs om (by rw [badL_nine om (by first|assumption|exact Classical.not_not.1 asm|exact Classical.byContradiction fun h=>c47 (by rw [if_neg h];decide)) om];decide)).trans (badL_nine om (by first|assumption|exact Classical.not_not.1 asm|exact Classical.byContradiction fun h=>c47 (by rw [if_neg h];decide)) om)))],rfl⟩))))))))))))))))))
        ·refine Gro (Ab fld146_5 rfl) (Gro (As ty3) ?_)
         refine Gro (Bz rfl rfl) (Gr (Al rfl rfl) (Ga rfl (Af (Ar (S7 48 3 4 1 14 15 16 rfl rfl rfl rfl rfl rfl rfl) (A7 rfl (fun c48=>?_) (fun c48=>?_))))))
         ·exact Ai (Ga rfl (Af (Ax (Av (Av (Ah (Ah (Av (Ah (Ay rfl rfl (I) A0 ⟨by rw [show checkS nd xs=9 from (hs.trans ((Cs om (by rw [badL_nine om (by first|assumption|exact Classical.not_not.1 asm|exact Classical.byContradiction fun h=>c47 (by rw [if_neg h];decide)) om];decide)).trans (badL_nine om (by first|assumption|exact Classical.not_not.1 asm|exact Classical.byContradiction fun h=>c47 (by rw [if_neg h];decide)) om)))],rfl⟩))))))))))
         ·refine Au (Bk mixed (Bo (blk b2 [I64 ((at_ xs (k:Int)).u),I64 ((at_ xs (k:Int)).v),I64 ((at_ xs (k:Int)).w),I64 ((at_ xs (k:Int)).lb),I64 ((at_ xs (k:Int)).sg),I64 ((at_ xs (k:Int)).tm)] 146::blk b1 [I64 (nd),va] 111::I) 14 (Dr 0 rfl (Ad rfl) (Dr 1 rfl (Bz rfl rfl) (Dr 2 rfl (Ad rfl) (C7 (d:=60) rfl (fun g60=>?_) (fun g60=>?_)))))))
          ·refine Dro 3 rfl (Ab fld111_1 rfl) (Dro 4 rfl (As ty109) ?_)
           refine Dro 5 rfl (Ad rfl) (Dro 6 rfl (Rsu rfl rfl) (Dro 7 rfl (A3 (α:=Lk) (xs:=xs) Aq ty146 rfl rfl (Bj hl) om om) (Dro 8 rfl (Bu (α:=Lk) (xs:=xs) ty146 rfl (Bj hl) om om) (Dro 9 rfl (Bq (vs:=[_,_,_,_,_,_]) ty146) ?_))))
           refine Ds1 10 (Sc0 rfl (Ap call255 rfl rfl (OrderL_ok (at_ xs ((k:Int) - 1)) (at_ xs (k:Int)))) ?_)
           refine Dro 11 rfl (B6 rfl rfl) (Dr 12 rfl (Ao rfl rfl) (Dr 13 rfl (Ba rfl) (Dz (Aj (Ar (S5 57 1 14 15 16 rfl rfl rfl rfl rfl) (A7 rfl (fun c57=>?_) (fun c57=>?_)))))))
           ·exact Ai (Ga rfl (Af (Ax (Av (Av (Ah (Ah (Av (Ah (Ay rfl rfl (I) A0 ⟨by rw [show checkS nd xs=5 from (hs.trans (scanL_order om (badL_zero om (by first|assumption|exact Classical.not_not.1 asm|exact Classical.byContradiction fun h=>c47 (by rw [if_neg h];decide)) om) om (by first|assumption|(intro h;have:=(Lk.cmp_lt _ _).2 h;omega))))],rfl⟩))))))))))
           ·exact Aw (Ak (Ak (Aj (Az (Gr (Rad rfl rfl) (Gm rfl (Bc (B3 ((k+1)) ⟨om,(hs.trans (D9 om (badL_zero om (by first|assumption|exact Classical.not_not.1 asm|exact Classical.byContradiction fun h=>c47 (by rw [if_neg h];decide)) om) (fun h0=>by first|omega|exact (Lk.cmp_lt _ _).1 om|exact Classical.not_not.1 asm)))⟩))))))))
          ·exact Dpo 3 rfl (Dpo 4 rfl (Dpo 5 rfl (Dpo 6 rfl (Dpo 7 rfl (Dpo 8 rfl (Dpo 9 rfl (Dpo 10 rfl (Dpo 11 rfl (Dr 12 rfl (Al rfl rfl) (Dr 13 rfl (Ba rfl) (Dz (Aj (Ar (S5 57 1 14 15 16 rfl rfl rfl rfl rfl) (C9 rfl (Aw (Ak (Ak (Aj (Az (Gr (Rad rfl rfl) (Gm rfl (Bc (B3 ((k+1)) ⟨om,(hs.trans (D9 om (badL_zero om (by first|assumption|exact Classical.not_not.1 asm|exact Classical.byContradiction fun h=>c47 (by rw [if_neg h];decide)) om) (fun h0=>by first|omega|exact (Lk.cmp_lt _ _).1 om|exact Classical.not_not.1 asm)))⟩)))))))))))))))))))))))
   ·exact Bs (Am (Am (A6 (Aj (Ai (Ga rfl (Af (Ax (Ay rfl rfl (I) A0 ⟨by rw [show checkS nd xs=0 from (hs.trans (scanL_end om))],rfl⟩)))))))))
theorem CheckS5_ok{nd:Int}{va:Value}{xs:List Lk}(hl:Sl κ I va xs) :
    CallS Tryz.prog κ 129 [.agg #[I64 (nd),va]] I (fun r J=>r=I64 (checkS nd xs)∧I=J):=by
 refine B4 hl.le fun hmax=>?_
 refine Ce1 Tryz.func129 rfl rfl ?_
 refine Ai (Ge1 (Bd (cs:=[_,_]) rfl rfl rfl) fun b1=>Ga rfl (Af (Au (Ai (Gf fld111_0 rfl (Gl ty3 ?_))))))
 refine Gr (A9 rfl rfl) (Gm rfl (Bb (d:=9) rfl (fun g9=>?_) (fun g9=>?_)))
 ·exact Gpo (Gpo (Gpo (Gr (Ao rfl rfl) (Af (Ca rfl (Ai (Ga rfl (Af (Ax (Ah (Ay rfl rfl (I) A0 ⟨by rw [show checkS nd xs=1 from (by first|(unfold checkS;rw [if_pos om];done)|exact hs.trans ((Cs om (by rw [badL_one om asm];decide)).trans (badL_one om asm)))],rfl⟩)))))))))))
 ·refine Gro (Ab fld111_0 rfl) (Gro (As ty3) ?_)
  refine Gro (Bz rfl rfl) (Gr (Al rfl rfl) (Af (A7 rfl (fun c13=>?_) (fun c13=>?_))))
  ·exact Ai (Ga rfl (Af (Ax (Ah (Ay rfl rfl (I) A0 ⟨by rw [show checkS nd xs=1 from (by first|(unfold checkS;rw [if_pos om];done)|exact hs.trans ((Cs om (by rw [badL_one om asm];decide)).trans (badL_one om asm)))],rfl⟩)))))
  ·refine Aw (Aj (Au (Ai (Gf fld111_1 rfl (Gl ty109 ?_)))))
   refine Gr (Bx (α:=Lk) (xs:=xs) Aq rfl (Bj hl)) (Gm rfl (Af (Ar (S4 17 16 15 1 rfl rfl rfl rfl) (A4 (Bv (σ:=Nat) (fun s=>([(1,.pointer (some ⟨b1,0,none⟩)),(15,va),(16,I64 (((xs.length:Nat):Int))),(17,I64 (((s:Nat):Int)))]:Env)) (fun s=>blk b1 [I64 (nd),va] 111::I) (fun s=>(s≤xs.length)∧(checkS nd xs=scanL (badL nd) Lk.lt (prevAt xs s) (xs.drop s))) (fun s=>xs.length - s) (0) (show ((0:Nat)≤xs.length)∧(checkS nd xs=scanL (badL nd) Lk.lt (prevAt xs (0:Nat)) (xs.drop (0:Nat))) from ⟨om,(by unfold checkS;rw [if_neg om];rfl)⟩) (Aa rfl (Aa rfl (Aa rfl (Aa B8 Bg)))) (show Fit κ _ (blk b1 [I64 (nd),va] 111::I) from A5) ?_)))))
   rintro k hp
   obtain ⟨hk,hs⟩:=hp
   refine Ai (Gr (A9 rfl rfl) (Af (Au (A7 rfl (fun c18=>?_) (fun c18=>?_)))))
   ·refine Aw (Aj (Au (A4 (Ai (Gm rfl (Gr (A3 (α:=Lk) (xs:=xs) Aq ty146 rfl rfl (Bj hl) om om) (Gr (Bu (α:=Lk) (xs:=xs) ty146 rfl (Bj hl) om om) (Ge1 (A8 ty146 rfl) fun b2=>Ga rfl (Ge0 (D3 ty146) ?_)))))))))
    refine Af (Au (Ai (Gf fld146_0 rfl (Gl ty3 ?_))))
    refine Gr (A9 rfl rfl) (Gm rfl (Bb (d:=25) rfl (fun g25=>?_) (fun g25=>?_)))
    ·exact Gpo (Gpo (Gpo (Gpo (Gpo (Gr (Ao rfl rfl) (Gm rfl (Gpo (Gpo (Gpo (Gpo (Gpo (Gr (Ao rfl rfl) (Af (Ar (S7 38 3 4 1 15 16 17 rfl rfl rfl rfl rfl rfl rfl) (Ca rfl (Ai (Ga rfl (Af (Ax (Ah (Av (Ah (Ah (Av (Ah (Ay rfl rfl (I) A0 ⟨by rw [show checkS nd xs=6 from (hs.trans ((Cs om (by rw [badL_six om];decide)).trans (badL_six om)))],rfl⟩))))))))))))))))))))))))))
    ·refine Gro (Ab fld146_0 rfl) (Gro (As ty3) ?_)
     refine Gro (Ab fld146_1 rfl) (Gro (As ty3) ?_)
     refine Gro (B6 rfl rfl) (Gr (Al rfl rfl) (Gm rfl (Bb (d:=32) rfl (fun g32=>?_) (fun g32=>?_))))
     ·exact Gpo (Gpo (Gpo (Gpo (Gpo (Gr (Ao rfl rfl) (Af (Ar (S7 38 3 4 1 15 16 17 rfl rfl rfl rfl rfl rfl rfl) (Ca rfl (Ai (Ga rfl (Af (Ax (Ah (Av (Ah (Ah (Av (Ah (Ay rfl rfl (I) A0 ⟨by rw [show checkS nd xs=6 from (hs.trans ((Cs om (by rw [badL_six om];decide)).trans (badL_six om)))],rfl⟩)))))))))))))))))))
     ·refine Gro (Ab fld146_1 rfl) (Gro (As ty3) ?_)
      refine Gro (Ab fld111_0 rfl) (Gro (As ty3) ?_)
      refine Gro (B6 rfl rfl) (Gr (Al rfl rfl) (Af (Ar (S7 38 3 4 1 15 16 17 rfl rfl rfl rfl rfl rfl rfl) (A7 rfl (fun c38=>?_) (fun c38=>?_)))))
      ·exact Ai (Ga rfl (Af (Ax (Ah (Av (Ah (Ah (Av (Ah (Ay rfl rfl (I) A0 ⟨by rw [show checkS nd xs=6 from (hs.trans ((Cs om (by rw [badL_six om];decide)).trans (badL_six om)))],rfl⟩))))))))))
      ·refine Aw (Aj (Au (Ai (Gf fld146_2 rfl (Gl ty3 ?_)))))
       refine Gf fld146_3 rfl (Gl ty3 ?_)
       refine Gf fld146_4 rfl (Gl ty3 ?_)
       refine Gc0 (Ap call205 rfl rfl (Attr4_ok ((at_ xs (k:Int)).w) ((at_ xs (k:Int)).lb) ((at_ xs (k:Int)).sg))) ?_
       refine Ga rfl (Af (Ar (S7 5 3 4 1 15 16 17 rfl rfl rfl rfl rfl rfl rfl) (Ai (Gm rfl (Gr (Be rfl rfl) (Af (A7 rfl (fun c47=>?_) (fun c47=>?_))))))))
       ·refine Ai (Gm rfl (Ga rfl (Af (Ax (Ah (Av (Ah (Ah (Av (Ah ?_))))))))))
        have hnr:¬rightW (at_ xs (k:Int)).w (at_ xs (k:Int)).lb (at_ xs (k:Int)).sg:=fun h=>c47 (if_pos h)
        exact Ay rfl rfl (I) A0 ⟨by rw [if_neg hnr,show checkS nd xs=1 from (by first|(unfold checkS;rw [if_pos om];done)|exact hs.trans ((Cs om (by rw [badL_one om asm];decide)).trans (badL_one om asm)))],rfl⟩
       ·refine Aw (Aj (Au (Ai (Gf fld146_5 rfl (Gl ty3 ?_)))))
        refine Gr (A9 rfl rfl) (Gm rfl (Bb (d:=52) rfl (fun g52=>?_) (fun g52=>?_)))
        ·exact Gpo (Gpo (Gpo (Gr (Ao rfl rfl) (Af (Ar (S7 56 3 4 1 15 16 17 rfl rfl rfl rfl rfl rfl rfl) (Ca rfl (Ai (Ga rfl (Af (Ax (Ah (Av (Ah (Ah (Av (Ah (Ay rfl rfl (I) A0 ⟨by rw [show checkS nd xs=9 from (hs.trans ((Cs om (by rw [badL_nine om (by first|assumption|exact Classical.not_not.1 asm|exact Classical.byContradiction fun h=>c47 (by rw [if_neg h];decide)) om];decide)).trans (badL_nine om (by first|assumption|exact Classical.not_not.1 asm|exact Classical.byContradiction fun h=>c47 (by rw [if_neg h];decide)) om)))],rfl⟩)))))))))))))))))
        ·refine Gro (Ab fld146_5 rfl) (Gro (As ty3) ?_)
         refine Gro (Bz rfl rfl) (Gr (Al rfl rfl) (Af (Ar (S7 56 3 4 1 15 16 17 rfl rfl rfl rfl rfl rfl rfl) (A7 rfl (fun c56=>?_) (fun c56=>?_)))))
         ·exact Ai (Ga rfl (Af (Ax (Ah (Av (Ah (Ah (Av (Ah (Ay rfl rfl (I) A0 ⟨by rw [show checkS nd xs=9 from (hs.trans ((Cs om (by rw [badL_nine om (by first|assumption|exact Classical.not_not.1 asm|exact Classical.byContradiction fun h=>c47 (by rw [if_neg h];decide)) om];decide)).trans (badL_nine om (by first|assumption|exact Classical.not_not.1 asm|exact Classical.byContradiction fun h=>c47 (by rw [if_neg h];decide)) om)))],rfl⟩))))))))))
         ·refine Aw (Aj (Au (Bk mixed (Bo (blk b2 [I64 ((at_ xs (k:Int)).u),I64 ((at_ xs (k:Int)).v),I64 ((at_ xs (k:Int)).w),I64 ((at_ xs (k:Int)).lb),I64 ((at_ xs (k:Int)).sg),I64 ((at_ xs (k:Int)).tm)] 146::blk b1 [I64 (nd),va] 111::I) 15 (Dr 0 rfl (Ad rfl) (Dr 1 rfl (Bz rfl rfl) (Dr 2 rfl (Ad rfl) (C7 (d:=59) rfl (fun g59=>?_) (fun g59=>?_)))))))))
          ·refine Dro 3 rfl (Ab fld111_1 rfl) (Dro 4 rfl (As ty109) ?_)
           refine Dro 5 rfl (Ad rfl) (Dro 6 rfl (Rsu rfl rfl) (Dro 7 rfl (A3 (α:=Lk) (xs:=xs) Aq ty146 rfl rfl (Bj hl) om om) (Dro 8 rfl (Bu (α:=Lk) (xs:=xs) ty146 rfl (Bj hl) om om) (Dro 10 rfl (Bq (vs:=[_,_,_,_,_,_]) ty146) ?_))))
           refine Ds1 9 (Sc0 rfl (Ap call130 rfl rfl (Edge5_ok (at_ xs ((k:Int) - 1)))) ?_)
           refine Ds1 11 (Sc0 rfl (Ap call130 rfl rfl (Edge5_ok (at_ xs (k:Int)))) ?_)
           refine Ds1 12 (Sc0 rfl (Ap call84 rfl rfl (Before03_ok (at_ xs ((k:Int) - 1)).p (at_ xs (k:Int)).p)) ?_)
           refine Dro 13 rfl (Cw rfl) (Dr 14 rfl (Ao rfl rfl) (Dz (Aj (Ar (S5 71 1 15 16 17 rfl rfl rfl rfl rfl) (A7 rfl (fun c71=>?_) (fun c71=>?_))))))
           ·exact Ai (Ga rfl (Af (Ax (Av (Ah (Ah (Av (Ah (Ay rfl rfl (I) A0 ⟨by rw [show checkS nd xs=5 from (hs.trans (scanL_order om (badL_zero om (by first|assumption|exact Classical.not_not.1 asm|exact Classical.byContradiction fun h=>c47 (by rw [if_neg h];decide)) om) om (by first|assumption|(intro h;have:=(Lk.cmp_lt _ _).2 h;omega))))],rfl⟩)))))))))
           ·exact Aw (Ak (Aj (Az (Gr (Rad rfl rfl) (Gm rfl (Bc (B3 ((k+1)) ⟨om,(hs.trans (D9 om (badL_zero om (by first|assumption|exact Classical.not_not.1 asm|exact Classical.byContradiction fun h=>c47 (by rw [if_neg h];decide)) om) (fun h0=>by first|omega|exact (Lk.cmp_lt _ _).1 om|exact Classical.not_not.1 asm)))⟩)))))))
          ·exact Dpo 3 rfl (Dpo 4 rfl (Dpo 5 rfl (Dpo 6 rfl (Dpo 7 rfl (Dpo 8 rfl (Dpo 10 rfl (Dpo 9 rfl (Dpo 11 rfl (Dpo 12 rfl (Dpo 13 rfl (Dr 14 rfl (Al rfl rfl) (Dz (Aj (Ar (S5 71 1 15 16 17 rfl rfl rfl rfl rfl) (C9 rfl (Aw (Ak (Aj (Az (Gr (Rad rfl rfl) (Gm rfl (Bc (B3 ((k+1)) ⟨om,(hs.trans (D9 om (badL_zero om (by first|assumption|exact Classical.not_not.1 asm|exact Classical.byContradiction fun h=>c47 (by rw [if_neg h];decide)) om) (fun h0=>by first|omega|exact (Lk.cmp_lt _ _).1 om|exact Classical.not_not.1 asm)))⟩)))))))))))))))))))))))
   ·exact Bs (Am (Am (A6 (Aj (Ai (Ga rfl (Af (Ax (Ay rfl rfl (I) A0 ⟨by rw [show checkS nd xs=0 from (hs.trans (scanL_end om))],rfl⟩)))))))))
theorem Wrong_ok{κ:Ctx}{I:List Item}{nd kd wd mo nw:Int}{va:Value}{xs:List Lk}(hl:Sl κ I va xs) :
    CallS Tryz.prog κ 131 [.agg #[I64 (nd),va],.agg #[I64 (kd),I64 (wd),I64 (mo)],I64 (nw)] I (fun r J=>r=I64 (askE nd xs kd wd mo nw)∧I=J):=by
 refine B4 hl.le fun hmax=>?_
 refine Ce3 Tryz.func131 rfl rfl ?_
 refine Ai (Ge1 (Bd (cs:=[_,_]) rfl rfl rfl) fun b1=>Ge1 (Bd (cs:=[_,_,_]) rfl rfl rfl) fun b2=>Ga rfl (Af (Au (Ai (Gl3 ty31 ?_)))))
 refine Gc0 (Ap call85 rfl rfl (CheckW7_ok kd wd mo)) ?_
 refine Ga rfl (Af (Ai (Gm rfl (Gr (Be rfl rfl) (Af (A7 rfl (fun c14=>?_) (fun c14=>?_)))))))
 ·exact Ai (Gm rfl (Ga rfl (Af (Ax (Ah (Ay rfl rfl (I) A0 ⟨by rw [show askE nd xs kd wd mo nw=checkW kd wd mo from (by unfold askE;rw [if_pos c14])],rfl⟩))))))
 ·refine Aw (Aj (Au (Ai (Gl2 ty111 ?_))))
  refine Gc0 (Ap call129 rfl rfl (CheckS5_ok (nd:=nd) (Bj hl))) ?_
  refine Ga rfl (Af (Ar (S3 8 3 2 rfl rfl rfl) (Ai (Gm rfl (Gr (Be rfl rfl) (Af (A7 rfl (fun c19=>?_) (fun c19=>?_))))))))
  ·exact Ai (Gm rfl (Ga rfl (Af (Ax (Ah (Ay rfl rfl (I) A0 ⟨by rw [show askE nd xs kd wd mo nw=checkS nd xs from (by unfold askE;rw [if_neg c14,if_pos c19])],rfl⟩))))))
  ·refine Aw (Aj (Au (Ai (Gm rfl (Gr (A9 rfl rfl) (Gm rfl (Bb (d:=23) rfl (fun g23=>?_) (fun g23=>?_))))))))
   ·exact Gpo (Gpo (Gr (Ao rfl rfl) (Af (Ca rfl (Ai (Ga rfl (Af (Ax (Ah (Ay rfl rfl (I) A0 ⟨by rw [show askE nd xs kd wd mo nw=9 from (by unfold askE;rw [if_neg c14,if_neg c19,if_pos (by first|omega|(simp only [*];done)|exact .inr (.inr asm)|exact .inr (.inr (List.any_eq_true.2 ⟨_,Cf (i:=(k:Int)) om om,decide_eq_true c37⟩)))])],rfl⟩))))))))))
   ·refine Gro (Ad rfl) (Gro (Bz rfl rfl) (Gr (Al rfl rfl) (Af (A7 rfl (fun c26=>?_) (fun c26=>?_)))))
    ·exact Ai (Ga rfl (Af (Ax (Ah (Ay rfl rfl (I) A0 ⟨by rw [show askE nd xs kd wd mo nw=9 from (by unfold askE;rw [if_neg c14,if_neg c19,if_pos (by first|omega|(simp only [*];done)|exact .inr (.inr asm)|exact .inr (.inr (List.any_eq_true.2 ⟨_,Cf (i:=(k:Int)) om om,decide_eq_true c37⟩)))])],rfl⟩)))))
    ·refine Aw (Aj (Au (Ai (Gf fld111_1 rfl (Gl ty109 ?_)))))
     refine Gr (Bx (α:=Lk) (xs:=xs) Aq rfl (Bj hl)) (Gm rfl (Af (Ar (S4 30 29 28 2 rfl rfl rfl rfl) (A4 (Bv (σ:=Nat) (fun s=>([(2,I64 (nw)),(28,va),(29,I64 (((xs.length:Nat):Int))),(30,I64 (((s:Nat):Int)))]:Env)) (fun s=>blk b2 [I64 (kd),I64 (wd),I64 (mo)] 31::blk b1 [I64 (nd),va] 111::I) (fun s=>(s≤xs.length)∧(∀j,j<s→¬nw<(at_ xs (j:Int)).tm)) (fun s=>xs.length - s) (0) (show ((0:Nat)≤xs.length)∧(∀j,j<(0:Nat)→¬nw<(at_ xs (j:Int)).tm) from ⟨om,all_zero⟩) (Aa rfl (Aa rfl (Aa rfl (Aa B8 Bg)))) (show Fit κ _ (blk b2 [I64 (kd),I64 (wd),I64 (mo)] 31::blk b1 [I64 (nd),va] 111::I) from A5) ?_)))))
     rintro k hp
     obtain ⟨hk,hn⟩:=hp
     refine Ai (Gr (A9 rfl rfl) (Af (Au (A7 rfl (fun c31=>?_) (fun c31=>?_)))))
     ·refine Aw (Aj (Au (A4 (Ai (Gr (A3 (α:=Lk) (xs:=xs) Aq ty146 rfl rfl (Bj hl) om om) (Gr (Bu (α:=Lk) (xs:=xs) ty146 rfl (Bj hl) om om) (Ge1 (A8 ty146 rfl) fun b3=>Ge0 (D3 ty146) ?_)))))))
      refine Af (Ai (Gf fld146_5 rfl (Gl ty3 ?_)))
      refine Gm rfl (Gr (Bz rfl rfl) (Af (A7 rfl (fun c37=>?_) (fun c37=>?_))))
      ·exact Ai (Ga rfl (Af (Ax (Av (Ah (Ah (Av (Ah (Ay rfl rfl (I) A0 ⟨by rw [show askE nd xs kd wd mo nw=9 from (by unfold askE;rw [if_neg c14,if_neg c19,if_pos (by first|omega|(simp only [*];done)|exact .inr (.inr asm)|exact .inr (.inr (List.any_eq_true.2 ⟨_,Cf (i:=(k:Int)) om om,decide_eq_true c37⟩)))])],rfl⟩)))))))))
      ·exact Aw (Ak (Aj (Az (Gr (Rad rfl rfl) (Gm rfl (Bc (B3 ((k+1)) ⟨om,(Di hn c37)⟩)))))))
     ·exact Bs (Am (Am (A6 (Aj (Ai (Ga rfl (Af (Ax (Ay rfl rfl (I) A0 ⟨by rw [show askE nd xs kd wd mo nw=0 from (by unfold askE;rw [if_neg c14,if_neg c19,if_neg (by rintro (h|h|h)<;>first|omega|(obtain ⟨x,hx,h2⟩:=List.any_eq_true.1 h;obtain ⟨j,hj,rfl⟩:=Ei hx;exact hn j om (of_decide_eq_true h2)))])],rfl⟩)))))))))
variable {κ:Ctx}{I:List Item}
theorem All1_ok(x:Lk) :
    CallS Tryz.prog κ 295 [.agg #[I64 (x.u),I64 (x.v),I64 (x.w),I64 (x.lb),I64 (x.sg),I64 (x.tm)]] I (fun r J=>r = .bool true∧I=J):=by
 refine Ce1 Tryz.func295 rfl rfl ?_
 exact Ai (Ge1 (Bd (cs:=[_,_,_,_,_,_]) rfl rfl rfl) fun b1=>Ga rfl (Af (Ai (Ga rfl (Af (Ax (Ay rfl rfl (I) A0 ⟨rfl,rfl⟩)))))))
theorem Age1_ok{b c:Nat}{nw kd wd mo:Int}(hb:BlkRd κ I b [I64 nw] 3)(hc:BlkRd κ I c [I64 kd,I64 wd,I64 mo] 31)(x:Lk) :
    CallS Tryz.prog κ 297 [.agg #[I64 (x.u),I64 (x.v),I64 (x.w),I64 (x.lb),I64 (x.sg),I64 (x.tm)],.pointer (some ⟨b,0,none⟩),.pointer (some ⟨c,0,none⟩)] I (fun r J=>r = .bool (decide (IntKind.i64.wrap (nw - x.tm)<wd))∧I=J):=by
 refine Ce3 Tryz.func297 rfl rfl ?_
 refine Ai (Ge1 (Bd (cs:=[_,_,_,_,_,_]) rfl rfl rfl) fun b1=>Ga rfl (Af (Ai (Gr (Co ty3 rfl (Cm hb A0) rfl) (Gf fld146_5 rfl (Gl ty3 ?_))))))
 exact Gr (Runs.subw rfl rfl) (Gf fld31_1 rfl (Gr (Co ty3 rfl (Cm hc A0) rfl) (Gr (A9 rfl rfl) (Ga rfl (Af (Ax (Ay rfl rfl (I) A0 ⟨rfl,rfl⟩)))))))
theorem flk_yes{p:Lk→Bool}{xs:List Lk}{k:Nat}(hk:k<xs.length)(h:p (at_ xs (k:Int))=true):(xs.take (k+1)).filter p=(xs.take k).filter p++[at_ xs (k:Int)]:=by
 rw [Cz xs k hk,List.filter_append];simp [h]
theorem flk_no{p:Lk→Bool}{xs:List Lk}{k:Nat}(hk:k<xs.length)(h:p (at_ xs (k:Int))=false):(xs.take (k+1)).filter p=(xs.take k).filter p:=by
 rw [Cz xs k hk,List.filter_append];simp [h]
theorem Rule1_ok{nd kd wd mo nw:Int}{va:Value} :
    CallS Tryz.prog κ 294 [.agg #[I64 (nd),va],.agg #[I64 (kd),I64 (wd),I64 (mo)],I64 (nw)] I (fun r J=>r = .func (.func 295) #[] #[]∧I=J):=by
 refine Ce3 Tryz.func294 rfl rfl ?_
 exact Ai (Ge1 (Bd (cs:=[_,_]) rfl rfl rfl) fun b1=>Ge1 (Bd (cs:=[_,_,_]) rfl rfl rfl) fun b2=>Ga rfl (Af (Ai (Ga rfl (Af (Ax (Ay rfl rfl (I) A0 ⟨rfl,rfl⟩)))))))
theorem Rule2_ok{nd kd wd mo nw:Int}{va:Value} :
    CallS Tryz.prog κ 296 [.agg #[I64 (nd),va],.agg #[I64 (kd),I64 (wd),I64 (mo)],I64 (nw)] I (fun r J=>∃b c,r = .func (.func 297) #[] #[.pointer (some ⟨b,0,none⟩),.pointer (some ⟨c,0,none⟩)]∧J=blk b [I64 nw] 3::blk c [I64 kd,I64 wd,I64 mo] 31::I):=by
 refine Ce3 Tryz.func296 rfl rfl ?_
 exact Ai (Ge1 (Bd (cs:=[_,_]) rfl rfl rfl) fun b1=>Ge1 (Bd (cs:=[_,_,_]) rfl rfl rfl) fun b2=>Ge1 (Bd (cs:=[_]) rfl rfl rfl) fun b3=>Ga rfl (Af (Ai (Gr (Eb rfl rfl) (Ga rfl (Af (Ax (Ay rfl rfl (blk b3 [I64 (nw)] 3::blk b2 [I64 (kd),I64 (wd),I64 (mo)] 31::I) A5 ⟨b3,b2,rfl,rfl⟩))))))))
theorem Rules_ok  :
    CallS Tryz.prog κ 253 [] I (fun r J=>∃m,r = .map (some m)∧J=mp m [({key:=I64 (1),val:= .func (.func 294) #[] #[],born:=0}:MapEntry),({key:=I64 (2),val:= .func (.func 296) #[] #[],born:=1}:MapEntry),({key:=I64 (3),val:= .func (.func 298) #[] #[],born:=2}:MapEntry)] 3::I):=by
 refine Ce0 Tryz.func253 rfl rfl ?_
 refine Ai (Ga rfl (Af (Ai (Ge1 (Eff.makeMap rfl) fun mr1=>?_))))
 refine Ge0 (C8 Dv Bm rfl rfl rfl rfl rfl am) ?_
 refine Ge0 (C8 Dv Bm rfl rfl rfl rfl rfl am) ?_
 refine Ge0 (C8 Dv Bm rfl rfl rfl rfl rfl am) ?_
 exact Gm rfl (Ga rfl (Af (Ax (Ay rfl rfl (mp mr1 [({key:=I64 (1),val:= .func (.func 294) #[] #[],born:=0}:MapEntry),({key:=I64 (2),val:= .func (.func 296) #[] #[],born:=1}:MapEntry),({key:=I64 (3),val:= .func (.func 298) #[] #[],born:=2}:MapEntry)] 3::I) A5 ⟨mr1,rfl,rfl⟩))))
end Go.Sl
