/- A part of the proofs of statements of this seat: contracts of functions, and the plain laws that they lean on. No conditions. -/
import Derived.Test.YtfkcohmipjhfcaaGreatDoorG4
set_option linter.unusedVariables false
set_option linter.unusedSimpArgs false
set_option linter.unusedSectionVars false
namespace Go.Sl
open Go.Proofs
set_option maxRecDepth 4000
variable {κ:Ctx}{I:List Item}
structure Lk where
 u:Int
 v:Int
 w:Int
 lb:Int
 sg:Int
 tm:Int
deriving DecidableEq,Inhabited
instance:Enc Lk:=⟨fun x=>[I64 x.u,I64 x.v,I64 x.w,I64 x.lb,I64 x.sg,I64 x.tm],6,by omega,fun _=>rfl,fun x u h=>by
 simp only [List.mem_cons,List.not_mem_nil,or_false] at h
 rcases h with rfl|rfl|rfl|rfl|rfl|rfl<;>rfl⟩
theorem eqt146:EqT Tryz.prog 146 Lk:=EqT.flat (fun p:Lk=>[p.u,p.v,p.w,p.lb,p.sg,p.tm]) (fun _=>rfl) (fun x y h=>by cases x;cases y;simpa using h) (n:=6) (fun _=>rfl) kr kr kr kr kr
structure Ev where
 kd:Int
 tm:Int
 u:Int
 v:Int
 w:Int
 lb:Int
 sg:Int
deriving DecidableEq,Inhabited
instance:Enc Ev:=⟨fun x=>[I64 x.kd,I64 x.tm,I64 x.u,I64 x.v,I64 x.w,I64 x.lb,I64 x.sg],7,by omega,fun _=>rfl,fun x u h=>by
 simp only [List.mem_cons,List.not_mem_nil,or_false] at h
 rcases h with rfl|rfl|rfl|rfl|rfl|rfl|rfl<;>rfl⟩
def Lk.p(l:Lk):Pt:=⟨l.u,l.v⟩
def Lk.cmp(a c:Lk):Int:=Pt.cmp a.p c.p
def Lk.lt(a c:Lk):Prop:=Pt.lt a.p c.p
instance:DecidableRel Lk.lt:=fun a c=>by unfold Lk.lt;infer_instance
def rightW(w lb sg:Int):Prop:=1≤w∧w≤1000∧0≤lb∧lb≤15∧(sg=1∨sg = -1)
instance (w lb sg:Int):Decidable (rightW w lb sg):=by unfold rightW;infer_instance
def badL(n:Int)(l:Lk):Int:=if l.u<0∨l.v≤l.u∨n≤l.v then 6 else if ¬rightW l.w l.lb l.sg then 1 else if l.tm<0∨1048576<l.tm then 9 else 0
def checkS(n:Int)(xs:List Lk):Int:=if n<0∨64<n then 1 else scanL (badL n) Lk.lt none xs
theorem badL_zero{n:Int}{l:Lk}(h1:¬(l.u<0∨l.v≤l.u∨n≤l.v))(h2:rightW l.w l.lb l.sg)(h3:¬(l.tm<0∨1048576<l.tm)):badL n l=0:=by
 unfold badL;rw [if_neg h1,if_neg (fun h=>h h2),if_neg h3]
theorem badL_six{n:Int}{l:Lk}(h1:l.u<0∨l.v≤l.u∨n≤l.v):badL n l=6:=by unfold badL;rw [if_pos h1]
theorem badL_one{n:Int}{l:Lk}(h1:¬(l.u<0∨l.v≤l.u∨n≤l.v))(h2:¬rightW l.w l.lb l.sg):badL n l=1:=by unfold badL;rw [if_neg h1,if_pos h2]
theorem badL_nine{n:Int}{l:Lk}(h1:¬(l.u<0∨l.v≤l.u∨n≤l.v))(h2:rightW l.w l.lb l.sg)(h3:l.tm<0∨1048576<l.tm):badL n l=9:=by unfold badL;rw [if_neg h1,if_neg (fun h=>h h2),if_pos h3]
def checkW(kd wd mo:Int):Int:=if kd<1∨3<kd then 8 else if (kd=2∧(wd<1∨1048576<wd))∨(kd≠2∧wd≠0)∨(kd=3∧(mo<0∨2016<mo))∨(kd≠3∧mo≠0) then 1 else 0
theorem CheckW_ok(kd wd mo:Int) :
    CallS Tryz.prog κ 78 [.agg #[I64 (kd),I64 (wd),I64 (mo)]] I (fun r J=>r=I64 (checkW kd wd mo)∧I=J):=by
 refine Ce1 Tryz.func78 rfl rfl ?_
 refine Ah (Ge1 (Bc (cs:=[_,_,_]) rfl rfl rfl) fun b1=>Ga rfl (Af (Ah (Ga rfl (Ga rfl (Af (Ap (Ah (Gf fld31_0 rfl (Gl ty3 ?_))))))))))
 refine Af (A3 (Ah (Gr (Bm rfl rfl) (Ga rfl (Af (A9 rfl (fun c7=>?_) (fun c7=>?_)))))))
 ·refine A1 (Aj (Ai (Ap (Ah (Gf fld31_1 rfl (Gl ty3 ?_))))))
  refine Gm rfl (Gr (Br rfl rfl) (Gm rfl (Bk (d:=37) rfl (fun g37=>?_) (fun g37=>?_))))
  ·exact Gpo (Gpo (Gpo (Gpo (Gr (As rfl rfl) (Af (Ar (S1 42 rfl) (C0 rfl (Ah (Ga rfl (Af (Az (Ak (A4 rfl rfl (I) Ax ⟨by rw [show checkW kd wd mo=1 from by unfold checkW;split<;>first|rfl|omega|(split<;>first|rfl|omega)],rfl⟩)))))))))))))
  ·refine Gro (Ac fld31_2 rfl) (Gro (Av ty3) ?_)
   refine Gro (Ad rfl) (Gro (Br rfl rfl) (Gr (Au rfl rfl) (Af (Ar (S1 42 rfl) (A9 rfl (fun c42=>?_) (fun c42=>?_))))))
   ·exact Ah (Ga rfl (Af (Az (Ak (A4 rfl rfl (I) Ax ⟨by rw [show checkW kd wd mo=1 from by unfold checkW;split<;>first|rfl|omega|(split<;>first|rfl|omega)],rfl⟩)))))
   ·exact A1 (Ai (Ah (Ga rfl (Af (Az (A4 rfl rfl (I) Ax ⟨by rw [show checkW kd wd mo=0 from by unfold checkW;split<;>first|rfl|omega|(split<;>first|rfl|omega)],rfl⟩))))))
 ·refine Ah (Gr (Bm rfl rfl) (Ga rfl (Af (A9 rfl (fun c9=>?_) (fun c9=>?_)))))
  ·refine Ap (Ah (Gf fld31_1 rfl (Gl ty3 ?_)))
   refine Gr (Bb rfl rfl) (Gm rfl (Bk (d:=14) rfl (fun g14=>?_) (fun g14=>?_)))
   ·exact Gpo (Gpo (Gpo (Gr (As rfl rfl) (Af (Ar (S3 18 4 1 rfl rfl rfl) (C0 rfl (Ah (Ga rfl (Af (Az (Ak (Ao (Ak (A4 rfl rfl (I) Ax ⟨by rw [show checkW kd wd mo=1 from by unfold checkW;split<;>first|rfl|omega|(split<;>first|rfl|omega)],rfl⟩))))))))))))))
   ·refine Gro (Ac fld31_1 rfl) (Gro (Av ty3) ?_)
    refine Gro (B2 rfl rfl) (Gr (Au rfl rfl) (Af (Ar (S3 18 4 1 rfl rfl rfl) (A9 rfl (fun c18=>?_) (fun c18=>?_)))))
    ·exact Ah (Ga rfl (Af (Az (Ak (Ao (Ak (A4 rfl rfl (I) Ax ⟨by rw [show checkW kd wd mo=1 from by unfold checkW;split<;>first|rfl|omega|(split<;>first|rfl|omega)],rfl⟩)))))))
    ·refine A1 (Ai (A2 (Gf fld31_1 rfl (Gl ty3 ?_))))
     refine Ga rfl (Bh (Aj (Ai (Ap (Ah (Gf fld31_1 rfl (Gl ty3 ?_)))))))
     refine Gm rfl (Gr (Br rfl rfl) (Gm rfl (Bk (d:=37) rfl (fun g37=>?_) (fun g37=>?_))))
     ·exact Gpo (Gpo (Gpo (Gpo (Gr (As rfl rfl) (Af (Ar (S1 42 rfl) (C0 rfl (Ah (Ga rfl (Af (Az (Ak (A4 rfl rfl (I) Ax ⟨by rw [show checkW kd wd mo=1 from by unfold checkW;split<;>first|rfl|omega|(split<;>first|rfl|omega)],rfl⟩)))))))))))))
     ·refine Gro (Ac fld31_2 rfl) (Gro (Av ty3) ?_)
      refine Gro (Ad rfl) (Gro (Br rfl rfl) (Gr (Au rfl rfl) (Af (Ar (S1 42 rfl) (A9 rfl (fun c42=>?_) (fun c42=>?_))))))
      ·exact Ah (Ga rfl (Af (Az (Ak (A4 rfl rfl (I) Ax ⟨by rw [show checkW kd wd mo=1 from by unfold checkW;split<;>first|rfl|omega|(split<;>first|rfl|omega)],rfl⟩)))))
      ·exact A1 (Ai (Ah (Ga rfl (Af (Az (A4 rfl rfl (I) Ax ⟨by rw [show checkW kd wd mo=0 from by unfold checkW;split<;>first|rfl|omega|(split<;>first|rfl|omega)],rfl⟩))))))
  ·refine Ah (Gr (Bm rfl rfl) (Ga rfl (Af (A9 rfl (fun c21=>?_) (fun c21=>?_)))))
   ·refine Ap (Ah (Gf fld31_2 rfl (Gl ty3 ?_)))
    refine Gr (Bb rfl rfl) (Gm rfl (Bk (d:=26) rfl (fun g26=>?_) (fun g26=>?_)))
    ·exact Gpo (Gpo (Gpo (Gr (As rfl rfl) (Af (Ar (S3 30 3 1 rfl rfl rfl) (C0 rfl (Ah (Ga rfl (Af (Az (Ak (Ao (Ak (A4 rfl rfl (I) Ax ⟨by rw [show checkW kd wd mo=1 from by unfold checkW;split<;>first|rfl|omega|(split<;>first|rfl|omega)],rfl⟩))))))))))))))
    ·refine Gro (Ac fld31_2 rfl) (Gro (Av ty3) ?_)
     refine Gro (B2 rfl rfl) (Gr (Au rfl rfl) (Af (Ar (S3 30 3 1 rfl rfl rfl) (A9 rfl (fun c30=>?_) (fun c30=>?_)))))
     ·exact Ah (Ga rfl (Af (Az (Ak (Ao (Ak (A4 rfl rfl (I) Ax ⟨by rw [show checkW kd wd mo=1 from by unfold checkW;split<;>first|rfl|omega|(split<;>first|rfl|omega)],rfl⟩)))))))
     ·refine A1 (Ai (A2 (Gf fld31_2 rfl (Gl ty3 ?_))))
      refine Ga rfl (Bh (Aj (Ai (Ap (Ah (Gf fld31_1 rfl (Gl ty3 ?_)))))))
      refine Gm rfl (Gr (Br rfl rfl) (Gm rfl (Bk (d:=37) rfl (fun g37=>?_) (fun g37=>?_))))
      ·exact Gpo (Gpo (Gpo (Gpo (Gr (As rfl rfl) (Af (Ar (S1 42 rfl) (C0 rfl (Ah (Ga rfl (Af (Az (Ak (A4 rfl rfl (I) Ax ⟨by rw [show checkW kd wd mo=1 from by unfold checkW;split<;>first|rfl|omega|(split<;>first|rfl|omega)],rfl⟩)))))))))))))
      ·refine Gro (Ac fld31_2 rfl) (Gro (Av ty3) ?_)
       refine Gro (Ad rfl) (Gro (Br rfl rfl) (Gr (Au rfl rfl) (Af (Ar (S1 42 rfl) (A9 rfl (fun c42=>?_) (fun c42=>?_))))))
       ·exact Ah (Ga rfl (Af (Az (Ak (A4 rfl rfl (I) Ax ⟨by rw [show checkW kd wd mo=1 from by unfold checkW;split<;>first|rfl|omega|(split<;>first|rfl|omega)],rfl⟩)))))
       ·exact A1 (Ai (Ah (Ga rfl (Af (Az (A4 rfl rfl (I) Ax ⟨by rw [show checkW kd wd mo=0 from by unfold checkW;split<;>first|rfl|omega|(split<;>first|rfl|omega)],rfl⟩))))))
   ·exact Ah (Ga rfl (Af (Ar (S1 2 rfl) (Az (Ao (Ak (A4 rfl rfl (I) Ax ⟨by rw [show checkW kd wd mo=8 from by unfold checkW;split<;>first|rfl|omega|(split<;>first|rfl|omega)],rfl⟩)))))))
theorem RightW_ok(w lb sg:Int) :
    CallS Tryz.prog κ 251 [I64 (w),I64 (lb),I64 (sg)] I (fun r J=>r = .bool (decide (rightW w lb sg))∧I=J):=by
 refine Ce3 Tryz.func251 rfl rfl ?_
 refine Ah (Ga rfl (Af (Ah (Gm rfl (Gr (Ca rfl rfl) (Gm rfl (Bk (d:=9) rfl (fun g9=>?_) (fun g9=>?_))))))))
 ·refine Gro (Ad rfl) (Gro (Dv rfl rfl) (Gr (As rfl rfl) (Gm rfl (Bk (d:=13) rfl (fun g13=>?_) (fun g13=>?_)))))
  ·refine Gro (Ad rfl) (Gro (Ca rfl rfl) (Gr (As rfl rfl) (Gm rfl (Bk (d:=17) rfl (fun g17=>?_) (fun g17=>?_)))))
   ·refine Gro (Ad rfl) (Gro (Dv rfl rfl) (Gr (As rfl rfl) (Gm rfl (Bk (d:=21) rfl (fun g21=>?_) (fun g21=>?_)))))
    ·refine Gro (Ad rfl) (Gro (Bm rfl rfl) (Gro (Ad rfl) (Bk (d:=24) rfl (fun g24=>?_) (fun g24=>?_))))
     ·exact Gpo (Gpo (Gro (As rfl rfl) (Gr (As rfl rfl) (Ga rfl (Af (Ar (S1 6 rfl) (Az (A4 rfl rfl (I) Ax ⟨(by first|exact congrArg Value.bool (decide_eq_decide.2 (by unfold rightW;omega))|exact congrArg Value.bool (decide_eq_true (by unfold rightW;omega)).symm|exact congrArg Value.bool (decide_eq_false (by unfold rightW;omega)).symm),rfl⟩))))))))
     ·exact Gro (Ad rfl) (Gro (Bm rfl rfl) (Gro (Au rfl rfl) (Gr (As rfl rfl) (Ga rfl (Af (Ar (S1 6 rfl) (Az (A4 rfl rfl (I) Ax ⟨(by first|exact congrArg Value.bool (decide_eq_decide.2 (by unfold rightW;omega))|exact congrArg Value.bool (decide_eq_true (by unfold rightW;omega)).symm|exact congrArg Value.bool (decide_eq_false (by unfold rightW;omega)).symm),rfl⟩))))))))
    ·exact Gpo (Gpo (Gpo (Gpu (Gpu (Gpo (Gr (Au rfl rfl) (Ga rfl (Af (Ar (S1 6 rfl) (Az (A4 rfl rfl (I) Ax ⟨(by first|exact congrArg Value.bool (decide_eq_decide.2 (by unfold rightW;omega))|exact congrArg Value.bool (decide_eq_true (by unfold rightW;omega)).symm|exact congrArg Value.bool (decide_eq_false (by unfold rightW;omega)).symm),rfl⟩)))))))))))
   ·exact Gpo (Gpo (Gr (Au rfl rfl) (Gm rfl (Gpo (Gpo (Gpo (Gpu (Gpu (Gpo (Gr (Au rfl rfl) (Ga rfl (Af (Ar (S1 6 rfl) (Az (A4 rfl rfl (I) Ax ⟨(by first|exact congrArg Value.bool (decide_eq_decide.2 (by unfold rightW;omega))|exact congrArg Value.bool (decide_eq_true (by unfold rightW;omega)).symm|exact congrArg Value.bool (decide_eq_false (by unfold rightW;omega)).symm),rfl⟩)))))))))))))))
  ·exact Gpo (Gpo (Gr (Au rfl rfl) (Gm rfl (Gpo (Gpo (Gr (Au rfl rfl) (Gm rfl (Gpo (Gpo (Gpo (Gpu (Gpu (Gpo (Gr (Au rfl rfl) (Ga rfl (Af (Ar (S1 6 rfl) (Az (A4 rfl rfl (I) Ax ⟨(by first|exact congrArg Value.bool (decide_eq_decide.2 (by unfold rightW;omega))|exact congrArg Value.bool (decide_eq_true (by unfold rightW;omega)).symm|exact congrArg Value.bool (decide_eq_false (by unfold rightW;omega)).symm),rfl⟩)))))))))))))))))))
 ·exact Gpo (Gpo (Gr (Au rfl rfl) (Gm rfl (Gpo (Gpo (Gr (Au rfl rfl) (Gm rfl (Gpo (Gpo (Gr (Au rfl rfl) (Gm rfl (Gpo (Gpo (Gpo (Gpu (Gpu (Gpo (Gr (Au rfl rfl) (Ga rfl (Af (Ar (S1 6 rfl) (Az (A4 rfl rfl (I) Ax ⟨(by first|exact congrArg Value.bool (decide_eq_decide.2 (by unfold rightW;omega))|exact congrArg Value.bool (decide_eq_true (by unfold rightW;omega)).symm|exact congrArg Value.bool (decide_eq_false (by unfold rightW;omega)).symm),rfl⟩)))))))))))))))))))))))
theorem OrderL_ok(a c:Lk) :
    CallS Tryz.prog κ 255 [.agg #[I64 (a.u),I64 (a.v),I64 (a.w),I64 (a.lb),I64 (a.sg),I64 (a.tm)],.agg #[I64 (c.u),I64 (c.v),I64 (c.w),I64 (c.lb),I64 (c.sg),I64 (c.tm)]] I (fun r J=>r=I64 (Lk.cmp a c)∧I=J):=by
 refine Ce2 Tryz.func255 rfl rfl ?_
 refine Ah (Ge1 (Bc (cs:=[_,_,_,_,_,_]) rfl rfl rfl) fun b1=>Ge1 (Bc (cs:=[_,_,_,_,_,_]) rfl rfl rfl) fun b2=>Ga rfl (Af (Ap (Bd mixed (Bl (blk b2 [I64 (c.u),I64 (c.v),I64 (c.w),I64 (c.lb),I64 (c.sg),I64 (c.tm)] 146::blk b1 [I64 (a.u),I64 (a.v),I64 (a.w),I64 (a.lb),I64 (a.sg),I64 (a.tm)] 146::I) 12 (Dr 0 rfl (Ac fld146_0 rfl) (Dr 1 rfl (Av ty3) ?_)))))))
 refine Dr 2 rfl (Ac fld146_0 rfl) (Dr 3 rfl (Av ty3) ?_)
 refine Dr 5 rfl (Ac fld146_1 rfl) (Dr 6 rfl (Av ty3) ?_)
 refine Dr 7 rfl (Ac fld146_1 rfl) (Dr 8 rfl (Av ty3) ?_)
 refine Ds1 4 (Sc0 rfl (Al call225 rfl rfl (Compare_ok a.u c.u)) ?_)
 refine Ds1 9 (Sc0 rfl (Al call225 rfl rfl (Compare_ok a.v c.v)) ?_)
 refine Ds1 10 (Se1 rfl (B8 (α:=Int) (cs:=[_,_]) (xs:=[cmpI a.u c.u,cmpI a.v c.v]) Aa ty3 rfl rfl dc dc rfl rfl rfl rfl) fun ad3=>?_)
 refine Ds1 11 (Sc0 rfl (Al call224 rfl rfl (Or_ok Bf)) ?_)
 refine Cy kr ?_
 refine A.read (i:=12) kr rfl (B9 rfl) rfl rfl (A6 rfl) ?_
 refine Cz kr ?_
 exact Ai (Ar (S1 4 rfl) (Az (A4 rfl rfl (I) Ax ⟨by rw [show Lk.cmp a c=Pt.cmp ⟨a.u,a.v⟩ ⟨c.u,c.v⟩ from rfl,←orL_cmp],rfl⟩)))
end Go.Sl
namespace Go.Sl
end Go.Sl
namespace Go.Sl
open Go.Proofs
set_option maxRecDepth 4000
theorem at_drop{α:Type}[Inhabited α](xs:List α)(l:Nat)(i:Int)(h0:0≤i):at_ (xs.drop l) i=at_ xs ((l:Int)+i):=by
 unfold at_
 rw [List.getD_eq_getElem?_getD,List.getD_eq_getElem?_getD,List.getElem?_drop]
 congr 2;omega
theorem Lk.cmp_lt(a c:Lk):Lk.cmp a c<0↔Lk.lt a c:=Pt.cmp_lt _ _
def askE(nd:Int)(xs:List Lk)(kd wd mo nw:Int):Int:=if checkW kd wd mo≠0 then checkW kd wd mo else if checkS nd xs≠0 then checkS nd xs else if nw<0∨1048576<nw∨xs.any (fun x=>decide (nw<x.tm))=true then 9 else 0
theorem CheckS_ok{κ:Ctx}{I:List Item}{nd:Int}{va:Value}{xs:List Lk}(hl:Sl κ I va xs) :
    CallS Tryz.prog κ 214 [.agg #[I64 (nd),va]] I (fun r J=>r=I64 (checkS nd xs)∧I=J):=by
 refine B4 hl.le fun hmax=>?_
 refine Ce1 Tryz.func214 rfl rfl ?_
 refine Ah (Ge1 (Bc (cs:=[_,_]) rfl rfl rfl) fun b1=>Ga rfl (Af (Ap (Ah (Gf fld111_0 rfl (Gl ty3 ?_))))))
 refine Gr (Bb rfl rfl) (Gm rfl (Bk (d:=8) rfl (fun g8=>?_) (fun g8=>?_)))
 ·exact Gpo (Gpo (Gpo (Gr (As rfl rfl) (Af (C0 rfl (Ah (Ga rfl (Af (Az (Ak (A4 rfl rfl (I) Ax ⟨by rw [show checkS nd xs=1 from (by first|(unfold checkS;rw [if_pos om];done)|exact hs.trans ((Di om (by rw [badL_one om asm];decide)).trans (badL_one om asm)))],rfl⟩)))))))))))
 ·refine Gro (Ac fld111_0 rfl) (Gro (Av ty3) ?_)
  refine Gro (B2 rfl rfl) (Gr (Au rfl rfl) (Af (A9 rfl (fun c12=>?_) (fun c12=>?_))))
  ·exact Ah (Ga rfl (Af (Az (Ak (A4 rfl rfl (I) Ax ⟨by rw [show checkS nd xs=1 from (by first|(unfold checkS;rw [if_pos om];done)|exact hs.trans ((Di om (by rw [badL_one om asm];decide)).trans (badL_one om asm)))],rfl⟩)))))
  ·refine A1 (Ai (Ap (Ah (Gf fld111_1 rfl (Gl ty109 ?_)))))
   refine Gr (Bw (α:=Lk) (xs:=xs) Aq rfl (Bi hl)) (Gm rfl (Af (Ar (S4 16 15 14 1 rfl rfl rfl rfl) (A3 (Bv (σ:=Nat) (fun s=>([(1,.pointer (some ⟨b1,0,none⟩)),(14,va),(15,I64 (((xs.length:Nat):Int))),(16,I64 (((s:Nat):Int)))]:Env)) (fun s=>blk b1 [I64 (nd),va] 111::I) (fun s=>(s≤xs.length)∧(checkS nd xs=scanL (badL nd) Lk.lt (prevAt xs s) (xs.drop s))) (fun s=>xs.length - s) (0) (show ((0:Nat)≤xs.length)∧(checkS nd xs=scanL (badL nd) Lk.lt (prevAt xs (0:Nat)) (xs.drop (0:Nat))) from ⟨om,(by unfold checkS;rw [if_neg om];rfl)⟩) (Ab rfl (Ab rfl (Ab rfl (Ab Cc Bj)))) (show Fit κ _ (blk b1 [I64 (nd),va] 111::I) from Ay) ?_)))))
   rintro k hp
   obtain ⟨hk,hs⟩:=hp
   refine Ah (Gr (Bb rfl rfl) (Af (Ap (A9 rfl (fun c17=>?_) (fun c17=>?_)))))
   ·refine A1 (Ai (Ap (A3 (Ah (Gm rfl (Gr (A0 (α:=Lk) (xs:=xs) Aq ty146 rfl rfl (Bi hl) om om) (Gr (Bu (α:=Lk) (xs:=xs) ty146 rfl (Bi hl) om om) (Ge1 (A8 ty146 rfl) fun b2=>Ga rfl (Ge0 (D5 ty146) ?_)))))))))
    refine Af (A3 (Ah (Gf fld146_0 rfl (Gl ty3 ?_))))
    refine Gr (Bb rfl rfl) (Gm rfl (Bk (d:=25) rfl (fun g25=>?_) (fun g25=>?_)))
    ·exact Gpo (Gpo (Gpo (Gpo (Gpo (Gr (As rfl rfl) (Gm rfl (Gpo (Gpo (Gpo (Gpo (Gpo (Gr (As rfl rfl) (Ga rfl (Af (Ar (S7 21 3 4 1 14 15 16 rfl rfl rfl rfl rfl rfl rfl) (C0 rfl (Ah (Ga rfl (Af (Az (Ao (Ao (Ak (Ak (Ao (Ak (A4 rfl rfl (I) Ax ⟨by rw [show checkS nd xs=6 from (hs.trans ((Di om (by rw [badL_six om];decide)).trans (badL_six om)))],rfl⟩)))))))))))))))))))))))))))
    ·refine Gro (Ac fld146_0 rfl) (Gro (Av ty3) ?_)
     refine Gro (Ac fld146_1 rfl) (Gro (Av ty3) ?_)
     refine Gro (Ca rfl rfl) (Gr (Au rfl rfl) (Gm rfl (Bk (d:=32) rfl (fun g32=>?_) (fun g32=>?_))))
     ·exact Gpo (Gpo (Gpo (Gpo (Gpo (Gr (As rfl rfl) (Ga rfl (Af (Ar (S7 21 3 4 1 14 15 16 rfl rfl rfl rfl rfl rfl rfl) (C0 rfl (Ah (Ga rfl (Af (Az (Ao (Ao (Ak (Ak (Ao (Ak (A4 rfl rfl (I) Ax ⟨by rw [show checkS nd xs=6 from (hs.trans ((Di om (by rw [badL_six om];decide)).trans (badL_six om)))],rfl⟩))))))))))))))))))))
     ·refine Gro (Ac fld146_1 rfl) (Gro (Av ty3) ?_)
      refine Gro (Ac fld111_0 rfl) (Gro (Av ty3) ?_)
      refine Gro (Ca rfl rfl) (Gr (Au rfl rfl) (Ga rfl (Af (Ar (S7 21 3 4 1 14 15 16 rfl rfl rfl rfl rfl rfl rfl) (A9 rfl (fun c21=>?_) (fun c21=>?_))))))
      ·exact Ah (Ga rfl (Af (Az (Ao (Ao (Ak (Ak (Ao (Ak (A4 rfl rfl (I) Ax ⟨by rw [show checkS nd xs=6 from (hs.trans ((Di om (by rw [badL_six om];decide)).trans (badL_six om)))],rfl⟩))))))))))
      ·refine Ah (Gf fld146_2 rfl (Gl ty3 ?_))
       refine Gf fld146_3 rfl (Gl ty3 ?_)
       refine Gf fld146_4 rfl (Gl ty3 ?_)
       refine Gc0 (Al call251 rfl rfl (RightW_ok ((at_ xs (k:Int)).w) ((at_ xs (k:Int)).lb) ((at_ xs (k:Int)).sg))) ?_
       refine Gr (Dp rfl) (Ga rfl (Af (Ar (S7 39 3 4 1 14 15 16 rfl rfl rfl rfl rfl rfl rfl) (A9 rfl (fun c39=>?_) (fun c39=>?_)))))
       ·exact Ah (Ga rfl (Af (Az (Ao (Ao (Ak (Ak (Ao (Ak (A4 rfl rfl (I) Ax ⟨by rw [show checkS nd xs=1 from (by first|(unfold checkS;rw [if_pos om];done)|exact hs.trans ((Di om (by rw [badL_one om asm];decide)).trans (badL_one om asm)))],rfl⟩))))))))))
       ·refine Ah (Gf fld146_5 rfl (Gl ty3 ?_))
        refine Gr (Bb rfl rfl) (Gm rfl (Bk (d:=52) rfl (fun g52=>?_) (fun g52=>?_)))
        ·exact Gpo (Gpo (Gpo (Gr (As rfl rfl) (Ga rfl (Af (Ar (S7 48 3 4 1 14 15 16 rfl rfl rfl rfl rfl rfl rfl) (C0 rfl (Ah (Ga rfl (Af (Az (Ao (Ao (Ak (Ak (Ao (Ak (A4 rfl rfl (I) Ax ⟨by rw [show checkS nd xs=9 from (hs.trans ((Di om (by rw [badL_nine om (by first|assumption|exact Classical.not_not.1 asm|exact Classical.byContradiction fun h=>c47 (by rw [if_neg h];decide)) om];decide)).trans (badL_nine om (by first|assumption|exact Classical.not_not.1 asm|exact Classical.byContradiction fun h=>c47 (by rw [if_neg h];decide)) om)))],rfl⟩))))))))))))))))))
        ·refine Gro (Ac fld146_5 rfl) (Gro (Av ty3) ?_)
         refine Gro (B2 rfl rfl) (Gr (Au rfl rfl) (Ga rfl (Af (Ar (S7 48 3 4 1 14 15 16 rfl rfl rfl rfl rfl rfl rfl) (A9 rfl (fun c48=>?_) (fun c48=>?_))))))
         ·exact Ah (Ga rfl (Af (Az (Ao (Ao (Ak (Ak (Ao (Ak (A4 rfl rfl (I) Ax ⟨by rw [show checkS nd xs=9 from (hs.trans ((Di om (by rw [badL_nine om (by first|assumption|exact Classical.not_not.1 asm|exact Classical.byContradiction fun h=>c47 (by rw [if_neg h];decide)) om];decide)).trans (badL_nine om (by first|assumption|exact Classical.not_not.1 asm|exact Classical.byContradiction fun h=>c47 (by rw [if_neg h];decide)) om)))],rfl⟩))))))))))
         ·refine Ap (Bd mixed (Bl (blk b2 [I64 ((at_ xs (k:Int)).u),I64 ((at_ xs (k:Int)).v),I64 ((at_ xs (k:Int)).w),I64 ((at_ xs (k:Int)).lb),I64 ((at_ xs (k:Int)).sg),I64 ((at_ xs (k:Int)).tm)] 146::blk b1 [I64 (nd),va] 111::I) 14 (Dr 0 rfl (Ad rfl) (Dr 1 rfl (B2 rfl rfl) (Dr 2 rfl (Ad rfl) (Dl (d:=60) rfl (fun g60=>?_) (fun g60=>?_)))))))
          ·refine Dro 3 rfl (Ac fld111_1 rfl) (Dro 4 rfl (Av ty109) ?_)
           refine Dro 5 rfl (Ad rfl) (Dro 6 rfl (Rsu rfl rfl) (Dro 7 rfl (A0 (α:=Lk) (xs:=xs) Aq ty146 rfl rfl (Bi hl) om om) (Dro 8 rfl (Bu (α:=Lk) (xs:=xs) ty146 rfl (Bi hl) om om) (Dro 9 rfl (Bo (vs:=[_,_,_,_,_,_]) ty146) ?_))))
           refine Ds1 10 (Sc0 rfl (Al call255 rfl rfl (OrderL_ok (at_ xs ((k:Int) - 1)) (at_ xs (k:Int)))) ?_)
           refine Dro 11 rfl (Ca rfl rfl) (Dr 12 rfl (As rfl rfl) (Dr 13 rfl (A6 rfl) (Dz (Ai (Ar (S5 57 1 14 15 16 rfl rfl rfl rfl rfl) (A9 rfl (fun c57=>?_) (fun c57=>?_)))))))
           ·exact Ah (Ga rfl (Af (Az (Ao (Ao (Ak (Ak (Ao (Ak (A4 rfl rfl (I) Ax ⟨by rw [show checkS nd xs=5 from (hs.trans (scanL_order om (badL_zero om (by first|assumption|exact Classical.not_not.1 asm|exact Classical.byContradiction fun h=>c47 (by rw [if_neg h];decide)) om) om (by first|assumption|(intro h;have:=(Lk.cmp_lt _ _).2 h;omega))))],rfl⟩))))))))))
           ·exact A1 (Aj (Aj (Ai (A2 (Gr (Rad rfl rfl) (Gm rfl (Bh (B7 ((k+1)) ⟨om,(hs.trans (scanL_step om (badL_zero om (by first|assumption|exact Classical.not_not.1 asm|exact Classical.byContradiction fun h=>c47 (by rw [if_neg h];decide)) om) (fun h0=>by first|omega|exact (Lk.cmp_lt _ _).1 om|exact Classical.not_not.1 asm)))⟩))))))))
          ·exact Dpo 3 rfl (Dpo 4 rfl (Dpo 5 rfl (Dpo 6 rfl (Dpo 7 rfl (Dpo 8 rfl (Dpo 9 rfl (Dpo 10 rfl (Dpo 11 rfl (Dr 12 rfl (Au rfl rfl) (Dr 13 rfl (A6 rfl) (Dz (Ai (Ar (S5 57 1 14 15 16 rfl rfl rfl rfl rfl) (D0 rfl (A1 (Aj (Aj (Ai (A2 (Gr (Rad rfl rfl) (Gm rfl (Bh (B7 ((k+1)) ⟨om,(hs.trans (scanL_step om (badL_zero om (by first|assumption|exact Classical.not_not.1 asm|exact Classical.byContradiction fun h=>c47 (by rw [if_neg h];decide)) om) (fun h0=>by first|omega|exact (Lk.cmp_lt _ _).1 om|exact Classical.not_not.1 asm)))⟩)))))))))))))))))))))))
   ·exact Bs (Am (Am (A7 (Ai (Ah (Ga rfl (Af (Az (A4 rfl rfl (I) Ax ⟨by rw [show checkS nd xs=0 from (hs.trans (scanL_end om))],rfl⟩)))))))))
variable {κ:Ctx}{I:List Item}
theorem All1_ok(x:Lk) :
    CallS Tryz.prog κ 295 [.agg #[I64 (x.u),I64 (x.v),I64 (x.w),I64 (x.lb),I64 (x.sg),I64 (x.tm)]] I (fun r J=>r = .bool true∧I=J):=by
 refine Ce1 Tryz.func295 rfl rfl ?_
 exact Ah (Ge1 (Bc (cs:=[_,_,_,_,_,_]) rfl rfl rfl) fun b1=>Ga rfl (Af (Ah (Ga rfl (Af (Az (A4 rfl rfl (I) Ax ⟨rfl,rfl⟩)))))))
theorem Age1_ok{b c:Nat}{nw kd wd mo:Int}(hb:BlkRd κ I b [I64 nw] 3)(hc:BlkRd κ I c [I64 kd,I64 wd,I64 mo] 31)(x:Lk) :
    CallS Tryz.prog κ 297 [.agg #[I64 (x.u),I64 (x.v),I64 (x.w),I64 (x.lb),I64 (x.sg),I64 (x.tm)],.pointer (some ⟨b,0,none⟩),.pointer (some ⟨c,0,none⟩)] I (fun r J=>r = .bool (decide (IntKind.i64.wrap (nw - x.tm)<wd))∧I=J):=by
 refine Ce3 Tryz.func297 rfl rfl ?_
 refine Ah (Ge1 (Bc (cs:=[_,_,_,_,_,_]) rfl rfl rfl) fun b1=>Ga rfl (Af (Ah (Gr (Cp ty3 rfl (Cm hb Ax) rfl) (Gf fld146_5 rfl (Gl ty3 ?_))))))
 exact Gr (Runs.subw rfl rfl) (Gf fld31_1 rfl (Gr (Cp ty3 rfl (Cm hc Ax) rfl) (Gr (Bb rfl rfl) (Ga rfl (Af (Az (A4 rfl rfl (I) Ax ⟨rfl,rfl⟩)))))))
theorem Rule1_ok{nd kd wd mo nw:Int}{va:Value} :
    CallS Tryz.prog κ 294 [.agg #[I64 (nd),va],.agg #[I64 (kd),I64 (wd),I64 (mo)],I64 (nw)] I (fun r J=>r = .func (.func 295) #[] #[]∧I=J):=by
 refine Ce3 Tryz.func294 rfl rfl ?_
 exact Ah (Ge1 (Bc (cs:=[_,_]) rfl rfl rfl) fun b1=>Ge1 (Bc (cs:=[_,_,_]) rfl rfl rfl) fun b2=>Ga rfl (Af (Ah (Ga rfl (Af (Az (A4 rfl rfl (I) Ax ⟨rfl,rfl⟩)))))))
theorem Rule2_ok{nd kd wd mo nw:Int}{va:Value} :
    CallS Tryz.prog κ 296 [.agg #[I64 (nd),va],.agg #[I64 (kd),I64 (wd),I64 (mo)],I64 (nw)] I (fun r J=>∃b c,r = .func (.func 297) #[] #[.pointer (some ⟨b,0,none⟩),.pointer (some ⟨c,0,none⟩)]∧J=blk b [I64 nw] 3::blk c [I64 kd,I64 wd,I64 mo] 31::I):=by
 refine Ce3 Tryz.func296 rfl rfl ?_
 exact Ah (Ge1 (Bc (cs:=[_,_]) rfl rfl rfl) fun b1=>Ge1 (Bc (cs:=[_,_,_]) rfl rfl rfl) fun b2=>Ge1 (Bc (cs:=[_]) rfl rfl rfl) fun b3=>Ga rfl (Af (Ah (Gr (D2 rfl rfl) (Ga rfl (Af (Az (A4 rfl rfl (blk b3 [I64 (nw)] 3::blk b2 [I64 (kd),I64 (wd),I64 (mo)] 31::I) Ay ⟨b3,b2,rfl,rfl⟩))))))))
theorem Rules_ok  :
    CallS Tryz.prog κ 253 [] I (fun r J=>∃m,r = .map (some m)∧J=mp m [({key:=I64 (1),val:= .func (.func 294) #[] #[],born:=0}:MapEntry),({key:=I64 (2),val:= .func (.func 296) #[] #[],born:=1}:MapEntry),({key:=I64 (3),val:= .func (.func 298) #[] #[],born:=2}:MapEntry)] 3::I):=by
 refine Ce0 Tryz.func253 rfl rfl ?_
 refine Ah (Ga rfl (Af (Ah (Ge1 (Eff.makeMap rfl) fun mr1=>?_))))
 refine Ge0 (Cu Db Be rfl rfl rfl rfl rfl am) ?_
 refine Ge0 (Cu Db Be rfl rfl rfl rfl rfl am) ?_
 refine Ge0 (Cu Db Be rfl rfl rfl rfl rfl am) ?_
 exact Gm rfl (Ga rfl (Af (Az (A4 rfl rfl (mp mr1 [({key:=I64 (1),val:= .func (.func 294) #[] #[],born:=0}:MapEntry),({key:=I64 (2),val:= .func (.func 296) #[] #[],born:=1}:MapEntry),({key:=I64 (3),val:= .func (.func 298) #[] #[],born:=2}:MapEntry)] 3::I) Ay ⟨mr1,rfl,rfl⟩))))
variable {κ:Ctx}{I:List Item}
def Lk.lcmp(a c:Lk):Int:=orL [cmpI c.tm a.tm,Lk.cmp c a]
def Lk.late(a c:Lk):Prop:=c.tm<a.tm∨(a.tm=c.tm∧Lk.lt c a)
instance:DecidableRel Lk.late:=fun a c=>by unfold Lk.late;infer_instance
theorem Lk.lcmp_lt(a c:Lk):Lk.lcmp a c<0↔Lk.late a c:=by
 unfold Lk.lcmp Lk.late
 rw [←Lk.cmp_lt]
 simp only [orL,cmpI]
 generalize Lk.cmp c a=z
 (repeat' split)<;>omega
def SortedK(xs ys:List Lk):Prop:=ys.Perm xs∧ys.Pairwise fun a b=>¬Lk.late b a
open Go.Proofs Go.Shelf Go.Sort in
theorem swo_lk:SWO (ltOf Lk.lcmp) where
 irrefl x:=decide_eq_false fun h=>by rw [Lk.lcmp_lt] at h;unfold Lk.late Lk.lt Pt.lt Lk.p at h;simp only at h;omega
 trans x y z h1 h2:=decide_eq_true (by
  have a:=of_decide_eq_true h1
  have b:=of_decide_eq_true h2
  rw [Lk.lcmp_lt] at a b ⊢
  unfold Lk.late Lk.lt Pt.lt Lk.p at a b ⊢
  simp only at a b ⊢
  omega)
 ntrans x y z h1 h2:=decide_eq_false fun h=>by
  have a:=of_decide_eq_false h1
  have b:=of_decide_eq_false h2
  rw [Lk.lcmp_lt] at a b h
  unfold Lk.late Lk.lt Pt.lt Lk.p at a b h
  simp only at a b h
  omega
theorem CloneL{a:Option Addr}{c:Nat}{xs:List Lk}(hl:Sl κ I (.slice a xs.length c) xs)(hb:xs.length≤1000000000) :
    CallS Tryz.prog κ 216 [.slice a xs.length c] I (fun r J=>∃a' c',r = .slice a' xs.length c'∧J=vc 146 (.slice a' xs.length c') xs::I):=by
 refine B4 (p:=a.isNone=true→xs=[]∧c=0) (fun w hs hn=>hl.isNone w hs hn) fun hnone=>?_
 refine Ce1 Tryz.func216 rfl rfl ?_
 refine Ah (Ga rfl (Af (Ap (Ah (Gm rfl (Gr (Runs.eqnil Aq rfl rfl) (Af (W.cond rfl (fun c4=>?_) (fun c4=>?_)))))))))
 ·refine Ah (Ga rfl (Af (Az (Ak ?_))))
  obtain ⟨hx0,_⟩:=hnone c4
  subst hx0
  exact A4 rfl rfl (vc 146 (.slice none ([]:List Lk).length 0) ([]:List Lk)::I) (Bx _ _) ⟨none,0,rfl,rfl⟩
 ·refine A1 (Ai (Ah (Ge1 (Eff.bs0 (α:=Lk) Aq ty146 rfl) fun ad1=>?_)))
  refine Gm rfl (Ge2 (Ch (α:=Lk) (e:=146) (xs:=([]:List Lk)) (ys:=xs) Aq ty146 rfl rfl rfl mm (Bi hl) (by simp only [List.length_nil];omega) dc rfl (fun _ _=>am)) fun ad2 cp3=>?_)
  exact Ga rfl (Af (Az (A4 rfl rfl (vc 146 (.slice ad2 xs.length cp3) xs::I) Ay ⟨ad2,cp3,rfl,rfl⟩)))
theorem LastCmp_ok(a c:Lk) :
    CallS Tryz.prog κ 322 [.agg #[I64 (a.u),I64 (a.v),I64 (a.w),I64 (a.lb),I64 (a.sg),I64 (a.tm)],.agg #[I64 (c.u),I64 (c.v),I64 (c.w),I64 (c.lb),I64 (c.sg),I64 (c.tm)]] I (fun r J=>r=I64 (Lk.lcmp a c)∧I=J):=by
 refine Ce2 Tryz.func322 rfl rfl ?_
 refine Ah (Ge1 (Bc (cs:=[_,_,_,_,_,_]) rfl rfl rfl) fun b1=>Ge1 (Bc (cs:=[_,_,_,_,_,_]) rfl rfl rfl) fun b2=>Ga rfl (Af (Ap (Bd mixed (Bl (blk b2 [I64 (c.u),I64 (c.v),I64 (c.w),I64 (c.lb),I64 (c.sg),I64 (c.tm)] 146::blk b1 [I64 (a.u),I64 (a.v),I64 (a.w),I64 (a.lb),I64 (a.sg),I64 (a.tm)] 146::I) 10 (Dr 0 rfl (Ac fld146_5 rfl) (Dr 1 rfl (Av ty3) ?_)))))))
 refine Dr 2 rfl (Ac fld146_5 rfl) (Dr 3 rfl (Av ty3) ?_)
 refine Dr 5 rfl (Bo (vs:=[_,_,_,_,_,_]) ty146) ?_
 refine Dr 6 rfl (Bo (vs:=[_,_,_,_,_,_]) ty146) ?_
 refine Ds1 4 (Sc0 rfl (Al call225 rfl rfl (Compare_ok c.tm a.tm)) ?_)
 refine Ds1 7 (Sc0 rfl (Al call255 rfl rfl (OrderL_ok c a)) ?_)
 refine Ds1 8 (Se1 rfl (B8 (α:=Int) (cs:=[_,_]) (xs:=[cmpI c.tm a.tm,Lk.cmp c a]) Aa ty3 rfl rfl dc dc rfl rfl rfl rfl) fun ad3=>?_)
 refine Ds1 9 (Sc0 rfl (Al call224 rfl rfl (Or_ok Bf)) ?_)
 refine Cy kr ?_
 refine A.read (i:=10) kr rfl (B9 rfl) rfl rfl (A6 rfl) ?_
 refine Cz kr ?_
 exact Ai (Ar (S1 4 rfl) (Az (A4 rfl rfl (I) Ax ⟨rfl,rfl⟩)))
open Go.Proofs Go.Shelf Go.Sort in
theorem SortK_ok{κ:Ctx}{I:List Item}{a:Option Addr}{c:Nat}{xs:List Lk}(hsz:xs.length<1000000000) :
  CallS Tryz.prog κ 321 [.slice a xs.length c,.func (.func 322) #[] #[]] (vc 146 (.slice a xs.length c) xs::I) fun r J=>∃ys:List Lk,(r = .tuple #[]∧SortedK xs ys∧ys.length=xs.length)∧J=[]++vc 146 (.slice a xs.length c) ys::I:=
 (sort_any (α:=Lk) (ρ:=Tryz.sort321_ren) Tryz.sort321 Tryz.isAgg146 Tryz.sizeOf146 Lk.lcmp swo_lk 322 #[] (enters_of Tryz.func322 (by kernel_rfl) rfl) (fun x y W=>lays_of (LastCmp_ok x y)) om).mono fun r J ⟨ys,⟨h1,h2,h3⟩,h4⟩=>
  ⟨ys,⟨h1,⟨h2,h3.imp fun {a b} h=>by rw [←Lk.lcmp_lt];exact of_decide_eq_false h⟩,h2.length_eq⟩,by rw [h4,h2.length_eq]⟩
theorem SortK_at{F:Item→List Item}{a:Option Addr}{n c:Nat}{xs:List Lk}(hat:AtF I (vc 146 (.slice a n c) xs) F)(hn:xs.length=n)(hsz:xs.length<1000000000) :
  CallS Tryz.prog κ 321 [.slice a n c,.func (.func 322) #[] #[]] I fun r J=>∃ys:List Lk,(r = .tuple #[]∧SortedK xs ys∧ys.length=n)∧J=[]++F (vc 146 (.slice a n c) ys):=
 Dx (Z:=fun _=>[]) (X:=fun ys:List Lk=>vc 146 (.slice a n c) ys) (Post:=fun r ys=>r = .tuple #[]∧SortedK xs ys∧ys.length=n) hat fun J _ _=>by subst hn;exact SortK_ok hsz
theorem Last_ok{nd mo:Int}{a0:Option Addr}{c0:Nat}{xs:List Lk}(hl:Sl κ I (.slice a0 xs.length c0) xs)(h0:0≤mo)(hsz:xs.length≤1000000) :
    CallS Tryz.prog κ 299 [.agg #[I64 (nd),.slice a0 xs.length c0],I64 (mo)] I (fun r J=>∃(a:Option Addr) (c:Nat) (ys:List Lk) (m:Nat),r = .slice a (List.take m ys).length c∧(SortedK xs ys∧ys.length=xs.length∧(m:Int)≤mo∧m≤xs.length∧((m:Int)=mo∨m=xs.length))∧J=vc 146 (.slice a xs.length c) ys::I):=by
 refine Ce2 Tryz.func299 rfl rfl ?_
 refine Ah (Ge1 (Bc (cs:=[_,_]) rfl rfl rfl) fun b1=>Ga rfl (Af (Ah (Gf fld111_1 rfl (Gl ty109 ?_)))))
 refine G.e (Al call216 rfl rfl (CloneL (xs:=xs) (Bi hl) om)) ?_
 rintro _ _ ⟨_,_,⟨ad2,cp3,rfl,rfl⟩,rfl,rfl⟩
 refine Ga rfl (Af (Ah (Gm rfl (G.e (Al call321 rfl rfl (SortK_at (by repeat (first|exact AtF.head _ _|apply AtF.tail)) rfl om)) ?_))))
 rintro _ _ ⟨_,_,⟨ys4,⟨rfl,hsys4,hlys4⟩,rfl⟩,rfl,rfl⟩
 show G Tryz.prog κ _ _ _ _ ([(10,.tuple #[]),(9,.slice ad2 xs.length cp3),(5,.slice ad2 xs.length cp3),(8,.slice ad2 xs.length cp3),(7,.slice a0 xs.length c0),(6,.pointer (some ⟨b1,1,none⟩)),(4,.slice none 0 0),(2,.pointer (some ⟨b1,0,none⟩)),(0,.agg #[I64 (nd),.slice a0 xs.length c0]),(1,I64 (mo))]:Env) (vc 146 (.slice ad2 xs.length cp3) (ys4)::blk b1 [I64 (nd),.slice a0 xs.length c0] 111::I)
 refine Af (Ah (Gm rfl (Gm rfl (Gm rfl (Gr (Bq Aq rfl) (Gr (Runs.min rfl rfl) (Gr (Runs.hi (α:=Lk) (xs:=ys4) (h:=(if ((xs.length:Nat):Int)<mo then ((xs.length:Nat):Int) else mo).toNat) Aq ty146 rfl rfl om Bf (by split<;>omega)) (Ga rfl (Af (Ar (S1 4 rfl) (Az ?_)))))))))))
 have hmn:(((((if ((xs.length:Nat):Int)<mo then ((xs.length:Nat):Int) else mo).toNat)):Nat):Int)≤mo∧(((if ((xs.length:Nat):Int)<mo then ((xs.length:Nat):Int) else mo).toNat))≤xs.length∧((((((if ((xs.length:Nat):Int)<mo then ((xs.length:Nat):Int) else mo).toNat)):Nat):Int)=mo∨(((if ((xs.length:Nat):Int)<mo then ((xs.length:Nat):Int) else mo).toNat))=xs.length):=by split<;>omega
 exact A4 rfl rfl (vc 146 (.slice ad2 xs.length cp3) (ys4)::I) Ay ⟨ad2,cp3,ys4,((if ((xs.length:Nat):Int)<mo then ((xs.length:Nat):Int) else mo).toNat),rfl,⟨hsys4,hlys4,hmn⟩,rfl⟩
theorem IndexL_ok{v:Value}{xs:List Lk}(hl:Sl κ I v xs)(x:Lk) :
    CallS Tryz.prog κ 323 [v,.agg #[I64 (x.u),I64 (x.v),I64 (x.w),I64 (x.lb),I64 (x.sg),I64 (x.tm)]] I (fun r J=>∃y:Int,r=I64 y∧(0≤y↔x∈xs)∧I=J):=by
 refine B4 hl.le fun hmax=>?_
 refine Ce2 Tryz.func323 rfl rfl ?_
 refine Ah (Ge1 (Bc (cs:=[_,_,_,_,_,_]) rfl rfl rfl) fun b1=>Ga rfl (Af (Ap (Ah (Gm rfl (Gr (Bw (α:=Lk) (xs:=xs) Aq rfl (Bi hl)) (Gm rfl (Af (A3 (Bv (σ:=Nat) (fun s=>([(0,v),(3,.pointer (some ⟨b1,0,none⟩)),(7,I64 (((xs.length:Nat):Int))),(8,I64 (((s:Nat):Int)))]:Env)) (fun s=>blk b1 [I64 (x.u),I64 (x.v),I64 (x.w),I64 (x.lb),I64 (x.sg),I64 (x.tm)] 146::I) (fun s=>(s≤xs.length)∧(∀j,j<s→at_ xs (j:Int)≠x)) (fun s=>xs.length - s) (0) (show ((0:Nat)≤xs.length)∧(∀j,j<(0:Nat)→at_ xs (j:Int)≠x) from ⟨om,all_zero⟩) (Ab rfl (Ab rfl (Ab rfl (Ab Cc Bj)))) (show Fit κ _ (blk b1 [I64 (x.u),I64 (x.v),I64 (x.w),I64 (x.lb),I64 (x.sg),I64 (x.tm)] 146::I) from Ay) ?_))))))))))
 rintro k hp
 obtain ⟨hk,hn⟩:=hp
 refine Ah (Gr (Bb rfl rfl) (Af (Ap (A9 rfl (fun c9=>?_) (fun c9=>?_)))))
 ·refine A1 (Ai (Ap (A3 (Ah (Gm rfl (Ga rfl (Af (Ap (Bd mixed (Bl (blk b1 [I64 (x.u),I64 (x.v),I64 (x.w),I64 (x.lb),I64 (x.sg),I64 (x.tm)] 146::I) 6 (Dr 0 rfl (Bo (vs:=[_,_,_,_,_,_]) ty146) ?_)))))))))))
  refine Dr 1 rfl (Ad rfl) (Dr 2 rfl (Ad rfl) (Dr 3 rfl (A0 (α:=Lk) (xs:=xs) Aq ty146 rfl rfl (Bi hl) om om) (Dr 4 rfl (Bu (α:=Lk) (xs:=xs) ty146 rfl (Bi hl) om om) (Dr 5 rfl (Runs.eqlT (α:=Lk) (a:=x) (b:=(at_ xs (k:Int))) eqt146 rfl rfl) (Dz (Ai (A9 rfl (fun c16=>?_) (fun c16=>?_))))))))
  ·refine Ah (Gm rfl (Ga rfl (Af (Ar (S1 4 rfl) (Az (Ao (Ak (Ak (Ao (Ak ?_))))))))))
   have hm:x∈xs:=by rw [show x=at_ xs (k:Int) from c16];exact Ce om om
   exact A4 rfl rfl (I) Ax ⟨_,rfl,⟨fun _=>hm,fun _=>by omega⟩,rfl⟩
  ·exact A1 (Aj (Ai (A2 (Gr (Rad rfl rfl) (Gm rfl (Bh (B7 ((k+1)) ⟨om,(all_succ hn (fun e=>c16 e.symm))⟩)))))))
 ·refine Bs (Am (Am (A7 (Ai (Ah (Ga rfl (Af (Az ?_))))))))
  have hm:x∉xs:=not_mem_at hn om
  exact A4 rfl rfl (I) Ax ⟨_,rfl,⟨fun h=>absurd h dc,fun h=>absurd h hm⟩,rfl⟩
theorem ContainsL_ok{v:Value}{xs:List Lk}(hl:Sl κ I v xs)(x:Lk) :
    CallS Tryz.prog κ 301 [v,.agg #[I64 (x.u),I64 (x.v),I64 (x.w),I64 (x.lb),I64 (x.sg),I64 (x.tm)]] I (fun r J=>r = .bool (decide (x∈xs))∧I=J):=by
 refine Ce2 Tryz.func301 rfl rfl ?_
 refine Ah (Ge1 (Bc (cs:=[_,_,_,_,_,_]) rfl rfl rfl) fun b1=>Ga rfl (Af (Ah (Gm rfl (Gl6 ty146 ?_)))))
 refine G.e (Al call323 rfl rfl (IndexL_ok (Bi hl) x)) ?_
 rintro _ _ ⟨_,_,⟨y2,rfl,hy2,rfl⟩,rfl,rfl⟩
 exact Gr (Ca rfl rfl) (Ga rfl (Af (Az (A4 rfl rfl (I) Ax ⟨by rw [decide_eq_decide.2 asm],rfl⟩))))
theorem Last1_ok{b:Nat}{v:Value}{zs:List Lk}(hb:BlkRd κ I b [v] 109)(hz:Sl κ I v zs)(x:Lk) :
    CallS Tryz.prog κ 300 [.agg #[I64 (x.u),I64 (x.v),I64 (x.w),I64 (x.lb),I64 (x.sg),I64 (x.tm)],.pointer (some ⟨b,0,none⟩)] I (fun r J=>r = .bool (decide (x∈zs))∧I=J):=by
 refine Ce2 Tryz.func300 rfl rfl ?_
 refine Ah (Ge1 (Bc (cs:=[_,_,_,_,_,_]) rfl rfl rfl) fun b1=>Ga rfl (Af (Ah (Gr (Cp ty109 rfl (Cm hb Ax) rfl) (Gl6 ty146 ?_)))))
 refine Gc0 (Al call301 rfl rfl (ContainsL_ok (Bi hz) x)) ?_
 exact Ga rfl (Af (Az (A4 rfl rfl (I) Ax ⟨rfl,rfl⟩)))
theorem Rule3_ok{nd kd wd mo nw:Int}{a0:Option Addr}{c0:Nat}{xs:List Lk}(hl:Sl κ I (.slice a0 xs.length c0) xs)(h0:0≤mo)(hsz:xs.length≤1000000) :
    CallS Tryz.prog κ 298 [.agg #[I64 (nd),.slice a0 xs.length c0],.agg #[I64 (kd),I64 (wd),I64 (mo)],I64 (nw)] I (fun r J=>∃(b:Nat) (a:Option Addr) (c:Nat) (ys:List Lk) (m:Nat),r = .func (.func 300) #[] #[.pointer (some ⟨b,0,none⟩)]∧(SortedK xs ys∧ys.length=xs.length∧(m:Int)≤mo∧m≤xs.length∧((m:Int)=mo∨m=xs.length))∧J=blk b [.slice a (List.take m ys).length c] 109::vc 146 (.slice a xs.length c) ys::I):=by
 refine Ce3 Tryz.func298 rfl rfl ?_
 refine Ah (Ge1 (Bc (cs:=[_,_]) rfl rfl rfl) fun b1=>Ge1 (Bc (cs:=[_,_,_]) rfl rfl rfl) fun b2=>Ga rfl (Af (Ah (Gl2 ty111 ?_))))
 refine Gf fld31_2 rfl (Gl ty3 ?_)
 refine G.e (Al call299 rfl rfl (Last_ok (nd:=nd) (Bi hl) h0 om)) ?_
 rintro _ _ ⟨_,_,⟨ad3,cp4,ys5,mm6,rfl,hzys5,rfl⟩,rfl,rfl⟩
 refine Ge1 (A8 ty109 rfl) fun b7=>Ge0 (Cx (cs:=[_]) (vs:=[_]) (cs':=[_]) ty109) ?_
 exact Af (Ah (Gr (D2 rfl rfl) (Ga rfl (Af (Az (A4 rfl rfl (blk b7 [.slice ad3 (List.take mm6 ys5).length cp4] 109::vc 146 (.slice ad3 xs.length cp4) (ys5)::I) Ay ⟨b7,ad3,cp4,ys5,mm6,rfl,hzys5,rfl⟩))))))
end Go.Sl
/- Windows: what is present. The plain laws. No Go. No conditions. -/
namespace Go.Sl
theorem scan0{n:Int}:∀(xs:List Lk) (q:Lk),scanL (badL n) Lk.lt (some q) xs=0→(∀x∈xs,badL n x=0)∧(q::xs).Pairwise Lk.lt
 |[],q,_=>by simp
 |p::ps,q,h=>by
  simp only [scanL] at h
  by_cases hb:badL n p=0
  ·rw [if_neg (by simp [hb])] at h
   by_cases hl:Lk.lt q p
   ·rw [if_pos hl] at h
    obtain ⟨h1,h2⟩:=scan0 ps p h
    refine ⟨fun x hx=>?_,List.pairwise_cons.2 ⟨fun x hx=>?_,h2⟩⟩
    ·rcases List.mem_cons.1 hx with rfl|hx
     ·exact hb
     ·exact h1 x hx
    ·rcases List.mem_cons.1 hx with rfl|hx
     ·exact hl
     ·exact Pt.lin.tr _ _ _ hl ((List.pairwise_cons.1 h2).1 x hx)
   ·rw [if_neg hl] at h;cases h
  ·rw [if_pos hb] at h;exact absurd h hb
theorem checkS_ok{n:Int}{xs:List Lk}(h:checkS n xs=0):(0≤n∧n≤64)∧(∀x∈xs,badL n x=0)∧xs.Pairwise Lk.lt:=by
 unfold checkS at h
 by_cases hn:n<0∨64<n
 ·rw [if_pos hn] at h;cases h
 ·rw [if_neg hn] at h
  refine ⟨by omega,?_⟩
  cases xs with
  |nil=>exact ⟨(fun x hx=>by cases hx),List.Pairwise.nil⟩
  |cons p ps=>
   simp only [scanL] at h
   by_cases hb:badL n p=0
   ·rw [if_neg (by simp [hb])] at h
    obtain ⟨h1,h2⟩:=scan0 ps p h
    exact ⟨fun x hx=>by
     rcases List.mem_cons.1 hx with rfl|hx
     ·exact hb
     ·exact h1 x hx,h2⟩
   ·rw [if_pos hb] at h;exact absurd h hb
theorem badL_tm{n:Int}{l:Lk}(h:badL n l=0):0≤l.tm∧l.tm≤1048576:=by
 unfold badL at h
 split at h
 ·cases h
 ·split at h
  ·cases h
  ·split at h
   ·cases h
   ·omega
structure AskOk (nd:Int) (xs:List Lk) (kd wd mo nw:Int):Prop where
 kind:1≤kd∧kd≤3
 width:kd=2→1≤wd∧wd≤1048576
 most:kd=3→0≤mo∧mo≤2016
 nodes:0≤nd∧nd≤64
 asc:xs.Pairwise Lk.lt
 now:0≤nw∧nw≤1048576
 tm:∀x∈xs,0≤x.tm∧x.tm≤nw
theorem askE_ok{nd:Int}{xs:List Lk}{kd wd mo nw:Int}(h:askE nd xs kd wd mo nw=0):AskOk nd xs kd wd mo nw:=by
 unfold askE at h
 by_cases h1:checkW kd wd mo=0
 ·rw [if_neg (by simp [h1])] at h
  by_cases h2:checkS nd xs=0
  ·rw [if_neg (by simp [h2])] at h
   obtain ⟨h3,h4,h5⟩:=checkS_ok h2
   split at h
   ·cases h
   ·rename_i h6
    have hw:(1≤kd∧kd≤3)∧(kd=2→1≤wd∧wd≤1048576)∧(kd=3→0≤mo∧mo≤2016):=by
     unfold checkW at h1
     split at h1
     ·cases h1
     ·split at h1
      ·cases h1
      ·omega
    refine ⟨hw.1,hw.2.1,hw.2.2,h3,h5,by omega,fun x hx=>?_⟩
    have h7:=badL_tm (h4 x hx)
    refine ⟨h7.1,?_⟩
    by_cases h8:nw<x.tm
    ·exact absurd (.inr (.inr (List.any_eq_true.2 ⟨x,hx,decide_eq_true h8⟩))) h6
    ·omega
  ·rw [if_pos h2] at h;exact absurd h h2
 ·rw [if_pos h1] at h;exact absurd h h1
def rankL(xs:List Lk)(x:Lk):Nat:=(xs.filter fun y=>decide (Lk.late y x)).length
def inW(kd wd mo nw:Int)(xs:List Lk)(x:Lk):Bool:=if kd=2 then decide (nw - x.tm<wd) else if kd=3 then decide ((rankL xs x:Int)<mo) else true
theorem late_irr(x:Lk):¬Lk.late x x:=by unfold Lk.late Lk.lt Pt.lt;omega
theorem late_asymm{x y:Lk}(h:Lk.late x y):¬Lk.late y x:=by unfold Lk.late Lk.lt Pt.lt at *; omega
theorem rank_at:∀(ys:List Lk) (i:Nat) (hi:i<ys.length),ys.Pairwise Lk.late→rankL ys ys[i]=i
 |[],i,hi,_=>absurd hi (by simp)
 |y::ys,0,hi,hp=>by
  obtain ⟨h1,h2⟩:=List.pairwise_cons.1 hp
  unfold rankL
  rw [List.filter_eq_nil_iff.2 fun z hz=>?_]
  ·rfl
  ·simp only [List.getElem_cons_zero,decide_eq_true_eq]
   rcases List.mem_cons.1 hz with rfl|hz
   ·exact late_irr _
   ·exact late_asymm (h1 z hz)
 |y::ys,i+1,hi,hp=>by
  obtain ⟨h1,h2⟩:=List.pairwise_cons.1 hp
  have hi':i<ys.length:=by simpa using hi
  have ih:=rank_at ys i hi' h2
  unfold rankL at ih ⊢
  rw [List.getElem_cons_succ,List.filter_cons,if_pos (decide_eq_true (h1 _ (List.getElem_mem hi'))),List.length_cons,ih]
theorem sortedK_late{xs ys:List Lk}(h:SortedK xs ys)(ha:xs.Pairwise Lk.lt):ys.Pairwise Lk.late:=by
 have h1:xs.Pairwise fun a b=>Lk.late a b∨Lk.late b a:=ha.imp fun {a b} hab=>by unfold Lk.late Lk.lt Pt.lt at *; omega
 have h2:ys.Pairwise fun a b=>Lk.late a b∨Lk.late b a:=(h.1.pairwise_iff fun {x y} hxy=>hxy.symm).2 h1
 exact (h2.and h.2).imp fun {a b} hab=>hab.1.resolve_right hab.2
theorem take_rank{xs ys:List Lk}(h:SortedK xs ys)(ha:xs.Pairwise Lk.lt){x:Lk}(hx:x∈xs)(m:Nat):x∈ys.take m↔rankL xs x<m:=by
 have hp:=sortedK_late h ha
 have hr:∀z,rankL xs z=rankL ys z:=fun z=>by unfold rankL;exact ((h.1.filter _).length_eq).symm
 constructor
 ·intro hm
  obtain ⟨j,hj,he⟩:=List.mem_take_iff_getElem.1 hm
  rw [hr,←he,rank_at ys j om hp];omega
 ·intro hm
  obtain ⟨j,hj,he⟩:=List.getElem_of_mem (h.1.mem_iff.2 hx)
  rw [hr,←he,rank_at ys j hj hp] at hm
  exact List.mem_take_iff_getElem.2 ⟨j,by omega,he⟩
theorem inW_all{kd wd mo nw:Int}{xs:List Lk}(hk:kd=1):(xs.filter fun _=>true)=xs.filter (inW kd wd mo nw xs):=
 List.filter_congr fun x hx=>by unfold inW;rw [if_neg om,if_neg om]
theorem inW_age{nd kd wd mo nw:Int}{xs:List Lk}(h:AskOk nd xs kd wd mo nw)(hk:kd=2):(xs.filter fun x=>decide (IntKind.i64.wrap (nw - x.tm)<wd))=xs.filter (inW kd wd mo nw xs):=
 List.filter_congr fun x hx=>by
  have h1:=h.tm x hx
  have h2:=h.now
  unfold inW;rw [if_pos hk,InR.wrap (by unfold InR;omega)]
theorem inW_last{nd kd wd mo nw:Int}{xs ys:List Lk}{m:Nat}(h:AskOk nd xs kd wd mo nw)(hk:kd=3)(hs:SortedK xs ys∧ys.length=xs.length∧(m:Int)≤mo∧m≤xs.length∧((m:Int)=mo∨m=xs.length)) :
  (xs.filter fun x=>decide (x∈ys.take m))=xs.filter (inW kd wd mo nw xs):=
 List.filter_congr fun x hx=>by
  unfold inW;rw [if_neg om,if_pos hk,decide_eq_decide,take_rank hs.1 h.asc hx]
  have hlt:rankL xs x<xs.length:=by
   have h1:=List.length_filter_le (fun y=>decide (Lk.late y x)) xs
   obtain ⟨j,hj,he⟩:=List.getElem_of_mem (hs.1.1.mem_iff.2 hx)
   have h2:rankL xs x=j:=by
    have:rankL xs x=rankL ys x:=by unfold rankL;exact ((hs.1.1.filter _).length_eq).symm
    rw [this,←he,rank_at ys j hj (sortedK_late hs.1 h.asc)]
   omega
  omega
end Go.Sl
namespace Go.Sl
open Go.Proofs
set_option maxRecDepth 4000
variable {κ:Ctx}{I:List Item}
def cutEv(nw:Int)(l:Lk):Ev:=⟨2,nw,l.u,l.v,0,0,0⟩
theorem gone_yes{P:Lk→Bool}{f:Lk→Ev}{xs:List Lk}{k:Nat}(hk:k<xs.length)(h:P (at_ xs (k:Int))=false):((xs.take (k+1)).filter fun x=> !P x).map f=((xs.take k).filter fun x=> !P x).map f++[f (at_ xs (k:Int))]:=by
 rw [C7 xs k hk,List.filter_append,List.map_append];simp [h]
theorem gone_no{P:Lk→Bool}{f:Lk→Ev}{xs:List Lk}{k:Nat}(hk:k<xs.length)(h:P (at_ xs (k:Int))=true):((xs.take (k+1)).filter fun x=> !P x).map f=((xs.take k).filter fun x=> !P x).map f:=by
 rw [C7 xs k hk,List.filter_append,List.map_append];simp [h]
theorem filt_not{P R:Lk→Bool}{xs:List Lk}(h:xs.filter P=xs.filter R):(xs.filter fun x=> !P x)=xs.filter fun x=> !R x:=
 List.filter_congr fun x hx=>by
  have h1:x∈xs.filter P↔x∈xs.filter R:=by rw [h]
  rw [List.mem_filter,List.mem_filter] at h1
  simp only [hx,true_and] at h1
  cases hp:P x<;>cases hr:R x<;>simp_all
def goneL(kd wd mo nw:Int)(xs:List Lk):List Ev:=(xs.filter fun x=> !inW kd wd mo nw xs x).map (cutEv nw)
theorem Gone_ok(l:Lk)(nw:Int) :
    CallS Tryz.prog κ 254 [.agg #[I64 (l.u),I64 (l.v),I64 (l.w),I64 (l.lb),I64 (l.sg),I64 (l.tm)],I64 (nw)] I (fun r J=>r = .agg #[I64 2,I64 nw,I64 l.u,I64 l.v,I64 0,I64 0,I64 0]∧I=J):=by
 refine Ce2 Tryz.func254 rfl rfl ?_
 refine Ah (Ge1 (Bc (cs:=[_,_,_,_,_,_]) rfl rfl rfl) fun b1=>Ge1 (A8 ty108 rfl) fun b2=>Af (Ah (Gm rfl (Gf fld146_0 rfl (Gl ty3 ?_)))))
 refine Gf fld146_1 rfl (Gl ty3 ?_)
 refine Gr (Bg (cells:=[_,_,_,_,_,_,_]) ty108 De pl108 rfl rfl) (Ge0 (Es7_7 ty108) ?_)
 exact Af (Az (Dt rfl ty108 rfl mm rfl (I) Ax ⟨rfl,rfl⟩))
theorem Gone1_ok{nd wd mo nw:Int}{a0:Option Addr}{c0:Nat}{xs:List Lk}(hl:Sl κ I (.slice a0 xs.length c0) xs)(hsz:xs.length≤1000000)(hA:askE nd xs 1 wd mo nw=0) :
    CallS Tryz.prog κ 213 [.agg #[I64 (nd),.slice a0 xs.length c0],.agg #[I64 (1),I64 (wd),I64 (mo)],I64 (nw)] I (fun r J=>∃a c,r = .slice a (goneL 1 wd mo nw xs).length c∧J=vc 108 (.slice a (goneL 1 wd mo nw xs).length c) (goneL 1 wd mo nw xs)::I):=by
 refine Ce3 Tryz.func213 rfl rfl ?_
 refine Ah (Ge1 (Bc (cs:=[_,_]) rfl rfl rfl) fun b1=>Ge1 (Bc (cs:=[_,_,_]) rfl rfl rfl) fun b2=>Ga rfl (Af (Ap (Bd mixed (Bl (blk b2 [I64 (1),I64 (wd),I64 (mo)] 31::blk b1 [I64 (nd),.slice a0 xs.length c0] 111::I) 9 (Dr 1 rfl (Ac fld31_0 rfl) (Dr 2 rfl (Av ty3) ?_)))))))
 refine Dr 4 rfl (Bo (vs:=[_,_]) ty111) ?_
 refine Dr 5 rfl (Bo (vs:=[_,_,_]) ty31) ?_
 refine Dr 6 rfl (Ad rfl) (Ds1 0 (Se rfl (Al call253 rfl rfl Rules_ok) ?_))
 rintro _ _ ⟨_,_,⟨mr3,rfl,rfl⟩,rfl,rfl⟩
 refine ⟨Ay,?_⟩
 refine Ds1 3 (Sr rfl (Runs.lookupK (i:=0) Db Be rfl rfl rfl mm rfl) Ay ?_)
 refine Ds1 7 (Se rfl (Cl call294 rfl rfl rfl Rule1_ok) ?_)
 rintro _ _ ⟨_,_,⟨rfl,rfl⟩,rfl,rfl⟩
 refine ⟨Ay,?_⟩
 refine Dr 8 rfl (A6 rfl) (Dz (Ai (Ar (S3 7 3 2 rfl rfl rfl) (Ah (Ga rfl (Af (Ap (Ah (Gf fld111_1 rfl (Gl ty109 ?_))))))))))
 refine Gr (Bq Aq rfl) (Gm rfl (Af (A3 (Bv (σ:=Nat×(Option Addr)×Nat×(List Ev)) (fun s=>([(2,I64 (nw)),(7,.func (.func 295) #[] #[]),(8,.slice s.2.1 s.2.2.2.length s.2.2.1),(20,.slice a0 xs.length c0),(21,I64 (((xs.length:Nat):Int))),(22,I64 (((s.1:Nat):Int)))]:Env)) (fun s=>vc 108 (.slice s.2.1 s.2.2.2.length s.2.2.1) (s.2.2.2)::mp mr3 [({key:=I64 (1),val:= .func (.func 294) #[] #[],born:=0}:MapEntry),({key:=I64 (2),val:= .func (.func 296) #[] #[],born:=1}:MapEntry),({key:=I64 (3),val:= .func (.func 298) #[] #[],born:=2}:MapEntry)] 3::blk b2 [I64 (1),I64 (wd),I64 (mo)] 31::blk b1 [I64 (nd),.slice a0 xs.length c0] 111::I) (fun s=>(s.1≤xs.length)∧(s.2.2.2=((xs.take s.1).filter fun x=> !(fun _:Lk=>true) x).map (cutEv nw))) (fun s=>xs.length - s.1) (0,none,0,[]) (show ((0:Nat)≤xs.length)∧(([]:List Ev)=((xs.take (0:Nat)).filter fun x=> !(fun _:Lk=>true) x).map (cutEv nw)) from ⟨om,rfl⟩) (Ab rfl (Ab rfl (Ab (C1 rfl (by first|rfl|simp)) (Ab rfl (Ab rfl (Ab Cc Bj)))))) (show Fit κ _ (vc 108 (.slice (none) ([]).length (0)) (([]))::mp mr3 [({key:=I64 (1),val:= .func (.func 294) #[] #[],born:=0}:MapEntry),({key:=I64 (2),val:= .func (.func 296) #[] #[],born:=1}:MapEntry),({key:=I64 (3),val:= .func (.func 298) #[] #[],born:=2}:MapEntry)] 3::blk b2 [I64 (1),I64 (wd),I64 (mo)] 31::blk b1 [I64 (nd),.slice a0 xs.length c0] 111::I) from (Bx _ _)) ?_))))
 rintro ⟨k,a,c,out⟩ hp
 dsimp only at hp ⊢
 obtain ⟨hk,ho⟩:=hp
 have hol:out.length≤xs.length:=by rw [ho,List.length_map];refine Nat.le_trans (List.length_filter_le _ _) ?_;simp only [List.length_take];omega
 refine Ah (Gr (Bb rfl rfl) (Af (Ap (A9 rfl (fun c23=>?_) (fun c23=>?_)))))
 ·refine A1 (Ai (Ap (A3 (Ah (Gr (A0 (α:=Lk) (xs:=xs) Aq ty146 rfl rfl (Bi hl) om om) (Gr (Bu (α:=Lk) (xs:=xs) ty146 rfl (Bi hl) om om) (Ge1 (A8 ty146 rfl) fun b4=>Ge0 (D5 ty146) ?_)))))))
  refine Af (Ah (Gm rfl (Gl6 ty146 ?_)))
  refine Gc0 (Cl call295 rfl rfl rfl (All1_ok (at_ xs (k:Int)))) ?_
  exact Gr (Cn rfl) (Af (Ar (S8 29 10 2 7 8 20 21 22 rfl rfl rfl rfl rfl rfl rfl rfl) (D0 rfl (A1 (Aj (Ai (A2 (Gr (Rad rfl rfl) (Gm rfl (Bh (B7 ((k+1),(a),(c),(out)) (by dsimp only;exact ⟨om,(by first|(rw [gone_yes (P:=(fun _:Lk=>true)) om (decide_eq_false c29),←ho];done)|(rw [gone_yes (P:=(fun _:Lk=>true)) om (decide_eq_false c29),←ho];rfl)|(rw [gone_no (P:=(fun _:Lk=>true)) om (decide_eq_true (Classical.not_not.1 c29)),←ho])|(rw [gone_no (P:=(fun _:Lk=>true)) om rfl,←ho]))⟩))))))))))))
 ·refine Bs (Am (Am (A7 (Ai (Ah (Gm rfl (Ga rfl (Af (Az ?_)))))))))
  have hE:out=(goneL 1 wd mo nw xs):=by rw [ho,show List.take k xs=xs from List.take_of_length_le om];unfold goneL;rw [filt_not (P:=(fun _:Lk=>true)) (inW_all rfl)]
  subst hE
  exact A4 rfl rfl (vc 108 (.slice a (goneL 1 wd mo nw xs).length c) (goneL 1 wd mo nw xs)::I) Ay ⟨a,c,rfl,rfl⟩
theorem Gone2_ok{nd wd mo nw:Int}{a0:Option Addr}{c0:Nat}{xs:List Lk}(hl:Sl κ I (.slice a0 xs.length c0) xs)(hsz:xs.length≤1000000)(hA:askE nd xs 2 wd mo nw=0) :
    CallS Tryz.prog κ 213 [.agg #[I64 (nd),.slice a0 xs.length c0],.agg #[I64 (2),I64 (wd),I64 (mo)],I64 (nw)] I (fun r J=>∃a c,r = .slice a (goneL 2 wd mo nw xs).length c∧J=vc 108 (.slice a (goneL 2 wd mo nw xs).length c) (goneL 2 wd mo nw xs)::I):=by
 refine Ce3 Tryz.func213 rfl rfl ?_
 refine Ah (Ge1 (Bc (cs:=[_,_]) rfl rfl rfl) fun b1=>Ge1 (Bc (cs:=[_,_,_]) rfl rfl rfl) fun b2=>Ga rfl (Af (Ap (Bd mixed (Bl (blk b2 [I64 (2),I64 (wd),I64 (mo)] 31::blk b1 [I64 (nd),.slice a0 xs.length c0] 111::I) 9 (Dr 1 rfl (Ac fld31_0 rfl) (Dr 2 rfl (Av ty3) ?_)))))))
 refine Dr 4 rfl (Bo (vs:=[_,_]) ty111) ?_
 refine Dr 5 rfl (Bo (vs:=[_,_,_]) ty31) ?_
 refine Dr 6 rfl (Ad rfl) (Ds1 0 (Se rfl (Al call253 rfl rfl Rules_ok) ?_))
 rintro _ _ ⟨_,_,⟨mr3,rfl,rfl⟩,rfl,rfl⟩
 refine ⟨Ay,?_⟩
 refine Ds1 3 (Sr rfl (Runs.lookupK (i:=1) Db Be rfl rfl rfl mm rfl) Ay ?_)
 refine Ds1 7 (Sc2 rfl (Cl call296 rfl rfl rfl Rule2_ok) fun b4 b5=>?_)
 refine Dr 8 rfl (A6 rfl) (Dz (Ai (Ar (S3 7 3 2 rfl rfl rfl) (Ah (Ga rfl (Af (Ap (Ah (Gf fld111_1 rfl (Gl ty109 ?_))))))))))
 refine Gr (Bq Aq rfl) (Gm rfl (Af (A3 (Bv (σ:=Nat×(Option Addr)×Nat×(List Ev)) (fun s=>([(2,I64 (nw)),(7,.func (.func 297) #[] #[.pointer (some ⟨b4,0,none⟩),.pointer (some ⟨b5,0,none⟩)]),(8,.slice s.2.1 s.2.2.2.length s.2.2.1),(20,.slice a0 xs.length c0),(21,I64 (((xs.length:Nat):Int))),(22,I64 (((s.1:Nat):Int)))]:Env)) (fun s=>vc 108 (.slice s.2.1 s.2.2.2.length s.2.2.1) (s.2.2.2)::blk b4 [I64 (nw)] 3::blk b5 [I64 (2),I64 (wd),I64 (mo)] 31::mp mr3 [({key:=I64 (1),val:= .func (.func 294) #[] #[],born:=0}:MapEntry),({key:=I64 (2),val:= .func (.func 296) #[] #[],born:=1}:MapEntry),({key:=I64 (3),val:= .func (.func 298) #[] #[],born:=2}:MapEntry)] 3::blk b2 [I64 (2),I64 (wd),I64 (mo)] 31::blk b1 [I64 (nd),.slice a0 xs.length c0] 111::I) (fun s=>(s.1≤xs.length)∧(s.2.2.2=((xs.take s.1).filter fun x=> !(fun x:Lk=>decide (IntKind.i64.wrap (nw - x.tm)<wd)) x).map (cutEv nw))) (fun s=>xs.length - s.1) (0,none,0,[]) (show ((0:Nat)≤xs.length)∧(([]:List Ev)=((xs.take (0:Nat)).filter fun x=> !(fun x:Lk=>decide (IntKind.i64.wrap (nw - x.tm)<wd)) x).map (cutEv nw)) from ⟨om,rfl⟩) (Ab rfl (Ab rfl (Ab (C1 rfl (by first|rfl|simp)) (Ab rfl (Ab rfl (Ab Cc Bj)))))) (show Fit κ _ (vc 108 (.slice (none) ([]).length (0)) (([]))::blk b4 [I64 (nw)] 3::blk b5 [I64 (2),I64 (wd),I64 (mo)] 31::mp mr3 [({key:=I64 (1),val:= .func (.func 294) #[] #[],born:=0}:MapEntry),({key:=I64 (2),val:= .func (.func 296) #[] #[],born:=1}:MapEntry),({key:=I64 (3),val:= .func (.func 298) #[] #[],born:=2}:MapEntry)] 3::blk b2 [I64 (2),I64 (wd),I64 (mo)] 31::blk b1 [I64 (nd),.slice a0 xs.length c0] 111::I) from (Bx _ _)) ?_))))
 rintro ⟨k,a,c,out⟩ hp
 dsimp only at hp ⊢
 obtain ⟨hk,ho⟩:=hp
 have hol:out.length≤xs.length:=by rw [ho,List.length_map];refine Nat.le_trans (List.length_filter_le _ _) ?_;simp only [List.length_take];omega
 refine Ah (Gr (Bb rfl rfl) (Af (Ap (A9 rfl (fun c23=>?_) (fun c23=>?_)))))
 ·refine A1 (Ai (Ap (A3 (Ah (Gr (A0 (α:=Lk) (xs:=xs) Aq ty146 rfl rfl (Bi hl) om om) (Gr (Bu (α:=Lk) (xs:=xs) ty146 rfl (Bi hl) om om) (Ge1 (A8 ty146 rfl) fun b6=>Ge0 (D5 ty146) ?_)))))))
  refine Af (Ah (Gm rfl (Gl6 ty146 ?_)))
  refine Gc0 (Cl call297 rfl rfl rfl (Age1_ok (Ck mm) (Ck mm) (at_ xs (k:Int)))) ?_
  refine Gr (Dp rfl) (Af (Ar (S8 29 10 2 7 8 20 21 22 rfl rfl rfl rfl rfl rfl rfl rfl) (A9 rfl (fun c29=>?_) (fun c29=>?_))))
  ·refine A2 (Gm rfl (Gl6 ty146 ?_))
   refine Gm rfl (G.e (Al call254 rfl rfl (Gone_ok (at_ xs (k:Int)) nw)) ?_)
   rintro _ _ ⟨_,_,⟨rfl,rfl⟩,rfl,rfl⟩
   refine Ge1 (B8 (α:=Ev) (cs:=[I64 (2),I64 (nw),I64 ((at_ xs (k:Int)).u),I64 ((at_ xs (k:Int)).v),I64 (0),I64 (0),I64 (0)]) (xs:=[⟨2,nw,(at_ xs (k:Int)).u,(at_ xs (k:Int)).v,0,0,0⟩]) A5 ty108 rfl rfl dc dc rfl kr rfl rfl) fun ad7=>?_
   refine Ge2 (Ch (α:=Ev) (e:=108) (xs:=out) (ys:=([⟨2,nw,(at_ xs (k:Int)).u,(at_ xs (k:Int)).v,0,0,0⟩]:List Ev)) A5 ty108 rfl rfl rfl mm Bf lcn dc rfl (fun _ _=>am)) fun ad8 cp9=>?_
   exact Ga rfl (Bh (Aj (Ai (Ar (S6 8 2 7 20 21 22 rfl rfl rfl rfl rfl rfl) (A2 (Gr (Rad rfl rfl) (Gm rfl (Bh (B7 ((k+1),(ad8),(cp9),(out++([⟨2,nw,(at_ xs (k:Int)).u,(at_ xs (k:Int)).v,0,0,0⟩]:List Ev))) (by dsimp only;exact ⟨om,(by first|(rw [gone_yes (P:=(fun x:Lk=>decide (IntKind.i64.wrap (nw - x.tm)<wd))) om (decide_eq_false c29),←ho];done)|(rw [gone_yes (P:=(fun x:Lk=>decide (IntKind.i64.wrap (nw - x.tm)<wd))) om (decide_eq_false c29),←ho];rfl)|(rw [gone_no (P:=(fun x:Lk=>decide (IntKind.i64.wrap (nw - x.tm)<wd))) om (decide_eq_true (Classical.not_not.1 c29)),←ho])|(rw [gone_no (P:=(fun x:Lk=>decide (IntKind.i64.wrap (nw - x.tm)<wd))) om rfl,←ho]))⟩))))))))))
  ·exact A1 (Aj (Ai (A2 (Gr (Rad rfl rfl) (Gm rfl (Bh (B7 ((k+1),(a),(c),(out)) (by dsimp only;exact ⟨om,(by first|(rw [gone_yes (P:=(fun x:Lk=>decide (IntKind.i64.wrap (nw - x.tm)<wd))) om (decide_eq_false c29),←ho];done)|(rw [gone_yes (P:=(fun x:Lk=>decide (IntKind.i64.wrap (nw - x.tm)<wd))) om (decide_eq_false c29),←ho];rfl)|(rw [gone_no (P:=(fun x:Lk=>decide (IntKind.i64.wrap (nw - x.tm)<wd))) om (decide_eq_true (Classical.not_not.1 c29)),←ho])|(rw [gone_no (P:=(fun x:Lk=>decide (IntKind.i64.wrap (nw - x.tm)<wd))) om rfl,←ho]))⟩))))))))
 ·refine Bs (Am (Am (A7 (Ai (Ah (Gm rfl (Ga rfl (Af (Az ?_)))))))))
  have hE:out=(goneL 2 wd mo nw xs):=by rw [ho,show List.take k xs=xs from List.take_of_length_le om];unfold goneL;rw [filt_not (P:=(fun x:Lk=>decide (IntKind.i64.wrap (nw - x.tm)<wd))) (inW_age (askE_ok hA) rfl)]
  subst hE
  exact A4 rfl rfl (vc 108 (.slice a (goneL 2 wd mo nw xs).length c) (goneL 2 wd mo nw xs)::I) Ay ⟨a,c,rfl,rfl⟩
theorem Gone3_ok{nd wd mo nw:Int}{a0:Option Addr}{c0:Nat}{xs:List Lk}(hl:Sl κ I (.slice a0 xs.length c0) xs)(hsz:xs.length≤1000000)(hA:askE nd xs 3 wd mo nw=0) :
    CallS Tryz.prog κ 213 [.agg #[I64 (nd),.slice a0 xs.length c0],.agg #[I64 (3),I64 (wd),I64 (mo)],I64 (nw)] I (fun r J=>∃a c,r = .slice a (goneL 3 wd mo nw xs).length c∧J=vc 108 (.slice a (goneL 3 wd mo nw xs).length c) (goneL 3 wd mo nw xs)::I):=by
 refine Ce3 Tryz.func213 rfl rfl ?_
 refine Ah (Ge1 (Bc (cs:=[_,_]) rfl rfl rfl) fun b1=>Ge1 (Bc (cs:=[_,_,_]) rfl rfl rfl) fun b2=>Ga rfl (Af (Ap (Bd mixed (Bl (blk b2 [I64 (3),I64 (wd),I64 (mo)] 31::blk b1 [I64 (nd),.slice a0 xs.length c0] 111::I) 9 (Dr 1 rfl (Ac fld31_0 rfl) (Dr 2 rfl (Av ty3) ?_)))))))
 refine Dr 4 rfl (Bo (vs:=[_,_]) ty111) ?_
 refine Dr 5 rfl (Bo (vs:=[_,_,_]) ty31) ?_
 refine Dr 6 rfl (Ad rfl) (Ds1 0 (Se rfl (Al call253 rfl rfl Rules_ok) ?_))
 rintro _ _ ⟨_,_,⟨mr3,rfl,rfl⟩,rfl,rfl⟩
 refine ⟨Ay,?_⟩
 refine Ds1 3 (Sr rfl (Runs.lookupK (i:=2) Db Be rfl rfl rfl mm rfl) Ay ?_)
 refine Ds1 7 (Se rfl (Cl call298 rfl rfl rfl (Rule3_ok (Bi hl) ((askE_ok hA).most rfl).1 om)) ?_)
 rintro _ _ ⟨_,_,⟨b4,ad5,cp6,ys7,mm8,rfl,hzys7,rfl⟩,rfl,rfl⟩
 refine ⟨Ay,?_⟩
 refine Dr 8 rfl (A6 rfl) (Dz (Ai (Ar (S3 7 3 2 rfl rfl rfl) (Ah (Ga rfl (Af (Ap (Ah (Gf fld111_1 rfl (Gl ty109 ?_))))))))))
 refine Gr (Bq Aq rfl) (Gm rfl (Af (A3 (Bv (σ:=Nat×(Option Addr)×Nat×(List Ev)) (fun s=>([(2,I64 (nw)),(7,.func (.func 300) #[] #[.pointer (some ⟨b4,0,none⟩)]),(8,.slice s.2.1 s.2.2.2.length s.2.2.1),(20,.slice a0 xs.length c0),(21,I64 (((xs.length:Nat):Int))),(22,I64 (((s.1:Nat):Int)))]:Env)) (fun s=>vc 108 (.slice s.2.1 s.2.2.2.length s.2.2.1) (s.2.2.2)::blk b4 [.slice ad5 (List.take mm8 ys7).length cp6] 109::vc 146 (.slice ad5 xs.length cp6) (ys7)::mp mr3 [({key:=I64 (1),val:= .func (.func 294) #[] #[],born:=0}:MapEntry),({key:=I64 (2),val:= .func (.func 296) #[] #[],born:=1}:MapEntry),({key:=I64 (3),val:= .func (.func 298) #[] #[],born:=2}:MapEntry)] 3::blk b2 [I64 (3),I64 (wd),I64 (mo)] 31::blk b1 [I64 (nd),.slice a0 xs.length c0] 111::I) (fun s=>(s.1≤xs.length)∧(s.2.2.2=((xs.take s.1).filter fun x=> !(fun x:Lk=>decide (x∈List.take mm8 ys7)) x).map (cutEv nw))) (fun s=>xs.length - s.1) (0,none,0,[]) (show ((0:Nat)≤xs.length)∧(([]:List Ev)=((xs.take (0:Nat)).filter fun x=> !(fun x:Lk=>decide (x∈List.take mm8 ys7)) x).map (cutEv nw)) from ⟨om,rfl⟩) (Ab rfl (Ab rfl (Ab (C1 rfl (by first|rfl|simp)) (Ab rfl (Ab rfl (Ab Cc Bj)))))) (show Fit κ _ (vc 108 (.slice (none) ([]).length (0)) (([]))::blk b4 [.slice ad5 (List.take mm8 ys7).length cp6] 109::vc 146 (.slice ad5 xs.length cp6) (ys7)::mp mr3 [({key:=I64 (1),val:= .func (.func 294) #[] #[],born:=0}:MapEntry),({key:=I64 (2),val:= .func (.func 296) #[] #[],born:=1}:MapEntry),({key:=I64 (3),val:= .func (.func 298) #[] #[],born:=2}:MapEntry)] 3::blk b2 [I64 (3),I64 (wd),I64 (mo)] 31::blk b1 [I64 (nd),.slice a0 xs.length c0] 111::I) from (Bx _ _)) ?_))))
 rintro ⟨k,a,c,out⟩ hp
 dsimp only at hp ⊢
 obtain ⟨hk,ho⟩:=hp
 have hol:out.length≤xs.length:=by rw [ho,List.length_map];refine Nat.le_trans (List.length_filter_le _ _) ?_;simp only [List.length_take];omega
 refine Ah (Gr (Bb rfl rfl) (Af (Ap (A9 rfl (fun c23=>?_) (fun c23=>?_)))))
 ·refine A1 (Ai (Ap (A3 (Ah (Gr (A0 (α:=Lk) (xs:=xs) Aq ty146 rfl rfl (Bi hl) om om) (Gr (Bu (α:=Lk) (xs:=xs) ty146 rfl (Bi hl) om om) (Ge1 (A8 ty146 rfl) fun b9=>Ge0 (D5 ty146) ?_)))))))
  refine Af (Ah (Gm rfl (Gl6 ty146 ?_)))
  refine Gc0 (Cl call300 rfl rfl rfl (Last1_ok (Ck mm) (Sl.take Bf om) (at_ xs (k:Int)))) ?_
  refine Gr (Dp rfl) (Af (Ar (S8 29 10 2 7 8 20 21 22 rfl rfl rfl rfl rfl rfl rfl rfl) (A9 rfl (fun c29=>?_) (fun c29=>?_))))
  ·refine A2 (Gm rfl (Gl6 ty146 ?_))
   refine Gm rfl (G.e (Al call254 rfl rfl (Gone_ok (at_ xs (k:Int)) nw)) ?_)
   rintro _ _ ⟨_,_,⟨rfl,rfl⟩,rfl,rfl⟩
   refine Ge1 (B8 (α:=Ev) (cs:=[I64 (2),I64 (nw),I64 ((at_ xs (k:Int)).u),I64 ((at_ xs (k:Int)).v),I64 (0),I64 (0),I64 (0)]) (xs:=[⟨2,nw,(at_ xs (k:Int)).u,(at_ xs (k:Int)).v,0,0,0⟩]) A5 ty108 rfl rfl dc dc rfl kr rfl rfl) fun ad10=>?_
   refine Ge2 (Ch (α:=Ev) (e:=108) (xs:=out) (ys:=([⟨2,nw,(at_ xs (k:Int)).u,(at_ xs (k:Int)).v,0,0,0⟩]:List Ev)) A5 ty108 rfl rfl rfl mm Bf lcn dc rfl (fun _ _=>am)) fun ad11 cp12=>?_
   exact Ga rfl (Bh (Aj (Ai (Ar (S6 8 2 7 20 21 22 rfl rfl rfl rfl rfl rfl) (A2 (Gr (Rad rfl rfl) (Gm rfl (Bh (B7 ((k+1),(ad11),(cp12),(out++([⟨2,nw,(at_ xs (k:Int)).u,(at_ xs (k:Int)).v,0,0,0⟩]:List Ev))) (by dsimp only;exact ⟨om,(by first|(rw [gone_yes (P:=(fun x:Lk=>decide (x∈List.take mm8 ys7))) om (decide_eq_false c29),←ho];done)|(rw [gone_yes (P:=(fun x:Lk=>decide (x∈List.take mm8 ys7))) om (decide_eq_false c29),←ho];rfl)|(rw [gone_no (P:=(fun x:Lk=>decide (x∈List.take mm8 ys7))) om (decide_eq_true (Classical.not_not.1 c29)),←ho])|(rw [gone_no (P:=(fun x:Lk=>decide (x∈List.take mm8 ys7))) om rfl,←ho]))⟩))))))))))
  ·exact A1 (Aj (Ai (A2 (Gr (Rad rfl rfl) (Gm rfl (Bh (B7 ((k+1),(a),(c),(out)) (by dsimp only;exact ⟨om,(by first|(rw [gone_yes (P:=(fun x:Lk=>decide (x∈List.take mm8 ys7))) om (decide_eq_false c29),←ho];done)|(rw [gone_yes (P:=(fun x:Lk=>decide (x∈List.take mm8 ys7))) om (decide_eq_false c29),←ho];rfl)|(rw [gone_no (P:=(fun x:Lk=>decide (x∈List.take mm8 ys7))) om (decide_eq_true (Classical.not_not.1 c29)),←ho])|(rw [gone_no (P:=(fun x:Lk=>decide (x∈List.take mm8 ys7))) om rfl,←ho]))⟩))))))))
 ·refine Bs (Am (Am (A7 (Ai (Ah (Gm rfl (Ga rfl (Af (Az ?_)))))))))
  have hE:out=(goneL 3 wd mo nw xs):=by rw [ho,show List.take k xs=xs from List.take_of_length_le om];unfold goneL;rw [filt_not (P:=(fun x:Lk=>decide (x∈List.take mm8 ys7))) (inW_last (askE_ok hA) rfl hzys7)]
  subst hE
  exact A4 rfl rfl (vc 108 (.slice a (goneL 3 wd mo nw xs).length c) (goneL 3 wd mo nw xs)::I) Ay ⟨a,c,rfl,rfl⟩
theorem GoneP_ok{nd kd wd mo nw:Int}{a0:Option Addr}{c0:Nat}{xs:List Lk}(hl:Sl κ I (.slice a0 xs.length c0) xs)(hsz:xs.length≤1000000)(hA:askE nd xs kd wd mo nw=0) :
  CallS Tryz.prog κ 213 [.agg #[I64 (nd),.slice a0 xs.length c0],.agg #[I64 (kd),I64 (wd),I64 (mo)],I64 (nw)] I fun r J=>∃a c,r = .slice a (goneL kd wd mo nw xs).length c∧J=vc 108 (.slice a (goneL kd wd mo nw xs).length c) (goneL kd wd mo nw xs)::I:=by
 have hk:=(askE_ok hA).kind
 rcases (by omega:kd=1∨kd=2∨kd=3) with rfl|rfl|rfl
 ·exact Gone1_ok hl hsz hA
 ·exact Gone2_ok hl hsz hA
 ·exact Gone3_ok hl hsz hA
end Go.Sl
