/- A part of the proofs of statements of this seat: contracts of functions, and the plain laws that they lean on. No conditions. -/
import Derived.Test.YtfkcohmipjhfcaaGreatDoorA20
import Derived.ProofKit
import Derived.OpenShut
import Derived.ChangeOld
import Derived.Below
import Derived.SizedLaws
import Derived.JoinedOf
import Derived.Deep.Slices
import Derived.Deep.Fields
set_option linter.unusedVariables false
set_option linter.unusedSimpArgs false
set_option linter.unusedSectionVars false
namespace Go.Sl
open Go.Proofs
set_option maxRecDepth 4000
variable {κ:Ctx}{I:List Item}
theorem QOf4_ok  :
    CallS Tryz.prog κ 176 [I64 (4)] I (fun r J=>r = .agg #[.bool false,.bool true,.bool false,.bool true,.bool false]∧I=J):=by
 refine Ce1 Tryz.func176 rfl rfl ?_
 refine Ah (Ge1 (A5 ty220 rfl) fun b1=>Af (Ah (Ge1 (A5 ty220 rfl) fun b2=>Af (Ao (Ah (Gm rfl (Af (Ax (Ao (Ax (Ao (Ax (Ao (Ax (Ao (Ax (Ao (Ax (Ao (Ax (Ao (Ax (Ao (Ao (Ah (Gr (Runs.eqC (fun w=>by kernel_rfl) (fun w=>by kernel_rfl) rfl rfl) (Ga rfl (Af (Cx rfl (A0 (Ai (Ao (Ah (Gr (Runs.eqC (fun w=>by kernel_rfl) (fun w=>by kernel_rfl) rfl rfl) (Ga rfl (Af (Cx rfl (A0 (Ai (Ao (Ah (Gr (Runs.eqC (fun w=>by kernel_rfl) (fun w=>by kernel_rfl) rfl rfl) (Ga rfl (Af (Cx rfl (A0 (Ai (Ao (Ao (Ah (Gr (Runs.eqC (fun w=>by kernel_rfl) (fun w=>by kernel_rfl) rfl rfl) (Ga rfl (Af (Cx rfl (Aw (Gr (Runs.eqC (fun w=>by kernel_rfl) (fun w=>by kernel_rfl) rfl rfl) (Ga rfl (Af (As (S4 11 4 3 2 rfl rfl rfl rfl) (Cl rfl (Bt (Ak (Ak (B8 rfl (Ak (B8 rfl (Ak (B8 rfl (Ak (A6 (Ai (Aw (Gf fld220_1 rfl (Ge0 (Ci (cs:=[_,_,_,_,_]) (vs:=[_]) (cs':=[_,_,_,_,_]) ty4) ?_))))))))))))))))))))))))))))))))))))))))))))))))))))))))))))))))))))))))))
 refine Bj (Aj (Ai (Ah (Gf fld220_3 rfl (Ge0 (Ci (cs:=[_,_,_,_,_]) (vs:=[_]) (cs':=[_,_,_,_,_]) ty4) ?_)))))
 refine Af (Bt (B8 rfl (Ak (B8 rfl (Ak (A6 (Ai (Ah (Gr (Bm (vs:=[_,_,_,_,_]) ty220) ?_)))))))))
 refine Ge0 (Ez ty220) ?_
 exact Af (A2 (Cw rfl ty220 rfl mm rfl (I) A4 ⟨rfl,rfl⟩))
theorem QOf6_ok  :
    CallS Tryz.prog κ 176 [I64 (6)] I (fun r J=>r = .agg #[.bool false,.bool false,.bool false,.bool true,.bool false]∧I=J):=by
 refine Ce1 Tryz.func176 rfl rfl ?_
 refine Ah (Ge1 (A5 ty220 rfl) fun b1=>Af (Ah (Ge1 (A5 ty220 rfl) fun b2=>Af (Ao (Ah (Gm rfl (Af (Ax (Ao (Ax (Ao (Ax (Ao (Ax (Ao (Ax (Ao (Ax (Ao (Ax (Ao (Ax (Ao (Ao (Ah (Gr (Runs.eqC (fun w=>by kernel_rfl) (fun w=>by kernel_rfl) rfl rfl) (Ga rfl (Af (Cx rfl (A0 (Ai (Ao (Ah (Gr (Runs.eqC (fun w=>by kernel_rfl) (fun w=>by kernel_rfl) rfl rfl) (Ga rfl (Af (Cx rfl (A0 (Ai (Ao (Ah (Gr (Runs.eqC (fun w=>by kernel_rfl) (fun w=>by kernel_rfl) rfl rfl) (Ga rfl (Af (Cx rfl (A0 (Ai (Ao (Ao (Ah (Gr (Runs.eqC (fun w=>by kernel_rfl) (fun w=>by kernel_rfl) rfl rfl) (Ga rfl (Af (Cx rfl (Aw (Gr (Runs.eqC (fun w=>by kernel_rfl) (fun w=>by kernel_rfl) rfl rfl) (Ga rfl (Af (As (S4 11 4 3 2 rfl rfl rfl rfl) (Cx rfl (A0 (Ai (Ao (Ao (Ah (Gr (Runs.eqC (fun w=>by kernel_rfl) (fun w=>by kernel_rfl) rfl rfl) (Ga rfl (Af (Cx rfl (Ah (Gr (Runs.eqC (fun w=>by kernel_rfl) (fun w=>by kernel_rfl) rfl rfl) (Ga rfl (Af (Cl rfl (A0 (Ai (Cl rfl (Bt (Ak (Ak (B8 rfl (Ak (B8 rfl (Ak (B8 rfl (Ak (B8 rfl (Ak (A6 (Ai (Ah (Gf fld220_3 rfl (Ge0 (Ci (cs:=[_,_,_,_,_]) (vs:=[_]) (cs':=[_,_,_,_,_]) ty4) ?_)))))))))))))))))))))))))))))))))))))))))))))))))))))))))))))))))))))))))))))))))))))))))))))
 refine Af (Bt (B8 rfl (Ak (B8 rfl (Ak (A6 (Ai (Ah (Gr (Bm (vs:=[_,_,_,_,_]) ty220) ?_)))))))))
 refine Ge0 (Ez ty220) ?_
 exact Af (A2 (Cw rfl ty220 rfl mm rfl (I) A4 ⟨rfl,rfl⟩))
theorem QOf7_ok  :
    CallS Tryz.prog κ 176 [I64 (7)] I (fun r J=>r = .agg #[.bool false,.bool false,.bool false,.bool true,.bool false]∧I=J):=by
 refine Ce1 Tryz.func176 rfl rfl ?_
 refine Ah (Ge1 (A5 ty220 rfl) fun b1=>Af (Ah (Ge1 (A5 ty220 rfl) fun b2=>Af (Ao (Ah (Gm rfl (Af (Ax (Ao (Ax (Ao (Ax (Ao (Ax (Ao (Ax (Ao (Ax (Ao (Ax (Ao (Ax (Ao (Ao (Ah (Gr (Runs.eqC (fun w=>by kernel_rfl) (fun w=>by kernel_rfl) rfl rfl) (Ga rfl (Af (Cx rfl (A0 (Ai (Ao (Ah (Gr (Runs.eqC (fun w=>by kernel_rfl) (fun w=>by kernel_rfl) rfl rfl) (Ga rfl (Af (Cx rfl (A0 (Ai (Ao (Ah (Gr (Runs.eqC (fun w=>by kernel_rfl) (fun w=>by kernel_rfl) rfl rfl) (Ga rfl (Af (Cx rfl (A0 (Ai (Ao (Ao (Ah (Gr (Runs.eqC (fun w=>by kernel_rfl) (fun w=>by kernel_rfl) rfl rfl) (Ga rfl (Af (Cx rfl (Aw (Gr (Runs.eqC (fun w=>by kernel_rfl) (fun w=>by kernel_rfl) rfl rfl) (Ga rfl (Af (As (S4 11 4 3 2 rfl rfl rfl rfl) (Cx rfl (A0 (Ai (Ao (Ao (Ah (Gr (Runs.eqC (fun w=>by kernel_rfl) (fun w=>by kernel_rfl) rfl rfl) (Ga rfl (Af (Cx rfl (Ah (Gr (Runs.eqC (fun w=>by kernel_rfl) (fun w=>by kernel_rfl) rfl rfl) (Ga rfl (Af (Cx rfl (Aw (Gr (Runs.eqC (fun w=>by kernel_rfl) (fun w=>by kernel_rfl) rfl rfl) (Ga rfl (Af (Cl rfl (Bt (Ak (Ak (B8 rfl (Ak (B8 rfl (Ak (B8 rfl (Ak (B8 rfl (Ak (A6 (Ai (Ah (Gf fld220_3 rfl (Ge0 (Ci (cs:=[_,_,_,_,_]) (vs:=[_]) (cs':=[_,_,_,_,_]) ty4) ?_)))))))))))))))))))))))))))))))))))))))))))))))))))))))))))))))))))))))))))))))))))))))))))))))
 refine Af (Bt (B8 rfl (Ak (B8 rfl (Ak (A6 (Ai (Ah (Gr (Bm (vs:=[_,_,_,_,_]) ty220) ?_)))))))))
 refine Ge0 (Ez ty220) ?_
 exact Af (A2 (Cw rfl ty220 rfl mm rfl (I) A4 ⟨rfl,rfl⟩))
theorem QSet4_ok{va:Value}{xs:List Int}{n:Int}{sa:Option Addr}{sc:Nat}(hs:Sl κ I (.slice sa xs.length sc) xs)(hv:ValidP xs n)(h0:0<xs.length) :
    CallS Tryz.prog κ 177 [I64 (4),.slice sa xs.length sc,I64 (n)] I (fun r J=>r = .bool true∧I=J):=by
 refine Ce3 Tryz.func177 rfl rfl ?_
 refine Ah (Ga rfl (Af (Ah (Gm rfl (Gm rfl (Gc0 (Am call88 rfl rfl (NValid_ok (Bf hs) n)) ?_))))))
 refine Gm rfl (Bi (d:=10) rfl (fun g10=>?_) (fun g10=>?_))
 ·refine Gro (Ad rfl) (Gro (Bw Ab rfl) (Gro (B5 rfl rfl) (Gr (Ap rfl rfl) (Gm rfl (Bi (d:=15) rfl (fun g15=>?_) (fun g15=>?_))))))
  ·refine Gro (Ad rfl) (Gro (Bv rfl rfl) (Gro (Ad rfl) (Bi (d:=18) rfl (fun g18=>?_) (fun g18=>?_))))
   ·exact Gpo (Gpo (Gpo (Gro (Ap rfl rfl) (Gr (Ap rfl rfl) (Ga rfl (Af (As (S1 6 rfl) (A2 (A7 rfl rfl (I) A4 ⟨rfl,rfl⟩)))))))))
   ·exact absurd dc g18
  ·exfalso;omega
 ·exact absurd hv (by simpa using g10)
theorem QCheck4_ok{nd tq:Int}(ht:0≤tq∧tq≤1048576){S:List Int}{sa:Option Addr}{sc:Nat}(hs:Sl κ I (.slice sa S.length sc) S)(hv:ValidP S nd)(h0:0<S.length) :
    CallS Tryz.prog κ 105 [.agg #[I64 (4),I64 (0),I64 (0),I64 (tq),.slice sa S.length sc,I64 (0),I64 (0)],I64 (nd)] I (fun r J=>r=I64 0∧I=J):=by
 refine Ce2 Tryz.func105 rfl rfl ?_
 refine Ah (Ge1 (Bb (cs:=[_,_,_,_,_,_,_]) rfl rfl rfl) fun b1=>Ga rfl (Af (Ah (Gf fld71_0 rfl (Gl ty3 ?_)))))
 refine Gc0 (Am call176 rfl rfl QOf4_ok) ?_
 refine Ge1 (A5 ty220 rfl) fun b2=>Ge0 (Ez ty220) ?_
 refine Af (Ao (Ax (Ah (Gr (Bm (vs:=[_,_,_,_,_]) ty220) ?_))))
 refine Gr (Be (cells:=[_,_,_,_,_]) ty220 Eq pl220 rfl rfl) (Gr (Runs.eqC (fun w=>by kernel_rfl) (fun w=>by kernel_rfl) rfl rfl) (Ga rfl (Af (Cx rfl (Ah (Gf fld220_0 rfl (Gl ty4 ?_)))))))
 refine Gm rfl (Gpo (Gpo (Gpo (Gpo (Gpu (Gpu (Gpu (Gpu (Gpo (Gr (Av rfl rfl) (Gm rfl (Gro (Aa fld220_1 rfl) (Gro (Au ty4) ?_)))))))))))))
 refine Gro (Ad rfl) (Gro (Aa fld71_0 rfl) (Gro (Au ty3) ?_))
 refine Gro (Aa fld71_4 rfl) (Gro (Au ty22) ?_)
 refine Gro (Ad rfl) (Eu (Cv rfl rfl rfl) (Am call177 rfl rfl (QSet4_ok (va:= .bool true) (xs:=S) (n:=nd) (Bf hs) hv h0)) ?_)
 rintro _ _ ⟨_,_,⟨rfl,rfl⟩,rfl,rfl⟩
 refine Gro (Cd rfl) (Gro (Ap rfl rfl) (Gr (Av rfl rfl) (Ga rfl (Af (As (S3 13 5 2 rfl rfl rfl) (Cx rfl (Ah (Gf fld220_3 rfl (Gl ty4 ?_)))))))))
 refine Gm rfl (Gro (Aa fld71_3 rfl) (Gro (Au ty3) ?_))
 refine Gro (Bc rfl rfl) (Gro (Ad rfl) (Bi (d:=47) rfl (fun g47=>?_) (fun g47=>?_)))
 ·exfalso;omega
 ·refine Gro (Aa fld71_3 rfl) (Gro (Au ty3) ?_)
  refine Gro (B5 rfl rfl) (Gro (Av rfl rfl) (Gr (Ap rfl rfl) (Ga rfl (Af (As (S3 40 5 2 rfl rfl rfl) (A9 rfl (fun c40=>?_) (fun c40=>?_)))))))
  ·exfalso;omega
  ·refine Ah (Gf fld220_2 rfl (Gl ty4 ?_))
   refine Gm rfl (Gpo (Gpo (Gpo (Gpo (Gpu (Gpu (Gpu (Gpo (Gr (Av rfl rfl) (Gm rfl (Gro (Aa fld220_4 rfl) (Gro (Au ty4) ?_))))))))))))
   refine Gro (Ad rfl) (Gpo (Gpo (Gpo (Gpo (Gpo (Gpu (Gpu (Gpu (Gpu (Gpo (Gro (Av rfl rfl) (Gr (Av rfl rfl) (Ga rfl (Af (As (S3 53 5 2 rfl rfl rfl) (Cx rfl (Ah (Gf fld220_0 rfl (Gl ty4 ?_)))))))))))))))))))
   refine Gr (Cd rfl) (Gm rfl (Gro (Aa fld71_1 rfl) (Gro (Au ty3) ?_)))
   refine Gro (Bv rfl rfl) (Gr (Ap rfl rfl) (Gm rfl (Bi (d:=91) rfl (fun g91=>?_) (fun g91=>?_))))
   ·refine Gpo (Gpo (Gpo (Gpo (Gpu (Gpu (Gpu (Gpu (Gpo (Gr (Ap rfl rfl) (Gm rfl (Gpo (Gpo (Gpo (Gpo (Gpu (Gpu (Gpu (Gpo (Gr (Ap rfl rfl) (Gm rfl (Gpo (Gpo (Gpo (Gpo (Gpu (Gpu (Gpu (Gpo (Gr (Ap rfl rfl) (Gm rfl (Gpo (Gpo (Gpo (Gpo (Gpu (Gpu (Gpu (Gpu (Gpo (Gr (Ap rfl rfl) (Ga rfl (Af (As (S1 82 rfl) (Cl rfl (Ah (Ga rfl (Af (A2 (Ar (Al ?_))))))))))))))))))))))))))))))))))))))))))))))))))
    exfalso;first|omega|(exact absurd rfl asm)|(simp_all;done)
   ·refine Gro (Aa fld220_1 rfl) (Gro (Au ty4) ?_)
    refine Gro (Cd rfl) (Gro (Ad rfl) (Gpo (Gpo (Gpo (Gpo (Gro (Av rfl rfl) (Gr (Av rfl rfl) (Gm rfl (Gro (Aa fld220_3 rfl) (Gro (Au ty4) ?_))))))))))
    refine Gro (Cd rfl) (Gro (Ad rfl) (Gpo (Gpo (Gpo (Gro (Av rfl rfl) (Gr (Av rfl rfl) (Gm rfl (Gro (Aa fld220_2 rfl) (Gro (Au ty4) ?_)))))))))
    refine Gro (Cd rfl) (Gro (Ad rfl) (Gro (Aa fld71_2 rfl) (Gro (Au ty3) ?_)))
    refine Gro (Bv rfl rfl) (Gro (Ap rfl rfl) (Gr (Av rfl rfl) (Gm rfl (Bi (d:=122) rfl (fun g122=>?_) (fun g122=>?_)))))
    ·refine Gpo (Gpo (Gpo (Gpo (Gpu (Gpu (Gpu (Gpu (Gpo (Gr (Ap rfl rfl) (Ga rfl (Af (As (S1 82 rfl) (Cl rfl (Ah (Ga rfl (Af (A2 (Ar (Al ?_)))))))))))))))))))
     exfalso;first|omega|(exact absurd rfl asm)|(simp_all;done)
    ·refine Gro (Aa fld220_4 rfl) (Gro (Au ty4) ?_)
     refine Gro (Cd rfl) (Gro (Ad rfl) (Gro (Aa fld71_5 rfl) (Gro (Bm (vs:=[_,_]) ty40) ?_)))
     refine Gro (Be (cells:=[_,_]) ty40 Cj pl40 rfl rfl) (Gro (Runs.neqT (α:=Fr) (a:=(⟨0,0⟩:Fr)) (b:=(⟨0,0⟩:Fr)) eqt40 rfl rfl) (Gro (Ap rfl rfl) (Gr (Av rfl rfl) (Ga rfl (Af (As (S1 82 rfl) (A9 rfl (fun c82=>?_) (fun c82=>?_))))))))
     ·refine Ah (Ga rfl (Af (A2 (Ar (Al ?_)))))
      exfalso;first|omega|(exact absurd rfl asm)|(simp_all;done)
     ·exact A0 (Aj (Ai (Ah (Ga rfl (Af (A2 (A7 rfl rfl (I) A4 ⟨rfl,rfl⟩)))))))
theorem QCheck6_ok{nd tq:Int}(ht:0≤tq∧tq≤1048576) :
    CallS Tryz.prog κ 105 [.agg #[I64 (6),I64 (0),I64 (0),I64 (tq),.slice none 0 0,I64 (0),I64 (0)],I64 (nd)] I (fun r J=>r=I64 0∧I=J):=by
 refine Ce2 Tryz.func105 rfl rfl ?_
 refine Ah (Ge1 (Bb (cs:=[_,_,_,_,_,_,_]) rfl rfl rfl) fun b1=>Ga rfl (Af (Ah (Gf fld71_0 rfl (Gl ty3 ?_)))))
 refine Gc0 (Am call176 rfl rfl QOf6_ok) ?_
 refine Ge1 (A5 ty220 rfl) fun b2=>Ge0 (Ez ty220) ?_
 refine Af (Ao (Ax (Ah (Gr (Bm (vs:=[_,_,_,_,_]) ty220) ?_))))
 refine Gr (Be (cells:=[_,_,_,_,_]) ty220 Eq pl220 rfl rfl) (Gr (Runs.eqC (fun w=>by kernel_rfl) (fun w=>by kernel_rfl) rfl rfl) (Ga rfl (Af (Cx rfl (Ah (Gf fld220_0 rfl (Gl ty4 ?_)))))))
 refine Gm rfl (Gpo (Gpo (Gpo (Gpo (Gpu (Gpu (Gpu (Gpu (Gpo (Gr (Av rfl rfl) (Gm rfl (Gro (Aa fld220_1 rfl) (Gro (Au ty4) ?_)))))))))))))
 refine Gro (Ad rfl) (Gpo (Gpo (Gpo (Gpo (Gpo (Gpo (Gpo (Gro (Av rfl rfl) (Gr (Av rfl rfl) (Ga rfl (Af (As (S3 13 5 2 rfl rfl rfl) (Cx rfl (Ah (Gf fld220_3 rfl (Gl ty4 ?_))))))))))))))))
 refine Gm rfl (Gro (Aa fld71_3 rfl) (Gro (Au ty3) ?_))
 refine Gro (Bc rfl rfl) (Gro (Ad rfl) (Bi (d:=47) rfl (fun g47=>?_) (fun g47=>?_)))
 ·exfalso;omega
 ·refine Gro (Aa fld71_3 rfl) (Gro (Au ty3) ?_)
  refine Gro (B5 rfl rfl) (Gro (Av rfl rfl) (Gr (Ap rfl rfl) (Ga rfl (Af (As (S3 40 5 2 rfl rfl rfl) (A9 rfl (fun c40=>?_) (fun c40=>?_)))))))
  ·exfalso;omega
  ·refine Ah (Gf fld220_2 rfl (Gl ty4 ?_))
   refine Gm rfl (Gpo (Gpo (Gpo (Gpo (Gpu (Gpu (Gpu (Gpo (Gr (Av rfl rfl) (Gm rfl (Gro (Aa fld220_4 rfl) (Gro (Au ty4) ?_))))))))))))
   refine Gro (Ad rfl) (Gpo (Gpo (Gpo (Gpo (Gpo (Gpu (Gpu (Gpu (Gpu (Gpo (Gro (Av rfl rfl) (Gr (Av rfl rfl) (Ga rfl (Af (As (S3 53 5 2 rfl rfl rfl) (Cx rfl (Ah (Gf fld220_0 rfl (Gl ty4 ?_)))))))))))))))))))
   refine Gr (Cd rfl) (Gm rfl (Gro (Aa fld71_1 rfl) (Gro (Au ty3) ?_)))
   refine Gro (Bv rfl rfl) (Gr (Ap rfl rfl) (Gm rfl (Bi (d:=91) rfl (fun g91=>?_) (fun g91=>?_))))
   ·refine Gpo (Gpo (Gpo (Gpo (Gpu (Gpu (Gpu (Gpu (Gpo (Gr (Ap rfl rfl) (Gm rfl (Gpo (Gpo (Gpo (Gpo (Gpu (Gpu (Gpu (Gpo (Gr (Ap rfl rfl) (Gm rfl (Gpo (Gpo (Gpo (Gpo (Gpu (Gpu (Gpu (Gpo (Gr (Ap rfl rfl) (Gm rfl (Gpo (Gpo (Gpo (Gpo (Gpu (Gpu (Gpu (Gpu (Gpo (Gr (Ap rfl rfl) (Ga rfl (Af (As (S1 82 rfl) (Cl rfl (Ah (Ga rfl (Af (A2 (Ar (Al ?_))))))))))))))))))))))))))))))))))))))))))))))))))
    exfalso;first|omega|(exact absurd rfl asm)|(simp_all;done)
   ·refine Gro (Aa fld220_1 rfl) (Gro (Au ty4) ?_)
    refine Gro (Cd rfl) (Gro (Ad rfl) (Gro (Aa fld71_4 rfl) (Gro (Au ty22) ?_)))
    refine Gro (Bw Ab rfl) (Gro (B5 rfl rfl) (Gro (Ap rfl rfl) (Gr (Av rfl rfl) (Gm rfl (Bi (d:=102) rfl (fun g102=>?_) (fun g102=>?_))))))
    ·refine Gpo (Gpo (Gpo (Gpo (Gpu (Gpu (Gpu (Gpo (Gr (Ap rfl rfl) (Gm rfl (Gpo (Gpo (Gpo (Gpo (Gpu (Gpu (Gpu (Gpo (Gr (Ap rfl rfl) (Gm rfl (Gpo (Gpo (Gpo (Gpo (Gpu (Gpu (Gpu (Gpu (Gpo (Gr (Ap rfl rfl) (Ga rfl (Af (As (S1 82 rfl) (Cl rfl (Ah (Ga rfl (Af (A2 (Ar (Al ?_)))))))))))))))))))))))))))))))))))))))
     exfalso;first|omega|(exact absurd rfl asm)|(simp_all;done)
    ·refine Gro (Aa fld220_3 rfl) (Gro (Au ty4) ?_)
     refine Gro (Cd rfl) (Gro (Ad rfl) (Gpo (Gpo (Gpo (Gro (Av rfl rfl) (Gr (Av rfl rfl) (Gm rfl (Gro (Aa fld220_2 rfl) (Gro (Au ty4) ?_)))))))))
     refine Gro (Cd rfl) (Gro (Ad rfl) (Gro (Aa fld71_2 rfl) (Gro (Au ty3) ?_)))
     refine Gro (Bv rfl rfl) (Gro (Ap rfl rfl) (Gr (Av rfl rfl) (Gm rfl (Bi (d:=122) rfl (fun g122=>?_) (fun g122=>?_)))))
     ·refine Gpo (Gpo (Gpo (Gpo (Gpu (Gpu (Gpu (Gpu (Gpo (Gr (Ap rfl rfl) (Ga rfl (Af (As (S1 82 rfl) (Cl rfl (Ah (Ga rfl (Af (A2 (Ar (Al ?_)))))))))))))))))))
      exfalso;first|omega|(exact absurd rfl asm)|(simp_all;done)
     ·refine Gro (Aa fld220_4 rfl) (Gro (Au ty4) ?_)
      refine Gro (Cd rfl) (Gro (Ad rfl) (Gro (Aa fld71_5 rfl) (Gro (Bm (vs:=[_,_]) ty40) ?_)))
      refine Gro (Be (cells:=[_,_]) ty40 Cj pl40 rfl rfl) (Gro (Runs.neqT (α:=Fr) (a:=(⟨0,0⟩:Fr)) (b:=(⟨0,0⟩:Fr)) eqt40 rfl rfl) (Gro (Ap rfl rfl) (Gr (Av rfl rfl) (Ga rfl (Af (As (S1 82 rfl) (A9 rfl (fun c82=>?_) (fun c82=>?_))))))))
      ·refine Ah (Ga rfl (Af (A2 (Ar (Al ?_)))))
       exfalso;first|omega|(exact absurd rfl asm)|(simp_all;done)
      ·exact A0 (Aj (Ai (Ah (Ga rfl (Af (A2 (A7 rfl rfl (I) A4 ⟨rfl,rfl⟩)))))))
theorem QCheck7_ok{nd tq:Int}(ht:0≤tq∧tq≤1048576) :
    CallS Tryz.prog κ 105 [.agg #[I64 (7),I64 (0),I64 (0),I64 (tq),.slice none 0 0,I64 (0),I64 (0)],I64 (nd)] I (fun r J=>r=I64 0∧I=J):=by
 refine Ce2 Tryz.func105 rfl rfl ?_
 refine Ah (Ge1 (Bb (cs:=[_,_,_,_,_,_,_]) rfl rfl rfl) fun b1=>Ga rfl (Af (Ah (Gf fld71_0 rfl (Gl ty3 ?_)))))
 refine Gc0 (Am call176 rfl rfl QOf7_ok) ?_
 refine Ge1 (A5 ty220 rfl) fun b2=>Ge0 (Ez ty220) ?_
 refine Af (Ao (Ax (Ah (Gr (Bm (vs:=[_,_,_,_,_]) ty220) ?_))))
 refine Gr (Be (cells:=[_,_,_,_,_]) ty220 Eq pl220 rfl rfl) (Gr (Runs.eqC (fun w=>by kernel_rfl) (fun w=>by kernel_rfl) rfl rfl) (Ga rfl (Af (Cx rfl (Ah (Gf fld220_0 rfl (Gl ty4 ?_)))))))
 refine Gm rfl (Gpo (Gpo (Gpo (Gpo (Gpu (Gpu (Gpu (Gpu (Gpo (Gr (Av rfl rfl) (Gm rfl (Gro (Aa fld220_1 rfl) (Gro (Au ty4) ?_)))))))))))))
 refine Gro (Ad rfl) (Gpo (Gpo (Gpo (Gpo (Gpo (Gpo (Gpo (Gro (Av rfl rfl) (Gr (Av rfl rfl) (Ga rfl (Af (As (S3 13 5 2 rfl rfl rfl) (Cx rfl (Ah (Gf fld220_3 rfl (Gl ty4 ?_))))))))))))))))
 refine Gm rfl (Gro (Aa fld71_3 rfl) (Gro (Au ty3) ?_))
 refine Gro (Bc rfl rfl) (Gro (Ad rfl) (Bi (d:=47) rfl (fun g47=>?_) (fun g47=>?_)))
 ·exfalso;omega
 ·refine Gro (Aa fld71_3 rfl) (Gro (Au ty3) ?_)
  refine Gro (B5 rfl rfl) (Gro (Av rfl rfl) (Gr (Ap rfl rfl) (Ga rfl (Af (As (S3 40 5 2 rfl rfl rfl) (A9 rfl (fun c40=>?_) (fun c40=>?_)))))))
  ·exfalso;omega
  ·refine Ah (Gf fld220_2 rfl (Gl ty4 ?_))
   refine Gm rfl (Gpo (Gpo (Gpo (Gpo (Gpu (Gpu (Gpu (Gpo (Gr (Av rfl rfl) (Gm rfl (Gro (Aa fld220_4 rfl) (Gro (Au ty4) ?_))))))))))))
   refine Gro (Ad rfl) (Gpo (Gpo (Gpo (Gpo (Gpo (Gpu (Gpu (Gpu (Gpu (Gpo (Gro (Av rfl rfl) (Gr (Av rfl rfl) (Ga rfl (Af (As (S3 53 5 2 rfl rfl rfl) (Cx rfl (Ah (Gf fld220_0 rfl (Gl ty4 ?_)))))))))))))))))))
   refine Gr (Cd rfl) (Gm rfl (Gro (Aa fld71_1 rfl) (Gro (Au ty3) ?_)))
   refine Gro (Bv rfl rfl) (Gr (Ap rfl rfl) (Gm rfl (Bi (d:=91) rfl (fun g91=>?_) (fun g91=>?_))))
   ·refine Gpo (Gpo (Gpo (Gpo (Gpu (Gpu (Gpu (Gpu (Gpo (Gr (Ap rfl rfl) (Gm rfl (Gpo (Gpo (Gpo (Gpo (Gpu (Gpu (Gpu (Gpo (Gr (Ap rfl rfl) (Gm rfl (Gpo (Gpo (Gpo (Gpo (Gpu (Gpu (Gpu (Gpo (Gr (Ap rfl rfl) (Gm rfl (Gpo (Gpo (Gpo (Gpo (Gpu (Gpu (Gpu (Gpu (Gpo (Gr (Ap rfl rfl) (Ga rfl (Af (As (S1 82 rfl) (Cl rfl (Ah (Ga rfl (Af (A2 (Ar (Al ?_))))))))))))))))))))))))))))))))))))))))))))))))))
    exfalso;first|omega|(exact absurd rfl asm)|(simp_all;done)
   ·refine Gro (Aa fld220_1 rfl) (Gro (Au ty4) ?_)
    refine Gro (Cd rfl) (Gro (Ad rfl) (Gro (Aa fld71_4 rfl) (Gro (Au ty22) ?_)))
    refine Gro (Bw Ab rfl) (Gro (B5 rfl rfl) (Gro (Ap rfl rfl) (Gr (Av rfl rfl) (Gm rfl (Bi (d:=102) rfl (fun g102=>?_) (fun g102=>?_))))))
    ·refine Gpo (Gpo (Gpo (Gpo (Gpu (Gpu (Gpu (Gpo (Gr (Ap rfl rfl) (Gm rfl (Gpo (Gpo (Gpo (Gpo (Gpu (Gpu (Gpu (Gpo (Gr (Ap rfl rfl) (Gm rfl (Gpo (Gpo (Gpo (Gpo (Gpu (Gpu (Gpu (Gpu (Gpo (Gr (Ap rfl rfl) (Ga rfl (Af (As (S1 82 rfl) (Cl rfl (Ah (Ga rfl (Af (A2 (Ar (Al ?_)))))))))))))))))))))))))))))))))))))))
     exfalso;first|omega|(exact absurd rfl asm)|(simp_all;done)
    ·refine Gro (Aa fld220_3 rfl) (Gro (Au ty4) ?_)
     refine Gro (Cd rfl) (Gro (Ad rfl) (Gpo (Gpo (Gpo (Gro (Av rfl rfl) (Gr (Av rfl rfl) (Gm rfl (Gro (Aa fld220_2 rfl) (Gro (Au ty4) ?_)))))))))
     refine Gro (Cd rfl) (Gro (Ad rfl) (Gro (Aa fld71_2 rfl) (Gro (Au ty3) ?_)))
     refine Gro (Bv rfl rfl) (Gro (Ap rfl rfl) (Gr (Av rfl rfl) (Gm rfl (Bi (d:=122) rfl (fun g122=>?_) (fun g122=>?_)))))
     ·refine Gpo (Gpo (Gpo (Gpo (Gpu (Gpu (Gpu (Gpu (Gpo (Gr (Ap rfl rfl) (Ga rfl (Af (As (S1 82 rfl) (Cl rfl (Ah (Ga rfl (Af (A2 (Ar (Al ?_)))))))))))))))))))
      exfalso;first|omega|(exact absurd rfl asm)|(simp_all;done)
     ·refine Gro (Aa fld220_4 rfl) (Gro (Au ty4) ?_)
      refine Gro (Cd rfl) (Gro (Ad rfl) (Gro (Aa fld71_5 rfl) (Gro (Bm (vs:=[_,_]) ty40) ?_)))
      refine Gro (Be (cells:=[_,_]) ty40 Cj pl40 rfl rfl) (Gro (Runs.neqT (α:=Fr) (a:=(⟨0,0⟩:Fr)) (b:=(⟨0,0⟩:Fr)) eqt40 rfl rfl) (Gro (Ap rfl rfl) (Gr (Av rfl rfl) (Ga rfl (Af (As (S1 82 rfl) (A9 rfl (fun c82=>?_) (fun c82=>?_))))))))
      ·refine Ah (Ga rfl (Af (A2 (Ar (Al ?_)))))
       exfalso;first|omega|(exact absurd rfl asm)|(simp_all;done)
      ·exact A0 (Aj (Ai (Ah (Ga rfl (Af (A2 (A7 rfl rfl (I) A4 ⟨rfl,rfl⟩)))))))
set_option maxHeartbeats 1000000 in
theorem Ans4_ok{nd kd wd mo tq:Int}{ea:Option Addr}{ec:Nat}{es:List Ev}(hl:Sl κ I (.slice ea es.length ec) es)(hH:HistOk nd kd wd mo es)(hlen:es.length≤19)(h7:nd≤7)(ht:0≤tq∧tq≤1048576)(hT:TabRd κ I 0 tzCells){S:List Int}{sa:Option Addr}{sc:Nat}(hs:Sl κ I (.slice sa S.length sc) S)(hv:ValidP S nd)(h0:0<S.length) :
    CallS Tryz.prog κ 184 [.agg #[I64 (nd),.slice ea es.length ec,I64 (kd),I64 (wd),I64 (mo)],.agg #[I64 (4),I64 (0),I64 (0),I64 (tq),.slice sa S.length sc,I64 (0),I64 (0)]] I (fun r J=>r = .agg #[.bool true,I64 0,I64 0,.slice none 0 0,I64 (densG nd (atG kd wd mo es tq) S).num,I64 (densG nd (atG kd wd mo es tq) S).den,.slice none 0 0,.slice none 0 0,.slice none 0 0,I64 0,.slice none 0 0]∧I=J):=by
 refine Ce2 Tryz.func184 rfl rfl ?_
 refine Ah (Ge1 (Bb (cs:=[_,_,_,_,_]) rfl rfl rfl) fun b1=>Ge1 (Bb (cs:=[_,_,_,_,_,_,_]) rfl rfl rfl) fun b2=>Ge1 (A5 ty90 rfl) fun b3=>Af (Ao (Bo mixed (Bu (blk b3 [.bool false,I64 (0),I64 (0),.slice none 0 0,I64 (0),I64 (0),.slice none 0 0,.slice none 0 0,.slice none 0 0,I64 (0),.slice none 0 0] 90::blk b2 [I64 (4),I64 (0),I64 (0),I64 (tq),.slice sa S.length sc,I64 (0),I64 (0)] 71::blk b1 [I64 (nd),.slice ea es.length ec,I64 (kd),I64 (wd),I64 (mo)] 163::I) 11 (Dr 0 rfl (Bm (vs:=[_,_,_,_,_]) ty163) ?_)))))
 refine Dr 1 rfl (Aa fld71_3 rfl) (Dr 2 rfl (Au ty3) ?_)
 refine Dr 4 rfl (Aa fld71_4 rfl) (Dr 5 rfl (Au ty22) ?_)
 refine De (rs:=[3,10]) kr rfl rfl (Eb ?_ (Du ?_))
 ·refine Sc2 rfl (Am call180 rfl rfl (PAt_ok (nd:=nd) (kd:=kd) (wd:=wd) (mo:=mo) (tq:=tq) (Bf hl) hH hlen ht)) fun ad4 cp5=>?_
  refine De (rs:=[6,10]) kr rfl rfl (Eb ?_ (Du ?_))
  ·refine Sc0 rfl (Am call147 rfl rfl (DensityG_ok (nd:=nd) Br (Bf hs) (by have:=edges_le (hH.graph tq);omega))) ?_
   refine Dr 7 rfl (Ad rfl) (Dr 8 rfl (Az rfl rfl) (De (rs:=[9,10]) kr rfl rfl (Eb ?_ (Du ?_))))
   ·refine Sr rfl (Az rfl rfl) Ay ?_
    refine Ds1 10 (Se1 rfl (A5 ty40 rfl) fun b6=>?_)
    refine C4 kr ?_
    refine Ae 11 rfl (B1 ty40) ?_
    rintro _ _ ⟨rfl,rfl⟩
    refine E3 (i:=12) kr rfl (Bg rfl) rfl rfl (Bd rfl) ?_
    refine C5 kr ?_
    refine Ai (As (S2 5 4 rfl rfl) (Ah (Gl2 ty40 ?_)))
    refine Gr (Be (cells:=[_,_,_,_,_,_,_,_,_,_,_]) ty90 Cu pl90 rfl rfl) (Ge0 (Ci (cs:=[_,_,_,_,_,_,_,_,_,_,_]) (vs:=[_,_,_,_,_,_,_,_,_,_,_]) (cs':=[_,_,_,_,_,_,_,_,_,_,_]) ty90) ?_)
    exact Af (A2 (Cw rfl ty90 rfl mm rfl (I) (by first|exact A4|exact Ay) ⟨rfl,rfl⟩))
   ·refine Se1 rfl (A5 ty40 rfl) fun b7=>?_
    refine De (rs:=[9,11]) kr rfl rfl (Eb ?_ (Du ?_))
    ·refine Sr rfl (Az rfl rfl) Ay ?_
     refine C4 kr ?_
     refine Ae 11 rfl (B1 ty40) ?_
     rintro _ _ ⟨rfl,rfl⟩
     refine E3 (i:=12) kr rfl (Bg rfl) rfl rfl (Bd rfl) ?_
     refine C5 kr ?_
     refine Ai (As (S2 5 4 rfl rfl) (Ah (Gl2 ty40 ?_)))
     refine Gr (Be (cells:=[_,_,_,_,_,_,_,_,_,_,_]) ty90 Cu pl90 rfl rfl) (Ge0 (Ci (cs:=[_,_,_,_,_,_,_,_,_,_,_]) (vs:=[_,_,_,_,_,_,_,_,_,_,_]) (cs':=[_,_,_,_,_,_,_,_,_,_,_]) ty90) ?_)
     exact Af (A2 (Cw rfl ty90 rfl mm rfl (I) (by first|exact A4|exact Ay) ⟨rfl,rfl⟩))
    ·refine Se0 rfl (B1 ty40) ?_
     refine Ds1 9 (Sr rfl (Az rfl rfl) Ay ?_)
     refine Ds1 12 (Sr rfl (Bd rfl) Ay ?_)
     refine Dz (Ai (As (S2 5 4 rfl rfl) (Ah (Gl2 ty40 ?_))))
     refine Gr (Be (cells:=[_,_,_,_,_,_,_,_,_,_,_]) ty90 Cu pl90 rfl rfl) (Ge0 (Ci (cs:=[_,_,_,_,_,_,_,_,_,_,_]) (vs:=[_,_,_,_,_,_,_,_,_,_,_]) (cs':=[_,_,_,_,_,_,_,_,_,_,_]) ty90) ?_)
     exact Af (A2 (Cw rfl ty90 rfl mm rfl (I) (by first|exact A4|exact Ay) ⟨rfl,rfl⟩))
  ·refine Se1 rfl (A5 ty40 rfl) fun b8=>?_
   refine Ds1 6 (Sc0 rfl (Am call147 rfl rfl (DensityG_ok (nd:=nd) Br (Bf hs) (by have:=edges_le (hH.graph tq);omega))) ?_)
   refine Dr 7 rfl (Ad rfl) (Dr 8 rfl (Az rfl rfl) (De (rs:=[9,11]) kr rfl rfl (Eb ?_ (Du ?_))))
   ·refine Sr rfl (Az rfl rfl) Ay ?_
    refine C4 kr ?_
    refine Ae 11 rfl (B1 ty40) ?_
    rintro _ _ ⟨rfl,rfl⟩
    refine E3 (i:=12) kr rfl (Bg rfl) rfl rfl (Bd rfl) ?_
    refine C5 kr ?_
    refine Ai (As (S2 5 4 rfl rfl) (Ah (Gl2 ty40 ?_)))
    refine Gr (Be (cells:=[_,_,_,_,_,_,_,_,_,_,_]) ty90 Cu pl90 rfl rfl) (Ge0 (Ci (cs:=[_,_,_,_,_,_,_,_,_,_,_]) (vs:=[_,_,_,_,_,_,_,_,_,_,_]) (cs':=[_,_,_,_,_,_,_,_,_,_,_]) ty90) ?_)
    exact Af (A2 (Cw rfl ty90 rfl mm rfl (I) (by first|exact A4|exact Ay) ⟨rfl,rfl⟩))
   ·refine Se0 rfl (B1 ty40) ?_
    refine Ds1 9 (Sr rfl (Az rfl rfl) Ay ?_)
    refine Ds1 12 (Sr rfl (Bd rfl) Ay ?_)
    refine Dz (Ai (As (S2 5 4 rfl rfl) (Ah (Gl2 ty40 ?_))))
    refine Gr (Be (cells:=[_,_,_,_,_,_,_,_,_,_,_]) ty90 Cu pl90 rfl rfl) (Ge0 (Ci (cs:=[_,_,_,_,_,_,_,_,_,_,_]) (vs:=[_,_,_,_,_,_,_,_,_,_,_]) (cs':=[_,_,_,_,_,_,_,_,_,_,_]) ty90) ?_)
    exact Af (A2 (Cw rfl ty90 rfl mm rfl (I) (by first|exact A4|exact Ay) ⟨rfl,rfl⟩))
 ·refine Se1 rfl (A5 ty40 rfl) fun b9=>?_
  refine Ds1 3 (Sc2 rfl (Am call180 rfl rfl (PAt_ok (nd:=nd) (kd:=kd) (wd:=wd) (mo:=mo) (tq:=tq) (Bf hl) hH hlen ht)) fun ad10 cp11=>?_)
  refine Ds1 6 (Sc0 rfl (Am call147 rfl rfl (DensityG_ok (nd:=nd) Br (Bf hs) (by have:=edges_le (hH.graph tq);omega))) ?_)
  refine Dr 7 rfl (Ad rfl) (Dr 8 rfl (Az rfl rfl) (De (rs:=[9,11]) kr rfl rfl (Eb ?_ (Du ?_))))
  ·refine Sr rfl (Az rfl rfl) Ay ?_
   refine C4 kr ?_
   refine Ae 11 rfl (B1 ty40) ?_
   rintro _ _ ⟨rfl,rfl⟩
   refine E3 (i:=12) kr rfl (Bg rfl) rfl rfl (Bd rfl) ?_
   refine C5 kr ?_
   refine Ai (As (S2 5 4 rfl rfl) (Ah (Gl2 ty40 ?_)))
   refine Gr (Be (cells:=[_,_,_,_,_,_,_,_,_,_,_]) ty90 Cu pl90 rfl rfl) (Ge0 (Ci (cs:=[_,_,_,_,_,_,_,_,_,_,_]) (vs:=[_,_,_,_,_,_,_,_,_,_,_]) (cs':=[_,_,_,_,_,_,_,_,_,_,_]) ty90) ?_)
   exact Af (A2 (Cw rfl ty90 rfl mm rfl (I) (by first|exact A4|exact Ay) ⟨rfl,rfl⟩))
  ·refine Se0 rfl (B1 ty40) ?_
   refine Ds1 9 (Sr rfl (Az rfl rfl) Ay ?_)
   refine Ds1 12 (Sr rfl (Bd rfl) Ay ?_)
   refine Dz (Ai (As (S2 5 4 rfl rfl) (Ah (Gl2 ty40 ?_))))
   refine Gr (Be (cells:=[_,_,_,_,_,_,_,_,_,_,_]) ty90 Cu pl90 rfl rfl) (Ge0 (Ci (cs:=[_,_,_,_,_,_,_,_,_,_,_]) (vs:=[_,_,_,_,_,_,_,_,_,_,_]) (cs':=[_,_,_,_,_,_,_,_,_,_,_]) ty90) ?_)
   exact Af (A2 (Cw rfl ty90 rfl mm rfl (I) (by first|exact A4|exact Ay) ⟨rfl,rfl⟩))
set_option maxHeartbeats 1000000 in
theorem Ans6_ok{nd kd wd mo tq:Int}{ea:Option Addr}{ec:Nat}{es:List Ev}(hl:Sl κ I (.slice ea es.length ec) es)(hH:HistOk nd kd wd mo es)(hlen:es.length≤19)(h7:nd≤7)(ht:0≤tq∧tq≤1048576)(hT:TabRd κ I 0 tzCells) :
    CallS Tryz.prog κ 187 [.agg #[I64 (nd),.slice ea es.length ec,I64 (kd),I64 (wd),I64 (mo)],.agg #[I64 (6),I64 (0),I64 (0),I64 (tq),.slice none 0 0,I64 (0),I64 (0)]] I (fun r J=>∃a c X,r = .agg #[.bool true,I64 ((X.length:Nat):Int),I64 0,.slice a (X:List Int).length c,I64 0,I64 0,.slice none 0 0,.slice none 0 0,.slice none 0 0,I64 0,.slice none 0 0]∧bestCl nd (atG kd wd mo es tq) X∧J=vc 3 (.slice a X.length c) X::I):=by
 refine Ce2 Tryz.func187 rfl rfl ?_
 refine Ah (Ge1 (Bb (cs:=[_,_,_,_,_]) rfl rfl rfl) fun b1=>Ge1 (Bb (cs:=[_,_,_,_,_,_,_]) rfl rfl rfl) fun b2=>Ge1 (A5 ty90 rfl) fun b3=>Af (Ah (Gr (Bm (vs:=[_,_,_,_,_]) ty163) ?_)))
 refine Gf fld71_3 rfl (Gl ty3 ?_)
 refine Gc2 (Am call180 rfl rfl (PAt_ok (nd:=nd) (kd:=kd) (wd:=wd) (mo:=mo) (tq:=tq) (Bf hl) hH hlen ht)) fun ad4 cp5=>?_
 refine G.e (Am call188 rfl rfl (CBest_ok (nd:=nd) Br (hH.graph _) om (Cc hT A4))) ?_
 rintro _ _ ⟨_,_,⟨ad6,cp7,XC8,rfl,hClXC8,rfl⟩,rfl,rfl⟩
 refine Gm rfl (Gr (Az rfl rfl) (Gr (Az rfl rfl) (Ga rfl (Ga rfl (Af (As (S2 5 4 rfl rfl) (Ah (Gm rfl (Gm rfl (Gr (Bw Ab rfl) (Gr (Be (cells:=[_,_,_,_,_,_,_,_,_,_,_]) ty90 Cu pl90 rfl rfl) (Ge0 (Ci (cs:=[_,_,_,_,_,_,_,_,_,_,_]) (vs:=[_,_,_,_,_,_,_,_,_,_,_]) (cs':=[_,_,_,_,_,_,_,_,_,_,_]) ty90) ?_))))))))))))
 exact Af (A2 (Cw rfl ty90 rfl mm rfl (vc 3 (.slice ad6 XC8.length cp7) XC8::I) B7 ⟨ad6,cp7,XC8,rfl,hClXC8,rfl⟩))
set_option maxHeartbeats 1000000 in
theorem Ans7_ok{nd kd wd mo tq:Int}{ea:Option Addr}{ec:Nat}{es:List Ev}(hl:Sl κ I (.slice ea es.length ec) es)(hH:HistOk nd kd wd mo es)(hlen:es.length≤19)(h7:nd≤7)(ht:0≤tq∧tq≤1048576)(hT:TabRd κ I 0 tzCells) :
    CallS Tryz.prog κ 189 [.agg #[I64 (nd),.slice ea es.length ec,I64 (kd),I64 (wd),I64 (mo)],.agg #[I64 (7),I64 (0),I64 (0),I64 (tq),.slice none 0 0,I64 (0),I64 (0)]] I (fun r J=>r = .agg #[.bool true,I64 (triS nd (atG kd wd mo es tq) / 3),I64 0,.slice none 0 0,I64 0,I64 0,.slice none 0 0,.slice none 0 0,.slice none 0 0,I64 0,.slice none 0 0]∧I=J):=by
 refine Ce2 Tryz.func189 rfl rfl ?_
 refine Ah (Ge1 (Bb (cs:=[_,_,_,_,_]) rfl rfl rfl) fun b1=>Ge1 (Bb (cs:=[_,_,_,_,_,_,_]) rfl rfl rfl) fun b2=>Ge1 (A5 ty90 rfl) fun b3=>Af (Ah (Gr (Bm (vs:=[_,_,_,_,_]) ty163) ?_)))
 refine Gf fld71_3 rfl (Gl ty3 ?_)
 refine Gc2 (Am call180 rfl rfl (PAt_ok (nd:=nd) (kd:=kd) (wd:=wd) (mo:=mo) (tq:=tq) (Bf hl) hH hlen ht)) fun ad4 cp5=>?_
 refine Gc0 (Am call190 rfl rfl (TCount_ok (nd:=nd) Br (hH.graph _))) ?_
 refine Gm rfl (Gr (Az rfl rfl) (Gr (Az rfl rfl) (Ga rfl (Ga rfl (Af (As (S2 5 4 rfl rfl) (Ah (Gm rfl (Gr (Be (cells:=[_,_,_,_,_,_,_,_,_,_,_]) ty90 Cu pl90 rfl rfl) (Ge0 (Ci (cs:=[_,_,_,_,_,_,_,_,_,_,_]) (vs:=[_,_,_,_,_,_,_,_,_,_,_]) (cs':=[_,_,_,_,_,_,_,_,_,_,_]) ty90) ?_))))))))))
 exact Af (A2 (Cw rfl ty90 rfl mm rfl (I) (by first|exact A4|exact Ay) ⟨rfl,rfl⟩))
set_option maxHeartbeats 1000000 in
theorem Ask4_ok{nd kd wd mo tq:Int}{ea:Option Addr}{ec:Nat}{es:List Ev}(hl:Sl κ I (.slice ea es.length ec) es)(hH:HistOk nd kd wd mo es)(hlen:es.length≤19)(h7:nd≤7)(ht:0≤tq∧tq≤1048576)(hT:TabRd κ I 0 tzCells){S:List Int}{sa:Option Addr}{sc:Nat}(hs:Sl κ I (.slice sa S.length sc) S)(hv:ValidP S nd)(h0:0<S.length) :
    CallS Tryz.prog κ 56 [I64 (nd),.slice ea es.length ec,.agg #[I64 (kd),I64 (wd),I64 (mo)],.agg #[I64 (4),I64 (0),I64 (0),I64 (tq),.slice sa S.length sc,I64 (0),I64 (0)]] I (fun r J=>r = .tuple #[.agg #[.bool true,I64 0,I64 0,.slice none 0 0,I64 (densG nd (atG kd wd mo es tq) S).num,I64 (densG nd (atG kd wd mo es tq) S).den,.slice none 0 0,.slice none 0 0,.slice none 0 0,I64 0,.slice none 0 0],I64 0]∧I=J):=by
 refine Ce4 Tryz.func56 rfl rfl ?_
 refine Ah (Ge1 (Bb (cs:=[_,_,_]) rfl rfl rfl) fun b1=>Ge1 (Bb (cs:=[_,_,_,_,_,_,_]) rfl rfl rfl) fun b2=>Ge1 (A5 ty90 rfl) fun b3=>Ga rfl (Af (Ao (Ah (Gm rfl (Gm rfl (Gl3 ty31 ?_)))))))
 refine Gc0 (Am call97 rfl rfl (ACheck_ok (nd:=nd) (kd:=kd) (wd:=wd) (mo:=mo) (Bf hl))) ?_
 refine Ga rfl (Af (Ah (Gm rfl (Gr (Bv rfl rfl) (Af (As (S7 17 10 8 7 6 0 1 rfl rfl rfl rfl rfl rfl rfl) (A9 rfl (fun c17=>?_) (fun c17=>?_))))))))
 ·exact absurd (slideE_zeroH hH) c17
 ·refine A0 (Ai (Ao (Ah (Gl7 ty71 ?_))))
  refine Gm rfl (Gc0 (Am call105 rfl rfl (QCheck4_ok (nd:=nd) (tq:=tq) ht (Bf hs) hv h0)) ?_)
  refine Ga rfl (Af (Ah (Gm rfl (Gr (Bv rfl rfl) (Af (A9 rfl (fun c24=>?_) (fun c24=>?_)))))))
  ·exact absurd rfl c24
  ·refine A0 (Ai (Ao (Bo mixed (Bu (blk b2 [I64 (4),I64 (0),I64 (0),I64 (tq),.slice sa S.length sc,I64 (0),I64 (0)] 71::blk b1 [I64 (kd),I64 (wd),I64 (mo)] 31::I) 12 (Dr 1 rfl (Aa fld71_0 rfl) (Dr 2 rfl (Au ty3) ?_))))))
   refine Dr 4 rfl (Ad rfl) (Dr 5 rfl (Ad rfl) (Dr 6 rfl (Bm (vs:=[_,_,_]) ty31) ?_))
   refine Dr 7 rfl (Be (cells:=[_,_,_,_,_]) ty163 Er pl163 rfl rfl) (Dr 8 rfl (Bm (vs:=[_,_,_,_,_,_,_]) ty71) ?_)
   refine Ds1 0 (Se rfl (Am call106 rfl rfl Answers_ok) ?_)
   rintro _ _ ⟨_,_,⟨mp4,rfl,rfl⟩,rfl,rfl⟩
   refine ⟨Ay,?_⟩
   refine Ds1 3 (Sr rfl (D9 (i:=3) Cf Bl rfl rfl rfl mm rfl) Ay ?_)
   refine Ds1 9 (Sc0 rfl (Cr call184 rfl rfl rfl (Ans4_ok (nd:=nd) (kd:=kd) (wd:=wd) (mo:=mo) (tq:=tq) (Bf hl) hH hlen h7 ht (Cc hT A4) (Bf hs) hv h0)) ?_)
   refine Ds1 10 (Se0 rfl (Ci (cs:=[_,_,_,_,_,_,_,_,_,_,_]) (vs:=[_,_,_,_,_,_,_,_,_,_,_]) (cs':=[_,_,_,_,_,_,_,_,_,_,_]) ty90) ?_)
   exact Dr 11 rfl (Bd rfl) (Dz (Ai (As (S2 9 8 rfl rfl) (A2 (Ct rfl ty90 rfl rfl mm rfl (I) (by first|exact A4|exact Ay) ⟨rfl,rfl⟩)))))
set_option maxHeartbeats 1000000 in
theorem Ask6_ok{nd kd wd mo tq:Int}{ea:Option Addr}{ec:Nat}{es:List Ev}(hl:Sl κ I (.slice ea es.length ec) es)(hH:HistOk nd kd wd mo es)(hlen:es.length≤19)(h7:nd≤7)(ht:0≤tq∧tq≤1048576)(hT:TabRd κ I 0 tzCells) :
    CallS Tryz.prog κ 56 [I64 (nd),.slice ea es.length ec,.agg #[I64 (kd),I64 (wd),I64 (mo)],.agg #[I64 (6),I64 (0),I64 (0),I64 (tq),.slice none 0 0,I64 (0),I64 (0)]] I (fun r J=>∃a c X,r = .tuple #[.agg #[.bool true,I64 ((X.length:Nat):Int),I64 0,.slice a (X:List Int).length c,I64 0,I64 0,.slice none 0 0,.slice none 0 0,.slice none 0 0,I64 0,.slice none 0 0],I64 0]∧bestCl nd (atG kd wd mo es tq) X∧J=vc 3 (.slice a X.length c) X::I):=by
 refine Ce4 Tryz.func56 rfl rfl ?_
 refine Ah (Ge1 (Bb (cs:=[_,_,_]) rfl rfl rfl) fun b1=>Ge1 (Bb (cs:=[_,_,_,_,_,_,_]) rfl rfl rfl) fun b2=>Ge1 (A5 ty90 rfl) fun b3=>Ga rfl (Af (Ao (Ah (Gm rfl (Gm rfl (Gl3 ty31 ?_)))))))
 refine Gc0 (Am call97 rfl rfl (ACheck_ok (nd:=nd) (kd:=kd) (wd:=wd) (mo:=mo) (Bf hl))) ?_
 refine Ga rfl (Af (Ah (Gm rfl (Gr (Bv rfl rfl) (Af (As (S7 17 10 8 7 6 0 1 rfl rfl rfl rfl rfl rfl rfl) (A9 rfl (fun c17=>?_) (fun c17=>?_))))))))
 ·exact absurd (slideE_zeroH hH) c17
 ·refine A0 (Ai (Ao (Ah (Gl7 ty71 ?_))))
  refine Gm rfl (Gc0 (Am call105 rfl rfl (QCheck6_ok (nd:=nd) (tq:=tq) ht)) ?_)
  refine Ga rfl (Af (Ah (Gm rfl (Gr (Bv rfl rfl) (Af (A9 rfl (fun c24=>?_) (fun c24=>?_)))))))
  ·exact absurd rfl c24
  ·refine A0 (Ai (Ao (Bo mixed (Bu (blk b2 [I64 (6),I64 (0),I64 (0),I64 (tq),.slice none 0 0,I64 (0),I64 (0)] 71::blk b1 [I64 (kd),I64 (wd),I64 (mo)] 31::I) 12 (Dr 1 rfl (Aa fld71_0 rfl) (Dr 2 rfl (Au ty3) ?_))))))
   refine Dr 4 rfl (Ad rfl) (Dr 5 rfl (Ad rfl) (Dr 6 rfl (Bm (vs:=[_,_,_]) ty31) ?_))
   refine Dr 7 rfl (Be (cells:=[_,_,_,_,_]) ty163 Er pl163 rfl rfl) (Dr 8 rfl (Bm (vs:=[_,_,_,_,_,_,_]) ty71) ?_)
   refine Ds1 0 (Se rfl (Am call106 rfl rfl Answers_ok) ?_)
   rintro _ _ ⟨_,_,⟨mp4,rfl,rfl⟩,rfl,rfl⟩
   refine ⟨Ay,?_⟩
   refine Ds1 3 (Sr rfl (D9 (i:=5) Cf Bl rfl rfl rfl mm rfl) Ay ?_)
   refine Ds1 9 (Se rfl (Cr call187 rfl rfl rfl (Ans6_ok (nd:=nd) (kd:=kd) (wd:=wd) (mo:=mo) (tq:=tq) (Bf hl) hH hlen h7 ht (Cc hT A4))) ?_)
   rintro _ _ ⟨_,_,⟨ad5,cp6,XK7,rfl,hClXK7,rfl⟩,rfl,rfl⟩
   refine ⟨Ay,?_⟩
   refine Ds1 10 (Se0 rfl (Ci (cs:=[_,_,_,_,_,_,_,_,_,_,_]) (vs:=[_,_,_,_,_,_,_,_,_,_,_]) (cs':=[_,_,_,_,_,_,_,_,_,_,_]) ty90) ?_)
   exact Dr 11 rfl (Bd rfl) (Dz (Ai (As (S2 9 8 rfl rfl) (A2 (Ct rfl ty90 rfl rfl mm rfl (vc 3 (.slice ad5 XK7.length cp6) XK7::I) B7 ⟨ad5,cp6,XK7,rfl,hClXK7,rfl⟩)))))
set_option maxHeartbeats 1000000 in
theorem Ask7_ok{nd kd wd mo tq:Int}{ea:Option Addr}{ec:Nat}{es:List Ev}(hl:Sl κ I (.slice ea es.length ec) es)(hH:HistOk nd kd wd mo es)(hlen:es.length≤19)(h7:nd≤7)(ht:0≤tq∧tq≤1048576)(hT:TabRd κ I 0 tzCells) :
    CallS Tryz.prog κ 56 [I64 (nd),.slice ea es.length ec,.agg #[I64 (kd),I64 (wd),I64 (mo)],.agg #[I64 (7),I64 (0),I64 (0),I64 (tq),.slice none 0 0,I64 (0),I64 (0)]] I (fun r J=>r = .tuple #[.agg #[.bool true,I64 (triS nd (atG kd wd mo es tq) / 3),I64 0,.slice none 0 0,I64 0,I64 0,.slice none 0 0,.slice none 0 0,.slice none 0 0,I64 0,.slice none 0 0],I64 0]∧I=J):=by
 refine Ce4 Tryz.func56 rfl rfl ?_
 refine Ah (Ge1 (Bb (cs:=[_,_,_]) rfl rfl rfl) fun b1=>Ge1 (Bb (cs:=[_,_,_,_,_,_,_]) rfl rfl rfl) fun b2=>Ge1 (A5 ty90 rfl) fun b3=>Ga rfl (Af (Ao (Ah (Gm rfl (Gm rfl (Gl3 ty31 ?_)))))))
 refine Gc0 (Am call97 rfl rfl (ACheck_ok (nd:=nd) (kd:=kd) (wd:=wd) (mo:=mo) (Bf hl))) ?_
 refine Ga rfl (Af (Ah (Gm rfl (Gr (Bv rfl rfl) (Af (As (S7 17 10 8 7 6 0 1 rfl rfl rfl rfl rfl rfl rfl) (A9 rfl (fun c17=>?_) (fun c17=>?_))))))))
 ·exact absurd (slideE_zeroH hH) c17
 ·refine A0 (Ai (Ao (Ah (Gl7 ty71 ?_))))
  refine Gm rfl (Gc0 (Am call105 rfl rfl (QCheck7_ok (nd:=nd) (tq:=tq) ht)) ?_)
  refine Ga rfl (Af (Ah (Gm rfl (Gr (Bv rfl rfl) (Af (A9 rfl (fun c24=>?_) (fun c24=>?_)))))))
  ·exact absurd rfl c24
  ·refine A0 (Ai (Ao (Bo mixed (Bu (blk b2 [I64 (7),I64 (0),I64 (0),I64 (tq),.slice none 0 0,I64 (0),I64 (0)] 71::blk b1 [I64 (kd),I64 (wd),I64 (mo)] 31::I) 12 (Dr 1 rfl (Aa fld71_0 rfl) (Dr 2 rfl (Au ty3) ?_))))))
   refine Dr 4 rfl (Ad rfl) (Dr 5 rfl (Ad rfl) (Dr 6 rfl (Bm (vs:=[_,_,_]) ty31) ?_))
   refine Dr 7 rfl (Be (cells:=[_,_,_,_,_]) ty163 Er pl163 rfl rfl) (Dr 8 rfl (Bm (vs:=[_,_,_,_,_,_,_]) ty71) ?_)
   refine Ds1 0 (Se rfl (Am call106 rfl rfl Answers_ok) ?_)
   rintro _ _ ⟨_,_,⟨mp4,rfl,rfl⟩,rfl,rfl⟩
   refine ⟨Ay,?_⟩
   refine Ds1 3 (Sr rfl (D9 (i:=6) Cf Bl rfl rfl rfl mm rfl) Ay ?_)
   refine Ds1 9 (Sc0 rfl (Cr call189 rfl rfl rfl (Ans7_ok (nd:=nd) (kd:=kd) (wd:=wd) (mo:=mo) (tq:=tq) (Bf hl) hH hlen h7 ht (Cc hT A4))) ?_)
   refine Ds1 10 (Se0 rfl (Ci (cs:=[_,_,_,_,_,_,_,_,_,_,_]) (vs:=[_,_,_,_,_,_,_,_,_,_,_]) (cs':=[_,_,_,_,_,_,_,_,_,_,_]) ty90) ?_)
   exact Dr 11 rfl (Bd rfl) (Dz (Ai (As (S2 9 8 rfl rfl) (A2 (Ct rfl ty90 rfl rfl mm rfl (I) (by first|exact A4|exact Ay) ⟨rfl,rfl⟩)))))
end Go.Sl
/- The densest set as the best of all sets, each once: the greatest set of the greatest density. No Go. No conditions. -/
namespace Go.Sl
end Go.Sl
namespace Go.Sl
open Go.Proofs
set_option maxRecDepth 4000
set_option maxHeartbeats 8000000 in
theorem AnswerAgrees_walk{κ:Ctx}{I:List Item}{la:Option Addr}{ln lc:Nat}{ls:List Int}(hl:Sl κ I (.slice la ln lc) ls)(hT:TabRd κ I 0 tzCells) :
    CallS Tryz.prog κ 13 [.slice la ln lc] I (fun r J=>r = .bool true∧I=J):=by
 refine Ce1 Tryz.func13 rfl rfl ?_
 refine Ah (Ga rfl (Af (Ao (Ah (Gm rfl (Gc0 (Am call16 rfl rfl Few_ok) ?_))))))
 refine Gr (C7 rfl) (Af (A9 rfl (fun c25=>?_) (fun c25=>?_)))
 ·refine Ah (Gc0 (Am call41 rfl rfl (Awake43_ok (Cc hT A4))) ?_)
  exact Ga rfl (Af (A2 (Al (A7 rfl rfl (I) (by first|exact A4|exact FitW) ⟨rfl,rfl⟩))))
 ·refine A0 (Ai (Ah (Gm rfl (G.e (Am call18 rfl rfl New_ok) ?_))))
  rintro _ _ ⟨_,_,⟨dk1,rfl,rfl⟩,rfl,rfl⟩
  show G Tryz.prog κ _ _ _ _ ([(28,.pointer (some ⟨dk1,0,none⟩)),(27,.slice la ln lc),(25,.bool (decide (¬((ln:Int)≤500)))),(24,.bool (decide ((ln:Int)≤500))),(23,.slice la ln lc),(2,.bool false),(0,.slice la ln lc)]:Env) (blk dk1 [.slice la ln lc,I64 (0)] 125::I)
  have hi0:(0:Int)≤0:=Int.le_refl _
  refine Ga rfl (Af (Ah (Gm rfl (G.e (Am call42 rfl rfl (Some43_at (by repeat (first|exact AtF.head _ _|apply AtF.tail)) (fun _=>Ch hl A4) om  )) ?_))))
  rintro _ _ ⟨_,_,⟨⟨nn2,ad3,cp4,es5,kd6,wd7,mo8,i9⟩,⟨⟨rfl,hHes5,hles5,hnes5⟩,hi9⟩,rfl⟩,rfl,rfl⟩
  show G Tryz.prog κ _ _ _ _ ([(31,.tuple #[I64 (nn2),.slice ad3 es5.length cp4,.agg #[I64 (kd6),I64 (wd7),I64 (mo8)]]),(30,.pointer (some ⟨dk1,0,none⟩)),(3,.pointer (some ⟨dk1,0,none⟩)),(28,.pointer (some ⟨dk1,0,none⟩)),(27,.slice la ln lc),(25,.bool (decide (¬((ln:Int)≤500)))),(24,.bool (decide ((ln:Int)≤500))),(23,.slice la ln lc),(2,.bool false),(0,.slice la ln lc)]:Env) (vc 108 (.slice ad3 es5.length cp4) (es5)::blk dk1 [.slice la ln lc,I64 (i9)] 125::I)
  have hi9:0≤i9:=hi9
  dsimp only at hHes5
  dsimp only at hles5
  dsimp only at hnes5
  refine Gm rfl (Gr (Az rfl rfl) (Gr (Az rfl rfl) (Gr (Az rfl rfl) (Ge1 (A5 ty31 rfl) fun b10=>Ga rfl (Ga rfl (Ge0 (Es3_3 ty31) ?_))))))
  have hH:HistOk nn2 kd6 wd7 mo8 es5:=hHes5
  have hel:es5.length≤19:=by have h9:es5.length≤12:=hles5;omega
  have hn2:2≤nn2∧nn2≤6:=hnes5
  refine Af (As (S4 5 4 6 3 rfl rfl rfl rfl) (Ah (Gm rfl (G.e (Am call19 rfl rfl (Next_ok (by repeat (first|exact AtF.head _ _|apply AtF.tail)) (Bf hl) om om)) ?_))))
  rintro _ _ ⟨_,_,⟨x11,i12,rfl,hx11,hi12,rfl⟩,rfl,rfl⟩
  show G Tryz.prog κ _ _ _ _ ([(36,I64 (x11)),(35,.pointer (some ⟨dk1,0,none⟩)),(5,.slice ad3 es5.length cp4),(4,I64 (nn2)),(6,.pointer (some ⟨b10,0,none⟩)),(3,.pointer (some ⟨dk1,0,none⟩))]:Env) (blk b10 [I64 (kd6),I64 (wd7),I64 (mo8)] 31::vc 108 (.slice ad3 es5.length cp4) (es5)::blk dk1 [.slice la ln lc,I64 (i12)] 125::I)
  refine Gm rfl (Gm rfl (G.e (Am call49 rfl rfl (MkSome_at (by repeat (first|exact AtF.head _ _|apply AtF.tail)) (fun _=>Ch hl A4) om  om)) ?_))
  rintro _ _ ⟨_,_,⟨⟨ad13,cp14,sx15,i16⟩,⟨⟨rfl,hvsx15,hlsx15⟩,hi16⟩,rfl⟩,rfl,rfl⟩
  show G Tryz.prog κ _ _ _ _ ([(39,.slice ad13 sx15.length cp14),(38,I64 (nn2)),(37,.pointer (some ⟨dk1,0,none⟩)),(36,I64 (x11)),(35,.pointer (some ⟨dk1,0,none⟩)),(5,.slice ad3 es5.length cp4),(4,I64 (nn2)),(6,.pointer (some ⟨b10,0,none⟩)),(3,.pointer (some ⟨dk1,0,none⟩))]:Env) (vc 3 (.slice ad13 sx15.length cp14) (sx15)::blk b10 [I64 (kd6),I64 (wd7),I64 (mo8)] 31::vc 108 (.slice ad3 es5.length cp4) (es5)::blk dk1 [.slice la ln lc,I64 (i16)] 125::I)
  have hi16:0≤i16:=hi16
  dsimp only at hvsx15
  dsimp only at hlsx15
  refine Ga rfl (Ga rfl ?_)
  have hsv:ValidP sx15 nn2:=hvsx15
  have hsl:0<sx15.length∧(sx15.length:Int)≤nn2:=hlsx15
  have htq:0≤x11∧x11≤1048576:=by omega
  refine Af (Ah (Gm rfl (Gm rfl (Gl3 ty31 ?_))))
  refine Gm rfl (G.e (Am call44 rfl rfl (At_ok (nd:=nn2) (kd:=kd6) (wd:=wd7) (mo:=mo8) (tq:=x11) Br hH hel htq)) ?_)
  rintro _ _ ⟨_,_,⟨ad17,cp18,rfl,rfl⟩,rfl,rfl⟩
  refine Gm rfl (Gr (Az rfl rfl) (Gr (Az rfl rfl) (Ge1 (A5 ty48 rfl) fun b19=>Ge0 (B1 ty48) ?_)))
  refine Ga rfl (Af (As (S7 10 9 8 7 5 4 6 rfl rfl rfl rfl rfl rfl rfl) (Ah (Gm rfl (Gm rfl (Gl3 ty31 ?_))))))
  refine Gm rfl (Gm rfl (Gr (Be (cells:=[_,_,_,_,_,_,_]) ty71 Ew pl71 rfl rfl) (Gc0 (Am call56 rfl rfl (Ask4_ok (nd:=nn2) (kd:=kd6) (wd:=wd7) (mo:=mo8) (tq:=x11) Br hH hel om htq (Cc hT A4) Br hsv hsl.1)) ?_)))
  refine Gm rfl (Gr (Az rfl rfl) (Gr (Az rfl rfl) (Ge1 (A5 ty90 rfl) fun b20=>Ge0 (Ci (cs:=[_,_,_,_,_,_,_,_,_,_,_]) (vs:=[_,_,_,_,_,_,_,_,_,_,_]) (cs':=[_,_,_,_,_,_,_,_,_,_,_]) ty90) ?_)))
  refine Ga rfl (Af (As (S9 12 11 10 9 8 7 5 4 6 rfl rfl rfl rfl rfl rfl rfl rfl rfl) (Ah (Gm rfl (Gm rfl (Gl3 ty31 ?_))))))
  refine Gm rfl (Gr (Be (cells:=[_,_,_,_,_,_,_]) ty71 Ew pl71 rfl rfl) (G.e (Am call56 rfl rfl (Ask6_ok (nd:=nn2) (kd:=kd6) (wd:=wd7) (mo:=mo8) (tq:=x11) Br hH hel om htq (Cc hT A4))) ?_))
  rintro _ _ ⟨_,_,⟨ad21,cp22,XK23,rfl,hClXK23,rfl⟩,rfl,rfl⟩
  refine Gm rfl (Gr (Az rfl rfl) (Gr (Az rfl rfl) (Ge1 (A5 ty90 rfl) fun b24=>Ge0 (Ci (cs:=[_,_,_,_,_,_,_,_,_,_,_]) (vs:=[_,_,_,_,_,_,_,_,_,_,_]) (cs':=[_,_,_,_,_,_,_,_,_,_,_]) ty90) ?_)))
  refine Ga rfl (Af (As (S11 14 13 12 11 10 9 8 7 5 4 6 rfl rfl rfl rfl rfl rfl rfl rfl rfl rfl rfl) (Ah (Gm rfl (Gm rfl (Gl3 ty31 ?_))))))
  refine Gm rfl (Gr (Be (cells:=[_,_,_,_,_,_,_]) ty71 Ew pl71 rfl rfl) (Gc0 (Am call56 rfl rfl (Ask7_ok (nd:=nn2) (kd:=kd6) (wd:=wd7) (mo:=mo8) (tq:=x11) Br hH hel om htq (Cc hT A4))) ?_))
  refine Gm rfl (Gr (Az rfl rfl) (Gr (Az rfl rfl) (Ge1 (A5 ty90 rfl) fun b25=>Ge0 (Ci (cs:=[_,_,_,_,_,_,_,_,_,_,_]) (vs:=[_,_,_,_,_,_,_,_,_,_,_]) (cs':=[_,_,_,_,_,_,_,_,_,_,_]) ty90) ?_)))
  refine Ga rfl (Af (As (S9 16 15 14 13 12 11 10 9 8 rfl rfl rfl rfl rfl rfl rfl rfl rfl) (Ah (Gl2 ty48 ?_))))
  refine Gm rfl (Gc0 (Am call73 rfl rfl (Density03_ok (nd:=nn2) Br Br (by have h9:=edges_le (hH.graph x11);omega) om)) ?_)
  refine Gm rfl (Gr (Az rfl rfl) (Gr (Az rfl rfl) (Ge1 (A5 ty40 rfl) fun b26=>Ge0 (B1 ty40) ?_)))
  refine Ga rfl (Af (As (S9 17 16 15 14 13 12 11 10 9 rfl rfl rfl rfl rfl rfl rfl rfl rfl) (Ah (Gl2 ty48 ?_))))
  refine G.e (Am call74 rfl rfl (Best26_ok (nd:=nn2) Br (hH.graph _) om)) ?_
  rintro _ _ ⟨_,_,⟨ad27,cp28,XR29,R230,rfl,hClXR29,hSXR29,rfl⟩,rfl,rfl⟩
  have hS2XR29:=Ch hSXR29 (Ea (perm_fr (A:=ownR 3 R230) (L:=[blk b26 [I64 ((densG nn2 (atG kd6 wd7 mo8 es5 x11) sx15).num),I64 ((densG nn2 (atG kd6 wd7 mo8 es5 x11) sx15).den)] 40,blk b25 [.bool true,I64 (triS nn2 (atG kd6 wd7 mo8 es5 x11) / 3),I64 (0),.slice none 0 0,I64 (0),I64 (0),.slice none 0 0,.slice none 0 0,.slice none 0 0,I64 (0),.slice none 0 0] 90,blk b24 [.bool true,I64 (((XK23.length:Nat):Int)),I64 (0),.slice ad21 XK23.length cp22,I64 (0),I64 (0),.slice none 0 0,.slice none 0 0,.slice none 0 0,I64 (0),.slice none 0 0] 90,vc 3 (.slice ad21 XK23.length cp22) (XK23),blk b20 [.bool true,I64 (0),I64 (0),.slice none 0 0,I64 ((densG nn2 (atG kd6 wd7 mo8 es5 x11) sx15).num),I64 ((densG nn2 (atG kd6 wd7 mo8 es5 x11) sx15).den),.slice none 0 0,.slice none 0 0,.slice none 0 0,I64 (0),.slice none 0 0] 90,blk b19 [I64 (nn2),.slice ad17 (atG kd6 wd7 mo8 es5 x11).length cp18] 48,vc 135 (.slice ad17 (atG kd6 wd7 mo8 es5 x11).length cp18) (atG kd6 wd7 mo8 es5 x11),vc 3 (.slice ad13 sx15.length cp14) (sx15),blk b10 [I64 (kd6),I64 (wd7),I64 (mo8)] 31,vc 108 (.slice ad3 es5.length cp4) (es5),blk dk1 [.slice la ln lc,I64 (i16)] 125]) (T:=I)).symm)
  refine G.fit (J:=blk b26 [I64 ((densG nn2 (atG kd6 wd7 mo8 es5 x11) sx15).num),I64 ((densG nn2 (atG kd6 wd7 mo8 es5 x11) sx15).den)] 40::blk b25 [.bool true,I64 (triS nn2 (atG kd6 wd7 mo8 es5 x11) / 3),I64 (0),.slice none 0 0,I64 (0),I64 (0),.slice none 0 0,.slice none 0 0,.slice none 0 0,I64 (0),.slice none 0 0] 90::blk b24 [.bool true,I64 (((XK23.length:Nat):Int)),I64 (0),.slice ad21 XK23.length cp22,I64 (0),I64 (0),.slice none 0 0,.slice none 0 0,.slice none 0 0,I64 (0),.slice none 0 0] 90::vc 3 (.slice ad21 XK23.length cp22) (XK23)::blk b20 [.bool true,I64 (0),I64 (0),.slice none 0 0,I64 ((densG nn2 (atG kd6 wd7 mo8 es5 x11) sx15).num),I64 ((densG nn2 (atG kd6 wd7 mo8 es5 x11) sx15).den),.slice none 0 0,.slice none 0 0,.slice none 0 0,I64 (0),.slice none 0 0] 90::blk b19 [I64 (nn2),.slice ad17 (atG kd6 wd7 mo8 es5 x11).length cp18] 48::vc 135 (.slice ad17 (atG kd6 wd7 mo8 es5 x11).length cp18) (atG kd6 wd7 mo8 es5 x11)::vc 3 (.slice ad13 sx15.length cp14) (sx15)::blk b10 [I64 (kd6),I64 (wd7),I64 (mo8)] 31::vc 108 (.slice ad3 es5.length cp4) (es5)::blk dk1 [.slice la ln lc,I64 (i16)] 125::(ownR 3 R230++I)) (Ea (perm_fr (A:=ownR 3 R230) (L:=[blk b26 [I64 ((densG nn2 (atG kd6 wd7 mo8 es5 x11) sx15).num),I64 ((densG nn2 (atG kd6 wd7 mo8 es5 x11) sx15).den)] 40,blk b25 [.bool true,I64 (triS nn2 (atG kd6 wd7 mo8 es5 x11) / 3),I64 (0),.slice none 0 0,I64 (0),I64 (0),.slice none 0 0,.slice none 0 0,.slice none 0 0,I64 (0),.slice none 0 0] 90,blk b24 [.bool true,I64 (((XK23.length:Nat):Int)),I64 (0),.slice ad21 XK23.length cp22,I64 (0),I64 (0),.slice none 0 0,.slice none 0 0,.slice none 0 0,I64 (0),.slice none 0 0] 90,vc 3 (.slice ad21 XK23.length cp22) (XK23),blk b20 [.bool true,I64 (0),I64 (0),.slice none 0 0,I64 ((densG nn2 (atG kd6 wd7 mo8 es5 x11) sx15).num),I64 ((densG nn2 (atG kd6 wd7 mo8 es5 x11) sx15).den),.slice none 0 0,.slice none 0 0,.slice none 0 0,I64 (0),.slice none 0 0] 90,blk b19 [I64 (nn2),.slice ad17 (atG kd6 wd7 mo8 es5 x11).length cp18] 48,vc 135 (.slice ad17 (atG kd6 wd7 mo8 es5 x11).length cp18) (atG kd6 wd7 mo8 es5 x11),vc 3 (.slice ad13 sx15.length cp14) (sx15),blk b10 [I64 (kd6),I64 (wd7),I64 (mo8)] 31,vc 108 (.slice ad3 es5.length cp4) (es5),blk dk1 [.slice la ln lc,I64 (i16)] 125]) (T:=I))) ?_
  refine Gm rfl (Gr (Az rfl rfl) (Gr (Az rfl rfl) (Ga rfl (Ga rfl ?_))))
  have hXY:XK23=XR29:=hClXK23.uniq hClXR29
  refine Af (As (S10 19 17 16 15 14 13 12 11 10 9 rfl rfl rfl rfl rfl rfl rfl rfl rfl rfl) (Ah (Gl2 ty48 ?_)))
  refine G.e (Am call75 rfl rfl (Count29_ok (nd:=nn2) Br (hH.graph _))) ?_
  rintro _ _ ⟨_,_,⟨rfl,rfl⟩,rfl,rfl⟩
  refine Gm rfl (Gr (Az rfl rfl) (Gr (Az rfl rfl) (Ga rfl (Ga rfl (Af (As (S10 21 19 17 16 15 14 13 12 11 10 rfl rfl rfl rfl rfl rfl rfl rfl rfl rfl) (Ah (Gm rfl (Gr (Bs rfl rfl) (Gm rfl (Bi (d:=94) rfl (fun g94=>?_) (fun g94=>?_))))))))))))
  ·refine Gro (Ad rfl) (Gro (Bs rfl rfl) (Gr (Ap rfl rfl) (Gm rfl (Bi (d:=98) rfl (fun g98=>?_) (fun g98=>?_)))))
   ·refine Gro (Ad rfl) (Gro (Bs rfl rfl) (Gr (Ap rfl rfl) (Gm rfl (Bi (d:=102) rfl (fun g102=>?_) (fun g102=>?_)))))
    ·refine Gro (Ad rfl) (Gro (Bs rfl rfl) (Gr (Ap rfl rfl) (Gm rfl (Bi (d:=106) rfl (fun g106=>?_) (fun g106=>?_)))))
     ·refine Gro (Aa fld90_0 rfl) (Gro (Au ty4) ?_)
      refine Gr (Ap rfl rfl) (Gm rfl (Gro (Aa fld90_0 rfl) (Gro (Au ty4) ?_)))
      refine Gr (Ap rfl rfl) (Gm rfl (Gro (Aa fld90_0 rfl) (Gro (Au ty4) ?_)))
      refine Gr (Ap rfl rfl) (Gm rfl (Gro (Aa fld90_4 rfl) (Gro (Bm (vs:=[_,_]) ty40) ?_)))
      refine Gro (Bm (vs:=[_,_]) ty40) ?_
      refine Gro (Runs.eqlT (α:=Fr) (a:=(densG nn2 (atG kd6 wd7 mo8 es5 x11) sx15)) (b:=(densG nn2 (atG kd6 wd7 mo8 es5 x11) sx15)) eqt40 rfl rfl) (Gr (Ap rfl rfl) (Gm rfl (Bi (d:=124) rfl (fun g124=>?_) (fun g124=>?_))))
      ·refine Gro (Aa fld90_3 rfl) (Gro (Au ty22) ?_)
       refine Gro (Ad rfl) (Eu (Cv rfl rfl rfl) (Am call61 rfl rfl (Cmp_ok Br (Bf hS2XR29))) ?_)
       rintro _ _ ⟨_,_,⟨rfl,rfl⟩,rfl,rfl⟩
       refine Gro (Bs rfl rfl) (Gr (Ap rfl rfl) (Gm rfl (Bi (d:=131) rfl (fun g131=>?_) (fun g131=>?_))))
       ·refine Gro (Aa fld90_1 rfl) (Gro (Au ty3) ?_)
        refine Gro (Ad rfl) (Gro (Bw Ab rfl) (Gro (Bs rfl rfl) (Gr (Ap rfl rfl) (Gm rfl (Bi (d:=138) rfl (fun g138=>?_) (fun g138=>?_))))))
        ·refine Gro (Aa fld90_1 rfl) (Gro (Au ty3) ?_)
         refine Gro (Ad rfl) (Gro (Bs rfl rfl) (Gr (Ap rfl rfl) (Gm rfl (Bi (d:=144) rfl (fun g144=>?_) (fun g144=>?_)))))
         ·refine Eu (Cv rfl rfl rfl) (Am call41 rfl rfl (Awake43_ok (Cc hT A4))) ?_
          rintro _ _ ⟨_,_,⟨rfl,rfl⟩,rfl,rfl⟩
          exact Gr (Ap rfl rfl) (Ga rfl (Af (As (S1 2 rfl) (A2 (A7 rfl rfl (I) (by first|exact A4|exact FitW) ⟨rfl,rfl⟩)))))
         ·exact absurd rfl g144
        ·exact absurd (congrArg (fun l:List Int=>((l.length:Nat):Int)) hXY) (by simpa using g138)
       ·exact absurd ((cmpL_eq _ _).2 hXY) (by simpa using g131)
      ·exact absurd rfl g124
     ·exact absurd rfl g106
    ·exact absurd rfl g102
   ·exact absurd rfl g98
  ·exact absurd rfl g94
end Go.Sl
namespace Go.Sl
open Go.ChangeShapes Go.WideShapes Go.ChangeAt Go.RowKit Go.Deep
section
variable {κ:Ctx}{w w':World}{I:List Item}
theorem old_cell(hs:Sep κ w' I)(hm:old w.heap.size w∈I){b o:Nat}{u:Value}(hc:w.cell? ⟨b,o,none⟩=some u):w'.cell? ⟨b,o,none⟩=some u:=by
 have hok:∀k,k<w.heap.size→w'.heap[k]? = w.heap[k]? :=(hs.ok _ hm).1
 have hb:b<w.heap.size:=by
  refine Nat.not_le.1 fun h=>?_
  simp [World.cell?,Array.getElem?_eq_none h] at hc
 have:=hok b hb
 simp only [World.cell?,this] at hc ⊢
 exact hc
def SlW{α:Type}[Enc α](w:World)(v:Value)(xs:List α):Prop:=slOk w (Enc.sz α) v xs.length (cells xs)
theorem SlW.sl{α:Type}[Enc α]{v:Value}{xs:List α}(h:SlW w v xs)(hm:old w.heap.size w∈I):Sl κ I v xs:=fun w' hs=>by
 obtain ⟨a,cap,hv,h1,h2,h3,h4⟩:=h
 refine ⟨a,cap,hv,h1,h2,h3,fun hc=>?_⟩
 obtain ⟨b,off,ha,hr⟩:=h4 hc
 exact ⟨b,off,ha,fun j u hj=>old_cell hs hm (hr j u hj)⟩
end
section
variable {P:Program}{w:World}{r:Reach}{b0:Nat}{t:TypeId}{H:Type}{enc:TypeId×Value→H}{base:Nat}{spare:Nat→Bool}{held:Bool}
theorem spot_none{e:TypeId}{a:Addr}{len cap:Nat}(ht:P.underlying t=some (.slice e))(h:Cell.okWide P w r b0 t (.slice (some a) len cap)):a.spot=none:=by
 simp only [Cell.okWide,Cell.ok,ht] at h
 exact h.2.2.2.1
theorem InR_of{n:Int}(h:(Lit.int .i64 n).wf=true):InR n:=by
 simp only [Lit.wf,Bool.and_eq_true,decide_eq_true_eq] at h
 exact h
def Light(P:Program)(t:TypeId)(d:DataW H):Prop:=∀n∈d.weights P t,n≤reachBytes
theorem light_arg{ts:List TypeId}{ds:List (DataW H)}(h:(DataW.weightsEach P ts ds).all (· ≤ reachBytes)=true){j:Nat}{d:DataW H}(ht:ts[j]? = some t)(hd:ds[j]? = some d):Light P t d:=fun n hn=>by
 have:=List.all_eq_true.1 h _ (DataW.weights_mem_each ht hd n hn)
 simpa using this
theorem light_slice{e:TypeId}{es sp:List (DataW H)}(ht:P.underlying t=some (.slice e))(h:Light P t (.slice es sp)):es.length*P.bytesOf e≤140737488351232:=by
 have h1:=h ((es.length+sp.length)*P.bytesOf e) (by simp [DataW.weights,ht])
 have h2:es.length*P.bytesOf e≤(es.length+sp.length)*P.bytesOf e:=Nat.mul_le_mul_right _ (by omega)
 simp only [reachBytes] at h1
 omega
theorem addr_eta{a:Addr}(h:a.spot=none):a=⟨a.block,a.off,none⟩:=by cases a;simp_all
theorem in_ints{e:TypeId}{v:Value}{fuel:Nat}{x:DataW H×List MemPlace}(ht:P.underlying t=some (.slice e))(he:P.underlying e=some (.int .i64))(hc:P.cellsOf e=1)
  (hv:Cell.okWide P w r b0 t v) (h:DataW.trod enc P w base spare held fuel t [v]=some x) (hw:Light P t x.1):∃(a:Option Addr) (c:Nat) (xs:List Int),v = .slice a xs.length c∧SlW w (.slice a xs.length c) xs∧(∀n∈xs,InR n)∧xs.length*P.bytesOf e≤140737488351232:=by
 rcases open_ints ht he hc h with ⟨hcs,_⟩|⟨a,l,c,zs,hcs,_,hl,hm,hz,hx,hcell,hwz⟩
 ·obtain rfl:v = .slice none 0 0:=by simpa using hcs
  exact ⟨none,0,[],rfl,⟨none,0,rfl,by simp [cells],Nat.le_refl _,by simp,fun h=>by omega⟩,by simp,by simp⟩
 ·obtain rfl:v = .slice (some a) l c:=by simpa using hcs
  have hsp:=spot_none ht hv
  have hlen:l≤zs.length:=by rw [hz];split<;>omega
  have hxl:(zs.take l).length=l:=by rw [List.length_take];omega
  refine ⟨some a,c,zs.take l,by rw [hxl],⟨some a,c,rfl,cells_length _,by rw [hxl];exact hl,hm,fun hc0=>⟨a.block,a.off,by rw [←addr_eta hsp],fun j u hj=>?_⟩⟩,fun n hn=>InR_of (hwz n (List.mem_of_mem_take hn)),by
   rw [hx] at hw
   have:=light_slice ht hw
   simpa [lits] using this⟩
  have hjl:j<l:=by
   have:=(List.getElem?_eq_some_iff.1 hj).1
   rw [cells_length,hxl] at this
   have e1:Enc.sz Int=1:=rfl
   rw [e1] at this;omega
  have h1:=cells_get (zs.take l) j 0 (by omega) (by decide)
  have e1:j*Enc.sz Int+0=j:=by show j*1+0=j;omega
  rw [e1] at h1
  rw [h1] at hj
  have h2:=hcell j (by omega)
  rw [addr_eta hsp,addr_add] at h2
  have h3:u=I64 (zs.getD j 0):=by
   have h4:some (I64 ((zs.take l)[j]'(by omega)))=some u:=hj
   simp only [Option.some.injEq] at h4
   rw [←h4]
   simp [List.getD_eq_getElem?_getD,List.getElem?_eq_getElem (show j<zs.length by omega)]
  rw [h3];exact h2
theorem arg_cell{v:Value}{d:DataW H}{ps:List MemPlace}{e:TypeId}(ht:P.underlying t=some (.slice e))(hv:Value.okWide P w r b0 t v)(h:DataW.Trod enc P w base spare held t v d ps):Cell.okWide P w r b0 t v∧∃fuel,DataW.trod enc P w base spare held fuel t [v]=some (d,ps):=by
 obtain ⟨a,len,cap,rfl⟩:=okWide_slice ht hv
 simp only [Value.okWide,ht] at hv
 obtain ⟨fuel,hf⟩:=h
 exact ⟨hv,fuel,by simpa [Value.cells] using hf⟩
theorem joined_mk{P:Program}{f:FuncId}{fn:Func}{s:ChangeSpec}{c:OpenClaim}(h1:(c.wf (OpenSpec.ofChange s))=true)(h2:(laidOutB P)=true)(h3:(mapsRowed P)=true)(h4:(fn.params.all (P.readableRec ·))=true)(h5:(namedTie P c.named s.vars)=true)(h6:((c.stops==[]))=true)(h7:((P.stops==[]))=true)(h8:((c.knobs==[]))=true)(h9:((P.stopKnobs==[]))=true)(h10:((c.inPlace==P.inPlace f))=true)(h11:((c.unfollowed==P.unfollowed f))=true)(h12:((c.recurses==P.recurses f))=true)(h13:((c.named==P.varsNamed f))=true)(h14:((c.maps==(fn.params.toList++s.plain.varTypes P).any (P.mapsRec ·)))=true)(h15:((c.ifaces==(fn.params.toList++s.plain.varTypes P).any (P.ifacesRec ·)))=true)(h16:((c.mapsOut==P.mapsAmong fn.resultTypes.toList))=true)(h17:((c.loops==(fn.params.toList++s.plain.varTypes P).any (P.loopsFrom ·)))=true)(h18:((c.wideKeys==(fn.params.toList++s.plain.varTypes P++fn.resultTypes.toList).any (P.wideKeysFrom ·)))=true)(h19:(s.vars.all (P.varReadable ·))=true)(h20:(fn.resultTypes.all (fun t=>P.readableRec t&&decide (t<P.types.size)))=true)(h21:((c.ifacesOut==fn.resultTypes.toList.any (P.ifacesRec ·)))=true)(h22:((c.loopsOut==fn.resultTypes.toList.any (P.loopsFrom ·)))=true)(h23:((c.plainKeys==P.plainKeys))=true)(h24:(c.shortTexts.isNone)=true)(h25:(P.stopsHeard)=true)(h26:(P.mayEnter)=true)(h27:((c.lifted==P.liftsFinal))=true)(h28:((P.make==some c.make))=true)(h29:((c.kinds==(if c.domain.isEmpty then [] else fn.params.toList.map fun t=>match P.underlying t with |some (.int k)=>some k|_=>none)))=true)(h30:((c.pinned==c.pinnedBy))=true)(h31:((c.veiled==(fn.params.toList++s.plain.varTypes P++fn.resultTypes.toList).any (P.veiledRec ·)))=true)(h32:(c.veiledFits P fn.params.toList (fn.params.toList++s.plain.varTypes P++fn.resultTypes.toList))=true):joinedFacts P f fn s c=true:=by
 unfold joinedFacts
 exact (Bool.and_eq_true_iff.2 ⟨(Bool.and_eq_true_iff.2 ⟨(Bool.and_eq_true_iff.2 ⟨(Bool.and_eq_true_iff.2 ⟨(Bool.and_eq_true_iff.2 ⟨(Bool.and_eq_true_iff.2 ⟨(Bool.and_eq_true_iff.2 ⟨(Bool.and_eq_true_iff.2 ⟨(Bool.and_eq_true_iff.2 ⟨(Bool.and_eq_true_iff.2 ⟨(Bool.and_eq_true_iff.2 ⟨(Bool.and_eq_true_iff.2 ⟨(Bool.and_eq_true_iff.2 ⟨(Bool.and_eq_true_iff.2 ⟨(Bool.and_eq_true_iff.2 ⟨(Bool.and_eq_true_iff.2 ⟨(Bool.and_eq_true_iff.2 ⟨(Bool.and_eq_true_iff.2 ⟨(Bool.and_eq_true_iff.2 ⟨(Bool.and_eq_true_iff.2 ⟨(Bool.and_eq_true_iff.2 ⟨(Bool.and_eq_true_iff.2 ⟨(Bool.and_eq_true_iff.2 ⟨(Bool.and_eq_true_iff.2 ⟨(Bool.and_eq_true_iff.2 ⟨(Bool.and_eq_true_iff.2 ⟨(Bool.and_eq_true_iff.2 ⟨(Bool.and_eq_true_iff.2 ⟨(Bool.and_eq_true_iff.2 ⟨(Bool.and_eq_true_iff.2 ⟨(Bool.and_eq_true_iff.2 ⟨h1,h2⟩),h3⟩),h4⟩),h5⟩),h6⟩),h7⟩),h8⟩),h9⟩),h10⟩),h11⟩),h12⟩),h13⟩),h14⟩),h15⟩),h16⟩),h17⟩),h18⟩),h19⟩),h20⟩),h21⟩),h22⟩),h23⟩),h24⟩),h25⟩),h26⟩),h27⟩),h28⟩),h29⟩),h30⟩),h31⟩),h32⟩)
theorem calls_below{f:FuncId}{args:List Value}(h:CallS P ⟨w.os,w.tape,w.output,w.drawn⟩ f args [old w.heap.size w] fun r J=>r = .bool true∧[old w.heap.size w]=J) :
  Calls P f args.toArray w fun e w'=>e = .returned (.bool true)∧Below w.heap.size w w':=
 (h w (Sep.begin w)).mono fun e w' ⟨v,J,he,⟨hv,hJ⟩,hs⟩=>by
  subst hv hJ
  exact ⟨he,hs.below List.mem_cons_self⟩
end
end Go.Sl
