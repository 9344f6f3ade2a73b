/- A part of the proofs of statements of this seat: contracts of functions, and the plain laws that they lean on. No conditions. -/
import Derived.Test.YtoagcglbkeomgaaGreatDoorS23
set_option linter.unusedVariables false
set_option linter.unusedSimpArgs false
set_option linter.unusedSectionVars false
open Go.Proofs.Tryz (prog)
namespace Go.Sl
open Go.Proofs
set_option maxRecDepth 4000
variable{nd u v:Int}{ea na:Option Addr}{b ec nc:Nat}{es:List Pt}{cb:Bool}{M Z aa ab ad ae ah y0 y1 y2 y3 y4 y5 y6 y7 y8 y9:Value}
variable {κ:Ctx}{I:List Item}
theorem RenI0_ok(hc:cb=true)(hl:Sl κ I (.slice ea es.length ec) es)(hm:Sl κ I (.slice na (coreN nd es).length nc) (coreN nd es))(hG:GrOk nd es)(he:endsP nd u v)(hn:edgeP u v∉es)(hT:TabRd κ I 0 tzCells):eu prog κ 255 [(pt b),.bool cb,.func (.func 256) #[] #[],.func (.func 257) #[] #[],e7 u,e7 v] (e8 b [e7 nd,.slice ea es.length ec,.slice na (coreN nd es).length nc,y3,y4,y5,y6,y7,y8,y9,Z,aa,ae,ad,ah] 169::I) (λr J=>∃(ga:Option Addr) (gc:Nat) (a:Option Addr) (c:Nat),r=e7 0/\J=e8 b [e7 nd,.slice ga (insB Pt.lt es (edgeP u v)).length gc,.slice a (coreN nd (insB Pt.lt es (edgeP u v))).length c,y3,y4,y5,y6,y7,y8,y9,Z,aa,ae,ad,ah] 169::vk 3 a c (coreN nd (insB Pt.lt es (edgeP u v)))::vk 105 ga gc (insB Pt.lt es (edgeP u v))::I):=by
 refine Ce6 Tryz.func255 C C ?_
 refine Ad<|Ga C<|Ac<|Ad<|Gm C<|Ga C<|Ac<|Ar<|Ad<|Gm C<|Ac<|D1 C (λab=>?_)<|λab=>?_
 ·refine Ay (Gm C<|Ga C<|Ac<|Ad<|Gm C<|Gm C<|Gr (Bo C)<|Gl3 ty40 ?_)
  refine Gm C<|Gm C<|G.e (Cx c_ C C C<|RInsert_ok (nd:=nd) (u:=u) (v:=v) (A8 hl) (A8 hm) hG he hn<|Bn hT Ax) ?_
  rintro _ _ ⟨_,_,⟨aj,ak,M,ai,w5,rfl,rfl⟩,rfl,rfl⟩
  refine Gm C<|Gr (Ak C C)<|Gr (Ak C C)<|Gr (Ak C C)<|Ge1 (A4 ty40 C) λb6=>Ge0 (Df ty40) ?_
  refine Ga C<|Ga C<|Ac<|Ap (S3 16 14 0)<|Ar<|Ad<|Gm C<|Gr (Br C C)<|Ac<|A7 C (λan=>?_)<|λan=>?_
  ·refine Ay (Gm C<|Gl3 ty40 ?_)
   refine Gr (Bo C)<|Ge0 (B6 (cs:=[_,_,_,_,_,_,_,_,_,_,_,_,_,_,_]) (vs:=[_,_,_]) (cs':=[_,_,_,_,_,_,_,_,_,_,_,_,_,_,_]) ty40) ?_
   exact Ac<|Ad<|Gm C<|Ga C<|Ac<|Az<|A1 C C (e8 b [e7 nd,.slice aj (insB Pt.lt es<|edgeP u v).length ak,.slice M (coreN nd<|insB Pt.lt es<|edgeP u v).length ai,y3,y4,y5,y6,y7,y8,y9,Z,aa,ae,ad,ah] 169::vk 3 M ai (coreN nd<|insB Pt.lt es<|edgeP u v)::vk 105 aj ak (insB Pt.lt es<|edgeP u v)::I) Bl ⟨aj,ak,M,ai,rfl,rfl⟩
  exact absurd dc an
 rw [hc] at ab;exact absurd ab dc
theorem ChgI0_ok(hc:cb=true)(hl:Sl κ I (.slice ea es.length ec) es)(hm:Sl κ I (.slice na (coreN nd es).length nc) (coreN nd es))(hG:GrOk nd es)(he:endsP nd u v)(hn:edgeP u v∉es)(hT:TabRd κ I 0 tzCells):eu prog κ 253 [(pt b),e7 u,e7 v,.bool cb] (e8 b [e7 nd,.slice ea es.length ec,.slice na (coreN nd es).length nc,y3,y4,y5,y6,y7,y8,y9,Z,aa,ad,ab,M] 169::I) (λr J=>∃(ga:Option Addr) (gc:Nat) (a:Option Addr) (c:Nat),r=e7 0/\J=e8 b [e7 nd,.slice ga (insB Pt.lt es (edgeP u v)).length gc,.slice a (coreN nd (insB Pt.lt es (edgeP u v))).length c,y3,y4,y5,y6,y7,y8,y9,Z,aa,ad,ab,M] 169::vk 3 a c (coreN nd (insB Pt.lt es (edgeP u v)))::vk 105 ga gc (insB Pt.lt es (edgeP u v))::I):=by
 refine Ce4 Tryz.func253 C C ?_
 refine Ad<|Ga C<|Ac<|Ad<|Gm C<|Gr (Bo C)<|Gf fld161_0 C<|Gm C<|Gm C<|Gm C<|G.e (Aj c_ C C<|RenI0_ok hc hl hm hG he hn hT) ?_
 rintro _ _ ⟨_,_,⟨ga,gc,a,c,rfl,rfl⟩,rfl,rfl⟩
 exact Ga C<|Ac<|Az<|A1 C C (e8 b [e7 nd,.slice ga (insB Pt.lt es<|edgeP u v).length gc,.slice a (coreN nd<|insB Pt.lt es<|edgeP u v).length c,y3,y4,y5,y6,y7,y8,y9,Z,aa,ad,ab,M] 169::vk 3 a c (coreN nd<|insB Pt.lt es<|edgeP u v)::vk 105 ga gc (insB Pt.lt es<|edgeP u v)::I) Bl ⟨ga,gc,a,c,rfl,rfl⟩
theorem RenD0_ok(hc:cb=false)(hl:Sl κ I (.slice ea es.length ec) es)(hm:Sl κ I (.slice na (coreN nd es).length nc) (coreN nd es))(hG:GrOk nd es)(he:endsP nd u v)(hn:edgeP u v∈es)(hT:TabRd κ I 0 tzCells):eu prog κ 255 [(pt b),.bool cb,.func (.func 256) #[] #[],.func (.func 257) #[] #[],e7 u,e7 v] (e8 b [e7 nd,.slice ea es.length ec,.slice na (coreN nd es).length nc,y3,y4,y5,y6,y7,y8,y9,Z,aa,ae,ad,ah] 169::I) (λr J=>∃(ga:Option Addr) (gc:Nat) (a:Option Addr) (c:Nat),r=e7 0/\J=e8 b [e7 nd,.slice ga (without es (edgeP u v)).length gc,.slice a (coreN nd (without es (edgeP u v))).length c,y3,y4,y5,y6,y7,y8,y9,Z,aa,ae,ad,ah] 169::vk 3 a c (coreN nd (without es (edgeP u v)))::vk 105 ga gc (without es (edgeP u v))::I):=by
 refine Ce6 Tryz.func255 C C ?_
 refine Ad<|Ga C<|Ac<|Ad<|Gm C<|Ga C<|Ac<|Ar<|Ad<|Gm C<|Ac<|D1 C (λab=>?_)<|λab=>?_
 ·rw [hc] at ab;exact absurd ab dc
 refine Aw<|Ah<|Ad<|Gm C<|Gm C<|Gr (Bo C)<|Gl3 ty40 ?_
 refine Gm C<|Gm C<|G.e (Cx c_ C C C<|RDelete_ok (nd:=nd) (u:=u) (v:=v) (A8 hl) (A8 hm) hG he hn<|Bn hT Ax) ?_
 rintro _ _ ⟨_,_,⟨aj,ak,M,ai,w5,rfl,rfl⟩,rfl,rfl⟩
 refine Gm C<|Gr (Ak C C)<|Gr (Ak C C)<|Gr (Ak C C)<|Ge1 (A4 ty40 C) λb6=>Ge0 (Df ty40) ?_
 refine Ga C<|Ga C<|Ac<|Ap (S3 16 14 0)<|Ar<|Ad<|Gm C<|Gr (Br C C)<|Ac<|A7 C (λan=>?_)<|λan=>?_
 ·refine Ay (Gm C<|Gl3 ty40 ?_)
  refine Gr (Bo C)<|Ge0 (B6 (cs:=[_,_,_,_,_,_,_,_,_,_,_,_,_,_,_]) (vs:=[_,_,_]) (cs':=[_,_,_,_,_,_,_,_,_,_,_,_,_,_,_]) ty40) ?_
  exact Ac<|Ad<|Gm C<|Ga C<|Ac<|Az<|A1 C C (e8 b [e7 nd,.slice aj (without es<|edgeP u v).length ak,.slice M (coreN nd<|without es<|edgeP u v).length ai,y3,y4,y5,y6,y7,y8,y9,Z,aa,ae,ad,ah] 169::vk 3 M ai (coreN nd<|without es<|edgeP u v)::vk 105 aj ak (without es<|edgeP u v)::I) Bl ⟨aj,ak,M,ai,rfl,rfl⟩
 exact absurd dc an
theorem ChgD0_ok(hc:cb=false)(hl:Sl κ I (.slice ea es.length ec) es)(hm:Sl κ I (.slice na (coreN nd es).length nc) (coreN nd es))(hG:GrOk nd es)(he:endsP nd u v)(hn:edgeP u v∈es)(hT:TabRd κ I 0 tzCells):eu prog κ 253 [(pt b),e7 u,e7 v,.bool cb] (e8 b [e7 nd,.slice ea es.length ec,.slice na (coreN nd es).length nc,y3,y4,y5,y6,y7,y8,y9,Z,aa,ad,ab,M] 169::I) (λr J=>∃(ga:Option Addr) (gc:Nat) (a:Option Addr) (c:Nat),r=e7 0/\J=e8 b [e7 nd,.slice ga (without es (edgeP u v)).length gc,.slice a (coreN nd (without es (edgeP u v))).length c,y3,y4,y5,y6,y7,y8,y9,Z,aa,ad,ab,M] 169::vk 3 a c (coreN nd (without es (edgeP u v)))::vk 105 ga gc (without es (edgeP u v))::I):=by
 refine Ce4 Tryz.func253 C C ?_
 refine Ad<|Ga C<|Ac<|Ad<|Gm C<|Gr (Bo C)<|Gf fld161_0 C<|Gm C<|Gm C<|Gm C<|G.e (Aj c_ C C<|RenD0_ok hc hl hm hG he hn hT) ?_
 rintro _ _ ⟨_,_,⟨ga,gc,a,c,rfl,rfl⟩,rfl,rfl⟩
 exact Ga C<|Ac<|Az<|A1 C C (e8 b [e7 nd,.slice ga (without es<|edgeP u v).length gc,.slice a (coreN nd<|without es<|edgeP u v).length c,y3,y4,y5,y6,y7,y8,y9,Z,aa,ad,ab,M] 169::vk 3 a c (coreN nd<|without es<|edgeP u v)::vk 105 ga gc (without es<|edgeP u v)::I) Bl ⟨ga,gc,a,c,rfl,rfl⟩
theorem RenI1_ok(hc:cb=true)(hl:Sl κ I (.slice ea es.length ec) es)(hm:Sl κ I (.slice na (trussG nd es).length nc) (trussG nd es))(hG:GrOk nd es)(he:endsP nd u v)(hn:edgeP u v∉es)(hT:TabRd κ I 0 tzCells):eu prog κ 282 [.pointer (some ⟨b,3,none⟩),.bool cb,.func (.func 283) #[] #[],.func (.func 284) #[] #[],e7 u,e7 v] (e8 b [y0,y1,y2,e7 nd,.slice ea es.length ec,.slice na (trussG nd es).length nc,y6,y7,y8,y9,Z,aa,ae,ad,ah] 169::I) (λr J=>∃(ga:Option Addr) (gc:Nat) (a:Option Addr) (c:Nat),r=e7 0/\J=e8 b [y0,y1,y2,e7 nd,.slice ga (insB Pt.lt es (edgeP u v)).length gc,.slice a (trussG nd (insB Pt.lt es (edgeP u v))).length c,y6,y7,y8,y9,Z,aa,ae,ad,ah] 169::vk 3 a c (trussG nd (insB Pt.lt es (edgeP u v)))::vk 105 ga gc (insB Pt.lt es (edgeP u v))::I):=by
 refine Ce6 Tryz.func282 C C ?_
 refine Ad<|Ga C<|Ac<|Ad<|Gm C<|Ga C<|Ac<|Ar<|Ad<|Gm C<|Ac<|D1 C (λab=>?_)<|λab=>?_
 ·refine Ay (Gm C<|Ga C<|Ac<|Ad<|Gm C<|Gm C<|Gr (Bo C)<|Gl3 ty41 ?_)
  refine Gm C<|Gm C<|G.e (Cx c_ C C C<|MInsert_ok (nd:=nd) (u:=u) (v:=v) (A8 hl) (A8 hm) hG he hn<|Bn hT Ax) ?_
  rintro _ _ ⟨_,_,⟨aj,ak,M,ai,w5,rfl,rfl⟩,rfl,rfl⟩
  refine Gm C<|Gr (Ak C C)<|Gr (Ak C C)<|Gr (Ak C C)<|Ge1 (A4 ty41 C) λb6=>Ge0 (Df ty41) ?_
  refine Ga C<|Ga C<|Ac<|Ap (S3 16 14 0)<|Ar<|Ad<|Gm C<|Gr (Br C C)<|Ac<|A7 C (λan=>?_)<|λan=>?_
  ·refine Ay (Gm C<|Gl3 ty41 ?_)
   refine Gr (Bo C)<|Ge0 (B6 (cs:=[_,_,_,_,_,_,_,_,_,_,_,_,_,_,_]) (vs:=[_,_,_]) (cs':=[_,_,_,_,_,_,_,_,_,_,_,_,_,_,_]) ty41) ?_
   exact Ac<|Ad<|Gm C<|Ga C<|Ac<|Az<|A1 C C (e8 b [y0,y1,y2,e7 nd,.slice aj (insB Pt.lt es<|edgeP u v).length ak,.slice M (trussG nd<|insB Pt.lt es<|edgeP u v).length ai,y6,y7,y8,y9,Z,aa,ae,ad,ah] 169::vk 3 M ai (trussG nd<|insB Pt.lt es<|edgeP u v)::vk 105 aj ak (insB Pt.lt es<|edgeP u v)::I) Bl ⟨aj,ak,M,ai,rfl,rfl⟩
  exact absurd dc an
 rw [hc] at ab;exact absurd ab dc
theorem ChgI1_ok(hc:cb=true)(hl:Sl κ I (.slice ea es.length ec) es)(hm:Sl κ I (.slice na (trussG nd es).length nc) (trussG nd es))(hG:GrOk nd es)(he:endsP nd u v)(hn:edgeP u v∉es)(hT:TabRd κ I 0 tzCells):eu prog κ 280 [.pointer (some ⟨b,3,none⟩),e7 u,e7 v,.bool cb] (e8 b [y0,y1,y2,e7 nd,.slice ea es.length ec,.slice na (trussG nd es).length nc,y6,y7,y8,y9,Z,aa,ad,ab,M] 169::I) (λr J=>∃(ga:Option Addr) (gc:Nat) (a:Option Addr) (c:Nat),r=e7 0/\J=e8 b [y0,y1,y2,e7 nd,.slice ga (insB Pt.lt es (edgeP u v)).length gc,.slice a (trussG nd (insB Pt.lt es (edgeP u v))).length c,y6,y7,y8,y9,Z,aa,ad,ab,M] 169::vk 3 a c (trussG nd (insB Pt.lt es (edgeP u v)))::vk 105 ga gc (insB Pt.lt es (edgeP u v))::I):=by
 refine Ce4 Tryz.func280 C C ?_
 refine Ad<|Ga C<|Ac<|Ad<|Gm C<|Gr (Bo C)<|Gf fld163_0 C<|Gm C<|Gm C<|Gm C<|G.e (Aj c_ C C<|RenI1_ok hc hl hm hG he hn hT) ?_
 rintro _ _ ⟨_,_,⟨ga,gc,a,c,rfl,rfl⟩,rfl,rfl⟩
 exact Ga C<|Ac<|Az<|A1 C C (e8 b [y0,y1,y2,e7 nd,.slice ga (insB Pt.lt es<|edgeP u v).length gc,.slice a (trussG nd<|insB Pt.lt es<|edgeP u v).length c,y6,y7,y8,y9,Z,aa,ad,ab,M] 169::vk 3 a c (trussG nd<|insB Pt.lt es<|edgeP u v)::vk 105 ga gc (insB Pt.lt es<|edgeP u v)::I) Bl ⟨ga,gc,a,c,rfl,rfl⟩
theorem RenD1_ok(hc:cb=false)(hl:Sl κ I (.slice ea es.length ec) es)(hm:Sl κ I (.slice na (trussG nd es).length nc) (trussG nd es))(hG:GrOk nd es)(he:endsP nd u v)(hn:edgeP u v∈es)(hT:TabRd κ I 0 tzCells):eu prog κ 282 [.pointer (some ⟨b,3,none⟩),.bool cb,.func (.func 283) #[] #[],.func (.func 284) #[] #[],e7 u,e7 v] (e8 b [y0,y1,y2,e7 nd,.slice ea es.length ec,.slice na (trussG nd es).length nc,y6,y7,y8,y9,Z,aa,ae,ad,ah] 169::I) (λr J=>∃(ga:Option Addr) (gc:Nat) (a:Option Addr) (c:Nat),r=e7 0/\J=e8 b [y0,y1,y2,e7 nd,.slice ga (without es (edgeP u v)).length gc,.slice a (trussG nd (without es (edgeP u v))).length c,y6,y7,y8,y9,Z,aa,ae,ad,ah] 169::vk 3 a c (trussG nd (without es (edgeP u v)))::vk 105 ga gc (without es (edgeP u v))::I):=by
 refine Ce6 Tryz.func282 C C ?_
 refine Ad<|Ga C<|Ac<|Ad<|Gm C<|Ga C<|Ac<|Ar<|Ad<|Gm C<|Ac<|D1 C (λab=>?_)<|λab=>?_
 ·rw [hc] at ab;exact absurd ab dc
 refine Aw<|Ah<|Ad<|Gm C<|Gm C<|Gr (Bo C)<|Gl3 ty41 ?_
 refine Gm C<|Gm C<|G.e (Cx c_ C C C<|MDelete_ok (nd:=nd) (u:=u) (v:=v) (A8 hl) (A8 hm) hG he hn<|Bn hT Ax) ?_
 rintro _ _ ⟨_,_,⟨aj,ak,M,ai,w5,rfl,rfl⟩,rfl,rfl⟩
 refine Gm C<|Gr (Ak C C)<|Gr (Ak C C)<|Gr (Ak C C)<|Ge1 (A4 ty41 C) λb6=>Ge0 (Df ty41) ?_
 refine Ga C<|Ga C<|Ac<|Ap (S3 16 14 0)<|Ar<|Ad<|Gm C<|Gr (Br C C)<|Ac<|A7 C (λan=>?_)<|λan=>?_
 ·refine Ay (Gm C<|Gl3 ty41 ?_)
  refine Gr (Bo C)<|Ge0 (B6 (cs:=[_,_,_,_,_,_,_,_,_,_,_,_,_,_,_]) (vs:=[_,_,_]) (cs':=[_,_,_,_,_,_,_,_,_,_,_,_,_,_,_]) ty41) ?_
  exact Ac<|Ad<|Gm C<|Ga C<|Ac<|Az<|A1 C C (e8 b [y0,y1,y2,e7 nd,.slice aj (without es<|edgeP u v).length ak,.slice M (trussG nd<|without es<|edgeP u v).length ai,y6,y7,y8,y9,Z,aa,ae,ad,ah] 169::vk 3 M ai (trussG nd<|without es<|edgeP u v)::vk 105 aj ak (without es<|edgeP u v)::I) Bl ⟨aj,ak,M,ai,rfl,rfl⟩
 exact absurd dc an
theorem ChgD1_ok(hc:cb=false)(hl:Sl κ I (.slice ea es.length ec) es)(hm:Sl κ I (.slice na (trussG nd es).length nc) (trussG nd es))(hG:GrOk nd es)(he:endsP nd u v)(hn:edgeP u v∈es)(hT:TabRd κ I 0 tzCells):eu prog κ 280 [.pointer (some ⟨b,3,none⟩),e7 u,e7 v,.bool cb] (e8 b [y0,y1,y2,e7 nd,.slice ea es.length ec,.slice na (trussG nd es).length nc,y6,y7,y8,y9,Z,aa,ad,ab,M] 169::I) (λr J=>∃(ga:Option Addr) (gc:Nat) (a:Option Addr) (c:Nat),r=e7 0/\J=e8 b [y0,y1,y2,e7 nd,.slice ga (without es (edgeP u v)).length gc,.slice a (trussG nd (without es (edgeP u v))).length c,y6,y7,y8,y9,Z,aa,ad,ab,M] 169::vk 3 a c (trussG nd (without es (edgeP u v)))::vk 105 ga gc (without es (edgeP u v))::I):=by
 refine Ce4 Tryz.func280 C C ?_
 refine Ad<|Ga C<|Ac<|Ad<|Gm C<|Gr (Bo C)<|Gf fld163_0 C<|Gm C<|Gm C<|Gm C<|G.e (Aj c_ C C<|RenD1_ok hc hl hm hG he hn hT) ?_
 rintro _ _ ⟨_,_,⟨ga,gc,a,c,rfl,rfl⟩,rfl,rfl⟩
 exact Ga C<|Ac<|Az<|A1 C C (e8 b [y0,y1,y2,e7 nd,.slice ga (without es<|edgeP u v).length gc,.slice a (trussG nd<|without es<|edgeP u v).length c,y6,y7,y8,y9,Z,aa,ad,ab,M] 169::vk 3 a c (trussG nd<|without es<|edgeP u v)::vk 105 ga gc (without es<|edgeP u v)::I) Bl ⟨ga,gc,a,c,rfl,rfl⟩
theorem RenI2_ok(hc:cb=true)(hl:Sl κ I (.slice ea es.length ec) es)(hm:Sl κ I (.slice na (triL nd es).length nc) (triL nd es))(hG:GrOk nd es)(he:endsP nd u v)(hn:edgeP u v∉es)  :
    eu prog κ 296 [.pointer (some ⟨b,6,none⟩),.bool cb,.func (.func 297) #[] #[],.func (.func 298) #[] #[],e7 u,e7 v] (e8 b [y0,y1,y2,y3,y4,y5,e7 nd,.slice ea es.length ec,e7<|triS nd es / 3,.slice na (triL nd es).length nc,Z,M,ad,ab,ae] 169::I) (λr J=>∃(ga:Option Addr) (gc:Nat) (a:Option Addr) (c:Nat),r=e7 0/\J=e8 b [y0,y1,y2,y3,y4,y5,e7 nd,.slice ga (insB Pt.lt es<|edgeP u v).length gc,e7<|triS nd (insB Pt.lt es<|edgeP u v) / 3,.slice a (triL nd<|insB Pt.lt es<|edgeP u v).length c,Z,M,ad,ab,ae] 169::vk 3 a c (triL nd<|insB Pt.lt es<|edgeP u v)::vk 105 ga gc (insB Pt.lt es<|edgeP u v)::I):=by
 refine Ce6 Tryz.func296 C C ?_
 refine Ad<|Ga C<|Ac<|Ad<|Gm C<|Ga C<|Ac<|Ar<|Ad<|Gm C<|Ac<|D1 C (λaa=>?_)<|λaa=>?_
 ·refine Ay (Gm C<|Ga C<|Ac<|Ad<|Gm C<|Gm C<|Gr (Bo C)<|Gl4 ty43 ?_)
  refine Gm C<|Gm C<|G.e (Cx c_ C C C<|TInsert_ok (nd:=nd) (u:=u) (v:=v) (A8 hl) (A8 hm) hG he hn) ?_
  rintro _ _ ⟨_,_,⟨ai,aj,ak,ah,w5,rfl,rfl⟩,rfl,rfl⟩
  refine Gm C<|Gr (Ak C C)<|Gr (Ak C C)<|Gr (Ak C C)<|Ge1 (A4 ty43 C) λb6=>Ge0 (C5 ty43) ?_
  refine Ga C<|Ga C<|Ac<|Ap (S3 16 14 0)<|Ar<|Ad<|Gm C<|Gr (Br C C)<|Ac<|A7 C (λan=>?_)<|λan=>?_
  ·refine Ay (Gm C<|Gl4 ty43 ?_)
   refine Gr (Bo C)<|Ge0 (B6 (cs:=[_,_,_,_,_,_,_,_,_,_,_,_,_,_,_]) (vs:=[_,_,_,_]) (cs':=[_,_,_,_,_,_,_,_,_,_,_,_,_,_,_]) ty43) ?_
   exact Ac<|Ad<|Gm C<|Ga C<|Ac<|Az<|A1 C C (e8 b [y0,y1,y2,y3,y4,y5,e7 nd,.slice ai (insB Pt.lt es<|edgeP u v).length aj,e7<|triS nd (insB Pt.lt es<|edgeP u v) / 3,.slice ak (triL nd<|insB Pt.lt es<|edgeP u v).length ah,Z,M,ad,ab,ae] 169::vk 3 ak ah (triL nd<|insB Pt.lt es<|edgeP u v)::vk 105 ai aj (insB Pt.lt es<|edgeP u v)::I) Bl ⟨ai,aj,ak,ah,rfl,rfl⟩
  exact absurd dc an
 rw [hc] at aa;exact absurd aa dc
theorem ChgI2_ok(hc:cb=true)(hl:Sl κ I (.slice ea es.length ec) es)(hm:Sl κ I (.slice na (triL nd es).length nc) (triL nd es))(hG:GrOk nd es)(he:endsP nd u v)(hn:edgeP u v∉es)  :
    eu prog κ 294 [.pointer (some ⟨b,6,none⟩),e7 u,e7 v,.bool cb] (e8 b [y0,y1,y2,y3,y4,y5,e7 nd,.slice ea es.length ec,e7<|triS nd es / 3,.slice na (triL nd es).length nc,Z,aa,ad,ab,M] 169::I) (λr J=>∃(ga:Option Addr) (gc:Nat) (a:Option Addr) (c:Nat),r=e7 0/\J=e8 b [y0,y1,y2,y3,y4,y5,e7 nd,.slice ga (insB Pt.lt es<|edgeP u v).length gc,e7<|triS nd (insB Pt.lt es<|edgeP u v) / 3,.slice a (triL nd<|insB Pt.lt es<|edgeP u v).length c,Z,aa,ad,ab,M] 169::vk 3 a c (triL nd<|insB Pt.lt es<|edgeP u v)::vk 105 ga gc (insB Pt.lt es<|edgeP u v)::I):=by
 refine Ce4 Tryz.func294 C C ?_
 refine Ad<|Ga C<|Ac<|Ad<|Gm C<|Gr (Bo C)<|Gf fld165_0 C<|Gm C<|Gm C<|Gm C<|G.e (Aj c_ C C<|RenI2_ok hc hl hm hG he hn) ?_
 rintro _ _ ⟨_,_,⟨ga,gc,a,c,rfl,rfl⟩,rfl,rfl⟩
 exact Ga C<|Ac<|Az<|A1 C C (e8 b [y0,y1,y2,y3,y4,y5,e7 nd,.slice ga (insB Pt.lt es<|edgeP u v).length gc,e7<|triS nd (insB Pt.lt es<|edgeP u v) / 3,.slice a (triL nd<|insB Pt.lt es<|edgeP u v).length c,Z,aa,ad,ab,M] 169::vk 3 a c (triL nd<|insB Pt.lt es<|edgeP u v)::vk 105 ga gc (insB Pt.lt es<|edgeP u v)::I) Bl ⟨ga,gc,a,c,rfl,rfl⟩
theorem RenD2_ok(hc:cb=false)(hl:Sl κ I (.slice ea es.length ec) es)(hm:Sl κ I (.slice na (triL nd es).length nc) (triL nd es))(hG:GrOk nd es)(he:endsP nd u v)(hn:edgeP u v∈es)  :
    eu prog κ 296 [.pointer (some ⟨b,6,none⟩),.bool cb,.func (.func 297) #[] #[],.func (.func 298) #[] #[],e7 u,e7 v] (e8 b [y0,y1,y2,y3,y4,y5,e7 nd,.slice ea es.length ec,e7<|triS nd es / 3,.slice na (triL nd es).length nc,Z,M,ad,ab,ae] 169::I) (λr J=>∃(ga:Option Addr) (gc:Nat) (a:Option Addr) (c:Nat),r=e7 0/\J=e8 b [y0,y1,y2,y3,y4,y5,e7 nd,.slice ga (without es<|edgeP u v).length gc,e7<|triS nd (without es<|edgeP u v) / 3,.slice a (triL nd<|without es<|edgeP u v).length c,Z,M,ad,ab,ae] 169::vk 3 a c (triL nd<|without es<|edgeP u v)::vk 105 ga gc (without es<|edgeP u v)::I):=by
 refine Ce6 Tryz.func296 C C ?_
 refine Ad<|Ga C<|Ac<|Ad<|Gm C<|Ga C<|Ac<|Ar<|Ad<|Gm C<|Ac<|D1 C (λaa=>?_)<|λaa=>?_
 ·rw [hc] at aa;exact absurd aa dc
 refine Aw<|Ah<|Ad<|Gm C<|Gm C<|Gr (Bo C)<|Gl4 ty43 ?_
 refine Gm C<|Gm C<|G.e (Cx c_ C C C<|TDelete_ok (nd:=nd) (u:=u) (v:=v) (A8 hl) (A8 hm) hG he hn) ?_
 rintro _ _ ⟨_,_,⟨ai,aj,ak,ah,w5,rfl,rfl⟩,rfl,rfl⟩
 refine Gm C<|Gr (Ak C C)<|Gr (Ak C C)<|Gr (Ak C C)<|Ge1 (A4 ty43 C) λb6=>Ge0 (C5 ty43) ?_
 refine Ga C<|Ga C<|Ac<|Ap (S3 16 14 0)<|Ar<|Ad<|Gm C<|Gr (Br C C)<|Ac<|A7 C (λan=>?_)<|λan=>?_
 ·refine Ay (Gm C<|Gl4 ty43 ?_)
  refine Gr (Bo C)<|Ge0 (B6 (cs:=[_,_,_,_,_,_,_,_,_,_,_,_,_,_,_]) (vs:=[_,_,_,_]) (cs':=[_,_,_,_,_,_,_,_,_,_,_,_,_,_,_]) ty43) ?_
  exact Ac<|Ad<|Gm C<|Ga C<|Ac<|Az<|A1 C C (e8 b [y0,y1,y2,y3,y4,y5,e7 nd,.slice ai (without es<|edgeP u v).length aj,e7<|triS nd (without es<|edgeP u v) / 3,.slice ak (triL nd<|without es<|edgeP u v).length ah,Z,M,ad,ab,ae] 169::vk 3 ak ah (triL nd<|without es<|edgeP u v)::vk 105 ai aj (without es<|edgeP u v)::I) Bl ⟨ai,aj,ak,ah,rfl,rfl⟩
 exact absurd dc an
theorem ChgD2_ok(hc:cb=false)(hl:Sl κ I (.slice ea es.length ec) es)(hm:Sl κ I (.slice na (triL nd es).length nc) (triL nd es))(hG:GrOk nd es)(he:endsP nd u v)(hn:edgeP u v∈es)  :
    eu prog κ 294 [.pointer (some ⟨b,6,none⟩),e7 u,e7 v,.bool cb] (e8 b [y0,y1,y2,y3,y4,y5,e7 nd,.slice ea es.length ec,e7<|triS nd es / 3,.slice na (triL nd es).length nc,Z,aa,ad,ab,M] 169::I) (λr J=>∃(ga:Option Addr) (gc:Nat) (a:Option Addr) (c:Nat),r=e7 0/\J=e8 b [y0,y1,y2,y3,y4,y5,e7 nd,.slice ga (without es<|edgeP u v).length gc,e7<|triS nd (without es<|edgeP u v) / 3,.slice a (triL nd<|without es<|edgeP u v).length c,Z,aa,ad,ab,M] 169::vk 3 a c (triL nd<|without es<|edgeP u v)::vk 105 ga gc (without es<|edgeP u v)::I):=by
 refine Ce4 Tryz.func294 C C ?_
 refine Ad<|Ga C<|Ac<|Ad<|Gm C<|Gr (Bo C)<|Gf fld165_0 C<|Gm C<|Gm C<|Gm C<|G.e (Aj c_ C C<|RenD2_ok hc hl hm hG he hn) ?_
 rintro _ _ ⟨_,_,⟨ga,gc,a,c,rfl,rfl⟩,rfl,rfl⟩
 exact Ga C<|Ac<|Az<|A1 C C (e8 b [y0,y1,y2,y3,y4,y5,e7 nd,.slice ga (without es<|edgeP u v).length gc,e7<|triS nd (without es<|edgeP u v) / 3,.slice a (triL nd<|without es<|edgeP u v).length c,Z,aa,ad,ab,M] 169::vk 3 a c (triL nd<|without es<|edgeP u v)::vk 105 ga gc (without es<|edgeP u v)::I) Bl ⟨ga,gc,a,c,rfl,rfl⟩
theorem RenI3_ok(hc:cb=true)(hl:Sl κ I (.slice ea es.length ec) es)(hm:Sl κ I (.slice na (quadL nd es).length nc) (quadL nd es))(hG:GrOk nd es)(he:endsP nd u v)(hn:edgeP u v∉es)(hT:TabRd κ I 0 tzCells):eu prog κ 303 [.pointer (some ⟨b,10,none⟩),.bool cb,.func (.func 304) #[] #[],.func (.func 305) #[] #[],e7 u,e7 v] (e8 b [y0,y1,y2,y3,y4,y5,y6,y7,y8,y9,e7 nd,.slice ea es.length ec,e7 (wedgeC nd es),e7 (quadC nd es),.slice na (quadL nd es).length nc] 169::I) (λr J=>∃(ga:Option Addr) (gc:Nat) (a:Option Addr) (c:Nat),r=e7 0/\J=e8 b [y0,y1,y2,y3,y4,y5,y6,y7,y8,y9,e7 nd,.slice ga (insB Pt.lt es (edgeP u v)).length gc,e7 (wedgeC nd (insB Pt.lt es (edgeP u v))),e7 (quadC nd (insB Pt.lt es (edgeP u v))),.slice a (quadL nd (insB Pt.lt es (edgeP u v))).length c] 169::vk 3 a c (quadL nd (insB Pt.lt es (edgeP u v)))::vk 105 ga gc (insB Pt.lt es (edgeP u v))::I):=by
 refine Ce6 Tryz.func303 C C ?_
 refine Ad<|Ga C<|Ac<|Ad<|Gm C<|Ga C<|Ac<|Ar<|Ad<|Gm C<|Ac<|D1 C (λM=>?_)<|λM=>?_
 ·refine Ay (Gm C<|Ga C<|Ac<|Ad<|Gm C<|Gm C<|Gr (Bo C)<|Gr (Bc (vs:=[_,_,_,_,_]) ty45) ?_)
  refine Gm C<|Gm C<|G.e (Cx c_ C C C<|QInsert_ok (nd:=nd) (u:=u) (v:=v) (A8 hl) (A8 hm) hG he hn<|Bn hT Ax) ?_
  rintro _ _ ⟨_,_,⟨ab,ad,Z,aa,w5,rfl,rfl⟩,rfl,rfl⟩
  refine Gm C<|Gr (Ak C C)<|Gr (Ak C C)<|Gr (Ak C C)<|Ge1 (A4 ty45 C) λb6=>Ge0 (Fb ty45) ?_
  refine Ga C<|Ga C<|Ac<|Ap (S3 16 14 0)<|Ar<|Ad<|Gm C<|Gr (Br C C)<|Ac<|A7 C (λae=>?_)<|λae=>?_
  ·refine Ay (Gm C<|Gr (Bc (vs:=[_,_,_,_,_]) ty45) ?_)
   refine Gr (Bo C)<|Ge0 (B6 (cs:=[_,_,_,_,_,_,_,_,_,_,_,_,_,_,_]) (vs:=[_,_,_,_,_]) (cs':=[_,_,_,_,_,_,_,_,_,_,_,_,_,_,_]) ty45) ?_
   exact Ac<|Ad<|Gm C<|Ga C<|Ac<|Az<|A1 C C (e8 b [y0,y1,y2,y3,y4,y5,y6,y7,y8,y9,e7 nd,.slice ab (insB Pt.lt es<|edgeP u v).length ad,e7<|wedgeC nd<|insB Pt.lt es<|edgeP u v,e7<|quadC nd<|insB Pt.lt es<|edgeP u v,.slice Z (quadL nd<|insB Pt.lt es<|edgeP u v).length aa] 169::vk 3 Z aa (quadL nd<|insB Pt.lt es<|edgeP u v)::vk 105 ab ad (insB Pt.lt es<|edgeP u v)::I) Bl ⟨ab,ad,Z,aa,rfl,rfl⟩
  exact absurd dc ae
 rw [hc] at M;exact absurd M dc
theorem ChgI3_ok(hc:cb=true)(hl:Sl κ I (.slice ea es.length ec) es)(hm:Sl κ I (.slice na (quadL nd es).length nc) (quadL nd es))(hG:GrOk nd es)(he:endsP nd u v)(hn:edgeP u v∉es)(hT:TabRd κ I 0 tzCells):eu prog κ 301 [.pointer (some ⟨b,10,none⟩),e7 u,e7 v,.bool cb] (e8 b [y0,y1,M,y3,y4,y5,Z,y7,y8,y9,e7 nd,.slice ea es.length ec,e7 (wedgeC nd es),e7 (quadC nd es),.slice na (quadL nd es).length nc] 169::I) (λr J=>∃(ga:Option Addr) (gc:Nat) (a:Option Addr) (c:Nat),r=e7 0/\J=e8 b [y0,y1,M,y3,y4,y5,Z,y7,y8,y9,e7 nd,.slice ga (insB Pt.lt es (edgeP u v)).length gc,e7 (wedgeC nd (insB Pt.lt es (edgeP u v))),e7 (quadC nd (insB Pt.lt es (edgeP u v))),.slice a (quadL nd (insB Pt.lt es (edgeP u v))).length c] 169::vk 3 a c (quadL nd (insB Pt.lt es (edgeP u v)))::vk 105 ga gc (insB Pt.lt es (edgeP u v))::I):=by
 refine Ce4 Tryz.func301 C C ?_
 refine Ad<|Ga C<|Ac<|Ad<|Gm C<|Gr (Bo C)<|Gf fld167_0 C<|Gm C<|Gm C<|Gm C<|G.e (Aj c_ C C<|RenI3_ok hc hl hm hG he hn hT) ?_
 rintro _ _ ⟨_,_,⟨ga,gc,a,c,rfl,rfl⟩,rfl,rfl⟩
 exact Ga C<|Ac<|Az<|A1 C C (e8 b [y0,y1,M,y3,y4,y5,Z,y7,y8,y9,e7 nd,.slice ga (insB Pt.lt es<|edgeP u v).length gc,e7<|wedgeC nd<|insB Pt.lt es<|edgeP u v,e7<|quadC nd<|insB Pt.lt es<|edgeP u v,.slice a (quadL nd<|insB Pt.lt es<|edgeP u v).length c] 169::vk 3 a c (quadL nd<|insB Pt.lt es<|edgeP u v)::vk 105 ga gc (insB Pt.lt es<|edgeP u v)::I) Bl ⟨ga,gc,a,c,rfl,rfl⟩
theorem RenD3_ok(hc:cb=false)(hl:Sl κ I (.slice ea es.length ec) es)(hm:Sl κ I (.slice na (quadL nd es).length nc) (quadL nd es))(hG:GrOk nd es)(he:endsP nd u v)(hn:edgeP u v∈es)(hT:TabRd κ I 0 tzCells):eu prog κ 303 [.pointer (some ⟨b,10,none⟩),.bool cb,.func (.func 304) #[] #[],.func (.func 305) #[] #[],e7 u,e7 v] (e8 b [y0,y1,y2,y3,y4,y5,y6,y7,y8,y9,e7 nd,.slice ea es.length ec,e7 (wedgeC nd es),e7 (quadC nd es),.slice na (quadL nd es).length nc] 169::I) (λr J=>∃(ga:Option Addr) (gc:Nat) (a:Option Addr) (c:Nat),r=e7 0/\J=e8 b [y0,y1,y2,y3,y4,y5,y6,y7,y8,y9,e7 nd,.slice ga (without es (edgeP u v)).length gc,e7 (wedgeC nd (without es (edgeP u v))),e7 (quadC nd (without es (edgeP u v))),.slice a (quadL nd (without es (edgeP u v))).length c] 169::vk 3 a c (quadL nd (without es (edgeP u v)))::vk 105 ga gc (without es (edgeP u v))::I):=by
 refine Ce6 Tryz.func303 C C ?_
 refine Ad<|Ga C<|Ac<|Ad<|Gm C<|Ga C<|Ac<|Ar<|Ad<|Gm C<|Ac<|D1 C (λM=>?_)<|λM=>?_
 ·rw [hc] at M;exact absurd M dc
 refine Aw<|Ah<|Ad<|Gm C<|Gm C<|Gr (Bo C)<|Gr (Bc (vs:=[_,_,_,_,_]) ty45) ?_
 refine Gm C<|Gm C<|G.e (Cx c_ C C C<|QDelete_ok (nd:=nd) (u:=u) (v:=v) (A8 hl) (A8 hm) hG he hn<|Bn hT Ax) ?_
 rintro _ _ ⟨_,_,⟨ab,ad,Z,aa,w5,rfl,rfl⟩,rfl,rfl⟩
 refine Gm C<|Gr (Ak C C)<|Gr (Ak C C)<|Gr (Ak C C)<|Ge1 (A4 ty45 C) λb6=>Ge0 (Fb ty45) ?_
 refine Ga C<|Ga C<|Ac<|Ap (S3 16 14 0)<|Ar<|Ad<|Gm C<|Gr (Br C C)<|Ac<|A7 C (λae=>?_)<|λae=>?_
 ·refine Ay (Gm C<|Gr (Bc (vs:=[_,_,_,_,_]) ty45) ?_)
  refine Gr (Bo C)<|Ge0 (B6 (cs:=[_,_,_,_,_,_,_,_,_,_,_,_,_,_,_]) (vs:=[_,_,_,_,_]) (cs':=[_,_,_,_,_,_,_,_,_,_,_,_,_,_,_]) ty45) ?_
  exact Ac<|Ad<|Gm C<|Ga C<|Ac<|Az<|A1 C C (e8 b [y0,y1,y2,y3,y4,y5,y6,y7,y8,y9,e7 nd,.slice ab (without es<|edgeP u v).length ad,e7<|wedgeC nd<|without es<|edgeP u v,e7<|quadC nd<|without es<|edgeP u v,.slice Z (quadL nd<|without es<|edgeP u v).length aa] 169::vk 3 Z aa (quadL nd<|without es<|edgeP u v)::vk 105 ab ad (without es<|edgeP u v)::I) Bl ⟨ab,ad,Z,aa,rfl,rfl⟩
 exact absurd dc ae
theorem ChgD3_ok(hc:cb=false)(hl:Sl κ I (.slice ea es.length ec) es)(hm:Sl κ I (.slice na (quadL nd es).length nc) (quadL nd es))(hG:GrOk nd es)(he:endsP nd u v)(hn:edgeP u v∈es)(hT:TabRd κ I 0 tzCells):eu prog κ 301 [.pointer (some ⟨b,10,none⟩),e7 u,e7 v,.bool cb] (e8 b [y0,y1,M,y3,y4,y5,Z,y7,y8,y9,e7 nd,.slice ea es.length ec,e7 (wedgeC nd es),e7 (quadC nd es),.slice na (quadL nd es).length nc] 169::I) (λr J=>∃(ga:Option Addr) (gc:Nat) (a:Option Addr) (c:Nat),r=e7 0/\J=e8 b [y0,y1,M,y3,y4,y5,Z,y7,y8,y9,e7 nd,.slice ga (without es (edgeP u v)).length gc,e7 (wedgeC nd (without es (edgeP u v))),e7 (quadC nd (without es (edgeP u v))),.slice a (quadL nd (without es (edgeP u v))).length c] 169::vk 3 a c (quadL nd (without es (edgeP u v)))::vk 105 ga gc (without es (edgeP u v))::I):=by
 refine Ce4 Tryz.func301 C C ?_
 refine Ad<|Ga C<|Ac<|Ad<|Gm C<|Gr (Bo C)<|Gf fld167_0 C<|Gm C<|Gm C<|Gm C<|G.e (Aj c_ C C<|RenD3_ok hc hl hm hG he hn hT) ?_
 rintro _ _ ⟨_,_,⟨ga,gc,a,c,rfl,rfl⟩,rfl,rfl⟩
 exact Ga C<|Ac<|Az<|A1 C C (e8 b [y0,y1,M,y3,y4,y5,Z,y7,y8,y9,e7 nd,.slice ga (without es<|edgeP u v).length gc,e7<|wedgeC nd<|without es<|edgeP u v,e7<|quadC nd<|without es<|edgeP u v,.slice a (quadL nd<|without es<|edgeP u v).length c] 169::vk 3 a c (quadL nd<|without es<|edgeP u v)::vk 105 ga gc (without es<|edgeP u v)::I) Bl ⟨ga,gc,a,c,rfl,rfl⟩
variable {κ:Ctx}{I:List Item}
set_option maxHeartbeats 4000000 in
theorem OfK_ok{x0 x1 x2 x3 x4 x5 x6 x7 x8 x9 aj ap aq an ai ao ak ar:Value} :
    eu prog κ 61 [.agg #[x0,x1,x2,x3,x4,x5,x6,x7,x8,x9,aj,M,ap,ab,aa,ae,aq,ah,an,ai,Z,ad,ao,ak,ar]] I (λr J=>∃b:Nat,r = (pt b)/\J=e8 b [x9,aj,M,ap,ab,aa,ae,aq,ah,an,ai,Z,ad,ao,ak] 169::I):=by
 refine Ce1 Tryz.func61 C C ?_
 refine Ad<|Ge1 (Bd (cs:=[_,_,_,_,_,_,_,_,_,_,_,_,_,_,_,_,_,_,_,_,_,_,_,_,_]) C C C) λb1=>Ga C<|Ac<|Ad<|Gf fld47_3 C<|Gl3 ty40 ?_
 refine Gr (Bq (cells:=[_,_,_]) ty161 Tryz.underlying161 pl161 C C)<|Gf fld47_4 C<|Gl3 ty41 ?_
 refine Gr (Bq (cells:=[_,_,_]) ty163 Tryz.underlying163 pl163 C C)<|Gf fld47_5 C<|Gl4 ty43 ?_
 refine Gr (Bq (cells:=[_,_,_,_]) ty165 Tryz.underlying165 pl165 C C)<|Gf fld47_6 C<|Gr (Bc (vs:=[_,_,_,_,_]) ty45) ?_
 exact Gr (Bq (cells:=[_,_,_,_,_]) ty167 Tryz.underlying167 pl167 C C)<|Gr (Bq (cells:=[x9,aj,M,ap,ab,aa,ae,aq,ah,an,ai,Z,ad,ao,ak]) ty169 Tryz.underlying169 pl169 C kr)<|Ge1 (Bd (cs:=[_,_,_,_,_,_,_,_,_,_,_,_,_,_,_]) C C C) λb2=>Ga C<|Ac<|Ap (S1 2)<|Az<|A1 C C (e8 b2 [x9,aj,M,ap,ab,aa,ae,aq,ah,an,ai,Z,ad,ao,ak] 169::I) Bl ⟨b2,rfl,rfl⟩
theorem ty117:tyF prog 117=some (1,false,16,[.nilIface]):=by kernel_rfl
theorem All_ok :
    eu prog κ 62 [(pt b)] I (λr J=>∃a:Option Addr,r = .slice a 4 4/\J=vc 117 (.slice a 4 4) ([⟨170,b,0⟩,⟨171,b,3⟩,⟨172,b,6⟩,⟨173,b,10⟩]:List IfcC)::I):=by
 refine Ce1 Tryz.func62 C C ?_
 refine Ad<|Ga C<|Ac<|Ar<|Bs mixed<|Cc I 18<|Dr 0 C (Ai C)<|Dr 1 C (Bo C)<|Dr 2 C (Ab fld169_0 C)<|Dr 3 C (Runs.mkIface (λw=>by kernel_rfl) C) ?_
 refine Dr 4 C (Ai C)<|Dr 5 C (Bo C)<|Dr 6 C (Ab fld169_1 C)<|Dr 7 C (Runs.mkIface (λw=>by kernel_rfl) C) ?_
 refine Dr 8 C (Ai C)<|Dr 9 C (Bo C)<|Dr 10 C (Ab fld169_2 C)<|Dr 11 C (Runs.mkIface (λw=>by kernel_rfl) C) ?_
 refine Dr 12 C (Ai C)<|Dr 13 C (Bo C)<|Dr 14 C (Ab fld169_3 C)<|Dr 15 C (Runs.mkIface (λw=>by kernel_rfl) C) ?_
 refine Ds1 16<|Se1 C (Ce (α:=IfcC) (cs:=[_,_,_,_]) (xs:=[⟨170,b,0⟩,⟨171,b,3⟩,⟨172,b,6⟩,⟨173,b,10⟩]) Ck ty117 C C dc dc C C C C) λZ=>?_
 exact Dr 17 C (Bf C)<|Dz<|Ah<|Ap (S1 2)<|Az<|A1 C C (vc 117 (.slice Z 4 4) (([⟨170,b,0⟩,⟨171,b,3⟩,⟨172,b,6⟩,⟨173,b,10⟩]:List IfcC))::I) Bl ⟨Z,rfl,rfl⟩
end Go.Sl
