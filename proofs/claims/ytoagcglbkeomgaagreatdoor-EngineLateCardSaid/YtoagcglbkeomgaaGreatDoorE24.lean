/- A part of the proofs of statements of this seat: contracts of functions, and the plain laws that they lean on. No conditions. -/
import Derived.Test.YtoagcglbkeomgaaGreatDoorE23
set_option linter.unusedVariables false
set_option linter.unusedSimpArgs false
set_option linter.unusedSectionVars false
open Go.Proofs.Tryz (prog)
namespace Go.Sl
open Go.Proofs
set_option maxRecDepth 4000
variable{nd u v:Int}{ea na:Option Addr}{b ec nc:Nat}{es:List Pt}{cb:Bool}{M aa ab ad ae ai aj y0 y1 y2 y3 y4 y5 y6 y7 y8 y9:Value}
variable {κ:Ctx}{I:List Item}
attribute [local irreducible] W G V D A j7 Eff
theorem fd5(hc:cb=true)(hl:Sl κ I (.slice ea es.length ec) es)(hm:Sl κ I (.slice na (j9 nd es).length nc) (j9 nd es))(hG:s8 nd es)(he:F5 nd u v)(hn:j4 u v∉es)(hT:F4 κ I 0 p5):eu prog κ 255 [(pt b),.bool cb,.func (.func 256) #[] #[],.func (.func 257) #[] #[],e7 u,e7 v] (e8 b [e7 nd,.slice ea es.length ec,.slice na (j9 nd es).length nc,y3,y4,y5,y6,y7,y8,y9,ai,aj,ab,M,aa] 169::I) (λr J=>∃(ga:Option Addr) (gc:Nat) (a:Option Addr) (c:Nat),r=e7 0/\J=e8 b [e7 nd,.slice ga (z8 Pt.lt es (j4 u v)).length gc,.slice a (j9 nd (z8 Pt.lt es (j4 u v))).length c,y3,y4,y5,y6,y7,y8,y9,ai,aj,ab,M,aa] 169::vk 3 a c (j9 nd (z8 Pt.lt es (j4 u v)))::vk 105 ga gc (z8 Pt.lt es (j4 u v))::I):=by
 refine Ce6 Tryz.func255 C C<|Z ?_
 refine Dq C (λan=>Z ?_)<|λan=>?_
 ·refine G.e (Cx c_ C C C<|cx5 (nd:=nd) (u:=u) (v:=v) (A4 hl) (A4 hm) hG he hn<|A6 hT Ah) ?_
  rintro _ _ ⟨_,_,⟨ae,ah,ad,ak,w5,rfl,rfl⟩,rfl,rfl⟩
  refine Z ?_
  refine Ge1 (Aj ab6 C) λb6=>Ge0 (C9 ab6)<|Z ?_
  refine Al C (λao=>Z ?_)<|λao=>?_
  ·refine Ge0 (Br (cs:=[_,_,_,_,_,_,_,_,_,_,_,_,_,_,_]) (vs:=[_,_,_]) (cs':=[_,_,_,_,_,_,_,_,_,_,_,_,_,_,_]) ab6) (Z ?_)
   exact Ak C C (e8 b [e7 nd,.slice ae (z8 Pt.lt es<|j4 u v).length ah,.slice ad (j9 nd<|z8 Pt.lt es<|j4 u v).length ak,y3,y4,y5,y6,y7,y8,y9,ai,aj,ab,M,aa] 169::vk 3 ad ak (j9 nd<|z8 Pt.lt es<|j4 u v)::vk 105 ae ah (z8 Pt.lt es<|j4 u v)::I) Az ⟨ae,ah,ad,ak,rfl,rfl⟩
  exact absurd dc ao
 rw [hc] at an;exact absurd an dc
theorem fg3(hc:cb=true)(hl:Sl κ I (.slice ea es.length ec) es)(hm:Sl κ I (.slice na (j9 nd es).length nc) (j9 nd es))(hG:s8 nd es)(he:F5 nd u v)(hn:j4 u v∉es)(hT:F4 κ I 0 p5):eu prog κ 253 [(pt b),e7 u,e7 v,.bool cb] (e8 b [e7 nd,.slice ea es.length ec,.slice na (j9 nd es).length nc,y3,y4,y5,y6,y7,y8,y9,ae,M,ad,aa,ab] 169::I) (λr J=>∃(ga:Option Addr) (gc:Nat) (a:Option Addr) (c:Nat),r=e7 0/\J=e8 b [e7 nd,.slice ga (z8 Pt.lt es (j4 u v)).length gc,.slice a (j9 nd (z8 Pt.lt es (j4 u v))).length c,y3,y4,y5,y6,y7,y8,y9,ae,M,ad,aa,ab] 169::vk 3 a c (j9 nd (z8 Pt.lt es (j4 u v)))::vk 105 ga gc (z8 Pt.lt es (j4 u v))::I):=by
 refine Ce4 Tryz.func253 C C<|Z ?_
 refine G.e (Ac c_ C C<|fd5 hc hl hm hG he hn hT) ?_
 rintro _ _ ⟨_,_,⟨ga,gc,a,c,rfl,rfl⟩,rfl,rfl⟩
 exact Ga C<|Ar<|B2<|Ak C C (e8 b [e7 nd,.slice ga (z8 Pt.lt es<|j4 u v).length gc,.slice a (j9 nd<|z8 Pt.lt es<|j4 u v).length c,y3,y4,y5,y6,y7,y8,y9,ae,M,ad,aa,ab] 169::vk 3 a c (j9 nd<|z8 Pt.lt es<|j4 u v)::vk 105 ga gc (z8 Pt.lt es<|j4 u v)::I) Az ⟨ga,gc,a,c,rfl,rfl⟩
theorem fd9(hc:cb=false)(hl:Sl κ I (.slice ea es.length ec) es)(hm:Sl κ I (.slice na (j9 nd es).length nc) (j9 nd es))(hG:s8 nd es)(he:F5 nd u v)(hn:j4 u v∈es)(hT:F4 κ I 0 p5):eu prog κ 255 [(pt b),.bool cb,.func (.func 256) #[] #[],.func (.func 257) #[] #[],e7 u,e7 v] (e8 b [e7 nd,.slice ea es.length ec,.slice na (j9 nd es).length nc,y3,y4,y5,y6,y7,y8,y9,ai,aj,ab,M,aa] 169::I) (λr J=>∃(ga:Option Addr) (gc:Nat) (a:Option Addr) (c:Nat),r=e7 0/\J=e8 b [e7 nd,.slice ga (j6 es (j4 u v)).length gc,.slice a (j9 nd (j6 es (j4 u v))).length c,y3,y4,y5,y6,y7,y8,y9,ai,aj,ab,M,aa] 169::vk 3 a c (j9 nd (j6 es (j4 u v)))::vk 105 ga gc (j6 es (j4 u v))::I):=by
 refine Ce6 Tryz.func255 C C<|Z ?_
 refine Dq C (λan=>?_)<|λan=>Z ?_
 ·rw [hc] at an;exact absurd an dc
 refine G.e (Cx c_ C C C<|cx6 (nd:=nd) (u:=u) (v:=v) (A4 hl) (A4 hm) hG he hn<|A6 hT Ah) ?_
 rintro _ _ ⟨_,_,⟨ae,ah,ad,ak,w5,rfl,rfl⟩,rfl,rfl⟩
 refine Z ?_
 refine Ge1 (Aj ab6 C) λb6=>Ge0 (C9 ab6)<|Z ?_
 refine Al C (λao=>Z ?_)<|λao=>?_
 ·refine Ge0 (Br (cs:=[_,_,_,_,_,_,_,_,_,_,_,_,_,_,_]) (vs:=[_,_,_]) (cs':=[_,_,_,_,_,_,_,_,_,_,_,_,_,_,_]) ab6) (Z ?_)
  exact Ak C C (e8 b [e7 nd,.slice ae (j6 es<|j4 u v).length ah,.slice ad (j9 nd<|j6 es<|j4 u v).length ak,y3,y4,y5,y6,y7,y8,y9,ai,aj,ab,M,aa] 169::vk 3 ad ak (j9 nd<|j6 es<|j4 u v)::vk 105 ae ah (j6 es<|j4 u v)::I) Az ⟨ae,ah,ad,ak,rfl,rfl⟩
 exact absurd dc ao
theorem fg7(hc:cb=false)(hl:Sl κ I (.slice ea es.length ec) es)(hm:Sl κ I (.slice na (j9 nd es).length nc) (j9 nd es))(hG:s8 nd es)(he:F5 nd u v)(hn:j4 u v∈es)(hT:F4 κ I 0 p5):eu prog κ 253 [(pt b),e7 u,e7 v,.bool cb] (e8 b [e7 nd,.slice ea es.length ec,.slice na (j9 nd es).length nc,y3,y4,y5,y6,y7,y8,y9,ae,M,ad,aa,ab] 169::I) (λr J=>∃(ga:Option Addr) (gc:Nat) (a:Option Addr) (c:Nat),r=e7 0/\J=e8 b [e7 nd,.slice ga (j6 es (j4 u v)).length gc,.slice a (j9 nd (j6 es (j4 u v))).length c,y3,y4,y5,y6,y7,y8,y9,ae,M,ad,aa,ab] 169::vk 3 a c (j9 nd (j6 es (j4 u v)))::vk 105 ga gc (j6 es (j4 u v))::I):=by
 refine Ce4 Tryz.func253 C C<|Z ?_
 refine G.e (Ac c_ C C<|fd9 hc hl hm hG he hn hT) ?_
 rintro _ _ ⟨_,_,⟨ga,gc,a,c,rfl,rfl⟩,rfl,rfl⟩
 exact Ga C<|Ar<|B2<|Ak C C (e8 b [e7 nd,.slice ga (j6 es<|j4 u v).length gc,.slice a (j9 nd<|j6 es<|j4 u v).length c,y3,y4,y5,y6,y7,y8,y9,ae,M,ad,aa,ab] 169::vk 3 a c (j9 nd<|j6 es<|j4 u v)::vk 105 ga gc (j6 es<|j4 u v)::I) Az ⟨ga,gc,a,c,rfl,rfl⟩
theorem fd4(hc:cb=true)(hl:Sl κ I (.slice ea es.length ec) es)(hm:Sl κ I (.slice na (j5 nd es).length nc) (j5 nd es))(hG:s8 nd es)(he:F5 nd u v)(hn:j4 u v∉es)(hT:F4 κ I 0 p5):eu prog κ 282 [.pointer (some ⟨b,3,none⟩),.bool cb,.func (.func 283) #[] #[],.func (.func 284) #[] #[],e7 u,e7 v] (e8 b [y0,y1,y2,e7 nd,.slice ea es.length ec,.slice na (j5 nd es).length nc,y6,y7,y8,y9,ai,aj,ab,M,aa] 169::I) (λr J=>∃(ga:Option Addr) (gc:Nat) (a:Option Addr) (c:Nat),r=e7 0/\J=e8 b [y0,y1,y2,e7 nd,.slice ga (z8 Pt.lt es (j4 u v)).length gc,.slice a (j5 nd (z8 Pt.lt es (j4 u v))).length c,y6,y7,y8,y9,ai,aj,ab,M,aa] 169::vk 3 a c (j5 nd (z8 Pt.lt es (j4 u v)))::vk 105 ga gc (z8 Pt.lt es (j4 u v))::I):=by
 refine Ce6 Tryz.func282 C C<|Z ?_
 refine Dq C (λan=>Z ?_)<|λan=>?_
 ·refine G.e (Cx c_ C C C<|cy7 (nd:=nd) (u:=u) (v:=v) (A4 hl) (A4 hm) hG he hn<|A6 hT Ah) ?_
  rintro _ _ ⟨_,_,⟨ae,ah,ad,ak,w5,rfl,rfl⟩,rfl,rfl⟩
  refine Z ?_
  refine Ge1 (Aj L5 C) λb6=>Ge0 (C9 L5)<|Z ?_
  refine Al C (λao=>Z ?_)<|λao=>?_
  ·refine Ge0 (Br (cs:=[_,_,_,_,_,_,_,_,_,_,_,_,_,_,_]) (vs:=[_,_,_]) (cs':=[_,_,_,_,_,_,_,_,_,_,_,_,_,_,_]) L5) (Z ?_)
   exact Ak C C (e8 b [y0,y1,y2,e7 nd,.slice ae (z8 Pt.lt es<|j4 u v).length ah,.slice ad (j5 nd<|z8 Pt.lt es<|j4 u v).length ak,y6,y7,y8,y9,ai,aj,ab,M,aa] 169::vk 3 ad ak (j5 nd<|z8 Pt.lt es<|j4 u v)::vk 105 ae ah (z8 Pt.lt es<|j4 u v)::I) Az ⟨ae,ah,ad,ak,rfl,rfl⟩
  exact absurd dc ao
 rw [hc] at an;exact absurd an dc
theorem fg2(hc:cb=true)(hl:Sl κ I (.slice ea es.length ec) es)(hm:Sl κ I (.slice na (j5 nd es).length nc) (j5 nd es))(hG:s8 nd es)(he:F5 nd u v)(hn:j4 u v∉es)(hT:F4 κ I 0 p5):eu prog κ 280 [.pointer (some ⟨b,3,none⟩),e7 u,e7 v,.bool cb] (e8 b [y0,y1,y2,e7 nd,.slice ea es.length ec,.slice na (j5 nd es).length nc,y6,y7,y8,y9,ae,M,ad,aa,ab] 169::I) (λr J=>∃(ga:Option Addr) (gc:Nat) (a:Option Addr) (c:Nat),r=e7 0/\J=e8 b [y0,y1,y2,e7 nd,.slice ga (z8 Pt.lt es (j4 u v)).length gc,.slice a (j5 nd (z8 Pt.lt es (j4 u v))).length c,y6,y7,y8,y9,ae,M,ad,aa,ab] 169::vk 3 a c (j5 nd (z8 Pt.lt es (j4 u v)))::vk 105 ga gc (z8 Pt.lt es (j4 u v))::I):=by
 refine Ce4 Tryz.func280 C C<|Z ?_
 refine G.e (Ac c_ C C<|fd4 hc hl hm hG he hn hT) ?_
 rintro _ _ ⟨_,_,⟨ga,gc,a,c,rfl,rfl⟩,rfl,rfl⟩
 exact Ga C<|Ar<|B2<|Ak C C (e8 b [y0,y1,y2,e7 nd,.slice ga (z8 Pt.lt es<|j4 u v).length gc,.slice a (j5 nd<|z8 Pt.lt es<|j4 u v).length c,y6,y7,y8,y9,ae,M,ad,aa,ab] 169::vk 3 a c (j5 nd<|z8 Pt.lt es<|j4 u v)::vk 105 ga gc (z8 Pt.lt es<|j4 u v)::I) Az ⟨ga,gc,a,c,rfl,rfl⟩
theorem fd8(hc:cb=false)(hl:Sl κ I (.slice ea es.length ec) es)(hm:Sl κ I (.slice na (j5 nd es).length nc) (j5 nd es))(hG:s8 nd es)(he:F5 nd u v)(hn:j4 u v∈es)(hT:F4 κ I 0 p5):eu prog κ 282 [.pointer (some ⟨b,3,none⟩),.bool cb,.func (.func 283) #[] #[],.func (.func 284) #[] #[],e7 u,e7 v] (e8 b [y0,y1,y2,e7 nd,.slice ea es.length ec,.slice na (j5 nd es).length nc,y6,y7,y8,y9,ai,aj,ab,M,aa] 169::I) (λr J=>∃(ga:Option Addr) (gc:Nat) (a:Option Addr) (c:Nat),r=e7 0/\J=e8 b [y0,y1,y2,e7 nd,.slice ga (j6 es (j4 u v)).length gc,.slice a (j5 nd (j6 es (j4 u v))).length c,y6,y7,y8,y9,ai,aj,ab,M,aa] 169::vk 3 a c (j5 nd (j6 es (j4 u v)))::vk 105 ga gc (j6 es (j4 u v))::I):=by
 refine Ce6 Tryz.func282 C C<|Z ?_
 refine Dq C (λan=>?_)<|λan=>Z ?_
 ·rw [hc] at an;exact absurd an dc
 refine G.e (Cx c_ C C C<|cy8 (nd:=nd) (u:=u) (v:=v) (A4 hl) (A4 hm) hG he hn<|A6 hT Ah) ?_
 rintro _ _ ⟨_,_,⟨ae,ah,ad,ak,w5,rfl,rfl⟩,rfl,rfl⟩
 refine Z ?_
 refine Ge1 (Aj L5 C) λb6=>Ge0 (C9 L5)<|Z ?_
 refine Al C (λao=>Z ?_)<|λao=>?_
 ·refine Ge0 (Br (cs:=[_,_,_,_,_,_,_,_,_,_,_,_,_,_,_]) (vs:=[_,_,_]) (cs':=[_,_,_,_,_,_,_,_,_,_,_,_,_,_,_]) L5) (Z ?_)
  exact Ak C C (e8 b [y0,y1,y2,e7 nd,.slice ae (j6 es<|j4 u v).length ah,.slice ad (j5 nd<|j6 es<|j4 u v).length ak,y6,y7,y8,y9,ai,aj,ab,M,aa] 169::vk 3 ad ak (j5 nd<|j6 es<|j4 u v)::vk 105 ae ah (j6 es<|j4 u v)::I) Az ⟨ae,ah,ad,ak,rfl,rfl⟩
 exact absurd dc ao
theorem fg6(hc:cb=false)(hl:Sl κ I (.slice ea es.length ec) es)(hm:Sl κ I (.slice na (j5 nd es).length nc) (j5 nd es))(hG:s8 nd es)(he:F5 nd u v)(hn:j4 u v∈es)(hT:F4 κ I 0 p5):eu prog κ 280 [.pointer (some ⟨b,3,none⟩),e7 u,e7 v,.bool cb] (e8 b [y0,y1,y2,e7 nd,.slice ea es.length ec,.slice na (j5 nd es).length nc,y6,y7,y8,y9,ae,M,ad,aa,ab] 169::I) (λr J=>∃(ga:Option Addr) (gc:Nat) (a:Option Addr) (c:Nat),r=e7 0/\J=e8 b [y0,y1,y2,e7 nd,.slice ga (j6 es (j4 u v)).length gc,.slice a (j5 nd (j6 es (j4 u v))).length c,y6,y7,y8,y9,ae,M,ad,aa,ab] 169::vk 3 a c (j5 nd (j6 es (j4 u v)))::vk 105 ga gc (j6 es (j4 u v))::I):=by
 refine Ce4 Tryz.func280 C C<|Z ?_
 refine G.e (Ac c_ C C<|fd8 hc hl hm hG he hn hT) ?_
 rintro _ _ ⟨_,_,⟨ga,gc,a,c,rfl,rfl⟩,rfl,rfl⟩
 exact Ga C<|Ar<|B2<|Ak C C (e8 b [y0,y1,y2,e7 nd,.slice ga (j6 es<|j4 u v).length gc,.slice a (j5 nd<|j6 es<|j4 u v).length c,y6,y7,y8,y9,ae,M,ad,aa,ab] 169::vk 3 a c (j5 nd<|j6 es<|j4 u v)::vk 105 ga gc (j6 es<|j4 u v)::I) Az ⟨ga,gc,a,c,rfl,rfl⟩
theorem fd3(hc:cb=true)(hl:Sl κ I (.slice ea es.length ec) es)(hm:Sl κ I (.slice na (H7 nd es).length nc) (H7 nd es))(hG:s8 nd es)(he:F5 nd u v)(hn:j4 u v∉es)  :
    eu prog κ 296 [.pointer (some ⟨b,6,none⟩),.bool cb,.func (.func 297) #[] #[],.func (.func 298) #[] #[],e7 u,e7 v] (e8 b [y0,y1,y2,y3,y4,y5,e7 nd,.slice ea es.length ec,e7<|V5 nd es / 3,.slice na (H7 nd es).length nc,ai,aj,ab,M,aa] 169::I) (λr J=>∃(ga:Option Addr) (gc:Nat) (a:Option Addr) (c:Nat),r=e7 0/\J=e8 b [y0,y1,y2,y3,y4,y5,e7 nd,.slice ga (z8 Pt.lt es<|j4 u v).length gc,e7<|V5 nd (z8 Pt.lt es<|j4 u v) / 3,.slice a (H7 nd<|z8 Pt.lt es<|j4 u v).length c,ai,aj,ab,M,aa] 169::vk 3 a c (H7 nd<|z8 Pt.lt es<|j4 u v)::vk 105 ga gc (z8 Pt.lt es<|j4 u v)::I):=by
 refine Ce6 Tryz.func296 C C<|Z ?_
 refine Dq C (λan=>Z ?_)<|λan=>?_
 ·refine G.e (Cx c_ C C C<|cw5 (nd:=nd) (u:=u) (v:=v) (A4 hl) (A4 hm) hG he hn) ?_
  rintro _ _ ⟨_,_,⟨ae,ah,ad,ak,w5,rfl,rfl⟩,rfl,rfl⟩
  refine Z ?_
  refine Ge1 (Aj ad0 C) λb6=>Ge0 (C7 ad0)<|Z ?_
  refine Al C (λao=>Z ?_)<|λao=>?_
  ·refine Ge0 (Br (cs:=[_,_,_,_,_,_,_,_,_,_,_,_,_,_,_]) (vs:=[_,_,_,_]) (cs':=[_,_,_,_,_,_,_,_,_,_,_,_,_,_,_]) ad0) (Z ?_)
   exact Ak C C (e8 b [y0,y1,y2,y3,y4,y5,e7 nd,.slice ae (z8 Pt.lt es<|j4 u v).length ah,e7<|V5 nd (z8 Pt.lt es<|j4 u v) / 3,.slice ad (H7 nd<|z8 Pt.lt es<|j4 u v).length ak,ai,aj,ab,M,aa] 169::vk 3 ad ak (H7 nd<|z8 Pt.lt es<|j4 u v)::vk 105 ae ah (z8 Pt.lt es<|j4 u v)::I) Az ⟨ae,ah,ad,ak,rfl,rfl⟩
  exact absurd dc ao
 rw [hc] at an;exact absurd an dc
theorem fg1(hc:cb=true)(hl:Sl κ I (.slice ea es.length ec) es)(hm:Sl κ I (.slice na (H7 nd es).length nc) (H7 nd es))(hG:s8 nd es)(he:F5 nd u v)(hn:j4 u v∉es)  :
    eu prog κ 294 [.pointer (some ⟨b,6,none⟩),e7 u,e7 v,.bool cb] (e8 b [y0,y1,y2,y3,y4,y5,e7 nd,.slice ea es.length ec,e7<|V5 nd es / 3,.slice na (H7 nd es).length nc,ae,M,ad,aa,ab] 169::I) (λr J=>∃(ga:Option Addr) (gc:Nat) (a:Option Addr) (c:Nat),r=e7 0/\J=e8 b [y0,y1,y2,y3,y4,y5,e7 nd,.slice ga (z8 Pt.lt es<|j4 u v).length gc,e7<|V5 nd (z8 Pt.lt es<|j4 u v) / 3,.slice a (H7 nd<|z8 Pt.lt es<|j4 u v).length c,ae,M,ad,aa,ab] 169::vk 3 a c (H7 nd<|z8 Pt.lt es<|j4 u v)::vk 105 ga gc (z8 Pt.lt es<|j4 u v)::I):=by
 refine Ce4 Tryz.func294 C C<|Z ?_
 refine G.e (Ac c_ C C<|fd3 hc hl hm hG he hn) ?_
 rintro _ _ ⟨_,_,⟨ga,gc,a,c,rfl,rfl⟩,rfl,rfl⟩
 exact Ga C<|Ar<|B2<|Ak C C (e8 b [y0,y1,y2,y3,y4,y5,e7 nd,.slice ga (z8 Pt.lt es<|j4 u v).length gc,e7<|V5 nd (z8 Pt.lt es<|j4 u v) / 3,.slice a (H7 nd<|z8 Pt.lt es<|j4 u v).length c,ae,M,ad,aa,ab] 169::vk 3 a c (H7 nd<|z8 Pt.lt es<|j4 u v)::vk 105 ga gc (z8 Pt.lt es<|j4 u v)::I) Az ⟨ga,gc,a,c,rfl,rfl⟩
theorem fd7(hc:cb=false)(hl:Sl κ I (.slice ea es.length ec) es)(hm:Sl κ I (.slice na (H7 nd es).length nc) (H7 nd es))(hG:s8 nd es)(he:F5 nd u v)(hn:j4 u v∈es)  :
    eu prog κ 296 [.pointer (some ⟨b,6,none⟩),.bool cb,.func (.func 297) #[] #[],.func (.func 298) #[] #[],e7 u,e7 v] (e8 b [y0,y1,y2,y3,y4,y5,e7 nd,.slice ea es.length ec,e7<|V5 nd es / 3,.slice na (H7 nd es).length nc,ai,aj,ab,M,aa] 169::I) (λr J=>∃(ga:Option Addr) (gc:Nat) (a:Option Addr) (c:Nat),r=e7 0/\J=e8 b [y0,y1,y2,y3,y4,y5,e7 nd,.slice ga (j6 es<|j4 u v).length gc,e7<|V5 nd (j6 es<|j4 u v) / 3,.slice a (H7 nd<|j6 es<|j4 u v).length c,ai,aj,ab,M,aa] 169::vk 3 a c (H7 nd<|j6 es<|j4 u v)::vk 105 ga gc (j6 es<|j4 u v)::I):=by
 refine Ce6 Tryz.func296 C C<|Z ?_
 refine Dq C (λan=>?_)<|λan=>Z ?_
 ·rw [hc] at an;exact absurd an dc
 refine G.e (Cx c_ C C C<|cw6 (nd:=nd) (u:=u) (v:=v) (A4 hl) (A4 hm) hG he hn) ?_
 rintro _ _ ⟨_,_,⟨ae,ah,ad,ak,w5,rfl,rfl⟩,rfl,rfl⟩
 refine Z ?_
 refine Ge1 (Aj ad0 C) λb6=>Ge0 (C7 ad0)<|Z ?_
 refine Al C (λao=>Z ?_)<|λao=>?_
 ·refine Ge0 (Br (cs:=[_,_,_,_,_,_,_,_,_,_,_,_,_,_,_]) (vs:=[_,_,_,_]) (cs':=[_,_,_,_,_,_,_,_,_,_,_,_,_,_,_]) ad0) (Z ?_)
  exact Ak C C (e8 b [y0,y1,y2,y3,y4,y5,e7 nd,.slice ae (j6 es<|j4 u v).length ah,e7<|V5 nd (j6 es<|j4 u v) / 3,.slice ad (H7 nd<|j6 es<|j4 u v).length ak,ai,aj,ab,M,aa] 169::vk 3 ad ak (H7 nd<|j6 es<|j4 u v)::vk 105 ae ah (j6 es<|j4 u v)::I) Az ⟨ae,ah,ad,ak,rfl,rfl⟩
 exact absurd dc ao
theorem fg5(hc:cb=false)(hl:Sl κ I (.slice ea es.length ec) es)(hm:Sl κ I (.slice na (H7 nd es).length nc) (H7 nd es))(hG:s8 nd es)(he:F5 nd u v)(hn:j4 u v∈es)  :
    eu prog κ 294 [.pointer (some ⟨b,6,none⟩),e7 u,e7 v,.bool cb] (e8 b [y0,y1,y2,y3,y4,y5,e7 nd,.slice ea es.length ec,e7<|V5 nd es / 3,.slice na (H7 nd es).length nc,ae,M,ad,aa,ab] 169::I) (λr J=>∃(ga:Option Addr) (gc:Nat) (a:Option Addr) (c:Nat),r=e7 0/\J=e8 b [y0,y1,y2,y3,y4,y5,e7 nd,.slice ga (j6 es<|j4 u v).length gc,e7<|V5 nd (j6 es<|j4 u v) / 3,.slice a (H7 nd<|j6 es<|j4 u v).length c,ae,M,ad,aa,ab] 169::vk 3 a c (H7 nd<|j6 es<|j4 u v)::vk 105 ga gc (j6 es<|j4 u v)::I):=by
 refine Ce4 Tryz.func294 C C<|Z ?_
 refine G.e (Ac c_ C C<|fd7 hc hl hm hG he hn) ?_
 rintro _ _ ⟨_,_,⟨ga,gc,a,c,rfl,rfl⟩,rfl,rfl⟩
 exact Ga C<|Ar<|B2<|Ak C C (e8 b [y0,y1,y2,y3,y4,y5,e7 nd,.slice ga (j6 es<|j4 u v).length gc,e7<|V5 nd (j6 es<|j4 u v) / 3,.slice a (H7 nd<|j6 es<|j4 u v).length c,ae,M,ad,aa,ab] 169::vk 3 a c (H7 nd<|j6 es<|j4 u v)::vk 105 ga gc (j6 es<|j4 u v)::I) Az ⟨ga,gc,a,c,rfl,rfl⟩
theorem fd2(hc:cb=true)(hl:Sl κ I (.slice ea es.length ec) es)(hm:Sl κ I (.slice na (r9 nd es).length nc) (r9 nd es))(hG:s8 nd es)(he:F5 nd u v)(hn:j4 u v∉es)(hT:F4 κ I 0 p5):eu prog κ 303 [.pointer (some ⟨b,10,none⟩),.bool cb,.func (.func 304) #[] #[],.func (.func 305) #[] #[],e7 u,e7 v] (e8 b [y0,y1,y2,y3,y4,y5,y6,y7,y8,y9,e7 nd,.slice ea es.length ec,e7 (F7 nd es),e7 (J8 nd es),.slice na (r9 nd es).length nc] 169::I) (λr J=>∃(ga:Option Addr) (gc:Nat) (a:Option Addr) (c:Nat),r=e7 0/\J=e8 b [y0,y1,y2,y3,y4,y5,y6,y7,y8,y9,e7 nd,.slice ga (z8 Pt.lt es (j4 u v)).length gc,e7 (F7 nd (z8 Pt.lt es (j4 u v))),e7 (J8 nd (z8 Pt.lt es (j4 u v))),.slice a (r9 nd (z8 Pt.lt es (j4 u v))).length c] 169::vk 3 a c (r9 nd (z8 Pt.lt es (j4 u v)))::vk 105 ga gc (z8 Pt.lt es (j4 u v))::I):=by
 refine Ce6 Tryz.func303 C C<|Z ?_
 refine Dq C (λae=>Z ?_)<|λae=>?_
 ·refine G.e (Cx c_ C C C<|cy0 (nd:=nd) (u:=u) (v:=v) (A4 hl) (A4 hm) hG he hn<|A6 hT Ah) ?_
  rintro _ _ ⟨_,_,⟨aa,ab,M,ad,w5,rfl,rfl⟩,rfl,rfl⟩
  refine Z ?_
  refine Ge1 (Aj V4 C) λb6=>Ge0 (E5 V4)<|Z ?_
  refine Al C (λah=>Z ?_)<|λah=>?_
  ·refine Ge0 (Br (cs:=[_,_,_,_,_,_,_,_,_,_,_,_,_,_,_]) (vs:=[_,_,_,_,_]) (cs':=[_,_,_,_,_,_,_,_,_,_,_,_,_,_,_]) V4) (Z ?_)
   exact Ak C C (e8 b [y0,y1,y2,y3,y4,y5,y6,y7,y8,y9,e7 nd,.slice aa (z8 Pt.lt es<|j4 u v).length ab,e7<|F7 nd<|z8 Pt.lt es<|j4 u v,e7<|J8 nd<|z8 Pt.lt es<|j4 u v,.slice M (r9 nd<|z8 Pt.lt es<|j4 u v).length ad] 169::vk 3 M ad (r9 nd<|z8 Pt.lt es<|j4 u v)::vk 105 aa ab (z8 Pt.lt es<|j4 u v)::I) Az ⟨aa,ab,M,ad,rfl,rfl⟩
  exact absurd dc ah
 rw [hc] at ae;exact absurd ae dc
theorem fg0(hc:cb=true)(hl:Sl κ I (.slice ea es.length ec) es)(hm:Sl κ I (.slice na (r9 nd es).length nc) (r9 nd es))(hG:s8 nd es)(he:F5 nd u v)(hn:j4 u v∉es)(hT:F4 κ I 0 p5):eu prog κ 301 [.pointer (some ⟨b,10,none⟩),e7 u,e7 v,.bool cb] (e8 b [y0,y1,y2,y3,y4,y5,y6,M,y8,y9,e7 nd,.slice ea es.length ec,e7 (F7 nd es),e7 (J8 nd es),.slice na (r9 nd es).length nc] 169::I) (λr J=>∃(ga:Option Addr) (gc:Nat) (a:Option Addr) (c:Nat),r=e7 0/\J=e8 b [y0,y1,y2,y3,y4,y5,y6,M,y8,y9,e7 nd,.slice ga (z8 Pt.lt es (j4 u v)).length gc,e7 (F7 nd (z8 Pt.lt es (j4 u v))),e7 (J8 nd (z8 Pt.lt es (j4 u v))),.slice a (r9 nd (z8 Pt.lt es (j4 u v))).length c] 169::vk 3 a c (r9 nd (z8 Pt.lt es (j4 u v)))::vk 105 ga gc (z8 Pt.lt es (j4 u v))::I):=by
 refine Ce4 Tryz.func301 C C<|Z ?_
 refine G.e (Ac c_ C C<|fd2 hc hl hm hG he hn hT) ?_
 rintro _ _ ⟨_,_,⟨ga,gc,a,c,rfl,rfl⟩,rfl,rfl⟩
 exact Ga C<|Ar<|B2<|Ak C C (e8 b [y0,y1,y2,y3,y4,y5,y6,M,y8,y9,e7 nd,.slice ga (z8 Pt.lt es<|j4 u v).length gc,e7<|F7 nd<|z8 Pt.lt es<|j4 u v,e7<|J8 nd<|z8 Pt.lt es<|j4 u v,.slice a (r9 nd<|z8 Pt.lt es<|j4 u v).length c] 169::vk 3 a c (r9 nd<|z8 Pt.lt es<|j4 u v)::vk 105 ga gc (z8 Pt.lt es<|j4 u v)::I) Az ⟨ga,gc,a,c,rfl,rfl⟩
theorem fd6(hc:cb=false)(hl:Sl κ I (.slice ea es.length ec) es)(hm:Sl κ I (.slice na (r9 nd es).length nc) (r9 nd es))(hG:s8 nd es)(he:F5 nd u v)(hn:j4 u v∈es)(hT:F4 κ I 0 p5):eu prog κ 303 [.pointer (some ⟨b,10,none⟩),.bool cb,.func (.func 304) #[] #[],.func (.func 305) #[] #[],e7 u,e7 v] (e8 b [y0,y1,y2,y3,y4,y5,y6,y7,y8,y9,e7 nd,.slice ea es.length ec,e7 (F7 nd es),e7 (J8 nd es),.slice na (r9 nd es).length nc] 169::I) (λr J=>∃(ga:Option Addr) (gc:Nat) (a:Option Addr) (c:Nat),r=e7 0/\J=e8 b [y0,y1,y2,y3,y4,y5,y6,y7,y8,y9,e7 nd,.slice ga (j6 es (j4 u v)).length gc,e7 (F7 nd (j6 es (j4 u v))),e7 (J8 nd (j6 es (j4 u v))),.slice a (r9 nd (j6 es (j4 u v))).length c] 169::vk 3 a c (r9 nd (j6 es (j4 u v)))::vk 105 ga gc (j6 es (j4 u v))::I):=by
 refine Ce6 Tryz.func303 C C<|Z ?_
 refine Dq C (λae=>?_)<|λae=>Z ?_
 ·rw [hc] at ae;exact absurd ae dc
 refine G.e (Cx c_ C C C<|cy1 (nd:=nd) (u:=u) (v:=v) (A4 hl) (A4 hm) hG he hn<|A6 hT Ah) ?_
 rintro _ _ ⟨_,_,⟨aa,ab,M,ad,w5,rfl,rfl⟩,rfl,rfl⟩
 refine Z ?_
 refine Ge1 (Aj V4 C) λb6=>Ge0 (E5 V4)<|Z ?_
 refine Al C (λah=>Z ?_)<|λah=>?_
 ·refine Ge0 (Br (cs:=[_,_,_,_,_,_,_,_,_,_,_,_,_,_,_]) (vs:=[_,_,_,_,_]) (cs':=[_,_,_,_,_,_,_,_,_,_,_,_,_,_,_]) V4) (Z ?_)
  exact Ak C C (e8 b [y0,y1,y2,y3,y4,y5,y6,y7,y8,y9,e7 nd,.slice aa (j6 es<|j4 u v).length ab,e7<|F7 nd<|j6 es<|j4 u v,e7<|J8 nd<|j6 es<|j4 u v,.slice M (r9 nd<|j6 es<|j4 u v).length ad] 169::vk 3 M ad (r9 nd<|j6 es<|j4 u v)::vk 105 aa ab (j6 es<|j4 u v)::I) Az ⟨aa,ab,M,ad,rfl,rfl⟩
 exact absurd dc ah
theorem fg4(hc:cb=false)(hl:Sl κ I (.slice ea es.length ec) es)(hm:Sl κ I (.slice na (r9 nd es).length nc) (r9 nd es))(hG:s8 nd es)(he:F5 nd u v)(hn:j4 u v∈es)(hT:F4 κ I 0 p5):eu prog κ 301 [.pointer (some ⟨b,10,none⟩),e7 u,e7 v,.bool cb] (e8 b [y0,y1,y2,y3,y4,y5,y6,M,y8,y9,e7 nd,.slice ea es.length ec,e7 (F7 nd es),e7 (J8 nd es),.slice na (r9 nd es).length nc] 169::I) (λr J=>∃(ga:Option Addr) (gc:Nat) (a:Option Addr) (c:Nat),r=e7 0/\J=e8 b [y0,y1,y2,y3,y4,y5,y6,M,y8,y9,e7 nd,.slice ga (j6 es (j4 u v)).length gc,e7 (F7 nd (j6 es (j4 u v))),e7 (J8 nd (j6 es (j4 u v))),.slice a (r9 nd (j6 es (j4 u v))).length c] 169::vk 3 a c (r9 nd (j6 es (j4 u v)))::vk 105 ga gc (j6 es (j4 u v))::I):=by
 refine Ce4 Tryz.func301 C C<|Z ?_
 refine G.e (Ac c_ C C<|fd6 hc hl hm hG he hn hT) ?_
 rintro _ _ ⟨_,_,⟨ga,gc,a,c,rfl,rfl⟩,rfl,rfl⟩
 exact Ga C<|Ar<|B2<|Ak C C (e8 b [y0,y1,y2,y3,y4,y5,y6,M,y8,y9,e7 nd,.slice ga (j6 es<|j4 u v).length gc,e7<|F7 nd<|j6 es<|j4 u v,e7<|J8 nd<|j6 es<|j4 u v,.slice a (r9 nd<|j6 es<|j4 u v).length c] 169::vk 3 a c (r9 nd<|j6 es<|j4 u v)::vk 105 ga gc (j6 es<|j4 u v)::I) Az ⟨ga,gc,a,c,rfl,rfl⟩
variable {κ:Ctx}{I:List Item}
set_option maxHeartbeats 4000000 in
theorem fj2{x0 x1 x2 x3 x4 x5 x6 x7 x8 x9 an aq ao ar ah ak ap au:Value} :
    eu prog κ 61 [.agg #[x0,x1,x2,x3,x4,x5,x6,x7,x8,x9,an,aq,ao,ad,M,aa,ai,aj,ae,ar,ah,ak,ab,ap,au]] I (λr J=>∃b:Nat,r = (pt b)/\J=e8 b [x9,an,aq,ao,ad,M,aa,ai,aj,ae,ar,ah,ak,ab,ap] 169::I):=by
 refine Ce1 Tryz.func61 C C ?_
 refine Am<|Ge1 (Au (cs:=[_,_,_,_,_,_,_,_,_,_,_,_,_,_,_,_,_,_,_,_,_,_,_,_,_]) C C C) λb1=>Ga C<|Ar<|Am<|Gf cf7 C<|Gl3 ab6 ?_
 refine Gr (Cm (cells:=[_,_,_]) fu6 Tryz.underlying161 fx1 C C)<|Gf cf6 C<|Gl3 L5 ?_
 refine Gr (Cm (cells:=[_,_,_]) fu5 Tryz.underlying163 fx0 C C)<|Gf cf5 C<|Gl4 ad0 ?_
 refine Gr (Cm (cells:=[_,_,_,_]) fu4 Tryz.underlying165 fw9 C C)<|Gf cf4 C<|Gr (Bm (vs:=[_,_,_,_,_]) V4) ?_
 refine Gr (Cm (cells:=[_,_,_,_,_]) fu3 Tryz.underlying167 fw8 C C)<|Gr (Cm (cells:=[x9,an,aq,ao,ad,M,aa,ai,aj,ae,ar,ah,ak,ab,ap]) fu2 Tryz.underlying169 fw7 C kr)<|Ge1 (Au (cs:=[_,_,_,_,_,_,_,_,_,_,_,_,_,_,_]) C C C) λb2=>Z ?_
 exact Ak C C (e8 b2 [x9,an,aq,ao,ad,M,aa,ai,aj,ae,ar,ah,ak,ab,ap] 169::I) Az ⟨b2,rfl,rfl⟩
theorem W5:tyF prog 117=some (1,false,16,[.nilIface]):=by kernel_rfl
theorem dr8 :
    eu prog κ 62 [(pt b)] I (λr J=>∃a:Option Addr,r = .slice a 4 4/\J=vc 117 (.slice a 4 4) ([⟨170,b,0⟩,⟨171,b,3⟩,⟨172,b,6⟩,⟨173,b,10⟩]:List P0)::I):=by
 refine Ce1 Tryz.func62 C C<|Z ?_
 refine A9 mixed<|Bx I 18<|Z ?_
 refine Dr 3 C (j7.bq8 (λw=>by kernel_rfl) C)<|Z ?_
 refine Dr 7 C (j7.bq8 (λw=>by kernel_rfl) C)<|Z ?_
 refine Dr 11 C (j7.bq8 (λw=>by kernel_rfl) C)<|Z ?_
 refine Dr 15 C (j7.bq8 (λw=>by kernel_rfl) C) ?_
 refine Ds1 16<|Se1 C (B0 (α:=P0) (cs:=[_,_,_,_]) (xs:=[⟨170,b,0⟩,⟨171,b,3⟩,⟨172,b,6⟩,⟨173,b,10⟩]) Ce W5 C C dc dc C C C C) λM=>Z ?_
 exact Ak C C (vc 117 (.slice M 4 4) (([⟨170,b,0⟩,⟨171,b,3⟩,⟨172,b,6⟩,⟨173,b,10⟩]:List P0))::I) Az ⟨M,rfl,rfl⟩
end Go.Sl
