/- A part of the proofs of statements of this seat: contracts of functions, and the plain laws that they lean on. No conditions. -/
import Derived.Test.YtoagcglbkeomgaaGreatDoorV23
set_option linter.unusedVariables false
set_option linter.unusedSimpArgs false
set_option linter.unusedSectionVars false
open Go.Proofs.Tryz (prog)
namespace Go.Sl
open Go.Proofs
set_option maxRecDepth 4000
variable{nd u v:Int}{ea na:Option Addr}{b ec nc:Nat}{es:List Pt}{cb:Bool}{M aa ab ad ae ah an y0 y1 y2 y3 y4 y5 y6 y7 y8 y9:Value}
variable {κ:Ctx}{I:List Item}
attribute [local irreducible] W G V D A j8 Eff
theorem fe2(hc:cb=true)(hl:Sl κ I (.slice ea es.length ec) es)(hm:Sl κ I (.slice na (j9 nd es).length nc) (j9 nd es))(hG:s6 nd es)(he:F5 nd u v)(hn:j4 u v∉es)(hT:F4 κ I 0 p6):eu prog κ 255 [(pt b),.bool cb,.func (.func 256) #[] #[],.func (.func 257) #[] #[],e7 u,e7 v] (e8 b [e7 nd,.slice ea es.length ec,.slice na (j9 nd es).length nc,y3,y4,y5,y6,y7,y8,y9,an,M,ab,ah,ae] 169::I) (λr J=>∃(ga:Option Addr) (gc:Nat) (a:Option Addr) (c:Nat),r=e7 0/\J=e8 b [e7 nd,.slice ga (z7 Pt.lt es (j4 u v)).length gc,.slice a (j9 nd (z7 Pt.lt es (j4 u v))).length c,y3,y4,y5,y6,y7,y8,y9,an,M,ab,ah,ae] 169::vk 3 a c (j9 nd (z7 Pt.lt es (j4 u v)))::vk 105 ga gc (z7 Pt.lt es (j4 u v))::I):=by
 refine Ce6 Tryz.func255 C C<|Z ?_
 refine Dp C (λak=>Z ?_)<|λak=>?_
 ·refine G.e (Cy c_ C C C<|cx7 (nd:=nd) (u:=u) (v:=v) (A4 hl) (A4 hm) hG he hn<|A8 hT Ah) ?_
  rintro _ _ ⟨_,_,⟨aa,ai,ad,aj,w5,rfl,rfl⟩,rfl,rfl⟩
  refine Z ?_
  refine Ge1 (Aj ab7 C) λb6=>Ge0 (Da ab7)<|Z ?_
  refine Am C (λao=>Z ?_)<|λao=>?_
  ·refine Ge0 (Bs (cs:=[_,_,_,_,_,_,_,_,_,_,_,_,_,_,_]) (vs:=[_,_,_]) (cs':=[_,_,_,_,_,_,_,_,_,_,_,_,_,_,_]) ab7) (Z ?_)
   exact Al C C (e8 b [e7 nd,.slice aa (z7 Pt.lt es<|j4 u v).length ai,.slice ad (j9 nd<|z7 Pt.lt es<|j4 u v).length aj,y3,y4,y5,y6,y7,y8,y9,an,M,ab,ah,ae] 169::vk 3 ad aj (j9 nd<|z7 Pt.lt es<|j4 u v)::vk 105 aa ai (z7 Pt.lt es<|j4 u v)::I) Az ⟨aa,ai,ad,aj,rfl,rfl⟩
  exact absurd dc ao
 rw [hc] at ak;exact absurd ak dc
theorem fh3(hc:cb=true)(hl:Sl κ I (.slice ea es.length ec) es)(hm:Sl κ I (.slice na (j9 nd es).length nc) (j9 nd es))(hG:s6 nd es)(he:F5 nd u v)(hn:j4 u v∉es)(hT:F4 κ I 0 p6):eu prog κ 253 [(pt b),e7 u,e7 v,.bool cb] (e8 b [e7 nd,.slice ea es.length ec,.slice na (j9 nd es).length nc,y3,y4,y5,y6,y7,y8,y9,aa,M,ab,ae,ad] 169::I) (λr J=>∃(ga:Option Addr) (gc:Nat) (a:Option Addr) (c:Nat),r=e7 0/\J=e8 b [e7 nd,.slice ga (z7 Pt.lt es (j4 u v)).length gc,.slice a (j9 nd (z7 Pt.lt es (j4 u v))).length c,y3,y4,y5,y6,y7,y8,y9,aa,M,ab,ae,ad] 169::vk 3 a c (j9 nd (z7 Pt.lt es (j4 u v)))::vk 105 ga gc (z7 Pt.lt es (j4 u v))::I):=by
 refine Ce4 Tryz.func253 C C<|Z ?_
 refine G.e (Ac c_ C C<|fe2 hc hl hm hG he hn hT) ?_
 rintro _ _ ⟨_,_,⟨ga,gc,a,c,rfl,rfl⟩,rfl,rfl⟩
 exact Ga C<|Ar<|B3<|Al C C (e8 b [e7 nd,.slice ga (z7 Pt.lt es<|j4 u v).length gc,.slice a (j9 nd<|z7 Pt.lt es<|j4 u v).length c,y3,y4,y5,y6,y7,y8,y9,aa,M,ab,ae,ad] 169::vk 3 a c (j9 nd<|z7 Pt.lt es<|j4 u v)::vk 105 ga gc (z7 Pt.lt es<|j4 u v)::I) Az ⟨ga,gc,a,c,rfl,rfl⟩
theorem fe6(hc:cb=false)(hl:Sl κ I (.slice ea es.length ec) es)(hm:Sl κ I (.slice na (j9 nd es).length nc) (j9 nd es))(hG:s6 nd es)(he:F5 nd u v)(hn:j4 u v∈es)(hT:F4 κ I 0 p6):eu prog κ 255 [(pt b),.bool cb,.func (.func 256) #[] #[],.func (.func 257) #[] #[],e7 u,e7 v] (e8 b [e7 nd,.slice ea es.length ec,.slice na (j9 nd es).length nc,y3,y4,y5,y6,y7,y8,y9,an,M,ab,ah,ae] 169::I) (λr J=>∃(ga:Option Addr) (gc:Nat) (a:Option Addr) (c:Nat),r=e7 0/\J=e8 b [e7 nd,.slice ga (j7 es (j4 u v)).length gc,.slice a (j9 nd (j7 es (j4 u v))).length c,y3,y4,y5,y6,y7,y8,y9,an,M,ab,ah,ae] 169::vk 3 a c (j9 nd (j7 es (j4 u v)))::vk 105 ga gc (j7 es (j4 u v))::I):=by
 refine Ce6 Tryz.func255 C C<|Z ?_
 refine Dp C (λak=>?_)<|λak=>Z ?_
 ·rw [hc] at ak;exact absurd ak dc
 refine G.e (Cy c_ C C C<|cx8 (nd:=nd) (u:=u) (v:=v) (A4 hl) (A4 hm) hG he hn<|A8 hT Ah) ?_
 rintro _ _ ⟨_,_,⟨aa,ai,ad,aj,w5,rfl,rfl⟩,rfl,rfl⟩
 refine Z ?_
 refine Ge1 (Aj ab7 C) λb6=>Ge0 (Da ab7)<|Z ?_
 refine Am C (λao=>Z ?_)<|λao=>?_
 ·refine Ge0 (Bs (cs:=[_,_,_,_,_,_,_,_,_,_,_,_,_,_,_]) (vs:=[_,_,_]) (cs':=[_,_,_,_,_,_,_,_,_,_,_,_,_,_,_]) ab7) (Z ?_)
  exact Al C C (e8 b [e7 nd,.slice aa (j7 es<|j4 u v).length ai,.slice ad (j9 nd<|j7 es<|j4 u v).length aj,y3,y4,y5,y6,y7,y8,y9,an,M,ab,ah,ae] 169::vk 3 ad aj (j9 nd<|j7 es<|j4 u v)::vk 105 aa ai (j7 es<|j4 u v)::I) Az ⟨aa,ai,ad,aj,rfl,rfl⟩
 exact absurd dc ao
theorem fh7(hc:cb=false)(hl:Sl κ I (.slice ea es.length ec) es)(hm:Sl κ I (.slice na (j9 nd es).length nc) (j9 nd es))(hG:s6 nd es)(he:F5 nd u v)(hn:j4 u v∈es)(hT:F4 κ I 0 p6):eu prog κ 253 [(pt b),e7 u,e7 v,.bool cb] (e8 b [e7 nd,.slice ea es.length ec,.slice na (j9 nd es).length nc,y3,y4,y5,y6,y7,y8,y9,aa,M,ab,ae,ad] 169::I) (λr J=>∃(ga:Option Addr) (gc:Nat) (a:Option Addr) (c:Nat),r=e7 0/\J=e8 b [e7 nd,.slice ga (j7 es (j4 u v)).length gc,.slice a (j9 nd (j7 es (j4 u v))).length c,y3,y4,y5,y6,y7,y8,y9,aa,M,ab,ae,ad] 169::vk 3 a c (j9 nd (j7 es (j4 u v)))::vk 105 ga gc (j7 es (j4 u v))::I):=by
 refine Ce4 Tryz.func253 C C<|Z ?_
 refine G.e (Ac c_ C C<|fe6 hc hl hm hG he hn hT) ?_
 rintro _ _ ⟨_,_,⟨ga,gc,a,c,rfl,rfl⟩,rfl,rfl⟩
 exact Ga C<|Ar<|B3<|Al C C (e8 b [e7 nd,.slice ga (j7 es<|j4 u v).length gc,.slice a (j9 nd<|j7 es<|j4 u v).length c,y3,y4,y5,y6,y7,y8,y9,aa,M,ab,ae,ad] 169::vk 3 a c (j9 nd<|j7 es<|j4 u v)::vk 105 ga gc (j7 es<|j4 u v)::I) Az ⟨ga,gc,a,c,rfl,rfl⟩
theorem fe1(hc:cb=true)(hl:Sl κ I (.slice ea es.length ec) es)(hm:Sl κ I (.slice na (j6 nd es).length nc) (j6 nd es))(hG:s6 nd es)(he:F5 nd u v)(hn:j4 u v∉es)(hT:F4 κ I 0 p6):eu prog κ 282 [.pointer (some ⟨b,3,none⟩),.bool cb,.func (.func 283) #[] #[],.func (.func 284) #[] #[],e7 u,e7 v] (e8 b [y0,y1,y2,e7 nd,.slice ea es.length ec,.slice na (j6 nd es).length nc,y6,y7,y8,y9,an,M,ab,ah,ae] 169::I) (λr J=>∃(ga:Option Addr) (gc:Nat) (a:Option Addr) (c:Nat),r=e7 0/\J=e8 b [y0,y1,y2,e7 nd,.slice ga (z7 Pt.lt es (j4 u v)).length gc,.slice a (j6 nd (z7 Pt.lt es (j4 u v))).length c,y6,y7,y8,y9,an,M,ab,ah,ae] 169::vk 3 a c (j6 nd (z7 Pt.lt es (j4 u v)))::vk 105 ga gc (z7 Pt.lt es (j4 u v))::I):=by
 refine Ce6 Tryz.func282 C C<|Z ?_
 refine Dp C (λak=>Z ?_)<|λak=>?_
 ·refine G.e (Cy c_ C C C<|cz0 (nd:=nd) (u:=u) (v:=v) (A4 hl) (A4 hm) hG he hn<|A8 hT Ah) ?_
  rintro _ _ ⟨_,_,⟨aa,ai,ad,aj,w5,rfl,rfl⟩,rfl,rfl⟩
  refine Z ?_
  refine Ge1 (Aj L4 C) λb6=>Ge0 (Da L4)<|Z ?_
  refine Am C (λao=>Z ?_)<|λao=>?_
  ·refine Ge0 (Bs (cs:=[_,_,_,_,_,_,_,_,_,_,_,_,_,_,_]) (vs:=[_,_,_]) (cs':=[_,_,_,_,_,_,_,_,_,_,_,_,_,_,_]) L4) (Z ?_)
   exact Al C C (e8 b [y0,y1,y2,e7 nd,.slice aa (z7 Pt.lt es<|j4 u v).length ai,.slice ad (j6 nd<|z7 Pt.lt es<|j4 u v).length aj,y6,y7,y8,y9,an,M,ab,ah,ae] 169::vk 3 ad aj (j6 nd<|z7 Pt.lt es<|j4 u v)::vk 105 aa ai (z7 Pt.lt es<|j4 u v)::I) Az ⟨aa,ai,ad,aj,rfl,rfl⟩
  exact absurd dc ao
 rw [hc] at ak;exact absurd ak dc
theorem fh2(hc:cb=true)(hl:Sl κ I (.slice ea es.length ec) es)(hm:Sl κ I (.slice na (j6 nd es).length nc) (j6 nd es))(hG:s6 nd es)(he:F5 nd u v)(hn:j4 u v∉es)(hT:F4 κ I 0 p6):eu prog κ 280 [.pointer (some ⟨b,3,none⟩),e7 u,e7 v,.bool cb] (e8 b [y0,y1,y2,e7 nd,.slice ea es.length ec,.slice na (j6 nd es).length nc,y6,y7,y8,y9,aa,M,ab,ae,ad] 169::I) (λr J=>∃(ga:Option Addr) (gc:Nat) (a:Option Addr) (c:Nat),r=e7 0/\J=e8 b [y0,y1,y2,e7 nd,.slice ga (z7 Pt.lt es (j4 u v)).length gc,.slice a (j6 nd (z7 Pt.lt es (j4 u v))).length c,y6,y7,y8,y9,aa,M,ab,ae,ad] 169::vk 3 a c (j6 nd (z7 Pt.lt es (j4 u v)))::vk 105 ga gc (z7 Pt.lt es (j4 u v))::I):=by
 refine Ce4 Tryz.func280 C C<|Z ?_
 refine G.e (Ac c_ C C<|fe1 hc hl hm hG he hn hT) ?_
 rintro _ _ ⟨_,_,⟨ga,gc,a,c,rfl,rfl⟩,rfl,rfl⟩
 exact Ga C<|Ar<|B3<|Al C C (e8 b [y0,y1,y2,e7 nd,.slice ga (z7 Pt.lt es<|j4 u v).length gc,.slice a (j6 nd<|z7 Pt.lt es<|j4 u v).length c,y6,y7,y8,y9,aa,M,ab,ae,ad] 169::vk 3 a c (j6 nd<|z7 Pt.lt es<|j4 u v)::vk 105 ga gc (z7 Pt.lt es<|j4 u v)::I) Az ⟨ga,gc,a,c,rfl,rfl⟩
theorem fe5(hc:cb=false)(hl:Sl κ I (.slice ea es.length ec) es)(hm:Sl κ I (.slice na (j6 nd es).length nc) (j6 nd es))(hG:s6 nd es)(he:F5 nd u v)(hn:j4 u v∈es)(hT:F4 κ I 0 p6):eu prog κ 282 [.pointer (some ⟨b,3,none⟩),.bool cb,.func (.func 283) #[] #[],.func (.func 284) #[] #[],e7 u,e7 v] (e8 b [y0,y1,y2,e7 nd,.slice ea es.length ec,.slice na (j6 nd es).length nc,y6,y7,y8,y9,an,M,ab,ah,ae] 169::I) (λr J=>∃(ga:Option Addr) (gc:Nat) (a:Option Addr) (c:Nat),r=e7 0/\J=e8 b [y0,y1,y2,e7 nd,.slice ga (j7 es (j4 u v)).length gc,.slice a (j6 nd (j7 es (j4 u v))).length c,y6,y7,y8,y9,an,M,ab,ah,ae] 169::vk 3 a c (j6 nd (j7 es (j4 u v)))::vk 105 ga gc (j7 es (j4 u v))::I):=by
 refine Ce6 Tryz.func282 C C<|Z ?_
 refine Dp C (λak=>?_)<|λak=>Z ?_
 ·rw [hc] at ak;exact absurd ak dc
 refine G.e (Cy c_ C C C<|cz1 (nd:=nd) (u:=u) (v:=v) (A4 hl) (A4 hm) hG he hn<|A8 hT Ah) ?_
 rintro _ _ ⟨_,_,⟨aa,ai,ad,aj,w5,rfl,rfl⟩,rfl,rfl⟩
 refine Z ?_
 refine Ge1 (Aj L4 C) λb6=>Ge0 (Da L4)<|Z ?_
 refine Am C (λao=>Z ?_)<|λao=>?_
 ·refine Ge0 (Bs (cs:=[_,_,_,_,_,_,_,_,_,_,_,_,_,_,_]) (vs:=[_,_,_]) (cs':=[_,_,_,_,_,_,_,_,_,_,_,_,_,_,_]) L4) (Z ?_)
  exact Al C C (e8 b [y0,y1,y2,e7 nd,.slice aa (j7 es<|j4 u v).length ai,.slice ad (j6 nd<|j7 es<|j4 u v).length aj,y6,y7,y8,y9,an,M,ab,ah,ae] 169::vk 3 ad aj (j6 nd<|j7 es<|j4 u v)::vk 105 aa ai (j7 es<|j4 u v)::I) Az ⟨aa,ai,ad,aj,rfl,rfl⟩
 exact absurd dc ao
theorem fh6(hc:cb=false)(hl:Sl κ I (.slice ea es.length ec) es)(hm:Sl κ I (.slice na (j6 nd es).length nc) (j6 nd es))(hG:s6 nd es)(he:F5 nd u v)(hn:j4 u v∈es)(hT:F4 κ I 0 p6):eu prog κ 280 [.pointer (some ⟨b,3,none⟩),e7 u,e7 v,.bool cb] (e8 b [y0,y1,y2,e7 nd,.slice ea es.length ec,.slice na (j6 nd es).length nc,y6,y7,y8,y9,aa,M,ab,ae,ad] 169::I) (λr J=>∃(ga:Option Addr) (gc:Nat) (a:Option Addr) (c:Nat),r=e7 0/\J=e8 b [y0,y1,y2,e7 nd,.slice ga (j7 es (j4 u v)).length gc,.slice a (j6 nd (j7 es (j4 u v))).length c,y6,y7,y8,y9,aa,M,ab,ae,ad] 169::vk 3 a c (j6 nd (j7 es (j4 u v)))::vk 105 ga gc (j7 es (j4 u v))::I):=by
 refine Ce4 Tryz.func280 C C<|Z ?_
 refine G.e (Ac c_ C C<|fe5 hc hl hm hG he hn hT) ?_
 rintro _ _ ⟨_,_,⟨ga,gc,a,c,rfl,rfl⟩,rfl,rfl⟩
 exact Ga C<|Ar<|B3<|Al C C (e8 b [y0,y1,y2,e7 nd,.slice ga (j7 es<|j4 u v).length gc,.slice a (j6 nd<|j7 es<|j4 u v).length c,y6,y7,y8,y9,aa,M,ab,ae,ad] 169::vk 3 a c (j6 nd<|j7 es<|j4 u v)::vk 105 ga gc (j7 es<|j4 u v)::I) Az ⟨ga,gc,a,c,rfl,rfl⟩
theorem fe0(hc:cb=true)(hl:Sl κ I (.slice ea es.length ec) es)(hm:Sl κ I (.slice na (H3 nd es).length nc) (H3 nd es))(hG:s6 nd es)(he:F5 nd u v)(hn:j4 u v∉es)  :
    eu prog κ 296 [.pointer (some ⟨b,6,none⟩),.bool cb,.func (.func 297) #[] #[],.func (.func 298) #[] #[],e7 u,e7 v] (e8 b [y0,y1,y2,y3,y4,y5,e7 nd,.slice ea es.length ec,e7<|V7 nd es / 3,.slice na (H3 nd es).length nc,an,M,ab,ah,ae] 169::I) (λr J=>∃(ga:Option Addr) (gc:Nat) (a:Option Addr) (c:Nat),r=e7 0/\J=e8 b [y0,y1,y2,y3,y4,y5,e7 nd,.slice ga (z7 Pt.lt es<|j4 u v).length gc,e7<|V7 nd (z7 Pt.lt es<|j4 u v) / 3,.slice a (H3 nd<|z7 Pt.lt es<|j4 u v).length c,an,M,ab,ah,ae] 169::vk 3 a c (H3 nd<|z7 Pt.lt es<|j4 u v)::vk 105 ga gc (z7 Pt.lt es<|j4 u v)::I):=by
 refine Ce6 Tryz.func296 C C<|Z ?_
 refine Dp C (λak=>Z ?_)<|λak=>?_
 ·refine G.e (Cy c_ C C C<|cw7 (nd:=nd) (u:=u) (v:=v) (A4 hl) (A4 hm) hG he hn) ?_
  rintro _ _ ⟨_,_,⟨aa,ai,ad,aj,w5,rfl,rfl⟩,rfl,rfl⟩
  refine Z ?_
  refine Ge1 (Aj ad3 C) λb6=>Ge0 (C8 ad3)<|Z ?_
  refine Am C (λao=>Z ?_)<|λao=>?_
  ·refine Ge0 (Bs (cs:=[_,_,_,_,_,_,_,_,_,_,_,_,_,_,_]) (vs:=[_,_,_,_]) (cs':=[_,_,_,_,_,_,_,_,_,_,_,_,_,_,_]) ad3) (Z ?_)
   exact Al C C (e8 b [y0,y1,y2,y3,y4,y5,e7 nd,.slice aa (z7 Pt.lt es<|j4 u v).length ai,e7<|V7 nd (z7 Pt.lt es<|j4 u v) / 3,.slice ad (H3 nd<|z7 Pt.lt es<|j4 u v).length aj,an,M,ab,ah,ae] 169::vk 3 ad aj (H3 nd<|z7 Pt.lt es<|j4 u v)::vk 105 aa ai (z7 Pt.lt es<|j4 u v)::I) Az ⟨aa,ai,ad,aj,rfl,rfl⟩
  exact absurd dc ao
 rw [hc] at ak;exact absurd ak dc
theorem fh1(hc:cb=true)(hl:Sl κ I (.slice ea es.length ec) es)(hm:Sl κ I (.slice na (H3 nd es).length nc) (H3 nd es))(hG:s6 nd es)(he:F5 nd u v)(hn:j4 u v∉es)  :
    eu prog κ 294 [.pointer (some ⟨b,6,none⟩),e7 u,e7 v,.bool cb] (e8 b [y0,y1,y2,y3,y4,y5,e7 nd,.slice ea es.length ec,e7<|V7 nd es / 3,.slice na (H3 nd es).length nc,aa,M,ab,ae,ad] 169::I) (λr J=>∃(ga:Option Addr) (gc:Nat) (a:Option Addr) (c:Nat),r=e7 0/\J=e8 b [y0,y1,y2,y3,y4,y5,e7 nd,.slice ga (z7 Pt.lt es<|j4 u v).length gc,e7<|V7 nd (z7 Pt.lt es<|j4 u v) / 3,.slice a (H3 nd<|z7 Pt.lt es<|j4 u v).length c,aa,M,ab,ae,ad] 169::vk 3 a c (H3 nd<|z7 Pt.lt es<|j4 u v)::vk 105 ga gc (z7 Pt.lt es<|j4 u v)::I):=by
 refine Ce4 Tryz.func294 C C<|Z ?_
 refine G.e (Ac c_ C C<|fe0 hc hl hm hG he hn) ?_
 rintro _ _ ⟨_,_,⟨ga,gc,a,c,rfl,rfl⟩,rfl,rfl⟩
 exact Ga C<|Ar<|B3<|Al C C (e8 b [y0,y1,y2,y3,y4,y5,e7 nd,.slice ga (z7 Pt.lt es<|j4 u v).length gc,e7<|V7 nd (z7 Pt.lt es<|j4 u v) / 3,.slice a (H3 nd<|z7 Pt.lt es<|j4 u v).length c,aa,M,ab,ae,ad] 169::vk 3 a c (H3 nd<|z7 Pt.lt es<|j4 u v)::vk 105 ga gc (z7 Pt.lt es<|j4 u v)::I) Az ⟨ga,gc,a,c,rfl,rfl⟩
theorem fe4(hc:cb=false)(hl:Sl κ I (.slice ea es.length ec) es)(hm:Sl κ I (.slice na (H3 nd es).length nc) (H3 nd es))(hG:s6 nd es)(he:F5 nd u v)(hn:j4 u v∈es)  :
    eu prog κ 296 [.pointer (some ⟨b,6,none⟩),.bool cb,.func (.func 297) #[] #[],.func (.func 298) #[] #[],e7 u,e7 v] (e8 b [y0,y1,y2,y3,y4,y5,e7 nd,.slice ea es.length ec,e7<|V7 nd es / 3,.slice na (H3 nd es).length nc,an,M,ab,ah,ae] 169::I) (λr J=>∃(ga:Option Addr) (gc:Nat) (a:Option Addr) (c:Nat),r=e7 0/\J=e8 b [y0,y1,y2,y3,y4,y5,e7 nd,.slice ga (j7 es<|j4 u v).length gc,e7<|V7 nd (j7 es<|j4 u v) / 3,.slice a (H3 nd<|j7 es<|j4 u v).length c,an,M,ab,ah,ae] 169::vk 3 a c (H3 nd<|j7 es<|j4 u v)::vk 105 ga gc (j7 es<|j4 u v)::I):=by
 refine Ce6 Tryz.func296 C C<|Z ?_
 refine Dp C (λak=>?_)<|λak=>Z ?_
 ·rw [hc] at ak;exact absurd ak dc
 refine G.e (Cy c_ C C C<|cw8 (nd:=nd) (u:=u) (v:=v) (A4 hl) (A4 hm) hG he hn) ?_
 rintro _ _ ⟨_,_,⟨aa,ai,ad,aj,w5,rfl,rfl⟩,rfl,rfl⟩
 refine Z ?_
 refine Ge1 (Aj ad3 C) λb6=>Ge0 (C8 ad3)<|Z ?_
 refine Am C (λao=>Z ?_)<|λao=>?_
 ·refine Ge0 (Bs (cs:=[_,_,_,_,_,_,_,_,_,_,_,_,_,_,_]) (vs:=[_,_,_,_]) (cs':=[_,_,_,_,_,_,_,_,_,_,_,_,_,_,_]) ad3) (Z ?_)
  exact Al C C (e8 b [y0,y1,y2,y3,y4,y5,e7 nd,.slice aa (j7 es<|j4 u v).length ai,e7<|V7 nd (j7 es<|j4 u v) / 3,.slice ad (H3 nd<|j7 es<|j4 u v).length aj,an,M,ab,ah,ae] 169::vk 3 ad aj (H3 nd<|j7 es<|j4 u v)::vk 105 aa ai (j7 es<|j4 u v)::I) Az ⟨aa,ai,ad,aj,rfl,rfl⟩
 exact absurd dc ao
theorem fh5(hc:cb=false)(hl:Sl κ I (.slice ea es.length ec) es)(hm:Sl κ I (.slice na (H3 nd es).length nc) (H3 nd es))(hG:s6 nd es)(he:F5 nd u v)(hn:j4 u v∈es)  :
    eu prog κ 294 [.pointer (some ⟨b,6,none⟩),e7 u,e7 v,.bool cb] (e8 b [y0,y1,y2,y3,y4,y5,e7 nd,.slice ea es.length ec,e7<|V7 nd es / 3,.slice na (H3 nd es).length nc,aa,M,ab,ae,ad] 169::I) (λr J=>∃(ga:Option Addr) (gc:Nat) (a:Option Addr) (c:Nat),r=e7 0/\J=e8 b [y0,y1,y2,y3,y4,y5,e7 nd,.slice ga (j7 es<|j4 u v).length gc,e7<|V7 nd (j7 es<|j4 u v) / 3,.slice a (H3 nd<|j7 es<|j4 u v).length c,aa,M,ab,ae,ad] 169::vk 3 a c (H3 nd<|j7 es<|j4 u v)::vk 105 ga gc (j7 es<|j4 u v)::I):=by
 refine Ce4 Tryz.func294 C C<|Z ?_
 refine G.e (Ac c_ C C<|fe4 hc hl hm hG he hn) ?_
 rintro _ _ ⟨_,_,⟨ga,gc,a,c,rfl,rfl⟩,rfl,rfl⟩
 exact Ga C<|Ar<|B3<|Al C C (e8 b [y0,y1,y2,y3,y4,y5,e7 nd,.slice ga (j7 es<|j4 u v).length gc,e7<|V7 nd (j7 es<|j4 u v) / 3,.slice a (H3 nd<|j7 es<|j4 u v).length c,aa,M,ab,ae,ad] 169::vk 3 a c (H3 nd<|j7 es<|j4 u v)::vk 105 ga gc (j7 es<|j4 u v)::I) Az ⟨ga,gc,a,c,rfl,rfl⟩
theorem fd9(hc:cb=true)(hl:Sl κ I (.slice ea es.length ec) es)(hm:Sl κ I (.slice na (r8 nd es).length nc) (r8 nd es))(hG:s6 nd es)(he:F5 nd u v)(hn:j4 u v∉es)(hT:F4 κ I 0 p6):eu prog κ 303 [.pointer (some ⟨b,10,none⟩),.bool cb,.func (.func 304) #[] #[],.func (.func 305) #[] #[],e7 u,e7 v] (e8 b [y0,y1,y2,y3,y4,y5,y6,y7,y8,y9,e7 nd,.slice ea es.length ec,e7 (F8 nd es),e7 (J7 nd es),.slice na (r8 nd es).length nc] 169::I) (λr J=>∃(ga:Option Addr) (gc:Nat) (a:Option Addr) (c:Nat),r=e7 0/\J=e8 b [y0,y1,y2,y3,y4,y5,y6,y7,y8,y9,e7 nd,.slice ga (z7 Pt.lt es (j4 u v)).length gc,e7 (F8 nd (z7 Pt.lt es (j4 u v))),e7 (J7 nd (z7 Pt.lt es (j4 u v))),.slice a (r8 nd (z7 Pt.lt es (j4 u v))).length c] 169::vk 3 a c (r8 nd (z7 Pt.lt es (j4 u v)))::vk 105 ga gc (z7 Pt.lt es (j4 u v))::I):=by
 refine Ce6 Tryz.func303 C C<|Z ?_
 refine Dp C (λae=>Z ?_)<|λae=>?_
 ·refine G.e (Cy c_ C C C<|cy2 (nd:=nd) (u:=u) (v:=v) (A4 hl) (A4 hm) hG he hn<|A8 hT Ah) ?_
  rintro _ _ ⟨_,_,⟨M,ab,aa,ad,w5,rfl,rfl⟩,rfl,rfl⟩
  refine Z ?_
  refine Ge1 (Aj V6 C) λb6=>Ge0 (E5 V6)<|Z ?_
  refine Am C (λah=>Z ?_)<|λah=>?_
  ·refine Ge0 (Bs (cs:=[_,_,_,_,_,_,_,_,_,_,_,_,_,_,_]) (vs:=[_,_,_,_,_]) (cs':=[_,_,_,_,_,_,_,_,_,_,_,_,_,_,_]) V6) (Z ?_)
   exact Al C C (e8 b [y0,y1,y2,y3,y4,y5,y6,y7,y8,y9,e7 nd,.slice M (z7 Pt.lt es<|j4 u v).length ab,e7<|F8 nd<|z7 Pt.lt es<|j4 u v,e7<|J7 nd<|z7 Pt.lt es<|j4 u v,.slice aa (r8 nd<|z7 Pt.lt es<|j4 u v).length ad] 169::vk 3 aa ad (r8 nd<|z7 Pt.lt es<|j4 u v)::vk 105 M ab (z7 Pt.lt es<|j4 u v)::I) Az ⟨M,ab,aa,ad,rfl,rfl⟩
  exact absurd dc ah
 rw [hc] at ae;exact absurd ae dc
theorem fh0(hc:cb=true)(hl:Sl κ I (.slice ea es.length ec) es)(hm:Sl κ I (.slice na (r8 nd es).length nc) (r8 nd es))(hG:s6 nd es)(he:F5 nd u v)(hn:j4 u v∉es)(hT:F4 κ I 0 p6):eu prog κ 301 [.pointer (some ⟨b,10,none⟩),e7 u,e7 v,.bool cb] (e8 b [y0,M,y2,y3,y4,y5,y6,y7,y8,y9,e7 nd,.slice ea es.length ec,e7 (F8 nd es),e7 (J7 nd es),.slice na (r8 nd es).length nc] 169::I) (λr J=>∃(ga:Option Addr) (gc:Nat) (a:Option Addr) (c:Nat),r=e7 0/\J=e8 b [y0,M,y2,y3,y4,y5,y6,y7,y8,y9,e7 nd,.slice ga (z7 Pt.lt es (j4 u v)).length gc,e7 (F8 nd (z7 Pt.lt es (j4 u v))),e7 (J7 nd (z7 Pt.lt es (j4 u v))),.slice a (r8 nd (z7 Pt.lt es (j4 u v))).length c] 169::vk 3 a c (r8 nd (z7 Pt.lt es (j4 u v)))::vk 105 ga gc (z7 Pt.lt es (j4 u v))::I):=by
 refine Ce4 Tryz.func301 C C<|Z ?_
 refine G.e (Ac c_ C C<|fd9 hc hl hm hG he hn hT) ?_
 rintro _ _ ⟨_,_,⟨ga,gc,a,c,rfl,rfl⟩,rfl,rfl⟩
 exact Ga C<|Ar<|B3<|Al C C (e8 b [y0,M,y2,y3,y4,y5,y6,y7,y8,y9,e7 nd,.slice ga (z7 Pt.lt es<|j4 u v).length gc,e7<|F8 nd<|z7 Pt.lt es<|j4 u v,e7<|J7 nd<|z7 Pt.lt es<|j4 u v,.slice a (r8 nd<|z7 Pt.lt es<|j4 u v).length c] 169::vk 3 a c (r8 nd<|z7 Pt.lt es<|j4 u v)::vk 105 ga gc (z7 Pt.lt es<|j4 u v)::I) Az ⟨ga,gc,a,c,rfl,rfl⟩
theorem fe3(hc:cb=false)(hl:Sl κ I (.slice ea es.length ec) es)(hm:Sl κ I (.slice na (r8 nd es).length nc) (r8 nd es))(hG:s6 nd es)(he:F5 nd u v)(hn:j4 u v∈es)(hT:F4 κ I 0 p6):eu prog κ 303 [.pointer (some ⟨b,10,none⟩),.bool cb,.func (.func 304) #[] #[],.func (.func 305) #[] #[],e7 u,e7 v] (e8 b [y0,y1,y2,y3,y4,y5,y6,y7,y8,y9,e7 nd,.slice ea es.length ec,e7 (F8 nd es),e7 (J7 nd es),.slice na (r8 nd es).length nc] 169::I) (λr J=>∃(ga:Option Addr) (gc:Nat) (a:Option Addr) (c:Nat),r=e7 0/\J=e8 b [y0,y1,y2,y3,y4,y5,y6,y7,y8,y9,e7 nd,.slice ga (j7 es (j4 u v)).length gc,e7 (F8 nd (j7 es (j4 u v))),e7 (J7 nd (j7 es (j4 u v))),.slice a (r8 nd (j7 es (j4 u v))).length c] 169::vk 3 a c (r8 nd (j7 es (j4 u v)))::vk 105 ga gc (j7 es (j4 u v))::I):=by
 refine Ce6 Tryz.func303 C C<|Z ?_
 refine Dp C (λae=>?_)<|λae=>Z ?_
 ·rw [hc] at ae;exact absurd ae dc
 refine G.e (Cy c_ C C C<|cy3 (nd:=nd) (u:=u) (v:=v) (A4 hl) (A4 hm) hG he hn<|A8 hT Ah) ?_
 rintro _ _ ⟨_,_,⟨M,ab,aa,ad,w5,rfl,rfl⟩,rfl,rfl⟩
 refine Z ?_
 refine Ge1 (Aj V6 C) λb6=>Ge0 (E5 V6)<|Z ?_
 refine Am C (λah=>Z ?_)<|λah=>?_
 ·refine Ge0 (Bs (cs:=[_,_,_,_,_,_,_,_,_,_,_,_,_,_,_]) (vs:=[_,_,_,_,_]) (cs':=[_,_,_,_,_,_,_,_,_,_,_,_,_,_,_]) V6) (Z ?_)
  exact Al C C (e8 b [y0,y1,y2,y3,y4,y5,y6,y7,y8,y9,e7 nd,.slice M (j7 es<|j4 u v).length ab,e7<|F8 nd<|j7 es<|j4 u v,e7<|J7 nd<|j7 es<|j4 u v,.slice aa (r8 nd<|j7 es<|j4 u v).length ad] 169::vk 3 aa ad (r8 nd<|j7 es<|j4 u v)::vk 105 M ab (j7 es<|j4 u v)::I) Az ⟨M,ab,aa,ad,rfl,rfl⟩
 exact absurd dc ah
theorem fh4(hc:cb=false)(hl:Sl κ I (.slice ea es.length ec) es)(hm:Sl κ I (.slice na (r8 nd es).length nc) (r8 nd es))(hG:s6 nd es)(he:F5 nd u v)(hn:j4 u v∈es)(hT:F4 κ I 0 p6):eu prog κ 301 [.pointer (some ⟨b,10,none⟩),e7 u,e7 v,.bool cb] (e8 b [y0,M,y2,y3,y4,y5,y6,y7,y8,y9,e7 nd,.slice ea es.length ec,e7 (F8 nd es),e7 (J7 nd es),.slice na (r8 nd es).length nc] 169::I) (λr J=>∃(ga:Option Addr) (gc:Nat) (a:Option Addr) (c:Nat),r=e7 0/\J=e8 b [y0,M,y2,y3,y4,y5,y6,y7,y8,y9,e7 nd,.slice ga (j7 es (j4 u v)).length gc,e7 (F8 nd (j7 es (j4 u v))),e7 (J7 nd (j7 es (j4 u v))),.slice a (r8 nd (j7 es (j4 u v))).length c] 169::vk 3 a c (r8 nd (j7 es (j4 u v)))::vk 105 ga gc (j7 es (j4 u v))::I):=by
 refine Ce4 Tryz.func301 C C<|Z ?_
 refine G.e (Ac c_ C C<|fe3 hc hl hm hG he hn hT) ?_
 rintro _ _ ⟨_,_,⟨ga,gc,a,c,rfl,rfl⟩,rfl,rfl⟩
 exact Ga C<|Ar<|B3<|Al C C (e8 b [y0,M,y2,y3,y4,y5,y6,y7,y8,y9,e7 nd,.slice ga (j7 es<|j4 u v).length gc,e7<|F8 nd<|j7 es<|j4 u v,e7<|J7 nd<|j7 es<|j4 u v,.slice a (r8 nd<|j7 es<|j4 u v).length c] 169::vk 3 a c (r8 nd<|j7 es<|j4 u v)::vk 105 ga gc (j7 es<|j4 u v)::I) Az ⟨ga,gc,a,c,rfl,rfl⟩
variable {κ:Ctx}{I:List Item}
set_option maxHeartbeats 4000000 in
theorem fk4{x0 x1 x2 x3 x4 x5 x6 x7 x8 x9 ar ai ao aq ap ak aj au:Value} :
    eu prog κ 61 [.agg #[x0,x1,x2,x3,x4,x5,x6,x7,x8,x9,ar,ae,ai,aa,ab,ad,ao,aq,ap,M,ak,an,ah,aj,au]] I (λr J=>∃b:Nat,r = (pt b)/\J=e8 b [x9,ar,ae,ai,aa,ab,ad,ao,aq,ap,M,ak,an,ah,aj] 169::I):=by
 refine Ce1 Tryz.func61 C C ?_
 refine Ak<|Ge1 (Au (cs:=[_,_,_,_,_,_,_,_,_,_,_,_,_,_,_,_,_,_,_,_,_,_,_,_,_]) C C C) λb1=>Ga C<|Ar<|Ak<|Gf bf6 C<|Gl3 ab7 ?_
 refine Gr (Cl (cells:=[_,_,_]) fv7 Tryz.underlying161 fy2 C C)<|Gf cf6 C<|Gl3 L4 ?_
 refine Gr (Cl (cells:=[_,_,_]) fv6 Tryz.underlying163 fy1 C C)<|Gf bf5 C<|Gl4 ad3 ?_
 refine Gr (Cl (cells:=[_,_,_,_]) fv5 Tryz.underlying165 fy0 C C)<|Gf bf4 C<|Gr (Bm (vs:=[_,_,_,_,_]) V6) ?_
 refine Gr (Cl (cells:=[_,_,_,_,_]) fv4 Tryz.underlying167 fx9 C C)<|Gr (Cl (cells:=[x9,ar,ae,ai,aa,ab,ad,ao,aq,ap,M,ak,an,ah,aj]) fv3 Tryz.underlying169 fx8 C kr)<|Ge1 (Au (cs:=[_,_,_,_,_,_,_,_,_,_,_,_,_,_,_]) C C C) λb2=>Z ?_
 exact Al C C (e8 b2 [x9,ar,ae,ai,aa,ab,ad,ao,aq,ap,M,ak,an,ah,aj] 169::I) Az ⟨b2,rfl,rfl⟩
theorem W5:tyF prog 117=some (1,false,16,[.nilIface]):=by kernel_rfl
theorem ds6 :
    eu prog κ 62 [(pt b)] I (λr J=>∃a:Option Addr,r = .slice a 4 4/\J=vc 117 (.slice a 4 4) ([⟨170,b,0⟩,⟨171,b,3⟩,⟨172,b,6⟩,⟨173,b,10⟩]:List P0)::I):=by
 refine Ce1 Tryz.func62 C C<|Z ?_
 refine Ba mixed<|Bx I 18<|Z ?_
 refine Dr 3 C (j8.br5 (λw=>by kernel_rfl) C)<|Z ?_
 refine Dr 7 C (j8.br5 (λw=>by kernel_rfl) C)<|Z ?_
 refine Dr 11 C (j8.br5 (λw=>by kernel_rfl) C)<|Z ?_
 refine Dr 15 C (j8.br5 (λw=>by kernel_rfl) C) ?_
 refine Ds1 16<|Se1 C (B2 (α:=P0) (cs:=[_,_,_,_]) (xs:=[⟨170,b,0⟩,⟨171,b,3⟩,⟨172,b,6⟩,⟨173,b,10⟩]) Ce W5 C C dc dc C C C C) λM=>Z ?_
 exact Al C C (vc 117 (.slice M 4 4) (([⟨170,b,0⟩,⟨171,b,3⟩,⟨172,b,6⟩,⟨173,b,10⟩]:List P0))::I) Az ⟨M,rfl,rfl⟩
end Go.Sl
