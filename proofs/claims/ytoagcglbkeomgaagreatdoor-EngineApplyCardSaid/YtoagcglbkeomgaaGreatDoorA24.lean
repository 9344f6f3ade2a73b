/- A part of the proofs of statements of this seat: contracts of functions, and the plain laws that they lean on. No conditions. -/
import Derived.Test.YtoagcglbkeomgaaGreatDoorA23
set_option linter.unusedVariables false
set_option linter.unusedSimpArgs false
set_option linter.unusedSectionVars false
open Go.Proofs.Tryz (prog)
namespace Go.Sl
open Go.Proofs
set_option maxRecDepth 4000
variable{nd u v:Int}{ea na:Option Addr}{b ec nc:Nat}{es:List Pt}{cb:Bool}{M aa ab ad ae ai aj an y0 y1 y2 y3 y4 y5 y6 y7 y8 y9:Value}
variable {κ:Ctx}{I:List Item}
attribute [local irreducible] W G V D A j8 Eff
theorem fd1(hc:cb=true)(hl:Sl κ I (.slice ea es.length ec) es)(hm:Sl κ I (.slice na (j9 nd es).length nc) (j9 nd es))(hG:s8 nd es)(he:F5 nd u v)(hn:j4 u v∉es)(hT:F4 κ I 0 p5):eu prog κ 255 [(pt b),.bool cb,.func (.func 256) #[] #[],.func (.func 257) #[] #[],e7 u,e7 v] (e8 b [e7 nd,.slice ea es.length ec,.slice na (j9 nd es).length nc,y3,y4,y5,y6,y7,y8,y9,ab,an,ae,ai,aj] 169::I) (λr J=>∃(ga:Option Addr) (gc:Nat) (a:Option Addr) (c:Nat),r=e7 0/\J=e8 b [e7 nd,.slice ga (z8 Pt.lt es (j4 u v)).length gc,.slice a (j9 nd (z8 Pt.lt es (j4 u v))).length c,y3,y4,y5,y6,y7,y8,y9,ab,an,ae,ai,aj] 169::vk 3 a c (j9 nd (z8 Pt.lt es (j4 u v)))::vk 105 ga gc (z8 Pt.lt es (j4 u v))::I):=by
 refine Ce6 Tryz.func255 C C<|Z ?_
 refine Ds C (λM=>Z ?_)<|λM=>?_
 ·refine G.e (Cx c_ C C C<|cx1 (nd:=nd) (u:=u) (v:=v) (A3 hl) (A3 hm) hG he hn<|Ba hT Ah) ?_
  rintro _ _ ⟨_,_,⟨ak,ah,ad,aa,w5,rfl,rfl⟩,rfl,rfl⟩
  refine Z ?_
  refine Ge1 (Aj ab6 C) λb6=>Ge0 (Db ab6)<|Z ?_
  refine Ao C (λao=>Z ?_)<|λao=>?_
  ·refine Ge0 (Bt (cs:=[_,_,_,_,_,_,_,_,_,_,_,_,_,_,_]) (vs:=[_,_,_]) (cs':=[_,_,_,_,_,_,_,_,_,_,_,_,_,_,_]) ab6) (Z ?_)
   exact Am C C (e8 b [e7 nd,.slice ak (z8 Pt.lt es<|j4 u v).length ah,.slice ad (j9 nd<|z8 Pt.lt es<|j4 u v).length aa,y3,y4,y5,y6,y7,y8,y9,ab,an,ae,ai,aj] 169::vk 3 ad aa (j9 nd<|z8 Pt.lt es<|j4 u v)::vk 105 ak ah (z8 Pt.lt es<|j4 u v)::I) Az ⟨ak,ah,ad,aa,rfl,rfl⟩
  exact absurd dc ao
 rw [hc] at M;exact absurd M dc
theorem fg1(hc:cb=true)(hl:Sl κ I (.slice ea es.length ec) es)(hm:Sl κ I (.slice na (j9 nd es).length nc) (j9 nd es))(hG:s8 nd es)(he:F5 nd u v)(hn:j4 u v∉es)(hT:F4 κ I 0 p5):eu prog κ 253 [(pt b),e7 u,e7 v,.bool cb] (e8 b [e7 nd,.slice ea es.length ec,.slice na (j9 nd es).length nc,y3,y4,y5,y6,y7,y8,y9,ad,ae,M,aa,ab] 169::I) (λr J=>∃(ga:Option Addr) (gc:Nat) (a:Option Addr) (c:Nat),r=e7 0/\J=e8 b [e7 nd,.slice ga (z8 Pt.lt es (j4 u v)).length gc,.slice a (j9 nd (z8 Pt.lt es (j4 u v))).length c,y3,y4,y5,y6,y7,y8,y9,ad,ae,M,aa,ab] 169::vk 3 a c (j9 nd (z8 Pt.lt es (j4 u v)))::vk 105 ga gc (z8 Pt.lt es (j4 u v))::I):=by
 refine Ce4 Tryz.func253 C C<|Z ?_
 refine G.e (Ab c_ C C<|fd1 hc hl hm hG he hn hT) ?_
 rintro _ _ ⟨_,_,⟨ga,gc,a,c,rfl,rfl⟩,rfl,rfl⟩
 exact Ga C<|Ar<|B3<|Am C C (e8 b [e7 nd,.slice ga (z8 Pt.lt es<|j4 u v).length gc,.slice a (j9 nd<|z8 Pt.lt es<|j4 u v).length c,y3,y4,y5,y6,y7,y8,y9,ad,ae,M,aa,ab] 169::vk 3 a c (j9 nd<|z8 Pt.lt es<|j4 u v)::vk 105 ga gc (z8 Pt.lt es<|j4 u v)::I) Az ⟨ga,gc,a,c,rfl,rfl⟩
theorem fd5(hc:cb=false)(hl:Sl κ I (.slice ea es.length ec) es)(hm:Sl κ I (.slice na (j9 nd es).length nc) (j9 nd es))(hG:s8 nd es)(he:F5 nd u v)(hn:j4 u v∈es)(hT:F4 κ I 0 p5):eu prog κ 255 [(pt b),.bool cb,.func (.func 256) #[] #[],.func (.func 257) #[] #[],e7 u,e7 v] (e8 b [e7 nd,.slice ea es.length ec,.slice na (j9 nd es).length nc,y3,y4,y5,y6,y7,y8,y9,ab,an,ae,ai,aj] 169::I) (λr J=>∃(ga:Option Addr) (gc:Nat) (a:Option Addr) (c:Nat),r=e7 0/\J=e8 b [e7 nd,.slice ga (j7 es (j4 u v)).length gc,.slice a (j9 nd (j7 es (j4 u v))).length c,y3,y4,y5,y6,y7,y8,y9,ab,an,ae,ai,aj] 169::vk 3 a c (j9 nd (j7 es (j4 u v)))::vk 105 ga gc (j7 es (j4 u v))::I):=by
 refine Ce6 Tryz.func255 C C<|Z ?_
 refine Ds C (λM=>?_)<|λM=>Z ?_
 ·rw [hc] at M;exact absurd M dc
 refine G.e (Cx c_ C C C<|cx3 (nd:=nd) (u:=u) (v:=v) (A3 hl) (A3 hm) hG he hn<|Ba hT Ah) ?_
 rintro _ _ ⟨_,_,⟨ak,ah,ad,aa,w5,rfl,rfl⟩,rfl,rfl⟩
 refine Z ?_
 refine Ge1 (Aj ab6 C) λb6=>Ge0 (Db ab6)<|Z ?_
 refine Ao C (λao=>Z ?_)<|λao=>?_
 ·refine Ge0 (Bt (cs:=[_,_,_,_,_,_,_,_,_,_,_,_,_,_,_]) (vs:=[_,_,_]) (cs':=[_,_,_,_,_,_,_,_,_,_,_,_,_,_,_]) ab6) (Z ?_)
  exact Am C C (e8 b [e7 nd,.slice ak (j7 es<|j4 u v).length ah,.slice ad (j9 nd<|j7 es<|j4 u v).length aa,y3,y4,y5,y6,y7,y8,y9,ab,an,ae,ai,aj] 169::vk 3 ad aa (j9 nd<|j7 es<|j4 u v)::vk 105 ak ah (j7 es<|j4 u v)::I) Az ⟨ak,ah,ad,aa,rfl,rfl⟩
 exact absurd dc ao
theorem fg5(hc:cb=false)(hl:Sl κ I (.slice ea es.length ec) es)(hm:Sl κ I (.slice na (j9 nd es).length nc) (j9 nd es))(hG:s8 nd es)(he:F5 nd u v)(hn:j4 u v∈es)(hT:F4 κ I 0 p5):eu prog κ 253 [(pt b),e7 u,e7 v,.bool cb] (e8 b [e7 nd,.slice ea es.length ec,.slice na (j9 nd es).length nc,y3,y4,y5,y6,y7,y8,y9,ad,ae,M,aa,ab] 169::I) (λr J=>∃(ga:Option Addr) (gc:Nat) (a:Option Addr) (c:Nat),r=e7 0/\J=e8 b [e7 nd,.slice ga (j7 es (j4 u v)).length gc,.slice a (j9 nd (j7 es (j4 u v))).length c,y3,y4,y5,y6,y7,y8,y9,ad,ae,M,aa,ab] 169::vk 3 a c (j9 nd (j7 es (j4 u v)))::vk 105 ga gc (j7 es (j4 u v))::I):=by
 refine Ce4 Tryz.func253 C C<|Z ?_
 refine G.e (Ab c_ C C<|fd5 hc hl hm hG he hn hT) ?_
 rintro _ _ ⟨_,_,⟨ga,gc,a,c,rfl,rfl⟩,rfl,rfl⟩
 exact Ga C<|Ar<|B3<|Am C C (e8 b [e7 nd,.slice ga (j7 es<|j4 u v).length gc,.slice a (j9 nd<|j7 es<|j4 u v).length c,y3,y4,y5,y6,y7,y8,y9,ad,ae,M,aa,ab] 169::vk 3 a c (j9 nd<|j7 es<|j4 u v)::vk 105 ga gc (j7 es<|j4 u v)::I) Az ⟨ga,gc,a,c,rfl,rfl⟩
theorem fd0(hc:cb=true)(hl:Sl κ I (.slice ea es.length ec) es)(hm:Sl κ I (.slice na (j5 nd es).length nc) (j5 nd es))(hG:s8 nd es)(he:F5 nd u v)(hn:j4 u v∉es)(hT:F4 κ I 0 p5):eu prog κ 282 [.pointer (some ⟨b,3,none⟩),.bool cb,.func (.func 283) #[] #[],.func (.func 284) #[] #[],e7 u,e7 v] (e8 b [y0,y1,y2,e7 nd,.slice ea es.length ec,.slice na (j5 nd es).length nc,y6,y7,y8,y9,ab,an,ae,ai,aj] 169::I) (λr J=>∃(ga:Option Addr) (gc:Nat) (a:Option Addr) (c:Nat),r=e7 0/\J=e8 b [y0,y1,y2,e7 nd,.slice ga (z8 Pt.lt es (j4 u v)).length gc,.slice a (j5 nd (z8 Pt.lt es (j4 u v))).length c,y6,y7,y8,y9,ab,an,ae,ai,aj] 169::vk 3 a c (j5 nd (z8 Pt.lt es (j4 u v)))::vk 105 ga gc (z8 Pt.lt es (j4 u v))::I):=by
 refine Ce6 Tryz.func282 C C<|Z ?_
 refine Ds C (λM=>Z ?_)<|λM=>?_
 ·refine G.e (Cx c_ C C C<|cy5 (nd:=nd) (u:=u) (v:=v) (A3 hl) (A3 hm) hG he hn<|Ba hT Ah) ?_
  rintro _ _ ⟨_,_,⟨ak,ah,ad,aa,w5,rfl,rfl⟩,rfl,rfl⟩
  refine Z ?_
  refine Ge1 (Aj L6 C) λb6=>Ge0 (Db L6)<|Z ?_
  refine Ao C (λao=>Z ?_)<|λao=>?_
  ·refine Ge0 (Bt (cs:=[_,_,_,_,_,_,_,_,_,_,_,_,_,_,_]) (vs:=[_,_,_]) (cs':=[_,_,_,_,_,_,_,_,_,_,_,_,_,_,_]) L6) (Z ?_)
   exact Am C C (e8 b [y0,y1,y2,e7 nd,.slice ak (z8 Pt.lt es<|j4 u v).length ah,.slice ad (j5 nd<|z8 Pt.lt es<|j4 u v).length aa,y6,y7,y8,y9,ab,an,ae,ai,aj] 169::vk 3 ad aa (j5 nd<|z8 Pt.lt es<|j4 u v)::vk 105 ak ah (z8 Pt.lt es<|j4 u v)::I) Az ⟨ak,ah,ad,aa,rfl,rfl⟩
  exact absurd dc ao
 rw [hc] at M;exact absurd M dc
theorem fg0(hc:cb=true)(hl:Sl κ I (.slice ea es.length ec) es)(hm:Sl κ I (.slice na (j5 nd es).length nc) (j5 nd es))(hG:s8 nd es)(he:F5 nd u v)(hn:j4 u v∉es)(hT:F4 κ I 0 p5):eu prog κ 280 [.pointer (some ⟨b,3,none⟩),e7 u,e7 v,.bool cb] (e8 b [y0,y1,y2,e7 nd,.slice ea es.length ec,.slice na (j5 nd es).length nc,y6,y7,y8,y9,ad,ae,M,aa,ab] 169::I) (λr J=>∃(ga:Option Addr) (gc:Nat) (a:Option Addr) (c:Nat),r=e7 0/\J=e8 b [y0,y1,y2,e7 nd,.slice ga (z8 Pt.lt es (j4 u v)).length gc,.slice a (j5 nd (z8 Pt.lt es (j4 u v))).length c,y6,y7,y8,y9,ad,ae,M,aa,ab] 169::vk 3 a c (j5 nd (z8 Pt.lt es (j4 u v)))::vk 105 ga gc (z8 Pt.lt es (j4 u v))::I):=by
 refine Ce4 Tryz.func280 C C<|Z ?_
 refine G.e (Ab c_ C C<|fd0 hc hl hm hG he hn hT) ?_
 rintro _ _ ⟨_,_,⟨ga,gc,a,c,rfl,rfl⟩,rfl,rfl⟩
 exact Ga C<|Ar<|B3<|Am C C (e8 b [y0,y1,y2,e7 nd,.slice ga (z8 Pt.lt es<|j4 u v).length gc,.slice a (j5 nd<|z8 Pt.lt es<|j4 u v).length c,y6,y7,y8,y9,ad,ae,M,aa,ab] 169::vk 3 a c (j5 nd<|z8 Pt.lt es<|j4 u v)::vk 105 ga gc (z8 Pt.lt es<|j4 u v)::I) Az ⟨ga,gc,a,c,rfl,rfl⟩
theorem fd4(hc:cb=false)(hl:Sl κ I (.slice ea es.length ec) es)(hm:Sl κ I (.slice na (j5 nd es).length nc) (j5 nd es))(hG:s8 nd es)(he:F5 nd u v)(hn:j4 u v∈es)(hT:F4 κ I 0 p5):eu prog κ 282 [.pointer (some ⟨b,3,none⟩),.bool cb,.func (.func 283) #[] #[],.func (.func 284) #[] #[],e7 u,e7 v] (e8 b [y0,y1,y2,e7 nd,.slice ea es.length ec,.slice na (j5 nd es).length nc,y6,y7,y8,y9,ab,an,ae,ai,aj] 169::I) (λr J=>∃(ga:Option Addr) (gc:Nat) (a:Option Addr) (c:Nat),r=e7 0/\J=e8 b [y0,y1,y2,e7 nd,.slice ga (j7 es (j4 u v)).length gc,.slice a (j5 nd (j7 es (j4 u v))).length c,y6,y7,y8,y9,ab,an,ae,ai,aj] 169::vk 3 a c (j5 nd (j7 es (j4 u v)))::vk 105 ga gc (j7 es (j4 u v))::I):=by
 refine Ce6 Tryz.func282 C C<|Z ?_
 refine Ds C (λM=>?_)<|λM=>Z ?_
 ·rw [hc] at M;exact absurd M dc
 refine G.e (Cx c_ C C C<|cy6 (nd:=nd) (u:=u) (v:=v) (A3 hl) (A3 hm) hG he hn<|Ba hT Ah) ?_
 rintro _ _ ⟨_,_,⟨ak,ah,ad,aa,w5,rfl,rfl⟩,rfl,rfl⟩
 refine Z ?_
 refine Ge1 (Aj L6 C) λb6=>Ge0 (Db L6)<|Z ?_
 refine Ao C (λao=>Z ?_)<|λao=>?_
 ·refine Ge0 (Bt (cs:=[_,_,_,_,_,_,_,_,_,_,_,_,_,_,_]) (vs:=[_,_,_]) (cs':=[_,_,_,_,_,_,_,_,_,_,_,_,_,_,_]) L6) (Z ?_)
  exact Am C C (e8 b [y0,y1,y2,e7 nd,.slice ak (j7 es<|j4 u v).length ah,.slice ad (j5 nd<|j7 es<|j4 u v).length aa,y6,y7,y8,y9,ab,an,ae,ai,aj] 169::vk 3 ad aa (j5 nd<|j7 es<|j4 u v)::vk 105 ak ah (j7 es<|j4 u v)::I) Az ⟨ak,ah,ad,aa,rfl,rfl⟩
 exact absurd dc ao
theorem fg4(hc:cb=false)(hl:Sl κ I (.slice ea es.length ec) es)(hm:Sl κ I (.slice na (j5 nd es).length nc) (j5 nd es))(hG:s8 nd es)(he:F5 nd u v)(hn:j4 u v∈es)(hT:F4 κ I 0 p5):eu prog κ 280 [.pointer (some ⟨b,3,none⟩),e7 u,e7 v,.bool cb] (e8 b [y0,y1,y2,e7 nd,.slice ea es.length ec,.slice na (j5 nd es).length nc,y6,y7,y8,y9,ad,ae,M,aa,ab] 169::I) (λr J=>∃(ga:Option Addr) (gc:Nat) (a:Option Addr) (c:Nat),r=e7 0/\J=e8 b [y0,y1,y2,e7 nd,.slice ga (j7 es (j4 u v)).length gc,.slice a (j5 nd (j7 es (j4 u v))).length c,y6,y7,y8,y9,ad,ae,M,aa,ab] 169::vk 3 a c (j5 nd (j7 es (j4 u v)))::vk 105 ga gc (j7 es (j4 u v))::I):=by
 refine Ce4 Tryz.func280 C C<|Z ?_
 refine G.e (Ab c_ C C<|fd4 hc hl hm hG he hn hT) ?_
 rintro _ _ ⟨_,_,⟨ga,gc,a,c,rfl,rfl⟩,rfl,rfl⟩
 exact Ga C<|Ar<|B3<|Am C C (e8 b [y0,y1,y2,e7 nd,.slice ga (j7 es<|j4 u v).length gc,.slice a (j5 nd<|j7 es<|j4 u v).length c,y6,y7,y8,y9,ad,ae,M,aa,ab] 169::vk 3 a c (j5 nd<|j7 es<|j4 u v)::vk 105 ga gc (j7 es<|j4 u v)::I) Az ⟨ga,gc,a,c,rfl,rfl⟩
theorem fc9(hc:cb=true)(hl:Sl κ I (.slice ea es.length ec) es)(hm:Sl κ I (.slice na (H9 nd es).length nc) (H9 nd es))(hG:s8 nd es)(he:F5 nd u v)(hn:j4 u v∉es)  :
    eu prog κ 296 [.pointer (some ⟨b,6,none⟩),.bool cb,.func (.func 297) #[] #[],.func (.func 298) #[] #[],e7 u,e7 v] (e8 b [y0,y1,y2,y3,y4,y5,e7 nd,.slice ea es.length ec,e7<|V6 nd es / 3,.slice na (H9 nd es).length nc,ab,an,ae,ai,aj] 169::I) (λr J=>∃(ga:Option Addr) (gc:Nat) (a:Option Addr) (c:Nat),r=e7 0/\J=e8 b [y0,y1,y2,y3,y4,y5,e7 nd,.slice ga (z8 Pt.lt es<|j4 u v).length gc,e7<|V6 nd (z8 Pt.lt es<|j4 u v) / 3,.slice a (H9 nd<|z8 Pt.lt es<|j4 u v).length c,ab,an,ae,ai,aj] 169::vk 3 a c (H9 nd<|z8 Pt.lt es<|j4 u v)::vk 105 ga gc (z8 Pt.lt es<|j4 u v)::I):=by
 refine Ce6 Tryz.func296 C C<|Z ?_
 refine Ds C (λM=>Z ?_)<|λM=>?_
 ·refine G.e (Cx c_ C C C<|cw3 (nd:=nd) (u:=u) (v:=v) (A3 hl) (A3 hm) hG he hn) ?_
  rintro _ _ ⟨_,_,⟨ak,ah,ad,aa,w5,rfl,rfl⟩,rfl,rfl⟩
  refine Z ?_
  refine Ge1 (Aj ad0 C) λb6=>Ge0 (C9 ad0)<|Z ?_
  refine Ao C (λao=>Z ?_)<|λao=>?_
  ·refine Ge0 (Bt (cs:=[_,_,_,_,_,_,_,_,_,_,_,_,_,_,_]) (vs:=[_,_,_,_]) (cs':=[_,_,_,_,_,_,_,_,_,_,_,_,_,_,_]) ad0) (Z ?_)
   exact Am C C (e8 b [y0,y1,y2,y3,y4,y5,e7 nd,.slice ak (z8 Pt.lt es<|j4 u v).length ah,e7<|V6 nd (z8 Pt.lt es<|j4 u v) / 3,.slice ad (H9 nd<|z8 Pt.lt es<|j4 u v).length aa,ab,an,ae,ai,aj] 169::vk 3 ad aa (H9 nd<|z8 Pt.lt es<|j4 u v)::vk 105 ak ah (z8 Pt.lt es<|j4 u v)::I) Az ⟨ak,ah,ad,aa,rfl,rfl⟩
  exact absurd dc ao
 rw [hc] at M;exact absurd M dc
theorem ff9(hc:cb=true)(hl:Sl κ I (.slice ea es.length ec) es)(hm:Sl κ I (.slice na (H9 nd es).length nc) (H9 nd es))(hG:s8 nd es)(he:F5 nd u v)(hn:j4 u v∉es)  :
    eu prog κ 294 [.pointer (some ⟨b,6,none⟩),e7 u,e7 v,.bool cb] (e8 b [y0,y1,y2,y3,y4,y5,e7 nd,.slice ea es.length ec,e7<|V6 nd es / 3,.slice na (H9 nd es).length nc,ad,ae,M,aa,ab] 169::I) (λr J=>∃(ga:Option Addr) (gc:Nat) (a:Option Addr) (c:Nat),r=e7 0/\J=e8 b [y0,y1,y2,y3,y4,y5,e7 nd,.slice ga (z8 Pt.lt es<|j4 u v).length gc,e7<|V6 nd (z8 Pt.lt es<|j4 u v) / 3,.slice a (H9 nd<|z8 Pt.lt es<|j4 u v).length c,ad,ae,M,aa,ab] 169::vk 3 a c (H9 nd<|z8 Pt.lt es<|j4 u v)::vk 105 ga gc (z8 Pt.lt es<|j4 u v)::I):=by
 refine Ce4 Tryz.func294 C C<|Z ?_
 refine G.e (Ab c_ C C<|fc9 hc hl hm hG he hn) ?_
 rintro _ _ ⟨_,_,⟨ga,gc,a,c,rfl,rfl⟩,rfl,rfl⟩
 exact Ga C<|Ar<|B3<|Am C C (e8 b [y0,y1,y2,y3,y4,y5,e7 nd,.slice ga (z8 Pt.lt es<|j4 u v).length gc,e7<|V6 nd (z8 Pt.lt es<|j4 u v) / 3,.slice a (H9 nd<|z8 Pt.lt es<|j4 u v).length c,ad,ae,M,aa,ab] 169::vk 3 a c (H9 nd<|z8 Pt.lt es<|j4 u v)::vk 105 ga gc (z8 Pt.lt es<|j4 u v)::I) Az ⟨ga,gc,a,c,rfl,rfl⟩
theorem fd3(hc:cb=false)(hl:Sl κ I (.slice ea es.length ec) es)(hm:Sl κ I (.slice na (H9 nd es).length nc) (H9 nd es))(hG:s8 nd es)(he:F5 nd u v)(hn:j4 u v∈es)  :
    eu prog κ 296 [.pointer (some ⟨b,6,none⟩),.bool cb,.func (.func 297) #[] #[],.func (.func 298) #[] #[],e7 u,e7 v] (e8 b [y0,y1,y2,y3,y4,y5,e7 nd,.slice ea es.length ec,e7<|V6 nd es / 3,.slice na (H9 nd es).length nc,ab,an,ae,ai,aj] 169::I) (λr J=>∃(ga:Option Addr) (gc:Nat) (a:Option Addr) (c:Nat),r=e7 0/\J=e8 b [y0,y1,y2,y3,y4,y5,e7 nd,.slice ga (j7 es<|j4 u v).length gc,e7<|V6 nd (j7 es<|j4 u v) / 3,.slice a (H9 nd<|j7 es<|j4 u v).length c,ab,an,ae,ai,aj] 169::vk 3 a c (H9 nd<|j7 es<|j4 u v)::vk 105 ga gc (j7 es<|j4 u v)::I):=by
 refine Ce6 Tryz.func296 C C<|Z ?_
 refine Ds C (λM=>?_)<|λM=>Z ?_
 ·rw [hc] at M;exact absurd M dc
 refine G.e (Cx c_ C C C<|cw4 (nd:=nd) (u:=u) (v:=v) (A3 hl) (A3 hm) hG he hn) ?_
 rintro _ _ ⟨_,_,⟨ak,ah,ad,aa,w5,rfl,rfl⟩,rfl,rfl⟩
 refine Z ?_
 refine Ge1 (Aj ad0 C) λb6=>Ge0 (C9 ad0)<|Z ?_
 refine Ao C (λao=>Z ?_)<|λao=>?_
 ·refine Ge0 (Bt (cs:=[_,_,_,_,_,_,_,_,_,_,_,_,_,_,_]) (vs:=[_,_,_,_]) (cs':=[_,_,_,_,_,_,_,_,_,_,_,_,_,_,_]) ad0) (Z ?_)
  exact Am C C (e8 b [y0,y1,y2,y3,y4,y5,e7 nd,.slice ak (j7 es<|j4 u v).length ah,e7<|V6 nd (j7 es<|j4 u v) / 3,.slice ad (H9 nd<|j7 es<|j4 u v).length aa,ab,an,ae,ai,aj] 169::vk 3 ad aa (H9 nd<|j7 es<|j4 u v)::vk 105 ak ah (j7 es<|j4 u v)::I) Az ⟨ak,ah,ad,aa,rfl,rfl⟩
 exact absurd dc ao
theorem fg3(hc:cb=false)(hl:Sl κ I (.slice ea es.length ec) es)(hm:Sl κ I (.slice na (H9 nd es).length nc) (H9 nd es))(hG:s8 nd es)(he:F5 nd u v)(hn:j4 u v∈es)  :
    eu prog κ 294 [.pointer (some ⟨b,6,none⟩),e7 u,e7 v,.bool cb] (e8 b [y0,y1,y2,y3,y4,y5,e7 nd,.slice ea es.length ec,e7<|V6 nd es / 3,.slice na (H9 nd es).length nc,ad,ae,M,aa,ab] 169::I) (λr J=>∃(ga:Option Addr) (gc:Nat) (a:Option Addr) (c:Nat),r=e7 0/\J=e8 b [y0,y1,y2,y3,y4,y5,e7 nd,.slice ga (j7 es<|j4 u v).length gc,e7<|V6 nd (j7 es<|j4 u v) / 3,.slice a (H9 nd<|j7 es<|j4 u v).length c,ad,ae,M,aa,ab] 169::vk 3 a c (H9 nd<|j7 es<|j4 u v)::vk 105 ga gc (j7 es<|j4 u v)::I):=by
 refine Ce4 Tryz.func294 C C<|Z ?_
 refine G.e (Ab c_ C C<|fd3 hc hl hm hG he hn) ?_
 rintro _ _ ⟨_,_,⟨ga,gc,a,c,rfl,rfl⟩,rfl,rfl⟩
 exact Ga C<|Ar<|B3<|Am C C (e8 b [y0,y1,y2,y3,y4,y5,e7 nd,.slice ga (j7 es<|j4 u v).length gc,e7<|V6 nd (j7 es<|j4 u v) / 3,.slice a (H9 nd<|j7 es<|j4 u v).length c,ad,ae,M,aa,ab] 169::vk 3 a c (H9 nd<|j7 es<|j4 u v)::vk 105 ga gc (j7 es<|j4 u v)::I) Az ⟨ga,gc,a,c,rfl,rfl⟩
theorem fc8(hc:cb=true)(hl:Sl κ I (.slice ea es.length ec) es)(hm:Sl κ I (.slice na (r9 nd es).length nc) (r9 nd es))(hG:s8 nd es)(he:F5 nd u v)(hn:j4 u v∉es)(hT:F4 κ I 0 p5):eu prog κ 303 [.pointer (some ⟨b,10,none⟩),.bool cb,.func (.func 304) #[] #[],.func (.func 305) #[] #[],e7 u,e7 v] (e8 b [y0,y1,y2,y3,y4,y5,y6,y7,y8,y9,e7 nd,.slice ea es.length ec,e7 (F8 nd es),e7 (J9 nd es),.slice na (r9 nd es).length nc] 169::I) (λr J=>∃(ga:Option Addr) (gc:Nat) (a:Option Addr) (c:Nat),r=e7 0/\J=e8 b [y0,y1,y2,y3,y4,y5,y6,y7,y8,y9,e7 nd,.slice ga (z8 Pt.lt es (j4 u v)).length gc,e7 (F8 nd (z8 Pt.lt es (j4 u v))),e7 (J9 nd (z8 Pt.lt es (j4 u v))),.slice a (r9 nd (z8 Pt.lt es (j4 u v))).length c] 169::vk 3 a c (r9 nd (z8 Pt.lt es (j4 u v)))::vk 105 ga gc (z8 Pt.lt es (j4 u v))::I):=by
 refine Ce6 Tryz.func303 C C<|Z ?_
 refine Ds C (λM=>Z ?_)<|λM=>?_
 ·refine G.e (Cx c_ C C C<|cx8 (nd:=nd) (u:=u) (v:=v) (A3 hl) (A3 hm) hG he hn<|Ba hT Ah) ?_
  rintro _ _ ⟨_,_,⟨ae,ad,ab,aa,w5,rfl,rfl⟩,rfl,rfl⟩
  refine Z ?_
  refine Ge1 (Aj V5 C) λb6=>Ge0 (E7 V5)<|Z ?_
  refine Ao C (λah=>Z ?_)<|λah=>?_
  ·refine Ge0 (Bt (cs:=[_,_,_,_,_,_,_,_,_,_,_,_,_,_,_]) (vs:=[_,_,_,_,_]) (cs':=[_,_,_,_,_,_,_,_,_,_,_,_,_,_,_]) V5) (Z ?_)
   exact Am C C (e8 b [y0,y1,y2,y3,y4,y5,y6,y7,y8,y9,e7 nd,.slice ae (z8 Pt.lt es<|j4 u v).length ad,e7<|F8 nd<|z8 Pt.lt es<|j4 u v,e7<|J9 nd<|z8 Pt.lt es<|j4 u v,.slice ab (r9 nd<|z8 Pt.lt es<|j4 u v).length aa] 169::vk 3 ab aa (r9 nd<|z8 Pt.lt es<|j4 u v)::vk 105 ae ad (z8 Pt.lt es<|j4 u v)::I) Az ⟨ae,ad,ab,aa,rfl,rfl⟩
  exact absurd dc ah
 rw [hc] at M;exact absurd M dc
theorem ff8(hc:cb=true)(hl:Sl κ I (.slice ea es.length ec) es)(hm:Sl κ I (.slice na (r9 nd es).length nc) (r9 nd es))(hG:s8 nd es)(he:F5 nd u v)(hn:j4 u v∉es)(hT:F4 κ I 0 p5):eu prog κ 301 [.pointer (some ⟨b,10,none⟩),e7 u,e7 v,.bool cb] (e8 b [y0,y1,y2,y3,y4,y5,M,y7,y8,y9,e7 nd,.slice ea es.length ec,e7 (F8 nd es),e7 (J9 nd es),.slice na (r9 nd es).length nc] 169::I) (λr J=>∃(ga:Option Addr) (gc:Nat) (a:Option Addr) (c:Nat),r=e7 0/\J=e8 b [y0,y1,y2,y3,y4,y5,M,y7,y8,y9,e7 nd,.slice ga (z8 Pt.lt es (j4 u v)).length gc,e7 (F8 nd (z8 Pt.lt es (j4 u v))),e7 (J9 nd (z8 Pt.lt es (j4 u v))),.slice a (r9 nd (z8 Pt.lt es (j4 u v))).length c] 169::vk 3 a c (r9 nd (z8 Pt.lt es (j4 u v)))::vk 105 ga gc (z8 Pt.lt es (j4 u v))::I):=by
 refine Ce4 Tryz.func301 C C<|Z ?_
 refine G.e (Ab c_ C C<|fc8 hc hl hm hG he hn hT) ?_
 rintro _ _ ⟨_,_,⟨ga,gc,a,c,rfl,rfl⟩,rfl,rfl⟩
 exact Ga C<|Ar<|B3<|Am C C (e8 b [y0,y1,y2,y3,y4,y5,M,y7,y8,y9,e7 nd,.slice ga (z8 Pt.lt es<|j4 u v).length gc,e7<|F8 nd<|z8 Pt.lt es<|j4 u v,e7<|J9 nd<|z8 Pt.lt es<|j4 u v,.slice a (r9 nd<|z8 Pt.lt es<|j4 u v).length c] 169::vk 3 a c (r9 nd<|z8 Pt.lt es<|j4 u v)::vk 105 ga gc (z8 Pt.lt es<|j4 u v)::I) Az ⟨ga,gc,a,c,rfl,rfl⟩
theorem fd2(hc:cb=false)(hl:Sl κ I (.slice ea es.length ec) es)(hm:Sl κ I (.slice na (r9 nd es).length nc) (r9 nd es))(hG:s8 nd es)(he:F5 nd u v)(hn:j4 u v∈es)(hT:F4 κ I 0 p5):eu prog κ 303 [.pointer (some ⟨b,10,none⟩),.bool cb,.func (.func 304) #[] #[],.func (.func 305) #[] #[],e7 u,e7 v] (e8 b [y0,y1,y2,y3,y4,y5,y6,y7,y8,y9,e7 nd,.slice ea es.length ec,e7 (F8 nd es),e7 (J9 nd es),.slice na (r9 nd es).length nc] 169::I) (λr J=>∃(ga:Option Addr) (gc:Nat) (a:Option Addr) (c:Nat),r=e7 0/\J=e8 b [y0,y1,y2,y3,y4,y5,y6,y7,y8,y9,e7 nd,.slice ga (j7 es (j4 u v)).length gc,e7 (F8 nd (j7 es (j4 u v))),e7 (J9 nd (j7 es (j4 u v))),.slice a (r9 nd (j7 es (j4 u v))).length c] 169::vk 3 a c (r9 nd (j7 es (j4 u v)))::vk 105 ga gc (j7 es (j4 u v))::I):=by
 refine Ce6 Tryz.func303 C C<|Z ?_
 refine Ds C (λM=>?_)<|λM=>Z ?_
 ·rw [hc] at M;exact absurd M dc
 refine G.e (Cx c_ C C C<|cx9 (nd:=nd) (u:=u) (v:=v) (A3 hl) (A3 hm) hG he hn<|Ba hT Ah) ?_
 rintro _ _ ⟨_,_,⟨ae,ad,ab,aa,w5,rfl,rfl⟩,rfl,rfl⟩
 refine Z ?_
 refine Ge1 (Aj V5 C) λb6=>Ge0 (E7 V5)<|Z ?_
 refine Ao C (λah=>Z ?_)<|λah=>?_
 ·refine Ge0 (Bt (cs:=[_,_,_,_,_,_,_,_,_,_,_,_,_,_,_]) (vs:=[_,_,_,_,_]) (cs':=[_,_,_,_,_,_,_,_,_,_,_,_,_,_,_]) V5) (Z ?_)
  exact Am C C (e8 b [y0,y1,y2,y3,y4,y5,y6,y7,y8,y9,e7 nd,.slice ae (j7 es<|j4 u v).length ad,e7<|F8 nd<|j7 es<|j4 u v,e7<|J9 nd<|j7 es<|j4 u v,.slice ab (r9 nd<|j7 es<|j4 u v).length aa] 169::vk 3 ab aa (r9 nd<|j7 es<|j4 u v)::vk 105 ae ad (j7 es<|j4 u v)::I) Az ⟨ae,ad,ab,aa,rfl,rfl⟩
 exact absurd dc ah
theorem fg2(hc:cb=false)(hl:Sl κ I (.slice ea es.length ec) es)(hm:Sl κ I (.slice na (r9 nd es).length nc) (r9 nd es))(hG:s8 nd es)(he:F5 nd u v)(hn:j4 u v∈es)(hT:F4 κ I 0 p5):eu prog κ 301 [.pointer (some ⟨b,10,none⟩),e7 u,e7 v,.bool cb] (e8 b [y0,y1,y2,y3,y4,y5,M,y7,y8,y9,e7 nd,.slice ea es.length ec,e7 (F8 nd es),e7 (J9 nd es),.slice na (r9 nd es).length nc] 169::I) (λr J=>∃(ga:Option Addr) (gc:Nat) (a:Option Addr) (c:Nat),r=e7 0/\J=e8 b [y0,y1,y2,y3,y4,y5,M,y7,y8,y9,e7 nd,.slice ga (j7 es (j4 u v)).length gc,e7 (F8 nd (j7 es (j4 u v))),e7 (J9 nd (j7 es (j4 u v))),.slice a (r9 nd (j7 es (j4 u v))).length c] 169::vk 3 a c (r9 nd (j7 es (j4 u v)))::vk 105 ga gc (j7 es (j4 u v))::I):=by
 refine Ce4 Tryz.func301 C C<|Z ?_
 refine G.e (Ab c_ C C<|fd2 hc hl hm hG he hn hT) ?_
 rintro _ _ ⟨_,_,⟨ga,gc,a,c,rfl,rfl⟩,rfl,rfl⟩
 exact Ga C<|Ar<|B3<|Am C C (e8 b [y0,y1,y2,y3,y4,y5,M,y7,y8,y9,e7 nd,.slice ga (j7 es<|j4 u v).length gc,e7<|F8 nd<|j7 es<|j4 u v,e7<|J9 nd<|j7 es<|j4 u v,.slice a (r9 nd<|j7 es<|j4 u v).length c] 169::vk 3 a c (r9 nd<|j7 es<|j4 u v)::vk 105 ga gc (j7 es<|j4 u v)::I) Az ⟨ga,gc,a,c,rfl,rfl⟩
variable {κ:Ctx}{I:List Item}
set_option maxHeartbeats 4000000 in
theorem fj2{x0 x1 x2 x3 x4 x5 x6 x7 x8 x9 ap ao ar aq ah ak au:Value} :
    eu prog κ 61 [.agg #[x0,x1,x2,x3,x4,x5,x6,x7,x8,x9,ap,aa,ae,ao,an,M,ar,ai,aq,ad,ah,aj,ab,ak,au]] I (λr J=>∃b:Nat,r = (pt b)/\J=e8 b [x9,ap,aa,ae,ao,an,M,ar,ai,aq,ad,ah,aj,ab,ak] 169::I):=by
 refine Ce1 Tryz.func61 C C ?_
 refine Al<|Ge1 (Av (cs:=[_,_,_,_,_,_,_,_,_,_,_,_,_,_,_,_,_,_,_,_,_,_,_,_,_]) C C C) λb1=>Ga C<|Ar<|Al<|Gf cf6 C<|Gl3 ab6 ?_
 refine Gr (Cn (cells:=[_,_,_]) fu3 Tryz.underlying161 fw8 C C)<|Gf cf5 C<|Gl3 L6 ?_
 refine Gr (Cn (cells:=[_,_,_]) fu2 Tryz.underlying163 fw7 C C)<|Gf cf4 C<|Gl4 ad0 ?_
 refine Gr (Cn (cells:=[_,_,_,_]) fu1 Tryz.underlying165 fw6 C C)<|Gf cf3 C<|Gr (Bl (vs:=[_,_,_,_,_]) V5) ?_
 refine Gr (Cn (cells:=[_,_,_,_,_]) fu0 Tryz.underlying167 fw5 C C)<|Gr (Cn (cells:=[x9,ap,aa,ae,ao,an,M,ar,ai,aq,ad,ah,aj,ab,ak]) ft9 Tryz.underlying169 fw4 C kr)<|Ge1 (Av (cs:=[_,_,_,_,_,_,_,_,_,_,_,_,_,_,_]) C C C) λb2=>Z ?_
 exact Am C C (e8 b2 [x9,ap,aa,ae,ao,an,M,ar,ai,aq,ad,ah,aj,ab,ak] 169::I) Az ⟨b2,rfl,rfl⟩
theorem W5:tyF prog 117=some (1,false,16,[.nilIface]):=by kernel_rfl
theorem dr5 :
    eu prog κ 62 [(pt b)] I (λr J=>∃a:Option Addr,r = .slice a 4 4/\J=vc 117 (.slice a 4 4) ([⟨170,b,0⟩,⟨171,b,3⟩,⟨172,b,6⟩,⟨173,b,10⟩]:List P2)::I):=by
 refine Ce1 Tryz.func62 C C<|Z ?_
 refine A8 mixed<|Bv I 18<|Z ?_
 refine Dr 3 C (j8.br0 (λw=>by kernel_rfl) C)<|Z ?_
 refine Dr 7 C (j8.br0 (λw=>by kernel_rfl) C)<|Z ?_
 refine Dr 11 C (j8.br0 (λw=>by kernel_rfl) C)<|Z ?_
 refine Dr 15 C (j8.br0 (λw=>by kernel_rfl) C) ?_
 refine Ds1 16<|Se1 C (B1 (α:=P2) (cs:=[_,_,_,_]) (xs:=[⟨170,b,0⟩,⟨171,b,3⟩,⟨172,b,6⟩,⟨173,b,10⟩]) Ce W5 C C dc dc C C C C) λM=>Z ?_
 exact Am C C (vc 117 (.slice M 4 4) (([⟨170,b,0⟩,⟨171,b,3⟩,⟨172,b,6⟩,⟨173,b,10⟩]:List P2))::I) Az ⟨M,rfl,rfl⟩
end Go.Sl
