/- A part of the proofs of statements of this seat: contracts of functions, and the plain laws that they lean on. No conditions. -/
import Derived.Test.YtnbkccjkdpolmaaGreatDoorR25
set_option linter.unusedVariables false
set_option linter.unusedSimpArgs false
set_option linter.unusedSectionVars false
open Go.Proofs.Tryz (prog)
set_option maxHeartbeats 4000000
namespace Go.Sl
open Go.Proofs
set_option maxRecDepth 4000
variable{κ:Ctx}{I:List Item}{time tv:Int}{ea sa:Option Addr}{ec sc:Nat}{Aw B W:AnV}{t:Bool}
attribute [local irreducible] W G V D A Runs Eff
theorem Right_nodes{nd K node lv tq num den:Int}{es:List Pt}{S:List Int}{Wp:Bool->Int->List Int->Int->Int->Prop}(hl:Sl κ I (.slice ea es.length ec) es)(hA:HdA κ I Aw)(hG:GrOk nd es)(hw:∀J,Fit κ J I->eu prog κ 84 [.agg #[e7 (nd),.slice ea es.length ec],.agg #[e7 (K),e7 (node),e7 (lv),e7 (tq),.slice sa S.length sc,e7 (num),e7 (den)],.agg #[.bool (Aw.fd),e7 (Aw.num),e7 (Aw.tm),.slice Aw.sa Aw.S.length Aw.sc,e7 (Aw.dn),e7 (Aw.dd),.slice Aw.pa Aw.P.length Aw.pc,.slice Aw.oa Aw.O.length Aw.oc,.slice Aw.na Aw.N.length Aw.nc,e7 (Aw.E),.slice Aw.qa Aw.Q.length Aw.qc]] J (λr J'=>∃(wf:Bool) (wn:Int) (wa:Option Addr) (ws:List Int) (wc:Nat) (aa M:Int),r = .tuple #[.agg #[.bool wf,e7 wn,e7 0,.slice wa (ws:List Int).length wc,e7 aa,e7 M,.slice none 0 0,.slice none 0 0,.slice none 0 0,e7 0,.slice none 0 0],.iface 180 (.agg #[.slice Aw.na Aw.N.length Aw.nc,.slice Aw.oa Aw.O.length Aw.oc]),.bool (decide (bare1 Aw))]/\Wp wf wn ws aa M/\J'=vc 3 (.slice wa ws.length wc) ws::J))(hT:TabRd κ I 0 tzCells):eu prog κ 38 [.agg #[e7 nd,.slice ea es.length ec],.agg #[e7 K,e7 node,e7 lv,e7 tq,.slice sa S.length sc,e7 num,e7 den],.agg #[.bool (Aw.fd),e7 (Aw.num),e7 (Aw.tm),.slice Aw.sa Aw.S.length Aw.sc,e7 (Aw.dn),e7 (Aw.dd),.slice Aw.pa Aw.P.length Aw.pc,.slice Aw.oa Aw.O.length Aw.oc,.slice Aw.na Aw.N.length Aw.nc,e7 (Aw.E),.slice Aw.qa Aw.Q.length Aw.qc],e7 time] I (λr J=>∃t:Bool,r = .bool t/\(t=true->(∃wf wn ws aa M,Wp wf wn ws aa M/\Aw.is wf wn ws aa M [])/\Aw.tm=time/\(bare1 Aw))/\((∀wf wn ws aa M,Wp wf wn ws aa M->Aw.is wf wn ws aa M [])->Aw.tm=time->(bare1 Aw)->CoreE nd es Aw.N Aw.O->t=true)/\I=J):=by
 refine Ce4 Tryz.func38 C C ?_
 refine Ap<|Ge1 (Ak (cs:=[_,_]) C C C) λb1=>Ge1 (Ak (cs:=[_,_,_,_,_,_,_]) C C C) λb2=>Ge1 (Ak (cs:=[_,_,_,_,_,_,_,_,_,_,_]) C C C) λb3=>Z ?_
 refine G.e (Ad c_ C C<|hw _ Ah) ?_
 rintro _ _ ⟨_,_,⟨wf,wn,wa,ws,wc,aa,M,rfl,ae,rfl⟩,rfl,rfl⟩
 refine Z ?_
 refine Ge1 (Am ty42 C) λb4=>Ge0 (A9 (cs:=[_,_,_,_,_,_,_,_,_,_,_]) (vs:=[_,_,_,_,_,_,_,_,_,_,_]) (cs':=[_,_,_,_,_,_,_,_,_,_,_]) ty42)<|Z ?_
 refine Ge0 (A9 (cs:=[_,_,_,_,_,_,_,_,_,_,_]) (vs:=[_]) (cs':=[_,_,_,_,_,_,_,_,_,_,_]) ef)<|Z ?_
 refine A6 (d:=23) C (λad=>Z ?_)<|λad=>Z ?_
 ·refine Dn (B5 C C C) (Ad c_ C C<|Same45_ok (A:=Aw) (B:=(⟨wf,wn,time,wa,wc,ws,aa,M,none,0,[],none,0,[],none,0,[],0,none,0,[]⟩:AnV)) (As hA.s) (As hA.p) A7<|Ex _) ?_
  rintro _ _ ⟨_,_,⟨rfl,rfl⟩,rfl,rfl⟩
  refine Z ?_
  refine A6 (d:=28) C (λab=>Z ?_)<|λab=>Z ?_
  ·refine Dn (B5 C C C) (Eff.invoke c_ C (λw=>by kernel_rfl) C C<|Prove_nodes (nd:=nd) (As hl) (As hA.n) (As hA.o) hG<|A5 hT Ah) ?_
   rintro _ _ ⟨_,_,⟨ah,rfl,ai,rfl⟩,rfl,rfl⟩
   refine Z ?_
   exact Ai C C I Ah ⟨ah,rfl,(λ_=>⟨⟨wf,wn,ws,aa,M,ae,(same_is ab).1⟩,(same_is ab).2,ad⟩),(λ_ _ _ hE=>ai hE),rfl⟩
  exact Ai C C I Ah ⟨false,rfl,(λh=>by cases h),(λh1 h2 h3 _=>by first|exact absurd (is_same (h1 _ _ _ _ _ ae) h2) ab|exact absurd h3 ad),rfl⟩
 exact Ai C C I Ah ⟨false,rfl,(λh=>by cases h),(λh1 h2 h3 _=>by first|exact absurd (is_same (h1 _ _ _ _ _ ae) h2) ab|exact absurd h3 ad),rfl⟩
theorem Right_edges{nd K node lv tq num den:Int}{es:List Pt}{S:List Int}{Wp:Bool->Int->List Int->Int->Int->Prop}(hl:Sl κ I (.slice ea es.length ec) es)(hA:HdA κ I Aw)(hG:GrOk nd es)(hw:∀J,Fit κ J I->eu prog κ 84 [.agg #[e7 (nd),.slice ea es.length ec],.agg #[e7 (K),e7 (node),e7 (lv),e7 (tq),.slice sa S.length sc,e7 (num),e7 (den)],.agg #[.bool (Aw.fd),e7 (Aw.num),e7 (Aw.tm),.slice Aw.sa Aw.S.length Aw.sc,e7 (Aw.dn),e7 (Aw.dd),.slice Aw.pa Aw.P.length Aw.pc,.slice Aw.oa Aw.O.length Aw.oc,.slice Aw.na Aw.N.length Aw.nc,e7 (Aw.E),.slice Aw.qa Aw.Q.length Aw.qc]] J (λr J'=>∃(wf:Bool) (wn:Int) (wa:Option Addr) (ws:List Int) (wc:Nat) (aa M:Int),r = .tuple #[.agg #[.bool wf,e7 wn,e7 0,.slice wa (ws:List Int).length wc,e7 aa,e7 M,.slice none 0 0,.slice none 0 0,.slice none 0 0,e7 0,.slice none 0 0],.iface 181 (.agg #[.slice Aw.na Aw.N.length Aw.nc,.slice Aw.oa Aw.O.length Aw.oc]),.bool (decide (bare1 Aw))]/\Wp wf wn ws aa M/\J'=vc 3 (.slice wa ws.length wc) ws::J))(hT:TabRd κ I 0 tzCells):eu prog κ 38 [.agg #[e7 nd,.slice ea es.length ec],.agg #[e7 K,e7 node,e7 lv,e7 tq,.slice sa S.length sc,e7 num,e7 den],.agg #[.bool (Aw.fd),e7 (Aw.num),e7 (Aw.tm),.slice Aw.sa Aw.S.length Aw.sc,e7 (Aw.dn),e7 (Aw.dd),.slice Aw.pa Aw.P.length Aw.pc,.slice Aw.oa Aw.O.length Aw.oc,.slice Aw.na Aw.N.length Aw.nc,e7 (Aw.E),.slice Aw.qa Aw.Q.length Aw.qc],e7 time] I (λr J=>∃t:Bool,r = .bool t/\(t=true->(∃wf wn ws aa M,Wp wf wn ws aa M/\Aw.is wf wn ws aa M [])/\Aw.tm=time/\(bare1 Aw))/\((∀wf wn ws aa M,Wp wf wn ws aa M->Aw.is wf wn ws aa M [])->Aw.tm=time->(bare1 Aw)->TrussE (trisE nd es) Aw.N Aw.O->t=true)/\I=J):=by
 refine Ce4 Tryz.func38 C C ?_
 refine Ap<|Ge1 (Ak (cs:=[_,_]) C C C) λb1=>Ge1 (Ak (cs:=[_,_,_,_,_,_,_]) C C C) λb2=>Ge1 (Ak (cs:=[_,_,_,_,_,_,_,_,_,_,_]) C C C) λb3=>Z ?_
 refine G.e (Ad c_ C C<|hw _ Ah) ?_
 rintro _ _ ⟨_,_,⟨wf,wn,wa,ws,wc,aa,M,rfl,ae,rfl⟩,rfl,rfl⟩
 refine Z ?_
 refine Ge1 (Am ty42 C) λb4=>Ge0 (A9 (cs:=[_,_,_,_,_,_,_,_,_,_,_]) (vs:=[_,_,_,_,_,_,_,_,_,_,_]) (cs':=[_,_,_,_,_,_,_,_,_,_,_]) ty42)<|Z ?_
 refine Ge0 (A9 (cs:=[_,_,_,_,_,_,_,_,_,_,_]) (vs:=[_]) (cs':=[_,_,_,_,_,_,_,_,_,_,_]) ef)<|Z ?_
 refine A6 (d:=23) C (λad=>Z ?_)<|λad=>Z ?_
 ·refine Dn (B5 C C C) (Ad c_ C C<|Same45_ok (A:=Aw) (B:=(⟨wf,wn,time,wa,wc,ws,aa,M,none,0,[],none,0,[],none,0,[],0,none,0,[]⟩:AnV)) (As hA.s) (As hA.p) A7<|Ex _) ?_
  rintro _ _ ⟨_,_,⟨rfl,rfl⟩,rfl,rfl⟩
  refine Z ?_
  refine A6 (d:=28) C (λab=>Z ?_)<|λab=>Z ?_
  ·refine Dn (B5 C C C) (Eff.invoke c_ C (λw=>by kernel_rfl) C C<|Prove_edges (nd:=nd) (As hl) (As hA.n) (As hA.o) hG<|A5 hT Ah) ?_
   rintro _ _ ⟨_,_,⟨ah,rfl,ai,rfl⟩,rfl,rfl⟩
   refine Z ?_
   exact Ai C C I Ah ⟨ah,rfl,(λ_=>⟨⟨wf,wn,ws,aa,M,ae,(same_is ab).1⟩,(same_is ab).2,ad⟩),(λ_ _ _ hE=>ai hE),rfl⟩
  exact Ai C C I Ah ⟨false,rfl,(λh=>by cases h),(λh1 h2 h3 _=>by first|exact absurd (is_same (h1 _ _ _ _ _ ae) h2) ab|exact absurd h3 ad),rfl⟩
 exact Ai C C I Ah ⟨false,rfl,(λh=>by cases h),(λh1 h2 h3 _=>by first|exact absurd (is_same (h1 _ _ _ _ _ ae) h2) ab|exact absurd h3 ad),rfl⟩
theorem Right_split{nd K node lv tq num den:Int}{es:List Pt}{S:List Int}{Wp:Bool->Int->List Int->Int->Int->Prop}(hl:Sl κ I (.slice ea es.length ec) es)(hA:HdA κ I Aw)(hG:GrOk nd es)(hE:Aw.E<=1000)(hw:∀J,Fit κ J I->eu prog κ 84 [.agg #[e7 (nd),.slice ea es.length ec],.agg #[e7 (K),e7 (node),e7 (lv),e7 (tq),.slice sa S.length sc,e7 (num),e7 (den)],.agg #[.bool (Aw.fd),e7 (Aw.num),e7 (Aw.tm),.slice Aw.sa Aw.S.length Aw.sc,e7 (Aw.dn),e7 (Aw.dd),.slice Aw.pa Aw.P.length Aw.pc,.slice Aw.oa Aw.O.length Aw.oc,.slice Aw.na Aw.N.length Aw.nc,e7 (Aw.E),.slice Aw.qa Aw.Q.length Aw.qc]] J (λr J'=>∃(wf:Bool) (wn:Int) (wa:Option Addr) (ws:List Int) (wc:Nat) (aa M:Int),r = .tuple #[.agg #[.bool wf,e7 wn,e7 0,.slice wa (ws:List Int).length wc,e7 aa,e7 M,.slice none 0 0,.slice none 0 0,.slice none 0 0,e7 0,.slice none 0 0],.iface 183 (.agg #[.slice Aw.sa Aw.S.length Aw.sc,e7 Aw.dn,e7 Aw.dd,e7 Aw.E,.slice Aw.qa Aw.Q.length Aw.qc]),.bool (decide (bare2 Aw))]/\Wp wf wn ws aa M/\J'=vc 3 (.slice wa ws.length wc) ws::J))(hT:TabRd κ I 0 tzCells):eu prog κ 38 [.agg #[e7 nd,.slice ea es.length ec],.agg #[e7 K,e7 node,e7 lv,e7 tq,.slice sa S.length sc,e7 num,e7 den],.agg #[.bool (Aw.fd),e7 (Aw.num),e7 (Aw.tm),.slice Aw.sa Aw.S.length Aw.sc,e7 (Aw.dn),e7 (Aw.dd),.slice Aw.pa Aw.P.length Aw.pc,.slice Aw.oa Aw.O.length Aw.oc,.slice Aw.na Aw.N.length Aw.nc,e7 (Aw.E),.slice Aw.qa Aw.Q.length Aw.qc],e7 time] I (λr J=>∃t:Bool,r = .bool t/\(t=true->(∃wf wn ws aa M,Wp wf wn ws aa M/\Aw.is wf wn ws aa M [])/\Aw.tm=time/\(bare2 Aw))/\((∀wf wn ws aa M,Wp wf wn ws aa M->Aw.is wf wn ws aa M [])->Aw.tm=time->(bare2 Aw)->AccD nd es Aw.S Aw.dn Aw.dd Aw.E Aw.Q->t=true)/\I=J):=by
 refine Ce4 Tryz.func38 C C ?_
 refine Ap<|Ge1 (Ak (cs:=[_,_]) C C C) λb1=>Ge1 (Ak (cs:=[_,_,_,_,_,_,_]) C C C) λb2=>Ge1 (Ak (cs:=[_,_,_,_,_,_,_,_,_,_,_]) C C C) λb3=>Z ?_
 refine G.e (Ad c_ C C<|hw _ Ah) ?_
 rintro _ _ ⟨_,_,⟨wf,wn,wa,ws,wc,aa,M,rfl,ae,rfl⟩,rfl,rfl⟩
 refine Z ?_
 refine Ge1 (Am ty42 C) λb4=>Ge0 (A9 (cs:=[_,_,_,_,_,_,_,_,_,_,_]) (vs:=[_,_,_,_,_,_,_,_,_,_,_]) (cs':=[_,_,_,_,_,_,_,_,_,_,_]) ty42)<|Z ?_
 refine Ge0 (A9 (cs:=[_,_,_,_,_,_,_,_,_,_,_]) (vs:=[_]) (cs':=[_,_,_,_,_,_,_,_,_,_,_]) ef)<|Z ?_
 refine A6 (d:=23) C (λad=>Z ?_)<|λad=>Z ?_
 ·refine Dn (B5 C C C) (Ad c_ C C<|Same45_ok (A:=Aw) (B:=(⟨wf,wn,time,wa,wc,ws,aa,M,none,0,[],none,0,[],none,0,[],0,none,0,[]⟩:AnV)) (As hA.s) (As hA.p) A7<|Ex _) ?_
  rintro _ _ ⟨_,_,⟨rfl,rfl⟩,rfl,rfl⟩
  refine Z ?_
  refine A6 (d:=28) C (λab=>Z ?_)<|λab=>Z ?_
  ·refine Dn (B5 C C C) (Eff.invoke c_ C (λw=>by kernel_rfl) C C<|Prove_split (nd:=nd) (dn:=Aw.dn) (dd:=Aw.dd) (E:=Aw.E) (As hl) (As hA.s) (As hA.q) hG hE) ?_
   rintro _ _ ⟨_,_,⟨ah,rfl,ai,rfl⟩,rfl,rfl⟩
   refine Z ?_
   exact Ai C C I Ah ⟨ah,rfl,(λ_=>⟨⟨wf,wn,ws,aa,M,ae,(same_is ab).1⟩,(same_is ab).2,ad⟩),(λ_ _ _ hE=>ai hE),rfl⟩
  exact Ai C C I Ah ⟨false,rfl,(λh=>by cases h),(λh1 h2 h3 _=>by first|exact absurd (is_same (h1 _ _ _ _ _ ae) h2) ab|exact absurd h3 ad),rfl⟩
 exact Ai C C I Ah ⟨false,rfl,(λh=>by cases h),(λh1 h2 h3 _=>by first|exact absurd (is_same (h1 _ _ _ _ _ ae) h2) ab|exact absurd h3 ad),rfl⟩
theorem Right_nothing{nd K node lv tq num den:Int}{es:List Pt}{S:List Int}{Wp:Bool->Int->List Int->Int->Int->Prop}(hl:Sl κ I (.slice ea es.length ec) es)(hA:HdA κ I Aw)(hG:GrOk nd es)(hw:∀J,Fit κ J I->eu prog κ 84 [.agg #[e7 (nd),.slice ea es.length ec],.agg #[e7 (K),e7 (node),e7 (lv),e7 (tq),.slice sa S.length sc,e7 (num),e7 (den)],.agg #[.bool (Aw.fd),e7 (Aw.num),e7 (Aw.tm),.slice Aw.sa Aw.S.length Aw.sc,e7 (Aw.dn),e7 (Aw.dd),.slice Aw.pa Aw.P.length Aw.pc,.slice Aw.oa Aw.O.length Aw.oc,.slice Aw.na Aw.N.length Aw.nc,e7 (Aw.E),.slice Aw.qa Aw.Q.length Aw.qc]] J (λr J'=>∃(wf:Bool) (wn:Int) (wa:Option Addr) (ws:List Int) (wc:Nat) (aa M:Int),r = .tuple #[.agg #[.bool wf,e7 wn,e7 0,.slice wa (ws:List Int).length wc,e7 aa,e7 M,.slice none 0 0,.slice none 0 0,.slice none 0 0,e7 0,.slice none 0 0],.iface 185 (.agg #[]),.bool (decide (bare2 Aw/\bare1 Aw))]/\Wp wf wn ws aa M/\J'=vc 3 (.slice wa ws.length wc) ws::J))(hT:TabRd κ I 0 tzCells):eu prog κ 38 [.agg #[e7 nd,.slice ea es.length ec],.agg #[e7 K,e7 node,e7 lv,e7 tq,.slice sa S.length sc,e7 num,e7 den],.agg #[.bool (Aw.fd),e7 (Aw.num),e7 (Aw.tm),.slice Aw.sa Aw.S.length Aw.sc,e7 (Aw.dn),e7 (Aw.dd),.slice Aw.pa Aw.P.length Aw.pc,.slice Aw.oa Aw.O.length Aw.oc,.slice Aw.na Aw.N.length Aw.nc,e7 (Aw.E),.slice Aw.qa Aw.Q.length Aw.qc],e7 time] I (λr J=>∃t:Bool,r = .bool t/\(t=true->(∃wf wn ws aa M,Wp wf wn ws aa M/\Aw.is wf wn ws aa M [])/\Aw.tm=time/\(bare2 Aw/\bare1 Aw))/\((∀wf wn ws aa M,Wp wf wn ws aa M->Aw.is wf wn ws aa M [])->Aw.tm=time->(bare2 Aw/\bare1 Aw)->True->t=true)/\I=J):=by
 refine Ce4 Tryz.func38 C C ?_
 refine Ap<|Ge1 (Ak (cs:=[_,_]) C C C) λb1=>Ge1 (Ak (cs:=[_,_,_,_,_,_,_]) C C C) λb2=>Ge1 (Ak (cs:=[_,_,_,_,_,_,_,_,_,_,_]) C C C) λb3=>Z ?_
 refine G.e (Ad c_ C C<|hw _ Ah) ?_
 rintro _ _ ⟨_,_,⟨wf,wn,wa,ws,wc,aa,M,rfl,ae,rfl⟩,rfl,rfl⟩
 refine Z ?_
 refine Ge1 (Am ty42 C) λb4=>Ge0 (A9 (cs:=[_,_,_,_,_,_,_,_,_,_,_]) (vs:=[_,_,_,_,_,_,_,_,_,_,_]) (cs':=[_,_,_,_,_,_,_,_,_,_,_]) ty42)<|Z ?_
 refine Ge0 (A9 (cs:=[_,_,_,_,_,_,_,_,_,_,_]) (vs:=[_]) (cs':=[_,_,_,_,_,_,_,_,_,_,_]) ef)<|Z ?_
 refine A6 (d:=23) C (λad=>Z ?_)<|λad=>Z ?_
 ·refine Dn (B5 C C C) (Ad c_ C C<|Same45_ok (A:=Aw) (B:=(⟨wf,wn,time,wa,wc,ws,aa,M,none,0,[],none,0,[],none,0,[],0,none,0,[]⟩:AnV)) (As hA.s) (As hA.p) A7<|Ex _) ?_
  rintro _ _ ⟨_,_,⟨rfl,rfl⟩,rfl,rfl⟩
  refine Z ?_
  refine A6 (d:=28) C (λab=>Z ?_)<|λab=>Z ?_
  ·refine Dn (B5 C C C) (Eff.invoke c_ C (λw=>by kernel_rfl) C C<|Prove_nothing (nd:=nd) (va:= .slice ea es.length ec)) ?_
   rintro _ _ ⟨_,_,⟨ah,rfl,ai,rfl⟩,rfl,rfl⟩
   refine Z ?_
   exact Ai C C I Ah ⟨ah,rfl,(λ_=>⟨⟨wf,wn,ws,aa,M,ae,(same_is ab).1⟩,(same_is ab).2,ad⟩),(λ_ _ _ hE=>ai hE),rfl⟩
  exact Ai C C I Ah ⟨false,rfl,(λh=>by cases h),(λh1 h2 h3 _=>by first|exact absurd (is_same (h1 _ _ _ _ _ ae) h2) ab|exact absurd h3 ad),rfl⟩
 exact Ai C C I Ah ⟨false,rfl,(λh=>by cases h),(λh1 h2 h3 _=>by first|exact absurd (is_same (h1 _ _ _ _ _ ae) h2) ab|exact absurd h3 ad),rfl⟩
theorem six_is{A:AnV}{wf:Bool}{wn aa M:Int}{ws:List Int}(h:same6 A W)(hW:W.is wf wn ws aa M []):A.is wf wn ws aa M []:=by
 obtain ⟨a1,a2,a3,a4,a5,a6⟩:=h
 obtain ⟨b1,b2,b3,b4,b5,b6⟩:=hW
 exact ⟨a1.trans b1,a2.trans b2,a3.trans b3,a4.trans b4,a5.trans b5,a6.trans b6⟩
theorem GrX.same{nd:Int}{es:List Pt}{K node lv:Int}{S:List Int}{A:AnV}(M:GrOk nd es)(hK:1<=K/\K<=9)(a:GrX nd es K node lv S A)(b:GrX nd es K node lv S B):same6 A B:=by
 rcases (show K=8\/K=9\/K<=7 by omega) with e|e|e
 ·exact (a.1 e).same M dc (b.1 e)
 ·exact is_eq (a.2.1 e).1 (b.2.1 e).1
 exact (a.2.2 e).same M ⟨hK.1,e⟩ (b.2.2 e)
def RightR(nd:Int)(es:List Pt)(K node lv:Int)(S:List Int)(A:AnV)(time:Int)(t:Bool):Prop:=(t=true->(∃W,GrX nd es K node lv S W/\same6 A W)/\A.tm=time/\(4<=K->bare2 A))/\(GrX nd es K node lv S A->A.tm=time->t=true)
theorem right_conv{f:FuncId}{ab:List Value}{nd K node lv:Int}{es:List Pt}{S:List Int}{A:AnV}{bp ev:Prop}(hG:GrOk nd es)(hK:1<=K/\K<=9)(hb:bp->4<=K->bare2 A)(he:GrX nd es K node lv S A->bp/\ev)
  (h:eu prog κ f ab I λr J=>∃t:Bool,r = .bool t/\(t=true->(∃wf wn ws aa M,WantR nd es K node lv S wf wn ws aa M/\A.is wf wn ws aa M [])/\A.tm=time/\bp)/\((∀wf wn ws aa M,WantR nd es K node lv S wf wn ws aa M->A.is wf wn ws aa M [])->A.tm=time->bp->ev->t=true)/\I=J):eu prog κ f ab I λr J=>∃t:Bool,r = .bool t/\RightR nd es K node lv S A time t/\I=J:=
 h.mono λr J ⟨t,h1,h2,h3,h4⟩=>⟨t,h1,⟨λht=>by
  obtain ⟨⟨wf,wn,ws,aa,M,⟨W,hW,hi⟩,hA⟩,ad,ae⟩:=h2 ht
  exact ⟨⟨W,hW,is_eq hA hi⟩,ad,hb ae⟩,λhA ad=>h3 (λwf wn ws aa M ⟨W,hW,hi⟩=>six_is (hA.same hG hK hW) hi) ad (he hA).1 (he hA).2⟩,h4⟩
theorem ev_bare{A:AnV}(h:A.ev [] [] 0 []):bare2 A/\bare1 A:=by
 obtain ⟨M,h2,h3,h4⟩:=h
 exact ⟨⟨by rw [h2];rfl,by rw [M];rfl⟩,h3,by rw [h4];rfl⟩
section
variable {nd node lv:Int}{es:List Pt}{S:List Int}{A:AnV}
theorem ev1(M:GrOk nd es)(h:GrX nd es 1 node lv S A):bare1 A/\CoreE nd es A.N A.O:=by
 obtain ⟨_,h1,h2,h3,h4⟩:=(h.2.2 dc).k1 rfl
 exact ⟨⟨h3,by rw [h4];rfl⟩,by rw [h1,h2];exact coreE M⟩
theorem ev2(M:GrOk nd es)(h:GrX nd es 2 node lv S A):bare1 A/\CoreE nd es A.N A.O:=by
 obtain ⟨_,h1,h2,h3,h4⟩:=(h.2.2 dc).k2 rfl
 exact ⟨⟨h3,by rw [h4];rfl⟩,by rw [h1,h2];exact coreE M⟩
theorem ev3f(hG:GrOk nd es)(hf:edgeP (e_ S 0) (e_ S 1)∈es)(h:GrX nd es 3 node lv S A):bare1 A/\TrussE (trisE nd es) A.N A.O:=by
 obtain ⟨y,M,_,_,_,_,h3,h4⟩:=(h.2.2 dc).k3 rfl
 obtain ⟨_,e2,e3⟩:=M.some (find_yes hG M.find hf)
 exact ⟨⟨h3,by rw [h4];rfl⟩,by rw [e2,e3];exact trussG_E hG⟩
theorem ev3n(hf:¬edgeP (e_ S 0) (e_ S 1)∈es)(h:GrX nd es 3 node lv S A):(bare2 A/\bare1 A)/\True:=by
 obtain ⟨y,M,_,_,_,_,h3,h4⟩:=(h.2.2 dc).k3 rfl
 obtain ⟨_,e2,e3⟩:=M.none (by have:=find_no M.find hf;omega)
 exact ⟨⟨⟨by rw [e2];rfl,by rw [e3];rfl⟩,h3,by rw [h4];rfl⟩,trivial⟩
theorem ev5(h:GrP nd es 5 node lv S A):bare2 A/\AccD nd es A.S A.dn A.dd A.E A.Q:=by
 obtain ⟨⟨B,h1,h2,h3⟩,_,_,_,h4,M⟩:=h.k5 rfl
 exact ⟨⟨by rw [M];rfl,by rw [h4];rfl⟩,B,h1,h2,h3⟩
end
theorem Right1_ok{nd node lv tq num den:Int}{es:List Pt}{S:List Int}(hl:Sl κ I (.slice ea es.length ec) es)(hs:Sl κ I (.slice sa S.length sc) S)(hA:HdA κ I Aw)(hG:GrOk nd es)(h7:nd<=7)(hE:Aw.E<=1000)(hn:0<=node/\node<nd)(hT:TabRd κ I 0 tzCells):eu prog κ 38 [.agg #[e7 (nd),.slice ea es.length ec],.agg #[e7 (1),e7 (node),e7 (lv),e7 (tq),.slice sa S.length sc,e7 (num),e7 (den)],.agg #[.bool (Aw.fd),e7 (Aw.num),e7 (Aw.tm),.slice Aw.sa Aw.S.length Aw.sc,e7 (Aw.dn),e7 (Aw.dd),.slice Aw.pa Aw.P.length Aw.pc,.slice Aw.oa Aw.O.length Aw.oc,.slice Aw.na Aw.N.length Aw.nc,e7 (Aw.E),.slice Aw.qa Aw.Q.length Aw.qc],e7 (time)] I (λr J=>∃t:Bool,r = .bool t/\RightR nd es 1 node lv S Aw time t/\I=J):=
 right_conv hG dc (λ_ h=>absurd h dc) (ev1 hG) (Right_nodes hl hA hG (λJ M=>Wanted1_ok (tq:=tq) (num:=num) (den:=den) (B4 hl M) (B4 hs M) (hA.fit M) hG h7 hn<|A5 hT M) hT)
theorem Right2_ok{nd node lv tq num den:Int}{es:List Pt}{S:List Int}(hl:Sl κ I (.slice ea es.length ec) es)(hs:Sl κ I (.slice sa S.length sc) S)(hA:HdA κ I Aw)(hG:GrOk nd es)(h7:nd<=7)(hE:Aw.E<=1000)(hn:0<=node/\node<nd)(hT:TabRd κ I 0 tzCells):eu prog κ 38 [.agg #[e7 (nd),.slice ea es.length ec],.agg #[e7 (2),e7 (node),e7 (lv),e7 (tq),.slice sa S.length sc,e7 (num),e7 (den)],.agg #[.bool (Aw.fd),e7 (Aw.num),e7 (Aw.tm),.slice Aw.sa Aw.S.length Aw.sc,e7 (Aw.dn),e7 (Aw.dd),.slice Aw.pa Aw.P.length Aw.pc,.slice Aw.oa Aw.O.length Aw.oc,.slice Aw.na Aw.N.length Aw.nc,e7 (Aw.E),.slice Aw.qa Aw.Q.length Aw.qc],e7 (time)] I (λr J=>∃t:Bool,r = .bool t/\RightR nd es 2 node lv S Aw time t/\I=J):=
 right_conv hG dc (λ_ h=>absurd h dc) (ev2 hG) (Right_nodes hl hA hG (λJ M=>Wanted2_ok (tq:=tq) (num:=num) (den:=den) (B4 hl M) (B4 hs M) (hA.fit M) hG h7 hn<|A5 hT M) hT)
theorem Right3f_ok{nd node lv tq num den:Int}{es:List Pt}{S:List Int}(hl:Sl κ I (.slice ea es.length ec) es)(hs:Sl κ I (.slice sa S.length sc) S)(hA:HdA κ I Aw)(hG:GrOk nd es)(h7:nd<=7)(hE:Aw.E<=1000)(h2:S.length=2)(M:(edgeP (e_ S 0) (e_ S 1)∈es))(hT:TabRd κ I 0 tzCells):eu prog κ 38 [.agg #[e7 (nd),.slice ea es.length ec],.agg #[e7 (3),e7 (node),e7 (lv),e7 (tq),.slice sa S.length sc,e7 (num),e7 (den)],.agg #[.bool (Aw.fd),e7 (Aw.num),e7 (Aw.tm),.slice Aw.sa Aw.S.length Aw.sc,e7 (Aw.dn),e7 (Aw.dd),.slice Aw.pa Aw.P.length Aw.pc,.slice Aw.oa Aw.O.length Aw.oc,.slice Aw.na Aw.N.length Aw.nc,e7 (Aw.E),.slice Aw.qa Aw.Q.length Aw.qc],e7 (time)] I (λr J=>∃t:Bool,r = .bool t/\RightR nd es 3 node lv S Aw time t/\I=J):=
 right_conv hG dc (λ_ h=>absurd h dc) (ev3f hG M) (Right_edges hl hA hG (λJ hf=>Wanted3f_ok (tq:=tq) (num:=num) (den:=den) (B4 hl hf) (B4 hs hf) (hA.fit hf) hG h7 h2 M<|A5 hT hf) hT)
theorem Right3n_ok{nd node lv tq num den:Int}{es:List Pt}{S:List Int}(hl:Sl κ I (.slice ea es.length ec) es)(hs:Sl κ I (.slice sa S.length sc) S)(hA:HdA κ I Aw)(hG:GrOk nd es)(h7:nd<=7)(hE:Aw.E<=1000)(h2:S.length=2)(M:¬(edgeP (e_ S 0) (e_ S 1)∈es))(hT:TabRd κ I 0 tzCells):eu prog κ 38 [.agg #[e7 (nd),.slice ea es.length ec],.agg #[e7 (3),e7 (node),e7 (lv),e7 (tq),.slice sa S.length sc,e7 (num),e7 (den)],.agg #[.bool (Aw.fd),e7 (Aw.num),e7 (Aw.tm),.slice Aw.sa Aw.S.length Aw.sc,e7 (Aw.dn),e7 (Aw.dd),.slice Aw.pa Aw.P.length Aw.pc,.slice Aw.oa Aw.O.length Aw.oc,.slice Aw.na Aw.N.length Aw.nc,e7 (Aw.E),.slice Aw.qa Aw.Q.length Aw.qc],e7 (time)] I (λr J=>∃t:Bool,r = .bool t/\RightR nd es 3 node lv S Aw time t/\I=J):=
 right_conv hG dc (λh _=>h.1) (ev3n M) (Right_nothing hl hA hG (λJ hf=>Wanted3n_ok (tq:=tq) (num:=num) (den:=den) (B4 hl hf) (B4 hs hf) (hA.fit hf) hG h7 h2 M<|A5 hT hf) hT)
theorem Right4_ok{nd node lv tq num den:Int}{es:List Pt}{S:List Int}(hl:Sl κ I (.slice ea es.length ec) es)(hs:Sl κ I (.slice sa S.length sc) S)(hA:HdA κ I Aw)(hG:GrOk nd es)(h7:nd<=7)(hE:Aw.E<=1000)(hT:TabRd κ I 0 tzCells):eu prog κ 38 [.agg #[e7 (nd),.slice ea es.length ec],.agg #[e7 (4),e7 (node),e7 (lv),e7 (tq),.slice sa S.length sc,e7 (num),e7 (den)],.agg #[.bool (Aw.fd),e7 (Aw.num),e7 (Aw.tm),.slice Aw.sa Aw.S.length Aw.sc,e7 (Aw.dn),e7 (Aw.dd),.slice Aw.pa Aw.P.length Aw.pc,.slice Aw.oa Aw.O.length Aw.oc,.slice Aw.na Aw.N.length Aw.nc,e7 (Aw.E),.slice Aw.qa Aw.Q.length Aw.qc],e7 (time)] I (λr J=>∃t:Bool,r = .bool t/\RightR nd es 4 node lv S Aw time t/\I=J):=
 right_conv hG dc (λh _=>h.1) (λh=>⟨ev_bare ((h.2.2 dc).k4 rfl).2,trivial⟩) (Right_nothing hl hA hG (λJ M=>Wanted4_ok (tq:=tq) (num:=num) (den:=den) (B4 hl M) (B4 hs M) (hA.fit M) hG h7<|A5 hT M) hT)
theorem Right6_ok{nd node lv tq num den:Int}{es:List Pt}{S:List Int}(hl:Sl κ I (.slice ea es.length ec) es)(hs:Sl κ I (.slice sa S.length sc) S)(hA:HdA κ I Aw)(hG:GrOk nd es)(h7:nd<=7)(hE:Aw.E<=1000)(hT:TabRd κ I 0 tzCells):eu prog κ 38 [.agg #[e7 (nd),.slice ea es.length ec],.agg #[e7 (6),e7 (node),e7 (lv),e7 (tq),.slice sa S.length sc,e7 (num),e7 (den)],.agg #[.bool (Aw.fd),e7 (Aw.num),e7 (Aw.tm),.slice Aw.sa Aw.S.length Aw.sc,e7 (Aw.dn),e7 (Aw.dd),.slice Aw.pa Aw.P.length Aw.pc,.slice Aw.oa Aw.O.length Aw.oc,.slice Aw.na Aw.N.length Aw.nc,e7 (Aw.E),.slice Aw.qa Aw.Q.length Aw.qc],e7 (time)] I (λr J=>∃t:Bool,r = .bool t/\RightR nd es 6 node lv S Aw time t/\I=J):=
 right_conv hG dc (λh _=>h.1) (λh=>⟨ev_bare ((h.2.2 dc).k6 rfl).2.2,trivial⟩) (Right_nothing hl hA hG (λJ M=>Wanted6_ok (tq:=tq) (num:=num) (den:=den) (B4 hl M) (B4 hs M) (hA.fit M) hG h7<|A5 hT M) hT)
theorem Right7_ok{nd node lv tq num den:Int}{es:List Pt}{S:List Int}(hl:Sl κ I (.slice ea es.length ec) es)(hs:Sl κ I (.slice sa S.length sc) S)(hA:HdA κ I Aw)(hG:GrOk nd es)(h7:nd<=7)(hE:Aw.E<=1000)(hT:TabRd κ I 0 tzCells):eu prog κ 38 [.agg #[e7 (nd),.slice ea es.length ec],.agg #[e7 (7),e7 (node),e7 (lv),e7 (tq),.slice sa S.length sc,e7 (num),e7 (den)],.agg #[.bool (Aw.fd),e7 (Aw.num),e7 (Aw.tm),.slice Aw.sa Aw.S.length Aw.sc,e7 (Aw.dn),e7 (Aw.dd),.slice Aw.pa Aw.P.length Aw.pc,.slice Aw.oa Aw.O.length Aw.oc,.slice Aw.na Aw.N.length Aw.nc,e7 (Aw.E),.slice Aw.qa Aw.Q.length Aw.qc],e7 (time)] I (λr J=>∃t:Bool,r = .bool t/\RightR nd es 7 node lv S Aw time t/\I=J):=
 right_conv hG dc (λh _=>h.1) (λh=>⟨ev_bare ((h.2.2 dc).k7 rfl).2,trivial⟩) (Right_nothing hl hA hG (λJ M=>Wanted7_ok (tq:=tq) (num:=num) (den:=den) (B4 hl M) (B4 hs M) (hA.fit M) hG h7<|A5 hT M) hT)
theorem Right5_ok{nd node lv tq num den:Int}{es:List Pt}{S:List Int}(hl:Sl κ I (.slice ea es.length ec) es)(hs:Sl κ I (.slice sa S.length sc) S)(hA:HdA κ I Aw)(hG:GrOk nd es)(h7:nd<=7)(hE:Aw.E<=1000)(hT:TabRd κ I 0 tzCells):eu prog κ 38 [.agg #[e7 (nd),.slice ea es.length ec],.agg #[e7 (5),e7 (node),e7 (lv),e7 (tq),.slice sa S.length sc,e7 (num),e7 (den)],.agg #[.bool (Aw.fd),e7 (Aw.num),e7 (Aw.tm),.slice Aw.sa Aw.S.length Aw.sc,e7 (Aw.dn),e7 (Aw.dd),.slice Aw.pa Aw.P.length Aw.pc,.slice Aw.oa Aw.O.length Aw.oc,.slice Aw.na Aw.N.length Aw.nc,e7 (Aw.E),.slice Aw.qa Aw.Q.length Aw.qc],e7 (time)] I (λr J=>∃t:Bool,r = .bool t/\RightR nd es 5 node lv S Aw time t/\I=J):=
 right_conv hG dc (λh _=>h) (λh=>ev5<|h.2.2 dc) (Right_split hl hA hG hE (λJ M=>Wanted5_ok (tq:=tq) (num:=num) (den:=den) (B4 hl M) (B4 hs M) (hA.fit M) hG h7<|A5 hT M) hT)
theorem Right8_ok{nd node lv tq num den:Int}{es:List Pt}{S:List Int}(hl:Sl κ I (.slice ea es.length ec) es)(hs:Sl κ I (.slice sa S.length sc) S)(hA:HdA κ I Aw)(hG:GrOk nd es)(h7:nd<=7)(hE:Aw.E<=1000)(hT:TabRd κ I 0 tzCells):eu prog κ 38 [.agg #[e7 (nd),.slice ea es.length ec],.agg #[e7 (8),e7 (node),e7 (lv),e7 (tq),.slice sa S.length sc,e7 (num),e7 (den)],.agg #[.bool (Aw.fd),e7 (Aw.num),e7 (Aw.tm),.slice Aw.sa Aw.S.length Aw.sc,e7 (Aw.dn),e7 (Aw.dd),.slice Aw.pa Aw.P.length Aw.pc,.slice Aw.oa Aw.O.length Aw.oc,.slice Aw.na Aw.N.length Aw.nc,e7 (Aw.E),.slice Aw.qa Aw.Q.length Aw.qc],e7 (time)] I (λr J=>∃t:Bool,r = .bool t/\RightR nd es 8 node lv S Aw time t/\I=J):=
 right_conv hG dc (λh _=>h) (λh=>ev5<|h.1 rfl) (Right_split hl hA hG hE (λJ M=>Wanted8_ok (tq:=tq) (num:=num) (den:=den) (B4 hl M) (B4 hs M) (hA.fit M) hG h7<|A5 hT M) hT)
theorem Right9_ok{nd node lv tq num den:Int}{es:List Pt}{S:List Int}(hl:Sl κ I (.slice ea es.length ec) es)(hs:Sl κ I (.slice sa S.length sc) S)(hA:HdA κ I Aw)(hG:GrOk nd es)(h7:nd<=7)(hE:Aw.E<=1000)(aa:0<S.length)(hn:0<=e_ S 0/\e_ S 0<nd)(hT:TabRd κ I 0 tzCells):eu prog κ 38 [.agg #[e7 (nd),.slice ea es.length ec],.agg #[e7 (9),e7 (node),e7 (lv),e7 (tq),.slice sa S.length sc,e7 (num),e7 (den)],.agg #[.bool (Aw.fd),e7 (Aw.num),e7 (Aw.tm),.slice Aw.sa Aw.S.length Aw.sc,e7 (Aw.dn),e7 (Aw.dd),.slice Aw.pa Aw.P.length Aw.pc,.slice Aw.oa Aw.O.length Aw.oc,.slice Aw.na Aw.N.length Aw.nc,e7 (Aw.E),.slice Aw.qa Aw.Q.length Aw.qc],e7 (time)] I (λr J=>∃t:Bool,r = .bool t/\RightR nd es 9 node lv S Aw time t/\I=J):=
 right_conv hG dc (λh _=>h.1) (λh=>⟨ev_bare (h.2.1 rfl).2,trivial⟩) (Right_nothing hl hA hG (λJ M=>Wanted9_ok (tq:=tq) (num:=num) (den:=den) (B4 hl M) (B4 hs M) (hA.fit M) hG h7 aa hn<|A5 hT M) hT)
theorem RightA_ok{K:Int}{nd node lv tq num den:Int}{es:List Pt}{S:List Int}(M:Sl κ I (.slice ea es.length ec) es)(hs:Sl κ I (.slice sa S.length sc) S)(hA:HdA κ I Aw)(hG:GrOk nd es)(h7:nd<=7)(hE:Aw.E<=1000)(hq:QV nd K node lv tq S num den)(hK:K<=9)(hT:TabRd κ I 0 tzCells):eu prog κ 38 [.agg #[e7 (nd),.slice ea es.length ec],.agg #[e7 (K),e7 (node),e7 (lv),e7 (tq),.slice sa S.length sc,e7 (num),e7 (den)],.agg #[.bool (Aw.fd),e7 (Aw.num),e7 (Aw.tm),.slice Aw.sa Aw.S.length Aw.sc,e7 (Aw.dn),e7 (Aw.dd),.slice Aw.pa Aw.P.length Aw.pc,.slice Aw.oa Aw.O.length Aw.oc,.slice Aw.na Aw.N.length Aw.nc,e7 (Aw.E),.slice Aw.qa Aw.Q.length Aw.qc],e7 (time)] I (λr J=>∃t:Bool,r = .bool t/\RightR nd es K node lv S Aw time t/\I=J):=by
 have hr:=hq.rng
 rcases (show K=1\/K=2\/K=3\/K=4\/K=5\/K=6\/K=7\/K=8\/K=9 by omega) with rfl|rfl|rfl|rfl|rfl|rfl|rfl|rfl|rfl
 ·exact Right1_ok M hs hA hG h7 hE (hq.node C) hT
 ·exact Right2_ok M hs hA hG h7 hE (hq.node C) hT
 ·have h2:=(hq.set rfl).2.2.resolve_left dc
  by_cases hfe:(edgeP (e_ S 0) (e_ S 1)∈es)
  ·exact Right3f_ok M hs hA hG h7 hE h2 hfe hT
  exact Right3n_ok M hs hA hG h7 hE h2 hfe hT
 ·exact Right4_ok M hs hA hG h7 hE hT
 ·exact Right5_ok M hs hA hG h7 hE hT
 ·exact Right6_ok M hs hA hG h7 hE hT
 ·exact Right7_ok M hs hA hG h7 hE hT
 ·exact Right8_ok M hs hA hG h7 hE hT
 have h0:=(hq.set rfl).2.1
 exact Right9_ok M hs hA hG h7 hE h0 (ValidP_mem (hq.set C).1 (Bv om om)) hT
structure ChkR (nd kd wd mo:Int) (es:List Ev) (K node lv tq:Int) (S:List Int) (num den:Int) (A:AnV) (c:Int):Prop where
 err:askQ nd kd wd mo es K node lv tq S num den≠0->c=askQ nd kd wd mo es K node lv tq S num den
 two:askQ nd kd wd mo es K node lv tq S num den=0->c=0\/c=12
 same:askQ nd kd wd mo es K node lv tq S num den=0->c=0->∃W,AnsP nd kd wd mo es K node lv tq S num den W/\same6 A W/\A.tm=W.tm
 bare:askQ nd kd wd mo es K node lv tq S num den=0->c=0->4<=K->bare2 A
 acc:askQ nd kd wd mo es K node lv tq S num den=0->AnsP nd kd wd mo es K node lv tq S num den A->c=0
section
variable {nd kd wd mo K node lv tq num den:Int}{es:List Ev}{S:List Int}{A:AnV}
theorem ChkR.bad{c:Int}(h:askQ nd kd wd mo es K node lv tq S num den=c)(hc:c≠0):ChkR nd kd wd mo es K node lv tq S num den A c:=⟨λ_=>h.symm,λM=>absurd (h.symm.trans M) hc,λM=>absurd (h.symm.trans M) hc,λM=>absurd (h.symm.trans M) hc,λM=>absurd (h.symm.trans M) hc⟩
theorem ChkR.good(h:askQ nd kd wd mo es K node lv tq S num den=0)(h1:t=true->(∃W,AnsP nd kd wd mo es K node lv tq S num den W/\same6 A W/\A.tm=W.tm)/\(4<=K->bare2 A))(h2:AnsP nd kd wd mo es K node lv tq S num den A->t=true):ChkR nd kd wd mo es K node lv tq S num den A (if t=true then 0 else 12):=by
 refine ⟨λM=>absurd h M,λ_=>?_,λ_ M=>?_,λ_ M=>?_,λ_ M=>by rw [if_pos (h2 M)]⟩
 ·cases t<;>simp
 ·cases t
  ·simp at M
  exact (h1 rfl).1
 cases t
 ·simp at M
 exact (h1 rfl).2
theorem same_six(h:sameP A B):same6 A B/\A.tm=B.tm:=by
 obtain ⟨M,h2,h3,h4,h5,h6⟩:=h
 injection h4 with h7 h8
 exact ⟨⟨M,h2,h5,h7,h8,h6⟩,h3⟩
theorem chk_ten{X:List Pt}(hK:K=10)(M:X=spanK (numT nd kd wd mo es node) (allE kd wd mo es) (allE kd wd mo es).length):AnsP nd kd wd mo es K node lv tq S num den ⟨true,0,0,none,0,[],0,0,none,0,X,none,0,[],none,0,[],0,none,0,[]⟩:=⟨λh=>by omega,λh=>by omega,λh=>by omega,λ_=>⟨⟨rfl,rfl,rfl,rfl,rfl,M⟩,⟨rfl,rfl,rfl,rfl⟩,rfl⟩⟩
theorem AnsP.pl{a:Option Addr}{c:Nat}(h:AnsP nd kd wd mo es K node lv tq S num den W):AnsP nd kd wd mo es K node lv tq S num den {W with pa:=a,pc:=c}:=⟨λe=>⟨⟨((h.g e).1).k1,((h.g e).1).k2,((h.g e).1).k3,((h.g e).1).k4,((h.g e).1).k5,((h.g e).1).k6,((h.g e).1).k7⟩,(h.g e).2⟩,λe=>by
 obtain ⟨tv,ok,h1,h2,h3⟩:=h.k8 e
 exact ⟨tv,ok,h1,λM=>⟨⟨(h2 M).1.k1,(h2 M).1.k2,(h2 M).1.k3,(h2 M).1.k4,(h2 M).1.k5,(h2 M).1.k6,(h2 M).1.k7⟩,(h2 M).2⟩,h3⟩,h.k9,h.k10⟩
theorem AnsP.six(hH:HistOk nd kd wd mo es)(hK:1<=K/\K<=10)(a:AnsP nd kd wd mo es K node lv tq S num den A)(b:AnsP nd kd wd mo es K node lv tq S num den W):sameP A W:=by
 obtain ⟨M,h2,h3,h4,h5,h6⟩:=a.alike hH hK b
 exact ⟨M,h2,h3,h5,(cmpL_eq _ _).1 h4,h6⟩
theorem chk_none(hK:K=8/\FirstP kd wd mo es (reachQ nd kd wd mo es num den) tv false\/K=9/\FirstP kd wd mo es (togQ nd kd wd mo es S lv) tv false):AnsP nd kd wd mo es K node lv tq S num den ⟨false,0,0,none,0,[],0,0,none,0,[],none,0,[],none,0,[],0,none,0,[]⟩:=by
 have hz:AnV.zero ⟨false,0,0,none,0,[],0,0,none,0,[],none,0,[],none,0,[],0,none,0,[]⟩:=⟨⟨rfl,rfl,rfl,rfl,rfl,rfl⟩,⟨rfl,rfl,rfl,rfl⟩,rfl⟩
 refine ⟨λh=>by omega,λh=>?_,λh=>?_,λh=>by omega⟩
 ·rcases hK with ⟨_,M⟩|⟨e,_⟩
  ·exact ⟨tv,false,M,(λh=>by cases h),λ_=>hz⟩
  omega
 rcases hK with ⟨e,_⟩|⟨_,M⟩
 ·omega
 exact ⟨tv,false,M,(λh=>by cases h),λ_=>hz⟩
theorem none_bare(hH:HistOk nd kd wd mo es)(hK:K=8/\FirstP kd wd mo es (reachQ nd kd wd mo es num den) tv false\/K=9/\FirstP kd wd mo es (togQ nd kd wd mo es S lv) tv false)(h:AnsP nd kd wd mo es K node lv tq S num den A):bare2 A/\bare1 A:=by
 rcases hK with ⟨e,M⟩|⟨e,M⟩
 ·obtain ⟨t2,k2,h1,_,h3⟩:=h.k8 e
  exact ev_bare (h3 (M.uniq h1).2.symm).2.1
 obtain ⟨t2,k2,h1,_,h3⟩:=h.k9 e
 exact ev_bare (h3 (M.uniq h1).2.symm).2.1
structure AtR (nd kd wd mo:Int) (es:List Ev) (K lv tq:Int) (S:List Int) (num den:Int) (T time:Int):Prop where
 k7:K<=7->T=tq/\time=0
 k8:K=8->FirstP kd wd mo es (reachQ nd kd wd mo es num den) T true/\time=T
 k9:K=9->FirstP kd wd mo es (togQ nd kd wd mo es S lv) T true/\time=T
theorem chk_right{T:Int}(hK:1<=K/\K<=9)(hT:AtR nd kd wd mo es K lv tq S num den T time)(h:askQ nd kd wd mo es K node lv tq S num den=0)(hR:RightR nd (atG kd wd mo es T) K node lv S A time t):ChkR nd kd wd mo es K node lv tq S num den A (if t=true then 0 else 12):=by
 have ab:∀W:AnV,GrX nd (atG kd wd mo es T) K node lv S W/\W.tm=time->AnsP nd kd wd mo es K node lv tq S num den W:=λW M=>by
  refine ⟨λe=>?_,λe=>?_,λe=>?_,λe=>by omega⟩
  ·obtain ⟨rfl,rfl⟩:=hT.k7 e
   exact ⟨M.1.2.2 e,M.2⟩
  ·obtain ⟨hF,rfl⟩:=hT.k8 e
   exact ⟨_,true,hF,λ_=>⟨M.1.1 e,M.2⟩,λh=>by cases h⟩
  obtain ⟨hF,rfl⟩:=hT.k9 e
  exact ⟨_,true,hF,λ_=>⟨(M.1.2.1 e).1,(M.1.2.1 e).2,M.2⟩,λh=>by cases h⟩
 have back:AnsP nd kd wd mo es K node lv tq S num den A->GrX nd (atG kd wd mo es T) K node lv S A/\A.tm=time:=λhA=>by
  rcases (show K=8\/K=9\/K<=7 by omega) with e|e|e
  ·obtain ⟨t2,k2,h1,h2,_⟩:=hA.k8 e
   obtain ⟨hF,rfl⟩:=hT.k8 e
   obtain ⟨rfl,rfl⟩:=hF.uniq h1
   exact ⟨⟨λ_=>(h2 rfl).1,λe2=>by omega,λe2=>by omega⟩,(h2 rfl).2⟩
  ·obtain ⟨t2,k2,h1,h2,_⟩:=hA.k9 e
   obtain ⟨hF,rfl⟩:=hT.k9 e
   obtain ⟨rfl,rfl⟩:=hF.uniq h1
   exact ⟨⟨λe2=>by omega,λ_=>⟨(h2 rfl).1,(h2 rfl).2.1⟩,λe2=>by omega⟩,(h2 rfl).2.2⟩
  obtain ⟨rfl,rfl⟩:=hT.k7 e
  exact ⟨⟨λe2=>by omega,λe2=>by omega,λ_=>(hA.g e).1⟩,(hA.g e).2⟩
 refine ChkR.good h (λht=>?_) λhA=>hR.2 (back hA).1 (back hA).2
 obtain ⟨⟨W,M,h6⟩,aa,hb⟩:=hR.1 ht
 refine ⟨⟨{W with tm:=time},ab _ ⟨⟨λe=>⟨(M.1 e).k1,(M.1 e).k2,(M.1 e).k3,(M.1 e).k4,(M.1 e).k5,(M.1 e).k6,(M.1 e).k7⟩,M.2.1,λe=>⟨(M.2.2 e).k1,(M.2.2 e).k2,(M.2.2 e).k3,(M.2.2 e).k4,(M.2.2 e).k5,(M.2.2 e).k6,(M.2.2 e).k7⟩⟩,rfl⟩,h6,aa⟩,hb⟩
end
theorem AudCheck_ok{nd kd wd mo K node lv tq num den:Int}{es:List Ev}{S:List Int}(hl:Sl κ I (.slice ea es.length ec) es)(hs:Sl κ I (.slice sa S.length sc) S)(M:HdA κ I Aw)(hlen:es.length<=19)(h7:nd<=7)(hf:densF K=true->FrV ⟨num,den⟩)(hE:Aw.E<=1000)(hT:TabRd κ I 0 tzCells):eu prog κ 14 [e7 nd,.slice ea es.length ec,.agg #[e7 kd,e7 wd,e7 mo],.agg #[e7 K,e7 node,e7 lv,e7 tq,.slice sa S.length sc,e7 num,e7 den],.agg #[.bool (Aw.fd),e7 (Aw.num),e7 (Aw.tm),.slice Aw.sa Aw.S.length Aw.sc,e7 (Aw.dn),e7 (Aw.dd),.slice Aw.pa Aw.P.length Aw.pc,.slice Aw.oa Aw.O.length Aw.oc,.slice Aw.na Aw.N.length Aw.nc,e7 (Aw.E),.slice Aw.qa Aw.Q.length Aw.qc]] I (λr J=>∃c,r=e7 c/\ChkR nd kd wd mo es K node lv tq S num den Aw c/\I=J):=by
 refine Ce5 Tryz.func14 C C ?_
 refine Ap<|Ge1 (Ak (cs:=[_,_,_]) C C C) λb1=>Ge1 (Ak (cs:=[_,_,_,_,_,_,_]) C C C) λb2=>Ge1 (Ak (cs:=[_,_,_,_,_,_,_,_,_,_,_]) C C C) λb3=>Z ?_
 refine G.e (Ad c_ C C<|CheckW_ok kd wd mo) ?_
 rintro _ _ ⟨_,_,⟨rfl,rfl⟩,rfl,rfl⟩
 refine Z ?_
 refine Av C (λak=>Z ?_)<|λak=>Z ?_
 ·exact Ai C C I Ah ⟨checkW kd wd mo,rfl,(ChkR.bad (by unfold askQ slideE;rw [if_pos (by rw [if_pos ak];exact ak),if_pos ak]) ak),rfl⟩
 refine Gc0 (Ad c_ C C<|HCheck_ok (nd:=nd)<|As hl)<|Z ?_
 refine Av C (λay=>Z ?_)<|λay=>Z ?_
 ·exact Ai C C I Ah ⟨streamE nd es,rfl,(ChkR.bad (by unfold askQ slideE;rw [if_pos (by rw [if_neg ak];exact ay),if_neg ak]) ay),rfl⟩
 have a6:slideE nd kd wd mo es=0:=by unfold slideE;rw [if_neg ak];exact Classical.not_not.1 ay
 refine Z ?_
 refine Gc0 (Ad c_ C C<|QCheckG_ok (nd:=nd) (K:=K) (node:=node) (lv:=lv) (tq:=tq) (num:=num) (den:=den) (S:=S) (As hs)<|by first|exact hf|exact hf (by rw [an];rfl))<|Z ?_
 refine Av C (λaz=>Z ?_)<|λaz=>Z ?_
 ·exact Ai C C I Ah ⟨checkQ nd K node lv tq S num den,rfl,(ChkR.bad (by unfold askQ;rw [if_neg (λh=>h a6)]) az),rfl⟩
 have hH:=hist_of a6
 have hQ:=QV.of (Classical.not_not.1 az)
 have a7:=hQ.rng
 have ah:askQ nd kd wd mo es K node lv tq S num den=0:=by unfold askQ;rw [if_neg (λh=>h a6)];exact Classical.not_not.1 az
 refine Z ?_
 refine Av C (λar=>Z ?_)<|λar=>Z ?_
 ·refine G.e (Ad c_ C C<|AHistF_ok (nd:=nd) (kd:=kd) (wd:=wd) (mo:=mo) (v:=node) (As hl) hH hlen (hQ.node<|by rw [ar];rfl)<|A5 hT Ah) ?_
  rintro _ _ ⟨_,_,⟨bb,bc,XS6,rfl,aq,rfl⟩,rfl,rfl⟩
  refine Z ?_
  refine Gc0 (Ad c_ C C<|Same45_ok (A:=Aw) (B:=(⟨true,0,0,none,0,[],0,0,bb,bc,XS6,none,0,[],none,0,[],0,none,0,[]⟩:AnV)) (As M.s) (As M.p) (Ex _) A7) ?_
  refine Gm C<|A6 (d:=56) C (λaw=>Z ?_)<|λaw=>Z ?_
  ·refine Dn (B5 C C C) (Ad c_ C C<|Barett_ok (A:=Aw) ⟨(As M.s),(As M.p),(As M.o),(As M.n),(As M.q),M.b⟩) ?_
   rintro _ _ ⟨_,_,⟨rfl,rfl⟩,rfl,rfl⟩
   refine Z ?_
   refine Gc0 (Ad c_ C C<|Verdict_ok (t:=decide (bare2 Aw/\bare1 Aw)))<|Z ?_
   exact Ai C C I Ah ⟨if (decide<|bare2 Aw/\bare1 Aw)=true then 0 else 12,rfl,(ChkR.good ah (λh=>⟨⟨_,(chk_ten (nd:=nd) (kd:=kd) (lv:=lv) (tq:=tq) (S:=S) (num:=num) (den:=den) ar aq).pl,(same_six aw).1,(same_six aw).2⟩,λ_=>(of_decide_eq_true h).1⟩)<|λhP=>decide_eq_true<|by obtain ⟨_,h2,_⟩:=hP.k10 ar;exact ev_bare h2),rfl⟩
  refine Gc0 (Ad c_ C C<|Verdict_ok (t:=false))<|Z ?_
  exact Ai C C I Ah ⟨if false=true then 0 else 12,rfl,(ChkR.good (t:=false) ah (λh=>by cases h)<|λhP=>absurd ((AnsP.six hH a7 hP<|(chk_ten (nd:=nd) (kd:=kd) (lv:=lv) (tq:=tq) (S:=S) (num:=num) (den:=den) ar aq).pl):sameP Aw _) aw),rfl⟩
 refine Av C (λan=>Z ?_)<|λan=>Z ?_
 ·refine G.e (Ad c_ C C<|AFirst_ok (nd:=nd) (kd:=kd) (wd:=wd) (mo:=mo) (num:=num) (den:=den) (As hl) hH hlen (by first|exact hf|exact hf (by rw [an];rfl))<|A5 hT Ah) ?_
  rintro _ _ ⟨_,_,⟨a9,ba,rfl,a8,rfl⟩,rfl,rfl⟩
  have ax:=first_rng hH a8
  refine Z ?_
  refine D6 C (λap=>Z ?_)<|λap=>Z ?_
  ·have ai:=a8
   have ao:ba=false:=by simpa using ap
   rw [ao] at ai
   refine Z ?_
   refine Gc0 (Ad c_ C C<|Same45_ok (A:=Aw) (B:=(⟨false,0,0,none,0,[],0,0,none,0,[],none,0,[],none,0,[],0,none,0,[]⟩:AnV)) (As M.s) (As M.p) (Ex _)<|Ex _) ?_
   refine Gm C<|A6 (d:=92) C (λae=>Z ?_)<|λae=>Z ?_
   ·refine Dn (B5 C C C) (Ad c_ C C<|Barett_ok (A:=Aw) ⟨(As M.s),(As M.p),(As M.o),(As M.n),(As M.q),M.b⟩) ?_
    rintro _ _ ⟨_,_,⟨rfl,rfl⟩,rfl,rfl⟩
    refine Z ?_
    refine Gc0 (Ad c_ C C<|Verdict_ok (t:=decide (bare2 Aw/\bare1 Aw)))<|Z ?_
    exact Ai C C I Ah ⟨if (decide<|bare2 Aw/\bare1 Aw)=true then 0 else 12,rfl,(ChkR.good ah (λh=>⟨⟨_,(chk_none (nd:=nd) (node:=node) (tq:=tq)<|.inl ⟨an,ai⟩),(same_six ae).1,(same_six ae).2⟩,λ_=>(of_decide_eq_true h).1⟩)<|λhP=>decide_eq_true<|none_bare hH (.inl ⟨an,ai⟩) hP),rfl⟩
   refine Gc0 (Ad c_ C C<|Verdict_ok (t:=false))<|Z ?_
   exact Ai C C I Ah ⟨if false=true then 0 else 12,rfl,(ChkR.good (t:=false) ah (λh=>by cases h)<|λhP=>absurd (AnsP.six hH a7 hP<|chk_none (nd:=nd) (node:=node) (tq:=tq)<|.inl ⟨an,ai⟩) ae),rfl⟩
  have au:=a8
  have ao:ba=true:=by simpa using ap
  rw [ao] at au
  refine Z ?_
  refine G.e (Ad c_ C C<|At_ok (nd:=nd) (kd:=kd) (wd:=wd) (mo:=mo) (tq:=a9) (As hl) hH hlen<|by first|exact hQ.tim om|exact ax.1) ?_
  rintro _ _ ⟨_,_,⟨bm,bg,rfl,rfl⟩,rfl,rfl⟩
  refine Z ?_
  refine Ge1 (Am ty56 C) λbk=>Ge0 (Ci ty56)<|Z ?_
  refine Av C (λaa=>?_)<|λaa=>Z ?_
  ·exact absurd rfl aa
  refine Av C (λaj=>?_)<|λaj=>Z ?_
  ·exfalso;omega
  refine G.e (Ad c_ C C<|RightA_ok (nd:=nd) (K:=K) (tq:=tq) (num:=num) (den:=den) (time:=a9) A7 (As hs) (M.fit Ah) (hH.graph _) h7 hE hQ om<|A5 hT Ah) ?_
  rintro _ _ ⟨_,_,⟨a5,rfl,av,rfl⟩,rfl,rfl⟩
  refine Gc0 (Ad c_ C C<|Verdict_ok (t:=a5))<|Z ?_
  exact Ai C C I Ah ⟨if a5=true then 0 else 12,rfl,(chk_right om ⟨λh=>by omega,λ_=>⟨au,rfl⟩,λh=>by omega⟩ ah av),rfl⟩
 refine Av C (λad=>Z ?_)<|λad=>Z ?_
 ·refine G.e (Ad c_ C C<|ATog_ok (nd:=nd) (kd:=kd) (wd:=wd) (mo:=mo) (lv:=lv) (As hl) (As hs) hH hlen ⟨(hQ.set<|by rw [ad];rfl).2.1,asc_len64 (ValidP_iff.1 (hQ.set<|by rw [ad];rfl).1).2 (λx hx=>by have:=(ValidP_iff.1 (hQ.set<|by rw [ad];rfl).1).1 x hx;omega)⟩ (hQ.set<|by rw [ad];rfl).1 (A5 hT Ah)) ?_
  rintro _ _ ⟨_,_,⟨a1,a4,rfl,ab,rfl⟩,rfl,rfl⟩
  have ax:=first_rng hH ab
  refine Z ?_
  refine D6 C (λap=>Z ?_)<|λap=>Z ?_
  ·have ai:=ab
   have ao:a4=false:=by simpa using ap
   rw [ao] at ai
   refine Z ?_
   refine Gc0 (Ad c_ C C<|Same45_ok (A:=Aw) (B:=(⟨false,0,0,none,0,[],0,0,none,0,[],none,0,[],none,0,[],0,none,0,[]⟩:AnV)) (As M.s) (As M.p) (Ex _)<|Ex _) ?_
   refine Gm C<|A6 (d:=92) C (λae=>Z ?_)<|λae=>Z ?_
   ·refine Dn (B5 C C C) (Ad c_ C C<|Barett_ok (A:=Aw) ⟨(As M.s),(As M.p),(As M.o),(As M.n),(As M.q),M.b⟩) ?_
    rintro _ _ ⟨_,_,⟨rfl,rfl⟩,rfl,rfl⟩
    refine Z ?_
    refine Gc0 (Ad c_ C C<|Verdict_ok (t:=decide (bare2 Aw/\bare1 Aw)))<|Z ?_
    exact Ai C C I Ah ⟨if (decide<|bare2 Aw/\bare1 Aw)=true then 0 else 12,rfl,(ChkR.good ah (λh=>⟨⟨_,(chk_none (nd:=nd) (node:=node) (tq:=tq)<|.inr ⟨ad,ai⟩),(same_six ae).1,(same_six ae).2⟩,λ_=>(of_decide_eq_true h).1⟩)<|λhP=>decide_eq_true<|none_bare hH (.inr ⟨ad,ai⟩) hP),rfl⟩
   refine Gc0 (Ad c_ C C<|Verdict_ok (t:=false))<|Z ?_
   exact Ai C C I Ah ⟨if false=true then 0 else 12,rfl,(ChkR.good (t:=false) ah (λh=>by cases h)<|λhP=>absurd (AnsP.six hH a7 hP<|chk_none (nd:=nd) (node:=node) (tq:=tq)<|.inr ⟨ad,ai⟩) ae),rfl⟩
  have au:=ab
  have ao:a4=true:=by simpa using ap
  rw [ao] at au
  refine Z ?_
  refine G.e (Ad c_ C C<|At_ok (nd:=nd) (kd:=kd) (wd:=wd) (mo:=mo) (tq:=a1) (As hl) hH hlen<|by first|exact hQ.tim om|exact ax.1) ?_
  rintro _ _ ⟨_,_,⟨bf,be,rfl,rfl⟩,rfl,rfl⟩
  refine Z ?_
  refine Ge1 (Am ty56 C) λbn=>Ge0 (Ci ty56)<|Z ?_
  refine Av C (λaa=>?_)<|λaa=>Z ?_
  ·exact absurd rfl aa
  refine Av C (λaj=>?_)<|λaj=>Z ?_
  ·exfalso;omega
  refine G.e (Ad c_ C C<|RightA_ok (nd:=nd) (K:=K) (tq:=tq) (num:=num) (den:=den) (time:=a1) A7 (As hs) (M.fit Ah) (hH.graph _) h7 hE hQ om<|A5 hT Ah) ?_
  rintro _ _ ⟨_,_,⟨a3,rfl,av,rfl⟩,rfl,rfl⟩
  refine Gc0 (Ad c_ C C<|Verdict_ok (t:=a3))<|Z ?_
  exact Ai C C I Ah ⟨if a3=true then 0 else 12,rfl,(chk_right om ⟨λh=>by omega,λh=>by omega,λ_=>⟨au,rfl⟩⟩ ah av),rfl⟩
 refine G.e (Ad c_ C C<|At_ok (nd:=nd) (kd:=kd) (wd:=wd) (mo:=mo) (tq:=tq) (As hl) hH hlen<|by first|exact hQ.tim om|exact ax.1) ?_
 rintro _ _ ⟨_,_,⟨bi,bh,rfl,rfl⟩,rfl,rfl⟩
 refine Z ?_
 refine Ge1 (Am ty56 C) λbj=>Ge0 (Ci ty56)<|Z ?_
 refine Av C (λaa=>?_)<|λaa=>Z ?_
 ·exact absurd rfl aa
 refine Av C (λaj=>Z ?_)<|λaj=>?_
 ·refine G.e (Ad c_ C C<|RightA_ok (nd:=nd) (K:=K) (tq:=tq) (num:=num) (den:=den) (time:=0) A7 (As hs) (M.fit Ah) (hH.graph _) h7 hE hQ om<|A5 hT Ah) ?_
  rintro _ _ ⟨_,_,⟨a0,rfl,av,rfl⟩,rfl,rfl⟩
  refine Gc0 (Ad c_ C C<|Verdict_ok (t:=a0))<|Z ?_
  exact Ai C C I Ah ⟨if a0=true then 0 else 12,rfl,(chk_right om ⟨λ_=>⟨rfl,rfl⟩,λh=>absurd h an,λh=>absurd h ad⟩ ah av),rfl⟩
 exfalso;omega
end Go.Sl
namespace Go.Sl
open Go.Proofs
set_option maxRecDepth 4000
attribute [local irreducible] W G V D A Runs Eff
end Go.Sl
/- The densest set as the best of all sets, each once: the greatest set of the greatest density. No Go. No conditions. -/
namespace Go.Sl
end Go.Sl
namespace Go.Sl
open Go.Proofs
set_option maxRecDepth 4000
variable{nd:Int}{es:List Pt}
theorem edges_sq(M:GrOk nd es):es.length<=nd.toNat*nd.toNat:=by
 have hs:∀e∈es,e∈(List.range nd.toNat).flatMap fun (v:Nat)=>(List.range nd.toNat).map fun (u:Nat)=>(⟨(u:Int),(v:Int)⟩:Pt):=λe he=>by
  have h:=M.edge e he
  have hr:=M.rng
  refine List.mem_flatMap.2 ⟨e.v.toNat,List.mem_range.2 om,List.mem_map.2 ⟨e.u.toNat,List.mem_range.2 om,?_⟩⟩
  rw [E5]
  exact ⟨by show ((e.u.toNat:Nat):Int)=e.u;omega,by show ((e.v.toNat:Nat):Int)=e.v;omega⟩
 have hl:=List.Nodup.length_le_of_subset (asc_nodup M.asc) hs
 rw [flat_len _ nd.toNat (λv=>by rw [List.length_map,List.length_range])] at hl
 exact hl
theorem edges_7(M:GrOk nd es)(h7:nd<=7):es.length<=1000:=by
 have h1:=edges_sq M
 have h2:nd.toNat*nd.toNat<=7*7:=Nat.mul_le_mul om om
 omega
end Go.Sl
namespace Go.Sl
open Go.Proofs
set_option maxRecDepth 4000
attribute [local irreducible] W G V D A Runs Eff
structure AnB (A:AnV):Prop where
 num : -1000000<=A.num/\A.num<=1000000
 tm:0<=A.tm/\A.tm<=1048576
 E:0<=A.E/\A.E<=64
 nb:∀x∈A.N, -1000<=x/\x<=1000
 len:(A.N.length<=1000/\A.O.length<=1000)/\A.P.length<=1000/\A.Q.length<=2016
theorem clq_len{nd:Int}{es:List Pt}{X:List Int}(h:bestCl nd es X):X.length<=64:=by
 have M:=List.Nodup.length_le_of_subset h.clq.clq.nodup h.clq.sub
 have h2:=D7 (allB nd)
 omega
theorem zero_bnd{A:AnV}(h:A.zero):AnB A:=by
 obtain ⟨⟨_,h2,_,_,_,h6⟩,⟨h7,h8,h9,M⟩,aa⟩:=h
 exact ⟨by omega,by omega,by omega,(λx hx=>by rw [h8] at hx;cases hx),by rw [h8,h7,h6,M];simp⟩
section
variable {nd kd wd mo K node lv tq num den:Int}{es:List Ev}{S:List Int}{A:AnV}
theorem core_bnd{nd:Int}{es:List Pt}(M:GrOk nd es)(h7:nd<=7):(∀x∈coreN nd es, -1000<=x/\x<=1000)/\(coreN nd es).length<=1000/\(coreO nd es).length<=1000:=by
 have h1:=coreN_lenG M
 have h2:=coreO_len M
 refine ⟨λx hx=>?_,by omega,by omega⟩
 obtain ⟨i,hi,rfl⟩:=E6 hx
 have:=core_pos M (u:=(i:Int)) om om
 omega
theorem gr_bnd{es:List Pt}(hG:GrOk nd es)(h7:nd<=7)(hK:1<=K/\K<=7)(hn:K=1->0<=node/\node<nd)(ht:0<=A.tm/\A.tm<=1048576)(h:GrP nd es K node lv S A):AnB A:=by
 have aa:=edges_7 hG h7
 obtain ⟨c1,c2,c3⟩:=core_bnd hG h7
 rcases (show K=1\/K=2\/K=3\/K=4\/K=5\/K=6\/K=7 by omega) with e|e|e|e|e|e|e
 ·obtain ⟨⟨_,a2,_,_,_,a6⟩,a7,a8,a9,M⟩:=h.k1 e
  have hc:=coreN_lenG hG
  have:=c1 _ (Bv (i:=node) (hn e).1 (by have:=hn e;omega))
  exact ⟨by omega,ht,by omega,by rw [a8];exact c1,by rw [a8,a7,a6,M];exact ⟨⟨c2,c3⟩,by simp,by simp⟩⟩
 ·obtain ⟨⟨_,a2,_,_,_,a6⟩,a7,a8,a9,M⟩:=h.k2 e
  exact ⟨by omega,ht,by omega,by rw [a8];exact c1,by rw [a8,a7,a6,M];exact ⟨⟨c2,c3⟩,by simp,by simp⟩⟩
 ·obtain ⟨y,hE,_,_,_,a6,a9,M⟩:=h.k3 e
  have ae:=trussG_lenE hG
  have ad:=(trussG_E hG).olen
  have ab:(trisE nd es).length=es.length:=List.length_map ..
  have hb:∀x∈trussG nd es, -1000<=x/\x<=1000:=λx hx=>by
   obtain ⟨i,hi,rfl⟩:=E6 hx
   have:=trussG_pos hG (u:=(i:Int)) om om
   omega
  by_cases hy:y<0
  ·obtain ⟨b1,b2,b3⟩:=hE.none hy
   exact ⟨by omega,ht,by omega,(λx hx=>by rw [b2] at hx;cases hx),by rw [b2,b3,a6,M];simp⟩
  obtain ⟨b1,b2,b3⟩:=hE.some om
  have:=hb _ (Bv (i:=y) om<|find_lt hG hE.find)
  exact ⟨by omega,ht,by omega,by rw [b2];exact hb,by rw [b2,b3,a6,M];exact ⟨⟨by omega,by omega⟩,by simp,by simp⟩⟩
 ·obtain ⟨⟨_,a2,_,_,_,a6⟩,a7,a8,a9,M⟩:=h.k4 e
  exact ⟨by omega,ht,by omega,(λx hx=>by rw [a8] at hx;cases hx),by rw [a8,a7,a6,M];simp⟩
 ·obtain ⟨⟨B,h1,h2,h3⟩,_,a2,a6,a7,a8⟩:=h.k5 e
  obtain ⟨_,hF,hE,hP,hD,_⟩:=AccD.ok hG (S:=eo B) ⟨B,h1,h2,rfl⟩
  have hl:=hP.len
  exact ⟨by omega,ht,by omega,(λx hx=>by rw [a8] at hx;cases hx),by rw [a8,a7,a6,hl];exact ⟨by simp,by simp,by omega⟩⟩
 ·obtain ⟨hc,⟨_,a2,_,_,_,a6⟩,a7,a8,a9,M⟩:=h.k6 e
  have:=clq_len hc
  exact ⟨by omega,ht,by omega,(λx hx=>by rw [a8] at hx;cases hx),by rw [a8,a7,a6,M];simp⟩
 obtain ⟨⟨_,a2,_,_,_,a6⟩,a7,a8,a9,M⟩:=h.k7 e
 have:=triS_bd hG
 exact ⟨by omega,ht,by omega,(λx hx=>by rw [a8] at hx;cases hx),by rw [a8,a7,a6,M];simp⟩
theorem ans_bnd(hH:HistOk nd kd wd mo es)(hlen:es.length<=19)(h7:nd<=7)(hq:QV nd K node lv tq S num den)(h:AnsP nd kd wd mo es K node lv tq S num den A):AnB A:=by
 have hK:=hq.rng
 rcases (show K=8\/K=9\/K=10\/K<=7 by omega) with e|e|e|e
 ·obtain ⟨tv,ok,hF,h1,h2⟩:=h.k8 e
  have hr:=first_rng hH hF
  cases ok with
  |true=>exact gr_bnd (hH.graph _) h7 dc (λh=>absurd h dc) (by rw [(h1 rfl).2];exact hr.1) (h1 rfl).1
  |false=>exact zero_bnd (h2 rfl)
 ·obtain ⟨tv,ok,hF,h1,h2⟩:=h.k9 e
  have hr:=first_rng hH hF
  cases ok with
  |true=>
   obtain ⟨⟨_,a2,_,_,_,a6⟩,⟨a7,a8,a9,M⟩,aa⟩:=h1 rfl
   exact ⟨by omega,by rw [aa];exact hr.1,by omega,(λx hx=>by rw [a8] at hx;cases hx),by rw [a8,a7,a6,M];simp⟩
  |false=>exact zero_bnd (h2 rfl)
 ·obtain ⟨⟨_,a2,_,_,_,a6⟩,⟨a7,a8,a9,M⟩,aa⟩:=h.k10 e
  have hs:=spanK_len (N:=numT nd kd wd mo es node) (E:=allE kd wd mo es) (allE kd wd mo es).length (Nat.le_refl _)
  have hl:=allE_len hH hlen
  exact ⟨by omega,by omega,by omega,(λx hx=>by rw [a8] at hx;cases hx),by rw [a8,a7,a6,M];exact ⟨by simp,by omega,by simp⟩⟩
 exact gr_bnd (hH.graph _) h7 ⟨hK.1,e⟩ (λh=>hq.node<|by rw [h];rfl) (by rw [(h.g e).2];omega) (h.g e).1
end
end Go.Sl
namespace Go.Sl
open Go.Proofs
set_option maxRecDepth 4000
end Go.Sl
namespace Go.Sl
open Go.Proofs
set_option maxRecDepth 4000
attribute [local irreducible] W G V D A Runs Eff
abbrev ev45:Ev:=⟨1,1,0,1,1,0,1⟩
theorem hist_C:HistOk 2 1 0 0 [ev45]:=⟨⟨by decide,by decide,λj hj=>by
 obtain rfl:j=0:=by simp at hj;exact hj
 exact fitE_ok.1 dc,λj hj=>by
 obtain rfl:j=0:=by simp at hj;exact hj
 decide⟩,by decide⟩
theorem all_C:allE 1 0 0 [ev45]=[ev45]:=by unfold allE;rw [all_same];decide
theorem at_C:atG 1 0 0 [ev45] 2=[⟨0,1⟩]:=by unfold atG atK;rw [all_C];decide
theorem ask_C:askQ 2 1 0 0 [ev45] 1 0 0 2 [] 0 0=0:=by rw [askQ_ok hist_C];decide
theorem num_C{A:AnV}(h:AnsP 2 1 0 0 [ev45] 1 0 0 2 [] 0 0 A):A.num=1:=by
 obtain ⟨⟨_,a2,_⟩,_⟩:=(h.g dc).1.k1 rfl
 rw [at_C] at a2
 rw [a2]
 decide+kernel
section
variable {nd kd wd mo K node lv tq num den:Int}{es:List Ev}{S:List Int}{A B:AnV}
theorem ask_hist(e:askQ nd kd wd mo es K node lv tq S num den=0):HistOk nd kd wd mo es:=by
 by_cases h:slideE nd kd wd mo es=0
 ·exact hist_of h
 exact absurd (by unfold askQ at e;rw [if_pos h] at e;exact e) h
theorem ask_qv(e:askQ nd kd wd mo es K node lv tq S num den=0):QV nd K node lv tq S num den:=QV.of ((askQ_ok (ask_hist e)).symm.trans e)
theorem ask_bnd(hlen:es.length<=19)(M:nd<=7)(h:askQ nd kd wd mo es K node lv tq S num den=0->AnsP nd kd wd mo es K node lv tq S num den A)(hz:askQ nd kd wd mo es K node lv tq S num den≠0->A.zero):AnB A:=by
 by_cases e:askQ nd kd wd mo es K node lv tq S num den=0
 ·exact ans_bnd (ask_hist e) hlen M (ask_qv e)<|h e
 exact zero_bnd<|hz e
theorem chk_alike{c:Int}(h:ChkR nd kd wd mo es K node lv tq S num den B c)(e:askQ nd kd wd mo es K node lv tq S num den=0)(hc:c=0)(hA:AnsP nd kd wd mo es K node lv tq S num den A):alikeP A B:=by
 obtain ⟨W,hW,⟨b1,b2,b3,b4,M,b6⟩,ht⟩:=h.same e hc
 obtain ⟨a1,a2,a3,a4,a5,a6⟩:=hA.alike (ask_hist e) (ask_qv e).rng hW
 exact ⟨a1.trans b1.symm,a2.trans b2.symm,a3.trans ht.symm,(cmpL_eq _ _).2 (((cmpL_eq _ _).1 a4).trans b3.symm),a5.trans<|by rw [b4,M],a6.trans b6.symm⟩
end
theorem Awake45_ok{κ:Ctx}{I:List Item}(hT:TabRd κ I 0 tzCells):eu prog κ 7 [] I (λr J=>r = .bool true/\I=J):=by
 refine Ce0 Tryz.func7 C C<|Z ?_
 refine Ge1 (Ca (α:=Ev) (cs:=[e7 1,e7 1,e7 0,e7 1,e7 1,e7 0,e7 1]) (xs:=[⟨1,1,0,1,1,0,1⟩]) Bb ty63 C C dc dc C kr C C) λan=>Z ?_
 refine Ge1 (Am ty31 C) λb2=>Ge1 (Am ty36 C) λb3=>Ge0 (Es3_3 ty31) ?_
 refine Ge0 (Es7_7 ty36)<|Z ?_
 refine G.e (Ad c_ C C<|AskG_ok (nd:=2) (kd:=1) (wd:=0) (mo:=0) (es:=([⟨1,1,0,1,1,0,1⟩]:List Ev)) (K:=1) (node:=0) (lv:=0) (tq:=2) (num:=0) (den:=0) (S:=[]) A7 (Ex _) dc dc (λh=>absurd h dc)<|A5 hT Ah) ?_
 rintro _ _ ⟨_,_,⟨AV4,rfl,aa,ad,rfl⟩,rfl,rfl⟩
 refine Z ?_
 refine Ge1 (Am ty42 C) λb5=>Ge0 (A9 (cs:=[_,_,_,_,_,_,_,_,_,_,_]) (vs:=[_,_,_,_,_,_,_,_,_,_,_]) (cs':=[_,_,_,_,_,_,_,_,_,_,_]) ty42)<|Z ?_
 have ak:=num_C (aa ask_C)
 have M:=ask_bnd dc dc aa ad
 have ae:=M
 refine Z ?_
 refine Ge1 (Am ty42 C) λb6=>Ge0 (A9 (cs:=[_,_,_,_,_,_,_,_,_,_,_]) (vs:=[_,_,_,_,_,_,_,_,_,_,_]) (cs':=[_,_,_,_,_,_,_,_,_,_,_]) ty42)<|Z ?_
 refine Ge0 (A9 (cs:=[_,_,_,_,_,_,_,_,_,_,_]) (vs:=[_]) (cs':=[_,_,_,_,_,_,_,_,_,_,_]) ef)<|Z ?_
 refine A6 (d:=22) C (λah=>Z ?_)<|λah=>?_
 ·refine Dn (B5 C C C) (Ad c_ C C<|AudCheck_ok (nd:=2) (kd:=1) (wd:=0) (mo:=0) (es:=([⟨1,1,0,1,1,0,1⟩]:List Ev)) (K:=1) (node:=0) (lv:=0) (tq:=2) (num:=0) (den:=0) (S:=[]) (Aw:=AV4) A7 (Ex _) ⟨A7,A7,A7,A7,A7,(by have h9:=M.len;show (AV4.N).length+(AV4.O).length<=1000000;omega)⟩ dc dc (λh=>absurd h dc) (Int.le_trans ae.E.2 dc)<|A5 hT Ah) ?_
  rintro _ _ ⟨_,_,⟨ap,rfl,aj,rfl⟩,rfl,rfl⟩
  refine Z ?_
  refine A6 (d:=30) C (λai=>Z ?_)<|λai=>?_
  ·refine Dn (B5 C C C) (Ad c_ C C<|AudCheck_ok (nd:=2) (kd:=1) (wd:=0) (mo:=0) (es:=([⟨1,1,0,1,1,0,1⟩]:List Ev)) (K:=1) (node:=0) (lv:=0) (tq:=2) (num:=0) (den:=0) (S:=[]) (Aw:=(⟨AV4.fd,2,AV4.tm,AV4.sa,AV4.sc,AV4.S,AV4.dn,AV4.dd,AV4.pa,AV4.pc,AV4.P,AV4.oa,AV4.oc,AV4.O,AV4.na,AV4.nc,AV4.N,AV4.E,AV4.qa,AV4.qc,AV4.Q⟩:AnV)) A7 (Ex _) ⟨A7,A7,A7,A7,A7,(by have h9:=M.len;show (AV4.N).length+(AV4.O).length<=1000000;omega)⟩ dc dc (λh=>absurd h dc) (Int.le_trans ae.E.2 dc)<|A5 hT Ah) ?_
   rintro _ _ ⟨_,_,⟨ao,rfl,ab,rfl⟩,rfl,rfl⟩
   refine Z ?_
   exact Ai C C I Ah ⟨by rw [decide_eq_true ((ab.two ask_C).resolve_left λh=>by obtain ⟨W,hW,h6,_⟩:=ab.same ask_C h;have h1:=num_C hW;have h2:(2:Int)=W.num:=h6.2.1;omega)],rfl⟩
  exact absurd (aj.acc ask_C<|aa ask_C) ai
 exact absurd ask_C ah
end Go.Sl
namespace Go.Sl
open Go.Proofs
set_option maxRecDepth 4000
attribute [local irreducible] W G V D A Runs Eff
end Go.Sl
namespace Go.Sl
open Go.Proofs
set_option maxRecDepth 4000
structure QyV where
 K:Int
 no:Int
 lv:Int
 t:Int
 a:Option Addr
 c:Nat
 xs:List Int
 num:Int
 den:Int
instance:Inhabited QyV:=⟨⟨0,0,0,0,none,0,[],0,0⟩⟩
instance:Enc QyV:=⟨λr=>[e7 r.K,e7 r.no,e7 r.lv,e7 r.t,.slice r.a r.xs.length r.c,e7 r.num,e7 r.den],7,by omega,λ_=>rfl,λr u hu=>by
 simp only [List.mem_cons,List.not_mem_nil,or_false] at hu
 rcases hu with rfl|rfl|rfl|rfl|rfl|rfl|rfl<;>rfl⟩
instance:Inhabited AnV:=⟨(⟨false,0,0,none,0,[],0,0,none,0,[],none,0,[],none,0,[],0,none,0,[]⟩:AnV)⟩
instance:Enc AnV:=⟨λA=>[.bool (A.fd),e7 (A.num),e7 (A.tm),.slice A.sa A.S.length A.sc,e7 (A.dn),e7 (A.dd),.slice A.pa A.P.length A.pc,.slice A.oa A.O.length A.oc,.slice A.na A.N.length A.nc,e7 (A.E),.slice A.qa A.Q.length A.qc],11,by omega,λ_=>rfl,λr u hu=>by
 simp only [List.mem_cons,List.not_mem_nil,or_false] at hu
 rcases hu with rfl|rfl|rfl|rfl|rfl|rfl|rfl|rfl|rfl|rfl|rfl<;>rfl⟩
def five(K:Int):Prop:=K=1\/K=5\/K=6\/K=7\/K=10
section
variable {nd kd wd mo K node lv tq num den c m0 t n1 n2:Int}{es:List Ev}{S:List Int}{A B:AnV}
theorem five_check(h:five K)(hn:nodeF K=true->0<=node/\node<nd)(h0:nodeF K=false->node=0)(ht:timeF K=true->0<=tq/\tq<=1048576)(M:timeF K=false->tq=0):checkQ nd K node 0 tq [] 0 0=0:=by
 unfold checkQ bad4 bad6 bad8 bad10
 rcases h with rfl|rfl|rfl|rfl|rfl
 all_goals simp [noneF,nodeF,setF,levelF,timeF,densF] at *
 all_goals omega
theorem five_at(h:0<=m0/\m0<5)(h1:0<=n1/\n1<nd)(h2:0<=n2/\n2<nd)(M:0<=t/\t<=1048576):∃K no tq,e_ ([⟨1,n1,0,t,none,0,[],0,0⟩,⟨5,0,0,t,none,0,[],0,0⟩,⟨6,0,0,t,none,0,[],0,0⟩,⟨7,0,0,t,none,0,[],0,0⟩,⟨10,n2,0,0,none,0,[],0,0⟩]:List QyV) m0=⟨K,no,0,tq,none,0,[],0,0⟩/\five K/\checkQ nd K no 0 tq [] 0 0=0:=by
 obtain e|e|e|e|e:m0=0\/m0=1\/m0=2\/m0=3\/m0=4:=by omega
 all_goals subst e
 ·exact ⟨1,n1,t,rfl,.inl rfl,five_check (.inl rfl) (λ_=>h1) (λh=>absurd h dc) (λ_=>M)<|λh=>absurd h dc⟩
 ·exact ⟨5,0,t,rfl,.inr<|.inl rfl,five_check (.inr<|.inl rfl) (λh=>absurd h dc) (λ_=>rfl) (λ_=>M)<|λh=>absurd h dc⟩
 ·exact ⟨6,0,t,rfl,.inr<|.inr<|.inl rfl,five_check (.inr<|.inr<|.inl rfl) (λh=>absurd h dc) (λ_=>rfl) (λ_=>M)<|λh=>absurd h dc⟩
 ·exact ⟨7,0,t,rfl,.inr<|.inr<|.inr<|.inl rfl,five_check (.inr<|.inr<|.inr<|.inl rfl) (λh=>absurd h dc) (λ_=>rfl) (λ_=>M)<|λh=>absurd h dc⟩
 exact ⟨10,n2,0,rfl,.inr<|.inr<|.inr<|.inr rfl,five_check (.inr<|.inr<|.inr<|.inr rfl) (λ_=>h2) (λh=>absurd h dc) (λh=>absurd h dc)<|λ_=>rfl⟩
theorem five_dens(h:five K):densF K=true->FrV ⟨num,den⟩:=λe=>by rcases h with rfl|rfl|rfl|rfl|rfl<;>exact absurd e dc
theorem five_fd(h:five K)(M:AnsP nd kd wd mo es K node lv tq S num den A):A.fd=true:=by
 rcases h with rfl|rfl|rfl|rfl|rfl
 ·exact ((M.g dc).1.k1 rfl).1.1
 ·exact ((M.g dc).1.k5 rfl).2.1
 ·exact ((M.g dc).1.k6 rfl).2.1.1
 ·exact ((M.g dc).1.k7 rfl).1.1
 exact (M.k10 rfl).1.1
theorem five_more(h:five K)(hH:HistOk nd kd wd mo es)(hA:AnsP nd kd wd mo es K node lv tq S num den A):(0<=A.dn/\A.dn<=2016)/\A.S.length<=64:=by
 rcases h with rfl|rfl|rfl|rfl|rfl
 ·obtain ⟨⟨_,_,a3,M,_,_⟩,_⟩:=(hA.g dc).1.k1 rfl
  rw [a3,M];decide
 ·obtain ⟨⟨B,b1,_,b3⟩,_⟩:=(hA.g dc).1.k5 rfl
  have:=(best_dens (hH.graph _) b1).2.2.2.2
  have h2:=D7 B
  rw [b3];exact ⟨this,h2⟩
 ·obtain ⟨hb,⟨_,_,_,M,_,_⟩,_⟩:=(hA.g dc).1.k6 rfl
  rw [M];exact ⟨by decide,clq_len hb⟩
 ·obtain ⟨⟨_,_,a3,M,_,_⟩,_⟩:=(hA.g dc).1.k7 rfl
  rw [a3,M];decide
 obtain ⟨⟨_,_,a3,M,_,_⟩,_⟩:=hA.k10 rfl
 rw [a3,M];decide
theorem chk_no(h:ChkR nd kd wd mo es K node lv tq S num den B c)(e:askQ nd kd wd mo es K node lv tq S num den=0)(hA:AnsP nd kd wd mo es K node lv tq S num den A)(hn:¬alikeP A B):c=12:=(h.two e).resolve_left λM=>hn (chk_alike h e M hA)
theorem chk_bare(h:ChkR nd kd wd mo es K node lv tq S num den B c)(e:askQ nd kd wd mo es K node lv tq S num den=0)(M:4<=K)(hO:0<B.O.length):c=12:=(h.two e).resolve_left λhc=>by have:=(h.bare e hc M).2;omega
theorem no_app{xs:List Int}{n:Int}:¬cmpL xs (xs++[n])=0:=λh=>by
 have:=congrArg List.length ((cmpL_eq _ _).1 h)
 simp at this
end
end Go.Sl
