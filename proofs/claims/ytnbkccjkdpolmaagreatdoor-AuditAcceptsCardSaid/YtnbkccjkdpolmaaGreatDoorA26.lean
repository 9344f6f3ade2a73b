/- A part of the proofs of statements of this seat: contracts of functions, and the plain laws that they lean on. No conditions. -/
import Derived.Test.YtnbkccjkdpolmaaGreatDoorA25
set_option linter.unusedVariables false
set_option linter.unusedSimpArgs false
set_option linter.unusedSectionVars false
open Go.Proofs.Tryz (prog)
set_option maxHeartbeats 4000000
namespace Go.Sl
open Go.Proofs
set_option maxRecDepth 4000
variable{i n time tv:Int}{ea sa:Option Addr}{b ec sc:Nat}{Aw B W:AnV}{t:Bool}{ls:List Int}
attribute [local irreducible] W G V D A Runs Eff
theorem Right_nodes{κ:Ctx}{I:List Item}{nd K node lv tq num den:Int}{es:List Pt}{S:List Int}{Wp:Bool->Int->List Int->Int->Int->Prop}(hl:Sl κ I (.slice ea es.length ec) es)(hA:HdA κ I Aw)(hG:GrOk nd es)(hw:∀J,Fit κ J I->eu prog κ 84 [.agg #[e7 (nd),.slice ea es.length ec],.agg #[e7 (K),e7 (node),e7 (lv),e7 (tq),.slice sa S.length sc,e7 (num),e7 (den)],.agg #[.bool (Aw.fd),e7 (Aw.num),e7 (Aw.tm),.slice Aw.sa Aw.S.length Aw.sc,e7 (Aw.dn),e7 (Aw.dd),.slice Aw.pa Aw.P.length Aw.pc,.slice Aw.oa Aw.O.length Aw.oc,.slice Aw.na Aw.N.length Aw.nc,e7 (Aw.E),.slice Aw.qa Aw.Q.length Aw.qc]] J (λr J'=>∃(wf:Bool) (wn:Int) (wa:Option Addr) (ws:List Int) (wc:Nat) (aa M:Int),r = .tuple #[.agg #[.bool wf,e7 wn,e7 0,.slice wa (ws:List Int).length wc,e7 aa,e7 M,.slice none 0 0,.slice none 0 0,.slice none 0 0,e7 0,.slice none 0 0],.iface 180 (.agg #[.slice Aw.na Aw.N.length Aw.nc,.slice Aw.oa Aw.O.length Aw.oc]),.bool (decide (bare1 Aw))]/\Wp wf wn ws aa M/\J'=vc 3 (.slice wa ws.length wc) ws::J))(hT:TabRd κ I 0 tzCells):eu prog κ 38 [.agg #[e7 nd,.slice ea es.length ec],.agg #[e7 K,e7 node,e7 lv,e7 tq,.slice sa S.length sc,e7 num,e7 den],.agg #[.bool (Aw.fd),e7 (Aw.num),e7 (Aw.tm),.slice Aw.sa Aw.S.length Aw.sc,e7 (Aw.dn),e7 (Aw.dd),.slice Aw.pa Aw.P.length Aw.pc,.slice Aw.oa Aw.O.length Aw.oc,.slice Aw.na Aw.N.length Aw.nc,e7 (Aw.E),.slice Aw.qa Aw.Q.length Aw.qc],e7 time] I (λr J=>∃t:Bool,r = .bool t/\(t=true->(∃wf wn ws aa M,Wp wf wn ws aa M/\Aw.is wf wn ws aa M [])/\Aw.tm=time/\(bare1 Aw))/\((∀wf wn ws aa M,Wp wf wn ws aa M->Aw.is wf wn ws aa M [])->Aw.tm=time->(bare1 Aw)->CoreE nd es Aw.N Aw.O->t=true)/\I=J):=by
 refine Ce4 Tryz.func38 C C ?_
 refine Ar<|Ge1 (Al (cs:=[_,_]) C C C) λb1=>Ge1 (Al (cs:=[_,_,_,_,_,_,_]) C C C) λb2=>Ge1 (Al (cs:=[_,_,_,_,_,_,_,_,_,_,_]) C C C) λb3=>Z ?_
 refine G.e (Ac c_ C C<|hw _ Ah) ?_
 rintro _ _ ⟨_,_,⟨wf,wn,wa,ws,wc,aa,M,rfl,ae,rfl⟩,rfl,rfl⟩
 refine Z ?_
 refine Ge1 (Am ty42 C) λb4=>Ge0 (A3 (cs:=[_,_,_,_,_,_,_,_,_,_,_]) (vs:=[_,_,_,_,_,_,_,_,_,_,_]) (cs':=[_,_,_,_,_,_,_,_,_,_,_]) ty42)<|Z ?_
 refine Ge0 (A3 (cs:=[_,_,_,_,_,_,_,_,_,_,_]) (vs:=[_]) (cs':=[_,_,_,_,_,_,_,_,_,_,_]) ef)<|Z ?_
 refine A6 (d:=23) C (λad=>Z ?_)<|λad=>Z ?_
 ·refine Dn (B7 C C C) (Ac c_ C C<|Same45_ok (A:=Aw) (B:=(⟨wf,wn,time,wa,wc,ws,aa,M,none,0,[],none,0,[],none,0,[],0,none,0,[]⟩:AnV)) (Au hA.s) (Au hA.p) A7<|Fl _) ?_
  rintro _ _ ⟨_,_,⟨rfl,rfl⟩,rfl,rfl⟩
  refine Z ?_
  refine A6 (d:=28) C (λab=>Z ?_)<|λab=>Z ?_
  ·refine Dn (B7 C C C) (Eff.invoke c_ C (λw=>by kernel_rfl) C C<|Prove_nodes (nd:=nd) (Au hl) (Au hA.n) (Au hA.o) hG<|A8 hT Ah) ?_
   rintro _ _ ⟨_,_,⟨ah,rfl,ai,rfl⟩,rfl,rfl⟩
   refine Z ?_
   exact Ai C C I Ah ⟨ah,rfl,(λ_=>⟨⟨wf,wn,ws,aa,M,ae,(same_is ab).1⟩,(same_is ab).2,ad⟩),(λ_ _ _ hE=>ai hE),rfl⟩
  exact Ai C C I Ah ⟨false,rfl,(λh=>by cases h),(λh1 h2 h3 _=>by first|exact absurd (is_same (h1 _ _ _ _ _ ae) h2) ab|exact absurd h3 ad),rfl⟩
 exact Ai C C I Ah ⟨false,rfl,(λh=>by cases h),(λh1 h2 h3 _=>by first|exact absurd (is_same (h1 _ _ _ _ _ ae) h2) ab|exact absurd h3 ad),rfl⟩
theorem Right_edges{κ:Ctx}{I:List Item}{nd K node lv tq num den:Int}{es:List Pt}{S:List Int}{Wp:Bool->Int->List Int->Int->Int->Prop}(hl:Sl κ I (.slice ea es.length ec) es)(hA:HdA κ I Aw)(hG:GrOk nd es)(hw:∀J,Fit κ J I->eu prog κ 84 [.agg #[e7 (nd),.slice ea es.length ec],.agg #[e7 (K),e7 (node),e7 (lv),e7 (tq),.slice sa S.length sc,e7 (num),e7 (den)],.agg #[.bool (Aw.fd),e7 (Aw.num),e7 (Aw.tm),.slice Aw.sa Aw.S.length Aw.sc,e7 (Aw.dn),e7 (Aw.dd),.slice Aw.pa Aw.P.length Aw.pc,.slice Aw.oa Aw.O.length Aw.oc,.slice Aw.na Aw.N.length Aw.nc,e7 (Aw.E),.slice Aw.qa Aw.Q.length Aw.qc]] J (λr J'=>∃(wf:Bool) (wn:Int) (wa:Option Addr) (ws:List Int) (wc:Nat) (aa M:Int),r = .tuple #[.agg #[.bool wf,e7 wn,e7 0,.slice wa (ws:List Int).length wc,e7 aa,e7 M,.slice none 0 0,.slice none 0 0,.slice none 0 0,e7 0,.slice none 0 0],.iface 181 (.agg #[.slice Aw.na Aw.N.length Aw.nc,.slice Aw.oa Aw.O.length Aw.oc]),.bool (decide (bare1 Aw))]/\Wp wf wn ws aa M/\J'=vc 3 (.slice wa ws.length wc) ws::J))(hT:TabRd κ I 0 tzCells):eu prog κ 38 [.agg #[e7 nd,.slice ea es.length ec],.agg #[e7 K,e7 node,e7 lv,e7 tq,.slice sa S.length sc,e7 num,e7 den],.agg #[.bool (Aw.fd),e7 (Aw.num),e7 (Aw.tm),.slice Aw.sa Aw.S.length Aw.sc,e7 (Aw.dn),e7 (Aw.dd),.slice Aw.pa Aw.P.length Aw.pc,.slice Aw.oa Aw.O.length Aw.oc,.slice Aw.na Aw.N.length Aw.nc,e7 (Aw.E),.slice Aw.qa Aw.Q.length Aw.qc],e7 time] I (λr J=>∃t:Bool,r = .bool t/\(t=true->(∃wf wn ws aa M,Wp wf wn ws aa M/\Aw.is wf wn ws aa M [])/\Aw.tm=time/\(bare1 Aw))/\((∀wf wn ws aa M,Wp wf wn ws aa M->Aw.is wf wn ws aa M [])->Aw.tm=time->(bare1 Aw)->TrussE (trisE nd es) Aw.N Aw.O->t=true)/\I=J):=by
 refine Ce4 Tryz.func38 C C ?_
 refine Ar<|Ge1 (Al (cs:=[_,_]) C C C) λb1=>Ge1 (Al (cs:=[_,_,_,_,_,_,_]) C C C) λb2=>Ge1 (Al (cs:=[_,_,_,_,_,_,_,_,_,_,_]) C C C) λb3=>Z ?_
 refine G.e (Ac c_ C C<|hw _ Ah) ?_
 rintro _ _ ⟨_,_,⟨wf,wn,wa,ws,wc,aa,M,rfl,ae,rfl⟩,rfl,rfl⟩
 refine Z ?_
 refine Ge1 (Am ty42 C) λb4=>Ge0 (A3 (cs:=[_,_,_,_,_,_,_,_,_,_,_]) (vs:=[_,_,_,_,_,_,_,_,_,_,_]) (cs':=[_,_,_,_,_,_,_,_,_,_,_]) ty42)<|Z ?_
 refine Ge0 (A3 (cs:=[_,_,_,_,_,_,_,_,_,_,_]) (vs:=[_]) (cs':=[_,_,_,_,_,_,_,_,_,_,_]) ef)<|Z ?_
 refine A6 (d:=23) C (λad=>Z ?_)<|λad=>Z ?_
 ·refine Dn (B7 C C C) (Ac c_ C C<|Same45_ok (A:=Aw) (B:=(⟨wf,wn,time,wa,wc,ws,aa,M,none,0,[],none,0,[],none,0,[],0,none,0,[]⟩:AnV)) (Au hA.s) (Au hA.p) A7<|Fl _) ?_
  rintro _ _ ⟨_,_,⟨rfl,rfl⟩,rfl,rfl⟩
  refine Z ?_
  refine A6 (d:=28) C (λab=>Z ?_)<|λab=>Z ?_
  ·refine Dn (B7 C C C) (Eff.invoke c_ C (λw=>by kernel_rfl) C C<|Prove_edges (nd:=nd) (Au hl) (Au hA.n) (Au hA.o) hG<|A8 hT Ah) ?_
   rintro _ _ ⟨_,_,⟨ah,rfl,ai,rfl⟩,rfl,rfl⟩
   refine Z ?_
   exact Ai C C I Ah ⟨ah,rfl,(λ_=>⟨⟨wf,wn,ws,aa,M,ae,(same_is ab).1⟩,(same_is ab).2,ad⟩),(λ_ _ _ hE=>ai hE),rfl⟩
  exact Ai C C I Ah ⟨false,rfl,(λh=>by cases h),(λh1 h2 h3 _=>by first|exact absurd (is_same (h1 _ _ _ _ _ ae) h2) ab|exact absurd h3 ad),rfl⟩
 exact Ai C C I Ah ⟨false,rfl,(λh=>by cases h),(λh1 h2 h3 _=>by first|exact absurd (is_same (h1 _ _ _ _ _ ae) h2) ab|exact absurd h3 ad),rfl⟩
theorem Right_split{κ:Ctx}{I:List Item}{nd K node lv tq num den:Int}{es:List Pt}{S:List Int}{Wp:Bool->Int->List Int->Int->Int->Prop}(hl:Sl κ I (.slice ea es.length ec) es)(hA:HdA κ I Aw)(hG:GrOk nd es)(hE:Aw.E<=1000)(hw:∀J,Fit κ J I->eu prog κ 84 [.agg #[e7 (nd),.slice ea es.length ec],.agg #[e7 (K),e7 (node),e7 (lv),e7 (tq),.slice sa S.length sc,e7 (num),e7 (den)],.agg #[.bool (Aw.fd),e7 (Aw.num),e7 (Aw.tm),.slice Aw.sa Aw.S.length Aw.sc,e7 (Aw.dn),e7 (Aw.dd),.slice Aw.pa Aw.P.length Aw.pc,.slice Aw.oa Aw.O.length Aw.oc,.slice Aw.na Aw.N.length Aw.nc,e7 (Aw.E),.slice Aw.qa Aw.Q.length Aw.qc]] J (λr J'=>∃(wf:Bool) (wn:Int) (wa:Option Addr) (ws:List Int) (wc:Nat) (aa M:Int),r = .tuple #[.agg #[.bool wf,e7 wn,e7 0,.slice wa (ws:List Int).length wc,e7 aa,e7 M,.slice none 0 0,.slice none 0 0,.slice none 0 0,e7 0,.slice none 0 0],.iface 183 (.agg #[.slice Aw.sa Aw.S.length Aw.sc,e7 Aw.dn,e7 Aw.dd,e7 Aw.E,.slice Aw.qa Aw.Q.length Aw.qc]),.bool (decide (bare2 Aw))]/\Wp wf wn ws aa M/\J'=vc 3 (.slice wa ws.length wc) ws::J))(hT:TabRd κ I 0 tzCells):eu prog κ 38 [.agg #[e7 nd,.slice ea es.length ec],.agg #[e7 K,e7 node,e7 lv,e7 tq,.slice sa S.length sc,e7 num,e7 den],.agg #[.bool (Aw.fd),e7 (Aw.num),e7 (Aw.tm),.slice Aw.sa Aw.S.length Aw.sc,e7 (Aw.dn),e7 (Aw.dd),.slice Aw.pa Aw.P.length Aw.pc,.slice Aw.oa Aw.O.length Aw.oc,.slice Aw.na Aw.N.length Aw.nc,e7 (Aw.E),.slice Aw.qa Aw.Q.length Aw.qc],e7 time] I (λr J=>∃t:Bool,r = .bool t/\(t=true->(∃wf wn ws aa M,Wp wf wn ws aa M/\Aw.is wf wn ws aa M [])/\Aw.tm=time/\(bare2 Aw))/\((∀wf wn ws aa M,Wp wf wn ws aa M->Aw.is wf wn ws aa M [])->Aw.tm=time->(bare2 Aw)->AccD nd es Aw.S Aw.dn Aw.dd Aw.E Aw.Q->t=true)/\I=J):=by
 refine Ce4 Tryz.func38 C C ?_
 refine Ar<|Ge1 (Al (cs:=[_,_]) C C C) λb1=>Ge1 (Al (cs:=[_,_,_,_,_,_,_]) C C C) λb2=>Ge1 (Al (cs:=[_,_,_,_,_,_,_,_,_,_,_]) C C C) λb3=>Z ?_
 refine G.e (Ac c_ C C<|hw _ Ah) ?_
 rintro _ _ ⟨_,_,⟨wf,wn,wa,ws,wc,aa,M,rfl,ae,rfl⟩,rfl,rfl⟩
 refine Z ?_
 refine Ge1 (Am ty42 C) λb4=>Ge0 (A3 (cs:=[_,_,_,_,_,_,_,_,_,_,_]) (vs:=[_,_,_,_,_,_,_,_,_,_,_]) (cs':=[_,_,_,_,_,_,_,_,_,_,_]) ty42)<|Z ?_
 refine Ge0 (A3 (cs:=[_,_,_,_,_,_,_,_,_,_,_]) (vs:=[_]) (cs':=[_,_,_,_,_,_,_,_,_,_,_]) ef)<|Z ?_
 refine A6 (d:=23) C (λad=>Z ?_)<|λad=>Z ?_
 ·refine Dn (B7 C C C) (Ac c_ C C<|Same45_ok (A:=Aw) (B:=(⟨wf,wn,time,wa,wc,ws,aa,M,none,0,[],none,0,[],none,0,[],0,none,0,[]⟩:AnV)) (Au hA.s) (Au hA.p) A7<|Fl _) ?_
  rintro _ _ ⟨_,_,⟨rfl,rfl⟩,rfl,rfl⟩
  refine Z ?_
  refine A6 (d:=28) C (λab=>Z ?_)<|λab=>Z ?_
  ·refine Dn (B7 C C C) (Eff.invoke c_ C (λw=>by kernel_rfl) C C<|Prove_split (nd:=nd) (dn:=Aw.dn) (dd:=Aw.dd) (E:=Aw.E) (Au hl) (Au hA.s) (Au hA.q) hG hE) ?_
   rintro _ _ ⟨_,_,⟨ah,rfl,ai,rfl⟩,rfl,rfl⟩
   refine Z ?_
   exact Ai C C I Ah ⟨ah,rfl,(λ_=>⟨⟨wf,wn,ws,aa,M,ae,(same_is ab).1⟩,(same_is ab).2,ad⟩),(λ_ _ _ hE=>ai hE),rfl⟩
  exact Ai C C I Ah ⟨false,rfl,(λh=>by cases h),(λh1 h2 h3 _=>by first|exact absurd (is_same (h1 _ _ _ _ _ ae) h2) ab|exact absurd h3 ad),rfl⟩
 exact Ai C C I Ah ⟨false,rfl,(λh=>by cases h),(λh1 h2 h3 _=>by first|exact absurd (is_same (h1 _ _ _ _ _ ae) h2) ab|exact absurd h3 ad),rfl⟩
theorem Right_nothing{κ:Ctx}{I:List Item}{nd K node lv tq num den:Int}{es:List Pt}{S:List Int}{Wp:Bool->Int->List Int->Int->Int->Prop}(hl:Sl κ I (.slice ea es.length ec) es)(hA:HdA κ I Aw)(hG:GrOk nd es)(hw:∀J,Fit κ J I->eu prog κ 84 [.agg #[e7 (nd),.slice ea es.length ec],.agg #[e7 (K),e7 (node),e7 (lv),e7 (tq),.slice sa S.length sc,e7 (num),e7 (den)],.agg #[.bool (Aw.fd),e7 (Aw.num),e7 (Aw.tm),.slice Aw.sa Aw.S.length Aw.sc,e7 (Aw.dn),e7 (Aw.dd),.slice Aw.pa Aw.P.length Aw.pc,.slice Aw.oa Aw.O.length Aw.oc,.slice Aw.na Aw.N.length Aw.nc,e7 (Aw.E),.slice Aw.qa Aw.Q.length Aw.qc]] J (λr J'=>∃(wf:Bool) (wn:Int) (wa:Option Addr) (ws:List Int) (wc:Nat) (aa M:Int),r = .tuple #[.agg #[.bool wf,e7 wn,e7 0,.slice wa (ws:List Int).length wc,e7 aa,e7 M,.slice none 0 0,.slice none 0 0,.slice none 0 0,e7 0,.slice none 0 0],.iface 185 (.agg #[]),.bool (decide (bare2 Aw/\bare1 Aw))]/\Wp wf wn ws aa M/\J'=vc 3 (.slice wa ws.length wc) ws::J))(hT:TabRd κ I 0 tzCells):eu prog κ 38 [.agg #[e7 nd,.slice ea es.length ec],.agg #[e7 K,e7 node,e7 lv,e7 tq,.slice sa S.length sc,e7 num,e7 den],.agg #[.bool (Aw.fd),e7 (Aw.num),e7 (Aw.tm),.slice Aw.sa Aw.S.length Aw.sc,e7 (Aw.dn),e7 (Aw.dd),.slice Aw.pa Aw.P.length Aw.pc,.slice Aw.oa Aw.O.length Aw.oc,.slice Aw.na Aw.N.length Aw.nc,e7 (Aw.E),.slice Aw.qa Aw.Q.length Aw.qc],e7 time] I (λr J=>∃t:Bool,r = .bool t/\(t=true->(∃wf wn ws aa M,Wp wf wn ws aa M/\Aw.is wf wn ws aa M [])/\Aw.tm=time/\(bare2 Aw/\bare1 Aw))/\((∀wf wn ws aa M,Wp wf wn ws aa M->Aw.is wf wn ws aa M [])->Aw.tm=time->(bare2 Aw/\bare1 Aw)->True->t=true)/\I=J):=by
 refine Ce4 Tryz.func38 C C ?_
 refine Ar<|Ge1 (Al (cs:=[_,_]) C C C) λb1=>Ge1 (Al (cs:=[_,_,_,_,_,_,_]) C C C) λb2=>Ge1 (Al (cs:=[_,_,_,_,_,_,_,_,_,_,_]) C C C) λb3=>Z ?_
 refine G.e (Ac c_ C C<|hw _ Ah) ?_
 rintro _ _ ⟨_,_,⟨wf,wn,wa,ws,wc,aa,M,rfl,ae,rfl⟩,rfl,rfl⟩
 refine Z ?_
 refine Ge1 (Am ty42 C) λb4=>Ge0 (A3 (cs:=[_,_,_,_,_,_,_,_,_,_,_]) (vs:=[_,_,_,_,_,_,_,_,_,_,_]) (cs':=[_,_,_,_,_,_,_,_,_,_,_]) ty42)<|Z ?_
 refine Ge0 (A3 (cs:=[_,_,_,_,_,_,_,_,_,_,_]) (vs:=[_]) (cs':=[_,_,_,_,_,_,_,_,_,_,_]) ef)<|Z ?_
 refine A6 (d:=23) C (λad=>Z ?_)<|λad=>Z ?_
 ·refine Dn (B7 C C C) (Ac c_ C C<|Same45_ok (A:=Aw) (B:=(⟨wf,wn,time,wa,wc,ws,aa,M,none,0,[],none,0,[],none,0,[],0,none,0,[]⟩:AnV)) (Au hA.s) (Au hA.p) A7<|Fl _) ?_
  rintro _ _ ⟨_,_,⟨rfl,rfl⟩,rfl,rfl⟩
  refine Z ?_
  refine A6 (d:=28) C (λab=>Z ?_)<|λab=>Z ?_
  ·refine Dn (B7 C C C) (Eff.invoke c_ C (λw=>by kernel_rfl) C C<|Prove_nothing (nd:=nd) (va:= .slice ea es.length ec)) ?_
   rintro _ _ ⟨_,_,⟨ah,rfl,ai,rfl⟩,rfl,rfl⟩
   refine Z ?_
   exact Ai C C I Ah ⟨ah,rfl,(λ_=>⟨⟨wf,wn,ws,aa,M,ae,(same_is ab).1⟩,(same_is ab).2,ad⟩),(λ_ _ _ hE=>ai hE),rfl⟩
  exact Ai C C I Ah ⟨false,rfl,(λh=>by cases h),(λh1 h2 h3 _=>by first|exact absurd (is_same (h1 _ _ _ _ _ ae) h2) ab|exact absurd h3 ad),rfl⟩
 exact Ai C C I Ah ⟨false,rfl,(λh=>by cases h),(λh1 h2 h3 _=>by first|exact absurd (is_same (h1 _ _ _ _ _ ae) h2) ab|exact absurd h3 ad),rfl⟩
theorem six_is{A:AnV}{wf:Bool}{wn aa M:Int}{ws:List Int}(h:same6 A W)(hW:W.is wf wn ws aa M []):A.is wf wn ws aa M []:=by
 obtain ⟨a1,a2,a3,a4,a5,a6⟩:=h
 obtain ⟨b1,b2,b3,b4,b5,b6⟩:=hW
 exact ⟨a1.trans b1,a2.trans b2,a3.trans b3,a4.trans b4,a5.trans b5,a6.trans b6⟩
theorem GrX.same{nd:Int}{es:List Pt}{K node lv:Int}{S:List Int}{A:AnV}(M:GrOk nd es)(hK:1<=K/\K<=9)(a:GrX nd es K node lv S A)(b:GrX nd es K node lv S B):same6 A B:=by
 rcases (show K=8\/K=9\/K<=7 by omega) with e|e|e
 ·exact (a.1 e).same M dc (b.1 e)
 ·exact is_eq (a.2.1 e).1 (b.2.1 e).1
 exact (a.2.2 e).same M ⟨hK.1,e⟩ (b.2.2 e)
def RightR(nd:Int)(es:List Pt)(K node lv:Int)(S:List Int)(A:AnV)(time:Int)(t:Bool):Prop:=(t=true->(∃W,GrX nd es K node lv S W/\same6 A W)/\A.tm=time/\(4<=K->bare2 A))/\(GrX nd es K node lv S A->A.tm=time->t=true)
theorem right_conv{κ:Ctx}{f:FuncId}{ab:List Value}{I:List Item}{nd K node lv:Int}{es:List Pt}{S:List Int}{A:AnV}{bp ev:Prop}(hG:GrOk nd es)(hK:1<=K/\K<=9)(hb:bp->4<=K->bare2 A)(he:GrX nd es K node lv S A->bp/\ev)
  (h:eu prog κ f ab I λr J=>∃t:Bool,r = .bool t/\(t=true->(∃wf wn ws aa M,WantR nd es K node lv S wf wn ws aa M/\A.is wf wn ws aa M [])/\A.tm=time/\bp)/\((∀wf wn ws aa M,WantR nd es K node lv S wf wn ws aa M->A.is wf wn ws aa M [])->A.tm=time->bp->ev->t=true)/\I=J):eu prog κ f ab I λr J=>∃t:Bool,r = .bool t/\RightR nd es K node lv S A time t/\I=J:=
 h.mono λr J ⟨t,h1,h2,h3,h4⟩=>⟨t,h1,⟨λht=>by
  obtain ⟨⟨wf,wn,ws,aa,M,⟨W,hW,hi⟩,hA⟩,ad,ae⟩:=h2 ht
  exact ⟨⟨W,hW,is_eq hA hi⟩,ad,hb ae⟩,λhA ad=>h3 (λwf wn ws aa M ⟨W,hW,hi⟩=>six_is (hA.same hG hK hW) hi) ad (he hA).1 (he hA).2⟩,h4⟩
theorem ev_bare{A:AnV}(h:A.ev [] [] 0 []):bare2 A/\bare1 A:=by
 obtain ⟨h1,h2,M,h4⟩:=h
 exact ⟨⟨by rw [h2];rfl,by rw [h1];rfl⟩,M,by rw [h4];rfl⟩
section
variable {nd node lv:Int}{es:List Pt}{S:List Int}{A:AnV}
theorem ev1(hG:GrOk nd es)(h:GrX nd es 1 node lv S A):bare1 A/\CoreE nd es A.N A.O:=by
 obtain ⟨_,h1,M,h3,h4⟩:=(h.2.2 dc).k1 rfl
 exact ⟨⟨h3,by rw [h4];rfl⟩,by rw [h1,M];exact coreE hG⟩
theorem ev2(hG:GrOk nd es)(h:GrX nd es 2 node lv S A):bare1 A/\CoreE nd es A.N A.O:=by
 obtain ⟨_,h1,M,h3,h4⟩:=(h.2.2 dc).k2 rfl
 exact ⟨⟨h3,by rw [h4];rfl⟩,by rw [h1,M];exact coreE hG⟩
theorem ev3f(hG:GrOk nd es)(hf:edgeP (e_ S 0) (e_ S 1)∈es)(h:GrX nd es 3 node lv S A):bare1 A/\TrussE (trisE nd es) A.N A.O:=by
 obtain ⟨y,M,_,_,_,_,h3,h4⟩:=(h.2.2 dc).k3 rfl
 obtain ⟨_,e2,e3⟩:=M.some (find_yes hG M.find hf)
 exact ⟨⟨h3,by rw [h4];rfl⟩,by rw [e2,e3];exact trussG_E hG⟩
theorem ev3n(hf:¬edgeP (e_ S 0) (e_ S 1)∈es)(h:GrX nd es 3 node lv S A):(bare2 A/\bare1 A)/\True:=by
 obtain ⟨y,M,_,_,_,_,h3,h4⟩:=(h.2.2 dc).k3 rfl
 obtain ⟨_,e2,e3⟩:=M.none (by have:=find_no M.find hf;omega)
 exact ⟨⟨⟨by rw [e2];rfl,by rw [e3];rfl⟩,h3,by rw [h4];rfl⟩,trivial⟩
theorem ev5(h:GrP nd es 5 node lv S A):bare2 A/\AccD nd es A.S A.dn A.dd A.E A.Q:=by
 obtain ⟨⟨B,h1,h2,h3⟩,_,_,_,h4,M⟩:=h.k5 rfl
 exact ⟨⟨by rw [M];rfl,by rw [h4];rfl⟩,B,h1,h2,h3⟩
end
theorem Right1_ok{κ:Ctx}{I:List Item}{nd node lv tq num den:Int}{es:List Pt}{S:List Int}(hl:Sl κ I (.slice ea es.length ec) es)(hs:Sl κ I (.slice sa S.length sc) S)(hA:HdA κ I Aw)(M:GrOk nd es)(h7:nd<=7)(hE:Aw.E<=1000)(hn:0<=node/\node<nd)(hT:TabRd κ I 0 tzCells):eu prog κ 38 [.agg #[e7 (nd),.slice ea es.length ec],.agg #[e7 (1),e7 (node),e7 (lv),e7 (tq),.slice sa S.length sc,e7 (num),e7 (den)],.agg #[.bool (Aw.fd),e7 (Aw.num),e7 (Aw.tm),.slice Aw.sa Aw.S.length Aw.sc,e7 (Aw.dn),e7 (Aw.dd),.slice Aw.pa Aw.P.length Aw.pc,.slice Aw.oa Aw.O.length Aw.oc,.slice Aw.na Aw.N.length Aw.nc,e7 (Aw.E),.slice Aw.qa Aw.Q.length Aw.qc],e7 (time)] I (λr J=>∃t:Bool,r = .bool t/\RightR nd es 1 node lv S Aw time t/\I=J):=
 right_conv M dc (λ_ h=>absurd h dc) (ev1 M) (Right_nodes hl hA M (λJ hf=>Wanted1_ok (tq:=tq) (num:=num) (den:=den) (Bm hl hf) (Bm hs hf) (hA.fit hf) M h7 hn<|A8 hT hf) hT)
theorem Right2_ok{κ:Ctx}{I:List Item}{nd node lv tq num den:Int}{es:List Pt}{S:List Int}(hl:Sl κ I (.slice ea es.length ec) es)(hs:Sl κ I (.slice sa S.length sc) S)(hA:HdA κ I Aw)(M:GrOk nd es)(h7:nd<=7)(hE:Aw.E<=1000)(hn:0<=node/\node<nd)(hT:TabRd κ I 0 tzCells):eu prog κ 38 [.agg #[e7 (nd),.slice ea es.length ec],.agg #[e7 (2),e7 (node),e7 (lv),e7 (tq),.slice sa S.length sc,e7 (num),e7 (den)],.agg #[.bool (Aw.fd),e7 (Aw.num),e7 (Aw.tm),.slice Aw.sa Aw.S.length Aw.sc,e7 (Aw.dn),e7 (Aw.dd),.slice Aw.pa Aw.P.length Aw.pc,.slice Aw.oa Aw.O.length Aw.oc,.slice Aw.na Aw.N.length Aw.nc,e7 (Aw.E),.slice Aw.qa Aw.Q.length Aw.qc],e7 (time)] I (λr J=>∃t:Bool,r = .bool t/\RightR nd es 2 node lv S Aw time t/\I=J):=
 right_conv M dc (λ_ h=>absurd h dc) (ev2 M) (Right_nodes hl hA M (λJ hf=>Wanted2_ok (tq:=tq) (num:=num) (den:=den) (Bm hl hf) (Bm hs hf) (hA.fit hf) M h7 hn<|A8 hT hf) hT)
theorem Right3f_ok{κ:Ctx}{I:List Item}{nd node lv tq num den:Int}{es:List Pt}{S:List Int}(hl:Sl κ I (.slice ea es.length ec) es)(hs:Sl κ I (.slice sa S.length sc) S)(hA:HdA κ I Aw)(hG:GrOk nd es)(h7:nd<=7)(hE:Aw.E<=1000)(h2:S.length=2)(M:(edgeP (e_ S 0) (e_ S 1)∈es))(hT:TabRd κ I 0 tzCells):eu prog κ 38 [.agg #[e7 (nd),.slice ea es.length ec],.agg #[e7 (3),e7 (node),e7 (lv),e7 (tq),.slice sa S.length sc,e7 (num),e7 (den)],.agg #[.bool (Aw.fd),e7 (Aw.num),e7 (Aw.tm),.slice Aw.sa Aw.S.length Aw.sc,e7 (Aw.dn),e7 (Aw.dd),.slice Aw.pa Aw.P.length Aw.pc,.slice Aw.oa Aw.O.length Aw.oc,.slice Aw.na Aw.N.length Aw.nc,e7 (Aw.E),.slice Aw.qa Aw.Q.length Aw.qc],e7 (time)] I (λr J=>∃t:Bool,r = .bool t/\RightR nd es 3 node lv S Aw time t/\I=J):=
 right_conv hG dc (λ_ h=>absurd h dc) (ev3f hG M) (Right_edges hl hA hG (λJ hf=>Wanted3f_ok (tq:=tq) (num:=num) (den:=den) (Bm hl hf) (Bm hs hf) (hA.fit hf) hG h7 h2 M<|A8 hT hf) hT)
theorem Right3n_ok{κ:Ctx}{I:List Item}{nd node lv tq num den:Int}{es:List Pt}{S:List Int}(hl:Sl κ I (.slice ea es.length ec) es)(hs:Sl κ I (.slice sa S.length sc) S)(hA:HdA κ I Aw)(hG:GrOk nd es)(h7:nd<=7)(hE:Aw.E<=1000)(h2:S.length=2)(M:¬(edgeP (e_ S 0) (e_ S 1)∈es))(hT:TabRd κ I 0 tzCells):eu prog κ 38 [.agg #[e7 (nd),.slice ea es.length ec],.agg #[e7 (3),e7 (node),e7 (lv),e7 (tq),.slice sa S.length sc,e7 (num),e7 (den)],.agg #[.bool (Aw.fd),e7 (Aw.num),e7 (Aw.tm),.slice Aw.sa Aw.S.length Aw.sc,e7 (Aw.dn),e7 (Aw.dd),.slice Aw.pa Aw.P.length Aw.pc,.slice Aw.oa Aw.O.length Aw.oc,.slice Aw.na Aw.N.length Aw.nc,e7 (Aw.E),.slice Aw.qa Aw.Q.length Aw.qc],e7 (time)] I (λr J=>∃t:Bool,r = .bool t/\RightR nd es 3 node lv S Aw time t/\I=J):=
 right_conv hG dc (λh _=>h.1) (ev3n M) (Right_nothing hl hA hG (λJ hf=>Wanted3n_ok (tq:=tq) (num:=num) (den:=den) (Bm hl hf) (Bm hs hf) (hA.fit hf) hG h7 h2 M<|A8 hT hf) hT)
theorem Right4_ok{κ:Ctx}{I:List Item}{nd node lv tq num den:Int}{es:List Pt}{S:List Int}(hl:Sl κ I (.slice ea es.length ec) es)(hs:Sl κ I (.slice sa S.length sc) S)(hA:HdA κ I Aw)(hG:GrOk nd es)(h7:nd<=7)(hE:Aw.E<=1000)(hT:TabRd κ I 0 tzCells):eu prog κ 38 [.agg #[e7 (nd),.slice ea es.length ec],.agg #[e7 (4),e7 (node),e7 (lv),e7 (tq),.slice sa S.length sc,e7 (num),e7 (den)],.agg #[.bool (Aw.fd),e7 (Aw.num),e7 (Aw.tm),.slice Aw.sa Aw.S.length Aw.sc,e7 (Aw.dn),e7 (Aw.dd),.slice Aw.pa Aw.P.length Aw.pc,.slice Aw.oa Aw.O.length Aw.oc,.slice Aw.na Aw.N.length Aw.nc,e7 (Aw.E),.slice Aw.qa Aw.Q.length Aw.qc],e7 (time)] I (λr J=>∃t:Bool,r = .bool t/\RightR nd es 4 node lv S Aw time t/\I=J):=
 right_conv hG dc (λh _=>h.1) (λh=>⟨ev_bare ((h.2.2 dc).k4 rfl).2,trivial⟩) (Right_nothing hl hA hG (λJ M=>Wanted4_ok (tq:=tq) (num:=num) (den:=den) (Bm hl M) (Bm hs M) (hA.fit M) hG h7<|A8 hT M) hT)
theorem Right6_ok{κ:Ctx}{I:List Item}{nd node lv tq num den:Int}{es:List Pt}{S:List Int}(hl:Sl κ I (.slice ea es.length ec) es)(hs:Sl κ I (.slice sa S.length sc) S)(hA:HdA κ I Aw)(hG:GrOk nd es)(h7:nd<=7)(hE:Aw.E<=1000)(hT:TabRd κ I 0 tzCells):eu prog κ 38 [.agg #[e7 (nd),.slice ea es.length ec],.agg #[e7 (6),e7 (node),e7 (lv),e7 (tq),.slice sa S.length sc,e7 (num),e7 (den)],.agg #[.bool (Aw.fd),e7 (Aw.num),e7 (Aw.tm),.slice Aw.sa Aw.S.length Aw.sc,e7 (Aw.dn),e7 (Aw.dd),.slice Aw.pa Aw.P.length Aw.pc,.slice Aw.oa Aw.O.length Aw.oc,.slice Aw.na Aw.N.length Aw.nc,e7 (Aw.E),.slice Aw.qa Aw.Q.length Aw.qc],e7 (time)] I (λr J=>∃t:Bool,r = .bool t/\RightR nd es 6 node lv S Aw time t/\I=J):=
 right_conv hG dc (λh _=>h.1) (λh=>⟨ev_bare ((h.2.2 dc).k6 rfl).2.2,trivial⟩) (Right_nothing hl hA hG (λJ M=>Wanted6_ok (tq:=tq) (num:=num) (den:=den) (Bm hl M) (Bm hs M) (hA.fit M) hG h7<|A8 hT M) hT)
theorem Right7_ok{κ:Ctx}{I:List Item}{nd node lv tq num den:Int}{es:List Pt}{S:List Int}(hl:Sl κ I (.slice ea es.length ec) es)(hs:Sl κ I (.slice sa S.length sc) S)(hA:HdA κ I Aw)(hG:GrOk nd es)(h7:nd<=7)(hE:Aw.E<=1000)(hT:TabRd κ I 0 tzCells):eu prog κ 38 [.agg #[e7 (nd),.slice ea es.length ec],.agg #[e7 (7),e7 (node),e7 (lv),e7 (tq),.slice sa S.length sc,e7 (num),e7 (den)],.agg #[.bool (Aw.fd),e7 (Aw.num),e7 (Aw.tm),.slice Aw.sa Aw.S.length Aw.sc,e7 (Aw.dn),e7 (Aw.dd),.slice Aw.pa Aw.P.length Aw.pc,.slice Aw.oa Aw.O.length Aw.oc,.slice Aw.na Aw.N.length Aw.nc,e7 (Aw.E),.slice Aw.qa Aw.Q.length Aw.qc],e7 (time)] I (λr J=>∃t:Bool,r = .bool t/\RightR nd es 7 node lv S Aw time t/\I=J):=
 right_conv hG dc (λh _=>h.1) (λh=>⟨ev_bare ((h.2.2 dc).k7 rfl).2,trivial⟩) (Right_nothing hl hA hG (λJ M=>Wanted7_ok (tq:=tq) (num:=num) (den:=den) (Bm hl M) (Bm hs M) (hA.fit M) hG h7<|A8 hT M) hT)
theorem Right5_ok{κ:Ctx}{I:List Item}{nd node lv tq num den:Int}{es:List Pt}{S:List Int}(hl:Sl κ I (.slice ea es.length ec) es)(hs:Sl κ I (.slice sa S.length sc) S)(hA:HdA κ I Aw)(hG:GrOk nd es)(h7:nd<=7)(hE:Aw.E<=1000)(hT:TabRd κ I 0 tzCells):eu prog κ 38 [.agg #[e7 (nd),.slice ea es.length ec],.agg #[e7 (5),e7 (node),e7 (lv),e7 (tq),.slice sa S.length sc,e7 (num),e7 (den)],.agg #[.bool (Aw.fd),e7 (Aw.num),e7 (Aw.tm),.slice Aw.sa Aw.S.length Aw.sc,e7 (Aw.dn),e7 (Aw.dd),.slice Aw.pa Aw.P.length Aw.pc,.slice Aw.oa Aw.O.length Aw.oc,.slice Aw.na Aw.N.length Aw.nc,e7 (Aw.E),.slice Aw.qa Aw.Q.length Aw.qc],e7 (time)] I (λr J=>∃t:Bool,r = .bool t/\RightR nd es 5 node lv S Aw time t/\I=J):=
 right_conv hG dc (λh _=>h) (λh=>ev5<|h.2.2 dc) (Right_split hl hA hG hE (λJ M=>Wanted5_ok (tq:=tq) (num:=num) (den:=den) (Bm hl M) (Bm hs M) (hA.fit M) hG h7<|A8 hT M) hT)
theorem Right8_ok{κ:Ctx}{I:List Item}{nd node lv tq num den:Int}{es:List Pt}{S:List Int}(hl:Sl κ I (.slice ea es.length ec) es)(hs:Sl κ I (.slice sa S.length sc) S)(hA:HdA κ I Aw)(hG:GrOk nd es)(h7:nd<=7)(hE:Aw.E<=1000)(hT:TabRd κ I 0 tzCells):eu prog κ 38 [.agg #[e7 (nd),.slice ea es.length ec],.agg #[e7 (8),e7 (node),e7 (lv),e7 (tq),.slice sa S.length sc,e7 (num),e7 (den)],.agg #[.bool (Aw.fd),e7 (Aw.num),e7 (Aw.tm),.slice Aw.sa Aw.S.length Aw.sc,e7 (Aw.dn),e7 (Aw.dd),.slice Aw.pa Aw.P.length Aw.pc,.slice Aw.oa Aw.O.length Aw.oc,.slice Aw.na Aw.N.length Aw.nc,e7 (Aw.E),.slice Aw.qa Aw.Q.length Aw.qc],e7 (time)] I (λr J=>∃t:Bool,r = .bool t/\RightR nd es 8 node lv S Aw time t/\I=J):=
 right_conv hG dc (λh _=>h) (λh=>ev5<|h.1 rfl) (Right_split hl hA hG hE (λJ M=>Wanted8_ok (tq:=tq) (num:=num) (den:=den) (Bm hl M) (Bm hs M) (hA.fit M) hG h7<|A8 hT M) hT)
theorem Right9_ok{κ:Ctx}{I:List Item}{nd node lv tq num den:Int}{es:List Pt}{S:List Int}(hl:Sl κ I (.slice ea es.length ec) es)(hs:Sl κ I (.slice sa S.length sc) S)(hA:HdA κ I Aw)(hG:GrOk nd es)(h7:nd<=7)(hE:Aw.E<=1000)(aa:0<S.length)(hn:0<=e_ S 0/\e_ S 0<nd)(hT:TabRd κ I 0 tzCells):eu prog κ 38 [.agg #[e7 (nd),.slice ea es.length ec],.agg #[e7 (9),e7 (node),e7 (lv),e7 (tq),.slice sa S.length sc,e7 (num),e7 (den)],.agg #[.bool (Aw.fd),e7 (Aw.num),e7 (Aw.tm),.slice Aw.sa Aw.S.length Aw.sc,e7 (Aw.dn),e7 (Aw.dd),.slice Aw.pa Aw.P.length Aw.pc,.slice Aw.oa Aw.O.length Aw.oc,.slice Aw.na Aw.N.length Aw.nc,e7 (Aw.E),.slice Aw.qa Aw.Q.length Aw.qc],e7 (time)] I (λr J=>∃t:Bool,r = .bool t/\RightR nd es 9 node lv S Aw time t/\I=J):=
 right_conv hG dc (λh _=>h.1) (λh=>⟨ev_bare (h.2.1 rfl).2,trivial⟩) (Right_nothing hl hA hG (λJ M=>Wanted9_ok (tq:=tq) (num:=num) (den:=den) (Bm hl M) (Bm hs M) (hA.fit M) hG h7 aa hn<|A8 hT M) hT)
theorem RightA_ok{κ:Ctx}{I:List Item}{K:Int}{nd node lv tq num den:Int}{es:List Pt}{S:List Int}(M:Sl κ I (.slice ea es.length ec) es)(hs:Sl κ I (.slice sa S.length sc) S)(hA:HdA κ I Aw)(hG:GrOk nd es)(h7:nd<=7)(hE:Aw.E<=1000)(hq:QV nd K node lv tq S num den)(hK:K<=9)(hT:TabRd κ I 0 tzCells):eu prog κ 38 [.agg #[e7 (nd),.slice ea es.length ec],.agg #[e7 (K),e7 (node),e7 (lv),e7 (tq),.slice sa S.length sc,e7 (num),e7 (den)],.agg #[.bool (Aw.fd),e7 (Aw.num),e7 (Aw.tm),.slice Aw.sa Aw.S.length Aw.sc,e7 (Aw.dn),e7 (Aw.dd),.slice Aw.pa Aw.P.length Aw.pc,.slice Aw.oa Aw.O.length Aw.oc,.slice Aw.na Aw.N.length Aw.nc,e7 (Aw.E),.slice Aw.qa Aw.Q.length Aw.qc],e7 (time)] I (λr J=>∃t:Bool,r = .bool t/\RightR nd es K node lv S Aw time t/\I=J):=by
 have hr:=hq.rng
 rcases (show K=1\/K=2\/K=3\/K=4\/K=5\/K=6\/K=7\/K=8\/K=9 by omega) with rfl|rfl|rfl|rfl|rfl|rfl|rfl|rfl|rfl
 ·exact Right1_ok M hs hA hG h7 hE (hq.node C) hT
 ·exact Right2_ok M hs hA hG h7 hE (hq.node C) hT
 ·have h2:=(hq.set rfl).2.2.resolve_left dc
  by_cases hfe:(edgeP (e_ S 0) (e_ S 1)∈es)
  ·exact Right3f_ok M hs hA hG h7 hE h2 hfe hT
  exact Right3n_ok M hs hA hG h7 hE h2 hfe hT
 ·exact Right4_ok M hs hA hG h7 hE hT
 ·exact Right5_ok M hs hA hG h7 hE hT
 ·exact Right6_ok M hs hA hG h7 hE hT
 ·exact Right7_ok M hs hA hG h7 hE hT
 ·exact Right8_ok M hs hA hG h7 hE hT
 have h0:=(hq.set rfl).2.1
 exact Right9_ok M hs hA hG h7 hE h0 (ValidP_mem (hq.set C).1 (Bx om om)) hT
structure ChkR (nd kd wd mo:Int) (es:List Ev) (K node lv tq:Int) (S:List Int) (num den:Int) (A:AnV) (c:Int):Prop where
 err:askQ nd kd wd mo es K node lv tq S num den≠0->c=askQ nd kd wd mo es K node lv tq S num den
 two:askQ nd kd wd mo es K node lv tq S num den=0->c=0\/c=12
 same:askQ nd kd wd mo es K node lv tq S num den=0->c=0->∃W,AnsP nd kd wd mo es K node lv tq S num den W/\same6 A W/\A.tm=W.tm
 bare:askQ nd kd wd mo es K node lv tq S num den=0->c=0->4<=K->bare2 A
 acc:askQ nd kd wd mo es K node lv tq S num den=0->AnsP nd kd wd mo es K node lv tq S num den A->c=0
section
variable {nd kd wd mo K node lv tq num den:Int}{es:List Ev}{S:List Int}{A:AnV}
theorem ChkR.bad{c:Int}(h:askQ nd kd wd mo es K node lv tq S num den=c)(hc:c≠0):ChkR nd kd wd mo es K node lv tq S num den A c:=⟨λ_=>h.symm,λM=>absurd (h.symm.trans M) hc,λM=>absurd (h.symm.trans M) hc,λM=>absurd (h.symm.trans M) hc,λM=>absurd (h.symm.trans M) hc⟩
theorem ChkR.good(h:askQ nd kd wd mo es K node lv tq S num den=0)(h1:t=true->(∃W,AnsP nd kd wd mo es K node lv tq S num den W/\same6 A W/\A.tm=W.tm)/\(4<=K->bare2 A))(h2:AnsP nd kd wd mo es K node lv tq S num den A->t=true):ChkR nd kd wd mo es K node lv tq S num den A (if t=true then 0 else 12):=by
 refine ⟨λM=>absurd h M,λ_=>?_,λ_ M=>?_,λ_ M=>?_,λ_ M=>by rw [if_pos (h2 M)]⟩
 ·cases t<;>simp
 ·cases t
  ·simp at M
  exact (h1 rfl).1
 cases t
 ·simp at M
 exact (h1 rfl).2
theorem same_six(h:sameP A B):same6 A B/\A.tm=B.tm:=by
 obtain ⟨h1,h2,h3,h4,M,h6⟩:=h
 injection h4 with h7 h8
 exact ⟨⟨h1,h2,M,h7,h8,h6⟩,h3⟩
theorem chk_ten{X:List Pt}(hK:K=10)(M:X=spanK (numT nd kd wd mo es node) (allE kd wd mo es) (allE kd wd mo es).length):AnsP nd kd wd mo es K node lv tq S num den ⟨true,0,0,none,0,[],0,0,none,0,X,none,0,[],none,0,[],0,none,0,[]⟩:=⟨λh=>by omega,λh=>by omega,λh=>by omega,λ_=>⟨⟨rfl,rfl,rfl,rfl,rfl,M⟩,⟨rfl,rfl,rfl,rfl⟩,rfl⟩⟩
theorem AnsP.pl{a:Option Addr}{c:Nat}(h:AnsP nd kd wd mo es K node lv tq S num den W):AnsP nd kd wd mo es K node lv tq S num den {W with pa:=a,pc:=c}:=⟨λe=>⟨⟨((h.g e).1).k1,((h.g e).1).k2,((h.g e).1).k3,((h.g e).1).k4,((h.g e).1).k5,((h.g e).1).k6,((h.g e).1).k7⟩,(h.g e).2⟩,λe=>by
 obtain ⟨tv,ok,h1,M,h3⟩:=h.k8 e
 exact ⟨tv,ok,h1,λe2=>⟨⟨(M e2).1.k1,(M e2).1.k2,(M e2).1.k3,(M e2).1.k4,(M e2).1.k5,(M e2).1.k6,(M e2).1.k7⟩,(M e2).2⟩,h3⟩,h.k9,h.k10⟩
theorem AnsP.six(hH:HistOk nd kd wd mo es)(hK:1<=K/\K<=10)(a:AnsP nd kd wd mo es K node lv tq S num den A)(b:AnsP nd kd wd mo es K node lv tq S num den W):sameP A W:=by
 obtain ⟨h1,h2,h3,h4,M,h6⟩:=a.alike hH hK b
 exact ⟨h1,h2,h3,M,(cmpL_eq _ _).1 h4,h6⟩
theorem chk_none(hK:K=8/\FirstP kd wd mo es (reachQ nd kd wd mo es num den) tv false\/K=9/\FirstP kd wd mo es (togQ nd kd wd mo es S lv) tv false):AnsP nd kd wd mo es K node lv tq S num den ⟨false,0,0,none,0,[],0,0,none,0,[],none,0,[],none,0,[],0,none,0,[]⟩:=by
 have hz:AnV.zero ⟨false,0,0,none,0,[],0,0,none,0,[],none,0,[],none,0,[],0,none,0,[]⟩:=⟨⟨rfl,rfl,rfl,rfl,rfl,rfl⟩,⟨rfl,rfl,rfl,rfl⟩,rfl⟩
 refine ⟨λh=>by omega,λh=>?_,λh=>?_,λh=>by omega⟩
 ·rcases hK with ⟨_,M⟩|⟨e,_⟩
  ·exact ⟨tv,false,M,(λh=>by cases h),λ_=>hz⟩
  omega
 rcases hK with ⟨e,_⟩|⟨_,M⟩
 ·omega
 exact ⟨tv,false,M,(λh=>by cases h),λ_=>hz⟩
theorem none_bare(hH:HistOk nd kd wd mo es)(hK:K=8/\FirstP kd wd mo es (reachQ nd kd wd mo es num den) tv false\/K=9/\FirstP kd wd mo es (togQ nd kd wd mo es S lv) tv false)(h:AnsP nd kd wd mo es K node lv tq S num den A):bare2 A/\bare1 A:=by
 rcases hK with ⟨e,hF⟩|⟨e,hF⟩
 ·obtain ⟨t2,k2,h1,_,M⟩:=h.k8 e
  exact ev_bare (M (hF.uniq h1).2.symm).2.1
 obtain ⟨t2,k2,h1,_,M⟩:=h.k9 e
 exact ev_bare (M (hF.uniq h1).2.symm).2.1
structure AtR (nd kd wd mo:Int) (es:List Ev) (K lv tq:Int) (S:List Int) (num den:Int) (T time:Int):Prop where
 k7:K<=7->T=tq/\time=0
 k8:K=8->FirstP kd wd mo es (reachQ nd kd wd mo es num den) T true/\time=T
 k9:K=9->FirstP kd wd mo es (togQ nd kd wd mo es S lv) T true/\time=T
theorem chk_right{T:Int}(hK:1<=K/\K<=9)(hT:AtR nd kd wd mo es K lv tq S num den T time)(h:askQ nd kd wd mo es K node lv tq S num den=0)(hR:RightR nd (atG kd wd mo es T) K node lv S A time t):ChkR nd kd wd mo es K node lv tq S num den A (if t=true then 0 else 12):=by
 have aa:∀W:AnV,GrX nd (atG kd wd mo es T) K node lv S W/\W.tm=time->AnsP nd kd wd mo es K node lv tq S num den W:=λW M=>by
  refine ⟨λe=>?_,λe=>?_,λe=>?_,λe=>by omega⟩
  ·obtain ⟨rfl,rfl⟩:=hT.k7 e
   exact ⟨M.1.2.2 e,M.2⟩
  ·obtain ⟨hF,rfl⟩:=hT.k8 e
   exact ⟨_,true,hF,λ_=>⟨M.1.1 e,M.2⟩,λh=>by cases h⟩
  obtain ⟨hF,rfl⟩:=hT.k9 e
  exact ⟨_,true,hF,λ_=>⟨(M.1.2.1 e).1,(M.1.2.1 e).2,M.2⟩,λh=>by cases h⟩
 have back:AnsP nd kd wd mo es K node lv tq S num den A->GrX nd (atG kd wd mo es T) K node lv S A/\A.tm=time:=λhA=>by
  rcases (show K=8\/K=9\/K<=7 by omega) with e|e|e
  ·obtain ⟨t2,k2,h1,h2,_⟩:=hA.k8 e
   obtain ⟨hF,rfl⟩:=hT.k8 e
   obtain ⟨rfl,rfl⟩:=hF.uniq h1
   exact ⟨⟨λ_=>(h2 rfl).1,λe2=>by omega,λe2=>by omega⟩,(h2 rfl).2⟩
  ·obtain ⟨t2,k2,h1,h2,_⟩:=hA.k9 e
   obtain ⟨hF,rfl⟩:=hT.k9 e
   obtain ⟨rfl,rfl⟩:=hF.uniq h1
   exact ⟨⟨λe2=>by omega,λ_=>⟨(h2 rfl).1,(h2 rfl).2.1⟩,λe2=>by omega⟩,(h2 rfl).2.2⟩
  obtain ⟨rfl,rfl⟩:=hT.k7 e
  exact ⟨⟨λe2=>by omega,λe2=>by omega,λ_=>(hA.g e).1⟩,(hA.g e).2⟩
 refine ChkR.good h (λht=>?_) λhA=>hR.2 (back hA).1 (back hA).2
 obtain ⟨⟨W,M,h6⟩,ab,hb⟩:=hR.1 ht
 refine ⟨⟨{W with tm:=time},aa _ ⟨⟨λe=>⟨(M.1 e).k1,(M.1 e).k2,(M.1 e).k3,(M.1 e).k4,(M.1 e).k5,(M.1 e).k6,(M.1 e).k7⟩,M.2.1,λe=>⟨(M.2.2 e).k1,(M.2.2 e).k2,(M.2.2 e).k3,(M.2.2 e).k4,(M.2.2 e).k5,(M.2.2 e).k6,(M.2.2 e).k7⟩⟩,rfl⟩,h6,ab⟩,hb⟩
end
theorem AudCheck_ok{κ:Ctx}{I:List Item}{nd kd wd mo K node lv tq num den:Int}{es:List Ev}{S:List Int}(hl:Sl κ I (.slice ea es.length ec) es)(hs:Sl κ I (.slice sa S.length sc) S)(M:HdA κ I Aw)(hlen:es.length<=19)(h7:nd<=7)(hf:densF K=true->FrV ⟨num,den⟩)(hE:Aw.E<=1000)(hT:TabRd κ I 0 tzCells):eu prog κ 14 [e7 nd,.slice ea es.length ec,.agg #[e7 kd,e7 wd,e7 mo],.agg #[e7 K,e7 node,e7 lv,e7 tq,.slice sa S.length sc,e7 num,e7 den],.agg #[.bool (Aw.fd),e7 (Aw.num),e7 (Aw.tm),.slice Aw.sa Aw.S.length Aw.sc,e7 (Aw.dn),e7 (Aw.dd),.slice Aw.pa Aw.P.length Aw.pc,.slice Aw.oa Aw.O.length Aw.oc,.slice Aw.na Aw.N.length Aw.nc,e7 (Aw.E),.slice Aw.qa Aw.Q.length Aw.qc]] I (λr J=>∃c,r=e7 c/\ChkR nd kd wd mo es K node lv tq S num den Aw c/\I=J):=by
 refine Ce5 Tryz.func14 C C ?_
 refine Ar<|Ge1 (Al (cs:=[_,_,_]) C C C) λb1=>Ge1 (Al (cs:=[_,_,_,_,_,_,_]) C C C) λb2=>Ge1 (Al (cs:=[_,_,_,_,_,_,_,_,_,_,_]) C C C) λb3=>Z ?_
 refine G.e (Ac c_ C C<|CheckW_ok kd wd mo) ?_
 rintro _ _ ⟨_,_,⟨rfl,rfl⟩,rfl,rfl⟩
 refine Z ?_
 refine Ap C (λak=>Z ?_)<|λak=>Z ?_
 ·exact Ai C C I Ah ⟨checkW kd wd mo,rfl,(ChkR.bad (by unfold askQ slideE;rw [if_pos (by rw [if_pos ak];exact ak),if_pos ak]) ak),rfl⟩
 refine Gc0 (Ac c_ C C<|HCheck_ok (nd:=nd)<|Au hl)<|Z ?_
 refine Ap C (λay=>Z ?_)<|λay=>Z ?_
 ·exact Ai C C I Ah ⟨streamE nd es,rfl,(ChkR.bad (by unfold askQ slideE;rw [if_pos (by rw [if_neg ak];exact ay),if_neg ak]) ay),rfl⟩
 have a8:slideE nd kd wd mo es=0:=by unfold slideE;rw [if_neg ak];exact Classical.not_not.1 ay
 refine Z ?_
 refine Gc0 (Ac c_ C C<|QCheckG_ok (nd:=nd) (K:=K) (node:=node) (lv:=lv) (tq:=tq) (num:=num) (den:=den) (S:=S) (Au hs)<|by first|exact hf|exact hf (by rw [an];rfl))<|Z ?_
 refine Ap C (λaz=>Z ?_)<|λaz=>Z ?_
 ·exact Ai C C I Ah ⟨checkQ nd K node lv tq S num den,rfl,(ChkR.bad (by unfold askQ;rw [if_neg (λh=>h a8)]) az),rfl⟩
 have hH:=hist_of a8
 have hQ:=QV.of (Classical.not_not.1 az)
 have a7:=hQ.rng
 have ae:askQ nd kd wd mo es K node lv tq S num den=0:=by unfold askQ;rw [if_neg (λh=>h a8)];exact Classical.not_not.1 az
 refine Z ?_
 refine Ap C (λau=>Z ?_)<|λau=>Z ?_
 ·refine G.e (Ac c_ C C<|AHistF_ok (nd:=nd) (kd:=kd) (wd:=wd) (mo:=mo) (v:=node) (Au hl) hH hlen (hQ.node<|by rw [au];rfl)<|A8 hT Ah) ?_
  rintro _ _ ⟨_,_,⟨bb,bc,XS6,rfl,aq,rfl⟩,rfl,rfl⟩
  refine Z ?_
  refine Gc0 (Ac c_ C C<|Same45_ok (A:=Aw) (B:=(⟨true,0,0,none,0,[],0,0,bb,bc,XS6,none,0,[],none,0,[],0,none,0,[]⟩:AnV)) (Au M.s) (Au M.p) (Fl _) A7) ?_
  refine Gm C<|A6 (d:=56) C (λaw=>Z ?_)<|λaw=>Z ?_
  ·refine Dn (B7 C C C) (Ac c_ C C<|Barett_ok (A:=Aw) ⟨(Au M.s),(Au M.p),(Au M.o),(Au M.n),(Au M.q),M.b⟩) ?_
   rintro _ _ ⟨_,_,⟨rfl,rfl⟩,rfl,rfl⟩
   refine Z ?_
   refine Gc0 (Ac c_ C C<|Verdict_ok (t:=decide (bare2 Aw/\bare1 Aw)))<|Z ?_
   exact Ai C C I Ah ⟨if (decide<|bare2 Aw/\bare1 Aw)=true then 0 else 12,rfl,(ChkR.good ae (λh=>⟨⟨_,(chk_ten (nd:=nd) (kd:=kd) (lv:=lv) (tq:=tq) (S:=S) (num:=num) (den:=den) au aq).pl,(same_six aw).1,(same_six aw).2⟩,λ_=>(of_decide_eq_true h).1⟩)<|λhP=>decide_eq_true<|by obtain ⟨_,h2,_⟩:=hP.k10 au;exact ev_bare h2),rfl⟩
  refine Gc0 (Ac c_ C C<|Verdict_ok (t:=false))<|Z ?_
  exact Ai C C I Ah ⟨if false=true then 0 else 12,rfl,(ChkR.good (t:=false) ae (λh=>by cases h)<|λhP=>absurd ((AnsP.six hH a7 hP<|(chk_ten (nd:=nd) (kd:=kd) (lv:=lv) (tq:=tq) (S:=S) (num:=num) (den:=den) au aq).pl):sameP Aw _) aw),rfl⟩
 refine Ap C (λan=>Z ?_)<|λan=>Z ?_
 ·refine G.e (Ac c_ C C<|AFirst_ok (nd:=nd) (kd:=kd) (wd:=wd) (mo:=mo) (num:=num) (den:=den) (Au hl) hH hlen (by first|exact hf|exact hf (by rw [an];rfl))<|A8 hT Ah) ?_
  rintro _ _ ⟨_,_,⟨a9,ba,rfl,a6,rfl⟩,rfl,rfl⟩
  have ax:=first_rng hH a6
  refine Z ?_
  refine D8 C (λap=>Z ?_)<|λap=>Z ?_
  ·have ai:=a6
   have ao:ba=false:=by simpa using ap
   rw [ao] at ai
   refine Z ?_
   refine Gc0 (Ac c_ C C<|Same45_ok (A:=Aw) (B:=(⟨false,0,0,none,0,[],0,0,none,0,[],none,0,[],none,0,[],0,none,0,[]⟩:AnV)) (Au M.s) (Au M.p) (Fl _)<|Fl _) ?_
   refine Gm C<|A6 (d:=92) C (λah=>Z ?_)<|λah=>Z ?_
   ·refine Dn (B7 C C C) (Ac c_ C C<|Barett_ok (A:=Aw) ⟨(Au M.s),(Au M.p),(Au M.o),(Au M.n),(Au M.q),M.b⟩) ?_
    rintro _ _ ⟨_,_,⟨rfl,rfl⟩,rfl,rfl⟩
    refine Z ?_
    refine Gc0 (Ac c_ C C<|Verdict_ok (t:=decide (bare2 Aw/\bare1 Aw)))<|Z ?_
    exact Ai C C I Ah ⟨if (decide<|bare2 Aw/\bare1 Aw)=true then 0 else 12,rfl,(ChkR.good ae (λh=>⟨⟨_,(chk_none (nd:=nd) (node:=node) (tq:=tq)<|.inl ⟨an,ai⟩),(same_six ah).1,(same_six ah).2⟩,λ_=>(of_decide_eq_true h).1⟩)<|λhP=>decide_eq_true<|none_bare hH (.inl ⟨an,ai⟩) hP),rfl⟩
   refine Gc0 (Ac c_ C C<|Verdict_ok (t:=false))<|Z ?_
   exact Ai C C I Ah ⟨if false=true then 0 else 12,rfl,(ChkR.good (t:=false) ae (λh=>by cases h)<|λhP=>absurd (AnsP.six hH a7 hP<|chk_none (nd:=nd) (node:=node) (tq:=tq)<|.inl ⟨an,ai⟩) ah),rfl⟩
  have ar:=a6
  have ao:ba=true:=by simpa using ap
  rw [ao] at ar
  refine Z ?_
  refine G.e (Ac c_ C C<|At_ok (nd:=nd) (kd:=kd) (wd:=wd) (mo:=mo) (tq:=a9) (Au hl) hH hlen<|by first|exact hQ.tim om|exact ax.1) ?_
  rintro _ _ ⟨_,_,⟨bn,bf,rfl,rfl⟩,rfl,rfl⟩
  refine Z ?_
  refine Ge1 (Am ty56 C) λbm=>Ge0 (Cf ty56)<|Z ?_
  refine Ap C (λaa=>?_)<|λaa=>Z ?_
  ·exact absurd rfl aa
  refine Ap C (λaj=>?_)<|λaj=>Z ?_
  ·exfalso;omega
  refine G.e (Ac c_ C C<|RightA_ok (nd:=nd) (K:=K) (tq:=tq) (num:=num) (den:=den) (time:=a9) A7 (Au hs) (M.fit Ah) (hH.graph _) h7 hE hQ om<|A8 hT Ah) ?_
  rintro _ _ ⟨_,_,⟨a0,rfl,av,rfl⟩,rfl,rfl⟩
  refine Gc0 (Ac c_ C C<|Verdict_ok (t:=a0))<|Z ?_
  exact Ai C C I Ah ⟨if a0=true then 0 else 12,rfl,(chk_right om ⟨λh=>by omega,λ_=>⟨ar,rfl⟩,λh=>by omega⟩ ae av),rfl⟩
 refine Ap C (λad=>Z ?_)<|λad=>Z ?_
 ·refine G.e (Ac c_ C C<|ATog_ok (nd:=nd) (kd:=kd) (wd:=wd) (mo:=mo) (lv:=lv) (Au hl) (Au hs) hH hlen ⟨(hQ.set<|by rw [ad];rfl).2.1,asc_len64 (ValidP_iff.1 (hQ.set<|by rw [ad];rfl).1).2 (λx hx=>by have:=(ValidP_iff.1 (hQ.set<|by rw [ad];rfl).1).1 x hx;omega)⟩ (hQ.set<|by rw [ad];rfl).1 (A8 hT Ah)) ?_
  rintro _ _ ⟨_,_,⟨a5,a3,rfl,ab,rfl⟩,rfl,rfl⟩
  have ax:=first_rng hH ab
  refine Z ?_
  refine D8 C (λap=>Z ?_)<|λap=>Z ?_
  ·have ai:=ab
   have ao:a3=false:=by simpa using ap
   rw [ao] at ai
   refine Z ?_
   refine Gc0 (Ac c_ C C<|Same45_ok (A:=Aw) (B:=(⟨false,0,0,none,0,[],0,0,none,0,[],none,0,[],none,0,[],0,none,0,[]⟩:AnV)) (Au M.s) (Au M.p) (Fl _)<|Fl _) ?_
   refine Gm C<|A6 (d:=92) C (λah=>Z ?_)<|λah=>Z ?_
   ·refine Dn (B7 C C C) (Ac c_ C C<|Barett_ok (A:=Aw) ⟨(Au M.s),(Au M.p),(Au M.o),(Au M.n),(Au M.q),M.b⟩) ?_
    rintro _ _ ⟨_,_,⟨rfl,rfl⟩,rfl,rfl⟩
    refine Z ?_
    refine Gc0 (Ac c_ C C<|Verdict_ok (t:=decide (bare2 Aw/\bare1 Aw)))<|Z ?_
    exact Ai C C I Ah ⟨if (decide<|bare2 Aw/\bare1 Aw)=true then 0 else 12,rfl,(ChkR.good ae (λh=>⟨⟨_,(chk_none (nd:=nd) (node:=node) (tq:=tq)<|.inr ⟨ad,ai⟩),(same_six ah).1,(same_six ah).2⟩,λ_=>(of_decide_eq_true h).1⟩)<|λhP=>decide_eq_true<|none_bare hH (.inr ⟨ad,ai⟩) hP),rfl⟩
   refine Gc0 (Ac c_ C C<|Verdict_ok (t:=false))<|Z ?_
   exact Ai C C I Ah ⟨if false=true then 0 else 12,rfl,(ChkR.good (t:=false) ae (λh=>by cases h)<|λhP=>absurd (AnsP.six hH a7 hP<|chk_none (nd:=nd) (node:=node) (tq:=tq)<|.inr ⟨ad,ai⟩) ah),rfl⟩
  have ar:=ab
  have ao:a3=true:=by simpa using ap
  rw [ao] at ar
  refine Z ?_
  refine G.e (Ac c_ C C<|At_ok (nd:=nd) (kd:=kd) (wd:=wd) (mo:=mo) (tq:=a5) (Au hl) hH hlen<|by first|exact hQ.tim om|exact ax.1) ?_
  rintro _ _ ⟨_,_,⟨be,bh,rfl,rfl⟩,rfl,rfl⟩
  refine Z ?_
  refine Ge1 (Am ty56 C) λbj=>Ge0 (Cf ty56)<|Z ?_
  refine Ap C (λaa=>?_)<|λaa=>Z ?_
  ·exact absurd rfl aa
  refine Ap C (λaj=>?_)<|λaj=>Z ?_
  ·exfalso;omega
  refine G.e (Ac c_ C C<|RightA_ok (nd:=nd) (K:=K) (tq:=tq) (num:=num) (den:=den) (time:=a5) A7 (Au hs) (M.fit Ah) (hH.graph _) h7 hE hQ om<|A8 hT Ah) ?_
  rintro _ _ ⟨_,_,⟨a4,rfl,av,rfl⟩,rfl,rfl⟩
  refine Gc0 (Ac c_ C C<|Verdict_ok (t:=a4))<|Z ?_
  exact Ai C C I Ah ⟨if a4=true then 0 else 12,rfl,(chk_right om ⟨λh=>by omega,λh=>by omega,λ_=>⟨ar,rfl⟩⟩ ae av),rfl⟩
 refine G.e (Ac c_ C C<|At_ok (nd:=nd) (kd:=kd) (wd:=wd) (mo:=mo) (tq:=tq) (Au hl) hH hlen<|by first|exact hQ.tim om|exact ax.1) ?_
 rintro _ _ ⟨_,_,⟨bg,bi,rfl,rfl⟩,rfl,rfl⟩
 refine Z ?_
 refine Ge1 (Am ty56 C) λbk=>Ge0 (Cf ty56)<|Z ?_
 refine Ap C (λaa=>?_)<|λaa=>Z ?_
 ·exact absurd rfl aa
 refine Ap C (λaj=>Z ?_)<|λaj=>?_
 ·refine G.e (Ac c_ C C<|RightA_ok (nd:=nd) (K:=K) (tq:=tq) (num:=num) (den:=den) (time:=0) A7 (Au hs) (M.fit Ah) (hH.graph _) h7 hE hQ om<|A8 hT Ah) ?_
  rintro _ _ ⟨_,_,⟨a1,rfl,av,rfl⟩,rfl,rfl⟩
  refine Gc0 (Ac c_ C C<|Verdict_ok (t:=a1))<|Z ?_
  exact Ai C C I Ah ⟨if a1=true then 0 else 12,rfl,(chk_right om ⟨λ_=>⟨rfl,rfl⟩,λh=>absurd h an,λh=>absurd h ad⟩ ae av),rfl⟩
 exfalso;omega
variable {κ:Ctx}{I:List Item}
theorem ins_perm{xs:List Int}{x:Int}{p:Nat}:(xs.take p++([x]++xs.drop p)).Perm (x::xs):=by
 have:=List.perm_middle (a:=x) (l₁:=xs.take p) (l₂:=xs.drop p)
 rw [List.take_append_drop] at this
 exact this
theorem Order_base{lv:Value}(hl:∀q,Sl κ (deck b lv q::I) lv ls)(h0:0<=i)(hn:n<=1000):eu prog κ 40 [.pointer (some ⟨b,0,none⟩),e7 n] (e8 b [lv,e7 i] 65::I) (λr J=>∃y:(Option Addr)×Nat×(List Int)×Int,((r = .slice y.1 y.2.2.1.length y.2.1/\(y.2.2.1.Nodup/\(∀x∈y.2.2.1,0<=x/\x<n)/\y.2.2.1.length=n.toNat))/\0<=y.2.2.2)/\J=[vc 3 (.slice y.1 y.2.2.1.length y.2.1) y.2.2.1]++deck b lv y.2.2.2::I):=by
 refine Ce2 Tryz.func40 C C<|Z ?_
 refine D7 (σ:=Nat×(Option Addr)×Nat×(List Int)×Int) (λs=>[(5,.slice s.2.1 s.2.2.2.1.length s.2.2.1),(6,e7 ((s.1:Nat):Int))]) (λs=>[vc 3 (.slice s.2.1 s.2.2.2.1.length s.2.2.1) (s.2.2.2.1),e8 b [lv,e7<|s.2.2.2.2] 65]) (λs=>(s.1<=n.toNat)/\(s.2.2.2.1.Perm ((List.range s.1).map λi:Nat=>(i:Int)))/\(0<=s.2.2.2.2)) (λs=>n.toNat - s.1) (0,none,0,[],i) ⟨om,(by simp),om⟩ (hI:=(Bw _ _)) ?_
 rintro ⟨k,a,c,os,iq⟩ hp
 dsimp only at hp ⊢
 obtain ⟨hk,hp,hq⟩:=hp
 have bf:=hp.length_eq
 rw [List.length_map,List.length_range] at bf
 refine Z ?_
 refine Ap C (λc10=>Z ?_)<|λc10=>Z ?_
 ·refine G.e (Ac c_ C C<|Next_ok (by repeat (first|exact AtF.head _ _|apply AtF.tail)) (Bm (hl _) Ah) om om) ?_
  rintro _ _ ⟨_,_,⟨M,i2,rfl,bm,bk,rfl⟩,rfl,rfl⟩
  refine Ga C<|As<|A4 mixed<|Cm (e8 b [lv,e7 i2] 65::I) 11<|Z ?_
  refine C0 (rs:=[2,4,7]) kr C C<|D6 ?_<|D6 ?_<|Dv ?_
  ·refine Sr C (Runs.hi (α:=Int) (xs:=os) (h:=(M).toNat) Aa ef C C om A7 om) Aj ?_
   refine C0 (rs:=[4,7]) kr C C<|D6 ?_<|Dv ?_
   ·refine Se1 C (B9 (α:=Int) (cs:=[_]) (xs:=[(k:Int)]) Aa ef C C dc dc C C C C) λbj=>?_
    refine Ds1 7<|Sr C (Eb (α:=Int) (xs:=os) (l:=(M).toNat) Aa ef C C om A7 om) Aj ?_
    refine Ds1 8<|Se2 C (B4 (α:=Int) (e:=3) (xs:=([(k:Int)]:List Int)) (ys:=List.drop ((M).toNat) os) Aa ef C C C mm (C8 A7 om) (by simp only [List.length_cons,List.length_nil,List.length_append,List.length_take,List.length_drop];omega) dc C<|λ_ _=>am) λay az=>?_
    refine D.fit (J:=vc 3 (.slice a (List.take ((M).toNat) os).length c) (List.take ((M).toNat) os)::vc 3 (.slice ay (([(k:Int)]:List Int)++(List.drop ((M).toNat) os)).length az) (([(k:Int)]:List Int)++(List.drop ((M).toNat) os))::e8 b [lv,e7 i2] 65::I) (Ak (show Fit κ _ (vc 3 (.slice a os.length c) (os)::vc 3 (.slice ay (([(k:Int)]:List Int)++(List.drop ((M).toNat) os)).length az) (([(k:Int)]:List Int)++(List.drop ((M).toNat) os))::e8 b [lv,e7 i2] 65::I) from Bb)<|E3 (α:=Int) C) ?_
    refine Ds1 9<|Se2 C (B4 (α:=Int) (e:=3) (xs:=List.take ((M).toNat) os) (ys:=([(k:Int)]:List Int)++(List.drop ((M).toNat) os)) Aa ef C C C mm A7 (by simp only [List.length_cons,List.length_nil,List.length_append,List.length_take,List.length_drop];omega) dc C<|λ_ _=>am) λbe bc=>Z ?_
    exact B5 ((k+1),(be),(bc),((List.take ((M).toNat) os)++(([(k:Int)]:List Int)++(List.drop ((M).toNat) os))),(i2))<|by dsimp only;exact ⟨om,(by rw [List.range_succ,List.map_append];exact (ins_perm.trans<|List.Perm.cons _ hp).trans (List.perm_append_comm (l₁:=[(k:Int)]))),om⟩
   refine Sr C (Eb (α:=Int) (xs:=os) (l:=(M).toNat) Aa ef C C om A7 om) Aj ?_
   refine Ds1 4<|Se1 C (B9 (α:=Int) (cs:=[_]) (xs:=[(k:Int)]) Aa ef C C dc dc C C C C) λbn=>?_
   refine Ds1 8<|Se2 C (B4 (α:=Int) (e:=3) (xs:=([(k:Int)]:List Int)) (ys:=List.drop ((M).toNat) os) Aa ef C C C mm (C8 A7 om) (by simp only [List.length_cons,List.length_nil,List.length_append,List.length_take,List.length_drop];omega) dc C<|λ_ _=>am) λax ah=>?_
   refine D.fit (J:=vc 3 (.slice a (List.take ((M).toNat) os).length c) (List.take ((M).toNat) os)::vc 3 (.slice ax (([(k:Int)]:List Int)++(List.drop ((M).toNat) os)).length ah) (([(k:Int)]:List Int)++(List.drop ((M).toNat) os))::e8 b [lv,e7 i2] 65::I) (Ak (show Fit κ _ (vc 3 (.slice a os.length c) (os)::vc 3 (.slice ax (([(k:Int)]:List Int)++(List.drop ((M).toNat) os)).length ah) (([(k:Int)]:List Int)++(List.drop ((M).toNat) os))::e8 b [lv,e7 i2] 65::I) from Bb)<|E3 (α:=Int) C) ?_
   refine Ds1 9<|Se2 C (B4 (α:=Int) (e:=3) (xs:=List.take ((M).toNat) os) (ys:=([(k:Int)]:List Int)++(List.drop ((M).toNat) os)) Aa ef C C C mm A7 (by simp only [List.length_cons,List.length_nil,List.length_append,List.length_take,List.length_drop];omega) dc C<|λ_ _=>am) λaw a1=>Z ?_
   exact B5 ((k+1),(aw),(a1),((List.take ((M).toNat) os)++(([(k:Int)]:List Int)++(List.drop ((M).toNat) os))),(i2))<|by dsimp only;exact ⟨om,(by rw [List.range_succ,List.map_append];exact (ins_perm.trans<|List.Perm.cons _ hp).trans (List.perm_append_comm (l₁:=[(k:Int)]))),om⟩
  ·refine Se1 C (B9 (α:=Int) (cs:=[_]) (xs:=[(k:Int)]) Aa ef C C dc dc C C C C) λbg=>?_
   refine C0 (rs:=[2,7]) kr C C<|D6 ?_<|Dv ?_
   ·refine Sr C (Runs.hi (α:=Int) (xs:=os) (h:=(M).toNat) Aa ef C C om A7 om) Aj ?_
    refine Ds1 7<|Sr C (Eb (α:=Int) (xs:=os) (l:=(M).toNat) Aa ef C C om A7 om) Aj ?_
    refine Ds1 8<|Se2 C (B4 (α:=Int) (e:=3) (xs:=([(k:Int)]:List Int)) (ys:=List.drop ((M).toNat) os) Aa ef C C C mm (C8 A7 om) (by simp only [List.length_cons,List.length_nil,List.length_append,List.length_take,List.length_drop];omega) dc C<|λ_ _=>am) λaa ae=>?_
    refine D.fit (J:=vc 3 (.slice a (List.take ((M).toNat) os).length c) (List.take ((M).toNat) os)::vc 3 (.slice aa (([(k:Int)]:List Int)++(List.drop ((M).toNat) os)).length ae) (([(k:Int)]:List Int)++(List.drop ((M).toNat) os))::e8 b [lv,e7 i2] 65::I) (Ak (show Fit κ _ (vc 3 (.slice a os.length c) (os)::vc 3 (.slice aa (([(k:Int)]:List Int)++(List.drop ((M).toNat) os)).length ae) (([(k:Int)]:List Int)++(List.drop ((M).toNat) os))::e8 b [lv,e7 i2] 65::I) from Bb)<|E3 (α:=Int) C) ?_
    refine Ds1 9<|Se2 C (B4 (α:=Int) (e:=3) (xs:=List.take ((M).toNat) os) (ys:=([(k:Int)]:List Int)++(List.drop ((M).toNat) os)) Aa ef C C C mm A7 (by simp only [List.length_cons,List.length_nil,List.length_append,List.length_take,List.length_drop];omega) dc C<|λ_ _=>am) λa0 bb=>Z ?_
    exact B5 ((k+1),(a0),(bb),((List.take ((M).toNat) os)++(([(k:Int)]:List Int)++(List.drop ((M).toNat) os))),(i2))<|by dsimp only;exact ⟨om,(by rw [List.range_succ,List.map_append];exact (ins_perm.trans<|List.Perm.cons _ hp).trans (List.perm_append_comm (l₁:=[(k:Int)]))),om⟩
   refine Sr C (Eb (α:=Int) (xs:=os) (l:=(M).toNat) Aa ef C C om A7 om) Aj ?_
   refine C0 (rs:=[2,8]) kr C C<|D6 ?_<|Dv ?_
   ·refine Sr C (Runs.hi (α:=Int) (xs:=os) (h:=(M).toNat) Aa ef C C om A7 om) Aj ?_
    refine Ds1 8<|Se2 C (B4 (α:=Int) (e:=3) (xs:=([(k:Int)]:List Int)) (ys:=List.drop ((M).toNat) os) Aa ef C C C mm (C8 A7 om) (by simp only [List.length_cons,List.length_nil,List.length_append,List.length_take,List.length_drop];omega) dc C<|λ_ _=>am) λab ai=>?_
    refine D.fit (J:=vc 3 (.slice a (List.take ((M).toNat) os).length c) (List.take ((M).toNat) os)::vc 3 (.slice ab (([(k:Int)]:List Int)++(List.drop ((M).toNat) os)).length ai) (([(k:Int)]:List Int)++(List.drop ((M).toNat) os))::e8 b [lv,e7 i2] 65::I) (Ak (show Fit κ _ (vc 3 (.slice a os.length c) (os)::vc 3 (.slice ab (([(k:Int)]:List Int)++(List.drop ((M).toNat) os)).length ai) (([(k:Int)]:List Int)++(List.drop ((M).toNat) os))::e8 b [lv,e7 i2] 65::I) from Bb)<|E3 (α:=Int) C) ?_
    refine Ds1 9<|Se2 C (B4 (α:=Int) (e:=3) (xs:=List.take ((M).toNat) os) (ys:=([(k:Int)]:List Int)++(List.drop ((M).toNat) os)) Aa ef C C C mm A7 (by simp only [List.length_cons,List.length_nil,List.length_append,List.length_take,List.length_drop];omega) dc C<|λ_ _=>am) λau a7=>Z ?_
    exact B5 ((k+1),(au),(a7),((List.take ((M).toNat) os)++(([(k:Int)]:List Int)++(List.drop ((M).toNat) os))),(i2))<|by dsimp only;exact ⟨om,(by rw [List.range_succ,List.map_append];exact (ins_perm.trans<|List.Perm.cons _ hp).trans (List.perm_append_comm (l₁:=[(k:Int)]))),om⟩
   refine Se2 C (B4 (α:=Int) (e:=3) (xs:=([(k:Int)]:List Int)) (ys:=List.drop ((M).toNat) os) Aa ef C C C mm (C8 A7 om) (by simp only [List.length_cons,List.length_nil,List.length_append,List.length_take,List.length_drop];omega) dc C<|λ_ _=>am) λaj ap=>?_
   refine Ds1 2<|Sr C (Runs.hi (α:=Int) (xs:=os) (h:=(M).toNat) Aa ef C C om A7 om) Aj ?_
   refine D.fit (J:=vc 3 (.slice a (List.take ((M).toNat) os).length c) (List.take ((M).toNat) os)::vc 3 (.slice aj (([(k:Int)]:List Int)++(List.drop ((M).toNat) os)).length ap) (([(k:Int)]:List Int)++(List.drop ((M).toNat) os))::e8 b [lv,e7 i2] 65::I) (Ak (show Fit κ _ (vc 3 (.slice a os.length c) (os)::vc 3 (.slice aj (([(k:Int)]:List Int)++(List.drop ((M).toNat) os)).length ap) (([(k:Int)]:List Int)++(List.drop ((M).toNat) os))::e8 b [lv,e7 i2] 65::I) from Bb)<|E3 (α:=Int) C) ?_
   refine Ds1 9<|Se2 C (B4 (α:=Int) (e:=3) (xs:=List.take ((M).toNat) os) (ys:=([(k:Int)]:List Int)++(List.drop ((M).toNat) os)) Aa ef C C C mm A7 (by simp only [List.length_cons,List.length_nil,List.length_append,List.length_take,List.length_drop];omega) dc C<|λ_ _=>am) λa4 av=>Z ?_
   exact B5 ((k+1),(a4),(av),((List.take ((M).toNat) os)++(([(k:Int)]:List Int)++(List.drop ((M).toNat) os))),(i2))<|by dsimp only;exact ⟨om,(by rw [List.range_succ,List.map_append];exact (ins_perm.trans<|List.Perm.cons _ hp).trans (List.perm_append_comm (l₁:=[(k:Int)]))),om⟩
  refine Sr C (Eb (α:=Int) (xs:=os) (l:=(M).toNat) Aa ef C C om A7 om) Aj ?_
  refine C0 (rs:=[2,4]) kr C C<|D6 ?_<|Dv ?_
  ·refine Sr C (Runs.hi (α:=Int) (xs:=os) (h:=(M).toNat) Aa ef C C om A7 om) Aj ?_
   refine Ds1 4<|Se1 C (B9 (α:=Int) (cs:=[_]) (xs:=[(k:Int)]) Aa ef C C dc dc C C C C) λbh=>?_
   refine Ds1 8<|Se2 C (B4 (α:=Int) (e:=3) (xs:=([(k:Int)]:List Int)) (ys:=List.drop ((M).toNat) os) Aa ef C C C mm (C8 A7 om) (by simp only [List.length_cons,List.length_nil,List.length_append,List.length_take,List.length_drop];omega) dc C<|λ_ _=>am) λao ak=>?_
   refine D.fit (J:=vc 3 (.slice a (List.take ((M).toNat) os).length c) (List.take ((M).toNat) os)::vc 3 (.slice ao (([(k:Int)]:List Int)++(List.drop ((M).toNat) os)).length ak) (([(k:Int)]:List Int)++(List.drop ((M).toNat) os))::e8 b [lv,e7 i2] 65::I) (Ak (show Fit κ _ (vc 3 (.slice a os.length c) (os)::vc 3 (.slice ao (([(k:Int)]:List Int)++(List.drop ((M).toNat) os)).length ak) (([(k:Int)]:List Int)++(List.drop ((M).toNat) os))::e8 b [lv,e7 i2] 65::I) from Bb)<|E3 (α:=Int) C) ?_
   refine Ds1 9<|Se2 C (B4 (α:=Int) (e:=3) (xs:=List.take ((M).toNat) os) (ys:=([(k:Int)]:List Int)++(List.drop ((M).toNat) os)) Aa ef C C C mm A7 (by simp only [List.length_cons,List.length_nil,List.length_append,List.length_take,List.length_drop];omega) dc C<|λ_ _=>am) λba a3=>Z ?_
   exact B5 ((k+1),(ba),(a3),((List.take ((M).toNat) os)++(([(k:Int)]:List Int)++(List.drop ((M).toNat) os))),(i2))<|by dsimp only;exact ⟨om,(by rw [List.range_succ,List.map_append];exact (ins_perm.trans<|List.Perm.cons _ hp).trans (List.perm_append_comm (l₁:=[(k:Int)]))),om⟩
  refine Se1 C (B9 (α:=Int) (cs:=[_]) (xs:=[(k:Int)]) Aa ef C C dc dc C C C C) λbi=>?_
  refine C0 (rs:=[2,8]) kr C C<|D6 ?_<|Dv ?_
  ·refine Sr C (Runs.hi (α:=Int) (xs:=os) (h:=(M).toNat) Aa ef C C om A7 om) Aj ?_
   refine Ds1 8<|Se2 C (B4 (α:=Int) (e:=3) (xs:=([(k:Int)]:List Int)) (ys:=List.drop ((M).toNat) os) Aa ef C C C mm (C8 A7 om) (by simp only [List.length_cons,List.length_nil,List.length_append,List.length_take,List.length_drop];omega) dc C<|λ_ _=>am) λan ad=>?_
   refine D.fit (J:=vc 3 (.slice a (List.take ((M).toNat) os).length c) (List.take ((M).toNat) os)::vc 3 (.slice an (([(k:Int)]:List Int)++(List.drop ((M).toNat) os)).length ad) (([(k:Int)]:List Int)++(List.drop ((M).toNat) os))::e8 b [lv,e7 i2] 65::I) (Ak (show Fit κ _ (vc 3 (.slice a os.length c) (os)::vc 3 (.slice an (([(k:Int)]:List Int)++(List.drop ((M).toNat) os)).length ad) (([(k:Int)]:List Int)++(List.drop ((M).toNat) os))::e8 b [lv,e7 i2] 65::I) from Bb)<|E3 (α:=Int) C) ?_
   refine Ds1 9<|Se2 C (B4 (α:=Int) (e:=3) (xs:=List.take ((M).toNat) os) (ys:=([(k:Int)]:List Int)++(List.drop ((M).toNat) os)) Aa ef C C C mm A7 (by simp only [List.length_cons,List.length_nil,List.length_append,List.length_take,List.length_drop];omega) dc C<|λ_ _=>am) λa9 a6=>Z ?_
   exact B5 ((k+1),(a9),(a6),((List.take ((M).toNat) os)++(([(k:Int)]:List Int)++(List.drop ((M).toNat) os))),(i2))<|by dsimp only;exact ⟨om,(by rw [List.range_succ,List.map_append];exact (ins_perm.trans<|List.Perm.cons _ hp).trans (List.perm_append_comm (l₁:=[(k:Int)]))),om⟩
  refine Se2 C (B4 (α:=Int) (e:=3) (xs:=([(k:Int)]:List Int)) (ys:=List.drop ((M).toNat) os) Aa ef C C C mm (C8 A7 om) (by simp only [List.length_cons,List.length_nil,List.length_append,List.length_take,List.length_drop];omega) dc C<|λ_ _=>am) λar aq=>?_
  refine Ds1 2<|Sr C (Runs.hi (α:=Int) (xs:=os) (h:=(M).toNat) Aa ef C C om A7 om) Aj ?_
  refine D.fit (J:=vc 3 (.slice a (List.take ((M).toNat) os).length c) (List.take ((M).toNat) os)::vc 3 (.slice ar (([(k:Int)]:List Int)++(List.drop ((M).toNat) os)).length aq) (([(k:Int)]:List Int)++(List.drop ((M).toNat) os))::e8 b [lv,e7 i2] 65::I) (Ak (show Fit κ _ (vc 3 (.slice a os.length c) (os)::vc 3 (.slice ar (([(k:Int)]:List Int)++(List.drop ((M).toNat) os)).length aq) (([(k:Int)]:List Int)++(List.drop ((M).toNat) os))::e8 b [lv,e7 i2] 65::I) from Bb)<|E3 (α:=Int) C) ?_
  refine Ds1 9<|Se2 C (B4 (α:=Int) (e:=3) (xs:=List.take ((M).toNat) os) (ys:=([(k:Int)]:List Int)++(List.drop ((M).toNat) os)) Aa ef C C C mm A7 (by simp only [List.length_cons,List.length_nil,List.length_append,List.length_take,List.length_drop];omega) dc C<|λ_ _=>am) λa5 a8=>Z ?_
  exact B5 ((k+1),(a5),(a8),((List.take ((M).toNat) os)++(([(k:Int)]:List Int)++(List.drop ((M).toNat) os))),(i2))<|by dsimp only;exact ⟨om,(by rw [List.range_succ,List.map_append];exact (ins_perm.trans<|List.Perm.cons _ hp).trans (List.perm_append_comm (l₁:=[(k:Int)]))),om⟩
 exact Ai C C _ Ah ⟨(a,c,os,iq),⟨⟨rfl,hp.nodup_iff.2<|List.pairwise_map.2<|List.nodup_range.imp λh=>by omega,λx hx=>by obtain ⟨i,hi,rfl⟩:=List.mem_map.1 (hp.mem_iff.1 hx);have:=List.mem_range.1 hi;omega,(show os.length=n.toNat from by omega)⟩,by omega⟩,rfl⟩
theorem Order_at{F:Item->List Item}{lv:Value}(M:AtF I (deck b lv i) F)(hl:∀q,Sl κ (F (deck b lv q)) lv ls)(h0:0<=i)(hn:n<=1000):eu prog κ 40 [.pointer (some ⟨b,0,none⟩),e7 n] I λr J=>∃y:(Option Addr)×Nat×(List Int)×Int,((r = .slice y.1 y.2.2.1.length y.2.1/\(y.2.2.1.Nodup/\(∀x∈y.2.2.1,0<=x/\x<n)/\y.2.2.1.length=n.toNat))/\0<=y.2.2.2)/\J=[vc 3 (.slice y.1 y.2.2.1.length y.2.1) y.2.2.1]++F (deck b lv y.2.2.2):=
 Ep (Post:=λr (y:(Option Addr)×Nat×(List Int)×Int)=>(r = .slice y.1 y.2.2.1.length y.2.1/\(y.2.2.1.Nodup/\(∀x∈y.2.2.1,0<=x/\x<n)/\y.2.2.1.length=n.toNat))/\0<=y.2.2.2) (Z:=λy:(Option Addr)×Nat×(List Int)×Int=>[vc 3 (.slice y.1 y.2.2.1.length y.2.1) y.2.2.1]) (X:=λy:(Option Addr)×Nat×(List Int)×Int=>deck b lv y.2.2.2) M λJ _ hF=>Order_base (λq=>(hl q).fit (hF _)) h0  hn
end Go.Sl
/- The densest set as the best of all sets, each once: the greatest set of the greatest density. No Go. No conditions. -/
namespace Go.Sl
end Go.Sl
namespace Go.Sl
open Go.Proofs
set_option maxRecDepth 4000
variable{nd:Int}{es:List Pt}
theorem edges_sq(M:GrOk nd es):es.length<=nd.toNat*nd.toNat:=by
 have hs:∀e∈es,e∈(List.range nd.toNat).flatMap fun (v:Nat)=>(List.range nd.toNat).map fun (u:Nat)=>(⟨(u:Int),(v:Int)⟩:Pt):=λe he=>by
  have h:=M.edge e he
  have hr:=M.rng
  refine List.mem_flatMap.2 ⟨e.v.toNat,List.mem_range.2 om,List.mem_map.2 ⟨e.u.toNat,List.mem_range.2 om,?_⟩⟩
  rw [E6]
  exact ⟨by show ((e.u.toNat:Nat):Int)=e.u;omega,by show ((e.v.toNat:Nat):Int)=e.v;omega⟩
 have hl:=List.Nodup.length_le_of_subset (asc_nodup M.asc) hs
 rw [flat_len _ nd.toNat (λv=>by rw [List.length_map,List.length_range])] at hl
 exact hl
theorem edges_7(M:GrOk nd es)(h7:nd<=7):es.length<=1000:=by
 have h1:=edges_sq M
 have h2:nd.toNat*nd.toNat<=7*7:=Nat.mul_le_mul om om
 omega
end Go.Sl
