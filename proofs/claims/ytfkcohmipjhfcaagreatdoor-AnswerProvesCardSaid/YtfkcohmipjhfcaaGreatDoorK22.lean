/- A part of the proofs of statements of this seat: contracts of functions, and the plain laws that they lean on. No conditions. -/
import Derived.Test.YtfkcohmipjhfcaaGreatDoorK21
set_option linter.unusedVariables false
set_option linter.unusedSimpArgs false
set_option linter.unusedSectionVars false
open Go.Proofs.Tryz (prog)
open List (replicate)
namespace Go.Sl
open Go.Proofs
set_option maxRecDepth 4000
variable {κ:Ctx}{I:List Item}
set_option maxHeartbeats 1000000 in
theorem Ans1_ok{nd kd wd mo tq:Int}{node:Int}{ea:Option Addr}{ec:Nat}{es:List Ev}(hl:Sl κ I (.slice ea es.length ec) es)(hH:HistOk nd kd wd mo es)(hlen:es.length<=19)(ht:0<=tq/\tq<=1048576)(hT:TabRd κ I 0 tzCells)(hn:0<=node/\node<nd):eu prog κ 178 [.agg #[e7 nd,.slice ea es.length ec,e7 kd,e7 wd,e7 mo],.agg #[e7 1,e7 node,e7 0,e7 tq,.slice none 0 0,e7 0,e7 0]] I (λr J=>∃a c a2 c2,r = .agg #[.bool true,e7 (e_ (coreN nd (atG kd wd mo es tq)) node),e7 0,.slice none 0 0,e7 0,e7 0,.slice none 0 0,.slice a2 (coreO nd (atG kd wd mo es tq)).length c2,.slice a (coreN nd (atG kd wd mo es tq)).length c,e7 0,.slice none 0 0]/\J=vc 3 (.slice a (coreN nd (atG kd wd mo es tq)).length c) (coreN nd (atG kd wd mo es tq))::vc 3 (.slice a2 (coreO nd (atG kd wd mo es tq)).length c2) (coreO nd (atG kd wd mo es tq))::I):=by
 refine Ce2 Tryz.func178 C C ?_
 refine Ai (Ge1 (A9 (cs:=[_,_,_,_,_]) C C C) λb1=>Ge1 (A9 (cs:=[_,_,_,_,_,_,_]) C C C) λb2=>Ge1 (Au ty90 C) λb3=>Af (Ai (Gr (Bd (vs:=[_,_,_,_,_]) ty163) ?_)))
 refine Gf fld71_3 C (Gl ef ?_)
 refine Gc2 (Ah call180 C C (PAt_ok (nd:=nd) (kd:=kd) (wd:=wd) (mo:=mo) (tq:=tq) (Ba hl) hH hlen ht)) λad4 cp5=>?_
 refine Gr (Bc (cells:=[_,_,_,_,_,_,_,_,_,_,_]) ty90 D3 pl90 C C) (G.e (Ah call179 C C (Proved_ok (nd:=nd) (n0:=0) (fb:=true) Bk (hH.graph _) (Bx hT A3))) ?_)
 rintro _ _ ⟨_,_,⟨ad6,cp7,ad8,cp9,rfl,rfl⟩,rfl,rfl⟩
 refine Ge1 (Au ty90 C) λb10=>Ge0 (Ce (cs:=[_,_,_,_,_,_,_,_,_,_,_]) (vs:=[_,_,_,_,_,_,_,_,_,_,_]) (cs':=[_,_,_,_,_,_,_,_,_,_,_]) ty90) ?_
 refine Af (Ai (Gf fld90_7 C (Gl ty22 ?_)))
 refine Gf fld71_1 C (Gl ef ?_)
 refine Gr (Az (α:=Int) (xs:=coreN nd (atG kd wd mo es tq)) Ac ef C C Bk om (by have h9:=coreN_lenG (hH.graph tq);omega)) (Gr (Bo (xs:=coreN nd (atG kd wd mo es tq)) ef C Bk om (by have h9:=coreN_lenG (hH.graph tq);omega)) (Gf fld90_1 C (Ge0 (Ce (cs:=[_,_,_,_,_,_,_,_,_,_,_]) (vs:=[_]) (cs':=[_,_,_,_,_,_,_,_,_,_,_]) ef) ?_)))
 refine Af (Aq (S2 5 4 C C) (Ai (Gr (Bd (vs:=[_,_,_,_,_,_,_,_,_,_,_]) ty90) ?_)))
 refine Ge0 (Ce (cs:=[_,_,_,_,_,_,_,_,_,_,_]) (vs:=[_,_,_,_,_,_,_,_,_,_,_]) (cs':=[_,_,_,_,_,_,_,_,_,_,_]) ty90) ?_
 exact Af (A2 (C5 C ty90 C mm C (vc 3 (.slice ad6 (coreN nd (atG kd wd mo es tq)).length cp7) (coreN nd (atG kd wd mo es tq))::vc 3 (.slice ad8 (coreO nd (atG kd wd mo es tq)).length cp9) (coreO nd (atG kd wd mo es tq))::I) B7 ⟨ad6,cp7,ad8,cp9,rfl,rfl⟩))
set_option maxHeartbeats 1000000 in
theorem Ans2_ok{nd kd wd mo tq:Int}{node lv:Int}{ea:Option Addr}{ec:Nat}{es:List Ev}(hl:Sl κ I (.slice ea es.length ec) es)(hH:HistOk nd kd wd mo es)(hlen:es.length<=19)(ht:0<=tq/\tq<=1048576)(hT:TabRd κ I 0 tzCells)(hn:0<=node/\node<nd)(hlv:0<=lv/\lv<=64):eu prog κ 181 [.agg #[e7 nd,.slice ea es.length ec,e7 kd,e7 wd,e7 mo],.agg #[e7 2,e7 node,e7 lv,e7 tq,.slice none 0 0,e7 0,e7 0]] I (λr J=>∃a c a2 c2 a3 c3,r = .agg #[.bool (decide (0<(((commG nd (atG kd wd mo es tq) node lv).length:Nat):Int))),e7 0,e7 0,.slice a3 (commG nd (atG kd wd mo es tq) node lv).length c3,e7 0,e7 0,.slice none 0 0,.slice a2 (coreO nd (atG kd wd mo es tq)).length c2,.slice a (coreN nd (atG kd wd mo es tq)).length c,e7 0,.slice none 0 0]/\J=vc 3 (.slice a3 (commG nd (atG kd wd mo es tq) node lv).length c3) (commG nd (atG kd wd mo es tq) node lv)::vc 3 (.slice a (coreN nd (atG kd wd mo es tq)).length c) (coreN nd (atG kd wd mo es tq))::vc 3 (.slice a2 (coreO nd (atG kd wd mo es tq)).length c2) (coreO nd (atG kd wd mo es tq))::I):=by
 refine Ce2 Tryz.func181 C C ?_
 refine Ai (Ge1 (A9 (cs:=[_,_,_,_,_]) C C C) λb1=>Ge1 (A9 (cs:=[_,_,_,_,_,_,_]) C C C) λb2=>Ge1 (Au ty90 C) λb3=>Af (Ai (Gr (Bd (vs:=[_,_,_,_,_]) ty163) ?_)))
 refine Gf fld71_3 C (Gl ef ?_)
 refine Gc2 (Ah call180 C C (PAt_ok (nd:=nd) (kd:=kd) (wd:=wd) (mo:=mo) (tq:=tq) (Ba hl) hH hlen ht)) λad4 cp5=>?_
 refine Ge1 (Au ty48 C) λb6=>Ge0 (Bq ty48) ?_
 refine Af (Ai (Gl2 ty48 ?_))
 refine Gf fld71_1 C (Gl ef ?_)
 refine Gf fld71_2 C (Gl ef ?_)
 refine G.e (Ah call59 C C (Comm_ok (nd:=nd) (v:=node) (lv:=lv) Bk (hH.graph _) hn (Bx hT A3))) ?_
 rintro _ _ ⟨_,_,⟨ad7,cp8,rfl,rfl⟩,rfl,rfl⟩
 refine Gm C (Gr (Aw C C) (Gr (Aw C C) (Ga C (Ga C (Af (Aq (S3 6 5 4 C C C) (Ai (Gl2 ty48 ?_))))))))
 refine Gm C (Gr (Bs Ac C) (Gr (Bw C C) (Gm C (Gr (Bc (cells:=[_,_,_,_,_,_,_,_,_,_,_]) ty90 D3 pl90 C C) (G.e (Ah call179 C C (Proved_ok (nd:=nd) (n0:=0) (fb:=(decide (0<(((commG nd (atG kd wd mo es tq) node lv).length:Nat):Int)))) Bk (hH.graph _) (Bx hT A3))) ?_)))))
 rintro _ _ ⟨_,_,⟨ad9,cp10,ad11,cp12,rfl,rfl⟩,rfl,rfl⟩
 refine Ge0 (Ce (cs:=[_,_,_,_,_,_,_,_,_,_,_]) (vs:=[_,_,_,_,_,_,_,_,_,_,_]) (cs':=[_,_,_,_,_,_,_,_,_,_,_]) ty90) ?_
 exact Af (A2 (C5 C ty90 C mm C (vc 3 (.slice ad7 (commG nd (atG kd wd mo es tq) node lv).length cp8) (commG nd (atG kd wd mo es tq) node lv)::vc 3 (.slice ad9 (coreN nd (atG kd wd mo es tq)).length cp10) (coreN nd (atG kd wd mo es tq))::vc 3 (.slice ad11 (coreO nd (atG kd wd mo es tq)).length cp12) (coreO nd (atG kd wd mo es tq))::I) B7 ⟨ad9,cp10,ad11,cp12,ad7,cp8,rfl,rfl⟩))
set_option maxHeartbeats 1000000 in
theorem Ans3_ok{nd kd wd mo tq:Int}{ea:Option Addr}{ec:Nat}{es:List Ev}(hl:Sl κ I (.slice ea es.length ec) es)(hH:HistOk nd kd wd mo es)(hlen:es.length<=19)(ht:0<=tq/\tq<=1048576)(hT:TabRd κ I 0 tzCells){S:List Int}{sa:Option Addr}{sc:Nat}(hs:Sl κ I (.slice sa S.length sc) S)(hv:ValidP S nd)(h2:S.length=2):eu prog κ 182 [.agg #[e7 nd,.slice ea es.length ec,e7 kd,e7 wd,e7 mo],.agg #[e7 3,e7 0,e7 0,e7 tq,.slice sa S.length sc,e7 0,e7 0]] I (λr J=>∃(y:Int) (fd:Bool) (num:Int) (a:Option Addr) (c:Nat) (Nl:List Int) (a2:Option Addr) (c2:Nat) (Ol:List Int),r = .agg #[.bool fd,e7 num,e7 0,.slice none 0 0,e7 0,e7 0,.slice none 0 0,.slice a2 Ol.length c2,.slice a Nl.length c,e7 0,.slice none 0 0]/\EdgeR nd (atG kd wd mo es tq) S y fd num Nl Ol/\J=vc 3 (.slice a Nl.length c) Nl::vc 3 (.slice a2 Ol.length c2) Ol::I):=by
 refine Ce2 Tryz.func182 C C ?_
 refine Ai (Ge1 (A9 (cs:=[_,_,_,_,_]) C C C) λb1=>Ge1 (A9 (cs:=[_,_,_,_,_,_,_]) C C C) λb2=>Ge1 (Au ty90 C) λb3=>Af (Ap (Bl mixed (Bt (e8 b3 [.bool false,e7 0,e7 0,.slice none 0 0,e7 0,e7 0,.slice none 0 0,.slice none 0 0,.slice none 0 0,e7 0,.slice none 0 0] 90::e8 b2 [e7 3,e7 0,e7 0,e7 tq,.slice sa S.length sc,e7 0,e7 0] 71::e8 b1 [e7 nd,.slice ea es.length ec,e7 kd,e7 wd,e7 mo] 163::I) 6 (Dr 0 C (Bd (vs:=[_,_,_,_,_]) ty163) ?_)))))
 refine Dr 1 C (Ab fld71_3 C) (Dr 2 C (As ef) ?_)
 refine Dr 4 C (Bd (vs:=[_,_,_,_,_,_,_]) ty71) ?_
 refine Ds1 3 (Sc2 C (Ah call180 C C (PAt_ok (nd:=nd) (kd:=kd) (wd:=wd) (mo:=mo) (tq:=tq) (Ba hl) hH hlen ht)) λad4 cp5=>?_)
 refine Ds1 5 (Se C (Ah call183 C C (AEdge_ok (nd:=nd) (tq:=tq) Bk (hH.graph _) (Bx hT A3) (Ba hs) hv h2)) ?_)
 rintro _ _ ⟨_,_,⟨ye6,fd7,nm8,ad9,cp10,NL11,ad12,cp13,OL14,rfl,hEye6,rfl⟩,rfl,rfl⟩
 refine ⟨A1,?_⟩
 refine C0 kr ?_
 refine Ae 6 C (Ce (cs:=[_,_,_,_,_,_,_,_,_,_,_]) (vs:=[_,_,_,_,_,_,_,_,_,_,_]) (cs':=[_,_,_,_,_,_,_,_,_,_,_]) ty90) ?_
 rintro _ _ ⟨rfl,rfl⟩
 refine C1 kr ?_
 exact Aj (A2 (C5 C ty90 C mm C (vc 3 (.slice ad9 NL11.length cp10) NL11::vc 3 (.slice ad12 OL14.length cp13) OL14::I) B7 ⟨ye6,fd7,nm8,ad9,cp10,NL11,ad12,cp13,OL14,rfl,hEye6,rfl⟩))
set_option maxHeartbeats 1000000 in
theorem Ans5_ok{nd kd wd mo tq:Int}{ea:Option Addr}{ec:Nat}{es:List Ev}(hl:Sl κ I (.slice ea es.length ec) es)(hH:HistOk nd kd wd mo es)(hlen:es.length<=19)(ht:0<=tq/\tq<=1048576)(hT:TabRd κ I 0 tzCells):eu prog κ 185 [.agg #[e7 nd,.slice ea es.length ec,e7 kd,e7 wd,e7 mo],.agg #[e7 5,e7 0,e7 0,e7 tq,.slice none 0 0,e7 0,e7 0]] I (λr J=>∃a c B a2 c2 parts N D E,r = .agg #[.bool true,e7 0,e7 0,.slice a (eo B).length c,e7 N,e7 D,.slice none 0 0,.slice none 0 0,.slice none 0 0,e7 E,.slice a2 (parts:List Int).length c2]/\(BestR nd (atG kd wd mo es tq) N D B/\SplitB nd (atG kd wd mo es tq) N D E parts)/\J=vc 3 (.slice a (eo B).length c) (eo B)::vc 3 (.slice a2 parts.length c2) parts::I):=by
 refine Ce2 Tryz.func185 C C ?_
 refine Ai (Ge1 (A9 (cs:=[_,_,_,_,_]) C C C) λb1=>Ge1 (A9 (cs:=[_,_,_,_,_,_,_]) C C C) λb2=>Ge1 (Au ty90 C) λb3=>Af (Ai (Gr (Bd (vs:=[_,_,_,_,_]) ty163) ?_)))
 refine Gf fld71_3 C (Gl ef ?_)
 refine Gc2 (Ah call180 C C (PAt_ok (nd:=nd) (kd:=kd) (wd:=wd) (mo:=mo) (tq:=tq) (Ba hl) hH hlen ht)) λad4 cp5=>?_
 refine Gr (Bc (cells:=[_,_,_,_,_,_,_,_,_,_,_]) ty90 D3 pl90 C C) (G.e (Ah call186 C C (ADense_ok (nd:=nd) (tv:=0) Bk (Bx hT A3))) ?_)
 rintro _ _ ⟨_,_,⟨ad6,cp8,BB9,ad10,cp11,pt12,NN13,DD14,EE15,rfl,⟨hBR,hSB⟩,rfl⟩,rfl,rfl⟩
 refine Ge0 (Ce (cs:=[_,_,_,_,_,_,_,_,_,_,_]) (vs:=[_,_,_,_,_,_,_,_,_,_,_]) (cs':=[_,_,_,_,_,_,_,_,_,_,_]) ty90) ?_
 exact Af (A2 (C5 C ty90 C mm C (vc 3 (.slice ad6 (eo BB9).length cp8) (eo BB9)::vc 3 (.slice ad10 pt12.length cp11) pt12::I) B7 ⟨ad6,cp8,BB9,ad10,cp11,pt12,NN13,DD14,EE15,rfl,⟨hBR,hSB⟩,rfl⟩))
set_option maxHeartbeats 1000000 in
theorem Ask1_ok{nd kd wd mo tq:Int}{node:Int}{ea:Option Addr}{ec:Nat}{es:List Ev}(hl:Sl κ I (.slice ea es.length ec) es)(hH:HistOk nd kd wd mo es)(hlen:es.length<=19)(ht:0<=tq/\tq<=1048576)(hT:TabRd κ I 0 tzCells)(hn:0<=node/\node<nd):eu prog κ 56 [e7 nd,.slice ea es.length ec,.agg #[e7 kd,e7 wd,e7 mo],.agg #[e7 1,e7 node,e7 0,e7 tq,.slice none 0 0,e7 0,e7 0]] I (λr J=>∃a c a2 c2,r = .tuple #[.agg #[.bool true,e7 (e_ (coreN nd (atG kd wd mo es tq)) node),e7 0,.slice none 0 0,e7 0,e7 0,.slice none 0 0,.slice a2 (coreO nd (atG kd wd mo es tq)).length c2,.slice a (coreN nd (atG kd wd mo es tq)).length c,e7 0,.slice none 0 0],e7 0]/\J=vc 3 (.slice a (coreN nd (atG kd wd mo es tq)).length c) (coreN nd (atG kd wd mo es tq))::vc 3 (.slice a2 (coreO nd (atG kd wd mo es tq)).length c2) (coreO nd (atG kd wd mo es tq))::I):=by
 refine Ce4 Tryz.func56 C C ?_
 refine Ai (Ge1 (A9 (cs:=[_,_,_]) C C C) λb1=>Ge1 (A9 (cs:=[_,_,_,_,_,_,_]) C C C) λb2=>Ge1 (Au ty90 C) λb3=>Ga C (Af (Ap (Ai (Gm C (Gm C (Gl3 ty31 ?_)))))))
 refine Gc0 (Ah call97 C C (ACheck_ok (nd:=nd) (kd:=kd) (wd:=wd) (mo:=mo) (Ba hl))) ?_
 refine Ga C (Af (Ai (Gm C (Gr (Br C C) (Af (Aq (S7 17 10 8 7 6 0 1 C C C C C C C) (A8 C (λc17=>?_) (λc17=>?_))))))))
 ·exact absurd (slideE_zeroH hH) c17
 ·refine Ay (Aj (Ap (Ai (Gl7 ty71 ?_))))
  refine Gm C (Gc0 (Ah call105 C C (QCheck1_ok (nd:=nd) (tq:=tq) (node:=node) ht hn)) ?_)
  refine Ga C (Af (Ai (Gm C (Gr (Br C C) (Af (A8 C (λc24=>?_) (λc24=>?_)))))))
  ·exact absurd rfl c24
  ·refine Ay (Aj (Ap (Bl mixed (Bt (e8 b2 [e7 1,e7 node,e7 0,e7 tq,.slice none 0 0,e7 0,e7 0] 71::e8 b1 [e7 kd,e7 wd,e7 mo] 31::I) 12 (Dr 1 C (Ab fld71_0 C) (Dr 2 C (As ef) ?_))))))
   refine Dr 4 C (Ad C) (Dr 5 C (Ad C) (Dr 6 C (Bd (vs:=[_,_,_]) ty31) ?_))
   refine Dr 7 C (Bc (cells:=[_,_,_,_,_]) ty163 Eb pl163 C C) (Dr 8 C (Bd (vs:=[_,_,_,_,_,_,_]) ty71) ?_)
   refine Ds1 0 (Se C (Ah call106 C C Answers_ok) ?_)
   rintro _ _ ⟨_,_,⟨mp4,rfl,rfl⟩,rfl,rfl⟩
   refine ⟨A1,?_⟩
   refine Ds1 3 (Sr C (D7 (i:=0) Cd Bj C C C mm C) A1 ?_)
   refine Ds1 9 (Se C (Cw call178 C C C (Ans1_ok (nd:=nd) (kd:=kd) (wd:=wd) (mo:=mo) (tq:=tq) (node:=node) (Ba hl) hH hlen ht (Bx hT A3) hn)) ?_)
   rintro _ _ ⟨_,_,⟨ad5,cp6,ad7,cp8,rfl,rfl⟩,rfl,rfl⟩
   refine ⟨A1,?_⟩
   refine Ds1 10 (Se0 C (Ce (cs:=[_,_,_,_,_,_,_,_,_,_,_]) (vs:=[_,_,_,_,_,_,_,_,_,_,_]) (cs':=[_,_,_,_,_,_,_,_,_,_,_]) ty90) ?_)
   exact Dr 11 C (Bb C) (Dz (Aj (Aq (S2 9 8 C C) (A2 (C3 C ty90 C C mm C (vc 3 (.slice ad5 (coreN nd (atG kd wd mo es tq)).length cp6) (coreN nd (atG kd wd mo es tq))::vc 3 (.slice ad7 (coreO nd (atG kd wd mo es tq)).length cp8) (coreO nd (atG kd wd mo es tq))::I) B7 ⟨ad5,cp6,ad7,cp8,rfl,rfl⟩)))))
set_option maxHeartbeats 1000000 in
theorem Ask2_ok{nd kd wd mo tq:Int}{node lv:Int}{ea:Option Addr}{ec:Nat}{es:List Ev}(hl:Sl κ I (.slice ea es.length ec) es)(hH:HistOk nd kd wd mo es)(hlen:es.length<=19)(ht:0<=tq/\tq<=1048576)(hT:TabRd κ I 0 tzCells)(hn:0<=node/\node<nd)(hlv:0<=lv/\lv<=64):eu prog κ 56 [e7 nd,.slice ea es.length ec,.agg #[e7 kd,e7 wd,e7 mo],.agg #[e7 2,e7 node,e7 lv,e7 tq,.slice none 0 0,e7 0,e7 0]] I (λr J=>∃a c a2 c2 a3 c3,r = .tuple #[.agg #[.bool (decide (0<(((commG nd (atG kd wd mo es tq) node lv).length:Nat):Int))),e7 0,e7 0,.slice a3 (commG nd (atG kd wd mo es tq) node lv).length c3,e7 0,e7 0,.slice none 0 0,.slice a2 (coreO nd (atG kd wd mo es tq)).length c2,.slice a (coreN nd (atG kd wd mo es tq)).length c,e7 0,.slice none 0 0],e7 0]/\J=vc 3 (.slice a3 (commG nd (atG kd wd mo es tq) node lv).length c3) (commG nd (atG kd wd mo es tq) node lv)::vc 3 (.slice a (coreN nd (atG kd wd mo es tq)).length c) (coreN nd (atG kd wd mo es tq))::vc 3 (.slice a2 (coreO nd (atG kd wd mo es tq)).length c2) (coreO nd (atG kd wd mo es tq))::I):=by
 refine Ce4 Tryz.func56 C C ?_
 refine Ai (Ge1 (A9 (cs:=[_,_,_]) C C C) λb1=>Ge1 (A9 (cs:=[_,_,_,_,_,_,_]) C C C) λb2=>Ge1 (Au ty90 C) λb3=>Ga C (Af (Ap (Ai (Gm C (Gm C (Gl3 ty31 ?_)))))))
 refine Gc0 (Ah call97 C C (ACheck_ok (nd:=nd) (kd:=kd) (wd:=wd) (mo:=mo) (Ba hl))) ?_
 refine Ga C (Af (Ai (Gm C (Gr (Br C C) (Af (Aq (S7 17 10 8 7 6 0 1 C C C C C C C) (A8 C (λc17=>?_) (λc17=>?_))))))))
 ·exact absurd (slideE_zeroH hH) c17
 ·refine Ay (Aj (Ap (Ai (Gl7 ty71 ?_))))
  refine Gm C (Gc0 (Ah call105 C C (QCheck2_ok (nd:=nd) (tq:=tq) (node:=node) (lv:=lv) ht hn hlv)) ?_)
  refine Ga C (Af (Ai (Gm C (Gr (Br C C) (Af (A8 C (λc24=>?_) (λc24=>?_)))))))
  ·exact absurd rfl c24
  ·refine Ay (Aj (Ap (Bl mixed (Bt (e8 b2 [e7 2,e7 node,e7 lv,e7 tq,.slice none 0 0,e7 0,e7 0] 71::e8 b1 [e7 kd,e7 wd,e7 mo] 31::I) 12 (Dr 1 C (Ab fld71_0 C) (Dr 2 C (As ef) ?_))))))
   refine Dr 4 C (Ad C) (Dr 5 C (Ad C) (Dr 6 C (Bd (vs:=[_,_,_]) ty31) ?_))
   refine Dr 7 C (Bc (cells:=[_,_,_,_,_]) ty163 Eb pl163 C C) (Dr 8 C (Bd (vs:=[_,_,_,_,_,_,_]) ty71) ?_)
   refine Ds1 0 (Se C (Ah call106 C C Answers_ok) ?_)
   rintro _ _ ⟨_,_,⟨mp4,rfl,rfl⟩,rfl,rfl⟩
   refine ⟨A1,?_⟩
   refine Ds1 3 (Sr C (D7 (i:=1) Cd Bj C C C mm C) A1 ?_)
   refine Ds1 9 (Se C (Cw call181 C C C (Ans2_ok (nd:=nd) (kd:=kd) (wd:=wd) (mo:=mo) (tq:=tq) (node:=node) (lv:=lv) (Ba hl) hH hlen ht (Bx hT A3) hn hlv)) ?_)
   rintro _ _ ⟨_,_,⟨ad5,cp6,ad7,cp8,ad9,cp10,rfl,rfl⟩,rfl,rfl⟩
   refine ⟨A1,?_⟩
   refine Ds1 10 (Se0 C (Ce (cs:=[_,_,_,_,_,_,_,_,_,_,_]) (vs:=[_,_,_,_,_,_,_,_,_,_,_]) (cs':=[_,_,_,_,_,_,_,_,_,_,_]) ty90) ?_)
   exact Dr 11 C (Bb C) (Dz (Aj (Aq (S2 9 8 C C) (A2 (C3 C ty90 C C mm C (vc 3 (.slice ad9 (commG nd (atG kd wd mo es tq) node lv).length cp10) (commG nd (atG kd wd mo es tq) node lv)::vc 3 (.slice ad5 (coreN nd (atG kd wd mo es tq)).length cp6) (coreN nd (atG kd wd mo es tq))::vc 3 (.slice ad7 (coreO nd (atG kd wd mo es tq)).length cp8) (coreO nd (atG kd wd mo es tq))::I) B7 ⟨ad5,cp6,ad7,cp8,ad9,cp10,rfl,rfl⟩)))))
set_option maxHeartbeats 1000000 in
theorem Ask3_ok{nd kd wd mo tq:Int}{ea:Option Addr}{ec:Nat}{es:List Ev}(hl:Sl κ I (.slice ea es.length ec) es)(hH:HistOk nd kd wd mo es)(hlen:es.length<=19)(ht:0<=tq/\tq<=1048576)(hT:TabRd κ I 0 tzCells){S:List Int}{sa:Option Addr}{sc:Nat}(hs:Sl κ I (.slice sa S.length sc) S)(hv:ValidP S nd)(h2:S.length=2):eu prog κ 56 [e7 nd,.slice ea es.length ec,.agg #[e7 kd,e7 wd,e7 mo],.agg #[e7 3,e7 0,e7 0,e7 tq,.slice sa S.length sc,e7 0,e7 0]] I (λr J=>∃(y:Int) (fd:Bool) (num:Int) (a:Option Addr) (c:Nat) (Nl:List Int) (a2:Option Addr) (c2:Nat) (Ol:List Int),r = .tuple #[.agg #[.bool fd,e7 num,e7 0,.slice none 0 0,e7 0,e7 0,.slice none 0 0,.slice a2 Ol.length c2,.slice a Nl.length c,e7 0,.slice none 0 0],e7 0]/\EdgeR nd (atG kd wd mo es tq) S y fd num Nl Ol/\J=vc 3 (.slice a Nl.length c) Nl::vc 3 (.slice a2 Ol.length c2) Ol::I):=by
 refine Ce4 Tryz.func56 C C ?_
 refine Ai (Ge1 (A9 (cs:=[_,_,_]) C C C) λb1=>Ge1 (A9 (cs:=[_,_,_,_,_,_,_]) C C C) λb2=>Ge1 (Au ty90 C) λb3=>Ga C (Af (Ap (Ai (Gm C (Gm C (Gl3 ty31 ?_)))))))
 refine Gc0 (Ah call97 C C (ACheck_ok (nd:=nd) (kd:=kd) (wd:=wd) (mo:=mo) (Ba hl))) ?_
 refine Ga C (Af (Ai (Gm C (Gr (Br C C) (Af (Aq (S7 17 10 8 7 6 0 1 C C C C C C C) (A8 C (λc17=>?_) (λc17=>?_))))))))
 ·exact absurd (slideE_zeroH hH) c17
 ·refine Ay (Aj (Ap (Ai (Gl7 ty71 ?_))))
  refine Gm C (Gc0 (Ah call105 C C (QCheck3_ok (nd:=nd) (tq:=tq) ht (Ba hs) hv h2)) ?_)
  refine Ga C (Af (Ai (Gm C (Gr (Br C C) (Af (A8 C (λc24=>?_) (λc24=>?_)))))))
  ·exact absurd rfl c24
  ·refine Ay (Aj (Ap (Bl mixed (Bt (e8 b2 [e7 3,e7 0,e7 0,e7 tq,.slice sa S.length sc,e7 0,e7 0] 71::e8 b1 [e7 kd,e7 wd,e7 mo] 31::I) 12 (Dr 1 C (Ab fld71_0 C) (Dr 2 C (As ef) ?_))))))
   refine Dr 4 C (Ad C) (Dr 5 C (Ad C) (Dr 6 C (Bd (vs:=[_,_,_]) ty31) ?_))
   refine Dr 7 C (Bc (cells:=[_,_,_,_,_]) ty163 Eb pl163 C C) (Dr 8 C (Bd (vs:=[_,_,_,_,_,_,_]) ty71) ?_)
   refine Ds1 0 (Se C (Ah call106 C C Answers_ok) ?_)
   rintro _ _ ⟨_,_,⟨mp4,rfl,rfl⟩,rfl,rfl⟩
   refine ⟨A1,?_⟩
   refine Ds1 3 (Sr C (D7 (i:=2) Cd Bj C C C mm C) A1 ?_)
   refine Ds1 9 (Se C (Cw call182 C C C (Ans3_ok (nd:=nd) (kd:=kd) (wd:=wd) (mo:=mo) (tq:=tq) (S:=S) (Ba hl) hH hlen ht (Bx hT A3) (Ba hs) hv h2)) ?_)
   rintro _ _ ⟨_,_,⟨ye5,fd6,nm7,ad8,cp9,NL10,ad11,cp12,OL13,rfl,hEye5,rfl⟩,rfl,rfl⟩
   refine ⟨A1,?_⟩
   refine Ds1 10 (Se0 C (Ce (cs:=[_,_,_,_,_,_,_,_,_,_,_]) (vs:=[_,_,_,_,_,_,_,_,_,_,_]) (cs':=[_,_,_,_,_,_,_,_,_,_,_]) ty90) ?_)
   exact Dr 11 C (Bb C) (Dz (Aj (Aq (S2 9 8 C C) (A2 (C3 C ty90 C C mm C (vc 3 (.slice ad8 NL10.length cp9) NL10::vc 3 (.slice ad11 OL13.length cp12) OL13::I) B7 ⟨ye5,fd6,nm7,ad8,cp9,NL10,ad11,cp12,OL13,rfl,hEye5,rfl⟩)))))
set_option maxHeartbeats 1000000 in
theorem Ask5_ok{nd kd wd mo tq:Int}{ea:Option Addr}{ec:Nat}{es:List Ev}(hl:Sl κ I (.slice ea es.length ec) es)(hH:HistOk nd kd wd mo es)(hlen:es.length<=19)(ht:0<=tq/\tq<=1048576)(hT:TabRd κ I 0 tzCells):eu prog κ 56 [e7 nd,.slice ea es.length ec,.agg #[e7 kd,e7 wd,e7 mo],.agg #[e7 5,e7 0,e7 0,e7 tq,.slice none 0 0,e7 0,e7 0]] I (λr J=>∃a c B a2 c2 parts N D E,r = .tuple #[.agg #[.bool true,e7 0,e7 0,.slice a (eo B).length c,e7 N,e7 D,.slice none 0 0,.slice none 0 0,.slice none 0 0,e7 E,.slice a2 (parts:List Int).length c2],e7 0]/\(BestR nd (atG kd wd mo es tq) N D B/\SplitB nd (atG kd wd mo es tq) N D E parts)/\J=vc 3 (.slice a (eo B).length c) (eo B)::vc 3 (.slice a2 parts.length c2) parts::I):=by
 refine Ce4 Tryz.func56 C C ?_
 refine Ai (Ge1 (A9 (cs:=[_,_,_]) C C C) λb1=>Ge1 (A9 (cs:=[_,_,_,_,_,_,_]) C C C) λb2=>Ge1 (Au ty90 C) λb3=>Ga C (Af (Ap (Ai (Gm C (Gm C (Gl3 ty31 ?_)))))))
 refine Gc0 (Ah call97 C C (ACheck_ok (nd:=nd) (kd:=kd) (wd:=wd) (mo:=mo) (Ba hl))) ?_
 refine Ga C (Af (Ai (Gm C (Gr (Br C C) (Af (Aq (S7 17 10 8 7 6 0 1 C C C C C C C) (A8 C (λc17=>?_) (λc17=>?_))))))))
 ·exact absurd (slideE_zeroH hH) c17
 ·refine Ay (Aj (Ap (Ai (Gl7 ty71 ?_))))
  refine Gm C (Gc0 (Ah call105 C C (QCheck5_ok (nd:=nd) (tq:=tq) ht)) ?_)
  refine Ga C (Af (Ai (Gm C (Gr (Br C C) (Af (A8 C (λc24=>?_) (λc24=>?_)))))))
  ·exact absurd rfl c24
  ·refine Ay (Aj (Ap (Bl mixed (Bt (e8 b2 [e7 5,e7 0,e7 0,e7 tq,.slice none 0 0,e7 0,e7 0] 71::e8 b1 [e7 kd,e7 wd,e7 mo] 31::I) 12 (Dr 1 C (Ab fld71_0 C) (Dr 2 C (As ef) ?_))))))
   refine Dr 4 C (Ad C) (Dr 5 C (Ad C) (Dr 6 C (Bd (vs:=[_,_,_]) ty31) ?_))
   refine Dr 7 C (Bc (cells:=[_,_,_,_,_]) ty163 Eb pl163 C C) (Dr 8 C (Bd (vs:=[_,_,_,_,_,_,_]) ty71) ?_)
   refine Ds1 0 (Se C (Ah call106 C C Answers_ok) ?_)
   rintro _ _ ⟨_,_,⟨mp4,rfl,rfl⟩,rfl,rfl⟩
   refine ⟨A1,?_⟩
   refine Ds1 3 (Sr C (D7 (i:=4) Cd Bj C C C mm C) A1 ?_)
   refine Ds1 9 (Se C (Cw call185 C C C (Ans5_ok (nd:=nd) (kd:=kd) (wd:=wd) (mo:=mo) (tq:=tq) (Ba hl) hH hlen ht (Bx hT A3))) ?_)
   rintro _ _ ⟨_,_,⟨ad5,cp6,BB7,ad8,cp9,pt10,NN11,DD12,EE13,rfl,⟨hBR,hSB⟩,rfl⟩,rfl,rfl⟩
   refine ⟨A1,?_⟩
   refine Ds1 10 (Se0 C (Ce (cs:=[_,_,_,_,_,_,_,_,_,_,_]) (vs:=[_,_,_,_,_,_,_,_,_,_,_]) (cs':=[_,_,_,_,_,_,_,_,_,_,_]) ty90) ?_)
   exact Dr 11 C (Bb C) (Dz (Aj (Aq (S2 9 8 C C) (A2 (C3 C ty90 C C mm C (vc 3 (.slice ad5 (eo BB7).length cp6) (eo BB7)::vc 3 (.slice ad8 pt10.length cp9) pt10::I) B7 ⟨ad5,cp6,BB7,ad8,cp9,pt10,NN11,DD12,EE13,rfl,⟨hBR,hSB⟩,rfl⟩)))))
end Go.Sl
namespace Go.Sl
section
variable {rows:List (BitVec 64)}
theorem coreR_later(left:BitVec 64)(k:Nat):∀pre v m post,coreR rows left k=pre++(v,m)::post->∃L:BitVec 64,(∀u,u∈eo L↔u∈ordL post)/\degB rows L v<=m:=by
 refine coreR_ind (rows:=rows) (X:=λleft k l=>∀pre v m post,l=pre++(v,m)::post->∃L:BitVec 64,(∀u,u∈eo L↔u∈ordL post)/\degB rows L v<=m) (λk pre v m post h=>?_) (λleft k v hT ih pre v' m post h=>?_) _ left k rfl
 ·exact absurd h (by simp)
 ·cases pre with
  |nil=>
   rw [List.nil_append,List.cons.injEq,Prod.mk.injEq] at h
   obtain ⟨⟨rfl,rfl⟩,rfl⟩:=h
   have h0:=(listB_lt hT.mem).1
   refine ⟨_,λu=>((coreR_keys _ _).2 u).symm,?_⟩
   have:=degB_mono (rows:=rows) (W:=left &&& ~~~(1#64 <<< v.toNat)) (L:=left) (λu hu=>((mem_minus h0).1 hu).1) v
   omega
  |cons p pre=>
   rw [List.cons_append,List.cons.injEq] at h
   exact ih pre v' m post h.2
theorem coreR_asc(left:BitVec 64)(k:Nat):(coreR rows left k).Pairwise λp q=>p.2<=q.2:=by
 refine coreR_ind (rows:=rows) (X:=λleft k l=>l.Pairwise λp q=>p.2<=q.2) (λk=>List.Pairwise.nil) (λleft k v hT ih=>List.pairwise_cons.2 ⟨λq hq=>?_,ih⟩) _ left k rfl
 exact coreR_ge _ _ q hq
theorem coreR_high(left:BitVec 64):∀p∈coreR rows left 0,∃W:BitVec 64,p.2<=degB rows W p.1/\(∀u∈eo W,u∈eo left)/\∀q∈coreR rows left 0,q.1∈eo W->p.2<=q.2:=λp hp=>by
 by_cases h0:p.2=0
 ·refine ⟨0#64,by omega,λu hu=>?_,λq _ hq=>by omega⟩
  rw [listB_zero] at hu;cases hu
 ·obtain ⟨W,h1,h2,h3⟩:=coreR_core (rows:=rows) left 0 p.2 (by omega)
  exact ⟨W,h1 _ ((h3 p hp).1 (Nat.le_refl _)),h2,λq hq hW=>(h3 q hq).2 hW⟩
end
end Go.Sl
namespace Go.Sl
open Go.Proofs
set_option maxRecDepth 4000
theorem key_inj{l:List (Int×Nat)}(h:(ordL l).Nodup){p q:Int×Nat}(hp:p∈l)(hq:q∈l)(e:p.1=q.1):p=q:=by
 induction l with
 |nil=>cases hp
 |cons x l ih=>
  obtain ⟨h1,h2⟩:=List.nodup_cons.1 (show (x.1::ordL l).Nodup from h)
  rcases List.mem_cons.1 hp with e1|hp'<;>rcases List.mem_cons.1 hq with e2|hq'
  ·rw [e1,e2]
  ·exact absurd (show x.1∈ordL l from List.mem_map.2 ⟨q,hq',by rw [←e,e1]⟩) h1
  ·exact absurd (show x.1∈ordL l from List.mem_map.2 ⟨p,hp',by rw [e,e2]⟩) h1
  ·exact ih h2 hp' hq'
structure CoreE (nd:Int) (es:List Pt) (num ord:List Int):Prop where
 nlen:(num.length:Int)=nd
 olen:(ord.length:Int)=nd
 nodup:ord.Nodup
 rng:∀v∈ord,0<=v/\v<nd
 asc:∀i:Nat,i+1<ord.length->e_ num (e_ ord i)<=e_ num (e_ ord ((i+1:Nat):Int))
 later:∀i:Nat,i<ord.length->((meetL (nbG nd es (e_ ord i)) (List.drop (i+1) ord)).length:Int)<=e_ num (e_ ord i)
 high:∀i:Nat,i<ord.length->e_ num (e_ ord i)<=(((nbG nd es (e_ ord i)).filter λw=>decide (e_ num (e_ ord i)<=e_ num w)).length:Int)
section
variable {nd:Int}{es:List Pt}
theorem coreO_perm(hG:GrOk nd es):(coreO nd es).Nodup/\∀v,v∈coreO nd es↔0<=v/\v<nd:=by
 have hl:=hG.rows.len
 have hr:=hG.rng
 have hS:=rows_sym hG
 have hk:=coreR_keys (rows:=ek nd es) (allB ((ek nd es).length:Int)) 0
 refine ⟨hk.1,λv=>?_⟩
 have:=hk.2 v
 rw [mem_allN hS.le] at this
 show v∈ordL (coreR0 nd es)↔_
 unfold coreR0
 rw [this]
 constructor<;>intro h<;>omega
theorem coreO_len(hG:GrOk nd es):((coreO nd es).length:Int)=nd:=by
 have hr:=hG.rng
 obtain ⟨h1,h2⟩:=coreO_perm hG
 have hp:(coreO nd es).Perm (rangeI nd):=(List.perm_ext_iff_of_nodup h1 ((ValidP_iff.1 (range_valid hr)).2.imp λh=>by omega)).2 λv=>by rw [h2,mem_rangeI];constructor<;>intro h<;>omega
 rw [hp.length_eq]
 unfold rangeI
 rw [List.length_map,List.length_range];omega
theorem coreO_at(hG:GrOk nd es){i:Nat}(h:i<(coreO nd es).length):∃pre m post,coreR0 nd es=pre++(e_ (coreO nd es) i,m)::post/\pre.length=i/\List.drop (i+1) (coreO nd es)=ordL post/\e_ (coreN nd es) (e_ (coreO nd es) i)=(m:Int)/\(e_ (coreO nd es) i,m)∈coreR0 nd es:=by
 have hi:i<(coreR0 nd es).length:=by unfold coreO at h;rwa [ordL_len] at h
 have e:e_ (coreO nd es) i=((coreR0 nd es)[i]).1:=by
  show e_ (ordL (coreR0 nd es)) (i:Int)=_
  rw [C4 _ i (by rw [ordL_len];exact hi)]
  simp [ordL]
 have hsp:coreR0 nd es=(coreR0 nd es).take i++((coreR0 nd es)[i])::(coreR0 nd es).drop (i+1):=by
  rw [←List.drop_eq_getElem_cons hi,List.take_append_drop]
 have hm:(coreR0 nd es)[i]∈coreR0 nd es:=List.getElem_mem hi
 have hr:=((coreO_perm hG).2 ((coreR0 nd es)[i]).1).1 (List.mem_map.2 ⟨_,hm,rfl⟩)
 obtain ⟨p,hp,e1,e2⟩:=coreL_at hG hr.1 hr.2
 have hk:=(coreR_keys (rows:=ek nd es) (allB ((ek nd es).length:Int)) 0).1
 have epp:p=(coreR0 nd es)[i]:=key_inj hk hp hm e1
 refine ⟨(coreR0 nd es).take i,((coreR0 nd es)[i]).2,(coreR0 nd es).drop (i+1),?_,by rw [List.length_take];omega,?_,?_,?_⟩
 ·rw [e];exact hsp
 ·show List.drop (i+1) (ordL (coreR0 nd es))=_
  unfold ordL
  rw [List.map_drop]
 ·rw [e,e2,epp]
 ·rw [e];exact hm
theorem coreE(hG:GrOk nd es):CoreE nd es (coreN nd es) (coreO nd es):=by
 have hr:=hG.rng
 obtain ⟨h1,h2⟩:=coreO_perm hG
 refine ⟨coreN_lenG hG,coreO_len hG,h1,λv hv=>(h2 v).1 hv,λi hi=>?_,λi hi=>?_,λi hi=>?_⟩
 ·obtain ⟨pre,m,post,e,hp,hd,hm,_⟩:=coreO_at hG (i:=i) om
  obtain ⟨pre',m',post',e',hp',_,hm',_⟩:=coreO_at hG hi
  rw [hm,hm']
  have ha:=coreR_asc (rows:=ek nd es) (allB ((ek nd es).length:Int)) 0
  have g1:(coreR0 nd es)[i]'(by rw [e];simp;omega)=(e_ (coreO nd es) i,m):=by
   have:(pre++(e_ (coreO nd es) i,m)::post)[i]? = some (e_ (coreO nd es) i,m):=by rw [List.getElem?_append_right om,hp];simp
   rw [←e] at this
   exact (List.getElem?_eq_some_iff.1 this).2
  have g2:(coreR0 nd es)[i+1]'(by rw [e'];simp;omega)=(e_ (coreO nd es) ((i+1:Nat):Int),m'):=by
   have:(pre'++(e_ (coreO nd es) ((i+1:Nat):Int),m')::post')[i+1]? = some (e_ (coreO nd es) ((i+1:Nat):Int),m'):=by rw [List.getElem?_append_right om,hp'];simp
   rw [←e'] at this
   exact (List.getElem?_eq_some_iff.1 this).2
  have:=(List.pairwise_iff_getElem.1 ha) i (i+1) (by show i<(coreR0 nd es).length;rw [e];simp;omega) (by show i+1<(coreR0 nd es).length;rw [e'];simp;omega) om
  have h3:((coreR0 nd es)[i]'(by rw [e];simp;omega)).2<=((coreR0 nd es)[i+1]'(by rw [e'];simp;omega)).2:=this
  rw [g1,g2] at h3
  simp only at h3;omega
 ·obtain ⟨pre,m,post,e,hp,hd,hm,hmem⟩:=coreO_at hG hi
  have hv:=(h2 _).1 (Bf (xs:=coreO nd es) (i:=(i:Int)) om om)
  obtain ⟨L,hL,hdeg⟩:=coreR_later (rows:=ek nd es) _ 0 pre _ m post e
  rw [hm,hd,←deg_meet hG hL hv.1 hv.2];omega
 ·obtain ⟨pre,m,post,e,hp,hd,hm,hmem⟩:=coreO_at hG hi
  have hv:=(h2 _).1 (Bf (xs:=coreO nd es) (i:=(i:Int)) om om)
  obtain ⟨W,hdeg,hsub,hall⟩:=coreR_high (rows:=ek nd es) _ _ hmem
  have hS:=rows_sym hG
  have hl:=hG.rows.len
  rw [hm]
  refine Int.le_trans (show (m:Int)<=(degB (ek nd es) W (e_ (coreO nd es) i):Int) by simp only at hdeg;omega) ?_
  unfold degB
  refine Int.ofNat_le.2 (List.Nodup.length_le_of_subset (Ee _) λx hx=>?_)
  obtain ⟨hx1,hx2⟩:=mem_andB.1 hx
  have hxr:=(mem_allN hS.le).1 (hsub x hx2)
  rw [List.mem_filter,decide_eq_true_eq]
  constructor
  ·unfold nbG
   rw [if_neg (by rw [checkG_ok.2 hG];decide),mem_ofL,mem_nbL]
   exact ((hG.rows.mem hv.1 hv.2).1 hx1).2
  ·obtain ⟨q,hq,e1,e2⟩:=coreL_at hG (u:=x) om om
   have:=hall q hq (by rw [e1];exact hx2)
   simp only at this
   rw [e2];omega
end
variable {κ:Ctx}{I:List Item}
theorem ofL_validR{l:List Int}{n:Int}(hr:∀v∈l,0<=v/\v<n):ValidP (ofL l) n:=ValidP_iff.2 ⟨λx hx=>hr x ((mem_ofL _ _).1 hx),ofL_asc _⟩
theorem ofL_nodup_len{l:List Int}(h:l.Nodup):(ofL l).length=l.length:=((List.perm_ext_iff_of_nodup ((ofL_asc l).imp λh=>by omega) h).2 λx=>mem_ofL l x).length_eq
theorem nodup_at{l:List Int}(h:l.Nodup){i j:Nat}(hi:i<l.length)(hj:j<l.length)(e:e_ l i=e_ l j):i=j:=by
 rw [C4 _ i hi,C4 _ j hj] at e
 rcases Nat.lt_trichotomy i j with h1|h1|h1
 ·exact absurd e ((List.pairwise_iff_getElem.1 h) i j hi hj h1)
 ·exact h1
 ·exact absurd e.symm ((List.pairwise_iff_getElem.1 h) j i hj hi h1)
theorem All10_ok{oa:Option Addr}{oc:Nat}{ord:List Int}{n:Int}(hs:Sl κ I (.slice oa ord.length oc) ord)(hn:ord.Nodup)(hl:(ord.length:Int)=n)(hr:∀v∈ord,0<=v/\v<n)(hb:ord.length<=1000):eu prog κ 113 [.slice oa ord.length oc,e7 n] I (λr J=>r = .bool true/\I=J):=by
 refine Ce2 Tryz.func113 C C ?_
 refine Ai (Ga C (Af (Ai (Gm C (Gr (Bs Ac C) (Gm C (Gr (Bu C C) (Gm C (Bg (d:=9) C (λg9=>?_) (λg9=>?_))))))))))
 ·refine e9 (Ad C) (D5 (Ck C C C) (Ah call82 C C (Of_ok (Ba hs) om)) ?_)
  rintro _ _ ⟨_,_,⟨ad1,cp2,rfl,rfl⟩,rfl,rfl⟩
  refine e9 (Ad C) (D5 (Ck C C C) (Ah call91 C C (RValid_ok Bk n)) ?_)
  rintro _ _ ⟨_,_,⟨rfl,rfl⟩,rfl,rfl⟩
  refine Gr (Ar C C) (Gm C (Bg (d:=15) C (λg15=>?_) (λg15=>?_)))
  ·refine e9 (Ad C) (D5 (Ck C C C) (Ah call82 C C (Of_ok (Ba hs) om)) ?_)
   rintro _ _ ⟨_,_,⟨ad3,cp4,rfl,rfl⟩,rfl,rfl⟩
   refine e9 (Bs Ac C) (e9 (Ad C) (e9 (Bu C C) (Gr (Ar C C) (Ga C (Af (Aq (S1 4 C) (A2 ?_)))))))
   have hll:=ofL_nodup_len hn
   exact A6 C C I A3 ⟨by first|rfl|(rw [decide_eq_true om]),rfl⟩
  ·exact absurd (ofL_validR hr) (by simpa using g15)
 ·exact absurd hl g9
set_option maxHeartbeats 1000000 in
theorem later10_ok{nd:Int}{va:Value}{es:List Pt}{oa:Option Addr}{oc:Nat}{num ord:List Int}(hl:Sl κ I va es)(hs:Sl κ I (.slice oa ord.length oc) ord)(hG:GrOk nd es)(hE:CoreE nd es num ord):eu prog κ 114 [.agg #[e7 nd,va],.slice oa ord.length oc] I (λr J=>∃a c out,r = .slice a (out:List Int).length c/\((out.length:Int)=nd/\∀i:Nat,i<ord.length->e_ out (e_ ord i)=((meetL (nbG nd es (e_ ord i)) (List.drop (i+1) ord)).length:Int))/\J=vc 3 (.slice a out.length c) out::I):=by
 have hrng:=hG.rng
 have hle:=edges_le hG
 have hoL:=hE.olen
 refine Ce2 Tryz.func114 C C ?_
 refine Ai (Ge1 (A9 (cs:=[_,_]) C C C) λb1=>Ga C (Af (Ai (Gf fld48_0 C (Gl ef ?_)))))
 refine Ge2 (Cp (α:=Int) (n:=nd.toNat) Ac ef C C C om om dc C) λad2 cp3=>?_
 refine Ga C (Af (Ap (Ai (Gm C (Gr (Bs Ac C) (Gm C (Af (A0 (B1 (σ:=Nat×(List Int)) (λs=>([(1,.slice oa ord.length oc),(2,.pointer (some ⟨b1,0,none⟩)),(5,.slice ad2 (replicate nd.toNat (default:Int)).length cp3),(11,.slice oa ord.length oc),(12,e7 ((ord.length:Nat):Int)),(13,e7 ((s.1:Nat):Int))]:Env)) (λs=>vc 3 (.slice ad2 (replicate nd.toNat (default:Int)).length cp3) (s.2)::e8 b1 [e7 nd,va] 48::I) (λs=>(s.1<=ord.length)/\(s.2.length=nd.toNat)/\(∀i:Nat,i<s.1->e_ s.2 (e_ ord i)=((meetL (nbG nd es (e_ ord i)) (List.drop (i+1) ord)).length:Int))) (λs=>ord.length - s.1) (0,replicate nd.toNat (default:Int)) (show ((0:Nat)<=ord.length)/\((replicate nd.toNat (default:Int):List Int).length=nd.toNat)/\(∀i:Nat,i<(0:Nat)->e_ (replicate nd.toNat (default:Int):List Int) (e_ ord i)=((meetL (nbG nd es (e_ ord i)) (List.drop (i+1) ord)).length:Int)) from ⟨om,(by rw [List.length_replicate]),(λi h=>by omega)⟩) (Aa C (Aa C (Aa C (Aa C (Aa C (Aa Ca Bp)))))) (show Fit κ _ (vc 3 (.slice ad2 (replicate nd.toNat (default:Int)).length cp3) ((replicate nd.toNat (default:Int)))::e8 b1 [e7 nd,va] 48::I) from B7) ?_)))))))))
 rintro ⟨k,out⟩ hp
 dsimp only at hp ⊢
 obtain ⟨hk,hol,hla⟩:=hp
 have hov:=λh:k<ord.length=>hE.rng _ (Bf (xs:=ord) (i:=((k:Nat):Int)) om om)
 refine Ai (Gr (A7 C C) (Af (Ap (A8 C (λc14=>?_) (λc14=>?_)))))
 ·refine Ay (Aj (Ap (A0 (Ai (Gm C (Gr (Az (α:=Int) (xs:=ord) Ac ef C C (Ba hs) om oo) (Gr (Bo (xs:=ord) ef C (Ba hs) om oo) (Ga C (Ga C (Af (Bl mixed (Bt (vc 3 (.slice ad2 (replicate nd.toNat (default:Int)).length cp3) (out)::e8 b1 [e7 nd,va] 48::I) 12 (Dr 0 C (Ad C) (Dr 1 C (Ad C) (Dr 2 C (Bd (vs:=[_,_]) ty48) ?_)))))))))))))))
  refine Dr 3 C (Ad C) (Dr 5 C (Ad C) (Dr 6 C (Ad C) (Dr 7 C (Rad C C) (Dr 8 C (E0 (α:=Int) (xs:=ord) (l:=k+1) Ac ef C C om (Ba hs) om) (Ds1 4 (Se C (Ah call115 C C (Neigh03_ok (nd:=nd) (Ba hl) (e_ ord k) om)) ?_))))))
  rintro _ _ ⟨_,_,⟨ad4,cp5,rfl,rfl⟩,rfl,rfl⟩
  refine ⟨A3,?_⟩
  have hnl22:=nbG_len nd es (e_ ord k)
  refine Ds1 9 (Se C (Ah call134 C C (Meet_ok Bk (Sl.drop (Ba hs) om) (by have:=nbG_len nd es (e_ ord k);omega))) ?_)
  rintro _ _ ⟨_,_,⟨ad6,cp7,rfl,rfl⟩,rfl,rfl⟩
  refine ⟨A3,?_⟩
  refine Dr 10 C (Bs Ac C) (Dr 11 C (Az (α:=Int) (xs:=out) Ac ef C C Bk om oo) (C0 kr ?_))
  refine Ae 12 C (Cx (α:=Int) (xs:=out) (e:=3) (new:=(((meetL (nbG nd es (e_ ord k)) (List.drop (k+1) ord)).length:Nat):Int)) ef C C C om oo am) ?_
  rintro _ _ ⟨rfl,rfl⟩
  refine C1 kr ?_
  exact Ak (Aj (Aq (S6 1 2 5 11 12 13 C C C C C C) (Ax (Gr (Rad C C) (Gm C (Bi (B5 ((k+1),(List.set out (e_ ord k).toNat ((((meetL (nbG nd es (e_ ord k)) (List.drop (k+1) ord)).length:Nat):Int)))) (by dsimp only;exact ⟨om,(by rw [List.length_set];exact hol),(λi hi=>by have hv:=hov om;have hi2:=hE.rng _ (Bf (xs:=ord) (i:=((i:Nat):Int)) om om);rw [C8 _ _ _ _ om om om];by_cases e:i=k;(· subst e;rw [if_pos rfl]);(· rw [if_neg (λh=>e (nodup_at hE.nodup om om h.symm))];exact hla i om))⟩))))))))
 ·refine Bv (Al (Al (A5 (Aj (Ai (Gm C (Ga C (Af (A2 ?_)))))))))
  have hcl3:(replicate nd.toNat (default:Int)).length=out.length:=by rw [List.length_replicate,hol]
  exact A6 C C (vc 3 (.slice ad2 out.length cp3) out::I) (by rw [←hcl3];exact B7) ⟨ad2,cp3,out,by rw [←hcl3],⟨by omega,λi hi=>hla i om⟩,rfl⟩
theorem nb_rng{nd:Int}{es:List Pt}(hG:GrOk nd es){u x:Int}(hx:x∈nbG nd es u):0<=x/\x<nd:=by
 unfold nbG at hx
 rw [if_neg (by rw [checkG_ok.2 hG];decide),mem_ofL,mem_nbL] at hx
 rcases hx with h|h
 ·have:=hG.edge _ h;simp only at this;omega
 ·have:=hG.edge _ h;simp only at this;omega
set_option maxHeartbeats 2000000 in
theorem Check10_ok{nd:Int}{va:Value}{es:List Pt}{na oa:Option Addr}{nc oc:Nat}{num ord:List Int}(hl:Sl κ I va es)(hm:Sl κ I (.slice na num.length nc) num)(hs:Sl κ I (.slice oa ord.length oc) ord)(hG:GrOk nd es)(hE:CoreE nd es num ord):eu prog κ 62 [.agg #[e7 nd,va],.slice na num.length nc,.slice oa ord.length oc] I (λr J=>r=e7 0/\I=J):=by
 have hrng:=hG.rng
 have hle:=edges_le hG
 have hoL:=hE.olen
 have hnL:=hE.nlen
 refine Ce3 Tryz.func62 C C ?_
 refine Ai (Ge1 (A9 (cs:=[_,_]) C C C) λb1=>Ga C (Af (Ap (Ai (Gl2 ty48 ?_)))))
 refine G.e (Ah call30 C C (Check03G_ok (nd:=nd) (Ba hl))) ?_
 rintro _ _ ⟨_,_,⟨rfl,rfl⟩,rfl,rfl⟩
 refine Ga C (Af (Ai (Gm C (Gr (Br C C) (Af (A8 C (λc17=>?_) (λc17=>?_)))))))
 ·exact absurd (checkG_ok.2 hG) c17
 ·refine Ay (Aj (Ap (Ai (Gm C (Gr (Bs Ac C) (Gf fld48_0 C (Gl ef ?_)))))))
  refine Gr (Br C C) (Gm C (Bg (d:=24) C (λg24=>?_) (λg24=>?_)))
  ·exact absurd hE.nlen g24
  ·refine e9 (Ad C) (e9 (Ab fld48_0 C) (e9 (As ef) ?_))
   refine D5 (Ck C C C) (Ah call113 C C (All10_ok (ord:=ord) (n:=nd) (Ba hs) hE.nodup hE.olen hE.rng om)) ?_
   rintro _ _ ⟨_,_,⟨rfl,rfl⟩,rfl,rfl⟩
   refine e9 (B4 C) (Gr (Ao C C) (Af (Aq (S4 30 3 1 2 C C C C) (C2 C (Ay (Aj (Ai (Gl2 ty48 ?_))))))))
   refine Gm C (G.e (Ah call114 C C (later10_ok (nd:=nd) (Ba hl) (Ba hs) hG hE)) ?_)
   rintro _ _ ⟨_,_,⟨ad2,cp3,lat,rfl,⟨hlat1,hlat2⟩,rfl⟩,rfl,rfl⟩
   refine Ga C (Af (Ap (Ai (Gm C (Gr (Bs Ac C) (Gm C (Af (A0 (B1 (σ:=Nat) (λs=>([(1,.slice na num.length nc),(2,.slice oa ord.length oc),(3,.pointer (some ⟨b1,0,none⟩)),(8,.slice ad2 lat.length cp3),(34,.slice oa ord.length oc),(35,e7 ((ord.length:Nat):Int)),(36,e7 ((s:Nat):Int))]:Env)) (λs=>vc 3 (.slice ad2 lat.length cp3) (lat)::e8 b1 [e7 nd,va] 48::I) (λs=>(s<=ord.length)) (λs=>ord.length - s) 0 (show ((0:Nat)<=ord.length) from om) (Aa C (Aa C (Aa C (Aa C (Aa C (Aa C (Aa Ca Bp))))))) (show Fit κ _ (vc 3 (.slice ad2 lat.length cp3) (lat)::e8 b1 [e7 nd,va] 48::I) from A1) ?_)))))))))
   rintro k hp
   have hk:=hp
   have hov:=λh:k<ord.length=>hE.rng _ (Bf (xs:=ord) (i:=((k:Nat):Int)) om om)
   refine Ai (Gr (A7 C C) (Af (Ap (A8 C (λc37=>?_) (λc37=>?_)))))
   ·refine Ay (Aj (Ap (A0 (Ai (Gm C (Gr (Az (α:=Int) (xs:=ord) Ac ef C C (Ba hs) (by first|omega|(have h1:=hE.rng _ (Bf (xs:=ord) (i:=(k:Int) - 1) om om);omega)) (by first|omega|(have h1:=hE.rng _ (Bf (xs:=ord) (i:=(k:Int) - 1) om om);omega))) (Gr (Bo (xs:=ord) ef C (Ba hs) (by first|omega|(have h1:=hE.rng _ (Bf (xs:=ord) (i:=(k:Int) - 1) om om);omega)) (by first|omega|(have h1:=hE.rng _ (Bf (xs:=ord) (i:=(k:Int) - 1) om om);omega))) (Ga C (Ga C (Af (Ai (Ga C (Af (Aq (S10 11 10 9 1 2 3 8 34 35 36 C C C C C C C C C C) (Ap (Ai (Gl2 ty48 ?_)))))))))))))))))
    refine Gm C (G.e (Ah call115 C C (Neigh03_ok (nd:=nd) (Ba hl) (e_ ord k) om)) ?_)
    rintro _ _ ⟨_,_,⟨ad4,cp5,rfl,rfl⟩,rfl,rfl⟩
    have hnl43:=nbG_len nd es (e_ ord k)
    refine Gr (Bs Ac C) (Gm C (Af (Aq (S13 45 44 43 11 10 9 1 2 3 8 34 35 36 C C C C C C C C C C C C C) (A0 (B1 (σ:=Nat×Int) (λs=>([(1,.slice na num.length nc),(2,.slice oa ord.length oc),(3,.pointer (some ⟨b1,0,none⟩)),(8,.slice ad2 lat.length cp3),(9,e7 ((k:Int))),(10,e7 (e_ ord k)),(11,e7 (s.2)),(34,.slice oa ord.length oc),(35,e7 ((ord.length:Nat):Int)),(36,e7 ((k:Int))),(43,.slice ad4 (nbG nd es (e_ ord k)).length cp5),(44,e7 ((((nbG nd es (e_ ord k)).length:Nat):Int))),(45,e7 ((s.1:Nat):Int))]:Env)) (λs=>vc 3 (.slice ad4 (nbG nd es (e_ ord k)).length cp5) (nbG nd es (e_ ord k))::vc 3 (.slice ad2 lat.length cp3) (lat)::e8 b1 [e7 nd,va] 48::I) (λs=>(s.1<=(nbG nd es (e_ ord k)).length)/\(s.2=((((nbG nd es (e_ ord k)).take s.1).filter (λw=>decide (e_ num (e_ ord k)<=e_ num w))).length:Int))) (λs=>(nbG nd es (e_ ord k)).length - s.1) (0,0) (show ((0:Nat)<=(nbG nd es (e_ ord k)).length)/\((0:Int)=((((nbG nd es (e_ ord k)).take (0:Nat)).filter (λw=>decide (e_ num (e_ ord k)<=e_ num w))).length:Int)) from ⟨om,rfl⟩) (Aa C (Aa C (Aa C (Aa C (Aa C (Aa C (Aa Ca (Aa C (Aa C (Aa C (Aa C (Aa C (Aa Ca Bp))))))))))))) (show Fit κ _ (vc 3 (.slice ad4 (nbG nd es (e_ ord k)).length cp5) (nbG nd es (e_ ord k))::vc 3 (.slice ad2 lat.length cp3) (lat)::e8 b1 [e7 nd,va] 48::I) from A1) ?_)))))
    rintro ⟨j,hi⟩ hp
    dsimp only at hp ⊢
    obtain ⟨hj,hhi⟩:=hp
    have hnb:=nbG_len nd es (e_ ord k)
    have hwr:=λh:j<(nbG nd es (e_ ord ((k:Nat):Int))).length=>nb_rng hG (Bf (xs:=(nbG nd es (e_ ord ((k:Nat):Int)))) (i:=((j:Nat):Int)) om om)
    have hfl:=List.length_filter_le (λw=>decide (e_ num (e_ ord k)<=e_ num w)) ((nbG nd es (e_ ord k)).take j)
    rw [List.length_take] at hfl
    refine Ai (Gr (A7 C C) (Af (Aq (S14 46 1 2 3 8 9 10 11 34 35 36 43 44 45 C C C C C C C C C C C C C C) (Ap (A8 C (λc46=>?_) (λc46=>?_))))))
    ·refine Ay (Aj (Aq (S13 1 2 3 8 9 10 11 34 35 36 43 44 45 C C C C C C C C C C C C C) (Ap (A0 (Ai (Gr (Az (α:=Int) (xs:=nbG nd es (e_ ord k)) Ac ef C C Bk (by first|omega|(have h1:=hE.rng _ (Bf (xs:=ord) (i:=(k:Int) - 1) om om);omega)) (by first|omega|(have h1:=hE.rng _ (Bf (xs:=ord) (i:=(k:Int) - 1) om om);omega))) (Gr (Bo (xs:=nbG nd es (e_ ord k)) ef C Bk (by first|omega|(have h1:=hE.rng _ (Bf (xs:=ord) (i:=(k:Int) - 1) om om);omega)) (by first|omega|(have h1:=hE.rng _ (Bf (xs:=ord) (i:=(k:Int) - 1) om om);omega))) (Ga C (Af (Aq (S14 13 1 2 3 8 9 10 11 34 35 36 43 44 45 C C C C C C C C C C C C C C) (Ap (Bl mixed (Bt (vc 3 (.slice ad4 (nbG nd es (e_ ord k)).length cp5) (nbG nd es (e_ ord k))::vc 3 (.slice ad2 lat.length cp3) (lat)::e8 b1 [e7 nd,va] 48::I) 9 (Dr 0 C (Ad C) (Dr 1 C (Ad C) (Dr 2 C (Az (α:=Int) (xs:=num) Ac ef C C (Ba hm) (by first|omega|(have h1:=hE.rng _ (Bf (xs:=ord) (i:=(k:Int) - 1) om om);omega)) (by first|omega|(have h1:=hE.rng _ (Bf (xs:=ord) (i:=(k:Int) - 1) om om);omega))) (Dr 3 C (Bo (xs:=num) ef C (Ba hm) (by first|omega|(have h1:=hE.rng _ (Bf (xs:=ord) (i:=(k:Int) - 1) om om);omega)) (by first|omega|(have h1:=hE.rng _ (Bf (xs:=ord) (i:=(k:Int) - 1) om om);omega))) (Dr 4 C (Ad C) (Dr 5 C (Ad C) (Dr 6 C (Az (α:=Int) (xs:=num) Ac ef C C (Ba hm) (by first|omega|(have h1:=hE.rng _ (Bf (xs:=ord) (i:=(k:Int) - 1) om om);omega)) (by first|omega|(have h1:=hE.rng _ (Bf (xs:=ord) (i:=(k:Int) - 1) om om);omega))) (Dr 7 C (Bo (xs:=num) ef C (Ba hm) (by first|omega|(have h1:=hE.rng _ (Bf (xs:=ord) (i:=(k:Int) - 1) om om);omega)) (by first|omega|(have h1:=hE.rng _ (Bf (xs:=ord) (i:=(k:Int) - 1) om om);omega))) (Dr 8 C (B9 C C) (Dz (Aj (Aq (S14 57 1 2 3 8 9 10 11 34 35 36 43 44 45 C C C C C C C C C C C C C C) (A8 C (λc57=>?_) (λc57=>?_)))))))))))))))))))))))))))
     ·exact Ax (Gm C (Gr (Rad C C) (Ga C (Bi (Ak (Aj (Aq (S13 11 1 2 3 8 9 10 34 35 36 43 44 45 C C C C C C C C C C C C C) (Ax (Gr (Rad C C) (Gm C (Bi (B5 ((j+1),(hi+1)) (by dsimp only;exact ⟨om,(by first|(rw [filter_take_yes _ _ j om (decide_eq_true c57),List.length_append,hhi];simp)|(rw [filter_take_no _ _ j om (decide_eq_false c57),←hhi]))⟩)))))))))))))
     ·exact Ay (Ak (Aj (Aq (S13 1 2 3 8 9 10 11 34 35 36 43 44 45 C C C C C C C C C C C C C) (Ax (Gr (Rad C C) (Gm C (Bi (B5 ((j+1),(hi)) (by dsimp only;exact ⟨om,(by first|(rw [filter_take_yes _ _ j om (decide_eq_true c57),List.length_append,hhi];simp)|(rw [filter_take_no _ _ j om (decide_eq_false c57),←hhi]))⟩)))))))))
    ·refine Bv (Al (Al (A5 (Aj (Aq (S10 1 2 3 8 9 10 11 34 35 36 C C C C C C C C C C) (Ap (Bl mixed (Bt (vc 3 (.slice ad4 (nbG nd es (e_ ord k)).length cp5) (nbG nd es (e_ ord k))::vc 3 (.slice ad2 lat.length cp3) (lat)::e8 b1 [e7 nd,va] 48::I) 36 (Dr 0 C (Ad C) (Dr 1 C (Bw C C) (Dr 2 C (Ad C) (Cs (d:=63) C (λg63=>?_) (λg63=>?_)))))))))))))
     ·refine Dro 3 C (Ad C) (Dro 4 C (Ad C) (Dro 5 C (Ad C) (Dro 6 C (Rsu C C) (Dro 7 C (Az (α:=Int) (xs:=ord) Ac ef C C (Ba hs) (by first|omega|(have h1:=hE.rng _ (Bf (xs:=ord) (i:=(k:Int) - 1) om om);omega)) (by first|omega|(have h1:=hE.rng _ (Bf (xs:=ord) (i:=(k:Int) - 1) om om);omega))) (Dro 8 C (Bo (xs:=ord) ef C (Ba hs) (by first|omega|(have h1:=hE.rng _ (Bf (xs:=ord) (i:=(k:Int) - 1) om om);omega)) (by first|omega|(have h1:=hE.rng _ (Bf (xs:=ord) (i:=(k:Int) - 1) om om);omega))) (Dro 9 C (Az (α:=Int) (xs:=num) Ac ef C C (Ba hm) (by first|omega|(have h1:=hE.rng _ (Bf (xs:=ord) (i:=(k:Int) - 1) om om);omega)) (by first|omega|(have h1:=hE.rng _ (Bf (xs:=ord) (i:=(k:Int) - 1) om om);omega))) (Dro 10 C (Bo (xs:=num) ef C (Ba hm) (by first|omega|(have h1:=hE.rng _ (Bf (xs:=ord) (i:=(k:Int) - 1) om om);omega)) (by first|omega|(have h1:=hE.rng _ (Bf (xs:=ord) (i:=(k:Int) - 1) om om);omega))) (Dro 11 C (Ad C) (Dro 12 C (Ad C) (Dro 13 C (Az (α:=Int) (xs:=num) Ac ef C C (Ba hm) (by first|omega|(have h1:=hE.rng _ (Bf (xs:=ord) (i:=(k:Int) - 1) om om);omega)) (by first|omega|(have h1:=hE.rng _ (Bf (xs:=ord) (i:=(k:Int) - 1) om om);omega))) (Dro 14 C (Bo (xs:=num) ef C (Ba hm) (by first|omega|(have h1:=hE.rng _ (Bf (xs:=ord) (i:=(k:Int) - 1) om om);omega)) (by first|omega|(have h1:=hE.rng _ (Bf (xs:=ord) (i:=(k:Int) - 1) om om);omega))) (Dro 15 C (Bw C C) (Dr 16 C (Ar C C) (Dr 17 C (Ad C) (Cs (d:=78) C (λg78=>?_) (λg78=>?_))))))))))))))))
      ·exfalso;have h1:=hE.asc (k - 1) om;rw [show ((k - 1:Nat):Int)=(k:Int) - 1 by omega,show k - 1+1=k by omega] at h1;omega
      ·refine Dro 18 C (Ad C) (Dro 19 C (Ad C) (Dro 20 C (Az (α:=Int) (xs:=lat) Ac ef C C Bk (by first|omega|(have h1:=hE.rng _ (Bf (xs:=ord) (i:=(k:Int) - 1) om om);omega)) (by first|omega|(have h1:=hE.rng _ (Bf (xs:=ord) (i:=(k:Int) - 1) om om);omega))) (Dro 21 C (Bo (xs:=lat) ef C Bk (by first|omega|(have h1:=hE.rng _ (Bf (xs:=ord) (i:=(k:Int) - 1) om om);omega)) (by first|omega|(have h1:=hE.rng _ (Bf (xs:=ord) (i:=(k:Int) - 1) om om);omega))) (Dro 22 C (Ad C) (Dro 23 C (Ad C) (Dro 24 C (Az (α:=Int) (xs:=num) Ac ef C C (Ba hm) (by first|omega|(have h1:=hE.rng _ (Bf (xs:=ord) (i:=(k:Int) - 1) om om);omega)) (by first|omega|(have h1:=hE.rng _ (Bf (xs:=ord) (i:=(k:Int) - 1) om om);omega))) (Dro 25 C (Bo (xs:=num) ef C (Ba hm) (by first|omega|(have h1:=hE.rng _ (Bf (xs:=ord) (i:=(k:Int) - 1) om om);omega)) (by first|omega|(have h1:=hE.rng _ (Bf (xs:=ord) (i:=(k:Int) - 1) om om);omega))) (Dro 26 C (Bw C C) (Dr 27 C (Ao C C) (Dr 28 C (Ad C) (Cs (d:=89) C (λg89=>?_) (λg89=>?_))))))))))))
       ·exfalso;have h1:=hE.later k om;have h2:=hlat2 k om;omega
       ·refine Dro 29 C (Ad C) (Dro 30 C (Ad C) (Dro 31 C (Ad C) (Dro 32 C (Az (α:=Int) (xs:=num) Ac ef C C (Ba hm) (by first|omega|(have h1:=hE.rng _ (Bf (xs:=ord) (i:=(k:Int) - 1) om om);omega)) (by first|omega|(have h1:=hE.rng _ (Bf (xs:=ord) (i:=(k:Int) - 1) om om);omega))) (Dro 33 C (Bo (xs:=num) ef C (Ba hm) (by first|omega|(have h1:=hE.rng _ (Bf (xs:=ord) (i:=(k:Int) - 1) om om);omega)) (by first|omega|(have h1:=hE.rng _ (Bf (xs:=ord) (i:=(k:Int) - 1) om om);omega))) (Dro 34 C (A7 C C) (Dr 35 C (Ao C C) (Dz (Aj (Aq (S8 96 1 2 3 8 34 35 36 C C C C C C C C) (A8 C (λc96=>?_) (λc96=>?_)))))))))))
        ·exfalso;have h1:=hE.high k om;rw [List.take_of_length_le om] at hhi;omega
        ·exact Ay (Ak (Aj (Ax (Gr (Rad C C) (Gm C (Bi (B5 ((k+1)) om)))))))
     ·refine Dpo 3 C (Dpo 4 C (Dpo 5 C (Dpo 6 C (Dpo 7 C (Dpo 8 C (Dpo 9 C (Dpo 10 C (Dpo 11 C (Dpo 12 C (Dpo 13 C (Dpo 14 C (Dpo 15 C (Dr 16 C (Ao C C) (Dr 17 C (Ad C) (Dro 18 C (Ad C) (Dro 19 C (Ad C) (Dro 20 C (Az (α:=Int) (xs:=lat) Ac ef C C Bk (by first|omega|(have h1:=hE.rng _ (Bf (xs:=ord) (i:=(k:Int) - 1) om om);omega)) (by first|omega|(have h1:=hE.rng _ (Bf (xs:=ord) (i:=(k:Int) - 1) om om);omega))) (Dro 21 C (Bo (xs:=lat) ef C Bk (by first|omega|(have h1:=hE.rng _ (Bf (xs:=ord) (i:=(k:Int) - 1) om om);omega)) (by first|omega|(have h1:=hE.rng _ (Bf (xs:=ord) (i:=(k:Int) - 1) om om);omega))) (Dro 22 C (Ad C) (Dro 23 C (Ad C) (Dro 24 C (Az (α:=Int) (xs:=num) Ac ef C C (Ba hm) (by first|omega|(have h1:=hE.rng _ (Bf (xs:=ord) (i:=(k:Int) - 1) om om);omega)) (by first|omega|(have h1:=hE.rng _ (Bf (xs:=ord) (i:=(k:Int) - 1) om om);omega))) (Dro 25 C (Bo (xs:=num) ef C (Ba hm) (by first|omega|(have h1:=hE.rng _ (Bf (xs:=ord) (i:=(k:Int) - 1) om om);omega)) (by first|omega|(have h1:=hE.rng _ (Bf (xs:=ord) (i:=(k:Int) - 1) om om);omega))) (Dro 26 C (Bw C C) (Dr 27 C (Ao C C) (Dr 28 C (Ad C) (Cs (d:=89) C (λg89=>?_) (λg89=>?_)))))))))))))))))))))))))))
      ·exfalso;have h1:=hE.later k om;have h2:=hlat2 k om;omega
      ·refine Dro 29 C (Ad C) (Dro 30 C (Ad C) (Dro 31 C (Ad C) (Dro 32 C (Az (α:=Int) (xs:=num) Ac ef C C (Ba hm) (by first|omega|(have h1:=hE.rng _ (Bf (xs:=ord) (i:=(k:Int) - 1) om om);omega)) (by first|omega|(have h1:=hE.rng _ (Bf (xs:=ord) (i:=(k:Int) - 1) om om);omega))) (Dro 33 C (Bo (xs:=num) ef C (Ba hm) (by first|omega|(have h1:=hE.rng _ (Bf (xs:=ord) (i:=(k:Int) - 1) om om);omega)) (by first|omega|(have h1:=hE.rng _ (Bf (xs:=ord) (i:=(k:Int) - 1) om om);omega))) (Dro 34 C (A7 C C) (Dr 35 C (Ao C C) (Dz (Aj (Aq (S8 96 1 2 3 8 34 35 36 C C C C C C C C) (A8 C (λc96=>?_) (λc96=>?_)))))))))))
       ·exfalso;have h1:=hE.high k om;rw [List.take_of_length_le om] at hhi;omega
       ·exact Ay (Ak (Aj (Ax (Gr (Rad C C) (Gm C (Bi (B5 ((k+1)) om)))))))
   ·exact Bv (Al (Al (A5 (Aj (Ai (Ga C (Af (A2 (A6 C C I A3 ⟨rfl,rfl⟩)))))))))
end Go.Sl
