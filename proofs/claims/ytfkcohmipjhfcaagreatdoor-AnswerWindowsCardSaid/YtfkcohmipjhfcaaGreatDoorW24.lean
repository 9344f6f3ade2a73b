/- A part of the proofs of statements of this seat: contracts of functions, and the plain laws that they lean on. No conditions. -/
import Derived.Test.YtfkcohmipjhfcaaGreatDoorW23
set_option linter.unusedVariables false
set_option linter.unusedSimpArgs false
set_option linter.unusedSectionVars false
open Go.Proofs.Tryz (prog)
namespace Go.Sl
open Go.Proofs
set_option maxRecDepth 4000
variable {κ:Ctx}{I:List Item}
set_option maxHeartbeats 1000000 in
theorem AEdgeG_ok{nd node lv tq num den:Int}{ea:Option Addr}{ec:Nat}{es:List Pt}(hl:Sl κ I (.slice ea es.length ec) es)(hG:GrOk nd es)(hT:TabRd κ I 0 tzCells){S:List Int}{sa:Option Addr}{sc:Nat}(hs:Sl κ I (.slice sa S.length sc) S)(hv:ValidP S nd)(h2:S.length=2):eu prog κ 183 [.agg #[e7 nd,.slice ea es.length ec],.agg #[e7 3,e7 node,e7 lv,e7 tq,.slice sa S.length sc,e7 num,e7 den]] I (λr J=>∃(y:Int) (fd:Bool) (num:Int) (a:Option Addr) (c:Nat) (Nl:List Int) (a2:Option Addr) (c2:Nat) (Ol:List Int),r = .agg #[.bool fd,e7 num,e7 0,.slice none 0 0,e7 0,e7 0,.slice none 0 0,.slice a2 Ol.length c2,.slice a Nl.length c,e7 0,.slice none 0 0]/\EdgeR nd es S y fd num Nl Ol/\J=vc 3 (.slice a Nl.length c) Nl::vc 3 (.slice a2 Ol.length c2) Ol::I):=by
 have hle:=edges_le hG
 refine Ce2 Tryz.func183 C C ?_
 refine Aj (Ge1 (Bg (cs:=[_,_]) C C C) λb1=>Ge1 (Bg (cs:=[_,_,_,_,_,_,_]) C C C) λb2=>Ge1 (A9 ty90 C) λb3=>Ah (Au (Bt mixed (C7 11 (Dr 0 C (Be (vs:=[_,_]) ty48) ?_)))))
 refine Dr 1 C (Ab fld71_4 C) (Dr 2 C (As ty22) ?_)
 refine Dr 3 C (A2 (α:=Int) (xs:=S) Ad ef C C (Bj hs) om om) (Dr 4 C (B3 (xs:=S) ef C (Bj hs) om om) (Dr 5 C (Ab fld71_4 C) (Dr 6 C (As ty22) ?_)))
 refine Dr 7 C (A2 (α:=Int) (xs:=S) Ad ef C C (Bj hs) om om) (Dr 8 C (B3 (xs:=S) ef C (Bj hs) om om) (Ds1 9 (Se C (Am call240 C C (FindG_ok (nd:=nd) (Bj hl) (e_ S 0) (e_ S 1) om)) ?_)))
 rintro _ _ ⟨_,_,⟨y4,rfl,hy4,rfl⟩,rfl,rfl⟩
 refine ⟨A5,?_⟩
 refine Dr 10 C (Bb C) ?_
 have hyb:y4<(trussG nd es).length:=find_lt hG hy4
 refine Dz (Ai (Av (S3 5 4 2 C C C) (Au (Aj (Gm C (Gr (Bi C C) (Ah (Bd C (λc21=>?_) (λc21=>?_)))))))))
 ·refine Aj (Gr (Bc (cells:=[_,_,_,_,_,_,_,_,_,_,_]) ty90 Cd pl90 C C) (Ge0 (B4 (cs:=[_,_,_,_,_,_,_,_,_,_,_]) (vs:=[_,_,_,_,_,_,_,_,_,_,_]) (cs':=[_,_,_,_,_,_,_,_,_,_,_]) ty90) ?_))
  exact Ah (Az (Ar (Cf C ty90 C mm C (vc 3 (.slice none ([]:List Int).length 0) ([]:List Int)::vc 3 (.slice none ([]:List Int).length 0) ([]:List Int)::I) (A8 (show Fit κ _ I from Ay) (A8 (B9 (α:=Int) 3 _) (B9 (α:=Int) 3 _))) ⟨y4,false,0,none,0,[],none,0,[],rfl,⟨hy4,(decide_eq_false om).symm,λ_=>⟨rfl,rfl,rfl⟩,λh=>by omega⟩,rfl⟩)))
 ·refine A4 (Ai (Aj (Gl2 ty48 ?_)))
  refine G.e (Am call149 C C (TNumbers_ok (nd:=nd) (Bj hl) om (Bw hT Ay))) ?_
  rintro _ _ ⟨_,_,⟨ad5,cp6,rfl,rfl⟩,rfl,rfl⟩
  refine Gm C (Gr (Ax C C) (Gr (Ax C C) (Ga C (Ga C (Ah (Aj (Gl2 ty48 ?_)))))))
  refine Gc2 (Am call241 C C (TOrder_ok (nd:=nd) (Bj hl) hG (Bw hT Ay))) λad7 cp8=>?_
  refine Gm C (Gr (Ax C C) (Gr (Ax C C) (Ga C (Ga C (Ah (Av (S4 8 6 5 4 C C C C) (Aj (Gm C (Gm C (Gr (A2 (α:=Int) (xs:=trussG nd es) Ad ef C C Bk om om) (Gr (B3 (xs:=trussG nd es) ef C Bk om om) (Gm C (Gm C (Gr (Bc (cells:=[_,_,_,_,_,_,_,_,_,_,_]) ty90 Cd pl90 C C) (Ge0 (B4 (cs:=[_,_,_,_,_,_,_,_,_,_,_]) (vs:=[_,_,_,_,_,_,_,_,_,_,_]) (cs':=[_,_,_,_,_,_,_,_,_,_,_]) ty90) ?_)))))))))))))))
  exact Ah (Az (Cf C ty90 C mm C (vc 3 (.slice ad5 (trussG nd es).length cp6) (trussG nd es)::vc 3 (.slice ad7 (trussO (trisE nd es)).length cp8) (trussO (trisE nd es))::I) Bv ⟨y4,true,e_ (trussG nd es) y4,ad5,cp6,trussG nd es,ad7,cp8,trussO (trisE nd es),rfl,⟨hy4,(decide_eq_true om).symm,λh=>by omega,λ_=>⟨rfl,rfl,rfl⟩⟩,rfl⟩))
set_option maxHeartbeats 1000000 in
theorem AnsU1_ok{nd kd wd mo node lv tq num den:Int}{ea sa:Option Addr}{ec sc:Nat}{es:List Ev}{S:List Int}(hl:Sl κ I (.slice ea es.length ec) es)(hs:Sl κ I (.slice sa S.length sc) S)(hH:HistOk nd kd wd mo es)(hlen:es.length<=19)(h7:nd<=7)(hq:QV nd 1 node lv tq S num den)(hT:TabRd κ I 0 tzCells):eu prog κ 178 [.agg #[e7 nd,.slice ea es.length ec,e7 kd,e7 wd,e7 mo],.agg #[e7 1,e7 node,e7 lv,e7 tq,.slice sa S.length sc,e7 num,e7 den]] I (λr J=>∃A:AnV,r=A.val/\AnsP nd kd wd mo es 1 node lv tq S num den A/\J=AnV.items A I):=by
 have ht:=hq.time rfl
 have hn:=hq.node rfl
 refine Ce2 Tryz.func178 C C ?_
 refine Aj (Ge1 (Bg (cs:=[_,_,_,_,_]) C C C) λb1=>Ge1 (Bg (cs:=[_,_,_,_,_,_,_]) C C C) λb2=>Ge1 (A9 ty90 C) λb3=>Ah (Aj (Gr (Be (vs:=[_,_,_,_,_]) ty163) ?_)))
 refine Gf fld71_3 C (Gl ef ?_)
 refine Gc2 (Am call180 C C (PAt_ok (nd:=nd) (kd:=kd) (wd:=wd) (mo:=mo) (tq:=tq) (Bj hl) hH hlen ht)) λad4 cp5=>?_
 refine Gr (Bc (cells:=[_,_,_,_,_,_,_,_,_,_,_]) ty90 Cd pl90 C C) (G.e (Am call179 C C (Proved_ok (nd:=nd) (n0:=0) (fb:=true) Bk (hH.graph _) (Bw hT Ay))) ?_)
 rintro _ _ ⟨_,_,⟨ad6,cp7,ad8,cp9,rfl,rfl⟩,rfl,rfl⟩
 refine Ge1 (A9 ty90 C) λb10=>Ge0 (B4 (cs:=[_,_,_,_,_,_,_,_,_,_,_]) (vs:=[_,_,_,_,_,_,_,_,_,_,_]) (cs':=[_,_,_,_,_,_,_,_,_,_,_]) ty90) ?_
 refine Ah (Aj (Gf fld90_7 C (Gl ty22 ?_)))
 refine Gf fld71_1 C (Gl ef ?_)
 refine Gr (A2 (α:=Int) (xs:=coreN nd (atG kd wd mo es tq)) Ad ef C C Bk om (by have h9:=coreN_lenG (hH.graph tq);omega)) (Gr (B3 (xs:=coreN nd (atG kd wd mo es tq)) ef C Bk om (by have h9:=coreN_lenG (hH.graph tq);omega)) (Gf fld90_1 C (Ge0 (B4 (cs:=[_,_,_,_,_,_,_,_,_,_,_]) (vs:=[_]) (cs':=[_,_,_,_,_,_,_,_,_,_,_]) ef) ?_)))
 refine Ah (Av (S2 5 4 C C) (Aj (Gr (Be (vs:=[_,_,_,_,_,_,_,_,_,_,_]) ty90) ?_)))
 refine Ge0 (B4 (cs:=[_,_,_,_,_,_,_,_,_,_,_]) (vs:=[_,_,_,_,_,_,_,_,_,_,_]) (cs':=[_,_,_,_,_,_,_,_,_,_,_]) ty90) ?_
 exact Ah (Az (Cf C ty90 C mm C (AnV.items (⟨true,e_ (coreN nd (atG kd wd mo es tq)) node,0,none,0,[],0,0,none,0,[],ad8,cp9,coreO nd (atG kd wd mo es tq),ad6,cp7,coreN nd (atG kd wd mo es tq),0,none,0,[]⟩:AnV) I) (A8 (A8 (A8 (A8 Bv (nv3 _)) (nvp _)) (nv3 _)) Bv) ⟨(⟨true,e_ (coreN nd (atG kd wd mo es tq)) node,0,none,0,[],0,0,none,0,[],ad8,cp9,coreO nd (atG kd wd mo es tq),ad6,cp7,coreN nd (atG kd wd mo es tq),0,none,0,[]⟩:AnV),rfl,(by constructor<;>intro h<;>first|exact absurd h dc|exact ⟨(by constructor<;>intro h<;>first|exact absurd h dc|exact ⟨⟨rfl,rfl,rfl,rfl,rfl,rfl⟩,⟨rfl,rfl,rfl,rfl⟩⟩),rfl⟩),rfl⟩))
set_option maxHeartbeats 1000000 in
theorem AnsU2_ok{nd kd wd mo node lv tq num den:Int}{ea sa:Option Addr}{ec sc:Nat}{es:List Ev}{S:List Int}(hl:Sl κ I (.slice ea es.length ec) es)(hs:Sl κ I (.slice sa S.length sc) S)(hH:HistOk nd kd wd mo es)(hlen:es.length<=19)(h7:nd<=7)(hq:QV nd 2 node lv tq S num den)(hT:TabRd κ I 0 tzCells):eu prog κ 181 [.agg #[e7 nd,.slice ea es.length ec,e7 kd,e7 wd,e7 mo],.agg #[e7 2,e7 node,e7 lv,e7 tq,.slice sa S.length sc,e7 num,e7 den]] I (λr J=>∃A:AnV,r=A.val/\AnsP nd kd wd mo es 2 node lv tq S num den A/\J=AnV.items A I):=by
 have ht:=hq.time rfl
 have hn:=hq.node rfl
 have hlv:=hq.level rfl
 refine Ce2 Tryz.func181 C C ?_
 refine Aj (Ge1 (Bg (cs:=[_,_,_,_,_]) C C C) λb1=>Ge1 (Bg (cs:=[_,_,_,_,_,_,_]) C C C) λb2=>Ge1 (A9 ty90 C) λb3=>Ah (Aj (Gr (Be (vs:=[_,_,_,_,_]) ty163) ?_)))
 refine Gf fld71_3 C (Gl ef ?_)
 refine Gc2 (Am call180 C C (PAt_ok (nd:=nd) (kd:=kd) (wd:=wd) (mo:=mo) (tq:=tq) (Bj hl) hH hlen ht)) λad4 cp5=>?_
 refine Ge1 (A9 ty48 C) λb6=>Ge0 (Cs ty48) ?_
 refine Ah (Aj (Gl2 ty48 ?_))
 refine Gf fld71_1 C (Gl ef ?_)
 refine Gf fld71_2 C (Gl ef ?_)
 refine G.e (Am call59 C C (Comm_ok (nd:=nd) (v:=node) (lv:=lv) Bk (hH.graph _) hn (Bw hT Ay))) ?_
 rintro _ _ ⟨_,_,⟨ad7,cp8,rfl,rfl⟩,rfl,rfl⟩
 refine Gm C (Gr (Ax C C) (Gr (Ax C C) (Ga C (Ga C (Ah (Av (S3 6 5 4 C C C) (Aj (Gl2 ty48 ?_))))))))
 refine Gm C (Gr (Bz Ad C) (Gr (Ci C C) (Gm C (Gr (Bc (cells:=[_,_,_,_,_,_,_,_,_,_,_]) ty90 Cd pl90 C C) (G.e (Am call179 C C (Proved_ok (nd:=nd) (n0:=0) (fb:=(decide (0<(((commG nd (atG kd wd mo es tq) node lv).length:Nat):Int)))) Bk (hH.graph _) (Bw hT Ay))) ?_)))))
 rintro _ _ ⟨_,_,⟨ad9,cp10,ad11,cp12,rfl,rfl⟩,rfl,rfl⟩
 refine Ge0 (B4 (cs:=[_,_,_,_,_,_,_,_,_,_,_]) (vs:=[_,_,_,_,_,_,_,_,_,_,_]) (cs':=[_,_,_,_,_,_,_,_,_,_,_]) ty90) ?_
 exact Ah (Az (Cf C ty90 C mm C (AnV.items (⟨(decide (0<(((commG nd (atG kd wd mo es tq) node lv).length:Nat):Int))),0,0,ad7,cp8,commG nd (atG kd wd mo es tq) node lv,0,0,none,0,[],ad11,cp12,coreO nd (atG kd wd mo es tq),ad9,cp10,coreN nd (atG kd wd mo es tq),0,none,0,[]⟩:AnV) I) (A8 (A8 (A8 Bv (nvp _)) (nv3 _)) Bv) ⟨(⟨(decide (0<(((commG nd (atG kd wd mo es tq) node lv).length:Nat):Int))),0,0,ad7,cp8,commG nd (atG kd wd mo es tq) node lv,0,0,none,0,[],ad11,cp12,coreO nd (atG kd wd mo es tq),ad9,cp10,coreN nd (atG kd wd mo es tq),0,none,0,[]⟩:AnV),rfl,(by constructor<;>intro h<;>first|exact absurd h dc|exact ⟨(by constructor<;>intro h<;>first|exact absurd h dc|exact ⟨⟨rfl,rfl,rfl,rfl,rfl,rfl⟩,⟨rfl,rfl,rfl,rfl⟩⟩),rfl⟩),rfl⟩))
set_option maxHeartbeats 1000000 in
theorem AnsU3_ok{nd kd wd mo node lv tq num den:Int}{ea sa:Option Addr}{ec sc:Nat}{es:List Ev}{S:List Int}(hl:Sl κ I (.slice ea es.length ec) es)(hs:Sl κ I (.slice sa S.length sc) S)(hH:HistOk nd kd wd mo es)(hlen:es.length<=19)(h7:nd<=7)(hq:QV nd 3 node lv tq S num den)(hT:TabRd κ I 0 tzCells):eu prog κ 182 [.agg #[e7 nd,.slice ea es.length ec,e7 kd,e7 wd,e7 mo],.agg #[e7 3,e7 node,e7 lv,e7 tq,.slice sa S.length sc,e7 num,e7 den]] I (λr J=>∃A:AnV,r=A.val/\AnsP nd kd wd mo es 3 node lv tq S num den A/\J=AnV.items A I):=by
 have ht:=hq.time rfl
 have hv:=(hq.set rfl).1
 have h2:=(hq.set rfl).2.2.resolve_left dc
 refine Ce2 Tryz.func182 C C ?_
 refine Aj (Ge1 (Bg (cs:=[_,_,_,_,_]) C C C) λb1=>Ge1 (Bg (cs:=[_,_,_,_,_,_,_]) C C C) λb2=>Ge1 (A9 ty90 C) λb3=>Ah (Au (Bt mixed (C7 6 (Dr 0 C (Be (vs:=[_,_,_,_,_]) ty163) ?_)))))
 refine Dr 1 C (Ab fld71_3 C) (Dr 2 C (As ef) ?_)
 refine Dr 4 C (Be (vs:=[_,_,_,_,_,_,_]) ty71) ?_
 refine Ds1 3 (Sc2 C (Am call180 C C (PAt_ok (nd:=nd) (kd:=kd) (wd:=wd) (mo:=mo) (tq:=tq) (Bj hl) hH hlen ht)) λad4 cp5=>?_)
 refine Ds1 5 (Se C (Am call183 C C (AEdgeG_ok (node:=node) (lv:=lv) (num:=num) (den:=den) (nd:=nd) (tq:=tq) Bk (hH.graph _) (Bw hT Ay) (Bj hs) hv h2)) ?_)
 rintro _ _ ⟨_,_,⟨ye6,fd7,nm8,ad9,cp10,NL11,ad12,cp13,OL14,rfl,hEye6,rfl⟩,rfl,rfl⟩
 refine ⟨A5,?_⟩
 refine Dc kr ?_
 refine Ae 6 C (B4 (cs:=[_,_,_,_,_,_,_,_,_,_,_]) (vs:=[_,_,_,_,_,_,_,_,_,_,_]) (cs':=[_,_,_,_,_,_,_,_,_,_,_]) ty90) ?_
 rintro _ _ ⟨rfl,rfl⟩
 refine De kr ?_
 exact Ai (Az (Cf C ty90 C mm C (AnV.items (⟨fd7,nm8,0,none,0,[],0,0,none,0,[],ad12,cp13,OL14,ad9,cp10,NL11,0,none,0,[]⟩:AnV) I) (A8 (A8 (A8 (A8 Bv (nv3 _)) (nvp _)) (nv3 _)) Bv) ⟨(⟨fd7,nm8,0,none,0,[],0,0,none,0,[],ad12,cp13,OL14,ad9,cp10,NL11,0,none,0,[]⟩:AnV),rfl,(by constructor<;>intro h<;>first|exact absurd h dc|exact ⟨(by constructor<;>intro h<;>first|exact absurd h dc|exact ⟨ye6,hEye6,rfl,rfl,rfl,rfl,rfl,rfl⟩),rfl⟩),rfl⟩))
set_option maxHeartbeats 1000000 in
theorem AnsU4_ok{nd kd wd mo node lv tq num den:Int}{ea sa:Option Addr}{ec sc:Nat}{es:List Ev}{S:List Int}(hl:Sl κ I (.slice ea es.length ec) es)(hs:Sl κ I (.slice sa S.length sc) S)(hH:HistOk nd kd wd mo es)(hlen:es.length<=19)(h7:nd<=7)(hq:QV nd 4 node lv tq S num den)(hT:TabRd κ I 0 tzCells):eu prog κ 184 [.agg #[e7 nd,.slice ea es.length ec,e7 kd,e7 wd,e7 mo],.agg #[e7 4,e7 node,e7 lv,e7 tq,.slice sa S.length sc,e7 num,e7 den]] I (λr J=>∃A:AnV,r=A.val/\AnsP nd kd wd mo es 4 node lv tq S num den A/\J=AnV.items A I):=by
 have ht:=hq.time rfl
 have hv:=(hq.set rfl).1
 have h0:=(hq.set rfl).2.1
 refine Ce2 Tryz.func184 C C ?_
 refine Aj (Ge1 (Bg (cs:=[_,_,_,_,_]) C C C) λb1=>Ge1 (Bg (cs:=[_,_,_,_,_,_,_]) C C C) λb2=>Ge1 (A9 ty90 C) λb3=>Ah (Au (Bt mixed (C7 11 (Dr 0 C (Be (vs:=[_,_,_,_,_]) ty163) ?_)))))
 refine Dr 1 C (Ab fld71_3 C) (Dr 2 C (As ef) ?_)
 refine Dr 4 C (Ab fld71_4 C) (Dr 5 C (As ty22) ?_)
 refine Dv (rs:=[3,10]) kr C C (Ex ?_ (En ?_))
 ·refine Sc2 C (Am call180 C C (PAt_ok (nd:=nd) (kd:=kd) (wd:=wd) (mo:=mo) (tq:=tq) (Bj hl) hH hlen ht)) λad4 cp5=>?_
  refine Dv (rs:=[6,10]) kr C C (Ex ?_ (En ?_))
  ·refine Sc0 C (Am call147 C C (DensityG_ok (nd:=nd) Bk (Bj hs) (by have:=edges_le (hH.graph tq);omega))) ?_
   refine Dr 7 C (Af C) (Dr 8 C (Ax C C) (Dv (rs:=[9,10]) kr C C (Ex ?_ (En ?_))))
   ·refine Sr C (Ax C C) A5 ?_
    refine Ds1 10 (Se1 C (A9 ty40 C) λb6=>?_)
    refine Dc kr ?_
    refine Ae 11 C (Cs ty40) ?_
    rintro _ _ ⟨rfl,rfl⟩
    refine Fc (i:=12) kr C (Bm C) C C (Bb C) ?_
    refine De kr ?_
    refine Ai (Av (S2 5 4 C C) (Aj (Gl2 ty40 ?_)))
    refine Gr (Bc (cells:=[_,_,_,_,_,_,_,_,_,_,_]) ty90 Cd pl90 C C) (Ge0 (B4 (cs:=[_,_,_,_,_,_,_,_,_,_,_]) (vs:=[_,_,_,_,_,_,_,_,_,_,_]) (cs':=[_,_,_,_,_,_,_,_,_,_,_]) ty90) ?_)
    exact Ah (Az (Cf C ty90 C mm C (AnV.items (⟨true,0,0,none,0,[],(densG nd (atG kd wd mo es tq) S).num,(densG nd (atG kd wd mo es tq) S).den,none,0,[],none,0,[],none,0,[],0,none,0,[]⟩:AnV) I) (A8 (A8 (A8 (A8 (A8 (A8 (show Fit κ _ I from Bv) (nv3 _)) (nvp _)) (nv3 _)) (nv3 _)) (nv3 _)) Bv) ⟨(⟨true,0,0,none,0,[],(densG nd (atG kd wd mo es tq) S).num,(densG nd (atG kd wd mo es tq) S).den,none,0,[],none,0,[],none,0,[],0,none,0,[]⟩:AnV),rfl,(by constructor<;>intro h<;>first|exact absurd h dc|exact ⟨(by constructor<;>intro h<;>first|exact absurd h dc|exact ⟨⟨rfl,rfl,rfl,rfl,rfl,rfl⟩,⟨rfl,rfl,rfl,rfl⟩⟩),rfl⟩),rfl⟩))
   ·refine Se1 C (A9 ty40 C) λb7=>?_
    refine Dv (rs:=[9,11]) kr C C (Ex ?_ (En ?_))
    ·refine Sr C (Ax C C) A5 ?_
     refine Dc kr ?_
     refine Ae 11 C (Cs ty40) ?_
     rintro _ _ ⟨rfl,rfl⟩
     refine Fc (i:=12) kr C (Bm C) C C (Bb C) ?_
     refine De kr ?_
     refine Ai (Av (S2 5 4 C C) (Aj (Gl2 ty40 ?_)))
     refine Gr (Bc (cells:=[_,_,_,_,_,_,_,_,_,_,_]) ty90 Cd pl90 C C) (Ge0 (B4 (cs:=[_,_,_,_,_,_,_,_,_,_,_]) (vs:=[_,_,_,_,_,_,_,_,_,_,_]) (cs':=[_,_,_,_,_,_,_,_,_,_,_]) ty90) ?_)
     exact Ah (Az (Cf C ty90 C mm C (AnV.items (⟨true,0,0,none,0,[],(densG nd (atG kd wd mo es tq) S).num,(densG nd (atG kd wd mo es tq) S).den,none,0,[],none,0,[],none,0,[],0,none,0,[]⟩:AnV) I) (A8 (A8 (A8 (A8 (A8 (A8 (show Fit κ _ I from Bv) (nv3 _)) (nvp _)) (nv3 _)) (nv3 _)) (nv3 _)) Bv) ⟨(⟨true,0,0,none,0,[],(densG nd (atG kd wd mo es tq) S).num,(densG nd (atG kd wd mo es tq) S).den,none,0,[],none,0,[],none,0,[],0,none,0,[]⟩:AnV),rfl,(by constructor<;>intro h<;>first|exact absurd h dc|exact ⟨(by constructor<;>intro h<;>first|exact absurd h dc|exact ⟨⟨rfl,rfl,rfl,rfl,rfl,rfl⟩,⟨rfl,rfl,rfl,rfl⟩⟩),rfl⟩),rfl⟩))
    ·refine Se0 C (Cs ty40) ?_
     refine Ds1 9 (Sr C (Ax C C) A5 ?_)
     refine Ds1 12 (Sr C (Bb C) A5 ?_)
     refine Dz (Ai (Av (S2 5 4 C C) (Aj (Gl2 ty40 ?_))))
     refine Gr (Bc (cells:=[_,_,_,_,_,_,_,_,_,_,_]) ty90 Cd pl90 C C) (Ge0 (B4 (cs:=[_,_,_,_,_,_,_,_,_,_,_]) (vs:=[_,_,_,_,_,_,_,_,_,_,_]) (cs':=[_,_,_,_,_,_,_,_,_,_,_]) ty90) ?_)
     exact Ah (Az (Cf C ty90 C mm C (AnV.items (⟨true,0,0,none,0,[],(densG nd (atG kd wd mo es tq) S).num,(densG nd (atG kd wd mo es tq) S).den,none,0,[],none,0,[],none,0,[],0,none,0,[]⟩:AnV) I) (A8 (A8 (A8 (A8 (A8 (A8 (show Fit κ _ I from Bv) (nv3 _)) (nvp _)) (nv3 _)) (nv3 _)) (nv3 _)) Bv) ⟨(⟨true,0,0,none,0,[],(densG nd (atG kd wd mo es tq) S).num,(densG nd (atG kd wd mo es tq) S).den,none,0,[],none,0,[],none,0,[],0,none,0,[]⟩:AnV),rfl,(by constructor<;>intro h<;>first|exact absurd h dc|exact ⟨(by constructor<;>intro h<;>first|exact absurd h dc|exact ⟨⟨rfl,rfl,rfl,rfl,rfl,rfl⟩,⟨rfl,rfl,rfl,rfl⟩⟩),rfl⟩),rfl⟩))
  ·refine Se1 C (A9 ty40 C) λb8=>?_
   refine Ds1 6 (Sc0 C (Am call147 C C (DensityG_ok (nd:=nd) Bk (Bj hs) (by have:=edges_le (hH.graph tq);omega))) ?_)
   refine Dr 7 C (Af C) (Dr 8 C (Ax C C) (Dv (rs:=[9,11]) kr C C (Ex ?_ (En ?_))))
   ·refine Sr C (Ax C C) A5 ?_
    refine Dc kr ?_
    refine Ae 11 C (Cs ty40) ?_
    rintro _ _ ⟨rfl,rfl⟩
    refine Fc (i:=12) kr C (Bm C) C C (Bb C) ?_
    refine De kr ?_
    refine Ai (Av (S2 5 4 C C) (Aj (Gl2 ty40 ?_)))
    refine Gr (Bc (cells:=[_,_,_,_,_,_,_,_,_,_,_]) ty90 Cd pl90 C C) (Ge0 (B4 (cs:=[_,_,_,_,_,_,_,_,_,_,_]) (vs:=[_,_,_,_,_,_,_,_,_,_,_]) (cs':=[_,_,_,_,_,_,_,_,_,_,_]) ty90) ?_)
    exact Ah (Az (Cf C ty90 C mm C (AnV.items (⟨true,0,0,none,0,[],(densG nd (atG kd wd mo es tq) S).num,(densG nd (atG kd wd mo es tq) S).den,none,0,[],none,0,[],none,0,[],0,none,0,[]⟩:AnV) I) (A8 (A8 (A8 (A8 (A8 (A8 (show Fit κ _ I from Bv) (nv3 _)) (nvp _)) (nv3 _)) (nv3 _)) (nv3 _)) Bv) ⟨(⟨true,0,0,none,0,[],(densG nd (atG kd wd mo es tq) S).num,(densG nd (atG kd wd mo es tq) S).den,none,0,[],none,0,[],none,0,[],0,none,0,[]⟩:AnV),rfl,(by constructor<;>intro h<;>first|exact absurd h dc|exact ⟨(by constructor<;>intro h<;>first|exact absurd h dc|exact ⟨⟨rfl,rfl,rfl,rfl,rfl,rfl⟩,⟨rfl,rfl,rfl,rfl⟩⟩),rfl⟩),rfl⟩))
   ·refine Se0 C (Cs ty40) ?_
    refine Ds1 9 (Sr C (Ax C C) A5 ?_)
    refine Ds1 12 (Sr C (Bb C) A5 ?_)
    refine Dz (Ai (Av (S2 5 4 C C) (Aj (Gl2 ty40 ?_))))
    refine Gr (Bc (cells:=[_,_,_,_,_,_,_,_,_,_,_]) ty90 Cd pl90 C C) (Ge0 (B4 (cs:=[_,_,_,_,_,_,_,_,_,_,_]) (vs:=[_,_,_,_,_,_,_,_,_,_,_]) (cs':=[_,_,_,_,_,_,_,_,_,_,_]) ty90) ?_)
    exact Ah (Az (Cf C ty90 C mm C (AnV.items (⟨true,0,0,none,0,[],(densG nd (atG kd wd mo es tq) S).num,(densG nd (atG kd wd mo es tq) S).den,none,0,[],none,0,[],none,0,[],0,none,0,[]⟩:AnV) I) (A8 (A8 (A8 (A8 (A8 (A8 (show Fit κ _ I from Bv) (nv3 _)) (nvp _)) (nv3 _)) (nv3 _)) (nv3 _)) Bv) ⟨(⟨true,0,0,none,0,[],(densG nd (atG kd wd mo es tq) S).num,(densG nd (atG kd wd mo es tq) S).den,none,0,[],none,0,[],none,0,[],0,none,0,[]⟩:AnV),rfl,(by constructor<;>intro h<;>first|exact absurd h dc|exact ⟨(by constructor<;>intro h<;>first|exact absurd h dc|exact ⟨⟨rfl,rfl,rfl,rfl,rfl,rfl⟩,⟨rfl,rfl,rfl,rfl⟩⟩),rfl⟩),rfl⟩))
 ·refine Se1 C (A9 ty40 C) λb9=>?_
  refine Ds1 3 (Sc2 C (Am call180 C C (PAt_ok (nd:=nd) (kd:=kd) (wd:=wd) (mo:=mo) (tq:=tq) (Bj hl) hH hlen ht)) λad10 cp11=>?_)
  refine Ds1 6 (Sc0 C (Am call147 C C (DensityG_ok (nd:=nd) Bk (Bj hs) (by have:=edges_le (hH.graph tq);omega))) ?_)
  refine Dr 7 C (Af C) (Dr 8 C (Ax C C) (Dv (rs:=[9,11]) kr C C (Ex ?_ (En ?_))))
  ·refine Sr C (Ax C C) A5 ?_
   refine Dc kr ?_
   refine Ae 11 C (Cs ty40) ?_
   rintro _ _ ⟨rfl,rfl⟩
   refine Fc (i:=12) kr C (Bm C) C C (Bb C) ?_
   refine De kr ?_
   refine Ai (Av (S2 5 4 C C) (Aj (Gl2 ty40 ?_)))
   refine Gr (Bc (cells:=[_,_,_,_,_,_,_,_,_,_,_]) ty90 Cd pl90 C C) (Ge0 (B4 (cs:=[_,_,_,_,_,_,_,_,_,_,_]) (vs:=[_,_,_,_,_,_,_,_,_,_,_]) (cs':=[_,_,_,_,_,_,_,_,_,_,_]) ty90) ?_)
   exact Ah (Az (Cf C ty90 C mm C (AnV.items (⟨true,0,0,none,0,[],(densG nd (atG kd wd mo es tq) S).num,(densG nd (atG kd wd mo es tq) S).den,none,0,[],none,0,[],none,0,[],0,none,0,[]⟩:AnV) I) (A8 (A8 (A8 (A8 (A8 (A8 (show Fit κ _ I from Bv) (nv3 _)) (nvp _)) (nv3 _)) (nv3 _)) (nv3 _)) Bv) ⟨(⟨true,0,0,none,0,[],(densG nd (atG kd wd mo es tq) S).num,(densG nd (atG kd wd mo es tq) S).den,none,0,[],none,0,[],none,0,[],0,none,0,[]⟩:AnV),rfl,(by constructor<;>intro h<;>first|exact absurd h dc|exact ⟨(by constructor<;>intro h<;>first|exact absurd h dc|exact ⟨⟨rfl,rfl,rfl,rfl,rfl,rfl⟩,⟨rfl,rfl,rfl,rfl⟩⟩),rfl⟩),rfl⟩))
  ·refine Se0 C (Cs ty40) ?_
   refine Ds1 9 (Sr C (Ax C C) A5 ?_)
   refine Ds1 12 (Sr C (Bb C) A5 ?_)
   refine Dz (Ai (Av (S2 5 4 C C) (Aj (Gl2 ty40 ?_))))
   refine Gr (Bc (cells:=[_,_,_,_,_,_,_,_,_,_,_]) ty90 Cd pl90 C C) (Ge0 (B4 (cs:=[_,_,_,_,_,_,_,_,_,_,_]) (vs:=[_,_,_,_,_,_,_,_,_,_,_]) (cs':=[_,_,_,_,_,_,_,_,_,_,_]) ty90) ?_)
   exact Ah (Az (Cf C ty90 C mm C (AnV.items (⟨true,0,0,none,0,[],(densG nd (atG kd wd mo es tq) S).num,(densG nd (atG kd wd mo es tq) S).den,none,0,[],none,0,[],none,0,[],0,none,0,[]⟩:AnV) I) (A8 (A8 (A8 (A8 (A8 (A8 (show Fit κ _ I from Bv) (nv3 _)) (nvp _)) (nv3 _)) (nv3 _)) (nv3 _)) Bv) ⟨(⟨true,0,0,none,0,[],(densG nd (atG kd wd mo es tq) S).num,(densG nd (atG kd wd mo es tq) S).den,none,0,[],none,0,[],none,0,[],0,none,0,[]⟩:AnV),rfl,(by constructor<;>intro h<;>first|exact absurd h dc|exact ⟨(by constructor<;>intro h<;>first|exact absurd h dc|exact ⟨⟨rfl,rfl,rfl,rfl,rfl,rfl⟩,⟨rfl,rfl,rfl,rfl⟩⟩),rfl⟩),rfl⟩))
set_option maxHeartbeats 1000000 in
theorem AnsU5_ok{nd kd wd mo node lv tq num den:Int}{ea sa:Option Addr}{ec sc:Nat}{es:List Ev}{S:List Int}(hl:Sl κ I (.slice ea es.length ec) es)(hs:Sl κ I (.slice sa S.length sc) S)(hH:HistOk nd kd wd mo es)(hlen:es.length<=19)(h7:nd<=7)(hq:QV nd 5 node lv tq S num den)(hT:TabRd κ I 0 tzCells):eu prog κ 185 [.agg #[e7 nd,.slice ea es.length ec,e7 kd,e7 wd,e7 mo],.agg #[e7 5,e7 node,e7 lv,e7 tq,.slice sa S.length sc,e7 num,e7 den]] I (λr J=>∃A:AnV,r=A.val/\AnsP nd kd wd mo es 5 node lv tq S num den A/\J=AnV.items A I):=by
 have ht:=hq.time rfl
 refine Ce2 Tryz.func185 C C ?_
 refine Aj (Ge1 (Bg (cs:=[_,_,_,_,_]) C C C) λb1=>Ge1 (Bg (cs:=[_,_,_,_,_,_,_]) C C C) λb2=>Ge1 (A9 ty90 C) λb3=>Ah (Aj (Gr (Be (vs:=[_,_,_,_,_]) ty163) ?_)))
 refine Gf fld71_3 C (Gl ef ?_)
 refine Gc2 (Am call180 C C (PAt_ok (nd:=nd) (kd:=kd) (wd:=wd) (mo:=mo) (tq:=tq) (Bj hl) hH hlen ht)) λad4 cp5=>?_
 refine Gr (Bc (cells:=[_,_,_,_,_,_,_,_,_,_,_]) ty90 Cd pl90 C C) (G.e (Am call186 C C (ADense_ok (nd:=nd) (tv:=0) Bk (Bw hT Ay))) ?_)
 rintro _ _ ⟨_,_,⟨ad6,cp8,BB9,ad10,cp11,pt12,NN13,DD14,EE15,rfl,⟨hBR,hSB⟩,rfl⟩,rfl,rfl⟩
 refine Ge0 (B4 (cs:=[_,_,_,_,_,_,_,_,_,_,_]) (vs:=[_,_,_,_,_,_,_,_,_,_,_]) (cs':=[_,_,_,_,_,_,_,_,_,_,_]) ty90) ?_
 exact Ah (Az (Cf C ty90 C mm C (AnV.items (⟨true,0,0,ad6,cp8,eo BB9,NN13,DD14,none,0,[],none,0,[],none,0,[],EE15,ad10,cp11,pt12⟩:AnV) I) (A8 (A8 (A8 (A8 Bv (nvp _)) (nv3 _)) (nv3 _)) Bv) ⟨(⟨true,0,0,ad6,cp8,eo BB9,NN13,DD14,none,0,[],none,0,[],none,0,[],EE15,ad10,cp11,pt12⟩:AnV),rfl,(by constructor<;>intro h<;>first|exact absurd h dc|exact ⟨(by constructor<;>intro h<;>first|exact absurd h dc|exact ⟨⟨BB9,hBR,hSB,rfl⟩,rfl,rfl,rfl,rfl,rfl⟩),rfl⟩),rfl⟩))
set_option maxHeartbeats 1000000 in
theorem AnsU6_ok{nd kd wd mo node lv tq num den:Int}{ea sa:Option Addr}{ec sc:Nat}{es:List Ev}{S:List Int}(hl:Sl κ I (.slice ea es.length ec) es)(hs:Sl κ I (.slice sa S.length sc) S)(hH:HistOk nd kd wd mo es)(hlen:es.length<=19)(h7:nd<=7)(hq:QV nd 6 node lv tq S num den)(hT:TabRd κ I 0 tzCells):eu prog κ 187 [.agg #[e7 nd,.slice ea es.length ec,e7 kd,e7 wd,e7 mo],.agg #[e7 6,e7 node,e7 lv,e7 tq,.slice sa S.length sc,e7 num,e7 den]] I (λr J=>∃A:AnV,r=A.val/\AnsP nd kd wd mo es 6 node lv tq S num den A/\J=AnV.items A I):=by
 have ht:=hq.time rfl
 refine Ce2 Tryz.func187 C C ?_
 refine Aj (Ge1 (Bg (cs:=[_,_,_,_,_]) C C C) λb1=>Ge1 (Bg (cs:=[_,_,_,_,_,_,_]) C C C) λb2=>Ge1 (A9 ty90 C) λb3=>Ah (Aj (Gr (Be (vs:=[_,_,_,_,_]) ty163) ?_)))
 refine Gf fld71_3 C (Gl ef ?_)
 refine Gc2 (Am call180 C C (PAt_ok (nd:=nd) (kd:=kd) (wd:=wd) (mo:=mo) (tq:=tq) (Bj hl) hH hlen ht)) λad4 cp5=>?_
 refine G.e (Am call188 C C (CBest_ok (nd:=nd) Bk (hH.graph _) om (Bw hT Ay))) ?_
 rintro _ _ ⟨_,_,⟨ad6,cp7,XC8,rfl,hClXC8,rfl⟩,rfl,rfl⟩
 refine Gm C (Gr (Ax C C) (Gr (Ax C C) (Ga C (Ga C (Ah (Av (S2 5 4 C C) (Aj (Gm C (Gm C (Gr (Bz Ad C) (Gr (Bc (cells:=[_,_,_,_,_,_,_,_,_,_,_]) ty90 Cd pl90 C C) (Ge0 (B4 (cs:=[_,_,_,_,_,_,_,_,_,_,_]) (vs:=[_,_,_,_,_,_,_,_,_,_,_]) (cs':=[_,_,_,_,_,_,_,_,_,_,_]) ty90) ?_))))))))))))
 exact Ah (Az (Cf C ty90 C mm C (AnV.items (⟨true,((XC8.length:Nat):Int),0,ad6,cp7,XC8,0,0,none,0,[],none,0,[],none,0,[],0,none,0,[]⟩:AnV) I) (A8 (A8 (A8 (A8 (A8 Bv (nvp _)) (nv3 _)) (nv3 _)) (nv3 _)) Bv) ⟨(⟨true,((XC8.length:Nat):Int),0,ad6,cp7,XC8,0,0,none,0,[],none,0,[],none,0,[],0,none,0,[]⟩:AnV),rfl,(by constructor<;>intro h<;>first|exact absurd h dc|exact ⟨(by constructor<;>intro h<;>first|exact absurd h dc|exact ⟨hClXC8,⟨rfl,rfl,rfl,rfl,rfl,rfl⟩,⟨rfl,rfl,rfl,rfl⟩⟩),rfl⟩),rfl⟩))
set_option maxHeartbeats 1000000 in
theorem AnsU7_ok{nd kd wd mo node lv tq num den:Int}{ea sa:Option Addr}{ec sc:Nat}{es:List Ev}{S:List Int}(hl:Sl κ I (.slice ea es.length ec) es)(hs:Sl κ I (.slice sa S.length sc) S)(hH:HistOk nd kd wd mo es)(hlen:es.length<=19)(h7:nd<=7)(hq:QV nd 7 node lv tq S num den)(hT:TabRd κ I 0 tzCells):eu prog κ 189 [.agg #[e7 nd,.slice ea es.length ec,e7 kd,e7 wd,e7 mo],.agg #[e7 7,e7 node,e7 lv,e7 tq,.slice sa S.length sc,e7 num,e7 den]] I (λr J=>∃A:AnV,r=A.val/\AnsP nd kd wd mo es 7 node lv tq S num den A/\J=AnV.items A I):=by
 have ht:=hq.time rfl
 refine Ce2 Tryz.func189 C C ?_
 refine Aj (Ge1 (Bg (cs:=[_,_,_,_,_]) C C C) λb1=>Ge1 (Bg (cs:=[_,_,_,_,_,_,_]) C C C) λb2=>Ge1 (A9 ty90 C) λb3=>Ah (Aj (Gr (Be (vs:=[_,_,_,_,_]) ty163) ?_)))
 refine Gf fld71_3 C (Gl ef ?_)
 refine Gc2 (Am call180 C C (PAt_ok (nd:=nd) (kd:=kd) (wd:=wd) (mo:=mo) (tq:=tq) (Bj hl) hH hlen ht)) λad4 cp5=>?_
 refine Gc0 (Am call190 C C (TCount_ok (nd:=nd) Bk (hH.graph _))) ?_
 refine Gm C (Gr (Ax C C) (Gr (Ax C C) (Ga C (Ga C (Ah (Av (S2 5 4 C C) (Aj (Gm C (Gr (Bc (cells:=[_,_,_,_,_,_,_,_,_,_,_]) ty90 Cd pl90 C C) (Ge0 (B4 (cs:=[_,_,_,_,_,_,_,_,_,_,_]) (vs:=[_,_,_,_,_,_,_,_,_,_,_]) (cs':=[_,_,_,_,_,_,_,_,_,_,_]) ty90) ?_))))))))))
 exact Ah (Az (Cf C ty90 C mm C (AnV.items (⟨true,triS nd (atG kd wd mo es tq) / 3,0,none,0,[],0,0,none,0,[],none,0,[],none,0,[],0,none,0,[]⟩:AnV) I) (A8 (A8 (A8 (A8 (A8 (A8 (show Fit κ _ I from Bv) (nv3 _)) (nvp _)) (nv3 _)) (nv3 _)) (nv3 _)) Bv) ⟨(⟨true,triS nd (atG kd wd mo es tq) / 3,0,none,0,[],0,0,none,0,[],none,0,[],none,0,[],0,none,0,[]⟩:AnV),rfl,(by constructor<;>intro h<;>first|exact absurd h dc|exact ⟨(by constructor<;>intro h<;>first|exact absurd h dc|exact ⟨⟨rfl,rfl,rfl,rfl,rfl,rfl⟩,⟨rfl,rfl,rfl,rfl⟩⟩),rfl⟩),rfl⟩))
set_option maxHeartbeats 1000000 in
theorem AnsU8_ok{nd kd wd mo node lv tq num den:Int}{ea sa:Option Addr}{ec sc:Nat}{es:List Ev}{S:List Int}(hl:Sl κ I (.slice ea es.length ec) es)(hs:Sl κ I (.slice sa S.length sc) S)(hH:HistOk nd kd wd mo es)(hlen:es.length<=19)(h7:nd<=7)(hq:QV nd 8 node lv tq S num den)(hf:densF 8=true->FrV ⟨num,den⟩)(hT:TabRd κ I 0 tzCells):eu prog κ 191 [.agg #[e7 nd,.slice ea es.length ec,e7 kd,e7 wd,e7 mo],.agg #[e7 8,e7 node,e7 lv,e7 tq,.slice sa S.length sc,e7 num,e7 den]] I (λr J=>∃A:AnV,r=A.val/\AnsP nd kd wd mo es 8 node lv tq S num den A/\J=AnV.items A I):=by
 refine Ce2 Tryz.func191 C C ?_
 refine Aj (Ge1 (Bg (cs:=[_,_,_,_,_]) C C C) λb1=>Ge1 (Bg (cs:=[_,_,_,_,_,_,_]) C C C) λb2=>Ge1 (A9 ty90 C) λb3=>Ah (Aj (Gf fld163_0 C (Gl ef ?_))))
 refine Gf fld163_1 C (Gl ty28 ?_)
 refine Gf fld163_2 C (Gl3 ty31 ?_)
 refine Gf fld71_5 C (Gl2 ty40 ?_)
 refine G.e (Am call47 C C (AFirst_ok (nd:=nd) (kd:=kd) (wd:=wd) (mo:=mo) (num:=num) (den:=den) (Bj hl) hH hlen (hf C) (Bw hT Ay))) ?_
 rintro _ _ ⟨_,_,⟨tv4,ok5,rfl,hFP,rfl⟩,rfl,rfl⟩
 refine Gm C ?_
 have hfr:=first_rng hH hFP
 refine Gr (Ax C C) (Gr (Ax C C) (Gr (Ax C C) (Ga C (Ga C (Ga C (Ah (Av (S4 6 5 4 2 C C C C) (Au (Aj (Gm C (Gr (B8 C) (Ah (Ez C (λc22=>?_) (λc22=>?_))))))))))))))
 ·refine Aj (Gr (Bc (cells:=[_,_,_,_,_,_,_,_,_,_,_]) ty90 Cd pl90 C C) (Ge0 (B4 (cs:=[_,_,_,_,_,_,_,_,_,_,_]) (vs:=[_,_,_,_,_,_,_,_,_,_,_]) (cs':=[_,_,_,_,_,_,_,_,_,_,_]) ty90) ?_))
  exact Ah (Az (Ar (Cf C ty90 C mm C (AnV.items (⟨false,0,0,none,0,[],0,0,none,0,[],none,0,[],none,0,[],0,none,0,[]⟩:AnV) I) (A8 (A8 (A8 (A8 (A8 (A8 (show Fit κ _ I from Bv) (nv3 _)) (nvp _)) (nv3 _)) (nv3 _)) (nv3 _)) Bv) ⟨(⟨false,0,0,none,0,[],0,0,none,0,[],none,0,[],none,0,[],0,none,0,[]⟩:AnV),rfl,(by constructor<;>intro h<;>first|exact absurd h dc|exact ⟨_,_,hFP,(λh=>by simp_all),λ_=>⟨⟨rfl,rfl,rfl,rfl,rfl,rfl⟩,⟨rfl,rfl,rfl,rfl⟩,rfl⟩⟩),rfl⟩)))
 ·refine A4 (Ai (Aj (Gr (Be (vs:=[_,_,_,_,_]) ty163) ?_)))
  refine Gm C (Gc2 (Am call180 C C (PAt_ok (nd:=nd) (kd:=kd) (wd:=wd) (mo:=mo) (tq:=tv4) (Bj hl) hH hlen hfr.1)) λad6 cp7=>?_)
  refine Gm C (Gr (Bc (cells:=[_,_,_,_,_,_,_,_,_,_,_]) ty90 Cd pl90 C C) (G.e (Am call186 C C (ADense_ok (nd:=nd) (tv:=tv4) Bk (Bw hT Ay))) ?_))
  rintro _ _ ⟨_,_,⟨ad8,cp10,BB11,ad12,cp13,pt14,NN15,DD16,EE17,rfl,⟨hBR,hSB⟩,rfl⟩,rfl,rfl⟩
  refine Ge0 (B4 (cs:=[_,_,_,_,_,_,_,_,_,_,_]) (vs:=[_,_,_,_,_,_,_,_,_,_,_]) (cs':=[_,_,_,_,_,_,_,_,_,_,_]) ty90) ?_
  exact Ah (Az (Cf C ty90 C mm C (AnV.items (⟨true,0,tv4,ad8,cp10,eo BB11,NN15,DD16,none,0,[],none,0,[],none,0,[],EE17,ad12,cp13,pt14⟩:AnV) I) (A8 (A8 (A8 (A8 Bv (nvp _)) (nv3 _)) (nv3 _)) Bv) ⟨(⟨true,0,tv4,ad8,cp10,eo BB11,NN15,DD16,none,0,[],none,0,[],none,0,[],EE17,ad12,cp13,pt14⟩:AnV),rfl,(by constructor<;>intro h<;>first|exact absurd h dc|exact ⟨_,_,hFP,(λ_=>⟨(by constructor<;>intro h<;>first|exact absurd h dc|exact ⟨⟨BB11,hBR,hSB,rfl⟩,rfl,rfl,rfl,rfl,rfl⟩),rfl⟩),λh=>by simp_all⟩),rfl⟩))
set_option maxHeartbeats 1000000 in
theorem AnsU9_ok{nd kd wd mo node lv tq num den:Int}{ea sa:Option Addr}{ec sc:Nat}{es:List Ev}{S:List Int}(hl:Sl κ I (.slice ea es.length ec) es)(hs:Sl κ I (.slice sa S.length sc) S)(hH:HistOk nd kd wd mo es)(hlen:es.length<=19)(h7:nd<=7)(hq:QV nd 9 node lv tq S num den)(hT:TabRd κ I 0 tzCells):eu prog κ 192 [.agg #[e7 nd,.slice ea es.length ec,e7 kd,e7 wd,e7 mo],.agg #[e7 9,e7 node,e7 lv,e7 tq,.slice sa S.length sc,e7 num,e7 den]] I (λr J=>∃A:AnV,r=A.val/\AnsP nd kd wd mo es 9 node lv tq S num den A/\J=AnV.items A I):=by
 have hv:=(hq.set rfl).1
 have hx:0<S.length/\S.length<=64:=⟨(hq.set rfl).2.1,asc_len64 (ValidP_iff.1 hv).2 (λx hx=>by have:=(ValidP_iff.1 hv).1 x hx;omega)⟩
 refine Ce2 Tryz.func192 C C ?_
 refine Aj (Ge1 (Bg (cs:=[_,_,_,_,_]) C C C) λb1=>Ge1 (Bg (cs:=[_,_,_,_,_,_,_]) C C C) λb2=>Ge1 (A9 ty90 C) λb3=>Ah (Aj (Gf fld163_0 C (Gl ef ?_))))
 refine Gf fld163_1 C (Gl ty28 ?_)
 refine Gf fld163_2 C (Gl3 ty31 ?_)
 refine Gf fld71_4 C (Gl ty22 ?_)
 refine Gf fld71_2 C (Gl ef ?_)
 refine G.e (Am call50 C C (ATog_ok (nd:=nd) (kd:=kd) (wd:=wd) (mo:=mo) (lv:=lv) (Bj hl) (Bj hs) hH hlen hx hv (Bw hT Ay))) ?_
 rintro _ _ ⟨_,_,⟨tv4,ok5,rfl,hFPtv4,rfl⟩,rfl,rfl⟩
 refine Gm C ?_
 have hfr:=first_rng hH hFPtv4
 refine Gr (Ax C C) (Gr (Ax C C) (Gr (Ax C C) (Ga C (Ga C (Ga C (Ah (Av (S5 6 5 4 3 2 C C C C C) (Au (Aj (Gm C (Gr (B8 C) (Ah (Ez C (λc26=>?_) (λc26=>?_))))))))))))))
 ·refine Aj (Gr (Bc (cells:=[_,_,_,_,_,_,_,_,_,_,_]) ty90 Cd pl90 C C) (Ge0 (B4 (cs:=[_,_,_,_,_,_,_,_,_,_,_]) (vs:=[_,_,_,_,_,_,_,_,_,_,_]) (cs':=[_,_,_,_,_,_,_,_,_,_,_]) ty90) ?_))
  exact Ah (Az (Ar (Cf C ty90 C mm C (AnV.items (⟨false,0,0,none,0,[],0,0,none,0,[],none,0,[],none,0,[],0,none,0,[]⟩:AnV) I) (A8 (A8 (A8 (A8 (A8 (A8 (show Fit κ _ I from Bv) (nv3 _)) (nvp _)) (nv3 _)) (nv3 _)) (nv3 _)) Bv) ⟨(⟨false,0,0,none,0,[],0,0,none,0,[],none,0,[],none,0,[],0,none,0,[]⟩:AnV),rfl,(by constructor<;>intro h<;>first|exact absurd h dc|exact ⟨_,_,hFPtv4,(λh=>by simp_all),λ_=>⟨⟨rfl,rfl,rfl,rfl,rfl,rfl⟩,⟨rfl,rfl,rfl,rfl⟩,rfl⟩⟩),rfl⟩)))
 ·refine A4 (Ai (Au (Bt mixed (C7 15 (Dr 0 C (Be (vs:=[_,_,_,_,_]) ty163) ?_)))))
  refine Dr 1 C (Af C) (Dr 3 C (Ab fld71_4 C) (Dr 4 C (As ty22) ?_))
  refine Dr 5 C (A2 (α:=Int) (xs:=S) Ad ef C C (Bj hs) om om) (Dr 6 C (B3 (xs:=S) ef C (Bj hs) om om) (Dr 7 C (Ab fld71_2 C) (Dr 8 C (As ef) ?_)))
  refine Ds1 2 (Sc2 C (Am call180 C C (PAt_ok (nd:=nd) (kd:=kd) (wd:=wd) (mo:=mo) (tq:=tv4) (Bj hl) hH hlen hfr.1)) λad6 cp7=>?_)
  refine Ds1 9 (Se C (Am call59 C C (Comm_ok (nd:=nd) (v:=e_ S 0) (lv:=lv) Bk (hH.graph _) (ValidP_mem hv (Cq om om)) (Bw hT Ay))) ?_)
  rintro _ _ ⟨_,_,⟨ad8,cp9,rfl,rfl⟩,rfl,rfl⟩
  refine ⟨A5,?_⟩
  refine Dr 10 C (Af C) (Dr 11 C (Ax C C) (Dr 12 C (Ax C C) (Dr 13 C (Bb C) (Dr 14 C (Bb C) (Dz (Ai (Av (S3 8 5 4 C C C) (Aj (Gm C (Gm C (Gr (Bc (cells:=[_,_,_,_,_,_,_,_,_,_,_]) ty90 Cd pl90 C C) (Ge0 (B4 (cs:=[_,_,_,_,_,_,_,_,_,_,_]) (vs:=[_,_,_,_,_,_,_,_,_,_,_]) (cs':=[_,_,_,_,_,_,_,_,_,_,_]) ty90) ?_))))))))))))
  exact Ah (Az (Cf C ty90 C mm C (AnV.items (⟨true,0,tv4,ad8,cp9,commG nd (atG kd wd mo es tv4) (e_ S 0) lv,0,0,none,0,[],none,0,[],none,0,[],0,none,0,[]⟩:AnV) I) (A8 (A8 (A8 (A8 (A8 Bv (nvp _)) (nv3 _)) (nv3 _)) (nv3 _)) Bv) ⟨(⟨true,0,tv4,ad8,cp9,commG nd (atG kd wd mo es tv4) (e_ S 0) lv,0,0,none,0,[],none,0,[],none,0,[],0,none,0,[]⟩:AnV),rfl,(by constructor<;>intro h<;>first|exact absurd h dc|exact ⟨_,_,hFPtv4,(λ_=>⟨⟨rfl,rfl,rfl,rfl,rfl,rfl⟩,⟨rfl,rfl,rfl,rfl⟩,rfl⟩),λh=>by simp_all⟩),rfl⟩))
set_option maxHeartbeats 1000000 in
theorem AnsU10_ok{nd kd wd mo node lv tq num den:Int}{ea sa:Option Addr}{ec sc:Nat}{es:List Ev}{S:List Int}(hl:Sl κ I (.slice ea es.length ec) es)(hs:Sl κ I (.slice sa S.length sc) S)(hH:HistOk nd kd wd mo es)(hlen:es.length<=19)(h7:nd<=7)(hq:QV nd 10 node lv tq S num den)(hT:TabRd κ I 0 tzCells):eu prog κ 193 [.agg #[e7 nd,.slice ea es.length ec,e7 kd,e7 wd,e7 mo],.agg #[e7 10,e7 node,e7 lv,e7 tq,.slice sa S.length sc,e7 num,e7 den]] I (λr J=>∃A:AnV,r=A.val/\AnsP nd kd wd mo es 10 node lv tq S num den A/\J=AnV.items A I):=by
 refine Ce2 Tryz.func193 C C ?_
 refine Aj (Ge1 (Bg (cs:=[_,_,_,_,_]) C C C) λb1=>Ge1 (Bg (cs:=[_,_,_,_,_,_,_]) C C C) λb2=>Ge1 (A9 ty90 C) λb3=>Ah (Aj (Gf fld163_0 C (Gl ef ?_))))
 refine Gf fld163_1 C (Gl ty28 ?_)
 refine Gf fld163_2 C (Gl3 ty31 ?_)
 refine Gf fld71_1 C (Gl ef ?_)
 refine G.e (Am call52 C C (AHistF_ok (nd:=nd) (kd:=kd) (wd:=wd) (mo:=mo) (v:=node) (Bj hl) hH hlen (hq.node C) (Bw hT Ay))) ?_
 rintro _ _ ⟨_,_,⟨ad4,cp5,XS6,rfl,hSPXS6,rfl⟩,rfl,rfl⟩
 refine Gm C (Gr (Ax C C) (Gr (Ax C C) (Ga C (Ga C (Ah (Av (S2 5 4 C C) (Aj (Gm C (Gr (Bc (cells:=[_,_,_,_,_,_,_,_,_,_,_]) ty90 Cd pl90 C C) (Ge0 (B4 (cs:=[_,_,_,_,_,_,_,_,_,_,_]) (vs:=[_,_,_,_,_,_,_,_,_,_,_]) (cs':=[_,_,_,_,_,_,_,_,_,_,_]) ty90) ?_))))))))))
 exact Ah (Az (Cf C ty90 C mm C (AnV.items (⟨true,0,0,none,0,[],0,0,ad4,cp5,XS6,none,0,[],none,0,[],0,none,0,[]⟩:AnV) I) (A8 (A8 (A8 (A8 (A8 Bv (nv3 _)) (nv3 _)) (nv3 _)) (nv3 _)) Bv) ⟨(⟨true,0,0,none,0,[],0,0,ad4,cp5,XS6,none,0,[],none,0,[],0,none,0,[]⟩:AnV),rfl,(by constructor<;>intro h<;>first|exact absurd h dc|exact ⟨⟨rfl,rfl,rfl,rfl,rfl,hSPXS6⟩,⟨rfl,rfl,rfl,rfl⟩,rfl⟩),rfl⟩))
def fnK(K:Int):Nat:=if K=1 then 178 else if K=2 then 181 else if K=3 then 182 else if K=4 then 184 else if K=5 then 185 else if K=6 then 187 else if K=7 then 189 else if K=8 then 191 else if K=9 then 192 else 193
theorem k10{p:Int->Prop}{K:Int}(h:1<=K/\K<=10)(h1:p 1)(h2:p 2)(h3:p 3)(h4:p 4)(h5:p 5)(h6:p 6)(h7:p 7)(h8:p 8)(h9:p 9)(h10:p 10):p K:=by
 rcases (show K=1\/K=2\/K=3\/K=4\/K=5\/K=6\/K=7\/K=8\/K=9\/K=10 by omega) with rfl|rfl|rfl|rfl|rfl|rfl|rfl|rfl|rfl|rfl<;>assumption
theorem callK{K:Int}(h:1<=K/\K<=10):callable prog (fnK K)=true:=k10 (p:=λK=>callable prog (fnK K)=true) h call178 call181 call182 call184 call185 call187 call189 call191 call192 call193
theorem AnsU_ok{K:Int}{nd kd wd mo node lv tq num den:Int}{ea sa:Option Addr}{ec sc:Nat}{es:List Ev}{S:List Int}(hl:Sl κ I (.slice ea es.length ec) es)(hs:Sl κ I (.slice sa S.length sc) S)(hH:HistOk nd kd wd mo es)(hlen:es.length<=19)(h7:nd<=7)(hq:QV nd K node lv tq S num den)(hf:densF K=true->FrV ⟨num,den⟩)(hT:TabRd κ I 0 tzCells):eu prog κ (fnK K) [.agg #[e7 (nd),.slice ea es.length ec,e7 (kd),e7 (wd),e7 (mo)],.agg #[e7 (K),e7 (node),e7 (lv),e7 (tq),.slice sa S.length sc,e7 (num),e7 (den)]] I (λr J=>∃A:AnV,r=A.val/\AnsP nd kd wd mo es K node lv tq S num den A/\J=AnV.items A I):=
 k10 (p:=λK=>QV nd K node lv tq S num den->(densF K=true->FrV ⟨num,den⟩)->eu prog κ (fnK K) [.agg #[e7 nd,.slice ea es.length ec,e7 kd,e7 wd,e7 mo],.agg #[e7 K,e7 node,e7 lv,e7 tq,.slice sa S.length sc,e7 num,e7 den]] I (λr J=>∃A:AnV,r=A.val/\AnsP nd kd wd mo es K node lv tq S num den A/\J=AnV.items A I)) hq.rng (λhq hf=>AnsU1_ok hl hs hH hlen h7 hq hT) (λhq hf=>AnsU2_ok hl hs hH hlen h7 hq hT) (λhq hf=>AnsU3_ok hl hs hH hlen h7 hq hT) (λhq hf=>AnsU4_ok hl hs hH hlen h7 hq hT) (λhq hf=>AnsU5_ok hl hs hH hlen h7 hq hT) (λhq hf=>AnsU6_ok hl hs hH hlen h7 hq hT) (λhq hf=>AnsU7_ok hl hs hH hlen h7 hq hT) (λhq hf=>AnsU8_ok hl hs hH hlen h7 hq hf hT) (λhq hf=>AnsU9_ok hl hs hH hlen h7 hq hT) (λhq hf=>AnsU10_ok hl hs hH hlen h7 hq hT) hq hf
theorem Runs.lookupAny{κ:Ctx}{N:Frm}{L:Env}{J:List Item}{d:Option Tmp}{ty:TypeId}{ps:String}{af:Array Edge}{gd:Option (Nat×Bool)}{x y:Operand}{r:Nat}{K:Int}(h:1<=K/\K<=10)(hx:er L x=some (.map (some r)))(hy:er L y=some (e7 K))(hm:mp r [({key:=e7 (1),val:= .func (.func 178) #[] #[],born:=0}:MapEntry),({key:=e7 (2),val:= .func (.func 181) #[] #[],born:=1}:MapEntry),({key:=e7 (3),val:= .func (.func 182) #[] #[],born:=2}:MapEntry),({key:=e7 (4),val:= .func (.func 184) #[] #[],born:=3}:MapEntry),({key:=e7 (5),val:= .func (.func 185) #[] #[],born:=4}:MapEntry),({key:=e7 (6),val:= .func (.func 187) #[] #[],born:=5}:MapEntry),({key:=e7 (7),val:= .func (.func 189) #[] #[],born:=6}:MapEntry),({key:=e7 (8),val:= .func (.func 191) #[] #[],born:=7}:MapEntry),({key:=e7 (9),val:= .func (.func 192) #[] #[],born:=8}:MapEntry),({key:=e7 (10),val:= .func (.func 193) #[] #[],born:=9}:MapEntry)] 10∈J) :
  Runs prog κ N ⟨d,.lookup 160 x y false,ty,ps,af,gd⟩ L J (.func (.func (fnK K)) #[] #[]):=
 k10 (p:=λK=>er L y=some (e7 K)->Runs prog κ N ⟨d,.lookup 160 x y false,ty,ps,af,gd⟩ L J (.func (.func (fnK K)) #[] #[])) h (λhy=>Df (i:=0) Cc Bo hx hy rfl hm rfl) (λhy=>Df (i:=1) Cc Bo hx hy rfl hm rfl) (λhy=>Df (i:=2) Cc Bo hx hy rfl hm rfl) (λhy=>Df (i:=3) Cc Bo hx hy rfl hm rfl) (λhy=>Df (i:=4) Cc Bo hx hy rfl hm rfl) (λhy=>Df (i:=5) Cc Bo hx hy rfl hm rfl) (λhy=>Df (i:=6) Cc Bo hx hy rfl hm rfl) (λhy=>Df (i:=7) Cc Bo hx hy rfl hm rfl) (λhy=>Df (i:=8) Cc Bo hx hy rfl hm rfl) (λhy=>Df (i:=9) Cc Bo hx hy rfl hm rfl) hy
def askQ(nd kd wd mo:Int)(es:List Ev)(K node lv tq:Int)(S:List Int)(num den:Int):Int:=if slideE nd kd wd mo es≠0 then slideE nd kd wd mo es else checkQ nd K node lv tq S num den
theorem hist_of{nd kd wd mo:Int}{es:List Ev}(h:slideE nd kd wd mo es=0):HistOk nd kd wd mo es:=by
 unfold slideE at h
 by_cases hw:checkW kd wd mo=0
 ·rw [if_neg (by simp [hw])] at h;exact ⟨streamE_ok h,hw⟩
 ·rw [if_pos hw] at h;exact absurd h hw
set_option maxHeartbeats 1000000 in
theorem AskG_ok{nd kd wd mo K node lv tq num den:Int}{ea sa:Option Addr}{ec sc:Nat}{es:List Ev}{S:List Int}(hl:Sl κ I (.slice ea es.length ec) es)(hs:Sl κ I (.slice sa S.length sc) S)(hlen:es.length<=19)(h7:nd<=7)(hf:densF K=true->FrV ⟨num,den⟩)(hT:TabRd κ I 0 tzCells):eu prog κ 56 [e7 nd,.slice ea es.length ec,.agg #[e7 kd,e7 wd,e7 mo],.agg #[e7 K,e7 node,e7 lv,e7 tq,.slice sa S.length sc,e7 num,e7 den]] I (λr J=>∃A:AnV,r = .tuple #[A.val,e7 (askQ nd kd wd mo es K node lv tq S num den)]/\(askQ nd kd wd mo es K node lv tq S num den=0->AnsP nd kd wd mo es K node lv tq S num den A)/\(askQ nd kd wd mo es K node lv tq S num den≠0->A.zero)/\J=AnV.items A I):=by
 refine Ce4 Tryz.func56 C C ?_
 refine Aj (Ge1 (Bg (cs:=[_,_,_]) C C C) λb1=>Ge1 (Bg (cs:=[_,_,_,_,_,_,_]) C C C) λb2=>Ge1 (A9 ty90 C) λb3=>Ga C (Ah (Au (Aj (Gm C (Gm C (Gl3 ty31 ?_)))))))
 refine Gc0 (Am call97 C C (ACheck_ok (nd:=nd) (kd:=kd) (wd:=wd) (mo:=mo) (Bj hl))) ?_
 refine Ga C (Ah (Aj (Gm C (Gr (Bx C C) (Ah (Av (S7 17 10 8 7 6 0 1 C C C C C C C) (Bd C (λc17=>?_) (λc17=>?_))))))))
 ·refine Aj (Gr (Bc (cells:=[_,_,_,_,_,_,_,_,_,_,_]) ty90 Cd pl90 C C) (Gm C (Ge0 (B4 (cs:=[_,_,_,_,_,_,_,_,_,_,_]) (vs:=[_,_,_,_,_,_,_,_,_,_,_]) (cs':=[_,_,_,_,_,_,_,_,_,_,_]) ty90) ?_)))
  exact Ga C (Ah (Az (Ar (D3 C ty90 C C mm C (AnV.items (⟨false,0,0,none,0,[],0,0,none,0,[],none,0,[],none,0,[],0,none,0,[]⟩:AnV) I) (A8 (show Fit κ _ I from Ay) (A8 (A8 (A8 (A8 (A8 (nv3 _) (nv3 _)) (nv3 _)) (nvp _)) (nv3 _)) Bv)) ⟨(⟨false,0,0,none,0,[],0,0,none,0,[],none,0,[],none,0,[],0,none,0,[]⟩:AnV),congrArg (λn=>Value.tuple #[AnV.val (⟨false,0,0,none,0,[],0,0,none,0,[],none,0,[],none,0,[],0,none,0,[]⟩:AnV),Value.int .i64 n]) (if_pos c17).symm,(λh=>absurd h (by unfold askQ;rw [if_pos c17];exact c17)),(λ_=>⟨⟨rfl,rfl,rfl,rfl,rfl,rfl⟩,⟨rfl,rfl,rfl,rfl⟩,rfl⟩),rfl⟩))))
 ·refine A4 (Ai (Au (Aj (Gl7 ty71 ?_))))
  refine Gm C (Gc0 (Am call105 C C (QCheckG_ok (nd:=nd) (K:=K) (node:=node) (lv:=lv) (tq:=tq) (num:=num) (den:=den) (S:=S) (Bj hs) hf)) ?_)
  refine Ga C (Ah (Aj (Gm C (Gr (Bx C C) (Ah (Bd C (λc24=>?_) (λc24=>?_)))))))
  ·refine Aj (Gr (Bc (cells:=[_,_,_,_,_,_,_,_,_,_,_]) ty90 Cd pl90 C C) (Gm C (Ge0 (B4 (cs:=[_,_,_,_,_,_,_,_,_,_,_]) (vs:=[_,_,_,_,_,_,_,_,_,_,_]) (cs':=[_,_,_,_,_,_,_,_,_,_,_]) ty90) ?_)))
   exact Ga C (Ah (Av (S2 9 8 C C) (Az (Ar (D3 C ty90 C C mm C (AnV.items (⟨false,0,0,none,0,[],0,0,none,0,[],none,0,[],none,0,[],0,none,0,[]⟩:AnV) I) (A8 (show Fit κ _ I from Ay) (A8 (A8 (A8 (A8 (A8 (nv3 _) (nv3 _)) (nv3 _)) (nvp _)) (nv3 _)) Bv)) ⟨(⟨false,0,0,none,0,[],0,0,none,0,[],none,0,[],none,0,[],0,none,0,[]⟩:AnV),congrArg (λn=>Value.tuple #[AnV.val (⟨false,0,0,none,0,[],0,0,none,0,[],none,0,[],none,0,[],0,none,0,[]⟩:AnV),Value.int .i64 n]) (if_neg c17).symm,(λh=>absurd h (by unfold askQ;rw [if_neg c17];exact c24)),(λ_=>⟨⟨rfl,rfl,rfl,rfl,rfl,rfl⟩,⟨rfl,rfl,rfl,rfl⟩,rfl⟩),rfl⟩)))))
  ·refine A4 (Ai (Au (Bt mixed (C9 (e8 b2 [e7 K,e7 node,e7 lv,e7 tq,.slice sa S.length sc,e7 num,e7 den] 71::e8 b1 [e7 kd,e7 wd,e7 mo] 31::I) 12 (Dr 1 C (Ab fld71_0 C) (Dr 2 C (As ef) ?_))))))
   refine Dr 4 C (Af C) (Dr 5 C (Af C) (Dr 6 C (Be (vs:=[_,_,_]) ty31) ?_))
   refine Dr 7 C (Bc (cells:=[_,_,_,_,_]) ty163 Tryz.underlying163 pl163 C C) (Dr 8 C (Be (vs:=[_,_,_,_,_,_,_]) ty71) ?_)
   refine Ds1 0 (Se C (Am call106 C C Answers_ok) ?_)
   rintro _ _ ⟨_,_,⟨mp4,rfl,rfl⟩,rfl,rfl⟩
   refine ⟨A5,?_⟩
   refine Ds1 3 (Sr C (Runs.lookupAny (QV.of (Classical.not_not.1 c24)).rng C C mm) A5 ?_)
   refine Ds1 9 (Se C (C0 (first:=[]) (caps:=[]) (callK (QV.of (Classical.not_not.1 c24)).rng) C C C (AnsU_ok (Bj hl) (Bj hs) (hist_of (Classical.not_not.1 c17)) hlen h7 (QV.of (Classical.not_not.1 c24)) hf (Bw hT Ay))) ?_)
   rintro _ _ ⟨_,_,⟨AV5,rfl,hAN,rfl⟩,rfl,rfl⟩
   refine ⟨A5,?_⟩
   show D prog κ _ _ _ _ _ _ _ ([(36,.agg #[.bool (AV5.fd),e7 (AV5.num),e7 (AV5.tm),.slice AV5.sa AV5.S.length AV5.sc,e7 (AV5.dn),e7 (AV5.dd),.slice AV5.pa AV5.P.length AV5.pc,.slice AV5.oa AV5.O.length AV5.oc,.slice AV5.na AV5.N.length AV5.nc,e7 (AV5.E),.slice AV5.qa AV5.Q.length AV5.qc]),(30,.func (.func (fnK K)) #[] #[]),(27,.map (some mp4)),(35,.agg #[e7 K,e7 node,e7 lv,e7 tq,.slice sa S.length sc,e7 num,e7 den]),(34,.agg #[e7 nd,.slice ea es.length ec,e7 kd,e7 wd,e7 mo]),(33,.agg #[e7 kd,e7 wd,e7 mo]),(32,.slice ea es.length ec),(31,e7 nd),(29,e7 K),(28,.pointer (some ⟨b2,0,none⟩)),(24,.bool (decide ((checkQ nd K node lv tq S num den)≠0))),(23,e7 (checkQ nd K node lv tq S num den)),(11,e7 (checkQ nd K node lv tq S num den)),(22,e7 (checkQ nd K node lv tq S num den)),(21,e7 nd),(20,.agg #[e7 K,e7 node,e7 lv,e7 tq,.slice sa S.length sc,e7 num,e7 den]),(17,.bool (decide ((slideE nd kd wd mo es)≠0))),(10,e7 (slideE nd kd wd mo es)),(8,.pointer (some ⟨b3,0,none⟩)),(7,.pointer (some ⟨b2,0,none⟩)),(6,.pointer (some ⟨b1,0,none⟩)),(0,e7 nd),(1,.slice ea es.length ec)]:Env) (vc 3 (.slice AV5.sa AV5.S.length AV5.sc) (AV5.S)::vc 117 (.slice AV5.pa AV5.P.length AV5.pc) (AV5.P)::vc 3 (.slice AV5.oa AV5.O.length AV5.oc) (AV5.O)::vc 3 (.slice AV5.na AV5.N.length AV5.nc) (AV5.N)::vc 3 (.slice AV5.qa AV5.Q.length AV5.qc) (AV5.Q)::mp mp4 [({key:=e7 1,val:= .func (.func 178) #[] #[],born:=0}:MapEntry),({key:=e7 2,val:= .func (.func 181) #[] #[],born:=1}:MapEntry),({key:=e7 3,val:= .func (.func 182) #[] #[],born:=2}:MapEntry),({key:=e7 4,val:= .func (.func 184) #[] #[],born:=3}:MapEntry),({key:=e7 5,val:= .func (.func 185) #[] #[],born:=4}:MapEntry),({key:=e7 6,val:= .func (.func 187) #[] #[],born:=5}:MapEntry),({key:=e7 7,val:= .func (.func 189) #[] #[],born:=6}:MapEntry),({key:=e7 8,val:= .func (.func 191) #[] #[],born:=7}:MapEntry),({key:=e7 9,val:= .func (.func 192) #[] #[],born:=8}:MapEntry),({key:=e7 10,val:= .func (.func 193) #[] #[],born:=9}:MapEntry)] 10::e8 b3 [.bool false,e7 0,e7 0,.slice none 0 0,e7 0,e7 0,.slice none 0 0,.slice none 0 0,.slice none 0 0,e7 0,.slice none 0 0] 90::e8 b2 [e7 K,e7 node,e7 lv,e7 tq,.slice sa S.length sc,e7 num,e7 den] 71::e8 b1 [e7 kd,e7 wd,e7 mo] 31::I)
   refine Ds1 10 (Se0 C (B4 (cs:=[_,_,_,_,_,_,_,_,_,_,_]) (vs:=[_,_,_,_,_,_,_,_,_,_,_]) (cs':=[_,_,_,_,_,_,_,_,_,_,_]) ty90) ?_)
   exact Dr 11 C (Bb C) (Dz (Ai (Av (S2 9 8 C C) (Az (D3 C ty90 C C mm C (AnV.items AV5 I) Bv ⟨AV5,congrArg (λn=>Value.tuple #[AnV.val AV5,Value.int .i64 n]) (((if_neg c17).trans (Classical.not_not.1 c24)).symm:(0:Int)=askQ nd kd wd mo es K node lv tq S num den),(λ_=>hAN),(λh=>absurd (((if_neg c17).trans (Classical.not_not.1 c24)):askQ nd kd wd mo es K node lv tq S num den=0) h),rfl⟩)))))
end Go.Sl
