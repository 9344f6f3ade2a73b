/- A part of the proofs of statements of this seat: contracts of functions, and the plain laws that they lean on. No conditions. -/
import Derived.Test.YtnbkccjkdpolmaaGreatDoorA24
set_option linter.unusedVariables false
set_option linter.unusedSimpArgs false
set_option linter.unusedSectionVars false
open Go.Proofs.Tryz (prog)
set_option maxHeartbeats 2000000
namespace Go.Sl
open Go.Proofs
set_option maxRecDepth 4000
variable{den lv nd node num tq u v y:Int}{es:List Pt}{ea sa:Option Addr}{ec sc:Nat}{S:List Int}{Aw:AnV}
variable {κ:Ctx}{I:List Item}
theorem find_yes(hG:GrOk nd es)(h:FindP nd es u v y)(M:edgeP u v∈es):0<=y:=by
 rcases h with ⟨_,j,rfl,_⟩|⟨_,h|h⟩
 ·omega
 ·exact absurd (checkG_ok.2 hG) h
 exact absurd M h
theorem find_no(h:FindP nd es u v y)(M:edgeP u v∉es):¬0<=y:=by
 rcases h with ⟨_,j,_,hj,e⟩|⟨rfl,_⟩
 ·exact absurd (e▸Bx om om) M
 omega
theorem pl185(w:World):(placesRun prog 185).run prog w = .ok #[] w:=by kernel_rfl
abbrev WPost(nd:Int)(es:List Pt)(K node lv:Int)(S:List Int)(y:Value)(b:Bool)(I:List Item)(r:Value)(J:List Item):Prop:=∃(wf:Bool) (wn:Int) (wa:Option Addr) (ws:List Int) (wc:Nat) (wdn wdd:Int),r = .tuple #[.agg #[.bool wf,e7 wn,e7 0,.slice wa (ws:List Int).length wc,e7 wdn,e7 wdd,.slice none 0 0,.slice none 0 0,.slice none 0 0,e7 0,.slice none 0 0],y,.bool b]/\WantR nd es K node lv S wf wn ws wdn wdd/\J=vc 3 (.slice wa ws.length wc) ws::I
theorem Wanted1_ok(hl:Sl κ I (.slice ea es.length ec) es)(hs:Sl κ I (.slice sa S.length sc) S)(M:HdA κ I Aw)(hG:GrOk nd es)(h7:nd<=7)(hn:0<=node/\node<nd)(hT:TabRd κ I 0 tzCells):eu prog κ 84 [.agg #[e7 nd,.slice ea es.length ec],.agg #[e7 1,e7 node,e7 lv,e7 tq,.slice sa S.length sc,e7 num,e7 den],.agg #[.bool (Aw.fd),e7 (Aw.num),e7 (Aw.tm),.slice Aw.sa Aw.S.length Aw.sc,e7 (Aw.dn),e7 (Aw.dd),.slice Aw.pa Aw.P.length Aw.pc,.slice Aw.oa Aw.O.length Aw.oc,.slice Aw.na Aw.N.length Aw.nc,e7 (Aw.E),.slice Aw.qa Aw.Q.length Aw.qc]] I (λr J=>WPost nd es 1 node lv S (.iface 180 (.agg #[.slice Aw.na Aw.N.length Aw.nc,.slice Aw.oa Aw.O.length Aw.oc])) (decide (bare1 Aw)) I r J):=by
 have ad:=edges_le hG
 have aa:=hG.rng
 refine Ce3 Eg C C ?_
 refine Ar<|Ge1 (Al (cs:=[_,_]) C C C) λb1=>Ge1 (Al (cs:=[_,_,_,_,_,_,_]) C C C) λb2=>Ge1 (Al (cs:=[_,_,_,_,_,_,_,_,_,_,_]) C C C) λb3=>Ge1 (Am ty42 C) λb4=>Ga C<|Ga C<|As<|Ar<|Gf fld42_0 C<|Ge0 (A3 (cs:=[_,_,_,_,_,_,_,_,_,_,_]) (vs:=[_]) (cs':=[_,_,_,_,_,_,_,_,_,_,_]) ty4) ?_
 refine As<|A5<|Ar<|Gf fld36_0 C<|Gl ef ?_
 refine As<|Bk<|Ar<|Gr (Runs.eqC (λw=>by kernel_rfl) (λw=>by kernel_rfl) C C)<|Ga C<|As<|Bg (S6 19 18 6 5 4 3 C C C C C C)<|W.yes C<|Ar<|Gl2 ty56 ?_
 refine Gc2 (Ac c_ C C<|CNumbers_ok (nd:=nd) (Au hl)<|A8 hT Ah) λae ab=>?_
 refine Gm C<|Gr (Bv C C)<|Gr (Bv C C)<|Ga C<|Ga C<|As<|Ar<|Gm C<|Gf fld36_1 C<|Gl ef ?_
 refine Gr (Az (α:=Int) (xs:=coreN nd es) Aa ef C C A7 om<|by first|omega|(have h9:=coreN_lenG hG;omega))<|Gr (Bj (xs:=coreN nd es) ef C A7 om<|by first|omega|(have h9:=coreN_lenG hG;omega))<|Gf fld42_1 C<|Ge0 (A3 (cs:=[_,_,_,_,_,_,_,_,_,_,_]) (vs:=[_]) (cs':=[_,_,_,_,_,_,_,_,_,_,_]) ef) ?_
 refine As<|Bg (S2 6 5 C C)<|A5<|A4 mixed<|Cr 12<|Dr 1 C (Ad fld42_7 C)<|Dr 2 C (Ax ty22) ?_
 refine Dr 3 C (Ad fld42_6 C)<|Dr 4 C (Ax ty22) ?_
 refine Dr 5 C (Br (cells:=[_,_]) ty180 Tryz.underlying180 pl180 C C)<|Dr 6 C (Ea (λw=>by kernel_rfl) C) ?_
 refine Dr 7 C (Bl (vs:=[_,_,_,_,_,_,_,_,_,_,_]) ty42) ?_
 refine C0 (rs:=[0,8]) kr C C<|D6 ?_<|Dv ?_
 ·refine Sr C (Bl (vs:=[_,_,_,_,_,_,_,_,_,_,_]) ty42) Aj ?_
  refine Ds1 8<|Sc0 C (Ac c_ C C<|Bareft_ok (A:=Aw) ⟨(Au M.s),(Au M.p),(Au M.o),(Au M.n),(Au M.q),M.b⟩) ?_
  refine Ds1 9<|Se0 C (A3 (cs:=[_,_,_,_,_,_,_,_,_,_,_]) (vs:=[_,_,_,_,_,_,_,_,_,_,_]) (cs':=[_,_,_,_,_,_,_,_,_,_,_]) ty42) ?_
  exact Dr 10 C (A0 C)<|Dr 11 C (A0 C)<|Dz<|Ay<|Bf<|B6<|Bq<|D0 C ty42 C C C mm C (vc 3 (.slice none ([]:List Int).length 0) ([]:List Int)::I) (Ak (show Fit κ _ I from Aj)<|nv3 _) ⟨_,_,_,[],_,_,_,rfl,⟨⟨_,_,0,none,0,_,_,_,none,0,_,none,0,coreO nd es,none,0,coreN nd es,0,none,0,[]⟩,⟨λh=>absurd h dc,λh=>absurd h dc,λ_=>(by constructor<;>intro h<;>first|exact absurd h dc|exact ⟨⟨rfl,rfl,rfl,rfl,rfl,rfl⟩,⟨rfl,rfl,rfl,rfl⟩⟩)⟩,⟨rfl,rfl,rfl,rfl,rfl,rfl⟩⟩,rfl⟩
 refine Sc0 C (Ac c_ C C<|Bareft_ok (A:=Aw) ⟨(Au M.s),(Au M.p),(Au M.o),(Au M.n),(Au M.q),M.b⟩) ?_
 refine Ds1 0<|Sr C (Bl (vs:=[_,_,_,_,_,_,_,_,_,_,_]) ty42) Aj ?_
 refine Ds1 9<|Se0 C (A3 (cs:=[_,_,_,_,_,_,_,_,_,_,_]) (vs:=[_,_,_,_,_,_,_,_,_,_,_]) (cs':=[_,_,_,_,_,_,_,_,_,_,_]) ty42) ?_
 exact Dr 10 C (A0 C)<|Dr 11 C (A0 C)<|Dz<|Ay<|Bf<|B6<|Bq<|D0 C ty42 C C C mm C (vc 3 (.slice none ([]:List Int).length 0) ([]:List Int)::I) (Ak (show Fit κ _ I from Aj)<|nv3 _) ⟨_,_,_,[],_,_,_,rfl,⟨⟨_,_,0,none,0,_,_,_,none,0,_,none,0,coreO nd es,none,0,coreN nd es,0,none,0,[]⟩,⟨λh=>absurd h dc,λh=>absurd h dc,λ_=>(by constructor<;>intro h<;>first|exact absurd h dc|exact ⟨⟨rfl,rfl,rfl,rfl,rfl,rfl⟩,⟨rfl,rfl,rfl,rfl⟩⟩)⟩,⟨rfl,rfl,rfl,rfl,rfl,rfl⟩⟩,rfl⟩
theorem Wanted2_ok(hl:Sl κ I (.slice ea es.length ec) es)(hs:Sl κ I (.slice sa S.length sc) S)(M:HdA κ I Aw)(hG:GrOk nd es)(h7:nd<=7)(hn:0<=node/\node<nd)(hT:TabRd κ I 0 tzCells):eu prog κ 84 [.agg #[e7 nd,.slice ea es.length ec],.agg #[e7 2,e7 node,e7 lv,e7 tq,.slice sa S.length sc,e7 num,e7 den],.agg #[.bool (Aw.fd),e7 (Aw.num),e7 (Aw.tm),.slice Aw.sa Aw.S.length Aw.sc,e7 (Aw.dn),e7 (Aw.dd),.slice Aw.pa Aw.P.length Aw.pc,.slice Aw.oa Aw.O.length Aw.oc,.slice Aw.na Aw.N.length Aw.nc,e7 (Aw.E),.slice Aw.qa Aw.Q.length Aw.qc]] I (λr J=>WPost nd es 2 node lv S (.iface 180 (.agg #[.slice Aw.na Aw.N.length Aw.nc,.slice Aw.oa Aw.O.length Aw.oc])) (decide (bare1 Aw)) I r J):=by
 have ae:=edges_le hG
 have ad:=hG.rng
 refine Ce3 Eg C C ?_
 refine Ar<|Ge1 (Al (cs:=[_,_]) C C C) λb1=>Ge1 (Al (cs:=[_,_,_,_,_,_,_]) C C C) λb2=>Ge1 (Al (cs:=[_,_,_,_,_,_,_,_,_,_,_]) C C C) λb3=>Ge1 (Am ty42 C) λb4=>Ga C<|Ga C<|As<|Ar<|Gf fld42_0 C<|Ge0 (A3 (cs:=[_,_,_,_,_,_,_,_,_,_,_]) (vs:=[_]) (cs':=[_,_,_,_,_,_,_,_,_,_,_]) ty4) ?_
 refine As<|A5<|Ar<|Gf fld36_0 C<|Gl ef ?_
 refine As<|Bk<|Ar<|Gr (Runs.eqC (λw=>by kernel_rfl) (λw=>by kernel_rfl) C C)<|Ga C<|As<|Bg (S6 19 18 6 5 4 3 C C C C C C)<|Ef C<|Ar<|Gr (Runs.eqC (λw=>by kernel_rfl) (λw=>by kernel_rfl) C C)<|Ga C<|As<|W.yes C<|Ar<|Gl2 ty56 ?_
 refine Gf fld36_1 C<|Gl ef ?_
 refine Gf fld36_2 C<|Gl ef ?_
 refine G.e (Ac c_ C C<|Comm_ok (nd:=nd) (v:=node) (lv:=lv) (Au hl) hG hn<|A8 hT Ah) ?_
 rintro _ _ ⟨_,_,⟨ab,aa,rfl,rfl⟩,rfl,rfl⟩
 refine Gm C<|Gr (Bv C C)<|Gr (Bv C C)<|Gf fld42_3 C<|Ge0 (A3 (cs:=[_,_,_,_,_,_,_,_,_,_,_]) (vs:=[_]) (cs':=[_,_,_,_,_,_,_,_,_,_,_]) ty22) ?_
 refine As<|Bg (S2 6 5 C C)<|Ar<|Gf fld42_3 C<|Gl ty22 ?_
 refine Gr (Ca Aa C)<|Gr (Df C C)<|Gf fld42_0 C<|Ge0 (A3 (cs:=[_,_,_,_,_,_,_,_,_,_,_]) (vs:=[_]) (cs':=[_,_,_,_,_,_,_,_,_,_,_]) ty4) ?_
 refine As<|A5<|A4 mixed<|Cr 12<|Dr 1 C (Ad fld42_7 C)<|Dr 2 C (Ax ty22) ?_
 refine Dr 3 C (Ad fld42_6 C)<|Dr 4 C (Ax ty22) ?_
 refine Dr 5 C (Br (cells:=[_,_]) ty180 Tryz.underlying180 pl180 C C)<|Dr 6 C (Ea (λw=>by kernel_rfl) C) ?_
 refine Dr 7 C (Bl (vs:=[_,_,_,_,_,_,_,_,_,_,_]) ty42) ?_
 refine C0 (rs:=[0,8]) kr C C<|D6 ?_<|Dv ?_
 ·refine Sr C (Bl (vs:=[_,_,_,_,_,_,_,_,_,_,_]) ty42) Aj ?_
  refine Ds1 8<|Sc0 C (Ac c_ C C<|Bareft_ok (A:=Aw) ⟨(Au M.s),(Au M.p),(Au M.o),(Au M.n),(Au M.q),M.b⟩) ?_
  refine Ds1 9<|Se0 C (A3 (cs:=[_,_,_,_,_,_,_,_,_,_,_]) (vs:=[_,_,_,_,_,_,_,_,_,_,_]) (cs':=[_,_,_,_,_,_,_,_,_,_,_]) ty42) ?_
  exact Dr 10 C (A0 C)<|Dr 11 C (A0 C)<|Dz<|Ay<|Bg (S3 8 7 6 C C C)<|Bf<|B6<|Bq<|D0 C ty42 C C C mm C (vc 3 (.slice ab (commG nd es node lv).length aa) (commG nd es node lv)::I) Bb ⟨_,_,_,commG nd es node lv,_,_,_,rfl,⟨⟨_,_,0,none,0,_,_,_,none,0,_,none,0,coreO nd es,none,0,coreN nd es,0,none,0,[]⟩,⟨λh=>absurd h dc,λh=>absurd h dc,λ_=>(by constructor<;>intro h<;>first|exact absurd h dc|exact ⟨⟨rfl,rfl,rfl,rfl,rfl,rfl⟩,⟨rfl,rfl,rfl,rfl⟩⟩)⟩,⟨rfl,rfl,rfl,rfl,rfl,rfl⟩⟩,rfl⟩
 refine Sc0 C (Ac c_ C C<|Bareft_ok (A:=Aw) ⟨(Au M.s),(Au M.p),(Au M.o),(Au M.n),(Au M.q),M.b⟩) ?_
 refine Ds1 0<|Sr C (Bl (vs:=[_,_,_,_,_,_,_,_,_,_,_]) ty42) Aj ?_
 refine Ds1 9<|Se0 C (A3 (cs:=[_,_,_,_,_,_,_,_,_,_,_]) (vs:=[_,_,_,_,_,_,_,_,_,_,_]) (cs':=[_,_,_,_,_,_,_,_,_,_,_]) ty42) ?_
 exact Dr 10 C (A0 C)<|Dr 11 C (A0 C)<|Dz<|Ay<|Bg (S3 8 7 6 C C C)<|Bf<|B6<|Bq<|D0 C ty42 C C C mm C (vc 3 (.slice ab (commG nd es node lv).length aa) (commG nd es node lv)::I) Bb ⟨_,_,_,commG nd es node lv,_,_,_,rfl,⟨⟨_,_,0,none,0,_,_,_,none,0,_,none,0,coreO nd es,none,0,coreN nd es,0,none,0,[]⟩,⟨λh=>absurd h dc,λh=>absurd h dc,λ_=>(by constructor<;>intro h<;>first|exact absurd h dc|exact ⟨⟨rfl,rfl,rfl,rfl,rfl,rfl⟩,⟨rfl,rfl,rfl,rfl⟩⟩)⟩,⟨rfl,rfl,rfl,rfl,rfl,rfl⟩⟩,rfl⟩
theorem Wanted4_ok(hl:Sl κ I (.slice ea es.length ec) es)(hs:Sl κ I (.slice sa S.length sc) S)(M:HdA κ I Aw)(hG:GrOk nd es)(h7:nd<=7)(hT:TabRd κ I 0 tzCells):eu prog κ 84 [.agg #[e7 nd,.slice ea es.length ec],.agg #[e7 4,e7 node,e7 lv,e7 tq,.slice sa S.length sc,e7 num,e7 den],.agg #[.bool (Aw.fd),e7 (Aw.num),e7 (Aw.tm),.slice Aw.sa Aw.S.length Aw.sc,e7 (Aw.dn),e7 (Aw.dd),.slice Aw.pa Aw.P.length Aw.pc,.slice Aw.oa Aw.O.length Aw.oc,.slice Aw.na Aw.N.length Aw.nc,e7 (Aw.E),.slice Aw.qa Aw.Q.length Aw.qc]] I (λr J=>WPost nd es 4 node lv S (.iface 185 (.agg #[])) (decide (bare2 Aw/\bare1 Aw)) I r J):=by
 have ab:=edges_le hG
 have aa:=hG.rng
 refine Ce3 Eg C C ?_
 refine Ar<|Ge1 (Al (cs:=[_,_]) C C C) λb1=>Ge1 (Al (cs:=[_,_,_,_,_,_,_]) C C C) λb2=>Ge1 (Al (cs:=[_,_,_,_,_,_,_,_,_,_,_]) C C C) λb3=>Ge1 (Am ty42 C) λb4=>Ga C<|Ga C<|As<|Ar<|Gf fld42_0 C<|Ge0 (A3 (cs:=[_,_,_,_,_,_,_,_,_,_,_]) (vs:=[_]) (cs':=[_,_,_,_,_,_,_,_,_,_,_]) ty4) ?_
 refine As<|A5<|Ar<|Gf fld36_0 C<|Gl ef ?_
 refine As<|Bk<|Ar<|Gr (Runs.eqC (λw=>by kernel_rfl) (λw=>by kernel_rfl) C C)<|Ga C<|As<|Bg (S6 19 18 6 5 4 3 C C C C C C)<|Ef C<|Ar<|Gr (Runs.eqC (λw=>by kernel_rfl) (λw=>by kernel_rfl) C C)<|Ga C<|As<|Ef C<|Ar<|Gr (Runs.eqC (λw=>by kernel_rfl) (λw=>by kernel_rfl) C C)<|Ga C<|As<|Ef C<|Ar<|Gr (Runs.eqC (λw=>by kernel_rfl) (λw=>by kernel_rfl) C C)<|Ga C<|As<|W.yes C<|Be<|Gl2 ty56 ?_
 refine Gf fld36_4 C<|Gl ty22 ?_
 refine Gc0 (Ac c_ C C<|DensityG_ok (nd:=nd) (Au hl) (Au hs)<|by have:=edges_le hG;omega) ?_
 refine Gm C<|Gr (Bv C C)<|Gr (Bv C C)<|Gf fld42_4 C<|Ge0 (A3 (cs:=[_,_,_,_,_,_,_,_,_,_,_]) (vs:=[_,_]) (cs':=[_,_,_,_,_,_,_,_,_,_,_]) ty34) ?_
 refine Bi<|Av<|Ay<|Bg (S2 6 5 C C)<|A5<|A4 mixed<|Cr 8<|Dr 1 C (Br (cells:=[]) ty185 Ew pl185 C C)<|Dr 2 C (Ea (λw=>by kernel_rfl) C) ?_
 refine Dr 3 C (Bl (vs:=[_,_,_,_,_,_,_,_,_,_,_]) ty42) ?_
 refine C0 (rs:=[0,4]) kr C C<|D6 ?_<|Dv ?_
 ·refine Sr C (Bl (vs:=[_,_,_,_,_,_,_,_,_,_,_]) ty42) Aj ?_
  refine Ds1 4<|Sc0 C (Ac c_ C C<|Barett_ok (A:=Aw) ⟨(Au M.s),(Au M.p),(Au M.o),(Au M.n),(Au M.q),M.b⟩) ?_
  refine Ds1 5<|Se0 C (A3 (cs:=[_,_,_,_,_,_,_,_,_,_,_]) (vs:=[_,_,_,_,_,_,_,_,_,_,_]) (cs':=[_,_,_,_,_,_,_,_,_,_,_]) ty42) ?_
  exact Dr 6 C (A0 C)<|Dr 7 C (A0 C)<|Dz<|Ay<|Bf<|D0 C ty42 C C C mm C (vc 3 (.slice none ([]:List Int).length 0) ([]:List Int)::I) (Ak (show Fit κ _ I from Aj)<|nv3 _) ⟨_,_,_,[],_,_,_,rfl,⟨⟨_,_,0,none,0,_,_,_,none,0,_,none,0,[],none,0,[],0,none,0,[]⟩,⟨λh=>absurd h dc,λh=>absurd h dc,λ_=>(by constructor<;>intro h<;>first|exact absurd h dc|exact ⟨⟨rfl,rfl,rfl,rfl,rfl,rfl⟩,⟨rfl,rfl,rfl,rfl⟩⟩)⟩,⟨rfl,rfl,rfl,rfl,rfl,rfl⟩⟩,rfl⟩
 refine Sc0 C (Ac c_ C C<|Barett_ok (A:=Aw) ⟨(Au M.s),(Au M.p),(Au M.o),(Au M.n),(Au M.q),M.b⟩) ?_
 refine Ds1 0<|Sr C (Bl (vs:=[_,_,_,_,_,_,_,_,_,_,_]) ty42) Aj ?_
 refine Ds1 5<|Se0 C (A3 (cs:=[_,_,_,_,_,_,_,_,_,_,_]) (vs:=[_,_,_,_,_,_,_,_,_,_,_]) (cs':=[_,_,_,_,_,_,_,_,_,_,_]) ty42) ?_
 exact Dr 6 C (A0 C)<|Dr 7 C (A0 C)<|Dz<|Ay<|Bf<|D0 C ty42 C C C mm C (vc 3 (.slice none ([]:List Int).length 0) ([]:List Int)::I) (Ak (show Fit κ _ I from Aj)<|nv3 _) ⟨_,_,_,[],_,_,_,rfl,⟨⟨_,_,0,none,0,_,_,_,none,0,_,none,0,[],none,0,[],0,none,0,[]⟩,⟨λh=>absurd h dc,λh=>absurd h dc,λ_=>(by constructor<;>intro h<;>first|exact absurd h dc|exact ⟨⟨rfl,rfl,rfl,rfl,rfl,rfl⟩,⟨rfl,rfl,rfl,rfl⟩⟩)⟩,⟨rfl,rfl,rfl,rfl,rfl,rfl⟩⟩,rfl⟩
theorem Wanted5_ok(hl:Sl κ I (.slice ea es.length ec) es)(hs:Sl κ I (.slice sa S.length sc) S)(hA:HdA κ I Aw)(hG:GrOk nd es)(h7:nd<=7)(hT:TabRd κ I 0 tzCells):eu prog κ 84 [.agg #[e7 nd,.slice ea es.length ec],.agg #[e7 5,e7 node,e7 lv,e7 tq,.slice sa S.length sc,e7 num,e7 den],.agg #[.bool (Aw.fd),e7 (Aw.num),e7 (Aw.tm),.slice Aw.sa Aw.S.length Aw.sc,e7 (Aw.dn),e7 (Aw.dd),.slice Aw.pa Aw.P.length Aw.pc,.slice Aw.oa Aw.O.length Aw.oc,.slice Aw.na Aw.N.length Aw.nc,e7 (Aw.E),.slice Aw.qa Aw.Q.length Aw.qc]] I (λr J=>WPost nd es 5 node lv S (.iface 183 (.agg #[.slice Aw.sa Aw.S.length Aw.sc,e7 Aw.dn,e7 Aw.dd,e7 Aw.E,.slice Aw.qa Aw.Q.length Aw.qc])) (decide (bare2 Aw)) I r J):=by
 have an:=edges_le hG
 have ak:=hG.rng
 refine Ce3 Eg C C ?_
 refine Ar<|Ge1 (Al (cs:=[_,_]) C C C) λb1=>Ge1 (Al (cs:=[_,_,_,_,_,_,_]) C C C) λb2=>Ge1 (Al (cs:=[_,_,_,_,_,_,_,_,_,_,_]) C C C) λb3=>Ge1 (Am ty42 C) λb4=>Ga C<|Ga C<|As<|Ar<|Gf fld42_0 C<|Ge0 (A3 (cs:=[_,_,_,_,_,_,_,_,_,_,_]) (vs:=[_]) (cs':=[_,_,_,_,_,_,_,_,_,_,_]) ty4) ?_
 refine As<|A5<|Ar<|Gf fld36_0 C<|Gl ef ?_
 refine As<|Bk<|Ar<|Gr (Runs.eqC (λw=>by kernel_rfl) (λw=>by kernel_rfl) C C)<|Ga C<|As<|Bg (S6 19 18 6 5 4 3 C C C C C C)<|Ef C<|Ar<|Gr (Runs.eqC (λw=>by kernel_rfl) (λw=>by kernel_rfl) C C)<|Ga C<|As<|Ef C<|Ar<|Gr (Runs.eqC (λw=>by kernel_rfl) (λw=>by kernel_rfl) C C)<|Ga C<|As<|Ef C<|Ar<|Gr (Runs.eqC (λw=>by kernel_rfl) (λw=>by kernel_rfl) C C)<|Ga C<|As<|Ef C<|A5<|Ar<|Gr (Runs.eqC (λw=>by kernel_rfl) (λw=>by kernel_rfl) C C)<|Ga C<|As<|Bg (S6 111 18 6 5 4 3 C C C C C C)<|W.yes C<|Bt<|Ay<|W.yes C<|Ar<|Gl2 ty56 ?_
 refine G.e (Ac c_ C C<|BestD_ok (nd:=nd) (Au hl)<|A8 hT Ah) ?_
 rintro _ _ ⟨_,_,⟨ab,aa,Bqq9,ai,ah,M,Nqq9,Dqq9,Eqq9,rfl,⟨ae,ad⟩,rfl⟩,rfl,rfl⟩
 refine Gm C<|Gr (Bv C C)<|Gr (Bv C C)<|Ge1 (Am ty118 C) λaj=>Ge0 (Dl ty118) ?_
 refine Ga C<|As<|A5<|A4 mixed<|Cm (e8 aj [.slice ab (eo Bqq9).length aa,e7 Nqq9,e7 Dqq9,e7 Eqq9,.slice ai M.length ah] 118::vc 3 (.slice ab (eo Bqq9).length aa) (eo Bqq9)::vc 3 (.slice ai M.length ah) (M)::e8 b3 [.bool (Aw.fd),e7<|Aw.num,e7<|Aw.tm,.slice Aw.sa Aw.S.length Aw.sc,e7<|Aw.dn,e7<|Aw.dd,.slice Aw.pa Aw.P.length Aw.pc,.slice Aw.oa Aw.O.length Aw.oc,.slice Aw.na Aw.N.length Aw.nc,e7<|Aw.E,.slice Aw.qa Aw.Q.length Aw.qc] 42::e8 b2 [e7 5,e7 node,e7 lv,e7 tq,.slice sa S.length sc,e7 num,e7 den] 36::e8 b1 [e7 nd,.slice ea es.length ec] 56::I) 8<|Dr 0 C (Ad fld118_0 C)<|Dr 1 C (Ax ty22) ?_
 refine Dr 2 C (Ad fld118_1 C)<|Dr 3 C (Bl (vs:=[_,_]) ty34) ?_
 refine Dr 4 C (Ad fld42_3 C)<|Ds1 5<|Se0 C (A3 (cs:=[_,_,_,_,_,_,_,_,_,_,_]) (vs:=[_]) (cs':=[_,_,_,_,_,_,_,_,_,_,_]) ty22) ?_
 refine Dr 6 C (Ad fld42_4 C)<|Ds1 7<|Se0 C (A3 (cs:=[_,_,_,_,_,_,_,_,_,_,_]) (vs:=[_,_]) (cs':=[_,_,_,_,_,_,_,_,_,_,_]) ty34) ?_
 refine Dz<|Ay<|Bg (S2 6 5 C C)<|A5<|A4 mixed<|Cr 15<|Dr 1 C (Ad fld42_3 C)<|Dr 2 C (Ax ty22) ?_
 refine Dr 3 C (Ad fld42_4 C)<|Dr 4 C (Bl (vs:=[_,_]) ty34) ?_
 refine Dr 5 C (Ad fld42_8 C)<|Dr 6 C (Bl (vs:=[_,_]) ty40) ?_
 refine Dr 7 C (Br (cells:=[_,_,_,_,_]) ty118 Fe pl118 C C)<|Dr 8 C (Br (cells:=[_,_,_,_,_]) ty183 Tryz.underlying183 pl183 C C)<|Dr 9 C (Ea (λw=>by kernel_rfl) C) ?_
 refine Dr 10 C (Bl (vs:=[_,_,_,_,_,_,_,_,_,_,_]) ty42) ?_
 refine C0 (rs:=[0,11]) kr C C<|D6 ?_<|Dv ?_
 ·refine Sr C (Bl (vs:=[_,_,_,_,_,_,_,_,_,_,_]) ty42) Aj ?_
  refine Ds1 11<|Sc0 C (Ac c_ C C<|Baretf_ok (A:=Aw) ⟨(Au hA.s),(Au hA.p),(Au hA.o),(Au hA.n),(Au hA.q),hA.b⟩) ?_
  refine Ds1 12<|Se0 C (A3 (cs:=[_,_,_,_,_,_,_,_,_,_,_]) (vs:=[_,_,_,_,_,_,_,_,_,_,_]) (cs':=[_,_,_,_,_,_,_,_,_,_,_]) ty42) ?_
  exact Dr 13 C (A0 C)<|Dr 14 C (A0 C)<|Dz<|Ay<|Bg (S3 8 7 6 C C C)<|Bf<|B6<|Bq<|D0 C ty42 C C C mm C (vc 3 (.slice ab (eo Bqq9).length aa) (eo Bqq9)::I) Bb ⟨_,_,_,eo Bqq9,_,_,_,rfl,⟨⟨_,_,0,none,0,_,_,_,none,0,_,none,0,[],none,0,[],Eqq9,none,0,M⟩,⟨λh=>absurd h dc,λh=>absurd h dc,λ_=>(by constructor<;>intro h<;>first|exact absurd h dc|exact ⟨⟨Bqq9,ae,ad,rfl⟩,rfl,rfl,rfl,rfl,rfl⟩)⟩,⟨rfl,rfl,rfl,rfl,rfl,rfl⟩⟩,rfl⟩
 refine Sc0 C (Ac c_ C C<|Baretf_ok (A:=Aw) ⟨(Au hA.s),(Au hA.p),(Au hA.o),(Au hA.n),(Au hA.q),hA.b⟩) ?_
 refine Ds1 0<|Sr C (Bl (vs:=[_,_,_,_,_,_,_,_,_,_,_]) ty42) Aj ?_
 refine Ds1 12<|Se0 C (A3 (cs:=[_,_,_,_,_,_,_,_,_,_,_]) (vs:=[_,_,_,_,_,_,_,_,_,_,_]) (cs':=[_,_,_,_,_,_,_,_,_,_,_]) ty42) ?_
 exact Dr 13 C (A0 C)<|Dr 14 C (A0 C)<|Dz<|Ay<|Bg (S3 8 7 6 C C C)<|Bf<|B6<|Bq<|D0 C ty42 C C C mm C (vc 3 (.slice ab (eo Bqq9).length aa) (eo Bqq9)::I) Bb ⟨_,_,_,eo Bqq9,_,_,_,rfl,⟨⟨_,_,0,none,0,_,_,_,none,0,_,none,0,[],none,0,[],Eqq9,none,0,M⟩,⟨λh=>absurd h dc,λh=>absurd h dc,λ_=>(by constructor<;>intro h<;>first|exact absurd h dc|exact ⟨⟨Bqq9,ae,ad,rfl⟩,rfl,rfl,rfl,rfl,rfl⟩)⟩,⟨rfl,rfl,rfl,rfl,rfl,rfl⟩⟩,rfl⟩
theorem Wanted8_ok(hl:Sl κ I (.slice ea es.length ec) es)(hs:Sl κ I (.slice sa S.length sc) S)(hA:HdA κ I Aw)(hG:GrOk nd es)(h7:nd<=7)(hT:TabRd κ I 0 tzCells):eu prog κ 84 [.agg #[e7 nd,.slice ea es.length ec],.agg #[e7 8,e7 node,e7 lv,e7 tq,.slice sa S.length sc,e7 num,e7 den],.agg #[.bool (Aw.fd),e7 (Aw.num),e7 (Aw.tm),.slice Aw.sa Aw.S.length Aw.sc,e7 (Aw.dn),e7 (Aw.dd),.slice Aw.pa Aw.P.length Aw.pc,.slice Aw.oa Aw.O.length Aw.oc,.slice Aw.na Aw.N.length Aw.nc,e7 (Aw.E),.slice Aw.qa Aw.Q.length Aw.qc]] I (λr J=>WPost nd es 8 node lv S (.iface 183 (.agg #[.slice Aw.sa Aw.S.length Aw.sc,e7 Aw.dn,e7 Aw.dd,e7 Aw.E,.slice Aw.qa Aw.Q.length Aw.qc])) (decide (bare2 Aw)) I r J):=by
 have an:=edges_le hG
 have ak:=hG.rng
 refine Ce3 Eg C C ?_
 refine Ar<|Ge1 (Al (cs:=[_,_]) C C C) λb1=>Ge1 (Al (cs:=[_,_,_,_,_,_,_]) C C C) λb2=>Ge1 (Al (cs:=[_,_,_,_,_,_,_,_,_,_,_]) C C C) λb3=>Ge1 (Am ty42 C) λb4=>Ga C<|Ga C<|As<|Ar<|Gf fld42_0 C<|Ge0 (A3 (cs:=[_,_,_,_,_,_,_,_,_,_,_]) (vs:=[_]) (cs':=[_,_,_,_,_,_,_,_,_,_,_]) ty4) ?_
 refine As<|A5<|Ar<|Gf fld36_0 C<|Gl ef ?_
 refine As<|Bk<|Ar<|Gr (Runs.eqC (λw=>by kernel_rfl) (λw=>by kernel_rfl) C C)<|Ga C<|As<|Bg (S6 19 18 6 5 4 3 C C C C C C)<|Ef C<|Ar<|Gr (Runs.eqC (λw=>by kernel_rfl) (λw=>by kernel_rfl) C C)<|Ga C<|As<|Ef C<|Ar<|Gr (Runs.eqC (λw=>by kernel_rfl) (λw=>by kernel_rfl) C C)<|Ga C<|As<|Ef C<|Ar<|Gr (Runs.eqC (λw=>by kernel_rfl) (λw=>by kernel_rfl) C C)<|Ga C<|As<|Ef C<|A5<|Ar<|Gr (Runs.eqC (λw=>by kernel_rfl) (λw=>by kernel_rfl) C C)<|Ga C<|As<|Bg (S6 111 18 6 5 4 3 C C C C C C)<|Ef C<|Be<|Gr (Runs.eqC (λw=>by kernel_rfl) (λw=>by kernel_rfl) C C)<|Ga C<|As<|W.yes C<|Ar<|Gl2 ty56 ?_
 refine G.e (Ac c_ C C<|BestD_ok (nd:=nd) (Au hl)<|A8 hT Ah) ?_
 rintro _ _ ⟨_,_,⟨ab,aa,Bqq9,ai,ah,M,Nqq9,Dqq9,Eqq9,rfl,⟨ae,ad⟩,rfl⟩,rfl,rfl⟩
 refine Gm C<|Gr (Bv C C)<|Gr (Bv C C)<|Ge1 (Am ty118 C) λaj=>Ge0 (Dl ty118) ?_
 refine Ga C<|As<|Bg (S3 14 6 5 C C C)<|A5<|A4 mixed<|Cm (e8 aj [.slice ab (eo Bqq9).length aa,e7 Nqq9,e7 Dqq9,e7 Eqq9,.slice ai M.length ah] 118::vc 3 (.slice ab (eo Bqq9).length aa) (eo Bqq9)::vc 3 (.slice ai M.length ah) (M)::e8 b3 [.bool (Aw.fd),e7<|Aw.num,e7<|Aw.tm,.slice Aw.sa Aw.S.length Aw.sc,e7<|Aw.dn,e7<|Aw.dd,.slice Aw.pa Aw.P.length Aw.pc,.slice Aw.oa Aw.O.length Aw.oc,.slice Aw.na Aw.N.length Aw.nc,e7<|Aw.E,.slice Aw.qa Aw.Q.length Aw.qc] 42::e8 b2 [e7 8,e7 node,e7 lv,e7 tq,.slice sa S.length sc,e7 num,e7 den] 36::e8 b1 [e7 nd,.slice ea es.length ec] 56::I) 8<|Dr 0 C (Ad fld118_0 C)<|Dr 1 C (Ax ty22) ?_
 refine Dr 2 C (Ad fld118_1 C)<|Dr 3 C (Bl (vs:=[_,_]) ty34) ?_
 refine Dr 4 C (Ad fld42_3 C)<|Ds1 5<|Se0 C (A3 (cs:=[_,_,_,_,_,_,_,_,_,_,_]) (vs:=[_]) (cs':=[_,_,_,_,_,_,_,_,_,_,_]) ty22) ?_
 refine Dr 6 C (Ad fld42_4 C)<|Ds1 7<|Se0 C (A3 (cs:=[_,_,_,_,_,_,_,_,_,_,_]) (vs:=[_,_]) (cs':=[_,_,_,_,_,_,_,_,_,_,_]) ty34) ?_
 refine Dz<|Ay<|A5<|A4 mixed<|Cr 15<|Dr 1 C (Ad fld42_3 C)<|Dr 2 C (Ax ty22) ?_
 refine Dr 3 C (Ad fld42_4 C)<|Dr 4 C (Bl (vs:=[_,_]) ty34) ?_
 refine Dr 5 C (Ad fld42_8 C)<|Dr 6 C (Bl (vs:=[_,_]) ty40) ?_
 refine Dr 7 C (Br (cells:=[_,_,_,_,_]) ty118 Fe pl118 C C)<|Dr 8 C (Br (cells:=[_,_,_,_,_]) ty183 Tryz.underlying183 pl183 C C)<|Dr 9 C (Ea (λw=>by kernel_rfl) C) ?_
 refine Dr 10 C (Bl (vs:=[_,_,_,_,_,_,_,_,_,_,_]) ty42) ?_
 refine C0 (rs:=[0,11]) kr C C<|D6 ?_<|Dv ?_
 ·refine Sr C (Bl (vs:=[_,_,_,_,_,_,_,_,_,_,_]) ty42) Aj ?_
  refine Ds1 11<|Sc0 C (Ac c_ C C<|Baretf_ok (A:=Aw) ⟨(Au hA.s),(Au hA.p),(Au hA.o),(Au hA.n),(Au hA.q),hA.b⟩) ?_
  refine Ds1 12<|Se0 C (A3 (cs:=[_,_,_,_,_,_,_,_,_,_,_]) (vs:=[_,_,_,_,_,_,_,_,_,_,_]) (cs':=[_,_,_,_,_,_,_,_,_,_,_]) ty42) ?_
  exact Dr 13 C (A0 C)<|Dr 14 C (A0 C)<|Dz<|Ay<|Bg (S3 8 7 6 C C C)<|Bf<|B6<|Bq<|D0 C ty42 C C C mm C (vc 3 (.slice ab (eo Bqq9).length aa) (eo Bqq9)::I) Bb ⟨_,_,_,eo Bqq9,_,_,_,rfl,⟨⟨_,_,0,none,0,_,_,_,none,0,_,none,0,[],none,0,[],Eqq9,none,0,M⟩,⟨λ_=>(by constructor<;>intro h<;>first|exact absurd h dc|exact ⟨⟨Bqq9,ae,ad,rfl⟩,rfl,rfl,rfl,rfl,rfl⟩),λh=>absurd h dc,λh=>absurd h dc⟩,⟨rfl,rfl,rfl,rfl,rfl,rfl⟩⟩,rfl⟩
 refine Sc0 C (Ac c_ C C<|Baretf_ok (A:=Aw) ⟨(Au hA.s),(Au hA.p),(Au hA.o),(Au hA.n),(Au hA.q),hA.b⟩) ?_
 refine Ds1 0<|Sr C (Bl (vs:=[_,_,_,_,_,_,_,_,_,_,_]) ty42) Aj ?_
 refine Ds1 12<|Se0 C (A3 (cs:=[_,_,_,_,_,_,_,_,_,_,_]) (vs:=[_,_,_,_,_,_,_,_,_,_,_]) (cs':=[_,_,_,_,_,_,_,_,_,_,_]) ty42) ?_
 exact Dr 13 C (A0 C)<|Dr 14 C (A0 C)<|Dz<|Ay<|Bg (S3 8 7 6 C C C)<|Bf<|B6<|Bq<|D0 C ty42 C C C mm C (vc 3 (.slice ab (eo Bqq9).length aa) (eo Bqq9)::I) Bb ⟨_,_,_,eo Bqq9,_,_,_,rfl,⟨⟨_,_,0,none,0,_,_,_,none,0,_,none,0,[],none,0,[],Eqq9,none,0,M⟩,⟨λ_=>(by constructor<;>intro h<;>first|exact absurd h dc|exact ⟨⟨Bqq9,ae,ad,rfl⟩,rfl,rfl,rfl,rfl,rfl⟩),λh=>absurd h dc,λh=>absurd h dc⟩,⟨rfl,rfl,rfl,rfl,rfl,rfl⟩⟩,rfl⟩
theorem Wanted6_ok(hl:Sl κ I (.slice ea es.length ec) es)(hs:Sl κ I (.slice sa S.length sc) S)(hA:HdA κ I Aw)(hG:GrOk nd es)(h7:nd<=7)(hT:TabRd κ I 0 tzCells):eu prog κ 84 [.agg #[e7 nd,.slice ea es.length ec],.agg #[e7 6,e7 node,e7 lv,e7 tq,.slice sa S.length sc,e7 num,e7 den],.agg #[.bool (Aw.fd),e7 (Aw.num),e7 (Aw.tm),.slice Aw.sa Aw.S.length Aw.sc,e7 (Aw.dn),e7 (Aw.dd),.slice Aw.pa Aw.P.length Aw.pc,.slice Aw.oa Aw.O.length Aw.oc,.slice Aw.na Aw.N.length Aw.nc,e7 (Aw.E),.slice Aw.qa Aw.Q.length Aw.qc]] I (λr J=>WPost nd es 6 node lv S (.iface 185 (.agg #[])) (decide (bare2 Aw/\bare1 Aw)) I r J):=by
 have ae:=edges_le hG
 have ad:=hG.rng
 refine Ce3 Eg C C ?_
 refine Ar<|Ge1 (Al (cs:=[_,_]) C C C) λb1=>Ge1 (Al (cs:=[_,_,_,_,_,_,_]) C C C) λb2=>Ge1 (Al (cs:=[_,_,_,_,_,_,_,_,_,_,_]) C C C) λb3=>Ge1 (Am ty42 C) λb4=>Ga C<|Ga C<|As<|Ar<|Gf fld42_0 C<|Ge0 (A3 (cs:=[_,_,_,_,_,_,_,_,_,_,_]) (vs:=[_]) (cs':=[_,_,_,_,_,_,_,_,_,_,_]) ty4) ?_
 refine As<|A5<|Ar<|Gf fld36_0 C<|Gl ef ?_
 refine As<|Bk<|Ar<|Gr (Runs.eqC (λw=>by kernel_rfl) (λw=>by kernel_rfl) C C)<|Ga C<|As<|Bg (S6 19 18 6 5 4 3 C C C C C C)<|Ef C<|Ar<|Gr (Runs.eqC (λw=>by kernel_rfl) (λw=>by kernel_rfl) C C)<|Ga C<|As<|Ef C<|Ar<|Gr (Runs.eqC (λw=>by kernel_rfl) (λw=>by kernel_rfl) C C)<|Ga C<|As<|Ef C<|Ar<|Gr (Runs.eqC (λw=>by kernel_rfl) (λw=>by kernel_rfl) C C)<|Ga C<|As<|Ef C<|A5<|Ar<|Gr (Runs.eqC (λw=>by kernel_rfl) (λw=>by kernel_rfl) C C)<|Ga C<|As<|Bg (S6 111 18 6 5 4 3 C C C C C C)<|Ef C<|Be<|Gr (Runs.eqC (λw=>by kernel_rfl) (λw=>by kernel_rfl) C C)<|Ga C<|As<|Ef C<|Ar<|Gr (Runs.eqC (λw=>by kernel_rfl) (λw=>by kernel_rfl) C C)<|Ga C<|As<|W.yes C<|Ar<|Gl2 ty56 ?_
 refine G.e (Ac c_ C C<|CBest_ok (nd:=nd) (Au hl) hG om<|A8 hT Ah) ?_
 rintro _ _ ⟨_,_,⟨ab,aa,XC7,rfl,M,rfl⟩,rfl,rfl⟩
 refine Gm C<|Gr (Bv C C)<|Gr (Bv C C)<|Gf fld42_3 C<|Ge0 (A3 (cs:=[_,_,_,_,_,_,_,_,_,_,_]) (vs:=[_]) (cs':=[_,_,_,_,_,_,_,_,_,_,_]) ty22) ?_
 refine As<|Bg (S2 6 5 C C)<|Be<|Gf fld42_3 C<|Gl ty22 ?_
 refine Gr (Ca Aa C)<|Gf fld42_1 C<|Ge0 (A3 (cs:=[_,_,_,_,_,_,_,_,_,_,_]) (vs:=[_]) (cs':=[_,_,_,_,_,_,_,_,_,_,_]) ef) ?_
 refine Bi<|Av<|Ay<|A5<|A4 mixed<|Cr 8<|Dr 1 C (Br (cells:=[]) ty185 Ew pl185 C C)<|Dr 2 C (Ea (λw=>by kernel_rfl) C) ?_
 refine Dr 3 C (Bl (vs:=[_,_,_,_,_,_,_,_,_,_,_]) ty42) ?_
 refine C0 (rs:=[0,4]) kr C C<|D6 ?_<|Dv ?_
 ·refine Sr C (Bl (vs:=[_,_,_,_,_,_,_,_,_,_,_]) ty42) Aj ?_
  refine Ds1 4<|Sc0 C (Ac c_ C C<|Barett_ok (A:=Aw) ⟨(Au hA.s),(Au hA.p),(Au hA.o),(Au hA.n),(Au hA.q),hA.b⟩) ?_
  refine Ds1 5<|Se0 C (A3 (cs:=[_,_,_,_,_,_,_,_,_,_,_]) (vs:=[_,_,_,_,_,_,_,_,_,_,_]) (cs':=[_,_,_,_,_,_,_,_,_,_,_]) ty42) ?_
  exact Dr 6 C (A0 C)<|Dr 7 C (A0 C)<|Dz<|Ay<|Bf<|D0 C ty42 C C C mm C (vc 3 (.slice ab XC7.length aa) (XC7)::I) Bb ⟨_,_,_,XC7,_,_,_,rfl,⟨⟨_,_,0,none,0,_,_,_,none,0,_,none,0,[],none,0,[],0,none,0,[]⟩,⟨λh=>absurd h dc,λh=>absurd h dc,λ_=>(by constructor<;>intro h<;>first|exact absurd h dc|exact ⟨M,⟨rfl,rfl,rfl,rfl,rfl,rfl⟩,⟨rfl,rfl,rfl,rfl⟩⟩)⟩,⟨rfl,rfl,rfl,rfl,rfl,rfl⟩⟩,rfl⟩
 refine Sc0 C (Ac c_ C C<|Barett_ok (A:=Aw) ⟨(Au hA.s),(Au hA.p),(Au hA.o),(Au hA.n),(Au hA.q),hA.b⟩) ?_
 refine Ds1 0<|Sr C (Bl (vs:=[_,_,_,_,_,_,_,_,_,_,_]) ty42) Aj ?_
 refine Ds1 5<|Se0 C (A3 (cs:=[_,_,_,_,_,_,_,_,_,_,_]) (vs:=[_,_,_,_,_,_,_,_,_,_,_]) (cs':=[_,_,_,_,_,_,_,_,_,_,_]) ty42) ?_
 exact Dr 6 C (A0 C)<|Dr 7 C (A0 C)<|Dz<|Ay<|Bf<|D0 C ty42 C C C mm C (vc 3 (.slice ab XC7.length aa) (XC7)::I) Bb ⟨_,_,_,XC7,_,_,_,rfl,⟨⟨_,_,0,none,0,_,_,_,none,0,_,none,0,[],none,0,[],0,none,0,[]⟩,⟨λh=>absurd h dc,λh=>absurd h dc,λ_=>(by constructor<;>intro h<;>first|exact absurd h dc|exact ⟨M,⟨rfl,rfl,rfl,rfl,rfl,rfl⟩,⟨rfl,rfl,rfl,rfl⟩⟩)⟩,⟨rfl,rfl,rfl,rfl,rfl,rfl⟩⟩,rfl⟩
theorem Wanted7_ok(hl:Sl κ I (.slice ea es.length ec) es)(hs:Sl κ I (.slice sa S.length sc) S)(M:HdA κ I Aw)(hG:GrOk nd es)(h7:nd<=7)(hT:TabRd κ I 0 tzCells):eu prog κ 84 [.agg #[e7 nd,.slice ea es.length ec],.agg #[e7 7,e7 node,e7 lv,e7 tq,.slice sa S.length sc,e7 num,e7 den],.agg #[.bool (Aw.fd),e7 (Aw.num),e7 (Aw.tm),.slice Aw.sa Aw.S.length Aw.sc,e7 (Aw.dn),e7 (Aw.dd),.slice Aw.pa Aw.P.length Aw.pc,.slice Aw.oa Aw.O.length Aw.oc,.slice Aw.na Aw.N.length Aw.nc,e7 (Aw.E),.slice Aw.qa Aw.Q.length Aw.qc]] I (λr J=>WPost nd es 7 node lv S (.iface 185 (.agg #[])) (decide (bare2 Aw/\bare1 Aw)) I r J):=by
 have ab:=edges_le hG
 have aa:=hG.rng
 refine Ce3 Eg C C ?_
 refine Ar<|Ge1 (Al (cs:=[_,_]) C C C) λb1=>Ge1 (Al (cs:=[_,_,_,_,_,_,_]) C C C) λb2=>Ge1 (Al (cs:=[_,_,_,_,_,_,_,_,_,_,_]) C C C) λb3=>Ge1 (Am ty42 C) λb4=>Ga C<|Ga C<|As<|Ar<|Gf fld42_0 C<|Ge0 (A3 (cs:=[_,_,_,_,_,_,_,_,_,_,_]) (vs:=[_]) (cs':=[_,_,_,_,_,_,_,_,_,_,_]) ty4) ?_
 refine As<|A5<|Ar<|Gf fld36_0 C<|Gl ef ?_
 refine As<|Bk<|Ar<|Gr (Runs.eqC (λw=>by kernel_rfl) (λw=>by kernel_rfl) C C)<|Ga C<|As<|Bg (S6 19 18 6 5 4 3 C C C C C C)<|Ef C<|Ar<|Gr (Runs.eqC (λw=>by kernel_rfl) (λw=>by kernel_rfl) C C)<|Ga C<|As<|Ef C<|Ar<|Gr (Runs.eqC (λw=>by kernel_rfl) (λw=>by kernel_rfl) C C)<|Ga C<|As<|Ef C<|Ar<|Gr (Runs.eqC (λw=>by kernel_rfl) (λw=>by kernel_rfl) C C)<|Ga C<|As<|Ef C<|A5<|Ar<|Gr (Runs.eqC (λw=>by kernel_rfl) (λw=>by kernel_rfl) C C)<|Ga C<|As<|Bg (S6 111 18 6 5 4 3 C C C C C C)<|Ef C<|Be<|Gr (Runs.eqC (λw=>by kernel_rfl) (λw=>by kernel_rfl) C C)<|Ga C<|As<|Ef C<|Ar<|Gr (Runs.eqC (λw=>by kernel_rfl) (λw=>by kernel_rfl) C C)<|Ga C<|As<|Ef C<|Ar<|Gr (Runs.eqC (λw=>by kernel_rfl) (λw=>by kernel_rfl) C C)<|Ga C<|As<|W.yes C<|Be<|Gl2 ty56 ?_
 refine Gc0 (Ac c_ C C<|TCount_ok (nd:=nd) (Au hl) hG) ?_
 refine Gm C<|Gr (Bv C C)<|Gr (Bv C C)<|Gf fld42_1 C<|Ge0 (A3 (cs:=[_,_,_,_,_,_,_,_,_,_,_]) (vs:=[_]) (cs':=[_,_,_,_,_,_,_,_,_,_,_]) ef) ?_
 refine Bi<|Av<|Ay<|Bg (S2 6 5 C C)<|A5<|A4 mixed<|Cr 8<|Dr 1 C (Br (cells:=[]) ty185 Ew pl185 C C)<|Dr 2 C (Ea (λw=>by kernel_rfl) C) ?_
 refine Dr 3 C (Bl (vs:=[_,_,_,_,_,_,_,_,_,_,_]) ty42) ?_
 refine C0 (rs:=[0,4]) kr C C<|D6 ?_<|Dv ?_
 ·refine Sr C (Bl (vs:=[_,_,_,_,_,_,_,_,_,_,_]) ty42) Aj ?_
  refine Ds1 4<|Sc0 C (Ac c_ C C<|Barett_ok (A:=Aw) ⟨(Au M.s),(Au M.p),(Au M.o),(Au M.n),(Au M.q),M.b⟩) ?_
  refine Ds1 5<|Se0 C (A3 (cs:=[_,_,_,_,_,_,_,_,_,_,_]) (vs:=[_,_,_,_,_,_,_,_,_,_,_]) (cs':=[_,_,_,_,_,_,_,_,_,_,_]) ty42) ?_
  exact Dr 6 C (A0 C)<|Dr 7 C (A0 C)<|Dz<|Ay<|Bf<|D0 C ty42 C C C mm C (vc 3 (.slice none ([]:List Int).length 0) ([]:List Int)::I) (Ak (show Fit κ _ I from Aj)<|nv3 _) ⟨_,_,_,[],_,_,_,rfl,⟨⟨_,_,0,none,0,_,_,_,none,0,_,none,0,[],none,0,[],0,none,0,[]⟩,⟨λh=>absurd h dc,λh=>absurd h dc,λ_=>(by constructor<;>intro h<;>first|exact absurd h dc|exact ⟨⟨rfl,rfl,rfl,rfl,rfl,rfl⟩,⟨rfl,rfl,rfl,rfl⟩⟩)⟩,⟨rfl,rfl,rfl,rfl,rfl,rfl⟩⟩,rfl⟩
 refine Sc0 C (Ac c_ C C<|Barett_ok (A:=Aw) ⟨(Au M.s),(Au M.p),(Au M.o),(Au M.n),(Au M.q),M.b⟩) ?_
 refine Ds1 0<|Sr C (Bl (vs:=[_,_,_,_,_,_,_,_,_,_,_]) ty42) Aj ?_
 refine Ds1 5<|Se0 C (A3 (cs:=[_,_,_,_,_,_,_,_,_,_,_]) (vs:=[_,_,_,_,_,_,_,_,_,_,_]) (cs':=[_,_,_,_,_,_,_,_,_,_,_]) ty42) ?_
 exact Dr 6 C (A0 C)<|Dr 7 C (A0 C)<|Dz<|Ay<|Bf<|D0 C ty42 C C C mm C (vc 3 (.slice none ([]:List Int).length 0) ([]:List Int)::I) (Ak (show Fit κ _ I from Aj)<|nv3 _) ⟨_,_,_,[],_,_,_,rfl,⟨⟨_,_,0,none,0,_,_,_,none,0,_,none,0,[],none,0,[],0,none,0,[]⟩,⟨λh=>absurd h dc,λh=>absurd h dc,λ_=>(by constructor<;>intro h<;>first|exact absurd h dc|exact ⟨⟨rfl,rfl,rfl,rfl,rfl,rfl⟩,⟨rfl,rfl,rfl,rfl⟩⟩)⟩,⟨rfl,rfl,rfl,rfl,rfl,rfl⟩⟩,rfl⟩
theorem Wanted9_ok(hl:Sl κ I (.slice ea es.length ec) es)(hs:Sl κ I (.slice sa S.length sc) S)(M:HdA κ I Aw)(hG:GrOk nd es)(h7:nd<=7)(ah:0<S.length)(hn:0<=e_ S 0/\e_ S 0<nd)(hT:TabRd κ I 0 tzCells):eu prog κ 84 [.agg #[e7 nd,.slice ea es.length ec],.agg #[e7 9,e7 node,e7 lv,e7 tq,.slice sa S.length sc,e7 num,e7 den],.agg #[.bool (Aw.fd),e7 (Aw.num),e7 (Aw.tm),.slice Aw.sa Aw.S.length Aw.sc,e7 (Aw.dn),e7 (Aw.dd),.slice Aw.pa Aw.P.length Aw.pc,.slice Aw.oa Aw.O.length Aw.oc,.slice Aw.na Aw.N.length Aw.nc,e7 (Aw.E),.slice Aw.qa Aw.Q.length Aw.qc]] I (λr J=>WPost nd es 9 node lv S (.iface 185 (.agg #[])) (decide (bare2 Aw/\bare1 Aw)) I r J):=by
 have ae:=edges_le hG
 have ad:=hG.rng
 refine Ce3 Eg C C ?_
 refine Ar<|Ge1 (Al (cs:=[_,_]) C C C) λb1=>Ge1 (Al (cs:=[_,_,_,_,_,_,_]) C C C) λb2=>Ge1 (Al (cs:=[_,_,_,_,_,_,_,_,_,_,_]) C C C) λb3=>Ge1 (Am ty42 C) λb4=>Ga C<|Ga C<|As<|Ar<|Gf fld42_0 C<|Ge0 (A3 (cs:=[_,_,_,_,_,_,_,_,_,_,_]) (vs:=[_]) (cs':=[_,_,_,_,_,_,_,_,_,_,_]) ty4) ?_
 refine As<|A5<|Ar<|Gf fld36_0 C<|Gl ef ?_
 refine As<|Bk<|Ar<|Gr (Runs.eqC (λw=>by kernel_rfl) (λw=>by kernel_rfl) C C)<|Ga C<|As<|Bg (S6 19 18 6 5 4 3 C C C C C C)<|Ef C<|Ar<|Gr (Runs.eqC (λw=>by kernel_rfl) (λw=>by kernel_rfl) C C)<|Ga C<|As<|Ef C<|Ar<|Gr (Runs.eqC (λw=>by kernel_rfl) (λw=>by kernel_rfl) C C)<|Ga C<|As<|Ef C<|Ar<|Gr (Runs.eqC (λw=>by kernel_rfl) (λw=>by kernel_rfl) C C)<|Ga C<|As<|Ef C<|A5<|Ar<|Gr (Runs.eqC (λw=>by kernel_rfl) (λw=>by kernel_rfl) C C)<|Ga C<|As<|Bg (S6 111 18 6 5 4 3 C C C C C C)<|Ef C<|Be<|Gr (Runs.eqC (λw=>by kernel_rfl) (λw=>by kernel_rfl) C C)<|Ga C<|As<|Ef C<|Ar<|Gr (Runs.eqC (λw=>by kernel_rfl) (λw=>by kernel_rfl) C C)<|Ga C<|As<|Ef C<|Ar<|Gr (Runs.eqC (λw=>by kernel_rfl) (λw=>by kernel_rfl) C C)<|Ga C<|As<|Ef C<|Ar<|Gr (Runs.eqC (λw=>by kernel_rfl) (λw=>by kernel_rfl) C C)<|Ga C<|As<|Bg (S5 157 6 5 4 3 C C C C C)<|W.yes C<|A4 mixed<|Cm (e8 b3 [.bool (Aw.fd),e7<|Aw.num,e7<|Aw.tm,.slice Aw.sa Aw.S.length Aw.sc,e7<|Aw.dn,e7<|Aw.dd,.slice Aw.pa Aw.P.length Aw.pc,.slice Aw.oa Aw.O.length Aw.oc,.slice Aw.na Aw.N.length Aw.nc,e7<|Aw.E,.slice Aw.qa Aw.Q.length Aw.qc] 42::e8 b2 [e7 9,e7 node,e7 lv,e7 tq,.slice sa S.length sc,e7 num,e7 den] 36::e8 b1 [e7 nd,.slice ea es.length ec] 56::I) 13<|Dr 0 C (Bl (vs:=[_,_]) ty56) ?_
 refine Dr 1 C (Ad fld36_4 C)<|Dr 2 C (Ax ty22) ?_
 refine Dr 3 C (Az (α:=Int) (xs:=S) Aa ef C C (Au hs) om<|by first|omega|(have h9:=coreN_lenG hG;omega))<|Dr 4 C (Bj (xs:=S) ef C (Au hs) om<|by first|omega|(have h9:=coreN_lenG hG;omega))<|Dr 5 C (Ad fld36_2 C)<|Dr 6 C (Ax ef) ?_
 refine Ds1 7<|Se C (Ac c_ C C<|Comm_ok (nd:=nd) (v:=e_ S 0) (lv:=lv) (Au hl) hG hn<|A8 hT Ah) ?_
 rintro _ _ ⟨_,_,⟨ab,aa,rfl,rfl⟩,rfl,rfl⟩
 refine ⟨Aj,?_⟩
 refine Dr 8 C (Af C)<|Dr 9 C (Bv C C)<|Dr 10 C (Bv C C)<|Dr 11 C (Ad fld42_3 C)<|Ds1 12<|Se0 C (A3 (cs:=[_,_,_,_,_,_,_,_,_,_,_]) (vs:=[_]) (cs':=[_,_,_,_,_,_,_,_,_,_,_]) ty22) ?_
 refine Dz<|Av<|Ay<|Bg (S2 6 5 C C)<|A5<|A4 mixed<|Cr 8<|Dr 1 C (Br (cells:=[]) ty185 Ew pl185 C C)<|Dr 2 C (Ea (λw=>by kernel_rfl) C) ?_
 refine Dr 3 C (Bl (vs:=[_,_,_,_,_,_,_,_,_,_,_]) ty42) ?_
 refine C0 (rs:=[0,4]) kr C C<|D6 ?_<|Dv ?_
 ·refine Sr C (Bl (vs:=[_,_,_,_,_,_,_,_,_,_,_]) ty42) Aj ?_
  refine Ds1 4<|Sc0 C (Ac c_ C C<|Barett_ok (A:=Aw) ⟨(Au M.s),(Au M.p),(Au M.o),(Au M.n),(Au M.q),M.b⟩) ?_
  refine Ds1 5<|Se0 C (A3 (cs:=[_,_,_,_,_,_,_,_,_,_,_]) (vs:=[_,_,_,_,_,_,_,_,_,_,_]) (cs':=[_,_,_,_,_,_,_,_,_,_,_]) ty42) ?_
  exact Dr 6 C (A0 C)<|Dr 7 C (A0 C)<|Dz<|Ay<|Bf<|D0 C ty42 C C C mm C (vc 3 (.slice ab (commG nd es (e_ S 0) lv).length aa) (commG nd es (e_ S 0) lv)::I) Bb ⟨_,_,_,commG nd es (e_ S 0) lv,_,_,_,rfl,⟨⟨_,_,0,none,0,_,_,_,none,0,_,none,0,[],none,0,[],0,none,0,[]⟩,⟨λh=>absurd h dc,λ_=>⟨⟨rfl,rfl,rfl,rfl,rfl,rfl⟩,⟨rfl,rfl,rfl,rfl⟩⟩,λh=>absurd h dc⟩,⟨rfl,rfl,rfl,rfl,rfl,rfl⟩⟩,rfl⟩
 refine Sc0 C (Ac c_ C C<|Barett_ok (A:=Aw) ⟨(Au M.s),(Au M.p),(Au M.o),(Au M.n),(Au M.q),M.b⟩) ?_
 refine Ds1 0<|Sr C (Bl (vs:=[_,_,_,_,_,_,_,_,_,_,_]) ty42) Aj ?_
 refine Ds1 5<|Se0 C (A3 (cs:=[_,_,_,_,_,_,_,_,_,_,_]) (vs:=[_,_,_,_,_,_,_,_,_,_,_]) (cs':=[_,_,_,_,_,_,_,_,_,_,_]) ty42) ?_
 exact Dr 6 C (A0 C)<|Dr 7 C (A0 C)<|Dz<|Ay<|Bf<|D0 C ty42 C C C mm C (vc 3 (.slice ab (commG nd es (e_ S 0) lv).length aa) (commG nd es (e_ S 0) lv)::I) Bb ⟨_,_,_,commG nd es (e_ S 0) lv,_,_,_,rfl,⟨⟨_,_,0,none,0,_,_,_,none,0,_,none,0,[],none,0,[],0,none,0,[]⟩,⟨λh=>absurd h dc,λ_=>⟨⟨rfl,rfl,rfl,rfl,rfl,rfl⟩,⟨rfl,rfl,rfl,rfl⟩⟩,λh=>absurd h dc⟩,⟨rfl,rfl,rfl,rfl,rfl,rfl⟩⟩,rfl⟩
theorem Wanted3f_ok(hl:Sl κ I (.slice ea es.length ec) es)(hs:Sl κ I (.slice sa S.length sc) S)(M:HdA κ I Aw)(hG:GrOk nd es)(h7:nd<=7)(h2:S.length=2)(hf:(edgeP (e_ S 0) (e_ S 1)∈es))(hT:TabRd κ I 0 tzCells):eu prog κ 84 [.agg #[e7 nd,.slice ea es.length ec],.agg #[e7 3,e7 node,e7 lv,e7 tq,.slice sa S.length sc,e7 num,e7 den],.agg #[.bool (Aw.fd),e7 (Aw.num),e7 (Aw.tm),.slice Aw.sa Aw.S.length Aw.sc,e7 (Aw.dn),e7 (Aw.dd),.slice Aw.pa Aw.P.length Aw.pc,.slice Aw.oa Aw.O.length Aw.oc,.slice Aw.na Aw.N.length Aw.nc,e7 (Aw.E),.slice Aw.qa Aw.Q.length Aw.qc]] I (λr J=>WPost nd es 3 node lv S (.iface 181 (.agg #[.slice Aw.na Aw.N.length Aw.nc,.slice Aw.oa Aw.O.length Aw.oc])) (decide (bare1 Aw)) I r J):=by
 have aj:=edges_le hG
 have ad:=hG.rng
 refine Ce3 Eg C C ?_
 refine Ar<|Ge1 (Al (cs:=[_,_]) C C C) λb1=>Ge1 (Al (cs:=[_,_,_,_,_,_,_]) C C C) λb2=>Ge1 (Al (cs:=[_,_,_,_,_,_,_,_,_,_,_]) C C C) λb3=>Ge1 (Am ty42 C) λb4=>Ga C<|Ga C<|As<|Ar<|Gf fld42_0 C<|Ge0 (A3 (cs:=[_,_,_,_,_,_,_,_,_,_,_]) (vs:=[_]) (cs':=[_,_,_,_,_,_,_,_,_,_,_]) ty4) ?_
 refine As<|A5<|Ar<|Gf fld36_0 C<|Gl ef ?_
 refine As<|Bk<|Ar<|Gr (Runs.eqC (λw=>by kernel_rfl) (λw=>by kernel_rfl) C C)<|Ga C<|As<|Bg (S6 19 18 6 5 4 3 C C C C C C)<|Ef C<|Ar<|Gr (Runs.eqC (λw=>by kernel_rfl) (λw=>by kernel_rfl) C C)<|Ga C<|As<|Ef C<|Ar<|Gr (Runs.eqC (λw=>by kernel_rfl) (λw=>by kernel_rfl) C C)<|Ga C<|As<|W.yes C<|A5<|A5<|A4 mixed<|Cr 11<|Dr 0 C (Bl (vs:=[_,_]) ty56) ?_
 refine Dr 1 C (Ad fld36_4 C)<|Dr 2 C (Ax ty22) ?_
 refine Dr 3 C (Az (α:=Int) (xs:=S) Aa ef C C (Au hs) om<|by first|omega|(have h9:=coreN_lenG hG;omega))<|Dr 4 C (Bj (xs:=S) ef C (Au hs) om<|by first|omega|(have h9:=coreN_lenG hG;omega))<|Dr 5 C (Ad fld36_4 C)<|Dr 6 C (Ax ty22) ?_
 refine Dr 7 C (Az (α:=Int) (xs:=S) Aa ef C C (Au hs) om<|by first|omega|(have h9:=coreN_lenG hG;omega))<|Dr 8 C (Bj (xs:=S) ef C (Au hs) om<|by first|omega|(have h9:=coreN_lenG hG;omega))<|Ds1 9<|Se C (Ac c_ C C<|FindG_ok (nd:=nd) (Au hl) (e_ S 0) (e_ S 1)<|by have:=edges_le hG;omega) ?_
 rintro _ _ ⟨_,_,⟨y5,rfl,aa,rfl⟩,rfl,rfl⟩
 refine ⟨Aj,?_⟩
 refine Dr 10 C (A0 C)<|Dz<|Ay<|Bg (S4 11 6 5 3 C C C C)<|Ar<|Gm C<|Gr (Ff C C)<|As<|Ap C (λab=>?_)<|λab=>?_
 ·refine Ar (Gl2 ty56 ?_)
  refine G.e (Ac c_ C C<|TNumbers_ok (nd:=nd) (Au hl) om<|A8 hT Ah) ?_
  rintro _ _ ⟨_,_,⟨ai,ae,rfl,rfl⟩,rfl,rfl⟩
  refine Gm C<|Gr (Bv C C)<|Gr (Bv C C)<|Ga C<|Ga C ?_
  have ah:=find_lt hG aa
  refine As<|Ar<|Gm C<|Gm C<|Gr (Az (α:=Int) (xs:=trussG nd es) Aa ef C C A7 om<|by first|omega|(have h9:=coreN_lenG hG;omega))<|Gr (Bj (xs:=trussG nd es) ef C A7 om<|by first|omega|(have h9:=coreN_lenG hG;omega))<|Gf fld42_1 C<|Ge0 (A3 (cs:=[_,_,_,_,_,_,_,_,_,_,_]) (vs:=[_]) (cs':=[_,_,_,_,_,_,_,_,_,_,_]) ef) ?_
  refine As<|Bg (S2 6 5 C C)<|A5<|A4 mixed<|Cr 12<|Dr 1 C (Ad fld42_7 C)<|Dr 2 C (Ax ty22) ?_
  refine Dr 3 C (Ad fld42_6 C)<|Dr 4 C (Ax ty22) ?_
  refine Dr 5 C (Br (cells:=[_,_]) ty181 Tryz.underlying181 pl181 C C)<|Dr 6 C (Ea (λw=>by kernel_rfl) C) ?_
  refine Dr 7 C (Bl (vs:=[_,_,_,_,_,_,_,_,_,_,_]) ty42) ?_
  refine C0 (rs:=[0,8]) kr C C<|D6 ?_<|Dv ?_
  ·refine Sr C (Bl (vs:=[_,_,_,_,_,_,_,_,_,_,_]) ty42) Aj ?_
   refine Ds1 8<|Sc0 C (Ac c_ C C<|Bareft_ok (A:=Aw) ⟨(Au M.s),(Au M.p),(Au M.o),(Au M.n),(Au M.q),M.b⟩) ?_
   refine Ds1 9<|Se0 C (A3 (cs:=[_,_,_,_,_,_,_,_,_,_,_]) (vs:=[_,_,_,_,_,_,_,_,_,_,_]) (cs':=[_,_,_,_,_,_,_,_,_,_,_]) ty42) ?_
   exact Dr 10 C (A0 C)<|Dr 11 C (A0 C)<|Dz<|Ay<|Bf<|Bq<|B6<|Bq<|D0 C ty42 C C C mm C (vc 3 (.slice none ([]:List Int).length 0) ([]:List Int)::I) (Ak (show Fit κ _ I from Aj)<|nv3 _) ⟨_,_,_,[],_,_,_,rfl,⟨⟨_,_,0,none,0,_,_,_,none,0,_,none,0,trussO<|trisE nd es,none,0,trussG nd es,0,none,0,[]⟩,⟨λh=>absurd h dc,λh=>absurd h dc,λ_=>(by constructor<;>intro h<;>first|exact absurd h dc|exact ⟨y5,⟨aa,(decide_eq_true om).symm,λh=>by omega,λ_=>⟨rfl,rfl,rfl⟩⟩,rfl,rfl,rfl,rfl,rfl,rfl⟩)⟩,⟨rfl,rfl,rfl,rfl,rfl,rfl⟩⟩,rfl⟩
  refine Sc0 C (Ac c_ C C<|Bareft_ok (A:=Aw) ⟨(Au M.s),(Au M.p),(Au M.o),(Au M.n),(Au M.q),M.b⟩) ?_
  refine Ds1 0<|Sr C (Bl (vs:=[_,_,_,_,_,_,_,_,_,_,_]) ty42) Aj ?_
  refine Ds1 9<|Se0 C (A3 (cs:=[_,_,_,_,_,_,_,_,_,_,_]) (vs:=[_,_,_,_,_,_,_,_,_,_,_]) (cs':=[_,_,_,_,_,_,_,_,_,_,_]) ty42) ?_
  exact Dr 10 C (A0 C)<|Dr 11 C (A0 C)<|Dz<|Ay<|Bf<|Bq<|B6<|Bq<|D0 C ty42 C C C mm C (vc 3 (.slice none ([]:List Int).length 0) ([]:List Int)::I) (Ak (show Fit κ _ I from Aj)<|nv3 _) ⟨_,_,_,[],_,_,_,rfl,⟨⟨_,_,0,none,0,_,_,_,none,0,_,none,0,trussO<|trisE nd es,none,0,trussG nd es,0,none,0,[]⟩,⟨λh=>absurd h dc,λh=>absurd h dc,λ_=>(by constructor<;>intro h<;>first|exact absurd h dc|exact ⟨y5,⟨aa,(decide_eq_true om).symm,λh=>by omega,λ_=>⟨rfl,rfl,rfl⟩⟩,rfl,rfl,rfl,rfl,rfl,rfl⟩)⟩,⟨rfl,rfl,rfl,rfl,rfl,rfl⟩⟩,rfl⟩
 exact absurd (find_yes hG aa hf) ab
theorem Wanted3n_ok(hl:Sl κ I (.slice ea es.length ec) es)(hs:Sl κ I (.slice sa S.length sc) S)(M:HdA κ I Aw)(hG:GrOk nd es)(h7:nd<=7)(h2:S.length=2)(hf:¬(edgeP (e_ S 0) (e_ S 1)∈es))(hT:TabRd κ I 0 tzCells):eu prog κ 84 [.agg #[e7 nd,.slice ea es.length ec],.agg #[e7 3,e7 node,e7 lv,e7 tq,.slice sa S.length sc,e7 num,e7 den],.agg #[.bool (Aw.fd),e7 (Aw.num),e7 (Aw.tm),.slice Aw.sa Aw.S.length Aw.sc,e7 (Aw.dn),e7 (Aw.dd),.slice Aw.pa Aw.P.length Aw.pc,.slice Aw.oa Aw.O.length Aw.oc,.slice Aw.na Aw.N.length Aw.nc,e7 (Aw.E),.slice Aw.qa Aw.Q.length Aw.qc]] I (λr J=>WPost nd es 3 node lv S (.iface 185 (.agg #[])) (decide (bare2 Aw/\bare1 Aw)) I r J):=by
 have ae:=edges_le hG
 have ad:=hG.rng
 refine Ce3 Eg C C ?_
 refine Ar<|Ge1 (Al (cs:=[_,_]) C C C) λb1=>Ge1 (Al (cs:=[_,_,_,_,_,_,_]) C C C) λb2=>Ge1 (Al (cs:=[_,_,_,_,_,_,_,_,_,_,_]) C C C) λb3=>Ge1 (Am ty42 C) λb4=>Ga C<|Ga C<|As<|Ar<|Gf fld42_0 C<|Ge0 (A3 (cs:=[_,_,_,_,_,_,_,_,_,_,_]) (vs:=[_]) (cs':=[_,_,_,_,_,_,_,_,_,_,_]) ty4) ?_
 refine As<|A5<|Ar<|Gf fld36_0 C<|Gl ef ?_
 refine As<|Bk<|Ar<|Gr (Runs.eqC (λw=>by kernel_rfl) (λw=>by kernel_rfl) C C)<|Ga C<|As<|Bg (S6 19 18 6 5 4 3 C C C C C C)<|Ef C<|Ar<|Gr (Runs.eqC (λw=>by kernel_rfl) (λw=>by kernel_rfl) C C)<|Ga C<|As<|Ef C<|Ar<|Gr (Runs.eqC (λw=>by kernel_rfl) (λw=>by kernel_rfl) C C)<|Ga C<|As<|W.yes C<|A5<|A5<|A4 mixed<|Cr 11<|Dr 0 C (Bl (vs:=[_,_]) ty56) ?_
 refine Dr 1 C (Ad fld36_4 C)<|Dr 2 C (Ax ty22) ?_
 refine Dr 3 C (Az (α:=Int) (xs:=S) Aa ef C C (Au hs) om<|by first|omega|(have h9:=coreN_lenG hG;omega))<|Dr 4 C (Bj (xs:=S) ef C (Au hs) om<|by first|omega|(have h9:=coreN_lenG hG;omega))<|Dr 5 C (Ad fld36_4 C)<|Dr 6 C (Ax ty22) ?_
 refine Dr 7 C (Az (α:=Int) (xs:=S) Aa ef C C (Au hs) om<|by first|omega|(have h9:=coreN_lenG hG;omega))<|Dr 8 C (Bj (xs:=S) ef C (Au hs) om<|by first|omega|(have h9:=coreN_lenG hG;omega))<|Ds1 9<|Se C (Ac c_ C C<|FindG_ok (nd:=nd) (Au hl) (e_ S 0) (e_ S 1)<|by have:=edges_le hG;omega) ?_
 rintro _ _ ⟨_,_,⟨y5,rfl,aa,rfl⟩,rfl,rfl⟩
 refine ⟨Aj,?_⟩
 refine Dr 10 C (A0 C)<|Dz<|Ay<|Bg (S4 11 6 5 3 C C C C)<|Ar<|Gm C<|Gr (Ff C C)<|As<|Ap C (λab=>?_)<|λab=>?_
 ·exact absurd ab<|find_no aa hf
 refine Bt<|Ay<|Be<|Gf fld42_0 C<|Ge0 (A3 (cs:=[_,_,_,_,_,_,_,_,_,_,_]) (vs:=[_]) (cs':=[_,_,_,_,_,_,_,_,_,_,_]) ty4) ?_
 refine Bi<|Av<|Ay<|A5<|A4 mixed<|Cr 8<|Dr 1 C (Br (cells:=[]) ty185 Ew pl185 C C)<|Dr 2 C (Ea (λw=>by kernel_rfl) C) ?_
 refine Dr 3 C (Bl (vs:=[_,_,_,_,_,_,_,_,_,_,_]) ty42) ?_
 refine C0 (rs:=[0,4]) kr C C<|D6 ?_<|Dv ?_
 ·refine Sr C (Bl (vs:=[_,_,_,_,_,_,_,_,_,_,_]) ty42) Aj ?_
  refine Ds1 4<|Sc0 C (Ac c_ C C<|Barett_ok (A:=Aw) ⟨(Au M.s),(Au M.p),(Au M.o),(Au M.n),(Au M.q),M.b⟩) ?_
  refine Ds1 5<|Se0 C (A3 (cs:=[_,_,_,_,_,_,_,_,_,_,_]) (vs:=[_,_,_,_,_,_,_,_,_,_,_]) (cs':=[_,_,_,_,_,_,_,_,_,_,_]) ty42) ?_
  exact Dr 6 C (A0 C)<|Dr 7 C (A0 C)<|Dz<|Ay<|Bg (S3 8 7 6 C C C)<|Bf<|D0 C ty42 C C C mm C (vc 3 (.slice none ([]:List Int).length 0) ([]:List Int)::I) (Ak (show Fit κ _ I from Aj)<|nv3 _) ⟨_,_,_,[],_,_,_,rfl,⟨⟨_,_,0,none,0,_,_,_,none,0,_,none,0,[],none,0,[],0,none,0,[]⟩,⟨λh=>absurd h dc,λh=>absurd h dc,λ_=>(by constructor<;>intro h<;>first|exact absurd h dc|exact ⟨y5,⟨aa,(decide_eq_false om).symm,λ_=>⟨rfl,rfl,rfl⟩,λh=>by omega⟩,rfl,rfl,rfl,rfl,rfl,rfl⟩)⟩,⟨rfl,rfl,rfl,rfl,rfl,rfl⟩⟩,rfl⟩
 refine Sc0 C (Ac c_ C C<|Barett_ok (A:=Aw) ⟨(Au M.s),(Au M.p),(Au M.o),(Au M.n),(Au M.q),M.b⟩) ?_
 refine Ds1 0<|Sr C (Bl (vs:=[_,_,_,_,_,_,_,_,_,_,_]) ty42) Aj ?_
 refine Ds1 5<|Se0 C (A3 (cs:=[_,_,_,_,_,_,_,_,_,_,_]) (vs:=[_,_,_,_,_,_,_,_,_,_,_]) (cs':=[_,_,_,_,_,_,_,_,_,_,_]) ty42) ?_
 exact Dr 6 C (A0 C)<|Dr 7 C (A0 C)<|Dz<|Ay<|Bg (S3 8 7 6 C C C)<|Bf<|D0 C ty42 C C C mm C (vc 3 (.slice none ([]:List Int).length 0) ([]:List Int)::I) (Ak (show Fit κ _ I from Aj)<|nv3 _) ⟨_,_,_,[],_,_,_,rfl,⟨⟨_,_,0,none,0,_,_,_,none,0,_,none,0,[],none,0,[],0,none,0,[]⟩,⟨λh=>absurd h dc,λh=>absurd h dc,λ_=>(by constructor<;>intro h<;>first|exact absurd h dc|exact ⟨y5,⟨aa,(decide_eq_false om).symm,λ_=>⟨rfl,rfl,rfl⟩,λh=>by omega⟩,rfl,rfl,rfl,rfl,rfl,rfl⟩)⟩,⟨rfl,rfl,rfl,rfl,rfl,rfl⟩⟩,rfl⟩
end Go.Sl
