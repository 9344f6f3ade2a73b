/- A part of the proofs of statements of this seat: contracts of functions, and the plain laws that they lean on. No conditions. -/
import Derived.Test.YtoagcglbkeomgaaGreatDoorK11
set_option linter.unusedVariables false
set_option linter.unusedSimpArgs false
set_option linter.unusedSectionVars false
open Go.Proofs.Tryz (prog)
open List (replicate)
set_option maxHeartbeats 2000000
namespace Go.Sl
open Go.Proofs
set_option maxRecDepth 4000
variable{i:Int}{va:Value}{sup:List Int}{gone:List Bool}
variable {κ:Ctx}{I:List Item}
def triE(nd:Int)(es:List Pt)(e:Pt):List Pt:=(commonG nd es e.u e.v).map λw=>(⟨((es.idxOf (edgeP e.u w):Nat):Int),((es.idxOf (edgeP e.v w):Nat):Int)⟩:Pt)
def trisE(nd:Int)(es:List Pt):List (List Pt):=es.map (triE nd es)
theorem ck105:KeyT prog 105 Pt:=λx e w=>by
 cases x;kernel_rfl
theorem common_mem{nd:Int}{es:List Pt}(hG:GrOk nd es){e:Pt}(he:e∈es){w:Int}(hw:w∈commonG nd es e.u e.v):edgeP e.u w∈es/\edgeP e.v w∈es:=by
 have Z:=hG.edge e he
 have hr:=hG.rows
 have ab:e.u≠e.v:=by omega
 have hc:¬checkG nd es≠0:=λh=>h (checkG_ok.2 hG)
 have M:∀u:Int,0<=u->u<nd->rowG nd es u=e_ (ek nd es) u:=λu h0 h1=>by
  have ad:=hG.rows.len
  unfold rowG
  rw [if_neg (by rintro (h|h|h);(· omega);(· omega);(· exact hc h))]
 rw [←common_eq ab,mem_andB,M _ Z.1 om,M _ om Z.2.2,hr.mem Z.1 om,hr.mem om Z.2.2] at hw
 have aa:∀a b:Int,((⟨a,b⟩:Pt)∈es\/(⟨b,a⟩:Pt)∈es)->edgeP a b∈es:=λa b h=>by
  unfold edgeP
  rcases h with h|h
  ·have:=hG.edge _ h
   simp only at this
   rw [if_neg om,if_pos om];exact h
  have:=hG.edge _ h
  simp only at this
  rw [if_pos om,if_neg om];exact h
 exact ⟨aa _ _ hw.1.2,aa _ _ hw.2.2⟩
theorem common_len{nd:Int}{es:List Pt}(hG:GrOk nd es){e:Pt}(he:e∈es):(commonG nd es e.u e.v).length<=nd.toNat - 1:=by
 have M:=hG.edge e he
 have aa:e.u≠e.v:=by omega
 have hc:¬checkG nd es≠0:=λh=>h (checkG_ok.2 hG)
 have Z:∀u:Int,0<=u->u<nd->rowG nd es u=e_ (ek nd es) u:=λu h0 h1=>by
  have ab:=hG.rows.len
  unfold rowG
  rw [if_neg (by rintro (h|h|h);(· omega);(· omega);(· exact hc h))]
 rw [←common_eq aa,Z _ M.1 om,Z _ om M.2.2]
 have hS:=rows_sym hG
 have hl:=hG.rows.len
 have:=degB_lt hS (e_ (ek nd es) e.v) M.1 om
 unfold degB at this
 omega
theorem tris_ok{nd:Int}{es:List Pt}(hG:GrOk nd es):TriOk (nd.toNat - 1) (trisE nd es):=by
 refine ⟨λl Z=>?_,λl Z p hp=>?_⟩
 ·obtain ⟨e,M,rfl⟩:=List.mem_map.1 Z
  unfold triE;rw [List.length_map];exact common_len hG M
 obtain ⟨e,M,rfl⟩:=List.mem_map.1 Z
 obtain ⟨w,hw,rfl⟩:=List.mem_map.1 hp
 obtain ⟨h1,h2⟩:=common_mem hG M hw
 have a:=List.idxOf_lt_length_of_mem h1
 have b:=List.idxOf_lt_length_of_mem h2
 have Z:(trisE nd es).length=es.length:=List.length_map ..
 simp only
 omega
def rgI(rs:List (RowG Pt)):List Item:=rs.map λr=>vk 200 r.a r.c r.xs
theorem At.rg{I:List Item}{ad:Option Addr}{c:Nat}{xs:List Pt}:∀{rs:List (RowG Pt)} {i:Int},0<=i->i<rs.length->
  At (rgI rs++I) (vk 200 (e_ rs i).a (e_ rs i).c (e_ rs i).xs) (vk 200 ad c xs) (rgI (List.set rs i.toNat ⟨ad,c,xs⟩)++I):=fun {rs} {i} Z h=>by
 obtain ⟨k,rfl⟩:∃k:Nat,i=(k:Int):=⟨i.toNat,by omega⟩
 rw [Int.toNat_natCast]
 clear Z
 induction rs generalizing k with
 |nil=>simp at h;omega
 |cons r rs ih=>
  cases k with
  |zero=>exact At.head _ _ _
  |succ k=>exact At.tail _ (ih k<|by simp at h;omega)
theorem rgI_mem{I:List Item}{rs:List (RowG Pt)}(Z:0<=i)(h:i<rs.length):vk 200 (e_ rs i).a (e_ rs i).c (e_ rs i).xs∈rgI rs++I:=(At.rg (ad:=none) (c:=0) (xs:=[]) Z h).mem
theorem Fit.nilrg:∀(rs:List (RowG Pt)),(∀r∈rs,r=default)->Fit κ I (rgI rs++I)
 |[],_=>Er _
 |r::rs,h=>by
  refine Cq (Fit.nilrg rs λx Z=>h x<|List.mem_cons_of_mem _ Z) ?_
  show Fit κ _ (vk 200 r.a r.c r.xs::_)
  rw [h r List.mem_cons_self]
  exact Cb _ _
theorem rows_tri{nd:Int}{es:List Pt}{rs:List (RowG Pt)}(M:rs.length=es.length)(h:∀i:Nat,i<es.length->(e_ rs i).xs=triE nd es (e_ es i)):rs.map RowG.xs=trisE nd es:=by
 show rs.map RowG.xs=es.map (triE nd es)
 refine List.ext_getElem (by rw [List.length_map,List.length_map];exact M) λi Z h2=>?_
 rw [List.length_map] at Z
 have:=h i om
 rw [Cn _ _ Z,Cn _ _ om] at this
 rw [List.getElem_map,List.getElem_map];exact this
theorem not_take{es:List Pt}(h:es.Nodup){k:Nat}(Z:k<es.length):e_ es k∉es.take k:=by
 rw [Cn es k Z]
 intro M
 obtain ⟨i,hi,e⟩:=List.mem_iff_getElem.1 M
 rw [List.length_take] at hi
 rw [List.getElem_take] at e
 exact (List.pairwise_iff_getElem.1 h) i k om Z om e
theorem Triangles_ok{nd:Int}{va:Value}{es:List Pt}(hl:Sl κ I va es)(hG:GrOk nd es)(hb:es.length<=1000000)(hT:TabRd κ I 0 tzCells):eu prog κ 160 [.agg #[e7 nd,va]] I (λr J=>∃a c rs,r = .slice a (rs.length) c/\rs.map RowG.xs=trisE nd es/\J=vc 198 (.slice a rs.length c) rs::(rgI rs++I)):=by
 refine B8 hl.le λa1=>?_
 have a4:=hG.rng
 refine Ce1 Tryz.func160 C C ?_
 refine Af<|Ge1 (Bg (cs:=[_,_]) C C C) λb1=>Ga C<|Ac<|Af<|Ge1 (Eff.makeMapE (α:=Pt) C) λab=>?_
 refine Ga C<|Ac<|Aq<|Af<|Gf fld38_1 C<|Gl ty36 ?_
 refine Gr (B9 (α:=Pt) (xs:=es) Au C<|A8 hl)<|Gm C<|Ac<|Aw<|Bu (σ:=Nat) (λs=>([(1,.pointer<|some ⟨b1,0,none⟩),(3,.map<|some ab),(15,va),(16,e7 ((es.length:Nat):Int)),(17,e7 ((s:Nat):Int))]:Env)) (λs=>mpE (α:=Pt) ab (es.take s)::e8 b1 [e7 nd,va] 38::I) (λs=>(s<=es.length)) (λs=>es.length - s) 0 (show ((0:Nat)<=es.length) from om) (Aa C<|Aa C<|Aa C<|Aa C<|Aa B2 Bi) (show Fit κ _ (mpE (α:=Pt) ab (es.take 0)::e8 b1 [e7 nd,va] 38::I) from Bc) ?_
 rintro k hp
 have hk:=hp
 refine Af<|Gr (A4 C C)<|Ac<|Aq<|A5 C (λax=>?_)<|λax=>?_
 ·refine Av (Ah<|Aq<|Aw<|Af<|Gm C<|Gr (Ax (α:=Pt) (xs:=es) Au ty105 C C (A8 hl) om om)<|Gr (Bx (α:=Pt) (xs:=es) ty105 C (A8 hl) om om)<|Ge1 (A3 ty105 C) λb3=>Ga C<|Ge0 (Cz ty105) ?_)
  refine Ac<|Ar<|Gm C<|Gl2 ty105 ?_
  refine Gm C<|Ge0 (Eff.updateE (α:=Pt) (k:=(e_ es k)) Tryz.underlying230 De eqt105 ck105 C C C (by rw [List.length_take,Nat.min_eq_left om]) (not_take (Fb hG.asc) om) am) ?_
  exact Bj<|Aj<|Ah<|Ao (S5 1 3 15 16 17 C C C C C)<|Ar<|Gr (Rad C C)<|Gm C<|Bj<|B3 ((k+1)) om (hI:=by (try dsimp only);exact (by rw [Cj es k om];exact Bc))
 refine Bs<|Al<|Al<|A2<|Ah<|Af<|Gf fld38_1 C ?_
 have aw:es.take k=es:=List.take_of_length_le om
 rw [aw]
 refine Gl ty36 ?_
 refine Gr (B9 (α:=Pt) (xs:=es) Au C<|A8 hl)<|Ge2 (Du (α:=(RowG Pt)) (n:=es.length) Dd ty198 C C C om om dc C) λM aa=>?_
 refine Ga C<|Ac<|Aq<|Af<|Gf fld38_1 C<|Gl ty36 ?_
 refine Gr (B9 (α:=Pt) (xs:=es) Au C<|A8 hl)<|Gm C<|Ac<|Ao (S6 33 32 31 6 1 3 C C C C C C)<|Aw<|Bu (σ:=Nat×(List<|RowG Pt)) (λs=>([(1,.pointer<|some ⟨b1,0,none⟩),(3,.map<|some ab),(6,.slice M (replicate es.length (default:(RowG Pt))).length aa),(31,va),(32,e7 ((es.length:Nat):Int)),(33,e7 ((s.1:Nat):Int))]:Env)) (λs=>vc 198 (.slice M (replicate es.length (default:(RowG Pt))).length aa) (s.2)::mpE (α:=Pt) ab (es)::e8 b1 [e7 nd,va] 38::(rgI s.2++I)) (λs=>(s.1<=es.length)/\(s.2.length=es.length)/\(∀i:Nat,i<s.1->(e_ s.2 i).xs=triE nd es (e_ es i))/\(∀i:Nat,s.1<=i->i<es.length->(e_ s.2 i).xs=[])) (λs=>es.length - s.1) (0,replicate es.length (default:RowG Pt)) (show ((0:Nat)<=es.length)/\((replicate es.length (default:RowG Pt):List (RowG Pt)).length=es.length)/\(∀i:Nat,i<(0:Nat)->(e_ (replicate es.length (default:RowG Pt):List (RowG Pt)) (i:Int)).xs=triE nd es (e_ es i))/\(∀i:Nat,(0:Nat)<=i->i<es.length->(e_ (replicate es.length (default:RowG Pt):List (RowG Pt)) (i:Int)).xs=[]) from ⟨om,List.length_replicate,(λi h=>by omega),(λi h1 h2=>by rw [at_rep _ _ _ om om];rfl)⟩) (Aa C<|Aa C<|Aa C<|Aa C<|Aa C<|Aa B2 Bi) (show Fit κ _ (vc 198 (.slice M (replicate es.length (default:(RowG Pt))).length aa) ((replicate es.length (default:RowG Pt)))::mpE (α:=Pt) ab (es)::e8 b1 [e7 nd,va] 38::(rgI (replicate es.length (default:RowG Pt))++I)) from (Cq (Fit.nilrg (replicate es.length (default:RowG Pt))<|λr hr=>List.eq_of_mem_replicate hr) Bl)) ?_
 rintro ⟨k2,rs⟩ hp
 dsimp only at hp ⊢
 obtain ⟨a7,aj,aq,ap⟩:=hp
 refine Af<|Gr (A4 C C)<|Ac<|Aq<|A5 C (λav=>?_)<|λav=>?_
 ·refine Av (Ah<|Aq<|Aw<|Af<|Gm C<|Gr (Ax (α:=Pt) (xs:=es) Au ty105 C C (A8 hl) om om)<|Gr (Bx (α:=Pt) (xs:=es) ty105 C (A8 hl) om om)<|Ge1 (A3 ty105 C) λb6=>Ga C<|Ge0 (Cz ty105) ?_)
  refine Ac<|Af<|Gl2 ty38 ?_
  refine Gf fld105_0 C<|Gl ef ?_
  refine Gf fld105_1 C<|Gl ef ?_
  refine Gc2 (Ak c_ C C<|CommonG_ok (nd:=nd) (A8 hl) ((e_ es k2).u) ((e_ es k2).v)<|Bm hT Ay) λai ah=>?_
  refine Gr (Bh Ab C)<|Gm C<|Ac<|Ao (S11 45 44 43 7 8 1 3 6 31 32 33 C C C C C C C C C C C)<|Aw<|Bu (σ:=Nat×(List<|RowG Pt)) (λs=>([(1,.pointer<|some ⟨b1,0,none⟩),(3,.map<|some ab),(6,.slice M (replicate es.length (default:(RowG Pt))).length aa),(7,e7 ((k2:Nat):Int)),(8,.pointer<|some ⟨b6,0,none⟩),(31,va),(32,e7 ((es.length:Nat):Int)),(33,e7 ((k2:Nat):Int)),(43,.slice ai (commonG nd es ((e_ es ((k2:Nat):Int)).u)<|(e_ es ((k2:Nat):Int)).v).length ah),(44,e7<|(((commonG nd es ((e_ es ((k2:Nat):Int)).u)<|(e_ es ((k2:Nat):Int)).v).length:Nat):Int)),(45,e7 ((s.1:Nat):Int))]:Env)) (λs=>vc 3 (.slice ai (commonG nd es ((e_ es ((k2:Nat):Int)).u)<|(e_ es ((k2:Nat):Int)).v).length ah) (commonG nd es ((e_ es ((k2:Nat):Int)).u)<|(e_ es ((k2:Nat):Int)).v)::e8 b6 [e7 ((e_ es ((k2:Nat):Int)).u),e7<|(e_ es ((k2:Nat):Int)).v] 105::vc 198 (.slice M (replicate es.length (default:(RowG Pt))).length aa) (s.2)::mpE (α:=Pt) ab (es)::e8 b1 [e7 nd,va] 38::(rgI s.2++I)) (λs=>(s.1<=(commonG nd es (e_ es ((k2:Nat):Int)).u (e_ es ((k2:Nat):Int)).v).length)/\(s.2.length=es.length)/\(∀i:Nat,i<k2->(e_ s.2 i).xs=triE nd es (e_ es i))/\(∀i:Nat,k2<i->i<es.length->(e_ s.2 i).xs=[])/\((e_ s.2 ((k2:Nat):Int)).xs=((commonG nd es (e_ es ((k2:Nat):Int)).u (e_ es ((k2:Nat):Int)).v).take s.1).map (λw=>(⟨((es.idxOf (edgeP (e_ es ((k2:Nat):Int)).u w):Nat):Int),((es.idxOf (edgeP (e_ es ((k2:Nat):Int)).v w):Nat):Int)⟩:Pt)))) (λs=>(commonG nd es (e_ es ((k2:Nat):Int)).u (e_ es ((k2:Nat):Int)).v).length - s.1) (0,rs) (show ((0:Nat)<=(commonG nd es (e_ es ((k2:Nat):Int)).u (e_ es ((k2:Nat):Int)).v).length)/\((rs:List (RowG Pt)).length=es.length)/\(∀i:Nat,i<k2->(e_ (rs:List (RowG Pt)) (i:Int)).xs=triE nd es (e_ es i))/\(∀i:Nat,k2<i->i<es.length->(e_ (rs:List (RowG Pt)) (i:Int)).xs=[])/\((e_ (rs:List (RowG Pt)) ((k2:Nat):Int)).xs=((commonG nd es (e_ es ((k2:Nat):Int)).u (e_ es ((k2:Nat):Int)).v).take (0:Nat)).map (λw=>(⟨((es.idxOf (edgeP (e_ es ((k2:Nat):Int)).u w):Nat):Int),((es.idxOf (edgeP (e_ es ((k2:Nat):Int)).v w):Nat):Int)⟩:Pt))) from ⟨om,aj,aq,(λi h1 h2=>ap i om h2),(by rw [ap k2 (Nat.le_refl _) om];simp)⟩) (Aa C<|Aa C<|Aa C<|Aa C<|Aa C<|Aa C<|Aa C<|Aa C<|Aa C<|Aa C<|Aa B2 Bi) (show Fit κ _ (vc 3 (.slice ai (commonG nd es ((e_ es ((k2:Nat):Int)).u)<|(e_ es ((k2:Nat):Int)).v).length ah) (commonG nd es ((e_ es ((k2:Nat):Int)).u)<|(e_ es ((k2:Nat):Int)).v)::e8 b6 [e7 ((e_ es ((k2:Nat):Int)).u),e7<|(e_ es ((k2:Nat):Int)).v] 105::vc 198 (.slice M (replicate es.length (default:(RowG Pt))).length aa) ((rs))::mpE (α:=Pt) ab (es)::e8 b1 [e7 nd,va] 38::(rgI (rs)++I)) from Bc) ?_
  rintro ⟨j,Z⟩ hp
  dsimp only at hp ⊢
  obtain ⟨hj,ak,au,ao,an⟩:=hp
  have a6:=common_len hG (e:=(e_ es k2)) (B1 om om)
  have a0:j<(commonG nd es (e_ es k2).u (e_ es k2).v).length->edgeP (e_ es k2).u (e_ (commonG nd es (e_ es k2).u (e_ es k2).v) (j:Int))∈es/\edgeP (e_ es k2).v (e_ (commonG nd es (e_ es k2).u (e_ es k2).v) (j:Int))∈es:=λh=>common_mem hG (B1 om om) (B1 om om)
  have a3:((e_ Z k2).xs).length=j:=by rw [an,List.length_map,List.length_take];omega
  refine Af<|Gr (A4 C C)<|Ac<|Aq<|A5 C (λay=>?_)<|λay=>?_
  ·refine Av (Ah<|Aq<|Aw<|Af<|Gr (Ax (α:=Int) (xs:=commonG nd es ((e_ es k2).u) ((e_ es k2).v)) Ab ef C C Bf om om)<|Gr (Br (xs:=commonG nd es ((e_ es k2).u) ((e_ es k2).v)) ef C Bf om om)<|Ga C ?_)
   have hw:=a0 om
   refine Ac<|Ao (S12 10 1 3 6 7 8 31 32 33 43 44 45 C C C C C C C C C C C C)<|Af<|Gm C<|Gf fld105_0 C<|Gl ef ?_
   refine Gm C<|Gr (Ep C C)<|Gf fld105_0 C<|Gl ef ?_
   refine Gm C<|Gr (Dq C C)<|Gr (Bp (cells:=[_,_]) ty105 De pl105 C C)<|Gr (Runs.lookupE (α:=Pt) (k:=(edgeP (e_ es k2).u (e_ (commonG nd es ((e_ es k2).u)<|(e_ es k2).v) (j:Int)))) (xs:=es) Tryz.underlying230 De eqt105 ck105 C C mm hw.1)<|Ga C<|Ac<|Ao (S13 11 10 1 3 6 7 8 31 32 33 43 44 45 C C C C C C C C C C C C C)<|Af<|Gm C<|Gf fld105_1 C<|Gl ef ?_
   refine Gm C<|Gr (Ep C C)<|Gf fld105_1 C<|Gl ef ?_
   refine Gm C<|Gr (Dq C C)<|Gr (Bp (cells:=[_,_]) ty105 De pl105 C C)<|Gr (Runs.lookupE (α:=Pt) (k:=(edgeP (e_ es k2).v (e_ (commonG nd es ((e_ es k2).u)<|(e_ es k2).v) (j:Int)))) (xs:=es) Tryz.underlying230 De eqt105 ck105 C C mm hw.2)<|Ga C<|Ac<|Ao (S13 12 11 1 3 6 7 8 31 32 33 43 44 45 C C C C C C C C C C C C C)<|Ar<|Gm C<|Gm C<|Gm C<|Gm C<|Gr (Ax (α:=(RowG Pt)) (xs:=Z) Dd ty198 C C Bf om om)<|Gr (B7 (α:=(RowG Pt)) (xs:=Z) (u:= .slice (e_ Z k2).a (e_ Z k2).xs.length (e_ Z k2).c) ty198 C Bf om om C)<|Gm C<|Gm C<|Gr (Ec (cells:=[_,_]) ty200 B6 ef C C)<|Ge1 (Cf (α:=Pt) (cs:=[_,_]) (xs:=[⟨((List.idxOf (edgeP (e_ es k2).u (e_ (commonG nd es ((e_ es k2).u)<|(e_ es k2).v) (j:Int))) es:Nat):Int),((List.idxOf (edgeP (e_ es k2).v (e_ (commonG nd es ((e_ es k2).u)<|(e_ es k2).v) (j:Int))) es:Nat):Int)⟩]) Bv ty200 C C dc dc C C C C) λar=>?_
   refine Ge2 (Cg (α:=Pt) (e:=200) (xs:=(e_ Z k2).xs) (ys:=([⟨((List.idxOf (edgeP (e_ es k2).u (e_ (commonG nd es ((e_ es k2).u)<|(e_ es k2).v) (j:Int))) es:Nat):Int),((List.idxOf (edgeP (e_ es k2).v (e_ (commonG nd es ((e_ es k2).u)<|(e_ es k2).v) (j:Int))) es:Nat):Int)⟩]:List Pt)) Bv ty200 C C C (by repeat (first|exact rgI_mem (rs:=Z) (i:=(k2:Int)) om om|apply List.mem_cons_of_mem)) Bf lcn dc C<|λ_ _=>(by repeat (first|exact At.rg (rs:=Z) (i:=(k2:Int)) om om|apply At.tail))) λae ad=>?_
   show G prog κ _ _ _ _ ([(81,.slice ae ((e_ Z k2).xs++([⟨((List.idxOf (edgeP (e_ es k2).u (e_ (commonG nd es ((e_ es k2).u)<|(e_ es k2).v) (j:Int))) es:Nat):Int),((List.idxOf (edgeP (e_ es k2).v (e_ (commonG nd es ((e_ es k2).u)<|(e_ es k2).v) (j:Int))) es:Nat):Int)⟩]:List Pt)).length ad),(80,.slice ar 1 1),(79,.agg #[e7 (((List.idxOf (edgeP (e_ es k2).u (e_ (commonG nd es ((e_ es k2).u)<|(e_ es k2).v) (j:Int))) es:Nat):Int)),e7<|((List.idxOf (edgeP (e_ es k2).v (e_ (commonG nd es ((e_ es k2).u)<|(e_ es k2).v) (j:Int))) es:Nat):Int)]),(78,e7<|((List.idxOf (edgeP (e_ es k2).v (e_ (commonG nd es ((e_ es k2).u)<|(e_ es k2).v) (j:Int))) es:Nat):Int)),(77,e7<|((List.idxOf (edgeP (e_ es k2).u (e_ (commonG nd es ((e_ es k2).u)<|(e_ es k2).v) (j:Int))) es:Nat):Int)),(76,.slice (e_ Z k2).a (e_ Z k2).xs.length (e_ Z k2).c),(75,elemPtr (.slice M (replicate es.length (default:(RowG Pt))).length aa)<|((k2:Int)).toNat*Enc.sz (RowG Pt)),(74,e7<|(k2:Int)),(73,.slice M (replicate es.length (default:(RowG Pt))).length aa),(72,e7<|(k2:Int)),(71,.slice M (replicate es.length (default:(RowG Pt))).length aa),(12,e7<|((List.idxOf (edgeP (e_ es k2).v (e_ (commonG nd es ((e_ es k2).u)<|(e_ es k2).v) (j:Int))) es:Nat):Int)),(11,e7<|((List.idxOf (edgeP (e_ es k2).u (e_ (commonG nd es ((e_ es k2).u)<|(e_ es k2).v) (j:Int))) es:Nat):Int)),(1,.pointer<|some ⟨b1,0,none⟩),(3,.map<|some ab),(6,.slice M (replicate es.length (default:(RowG Pt))).length aa),(7,e7<|(k2:Int)),(8,.pointer<|some ⟨b6,0,none⟩),(31,va),(32,e7 ((es.length:Nat):Int)),(33,e7<|(k2:Int)),(43,.slice ai (commonG nd es ((e_ es k2).u)<|(e_ es k2).v).length ah),(44,e7<|(((commonG nd es ((e_ es k2).u)<|(e_ es k2).v).length:Nat):Int)),(45,e7<|(j:Int))]:Env) (vc 200 (.slice ar 1 1) (([⟨((List.idxOf (edgeP (e_ es k2).u (e_ (commonG nd es ((e_ es k2).u)<|(e_ es k2).v) (j:Int))) es:Nat):Int),((List.idxOf (edgeP (e_ es k2).v (e_ (commonG nd es ((e_ es k2).u)<|(e_ es k2).v) (j:Int))) es:Nat):Int)⟩]:List Pt))::vc 3 (.slice ai (commonG nd es ((e_ es k2).u)<|(e_ es k2).v).length ah) (commonG nd es ((e_ es k2).u)<|(e_ es k2).v)::e8 b6 [e7 ((e_ es k2).u),e7<|(e_ es k2).v] 105::vc 198 (.slice M (replicate es.length (default:(RowG Pt))).length aa) (Z)::mpE (α:=Pt) ab (es)::e8 b1 [e7 nd,va] 38::(rgI (List.set Z ((k2:Int)).toNat (⟨ae,ad,((e_ Z k2).xs++([⟨((List.idxOf (edgeP (e_ es k2).u (e_ (commonG nd es ((e_ es k2).u)<|(e_ es k2).v) (j:Int))) es:Nat):Int),((List.idxOf (edgeP (e_ es k2).v (e_ (commonG nd es ((e_ es k2).u)<|(e_ es k2).v) (j:Int))) es:Nat):Int)⟩]:List Pt))⟩:RowG Pt))++I))
   refine Gr (Ax (α:=(RowG Pt)) (xs:=Z) Dd ty198 C C Bf om om)<|Ge0 (Cu (α:=(RowG Pt)) (xs:=Z) (e:=198) (new:=(⟨ae,ad,((e_ Z k2).xs++([⟨((List.idxOf (edgeP (e_ es k2).u (e_ (commonG nd es ((e_ es k2).u)<|(e_ es k2).v) (j:Int))) es:Nat):Int),((List.idxOf (edgeP (e_ es k2).v (e_ (commonG nd es ((e_ es k2).u)<|(e_ es k2).v) (j:Int))) es:Nat):Int)⟩]:List Pt))⟩:RowG Pt)) ty198 C C C om om am) ?_
   exact Bj<|Aj<|Ah<|Ao (S11 1 3 6 7 8 31 32 33 43 44 45 C C C C C C C C C C C)<|Ar<|Gr (Rad C C)<|Gm C<|Bj<|B3 ((j+1),(List.set Z ((k2:Int)).toNat (⟨ae,ad,((e_ Z k2).xs++([⟨((List.idxOf (edgeP (e_ es k2).u (e_ (commonG nd es ((e_ es k2).u)<|(e_ es k2).v) (j:Int))) es:Nat):Int),((List.idxOf (edgeP (e_ es k2).v (e_ (commonG nd es ((e_ es k2).u)<|(e_ es k2).v) (j:Int))) es:Nat):Int)⟩]:List Pt))⟩:RowG Pt)))<|by dsimp only;exact ⟨om,(by rw [List.length_set];exact ak),(λi h=>by rw [Ee _ _ _ _ om om om,if_neg om];exact au i h),(λi h1 h2=>by rw [Ee _ _ _ _ om om om,if_neg om];exact ao i h1 h2),(by rw [Ee _ _ _ _ om om om,if_pos rfl,Cj _ j om,List.map_append];show (e_ Z k2).xs++_=_;rw [an];rfl)⟩
  exact Bs<|Al<|Al<|A2<|Aj<|Ah<|Ar<|Gr (Rad C C)<|Gm C<|Bj<|B3 ((k2+1),(Z))<|by dsimp only;exact ⟨om,ak,(λi h=>by by_cases e:i=k2;(· subst e;rw [an,List.take_of_length_le om];rfl);(· exact au i om)),(λi h1 h2=>ao i om h2)⟩
 refine Bs<|Al<|Al<|A2<|Ah<|Af<|Gm C<|Ga C<|Ac<|Az ?_
 have a5:k2=es.length:=by omega
 have az:=rows_tri aj (λi h=>aq i om)
 exact A1 C C (vc 198 (.slice M rs.length aa) rs::(rgI rs++I)) (by rw [aj];simp only [List.length_replicate];exact Bl) ⟨M,aa,rs,by rw [aj];simp only [List.length_replicate],az,rfl⟩
theorem best_yes{i:Nat}(h:e_ gone i=false)(Z:bestT sup gone i<0\/e_ sup i<e_ sup (bestT sup gone i)):bestT sup gone (i+1)=(i:Int):=by
 conv=>lhs;unfold bestT
 rw [if_pos ⟨h,Z⟩]
theorem best_no{i:Nat}(h:e_ gone i=true\/(¬bestT sup gone i<0/\¬e_ sup i<e_ sup (bestT sup gone i))):bestT sup gone (i+1)=bestT sup gone i:=by
 conv=>lhs;unfold bestT
 rw [if_neg]
 rintro ⟨Z,M⟩
 rcases h with h|h
 ·rw [h] at Z;cases Z
 exact M.elim h.1 h.2
theorem rows_atG{rs:List (RowG Pt)}{tri:List (List Pt)}(h:rs.map RowG.xs=tri)(M:0<=i)(Z:i<rs.length):(e_ rs i).xs=e_ tri i:=by
 subst h
 rw [at_eq M Z,at_eq M<|by rw [List.length_map];exact Z,List.getElem_map]
theorem low_yes{p:Pt}(Z:e_ gone p.u=false)(M:e_ gone p.v=false):lowT gone sup p=(sup.set p.u.toNat (e_ sup p.u - 1)).set p.v.toNat (e_ (sup.set p.u.toNat (e_ sup p.u - 1)) p.v - 1):=by
 unfold lowT;rw [if_pos ⟨Z,M⟩]
theorem low_no{p:Pt}(h:e_ gone p.u=true\/e_ gone p.v=true):lowT gone sup p=sup:=by
 unfold lowT;rw [if_neg]
 rintro ⟨Z,M⟩
 rcases h with h|h
 ·rw [h] at Z;cases Z
 rw [h] at M;cases M
theorem TPeel_ok{κ:Ctx}{I:List Item}{nd:Int}{va:Value}{es:List Pt}(hl:Sl κ I va es)(hG:GrOk nd es)(hb:es.length<=1000000)(hT:TabRd κ I 0 tzCells):eu prog κ 130 [.agg #[e7 nd,va]] I (λr J=>∃a c a' c',r = .tuple #[.slice a (trussO (trisE nd es)).length c,.slice a' (trussN (trisE nd es)).length c']/\J=vc 3 (.slice a (trussO (trisE nd es)).length c) (trussO (trisE nd es))::vc 3 (.slice a' (trussN (trisE nd es)).length c') (trussN (trisE nd es))::I):=by
 have bw:=hG.rng
 have a3:=tris_ok hG
 have b2:(trisE nd es).length=es.length:=List.length_map ..
 refine Ce1 Tryz.func130 C C ?_
 refine Af<|Ge1 (Bg (cs:=[_,_]) C C C) λb1=>Ga C<|Ga C<|Ac<|Af<|Gl2 ty38 ?_
 refine G.e (Ak c_ C C<|Triangles_ok (nd:=nd) (A8 hl) hG om<|Bm hT Ay) ?_
 rintro _ _ ⟨_,_,⟨ai,aj,Z,rfl,a1,rfl⟩,rfl,rfl⟩
 have a8:Z.length=(trisE nd es).length:=by rw [←a1,List.length_map]
 refine Eh (J:=vc 198 (.slice ai Z.length aj) (Z)::e8 b1 [e7 nd,va] 38::(rgI Z++I)) (C2<|List.Perm.cons _<|Dl (A:=rgI Z) (L:=[e8 b1 [e7 nd,va] 38]) (T:=I)) ?_
 show G prog κ _ _ _ _ ([(16,.slice ai Z.length aj),(15,.agg #[e7 nd,va]),(3,.slice none 0 0),(2,.slice none 0 0),(1,.pointer<|some ⟨b1,0,none⟩),(0,.agg #[e7 nd,va])]:Env) (vc 198 (.slice ai Z.length aj) (Z)::e8 b1 [e7 nd,va] 38::(rgI Z++I))
 refine Ga C<|Ac<|Af<|Gm C<|Gr (Bh Dd C)<|Ga C<|Ac<|Af<|Gm C<|Ge2 (Du (α:=Int) (n:=Z.length) Ab ef C C C om om dc C) λap an=>?_
 refine Ga C<|Ac<|Aq<|Af<|Gm C<|Gr (Bh Dd C)<|Gm C<|Ac<|Ao (S7 23 22 21 6 5 4 2 C C C C C C C)<|Aw<|Bu (σ:=Nat×(List Int)) (λs=>([(2,.slice none 0 0),(4,.slice ai Z.length aj),(5,e7 ((Z.length:Nat):Int)),(6,.slice ap (replicate Z.length (default:Int)).length an),(21,.slice ai Z.length aj),(22,e7 ((Z.length:Nat):Int)),(23,e7 ((s.1:Nat):Int))]:Env)) (λs=>vc 3 (.slice ap (replicate Z.length (default:Int)).length an) (s.2)::vc 198 (.slice ai Z.length aj) (Z)::e8 b1 [e7 nd,va] 38::(rgI Z++I)) (λs=>(s.1<=Z.length)/\(s.2.length=Z.length)/\(∀i:Nat,i<s.1->e_ s.2 i=(((e_ Z i).xs.length:Nat):Int))) (λs=>Z.length - s.1) (0,replicate Z.length (default:Int)) (show ((0:Nat)<=Z.length)/\((replicate Z.length (default:Int):List Int).length=Z.length)/\(∀i:Nat,i<(0:Nat)->e_ (replicate Z.length (default:Int):List Int) (i:Int)=(((e_ Z i).xs.length:Nat):Int)) from ⟨om,List.length_replicate,(λi h=>by omega)⟩) (Aa C<|Aa C<|Aa C<|Aa C<|Aa C<|Aa C<|Aa (En C<|by first|omega|rfl|((try dsimp only);first|exact best_yes (by simpa using aa) (by first|exact .inl M|exact .inr ab)|exact (best_yes (by simpa using aa)<|by first|exact .inl M|exact .inr ab).symm|exact best_no (by first|(left;simpa using aa)|exact .inr ⟨M,ab⟩)|exact (best_no<|by first|(left;simpa using aa)|exact .inr ⟨M,ab⟩).symm)) Bi) (show Fit κ _ (vc 3 (.slice ap (replicate Z.length (default:Int)).length an) ((replicate Z.length (default:Int)))::vc 198 (.slice ai Z.length aj) (Z)::e8 b1 [e7 nd,va] 38::(rgI Z++I)) from Bc) ?_
 rintro ⟨k,sup⟩ hp
 dsimp only at hp ⊢
 obtain ⟨hk,bj,bb⟩:=hp
 refine Af<|Gr (A4 C C)<|Ac<|Aq<|A5 C (λbp=>?_)<|λbp=>?_
 ·refine Av (Ah<|Aq<|Aw<|Af<|Gm C<|Gr (Ax (α:=(RowG Pt)) (xs:=Z) Dd ty198 C C Bf om oo)<|Gr (B7 (α:=(RowG Pt)) (xs:=Z) (u:= .slice (e_ Z k).a (e_ Z k).xs.length (e_ Z k).c) ty198 C Bf om oo C)<|Ga C<|Ga C<|Ac<|Ar<|Gm C<|Gm C<|Gm C<|Gr (Bh Bv C)<|Gr (Ax (α:=Int) (xs:=sup) Ab ef C C Bf om oo)<|Ge0 (Cu (α:=Int) (xs:=sup) (e:=3) (new:=(((e_ Z k).xs.length:Nat):Int)) ef C C C om oo am) ?_)
  exact Bj<|Aj<|Ah<|Ao (S7 2 4 5 6 21 22 23 C C C C C C C)<|Ar<|Gr (Rad C C)<|Gm C<|Bj<|B3 ((k+1),(List.set sup ((k:Int)).toNat ((((e_ Z k).xs.length:Nat):Int)))) (by dsimp only;exact ⟨om,(by rw [List.length_set];exact bj),(λi h=>by rw [Ee _ _ _ _ om om om];by_cases e:i=k;(· subst e;rw [if_pos rfl]);(· rw [if_neg om];exact bb i om))⟩) (hL:=(Aa C<|Aa C<|Aa C<|Aa C<|Aa C<|Aa C<|Aa (En C<|by first|omega|rfl|((try dsimp only);first|exact best_yes (by simpa using aa) (by first|exact .inl M|exact .inr ab)|exact (best_yes (by simpa using aa)<|by first|exact .inl M|exact .inr ab).symm|exact best_no (by first|(left;simpa using aa)|exact .inr ⟨M,ab⟩)|exact (best_no<|by first|(left;simpa using aa)|exact .inr ⟨M,ab⟩).symm)) Bi))
 refine Bs<|Al<|Al<|A2<|Ah<|Af<|Gm C ?_
 have bg:sup=(startT<|trisE nd es).sup:=by refine ext_at (by rw [bj,a8];exact (List.length_map ..).symm) (λi hi=>?_);rw [bb i om,rows_atG a1 om om];show _=e_ ((trisE nd es).map λl=>(l.length:Int)) (i:Int);rw [Cn _ _ (show i<(trisE nd es).length by omega),Cn _ _<|by rw [List.length_map];omega,List.getElem_map]
 refine Ge2 (Du (α:=Bool) (n:=Z.length) Et ty4 C C C om om dc C) λaw av=>?_
 refine Ga C<|Ac<|Af<|Gm C<|Ge2 (Du (α:=Int) (n:=Z.length) Ab ef C C C om om dc C) λar ah=>?_
 refine Ga C<|Ac<|Ao (S6 3 9 2 4 5 6 C C C C C C)<|Af<|Ga C<|Ac<|Aq<|Af<|Gm C<|Gm C<|Ac<|Aw<|Bu (σ:=Nat×TrS×(Option Addr)×Nat) (λs=>([(2,.slice s.2.2.1 s.2.1.ord.length s.2.2.2),(3,.slice ar (replicate Z.length (default:Int)).length ah),(4,.slice ai Z.length aj),(5,e7 ((Z.length:Nat):Int)),(6,.slice ap (replicate Z.length (default:Int)).length an),(9,.slice aw (replicate Z.length (default:Bool)).length av),(10,e7<|s.2.1.k),(38,e7 ((Z.length:Nat):Int)),(39,e7 ((s.1:Nat):Int))]:Env)) (λs=>vc 3 (.slice s.2.2.1 s.2.1.ord.length s.2.2.2) (s.2.1.ord)::vc 3 (.slice ar (replicate Z.length (default:Int)).length ah) (s.2.1.num)::vc 4 (.slice aw (replicate Z.length (default:Bool)).length av) (s.2.1.gone)::vc 3 (.slice ap (replicate Z.length (default:Int)).length an) (s.2.1.sup)::vc 198 (.slice ai Z.length aj) (Z)::e8 b1 [e7 nd,va] 38::(rgI Z++I)) (λs=>(s.1<=Z.length)/\(s.2.1=runTr (trisE nd es) s.1)/\(TrOk (nd.toNat - 1) (trisE nd es).length s.1 s.2.1)) (λs=>Z.length - s.1) (0,(startT<|trisE nd es),none,0) (show ((0:Nat)<=Z.length)/\(((startT<|trisE nd es):TrS)=runTr (trisE nd es) (0:Nat))/\(TrOk (nd.toNat - 1) (trisE nd es).length (0:Nat) ((startT<|trisE nd es):TrS)) from ⟨om,rfl,(TrOk.start a3)⟩) (Aa (Cx C<|by first|rfl|simp)<|Aa C<|Aa C<|Aa C<|Aa C<|Aa C<|Aa (En C<|by first|omega|rfl|((try dsimp only);first|exact best_yes (by simpa using aa) (by first|exact .inl M|exact .inr ab)|exact (best_yes (by simpa using aa)<|by first|exact .inl M|exact .inr ab).symm|exact best_no (by first|(left;simpa using aa)|exact .inr ⟨M,ab⟩)|exact (best_no<|by first|(left;simpa using aa)|exact .inr ⟨M,ab⟩).symm))<|Aa C<|Aa (En C<|by first|omega|rfl|((try dsimp only);first|exact best_yes (by simpa using aa) (by first|exact .inl M|exact .inr ab)|exact (best_yes (by simpa using aa)<|by first|exact .inl M|exact .inr ab).symm|exact best_no (by first|(left;simpa using aa)|exact .inr ⟨M,ab⟩)|exact (best_no<|by first|(left;simpa using aa)|exact .inr ⟨M,ab⟩).symm)) Bi) (show Fit κ _ (vc 3 (.slice none ((startT<|trisE nd es)).ord.length 0) (((startT<|trisE nd es)).ord)::vc 3 (.slice ar (replicate Z.length (default:Int)).length ah) (((startT<|trisE nd es)).num)::vc 4 (.slice aw (replicate Z.length (default:Bool)).length av) (((startT<|trisE nd es)).gone)::vc 3 (.slice ap (replicate Z.length (default:Int)).length an) (((startT<|trisE nd es)).sup)::vc 198 (.slice ai Z.length aj) (Z)::e8 b1 [e7 nd,va] 38::(rgI Z++I)) from (by rw [←bg];exact Cq (Cb (α:=Int) _ _)<|by rw [a8];exact Bl)) ?_
 rintro ⟨j,tr,ao,co⟩ hp
 dsimp only at hp ⊢
 obtain ⟨hj,bc,au⟩:=hp
 have br:=au.slen
 have bt:=au.glen
 have ca:=au.nlen
 have ce:=au.olen
 have cd:=au.k
 have b7:2*(((nd.toNat - 1:Nat)):Int)*(j:Int)<=126*(j:Int):=Int.mul_le_mul_of_nonneg_right om om
 refine Af<|Gr (A4 C C)<|Ac<|Aq<|A5 C (λbn=>?_)<|λbn=>?_
 ·refine Av (Ah<|Aq<|Aw<|Af<|Ga C<|Ac<|Aq<|Af<|Gm C<|Gm C<|Ac<|Aw<|Bu (σ:=Nat) (λs=>([(2,.slice ao tr.ord.length co),(3,.slice ar (replicate Z.length (default:Int)).length ah),(4,.slice ai Z.length aj),(5,e7 ((Z.length:Nat):Int)),(6,.slice ap (replicate Z.length (default:Int)).length an),(9,.slice aw (replicate Z.length (default:Bool)).length av),(10,e7<|tr.k),(11,e7<|bestT tr.sup tr.gone s),(38,e7 ((Z.length:Nat):Int)),(39,e7<|(j:Int)),(41,e7 ((Z.length:Nat):Int)),(42,e7 ((s:Nat):Int))]:Env)) (λs=>vc 3 (.slice ao tr.ord.length co) (tr.ord)::vc 3 (.slice ar (replicate Z.length (default:Int)).length ah) (tr.num)::vc 4 (.slice aw (replicate Z.length (default:Bool)).length av) (tr.gone)::vc 3 (.slice ap (replicate Z.length (default:Int)).length an) (tr.sup)::vc 198 (.slice ai Z.length aj) (Z)::e8 b1 [e7 nd,va] 38::(rgI Z++I)) (λs=>(s<=Z.length)) (λs=>Z.length - s) 0 (show ((0:Nat)<=Z.length) from om) (Aa C<|Aa C<|Aa C<|Aa C<|Aa C<|Aa C<|Aa C<|Aa (En C<|by first|omega|rfl|((try dsimp only);first|exact best_yes (by simpa using aa) (by first|exact .inl M|exact .inr ab)|exact (best_yes (by simpa using aa)<|by first|exact .inl M|exact .inr ab).symm|exact best_no (by first|(left;simpa using aa)|exact .inr ⟨M,ab⟩)|exact (best_no<|by first|(left;simpa using aa)|exact .inr ⟨M,ab⟩).symm))<|Aa C<|Aa C<|Aa C<|Aa (En C<|by first|omega|rfl|((try dsimp only);first|exact best_yes (by simpa using aa) (by first|exact .inl M|exact .inr ab)|exact (best_yes (by simpa using aa)<|by first|exact .inl M|exact .inr ab).symm|exact best_no (by first|(left;simpa using aa)|exact .inr ⟨M,ab⟩)|exact (best_no<|by first|(left;simpa using aa)|exact .inr ⟨M,ab⟩).symm)) Bi) (show Fit κ _ (vc 3 (.slice ao tr.ord.length co) (tr.ord)::vc 3 (.slice ar (replicate Z.length (default:Int)).length ah) (tr.num)::vc 4 (.slice aw (replicate Z.length (default:Bool)).length av) (tr.gone)::vc 3 (.slice ap (replicate Z.length (default:Int)).length an) (tr.sup)::vc 198 (.slice ai Z.length aj) (Z)::e8 b1 [e7 nd,va] 38::(rgI Z++I)) from Bc) ?_)
  rintro i2 hp
  have b6:=hp
  have b3:=bestT_lt tr.sup tr.gone i2
  refine Af<|Gr (A4 C C)<|Ac<|Aq<|A5 C (λbq=>?_)<|λbq=>?_
  ·refine Av (Ah<|Aq<|Aw<|Af<|Gm C<|Ga C<|Ac<|Ao (S13 12 2 3 4 5 6 9 10 11 38 39 41 42 C C C C C C C C C C C C C)<|Aq<|Bq mixed<|Ca (vc 3 (.slice ao tr.ord.length co) (tr.ord)::vc 3 (.slice ar (replicate Z.length (default:Int)).length ah) (tr.num)::vc 4 (.slice aw (replicate Z.length (default:Bool)).length av) (tr.gone)::vc 3 (.slice ap (replicate Z.length (default:Int)).length an) (tr.sup)::vc 198 (.slice ai Z.length aj) (Z)::e8 b1 [e7 nd,va] 38::(rgI Z++I)) 20<|Dr 0 C (Ai C)<|Dr 1 C (Ai C)<|Dr 2 C (Ax (α:=Bool) (xs:=tr.gone) Et ty4 C C Bf om oo)<|Dr 3 C (Runs.getB (xs:=tr.gone) ty4 C Bf om oo)<|Dr 4 C (Co C)<|Dr 5 C (Ai C)<|D.splitb (d:=50) C (λaa=>?_)<|λaa=>?_)
   ·refine Dro 6 C (Ai C) (Dro 7 C (A4 C C)<|Dro 8 C (Ai C)<|El (d:=53) C (λM=>?_)<|λM=>?_)
    ·exact Dpo 9 C<|Dpo 10 C<|Dpo 11 C<|Dpo 12 C<|Dpo 13 C<|Dpo 14 C<|Dpo 15 C<|Dpo 16 C<|Dpo 17 C<|Dro 18 C (Ba C C)<|Dr 19 C (Ba C C)<|Dz<|Ah<|Ao (S14 64 12 2 3 4 5 6 9 10 11 38 39 41 42 C C C C C C C C C C C C C C)<|Dj C<|Ar<|Gm C<|Ga C<|Bj<|Aj<|Ah<|Ao (S12 11 2 3 4 5 6 9 10 38 39 41 42 C C C C C C C C C C C C)<|Ar<|Gr (Rad C C)<|Gm C<|Bj<|B3 ((i2+1)) om (hL:=(Aa C<|Aa C<|Aa C<|Aa C<|Aa C<|Aa C<|Aa C<|Aa (En C<|by first|omega|rfl|((try dsimp only);first|exact best_yes (by simpa using aa) (by first|exact .inl M|exact .inr ab)|exact (best_yes (by simpa using aa)<|by first|exact .inl M|exact .inr ab).symm|exact best_no (by first|(left;simpa using aa)|exact .inr ⟨M,ab⟩)|exact (best_no<|by first|(left;simpa using aa)|exact .inr ⟨M,ab⟩).symm))<|Aa C<|Aa C<|Aa C<|Aa (En C<|by first|omega|rfl|((try dsimp only);first|exact best_yes (by simpa using aa) (by first|exact .inl M|exact .inr ab)|exact (best_yes (by simpa using aa)<|by first|exact .inl M|exact .inr ab).symm|exact best_no (by first|(left;simpa using aa)|exact .inr ⟨M,ab⟩)|exact (best_no<|by first|(left;simpa using aa)|exact .inr ⟨M,ab⟩).symm)) Bi))
    refine Dro 9 C (Ai C)<|Dro 10 C (Ai C)<|Dro 11 C (Ax (α:=Int) (xs:=tr.sup) Ab ef C C Bf om oo)<|Dro 12 C (Br (xs:=tr.sup) ef C Bf om oo)<|Dro 13 C (Ai C)<|Dro 14 C (Ai C)<|Dro 15 C (Ax (α:=Int) (xs:=tr.sup) Ab ef C C Bf om oo)<|Dro 16 C (Br (xs:=tr.sup) ef C Bf om oo)<|Dro 17 C (A4 C C)<|Dro 18 C (A6 C C)<|Dr 19 C (Ba C C)<|Dz<|Ah<|Ao (S14 64 12 2 3 4 5 6 9 10 11 38 39 41 42 C C C C C C C C C C C C C C)<|A5 C (λab=>?_)<|λab=>?_
    ·exact Ar<|Gm C<|Ga C<|Bj<|Aj<|Ah<|Ao (S12 11 2 3 4 5 6 9 10 38 39 41 42 C C C C C C C C C C C C)<|Ar<|Gr (Rad C C)<|Gm C<|Bj<|B3 ((i2+1)) om (hL:=(Aa C<|Aa C<|Aa C<|Aa C<|Aa C<|Aa C<|Aa C<|Aa (En C<|by first|omega|rfl|((try dsimp only);first|exact best_yes (by simpa using aa) (by first|exact .inl M|exact .inr ab)|exact (best_yes (by simpa using aa)<|by first|exact .inl M|exact .inr ab).symm|exact best_no (by first|(left;simpa using aa)|exact .inr ⟨M,ab⟩)|exact (best_no<|by first|(left;simpa using aa)|exact .inr ⟨M,ab⟩).symm))<|Aa C<|Aa C<|Aa C<|Aa (En C<|by first|omega|rfl|((try dsimp only);first|exact best_yes (by simpa using aa) (by first|exact .inl M|exact .inr ab)|exact (best_yes (by simpa using aa)<|by first|exact .inl M|exact .inr ab).symm|exact best_no (by first|(left;simpa using aa)|exact .inr ⟨M,ab⟩)|exact (best_no<|by first|(left;simpa using aa)|exact .inr ⟨M,ab⟩).symm)) Bi))
    exact Av<|Aj<|Ah<|Ao (S12 2 3 4 5 6 9 10 11 38 39 41 42 C C C C C C C C C C C C)<|Ar<|Gr (Rad C C)<|Gm C<|Bj<|B3 ((i2+1)) om (hL:=(Aa C<|Aa C<|Aa C<|Aa C<|Aa C<|Aa C<|Aa C<|Aa (En C<|by first|omega|rfl|((try dsimp only);first|exact best_yes (by simpa using aa) (by first|exact .inl M|exact .inr ab)|exact (best_yes (by simpa using aa)<|by first|exact .inl M|exact .inr ab).symm|exact best_no (by first|(left;simpa using aa)|exact .inr ⟨M,ab⟩)|exact (best_no<|by first|(left;simpa using aa)|exact .inr ⟨M,ab⟩).symm))<|Aa C<|Aa C<|Aa C<|Aa (En C<|by first|omega|rfl|((try dsimp only);first|exact best_yes (by simpa using aa) (by first|exact .inl M|exact .inr ab)|exact (best_yes (by simpa using aa)<|by first|exact .inl M|exact .inr ab).symm|exact best_no (by first|(left;simpa using aa)|exact .inr ⟨M,ab⟩)|exact (best_no<|by first|(left;simpa using aa)|exact .inr ⟨M,ab⟩).symm)) Bi))
   exact Dpo 6 C<|Dpo 7 C<|Dpo 8 C<|Dpu 9 C<|Dpu 10 C<|Dpu 11 C<|Dpu 12 C<|Dpu 13 C<|Dpu 14 C<|Dpu 15 C<|Dpu 16 C<|Dpu 17 C<|Dpo 18 C<|Dr 19 C (A6 C C)<|Dz<|Ah<|Ao (S14 64 12 2 3 4 5 6 9 10 11 38 39 41 42 C C C C C C C C C C C C C C)<|Dp C<|Av<|Aj<|Ah<|Ao (S12 2 3 4 5 6 9 10 11 38 39 41 42 C C C C C C C C C C C C)<|Ar<|Gr (Rad C C)<|Gm C<|Bj<|B3 ((i2+1)) om (hL:=(Aa C<|Aa C<|Aa C<|Aa C<|Aa C<|Aa C<|Aa C<|Aa (En C<|by first|omega|rfl|((try dsimp only);first|exact best_yes (by simpa using aa) (by first|exact .inl M|exact .inr ab)|exact (best_yes (by simpa using aa)<|by first|exact .inl M|exact .inr ab).symm|exact best_no (by first|(left;simpa using aa)|exact .inr ⟨M,ab⟩)|exact (best_no<|by first|(left;simpa using aa)|exact .inr ⟨M,ab⟩).symm))<|Aa C<|Aa C<|Aa C<|Aa (En C<|by first|omega|rfl|((try dsimp only);first|exact best_yes (by simpa using aa) (by first|exact .inl M|exact .inr ab)|exact (best_yes (by simpa using aa)<|by first|exact .inl M|exact .inr ab).symm|exact best_no (by first|(left;simpa using aa)|exact .inr ⟨M,ab⟩)|exact (best_no<|by first|(left;simpa using aa)|exact .inr ⟨M,ab⟩).symm)) Bi))
  refine Bs<|Al<|Al<|A2<|Ah<|Af<|Gm C ?_
  obtain ⟨b,bi⟩:∃b,bestT tr.sup tr.gone i2=b:=⟨_,rfl⟩
  have bh:bestT tr.sup tr.gone (trisE nd es).length=b:=by rw [←bi,show i2=(trisE nd es).length by omega]
  have a4:=au.best om
  rw [bh] at a4
  rw [bi]
  have cc:=au.sup _ (B1 (xs:=tr.sup) (i:=b) a4.1 om)
  refine Gm C<|Gm C<|Gr (Ax (α:=Int) (xs:=tr.sup) Ab ef C C Bf om oo)<|Gr (Br (xs:=tr.sup) ef C Bf om oo)<|Gr (Dq C C) ?_
  have bm:(if tr.k<(e_ tr.sup b) then (e_ tr.sup b) else tr.k)=(max tr.k<|e_ tr.sup b):=by split<;>omega
  rw [bm]
  refine Ga C<|Ac<|Ao (S10 10 2 3 4 5 6 9 11 38 39 C C C C C C C C C C)<|Af<|Gm C<|Gm C<|Gm C<|Gm C<|Gm C<|Gr (Ax (α:=Int) (xs:=tr.num) Ab ef C C Bf om oo)<|Ge0 (Cu (α:=Int) (xs:=tr.num) (e:=3) (new:=(max tr.k<|e_ tr.sup b)) ef C C C om oo am) ?_
  refine Gr (Ax (α:=Bool) (xs:=tr.gone) Et ty4 C C Bf om oo)<|Ge0 (Cu (α:=Bool) (xs:=tr.gone) (e:=4) (new:=true) ty4 C C C om oo am) ?_
  refine Ac<|Ao (S10 10 2 3 4 5 6 9 11 38 39 C C C C C C C C C C)<|Af<|Gm C<|Gm C<|Ge1 (Cf (α:=Int) (cs:=[_]) (xs:=[b]) Ab ef C C dc dc C C C C) λa9=>?_
  refine Ge2 (Cg (α:=Int) (e:=3) (xs:=tr.ord) (ys:=([b]:List Int)) Ab ef C C C mm Bf lcn dc C<|λ_ _=>am) λaz a0=>?_
  refine Ga C<|Ac<|Ao (S10 2 10 3 4 5 6 9 11 38 39 C C C C C C C C C C)<|Af<|Gm C<|Gm C<|Gr (Ax (α:=(RowG Pt)) (xs:=Z) Dd ty198 C C Bf om oo)<|Gr (B7 (α:=(RowG Pt)) (xs:=Z) (u:= .slice (e_ Z b).a (e_ Z b).xs.length (e_ Z b).c) ty198 C Bf om oo C)<|Gr (Bh Bv C)<|Gm C<|Ac<|Ao (S12 89 88 87 2 10 3 4 5 6 9 38 39 C C C C C C C C C C C C)<|Aw<|Bu (σ:=Nat×(List Int)) (λs=>([(2,.slice az (tr.ord++([b]:List Int)).length a0),(3,.slice ar (replicate Z.length (default:Int)).length ah),(4,.slice ai Z.length aj),(5,e7 ((Z.length:Nat):Int)),(6,.slice ap (replicate Z.length (default:Int)).length an),(9,.slice aw (replicate Z.length (default:Bool)).length av),(10,e7<|(max tr.k<|e_ tr.sup b)),(38,e7 ((Z.length:Nat):Int)),(39,e7 ((j:Nat):Int)),(87,.slice (e_ Z b).a (e_ Z b).xs.length (e_ Z b).c),(88,e7<|(((e_ Z b).xs.length:Nat):Int)),(89,e7 ((s.1:Nat):Int))]:Env)) (λs=>vc 3 (.slice a9 1 1) (([b]:List Int))::vc 3 (.slice az (tr.ord++([b]:List Int)).length a0) (tr.ord++([b]:List Int))::vc 3 (.slice ar (replicate Z.length (default:Int)).length ah) (List.set tr.num (b).toNat ((max tr.k<|e_ tr.sup b)))::vc 4 (.slice aw (replicate Z.length (default:Bool)).length av) (List.set tr.gone (b).toNat (true))::vc 3 (.slice ap (replicate Z.length (default:Int)).length an) (s.2)::vc 198 (.slice ai Z.length aj) (Z)::e8 b1 [e7 nd,va] 38::(rgI Z++I)) (λs=>(s.1<=(e_ Z b).xs.length)/\(s.2=((e_ Z b).xs.take s.1).foldl (lowT<|List.set tr.gone (b).toNat (true)) tr.sup)/\(s.2.length=(trisE nd es).length)/\(∀x∈s.2, -(126*((j:Nat):Int)) - 2*((s.1:Nat):Int)<=x/\x<=64)) (λs=>(e_ Z b).xs.length - s.1) (0,tr.sup) (show ((0:Nat)<=(e_ Z b).xs.length)/\((tr.sup:List Int)=((e_ Z b).xs.take (0:Nat)).foldl (lowT<|List.set tr.gone (b).toNat (true)) tr.sup)/\((tr.sup:List Int).length=(trisE nd es).length)/\(∀x∈(tr.sup:List Int), -(126*((j:Nat):Int)) - 2*(((0:Nat):Nat):Int)<=x/\x<=64) from ⟨om,rfl,br,(λx hx=>by have:=au.sup x hx;omega)⟩) (Aa C<|Aa C<|Aa C<|Aa C<|Aa C<|Aa C<|Aa C<|Aa C<|Aa C<|Aa C<|Aa C<|Aa (En C<|by first|omega|rfl|((try dsimp only);first|exact best_yes (by simpa using aa) (by first|exact .inl M|exact .inr ab)|exact (best_yes (by simpa using aa)<|by first|exact .inl M|exact .inr ab).symm|exact best_no (by first|(left;simpa using aa)|exact .inr ⟨M,ab⟩)|exact (best_no<|by first|(left;simpa using aa)|exact .inr ⟨M,ab⟩).symm)) Bi) (show Fit κ _ (vc 3 (.slice a9 1 1) (([b]:List Int))::vc 3 (.slice az (tr.ord++([b]:List Int)).length a0) (tr.ord++([b]:List Int))::vc 3 (.slice ar (replicate Z.length (default:Int)).length ah) (List.set tr.num (b).toNat ((max tr.k<|e_ tr.sup b)))::vc 4 (.slice aw (replicate Z.length (default:Bool)).length av) (List.set tr.gone (b).toNat (true))::vc 3 (.slice ap (replicate Z.length (default:Int)).length an) ((tr.sup))::vc 198 (.slice ai Z.length aj) (Z)::e8 b1 [e7 nd,va] 38::(rgI Z++I)) from Bc) ?_
  rintro ⟨q,ad⟩ hp
  dsimp only at hp ⊢
  obtain ⟨hq,a6,ax,a5⟩:=hp
  have be:(e_ Z b).xs∈(trisE nd es):=by rw [rows_atG a1 a4.1 om];exact B1 a4.1 a4.2.1
  have b8:=a3.len _ be
  have bv:(List.set tr.gone (b).toNat (true)).length=(trisE nd es).length:=by rw [List.length_set];exact bt
  have a7:q<(e_ Z b).xs.length->0<=(e_ (e_ Z b).xs (q:Int)).u/\(e_ (e_ Z b).xs (q:Int)).u<(trisE nd es).length/\0<=(e_ (e_ Z b).xs (q:Int)).v/\(e_ (e_ Z b).xs (q:Int)).v<(trisE nd es).length:=λh=>a3.rng _ be _ (B1 om om)
  refine Af<|Gr (A4 C C)<|Ac<|Aq<|A5 C (λbo=>?_)<|λbo=>?_
  ·refine Av (Ah<|Aq<|Aw<|Af<|Gr (Ax (α:=Pt) (xs:=(e_ Z b).xs) Bv ty200 C C (C3<|by repeat (first|exact rgI_mem (rs:=Z) (i:=b) om om|apply List.mem_cons_of_mem)) om oo)<|Gr (Bx (α:=Pt) (xs:=(e_ Z b).xs) ty200 C (C3<|by repeat (first|exact rgI_mem (rs:=Z) (i:=b) om om|apply List.mem_cons_of_mem)) om oo) ?_)
   have cb:=a7 om
   have b4:=a5 _ (B1 (xs:=ad) (i:=(e_ (e_ Z b).xs (q:Int)).u) om om)
   refine Ge1 (A3 ty200 C) λb5=>Ge0 (Cz ty200) ?_
   refine Ac<|Ao (S13 14 2 3 4 5 6 9 10 38 39 87 88 89 C C C C C C C C C C C C C)<|Af<|Gm C<|Gr (B4 B6 ty2 C C om om)<|Gl ef ?_
   refine Gr (Ax (α:=Bool) (xs:=List.set tr.gone (b).toNat (true)) Et ty4 C C Bf om oo)<|Gr (Runs.getB (xs:=List.set tr.gone (b).toNat (true)) ty4 C Bf om oo)<|Gr (Co C)<|Gm C<|G.splitb (d:=99) C (λaq=>?_)<|λaq=>?_
   ·refine e9 (Ai C) (e9 (B4 B6 ty2 C C om om)<|e9 (Bb ef) ?_)
    refine e9 (Ax (α:=Bool) (xs:=List.set tr.gone (b).toNat (true)) Et ty4 C C Bf om oo)<|e9 (Runs.getB (xs:=List.set tr.gone (b).toNat (true)) ty4 C Bf om oo)<|e9 (Co C)<|Gr (Ba C C)<|Ac<|Ao (S14 106 14 2 3 4 5 6 9 10 38 39 87 88 89 C C C C C C C C C C C C C C)<|D4 C (λae=>?_)<|λae=>?_
    ·refine Af (Gm C<|Gr (B4 B6 ty2 C C om om)<|Gl ef ?_)
     refine Gr (Ax (α:=Int) (xs:=ad) Ab ef C C Bf om oo)<|Gr (Br (xs:=ad) ef C Bf om oo)<|Gr (Rsu C C)<|Gr (Ax (α:=Int) (xs:=ad) Ab ef C C Bf om oo)<|Ge0 (Cu (α:=Int) (xs:=ad) (e:=3) (new:=(e_ ad<|(e_ ((e_ Z b).xs) (q:Int)).u) - 1) ef C C C om oo am) ?_
     have b9 : -(126*(j:Int)) - 2*(q:Int) - 1<=e_ (List.set ad ((e_ ((e_ Z b).xs) (q:Int)).u).toNat ((e_ ad<|(e_ ((e_ Z b).xs) (q:Int)).u) - 1)) (e_ (e_ Z b).xs (q:Int)).v/\e_ (List.set ad ((e_ ((e_ Z b).xs) (q:Int)).u).toNat ((e_ ad<|(e_ ((e_ Z b).xs) (q:Int)).u) - 1)) (e_ (e_ Z b).xs (q:Int)).v<=64:=by rw [Ee _ _ _ _ om om om];have:=a5 _ (B1 (xs:=ad) (i:=(e_ (e_ Z b).xs (q:Int)).v) om om);split<;>omega
     refine Ac<|Ao (S13 14 2 3 4 5 6 9 10 38 39 87 88 89 C C C C C C C C C C C C C)<|Ar<|Gm C<|Gr (B4 B6 ty2 C C om om)<|Gl ef ?_
     refine Gr (Ax (α:=Int) (xs:=List.set ad ((e_ ((e_ Z b).xs) (q:Int)).u).toNat ((e_ ad<|(e_ ((e_ Z b).xs) (q:Int)).u) - 1)) Ab ef C C Bf om oo)<|Gr (Br (xs:=List.set ad ((e_ ((e_ Z b).xs) (q:Int)).u).toNat ((e_ ad<|(e_ ((e_ Z b).xs) (q:Int)).u) - 1)) ef C Bf om oo)<|Gr (Rsu C C)<|Gr (Ax (α:=Int) (xs:=List.set ad ((e_ ((e_ Z b).xs) (q:Int)).u).toNat ((e_ ad<|(e_ ((e_ Z b).xs) (q:Int)).u) - 1)) Ab ef C C Bf om oo)<|Ge0 (Cu (α:=Int) (xs:=List.set ad ((e_ ((e_ Z b).xs) (q:Int)).u).toNat ((e_ ad<|(e_ ((e_ Z b).xs) (q:Int)).u) - 1)) (e:=3) (new:=(e_ (List.set ad ((e_ ((e_ Z b).xs) (q:Int)).u).toNat ((e_ ad<|(e_ ((e_ Z b).xs) (q:Int)).u) - 1))<|(e_ ((e_ Z b).xs) (q:Int)).v) - 1) ef C C C om oo am) ?_
     refine Bj<|Aj<|Ah<|Ao (S12 2 3 4 5 6 9 10 38 39 87 88 89 C C C C C C C C C C C C)<|Ar<|Gr (Rad C C)<|Gm C<|Bj ?_
     have ay:((e_ Z b).xs.take (q+1)).foldl (lowT<|List.set tr.gone (b).toNat (true)) tr.sup=lowT (List.set tr.gone (b).toNat (true)) ad (e_ (e_ Z b).xs (q:Int)):=by rw [Cj _ q om,List.foldl_append,←a6];rfl
     have ak:=lowT_rng (gone:=(List.set tr.gone (b).toNat (true))) (p:=(e_ (e_ Z b).xs (q:Int))) (by have:=a7 om;omega) a5
     have bk:=lowT_len (List.set tr.gone (b).toNat (true)) ad (e_ (e_ Z b).xs (q:Int))
     exact B3 ((q+1),(List.set (List.set ad ((e_ ((e_ Z b).xs) (q:Int)).u).toNat ((e_ ad<|(e_ ((e_ Z b).xs) (q:Int)).u) - 1)) ((e_ ((e_ Z b).xs) (q:Int)).v).toNat ((e_ (List.set ad ((e_ ((e_ Z b).xs) (q:Int)).u).toNat ((e_ ad<|(e_ ((e_ Z b).xs) (q:Int)).u) - 1))<|(e_ ((e_ Z b).xs) (q:Int)).v) - 1))) (by dsimp only;exact ⟨om,(by rw [ay];first|exact (low_yes (by simpa using aq)<|by simpa using ae).symm|exact (low_no<|by first|(left;simpa using aq)|(right;simpa using ae)).symm),(by first|exact ax|(simp only [List.length_set];exact ax)),(by first|(rw [low_yes (by simpa using aq) (by simpa using ae)] at ak;exact λx hx=>by have:=ak x hx;push_cast;omega)|(rw [low_no (by first|(left;simpa using aq)|(right;simpa using ae))] at ak;exact λx hx=>by have:=ak x hx;push_cast;omega))⟩) (hL:=(Aa C<|Aa C<|Aa C<|Aa C<|Aa C<|Aa C<|Aa C<|Aa C<|Aa C<|Aa C<|Aa C<|Aa (En C<|by first|omega|rfl|((try dsimp only);first|exact best_yes (by simpa using aa) (by first|exact .inl M|exact .inr ab)|exact (best_yes (by simpa using aa)<|by first|exact .inl M|exact .inr ab).symm|exact best_no (by first|(left;simpa using aa)|exact .inr ⟨M,ab⟩)|exact (best_no<|by first|(left;simpa using aa)|exact .inr ⟨M,ab⟩).symm)) Bi))
    refine Av<|Aj<|Ah<|Ao (S12 2 3 4 5 6 9 10 38 39 87 88 89 C C C C C C C C C C C C)<|Ar<|Gr (Rad C C)<|Gm C<|Bj ?_
    have ay:((e_ Z b).xs.take (q+1)).foldl (lowT<|List.set tr.gone (b).toNat (true)) tr.sup=lowT (List.set tr.gone (b).toNat (true)) ad (e_ (e_ Z b).xs (q:Int)):=by rw [Cj _ q om,List.foldl_append,←a6];rfl
    have ak:=lowT_rng (gone:=(List.set tr.gone (b).toNat (true))) (p:=(e_ (e_ Z b).xs (q:Int))) (by have:=a7 om;omega) a5
    have bk:=lowT_len (List.set tr.gone (b).toNat (true)) ad (e_ (e_ Z b).xs (q:Int))
    exact B3 ((q+1),(ad)) (by dsimp only;exact ⟨om,(by rw [ay];first|exact (low_yes (by simpa using aq)<|by simpa using ae).symm|exact (low_no<|by first|(left;simpa using aq)|(right;simpa using ae)).symm),(by first|exact ax|(simp only [List.length_set];exact ax)),(by first|(rw [low_yes (by simpa using aq) (by simpa using ae)] at ak;exact λx hx=>by have:=ak x hx;push_cast;omega)|(rw [low_no (by first|(left;simpa using aq)|(right;simpa using ae))] at ak;exact λx hx=>by have:=ak x hx;push_cast;omega))⟩) (hL:=(Aa C<|Aa C<|Aa C<|Aa C<|Aa C<|Aa C<|Aa C<|Aa C<|Aa C<|Aa C<|Aa C<|Aa (En C<|by first|omega|rfl|((try dsimp only);first|exact best_yes (by simpa using aa) (by first|exact .inl M|exact .inr ab)|exact (best_yes (by simpa using aa)<|by first|exact .inl M|exact .inr ab).symm|exact best_no (by first|(left;simpa using aa)|exact .inr ⟨M,ab⟩)|exact (best_no<|by first|(left;simpa using aa)|exact .inr ⟨M,ab⟩).symm)) Bi))
   refine eb<|eb<|eb<|eb<|eb<|eb<|Gr (A6 C C)<|Ac<|Ao (S14 106 14 2 3 4 5 6 9 10 38 39 87 88 89 C C C C C C C C C C C C C C)<|Dp C<|Av<|Aj<|Ah<|Ao (S12 2 3 4 5 6 9 10 38 39 87 88 89 C C C C C C C C C C C C)<|Ar<|Gr (Rad C C)<|Gm C<|Bj ?_
   have ay:((e_ Z b).xs.take (q+1)).foldl (lowT<|List.set tr.gone (b).toNat (true)) tr.sup=lowT (List.set tr.gone (b).toNat (true)) ad (e_ (e_ Z b).xs (q:Int)):=by rw [Cj _ q om,List.foldl_append,←a6];rfl
   have ak:=lowT_rng (gone:=(List.set tr.gone (b).toNat (true))) (p:=(e_ (e_ Z b).xs (q:Int))) (by have:=a7 om;omega) a5
   have bk:=lowT_len (List.set tr.gone (b).toNat (true)) ad (e_ (e_ Z b).xs (q:Int))
   exact B3 ((q+1),(ad)) (by dsimp only;exact ⟨om,(by rw [ay];first|exact (low_yes (by simpa using aq)<|by simpa using ae).symm|exact (low_no<|by first|(left;simpa using aq)|(right;simpa using ae)).symm),(by first|exact ax|(simp only [List.length_set];exact ax)),(by first|(rw [low_yes (by simpa using aq) (by simpa using ae)] at ak;exact λx hx=>by have:=ak x hx;push_cast;omega)|(rw [low_no (by first|(left;simpa using aq)|(right;simpa using ae))] at ak;exact λx hx=>by have:=ak x hx;push_cast;omega))⟩) (hL:=(Aa C<|Aa C<|Aa C<|Aa C<|Aa C<|Aa C<|Aa C<|Aa C<|Aa C<|Aa C<|Aa C<|Aa (En C<|by first|omega|rfl|((try dsimp only);first|exact best_yes (by simpa using aa) (by first|exact .inl M|exact .inr ab)|exact (best_yes (by simpa using aa)<|by first|exact .inl M|exact .inr ab).symm|exact best_no (by first|(left;simpa using aa)|exact .inr ⟨M,ab⟩)|exact (best_no<|by first|(left;simpa using aa)|exact .inr ⟨M,ab⟩).symm)) Bi))
  refine Bs<|Al<|Al<|A2<|Aj<|Ah<|Ar<|Gr (Rad C C)<|Gm C<|Bj ?_
  have ba:(TrS.mk ad (List.set tr.gone (b).toNat (true)) (List.set tr.num (b).toNat (max tr.k<|e_ tr.sup b)) (tr.ord++[b])<|max tr.k<|e_ tr.sup b)=stepTr (trisE nd es) tr:=by unfold stepTr;rw [bh,a6,List.take_of_length_le om,rows_atG a1 a4.1 om]
  exact B3 ((j+1),((TrS.mk ad (List.set tr.gone (b).toNat (true)) (List.set tr.num (b).toNat (max tr.k<|e_ tr.sup b)) (tr.ord++[b])<|max tr.k<|e_ tr.sup b)),(az),(a0)) (by dsimp only;exact ⟨om,(by rw [ba,bc];rfl),(by rw [ba];exact au.step a3 om)⟩) (hL:=(Aa (Cx C<|by first|rfl|simp)<|Aa C<|Aa C<|Aa C<|Aa C<|Aa C<|Aa (En C<|by first|omega|rfl|((try dsimp only);first|exact best_yes (by simpa using aa) (by first|exact .inl M|exact .inr ab)|exact (best_yes (by simpa using aa)<|by first|exact .inl M|exact .inr ab).symm|exact best_no (by first|(left;simpa using aa)|exact .inr ⟨M,ab⟩)|exact (best_no<|by first|(left;simpa using aa)|exact .inr ⟨M,ab⟩).symm))<|Aa C<|Aa (En C<|by first|omega|rfl|((try dsimp only);first|exact best_yes (by simpa using aa) (by first|exact .inl M|exact .inr ab)|exact (best_yes (by simpa using aa)<|by first|exact .inl M|exact .inr ab).symm|exact best_no (by first|(left;simpa using aa)|exact .inr ⟨M,ab⟩)|exact (best_no<|by first|(left;simpa using aa)|exact .inr ⟨M,ab⟩).symm)) Bi))
 refine Bs<|Al<|Al<|A2<|Ah<|Af<|Gm C<|Gm C<|Ga C<|Ga C<|Ac<|Ao (S2 3 2 C C)<|Az ?_
 have bu:j=(trisE nd es).length:=by omega
 subst bu
 subst bc
 have bf:=au.nlen
 exact C7 C C C (vc 3 (.slice ao (trussO<|trisE nd es).length co) (trussO<|trisE nd es)::vc 3 (.slice ar (trussN<|trisE nd es).length ah) (trussN<|trisE nd es)::I) (by show Fit κ _ (vc 3 _ _::vc 3 (.slice _ (runTr (trisE nd es) (trisE nd es).length).num.length _) (runTr (trisE nd es) (trisE nd es).length).num::I);rw [bf];simp only [List.length_replicate,a8];exact Bl) ⟨ao,co,ar,ah,by show _=Value.tuple #[_,.slice _ (runTr (trisE nd es) (trisE nd es).length).num.length _];rw [bf];simp only [List.length_replicate,a8];rfl,rfl⟩
def trussG(nd:Int)(es:List Pt):List Int:=if checkG nd es≠0 then [] else trussN (trisE nd es)
theorem trussG_bd{nd:Int}{es:List Pt}(M:GrOk nd es)(h1:1<=nd):∀x∈trussG nd es,0<=x/\x<=nd - 1:=λx Z=>by
 unfold trussG at Z
 rw [if_neg (λh=>h<|checkG_ok.2 M)] at Z
 have:=(trussN_bound<|tris_ok M).2 x Z
 omega
theorem TNumbers_ok{κ:Ctx}{I:List Item}{nd:Int}{es:List Pt}(hl:Sl κ I va es)(hb:es.length<=1000000)(hT:TabRd κ I 0 tzCells):eu prog κ 85 [.agg #[e7 nd,va]] I (λr J=>∃a c,r = .tuple #[.slice a (trussG nd es).length c,e7 (checkG nd es)]/\J=vk 3 a c (trussG nd es)::I):=by
 refine Ce1 Tryz.func85 C C ?_
 refine Af<|Ge1 (Bg (cs:=[_,_]) C C C) λb1=>Ga C<|Ga C<|Ac<|Aq<|Af<|Gl2 ty38 ?_
 refine Gc0 (Ak c_ C C<|CheckGen_ok<|A8 hl) ?_
 refine Ga C<|Ac<|Af<|Gm C<|Gr (Bo C C)<|Ac<|A5 C (λc10=>?_)<|λc10=>?_
 ·refine Af (Gm C<|Ga C<|Ga C<|Ac<|Az<|Ap ?_)
  have Z:(trussG nd es)=[]:=if_pos c10
  exact C7 C C C (vk 3 none 0 (trussG nd es)::I) (by rw [Z];exact Cq (show Fit κ _ I from Ay)<|Cb (α:=Int) _ _) ⟨none,0,by rw [Z];rfl,rfl⟩
 refine Av<|Ah<|Af<|Gl2 ty38 ?_
 refine G.e (Ak c_ C C<|TPeel_ok (nd:=nd) (A8 hl) (checkG_ok.1<|Classical.not_not.1 c10) om<|Bm hT Ay) ?_
 rintro _ _ ⟨_,_,⟨ab,ad,M,aa,rfl,rfl⟩,rfl,rfl⟩
 refine Gm C<|Gr (Am C C)<|Gr (Am C C)<|Ga C<|Ga C<|Ac<|Ao (S1 6 C)<|Af<|Gm C<|Ga C<|Ga C<|Ac<|Az ?_
 have Z:(trussG nd es)=_:=if_neg c10
 have hz:checkG nd es=0:=Classical.not_not.1 c10
 exact C7 C C C (vk 3 M aa (trussG nd es)::I) (by rw [Z];exact Bc) ⟨M,aa,by rw [Z,hz]<;>rfl,rfl⟩
variable {κ:Ctx}{I:List Item}
theorem nbL_len(es:List Pt)(v:Int):(nbL es v).length<=2*es.length:=by
 induction es with
 |nil=>simp [nbL]
 |cons e es ih=>
  have e1:nbL (e::es) v=((if e.u=v then [e.v] else [])++(if e.v=v then [e.u] else []))++nbL es v:=rfl
  rw [e1,List.length_append,List.length_append,List.length_cons]
  have Z:(if e.u=v then [e.v] else ([]:List Int)).length<=1:=by split<;>simp
  have M:(if e.v=v then [e.u] else ([]:List Int)).length<=1:=by split<;>simp
  omega
theorem Neigh03_ok{nd:Int}{es:List Pt}(hl:Sl κ I va es)(v:Int)(hb:es.length<=1000000):eu prog κ 101 [.agg #[e7 nd,va],e7 v] I (λr J=>∃a c,r = .slice a (nbG nd es v).length c/\J=vk 3 a c (nbG nd es v)::I):=by
 refine B8 hl.le λap=>?_
 refine Ce2 Tryz.func101 C C ?_
 refine Af<|Ge1 (Bg (cs:=[_,_]) C C C) λb1=>Ga C<|Ac<|Aq<|Af<|Gl2 ty38 ?_
 refine G.e (Ak c_ C C<|Check03G_ok (nd:=nd)<|A8 hl) ?_
 rintro _ _ ⟨_,_,⟨rfl,rfl⟩,rfl,rfl⟩
 refine Gr (Bo C C)<|Ac<|A5 C (λc10=>?_)<|λc10=>?_
 ·refine Af (Ga C<|Ac<|Az<|Ap ?_)
  have hX:(nbG nd es v)=[]:=if_pos c10
  exact A1 C C (vk 3 none 0 (nbG nd es v)::I) (by rw [hX];exact Cq (show Fit κ _ I from Ay)<|Cb (α:=Int) _ _) ⟨none,0,by rw [hX];rfl,rfl⟩
 refine Av<|Ah<|Af<|Ga C<|Ac<|Aq<|Af<|Gf fld38_1 C<|Gl ty36 ?_
 refine Gr (B9 (α:=Pt) (xs:=es) Au C<|A8 hl)<|Gm C<|Ac<|Aw<|Bu (σ:=Nat×(Option Addr)×Nat×(List Int)) (λs=>([(1,e7 v),(5,.slice s.2.1 s.2.2.2.length s.2.2.1),(12,va),(13,e7 ((es.length:Nat):Int)),(14,e7 ((s.1:Nat):Int))]:Env)) (λs=>vk 3 s.2.1 s.2.2.1 s.2.2.2::e8 b1 [e7 nd,va] 38::I) (λs=>(s.1<=es.length)/\(s.2.2.2=nbL (es.take s.1) v)) (λs=>es.length - s.1) (0,none,0,[]) (show ((0:Nat)<=es.length)/\(([]:List Int)=nbL (es.take (0:Nat)) v) from ⟨om,rfl⟩) (Aa C<|Aa (Cx C<|by first|rfl|simp)<|Aa C<|Aa C<|Aa B2 Bi) (show Fit κ _ (vk 3 none 0 ([])::e8 b1 [e7 nd,va] 38::I) from (Cb _ _)) ?_
 rintro ⟨k,a,c,out⟩ hp
 dsimp only at hp ⊢
 obtain ⟨hk,ho⟩:=hp
 have aq:out.length<=2*es.length:=by rw [ho];refine Nat.le_trans (nbL_len _ _) ?_;simp only [List.length_take];omega
 refine Af<|Gr (A4 C C)<|Ac<|Aq<|A5 C (λaj=>?_)<|λaj=>?_
 ·refine Av (Ah<|Aq<|Aw<|Af<|Gr (Ax (α:=Pt) (xs:=es) Au ty105 C C (A8 hl) om om)<|Gr (Bx (α:=Pt) (xs:=es) ty105 C (A8 hl) om om)<|Ge1 (A3 ty105 C) λb2=>Ge0 (Cz ty105) ?_)
  refine Ac<|Aq<|Af<|Gf fld105_0 C<|Gl ef ?_
  refine Gm C<|Gr (Bw C C)<|Ac<|A5 C (λM=>?_)<|λM=>?_
  ·refine Ar (Gm C<|Gf fld105_1 C<|Gl ef ?_)
   refine Ge1 (Cf (α:=Int) (cs:=[_]) (xs:=[(e_ es k).v]) Ab ef C C dc dc C C C C) λar=>?_
   refine Ge2 (Cg (α:=Int) (e:=3) (xs:=out) (ys:=([(e_ es k).v]:List Int)) Ab ef C C C mm Bf lap dc C<|λ_ _=>am) λai ak=>?_
   refine Ga C<|Ac<|Ao (S6 5 7 1 12 13 14 C C C C C C)<|Af<|Gf fld105_1 C<|Gl ef ?_
   refine Gm C<|Gr (Bw C C)<|Ac<|A5 C (λZ=>?_)<|λZ=>?_
   ·refine Ar (Gm C<|Gf fld105_0 C<|Gl ef ?_)
    refine Ge1 (Cf (α:=Int) (cs:=[_]) (xs:=[(e_ es k).u]) Ab ef C C dc dc C C C C) λav=>?_
    refine Ge2 (Cg (α:=Int) (e:=3) (xs:=out++([(e_ es k).v]:List Int)) (ys:=([(e_ es k).u]:List Int)) Ab ef C C C mm Bf lap dc C<|λ_ _=>am) λan ah=>?_
    exact Ga C<|Bj<|Aj<|Ah<|Ao (S5 5 1 12 13 14 C C C C C)<|Ar<|Gr (Rad C C)<|Gm C<|Bj<|B3 ((k+1),(an),(ah),((out++([(e_ es k).v]:List Int))++([(e_ es k).u]:List Int)))<|by dsimp only;exact ⟨om,(by rw [nbL_take om,←ho];(first|rw [if_pos M,if_pos Z]|rw [if_pos M,if_neg Z]|rw [if_neg M,if_pos Z]|rw [if_neg M,if_neg Z])<;>simp)⟩
   exact Av<|Aj<|Ah<|Ar<|Gr (Rad C C)<|Gm C<|Bj<|B3 ((k+1),(ai),(ak),(out++([(e_ es k).v]:List Int)))<|by dsimp only;exact ⟨om,(by rw [nbL_take om,←ho];(first|rw [if_pos M,if_pos Z]|rw [if_pos M,if_neg Z]|rw [if_neg M,if_pos Z]|rw [if_neg M,if_neg Z])<;>simp)⟩
  refine Av<|Ah<|Af<|Gf fld105_1 C<|Gl ef ?_
  refine Gm C<|Gr (Bw C C)<|Ac<|Ao (S7 30 7 1 5 12 13 14 C C C C C C C)<|A5 C (λZ=>?_)<|λZ=>?_
  ·refine Ar (Gm C<|Gf fld105_0 C<|Gl ef ?_)
   refine Ge1 (Cf (α:=Int) (cs:=[_]) (xs:=[(e_ es k).u]) Ab ef C C dc dc C C C C) λau=>?_
   refine Ge2 (Cg (α:=Int) (e:=3) (xs:=out) (ys:=([(e_ es k).u]:List Int)) Ab ef C C C mm Bf lap dc C<|λ_ _=>am) λae ad=>?_
   exact Ga C<|Bj<|Aj<|Ah<|Ar<|Gr (Rad C C)<|Gm C<|Bj<|B3 ((k+1),(ae),(ad),(out++([(e_ es k).u]:List Int)))<|by dsimp only;exact ⟨om,(by rw [nbL_take om,←ho];(first|rw [if_pos M,if_pos Z]|rw [if_pos M,if_neg Z]|rw [if_neg M,if_pos Z]|rw [if_neg M,if_neg Z])<;>simp)⟩
  exact Av<|Aj<|Ah<|Ar<|Gr (Rad C C)<|Gm C<|Bj<|B3 ((k+1),(a),(c),(out))<|by dsimp only;exact ⟨om,(by rw [nbL_take om,←ho];(first|rw [if_pos M,if_pos Z]|rw [if_pos M,if_neg Z]|rw [if_neg M,if_pos Z]|rw [if_neg M,if_neg Z])<;>simp)⟩
 refine Bs<|Al<|Al<|A2<|Ah<|Af<|Gm C<|Gc2 (Ak c_ C C<|Of_ok Bf om) λaa ab=>?_
 refine Ga C<|Ac<|Az ?_
 have ao:out=nbL es v:=by rw [ho,List.take_of_length_le om]
 subst ao
 have hX:nbG nd es v=ofL (nbL es v):=if_neg c10
 exact A1 C C (vk 3 aa ab (nbG nd es v)::I) (by rw [hX];exact Bc) ⟨aa,ab,by rw [hX],rfl⟩
theorem Common03_ok{nd:Int}{es:List Pt}(hl:Sl κ I va es)(u v:Int)(hb:es.length<=1000000):eu prog κ 105 [.agg #[e7 nd,va],e7 u,e7 v] I (λr J=>∃a c,r = .slice a (commonG nd es u v).length c/\J=vk 3 a c (commonG nd es u v)::I):=by
 refine Ce3 Tryz.func105 C C ?_
 refine Af<|Ge1 (Bg (cs:=[_,_]) C C C) λb1=>Ga C<|Ac<|Aq<|Af<|Gm C<|Gm C<|Gr (Bw C C)<|Ac<|A5 C (λc9=>?_)<|λc9=>?_
 ·refine Af (Ga C<|Ac<|Az<|Ap ?_)
  have Z:(commonG nd es u v)=[]:=if_pos c9
  exact A1 C C (vk 3 none 0 (commonG nd es u v)::I) (by rw [Z];exact Cq (show Fit κ _ I from Ay)<|Cb (α:=Int) _ _) ⟨none,0,by rw [Z];rfl,rfl⟩
 refine Av<|Ah<|Aq<|Bq mixed<|Ca (e8 b1 [e7 nd,va] 38::I) 8<|Dr 0 C (Be (vs:=[_,_]) ty38) ?_
 refine Dr 1 C (Ai C)<|Dr 3 C (Be (vs:=[_,_]) ty38) ?_
 refine Dr 4 C (Ai C)<|Ds1 2<|Se C (Ak c_ C C<|Neigh03_ok (nd:=nd) (A8 hl) u om) ?_
 rintro _ _ ⟨_,_,⟨ah,ai,rfl,rfl⟩,rfl,rfl⟩
 refine ⟨Bc,?_⟩
 have ad:=nbG_len nd es u
 refine Ds1 5<|Se C (Ak c_ C C<|Neigh03_ok (nd:=nd) (A8 hl) v om) ?_
 rintro _ _ ⟨_,_,⟨ae,aj,rfl,rfl⟩,rfl,rfl⟩
 refine ⟨Bc,?_⟩
 have ab:=nbG_len nd es v
 refine Ds1 6<|Se C (Ak c_ C C<|Meet_ok Bf Bf<|by have:=nbG_len nd es u;omega) ?_
 rintro _ _ ⟨_,_,⟨M,aa,rfl,rfl⟩,rfl,rfl⟩
 refine ⟨Bc,?_⟩
 refine Dr 7 C (Bd C)<|Dz<|Ah<|Ao (S1 6 C)<|Az ?_
 have Z:(commonG nd es u v)=_:=if_neg c9
 exact A1 C C (vk 3 M aa (commonG nd es u v)::I) (by rw [Z];exact Bc) ⟨M,aa,by rw [Z],rfl⟩
theorem FindP03_ok{nd:Int}{es:List Pt}(M:Sl κ I va es)(u v:Int):eu prog κ 106 [.agg #[e7 nd,va],e7 u,e7 v] I (λr J=>∃y:Int,r=e7 y/\FindP nd es u v y/\I=J):=by
 refine B8 M.le λab=>?_
 refine Ce3 Tryz.func106 C C ?_
 refine Af<|Ge1 (Bg (cs:=[_,_]) C C C) λb1=>Ga C<|Ac<|Aq<|Af<|Gl2 ty38 ?_
 refine G.e (Ak c_ C C<|Check03G_ok (nd:=nd)<|A8 M) ?_
 rintro _ _ ⟨_,_,⟨rfl,rfl⟩,rfl,rfl⟩
 refine Gr (Bo C C)<|Ac<|A5 C (λc11=>?_)<|λc11=>?_
 ·exact Af<|Ga C<|Ac<|Az<|Ap<|A1 C C I Ay ⟨_,rfl,.inr ⟨rfl,.inl c11⟩,rfl⟩
 refine Av<|Ah<|Aq<|Af<|Gf fld38_1 C<|Gl ty36 ?_
 refine Gr (B9 (α:=Pt) (xs:=es) Au C<|A8 M)<|Gm C<|Ac<|Aw<|Bu (σ:=Nat) (λs=>([(1,e7 u),(2,e7 v),(13,va),(14,e7 ((es.length:Nat):Int)),(15,e7 ((s:Nat):Int))]:Env)) (λs=>e8 b1 [e7 nd,va] 38::I) (λs=>(s<=es.length)/\(∀j,j<s->e_ es j≠edgeP u v)) (λs=>es.length - s) 0 (show ((0:Nat)<=es.length)/\(∀j,j<(0:Nat)->e_ es j≠edgeP u v) from ⟨om,all_zero⟩) (Aa C<|Aa C<|Aa C<|Aa C<|Aa B2 Bi) (show Fit κ _ (e8 b1 [e7 nd,va] 38::I) from Bc) ?_
 rintro k hp
 obtain ⟨hk,hn⟩:=hp
 refine Af<|Gr (A4 C C)<|Ac<|Aq<|A5 C (λaa=>?_)<|λaa=>?_
 ·refine Av (Ah<|Aq<|Aw<|Af<|Gm C<|Gr (Ax (α:=Pt) (xs:=es) Au ty105 C C (A8 M) om om)<|Gr (Bx (α:=Pt) (xs:=es) ty105 C (A8 M) om om)<|Ge1 (A3 ty105 C) λb2=>Ga C<|Ge0 (Cz ty105) ?_)
  refine Ac<|Aq<|Bq mixed<|Ca (e8 b2 [e7 ((e_ es k).u),e7<|(e_ es k).v] 105::e8 b1 [e7 nd,va] 38::I) 5<|Dr 0 C (Be (vs:=[_,_]) ty105) ?_
  refine Dr 1 C (Ai C)<|Dr 2 C (Ai C)<|Ds1 3<|Sc0 C (Ak c_ C C<|Edge03_ok u v) ?_
  refine Dr 4 C (Runs.eqlT (α:=Pt) (a:=(e_ es k)) (b:=(edgeP u v)) eqt105 C C)<|Dz<|Ah<|Ao (S7 24 7 1 2 13 14 15 C C C C C C C)<|A5 C (λZ=>?_)<|λZ=>?_
  ·exact Af<|Gm C<|Ga C<|Ac<|Az<|A7<|Ap<|Ap<|A7<|Ap<|A1 C C I Ay ⟨_,rfl,.inl ⟨Classical.not_not.1 c11,k,rfl,by omega,Z⟩,rfl⟩
  exact Av<|Aj<|Ah<|Ar<|Gr (Rad C C)<|Gm C<|Bj<|B3 ((k+1)) ⟨om,(all_succ hn Z)⟩
 refine Bs<|Al<|Al<|A2<|Ah<|Af<|Ga C<|Ac<|Az ?_
 have hm:edgeP u v∉es:=not_mem_at hn om
 exact A1 C C I Ay ⟨_,rfl,.inr ⟨rfl,.inr hm⟩,rfl⟩
end Go.Sl
namespace Go.Sl
end Go.Sl
