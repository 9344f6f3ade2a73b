/- A part of the proofs of statements of this seat: contracts of functions, and the plain laws that they lean on. No conditions. -/
import Derived.Test.YtoagcglbkeomgaaGreatDoorS12
set_option linter.unusedVariables false
set_option linter.unusedSimpArgs false
set_option linter.unusedSectionVars false
open Go.Proofs.Tryz (prog)
open List (replicate)
set_option maxHeartbeats 2000000
namespace Go.Sl
open Go.Proofs
set_option maxRecDepth 4000
variable{i:Int}{va:Value}{sup:List Int}{gone:List Bool}
variable {κ:Ctx}{I:List Item}
def triE(nd:Int)(es:List Pt)(e:Pt):List Pt:=(commonG nd es e.u e.v).map λw=>(⟨((es.idxOf (edgeP e.u w):Nat):Int),((es.idxOf (edgeP e.v w):Nat):Int)⟩:Pt)
def trisE(nd:Int)(es:List Pt):List (List Pt):=es.map (triE nd es)
theorem ck105:KeyT prog 105 Pt:=λx e w=>by
 cases x;kernel_rfl
theorem common_mem{nd:Int}{es:List Pt}(hG:GrOk nd es){e:Pt}(he:e∈es){w:Int}(hw:w∈commonG nd es e.u e.v):edgeP e.u w∈es/\edgeP e.v w∈es:=by
 have Z:=hG.edge e he
 have hr:=hG.rows
 have ab:e.u≠e.v:=by omega
 have hc:¬checkG nd es≠0:=λh=>h (checkG_ok.2 hG)
 have M:∀u:Int,0<=u->u<nd->rowG nd es u=e_ (ek nd es) u:=λu h0 h1=>by
  have ad:=hG.rows.len
  unfold rowG
  rw [if_neg (by rintro (h|h|h);(· omega);(· omega);(· exact hc h))]
 rw [←common_eq ab,mem_andB,M _ Z.1 om,M _ om Z.2.2,hr.mem Z.1 om,hr.mem om Z.2.2] at hw
 have aa:∀a b:Int,((⟨a,b⟩:Pt)∈es\/(⟨b,a⟩:Pt)∈es)->edgeP a b∈es:=λa b h=>by
  unfold edgeP
  rcases h with h|h
  ·have:=hG.edge _ h
   simp only at this
   rw [if_neg om,if_pos om];exact h
  have:=hG.edge _ h
  simp only at this
  rw [if_pos om,if_neg om];exact h
 exact ⟨aa _ _ hw.1.2,aa _ _ hw.2.2⟩
theorem common_len{nd:Int}{es:List Pt}(hG:GrOk nd es){e:Pt}(he:e∈es):(commonG nd es e.u e.v).length<=nd.toNat - 1:=by
 have M:=hG.edge e he
 have aa:e.u≠e.v:=by omega
 have hc:¬checkG nd es≠0:=λh=>h (checkG_ok.2 hG)
 have Z:∀u:Int,0<=u->u<nd->rowG nd es u=e_ (ek nd es) u:=λu h0 h1=>by
  have ab:=hG.rows.len
  unfold rowG
  rw [if_neg (by rintro (h|h|h);(· omega);(· omega);(· exact hc h))]
 rw [←common_eq aa,Z _ M.1 om,Z _ om M.2.2]
 have hS:=rows_sym hG
 have hl:=hG.rows.len
 have:=degB_lt hS (e_ (ek nd es) e.v) M.1 om
 unfold degB at this
 omega
theorem tris_ok{nd:Int}{es:List Pt}(hG:GrOk nd es):TriOk (nd.toNat - 1) (trisE nd es):=by
 refine ⟨λl Z=>?_,λl Z p hp=>?_⟩
 ·obtain ⟨e,M,rfl⟩:=List.mem_map.1 Z
  unfold triE;rw [List.length_map];exact common_len hG M
 obtain ⟨e,M,rfl⟩:=List.mem_map.1 Z
 obtain ⟨w,hw,rfl⟩:=List.mem_map.1 hp
 obtain ⟨h1,h2⟩:=common_mem hG M hw
 have a:=List.idxOf_lt_length_of_mem h1
 have b:=List.idxOf_lt_length_of_mem h2
 have Z:(trisE nd es).length=es.length:=List.length_map ..
 simp only
 omega
def rgI(rs:List (RowG Pt)):List Item:=rs.map λr=>vk 200 r.a r.c r.xs
theorem At.rg{I:List Item}{ad:Option Addr}{c:Nat}{xs:List Pt}:∀{rs:List (RowG Pt)} {i:Int},0<=i->i<rs.length->
  At (rgI rs++I) (vc 200 (.slice (e_ rs i).a (e_ rs i).xs.length (e_ rs i).c) (e_ rs i).xs) (vc 200 (.slice ad xs.length c) xs) (rgI (List.set rs i.toNat ⟨ad,c,xs⟩)++I):=fun {rs} {i} Z h=>by
 obtain ⟨k,rfl⟩:∃k:Nat,i=(k:Int):=⟨i.toNat,by omega⟩
 rw [Int.toNat_natCast]
 clear Z
 induction rs generalizing k with
 |nil=>simp at h;omega
 |cons r rs ih=>
  cases k with
  |zero=>exact At.head _ _ _
  |succ k=>exact At.tail _ (ih k<|by simp at h;omega)
theorem rgI_mem{I:List Item}{rs:List (RowG Pt)}(Z:0<=i)(h:i<rs.length):vk 200 (e_ rs i).a (e_ rs i).c (e_ rs i).xs∈rgI rs++I:=(At.rg (ad:=none) (c:=0) (xs:=[]) Z h).mem
theorem Fit.nilrg:∀(rs:List (RowG Pt)),(∀r∈rs,r=default)->Fit κ I (rgI rs++I)
 |[],_=>Dn _
 |r::rs,h=>by
  refine Co (Fit.nilrg rs λx Z=>h x<|List.mem_cons_of_mem _ Z) ?_
  show Fit κ _ (vk 200 r.a r.c r.xs::_)
  rw [h r List.mem_cons_self]
  exact Cf _ _
theorem rows_tri{nd:Int}{es:List Pt}{rs:List (RowG Pt)}(M:rs.length=es.length)(h:∀i:Nat,i<es.length->(e_ rs i).xs=triE nd es (e_ es i)):rs.map RowG.xs=trisE nd es:=by
 show rs.map RowG.xs=es.map (triE nd es)
 refine List.ext_getElem (by rw [List.length_map,List.length_map];exact M) λi Z h2=>?_
 rw [List.length_map] at Z
 have:=h i om
 rw [C7 _ _ Z,C7 _ _ om] at this
 rw [List.getElem_map,List.getElem_map];exact this
theorem not_take{es:List Pt}(h:es.Nodup){k:Nat}(Z:k<es.length):e_ es k∉es.take k:=by
 rw [C7 es k Z]
 intro M
 obtain ⟨i,hi,e⟩:=List.mem_iff_getElem.1 M
 rw [List.length_take] at hi
 rw [List.getElem_take] at e
 exact (List.pairwise_iff_getElem.1 h) i k om Z om e
theorem Triangles_ok{nd:Int}{es:List Pt}(hl:Sl κ I va es)(hG:GrOk nd es)(hb:es.length<=1000000)(hT:TabRd κ I 0 tzCells):eu prog κ 160 [.agg #[e7 nd,va]] I (λr J=>∃a c rs,r = .slice a (rs.length) c/\rs.map RowG.xs=trisE nd es/\J=vk 198 a c rs::(rgI rs++I)):=by
 refine B5 hl.le λa4=>?_
 have a1:=hG.rng
 refine Ce1 Tryz.func160 C C ?_
 refine Ad<|Ge1 (Bd (cs:=[_,_]) C C C) λb1=>Ga C<|Ac<|Ad<|Ge1 (Eff.makeMapE (α:=Pt) C) λab=>?_
 refine Ga C<|Ac<|Ar<|Ad<|Gf fld38_1 C<|Gl ty36 ?_
 refine Gr (Bw (α:=Pt) (xs:=es) A6 C<|A8 hl)<|Gm C<|Ac<|A5<|B1 (σ:=Nat) (λs=>([(1,pt b1),(3,.map<|some ab),(15,va),(16,e7 ((es.length:Nat):Int)),(17,e7 ((s:Nat):Int))]:Env)) (λs=>mpE (α:=Pt) ab (es.take s)::e8 b1 [e7 nd,va] 38::I) (λs=>(s<=es.length)) (λs=>es.length - s) 0 (show ((0:Nat)<=es.length) from om) (cx4<|Aa Cd Bp) (show Fit κ _ (mpE (α:=Pt) ab (es.take 0)::e8 b1 [e7 nd,va] 38::I) from Bg) ?_
 rintro k hp
 have hk:=hp
 refine Ad<|Gr (A9 C C)<|Ac<|Ar<|A7 C (λav=>?_)<|λav=>?_
 ·refine Aw (Ah<|Ar<|A5<|Ad<|Gm C<|Gr (A3 (α:=Pt) (xs:=es) A6 ty105 C C (A8 hl) om om)<|Gr (Bv (α:=Pt) (xs:=es) ty105 C (A8 hl) om om)<|Ge1 (A4 ty105 C) λb3=>Ga C<|Ge0 (Cz ty105) ?_)
  refine Ac<|Ay<|Gm C<|Gl2 ty105 ?_
  refine Gm C<|Ge0 (Eff.updateE (α:=Pt) (k:=(e_ es k)) Tryz.underlying230 Ds eqt105 ck105 C C C (by rw [List.length_take,Nat.min_eq_left om]) (not_take (Fe hG.asc) om) am) ?_
  exact Bj<|Am<|Ah<|Ap (S5 1 3 15 16 17)<|Ay<|Gr (Rad C C)<|Gm C<|Bj<|Cb ((k+1)) om (hI:=by (try dsimp only);exact (by rw [Cj es k om];exact Bg))
 refine Bt<|Aq<|Aq<|Bb<|Ah<|Ad<|Gf fld38_1 C ?_
 have aw:es.take k=es:=List.take_of_length_le om
 rw [aw]
 refine Gl ty36 ?_
 refine Gr (Bw (α:=Pt) (xs:=es) A6 C<|A8 hl)<|Ge2 (E7 (α:=(RowG Pt)) (n:=es.length) Dh ty198 C C C om om dc C) λM aa=>?_
 refine Ga C<|Ac<|Ar<|Ad<|Gf fld38_1 C<|Gl ty36 ?_
 refine Gr (Bw (α:=Pt) (xs:=es) A6 C<|A8 hl)<|Gm C<|Ac<|Ap (S6 33 32 31 6 1 3)<|A5<|B1 (σ:=Nat×(List<|RowG Pt)) (λs=>([(1,pt b1),(3,.map<|some ab),(6,.slice M (replicate es.length (default:(RowG Pt))).length aa),(31,va),(32,e7 ((es.length:Nat):Int)),(33,e7 ((s.1:Nat):Int))]:Env)) (λs=>vc 198 (.slice M (replicate es.length (default:(RowG Pt))).length aa) (s.2)::mpE (α:=Pt) ab (es)::e8 b1 [e7 nd,va] 38::(rgI s.2++I)) (λs=>(s.1<=es.length)/\(s.2.length=es.length)/\(∀i:Nat,i<s.1->(e_ s.2 i).xs=triE nd es (e_ es i))/\(∀i:Nat,s.1<=i->i<es.length->(e_ s.2 i).xs=[])) (λs=>es.length - s.1) (0,replicate es.length (default:RowG Pt)) (show ((0:Nat)<=es.length)/\((replicate es.length (default:RowG Pt):List (RowG Pt)).length=es.length)/\(∀i:Nat,i<(0:Nat)->(e_ (replicate es.length (default:RowG Pt):List (RowG Pt)) (i:Int)).xs=triE nd es (e_ es i))/\(∀i:Nat,(0:Nat)<=i->i<es.length->(e_ (replicate es.length (default:RowG Pt):List (RowG Pt)) (i:Int)).xs=[]) from ⟨om,List.length_replicate,(λi h=>by omega),(λi h1 h2=>by rw [at_rep _ _ _ om om];rfl)⟩) (cx4<|Aa C<|Aa Cd Bp) (show Fit κ _ (vc 198 (.slice M (replicate es.length (default:(RowG Pt))).length aa) ((replicate es.length (default:RowG Pt)))::mpE (α:=Pt) ab (es)::e8 b1 [e7 nd,va] 38::(rgI (replicate es.length (default:RowG Pt))++I)) from (Co (Fit.nilrg (replicate es.length (default:RowG Pt))<|λr hr=>List.eq_of_mem_replicate hr) Bl)) ?_
 rintro ⟨k2,rs⟩ hp
 dsimp only at hp ⊢
 obtain ⟨a6,aj,au,ap⟩:=hp
 refine Ad<|Gr (A9 C C)<|Ac<|Ar<|A7 C (λay=>?_)<|λay=>?_
 ·refine Aw (Ah<|Ar<|A5<|Ad<|Gm C<|Gr (A3 (α:=Pt) (xs:=es) A6 ty105 C C (A8 hl) om om)<|Gr (Bv (α:=Pt) (xs:=es) ty105 C (A8 hl) om om)<|Ge1 (A4 ty105 C) λb6=>Ga C<|Ge0 (Cz ty105) ?_)
  refine Ac<|Ad<|Gl2 ty38 ?_
  refine Gf fld105_0 C<|Gl ef ?_
  refine Gf fld105_1 C<|Gl ef ?_
  refine Gc2 (Aj c_ C C<|CommonG_ok (nd:=nd) (A8 hl) ((e_ es k2).u) ((e_ es k2).v)<|Bn hT Ax) λai ah=>?_
  refine Gr (Bk Af C)<|Gm C<|Ac<|Ap (S11 45 44 43 7 8 1 3 6 31 32 33)<|A5<|B1 (σ:=Nat×(List<|RowG Pt)) (λs=>([(1,pt b1),(3,.map<|some ab),(6,.slice M (replicate es.length (default:(RowG Pt))).length aa),(7,e7 ((k2:Nat):Int)),(8,pt b6),(31,va),(32,e7 ((es.length:Nat):Int)),(33,e7 ((k2:Nat):Int)),(43,.slice ai (commonG nd es ((e_ es ((k2:Nat):Int)).u)<|(e_ es ((k2:Nat):Int)).v).length ah),(44,e7<|(((commonG nd es ((e_ es ((k2:Nat):Int)).u)<|(e_ es ((k2:Nat):Int)).v).length:Nat):Int)),(45,e7 ((s.1:Nat):Int))]:Env)) (λs=>vk 3 ai ah (commonG nd es ((e_ es ((k2:Nat):Int)).u)<|(e_ es ((k2:Nat):Int)).v)::e8 b6 [e7 ((e_ es ((k2:Nat):Int)).u),e7<|(e_ es ((k2:Nat):Int)).v] 105::vc 198 (.slice M (replicate es.length (default:(RowG Pt))).length aa) (s.2)::mpE (α:=Pt) ab (es)::e8 b1 [e7 nd,va] 38::(rgI s.2++I)) (λs=>(s.1<=(commonG nd es (e_ es ((k2:Nat):Int)).u (e_ es ((k2:Nat):Int)).v).length)/\(s.2.length=es.length)/\(∀i:Nat,i<k2->(e_ s.2 i).xs=triE nd es (e_ es i))/\(∀i:Nat,k2<i->i<es.length->(e_ s.2 i).xs=[])/\((e_ s.2 ((k2:Nat):Int)).xs=((commonG nd es (e_ es ((k2:Nat):Int)).u (e_ es ((k2:Nat):Int)).v).take s.1).map (λw=>(⟨((es.idxOf (edgeP (e_ es ((k2:Nat):Int)).u w):Nat):Int),((es.idxOf (edgeP (e_ es ((k2:Nat):Int)).v w):Nat):Int)⟩:Pt)))) (λs=>(commonG nd es (e_ es ((k2:Nat):Int)).u (e_ es ((k2:Nat):Int)).v).length - s.1) (0,rs) (show ((0:Nat)<=(commonG nd es (e_ es ((k2:Nat):Int)).u (e_ es ((k2:Nat):Int)).v).length)/\((rs:List (RowG Pt)).length=es.length)/\(∀i:Nat,i<k2->(e_ (rs:List (RowG Pt)) (i:Int)).xs=triE nd es (e_ es i))/\(∀i:Nat,k2<i->i<es.length->(e_ (rs:List (RowG Pt)) (i:Int)).xs=[])/\((e_ (rs:List (RowG Pt)) ((k2:Nat):Int)).xs=((commonG nd es (e_ es ((k2:Nat):Int)).u (e_ es ((k2:Nat):Int)).v).take (0:Nat)).map (λw=>(⟨((es.idxOf (edgeP (e_ es ((k2:Nat):Int)).u w):Nat):Int),((es.idxOf (edgeP (e_ es ((k2:Nat):Int)).v w):Nat):Int)⟩:Pt))) from ⟨om,aj,au,(λi h1 h2=>ap i om h2),(by rw [ap k2 (Nat.le_refl _) om];simp)⟩) (cx4<|cx4<|cx2<|Aa Cd Bp) (show Fit κ _ (vk 3 ai ah (commonG nd es ((e_ es ((k2:Nat):Int)).u)<|(e_ es ((k2:Nat):Int)).v)::e8 b6 [e7 ((e_ es ((k2:Nat):Int)).u),e7<|(e_ es ((k2:Nat):Int)).v] 105::vc 198 (.slice M (replicate es.length (default:(RowG Pt))).length aa) ((rs))::mpE (α:=Pt) ab (es)::e8 b1 [e7 nd,va] 38::(rgI (rs)++I)) from Bg) ?_
  rintro ⟨j,Z⟩ hp
  dsimp only at hp ⊢
  obtain ⟨hj,ak,ao,aq,an⟩:=hp
  have a5:=common_len hG (e:=(e_ es k2)) (B7 om om)
  have ax:j<(commonG nd es (e_ es k2).u (e_ es k2).v).length->edgeP (e_ es k2).u (e_ (commonG nd es (e_ es k2).u (e_ es k2).v) (j:Int))∈es/\edgeP (e_ es k2).v (e_ (commonG nd es (e_ es k2).u (e_ es k2).v) (j:Int))∈es:=λh=>common_mem hG (B7 om om) (B7 om om)
  have a3:((e_ Z k2).xs).length=j:=by rw [an,List.length_map,List.length_take];omega
  refine Ad<|Gr (A9 C C)<|Ac<|Ar<|A7 C (λa0=>?_)<|λa0=>?_
  ·refine Aw (Ah<|Ar<|A5<|Ad<|Gr (A3 (α:=Int) (xs:=commonG nd es ((e_ es k2).u) ((e_ es k2).v)) Af ef C C Bi om om)<|Gr (Bx (xs:=commonG nd es ((e_ es k2).u) ((e_ es k2).v)) ef C Bi om om)<|Ga C ?_)
   have hw:=ax om
   refine Ac<|Ap (S12 10 1 3 6 7 8 31 32 33 43 44 45)<|Ad<|Gm C<|Gf fld105_0 C<|Gl ef ?_
   refine Gm C<|Gr (Es C C)<|Gf fld105_0 C<|Gl ef ?_
   refine Gm C<|Gr (Dm C C)<|Gr (Bq (cells:=[_,_]) ty105 Ds pl105 C C)<|Gr (Runs.lookupE (α:=Pt) (k:=(edgeP (e_ es k2).u (e_ (commonG nd es ((e_ es k2).u)<|(e_ es k2).v) (j:Int)))) (xs:=es) Tryz.underlying230 Ds eqt105 ck105 C C mm hw.1)<|Ga C<|Ac<|Ap (S13 11 10 1 3 6 7 8 31 32 33 43 44 45)<|Ad<|Gm C<|Gf fld105_1 C<|Gl ef ?_
   refine Gm C<|Gr (Es C C)<|Gf fld105_1 C<|Gl ef ?_
   refine Gm C<|Gr (Dm C C)<|Gr (Bq (cells:=[_,_]) ty105 Ds pl105 C C)<|Gr (Runs.lookupE (α:=Pt) (k:=(edgeP (e_ es k2).v (e_ (commonG nd es ((e_ es k2).u)<|(e_ es k2).v) (j:Int)))) (xs:=es) Tryz.underlying230 Ds eqt105 ck105 C C mm hw.2)<|Ga C<|Ac<|Ap (S13 12 11 1 3 6 7 8 31 32 33 43 44 45)<|Ay<|Gm C<|Gm C<|Gm C<|Gm C<|Gr (A3 (α:=(RowG Pt)) (xs:=Z) Dh ty198 C C Bi om om)<|Gr (B9 (α:=(RowG Pt)) (xs:=Z) (u:= .slice (e_ Z k2).a (e_ Z k2).xs.length (e_ Z k2).c) ty198 C Bi om om C)<|Gm C<|Gm C<|Gr (E5 (cells:=[_,_]) ty200 Ch ef C C)<|Ge1 (Ce (α:=Pt) (cs:=[_,_]) (xs:=[⟨((List.idxOf (edgeP (e_ es k2).u (e_ (commonG nd es ((e_ es k2).u)<|(e_ es k2).v) (j:Int))) es:Nat):Int),((List.idxOf (edgeP (e_ es k2).v (e_ (commonG nd es ((e_ es k2).u)<|(e_ es k2).v) (j:Int))) es:Nat):Int)⟩]) B4 ty200 C C dc dc C C C C) λar=>?_
   refine Ge2 (B3 (α:=Pt) (e:=200) (xs:=(e_ Z k2).xs) (ys:=([⟨((List.idxOf (edgeP (e_ es k2).u (e_ (commonG nd es ((e_ es k2).u)<|(e_ es k2).v) (j:Int))) es:Nat):Int),((List.idxOf (edgeP (e_ es k2).v (e_ (commonG nd es ((e_ es k2).u)<|(e_ es k2).v) (j:Int))) es:Nat):Int)⟩]:List Pt)) B4 ty200 C C C (by repeat (first|exact rgI_mem (rs:=Z) (i:=(k2:Int)) om om|apply List.mem_cons_of_mem)) Bi lcn dc C<|λ_ _=>(by repeat (first|exact At.rg (rs:=Z) (i:=(k2:Int)) om om|apply At.tail))) λad ae=>?_
   show G prog κ _ _ _ _ ([(81,.slice ad ((e_ Z k2).xs++([⟨((List.idxOf (edgeP (e_ es k2).u (e_ (commonG nd es ((e_ es k2).u)<|(e_ es k2).v) (j:Int))) es:Nat):Int),((List.idxOf (edgeP (e_ es k2).v (e_ (commonG nd es ((e_ es k2).u)<|(e_ es k2).v) (j:Int))) es:Nat):Int)⟩]:List Pt)).length ae),(80,.slice ar 1 1),(79,.agg #[e7 (((List.idxOf (edgeP (e_ es k2).u (e_ (commonG nd es ((e_ es k2).u)<|(e_ es k2).v) (j:Int))) es:Nat):Int)),e7<|((List.idxOf (edgeP (e_ es k2).v (e_ (commonG nd es ((e_ es k2).u)<|(e_ es k2).v) (j:Int))) es:Nat):Int)]),(78,e7<|((List.idxOf (edgeP (e_ es k2).v (e_ (commonG nd es ((e_ es k2).u)<|(e_ es k2).v) (j:Int))) es:Nat):Int)),(77,e7<|((List.idxOf (edgeP (e_ es k2).u (e_ (commonG nd es ((e_ es k2).u)<|(e_ es k2).v) (j:Int))) es:Nat):Int)),(76,.slice (e_ Z k2).a (e_ Z k2).xs.length (e_ Z k2).c),(75,elemPtr (.slice M (replicate es.length (default:(RowG Pt))).length aa)<|((k2:Int)).toNat*Enc.sz (RowG Pt)),(74,e7<|(k2:Int)),(73,.slice M (replicate es.length (default:(RowG Pt))).length aa),(72,e7<|(k2:Int)),(71,.slice M (replicate es.length (default:(RowG Pt))).length aa),(12,e7<|((List.idxOf (edgeP (e_ es k2).v (e_ (commonG nd es ((e_ es k2).u)<|(e_ es k2).v) (j:Int))) es:Nat):Int)),(11,e7<|((List.idxOf (edgeP (e_ es k2).u (e_ (commonG nd es ((e_ es k2).u)<|(e_ es k2).v) (j:Int))) es:Nat):Int)),(1,pt b1),(3,.map<|some ab),(6,.slice M (replicate es.length (default:(RowG Pt))).length aa),(7,e7<|(k2:Int)),(8,pt b6),(31,va),(32,e7 ((es.length:Nat):Int)),(33,e7<|(k2:Int)),(43,.slice ai (commonG nd es ((e_ es k2).u)<|(e_ es k2).v).length ah),(44,e7<|(((commonG nd es ((e_ es k2).u)<|(e_ es k2).v).length:Nat):Int)),(45,e7<|(j:Int))]:Env) (vc 200 (.slice ar 1 1) (([⟨((List.idxOf (edgeP (e_ es k2).u (e_ (commonG nd es ((e_ es k2).u)<|(e_ es k2).v) (j:Int))) es:Nat):Int),((List.idxOf (edgeP (e_ es k2).v (e_ (commonG nd es ((e_ es k2).u)<|(e_ es k2).v) (j:Int))) es:Nat):Int)⟩]:List Pt))::vk 3 ai ah (commonG nd es ((e_ es k2).u)<|(e_ es k2).v)::e8 b6 [e7 ((e_ es k2).u),e7<|(e_ es k2).v] 105::vc 198 (.slice M (replicate es.length (default:(RowG Pt))).length aa) (Z)::mpE (α:=Pt) ab (es)::e8 b1 [e7 nd,va] 38::(rgI (List.set Z ((k2:Int)).toNat (⟨ad,ae,((e_ Z k2).xs++([⟨((List.idxOf (edgeP (e_ es k2).u (e_ (commonG nd es ((e_ es k2).u)<|(e_ es k2).v) (j:Int))) es:Nat):Int),((List.idxOf (edgeP (e_ es k2).v (e_ (commonG nd es ((e_ es k2).u)<|(e_ es k2).v) (j:Int))) es:Nat):Int)⟩]:List Pt))⟩:RowG Pt))++I))
   refine Gr (A3 (α:=(RowG Pt)) (xs:=Z) Dh ty198 C C Bi om om)<|Ge0 (C1 (α:=(RowG Pt)) (xs:=Z) (e:=198) (new:=(⟨ad,ae,((e_ Z k2).xs++([⟨((List.idxOf (edgeP (e_ es k2).u (e_ (commonG nd es ((e_ es k2).u)<|(e_ es k2).v) (j:Int))) es:Nat):Int),((List.idxOf (edgeP (e_ es k2).v (e_ (commonG nd es ((e_ es k2).u)<|(e_ es k2).v) (j:Int))) es:Nat):Int)⟩]:List Pt))⟩:RowG Pt)) ty198 C C C om om am) ?_
   exact Bj<|Am<|Ah<|Ap (S11 1 3 6 7 8 31 32 33 43 44 45)<|Ay<|Gr (Rad C C)<|Gm C<|Bj<|Cb ((j+1),(List.set Z ((k2:Int)).toNat (⟨ad,ae,((e_ Z k2).xs++([⟨((List.idxOf (edgeP (e_ es k2).u (e_ (commonG nd es ((e_ es k2).u)<|(e_ es k2).v) (j:Int))) es:Nat):Int),((List.idxOf (edgeP (e_ es k2).v (e_ (commonG nd es ((e_ es k2).u)<|(e_ es k2).v) (j:Int))) es:Nat):Int)⟩]:List Pt))⟩:RowG Pt)))<|by dsimp only;exact ⟨om,(by rw [List.length_set];exact ak),(λi h=>by rw [En _ _ _ _ om om om,if_neg om];exact ao i h),(λi h1 h2=>by rw [En _ _ _ _ om om om,if_neg om];exact aq i h1 h2),(by rw [En _ _ _ _ om om om,if_pos rfl,Cj _ j om,List.map_append];show (e_ Z k2).xs++_=_;rw [an];rfl)⟩
  exact Bt<|Aq<|Aq<|Bb<|Am<|Ah<|Ay<|Gr (Rad C C)<|Gm C<|Bj<|Cb ((k2+1),(Z))<|by dsimp only;exact ⟨om,ak,(λi h=>by by_cases e:i=k2;(· subst e;rw [an,List.take_of_length_le om];rfl);(· exact ao i om)),(λi h1 h2=>aq i om h2)⟩
 refine Bt<|Aq<|Aq<|Bb<|Ah<|Ad<|Gm C<|Ga C<|Ac<|Az ?_
 have a7:k2=es.length:=by omega
 have az:=rows_tri aj (λi h=>au i om)
 exact A1 C C (vk 198 M aa rs::(rgI rs++I)) (by unfold vk;rw [aj];simp only [List.length_replicate];exact Bl) ⟨M,aa,rs,by rw [aj];simp only [List.length_replicate],az,rfl⟩
theorem best_yes{i:Nat}(h:e_ gone i=false)(Z:bestT sup gone i<0\/e_ sup i<e_ sup (bestT sup gone i)):bestT sup gone (i+1)=(i:Int):=by
 conv=>lhs;unfold bestT
 rw [if_pos ⟨h,Z⟩]
theorem best_no{i:Nat}(h:e_ gone i=true\/(¬bestT sup gone i<0/\¬e_ sup i<e_ sup (bestT sup gone i))):bestT sup gone (i+1)=bestT sup gone i:=by
 conv=>lhs;unfold bestT
 rw [if_neg]
 rintro ⟨Z,M⟩
 rcases h with h|h
 ·rw [h] at Z;cases Z
 exact M.elim h.1 h.2
theorem rows_atG{rs:List (RowG Pt)}{tri:List (List Pt)}(h:rs.map RowG.xs=tri)(M:0<=i)(Z:i<rs.length):(e_ rs i).xs=e_ tri i:=by
 subst h
 rw [at_eq M Z,at_eq M<|by rw [List.length_map];exact Z,List.getElem_map]
theorem low_yes{p:Pt}(M:e_ gone p.u=false)(Z:e_ gone p.v=false):lowT gone sup p=(sup.set p.u.toNat (e_ sup p.u - 1)).set p.v.toNat (e_ (sup.set p.u.toNat (e_ sup p.u - 1)) p.v - 1):=by
 unfold lowT;rw [if_pos ⟨M,Z⟩]
theorem low_no{p:Pt}(h:e_ gone p.u=true\/e_ gone p.v=true):lowT gone sup p=sup:=by
 unfold lowT;rw [if_neg]
 rintro ⟨Z,M⟩
 rcases h with h|h
 ·rw [h] at Z;cases Z
 rw [h] at M;cases M
theorem TPeel_ok{κ:Ctx}{I:List Item}{nd:Int}{va:Value}{es:List Pt}(hl:Sl κ I va es)(hG:GrOk nd es)(hb:es.length<=1000000)(hT:TabRd κ I 0 tzCells):eu prog κ 130 [.agg #[e7 nd,va]] I (λr J=>∃a c a' c',r = .tuple #[.slice a (trussO (trisE nd es)).length c,.slice a' (trussN (trisE nd es)).length c']/\J=vc 3 (.slice a (trussO (trisE nd es)).length c) (trussO (trisE nd es))::vc 3 (.slice a' (trussN (trisE nd es)).length c') (trussN (trisE nd es))::I):=by
 have bx:=hG.rng
 have a0:=tris_ok hG
 have bv:(trisE nd es).length=es.length:=List.length_map ..
 refine Ce1 Tryz.func130 C C ?_
 refine Ad<|Ge1 (Bd (cs:=[_,_]) C C C) λb1=>Ga C<|Ga C<|Ac<|Ad<|Gl2 ty38 ?_
 refine G.e (Aj c_ C C<|Triangles_ok (nd:=nd) (A8 hl) hG om<|Bn hT Ax) ?_
 rintro _ _ ⟨_,_,⟨aj,ai,Z,rfl,a3,rfl⟩,rfl,rfl⟩
 have a6:Z.length=(trisE nd es).length:=by rw [←a3,List.length_map]
 refine D9 (J:=vc 198 (.slice aj Z.length ai) (Z)::e8 b1 [e7 nd,va] 38::(rgI Z++I)) (C4<|List.Perm.cons _<|Dk (A:=rgI Z) (L:=[e8 b1 [e7 nd,va] 38]) (T:=I)) ?_
 show G prog κ _ _ _ _ ([(16,.slice aj Z.length ai),(15,.agg #[e7 nd,va]),(3,.slice none 0 0),(2,.slice none 0 0),(1,.pointer<|some ⟨b1,0,none⟩),(0,.agg #[e7 nd,va])]:Env) (vc 198 (.slice aj Z.length ai) (Z)::e8 b1 [e7 nd,va] 38::(rgI Z++I))
 refine Ga C<|Ac<|Ad<|Gm C<|Gr (Bk Dh C)<|Ga C<|Ac<|Ad<|Gm C<|Ge2 (E7 (α:=Int) (n:=Z.length) Af ef C C C om om dc C) λaq ap=>?_
 refine Ga C<|Ac<|Ar<|Ad<|Gm C<|Gr (Bk Dh C)<|Gm C<|Ac<|Ap (S7 23 22 21 6 5 4 2 C C C C C C C)<|A5<|B1 (σ:=Nat×(List Int)) (λs=>([(2,.slice none 0 0),(4,.slice aj Z.length ai),(5,e7 ((Z.length:Nat):Int)),(6,.slice aq (replicate Z.length (default:Int)).length ap),(21,.slice aj Z.length ai),(22,e7 ((Z.length:Nat):Int)),(23,e7 ((s.1:Nat):Int))]:Env)) (λs=>vc 3 (.slice aq (replicate Z.length (default:Int)).length ap) (s.2)::vc 198 (.slice aj Z.length ai) (Z)::e8 b1 [e7 nd,va] 38::(rgI Z++I)) (λs=>(s.1<=Z.length)/\(s.2.length=Z.length)/\(∀i:Nat,i<s.1->e_ s.2 i=(((e_ Z i).xs.length:Nat):Int))) (λs=>Z.length - s.1) (0,replicate Z.length (default:Int)) (show ((0:Nat)<=Z.length)/\((replicate Z.length (default:Int):List Int).length=Z.length)/\(∀i:Nat,i<(0:Nat)->e_ (replicate Z.length (default:Int):List Int) (i:Int)=(((e_ Z i).xs.length:Nat):Int)) from ⟨om,List.length_replicate,(λi h=>by omega)⟩) (Aa C<|Aa C<|Aa C<|Aa C<|Aa C<|Aa C<|Aa (Er C<|by first|omega|rfl|((try dsimp only);first|exact best_yes (by simpa using M) (by first|exact .inl aa|exact .inr ab)|exact (best_yes (by simpa using M)<|by first|exact .inl aa|exact .inr ab).symm|exact best_no (by first|(left;simpa using M)|exact .inr ⟨aa,ab⟩)|exact (best_no<|by first|(left;simpa using M)|exact .inr ⟨aa,ab⟩).symm)) Bp) (show Fit κ _ (vc 3 (.slice aq (replicate Z.length (default:Int)).length ap) ((replicate Z.length (default:Int)))::vc 198 (.slice aj Z.length ai) (Z)::e8 b1 [e7 nd,va] 38::(rgI Z++I)) from Bg) ?_
 rintro ⟨k,sup⟩ hp
 dsimp only at hp ⊢
 obtain ⟨hk,bj,be⟩:=hp
 refine Ad<|Gr (A9 C C)<|Ac<|Ar<|A7 C (λbo=>?_)<|λbo=>?_
 ·refine Aw (Ah<|Ar<|A5<|Ad<|Gm C<|Gr (A3 (α:=(RowG Pt)) (xs:=Z) Dh ty198 C C Bi om oo)<|Gr (B9 (α:=(RowG Pt)) (xs:=Z) (u:= .slice (e_ Z k).a (e_ Z k).xs.length (e_ Z k).c) ty198 C Bi om oo C)<|Ga C<|Ga C<|Ac<|Ay<|Gm C<|Gm C<|Gm C<|Gr (Bk B4 C)<|Gr (A3 (α:=Int) (xs:=sup) Af ef C C Bi om oo)<|Ge0 (C1 (α:=Int) (xs:=sup) (e:=3) (new:=(((e_ Z k).xs.length:Nat):Int)) ef C C C om oo am) ?_)
  exact Bj<|Am<|Ah<|Ap (S7 2 4 5 6 21 22 23 C C C C C C C)<|Ay<|Gr (Rad C C)<|Gm C<|Bj<|Cb ((k+1),(List.set sup ((k:Int)).toNat ((((e_ Z k).xs.length:Nat):Int)))) (by dsimp only;exact ⟨om,(by rw [List.length_set];exact bj),(λi h=>by rw [En _ _ _ _ om om om];by_cases e:i=k;(· subst e;rw [if_pos rfl]);(· rw [if_neg om];exact be i om))⟩) (hL:=(Aa C<|Aa C<|Aa C<|Aa C<|Aa C<|Aa C<|Aa (Er C<|by first|omega|rfl|((try dsimp only);first|exact best_yes (by simpa using M) (by first|exact .inl aa|exact .inr ab)|exact (best_yes (by simpa using M)<|by first|exact .inl aa|exact .inr ab).symm|exact best_no (by first|(left;simpa using M)|exact .inr ⟨aa,ab⟩)|exact (best_no<|by first|(left;simpa using M)|exact .inr ⟨aa,ab⟩).symm)) Bp))
 refine Bt<|Aq<|Aq<|Bb<|Ah<|Ad<|Gm C ?_
 have bi:sup=(startT<|trisE nd es).sup:=by refine ext_at (by rw [bj,a6];exact (List.length_map ..).symm) (λi hi=>?_);rw [be i om,rows_atG a3 om om];show _=e_ ((trisE nd es).map λl=>(l.length:Int)) (i:Int);rw [C7 _ _ (show i<(trisE nd es).length by omega),C7 _ _<|by rw [List.length_map];omega,List.getElem_map]
 refine Ge2 (E7 (α:=Bool) (n:=Z.length) Ew ty4 C C C om om dc C) λaw av=>?_
 refine Ga C<|Ac<|Ad<|Gm C<|Ge2 (E7 (α:=Int) (n:=Z.length) Af ef C C C om om dc C) λar ah=>?_
 refine Ga C<|Ac<|Ap (S6 3 9 2 4 5 6 C C C C C C)<|Ad<|Ga C<|Ac<|Ar<|Ad<|Gm C<|Gm C<|Ac<|A5<|B1 (σ:=Nat×TrS×(Option Addr)×Nat) (λs=>([(2,.slice s.2.2.1 s.2.1.ord.length s.2.2.2),(3,.slice ar (replicate Z.length (default:Int)).length ah),(4,.slice aj Z.length ai),(5,e7 ((Z.length:Nat):Int)),(6,.slice aq (replicate Z.length (default:Int)).length ap),(9,.slice aw (replicate Z.length (default:Bool)).length av),(10,e7<|s.2.1.k),(38,e7 ((Z.length:Nat):Int)),(39,e7 ((s.1:Nat):Int))]:Env)) (λs=>vc 3 (.slice s.2.2.1 s.2.1.ord.length s.2.2.2) (s.2.1.ord)::vc 3 (.slice ar (replicate Z.length (default:Int)).length ah) (s.2.1.num)::vc 4 (.slice aw (replicate Z.length (default:Bool)).length av) (s.2.1.gone)::vc 3 (.slice aq (replicate Z.length (default:Int)).length ap) (s.2.1.sup)::vc 198 (.slice aj Z.length ai) (Z)::e8 b1 [e7 nd,va] 38::(rgI Z++I)) (λs=>(s.1<=Z.length)/\(s.2.1=runTr (trisE nd es) s.1)/\(TrOk (nd.toNat - 1) (trisE nd es).length s.1 s.2.1)) (λs=>Z.length - s.1) (0,(startT<|trisE nd es),none,0) (show ((0:Nat)<=Z.length)/\(((startT<|trisE nd es):TrS)=runTr (trisE nd es) (0:Nat))/\(TrOk (nd.toNat - 1) (trisE nd es).length (0:Nat) ((startT<|trisE nd es):TrS)) from ⟨om,rfl,(TrOk.start a0)⟩) (Aa (C8 C<|by first|rfl|simp)<|Aa C<|Aa C<|Aa C<|Aa C<|Aa C<|Aa (Er C<|by first|omega|rfl|((try dsimp only);first|exact best_yes (by simpa using M) (by first|exact .inl aa|exact .inr ab)|exact (best_yes (by simpa using M)<|by first|exact .inl aa|exact .inr ab).symm|exact best_no (by first|(left;simpa using M)|exact .inr ⟨aa,ab⟩)|exact (best_no<|by first|(left;simpa using M)|exact .inr ⟨aa,ab⟩).symm))<|Aa C<|Aa (Er C<|by first|omega|rfl|((try dsimp only);first|exact best_yes (by simpa using M) (by first|exact .inl aa|exact .inr ab)|exact (best_yes (by simpa using M)<|by first|exact .inl aa|exact .inr ab).symm|exact best_no (by first|(left;simpa using M)|exact .inr ⟨aa,ab⟩)|exact (best_no<|by first|(left;simpa using M)|exact .inr ⟨aa,ab⟩).symm)) Bp) (show Fit κ _ (vc 3 (.slice none ((startT<|trisE nd es)).ord.length 0) (((startT<|trisE nd es)).ord)::vc 3 (.slice ar (replicate Z.length (default:Int)).length ah) (((startT<|trisE nd es)).num)::vc 4 (.slice aw (replicate Z.length (default:Bool)).length av) (((startT<|trisE nd es)).gone)::vc 3 (.slice aq (replicate Z.length (default:Int)).length ap) (((startT<|trisE nd es)).sup)::vc 198 (.slice aj Z.length ai) (Z)::e8 b1 [e7 nd,va] 38::(rgI Z++I)) from (by rw [←bi];exact Co (Cf (α:=Int) _ _)<|by rw [a6];exact Bl)) ?_
 rintro ⟨j,tr,ao,co⟩ hp
 dsimp only at hp ⊢
 obtain ⟨hj,bg,au⟩:=hp
 have bm:=au.slen
 have bq:=au.glen
 have b6:=au.nlen
 have b3:=au.olen
 have b9:=au.k
 have ca:2*(((nd.toNat - 1:Nat)):Int)*(j:Int)<=126*(j:Int):=Int.mul_le_mul_of_nonneg_right om om
 refine Ad<|Gr (A9 C C)<|Ac<|Ar<|A7 C (λbt=>?_)<|λbt=>?_
 ·refine Aw (Ah<|Ar<|A5<|Ad<|Ga C<|Ac<|Ar<|Ad<|Gm C<|Gm C<|Ac<|A5<|B1 (σ:=Nat) (λs=>([(2,.slice ao tr.ord.length co),(3,.slice ar (replicate Z.length (default:Int)).length ah),(4,.slice aj Z.length ai),(5,e7 ((Z.length:Nat):Int)),(6,.slice aq (replicate Z.length (default:Int)).length ap),(9,.slice aw (replicate Z.length (default:Bool)).length av),(10,e7<|tr.k),(11,e7<|bestT tr.sup tr.gone s),(38,e7 ((Z.length:Nat):Int)),(39,e7<|(j:Int)),(41,e7 ((Z.length:Nat):Int)),(42,e7 ((s:Nat):Int))]:Env)) (λs=>vc 3 (.slice ao tr.ord.length co) (tr.ord)::vc 3 (.slice ar (replicate Z.length (default:Int)).length ah) (tr.num)::vc 4 (.slice aw (replicate Z.length (default:Bool)).length av) (tr.gone)::vc 3 (.slice aq (replicate Z.length (default:Int)).length ap) (tr.sup)::vc 198 (.slice aj Z.length ai) (Z)::e8 b1 [e7 nd,va] 38::(rgI Z++I)) (λs=>(s<=Z.length)) (λs=>Z.length - s) 0 (show ((0:Nat)<=Z.length) from om) (Aa C<|Aa C<|Aa C<|Aa C<|Aa C<|Aa C<|Aa C<|Aa (Er C<|by first|omega|rfl|((try dsimp only);first|exact best_yes (by simpa using M) (by first|exact .inl aa|exact .inr ab)|exact (best_yes (by simpa using M)<|by first|exact .inl aa|exact .inr ab).symm|exact best_no (by first|(left;simpa using M)|exact .inr ⟨aa,ab⟩)|exact (best_no<|by first|(left;simpa using M)|exact .inr ⟨aa,ab⟩).symm))<|Aa C<|Aa C<|Aa C<|Aa (Er C<|by first|omega|rfl|((try dsimp only);first|exact best_yes (by simpa using M) (by first|exact .inl aa|exact .inr ab)|exact (best_yes (by simpa using M)<|by first|exact .inl aa|exact .inr ab).symm|exact best_no (by first|(left;simpa using M)|exact .inr ⟨aa,ab⟩)|exact (best_no<|by first|(left;simpa using M)|exact .inr ⟨aa,ab⟩).symm)) Bp) (show Fit κ _ (vc 3 (.slice ao tr.ord.length co) (tr.ord)::vc 3 (.slice ar (replicate Z.length (default:Int)).length ah) (tr.num)::vc 4 (.slice aw (replicate Z.length (default:Bool)).length av) (tr.gone)::vc 3 (.slice aq (replicate Z.length (default:Int)).length ap) (tr.sup)::vc 198 (.slice aj Z.length ai) (Z)::e8 b1 [e7 nd,va] 38::(rgI Z++I)) from Bg) ?_)
  rintro i2 hp
  have bz:=hp
  have cb:=bestT_lt tr.sup tr.gone i2
  refine Ad<|Gr (A9 C C)<|Ac<|Ar<|A7 C (λbr=>?_)<|λbr=>?_
  ·refine Aw (Ah<|Ar<|A5<|Ad<|Gm C<|Ga C<|Ac<|Ap (S13 12 2 3 4 5 6 9 10 11 38 39 41 42 C C C C C C C C C C C C C)<|Ar<|Bs mixed<|Cc (vc 3 (.slice ao tr.ord.length co) (tr.ord)::vc 3 (.slice ar (replicate Z.length (default:Int)).length ah) (tr.num)::vc 4 (.slice aw (replicate Z.length (default:Bool)).length av) (tr.gone)::vc 3 (.slice aq (replicate Z.length (default:Int)).length ap) (tr.sup)::vc 198 (.slice aj Z.length ai) (Z)::e8 b1 [e7 nd,va] 38::(rgI Z++I)) 20<|Dr 0 C (Ai C)<|Dr 1 C (Ai C)<|Dr 2 C (A3 (α:=Bool) (xs:=tr.gone) Ew ty4 C C Bi om oo)<|Dr 3 C (Runs.getB (xs:=tr.gone) ty4 C Bi om oo)<|Dr 4 C (Cn C)<|Dr 5 C (Ai C)<|D.splitb (d:=50) C (λM=>?_)<|λM=>?_)
   ·refine Dro 6 C (Ai C) (Dro 7 C (A9 C C)<|Dro 8 C (Ai C)<|Dw (d:=53) C (λaa=>?_)<|λaa=>?_)
    ·exact Dpo 9 C<|Dpo 10 C<|Dpo 11 C<|Dpo 12 C<|Dpo 13 C<|Dpo 14 C<|Dpo 15 C<|Dpo 16 C<|Dpo 17 C<|Dro 18 C (Av C C)<|Dr 19 C (Av C C)<|Dz<|Ah<|Ap (S14 64 12 2 3 4 5 6 9 10 11 38 39 41 42 C C C C C C C C C C C C C C)<|Cu C<|Ay<|Gm C<|Ga C<|Bj<|Am<|Ah<|Ap (S12 11 2 3 4 5 6 9 10 38 39 41 42 C C C C C C C C C C C C)<|Ay<|Gr (Rad C C)<|Gm C<|Bj<|Cb ((i2+1)) om (hL:=(Aa C<|Aa C<|Aa C<|Aa C<|Aa C<|Aa C<|Aa C<|Aa (Er C<|by first|omega|rfl|((try dsimp only);first|exact best_yes (by simpa using M) (by first|exact .inl aa|exact .inr ab)|exact (best_yes (by simpa using M)<|by first|exact .inl aa|exact .inr ab).symm|exact best_no (by first|(left;simpa using M)|exact .inr ⟨aa,ab⟩)|exact (best_no<|by first|(left;simpa using M)|exact .inr ⟨aa,ab⟩).symm))<|Aa C<|Aa C<|Aa C<|Aa (Er C<|by first|omega|rfl|((try dsimp only);first|exact best_yes (by simpa using M) (by first|exact .inl aa|exact .inr ab)|exact (best_yes (by simpa using M)<|by first|exact .inl aa|exact .inr ab).symm|exact best_no (by first|(left;simpa using M)|exact .inr ⟨aa,ab⟩)|exact (best_no<|by first|(left;simpa using M)|exact .inr ⟨aa,ab⟩).symm)) Bp))
    refine Dro 9 C (Ai C)<|Dro 10 C (Ai C)<|Dro 11 C (A3 (α:=Int) (xs:=tr.sup) Af ef C C Bi om oo)<|Dro 12 C (Bx (xs:=tr.sup) ef C Bi om oo)<|Dro 13 C (Ai C)<|Dro 14 C (Ai C)<|Dro 15 C (A3 (α:=Int) (xs:=tr.sup) Af ef C C Bi om oo)<|Dro 16 C (Bx (xs:=tr.sup) ef C Bi om oo)<|Dro 17 C (A9 C C)<|Dro 18 C (Au C C)<|Dr 19 C (Av C C)<|Dz<|Ah<|Ap (S14 64 12 2 3 4 5 6 9 10 11 38 39 41 42 C C C C C C C C C C C C C C)<|A7 C (λab=>?_)<|λab=>?_
    ·exact Ay<|Gm C<|Ga C<|Bj<|Am<|Ah<|Ap (S12 11 2 3 4 5 6 9 10 38 39 41 42 C C C C C C C C C C C C)<|Ay<|Gr (Rad C C)<|Gm C<|Bj<|Cb ((i2+1)) om (hL:=(Aa C<|Aa C<|Aa C<|Aa C<|Aa C<|Aa C<|Aa C<|Aa (Er C<|by first|omega|rfl|((try dsimp only);first|exact best_yes (by simpa using M) (by first|exact .inl aa|exact .inr ab)|exact (best_yes (by simpa using M)<|by first|exact .inl aa|exact .inr ab).symm|exact best_no (by first|(left;simpa using M)|exact .inr ⟨aa,ab⟩)|exact (best_no<|by first|(left;simpa using M)|exact .inr ⟨aa,ab⟩).symm))<|Aa C<|Aa C<|Aa C<|Aa (Er C<|by first|omega|rfl|((try dsimp only);first|exact best_yes (by simpa using M) (by first|exact .inl aa|exact .inr ab)|exact (best_yes (by simpa using M)<|by first|exact .inl aa|exact .inr ab).symm|exact best_no (by first|(left;simpa using M)|exact .inr ⟨aa,ab⟩)|exact (best_no<|by first|(left;simpa using M)|exact .inr ⟨aa,ab⟩).symm)) Bp))
    exact Aw<|Am<|Ah<|Ap (S12 2 3 4 5 6 9 10 11 38 39 41 42 C C C C C C C C C C C C)<|Ay<|Gr (Rad C C)<|Gm C<|Bj<|Cb ((i2+1)) om (hL:=(Aa C<|Aa C<|Aa C<|Aa C<|Aa C<|Aa C<|Aa C<|Aa (Er C<|by first|omega|rfl|((try dsimp only);first|exact best_yes (by simpa using M) (by first|exact .inl aa|exact .inr ab)|exact (best_yes (by simpa using M)<|by first|exact .inl aa|exact .inr ab).symm|exact best_no (by first|(left;simpa using M)|exact .inr ⟨aa,ab⟩)|exact (best_no<|by first|(left;simpa using M)|exact .inr ⟨aa,ab⟩).symm))<|Aa C<|Aa C<|Aa C<|Aa (Er C<|by first|omega|rfl|((try dsimp only);first|exact best_yes (by simpa using M) (by first|exact .inl aa|exact .inr ab)|exact (best_yes (by simpa using M)<|by first|exact .inl aa|exact .inr ab).symm|exact best_no (by first|(left;simpa using M)|exact .inr ⟨aa,ab⟩)|exact (best_no<|by first|(left;simpa using M)|exact .inr ⟨aa,ab⟩).symm)) Bp))
   exact Dpo 6 C<|Dpo 7 C<|Dpo 8 C<|Dpu 9 C<|Dpu 10 C<|Dpu 11 C<|Dpu 12 C<|Dpu 13 C<|Dpu 14 C<|Dpu 15 C<|Dpu 16 C<|Dpu 17 C<|Dpo 18 C<|Dr 19 C (Au C C)<|Dz<|Ah<|Ap (S14 64 12 2 3 4 5 6 9 10 11 38 39 41 42 C C C C C C C C C C C C C C)<|Dg C<|Aw<|Am<|Ah<|Ap (S12 2 3 4 5 6 9 10 11 38 39 41 42 C C C C C C C C C C C C)<|Ay<|Gr (Rad C C)<|Gm C<|Bj<|Cb ((i2+1)) om (hL:=(Aa C<|Aa C<|Aa C<|Aa C<|Aa C<|Aa C<|Aa C<|Aa (Er C<|by first|omega|rfl|((try dsimp only);first|exact best_yes (by simpa using M) (by first|exact .inl aa|exact .inr ab)|exact (best_yes (by simpa using M)<|by first|exact .inl aa|exact .inr ab).symm|exact best_no (by first|(left;simpa using M)|exact .inr ⟨aa,ab⟩)|exact (best_no<|by first|(left;simpa using M)|exact .inr ⟨aa,ab⟩).symm))<|Aa C<|Aa C<|Aa C<|Aa (Er C<|by first|omega|rfl|((try dsimp only);first|exact best_yes (by simpa using M) (by first|exact .inl aa|exact .inr ab)|exact (best_yes (by simpa using M)<|by first|exact .inl aa|exact .inr ab).symm|exact best_no (by first|(left;simpa using M)|exact .inr ⟨aa,ab⟩)|exact (best_no<|by first|(left;simpa using M)|exact .inr ⟨aa,ab⟩).symm)) Bp))
  refine Bt<|Aq<|Aq<|Bb<|Ah<|Ad<|Gm C ?_
  obtain ⟨b,bh⟩:∃b,bestT tr.sup tr.gone i2=b:=⟨_,rfl⟩
  have bf:bestT tr.sup tr.gone (trisE nd es).length=b:=by rw [←bh,show i2=(trisE nd es).length by omega]
  have a4:=au.best om
  rw [bf] at a4
  rw [bh]
  have b7:=au.sup _ (B7 (xs:=tr.sup) (i:=b) a4.1 om)
  refine Gm C<|Gm C<|Gr (A3 (α:=Int) (xs:=tr.sup) Af ef C C Bi om oo)<|Gr (Bx (xs:=tr.sup) ef C Bi om oo)<|Gr (Dm C C) ?_
  have bn:(if tr.k<(e_ tr.sup b) then (e_ tr.sup b) else tr.k)=(max tr.k<|e_ tr.sup b):=by split<;>omega
  rw [bn]
  refine Ga C<|Ac<|Ap (S10 10 2 3 4 5 6 9 11 38 39 C C C C C C C C C C)<|Ad<|Gm C<|Gm C<|Gm C<|Gm C<|Gm C<|Gr (A3 (α:=Int) (xs:=tr.num) Af ef C C Bi om oo)<|Ge0 (C1 (α:=Int) (xs:=tr.num) (e:=3) (new:=(max tr.k<|e_ tr.sup b)) ef C C C om oo am) ?_
  refine Gr (A3 (α:=Bool) (xs:=tr.gone) Ew ty4 C C Bi om oo)<|Ge0 (C1 (α:=Bool) (xs:=tr.gone) (e:=4) (new:=true) ty4 C C C om oo am) ?_
  refine Ac<|Ap (S10 10 2 3 4 5 6 9 11 38 39 C C C C C C C C C C)<|Ad<|Gm C<|Gm C<|Ge1 (Ce (α:=Int) (cs:=[_]) (xs:=[b]) Af ef C C dc dc C C C C) λa9=>?_
  refine Ge2 (B3 (α:=Int) (e:=3) (xs:=tr.ord) (ys:=([b]:List Int)) Af ef C C C mm Bi lcn dc C<|λ_ _=>am) λaz a1=>?_
  refine Ga C<|Ac<|Ap (S10 2 10 3 4 5 6 9 11 38 39 C C C C C C C C C C)<|Ad<|Gm C<|Gm C<|Gr (A3 (α:=(RowG Pt)) (xs:=Z) Dh ty198 C C Bi om oo)<|Gr (B9 (α:=(RowG Pt)) (xs:=Z) (u:= .slice (e_ Z b).a (e_ Z b).xs.length (e_ Z b).c) ty198 C Bi om oo C)<|Gr (Bk B4 C)<|Gm C<|Ac<|Ap (S12 89 88 87 2 10 3 4 5 6 9 38 39 C C C C C C C C C C C C)<|A5<|B1 (σ:=Nat×(List Int)) (λs=>([(2,.slice az (tr.ord++([b]:List Int)).length a1),(3,.slice ar (replicate Z.length (default:Int)).length ah),(4,.slice aj Z.length ai),(5,e7 ((Z.length:Nat):Int)),(6,.slice aq (replicate Z.length (default:Int)).length ap),(9,.slice aw (replicate Z.length (default:Bool)).length av),(10,e7<|(max tr.k<|e_ tr.sup b)),(38,e7 ((Z.length:Nat):Int)),(39,e7 ((j:Nat):Int)),(87,.slice (e_ Z b).a (e_ Z b).xs.length (e_ Z b).c),(88,e7<|(((e_ Z b).xs.length:Nat):Int)),(89,e7 ((s.1:Nat):Int))]:Env)) (λs=>vc 3 (.slice a9 1 1) (([b]:List Int))::vc 3 (.slice az (tr.ord++([b]:List Int)).length a1) (tr.ord++([b]:List Int))::vc 3 (.slice ar (replicate Z.length (default:Int)).length ah) (List.set tr.num (b).toNat ((max tr.k<|e_ tr.sup b)))::vc 4 (.slice aw (replicate Z.length (default:Bool)).length av) (List.set tr.gone (b).toNat (true))::vc 3 (.slice aq (replicate Z.length (default:Int)).length ap) (s.2)::vc 198 (.slice aj Z.length ai) (Z)::e8 b1 [e7 nd,va] 38::(rgI Z++I)) (λs=>(s.1<=(e_ Z b).xs.length)/\(s.2=((e_ Z b).xs.take s.1).foldl (lowT<|List.set tr.gone (b).toNat (true)) tr.sup)/\(s.2.length=(trisE nd es).length)/\(∀x∈s.2, -(126*((j:Nat):Int)) - 2*((s.1:Nat):Int)<=x/\x<=64)) (λs=>(e_ Z b).xs.length - s.1) (0,tr.sup) (show ((0:Nat)<=(e_ Z b).xs.length)/\((tr.sup:List Int)=((e_ Z b).xs.take (0:Nat)).foldl (lowT<|List.set tr.gone (b).toNat (true)) tr.sup)/\((tr.sup:List Int).length=(trisE nd es).length)/\(∀x∈(tr.sup:List Int), -(126*((j:Nat):Int)) - 2*(((0:Nat):Nat):Int)<=x/\x<=64) from ⟨om,rfl,bm,(λx hx=>by have:=au.sup x hx;omega)⟩) (Aa C<|Aa C<|Aa C<|Aa C<|Aa C<|Aa C<|Aa C<|Aa C<|Aa C<|Aa C<|Aa C<|Aa (Er C<|by first|omega|rfl|((try dsimp only);first|exact best_yes (by simpa using M) (by first|exact .inl aa|exact .inr ab)|exact (best_yes (by simpa using M)<|by first|exact .inl aa|exact .inr ab).symm|exact best_no (by first|(left;simpa using M)|exact .inr ⟨aa,ab⟩)|exact (best_no<|by first|(left;simpa using M)|exact .inr ⟨aa,ab⟩).symm)) Bp) (show Fit κ _ (vc 3 (.slice a9 1 1) (([b]:List Int))::vc 3 (.slice az (tr.ord++([b]:List Int)).length a1) (tr.ord++([b]:List Int))::vc 3 (.slice ar (replicate Z.length (default:Int)).length ah) (List.set tr.num (b).toNat ((max tr.k<|e_ tr.sup b)))::vc 4 (.slice aw (replicate Z.length (default:Bool)).length av) (List.set tr.gone (b).toNat (true))::vc 3 (.slice aq (replicate Z.length (default:Int)).length ap) ((tr.sup))::vc 198 (.slice aj Z.length ai) (Z)::e8 b1 [e7 nd,va] 38::(rgI Z++I)) from Bg) ?_
  rintro ⟨q,ad⟩ hp
  dsimp only at hp ⊢
  obtain ⟨hq,a7,ax,a5⟩:=hp
  have bk:(e_ Z b).xs∈(trisE nd es):=by rw [rows_atG a3 a4.1 om];exact B7 a4.1 a4.2.1
  have b8:=a0.len _ bk
  have bw:(List.set tr.gone (b).toNat (true)).length=(trisE nd es).length:=by rw [List.length_set];exact bq
  have a8:q<(e_ Z b).xs.length->0<=(e_ (e_ Z b).xs (q:Int)).u/\(e_ (e_ Z b).xs (q:Int)).u<(trisE nd es).length/\0<=(e_ (e_ Z b).xs (q:Int)).v/\(e_ (e_ Z b).xs (q:Int)).v<(trisE nd es).length:=λh=>a0.rng _ bk _ (B7 om om)
  refine Ad<|Gr (A9 C C)<|Ac<|Ar<|A7 C (λbu=>?_)<|λbu=>?_
  ·refine Aw (Ah<|Ar<|A5<|Ad<|Gr (A3 (α:=Pt) (xs:=(e_ Z b).xs) B4 ty200 C C (De<|by repeat (first|exact rgI_mem (rs:=Z) (i:=b) om om|apply List.mem_cons_of_mem)) om oo)<|Gr (Bv (α:=Pt) (xs:=(e_ Z b).xs) ty200 C (De<|by repeat (first|exact rgI_mem (rs:=Z) (i:=b) om om|apply List.mem_cons_of_mem)) om oo) ?_)
   have b2:=a8 om
   have b4:=a5 _ (B7 (xs:=ad) (i:=(e_ (e_ Z b).xs (q:Int)).u) om om)
   refine Ge1 (A4 ty200 C) λcc=>Ge0 (Cz ty200) ?_
   refine Ac<|Ap (S13 14 2 3 4 5 6 9 10 38 39 87 88 89 C C C C C C C C C C C C C)<|Ad<|Gm C<|Gr (Cg Ch ty2 C C om om)<|Gl ef ?_
   refine Gr (A3 (α:=Bool) (xs:=List.set tr.gone (b).toNat (true)) Ew ty4 C C Bi om oo)<|Gr (Runs.getB (xs:=List.set tr.gone (b).toNat (true)) ty4 C Bi om oo)<|Gr (Cn C)<|Gm C<|G.splitb (d:=99) C (λan=>?_)<|λan=>?_
   ·refine e9 (Ai C) (e9 (Cg Ch ty2 C C om om)<|e9 (A0 ef) ?_)
    refine e9 (A3 (α:=Bool) (xs:=List.set tr.gone (b).toNat (true)) Ew ty4 C C Bi om oo)<|e9 (Runs.getB (xs:=List.set tr.gone (b).toNat (true)) ty4 C Bi om oo)<|e9 (Cn C)<|Gr (Av C C)<|Ac<|Ap (S14 106 14 2 3 4 5 6 9 10 38 39 87 88 89 C C C C C C C C C C C C C C)<|D1 C (λae=>?_)<|λae=>?_
    ·refine Ad (Gm C<|Gr (Cg Ch ty2 C C om om)<|Gl ef ?_)
     refine Gr (A3 (α:=Int) (xs:=ad) Af ef C C Bi om oo)<|Gr (Bx (xs:=ad) ef C Bi om oo)<|Gr (Rsu C C)<|Gr (A3 (α:=Int) (xs:=ad) Af ef C C Bi om oo)<|Ge0 (C1 (α:=Int) (xs:=ad) (e:=3) (new:=(e_ ad<|(e_ ((e_ Z b).xs) (q:Int)).u) - 1) ef C C C om oo am) ?_
     have b5 : -(126*(j:Int)) - 2*(q:Int) - 1<=e_ (List.set ad ((e_ ((e_ Z b).xs) (q:Int)).u).toNat ((e_ ad<|(e_ ((e_ Z b).xs) (q:Int)).u) - 1)) (e_ (e_ Z b).xs (q:Int)).v/\e_ (List.set ad ((e_ ((e_ Z b).xs) (q:Int)).u).toNat ((e_ ad<|(e_ ((e_ Z b).xs) (q:Int)).u) - 1)) (e_ (e_ Z b).xs (q:Int)).v<=64:=by rw [En _ _ _ _ om om om];have:=a5 _ (B7 (xs:=ad) (i:=(e_ (e_ Z b).xs (q:Int)).v) om om);split<;>omega
     refine Ac<|Ap (S13 14 2 3 4 5 6 9 10 38 39 87 88 89 C C C C C C C C C C C C C)<|Ay<|Gm C<|Gr (Cg Ch ty2 C C om om)<|Gl ef ?_
     refine Gr (A3 (α:=Int) (xs:=List.set ad ((e_ ((e_ Z b).xs) (q:Int)).u).toNat ((e_ ad<|(e_ ((e_ Z b).xs) (q:Int)).u) - 1)) Af ef C C Bi om oo)<|Gr (Bx (xs:=List.set ad ((e_ ((e_ Z b).xs) (q:Int)).u).toNat ((e_ ad<|(e_ ((e_ Z b).xs) (q:Int)).u) - 1)) ef C Bi om oo)<|Gr (Rsu C C)<|Gr (A3 (α:=Int) (xs:=List.set ad ((e_ ((e_ Z b).xs) (q:Int)).u).toNat ((e_ ad<|(e_ ((e_ Z b).xs) (q:Int)).u) - 1)) Af ef C C Bi om oo)<|Ge0 (C1 (α:=Int) (xs:=List.set ad ((e_ ((e_ Z b).xs) (q:Int)).u).toNat ((e_ ad<|(e_ ((e_ Z b).xs) (q:Int)).u) - 1)) (e:=3) (new:=(e_ (List.set ad ((e_ ((e_ Z b).xs) (q:Int)).u).toNat ((e_ ad<|(e_ ((e_ Z b).xs) (q:Int)).u) - 1))<|(e_ ((e_ Z b).xs) (q:Int)).v) - 1) ef C C C om oo am) ?_
     refine Bj<|Am<|Ah<|Ap (S12 2 3 4 5 6 9 10 38 39 87 88 89 C C C C C C C C C C C C)<|Ay<|Gr (Rad C C)<|Gm C<|Bj ?_
     have ay:((e_ Z b).xs.take (q+1)).foldl (lowT<|List.set tr.gone (b).toNat (true)) tr.sup=lowT (List.set tr.gone (b).toNat (true)) ad (e_ (e_ Z b).xs (q:Int)):=by rw [Cj _ q om,List.foldl_append,←a7];rfl
     have ak:=lowT_rng (gone:=(List.set tr.gone (b).toNat (true))) (p:=(e_ (e_ Z b).xs (q:Int))) (by have:=a8 om;omega) a5
     have bc:=lowT_len (List.set tr.gone (b).toNat (true)) ad (e_ (e_ Z b).xs (q:Int))
     exact Cb ((q+1),(List.set (List.set ad ((e_ ((e_ Z b).xs) (q:Int)).u).toNat ((e_ ad<|(e_ ((e_ Z b).xs) (q:Int)).u) - 1)) ((e_ ((e_ Z b).xs) (q:Int)).v).toNat ((e_ (List.set ad ((e_ ((e_ Z b).xs) (q:Int)).u).toNat ((e_ ad<|(e_ ((e_ Z b).xs) (q:Int)).u) - 1))<|(e_ ((e_ Z b).xs) (q:Int)).v) - 1))) (by dsimp only;exact ⟨om,(by rw [ay];first|exact (low_yes (by simpa using an)<|by simpa using ae).symm|exact (low_no<|by first|(left;simpa using an)|(right;simpa using ae)).symm),(by first|exact ax|(simp only [List.length_set];exact ax)),(by first|(rw [low_yes (by simpa using an) (by simpa using ae)] at ak;exact λx hx=>by have:=ak x hx;push_cast;omega)|(rw [low_no (by first|(left;simpa using an)|(right;simpa using ae))] at ak;exact λx hx=>by have:=ak x hx;push_cast;omega))⟩) (hL:=(Aa C<|Aa C<|Aa C<|Aa C<|Aa C<|Aa C<|Aa C<|Aa C<|Aa C<|Aa C<|Aa C<|Aa (Er C<|by first|omega|rfl|((try dsimp only);first|exact best_yes (by simpa using M) (by first|exact .inl aa|exact .inr ab)|exact (best_yes (by simpa using M)<|by first|exact .inl aa|exact .inr ab).symm|exact best_no (by first|(left;simpa using M)|exact .inr ⟨aa,ab⟩)|exact (best_no<|by first|(left;simpa using M)|exact .inr ⟨aa,ab⟩).symm)) Bp))
    refine Aw<|Am<|Ah<|Ap (S12 2 3 4 5 6 9 10 38 39 87 88 89 C C C C C C C C C C C C)<|Ay<|Gr (Rad C C)<|Gm C<|Bj ?_
    have ay:((e_ Z b).xs.take (q+1)).foldl (lowT<|List.set tr.gone (b).toNat (true)) tr.sup=lowT (List.set tr.gone (b).toNat (true)) ad (e_ (e_ Z b).xs (q:Int)):=by rw [Cj _ q om,List.foldl_append,←a7];rfl
    have ak:=lowT_rng (gone:=(List.set tr.gone (b).toNat (true))) (p:=(e_ (e_ Z b).xs (q:Int))) (by have:=a8 om;omega) a5
    have bc:=lowT_len (List.set tr.gone (b).toNat (true)) ad (e_ (e_ Z b).xs (q:Int))
    exact Cb ((q+1),(ad)) (by dsimp only;exact ⟨om,(by rw [ay];first|exact (low_yes (by simpa using an)<|by simpa using ae).symm|exact (low_no<|by first|(left;simpa using an)|(right;simpa using ae)).symm),(by first|exact ax|(simp only [List.length_set];exact ax)),(by first|(rw [low_yes (by simpa using an) (by simpa using ae)] at ak;exact λx hx=>by have:=ak x hx;push_cast;omega)|(rw [low_no (by first|(left;simpa using an)|(right;simpa using ae))] at ak;exact λx hx=>by have:=ak x hx;push_cast;omega))⟩) (hL:=(Aa C<|Aa C<|Aa C<|Aa C<|Aa C<|Aa C<|Aa C<|Aa C<|Aa C<|Aa C<|Aa C<|Aa (Er C<|by first|omega|rfl|((try dsimp only);first|exact best_yes (by simpa using M) (by first|exact .inl aa|exact .inr ab)|exact (best_yes (by simpa using M)<|by first|exact .inl aa|exact .inr ab).symm|exact best_no (by first|(left;simpa using M)|exact .inr ⟨aa,ab⟩)|exact (best_no<|by first|(left;simpa using M)|exact .inr ⟨aa,ab⟩).symm)) Bp))
   refine eb<|eb<|eb<|eb<|eb<|eb<|Gr (Au C C)<|Ac<|Ap (S14 106 14 2 3 4 5 6 9 10 38 39 87 88 89 C C C C C C C C C C C C C C)<|Dg C<|Aw<|Am<|Ah<|Ap (S12 2 3 4 5 6 9 10 38 39 87 88 89 C C C C C C C C C C C C)<|Ay<|Gr (Rad C C)<|Gm C<|Bj ?_
   have ay:((e_ Z b).xs.take (q+1)).foldl (lowT<|List.set tr.gone (b).toNat (true)) tr.sup=lowT (List.set tr.gone (b).toNat (true)) ad (e_ (e_ Z b).xs (q:Int)):=by rw [Cj _ q om,List.foldl_append,←a7];rfl
   have ak:=lowT_rng (gone:=(List.set tr.gone (b).toNat (true))) (p:=(e_ (e_ Z b).xs (q:Int))) (by have:=a8 om;omega) a5
   have bc:=lowT_len (List.set tr.gone (b).toNat (true)) ad (e_ (e_ Z b).xs (q:Int))
   exact Cb ((q+1),(ad)) (by dsimp only;exact ⟨om,(by rw [ay];first|exact (low_yes (by simpa using an)<|by simpa using ae).symm|exact (low_no<|by first|(left;simpa using an)|(right;simpa using ae)).symm),(by first|exact ax|(simp only [List.length_set];exact ax)),(by first|(rw [low_yes (by simpa using an) (by simpa using ae)] at ak;exact λx hx=>by have:=ak x hx;push_cast;omega)|(rw [low_no (by first|(left;simpa using an)|(right;simpa using ae))] at ak;exact λx hx=>by have:=ak x hx;push_cast;omega))⟩) (hL:=(Aa C<|Aa C<|Aa C<|Aa C<|Aa C<|Aa C<|Aa C<|Aa C<|Aa C<|Aa C<|Aa C<|Aa (Er C<|by first|omega|rfl|((try dsimp only);first|exact best_yes (by simpa using M) (by first|exact .inl aa|exact .inr ab)|exact (best_yes (by simpa using M)<|by first|exact .inl aa|exact .inr ab).symm|exact best_no (by first|(left;simpa using M)|exact .inr ⟨aa,ab⟩)|exact (best_no<|by first|(left;simpa using M)|exact .inr ⟨aa,ab⟩).symm)) Bp))
  refine Bt<|Aq<|Aq<|Bb<|Am<|Ah<|Ay<|Gr (Rad C C)<|Gm C<|Bj ?_
  have ba:(TrS.mk ad (List.set tr.gone (b).toNat (true)) (List.set tr.num (b).toNat (max tr.k<|e_ tr.sup b)) (tr.ord++[b])<|max tr.k<|e_ tr.sup b)=stepTr (trisE nd es) tr:=by unfold stepTr;rw [bf,a7,List.take_of_length_le om,rows_atG a3 a4.1 om]
  exact Cb ((j+1),((TrS.mk ad (List.set tr.gone (b).toNat (true)) (List.set tr.num (b).toNat (max tr.k<|e_ tr.sup b)) (tr.ord++[b])<|max tr.k<|e_ tr.sup b)),(az),(a1)) (by dsimp only;exact ⟨om,(by rw [ba,bg];rfl),(by rw [ba];exact au.step a0 om)⟩) (hL:=(Aa (C8 C<|by first|rfl|simp)<|Aa C<|Aa C<|Aa C<|Aa C<|Aa C<|Aa (Er C<|by first|omega|rfl|((try dsimp only);first|exact best_yes (by simpa using M) (by first|exact .inl aa|exact .inr ab)|exact (best_yes (by simpa using M)<|by first|exact .inl aa|exact .inr ab).symm|exact best_no (by first|(left;simpa using M)|exact .inr ⟨aa,ab⟩)|exact (best_no<|by first|(left;simpa using M)|exact .inr ⟨aa,ab⟩).symm))<|Aa C<|Aa (Er C<|by first|omega|rfl|((try dsimp only);first|exact best_yes (by simpa using M) (by first|exact .inl aa|exact .inr ab)|exact (best_yes (by simpa using M)<|by first|exact .inl aa|exact .inr ab).symm|exact best_no (by first|(left;simpa using M)|exact .inr ⟨aa,ab⟩)|exact (best_no<|by first|(left;simpa using M)|exact .inr ⟨aa,ab⟩).symm)) Bp))
 refine Bt<|Aq<|Aq<|Bb<|Ah<|Ad<|Gm C<|Gm C<|Ga C<|Ga C<|Ac<|Ap (S2 3 2 C C)<|Az ?_
 have bp:j=(trisE nd es).length:=by omega
 subst bp
 subst bg
 have bb:=au.nlen
 exact C2 C C C (vc 3 (.slice ao (trussO<|trisE nd es).length co) (trussO<|trisE nd es)::vc 3 (.slice ar (trussN<|trisE nd es).length ah) (trussN<|trisE nd es)::I) (by show Fit κ _ (vc 3 _ _::vc 3 (.slice _ (runTr (trisE nd es) (trisE nd es).length).num.length _) (runTr (trisE nd es) (trisE nd es).length).num::I);rw [bb];simp only [List.length_replicate,a6];exact Bl) ⟨ao,co,ar,ah,by show _=Value.tuple #[_,.slice _ (runTr (trisE nd es) (trisE nd es).length).num.length _];rw [bb];simp only [List.length_replicate,a6];rfl,rfl⟩
def trussG(nd:Int)(es:List Pt):List Int:=if checkG nd es≠0 then [] else trussN (trisE nd es)
theorem trussG_bd{nd:Int}{es:List Pt}(M:GrOk nd es)(h1:1<=nd):∀x∈trussG nd es,0<=x/\x<=nd - 1:=λx Z=>by
 unfold trussG at Z
 rw [if_neg (λh=>h<|checkG_ok.2 M)] at Z
 have:=(trussN_bound<|tris_ok M).2 x Z
 omega
theorem TNumbers_ok{κ:Ctx}{I:List Item}{nd:Int}{es:List Pt}(hl:Sl κ I va es)(hb:es.length<=1000000)(hT:TabRd κ I 0 tzCells):eu prog κ 85 [.agg #[e7 nd,va]] I (λr J=>∃a c,r = .tuple #[.slice a (trussG nd es).length c,e7 (checkG nd es)]/\J=vk 3 a c (trussG nd es)::I):=by
 refine Ce1 Tryz.func85 C C ?_
 refine Ad<|Ge1 (Bd (cs:=[_,_]) C C C) λb1=>Ga C<|Ga C<|Ac<|Ar<|Ad<|Gl2 ty38 ?_
 refine Gc0 (Aj c_ C C<|CheckGen_ok<|A8 hl) ?_
 refine Ga C<|Ac<|Ad<|Gm C<|Gr (Be C C)<|Ac<|A7 C (λc10=>?_)<|λc10=>?_
 ·refine Ad (Gm C<|Ga C<|Ga C<|Ac<|Az<|Ao ?_)
  have Z:(trussG nd es)=[]:=if_pos c10
  exact C2 C C C (vk 3 none 0 (trussG nd es)::I) (by unfold vk;rw [Z];exact Co (show Fit κ _ I from Ax)<|Cf (α:=Int) _ _) ⟨none,0,by rw [Z];rfl,rfl⟩
 refine Aw<|Ah<|Ad<|Gl2 ty38 ?_
 refine G.e (Aj c_ C C<|TPeel_ok (nd:=nd) (A8 hl) (checkG_ok.1<|Classical.not_not.1 c10) om<|Bn hT Ax) ?_
 rintro _ _ ⟨_,_,⟨ad,ab,M,aa,rfl,rfl⟩,rfl,rfl⟩
 refine Gm C<|Gr (Ak C C)<|Gr (Ak C C)<|Ga C<|Ga C<|Ac<|Ap (S1 6)<|Ad<|Gm C<|Ga C<|Ga C<|Ac<|Az ?_
 have Z:(trussG nd es)=_:=if_neg c10
 have hz:checkG nd es=0:=Classical.not_not.1 c10
 exact C2 C C C (vk 3 M aa (trussG nd es)::I) (by unfold vk;rw [Z];exact Bg) ⟨M,aa,by rw [Z,hz]<;>rfl,rfl⟩
theorem nbL_len(es:List Pt)(v:Int):(nbL es v).length<=2*es.length:=by
 induction es with
 |nil=>simp [nbL]
 |cons e es ih=>
  have e1:nbL (e::es) v=((if e.u=v then [e.v] else [])++(if e.v=v then [e.u] else []))++nbL es v:=rfl
  rw [e1,List.length_append,List.length_append,List.length_cons]
  have M:(if e.u=v then [e.v] else ([]:List Int)).length<=1:=by split<;>simp
  have Z:(if e.v=v then [e.u] else ([]:List Int)).length<=1:=by split<;>simp
  omega
end Go.Sl
namespace Go.Sl
end Go.Sl
namespace Go.Sl
end Go.Sl
namespace Go.Sl
open Go.Proofs
set_option maxRecDepth 4000
end Go.Sl
namespace Go.Sl
end Go.Sl
namespace Go.Sl
open Go.Proofs
set_option maxRecDepth 4000
variable{b:Nat}{lv:Value}{ls:List Int}{i:Int}
variable {κ:Ctx}{I:List Item}
theorem MkWindowV_base(hl:∀q,Sl κ (deck b lv q::I) lv ls)(h0:0<=i)   :
    eu prog κ 15 [(pt b)] (e8 b [lv,e7 i] 85::I) (λr J=>∃y:Int×Int×Int×Int,((r = .agg #[e7 y.1,e7 y.2.1,e7 y.2.2.1]/\checkW y.1 y.2.1 y.2.2.1=0)/\0<=y.2.2.2)/\J=[]++deck b lv y.2.2.2::I):=by
 refine Ce1 Tryz.func15 C C ?_
 refine Ad<|Ge1 (A4 ty29 C) λb1=>Ac<|Ar<|Ad<|Gm C<|G.e (Aj c_ C C<|Next_ok (by repeat (first|exact AtF.head _ _|apply AtF.tail)) (Bu (hl _) Ax) om om) ?_
 rintro _ _ ⟨_,_,⟨Z,i3,rfl,ah,hi3,rfl⟩,rfl,rfl⟩
 show G prog κ _ _ _ _ ([(4,e7 Z),(3,pt b),(2,pt b1),(0,pt b)]:Env) (e8 b1 [e7 0,e7 0,e7 0] 29::e8 b [lv,e7 i3] 85::I)
 refine Ac<|A5<|Ad<|Gr (Br C C)<|Ga C<|Ac<|A7 C (λc5=>?_)<|λc5=>?_
 ·refine Ad (Gm C<|G.e (Aj c_ C C<|Next_ok (by repeat (first|exact AtF.head _ _|apply AtF.tail)) (Bu (hl _) Ax) om om) ?_)
  rintro _ _ ⟨_,_,⟨x4,M,rfl,ad,ab,rfl⟩,rfl,rfl⟩
  show G prog κ _ _ _ _ ([(8,e7 x4),(7,pt b),(5,.bool<|decide<|Z=1),(6,.bool<|decide<|Z=1),(4,e7 Z),(3,pt b),(2,pt b1),(0,pt b)]:Env) (e8 b1 [e7 0,e7 0,e7 0] 29::e8 b [lv,e7 M] 85::I)
  refine Gr (Rad C C)<|Gr (Bq (cells:=[_,_,_]) ty29 E0 pl29 C C)<|Ge0 (Df ty29) ?_
  exact Ac<|Az<|Ba<|Ao<|Ez C ty29 C mm C (e8 b [lv,e7 M] 85::I) Bg ⟨(2,1+x4,0,M),⟨⟨rfl,by show checkW 2 (1+x4) (0)=0;unfold checkW;rw [if_neg om,if_neg om]⟩,by show 0<=M;omega⟩,rfl⟩
 refine Ad<|Gr (Br C C)<|Ga C<|Ac<|A7 C (λc11=>?_)<|λc11=>?_
 ·refine Ad (Gm C<|G.e (Aj c_ C C<|Next_ok (by repeat (first|exact AtF.head _ _|apply AtF.tail)) (Bu (hl _) Ax) om om) ?_)
  rintro _ _ ⟨_,_,⟨x6,i7,rfl,aa,ae,rfl⟩,rfl,rfl⟩
  show G prog κ _ _ _ _ ([(14,e7 x6),(13,pt b),(11,.bool<|decide<|Z=2),(12,.bool<|decide<|Z=2),(5,.bool<|decide<|Z=1),(6,.bool<|decide<|Z=1),(4,e7 Z),(3,pt b),(2,pt b1),(0,pt b)]:Env) (e8 b1 [e7 0,e7 0,e7 0] 29::e8 b [lv,e7 i7] 85::I)
  refine Gr (Bq (cells:=[_,_,_]) ty29 E0 pl29 C C)<|Ge0 (Df ty29) ?_
  exact Ac<|Az<|Ba<|Ao<|Ez C ty29 C mm C (e8 b [lv,e7 i7] 85::I) Bg ⟨(3,0,x6,i7),⟨⟨rfl,by show checkW 3 0 (x6)=0;unfold checkW;rw [if_neg om,if_neg om]⟩,by show 0<=i7;omega⟩,rfl⟩
 refine Aw<|Am<|Ah<|Ad<|Gr (Bq (cells:=[_,_,_]) ty29 E0 pl29 C C)<|Ge0 (Df ty29) ?_
 exact Ac<|Az<|Ez C ty29 C mm C (e8 b [lv,e7 i3] 85::I) Bg ⟨(1,0,0,i3),⟨⟨rfl,by show checkW 1 0 (0)=0;unfold checkW;rw [if_neg om,if_neg om]⟩,by show 0<=i3;omega⟩,rfl⟩
theorem MkWindowV_at{F:Item->List Item}(M:AtF I (deck b lv i) F)(hl:∀q,Sl κ (F (deck b lv q)) lv ls)(h0:0<=i)   :
  eu prog κ 15 [(pt b)] I λr J=>∃y:Int×Int×Int×Int,((r = .agg #[e7 y.1,e7 y.2.1,e7 y.2.2.1]/\checkW y.1 y.2.1 y.2.2.1=0)/\0<=y.2.2.2)/\J=[]++F (deck b lv y.2.2.2):=
 eu.at (Post:=λr (y:Int×Int×Int×Int)=>(r = .agg #[e7 y.1,e7 y.2.1,e7 y.2.2.1]/\checkW y.1 y.2.1 y.2.2.1=0)/\0<=y.2.2.2) (Z:=λy:Int×Int×Int×Int=>[]) (X:=λy:Int×Int×Int×Int=>deck b lv y.2.2.2) M λJ _ hF=>MkWindowV_base (λq=>(hl q).fit (hF _)) h0  
end Go.Sl
