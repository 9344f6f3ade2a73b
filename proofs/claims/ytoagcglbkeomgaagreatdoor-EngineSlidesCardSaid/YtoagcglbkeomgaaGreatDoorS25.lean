/- A part of the proofs of statements of this seat: contracts of functions, and the plain laws that they lean on. No conditions. -/
import Derived.Test.YtoagcglbkeomgaaGreatDoorS24
set_option linter.unusedVariables false
set_option linter.unusedSimpArgs false
set_option linter.unusedSectionVars false
set_option maxHeartbeats 4000000
namespace Go.Sl
open Go.Proofs
set_option maxRecDepth 4000
variable{κ:Ctx}{I:List Item}{last nw:Int}{ab ad ae ah ai aj ak an ao ap aq ar x3 x4 x5 x6 x9:Value}
section
variable {nd:Int}{es es0:List Pt}{u v y:Int}{c:Ev}
theorem find_mem(h:FindP nd es u v y)(M:0<=y):edgeP u v∈es:=by
 rcases h with ⟨_,j,rfl,Z,e⟩|⟨rfl,_⟩
 ·rw [←e];exact B7 om om
 omega
theorem find_not(Z:GrOk nd es)(h:FindP nd es u v y)(h0:¬0<=y):edgeP u v∉es:=by
 rcases h with ⟨_,j,rfl,M,e⟩|⟨_,h1|h1⟩
 ·omega
 ·exact absurd (checkG_ok.2 Z) h1
 exact h1
theorem ch_skip(M:c.kd=1)(Z:edgeP c.u c.v∈es0):chS es0 es c=es:=by unfold chS;rw [if_pos M,if_pos Z]
theorem ch_ins(M:c.kd=1)(Z:edgeP c.u c.v∉es0):chS es0 es c=insB Pt.lt es (edgeP c.u c.v):=by unfold chS;rw [if_pos M,if_neg Z]
theorem ch_del(Z:¬c.kd=1):chS es0 es c=without es (edgeP c.u c.v):=by unfold chS;rw [if_neg Z]
end
theorem Happen_ok{nd kd wd mo bd lt mr tm:Int}{wa:Option Addr}{wn wc:Nat}{lv:SlA}{pv:PkV}{X:List Lk}{T:List Item}(hH:Has I T)(hl:Sl κ T (.slice lv.a X.length lv.c) X)(hp:PkR κ T nd (edgesK X) pv)(hv:checkS nd X=0){evs:List Ev}{ea:Option Addr}{ec:Nat}(he:Sl κ I (.slice ea evs.length ec) evs)(ch:∀e∈evs,FitOk nd e)(cq:evs.length<=1000000)(hT:TabRd κ I 0 tzCells):eu Tryz.prog κ 125 [.agg (ky kd wd mo bd lt mr wa wn wc nd lv.a X.length lv.c (edgesK X) pv tm).toArray,.slice ea evs.length ec] I (λr J=>∃(lw:SlA) (pw:PkV) (Y:List Item),r = .tuple #[.agg (ky kd wd mo bd lt mr wa wn wc nd lw.a (evs.foldl ep X).length lw.c (edgesK (evs.foldl ep X)) pw tm).toArray,e7 0]/\Sl κ (Y++T) (.slice lw.a (evs.foldl ep X).length lw.c) (evs.foldl ep X)/\PkR κ (Y++T) nd (edgesK (evs.foldl ep X)) pw/\J=Y++I):=by
 refine Ce2 Tryz.func125 C C ?_
 refine Ad<|Ge1 (Bd (cs:=[_,_,_,_,_,_,_,_,_,_,_,_,_,_,_,_,_,_,_,_,_,_,_,_,_]) C C C) λb1=>Ge1 (A4 ty47 C) λb2=>Ga C<|Ac<|Ad<|Gr (Runs.lq ty47) ?_
 refine G.e (Aj c_ C C OfK_ok) ?_
 rintro _ _ ⟨_,_,⟨aa,rfl,rfl⟩,rfl,rfl⟩
 refine Ga C<|Ac<|Ar<|Ad<|Gm C<|Gr (Bk Al C)<|Gm C<|Ac<|A5<|B1 (σ:=Nat×(List Lk)×SlA×PkV×(List Item)) (λs=>([(2,pt b1),(4,pt b2),(6,pt aa),(22,.slice ea evs.length ec),(23,e7 ((evs.length:Nat):Int)),(24,e7 ((s.1:Nat):Int))]:Env)) (λs=>e8 aa (pq nd (edgesK s.2.1) s.2.2.2.1) 169::e8 b2 zk 47::e8 b1 (ky kd wd mo bd lt mr wa wn wc nd s.2.2.1.a s.2.1.length s.2.2.1.c (edgesK X) pv tm) 47::(s.2.2.2.2++I)) (λs=>(s.1<=evs.length)/\(s.2.1=(evs.take s.1).foldl ep X)/\(checkS nd s.2.1=0)/\(Sl κ (s.2.2.2.2++T) (.slice s.2.2.1.a s.2.1.length s.2.2.1.c) s.2.1)/\(PkR κ (s.2.2.2.2++T) nd (edgesK s.2.1) s.2.2.2.1)) (λs=>evs.length - s.1) (0,X,lv,pv,[]) ⟨om,rfl,hv,hl,hp⟩ (cx4<|Aa C<|Aa Cd Bp) Bl ?_
 rintro ⟨i,X1,lw,pw,Y⟩ hp
 dsimp only at hp ⊢
 obtain ⟨hi,hX,bf,cg,cb⟩:=hp
 have hU:=Cl hH Y
 have ce:=cg.fit (κ:=κ) hU.fit
 have ct:=cb.fit hU.fit
 have cj:=edges_le (edgesK_ok bf)
 have ci:=cj
 rw [edgesK_len] at ci
 refine Ad<|Gr (A9 C C)<|Ac<|Ar<|A7 C (λcn=>?_)<|λcn=>?_
 ·refine Aw (Ah<|Ar<|A5<|Ad<|Gr (A3 (α:=Ev) (xs:=evs) Al ty54 C C (A8 he) om om)<|Gr (Bv (α:=Ev) (xs:=evs) ty54 C (A8 he) om om) ?_)
  have br:=ch _ (B7 (xs:=evs) (i:=(i:Int)) om om)
  generalize hxe:e_ evs i=xe at br ⊢
  refine Ge1 (A4 ty54 C) λb4=>Ge0 (E8 ty54) ?_
  refine Ac<|Ad<|Gf fld47_2 C<|Gl2 ty35 ?_
  refine Gc2 (Aj c_ C C<|LGraph_ok (nd:=nd) (A8 ce) bf om) λan ao=>?_
  refine Gm C<|Gr (Ak C C)<|Gr (Ak C C)<|Ge1 (A4 ty38 C) λb7=>Ge0 (Cz ty38) ?_
  refine Ga C<|Ac<|Ap (S8 9 8 2 4 6 22 23 24)<|Ad<|Gf fld47_2 C<|Gl2 ty35 ?_
  refine Gl7 ty54 ?_
  refine G.e (Aj c_ C C<|ApplyC_ok (nd:=nd) (e:=xe) (xs:=X1) (A8 ce) bf br om) ?_
  rintro _ _ ⟨_,_,⟨ai,ah,ad,ab,rfl,rfl⟩,rfl,rfl⟩
  refine Gm C<|Gr (Ak C C)<|Gr (Ak C C)<|Gr (Ak C C)<|Ge1 (A4 ty35 C) λbe=>Ge0 (Cz ty35) ?_
  refine Ga C<|Ga C<|Ac<|Ap (S10 13 12 11 9 2 4 6 22 23 24)<|Ar<|Ad<|Gm C<|Gr (Be C C)<|Ac<|A7 C (λcd=>?_)<|λcd=>?_
  ·exact absurd cd dc
  refine Aw<|Ah<|Ad<|Gl2 ty35 ?_
  refine Gf fld47_2 C<|Ge0 (B6 (cs:=[_,_,_,_,_,_,_,_,_,_,_,_,_,_,_,_,_,_,_,_,_,_,_,_,_]) (vs:=[_,_]) (cs':=[_,_,_,_,_,_,_,_,_,_,_,_,_,_,_,_,_,_,_,_,_,_,_,_,_]) ty35) ?_
  refine Ac<|Ap (S8 12 9 2 4 6 22 23 24)<|Ad<|Gm C<|Gr (Bk Al C)<|Gm C<|Ac<|A5<|B1 (σ:=Nat×(List Pt)×PkV×(List Item)) (λs=>([(2,pt b1),(4,pt b2),(6,pt aa),(9,pt b7),(22,.slice ea evs.length ec),(23,e7 ((evs.length:Nat):Int)),(24,e7<|(i:Int)),(48,.slice ad (chgL X1 xe).length ab),(49,e7<|(((chgL X1 xe).length:Nat):Int)),(50,e7 ((s.1:Nat):Int))]:Env)) (λs=>e8 be [e7 nd,.slice ai (ep X1 xe).length ah] 35::vk 82 ai ah (ep X1 xe)::vk 54 ad ab (chgL X1 xe)::e8 b7 [e7 nd,.slice an (edgesK X1).length ao] 38::vk 105 an ao (edgesK X1)::e8 b4 (ez xe) 54::e8 aa (pq nd s.2.1 s.2.2.1) 169::e8 b2 zk 47::e8 b1 (ky kd wd mo bd lt mr wa wn wc nd ai (ep X1 xe).length ah (edgesK X) pv tm) 47::(s.2.2.2++I)) (λs=>(s.1<=(chgL X1 xe).length)/\(s.2.1=chE X1 xe s.1)/\(PkR κ (s.2.2.2++T) nd s.2.1 s.2.2.1)) (λs=>(chgL X1 xe).length - s.1) (0,(edgesK X1),pw,Y) ⟨om,rfl,cb⟩ (cx4<|cx4<|Aa C<|Aa Cd Bp) Bl ?_
  rintro ⟨j,M,pz,Z⟩ hp
  dsimp only at hp ⊢
  obtain ⟨hj,bp,bq⟩:=hp
  have cp:=chg_len X1 xe
  have cm:=Cl hH Z
  have ar:=bq.fit (κ:=κ) cm.fit
  refine Ad<|Gr (A9 C C)<|Ac<|Ar<|A7 C (λco=>?_)<|λco=>?_
  ·refine Aw (Ah<|Ar<|A5<|Ad<|Gr (A3 (α:=Ev) (xs:=chgL X1 xe) Al ty54 C C Bi om om)<|Gr (Bv (α:=Ev) (xs:=chgL X1 xe) ty54 C Bi om om) ?_)
   have ak:=ch_at bf br (j:=j) om
   rw [←bp] at ak
   generalize hcc:e_ (chgL X1 xe) j=cc at ak ⊢
   refine Ge1 (A4 ty54 C) λap=>Ge0 (E8 ty54) ?_
   refine Ac<|Ap (S11 15 2 4 6 9 22 23 24 48 49 50)<|Ad<|Gf fld54_0 C<|Gl ef ?_
   refine Gr (Br C C)<|Ga C<|Ac<|Ap (S12 16 15 2 4 6 9 22 23 24 48 49 50)<|Ar<|Ad<|Gm C<|Gm C<|Bh (d:=58) C (λaq=>?_)<|λaq=>?_
   ·refine e9 (Bc (vs:=[_,_]) ty38) ?_
    refine e9 (Ab fld54_2 C)<|e9 (A0 ef) ?_
    refine e9 (Ab fld54_3 C)<|e9 (A0 ef) ?_
    refine Dx (Cq C C C) (Aj c_ C C<|FindG_ok (nd:=nd) Bi cc.u cc.v om) ?_
    rintro _ _ ⟨_,_,⟨cr,rfl,bz,rfl⟩,rfl,rfl⟩
    refine e9 (Cv C C)<|Gr (Av C C)<|Ac<|Ap (S13 66 16 15 2 4 6 9 22 23 24 48 49 50)<|A7 C (λca=>?_)<|λca=>?_
    ·exact Bt<|Aq<|Bb<|Ah<|Ay<|Gr (Rad C C)<|Gm C<|Bj<|Cb ((j+1),(M),(pz),(Z))<|by dsimp only;exact ⟨om,(by rw [chE_succ om,←bp,hcc,ch_skip aq<|find_mem bz ca]),bq⟩
    refine Aw<|Ah<|Ad<|Gm C ?_
    have cf:=find_not (edgesK_ok bf) bz ca
    have bt:edgeP cc.u cc.v∉M:=by rw [ak.set aq];exact cf
    refine G.e (Aj c_ C C All_ok) ?_
    rintro _ _ ⟨_,_,⟨au,rfl,rfl⟩,rfl,rfl⟩
    refine Gr (Bk Ck C)<|Gm C<|Ac<|Ap (S15 70 69 68 16 15 2 4 6 9 22 23 24 48 49 50 C C C C C C C C C C C C C C C)<|A5<|W.rounds 5 ?_
    refine Dl (n:=4)<|Ap (L':=[(70,e7 0),(69,e7 ((4:Nat):Int)),(68,.slice au 4 4),(16,.bool<|decide<|cc.kd=1),(15,pt ap),(2,pt b1),(4,pt b2),(6,pt aa),(9,pt b7),(22,.slice ea evs.length ec),(23,e7 ((evs.length:Nat):Int)),(24,e7<|(i:Int)),(48,.slice ad (chgL X1 xe).length ab),(49,e7<|(((chgL X1 xe).length:Nat):Int)),(50,e7<|(j:Int))]) (cx4<|cx4<|cx4<|cx2<|Aa C Bp)<|Ad<|Gr (A9 C C)<|Ac<|Ap (S16 71 70 69 68 16 15 2 4 6 9 22 23 24 48 49 50 C C C C C C C C C C C C C C C C)<|Ar<|A7 C (λae=>?_)<|λae=>?_
    ·refine Aw (Ah<|Ap (S15 70 69 68 16 15 2 4 6 9 22 23 24 48 49 50 C C C C C C C C C C C C C C C)<|Ar<|A5<|Ad<|Gr (A3 (α:=IfcC) (xs:=([⟨170,aa,0⟩,⟨171,aa,3⟩,⟨172,aa,6⟩,⟨173,aa,10⟩]:List IfcC)) Ck ty117 C C Bi om om)<|Gr (B9 (α:=IfcC) (xs:=([⟨170,aa,0⟩,⟨171,aa,3⟩,⟨172,aa,6⟩,⟨173,aa,10⟩]:List IfcC)) (u:= .iface 170 (pt aa)) ty117 C Bi dc (show (0:Int)<((4:Nat):Int) by decide) C)<|Ga C<|Ac<|Ap (S16 18 70 69 68 16 15 2 4 6 9 22 23 24 48 49 50 C C C C C C C C C C C C C C C C)<|Ad<|Gm C<|Gf fld54_2 C<|Gl ef ?_)
     refine Gf fld54_3 C<|Gl ef ?_
     refine Gm C<|G.e (D4 c_ C (λw=>by kernel_rfl) C C<|Cp (J:=e8 aa (pq nd M pz) 169::vc 117 (.slice au 4 4) (([⟨170,aa,0⟩,⟨171,aa,3⟩,⟨172,aa,6⟩,⟨173,aa,10⟩]:List IfcC))::e8 ap (ez cc) 54::e8 be [e7 nd,.slice ai (ep X1 xe).length ah] 35::vk 82 ai ah (ep X1 xe)::vk 54 ad ab (chgL X1 xe)::e8 b7 [e7 nd,.slice an (edgesK X1).length ao] 38::vk 105 an ao (edgesK X1)::e8 b4 (ez xe) 54::e8 b2 zk 47::e8 b1 (ky kd wd mo bd lt mr wa wn wc nd ai (ep X1 xe).length ah (edgesK X) pv tm) 47::(Z++I)) Bl<|ChgI0_ok (b:=aa) (decide_eq_true aq) (A8 ar.e1) (A8 ar.n1) ak.ok ak.ends bt<|Bn hT Ax) ?_
     rintro _ _ ⟨_,_,⟨ax,az,a3,a0,rfl,rfl⟩,rfl,rfl⟩
     refine Ga C<|Ac<|Ap (S16 19 70 69 68 16 15 2 4 6 9 22 23 24 48 49 50 C C C C C C C C C C C C C C C C)<|Ad<|Gm C<|Gr (Be C C)<|Ac<|Ap (S17 82 19 70 69 68 16 15 2 4 6 9 22 23 24 48 49 50 C C C C C C C C C C C C C C C C C)<|A7 C (λaj=>?_)<|λaj=>?_
     ·exact absurd aj dc
     refine Aw<|Am<|Ah<|Ap (S15 70 69 68 16 15 2 4 6 9 22 23 24 48 49 50 C C C C C C C C C C C C C C C)<|Ay<|Gr (Rad C C)<|Gm C<|Bj<|Dl (n:=3)<|Ap (L':=[(70,e7 1),(69,e7 ((4:Nat):Int)),(68,.slice au 4 4),(16,.bool<|decide<|cc.kd=1),(15,pt ap),(2,pt b1),(4,pt b2),(6,pt aa),(9,pt b7),(22,.slice ea evs.length ec),(23,e7 ((evs.length:Nat):Int)),(24,e7<|(i:Int)),(48,.slice ad (chgL X1 xe).length ab),(49,e7<|(((chgL X1 xe).length:Nat):Int)),(50,e7<|(j:Int))]) (cx4<|cx4<|cx4<|cx2<|Aa C Bp)<|Ad<|Gr (A9 C C)<|Ac<|Ap (S16 71 70 69 68 16 15 2 4 6 9 22 23 24 48 49 50 C C C C C C C C C C C C C C C C)<|Ar<|A7 C (λae=>?_)<|λae=>?_
     ·refine Aw (Ah<|Ap (S15 70 69 68 16 15 2 4 6 9 22 23 24 48 49 50 C C C C C C C C C C C C C C C)<|Ar<|A5<|Ad<|Gr (A3 (α:=IfcC) (xs:=([⟨170,aa,0⟩,⟨171,aa,3⟩,⟨172,aa,6⟩,⟨173,aa,10⟩]:List IfcC)) Ck ty117 C C Bi om om)<|Gr (B9 (α:=IfcC) (xs:=([⟨170,aa,0⟩,⟨171,aa,3⟩,⟨172,aa,6⟩,⟨173,aa,10⟩]:List IfcC)) (u:= .iface 171 (.pointer<|some ⟨aa,3,none⟩)) ty117 C Bi dc (show (1:Int)<((4:Nat):Int) by decide) C)<|Ga C<|Ac<|Ap (S16 18 70 69 68 16 15 2 4 6 9 22 23 24 48 49 50 C C C C C C C C C C C C C C C C)<|Ad<|Gm C<|Gf fld54_2 C<|Gl ef ?_)
      refine Gf fld54_3 C<|Gl ef ?_
      refine Gm C<|G.e (D4 c_ C (λw=>by kernel_rfl) C C<|Cp (J:=e8 aa (px nd (insB Pt.lt M<|edgeP cc.u cc.v) ax az a3 a0 M pz.e2.a pz.e2.c pz.n2.a pz.n2.c M pz.e3.a pz.e3.c pz.n3.a pz.n3.c M pz.e4.a pz.e4.c pz.n4.a pz.n4.c) 169::vk 3 a3 a0 (coreN nd<|insB Pt.lt M<|edgeP cc.u cc.v)::vk 105 ax az (insB Pt.lt M<|edgeP cc.u cc.v)::vc 117 (.slice au 4 4) (([⟨170,aa,0⟩,⟨171,aa,3⟩,⟨172,aa,6⟩,⟨173,aa,10⟩]:List IfcC))::e8 ap (ez cc) 54::e8 be [e7 nd,.slice ai (ep X1 xe).length ah] 35::vk 82 ai ah (ep X1 xe)::vk 54 ad ab (chgL X1 xe)::e8 b7 [e7 nd,.slice an (edgesK X1).length ao] 38::vk 105 an ao (edgesK X1)::e8 b4 (ez xe) 54::e8 b2 zk 47::e8 b1 (ky kd wd mo bd lt mr wa wn wc nd ai (ep X1 xe).length ah (edgesK X) pv tm) 47::(Z++I)) Bl<|ChgI1_ok (b:=aa) (decide_eq_true aq) (A8 ar.e2) (A8 ar.n2) ak.ok ak.ends bt<|Bn hT Ax) ?_
      rintro _ _ ⟨_,_,⟨a6,bb,bc,ba,rfl,rfl⟩,rfl,rfl⟩
      refine Ga C<|Ac<|Ap (S16 19 70 69 68 16 15 2 4 6 9 22 23 24 48 49 50 C C C C C C C C C C C C C C C C)<|Ad<|Gm C<|Gr (Be C C)<|Ac<|Ap (S17 82 19 70 69 68 16 15 2 4 6 9 22 23 24 48 49 50 C C C C C C C C C C C C C C C C C)<|A7 C (λaj=>?_)<|λaj=>?_
      ·exact absurd aj dc
      refine Aw<|Am<|Ah<|Ap (S15 70 69 68 16 15 2 4 6 9 22 23 24 48 49 50 C C C C C C C C C C C C C C C)<|Ay<|Gr (Rad C C)<|Gm C<|Bj<|Dl (n:=2)<|Ap (L':=[(70,e7 2),(69,e7 ((4:Nat):Int)),(68,.slice au 4 4),(16,.bool<|decide<|cc.kd=1),(15,pt ap),(2,pt b1),(4,pt b2),(6,pt aa),(9,pt b7),(22,.slice ea evs.length ec),(23,e7 ((evs.length:Nat):Int)),(24,e7<|(i:Int)),(48,.slice ad (chgL X1 xe).length ab),(49,e7<|(((chgL X1 xe).length:Nat):Int)),(50,e7<|(j:Int))]) (cx4<|cx4<|cx4<|cx2<|Aa C Bp)<|Ad<|Gr (A9 C C)<|Ac<|Ap (S16 71 70 69 68 16 15 2 4 6 9 22 23 24 48 49 50 C C C C C C C C C C C C C C C C)<|Ar<|A7 C (λae=>?_)<|λae=>?_
      ·refine Aw (Ah<|Ap (S15 70 69 68 16 15 2 4 6 9 22 23 24 48 49 50 C C C C C C C C C C C C C C C)<|Ar<|A5<|Ad<|Gr (A3 (α:=IfcC) (xs:=([⟨170,aa,0⟩,⟨171,aa,3⟩,⟨172,aa,6⟩,⟨173,aa,10⟩]:List IfcC)) Ck ty117 C C Bi om om)<|Gr (B9 (α:=IfcC) (xs:=([⟨170,aa,0⟩,⟨171,aa,3⟩,⟨172,aa,6⟩,⟨173,aa,10⟩]:List IfcC)) (u:= .iface 172 (.pointer<|some ⟨aa,6,none⟩)) ty117 C Bi dc (show (2:Int)<((4:Nat):Int) by decide) C)<|Ga C<|Ac<|Ap (S16 18 70 69 68 16 15 2 4 6 9 22 23 24 48 49 50 C C C C C C C C C C C C C C C C)<|Ad<|Gm C<|Gf fld54_2 C<|Gl ef ?_)
       refine Gf fld54_3 C<|Gl ef ?_
       refine Gm C<|G.e (D4 c_ C (λw=>by kernel_rfl) C C<|Cp (J:=e8 aa (px nd (insB Pt.lt M<|edgeP cc.u cc.v) ax az a3 a0 (insB Pt.lt M<|edgeP cc.u cc.v) a6 bb bc ba M pz.e3.a pz.e3.c pz.n3.a pz.n3.c M pz.e4.a pz.e4.c pz.n4.a pz.n4.c) 169::vk 3 bc ba (trussG nd<|insB Pt.lt M<|edgeP cc.u cc.v)::vk 105 a6 bb (insB Pt.lt M<|edgeP cc.u cc.v)::vk 3 a3 a0 (coreN nd<|insB Pt.lt M<|edgeP cc.u cc.v)::vk 105 ax az (insB Pt.lt M<|edgeP cc.u cc.v)::vc 117 (.slice au 4 4) (([⟨170,aa,0⟩,⟨171,aa,3⟩,⟨172,aa,6⟩,⟨173,aa,10⟩]:List IfcC))::e8 ap (ez cc) 54::e8 be [e7 nd,.slice ai (ep X1 xe).length ah] 35::vk 82 ai ah (ep X1 xe)::vk 54 ad ab (chgL X1 xe)::e8 b7 [e7 nd,.slice an (edgesK X1).length ao] 38::vk 105 an ao (edgesK X1)::e8 b4 (ez xe) 54::e8 b2 zk 47::e8 b1 (ky kd wd mo bd lt mr wa wn wc nd ai (ep X1 xe).length ah (edgesK X) pv tm) 47::(Z++I)) Bl<|ChgI2_ok (b:=aa) (decide_eq_true aq) (A8 ar.e3) (A8 ar.n3) ak.ok ak.ends bt) ?_
       rintro _ _ ⟨_,_,⟨bi,bg,bj,bo,rfl,rfl⟩,rfl,rfl⟩
       refine Ga C<|Ac<|Ap (S16 19 70 69 68 16 15 2 4 6 9 22 23 24 48 49 50 C C C C C C C C C C C C C C C C)<|Ad<|Gm C<|Gr (Be C C)<|Ac<|Ap (S17 82 19 70 69 68 16 15 2 4 6 9 22 23 24 48 49 50 C C C C C C C C C C C C C C C C C)<|A7 C (λaj=>?_)<|λaj=>?_
       ·exact absurd aj dc
       refine Aw<|Am<|Ah<|Ap (S15 70 69 68 16 15 2 4 6 9 22 23 24 48 49 50 C C C C C C C C C C C C C C C)<|Ay<|Gr (Rad C C)<|Gm C<|Bj<|Dl (n:=1)<|Ap (L':=[(70,e7 3),(69,e7 ((4:Nat):Int)),(68,.slice au 4 4),(16,.bool<|decide<|cc.kd=1),(15,pt ap),(2,pt b1),(4,pt b2),(6,pt aa),(9,pt b7),(22,.slice ea evs.length ec),(23,e7 ((evs.length:Nat):Int)),(24,e7<|(i:Int)),(48,.slice ad (chgL X1 xe).length ab),(49,e7<|(((chgL X1 xe).length:Nat):Int)),(50,e7<|(j:Int))]) (cx4<|cx4<|cx4<|cx2<|Aa C Bp)<|Ad<|Gr (A9 C C)<|Ac<|Ap (S16 71 70 69 68 16 15 2 4 6 9 22 23 24 48 49 50 C C C C C C C C C C C C C C C C)<|Ar<|A7 C (λae=>?_)<|λae=>?_
       ·refine Aw (Ah<|Ap (S15 70 69 68 16 15 2 4 6 9 22 23 24 48 49 50 C C C C C C C C C C C C C C C)<|Ar<|A5<|Ad<|Gr (A3 (α:=IfcC) (xs:=([⟨170,aa,0⟩,⟨171,aa,3⟩,⟨172,aa,6⟩,⟨173,aa,10⟩]:List IfcC)) Ck ty117 C C Bi om om)<|Gr (B9 (α:=IfcC) (xs:=([⟨170,aa,0⟩,⟨171,aa,3⟩,⟨172,aa,6⟩,⟨173,aa,10⟩]:List IfcC)) (u:= .iface 173 (.pointer<|some ⟨aa,10,none⟩)) ty117 C Bi dc (show (3:Int)<((4:Nat):Int) by decide) C)<|Ga C<|Ac<|Ap (S16 18 70 69 68 16 15 2 4 6 9 22 23 24 48 49 50 C C C C C C C C C C C C C C C C)<|Ad<|Gm C<|Gf fld54_2 C<|Gl ef ?_)
        refine Gf fld54_3 C<|Gl ef ?_
        refine Gm C<|G.e (D4 c_ C (λw=>by kernel_rfl) C C<|Cp (J:=e8 aa (px nd (insB Pt.lt M<|edgeP cc.u cc.v) ax az a3 a0 (insB Pt.lt M<|edgeP cc.u cc.v) a6 bb bc ba (insB Pt.lt M<|edgeP cc.u cc.v) bi bg bj bo M pz.e4.a pz.e4.c pz.n4.a pz.n4.c) 169::vk 3 bj bo (triL nd<|insB Pt.lt M<|edgeP cc.u cc.v)::vk 105 bi bg (insB Pt.lt M<|edgeP cc.u cc.v)::vk 3 bc ba (trussG nd<|insB Pt.lt M<|edgeP cc.u cc.v)::vk 105 a6 bb (insB Pt.lt M<|edgeP cc.u cc.v)::vk 3 a3 a0 (coreN nd<|insB Pt.lt M<|edgeP cc.u cc.v)::vk 105 ax az (insB Pt.lt M<|edgeP cc.u cc.v)::vc 117 (.slice au 4 4) (([⟨170,aa,0⟩,⟨171,aa,3⟩,⟨172,aa,6⟩,⟨173,aa,10⟩]:List IfcC))::e8 ap (ez cc) 54::e8 be [e7 nd,.slice ai (ep X1 xe).length ah] 35::vk 82 ai ah (ep X1 xe)::vk 54 ad ab (chgL X1 xe)::e8 b7 [e7 nd,.slice an (edgesK X1).length ao] 38::vk 105 an ao (edgesK X1)::e8 b4 (ez xe) 54::e8 b2 zk 47::e8 b1 (ky kd wd mo bd lt mr wa wn wc nd ai (ep X1 xe).length ah (edgesK X) pv tm) 47::(Z++I)) Bl<|ChgI3_ok (b:=aa) (decide_eq_true aq) (A8 ar.e4) (A8 ar.n4) ak.ok ak.ends bt<|Bn hT Ax) ?_
        rintro _ _ ⟨_,_,⟨bw,b8,b9,bx,rfl,rfl⟩,rfl,rfl⟩
        refine Ga C<|Ac<|Ap (S16 19 70 69 68 16 15 2 4 6 9 22 23 24 48 49 50 C C C C C C C C C C C C C C C C)<|Ad<|Gm C<|Gr (Be C C)<|Ac<|Ap (S17 82 19 70 69 68 16 15 2 4 6 9 22 23 24 48 49 50 C C C C C C C C C C C C C C C C C)<|A7 C (λaj=>?_)<|λaj=>?_
        ·exact absurd aj dc
        refine Aw<|Am<|Ah<|Ap (S15 70 69 68 16 15 2 4 6 9 22 23 24 48 49 50 C C C C C C C C C C C C C C C)<|Ay<|Gr (Rad C C)<|Gm C<|Bj<|Dl (n:=0)<|Ap (L':=[(70,e7 4),(69,e7 ((4:Nat):Int)),(68,.slice au 4 4),(16,.bool<|decide<|cc.kd=1),(15,pt ap),(2,pt b1),(4,pt b2),(6,pt aa),(9,pt b7),(22,.slice ea evs.length ec),(23,e7 ((evs.length:Nat):Int)),(24,e7<|(i:Int)),(48,.slice ad (chgL X1 xe).length ab),(49,e7<|(((chgL X1 xe).length:Nat):Int)),(50,e7<|(j:Int))]) (cx4<|cx4<|cx4<|cx2<|Aa C Bp)<|Ad<|Gr (A9 C C)<|Ac<|Ap (S16 71 70 69 68 16 15 2 4 6 9 22 23 24 48 49 50 C C C C C C C C C C C C C C C C)<|Ar<|A7 C (λae=>?_)<|λae=>?_
        ·exact absurd ae dc
        exact Bt<|Aq<|Aq<|Bb<|Am<|Ah<|Ap (S10 2 4 6 9 22 23 24 48 49 50)<|Ay<|Gr (Rad C C)<|Gm C<|Bj<|Cb ((j+1),((insB Pt.lt M<|edgeP cc.u cc.v)),(⟨⟨ax,az⟩,⟨a3,a0⟩,⟨a6,bb⟩,⟨bc,ba⟩,⟨bi,bg⟩,⟨bj,bo⟩,⟨bw,b8⟩,⟨b9,bx⟩⟩),((vk 3 b9 bx (quadL nd<|insB Pt.lt M<|edgeP cc.u cc.v)::vk 105 bw b8 (insB Pt.lt M<|edgeP cc.u cc.v)::vk 3 bj bo (triL nd<|insB Pt.lt M<|edgeP cc.u cc.v)::vk 105 bi bg (insB Pt.lt M<|edgeP cc.u cc.v)::vk 3 bc ba (trussG nd<|insB Pt.lt M<|edgeP cc.u cc.v)::vk 105 a6 bb (insB Pt.lt M<|edgeP cc.u cc.v)::vk 3 a3 a0 (coreN nd<|insB Pt.lt M<|edgeP cc.u cc.v)::vk 105 ax az (insB Pt.lt M<|edgeP cc.u cc.v)::Z))) (by dsimp only;exact ⟨om,(by rw [chE_succ om,←bp,hcc,ch_ins aq cf]),⟨Bi,Bi,Bi,Bi,Bi,Bi,Bi,Bi⟩⟩) (hI:=by (try dsimp only);exact Bl)
       exact absurd dc ae
      exact absurd dc ae
     exact absurd dc ae
    exact absurd dc ae
   refine eb<|eb<|eb<|eb<|eb<|eb<|eb<|Gr (Au C C)<|Ac<|Ap (S13 66 16 15 2 4 6 9 22 23 24 48 49 50)<|Dg C<|Aw<|Ah<|Ad<|Gm C<|G.e (Aj c_ C C All_ok) ?_
   rintro _ _ ⟨_,_,⟨av,rfl,rfl⟩,rfl,rfl⟩
   refine Gr (Bk Ck C)<|Gm C<|Ac<|Ap (S15 70 69 68 16 15 2 4 6 9 22 23 24 48 49 50 C C C C C C C C C C C C C C C)<|A5<|W.rounds 5 ?_
   refine Dl (n:=4)<|Ap (L':=[(70,e7 0),(69,e7 ((4:Nat):Int)),(68,.slice av 4 4),(16,.bool<|decide<|cc.kd=1),(15,pt ap),(2,pt b1),(4,pt b2),(6,pt aa),(9,pt b7),(22,.slice ea evs.length ec),(23,e7 ((evs.length:Nat):Int)),(24,e7<|(i:Int)),(48,.slice ad (chgL X1 xe).length ab),(49,e7<|(((chgL X1 xe).length:Nat):Int)),(50,e7<|(j:Int))]) (cx4<|cx4<|cx4<|cx2<|Aa C Bp)<|Ad<|Gr (A9 C C)<|Ac<|Ap (S16 71 70 69 68 16 15 2 4 6 9 22 23 24 48 49 50 C C C C C C C C C C C C C C C C)<|Ar<|A7 C (λae=>?_)<|λae=>?_
   ·refine Aw (Ah<|Ap (S15 70 69 68 16 15 2 4 6 9 22 23 24 48 49 50 C C C C C C C C C C C C C C C)<|Ar<|A5<|Ad<|Gr (A3 (α:=IfcC) (xs:=([⟨170,aa,0⟩,⟨171,aa,3⟩,⟨172,aa,6⟩,⟨173,aa,10⟩]:List IfcC)) Ck ty117 C C Bi om om)<|Gr (B9 (α:=IfcC) (xs:=([⟨170,aa,0⟩,⟨171,aa,3⟩,⟨172,aa,6⟩,⟨173,aa,10⟩]:List IfcC)) (u:= .iface 170 (pt aa)) ty117 C Bi dc (show (0:Int)<((4:Nat):Int) by decide) C)<|Ga C<|Ac<|Ap (S16 18 70 69 68 16 15 2 4 6 9 22 23 24 48 49 50 C C C C C C C C C C C C C C C C)<|Ad<|Gm C<|Gf fld54_2 C<|Gl ef ?_)
    refine Gf fld54_3 C<|Gl ef ?_
    refine Gm C<|G.e (D4 c_ C (λw=>by kernel_rfl) C C<|Cp (J:=e8 aa (pq nd M pz) 169::vc 117 (.slice av 4 4) (([⟨170,aa,0⟩,⟨171,aa,3⟩,⟨172,aa,6⟩,⟨173,aa,10⟩]:List IfcC))::e8 ap (ez cc) 54::e8 be [e7 nd,.slice ai (ep X1 xe).length ah] 35::vk 82 ai ah (ep X1 xe)::vk 54 ad ab (chgL X1 xe)::e8 b7 [e7 nd,.slice an (edgesK X1).length ao] 38::vk 105 an ao (edgesK X1)::e8 b4 (ez xe) 54::e8 b2 zk 47::e8 b1 (ky kd wd mo bd lt mr wa wn wc nd ai (ep X1 xe).length ah (edgesK X) pv tm) 47::(Z++I)) Bl<|ChgD0_ok (b:=aa) (decide_eq_false aq) (A8 ar.e1) (A8 ar.n1) ak.ok ak.ends (ak.cut aq)<|Bn hT Ax) ?_
    rintro _ _ ⟨_,_,⟨a4,a1,aw,ay,rfl,rfl⟩,rfl,rfl⟩
    refine Ga C<|Ac<|Ap (S16 19 70 69 68 16 15 2 4 6 9 22 23 24 48 49 50 C C C C C C C C C C C C C C C C)<|Ad<|Gm C<|Gr (Be C C)<|Ac<|Ap (S17 82 19 70 69 68 16 15 2 4 6 9 22 23 24 48 49 50 C C C C C C C C C C C C C C C C C)<|A7 C (λaj=>?_)<|λaj=>?_
    ·exact absurd aj dc
    refine Aw<|Am<|Ah<|Ap (S15 70 69 68 16 15 2 4 6 9 22 23 24 48 49 50 C C C C C C C C C C C C C C C)<|Ay<|Gr (Rad C C)<|Gm C<|Bj<|Dl (n:=3)<|Ap (L':=[(70,e7 1),(69,e7 ((4:Nat):Int)),(68,.slice av 4 4),(16,.bool<|decide<|cc.kd=1),(15,pt ap),(2,pt b1),(4,pt b2),(6,pt aa),(9,pt b7),(22,.slice ea evs.length ec),(23,e7 ((evs.length:Nat):Int)),(24,e7<|(i:Int)),(48,.slice ad (chgL X1 xe).length ab),(49,e7<|(((chgL X1 xe).length:Nat):Int)),(50,e7<|(j:Int))]) (cx4<|cx4<|cx4<|cx2<|Aa C Bp)<|Ad<|Gr (A9 C C)<|Ac<|Ap (S16 71 70 69 68 16 15 2 4 6 9 22 23 24 48 49 50 C C C C C C C C C C C C C C C C)<|Ar<|A7 C (λae=>?_)<|λae=>?_
    ·refine Aw (Ah<|Ap (S15 70 69 68 16 15 2 4 6 9 22 23 24 48 49 50 C C C C C C C C C C C C C C C)<|Ar<|A5<|Ad<|Gr (A3 (α:=IfcC) (xs:=([⟨170,aa,0⟩,⟨171,aa,3⟩,⟨172,aa,6⟩,⟨173,aa,10⟩]:List IfcC)) Ck ty117 C C Bi om om)<|Gr (B9 (α:=IfcC) (xs:=([⟨170,aa,0⟩,⟨171,aa,3⟩,⟨172,aa,6⟩,⟨173,aa,10⟩]:List IfcC)) (u:= .iface 171 (.pointer<|some ⟨aa,3,none⟩)) ty117 C Bi dc (show (1:Int)<((4:Nat):Int) by decide) C)<|Ga C<|Ac<|Ap (S16 18 70 69 68 16 15 2 4 6 9 22 23 24 48 49 50 C C C C C C C C C C C C C C C C)<|Ad<|Gm C<|Gf fld54_2 C<|Gl ef ?_)
     refine Gf fld54_3 C<|Gl ef ?_
     refine Gm C<|G.e (D4 c_ C (λw=>by kernel_rfl) C C<|Cp (J:=e8 aa (px nd (without M<|edgeP cc.u cc.v) a4 a1 aw ay M pz.e2.a pz.e2.c pz.n2.a pz.n2.c M pz.e3.a pz.e3.c pz.n3.a pz.n3.c M pz.e4.a pz.e4.c pz.n4.a pz.n4.c) 169::vk 3 aw ay (coreN nd<|without M<|edgeP cc.u cc.v)::vk 105 a4 a1 (without M<|edgeP cc.u cc.v)::vc 117 (.slice av 4 4) (([⟨170,aa,0⟩,⟨171,aa,3⟩,⟨172,aa,6⟩,⟨173,aa,10⟩]:List IfcC))::e8 ap (ez cc) 54::e8 be [e7 nd,.slice ai (ep X1 xe).length ah] 35::vk 82 ai ah (ep X1 xe)::vk 54 ad ab (chgL X1 xe)::e8 b7 [e7 nd,.slice an (edgesK X1).length ao] 38::vk 105 an ao (edgesK X1)::e8 b4 (ez xe) 54::e8 b2 zk 47::e8 b1 (ky kd wd mo bd lt mr wa wn wc nd ai (ep X1 xe).length ah (edgesK X) pv tm) 47::(Z++I)) Bl<|ChgD1_ok (b:=aa) (decide_eq_false aq) (A8 ar.e2) (A8 ar.n2) ak.ok ak.ends (ak.cut aq)<|Bn hT Ax) ?_
     rintro _ _ ⟨_,_,⟨a5,a7,a9,a8,rfl,rfl⟩,rfl,rfl⟩
     refine Ga C<|Ac<|Ap (S16 19 70 69 68 16 15 2 4 6 9 22 23 24 48 49 50 C C C C C C C C C C C C C C C C)<|Ad<|Gm C<|Gr (Be C C)<|Ac<|Ap (S17 82 19 70 69 68 16 15 2 4 6 9 22 23 24 48 49 50 C C C C C C C C C C C C C C C C C)<|A7 C (λaj=>?_)<|λaj=>?_
     ·exact absurd aj dc
     refine Aw<|Am<|Ah<|Ap (S15 70 69 68 16 15 2 4 6 9 22 23 24 48 49 50 C C C C C C C C C C C C C C C)<|Ay<|Gr (Rad C C)<|Gm C<|Bj<|Dl (n:=2)<|Ap (L':=[(70,e7 2),(69,e7 ((4:Nat):Int)),(68,.slice av 4 4),(16,.bool<|decide<|cc.kd=1),(15,pt ap),(2,pt b1),(4,pt b2),(6,pt aa),(9,pt b7),(22,.slice ea evs.length ec),(23,e7 ((evs.length:Nat):Int)),(24,e7<|(i:Int)),(48,.slice ad (chgL X1 xe).length ab),(49,e7<|(((chgL X1 xe).length:Nat):Int)),(50,e7<|(j:Int))]) (cx4<|cx4<|cx4<|cx2<|Aa C Bp)<|Ad<|Gr (A9 C C)<|Ac<|Ap (S16 71 70 69 68 16 15 2 4 6 9 22 23 24 48 49 50 C C C C C C C C C C C C C C C C)<|Ar<|A7 C (λae=>?_)<|λae=>?_
     ·refine Aw (Ah<|Ap (S15 70 69 68 16 15 2 4 6 9 22 23 24 48 49 50 C C C C C C C C C C C C C C C)<|Ar<|A5<|Ad<|Gr (A3 (α:=IfcC) (xs:=([⟨170,aa,0⟩,⟨171,aa,3⟩,⟨172,aa,6⟩,⟨173,aa,10⟩]:List IfcC)) Ck ty117 C C Bi om om)<|Gr (B9 (α:=IfcC) (xs:=([⟨170,aa,0⟩,⟨171,aa,3⟩,⟨172,aa,6⟩,⟨173,aa,10⟩]:List IfcC)) (u:= .iface 172 (.pointer<|some ⟨aa,6,none⟩)) ty117 C Bi dc (show (2:Int)<((4:Nat):Int) by decide) C)<|Ga C<|Ac<|Ap (S16 18 70 69 68 16 15 2 4 6 9 22 23 24 48 49 50 C C C C C C C C C C C C C C C C)<|Ad<|Gm C<|Gf fld54_2 C<|Gl ef ?_)
      refine Gf fld54_3 C<|Gl ef ?_
      refine Gm C<|G.e (D4 c_ C (λw=>by kernel_rfl) C C<|Cp (J:=e8 aa (px nd (without M<|edgeP cc.u cc.v) a4 a1 aw ay (without M<|edgeP cc.u cc.v) a5 a7 a9 a8 M pz.e3.a pz.e3.c pz.n3.a pz.n3.c M pz.e4.a pz.e4.c pz.n4.a pz.n4.c) 169::vk 3 a9 a8 (trussG nd<|without M<|edgeP cc.u cc.v)::vk 105 a5 a7 (without M<|edgeP cc.u cc.v)::vk 3 aw ay (coreN nd<|without M<|edgeP cc.u cc.v)::vk 105 a4 a1 (without M<|edgeP cc.u cc.v)::vc 117 (.slice av 4 4) (([⟨170,aa,0⟩,⟨171,aa,3⟩,⟨172,aa,6⟩,⟨173,aa,10⟩]:List IfcC))::e8 ap (ez cc) 54::e8 be [e7 nd,.slice ai (ep X1 xe).length ah] 35::vk 82 ai ah (ep X1 xe)::vk 54 ad ab (chgL X1 xe)::e8 b7 [e7 nd,.slice an (edgesK X1).length ao] 38::vk 105 an ao (edgesK X1)::e8 b4 (ez xe) 54::e8 b2 zk 47::e8 b1 (ky kd wd mo bd lt mr wa wn wc nd ai (ep X1 xe).length ah (edgesK X) pv tm) 47::(Z++I)) Bl<|ChgD2_ok (b:=aa) (decide_eq_false aq) (A8 ar.e3) (A8 ar.n3) ak.ok ak.ends<|ak.cut aq) ?_
      rintro _ _ ⟨_,_,⟨bn,bk,bh,bm,rfl,rfl⟩,rfl,rfl⟩
      refine Ga C<|Ac<|Ap (S16 19 70 69 68 16 15 2 4 6 9 22 23 24 48 49 50 C C C C C C C C C C C C C C C C)<|Ad<|Gm C<|Gr (Be C C)<|Ac<|Ap (S17 82 19 70 69 68 16 15 2 4 6 9 22 23 24 48 49 50 C C C C C C C C C C C C C C C C C)<|A7 C (λaj=>?_)<|λaj=>?_
      ·exact absurd aj dc
      refine Aw<|Am<|Ah<|Ap (S15 70 69 68 16 15 2 4 6 9 22 23 24 48 49 50 C C C C C C C C C C C C C C C)<|Ay<|Gr (Rad C C)<|Gm C<|Bj<|Dl (n:=1)<|Ap (L':=[(70,e7 3),(69,e7 ((4:Nat):Int)),(68,.slice av 4 4),(16,.bool<|decide<|cc.kd=1),(15,pt ap),(2,pt b1),(4,pt b2),(6,pt aa),(9,pt b7),(22,.slice ea evs.length ec),(23,e7 ((evs.length:Nat):Int)),(24,e7<|(i:Int)),(48,.slice ad (chgL X1 xe).length ab),(49,e7<|(((chgL X1 xe).length:Nat):Int)),(50,e7<|(j:Int))]) (cx4<|cx4<|cx4<|cx2<|Aa C Bp)<|Ad<|Gr (A9 C C)<|Ac<|Ap (S16 71 70 69 68 16 15 2 4 6 9 22 23 24 48 49 50 C C C C C C C C C C C C C C C C)<|Ar<|A7 C (λae=>?_)<|λae=>?_
      ·refine Aw (Ah<|Ap (S15 70 69 68 16 15 2 4 6 9 22 23 24 48 49 50 C C C C C C C C C C C C C C C)<|Ar<|A5<|Ad<|Gr (A3 (α:=IfcC) (xs:=([⟨170,aa,0⟩,⟨171,aa,3⟩,⟨172,aa,6⟩,⟨173,aa,10⟩]:List IfcC)) Ck ty117 C C Bi om om)<|Gr (B9 (α:=IfcC) (xs:=([⟨170,aa,0⟩,⟨171,aa,3⟩,⟨172,aa,6⟩,⟨173,aa,10⟩]:List IfcC)) (u:= .iface 173 (.pointer<|some ⟨aa,10,none⟩)) ty117 C Bi dc (show (3:Int)<((4:Nat):Int) by decide) C)<|Ga C<|Ac<|Ap (S16 18 70 69 68 16 15 2 4 6 9 22 23 24 48 49 50 C C C C C C C C C C C C C C C C)<|Ad<|Gm C<|Gf fld54_2 C<|Gl ef ?_)
       refine Gf fld54_3 C<|Gl ef ?_
       refine Gm C<|G.e (D4 c_ C (λw=>by kernel_rfl) C C<|Cp (J:=e8 aa (px nd (without M<|edgeP cc.u cc.v) a4 a1 aw ay (without M<|edgeP cc.u cc.v) a5 a7 a9 a8 (without M<|edgeP cc.u cc.v) bn bk bh bm M pz.e4.a pz.e4.c pz.n4.a pz.n4.c) 169::vk 3 bh bm (triL nd<|without M<|edgeP cc.u cc.v)::vk 105 bn bk (without M<|edgeP cc.u cc.v)::vk 3 a9 a8 (trussG nd<|without M<|edgeP cc.u cc.v)::vk 105 a5 a7 (without M<|edgeP cc.u cc.v)::vk 3 aw ay (coreN nd<|without M<|edgeP cc.u cc.v)::vk 105 a4 a1 (without M<|edgeP cc.u cc.v)::vc 117 (.slice av 4 4) (([⟨170,aa,0⟩,⟨171,aa,3⟩,⟨172,aa,6⟩,⟨173,aa,10⟩]:List IfcC))::e8 ap (ez cc) 54::e8 be [e7 nd,.slice ai (ep X1 xe).length ah] 35::vk 82 ai ah (ep X1 xe)::vk 54 ad ab (chgL X1 xe)::e8 b7 [e7 nd,.slice an (edgesK X1).length ao] 38::vk 105 an ao (edgesK X1)::e8 b4 (ez xe) 54::e8 b2 zk 47::e8 b1 (ky kd wd mo bd lt mr wa wn wc nd ai (ep X1 xe).length ah (edgesK X) pv tm) 47::(Z++I)) Bl<|ChgD3_ok (b:=aa) (decide_eq_false aq) (A8 ar.e4) (A8 ar.n4) ak.ok ak.ends (ak.cut aq)<|Bn hT Ax) ?_
       rintro _ _ ⟨_,_,⟨bu,b6,b3,b5,rfl,rfl⟩,rfl,rfl⟩
       refine Ga C<|Ac<|Ap (S16 19 70 69 68 16 15 2 4 6 9 22 23 24 48 49 50 C C C C C C C C C C C C C C C C)<|Ad<|Gm C<|Gr (Be C C)<|Ac<|Ap (S17 82 19 70 69 68 16 15 2 4 6 9 22 23 24 48 49 50 C C C C C C C C C C C C C C C C C)<|A7 C (λaj=>?_)<|λaj=>?_
       ·exact absurd aj dc
       refine Aw<|Am<|Ah<|Ap (S15 70 69 68 16 15 2 4 6 9 22 23 24 48 49 50 C C C C C C C C C C C C C C C)<|Ay<|Gr (Rad C C)<|Gm C<|Bj<|Dl (n:=0)<|Ap (L':=[(70,e7 4),(69,e7 ((4:Nat):Int)),(68,.slice av 4 4),(16,.bool<|decide<|cc.kd=1),(15,pt ap),(2,pt b1),(4,pt b2),(6,pt aa),(9,pt b7),(22,.slice ea evs.length ec),(23,e7 ((evs.length:Nat):Int)),(24,e7<|(i:Int)),(48,.slice ad (chgL X1 xe).length ab),(49,e7<|(((chgL X1 xe).length:Nat):Int)),(50,e7<|(j:Int))]) (cx4<|cx4<|cx4<|cx2<|Aa C Bp)<|Ad<|Gr (A9 C C)<|Ac<|Ap (S16 71 70 69 68 16 15 2 4 6 9 22 23 24 48 49 50 C C C C C C C C C C C C C C C C)<|Ar<|A7 C (λae=>?_)<|λae=>?_
       ·exact absurd ae dc
       exact Bt<|Aq<|Aq<|Bb<|Am<|Ah<|Ap (S10 2 4 6 9 22 23 24 48 49 50)<|Ay<|Gr (Rad C C)<|Gm C<|Bj<|Cb ((j+1),((without M<|edgeP cc.u cc.v)),(⟨⟨a4,a1⟩,⟨aw,ay⟩,⟨a5,a7⟩,⟨a9,a8⟩,⟨bn,bk⟩,⟨bh,bm⟩,⟨bu,b6⟩,⟨b3,b5⟩⟩),((vk 3 b3 b5 (quadL nd<|without M<|edgeP cc.u cc.v)::vk 105 bu b6 (without M<|edgeP cc.u cc.v)::vk 3 bh bm (triL nd<|without M<|edgeP cc.u cc.v)::vk 105 bn bk (without M<|edgeP cc.u cc.v)::vk 3 a9 a8 (trussG nd<|without M<|edgeP cc.u cc.v)::vk 105 a5 a7 (without M<|edgeP cc.u cc.v)::vk 3 aw ay (coreN nd<|without M<|edgeP cc.u cc.v)::vk 105 a4 a1 (without M<|edgeP cc.u cc.v)::Z))) (by dsimp only;exact ⟨om,(by rw [chE_succ om,←bp,hcc,ch_del aq]),⟨Bi,Bi,Bi,Bi,Bi,Bi,Bi,Bi⟩⟩) (hI:=by (try dsimp only);exact Bl)
      exact absurd dc ae
     exact absurd dc ae
    exact absurd dc ae
   exact absurd dc ae
  refine Bt<|Aq<|Aq<|Bb<|Am<|Ah<|Ay<|Gr (Rad C C)<|Gm C<|Bj ?_
  have bv:M=edgesK (ep X1 xe):=by rw [bp,show j=(chgL X1 xe).length by omega];exact ch_end bf br
  exact Cb ((i+1),(ep X1 xe),(⟨ai,ah⟩),(pz),((vk 82 ai ah (ep X1 xe)::Z))) (by dsimp only;exact ⟨om,(by rw [Cj evs i om,List.foldl_append,←hX,hxe];rfl),(stepL_val bf br),(De<|List.mem_append_left _ List.mem_cons_self),(by rw [←bv];exact bq.fit<|Fit.tail<|Dn _)⟩) (hI:=by (try dsimp only);exact (by rw [←bv];exact Bl))
 refine Bt<|Aq<|Aq<|Bb<|Ah<|Ar<|Bs mixed<|Cc (e8 aa (pq nd (edgesK X1) pw) 169::e8 b2 zk 47::(Y++I)) 28<|Dr 0 C (Ai C)<|Dr 1 C (Bo C)<|Dr 2 C (Ab fld169_0 C)<|Dr 3 C (Ab fld161_0 C)<|Dr 4 C (Bc (vs:=[_,_,_]) ty40) ?_
 refine Dr 5 C (Ai C)<|Dr 6 C (Bo C)<|Dr 7 C (Ab fld169_1 C)<|Dr 8 C (Ab fld163_0 C)<|Dr 9 C (Bc (vs:=[_,_,_]) ty41) ?_
 refine Dr 10 C (Ai C)<|Dr 11 C (Bo C)<|Dr 12 C (Ab fld169_2 C)<|Dr 13 C (Ab fld165_0 C)<|Dr 14 C (Bc (vs:=[_,_,_,_]) ty43) ?_
 refine Dr 15 C (Ai C)<|Dr 16 C (Bo C)<|Dr 17 C (Ab fld169_3 C)<|Dr 18 C (Ab fld167_0 C)<|Dr 19 C (Bc (vs:=[_,_,_,_,_]) ty45) ?_
 refine Dr 20 C (Ab fld47_3 C)<|Ds1 21<|Se0 C (B6 (cs:=[_,_,_,_,_,_,_,_,_,_,_,_,_,_,_,_,_,_,_,_,_,_,_,_,_]) (vs:=[_,_,_]) (cs':=[_,_,_,_,_,_,_,_,_,_,_,_,_,_,_,_,_,_,_,_,_,_,_,_,_]) ty40) ?_
 refine Dr 22 C (Ab fld47_4 C)<|Ds1 23<|Se0 C (B6 (cs:=[_,_,_,_,_,_,_,_,_,_,_,_,_,_,_,_,_,_,_,_,_,_,_,_,_]) (vs:=[_,_,_]) (cs':=[_,_,_,_,_,_,_,_,_,_,_,_,_,_,_,_,_,_,_,_,_,_,_,_,_]) ty41) ?_
 refine Dr 24 C (Ab fld47_5 C)<|Ds1 25<|Se0 C (B6 (cs:=[_,_,_,_,_,_,_,_,_,_,_,_,_,_,_,_,_,_,_,_,_,_,_,_,_]) (vs:=[_,_,_,_]) (cs':=[_,_,_,_,_,_,_,_,_,_,_,_,_,_,_,_,_,_,_,_,_,_,_,_,_]) ty43) ?_
 refine Dr 26 C (Ab fld47_6 C)<|Ds1 27<|Se0 C (B6 (cs:=[_,_,_,_,_,_,_,_,_,_,_,_,_,_,_,_,_,_,_,_,_,_,_,_,_]) (vs:=[_,_,_,_,_]) (cs':=[_,_,_,_,_,_,_,_,_,_,_,_,_,_,_,_,_,_,_,_,_,_,_,_,_]) ty45) ?_
 refine Dz<|Ah<|Ap (S2 2 4)<|Ad<|Gr (Runs.lq ty47) ?_
 refine Ge0 (Eff.sq ty47) ?_
 refine Ga C<|Ac<|Az ?_
 have ck:X1=(evs.foldl ep X):=by rw [hX,List.take_of_length_le om]
 subst ck
 exact C0 C ty47 C C mm C ((Y++I)) Ax ⟨lw,pw,Y,rfl,cg,cb,rfl⟩
section
variable {nd kd wd mo T:Int}{X X1:List Lk}{o:List Ev}{e:Ev}
theorem old_step(hv:checkS nd X1=0)(hw:checkW kd wd mo=0)(hT:T<=1048576)(h:0<(oldL kd wd mo T X1).length) :
  agedL kd wd mo T (X1,o)=agedL kd wd mo T ((oldL kd wd mo T X1).foldl ep X1,o++oldL kd wd mo T X1)/\((oldL kd wd mo T X1).foldl ep X1).length<X1.length/\checkS nd ((oldL kd wd mo T X1).foldl ep X1)=0/\(∀x∈oldL kd wd mo T X1,FitOk nd x)/\(o++oldL kd wd mo T X1).length+((oldL kd wd mo T X1).foldl ep X1).length=o.length+X1.length:=by
 have Z:=oldL_pos.1 h
 have hk:=Z.1
 subst hk
 have he:oldL 2 wd mo T X1=goneL 2 wd mo (minT X1+wd) X1:=by unfold oldL;rw [if_pos Z]
 have hs:=gone_steps (kd:=2) (wd:=wd) (mo:=mo) (nw:=minT X1+wd) hv
 have hl:=gone_len 2 wd mo (minT X1+wd) X1
 have M:=age_less (wd:=wd) (mo:=mo) Z.2.1
 have aa:=checkW_wd hw
 obtain ⟨⟨x,hx,e0⟩,_⟩:=minT_spec Z.2.1
 have ab:=checkS_tm' hv x hx
 rw [he,hs]
 refine ⟨?_,M,filter_val hv,gone_fit hv om,by rw [List.length_append];omega⟩
 unfold agedL
 rw [if_pos rfl,if_pos rfl]
 exact ageL_step Z.2
theorem old_end(h:¬0<(oldL kd wd mo T X1).length):agedL kd wd mo T (X1,o)=(X1,o):=by
 unfold agedL
 by_cases hk:kd=2
 ·rw [if_pos hk]
  exact ageL_stop λq=>h<|oldL_pos.2 ⟨hk,q⟩
 rw [if_neg hk]
theorem step_end(Z:agedL kd wd mo e.tm (X,[])=(X1,o))(M:¬kd=3):evStep kd wd mo (X,[]) e=(ep X1 e,o++[e]):=by
 unfold evStep windL
 rw [Z,if_neg M]
theorem step_end3(Z:agedL kd wd mo e.tm (X,[])=(X1,o))(M:kd=3)(hv:checkS nd (ep X1 e)=0):evStep kd wd mo (X,[]) e=((goneL kd wd mo e.tm (ep X1 e)).foldl ep (ep X1 e),o++[e]++goneL kd wd mo e.tm (ep X1 e)):=by
 unfold evStep windL
 rw [Z,if_pos M,gone_steps hv]
theorem ask_zero(hw:checkW kd wd mo=0)(hv:checkS nd X=0)(hn:0<=nw/\nw<=1048576)(ht:∀x∈X,x.tm<=nw):askE nd X kd wd mo nw=0:=by
 unfold askE
 rw [if_neg om,if_neg om,if_neg]
 rintro (h|h|h)
 ·omega
 ·omega
 obtain ⟨x,Z,M⟩:=List.any_eq_true.1 h
 have:=ht x Z
 have:=of_decide_eq_true M
 omega
theorem aged_tm(h:∀x∈X,x.tm<=last)(hv:checkS nd X=0)(M:¬kd=2)(Z:agedL kd wd mo T (X,[])=(X1,o)):X1=X:=by
 unfold agedL at Z
 rw [if_neg M] at Z
 exact (Prod.mk.inj Z).1.symm
theorem step_tm(h:∀x∈X,x.tm<=last)(Z:last<=e.tm):∀x∈ep X e,x.tm<=e.tm:=λx hx=>by
 unfold ep at hx
 split at hx
 ·rcases mem_setL hx with rfl|hx
  ·exact Int.le_refl _
  have:=h x hx;omega
 have:=h x (List.mem_filter.1 hx).1;omega
end
theorem Old_ok{nd kd wd mo tq:Int}{la:Option Addr}{lc:Nat}{X:List Lk}{aw av au:Value}(hl:Sl κ I (.slice la X.length lc) X)(hv:checkS nd X=0)(hw:checkW kd wd mo=0)(ht:0<=tq/\tq<=1048576):eu Tryz.prog κ 124 [.agg #[e7 kd,e7 wd,e7 mo,x3,x4,x5,x6,e7 nd,.slice la X.length lc,x9,ar,ap,ao,aq,ad,ah,aw,ai,av,aj,ab,ae,an,au,ak],e7 tq] I (λr J=>∃(a:Option Addr) (c:Nat),r = .slice a (oldL kd wd mo tq X).length c/\J=vk 54 a c (oldL kd wd mo tq X)::I):=by
 have a8:=checkW_wd hw
 have a0:=edges_le (edgesK_ok hv)
 rw [edgesK_len] at a0
 refine Ce2 Tryz.func124 C C ?_
 refine Ad<|Ge1 (Bd (cs:=[_,_,_,_,_,_,_,_,_,_,_,_,_,_,_,_,_,_,_,_,_,_,_,_,_]) C C C) λb1=>Ga C<|Ac<|Ar<|Ad<|Gf fld47_0 C<|Gf fld29_0 C<|Gl ef ?_
 refine Gr (Be C C)<|Ac<|A7 C (λc13=>?_)<|λc13=>?_
 ·refine Ad (Ga C<|Ac<|Az<|Ao ?_)
  have hE:(oldL kd wd mo tq X)=[]:=oldL_not c13
  exact A1 C C (vk 54 none 0 (oldL kd wd mo tq X)::I) (by unfold vk;rw [hE];exact (Co (show Fit κ _ I from Bl)<|Cf (α:=Ev) _ _)) ⟨none,0,by rw [hE]<;>rfl,rfl⟩
 refine Aw<|Ah<|Ad<|Gm C<|Gr (Rad C C)<|Ga C<|Ac<|Ad<|Ga C<|Ac<|Ar<|Ad<|Gf fld47_2 C<|Gf fld35_1 C<|Gl ty33 ?_
 refine Gr (Bk A2 C)<|Gm C<|Ac<|Ap (S7 20 19 18 6 5 2 1)<|A5<|B1 (σ:=Nat×Int×(Option Addr)×Nat×(List Ev)) (λs=>([(1,e7 tq),(2,pt b1),(5,e7<|s.2.1),(6,.slice s.2.2.1 s.2.2.2.2.length s.2.2.2.1),(18,.slice la X.length lc),(19,e7 ((X.length:Nat):Int)),(20,e7 ((s.1:Nat):Int))]:Env)) (λs=>vk 54 s.2.2.1 s.2.2.2.1 s.2.2.2.2::e8 b1 [e7 kd,e7 wd,e7 mo,x3,x4,x5,x6,e7 nd,.slice la X.length lc,x9,ar,ap,ao,aq,ad,ah,aw,ai,av,aj,ab,ae,an,au,ak] 47::I) (λs=>(s.1<=X.length)/\(OldI wd tq (X.take s.1) s.2.1 s.2.2.2.2)/\(s.2.2.2.2.length<=s.1)) (λs=>X.length - s.1) (0,tq+1,none,0,[]) ⟨om,OldI.zero,(by simp)⟩ (cx2<|Aa Cd<|Aa (C8 C<|by first|rfl|simp)<|cx2<|Aa Cd Bp) (Co (show Fit κ _ _ from Bl)<|Cf (α:=Ev) _ _) ?_
 rintro ⟨k,tt,oa,oc,out⟩ hp
 dsimp only at hp ⊢
 obtain ⟨hk,ho,a6⟩:=hp
 have a7:=ho.le
 refine Ad<|Gr (A9 C C)<|Ac<|Ar<|A7 C (λaz=>?_)<|λaz=>?_
 ·refine Aw (Ah<|Ar<|A5<|Ad<|Gr (A3 (α:=Lk) (xs:=X) A2 ty82 C C (A8 hl) om om)<|Gr (Bv (α:=Lk) (xs:=X) ty82 C (A8 hl) om om) ?_)
  have a5:=checkS_tm hv (k:Int) om om
  refine Ge1 (A4 ty82 C) λb2=>Ge0 (Es6_6 ty82) ?_
  refine Ac<|Ad<|Gf fld82_5 C<|Gl ef ?_
  refine Gf fld47_0 C<|Gf fld29_1 C<|Gl ef ?_
  refine Gr (Rad C C)<|Ga C<|Ac<|Ap (S9 9 8 1 2 5 6 18 19 20)<|Ar<|Ad<|Gm C<|Gm C<|Gr (A9 C C)<|Ac<|A7 C (λZ=>?_)<|λZ=>?_
  ·refine Ay (Gm C<|Ga C<|Ga C<|Ac<|Ap (S9 6 5 9 8 1 2 18 19 20)<|Ad<|Gm C<|Gm C<|Gr (Br C C)<|Gm C<|Bh (d:=37) C (λM=>?_)<|λM=>?_)
   ·refine e9 (Ai C) (e9 (Ai C)<|e9 (Ej C C)<|Gr (Av C C)<|Ac<|Ap (S10 41 6 5 9 8 1 2 18 19 20)<|A7 C (λaa=>?_)<|λaa=>?_)
    ·refine Ay (Gm C<|Gm C<|Gf fld82_0 C<|Gl ef ?_)
     refine Gf fld82_1 C<|Gl ef ?_
     refine Gr (Bq (cells:=[_,_,_,_,_,_,_]) ty54 C9 pl54 C C)<|Ge1 (Ce (α:=Ev) (cs:=[e7 2,e7<|((e_ X k).tm)+wd,e7<|(e_ X k).u,e7<|(e_ X k).v,e7 0,e7 0,e7 0]) (xs:=[⟨2,((e_ X k).tm)+wd,(e_ X k).u,(e_ X k).v,0,0,0⟩]) Al ty54 C C dc dc C kr C C) λa9=>?_
     refine Ge2 (Eff.clone (α:=Ev) (ys:=([⟨2,((e_ X k).tm)+wd,(e_ X k).u,(e_ X k).v,0,0,0⟩]:List Ev)) Al ty54 C C C Bi lcn dc C) λax a3=>?_
     exact Ga C<|Bj<|Am<|Ah<|Ap (S7 6 5 1 2 18 19 20)<|Ay<|Gr (Rad C C)<|Gm C<|Bj<|Cb ((k+1),(((e_ X k).tm)+wd),(ax),(a3),(([⟨2,((e_ X k).tm)+wd,(e_ X k).u,(e_ X k).v,0,0,0⟩]:List Ev)))<|by dsimp only;exact ⟨om,(by rw [Cj X k om];first|exact ho.less Z|exact ho.eq M om|exact ho.no Z om),olp⟩
    omega
   exact absurd rfl M
  refine Aw<|Ah<|Ad<|Gm C<|Gm C<|Gr (Br C C)<|Gm C<|Bh (d:=37) C (λM=>?_)<|λM=>?_
  ·refine e9 (Ai C) (e9 (Ai C)<|e9 (Ej C C)<|Gr (Av C C)<|Ac<|Ap (S10 41 9 8 1 2 5 6 18 19 20)<|A7 C (λaa=>?_)<|λaa=>?_)
   ·refine Ay (Gm C<|Gm C<|Gf fld82_0 C<|Gl ef ?_)
    refine Gf fld82_1 C<|Gl ef ?_
    refine Gr (Bq (cells:=[_,_,_,_,_,_,_]) ty54 C9 pl54 C C)<|Ge1 (Ce (α:=Ev) (cs:=[e7 2,e7<|((e_ X k).tm)+wd,e7<|(e_ X k).u,e7<|(e_ X k).v,e7 0,e7 0,e7 0]) (xs:=[⟨2,((e_ X k).tm)+wd,(e_ X k).u,(e_ X k).v,0,0,0⟩]) Al ty54 C C dc dc C kr C C) λa4=>?_
    refine Ge2 (B3 (α:=Ev) (e:=54) (xs:=out) (ys:=([⟨2,((e_ X k).tm)+wd,(e_ X k).u,(e_ X k).v,0,0,0⟩]:List Ev)) Al ty54 C C C mm Bi lcn dc C<|λ_ _=>am) λa1 ay=>?_
    exact Ga C<|Bj<|Am<|Ah<|Ap (S7 6 1 2 5 18 19 20)<|Ay<|Gr (Rad C C)<|Gm C<|Bj<|Cb ((k+1),(tt),(a1),(ay),(out++([⟨2,((e_ X k).tm)+wd,(e_ X k).u,(e_ X k).v,0,0,0⟩]:List Ev)))<|by dsimp only;exact ⟨om,(by rw [Cj X k om];first|exact ho.less Z|exact ho.eq M om|exact ho.no Z om),olp⟩
   exact Aw<|Am<|Ah<|Ay<|Gr (Rad C C)<|Gm C<|Bj<|Cb ((k+1),(tt),(oa),(oc),(out))<|by dsimp only;exact ⟨om,(by rw [Cj X k om];first|exact ho.less Z|exact ho.eq M om|exact ho.no Z om),olp⟩
  exact eb<|eb<|eb<|Gr (Au C C)<|Ac<|Ap (S10 41 9 8 1 2 5 6 18 19 20)<|Dg C<|Aw<|Am<|Ah<|Ay<|Gr (Rad C C)<|Gm C<|Bj<|Cb ((k+1),(tt),(oa),(oc),(out))<|by dsimp only;exact ⟨om,(by rw [Cj X k om];first|exact ho.less Z|exact ho.eq M om|exact ho.no Z om),olp⟩
 refine Bt<|Aq<|Aq<|Bb<|Ah<|Ad<|Gm C<|Ga C<|Ac<|Az ?_
 have hE:out=(oldL kd wd mo tq X):=by rw [show X.take k=X from List.take_of_length_le om] at ho;exact ho.all om
 exact A1 C C (vk 54 oa oc (oldL kd wd mo tq X)::I) (by unfold vk;rw [←hE];exact Bl) ⟨oa,oc,by rw [←hE],rfl⟩
theorem NodeK_ok{nd:Int}{e:Ev}{x0 x1 x2 x8 M Z aa:Value}(hx:FitOk nd e):eu Tryz.prog κ 46 [.agg #[x0,x1,x2,x3,x4,x5,x6,e7 nd,x8,x9,ao,ak,aj,an,M,ab,ar,ad,aq,ae,Z,aa,ai,ap,ah],.agg (ez e).toArray] I (λr J=>r = .bool true/\I=J):=by
 refine Ce2 Tryz.func46 C C ?_
 refine Ad<|Ge1 (Bd (cs:=[_,_,_,_,_,_,_,_,_,_,_,_,_,_,_,_,_,_,_,_,_,_,_,_,_]) C C C) λb1=>Ge1 (Bd (cs:=[_,_,_,_,_,_,_]) C C C) λb2=>Ga C<|Ac<|Ad<|Gf fld54_2 C<|Gl ef ?_
 refine Gf fld54_3 C<|Gl ef ?_
 refine Gr (Dm C C)<|Gf fld47_2 C<|Gf fld35_0 C<|Gl ef ?_
 refine Gr (A9 C C)<|Ga C<|Ac<|Ap (S1 4)<|Az ?_
 have hf:=hx.fits
 exact A1 C C I Ax ⟨by rw [decide_eq_true];split<;>omega,rfl⟩
theorem Expired_yes{nd kd wd mo:Int}{M:Option Addr}{c0:Nat}{xs:List Lk}(hl:Sl κ I (.slice M xs.length c0) xs)(Z:xs.length<=1000000)(hz:askE nd xs kd wd mo nw=0):eu Tryz.prog κ 126 [.agg #[e7 nd,.slice M xs.length c0],.agg #[e7 kd,e7 wd,e7 mo],e7 nw] I λr J=>∃a c,r = .tuple #[.slice a (goneL kd wd mo nw xs).length c,e7 0]/\J=vk 54 a c (goneL kd wd mo nw xs)::I:=
 (Expired_ok hl Z).mono λr J h=>by
  rcases h with h|⟨a,c,_,h1,h2⟩
  ·exact absurd hz h.1
  exact ⟨a,c,h1,h2⟩
end Go.Sl
