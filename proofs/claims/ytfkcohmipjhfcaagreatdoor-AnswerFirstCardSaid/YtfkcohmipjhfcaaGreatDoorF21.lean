/- A part of the proofs of statements of this seat: contracts of functions, and the plain laws that they lean on. No conditions. -/
import Derived.Test.YtfkcohmipjhfcaaGreatDoorF20
import Derived.ProofKit
import Derived.OpenShut
import Derived.ChangeOld
import Derived.Below
import Derived.SizedLaws
import Derived.JoinedOf
import Derived.Deep.Slices
import Derived.Deep.Fields
set_option linter.unusedVariables false
set_option linter.unusedSimpArgs false
set_option linter.unusedSectionVars false
namespace Go.Sl
open Go.Proofs
set_option maxRecDepth 4000
section
variable {nd kd wd mo t:Int}{es:List Ev}
theorem cmp_le{a b c d:Int}(h:¬0<cmpF ⟨a,b⟩ ⟨c,d⟩):a*d≤c*b:=by
 refine Int.not_lt.1 fun hl=>h ?_
 unfold cmpF
 simp only
 repeat (first|omega|split)
theorem cmp_gt{a b c d:Int}(h:0<cmpF ⟨a,b⟩ ⟨c,d⟩):c*b≤a*d:=by
 unfold cmpF at h
 simp only at h
 repeat (first|omega|split at h)
theorem reachT_mono{xn xd yn yd:Int}(hx:FrV ⟨xn,xd⟩)(hy:FrV ⟨yn,yd⟩)(h:xn*yd≤yn*xd)(hr:reachQ nd kd wd mo es yn yd t):reachQ nd kd wd mo es xn xd t:=by
 have hx0:=hx.n0
 have hx1:=hx.d0
 have hy0:=hy.n0
 have hy1:=hy.d0
 simp only at hx0 hx1 hy0 hy1
 unfold reachQ densQ at hr ⊢
 split at hr
 ·rename_i h0
  rw [if_pos h0]
  have e:yn=0:=by omega
  rw [e,Int.zero_mul] at h
  refine Int.not_lt.1 fun hl=>?_
  have:=Int.mul_pos hl (show (0:Int)<yd by omega)
  omega
 ·rename_i h0
  rw [if_neg h0]
  obtain ⟨W,h1,h2,h3⟩:=hr
  have hc:=cntB_pos h2
  have he:=(insE_bd W (atG kd wd mo es t)).1
  refine ⟨W,h1,h2,Int.le_of_mul_le_mul_right (a:=yd) ?_ om⟩
  have k1:=Int.mul_le_mul_of_nonneg_right h (show 0≤cntB W by omega)
  have k2:=Int.mul_le_mul_of_nonneg_left h3 (show 0≤xd by omega)
  have e1:xn*cntB W*yd=xn*yd*cntB W:=by rw [Int.mul_assoc,Int.mul_comm (cntB W),←Int.mul_assoc]
  have e2:yn*xd*cntB W=xd*(yn*cntB W):=by rw [Int.mul_comm yn,Int.mul_assoc]
  have e3:xd*(yd*insE W (atG kd wd mo es t))=xd*insE W (atG kd wd mo es t)*yd:=by rw [Int.mul_assoc,Int.mul_comm yd]
  omega
theorem first_at{p:Int→Prop}{t1:Int}{k1:Bool}(h1:FirstP kd wd mo es p t1 k1):(∀z∈timesR kd wd mo es,p z→k1=true∧t1≤z)∧(k1=true→p t1):=by
 rcases h1 with ⟨hk,⟨e,he,rfl⟩,hp,hn⟩|⟨hf,h0,hn⟩
 ·refine ⟨fun z hz hpz=>⟨hk,Int.not_lt.1 fun hl=>?_⟩,fun _=>hp⟩
  obtain ⟨e2,he2,rfl⟩:=mem_times.1 hz
  exact hn e2 he2 hl hpz
 ·refine ⟨fun z hz hpz=>?_,fun h=>by rw [hf] at h;cases h⟩
  obtain ⟨e2,he2,rfl⟩:=mem_times.1 hz
  exact absurd hpz (hn e2 he2)
end
set_option maxHeartbeats 8000000 in
theorem AnswerFirst_walk{κ:Ctx}{I:List Item}{la:Option Addr}{ln lc:Nat}{ls:List Int}(hl:Sl κ I (.slice la ln lc) ls)(hT:TabRd κ I 0 tzCells) :
    CallS Tryz.prog κ 10 [.slice la ln lc] I (fun r J=>r = .bool true∧I=J):=by
 refine Ce1 Tryz.func10 rfl rfl ?_
 refine Ah (Ga rfl (Af (Av (Ah (Gm rfl (Gc0 (Aj call16 rfl rfl Few_ok) ?_))))))
 refine Gr (Cd rfl) (Af (A6 rfl (fun c25=>?_) (fun c25=>?_)))
 ·refine Ah (Gc0 (Aj call41 rfl rfl (Awake43_ok (Cv hT A1))) ?_)
  exact Ga rfl (Af (Ay (Ad (A0 rfl rfl (I) A1 ⟨rfl,rfl⟩))))
 ·refine Az (Ai (Ah (Gm rfl (G.e (Aj call18 rfl rfl New_ok) ?_))))
  rintro _ _ ⟨_,_,⟨dk1,rfl,rfl⟩,rfl,rfl⟩
  show G Tryz.prog κ _ _ _ _ ([(28,.pointer (some ⟨dk1,0,none⟩)),(27,.slice la ln lc),(25,.bool (decide (¬((ln:Int)≤500)))),(24,.bool (decide ((ln:Int)≤500))),(23,.slice la ln lc),(2,.bool false),(0,.slice la ln lc)]:Env) (blk dk1 [.slice la ln lc,I64 (0)] 125::I)
  have hi0:(0:Int)≤0:=Int.le_refl _
  refine Ga rfl (Af (Ah (Gm rfl (G.e (Aj call42 rfl rfl (Some43_at (by repeat (first|exact AtF.head _ _|apply AtF.tail)) (fun _=>Cj hl A1) om  )) ?_))))
  rintro _ _ ⟨_,_,⟨⟨nn2,ad3,cp4,es5,kd6,wd7,mo8,i9⟩,⟨⟨rfl,hHes5,hles5,hnes5⟩,hi9⟩,rfl⟩,rfl,rfl⟩
  show G Tryz.prog κ _ _ _ _ ([(31,.tuple #[I64 (nn2),.slice ad3 es5.length cp4,.agg #[I64 (kd6),I64 (wd7),I64 (mo8)]]),(30,.pointer (some ⟨dk1,0,none⟩)),(3,.pointer (some ⟨dk1,0,none⟩)),(28,.pointer (some ⟨dk1,0,none⟩)),(27,.slice la ln lc),(25,.bool (decide (¬((ln:Int)≤500)))),(24,.bool (decide ((ln:Int)≤500))),(23,.slice la ln lc),(2,.bool false),(0,.slice la ln lc)]:Env) (vc 108 (.slice ad3 es5.length cp4) (es5)::blk dk1 [.slice la ln lc,I64 (i9)] 125::I)
  have hi9:0≤i9:=hi9
  dsimp only at hHes5
  dsimp only at hles5
  dsimp only at hnes5
  refine Gm rfl (Gr (A3 rfl rfl) (Gr (A3 rfl rfl) (Gr (A3 rfl rfl) (Ge1 (Ax ty31 rfl) fun b10=>Ga rfl (Ga rfl (Ge0 (Es3_3 ty31) ?_))))))
  have hH:HistOk nn2 kd6 wd7 mo8 es5:=hHes5
  have hel:es5.length≤19:=by have h9:es5.length≤12:=hles5;omega
  have hn2:2≤nn2∧nn2≤6:=hnes5
  refine Af (Ar (S4 5 4 6 3 rfl rfl rfl rfl) (Ah (Gm rfl (G.e (Aj call46 rfl rfl (MkFrac_at (by repeat (first|exact AtF.head _ _|apply AtF.tail)) (fun _=>Cj hl A1) om  )) ?_))))
  rintro _ _ ⟨_,_,⟨⟨nu11,de12,i13⟩,⟨⟨rfl,hfnu11,hfnnu11⟩,hi13⟩,rfl⟩,rfl,rfl⟩
  show G Tryz.prog κ _ _ _ _ ([(36,.agg #[I64 (nu11),I64 (de12)]),(35,.pointer (some ⟨dk1,0,none⟩)),(5,.slice ad3 es5.length cp4),(4,I64 (nn2)),(6,.pointer (some ⟨b10,0,none⟩)),(3,.pointer (some ⟨dk1,0,none⟩))]:Env) (blk b10 [I64 (kd6),I64 (wd7),I64 (mo8)] 31::vc 108 (.slice ad3 es5.length cp4) (es5)::blk dk1 [.slice la ln lc,I64 (i13)] 125::I)
  have hi13:0≤i13:=hi13
  dsimp only at hfnu11
  dsimp only at hfnnu11
  refine Gm rfl (G.e (Aj call46 rfl rfl (MkFrac_at (by repeat (first|exact AtF.head _ _|apply AtF.tail)) (fun _=>Cj hl A1) om  )) ?_)
  rintro _ _ ⟨_,_,⟨⟨nu14,de15,i16⟩,⟨⟨rfl,hfnu14,hfnnu14⟩,hi16⟩,rfl⟩,rfl,rfl⟩
  show G Tryz.prog κ _ _ _ _ ([(38,.agg #[I64 (nu14),I64 (de15)]),(37,.pointer (some ⟨dk1,0,none⟩)),(36,.agg #[I64 (nu11),I64 (de12)]),(35,.pointer (some ⟨dk1,0,none⟩)),(5,.slice ad3 es5.length cp4),(4,I64 (nn2)),(6,.pointer (some ⟨b10,0,none⟩)),(3,.pointer (some ⟨dk1,0,none⟩))]:Env) (blk b10 [I64 (kd6),I64 (wd7),I64 (mo8)] 31::vc 108 (.slice ad3 es5.length cp4) (es5)::blk dk1 [.slice la ln lc,I64 (i16)] 125::I)
  have hi16:0≤i16:=hi16
  dsimp only at hfnu14
  dsimp only at hfnnu14
  refine Ge1 (Ax ty40 rfl) fun b17=>Ge1 (Ax ty40 rfl) fun b18=>Ge0 (Bj ty40) ?_
  refine Ge0 (Bj ty40) ?_
  refine Af (Ek (σ:=Int×Int×Int×Int) (fun s=>([(4,I64 (nn2)),(5,.slice ad3 es5.length cp4),(6,.pointer (some ⟨b10,0,none⟩)),(7,.pointer (some ⟨b17,0,none⟩)),(8,.pointer (some ⟨b18,0,none⟩))]:Env)) (fun s=>blk b18 [I64 (s.2.2.1),I64 (s.2.2.2)] 40::blk b17 [I64 (s.1),I64 (s.2.1)] 40::blk b10 [I64 (kd6),I64 (wd7),I64 (mo8)] 31::vc 108 (.slice ad3 es5.length cp4) (es5)::blk dk1 [.slice la ln lc,I64 (i16)] 125::I) (fun s=>(FrV ⟨s.1,s.2.1⟩)∧(FrV ⟨s.2.2.1,s.2.2.2⟩)∧(s.1*s.2.2.2≤s.2.2.1*s.2.1)) ?_ ?_)
  ·refine Ah (Gl2 ty40 ?_)
   refine Gl2 ty40 ?_
   refine Gc0 (Aj call66 rfl rfl (Cmp01_ok (⟨nu11,de12⟩:Fr) (⟨nu14,de15⟩:Fr) (by first|assumption|exact hBR.frv (hH.graph _)) (by first|assumption|exact hBR.frv (hH.graph _)))) ?_
   refine Gr (Br rfl rfl) (Af (Ar (S6 42 8 7 5 4 6 rfl rfl rfl rfl rfl rfl) (A6 rfl (fun c42=>?_) (fun c42=>?_))))
   ·refine A2 (Gl2 ty40 ?_)
    refine Gl2 ty40 ?_
    refine Ge0 (Bj ty40) ?_
    refine Ge0 (Bj ty40) ?_
    exact Be (Cl ((nu14),(de15),(nu11),(de12)) (by dsimp only;exact ⟨asm,asm,(by first|exact cmp_le c42|exact cmp_gt c42)⟩))
   ·exact Az (Cl ((nu11),(de12),(nu14),(de15)) (by dsimp only;exact ⟨asm,asm,(by first|exact cmp_le c42|exact cmp_gt c42)⟩))
  ·rintro ⟨xn,xd,yn,yd⟩ hp
   obtain ⟨hfx,hfy,hxy⟩:(FrV ⟨xn,xd⟩)∧(FrV ⟨yn,yd⟩)∧(xn*yd≤yn*xd):=hp
   show W Tryz.prog κ 139 _ _ ([(4,I64 (nn2)),(5,.slice ad3 es5.length cp4),(6,.pointer (some ⟨b10,0,none⟩)),(7,.pointer (some ⟨b17,0,none⟩)),(8,.pointer (some ⟨b18,0,none⟩))]:Env) (blk b18 [I64 (yn),I64 (yd)] 40::blk b17 [I64 (xn),I64 (xd)] 40::blk b10 [I64 (kd6),I64 (wd7),I64 (mo8)] 31::vc 108 (.slice ad3 es5.length cp4) (es5)::blk dk1 [.slice la ln lc,I64 (i16)] 125::I)
   refine Ah (Gm rfl (Gm rfl (Gl3 ty31 ?_)))
   refine Gl2 ty40 ?_
   refine G.e (Aj call47 rfl rfl (AFirst_ok (nd:=nn2) (kd:=kd6) (wd:=wd7) (mo:=mo8) (num:=xn) (den:=xd) Bo hH hel (by first|exact hfx|exact hfy) (Cv hT A1))) ?_
   rintro _ _ ⟨_,_,⟨tv19,ok20,rfl,hFPtv19,rfl⟩,rfl,rfl⟩
   refine Gm rfl (Gr (A3 rfl rfl) (Gr (A3 rfl rfl) (Gr (A3 rfl rfl) (Ga rfl (Ga rfl (Ga rfl (Af (Ar (S7 11 10 9 4 5 6 8 rfl rfl rfl rfl rfl rfl rfl) (Ah (Gm rfl (Gm rfl (Gl3 ty31 ?_))))))))))))
   refine Gl2 ty40 ?_
   refine G.e (Aj call47 rfl rfl (AFirst_ok (nd:=nn2) (kd:=kd6) (wd:=wd7) (mo:=mo8) (num:=yn) (den:=yd) Bo hH hel (by first|exact hfx|exact hfy) (Cv hT A1))) ?_
   rintro _ _ ⟨_,_,⟨tv21,ok22,rfl,hFPtv21,rfl⟩,rfl,rfl⟩
   refine Gm rfl (Gr (A3 rfl rfl) (Gr (A3 rfl rfl) (Gr (A3 rfl rfl) (Ga rfl (Ga rfl (Ga rfl ?_))))))
   have hw:=first_weak hFPtv21 hFPtv19 (fun _ _ h=>reachT_mono hfx hfy hxy h)
   have hfa:=first_at hFPtv21
   refine Af (Ar (S10 14 13 12 11 10 9 4 5 6 8 rfl rfl rfl rfl rfl rfl rfl rfl rfl rfl) (Ek (σ:=Nat) (fun s=>([(4,I64 (nn2)),(5,.slice ad3 es5.length cp4),(6,.pointer (some ⟨b10,0,none⟩)),(8,.pointer (some ⟨b18,0,none⟩)),(12,I64 (tv21)),(13,.bool (ok22))]:Env)) (fun s=>blk b18 [I64 (yn),I64 (yd)] 40::blk b17 [I64 (xn),I64 (xd)] 40::blk b10 [I64 (kd6),I64 (wd7),I64 (mo8)] 31::vc 108 (.slice ad3 es5.length cp4) (es5)::blk dk1 [.slice la ln lc,I64 (i16)] 125::I) (fun s=>True) ?_ ?_))
   ·refine Ah (Gm rfl (Gr (Bh rfl rfl) (Gm rfl (A7 (d:=65) rfl (fun g65=>?_) (fun g65=>?_)))))
    ·exact absurd rfl g65
    ·refine Gro (Ac rfl) (Gro (Bh rfl rfl) (Gr (Ak rfl rfl) (Gm rfl (A7 (d:=69) rfl (fun g69=>?_) (fun g69=>?_)))))
     ·exact absurd g69 (by simp)
     ·refine Gro (Ac rfl) (Gro (Ac rfl) (Eh (d:=71) rfl (fun g71=>?_) (fun g71=>?_)))
      ·refine Gro (Ac rfl) (Gro (Ck rfl) (Gro (Ao rfl rfl) (Gr (Ak rfl rfl) (Gm rfl (Eh (d:=76) rfl (fun g76=>?_) (fun g76=>?_))))))
       ·exfalso;have h:=hw;simp_all
       ·refine Gro (Ac rfl) (Gro (Ac rfl) (Eh (d:=78) rfl (fun g78=>?_) (fun g78=>?_)))
        ·refine Gro (Ac rfl) (Gro (Ac rfl) (Gro (Br rfl rfl) (Gro (Ao rfl rfl) (Gr (Ak rfl rfl) (Af (Ar (S7 83 13 12 4 5 6 8 rfl rfl rfl rfl rfl rfl rfl) (A6 rfl (fun c83=>?_) (fun c83=>?_))))))))
         ·exfalso;have h:=hw;(simp_all<;>omega)
         ·exact Az (Cl ((0)) trivial)
        ·exact Gpo (Gpo (Gpo (Gro (Ak rfl rfl) (Gr (Ak rfl rfl) (Af (Ar (S7 83 13 12 4 5 6 8 rfl rfl rfl rfl rfl rfl rfl) (Cw rfl (Az (Cl ((0)) trivial)))))))))
      ·refine Gpo (Gpo (Gro (Ak rfl rfl) (Gr (Ak rfl rfl) (Gm rfl (Gro (Ac rfl) (Gro (Ac rfl) (Eh (d:=78) rfl (fun g78=>?_) (fun g78=>?_))))))))
       ·refine Gro (Ac rfl) (Gro (Ac rfl) (Gro (Br rfl rfl) (Gro (Ao rfl rfl) (Gr (Ak rfl rfl) (Af (Ar (S7 83 13 12 4 5 6 8 rfl rfl rfl rfl rfl rfl rfl) (A6 rfl (fun c83=>?_) (fun c83=>?_))))))))
        ·exfalso;have h:=hw;(simp_all<;>omega)
        ·exact Az (Cl ((0)) trivial)
       ·exact Gpo (Gpo (Gpo (Gro (Ak rfl rfl) (Gr (Ak rfl rfl) (Af (Ar (S7 83 13 12 4 5 6 8 rfl rfl rfl rfl rfl rfl rfl) (Cw rfl (Az (Cl ((0)) trivial)))))))))
   ·rintro z_ hp
    show W Tryz.prog κ 139 _ _ ([(4,I64 (nn2)),(5,.slice ad3 es5.length cp4),(6,.pointer (some ⟨b10,0,none⟩)),(8,.pointer (some ⟨b18,0,none⟩)),(12,I64 (tv21)),(13,.bool (ok22))]:Env) (blk b18 [I64 (yn),I64 (yd)] 40::blk b17 [I64 (xn),I64 (xd)] 40::blk b10 [I64 (kd6),I64 (wd7),I64 (mo8)] 31::vc 108 (.slice ad3 es5.length cp4) (es5)::blk dk1 [.slice la ln lc,I64 (i16)] 125::I)
    refine Av (Ah (Gm rfl (Gm rfl (Gl3 ty31 ?_))))
    refine G.e (Aj call39 rfl rfl (Times43_ok (nd:=nn2) (kd:=kd6) (wd:=wd7) (mo:=mo8) Bo hH hel)) ?_
    rintro _ _ ⟨_,_,⟨ad23,cp24,rfl,rfl⟩,rfl,rfl⟩
    refine Gr (B3 Am rfl) (Gm rfl ?_)
    have hTl:=timesR_len hH hel
    have hTT:=timesR_rng hH
    refine Af (A5 (Bv (σ:=Nat) (fun s=>([(4,I64 (nn2)),(5,.slice ad3 es5.length cp4),(6,.pointer (some ⟨b10,0,none⟩)),(8,.pointer (some ⟨b18,0,none⟩)),(12,I64 (tv21)),(13,.bool (ok22)),(87,.slice ad23 (timesR kd6 wd7 mo8 es5).length cp24),(88,I64 ((((timesR kd6 wd7 mo8 es5).length:Nat):Int))),(89,I64 (((s:Nat):Int)))]:Env)) (fun s=>vc 3 (.slice ad23 (timesR kd6 wd7 mo8 es5).length cp24) (timesR kd6 wd7 mo8 es5)::blk b18 [I64 (yn),I64 (yd)] 40::blk b17 [I64 (xn),I64 (xd)] 40::blk b10 [I64 (kd6),I64 (wd7),I64 (mo8)] 31::vc 108 (.slice ad3 es5.length cp4) (es5)::blk dk1 [.slice la ln lc,I64 (i16)] 125::I) (fun s=>(s≤(timesR kd6 wd7 mo8 es5).length)) (fun s=>(timesR kd6 wd7 mo8 es5).length - s) (0) (show ((0:Nat)≤(timesR kd6 wd7 mo8 es5).length) from om) (Ab rfl (Ab rfl (Ab rfl (Ab rfl (Ab rfl (Ab rfl (Ab rfl (Ab rfl (Ab Ca Bp))))))))) (show Fit κ _ (vc 3 (.slice ad23 (timesR kd6 wd7 mo8 es5).length cp24) (timesR kd6 wd7 mo8 es5)::blk b18 [I64 (yn),I64 (yd)] 40::blk b17 [I64 (xn),I64 (xd)] 40::blk b10 [I64 (kd6),I64 (wd7),I64 (mo8)] 31::vc 108 (.slice ad3 es5.length cp4) (es5)::blk dk1 [.slice la ln lc,I64 (i16)] 125::I) from A4) ?_))
    rintro k hp
    have hk:=hp
    refine Ah (Gr (A8 rfl rfl) (Af (Av (A6 rfl (fun c90=>?_) (fun c90=>?_)))))
    ·refine Az (Ai (Av (A5 (Ah (Gr (Ba (α:=Int) (xs:=timesR kd6 wd7 mo8 es5) Am ty3 rfl rfl Bo om om) (Gr (Cb (xs:=timesR kd6 wd7 mo8 es5) ty3 rfl Bo om om) (Ga rfl ?_)))))))
     have hzm:(at_ (timesR kd6 wd7 mo8 es5) (k:Int))∈(timesR kd6 wd7 mo8 es5):=Cf om om
     have hzr:=hTT _ hzm
     refine Af (Ah (Gm rfl (Gm rfl (Gl3 ty31 ?_))))
     refine Gm rfl (G.e (Aj call44 rfl rfl (At_ok (nd:=nn2) (kd:=kd6) (wd:=wd7) (mo:=mo8) (tq:=at_ (timesR kd6 wd7 mo8 es5) (k:Int)) Bo hH hel hzr)) ?_)
     rintro _ _ ⟨_,_,⟨ad25,cp26,rfl,rfl⟩,rfl,rfl⟩
     refine Gm rfl (Gr (A3 rfl rfl) (Gr (A3 rfl rfl) (Ge1 (Ax ty48 rfl) fun b27=>Ge0 (Bj ty48) ?_)))
     refine Ga rfl (Af (Ar (S12 18 17 16 4 5 6 8 12 13 87 88 89 rfl rfl rfl rfl rfl rfl rfl rfl rfl rfl rfl rfl) (Ah (Gl2 ty48 ?_))))
     refine G.e (Aj call67 rfl rfl (Best19_ok (nd:=nn2) Bo (hH.graph _) om)) ?_
     rintro _ _ ⟨_,_,⟨ad28,cp29,BB30,NN31,DD32,rfl,hBR,rfl⟩,rfl,rfl⟩
     refine Gm rfl (Gr (A3 rfl rfl) (Gr (A3 rfl rfl) (Gr (A3 rfl rfl) (Ge1 (Ax ty40 rfl) fun b33=>Ga rfl (Ge0 (Bj ty40) ?_)))))
     refine Ga rfl (Af (Ar (S12 20 18 16 4 5 6 8 12 13 87 88 89 rfl rfl rfl rfl rfl rfl rfl rfl rfl rfl rfl rfl) (Ah (Gl2 ty40 ?_))))
     refine Gl2 ty40 ?_
     refine Gc0 (Aj call66 rfl rfl (Cmp01_ok (⟨NN31,DD32⟩:Fr) (⟨yn,yd⟩:Fr) (by first|assumption|exact hBR.frv (hH.graph _)) (by first|assumption|exact hBR.frv (hH.graph _)))) ?_
     refine Gr (B5 rfl rfl) (Ga rfl ?_)
     have hrq:0≤cmpF ⟨NN31,DD32⟩ ⟨yn,yd⟩↔_:=hBR.holds (hH.graph (at_ (timesR kd6 wd7 mo8 es5) (k:Int))) hfy
     have hz1:=hfa.1 (at_ (timesR kd6 wd7 mo8 es5) (k:Int)) hzm
     refine Af (Ar (S12 22 18 16 4 5 6 8 12 13 87 88 89 rfl rfl rfl rfl rfl rfl rfl rfl rfl rfl rfl rfl) (Ah (Gm rfl (Gr (Bh rfl rfl) (Gm rfl (A7 (d:=113) rfl (fun g113=>?_) (fun g113=>?_)))))))
     ·exact absurd rfl g113
     ·refine Gro (Ac rfl) (Gro (Ac rfl) (A7 (d:=115) rfl (fun g115=>?_) (fun g115=>?_)))
      ·refine Gro (Ac rfl) (Gro (Ck rfl) (Gro (Ac rfl) (Eh (d:=118) rfl (fun g118=>?_) (fun g118=>?_))))
       ·exfalso;have h:=hz1 (hrq.1 asm);simp_all
       ·refine Gro (Ac rfl) (Gro (Ac rfl) (Gro (A8 rfl rfl) (Gro (Ak rfl rfl) (Gro (Ao rfl rfl) (Gr (Ak rfl rfl) (Gm rfl (A7 (d:=125) rfl (fun g125=>?_) (fun g125=>?_))))))))
        ·exfalso;have h:=hz1 (hrq.1 asm);omega
        ·refine Gro (Ac rfl) (Gro (Ac rfl) (Eh (d:=127) rfl (fun g127=>?_) (fun g127=>?_)))
         ·refine Gro (Ac rfl) (Gro (Ac rfl) (Gro (Bi rfl rfl) (Gro (Ao rfl rfl) (Gro (Ac rfl) (A7 (d:=132) rfl (fun g132=>?_) (fun g132=>?_))))))
          ·refine Gro (Ac rfl) (Gro (Cd rfl) (Gro (Ao rfl rfl) (Gr (Ak rfl rfl) (Af (Ar (S10 136 4 5 6 8 12 13 87 88 89 rfl rfl rfl rfl rfl rfl rfl rfl rfl rfl) (A6 rfl (fun c136=>?_) (fun c136=>?_)))))))
           ·exfalso;have h:=hfa.2;(simp_all<;>exact hrq h)
           ·exact Az (Al (Ai (A2 (Gr (Rad rfl rfl) (Gm rfl (Be (B0 ((k+1)) om)))))))
          ·exact Gpo (Gpo (Gro (Ak rfl rfl) (Gr (Ak rfl rfl) (Af (Ar (S10 136 4 5 6 8 12 13 87 88 89 rfl rfl rfl rfl rfl rfl rfl rfl rfl rfl) (Cw rfl (Az (Al (Ai (A2 (Gr (Rad rfl rfl) (Gm rfl (Be (B0 ((k+1)) om))))))))))))))
         ·exact Gpo (Gpo (Gpo (Gro (Ak rfl rfl) (Gro (Ac rfl) (Gpo (Gpo (Gro (Ak rfl rfl) (Gr (Ak rfl rfl) (Af (Ar (S10 136 4 5 6 8 12 13 87 88 89 rfl rfl rfl rfl rfl rfl rfl rfl rfl rfl) (Cw rfl (Az (Al (Ai (A2 (Gr (Rad rfl rfl) (Gm rfl (Be (B0 ((k+1)) om)))))))))))))))))))
      ·refine Gpo (Gpo (Gpo (Gpu (Gpu (Gpu (Gpo (Gro (Ak rfl rfl) (Gr (Ak rfl rfl) (Gm rfl (Gro (Ac rfl) (Gro (Ac rfl) (Eh (d:=127) rfl (fun g127=>?_) (fun g127=>?_)))))))))))))
       ·refine Gro (Ac rfl) (Gro (Ac rfl) (Gro (Bi rfl rfl) (Gro (Ao rfl rfl) (Gro (Ac rfl) (A7 (d:=132) rfl (fun g132=>?_) (fun g132=>?_))))))
        ·refine Gro (Ac rfl) (Gro (Cd rfl) (Gro (Ao rfl rfl) (Gr (Ak rfl rfl) (Af (Ar (S10 136 4 5 6 8 12 13 87 88 89 rfl rfl rfl rfl rfl rfl rfl rfl rfl rfl) (A6 rfl (fun c136=>?_) (fun c136=>?_)))))))
         ·exfalso;have h:=hfa.2;(simp_all<;>exact hrq h)
         ·exact Az (Al (Ai (A2 (Gr (Rad rfl rfl) (Gm rfl (Be (B0 ((k+1)) om)))))))
        ·exact Gpo (Gpo (Gro (Ak rfl rfl) (Gr (Ak rfl rfl) (Af (Ar (S10 136 4 5 6 8 12 13 87 88 89 rfl rfl rfl rfl rfl rfl rfl rfl rfl rfl) (Cw rfl (Az (Al (Ai (A2 (Gr (Rad rfl rfl) (Gm rfl (Be (B0 ((k+1)) om))))))))))))))
       ·exact Gpo (Gpo (Gpo (Gro (Ak rfl rfl) (Gro (Ac rfl) (Gpo (Gpo (Gro (Ak rfl rfl) (Gr (Ak rfl rfl) (Af (Ar (S10 136 4 5 6 8 12 13 87 88 89 rfl rfl rfl rfl rfl rfl rfl rfl rfl rfl) (Cw rfl (Az (Al (Ai (A2 (Gr (Rad rfl rfl) (Gm rfl (Be (B0 ((k+1)) om)))))))))))))))))))
    ·refine Bt (Aq (Aq (A9 (Ai (Ah (Gc0 (Aj call41 rfl rfl (Awake43_ok (Cv hT A1))) ?_))))))
     exact Ga rfl (Af (Ay (A0 rfl rfl (I) A1 ⟨rfl,rfl⟩)))
end Go.Sl
namespace Go.Sl
open Go.ChangeShapes Go.WideShapes Go.ChangeAt Go.RowKit Go.Deep
section
variable {κ:Ctx}{w w':World}{I:List Item}
theorem old_cell(hs:Sep κ w' I)(hm:old w.heap.size w∈I){b o:Nat}{u:Value}(hc:w.cell? ⟨b,o,none⟩=some u):w'.cell? ⟨b,o,none⟩=some u:=by
 have hok:∀k,k<w.heap.size→w'.heap[k]? = w.heap[k]? :=(hs.ok _ hm).1
 have hb:b<w.heap.size:=by
  refine Nat.not_le.1 fun h=>?_
  simp [World.cell?,Array.getElem?_eq_none h] at hc
 have:=hok b hb
 simp only [World.cell?,this] at hc ⊢
 exact hc
def SlW{α:Type}[Enc α](w:World)(v:Value)(xs:List α):Prop:=slOk w (Enc.sz α) v xs.length (cells xs)
theorem SlW.sl{α:Type}[Enc α]{v:Value}{xs:List α}(h:SlW w v xs)(hm:old w.heap.size w∈I):Sl κ I v xs:=fun w' hs=>by
 obtain ⟨a,cap,hv,h1,h2,h3,h4⟩:=h
 refine ⟨a,cap,hv,h1,h2,h3,fun hc=>?_⟩
 obtain ⟨b,off,ha,hr⟩:=h4 hc
 exact ⟨b,off,ha,fun j u hj=>old_cell hs hm (hr j u hj)⟩
end
section
variable {P:Program}{w:World}{r:Reach}{b0:Nat}{t:TypeId}{H:Type}{enc:TypeId×Value→H}{base:Nat}{spare:Nat→Bool}{held:Bool}
theorem spot_none{e:TypeId}{a:Addr}{len cap:Nat}(ht:P.underlying t=some (.slice e))(h:Cell.okWide P w r b0 t (.slice (some a) len cap)):a.spot=none:=by
 simp only [Cell.okWide,Cell.ok,ht] at h
 exact h.2.2.2.1
theorem InR_of{n:Int}(h:(Lit.int .i64 n).wf=true):InR n:=by
 simp only [Lit.wf,Bool.and_eq_true,decide_eq_true_eq] at h
 exact h
def Light(P:Program)(t:TypeId)(d:DataW H):Prop:=∀n∈d.weights P t,n≤reachBytes
theorem light_arg{ts:List TypeId}{ds:List (DataW H)}(h:(DataW.weightsEach P ts ds).all (· ≤ reachBytes)=true){j:Nat}{d:DataW H}(ht:ts[j]? = some t)(hd:ds[j]? = some d):Light P t d:=fun n hn=>by
 have:=List.all_eq_true.1 h _ (DataW.weights_mem_each ht hd n hn)
 simpa using this
theorem light_slice{e:TypeId}{es sp:List (DataW H)}(ht:P.underlying t=some (.slice e))(h:Light P t (.slice es sp)):es.length*P.bytesOf e≤140737488351232:=by
 have h1:=h ((es.length+sp.length)*P.bytesOf e) (by simp [DataW.weights,ht])
 have h2:es.length*P.bytesOf e≤(es.length+sp.length)*P.bytesOf e:=Nat.mul_le_mul_right _ (by omega)
 simp only [reachBytes] at h1
 omega
theorem addr_eta{a:Addr}(h:a.spot=none):a=⟨a.block,a.off,none⟩:=by cases a;simp_all
theorem in_ints{e:TypeId}{v:Value}{fuel:Nat}{x:DataW H×List MemPlace}(ht:P.underlying t=some (.slice e))(he:P.underlying e=some (.int .i64))(hc:P.cellsOf e=1)
  (hv:Cell.okWide P w r b0 t v) (h:DataW.trod enc P w base spare held fuel t [v]=some x) (hw:Light P t x.1):∃(a:Option Addr) (c:Nat) (xs:List Int),v = .slice a xs.length c∧SlW w (.slice a xs.length c) xs∧(∀n∈xs,InR n)∧xs.length*P.bytesOf e≤140737488351232:=by
 rcases open_ints ht he hc h with ⟨hcs,_⟩|⟨a,l,c,zs,hcs,_,hl,hm,hz,hx,hcell,hwz⟩
 ·obtain rfl:v = .slice none 0 0:=by simpa using hcs
  exact ⟨none,0,[],rfl,⟨none,0,rfl,by simp [cells],Nat.le_refl _,by simp,fun h=>by omega⟩,by simp,by simp⟩
 ·obtain rfl:v = .slice (some a) l c:=by simpa using hcs
  have hsp:=spot_none ht hv
  have hlen:l≤zs.length:=by rw [hz];split<;>omega
  have hxl:(zs.take l).length=l:=by rw [List.length_take];omega
  refine ⟨some a,c,zs.take l,by rw [hxl],⟨some a,c,rfl,cells_length _,by rw [hxl];exact hl,hm,fun hc0=>⟨a.block,a.off,by rw [←addr_eta hsp],fun j u hj=>?_⟩⟩,fun n hn=>InR_of (hwz n (List.mem_of_mem_take hn)),by
   rw [hx] at hw
   have:=light_slice ht hw
   simpa [lits] using this⟩
  have hjl:j<l:=by
   have:=(List.getElem?_eq_some_iff.1 hj).1
   rw [cells_length,hxl] at this
   have e1:Enc.sz Int=1:=rfl
   rw [e1] at this;omega
  have h1:=cells_get (zs.take l) j 0 (by omega) (by decide)
  have e1:j*Enc.sz Int+0=j:=by show j*1+0=j;omega
  rw [e1] at h1
  rw [h1] at hj
  have h2:=hcell j (by omega)
  rw [addr_eta hsp,addr_add] at h2
  have h3:u=I64 (zs.getD j 0):=by
   have h4:some (I64 ((zs.take l)[j]'(by omega)))=some u:=hj
   simp only [Option.some.injEq] at h4
   rw [←h4]
   simp [List.getD_eq_getElem?_getD,List.getElem?_eq_getElem (show j<zs.length by omega)]
  rw [h3];exact h2
theorem arg_cell{v:Value}{d:DataW H}{ps:List MemPlace}{e:TypeId}(ht:P.underlying t=some (.slice e))(hv:Value.okWide P w r b0 t v)(h:DataW.Trod enc P w base spare held t v d ps):Cell.okWide P w r b0 t v∧∃fuel,DataW.trod enc P w base spare held fuel t [v]=some (d,ps):=by
 obtain ⟨a,len,cap,rfl⟩:=okWide_slice ht hv
 simp only [Value.okWide,ht] at hv
 obtain ⟨fuel,hf⟩:=h
 exact ⟨hv,fuel,by simpa [Value.cells] using hf⟩
theorem joined_mk{P:Program}{f:FuncId}{fn:Func}{s:ChangeSpec}{c:OpenClaim}(h1:(c.wf (OpenSpec.ofChange s))=true)(h2:(laidOutB P)=true)(h3:(mapsRowed P)=true)(h4:(fn.params.all (P.readableRec ·))=true)(h5:(namedTie P c.named s.vars)=true)(h6:((c.stops==[]))=true)(h7:((P.stops==[]))=true)(h8:((c.knobs==[]))=true)(h9:((P.stopKnobs==[]))=true)(h10:((c.inPlace==P.inPlace f))=true)(h11:((c.unfollowed==P.unfollowed f))=true)(h12:((c.recurses==P.recurses f))=true)(h13:((c.named==P.varsNamed f))=true)(h14:((c.maps==(fn.params.toList++s.plain.varTypes P).any (P.mapsRec ·)))=true)(h15:((c.ifaces==(fn.params.toList++s.plain.varTypes P).any (P.ifacesRec ·)))=true)(h16:((c.mapsOut==P.mapsAmong fn.resultTypes.toList))=true)(h17:((c.loops==(fn.params.toList++s.plain.varTypes P).any (P.loopsFrom ·)))=true)(h18:((c.wideKeys==(fn.params.toList++s.plain.varTypes P++fn.resultTypes.toList).any (P.wideKeysFrom ·)))=true)(h19:(s.vars.all (P.varReadable ·))=true)(h20:(fn.resultTypes.all (fun t=>P.readableRec t&&decide (t<P.types.size)))=true)(h21:((c.ifacesOut==fn.resultTypes.toList.any (P.ifacesRec ·)))=true)(h22:((c.loopsOut==fn.resultTypes.toList.any (P.loopsFrom ·)))=true)(h23:((c.plainKeys==P.plainKeys))=true)(h24:(c.shortTexts.isNone)=true)(h25:(P.stopsHeard)=true)(h26:(P.mayEnter)=true)(h27:((c.lifted==P.liftsFinal))=true)(h28:((P.make==some c.make))=true)(h29:((c.kinds==(if c.domain.isEmpty then [] else fn.params.toList.map fun t=>match P.underlying t with |some (.int k)=>some k|_=>none)))=true)(h30:((c.pinned==c.pinnedBy))=true)(h31:((c.veiled==(fn.params.toList++s.plain.varTypes P++fn.resultTypes.toList).any (P.veiledRec ·)))=true)(h32:(c.veiledFits P fn.params.toList (fn.params.toList++s.plain.varTypes P++fn.resultTypes.toList))=true):joinedFacts P f fn s c=true:=by
 unfold joinedFacts
 exact (Bool.and_eq_true_iff.2 ⟨(Bool.and_eq_true_iff.2 ⟨(Bool.and_eq_true_iff.2 ⟨(Bool.and_eq_true_iff.2 ⟨(Bool.and_eq_true_iff.2 ⟨(Bool.and_eq_true_iff.2 ⟨(Bool.and_eq_true_iff.2 ⟨(Bool.and_eq_true_iff.2 ⟨(Bool.and_eq_true_iff.2 ⟨(Bool.and_eq_true_iff.2 ⟨(Bool.and_eq_true_iff.2 ⟨(Bool.and_eq_true_iff.2 ⟨(Bool.and_eq_true_iff.2 ⟨(Bool.and_eq_true_iff.2 ⟨(Bool.and_eq_true_iff.2 ⟨(Bool.and_eq_true_iff.2 ⟨(Bool.and_eq_true_iff.2 ⟨(Bool.and_eq_true_iff.2 ⟨(Bool.and_eq_true_iff.2 ⟨(Bool.and_eq_true_iff.2 ⟨(Bool.and_eq_true_iff.2 ⟨(Bool.and_eq_true_iff.2 ⟨(Bool.and_eq_true_iff.2 ⟨(Bool.and_eq_true_iff.2 ⟨(Bool.and_eq_true_iff.2 ⟨(Bool.and_eq_true_iff.2 ⟨(Bool.and_eq_true_iff.2 ⟨(Bool.and_eq_true_iff.2 ⟨(Bool.and_eq_true_iff.2 ⟨(Bool.and_eq_true_iff.2 ⟨(Bool.and_eq_true_iff.2 ⟨h1,h2⟩),h3⟩),h4⟩),h5⟩),h6⟩),h7⟩),h8⟩),h9⟩),h10⟩),h11⟩),h12⟩),h13⟩),h14⟩),h15⟩),h16⟩),h17⟩),h18⟩),h19⟩),h20⟩),h21⟩),h22⟩),h23⟩),h24⟩),h25⟩),h26⟩),h27⟩),h28⟩),h29⟩),h30⟩),h31⟩),h32⟩)
theorem calls_below{f:FuncId}{args:List Value}(h:CallS P ⟨w.os,w.tape,w.output,w.drawn⟩ f args [old w.heap.size w] fun r J=>r = .bool true∧[old w.heap.size w]=J) :
  Calls P f args.toArray w fun e w'=>e = .returned (.bool true)∧Below w.heap.size w w':=
 (h w (Sep.begin w)).mono fun e w' ⟨v,J,he,⟨hv,hJ⟩,hs⟩=>by
  subst hv hJ
  exact ⟨he,hs.below List.mem_cons_self⟩
end
end Go.Sl
