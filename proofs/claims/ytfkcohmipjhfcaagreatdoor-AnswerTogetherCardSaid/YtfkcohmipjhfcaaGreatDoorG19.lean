/- A part of the proofs of statements of this seat: contracts of functions, and the plain laws that they lean on. No conditions. -/
import Derived.Test.YtfkcohmipjhfcaaGreatDoorG18
import Derived.ProofKit
import Derived.OpenShut
import Derived.ChangeOld
import Derived.Below
import Derived.SizedLaws
import Derived.JoinedOf
import Derived.Deep.Slices
import Derived.Deep.Fields
set_option linter.unusedVariables false
set_option linter.unusedSimpArgs false
set_option linter.unusedSectionVars false
namespace Go.Sl
open Go.Proofs
set_option maxRecDepth 4000
def togQ(nd kd wd mo:Int)(es:List Ev)(xs:List Int)(lv t:Int):Prop:=∀x∈xs,x∈commG nd (atG kd wd mo es t) (at_ xs 0) lv
set_option maxHeartbeats 2000000 in
theorem ATog_ok{κ:Ctx}{I:List Item}{nd kd wd mo lv:Int}{ea sa:Option Addr}{ec sc:Nat}{es:List Ev}{xs:List Int}(hl:Sl κ I (.slice ea es.length ec) es)(hs:Sl κ I (.slice sa xs.length sc) xs)(hH:HistOk nd kd wd mo es)(hlen:es.length≤19)(hx:0<xs.length∧xs.length≤64)(hval:ValidP xs nd)(hT:TabRd κ I 0 tzCells) :
    CallS Tryz.prog κ 50 [I64 (nd),.slice ea es.length ec,.agg #[I64 (kd),I64 (wd),I64 (mo)],.slice sa xs.length sc,I64 (lv)] I (fun r J=>∃tv ok,r = .tuple #[I64 tv,.bool ok,I64 0]∧FirstP kd wd mo es (togQ nd kd wd mo es xs lv) tv ok∧I=J):=by
 refine CallS.enterM (L:=[(0,I64 (nd)),(1,.slice ea es.length ec),(2,.agg #[I64 (kd),I64 (wd),I64 (mo)]),(3,.slice sa xs.length sc),(4,I64 (lv))]) Tryz.func50 rfl rfl rfl rfl ?_
 refine Ah (Ge1 (Bc (cs:=[_,_,_]) rfl rfl rfl) fun b1=>Ge1 (Bc (cs:=[_]) rfl rfl rfl) fun b2=>Ge1 (Bc (cs:=[_]) rfl rfl rfl) fun b3=>Ge1 (A8 ty3 rfl) fun b4=>Ge1 (A8 ty4 rfl) fun b5=>Ge1 (A8 ty36 rfl) fun b6=>Af (Ap (Ah (Gm rfl (Gm rfl (Gl3 ty31 ?_))))))
 refine Gc0 (Al call97 rfl rfl (ACheck_ok (nd:=nd) (kd:=kd) (wd:=wd) (mo:=mo) (Bi hl))) ?_
 refine Ga rfl (Af (Ar (S9 13 12 11 10 9 8 7 0 1 rfl rfl rfl rfl rfl rfl rfl rfl rfl) (Ah (Gm rfl (Gr (Br rfl rfl) (Af (A9 rfl (fun c23=>?_) (fun c23=>?_))))))))
 ·exact absurd (slideE_zeroH hH) c23
 ·refine A1 (Ai (Ap (Ah (Gl ty22 ?_))))
  refine Gm rfl (Gc0 (Al call88 rfl rfl (NValid_ok (Bi hs) nd)) ?_)
  refine Gr (Dp rfl) (Gm rfl (Bk (d:=29) rfl (fun g29=>?_) (fun g29=>?_)))
  ·exact absurd hval (by first|assumption|simpa using g29)
  ·refine Gro (Av ty22) ?_
   refine Gro (Bq Aa rfl) (Gro (Bm rfl rfl) (Gr (Au rfl rfl) (Af (Ar (S9 33 12 11 10 9 8 7 0 1 rfl rfl rfl rfl rfl rfl rfl rfl rfl) (A9 rfl (fun c33=>?_) (fun c33=>?_))))))
   ·exact absurd c33 (by first|assumption|omega|simp)
   ·refine A1 (Ai (Ap (Ah (Gm rfl (Gm rfl (Gl3 ty31 ?_))))))
    refine G.e (Al call98 rfl rfl Frames_ok) ?_
    rintro _ _ ⟨_,_,⟨qb7,qb8,qb9,rfl,rfl⟩,rfl,rfl⟩
    refine Af (A3 (W.fit (J:=blk b4 [I64 (0)] 3::blk b5 [.bool false] 4::blk b6 [I64 (0)] 36::blk qb9 [I64 (kd),I64 (wd),I64 (mo)] 31::blk qb8 [.slice ea es.length ec] 28::blk qb7 [I64 (nd)] 3::blk b3 [I64 (lv)] 3::blk b2 [.slice sa xs.length sc] 22::blk b1 [I64 (kd),I64 (wd),I64 (mo)] 31::I) Bt ?_))
    refine W.rangeFnB (gf:=165) (lb:=[.pointer (some ⟨qb7,0,none⟩),.pointer (some ⟨qb8,0,none⟩),.pointer (some ⟨qb9,0,none⟩)]) rfl call165 fun Dm l rc hr1 hr2 hr3 hr4 hta=>?_
    refine (Frames1_ok (I:=blk qb9 [I64 (kd),I64 (wd),I64 (mo)] 31::blk qb8 [.slice ea es.length ec] 28::blk qb7 [I64 (nd)] 3::blk b3 [I64 (lv)] 3::blk b2 [.slice sa xs.length sc] 22::blk b1 [I64 (kd),I64 (wd),I64 (mo)] 31::I) (σ:=Unit) (τ:=Int) (l:=l) (Lf:=fun s=>[recI l rc,dfrI Dm,blk b4 [I64 (0)] 3,blk b5 [.bool false] 4,blk b6 [I64 (0)] 36]) (Pf:=fun fst j s=>(∀i:Nat,i<j→¬(togQ nd kd wd mo es xs lv) (at_ (allE kd wd mo es) (i:Int)).tm)) (Xf:=fun s=>[recI l {rc with state:= .done,pending:=some .ret},dfrI Dm,blk b4 [I64 (s)] 3,blk b5 [.bool true] 4,blk b6 [I64 (0)] 36]) (Qf:=fun s=>(FirstYes kd wd mo es (togQ nd kd wd mo es xs lv) s)) (s0:=()) hH hlen (Ck mm) (Ck mm) (Ck mm) (Bi hl) (fun i h=>absurd h (Nat.not_lt_zero i)) ?_).mono ?_
    ·rintro T hTI fst j tm own j1 ga gc hM _ hp
     have hq:(∀i:Nat,i<j→¬(togQ nd kd wd mo es xs lv) (at_ (allE kd wd mo es) (i:Int)).tm):=hp
     have hbq0:BlkRd κ T b2 [.slice sa xs.length sc] 22:=(Ck (I:=blk qb9 [I64 (kd),I64 (wd),I64 (mo)] 31::blk qb8 [.slice ea es.length ec] 28::blk qb7 [I64 (nd)] 3::blk b3 [I64 (lv)] 3::blk b2 [.slice sa xs.length sc] 22::blk b1 [I64 (kd),I64 (wd),I64 (mo)] 31::I) mm).fit hTI
     have hbq1:BlkRd κ T b3 [I64 (lv)] 3:=(Ck (I:=blk qb9 [I64 (kd),I64 (wd),I64 (mo)] 31::blk qb8 [.slice ea es.length ec] 28::blk qb7 [I64 (nd)] 3::blk b3 [I64 (lv)] 3::blk b2 [.slice sa xs.length sc] 22::blk b1 [I64 (kd),I64 (wd),I64 (mo)] 31::I) mm).fit hTI
     have hTT:TabRd κ T 0 tzCells:=(B0 (J:=blk qb9 [I64 (kd),I64 (wd),I64 (mo)] 31::blk qb8 [.slice ea es.length ec] 28::blk qb7 [I64 (nd)] 3::blk b3 [I64 (lv)] 3::blk b2 [.slice sa xs.length sc] 22::blk b1 [I64 (kd),I64 (wd),I64 (mo)] 31::I) hT Ax).fit hTI
     have hmg:=mom_graph hH hM
     have hGr:GrOk nd (edgesK (linksL ((allE kd wd mo es).take j1))):=by rw [hmg];exact hH.graph tm
     have hsT:Sl κ T (.slice sa xs.length sc) xs:=(Bi hs).fit hTI
     refine YieldB.fit (J:=recI l rc::vc 135 (.slice ga (edgesK (linksL ((allE kd wd mo es).take j1))).length gc) (edgesK (linksL ((allE kd wd mo es).take j1)))::dfrI Dm::blk b4 [I64 (0)] 3::blk b5 [.bool false] 4::blk b6 [I64 (0)] 36::T) Bt ?_
     refine YieldB.mkA (L₀:=[(39,.agg #[I64 (nd),.slice ga (edgesK (linksL ((allE kd wd mo es).take j1))).length gc]),(38,.agg #[I64 (tm),.bool (own)]),(37,.func (.func 165) #[] #[.pointer (some ⟨qb7,0,none⟩),.pointer (some ⟨qb8,0,none⟩),.pointer (some ⟨qb9,0,none⟩)]),(36,.agg #[I64 (kd),I64 (wd),I64 (mo)]),(35,.slice ea es.length ec),(34,I64 (nd)),(33,.bool (decide (((xs.length:Nat):Int)=0))),(12,.pointer (some ⟨b6,0,none⟩)),(11,.pointer (some ⟨b5,0,none⟩)),(10,.pointer (some ⟨b4,0,none⟩)),(9,.pointer (some ⟨b3,0,none⟩)),(8,.pointer (some ⟨b2,0,none⟩)),(7,.pointer (some ⟨b1,0,none⟩)),(0,I64 (nd)),(1,.slice ea es.length ec)]) (by rw [hr2];rfl) hr3 hr4 (by rw [hr2,fold_two];exact ag_two hta rfl rfl) ?_
     refine Ek ?_
     refine C8 (fun _ _ h=>False.elim h) rfl ?_
     refine Ge1 (A8 ty153 rfl) fun b10=>Ge0 (Co ty153) ?_
     refine Bh (Ds ?_)
     refine WR.sub (L':=[(14,_),(39,_),(12,_),(11,_),(10,_),(9,_),(8,_)]) (Ab rfl (Ab rfl (Ab rfl (Ab rfl (Ab rfl (Ab rfl (Ab rfl Bj))))))) ?_
     refine C8 (fun _ _ h=>False.elim h) rfl ?_
     refine Ge1 (A8 ty48 rfl) fun b11=>Ge0 (Co ty48) ?_
     refine Bh (V.begin (blk b11 [I64 (nd),.slice ga (edgesK (linksL ((allE kd wd mo es).take j1))).length gc] 48::blk b10 [I64 (tm),.bool (own)] 153::vc 135 (.slice ga (edgesK (linksL ((allE kd wd mo es).take j1))).length gc) (edgesK (linksL ((allE kd wd mo es).take j1)))::dfrI Dm::blk b4 [I64 (0)] 3::blk b5 [.bool false] 4::blk b6 [I64 (0)] 36::T) Bt hr1 ?_)
     refine WR.block ?_
     refine Ek ?_
     refine WR.drawn mixed (fun _ _ h=>False.elim h) rfl ?_
     refine Bl (recI l {rc with state:= .busy}::blk b11 [I64 (nd),.slice ga (edgesK (linksL ((allE kd wd mo es).take j1))).length gc] 48::blk b10 [I64 (tm),.bool (own)] 153::vc 135 (.slice ga (edgesK (linksL ((allE kd wd mo es).take j1))).length gc) (edgesK (linksL ((allE kd wd mo es).take j1)))::dfrI Dm::blk b4 [I64 (0)] 3::blk b5 [.bool false] 4::blk b6 [I64 (0)] 36::T) 11 (Dr 0 rfl (Bo (vs:=[_,_]) ty48) ?_)
     refine Dr 1 rfl (Cp ty22 rfl (Cm hbq0 Ax) rfl) (Dr 2 rfl (A0 (α:=Int) (xs:=xs) Aa ty3 rfl rfl (Bi hsT) om om) (Dr 3 rfl (Bp (xs:=xs) ty3 rfl (Bi hsT) om om) (Dr 4 rfl (Cp ty3 rfl (Cm hbq1 Ax) rfl) (Ds1 5 (Se rfl (Al call59 rfl rfl (Comm_ok (nd:=nd) (v:=at_ xs 0) (lv:=lv) Bf hGr (by have h:=(hval 0 om).1;exact h) (B0 hTT Ax))) ?_)))))
     rintro _ _ ⟨_,_,⟨ad12,cp13,rfl,rfl⟩,rfl,rfl⟩
     refine ⟨Ay,?_⟩
     refine Dr 6 rfl (Ad rfl) (Dr 7 rfl (Aw rfl rfl) (Dr 8 rfl (Aw rfl rfl) (Dr 9 rfl (A6 rfl) (Dr 10 rfl (A6 rfl) (Dz (Ds ?_))))))
     refine WR.sub (L':=[(17,_),(16,_),(14,_),(12,_),(11,_),(10,_),(8,_)]) (Ab rfl (Ab rfl (Ab rfl (Ab rfl (Ab rfl (Ab rfl (Ab rfl Bj))))))) ?_
     refine Ek ?_
     refine C8 (fun _ _ h=>False.elim h) rfl ?_
     refine Gf fld153_1 rfl (Gl ty4 ?_)
     refine Gm rfl (G.splitb (d:=51) rfl (fun g51=>?_) (fun g51=>?_))
     ·refine Gro (Ad rfl) (Gro (Bm rfl rfl) (Gr (As rfl rfl) (Gm rfl (Bk (d:=55) rfl (fun g55=>?_) (fun g55=>?_)))))
      ·refine Gro (Cp ty22 rfl (Cm hbq0 Ax) rfl) (Gro (Ad rfl) (G.eff (Cq rfl rfl rfl) (Al call102 rfl rfl (WithinI_ok (Bi hsT) Bf om (by have:=rchG_len nd (edgesK (linksL ((allE kd wd mo es).take j1))) [at_ xs 0] (coreK nd (edgesK (linksL ((allE kd wd mo es).take j1))) lv);show (rchG _ _ _ _).length≤_;omega))) ?_))
       rintro _ _ ⟨_,_,⟨rfl,rfl⟩,rfl,rfl⟩
       refine Gr (As rfl rfl) (Bh (Ds ?_))
       refine WR.sub (L':=[(59,_),(14,_),(12,_),(11,_),(10,_)]) (Ab rfl (Ab rfl (Ab rfl (Ab rfl (Ab rfl Bj))))) ?_
       refine WR.ite rfl (fun c59=>?_) (fun c59=>?_)
       ·refine Ek ?_
        refine C8 (fun _ _ h=>False.elim h) rfl ?_
        refine Gf fld153_0 rfl (Gl ty3 ?_)
        refine Ge0 (Cx (cs:=[_]) (vs:=[_]) (cs':=[_]) ty3) ?_
        refine Ge0 (Cx (cs:=[_]) (vs:=[_]) (cs':=[_]) ty4) ?_
        refine Ge0 (Cx (cs:=[_]) (vs:=[_]) (cs':=[_]) ty36) ?_
        refine Bh (Ds ?_)
        refine WR.ret ?_
        exact Ao (V.roundRet (dfrI Dm::blk b4 [I64 (tm)] 3::blk b5 [.bool true] 4::blk b6 [I64 (0)] 36::T) Bt (.inr ⟨rfl,(tm),(show (FirstYes kd wd mo es (togQ nd kd wd mo es xs lv) tm) from (fi_yes hH hM hq g51 (by unfold togQ;rw [←hmg];exact c59))),rfl⟩))
       ·refine WR.skip ?_
        exact Aj (V.roundB (dfrI Dm::blk b4 [I64 (0)] 3::blk b5 [.bool false] 4::blk b6 [I64 (0)] 36::T) Bt hr1 (.inl ⟨rfl,(),(show (∀i:Nat,i<j1→¬(togQ nd kd wd mo es xs lv) (at_ (allE kd wd mo es) (i:Int)).tm) from (fi_next hM hq (by first|exact fun h=>absurd (g51.symm.trans h) dc|exact fun _ h=>c59 (by unfold togQ at h;rw [←hmg] at h;exact h)))),rfl⟩))
      ·exact absurd rfl g55
     ·refine Gpo (Gpo (Gr (Au rfl rfl) (Gm rfl (Gpo (Gpo (Gpo (Gr (Au rfl rfl) (Bh (Ds ?_)))))))))
      refine WR.sub (L':=[(59,_),(14,_),(12,_),(11,_),(10,_)]) (Ab rfl (Ab rfl (Ab rfl (Ab rfl (Ab rfl Bj))))) ?_
      refine WR.no rfl ?_
      refine WR.skip ?_
      exact Aj (V.roundB (dfrI Dm::blk b4 [I64 (0)] 3::blk b5 [.bool false] 4::blk b6 [I64 (0)] 36::T) Bt hr1 (.inl ⟨rfl,(),(show (∀i:Nat,i<j1→¬(togQ nd kd wd mo es xs lv) (at_ (allE kd wd mo es) (i:Int)).tm) from (fi_next hM hq (by first|exact fun h=>absurd (g51.symm.trans h) dc|exact fun _ h=>c59 (by unfold togQ at h;rw [←hmg] at h;exact h)))),rfl⟩))
    rintro v K ⟨rfl,(⟨_,hp,rfl⟩|⟨tv,hp,rfl⟩)⟩
    ·have hq:(∀i:Nat,i<(allE kd wd mo es).length→¬(togQ nd kd wd mo es xs lv) (at_ (allE kd wd mo es) (i:Int)).tm):=hp
     refine .inl ⟨_,rfl,?_⟩
     show V κ _ _ .normal ([(37,.func (.func 165) #[] #[.pointer (some ⟨qb7,0,none⟩),.pointer (some ⟨qb8,0,none⟩),.pointer (some ⟨qb9,0,none⟩)]),(36,.agg #[I64 (kd),I64 (wd),I64 (mo)]),(35,.slice ea es.length ec),(34,I64 (nd)),(33,.bool (decide (((xs.length:Nat):Int)=0))),(12,.pointer (some ⟨b6,0,none⟩)),(11,.pointer (some ⟨b5,0,none⟩)),(10,.pointer (some ⟨b4,0,none⟩)),(9,.pointer (some ⟨b3,0,none⟩)),(8,.pointer (some ⟨b2,0,none⟩)),(7,.pointer (some ⟨b1,0,none⟩)),(0,I64 (nd)),(1,.slice ea es.length ec)]:Env) (dfrI Dm::blk b4 [I64 (0)] 3::blk b5 [.bool false] 4::blk b6 [I64 (0)] 36::blk qb9 [I64 (kd),I64 (wd),I64 (mo)] 31::blk qb8 [.slice ea es.length ec] 28::blk qb7 [I64 (nd)] 3::blk b3 [I64 (lv)] 3::blk b2 [.slice sa xs.length sc] 22::blk b1 [I64 (kd),I64 (wd),I64 (mo)] 31::I)
     refine Aj (Ai (Ah (Ge0 (Cx (cs:=[_]) (vs:=[_]) (cs':=[_]) ty3) ?_)))
     refine Ge0 (Cx (cs:=[_]) (vs:=[_]) (cs':=[_]) ty4) ?_
     refine Ge0 (Cx (cs:=[_]) (vs:=[_]) (cs':=[_]) ty36) ?_
     refine Af (Az (V.fit (J:=dfrI Dm::blk b4 [I64 (0)] 3::blk b5 [.bool false] 4::blk b6 [I64 (0)] 36::blk qb9 [I64 (kd),I64 (wd),I64 (mo)] 31::blk qb8 [.slice ea es.length ec] 28::blk qb7 [I64 (nd)] 3::blk b3 [I64 (lv)] 3::blk b2 [.slice sa xs.length sc] 22::blk b1 [I64 (kd),I64 (wd),I64 (mo)] 31::I) Bt (V.leave ?_)))
     exact V.retv3 rfl ty3 ty4 ty36 rfl rfl rfl mm mm mm (I) Ax ⟨0,false,rfl,.inr ⟨rfl,rfl,fi_no hq⟩,rfl⟩
    ·have hQ:(FirstYes kd wd mo es (togQ nd kd wd mo es xs lv) tv):=hp
     refine .inr ⟨_,_,rfl,?_⟩
     show W Tryz.prog κ _ _ _ ([(37,.func (.func 165) #[] #[.pointer (some ⟨qb7,0,none⟩),.pointer (some ⟨qb8,0,none⟩),.pointer (some ⟨qb9,0,none⟩)]),(36,.agg #[I64 (kd),I64 (wd),I64 (mo)]),(35,.slice ea es.length ec),(34,I64 (nd)),(33,.bool (decide (((xs.length:Nat):Int)=0))),(12,.pointer (some ⟨b6,0,none⟩)),(11,.pointer (some ⟨b5,0,none⟩)),(10,.pointer (some ⟨b4,0,none⟩)),(9,.pointer (some ⟨b3,0,none⟩)),(8,.pointer (some ⟨b2,0,none⟩)),(7,.pointer (some ⟨b1,0,none⟩)),(0,I64 (nd)),(1,.slice ea es.length ec)]:Env) (dfrI Dm::blk b4 [I64 (tv)] 3::blk b5 [.bool true] 4::blk b6 [I64 (0)] 36::blk qb9 [I64 (kd),I64 (wd),I64 (mo)] 31::blk qb8 [.slice ea es.length ec] 28::blk qb7 [I64 (nd)] 3::blk b3 [I64 (lv)] 3::blk b2 [.slice sa xs.length sc] 22::blk b1 [I64 (kd),I64 (wd),I64 (mo)] 31::I)
     refine Az (Ao (Ak (V.fit (J:=dfrI Dm::blk b4 [I64 (tv)] 3::blk b5 [.bool true] 4::blk b6 [I64 (0)] 36::blk qb9 [I64 (kd),I64 (wd),I64 (mo)] 31::blk qb8 [.slice ea es.length ec] 28::blk qb7 [I64 (nd)] 3::blk b3 [I64 (lv)] 3::blk b2 [.slice sa xs.length sc] 22::blk b1 [I64 (kd),I64 (wd),I64 (mo)] 31::I) Bt (V.leave ?_))))
     exact V.retv3 rfl ty3 ty4 ty36 rfl rfl rfl mm mm mm (I) Ax ⟨tv,true,rfl,.inl ⟨rfl,hQ⟩,rfl⟩
theorem mem_coreK{nd lv:Int}{es:List Pt}{y:Int}:y∈coreK nd es lv↔(0≤y∧y<(coreN nd es).length)∧lv≤at_ (coreN nd es) y:=by
 unfold coreK;rw [mem_sideL,decide_eq_true_eq]
section
variable {n kd wd mo:Int}{es:List Ev}(hH:HistOk n kd wd mo es)(hn:2≤n)(a a2:Option Addr)(c c2:Nat)
include hH hn
end
variable {κ:Ctx}{I:List Item}
theorem one_valid{x n:Int}(h:0≤x∧x<n):ValidP [x] n:=fun j hj=>by
 have hj2:j<1:=hj
 obtain rfl:j=0:=by omega
 exact ⟨h,fun h=>absurd h dc⟩
theorem MkSome_base{b:Nat}{lv:Value}{ls:List Int}{i:Int}{nodes:Int}(hl:∀q,Sl κ (deck b lv q::I) lv ls)(h0:0≤i)(hn:1≤nodes∧nodes≤64) :
    CallS Tryz.prog κ 49 [.pointer (some ⟨b,0,none⟩),I64 (nodes)] (blk b [lv,I64 (i)] 125::I) (fun r J=>∃y:(Option Addr)×Nat×(List Int)×Int,((r = .slice y.1 y.2.2.1.length y.2.1∧ValidP y.2.2.1 nodes∧(0<y.2.2.1.length∧(y.2.2.1.length:Int)≤nodes))∧0≤y.2.2.2)∧J=[vc 3 (.slice y.1 y.2.2.1.length y.2.1) y.2.2.1]++deck b lv y.2.2.2::I):=by
 refine Ce2 Tryz.func49 rfl rfl ?_
 refine Ah (Ga rfl (Af (Ah (Gm rfl (Gm rfl (G.e (Al call28 rfl rfl (Set_at (by repeat (first|exact AtF.head _ _|apply AtF.tail)) (fun _=>Bz (hl _) Ax) om om)) ?_))))))
 rintro _ _ ⟨_,_,⟨ad2,cp3,o4,i1,rfl,ho4,hlo4,hi1,rfl⟩,rfl,rfl⟩
 show G Tryz.prog κ _ _ _ _ ([(8,.slice ad2 o4.length cp3),(7,I64 (nodes)),(6,.pointer (some ⟨b,0,none⟩)),(4,.slice none 0 0),(0,.pointer (some ⟨b,0,none⟩)),(1,I64 (nodes))]:Env) (vc 3 (.slice ad2 o4.length cp3) (o4)::blk b [lv,I64 (i1)] 125::I)
 refine Ga rfl (Af (Ap (Ah (Gm rfl (Gr (Bq Aa rfl) (Gr (Bm rfl rfl) (Gm rfl (Bk (d:=12) rfl (fun g12=>?_) (fun g12=>?_)))))))))
 ·refine Gro (Ad rfl) (Gro (B2 rfl rfl) (Gr (As rfl rfl) (Af (Ar (S4 15 5 0 1 rfl rfl rfl rfl) (A9 rfl (fun c15=>?_) (fun c15=>?_))))))
  ·refine Ah (Gm rfl (Gm rfl (G.e (Al call19 rfl rfl (Next_ok (by repeat (first|exact AtF.head _ _|apply AtF.tail)) (Bz (hl _) Ax) om om)) ?_)))
   rintro _ _ ⟨_,_,⟨x5,i6,rfl,hx5,hi6,rfl⟩,rfl,rfl⟩
   show G Tryz.prog κ _ _ _ _ ([(18,I64 (x5)),(17,I64 (nodes)),(16,.pointer (some ⟨b,0,none⟩)),(15,.bool (decide (0<nodes))),(5,.slice ad2 o4.length cp3),(0,.pointer (some ⟨b,0,none⟩)),(1,I64 (nodes))]:Env) (vc 3 (.slice ad2 o4.length cp3) (o4)::blk b [lv,I64 (i6)] 125::I)
   refine Ge1 (B8 (α:=Int) (cs:=[_]) (xs:=[x5]) Aa ty3 rfl rfl dc dc rfl rfl rfl rfl) fun ad7=>?_
   exact Ga rfl (Af (Az (Ak (A4 rfl rfl (vc 3 (.slice ad7 1 1) (([x5]:List Int))::blk b [lv,I64 (i6)] 125::I) Ay ⟨(ad7,1,([x5]:List Int),i6),⟨⟨rfl,one_valid om,by show 0<1∧((1:Nat):Int)≤nodes;omega⟩,by show 0≤i6;omega⟩,rfl⟩))))
  ·exact A1 (Ai (Ah (Gm rfl (Ga rfl (Af (Az (A4 rfl rfl (vc 3 (.slice ad2 o4.length cp3) (o4)::blk b [lv,I64 (i1)] 125::I) Ay ⟨(ad2,cp3,o4,i1),⟨⟨rfl,ho4,by show 0<o4.length∧(o4.length:Int)≤nodes;omega⟩,by show 0≤i1;omega⟩,rfl⟩)))))))
 ·exact Gpo (Gpo (Gr (Au rfl rfl) (Af (Ar (S4 15 5 0 1 rfl rfl rfl rfl) (D0 rfl (A1 (Ai (Ah (Gm rfl (Ga rfl (Af (Az (A4 rfl rfl (vc 3 (.slice ad2 o4.length cp3) (o4)::blk b [lv,I64 (i1)] 125::I) Ay ⟨(ad2,cp3,o4,i1),⟨⟨rfl,ho4,by show 0<o4.length∧(o4.length:Int)≤nodes;omega⟩,by show 0≤i1;omega⟩,rfl⟩)))))))))))))
theorem MkSome_at{F:Item→List Item}{b:Nat}{lv:Value}{ls:List Int}{i:Int}{nodes:Int}(hat:AtF I (deck b lv i) F)(hl:∀q,Sl κ (F (deck b lv q)) lv ls)(h0:0≤i)(hn:1≤nodes∧nodes≤64) :
  CallS Tryz.prog κ 49 [.pointer (some ⟨b,0,none⟩),I64 (nodes)] I fun r J=>∃y:(Option Addr)×Nat×(List Int)×Int,((r = .slice y.1 y.2.2.1.length y.2.1∧ValidP y.2.2.1 nodes∧(0<y.2.2.1.length∧(y.2.2.1.length:Int)≤nodes))∧0≤y.2.2.2)∧J=[vc 3 (.slice y.1 y.2.2.1.length y.2.1) y.2.2.1]++F (deck b lv y.2.2.2):=
 Dx (Post:=fun r (y:(Option Addr)×Nat×(List Int)×Int)=>(r = .slice y.1 y.2.2.1.length y.2.1∧ValidP y.2.2.1 nodes∧(0<y.2.2.1.length∧(y.2.2.1.length:Int)≤nodes))∧0≤y.2.2.2) (Z:=fun y:(Option Addr)×Nat×(List Int)×Int=>[vc 3 (.slice y.1 y.2.2.1.length y.2.1) y.2.2.1]) (X:=fun y:(Option Addr)×Nat×(List Int)×Int=>deck b lv y.2.2.2) hat fun J _ hF=>MkSome_base (fun q=>(hl q).fit (hF _)) h0  hn
theorem bit_maskB{l:List Int}{i:Nat}(hi:i<64):(maskB l).getLsbD i=true↔(i:Int)∈l:=by
 unfold maskB;rw [getLsb_maskB hi];simp
theorem mask_one(u:Int):maskB [u]=bitB u:=by unfold maskB;simp
theorem bit_one{u:Int}(h:0≤u∧u<64):bitB u=oneB u.toNat:=by unfold bitB oneB;rw [if_neg om]
theorem rowsB_sym{nd:Int}{es:List Pt}(hG:GrOk nd es):SymR (rowsB nd es):=by
 have key:∀i j:Nat,(at_ (rowsB nd es) (i:Int)).getLsbD j=true→(at_ (rowsB nd es) (j:Int)).getLsbD i=true:=fun i j h=>by
  have hl:=hG.rows.len
  have hr:=hG.rng
  have hj:j<64:=Classical.byContradiction fun hn=>by rw [BitVec.getLsbD_of_ge _ _ om] at h;cases h
  have hi:(i:Int)<nd:=Classical.byContradiction fun hn=>by
   rw [at_nat,List.getD_eq_getElem?_getD,List.getElem?_eq_none om] at h
   exact absurd h (by show ¬(0#64).getLsbD j=true;simp)
  have e1:=hG.rows.bit (i:Int) (j:Int) om hi om om
  rw [Int.toNat_natCast,h] at e1
  have h2:=of_decide_eq_true e1.symm
  have hjn:(j:Int)<nd:=by
   rcases h2 with h3|h3
   ·have:=hG.edge _ h3;simp only at this;omega
   ·have:=hG.edge _ h3;simp only at this;omega
  have e2:=hG.rows.bit (j:Int) (i:Int) om hjn om om
  rw [Int.toNat_natCast] at e2
  rw [e2,decide_eq_true_eq]
  exact h2.symm
 intro i j
 rw [Bool.eq_iff_iff]
 exact ⟨key i j,key j i⟩
theorem set_bitA{nd:Int}{S:List Int}(h:0≤nd∧nd≤64){i:Nat}:(maskB S &&& allB nd).getLsbD i=true↔((i:Int)∈S∧(i:Int)<nd):=by
 by_cases hi:i<64
 ·rw [BitVec.getLsbD_and,Bool.and_eq_true,bit_maskB hi,getLsb_allB h.1 h.2 hi,decide_eq_true_eq]
 ·rw [BitVec.getLsbD_of_ge _ _ om]
  exact ⟨fun h=>absurd h dc,fun h=>by omega⟩
theorem mem_rchA{nd:Int}{es:List Pt}{S:List Int}{v x:Int}(hG:GrOk nd es)(hv:0≤v∧v<nd):x∈rchG nd es [v] S↔0≤x∧Conn (rowsB nd es) (maskB S &&& allB nd) v.toNat x.toNat:=by
 have hr:=hG.rng
 unfold rchG
 rw [if_neg (by rw [checkG_ok.2 hG];decide),mem_listB,mask_one,bit_one om]
 exact and_congr_right fun _=>⟨fun h=>⟨by omega,h⟩,fun h=>h.2⟩
theorem Conn.more{rows:List (BitVec 64)}{w w':BitVec 64}(h:∀i:Nat,w.getLsbD i=true→w'.getLsbD i=true){i j:Nat}(hc:Conn rows w i j):Conn rows w' i j:=by
 have hl:=hc.left
 exact Conn.ind (X:=fun k=>Conn rows w' i k) (.refl (h _ hl)) (fun a b ha _ hr hw=>ha.step hr (h _ hw)) hc
theorem coreK_less{nd lv d:Int}{es:List Pt}(hd:0≤d){y:Int}(h:y∈coreK nd es (lv+d)):y∈coreK nd es lv:=by
 rw [mem_coreK] at h ⊢
 exact ⟨h.1,by omega⟩
theorem comm_two{nd lv d b x y:Int}{es:List Pt}(hG:GrOk nd es)(hd:0≤d)(hb:0≤b∧b<nd)(h0:0≤x∧x<nd)(hx:x∈commG nd es b (lv+d))(hy:y∈commG nd es b (lv+d)):y∈commG nd es x lv:=by
 have hr:=hG.rng
 unfold commG at *
 obtain ⟨h1,hcx⟩:=(mem_rchA hG hb).1 hx
 obtain ⟨h2,hcy⟩:=(mem_rchA hG hb).1 hy
 refine (mem_rchA hG h0).2 ⟨h2,((hcx.symm (rowsB_sym hG)).trans hcy).more fun i hi=>?_⟩
 rw [set_bitA hr] at hi ⊢
 exact ⟨coreK_less hd hi.1,hi.2⟩
section
variable {nd kd wd mo lv t:Int}{es:List Ev}{xs:List Int}
theorem first_weak{p q:Int→Prop}{t1 t2:Int}{k1 k2:Bool}(h1:FirstP kd wd mo es p t1 k1)(h2:FirstP kd wd mo es q t2 k2)(h:∀e∈allE kd wd mo es,p e.tm→q e.tm):k1=true→k2=true∧t2≤t1:=fun hk=>by
 rcases h1 with ⟨_,⟨e,he,rfl⟩,hp,_⟩|⟨hf,_⟩
 ·rcases h2 with ⟨e2,_,_,hn⟩|⟨_,_,hn⟩
  ·exact ⟨e2,Int.not_lt.1 fun hlt=>hn e he hlt (h e he hp)⟩
  ·exact absurd (h e he hp) (hn e he)
 ·rw [hf] at hk;cases hk
theorem first_rng{p:Int→Prop}{t1:Int}{k1:Bool}(hH:HistOk nd kd wd mo es)(h1:FirstP kd wd mo es p t1 k1):(0≤t1∧t1≤1048576)∧(k1=true→p t1):=by
 rcases h1 with ⟨_,⟨e,he,rfl⟩,hp,_⟩|⟨hf,h0,_⟩
 ·exact ⟨(hH.allFit e he).tm,fun _=>hp⟩
 ·exact ⟨by omega,fun h=>by rw [hf] at h;cases h⟩
theorem tog_one(hx:0<xs.length)(h:togQ nd kd wd mo es xs lv t):togQ nd kd wd mo es (List.take 1 xs) lv t:=fun x hx1=>by
 have e:at_ (List.take 1 xs) 0=at_ xs 0:=by cases xs<;>rfl
 rw [e]
 exact h x (List.mem_of_mem_take hx1)
theorem tog_less(hH:HistOk nd kd wd mo es)(hval:ValidP xs nd)(hx:0<xs.length)(h:togQ nd kd wd mo es xs lv t):togQ nd kd wd mo es xs (lv - 1) t:=fun x hx1=>by
 have h0:at_ xs 0∈xs:=Ce om om
 have hr:=ValidP_mem hval h0
 have e:lv=lv - 1+1:=by omega
 have a:=h x hx1
 have b:=h _ h0
 rw [e] at a b
 exact comm_two (hH.graph t) dc hr hr b a
theorem comm_asc(nd:Int)(es:List Pt)(v lv:Int):(commG nd es v lv).Pairwise (· < ·):=by
 unfold commG rchG
 split
 ·exact List.Pairwise.nil
 ·exact listB_asc _
theorem tog_comm(hH:HistOk nd kd wd mo es)(hval:ValidP xs nd)(hx:0<xs.length)(h:togQ nd kd wd mo es xs lv t):∀x∈xs,commG nd (atG kd wd mo es t) x lv=commG nd (atG kd wd mo es t) (at_ xs 0) lv:=fun x hx1=>by
 have h0:at_ xs 0∈xs:=Ce om om
 have hr:=ValidP_mem hval h0
 have hrx:=ValidP_mem hval hx1
 have b:=h x hx1
 have a:=h _ h0
 have e:lv=lv+0:=by omega
 refine intLin.uniq (comm_asc _ _ _ _) (comm_asc _ _ _ _) fun y=>⟨fun hy=>?_,fun hy=>?_⟩
 ·have a2:at_ xs 0∈commG nd (atG kd wd mo es t) x lv:=comm_two (d:=0) (hH.graph t) dc hr hrx (by rw [←e];exact b) (by rw [←e];exact a)
  exact comm_two (d:=0) (hH.graph t) dc hrx hr (by rw [←e];exact a2) (by rw [←e];exact hy)
 ·exact comm_two (d:=0) (hH.graph t) dc hr hrx (by rw [←e];exact b) (by rw [←e];exact hy)
end
theorem valid_take{xs:List Int}{n:Int}(h:ValidP xs n)(k:Nat):ValidP (List.take k xs) n:=by
 obtain ⟨h1,h2⟩:=ValidP_iff.1 h
 exact ValidP_iff.2 ⟨fun y hy=>h1 y (List.mem_of_mem_take hy),h2.sublist (List.take_sublist _ _)⟩
set_option maxHeartbeats 8000000 in
theorem AnswerTogether_walk{κ:Ctx}{I:List Item}{la:Option Addr}{ln lc:Nat}{ls:List Int}(hl:Sl κ I (.slice la ln lc) ls)(m0:Int)(hm0:0≤m0∧m0<256)(hT:TabRd κ I 0 tzCells) :
    CallS Tryz.prog κ 14 [.slice la ln lc,.int .u8 (m0)] I (fun r J=>r = .bool true∧I=J):=by
 have ht4:0≤Int.tmod m0 4∧Int.tmod m0 4<4:=by rw [Int.tmod_eq_emod_of_nonneg hm0.1];omega
 refine Ce2 Tryz.func14 rfl rfl ?_
 refine Ah (Ga rfl (Af (Ap (Ah (Gm rfl (Gc0 (Al call16 rfl rfl Few_ok) ?_))))))
 refine Gr (Dp rfl) (Af (A9 rfl (fun c30=>?_) (fun c30=>?_)))
 ·refine Ah (Gc0 (Al call41 rfl rfl (Awake43_ok (B0 hT Ax))) ?_)
  exact Ga rfl (Af (Az (Ak (A4 rfl rfl (I) Ax ⟨rfl,rfl⟩))))
 ·refine A1 (Ai (Ah (Gm rfl (G.e (Al call18 rfl rfl New_ok) ?_))))
  rintro _ _ ⟨_,_,⟨dk1,rfl,rfl⟩,rfl,rfl⟩
  show G Tryz.prog κ _ _ _ _ ([(33,.pointer (some ⟨dk1,0,none⟩)),(32,.slice la ln lc),(30,.bool (decide (¬((ln:Int)≤500)))),(29,.bool (decide ((ln:Int)≤500))),(28,.slice la ln lc),(4,.bool false),(0,.slice la ln lc),(1,.int .u8 (m0))]:Env) (blk dk1 [.slice la ln lc,I64 (0)] 125::I)
  have hi0:(0:Int)≤0:=Int.le_refl _
  refine Ga rfl (Af (Ah (Gm rfl (G.e (Al call42 rfl rfl (Some43_at (by repeat (first|exact AtF.head _ _|apply AtF.tail)) (fun _=>Bz hl Ax) om  )) ?_))))
  rintro _ _ ⟨_,_,⟨⟨nn2,ad3,cp4,es5,kd6,wd7,mo8,i9⟩,⟨⟨rfl,hHes5,hles5,hnes5⟩,hi9⟩,rfl⟩,rfl,rfl⟩
  show G Tryz.prog κ _ _ _ _ ([(36,.tuple #[I64 (nn2),.slice ad3 es5.length cp4,.agg #[I64 (kd6),I64 (wd7),I64 (mo8)]]),(35,.pointer (some ⟨dk1,0,none⟩)),(5,.pointer (some ⟨dk1,0,none⟩)),(33,.pointer (some ⟨dk1,0,none⟩)),(32,.slice la ln lc),(30,.bool (decide (¬((ln:Int)≤500)))),(29,.bool (decide ((ln:Int)≤500))),(28,.slice la ln lc),(4,.bool false),(0,.slice la ln lc),(1,.int .u8 (m0))]:Env) (vc 108 (.slice ad3 es5.length cp4) (es5)::blk dk1 [.slice la ln lc,I64 (i9)] 125::I)
  have hi9:0≤i9:=hi9
  dsimp only at hHes5
  dsimp only at hles5
  dsimp only at hnes5
  refine Gm rfl (Gr (Aw rfl rfl) (Gr (Aw rfl rfl) (Gr (Aw rfl rfl) (Ge1 (A8 ty31 rfl) fun b10=>Ga rfl (Ga rfl (Ge0 (Es3_3 ty31) ?_))))))
  have hH:HistOk nn2 kd6 wd7 mo8 es5:=hHes5
  have hel:es5.length≤19:=by have h9:es5.length≤12:=hles5;omega
  have hn2:2≤nn2∧nn2≤6:=hnes5
  refine Af (Ar (S5 7 6 8 5 1 rfl rfl rfl rfl rfl) (Ah (Gm rfl (Gm rfl (G.e (Al call49 rfl rfl (MkSome_at (by repeat (first|exact AtF.head _ _|apply AtF.tail)) (fun _=>Bz hl Ax) om  om)) ?_)))))
  rintro _ _ ⟨_,_,⟨⟨ad11,cp12,sx13,i14⟩,⟨⟨rfl,hvsx13,hlsx13⟩,hi14⟩,rfl⟩,rfl,rfl⟩
  show G Tryz.prog κ _ _ _ _ ([(42,.slice ad11 sx13.length cp12),(41,I64 (nn2)),(40,.pointer (some ⟨dk1,0,none⟩)),(7,.slice ad3 es5.length cp4),(6,I64 (nn2)),(8,.pointer (some ⟨b10,0,none⟩)),(5,.pointer (some ⟨dk1,0,none⟩)),(1,.int .u8 (m0))]:Env) (vc 3 (.slice ad11 sx13.length cp12) (sx13)::blk b10 [I64 (kd6),I64 (wd7),I64 (mo8)] 31::vc 108 (.slice ad3 es5.length cp4) (es5)::blk dk1 [.slice la ln lc,I64 (i14)] 125::I)
  have hi14:0≤i14:=hi14
  dsimp only at hvsx13
  dsimp only at hlsx13
  refine Ga rfl ?_
  have hsv:ValidP sx13 nn2:=hvsx13
  have hsl:0<sx13.length∧(sx13.length:Int)≤nn2:=hlsx13
  have hsv1:ValidP (List.take 1 sx13) nn2:=valid_take hsv 1
  refine Af (Ah (Gm rfl (Gr (Runs.rem rfl rfl om) (Gr (Runs.convI Dk Be rfl (by unfold InR;omega)) (Ga rfl (Af (Ah (Gm rfl (Gm rfl (Gl3 ty31 ?_))))))))))
  refine Gm rfl (Gm rfl (G.e (Al call50 rfl rfl (ATog_ok (nd:=nn2) (kd:=kd6) (wd:=wd7) (mo:=mo8) (lv:=Int.tmod m0 4) Bf Bf hH hel (by first|omega|(simp only [List.length_take];omega)) (by first|exact hsv|exact hsv1) (B0 hT Ax))) ?_))
  rintro _ _ ⟨_,_,⟨tv15,ok16,rfl,hFPtv15,rfl⟩,rfl,rfl⟩
  refine Gm rfl (Gr (Aw rfl rfl) (Gr (Aw rfl rfl) (Gr (Aw rfl rfl) (Ga rfl (Ga rfl (Ga rfl (Af (Ar (S8 13 12 11 10 9 7 6 8 rfl rfl rfl rfl rfl rfl rfl rfl) (Ap (Bd mixed (Bl (vc 3 (.slice ad11 sx13.length cp12) (sx13)::blk b10 [I64 (kd6),I64 (wd7),I64 (mo8)] 31::vc 108 (.slice ad3 es5.length cp4) (es5)::blk dk1 [.slice la ln lc,I64 (i14)] 125::I) 14 (Dr 0 rfl (Ad rfl) (Dr 1 rfl (Ad rfl) (Dr 2 rfl (Bo (vs:=[_,_,_]) ty31) ?_))))))))))))))
  refine Dr 3 rfl (Ad rfl) (Dr 4 rfl (Runs.hi (α:=Int) (xs:=sx13) (h:=1) Aa ty3 rfl rfl om Bf om) (Dr 5 rfl (Ad rfl) (Ds1 6 (Se rfl (Al call50 rfl rfl (ATog_ok (nd:=nn2) (kd:=kd6) (wd:=wd7) (mo:=mo8) (lv:=Int.tmod m0 4) Bf (Sl.take Bf om) hH hel (by first|omega|(simp only [List.length_take];omega)) (by first|exact hsv|exact hsv1) (B0 hT Ax))) ?_))))
  rintro _ _ ⟨_,_,⟨tv17,ok18,rfl,hFPtv17,rfl⟩,rfl,rfl⟩
  refine ⟨Ax,?_⟩
  refine Dr 7 rfl (Ad rfl) (Dr 8 rfl (Aw rfl rfl) (Dr 9 rfl (Aw rfl rfl) (Dr 10 rfl (Aw rfl rfl) (Dr 11 rfl (A6 rfl) (Dr 12 rfl (A6 rfl) (Dr 13 rfl (A6 rfl) (Dz (Ai (Ar (S11 16 15 14 13 12 11 10 9 7 6 8 rfl rfl rfl rfl rfl rfl rfl rfl rfl rfl rfl) (Ah (Gm rfl (Gm rfl (Gl3 ty31 ?_)))))))))))))
  refine Gm rfl (Gm rfl (Gr (Rsu rfl rfl) (G.e (Al call50 rfl rfl (ATog_ok (nd:=nn2) (kd:=kd6) (wd:=wd7) (mo:=mo8) (lv:=(Int.tmod m0 4) - 1) Bf Bf hH hel (by first|omega|(simp only [List.length_take];omega)) (by first|exact hsv|exact hsv1) (B0 hT Ax))) ?_)))
  rintro _ _ ⟨_,_,⟨tv19,ok20,rfl,hFPtv19,rfl⟩,rfl,rfl⟩
  refine Gm rfl (Gr (Aw rfl rfl) (Gr (Aw rfl rfl) (Gr (Aw rfl rfl) (Ga rfl (Ga rfl ?_)))))
  have hw1:=first_weak hFPtv15 hFPtv17 (fun _ _ h=>tog_one hsl.1 h)
  have hw2:=first_weak hFPtv15 hFPtv19 (fun _ _ h=>tog_less hH hsv hsl.1 h)
  have hfr:=first_rng hH hFPtv15
  refine Ga rfl (Af (Ar (S14 19 18 17 16 15 14 13 12 11 10 9 7 6 8 rfl rfl rfl rfl rfl rfl rfl rfl rfl rfl rfl rfl rfl rfl) (Ap (Ah (Gm rfl (Gr (Br rfl rfl) (Gm rfl (Bk (d:=80) rfl (fun g80=>?_) (fun g80=>?_)))))))))
  ·exact absurd rfl g80
  ·refine Gro (Ad rfl) (Gro (Br rfl rfl) (Gr (Au rfl rfl) (Gm rfl (Bk (d:=84) rfl (fun g84=>?_) (fun g84=>?_)))))
   ·exact absurd rfl g84
   ·refine Gro (Ad rfl) (Gro (Br rfl rfl) (Gr (Au rfl rfl) (Af (Ar (S12 87 18 17 15 14 12 11 10 9 7 6 8 rfl rfl rfl rfl rfl rfl rfl rfl rfl rfl rfl rfl) (A9 rfl (fun c87=>?_) (fun c87=>?_))))))
    ·exact absurd rfl c87
    ·refine A1 (Ai (Ap (Ah (Gm rfl (Gr (Cn rfl) (Af (Ar (S11 89 18 17 15 14 11 10 9 7 6 8 rfl rfl rfl rfl rfl rfl rfl rfl rfl rfl rfl) (W.cond rfl (fun c89=>?_) (fun c89=>?_)))))))))
     ·refine Ah (Gc0 (Al call41 rfl rfl (Awake43_ok (B0 hT Ax))) ?_)
      exact Ga rfl (Af (Az (Ak (A4 rfl rfl (I) Ax ⟨rfl,rfl⟩))))
     ·refine A1 (Ai (Ap (Ah (Gm rfl (Gr (Cn rfl) (Gm rfl (G.splitb (d:=93) rfl (fun g93=>?_) (fun g93=>?_))))))))
      ·exfalso;have h:=hw1 (by simpa using c89);simp_all
      ·refine Gro (Ad rfl) (Gro (Cn rfl) (Gr (Au rfl rfl) (Gm rfl (G.splitb (d:=97) rfl (fun g97=>?_) (fun g97=>?_)))))
       ·exfalso;have h:=hw2 (by simpa using c89);simp_all
       ·refine Gro (Ad rfl) (Gro (Ad rfl) (Gro (B2 rfl rfl) (Gr (Au rfl rfl) (Gm rfl (Bk (d:=102) rfl (fun g102=>?_) (fun g102=>?_))))))
        ·exfalso;have h:=hw1 (by simpa using c89);omega
        ·refine Gro (Ad rfl) (Gro (Ad rfl) (Gro (B2 rfl rfl) (Gr (Au rfl rfl) (Af (Ar (S7 106 11 10 9 7 6 8 rfl rfl rfl rfl rfl rfl rfl) (A9 rfl (fun c106=>?_) (fun c106=>?_)))))))
         ·exfalso;have h:=hw2 (by simpa using c89);omega
         ·refine A1 (Ai (Ah (Gm rfl (Gm rfl (Gl3 ty31 ?_)))))
          refine Gm rfl (G.e (Al call44 rfl rfl (At_ok (nd:=nn2) (kd:=kd6) (wd:=wd7) (mo:=mo8) (tq:=tv15) Bf hH hel hfr.1)) ?_)
          rintro _ _ ⟨_,_,⟨ad21,cp22,rfl,rfl⟩,rfl,rfl⟩
          refine Gm rfl (Gr (Aw rfl rfl) (Gr (Aw rfl rfl) (Ge1 (A8 ty48 rfl) fun b23=>Ge0 (Co ty48) ?_)))
          refine Ga rfl ?_
          have hto:=hfr.2 (by simpa using c89)
          have htc:=tog_comm hH hsv hsl.1 hto
          refine Af (Ar (S4 21 20 10 9 rfl rfl rfl rfl) (Ap (Bd mixed (Bl (blk b23 [I64 (nn2),.slice ad21 (atG kd6 wd7 mo8 es5 tv15).length cp22] 48::vc 135 (.slice ad21 (atG kd6 wd7 mo8 es5 tv15).length cp22) (atG kd6 wd7 mo8 es5 tv15)::vc 3 (.slice ad11 sx13.length cp12) (sx13)::blk b10 [I64 (kd6),I64 (wd7),I64 (mo8)] 31::vc 108 (.slice ad3 es5.length cp4) (es5)::blk dk1 [.slice la ln lc,I64 (i14)] 125::I) 11 (Dr 0 rfl (Bo (vs:=[_,_]) ty48) ?_)))))
          refine Dr 1 rfl (Ad rfl) (Dr 2 rfl (A0 (α:=Int) (xs:=sx13) Aa ty3 rfl rfl Bf om om) (Dr 3 rfl (Bp (xs:=sx13) ty3 rfl Bf om om) (Dr 4 rfl (Ad rfl) (Ds1 5 (Se rfl (Al call59 rfl rfl (Comm_ok (nd:=nn2) (v:=at_ sx13 0) (lv:=Int.tmod m0 4) Bf (hH.graph _) (by first|exact (ValidP_mem hsv (Ce om om))) (B0 hT Ax))) ?_)))))
          rintro _ _ ⟨_,_,⟨ad24,cp25,rfl,rfl⟩,rfl,rfl⟩
          refine ⟨Ax,?_⟩
          refine Dr 6 rfl (Ad rfl) (Dr 7 rfl (Aw rfl rfl) (Dr 8 rfl (Aw rfl rfl) (Dr 9 rfl (A6 rfl) (Dr 10 rfl (A6 rfl) (Dz (Ai (Ar (S6 23 22 21 20 10 9 rfl rfl rfl rfl rfl rfl) (Ap (Ah (Gm rfl (Gr (Bq Aa rfl) (Gm rfl (Af (A3 (Bv (σ:=Nat) (fun s=>([(10,I64 (Int.tmod m0 4)),(20,.pointer (some ⟨b23,0,none⟩)),(21,I64 (0)),(22,.slice ad24 (commG nn2 (atG kd6 wd7 mo8 es5 tv15) (at_ sx13 0) (Int.tmod m0 4)).length cp25),(23,I64 (0)),(124,.slice ad11 sx13.length cp12),(125,I64 (((sx13.length:Nat):Int))),(126,I64 (((s:Nat):Int)))]:Env)) (fun s=>vc 3 (.slice ad24 (commG nn2 (atG kd6 wd7 mo8 es5 tv15) (at_ sx13 0) (Int.tmod m0 4)).length cp25) (commG nn2 (atG kd6 wd7 mo8 es5 tv15) (at_ sx13 0) (Int.tmod m0 4))::blk b23 [I64 (nn2),.slice ad21 (atG kd6 wd7 mo8 es5 tv15).length cp22] 48::vc 135 (.slice ad21 (atG kd6 wd7 mo8 es5 tv15).length cp22) (atG kd6 wd7 mo8 es5 tv15)::vc 3 (.slice ad11 sx13.length cp12) (sx13)::blk b10 [I64 (kd6),I64 (wd7),I64 (mo8)] 31::vc 108 (.slice ad3 es5.length cp4) (es5)::blk dk1 [.slice la ln lc,I64 (i14)] 125::I) (fun s=>(s≤sx13.length)) (fun s=>sx13.length - s) (0) (show ((0:Nat)≤sx13.length) from om) (Ab rfl (Ab rfl (Ab rfl (Ab rfl (Ab rfl (Ab rfl (Ab rfl (Ab Cc Bj)))))))) (show Fit κ _ (vc 3 (.slice ad24 (commG nn2 (atG kd6 wd7 mo8 es5 tv15) (at_ sx13 0) (Int.tmod m0 4)).length cp25) (commG nn2 (atG kd6 wd7 mo8 es5 tv15) (at_ sx13 0) (Int.tmod m0 4))::blk b23 [I64 (nn2),.slice ad21 (atG kd6 wd7 mo8 es5 tv15).length cp22] 48::vc 135 (.slice ad21 (atG kd6 wd7 mo8 es5 tv15).length cp22) (atG kd6 wd7 mo8 es5 tv15)::vc 3 (.slice ad11 sx13.length cp12) (sx13)::blk b10 [I64 (kd6),I64 (wd7),I64 (mo8)] 31::vc 108 (.slice ad3 es5.length cp4) (es5)::blk dk1 [.slice la ln lc,I64 (i14)] 125::I) from Ay) ?_)))))))))))))))
          rintro k hp
          have hk:=hp
          refine Ah (Gr (Bb rfl rfl) (Af (Ap (A9 rfl (fun c127=>?_) (fun c127=>?_)))))
          ·refine A1 (Ai (Ap (A3 (Ah (Gr (A0 (α:=Int) (xs:=sx13) Aa ty3 rfl rfl Bf om om) (Gr (Bp (xs:=sx13) ty3 rfl Bf om om) (Ga rfl (Af (Ah (Gl2 ty48 ?_))))))))))
           refine Gm rfl (Gm rfl (G.e (Al call59 rfl rfl (Comm_ok (nd:=nn2) (v:=at_ sx13 (k:Int)) (lv:=Int.tmod m0 4) Bf (hH.graph _) (by first|exact (ValidP_mem hsv (Ce om om))) (B0 hT Ax))) ?_))
           rintro _ _ ⟨_,_,⟨ad26,cp27,rfl,rfl⟩,rfl,rfl⟩
           refine Gm rfl (Gr (Aw rfl rfl) (Gr (Aw rfl rfl) (Ga rfl (Ga rfl (Af (Ar (S11 27 26 25 10 20 21 22 23 124 125 126 rfl rfl rfl rfl rfl rfl rfl rfl rfl rfl rfl) (Ah (Gm rfl (Gr (Br rfl rfl) (Gm rfl (Bk (d:=139) rfl (fun g139=>?_) (fun g139=>?_))))))))))))
           ·exact absurd rfl g139
           ·refine Gro (Ad rfl) (Gro (Ad rfl) (G.eff (Cq rfl rfl rfl) (Al call61 rfl rfl (Cmp_ok Bf Bf)) ?_))
            rintro _ _ ⟨_,_,⟨rfl,rfl⟩,rfl,rfl⟩
            refine Gro (Br rfl rfl) (Gr (Au rfl rfl) (Gm rfl (Bk (d:=145) rfl (fun g145=>?_) (fun g145=>?_))))
            ·exact absurd ((cmpL_eq _ _).2 (htc _ (Ce om om))) g145
            ·refine Gro (Ad rfl) (Gro (Ad rfl) (G.eff (Cq rfl rfl rfl) (Al call72 rfl rfl (RHas_ok Bf (at_ sx13 (k:Int)))) ?_))
             rintro _ _ ⟨_,_,⟨rfl,rfl⟩,rfl,rfl⟩
             refine Gro (Dp rfl) (Gr (Au rfl rfl) (Af (Ar (S9 150 10 20 21 22 23 124 125 126 rfl rfl rfl rfl rfl rfl rfl rfl rfl) (A9 rfl (fun c150=>?_) (fun c150=>?_)))))
             ·exact absurd (hto _ (Ce om om)) c150
             ·exact A1 (Aj (Ai (A2 (Gr (Rad rfl rfl) (Gm rfl (Bh (B7 ((k+1)) om)))))))
          ·refine Bs (Am (Am (A7 (Ai (Ah (Gm rfl (Gr (Bm rfl rfl) (Gm rfl (Bk (d:=154) rfl (fun g154=>?_) (fun g154=>?_))))))))))
           ·refine Gro (Ad rfl) (Gro (Bm rfl rfl) (Gr (As rfl rfl) (Gm rfl (Bk (d:=158) rfl (fun g158=>?_) (fun g158=>?_)))))
            ·refine G.eff (Cq rfl rfl rfl) (Al call41 rfl rfl (Awake43_ok (B0 hT Ax))) ?_
             rintro _ _ ⟨_,_,⟨rfl,rfl⟩,rfl,rfl⟩
             exact Gr (As rfl rfl) (Ga rfl (Af (Ar (S1 4 rfl) (Az (A4 rfl rfl (I) Ax ⟨rfl,rfl⟩)))))
            ·exact absurd rfl g158
           ·exact absurd rfl g154
end Go.Sl
namespace Go.Sl
open Go.ChangeShapes Go.WideShapes Go.ChangeAt Go.RowKit Go.Deep
section
variable {κ:Ctx}{w w':World}{I:List Item}
theorem old_cell(hs:Sep κ w' I)(hm:old w.heap.size w∈I){b o:Nat}{u:Value}(hc:w.cell? ⟨b,o,none⟩=some u):w'.cell? ⟨b,o,none⟩=some u:=by
 have hok:∀k,k<w.heap.size→w'.heap[k]? = w.heap[k]? :=(hs.ok _ hm).1
 have hb:b<w.heap.size:=by
  refine Nat.not_le.1 fun h=>?_
  simp [World.cell?,Array.getElem?_eq_none h] at hc
 have:=hok b hb
 simp only [World.cell?,this] at hc ⊢
 exact hc
def SlW{α:Type}[Enc α](w:World)(v:Value)(xs:List α):Prop:=slOk w (Enc.sz α) v xs.length (cells xs)
theorem SlW.sl{α:Type}[Enc α]{v:Value}{xs:List α}(h:SlW w v xs)(hm:old w.heap.size w∈I):Sl κ I v xs:=fun w' hs=>by
 obtain ⟨a,cap,hv,h1,h2,h3,h4⟩:=h
 refine ⟨a,cap,hv,h1,h2,h3,fun hc=>?_⟩
 obtain ⟨b,off,ha,hr⟩:=h4 hc
 exact ⟨b,off,ha,fun j u hj=>old_cell hs hm (hr j u hj)⟩
end
section
variable {P:Program}{w:World}{r:Reach}{b0:Nat}{t:TypeId}{H:Type}{enc:TypeId×Value→H}{base:Nat}{spare:Nat→Bool}{held:Bool}
theorem spot_none{e:TypeId}{a:Addr}{len cap:Nat}(ht:P.underlying t=some (.slice e))(h:Cell.okWide P w r b0 t (.slice (some a) len cap)):a.spot=none:=by
 simp only [Cell.okWide,Cell.ok,ht] at h
 exact h.2.2.2.1
theorem InR_of{n:Int}(h:(Lit.int .i64 n).wf=true):InR n:=by
 simp only [Lit.wf,Bool.and_eq_true,decide_eq_true_eq] at h
 exact h
def Light(P:Program)(t:TypeId)(d:DataW H):Prop:=∀n∈d.weights P t,n≤reachBytes
theorem light_arg{ts:List TypeId}{ds:List (DataW H)}(h:(DataW.weightsEach P ts ds).all (· ≤ reachBytes)=true){j:Nat}{d:DataW H}(ht:ts[j]? = some t)(hd:ds[j]? = some d):Light P t d:=fun n hn=>by
 have:=List.all_eq_true.1 h _ (DataW.weights_mem_each ht hd n hn)
 simpa using this
theorem light_slice{e:TypeId}{es sp:List (DataW H)}(ht:P.underlying t=some (.slice e))(h:Light P t (.slice es sp)):es.length*P.bytesOf e≤140737488351232:=by
 have h1:=h ((es.length+sp.length)*P.bytesOf e) (by simp [DataW.weights,ht])
 have h2:es.length*P.bytesOf e≤(es.length+sp.length)*P.bytesOf e:=Nat.mul_le_mul_right _ (by omega)
 simp only [reachBytes] at h1
 omega
theorem addr_eta{a:Addr}(h:a.spot=none):a=⟨a.block,a.off,none⟩:=by cases a;simp_all
theorem in_ints{e:TypeId}{v:Value}{fuel:Nat}{x:DataW H×List MemPlace}(ht:P.underlying t=some (.slice e))(he:P.underlying e=some (.int .i64))(hc:P.cellsOf e=1)
  (hv:Cell.okWide P w r b0 t v) (h:DataW.trod enc P w base spare held fuel t [v]=some x) (hw:Light P t x.1):∃(a:Option Addr) (c:Nat) (xs:List Int),v = .slice a xs.length c∧SlW w (.slice a xs.length c) xs∧(∀n∈xs,InR n)∧xs.length*P.bytesOf e≤140737488351232:=by
 rcases open_ints ht he hc h with ⟨hcs,_⟩|⟨a,l,c,zs,hcs,_,hl,hm,hz,hx,hcell,hwz⟩
 ·obtain rfl:v = .slice none 0 0:=by simpa using hcs
  exact ⟨none,0,[],rfl,⟨none,0,rfl,by simp [cells],Nat.le_refl _,by simp,fun h=>by omega⟩,by simp,by simp⟩
 ·obtain rfl:v = .slice (some a) l c:=by simpa using hcs
  have hsp:=spot_none ht hv
  have hlen:l≤zs.length:=by rw [hz];split<;>omega
  have hxl:(zs.take l).length=l:=by rw [List.length_take];omega
  refine ⟨some a,c,zs.take l,by rw [hxl],⟨some a,c,rfl,cells_length _,by rw [hxl];exact hl,hm,fun hc0=>⟨a.block,a.off,by rw [←addr_eta hsp],fun j u hj=>?_⟩⟩,fun n hn=>InR_of (hwz n (List.mem_of_mem_take hn)),by
   rw [hx] at hw
   have:=light_slice ht hw
   simpa [lits] using this⟩
  have hjl:j<l:=by
   have:=(List.getElem?_eq_some_iff.1 hj).1
   rw [cells_length,hxl] at this
   have e1:Enc.sz Int=1:=rfl
   rw [e1] at this;omega
  have h1:=cells_get (zs.take l) j 0 (by omega) (by decide)
  have e1:j*Enc.sz Int+0=j:=by show j*1+0=j;omega
  rw [e1] at h1
  rw [h1] at hj
  have h2:=hcell j (by omega)
  rw [addr_eta hsp,addr_add] at h2
  have h3:u=I64 (zs.getD j 0):=by
   have h4:some (I64 ((zs.take l)[j]'(by omega)))=some u:=hj
   simp only [Option.some.injEq] at h4
   rw [←h4]
   simp [List.getD_eq_getElem?_getD,List.getElem?_eq_getElem (show j<zs.length by omega)]
  rw [h3];exact h2
theorem arg_cell{v:Value}{d:DataW H}{ps:List MemPlace}{e:TypeId}(ht:P.underlying t=some (.slice e))(hv:Value.okWide P w r b0 t v)(h:DataW.Trod enc P w base spare held t v d ps):Cell.okWide P w r b0 t v∧∃fuel,DataW.trod enc P w base spare held fuel t [v]=some (d,ps):=by
 obtain ⟨a,len,cap,rfl⟩:=okWide_slice ht hv
 simp only [Value.okWide,ht] at hv
 obtain ⟨fuel,hf⟩:=h
 exact ⟨hv,fuel,by simpa [Value.cells] using hf⟩
theorem joined_mk{P:Program}{f:FuncId}{fn:Func}{s:ChangeSpec}{c:OpenClaim}(h1:(c.wf (OpenSpec.ofChange s))=true)(h2:(laidOutB P)=true)(h3:(mapsRowed P)=true)(h4:(fn.params.all (P.readableRec ·))=true)(h5:(namedTie P c.named s.vars)=true)(h6:((c.stops==[]))=true)(h7:((P.stops==[]))=true)(h8:((c.knobs==[]))=true)(h9:((P.stopKnobs==[]))=true)(h10:((c.inPlace==P.inPlace f))=true)(h11:((c.unfollowed==P.unfollowed f))=true)(h12:((c.recurses==P.recurses f))=true)(h13:((c.named==P.varsNamed f))=true)(h14:((c.maps==(fn.params.toList++s.plain.varTypes P).any (P.mapsRec ·)))=true)(h15:((c.ifaces==(fn.params.toList++s.plain.varTypes P).any (P.ifacesRec ·)))=true)(h16:((c.mapsOut==P.mapsAmong fn.resultTypes.toList))=true)(h17:((c.loops==(fn.params.toList++s.plain.varTypes P).any (P.loopsFrom ·)))=true)(h18:((c.wideKeys==(fn.params.toList++s.plain.varTypes P++fn.resultTypes.toList).any (P.wideKeysFrom ·)))=true)(h19:(s.vars.all (P.varReadable ·))=true)(h20:(fn.resultTypes.all (fun t=>P.readableRec t&&decide (t<P.types.size)))=true)(h21:((c.ifacesOut==fn.resultTypes.toList.any (P.ifacesRec ·)))=true)(h22:((c.loopsOut==fn.resultTypes.toList.any (P.loopsFrom ·)))=true)(h23:((c.plainKeys==P.plainKeys))=true)(h24:(c.shortTexts.isNone)=true)(h25:(P.stopsHeard)=true)(h26:(P.mayEnter)=true)(h27:((c.lifted==P.liftsFinal))=true)(h28:((P.make==some c.make))=true)(h29:((c.kinds==(if c.domain.isEmpty then [] else fn.params.toList.map fun t=>match P.underlying t with |some (.int k)=>some k|_=>none)))=true)(h30:((c.pinned==c.pinnedBy))=true)(h31:((c.veiled==(fn.params.toList++s.plain.varTypes P++fn.resultTypes.toList).any (P.veiledRec ·)))=true)(h32:(c.veiledFits P fn.params.toList (fn.params.toList++s.plain.varTypes P++fn.resultTypes.toList))=true):joinedFacts P f fn s c=true:=by
 unfold joinedFacts
 exact (Bool.and_eq_true_iff.2 ⟨(Bool.and_eq_true_iff.2 ⟨(Bool.and_eq_true_iff.2 ⟨(Bool.and_eq_true_iff.2 ⟨(Bool.and_eq_true_iff.2 ⟨(Bool.and_eq_true_iff.2 ⟨(Bool.and_eq_true_iff.2 ⟨(Bool.and_eq_true_iff.2 ⟨(Bool.and_eq_true_iff.2 ⟨(Bool.and_eq_true_iff.2 ⟨(Bool.and_eq_true_iff.2 ⟨(Bool.and_eq_true_iff.2 ⟨(Bool.and_eq_true_iff.2 ⟨(Bool.and_eq_true_iff.2 ⟨(Bool.and_eq_true_iff.2 ⟨(Bool.and_eq_true_iff.2 ⟨(Bool.and_eq_true_iff.2 ⟨(Bool.and_eq_true_iff.2 ⟨(Bool.and_eq_true_iff.2 ⟨(Bool.and_eq_true_iff.2 ⟨(Bool.and_eq_true_iff.2 ⟨(Bool.and_eq_true_iff.2 ⟨(Bool.and_eq_true_iff.2 ⟨(Bool.and_eq_true_iff.2 ⟨(Bool.and_eq_true_iff.2 ⟨(Bool.and_eq_true_iff.2 ⟨(Bool.and_eq_true_iff.2 ⟨(Bool.and_eq_true_iff.2 ⟨(Bool.and_eq_true_iff.2 ⟨(Bool.and_eq_true_iff.2 ⟨(Bool.and_eq_true_iff.2 ⟨h1,h2⟩),h3⟩),h4⟩),h5⟩),h6⟩),h7⟩),h8⟩),h9⟩),h10⟩),h11⟩),h12⟩),h13⟩),h14⟩),h15⟩),h16⟩),h17⟩),h18⟩),h19⟩),h20⟩),h21⟩),h22⟩),h23⟩),h24⟩),h25⟩),h26⟩),h27⟩),h28⟩),h29⟩),h30⟩),h31⟩),h32⟩)
theorem calls_below{f:FuncId}{args:List Value}(h:CallS P ⟨w.os,w.tape,w.output,w.drawn⟩ f args [old w.heap.size w] fun r J=>r = .bool true∧[old w.heap.size w]=J) :
  Calls P f args.toArray w fun e w'=>e = .returned (.bool true)∧Below w.heap.size w w':=
 (h w (Sep.begin w)).mono fun e w' ⟨v,J,he,⟨hv,hJ⟩,hs⟩=>by
  subst hv hJ
  exact ⟨he,hs.below List.mem_cons_self⟩
end
end Go.Sl
