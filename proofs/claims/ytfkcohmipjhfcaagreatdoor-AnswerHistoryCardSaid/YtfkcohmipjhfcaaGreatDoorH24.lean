/- A part of the proofs of statements of this seat: contracts of functions, and the plain laws that they lean on. No conditions. -/
import Derived.Test.YtfkcohmipjhfcaaGreatDoorH23
import Derived.ProofKit
import Derived.OpenShut
import Derived.ChangeOld
import Derived.Below
import Derived.SizedLaws
import Derived.JoinedOf
import Derived.Deep.Slices
import Derived.Deep.Fields
set_option linter.unusedVariables false
set_option linter.unusedSimpArgs false
set_option linter.unusedSectionVars false
namespace Go.Sl
open Go.Proofs
set_option maxRecDepth 4000
section
variable {nd kd wd mo lv t v:Int}{es:List Ev}
theorem tog_num(hH:HistOk nd kd wd mo es)(hv:0≤v∧v<nd):togQ nd kd wd mo es [v] lv t↔lv≤numT nd kd wd mo es v t:=by
 have hG:=hH.graph t
 have hr:=hG.rng
 have e:togQ nd kd wd mo es [v] lv t↔v∈commG nd (atG kd wd mo es t) v lv:=⟨fun h=>h v List.mem_cons_self,fun h x hx=>by rw [List.mem_singleton.1 hx];exact h⟩
 rw [e]
 unfold commG numT
 rw [mem_rchA hG hv]
 have hl:=coreN_lenG hG
 constructor
 ·rintro ⟨_,hc⟩
  have:=(set_bitA hr).1 hc.left
  rw [Int.toNat_of_nonneg hv.1] at this
  exact (mem_coreK.1 this.1).2
 ·intro h
  refine ⟨hv.1,.refl ((set_bitA hr).2 ?_)⟩
  rw [Int.toNat_of_nonneg hv.1]
  exact ⟨mem_coreK.2 ⟨⟨hv.1,by omega⟩,h⟩,hv.2⟩
abbrev timesU(kd wd mo:Int)(es:List Ev):List Int:=ofL ([0]++timesR kd wd mo es)
theorem timesU_rng(hH:HistOk nd kd wd mo es):∀t∈timesU kd wd mo es,0≤t∧t≤1048576:=fun t ht=>by
 rcases List.mem_append.1 ((mem_ofL _ _).1 ht) with h|h
 ·rw [List.mem_singleton.1 h];omega
 ·exact timesR_rng hH t h
theorem timesU_len(hH:HistOk nd kd wd mo es)(hlen:es.length≤19):(timesU kd wd mo es).length≤58:=by
 have h1:=timesR_len hH hlen
 have h2:=ofL_len ([0]++timesR kd wd mo es)
 rw [List.length_append,List.length_cons,List.length_nil] at h2
 show (ofL ([0]++timesR kd wd mo es)).length≤58
 omega
theorem span_at{N:Int→Int}{X:List Pt}(h:SpanI N (allE kd wd mo es) X (allE kd wd mo es).length)(ht:t∈timesU kd wd mo es):nowF t X=N t:=by
 rcases List.mem_append.1 ((mem_ofL _ _).1 ht) with h1|h1
 ·rw [List.mem_singleton.1 h1];exact h.now0
 ·obtain ⟨e,he,rfl⟩:=mem_times.1 h1
  obtain ⟨i,hi,rfl⟩:=Ei he
  exact h.now i hi
theorem span_up{N:Int→Int}{E:List Ev}{X:List Pt}{n k:Nat}(h:SpanI N E X n)(hk:k<X.length)(h0:0<k):(at_ X ((k:Int) - 1)).u<(at_ X (k:Int)).u∧(at_ X ((k:Int) - 1)).v≠(at_ X (k:Int)).v:=by
 have:=h.up (k - 1) om
 rw [show ((k - 1:Nat):Int)=(k:Int) - 1 by omega,show k - 1+1=k by omega] at this
 exact this
structure FsI (p:Int→Prop) (T U:List Int) (k:Nat) (fi:Int) (sm:Bool):Prop where
 no:sm=false→fi=0∧∀i:Nat,i<k→at_ U (i:Int)∈T→¬p (at_ U (i:Int))
 yes:sm=true→(∃i:Nat,i<k∧fi=at_ U (i:Int))∧fi∈T∧p fi∧∀i:Nat,i<k→at_ U (i:Int)∈T→at_ U (i:Int)<fi→¬p (at_ U (i:Int))
section
variable {p:Int→Prop}{T U:List Int}{k:Nat}{fi:Int}{sm:Bool}
theorem FsI.take(h:FsI p T U k fi sm)(hs:sm=false)(hT:at_ U (k:Int)∈T)(hp:p (at_ U (k:Int))):FsI p T U (k+1) (at_ U (k:Int)) true:=by
 refine ⟨(fun h=>by cases h),fun _=>⟨⟨k,by omega,rfl⟩,hT,hp,fun i hi hiT hlt=>?_⟩⟩
 by_cases e:i=k
 ·subst e;omega
 ·exact (h.no hs).2 i om hiT
theorem FsI.skip(h:FsI p T U k fi sm)(hU:U.Pairwise (fun x0 x1:Int=>x0<x1))(hk:k<U.length)(hc:sm=false→at_ U (k:Int)∈T→¬p (at_ U (k:Int))):FsI p T U (k+1) fi sm:=by
 refine ⟨fun hs=>⟨(h.no hs).1,fun i hi hiT=>?_⟩,fun hs=>?_⟩
 ·by_cases e:i=k
  ·subst e;exact hc hs hiT
  ·exact (h.no hs).2 i om hiT
 ·obtain ⟨⟨i0,h0,e0⟩,h1,h2,h3⟩:=h.yes hs
  refine ⟨⟨i0,by omega,e0⟩,h1,h2,fun i hi hiT hlt=>?_⟩
  by_cases e:i=k
  ·subst e
   rw [e0,Ds _ i om,Ds _ i0 om] at hlt
   have:=(List.pairwise_iff_getElem.1 hU) i0 i om hk h0
   omega
  ·exact h3 i om hiT hlt
theorem FsI.done{q:Int→Prop}{tv:Int}{ok:Bool}(h:FsI p (timesR kd wd mo es) (timesU kd wd mo es) (timesU kd wd mo es).length fi sm)(hF:FirstP kd wd mo es q tv ok)(hpq:∀t,q t↔p t):ok=sm∧tv=fi:=by
 have hin:∀t∈timesR kd wd mo es,∃i:Nat,i<(timesU kd wd mo es).length∧at_ (timesU kd wd mo es) (i:Int)=t:=fun t ht=>by
  obtain ⟨i,hi,e⟩:=Ei (x:=t) (xs:=timesU kd wd mo es) ((mem_ofL _ _).2 (List.mem_append_right _ ht))
  exact ⟨i,hi,e.symm▸rfl⟩
 rcases hF with ⟨hk,⟨e,he,rfl⟩,hp,hn⟩|⟨hk,h0,hn⟩
 ·have hT:=mem_times.2 ⟨e,he,rfl⟩
  obtain ⟨i,hi,ei⟩:=hin _ hT
  cases hs:sm with
  |false=>exact absurd ((hpq _).1 hp) (by rw [←ei];exact (h.no hs).2 i hi (by rw [ei];exact hT))
  |true=>
   obtain ⟨_,h1,h2,h3⟩:=h.yes hs
   refine ⟨hk,?_⟩
   obtain ⟨e2,he2,rfl⟩:=mem_times.1 h1
   have a1:¬e.tm<e2.tm:=fun hlt=>h3 i hi (by rw [ei];exact hT) (by rw [ei];exact hlt) (by rw [ei];exact (hpq _).1 hp)
   have a2:¬e2.tm<e.tm:=fun hlt=>hn e2 he2 hlt ((hpq _).2 h2)
   omega
 ·cases hs:sm with
  |false=>exact ⟨hk,h0.trans (h.no hs).1.symm⟩
  |true=>
   obtain ⟨_,h1,h2,_⟩:=h.yes hs
   obtain ⟨e2,he2,rfl⟩:=mem_times.1 h1
   exact absurd ((hpq _).2 h2) (hn e2 he2)
end
end
set_option maxHeartbeats 8000000 in
theorem AnswerHistory_walk{κ:Ctx}{I:List Item}{la:Option Addr}{ln lc:Nat}{ls:List Int}(hl:Sl κ I (.slice la ln lc) ls)(m0:Int)(hm0:0≤m0∧m0<256)(hT:TabRd κ I 0 tzCells) :
    CallS Tryz.prog κ 12 [.slice la ln lc,.int .u8 (m0)] I (fun r J=>r = .bool true∧I=J):=by
 refine Ce2 Tryz.func12 rfl rfl ?_
 refine Ai (Ga rfl (Af (Au (Ai (Gm rfl (Gc0 (Ap call16 rfl rfl Few_ok) ?_))))))
 refine Gr (Cw rfl) (Af (A7 rfl (fun c29=>?_) (fun c29=>?_)))
 ·refine Ai (Gc0 (Ap call41 rfl rfl (Awake43_ok (B9 hT A0))) ?_)
  exact Ga rfl (Af (Ax (Ah (Ay rfl rfl (I) A0 ⟨rfl,rfl⟩))))
 ·refine Aw (Aj (Ai (Gm rfl (G.e (Ap call18 rfl rfl New_ok) ?_))))
  rintro _ _ ⟨_,_,⟨dk1,rfl,rfl⟩,rfl,rfl⟩
  show G Tryz.prog κ _ _ _ _ ([(32,.pointer (some ⟨dk1,0,none⟩)),(31,.slice la ln lc),(29,.bool (decide (¬((ln:Int)≤500)))),(28,.bool (decide ((ln:Int)≤500))),(27,.slice la ln lc),(4,.bool false),(0,.slice la ln lc),(1,.int .u8 (m0))]:Env) (blk dk1 [.slice la ln lc,I64 (0)] 125::I)
  have hi0:(0:Int)≤0:=Int.le_refl _
  refine Ga rfl (Af (Ai (Gm rfl (G.e (Ap call42 rfl rfl (Some43_at (by repeat (first|exact AtF.head _ _|apply AtF.tail)) (fun _=>B7 hl A0) om  )) ?_))))
  rintro _ _ ⟨_,_,⟨⟨nn2,ad3,cp4,es5,kd6,wd7,mo8,i9⟩,⟨⟨rfl,hHes5,hles5,hnes5⟩,hi9⟩,rfl⟩,rfl,rfl⟩
  show G Tryz.prog κ _ _ _ _ ([(35,.tuple #[I64 (nn2),.slice ad3 es5.length cp4,.agg #[I64 (kd6),I64 (wd7),I64 (mo8)]]),(34,.pointer (some ⟨dk1,0,none⟩)),(5,.pointer (some ⟨dk1,0,none⟩)),(32,.pointer (some ⟨dk1,0,none⟩)),(31,.slice la ln lc),(29,.bool (decide (¬((ln:Int)≤500)))),(28,.bool (decide ((ln:Int)≤500))),(27,.slice la ln lc),(4,.bool false),(0,.slice la ln lc),(1,.int .u8 (m0))]:Env) (vc 108 (.slice ad3 es5.length cp4) (es5)::blk dk1 [.slice la ln lc,I64 (i9)] 125::I)
  have hi9:0≤i9:=hi9
  dsimp only at hHes5
  dsimp only at hles5
  dsimp only at hnes5
  refine Gm rfl (Gr (A2 rfl rfl) (Gr (A2 rfl rfl) (Gr (A2 rfl rfl) (Ge1 (A8 ty31 rfl) fun b10=>Ga rfl (Ga rfl (Ge0 (Es3_3 ty31) ?_))))))
  have hH:HistOk nn2 kd6 wd7 mo8 es5:=hHes5
  have hel:es5.length≤19:=by have h9:es5.length≤12:=hles5;omega
  have hn2:2≤nn2∧nn2≤6:=hnes5
  refine Af (Ar (S5 7 6 8 5 1 rfl rfl rfl rfl rfl) (Ai (Gm rfl (Gr (Runs.convI D5 Bm rfl (by unfold InR;omega)) (Gm rfl (Gr (Runs.rem rfl rfl om) (Ga rfl ?_)))))))
  have hvn:0≤Int.tmod m0 nn2∧Int.tmod m0 nn2<nn2:=by rw [Int.tmod_eq_emod_of_nonneg hm0.1];exact ⟨Int.emod_nonneg _ om,Int.emod_lt_of_pos _ om⟩
  generalize Int.tmod m0 nn2=vn at hvn ⊢
  refine Af (Ai (Gm rfl (Gm rfl (Gl3 ty31 ?_))))
  refine Gm rfl (G.e (Ap call52 rfl rfl (AHist_ok (nd:=nn2) (kd:=kd6) (wd:=wd7) (mo:=mo8) (v:=vn) Bf hH hel hvn (B9 hT A0))) ?_)
  rintro _ _ ⟨_,_,⟨ad11,cp12,XS13,rfl,hSPXS13,rfl⟩,rfl,rfl⟩
  refine Gm rfl (Gr (A2 rfl rfl) (Gr (A2 rfl rfl) (Ga rfl (Ga rfl ?_))))
  have hS:=hSPXS13
  have hne0:=hS.ne
  have h00:=hS.h0
  have hSl:XS13.length≤58:=by have h1:=hS.cnt;have h2:=allE_len hH hel;omega
  refine Af (Ar (S7 11 10 9 7 6 8 5 rfl rfl rfl rfl rfl rfl rfl) (Au (Ai (Gm rfl (Gr (Be rfl rfl) (Gm rfl (Bb (d:=53) rfl (fun g53=>?_) (fun g53=>?_))))))))
  ·exact absurd rfl g53
  ·refine Gro (Ad rfl) (Gro (Bp B5 rfl) (Gro (Bi rfl rfl) (Gr (Al rfl rfl) (Gm rfl (Bb (d:=58) rfl (fun g58=>?_) (fun g58=>?_))))))
   ·exfalso;omega
   ·refine Gro (Ad rfl) (Gro (A3 (α:=Pt) (xs:=XS13) B5 ty117 rfl rfl Bf om om) (Gro (C0 (α:=Pt) (xs:=XS13) fld117_0 rfl Bf om) (Gro (C1 (α:=Pt) (xs:=XS13) (u:=I64 ((at_ XS13 0).u)) ty3 rfl Bf om om rfl) (Gro (Be rfl rfl) (Gr (Al rfl rfl) (Af (Ar (S7 64 10 9 7 6 8 5 rfl rfl rfl rfl rfl rfl rfl) (A7 rfl (fun c64=>?_) (fun c64=>?_)))))))))
    ·exact absurd h00 c64
    ·refine Aw (Aj (Ai (Gm rfl (G.e (Ap call19 rfl rfl (Next_ok (by repeat (first|exact AtF.head _ _|apply AtF.tail)) (Bj hl) om om)) ?_))))
     rintro _ _ ⟨_,_,⟨x14,i15,rfl,hx14,hi15,rfl⟩,rfl,rfl⟩
     show G Tryz.prog κ _ _ _ _ ([(66,I64 (x14)),(65,.pointer (some ⟨dk1,0,none⟩)),(64,.bool (decide (((at_ XS13 0).u)≠0))),(10,.slice ad11 XS13.length cp12),(9,I64 (vn)),(7,.slice ad3 es5.length cp4),(6,I64 (nn2)),(8,.pointer (some ⟨b10,0,none⟩)),(5,.pointer (some ⟨dk1,0,none⟩))]:Env) (vc 117 (.slice ad11 XS13.length cp12) (XS13)::blk b10 [I64 (kd6),I64 (wd7),I64 (mo8)] 31::vc 108 (.slice ad3 es5.length cp4) (es5)::blk dk1 [.slice la ln lc,I64 (i15)] 125::I)
     refine Ga rfl (Af (Ai (Ga rfl (Ga rfl (Af (Au (Ai (Ge1 (B1 (α:=Int) (cs:=[_]) (xs:=[0]) Ac ty3 rfl rfl dc dc rfl rfl rfl rfl) fun ad16=>?_))))))))
     refine Gm rfl (Gm rfl (Gl3 ty31 ?_))
     refine G.e (Ap call39 rfl rfl (Times43_ok (nd:=nn2) (kd:=kd6) (wd:=wd7) (mo:=mo8) Bf hH hel)) ?_
     rintro _ _ ⟨_,_,⟨ad17,cp18,rfl,rfl⟩,rfl,rfl⟩
     refine Gc2 (Ap call27 rfl rfl (Union_ok Bf Bf (by have:=timesR_len hH hel;simp only [List.length_cons,List.length_nil];omega))) fun ad19 cp20=>?_
     have hUl:=timesU_len hH hel
     have hUr:=timesU_rng hH
     have hUa:(timesU kd6 wd7 mo8 es5).Pairwise (fun x0 x1:Int=>x0<x1):=ofL_asc _
     refine Gr (Bp Ac rfl) (Gm rfl (Af (Ar (S11 74 73 72 14 13 12 10 9 7 6 8 rfl rfl rfl rfl rfl rfl rfl rfl rfl rfl rfl) (A4 (Bv (σ:=Nat×Int×Bool) (fun s=>([(6,I64 (nn2)),(7,.slice ad3 es5.length cp4),(8,.pointer (some ⟨b10,0,none⟩)),(9,I64 (vn)),(10,.slice ad11 XS13.length cp12),(12,I64 (x14)),(13,I64 (s.2.1)),(14,.bool (s.2.2)),(72,.slice ad19 (timesU kd6 wd7 mo8 es5).length cp20),(73,I64 ((((timesU kd6 wd7 mo8 es5).length:Nat):Int))),(74,I64 (((s.1:Nat):Int)))]:Env)) (fun s=>vc 3 (.slice ad19 (timesU kd6 wd7 mo8 es5).length cp20) (timesU kd6 wd7 mo8 es5)::vc 3 (.slice ad17 (timesR kd6 wd7 mo8 es5).length cp18) (timesR kd6 wd7 mo8 es5)::vc 3 (.slice ad16 1 1) (([0]:List Int))::vc 117 (.slice ad11 XS13.length cp12) (XS13)::blk b10 [I64 (kd6),I64 (wd7),I64 (mo8)] 31::vc 108 (.slice ad3 es5.length cp4) (es5)::blk dk1 [.slice la ln lc,I64 (i15)] 125::I) (fun s=>(s.1≤(timesU kd6 wd7 mo8 es5).length)∧(FsI (fun t=>x14≤(numT nn2 kd6 wd7 mo8 es5 vn) t) (timesR kd6 wd7 mo8 es5) (timesU kd6 wd7 mo8 es5) s.1 s.2.1 s.2.2)) (fun s=>(timesU kd6 wd7 mo8 es5).length - s.1) (0,0,false) (show ((0:Nat)≤(timesU kd6 wd7 mo8 es5).length)∧(FsI (fun t=>x14≤(numT nn2 kd6 wd7 mo8 es5 vn) t) (timesR kd6 wd7 mo8 es5) (timesU kd6 wd7 mo8 es5) (0:Nat) (0:Int) (false:Bool)) from ⟨om,⟨fun _=>⟨rfl,fun i hi=>by omega⟩,fun h=>(by cases h)⟩⟩) (Aa rfl (Aa rfl (Aa rfl (Aa rfl (Aa rfl (Aa rfl (Aa B8 (Aa (Cp rfl (by first|rfl|simp)) (Aa rfl (Aa rfl (Aa B8 Bg))))))))))) (show Fit κ _ (vc 3 (.slice ad19 (timesU kd6 wd7 mo8 es5).length cp20) (timesU kd6 wd7 mo8 es5)::vc 3 (.slice ad17 (timesR kd6 wd7 mo8 es5).length cp18) (timesR kd6 wd7 mo8 es5)::vc 3 (.slice ad16 1 1) (([0]:List Int))::vc 117 (.slice ad11 XS13.length cp12) (XS13)::blk b10 [I64 (kd6),I64 (wd7),I64 (mo8)] 31::vc 108 (.slice ad3 es5.length cp4) (es5)::blk dk1 [.slice la ln lc,I64 (i15)] 125::I) from A5) ?_)))))
     rintro ⟨k,fi,sm⟩ hp
     dsimp only at hp ⊢
     obtain ⟨hk,hfs⟩:=hp
     refine Ai (Gr (A9 rfl rfl) (Af (Au (A7 rfl (fun c75=>?_) (fun c75=>?_)))))
     ·refine Aw (Aj (Au (A4 (Ai (Gr (A3 (α:=Int) (xs:=timesU kd6 wd7 mo8 es5) Ac ty3 rfl rfl Bf om om) (Gr (Br (xs:=timesU kd6 wd7 mo8 es5) ty3 rfl Bf om om) (Ga rfl (Af (Ar (S12 16 6 7 8 9 10 12 13 14 72 73 74 rfl rfl rfl rfl rfl rfl rfl rfl rfl rfl rfl rfl) (Ai (Gm rfl ?_)))))))))))
      have hzm:(at_ (timesU kd6 wd7 mo8 es5) (k:Int))∈(timesU kd6 wd7 mo8 es5):=Cf om om
      have hzr:=hUr _ hzm
      have hcn:=coreN_lenG (hH.graph (at_ (timesU kd6 wd7 mo8 es5) (k:Int)))
      have hsp:=span_at hS hzm
      refine Gm rfl (Gl3 ty31 ?_)
      refine Gm rfl (G.e (Ap call44 rfl rfl (At_ok (nd:=nn2) (kd:=kd6) (wd:=wd7) (mo:=mo8) (tq:=at_ (timesU kd6 wd7 mo8 es5) (k:Int)) Bf hH hel hzr)) ?_)
      rintro _ _ ⟨_,_,⟨ad21,cp22,rfl,rfl⟩,rfl,rfl⟩
      refine Gm rfl (Gr (A2 rfl rfl) (Gr (A2 rfl rfl) (Ge1 (A8 ty48 rfl) fun b23=>Ge0 (Ce ty48) ?_)))
      refine Ga rfl (Af (Ar (S14 18 17 16 6 7 8 9 10 12 13 14 72 73 74 rfl rfl rfl rfl rfl rfl rfl rfl rfl rfl rfl rfl rfl rfl) (Ai (Gl2 ty48 ?_))))
      refine G.e (Ap call71 rfl rfl (Numbers10_ok (nd:=nn2) Bf (hH.graph _) (Nat.le_trans (edges_7 (hH.graph _) om) dc) om)) ?_
      rintro _ _ ⟨_,_,⟨ad24,cp25,rfl,rfl⟩,rfl,rfl⟩
      refine Gm rfl (Gr (A2 rfl rfl) (Gr (A2 rfl rfl) (Ga rfl (Ga rfl (Af (Ar (S14 19 18 16 6 7 8 9 10 12 13 14 72 73 74 rfl rfl rfl rfl rfl rfl rfl rfl rfl rfl rfl rfl rfl rfl) (Ai (Ga rfl (Af (Ar (S15 21 19 18 16 6 7 8 9 10 12 13 14 72 73 74 rfl rfl rfl rfl rfl rfl rfl rfl rfl rfl rfl rfl rfl rfl rfl) (Au (Ai (Gm rfl (Gr (Bp B5 rfl) (Gm rfl (Af (Ar (L':=[(93,_),(92,_),(91,_),(21,_),(19,_),(18,_),(16,_),(6,_),(7,_),(8,_),(9,_),(10,_),(12,_),(13,_),(14,_),(72,_),(73,_),(74,_)]) (Aa rfl (Aa rfl (Aa rfl (Aa rfl (Aa rfl (Aa rfl (Aa rfl (Aa rfl (Aa rfl (Aa rfl (Aa rfl (Aa rfl (Aa rfl (Aa rfl (Aa rfl (Aa rfl (Aa rfl (Aa rfl Bg)))))))))))))))))) (A4 (Bv (σ:=Nat×Int) (fun s=>([(6,I64 (nn2)),(7,.slice ad3 es5.length cp4),(8,.pointer (some ⟨b10,0,none⟩)),(9,I64 (vn)),(10,.slice ad11 XS13.length cp12),(12,I64 (x14)),(13,I64 (fi)),(14,.bool (sm)),(16,I64 (at_ (timesU kd6 wd7 mo8 es5) (k:Int))),(18,I64 (0)),(19,.slice ad24 (coreN nn2 (atG kd6 wd7 mo8 es5 (at_ (timesU kd6 wd7 mo8 es5) (k:Int)))).length cp25),(21,I64 (s.2)),(72,.slice ad19 (timesU kd6 wd7 mo8 es5).length cp20),(73,I64 ((((timesU kd6 wd7 mo8 es5).length:Nat):Int))),(74,I64 ((k:Int))),(91,.slice ad11 XS13.length cp12),(92,I64 (((XS13.length:Nat):Int))),(93,I64 (((s.1:Nat):Int)))]:Env)) (fun s=>vc 3 (.slice ad24 (coreN nn2 (atG kd6 wd7 mo8 es5 (at_ (timesU kd6 wd7 mo8 es5) (k:Int)))).length cp25) (coreN nn2 (atG kd6 wd7 mo8 es5 (at_ (timesU kd6 wd7 mo8 es5) (k:Int))))::blk b23 [I64 (nn2),.slice ad21 (atG kd6 wd7 mo8 es5 (at_ (timesU kd6 wd7 mo8 es5) (k:Int))).length cp22] 48::vc 135 (.slice ad21 (atG kd6 wd7 mo8 es5 (at_ (timesU kd6 wd7 mo8 es5) (k:Int))).length cp22) (atG kd6 wd7 mo8 es5 (at_ (timesU kd6 wd7 mo8 es5) (k:Int)))::vc 3 (.slice ad19 (timesU kd6 wd7 mo8 es5).length cp20) (timesU kd6 wd7 mo8 es5)::vc 3 (.slice ad17 (timesR kd6 wd7 mo8 es5).length cp18) (timesR kd6 wd7 mo8 es5)::vc 3 (.slice ad16 1 1) (([0]:List Int))::vc 117 (.slice ad11 XS13.length cp12) (XS13)::blk b10 [I64 (kd6),I64 (wd7),I64 (mo8)] 31::vc 108 (.slice ad3 es5.length cp4) (es5)::blk dk1 [.slice la ln lc,I64 (i15)] 125::I) (fun s=>(s.1≤XS13.length)∧(s.2=nowF (at_ (timesU kd6 wd7 mo8 es5) (k:Int)) (XS13.take s.1))) (fun s=>XS13.length - s.1) (0,0) (show ((0:Nat)≤XS13.length)∧((0:Int)=nowF (at_ (timesU kd6 wd7 mo8 es5) (k:Int)) (XS13.take (0:Nat))) from ⟨om,rfl⟩) (Aa rfl (Aa rfl (Aa rfl (Aa rfl (Aa rfl (Aa rfl (Aa rfl (Aa rfl (Aa rfl (Aa rfl (Aa rfl (Aa B8 (Aa rfl (Aa rfl (Aa rfl (Aa rfl (Aa rfl (Aa B8 Bg)))))))))))))))))) (show Fit κ _ (vc 3 (.slice ad24 (coreN nn2 (atG kd6 wd7 mo8 es5 (at_ (timesU kd6 wd7 mo8 es5) (k:Int)))).length cp25) (coreN nn2 (atG kd6 wd7 mo8 es5 (at_ (timesU kd6 wd7 mo8 es5) (k:Int))))::blk b23 [I64 (nn2),.slice ad21 (atG kd6 wd7 mo8 es5 (at_ (timesU kd6 wd7 mo8 es5) (k:Int))).length cp22] 48::vc 135 (.slice ad21 (atG kd6 wd7 mo8 es5 (at_ (timesU kd6 wd7 mo8 es5) (k:Int))).length cp22) (atG kd6 wd7 mo8 es5 (at_ (timesU kd6 wd7 mo8 es5) (k:Int)))::vc 3 (.slice ad19 (timesU kd6 wd7 mo8 es5).length cp20) (timesU kd6 wd7 mo8 es5)::vc 3 (.slice ad17 (timesR kd6 wd7 mo8 es5).length cp18) (timesR kd6 wd7 mo8 es5)::vc 3 (.slice ad16 1 1) (([0]:List Int))::vc 117 (.slice ad11 XS13.length cp12) (XS13)::blk b10 [I64 (kd6),I64 (wd7),I64 (mo8)] 31::vc 108 (.slice ad3 es5.length cp4) (es5)::blk dk1 [.slice la ln lc,I64 (i15)] 125::I) from A5) ?_)))))))))))))))))))
      rintro ⟨k2,now⟩ hp
      dsimp only at hp ⊢
      obtain ⟨hk2,hnow⟩:=hp
      have hup:=fun h:k2<XS13.length=>span_up hS h
      refine Ai (Gr (A9 rfl rfl) (Af (Ar (L':=[(94,_),(6,_),(7,_),(8,_),(9,_),(10,_),(12,_),(13,_),(14,_),(16,_),(18,_),(19,_),(21,_),(72,_),(73,_),(74,_),(91,_),(92,_),(93,_)]) (Aa rfl (Aa rfl (Aa rfl (Aa rfl (Aa rfl (Aa rfl (Aa rfl (Aa rfl (Aa rfl (Aa rfl (Aa rfl (Aa rfl (Aa rfl (Aa rfl (Aa rfl (Aa rfl (Aa rfl (Aa rfl (Aa rfl Bg))))))))))))))))))) (Au (A7 rfl (fun c94=>?_) (fun c94=>?_))))))
      ·refine Aw (Aj (Ar (L':=[(6,_),(7,_),(8,_),(9,_),(10,_),(12,_),(13,_),(14,_),(16,_),(18,_),(19,_),(21,_),(72,_),(73,_),(74,_),(91,_),(92,_),(93,_)]) (Aa rfl (Aa rfl (Aa rfl (Aa rfl (Aa rfl (Aa rfl (Aa rfl (Aa rfl (Aa rfl (Aa rfl (Aa rfl (Aa rfl (Aa rfl (Aa rfl (Aa rfl (Aa rfl (Aa rfl (Aa rfl Bg)))))))))))))))))) (Au (A4 (Ai (Gm rfl (Gr (A3 (α:=Pt) (xs:=XS13) B5 ty117 rfl rfl Bf om om) (Gr (Bu (α:=Pt) (xs:=XS13) ty117 rfl Bf om om) (Ge1 (A8 ty117 rfl) fun b26=>Ga rfl (Ge0 (Ce ty117) ?_))))))))))
       refine Af (Ar (L':=[(22,_),(23,_),(6,_),(7,_),(8,_),(9,_),(10,_),(12,_),(13,_),(14,_),(16,_),(18,_),(19,_),(21,_),(72,_),(73,_),(74,_),(91,_),(92,_),(93,_)]) (Aa rfl (Aa rfl (Aa rfl (Aa rfl (Aa rfl (Aa rfl (Aa rfl (Aa rfl (Aa rfl (Aa rfl (Aa rfl (Aa rfl (Aa rfl (Aa rfl (Aa rfl (Aa rfl (Aa rfl (Aa rfl (Aa rfl (Aa rfl Bg)))))))))))))))))))) (Au (Au (Bk mixed (Bo (blk b26 [I64 ((at_ XS13 (k2:Int)).u),I64 ((at_ XS13 (k2:Int)).v)] 117::vc 3 (.slice ad24 (coreN nn2 (atG kd6 wd7 mo8 es5 (at_ (timesU kd6 wd7 mo8 es5) (k:Int)))).length cp25) (coreN nn2 (atG kd6 wd7 mo8 es5 (at_ (timesU kd6 wd7 mo8 es5) (k:Int))))::blk b23 [I64 (nn2),.slice ad21 (atG kd6 wd7 mo8 es5 (at_ (timesU kd6 wd7 mo8 es5) (k:Int))).length cp22] 48::vc 135 (.slice ad21 (atG kd6 wd7 mo8 es5 (at_ (timesU kd6 wd7 mo8 es5) (k:Int))).length cp22) (atG kd6 wd7 mo8 es5 (at_ (timesU kd6 wd7 mo8 es5) (k:Int)))::vc 3 (.slice ad19 (timesU kd6 wd7 mo8 es5).length cp20) (timesU kd6 wd7 mo8 es5)::vc 3 (.slice ad17 (timesR kd6 wd7 mo8 es5).length cp18) (timesR kd6 wd7 mo8 es5)::vc 3 (.slice ad16 1 1) (([0]:List Int))::vc 117 (.slice ad11 XS13.length cp12) (XS13)::blk b10 [I64 (kd6),I64 (wd7),I64 (mo8)] 31::vc 108 (.slice ad3 es5.length cp4) (es5)::blk dk1 [.slice la ln lc,I64 (i15)] 125::I) 24 (Dr 0 rfl (Ad rfl) (Dr 1 rfl (Bz rfl rfl) (Dr 2 rfl (Ad rfl) (C7 (d:=100) rfl (fun g100=>?_) (fun g100=>?_))))))))))
       ·refine Dro 3 rfl (Ad rfl) (Dro 4 rfl (Ad rfl) (Dro 5 rfl (Rsu rfl rfl) (Dro 6 rfl (A3 (α:=Pt) (xs:=XS13) B5 ty117 rfl rfl Bf om om) (Dro 7 rfl (C0 (α:=Pt) (xs:=XS13) fld117_0 rfl Bf om) (Dro 8 rfl (C1 (α:=Pt) (xs:=XS13) (u:=I64 ((at_ XS13 ((k2:Int) - 1)).u)) ty3 rfl Bf om om rfl) (Dro 9 rfl (Ab fld117_0 rfl) (Dro 10 rfl (As ty3) ?_)))))))
        refine Dro 11 rfl (B6 rfl rfl) (Dro 12 rfl (Ad rfl) (C7 (d:=110) rfl (fun g110=>?_) (fun g110=>?_)))
        ·exfalso;have h:=hup om om;omega
        ·refine Dro 13 rfl (Ad rfl) (Dro 14 rfl (Ad rfl) (Dro 15 rfl (Rsu rfl rfl) (Dro 16 rfl (A3 (α:=Pt) (xs:=XS13) B5 ty117 rfl rfl Bf om om) (Dro 17 rfl (C0 (α:=Pt) (xs:=XS13) fld117_1 rfl Bf om) (Dro 18 rfl (C1 (α:=Pt) (xs:=XS13) (u:=I64 ((at_ XS13 ((k2:Int) - 1)).v)) ty3 rfl Bf om om rfl) (Dro 19 rfl (Ab fld117_1 rfl) (Dro 20 rfl (As ty3) ?_)))))))
         refine Dro 21 rfl (Bi rfl rfl) (Dro 22 rfl (Al rfl rfl) (Dr 23 rfl (Ao rfl rfl) (Dz (Aj (Ar (L':=[(121,_),(23,_),(6,_),(7,_),(8,_),(9,_),(10,_),(12,_),(13,_),(14,_),(16,_),(18,_),(19,_),(21,_),(72,_),(73,_),(74,_),(91,_),(92,_),(93,_)]) (Aa rfl (Aa rfl (Aa rfl (Aa rfl (Aa rfl (Aa rfl (Aa rfl (Aa rfl (Aa rfl (Aa rfl (Aa rfl (Aa rfl (Aa rfl (Aa rfl (Aa rfl (Aa rfl (Aa rfl (Aa rfl (Aa rfl (Aa rfl Bg)))))))))))))))))))) (A7 rfl (fun c121=>?_) (fun c121=>?_)))))))
         ·exact absurd c121 (hup om om).2
         ·refine Aw (Aj (Ar (L':=[(23,_),(6,_),(7,_),(8,_),(9,_),(10,_),(12,_),(13,_),(14,_),(16,_),(18,_),(19,_),(21,_),(72,_),(73,_),(74,_),(91,_),(92,_),(93,_)]) (Aa rfl (Aa rfl (Aa rfl (Aa rfl (Aa rfl (Aa rfl (Aa rfl (Aa rfl (Aa rfl (Aa rfl (Aa rfl (Aa rfl (Aa rfl (Aa rfl (Aa rfl (Aa rfl (Aa rfl (Aa rfl (Aa rfl Bg))))))))))))))))))) (Ai (Gf fld117_0 rfl (Gl ty3 ?_)))))
          refine Gm rfl (Gr (Dt rfl rfl) (Af (Ar (L':=[(125,_),(23,_),(6,_),(7,_),(8,_),(9,_),(10,_),(12,_),(13,_),(14,_),(16,_),(18,_),(19,_),(21,_),(72,_),(73,_),(74,_),(91,_),(92,_),(93,_)]) (Aa rfl (Aa rfl (Aa rfl (Aa rfl (Aa rfl (Aa rfl (Aa rfl (Aa rfl (Aa rfl (Aa rfl (Aa rfl (Aa rfl (Aa rfl (Aa rfl (Aa rfl (Aa rfl (Aa rfl (Aa rfl (Aa rfl (Aa rfl Bg)))))))))))))))))))) (A7 rfl (fun c125=>?_) (fun c125=>?_)))))
          ·refine Az (Gf fld117_1 rfl (Gl ty3 ?_))
           exact Ga rfl (Bc (Ak (Aj (Ar (L':=[(21,_),(6,_),(7,_),(8,_),(9,_),(10,_),(12,_),(13,_),(14,_),(16,_),(18,_),(19,_),(72,_),(73,_),(74,_),(91,_),(92,_),(93,_)]) (Aa rfl (Aa rfl (Aa rfl (Aa rfl (Aa rfl (Aa rfl (Aa rfl (Aa rfl (Aa rfl (Aa rfl (Aa rfl (Aa rfl (Aa rfl (Aa rfl (Aa rfl (Aa rfl (Aa rfl (Aa rfl Bg)))))))))))))))))) (Az (Gr (Rad rfl rfl) (Gm rfl (Bc (B3 ((k2+1),((at_ XS13 (k2:Int)).v)) (by dsimp only;exact ⟨om,(by first|(rw [nowF_take om,if_pos c125])|(rw [nowF_take om,if_neg c125,←hnow]))⟩))))))))))
          ·exact Aw (Ak (Aj (Ar (L':=[(6,_),(7,_),(8,_),(9,_),(10,_),(12,_),(13,_),(14,_),(16,_),(18,_),(19,_),(21,_),(72,_),(73,_),(74,_),(91,_),(92,_),(93,_)]) (Aa rfl (Aa rfl (Aa rfl (Aa rfl (Aa rfl (Aa rfl (Aa rfl (Aa rfl (Aa rfl (Aa rfl (Aa rfl (Aa rfl (Aa rfl (Aa rfl (Aa rfl (Aa rfl (Aa rfl (Aa rfl Bg)))))))))))))))))) (Az (Gr (Rad rfl rfl) (Gm rfl (Bc (B3 ((k2+1),(now)) (by dsimp only;exact ⟨om,(by first|(rw [nowF_take om,if_pos c125])|(rw [nowF_take om,if_neg c125,←hnow]))⟩)))))))))
       ·refine Dpo 3 rfl (Dpo 4 rfl (Dpo 5 rfl (Dpo 6 rfl (Dpo 7 rfl (Dpo 8 rfl (Dpo 9 rfl (Dpo 10 rfl (Dpo 11 rfl (Dpo 12 rfl (Dpu 13 rfl (Dpu 14 rfl (Dpu 15 rfl (Dpu 16 rfl (Dpu 17 rfl (Dpu 18 rfl (Dpu 19 rfl (Dpu 20 rfl (Dpu 21 rfl (Dpo 22 rfl (Dr 23 rfl (Al rfl rfl) (Dz (Aj (Ar (L':=[(121,_),(23,_),(6,_),(7,_),(8,_),(9,_),(10,_),(12,_),(13,_),(14,_),(16,_),(18,_),(19,_),(21,_),(72,_),(73,_),(74,_),(91,_),(92,_),(93,_)]) (Aa rfl (Aa rfl (Aa rfl (Aa rfl (Aa rfl (Aa rfl (Aa rfl (Aa rfl (Aa rfl (Aa rfl (Aa rfl (Aa rfl (Aa rfl (Aa rfl (Aa rfl (Aa rfl (Aa rfl (Aa rfl (Aa rfl (Aa rfl Bg)))))))))))))))))))) (C9 rfl (Aw (Aj (Ar (L':=[(23,_),(6,_),(7,_),(8,_),(9,_),(10,_),(12,_),(13,_),(14,_),(16,_),(18,_),(19,_),(21,_),(72,_),(73,_),(74,_),(91,_),(92,_),(93,_)]) (Aa rfl (Aa rfl (Aa rfl (Aa rfl (Aa rfl (Aa rfl (Aa rfl (Aa rfl (Aa rfl (Aa rfl (Aa rfl (Aa rfl (Aa rfl (Aa rfl (Aa rfl (Aa rfl (Aa rfl (Aa rfl (Aa rfl Bg))))))))))))))))))) (Ai (Gf fld117_0 rfl (Gl ty3 ?_))))))))))))))))))))))))))))))
        refine Gm rfl (Gr (Dt rfl rfl) (Af (Ar (L':=[(125,_),(23,_),(6,_),(7,_),(8,_),(9,_),(10,_),(12,_),(13,_),(14,_),(16,_),(18,_),(19,_),(21,_),(72,_),(73,_),(74,_),(91,_),(92,_),(93,_)]) (Aa rfl (Aa rfl (Aa rfl (Aa rfl (Aa rfl (Aa rfl (Aa rfl (Aa rfl (Aa rfl (Aa rfl (Aa rfl (Aa rfl (Aa rfl (Aa rfl (Aa rfl (Aa rfl (Aa rfl (Aa rfl (Aa rfl (Aa rfl Bg)))))))))))))))))))) (A7 rfl (fun c125=>?_) (fun c125=>?_)))))
        ·refine Az (Gf fld117_1 rfl (Gl ty3 ?_))
         exact Ga rfl (Bc (Ak (Aj (Ar (L':=[(21,_),(6,_),(7,_),(8,_),(9,_),(10,_),(12,_),(13,_),(14,_),(16,_),(18,_),(19,_),(72,_),(73,_),(74,_),(91,_),(92,_),(93,_)]) (Aa rfl (Aa rfl (Aa rfl (Aa rfl (Aa rfl (Aa rfl (Aa rfl (Aa rfl (Aa rfl (Aa rfl (Aa rfl (Aa rfl (Aa rfl (Aa rfl (Aa rfl (Aa rfl (Aa rfl (Aa rfl Bg)))))))))))))))))) (Az (Gr (Rad rfl rfl) (Gm rfl (Bc (B3 ((k2+1),((at_ XS13 (k2:Int)).v)) (by dsimp only;exact ⟨om,(by first|(rw [nowF_take om,if_pos c125])|(rw [nowF_take om,if_neg c125,←hnow]))⟩))))))))))
        ·exact Aw (Ak (Aj (Ar (L':=[(6,_),(7,_),(8,_),(9,_),(10,_),(12,_),(13,_),(14,_),(16,_),(18,_),(19,_),(21,_),(72,_),(73,_),(74,_),(91,_),(92,_),(93,_)]) (Aa rfl (Aa rfl (Aa rfl (Aa rfl (Aa rfl (Aa rfl (Aa rfl (Aa rfl (Aa rfl (Aa rfl (Aa rfl (Aa rfl (Aa rfl (Aa rfl (Aa rfl (Aa rfl (Aa rfl (Aa rfl Bg)))))))))))))))))) (Az (Gr (Rad rfl rfl) (Gm rfl (Bc (B3 ((k2+1),(now)) (by dsimp only;exact ⟨om,(by first|(rw [nowF_take om,if_pos c125])|(rw [nowF_take om,if_neg c125,←hnow]))⟩)))))))))
      ·refine Bs (Am (Am (A6 (Aj (Ar (S15 6 7 8 9 10 12 13 14 16 18 19 21 72 73 74 rfl rfl rfl rfl rfl rfl rfl rfl rfl rfl rfl rfl rfl rfl rfl) (Au (Ai (Gm rfl (Gr (Be rfl rfl) (Gm rfl (Bb (d:=131) rfl (fun g131=>?_) (fun g131=>?_))))))))))))
       ·exact absurd rfl g131
       ·refine Gro (Ad rfl) (Gro (Ad rfl) (Gro (Ad rfl) (Gro (A3 (α:=Int) (xs:=coreN nn2 (atG kd6 wd7 mo8 es5 (at_ (timesU kd6 wd7 mo8 es5) (k:Int)))) Ac ty3 rfl rfl Bf om om) (Gro (Br (xs:=coreN nn2 (atG kd6 wd7 mo8 es5 (at_ (timesU kd6 wd7 mo8 es5) (k:Int)))) ty3 rfl Bf om om) (Gro (Be rfl rfl) (Gr (Al rfl rfl) (Af (Ar (S14 138 6 7 8 9 10 12 13 14 16 19 72 73 74 rfl rfl rfl rfl rfl rfl rfl rfl rfl rfl rfl rfl rfl rfl) (A7 rfl (fun c138=>?_) (fun c138=>?_))))))))))
        ·exfalso;rw [List.take_of_length_le om] at hnow;exact c138 (hnow.trans hsp)
        ·refine Aw (Aj (Ar (S13 6 7 8 9 10 12 13 14 16 19 72 73 74 rfl rfl rfl rfl rfl rfl rfl rfl rfl rfl rfl rfl rfl) (Ai (Gm rfl (Gr (Cu rfl) (Gm rfl (G.splitb (d:=141) rfl (fun g141=>?_) (fun g141=>?_))))))))
         ·refine Gro (Ad rfl) (Gro (Ad rfl) (Gro (A3 (α:=Int) (xs:=coreN nn2 (atG kd6 wd7 mo8 es5 (at_ (timesU kd6 wd7 mo8 es5) (k:Int)))) Ac ty3 rfl rfl Bf om om) (Gro (Br (xs:=coreN nn2 (atG kd6 wd7 mo8 es5 (at_ (timesU kd6 wd7 mo8 es5) (k:Int)))) ty3 rfl Bf om om) (Gro (Ad rfl) (Gro (B6 rfl rfl) (Gr (Ao rfl rfl) (Gm rfl (Bb (d:=149) rfl (fun g149=>?_) (fun g149=>?_)))))))))
          ·refine Gro (Ad rfl) (Gro (Ad rfl) (Gro (Bq (vs:=[_,_,_]) ty31) ?_))
           refine Eo (Cv rfl rfl rfl) (Ap call39 rfl rfl (Times43_ok (nd:=nn2) (kd:=kd6) (wd:=wd7) (mo:=mo8) Bf hH hel)) ?_
           rintro _ _ ⟨_,_,⟨ad27,cp28,rfl,rfl⟩,rfl,rfl⟩
           refine Gro (Ad rfl) (Eo (Cv rfl rfl rfl) (Ap call72 rfl rfl (RHas_ok Bf (at_ (timesU kd6 wd7 mo8 es5) (k:Int)))) ?_)
           rintro _ _ ⟨_,_,⟨rfl,rfl⟩,rfl,rfl⟩
           refine Gr (Ao rfl rfl) (Af (Ar (S13 156 6 7 8 9 10 12 13 14 16 72 73 74 rfl rfl rfl rfl rfl rfl rfl rfl rfl rfl rfl rfl rfl) (A7 rfl (fun c156=>?_) (fun c156=>?_))))
           ·exact Az (Gm rfl (Ga rfl (Ga rfl (Bc (Ak (Aj (Ar (S11 14 13 6 7 8 9 10 12 72 73 74 rfl rfl rfl rfl rfl rfl rfl rfl rfl rfl rfl) (Az (Gr (Rad rfl rfl) (Gm rfl (Bc (B3 ((k+1),(at_ (timesU kd6 wd7 mo8 es5) (k:Int)),(true)) (by dsimp only;exact ⟨om,(hfs.take (by simpa using g141) c156 g149)⟩)))))))))))))
           ·exact Aw (Ak (Aj (Az (Gr (Rad rfl rfl) (Gm rfl (Bc (B3 ((k+1),(fi),(sm)) (by dsimp only;exact ⟨om,(by first|exact hfs.skip hUa om (fun _ h1=>absurd h1 c156)|exact hfs.skip hUa om (fun _ _=>g149)|exact hfs.skip hUa om (fun h1=>by rw [h1] at g141;exact absurd g141 dc))⟩))))))))
          ·exact Gpo (Gpo (Gpo (Gpo (Gpo (Gpo (Gr (Al rfl rfl) (Af (Ar (S13 156 6 7 8 9 10 12 13 14 16 72 73 74 rfl rfl rfl rfl rfl rfl rfl rfl rfl rfl rfl rfl rfl) (C9 rfl (Aw (Ak (Aj (Az (Gr (Rad rfl rfl) (Gm rfl (Bc (B3 ((k+1),(fi),(sm)) (by dsimp only;exact ⟨om,(by first|exact hfs.skip hUa om (fun _ h1=>absurd h1 c156)|exact hfs.skip hUa om (fun _ _=>g149)|exact hfs.skip hUa om (fun h1=>by rw [h1] at g141;exact absurd g141 dc))⟩))))))))))))))))))
         ·exact Gpo (Gpo (Gpo (Gpo (Gpo (Gpo (Gr (Al rfl rfl) (Gm rfl (Gpo (Gpo (Gpo (Gpo (Gpo (Gpo (Gr (Al rfl rfl) (Af (Ar (S13 156 6 7 8 9 10 12 13 14 16 72 73 74 rfl rfl rfl rfl rfl rfl rfl rfl rfl rfl rfl rfl rfl) (C9 rfl (Aw (Ak (Aj (Az (Gr (Rad rfl rfl) (Gm rfl (Bc (B3 ((k+1),(fi),(sm)) (by dsimp only;exact ⟨om,(by first|exact hfs.skip hUa om (fun _ h1=>absurd h1 c156)|exact hfs.skip hUa om (fun _ _=>g149)|exact hfs.skip hUa om (fun h1=>by rw [h1] at g141;exact absurd g141 dc))⟩))))))))))))))))))))))))))
     ·refine Bs (Am (Am (A6 (Aj (Ai (Gm rfl (Gm rfl (Gl3 ty31 ?_))))))))
      refine Gm rfl (Ge1 (B1 (α:=Int) (cs:=[_]) (xs:=[vn]) Ac ty3 rfl rfl dc dc rfl rfl rfl rfl) fun ad29=>?_)
      refine Gm rfl (G.e (Ap call50 rfl rfl (ATog_ok (nd:=nn2) (kd:=kd6) (wd:=wd7) (mo:=mo8) (lv:=x14) (xs:=([vn]:List Int)) Bf Bf hH hel (by exact ⟨Nat.one_pos,by show 1≤64;omega⟩) (one_valid hvn) (B9 hT A0))) ?_)
      rintro _ _ ⟨_,_,⟨tv30,ok31,rfl,hFPtv30,rfl⟩,rfl,rfl⟩
      refine Gm rfl (Gr (A2 rfl rfl) (Gr (A2 rfl rfl) (Gr (A2 rfl rfl) (Ga rfl (Ga rfl (Ga rfl ?_))))))
      have hfin:=FsI.done (p:=(fun t=>x14≤(numT nn2 kd6 wd7 mo8 es5 vn) t)) (by rw [show (timesU kd6 wd7 mo8 es5).length=k by omega];exact hfs) hFPtv30 (fun t=>tog_num hH hvn)
      refine Af (Ar (S5 26 25 24 13 14 rfl rfl rfl rfl rfl) (Ai (Gm rfl (Gr (Bi rfl rfl) (Gm rfl (Bb (d:=172) rfl (fun g172=>?_) (fun g172=>?_)))))))
      ·refine Gro (Ad rfl) (Gro (Ad rfl) (Gro (Runs.eqlb Ez rfl rfl) (Gr (Ao rfl rfl) (Gm rfl (Bb (d:=177) rfl (fun g177=>?_) (fun g177=>?_))))))
       ·refine Gro (Ad rfl) (Gro (Ad rfl) (Gro (Bi rfl rfl) (Gr (Ao rfl rfl) (Gm rfl (Bb (d:=182) rfl (fun g182=>?_) (fun g182=>?_))))))
        ·refine Eo (Cv rfl rfl rfl) (Ap call41 rfl rfl (Awake43_ok (B9 hT A0))) ?_
         rintro _ _ ⟨_,_,⟨rfl,rfl⟩,rfl,rfl⟩
         exact Gr (Ao rfl rfl) (Ga rfl (Af (Ar (S1 4 rfl) (Ax (Ay rfl rfl (I) A0 ⟨rfl,rfl⟩)))))
        ·exact absurd hfin.2 g182
       ·exact absurd hfin.1 (by simpa using g177)
      ·exact absurd rfl g172
end Go.Sl
namespace Go.Sl
open Go.ChangeShapes Go.WideShapes Go.ChangeAt Go.RowKit Go.Deep
section
variable {κ:Ctx}{w w':World}{I:List Item}
theorem old_cell(hs:Sep κ w' I)(hm:old w.heap.size w∈I){b o:Nat}{u:Value}(hc:w.cell? ⟨b,o,none⟩=some u):w'.cell? ⟨b,o,none⟩=some u:=by
 have hok:∀k,k<w.heap.size→w'.heap[k]? = w.heap[k]? :=(hs.ok _ hm).1
 have hb:b<w.heap.size:=by
  refine Nat.not_le.1 fun h=>?_
  simp [World.cell?,Array.getElem?_eq_none h] at hc
 have:=hok b hb
 simp only [World.cell?,this] at hc ⊢
 exact hc
def SlW{α:Type}[Enc α](w:World)(v:Value)(xs:List α):Prop:=slOk w (Enc.sz α) v xs.length (cells xs)
theorem SlW.sl{α:Type}[Enc α]{v:Value}{xs:List α}(h:SlW w v xs)(hm:old w.heap.size w∈I):Sl κ I v xs:=fun w' hs=>by
 obtain ⟨a,cap,hv,h1,h2,h3,h4⟩:=h
 refine ⟨a,cap,hv,h1,h2,h3,fun hc=>?_⟩
 obtain ⟨b,off,ha,hr⟩:=h4 hc
 exact ⟨b,off,ha,fun j u hj=>old_cell hs hm (hr j u hj)⟩
end
section
variable {P:Program}{w:World}{r:Reach}{b0:Nat}{t:TypeId}{H:Type}{enc:TypeId×Value→H}{base:Nat}{spare:Nat→Bool}{held:Bool}
theorem spot_none{e:TypeId}{a:Addr}{len cap:Nat}(ht:P.underlying t=some (.slice e))(h:Cell.okWide P w r b0 t (.slice (some a) len cap)):a.spot=none:=by
 simp only [Cell.okWide,Cell.ok,ht] at h
 exact h.2.2.2.1
theorem InR_of{n:Int}(h:(Lit.int .i64 n).wf=true):InR n:=by
 simp only [Lit.wf,Bool.and_eq_true,decide_eq_true_eq] at h
 exact h
def Light(P:Program)(t:TypeId)(d:DataW H):Prop:=∀n∈d.weights P t,n≤reachBytes
theorem light_arg{ts:List TypeId}{ds:List (DataW H)}(h:(DataW.weightsEach P ts ds).all (· ≤ reachBytes)=true){j:Nat}{d:DataW H}(ht:ts[j]? = some t)(hd:ds[j]? = some d):Light P t d:=fun n hn=>by
 have:=List.all_eq_true.1 h _ (DataW.weights_mem_each ht hd n hn)
 simpa using this
theorem light_slice{e:TypeId}{es sp:List (DataW H)}(ht:P.underlying t=some (.slice e))(h:Light P t (.slice es sp)):es.length*P.bytesOf e≤140737488351232:=by
 have h1:=h ((es.length+sp.length)*P.bytesOf e) (by simp [DataW.weights,ht])
 have h2:es.length*P.bytesOf e≤(es.length+sp.length)*P.bytesOf e:=Nat.mul_le_mul_right _ (by omega)
 simp only [reachBytes] at h1
 omega
theorem addr_eta{a:Addr}(h:a.spot=none):a=⟨a.block,a.off,none⟩:=by cases a;simp_all
theorem in_ints{e:TypeId}{v:Value}{fuel:Nat}{x:DataW H×List MemPlace}(ht:P.underlying t=some (.slice e))(he:P.underlying e=some (.int .i64))(hc:P.cellsOf e=1)
  (hv:Cell.okWide P w r b0 t v) (h:DataW.trod enc P w base spare held fuel t [v]=some x) (hw:Light P t x.1):∃(a:Option Addr) (c:Nat) (xs:List Int),v = .slice a xs.length c∧SlW w (.slice a xs.length c) xs∧(∀n∈xs,InR n)∧xs.length*P.bytesOf e≤140737488351232:=by
 rcases open_ints ht he hc h with ⟨hcs,_⟩|⟨a,l,c,zs,hcs,_,hl,hm,hz,hx,hcell,hwz⟩
 ·obtain rfl:v = .slice none 0 0:=by simpa using hcs
  exact ⟨none,0,[],rfl,⟨none,0,rfl,by simp [cells],Nat.le_refl _,by simp,fun h=>by omega⟩,by simp,by simp⟩
 ·obtain rfl:v = .slice (some a) l c:=by simpa using hcs
  have hsp:=spot_none ht hv
  have hlen:l≤zs.length:=by rw [hz];split<;>omega
  have hxl:(zs.take l).length=l:=by rw [List.length_take];omega
  refine ⟨some a,c,zs.take l,by rw [hxl],⟨some a,c,rfl,cells_length _,by rw [hxl];exact hl,hm,fun hc0=>⟨a.block,a.off,by rw [←addr_eta hsp],fun j u hj=>?_⟩⟩,fun n hn=>InR_of (hwz n (List.mem_of_mem_take hn)),by
   rw [hx] at hw
   have:=light_slice ht hw
   simpa [lits] using this⟩
  have hjl:j<l:=by
   have:=(List.getElem?_eq_some_iff.1 hj).1
   rw [cells_length,hxl] at this
   have e1:Enc.sz Int=1:=rfl
   rw [e1] at this;omega
  have h1:=cells_get (zs.take l) j 0 (by omega) (by decide)
  have e1:j*Enc.sz Int+0=j:=by show j*1+0=j;omega
  rw [e1] at h1
  rw [h1] at hj
  have h2:=hcell j (by omega)
  rw [addr_eta hsp,addr_add] at h2
  have h3:u=I64 (zs.getD j 0):=by
   have h4:some (I64 ((zs.take l)[j]'(by omega)))=some u:=hj
   simp only [Option.some.injEq] at h4
   rw [←h4]
   simp [List.getD_eq_getElem?_getD,List.getElem?_eq_getElem (show j<zs.length by omega)]
  rw [h3];exact h2
theorem arg_cell{v:Value}{d:DataW H}{ps:List MemPlace}{e:TypeId}(ht:P.underlying t=some (.slice e))(hv:Value.okWide P w r b0 t v)(h:DataW.Trod enc P w base spare held t v d ps):Cell.okWide P w r b0 t v∧∃fuel,DataW.trod enc P w base spare held fuel t [v]=some (d,ps):=by
 obtain ⟨a,len,cap,rfl⟩:=okWide_slice ht hv
 simp only [Value.okWide,ht] at hv
 obtain ⟨fuel,hf⟩:=h
 exact ⟨hv,fuel,by simpa [Value.cells] using hf⟩
theorem joined_mk{P:Program}{f:FuncId}{fn:Func}{s:ChangeSpec}{c:OpenClaim}(h1:(c.wf (OpenSpec.ofChange s))=true)(h2:(laidOutB P)=true)(h3:(mapsRowed P)=true)(h4:(fn.params.all (P.readableRec ·))=true)(h5:(namedTie P c.named s.vars)=true)(h6:((c.stops==[]))=true)(h7:((P.stops==[]))=true)(h8:((c.knobs==[]))=true)(h9:((P.stopKnobs==[]))=true)(h10:((c.inPlace==P.inPlace f))=true)(h11:((c.unfollowed==P.unfollowed f))=true)(h12:((c.recurses==P.recurses f))=true)(h13:((c.named==P.varsNamed f))=true)(h14:((c.maps==(fn.params.toList++s.plain.varTypes P).any (P.mapsRec ·)))=true)(h15:((c.ifaces==(fn.params.toList++s.plain.varTypes P).any (P.ifacesRec ·)))=true)(h16:((c.mapsOut==P.mapsAmong fn.resultTypes.toList))=true)(h17:((c.loops==(fn.params.toList++s.plain.varTypes P).any (P.loopsFrom ·)))=true)(h18:((c.wideKeys==(fn.params.toList++s.plain.varTypes P++fn.resultTypes.toList).any (P.wideKeysFrom ·)))=true)(h19:(s.vars.all (P.varReadable ·))=true)(h20:(fn.resultTypes.all (fun t=>P.readableRec t&&decide (t<P.types.size)))=true)(h21:((c.ifacesOut==fn.resultTypes.toList.any (P.ifacesRec ·)))=true)(h22:((c.loopsOut==fn.resultTypes.toList.any (P.loopsFrom ·)))=true)(h23:((c.plainKeys==P.plainKeys))=true)(h24:(c.shortTexts.isNone)=true)(h25:(P.stopsHeard)=true)(h26:(P.mayEnter)=true)(h27:((c.lifted==P.liftsFinal))=true)(h28:((P.make==some c.make))=true)(h29:((c.kinds==(if c.domain.isEmpty then [] else fn.params.toList.map fun t=>match P.underlying t with |some (.int k)=>some k|_=>none)))=true)(h30:((c.pinned==c.pinnedBy))=true)(h31:((c.veiled==(fn.params.toList++s.plain.varTypes P++fn.resultTypes.toList).any (P.veiledRec ·)))=true)(h32:(c.veiledFits P fn.params.toList (fn.params.toList++s.plain.varTypes P++fn.resultTypes.toList))=true):joinedFacts P f fn s c=true:=by
 unfold joinedFacts
 exact (Bool.and_eq_true_iff.2 ⟨(Bool.and_eq_true_iff.2 ⟨(Bool.and_eq_true_iff.2 ⟨(Bool.and_eq_true_iff.2 ⟨(Bool.and_eq_true_iff.2 ⟨(Bool.and_eq_true_iff.2 ⟨(Bool.and_eq_true_iff.2 ⟨(Bool.and_eq_true_iff.2 ⟨(Bool.and_eq_true_iff.2 ⟨(Bool.and_eq_true_iff.2 ⟨(Bool.and_eq_true_iff.2 ⟨(Bool.and_eq_true_iff.2 ⟨(Bool.and_eq_true_iff.2 ⟨(Bool.and_eq_true_iff.2 ⟨(Bool.and_eq_true_iff.2 ⟨(Bool.and_eq_true_iff.2 ⟨(Bool.and_eq_true_iff.2 ⟨(Bool.and_eq_true_iff.2 ⟨(Bool.and_eq_true_iff.2 ⟨(Bool.and_eq_true_iff.2 ⟨(Bool.and_eq_true_iff.2 ⟨(Bool.and_eq_true_iff.2 ⟨(Bool.and_eq_true_iff.2 ⟨(Bool.and_eq_true_iff.2 ⟨(Bool.and_eq_true_iff.2 ⟨(Bool.and_eq_true_iff.2 ⟨(Bool.and_eq_true_iff.2 ⟨(Bool.and_eq_true_iff.2 ⟨(Bool.and_eq_true_iff.2 ⟨(Bool.and_eq_true_iff.2 ⟨(Bool.and_eq_true_iff.2 ⟨h1,h2⟩),h3⟩),h4⟩),h5⟩),h6⟩),h7⟩),h8⟩),h9⟩),h10⟩),h11⟩),h12⟩),h13⟩),h14⟩),h15⟩),h16⟩),h17⟩),h18⟩),h19⟩),h20⟩),h21⟩),h22⟩),h23⟩),h24⟩),h25⟩),h26⟩),h27⟩),h28⟩),h29⟩),h30⟩),h31⟩),h32⟩)
theorem calls_below{f:FuncId}{args:List Value}(h:CallS P ⟨w.os,w.tape,w.output,w.drawn⟩ f args [old w.heap.size w] fun r J=>r = .bool true∧[old w.heap.size w]=J) :
  Calls P f args.toArray w fun e w'=>e = .returned (.bool true)∧Below w.heap.size w w':=
 (h w (Sep.begin w)).mono fun e w' ⟨v,J,he,⟨hv,hJ⟩,hs⟩=>by
  subst hv hJ
  exact ⟨he,hs.below List.mem_cons_self⟩
end
end Go.Sl
