/- A part of the proofs of statements of this seat: contracts of functions, and the plain laws that they lean on. No conditions. -/
import Derived.Test.YtfkcohmipjhfcaaGreatDoorF19
import Derived.OrdersIn
set_option linter.unusedVariables false
set_option linter.unusedSimpArgs false
set_option linter.unusedSectionVars false
namespace Go.Sl
open Go.Proofs
set_option maxRecDepth 4000
theorem qnot_t{q:Bool}{p:Prop}[Decidable p](h:(!q)=true)(hq:q=decide p):¬p:=fun hp=>by rw [hq,decide_eq_true hp] at h;cases h
theorem qnot_f{q:Bool}{p:Prop}[Decidable p](h:(!q)=false)(hq:q=decide p):p:=Classical.byContradiction fun hp=>by rw [hq,decide_eq_false hp] at h;cases h
theorem Until7_ok{κ:Ctx}{I:List Item}{nd kd wd mo:Int}{va:Value}{xs:List Lk}(hl:Sl κ I va xs) :
    CallS Tryz.prog κ 160 [.agg #[I64 (nd),va],.agg #[I64 (kd),I64 (wd),I64 (mo)]] I (fun r J=>∃z:Int,r = .tuple #[I64 z,.bool (decide (untilC nd xs kd wd mo)),I64 (uErr nd xs kd wd mo)]∧UntilP nd xs kd wd mo z∧I=J):=by
 refine B4 hl.le fun hmax=>?_
 refine Ce2 Tryz.func160 rfl rfl ?_
 refine Ah (Ge1 (Bb (cs:=[_,_]) rfl rfl rfl) fun b1=>Ge1 (Bb (cs:=[_,_,_]) rfl rfl rfl) fun b2=>Ga rfl (Ga rfl (Ga rfl (Af (Av (Ah (Gl3 ty31 ?_)))))))
 refine Gc0 (Aj call85 rfl rfl (CheckW7_ok kd wd mo)) ?_
 refine Ga rfl (Af (Ah (Gm rfl (Gr (Bh rfl rfl) (Af (A6 rfl (fun c17=>?_) (fun c17=>?_)))))))
 ·refine Ah (Gm rfl (Ga rfl (Ga rfl (Ga rfl (Af (Ar (S3 6 5 4 rfl rfl rfl) (Ay (Ad ?_))))))))
  have hu:uErr nd xs kd wd mo=checkW kd wd mo:=by unfold uErr;rw [if_pos c17]
  have hn:¬untilC nd xs kd wd mo:=fun h=>c17 (hu▸h.1)
  exact V.ret3 rfl rfl rfl rfl (I) A1 ⟨0,by rw [decide_eq_false hn,hu],.none hn,rfl⟩
 ·refine Az (Ai (Av (Ah (Gl2 ty111 ?_))))
  refine Gc0 (Aj call129 rfl rfl (CheckS5_ok (nd:=nd) (Bl hl))) ?_
  refine Ga rfl (Af (Ar (S3 8 3 2 rfl rfl rfl) (Ah (Gm rfl (Gr (Bh rfl rfl) (Af (A6 rfl (fun c22=>?_) (fun c22=>?_))))))))
  ·refine Ah (Gm rfl (Ga rfl (Ga rfl (Ga rfl (Af (Ay (Ad ?_)))))))
   have hu:uErr nd xs kd wd mo=checkS nd xs:=by unfold uErr;rw [if_neg c17]
   have hn:¬untilC nd xs kd wd mo:=fun h=>c22 (hu▸h.1)
   exact V.ret3 rfl rfl rfl rfl (I) A1 ⟨0,by rw [decide_eq_false hn,hu],.none hn,rfl⟩
  ·refine Az (Ai (Ah (Ga rfl (Ga rfl (Af (Av (Ah (Gf fld111_1 rfl (Gl ty109 ?_)))))))))
   refine Gr (Bu (α:=Lk) (xs:=xs) Ap rfl (Bl hl)) (Gm rfl (Af (A5 (Bv (σ:=Nat×Int×Bool) (fun s=>([(3,.pointer (some ⟨b2,0,none⟩)),(9,I64 (s.2.1)),(10,.bool (s.2.2)),(25,va),(26,I64 (((xs.length:Nat):Int))),(27,I64 (((s.1:Nat):Int)))]:Env)) (fun s=>blk b2 [I64 (kd),I64 (wd),I64 (mo)] 31::blk b1 [I64 (nd),va] 111::I) (fun s=>(s.1≤xs.length)∧(s.2.2=decide (kd=2∧0<s.1))∧(¬(kd=2∧0<s.1)→s.2.1=0)∧(kd=2∧0<s.1→∃x∈xs,s.2.1=x.tm+wd)∧(kd=2→∀j,j<s.1→s.2.1≤(at_ xs (j:Int)).tm+wd)) (fun s=>xs.length - s.1) (0,0,false) (show ((0:Nat)≤xs.length)∧((false:Bool)=decide (kd=2∧0<(0:Nat)))∧(¬(kd=2∧0<(0:Nat))→(0:Int)=0)∧(kd=2∧0<(0:Nat)→∃x∈xs,(0:Int)=x.tm+wd)∧(kd=2→∀j,j<(0:Nat)→(0:Int)≤(at_ xs (j:Int)).tm+wd) from ⟨om,(decide_eq_false (fun h=>absurd h.2 om)).symm,(fun _=>rfl),(fun h=>absurd h.2 om),(fun _ j hj=>absurd hj om)⟩) (Ab rfl (Ab Ca (Ab (Db rfl (by first|rfl|simp)) (Ab rfl (Ab rfl (Ab Ca Bp)))))) (show Fit κ _ (blk b2 [I64 (kd),I64 (wd),I64 (mo)] 31::blk b1 [I64 (nd),va] 111::I) from A4) ?_))))
   rintro ⟨k,z,q⟩ hp
   dsimp only at hp ⊢
   obtain ⟨hk,hq,hz0,hz1,hz2⟩:=hp
   refine Ah (Gr (A8 rfl rfl) (Af (Av (A6 rfl (fun c28=>?_) (fun c28=>?_)))))
   ·refine Az (Ai (Av (A5 (Ah (Gr (Ba (α:=Lk) (xs:=xs) Ap ty146 rfl rfl (Bl hl) om om) (Gr (Bs (α:=Lk) (xs:=xs) ty146 rfl (Bl hl) om om) (Ge1 (Ax ty146 rfl) fun b3=>Ge0 (Dw ty146) ?_)))))))
    have htk:=checkS_tm (Classical.not_not.1 c22) (k:Int) om om
    have hwk:=checkW_wd (Classical.not_not.1 c17)
    refine Af (Ah (Gf fld146_5 rfl (Gl ty3 ?_)))
    refine Gf fld31_1 rfl (Gl ty3 ?_)
    refine Gr (Rad rfl rfl) (Ga rfl (Af (Ar (S7 13 3 9 10 25 26 27 rfl rfl rfl rfl rfl rfl rfl) (Ah (Gf fld31_0 rfl (Gl ty3 ?_))))))
    refine Gr (Bi rfl rfl) (Gm rfl (A7 (d:=39) rfl (fun g39=>?_) (fun g39=>?_)))
    ·refine Gro (Ac rfl) (Gro (Ck rfl) (Gro (Ac rfl) (Eh (d:=42) rfl (fun g42=>?_) (fun g42=>?_))))
     ·exact Gpo (Gpo (Gpo (Gro (Ao rfl rfl) (Gr (Ao rfl rfl) (Af (Ar (S8 47 13 3 9 10 25 26 27 rfl rfl rfl rfl rfl rfl rfl rfl) (B6 rfl (A2 (Gm rfl (Ga rfl (Ga rfl (Be (Al (Ai (A2 (Gr (Rad rfl rfl) (Gm rfl (Be (B0 ((k+1),(((at_ xs (k:Int)).tm)+wd),(true)) (by dsimp only;exact ⟨om,(by first|exact (decide_eq_true om).symm|(rw [hq,decide_eq_decide];omega)|(rw [hq,decide_eq_decide];have hP:=qnot_f g42 hq;omega)),(fun h=>by first|omega|exact hz0 om),(fun h=>by first|exact ⟨_,Cf (i:=(k:Int)) om om,rfl⟩|exact hz1 om|(have hP:=qnot_f g42 hq;exact hz1 hP)),(fun hk2=>by first|omega|exact Du (fun j hj=>by first|(have hP:=qnot_t g42 hq;omega)|(have h5:=hz2 hk2 j hj;omega)) (Int.le_refl _)|exact Du (hz2 hk2) om)⟩))))))))))))))))))))
     ·refine Gro (Ac rfl) (Gro (Ac rfl) (Gro (A8 rfl rfl) (Gro (Ak rfl rfl) (Gr (Ao rfl rfl) (Af (Ar (S8 47 13 3 9 10 25 26 27 rfl rfl rfl rfl rfl rfl rfl rfl) (A6 rfl (fun c47=>?_) (fun c47=>?_))))))))
      ·exact A2 (Gm rfl (Ga rfl (Ga rfl (Be (Al (Ai (A2 (Gr (Rad rfl rfl) (Gm rfl (Be (B0 ((k+1),(((at_ xs (k:Int)).tm)+wd),(true)) (by dsimp only;exact ⟨om,(by first|exact (decide_eq_true om).symm|(rw [hq,decide_eq_decide];omega)|(rw [hq,decide_eq_decide];have hP:=qnot_f g42 hq;omega)),(fun h=>by first|omega|exact hz0 om),(fun h=>by first|exact ⟨_,Cf (i:=(k:Int)) om om,rfl⟩|exact hz1 om|(have hP:=qnot_f g42 hq;exact hz1 hP)),(fun hk2=>by first|omega|exact Du (fun j hj=>by first|(have hP:=qnot_t g42 hq;omega)|(have h5:=hz2 hk2 j hj;omega)) (Int.le_refl _)|exact Du (hz2 hk2) om)⟩))))))))))))
      ·exact Az (Al (Ai (A2 (Gr (Rad rfl rfl) (Gm rfl (Be (B0 ((k+1),(z),(q)) (by dsimp only;exact ⟨om,(by first|exact (decide_eq_true om).symm|(rw [hq,decide_eq_decide];omega)|(rw [hq,decide_eq_decide];have hP:=qnot_f g42 hq;omega)),(fun h=>by first|omega|exact hz0 om),(fun h=>by first|exact ⟨_,Cf (i:=(k:Int)) om om,rfl⟩|exact hz1 om|(have hP:=qnot_f g42 hq;exact hz1 hP)),(fun hk2=>by first|omega|exact Du (fun j hj=>by first|(have hP:=qnot_t g42 hq;omega)|(have h5:=hz2 hk2 j hj;omega)) (Int.le_refl _)|exact Du (hz2 hk2) om)⟩))))))))
    ·exact Gpo (Gpo (Gpo (Gpu (Gpu (Gpu (Gpo (Gr (Ak rfl rfl) (Af (Ar (S8 47 13 3 9 10 25 26 27 rfl rfl rfl rfl rfl rfl rfl rfl) (Cw rfl (Az (Al (Ai (A2 (Gr (Rad rfl rfl) (Gm rfl (Be (B0 ((k+1),(z),(q)) (by dsimp only;exact ⟨om,(by first|exact (decide_eq_true om).symm|(rw [hq,decide_eq_decide];omega)|(rw [hq,decide_eq_decide];have hP:=qnot_f g42 hq;omega)),(fun h=>by first|omega|exact hz0 om),(fun h=>by first|exact ⟨_,Cf (i:=(k:Int)) om om,rfl⟩|exact hz1 om|(have hP:=qnot_f g42 hq;exact hz1 hP)),(fun hk2=>by first|omega|exact Du (fun j hj=>by first|(have hP:=qnot_t g42 hq;omega)|(have h5:=hz2 hk2 j hj;omega)) (Int.le_refl _)|exact Du (hz2 hk2) om)⟩)))))))))))))))))))
   ·refine Bt (Aq (Aq (A9 (Ai (Ah (Gm rfl (Gm rfl (Ga rfl (Ga rfl (Ga rfl (Af (Ay ?_))))))))))))
    have hu:uErr nd xs kd wd mo=0:=uErr_zero c17 c22
    have hc:untilC nd xs kd wd mo↔(kd=2∧0<k):=⟨fun h=>⟨h.2.1,by have:=List.length_pos_iff.2 h.2.2;omega⟩,fun h=>⟨hu,h.1,List.length_pos_iff.1 om⟩⟩
    exact V.ret3 rfl rfl rfl rfl (I) A1 ⟨z,by rw [hq,show decide (untilC nd xs kd wd mo)=decide (kd=2∧0<k) from decide_eq_decide.2 hc,hu],⟨fun h=>⟨hz1 (hc.1 h),fun y hy=>by obtain ⟨j,hj,rfl⟩:=mem_at hy;exact hz2 (hc.1 h).1 j om⟩,fun h=>hz0 (fun h2=>h (hc.2 h2))⟩,rfl⟩
theorem agedL_step{kd wd mo T z:Int}{ys:List Lk}{zs:List Ev}(hk:kd=2)(h:0<ys.length∧minT ys+wd≤T)(hz:z=minT ys+wd):agedL kd wd mo T (ys,zs)=agedL kd wd mo T (ys.filter (inW kd wd mo z ys),zs++goneL kd wd mo z ys):=by
 subst hk hz
 unfold agedL
 rw [if_pos rfl,if_pos rfl]
 exact ageL_step h
theorem agedL_stop{kd wd mo T:Int}{ys:List Lk}{zs:List Ev}(h:kd=2→¬(0<ys.length∧minT ys+wd≤T)):agedL kd wd mo T (ys,zs)=(ys,zs):=by
 unfold agedL
 by_cases hk:kd=2
 ·rw [if_pos hk];exact ageL_stop (h hk)
 ·rw [if_neg hk]
theorem aged_less{kd wd mo z:Int}{ys:List Lk}(hk:kd=2)(h:0<ys.length)(hz:z=minT ys+wd):(ys.filter (inW kd wd mo z ys)).length<ys.length:=by
 subst hk hz
 exact age_less (wd:=wd) (mo:=mo) h
theorem streamE_zero{nd:Int}{es:List Ev}(h1:¬(nd<0∨64<nd))(h2:¬65536<es.length):streamE nd es=streamS nd 0 es:=by unfold streamE;rw [if_neg h1,if_neg h2]
theorem fitE_of{nd:Int}{e:Ev}(h1:¬checkE e≠0)(h2:¬(nd≤e.u∨nd≤e.v)):fitE nd e=0:=by unfold fitE;rw [if_neg h1,if_neg h2]
theorem fitE_six{nd:Int}{e:Ev}(h1:¬checkE e≠0)(h2:nd≤e.u∨nd≤e.v):fitE nd e=6:=by unfold fitE;rw [if_neg h1,if_pos h2]
theorem fitE_bad{nd:Int}{e:Ev}(h1:checkE e≠0):fitE nd e=checkE e:=by unfold fitE;rw [if_pos h1]
theorem ref_to{nd:Int}{es:List Ev}{k:Nat}(hf:FitOk nd (at_ es (k:Int)))(h:0<k→¬(at_ es (k:Int)).tm<(at_ es ((k:Int) - 1)).tm):lastT es k≤(at_ es (k:Int)).tm:=by
 unfold lastT
 split
 ·exact hf.tm.1
 ·have:=h om;omega
theorem lastT_pos{es:List Ev}{k:Nat}(h:0<k):lastT es k=(at_ es ((k:Int) - 1)).tm:=by unfold lastT;rw [if_neg om]
set_option maxHeartbeats 4000000 in
theorem Slide7_ok{κ:Ctx}{I:List Item}{nd kd wd mo:Int}{va:Value}{es:List Ev}(hl:Sl κ I va es) :
    CallS Tryz.prog κ 93 [I64 (nd),va,.agg #[I64 (kd),I64 (wd),I64 (mo)]] I (fun r J=>((slideE nd kd wd mo es)≠0∧r = .tuple #[.slice none 0 0,I64 (slideE nd kd wd mo es)]∧I=J)∨(∃a c,(slideE nd kd wd mo es)=0∧r = .tuple #[.slice a (slideS kd wd mo es).2.length c,I64 0]∧J=vc 108 (.slice a (slideS kd wd mo es).2.length c) (slideS kd wd mo es).2::I)):=by
 refine B4 hl.le fun hmax=>?_
 refine Ce3 Tryz.func93 rfl rfl ?_
 refine Ah (Ge1 (Bb (cs:=[_,_,_]) rfl rfl rfl) fun b1=>Ga rfl (Ga rfl (Af (Av (Ah (Gl3 ty31 ?_))))))
 refine Gc0 (Aj call85 rfl rfl (CheckW7_ok kd wd mo)) ?_
 refine Ga rfl (Af (Ah (Gm rfl (Gr (Bh rfl rfl) (Af (A6 rfl (fun c24=>?_) (fun c24=>?_)))))))
 ·refine Ah (Gm rfl (Ga rfl (Ga rfl (Af (Ar (S2 7 6 rfl rfl) (Ay (Ad ?_)))))))
  have hz:(slideE nd kd wd mo es)=checkW kd wd mo:=by unfold slideE;rw [if_pos c24]
  exact Ct rfl rfl rfl (I) A1 (.inl ⟨by rw [hz];exact c24,by rw [hz],rfl⟩)
 ·refine Az (Ai (Av (Ah (Gm rfl (Gr (A8 rfl rfl) (Gm rfl (A7 (d:=28) rfl (fun g28=>?_) (fun g28=>?_))))))))
  ·refine Gpo (Gpo (Gr (Ao rfl rfl) (Af (Ar (S4 31 5 0 1 rfl rfl rfl rfl) (B6 rfl (Ah (Ga rfl (Ga rfl (Af (Ay (Ad ?_)))))))))))
   have hz:(slideE nd kd wd mo es)=1:=(slideE_st c24).trans (by unfold streamE;rw [if_pos om])
   exact Ct rfl rfl rfl (I) A1 (.inl ⟨by rw [hz];decide,by rw [hz],rfl⟩)
  ·refine Gro (Ac rfl) (Gro (Br rfl rfl) (Gr (Ak rfl rfl) (Af (Ar (S4 31 5 0 1 rfl rfl rfl rfl) (A6 rfl (fun c31=>?_) (fun c31=>?_))))))
   ·refine Ah (Ga rfl (Ga rfl (Af (Ay (Ad ?_)))))
    have hz:(slideE nd kd wd mo es)=1:=(slideE_st c24).trans (by unfold streamE;rw [if_pos om])
    exact Ct rfl rfl rfl (I) A1 (.inl ⟨by rw [hz];decide,by rw [hz],rfl⟩)
   ·refine Az (Ai (Av (Ah (Gm rfl (Gr (Bu (α:=Ev) (xs:=es) Aw rfl (Bl hl)) (Gr (Br rfl rfl) (Af (A6 rfl (fun c34=>?_) (fun c34=>?_)))))))))
    ·refine Ah (Ga rfl (Ga rfl (Af (Ay (Ad ?_)))))
     have hz:(slideE nd kd wd mo es)=3:=(slideE_st c24).trans (by unfold streamE;rw [if_neg om,if_pos om])
     exact Ct rfl rfl rfl (I) A1 (.inl ⟨by rw [hz];decide,by rw [hz],rfl⟩)
    ·refine Az (Ai (Ah (Gm rfl (Gr (Bc (cells:=[_,_]) ty111 Dp pl111 rfl rfl) (Ge1 (Ax ty111 rfl) fun b2=>Ge0 (Bj ty111) ?_)))))
     refine Af (Ah (Ga rfl (Af (Av (Ah (Gm rfl (Gr (Bu (α:=Ev) (xs:=es) Aw rfl (Bl hl)) (Gm rfl (Af (Ar (S8 39 38 37 10 9 5 0 1 rfl rfl rfl rfl rfl rfl rfl rfl) (A5 (Bv (σ:=Nat×(Option Addr)×Nat×(Option Addr)×Nat×(List Lk)×(List Ev)) (fun s=>([(0,I64 (nd)),(1,va),(5,.pointer (some ⟨b1,0,none⟩)),(9,.pointer (some ⟨b2,0,none⟩)),(10,.slice s.2.2.2.1 s.2.2.2.2.2.2.length s.2.2.2.2.1),(37,va),(38,I64 (((es.length:Nat):Int))),(39,I64 (((s.1:Nat):Int)))]:Env)) (fun s=>blk b2 [I64 (nd),.slice s.2.1 s.2.2.2.2.2.1.length s.2.2.1] 111::vc 146 (.slice s.2.1 s.2.2.2.2.2.1.length s.2.2.1) (s.2.2.2.2.2.1)::vc 108 (.slice s.2.2.2.1 s.2.2.2.2.2.2.length s.2.2.2.2.1) (s.2.2.2.2.2.2)::blk b1 [I64 (kd),I64 (wd),I64 (mo)] 31::I) (fun s=>(s.1≤es.length)∧(slideS kd wd mo (List.take s.1 es)=(s.2.2.2.2.2.1,s.2.2.2.2.2.2))∧(SlI nd kd wd (lastT es s.1) s.2.2.2.2.2.1)∧(s.2.2.2.2.2.1.length+s.2.2.2.2.2.2.length≤2*s.1)∧(streamE nd es=streamS nd (lastT es s.1) (es.drop s.1))∧(0≤lastT es s.1)) (fun s=>es.length - s.1) (0,none,0,none,0,[],[]) (show ((0:Nat)≤es.length)∧(slideS kd wd mo (List.take (0:Nat) es)=(([]:List Lk),([]:List Ev)))∧(SlI nd kd wd (lastT es (0:Nat)) ([]:List Lk))∧(([]:List Lk).length+([]:List Ev).length≤2*(0:Nat))∧(streamE nd es=streamS nd (lastT es (0:Nat)) (es.drop (0:Nat)))∧(0≤lastT es (0:Nat)) from ⟨om,rfl,(SlI.nil om),(by simp),(streamE_zero om om),(Int.le_refl _)⟩) (Ab rfl (Ab rfl (Ab rfl (Ab rfl (Ab (Db rfl (by first|rfl|simp)) (Ab rfl (Ab rfl (Ab Ca Bp)))))))) (show Fit κ _ (blk b2 [I64 (nd),.slice (none) ([]).length (0)] 111::vc 146 (.slice (none) ([]).length (0)) (([]))::vc 108 (.slice (none) ([]).length (0)) (([]))::blk b1 [I64 (kd),I64 (wd),I64 (mo)] 31::I) from (Cp (Bw 108 _) (Cp (Bw 146 _) Bz))) ?_))))))))))))
     rintro ⟨k,a1,c1,o1,d1,xs,out⟩ hp
     dsimp only at hp ⊢
     obtain ⟨hk,hst,hI,hs,hs0,hl0⟩:=hp
     refine Ah (Gr (A8 rfl rfl) (Af (Av (A6 rfl (fun c40=>?_) (fun c40=>?_)))))
     ·refine Az (Ai (Av (A5 (Ah (Gm rfl (Gr (Ba (α:=Ev) (xs:=es) Aw ty108 rfl rfl (Bl hl) om om) (Gr (Bs (α:=Ev) (xs:=es) ty108 rfl (Bl hl) om om) (Ge1 (Ax ty108 rfl) fun b3=>Ga rfl (Ge0 (Es7_7 ty108) ?_)))))))))
      refine Af (Ar (S10 11 12 0 1 5 9 10 37 38 39 rfl rfl rfl rfl rfl rfl rfl rfl rfl rfl) (Av (Ah (Gl7 ty108 ?_))))
      refine Gc0 (Aj call155 rfl rfl (CheckE4_ok (at_ es (k:Int)))) ?_
      refine Ga rfl (Af (Ah (Gm rfl (Gr (Bh rfl rfl) (Af (Ar (S12 47 13 11 12 0 1 5 9 10 37 38 39 rfl rfl rfl rfl rfl rfl rfl rfl rfl rfl rfl rfl) (A6 rfl (fun c47=>?_) (fun c47=>?_))))))))
      ·refine Ah (Gm rfl (Ga rfl (Ga rfl (Af (Ar (S2 7 6 rfl rfl) (Ay (Ad (Au (Ad (Ad (Au (Ad ?_))))))))))))
       have hz:(slideE nd kd wd mo es)=checkE (at_ es (k:Int)):=(slideE_st c24).trans (hs0.trans ((streamS_bad om (by rw [fitE_bad c47];exact c47)).trans (fitE_bad c47)))
       exact Ct rfl rfl rfl (I) A1 (.inl ⟨by rw [hz];exact c47,by rw [hz],rfl⟩)
      ·refine Az (Ai (Av (Ah (Gf fld108_2 rfl (Gl ty3 ?_)))))
       refine Gm rfl (Gr (B5 rfl rfl) (Gm rfl (A7 (d:=53) rfl (fun g53=>?_) (fun g53=>?_))))
       ·refine Gpo (Gpo (Gpo (Gpo (Gr (Ao rfl rfl) (Af (Ar (S11 58 11 12 0 1 5 9 10 37 38 39 rfl rfl rfl rfl rfl rfl rfl rfl rfl rfl rfl) (B6 rfl (Ah (Ga rfl (Ga rfl (Af (Ay (Ad (Au (Ad (Ad (Au (Ad ?_))))))))))))))))))
        have hz:(slideE nd kd wd mo es)=6:=(slideE_st c24).trans (hs0.trans ((streamS_bad om (by rw [fitE_six c47 om];decide)).trans (fitE_six c47 om)))
        exact Ct rfl rfl rfl (I) A1 (.inl ⟨by rw [hz];decide,by rw [hz],rfl⟩)
       ·refine Gro (Aa fld108_3 rfl) (Gro (As ty3) ?_)
        refine Gro (Ac rfl) (Gro (B5 rfl rfl) (Gr (Ak rfl rfl) (Af (Ar (S11 58 11 12 0 1 5 9 10 37 38 39 rfl rfl rfl rfl rfl rfl rfl rfl rfl rfl rfl) (A6 rfl (fun c58=>?_) (fun c58=>?_))))))
        ·refine Ah (Ga rfl (Ga rfl (Af (Ay (Ad (Au (Ad (Ad (Au (Ad ?_))))))))))
         have hz:(slideE nd kd wd mo es)=6:=(slideE_st c24).trans (hs0.trans ((streamS_bad om (by rw [fitE_six c47 om];decide)).trans (fitE_six c47 om)))
         exact Ct rfl rfl rfl (I) A1 (.inl ⟨by rw [hz];decide,by rw [hz],rfl⟩)
        ·refine Az (Ai (Ek (σ:=Nat) (fun s=>([(0,I64 (nd)),(1,va),(5,.pointer (some ⟨b1,0,none⟩)),(9,.pointer (some ⟨b2,0,none⟩)),(10,.slice o1 out.length d1),(12,.pointer (some ⟨b3,0,none⟩)),(37,va),(38,I64 (((es.length:Nat):Int))),(39,I64 ((k:Int)))]:Env)) (fun s=>blk b3 [I64 ((at_ es (k:Int)).kd),I64 ((at_ es (k:Int)).tm),I64 ((at_ es (k:Int)).u),I64 ((at_ es (k:Int)).v),I64 ((at_ es (k:Int)).w),I64 ((at_ es (k:Int)).lb),I64 ((at_ es (k:Int)).sg)] 108::blk b2 [I64 (nd),.slice a1 xs.length c1] 111::vc 146 (.slice a1 xs.length c1) (xs)::vc 108 (.slice o1 out.length d1) (out)::blk b1 [I64 (kd),I64 (wd),I64 (mo)] 31::I) (fun s=>(lastT es k≤(at_ es (k:Int)).tm)∧(FitOk nd (at_ es (k:Int)))) ?_ ?_))
         ·refine Av (Bk mixed (Bq (blk b3 [I64 ((at_ es (k:Int)).kd),I64 ((at_ es (k:Int)).tm),I64 ((at_ es (k:Int)).u),I64 ((at_ es (k:Int)).v),I64 ((at_ es (k:Int)).w),I64 ((at_ es (k:Int)).lb),I64 ((at_ es (k:Int)).sg)] 108::blk b2 [I64 (nd),.slice a1 xs.length c1] 111::vc 146 (.slice a1 xs.length c1) (xs)::vc 108 (.slice o1 out.length d1) (out)::blk b1 [I64 (kd),I64 (wd),I64 (mo)] 31::I) 13 (Dr 0 rfl (Ac rfl) (Dr 1 rfl (Br rfl rfl) (Dr 2 rfl (Ac rfl) (Dt (d:=61) rfl (fun g61=>?_) (fun g61=>?_)))))))
          ·refine Dro 3 rfl (Ac rfl) (Dro 4 rfl (Ac rfl) (Dro 5 rfl (Rsu rfl rfl) (Dro 6 rfl (Ba (α:=Ev) (xs:=es) Aw ty108 rfl rfl (Bl hl) om om) (Dro 7 rfl (C8 (α:=Ev) (xs:=es) fld108_1 rfl (Bl hl) om) (Dro 8 rfl (De (α:=Ev) (xs:=es) (u:=I64 ((at_ es ((k:Int) - 1)).tm)) ty3 rfl (Bl hl) om om rfl) (Dro 9 rfl (Aa fld108_1 rfl) (Dro 10 rfl (As ty3) ?_)))))))
           refine Dro 11 rfl (Br rfl rfl) (Dr 12 rfl (Ao rfl rfl) (Dz (Ai (Ar (S10 71 12 0 1 5 9 10 37 38 39 rfl rfl rfl rfl rfl rfl rfl rfl rfl rfl) (A6 rfl (fun c71=>?_) (fun c71=>?_))))))
           ·refine Ah (Ga rfl (Ga rfl (Af (Ay (Ad (Au (Ad (Ad (Au (Ad ?_))))))))))
            have hz:(slideE nd kd wd mo es)=9:=(slideE_st c24).trans (hs0.trans (streamS_late om (fitE_of c47 om) (by rw [lastT_pos om];omega)))
            exact Ct rfl rfl rfl (I) A1 (.inl ⟨by rw [hz];decide,by rw [hz],rfl⟩)
           ·exact Az (Cl ((0)) ⟨(ref_to (nd:=nd) (fitE_ok.1 (fitE_of c47 om)) (fun hk0=>by omega)),(fitE_ok.1 (fitE_of c47 om))⟩ (hI:=by (try dsimp only);exact (C9 _)))
          ·exact Dpo 3 rfl (Dpo 4 rfl (Dpo 5 rfl (Dpo 6 rfl (Dpo 7 rfl (Dpo 8 rfl (Dpo 9 rfl (Dpo 10 rfl (Dpo 11 rfl (Dr 12 rfl (Ak rfl rfl) (Dz (Ai (Ar (S10 71 12 0 1 5 9 10 37 38 39 rfl rfl rfl rfl rfl rfl rfl rfl rfl rfl) (Cw rfl (Az (Cl ((0)) ⟨(ref_to (nd:=nd) (fitE_ok.1 (fitE_of c47 om)) (fun hk0=>by omega)),(fitE_ok.1 (fitE_of c47 om))⟩ (hI:=by (try dsimp only);exact (C9 _)))))))))))))))))
         ·rintro u0 hp
          obtain ⟨hto,hfe⟩:(lastT es k≤(at_ es (k:Int)).tm)∧(FitOk nd (at_ es (k:Int))):=hp
          show W Tryz.prog κ 138 _ _ ([(0,I64 (nd)),(1,va),(5,.pointer (some ⟨b1,0,none⟩)),(9,.pointer (some ⟨b2,0,none⟩)),(10,.slice o1 out.length d1),(12,.pointer (some ⟨b3,0,none⟩)),(37,va),(38,I64 (((es.length:Nat):Int))),(39,I64 ((k:Int)))]:Env) (blk b3 [I64 ((at_ es (k:Int)).kd),I64 ((at_ es (k:Int)).tm),I64 ((at_ es (k:Int)).u),I64 ((at_ es (k:Int)).v),I64 ((at_ es (k:Int)).w),I64 ((at_ es (k:Int)).lb),I64 ((at_ es (k:Int)).sg)] 108::blk b2 [I64 (nd),.slice a1 xs.length c1] 111::vc 146 (.slice a1 xs.length c1) (xs)::vc 108 (.slice o1 out.length d1) (out)::blk b1 [I64 (kd),I64 (wd),I64 (mo)] 31::I)
          refine Ek (σ:=(Option Addr)×Nat×(Option Addr)×Nat×(List Lk)×(List Ev)) (fun s=>([(0,I64 (nd)),(1,va),(5,.pointer (some ⟨b1,0,none⟩)),(9,.pointer (some ⟨b2,0,none⟩)),(10,.slice s.2.2.1 s.2.2.2.2.2.length s.2.2.2.1),(12,.pointer (some ⟨b3,0,none⟩)),(37,va),(38,I64 (((es.length:Nat):Int))),(39,I64 ((k:Int)))]:Env)) (fun s=>blk b2 [I64 (nd),.slice s.1 s.2.2.2.2.1.length s.2.1] 111::vc 146 (.slice s.1 s.2.2.2.2.1.length s.2.1) (s.2.2.2.2.1)::vc 108 (.slice s.2.2.1 s.2.2.2.2.2.length s.2.2.2.1) (s.2.2.2.2.2)::blk b1 [I64 (kd),I64 (wd),I64 (mo)] 31::blk b3 [I64 ((at_ es (k:Int)).kd),I64 ((at_ es (k:Int)).tm),I64 ((at_ es (k:Int)).u),I64 ((at_ es (k:Int)).v),I64 ((at_ es (k:Int)).w),I64 ((at_ es (k:Int)).lb),I64 ((at_ es (k:Int)).sg)] 108::I) (fun s=>((agedL kd wd mo (at_ es (k:Int)).tm (xs,out))=(s.2.2.2.2.1,s.2.2.2.2.2))∧(SlI nd kd wd (at_ es (k:Int)).tm s.2.2.2.2.1)∧(s.2.2.2.2.1.length+s.2.2.2.2.2.length=xs.length+out.length)) ?_ ?_
          ·refine A5 (Bv (σ:=(Option Addr)×Nat×(Option Addr)×Nat×(List Lk)×(List Ev)) (fun s=>([(0,I64 (nd)),(1,va),(5,.pointer (some ⟨b1,0,none⟩)),(9,.pointer (some ⟨b2,0,none⟩)),(10,.slice s.2.2.1 s.2.2.2.2.2.length s.2.2.2.1),(12,.pointer (some ⟨b3,0,none⟩)),(37,va),(38,I64 (((es.length:Nat):Int))),(39,I64 ((k:Int)))]:Env)) (fun s=>blk b2 [I64 (nd),.slice s.1 s.2.2.2.2.1.length s.2.1] 111::vc 146 (.slice s.1 s.2.2.2.2.1.length s.2.1) (s.2.2.2.2.1)::vc 108 (.slice s.2.2.1 s.2.2.2.2.2.length s.2.2.2.1) (s.2.2.2.2.2)::blk b1 [I64 (kd),I64 (wd),I64 (mo)] 31::blk b3 [I64 ((at_ es (k:Int)).kd),I64 ((at_ es (k:Int)).tm),I64 ((at_ es (k:Int)).u),I64 ((at_ es (k:Int)).v),I64 ((at_ es (k:Int)).w),I64 ((at_ es (k:Int)).lb),I64 ((at_ es (k:Int)).sg)] 108::I) (fun s=>((agedL kd wd mo (at_ es (k:Int)).tm (xs,out))=agedL kd wd mo (at_ es (k:Int)).tm (s.2.2.2.2.1,s.2.2.2.2.2))∧(SlI nd kd wd (lastT es k) s.2.2.2.2.1)∧(s.2.2.2.2.1.length+s.2.2.2.2.2.length=xs.length+out.length)) (fun s=>s.2.2.2.2.1.length) (a1,c1,o1,d1,xs,out) (show ((agedL kd wd mo (at_ es (k:Int)).tm (xs,out))=agedL kd wd mo (at_ es (k:Int)).tm ((xs:List Lk),(out:List Ev)))∧(SlI nd kd wd (lastT es k) (xs:List Lk))∧((xs:List Lk).length+(out:List Ev).length=xs.length+out.length) from ⟨rfl,hI,rfl⟩) (Ab rfl (Ab rfl (Ab rfl (Ab rfl (Ab (Db rfl (by first|rfl|simp)) (Ab rfl (Ab rfl (Ab rfl (Ab rfl Bp))))))))) (show Fit κ _ (blk b2 [I64 (nd),.slice (a1) (xs).length (c1)] 111::vc 146 (.slice (a1) (xs).length (c1)) ((xs))::vc 108 (.slice (o1) (out).length (d1)) ((out))::blk b1 [I64 (kd),I64 (wd),I64 (mo)] 31::blk b3 [I64 ((at_ es (k:Int)).kd),I64 ((at_ es (k:Int)).tm),I64 ((at_ es (k:Int)).u),I64 ((at_ es (k:Int)).v),I64 ((at_ es (k:Int)).w),I64 ((at_ es (k:Int)).lb),I64 ((at_ es (k:Int)).sg)] 108::I) from Bz) ?_)
           rintro ⟨a3,c3,o3,d3,us,vs⟩ hp
           dsimp only at hp ⊢
           obtain ⟨hag0,hJ,hs3⟩:=hp
           refine A5 (Ah (Gl2 ty111 ?_))
           refine Gl3 ty31 ?_
           refine G.e (Aj call160 rfl rfl (Until7_ok (nd:=nd) (kd:=kd) (wd:=wd) (mo:=mo) Bo)) ?_
           rintro _ _ ⟨_,_,⟨zu4,rfl,huzu4,rfl⟩,rfl,rfl⟩
           refine Gm rfl (Gr (A3 rfl rfl) (Gr (A3 rfl rfl) (Gr (A3 rfl rfl) (Ga rfl (Ga rfl (Ga rfl (Af (Ar (S11 15 14 0 1 5 9 10 12 37 38 39 rfl rfl rfl rfl rfl rfl rfl rfl rfl rfl rfl) (Av (Ah (Gm rfl (Gr (Cd rfl) (Gm rfl (A7 (d:=81) rfl (fun g81=>?_) (fun g81=>?_)))))))))))))))
           ·refine Gpo (Gpo (Gpo (Gpo (Gr (Ao rfl rfl) (Af (Ar (S11 86 14 0 1 5 9 10 12 37 38 39 rfl rfl rfl rfl rfl rfl rfl rfl rfl rfl rfl) (B6 rfl (Bt (Aq (Dk rfl (Aq (A9 ?_))))))))))))
            have hstop:kd=2→¬(0<us.length∧minT us+wd≤(at_ es (k:Int)).tm):=fun hk2 h=>by have hc:untilC nd us kd wd mo:=⟨uErr_zero c24 (fun h=>h hJ.val),hk2,List.length_pos_iff.1 h.1⟩;first|exact absurd hc g81|(have hz:=minT_uniq (huzu4.yes hc);omega)
            exact Cl ((a3),(c3),(o3),(d3),(us),(vs)) (by dsimp only;exact ⟨(hag0.trans (agedL_stop hstop)),(hJ.later hto hstop),hs3⟩)
           ·refine Gro (Ac rfl) (Gro (Aa fld108_1 rfl) (Gro (As ty3) ?_))
            refine Gro (Br rfl rfl) (Gr (Ak rfl rfl) (Af (Ar (S11 86 14 0 1 5 9 10 12 37 38 39 rfl rfl rfl rfl rfl rfl rfl rfl rfl rfl rfl) (A6 rfl (fun c86=>?_) (fun c86=>?_)))))
            ·refine Bt (Aq (Dk rfl (Aq (A9 ?_))))
             have hstop:kd=2→¬(0<us.length∧minT us+wd≤(at_ es (k:Int)).tm):=fun hk2 h=>by have hc:untilC nd us kd wd mo:=⟨uErr_zero c24 (fun h=>h hJ.val),hk2,List.length_pos_iff.1 h.1⟩;first|exact absurd hc g81|(have hz:=minT_uniq (huzu4.yes hc);omega)
             exact Cl ((a3),(c3),(o3),(d3),(us),(vs)) (by dsimp only;exact ⟨(hag0.trans (agedL_stop hstop)),(hJ.later hto hstop),hs3⟩)
            ·refine Az (Ai (Ah (Gl2 ty111 ?_)))
             refine Gl3 ty31 ?_
             refine Gm rfl ?_
             have hfm:=hfe.tm
             have hc:untilC nd us kd wd mo:=by first|exact Classical.not_not.1 g81|assumption
             have hpos:0<us.length:=List.length_pos_iff.2 hc.2.2
             have hz:zu4=minT us+wd:=minT_uniq (huzu4.yes hc)
             have hfz:=hJ.first hc.2.1 hpos
             have hask:askE nd us kd wd mo zu4=0:=hJ.ask (Classical.not_not.1 c24) om om
             have hglz:=gone_len kd wd mo zu4 us
             refine G.e (Aj call161 rfl rfl (Expired7_ok (nd:=nd) (kd:=kd) (wd:=wd) (mo:=mo) (nw:=zu4) (xs:=us) Bo (by first|omega|(have h:=stepL_len ys (at_ es (k:Int));omega)))) ?_
             rintro _ _ ⟨_,_,(⟨hnead5,rfl,rfl⟩|⟨ad5,cp6,hzad5,rfl,rfl⟩),rfl,rfl⟩
             ·exact absurd hask hnead5
             ·show G Tryz.prog κ _ _ _ _ ([(91,.tuple #[.slice ad5 (goneL kd wd mo zu4 us).length cp6,I64 (0)]),(90,I64 (zu4)),(89,.agg #[I64 (kd),I64 (wd),I64 (mo)]),(88,.agg #[I64 (nd),.slice a3 us.length c3]),(86,.bool (decide (((at_ es (k:Int)).tm)<zu4))),(14,I64 (zu4)),(0,I64 (nd)),(1,va),(5,.pointer (some ⟨b1,0,none⟩)),(9,.pointer (some ⟨b2,0,none⟩)),(10,.slice o3 vs.length d3),(12,.pointer (some ⟨b3,0,none⟩)),(37,va),(38,I64 (((es.length:Nat):Int))),(39,I64 ((k:Int)))]:Env) (vc 108 (.slice ad5 (goneL kd wd mo zu4 us).length cp6) (goneL kd wd mo zu4 us)::blk b2 [I64 (nd),.slice a3 us.length c3] 111::vc 146 (.slice a3 us.length c3) (us)::vc 108 (.slice o3 vs.length d3) (vs)::blk b1 [I64 (kd),I64 (wd),I64 (mo)] 31::blk b3 [I64 ((at_ es (k:Int)).kd),I64 ((at_ es (k:Int)).tm),I64 ((at_ es (k:Int)).u),I64 ((at_ es (k:Int)).v),I64 ((at_ es (k:Int)).w),I64 ((at_ es (k:Int)).lb),I64 ((at_ es (k:Int)).sg)] 108::I)
              refine Gm rfl (Gr (A3 rfl rfl) (Gr (A3 rfl rfl) (Ga rfl (Ga rfl (Af (Ar (S10 17 0 1 5 9 10 12 37 38 39 rfl rfl rfl rfl rfl rfl rfl rfl rfl rfl) (Ah (Gl2 ty111 ?_))))))))
              refine Gm rfl (G.e (Aj call162 rfl rfl (Cq (J:=vc 146 (.slice a3 us.length c3) (us)::vc 108 (.slice ad5 (goneL kd wd mo zu4 us).length cp6) (goneL kd wd mo zu4 us)::blk b2 [I64 (nd),.slice a3 us.length c3] 111::vc 108 (.slice o3 vs.length d3) (vs)::blk b1 [I64 (kd),I64 (wd),I64 (mo)] 31::blk b3 [I64 ((at_ es (k:Int)).kd),I64 ((at_ es (k:Int)).tm),I64 ((at_ es (k:Int)).u),I64 ((at_ es (k:Int)).v),I64 ((at_ es (k:Int)).w),I64 ((at_ es (k:Int)).lb),I64 ((at_ es (k:Int)).sg)] 108::I) Bz (All5_base (nd:=nd) (xs:=us) (es:=goneL kd wd mo zu4 us) Bo hJ.val (fitgone hJ.val om) (by first|omega|(have h:=stepL_len ys (at_ es (k:Int));have h9:=gone_len kd wd mo (at_ es (k:Int)).tm (stepL ys (at_ es (k:Int)));omega))))) ?_)
              rintro _ _ ⟨_,_,⟨⟨ad7,cp8,nn9⟩,rfl,rfl⟩,rfl,rfl⟩
              show G Tryz.prog κ _ _ _ _ ([(97,.tuple #[.agg #[I64 (nd),.slice ad7 (List.foldl stepL us (goneL kd wd mo zu4 us)).length cp8],I64 (nn9),I64 (0)]),(96,.slice ad5 (goneL kd wd mo zu4 us).length cp6),(95,.agg #[I64 (nd),.slice a3 us.length c3]),(17,.slice ad5 (goneL kd wd mo zu4 us).length cp6),(0,I64 (nd)),(1,va),(5,.pointer (some ⟨b1,0,none⟩)),(9,.pointer (some ⟨b2,0,none⟩)),(10,.slice o3 vs.length d3),(12,.pointer (some ⟨b3,0,none⟩)),(37,va),(38,I64 (((es.length:Nat):Int))),(39,I64 ((k:Int)))]:Env) (vc 146 (.slice ad7 (List.foldl stepL us (goneL kd wd mo zu4 us)).length cp8) (List.foldl stepL us (goneL kd wd mo zu4 us))::vc 108 (.slice ad5 (goneL kd wd mo zu4 us).length cp6) (goneL kd wd mo zu4 us)::blk b2 [I64 (nd),.slice a3 us.length c3] 111::vc 108 (.slice o3 vs.length d3) (vs)::blk b1 [I64 (kd),I64 (wd),I64 (mo)] 31::blk b3 [I64 ((at_ es (k:Int)).kd),I64 ((at_ es (k:Int)).tm),I64 ((at_ es (k:Int)).u),I64 ((at_ es (k:Int)).v),I64 ((at_ es (k:Int)).w),I64 ((at_ es (k:Int)).lb),I64 ((at_ es (k:Int)).sg)] 108::I)
              refine Gm rfl (Gr (A3 rfl rfl) (Gr (A3 rfl rfl) (Gr (A3 rfl rfl) (Ge0 (Bj ty111) ?_))))
              refine Af (Ar (S10 17 0 1 5 9 10 12 37 38 39 rfl rfl rfl rfl rfl rfl rfl rfl rfl rfl) (A2 (Gm rfl (Gm rfl (Ge2 (B2 (α:=Ev) (e:=108) (xs:=vs) (ys:=goneL kd wd mo zu4 us) Aw ty108 rfl rfl rfl mm Bo (by first|omega|(simp only [List.length_append,List.length_cons,List.length_nil];omega)|(have h:=stepL_len ys (at_ es (k:Int));have h9:=gone_len kd wd mo (at_ es (k:Int)).tm (stepL ys (at_ es (k:Int)));first|omega|(simp only [List.length_append,List.length_cons,List.length_nil];omega))) dc rfl (fun _ _=>am)) fun ad10 cp11=>?_)))))
              refine Ga rfl (Be (Al ?_))
              have hg:=gone_steps (kd:=kd) (wd:=wd) (mo:=mo) (nw:=zu4) hJ.val
              have hgl:=gone_len kd wd mo zu4 us
              exact B0 ((ad7),(cp8),(ad10),(cp11),(List.filter (inW kd wd mo zu4 us) us),(vs++goneL kd wd mo zu4 us)) (by dsimp only;exact ⟨(hag0.trans (agedL_step hc.2.1 ⟨hpos,by omega⟩ hz)),(hJ.filter _),(by rw [List.length_append];omega)⟩) (hlt:=by (try dsimp only);exact (aged_less hc.2.1 hpos hz)) (hI:=by (try dsimp only);exact (by rw [←hg];exact Bz))
          ·rintro ⟨a2,c2,o2,d2,ys,zs⟩ hp
           obtain ⟨hag,hI2,hs2⟩:((agedL kd wd mo (at_ es (k:Int)).tm (xs,out))=(ys,zs))∧(SlI nd kd wd (at_ es (k:Int)).tm ys)∧(ys.length+zs.length=xs.length+out.length):=hp
           show W Tryz.prog κ 138 _ _ ([(0,I64 (nd)),(1,va),(5,.pointer (some ⟨b1,0,none⟩)),(9,.pointer (some ⟨b2,0,none⟩)),(10,.slice o2 zs.length d2),(12,.pointer (some ⟨b3,0,none⟩)),(37,va),(38,I64 (((es.length:Nat):Int))),(39,I64 ((k:Int)))]:Env) (blk b2 [I64 (nd),.slice a2 ys.length c2] 111::vc 146 (.slice a2 ys.length c2) (ys)::vc 108 (.slice o2 zs.length d2) (zs)::blk b1 [I64 (kd),I64 (wd),I64 (mo)] 31::blk b3 [I64 ((at_ es (k:Int)).kd),I64 ((at_ es (k:Int)).tm),I64 ((at_ es (k:Int)).u),I64 ((at_ es (k:Int)).v),I64 ((at_ es (k:Int)).w),I64 ((at_ es (k:Int)).lb),I64 ((at_ es (k:Int)).sg)] 108::I)
           refine Ah (Gl2 ty111 ?_)
           refine Gl7 ty108 ?_
           refine G.e (Aj call94 rfl rfl (Apply5_ok (nd:=nd) (e:=(at_ es (k:Int))) Bo hI2.val hfe om)) ?_
           rintro _ _ ⟨_,_,⟨⟨ad12,cp13,ad14,nn15,cp16⟩,⟨rfl,hnn15⟩,rfl⟩,rfl,rfl⟩
           show G Tryz.prog κ _ _ _ _ ([(107,.tuple #[.agg #[I64 (nd),.slice ad12 (stepL ys (at_ es (k:Int))).length cp13],.slice ad14 nn15 cp16,I64 (0)]),(106,.agg #[I64 ((at_ es (k:Int)).kd),I64 ((at_ es (k:Int)).tm),I64 ((at_ es (k:Int)).u),I64 ((at_ es (k:Int)).v),I64 ((at_ es (k:Int)).w),I64 ((at_ es (k:Int)).lb),I64 ((at_ es (k:Int)).sg)]),(105,.agg #[I64 (nd),.slice a2 ys.length c2]),(0,I64 (nd)),(1,va),(5,.pointer (some ⟨b1,0,none⟩)),(9,.pointer (some ⟨b2,0,none⟩)),(10,.slice o2 zs.length d2),(12,.pointer (some ⟨b3,0,none⟩)),(37,va),(38,I64 (((es.length:Nat):Int))),(39,I64 ((k:Int)))]:Env) (vc 146 (.slice ad12 (stepL ys (at_ es (k:Int))).length cp13) (stepL ys (at_ es (k:Int)))::blk b2 [I64 (nd),.slice a2 ys.length c2] 111::vc 146 (.slice a2 ys.length c2) (ys)::vc 108 (.slice o2 zs.length d2) (zs)::blk b1 [I64 (kd),I64 (wd),I64 (mo)] 31::blk b3 [I64 ((at_ es (k:Int)).kd),I64 ((at_ es (k:Int)).tm),I64 ((at_ es (k:Int)).u),I64 ((at_ es (k:Int)).v),I64 ((at_ es (k:Int)).w),I64 ((at_ es (k:Int)).lb),I64 ((at_ es (k:Int)).sg)] 108::I)
           have hnn15:nn15≤2*ys.length+1:=hnn15
           refine Gm rfl (Gr (A3 rfl rfl) (Gr (A3 rfl rfl) (Gr (A3 rfl rfl) (Ge0 (Bj ty111) ?_))))
           have hI3:SlI nd kd wd (at_ es (k:Int)).tm (stepL ys (at_ es (k:Int))):=hI2.step hfe rfl (checkW_one (Classical.not_not.1 c24))
           have hs1:streamE nd es=streamS nd (lastT es (k+1)) (es.drop (k+1)):=hs0.trans (streamS_step om (fitE_ok.2 hfe) om)
           refine Af (Ar (S9 0 1 5 9 10 12 37 38 39 rfl rfl rfl rfl rfl rfl rfl rfl rfl) (Ah (Gm rfl (Gl7 ty108 ?_))))
           refine Ge1 (B1 (α:=Ev) (cs:=[I64 ((at_ es (k:Int)).kd),I64 ((at_ es (k:Int)).tm),I64 ((at_ es (k:Int)).u),I64 ((at_ es (k:Int)).v),I64 ((at_ es (k:Int)).w),I64 ((at_ es (k:Int)).lb),I64 ((at_ es (k:Int)).sg)]) (xs:=[⟨(at_ es (k:Int)).kd,(at_ es (k:Int)).tm,(at_ es (k:Int)).u,(at_ es (k:Int)).v,(at_ es (k:Int)).w,(at_ es (k:Int)).lb,(at_ es (k:Int)).sg⟩]) Aw ty108 rfl rfl dc dc rfl kr rfl rfl) fun ad17=>?_
           refine Ge2 (B2 (α:=Ev) (e:=108) (xs:=zs) (ys:=([⟨(at_ es (k:Int)).kd,(at_ es (k:Int)).tm,(at_ es (k:Int)).u,(at_ es (k:Int)).v,(at_ es (k:Int)).w,(at_ es (k:Int)).lb,(at_ es (k:Int)).sg⟩]:List Ev)) Aw ty108 rfl rfl rfl mm Bo (by first|omega|(simp only [List.length_append,List.length_cons,List.length_nil];omega)|(have h:=stepL_len ys (at_ es (k:Int));have h9:=gone_len kd wd mo (at_ es (k:Int)).tm (stepL ys (at_ es (k:Int)));first|omega|(simp only [List.length_append,List.length_cons,List.length_nil];omega))) dc rfl (fun _ _=>am)) fun ad18 cp19=>?_
           refine Ga rfl (Af (Ar (S9 10 0 1 5 9 12 37 38 39 rfl rfl rfl rfl rfl rfl rfl rfl rfl) (Ah (Gf fld31_0 rfl (Gl ty3 ?_)))))
           refine Gr (Bi rfl rfl) (Af (A6 rfl (fun c117=>?_) (fun c117=>?_)))
           ·refine Ah (Gl2 ty111 ?_)
            refine Gl3 ty31 ?_
            refine Gf fld108_1 rfl (Gl ty3 ?_)
            refine G.e (Aj call161 rfl rfl (Expired7_ok (nd:=nd) (kd:=kd) (wd:=wd) (mo:=mo) (nw:=((at_ es (k:Int)).tm)) (xs:=stepL ys (at_ es (k:Int))) Bo (by first|omega|(have h:=stepL_len ys (at_ es (k:Int));omega)))) ?_
            rintro _ _ ⟨_,_,(⟨hnead20,rfl,rfl⟩|⟨ad20,cp21,hzad20,rfl,rfl⟩),rfl,rfl⟩
            ·exact absurd (hI3.ask (Classical.not_not.1 c24) hfe.tm (Int.le_refl _)) hnead20
            ·show G Tryz.prog κ _ _ _ _ ([(123,.tuple #[.slice ad20 (goneL kd wd mo ((at_ es (k:Int)).tm) (stepL ys (at_ es (k:Int)))).length cp21,I64 (0)]),(122,I64 ((at_ es (k:Int)).tm)),(121,.pointer (some ⟨b3,1,none⟩)),(120,.agg #[I64 (kd),I64 (wd),I64 (mo)]),(119,.agg #[I64 (nd),.slice ad12 (stepL ys (at_ es (k:Int))).length cp13]),(117,.bool (decide (kd=3))),(116,I64 (kd)),(115,.pointer (some ⟨b1,0,none⟩)),(10,.slice ad18 (zs++([⟨(at_ es (k:Int)).kd,(at_ es (k:Int)).tm,(at_ es (k:Int)).u,(at_ es (k:Int)).v,(at_ es (k:Int)).w,(at_ es (k:Int)).lb,(at_ es (k:Int)).sg⟩]:List Ev)).length cp19),(0,I64 (nd)),(1,va),(5,.pointer (some ⟨b1,0,none⟩)),(9,.pointer (some ⟨b2,0,none⟩)),(12,.pointer (some ⟨b3,0,none⟩)),(37,va),(38,I64 (((es.length:Nat):Int))),(39,I64 ((k:Int)))]:Env) (vc 108 (.slice ad20 (goneL kd wd mo ((at_ es (k:Int)).tm) (stepL ys (at_ es (k:Int)))).length cp21) (goneL kd wd mo ((at_ es (k:Int)).tm) (stepL ys (at_ es (k:Int))))::vc 108 (.slice ad17 1 1) (([⟨(at_ es (k:Int)).kd,(at_ es (k:Int)).tm,(at_ es (k:Int)).u,(at_ es (k:Int)).v,(at_ es (k:Int)).w,(at_ es (k:Int)).lb,(at_ es (k:Int)).sg⟩]:List Ev))::vc 146 (.slice ad12 (stepL ys (at_ es (k:Int))).length cp13) (stepL ys (at_ es (k:Int)))::blk b2 [I64 (nd),.slice ad12 (stepL ys (at_ es (k:Int))).length cp13] 111::vc 146 (.slice a2 ys.length c2) (ys)::vc 108 (.slice ad18 (zs++([⟨(at_ es (k:Int)).kd,(at_ es (k:Int)).tm,(at_ es (k:Int)).u,(at_ es (k:Int)).v,(at_ es (k:Int)).w,(at_ es (k:Int)).lb,(at_ es (k:Int)).sg⟩]:List Ev)).length cp19) (zs++([⟨(at_ es (k:Int)).kd,(at_ es (k:Int)).tm,(at_ es (k:Int)).u,(at_ es (k:Int)).v,(at_ es (k:Int)).w,(at_ es (k:Int)).lb,(at_ es (k:Int)).sg⟩]:List Ev))::blk b1 [I64 (kd),I64 (wd),I64 (mo)] 31::blk b3 [I64 ((at_ es (k:Int)).kd),I64 ((at_ es (k:Int)).tm),I64 ((at_ es (k:Int)).u),I64 ((at_ es (k:Int)).v),I64 ((at_ es (k:Int)).w),I64 ((at_ es (k:Int)).lb),I64 ((at_ es (k:Int)).sg)] 108::I)
             refine Gm rfl (Gr (A3 rfl rfl) (Gr (A3 rfl rfl) (Ga rfl (Ga rfl (Af (Ar (S9 19 10 0 1 5 9 37 38 39 rfl rfl rfl rfl rfl rfl rfl rfl rfl) (Ah (Gl2 ty111 ?_))))))))
             refine Gm rfl (G.e (Aj call162 rfl rfl (Cq (J:=vc 146 (.slice ad12 (stepL ys (at_ es (k:Int))).length cp13) (stepL ys (at_ es (k:Int)))::vc 108 (.slice ad20 (goneL kd wd mo ((at_ es (k:Int)).tm) (stepL ys (at_ es (k:Int)))).length cp21) (goneL kd wd mo ((at_ es (k:Int)).tm) (stepL ys (at_ es (k:Int))))::vc 108 (.slice ad17 1 1) (([⟨(at_ es (k:Int)).kd,(at_ es (k:Int)).tm,(at_ es (k:Int)).u,(at_ es (k:Int)).v,(at_ es (k:Int)).w,(at_ es (k:Int)).lb,(at_ es (k:Int)).sg⟩]:List Ev))::blk b2 [I64 (nd),.slice ad12 (stepL ys (at_ es (k:Int))).length cp13] 111::vc 146 (.slice a2 ys.length c2) (ys)::vc 108 (.slice ad18 (zs++([⟨(at_ es (k:Int)).kd,(at_ es (k:Int)).tm,(at_ es (k:Int)).u,(at_ es (k:Int)).v,(at_ es (k:Int)).w,(at_ es (k:Int)).lb,(at_ es (k:Int)).sg⟩]:List Ev)).length cp19) (zs++([⟨(at_ es (k:Int)).kd,(at_ es (k:Int)).tm,(at_ es (k:Int)).u,(at_ es (k:Int)).v,(at_ es (k:Int)).w,(at_ es (k:Int)).lb,(at_ es (k:Int)).sg⟩]:List Ev))::blk b1 [I64 (kd),I64 (wd),I64 (mo)] 31::blk b3 [I64 ((at_ es (k:Int)).kd),I64 ((at_ es (k:Int)).tm),I64 ((at_ es (k:Int)).u),I64 ((at_ es (k:Int)).v),I64 ((at_ es (k:Int)).w),I64 ((at_ es (k:Int)).lb),I64 ((at_ es (k:Int)).sg)] 108::I) Bz (All5_base (nd:=nd) (xs:=stepL ys (at_ es (k:Int))) (es:=goneL kd wd mo ((at_ es (k:Int)).tm) (stepL ys (at_ es (k:Int)))) Bo hI3.val (fitgone hI3.val hfe.tm) (by first|omega|(have h:=stepL_len ys (at_ es (k:Int));have h9:=gone_len kd wd mo (at_ es (k:Int)).tm (stepL ys (at_ es (k:Int)));omega))))) ?_)
             rintro _ _ ⟨_,_,⟨⟨ad22,cp23,nn24⟩,rfl,rfl⟩,rfl,rfl⟩
             show G Tryz.prog κ _ _ _ _ ([(129,.tuple #[.agg #[I64 (nd),.slice ad22 (List.foldl stepL (stepL ys (at_ es (k:Int))) (goneL kd wd mo ((at_ es (k:Int)).tm) (stepL ys (at_ es (k:Int))))).length cp23],I64 (nn24),I64 (0)]),(128,.slice ad20 (goneL kd wd mo ((at_ es (k:Int)).tm) (stepL ys (at_ es (k:Int)))).length cp21),(127,.agg #[I64 (nd),.slice ad12 (stepL ys (at_ es (k:Int))).length cp13]),(19,.slice ad20 (goneL kd wd mo ((at_ es (k:Int)).tm) (stepL ys (at_ es (k:Int)))).length cp21),(10,.slice ad18 (zs++([⟨(at_ es (k:Int)).kd,(at_ es (k:Int)).tm,(at_ es (k:Int)).u,(at_ es (k:Int)).v,(at_ es (k:Int)).w,(at_ es (k:Int)).lb,(at_ es (k:Int)).sg⟩]:List Ev)).length cp19),(0,I64 (nd)),(1,va),(5,.pointer (some ⟨b1,0,none⟩)),(9,.pointer (some ⟨b2,0,none⟩)),(37,va),(38,I64 (((es.length:Nat):Int))),(39,I64 ((k:Int)))]:Env) (vc 146 (.slice ad22 (List.foldl stepL (stepL ys (at_ es (k:Int))) (goneL kd wd mo ((at_ es (k:Int)).tm) (stepL ys (at_ es (k:Int))))).length cp23) (List.foldl stepL (stepL ys (at_ es (k:Int))) (goneL kd wd mo ((at_ es (k:Int)).tm) (stepL ys (at_ es (k:Int)))))::vc 108 (.slice ad20 (goneL kd wd mo ((at_ es (k:Int)).tm) (stepL ys (at_ es (k:Int)))).length cp21) (goneL kd wd mo ((at_ es (k:Int)).tm) (stepL ys (at_ es (k:Int))))::vc 108 (.slice ad17 1 1) (([⟨(at_ es (k:Int)).kd,(at_ es (k:Int)).tm,(at_ es (k:Int)).u,(at_ es (k:Int)).v,(at_ es (k:Int)).w,(at_ es (k:Int)).lb,(at_ es (k:Int)).sg⟩]:List Ev))::blk b2 [I64 (nd),.slice ad12 (stepL ys (at_ es (k:Int))).length cp13] 111::vc 146 (.slice a2 ys.length c2) (ys)::vc 108 (.slice ad18 (zs++([⟨(at_ es (k:Int)).kd,(at_ es (k:Int)).tm,(at_ es (k:Int)).u,(at_ es (k:Int)).v,(at_ es (k:Int)).w,(at_ es (k:Int)).lb,(at_ es (k:Int)).sg⟩]:List Ev)).length cp19) (zs++([⟨(at_ es (k:Int)).kd,(at_ es (k:Int)).tm,(at_ es (k:Int)).u,(at_ es (k:Int)).v,(at_ es (k:Int)).w,(at_ es (k:Int)).lb,(at_ es (k:Int)).sg⟩]:List Ev))::blk b1 [I64 (kd),I64 (wd),I64 (mo)] 31::blk b3 [I64 ((at_ es (k:Int)).kd),I64 ((at_ es (k:Int)).tm),I64 ((at_ es (k:Int)).u),I64 ((at_ es (k:Int)).v),I64 ((at_ es (k:Int)).w),I64 ((at_ es (k:Int)).lb),I64 ((at_ es (k:Int)).sg)] 108::I)
             refine Gm rfl (Gr (A3 rfl rfl) (Gr (A3 rfl rfl) (Gr (A3 rfl rfl) (Ge0 (Bj ty111) ?_))))
             refine Af (Ar (S9 19 10 0 1 5 9 37 38 39 rfl rfl rfl rfl rfl rfl rfl rfl rfl) (A2 (Gm rfl (Gm rfl (Ge2 (B2 (α:=Ev) (e:=108) (xs:=zs++([⟨(at_ es (k:Int)).kd,(at_ es (k:Int)).tm,(at_ es (k:Int)).u,(at_ es (k:Int)).v,(at_ es (k:Int)).w,(at_ es (k:Int)).lb,(at_ es (k:Int)).sg⟩]:List Ev)) (ys:=goneL kd wd mo ((at_ es (k:Int)).tm) (stepL ys (at_ es (k:Int)))) Aw ty108 rfl rfl rfl mm Bo (by first|omega|(simp only [List.length_append,List.length_cons,List.length_nil];omega)|(have h:=stepL_len ys (at_ es (k:Int));have h9:=gone_len kd wd mo (at_ es (k:Int)).tm (stepL ys (at_ es (k:Int)));first|omega|(simp only [List.length_append,List.length_cons,List.length_nil];omega))) dc rfl (fun _ _=>am)) fun ad25 cp26=>?_)))))
             refine Ga rfl (Be (Al (Ai (A2 (Gr (Rad rfl rfl) (Gm rfl (Be ?_)))))))
             have hgl:=gone_len kd wd mo (at_ es (k:Int)).tm (stepL ys (at_ es (k:Int)))
             have hsl:=stepL_len ys (at_ es (k:Int))
             have hgs:=gone_steps (kd:=kd) (wd:=wd) (mo:=mo) (nw:=(at_ es (k:Int)).tm) hI3.val
             exact B0 ((k+1),(ad22),(cp23),(ad25),(cp26),(List.filter (inW kd wd mo (at_ es (k:Int)).tm (stepL ys (at_ es (k:Int)))) (stepL ys (at_ es (k:Int)))),(zs++[(at_ es (k:Int))]++goneL kd wd mo (at_ es (k:Int)).tm (stepL ys (at_ es (k:Int))))) (by dsimp only;exact ⟨om,(by rw [slideS_succ om,hst];exact evStep_three hag c117),(by rw [lastT_succ];exact hI3.filter _),lap,hs1,(by rw [lastT_succ];exact hfe.tm.1)⟩) (hI:=by (try dsimp only);exact (by rw [←hgs];exact Bz))
           ·refine Az (Al (Ai (A2 (Gr (Rad rfl rfl) (Gm rfl (Be ?_))))))
            have hsl:=stepL_len ys (at_ es (k:Int))
            exact B0 ((k+1),(ad12),(cp13),(ad18),(cp19),((stepL ys (at_ es (k:Int)))),(zs++[(at_ es (k:Int))])) (by dsimp only;exact ⟨om,(by rw [slideS_succ om,hst];exact evStep_not hag c117),(by rw [lastT_succ];exact hI3),lap,hs1,(by rw [lastT_succ];exact hfe.tm.1)⟩)
     ·refine Bt (Aq (Aq (A9 (Ai (Ah (Gm rfl (Ga rfl (Ga rfl (Af (Ay ?_))))))))))
      have hE2:(slideS kd wd mo es)=(xs,out):=by rw [←hst,show List.take k es=es from List.take_of_length_le om]
      have hz:(slideE nd kd wd mo es)=0:=(slideE_st c24).trans (hs0.trans (streamS_end om))
      exact Ct rfl rfl rfl (vc 108 (.slice o1 (slideS kd wd mo es).2.length d1) (slideS kd wd mo es).2::I) (by rw [hE2];exact Bz) (.inr ⟨o1,d1,hz,by rw [hE2],rfl⟩)
theorem Slide7_hist{κ:Ctx}{I:List Item}{nd kd wd mo:Int}{va:Value}{es:List Ev}(hl:Sl κ I va es)(h:HistOk nd kd wd mo es) :
  CallS Tryz.prog κ 93 [I64 nd,va,.agg #[I64 kd,I64 wd,I64 mo]] I fun r J=>∃a c,r = .tuple #[.slice a (slideS kd wd mo es).2.length c,I64 0]∧J=vc 108 (.slice a (slideS kd wd mo es).2.length c) (slideS kd wd mo es).2::I:=
 (Slide7_ok hl).mono fun r J hh=>by
  rcases hh with ⟨h1,_⟩|⟨a,c,_,h2,h3⟩
  ·exact absurd (slideE_zeroH h) h1
  ·exact ⟨a,c,h2,h3⟩
set_option maxHeartbeats 1000000 in
theorem Some43_base{κ:Ctx}{I:List Item}{b:Nat}{lv:Value}{ls:List Int}{i:Int}(hl:∀q,Sl κ (deck b lv q::I) lv ls)(h0:0≤i)   :
    CallS Tryz.prog κ 42 [.pointer (some ⟨b,0,none⟩)] (blk b [lv,I64 (i)] 125::I) (fun r J=>∃y:Int×(Option Addr)×Nat×(List Ev)×Int×Int×Int×Int,((r = .tuple #[I64 y.1,.slice y.2.1 y.2.2.2.1.length y.2.2.1,.agg #[I64 y.2.2.2.2.1,I64 y.2.2.2.2.2.1,I64 y.2.2.2.2.2.2.1]]∧HistOk y.1 y.2.2.2.2.1 y.2.2.2.2.2.1 y.2.2.2.2.2.2.1 y.2.2.2.1∧y.2.2.2.1.length≤12∧(2≤y.1∧y.1≤6))∧0≤y.2.2.2.2.2.2.2)∧J=[vc 108 (.slice y.2.1 y.2.2.2.1.length y.2.2.1) y.2.2.2.1]++deck b lv y.2.2.2.2.2.2.2::I):=by
 refine Ce1 Tryz.func42 rfl rfl ?_
 refine Ah (Ga rfl (Ga rfl (Ge1 (Ax ty31 rfl) fun b1=>Af (Ah (Gm rfl (G.e (Aj call19 rfl rfl (Next_ok (by repeat (first|exact AtF.head _ _|apply AtF.tail)) (Cj (hl _) A1) om om)) ?_))))))
 rintro _ _ ⟨_,_,⟨x2,i3,rfl,hx2,hi3,rfl⟩,rfl,rfl⟩
 show G Tryz.prog κ _ _ _ _ ([(7,I64 (x2)),(6,.pointer (some ⟨b,0,none⟩)),(4,.pointer (some ⟨b1,0,none⟩)),(3,.slice none 0 0),(2,I64 (0)),(0,.pointer (some ⟨b,0,none⟩))]:Env) (blk b1 [I64 (0),I64 (0),I64 (0)] 31::blk b [lv,I64 (i3)] 125::I)
 refine Gr (Rad rfl rfl) (Ga rfl (Af (Ah (Gm rfl (Gm rfl (Gm rfl (G.e (Aj call20 rfl rfl (MkEvents_at (by repeat (first|exact AtF.head _ _|apply AtF.tail)) (fun _=>Cj (hl _) A1) om  om om)) ?_)))))))
 rintro _ _ ⟨_,_,⟨⟨ad4,cp5,es6,i7⟩,⟨⟨rfl,hses6⟩,hi7⟩,rfl⟩,rfl,rfl⟩
 show G Tryz.prog κ _ _ _ _ ([(12,.slice ad4 es6.length cp5),(11,I64 (2+x2)),(10,.pointer (some ⟨b,0,none⟩)),(9,I64 (2+x2)),(5,I64 (2+x2)),(8,I64 (2+x2)),(7,I64 (x2)),(6,.pointer (some ⟨b,0,none⟩)),(4,.pointer (some ⟨b1,0,none⟩)),(3,.slice none 0 0),(2,I64 (0)),(0,.pointer (some ⟨b,0,none⟩))]:Env) (vc 108 (.slice ad4 es6.length cp5) (es6)::blk b1 [I64 (0),I64 (0),I64 (0)] 31::blk b [lv,I64 (i7)] 125::I)
 have hi7:0≤i7:=hi7
 dsimp only at hses6
 refine Gm rfl (G.e (Aj call21 rfl rfl (MkWindowV_at (by repeat (first|exact AtF.head _ _|apply AtF.tail)) (fun _=>Cj (hl _) A1) om  )) ?_)
 rintro _ _ ⟨_,_,⟨⟨kd8,wd9,mo10,i11⟩,⟨⟨rfl,hwkd8⟩,hi11⟩,rfl⟩,rfl,rfl⟩
 show G Tryz.prog κ _ _ _ _ ([(14,.agg #[I64 (kd8),I64 (wd9),I64 (mo10)]),(13,.pointer (some ⟨b,0,none⟩)),(12,.slice ad4 es6.length cp5),(11,I64 (2+x2)),(10,.pointer (some ⟨b,0,none⟩)),(9,I64 (2+x2)),(5,I64 (2+x2)),(8,I64 (2+x2)),(7,I64 (x2)),(6,.pointer (some ⟨b,0,none⟩)),(4,.pointer (some ⟨b1,0,none⟩)),(3,.slice none 0 0),(2,I64 (0)),(0,.pointer (some ⟨b,0,none⟩))]:Env) (vc 108 (.slice ad4 es6.length cp5) (es6)::blk b1 [I64 (0),I64 (0),I64 (0)] 31::blk b [lv,I64 (i11)] 125::I)
 have hi11:0≤i11:=hi11
 refine Ga rfl (Ga rfl (Ge0 (Es3_3 ty31) ?_))
 exact Af (Ar (S3 3 2 4 rfl rfl rfl) (Ay (V.retttc rfl ty31 rfl rfl rfl mm rfl (vc 108 (.slice ad4 es6.length cp5) (es6)::blk b [lv,I64 (i11)] 125::I) Bz ⟨(2+x2,ad4,cp5,es6,kd8,wd9,mo10,i11),⟨⟨rfl,⟨hses6.1.st om om,hwkd8⟩,by show es6.length≤12;have h9:=hses6.2;omega,by show 2≤2+x2∧2+x2≤6;omega⟩,by show 0≤i11;omega⟩,rfl⟩)))
theorem Some43_at{κ:Ctx}{I:List Item}{F:Item→List Item}{b:Nat}{lv:Value}{ls:List Int}{i:Int}(hat:AtF I (deck b lv i) F)(hl:∀q,Sl κ (F (deck b lv q)) lv ls)(h0:0≤i)   :
  CallS Tryz.prog κ 42 [.pointer (some ⟨b,0,none⟩)] I fun r J=>∃y:Int×(Option Addr)×Nat×(List Ev)×Int×Int×Int×Int,((r = .tuple #[I64 y.1,.slice y.2.1 y.2.2.2.1.length y.2.2.1,.agg #[I64 y.2.2.2.2.1,I64 y.2.2.2.2.2.1,I64 y.2.2.2.2.2.2.1]]∧HistOk y.1 y.2.2.2.2.1 y.2.2.2.2.2.1 y.2.2.2.2.2.2.1 y.2.2.2.1∧y.2.2.2.1.length≤12∧(2≤y.1∧y.1≤6))∧0≤y.2.2.2.2.2.2.2)∧J=[vc 108 (.slice y.2.1 y.2.2.2.1.length y.2.2.1) y.2.2.2.1]++F (deck b lv y.2.2.2.2.2.2.2):=
 D4 (Post:=fun r (y:Int×(Option Addr)×Nat×(List Ev)×Int×Int×Int×Int)=>(r = .tuple #[I64 y.1,.slice y.2.1 y.2.2.2.1.length y.2.2.1,.agg #[I64 y.2.2.2.2.1,I64 y.2.2.2.2.2.1,I64 y.2.2.2.2.2.2.1]]∧HistOk y.1 y.2.2.2.2.1 y.2.2.2.2.2.1 y.2.2.2.2.2.2.1 y.2.2.2.1∧y.2.2.2.1.length≤12∧(2≤y.1∧y.1≤6))∧0≤y.2.2.2.2.2.2.2) (Z:=fun y:Int×(Option Addr)×Nat×(List Ev)×Int×Int×Int×Int=>[vc 108 (.slice y.2.1 y.2.2.2.1.length y.2.2.1) y.2.2.2.1]) (X:=fun y:Int×(Option Addr)×Nat×(List Ev)×Int×Int×Int×Int=>deck b lv y.2.2.2.2.2.2.2) hat fun J _ hF=>Some43_base (fun q=>(hl q).fit (hF _)) h0  
end Go.Sl
namespace Go.Sl
end Go.Sl
namespace Go.Sl
open Go.Proofs
set_option maxRecDepth 4000
section
variable {n kd wd mo:Int}{es:List Ev}(hH:HistOk n kd wd mo es)(hn:2≤n)(a a2:Option Addr)(c c2:Nat)
include hH hn
end
variable {κ:Ctx}{I:List Item}
abbrev frL:List Fr:=[⟨0,1⟩,⟨1,2⟩,⟨2,3⟩,⟨1,1⟩,⟨4,3⟩,⟨3,2⟩,⟨5,4⟩,⟨2,1⟩]
theorem frL_ok:∀x∈frL,FrV x:=by
 have h:∀x∈frL,0≤x.num∧x.num≤1073741824∧1≤x.den∧x.den≤1073741824∧gcdI x.num x.den=1:=by decide
 exact fun x hx=>⟨(h x hx).1,(h x hx).2.1,(h x hx).2.2.1,(h x hx).2.2.2.1,(h x hx).2.2.2.2⟩
theorem frL_num:∀x∈frL,x.num≤5:=by decide
theorem MkFrac_base{b:Nat}{lv:Value}{ls:List Int}{i:Int}(hl:∀q,Sl κ (deck b lv q::I) lv ls)(h0:0≤i)   :
    CallS Tryz.prog κ 46 [.pointer (some ⟨b,0,none⟩)] (blk b [lv,I64 (i)] 125::I) (fun r J=>∃y:Int×Int×Int,((r = .agg #[I64 y.1,I64 y.2.1]∧FrV ⟨y.1,y.2.1⟩∧y.1≤5)∧0≤y.2.2)∧J=[]++deck b lv y.2.2::I):=by
 refine Ce1 Tryz.func46 rfl rfl ?_
 refine Ah (Ge1 (Ax ty40 rfl) fun b1=>Af (Ah (Gr (Bc (cells:=[_,_]) ty40 B9 pl40 rfl rfl) (Gr (Bc (cells:=[_,_]) ty40 B9 pl40 rfl rfl) (Gr (Bc (cells:=[_,_]) ty40 B9 pl40 rfl rfl) (Gr (Bc (cells:=[_,_]) ty40 B9 pl40 rfl rfl) (Gr (Bc (cells:=[_,_]) ty40 B9 pl40 rfl rfl) (Gr (Bc (cells:=[_,_]) ty40 B9 pl40 rfl rfl) (Gr (Bc (cells:=[_,_]) ty40 B9 pl40 rfl rfl) (Gr (Bc (cells:=[_,_]) ty40 B9 pl40 rfl rfl) (Ge1 (B1 (α:=Fr) (cs:=[I64 (0),I64 (1),I64 (1),I64 (2),I64 (2),I64 (3),I64 (1),I64 (1),I64 (4),I64 (3),I64 (3),I64 (2),I64 (5),I64 (4),I64 (2),I64 (1)]) (xs:=[⟨0,1⟩,⟨1,2⟩,⟨2,3⟩,⟨1,1⟩,⟨4,3⟩,⟨3,2⟩,⟨5,4⟩,⟨2,1⟩]) Tryz.underlying76 ty40 rfl rfl dc dc rfl kr rfl rfl) fun ad2=>?_)))))))))))
 refine Ga rfl (Af (Ah (Gm rfl (Gm rfl (Gm rfl (Gr (B3 Tryz.underlying76 rfl) (G.e (Aj call19 rfl rfl (Next_ok (by repeat (first|exact AtF.head _ _|apply AtF.tail)) (Cj (hl _) A1) om om)) ?_)))))))
 rintro _ _ ⟨_,_,⟨x3,i4,rfl,hx3,hi4,rfl⟩,rfl,rfl⟩
 show G Tryz.prog κ _ _ _ _ ([(17,I64 (x3)),(16,I64 (((8:Nat):Int))),(15,.slice ad2 8 8),(14,.pointer (some ⟨b,0,none⟩)),(13,.slice ad2 8 8),(3,.slice ad2 8 8),(12,.slice ad2 8 8),(11,.agg #[I64 (2),I64 (1)]),(10,.agg #[I64 (5),I64 (4)]),(9,.agg #[I64 (3),I64 (2)]),(8,.agg #[I64 (4),I64 (3)]),(7,.agg #[I64 (1),I64 (1)]),(6,.agg #[I64 (2),I64 (3)]),(5,.agg #[I64 (1),I64 (2)]),(4,.agg #[I64 (0),I64 (1)]),(2,.pointer (some ⟨b1,0,none⟩)),(0,.pointer (some ⟨b,0,none⟩))]:Env) (vc 40 (.slice ad2 8 8) (([⟨0,1⟩,⟨1,2⟩,⟨2,3⟩,⟨1,1⟩,⟨4,3⟩,⟨3,2⟩,⟨5,4⟩,⟨2,1⟩]:List Fr))::blk b1 [I64 (0),I64 (0)] 40::blk b [lv,I64 (i4)] 125::I)
 refine Gr (Ba (α:=Fr) (xs:=([⟨0,1⟩,⟨1,2⟩,⟨2,3⟩,⟨1,1⟩,⟨4,3⟩,⟨3,2⟩,⟨5,4⟩,⟨2,1⟩]:List Fr)) Tryz.underlying76 ty40 rfl rfl Bo om (by first|omega|(simp only [List.length_cons,List.length_nil];omega))) (Gr (Bs (α:=Fr) (xs:=([⟨0,1⟩,⟨1,2⟩,⟨2,3⟩,⟨1,1⟩,⟨4,3⟩,⟨3,2⟩,⟨5,4⟩,⟨2,1⟩]:List Fr)) ty40 rfl Bo om (by first|omega|(simp only [List.length_cons,List.length_nil];omega))) (Ge0 (Bj ty40) ?_))
 exact Af (Ar (S1 2 rfl) (Ay (C6 rfl ty40 rfl mm rfl (blk b [lv,I64 (i4)] 125::I) A4 ⟨((at_ ([⟨0,1⟩,⟨1,2⟩,⟨2,3⟩,⟨1,1⟩,⟨4,3⟩,⟨3,2⟩,⟨5,4⟩,⟨2,1⟩]:List Fr) x3).num,(at_ ([⟨0,1⟩,⟨1,2⟩,⟨2,3⟩,⟨1,1⟩,⟨4,3⟩,⟨3,2⟩,⟨5,4⟩,⟨2,1⟩]:List Fr) x3).den,i4),⟨⟨rfl,frL_ok _ (Cf (xs:=frL) om (by show _<(8:Int);omega)),frL_num _ (Cf (xs:=frL) om (by show _<(8:Int);omega))⟩,by show 0≤i4;omega⟩,rfl⟩)))
theorem MkFrac_at{F:Item→List Item}{b:Nat}{lv:Value}{ls:List Int}{i:Int}(hat:AtF I (deck b lv i) F)(hl:∀q,Sl κ (F (deck b lv q)) lv ls)(h0:0≤i)   :
  CallS Tryz.prog κ 46 [.pointer (some ⟨b,0,none⟩)] I fun r J=>∃y:Int×Int×Int,((r = .agg #[I64 y.1,I64 y.2.1]∧FrV ⟨y.1,y.2.1⟩∧y.1≤5)∧0≤y.2.2)∧J=[]++F (deck b lv y.2.2):=
 D4 (Post:=fun r (y:Int×Int×Int)=>(r = .agg #[I64 y.1,I64 y.2.1]∧FrV ⟨y.1,y.2.1⟩∧y.1≤5)∧0≤y.2.2) (Z:=fun y:Int×Int×Int=>[]) (X:=fun y:Int×Int×Int=>deck b lv y.2.2) hat fun J _ hF=>MkFrac_base (fun q=>(hl q).fit (hF _)) h0  
section
variable {nd kd wd mo lv t:Int}{es:List Ev}{xs:List Int}
theorem first_weak{p q:Int→Prop}{t1 t2:Int}{k1 k2:Bool}(h1:FirstP kd wd mo es p t1 k1)(h2:FirstP kd wd mo es q t2 k2)(h:∀e∈allE kd wd mo es,p e.tm→q e.tm):k1=true→k2=true∧t2≤t1:=fun hk=>by
 rcases h1 with ⟨_,⟨e,he,rfl⟩,hp,_⟩|⟨hf,_⟩
 ·rcases h2 with ⟨e2,_,_,hn⟩|⟨_,_,hn⟩
  ·exact ⟨e2,Int.not_lt.1 fun hlt=>hn e he hlt (h e he hp)⟩
  ·exact absurd (h e he hp) (hn e he)
 ·rw [hf] at hk;cases hk
end
def timesR(kd wd mo:Int)(es:List Ev):List Int:=ofL ((slideS kd wd mo es).2.map Ev.tm++(lateL kd wd (linksL (slideS kd wd mo es).2)).map Ev.tm)
theorem late_none{kd wd:Int}{xs:List Lk}(h:¬kd=2):lateL kd wd xs=[]:=by
 unfold lateL
 rw [List.filter_eq_nil_iff.2 fun x _ hx=>by unfold lateP at hx;exact h (of_decide_eq_true hx).1]
 rfl
theorem mem_times{kd wd mo t:Int}{es:List Ev}:t∈timesR kd wd mo es↔∃e∈allE kd wd mo es,e.tm=t:=by
 unfold timesR allE
 rw [mem_ofL,List.mem_append,List.mem_map,List.mem_map]
 constructor
 ·rintro (⟨e,h1,h2⟩|⟨e,h1,h2⟩)
  ·exact ⟨e,List.mem_append_left _ h1,h2⟩
  ·exact ⟨e,List.mem_append_right _ ((Ej _ _).mem_iff.2 h1),h2⟩
 ·rintro ⟨e,h1,h2⟩
  rcases List.mem_append.1 h1 with h1|h1
  ·exact .inl ⟨e,h1,h2⟩
  ·exact .inr ⟨e,(Ej _ _).mem_iff.1 h1,h2⟩
theorem timesR_rng{nd kd wd mo:Int}{es:List Ev}(hH:HistOk nd kd wd mo es):∀t∈timesR kd wd mo es,0≤t∧t≤1048576:=fun t ht=>by
 obtain ⟨e,he,rfl⟩:=mem_times.1 ht
 exact (hH.allFit e he).tm
theorem timesR_len{nd kd wd mo:Int}{es:List Ev}(hH:HistOk nd kd wd mo es)(hlen:es.length≤19):(timesR kd wd mo es).length≤57:=by
 have h2:=hH.len2
 have h3:=hH.len
 have h4:=lateL_len kd wd (linksL (slideS kd wd mo es).2)
 have h1:=ofL_len ((slideS kd wd mo es).2.map Ev.tm++(lateL kd wd (linksL (slideS kd wd mo es).2)).map Ev.tm)
 rw [List.length_append,List.length_map,List.length_map] at h1
 unfold timesR
 omega
set_option maxHeartbeats 2000000 in
theorem Times43_ok{κ:Ctx}{I:List Item}{nd kd wd mo:Int}{ea:Option Addr}{ec:Nat}{es:List Ev}(hl:Sl κ I (.slice ea es.length ec) es)(hH:HistOk nd kd wd mo es)(hlen:es.length≤19) :
    CallS Tryz.prog κ 39 [I64 (nd),.slice ea es.length ec,.agg #[I64 (kd),I64 (wd),I64 (mo)]] I (fun r J=>∃a c,r = .slice a (timesR kd wd mo es).length c∧J=vc 3 (.slice a (timesR kd wd mo es).length c) (timesR kd wd mo es)::I):=by
 refine Ce3 Tryz.func39 rfl rfl ?_
 refine Ah (Ge1 (Bb (cs:=[_,_,_]) rfl rfl rfl) fun b1=>Ga rfl (Af (Ah (Ga rfl (Af (Ah (Gm rfl (Gr (Bc (cells:=[_,_]) ty111 Dp pl111 rfl rfl) (Ge1 (Ax ty111 rfl) fun b2=>Ge0 (Bj ty111) ?_)))))))))
 refine Af (Ah (Gm rfl (Gm rfl (Gl3 ty31 ?_))))
 refine Gc2 (Aj call93 rfl rfl (Slide7_hist (nd:=nd) (kd:=kd) (wd:=wd) (mo:=mo) (es:=es) (Bl hl) hH)) fun ad3 cp4=>?_
 refine Gm rfl (Gr (A3 rfl rfl) (Gr (A3 rfl rfl) (Ga rfl (Ga rfl ?_))))
 generalize hSE:(slideS kd wd mo es).2=SE
 have hfS:∀e∈SE,FitOk nd e:=by rw [←hSE];exact hH.fit
 have hSl:SE.length≤38:=by rw [←hSE];have:=hH.len2;omega
 have hlS:(linksL SE).length≤19:=by rw [←hSE];have:=hH.len;omega
 refine Af (Ar (S4 9 8 7 5 rfl rfl rfl rfl) (Av (Ah (Ga rfl (Af (A5 (Bv (σ:=Nat×(Option Addr)×Nat×(Option Addr)×Nat×(List Int)) (fun s=>([(5,.pointer (some ⟨b1,0,none⟩)),(7,.slice s.2.2.2.1 s.2.2.2.2.2.length s.2.2.2.2.1),(8,.pointer (some ⟨b2,0,none⟩)),(9,.slice ad3 (SE).length cp4),(11,I64 (((s.1:Nat):Int)))]:Env)) (fun s=>vc 146 (.slice s.2.1 (linksL (SE.take s.1)).length s.2.2.1) (linksL (SE.take s.1))::vc 3 (.slice s.2.2.2.1 s.2.2.2.2.2.length s.2.2.2.2.1) (s.2.2.2.2.2)::vc 108 (.slice ad3 (SE).length cp4) (SE)::blk b2 [I64 (nd),.slice s.2.1 (linksL (SE.take s.1)).length s.2.2.1] 111::blk b1 [I64 (kd),I64 (wd),I64 (mo)] 31::I) (fun s=>(s.1≤SE.length)∧(s.2.2.2.2.2=(SE.take s.1).map Ev.tm)) (fun s=>SE.length - s.1) (0,none,0,none,0,[]) (show ((0:Nat)≤SE.length)∧(([]:List Int)=(SE.take (0:Nat)).map Ev.tm) from ⟨om,rfl⟩) (Ab rfl (Ab (Db rfl (by first|rfl|simp)) (Ab rfl (Ab rfl (Ab Ca Bp))))) (show Fit κ _ (vc 146 (.slice (none) (linksL (SE.take (0))).length (0)) (linksL (SE.take (0)))::vc 3 (.slice (none) ([]).length (0)) (([]))::vc 108 (.slice ad3 (SE).length cp4) (SE)::blk b2 [I64 (nd),.slice (none) (linksL (SE.take (0))).length (0)] 111::blk b1 [I64 (kd),I64 (wd),I64 (mo)] 31::I) from (Cp (Bw (α:=Int) 3 _) (Cp (Bw (α:=Lk) 146 _) Bz))) ?_)))))))
 rintro ⟨k,a,c,oa,oc,out⟩ hp
 dsimp only at hp ⊢
 obtain ⟨hk,ho⟩:=hp
 have hol:out.length=k:=by rw [ho,List.length_map,List.length_take];omega
 refine Av (Ah (Gm rfl (Gm rfl (Gr (B3 Aw rfl) (Gr (A8 rfl rfl) (Af (A6 rfl (fun c26=>?_) (fun c26=>?_))))))))
 ·refine Az (Ai (Av (A5 (Ah (Gm rfl (Gm rfl (Gm rfl (Gr (Ba (α:=Ev) (xs:=SE) Aw ty108 rfl rfl Bo om om) (Gr (C8 (α:=Ev) (xs:=SE) fld108_1 rfl Bo om) (Gr (De (α:=Ev) (xs:=SE) (u:=I64 ((at_ SE (k:Int)).tm)) ty3 rfl Bo om om rfl) (Ge1 (B1 (α:=Int) (cs:=[_]) (xs:=[(at_ SE (k:Int)).tm]) Am ty3 rfl rfl dc dc rfl rfl rfl rfl) fun ad5=>?_)))))))))))
  refine Ge2 (B2 (α:=Int) (e:=3) (xs:=out) (ys:=([(at_ SE (k:Int)).tm]:List Int)) Am ty3 rfl rfl rfl mm Bo lcn dc rfl (fun _ _=>am)) fun ad6 cp7=>?_
  refine Ga rfl (Af (Ar (S5 7 5 8 9 11 rfl rfl rfl rfl rfl) (Bk mixed (Bq (vc 3 (.slice ad5 1 1) (([(at_ SE (k:Int)).tm]:List Int))::vc 146 (.slice a (linksL (SE.take k)).length c) (linksL (SE.take k))::vc 3 (.slice ad6 (out++([(at_ SE (k:Int)).tm]:List Int)).length cp7) (out++([(at_ SE (k:Int)).tm]:List Int))::vc 108 (.slice ad3 (SE).length cp4) (SE)::blk b1 [I64 (kd),I64 (wd),I64 (mo)] 31::I) 11 (Dr 1 rfl (Ac rfl) (Dr 2 rfl (Ac rfl) (Dr 3 rfl (Ba (α:=Ev) (xs:=SE) Aw ty108 rfl rfl Bo om om) (Dr 4 rfl (Bs (α:=Ev) (xs:=SE) ty108 rfl Bo om om) (Ds1 0 (Sr rfl (Bm (vs:=[_,_]) ty111) A4 ?_))))))))))
  refine Ds1 5 (Se rfl (Aj call94 rfl rfl (Apply5_ok (nd:=nd) (e:=(at_ SE (k:Int))) Bo (links_val hH.st.nodes hfS k) (hfS _ (Cf om om)) (by have:=links_len (links_val hH.st.nodes hfS k);omega))) ?_)
  rintro _ _ ⟨_,_,⟨⟨ad8,cp9,ad10,nn11,cp12⟩,⟨rfl,hnn11⟩,rfl⟩,rfl,rfl⟩
  refine ⟨A4,?_⟩
  show D Tryz.prog κ _ _ _ _ _ _ _ ([(43,.tuple #[.agg #[I64 (nd),.slice ad8 (stepL (linksL (SE.take k)) (at_ SE (k:Int))).length cp9],.slice ad10 nn11 cp12,I64 (0)]),(38,.agg #[I64 (nd),.slice a (linksL (SE.take k)).length c]),(42,.agg #[I64 ((at_ SE (k:Int)).kd),I64 ((at_ SE (k:Int)).tm),I64 ((at_ SE (k:Int)).u),I64 ((at_ SE (k:Int)).v),I64 ((at_ SE (k:Int)).w),I64 ((at_ SE (k:Int)).lb),I64 ((at_ SE (k:Int)).sg)]),(41,elemPtr (.slice ad3 (SE).length cp4) (((k:Int)).toNat*Enc.sz Ev)),(40,I64 ((k:Int))),(39,.slice ad3 (SE).length cp4),(7,.slice ad6 (out++([(at_ SE (k:Int)).tm]:List Int)).length cp7),(5,.pointer (some ⟨b1,0,none⟩)),(8,.pointer (some ⟨b2,0,none⟩)),(9,.slice ad3 (SE).length cp4),(11,I64 ((k:Int)))]:Env) (vc 146 (.slice ad8 (stepL (linksL (SE.take k)) (at_ SE (k:Int))).length cp9) (stepL (linksL (SE.take k)) (at_ SE (k:Int)))::vc 3 (.slice ad5 1 1) (([(at_ SE (k:Int)).tm]:List Int))::vc 146 (.slice a (linksL (SE.take k)).length c) (linksL (SE.take k))::vc 3 (.slice ad6 (out++([(at_ SE (k:Int)).tm]:List Int)).length cp7) (out++([(at_ SE (k:Int)).tm]:List Int))::vc 108 (.slice ad3 (SE).length cp4) (SE)::blk b2 [I64 (nd),.slice a (linksL (SE.take k)).length c] 111::blk b1 [I64 (kd),I64 (wd),I64 (mo)] 31::I)
  have hnn11:nn11≤2*(linksL (SE.take k)).length+1:=hnn11
  refine Dr 6 rfl (Ac rfl) (Dr 7 rfl (A3 rfl rfl) (Dr 8 rfl (A3 rfl rfl) (Dr 9 rfl (A3 rfl rfl) (Ds1 10 (Se0 rfl (Bj ty111) ?_)))))
  exact Dz (Al (Ai (Ar (S5 7 5 8 9 11 rfl rfl rfl rfl rfl) (A2 (Gm rfl (Gr (Rad rfl rfl) (Ga rfl (Be (B0 ((k+1),(ad8),(cp9),(ad6),(cp7),(out++([(at_ SE (k:Int)).tm]:List Int))) (by dsimp only;exact ⟨om,(by rw [ho,Da SE k om,List.map_append];rfl)⟩) (hI:=by (try dsimp only);exact (by rw [linksL_take om];exact Bz)))))))))))
 ·refine Bt (Aq (Aq (A9 (Ai (Av (Ah (Ga rfl ?_)))))))
  have hfull:SE.take k=SE:=List.take_of_length_le om
  rw [hfull] at ho ⊢
  have hvL:checkS nd (linksL SE)=0:=by have:=links_val hH.st.nodes hfS k;rwa [hfull] at this
  refine Af (A5 (Bv (σ:=Nat×(Option Addr)×Nat×(List Int)) (fun s=>([(5,.pointer (some ⟨b1,0,none⟩)),(7,.slice s.2.1 s.2.2.2.length s.2.2.1),(8,.pointer (some ⟨b2,0,none⟩)),(12,I64 (((s.1:Nat):Int)))]:Env)) (fun s=>vc 146 (.slice a (linksL (SE)).length c) (linksL (SE))::vc 3 (.slice s.2.1 s.2.2.2.length s.2.2.1) (s.2.2.2)::vc 108 (.slice ad3 (SE).length cp4) (SE)::blk b2 [I64 (nd),.slice a (linksL (SE)).length c] 111::blk b1 [I64 (kd),I64 (wd),I64 (mo)] 31::I) (fun s=>(s.1≤(linksL SE).length)∧(s.2.2.2=SE.map Ev.tm++(lateL kd wd ((linksL SE).take s.1)).map Ev.tm)) (fun s=>(linksL SE).length - s.1) (0,oa,oc,out) (show ((0:Nat)≤(linksL SE).length)∧((out:List Int)=SE.map Ev.tm++(lateL kd wd ((linksL SE).take (0:Nat))).map Ev.tm) from ⟨om,(by rw [ho];simp [lateL])⟩) (Ab rfl (Ab (Db rfl (by first|rfl|simp)) (Ab rfl (Ab Ca Bp)))) (show Fit κ _ (vc 146 (.slice a (linksL (SE)).length c) (linksL (SE))::vc 3 (.slice (oa) (out).length (oc)) ((out))::vc 108 (.slice ad3 (SE).length cp4) (SE)::blk b2 [I64 (nd),.slice a (linksL (SE)).length c] 111::blk b1 [I64 (kd),I64 (wd),I64 (mo)] 31::I) from A4) ?_))
  rintro ⟨k2,oa2,oc2,out2⟩ hp
  dsimp only at hp ⊢
  obtain ⟨hk2,ho2⟩:=hp
  have hol2:out2.length≤SE.length+k2:=by rw [ho2,List.length_append,List.length_map,List.length_map];have h1:=lateL_len kd wd ((linksL SE).take k2);rw [List.length_take] at h1;omega
  have hww:=checkW_wd hH.win
  refine Av (Ah (Gf fld31_0 rfl (Gl ty3 ?_)))
  refine Gr (Bi rfl rfl) (Gm rfl (A7 (d:=50) rfl (fun g50=>?_) (fun g50=>?_)))
  ·refine Gro (Ac rfl) (Gro (Aa fld111_1 rfl) (Gro (As ty109) ?_))
   refine Gro (B3 Ap rfl) (Gro (A8 rfl rfl) (Gr (Ao rfl rfl) (Af (Ar (S5 56 5 7 8 12 rfl rfl rfl rfl rfl) (A6 rfl (fun c56=>?_) (fun c56=>?_))))))
   ·refine Az (Ai (Av (A5 (Av (Bk mixed (Bq (vc 146 (.slice a (linksL (SE)).length c) (linksL (SE))::vc 3 (.slice oa2 out2.length oc2) (out2)::vc 108 (.slice ad3 (SE).length cp4) (SE)::blk b2 [I64 (nd),.slice a (linksL (SE)).length c] 111::blk b1 [I64 (kd),I64 (wd),I64 (mo)] 31::I) 10 (Dr 0 rfl (Aa fld111_1 rfl) ?_)))))))
    have htk:=checkS_tm hvL (k2:Int) om om
    refine Dr 1 rfl (As ty109) ?_
    refine Dr 2 rfl (Ac rfl) (Dr 3 rfl (Ba (α:=Lk) (xs:=linksL (SE)) Ap ty146 rfl rfl Bo om om) (Dr 4 rfl (C8 (α:=Lk) (xs:=linksL (SE)) fld146_5 rfl Bo om) (Dr 5 rfl (De (α:=Lk) (xs:=linksL (SE)) (u:=I64 ((at_ (linksL (SE)) (k2:Int)).tm)) ty3 rfl Bo om om rfl) (Dr 6 rfl (Aa fld31_1 rfl) (Dr 7 rfl (As ty3) ?_)))))
    refine Dr 8 rfl (Rad rfl rfl) (Dr 9 rfl (Bd rfl) (Dz (Ai (Ar (S5 13 5 7 8 12 rfl rfl rfl rfl rfl) (Ah (Gm rfl (Gr (D3 rfl rfl) (Af (A6 rfl (fun c69=>?_) (fun c69=>?_))))))))))
    ·refine A2 (Gm rfl (Gm rfl (Ge1 (B1 (α:=Int) (cs:=[_]) (xs:=[((at_ (linksL (SE)) (k2:Int)).tm)+wd]) Am ty3 rfl rfl dc dc rfl rfl rfl rfl) fun ad13=>?_)))
     refine Ge2 (B2 (α:=Int) (e:=3) (xs:=out2) (ys:=([((at_ (linksL (SE)) (k2:Int)).tm)+wd]:List Int)) Am ty3 rfl rfl rfl mm Bo lcn dc rfl (fun _ _=>am)) fun ad14 cp15=>?_
     exact Ga rfl (Be (Al (Ai (A2 (Gm rfl (Gr (Rad rfl rfl) (Ga rfl (Be (B0 ((k2+1),(ad14),(cp15),(out2++([((at_ (linksL (SE)) (k2:Int)).tm)+wd]:List Int))) (by dsimp only;exact ⟨om,(by first|(rw [ho2,lateTm_yes om g50 asm,List.append_assoc])|(rw [ho2,lateTm_no om (.inr asm)]))⟩))))))))))
    ·exact Az (Al (Ai (A2 (Gm rfl (Gr (Rad rfl rfl) (Ga rfl (Be (B0 ((k2+1),(oa2),(oc2),(out2)) (by dsimp only;exact ⟨om,(by first|(rw [ho2,lateTm_yes om g50 asm,List.append_assoc])|(rw [ho2,lateTm_no om (.inr asm)]))⟩)))))))))
   ·refine Bt (Aq (Aq (A9 (Ai (Ah (Gm rfl (Gc2 (Aj call82 rfl rfl (Of_ok Bo om)) fun ad16 cp17=>?_)))))))
    refine Ga rfl (Af (Ay ?_))
    have hE:ofL out2=timesR kd wd mo es:=by unfold timesR;rw [hSE,ho2];first|rw [List.take_of_length_le om]|rw [late_none g50,late_none g50]
    exact A0 rfl rfl (vc 3 (.slice ad16 (timesR kd wd mo es).length cp17) (timesR kd wd mo es)::I) (by rw [←hE];exact Bz) ⟨ad16,cp17,by rw [←hE],rfl⟩
  ·refine Gpo (Gpo (Gpo (Gpo (Gpo (Gr (Ak rfl rfl) (Af (Ar (S5 56 5 7 8 12 rfl rfl rfl rfl rfl) (Cw rfl (Bt (Aq (Aq (A9 (Ai (Ah (Gm rfl (Gc2 (Aj call82 rfl rfl (Of_ok Bo om)) fun ad18 cp19=>?_))))))))))))))))
   refine Ga rfl (Af (Ay ?_))
   have hE:ofL out2=timesR kd wd mo es:=by unfold timesR;rw [hSE,ho2];first|rw [List.take_of_length_le om]|rw [late_none g50,late_none g50]
   exact A0 rfl rfl (vc 3 (.slice ad18 (timesR kd wd mo es).length cp19) (timesR kd wd mo es)::I) (by rw [←hE];exact Bz) ⟨ad18,cp19,by rw [←hE],rfl⟩
end Go.Sl
