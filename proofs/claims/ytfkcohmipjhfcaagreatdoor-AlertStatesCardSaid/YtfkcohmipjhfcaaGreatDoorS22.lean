/- A part of the proofs of statements of this seat: contracts of functions, and the plain laws that they lean on. No conditions. -/
import Derived.Test.YtfkcohmipjhfcaaGreatDoorS21
set_option linter.unusedVariables false
set_option linter.unusedSimpArgs false
set_option linter.unusedSectionVars false
open Go.Proofs.Tryz (prog)
namespace Go.Sl
open Go.Proofs
set_option maxRecDepth 4000
theorem qnot_t{q:Bool}{p:Prop}[Decidable p](h:(!q)=true)(hq:q=decide p):¬p:=λhp=>by rw [hq,decide_eq_true hp] at h;cases h
theorem qnot_f{q:Bool}{p:Prop}[Decidable p](h:(!q)=false)(hq:q=decide p):p:=Classical.byContradiction λhp=>by rw [hq,decide_eq_false hp] at h;cases h
theorem Until7_ok{κ:Ctx}{I:List Item}{nd kd wd mo:Int}{va:Value}{xs:List Lk}(hl:Sl κ I va xs):ep prog κ 160 [.agg #[e7 nd,va],.agg #[e7 kd,e7 wd,e7 mo]] I (λr J=>∃z:Int,r = .tuple #[e7 z,.bool (decide (untilC nd xs kd wd mo)),e7 (uErr nd xs kd wd mo)]/\UntilP nd xs kd wd mo z/\I=J):=by
 refine B3 hl.le λhmax=>?_
 refine Ce2 Tryz.func160 C C ?_
 refine Ah (Ge1 (Bc (cs:=[_,_]) C C C) λb1=>Ge1 (Bc (cs:=[_,_,_]) C C C) λb2=>Ga C (Ga C (Ga C (Af (Au (Ah (Gl3 ty31 ?_)))))))
 refine Gc0 (Ao call85 C C (CheckW7_ok kd wd mo)) ?_
 refine Ga C (Af (Ah (Gm C (Gr (Be C C) (Af (A6 C (λc17=>?_) (λc17=>?_)))))))
 ·refine Ah (Gm C (Ga C (Ga C (Ga C (Af (Aq (S3 6 5 4 C C C) (Aw (Ai ?_))))))))
  have hu:uErr nd xs kd wd mo=checkW kd wd mo:=by unfold uErr;rw [if_pos c17]
  have hn:¬untilC nd xs kd wd mo:=λh=>c17 (hu▸h.1)
  exact V.ret3 C C C C I A0 ⟨0,by rw [decide_eq_false hn,hu],.none hn,rfl⟩
 ·refine Ay (Aj (Au (Ah (Gl2 ty111 ?_))))
  refine Gc0 (Ao call129 C C (CheckS5_ok (nd:=nd) (Bh hl))) ?_
  refine Ga C (Af (Aq (S3 8 3 2 C C C) (Ah (Gm C (Gr (Be C C) (Af (A6 C (λc22=>?_) (λc22=>?_))))))))
  ·refine Ah (Gm C (Ga C (Ga C (Ga C (Af (Aw (Ai ?_)))))))
   have hu:uErr nd xs kd wd mo=checkS nd xs:=by unfold uErr;rw [if_neg c17]
   have hn:¬untilC nd xs kd wd mo:=λh=>c22 (hu▸h.1)
   exact V.ret3 C C C C I A0 ⟨0,by rw [decide_eq_false hn,hu],.none hn,rfl⟩
  ·refine Ay (Aj (Ah (Ga C (Ga C (Af (Au (Ah (Gf fld111_1 C (Gl ty109 ?_)))))))))
   refine Gr (Bx (α:=Lk) (xs:=xs) Ar C (Bh hl)) (Gm C (Af (A4 (Bu (σ:=Nat×Int×Bool) (λs=>([(3,.pointer (some ⟨b2,0,none⟩)),(9,e7 (s.2.1)),(10,.bool (s.2.2)),(25,va),(26,e7 ((xs.length:Nat):Int)),(27,e7 ((s.1:Nat):Int))]:Env)) (λs=>e8 b2 [e7 kd,e7 wd,e7 mo] 31::e8 b1 [e7 nd,va] 111::I) (λs=>(s.1<=xs.length)/\(s.2.2=decide (kd=2/\0<s.1))/\(¬(kd=2/\0<s.1)->s.2.1=0)/\(kd=2/\0<s.1->∃x∈xs,s.2.1=x.tm+wd)/\(kd=2->∀j,j<s.1->s.2.1<=(e_ xs j).tm+wd)) (λs=>xs.length - s.1) (0,0,false) (show ((0:Nat)<=xs.length)/\((false:Bool)=decide (kd=2/\0<(0:Nat)))/\(¬(kd=2/\0<(0:Nat))->(0:Int)=0)/\(kd=2/\0<(0:Nat)->∃x∈xs,(0:Int)=x.tm+wd)/\(kd=2->∀j,j<(0:Nat)->(0:Int)<=(e_ xs j).tm+wd) from ⟨om,(decide_eq_false (λh=>absurd h.2 om)).symm,(λ_=>rfl),(λh=>absurd h.2 om),(λ_ j hj=>absurd hj om)⟩) (Aa C (Aa B9 (Aa (Cr C (by first|rfl|simp)) (Aa C (Aa C (Aa B9 Bj)))))) (show Fit κ _ (e8 b2 [e7 kd,e7 wd,e7 mo] 31::e8 b1 [e7 nd,va] 111::I) from A5) ?_))))
   rintro ⟨k,z,q⟩ hp
   dsimp only at hp ⊢
   obtain ⟨hk,hq,hz0,hz1,hz2⟩:=hp
   refine Ah (Gr (A9 C C) (Af (Au (A6 C (λc28=>?_) (λc28=>?_)))))
   ·refine Ay (Aj (Au (A4 (Ah (Gr (A3 (α:=Lk) (xs:=xs) Ar ty146 C C (Bh hl) om om) (Gr (Bp (α:=Lk) (xs:=xs) ty146 C (Bh hl) om om) (Ge1 (A8 ty146 C) λb3=>Ge0 (C5 ty146) ?_)))))))
    have htk:=checkS_tm (Classical.not_not.1 c22) (k:Int) om om
    have hwk:=checkW_wd (Classical.not_not.1 c17)
    refine Af (Ah (Gf fld146_5 C (Gl ef ?_)))
    refine Gf fld31_1 C (Gl ef ?_)
    refine Gr (Rad C C) (Ga C (Af (Aq (S7 13 3 9 10 25 26 27 C C C C C C C) (Ah (Gf fld31_0 C (Gl ef ?_))))))
    refine Gr (Bi C C) (Gm C (Ba (d:=39) C (λg39=>?_) (λg39=>?_)))
    ·refine e9 (Ad C) (e9 (Cb C) (e9 (Ad C) (G.splitb (d:=42) C (λg42=>?_) (λg42=>?_))))
     ·exact eb (eb (eb (e9 (Am C C) (Gr (Am C C) (Af (Aq (S8 47 13 3 9 10 25 26 27 C C C C C C C C) (B7 C (Ax (Gm C (Ga C (Ga C (Bd (Ak (Aj (Ax (Gr (Rad C C) (Gm C (Bd (B2 ((k+1),(((e_ xs k).tm)+wd),(true)) (by dsimp only;exact ⟨om,(by first|exact (decide_eq_true om).symm|(rw [hq,decide_eq_decide];omega)|(rw [hq,decide_eq_decide];have hP:=qnot_f g42 hq;omega)),(λh=>by first|omega|exact hz0 om),(λh=>by first|exact ⟨_,Ca (i:=(k:Int)) om om,rfl⟩|exact hz1 om|(have hP:=qnot_f g42 hq;exact hz1 hP)),(λhk2=>by first|omega|exact Dk (λj hj=>by first|(have hP:=qnot_t g42 hq;omega)|(have h5:=hz2 hk2 j hj;omega)) (Int.le_refl _)|exact Dk (hz2 hk2) om)⟩))))))))))))))))))))
     ·refine e9 (Ad C) (e9 (Ad C) (e9 (A9 C C) (e9 (Al C C) (Gr (Am C C) (Af (Aq (S8 47 13 3 9 10 25 26 27 C C C C C C C C) (A6 C (λc47=>?_) (λc47=>?_))))))))
      ·exact Ax (Gm C (Ga C (Ga C (Bd (Ak (Aj (Ax (Gr (Rad C C) (Gm C (Bd (B2 ((k+1),(((e_ xs k).tm)+wd),(true)) (by dsimp only;exact ⟨om,(by first|exact (decide_eq_true om).symm|(rw [hq,decide_eq_decide];omega)|(rw [hq,decide_eq_decide];have hP:=qnot_f g42 hq;omega)),(λh=>by first|omega|exact hz0 om),(λh=>by first|exact ⟨_,Ca (i:=(k:Int)) om om,rfl⟩|exact hz1 om|(have hP:=qnot_f g42 hq;exact hz1 hP)),(λhk2=>by first|omega|exact Dk (λj hj=>by first|(have hP:=qnot_t g42 hq;omega)|(have h5:=hz2 hk2 j hj;omega)) (Int.le_refl _)|exact Dk (hz2 hk2) om)⟩))))))))))))
      ·exact Ay (Ak (Aj (Ax (Gr (Rad C C) (Gm C (Bd (B2 ((k+1),(z),(q)) (by dsimp only;exact ⟨om,(by first|exact (decide_eq_true om).symm|(rw [hq,decide_eq_decide];omega)|(rw [hq,decide_eq_decide];have hP:=qnot_f g42 hq;omega)),(λh=>by first|omega|exact hz0 om),(λh=>by first|exact ⟨_,Ca (i:=(k:Int)) om om,rfl⟩|exact hz1 om|(have hP:=qnot_f g42 hq;exact hz1 hP)),(λhk2=>by first|omega|exact Dk (λj hj=>by first|(have hP:=qnot_t g42 hq;omega)|(have h5:=hz2 hk2 j hj;omega)) (Int.le_refl _)|exact Dk (hz2 hk2) om)⟩))))))))
    ·exact eb (eb (eb (ee (ee (ee (eb (Gr (Al C C) (Af (Aq (S8 47 13 3 9 10 25 26 27 C C C C C C C C) (C2 C (Ay (Ak (Aj (Ax (Gr (Rad C C) (Gm C (Bd (B2 ((k+1),(z),(q)) (by dsimp only;exact ⟨om,(by first|exact (decide_eq_true om).symm|(rw [hq,decide_eq_decide];omega)|(rw [hq,decide_eq_decide];have hP:=qnot_f g42 hq;omega)),(λh=>by first|omega|exact hz0 om),(λh=>by first|exact ⟨_,Ca (i:=(k:Int)) om om,rfl⟩|exact hz1 om|(have hP:=qnot_f g42 hq;exact hz1 hP)),(λhk2=>by first|omega|exact Dk (λj hj=>by first|(have hP:=qnot_t g42 hq;omega)|(have h5:=hz2 hk2 j hj;omega)) (Int.le_refl _)|exact Dk (hz2 hk2) om)⟩)))))))))))))))))))
   ·refine Bs (Ap (Ap (A7 (Aj (Ah (Gm C (Gm C (Ga C (Ga C (Ga C (Af (Aw ?_))))))))))))
    have hu:uErr nd xs kd wd mo=0:=uErr_zero c17 c22
    have hc:untilC nd xs kd wd mo↔(kd=2/\0<k):=⟨λh=>⟨h.2.1,by have:=List.length_pos_iff.2 h.2.2;omega⟩,λh=>⟨hu,h.1,List.length_pos_iff.1 om⟩⟩
    exact V.ret3 C C C C I A0 ⟨z,by rw [hq,show decide (untilC nd xs kd wd mo)=decide (kd=2/\0<k) from decide_eq_decide.2 hc,hu],⟨λh=>⟨hz1 (hc.1 h),λy hy=>by obtain ⟨j,hj,rfl⟩:=mem_at hy;exact hz2 (hc.1 h).1 j om⟩,λh=>hz0 (λh2=>h (hc.2 h2))⟩,rfl⟩
theorem agedL_step{kd wd mo T z:Int}{ys:List Lk}{zs:List Ev}(hk:kd=2)(h:0<ys.length/\minT ys+wd<=T)(hz:z=minT ys+wd):agedL kd wd mo T (ys,zs)=agedL kd wd mo T (ys.filter (inW kd wd mo z ys),zs++goneL kd wd mo z ys):=by
 subst hk hz
 unfold agedL
 rw [if_pos rfl,if_pos rfl]
 exact ageL_step h
theorem agedL_stop{kd wd mo T:Int}{ys:List Lk}{zs:List Ev}(h:kd=2->¬(0<ys.length/\minT ys+wd<=T)):agedL kd wd mo T (ys,zs)=(ys,zs):=by
 unfold agedL
 by_cases hk:kd=2
 ·rw [if_pos hk];exact ageL_stop (h hk)
 ·rw [if_neg hk]
theorem aged_less{kd wd mo z:Int}{ys:List Lk}(hk:kd=2)(h:0<ys.length)(hz:z=minT ys+wd):(ys.filter (inW kd wd mo z ys)).length<ys.length:=by
 subst hk hz
 exact age_less (wd:=wd) (mo:=mo) h
theorem streamE_zero{nd:Int}{es:List Ev}(h1:¬(nd<0\/64<nd))(h2:¬65536<es.length):streamE nd es=streamS nd 0 es:=by unfold streamE;rw [if_neg h1,if_neg h2]
theorem fitE_of{nd:Int}{e:Ev}(h1:¬checkE e≠0)(h2:¬(nd<=e.u\/nd<=e.v)):fitE nd e=0:=by unfold fitE;rw [if_neg h1,if_neg h2]
theorem fitE_six{nd:Int}{e:Ev}(h1:¬checkE e≠0)(h2:nd<=e.u\/nd<=e.v):fitE nd e=6:=by unfold fitE;rw [if_neg h1,if_pos h2]
theorem fitE_bad{nd:Int}{e:Ev}(h1:checkE e≠0):fitE nd e=checkE e:=by unfold fitE;rw [if_pos h1]
theorem ref_to{nd:Int}{es:List Ev}{k:Nat}(hf:FitOk nd (e_ es k))(h:0<k->¬(e_ es k).tm<(e_ es ((k:Int) - 1)).tm):lastT es k<=(e_ es k).tm:=by
 unfold lastT
 split
 ·exact hf.tm.1
 ·have:=h om;omega
theorem lastT_pos{es:List Ev}{k:Nat}(h:0<k):lastT es k=(e_ es ((k:Int) - 1)).tm:=by unfold lastT;rw [if_neg om]
set_option maxHeartbeats 4000000 in
theorem Slide7_ok{κ:Ctx}{I:List Item}{nd kd wd mo:Int}{va:Value}{es:List Ev}(hl:Sl κ I va es):ep prog κ 93 [e7 nd,va,.agg #[e7 kd,e7 wd,e7 mo]] I (λr J=>((slideE nd kd wd mo es)≠0/\r = .tuple #[.slice none 0 0,e7 (slideE nd kd wd mo es)]/\I=J)\/(∃a c,(slideE nd kd wd mo es)=0/\r = .tuple #[.slice a (slideS kd wd mo es).2.length c,e7 0]/\J=vc 108 (.slice a (slideS kd wd mo es).2.length c) (slideS kd wd mo es).2::I)):=by
 refine B3 hl.le λhmax=>?_
 refine Ce3 Tryz.func93 C C ?_
 refine Ah (Ge1 (Bc (cs:=[_,_,_]) C C C) λb1=>Ga C (Ga C (Af (Au (Ah (Gl3 ty31 ?_))))))
 refine Gc0 (Ao call85 C C (CheckW7_ok kd wd mo)) ?_
 refine Ga C (Af (Ah (Gm C (Gr (Be C C) (Af (A6 C (λc24=>?_) (λc24=>?_)))))))
 ·refine Ah (Gm C (Ga C (Ga C (Af (Aq (S2 7 6 C C) (Aw (Ai ?_)))))))
  have hz:(slideE nd kd wd mo es)=checkW kd wd mo:=by unfold slideE;rw [if_pos c24]
  exact Co C C C I A0 (.inl ⟨by rw [hz];exact c24,by rw [hz],rfl⟩)
 ·refine Ay (Aj (Au (Ah (Gm C (Gr (A9 C C) (Gm C (Ba (d:=28) C (λg28=>?_) (λg28=>?_))))))))
  ·refine eb (eb (Gr (Am C C) (Af (Aq (S4 31 5 0 1 C C C C) (B7 C (Ah (Ga C (Ga C (Af (Aw (Ai ?_)))))))))))
   have hz:(slideE nd kd wd mo es)=1:=(slideE_st c24).trans (by unfold streamE;rw [if_pos om])
   exact Co C C C I A0 (.inl ⟨by rw [hz];decide,by rw [hz],rfl⟩)
  ·refine e9 (Ad C) (e9 (Bv C C) (Gr (Al C C) (Af (Aq (S4 31 5 0 1 C C C C) (A6 C (λc31=>?_) (λc31=>?_))))))
   ·refine Ah (Ga C (Ga C (Af (Aw (Ai ?_)))))
    have hz:(slideE nd kd wd mo es)=1:=(slideE_st c24).trans (by unfold streamE;rw [if_pos om])
    exact Co C C C I A0 (.inl ⟨by rw [hz];decide,by rw [hz],rfl⟩)
   ·refine Ay (Aj (Au (Ah (Gm C (Gr (Bx (α:=Ev) (xs:=es) Az C (Bh hl)) (Gr (Bv C C) (Af (A6 C (λc34=>?_) (λc34=>?_)))))))))
    ·refine Ah (Ga C (Ga C (Af (Aw (Ai ?_)))))
     have hz:(slideE nd kd wd mo es)=3:=(slideE_st c24).trans (by unfold streamE;rw [if_neg om,if_pos om])
     exact Co C C C I A0 (.inl ⟨by rw [hz];decide,by rw [hz],rfl⟩)
    ·refine Ay (Aj (Ah (Gm C (Gr (Bf (cells:=[_,_]) ty111 Cw pl111 C C) (Ge1 (A8 ty111 C) λb2=>Ge0 (Cd ty111) ?_)))))
     refine Af (Ah (Ga C (Af (Au (Ah (Gm C (Gr (Bx (α:=Ev) (xs:=es) Az C (Bh hl)) (Gm C (Af (Aq (S8 39 38 37 10 9 5 0 1 C C C C C C C C) (A4 (Bu (σ:=Nat×(Option Addr)×Nat×(Option Addr)×Nat×(List Lk)×(List Ev)) (λs=>([(0,e7 nd),(1,va),(5,.pointer (some ⟨b1,0,none⟩)),(9,.pointer (some ⟨b2,0,none⟩)),(10,.slice s.2.2.2.1 s.2.2.2.2.2.2.length s.2.2.2.2.1),(37,va),(38,e7 ((es.length:Nat):Int)),(39,e7 ((s.1:Nat):Int))]:Env)) (λs=>e8 b2 [e7 nd,.slice s.2.1 s.2.2.2.2.2.1.length s.2.2.1] 111::vc 146 (.slice s.2.1 s.2.2.2.2.2.1.length s.2.2.1) (s.2.2.2.2.2.1)::vc 108 (.slice s.2.2.2.1 s.2.2.2.2.2.2.length s.2.2.2.2.1) (s.2.2.2.2.2.2)::e8 b1 [e7 kd,e7 wd,e7 mo] 31::I) (λs=>(s.1<=es.length)/\(slideS kd wd mo (List.take s.1 es)=(s.2.2.2.2.2.1,s.2.2.2.2.2.2))/\(SlI nd kd wd (lastT es s.1) s.2.2.2.2.2.1)/\(s.2.2.2.2.2.1.length+s.2.2.2.2.2.2.length<=2*s.1)/\(streamE nd es=streamS nd (lastT es s.1) (es.drop s.1))/\(0<=lastT es s.1)) (λs=>es.length - s.1) (0,none,0,none,0,[],[]) (show ((0:Nat)<=es.length)/\(slideS kd wd mo (List.take (0:Nat) es)=(([]:List Lk),([]:List Ev)))/\(SlI nd kd wd (lastT es (0:Nat)) ([]:List Lk))/\(([]:List Lk).length+([]:List Ev).length<=2*(0:Nat))/\(streamE nd es=streamS nd (lastT es (0:Nat)) (es.drop (0:Nat)))/\(0<=lastT es (0:Nat)) from ⟨om,rfl,(SlI.nil om),(by simp),(streamE_zero om om),(Int.le_refl _)⟩) (Aa C (Aa C (Aa C (Aa C (Aa (Cr C (by first|rfl|simp)) (Aa C (Aa C (Aa B9 Bj)))))))) (show Fit κ _ (e8 b2 [e7 nd,.slice none ([]).length 0] 111::vc 146 (.slice none ([]).length 0) (([]))::vc 108 (.slice none ([]).length 0) (([]))::e8 b1 [e7 kd,e7 wd,e7 mo] 31::I) from (Cc (Bt 108 _) (Cc (Bt 146 _) B4))) ?_))))))))))))
     rintro ⟨k,a1,c1,o1,d1,xs,out⟩ hp
     dsimp only at hp ⊢
     obtain ⟨hk,hst,hI,hs,hs0,hl0⟩:=hp
     refine Ah (Gr (A9 C C) (Af (Au (A6 C (λc40=>?_) (λc40=>?_)))))
     ·refine Ay (Aj (Au (A4 (Ah (Gm C (Gr (A3 (α:=Ev) (xs:=es) Az ty108 C C (Bh hl) om om) (Gr (Bp (α:=Ev) (xs:=es) ty108 C (Bh hl) om om) (Ge1 (A8 ty108 C) λb3=>Ga C (Ge0 (E2 ty108) ?_)))))))))
      refine Af (Aq (S10 11 12 0 1 5 9 10 37 38 39 C C C C C C C C C C) (Au (Ah (Gl7 ty108 ?_))))
      refine Gc0 (Ao call155 C C (CheckE4_ok (e_ es k))) ?_
      refine Ga C (Af (Ah (Gm C (Gr (Be C C) (Af (Aq (S12 47 13 11 12 0 1 5 9 10 37 38 39 C C C C C C C C C C C C) (A6 C (λc47=>?_) (λc47=>?_))))))))
      ·refine Ah (Gm C (Ga C (Ga C (Af (Aq (S2 7 6 C C) (Aw (Ai (Av (Ai (Ai (Av (Ai ?_))))))))))))
       have hz:(slideE nd kd wd mo es)=checkE (e_ es k):=(slideE_st c24).trans (hs0.trans ((streamS_bad om (by rw [fitE_bad c47];exact c47)).trans (fitE_bad c47)))
       exact Co C C C I A0 (.inl ⟨by rw [hz];exact c47,by rw [hz],rfl⟩)
      ·refine Ay (Aj (Au (Ah (Gf fld108_2 C (Gl ef ?_)))))
       refine Gm C (Gr (B8 C C) (Gm C (Ba (d:=53) C (λg53=>?_) (λg53=>?_))))
       ·refine eb (eb (eb (eb (Gr (Am C C) (Af (Aq (S11 58 11 12 0 1 5 9 10 37 38 39 C C C C C C C C C C C) (B7 C (Ah (Ga C (Ga C (Af (Aw (Ai (Av (Ai (Ai (Av (Ai ?_))))))))))))))))))
        have hz:(slideE nd kd wd mo es)=6:=(slideE_st c24).trans (hs0.trans ((streamS_bad om (by rw [fitE_six c47 om];decide)).trans (fitE_six c47 om)))
        exact Co C C C I A0 (.inl ⟨by rw [hz];decide,by rw [hz],rfl⟩)
       ·refine e9 (Ab fld108_3 C) (e9 (As ef) ?_)
        refine e9 (Ad C) (e9 (B8 C C) (Gr (Al C C) (Af (Aq (S11 58 11 12 0 1 5 9 10 37 38 39 C C C C C C C C C C C) (A6 C (λc58=>?_) (λc58=>?_))))))
        ·refine Ah (Ga C (Ga C (Af (Aw (Ai (Av (Ai (Ai (Av (Ai ?_))))))))))
         have hz:(slideE nd kd wd mo es)=6:=(slideE_st c24).trans (hs0.trans ((streamS_bad om (by rw [fitE_six c47 om];decide)).trans (fitE_six c47 om)))
         exact Co C C C I A0 (.inl ⟨by rw [hz];decide,by rw [hz],rfl⟩)
        ·refine Ay (Aj (En (σ:=Nat) (λs=>([(0,e7 nd),(1,va),(5,.pointer (some ⟨b1,0,none⟩)),(9,.pointer (some ⟨b2,0,none⟩)),(10,.slice o1 out.length d1),(12,.pointer (some ⟨b3,0,none⟩)),(37,va),(38,e7 ((es.length:Nat):Int)),(39,e7 ((k:Int)))]:Env)) (λs=>e8 b3 [e7 ((e_ es k).kd),e7 ((e_ es k).tm),e7 ((e_ es k).u),e7 ((e_ es k).v),e7 ((e_ es k).w),e7 ((e_ es k).lb),e7 ((e_ es k).sg)] 108::e8 b2 [e7 nd,.slice a1 xs.length c1] 111::vc 146 (.slice a1 xs.length c1) (xs)::vc 108 (.slice o1 out.length d1) (out)::e8 b1 [e7 kd,e7 wd,e7 mo] 31::I) (λs=>(lastT es k<=(e_ es k).tm)/\(FitOk nd (e_ es k))) ?_ ?_))
         ·refine Au (Bl mixed (Br (e8 b3 [e7 ((e_ es k).kd),e7 ((e_ es k).tm),e7 ((e_ es k).u),e7 ((e_ es k).v),e7 ((e_ es k).w),e7 ((e_ es k).lb),e7 ((e_ es k).sg)] 108::e8 b2 [e7 nd,.slice a1 xs.length c1] 111::vc 146 (.slice a1 xs.length c1) (xs)::vc 108 (.slice o1 out.length d1) (out)::e8 b1 [e7 kd,e7 wd,e7 mo] 31::I) 13 (Dr 0 C (Ad C) (Dr 1 C (Bv C C) (Dr 2 C (Ad C) (C9 (d:=61) C (λg61=>?_) (λg61=>?_)))))))
          ·refine Dro 3 C (Ad C) (Dro 4 C (Ad C) (Dro 5 C (Rsu C C) (Dro 6 C (A3 (α:=Ev) (xs:=es) Az ty108 C C (Bh hl) om om) (Dro 7 C (Dc (α:=Ev) (xs:=es) fld108_1 C (Bh hl) om) (Dro 8 C (De (α:=Ev) (xs:=es) (u:=e7 ((e_ es ((k:Int) - 1)).tm)) ef C (Bh hl) om om C) (Dro 9 C (Ab fld108_1 C) (Dro 10 C (As ef) ?_)))))))
           refine Dro 11 C (Bv C C) (Dr 12 C (Am C C) (Dz (Aj (Aq (S10 71 12 0 1 5 9 10 37 38 39 C C C C C C C C C C) (A6 C (λc71=>?_) (λc71=>?_))))))
           ·refine Ah (Ga C (Ga C (Af (Aw (Ai (Av (Ai (Ai (Av (Ai ?_))))))))))
            have hz:(slideE nd kd wd mo es)=9:=(slideE_st c24).trans (hs0.trans (streamS_late om (fitE_of c47 om) (by rw [lastT_pos om];omega)))
            exact Co C C C I A0 (.inl ⟨by rw [hz];decide,by rw [hz],rfl⟩)
           ·exact Ay (Di ((0)) ⟨(ref_to (nd:=nd) (fitE_ok.1 (fitE_of c47 om)) (λhk0=>by omega)),(fitE_ok.1 (fitE_of c47 om))⟩ (hI:=by (try dsimp only);exact (Dj _)))
          ·exact Dpo 3 C (Dpo 4 C (Dpo 5 C (Dpo 6 C (Dpo 7 C (Dpo 8 C (Dpo 9 C (Dpo 10 C (Dpo 11 C (Dr 12 C (Al C C) (Dz (Aj (Aq (S10 71 12 0 1 5 9 10 37 38 39 C C C C C C C C C C) (C2 C (Ay (Di ((0)) ⟨(ref_to (nd:=nd) (fitE_ok.1 (fitE_of c47 om)) (λhk0=>by omega)),(fitE_ok.1 (fitE_of c47 om))⟩ (hI:=by (try dsimp only);exact (Dj _)))))))))))))))))
         ·rintro u0 hp
          obtain ⟨hto,hfe⟩:(lastT es k<=(e_ es k).tm)/\(FitOk nd (e_ es k)):=hp
          show W prog κ 138 _ _ ([(0,e7 nd),(1,va),(5,.pointer (some ⟨b1,0,none⟩)),(9,.pointer (some ⟨b2,0,none⟩)),(10,.slice o1 out.length d1),(12,.pointer (some ⟨b3,0,none⟩)),(37,va),(38,e7 ((es.length:Nat):Int)),(39,e7 ((k:Int)))]:Env) (e8 b3 [e7 ((e_ es k).kd),e7 ((e_ es k).tm),e7 ((e_ es k).u),e7 ((e_ es k).v),e7 ((e_ es k).w),e7 ((e_ es k).lb),e7 ((e_ es k).sg)] 108::e8 b2 [e7 nd,.slice a1 xs.length c1] 111::vc 146 (.slice a1 xs.length c1) (xs)::vc 108 (.slice o1 out.length d1) (out)::e8 b1 [e7 kd,e7 wd,e7 mo] 31::I)
          refine En (σ:=(Option Addr)×Nat×(Option Addr)×Nat×(List Lk)×(List Ev)) (λs=>([(0,e7 nd),(1,va),(5,.pointer (some ⟨b1,0,none⟩)),(9,.pointer (some ⟨b2,0,none⟩)),(10,.slice s.2.2.1 s.2.2.2.2.2.length s.2.2.2.1),(12,.pointer (some ⟨b3,0,none⟩)),(37,va),(38,e7 ((es.length:Nat):Int)),(39,e7 ((k:Int)))]:Env)) (λs=>e8 b2 [e7 nd,.slice s.1 s.2.2.2.2.1.length s.2.1] 111::vc 146 (.slice s.1 s.2.2.2.2.1.length s.2.1) (s.2.2.2.2.1)::vc 108 (.slice s.2.2.1 s.2.2.2.2.2.length s.2.2.2.1) (s.2.2.2.2.2)::e8 b1 [e7 kd,e7 wd,e7 mo] 31::e8 b3 [e7 ((e_ es k).kd),e7 ((e_ es k).tm),e7 ((e_ es k).u),e7 ((e_ es k).v),e7 ((e_ es k).w),e7 ((e_ es k).lb),e7 ((e_ es k).sg)] 108::I) (λs=>((agedL kd wd mo (e_ es k).tm (xs,out))=(s.2.2.2.2.1,s.2.2.2.2.2))/\(SlI nd kd wd (e_ es k).tm s.2.2.2.2.1)/\(s.2.2.2.2.1.length+s.2.2.2.2.2.length=xs.length+out.length)) ?_ ?_
          ·refine A4 (Bu (σ:=(Option Addr)×Nat×(Option Addr)×Nat×(List Lk)×(List Ev)) (λs=>([(0,e7 nd),(1,va),(5,.pointer (some ⟨b1,0,none⟩)),(9,.pointer (some ⟨b2,0,none⟩)),(10,.slice s.2.2.1 s.2.2.2.2.2.length s.2.2.2.1),(12,.pointer (some ⟨b3,0,none⟩)),(37,va),(38,e7 ((es.length:Nat):Int)),(39,e7 ((k:Int)))]:Env)) (λs=>e8 b2 [e7 nd,.slice s.1 s.2.2.2.2.1.length s.2.1] 111::vc 146 (.slice s.1 s.2.2.2.2.1.length s.2.1) (s.2.2.2.2.1)::vc 108 (.slice s.2.2.1 s.2.2.2.2.2.length s.2.2.2.1) (s.2.2.2.2.2)::e8 b1 [e7 kd,e7 wd,e7 mo] 31::e8 b3 [e7 ((e_ es k).kd),e7 ((e_ es k).tm),e7 ((e_ es k).u),e7 ((e_ es k).v),e7 ((e_ es k).w),e7 ((e_ es k).lb),e7 ((e_ es k).sg)] 108::I) (λs=>((agedL kd wd mo (e_ es k).tm (xs,out))=agedL kd wd mo (e_ es k).tm (s.2.2.2.2.1,s.2.2.2.2.2))/\(SlI nd kd wd (lastT es k) s.2.2.2.2.1)/\(s.2.2.2.2.1.length+s.2.2.2.2.2.length=xs.length+out.length)) (λs=>s.2.2.2.2.1.length) (a1,c1,o1,d1,xs,out) (show ((agedL kd wd mo (e_ es k).tm (xs,out))=agedL kd wd mo (e_ es k).tm ((xs:List Lk),(out:List Ev)))/\(SlI nd kd wd (lastT es k) (xs:List Lk))/\((xs:List Lk).length+(out:List Ev).length=xs.length+out.length) from ⟨rfl,hI,rfl⟩) (Aa C (Aa C (Aa C (Aa C (Aa (Cr C (by first|rfl|simp)) (Aa C (Aa C (Aa C (Aa C Bj))))))))) (show Fit κ _ (e8 b2 [e7 nd,.slice a1 (xs).length c1] 111::vc 146 (.slice a1 (xs).length c1) ((xs))::vc 108 (.slice o1 (out).length d1) ((out))::e8 b1 [e7 kd,e7 wd,e7 mo] 31::e8 b3 [e7 ((e_ es k).kd),e7 ((e_ es k).tm),e7 ((e_ es k).u),e7 ((e_ es k).v),e7 ((e_ es k).w),e7 ((e_ es k).lb),e7 ((e_ es k).sg)] 108::I) from B4) ?_)
           rintro ⟨a3,c3,o3,d3,us,vs⟩ hp
           dsimp only at hp ⊢
           obtain ⟨hag0,hJ,hs3⟩:=hp
           refine A4 (Ah (Gl2 ty111 ?_))
           refine Gl3 ty31 ?_
           refine G.e (Ao call160 C C (Until7_ok (nd:=nd) (kd:=kd) (wd:=wd) (mo:=mo) Bg)) ?_
           rintro _ _ ⟨_,_,⟨zu4,rfl,huzu4,rfl⟩,rfl,rfl⟩
           refine Gm C (Gr (A2 C C) (Gr (A2 C C) (Gr (A2 C C) (Ga C (Ga C (Ga C (Af (Aq (S11 15 14 0 1 5 9 10 12 37 38 39 C C C C C C C C C C C) (Au (Ah (Gm C (Gr (C0 C) (Gm C (Ba (d:=81) C (λg81=>?_) (λg81=>?_)))))))))))))))
           ·refine eb (eb (eb (eb (Gr (Am C C) (Af (Aq (S11 86 14 0 1 5 9 10 12 37 38 39 C C C C C C C C C C C) (B7 C (Bs (Ap (E4 C (Ap (A7 ?_))))))))))))
            have hstop:kd=2->¬(0<us.length/\minT us+wd<=(e_ es k).tm):=λhk2 h=>by have hc:untilC nd us kd wd mo:=⟨uErr_zero c24 (λh=>h hJ.val),hk2,List.length_pos_iff.1 h.1⟩;first|exact absurd hc g81|(have hz:=minT_uniq (huzu4.yes hc);omega)
            exact Di ((a3),(c3),(o3),(d3),(us),(vs)) (by dsimp only;exact ⟨(hag0.trans (agedL_stop hstop)),(hJ.later hto hstop),hs3⟩)
           ·refine e9 (Ad C) (e9 (Ab fld108_1 C) (e9 (As ef) ?_))
            refine e9 (Bv C C) (Gr (Al C C) (Af (Aq (S11 86 14 0 1 5 9 10 12 37 38 39 C C C C C C C C C C C) (A6 C (λc86=>?_) (λc86=>?_)))))
            ·refine Bs (Ap (E4 C (Ap (A7 ?_))))
             have hstop:kd=2->¬(0<us.length/\minT us+wd<=(e_ es k).tm):=λhk2 h=>by have hc:untilC nd us kd wd mo:=⟨uErr_zero c24 (λh=>h hJ.val),hk2,List.length_pos_iff.1 h.1⟩;first|exact absurd hc g81|(have hz:=minT_uniq (huzu4.yes hc);omega)
             exact Di ((a3),(c3),(o3),(d3),(us),(vs)) (by dsimp only;exact ⟨(hag0.trans (agedL_stop hstop)),(hJ.later hto hstop),hs3⟩)
            ·refine Ay (Aj (Ah (Gl2 ty111 ?_)))
             refine Gl3 ty31 ?_
             refine Gm C ?_
             have hfm:=hfe.tm
             have hc:untilC nd us kd wd mo:=by first|exact Classical.not_not.1 g81|assumption
             have hpos:0<us.length:=List.length_pos_iff.2 hc.2.2
             have hz:zu4=minT us+wd:=minT_uniq (huzu4.yes hc)
             have hfz:=hJ.first hc.2.1 hpos
             have hask:askE nd us kd wd mo zu4=0:=hJ.ask (Classical.not_not.1 c24) om om
             have hglz:=gone_len kd wd mo zu4 us
             refine G.e (Ao call161 C C (Expired7_ok (nd:=nd) (kd:=kd) (wd:=wd) (mo:=mo) (nw:=zu4) (xs:=us) Bg (by first|omega|(have h:=stepL_len ys (e_ es k);omega)))) ?_
             rintro _ _ ⟨_,_,(⟨hnead5,rfl,rfl⟩|⟨ad5,cp6,hzad5,rfl,rfl⟩),rfl,rfl⟩
             ·exact absurd hask hnead5
             ·show G prog κ _ _ _ _ ([(91,.tuple #[.slice ad5 (goneL kd wd mo zu4 us).length cp6,e7 0]),(90,e7 zu4),(89,.agg #[e7 kd,e7 wd,e7 mo]),(88,.agg #[e7 nd,.slice a3 us.length c3]),(86,.bool (decide (((e_ es k).tm)<zu4))),(14,e7 zu4),(0,e7 nd),(1,va),(5,.pointer (some ⟨b1,0,none⟩)),(9,.pointer (some ⟨b2,0,none⟩)),(10,.slice o3 vs.length d3),(12,.pointer (some ⟨b3,0,none⟩)),(37,va),(38,e7 ((es.length:Nat):Int)),(39,e7 ((k:Int)))]:Env) (vc 108 (.slice ad5 (goneL kd wd mo zu4 us).length cp6) (goneL kd wd mo zu4 us)::e8 b2 [e7 nd,.slice a3 us.length c3] 111::vc 146 (.slice a3 us.length c3) (us)::vc 108 (.slice o3 vs.length d3) (vs)::e8 b1 [e7 kd,e7 wd,e7 mo] 31::e8 b3 [e7 ((e_ es k).kd),e7 ((e_ es k).tm),e7 ((e_ es k).u),e7 ((e_ es k).v),e7 ((e_ es k).w),e7 ((e_ es k).lb),e7 ((e_ es k).sg)] 108::I)
              refine Gm C (Gr (A2 C C) (Gr (A2 C C) (Ga C (Ga C (Af (Aq (S10 17 0 1 5 9 10 12 37 38 39 C C C C C C C C C C) (Ah (Gl2 ty111 ?_))))))))
              refine Gm C (G.e (Ao call162 C C (Cm (J:=vc 146 (.slice a3 us.length c3) (us)::vc 108 (.slice ad5 (goneL kd wd mo zu4 us).length cp6) (goneL kd wd mo zu4 us)::e8 b2 [e7 nd,.slice a3 us.length c3] 111::vc 108 (.slice o3 vs.length d3) (vs)::e8 b1 [e7 kd,e7 wd,e7 mo] 31::e8 b3 [e7 ((e_ es k).kd),e7 ((e_ es k).tm),e7 ((e_ es k).u),e7 ((e_ es k).v),e7 ((e_ es k).w),e7 ((e_ es k).lb),e7 ((e_ es k).sg)] 108::I) B4 (All5_base (nd:=nd) (xs:=us) (es:=goneL kd wd mo zu4 us) Bg hJ.val (fitgone hJ.val om) (by first|omega|(have h:=stepL_len ys (e_ es k);have h9:=gone_len kd wd mo (e_ es k).tm (em ys (e_ es k));omega))))) ?_)
              rintro _ _ ⟨_,_,⟨⟨ad7,cp8,nn9⟩,rfl,rfl⟩,rfl,rfl⟩
              show G prog κ _ _ _ _ ([(97,.tuple #[.agg #[e7 nd,.slice ad7 (List.foldl em us (goneL kd wd mo zu4 us)).length cp8],e7 nn9,e7 0]),(96,.slice ad5 (goneL kd wd mo zu4 us).length cp6),(95,.agg #[e7 nd,.slice a3 us.length c3]),(17,.slice ad5 (goneL kd wd mo zu4 us).length cp6),(0,e7 nd),(1,va),(5,.pointer (some ⟨b1,0,none⟩)),(9,.pointer (some ⟨b2,0,none⟩)),(10,.slice o3 vs.length d3),(12,.pointer (some ⟨b3,0,none⟩)),(37,va),(38,e7 ((es.length:Nat):Int)),(39,e7 ((k:Int)))]:Env) (vc 146 (.slice ad7 (List.foldl em us (goneL kd wd mo zu4 us)).length cp8) (List.foldl em us (goneL kd wd mo zu4 us))::vc 108 (.slice ad5 (goneL kd wd mo zu4 us).length cp6) (goneL kd wd mo zu4 us)::e8 b2 [e7 nd,.slice a3 us.length c3] 111::vc 108 (.slice o3 vs.length d3) (vs)::e8 b1 [e7 kd,e7 wd,e7 mo] 31::e8 b3 [e7 ((e_ es k).kd),e7 ((e_ es k).tm),e7 ((e_ es k).u),e7 ((e_ es k).v),e7 ((e_ es k).w),e7 ((e_ es k).lb),e7 ((e_ es k).sg)] 108::I)
              refine Gm C (Gr (A2 C C) (Gr (A2 C C) (Gr (A2 C C) (Ge0 (Cd ty111) ?_))))
              refine Af (Aq (S10 17 0 1 5 9 10 12 37 38 39 C C C C C C C C C C) (Ax (Gm C (Gm C (Ge2 (B1 (α:=Ev) (e:=108) (xs:=vs) (ys:=goneL kd wd mo zu4 us) Az ty108 C C C mm Bg (by first|omega|(simp only [List.length_append,List.length_cons,List.length_nil];omega)|(have h:=stepL_len ys (e_ es k);have h9:=gone_len kd wd mo (e_ es k).tm (em ys (e_ es k));first|omega|(simp only [List.length_append,List.length_cons,List.length_nil];omega))) dc C (λ_ _=>am)) λad10 cp11=>?_)))))
              refine Ga C (Bd (Ak ?_))
              have hg:=gone_steps (kd:=kd) (wd:=wd) (mo:=mo) (nw:=zu4) hJ.val
              have hgl:=gone_len kd wd mo zu4 us
              exact B2 ((ad7),(cp8),(ad10),(cp11),(List.filter (inW kd wd mo zu4 us) us),(vs++goneL kd wd mo zu4 us)) (by dsimp only;exact ⟨(hag0.trans (agedL_step hc.2.1 ⟨hpos,by omega⟩ hz)),(hJ.filter _),(by rw [List.length_append];omega)⟩) (hlt:=by (try dsimp only);exact (aged_less hc.2.1 hpos hz)) (hI:=by (try dsimp only);exact (by rw [←hg];exact B4))
          ·rintro ⟨a2,c2,o2,d2,ys,zs⟩ hp
           obtain ⟨hag,hI2,hs2⟩:((agedL kd wd mo (e_ es k).tm (xs,out))=(ys,zs))/\(SlI nd kd wd (e_ es k).tm ys)/\(ys.length+zs.length=xs.length+out.length):=hp
           show W prog κ 138 _ _ ([(0,e7 nd),(1,va),(5,.pointer (some ⟨b1,0,none⟩)),(9,.pointer (some ⟨b2,0,none⟩)),(10,.slice o2 zs.length d2),(12,.pointer (some ⟨b3,0,none⟩)),(37,va),(38,e7 ((es.length:Nat):Int)),(39,e7 ((k:Int)))]:Env) (e8 b2 [e7 nd,.slice a2 ys.length c2] 111::vc 146 (.slice a2 ys.length c2) (ys)::vc 108 (.slice o2 zs.length d2) (zs)::e8 b1 [e7 kd,e7 wd,e7 mo] 31::e8 b3 [e7 ((e_ es k).kd),e7 ((e_ es k).tm),e7 ((e_ es k).u),e7 ((e_ es k).v),e7 ((e_ es k).w),e7 ((e_ es k).lb),e7 ((e_ es k).sg)] 108::I)
           refine Ah (Gl2 ty111 ?_)
           refine Gl7 ty108 ?_
           refine G.e (Ao call94 C C (Apply5_ok (nd:=nd) (e:=(e_ es k)) Bg hI2.val hfe om)) ?_
           rintro _ _ ⟨_,_,⟨⟨ad12,cp13,ad14,nn15,cp16⟩,⟨rfl,hnn15⟩,rfl⟩,rfl,rfl⟩
           show G prog κ _ _ _ _ ([(107,.tuple #[.agg #[e7 nd,.slice ad12 (em ys (e_ es k)).length cp13],.slice ad14 nn15 cp16,e7 0]),(106,.agg #[e7 ((e_ es k).kd),e7 ((e_ es k).tm),e7 ((e_ es k).u),e7 ((e_ es k).v),e7 ((e_ es k).w),e7 ((e_ es k).lb),e7 ((e_ es k).sg)]),(105,.agg #[e7 nd,.slice a2 ys.length c2]),(0,e7 nd),(1,va),(5,.pointer (some ⟨b1,0,none⟩)),(9,.pointer (some ⟨b2,0,none⟩)),(10,.slice o2 zs.length d2),(12,.pointer (some ⟨b3,0,none⟩)),(37,va),(38,e7 ((es.length:Nat):Int)),(39,e7 ((k:Int)))]:Env) (vc 146 (.slice ad12 (em ys (e_ es k)).length cp13) (em ys (e_ es k))::e8 b2 [e7 nd,.slice a2 ys.length c2] 111::vc 146 (.slice a2 ys.length c2) (ys)::vc 108 (.slice o2 zs.length d2) (zs)::e8 b1 [e7 kd,e7 wd,e7 mo] 31::e8 b3 [e7 ((e_ es k).kd),e7 ((e_ es k).tm),e7 ((e_ es k).u),e7 ((e_ es k).v),e7 ((e_ es k).w),e7 ((e_ es k).lb),e7 ((e_ es k).sg)] 108::I)
           have hnn15:nn15<=2*ys.length+1:=hnn15
           refine Gm C (Gr (A2 C C) (Gr (A2 C C) (Gr (A2 C C) (Ge0 (Cd ty111) ?_))))
           have hI3:SlI nd kd wd (e_ es k).tm (em ys (e_ es k)):=hI2.step hfe rfl (checkW_one (Classical.not_not.1 c24))
           have hs1:streamE nd es=streamS nd (lastT es (k+1)) (es.drop (k+1)):=hs0.trans (streamS_step om (fitE_ok.2 hfe) om)
           refine Af (Aq (S9 0 1 5 9 10 12 37 38 39 C C C C C C C C C) (Ah (Gm C (Gl7 ty108 ?_))))
           refine Ge1 (B0 (α:=Ev) (cs:=[e7 ((e_ es k).kd),e7 ((e_ es k).tm),e7 ((e_ es k).u),e7 ((e_ es k).v),e7 ((e_ es k).w),e7 ((e_ es k).lb),e7 ((e_ es k).sg)]) (xs:=[⟨(e_ es k).kd,(e_ es k).tm,(e_ es k).u,(e_ es k).v,(e_ es k).w,(e_ es k).lb,(e_ es k).sg⟩]) Az ty108 C C dc dc C kr C C) λad17=>?_
           refine Ge2 (B1 (α:=Ev) (e:=108) (xs:=zs) (ys:=([⟨(e_ es k).kd,(e_ es k).tm,(e_ es k).u,(e_ es k).v,(e_ es k).w,(e_ es k).lb,(e_ es k).sg⟩]:List Ev)) Az ty108 C C C mm Bg (by first|omega|(simp only [List.length_append,List.length_cons,List.length_nil];omega)|(have h:=stepL_len ys (e_ es k);have h9:=gone_len kd wd mo (e_ es k).tm (em ys (e_ es k));first|omega|(simp only [List.length_append,List.length_cons,List.length_nil];omega))) dc C (λ_ _=>am)) λad18 cp19=>?_
           refine Ga C (Af (Aq (S9 10 0 1 5 9 12 37 38 39 C C C C C C C C C) (Ah (Gf fld31_0 C (Gl ef ?_)))))
           refine Gr (Bi C C) (Af (A6 C (λc117=>?_) (λc117=>?_)))
           ·refine Ah (Gl2 ty111 ?_)
            refine Gl3 ty31 ?_
            refine Gf fld108_1 C (Gl ef ?_)
            refine G.e (Ao call161 C C (Expired7_ok (nd:=nd) (kd:=kd) (wd:=wd) (mo:=mo) (nw:=((e_ es k).tm)) (xs:=em ys (e_ es k)) Bg (by first|omega|(have h:=stepL_len ys (e_ es k);omega)))) ?_
            rintro _ _ ⟨_,_,(⟨hnead20,rfl,rfl⟩|⟨ad20,cp21,hzad20,rfl,rfl⟩),rfl,rfl⟩
            ·exact absurd (hI3.ask (Classical.not_not.1 c24) hfe.tm (Int.le_refl _)) hnead20
            ·show G prog κ _ _ _ _ ([(123,.tuple #[.slice ad20 (goneL kd wd mo ((e_ es k).tm) (em ys (e_ es k))).length cp21,e7 0]),(122,e7 ((e_ es k).tm)),(121,.pointer (some ⟨b3,1,none⟩)),(120,.agg #[e7 kd,e7 wd,e7 mo]),(119,.agg #[e7 nd,.slice ad12 (em ys (e_ es k)).length cp13]),(117,.bool (decide (kd=3))),(116,e7 kd),(115,.pointer (some ⟨b1,0,none⟩)),(10,.slice ad18 (zs++([⟨(e_ es k).kd,(e_ es k).tm,(e_ es k).u,(e_ es k).v,(e_ es k).w,(e_ es k).lb,(e_ es k).sg⟩]:List Ev)).length cp19),(0,e7 nd),(1,va),(5,.pointer (some ⟨b1,0,none⟩)),(9,.pointer (some ⟨b2,0,none⟩)),(12,.pointer (some ⟨b3,0,none⟩)),(37,va),(38,e7 ((es.length:Nat):Int)),(39,e7 ((k:Int)))]:Env) (vc 108 (.slice ad20 (goneL kd wd mo ((e_ es k).tm) (em ys (e_ es k))).length cp21) (goneL kd wd mo ((e_ es k).tm) (em ys (e_ es k)))::vc 108 (.slice ad17 1 1) (([⟨(e_ es k).kd,(e_ es k).tm,(e_ es k).u,(e_ es k).v,(e_ es k).w,(e_ es k).lb,(e_ es k).sg⟩]:List Ev))::vc 146 (.slice ad12 (em ys (e_ es k)).length cp13) (em ys (e_ es k))::e8 b2 [e7 nd,.slice ad12 (em ys (e_ es k)).length cp13] 111::vc 146 (.slice a2 ys.length c2) (ys)::vc 108 (.slice ad18 (zs++([⟨(e_ es k).kd,(e_ es k).tm,(e_ es k).u,(e_ es k).v,(e_ es k).w,(e_ es k).lb,(e_ es k).sg⟩]:List Ev)).length cp19) (zs++([⟨(e_ es k).kd,(e_ es k).tm,(e_ es k).u,(e_ es k).v,(e_ es k).w,(e_ es k).lb,(e_ es k).sg⟩]:List Ev))::e8 b1 [e7 kd,e7 wd,e7 mo] 31::e8 b3 [e7 ((e_ es k).kd),e7 ((e_ es k).tm),e7 ((e_ es k).u),e7 ((e_ es k).v),e7 ((e_ es k).w),e7 ((e_ es k).lb),e7 ((e_ es k).sg)] 108::I)
             refine Gm C (Gr (A2 C C) (Gr (A2 C C) (Ga C (Ga C (Af (Aq (S9 19 10 0 1 5 9 37 38 39 C C C C C C C C C) (Ah (Gl2 ty111 ?_))))))))
             refine Gm C (G.e (Ao call162 C C (Cm (J:=vc 146 (.slice ad12 (em ys (e_ es k)).length cp13) (em ys (e_ es k))::vc 108 (.slice ad20 (goneL kd wd mo ((e_ es k).tm) (em ys (e_ es k))).length cp21) (goneL kd wd mo ((e_ es k).tm) (em ys (e_ es k)))::vc 108 (.slice ad17 1 1) (([⟨(e_ es k).kd,(e_ es k).tm,(e_ es k).u,(e_ es k).v,(e_ es k).w,(e_ es k).lb,(e_ es k).sg⟩]:List Ev))::e8 b2 [e7 nd,.slice ad12 (em ys (e_ es k)).length cp13] 111::vc 146 (.slice a2 ys.length c2) (ys)::vc 108 (.slice ad18 (zs++([⟨(e_ es k).kd,(e_ es k).tm,(e_ es k).u,(e_ es k).v,(e_ es k).w,(e_ es k).lb,(e_ es k).sg⟩]:List Ev)).length cp19) (zs++([⟨(e_ es k).kd,(e_ es k).tm,(e_ es k).u,(e_ es k).v,(e_ es k).w,(e_ es k).lb,(e_ es k).sg⟩]:List Ev))::e8 b1 [e7 kd,e7 wd,e7 mo] 31::e8 b3 [e7 ((e_ es k).kd),e7 ((e_ es k).tm),e7 ((e_ es k).u),e7 ((e_ es k).v),e7 ((e_ es k).w),e7 ((e_ es k).lb),e7 ((e_ es k).sg)] 108::I) B4 (All5_base (nd:=nd) (xs:=em ys (e_ es k)) (es:=goneL kd wd mo ((e_ es k).tm) (em ys (e_ es k))) Bg hI3.val (fitgone hI3.val hfe.tm) (by first|omega|(have h:=stepL_len ys (e_ es k);have h9:=gone_len kd wd mo (e_ es k).tm (em ys (e_ es k));omega))))) ?_)
             rintro _ _ ⟨_,_,⟨⟨ad22,cp23,nn24⟩,rfl,rfl⟩,rfl,rfl⟩
             show G prog κ _ _ _ _ ([(129,.tuple #[.agg #[e7 nd,.slice ad22 (List.foldl em (em ys (e_ es k)) (goneL kd wd mo ((e_ es k).tm) (em ys (e_ es k)))).length cp23],e7 nn24,e7 0]),(128,.slice ad20 (goneL kd wd mo ((e_ es k).tm) (em ys (e_ es k))).length cp21),(127,.agg #[e7 nd,.slice ad12 (em ys (e_ es k)).length cp13]),(19,.slice ad20 (goneL kd wd mo ((e_ es k).tm) (em ys (e_ es k))).length cp21),(10,.slice ad18 (zs++([⟨(e_ es k).kd,(e_ es k).tm,(e_ es k).u,(e_ es k).v,(e_ es k).w,(e_ es k).lb,(e_ es k).sg⟩]:List Ev)).length cp19),(0,e7 nd),(1,va),(5,.pointer (some ⟨b1,0,none⟩)),(9,.pointer (some ⟨b2,0,none⟩)),(37,va),(38,e7 ((es.length:Nat):Int)),(39,e7 ((k:Int)))]:Env) (vc 146 (.slice ad22 (List.foldl em (em ys (e_ es k)) (goneL kd wd mo ((e_ es k).tm) (em ys (e_ es k)))).length cp23) (List.foldl em (em ys (e_ es k)) (goneL kd wd mo ((e_ es k).tm) (em ys (e_ es k))))::vc 108 (.slice ad20 (goneL kd wd mo ((e_ es k).tm) (em ys (e_ es k))).length cp21) (goneL kd wd mo ((e_ es k).tm) (em ys (e_ es k)))::vc 108 (.slice ad17 1 1) (([⟨(e_ es k).kd,(e_ es k).tm,(e_ es k).u,(e_ es k).v,(e_ es k).w,(e_ es k).lb,(e_ es k).sg⟩]:List Ev))::e8 b2 [e7 nd,.slice ad12 (em ys (e_ es k)).length cp13] 111::vc 146 (.slice a2 ys.length c2) (ys)::vc 108 (.slice ad18 (zs++([⟨(e_ es k).kd,(e_ es k).tm,(e_ es k).u,(e_ es k).v,(e_ es k).w,(e_ es k).lb,(e_ es k).sg⟩]:List Ev)).length cp19) (zs++([⟨(e_ es k).kd,(e_ es k).tm,(e_ es k).u,(e_ es k).v,(e_ es k).w,(e_ es k).lb,(e_ es k).sg⟩]:List Ev))::e8 b1 [e7 kd,e7 wd,e7 mo] 31::e8 b3 [e7 ((e_ es k).kd),e7 ((e_ es k).tm),e7 ((e_ es k).u),e7 ((e_ es k).v),e7 ((e_ es k).w),e7 ((e_ es k).lb),e7 ((e_ es k).sg)] 108::I)
             refine Gm C (Gr (A2 C C) (Gr (A2 C C) (Gr (A2 C C) (Ge0 (Cd ty111) ?_))))
             refine Af (Aq (S9 19 10 0 1 5 9 37 38 39 C C C C C C C C C) (Ax (Gm C (Gm C (Ge2 (B1 (α:=Ev) (e:=108) (xs:=zs++([⟨(e_ es k).kd,(e_ es k).tm,(e_ es k).u,(e_ es k).v,(e_ es k).w,(e_ es k).lb,(e_ es k).sg⟩]:List Ev)) (ys:=goneL kd wd mo ((e_ es k).tm) (em ys (e_ es k))) Az ty108 C C C mm Bg (by first|omega|(simp only [List.length_append,List.length_cons,List.length_nil];omega)|(have h:=stepL_len ys (e_ es k);have h9:=gone_len kd wd mo (e_ es k).tm (em ys (e_ es k));first|omega|(simp only [List.length_append,List.length_cons,List.length_nil];omega))) dc C (λ_ _=>am)) λad25 cp26=>?_)))))
             refine Ga C (Bd (Ak (Aj (Ax (Gr (Rad C C) (Gm C (Bd ?_)))))))
             have hgl:=gone_len kd wd mo (e_ es k).tm (em ys (e_ es k))
             have hsl:=stepL_len ys (e_ es k)
             have hgs:=gone_steps (kd:=kd) (wd:=wd) (mo:=mo) (nw:=(e_ es k).tm) hI3.val
             exact B2 ((k+1),(ad22),(cp23),(ad25),(cp26),(List.filter (inW kd wd mo (e_ es k).tm (em ys (e_ es k))) (em ys (e_ es k))),(zs++[(e_ es k)]++goneL kd wd mo (e_ es k).tm (em ys (e_ es k)))) (by dsimp only;exact ⟨om,(by rw [slideS_succ om,hst];exact evStep_three hag c117),(by rw [lastT_succ];exact hI3.filter _),lap,hs1,(by rw [lastT_succ];exact hfe.tm.1)⟩) (hI:=by (try dsimp only);exact (by rw [←hgs];exact B4))
           ·refine Ay (Ak (Aj (Ax (Gr (Rad C C) (Gm C (Bd ?_))))))
            have hsl:=stepL_len ys (e_ es k)
            exact B2 ((k+1),(ad12),(cp13),(ad18),(cp19),((em ys (e_ es k))),(zs++[(e_ es k)])) (by dsimp only;exact ⟨om,(by rw [slideS_succ om,hst];exact evStep_not hag c117),(by rw [lastT_succ];exact hI3),lap,hs1,(by rw [lastT_succ];exact hfe.tm.1)⟩)
     ·refine Bs (Ap (Ap (A7 (Aj (Ah (Gm C (Ga C (Ga C (Af (Aw ?_))))))))))
      have hE2:(slideS kd wd mo es)=(xs,out):=by rw [←hst,show List.take k es=es from List.take_of_length_le om]
      have hz:(slideE nd kd wd mo es)=0:=(slideE_st c24).trans (hs0.trans (streamS_end om))
      exact Co C C C (vc 108 (.slice o1 (slideS kd wd mo es).2.length d1) (slideS kd wd mo es).2::I) (by rw [hE2];exact B4) (.inr ⟨o1,d1,hz,by rw [hE2],rfl⟩)
variable {κ:Ctx}{I:List Item}
theorem Slide7_hist{nd kd wd mo:Int}{va:Value}{es:List Ev}(hl:Sl κ I va es)(h:HistOk nd kd wd mo es):ep prog κ 93 [e7 nd,va,.agg #[e7 kd,e7 wd,e7 mo]] I λr J=>∃a c,r = .tuple #[.slice a (slideS kd wd mo es).2.length c,e7 0]/\J=vc 108 (.slice a (slideS kd wd mo es).2.length c) (slideS kd wd mo es).2::I:=
 (Slide7_ok hl).mono λr J hh=>by
  rcases hh with ⟨h1,_⟩|⟨a,c,_,h2,h3⟩
  ·exact absurd (slideE_zeroH h) h1
  ·exact ⟨a,c,h2,h3⟩
theorem upk_yes{E:List Ev}{T:Int}{k:Nat}(h:k<E.length)(hc:(e_ E k).tm<=T):eh (List.filter (upT T) (List.take (k+1) E))=em (eh (List.filter (upT T) (List.take k E))) (e_ E k):=by
 rw [Cu E k h,List.filter_append,List.filter_cons_of_pos (by unfold upT;exact decide_eq_true hc),linksL_app];rfl
theorem upk_no{E:List Ev}{T:Int}{k:Nat}(h:k<E.length)(hc:¬(e_ E k).tm<=T):eh (List.filter (upT T) (List.take (k+1) E))=eh (List.filter (upT T) (List.take k E)):=by
 rw [Cu E k h,List.filter_append,List.filter_cons_of_neg (by unfold upT;simp [hc])];simp
theorem sub_val{nd:Int}(h0:0<=nd/\nd<=64){E:List Ev}(hE:∀e∈E,FitOk nd e):checkS nd (eh E)=0:=steps_val h0 _ _ (valNil h0) hE
theorem up_val{nd T:Int}(h0:0<=nd/\nd<=64){E:List Ev}(hE:∀e∈E,FitOk nd e)(k:Nat):checkS nd (eh (List.filter (upT T) (List.take k E)))=0:=sub_val h0 λe he=>hE e (List.mem_of_mem_take (List.mem_filter.1 he).1)
theorem up_val0{nd T:Int}(h0:0<=nd/\nd<=64){E:List Ev}(hE:∀e∈E,FitOk nd e):checkS nd (eh (List.filter (upT T) E))=0:=sub_val h0 λe he=>hE e (List.mem_filter.1 he).1
theorem up_ask{nd kd wd mo T:Int}(hw:checkW kd wd mo=0)(h0:0<=nd/\nd<=64){E:List Ev}(hE:∀e∈E,FitOk nd e)(hT:0<=T/\T<=1048576):askE nd (eh (List.filter (upT T) E)) kd wd mo T=0:=
 ask_of hw (up_val0 h0 hE) hT (steps_tm _ _ (λx hx=>by cases hx) λe he=>of_decide_eq_true (List.mem_filter.1 he).2)
theorem refK_yes{kd wd mo T:Int}{es:List Ev}(h:kd=2):refK kd wd mo es T=List.filter (inW kd wd mo T (eh (List.filter (upT T) (slideS kd wd mo es).2))) (eh (List.filter (upT T) (slideS kd wd mo es).2)):=by
 subst h;unfold refK;rw [if_pos rfl,inW_alive]
theorem refK_no{kd wd mo T:Int}{es:List Ev}(h:¬kd=2):refK kd wd mo es T=eh (List.filter (upT T) (slideS kd wd mo es).2):=if_neg h
theorem Check08_ok{nd:Int}{va:Value}{es:List Ev}(hl:Sl κ I va es)(hst:StOk nd es):ep prog κ 86 [e7 nd,va] I (λr J=>r=e7 0/\I=J):=by
 refine B3 hl.le λhmax=>?_
 refine Ce2 Tryz.func86 C C ?_
 refine Ah (Ga C (Af (Au (Ah (Gm C (Gr (A9 C C) (Gm C (Ba (d:=10) C (λg10=>?_) (λg10=>?_)))))))))
 ·exact absurd g10 (by have:=hst.nodes;omega)
 ·refine e9 (Ad C) (e9 (Bv C C) (Gr (Al C C) (Af (A6 C (λc13=>?_) (λc13=>?_)))))
  ·exact absurd c13 (by have:=hst.nodes;omega)
  ·refine Ay (Aj (Au (Ah (Gm C (Gr (Bx (α:=Ev) (xs:=es) Az C (Bh hl)) (Gr (Bv C C) (Af (A6 C (λc16=>?_) (λc16=>?_)))))))))
   ·exact absurd c16 (by have:=hst.len;omega)
   ·refine Ay (Aj (Au (Ah (Gm C (Gr (Bx (α:=Ev) (xs:=es) Az C (Bh hl)) (Gm C (Af (Aq (S5 19 18 17 0 1 C C C C C) (A4 (Bu (σ:=Nat) (λs=>([(0,e7 nd),(1,va),(17,va),(18,e7 ((es.length:Nat):Int)),(19,e7 ((s:Nat):Int))]:Env)) (λs=>I) (λs=>(s<=es.length)) (λs=>es.length - s) 0 (show ((0:Nat)<=es.length) from om) (Aa C (Aa C (Aa C (Aa C (Aa B9 Bj))))) (show Fit κ _ I from A5) ?_))))))))))
    rintro k hp
    have hk:=hp
    refine Ah (Gr (A9 C C) (Af (Au (A6 C (λc20=>?_) (λc20=>?_)))))
    ·refine Ay (Aj (Au (A4 (Ah (Gm C (Gr (A3 (α:=Ev) (xs:=es) Az ty108 C C (Bh hl) om om) (Gr (Bp (α:=Ev) (xs:=es) ty108 C (Bh hl) om om) ?_)))))))
     have hfe:=hst.fit k om
     have hto:=hst.asc k om
     refine Ge1 (A8 ty108 C) λb1=>Ga C (Ge0 (E2 ty108) ?_)
     refine Af (Au (Ah (Gl7 ty108 ?_)))
     refine Gc0 (Ao call155 C C (CheckE4_ok (e_ es k))) ?_
     refine Ga C (Af (Aq (S8 7 5 6 0 1 17 18 19 C C C C C C C C) (Ah (Gm C (Gr (Be C C) (Af (A6 C (λc27=>?_) (λc27=>?_))))))))
     ·exact absurd hfe.chk c27
     ·refine Ay (Aj (Au (Ah (Gf fld108_2 C (Gl ef ?_)))))
      refine Gm C (Gr (B8 C C) (Gm C (Ba (d:=33) C (λg33=>?_) (λg33=>?_))))
      ·exact absurd hfe.fits om
      ·refine e9 (Ab fld108_3 C) (e9 (As ef) ?_)
       refine e9 (Ad C) (e9 (B8 C C) (Gr (Al C C) (Af (Aq (S8 38 5 6 0 1 17 18 19 C C C C C C C C) (A6 C (λc38=>?_) (λc38=>?_))))))
       ·exact absurd hfe.fits om
       ·refine Ay (Aj (Au (Bl mixed (Br (e8 b1 [e7 ((e_ es k).kd),e7 ((e_ es k).tm),e7 ((e_ es k).u),e7 ((e_ es k).v),e7 ((e_ es k).w),e7 ((e_ es k).lb),e7 ((e_ es k).sg)] 108::I) 13 (Dr 0 C (Ad C) (Dr 1 C (Bv C C) (Dr 2 C (Ad C) (C9 (d:=41) C (λg41=>?_) (λg41=>?_)))))))))
        ·refine Dro 3 C (Ad C) (Dro 4 C (Ad C) (Dro 5 C (Rsu C C) (Dro 6 C (A3 (α:=Ev) (xs:=es) Az ty108 C C (Bh hl) om om) (Dro 7 C (Dc (α:=Ev) (xs:=es) fld108_1 C (Bh hl) om) (Dro 8 C (De (α:=Ev) (xs:=es) (u:=e7 ((e_ es ((k:Int) - 1)).tm)) ef C (Bh hl) om om C) (Dro 9 C (Ab fld108_1 C) (Dro 10 C (As ef) ?_)))))))
         refine Dro 11 C (Bv C C) (Dr 12 C (Am C C) (Dz (Aj (Aq (S6 51 0 1 17 18 19 C C C C C C) (A6 C (λc51=>?_) (λc51=>?_))))))
         ·unfold lastT at hto;rw [if_neg om] at hto;omega
         ·exact Ay (Ak (Aj (Ax (Gr (Rad C C) (Gm C (Bd (B2 ((k+1)) om)))))))
        ·exact Dpo 3 C (Dpo 4 C (Dpo 5 C (Dpo 6 C (Dpo 7 C (Dpo 8 C (Dpo 9 C (Dpo 10 C (Dpo 11 C (Dr 12 C (Al C C) (Dz (Aj (Aq (S6 51 0 1 17 18 19 C C C C C C) (C2 C (Ay (Ak (Aj (Ax (Gr (Rad C C) (Gm C (Bd (B2 ((k+1)) om)))))))))))))))))))))
    ·exact Bs (Ap (Ap (A7 (Aj (Ah (Ga C (Af (Aw (A1 C C I A0 ⟨rfl,rfl⟩)))))))))
theorem Fault43_ok{nd kd wd mo:Int}{ea:Option Addr}{ec:Nat}{es:List Ev}(hl:Sl κ I (.slice ea es.length ec) es)(hH:HistOk nd kd wd mo es):ep prog κ 95 [e7 nd,.slice ea es.length ec,.agg #[e7 kd,e7 wd,e7 mo]] I (λr J=>r=e7 0/\I=J):=by
 refine Ce3 Tryz.func95 C C ?_
 refine Ah (Ge1 (Bc (cs:=[_,_,_]) C C C) λb1=>Ga C (Af (Au (Ah (Gl3 ty31 ?_)))))
 refine Gc0 (Ao call85 C C (CheckW7_ok kd wd mo)) ?_
 refine Ga C (Af (Ah (Gm C (Gr (Be C C) (Af (A6 C (λc11=>?_) (λc11=>?_)))))))
 ·exact absurd hH.win c11
 ·refine Ay (Aj (Ah (Gm C (Gm C (G.e (Ao call86 C C (Check08_ok (nd:=nd) (Bh hl) hH.st)) ?_)))))
  rintro _ _ ⟨_,_,⟨rfl,rfl⟩,rfl,rfl⟩
  exact Ga C (Af (Aq (S1 6 C) (Aw (A1 C C I A0 ⟨rfl,rfl⟩))))
theorem Graph5_ok{nd:Int}{va:Value}{xs:List Lk}(hl:Sl κ I va xs)(hv:checkS nd xs=0)(hsz:xs.length<=100000):ep prog κ 69 [.agg #[e7 nd,va]] I (λr J=>∃a c,r = .tuple #[.agg #[e7 nd,.slice a (edgesK xs).length c],e7 0]/\J=vc 135 (.slice a (edgesK xs).length c) (edgesK xs)::I):=by
 refine B3 hl.le λhmax=>?_
 refine Ce1 Tryz.func69 C C ?_
 refine Ah (Ge1 (Bc (cs:=[_,_]) C C C) λb1=>Ge1 (A8 ty48 C) λb2=>Ga C (Af (Au (Ah (Gl2 ty111 ?_)))))
 refine Gc0 (Ao call129 C C (CheckS5_ok (nd:=nd) (Bh hl))) ?_
 refine Ga C (Af (Ah (Gm C (Gr (Be C C) (Af (A6 C (λc11=>?_) (λc11=>?_)))))))
 ·exact absurd hv c11
 ·refine Ay (Aj (Ah (Gf fld111_0 C (Gl ef ?_))))
  refine Gr (Bf (cells:=[_,_]) ty48 Tryz.underlying48 pl48 C C) (Ge1 (A8 ty48 C) λb3=>Ge0 (Cd ty48) ?_)
  refine Af (Au (Ah (Gf fld111_1 C (Gl ty109 ?_))))
  refine Gr (Bx (α:=Lk) (xs:=xs) Ar C (Bh hl)) (Gm C (Af (Aq (S5 20 19 18 5 2 C C C C C) (A4 (Bu (σ:=Nat×(Option Addr)×Nat×(List Pt)) (λs=>([(2,.pointer (some ⟨b2,0,none⟩)),(5,.pointer (some ⟨b3,0,none⟩)),(18,va),(19,e7 ((xs.length:Nat):Int)),(20,e7 ((s.1:Nat):Int))]:Env)) (λs=>vc 135 (.slice s.2.1 s.2.2.2.length s.2.2.1) (s.2.2.2)::e8 b3 [e7 nd,.slice s.2.1 s.2.2.2.length s.2.2.1] 48::e8 b2 [e7 0,.slice none 0 0] 48::e8 b1 [e7 nd,va] 111::I) (λs=>(s.1<=xs.length)/\(s.2.2.2=edgesK (xs.take s.1))) (λs=>xs.length - s.1) (0,none,0,[]) (show ((0:Nat)<=xs.length)/\(([]:List Pt)=edgesK (xs.take (0:Nat))) from ⟨om,rfl⟩) (Aa C (Aa C (Aa C (Aa C (Aa B9 Bj))))) (show Fit κ _ (vc 135 (.slice none ([]).length 0) (([]))::e8 b3 [e7 nd,.slice none ([]).length 0] 48::e8 b2 [e7 0,.slice none 0 0] 48::e8 b1 [e7 nd,va] 111::I) from (Cc (Bt (α:=Pt) _ _) B4)) ?_)))))
  rintro ⟨k,a,c,out⟩ hp
  dsimp only at hp ⊢
  obtain ⟨hk,ho⟩:=hp
  have hol:out.length=k:=by rw [ho,edgesK_len,List.length_take];omega
  refine Ah (Gr (A9 C C) (Af (Au (A6 C (λc21=>?_) (λc21=>?_)))))
  ·refine Ay (Aj (Au (A4 (Ah (Gr (A3 (α:=Lk) (xs:=xs) Ar ty146 C C (Bh hl) om om) (Gr (Bp (α:=Lk) (xs:=xs) ty146 C (Bh hl) om om) (Ge1 (A8 ty146 C) λb4=>Ge0 (C5 ty146) ?_)))))))
   refine Af (Bl mixed (Br (e8 b4 [e7 ((e_ xs k).u),e7 ((e_ xs k).v),e7 ((e_ xs k).w),e7 ((e_ xs k).lb),e7 ((e_ xs k).sg),e7 ((e_ xs k).tm)] 146::e8 b2 [e7 0,.slice none 0 0] 48::e8 b1 [e7 nd,va] 111::I) 8 (Dr 0 C (Ab fld48_1 C) (Dr 2 C (Bq (vs:=[_,_,_,_,_,_]) ty146) ?_))))
   refine Ds (rs:=[1,3]) kr C C (Ej ?_ (Et ?_))
   ·refine Sr C (As ty46) A5 ?_
    refine Ds1 3 (Sc0 C (Ao call130 C C (Edge5_ok (e_ xs k))) ?_)
    refine Ds1 4 (Se1 C (B0 (α:=Pt) (cs:=[_,_]) (xs:=[⟨(e_ xs k).p.u,(e_ xs k).p.v⟩]) Bo ty135 C C dc dc C C C C) λad5=>?_)
    refine Ds1 5 (Se2 C (B1 (α:=Pt) (e:=135) (xs:=out) (ys:=([⟨(e_ xs k).p.u,(e_ xs k).p.v⟩]:List Pt)) Bo ty135 C C C mm Bg lcn dc C (λ_ _=>am)) λad6 cp7=>?_)
    refine Dr 6 C (Ab fld48_1 C) (Ds1 7 (Se0 C (Ed ty46) ?_))
    exact Dz (Ak (Aj (Aq (S5 2 5 18 19 20 C C C C C) (Ax (Gr (Rad C C) (Gm C (Bd (B2 ((k+1),(ad6),(cp7),(out++([⟨(e_ xs k).p.u,(e_ xs k).p.v⟩]:List Pt))) (by dsimp only;exact ⟨om,(by rw [edgesK_take om,←ho];rfl)⟩)))))))))
   ·refine Sc0 C (Ao call130 C C (Edge5_ok (e_ xs k))) ?_
    refine Ds (rs:=[1,4]) kr C C (Ej ?_ (Et ?_))
    ·refine Sr C (As ty46) A5 ?_
     refine Ds1 4 (Se1 C (B0 (α:=Pt) (cs:=[_,_]) (xs:=[⟨(e_ xs k).p.u,(e_ xs k).p.v⟩]) Bo ty135 C C dc dc C C C C) λad8=>?_)
     refine Ds1 5 (Se2 C (B1 (α:=Pt) (e:=135) (xs:=out) (ys:=([⟨(e_ xs k).p.u,(e_ xs k).p.v⟩]:List Pt)) Bo ty135 C C C mm Bg lcn dc C (λ_ _=>am)) λad9 cp10=>?_)
     refine Dr 6 C (Ab fld48_1 C) (Ds1 7 (Se0 C (Ed ty46) ?_))
     exact Dz (Ak (Aj (Aq (S5 2 5 18 19 20 C C C C C) (Ax (Gr (Rad C C) (Gm C (Bd (B2 ((k+1),(ad9),(cp10),(out++([⟨(e_ xs k).p.u,(e_ xs k).p.v⟩]:List Pt))) (by dsimp only;exact ⟨om,(by rw [edgesK_take om,←ho];rfl)⟩)))))))))
    ·refine Se1 C (B0 (α:=Pt) (cs:=[_,_]) (xs:=[⟨(e_ xs k).p.u,(e_ xs k).p.v⟩]) Bo ty135 C C dc dc C C C C) λad11=>?_
     refine Ds1 1 (Sr C (As ty46) A5 ?_)
     refine Ds1 5 (Se2 C (B1 (α:=Pt) (e:=135) (xs:=out) (ys:=([⟨(e_ xs k).p.u,(e_ xs k).p.v⟩]:List Pt)) Bo ty135 C C C mm Bg lcn dc C (λ_ _=>am)) λad12 cp13=>?_)
     refine Dr 6 C (Ab fld48_1 C) (Ds1 7 (Se0 C (Ed ty46) ?_))
     exact Dz (Ak (Aj (Aq (S5 2 5 18 19 20 C C C C C) (Ax (Gr (Rad C C) (Gm C (Bd (B2 ((k+1),(ad12),(cp13),(out++([⟨(e_ xs k).p.u,(e_ xs k).p.v⟩]:List Pt))) (by dsimp only;exact ⟨om,(by rw [edgesK_take om,←ho];rfl)⟩)))))))))
  ·refine Bs (Ap (Ap (A7 (Aj (Ah (Gl2 ty48 ?_))))))
   refine Ge0 (Cd ty48) ?_
   refine Ga C (Af (Aw ?_))
   have hE:out=edgesK xs:=by rw [ho,List.take_of_length_le om]
   exact Dq C ty48 C C mm C (vc 135 (.slice a (edgesK xs).length c) (edgesK xs)::I) (by rw [←hE];exact B4) ⟨a,c,by rw [←hE]<;>rfl,rfl⟩
variable {κ:Ctx}{I:List Item}
set_option maxHeartbeats 2000000 in
theorem at43_ok{nd kd wd mo:Int}{ea:Option Addr}{ec:Nat}{es:List Ev}(hl:Sl κ I (.slice ea es.length ec) es)(hH:HistOk nd kd wd mo es)(hlen:es.length<=19){T:Int}(hT:0<=T/\T<=1048576):ep prog κ 96 [e7 nd,.slice ea es.length ec,.agg #[e7 kd,e7 wd,e7 mo],e7 T] I (λr J=>∃a c,r = .agg #[e7 nd,.slice a (atG kd wd mo es T).length c]/\J=vc 135 (.slice a (atG kd wd mo es T).length c) (atG kd wd mo es T)::I):=by
 refine Ce4 Tryz.func96 C C ?_
 refine Ah (Ge1 (Bc (cs:=[_,_,_]) C C C) λb1=>Ge1 (A8 ty48 C) λb2=>Af (Ah (Gm C (Gr (Bf (cells:=[_,_]) ty111 Cw pl111 C C) (Ge1 (A8 ty111 C) λb3=>Ge0 (Cd ty111) ?_)))))
 refine Af (Ah (Gm C (Gm C (Gl3 ty31 ?_))))
 refine Gc2 (Ao call93 C C (Slide7_hist (nd:=nd) (kd:=kd) (wd:=wd) (mo:=mo) (es:=es) (Bh hl) hH)) λad4 cp5=>?_
 refine Gm C (Gr (A2 C C) (Gr (A2 C C) (Ga C (Ga C ?_))))
 generalize hSE:(slideS kd wd mo es).2=SE
 have hfS:∀e∈SE,FitOk nd e:=by rw [←hSE];exact hH.fit
 have hSl:SE.length<=38:=by rw [←hSE];have:=hH.len2;omega
 have hlS:(eh SE).length<=19:=by rw [←hSE];have:=hH.len;omega
 refine Af (Aq (S5 10 9 8 6 3 C C C C C) (Au (Ah (Ga C (Af (A4 (Bu (σ:=Nat×(Option Addr)×Nat) (λs=>([(3,e7 T),(6,.pointer (some ⟨b1,0,none⟩)),(8,.pointer (some ⟨b2,0,none⟩)),(9,.pointer (some ⟨b3,0,none⟩)),(10,.slice ad4 (SE).length cp5),(12,e7 ((s.1:Nat):Int))]:Env)) (λs=>vc 146 (.slice s.2.1 (eh (List.filter (upT T) (List.take s.1 SE))).length s.2.2) (eh (List.filter (upT T) (List.take s.1 SE)))::vc 108 (.slice ad4 (SE).length cp5) (SE)::e8 b3 [e7 nd,.slice s.2.1 (eh (List.filter (upT T) (List.take s.1 SE))).length s.2.2] 111::e8 b2 [e7 0,.slice none 0 0] 48::e8 b1 [e7 kd,e7 wd,e7 mo] 31::I) (λs=>(s.1<=SE.length)) (λs=>SE.length - s.1) (0,none,0) (show ((0:Nat)<=SE.length) from om) (Aa C (Aa C (Aa C (Aa C (Aa C (Aa B9 Bj)))))) (show Fit κ _ (vc 146 (.slice none (eh (List.filter (upT T) (List.take 0 SE))).length 0) (eh (List.filter (upT T) (List.take 0 SE)))::vc 108 (.slice ad4 (SE).length cp5) (SE)::e8 b3 [e7 nd,.slice none (eh (List.filter (upT T) (List.take 0 SE))).length 0] 111::e8 b2 [e7 0,.slice none 0 0] 48::e8 b1 [e7 kd,e7 wd,e7 mo] 31::I) from (Cc (Bt (α:=Lk) _ _) B4)) ?_)))))))
 rintro ⟨k,a,c⟩ hp
 dsimp only at hp ⊢
 have hk:=hp
 refine Au (Ah (Gm C (Gm C (Gr (Bm Az C) (Gr (A9 C C) (Af (A6 C (λc27=>?_) (λc27=>?_))))))))
 ·refine Ay (Aj (Au (A4 (Ah (Gm C (Gm C (Gr (A3 (α:=Ev) (xs:=SE) Az ty108 C C Bg om om) (Gr (Dc (α:=Ev) (xs:=SE) fld108_1 C Bg om) (Gr (De (α:=Ev) (xs:=SE) (u:=e7 ((e_ SE k).tm)) ef C Bg om om C) (Gm C (Gr (Du C C) (Af (Aq (S7 36 3 6 8 9 10 12 C C C C C C C) (A6 C (λc36=>?_) (λc36=>?_)))))))))))))))
  ·refine Bl mixed (Br (vc 146 (.slice a (eh (List.filter (upT T) (List.take k SE))).length c) (eh (List.filter (upT T) (List.take k SE)))::vc 108 (.slice ad4 (SE).length cp5) (SE)::e8 b2 [e7 0,.slice none 0 0] 48::e8 b1 [e7 kd,e7 wd,e7 mo] 31::I) 11 (Dr 1 C (Ad C) (Dr 2 C (Ad C) (Dr 3 C (A3 (α:=Ev) (xs:=SE) Az ty108 C C Bg om om) (Dr 4 C (Bp (α:=Ev) (xs:=SE) ty108 C Bg om om) (Ds1 0 (Sr C (Bq (vs:=[_,_]) ty111) A5 ?_)))))))
   refine Ds1 5 (Se C (Ao call94 C C (Apply5_ok (nd:=nd) (e:=(e_ SE k)) Bg (up_val hH.st.nodes hfS k) (hfS _ (Ca om om)) (by have:=links_len (up_val (T:=T) hH.st.nodes hfS k);omega))) ?_)
   rintro _ _ ⟨_,_,⟨⟨ad6,cp7,ad8,nn9,cp10⟩,⟨rfl,hnn9⟩,rfl⟩,rfl,rfl⟩
   refine ⟨A5,?_⟩
   show D prog κ _ _ _ _ _ _ _ ([(43,.tuple #[.agg #[e7 nd,.slice ad6 (em (eh (List.filter (upT T) (List.take k SE))) (e_ SE k)).length cp7],.slice ad8 nn9 cp10,e7 0]),(38,.agg #[e7 nd,.slice a (eh (List.filter (upT T) (List.take k SE))).length c]),(42,.agg #[e7 ((e_ SE k).kd),e7 ((e_ SE k).tm),e7 ((e_ SE k).u),e7 ((e_ SE k).v),e7 ((e_ SE k).w),e7 ((e_ SE k).lb),e7 ((e_ SE k).sg)]),(41,elemPtr (.slice ad4 (SE).length cp5) (((k:Int)).toNat*Enc.sz Ev)),(40,e7 ((k:Int))),(39,.slice ad4 (SE).length cp5),(36,.bool (decide (((e_ SE k).tm)<=T))),(3,e7 T),(6,.pointer (some ⟨b1,0,none⟩)),(8,.pointer (some ⟨b2,0,none⟩)),(9,.pointer (some ⟨b3,0,none⟩)),(10,.slice ad4 (SE).length cp5),(12,e7 ((k:Int)))]:Env) (vc 146 (.slice ad6 (em (eh (List.filter (upT T) (List.take k SE))) (e_ SE k)).length cp7) (em (eh (List.filter (upT T) (List.take k SE))) (e_ SE k))::vc 146 (.slice a (eh (List.filter (upT T) (List.take k SE))).length c) (eh (List.filter (upT T) (List.take k SE)))::vc 108 (.slice ad4 (SE).length cp5) (SE)::e8 b3 [e7 nd,.slice a (eh (List.filter (upT T) (List.take k SE))).length c] 111::e8 b2 [e7 0,.slice none 0 0] 48::e8 b1 [e7 kd,e7 wd,e7 mo] 31::I)
   have hnn9:nn9<=2*(eh (List.filter (upT T) (List.take k SE))).length+1:=hnn9
   refine Dr 6 C (Ad C) (Dr 7 C (A2 C C) (Dr 8 C (A2 C C) (Dr 9 C (A2 C C) (Ds1 10 (Se0 C (Cd ty111) ?_)))))
   exact Dz (Ak (Aj (Aq (S6 3 6 8 9 10 12 C C C C C C) (Ax (Gm C (Gr (Rad C C) (Ga C (Bd (B2 ((k+1),(ad6),(cp7)) (by dsimp only;exact om) (hI:=by (try dsimp only);exact (by first|(rw [upk_yes om c36];exact B4)|(rw [upk_no om c36];exact B4))))))))))))
  ·exact Ay (Ak (Aj (Ax (Gm C (Gr (Rad C C) (Ga C (Bd (B2 ((k+1),(a),(c)) (by dsimp only;exact om) (hI:=by (try dsimp only);exact (by first|(rw [upk_yes om c36];exact B4)|(rw [upk_no om c36];exact B4)))))))))))
 ·refine Bs (Ap (Ap (A7 (Aj (Au (Ah (Gf fld31_0 C (Gl ef ?_))))))))
  refine Gr (Bi C C) ?_
  have hfull:SE.take k=SE:=List.take_of_length_le om
  rw [hfull]
  have hvX:checkS nd (eh (List.filter (upT T) SE))=0:=up_val0 hH.st.nodes hfS
  have hlX:=links_len hvX
  have hask:=up_ask hH.win hH.st.nodes hfS hT
  refine Af (A6 C (λc49=>?_) (λc49=>?_))
  ·refine Ax (Gl2 ty111 ?_)
   refine Gl3 ty31 ?_
   refine Gm C (G.e (Ao call70 C C (Present7_ok (nd:=nd) (kd:=kd) (wd:=wd) (mo:=mo) (nw:=T) (xs:=eh (List.filter (upT T) SE)) Bg om)) ?_)
   rintro _ _ ⟨_,_,(⟨hnead11,rfl,rfl⟩|⟨ad11,cp12,hzad11,rfl,rfl⟩),rfl,rfl⟩
   ·exact absurd hask hnead11
   ·show G prog κ _ _ _ _ ([(54,.tuple #[.agg #[e7 nd,.slice ad11 (List.filter (inW kd wd mo T (eh (List.filter (upT T) SE))) (eh (List.filter (upT T) SE))).length cp12],e7 0]),(53,e7 T),(52,.agg #[e7 kd,e7 wd,e7 mo]),(51,.agg #[e7 nd,.slice a (eh (List.filter (upT T) SE)).length c]),(49,.bool (decide (kd=2))),(48,e7 kd),(47,.pointer (some ⟨b1,0,none⟩)),(27,.bool (decide ((k:Int)<(((SE).length:Nat):Int)))),(26,e7 ((((SE).length:Nat):Int))),(25,.slice ad4 (SE).length cp5),(24,e7 ((k:Int))),(3,e7 T),(6,.pointer (some ⟨b1,0,none⟩)),(8,.pointer (some ⟨b2,0,none⟩)),(9,.pointer (some ⟨b3,0,none⟩)),(10,.slice ad4 (SE).length cp5),(12,e7 ((k:Int)))]:Env) (vc 146 (.slice ad11 (List.filter (inW kd wd mo T (eh (List.filter (upT T) SE))) (eh (List.filter (upT T) SE))).length cp12) (List.filter (inW kd wd mo T (eh (List.filter (upT T) SE))) (eh (List.filter (upT T) SE)))::vc 146 (.slice a (eh (List.filter (upT T) SE)).length c) (eh (List.filter (upT T) SE))::vc 108 (.slice ad4 (SE).length cp5) (SE)::e8 b3 [e7 nd,.slice a (eh (List.filter (upT T) SE)).length c] 111::e8 b2 [e7 0,.slice none 0 0] 48::e8 b1 [e7 kd,e7 wd,e7 mo] 31::I)
    refine Gm C (Gr (A2 C C) (Gr (A2 C C) (Ge0 (Cd ty111) ?_)))
    refine Af (Aq (S2 8 9 C C) (Ah (Gl2 ty111 ?_)))
    refine Gc2 (Ao call69 C C (Graph5_ok (nd:=nd) Bg (by first|exact hvX|exact filter_val hvX) (by first|omega|(have:=List.length_filter_le (inW kd wd mo T (eh (List.filter (upT T) SE))) (eh (List.filter (upT T) SE));omega)))) λad13 cp14=>?_
    refine Gm C (Gr (A2 C C) (Gr (A2 C C) (Ge1 (A8 ty48 C) λb15=>Ge0 (Cd ty48) ?_)))
    refine Ga C (Af (Ah (Gl2 ty48 ?_)))
    refine Ge0 (Cd ty48) ?_
    refine Af (Aw ?_)
    have hE:edgesK (List.filter (inW kd wd mo T (eh (List.filter (upT T) SE))) (eh (List.filter (upT T) SE)))=(atG kd wd mo es T):=by unfold atG;rw [atK_ref hH hT];first|rw [refK_yes c49,hSE]|rw [refK_no c49,hSE]
    exact Db C ty48 C mm C (vc 135 (.slice ad13 (atG kd wd mo es T).length cp14) (atG kd wd mo es T)::I) (by rw [←hE];exact B4) ⟨ad13,cp14,by rw [←hE]<;>rfl,rfl⟩
  ·refine Ay (Aj (Ah (Gl2 ty111 ?_)))
   refine Gc2 (Ao call69 C C (Graph5_ok (nd:=nd) Bg (by first|exact hvX|exact filter_val hvX) (by first|omega|(have:=List.length_filter_le (inW kd wd mo T (eh (List.filter (upT T) SE))) (eh (List.filter (upT T) SE));omega)))) λad16 cp17=>?_
   refine Gm C (Gr (A2 C C) (Gr (A2 C C) (Ge1 (A8 ty48 C) λb18=>Ge0 (Cd ty48) ?_)))
   refine Ga C (Af (Aq (S2 13 8 C C) (Ah (Gl2 ty48 ?_))))
   refine Ge0 (Cd ty48) ?_
   refine Af (Aw ?_)
   have hE:edgesK (eh (List.filter (upT T) SE))=(atG kd wd mo es T):=by unfold atG;rw [atK_ref hH hT];first|rw [refK_yes c49,hSE]|rw [refK_no c49,hSE]
   exact Db C ty48 C mm C (vc 135 (.slice ad16 (atG kd wd mo es T).length cp17) (atG kd wd mo es T)::I) (by rw [←hE];exact B4) ⟨ad16,cp17,by rw [←hE]<;>rfl,rfl⟩
theorem At43_ok{nd kd wd mo:Int}{ea:Option Addr}{ec:Nat}{es:List Ev}(hl:Sl κ I (.slice ea es.length ec) es)(hH:HistOk nd kd wd mo es)(hlen:es.length<=19){T:Int}(hT:0<=T/\T<=1048576):ep prog κ 40 [e7 nd,.slice ea es.length ec,.agg #[e7 kd,e7 wd,e7 mo],e7 T] I (λr J=>∃a c,r = .tuple #[.agg #[e7 nd,.slice a (atG kd wd mo es T).length c],e7 0]/\J=vc 135 (.slice a (atG kd wd mo es T).length c) (atG kd wd mo es T)::I):=by
 refine Ce4 Tryz.func40 C C ?_
 refine Ah (Ge1 (Bc (cs:=[_,_,_]) C C C) λb1=>Ge1 (A8 ty48 C) λb2=>Ga C (Af (Au (Ah (Gm C (Gm C (Gl3 ty31 ?_)))))))
 refine Gc0 (Ao call95 C C (Fault43_ok (nd:=nd) (kd:=kd) (wd:=wd) (mo:=mo) (Bh hl) hH)) ?_
 refine Ga C (Af (Ah (Gm C (Gr (Be C C) (Af (Aq (S7 16 10 8 6 0 1 3 C C C C C C C) (A6 C (λc16=>?_) (λc16=>?_))))))))
 ·exact absurd rfl c16
 ·refine Ay (Aj (Au (Ah (Gm C (Gr (A9 C C) (Gm C (Ba (d:=21) C (λg21=>?_) (λg21=>?_))))))))
  ·exact absurd g21 om
  ·refine e9 (Ad C) (e9 (Bv C C) (Gr (Al C C) (Af (Aq (S6 24 8 6 0 1 3 C C C C C C) (A6 C (λc24=>?_) (λc24=>?_))))))
   ·exact absurd c24 om
   ·refine Ay (Aj (Ah (Gm C (Gm C (Gl3 ty31 ?_)))))
    refine Gm C (Gc2 (Ao call96 C C (at43_ok (nd:=nd) (kd:=kd) (wd:=wd) (mo:=mo) (Bh hl) hH hlen (T:=T) hT)) λad3 cp4=>?_)
    refine Ge0 (Cd ty48) ?_
    exact Ga C (Af (Aw (Dq C ty48 C C mm C (vc 135 (.slice ad3 (atG kd wd mo es T).length cp4) (atG kd wd mo es T)::I) B4 ⟨ad3,cp4,rfl,rfl⟩)))
end Go.Sl
