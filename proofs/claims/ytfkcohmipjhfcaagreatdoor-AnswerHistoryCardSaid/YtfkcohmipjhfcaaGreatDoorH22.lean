/- A part of the proofs of statements of this seat: contracts of functions, and the plain laws that they lean on. No conditions. -/
import Derived.Test.YtfkcohmipjhfcaaGreatDoorH21
import Derived.Test.YtfkcohmipjhfcaaGreatDoorH20
import Derived.OrdersIn
set_option linter.unusedVariables false
set_option linter.unusedSimpArgs false
set_option linter.unusedSectionVars false
namespace Go.Sl
open Go.Proofs
set_option maxRecDepth 4000
theorem agedL_step{kd wd mo T z:Int}{ys:List Lk}{zs:List Ev}(hk:kd=2)(h:0<ys.length∧minT ys+wd≤T)(hz:z=minT ys+wd):agedL kd wd mo T (ys,zs)=agedL kd wd mo T (ys.filter (inW kd wd mo z ys),zs++goneL kd wd mo z ys):=by
 subst hk hz
 unfold agedL
 rw [if_pos rfl,if_pos rfl]
 exact ageL_step h
theorem agedL_stop{kd wd mo T:Int}{ys:List Lk}{zs:List Ev}(h:kd=2→¬(0<ys.length∧minT ys+wd≤T)):agedL kd wd mo T (ys,zs)=(ys,zs):=by
 unfold agedL
 by_cases hk:kd=2
 ·rw [if_pos hk];exact ageL_stop (h hk)
 ·rw [if_neg hk]
theorem aged_less{kd wd mo z:Int}{ys:List Lk}(hk:kd=2)(h:0<ys.length)(hz:z=minT ys+wd):(ys.filter (inW kd wd mo z ys)).length<ys.length:=by
 subst hk hz
 exact age_less (wd:=wd) (mo:=mo) h
theorem streamE_zero{nd:Int}{es:List Ev}(h1:¬(nd<0∨64<nd))(h2:¬65536<es.length):streamE nd es=streamS nd 0 es:=by unfold streamE;rw [if_neg h1,if_neg h2]
theorem fitE_of{nd:Int}{e:Ev}(h1:¬checkE e≠0)(h2:¬(nd≤e.u∨nd≤e.v)):fitE nd e=0:=by unfold fitE;rw [if_neg h1,if_neg h2]
theorem fitE_six{nd:Int}{e:Ev}(h1:¬checkE e≠0)(h2:nd≤e.u∨nd≤e.v):fitE nd e=6:=by unfold fitE;rw [if_neg h1,if_pos h2]
theorem fitE_bad{nd:Int}{e:Ev}(h1:checkE e≠0):fitE nd e=checkE e:=by unfold fitE;rw [if_pos h1]
theorem ref_to{nd:Int}{es:List Ev}{k:Nat}(hf:FitOk nd (at_ es (k:Int)))(h:0<k→¬(at_ es (k:Int)).tm<(at_ es ((k:Int) - 1)).tm):lastT es k≤(at_ es (k:Int)).tm:=by
 unfold lastT
 split
 ·exact hf.tm.1
 ·have:=h om;omega
theorem lastT_pos{es:List Ev}{k:Nat}(h:0<k):lastT es k=(at_ es ((k:Int) - 1)).tm:=by unfold lastT;rw [if_neg om]
set_option maxHeartbeats 4000000 in
theorem Slide7_ok{κ:Ctx}{I:List Item}{nd kd wd mo:Int}{va:Value}{es:List Ev}(hl:Sl κ I va es) :
    CallS Tryz.prog κ 93 [I64 (nd),va,.agg #[I64 (kd),I64 (wd),I64 (mo)]] I (fun r J=>((slideE nd kd wd mo es)≠0∧r = .tuple #[.slice none 0 0,I64 (slideE nd kd wd mo es)]∧I=J)∨(∃a c,(slideE nd kd wd mo es)=0∧r = .tuple #[.slice a (slideS kd wd mo es).2.length c,I64 0]∧J=vc 108 (.slice a (slideS kd wd mo es).2.length c) (slideS kd wd mo es).2::I)):=by
 refine B4 hl.le fun hmax=>?_
 refine Ce3 Tryz.func93 rfl rfl ?_
 refine Ai (Ge1 (Bd (cs:=[_,_,_]) rfl rfl rfl) fun b1=>Ga rfl (Ga rfl (Af (Au (Ai (Gl3 ty31 ?_))))))
 refine Gc0 (Ap call85 rfl rfl (CheckW7_ok kd wd mo)) ?_
 refine Ga rfl (Af (Ai (Gm rfl (Gr (Be rfl rfl) (Af (A7 rfl (fun c24=>?_) (fun c24=>?_)))))))
 ·refine Ai (Gm rfl (Ga rfl (Ga rfl (Af (Ar (S2 7 6 rfl rfl) (Ax (Ah ?_)))))))
  have hz:(slideE nd kd wd mo es)=checkW kd wd mo:=by unfold slideE;rw [if_pos c24]
  exact Cl rfl rfl rfl (I) A0 (.inl ⟨by rw [hz];exact c24,by rw [hz],rfl⟩)
 ·refine Aw (Aj (Au (Ai (Gm rfl (Gr (A9 rfl rfl) (Gm rfl (Bb (d:=28) rfl (fun g28=>?_) (fun g28=>?_))))))))
  ·refine Gpo (Gpo (Gr (Ao rfl rfl) (Af (Ar (S4 31 5 0 1 rfl rfl rfl rfl) (Ca rfl (Ai (Ga rfl (Ga rfl (Af (Ax (Ah ?_)))))))))))
   have hz:(slideE nd kd wd mo es)=1:=(slideE_st c24).trans (by unfold streamE;rw [if_pos om])
   exact Cl rfl rfl rfl (I) A0 (.inl ⟨by rw [hz];decide,by rw [hz],rfl⟩)
  ·refine Gro (Ad rfl) (Gro (Bz rfl rfl) (Gr (Al rfl rfl) (Af (Ar (S4 31 5 0 1 rfl rfl rfl rfl) (A7 rfl (fun c31=>?_) (fun c31=>?_))))))
   ·refine Ai (Ga rfl (Ga rfl (Af (Ax (Ah ?_)))))
    have hz:(slideE nd kd wd mo es)=1:=(slideE_st c24).trans (by unfold streamE;rw [if_pos om])
    exact Cl rfl rfl rfl (I) A0 (.inl ⟨by rw [hz];decide,by rw [hz],rfl⟩)
   ·refine Aw (Aj (Au (Ai (Gm rfl (Gr (Bx (α:=Ev) (xs:=es) A1 rfl (Bj hl)) (Gr (Bz rfl rfl) (Af (A7 rfl (fun c34=>?_) (fun c34=>?_)))))))))
    ·refine Ai (Ga rfl (Ga rfl (Af (Ax (Ah ?_)))))
     have hz:(slideE nd kd wd mo es)=3:=(slideE_st c24).trans (by unfold streamE;rw [if_neg om,if_pos om])
     exact Cl rfl rfl rfl (I) A0 (.inl ⟨by rw [hz];decide,by rw [hz],rfl⟩)
    ·refine Aw (Aj (Ai (Gm rfl (Gr (Bl (cells:=[_,_]) ty111 Dx pl111 rfl rfl) (Ge1 (A8 ty111 rfl) fun b2=>Ge0 (Ce ty111) ?_)))))
     refine Af (Ai (Ga rfl (Af (Au (Ai (Gm rfl (Gr (Bx (α:=Ev) (xs:=es) A1 rfl (Bj hl)) (Gm rfl (Af (Ar (S8 39 38 37 10 9 5 0 1 rfl rfl rfl rfl rfl rfl rfl rfl) (A4 (Bv (σ:=Nat×(Option Addr)×Nat×(Option Addr)×Nat×(List Lk)×(List Ev)) (fun s=>([(0,I64 (nd)),(1,va),(5,.pointer (some ⟨b1,0,none⟩)),(9,.pointer (some ⟨b2,0,none⟩)),(10,.slice s.2.2.2.1 s.2.2.2.2.2.2.length s.2.2.2.2.1),(37,va),(38,I64 (((es.length:Nat):Int))),(39,I64 (((s.1:Nat):Int)))]:Env)) (fun s=>blk b2 [I64 (nd),.slice s.2.1 s.2.2.2.2.2.1.length s.2.2.1] 111::vc 146 (.slice s.2.1 s.2.2.2.2.2.1.length s.2.2.1) (s.2.2.2.2.2.1)::vc 108 (.slice s.2.2.2.1 s.2.2.2.2.2.2.length s.2.2.2.2.1) (s.2.2.2.2.2.2)::blk b1 [I64 (kd),I64 (wd),I64 (mo)] 31::I) (fun s=>(s.1≤es.length)∧(slideS kd wd mo (List.take s.1 es)=(s.2.2.2.2.2.1,s.2.2.2.2.2.2))∧(SlI nd kd wd (lastT es s.1) s.2.2.2.2.2.1)∧(s.2.2.2.2.2.1.length+s.2.2.2.2.2.2.length≤2*s.1)∧(streamE nd es=streamS nd (lastT es s.1) (es.drop s.1))∧(0≤lastT es s.1)) (fun s=>es.length - s.1) (0,none,0,none,0,[],[]) (show ((0:Nat)≤es.length)∧(slideS kd wd mo (List.take (0:Nat) es)=(([]:List Lk),([]:List Ev)))∧(SlI nd kd wd (lastT es (0:Nat)) ([]:List Lk))∧(([]:List Lk).length+([]:List Ev).length≤2*(0:Nat))∧(streamE nd es=streamS nd (lastT es (0:Nat)) (es.drop (0:Nat)))∧(0≤lastT es (0:Nat)) from ⟨om,rfl,(SlI.nil om),(by simp),(streamE_zero om om),(Int.le_refl _)⟩) (Aa rfl (Aa rfl (Aa rfl (Aa rfl (Aa (Cp rfl (by first|rfl|simp)) (Aa rfl (Aa rfl (Aa B8 Bg)))))))) (show Fit κ _ (blk b2 [I64 (nd),.slice (none) ([]).length (0)] 111::vc 146 (.slice (none) ([]).length (0)) (([]))::vc 108 (.slice (none) ([]).length (0)) (([]))::blk b1 [I64 (kd),I64 (wd),I64 (mo)] 31::I) from (Cg (Bw 108 _) (Cg (Bw 146 _) Bt))) ?_))))))))))))
     rintro ⟨k,a1,c1,o1,d1,xs,out⟩ hp
     dsimp only at hp ⊢
     obtain ⟨hk,hst,hI,hs,hs0,hl0⟩:=hp
     refine Ai (Gr (A9 rfl rfl) (Af (Au (A7 rfl (fun c40=>?_) (fun c40=>?_)))))
     ·refine Aw (Aj (Au (A4 (Ai (Gm rfl (Gr (A3 (α:=Ev) (xs:=es) A1 ty108 rfl rfl (Bj hl) om om) (Gr (Bu (α:=Ev) (xs:=es) ty108 rfl (Bj hl) om om) (Ge1 (A8 ty108 rfl) fun b3=>Ga rfl (Ge0 (Es7_7 ty108) ?_)))))))))
      refine Af (Ar (S10 11 12 0 1 5 9 10 37 38 39 rfl rfl rfl rfl rfl rfl rfl rfl rfl rfl) (Au (Ai (Gl7 ty108 ?_))))
      refine Gc0 (Ap call155 rfl rfl (CheckE4_ok (at_ es (k:Int)))) ?_
      refine Ga rfl (Af (Ai (Gm rfl (Gr (Be rfl rfl) (Af (Ar (S12 47 13 11 12 0 1 5 9 10 37 38 39 rfl rfl rfl rfl rfl rfl rfl rfl rfl rfl rfl rfl) (A7 rfl (fun c47=>?_) (fun c47=>?_))))))))
      ·refine Ai (Gm rfl (Ga rfl (Ga rfl (Af (Ar (S2 7 6 rfl rfl) (Ax (Ah (Av (Ah (Ah (Av (Ah ?_))))))))))))
       have hz:(slideE nd kd wd mo es)=checkE (at_ es (k:Int)):=(slideE_st c24).trans (hs0.trans ((streamS_bad om (by rw [fitE_bad c47];exact c47)).trans (fitE_bad c47)))
       exact Cl rfl rfl rfl (I) A0 (.inl ⟨by rw [hz];exact c47,by rw [hz],rfl⟩)
      ·refine Aw (Aj (Au (Ai (Gf fld108_2 rfl (Gl ty3 ?_)))))
       refine Gm rfl (Gr (B6 rfl rfl) (Gm rfl (Bb (d:=53) rfl (fun g53=>?_) (fun g53=>?_))))
       ·refine Gpo (Gpo (Gpo (Gpo (Gr (Ao rfl rfl) (Af (Ar (S11 58 11 12 0 1 5 9 10 37 38 39 rfl rfl rfl rfl rfl rfl rfl rfl rfl rfl rfl) (Ca rfl (Ai (Ga rfl (Ga rfl (Af (Ax (Ah (Av (Ah (Ah (Av (Ah ?_))))))))))))))))))
        have hz:(slideE nd kd wd mo es)=6:=(slideE_st c24).trans (hs0.trans ((streamS_bad om (by rw [fitE_six c47 om];decide)).trans (fitE_six c47 om)))
        exact Cl rfl rfl rfl (I) A0 (.inl ⟨by rw [hz];decide,by rw [hz],rfl⟩)
       ·refine Gro (Ab fld108_3 rfl) (Gro (As ty3) ?_)
        refine Gro (Ad rfl) (Gro (B6 rfl rfl) (Gr (Al rfl rfl) (Af (Ar (S11 58 11 12 0 1 5 9 10 37 38 39 rfl rfl rfl rfl rfl rfl rfl rfl rfl rfl rfl) (A7 rfl (fun c58=>?_) (fun c58=>?_))))))
        ·refine Ai (Ga rfl (Ga rfl (Af (Ax (Ah (Av (Ah (Ah (Av (Ah ?_))))))))))
         have hz:(slideE nd kd wd mo es)=6:=(slideE_st c24).trans (hs0.trans ((streamS_bad om (by rw [fitE_six c47 om];decide)).trans (fitE_six c47 om)))
         exact Cl rfl rfl rfl (I) A0 (.inl ⟨by rw [hz];decide,by rw [hz],rfl⟩)
        ·refine Aw (Aj (Eq (σ:=Nat) (fun s=>([(0,I64 (nd)),(1,va),(5,.pointer (some ⟨b1,0,none⟩)),(9,.pointer (some ⟨b2,0,none⟩)),(10,.slice o1 out.length d1),(12,.pointer (some ⟨b3,0,none⟩)),(37,va),(38,I64 (((es.length:Nat):Int))),(39,I64 ((k:Int)))]:Env)) (fun s=>blk b3 [I64 ((at_ es (k:Int)).kd),I64 ((at_ es (k:Int)).tm),I64 ((at_ es (k:Int)).u),I64 ((at_ es (k:Int)).v),I64 ((at_ es (k:Int)).w),I64 ((at_ es (k:Int)).lb),I64 ((at_ es (k:Int)).sg)] 108::blk b2 [I64 (nd),.slice a1 xs.length c1] 111::vc 146 (.slice a1 xs.length c1) (xs)::vc 108 (.slice o1 out.length d1) (out)::blk b1 [I64 (kd),I64 (wd),I64 (mo)] 31::I) (fun s=>(lastT es k≤(at_ es (k:Int)).tm)∧(FitOk nd (at_ es (k:Int)))) ?_ ?_))
         ·refine Au (Bk mixed (Bo (blk b3 [I64 ((at_ es (k:Int)).kd),I64 ((at_ es (k:Int)).tm),I64 ((at_ es (k:Int)).u),I64 ((at_ es (k:Int)).v),I64 ((at_ es (k:Int)).w),I64 ((at_ es (k:Int)).lb),I64 ((at_ es (k:Int)).sg)] 108::blk b2 [I64 (nd),.slice a1 xs.length c1] 111::vc 146 (.slice a1 xs.length c1) (xs)::vc 108 (.slice o1 out.length d1) (out)::blk b1 [I64 (kd),I64 (wd),I64 (mo)] 31::I) 13 (Dr 0 rfl (Ad rfl) (Dr 1 rfl (Bz rfl rfl) (Dr 2 rfl (Ad rfl) (C7 (d:=61) rfl (fun g61=>?_) (fun g61=>?_)))))))
          ·refine Dro 3 rfl (Ad rfl) (Dro 4 rfl (Ad rfl) (Dro 5 rfl (Rsu rfl rfl) (Dro 6 rfl (A3 (α:=Ev) (xs:=es) A1 ty108 rfl rfl (Bj hl) om om) (Dro 7 rfl (C0 (α:=Ev) (xs:=es) fld108_1 rfl (Bj hl) om) (Dro 8 rfl (C1 (α:=Ev) (xs:=es) (u:=I64 ((at_ es ((k:Int) - 1)).tm)) ty3 rfl (Bj hl) om om rfl) (Dro 9 rfl (Ab fld108_1 rfl) (Dro 10 rfl (As ty3) ?_)))))))
           refine Dro 11 rfl (Bz rfl rfl) (Dr 12 rfl (Ao rfl rfl) (Dz (Aj (Ar (S10 71 12 0 1 5 9 10 37 38 39 rfl rfl rfl rfl rfl rfl rfl rfl rfl rfl) (A7 rfl (fun c71=>?_) (fun c71=>?_))))))
           ·refine Ai (Ga rfl (Ga rfl (Af (Ax (Ah (Av (Ah (Ah (Av (Ah ?_))))))))))
            have hz:(slideE nd kd wd mo es)=9:=(slideE_st c24).trans (hs0.trans (streamS_late om (fitE_of c47 om) (by rw [lastT_pos om];omega)))
            exact Cl rfl rfl rfl (I) A0 (.inl ⟨by rw [hz];decide,by rw [hz],rfl⟩)
           ·exact Aw (Dh ((0)) ⟨(ref_to (nd:=nd) (fitE_ok.1 (fitE_of c47 om)) (fun hk0=>by omega)),(fitE_ok.1 (fitE_of c47 om))⟩ (hI:=by (try dsimp only);exact (Df _)))
          ·exact Dpo 3 rfl (Dpo 4 rfl (Dpo 5 rfl (Dpo 6 rfl (Dpo 7 rfl (Dpo 8 rfl (Dpo 9 rfl (Dpo 10 rfl (Dpo 11 rfl (Dr 12 rfl (Al rfl rfl) (Dz (Aj (Ar (S10 71 12 0 1 5 9 10 37 38 39 rfl rfl rfl rfl rfl rfl rfl rfl rfl rfl) (C9 rfl (Aw (Dh ((0)) ⟨(ref_to (nd:=nd) (fitE_ok.1 (fitE_of c47 om)) (fun hk0=>by omega)),(fitE_ok.1 (fitE_of c47 om))⟩ (hI:=by (try dsimp only);exact (Df _)))))))))))))))))
         ·rintro u0 hp
          obtain ⟨hto,hfe⟩:(lastT es k≤(at_ es (k:Int)).tm)∧(FitOk nd (at_ es (k:Int))):=hp
          show W Tryz.prog κ 138 _ _ ([(0,I64 (nd)),(1,va),(5,.pointer (some ⟨b1,0,none⟩)),(9,.pointer (some ⟨b2,0,none⟩)),(10,.slice o1 out.length d1),(12,.pointer (some ⟨b3,0,none⟩)),(37,va),(38,I64 (((es.length:Nat):Int))),(39,I64 ((k:Int)))]:Env) (blk b3 [I64 ((at_ es (k:Int)).kd),I64 ((at_ es (k:Int)).tm),I64 ((at_ es (k:Int)).u),I64 ((at_ es (k:Int)).v),I64 ((at_ es (k:Int)).w),I64 ((at_ es (k:Int)).lb),I64 ((at_ es (k:Int)).sg)] 108::blk b2 [I64 (nd),.slice a1 xs.length c1] 111::vc 146 (.slice a1 xs.length c1) (xs)::vc 108 (.slice o1 out.length d1) (out)::blk b1 [I64 (kd),I64 (wd),I64 (mo)] 31::I)
          refine Eq (σ:=(Option Addr)×Nat×(Option Addr)×Nat×(List Lk)×(List Ev)) (fun s=>([(0,I64 (nd)),(1,va),(5,.pointer (some ⟨b1,0,none⟩)),(9,.pointer (some ⟨b2,0,none⟩)),(10,.slice s.2.2.1 s.2.2.2.2.2.length s.2.2.2.1),(12,.pointer (some ⟨b3,0,none⟩)),(37,va),(38,I64 (((es.length:Nat):Int))),(39,I64 ((k:Int)))]:Env)) (fun s=>blk b2 [I64 (nd),.slice s.1 s.2.2.2.2.1.length s.2.1] 111::vc 146 (.slice s.1 s.2.2.2.2.1.length s.2.1) (s.2.2.2.2.1)::vc 108 (.slice s.2.2.1 s.2.2.2.2.2.length s.2.2.2.1) (s.2.2.2.2.2)::blk b1 [I64 (kd),I64 (wd),I64 (mo)] 31::blk b3 [I64 ((at_ es (k:Int)).kd),I64 ((at_ es (k:Int)).tm),I64 ((at_ es (k:Int)).u),I64 ((at_ es (k:Int)).v),I64 ((at_ es (k:Int)).w),I64 ((at_ es (k:Int)).lb),I64 ((at_ es (k:Int)).sg)] 108::I) (fun s=>((agedL kd wd mo (at_ es (k:Int)).tm (xs,out))=(s.2.2.2.2.1,s.2.2.2.2.2))∧(SlI nd kd wd (at_ es (k:Int)).tm s.2.2.2.2.1)∧(s.2.2.2.2.1.length+s.2.2.2.2.2.length=xs.length+out.length)) ?_ ?_
          ·refine A4 (Bv (σ:=(Option Addr)×Nat×(Option Addr)×Nat×(List Lk)×(List Ev)) (fun s=>([(0,I64 (nd)),(1,va),(5,.pointer (some ⟨b1,0,none⟩)),(9,.pointer (some ⟨b2,0,none⟩)),(10,.slice s.2.2.1 s.2.2.2.2.2.length s.2.2.2.1),(12,.pointer (some ⟨b3,0,none⟩)),(37,va),(38,I64 (((es.length:Nat):Int))),(39,I64 ((k:Int)))]:Env)) (fun s=>blk b2 [I64 (nd),.slice s.1 s.2.2.2.2.1.length s.2.1] 111::vc 146 (.slice s.1 s.2.2.2.2.1.length s.2.1) (s.2.2.2.2.1)::vc 108 (.slice s.2.2.1 s.2.2.2.2.2.length s.2.2.2.1) (s.2.2.2.2.2)::blk b1 [I64 (kd),I64 (wd),I64 (mo)] 31::blk b3 [I64 ((at_ es (k:Int)).kd),I64 ((at_ es (k:Int)).tm),I64 ((at_ es (k:Int)).u),I64 ((at_ es (k:Int)).v),I64 ((at_ es (k:Int)).w),I64 ((at_ es (k:Int)).lb),I64 ((at_ es (k:Int)).sg)] 108::I) (fun s=>((agedL kd wd mo (at_ es (k:Int)).tm (xs,out))=agedL kd wd mo (at_ es (k:Int)).tm (s.2.2.2.2.1,s.2.2.2.2.2))∧(SlI nd kd wd (lastT es k) s.2.2.2.2.1)∧(s.2.2.2.2.1.length+s.2.2.2.2.2.length=xs.length+out.length)) (fun s=>s.2.2.2.2.1.length) (a1,c1,o1,d1,xs,out) (show ((agedL kd wd mo (at_ es (k:Int)).tm (xs,out))=agedL kd wd mo (at_ es (k:Int)).tm ((xs:List Lk),(out:List Ev)))∧(SlI nd kd wd (lastT es k) (xs:List Lk))∧((xs:List Lk).length+(out:List Ev).length=xs.length+out.length) from ⟨rfl,hI,rfl⟩) (Aa rfl (Aa rfl (Aa rfl (Aa rfl (Aa (Cp rfl (by first|rfl|simp)) (Aa rfl (Aa rfl (Aa rfl (Aa rfl Bg))))))))) (show Fit κ _ (blk b2 [I64 (nd),.slice (a1) (xs).length (c1)] 111::vc 146 (.slice (a1) (xs).length (c1)) ((xs))::vc 108 (.slice (o1) (out).length (d1)) ((out))::blk b1 [I64 (kd),I64 (wd),I64 (mo)] 31::blk b3 [I64 ((at_ es (k:Int)).kd),I64 ((at_ es (k:Int)).tm),I64 ((at_ es (k:Int)).u),I64 ((at_ es (k:Int)).v),I64 ((at_ es (k:Int)).w),I64 ((at_ es (k:Int)).lb),I64 ((at_ es (k:Int)).sg)] 108::I) from Bt) ?_)
           rintro ⟨a3,c3,o3,d3,us,vs⟩ hp
           dsimp only at hp ⊢
           obtain ⟨hag0,hJ,hs3⟩:=hp
           refine A4 (Ai (Gl2 ty111 ?_))
           refine Gl3 ty31 ?_
           refine G.e (Ap call160 rfl rfl (Until7_ok (nd:=nd) (kd:=kd) (wd:=wd) (mo:=mo) Bf)) ?_
           rintro _ _ ⟨_,_,⟨zu4,rfl,huzu4,rfl⟩,rfl,rfl⟩
           refine Gm rfl (Gr (A2 rfl rfl) (Gr (A2 rfl rfl) (Gr (A2 rfl rfl) (Ga rfl (Ga rfl (Ga rfl (Af (Ar (S11 15 14 0 1 5 9 10 12 37 38 39 rfl rfl rfl rfl rfl rfl rfl rfl rfl rfl rfl) (Au (Ai (Gm rfl (Gr (Cw rfl) (Gm rfl (Bb (d:=81) rfl (fun g81=>?_) (fun g81=>?_)))))))))))))))
           ·refine Gpo (Gpo (Gpo (Gpo (Gr (Ao rfl rfl) (Af (Ar (S11 86 14 0 1 5 9 10 12 37 38 39 rfl rfl rfl rfl rfl rfl rfl rfl rfl rfl rfl) (Ca rfl (Bs (Am (Dg rfl (Am (A6 ?_))))))))))))
            have hstop:kd=2→¬(0<us.length∧minT us+wd≤(at_ es (k:Int)).tm):=fun hk2 h=>by have hc:untilC nd us kd wd mo:=⟨uErr_zero c24 (fun h=>h hJ.val),hk2,List.length_pos_iff.1 h.1⟩;first|exact absurd hc g81|(have hz:=minT_uniq (huzu4.yes hc);omega)
            exact Dh ((a3),(c3),(o3),(d3),(us),(vs)) (by dsimp only;exact ⟨(hag0.trans (agedL_stop hstop)),(hJ.later hto hstop),hs3⟩)
           ·refine Gro (Ad rfl) (Gro (Ab fld108_1 rfl) (Gro (As ty3) ?_))
            refine Gro (Bz rfl rfl) (Gr (Al rfl rfl) (Af (Ar (S11 86 14 0 1 5 9 10 12 37 38 39 rfl rfl rfl rfl rfl rfl rfl rfl rfl rfl rfl) (A7 rfl (fun c86=>?_) (fun c86=>?_)))))
            ·refine Bs (Am (Dg rfl (Am (A6 ?_))))
             have hstop:kd=2→¬(0<us.length∧minT us+wd≤(at_ es (k:Int)).tm):=fun hk2 h=>by have hc:untilC nd us kd wd mo:=⟨uErr_zero c24 (fun h=>h hJ.val),hk2,List.length_pos_iff.1 h.1⟩;first|exact absurd hc g81|(have hz:=minT_uniq (huzu4.yes hc);omega)
             exact Dh ((a3),(c3),(o3),(d3),(us),(vs)) (by dsimp only;exact ⟨(hag0.trans (agedL_stop hstop)),(hJ.later hto hstop),hs3⟩)
            ·refine Aw (Aj (Ai (Gl2 ty111 ?_)))
             refine Gl3 ty31 ?_
             refine Gm rfl ?_
             have hfm:=hfe.tm
             have hc:untilC nd us kd wd mo:=by first|exact Classical.not_not.1 g81|assumption
             have hpos:0<us.length:=List.length_pos_iff.2 hc.2.2
             have hz:zu4=minT us+wd:=minT_uniq (huzu4.yes hc)
             have hfz:=hJ.first hc.2.1 hpos
             have hask:askE nd us kd wd mo zu4=0:=hJ.ask (Classical.not_not.1 c24) om om
             have hglz:=gone_len kd wd mo zu4 us
             refine G.e (Ap call161 rfl rfl (Expired7_ok (nd:=nd) (kd:=kd) (wd:=wd) (mo:=mo) (nw:=zu4) (xs:=us) Bf (by first|omega|(have h:=stepL_len ys (at_ es (k:Int));omega)))) ?_
             rintro _ _ ⟨_,_,(⟨hnead5,rfl,rfl⟩|⟨ad5,cp6,hzad5,rfl,rfl⟩),rfl,rfl⟩
             ·exact absurd hask hnead5
             ·show G Tryz.prog κ _ _ _ _ ([(91,.tuple #[.slice ad5 (goneL kd wd mo zu4 us).length cp6,I64 (0)]),(90,I64 (zu4)),(89,.agg #[I64 (kd),I64 (wd),I64 (mo)]),(88,.agg #[I64 (nd),.slice a3 us.length c3]),(86,.bool (decide (((at_ es (k:Int)).tm)<zu4))),(14,I64 (zu4)),(0,I64 (nd)),(1,va),(5,.pointer (some ⟨b1,0,none⟩)),(9,.pointer (some ⟨b2,0,none⟩)),(10,.slice o3 vs.length d3),(12,.pointer (some ⟨b3,0,none⟩)),(37,va),(38,I64 (((es.length:Nat):Int))),(39,I64 ((k:Int)))]:Env) (vc 108 (.slice ad5 (goneL kd wd mo zu4 us).length cp6) (goneL kd wd mo zu4 us)::blk b2 [I64 (nd),.slice a3 us.length c3] 111::vc 146 (.slice a3 us.length c3) (us)::vc 108 (.slice o3 vs.length d3) (vs)::blk b1 [I64 (kd),I64 (wd),I64 (mo)] 31::blk b3 [I64 ((at_ es (k:Int)).kd),I64 ((at_ es (k:Int)).tm),I64 ((at_ es (k:Int)).u),I64 ((at_ es (k:Int)).v),I64 ((at_ es (k:Int)).w),I64 ((at_ es (k:Int)).lb),I64 ((at_ es (k:Int)).sg)] 108::I)
              refine Gm rfl (Gr (A2 rfl rfl) (Gr (A2 rfl rfl) (Ga rfl (Ga rfl (Af (Ar (S10 17 0 1 5 9 10 12 37 38 39 rfl rfl rfl rfl rfl rfl rfl rfl rfl rfl) (Ai (Gl2 ty111 ?_))))))))
              refine Gm rfl (G.e (Ap call162 rfl rfl (Cj (J:=vc 146 (.slice a3 us.length c3) (us)::vc 108 (.slice ad5 (goneL kd wd mo zu4 us).length cp6) (goneL kd wd mo zu4 us)::blk b2 [I64 (nd),.slice a3 us.length c3] 111::vc 108 (.slice o3 vs.length d3) (vs)::blk b1 [I64 (kd),I64 (wd),I64 (mo)] 31::blk b3 [I64 ((at_ es (k:Int)).kd),I64 ((at_ es (k:Int)).tm),I64 ((at_ es (k:Int)).u),I64 ((at_ es (k:Int)).v),I64 ((at_ es (k:Int)).w),I64 ((at_ es (k:Int)).lb),I64 ((at_ es (k:Int)).sg)] 108::I) Bt (All5_base (nd:=nd) (xs:=us) (es:=goneL kd wd mo zu4 us) Bf hJ.val (fitgone hJ.val om) (by first|omega|(have h:=stepL_len ys (at_ es (k:Int));have h9:=gone_len kd wd mo (at_ es (k:Int)).tm (stepL ys (at_ es (k:Int)));omega))))) ?_)
              rintro _ _ ⟨_,_,⟨⟨ad7,cp8,nn9⟩,rfl,rfl⟩,rfl,rfl⟩
              show G Tryz.prog κ _ _ _ _ ([(97,.tuple #[.agg #[I64 (nd),.slice ad7 (List.foldl stepL us (goneL kd wd mo zu4 us)).length cp8],I64 (nn9),I64 (0)]),(96,.slice ad5 (goneL kd wd mo zu4 us).length cp6),(95,.agg #[I64 (nd),.slice a3 us.length c3]),(17,.slice ad5 (goneL kd wd mo zu4 us).length cp6),(0,I64 (nd)),(1,va),(5,.pointer (some ⟨b1,0,none⟩)),(9,.pointer (some ⟨b2,0,none⟩)),(10,.slice o3 vs.length d3),(12,.pointer (some ⟨b3,0,none⟩)),(37,va),(38,I64 (((es.length:Nat):Int))),(39,I64 ((k:Int)))]:Env) (vc 146 (.slice ad7 (List.foldl stepL us (goneL kd wd mo zu4 us)).length cp8) (List.foldl stepL us (goneL kd wd mo zu4 us))::vc 108 (.slice ad5 (goneL kd wd mo zu4 us).length cp6) (goneL kd wd mo zu4 us)::blk b2 [I64 (nd),.slice a3 us.length c3] 111::vc 108 (.slice o3 vs.length d3) (vs)::blk b1 [I64 (kd),I64 (wd),I64 (mo)] 31::blk b3 [I64 ((at_ es (k:Int)).kd),I64 ((at_ es (k:Int)).tm),I64 ((at_ es (k:Int)).u),I64 ((at_ es (k:Int)).v),I64 ((at_ es (k:Int)).w),I64 ((at_ es (k:Int)).lb),I64 ((at_ es (k:Int)).sg)] 108::I)
              refine Gm rfl (Gr (A2 rfl rfl) (Gr (A2 rfl rfl) (Gr (A2 rfl rfl) (Ge0 (Ce ty111) ?_))))
              refine Af (Ar (S10 17 0 1 5 9 10 12 37 38 39 rfl rfl rfl rfl rfl rfl rfl rfl rfl rfl) (Az (Gm rfl (Gm rfl (Ge2 (B0 (α:=Ev) (e:=108) (xs:=vs) (ys:=goneL kd wd mo zu4 us) A1 ty108 rfl rfl rfl mm Bf (by first|omega|(simp only [List.length_append,List.length_cons,List.length_nil];omega)|(have h:=stepL_len ys (at_ es (k:Int));have h9:=gone_len kd wd mo (at_ es (k:Int)).tm (stepL ys (at_ es (k:Int)));first|omega|(simp only [List.length_append,List.length_cons,List.length_nil];omega))) dc rfl (fun _ _=>am)) fun ad10 cp11=>?_)))))
              refine Ga rfl (Bc (Ak ?_))
              have hg:=gone_steps (kd:=kd) (wd:=wd) (mo:=mo) (nw:=zu4) hJ.val
              have hgl:=gone_len kd wd mo zu4 us
              exact B3 ((ad7),(cp8),(ad10),(cp11),(List.filter (inW kd wd mo zu4 us) us),(vs++goneL kd wd mo zu4 us)) (by dsimp only;exact ⟨(hag0.trans (agedL_step hc.2.1 ⟨hpos,by omega⟩ hz)),(hJ.filter _),(by rw [List.length_append];omega)⟩) (hlt:=by (try dsimp only);exact (aged_less hc.2.1 hpos hz)) (hI:=by (try dsimp only);exact (by rw [←hg];exact Bt))
          ·rintro ⟨a2,c2,o2,d2,ys,zs⟩ hp
           obtain ⟨hag,hI2,hs2⟩:((agedL kd wd mo (at_ es (k:Int)).tm (xs,out))=(ys,zs))∧(SlI nd kd wd (at_ es (k:Int)).tm ys)∧(ys.length+zs.length=xs.length+out.length):=hp
           show W Tryz.prog κ 138 _ _ ([(0,I64 (nd)),(1,va),(5,.pointer (some ⟨b1,0,none⟩)),(9,.pointer (some ⟨b2,0,none⟩)),(10,.slice o2 zs.length d2),(12,.pointer (some ⟨b3,0,none⟩)),(37,va),(38,I64 (((es.length:Nat):Int))),(39,I64 ((k:Int)))]:Env) (blk b2 [I64 (nd),.slice a2 ys.length c2] 111::vc 146 (.slice a2 ys.length c2) (ys)::vc 108 (.slice o2 zs.length d2) (zs)::blk b1 [I64 (kd),I64 (wd),I64 (mo)] 31::blk b3 [I64 ((at_ es (k:Int)).kd),I64 ((at_ es (k:Int)).tm),I64 ((at_ es (k:Int)).u),I64 ((at_ es (k:Int)).v),I64 ((at_ es (k:Int)).w),I64 ((at_ es (k:Int)).lb),I64 ((at_ es (k:Int)).sg)] 108::I)
           refine Ai (Gl2 ty111 ?_)
           refine Gl7 ty108 ?_
           refine G.e (Ap call94 rfl rfl (Apply5_ok (nd:=nd) (e:=(at_ es (k:Int))) Bf hI2.val hfe om)) ?_
           rintro _ _ ⟨_,_,⟨⟨ad12,cp13,ad14,nn15,cp16⟩,⟨rfl,hnn15⟩,rfl⟩,rfl,rfl⟩
           show G Tryz.prog κ _ _ _ _ ([(107,.tuple #[.agg #[I64 (nd),.slice ad12 (stepL ys (at_ es (k:Int))).length cp13],.slice ad14 nn15 cp16,I64 (0)]),(106,.agg #[I64 ((at_ es (k:Int)).kd),I64 ((at_ es (k:Int)).tm),I64 ((at_ es (k:Int)).u),I64 ((at_ es (k:Int)).v),I64 ((at_ es (k:Int)).w),I64 ((at_ es (k:Int)).lb),I64 ((at_ es (k:Int)).sg)]),(105,.agg #[I64 (nd),.slice a2 ys.length c2]),(0,I64 (nd)),(1,va),(5,.pointer (some ⟨b1,0,none⟩)),(9,.pointer (some ⟨b2,0,none⟩)),(10,.slice o2 zs.length d2),(12,.pointer (some ⟨b3,0,none⟩)),(37,va),(38,I64 (((es.length:Nat):Int))),(39,I64 ((k:Int)))]:Env) (vc 146 (.slice ad12 (stepL ys (at_ es (k:Int))).length cp13) (stepL ys (at_ es (k:Int)))::blk b2 [I64 (nd),.slice a2 ys.length c2] 111::vc 146 (.slice a2 ys.length c2) (ys)::vc 108 (.slice o2 zs.length d2) (zs)::blk b1 [I64 (kd),I64 (wd),I64 (mo)] 31::blk b3 [I64 ((at_ es (k:Int)).kd),I64 ((at_ es (k:Int)).tm),I64 ((at_ es (k:Int)).u),I64 ((at_ es (k:Int)).v),I64 ((at_ es (k:Int)).w),I64 ((at_ es (k:Int)).lb),I64 ((at_ es (k:Int)).sg)] 108::I)
           have hnn15:nn15≤2*ys.length+1:=hnn15
           refine Gm rfl (Gr (A2 rfl rfl) (Gr (A2 rfl rfl) (Gr (A2 rfl rfl) (Ge0 (Ce ty111) ?_))))
           have hI3:SlI nd kd wd (at_ es (k:Int)).tm (stepL ys (at_ es (k:Int))):=hI2.step hfe rfl (checkW_one (Classical.not_not.1 c24))
           have hs1:streamE nd es=streamS nd (lastT es (k+1)) (es.drop (k+1)):=hs0.trans (streamS_step om (fitE_ok.2 hfe) om)
           refine Af (Ar (S9 0 1 5 9 10 12 37 38 39 rfl rfl rfl rfl rfl rfl rfl rfl rfl) (Ai (Gm rfl (Gl7 ty108 ?_))))
           refine Ge1 (B1 (α:=Ev) (cs:=[I64 ((at_ es (k:Int)).kd),I64 ((at_ es (k:Int)).tm),I64 ((at_ es (k:Int)).u),I64 ((at_ es (k:Int)).v),I64 ((at_ es (k:Int)).w),I64 ((at_ es (k:Int)).lb),I64 ((at_ es (k:Int)).sg)]) (xs:=[⟨(at_ es (k:Int)).kd,(at_ es (k:Int)).tm,(at_ es (k:Int)).u,(at_ es (k:Int)).v,(at_ es (k:Int)).w,(at_ es (k:Int)).lb,(at_ es (k:Int)).sg⟩]) A1 ty108 rfl rfl dc dc rfl kr rfl rfl) fun ad17=>?_
           refine Ge2 (B0 (α:=Ev) (e:=108) (xs:=zs) (ys:=([⟨(at_ es (k:Int)).kd,(at_ es (k:Int)).tm,(at_ es (k:Int)).u,(at_ es (k:Int)).v,(at_ es (k:Int)).w,(at_ es (k:Int)).lb,(at_ es (k:Int)).sg⟩]:List Ev)) A1 ty108 rfl rfl rfl mm Bf (by first|omega|(simp only [List.length_append,List.length_cons,List.length_nil];omega)|(have h:=stepL_len ys (at_ es (k:Int));have h9:=gone_len kd wd mo (at_ es (k:Int)).tm (stepL ys (at_ es (k:Int)));first|omega|(simp only [List.length_append,List.length_cons,List.length_nil];omega))) dc rfl (fun _ _=>am)) fun ad18 cp19=>?_
           refine Ga rfl (Af (Ar (S9 10 0 1 5 9 12 37 38 39 rfl rfl rfl rfl rfl rfl rfl rfl rfl) (Ai (Gf fld31_0 rfl (Gl ty3 ?_)))))
           refine Gr (Bi rfl rfl) (Af (A7 rfl (fun c117=>?_) (fun c117=>?_)))
           ·refine Ai (Gl2 ty111 ?_)
            refine Gl3 ty31 ?_
            refine Gf fld108_1 rfl (Gl ty3 ?_)
            refine G.e (Ap call161 rfl rfl (Expired7_ok (nd:=nd) (kd:=kd) (wd:=wd) (mo:=mo) (nw:=((at_ es (k:Int)).tm)) (xs:=stepL ys (at_ es (k:Int))) Bf (by first|omega|(have h:=stepL_len ys (at_ es (k:Int));omega)))) ?_
            rintro _ _ ⟨_,_,(⟨hnead20,rfl,rfl⟩|⟨ad20,cp21,hzad20,rfl,rfl⟩),rfl,rfl⟩
            ·exact absurd (hI3.ask (Classical.not_not.1 c24) hfe.tm (Int.le_refl _)) hnead20
            ·show G Tryz.prog κ _ _ _ _ ([(123,.tuple #[.slice ad20 (goneL kd wd mo ((at_ es (k:Int)).tm) (stepL ys (at_ es (k:Int)))).length cp21,I64 (0)]),(122,I64 ((at_ es (k:Int)).tm)),(121,.pointer (some ⟨b3,1,none⟩)),(120,.agg #[I64 (kd),I64 (wd),I64 (mo)]),(119,.agg #[I64 (nd),.slice ad12 (stepL ys (at_ es (k:Int))).length cp13]),(117,.bool (decide (kd=3))),(116,I64 (kd)),(115,.pointer (some ⟨b1,0,none⟩)),(10,.slice ad18 (zs++([⟨(at_ es (k:Int)).kd,(at_ es (k:Int)).tm,(at_ es (k:Int)).u,(at_ es (k:Int)).v,(at_ es (k:Int)).w,(at_ es (k:Int)).lb,(at_ es (k:Int)).sg⟩]:List Ev)).length cp19),(0,I64 (nd)),(1,va),(5,.pointer (some ⟨b1,0,none⟩)),(9,.pointer (some ⟨b2,0,none⟩)),(12,.pointer (some ⟨b3,0,none⟩)),(37,va),(38,I64 (((es.length:Nat):Int))),(39,I64 ((k:Int)))]:Env) (vc 108 (.slice ad20 (goneL kd wd mo ((at_ es (k:Int)).tm) (stepL ys (at_ es (k:Int)))).length cp21) (goneL kd wd mo ((at_ es (k:Int)).tm) (stepL ys (at_ es (k:Int))))::vc 108 (.slice ad17 1 1) (([⟨(at_ es (k:Int)).kd,(at_ es (k:Int)).tm,(at_ es (k:Int)).u,(at_ es (k:Int)).v,(at_ es (k:Int)).w,(at_ es (k:Int)).lb,(at_ es (k:Int)).sg⟩]:List Ev))::vc 146 (.slice ad12 (stepL ys (at_ es (k:Int))).length cp13) (stepL ys (at_ es (k:Int)))::blk b2 [I64 (nd),.slice ad12 (stepL ys (at_ es (k:Int))).length cp13] 111::vc 146 (.slice a2 ys.length c2) (ys)::vc 108 (.slice ad18 (zs++([⟨(at_ es (k:Int)).kd,(at_ es (k:Int)).tm,(at_ es (k:Int)).u,(at_ es (k:Int)).v,(at_ es (k:Int)).w,(at_ es (k:Int)).lb,(at_ es (k:Int)).sg⟩]:List Ev)).length cp19) (zs++([⟨(at_ es (k:Int)).kd,(at_ es (k:Int)).tm,(at_ es (k:Int)).u,(at_ es (k:Int)).v,(at_ es (k:Int)).w,(at_ es (k:Int)).lb,(at_ es (k:Int)).sg⟩]:List Ev))::blk b1 [I64 (kd),I64 (wd),I64 (mo)] 31::blk b3 [I64 ((at_ es (k:Int)).kd),I64 ((at_ es (k:Int)).tm),I64 ((at_ es (k:Int)).u),I64 ((at_ es (k:Int)).v),I64 ((at_ es (k:Int)).w),I64 ((at_ es (k:Int)).lb),I64 ((at_ es (k:Int)).sg)] 108::I)
             refine Gm rfl (Gr (A2 rfl rfl) (Gr (A2 rfl rfl) (Ga rfl (Ga rfl (Af (Ar (S9 19 10 0 1 5 9 37 38 39 rfl rfl rfl rfl rfl rfl rfl rfl rfl) (Ai (Gl2 ty111 ?_))))))))
             refine Gm rfl (G.e (Ap call162 rfl rfl (Cj (J:=vc 146 (.slice ad12 (stepL ys (at_ es (k:Int))).length cp13) (stepL ys (at_ es (k:Int)))::vc 108 (.slice ad20 (goneL kd wd mo ((at_ es (k:Int)).tm) (stepL ys (at_ es (k:Int)))).length cp21) (goneL kd wd mo ((at_ es (k:Int)).tm) (stepL ys (at_ es (k:Int))))::vc 108 (.slice ad17 1 1) (([⟨(at_ es (k:Int)).kd,(at_ es (k:Int)).tm,(at_ es (k:Int)).u,(at_ es (k:Int)).v,(at_ es (k:Int)).w,(at_ es (k:Int)).lb,(at_ es (k:Int)).sg⟩]:List Ev))::blk b2 [I64 (nd),.slice ad12 (stepL ys (at_ es (k:Int))).length cp13] 111::vc 146 (.slice a2 ys.length c2) (ys)::vc 108 (.slice ad18 (zs++([⟨(at_ es (k:Int)).kd,(at_ es (k:Int)).tm,(at_ es (k:Int)).u,(at_ es (k:Int)).v,(at_ es (k:Int)).w,(at_ es (k:Int)).lb,(at_ es (k:Int)).sg⟩]:List Ev)).length cp19) (zs++([⟨(at_ es (k:Int)).kd,(at_ es (k:Int)).tm,(at_ es (k:Int)).u,(at_ es (k:Int)).v,(at_ es (k:Int)).w,(at_ es (k:Int)).lb,(at_ es (k:Int)).sg⟩]:List Ev))::blk b1 [I64 (kd),I64 (wd),I64 (mo)] 31::blk b3 [I64 ((at_ es (k:Int)).kd),I64 ((at_ es (k:Int)).tm),I64 ((at_ es (k:Int)).u),I64 ((at_ es (k:Int)).v),I64 ((at_ es (k:Int)).w),I64 ((at_ es (k:Int)).lb),I64 ((at_ es (k:Int)).sg)] 108::I) Bt (All5_base (nd:=nd) (xs:=stepL ys (at_ es (k:Int))) (es:=goneL kd wd mo ((at_ es (k:Int)).tm) (stepL ys (at_ es (k:Int)))) Bf hI3.val (fitgone hI3.val hfe.tm) (by first|omega|(have h:=stepL_len ys (at_ es (k:Int));have h9:=gone_len kd wd mo (at_ es (k:Int)).tm (stepL ys (at_ es (k:Int)));omega))))) ?_)
             rintro _ _ ⟨_,_,⟨⟨ad22,cp23,nn24⟩,rfl,rfl⟩,rfl,rfl⟩
             show G Tryz.prog κ _ _ _ _ ([(129,.tuple #[.agg #[I64 (nd),.slice ad22 (List.foldl stepL (stepL ys (at_ es (k:Int))) (goneL kd wd mo ((at_ es (k:Int)).tm) (stepL ys (at_ es (k:Int))))).length cp23],I64 (nn24),I64 (0)]),(128,.slice ad20 (goneL kd wd mo ((at_ es (k:Int)).tm) (stepL ys (at_ es (k:Int)))).length cp21),(127,.agg #[I64 (nd),.slice ad12 (stepL ys (at_ es (k:Int))).length cp13]),(19,.slice ad20 (goneL kd wd mo ((at_ es (k:Int)).tm) (stepL ys (at_ es (k:Int)))).length cp21),(10,.slice ad18 (zs++([⟨(at_ es (k:Int)).kd,(at_ es (k:Int)).tm,(at_ es (k:Int)).u,(at_ es (k:Int)).v,(at_ es (k:Int)).w,(at_ es (k:Int)).lb,(at_ es (k:Int)).sg⟩]:List Ev)).length cp19),(0,I64 (nd)),(1,va),(5,.pointer (some ⟨b1,0,none⟩)),(9,.pointer (some ⟨b2,0,none⟩)),(37,va),(38,I64 (((es.length:Nat):Int))),(39,I64 ((k:Int)))]:Env) (vc 146 (.slice ad22 (List.foldl stepL (stepL ys (at_ es (k:Int))) (goneL kd wd mo ((at_ es (k:Int)).tm) (stepL ys (at_ es (k:Int))))).length cp23) (List.foldl stepL (stepL ys (at_ es (k:Int))) (goneL kd wd mo ((at_ es (k:Int)).tm) (stepL ys (at_ es (k:Int)))))::vc 108 (.slice ad20 (goneL kd wd mo ((at_ es (k:Int)).tm) (stepL ys (at_ es (k:Int)))).length cp21) (goneL kd wd mo ((at_ es (k:Int)).tm) (stepL ys (at_ es (k:Int))))::vc 108 (.slice ad17 1 1) (([⟨(at_ es (k:Int)).kd,(at_ es (k:Int)).tm,(at_ es (k:Int)).u,(at_ es (k:Int)).v,(at_ es (k:Int)).w,(at_ es (k:Int)).lb,(at_ es (k:Int)).sg⟩]:List Ev))::blk b2 [I64 (nd),.slice ad12 (stepL ys (at_ es (k:Int))).length cp13] 111::vc 146 (.slice a2 ys.length c2) (ys)::vc 108 (.slice ad18 (zs++([⟨(at_ es (k:Int)).kd,(at_ es (k:Int)).tm,(at_ es (k:Int)).u,(at_ es (k:Int)).v,(at_ es (k:Int)).w,(at_ es (k:Int)).lb,(at_ es (k:Int)).sg⟩]:List Ev)).length cp19) (zs++([⟨(at_ es (k:Int)).kd,(at_ es (k:Int)).tm,(at_ es (k:Int)).u,(at_ es (k:Int)).v,(at_ es (k:Int)).w,(at_ es (k:Int)).lb,(at_ es (k:Int)).sg⟩]:List Ev))::blk b1 [I64 (kd),I64 (wd),I64 (mo)] 31::blk b3 [I64 ((at_ es (k:Int)).kd),I64 ((at_ es (k:Int)).tm),I64 ((at_ es (k:Int)).u),I64 ((at_ es (k:Int)).v),I64 ((at_ es (k:Int)).w),I64 ((at_ es (k:Int)).lb),I64 ((at_ es (k:Int)).sg)] 108::I)
             refine Gm rfl (Gr (A2 rfl rfl) (Gr (A2 rfl rfl) (Gr (A2 rfl rfl) (Ge0 (Ce ty111) ?_))))
             refine Af (Ar (S9 19 10 0 1 5 9 37 38 39 rfl rfl rfl rfl rfl rfl rfl rfl rfl) (Az (Gm rfl (Gm rfl (Ge2 (B0 (α:=Ev) (e:=108) (xs:=zs++([⟨(at_ es (k:Int)).kd,(at_ es (k:Int)).tm,(at_ es (k:Int)).u,(at_ es (k:Int)).v,(at_ es (k:Int)).w,(at_ es (k:Int)).lb,(at_ es (k:Int)).sg⟩]:List Ev)) (ys:=goneL kd wd mo ((at_ es (k:Int)).tm) (stepL ys (at_ es (k:Int)))) A1 ty108 rfl rfl rfl mm Bf (by first|omega|(simp only [List.length_append,List.length_cons,List.length_nil];omega)|(have h:=stepL_len ys (at_ es (k:Int));have h9:=gone_len kd wd mo (at_ es (k:Int)).tm (stepL ys (at_ es (k:Int)));first|omega|(simp only [List.length_append,List.length_cons,List.length_nil];omega))) dc rfl (fun _ _=>am)) fun ad25 cp26=>?_)))))
             refine Ga rfl (Bc (Ak (Aj (Az (Gr (Rad rfl rfl) (Gm rfl (Bc ?_)))))))
             have hgl:=gone_len kd wd mo (at_ es (k:Int)).tm (stepL ys (at_ es (k:Int)))
             have hsl:=stepL_len ys (at_ es (k:Int))
             have hgs:=gone_steps (kd:=kd) (wd:=wd) (mo:=mo) (nw:=(at_ es (k:Int)).tm) hI3.val
             exact B3 ((k+1),(ad22),(cp23),(ad25),(cp26),(List.filter (inW kd wd mo (at_ es (k:Int)).tm (stepL ys (at_ es (k:Int)))) (stepL ys (at_ es (k:Int)))),(zs++[(at_ es (k:Int))]++goneL kd wd mo (at_ es (k:Int)).tm (stepL ys (at_ es (k:Int))))) (by dsimp only;exact ⟨om,(by rw [slideS_succ om,hst];exact evStep_three hag c117),(by rw [lastT_succ];exact hI3.filter _),lap,hs1,(by rw [lastT_succ];exact hfe.tm.1)⟩) (hI:=by (try dsimp only);exact (by rw [←hgs];exact Bt))
           ·refine Aw (Ak (Aj (Az (Gr (Rad rfl rfl) (Gm rfl (Bc ?_))))))
            have hsl:=stepL_len ys (at_ es (k:Int))
            exact B3 ((k+1),(ad12),(cp13),(ad18),(cp19),((stepL ys (at_ es (k:Int)))),(zs++[(at_ es (k:Int))])) (by dsimp only;exact ⟨om,(by rw [slideS_succ om,hst];exact evStep_not hag c117),(by rw [lastT_succ];exact hI3),lap,hs1,(by rw [lastT_succ];exact hfe.tm.1)⟩)
     ·refine Bs (Am (Am (A6 (Aj (Ai (Gm rfl (Ga rfl (Ga rfl (Af (Ax ?_))))))))))
      have hE2:(slideS kd wd mo es)=(xs,out):=by rw [←hst,show List.take k es=es from List.take_of_length_le om]
      have hz:(slideE nd kd wd mo es)=0:=(slideE_st c24).trans (hs0.trans (streamS_end om))
      exact Cl rfl rfl rfl (vc 108 (.slice o1 (slideS kd wd mo es).2.length d1) (slideS kd wd mo es).2::I) (by rw [hE2];exact Bt) (.inr ⟨o1,d1,hz,by rw [hE2],rfl⟩)
theorem Slide7_hist{κ:Ctx}{I:List Item}{nd kd wd mo:Int}{va:Value}{es:List Ev}(hl:Sl κ I va es)(h:HistOk nd kd wd mo es) :
  CallS Tryz.prog κ 93 [I64 nd,va,.agg #[I64 kd,I64 wd,I64 mo]] I fun r J=>∃a c,r = .tuple #[.slice a (slideS kd wd mo es).2.length c,I64 0]∧J=vc 108 (.slice a (slideS kd wd mo es).2.length c) (slideS kd wd mo es).2::I:=
 (Slide7_ok hl).mono fun r J hh=>by
  rcases hh with ⟨h1,_⟩|⟨a,c,_,h2,h3⟩
  ·exact absurd (slideE_zeroH h) h1
  ·exact ⟨a,c,h2,h3⟩
set_option maxHeartbeats 1000000 in
theorem Some43_base{κ:Ctx}{I:List Item}{b:Nat}{lv:Value}{ls:List Int}{i:Int}(hl:∀q,Sl κ (deck b lv q::I) lv ls)(h0:0≤i)   :
    CallS Tryz.prog κ 42 [.pointer (some ⟨b,0,none⟩)] (blk b [lv,I64 (i)] 125::I) (fun r J=>∃y:Int×(Option Addr)×Nat×(List Ev)×Int×Int×Int×Int,((r = .tuple #[I64 y.1,.slice y.2.1 y.2.2.2.1.length y.2.2.1,.agg #[I64 y.2.2.2.2.1,I64 y.2.2.2.2.2.1,I64 y.2.2.2.2.2.2.1]]∧HistOk y.1 y.2.2.2.2.1 y.2.2.2.2.2.1 y.2.2.2.2.2.2.1 y.2.2.2.1∧y.2.2.2.1.length≤12∧(2≤y.1∧y.1≤6))∧0≤y.2.2.2.2.2.2.2)∧J=[vc 108 (.slice y.2.1 y.2.2.2.1.length y.2.2.1) y.2.2.2.1]++deck b lv y.2.2.2.2.2.2.2::I):=by
 refine Ce1 Tryz.func42 rfl rfl ?_
 refine Ai (Ga rfl (Ga rfl (Ge1 (A8 ty31 rfl) fun b1=>Af (Ai (Gm rfl (G.e (Ap call19 rfl rfl (Next_ok (by repeat (first|exact AtF.head _ _|apply AtF.tail)) (B7 (hl _) A0) om om)) ?_))))))
 rintro _ _ ⟨_,_,⟨x2,i3,rfl,hx2,hi3,rfl⟩,rfl,rfl⟩
 show G Tryz.prog κ _ _ _ _ ([(7,I64 (x2)),(6,.pointer (some ⟨b,0,none⟩)),(4,.pointer (some ⟨b1,0,none⟩)),(3,.slice none 0 0),(2,I64 (0)),(0,.pointer (some ⟨b,0,none⟩))]:Env) (blk b1 [I64 (0),I64 (0),I64 (0)] 31::blk b [lv,I64 (i3)] 125::I)
 refine Gr (Rad rfl rfl) (Ga rfl (Af (Ai (Gm rfl (Gm rfl (Gm rfl (G.e (Ap call20 rfl rfl (MkEvents_at (by repeat (first|exact AtF.head _ _|apply AtF.tail)) (fun _=>B7 (hl _) A0) om  om om)) ?_)))))))
 rintro _ _ ⟨_,_,⟨⟨ad4,cp5,es6,i7⟩,⟨⟨rfl,hses6⟩,hi7⟩,rfl⟩,rfl,rfl⟩
 show G Tryz.prog κ _ _ _ _ ([(12,.slice ad4 es6.length cp5),(11,I64 (2+x2)),(10,.pointer (some ⟨b,0,none⟩)),(9,I64 (2+x2)),(5,I64 (2+x2)),(8,I64 (2+x2)),(7,I64 (x2)),(6,.pointer (some ⟨b,0,none⟩)),(4,.pointer (some ⟨b1,0,none⟩)),(3,.slice none 0 0),(2,I64 (0)),(0,.pointer (some ⟨b,0,none⟩))]:Env) (vc 108 (.slice ad4 es6.length cp5) (es6)::blk b1 [I64 (0),I64 (0),I64 (0)] 31::blk b [lv,I64 (i7)] 125::I)
 have hi7:0≤i7:=hi7
 dsimp only at hses6
 refine Gm rfl (G.e (Ap call21 rfl rfl (MkWindowV_at (by repeat (first|exact AtF.head _ _|apply AtF.tail)) (fun _=>B7 (hl _) A0) om  )) ?_)
 rintro _ _ ⟨_,_,⟨⟨kd8,wd9,mo10,i11⟩,⟨⟨rfl,hwkd8⟩,hi11⟩,rfl⟩,rfl,rfl⟩
 show G Tryz.prog κ _ _ _ _ ([(14,.agg #[I64 (kd8),I64 (wd9),I64 (mo10)]),(13,.pointer (some ⟨b,0,none⟩)),(12,.slice ad4 es6.length cp5),(11,I64 (2+x2)),(10,.pointer (some ⟨b,0,none⟩)),(9,I64 (2+x2)),(5,I64 (2+x2)),(8,I64 (2+x2)),(7,I64 (x2)),(6,.pointer (some ⟨b,0,none⟩)),(4,.pointer (some ⟨b1,0,none⟩)),(3,.slice none 0 0),(2,I64 (0)),(0,.pointer (some ⟨b,0,none⟩))]:Env) (vc 108 (.slice ad4 es6.length cp5) (es6)::blk b1 [I64 (0),I64 (0),I64 (0)] 31::blk b [lv,I64 (i11)] 125::I)
 have hi11:0≤i11:=hi11
 refine Ga rfl (Ga rfl (Ge0 (Es3_3 ty31) ?_))
 exact Af (Ar (S3 3 2 4 rfl rfl rfl) (Ax (V.retttc rfl ty31 rfl rfl rfl mm rfl (vc 108 (.slice ad4 es6.length cp5) (es6)::blk b [lv,I64 (i11)] 125::I) Bt ⟨(2+x2,ad4,cp5,es6,kd8,wd9,mo10,i11),⟨⟨rfl,⟨hses6.1.st om om,hwkd8⟩,by show es6.length≤12;have h9:=hses6.2;omega,by show 2≤2+x2∧2+x2≤6;omega⟩,by show 0≤i11;omega⟩,rfl⟩)))
theorem Some43_at{κ:Ctx}{I:List Item}{F:Item→List Item}{b:Nat}{lv:Value}{ls:List Int}{i:Int}(hat:AtF I (deck b lv i) F)(hl:∀q,Sl κ (F (deck b lv q)) lv ls)(h0:0≤i)   :
  CallS Tryz.prog κ 42 [.pointer (some ⟨b,0,none⟩)] I fun r J=>∃y:Int×(Option Addr)×Nat×(List Ev)×Int×Int×Int×Int,((r = .tuple #[I64 y.1,.slice y.2.1 y.2.2.2.1.length y.2.2.1,.agg #[I64 y.2.2.2.2.1,I64 y.2.2.2.2.2.1,I64 y.2.2.2.2.2.2.1]]∧HistOk y.1 y.2.2.2.2.1 y.2.2.2.2.2.1 y.2.2.2.2.2.2.1 y.2.2.2.1∧y.2.2.2.1.length≤12∧(2≤y.1∧y.1≤6))∧0≤y.2.2.2.2.2.2.2)∧J=[vc 108 (.slice y.2.1 y.2.2.2.1.length y.2.2.1) y.2.2.2.1]++F (deck b lv y.2.2.2.2.2.2.2):=
 Eg (Post:=fun r (y:Int×(Option Addr)×Nat×(List Ev)×Int×Int×Int×Int)=>(r = .tuple #[I64 y.1,.slice y.2.1 y.2.2.2.1.length y.2.2.1,.agg #[I64 y.2.2.2.2.1,I64 y.2.2.2.2.2.1,I64 y.2.2.2.2.2.2.1]]∧HistOk y.1 y.2.2.2.2.1 y.2.2.2.2.2.1 y.2.2.2.2.2.2.1 y.2.2.2.1∧y.2.2.2.1.length≤12∧(2≤y.1∧y.1≤6))∧0≤y.2.2.2.2.2.2.2) (Z:=fun y:Int×(Option Addr)×Nat×(List Ev)×Int×Int×Int×Int=>[vc 108 (.slice y.2.1 y.2.2.2.1.length y.2.2.1) y.2.2.2.1]) (X:=fun y:Int×(Option Addr)×Nat×(List Ev)×Int×Int×Int×Int=>deck b lv y.2.2.2.2.2.2.2) hat fun J _ hF=>Some43_base (fun q=>(hl q).fit (hF _)) h0  
end Go.Sl
namespace Go.Sl
section
variable {P:Program}{κ:Ctx}{N:Frm}{Q:Exit→Act→World→Prop}{L:Env}{I J:List Item}{ops:Array Oper}{l m:Nat}
theorem op_round{i:Nat}{K K':Act→World→Prop}{a:Act}{w:World}(hq:¬LetsOut Q)(hnd:∀o,ops[i]? = some o→∀c,o.op ≠ .defer c)(hK:∀a w,K a w→K' a w)(h:wpOp P ops Q i K a w):wpOpIn (Fence.wide.inRound l) m P ops Q i K' a w:=by
 unfold wpOp at h
 unfold wpOpIn
 cases ho:ops[i]? with
 |none=>rw [ho] at h;exact hK _ _ h
 |some o=>
  rw [ho] at h
  simp only at h ⊢
  by_cases hw:Region.wanted o (yielded ops a.tmps)=true
  ·rw [if_pos hw] at h ⊢
   rcases h with h|h
   ·refine ⟨fun _ _=>trivial,?_⟩
    rw [Fence.inRound_round,Oper.semAt_some _ _ _ (hnd o ho)]
    exact upon_round hq hK _ h
   ·exact absurd h.2 hq
  ·rw [if_neg hw] at h ⊢
   exact ⟨fun _ _=>trivial,hK _ _ h⟩
theorem any_round(hq:¬LetsOut Q)(hnd:∀o∈ops.toList,∀c,o.op ≠ .defer c):∀(fuel:Nat) (listed:Array Bool) (a:Act) (w:World),wpAny P .any ops Q fuel listed a w→wpAnyIn (Fence.wide.inRound l) m P .any ops Q fuel listed a w
 |0,listed,a,w,h=>h
 |fuel+1,listed,a,w,h=>⟨h.1,fun i hi=>op_round hq (fun o ho=>hnd o (by have:=Array.mem_of_getElem? ho;simpa using this)) (fun a' w' h'=>any_round hq hnd fuel _ a' w' h') (h.2 i hi)⟩
theorem WR.drawn{id:Nat}{ls:List Oper}(hm:P.follows .mixedOrders=true)(hq:∀a w,¬Q .outgrown a w)(hd:noDefer ls=true)(h:A P κ N ls.toArray Q ls.toArray.size (Array.replicate ls.toArray.size false) L I):WR P κ N l m (.region id ls.toArray true) Q L I:=
 fun a w ha hs=>wpIn_region_any hm (any_round (fun ⟨a,w,h⟩=>hq a w h) (by simpa using noDefer_all hd) _ _ a _ (h a _ ha hs.drew))
end
end Go.Sl
namespace Go.Sl
open Go.Proofs
set_option maxRecDepth 4000
def togQ(nd kd wd mo:Int)(es:List Ev)(xs:List Int)(lv t:Int):Prop:=∀x∈xs,x∈commG nd (atG kd wd mo es t) (at_ xs 0) lv
set_option maxHeartbeats 2000000 in
theorem ATog_ok{κ:Ctx}{I:List Item}{nd kd wd mo lv:Int}{ea sa:Option Addr}{ec sc:Nat}{es:List Ev}{xs:List Int}(hl:Sl κ I (.slice ea es.length ec) es)(hs:Sl κ I (.slice sa xs.length sc) xs)(hH:HistOk nd kd wd mo es)(hlen:es.length≤19)(hx:0<xs.length∧xs.length≤64)(hval:ValidP xs nd)(hT:TabRd κ I 0 tzCells) :
    CallS Tryz.prog κ 50 [I64 (nd),.slice ea es.length ec,.agg #[I64 (kd),I64 (wd),I64 (mo)],.slice sa xs.length sc,I64 (lv)] I (fun r J=>∃tv ok,r = .tuple #[I64 tv,.bool ok,I64 0]∧FirstP kd wd mo es (togQ nd kd wd mo es xs lv) tv ok∧I=J):=by
 refine CallS.enterM (L:=[(0,I64 (nd)),(1,.slice ea es.length ec),(2,.agg #[I64 (kd),I64 (wd),I64 (mo)]),(3,.slice sa xs.length sc),(4,I64 (lv))]) Tryz.func50 rfl rfl rfl rfl ?_
 refine Ai (Ge1 (Bd (cs:=[_,_,_]) rfl rfl rfl) fun b1=>Ge1 (Bd (cs:=[_]) rfl rfl rfl) fun b2=>Ge1 (Bd (cs:=[_]) rfl rfl rfl) fun b3=>Ge1 (A8 ty3 rfl) fun b4=>Ge1 (A8 ty4 rfl) fun b5=>Ge1 (A8 ty36 rfl) fun b6=>Af (Au (Ai (Gm rfl (Gm rfl (Gl3 ty31 ?_))))))
 refine Gc0 (Ap call97 rfl rfl (ACheck_ok (nd:=nd) (kd:=kd) (wd:=wd) (mo:=mo) (Bj hl))) ?_
 refine Ga rfl (Af (Ar (S9 13 12 11 10 9 8 7 0 1 rfl rfl rfl rfl rfl rfl rfl rfl rfl) (Ai (Gm rfl (Gr (Be rfl rfl) (Af (A7 rfl (fun c23=>?_) (fun c23=>?_))))))))
 ·exact absurd (slideE_zeroH hH) c23
 ·refine Aw (Aj (Au (Ai (Gl ty22 ?_))))
  refine Gm rfl (Gc0 (Ap call88 rfl rfl (NValid_ok (Bj hs) nd)) ?_)
  refine Gr (Cw rfl) (Gm rfl (Bb (d:=29) rfl (fun g29=>?_) (fun g29=>?_)))
  ·exact absurd hval (by first|assumption|simpa using g29)
  ·refine Gro (As ty22) ?_
   refine Gro (Bp Ac rfl) (Gro (Bi rfl rfl) (Gr (Al rfl rfl) (Af (Ar (S9 33 12 11 10 9 8 7 0 1 rfl rfl rfl rfl rfl rfl rfl rfl rfl) (A7 rfl (fun c33=>?_) (fun c33=>?_))))))
   ·exact absurd c33 (by first|assumption|omega|simp)
   ·refine Aw (Aj (Au (Ai (Gm rfl (Gm rfl (Gl3 ty31 ?_))))))
    refine G.e (Ap call98 rfl rfl Frames_ok) ?_
    rintro _ _ ⟨_,_,⟨qb7,qb8,qb9,rfl,rfl⟩,rfl,rfl⟩
    refine Af (A4 (W.fit (J:=blk b4 [I64 (0)] 3::blk b5 [.bool false] 4::blk b6 [I64 (0)] 36::blk qb9 [I64 (kd),I64 (wd),I64 (mo)] 31::blk qb8 [.slice ea es.length ec] 28::blk qb7 [I64 (nd)] 3::blk b3 [I64 (lv)] 3::blk b2 [.slice sa xs.length sc] 22::blk b1 [I64 (kd),I64 (wd),I64 (mo)] 31::I) Bt ?_))
    refine W.rangeFnB (gf:=165) (lb:=[.pointer (some ⟨qb7,0,none⟩),.pointer (some ⟨qb8,0,none⟩),.pointer (some ⟨qb9,0,none⟩)]) rfl call165 fun Dm l rc hr1 hr2 hr3 hr4 hta=>?_
    refine (Frames1_ok (I:=blk qb9 [I64 (kd),I64 (wd),I64 (mo)] 31::blk qb8 [.slice ea es.length ec] 28::blk qb7 [I64 (nd)] 3::blk b3 [I64 (lv)] 3::blk b2 [.slice sa xs.length sc] 22::blk b1 [I64 (kd),I64 (wd),I64 (mo)] 31::I) (σ:=Unit) (τ:=Int) (l:=l) (Lf:=fun s=>[recI l rc,dfrI Dm,blk b4 [I64 (0)] 3,blk b5 [.bool false] 4,blk b6 [I64 (0)] 36]) (Pf:=fun fst j s=>(∀i:Nat,i<j→¬(togQ nd kd wd mo es xs lv) (at_ (allE kd wd mo es) (i:Int)).tm)) (Xf:=fun s=>[recI l {rc with state:= .done,pending:=some .ret},dfrI Dm,blk b4 [I64 (s)] 3,blk b5 [.bool true] 4,blk b6 [I64 (0)] 36]) (Qf:=fun s=>(FirstYes kd wd mo es (togQ nd kd wd mo es xs lv) s)) (s0:=()) hH hlen (Ci mm) (Ci mm) (Ci mm) (Bj hl) (fun i h=>absurd h (Nat.not_lt_zero i)) ?_).mono ?_
    ·rintro T hTI fst j tm own j1 ga gc hM _ hp
     have hq:(∀i:Nat,i<j→¬(togQ nd kd wd mo es xs lv) (at_ (allE kd wd mo es) (i:Int)).tm):=hp
     have hbq0:BlkRd κ T b2 [.slice sa xs.length sc] 22:=(Ci (I:=blk qb9 [I64 (kd),I64 (wd),I64 (mo)] 31::blk qb8 [.slice ea es.length ec] 28::blk qb7 [I64 (nd)] 3::blk b3 [I64 (lv)] 3::blk b2 [.slice sa xs.length sc] 22::blk b1 [I64 (kd),I64 (wd),I64 (mo)] 31::I) mm).fit hTI
     have hbq1:BlkRd κ T b3 [I64 (lv)] 3:=(Ci (I:=blk qb9 [I64 (kd),I64 (wd),I64 (mo)] 31::blk qb8 [.slice ea es.length ec] 28::blk qb7 [I64 (nd)] 3::blk b3 [I64 (lv)] 3::blk b2 [.slice sa xs.length sc] 22::blk b1 [I64 (kd),I64 (wd),I64 (mo)] 31::I) mm).fit hTI
     have hTT:TabRd κ T 0 tzCells:=(B9 (J:=blk qb9 [I64 (kd),I64 (wd),I64 (mo)] 31::blk qb8 [.slice ea es.length ec] 28::blk qb7 [I64 (nd)] 3::blk b3 [I64 (lv)] 3::blk b2 [.slice sa xs.length sc] 22::blk b1 [I64 (kd),I64 (wd),I64 (mo)] 31::I) hT A0).fit hTI
     have hmg:=mom_graph hH hM
     have hGr:GrOk nd (edgesK (linksL ((allE kd wd mo es).take j1))):=by rw [hmg];exact hH.graph tm
     have hsT:Sl κ T (.slice sa xs.length sc) xs:=(Bj hs).fit hTI
     refine YieldB.fit (J:=recI l rc::vc 135 (.slice ga (edgesK (linksL ((allE kd wd mo es).take j1))).length gc) (edgesK (linksL ((allE kd wd mo es).take j1)))::dfrI Dm::blk b4 [I64 (0)] 3::blk b5 [.bool false] 4::blk b6 [I64 (0)] 36::T) Bt ?_
     refine YieldB.mkA (L₀:=[(39,.agg #[I64 (nd),.slice ga (edgesK (linksL ((allE kd wd mo es).take j1))).length gc]),(38,.agg #[I64 (tm),.bool (own)]),(37,.func (.func 165) #[] #[.pointer (some ⟨qb7,0,none⟩),.pointer (some ⟨qb8,0,none⟩),.pointer (some ⟨qb9,0,none⟩)]),(36,.agg #[I64 (kd),I64 (wd),I64 (mo)]),(35,.slice ea es.length ec),(34,I64 (nd)),(33,.bool (decide (((xs.length:Nat):Int)=0))),(12,.pointer (some ⟨b6,0,none⟩)),(11,.pointer (some ⟨b5,0,none⟩)),(10,.pointer (some ⟨b4,0,none⟩)),(9,.pointer (some ⟨b3,0,none⟩)),(8,.pointer (some ⟨b2,0,none⟩)),(7,.pointer (some ⟨b1,0,none⟩)),(0,I64 (nd)),(1,.slice ea es.length ec)]) (by rw [hr2];rfl) hr3 hr4 (by rw [hr2,fold_two];exact ag_two hta rfl rfl) ?_
     refine D7 ?_
     refine C3 (fun _ _ h=>False.elim h) rfl ?_
     refine Ge1 (A8 ty153 rfl) fun b10=>Ge0 (Ce ty153) ?_
     refine Bc (Dn ?_)
     refine Ex (L':=[(14,_),(39,_),(12,_),(11,_),(10,_),(9,_),(8,_)]) (Aa rfl (Aa rfl (Aa rfl (Aa rfl (Aa rfl (Aa rfl (Aa rfl Bg))))))) ?_
     refine C3 (fun _ _ h=>False.elim h) rfl ?_
     refine Ge1 (A8 ty48 rfl) fun b11=>Ge0 (Ce ty48) ?_
     refine Bc (V.begin (blk b11 [I64 (nd),.slice ga (edgesK (linksL ((allE kd wd mo es).take j1))).length gc] 48::blk b10 [I64 (tm),.bool (own)] 153::vc 135 (.slice ga (edgesK (linksL ((allE kd wd mo es).take j1))).length gc) (edgesK (linksL ((allE kd wd mo es).take j1)))::dfrI Dm::blk b4 [I64 (0)] 3::blk b5 [.bool false] 4::blk b6 [I64 (0)] 36::T) Bt hr1 ?_)
     refine WR.block ?_
     refine D7 ?_
     refine WR.drawn mixed (fun _ _ h=>False.elim h) rfl ?_
     refine Bo (recI l {rc with state:= .busy}::blk b11 [I64 (nd),.slice ga (edgesK (linksL ((allE kd wd mo es).take j1))).length gc] 48::blk b10 [I64 (tm),.bool (own)] 153::vc 135 (.slice ga (edgesK (linksL ((allE kd wd mo es).take j1))).length gc) (edgesK (linksL ((allE kd wd mo es).take j1)))::dfrI Dm::blk b4 [I64 (0)] 3::blk b5 [.bool false] 4::blk b6 [I64 (0)] 36::T) 11 (Dr 0 rfl (Bq (vs:=[_,_]) ty48) ?_)
     refine Dr 1 rfl (Co ty22 rfl (Cm hbq0 A0) rfl) (Dr 2 rfl (A3 (α:=Int) (xs:=xs) Ac ty3 rfl rfl (Bj hsT) om om) (Dr 3 rfl (Br (xs:=xs) ty3 rfl (Bj hsT) om om) (Dr 4 rfl (Co ty3 rfl (Cm hbq1 A0) rfl) (Ds1 5 (Se rfl (Ap call59 rfl rfl (Comm_ok (nd:=nd) (v:=at_ xs 0) (lv:=lv) Bf hGr (by have h:=(hval 0 om).1;exact h) (B9 hTT A0))) ?_)))))
     rintro _ _ ⟨_,_,⟨ad12,cp13,rfl,rfl⟩,rfl,rfl⟩
     refine ⟨A5,?_⟩
     refine Dr 6 rfl (Ad rfl) (Dr 7 rfl (A2 rfl rfl) (Dr 8 rfl (A2 rfl rfl) (Dr 9 rfl (Ba rfl) (Dr 10 rfl (Ba rfl) (Dz (Dn ?_))))))
     refine Ex (L':=[(17,_),(16,_),(14,_),(12,_),(11,_),(10,_),(8,_)]) (Aa rfl (Aa rfl (Aa rfl (Aa rfl (Aa rfl (Aa rfl (Aa rfl Bg))))))) ?_
     refine D7 ?_
     refine C3 (fun _ _ h=>False.elim h) rfl ?_
     refine Gf fld153_1 rfl (Gl ty4 ?_)
     refine Gm rfl (G.splitb (d:=51) rfl (fun g51=>?_) (fun g51=>?_))
     ·refine Gro (Ad rfl) (Gro (Bi rfl rfl) (Gr (Ao rfl rfl) (Gm rfl (Bb (d:=55) rfl (fun g55=>?_) (fun g55=>?_)))))
      ·refine Gro (Co ty22 rfl (Cm hbq0 A0) rfl) (Gro (Ad rfl) (Eo (Cv rfl rfl rfl) (Ap call102 rfl rfl (WithinI_ok (Bj hsT) Bf om (by have:=rchG_len nd (edgesK (linksL ((allE kd wd mo es).take j1))) [at_ xs 0] (coreK nd (edgesK (linksL ((allE kd wd mo es).take j1))) lv);show (rchG _ _ _ _).length≤_;omega))) ?_))
       rintro _ _ ⟨_,_,⟨rfl,rfl⟩,rfl,rfl⟩
       refine Gr (Ao rfl rfl) (Bc (Dn ?_))
       refine Ex (L':=[(59,_),(14,_),(12,_),(11,_),(10,_)]) (Aa rfl (Aa rfl (Aa rfl (Aa rfl (Aa rfl Bg))))) ?_
       refine WR.ite rfl (fun c59=>?_) (fun c59=>?_)
       ·refine D7 ?_
        refine C3 (fun _ _ h=>False.elim h) rfl ?_
        refine Gf fld153_0 rfl (Gl ty3 ?_)
        refine Ge0 (Cy (cs:=[_]) (vs:=[_]) (cs':=[_]) ty3) ?_
        refine Ge0 (Cy (cs:=[_]) (vs:=[_]) (cs':=[_]) ty4) ?_
        refine Ge0 (Cy (cs:=[_]) (vs:=[_]) (cs':=[_]) ty36) ?_
        refine Bc (Dn ?_)
        refine WR.ret ?_
        exact Av (V.roundRet (dfrI Dm::blk b4 [I64 (tm)] 3::blk b5 [.bool true] 4::blk b6 [I64 (0)] 36::T) Bt (.inr ⟨rfl,(tm),(show (FirstYes kd wd mo es (togQ nd kd wd mo es xs lv) tm) from (fi_yes hH hM hq g51 (by unfold togQ;rw [←hmg];exact c59))),rfl⟩))
       ·refine WR.skip ?_
        exact Ak (Ef (dfrI Dm::blk b4 [I64 (0)] 3::blk b5 [.bool false] 4::blk b6 [I64 (0)] 36::T) Bt hr1 (.inl ⟨rfl,(),(show (∀i:Nat,i<j1→¬(togQ nd kd wd mo es xs lv) (at_ (allE kd wd mo es) (i:Int)).tm) from (fi_next hM hq (by first|exact fun h=>absurd (g51.symm.trans h) dc|exact fun _ h=>c59 (by unfold togQ at h;rw [←hmg] at h;exact h)))),rfl⟩))
      ·exact absurd rfl g55
     ·refine Gpo (Gpo (Gr (Al rfl rfl) (Gm rfl (Gpo (Gpo (Gpo (Gr (Al rfl rfl) (Bc (Dn ?_)))))))))
      refine Ex (L':=[(59,_),(14,_),(12,_),(11,_),(10,_)]) (Aa rfl (Aa rfl (Aa rfl (Aa rfl (Aa rfl Bg))))) ?_
      refine WR.no rfl ?_
      refine WR.skip ?_
      exact Ak (Ef (dfrI Dm::blk b4 [I64 (0)] 3::blk b5 [.bool false] 4::blk b6 [I64 (0)] 36::T) Bt hr1 (.inl ⟨rfl,(),(show (∀i:Nat,i<j1→¬(togQ nd kd wd mo es xs lv) (at_ (allE kd wd mo es) (i:Int)).tm) from (fi_next hM hq (by first|exact fun h=>absurd (g51.symm.trans h) dc|exact fun _ h=>c59 (by unfold togQ at h;rw [←hmg] at h;exact h)))),rfl⟩))
    rintro v K ⟨rfl,(⟨_,hp,rfl⟩|⟨tv,hp,rfl⟩)⟩
    ·have hq:(∀i:Nat,i<(allE kd wd mo es).length→¬(togQ nd kd wd mo es xs lv) (at_ (allE kd wd mo es) (i:Int)).tm):=hp
     refine .inl ⟨_,rfl,?_⟩
     show V κ _ _ .normal ([(37,.func (.func 165) #[] #[.pointer (some ⟨qb7,0,none⟩),.pointer (some ⟨qb8,0,none⟩),.pointer (some ⟨qb9,0,none⟩)]),(36,.agg #[I64 (kd),I64 (wd),I64 (mo)]),(35,.slice ea es.length ec),(34,I64 (nd)),(33,.bool (decide (((xs.length:Nat):Int)=0))),(12,.pointer (some ⟨b6,0,none⟩)),(11,.pointer (some ⟨b5,0,none⟩)),(10,.pointer (some ⟨b4,0,none⟩)),(9,.pointer (some ⟨b3,0,none⟩)),(8,.pointer (some ⟨b2,0,none⟩)),(7,.pointer (some ⟨b1,0,none⟩)),(0,I64 (nd)),(1,.slice ea es.length ec)]:Env) (dfrI Dm::blk b4 [I64 (0)] 3::blk b5 [.bool false] 4::blk b6 [I64 (0)] 36::blk qb9 [I64 (kd),I64 (wd),I64 (mo)] 31::blk qb8 [.slice ea es.length ec] 28::blk qb7 [I64 (nd)] 3::blk b3 [I64 (lv)] 3::blk b2 [.slice sa xs.length sc] 22::blk b1 [I64 (kd),I64 (wd),I64 (mo)] 31::I)
     refine Ak (Aj (Ai (Ge0 (Cy (cs:=[_]) (vs:=[_]) (cs':=[_]) ty3) ?_)))
     refine Ge0 (Cy (cs:=[_]) (vs:=[_]) (cs':=[_]) ty4) ?_
     refine Ge0 (Cy (cs:=[_]) (vs:=[_]) (cs':=[_]) ty36) ?_
     refine Af (Ax (V.fit (J:=dfrI Dm::blk b4 [I64 (0)] 3::blk b5 [.bool false] 4::blk b6 [I64 (0)] 36::blk qb9 [I64 (kd),I64 (wd),I64 (mo)] 31::blk qb8 [.slice ea es.length ec] 28::blk qb7 [I64 (nd)] 3::blk b3 [I64 (lv)] 3::blk b2 [.slice sa xs.length sc] 22::blk b1 [I64 (kd),I64 (wd),I64 (mo)] 31::I) Bt (V.leave ?_)))
     exact V.retv3 rfl ty3 ty4 ty36 rfl rfl rfl mm mm mm (I) A0 ⟨0,false,rfl,.inr ⟨rfl,rfl,fi_no hq⟩,rfl⟩
    ·have hQ:(FirstYes kd wd mo es (togQ nd kd wd mo es xs lv) tv):=hp
     refine .inr ⟨_,_,rfl,?_⟩
     show W Tryz.prog κ _ _ _ ([(37,.func (.func 165) #[] #[.pointer (some ⟨qb7,0,none⟩),.pointer (some ⟨qb8,0,none⟩),.pointer (some ⟨qb9,0,none⟩)]),(36,.agg #[I64 (kd),I64 (wd),I64 (mo)]),(35,.slice ea es.length ec),(34,I64 (nd)),(33,.bool (decide (((xs.length:Nat):Int)=0))),(12,.pointer (some ⟨b6,0,none⟩)),(11,.pointer (some ⟨b5,0,none⟩)),(10,.pointer (some ⟨b4,0,none⟩)),(9,.pointer (some ⟨b3,0,none⟩)),(8,.pointer (some ⟨b2,0,none⟩)),(7,.pointer (some ⟨b1,0,none⟩)),(0,I64 (nd)),(1,.slice ea es.length ec)]:Env) (dfrI Dm::blk b4 [I64 (tv)] 3::blk b5 [.bool true] 4::blk b6 [I64 (0)] 36::blk qb9 [I64 (kd),I64 (wd),I64 (mo)] 31::blk qb8 [.slice ea es.length ec] 28::blk qb7 [I64 (nd)] 3::blk b3 [I64 (lv)] 3::blk b2 [.slice sa xs.length sc] 22::blk b1 [I64 (kd),I64 (wd),I64 (mo)] 31::I)
     refine Ax (Av (Ah (V.fit (J:=dfrI Dm::blk b4 [I64 (tv)] 3::blk b5 [.bool true] 4::blk b6 [I64 (0)] 36::blk qb9 [I64 (kd),I64 (wd),I64 (mo)] 31::blk qb8 [.slice ea es.length ec] 28::blk qb7 [I64 (nd)] 3::blk b3 [I64 (lv)] 3::blk b2 [.slice sa xs.length sc] 22::blk b1 [I64 (kd),I64 (wd),I64 (mo)] 31::I) Bt (V.leave ?_))))
     exact V.retv3 rfl ty3 ty4 ty36 rfl rfl rfl mm mm mm (I) A0 ⟨tv,true,rfl,.inl ⟨rfl,hQ⟩,rfl⟩
theorem mem_coreK{nd lv:Int}{es:List Pt}{y:Int}:y∈coreK nd es lv↔(0≤y∧y<(coreN nd es).length)∧lv≤at_ (coreN nd es) y:=by
 unfold coreK;rw [mem_sideL,decide_eq_true_eq]
section
variable {n kd wd mo:Int}{es:List Ev}(hH:HistOk n kd wd mo es)(hn:2≤n)(a a2:Option Addr)(c c2:Nat)
include hH hn
end
theorem one_valid{x n:Int}(h:0≤x∧x<n):ValidP [x] n:=fun j hj=>by
 have hj2:j<1:=hj
 obtain rfl:j=0:=by omega
 exact ⟨h,fun h=>absurd h dc⟩
theorem bit_maskB{l:List Int}{i:Nat}(hi:i<64):(maskB l).getLsbD i=true↔(i:Int)∈l:=by
 unfold maskB;rw [getLsb_maskB hi];simp
theorem mask_one(u:Int):maskB [u]=bitB u:=by unfold maskB;simp
theorem bit_one{u:Int}(h:0≤u∧u<64):bitB u=oneB u.toNat:=by unfold bitB oneB;rw [if_neg om]
theorem set_bitA{nd:Int}{S:List Int}(h:0≤nd∧nd≤64){i:Nat}:(maskB S &&& allB nd).getLsbD i=true↔((i:Int)∈S∧(i:Int)<nd):=by
 by_cases hi:i<64
 ·rw [BitVec.getLsbD_and,Bool.and_eq_true,bit_maskB hi,getLsb_allB h.1 h.2 hi,decide_eq_true_eq]
 ·rw [BitVec.getLsbD_of_ge _ _ om]
  exact ⟨fun h=>absurd h dc,fun h=>by omega⟩
theorem mem_rchA{nd:Int}{es:List Pt}{S:List Int}{v x:Int}(hG:GrOk nd es)(hv:0≤v∧v<nd):x∈rchG nd es [v] S↔0≤x∧Conn (rowsB nd es) (maskB S &&& allB nd) v.toNat x.toNat:=by
 have hr:=hG.rng
 unfold rchG
 rw [if_neg (by rw [checkG_ok.2 hG];decide),mem_listB,mask_one,bit_one om]
 exact and_congr_right fun _=>⟨fun h=>⟨by omega,h⟩,fun h=>h.2⟩
end Go.Sl
namespace Go.Sl
def ClosB(rows:List (BitVec 64))(k:Nat)(W:BitVec 64):Prop:=∀u∈listB W,k≤degB rows W u
theorem degB_mono{rows:List (BitVec 64)}{W L:BitVec 64}(h:∀u∈listB W,u∈listB L)(v:Int):degB rows W v≤degB rows L v:=by
 unfold degB
 refine List.Nodup.length_le_of_subset (listB_nodup _) fun x hx=>?_
 obtain ⟨h1,h2⟩:=mem_andB.1 hx
 exact mem_andB.2 ⟨h1,h x h2⟩
theorem coreR_ind{rows:List (BitVec 64)}{X:BitVec 64→Nat→List (Int×Nat)→Prop}(h0:∀k,X 0#64 k [])
  (hs:∀left k v,Takes rows left v→X (left &&& ~~~(1#64 <<< v.toNat)) (max k (degB rows left v)) (coreR rows (left &&& ~~~(1#64 <<< v.toNat)) (max k (degB rows left v)))→X left k ((v,max k (degB rows left v))::coreR rows (left &&& ~~~(1#64 <<< v.toNat)) (max k (degB rows left v)))) :
  ∀(n:Nat) (left:BitVec 64) (k:Nat),(listB left).length=n→X left k (coreR rows left k)
 |0,left,k,h=>by
  have:left=0#64:=Classical.byContradiction fun hn=>by
   obtain ⟨u,hu⟩:=nz_listB.1 hn
   have:=List.length_pos_of_mem hu;omega
  subst this
  rw [coreR_zero];exact h0 k
 |n+1,left,k,h=>by
  have hne:left≠0#64:=fun e=>by subst e;rw [listB_zero] at h;simp at h
  have hT:=takeF_takes (rows:=rows) hne
  rw [coreR_step hT]
  have hm:=listB_minus hT.mem
  exact hs _ _ _ hT (coreR_ind h0 hs n _ _ (by omega))
section
variable {rows:List (BitVec 64)}
theorem coreR_keys(left:BitVec 64)(k:Nat):(ordL (coreR rows left k)).Nodup∧(∀v,v∈ordL (coreR rows left k)↔v∈listB left):=by
 refine coreR_ind (rows:=rows) (X:=fun left k l=>(ordL l).Nodup∧∀v,v∈ordL l↔v∈listB left) (fun k=>?_) (fun left k v hT ih=>?_) _ left k rfl
 ·refine ⟨List.nodup_nil,fun v=>?_⟩
  rw [listB_zero];exact Iff.rfl
 ·have h0:=(listB_lt hT.mem).1
  obtain ⟨h1,h2⟩:=ih
  refine ⟨List.nodup_cons.2 ⟨fun hm=>((mem_minus h0).1 ((h2 v).1 hm)).2 rfl,h1⟩,fun u=>?_⟩
  show u∈v::ordL (coreR rows _ _)↔_
  rw [List.mem_cons,h2,mem_minus h0]
  constructor
  ·rintro (rfl|h)
   ·exact hT.mem
   ·exact h.1
  ·intro h
   by_cases e:u=v
   ·exact .inl e
   ·exact .inr ⟨h,e⟩
theorem coreR_ge(left:BitVec 64)(k:Nat):∀p∈coreR rows left k,k≤p.2:=by
 refine coreR_ind (rows:=rows) (X:=fun left k l=>∀p∈l,k≤p.2) (fun k p hp=>by cases hp) (fun left k v hT ih p hp=>?_) _ left k rfl
 rcases List.mem_cons.1 hp with rfl|hp
 ·show k≤max k _;omega
 ·have:=ih p hp;omega
theorem coreR_clos{j:Nat}{W:BitVec 64}(hW:ClosB rows j W)(left:BitVec 64)(k:Nat):(∀u∈listB W,u∈listB left)→∀p∈coreR rows left k,p.1∈listB W→j≤p.2:=by
 refine coreR_ind (rows:=rows) (X:=fun left k l=>(∀u∈listB W,u∈listB left)→∀p∈l,p.1∈listB W→j≤p.2) (fun k _ p hp=>by cases hp) (fun left k v hT ih hsub p hp hpW=>?_) _ left k rfl
 have h0:=(listB_lt hT.mem).1
 by_cases hv:v∈listB W
 ·have h1:=hW v hv
  have h2:=degB_mono (rows:=rows) hsub v
  rcases List.mem_cons.1 hp with rfl|hp
  ·show j≤max k _;omega
  ·have:=coreR_ge _ _ p hp;omega
 ·rcases List.mem_cons.1 hp with rfl|hp
  ·exact absurd hpW hv
  ·exact ih (fun u hu=>(mem_minus h0).2 ⟨hsub u hu,fun e=>hv (e▸hu)⟩) p hp hpW
theorem coreR_core(left:BitVec 64)(k0:Nat):∀k,k0<k→∃W:BitVec 64,ClosB rows k W∧(∀u∈listB W,u∈listB left)∧∀p∈coreR rows left k0,k≤p.2↔p.1∈listB W:=by
 refine coreR_ind (rows:=rows) (X:=fun left k0 l=>∀k,k0<k→∃W:BitVec 64,ClosB rows k W∧(∀u∈listB W,u∈listB left)∧∀p∈l,k≤p.2↔p.1∈listB W) (fun k0 k hk=>?_) (fun left k0 v hT ih k hk=>?_) _ left k0 rfl
 ·refine ⟨0#64,fun u hu=>?_,fun u hu=>hu,fun p hp=>by cases hp⟩
  rw [listB_zero] at hu;cases hu
 ·have h0:=(listB_lt hT.mem).1
  by_cases hc:k≤max k0 (degB rows left v)
  ·refine ⟨left,fun u hu=>?_,fun u hu=>hu,fun p hp=>⟨fun _=>?_,fun _=>?_⟩⟩
   ·have:=hT.le u hu;omega
   ·rcases List.mem_cons.1 hp with rfl|hp
    ·exact hT.mem
    ·have h1:p.1∈ordL (coreR rows (left &&& ~~~(1#64 <<< v.toNat)) (max k0 (degB rows left v))):=List.mem_map.2 ⟨p,hp,rfl⟩
     exact ((mem_minus h0).1 (((coreR_keys _ _).2 _).1 h1)).1
   ·rcases List.mem_cons.1 hp with rfl|hp
    ·exact hc
    ·have:=coreR_ge _ _ p hp;omega
  ·obtain ⟨W,h1,h2,h3⟩:=ih k (by omega)
   refine ⟨W,h1,fun u hu=>((mem_minus h0).1 (h2 u hu)).1,fun p hp=>?_⟩
   rcases List.mem_cons.1 hp with rfl|hp
   ·exact ⟨fun h=>absurd h hc,fun h=>absurd rfl ((mem_minus h0).1 (h2 _ h)).2⟩
   ·exact h3 p hp
theorem numL_at{n:Nat}:∀{l:List (Int×Nat)},(ordL l).Nodup→(∀v∈ordL l,0≤v∧v<(n:Int))→∀p∈l,at_ (numL n l) p.1=(p.2:Int):=by
 intro l
 unfold numL
 have hk:∀(l:List (Int×Nat)) (xs:List Int) (u:Int),0≤u→(∀v∈ordL l,0≤v)→u∉ordL l→at_ (l.foldl (fun xs p=>xs.set p.1.toNat (p.2:Int)) xs) u=at_ xs u:=fun l=>by
  induction l with
  |nil=>intro xs u _ _ _;rfl
  |cons q l ih=>
   intro xs u hu h0 hn
   have hq:0≤q.1:=h0 q.1 List.mem_cons_self
   have hne:u≠q.1:=fun e=>hn (by rw [e];exact List.mem_cons_self)
   rw [List.foldl_cons,ih _ u hu (fun v hv=>h0 v (List.mem_cons_of_mem _ hv)) fun h=>hn (List.mem_cons_of_mem _ h)]
   unfold at_
   rw [List.getD_eq_getElem?_getD,List.getD_eq_getElem?_getD,List.getElem?_set_ne (by omega)]
 have:∀(l:List (Int×Nat)) (xs:List Int),xs.length=n→(ordL l).Nodup→(∀v∈ordL l,0≤v∧v<(n:Int))→∀p∈l,at_ (l.foldl (fun xs p=>xs.set p.1.toNat (p.2:Int)) xs) p.1=(p.2:Int):=fun l=>by
  induction l with
  |nil=>intro xs _ _ _ p hp;cases hp
  |cons q l ih=>
   intro xs hl hn hr p hp
   obtain ⟨hq,hn'⟩:=List.nodup_cons.1 (show (q.1::ordL l).Nodup from hn)
   have hr':∀v∈ordL l,0≤v∧v<(n:Int):=fun v hv=>hr v (List.mem_cons_of_mem _ hv)
   have hq0:=hr q.1 List.mem_cons_self
   rw [List.foldl_cons]
   rcases List.mem_cons.1 hp with rfl|hp
   ·rw [hk l _ p.1 hq0.1 (fun v hv=>(hr' v hv).1) hq,at_set _ _ _ _ hq0.1 hq0.1 (by omega),if_pos rfl]
   ·exact ih _ (by rw [List.length_set];exact hl) hn' hr' p hp
 exact fun h1 h2=>this l _ List.length_replicate h1 h2
end
end Go.Sl
