/- A part of the proofs of statements of this seat: contracts of functions, and the plain laws that they lean on. No conditions. -/
import Derived.Test.YtnbkccjkdpolmaaGreatDoorA8
set_option linter.unusedVariables false
set_option linter.unusedSimpArgs false
set_option linter.unusedSectionVars false
open Go.Proofs.Tryz (prog)
set_option maxHeartbeats 1000000
namespace Go.Sl
open Go.Proofs
set_option maxRecDepth 4000
variable{κ:Ctx}{I:List Item}{b c0 d0:Nat}{nd:Int}{a0 o0:Option Addr}{xs:List Lk}{out:List Ev}
attribute [local irreducible] W G V D A Runs Eff
theorem PutP_base{va:Value}{es:List Ev}(hl:Sl κ I va es)(aa:checkS nd xs=0)(M:∀j:Nat,j<es.length->FitOk nd (e_ es j))(ar:xs.length+es.length<=1000000)(ao:out.length+es.length<=1000000):eu prog κ 204 [.pointer (some ⟨b,0,none⟩),va] (e8 b [e7 nd,.slice a0 xs.length c0,.slice o0 out.length d0] 235::vc 192 (.slice a0 xs.length c0) (xs)::vc 63 (.slice o0 out.length d0) (out)::I) (λr J=>∃y:Option Addr×Nat×Option Addr×Nat,r = .tuple #[]/\J=e8 b [e7 nd,.slice y.1 (List.foldl ep xs es).length y.2.1,.slice y.2.2.1 (out++es).length y.2.2.2] 235::vc 192 (.slice y.1 (List.foldl ep xs es).length y.2.1) (List.foldl ep xs es)::vc 63 (.slice y.2.2.1 (out++es).length y.2.2.2) (out++es)::I):=by
 refine Ce2 Tryz.func204 C C<|Z ?_
 refine Cn (σ:=Nat×(Option Addr)×Nat×(Option Addr)×Nat) (λs=>([(0,.pointer<|some ⟨b,0,none⟩),(6,va),(7,e7 ((es.length:Nat):Int)),(8,e7 ((s.1:Nat):Int))]:Env)) (λs=>e8 b [e7 nd,.slice s.2.1 (List.foldl ep xs<|List.take s.1 es).length s.2.2.1,.slice s.2.2.2.1 (out++List.take s.1 es).length s.2.2.2.2] 235::vc 192 (.slice s.2.1 (List.foldl ep xs<|List.take s.1 es).length s.2.2.1) (List.foldl ep xs<|List.take s.1 es)::vc 63 (.slice s.2.2.2.1 (out++List.take s.1 es).length s.2.2.2.2) (out++List.take s.1 es)::I) (λs=>(s.1<=es.length)/\(checkS nd (List.foldl ep xs<|List.take s.1 es)=0)) (λs=>es.length - s.1) (0,a0,c0,o0,d0) ⟨om,aa⟩ (Ab C<|Ab C<|Ab C<|Ab Dg Bs) (by rw [show out++List.take 0 es=out from List.append_nil _];exact Fv _) ?_
 rintro ⟨k,a1,c1,o1,d1⟩ hp
 dsimp only at hp ⊢
 obtain ⟨hk,hv⟩:=hp
 refine Z ?_
 refine Ap C (λc9=>Z ?_)<|λc9=>Z ?_
 ·refine Ge1 (Am ty63 C) λb1=>Ge0 (Fj ty63) ?_
  refine As<|A5<|A4 mixed<|Cm (e8 b1 [e7 ((e_ es k).kd),e7<|(e_ es k).tm,e7<|(e_ es k).u,e7<|(e_ es k).v,e7<|(e_ es k).w,e7<|(e_ es k).lb,e7<|(e_ es k).sg] 63::I) 13<|Z ?_
  refine Ds1 4<|Sr C (Bl (vs:=[_,_]) ty130) Aj ?_
  refine Ds1 6<|Se C (Ac c_ C C<|StepP_at (by repeat (first|exact AtF.head _ _|apply AtF.tail)) C (checkS_ok hv).2.2 (by have h:=steps_len (List.take k es) xs;rw [List.length_take] at h;omega)) ?_
  rintro _ _ ⟨_,_,⟨⟨ab,ae,an⟩,rfl,rfl⟩,rfl,rfl⟩
  refine ⟨Aj,?_⟩
  dsimp only
  refine Z ?_
  refine Ds1 12<|Se0 C (A3 (cs:=[_,_,_]) (vs:=[_,_]) (cs':=[_,_,_]) ty130)<|Z ?_
  refine A4 mixed<|Cm (e8 b1 [e7 ((e_ es k).kd),e7<|(e_ es k).tm,e7<|(e_ es k).u,e7<|(e_ es k).v,e7<|(e_ es k).w,e7<|(e_ es k).lb,e7<|(e_ es k).sg] 63::I) 11<|Z ?_
  refine C0 (rs:=[4,6]) kr C C<|D6 ?_<|Dv ?_
  ·refine Sr C (Ax ty28) Aj ?_
   refine Ds1 6<|Se1 C (B9 (α:=Ev) (cs:=[e7 ((e_ es k).kd),e7<|(e_ es k).tm,e7<|(e_ es k).u,e7<|(e_ es k).v,e7<|(e_ es k).w,e7<|(e_ es k).lb,e7<|(e_ es k).sg]) (xs:=[⟨(e_ es k).kd,(e_ es k).tm,(e_ es k).u,(e_ es k).v,(e_ es k).w,(e_ es k).lb,(e_ es k).sg⟩]) Bc ty63 C C dc dc C kr C C) λaq=>?_
   refine Ds1 7<|Se2 C (B4 (α:=Ev) (e:=63) (xs:=out++List.take k es) (ys:=([⟨(e_ es k).kd,(e_ es k).tm,(e_ es k).u,(e_ es k).v,(e_ es k).w,(e_ es k).lb,(e_ es k).sg⟩]:List Ev)) Bc ty63 C C C mm A7 (by simp only [List.length_append,List.length_take,List.length_cons,List.length_nil];omega) dc C<|λ_ _=>am) λak ai=>Z ?_
   refine Ds1 10<|Se0 C (A3 (cs:=[_,_,_]) (vs:=[_]) (cs':=[_,_,_]) ty28)<|Z ?_
   exact B5 ((k+1),(ab),(ae),(ak),(ai)) (by dsimp only;exact ⟨om,(by rw [steps_succ om];exact stepL_val hv<|M k om)⟩) (hI:=by (try dsimp only);exact (by rw [steps_succ om,out_succ om];exact Aj))
  refine Se1 C (B9 (α:=Ev) (cs:=[e7 ((e_ es k).kd),e7<|(e_ es k).tm,e7<|(e_ es k).u,e7<|(e_ es k).v,e7<|(e_ es k).w,e7<|(e_ es k).lb,e7<|(e_ es k).sg]) (xs:=[⟨(e_ es k).kd,(e_ es k).tm,(e_ es k).u,(e_ es k).v,(e_ es k).w,(e_ es k).lb,(e_ es k).sg⟩]) Bc ty63 C C dc dc C kr C C) λap=>?_
  refine Ds1 4<|Sr C (Ax ty28) Aj ?_
  refine Ds1 7<|Se2 C (B4 (α:=Ev) (e:=63) (xs:=out++List.take k es) (ys:=([⟨(e_ es k).kd,(e_ es k).tm,(e_ es k).u,(e_ es k).v,(e_ es k).w,(e_ es k).lb,(e_ es k).sg⟩]:List Ev)) Bc ty63 C C C mm A7 (by simp only [List.length_append,List.length_take,List.length_cons,List.length_nil];omega) dc C<|λ_ _=>am) λaj ad=>Z ?_
  refine Ds1 10<|Se0 C (A3 (cs:=[_,_,_]) (vs:=[_]) (cs':=[_,_,_]) ty28)<|Z ?_
  exact B5 ((k+1),(ab),(ae),(aj),(ad)) (by dsimp only;exact ⟨om,(by rw [steps_succ om];exact stepL_val hv<|M k om)⟩) (hI:=by (try dsimp only);exact (by rw [steps_succ om,out_succ om];exact Aj))
 have ah:List.take k es=es:=List.take_of_length_le om
 exact V.end0 C (e8 b [e7 nd,.slice a1 (List.foldl ep xs es).length c1,.slice o1 (out++es).length d1] 235::vc 192 (.slice a1 (List.foldl ep xs es).length c1) (List.foldl ep xs es)::vc 63 (.slice o1 (out++es).length d1) (out++es)::I) (by rw [ah];exact Aj) ⟨⟨a1,c1,o1,d1⟩,rfl,rfl⟩
theorem AgeP_base{wd mo T last:Int}(an:SlI nd 2 wd last xs)(hw:checkW 2 wd mo=0)(hT:0<=last/\last<=T/\T<=1048576)(ax:xs.length+out.length<=400000):eu prog κ 203 [.pointer (some ⟨b,0,none⟩),.agg #[e7 2,e7 wd,e7 mo],e7 T] (e8 b [e7 nd,.slice a0 xs.length c0,.slice o0 out.length d0] 235::vc 192 (.slice a0 xs.length c0) (xs)::vc 63 (.slice o0 out.length d0) (out)::I) (λr J=>∃y:Option Addr×Nat×Option Addr×Nat,(r = .tuple #[]/\SlI nd 2 wd T (ageL wd mo T xs out).1/\(ageL wd mo T xs out).1.length+(ageL wd mo T xs out).2.length=xs.length+out.length)/\J=e8 b [e7 nd,.slice y.1 ((ageL wd mo T xs out).1).length y.2.1,.slice y.2.2.1 ((ageL wd mo T xs out).2).length y.2.2.2] 235::vc 192 (.slice y.1 ((ageL wd mo T xs out).1).length y.2.1) ((ageL wd mo T xs out).1)::vc 63 (.slice y.2.2.1 ((ageL wd mo T xs out).2).length y.2.2.2) ((ageL wd mo T xs out).2)::I):=by
 refine Ce3 Tryz.func203 C C ?_
 refine Ar<|Ge1 (Al (cs:=[_,_,_]) C C C) λb1=>As<|Bk<|D7 (σ:=(Option Addr)×Nat×(Option Addr)×Nat×(List Lk)×(List Ev)) (λ_=>[]) (λs=>[e8 b [e7 nd,.slice s.1 s.2.2.2.2.1.length s.2.1,.slice s.2.2.1 s.2.2.2.2.2.length s.2.2.2.1] 235,vc 192 (.slice s.1 s.2.2.2.2.1.length s.2.1)<|s.2.2.2.2.1,vc 63 (.slice s.2.2.1 s.2.2.2.2.2.length s.2.2.2.1)<|s.2.2.2.2.2]) (λs=>((ageL wd mo T xs out)=ageL wd mo T s.2.2.2.2.1 s.2.2.2.2.2)/\(SlI nd 2 wd last s.2.2.2.2.1)/\(s.2.2.2.2.1.length+s.2.2.2.2.2.length=xs.length+out.length)) (λs=>s.2.2.2.2.1.length) (a0,c0,o0,d0,xs,out) ⟨rfl,an,rfl⟩ ?_
 rintro ⟨a1,c1,o1,d1,ys,zs⟩ hp
 dsimp only at hp ⊢
 obtain ⟨hr,hI,hs⟩:=hp
 refine Bk<|A5<|A4 mixed<|Cr 12<|Z ?_
 refine Ds1 6<|Se C (Ac c_ C C<|First_ok (nd:=nd) A7 (checkS_tm' hI.val)<|checkW_wd hw) ?_
 rintro _ _ ⟨_,_,⟨M,rfl,ae,rfl⟩,rfl,rfl⟩
 refine ⟨Aj,?_⟩
 refine Z ?_
 have ab:=ae
 refine Z ?_
 refine A6 (d:=20) C (λao=>Z ?_)<|λao=>Z ?_
 ·have aa:¬(0<ys.length/\minT ys+wd<=T):=(λh=>by have hz:=minT_uniq (ab.1 h.1);omega)
  have hE:(ageL wd mo T xs out)=(ys,zs):=hr.trans (ageL_stop aa)
  exact V.ret0 C (e8 b [e7 nd,.slice a1 ((ageL wd mo T xs out).1).length c1,.slice o1 ((ageL wd mo T xs out).2).length d1] 235::vc 192 (.slice a1 ((ageL wd mo T xs out).1).length c1) ((ageL wd mo T xs out).1)::vc 63 (.slice o1 ((ageL wd mo T xs out).2).length d1) ((ageL wd mo T xs out).2)::I) (by rw [hE];exact Aj) ⟨⟨a1,c1,o1,d1⟩,⟨rfl,by rw [hE];exact hI.later hT.2.1<|λ_=>aa,by rw [hE];exact hs⟩,rfl⟩
 refine Ap C (λak=>Z ?_)<|λak=>Z ?_
 ·have aa:¬(0<ys.length/\minT ys+wd<=T):=(λh=>by have hz:=minT_uniq (ab.1 h.1);omega)
  have hE:(ageL wd mo T xs out)=(ys,zs):=hr.trans (ageL_stop aa)
  exact V.ret0 C (e8 b [e7 nd,.slice a1 ((ageL wd mo T xs out).1).length c1,.slice o1 ((ageL wd mo T xs out).2).length d1] 235::vc 192 (.slice a1 ((ageL wd mo T xs out).1).length c1) ((ageL wd mo T xs out).1)::vc 63 (.slice o1 ((ageL wd mo T xs out).2).length d1) ((ageL wd mo T xs out).2)::I) (by rw [hE];exact Aj) ⟨⟨a1,c1,o1,d1⟩,⟨rfl,by rw [hE];exact hI.later hT.2.1<|λ_=>aa,by rw [hE];exact hs⟩,rfl⟩
 refine A4 mixed<|Cm (e8 b1 [e7 2,e7 wd,e7 mo] 31::I) 9<|Z ?_
 refine Ds1 4<|Sr C (Bl (vs:=[_,_]) ty130) Aj ?_
 refine Ds1 7<|Sc2 C (Ac c_ C C<|GoneP_ok (nd:=nd) A7 om<|hI.ask hw (by have ah:=hI.first C om;have hz:=minT_uniq (ab.1 om);omega)<|by have ah:=hI.first C om;have hz:=minT_uniq (ab.1 om);omega) λai aj=>?_
 refine Ds1 8<|Se C (Ac c_ C C<|Cv (J:=e8 b [e7 nd,.slice a1 ys.length c1,.slice o1 zs.length d1] 235::vc 192 (.slice a1 ys.length c1) (ys)::vc 63 (.slice o1 zs.length d1) (zs)::vc 63 (.slice ai (goneL 2 wd mo M ys).length aj) (goneL 2 wd mo M ys)::e8 b1 [e7 2,e7 wd,e7 mo] 31::I) Bb<|PutP_base (nd:=nd) (xs:=ys) (out:=zs) (es:=goneL 2 wd mo M ys) A7 (hI.val) (fitgone hI.val<|by have ah:=hI.first C om;have hz:=minT_uniq (ab.1 om);omega) (by have h:=gone_len 2 wd mo M ys;omega)<|by have h:=gone_len 2 wd mo M ys;omega) ?_
 rintro _ _ ⟨_,_,⟨⟨ar,aq,au,ap⟩,rfl,rfl⟩,rfl,rfl⟩
 refine ⟨Aj,?_⟩
 refine Z ?_
 have ad:0<ys.length:=by omega
 have hz:M=minT ys+wd:=minT_uniq (ab.1 ad)
 have hg:List.foldl ep ys (goneL 2 wd mo M ys)=List.filter (inW 2 wd mo M ys) ys:=gone_steps hI.val
 have aw:=gone_len 2 wd mo M ys
 have av:(List.filter (inW 2 wd mo M ys) ys).length<ys.length:=by rw [hz];exact age_less (wd:=wd) (mo:=mo) ad
 exact B5 ((ar),(aq),(au),(ap),(List.filter (inW 2 wd mo M ys) ys),(zs++goneL 2 wd mo M ys)) (by dsimp only;exact ⟨(by rw [hr,ageL_step ⟨ad,by omega⟩,←hz]),(hI.filter _),(by rw [List.length_append];omega)⟩) (hlt:=by (try dsimp only);exact av) (hI:=by (try dsimp only);exact (by rw [hg];exact Aj))
end Go.Sl
namespace Go.Sl
open Go.Proofs
set_option maxRecDepth 4000
variable{kd mo nd wd:Int}{xs ys:List Lk}{es out zs:List Ev}
variable {κ:Ctx}{I:List Item}
theorem AgeP_two{b:Nat}{T last:Int}{a0 o0:Option Addr}{c0 d0:Nat}(hk:kd=2)(aa:SlI nd kd wd last xs)(hw:checkW kd wd mo=0)(hT:0<=last/\last<=T/\T<=1048576)(M:xs.length+out.length<=400000):eu prog κ 203 [.pointer (some ⟨b,0,none⟩),.agg #[e7 kd,e7 wd,e7 mo],e7 T] (e8 b [e7 nd,.slice a0 xs.length c0,.slice o0 out.length d0] 235::vc 192 (.slice a0 xs.length c0) (xs)::vc 63 (.slice o0 out.length d0) (out)::I) (λr J=>∃y:Option Addr×Nat×Option Addr×Nat,(r = .tuple #[]/\SlI nd kd wd T (ageL wd mo T xs out).1/\(ageL wd mo T xs out).1.length+(ageL wd mo T xs out).2.length=xs.length+out.length)/\J=e8 b [e7 nd,.slice y.1 ((ageL wd mo T xs out).1).length y.2.1,.slice y.2.2.1 ((ageL wd mo T xs out).2).length y.2.2.2] 235::vc 192 (.slice y.1 ((ageL wd mo T xs out).1).length y.2.1) ((ageL wd mo T xs out).1)::vc 63 (.slice y.2.2.1 ((ageL wd mo T xs out).2).length y.2.2.2) ((ageL wd mo T xs out).2)::I):=by
 subst hk
 exact AgeP_base aa hw hT M
theorem evStep_three{e:Ev}(h:agedL kd wd mo e.tm (xs,out)=(ys,zs))(M:kd=3):evStep kd wd mo (xs,out) e=((ep ys e).filter (inW kd wd mo e.tm (ep ys e)),zs++[e]++goneL kd wd mo e.tm (ep ys e)):=by
 unfold evStep windL;rw [h,if_pos M]
theorem evStep_not{e:Ev}(h:agedL kd wd mo e.tm (xs,out)=(ys,zs))(M:¬kd=3):evStep kd wd mo (xs,out) e=(ep ys e,zs++[e]):=by
 unfold evStep windL;rw [h,if_neg M]
theorem checkW_one(h:checkW kd wd mo=0)(M:kd=2):1<=wd:=by
 unfold checkW at h
 split at h
 ·cases h
 split at h
 ·cases h
 omega
theorem lastT_ge(h:StOk nd es){k:Nat}(M:k<=es.length):0<=lastT es k:=by
 cases k with
 |zero=>exact Int.le_refl _
 |succ k=>rw [lastT_succ];exact (h.fit k om).tm.1
theorem slideE_st(M:¬checkW kd wd mo≠0):slideE nd kd wd mo es=streamE nd es:=by unfold slideE;rw [if_neg M]
theorem Slide_ok{va:Value}(hl:Sl κ I va es):eu prog κ 132 [e7 nd,va,.agg #[e7 kd,e7 wd,e7 mo]] I (λr J=>((slideE nd kd wd mo es)≠0/\r = .tuple #[.slice none 0 0,e7 (slideE nd kd wd mo es)]/\I=J)\/(∃a c,(slideE nd kd wd mo es)=0/\r = .tuple #[.slice a (slideS kd wd mo es).2.length c,e7 0]/\J=vc 63 (.slice a (slideS kd wd mo es).2.length c) (slideS kd wd mo es).2::I)):=by
 refine Bu hl.le λbb=>?_
 refine Ce3 Tryz.func132 C C ?_
 refine Ar<|Ge1 (Al (cs:=[_,_,_]) C C C) λb1=>Ga C<|Ga C<|As<|A5<|Ar<|Gl3 ty31 ?_
 refine G.e (Ac c_ C C<|CheckW_ok kd wd mo) ?_
 rintro _ _ ⟨_,_,⟨rfl,rfl⟩,rfl,rfl⟩
 refine Ga C<|As<|Ar<|Gm C<|Gr (C9 C C)<|As<|Ap C (λM=>?_)<|λM=>?_
 ·refine Ar (Gm C<|Ga C<|Ga C<|As<|Bg (S2 7 6 C C)<|Bf<|Bq ?_)
  have hz:(slideE nd kd wd mo es)=checkW kd wd mo:=by unfold slideE;rw [if_pos M]
  exact Cy C C C I Ah<|.inl ⟨by rw [hz];exact M,by rw [hz],rfl⟩
 refine Bt<|Ay<|A5<|Ar<|Gm C<|Gm C<|G.e (Ac c_ C C<|Stream_ok (nd:=nd)<|Au hl) ?_
 rintro _ _ ⟨_,_,⟨rfl,rfl⟩,rfl,rfl⟩
 refine Ga C<|As<|Bg (S4 9 5 0 1 C C C C)<|Ar<|Gm C<|Gr (C9 C C)<|As<|Ap C (λak=>?_)<|λak=>?_
 ·refine Ar (Gm C<|Ga C<|Ga C<|As<|Bf<|Bq ?_)
  have hz:(slideE nd kd wd mo es)=streamE nd es:=slideE_st M
  exact Cy C C C I Ah<|.inl ⟨by rw [hz];exact ak,by rw [hz],rfl⟩
 refine Bt<|Ay<|Ar<|Gm C ?_
 have hE:=streamE_ok (Classical.not_not.1 ak)
 refine Gr (Br (cells:=[_,_]) ty130 Tryz.underlying130 pl130 C C)<|Gr (Br (cells:=[_,_,_]) ty235 Tryz.underlying235 pl235 C C)<|Ge1 (Al (cs:=[_,_,_]) C C C) λb2=>Ga C<|As<|A5<|Ar<|Gm C<|Gr (Da (α:=Ev) (xs:=es) Bc C<|Au hl)<|Gm C<|As<|Bg (S5 30 29 28 10 5 C C C C C)<|Bk<|Cn (σ:=Nat×(Option Addr)×Nat×(Option Addr)×Nat×(List Lk)×(List Ev)) (λs=>([(5,.pointer<|some ⟨b1,0,none⟩),(10,.pointer<|some ⟨b2,0,none⟩),(28,va),(29,e7 ((es.length:Nat):Int)),(30,e7 ((s.1:Nat):Int))]:Env)) (λs=>e8 b2 [e7 nd,.slice s.2.1 s.2.2.2.2.2.1.length s.2.2.1,.slice s.2.2.2.1 s.2.2.2.2.2.2.length s.2.2.2.2.1] 235::vc 192 (.slice s.2.1 s.2.2.2.2.2.1.length s.2.2.1) (s.2.2.2.2.2.1)::vc 63 (.slice s.2.2.2.1 s.2.2.2.2.2.2.length s.2.2.2.2.1) (s.2.2.2.2.2.2)::e8 b1 [e7 kd,e7 wd,e7 mo] 31::I) (λs=>(s.1<=es.length)/\(slideS kd wd mo (List.take s.1 es)=(s.2.2.2.2.2.1,s.2.2.2.2.2.2))/\(SlI nd kd wd (lastT es s.1) s.2.2.2.2.2.1)/\(s.2.2.2.2.2.1.length+s.2.2.2.2.2.2.length<=2*s.1)) (λs=>es.length - s.1) (0,none,0,none,0,[],[]) ⟨om,rfl,(SlI.nil hE.nodes),(by simp)⟩ (Ab C<|Ab C<|Ab C<|Ab C<|Ab Dg Bs) (Ak (Bw 63 _)<|Ak (Bw 192 _) Bb) ?_
 rintro ⟨k,a1,c1,o1,d1,xs,out⟩ hp
 dsimp only at hp ⊢
 obtain ⟨hk,ap,hI,hs⟩:=hp
 have hlen:=hE.len
 refine Ar<|Gr (Ch C C)<|As<|A5<|Ap C (λa5=>?_)<|λa5=>?_
 ·refine Bt (Ay<|A5<|Bk<|Ar<|Gr (Az (α:=Ev) (xs:=es) Bc ty63 C C (Au hl) om om)<|Gr (Dt (α:=Ev) (xs:=es) ty63 C (Au hl) om om)<|Ge1 (Am ty63 C) λb3=>Ge0 (Fj ty63) ?_)
  have ae:=hE.fit k om
  have a3:=hE.asc k om
  refine As<|E8 (σ:=(Option Addr)×Nat×(Option Addr)×Nat×(List Lk)×(List Ev)) (λs=>([(5,.pointer<|some ⟨b1,0,none⟩),(10,.pointer<|some ⟨b2,0,none⟩),(12,.pointer<|some ⟨b3,0,none⟩),(28,va),(29,e7 ((es.length:Nat):Int)),(30,e7<|(k:Int))]:Env)) (λs=>e8 b2 [e7 nd,.slice s.1 s.2.2.2.2.1.length s.2.1,.slice s.2.2.1 s.2.2.2.2.2.length s.2.2.2.1] 235::vc 192 (.slice s.1 s.2.2.2.2.1.length s.2.1) (s.2.2.2.2.1)::vc 63 (.slice s.2.2.1 s.2.2.2.2.2.length s.2.2.2.1) (s.2.2.2.2.2)::e8 b3 [e7 ((e_ es k).kd),e7<|(e_ es k).tm,e7<|(e_ es k).u,e7<|(e_ es k).v,e7<|(e_ es k).w,e7<|(e_ es k).lb,e7<|(e_ es k).sg] 63::e8 b1 [e7 kd,e7 wd,e7 mo] 31::I) (λs=>((agedL kd wd mo (e_ es k).tm (xs,out))=(s.2.2.2.2.1,s.2.2.2.2.2))/\(SlI nd kd wd (e_ es k).tm s.2.2.2.2.1)/\(s.2.2.2.2.1.length+s.2.2.2.2.2.length=xs.length+out.length)) ?_ ?_
  ·refine Ar (Gf fld31_0 C<|Gl ef ?_)
   refine Gr (Fu C C)<|As<|Ap C (λaj=>?_)<|λaj=>?_
   ·refine Be (Gm C<|Gl3 ty31 ?_)
    refine Gf fld63_1 C<|Gl ef ?_
    refine G.e (Ac c_ C C<|Cv (J:=e8 b2 [e7 nd,.slice a1 xs.length c1,.slice o1 out.length d1] 235::vc 192 (.slice a1 xs.length c1) (xs)::vc 63 (.slice o1 out.length d1) (out)::e8 b3 [e7 ((e_ es k).kd),e7<|(e_ es k).tm,e7<|(e_ es k).u,e7<|(e_ es k).v,e7<|(e_ es k).w,e7<|(e_ es k).lb,e7<|(e_ es k).sg] 63::e8 b1 [e7 kd,e7 wd,e7 mo] 31::I) Bb<|AgeP_two (nd:=nd) (T:=(e_ es k).tm) (xs:=xs) (out:=out) aj hI (Classical.not_not.1 M) ⟨lastT_ge hE om,a3,ae.tm.2⟩ om) ?_
    rintro _ _ ⟨_,_,⟨⟨a8,ba,a9,a7⟩,⟨rfl,ab⟩,rfl⟩,rfl,rfl⟩
    exact Bi<|Cg ((a8),(ba),(a9),(a7),((ageL wd mo (e_ es k).tm xs out).1),((ageL wd mo (e_ es k).tm xs out).2))<|by dsimp only;exact ⟨(by unfold agedL;rw [if_pos aj]),ab.1,ab.2⟩
   exact Bt<|Cg ((a1),(c1),(o1),(d1),(xs),(out))<|by dsimp only;exact ⟨(by unfold agedL;rw [if_neg aj]),(hI.later a3<|λh=>absurd h aj),rfl⟩
  rintro ⟨a2,c2,o2,d2,ys,zs⟩ hp
  obtain ⟨ab,au,be⟩:((agedL kd wd mo (e_ es k).tm (xs,out))=(ys,zs))/\(SlI nd kd wd (e_ es k).tm ys)/\(ys.length+zs.length=xs.length+out.length):=hp
  refine Ar<|Gm C<|Gl7 ty63 ?_
  refine Ge1 (B9 (α:=Ev) (cs:=[e7 ((e_ es k).kd),e7<|(e_ es k).tm,e7<|(e_ es k).u,e7<|(e_ es k).v,e7<|(e_ es k).w,e7<|(e_ es k).lb,e7<|(e_ es k).sg]) (xs:=[⟨(e_ es k).kd,(e_ es k).tm,(e_ es k).u,(e_ es k).v,(e_ es k).w,(e_ es k).lb,(e_ es k).sg⟩]) Bc ty63 C C dc dc C kr C C) λay=>?_
  refine G.e (Ac c_ C C<|Cv (J:=e8 b2 [e7 nd,.slice a2 ys.length c2,.slice o2 zs.length d2] 235::vc 192 (.slice a2 ys.length c2) (ys)::vc 63 (.slice o2 zs.length d2) (zs)::vc 63 (.slice ay 1 1) (([⟨(e_ es k).kd,(e_ es k).tm,(e_ es k).u,(e_ es k).v,(e_ es k).w,(e_ es k).lb,(e_ es k).sg⟩]:List Ev))::e8 b3 [e7 ((e_ es k).kd),e7<|(e_ es k).tm,e7<|(e_ es k).u,e7<|(e_ es k).v,e7<|(e_ es k).w,e7<|(e_ es k).lb,e7<|(e_ es k).sg] 63::e8 b1 [e7 kd,e7 wd,e7 mo] 31::I) Bb<|PutP_base (nd:=nd) (xs:=ys) (out:=zs) (es:=([⟨(e_ es k).kd,(e_ es k).tm,(e_ es k).u,(e_ es k).v,(e_ es k).w,(e_ es k).lb,(e_ es k).sg⟩]:List Ev)) A7 au.val (fitone ae) (by have h:=stepL_len ys (e_ es k);have h9:=gone_len kd wd mo (e_ es k).tm (ep ys<|e_ es k);first|(simp only [List.length_append,List.length_cons,List.length_nil];omega)|omega)<|by have h:=stepL_len ys (e_ es k);have h9:=gone_len kd wd mo (e_ es k).tm (ep ys<|e_ es k);first|(simp only [List.length_append,List.length_cons,List.length_nil];omega)|omega) ?_
  rintro _ _ ⟨_,_,⟨⟨ao,ai,ad,ah⟩,rfl,rfl⟩,rfl,rfl⟩
  refine As<|Ar<|Gf fld31_0 C<|Gl ef ?_
  refine Gr (Fu C C) ?_
  have aa:SlI nd kd wd (e_ es k).tm (ep ys<|e_ es k):=au.step ae rfl (checkW_one<|Classical.not_not.1 M)
  refine As<|Ap C (λan=>?_)<|λan=>?_
  ·refine A4 mixed (Cm (e8 b3 [e7 ((e_ es k).kd),e7<|(e_ es k).tm,e7<|(e_ es k).u,e7<|(e_ es k).v,e7<|(e_ es k).w,e7<|(e_ es k).lb,e7<|(e_ es k).sg] 63::e8 b1 [e7 kd,e7 wd,e7 mo] 31::I) 10<|Dr 0 C (Af C)<|Dr 1 C (Af C)<|Dr 2 C (Bo C)<|Dr 3 C (Ad fld235_0 C)<|Dr 5 C (Bl (vs:=[_,_,_]) ty31) ?_)
   refine Dr 6 C (Ad fld63_1 C)<|Dr 7 C (Ax ef) ?_
   refine Ds1 4<|Sr C (Bl (vs:=[_,_]) ty130) Aj ?_
   refine Ds1 8<|Sc2 C (Ac c_ C C<|GoneP_ok (nd:=nd) A7 (by have h:=stepL_len ys (e_ es k);show (ep ys<|e_ es k).length<=1000000;omega)<|aa.ask (Classical.not_not.1 M) ae.tm<|Int.le_refl _) λaq av=>?_
   refine Ds1 9<|Se C (Ac c_ C C<|Cv (J:=e8 b2 [e7 nd,.slice ao (ep ys<|e_ es k).length ai,.slice ad (zs++[(e_ es k)]).length ah] 235::vc 192 (.slice ao (ep ys<|e_ es k).length ai) (ep ys<|e_ es k)::vc 63 (.slice ad (zs++[(e_ es k)]).length ah) (zs++[(e_ es k)])::vc 63 (.slice aq (goneL kd wd mo ((e_ es k).tm)<|ep ys<|e_ es k).length av) (goneL kd wd mo ((e_ es k).tm)<|ep ys<|e_ es k)::vc 63 (.slice ay 1 1) (([⟨(e_ es k).kd,(e_ es k).tm,(e_ es k).u,(e_ es k).v,(e_ es k).w,(e_ es k).lb,(e_ es k).sg⟩]:List Ev))::e8 b3 [e7 ((e_ es k).kd),e7<|(e_ es k).tm,e7<|(e_ es k).u,e7<|(e_ es k).v,e7<|(e_ es k).w,e7<|(e_ es k).lb,e7<|(e_ es k).sg] 63::e8 b1 [e7 kd,e7 wd,e7 mo] 31::I) Bb<|PutP_base (nd:=nd) (xs:=ep ys (e_ es k)) (out:=zs++[(e_ es k)]) (es:=goneL kd wd mo ((e_ es k).tm) (ep ys<|e_ es k)) A7 aa.val (fitgone aa.val ae.tm) (by have h:=stepL_len ys (e_ es k);have h9:=gone_len kd wd mo (e_ es k).tm (ep ys<|e_ es k);first|(simp only [List.length_append,List.length_cons,List.length_nil];omega)|omega)<|by have h:=stepL_len ys (e_ es k);have h9:=gone_len kd wd mo (e_ es k).tm (ep ys<|e_ es k);first|(simp only [List.length_append,List.length_cons,List.length_nil];omega)|omega) ?_
   rintro _ _ ⟨_,_,⟨⟨aw,az,a0,ar⟩,rfl,rfl⟩,rfl,rfl⟩
   refine ⟨Aj,?_⟩
   refine Dz<|Av<|Ay<|Bg (S5 5 10 28 29 30 C C C C C)<|Be<|Gr (Rad C C)<|Gm C<|Bi ?_
   have a6:=gone_steps (kd:=kd) (wd:=wd) (mo:=mo) (nw:=(e_ es k).tm) aa.val
   have bc:=gone_len kd wd mo (e_ es k).tm (ep ys<|e_ es k)
   have a4:=stepL_len ys (e_ es k)
   exact B5 ((k+1),(aw),(az),(a0),(ar),(List.filter (inW kd wd mo (e_ es k).tm (ep ys<|e_ es k))<|ep ys<|e_ es k),(zs++[(e_ es k)]++goneL kd wd mo (e_ es k).tm (ep ys<|e_ es k))) (by dsimp only;exact ⟨om,(by rw [slideS_succ om,ap];exact evStep_three ab an),(by rw [lastT_succ];exact aa.filter _),lap⟩) (hI:=by (try dsimp only);exact (by rw [←a6];exact Aj))
  refine Bt<|Av<|Ay<|Be<|Gr (Rad C C)<|Gm C<|Bi ?_
  have a4:=stepL_len ys (e_ es k)
  exact B5 ((k+1),(ao),(ai),(ad),(ah),((ep ys<|e_ es k)),(zs++[(e_ es k)]))<|by dsimp only;exact ⟨om,(by rw [slideS_succ om,ap];exact evStep_not ab an),(by rw [lastT_succ];exact aa),lap⟩
 refine C7<|A9<|A9<|B3<|Ay<|Ar<|Gm C<|Gr (Bo C)<|Gf fld235_1 C<|Gl ty28 ?_
 refine Ga C<|Ga C<|As<|Bf ?_
 have ax:(slideS kd wd mo es)=(xs,out):=by rw [←ap,show List.take k es=es from List.take_of_length_le om]
 have hz:(slideE nd kd wd mo es)=0:=(slideE_st M).trans (Classical.not_not.1 ak)
 exact Cy C C C (vc 63 (.slice o1 (slideS kd wd mo es).2.length d1) (slideS kd wd mo es).2::I) (by rw [ax];exact Aj)<|.inr ⟨o1,d1,hz,by rw [ax],rfl⟩
end Go.Sl
namespace Go.Proofs
def Tryz.sortI_ren:Go.Shelf.Ren:=⟨fun |5=>237|8=>268|7=>267|19=>297|20=>298|10=>288|11=>289|12=>290|13=>291|14=>292|15=>293|16=>294|17=>295|18=>296|30=>307|31=>308|32=>309|33=>310|34=>311|35=>225|40=>317|n=>n,fun |23=>22|25=>3|3=>3|32=>216|22=>22|0=>0|44=>327|46=>152|4=>4|36=>321|35=>320|41=>221|5=>5|9=>9|53=>333|57=>337|63=>340|64=>246|n=>n,fun |n=>n⟩
theorem Tryz.sortI:Go.Proofs.SlLaysM.n5 prog Tryz.sortI_ren:={
 mixed:=by kernel_rfl,
 f5:=⟨Tryz.f237.name,by decide,Tryz.func237.trans<|congrArg some<|by kernel_rfl⟩,
 f7:=⟨Tryz.f267.name,by decide,Tryz.func267.trans<|congrArg some<|by kernel_rfl⟩,
 f8:=Tryz.func268.trans (congrArg some<|by kernel_rfl),
 f10:=⟨Tryz.f288.name,by decide,Tryz.func288.trans<|congrArg some<|by kernel_rfl⟩,
 f11:=⟨Tryz.f289.name,by decide,Tryz.func289.trans<|congrArg some<|by kernel_rfl⟩,
 f12:=⟨Tryz.f290.name,by decide,Tryz.func290.trans<|congrArg some<|by kernel_rfl⟩,
 f13:=⟨Tryz.f291.name,by decide,Tryz.func291.trans<|congrArg some<|by kernel_rfl⟩,
 f14:=⟨Tryz.f292.name,by decide,Tryz.func292.trans<|congrArg some<|by kernel_rfl⟩,
 f15:=⟨Tryz.f293.name,by decide,Tryz.func293.trans<|congrArg some<|by kernel_rfl⟩,
 f16:=⟨Tryz.f294.name,by decide,Tryz.func294.trans<|congrArg some<|by kernel_rfl⟩,
 f17:=⟨Tryz.f295.name,by decide,Tryz.func295.trans<|congrArg some<|by kernel_rfl⟩,
 f18:=⟨Tryz.f296.name,by decide,Tryz.func296.trans<|congrArg some<|by kernel_rfl⟩,
 f19:=Tryz.func297.trans (congrArg some<|by kernel_rfl),
 f20:=Tryz.func298.trans (congrArg some<|by kernel_rfl),
 f30:=⟨Tryz.f307.name,by decide,Tryz.func307.trans<|congrArg some<|by kernel_rfl⟩,
 f31:=Tryz.func308.trans (congrArg some<|by kernel_rfl),
 f32:=Tryz.func309.trans (congrArg some<|by kernel_rfl),
 f33:=⟨Tryz.f310.name,by decide,Tryz.func310.trans<|congrArg some<|by kernel_rfl⟩,
 f34:=⟨Tryz.f311.name,by decide,Tryz.func311.trans<|congrArg some<|by kernel_rfl⟩,
 f35:=⟨Tryz.f225.name,by decide,Tryz.func225.trans<|congrArg some<|by kernel_rfl⟩,
 f40:=⟨Tryz.f317.name,by decide,Tryz.func317.trans<|congrArg some<|by kernel_rfl⟩,
 t0:=Tryz.underlying0,
 a0:=Tryz.isAgg0,
 z0:=Tryz.sizeOf0,
 v0:=Tryz.zeroValue0,
 t3:=Tryz.underlying3,
 a3:=Tryz.isAgg3,
 z3:=Tryz.sizeOf3,
 v3:=Tryz.zeroValue3,
 t4:=Tryz.underlying4,
 a4:=Tryz.isAgg4,
 z4:=Tryz.sizeOf4,
 v4:=Tryz.zeroValue4,
 t5:=Tryz.underlying5,
 a5:=Tryz.isAgg5,
 z5:=Tryz.sizeOf5,
 v5:=Tryz.zeroValue5,
 t9:=Tryz.underlying9,
 a9:=Tryz.isAgg9,
 z9:=Tryz.sizeOf9,
 v9:=Tryz.zeroValue9,
 t22:=Tryz.underlying22,
 a22:=Tryz.isAgg22,
 z22:=Tryz.sizeOf22,
 v22:=Tryz.zeroValue22,
 t23:=Tryz.underlying22,
 a23:=Tryz.isAgg22,
 z23:=Tryz.sizeOf22,
 v23:=Tryz.zeroValue22,
 t25:=Tryz.underlying3,
 a25:=Tryz.isAgg3,
 z25:=Tryz.sizeOf3,
 v25:=Tryz.zeroValue3,
 t32:=Tryz.underlying216,
 a32:=Tryz.isAgg216,
 z32:=Tryz.sizeOf216,
 v32:=Tryz.zeroValue216,
 t35:=Tryz.underlying320,
 a35:=Tryz.isAgg320,
 z35:=Tryz.sizeOf320,
 v35:=Tryz.zeroValue320,
 t36:=Tryz.underlying321,
 a36:=Tryz.isAgg321,
 z36:=Tryz.sizeOf321,
 v36:=Tryz.zeroValue321,
 t41:=Tryz.underlying221,
 a41:=Tryz.isAgg221,
 z41:=Tryz.sizeOf221,
 v41:=Tryz.zeroValue221,
 t44:=Tryz.underlying327,
 a44:=Tryz.isAgg327,
 z44:=Tryz.sizeOf327,
 v44:=Tryz.zeroValue327,
 t46:=Tryz.underlying152,
 a46:=Tryz.isAgg152,
 z46:=Tryz.sizeOf152,
 v46:=Tryz.zeroValue152,
 t53:=Tryz.underlying333,
 a53:=Tryz.isAgg333,
 z53:=Tryz.sizeOf333,
 v53:=Tryz.zeroValue333,
 t57:=Tryz.underlying337,
 a57:=Tryz.isAgg337,
 z57:=Tryz.sizeOf337,
 v57:=Tryz.zeroValue337,
 t63:=Tryz.underlying340,
 a63:=Tryz.isAgg340,
 z63:=Tryz.sizeOf340,
 v63:=Tryz.zeroValue340,
 t64:=Tryz.underlying246,
 a64:=Tryz.isAgg246,
 z64:=Tryz.sizeOf246,
 v64:=Tryz.zeroValue246}
end Go.Proofs
namespace Go.Sl
variable{m q:Nat}{xs:List Int}
section
variable {α:Type}[Inhabited α][DecidableEq α]
def compG(xs:List α):Nat->List α
 |0=>[]
 |k+1=>if 0<k/\e_ xs k=e_ xs ((k:Int) - 1) then compG xs k else compG xs k++[e_ xs k]
theorem compG_len(xs:List α):∀k,(compG xs k).length<=k
 |0=>by simp [compG]
 |k+1=>by
  have:=compG_len xs k
  simp only [compG]
  split
  ·omega
  rw [List.length_append];simp;omega
theorem compG_take{xs:List α}{k:Nat}(h:∀j,j<k->0<j->e_ xs j≠e_ xs ((j:Int) - 1))(hk:k<=xs.length):compG xs k=xs.take k:=by
 induction k with
 |zero=>rfl
 |succ k ih=>
  simp only [compG]
  rw [if_neg λe=>h k (by omega) e.1 e.2,ih (λj hj M=>h j (by omega) M)<|by omega,take_at xs k<|by omega]
theorem compG_keep{xs ys:List α}(h:ys.take m=compG xs q)(h0:0<q)(M:¬e_ ys q≠e_ ys ((q:Int) - 1))(h1:e_ ys q=e_ xs q)(h2:e_ ys ((q:Int) - 1)=e_ xs ((q:Int) - 1)):ys.take m=compG xs (q+1):=by
 rw [h1,h2] at M
 simp only [compG]
 rw [if_pos ⟨h0,Classical.not_not.1 M⟩,h]
theorem compG_put{xs ys:List α}(h:ys.take m=compG xs q)(hm:m<ys.length)(M:e_ ys q≠e_ ys ((q:Int) - 1))(h1:e_ ys q=e_ xs q)(h2:e_ ys ((q:Int) - 1)=e_ xs ((q:Int) - 1)):(ys.set m (e_ ys q)).take (m+1)=compG xs (q+1):=by
 rw [h1,h2] at M
 simp only [compG]
 rw [if_neg λe=>M e.2,←h,h1,List.take_add_one,List.take_set_of_le<|Nat.le_refl _]
 simp [hm]
theorem at_dropG(xs:List α)(l:Nat)(i:Int)(M:0<=i):e_ (xs.drop l) i=e_ xs ((l:Int)+i):=by
 unfold e_
 rw [List.getD_eq_getElem?_getD,List.getD_eq_getElem?_getD,List.getElem?_drop]
 congr 2;omega
end
theorem compZ_spec(h:xs.Pairwise (· <= ·)):∀k,k<=xs.length->(compG xs k).Pairwise (· < ·)/\(∀x,x∈compG xs k↔x∈xs.take k)
 |0,_=>by simp [compG]
 |k+1,hk=>by
  obtain ⟨h1,h2⟩:=compZ_spec h k (by omega)
  have M:∀i j:Nat,i<j->j<xs.length->e_ xs i<=e_ xs j:=λi j aa hj=>by
   rw [at_get xs i (by omega),at_get xs j hj]
   exact (List.pairwise_iff_getElem.1 h) i j (by omega) hj aa
  rw [take_at xs k (by omega)]
  simp only [compG]
  have mem:∀a,a∈xs.take k->∃j:Nat,j<k/\a=e_ xs j:=λa ha=>by
   obtain ⟨j,hj,rfl⟩:=List.getElem_of_mem ha
   rw [List.length_take] at hj
   exact ⟨j,by omega,by rw [List.getElem_take,at_get xs j<|by omega]⟩
  split
  ·rename_i hc
   refine ⟨h1,λx=>?_⟩
   rw [h2,List.mem_append,List.mem_singleton]
   refine ⟨.inl,λe=>e.elim id λe=>?_⟩
   subst e
   rw [hc.2,show (k:Int) - 1=((k - 1:Nat):Int) by omega,at_get xs (k - 1)<|by omega]
   exact List.mem_take_iff_getElem.2 ⟨k - 1,by omega,rfl⟩
  rename_i hc
  refine ⟨List.pairwise_append.2 ⟨h1,List.pairwise_singleton _ _,λa ha b hb=>?_⟩,λx=>by rw [List.mem_append,List.mem_append,h2]⟩
  rw [List.mem_singleton.1 hb]
  obtain ⟨j,hj,rfl⟩:=mem a ((h2 a).1 ha)
  have h3:=M (k - 1) k (by omega) (by omega)
  have h4:e_ xs j<=e_ xs ((k - 1:Nat):Int):=by
   by_cases e:j=k - 1
   ·rw [e];exact Int.le_refl _
   exact M j (k - 1) (by omega)<|by omega
  have h5:e_ xs k≠e_ xs ((k:Int) - 1):=λe=>hc ⟨by omega,e⟩
  rw [show (k:Int) - 1=((k - 1:Nat):Int) by omega] at h5
  omega
theorem compZ_asc(h:xs.Pairwise (· <= ·)):(compG xs xs.length).Pairwise (· < ·):=(compZ_spec h _ (Nat.le_refl _)).1
theorem mem_compZ(h:xs.Pairwise (· <= ·)){x:Int}:x∈compG xs xs.length↔x∈xs:=by
 have:=(compZ_spec h _<|Nat.le_refl _).2 x
 rwa [List.take_length] at this
end Go.Sl
namespace Go.Sl
open Go.Proofs
set_option maxRecDepth 4000

theorem ext_at{α:Type}[Inhabited α]{xs ys:List α}(hl:xs.length=ys.length)(h:∀j,j<xs.length->e_ xs j=e_ ys j):xs=ys:=by
 refine List.ext_getElem hl λj M h2=>?_
 have:=h j M
 rwa [Cx xs j M,Cx ys j h2] at this
end Go.Sl
namespace Go.Sl
open Go.Proofs
set_option maxRecDepth 4000
attribute [local irreducible] W G V D A Runs Eff
theorem Few_ok{κ:Ctx}{I:List Item}{la:Option Addr}{M lc:Nat} :
    eu prog κ 6 [.slice la M lc] I (λr J=>r = .bool (decide<|(M:Int)<=500)/\I=J):=by
 refine Ce1 Tryz.func6 C C<|Z ?_
 exact Ai C C I Ah ⟨rfl,rfl⟩
end Go.Sl
namespace Go.Sl
open Go.Proofs
set_option maxRecDepth 4000

end Go.Sl
namespace Go.Sl
open Go.Proofs
set_option maxRecDepth 4000
variable{c:Nat}{xs:List Int}{a:Option Addr}{v:Value}{nd:Int}{es:List Pt}
variable {κ:Ctx}{I:List Item}
attribute [local irreducible] W G V D A Runs Eff
theorem sortI_ok{e:TypeId}{ad:Option Addr}(M:xs.length<4611686018427387904):eu prog κ 237 [.slice ad xs.length c] (vc e (.slice ad xs.length c) xs::I) λr J=>r = .tuple #[]/\J=vc e (.slice ad xs.length c) (sortZ xs)::I:=
 (sortI_any (κ:=κ) (I:=I) Tryz.sortI (e:=e) (ad:=ad) (c:=c) M).mono λr J ⟨h1,h2⟩=>⟨h1,by rw [h2,Fa]⟩
theorem CompactI_ok(av:xs.length<1000000000000):eu prog κ 252 [.slice a xs.length c] (vc 3 (.slice a xs.length c) (xs)::I) (λr J=>r = .slice a (compG xs xs.length).length c/\J=vc 3 (.slice a (compG xs xs.length).length c) (compG xs xs.length)::I):=by
 refine Bu (vc.cap List.mem_cons_self) λar=>?_
 refine Ce1 Tryz.func252 C C<|Z ?_
 refine Ap C (λc8=>Z ?_)<|λc8=>Z ?_
 ·have hc:compG xs xs.length=xs:=(compG_take (λj h1 h2=>by omega)<|Nat.le_refl _).trans (List.take_length)
  exact Ai C C (vc 3 (.slice a (compG xs xs.length).length c) (compG xs xs.length)::I) (by rw [hc];exact Aj) ⟨by rw [hc],rfl⟩
 refine D7 (σ:=Nat) (λs=>[(3,e7 ((s:Nat):Int))]) (λ_=>[]) (λs=>(1<=s/\s<=xs.length)/\(∀j,j<s->0<j->e_ xs j≠e_ xs ((j:Int) - 1))) (λs=>xs.length - s) 1 ⟨om,(λj h1 h2=>by omega)⟩ ?_
 rintro k hp
 obtain ⟨hk,ad⟩:=hp
 refine Z ?_
 refine Ap C (λc13=>Z ?_)<|λc13=>Z ?_
 ·refine A4 mixed (Cr 10<|Dr 0 C (Af C)<|Dr 1 C (Af C)<|Dr 2 C (Az (α:=Int) (xs:=xs) Aa ef C C A7 om<|by first|omega|(simp only [List.length_drop];omega))<|Dr 3 C (Bj (xs:=xs) ef C A7 om<|by first|omega|(simp only [List.length_drop];omega))<|Dr 4 C (Af C)<|Dr 5 C (Af C)<|Dr 6 C (Rsu C C)<|Dr 7 C (Az (α:=Int) (xs:=xs) Aa ef C C A7 om<|by first|omega|(simp only [List.length_drop];omega))<|Dr 8 C (Bj (xs:=xs) ef C A7 om<|by first|omega|(simp only [List.length_drop];omega))<|Z ?_)
  refine Ap C (λah=>Z ?_)<|λah=>Z ?_
  ·refine Gr (Eb (α:=Int) (xs:=xs) (l:=k) Aa ef C C om A7 om) (Z ?_)
   refine D7 (σ:=Nat×Nat×(List Int)) (λs=>[(3,e7 ((s.1:Nat):Int)),(5,e7 ((s.2.1:Nat):Int))]) (λs=>[vc 3 (.slice a xs.length c) (s.2.2)]) (λs=>(1<=s.2.1/\k+s.2.1<=xs.length)/\(s.2.2.length=xs.length)/\(1<=s.1/\s.1<k+s.2.1)/\(s.2.2.take s.1=compG xs (k+s.2.1))/\(∀j,k+s.2.1<=j+1->e_ s.2.2 j=e_ xs j)) (λs=>xs.length - (k+s.2.1)) (k,1,xs) (show (1<=(1:Nat)/\k+(1:Nat)<=xs.length)/\((xs:List Int).length=xs.length)/\(1<=(k:Nat)/\(k:Nat)<k+(1:Nat))/\((xs:List Int).take (k:Nat)=compG xs (k+(1:Nat)))/\(∀j,k+(1:Nat)<=j+1->e_ (xs:List Int) j=e_ xs j) from ⟨om,om,om,(by rw [←compG_take ad om];simp only [compG];rw [if_pos ⟨by omega,ah⟩]),(λ_ _=>rfl)⟩) ?_
   rintro ⟨m,q,ys⟩ hp
   dsimp only at hp ⊢
   obtain ⟨hq,ak,hm,ae,M⟩:=hp
   have au:(List.drop k xs).length=xs.length - k:=List.length_drop
   have ao:=M (k+q) om
   have ai:=M (k+q - 1) om
   rw [show ((k+q - 1:Nat):Int)=((k+q:Nat):Int) - 1 by omega] at ai
   refine Z ?_
   refine Ap C (λap=>Z ?_)<|λap=>Z ?_
   ·refine A4 mixed (Cr 10<|Z ?_)
    refine Dr 2 C (Az (α:=Int) (xs:=List.drop k ys) Aa ef C C (Fq A7 om<|by rw [List.length_drop];omega) om<|by first|omega|(simp only [List.length_drop];omega))<|Dr 3 C (Bj (xs:=List.drop k ys) ef C (Fq A7 om<|by rw [List.length_drop];omega) om<|by first|omega|(simp only [List.length_drop];omega))<|Z ?_
    refine Dr 7 C (Az (α:=Int) (xs:=List.drop k ys) Aa ef C C (Fq A7 om<|by rw [List.length_drop];omega) om<|by first|omega|(simp only [List.length_drop];omega))<|Dr 8 C (Bj (xs:=List.drop k ys) ef C (Fq A7 om<|by rw [List.length_drop];omega) om<|by first|omega|(simp only [List.length_drop];omega))<|Z ?_
    refine Ap C (λaa=>Z ?_)<|λaa=>Z ?_
    ·refine Gr (Az (α:=Int) (xs:=List.drop k ys) Aa ef C C (Fq A7 om<|by rw [List.length_drop];omega) om<|by first|omega|(simp only [List.length_drop];omega)) (Gr (Bj (xs:=List.drop k ys) ef C (Fq A7 om<|by rw [List.length_drop];omega) om<|by first|omega|(simp only [List.length_drop];omega))<|Gr (Az (α:=Int) (xs:=ys) Aa ef C C A7 om<|by first|omega|(simp only [List.length_drop];omega))<|Ge0 (Ci (α:=Int) (xs:=ys) (e:=3) (new:=e_ (List.drop k ys) q) ef C C C om (by first|omega|(simp only [List.length_drop];omega)) am)<|Z ?_)
     have ab:e_ (List.drop k ys) q=e_ ys ((k+q:Nat):Int):=by rw [at_dropG _ _ _ om];congr 1
     have aj:e_ (List.drop k ys) ((q:Int) - 1)=e_ ys (((k+q:Nat):Int) - 1):=by rw [at_dropG _ _ _ om];congr 1;omega
     have an:List.set ys ((m:Int)).toNat (e_ (List.drop k ys) q)=ys.set m (e_ ys ((k+q:Nat):Int)):=by rw [←ab];rfl
     rw [an]
     rw [ab,aj] at aa
     exact B5 ((m+1),(q+1),(ys.set m<|e_ ys ((k+q:Nat):Int))) (by dsimp only;exact ⟨om,(by rw [List.length_set];exact ak),om,(by rw [show k+(q+1)=k+q+1 by omega];exact compG_put ae om aa ao ai),(λj hj=>by rw [at_setn _ _ _ _ om,if_neg om];exact M j om)⟩) (hlt:=by (try dsimp only);exact (by simp only [List.length_drop] at *; omega))
    have ab:e_ (List.drop k ys) q=e_ ys ((k+q:Nat):Int):=by rw [at_dropG _ _ _ om];congr 1
    have aj:e_ (List.drop k ys) ((q:Int) - 1)=e_ ys (((k+q:Nat):Int) - 1):=by rw [at_dropG _ _ _ om];congr 1;omega
    rw [ab,aj] at aa
    exact B5 ((m),(q+1),(ys)) (by dsimp only;exact ⟨om,om,om,(by rw [show k+(q+1)=k+q+1 by omega];exact compG_keep ae om aa ao ai),(λj hj=>M j om)⟩) (hlt:=by (try dsimp only);exact (by simp only [List.length_drop] at *; omega))
   refine Gr (Eb (α:=Int) (xs:=ys) (l:=m) Aa ef C C om A7 om)<|Ge0 (Eff.clear (α:=Int) (k:=m) (xs:=ys) Aa ef (AllOne.cons C AllOne.nil) C C om am)<|Z ?_
   refine Gr (Runs.hiraw (h:=m) Aa ef C C om om)<|Z ?_
   have hc:ys.take m=compG xs xs.length:=by rw [ae];congr 1;omega
   have aq:(compG xs xs.length).length=m:=by rw [←hc,List.length_take,ak,Nat.min_eq_left om]
   exact Ai C C (vc 3 (.slice a (compG xs xs.length).length c) (compG xs xs.length)::I) (by rw [←hc];exact Aj) ⟨by rw [aq],rfl⟩
  exact B5 ((k+1)) ⟨om,(all_succ ad<|λ_=>ah)⟩
 have hc:compG xs xs.length=xs:=(compG_take (λj h1 h2=>ad j om h2)<|Nat.le_refl _).trans (List.take_length)
 exact Ai C C (vc 3 (.slice a (compG xs xs.length).length c) (compG xs xs.length)::I) (by rw [hc];exact Aj) ⟨by rw [hc],rfl⟩
theorem CloneI(hl:Sl κ I (.slice a xs.length c) xs)(hb:xs.length<=1000000000):eu prog κ 251 [.slice a xs.length c] I (λr J=>∃a' c',r = .slice a' xs.length c'/\J=vc 3 (.slice a' xs.length c') xs::I):=by
 refine Bu (p:=a.isNone=true->xs=[]/\c=0) (λw hs hn=>hl.isNone w hs hn) λM=>?_
 refine Ce1 Tryz.func251 C C<|Z ?_
 refine Gr (Runs.eqnil Aa C C)<|As<|D8 C (λc4=>Z ?_)<|λc4=>Z ?_
 ·obtain ⟨ad,_⟩:=M c4
  subst ad
  exact Ai C C (vc 3 (.slice none ([]:List Int).length 0) ([]:List Int)::I) (Bw _ _) ⟨none,0,rfl,rfl⟩
 refine Ge1 (Eff.bs0 (α:=Int) Aa ef C) λae=>?_
 refine Gm C<|Ge2 (B4 (e:=3) (ys:=xs) Aa ef C C C mm (Au hl) (by simp only [List.length_nil];omega) dc C<|λ_ _=>am) λab aa=>?_
 exact Ga C<|As<|Bf<|Ai C C (vc 3 (.slice ab xs.length aa) xs::I) Aj ⟨ab,aa,rfl,rfl⟩
theorem eqt95:EqT prog 95 Pt:=EqT.flat (λp:Pt=>[p.u,p.v]) (λ_=>rfl) (λx y h=>by cases x;cases y;simpa using h) (n:=2) (λ_=>rfl) kr kr kr kr kr
theorem BSearchE{κ:Ctx}{I:List Item}{xs:List Pt}(hl:Sl κ I v xs)(x:Pt){g:FuncId}{M:List Value}{cf:Pt->Pt->Int}(aa:Cmps prog κ I g M cf)(an:xs.length<=1000000000000):eu prog κ 230 [v,.agg #[e7 (x.u),e7 (x.v)],.func (.func g) #[] M.toArray] I (λr J=>∃i b,r = .tuple #[e7 ((i:Nat):Int),.bool b]/\BFound cf xs x i b/\I=J):=by
 refine Bu hl.le λak=>?_
 refine Ce3 Tryz.func230 C C ?_
 refine Ar<|Ge1 (Al (cs:=[_,_]) C C C) λb1=>Z ?_
 refine D7 (σ:=Nat×Nat) (λs=>[(9,e7 ((s.1:Nat):Int)),(10,e7 ((s.2:Nat):Int))]) (λ_=>[]) (λs=>(s.1<=s.2)/\(s.2<=xs.length)/\(0<s.1->cf (e_ xs<|(s.1:Int) - 1) x<0)/\(s.2<xs.length->¬cf (e_ xs s.2) x<0)) (λs=>s.2 - s.1) (0,xs.length) (show ((0:Nat)<=(xs.length:Nat))/\((xs.length:Nat)<=xs.length)/\(0<(0:Nat)->cf (e_ xs<|((0:Nat):Int) - 1) x<0)/\((xs.length:Nat)<xs.length->¬cf (e_ xs ((xs.length:Nat):Int)) x<0) from ⟨om,om,(λh=>absurd h dc),(λh=>absurd h om)⟩) ?_
 rintro ⟨i,j⟩ hp
 dsimp only at hp ⊢
 obtain ⟨ao,hj,ae,ah⟩:=hp
 refine Z ?_
 refine Ap C (λai=>Z ?_)<|λai=>Z ?_
 ·refine Gr (F0 Bd Ej C om) (Gr (Runs.shr1 C C)<|Gr (Runs.convI Ej Bd C<|by unfold InR;omega)<|Z ?_)
  refine A4 mixed<|Cr 8<|Z ?_
  refine Ds1 6<|Se C (Cu aa.1 (first:=[]) (caps:=M) C C C<|aa.2 (e_ xs<|((i:Int)+(j:Int)) / 2) x _ Ah) ?_
  rintro _ _ ⟨_,_,⟨rfl,rfl⟩,rfl,rfl⟩
  refine ⟨Aj,?_⟩
  refine Z ?_
  refine Ap C (λab=>Z ?_)<|λab=>Z ?_
  ·exact B5 (((i+j) / 2+1),(j))<|by dsimp only;exact ⟨om,om,(λ_=>by rw [show (((i+j) / 2+1:Nat):Int) - 1=((i:Int)+(j:Int)) / 2 by omega];exact ab),ah⟩
  exact B5 ((i),((i+j) / 2))<|by dsimp only;exact ⟨om,om,ae,(λ_=>by rw [show (((i+j) / 2:Nat):Int)=((i:Int)+(j:Int)) / 2 by omega];exact ab)⟩
 refine A4 mixed<|Cr 16<|Z ?_
 refine Du (d:=39) C (λaj=>Z ?_)<|λaj=>?_
 ·refine Ds1 11 (Se C (Cu aa.1 (first:=[]) (caps:=M) C C C<|aa.2 (e_ xs i) x _ Ah) ?_)
  rintro _ _ ⟨_,_,⟨rfl,rfl⟩,rfl,rfl⟩
  refine ⟨Aj,?_⟩
  refine Z ?_
  have ad:i=j:=by omega
  subst ad
  exact Cy C C C I Ah ⟨i,_,rfl,⟨hj,ae,ah,(decide_eq_decide.2 ⟨λh=>⟨by omega,h⟩,λh=>h.2⟩)⟩,rfl⟩
 refine Dpo 5 C<|Z ?_
 have ad:i=j:=by omega
 subst ad
 exact Cy C C C I Ah ⟨i,_,rfl,⟨hj,ae,ah,((decide_eq_false<|λh=>by omega).symm)⟩,rfl⟩
variable {κ:Ctx}{I:List Item}
theorem CheckGen_ok(hl:Sl κ I v es):eu prog κ 51 [.agg #[e7 nd,v]] I (λr J=>r=e7 (checkG nd es)/\I=J):=by
 refine Bu hl.le λai=>?_
 refine Ce1 Tryz.func51 C C ?_
 refine Ar<|Ge1 (Al (cs:=[_,_]) C C C) λb1=>Z ?_
 refine A6 (d:=8) C (λg8=>Z ?_)<|λg8=>Z ?_
 ·exact Ai C C I Ah ⟨by rw [show checkG nd es=1 from (by unfold checkG;rw [if_pos om])],rfl⟩
 refine Ap C (λc12=>Z ?_)<|λc12=>Z ?_
 ·exact Ai C C I Ah ⟨by rw [show checkG nd es=1 from (by unfold checkG;rw [if_pos om])],rfl⟩
 refine D7 (σ:=Nat) (λs=>[(16,e7 ((s:Nat):Int))]) (λ_=>[]) (λs=>(s<=es.length)/\(checkG nd es=scanL (badE nd) Pt.lt (prevAt es s) (es.drop s))) (λs=>es.length - s) 0 ⟨om,(by unfold checkG;rw [if_neg om];rfl)⟩ ?_
 rintro k hp
 obtain ⟨hk,hs⟩:=hp
 refine Z ?_
 refine Ap C (λab=>Z ?_)<|λab=>Z ?_
 ·refine Ge1 (Am ty95 C) λb2=>Ga C (Ge0 (Cf ty95)<|Z ?_)
  refine A6 (d:=25) C (λae=>Z ?_)<|λae=>Z ?_
  ·exact Ai C C I Ah ⟨by rw [show checkG nd es=6 from (hs.trans<|(Eq om<|by unfold badE;rw [if_pos om];decide).trans (by unfold badE;rw [if_pos om]))],rfl⟩
  refine A6 (d:=32) C (λad=>Z ?_)<|λad=>Z ?_
  ·exact Ai C C I Ah ⟨by rw [show checkG nd es=6 from (hs.trans<|(Eq om<|by unfold badE;rw [if_pos om];decide).trans (by unfold badE;rw [if_pos om]))],rfl⟩
  refine Ap C (λM=>Z ?_)<|λM=>?_
  ·exact Ai C C I Ah ⟨by rw [show checkG nd es=6 from (hs.trans<|(Eq om<|by unfold badE;rw [if_pos om];decide).trans (by unfold badE;rw [if_pos om]))],rfl⟩
  refine A5<|A4 mixed<|Cr 14<|Z ?_
  refine Du (d:=42) C (λaa=>Z ?_)<|λaa=>?_
  ·refine Ds1 10 (Se C (Ac c_ C C<|Order_ok (e_ es<|(k:Int) - 1)<|e_ es k) ?_)
   rintro _ _ ⟨_,_,⟨rfl,rfl⟩,rfl,rfl⟩
   refine ⟨Ah,?_⟩
   refine Z ?_
   refine Ap C (λah=>Z ?_)<|λah=>Z ?_
   ·exact Ai C C I Ah ⟨by rw [show checkG nd es=5 from (hs.trans<|scanL_order om (badE_zero.2 om) om (λh=>by have:=(Pt.cmp_lt _ _).2 h;omega))],rfl⟩
   exact B5 ((k+1)) ⟨om,(hs.trans<|scanL_step om (badE_zero.2 om)<|λh0=>by first|omega|exact (Pt.cmp_lt _ _).1 om)⟩
  refine Dpo 3 C<|Z ?_
  exact B5 ((k+1)) ⟨om,(hs.trans<|scanL_step om (badE_zero.2 om)<|λh0=>by first|omega|exact (Pt.cmp_lt _ _).1 om)⟩
 exact Ai C C I Ah ⟨by rw [show checkG nd es=0 from (hs.trans<|scanL_end om)],rfl⟩
theorem EdgeG_ok(u v:Int):eu prog κ 229 [e7 u,e7 v] I (λr J=>r = .agg #[e7 (edgeP u v).u,e7 (edgeP u v).v]/\I=J):=by
 refine Ce2 Tryz.func229 C C ?_
 refine Ar<|Ge1 (Am ty95 C) λb1=>Z ?_
 refine Ge0 (Cf ty95) ?_
 exact As<|Bf<|B0 C ty95 C mm C I Ah ⟨rfl,rfl⟩
theorem Order_cmps:Cmps prog κ I 101 [] Pt.cmp:=⟨c_,λx y J M=>Order_ok x y⟩
theorem Place_ok{va:Value}(hl:Sl κ I va es)(u v:Int)(hb:es.length<=1000000000):eu prog κ 189 [.agg #[e7 nd,va],e7 u,e7 v] I (λr J=>∃i q,r = .tuple #[e7 ((i:Nat):Int),.bool (decide (i<es.length/\e_ es ((i:Nat):Int)=(edgeP u v)))]/\BFound Pt.cmp es (edgeP u v) i q/\I=J):=by
 refine Bu hl.le λad=>?_
 refine Ce3 Tryz.func189 C C ?_
 refine Ar<|Ge1 (Al (cs:=[_,_]) C C C) λb1=>Z ?_
 refine Gc0 (Ac c_ C C<|EdgeG_ok u v) ?_
 refine Ge1 (Am ty95 C) λb2=>Ge0 (Cf ty95)<|Z ?_
 refine G.e (Ac c_ C C<|BSearchE (Au hl) (edgeP u v) Order_cmps om) ?_
 rintro _ _ ⟨_,_,⟨M,q4,rfl,aa,rfl⟩,rfl,rfl⟩
 refine Z ?_
 refine A4 mixed<|Cr 17<|Z ?_
 refine Du (d:=27) C (λab=>Z ?_)<|λab=>?_
 ·refine Dro 13 C (Runs.eqlT (α:=Pt) (a:=(e_ es M)) (b:=(edgeP u v)) eqt95 C C) (Z ?_)
  exact Cy C C C I Ah ⟨M,q4,congrArg (λb_=>Value.tuple #[e7 (M:Int),.bool b_])<|decide_eq_decide.2 ⟨λh=>⟨by omega,h⟩,λh=>h.2⟩,aa,rfl⟩
 refine Dpo 7 C<|Z ?_
 exact Cy C C C I Ah ⟨M,q4,congrArg (λb_=>Value.tuple #[e7 (M:Int),.bool b_]) (decide_eq_false<|λh=>by omega).symm,aa,rfl⟩
end Go.Sl
namespace Go.Sl
open Go.Proofs
set_option maxRecDepth 4000
end Go.Sl
namespace Go.Sl
open Go.Proofs
set_option maxRecDepth 4000
variable{l set:List Int}{nd v:Int}{i:Nat}{es:List Pt}{va vb:Value}
variable {κ:Ctx}{I:List Item}
attribute [local irreducible] W G V D A Runs Eff
def bitB(v:Int):BitVec 64:=if v<0\/64<=v then 0#64 else 1#64 <<< v.toNat
def maskB(l:List Int):BitVec 64:=l.foldl (λm v=>m ||| bitB v) 0#64
def allB(n:Int):BitVec 64:=if n<=0 then 0#64 else if 64<=n then 18446744073709551615#64 else (1#64 <<< n.toNat) - 1#64
theorem maskB_take{k:Nat}(h:k<l.length):maskB (l.take (k+1))=maskB (l.take k) ||| bitB (e_ l k):=by
 unfold maskB;rw [Ct l k h,List.foldl_append];rfl
def ones1(m:BitVec 64):BitVec 64:=((m >>> (1:Int).toNat) &&& 6148914691236517205#64)+(m &&& 6148914691236517205#64)
def ones2(m:BitVec 64):BitVec 64:=((m >>> (2:Int).toNat) &&& 3689348814741910323#64)+(m &&& 3689348814741910323#64)
def ones3(m:BitVec 64):BitVec 64:=((m >>> (4:Int).toNat)+m) &&& 1085102592571150095#64
def ones4(m:BitVec 64):BitVec 64:=m+(m >>> (8:Int).toNat)
def ones5(m:BitVec 64):BitVec 64:=m+(m >>> (16:Int).toNat)
def ones6(m:BitVec 64):BitVec 64:=m+(m >>> (32:Int).toNat)
def onesB(m:BitVec 64):Int:=((ones6 (ones5 (ones4 (ones3 (ones2 (ones1 m)))))).toNat:Int) % 128
theorem ones_small(m:BitVec 64):(ones6 (ones5 (ones4 (ones3 m)))).toNat<9223372036854775808:=by
 have M:(ones3 m).toNat<=1085102592571150095:=by unfold ones3;rw [BitVec.toNat_and];exact Nat.and_le_right
 generalize ones3 m=a at M
 have h4:(ones4 a).toNat<=a.toNat+a.toNat / 256:=by
  unfold ones4;rw [BitVec.toNat_add,BitVec.toNat_ushiftRight,Nat.shiftRight_eq_div_pow,show 2 ^ (8:Int).toNat=256 by decide];exact Nat.mod_le _ _
 generalize ones4 a=b at h4
 have h5:(ones5 b).toNat<=b.toNat+b.toNat / 65536:=by
  unfold ones5;rw [BitVec.toNat_add,BitVec.toNat_ushiftRight,Nat.shiftRight_eq_div_pow,show 2 ^ (16:Int).toNat=65536 by decide];exact Nat.mod_le _ _
 generalize ones5 b=c at h5
 have h6:(ones6 c).toNat<=c.toNat+c.toNat / 4294967296:=by
  unfold ones6;rw [BitVec.toNat_add,BitVec.toNat_ushiftRight,Nat.shiftRight_eq_div_pow,show 2 ^ (32:Int).toNat=4294967296 by decide];exact Nat.mod_le _ _
 omega
theorem Bit_ok(v:Int):eu prog κ 192 [e7 v] I (λr J=>r=U64 (bitB v)/\I=J):=by
 refine Ce1 Tryz.func192 C C<|Z ?_
 refine A6 (d:=5) C (λM=>Z ?_)<|λM=>Z ?_
 ·exact Ai C C I Ah ⟨by unfold bitB;rw [if_pos om];rfl,rfl⟩
 refine Ap C (λc8=>Z ?_)<|λc8=>Z ?_
 ·exact Ai C C I Ah ⟨by unfold bitB;rw [if_pos om];rfl,rfl⟩
 exact Gr (Es (a:=1#64) C C om om)<|Ga C<|As<|Bf<|Ai C C I Ah ⟨by unfold bitB;rw [if_neg om],rfl⟩
theorem MaskOf_ok{v:Value}(hl:Sl κ I v l):eu prog κ 121 [v] I (λr J=>r=U64 (maskB l)/\I=J):=by
 refine Bu hl.le λaa=>?_
 refine Ce1 Tryz.func121 C C<|Z ?_
 refine D7 (σ:=Nat×(BitVec 64)) (λs=>[(3,U64<|s.2),(8,e7 ((s.1:Nat):Int))]) (λ_=>[]) (λs=>(s.1<=l.length)/\(s.2=maskB (l.take s.1))) (λs=>l.length - s.1) (0,0#64) ⟨om,rfl⟩ ?_
 rintro ⟨k,m⟩ hp
 dsimp only at hp ⊢
 obtain ⟨hk,M⟩:=hp
 refine Z ?_
 refine Ap C (λc9=>Z ?_)<|λc9=>Z ?_
 ·refine G.e (Ac c_ C C<|Bit_ok<|e_ l k) ?_
  rintro _ _ ⟨_,_,⟨rfl,rfl⟩,rfl,rfl⟩
  refine Gr (Ey (a:=m) (b:=bitB (e_ l k)) C C)<|Z ?_
  exact B5 ((k+1),(m ||| (bitB<|e_ l k)))<|by dsimp only;exact ⟨om,(by rw [maskB_take om,←M])⟩
 rw [List.take_of_length_le om] at M
 exact Ai C C I Ah ⟨by rw [M],rfl⟩
theorem MaskAll_ok(n:Int):eu prog κ 122 [e7 n] I (λr J=>r=U64 (allB n)/\I=J):=by
 refine Ce1 Tryz.func122 C C<|Z ?_
 refine Ap C (λc3=>Z ?_)<|λc3=>Z ?_
 ·exact Ai C C I Ah ⟨by unfold allB;rw [if_pos om];rfl,rfl⟩
 refine Ap C (λM=>Z ?_)<|λM=>Z ?_
 ·exact Ai C C I Ah ⟨by unfold allB;rw [if_neg om,if_pos om];rfl,rfl⟩
 exact Gr (Es (a:=1#64) C C om om)<|Gr (Runs.subB (a:=(1#64) <<< (n).toNat) (b:=1#64) C C)<|Ga C<|As<|Bf<|Ai C C I Ah ⟨by unfold allB;rw [if_neg om,if_neg om],rfl⟩
theorem OnesCount_ok(m:BitVec 64):eu prog κ 191 [U64 m] I (λr J=>r=e7 (onesB m)/\I=J):=by
 refine Ce1 Tryz.func191 C C<|Z ?_
 refine Gr (Fs (a:=m) C C om om)<|Gr (Cz (a:=m >>> (1:Int).toNat) (b:=6148914691236517205#64) C C)<|Gm C<|Gr (Cz (a:=m) (b:=6148914691236517205#64) C C)<|Gr (Runs.addB (a:=(m >>> (1:Int).toNat) &&& (6148914691236517205#64)) (b:=m &&& (6148914691236517205#64)) C C)<|Z ?_
 generalize hm1:((m >>> (1:Int).toNat) &&& (6148914691236517205#64))+(m &&& (6148914691236517205#64))=m1
 refine Z ?_
 refine Gr (Fs (a:=m1) C C om om)<|Gr (Cz (a:=m1 >>> (2:Int).toNat) (b:=3689348814741910323#64) C C)<|Gm C<|Gr (Cz (a:=m1) (b:=3689348814741910323#64) C C)<|Gr (Runs.addB (a:=(m1 >>> (2:Int).toNat) &&& (3689348814741910323#64)) (b:=m1 &&& (3689348814741910323#64)) C C)<|Z ?_
 generalize hm2:((m1 >>> (2:Int).toNat) &&& (3689348814741910323#64))+(m1 &&& (3689348814741910323#64))=m2
 refine Z ?_
 refine Gr (Fs (a:=m2) C C om om)<|Gm C<|Gr (Runs.addB (a:=m2 >>> (4:Int).toNat) (b:=m2) C C)<|Gr (Cz (a:=(m2 >>> (4:Int).toNat)+m2) (b:=1085102592571150095#64) C C)<|Z ?_
 generalize hm3:((m2 >>> (4:Int).toNat)+m2) &&& (1085102592571150095#64)=m3
 refine Z ?_
 refine Gr (Fs (a:=m3) C C om om)<|Gr (Runs.addB (a:=m3) (b:=m3 >>> (8:Int).toNat) C C)<|Z ?_
 generalize hm4:m3+(m3 >>> (8:Int).toNat)=m4
 refine Z ?_
 refine Gr (Fs (a:=m4) C C om om)<|Gr (Runs.addB (a:=m4) (b:=m4 >>> (16:Int).toNat) C C)<|Z ?_
 generalize hm5:m4+(m4 >>> (16:Int).toNat)=m5
 refine Z ?_
 refine Gr (Fs (a:=m5) C C om om)<|Gr (Runs.addB (a:=m5) (b:=m5 >>> (32:Int).toNat) C C)<|Z ?_
 generalize hm6:m5+(m5 >>> (32:Int).toNat)=m6
 refine Z ?_
 exact Gr (Runs.toI D4 Bd C<|by subst hm6 hm5 hm4 hm3;exact ones_small _)<|Gr (Runs.and127 C C om)<|Ga C<|As<|Bf<|Ai C C I Ah ⟨by subst hm6 hm5 hm4 hm3 hm2 hm1;rfl,rfl⟩
theorem MCount_ok(m:BitVec 64):eu prog κ 120 [U64 m] I (λr J=>r=e7 (onesB m)/\I=J):=by
 refine Ce1 Tryz.func120 C C<|Z ?_
 refine Gc0 (Ac c_ C C<|OnesCount_ok m) ?_
 exact Ga C<|As<|Bf<|Ai C C I Ah ⟨rfl,rfl⟩
variable {κ:Ctx}{I:List Item}
theorem bitB_two(h0:0<=v)(M:v<64):bitB v=BitVec.twoPow 64 v.toNat:=by
 unfold bitB;rw [if_neg om];rfl
theorem getLsb_bitB(hi:i<64):(bitB v).getLsbD i=decide (v=(i:Int)):=by
 by_cases h:0<=v/\v<64
 ·rw [bitB_two h.1 h.2,BitVec.getLsbD_twoPow]
  have e:(v.toNat=i)↔(v=(i:Int)):=by omega
  simp [hi,h,e]
 unfold bitB
 rw [if_pos om]
 have:¬v=(i:Int):=by omega
 simp [this]
theorem getLsb_maskB(hi:i<64):∀(l:List Int) (m:BitVec 64),(l.foldl (λm v=>m ||| bitB v) m).getLsbD i=(m.getLsbD i||decide ((i:Int)∈l))
 |[],m=>by simp
 |v::l,m=>by
  rw [List.foldl_cons,getLsb_maskB hi l,BitVec.getLsbD_or,getLsb_bitB hi]
  by_cases h1:v=(i:Int)
  ·simp [h1]
  have:¬(i:Int)=v:=λe=>h1 e.symm
  simp [h1,this]
theorem mem_maskB(h0:0<=v)(h1:v<64):(maskB l &&& bitB v≠0#64)↔v∈l:=by
 have M:(maskB l).getLsbD v.toNat=decide (v∈l):=by
  unfold maskB;rw [getLsb_maskB om,show ((v.toNat:Nat):Int)=v by omega];simp
 rw [bitB_two h0 h1,BitVec.and_twoPow,M]
 by_cases h:v∈l
 ·simp only [h,decide_true,if_true,iff_true]
  intro e
  have:=congrArg (λb=>BitVec.getLsbD b v.toNat) e
  simp only [BitVec.getLsbD_twoPow] at this
  simp at this
  omega
 simp [h]
def inE(set:List Int)(e:Pt):Bool:=decide ((maskB set &&& bitB e.u≠0#64)/\(maskB set &&& bitB e.v≠0#64))
def insideL(set:List Int)(es:List Pt):List Pt:=es.filter (inE set)
theorem inE_eq(h:GrOk nd es){e:Pt}(M:e∈es):inE set e=decide (e.u∈set/\e.v∈set):=by
 have:=h.edge e M;have:=h.rng
 unfold inE
 rw [decide_eq_decide,mem_maskB om om,mem_maskB om om]
theorem insideL_eq(set:List Int)(h:GrOk nd es):insideL set es=es.filter λe=>decide (e.u∈set/\e.v∈set):=
 List.filter_congr λe M=>inE_eq h M
def insideN(nd:Int)(es:List Pt)(set:List Int):Nat:=if checkG nd es≠0 then 0 else (insideL set es).length
theorem insideN_le(nd:Int)(es:List Pt)(set:List Int):insideN nd es set<=es.length:=by
 unfold insideN;split
 ·exact Nat.zero_le _
 exact List.length_filter_le _ _
theorem WithinG_ok(hl:Sl κ I va es)(hs:Sl κ I vb set)(hb:es.length<=1000000):eu prog κ 196 [.agg #[e7 nd,va],vb] I (λr J=>∃a c,r = .slice a (insideL set es).length c/\J=vc 95 (.slice a (insideL set es).length c) (insideL set es)::I):=by
 refine Bu hl.le λaj=>?_
 refine Ce2 Tryz.func196 C C ?_
 refine Ar<|Ge1 (Al (cs:=[_,_]) C C C) λb1=>Z ?_
 refine Gc0 (Ac c_ C C<|MaskOf_ok<|Au hs)<|Z ?_
 refine D7 (σ:=Nat×(Option Addr)×Nat×(List Pt)) (λs=>[(6,.slice s.2.1 s.2.2.2.length s.2.2.1),(14,e7 ((s.1:Nat):Int))]) (λs=>[vc 95 (.slice s.2.1 s.2.2.2.length s.2.2.1) (s.2.2.2)]) (λs=>(s.1<=es.length)/\(s.2.2.2=(es.take s.1).filter (inE set))) (λs=>es.length - s.1) (0,none,0,[]) ⟨om,rfl⟩ (hI:=(Bw _ _)) ?_
 rintro ⟨k,a,c,out⟩ hp
 dsimp only at hp ⊢
 obtain ⟨hk,ho⟩:=hp
 have an:out.length<=es.length:=by rw [ho];refine Nat.le_trans (List.length_filter_le _ _) ?_;simp only [List.length_take];omega
 refine Z ?_
 refine Ap C (λae=>Z ?_)<|λae=>Z ?_
 ·refine Ge1 (Am ty95 C) λb2=>Ge0 (Cf ty95) (Z ?_)
  refine G.e (Ac c_ C C<|Bit_ok<|(e_ es k).u) ?_
  rintro _ _ ⟨_,_,⟨rfl,rfl⟩,rfl,rfl⟩
  refine Gr (Cz (a:=maskB set) (b:=bitB ((e_ es k).u)) C C)<|Gr (Eo (a:=(maskB set) &&& (bitB<|(e_ es k).u)) (b:=0#64) C C)<|Gm C<|A6 (d:=24) C (λad=>Z ?_)<|λad=>Z ?_
  ·refine Dn (B7 C C C) (Ac c_ C C<|Bit_ok<|(e_ es k).v) ?_
   rintro _ _ ⟨_,_,⟨rfl,rfl⟩,rfl,rfl⟩
   refine e9 (Cz (a:=maskB set) (b:=bitB ((e_ es k).v)) C C)<|e9 (Eo (a:=(maskB set) &&& (bitB<|(e_ es k).v)) (b:=0#64) C C)<|Z ?_
   refine Ap C (λM=>Z ?_)<|λM=>Z ?_
   ·refine Ge1 (B9 (α:=Pt) (cs:=[_,_]) (xs:=[⟨(e_ es k).u,(e_ es k).v⟩]) Cp ty95 C C dc dc C C C C) λak=>?_
    refine Ge2 (B4 (α:=Pt) (e:=95) (xs:=out) (ys:=([⟨(e_ es k).u,(e_ es k).v⟩]:List Pt)) Cp ty95 C C C mm A7 lcn dc C<|λ_ _=>am) λah ai=>Z ?_
    exact B5 ((k+1),(ah),(ai),(out++([⟨(e_ es k).u,(e_ es k).v⟩]:List Pt)))<|by dsimp only;exact ⟨om,(by first|rw [flt_yes om (decide_eq_true ⟨by assumption,by assumption⟩),←ho]|rw [flt_no om (decide_eq_false<|λh=>by first|exact absurd h.1 asm|exact absurd h.2 asm),←ho])⟩
   exact B5 ((k+1),(a),(c),(out))<|by dsimp only;exact ⟨om,(by first|rw [flt_yes om (decide_eq_true ⟨by assumption,by assumption⟩),←ho]|rw [flt_no om (decide_eq_false<|λh=>by first|exact absurd h.1 asm|exact absurd h.2 asm),←ho])⟩
  exact B5 ((k+1),(a),(c),(out))<|by dsimp only;exact ⟨om,(by first|rw [flt_yes om (decide_eq_true ⟨by assumption,by assumption⟩),←ho]|rw [flt_no om (decide_eq_false<|λh=>by first|exact absurd h.1 asm|exact absurd h.2 asm),←ho])⟩
 have aa:es.take k=es:=List.take_of_length_le om
 rw [aa] at ho
 have ab:out=insideL set es:=ho
 subst ab
 exact Ai C C (vc 95 (.slice a (insideL set es).length c) (insideL set es)::I) Aj ⟨a,c,rfl,rfl⟩
theorem InsideG_ok(hl:Sl κ I va es)(hs:Sl κ I vb set)(hb:es.length<=1000000):eu prog κ 124 [.agg #[e7 nd,va],vb] I (λr J=>r=e7 ((insideN nd es set:Nat):Int)/\I=J):=by
 refine Ce2 Tryz.func124 C C ?_
 refine Ar<|Ge1 (Al (cs:=[_,_]) C C C) λb1=>Z ?_
 refine Gc0 (Ac c_ C C<|CheckGen_ok<|Au hl)<|Z ?_
 refine Ap C (λM=>Z ?_)<|λM=>Z ?_
 ·exact Ai C C I Ah ⟨by unfold insideN;rw [if_pos M];rfl,rfl⟩
 refine G.e (Ac c_ C C<|WithinG_ok (Au hl) (Au hs) om) ?_
 rintro _ _ ⟨_,_,⟨ab,aa,rfl,rfl⟩,rfl,rfl⟩
 refine Z ?_
 exact Ai C C I Ah ⟨by unfold insideN;rw [if_neg M],rfl⟩
end Go.Sl
