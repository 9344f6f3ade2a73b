/- A part of the proofs of statements of this seat: contracts of functions, and the plain laws that they lean on. No conditions. -/
import Derived.Test.YtfkcohmipjhfcaaGreatDoorW8
set_option linter.unusedVariables false
set_option linter.unusedSimpArgs false
set_option linter.unusedSectionVars false
open Go.Proofs.Tryz (prog)
namespace Go.Sl
open Go.Proofs
set_option maxRecDepth 4000
set_option maxHeartbeats 1000000 in
theorem AgeP_base{κ:Ctx}{I:List Item}{b:Nat}{nd wd mo T last:Int}{a0 o0:Option Addr}{c0 d0:Nat}{xs:List Lk}{out:List Ev}(hI0:SlI nd 2 wd last xs)(hw:checkW 2 wd mo=0)(hT:0<=last/\last<=T/\T<=1048576)(hsz:xs.length+out.length<=400000):eu prog κ 211 [.pointer (some ⟨b,0,none⟩),.agg #[e7 2,e7 wd,e7 mo],e7 T] (e8 b [e7 nd,.slice a0 xs.length c0,.slice o0 out.length d0] 241::vc 146 (.slice a0 xs.length c0) (xs)::vc 108 (.slice o0 out.length d0) (out)::I) (λr J=>∃y:Option Addr×Nat×Option Addr×Nat,(r = .tuple #[]/\SlI nd 2 wd T (ageL wd mo T xs out).1/\(ageL wd mo T xs out).1.length+(ageL wd mo T xs out).2.length=xs.length+out.length)/\J=e8 b [e7 nd,.slice y.1 ((ageL wd mo T xs out).1).length y.2.1,.slice y.2.2.1 ((ageL wd mo T xs out).2).length y.2.2.2] 241::vc 146 (.slice y.1 ((ageL wd mo T xs out).1).length y.2.1) ((ageL wd mo T xs out).1)::vc 108 (.slice y.2.2.1 ((ageL wd mo T xs out).2).length y.2.2.2) ((ageL wd mo T xs out).2)::I):=by
 refine Ce3 Tryz.func211 C C ?_
 refine Aj (Ge1 (Bg (cs:=[_,_,_]) C C C) λb1=>Ah (A6 (Ca (σ:=(Option Addr)×Nat×(Option Addr)×Nat×(List Lk)×(List Ev)) (λs=>([(0,.pointer (some ⟨b,0,none⟩)),(2,e7 T),(4,.pointer (some ⟨b1,0,none⟩))]:Env)) (λs=>e8 b [e7 nd,.slice s.1 s.2.2.2.2.1.length s.2.1,.slice s.2.2.1 s.2.2.2.2.2.length s.2.2.2.1] 241::vc 146 (.slice s.1 s.2.2.2.2.1.length s.2.1) (s.2.2.2.2.1)::vc 108 (.slice s.2.2.1 s.2.2.2.2.2.length s.2.2.2.1) (s.2.2.2.2.2)::e8 b1 [e7 2,e7 wd,e7 mo] 31::I) (λs=>((ageL wd mo T xs out)=ageL wd mo T s.2.2.2.2.1 s.2.2.2.2.2)/\(SlI nd 2 wd last s.2.2.2.2.1)/\(s.2.2.2.2.1.length+s.2.2.2.2.2.length=xs.length+out.length)) (λs=>s.2.2.2.2.1.length) (a0,c0,o0,d0,xs,out) ⟨rfl,hI0,rfl⟩ (Aa C (Aa C (Aa C Bq))) Bv ?_)))
 rintro ⟨a1,c1,o1,d1,ys,zs⟩ hp
 dsimp only at hp ⊢
 obtain ⟨hr,hI,hs⟩:=hp
 refine A6 (Au (Bt mixed (C7 12 (Dr 0 C (Af C) (Dr 1 C (Br C) (Dr 2 C (Ab fld241_0 C) (Dr 3 C (Be (vs:=[_,_]) ty111) ?_)))))))
 refine Dr 4 C (Ab fld31_1 C) (Dr 5 C (As ef) ?_)
 refine Ds1 6 (Se C (Am call252 C C (First_ok (nd:=nd) Bk (checkS_tm' hI.val) (checkW_wd hw))) ?_)
 rintro _ _ ⟨_,_,⟨zf2,rfl,hfzf2,rfl⟩,rfl,rfl⟩
 refine ⟨A5,?_⟩
 refine Dr 7 C (Af C) (Dr 8 C (Ax C C) (Dr 9 C (Ax C C) (Dr 10 C (Bb C) (Dr 11 C (Bb C) ?_))))
 have hzf:=hfzf2
 refine Dz (Ai (Av (S5 7 6 0 2 4 C C C C C) (Au (Aj (Gm C (Gr (D5 C) (Gm C (Bs (d:=20) C (λg20=>?_) (λg20=>?_)))))))))
 ·refine eb (eb (eb (Gr (Ap C C) (Ah (Do C (Az (Ar (A3 (Ar (A3 ?_))))))))))
  have hstop:¬(0<ys.length/\minT ys+wd<=T):=(λh=>by have hz:=minT_uniq (hzf.1 h.1);omega)
  have hE:(ageL wd mo T xs out)=(ys,zs):=hr.trans (ageL_stop hstop)
  exact V.ret0 C (e8 b [e7 nd,.slice a1 ((ageL wd mo T xs out).1).length c1,.slice o1 ((ageL wd mo T xs out).2).length d1] 241::vc 146 (.slice a1 ((ageL wd mo T xs out).1).length c1) ((ageL wd mo T xs out).1)::vc 108 (.slice o1 ((ageL wd mo T xs out).2).length d1) ((ageL wd mo T xs out).2)::I) (by rw [hE];exact A5) ⟨⟨a1,c1,o1,d1⟩,⟨rfl,by rw [hE];exact hI.later hT.2.1 (λ_=>hstop),by rw [hE];exact hs⟩,rfl⟩
 ·refine e9 (Af C) (e9 (Af C) (e9 (Ci C C) (Gr (Al C C) (Ah (Bd C (λc24=>?_) (λc24=>?_))))))
  ·refine Az (Ar (A3 (Ar (A3 ?_))))
   have hstop:¬(0<ys.length/\minT ys+wd<=T):=(λh=>by have hz:=minT_uniq (hzf.1 h.1);omega)
   have hE:(ageL wd mo T xs out)=(ys,zs):=hr.trans (ageL_stop hstop)
   exact V.ret0 C (e8 b [e7 nd,.slice a1 ((ageL wd mo T xs out).1).length c1,.slice o1 ((ageL wd mo T xs out).2).length d1] 241::vc 146 (.slice a1 ((ageL wd mo T xs out).1).length c1) ((ageL wd mo T xs out).1)::vc 108 (.slice o1 ((ageL wd mo T xs out).2).length d1) ((ageL wd mo T xs out).2)::I) (by rw [hE];exact A5) ⟨⟨a1,c1,o1,d1⟩,⟨rfl,by rw [hE];exact hI.later hT.2.1 (λ_=>hstop),by rw [hE];exact hs⟩,rfl⟩
  ·refine A4 (Ai (Bt mixed (C9 (e8 b1 [e7 2,e7 wd,e7 mo] 31::I) 9 (Dr 0 C (Af C) (Dr 1 C (Af C) (Dr 2 C (Br C) (Dr 3 C (Ab fld241_0 C) (Dr 5 C (Be (vs:=[_,_,_]) ty31) ?_))))))))
   refine Dr 6 C (Af C) (Ds1 4 (Sr C (Be (vs:=[_,_]) ty111) A5 ?_))
   refine Ds1 7 (Sc2 C (Am call213 C C (GoneP_ok (nd:=nd) Bk om (hI.ask hw (by have hzz:=hI.first C om;have hz:=minT_uniq (hzf.1 om);omega) (by have hzz:=hI.first C om;have hz:=minT_uniq (hzf.1 om);omega)))) λad3 cp4=>?_)
   refine Ds1 8 (Se C (Am call212 C C (C1 (J:=e8 b [e7 nd,.slice a1 ys.length c1,.slice o1 zs.length d1] 241::vc 146 (.slice a1 ys.length c1) (ys)::vc 108 (.slice o1 zs.length d1) (zs)::vc 108 (.slice ad3 (goneL 2 wd mo zf2 ys).length cp4) (goneL 2 wd mo zf2 ys)::e8 b1 [e7 2,e7 wd,e7 mo] 31::I) Bv (PutP_base (nd:=nd) (xs:=ys) (out:=zs) (es:=goneL 2 wd mo zf2 ys) Bk (hI.val) (fitgone hI.val (by have hzz:=hI.first C om;have hz:=minT_uniq (hzf.1 om);omega)) (by have h:=gone_len 2 wd mo zf2 ys;omega) (by have h:=gone_len 2 wd mo zf2 ys;omega)))) ?_)
   rintro _ _ ⟨_,_,⟨⟨ad5,cp6,ad7,cp8⟩,rfl,rfl⟩,rfl,rfl⟩
   refine ⟨A5,?_⟩
   refine Dz (Ak ?_)
   have hpos:0<ys.length:=by omega
   have hz:zf2=minT ys+wd:=minT_uniq (hzf.1 hpos)
   have hg:List.foldl ep ys (goneL 2 wd mo zf2 ys)=List.filter (inW 2 wd mo zf2 ys) ys:=gone_steps hI.val
   have hgl:=gone_len 2 wd mo zf2 ys
   have hal:(List.filter (inW 2 wd mo zf2 ys) ys).length<ys.length:=by rw [hz];exact age_less (wd:=wd) (mo:=mo) hpos
   exact Ch ((ad5),(cp6),(ad7),(cp8),(List.filter (inW 2 wd mo zf2 ys) ys),(zs++goneL 2 wd mo zf2 ys)) (by dsimp only;exact ⟨(by rw [hr,ageL_step ⟨hpos,by omega⟩,←hz]),(hI.filter _),(by rw [List.length_append];omega)⟩) (hlt:=by (try dsimp only);exact hal) (hI:=by (try dsimp only);exact (by rw [hg];exact A5))
variable {κ:Ctx}{I:List Item}
theorem AgeP_two{b:Nat}{nd kd wd mo T last:Int}{a0 o0:Option Addr}{c0 d0:Nat}{xs:List Lk}{out:List Ev}(hk:kd=2)(hI0:SlI nd kd wd last xs)(hw:checkW kd wd mo=0)(hT:0<=last/\last<=T/\T<=1048576)(hsz:xs.length+out.length<=400000):eu prog κ 211 [.pointer (some ⟨b,0,none⟩),.agg #[e7 kd,e7 wd,e7 mo],e7 T] (e8 b [e7 nd,.slice a0 xs.length c0,.slice o0 out.length d0] 241::vc 146 (.slice a0 xs.length c0) (xs)::vc 108 (.slice o0 out.length d0) (out)::I) (λr J=>∃y:Option Addr×Nat×Option Addr×Nat,(r = .tuple #[]/\SlI nd kd wd T (ageL wd mo T xs out).1/\(ageL wd mo T xs out).1.length+(ageL wd mo T xs out).2.length=xs.length+out.length)/\J=e8 b [e7 nd,.slice y.1 ((ageL wd mo T xs out).1).length y.2.1,.slice y.2.2.1 ((ageL wd mo T xs out).2).length y.2.2.2] 241::vc 146 (.slice y.1 ((ageL wd mo T xs out).1).length y.2.1) ((ageL wd mo T xs out).1)::vc 108 (.slice y.2.2.1 ((ageL wd mo T xs out).2).length y.2.2.2) ((ageL wd mo T xs out).2)::I):=by
 subst hk
 exact AgeP_base hI0 hw hT hsz
theorem evStep_three{kd wd mo:Int}{xs:List Lk}{out:List Ev}{e:Ev}{ys:List Lk}{zs:List Ev}(h:agedL kd wd mo e.tm (xs,out)=(ys,zs))(hk:kd=3):evStep kd wd mo (xs,out) e=((ep ys e).filter (inW kd wd mo e.tm (ep ys e)),zs++[e]++goneL kd wd mo e.tm (ep ys e)):=by
 unfold evStep windL;rw [h,if_pos hk]
theorem evStep_not{kd wd mo:Int}{xs:List Lk}{out:List Ev}{e:Ev}{ys:List Lk}{zs:List Ev}(h:agedL kd wd mo e.tm (xs,out)=(ys,zs))(hk:¬kd=3):evStep kd wd mo (xs,out) e=(ep ys e,zs++[e]):=by
 unfold evStep windL;rw [h,if_neg hk]
theorem checkW_one{kd wd mo:Int}(h:checkW kd wd mo=0)(hk:kd=2):1<=wd:=by
 unfold checkW at h
 split at h
 ·cases h
 ·split at h
  ·cases h
  ·omega
theorem lastT_ge{nd:Int}{es:List Ev}(h:StOk nd es){k:Nat}(hk:k<=es.length):0<=lastT es k:=by
 cases k with
 |zero=>exact Int.le_refl _
 |succ k=>rw [lastT_succ];exact (h.fit k om).tm.1
theorem slideE_st{nd kd wd mo:Int}{es:List Ev}(h1:¬checkW kd wd mo≠0):slideE nd kd wd mo es=streamE nd es:=by unfold slideE;rw [if_neg h1]
set_option maxHeartbeats 1000000 in
theorem Slide_ok{nd kd wd mo:Int}{va:Value}{es:List Ev}(hl:Sl κ I va es):eu prog κ 140 [e7 nd,va,.agg #[e7 kd,e7 wd,e7 mo]] I (λr J=>((slideE nd kd wd mo es)≠0/\r = .tuple #[.slice none 0 0,e7 (slideE nd kd wd mo es)]/\I=J)\/(∃a c,(slideE nd kd wd mo es)=0/\r = .tuple #[.slice a (slideS kd wd mo es).2.length c,e7 0]/\J=vc 108 (.slice a (slideS kd wd mo es).2.length c) (slideS kd wd mo es).2::I)):=by
 refine Cg hl.le λhmax=>?_
 refine Ce3 Tryz.func140 C C ?_
 refine Aj (Ge1 (Bg (cs:=[_,_,_]) C C C) λb1=>Ga C (Ga C (Ah (Au (Aj (Gl3 ty31 ?_))))))
 refine G.e (Am call78 C C (CheckW_ok kd wd mo)) ?_
 rintro _ _ ⟨_,_,⟨rfl,rfl⟩,rfl,rfl⟩
 refine Ga C (Ah (Aj (Gm C (Gr (Bx C C) (Ah (Bd C (λc16=>?_) (λc16=>?_)))))))
 ·refine Aj (Gm C (Ga C (Ga C (Ah (Av (S2 7 6 C C) (Az (Ar ?_)))))))
  have hz:(slideE nd kd wd mo es)=checkW kd wd mo:=by unfold slideE;rw [if_pos c16]
  exact C4 C C C I Ay (.inl ⟨by rw [hz];exact c16,by rw [hz],rfl⟩)
 ·refine A4 (Ai (Au (Aj (Gm C (Gm C (G.e (Am call139 C C (Stream_ok (nd:=nd) (Bj hl))) ?_))))))
  rintro _ _ ⟨_,_,⟨rfl,rfl⟩,rfl,rfl⟩
  refine Ga C (Ah (Av (S4 9 5 0 1 C C C C) (Aj (Gm C (Gr (Bx C C) (Ah (Bd C (λc22=>?_) (λc22=>?_))))))))
  ·refine Aj (Gm C (Ga C (Ga C (Ah (Az (Ar ?_))))))
   have hz:(slideE nd kd wd mo es)=streamE nd es:=slideE_st c16
   exact C4 C C C I Ay (.inl ⟨by rw [hz];exact c22,by rw [hz],rfl⟩)
  ·refine A4 (Ai (Aj (Gm C ?_)))
   have hE:=streamE_ok (Classical.not_not.1 c22)
   refine Gr (Bc (cells:=[_,_]) ty111 Tryz.underlying111 pl111 C C) (Gr (Bc (cells:=[_,_,_]) ty241 Tryz.underlying241 pl241 C C) (Ge1 (Bg (cs:=[_,_,_]) C C C) λb2=>Ga C (Ah (Au (Aj (Gm C (Gr (Cb (α:=Ev) (xs:=es) Bh C (Bj hl)) (Gm C (Ah (Av (S5 30 29 28 10 5 C C C C C) (A6 (Ca (σ:=Nat×(Option Addr)×Nat×(Option Addr)×Nat×(List Lk)×(List Ev)) (λs=>([(5,.pointer (some ⟨b1,0,none⟩)),(10,.pointer (some ⟨b2,0,none⟩)),(28,va),(29,e7 ((es.length:Nat):Int)),(30,e7 ((s.1:Nat):Int))]:Env)) (λs=>e8 b2 [e7 nd,.slice s.2.1 s.2.2.2.2.2.1.length s.2.2.1,.slice s.2.2.2.1 s.2.2.2.2.2.2.length s.2.2.2.2.1] 241::vc 146 (.slice s.2.1 s.2.2.2.2.2.1.length s.2.2.1) (s.2.2.2.2.2.1)::vc 108 (.slice s.2.2.2.1 s.2.2.2.2.2.2.length s.2.2.2.2.1) (s.2.2.2.2.2.2)::e8 b1 [e7 kd,e7 wd,e7 mo] 31::I) (λs=>(s.1<=es.length)/\(slideS kd wd mo (List.take s.1 es)=(s.2.2.2.2.2.1,s.2.2.2.2.2.2))/\(SlI nd kd wd (lastT es s.1) s.2.2.2.2.2.1)/\(s.2.2.2.2.2.1.length+s.2.2.2.2.2.2.length<=2*s.1)) (λs=>es.length - s.1) (0,none,0,none,0,[],[]) ⟨om,rfl,(SlI.nil hE.nodes),(by simp)⟩ (Aa C (Aa C (Aa C (Aa C (Aa Cr Bq))))) (A8 (B9 108 _) (A8 (B9 146 _) Bv)) ?_))))))))))))
   rintro ⟨k,a1,c1,o1,d1,xs,out⟩ hp
   dsimp only at hp ⊢
   obtain ⟨hk,hst,hI,hs⟩:=hp
   have hlen:=hE.len
   refine Aj (Gr (Bi C C) (Ah (Au (Bd C (λc31=>?_) (λc31=>?_)))))
   ·refine A4 (Ai (Au (A6 (Aj (Gr (A2 (α:=Ev) (xs:=es) Bh ty108 C C (Bj hl) om om) (Gr (B7 (α:=Ev) (xs:=es) ty108 C (Bj hl) om om) (Ge1 (A9 ty108 C) λb3=>Ge0 (Fl ty108) ?_)))))))
    have hfe:=hE.fit k om
    have hto:=hE.asc k om
    refine Ah (Fe (σ:=(Option Addr)×Nat×(Option Addr)×Nat×(List Lk)×(List Ev)) (λs=>([(5,.pointer (some ⟨b1,0,none⟩)),(10,.pointer (some ⟨b2,0,none⟩)),(12,.pointer (some ⟨b3,0,none⟩)),(28,va),(29,e7 ((es.length:Nat):Int)),(30,e7 ((k:Int)))]:Env)) (λs=>e8 b2 [e7 nd,.slice s.1 s.2.2.2.2.1.length s.2.1,.slice s.2.2.1 s.2.2.2.2.2.length s.2.2.2.1] 241::vc 146 (.slice s.1 s.2.2.2.2.1.length s.2.1) (s.2.2.2.2.1)::vc 108 (.slice s.2.2.1 s.2.2.2.2.2.length s.2.2.2.1) (s.2.2.2.2.2)::e8 b3 [e7 ((e_ es k).kd),e7 ((e_ es k).tm),e7 ((e_ es k).u),e7 ((e_ es k).v),e7 ((e_ es k).w),e7 ((e_ es k).lb),e7 ((e_ es k).sg)] 108::e8 b1 [e7 kd,e7 wd,e7 mo] 31::I) (λs=>((agedL kd wd mo (e_ es k).tm (xs,out))=(s.2.2.2.2.1,s.2.2.2.2.2))/\(SlI nd kd wd (e_ es k).tm s.2.2.2.2.1)/\(s.2.2.2.2.1.length+s.2.2.2.2.2.length=xs.length+out.length)) ?_ ?_)
    ·refine Aj (Gf fld31_0 C (Gl ef ?_))
     refine Gr (Bl C C) (Ah (Bd C (λc36=>?_) (λc36=>?_)))
     ·refine A0 (Gm C (Gl3 ty31 ?_))
      refine Gf fld108_1 C (Gl ef ?_)
      refine G.e (Am call211 C C (C1 (J:=e8 b2 [e7 nd,.slice a1 xs.length c1,.slice o1 out.length d1] 241::vc 146 (.slice a1 xs.length c1) (xs)::vc 108 (.slice o1 out.length d1) (out)::e8 b3 [e7 ((e_ es k).kd),e7 ((e_ es k).tm),e7 ((e_ es k).u),e7 ((e_ es k).v),e7 ((e_ es k).w),e7 ((e_ es k).lb),e7 ((e_ es k).sg)] 108::e8 b1 [e7 kd,e7 wd,e7 mo] 31::I) Bv (AgeP_two (nd:=nd) (T:=(e_ es k).tm) (xs:=xs) (out:=out) c36 hI (Classical.not_not.1 c16) ⟨lastT_ge hE om,hto,hfe.tm.2⟩ om))) ?_
      rintro _ _ ⟨_,_,⟨⟨ad4,cp5,ad6,cp7⟩,⟨rfl,hag⟩,rfl⟩,rfl,rfl⟩
      exact Bf (Cp ((ad4),(cp5),(ad6),(cp7),((ageL wd mo (e_ es k).tm xs out).1),((ageL wd mo (e_ es k).tm xs out).2)) (by dsimp only;exact ⟨(by unfold agedL;rw [if_pos c36]),hag.1,hag.2⟩))
     ·exact A4 (Cp ((a1),(c1),(o1),(d1),(xs),(out)) (by dsimp only;exact ⟨(by unfold agedL;rw [if_neg c36]),(hI.later hto (λh=>absurd h c36)),rfl⟩))
    ·rintro ⟨a2,c2,o2,d2,ys,zs⟩ hp
     obtain ⟨hag,hI2,hs2⟩:((agedL kd wd mo (e_ es k).tm (xs,out))=(ys,zs))/\(SlI nd kd wd (e_ es k).tm ys)/\(ys.length+zs.length=xs.length+out.length):=hp
     refine Aj (Gm C (Gl7 ty108 ?_))
     refine Ge1 (Cj (α:=Ev) (cs:=[e7 ((e_ es k).kd),e7 ((e_ es k).tm),e7 ((e_ es k).u),e7 ((e_ es k).v),e7 ((e_ es k).w),e7 ((e_ es k).lb),e7 ((e_ es k).sg)]) (xs:=[⟨(e_ es k).kd,(e_ es k).tm,(e_ es k).u,(e_ es k).v,(e_ es k).w,(e_ es k).lb,(e_ es k).sg⟩]) Bh ty108 C C dc dc C kr C C) λad8=>?_
     refine G.e (Am call212 C C (C1 (J:=e8 b2 [e7 nd,.slice a2 ys.length c2,.slice o2 zs.length d2] 241::vc 146 (.slice a2 ys.length c2) (ys)::vc 108 (.slice o2 zs.length d2) (zs)::vc 108 (.slice ad8 1 1) (([⟨(e_ es k).kd,(e_ es k).tm,(e_ es k).u,(e_ es k).v,(e_ es k).w,(e_ es k).lb,(e_ es k).sg⟩]:List Ev))::e8 b3 [e7 ((e_ es k).kd),e7 ((e_ es k).tm),e7 ((e_ es k).u),e7 ((e_ es k).v),e7 ((e_ es k).w),e7 ((e_ es k).lb),e7 ((e_ es k).sg)] 108::e8 b1 [e7 kd,e7 wd,e7 mo] 31::I) Bv (PutP_base (nd:=nd) (xs:=ys) (out:=zs) (es:=([⟨(e_ es k).kd,(e_ es k).tm,(e_ es k).u,(e_ es k).v,(e_ es k).w,(e_ es k).lb,(e_ es k).sg⟩]:List Ev)) Bk hI2.val (fitone hfe) (by have h:=stepL_len ys (e_ es k);have h9:=gone_len kd wd mo (e_ es k).tm (ep ys (e_ es k));first|(simp only [List.length_append,List.length_cons,List.length_nil];omega)|omega) (by have h:=stepL_len ys (e_ es k);have h9:=gone_len kd wd mo (e_ es k).tm (ep ys (e_ es k));first|(simp only [List.length_append,List.length_cons,List.length_nil];omega)|omega)))) ?_
     rintro _ _ ⟨_,_,⟨⟨ad9,cp10,ad11,cp12⟩,rfl,rfl⟩,rfl,rfl⟩
     refine Ah (Aj (Gf fld31_0 C (Gl ef ?_)))
     refine Gr (Bl C C) ?_
     have hI3:SlI nd kd wd (e_ es k).tm (ep ys (e_ es k)):=hI2.step hfe rfl (checkW_one (Classical.not_not.1 c16))
     refine Ah (Bd C (λc48=>?_) (λc48=>?_))
     ·refine Bt mixed (C9 (e8 b3 [e7 ((e_ es k).kd),e7 ((e_ es k).tm),e7 ((e_ es k).u),e7 ((e_ es k).v),e7 ((e_ es k).w),e7 ((e_ es k).lb),e7 ((e_ es k).sg)] 108::e8 b1 [e7 kd,e7 wd,e7 mo] 31::I) 10 (Dr 0 C (Af C) (Dr 1 C (Af C) (Dr 2 C (Br C) (Dr 3 C (Ab fld241_0 C) (Dr 5 C (Be (vs:=[_,_,_]) ty31) ?_))))))
      refine Dr 6 C (Ab fld108_1 C) (Dr 7 C (As ef) ?_)
      refine Ds1 4 (Sr C (Be (vs:=[_,_]) ty111) A5 ?_)
      refine Ds1 8 (Sc2 C (Am call213 C C (GoneP_ok (nd:=nd) Bk (by have h:=stepL_len ys (e_ es k);show (ep ys (e_ es k)).length<=1000000;omega) (hI3.ask (Classical.not_not.1 c16) hfe.tm (Int.le_refl _)))) λad13 cp14=>?_)
      refine Ds1 9 (Se C (Am call212 C C (C1 (J:=e8 b2 [e7 nd,.slice ad9 (ep ys (e_ es k)).length cp10,.slice ad11 (zs++[(e_ es k)]).length cp12] 241::vc 146 (.slice ad9 (ep ys (e_ es k)).length cp10) (ep ys (e_ es k))::vc 108 (.slice ad11 (zs++[(e_ es k)]).length cp12) (zs++[(e_ es k)])::vc 108 (.slice ad13 (goneL kd wd mo ((e_ es k).tm) (ep ys (e_ es k))).length cp14) (goneL kd wd mo ((e_ es k).tm) (ep ys (e_ es k)))::vc 108 (.slice ad8 1 1) (([⟨(e_ es k).kd,(e_ es k).tm,(e_ es k).u,(e_ es k).v,(e_ es k).w,(e_ es k).lb,(e_ es k).sg⟩]:List Ev))::e8 b3 [e7 ((e_ es k).kd),e7 ((e_ es k).tm),e7 ((e_ es k).u),e7 ((e_ es k).v),e7 ((e_ es k).w),e7 ((e_ es k).lb),e7 ((e_ es k).sg)] 108::e8 b1 [e7 kd,e7 wd,e7 mo] 31::I) Bv (PutP_base (nd:=nd) (xs:=ep ys (e_ es k)) (out:=zs++[(e_ es k)]) (es:=goneL kd wd mo ((e_ es k).tm) (ep ys (e_ es k))) Bk hI3.val (fitgone hI3.val hfe.tm) (by have h:=stepL_len ys (e_ es k);have h9:=gone_len kd wd mo (e_ es k).tm (ep ys (e_ es k));first|(simp only [List.length_append,List.length_cons,List.length_nil];omega)|omega) (by have h:=stepL_len ys (e_ es k);have h9:=gone_len kd wd mo (e_ es k).tm (ep ys (e_ es k));first|(simp only [List.length_append,List.length_cons,List.length_nil];omega)|omega)))) ?_)
      rintro _ _ ⟨_,_,⟨⟨ad15,cp16,ad17,cp18⟩,rfl,rfl⟩,rfl,rfl⟩
      refine ⟨A5,?_⟩
      refine Dz (Ak (Ai (Av (S5 5 10 28 29 30 C C C C C) (A0 (Gr (Rad C C) (Gm C (Bf ?_)))))))
      have hgs:=gone_steps (kd:=kd) (wd:=wd) (mo:=mo) (nw:=(e_ es k).tm) hI3.val
      have hgl:=gone_len kd wd mo (e_ es k).tm (ep ys (e_ es k))
      have hsl:=stepL_len ys (e_ es k)
      exact Ch ((k+1),(ad15),(cp16),(ad17),(cp18),(List.filter (inW kd wd mo (e_ es k).tm (ep ys (e_ es k))) (ep ys (e_ es k))),(zs++[(e_ es k)]++goneL kd wd mo (e_ es k).tm (ep ys (e_ es k)))) (by dsimp only;exact ⟨om,(by rw [slideS_succ om,hst];exact evStep_three hag c48),(by rw [lastT_succ];exact hI3.filter _),lap⟩) (hI:=by (try dsimp only);exact (by rw [←hgs];exact A5))
     ·refine A4 (Ak (Ai (A0 (Gr (Rad C C) (Gm C (Bf ?_))))))
      have hsl:=stepL_len ys (e_ es k)
      exact Ch ((k+1),(ad9),(cp10),(ad11),(cp12),((ep ys (e_ es k))),(zs++[(e_ es k)])) (by dsimp only;exact ⟨om,(by rw [slideS_succ om,hst];exact evStep_not hag c48),(by rw [lastT_succ];exact hI3),lap⟩)
   ·refine Bp (Ac (Ac (Aw (Ai (Aj (Gm C (Gr (Br C) (Gf fld241_1 C (Gl ty28 ?_)))))))))
    refine Ga C (Ga C (Ah (Az ?_)))
    have hE2:(slideS kd wd mo es)=(xs,out):=by rw [←hst,show List.take k es=es from List.take_of_length_le om]
    have hz:(slideE nd kd wd mo es)=0:=(slideE_st c16).trans (Classical.not_not.1 c22)
    exact C4 C C C (vc 108 (.slice o1 (slideS kd wd mo es).2.length d1) (slideS kd wd mo es).2::I) (by rw [hE2];exact A5) (.inr ⟨o1,d1,hz,by rw [hE2],rfl⟩)
end Go.Sl
namespace Go.Proofs
def Tryz.sortI_ren:Go.Shelf.Ren:=⟨fun |5=>142|8=>218|7=>217|19=>269|20=>270|10=>260|11=>261|12=>262|13=>263|14=>264|15=>265|16=>266|17=>267|18=>268|30=>304|31=>305|32=>306|33=>307|34=>308|35=>277|40=>326|n=>n,fun |23=>22|25=>3|3=>3|32=>181|22=>22|0=>0|44=>291|46=>175|4=>4|36=>285|35=>284|41=>273|5=>5|9=>9|53=>320|57=>324|63=>346|64=>259|n=>n,fun |n=>n⟩
theorem Tryz.sortI:Go.Proofs.SlLaysM.n5 prog Tryz.sortI_ren:={
 mixed:=by kernel_rfl,
 f5:=⟨Tryz.f142.name,by decide,Tryz.func142.trans (congrArg some (by kernel_rfl))⟩,
 f7:=⟨Tryz.f217.name,by decide,Tryz.func217.trans (congrArg some (by kernel_rfl))⟩,
 f8:=Tryz.func218.trans (congrArg some (by kernel_rfl)),
 f10:=⟨Tryz.f260.name,by decide,Tryz.func260.trans (congrArg some (by kernel_rfl))⟩,
 f11:=⟨Tryz.f261.name,by decide,Tryz.func261.trans (congrArg some (by kernel_rfl))⟩,
 f12:=⟨Tryz.f262.name,by decide,Tryz.func262.trans (congrArg some (by kernel_rfl))⟩,
 f13:=⟨Tryz.f263.name,by decide,Tryz.func263.trans (congrArg some (by kernel_rfl))⟩,
 f14:=⟨Tryz.f264.name,by decide,Tryz.func264.trans (congrArg some (by kernel_rfl))⟩,
 f15:=⟨Tryz.f265.name,by decide,Tryz.func265.trans (congrArg some (by kernel_rfl))⟩,
 f16:=⟨Tryz.f266.name,by decide,Tryz.func266.trans (congrArg some (by kernel_rfl))⟩,
 f17:=⟨Tryz.f267.name,by decide,Tryz.func267.trans (congrArg some (by kernel_rfl))⟩,
 f18:=⟨Tryz.f268.name,by decide,Tryz.func268.trans (congrArg some (by kernel_rfl))⟩,
 f19:=Tryz.func269.trans (congrArg some (by kernel_rfl)),
 f20:=Tryz.func270.trans (congrArg some (by kernel_rfl)),
 f30:=⟨Tryz.f304.name,by decide,Tryz.func304.trans (congrArg some (by kernel_rfl))⟩,
 f31:=Tryz.func305.trans (congrArg some (by kernel_rfl)),
 f32:=Tryz.func306.trans (congrArg some (by kernel_rfl)),
 f33:=⟨Tryz.f307.name,by decide,Tryz.func307.trans (congrArg some (by kernel_rfl))⟩,
 f34:=⟨Tryz.f308.name,by decide,Tryz.func308.trans (congrArg some (by kernel_rfl))⟩,
 f35:=⟨Tryz.f277.name,by decide,Tryz.func277.trans (congrArg some (by kernel_rfl))⟩,
 f40:=⟨Tryz.f326.name,by decide,Tryz.func326.trans (congrArg some (by kernel_rfl))⟩,
 t0:=Tryz.underlying0,
 a0:=Tryz.isAgg0,
 z0:=Tryz.sizeOf0,
 v0:=Tryz.zeroValue0,
 t3:=Tryz.underlying3,
 a3:=Tryz.isAgg3,
 z3:=Tryz.sizeOf3,
 v3:=Tryz.zeroValue3,
 t4:=Tryz.underlying4,
 a4:=Tryz.isAgg4,
 z4:=Tryz.sizeOf4,
 v4:=Tryz.zeroValue4,
 t5:=Tryz.underlying5,
 a5:=Tryz.isAgg5,
 z5:=Tryz.sizeOf5,
 v5:=Tryz.zeroValue5,
 t9:=Tryz.underlying9,
 a9:=Tryz.isAgg9,
 z9:=Tryz.sizeOf9,
 v9:=Tryz.zeroValue9,
 t22:=Tryz.underlying22,
 a22:=Tryz.isAgg22,
 z22:=Tryz.sizeOf22,
 v22:=Tryz.zeroValue22,
 t23:=Tryz.underlying22,
 a23:=Tryz.isAgg22,
 z23:=Tryz.sizeOf22,
 v23:=Tryz.zeroValue22,
 t25:=Tryz.underlying3,
 a25:=Tryz.isAgg3,
 z25:=Tryz.sizeOf3,
 v25:=Tryz.zeroValue3,
 t32:=Tryz.underlying181,
 a32:=Tryz.isAgg181,
 z32:=Tryz.sizeOf181,
 v32:=Tryz.zeroValue181,
 t35:=Tryz.underlying284,
 a35:=Tryz.isAgg284,
 z35:=Tryz.sizeOf284,
 v35:=Tryz.zeroValue284,
 t36:=Tryz.underlying285,
 a36:=Tryz.isAgg285,
 z36:=Tryz.sizeOf285,
 v36:=Tryz.zeroValue285,
 t41:=Tryz.underlying273,
 a41:=Tryz.isAgg273,
 z41:=Tryz.sizeOf273,
 v41:=Tryz.zeroValue273,
 t44:=Tryz.underlying291,
 a44:=Tryz.isAgg291,
 z44:=Tryz.sizeOf291,
 v44:=Tryz.zeroValue291,
 t46:=Tryz.underlying175,
 a46:=Tryz.isAgg175,
 z46:=Tryz.sizeOf175,
 v46:=Tryz.zeroValue175,
 t53:=Tryz.underlying320,
 a53:=Tryz.isAgg320,
 z53:=Tryz.sizeOf320,
 v53:=Tryz.zeroValue320,
 t57:=Tryz.underlying324,
 a57:=Tryz.isAgg324,
 z57:=Tryz.sizeOf324,
 v57:=Tryz.zeroValue324,
 t63:=Tryz.underlying346,
 a63:=Tryz.isAgg346,
 z63:=Tryz.sizeOf346,
 v63:=Tryz.zeroValue346,
 t64:=Tryz.underlying259,
 a64:=Tryz.isAgg259,
 z64:=Tryz.sizeOf259,
 v64:=Tryz.zeroValue259}
end Go.Proofs
namespace Go.Sl
section
variable {α:Type}[Inhabited α][DecidableEq α]
def compG(xs:List α):Nat->List α
 |0=>[]
 |k+1=>if 0<k/\e_ xs k=e_ xs ((k:Int) - 1) then compG xs k else compG xs k++[e_ xs k]
theorem compG_len(xs:List α):∀k,(compG xs k).length<=k
 |0=>by simp [compG]
 |k+1=>by
  have:=compG_len xs k
  simp only [compG]
  split
  ·omega
  ·rw [List.length_append];simp;omega
theorem compG_take{xs:List α}{k:Nat}(h:∀j,j<k->0<j->e_ xs j≠e_ xs ((j:Int) - 1))(hk:k<=xs.length):compG xs k=xs.take k:=by
 induction k with
 |zero=>rfl
 |succ k ih=>
  simp only [compG]
  rw [if_neg λe=>h k (by omega) e.1 e.2,ih (λj hj h0=>h j (by omega) h0) (by omega),take_at xs k (by omega)]
theorem compG_keep{xs ys:List α}{m q:Nat}(h:ys.take m=compG xs q)(h0:0<q)(he:¬e_ ys q≠e_ ys ((q:Int) - 1))(h1:e_ ys q=e_ xs q)(h2:e_ ys ((q:Int) - 1)=e_ xs ((q:Int) - 1)):ys.take m=compG xs (q+1):=by
 rw [h1,h2] at he
 simp only [compG]
 rw [if_pos ⟨h0,Classical.not_not.1 he⟩,h]
theorem compG_put{xs ys:List α}{m q:Nat}(h:ys.take m=compG xs q)(hm:m<ys.length)(he:e_ ys q≠e_ ys ((q:Int) - 1))(h1:e_ ys q=e_ xs q)(h2:e_ ys ((q:Int) - 1)=e_ xs ((q:Int) - 1)):(ys.set m (e_ ys q)).take (m+1)=compG xs (q+1):=by
 rw [h1,h2] at he
 simp only [compG]
 rw [if_neg λe=>he e.2,←h,h1,List.take_add_one,List.take_set_of_le (Nat.le_refl _)]
 simp [hm]
theorem at_dropG(xs:List α)(l:Nat)(i:Int)(h0:0<=i):e_ (xs.drop l) i=e_ xs ((l:Int)+i):=by
 unfold e_
 rw [List.getD_eq_getElem?_getD,List.getD_eq_getElem?_getD,List.getElem?_drop]
 congr 2;omega
end
theorem compZ_spec{xs:List Int}(h:xs.Pairwise (· <= ·)):∀k,k<=xs.length->(compG xs k).Pairwise (· < ·)/\(∀x,x∈compG xs k↔x∈xs.take k)
 |0,_=>by simp [compG]
 |k+1,hk=>by
  obtain ⟨h1,h2⟩:=compZ_spec h k (by omega)
  have hle:∀i j:Nat,i<j->j<xs.length->e_ xs i<=e_ xs j:=λi j hij hj=>by
   rw [at_get xs i (by omega),at_get xs j hj]
   exact (List.pairwise_iff_getElem.1 h) i j (by omega) hj hij
  rw [take_at xs k (by omega)]
  simp only [compG]
  have mem:∀a,a∈xs.take k->∃j:Nat,j<k/\a=e_ xs j:=λa ha=>by
   obtain ⟨j,hj,rfl⟩:=List.getElem_of_mem ha
   rw [List.length_take] at hj
   exact ⟨j,by omega,by rw [List.getElem_take,at_get xs j (by omega)]⟩
  split
  ·rename_i hc
   refine ⟨h1,λx=>?_⟩
   rw [h2,List.mem_append,List.mem_singleton]
   refine ⟨.inl,λe=>e.elim id λe=>?_⟩
   subst e
   rw [hc.2,show (k:Int) - 1=((k - 1:Nat):Int) by omega,at_get xs (k - 1) (by omega)]
   exact List.mem_take_iff_getElem.2 ⟨k - 1,by omega,rfl⟩
  ·rename_i hc
   refine ⟨List.pairwise_append.2 ⟨h1,List.pairwise_singleton _ _,λa ha b hb=>?_⟩,λx=>by rw [List.mem_append,List.mem_append,h2]⟩
   rw [List.mem_singleton.1 hb]
   obtain ⟨j,hj,rfl⟩:=mem a ((h2 a).1 ha)
   have h3:=hle (k - 1) k (by omega) (by omega)
   have h4:e_ xs j<=e_ xs ((k - 1:Nat):Int):=by
    by_cases e:j=k - 1
    ·rw [e];exact Int.le_refl _
    ·exact hle j (k - 1) (by omega) (by omega)
   have h5:e_ xs k≠e_ xs ((k:Int) - 1):=λe=>hc ⟨by omega,e⟩
   rw [show (k:Int) - 1=((k - 1:Nat):Int) by omega] at h5
   omega
theorem compZ_asc{xs:List Int}(h:xs.Pairwise (· <= ·)):(compG xs xs.length).Pairwise (· < ·):=(compZ_spec h _ (Nat.le_refl _)).1
theorem mem_compZ{xs:List Int}(h:xs.Pairwise (· <= ·)){x:Int}:x∈compG xs xs.length↔x∈xs:=by
 have:=(compZ_spec h _ (Nat.le_refl _)).2 x
 rwa [List.take_length] at this
end Go.Sl
namespace Go.Sl
open Go.Proofs
set_option maxRecDepth 4000
theorem ext_at{α:Type}[Inhabited α]{xs ys:List α}(hl:xs.length=ys.length)(h:∀j,j<xs.length->e_ xs j=e_ ys j):xs=ys:=by
 refine List.ext_getElem hl λj h1 h2=>?_
 have:=h j h1
 rwa [Db xs j h1,Db ys j h2] at this
theorem Few_ok{κ:Ctx}{I:List Item}{la:Option Addr}{ln lc:Nat} :
    eu prog κ 16 [.slice la ln lc] I (λr J=>r = .bool (decide ((ln:Int)<=500))/\I=J):=by
 refine Ce1 Tryz.func16 C C ?_
 exact Aj (Ga C (Ah (Aj (Gm C (Gr (Bz Ad C) (Gr (Ei C C) (Ga C (Ah (Az (Ba C C I Ay ⟨rfl,rfl⟩))))))))))
variable {κ:Ctx}{I:List Item}
theorem sortI_ok{e:TypeId}{ad:Option Addr}{c:Nat}{xs:List Int}(hsz:xs.length<4611686018427387904):eu prog κ 142 [.slice ad xs.length c] (vc e (.slice ad xs.length c) xs::I) λr J=>r = .tuple #[]/\J=vc e (.slice ad xs.length c) (sortZ xs)::I:=
 (sortI_any (κ:=κ) (I:=I) Tryz.sortI (e:=e) (ad:=ad) (c:=c) hsz).mono λr J ⟨h1,h2⟩=>⟨h1,by rw [h2,E7]⟩
theorem CompactI_ok{a:Option Addr}{c:Nat}{xs:List Int}(hsz:xs.length<1000000000000):eu prog κ 143 [.slice a xs.length c] (vc 3 (.slice a xs.length c) (xs)::I) (λr J=>r = .slice a (compG xs xs.length).length c/\J=vc 3 (.slice a (compG xs xs.length).length c) (compG xs xs.length)::I):=by
 refine Cg (vc.cap List.mem_cons_self) λhcap=>?_
 refine Ce1 Tryz.func143 C C ?_
 refine Aj (Ga C (Ah (Au (Aj (Gm C (Gr (Bz Ad C) (Gr (Bi C C) (Ah (Bd C (λc8=>?_) (λc8=>?_))))))))))
 ·refine Aj (Gm C (Ga C (Ah (Az (Ar ?_)))))
  have hc:compG xs xs.length=xs:=(compG_take (λj h1 h2=>by omega) (Nat.le_refl _)).trans (List.take_length)
  exact Ba C C (vc 3 (.slice a (compG xs xs.length).length c) (compG xs xs.length)::I) (by rw [hc];exact A5) ⟨by rw [hc],rfl⟩
 ·refine A4 (Ai (Au (Aj (Ga C (Ah (A6 (Ca (σ:=Nat) (λs=>([(0,.slice a xs.length c),(3,e7 ((s:Nat):Int))]:Env)) (λs=>vc 3 (.slice a xs.length c) (xs)::I) (λs=>(1<=s/\s<=xs.length)/\(∀j,j<s->0<j->e_ xs j≠e_ xs ((j:Int) - 1))) (λs=>xs.length - s) 1 ⟨om,(λj h1 h2=>by omega)⟩ (Aa C (Aa Cr Bq)) A5 ?_)))))))
  rintro k hp
  obtain ⟨hk,hne⟩:=hp
  refine Au (Aj (Gm C (Gm C (Gr (Bz Ad C) (Gr (Bi C C) (Ah (Bd C (λc13=>?_) (λc13=>?_))))))))
  ·refine A4 (Ai (Au (A6 (Au (Bt mixed (C7 10 (Dr 0 C (Af C) (Dr 1 C (Af C) (Dr 2 C (A2 (α:=Int) (xs:=xs) Ad ef C C Bk om (by first|omega|(simp only [List.length_drop];omega))) (Dr 3 C (B3 (xs:=xs) ef C Bk om (by first|omega|(simp only [List.length_drop];omega))) (Dr 4 C (Af C) (Dr 5 C (Af C) (Dr 6 C (Rsu C C) (Dr 7 C (A2 (α:=Int) (xs:=xs) Ad ef C C Bk om (by first|omega|(simp only [List.length_drop];omega))) (Dr 8 C (B3 (xs:=xs) ef C Bk om (by first|omega|(simp only [List.length_drop];omega))) (Dr 9 C (Bl C C) (Dz (Ai (Av (S3 25 0 3 C C C) (Bd C (λc25=>?_) (λc25=>?_)))))))))))))))))))))
   ·refine Aj (Gm C (Gm C (Gr (Ew (α:=Int) (xs:=xs) (l:=k) Ad ef C C om Bk om) (Ga C (Ah (Au (Aj (Ga C (Ah (A6 (Ca (σ:=Nat×Nat×(List Int)) (λs=>([(0,.slice a xs.length c),(3,e7 ((s.1:Nat):Int)),(4,.slice (adrop a c k (Enc.sz Int)) (List.drop k xs).length (c - k)),(5,e7 ((s.2.1:Nat):Int))]:Env)) (λs=>vc 3 (.slice a xs.length c) (s.2.2)::I) (λs=>(1<=s.2.1/\k+s.2.1<=xs.length)/\(s.2.2.length=xs.length)/\(1<=s.1/\s.1<k+s.2.1)/\(s.2.2.take s.1=compG xs (k+s.2.1))/\(∀j,k+s.2.1<=j+1->e_ s.2.2 j=e_ xs j)) (λs=>xs.length - (k+s.2.1)) (k,1,xs) (show (1<=(1:Nat)/\k+(1:Nat)<=xs.length)/\((xs:List Int).length=xs.length)/\(1<=(k:Nat)/\(k:Nat)<k+(1:Nat))/\((xs:List Int).take (k:Nat)=compG xs (k+(1:Nat)))/\(∀j,k+(1:Nat)<=j+1->e_ (xs:List Int) j=e_ xs j) from ⟨om,om,om,(by rw [←compG_take hne om];simp only [compG];rw [if_pos ⟨by omega,c25⟩]),(λ_ _=>rfl)⟩) (Aa C (Aa Cr (Aa C (Aa Cr Bq)))) A5 ?_)))))))))))
    rintro ⟨m,q,ys⟩ hp
    dsimp only at hp ⊢
    obtain ⟨hq,hyl,hm,htk,hsame⟩:=hp
    have hdl:(List.drop k xs).length=xs.length - k:=List.length_drop
    have hq1:=hsame (k+q) om
    have hq2:=hsame (k+q - 1) om
    rw [show ((k+q - 1:Nat):Int)=((k+q:Nat):Int) - 1 by omega] at hq2
    refine Au (Aj (Gm C (Gm C (Gr (Bz Ad C) (Gr (Bi C C) (Ah (Bd C (λc32=>?_) (λc32=>?_))))))))
    ·refine A4 (Ai (Au (A6 (Au (Bt mixed (C7 10 (Dr 0 C (Af C) (Dr 1 C (Af C) (Dr 2 C (A2 (α:=Int) (xs:=List.drop k ys) Ad ef C C (Fh Bk om (by rw [List.length_drop];omega)) om (by first|omega|(simp only [List.length_drop];omega))) (Dr 3 C (B3 (xs:=List.drop k ys) ef C (Fh Bk om (by rw [List.length_drop];omega)) om (by first|omega|(simp only [List.length_drop];omega))) (Dr 4 C (Af C) (Dr 5 C (Af C) (Dr 6 C (Rsu C C) (Dr 7 C (A2 (α:=Int) (xs:=List.drop k ys) Ad ef C C (Fh Bk om (by rw [List.length_drop];omega)) om (by first|omega|(simp only [List.length_drop];omega))) (Dr 8 C (B3 (xs:=List.drop k ys) ef C (Fh Bk om (by rw [List.length_drop];omega)) om (by first|omega|(simp only [List.length_drop];omega))) (Dr 9 C (Bx C C) (Dz (Ai (Av (S5 44 0 3 4 5 C C C C C) (Bd C (λc44=>?_) (λc44=>?_)))))))))))))))))))))
     ·refine Aj (Gm C (Gm C (Gm C (Gm C (Gr (A2 (α:=Int) (xs:=List.drop k ys) Ad ef C C (Fh Bk om (by rw [List.length_drop];omega)) om (by first|omega|(simp only [List.length_drop];omega))) (Gr (B3 (xs:=List.drop k ys) ef C (Fh Bk om (by rw [List.length_drop];omega)) om (by first|omega|(simp only [List.length_drop];omega))) (Gr (A2 (α:=Int) (xs:=ys) Ad ef C C Bk om (by first|omega|(simp only [List.length_drop];omega))) (Ge0 (Cy (α:=Int) (xs:=ys) (e:=3) (new:=e_ (List.drop k ys) q) ef C C C om (by first|omega|(simp only [List.length_drop];omega)) am) ?_))))))))
      refine Ah (A0 (Gm C (Gr (Rad C C) (Ga C (Bf (Ak (Ai (Av (S4 3 0 4 5 C C C C) (A0 (Gm C (Gr (Rad C C) (Ga C (Bf ?_)))))))))))))
      have hd1:e_ (List.drop k ys) q=e_ ys ((k+q:Nat):Int):=by rw [at_dropG _ _ _ om];congr 1
      have hd2:e_ (List.drop k ys) ((q:Int) - 1)=e_ ys (((k+q:Nat):Int) - 1):=by rw [at_dropG _ _ _ om];congr 1;omega
      have hset:List.set ys ((m:Int)).toNat (e_ (List.drop k ys) q)=ys.set m (e_ ys ((k+q:Nat):Int)):=by rw [←hd1];rfl
      rw [hset]
      rw [hd1,hd2] at c44
      exact Ch ((m+1),(q+1),(ys.set m (e_ ys ((k+q:Nat):Int)))) (by dsimp only;exact ⟨om,(by rw [List.length_set];exact hyl),om,(by rw [show k+(q+1)=k+q+1 by omega];exact compG_put htk om c44 hq1 hq2),(λj hj=>by rw [at_setn _ _ _ _ om,if_neg om];exact hsame j om)⟩) (hlt:=by (try dsimp only);exact (by simp only [List.length_drop] at *; omega))
     ·refine A4 (Ak (Ai (A0 (Gm C (Gr (Rad C C) (Ga C (Bf ?_)))))))
      have hd1:e_ (List.drop k ys) q=e_ ys ((k+q:Nat):Int):=by rw [at_dropG _ _ _ om];congr 1
      have hd2:e_ (List.drop k ys) ((q:Int) - 1)=e_ ys (((k+q:Nat):Int) - 1):=by rw [at_dropG _ _ _ om];congr 1;omega
      rw [hd1,hd2] at c44
      exact Ch ((m),(q+1),(ys)) (by dsimp only;exact ⟨om,om,om,(by rw [show k+(q+1)=k+q+1 by omega];exact compG_keep htk om c44 hq1 hq2),(λj hj=>hsame j om)⟩) (hlt:=by (try dsimp only);exact (by simp only [List.length_drop] at *; omega))
    ·refine Bp (Ac (Ac (Aw (Ai (Aj (Gm C (Gm C (Gr (Ew (α:=Int) (xs:=ys) (l:=m) Ad ef C C om Bk om) (Ge0 (Eff.clear (α:=Int) (k:=m) (xs:=ys) Ad ef (AllOne.cons C AllOne.nil) C C om am) ?_)))))))))
     refine Ah (Aj (Gm C (Gm C (Gr (Runs.hiraw (h:=m) Ad ef C C om om) (Ga C (Ah (Av (S1 2 C) (Az (A3 (Ar (Ar (A3 (Ar ?_)))))))))))))
     have hc:ys.take m=compG xs xs.length:=by rw [htk];congr 1;omega
     have hcm:(compG xs xs.length).length=m:=by rw [←hc,List.length_take,hyl,Nat.min_eq_left om]
     exact Ba C C (vc 3 (.slice a (compG xs xs.length).length c) (compG xs xs.length)::I) (by rw [←hc];exact A5) ⟨by rw [hcm],rfl⟩
   ·exact A4 (Ak (Ai (A0 (Gm C (Gr (Rad C C) (Ga C (Bf (Ch ((k+1)) ⟨om,(all_succ hne (λ_=>c25))⟩))))))))
  ·refine Bp (Ac (Ac (Aw (Ai (Aj (Gm C (Ga C (Ah (Az ?_)))))))))
   have hc:compG xs xs.length=xs:=(compG_take (λj h1 h2=>hne j om h2) (Nat.le_refl _)).trans (List.take_length)
   exact Ba C C (vc 3 (.slice a (compG xs xs.length).length c) (compG xs xs.length)::I) (by rw [hc];exact A5) ⟨by rw [hc],rfl⟩
theorem CloneI{a:Option Addr}{c:Nat}{xs:List Int}(hl:Sl κ I (.slice a xs.length c) xs)(hb:xs.length<=1000000000):eu prog κ 284 [.slice a xs.length c] I (λr J=>∃a' c',r = .slice a' xs.length c'/\J=vc 3 (.slice a' xs.length c') xs::I):=by
 refine Cg (p:=a.isNone=true->xs=[]/\c=0) (λw hs hn=>hl.isNone w hs hn) λhnone=>?_
 refine Ce1 Tryz.func284 C C ?_
 refine Aj (Ga C (Ah (Au (Aj (Gm C (Gr (Runs.eqnil Ad C C) (Ah (Ez C (λc4=>?_) (λc4=>?_)))))))))
 ·refine Aj (Ga C (Ah (Az (Ar ?_))))
  obtain ⟨hx0,_⟩:=hnone c4
  subst hx0
  exact Ba C C (vc 3 (.slice none ([]:List Int).length 0) ([]:List Int)::I) (B9 _ _) ⟨none,0,rfl,rfl⟩
 ·refine A4 (Ai (Aj (Ge1 (Eff.bs0 (α:=Int) Ad ef C) λad1=>?_)))
  refine Gm C (Ge2 (Cn (α:=Int) (e:=3) (xs:=([]:List Int)) (ys:=xs) Ad ef C C C mm (Bj hl) (by simp only [List.length_nil];omega) dc C (λ_ _=>am)) λad2 cp3=>?_)
  exact Ga C (Ah (Az (Ba C C (vc 3 (.slice ad2 xs.length cp3) xs::I) A5 ⟨ad2,cp3,rfl,rfl⟩)))
theorem eqt135:EqT prog 135 Pt:=EqT.flat (λp:Pt=>[p.u,p.v]) (λ_=>rfl) (λx y h=>by cases x;cases y;simpa using h) (n:=2) (λ_=>rfl) kr kr kr kr kr
theorem BSearchE{κ:Ctx}{I:List Item}{v:Value}{xs:List Pt}(hl:Sl κ I v xs)(x:Pt){g:FuncId}{cp_:List Value}{cf:Pt->Pt->Int}(hcb:Cmps prog κ I g cp_ cf)(hsz:xs.length<=1000000000000):eu prog κ 320 [v,.agg #[e7 (x.u),e7 (x.v)],.func (.func g) #[] cp_.toArray] I (λr J=>∃i b,r = .tuple #[e7 ((i:Nat):Int),.bool b]/\BFound cf xs x i b/\I=J):=by
 refine Cg hl.le λhmax=>?_
 refine Ce3 Tryz.func320 C C ?_
 refine Aj (Ge1 (Bg (cs:=[_,_]) C C C) λb1=>Ga C (Ga C (Ah (Aj (Gm C (Gr (Cb (α:=Pt) (xs:=xs) Bu C (Bj hl)) (Ga C (Ah (Aj (Gm C (Ga C (Ga C (Ah (Au (A6 (Ca (σ:=Nat×Nat) (λs=>([(0,v),(2,.func (.func g) #[] cp_.toArray),(4,.pointer (some ⟨b1,0,none⟩)),(8,e7 ((xs.length:Nat):Int)),(9,e7 ((s.1:Nat):Int)),(10,e7 ((s.2:Nat):Int))]:Env)) (λs=>e8 b1 [e7 (x.u),e7 (x.v)] 135::I) (λs=>(s.1<=s.2)/\(s.2<=xs.length)/\(0<s.1->cf (e_ xs ((s.1:Int) - 1)) x<0)/\(s.2<xs.length->¬cf (e_ xs s.2) x<0)) (λs=>s.2 - s.1) (0,xs.length) (show ((0:Nat)<=(xs.length:Nat))/\((xs.length:Nat)<=xs.length)/\(0<(0:Nat)->cf (e_ xs (((0:Nat):Int) - 1)) x<0)/\((xs.length:Nat)<xs.length->¬cf (e_ xs ((xs.length:Nat):Int)) x<0) from ⟨om,om,(λh=>absurd h dc),(λh=>absurd h om)⟩) (Aa C (Aa C (Aa C (Aa C (Aa Cr (Aa Cr Bq)))))) A5 ?_))))))))))))))))
 rintro ⟨i,j⟩ hp
 dsimp only at hp ⊢
 obtain ⟨hij,hj,hlo,hhi⟩:=hp
 refine Au (Aj (Gm C (Gm C (Gr (Bi C C) (Ah (Bd C (λc17=>?_) (λc17=>?_)))))))
 ·refine A4 (Ai (A6 (Aj (Gm C (Gm C (Gr (Rad C C) (Gr (Fq Bo Ed C om) (Gr (Runs.shr1 C C) (Gr (Runs.convI Ed Bo C (by unfold InR;omega)) (Ga C (Ah (Av (S7 11 0 2 4 8 9 10 C C C C C C C) (Au (Bt mixed (C7 8 (Dr 0 C (Af C) (Dr 1 C (Af C) (Dr 2 C (Af C) (Dr 3 C (A2 (α:=Pt) (xs:=xs) Bu ty135 C C (Bj hl) om om) (Dr 4 C (B7 (α:=Pt) (xs:=xs) ty135 C (Bj hl) om om) (Dr 5 C (Be (vs:=[_,_]) ty135) ?_)))))))))))))))))))))
  refine Ds1 6 (Se C (C0 hcb.1 (first:=[]) (caps:=cp_) C C C (hcb.2 (e_ xs (((i:Int)+(j:Int)) / 2)) x _ Ay)) ?_)
  rintro _ _ ⟨_,_,⟨rfl,rfl⟩,rfl,rfl⟩
  refine ⟨A5,?_⟩
  refine Dr 7 C (Bi C C) (Dz (Ai (Av (S8 31 11 0 2 4 8 9 10 C C C C C C C C) (Bd C (λc31=>?_) (λc31=>?_)))))
  ·exact A0 (Gm C (Gr (Rad C C) (Ga C (Bf (Ak (Ch (((i+j) / 2+1),(j)) (by dsimp only;exact ⟨om,om,(λ_=>by rw [show (((i+j) / 2+1:Nat):Int) - 1=((i:Int)+(j:Int)) / 2 by omega];exact c31),hhi⟩)))))))
  ·exact A0 (Gm C (Ga C (Bf (Ak (Ch ((i),((i+j) / 2)) (by dsimp only;exact ⟨om,om,hlo,(λ_=>by rw [show (((i+j) / 2:Nat):Int)=((i:Int)+(j:Int)) / 2 by omega];exact c31)⟩))))))
 ·refine Bp (Ac (Ac (Aw (Ai (Au (Bt mixed (C7 16 (Dr 0 C (Af C) (Dr 1 C (Af C) (Dr 2 C (Af C) (Dr 3 C (Bi C C) (Dr 4 C (Af C) (D4 (d:=39) C (λg39=>?_) (λg39=>?_))))))))))))))
  ·refine Dro 5 C (Af C) (Dro 6 C (Af C) (Dro 7 C (Af C) (Dro 8 C (A2 (α:=Pt) (xs:=xs) Bu ty135 C C (Bj hl) om om) (Dro 9 C (B7 (α:=Pt) (xs:=xs) ty135 C (Bj hl) om om) (Dro 10 C (Be (vs:=[_,_]) ty135) ?_)))))
   refine Ds1 11 (Se C (C0 hcb.1 (first:=[]) (caps:=cp_) C C C (hcb.2 (e_ xs i) x _ Ay)) ?_)
   rintro _ _ ⟨_,_,⟨rfl,rfl⟩,rfl,rfl⟩
   refine ⟨A5,?_⟩
   refine Dro 12 C (Bl C C) (Dr 13 C (Ap C C) (Dr 14 C (Bb C) (Dr 15 C (Bb C) (Dz (Ai (Av (S2 7 6 C C) (Az ?_)))))))
   have hie:i=j:=by omega
   subst hie
   exact C4 C C C I Ay ⟨i,_,rfl,⟨hj,hlo,hhi,(decide_eq_decide.2 ⟨λh=>⟨by omega,h⟩,λh=>h.2⟩)⟩,rfl⟩
  ·refine Dpo 5 C (Dpo 6 C (Dpo 7 C (Dpo 8 C (Dpo 9 C (Dpo 10 C (Dpo 11 C (Dpo 12 C (Dr 13 C (Al C C) (Dr 14 C (Bb C) (Dr 15 C (Bb C) (Dz (Ai (Av (S2 7 6 C C) (Az ?_))))))))))))))
   have hie:i=j:=by omega
   subst hie
   exact C4 C C C I Ay ⟨i,_,rfl,⟨hj,hlo,hhi,((decide_eq_false (λh=>by omega)).symm)⟩,rfl⟩
variable {κ:Ctx}{I:List Item}
theorem CheckGen_ok{nd:Int}{v:Value}{es:List Pt}(hl:Sl κ I v es):eu prog κ 83 [.agg #[e7 nd,v]] I (λr J=>r=e7 (checkG nd es)/\I=J):=by
 refine Cg hl.le λhmax=>?_
 refine Ce1 Tryz.func83 C C ?_
 refine Aj (Ge1 (Bg (cs:=[_,_]) C C C) λb1=>Ga C (Ah (Au (Aj (Gf fld48_0 C (Gl ef ?_))))))
 refine Gr (Bi C C) (Gm C (Bs (d:=8) C (λg8=>?_) (λg8=>?_)))
 ·exact eb (eb (eb (Gr (Ap C C) (Ah (Do C (Aj (Ga C (Ah (Az (Ar (Ba C C I Ay ⟨by rw [show checkG nd es=1 from (by unfold checkG;rw [if_pos om])],rfl⟩)))))))))))
 ·refine e9 (Ab fld48_0 C) (e9 (As ef) ?_)
  refine e9 (Ci C C) (Gr (Al C C) (Ah (Bd C (λc12=>?_) (λc12=>?_))))
  ·exact Aj (Ga C (Ah (Az (Ar (Ba C C I Ay ⟨by rw [show checkG nd es=1 from (by unfold checkG;rw [if_pos om])],rfl⟩)))))
  ·refine A4 (Ai (Au (Aj (Gf fld48_1 C (Gl ty46 ?_)))))
   refine Gr (Cb (α:=Pt) (xs:=es) Bu C (Bj hl)) (Gm C (Ah (Av (S4 16 15 14 1 C C C C) (A6 (Ca (σ:=Nat) (λs=>([(1,.pointer (some ⟨b1,0,none⟩)),(14,v),(15,e7 ((es.length:Nat):Int)),(16,e7 ((s:Nat):Int))]:Env)) (λs=>e8 b1 [e7 nd,v] 48::I) (λs=>(s<=es.length)/\(checkG nd es=scanL (badE nd) Pt.lt (prevAt es s) (es.drop s))) (λs=>es.length - s) 0 ⟨om,(by unfold checkG;rw [if_neg om];rfl)⟩ (Aa C (Aa C (Aa C (Aa Cr Bq)))) A5 ?_)))))
   rintro k hp
   obtain ⟨hk,hs⟩:=hp
   refine Aj (Gr (Bi C C) (Ah (Au (Bd C (λc17=>?_) (λc17=>?_)))))
   ·refine A4 (Ai (Au (A6 (Aj (Gm C (Gr (A2 (α:=Pt) (xs:=es) Bu ty135 C C (Bj hl) om om) (Gr (B7 (α:=Pt) (xs:=es) ty135 C (Bj hl) om om) (Ge1 (A9 ty135 C) λb2=>Ga C (Ge0 (Cs ty135) ?_)))))))))
    refine Ah (A6 (Aj (Gf fld135_0 C (Gl ef ?_))))
    refine Gr (Bi C C) (Gm C (Bs (d:=25) C (λg25=>?_) (λg25=>?_)))
    ·exact eb (eb (eb (eb (eb (Gr (Ap C C) (Gm C (eb (eb (eb (eb (eb (Gr (Ap C C) (Ga C (Ah (Av (S7 21 3 4 1 14 15 16 C C C C C C C) (Do C (Aj (Ga C (Ah (Az (A3 (A3 (Ar (Ar (A3 (Ar (Ba C C I Ay ⟨by rw [show checkG nd es=6 from (hs.trans ((Ek om (by unfold badE;rw [if_pos om];decide)).trans (by unfold badE;rw [if_pos om])))],rfl⟩)))))))))))))))))))))))))))
    ·refine e9 (Ab fld135_0 C) (e9 (As ef) ?_)
     refine e9 (Ab fld135_1 C) (e9 (As ef) ?_)
     refine e9 (Cu C C) (Gr (Al C C) (Gm C (Bs (d:=32) C (λg32=>?_) (λg32=>?_))))
     ·exact eb (eb (eb (eb (eb (Gr (Ap C C) (Ga C (Ah (Av (S7 21 3 4 1 14 15 16 C C C C C C C) (Do C (Aj (Ga C (Ah (Az (A3 (A3 (Ar (Ar (A3 (Ar (Ba C C I Ay ⟨by rw [show checkG nd es=6 from (hs.trans ((Ek om (by unfold badE;rw [if_pos om];decide)).trans (by unfold badE;rw [if_pos om])))],rfl⟩))))))))))))))))))))
     ·refine e9 (Ab fld135_1 C) (e9 (As ef) ?_)
      refine e9 (Ab fld48_0 C) (e9 (As ef) ?_)
      refine e9 (Cu C C) (Gr (Al C C) (Ga C (Ah (Av (S7 21 3 4 1 14 15 16 C C C C C C C) (Bd C (λc21=>?_) (λc21=>?_))))))
      ·exact Aj (Ga C (Ah (Az (A3 (A3 (Ar (Ar (A3 (Ar (Ba C C I Ay ⟨by rw [show checkG nd es=6 from (hs.trans ((Ek om (by unfold badE;rw [if_pos om];decide)).trans (by unfold badE;rw [if_pos om])))],rfl⟩))))))))))
      ·refine Au (Bt mixed (C7 14 (Dr 0 C (Af C) (Dr 1 C (Ci C C) (Dr 2 C (Af C) (D4 (d:=42) C (λg42=>?_) (λg42=>?_)))))))
       ·refine Dro 3 C (Ab fld48_1 C) (Dro 4 C (As ty46) ?_)
        refine Dro 5 C (Af C) (Dro 6 C (Rsu C C) (Dro 7 C (A2 (α:=Pt) (xs:=es) Bu ty135 C C (Bj hl) om om) (Dro 8 C (B7 (α:=Pt) (xs:=es) ty135 C (Bj hl) om om) (Dro 9 C (Be (vs:=[_,_]) ty135) ?_))))
        refine Ds1 10 (Se C (Am call154 C C (Order_ok (e_ es ((k:Int) - 1)) (e_ es k))) ?_)
        rintro _ _ ⟨_,_,⟨rfl,rfl⟩,rfl,rfl⟩
        refine ⟨Ay,?_⟩
        refine Dro 11 C (Cu C C) (Dr 12 C (Ap C C) (Dr 13 C (Bb C) (Dz (Ai (Av (S5 39 1 14 15 16 C C C C C) (Bd C (λc39=>?_) (λc39=>?_)))))))
        ·exact Aj (Ga C (Ah (Az (A3 (A3 (Ar (Ar (A3 (Ar (Ba C C I Ay ⟨by rw [show checkG nd es=5 from (hs.trans (scanL_order om (badE_zero.2 om) om (λh=>by have:=(Pt.cmp_lt _ _).2 h;omega)))],rfl⟩))))))))))
        ·exact A4 (Ak (Ak (Ai (A0 (Gr (Rad C C) (Gm C (Bf (Ch ((k+1)) ⟨om,(hs.trans (scanL_step om (badE_zero.2 om) (λh0=>by first|omega|exact (Pt.cmp_lt _ _).1 om)))⟩))))))))
       ·exact Dpo 3 C (Dpo 4 C (Dpo 5 C (Dpo 6 C (Dpo 7 C (Dpo 8 C (Dpo 9 C (Dpo 10 C (Dpo 11 C (Dr 12 C (Al C C) (Dr 13 C (Bb C) (Dz (Ai (Av (S5 39 1 14 15 16 C C C C C) (Eo C (A4 (Ak (Ak (Ai (A0 (Gr (Rad C C) (Gm C (Bf (Ch ((k+1)) ⟨om,(hs.trans (scanL_step om (badE_zero.2 om) (λh0=>by first|omega|exact (Pt.cmp_lt _ _).1 om)))⟩)))))))))))))))))))))))
   ·exact Bp (Ac (Ac (Aw (Ai (Aj (Ga C (Ah (Az (Ba C C I Ay ⟨by rw [show checkG nd es=0 from (hs.trans (scanL_end om))],rfl⟩)))))))))
theorem EdgeG_ok(u v:Int):eu prog κ 319 [e7 u,e7 v] I (λr J=>r = .agg #[e7 (edgeP u v).u,e7 (edgeP u v).v]/\I=J):=by
 refine Ce2 Tryz.func319 C C ?_
 refine Aj (Ge1 (A9 ty135 C) λb1=>Ah (Aj (Gm C (Gm C (Gr (E9 C C) (Gm C (Gm C (Gr (D7 C C) (Gr (Bc (cells:=[_,_]) ty135 D1 pl135 C C) (Ge0 (Cs ty135) ?_))))))))))
 exact Ah (Az (Cf C ty135 C mm C I Ay ⟨rfl,rfl⟩))
theorem Order_cmps:Cmps prog κ I 154 [] Pt.cmp:=⟨call154,λx y J hf=>Order_ok x y⟩
theorem Place_ok{nd:Int}{va:Value}{es:List Pt}(hl:Sl κ I va es)(u v:Int)(hb:es.length<=1000000000):eu prog κ 285 [.agg #[e7 nd,va],e7 u,e7 v] I (λr J=>∃i q,r = .tuple #[e7 ((i:Nat):Int),.bool (decide (i<es.length/\e_ es ((i:Nat):Int)=(edgeP u v)))]/\BFound Pt.cmp es (edgeP u v) i q/\I=J):=by
 refine Cg hl.le λhmax=>?_
 refine Ce3 Tryz.func285 C C ?_
 refine Aj (Ge1 (Bg (cs:=[_,_]) C C C) λb1=>Ga C (Ga C (Ah (Aj (Gm C (Gm C (Gc0 (Am call319 C C (EdgeG_ok u v)) ?_)))))))
 refine Ge1 (A9 ty135 C) λb2=>Ge0 (Cs ty135) ?_
 refine Ah (Aj (Gf fld48_1 C (Gl ty46 ?_)))
 refine Gl2 ty135 ?_
 refine G.e (Am call320 C C (BSearchE (Bj hl) (edgeP u v) Order_cmps om)) ?_
 rintro _ _ ⟨_,_,⟨i3,q4,rfl,hi3,rfl⟩,rfl,rfl⟩
 refine Gm C (Gr (Ax C C) (Gr (Ax C C) (Ga C (Ga C (Ah (Av (S3 9 8 3 C C C) (Au (Bt mixed (C7 17 (Dr 0 C (Af C) (Dr 1 C (Af C) (Dr 2 C (Ab fld48_1 C) (Dr 3 C (As ty46) ?_)))))))))))))
 refine Dr 4 C (Cb (α:=Pt) (xs:=es) Bu C (Bj hl)) (Dr 5 C (Bi C C) (Dr 6 C (Af C) (D4 (d:=27) C (λg27=>?_) (λg27=>?_))))
 ·refine Dro 7 C (Ab fld48_1 C) (Dro 8 C (As ty46) ?_)
  refine Dro 9 C (Af C) (Dro 10 C (A2 (α:=Pt) (xs:=es) Bu ty135 C C (Bj hl) om om) (Dro 11 C (B7 (α:=Pt) (xs:=es) ty135 C (Bj hl) om om) (Dro 12 C (Be (vs:=[_,_]) ty135) ?_)))
  exact Dro 13 C (Runs.eqlT (α:=Pt) (a:=(e_ es i3)) (b:=(edgeP u v)) eqt135 C C) (Dr 14 C (Ap C C) (Dr 15 C (Bb C) (Dr 16 C (Bb C) (Dz (Ai (Av (S2 7 6 C C) (Az (C4 C C C I Ay ⟨i3,q4,congrArg (λb_=>Value.tuple #[e7 (i3:Int),.bool b_]) (decide_eq_decide.2 ⟨λh=>⟨by omega,h⟩,λh=>h.2⟩),hi3,rfl⟩))))))))
 ·exact Dpo 7 C (Dpo 8 C (Dpo 9 C (Dpo 10 C (Dpo 11 C (Dpo 12 C (Dpo 13 C (Dr 14 C (Al C C) (Dr 15 C (Bb C) (Dr 16 C (Bb C) (Dz (Ai (Av (S2 7 6 C C) (Az (C4 C C C I Ay ⟨i3,q4,congrArg (λb_=>Value.tuple #[e7 (i3:Int),.bool b_]) (decide_eq_false (λh=>by omega)).symm,hi3,rfl⟩))))))))))))))
variable {κ:Ctx}{I:List Item}
def bitB(v:Int):BitVec 64:=if v<0\/64<=v then 0#64 else 1#64 <<< v.toNat
def maskB(l:List Int):BitVec 64:=l.foldl (λm v=>m ||| bitB v) 0#64
def allB(n:Int):BitVec 64:=if n<=0 then 0#64 else if 64<=n then 18446744073709551615#64 else (1#64 <<< n.toNat) - 1#64
theorem maskB_take{l:List Int}{k:Nat}(h:k<l.length):maskB (l.take (k+1))=maskB (l.take k) ||| bitB (e_ l k):=by
 unfold maskB;rw [Di l k h,List.foldl_append];rfl
def ones1(m:BitVec 64):BitVec 64:=((m >>> (1:Int).toNat) &&& 6148914691236517205#64)+(m &&& 6148914691236517205#64)
def ones2(m:BitVec 64):BitVec 64:=((m >>> (2:Int).toNat) &&& 3689348814741910323#64)+(m &&& 3689348814741910323#64)
def ones3(m:BitVec 64):BitVec 64:=((m >>> (4:Int).toNat)+m) &&& 1085102592571150095#64
def ones4(m:BitVec 64):BitVec 64:=m+(m >>> (8:Int).toNat)
def ones5(m:BitVec 64):BitVec 64:=m+(m >>> (16:Int).toNat)
def ones6(m:BitVec 64):BitVec 64:=m+(m >>> (32:Int).toNat)
def onesB(m:BitVec 64):Int:=((ones6 (ones5 (ones4 (ones3 (ones2 (ones1 m)))))).toNat:Int) % 128
theorem ones_small(m:BitVec 64):(ones6 (ones5 (ones4 (ones3 m)))).toNat<9223372036854775808:=by
 have h3:(ones3 m).toNat<=1085102592571150095:=by unfold ones3;rw [BitVec.toNat_and];exact Nat.and_le_right
 generalize ones3 m=a at h3
 have h4:(ones4 a).toNat<=a.toNat+a.toNat / 256:=by
  unfold ones4;rw [BitVec.toNat_add,BitVec.toNat_ushiftRight,Nat.shiftRight_eq_div_pow,show 2 ^ (8:Int).toNat=256 by decide];exact Nat.mod_le _ _
 generalize ones4 a=b at h4
 have h5:(ones5 b).toNat<=b.toNat+b.toNat / 65536:=by
  unfold ones5;rw [BitVec.toNat_add,BitVec.toNat_ushiftRight,Nat.shiftRight_eq_div_pow,show 2 ^ (16:Int).toNat=65536 by decide];exact Nat.mod_le _ _
 generalize ones5 b=c at h5
 have h6:(ones6 c).toNat<=c.toNat+c.toNat / 4294967296:=by
  unfold ones6;rw [BitVec.toNat_add,BitVec.toNat_ushiftRight,Nat.shiftRight_eq_div_pow,show 2 ^ (32:Int).toNat=4294967296 by decide];exact Nat.mod_le _ _
 omega
theorem Bit_ok(v:Int):eu prog κ 237 [e7 v] I (λr J=>r=U64 (bitB v)/\I=J):=by
 refine Ce1 Tryz.func237 C C ?_
 refine Aj (Ga C (Ah (Au (Aj (Gm C (Gr (Bi C C) (Gm C (Bs (d:=5) C (λg5=>?_) (λg5=>?_)))))))))
 ·exact eb (eb (Gr (Ap C C) (Ah (Do C (Aj (Ga C (Ah (Az (Ar (Ba C C I Ay ⟨by unfold bitB;rw [if_pos om];rfl,rfl⟩))))))))))
 ·refine e9 (Af C) (e9 (Cu C C) (Gr (Al C C) (Ah (Bd C (λc8=>?_) (λc8=>?_)))))
  ·exact Aj (Ga C (Ah (Az (Ar (Ba C C I Ay ⟨by unfold bitB;rw [if_pos om];rfl,rfl⟩)))))
  ·exact A4 (Ai (Aj (Gm C (Gr (Eq (a:=1#64) C C om om) (Ga C (Ah (Az (Ba C C I Ay ⟨by unfold bitB;rw [if_neg om],rfl⟩))))))))
theorem MaskOf_ok{v:Value}{l:List Int}(hl:Sl κ I v l):eu prog κ 199 [v] I (λr J=>r=U64 (maskB l)/\I=J):=by
 refine Cg hl.le λhmax=>?_
 refine Ce1 Tryz.func199 C C ?_
 refine Aj (Ga C (Ah (Aj (Ga C (Ah (Au (Aj (Gm C (Gr (Cb (α:=Int) (xs:=l) Ad C (Bj hl)) (Gm C (Ah (A6 (Ca (σ:=Nat×(BitVec 64)) (λs=>([(3,U64 (s.2)),(6,v),(7,e7 ((l.length:Nat):Int)),(8,e7 ((s.1:Nat):Int))]:Env)) (λs=>I) (λs=>(s.1<=l.length)/\(s.2=maskB (l.take s.1))) (λs=>l.length - s.1) (0,0#64) ⟨om,rfl⟩ (Aa (Da C (by first|rfl|simp)) (Aa C (Aa C (Aa Cr Bq)))) (show Fit κ _ I from A5) ?_)))))))))))))
 rintro ⟨k,m⟩ hp
 dsimp only at hp ⊢
 obtain ⟨hk,hm⟩:=hp
 refine Aj (Gr (Bi C C) (Ah (Au (Bd C (λc9=>?_) (λc9=>?_)))))
 ·refine A4 (Ai (Au (A6 (Aj (Gr (A2 (α:=Int) (xs:=l) Ad ef C C (Bj hl) om om) (Gr (B3 (xs:=l) ef C (Bj hl) om om) (Ga C (Ah (A0 (Gm C (Gm C (G.e (Am call237 C C (Bit_ok (e_ l k))) ?_))))))))))))
  rintro _ _ ⟨_,_,⟨rfl,rfl⟩,rfl,rfl⟩
  exact Gr (E0 (a:=m) (b:=bitB (e_ l k)) C C) (Ga C (Bf (Ak (Ai (A0 (Gr (Rad C C) (Gm C (Bf (Ch ((k+1),(m ||| (bitB (e_ l k)))) (by dsimp only;exact ⟨om,(by rw [maskB_take om,←hm])⟩))))))))))
 ·refine Bp (Ac (Ac (Aw (Ai (Aj (Gm C (Ga C (Ah (Az ?_)))))))))
  rw [List.take_of_length_le om] at hm
  exact Ba C C I Ay ⟨by rw [hm],rfl⟩
theorem MaskAll_ok(n:Int):eu prog κ 200 [e7 n] I (λr J=>r=U64 (allB n)/\I=J):=by
 refine Ce1 Tryz.func200 C C ?_
 refine Aj (Ga C (Ah (Au (A6 (Aj (Gm C (Gr (Ei C C) (Ga C (Ah (Bd C (λc3=>?_) (λc3=>?_)))))))))))
 ·exact Aj (Ga C (Ah (Az (A3 (Ar (Ba C C I Ay ⟨by unfold allB;rw [if_pos om];rfl,rfl⟩))))))
 ·refine Aj (Gm C (Gr (Cu C C) (Ga C (Ah (Bd C (λc6=>?_) (λc6=>?_))))))
  ·exact Aj (Ga C (Ah (Az (A3 (Ar (Ba C C I Ay ⟨by unfold allB;rw [if_neg om,if_pos om];rfl,rfl⟩))))))
  ·exact A4 (Ak (Ai (Aj (Gm C (Gr (Eq (a:=1#64) C C om om) (Gr (Runs.subB (a:=(1#64) <<< (n).toNat) (b:=1#64) C C) (Ga C (Ah (Az (Ba C C I Ay ⟨by unfold allB;rw [if_neg om,if_neg om],rfl⟩))))))))))
theorem OnesCount_ok(m:BitVec 64):eu prog κ 271 [U64 m] I (λr J=>r=e7 (onesB m)/\I=J):=by
 refine Ce1 Tryz.func271 C C ?_
 refine Aj (Ga C (Ah (Aj (Gm C (Gr (Fi (a:=m) C C om om) (Gr (C3 (a:=m >>> (1:Int).toNat) (b:=6148914691236517205#64) C C) (Gm C (Gr (C3 (a:=m) (b:=6148914691236517205#64) C C) (Gr (Runs.addB (a:=(m >>> (1:Int).toNat) &&& (6148914691236517205#64)) (b:=m &&& (6148914691236517205#64)) C C) (Ga C ?_))))))))))
 generalize hm1:((m >>> (1:Int).toNat) &&& (6148914691236517205#64))+(m &&& (6148914691236517205#64))=m1
 refine Ah (Aj (Gm C (Gr (Fi (a:=m1) C C om om) (Gr (C3 (a:=m1 >>> (2:Int).toNat) (b:=3689348814741910323#64) C C) (Gm C (Gr (C3 (a:=m1) (b:=3689348814741910323#64) C C) (Gr (Runs.addB (a:=(m1 >>> (2:Int).toNat) &&& (3689348814741910323#64)) (b:=m1 &&& (3689348814741910323#64)) C C) (Ga C ?_))))))))
 generalize hm2:((m1 >>> (2:Int).toNat) &&& (3689348814741910323#64))+(m1 &&& (3689348814741910323#64))=m2
 refine Ah (Av (S1 0 C) (Aj (Gm C (Gr (Fi (a:=m2) C C om om) (Gm C (Gr (Runs.addB (a:=m2 >>> (4:Int).toNat) (b:=m2) C C) (Gr (C3 (a:=(m2 >>> (4:Int).toNat)+m2) (b:=1085102592571150095#64) C C) (Ga C ?_))))))))
 generalize hm3:((m2 >>> (4:Int).toNat)+m2) &&& (1085102592571150095#64)=m3
 refine Ah (Aj (Gm C (Gm C (Gr (Fi (a:=m3) C C om om) (Gr (Runs.addB (a:=m3) (b:=m3 >>> (8:Int).toNat) C C) (Ga C ?_))))))
 generalize hm4:m3+(m3 >>> (8:Int).toNat)=m4
 refine Ah (Aj (Gm C (Gm C (Gr (Fi (a:=m4) C C om om) (Gr (Runs.addB (a:=m4) (b:=m4 >>> (16:Int).toNat) C C) (Ga C ?_))))))
 generalize hm5:m4+(m4 >>> (16:Int).toNat)=m5
 refine Ah (Av (S1 0 C) (Aj (Gm C (Gm C (Gr (Fi (a:=m5) C C om om) (Gr (Runs.addB (a:=m5) (b:=m5 >>> (32:Int).toNat) C C) (Ga C ?_)))))))
 generalize hm6:m5+(m5 >>> (32:Int).toNat)=m6
 exact Ah (Aj (Gm C (Gr (Runs.toI D0 Bo C (by subst hm6 hm5 hm4 hm3;exact ones_small _)) (Gr (Runs.and127 C C om) (Ga C (Ah (Az (Ba C C I Ay ⟨by subst hm6 hm5 hm4 hm3 hm2 hm1;rfl,rfl⟩))))))))
theorem MCount_ok(m:BitVec 64):eu prog κ 219 [U64 m] I (λr J=>r=e7 (onesB m)/\I=J):=by
 refine Ce1 Tryz.func219 C C ?_
 refine Aj (Ga C (Ah (Aj (Gm C (Gc0 (Am call271 C C (OnesCount_ok m)) ?_)))))
 exact Ga C (Ah (Az (Ba C C I Ay ⟨rfl,rfl⟩)))
variable {κ:Ctx}{I:List Item}
theorem bitB_two{v:Int}(h0:0<=v)(h1:v<64):bitB v=BitVec.twoPow 64 v.toNat:=by
 unfold bitB;rw [if_neg om];rfl
theorem getLsb_bitB{v:Int}{i:Nat}(hi:i<64):(bitB v).getLsbD i=decide (v=(i:Int)):=by
 by_cases h:0<=v/\v<64
 ·rw [bitB_two h.1 h.2,BitVec.getLsbD_twoPow]
  have e:(v.toNat=i)↔(v=(i:Int)):=by omega
  simp [hi,h,e]
 ·unfold bitB
  rw [if_pos om]
  have:¬v=(i:Int):=by omega
  simp [this]
theorem getLsb_maskB{i:Nat}(hi:i<64):∀(l:List Int) (m:BitVec 64),(l.foldl (λm v=>m ||| bitB v) m).getLsbD i=(m.getLsbD i||decide ((i:Int)∈l))
 |[],m=>by simp
 |v::l,m=>by
  rw [List.foldl_cons,getLsb_maskB hi l,BitVec.getLsbD_or,getLsb_bitB hi]
  by_cases h1:v=(i:Int)
  ·simp [h1]
  ·have:¬(i:Int)=v:=λe=>h1 e.symm
   simp [h1,this]
theorem mem_maskB{l:List Int}{v:Int}(h0:0<=v)(h1:v<64):(maskB l &&& bitB v≠0#64)↔v∈l:=by
 have hm:(maskB l).getLsbD v.toNat=decide (v∈l):=by
  unfold maskB;rw [getLsb_maskB om,show ((v.toNat:Nat):Int)=v by omega];simp
 rw [bitB_two h0 h1,BitVec.and_twoPow,hm]
 by_cases h:v∈l
 ·simp only [h,decide_true,if_true,iff_true]
  intro e
  have:=congrArg (λb=>BitVec.getLsbD b v.toNat) e
  simp only [BitVec.getLsbD_twoPow] at this
  simp at this
  omega
 ·simp [h]
def inE(set:List Int)(e:Pt):Bool:=decide ((maskB set &&& bitB e.u≠0#64)/\(maskB set &&& bitB e.v≠0#64))
def insideL(set:List Int)(es:List Pt):List Pt:=es.filter (inE set)
theorem inE_eq{nd:Int}{es:List Pt}{set:List Int}(h:GrOk nd es){e:Pt}(he:e∈es):inE set e=decide (e.u∈set/\e.v∈set):=by
 have:=h.edge e he;have:=h.rng
 unfold inE
 rw [decide_eq_decide,mem_maskB om om,mem_maskB om om]
theorem insideL_eq{nd:Int}{es:List Pt}(set:List Int)(h:GrOk nd es):insideL set es=es.filter λe=>decide (e.u∈set/\e.v∈set):=
 List.filter_congr λe he=>inE_eq h he
def insideN(nd:Int)(es:List Pt)(set:List Int):Nat:=if checkG nd es≠0 then 0 else (insideL set es).length
theorem insideN_le(nd:Int)(es:List Pt)(set:List Int):insideN nd es set<=es.length:=by
 unfold insideN;split
 ·exact Nat.zero_le _
 ·exact List.length_filter_le _ _
theorem WithinG_ok{nd:Int}{va vb:Value}{es:List Pt}{set:List Int}(hl:Sl κ I va es)(hs:Sl κ I vb set)(hb:es.length<=1000000):eu prog κ 275 [.agg #[e7 nd,va],vb] I (λr J=>∃a c,r = .slice a (insideL set es).length c/\J=vc 135 (.slice a (insideL set es).length c) (insideL set es)::I):=by
 refine Cg hl.le λhmax=>?_
 refine Ce2 Tryz.func275 C C ?_
 refine Aj (Ge1 (Bg (cs:=[_,_]) C C C) λb1=>Ga C (Ah (Aj (Gm C (Gc0 (Am call199 C C (MaskOf_ok (Bj hs))) ?_)))))
 refine Ga C (Ah (Aj (Ga C (Ah (Au (Aj (Gf fld48_1 C (Gl ty46 ?_))))))))
 refine Gr (Cb (α:=Pt) (xs:=es) Bu C (Bj hl)) (Gm C (Ah (A6 (Ca (σ:=Nat×(Option Addr)×Nat×(List Pt)) (λs=>([(5,U64 (maskB set)),(6,.slice s.2.1 s.2.2.2.length s.2.2.1),(12,va),(13,e7 ((es.length:Nat):Int)),(14,e7 ((s.1:Nat):Int))]:Env)) (λs=>vc 135 (.slice s.2.1 s.2.2.2.length s.2.2.1) (s.2.2.2)::e8 b1 [e7 nd,va] 48::I) (λs=>(s.1<=es.length)/\(s.2.2.2=(es.take s.1).filter (inE set))) (λs=>es.length - s.1) (0,none,0,[]) ⟨om,rfl⟩ (Aa C (Aa (Da C (by first|rfl|simp)) (Aa C (Aa C (Aa Cr Bq))))) (B9 _ _) ?_))))
 rintro ⟨k,a,c,out⟩ hp
 dsimp only at hp ⊢
 obtain ⟨hk,ho⟩:=hp
 have hol:out.length<=es.length:=by rw [ho];refine Nat.le_trans (List.length_filter_le _ _) ?_;simp only [List.length_take];omega
 refine Aj (Gr (Bi C C) (Ah (Au (Bd C (λc15=>?_) (λc15=>?_)))))
 ·refine A4 (Ai (Au (A6 (Aj (Gr (A2 (α:=Pt) (xs:=es) Bu ty135 C C (Bj hl) om om) (Gr (B7 (α:=Pt) (xs:=es) ty135 C (Bj hl) om om) (Ge1 (A9 ty135 C) λb2=>Ge0 (Cs ty135) ?_)))))))
  refine Ah (Aj (Gm C (Gf fld135_0 C (Gl ef ?_))))
  refine G.e (Am call237 C C (Bit_ok ((e_ es k).u))) ?_
  rintro _ _ ⟨_,_,⟨rfl,rfl⟩,rfl,rfl⟩
  refine Gr (C3 (a:=maskB set) (b:=bitB ((e_ es k).u)) C C) (Gr (Eh (a:=(maskB set) &&& (bitB ((e_ es k).u))) (b:=0#64) C C) (Gm C (Bs (d:=24) C (λg24=>?_) (λg24=>?_))))
  ·refine e9 (Af C) (e9 (Ab fld135_1 C) (e9 (As ef) ?_))
   refine Et (Cz C C C) (Am call237 C C (Bit_ok ((e_ es k).v))) ?_
   rintro _ _ ⟨_,_,⟨rfl,rfl⟩,rfl,rfl⟩
   refine e9 (C3 (a:=maskB set) (b:=bitB ((e_ es k).v)) C C) (e9 (Eh (a:=(maskB set) &&& (bitB ((e_ es k).v))) (b:=0#64) C C) (Gr (Ap C C) (Ah (Av (S7 31 8 5 6 12 13 14 C C C C C C C) (Bd C (λc31=>?_) (λc31=>?_))))))
   ·refine A0 (Gm C (Gl2 ty135 ?_))
    refine Ge1 (Cj (α:=Pt) (cs:=[_,_]) (xs:=[⟨(e_ es k).u,(e_ es k).v⟩]) Bu ty135 C C dc dc C C C C) λad3=>?_
    refine Ge2 (Cn (α:=Pt) (e:=135) (xs:=out) (ys:=([⟨(e_ es k).u,(e_ es k).v⟩]:List Pt)) Bu ty135 C C C mm Bk lcn dc C (λ_ _=>am)) λad4 cp5=>?_
    exact Ga C (Bf (Ak (Ai (A0 (Gr (Rad C C) (Gm C (Bf (Ch ((k+1),(ad4),(cp5),(out++([⟨(e_ es k).u,(e_ es k).v⟩]:List Pt))) (by dsimp only;exact ⟨om,(by first|rw [flt_yes om (decide_eq_true ⟨by assumption,by assumption⟩),←ho]|rw [flt_no om (decide_eq_false (λh=>by first|exact absurd h.1 asm|exact absurd h.2 asm)),←ho])⟩)))))))))
   ·exact A4 (Ak (Ai (A0 (Gr (Rad C C) (Gm C (Bf (Ch ((k+1),(a),(c),(out)) (by dsimp only;exact ⟨om,(by first|rw [flt_yes om (decide_eq_true ⟨by assumption,by assumption⟩),←ho]|rw [flt_no om (decide_eq_false (λh=>by first|exact absurd h.1 asm|exact absurd h.2 asm)),←ho])⟩))))))))
  ·exact eb (eb (eb (eb (eb (eb (Gr (Al C C) (Ah (Av (S7 31 8 5 6 12 13 14 C C C C C C C) (Eo C (A4 (Ak (Ai (A0 (Gr (Rad C C) (Gm C (Bf (Ch ((k+1),(a),(c),(out)) (by dsimp only;exact ⟨om,(by first|rw [flt_yes om (decide_eq_true ⟨by assumption,by assumption⟩),←ho]|rw [flt_no om (decide_eq_false (λh=>by first|exact absurd h.1 asm|exact absurd h.2 asm)),←ho])⟩))))))))))))))))))
 ·refine Bp (Ac (Ac (Aw (Ai (Aj (Gm C (Ga C (Ah (Az ?_)))))))))
  have hk2:es.take k=es:=List.take_of_length_le om
  rw [hk2] at ho
  have ho2:out=insideL set es:=ho
  subst ho2
  exact Ba C C (vc 135 (.slice a (insideL set es).length c) (insideL set es)::I) A5 ⟨a,c,rfl,rfl⟩
theorem InsideG_ok{nd:Int}{va vb:Value}{es:List Pt}{set:List Int}(hl:Sl κ I va es)(hs:Sl κ I vb set)(hb:es.length<=1000000):eu prog κ 221 [.agg #[e7 nd,va],vb] I (λr J=>r=e7 ((insideN nd es set:Nat):Int)/\I=J):=by
 refine Ce2 Tryz.func221 C C ?_
 refine Aj (Ge1 (Bg (cs:=[_,_]) C C C) λb1=>Ga C (Ah (Au (Aj (Gl2 ty48 ?_)))))
 refine Gc0 (Am call83 C C (CheckGen_ok (Bj hl))) ?_
 refine Gr (Bx C C) (Ah (Bd C (λc7=>?_) (λc7=>?_)))
 ·exact Aj (Ga C (Ah (Az (Ar (Ba C C I Ay ⟨by unfold insideN;rw [if_pos c7];rfl,rfl⟩)))))
 ·refine A4 (Ai (Aj (Gl2 ty48 ?_)))
  refine Gm C (G.e (Am call275 C C (WithinG_ok (Bj hl) (Bj hs) om)) ?_)
  rintro _ _ ⟨_,_,⟨ad2,cp3,rfl,rfl⟩,rfl,rfl⟩
  exact Gr (Bz Bu C) (Ga C (Ah (Az (Ba C C I Ay ⟨by unfold insideN;rw [if_neg c7],rfl⟩))))
end Go.Sl
