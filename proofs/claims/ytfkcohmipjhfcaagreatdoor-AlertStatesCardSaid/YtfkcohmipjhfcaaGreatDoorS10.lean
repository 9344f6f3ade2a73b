/- A part of the proofs of statements of this seat: contracts of functions, and the plain laws that they lean on. No conditions. -/
import Derived.Test.YtfkcohmipjhfcaaGreatDoorS9
set_option linter.unusedVariables false
set_option linter.unusedSimpArgs false
set_option linter.unusedSectionVars false
open Go.Proofs.Tryz (prog)
namespace Go.Sl
open Go.Proofs
set_option maxRecDepth 4000
set_option maxHeartbeats 1000000 in
theorem PutP_base{κ:Ctx}{I:List Item}{b:Nat}{nd:Int}{a0 o0:Option Addr}{c0 d0:Nat}{xs:List Lk}{out:List Ev}{va:Value}{es:List Ev}(hl:Sl κ I va es)(hval:checkS nd xs=0)(hfit:∀j:Nat,j<es.length->FitOk nd (e_ es j))(hsz:xs.length+es.length<=1000000)(hso:out.length+es.length<=1000000):ep prog κ 212 [.pointer (some ⟨b,0,none⟩),va] (e8 b [e7 nd,.slice a0 xs.length c0,.slice o0 out.length d0] 241::vc 146 (.slice a0 xs.length c0) (xs)::vc 108 (.slice o0 out.length d0) (out)::I) (λr J=>∃y:Option Addr×Nat×Option Addr×Nat,r = .tuple #[]/\J=e8 b [e7 nd,.slice y.1 (List.foldl em xs es).length y.2.1,.slice y.2.2.1 (out++es).length y.2.2.2] 241::vc 146 (.slice y.1 (List.foldl em xs es).length y.2.1) (List.foldl em xs es)::vc 108 (.slice y.2.2.1 (out++es).length y.2.2.2) (out++es)::I):=by
 refine Ce2 Tryz.func212 C C ?_
 refine Ah (Gm C (Gr (Bx (α:=Ev) (xs:=es) Az C (Bh hl)) (Gm C (Af (A4 (Bu (σ:=Nat×(Option Addr)×Nat×(Option Addr)×Nat) (λs=>([(0,.pointer (some ⟨b,0,none⟩)),(6,va),(7,e7 ((es.length:Nat):Int)),(8,e7 ((s.1:Nat):Int))]:Env)) (λs=>e8 b [e7 nd,.slice s.2.1 (List.foldl em xs (List.take s.1 es)).length s.2.2.1,.slice s.2.2.2.1 (out++List.take s.1 es).length s.2.2.2.2] 241::vc 146 (.slice s.2.1 (List.foldl em xs (List.take s.1 es)).length s.2.2.1) (List.foldl em xs (List.take s.1 es))::vc 108 (.slice s.2.2.2.1 (out++List.take s.1 es).length s.2.2.2.2) (out++List.take s.1 es)::I) (λs=>(s.1<=es.length)/\(checkS nd (List.foldl em xs (List.take s.1 es))=0)) (λs=>es.length - s.1) (0,a0,c0,o0,d0) (show ((0:Nat)<=es.length)/\(checkS nd (List.foldl em xs (List.take (0:Nat) es))=0) from ⟨om,hval⟩) (Aa C (Aa C (Aa C (Aa B9 Bj)))) (show Fit κ _ (e8 b [e7 nd,.slice a0 (List.foldl em xs (List.take 0 es)).length c0,.slice o0 (out++List.take 0 es).length d0] 241::vc 146 (.slice a0 (List.foldl em xs (List.take 0 es)).length c0) (List.foldl em xs (List.take 0 es))::vc 108 (.slice o0 (out++List.take 0 es).length d0) (out++List.take 0 es)::I) from (by rw [show out++List.take 0 es=out from List.append_nil _];exact Dj _)) ?_))))))
 rintro ⟨k,a1,c1,o1,d1⟩ hp
 dsimp only at hp ⊢
 obtain ⟨hk,hv⟩:=hp
 refine Ah (Gr (A9 C C) (Af (Au (A6 C (λc9=>?_) (λc9=>?_)))))
 ·refine Ay (Aj (Au (A4 (Ah (Gr (A3 (α:=Ev) (xs:=es) Az ty108 C C (Bh hl) om om) (Gr (Bp (α:=Ev) (xs:=es) ty108 C (Bh hl) om om) (Ge1 (A8 ty108 C) λb1=>Ge0 (E2 ty108) ?_)))))))
  refine Af (Au (Bl mixed (Br (e8 b1 [e7 ((e_ es k).kd),e7 ((e_ es k).tm),e7 ((e_ es k).u),e7 ((e_ es k).v),e7 ((e_ es k).w),e7 ((e_ es k).lb),e7 ((e_ es k).sg)] 108::I) 13 (Dr 0 C (Ad C) (Dr 1 C (Ad C) (Dr 2 C (Bk C) (Dr 3 C (Ab fld241_0 C) (Dr 5 C (Bq (vs:=[_,_,_,_,_,_,_]) ty108) ?_))))))))
  refine Ds1 4 (Sr C (Bq (vs:=[_,_]) ty111) A5 ?_)
  refine Ds1 6 (Se C (Ao call215 C C (StepP_at (by repeat (first|exact AtF.head _ _|apply AtF.tail)) C (checkS_ok hv).2.2 (by have h:=steps_len (List.take k es) xs;rw [List.length_take] at h;omega))) ?_)
  rintro _ _ ⟨_,_,⟨⟨ad2,cp3,wv4⟩,rfl,rfl⟩,rfl,rfl⟩
  refine ⟨A5,?_⟩
  show D prog κ _ _ _ _ _ _ _ ([(19,.tuple #[.agg #[e7 nd,.slice ad2 (em (List.foldl em xs (List.take k es)) (e_ es k)).length cp3],wv4]),(17,.agg #[e7 nd,.slice a1 (List.foldl em xs (List.take k es)).length c1]),(18,.agg #[e7 ((e_ es k).kd),e7 ((e_ es k).tm),e7 ((e_ es k).u),e7 ((e_ es k).v),e7 ((e_ es k).w),e7 ((e_ es k).lb),e7 ((e_ es k).sg)]),(16,.pointer (some ⟨b,0,none⟩)),(15,.pointer (some ⟨b,0,none⟩)),(14,.pointer (some ⟨b,0,none⟩)),(13,.pointer (some ⟨b,0,none⟩)),(5,.pointer (some ⟨b1,0,none⟩)),(11,.agg #[e7 ((e_ es k).kd),e7 ((e_ es k).tm),e7 ((e_ es k).u),e7 ((e_ es k).v),e7 ((e_ es k).w),e7 ((e_ es k).lb),e7 ((e_ es k).sg)]),(10,elemPtr va (((k:Int)).toNat*Enc.sz Ev)),(9,.bool (decide ((k:Int)<((es.length:Nat):Int)))),(0,.pointer (some ⟨b,0,none⟩)),(6,va),(7,e7 ((es.length:Nat):Int)),(8,e7 ((k:Int)))]:Env) (e8 b1 [e7 ((e_ es k).kd),e7 ((e_ es k).tm),e7 ((e_ es k).u),e7 ((e_ es k).v),e7 ((e_ es k).w),e7 ((e_ es k).lb),e7 ((e_ es k).sg)] 108::e8 b [e7 nd,.slice a1 (List.foldl em xs (List.take k es)).length c1,.slice o1 (out++List.take k es).length d1] 241::vc 146 (.slice ad2 (em (List.foldl em xs (List.take k es)) (e_ es k)).length cp3) (em (List.foldl em xs (List.take k es)) (e_ es k))::vc 108 (.slice o1 (out++List.take k es).length d1) (out++List.take k es)::I)
  refine Dr 7 C (Ad C) (Dr 8 C (A2 C C) (Dr 9 C (A2 C C) (Dr 10 C (Bk C) (Dr 11 C (Ab fld241_0 C) (Ds1 12 (Se0 C (Eff.st (cs:=[_,_,_]) (vs:=[_,_]) (cs':=[_,_,_]) ty111) ?_))))))
  refine Dz (Aj (Aq (S5 5 0 6 7 8 C C C C C) (Bl mixed (Br (e8 b1 [e7 ((e_ es k).kd),e7 ((e_ es k).tm),e7 ((e_ es k).u),e7 ((e_ es k).v),e7 ((e_ es k).w),e7 ((e_ es k).lb),e7 ((e_ es k).sg)] 108::I) 11 (Dr 0 C (Ad C) (Dr 1 C (Ad C) (Dr 2 C (Bk C) (Dr 3 C (Ab fld241_1 C) (Dr 5 C (Bq (vs:=[_,_,_,_,_,_,_]) ty108) ?_)))))))))
  refine Ds (rs:=[4,6]) kr C C (Ej ?_ (Et ?_))
  ·refine Sr C (As ty28) A5 ?_
   refine Ds1 6 (Se1 C (B0 (α:=Ev) (cs:=[e7 ((e_ es k).kd),e7 ((e_ es k).tm),e7 ((e_ es k).u),e7 ((e_ es k).v),e7 ((e_ es k).w),e7 ((e_ es k).lb),e7 ((e_ es k).sg)]) (xs:=[⟨(e_ es k).kd,(e_ es k).tm,(e_ es k).u,(e_ es k).v,(e_ es k).w,(e_ es k).lb,(e_ es k).sg⟩]) Az ty108 C C dc dc C kr C C) λad5=>?_)
   refine Ds1 7 (Se2 C (B1 (α:=Ev) (e:=108) (xs:=out++List.take k es) (ys:=([⟨(e_ es k).kd,(e_ es k).tm,(e_ es k).u,(e_ es k).v,(e_ es k).w,(e_ es k).lb,(e_ es k).sg⟩]:List Ev)) Az ty108 C C C mm Bg (by simp only [List.length_append,List.length_take,List.length_cons,List.length_nil];omega) dc C (λ_ _=>am)) λad6 cp7=>?_)
   refine Dr 8 C (Bk C) (Dr 9 C (Ab fld241_1 C) (Ds1 10 (Se0 C (Eff.st (cs:=[_,_,_]) (vs:=[_]) (cs':=[_,_,_]) ty28) ?_)))
   exact Dz (Ak (Aj (Aq (S4 0 6 7 8 C C C C) (Ax (Gr (Rad C C) (Gm C (Bd (B2 ((k+1),(ad2),(cp3),(ad6),(cp7)) (by dsimp only;exact ⟨om,(by rw [steps_succ om];exact stepL_val hv (hfit k om))⟩) (hI:=by (try dsimp only);exact (by rw [steps_succ om,out_succ om];exact A5))))))))))
  ·refine Se1 C (B0 (α:=Ev) (cs:=[e7 ((e_ es k).kd),e7 ((e_ es k).tm),e7 ((e_ es k).u),e7 ((e_ es k).v),e7 ((e_ es k).w),e7 ((e_ es k).lb),e7 ((e_ es k).sg)]) (xs:=[⟨(e_ es k).kd,(e_ es k).tm,(e_ es k).u,(e_ es k).v,(e_ es k).w,(e_ es k).lb,(e_ es k).sg⟩]) Az ty108 C C dc dc C kr C C) λad8=>?_
   refine Ds1 4 (Sr C (As ty28) A5 ?_)
   refine Ds1 7 (Se2 C (B1 (α:=Ev) (e:=108) (xs:=out++List.take k es) (ys:=([⟨(e_ es k).kd,(e_ es k).tm,(e_ es k).u,(e_ es k).v,(e_ es k).w,(e_ es k).lb,(e_ es k).sg⟩]:List Ev)) Az ty108 C C C mm Bg (by simp only [List.length_append,List.length_take,List.length_cons,List.length_nil];omega) dc C (λ_ _=>am)) λad9 cp10=>?_)
   refine Dr 8 C (Bk C) (Dr 9 C (Ab fld241_1 C) (Ds1 10 (Se0 C (Eff.st (cs:=[_,_,_]) (vs:=[_]) (cs':=[_,_,_]) ty28) ?_)))
   exact Dz (Ak (Aj (Aq (S4 0 6 7 8 C C C C) (Ax (Gr (Rad C C) (Gm C (Bd (B2 ((k+1),(ad2),(cp3),(ad9),(cp10)) (by dsimp only;exact ⟨om,(by rw [steps_succ om];exact stepL_val hv (hfit k om))⟩) (hI:=by (try dsimp only);exact (by rw [steps_succ om,out_succ om];exact A5))))))))))
 ·refine Bs (Ap (Ap (A7 ?_)))
  have hk2:List.take k es=es:=List.take_of_length_le om
  exact V.end0 C (e8 b [e7 nd,.slice a1 (List.foldl em xs es).length c1,.slice o1 (out++es).length d1] 241::vc 146 (.slice a1 (List.foldl em xs es).length c1) (List.foldl em xs es)::vc 108 (.slice o1 (out++es).length d1) (out++es)::I) (by rw [hk2];exact A5) ⟨⟨a1,c1,o1,d1⟩,rfl,rfl⟩
set_option maxHeartbeats 1000000 in
theorem AgeP_base{κ:Ctx}{I:List Item}{b:Nat}{nd wd mo T last:Int}{a0 o0:Option Addr}{c0 d0:Nat}{xs:List Lk}{out:List Ev}(hI0:SlI nd 2 wd last xs)(hw:checkW 2 wd mo=0)(hT:0<=last/\last<=T/\T<=1048576)(hsz:xs.length+out.length<=400000):ep prog κ 211 [.pointer (some ⟨b,0,none⟩),.agg #[e7 2,e7 wd,e7 mo],e7 T] (e8 b [e7 nd,.slice a0 xs.length c0,.slice o0 out.length d0] 241::vc 146 (.slice a0 xs.length c0) (xs)::vc 108 (.slice o0 out.length d0) (out)::I) (λr J=>∃y:Option Addr×Nat×Option Addr×Nat,(r = .tuple #[]/\SlI nd 2 wd T (ageL wd mo T xs out).1/\(ageL wd mo T xs out).1.length+(ageL wd mo T xs out).2.length=xs.length+out.length)/\J=e8 b [e7 nd,.slice y.1 ((ageL wd mo T xs out).1).length y.2.1,.slice y.2.2.1 ((ageL wd mo T xs out).2).length y.2.2.2] 241::vc 146 (.slice y.1 ((ageL wd mo T xs out).1).length y.2.1) ((ageL wd mo T xs out).1)::vc 108 (.slice y.2.2.1 ((ageL wd mo T xs out).2).length y.2.2.2) ((ageL wd mo T xs out).2)::I):=by
 refine Ce3 Tryz.func211 C C ?_
 refine Ah (Ge1 (Bc (cs:=[_,_,_]) C C C) λb1=>Af (A4 (Bu (σ:=(Option Addr)×Nat×(Option Addr)×Nat×(List Lk)×(List Ev)) (λs=>([(0,.pointer (some ⟨b,0,none⟩)),(2,e7 T),(4,.pointer (some ⟨b1,0,none⟩))]:Env)) (λs=>e8 b [e7 nd,.slice s.1 s.2.2.2.2.1.length s.2.1,.slice s.2.2.1 s.2.2.2.2.2.length s.2.2.2.1] 241::vc 146 (.slice s.1 s.2.2.2.2.1.length s.2.1) (s.2.2.2.2.1)::vc 108 (.slice s.2.2.1 s.2.2.2.2.2.length s.2.2.2.1) (s.2.2.2.2.2)::e8 b1 [e7 2,e7 wd,e7 mo] 31::I) (λs=>((ageL wd mo T xs out)=ageL wd mo T s.2.2.2.2.1 s.2.2.2.2.2)/\(SlI nd 2 wd last s.2.2.2.2.1)/\(s.2.2.2.2.1.length+s.2.2.2.2.2.length=xs.length+out.length)) (λs=>s.2.2.2.2.1.length) (a0,c0,o0,d0,xs,out) (show ((ageL wd mo T xs out)=ageL wd mo T (xs:List Lk) (out:List Ev))/\(SlI nd 2 wd last (xs:List Lk))/\((xs:List Lk).length+(out:List Ev).length=xs.length+out.length) from ⟨rfl,hI0,rfl⟩) (Aa C (Aa C (Aa C Bj))) (show Fit κ _ (e8 b [e7 nd,.slice a0 (xs).length c0,.slice o0 (out).length d0] 241::vc 146 (.slice a0 (xs).length c0) ((xs))::vc 108 (.slice o0 (out).length d0) ((out))::e8 b1 [e7 2,e7 wd,e7 mo] 31::I) from B4) ?_)))
 rintro ⟨a1,c1,o1,d1,ys,zs⟩ hp
 dsimp only at hp ⊢
 obtain ⟨hr,hI,hs⟩:=hp
 refine A4 (Au (Bl mixed (Br (e8 b [e7 nd,.slice a1 ys.length c1,.slice o1 zs.length d1] 241::vc 146 (.slice a1 ys.length c1) (ys)::vc 108 (.slice o1 zs.length d1) (zs)::e8 b1 [e7 2,e7 wd,e7 mo] 31::I) 12 (Dr 0 C (Ad C) (Dr 1 C (Bk C) (Dr 2 C (Ab fld241_0 C) (Dr 3 C (Bq (vs:=[_,_]) ty111) ?_)))))))
 refine Dr 4 C (Ab fld31_1 C) (Dr 5 C (As ef) ?_)
 refine Ds1 6 (Se C (Ao call252 C C (First_ok (nd:=nd) Bg (checkS_tm' hI.val) (checkW_wd hw))) ?_)
 rintro _ _ ⟨_,_,⟨zf2,rfl,hfzf2,rfl⟩,rfl,rfl⟩
 refine ⟨A5,?_⟩
 refine Dr 7 C (Ad C) (Dr 8 C (A2 C C) (Dr 9 C (A2 C C) (Dr 10 C (Bb C) (Dr 11 C (Bb C) ?_))))
 have hzf:=hfzf2
 refine Dz (Aj (Aq (S5 7 6 0 2 4 C C C C C) (Au (Ah (Gm C (Gr (C0 C) (Gm C (Ba (d:=20) C (λg20=>?_) (λg20=>?_)))))))))
 ·refine eb (eb (eb (Gr (Am C C) (Af (B7 C (Aw (Ai (Av (Ai (Av ?_))))))))))
  have hstop:¬(0<ys.length/\minT ys+wd<=T):=(λh=>by have hz:=minT_uniq (hzf.1 h.1);omega)
  have hE:(ageL wd mo T xs out)=(ys,zs):=hr.trans (ageL_stop hstop)
  exact V.ret0 C (e8 b [e7 nd,.slice a1 ((ageL wd mo T xs out).1).length c1,.slice o1 ((ageL wd mo T xs out).2).length d1] 241::vc 146 (.slice a1 ((ageL wd mo T xs out).1).length c1) ((ageL wd mo T xs out).1)::vc 108 (.slice o1 ((ageL wd mo T xs out).2).length d1) ((ageL wd mo T xs out).2)::I) (by rw [hE];exact A5) ⟨⟨a1,c1,o1,d1⟩,⟨rfl,by rw [hE];exact hI.later hT.2.1 (λ_=>hstop),by rw [hE];exact hs⟩,rfl⟩
 ·refine e9 (Ad C) (e9 (Ad C) (e9 (Bv C C) (Gr (Al C C) (Af (A6 C (λc24=>?_) (λc24=>?_))))))
  ·refine Aw (Ai (Av (Ai (Av ?_))))
   have hstop:¬(0<ys.length/\minT ys+wd<=T):=(λh=>by have hz:=minT_uniq (hzf.1 h.1);omega)
   have hE:(ageL wd mo T xs out)=(ys,zs):=hr.trans (ageL_stop hstop)
   exact V.ret0 C (e8 b [e7 nd,.slice a1 ((ageL wd mo T xs out).1).length c1,.slice o1 ((ageL wd mo T xs out).2).length d1] 241::vc 146 (.slice a1 ((ageL wd mo T xs out).1).length c1) ((ageL wd mo T xs out).1)::vc 108 (.slice o1 ((ageL wd mo T xs out).2).length d1) ((ageL wd mo T xs out).2)::I) (by rw [hE];exact A5) ⟨⟨a1,c1,o1,d1⟩,⟨rfl,by rw [hE];exact hI.later hT.2.1 (λ_=>hstop),by rw [hE];exact hs⟩,rfl⟩
  ·refine Ay (Aj (Bl mixed (Br (e8 b1 [e7 2,e7 wd,e7 mo] 31::I) 9 (Dr 0 C (Ad C) (Dr 1 C (Ad C) (Dr 2 C (Bk C) (Dr 3 C (Ab fld241_0 C) (Dr 5 C (Bq (vs:=[_,_,_]) ty31) ?_))))))))
   refine Dr 6 C (Ad C) (Ds1 4 (Sr C (Bq (vs:=[_,_]) ty111) A5 ?_))
   refine Ds1 7 (Sc2 C (Ao call213 C C (GoneP_ok (nd:=nd) Bg om (hI.ask hw (by have hzz:=hI.first C om;have hz:=minT_uniq (hzf.1 om);omega) (by have hzz:=hI.first C om;have hz:=minT_uniq (hzf.1 om);omega)))) λad3 cp4=>?_)
   refine Ds1 8 (Se C (Ao call212 C C (Cm (J:=e8 b [e7 nd,.slice a1 ys.length c1,.slice o1 zs.length d1] 241::vc 146 (.slice a1 ys.length c1) (ys)::vc 108 (.slice o1 zs.length d1) (zs)::vc 108 (.slice ad3 (goneL 2 wd mo zf2 ys).length cp4) (goneL 2 wd mo zf2 ys)::e8 b1 [e7 2,e7 wd,e7 mo] 31::I) B4 (PutP_base (nd:=nd) (xs:=ys) (out:=zs) (es:=goneL 2 wd mo zf2 ys) Bg (hI.val) (fitgone hI.val (by have hzz:=hI.first C om;have hz:=minT_uniq (hzf.1 om);omega)) (by have h:=gone_len 2 wd mo zf2 ys;omega) (by have h:=gone_len 2 wd mo zf2 ys;omega)))) ?_)
   rintro _ _ ⟨_,_,⟨⟨ad5,cp6,ad7,cp8⟩,rfl,rfl⟩,rfl,rfl⟩
   refine ⟨A5,?_⟩
   show D prog κ _ _ _ _ _ _ _ ([(33,.tuple #[]),(32,.slice ad3 (goneL 2 wd mo zf2 ys).length cp4),(29,.agg #[e7 nd,.slice a1 ys.length c1]),(31,e7 zf2),(30,.agg #[e7 2,e7 wd,e7 mo]),(28,.pointer (some ⟨b,0,none⟩)),(27,.pointer (some ⟨b,0,none⟩)),(26,.pointer (some ⟨b,0,none⟩)),(25,.pointer (some ⟨b,0,none⟩)),(24,.bool (decide (T<zf2))),(23,.bool (decide (T<zf2))),(22,e7 T),(21,e7 zf2),(20,.bool false),(20,.bool (decide (¬(0<ys.length)))),(19,.bool (decide (¬(0<ys.length)))),(18,.bool (decide (0<ys.length))),(7,.bool (decide (0<ys.length))),(6,e7 zf2),(0,.pointer (some ⟨b,0,none⟩)),(2,e7 T),(4,.pointer (some ⟨b1,0,none⟩))]:Env) (e8 b [e7 nd,.slice ad5 (List.foldl em ys (goneL 2 wd mo zf2 ys)).length cp6,.slice ad7 (zs++(goneL 2 wd mo zf2 ys)).length cp8] 241::vc 146 (.slice ad5 (List.foldl em ys (goneL 2 wd mo zf2 ys)).length cp6) (List.foldl em ys (goneL 2 wd mo zf2 ys))::vc 108 (.slice ad7 (zs++(goneL 2 wd mo zf2 ys)).length cp8) (zs++(goneL 2 wd mo zf2 ys))::vc 108 (.slice ad3 (goneL 2 wd mo zf2 ys).length cp4) (goneL 2 wd mo zf2 ys)::e8 b1 [e7 2,e7 wd,e7 mo] 31::I)
   refine Dz (Ak ?_)
   have hpos:0<ys.length:=by omega
   have hz:zf2=minT ys+wd:=minT_uniq (hzf.1 hpos)
   have hg:List.foldl em ys (goneL 2 wd mo zf2 ys)=List.filter (inW 2 wd mo zf2 ys) ys:=gone_steps hI.val
   have hgl:=gone_len 2 wd mo zf2 ys
   have hal:(List.filter (inW 2 wd mo zf2 ys) ys).length<ys.length:=by rw [hz];exact age_less (wd:=wd) (mo:=mo) hpos
   exact B2 ((ad5),(cp6),(ad7),(cp8),(List.filter (inW 2 wd mo zf2 ys) ys),(zs++goneL 2 wd mo zf2 ys)) (by dsimp only;exact ⟨(by rw [hr,ageL_step ⟨hpos,by omega⟩,←hz]),(hI.filter _),(by rw [List.length_append];omega)⟩) (hlt:=by (try dsimp only);exact hal) (hI:=by (try dsimp only);exact (by rw [hg];exact A5))
variable {κ:Ctx}{I:List Item}
theorem AgeP_two{b:Nat}{nd kd wd mo T last:Int}{a0 o0:Option Addr}{c0 d0:Nat}{xs:List Lk}{out:List Ev}(hk:kd=2)(hI0:SlI nd kd wd last xs)(hw:checkW kd wd mo=0)(hT:0<=last/\last<=T/\T<=1048576)(hsz:xs.length+out.length<=400000):ep prog κ 211 [.pointer (some ⟨b,0,none⟩),.agg #[e7 kd,e7 wd,e7 mo],e7 T] (e8 b [e7 nd,.slice a0 xs.length c0,.slice o0 out.length d0] 241::vc 146 (.slice a0 xs.length c0) (xs)::vc 108 (.slice o0 out.length d0) (out)::I) (λr J=>∃y:Option Addr×Nat×Option Addr×Nat,(r = .tuple #[]/\SlI nd kd wd T (ageL wd mo T xs out).1/\(ageL wd mo T xs out).1.length+(ageL wd mo T xs out).2.length=xs.length+out.length)/\J=e8 b [e7 nd,.slice y.1 ((ageL wd mo T xs out).1).length y.2.1,.slice y.2.2.1 ((ageL wd mo T xs out).2).length y.2.2.2] 241::vc 146 (.slice y.1 ((ageL wd mo T xs out).1).length y.2.1) ((ageL wd mo T xs out).1)::vc 108 (.slice y.2.2.1 ((ageL wd mo T xs out).2).length y.2.2.2) ((ageL wd mo T xs out).2)::I):=by
 subst hk
 exact AgeP_base hI0 hw hT hsz
theorem evStep_three{kd wd mo:Int}{xs:List Lk}{out:List Ev}{e:Ev}{ys:List Lk}{zs:List Ev}(h:agedL kd wd mo e.tm (xs,out)=(ys,zs))(hk:kd=3):evStep kd wd mo (xs,out) e=((em ys e).filter (inW kd wd mo e.tm (em ys e)),zs++[e]++goneL kd wd mo e.tm (em ys e)):=by
 unfold evStep windL;rw [h,if_pos hk]
theorem evStep_not{kd wd mo:Int}{xs:List Lk}{out:List Ev}{e:Ev}{ys:List Lk}{zs:List Ev}(h:agedL kd wd mo e.tm (xs,out)=(ys,zs))(hk:¬kd=3):evStep kd wd mo (xs,out) e=(em ys e,zs++[e]):=by
 unfold evStep windL;rw [h,if_neg hk]
theorem checkW_one{kd wd mo:Int}(h:checkW kd wd mo=0)(hk:kd=2):1<=wd:=by
 unfold checkW at h
 split at h
 ·cases h
 ·split at h
  ·cases h
  ·omega
theorem lastT_ge{nd:Int}{es:List Ev}(h:StOk nd es){k:Nat}(hk:k<=es.length):0<=lastT es k:=by
 cases k with
 |zero=>exact Int.le_refl _
 |succ k=>rw [lastT_succ];exact (h.fit k om).tm.1
theorem slideE_st{nd kd wd mo:Int}{es:List Ev}(h1:¬checkW kd wd mo≠0):slideE nd kd wd mo es=streamE nd es:=by unfold slideE;rw [if_neg h1]
set_option maxHeartbeats 1000000 in
theorem Slide_ok{nd kd wd mo:Int}{va:Value}{es:List Ev}(hl:Sl κ I va es):ep prog κ 140 [e7 nd,va,.agg #[e7 kd,e7 wd,e7 mo]] I (λr J=>((slideE nd kd wd mo es)≠0/\r = .tuple #[.slice none 0 0,e7 (slideE nd kd wd mo es)]/\I=J)\/(∃a c,(slideE nd kd wd mo es)=0/\r = .tuple #[.slice a (slideS kd wd mo es).2.length c,e7 0]/\J=vc 108 (.slice a (slideS kd wd mo es).2.length c) (slideS kd wd mo es).2::I)):=by
 refine B3 hl.le λhmax=>?_
 refine Ce3 Tryz.func140 C C ?_
 refine Ah (Ge1 (Bc (cs:=[_,_,_]) C C C) λb1=>Ga C (Ga C (Af (Au (Ah (Gl3 ty31 ?_))))))
 refine G.e (Ao call78 C C (CheckW_ok kd wd mo)) ?_
 rintro _ _ ⟨_,_,⟨rfl,rfl⟩,rfl,rfl⟩
 refine Ga C (Af (Ah (Gm C (Gr (Be C C) (Af (A6 C (λc16=>?_) (λc16=>?_)))))))
 ·refine Ah (Gm C (Ga C (Ga C (Af (Aq (S2 7 6 C C) (Aw (Ai ?_)))))))
  have hz:(slideE nd kd wd mo es)=checkW kd wd mo:=by unfold slideE;rw [if_pos c16]
  exact Co C C C I A0 (.inl ⟨by rw [hz];exact c16,by rw [hz],rfl⟩)
 ·refine Ay (Aj (Au (Ah (Gm C (Gm C (G.e (Ao call139 C C (Stream_ok (nd:=nd) (Bh hl))) ?_))))))
  rintro _ _ ⟨_,_,⟨rfl,rfl⟩,rfl,rfl⟩
  refine Ga C (Af (Aq (S4 9 5 0 1 C C C C) (Ah (Gm C (Gr (Be C C) (Af (A6 C (λc22=>?_) (λc22=>?_))))))))
  ·refine Ah (Gm C (Ga C (Ga C (Af (Aw (Ai ?_))))))
   have hz:(slideE nd kd wd mo es)=streamE nd es:=slideE_st c16
   exact Co C C C I A0 (.inl ⟨by rw [hz];exact c22,by rw [hz],rfl⟩)
  ·refine Ay (Aj (Ah (Gm C ?_)))
   have hE:=streamE_ok (Classical.not_not.1 c22)
   refine Gr (Bf (cells:=[_,_]) ty111 Cw pl111 C C) (Gr (Bf (cells:=[_,_,_]) ty241 Tryz.underlying241 pl241 C C) (Ge1 (Bc (cs:=[_,_,_]) C C C) λb2=>Ga C (Af (Au (Ah (Gm C (Gr (Bx (α:=Ev) (xs:=es) Az C (Bh hl)) (Gm C (Af (Aq (S5 30 29 28 10 5 C C C C C) (A4 (Bu (σ:=Nat×(Option Addr)×Nat×(Option Addr)×Nat×(List Lk)×(List Ev)) (λs=>([(5,.pointer (some ⟨b1,0,none⟩)),(10,.pointer (some ⟨b2,0,none⟩)),(28,va),(29,e7 ((es.length:Nat):Int)),(30,e7 ((s.1:Nat):Int))]:Env)) (λs=>e8 b2 [e7 nd,.slice s.2.1 s.2.2.2.2.2.1.length s.2.2.1,.slice s.2.2.2.1 s.2.2.2.2.2.2.length s.2.2.2.2.1] 241::vc 146 (.slice s.2.1 s.2.2.2.2.2.1.length s.2.2.1) (s.2.2.2.2.2.1)::vc 108 (.slice s.2.2.2.1 s.2.2.2.2.2.2.length s.2.2.2.2.1) (s.2.2.2.2.2.2)::e8 b1 [e7 kd,e7 wd,e7 mo] 31::I) (λs=>(s.1<=es.length)/\(slideS kd wd mo (List.take s.1 es)=(s.2.2.2.2.2.1,s.2.2.2.2.2.2))/\(SlI nd kd wd (lastT es s.1) s.2.2.2.2.2.1)/\(s.2.2.2.2.2.1.length+s.2.2.2.2.2.2.length<=2*s.1)) (λs=>es.length - s.1) (0,none,0,none,0,[],[]) (show ((0:Nat)<=es.length)/\(slideS kd wd mo (List.take (0:Nat) es)=(([]:List Lk),([]:List Ev)))/\(SlI nd kd wd (lastT es (0:Nat)) ([]:List Lk))/\(([]:List Lk).length+([]:List Ev).length<=2*(0:Nat)) from ⟨om,rfl,(SlI.nil hE.nodes),(by simp)⟩) (Aa C (Aa C (Aa C (Aa C (Aa B9 Bj))))) (show Fit κ _ (e8 b2 [e7 nd,.slice none ([]).length 0,.slice none ([]).length 0] 241::vc 146 (.slice none ([]).length 0) (([]))::vc 108 (.slice none ([]).length 0) (([]))::e8 b1 [e7 kd,e7 wd,e7 mo] 31::I) from (Cc (Bt 108 _) (Cc (Bt 146 _) B4))) ?_))))))))))))
   rintro ⟨k,a1,c1,o1,d1,xs,out⟩ hp
   dsimp only at hp ⊢
   obtain ⟨hk,hst,hI,hs⟩:=hp
   have hlen:=hE.len
   refine Ah (Gr (A9 C C) (Af (Au (A6 C (λc31=>?_) (λc31=>?_)))))
   ·refine Ay (Aj (Au (A4 (Ah (Gr (A3 (α:=Ev) (xs:=es) Az ty108 C C (Bh hl) om om) (Gr (Bp (α:=Ev) (xs:=es) ty108 C (Bh hl) om om) (Ge1 (A8 ty108 C) λb3=>Ge0 (E2 ty108) ?_)))))))
    have hfe:=hE.fit k om
    have hto:=hE.asc k om
    refine Af (En (σ:=(Option Addr)×Nat×(Option Addr)×Nat×(List Lk)×(List Ev)) (λs=>([(5,.pointer (some ⟨b1,0,none⟩)),(10,.pointer (some ⟨b2,0,none⟩)),(12,.pointer (some ⟨b3,0,none⟩)),(28,va),(29,e7 ((es.length:Nat):Int)),(30,e7 ((k:Int)))]:Env)) (λs=>e8 b2 [e7 nd,.slice s.1 s.2.2.2.2.1.length s.2.1,.slice s.2.2.1 s.2.2.2.2.2.length s.2.2.2.1] 241::vc 146 (.slice s.1 s.2.2.2.2.1.length s.2.1) (s.2.2.2.2.1)::vc 108 (.slice s.2.2.1 s.2.2.2.2.2.length s.2.2.2.1) (s.2.2.2.2.2)::e8 b3 [e7 ((e_ es k).kd),e7 ((e_ es k).tm),e7 ((e_ es k).u),e7 ((e_ es k).v),e7 ((e_ es k).w),e7 ((e_ es k).lb),e7 ((e_ es k).sg)] 108::e8 b1 [e7 kd,e7 wd,e7 mo] 31::I) (λs=>((agedL kd wd mo (e_ es k).tm (xs,out))=(s.2.2.2.2.1,s.2.2.2.2.2))/\(SlI nd kd wd (e_ es k).tm s.2.2.2.2.1)/\(s.2.2.2.2.1.length+s.2.2.2.2.2.length=xs.length+out.length)) ?_ ?_)
    ·refine Ah (Gf fld31_0 C (Gl ef ?_))
     refine Gr (Bi C C) (Af (A6 C (λc36=>?_) (λc36=>?_)))
     ·refine Ax (Gm C (Gl3 ty31 ?_))
      refine Gf fld108_1 C (Gl ef ?_)
      refine G.e (Ao call211 C C (Cm (J:=e8 b2 [e7 nd,.slice a1 xs.length c1,.slice o1 out.length d1] 241::vc 146 (.slice a1 xs.length c1) (xs)::vc 108 (.slice o1 out.length d1) (out)::e8 b3 [e7 ((e_ es k).kd),e7 ((e_ es k).tm),e7 ((e_ es k).u),e7 ((e_ es k).v),e7 ((e_ es k).w),e7 ((e_ es k).lb),e7 ((e_ es k).sg)] 108::e8 b1 [e7 kd,e7 wd,e7 mo] 31::I) B4 (AgeP_two (nd:=nd) (T:=(e_ es k).tm) (xs:=xs) (out:=out) c36 hI (Classical.not_not.1 c16) ⟨lastT_ge hE om,hto,hfe.tm.2⟩ om))) ?_
      rintro _ _ ⟨_,_,⟨⟨ad4,cp5,ad6,cp7⟩,⟨rfl,hag⟩,rfl⟩,rfl,rfl⟩
      show G prog κ _ _ _ _ ([(41,.tuple #[]),(40,e7 ((e_ es k).tm)),(39,.pointer (some ⟨b3,1,none⟩)),(38,.agg #[e7 kd,e7 wd,e7 mo]),(37,.pointer (some ⟨b2,0,none⟩)),(36,.bool (decide (kd=2))),(35,e7 kd),(34,.pointer (some ⟨b1,0,none⟩)),(12,.pointer (some ⟨b3,0,none⟩)),(33,.agg #[e7 ((e_ es k).kd),e7 ((e_ es k).tm),e7 ((e_ es k).u),e7 ((e_ es k).v),e7 ((e_ es k).w),e7 ((e_ es k).lb),e7 ((e_ es k).sg)]),(32,elemPtr va (((k:Int)).toNat*Enc.sz Ev)),(31,.bool (decide ((k:Int)<((es.length:Nat):Int)))),(5,.pointer (some ⟨b1,0,none⟩)),(10,.pointer (some ⟨b2,0,none⟩)),(28,va),(29,e7 ((es.length:Nat):Int)),(30,e7 ((k:Int)))]:Env) (e8 b2 [e7 nd,.slice ad4 ((ageL wd mo ((e_ es k).tm) xs out).1).length cp5,.slice ad6 ((ageL wd mo ((e_ es k).tm) xs out).2).length cp7] 241::vc 146 (.slice ad4 ((ageL wd mo ((e_ es k).tm) xs out).1).length cp5) ((ageL wd mo ((e_ es k).tm) xs out).1)::vc 108 (.slice ad6 ((ageL wd mo ((e_ es k).tm) xs out).2).length cp7) ((ageL wd mo ((e_ es k).tm) xs out).2)::e8 b3 [e7 ((e_ es k).kd),e7 ((e_ es k).tm),e7 ((e_ es k).u),e7 ((e_ es k).v),e7 ((e_ es k).w),e7 ((e_ es k).lb),e7 ((e_ es k).sg)] 108::e8 b1 [e7 kd,e7 wd,e7 mo] 31::I)
      exact Bd (Di ((ad4),(cp5),(ad6),(cp7),((ageL wd mo (e_ es k).tm xs out).1),((ageL wd mo (e_ es k).tm xs out).2)) (by dsimp only;exact ⟨(by unfold agedL;rw [if_pos c36]),hag.1,hag.2⟩))
     ·exact Ay (Di ((a1),(c1),(o1),(d1),(xs),(out)) (by dsimp only;exact ⟨(by unfold agedL;rw [if_neg c36]),(hI.later hto (λh=>absurd h c36)),rfl⟩))
    ·rintro ⟨a2,c2,o2,d2,ys,zs⟩ hp
     obtain ⟨hag,hI2,hs2⟩:((agedL kd wd mo (e_ es k).tm (xs,out))=(ys,zs))/\(SlI nd kd wd (e_ es k).tm ys)/\(ys.length+zs.length=xs.length+out.length):=hp
     show W prog κ 64 _ _ ([(5,.pointer (some ⟨b1,0,none⟩)),(10,.pointer (some ⟨b2,0,none⟩)),(12,.pointer (some ⟨b3,0,none⟩)),(28,va),(29,e7 ((es.length:Nat):Int)),(30,e7 ((k:Int)))]:Env) (e8 b2 [e7 nd,.slice a2 ys.length c2,.slice o2 zs.length d2] 241::vc 146 (.slice a2 ys.length c2) (ys)::vc 108 (.slice o2 zs.length d2) (zs)::e8 b3 [e7 ((e_ es k).kd),e7 ((e_ es k).tm),e7 ((e_ es k).u),e7 ((e_ es k).v),e7 ((e_ es k).w),e7 ((e_ es k).lb),e7 ((e_ es k).sg)] 108::e8 b1 [e7 kd,e7 wd,e7 mo] 31::I)
     refine Ah (Gm C (Gl7 ty108 ?_))
     refine Ge1 (B0 (α:=Ev) (cs:=[e7 ((e_ es k).kd),e7 ((e_ es k).tm),e7 ((e_ es k).u),e7 ((e_ es k).v),e7 ((e_ es k).w),e7 ((e_ es k).lb),e7 ((e_ es k).sg)]) (xs:=[⟨(e_ es k).kd,(e_ es k).tm,(e_ es k).u,(e_ es k).v,(e_ es k).w,(e_ es k).lb,(e_ es k).sg⟩]) Az ty108 C C dc dc C kr C C) λad8=>?_
     refine G.e (Ao call212 C C (Cm (J:=e8 b2 [e7 nd,.slice a2 ys.length c2,.slice o2 zs.length d2] 241::vc 146 (.slice a2 ys.length c2) (ys)::vc 108 (.slice o2 zs.length d2) (zs)::vc 108 (.slice ad8 1 1) (([⟨(e_ es k).kd,(e_ es k).tm,(e_ es k).u,(e_ es k).v,(e_ es k).w,(e_ es k).lb,(e_ es k).sg⟩]:List Ev))::e8 b3 [e7 ((e_ es k).kd),e7 ((e_ es k).tm),e7 ((e_ es k).u),e7 ((e_ es k).v),e7 ((e_ es k).w),e7 ((e_ es k).lb),e7 ((e_ es k).sg)] 108::e8 b1 [e7 kd,e7 wd,e7 mo] 31::I) B4 (PutP_base (nd:=nd) (xs:=ys) (out:=zs) (es:=([⟨(e_ es k).kd,(e_ es k).tm,(e_ es k).u,(e_ es k).v,(e_ es k).w,(e_ es k).lb,(e_ es k).sg⟩]:List Ev)) Bg hI2.val (fitone hfe) (by have h:=stepL_len ys (e_ es k);have h9:=gone_len kd wd mo (e_ es k).tm (em ys (e_ es k));first|(simp only [List.length_append,List.length_cons,List.length_nil];omega)|omega) (by have h:=stepL_len ys (e_ es k);have h9:=gone_len kd wd mo (e_ es k).tm (em ys (e_ es k));first|(simp only [List.length_append,List.length_cons,List.length_nil];omega)|omega)))) ?_
     rintro _ _ ⟨_,_,⟨⟨ad9,cp10,ad11,cp12⟩,rfl,rfl⟩,rfl,rfl⟩
     show G prog κ _ _ _ _ ([(45,.tuple #[]),(44,.slice ad8 1 1),(43,.agg #[e7 ((e_ es k).kd),e7 ((e_ es k).tm),e7 ((e_ es k).u),e7 ((e_ es k).v),e7 ((e_ es k).w),e7 ((e_ es k).lb),e7 ((e_ es k).sg)]),(42,.pointer (some ⟨b2,0,none⟩)),(5,.pointer (some ⟨b1,0,none⟩)),(10,.pointer (some ⟨b2,0,none⟩)),(12,.pointer (some ⟨b3,0,none⟩)),(28,va),(29,e7 ((es.length:Nat):Int)),(30,e7 ((k:Int)))]:Env) (e8 b2 [e7 nd,.slice ad9 (List.foldl em ys ([⟨(e_ es k).kd,(e_ es k).tm,(e_ es k).u,(e_ es k).v,(e_ es k).w,(e_ es k).lb,(e_ es k).sg⟩]:List Ev)).length cp10,.slice ad11 (zs++([⟨(e_ es k).kd,(e_ es k).tm,(e_ es k).u,(e_ es k).v,(e_ es k).w,(e_ es k).lb,(e_ es k).sg⟩]:List Ev)).length cp12] 241::vc 146 (.slice ad9 (List.foldl em ys ([⟨(e_ es k).kd,(e_ es k).tm,(e_ es k).u,(e_ es k).v,(e_ es k).w,(e_ es k).lb,(e_ es k).sg⟩]:List Ev)).length cp10) (List.foldl em ys ([⟨(e_ es k).kd,(e_ es k).tm,(e_ es k).u,(e_ es k).v,(e_ es k).w,(e_ es k).lb,(e_ es k).sg⟩]:List Ev))::vc 108 (.slice ad11 (zs++([⟨(e_ es k).kd,(e_ es k).tm,(e_ es k).u,(e_ es k).v,(e_ es k).w,(e_ es k).lb,(e_ es k).sg⟩]:List Ev)).length cp12) (zs++([⟨(e_ es k).kd,(e_ es k).tm,(e_ es k).u,(e_ es k).v,(e_ es k).w,(e_ es k).lb,(e_ es k).sg⟩]:List Ev))::vc 108 (.slice ad8 1 1) (([⟨(e_ es k).kd,(e_ es k).tm,(e_ es k).u,(e_ es k).v,(e_ es k).w,(e_ es k).lb,(e_ es k).sg⟩]:List Ev))::e8 b3 [e7 ((e_ es k).kd),e7 ((e_ es k).tm),e7 ((e_ es k).u),e7 ((e_ es k).v),e7 ((e_ es k).w),e7 ((e_ es k).lb),e7 ((e_ es k).sg)] 108::e8 b1 [e7 kd,e7 wd,e7 mo] 31::I)
     show G prog κ _ _ _ _ ([(45,.tuple #[]),(44,.slice ad8 1 1),(43,.agg #[e7 ((e_ es k).kd),e7 ((e_ es k).tm),e7 ((e_ es k).u),e7 ((e_ es k).v),e7 ((e_ es k).w),e7 ((e_ es k).lb),e7 ((e_ es k).sg)]),(42,.pointer (some ⟨b2,0,none⟩)),(5,.pointer (some ⟨b1,0,none⟩)),(10,.pointer (some ⟨b2,0,none⟩)),(12,.pointer (some ⟨b3,0,none⟩)),(28,va),(29,e7 ((es.length:Nat):Int)),(30,e7 ((k:Int)))]:Env) (e8 b2 [e7 nd,.slice ad9 (em ys (e_ es k)).length cp10,.slice ad11 (zs++[(e_ es k)]).length cp12] 241::vc 146 (.slice ad9 (em ys (e_ es k)).length cp10) (em ys (e_ es k))::vc 108 (.slice ad11 (zs++[(e_ es k)]).length cp12) (zs++[(e_ es k)])::vc 108 (.slice ad8 1 1) (([⟨(e_ es k).kd,(e_ es k).tm,(e_ es k).u,(e_ es k).v,(e_ es k).w,(e_ es k).lb,(e_ es k).sg⟩]:List Ev))::e8 b3 [e7 ((e_ es k).kd),e7 ((e_ es k).tm),e7 ((e_ es k).u),e7 ((e_ es k).v),e7 ((e_ es k).w),e7 ((e_ es k).lb),e7 ((e_ es k).sg)] 108::e8 b1 [e7 kd,e7 wd,e7 mo] 31::I)
     refine Af (Ah (Gf fld31_0 C (Gl ef ?_)))
     refine Gr (Bi C C) ?_
     have hI3:SlI nd kd wd (e_ es k).tm (em ys (e_ es k)):=hI2.step hfe rfl (checkW_one (Classical.not_not.1 c16))
     refine Af (A6 C (λc48=>?_) (λc48=>?_))
     ·refine Bl mixed (Br (e8 b3 [e7 ((e_ es k).kd),e7 ((e_ es k).tm),e7 ((e_ es k).u),e7 ((e_ es k).v),e7 ((e_ es k).w),e7 ((e_ es k).lb),e7 ((e_ es k).sg)] 108::e8 b1 [e7 kd,e7 wd,e7 mo] 31::I) 10 (Dr 0 C (Ad C) (Dr 1 C (Ad C) (Dr 2 C (Bk C) (Dr 3 C (Ab fld241_0 C) (Dr 5 C (Bq (vs:=[_,_,_]) ty31) ?_))))))
      refine Dr 6 C (Ab fld108_1 C) (Dr 7 C (As ef) ?_)
      refine Ds1 4 (Sr C (Bq (vs:=[_,_]) ty111) A5 ?_)
      refine Ds1 8 (Sc2 C (Ao call213 C C (GoneP_ok (nd:=nd) Bg (by have h:=stepL_len ys (e_ es k);show (em ys (e_ es k)).length<=1000000;omega) (hI3.ask (Classical.not_not.1 c16) hfe.tm (Int.le_refl _)))) λad13 cp14=>?_)
      refine Ds1 9 (Se C (Ao call212 C C (Cm (J:=e8 b2 [e7 nd,.slice ad9 (em ys (e_ es k)).length cp10,.slice ad11 (zs++[(e_ es k)]).length cp12] 241::vc 146 (.slice ad9 (em ys (e_ es k)).length cp10) (em ys (e_ es k))::vc 108 (.slice ad11 (zs++[(e_ es k)]).length cp12) (zs++[(e_ es k)])::vc 108 (.slice ad13 (goneL kd wd mo ((e_ es k).tm) (em ys (e_ es k))).length cp14) (goneL kd wd mo ((e_ es k).tm) (em ys (e_ es k)))::vc 108 (.slice ad8 1 1) (([⟨(e_ es k).kd,(e_ es k).tm,(e_ es k).u,(e_ es k).v,(e_ es k).w,(e_ es k).lb,(e_ es k).sg⟩]:List Ev))::e8 b3 [e7 ((e_ es k).kd),e7 ((e_ es k).tm),e7 ((e_ es k).u),e7 ((e_ es k).v),e7 ((e_ es k).w),e7 ((e_ es k).lb),e7 ((e_ es k).sg)] 108::e8 b1 [e7 kd,e7 wd,e7 mo] 31::I) B4 (PutP_base (nd:=nd) (xs:=em ys (e_ es k)) (out:=zs++[(e_ es k)]) (es:=goneL kd wd mo ((e_ es k).tm) (em ys (e_ es k))) Bg hI3.val (fitgone hI3.val hfe.tm) (by have h:=stepL_len ys (e_ es k);have h9:=gone_len kd wd mo (e_ es k).tm (em ys (e_ es k));first|(simp only [List.length_append,List.length_cons,List.length_nil];omega)|omega) (by have h:=stepL_len ys (e_ es k);have h9:=gone_len kd wd mo (e_ es k).tm (em ys (e_ es k));first|(simp only [List.length_append,List.length_cons,List.length_nil];omega)|omega)))) ?_)
      rintro _ _ ⟨_,_,⟨⟨ad15,cp16,ad17,cp18⟩,rfl,rfl⟩,rfl,rfl⟩
      refine ⟨A5,?_⟩
      show D prog κ _ _ _ _ _ _ _ ([(58,.tuple #[]),(57,.slice ad13 (goneL kd wd mo ((e_ es k).tm) (em ys (e_ es k))).length cp14),(53,.agg #[e7 nd,.slice ad9 (em ys (e_ es k)).length cp10]),(56,e7 ((e_ es k).tm)),(55,.pointer (some ⟨b3,1,none⟩)),(54,.agg #[e7 kd,e7 wd,e7 mo]),(52,.pointer (some ⟨b2,0,none⟩)),(51,.pointer (some ⟨b2,0,none⟩)),(50,.pointer (some ⟨b2,0,none⟩)),(49,.pointer (some ⟨b2,0,none⟩)),(48,.bool (decide (kd=3))),(47,e7 kd),(46,.pointer (some ⟨b1,0,none⟩)),(45,.tuple #[]),(44,.slice ad8 1 1),(43,.agg #[e7 ((e_ es k).kd),e7 ((e_ es k).tm),e7 ((e_ es k).u),e7 ((e_ es k).v),e7 ((e_ es k).w),e7 ((e_ es k).lb),e7 ((e_ es k).sg)]),(42,.pointer (some ⟨b2,0,none⟩)),(5,.pointer (some ⟨b1,0,none⟩)),(10,.pointer (some ⟨b2,0,none⟩)),(12,.pointer (some ⟨b3,0,none⟩)),(28,va),(29,e7 ((es.length:Nat):Int)),(30,e7 ((k:Int)))]:Env) (e8 b2 [e7 nd,.slice ad15 (List.foldl em (em ys (e_ es k)) (goneL kd wd mo ((e_ es k).tm) (em ys (e_ es k)))).length cp16,.slice ad17 ((zs++[(e_ es k)])++(goneL kd wd mo ((e_ es k).tm) (em ys (e_ es k)))).length cp18] 241::vc 146 (.slice ad15 (List.foldl em (em ys (e_ es k)) (goneL kd wd mo ((e_ es k).tm) (em ys (e_ es k)))).length cp16) (List.foldl em (em ys (e_ es k)) (goneL kd wd mo ((e_ es k).tm) (em ys (e_ es k))))::vc 108 (.slice ad17 ((zs++[(e_ es k)])++(goneL kd wd mo ((e_ es k).tm) (em ys (e_ es k)))).length cp18) ((zs++[(e_ es k)])++(goneL kd wd mo ((e_ es k).tm) (em ys (e_ es k))))::vc 108 (.slice ad13 (goneL kd wd mo ((e_ es k).tm) (em ys (e_ es k))).length cp14) (goneL kd wd mo ((e_ es k).tm) (em ys (e_ es k)))::vc 108 (.slice ad8 1 1) (([⟨(e_ es k).kd,(e_ es k).tm,(e_ es k).u,(e_ es k).v,(e_ es k).w,(e_ es k).lb,(e_ es k).sg⟩]:List Ev))::e8 b3 [e7 ((e_ es k).kd),e7 ((e_ es k).tm),e7 ((e_ es k).u),e7 ((e_ es k).v),e7 ((e_ es k).w),e7 ((e_ es k).lb),e7 ((e_ es k).sg)] 108::e8 b1 [e7 kd,e7 wd,e7 mo] 31::I)
      refine Dz (Ak (Aj (Aq (S5 5 10 28 29 30 C C C C C) (Ax (Gr (Rad C C) (Gm C (Bd ?_)))))))
      have hgs:=gone_steps (kd:=kd) (wd:=wd) (mo:=mo) (nw:=(e_ es k).tm) hI3.val
      have hgl:=gone_len kd wd mo (e_ es k).tm (em ys (e_ es k))
      have hsl:=stepL_len ys (e_ es k)
      exact B2 ((k+1),(ad15),(cp16),(ad17),(cp18),(List.filter (inW kd wd mo (e_ es k).tm (em ys (e_ es k))) (em ys (e_ es k))),(zs++[(e_ es k)]++goneL kd wd mo (e_ es k).tm (em ys (e_ es k)))) (by dsimp only;exact ⟨om,(by rw [slideS_succ om,hst];exact evStep_three hag c48),(by rw [lastT_succ];exact hI3.filter _),lap⟩) (hI:=by (try dsimp only);exact (by rw [←hgs];exact A5))
     ·refine Ay (Ak (Aj (Ax (Gr (Rad C C) (Gm C (Bd ?_))))))
      have hsl:=stepL_len ys (e_ es k)
      exact B2 ((k+1),(ad9),(cp10),(ad11),(cp12),((em ys (e_ es k))),(zs++[(e_ es k)])) (by dsimp only;exact ⟨om,(by rw [slideS_succ om,hst];exact evStep_not hag c48),(by rw [lastT_succ];exact hI3),lap⟩)
   ·refine Bs (Ap (Ap (A7 (Aj (Ah (Gm C (Gr (Bk C) (Gf fld241_1 C (Gl ty28 ?_)))))))))
    refine Ga C (Ga C (Af (Aw ?_)))
    have hE2:(slideS kd wd mo es)=(xs,out):=by rw [←hst,show List.take k es=es from List.take_of_length_le om]
    have hz:(slideE nd kd wd mo es)=0:=(slideE_st c16).trans (Classical.not_not.1 c22)
    exact Co C C C (vc 108 (.slice o1 (slideS kd wd mo es).2.length d1) (slideS kd wd mo es).2::I) (by rw [hE2];exact A5) (.inr ⟨o1,d1,hz,by rw [hE2],rfl⟩)
theorem eqt135:EqT prog 135 Pt:=EqT.flat (λp:Pt=>[p.u,p.v]) (λ_=>rfl) (λx y h=>by cases x;cases y;simpa using h) (n:=2) (λ_=>rfl) kr kr kr kr kr
theorem CheckGen_ok{κ:Ctx}{I:List Item}{nd:Int}{v:Value}{es:List Pt}(hl:Sl κ I v es):ep prog κ 83 [.agg #[e7 nd,v]] I (λr J=>r=e7 (checkG nd es)/\I=J):=by
 refine B3 hl.le λhmax=>?_
 refine Ce1 Tryz.func83 C C ?_
 refine Ah (Ge1 (Bc (cs:=[_,_]) C C C) λb1=>Ga C (Af (Au (Ah (Gf fld48_0 C (Gl ef ?_))))))
 refine Gr (A9 C C) (Gm C (Ba (d:=8) C (λg8=>?_) (λg8=>?_)))
 ·exact eb (eb (eb (Gr (Am C C) (Af (B7 C (Ah (Ga C (Af (Aw (Ai (A1 C C I A0 ⟨by rw [show checkG nd es=1 from (by unfold checkG;rw [if_pos om])],rfl⟩)))))))))))
 ·refine e9 (Ab fld48_0 C) (e9 (As ef) ?_)
  refine e9 (Bv C C) (Gr (Al C C) (Af (A6 C (λc12=>?_) (λc12=>?_))))
  ·exact Ah (Ga C (Af (Aw (Ai (A1 C C I A0 ⟨by rw [show checkG nd es=1 from (by unfold checkG;rw [if_pos om])],rfl⟩)))))
  ·refine Ay (Aj (Au (Ah (Gf fld48_1 C (Gl ty46 ?_)))))
   refine Gr (Bx (α:=Pt) (xs:=es) Bo C (Bh hl)) (Gm C (Af (Aq (S4 16 15 14 1 C C C C) (A4 (Bu (σ:=Nat) (λs=>([(1,.pointer (some ⟨b1,0,none⟩)),(14,v),(15,e7 ((es.length:Nat):Int)),(16,e7 ((s:Nat):Int))]:Env)) (λs=>e8 b1 [e7 nd,v] 48::I) (λs=>(s<=es.length)/\(checkG nd es=scanL (badE nd) Pt.lt (prevAt es s) (es.drop s))) (λs=>es.length - s) 0 (show ((0:Nat)<=es.length)/\(checkG nd es=scanL (badE nd) Pt.lt (prevAt es (0:Nat)) (es.drop (0:Nat))) from ⟨om,(by unfold checkG;rw [if_neg om];rfl)⟩) (Aa C (Aa C (Aa C (Aa B9 Bj)))) (show Fit κ _ (e8 b1 [e7 nd,v] 48::I) from A5) ?_)))))
   rintro k hp
   obtain ⟨hk,hs⟩:=hp
   refine Ah (Gr (A9 C C) (Af (Au (A6 C (λc17=>?_) (λc17=>?_)))))
   ·refine Ay (Aj (Au (A4 (Ah (Gm C (Gr (A3 (α:=Pt) (xs:=es) Bo ty135 C C (Bh hl) om om) (Gr (Bp (α:=Pt) (xs:=es) ty135 C (Bh hl) om om) (Ge1 (A8 ty135 C) λb2=>Ga C (Ge0 (Cd ty135) ?_)))))))))
    refine Af (A4 (Ah (Gf fld135_0 C (Gl ef ?_))))
    refine Gr (A9 C C) (Gm C (Ba (d:=25) C (λg25=>?_) (λg25=>?_)))
    ·exact eb (eb (eb (eb (eb (Gr (Am C C) (Gm C (eb (eb (eb (eb (eb (Gr (Am C C) (Ga C (Af (Aq (S7 21 3 4 1 14 15 16 C C C C C C C) (B7 C (Ah (Ga C (Af (Aw (Av (Av (Ai (Ai (Av (Ai (A1 C C I A0 ⟨by rw [show checkG nd es=6 from (hs.trans ((Cz om (by unfold badE;rw [if_pos om];decide)).trans (by unfold badE;rw [if_pos om])))],rfl⟩)))))))))))))))))))))))))))
    ·refine e9 (Ab fld135_0 C) (e9 (As ef) ?_)
     refine e9 (Ab fld135_1 C) (e9 (As ef) ?_)
     refine e9 (B8 C C) (Gr (Al C C) (Gm C (Ba (d:=32) C (λg32=>?_) (λg32=>?_))))
     ·exact eb (eb (eb (eb (eb (Gr (Am C C) (Ga C (Af (Aq (S7 21 3 4 1 14 15 16 C C C C C C C) (B7 C (Ah (Ga C (Af (Aw (Av (Av (Ai (Ai (Av (Ai (A1 C C I A0 ⟨by rw [show checkG nd es=6 from (hs.trans ((Cz om (by unfold badE;rw [if_pos om];decide)).trans (by unfold badE;rw [if_pos om])))],rfl⟩))))))))))))))))))))
     ·refine e9 (Ab fld135_1 C) (e9 (As ef) ?_)
      refine e9 (Ab fld48_0 C) (e9 (As ef) ?_)
      refine e9 (B8 C C) (Gr (Al C C) (Ga C (Af (Aq (S7 21 3 4 1 14 15 16 C C C C C C C) (A6 C (λc21=>?_) (λc21=>?_))))))
      ·exact Ah (Ga C (Af (Aw (Av (Av (Ai (Ai (Av (Ai (A1 C C I A0 ⟨by rw [show checkG nd es=6 from (hs.trans ((Cz om (by unfold badE;rw [if_pos om];decide)).trans (by unfold badE;rw [if_pos om])))],rfl⟩))))))))))
      ·refine Au (Bl mixed (Br (e8 b2 [e7 ((e_ es k).u),e7 ((e_ es k).v)] 135::e8 b1 [e7 nd,v] 48::I) 14 (Dr 0 C (Ad C) (Dr 1 C (Bv C C) (Dr 2 C (Ad C) (C9 (d:=42) C (λg42=>?_) (λg42=>?_)))))))
       ·refine Dro 3 C (Ab fld48_1 C) (Dro 4 C (As ty46) ?_)
        refine Dro 5 C (Ad C) (Dro 6 C (Rsu C C) (Dro 7 C (A3 (α:=Pt) (xs:=es) Bo ty135 C C (Bh hl) om om) (Dro 8 C (Bp (α:=Pt) (xs:=es) ty135 C (Bh hl) om om) (Dro 9 C (Bq (vs:=[_,_]) ty135) ?_))))
        refine Ds1 10 (Se C (Ao call154 C C (Order_ok (e_ es ((k:Int) - 1)) (e_ es k))) ?_)
        rintro _ _ ⟨_,_,⟨rfl,rfl⟩,rfl,rfl⟩
        refine ⟨A0,?_⟩
        refine Dro 11 C (B8 C C) (Dr 12 C (Am C C) (Dr 13 C (Bb C) (Dz (Aj (Aq (S5 39 1 14 15 16 C C C C C) (A6 C (λc39=>?_) (λc39=>?_)))))))
        ·exact Ah (Ga C (Af (Aw (Av (Av (Ai (Ai (Av (Ai (A1 C C I A0 ⟨by rw [show checkG nd es=5 from (hs.trans (scanL_order om (badE_zero.2 om) om (λh=>by have:=(Pt.cmp_lt _ _).2 h;omega)))],rfl⟩))))))))))
        ·exact Ay (Ak (Ak (Aj (Ax (Gr (Rad C C) (Gm C (Bd (B2 ((k+1)) ⟨om,(hs.trans (E3 om (badE_zero.2 om) (λh0=>by first|omega|exact (Pt.cmp_lt _ _).1 om)))⟩))))))))
       ·exact Dpo 3 C (Dpo 4 C (Dpo 5 C (Dpo 6 C (Dpo 7 C (Dpo 8 C (Dpo 9 C (Dpo 10 C (Dpo 11 C (Dr 12 C (Al C C) (Dr 13 C (Bb C) (Dz (Aj (Aq (S5 39 1 14 15 16 C C C C C) (C2 C (Ay (Ak (Ak (Aj (Ax (Gr (Rad C C) (Gm C (Bd (B2 ((k+1)) ⟨om,(hs.trans (E3 om (badE_zero.2 om) (λh0=>by first|omega|exact (Pt.cmp_lt _ _).1 om)))⟩)))))))))))))))))))))))
   ·exact Bs (Ap (Ap (A7 (Aj (Ah (Ga C (Af (Aw (A1 C C I A0 ⟨by rw [show checkG nd es=0 from (hs.trans (scanL_end om))],rfl⟩)))))))))
variable {κ:Ctx}{I:List Item}
def bitB(v:Int):BitVec 64:=if v<0\/64<=v then 0#64 else 1#64 <<< v.toNat
def maskB(l:List Int):BitVec 64:=l.foldl (λm v=>m ||| bitB v) 0#64
def allB(n:Int):BitVec 64:=if n<=0 then 0#64 else if 64<=n then 18446744073709551615#64 else (1#64 <<< n.toNat) - 1#64
theorem maskB_take{l:List Int}{k:Nat}(h:k<l.length):maskB (l.take (k+1))=maskB (l.take k) ||| bitB (e_ l k):=by
 unfold maskB;rw [Cu l k h,List.foldl_append];rfl
def ones1(m:BitVec 64):BitVec 64:=((m >>> (1:Int).toNat) &&& 6148914691236517205#64)+(m &&& 6148914691236517205#64)
def ones2(m:BitVec 64):BitVec 64:=((m >>> (2:Int).toNat) &&& 3689348814741910323#64)+(m &&& 3689348814741910323#64)
def ones3(m:BitVec 64):BitVec 64:=((m >>> (4:Int).toNat)+m) &&& 1085102592571150095#64
def ones4(m:BitVec 64):BitVec 64:=m+(m >>> (8:Int).toNat)
def ones5(m:BitVec 64):BitVec 64:=m+(m >>> (16:Int).toNat)
def ones6(m:BitVec 64):BitVec 64:=m+(m >>> (32:Int).toNat)
def onesB(m:BitVec 64):Int:=((ones6 (ones5 (ones4 (ones3 (ones2 (ones1 m)))))).toNat:Int) % 128
theorem ones_small(m:BitVec 64):(ones6 (ones5 (ones4 (ones3 m)))).toNat<9223372036854775808:=by
 have h3:(ones3 m).toNat<=1085102592571150095:=by unfold ones3;rw [BitVec.toNat_and];exact Nat.and_le_right
 generalize ones3 m=a at h3
 have h4:(ones4 a).toNat<=a.toNat+a.toNat / 256:=by
  unfold ones4;rw [BitVec.toNat_add,BitVec.toNat_ushiftRight,Nat.shiftRight_eq_div_pow,show 2 ^ (8:Int).toNat=256 by decide];exact Nat.mod_le _ _
 generalize ones4 a=b at h4
 have h5:(ones5 b).toNat<=b.toNat+b.toNat / 65536:=by
  unfold ones5;rw [BitVec.toNat_add,BitVec.toNat_ushiftRight,Nat.shiftRight_eq_div_pow,show 2 ^ (16:Int).toNat=65536 by decide];exact Nat.mod_le _ _
 generalize ones5 b=c at h5
 have h6:(ones6 c).toNat<=c.toNat+c.toNat / 4294967296:=by
  unfold ones6;rw [BitVec.toNat_add,BitVec.toNat_ushiftRight,Nat.shiftRight_eq_div_pow,show 2 ^ (32:Int).toNat=4294967296 by decide];exact Nat.mod_le _ _
 omega
theorem Bit_ok(v:Int):ep prog κ 237 [e7 v] I (λr J=>r=U64 (bitB v)/\I=J):=by
 refine Ce1 Tryz.func237 C C ?_
 refine Ah (Ga C (Af (Au (Ah (Gm C (Gr (A9 C C) (Gm C (Ba (d:=5) C (λg5=>?_) (λg5=>?_)))))))))
 ·exact eb (eb (Gr (Am C C) (Af (B7 C (Ah (Ga C (Af (Aw (Ai (A1 C C I A0 ⟨by unfold bitB;rw [if_pos om];rfl,rfl⟩))))))))))
 ·refine e9 (Ad C) (e9 (B8 C C) (Gr (Al C C) (Af (A6 C (λc8=>?_) (λc8=>?_)))))
  ·exact Ah (Ga C (Af (Aw (Ai (A1 C C I A0 ⟨by unfold bitB;rw [if_pos om];rfl,rfl⟩)))))
  ·exact Ay (Aj (Ah (Gm C (Gr (Runs.shlB (a:=1#64) C C om om) (Ga C (Af (Aw (A1 C C I A0 ⟨by unfold bitB;rw [if_neg om],rfl⟩))))))))
theorem MaskOf_ok{v:Value}{l:List Int}(hl:Sl κ I v l):ep prog κ 199 [v] I (λr J=>r=U64 (maskB l)/\I=J):=by
 refine B3 hl.le λhmax=>?_
 refine Ce1 Tryz.func199 C C ?_
 refine Ah (Ga C (Af (Ah (Ga C (Af (Au (Ah (Gm C (Gr (Bx (α:=Int) (xs:=l) Ac C (Bh hl)) (Gm C (Af (A4 (Bu (σ:=Nat×(BitVec 64)) (λs=>([(3,U64 (s.2)),(6,v),(7,e7 ((l.length:Nat):Int)),(8,e7 ((s.1:Nat):Int))]:Env)) (λs=>I) (λs=>(s.1<=l.length)/\(s.2=maskB (l.take s.1))) (λs=>l.length - s.1) (0,0#64) (show ((0:Nat)<=l.length)/\((0#64:BitVec 64)=maskB (l.take (0:Nat))) from ⟨om,rfl⟩) (Aa (Cr C (by first|rfl|simp)) (Aa C (Aa C (Aa B9 Bj)))) (show Fit κ _ I from A5) ?_)))))))))))))
 rintro ⟨k,m⟩ hp
 dsimp only at hp ⊢
 obtain ⟨hk,hm⟩:=hp
 refine Ah (Gr (A9 C C) (Af (Au (A6 C (λc9=>?_) (λc9=>?_)))))
 ·refine Ay (Aj (Au (A4 (Ah (Gr (A3 (α:=Int) (xs:=l) Ac ef C C (Bh hl) om om) (Gr (Bz (xs:=l) ef C (Bh hl) om om) (Ga C (Af (Ax (Gm C (Gm C (G.e (Ao call237 C C (Bit_ok (e_ l k))) ?_))))))))))))
  rintro _ _ ⟨_,_,⟨rfl,rfl⟩,rfl,rfl⟩
  exact Gr (Ez (a:=m) (b:=bitB (e_ l k)) C C) (Ga C (Bd (Ak (Aj (Ax (Gr (Rad C C) (Gm C (Bd (B2 ((k+1),(m ||| (bitB (e_ l k)))) (by dsimp only;exact ⟨om,(by rw [maskB_take om,←hm])⟩))))))))))
 ·refine Bs (Ap (Ap (A7 (Aj (Ah (Gm C (Ga C (Af (Aw ?_)))))))))
  rw [List.take_of_length_le om] at hm
  exact A1 C C I A0 ⟨by rw [hm],rfl⟩
theorem MaskAll_ok(n:Int):ep prog κ 200 [e7 n] I (λr J=>r=U64 (allB n)/\I=J):=by
 refine Ce1 Tryz.func200 C C ?_
 refine Ah (Ga C (Af (Au (A4 (Ah (Gm C (Gr (Du C C) (Ga C (Af (A6 C (λc3=>?_) (λc3=>?_)))))))))))
 ·exact Ah (Ga C (Af (Aw (Av (Ai (A1 C C I A0 ⟨by unfold allB;rw [if_pos om];rfl,rfl⟩))))))
 ·refine Ah (Gm C (Gr (B8 C C) (Ga C (Af (A6 C (λc6=>?_) (λc6=>?_))))))
  ·exact Ah (Ga C (Af (Aw (Av (Ai (A1 C C I A0 ⟨by unfold allB;rw [if_neg om,if_pos om];rfl,rfl⟩))))))
  ·exact Ay (Ak (Aj (Ah (Gm C (Gr (Runs.shlB (a:=1#64) C C om om) (Gr (Runs.subB (a:=(1#64) <<< (n).toNat) (b:=1#64) C C) (Ga C (Af (Aw (A1 C C I A0 ⟨by unfold allB;rw [if_neg om,if_neg om],rfl⟩))))))))))
theorem OnesCount_ok(m:BitVec 64):ep prog κ 271 [U64 m] I (λr J=>r=e7 (onesB m)/\I=J):=by
 refine Ce1 Tryz.func271 C C ?_
 refine Ah (Ga C (Af (Ah (Gm C (Gr (Ey (a:=m) C C om om) (Gr (Cx (a:=m >>> (1:Int).toNat) (b:=6148914691236517205#64) C C) (Gm C (Gr (Cx (a:=m) (b:=6148914691236517205#64) C C) (Gr (Runs.addB (a:=(m >>> (1:Int).toNat) &&& (6148914691236517205#64)) (b:=m &&& (6148914691236517205#64)) C C) (Ga C ?_))))))))))
 generalize hm1:((m >>> (1:Int).toNat) &&& (6148914691236517205#64))+(m &&& (6148914691236517205#64))=m1
 refine Af (Ah (Gm C (Gr (Ey (a:=m1) C C om om) (Gr (Cx (a:=m1 >>> (2:Int).toNat) (b:=3689348814741910323#64) C C) (Gm C (Gr (Cx (a:=m1) (b:=3689348814741910323#64) C C) (Gr (Runs.addB (a:=(m1 >>> (2:Int).toNat) &&& (3689348814741910323#64)) (b:=m1 &&& (3689348814741910323#64)) C C) (Ga C ?_))))))))
 generalize hm2:((m1 >>> (2:Int).toNat) &&& (3689348814741910323#64))+(m1 &&& (3689348814741910323#64))=m2
 refine Af (Aq (S1 0 C) (Ah (Gm C (Gr (Ey (a:=m2) C C om om) (Gm C (Gr (Runs.addB (a:=m2 >>> (4:Int).toNat) (b:=m2) C C) (Gr (Cx (a:=(m2 >>> (4:Int).toNat)+m2) (b:=1085102592571150095#64) C C) (Ga C ?_))))))))
 generalize hm3:((m2 >>> (4:Int).toNat)+m2) &&& (1085102592571150095#64)=m3
 refine Af (Ah (Gm C (Gm C (Gr (Ey (a:=m3) C C om om) (Gr (Runs.addB (a:=m3) (b:=m3 >>> (8:Int).toNat) C C) (Ga C ?_))))))
 generalize hm4:m3+(m3 >>> (8:Int).toNat)=m4
 refine Af (Ah (Gm C (Gm C (Gr (Ey (a:=m4) C C om om) (Gr (Runs.addB (a:=m4) (b:=m4 >>> (16:Int).toNat) C C) (Ga C ?_))))))
 generalize hm5:m4+(m4 >>> (16:Int).toNat)=m5
 refine Af (Aq (S1 0 C) (Ah (Gm C (Gm C (Gr (Ey (a:=m5) C C om om) (Gr (Runs.addB (a:=m5) (b:=m5 >>> (32:Int).toNat) C C) (Ga C ?_)))))))
 generalize hm6:m5+(m5 >>> (32:Int).toNat)=m6
 exact Af (Ah (Gm C (Gr (Runs.toI Do B6 C (by subst hm6 hm5 hm4 hm3;exact ones_small _)) (Gr (Runs.and127 C C om) (Ga C (Af (Aw (A1 C C I A0 ⟨by subst hm6 hm5 hm4 hm3 hm2 hm1;rfl,rfl⟩))))))))
theorem MCount_ok(m:BitVec 64):ep prog κ 219 [U64 m] I (λr J=>r=e7 (onesB m)/\I=J):=by
 refine Ce1 Tryz.func219 C C ?_
 refine Ah (Ga C (Af (Ah (Gm C (Gc0 (Ao call271 C C (OnesCount_ok m)) ?_)))))
 exact Ga C (Af (Aw (A1 C C I A0 ⟨rfl,rfl⟩)))
variable {κ:Ctx}{I:List Item}
theorem bitB_two{v:Int}(h0:0<=v)(h1:v<64):bitB v=BitVec.twoPow 64 v.toNat:=by
 unfold bitB;rw [if_neg om];rfl
theorem getLsb_bitB{v:Int}{i:Nat}(hi:i<64):(bitB v).getLsbD i=decide (v=(i:Int)):=by
 by_cases h:0<=v/\v<64
 ·rw [bitB_two h.1 h.2,BitVec.getLsbD_twoPow]
  have e:(v.toNat=i)↔(v=(i:Int)):=by omega
  simp [hi,h,e]
 ·unfold bitB
  rw [if_pos om]
  have:¬v=(i:Int):=by omega
  simp [this]
theorem getLsb_maskB{i:Nat}(hi:i<64):∀(l:List Int) (m:BitVec 64),(l.foldl (λm v=>m ||| bitB v) m).getLsbD i=(m.getLsbD i||decide ((i:Int)∈l))
 |[],m=>by simp
 |v::l,m=>by
  rw [List.foldl_cons,getLsb_maskB hi l,BitVec.getLsbD_or,getLsb_bitB hi]
  by_cases h1:v=(i:Int)
  ·simp [h1]
  ·have:¬(i:Int)=v:=λe=>h1 e.symm
   simp [h1,this]
theorem mem_maskB{l:List Int}{v:Int}(h0:0<=v)(h1:v<64):(maskB l &&& bitB v≠0#64)↔v∈l:=by
 have hm:(maskB l).getLsbD v.toNat=decide (v∈l):=by
  unfold maskB;rw [getLsb_maskB om,show ((v.toNat:Nat):Int)=v by omega];simp
 rw [bitB_two h0 h1,BitVec.and_twoPow,hm]
 by_cases h:v∈l
 ·simp only [h,decide_true,if_true,iff_true]
  intro e
  have:=congrArg (λb=>BitVec.getLsbD b v.toNat) e
  simp only [BitVec.getLsbD_twoPow] at this
  simp at this
  omega
 ·simp [h]
def inE(set:List Int)(e:Pt):Bool:=decide ((maskB set &&& bitB e.u≠0#64)/\(maskB set &&& bitB e.v≠0#64))
def insideL(set:List Int)(es:List Pt):List Pt:=es.filter (inE set)
theorem inE_eq{nd:Int}{es:List Pt}{set:List Int}(h:GrOk nd es){e:Pt}(he:e∈es):inE set e=decide (e.u∈set/\e.v∈set):=by
 have:=h.edge e he;have:=h.rng
 unfold inE
 rw [decide_eq_decide,mem_maskB om om,mem_maskB om om]
theorem insideL_eq{nd:Int}{es:List Pt}(set:List Int)(h:GrOk nd es):insideL set es=es.filter λe=>decide (e.u∈set/\e.v∈set):=
 List.filter_congr λe he=>inE_eq h he
def insideN(nd:Int)(es:List Pt)(set:List Int):Nat:=if checkG nd es≠0 then 0 else (insideL set es).length
theorem insideN_le(nd:Int)(es:List Pt)(set:List Int):insideN nd es set<=es.length:=by
 unfold insideN;split
 ·exact Nat.zero_le _
 ·exact List.length_filter_le _ _
theorem WithinG_ok{nd:Int}{va vb:Value}{es:List Pt}{set:List Int}(hl:Sl κ I va es)(hs:Sl κ I vb set)(hb:es.length<=1000000):ep prog κ 275 [.agg #[e7 nd,va],vb] I (λr J=>∃a c,r = .slice a (insideL set es).length c/\J=vc 135 (.slice a (insideL set es).length c) (insideL set es)::I):=by
 refine B3 hl.le λhmax=>?_
 refine Ce2 Tryz.func275 C C ?_
 refine Ah (Ge1 (Bc (cs:=[_,_]) C C C) λb1=>Ga C (Af (Ah (Gm C (Gc0 (Ao call199 C C (MaskOf_ok (Bh hs))) ?_)))))
 refine Ga C (Af (Ah (Ga C (Af (Au (Ah (Gf fld48_1 C (Gl ty46 ?_))))))))
 refine Gr (Bx (α:=Pt) (xs:=es) Bo C (Bh hl)) (Gm C (Af (A4 (Bu (σ:=Nat×(Option Addr)×Nat×(List Pt)) (λs=>([(5,U64 (maskB set)),(6,.slice s.2.1 s.2.2.2.length s.2.2.1),(12,va),(13,e7 ((es.length:Nat):Int)),(14,e7 ((s.1:Nat):Int))]:Env)) (λs=>vc 135 (.slice s.2.1 s.2.2.2.length s.2.2.1) (s.2.2.2)::e8 b1 [e7 nd,va] 48::I) (λs=>(s.1<=es.length)/\(s.2.2.2=(es.take s.1).filter (inE set))) (λs=>es.length - s.1) (0,none,0,[]) (show ((0:Nat)<=es.length)/\(([]:List Pt)=(es.take (0:Nat)).filter (inE set)) from ⟨om,rfl⟩) (Aa C (Aa (Cr C (by first|rfl|simp)) (Aa C (Aa C (Aa B9 Bj))))) (show Fit κ _ (vc 135 (.slice none ([]).length 0) (([]))::e8 b1 [e7 nd,va] 48::I) from (Bt _ _)) ?_))))
 rintro ⟨k,a,c,out⟩ hp
 dsimp only at hp ⊢
 obtain ⟨hk,ho⟩:=hp
 have hol:out.length<=es.length:=by rw [ho];refine Nat.le_trans (List.length_filter_le _ _) ?_;simp only [List.length_take];omega
 refine Ah (Gr (A9 C C) (Af (Au (A6 C (λc15=>?_) (λc15=>?_)))))
 ·refine Ay (Aj (Au (A4 (Ah (Gr (A3 (α:=Pt) (xs:=es) Bo ty135 C C (Bh hl) om om) (Gr (Bp (α:=Pt) (xs:=es) ty135 C (Bh hl) om om) (Ge1 (A8 ty135 C) λb2=>Ge0 (Cd ty135) ?_)))))))
  refine Af (Ah (Gm C (Gf fld135_0 C (Gl ef ?_))))
  refine G.e (Ao call237 C C (Bit_ok ((e_ es k).u))) ?_
  rintro _ _ ⟨_,_,⟨rfl,rfl⟩,rfl,rfl⟩
  refine Gr (Cx (a:=maskB set) (b:=bitB ((e_ es k).u)) C C) (Gr (Er (a:=(maskB set) &&& (bitB ((e_ es k).u))) (b:=0#64) C C) (Gm C (Ba (d:=24) C (λg24=>?_) (λg24=>?_))))
  ·refine e9 (Ad C) (e9 (Ab fld135_1 C) (e9 (As ef) ?_))
   refine Ec (Cq C C C) (Ao call237 C C (Bit_ok ((e_ es k).v))) ?_
   rintro _ _ ⟨_,_,⟨rfl,rfl⟩,rfl,rfl⟩
   refine e9 (Cx (a:=maskB set) (b:=bitB ((e_ es k).v)) C C) (e9 (Er (a:=(maskB set) &&& (bitB ((e_ es k).v))) (b:=0#64) C C) (Gr (Am C C) (Af (Aq (S7 31 8 5 6 12 13 14 C C C C C C C) (A6 C (λc31=>?_) (λc31=>?_))))))
   ·refine Ax (Gm C (Gl2 ty135 ?_))
    refine Ge1 (B0 (α:=Pt) (cs:=[_,_]) (xs:=[⟨(e_ es k).u,(e_ es k).v⟩]) Bo ty135 C C dc dc C C C C) λad3=>?_
    refine Ge2 (B1 (α:=Pt) (e:=135) (xs:=out) (ys:=([⟨(e_ es k).u,(e_ es k).v⟩]:List Pt)) Bo ty135 C C C mm Bg lcn dc C (λ_ _=>am)) λad4 cp5=>?_
    exact Ga C (Bd (Ak (Aj (Ax (Gr (Rad C C) (Gm C (Bd (B2 ((k+1),(ad4),(cp5),(out++([⟨(e_ es k).u,(e_ es k).v⟩]:List Pt))) (by dsimp only;exact ⟨om,(by first|rw [flt_yes om (decide_eq_true ⟨by assumption,by assumption⟩),←ho]|rw [flt_no om (decide_eq_false (λh=>by first|exact absurd h.1 asm|exact absurd h.2 asm)),←ho])⟩)))))))))
   ·exact Ay (Ak (Aj (Ax (Gr (Rad C C) (Gm C (Bd (B2 ((k+1),(a),(c),(out)) (by dsimp only;exact ⟨om,(by first|rw [flt_yes om (decide_eq_true ⟨by assumption,by assumption⟩),←ho]|rw [flt_no om (decide_eq_false (λh=>by first|exact absurd h.1 asm|exact absurd h.2 asm)),←ho])⟩))))))))
  ·exact eb (eb (eb (eb (eb (eb (Gr (Al C C) (Af (Aq (S7 31 8 5 6 12 13 14 C C C C C C C) (C2 C (Ay (Ak (Aj (Ax (Gr (Rad C C) (Gm C (Bd (B2 ((k+1),(a),(c),(out)) (by dsimp only;exact ⟨om,(by first|rw [flt_yes om (decide_eq_true ⟨by assumption,by assumption⟩),←ho]|rw [flt_no om (decide_eq_false (λh=>by first|exact absurd h.1 asm|exact absurd h.2 asm)),←ho])⟩))))))))))))))))))
 ·refine Bs (Ap (Ap (A7 (Aj (Ah (Gm C (Ga C (Af (Aw ?_)))))))))
  have hk2:es.take k=es:=List.take_of_length_le om
  rw [hk2] at ho
  have ho2:out=insideL set es:=ho
  subst ho2
  exact A1 C C (vc 135 (.slice a (insideL set es).length c) (insideL set es)::I) A5 ⟨a,c,rfl,rfl⟩
theorem InsideG_ok{nd:Int}{va vb:Value}{es:List Pt}{set:List Int}(hl:Sl κ I va es)(hs:Sl κ I vb set)(hb:es.length<=1000000):ep prog κ 221 [.agg #[e7 nd,va],vb] I (λr J=>r=e7 ((insideN nd es set:Nat):Int)/\I=J):=by
 refine Ce2 Tryz.func221 C C ?_
 refine Ah (Ge1 (Bc (cs:=[_,_]) C C C) λb1=>Ga C (Af (Au (Ah (Gl2 ty48 ?_)))))
 refine Gc0 (Ao call83 C C (CheckGen_ok (Bh hl))) ?_
 refine Gr (Be C C) (Af (A6 C (λc7=>?_) (λc7=>?_)))
 ·exact Ah (Ga C (Af (Aw (Ai (A1 C C I A0 ⟨by unfold insideN;rw [if_pos c7];rfl,rfl⟩)))))
 ·refine Ay (Aj (Ah (Gl2 ty48 ?_)))
  refine Gm C (G.e (Ao call275 C C (WithinG_ok (Bh hl) (Bh hs) om)) ?_)
  rintro _ _ ⟨_,_,⟨ad2,cp3,rfl,rfl⟩,rfl,rfl⟩
  exact Gr (Bm Bo C) (Ga C (Af (Aw (A1 C C I A0 ⟨by unfold insideN;rw [if_neg c7],rfl⟩))))
variable {κ:Ctx}{I:List Item}
structure Fr where
 num:Int
 den:Int
deriving DecidableEq
instance:Inhabited Fr:=⟨⟨0,0⟩⟩
instance:Enc Fr:=⟨λr=>[e7 r.num,e7 r.den],2,by omega,λ_=>rfl,λr u hu=>by
 simp only [List.mem_cons,List.not_mem_nil,or_false] at hu
 rcases hu with rfl|rfl<;>rfl⟩
theorem eqt40:EqT prog 40 Fr:=EqT.flat (λp:Fr=>[p.num,p.den]) (λ_=>rfl) (λx y h=>by cases x;cases y;simpa using h) (n:=2) (λ_=>rfl) kr kr kr kr kr
def gcdI(a b:Int):Int:=((a.toNat.gcd b.toNat:Nat):Int)
theorem gcdI_step{a b:Int}(h0:0<=a)(h1:0<b):gcdI b (Int.tmod a b)=gcdI a b:=by
 unfold gcdI
 rw [Int.tmod_eq_emod_of_nonneg h0,show (a % b).toNat=a.toNat % b.toNat by rw [Int.toNat_emod h0 om]]
 congr 1
 rw [Nat.gcd_comm a.toNat b.toNat,Nat.gcd_rec b.toNat a.toNat,Nat.gcd_comm]
theorem gcdI_zero{a:Int}(h0:0<=a):gcdI a 0=a:=by unfold gcdI;simp;omega
theorem gcdI_pos{a b:Int}(h1:0<b):0<gcdI a b:=by
 unfold gcdI
 have:0<a.toNat.gcd b.toNat:=Nat.gcd_pos_of_pos_right _ om
 omega
theorem gcdI_le{a b:Int}(h1:0<b):gcdI a b<=b:=by
 unfold gcdI
 have:a.toNat.gcd b.toNat<=b.toNat:=Nat.le_of_dvd om (Nat.gcd_dvd_right _ _)
 omega
def mkF(a b:Int):Fr:=⟨a / gcdI a b,b / gcdI a b⟩
theorem mkF_num{a b:Int}(h0:0<=a)(h1:0<b):0<=(mkF a b).num/\(mkF a b).num<=a:=⟨Int.ediv_nonneg h0 (by have:=gcdI_pos (a:=a) h1;omega),Int.ediv_le_self _ h0⟩
theorem mkF_den{a b:Int}(h1:0<b):1<=(mkF a b).den/\(mkF a b).den<=b:=by
 have hg:=gcdI_pos (a:=a) h1
 have hl:=gcdI_le (a:=a) h1
 exact ⟨(Int.le_ediv_iff_mul_le hg).2 om,Int.ediv_le_self _ om⟩
theorem RWithin_ok(n m:Int)(h:0<=m/\m<=9223372036854775807):ep prog κ 157 [e7 n,e7 m] I (λr J=>r = .bool (decide (-m<=n/\n<=m))/\I=J):=by
 refine Ce2 Tryz.func157 C C ?_
 refine Ah (Ga C (Af (Ah (Gm C (Gm C (Gr (Runs.neg C (by unfold InR;omega)) (Gr (B8 C C) (Gm C (Ba (d:=9) C (λg9=>?_) (λg9=>?_))))))))))
 ·exact e9 (Ad C) (e9 (Ad C) (e9 (Du C C) (Gr (Am C C) (Ga C (Af (Aq (S1 4 C) (Aw (A1 C C I A0 ⟨(by first|exact congrArg Value.bool (decide_eq_decide.2 (by skip;omega))|exact congrArg Value.bool (decide_eq_true (by skip;omega)).symm|exact congrArg Value.bool (decide_eq_false (by skip;omega)).symm),rfl⟩))))))))
 ·exact eb (eb (eb (Gr (Al C C) (Ga C (Af (Aq (S1 4 C) (Aw (A1 C C I A0 ⟨(by first|exact congrArg Value.bool (decide_eq_decide.2 (by skip;omega))|exact congrArg Value.bool (decide_eq_true (by skip;omega)).symm|exact congrArg Value.bool (decide_eq_false (by skip;omega)).symm),rfl⟩))))))))
theorem Common_ok(a b:Int)(h0:0<=a)(h1:0<=b):ep prog κ 158 [e7 a,e7 b] I (λr J=>r=e7 (gcdI a b)/\I=J):=by
 refine Ce2 Tryz.func158 C C ?_
 refine Ah (Ga C (Af (Au (A4 (Bu (σ:=Int×Int) (λs=>([(0,e7 (s.1)),(1,e7 (s.2))]:Env)) (λs=>I) (λs=>(0<=s.1)/\(0<=s.2)/\(gcdI s.1 s.2=gcdI a b)) (λs=>s.2.toNat) (a,b) (show (0<=(a:Int))/\(0<=(b:Int))/\(gcdI (a:Int) (b:Int)=gcdI a b) from ⟨om,om,rfl⟩) (Aa B9 (Aa B9 Bj)) (show Fit κ _ I from A5) ?_)))))
 rintro ⟨x,y⟩ hp
 dsimp only at hp ⊢
 obtain ⟨hx,hy,hg⟩:=hp
 refine Au (Ah (Gm C (Gr (Be C C) (Af (A6 C (λc6=>?_) (λc6=>?_))))))
 ·refine Ay (Aj (A4 (Bl mixed (Br I 6 (Dr 0 C (Ad C) (Dr 1 C (Ad C) (Dr 2 C (Ad C) (Dr 3 C (Runs.rem C C om) (Dr 4 C (Bb C) (Dr 5 C (Bb C) (Dz (Ak ?_))))))))))))
  have hm0:=Int.tmod_nonneg y (a:=x) hx
  have hm1:=Int.tmod_lt_of_pos x (b:=y) om
  exact B2 ((y),(Int.tmod x y)) (by dsimp only;exact ⟨om,om,((gcdI_step hx om).trans hg)⟩)
 ·refine Bs (Ap (Ap (A7 (Aj (Ah (Gm C (Ga C (Af (Aw ?_)))))))))
  have hy0:y=0:=by omega
  subst hy0
  exact A1 C C I A0 ⟨by rw [←hg,gcdI_zero hx],rfl⟩
theorem Checked_ok(x:Fr)(h:0<=x.num/\x.num<=1152921504606846976/\x.den<=1152921504606846976):ep prog κ 309 [.agg #[e7 (x.num),e7 (x.den)]] I (λr J=>r = .tuple #[.agg #[e7 x.num,e7 x.den],e7 0]/\I=J):=by
 refine Ce1 Tryz.func309 C C ?_
 refine Ah (Ge1 (Bc (cs:=[_,_]) C C C) λb1=>Ge1 (A8 ty40 C) λb2=>Ga C (Af (Au (Ah (Gf fld40_0 C (Gl ef ?_))))))
 refine G.e (Ao call157 C C (RWithin_ok x.num 1152921504606846976 om)) ?_
 rintro _ _ ⟨_,_,⟨rfl,rfl⟩,rfl,rfl⟩
 refine Gr (C0 C) (Gm C (Ba (d:=8) C (λg8=>?_) (λg8=>?_)))
 ·exact absurd h om
 ·refine e9 (Ab fld40_1 C) (e9 (As ef) ?_)
  refine e9 (Bv C C) (Gr (Al C C) (Af (Aq (S3 12 2 1 C C C) (A6 C (λc12=>?_) (λc12=>?_)))))
  ·exact absurd h om
  ·refine Ay (Aj (Ah (Gl2 ty40 ?_)))
   refine Ge0 (Cd ty40) ?_
   exact Ga C (Af (Aw (Dq C ty40 C C mm C I A0 ⟨rfl,rfl⟩)))
theorem Lowest_ok(a b:Int)(h0:0<=a/\a<=1152921504606846976)(h1:0<b/\b<=1152921504606846976):ep prog κ 272 [e7 a,e7 b] I (λr J=>r = .tuple #[.agg #[e7 (mkF a b).num,e7 (mkF a b).den],e7 0]/\I=J):=by
 refine Ce2 Tryz.func272 C C ?_
 refine Ah (Ge1 (A8 ty40 C) λb1=>Ga C (Af (Au (Ah (Gm C (Gr (A9 C C) (Af (A6 C (λc8=>?_) (λc8=>?_)))))))))
 ·exact absurd c8 om
 ·refine Ay (Aj (Ah (Gm C (Gm C (Gr (Runs.neg C (by unfold InR;omega)) (Gr (D2 C C) (Gm C (Gc0 (Ao call158 C C (Common_ok (if a<(-(a)) then (-(a)) else a) b (by split<;>omega) om)) ?_))))))))
  refine Ga C ?_
  have hmx:(if a < -a then -a else a)=a:=by rw [if_neg om]
  rw [hmx]
  refine Af (Aq (S4 6 4 0 1 C C C C) (Au (Bl mixed (Br (e8 b1 [e7 0,e7 0] 40::I) 10 (Dr 0 C (Ad C) ?_)))))
  have hgp:=gcdI_pos (a:=a) h1.1
  refine Dr 1 C (Ad C) (Dr 2 C (Runs.quo C C om om (by unfold InR;omega)) (Dr 3 C (Ad C) (Dr 4 C (Ad C) (Dr 5 C (Runs.quo C C om om (by unfold InR;omega)) (Dr 6 C (Bf (cells:=[_,_]) ty40 Ch pl40 C C) (Ds1 7 (Sc0 C (Ao call309 C C (Checked_ok (⟨a / (gcdI a b),b / (gcdI a b)⟩:Fr) (by have hn:=mkF_num h0.1 h1.1;have hd:=mkF_den (a:=a) h1.1;exact ⟨hn.1,by have:=hn.2;show (mkF a b).num<=_;omega,by have:=hd.2;show (mkF a b).den<=_;omega⟩))) ?_)))))))
  refine Dr 8 C (A2 C C) (Dr 9 C (A2 C C) (Dg kr ?_))
  refine Ae 10 C (Cd ty40) ?_
  rintro _ _ ⟨rfl,rfl⟩
  refine A.read (i:=11) kr C (Cp C) C C (Bb C) ?_
  refine Dh kr ?_
  exact Aj (Aq (S2 5 4 C C) (Aw (Dq C ty40 C C mm C I A0 ⟨rfl,rfl⟩)))
theorem MakeF_ok(a b:Int)(h0:0<=a/\a<=1152921504606846976)(h1:0<b/\b<=1152921504606846976):ep prog κ 220 [e7 a,e7 b] I (λr J=>r = .tuple #[.agg #[e7 (mkF a b).num,e7 (mkF a b).den],e7 0]/\I=J):=by
 refine Ce2 Tryz.func220 C C ?_
 refine Ah (Ge1 (A8 ty40 C) λb1=>Ga C (Af (Au (A4 (Ah (Gm C (Gr (Bi C C) (Ga C (Af (A6 C (λc6=>?_) (λc6=>?_)))))))))))
 ·exact absurd c6 om
 ·refine Ah (Gm C (G.e (Ao call157 C C (RWithin_ok a 4611686018427387904 om)) ?_))
  rintro _ _ ⟨_,_,⟨rfl,rfl⟩,rfl,rfl⟩
  refine Gm C (Ba (d:=13) C (λg13=>?_) (λg13=>?_))
  ·refine e9 (Ad C) (Ec (Cq C C C) (Ao call157 C C (RWithin_ok b 4611686018427387904 om)) ?_)
   rintro _ _ ⟨_,_,⟨rfl,rfl⟩,rfl,rfl⟩
   refine Gr (Am C C) (Ga C (Af (Aq (S4 10 4 0 1 C C C C) (A6 C (λc10=>?_) (λc10=>?_)))))
   ·refine Ah (Gm C (Gm C (Gc0 (Ao call272 C C (Lowest_ok a b om om)) ?_)))
    refine Gr (A2 C C) (Gr (A2 C C) (Ge0 (Cd ty40) ?_))
    exact Ga C (Af (Aw (Av (Ai (Dq C ty40 C C mm C I A0 ⟨rfl,rfl⟩)))))
   ·exact absurd om c10
  ·exact absurd om g13
theorem onesB_bd(m:BitVec 64):0<=onesB m/\onesB m<128:=by unfold onesB;omega
end Go.Sl
