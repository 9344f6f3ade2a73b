/- A part of the proofs of statements of this seat: contracts of functions, and the plain laws that they lean on. No conditions. -/
import Derived.Test.YtfkcohmipjhfcaaGreatDoorK8
import Derived.Shelf.SortM.Plain
import Derived.Shelf.SortM.SortNone
set_option linter.unusedVariables false
set_option linter.unusedSimpArgs false
set_option linter.unusedSectionVars false
open Go.Proofs.Tryz (prog)
namespace Go.Sl
open Go.Proofs
set_option maxRecDepth 4000
set_option maxHeartbeats 1000000 in
theorem PutP_base{κ:Ctx}{I:List Item}{b:Nat}{nd:Int}{a0 o0:Option Addr}{c0 d0:Nat}{xs:List Lk}{out:List Ev}{va:Value}{es:List Ev}(hl:Sl κ I va es)(hval:checkS nd xs=0)(hfit:∀j:Nat,j<es.length->FitOk nd (e_ es j))(hsz:xs.length+es.length<=1000000)(hso:out.length+es.length<=1000000):eu prog κ 212 [.pointer (some ⟨b,0,none⟩),va] (e8 b [e7 nd,.slice a0 xs.length c0,.slice o0 out.length d0] 241::vc 146 (.slice a0 xs.length c0) (xs)::vc 108 (.slice o0 out.length d0) (out)::I) (λr J=>∃y:Option Addr×Nat×Option Addr×Nat,r = .tuple #[]/\J=e8 b [e7 nd,.slice y.1 (List.foldl ep xs es).length y.2.1,.slice y.2.2.1 (out++es).length y.2.2.2] 241::vc 146 (.slice y.1 (List.foldl ep xs es).length y.2.1) (List.foldl ep xs es)::vc 108 (.slice y.2.2.1 (out++es).length y.2.2.2) (out++es)::I):=by
 refine Ce2 Tryz.func212 C C ?_
 refine Ai (Gm C (Gr (B0 (α:=Ev) (xs:=es) Be C (Ba hl)) (Gm C (Af (A0 (B1 (σ:=Nat×(Option Addr)×Nat×(Option Addr)×Nat) (λs=>([(0,.pointer (some ⟨b,0,none⟩)),(6,va),(7,e7 ((es.length:Nat):Int)),(8,e7 ((s.1:Nat):Int))]:Env)) (λs=>e8 b [e7 nd,.slice s.2.1 (List.foldl ep xs (List.take s.1 es)).length s.2.2.1,.slice s.2.2.2.1 (out++List.take s.1 es).length s.2.2.2.2] 241::vc 146 (.slice s.2.1 (List.foldl ep xs (List.take s.1 es)).length s.2.2.1) (List.foldl ep xs (List.take s.1 es))::vc 108 (.slice s.2.2.2.1 (out++List.take s.1 es).length s.2.2.2.2) (out++List.take s.1 es)::I) (λs=>(s.1<=es.length)/\(checkS nd (List.foldl ep xs (List.take s.1 es))=0)) (λs=>es.length - s.1) (0,a0,c0,o0,d0) (show ((0:Nat)<=es.length)/\(checkS nd (List.foldl ep xs (List.take (0:Nat) es))=0) from ⟨om,hval⟩) (Aa C (Aa C (Aa C (Aa Ca Bp)))) (show Fit κ _ (e8 b [e7 nd,.slice a0 (List.foldl ep xs (List.take 0 es)).length c0,.slice o0 (out++List.take 0 es).length d0] 241::vc 146 (.slice a0 (List.foldl ep xs (List.take 0 es)).length c0) (List.foldl ep xs (List.take 0 es))::vc 108 (.slice o0 (out++List.take 0 es).length d0) (out++List.take 0 es)::I) from (by rw [show out++List.take 0 es=out from List.append_nil _];exact Fit.refl _)) ?_))))))
 rintro ⟨k,a1,c1,o1,d1⟩ hp
 dsimp only at hp ⊢
 obtain ⟨hk,hv⟩:=hp
 refine Ai (Gr (A7 C C) (Af (Ap (A8 C (λc9=>?_) (λc9=>?_)))))
 ·refine Ay (Aj (Ap (A0 (Ai (Gr (Az (α:=Ev) (xs:=es) Be ty108 C C (Ba hl) om om) (Gr (Bz (α:=Ev) (xs:=es) ty108 C (Ba hl) om om) (Ge1 (Au ty108 C) λb1=>Ge0 (Es7_7 ty108) ?_)))))))
  refine Af (Ap (Bl mixed (Bt (e8 b1 [e7 ((e_ es k).kd),e7 ((e_ es k).tm),e7 ((e_ es k).u),e7 ((e_ es k).v),e7 ((e_ es k).w),e7 ((e_ es k).lb),e7 ((e_ es k).sg)] 108::I) 13 (Dr 0 C (Ad C) (Dr 1 C (Ad C) (Dr 2 C (Bm C) (Dr 3 C (Ab fld241_0 C) (Dr 5 C (Bd (vs:=[_,_,_,_,_,_,_]) ty108) ?_))))))))
  refine Ds1 4 (Sr C (Bd (vs:=[_,_]) ty111) A1 ?_)
  refine Ds1 6 (Se C (Ah call215 C C (StepP_at (by repeat (first|exact AtF.head _ _|apply AtF.tail)) C (checkS_ok hv).2.2 (by have h:=steps_len (List.take k es) xs;rw [List.length_take] at h;omega))) ?_)
  rintro _ _ ⟨_,_,⟨⟨ad2,cp3,wv4⟩,rfl,rfl⟩,rfl,rfl⟩
  refine ⟨A1,?_⟩
  show D prog κ _ _ _ _ _ _ _ ([(19,.tuple #[.agg #[e7 nd,.slice ad2 (ep (List.foldl ep xs (List.take k es)) (e_ es k)).length cp3],wv4]),(17,.agg #[e7 nd,.slice a1 (List.foldl ep xs (List.take k es)).length c1]),(18,.agg #[e7 ((e_ es k).kd),e7 ((e_ es k).tm),e7 ((e_ es k).u),e7 ((e_ es k).v),e7 ((e_ es k).w),e7 ((e_ es k).lb),e7 ((e_ es k).sg)]),(16,.pointer (some ⟨b,0,none⟩)),(15,.pointer (some ⟨b,0,none⟩)),(14,.pointer (some ⟨b,0,none⟩)),(13,.pointer (some ⟨b,0,none⟩)),(5,.pointer (some ⟨b1,0,none⟩)),(11,.agg #[e7 ((e_ es k).kd),e7 ((e_ es k).tm),e7 ((e_ es k).u),e7 ((e_ es k).v),e7 ((e_ es k).w),e7 ((e_ es k).lb),e7 ((e_ es k).sg)]),(10,elemPtr va (((k:Int)).toNat*Enc.sz Ev)),(9,.bool (decide ((k:Int)<((es.length:Nat):Int)))),(0,.pointer (some ⟨b,0,none⟩)),(6,va),(7,e7 ((es.length:Nat):Int)),(8,e7 ((k:Int)))]:Env) (e8 b1 [e7 ((e_ es k).kd),e7 ((e_ es k).tm),e7 ((e_ es k).u),e7 ((e_ es k).v),e7 ((e_ es k).w),e7 ((e_ es k).lb),e7 ((e_ es k).sg)] 108::e8 b [e7 nd,.slice a1 (List.foldl ep xs (List.take k es)).length c1,.slice o1 (out++List.take k es).length d1] 241::vc 146 (.slice ad2 (ep (List.foldl ep xs (List.take k es)) (e_ es k)).length cp3) (ep (List.foldl ep xs (List.take k es)) (e_ es k))::vc 108 (.slice o1 (out++List.take k es).length d1) (out++List.take k es)::I)
  refine Dr 7 C (Ad C) (Dr 8 C (Aw C C) (Dr 9 C (Aw C C) (Dr 10 C (Bm C) (Dr 11 C (Ab fld241_0 C) (Ds1 12 (Se0 C (Ce (cs:=[_,_,_]) (vs:=[_,_]) (cs':=[_,_,_]) ty111) ?_))))))
  refine Dz (Aj (Aq (S5 5 0 6 7 8 C C C C C) (Bl mixed (Bt (e8 b1 [e7 ((e_ es k).kd),e7 ((e_ es k).tm),e7 ((e_ es k).u),e7 ((e_ es k).v),e7 ((e_ es k).w),e7 ((e_ es k).lb),e7 ((e_ es k).sg)] 108::I) 11 (Dr 0 C (Ad C) (Dr 1 C (Ad C) (Dr 2 C (Bm C) (Dr 3 C (Ab fld241_1 C) (Dr 5 C (Bd (vs:=[_,_,_,_,_,_,_]) ty108) ?_)))))))))
  refine Cj (rs:=[4,6]) kr C C (Dg ?_ (Ds ?_))
  ·refine Sr C (As ty28) A1 ?_
   refine Ds1 6 (Se1 C (Cf (α:=Ev) (cs:=[e7 ((e_ es k).kd),e7 ((e_ es k).tm),e7 ((e_ es k).u),e7 ((e_ es k).v),e7 ((e_ es k).w),e7 ((e_ es k).lb),e7 ((e_ es k).sg)]) (xs:=[⟨(e_ es k).kd,(e_ es k).tm,(e_ es k).u,(e_ es k).v,(e_ es k).w,(e_ es k).lb,(e_ es k).sg⟩]) Be ty108 C C dc dc C kr C C) λad5=>?_)
   refine Ds1 7 (Se2 C (Cm (α:=Ev) (e:=108) (xs:=out++List.take k es) (ys:=([⟨(e_ es k).kd,(e_ es k).tm,(e_ es k).u,(e_ es k).v,(e_ es k).w,(e_ es k).lb,(e_ es k).sg⟩]:List Ev)) Be ty108 C C C mm Bk (by simp only [List.length_append,List.length_take,List.length_cons,List.length_nil];omega) dc C (λ_ _=>am)) λad6 cp7=>?_)
   refine Dr 8 C (Bm C) (Dr 9 C (Ab fld241_1 C) (Ds1 10 (Se0 C (Ce (cs:=[_,_,_]) (vs:=[_]) (cs':=[_,_,_]) ty28) ?_)))
   exact Dz (Ak (Aj (Aq (S4 0 6 7 8 C C C C) (Ax (Gr (Rad C C) (Gm C (Bi (B5 ((k+1),(ad2),(cp3),(ad6),(cp7)) (by dsimp only;exact ⟨om,(by rw [steps_succ om];exact stepL_val hv (hfit k om))⟩) (hI:=by (try dsimp only);exact (by rw [steps_succ om,out_succ om];exact A1))))))))))
  ·refine Se1 C (Cf (α:=Ev) (cs:=[e7 ((e_ es k).kd),e7 ((e_ es k).tm),e7 ((e_ es k).u),e7 ((e_ es k).v),e7 ((e_ es k).w),e7 ((e_ es k).lb),e7 ((e_ es k).sg)]) (xs:=[⟨(e_ es k).kd,(e_ es k).tm,(e_ es k).u,(e_ es k).v,(e_ es k).w,(e_ es k).lb,(e_ es k).sg⟩]) Be ty108 C C dc dc C kr C C) λad8=>?_
   refine Ds1 4 (Sr C (As ty28) A1 ?_)
   refine Ds1 7 (Se2 C (Cm (α:=Ev) (e:=108) (xs:=out++List.take k es) (ys:=([⟨(e_ es k).kd,(e_ es k).tm,(e_ es k).u,(e_ es k).v,(e_ es k).w,(e_ es k).lb,(e_ es k).sg⟩]:List Ev)) Be ty108 C C C mm Bk (by simp only [List.length_append,List.length_take,List.length_cons,List.length_nil];omega) dc C (λ_ _=>am)) λad9 cp10=>?_)
   refine Dr 8 C (Bm C) (Dr 9 C (Ab fld241_1 C) (Ds1 10 (Se0 C (Ce (cs:=[_,_,_]) (vs:=[_]) (cs':=[_,_,_]) ty28) ?_)))
   exact Dz (Ak (Aj (Aq (S4 0 6 7 8 C C C C) (Ax (Gr (Rad C C) (Gm C (Bi (B5 ((k+1),(ad2),(cp3),(ad9),(cp10)) (by dsimp only;exact ⟨om,(by rw [steps_succ om];exact stepL_val hv (hfit k om))⟩) (hI:=by (try dsimp only);exact (by rw [steps_succ om,out_succ om];exact A1))))))))))
 ·refine Bv (Al (Al (A5 ?_)))
  have hk2:List.take k es=es:=List.take_of_length_le om
  exact V.end0 C (e8 b [e7 nd,.slice a1 (List.foldl ep xs es).length c1,.slice o1 (out++es).length d1] 241::vc 146 (.slice a1 (List.foldl ep xs es).length c1) (List.foldl ep xs es)::vc 108 (.slice o1 (out++es).length d1) (out++es)::I) (by rw [hk2];exact A1) ⟨⟨a1,c1,o1,d1⟩,rfl,rfl⟩
set_option maxHeartbeats 1000000 in
theorem AgeP_base{κ:Ctx}{I:List Item}{b:Nat}{nd wd mo T last:Int}{a0 o0:Option Addr}{c0 d0:Nat}{xs:List Lk}{out:List Ev}(hI0:SlI nd 2 wd last xs)(hw:checkW 2 wd mo=0)(hT:0<=last/\last<=T/\T<=1048576)(hsz:xs.length+out.length<=400000):eu prog κ 211 [.pointer (some ⟨b,0,none⟩),.agg #[e7 2,e7 wd,e7 mo],e7 T] (e8 b [e7 nd,.slice a0 xs.length c0,.slice o0 out.length d0] 241::vc 146 (.slice a0 xs.length c0) (xs)::vc 108 (.slice o0 out.length d0) (out)::I) (λr J=>∃y:Option Addr×Nat×Option Addr×Nat,(r = .tuple #[]/\SlI nd 2 wd T (ageL wd mo T xs out).1/\(ageL wd mo T xs out).1.length+(ageL wd mo T xs out).2.length=xs.length+out.length)/\J=e8 b [e7 nd,.slice y.1 ((ageL wd mo T xs out).1).length y.2.1,.slice y.2.2.1 ((ageL wd mo T xs out).2).length y.2.2.2] 241::vc 146 (.slice y.1 ((ageL wd mo T xs out).1).length y.2.1) ((ageL wd mo T xs out).1)::vc 108 (.slice y.2.2.1 ((ageL wd mo T xs out).2).length y.2.2.2) ((ageL wd mo T xs out).2)::I):=by
 refine Ce3 Tryz.func211 C C ?_
 refine Ai (Ge1 (A9 (cs:=[_,_,_]) C C C) λb1=>Af (A0 (B1 (σ:=(Option Addr)×Nat×(Option Addr)×Nat×(List Lk)×(List Ev)) (λs=>([(0,.pointer (some ⟨b,0,none⟩)),(2,e7 T),(4,.pointer (some ⟨b1,0,none⟩))]:Env)) (λs=>e8 b [e7 nd,.slice s.1 s.2.2.2.2.1.length s.2.1,.slice s.2.2.1 s.2.2.2.2.2.length s.2.2.2.1] 241::vc 146 (.slice s.1 s.2.2.2.2.1.length s.2.1) (s.2.2.2.2.1)::vc 108 (.slice s.2.2.1 s.2.2.2.2.2.length s.2.2.2.1) (s.2.2.2.2.2)::e8 b1 [e7 2,e7 wd,e7 mo] 31::I) (λs=>((ageL wd mo T xs out)=ageL wd mo T s.2.2.2.2.1 s.2.2.2.2.2)/\(SlI nd 2 wd last s.2.2.2.2.1)/\(s.2.2.2.2.1.length+s.2.2.2.2.2.length=xs.length+out.length)) (λs=>s.2.2.2.2.1.length) (a0,c0,o0,d0,xs,out) (show ((ageL wd mo T xs out)=ageL wd mo T (xs:List Lk) (out:List Ev))/\(SlI nd 2 wd last (xs:List Lk))/\((xs:List Lk).length+(out:List Ev).length=xs.length+out.length) from ⟨rfl,hI0,rfl⟩) (Aa C (Aa C (Aa C Bp))) (show Fit κ _ (e8 b [e7 nd,.slice a0 (xs).length c0,.slice o0 (out).length d0] 241::vc 146 (.slice a0 (xs).length c0) ((xs))::vc 108 (.slice o0 (out).length d0) ((out))::e8 b1 [e7 2,e7 wd,e7 mo] 31::I) from B7) ?_)))
 rintro ⟨a1,c1,o1,d1,ys,zs⟩ hp
 dsimp only at hp ⊢
 obtain ⟨hr,hI,hs⟩:=hp
 refine A0 (Ap (Bl mixed (Bt (e8 b [e7 nd,.slice a1 ys.length c1,.slice o1 zs.length d1] 241::vc 146 (.slice a1 ys.length c1) (ys)::vc 108 (.slice o1 zs.length d1) (zs)::e8 b1 [e7 2,e7 wd,e7 mo] 31::I) 12 (Dr 0 C (Ad C) (Dr 1 C (Bm C) (Dr 2 C (Ab fld241_0 C) (Dr 3 C (Bd (vs:=[_,_]) ty111) ?_)))))))
 refine Dr 4 C (Ab fld31_1 C) (Dr 5 C (As ef) ?_)
 refine Ds1 6 (Se C (Ah call252 C C (First_ok (nd:=nd) Bk (checkS_tm' hI.val) (checkW_wd hw))) ?_)
 rintro _ _ ⟨_,_,⟨zf2,rfl,hfzf2,rfl⟩,rfl,rfl⟩
 refine ⟨A1,?_⟩
 refine Dr 7 C (Ad C) (Dr 8 C (Aw C C) (Dr 9 C (Aw C C) (Dr 10 C (Bb C) (Dr 11 C (Bb C) ?_))))
 have hzf:=hfzf2
 refine Dz (Aj (Aq (S5 7 6 0 2 4 C C C C C) (Ap (Ai (Gm C (Gr (Dp C) (Gm C (Bg (d:=20) C (λg20=>?_) (λg20=>?_)))))))))
 ·refine eb (eb (eb (Gr (Ar C C) (Af (Cq C (A2 (Am (Av (Am (Av ?_))))))))))
  have hstop:¬(0<ys.length/\minT ys+wd<=T):=(λh=>by have hz:=minT_uniq (hzf.1 h.1);omega)
  have hE:(ageL wd mo T xs out)=(ys,zs):=hr.trans (ageL_stop hstop)
  exact V.ret0 C (e8 b [e7 nd,.slice a1 ((ageL wd mo T xs out).1).length c1,.slice o1 ((ageL wd mo T xs out).2).length d1] 241::vc 146 (.slice a1 ((ageL wd mo T xs out).1).length c1) ((ageL wd mo T xs out).1)::vc 108 (.slice o1 ((ageL wd mo T xs out).2).length d1) ((ageL wd mo T xs out).2)::I) (by rw [hE];exact A1) ⟨⟨a1,c1,o1,d1⟩,⟨rfl,by rw [hE];exact hI.later hT.2.1 (λ_=>hstop),by rw [hE];exact hs⟩,rfl⟩
 ·refine e9 (Ad C) (e9 (Ad C) (e9 (Bw C C) (Gr (Ao C C) (Af (A8 C (λc24=>?_) (λc24=>?_))))))
  ·refine A2 (Am (Av (Am (Av ?_))))
   have hstop:¬(0<ys.length/\minT ys+wd<=T):=(λh=>by have hz:=minT_uniq (hzf.1 h.1);omega)
   have hE:(ageL wd mo T xs out)=(ys,zs):=hr.trans (ageL_stop hstop)
   exact V.ret0 C (e8 b [e7 nd,.slice a1 ((ageL wd mo T xs out).1).length c1,.slice o1 ((ageL wd mo T xs out).2).length d1] 241::vc 146 (.slice a1 ((ageL wd mo T xs out).1).length c1) ((ageL wd mo T xs out).1)::vc 108 (.slice o1 ((ageL wd mo T xs out).2).length d1) ((ageL wd mo T xs out).2)::I) (by rw [hE];exact A1) ⟨⟨a1,c1,o1,d1⟩,⟨rfl,by rw [hE];exact hI.later hT.2.1 (λ_=>hstop),by rw [hE];exact hs⟩,rfl⟩
  ·refine Ay (Aj (Bl mixed (Bt (e8 b1 [e7 2,e7 wd,e7 mo] 31::I) 9 (Dr 0 C (Ad C) (Dr 1 C (Ad C) (Dr 2 C (Bm C) (Dr 3 C (Ab fld241_0 C) (Dr 5 C (Bd (vs:=[_,_,_]) ty31) ?_))))))))
   refine Dr 6 C (Ad C) (Ds1 4 (Sr C (Bd (vs:=[_,_]) ty111) A1 ?_))
   refine Ds1 7 (Sc2 C (Ah call213 C C (GoneP_ok (nd:=nd) Bk om (hI.ask hw (by have hzz:=hI.first C om;have hz:=minT_uniq (hzf.1 om);omega) (by have hzz:=hI.first C om;have hz:=minT_uniq (hzf.1 om);omega)))) λad3 cp4=>?_)
   refine Ds1 8 (Se C (Ah call212 C C (Db (J:=e8 b [e7 nd,.slice a1 ys.length c1,.slice o1 zs.length d1] 241::vc 146 (.slice a1 ys.length c1) (ys)::vc 108 (.slice o1 zs.length d1) (zs)::vc 108 (.slice ad3 (goneL 2 wd mo zf2 ys).length cp4) (goneL 2 wd mo zf2 ys)::e8 b1 [e7 2,e7 wd,e7 mo] 31::I) B7 (PutP_base (nd:=nd) (xs:=ys) (out:=zs) (es:=goneL 2 wd mo zf2 ys) Bk (hI.val) (fitgone hI.val (by have hzz:=hI.first C om;have hz:=minT_uniq (hzf.1 om);omega)) (by have h:=gone_len 2 wd mo zf2 ys;omega) (by have h:=gone_len 2 wd mo zf2 ys;omega)))) ?_)
   rintro _ _ ⟨_,_,⟨⟨ad5,cp6,ad7,cp8⟩,rfl,rfl⟩,rfl,rfl⟩
   refine ⟨A1,?_⟩
   show D prog κ _ _ _ _ _ _ _ ([(33,.tuple #[]),(32,.slice ad3 (goneL 2 wd mo zf2 ys).length cp4),(29,.agg #[e7 nd,.slice a1 ys.length c1]),(31,e7 zf2),(30,.agg #[e7 2,e7 wd,e7 mo]),(28,.pointer (some ⟨b,0,none⟩)),(27,.pointer (some ⟨b,0,none⟩)),(26,.pointer (some ⟨b,0,none⟩)),(25,.pointer (some ⟨b,0,none⟩)),(24,.bool (decide (T<zf2))),(23,.bool (decide (T<zf2))),(22,e7 T),(21,e7 zf2),(20,.bool false),(20,.bool (decide (¬(0<ys.length)))),(19,.bool (decide (¬(0<ys.length)))),(18,.bool (decide (0<ys.length))),(7,.bool (decide (0<ys.length))),(6,e7 zf2),(0,.pointer (some ⟨b,0,none⟩)),(2,e7 T),(4,.pointer (some ⟨b1,0,none⟩))]:Env) (e8 b [e7 nd,.slice ad5 (List.foldl ep ys (goneL 2 wd mo zf2 ys)).length cp6,.slice ad7 (zs++(goneL 2 wd mo zf2 ys)).length cp8] 241::vc 146 (.slice ad5 (List.foldl ep ys (goneL 2 wd mo zf2 ys)).length cp6) (List.foldl ep ys (goneL 2 wd mo zf2 ys))::vc 108 (.slice ad7 (zs++(goneL 2 wd mo zf2 ys)).length cp8) (zs++(goneL 2 wd mo zf2 ys))::vc 108 (.slice ad3 (goneL 2 wd mo zf2 ys).length cp4) (goneL 2 wd mo zf2 ys)::e8 b1 [e7 2,e7 wd,e7 mo] 31::I)
   refine Dz (Ak ?_)
   have hpos:0<ys.length:=by omega
   have hz:zf2=minT ys+wd:=minT_uniq (hzf.1 hpos)
   have hg:List.foldl ep ys (goneL 2 wd mo zf2 ys)=List.filter (inW 2 wd mo zf2 ys) ys:=gone_steps hI.val
   have hgl:=gone_len 2 wd mo zf2 ys
   have hal:(List.filter (inW 2 wd mo zf2 ys) ys).length<ys.length:=by rw [hz];exact age_less (wd:=wd) (mo:=mo) hpos
   exact B5 ((ad5),(cp6),(ad7),(cp8),(List.filter (inW 2 wd mo zf2 ys) ys),(zs++goneL 2 wd mo zf2 ys)) (by dsimp only;exact ⟨(by rw [hr,ageL_step ⟨hpos,by omega⟩,←hz]),(hI.filter _),(by rw [List.length_append];omega)⟩) (hlt:=by (try dsimp only);exact hal) (hI:=by (try dsimp only);exact (by rw [hg];exact A1))
variable {κ:Ctx}{I:List Item}
theorem AgeP_two{b:Nat}{nd kd wd mo T last:Int}{a0 o0:Option Addr}{c0 d0:Nat}{xs:List Lk}{out:List Ev}(hk:kd=2)(hI0:SlI nd kd wd last xs)(hw:checkW kd wd mo=0)(hT:0<=last/\last<=T/\T<=1048576)(hsz:xs.length+out.length<=400000):eu prog κ 211 [.pointer (some ⟨b,0,none⟩),.agg #[e7 kd,e7 wd,e7 mo],e7 T] (e8 b [e7 nd,.slice a0 xs.length c0,.slice o0 out.length d0] 241::vc 146 (.slice a0 xs.length c0) (xs)::vc 108 (.slice o0 out.length d0) (out)::I) (λr J=>∃y:Option Addr×Nat×Option Addr×Nat,(r = .tuple #[]/\SlI nd kd wd T (ageL wd mo T xs out).1/\(ageL wd mo T xs out).1.length+(ageL wd mo T xs out).2.length=xs.length+out.length)/\J=e8 b [e7 nd,.slice y.1 ((ageL wd mo T xs out).1).length y.2.1,.slice y.2.2.1 ((ageL wd mo T xs out).2).length y.2.2.2] 241::vc 146 (.slice y.1 ((ageL wd mo T xs out).1).length y.2.1) ((ageL wd mo T xs out).1)::vc 108 (.slice y.2.2.1 ((ageL wd mo T xs out).2).length y.2.2.2) ((ageL wd mo T xs out).2)::I):=by
 subst hk
 exact AgeP_base hI0 hw hT hsz
theorem evStep_three{kd wd mo:Int}{xs:List Lk}{out:List Ev}{e:Ev}{ys:List Lk}{zs:List Ev}(h:agedL kd wd mo e.tm (xs,out)=(ys,zs))(hk:kd=3):evStep kd wd mo (xs,out) e=((ep ys e).filter (inW kd wd mo e.tm (ep ys e)),zs++[e]++goneL kd wd mo e.tm (ep ys e)):=by
 unfold evStep windL;rw [h,if_pos hk]
theorem evStep_not{kd wd mo:Int}{xs:List Lk}{out:List Ev}{e:Ev}{ys:List Lk}{zs:List Ev}(h:agedL kd wd mo e.tm (xs,out)=(ys,zs))(hk:¬kd=3):evStep kd wd mo (xs,out) e=(ep ys e,zs++[e]):=by
 unfold evStep windL;rw [h,if_neg hk]
theorem checkW_one{kd wd mo:Int}(h:checkW kd wd mo=0)(hk:kd=2):1<=wd:=by
 unfold checkW at h
 split at h
 ·cases h
 ·split at h
  ·cases h
  ·omega
theorem lastT_ge{nd:Int}{es:List Ev}(h:StOk nd es){k:Nat}(hk:k<=es.length):0<=lastT es k:=by
 cases k with
 |zero=>exact Int.le_refl _
 |succ k=>rw [lastT_succ];exact (h.fit k om).tm.1
theorem slideE_st{nd kd wd mo:Int}{es:List Ev}(h1:¬checkW kd wd mo≠0):slideE nd kd wd mo es=streamE nd es:=by unfold slideE;rw [if_neg h1]
set_option maxHeartbeats 1000000 in
theorem Slide_ok{nd kd wd mo:Int}{va:Value}{es:List Ev}(hl:Sl κ I va es):eu prog κ 140 [e7 nd,va,.agg #[e7 kd,e7 wd,e7 mo]] I (λr J=>((slideE nd kd wd mo es)≠0/\r = .tuple #[.slice none 0 0,e7 (slideE nd kd wd mo es)]/\I=J)\/(∃a c,(slideE nd kd wd mo es)=0/\r = .tuple #[.slice a (slideS kd wd mo es).2.length c,e7 0]/\J=vc 108 (.slice a (slideS kd wd mo es).2.length c) (slideS kd wd mo es).2::I)):=by
 refine B8 hl.le λhmax=>?_
 refine Ce3 Tryz.func140 C C ?_
 refine Ai (Ge1 (A9 (cs:=[_,_,_]) C C C) λb1=>Ga C (Ga C (Af (Ap (Ai (Gl3 ty31 ?_))))))
 refine G.e (Ah call78 C C (CheckW_ok kd wd mo)) ?_
 rintro _ _ ⟨_,_,⟨rfl,rfl⟩,rfl,rfl⟩
 refine Ga C (Af (Ai (Gm C (Gr (Br C C) (Af (A8 C (λc16=>?_) (λc16=>?_)))))))
 ·refine Ai (Gm C (Ga C (Ga C (Af (Aq (S2 7 6 C C) (A2 (Am ?_)))))))
  have hz:(slideE nd kd wd mo es)=checkW kd wd mo:=by unfold slideE;rw [if_pos c16]
  exact Cu C C C I A3 (.inl ⟨by rw [hz];exact c16,by rw [hz],rfl⟩)
 ·refine Ay (Aj (Ap (Ai (Gm C (Gm C (G.e (Ah call139 C C (Stream_ok (nd:=nd) (Ba hl))) ?_))))))
  rintro _ _ ⟨_,_,⟨rfl,rfl⟩,rfl,rfl⟩
  refine Ga C (Af (Aq (S4 9 5 0 1 C C C C) (Ai (Gm C (Gr (Br C C) (Af (A8 C (λc22=>?_) (λc22=>?_))))))))
  ·refine Ai (Gm C (Ga C (Ga C (Af (A2 (Am ?_))))))
   have hz:(slideE nd kd wd mo es)=streamE nd es:=slideE_st c16
   exact Cu C C C I A3 (.inl ⟨by rw [hz];exact c22,by rw [hz],rfl⟩)
  ·refine Ay (Aj (Ai (Gm C ?_)))
   have hE:=streamE_ok (Classical.not_not.1 c22)
   refine Gr (Bc (cells:=[_,_]) ty111 Tryz.underlying111 pl111 C C) (Gr (Bc (cells:=[_,_,_]) ty241 Tryz.underlying241 pl241 C C) (Ge1 (A9 (cs:=[_,_,_]) C C C) λb2=>Ga C (Af (Ap (Ai (Gm C (Gr (B0 (α:=Ev) (xs:=es) Be C (Ba hl)) (Gm C (Af (Aq (S5 30 29 28 10 5 C C C C C) (A0 (B1 (σ:=Nat×(Option Addr)×Nat×(Option Addr)×Nat×(List Lk)×(List Ev)) (λs=>([(5,.pointer (some ⟨b1,0,none⟩)),(10,.pointer (some ⟨b2,0,none⟩)),(28,va),(29,e7 ((es.length:Nat):Int)),(30,e7 ((s.1:Nat):Int))]:Env)) (λs=>e8 b2 [e7 nd,.slice s.2.1 s.2.2.2.2.2.1.length s.2.2.1,.slice s.2.2.2.1 s.2.2.2.2.2.2.length s.2.2.2.2.1] 241::vc 146 (.slice s.2.1 s.2.2.2.2.2.1.length s.2.2.1) (s.2.2.2.2.2.1)::vc 108 (.slice s.2.2.2.1 s.2.2.2.2.2.2.length s.2.2.2.2.1) (s.2.2.2.2.2.2)::e8 b1 [e7 kd,e7 wd,e7 mo] 31::I) (λs=>(s.1<=es.length)/\(slideS kd wd mo (List.take s.1 es)=(s.2.2.2.2.2.1,s.2.2.2.2.2.2))/\(SlI nd kd wd (lastT es s.1) s.2.2.2.2.2.1)/\(s.2.2.2.2.2.1.length+s.2.2.2.2.2.2.length<=2*s.1)) (λs=>es.length - s.1) (0,none,0,none,0,[],[]) (show ((0:Nat)<=es.length)/\(slideS kd wd mo (List.take (0:Nat) es)=(([]:List Lk),([]:List Ev)))/\(SlI nd kd wd (lastT es (0:Nat)) ([]:List Lk))/\(([]:List Lk).length+([]:List Ev).length<=2*(0:Nat)) from ⟨om,rfl,(SlI.nil hE.nodes),(by simp)⟩) (Aa C (Aa C (Aa C (Aa C (Aa Ca Bp))))) (show Fit κ _ (e8 b2 [e7 nd,.slice none ([]).length 0,.slice none ([]).length 0] 241::vc 146 (.slice none ([]).length 0) (([]))::vc 108 (.slice none ([]).length 0) (([]))::e8 b1 [e7 kd,e7 wd,e7 mo] 31::I) from (Cn (B2 108 _) (Cn (B2 146 _) B7))) ?_))))))))))))
   rintro ⟨k,a1,c1,o1,d1,xs,out⟩ hp
   dsimp only at hp ⊢
   obtain ⟨hk,hst,hI,hs⟩:=hp
   have hlen:=hE.len
   refine Ai (Gr (A7 C C) (Af (Ap (A8 C (λc31=>?_) (λc31=>?_)))))
   ·refine Ay (Aj (Ap (A0 (Ai (Gr (Az (α:=Ev) (xs:=es) Be ty108 C C (Ba hl) om om) (Gr (Bz (α:=Ev) (xs:=es) ty108 C (Ba hl) om om) (Ge1 (Au ty108 C) λb3=>Ge0 (Es7_7 ty108) ?_)))))))
    have hfe:=hE.fit k om
    have hto:=hE.asc k om
    refine Af (W.cut (σ:=(Option Addr)×Nat×(Option Addr)×Nat×(List Lk)×(List Ev)) (λs=>([(5,.pointer (some ⟨b1,0,none⟩)),(10,.pointer (some ⟨b2,0,none⟩)),(12,.pointer (some ⟨b3,0,none⟩)),(28,va),(29,e7 ((es.length:Nat):Int)),(30,e7 ((k:Int)))]:Env)) (λs=>e8 b2 [e7 nd,.slice s.1 s.2.2.2.2.1.length s.2.1,.slice s.2.2.1 s.2.2.2.2.2.length s.2.2.2.1] 241::vc 146 (.slice s.1 s.2.2.2.2.1.length s.2.1) (s.2.2.2.2.1)::vc 108 (.slice s.2.2.1 s.2.2.2.2.2.length s.2.2.2.1) (s.2.2.2.2.2)::e8 b3 [e7 ((e_ es k).kd),e7 ((e_ es k).tm),e7 ((e_ es k).u),e7 ((e_ es k).v),e7 ((e_ es k).w),e7 ((e_ es k).lb),e7 ((e_ es k).sg)] 108::e8 b1 [e7 kd,e7 wd,e7 mo] 31::I) (λs=>((agedL kd wd mo (e_ es k).tm (xs,out))=(s.2.2.2.2.1,s.2.2.2.2.2))/\(SlI nd kd wd (e_ es k).tm s.2.2.2.2.1)/\(s.2.2.2.2.1.length+s.2.2.2.2.2.length=xs.length+out.length)) ?_ ?_)
    ·refine Ai (Gf fld31_0 C (Gl ef ?_))
     refine Gr (Bu C C) (Af (A8 C (λc36=>?_) (λc36=>?_)))
     ·refine Ax (Gm C (Gl3 ty31 ?_))
      refine Gf fld108_1 C (Gl ef ?_)
      refine G.e (Ah call211 C C (Db (J:=e8 b2 [e7 nd,.slice a1 xs.length c1,.slice o1 out.length d1] 241::vc 146 (.slice a1 xs.length c1) (xs)::vc 108 (.slice o1 out.length d1) (out)::e8 b3 [e7 ((e_ es k).kd),e7 ((e_ es k).tm),e7 ((e_ es k).u),e7 ((e_ es k).v),e7 ((e_ es k).w),e7 ((e_ es k).lb),e7 ((e_ es k).sg)] 108::e8 b1 [e7 kd,e7 wd,e7 mo] 31::I) B7 (AgeP_two (nd:=nd) (T:=(e_ es k).tm) (xs:=xs) (out:=out) c36 hI (Classical.not_not.1 c16) ⟨lastT_ge hE om,hto,hfe.tm.2⟩ om))) ?_
      rintro _ _ ⟨_,_,⟨⟨ad4,cp5,ad6,cp7⟩,⟨rfl,hag⟩,rfl⟩,rfl,rfl⟩
      show G prog κ _ _ _ _ ([(41,.tuple #[]),(40,e7 ((e_ es k).tm)),(39,.pointer (some ⟨b3,1,none⟩)),(38,.agg #[e7 kd,e7 wd,e7 mo]),(37,.pointer (some ⟨b2,0,none⟩)),(36,.bool (decide (kd=2))),(35,e7 kd),(34,.pointer (some ⟨b1,0,none⟩)),(12,.pointer (some ⟨b3,0,none⟩)),(33,.agg #[e7 ((e_ es k).kd),e7 ((e_ es k).tm),e7 ((e_ es k).u),e7 ((e_ es k).v),e7 ((e_ es k).w),e7 ((e_ es k).lb),e7 ((e_ es k).sg)]),(32,elemPtr va (((k:Int)).toNat*Enc.sz Ev)),(31,.bool (decide ((k:Int)<((es.length:Nat):Int)))),(5,.pointer (some ⟨b1,0,none⟩)),(10,.pointer (some ⟨b2,0,none⟩)),(28,va),(29,e7 ((es.length:Nat):Int)),(30,e7 ((k:Int)))]:Env) (e8 b2 [e7 nd,.slice ad4 ((ageL wd mo ((e_ es k).tm) xs out).1).length cp5,.slice ad6 ((ageL wd mo ((e_ es k).tm) xs out).2).length cp7] 241::vc 146 (.slice ad4 ((ageL wd mo ((e_ es k).tm) xs out).1).length cp5) ((ageL wd mo ((e_ es k).tm) xs out).1)::vc 108 (.slice ad6 ((ageL wd mo ((e_ es k).tm) xs out).2).length cp7) ((ageL wd mo ((e_ es k).tm) xs out).2)::e8 b3 [e7 ((e_ es k).kd),e7 ((e_ es k).tm),e7 ((e_ es k).u),e7 ((e_ es k).v),e7 ((e_ es k).w),e7 ((e_ es k).lb),e7 ((e_ es k).sg)] 108::e8 b1 [e7 kd,e7 wd,e7 mo] 31::I)
      exact Bi (C9 ((ad4),(cp5),(ad6),(cp7),((ageL wd mo (e_ es k).tm xs out).1),((ageL wd mo (e_ es k).tm xs out).2)) (by dsimp only;exact ⟨(by unfold agedL;rw [if_pos c36]),hag.1,hag.2⟩))
     ·exact Ay (C9 ((a1),(c1),(o1),(d1),(xs),(out)) (by dsimp only;exact ⟨(by unfold agedL;rw [if_neg c36]),(hI.later hto (λh=>absurd h c36)),rfl⟩))
    ·rintro ⟨a2,c2,o2,d2,ys,zs⟩ hp
     obtain ⟨hag,hI2,hs2⟩:((agedL kd wd mo (e_ es k).tm (xs,out))=(ys,zs))/\(SlI nd kd wd (e_ es k).tm ys)/\(ys.length+zs.length=xs.length+out.length):=hp
     show W prog κ 64 _ _ ([(5,.pointer (some ⟨b1,0,none⟩)),(10,.pointer (some ⟨b2,0,none⟩)),(12,.pointer (some ⟨b3,0,none⟩)),(28,va),(29,e7 ((es.length:Nat):Int)),(30,e7 ((k:Int)))]:Env) (e8 b2 [e7 nd,.slice a2 ys.length c2,.slice o2 zs.length d2] 241::vc 146 (.slice a2 ys.length c2) (ys)::vc 108 (.slice o2 zs.length d2) (zs)::e8 b3 [e7 ((e_ es k).kd),e7 ((e_ es k).tm),e7 ((e_ es k).u),e7 ((e_ es k).v),e7 ((e_ es k).w),e7 ((e_ es k).lb),e7 ((e_ es k).sg)] 108::e8 b1 [e7 kd,e7 wd,e7 mo] 31::I)
     refine Ai (Gm C (Gl7 ty108 ?_))
     refine Ge1 (Cf (α:=Ev) (cs:=[e7 ((e_ es k).kd),e7 ((e_ es k).tm),e7 ((e_ es k).u),e7 ((e_ es k).v),e7 ((e_ es k).w),e7 ((e_ es k).lb),e7 ((e_ es k).sg)]) (xs:=[⟨(e_ es k).kd,(e_ es k).tm,(e_ es k).u,(e_ es k).v,(e_ es k).w,(e_ es k).lb,(e_ es k).sg⟩]) Be ty108 C C dc dc C kr C C) λad8=>?_
     refine G.e (Ah call212 C C (Db (J:=e8 b2 [e7 nd,.slice a2 ys.length c2,.slice o2 zs.length d2] 241::vc 146 (.slice a2 ys.length c2) (ys)::vc 108 (.slice o2 zs.length d2) (zs)::vc 108 (.slice ad8 1 1) (([⟨(e_ es k).kd,(e_ es k).tm,(e_ es k).u,(e_ es k).v,(e_ es k).w,(e_ es k).lb,(e_ es k).sg⟩]:List Ev))::e8 b3 [e7 ((e_ es k).kd),e7 ((e_ es k).tm),e7 ((e_ es k).u),e7 ((e_ es k).v),e7 ((e_ es k).w),e7 ((e_ es k).lb),e7 ((e_ es k).sg)] 108::e8 b1 [e7 kd,e7 wd,e7 mo] 31::I) B7 (PutP_base (nd:=nd) (xs:=ys) (out:=zs) (es:=([⟨(e_ es k).kd,(e_ es k).tm,(e_ es k).u,(e_ es k).v,(e_ es k).w,(e_ es k).lb,(e_ es k).sg⟩]:List Ev)) Bk hI2.val (fitone hfe) (by have h:=stepL_len ys (e_ es k);have h9:=gone_len kd wd mo (e_ es k).tm (ep ys (e_ es k));first|(simp only [List.length_append,List.length_cons,List.length_nil];omega)|omega) (by have h:=stepL_len ys (e_ es k);have h9:=gone_len kd wd mo (e_ es k).tm (ep ys (e_ es k));first|(simp only [List.length_append,List.length_cons,List.length_nil];omega)|omega)))) ?_
     rintro _ _ ⟨_,_,⟨⟨ad9,cp10,ad11,cp12⟩,rfl,rfl⟩,rfl,rfl⟩
     show G prog κ _ _ _ _ ([(45,.tuple #[]),(44,.slice ad8 1 1),(43,.agg #[e7 ((e_ es k).kd),e7 ((e_ es k).tm),e7 ((e_ es k).u),e7 ((e_ es k).v),e7 ((e_ es k).w),e7 ((e_ es k).lb),e7 ((e_ es k).sg)]),(42,.pointer (some ⟨b2,0,none⟩)),(5,.pointer (some ⟨b1,0,none⟩)),(10,.pointer (some ⟨b2,0,none⟩)),(12,.pointer (some ⟨b3,0,none⟩)),(28,va),(29,e7 ((es.length:Nat):Int)),(30,e7 ((k:Int)))]:Env) (e8 b2 [e7 nd,.slice ad9 (List.foldl ep ys ([⟨(e_ es k).kd,(e_ es k).tm,(e_ es k).u,(e_ es k).v,(e_ es k).w,(e_ es k).lb,(e_ es k).sg⟩]:List Ev)).length cp10,.slice ad11 (zs++([⟨(e_ es k).kd,(e_ es k).tm,(e_ es k).u,(e_ es k).v,(e_ es k).w,(e_ es k).lb,(e_ es k).sg⟩]:List Ev)).length cp12] 241::vc 146 (.slice ad9 (List.foldl ep ys ([⟨(e_ es k).kd,(e_ es k).tm,(e_ es k).u,(e_ es k).v,(e_ es k).w,(e_ es k).lb,(e_ es k).sg⟩]:List Ev)).length cp10) (List.foldl ep ys ([⟨(e_ es k).kd,(e_ es k).tm,(e_ es k).u,(e_ es k).v,(e_ es k).w,(e_ es k).lb,(e_ es k).sg⟩]:List Ev))::vc 108 (.slice ad11 (zs++([⟨(e_ es k).kd,(e_ es k).tm,(e_ es k).u,(e_ es k).v,(e_ es k).w,(e_ es k).lb,(e_ es k).sg⟩]:List Ev)).length cp12) (zs++([⟨(e_ es k).kd,(e_ es k).tm,(e_ es k).u,(e_ es k).v,(e_ es k).w,(e_ es k).lb,(e_ es k).sg⟩]:List Ev))::vc 108 (.slice ad8 1 1) (([⟨(e_ es k).kd,(e_ es k).tm,(e_ es k).u,(e_ es k).v,(e_ es k).w,(e_ es k).lb,(e_ es k).sg⟩]:List Ev))::e8 b3 [e7 ((e_ es k).kd),e7 ((e_ es k).tm),e7 ((e_ es k).u),e7 ((e_ es k).v),e7 ((e_ es k).w),e7 ((e_ es k).lb),e7 ((e_ es k).sg)] 108::e8 b1 [e7 kd,e7 wd,e7 mo] 31::I)
     show G prog κ _ _ _ _ ([(45,.tuple #[]),(44,.slice ad8 1 1),(43,.agg #[e7 ((e_ es k).kd),e7 ((e_ es k).tm),e7 ((e_ es k).u),e7 ((e_ es k).v),e7 ((e_ es k).w),e7 ((e_ es k).lb),e7 ((e_ es k).sg)]),(42,.pointer (some ⟨b2,0,none⟩)),(5,.pointer (some ⟨b1,0,none⟩)),(10,.pointer (some ⟨b2,0,none⟩)),(12,.pointer (some ⟨b3,0,none⟩)),(28,va),(29,e7 ((es.length:Nat):Int)),(30,e7 ((k:Int)))]:Env) (e8 b2 [e7 nd,.slice ad9 (ep ys (e_ es k)).length cp10,.slice ad11 (zs++[(e_ es k)]).length cp12] 241::vc 146 (.slice ad9 (ep ys (e_ es k)).length cp10) (ep ys (e_ es k))::vc 108 (.slice ad11 (zs++[(e_ es k)]).length cp12) (zs++[(e_ es k)])::vc 108 (.slice ad8 1 1) (([⟨(e_ es k).kd,(e_ es k).tm,(e_ es k).u,(e_ es k).v,(e_ es k).w,(e_ es k).lb,(e_ es k).sg⟩]:List Ev))::e8 b3 [e7 ((e_ es k).kd),e7 ((e_ es k).tm),e7 ((e_ es k).u),e7 ((e_ es k).v),e7 ((e_ es k).w),e7 ((e_ es k).lb),e7 ((e_ es k).sg)] 108::e8 b1 [e7 kd,e7 wd,e7 mo] 31::I)
     refine Af (Ai (Gf fld31_0 C (Gl ef ?_)))
     refine Gr (Bu C C) ?_
     have hI3:SlI nd kd wd (e_ es k).tm (ep ys (e_ es k)):=hI2.step hfe rfl (checkW_one (Classical.not_not.1 c16))
     refine Af (A8 C (λc48=>?_) (λc48=>?_))
     ·refine Bl mixed (Bt (e8 b3 [e7 ((e_ es k).kd),e7 ((e_ es k).tm),e7 ((e_ es k).u),e7 ((e_ es k).v),e7 ((e_ es k).w),e7 ((e_ es k).lb),e7 ((e_ es k).sg)] 108::e8 b1 [e7 kd,e7 wd,e7 mo] 31::I) 10 (Dr 0 C (Ad C) (Dr 1 C (Ad C) (Dr 2 C (Bm C) (Dr 3 C (Ab fld241_0 C) (Dr 5 C (Bd (vs:=[_,_,_]) ty31) ?_))))))
      refine Dr 6 C (Ab fld108_1 C) (Dr 7 C (As ef) ?_)
      refine Ds1 4 (Sr C (Bd (vs:=[_,_]) ty111) A1 ?_)
      refine Ds1 8 (Sc2 C (Ah call213 C C (GoneP_ok (nd:=nd) Bk (by have h:=stepL_len ys (e_ es k);show (ep ys (e_ es k)).length<=1000000;omega) (hI3.ask (Classical.not_not.1 c16) hfe.tm (Int.le_refl _)))) λad13 cp14=>?_)
      refine Ds1 9 (Se C (Ah call212 C C (Db (J:=e8 b2 [e7 nd,.slice ad9 (ep ys (e_ es k)).length cp10,.slice ad11 (zs++[(e_ es k)]).length cp12] 241::vc 146 (.slice ad9 (ep ys (e_ es k)).length cp10) (ep ys (e_ es k))::vc 108 (.slice ad11 (zs++[(e_ es k)]).length cp12) (zs++[(e_ es k)])::vc 108 (.slice ad13 (goneL kd wd mo ((e_ es k).tm) (ep ys (e_ es k))).length cp14) (goneL kd wd mo ((e_ es k).tm) (ep ys (e_ es k)))::vc 108 (.slice ad8 1 1) (([⟨(e_ es k).kd,(e_ es k).tm,(e_ es k).u,(e_ es k).v,(e_ es k).w,(e_ es k).lb,(e_ es k).sg⟩]:List Ev))::e8 b3 [e7 ((e_ es k).kd),e7 ((e_ es k).tm),e7 ((e_ es k).u),e7 ((e_ es k).v),e7 ((e_ es k).w),e7 ((e_ es k).lb),e7 ((e_ es k).sg)] 108::e8 b1 [e7 kd,e7 wd,e7 mo] 31::I) B7 (PutP_base (nd:=nd) (xs:=ep ys (e_ es k)) (out:=zs++[(e_ es k)]) (es:=goneL kd wd mo ((e_ es k).tm) (ep ys (e_ es k))) Bk hI3.val (fitgone hI3.val hfe.tm) (by have h:=stepL_len ys (e_ es k);have h9:=gone_len kd wd mo (e_ es k).tm (ep ys (e_ es k));first|(simp only [List.length_append,List.length_cons,List.length_nil];omega)|omega) (by have h:=stepL_len ys (e_ es k);have h9:=gone_len kd wd mo (e_ es k).tm (ep ys (e_ es k));first|(simp only [List.length_append,List.length_cons,List.length_nil];omega)|omega)))) ?_)
      rintro _ _ ⟨_,_,⟨⟨ad15,cp16,ad17,cp18⟩,rfl,rfl⟩,rfl,rfl⟩
      refine ⟨A1,?_⟩
      show D prog κ _ _ _ _ _ _ _ ([(58,.tuple #[]),(57,.slice ad13 (goneL kd wd mo ((e_ es k).tm) (ep ys (e_ es k))).length cp14),(53,.agg #[e7 nd,.slice ad9 (ep ys (e_ es k)).length cp10]),(56,e7 ((e_ es k).tm)),(55,.pointer (some ⟨b3,1,none⟩)),(54,.agg #[e7 kd,e7 wd,e7 mo]),(52,.pointer (some ⟨b2,0,none⟩)),(51,.pointer (some ⟨b2,0,none⟩)),(50,.pointer (some ⟨b2,0,none⟩)),(49,.pointer (some ⟨b2,0,none⟩)),(48,.bool (decide (kd=3))),(47,e7 kd),(46,.pointer (some ⟨b1,0,none⟩)),(45,.tuple #[]),(44,.slice ad8 1 1),(43,.agg #[e7 ((e_ es k).kd),e7 ((e_ es k).tm),e7 ((e_ es k).u),e7 ((e_ es k).v),e7 ((e_ es k).w),e7 ((e_ es k).lb),e7 ((e_ es k).sg)]),(42,.pointer (some ⟨b2,0,none⟩)),(5,.pointer (some ⟨b1,0,none⟩)),(10,.pointer (some ⟨b2,0,none⟩)),(12,.pointer (some ⟨b3,0,none⟩)),(28,va),(29,e7 ((es.length:Nat):Int)),(30,e7 ((k:Int)))]:Env) (e8 b2 [e7 nd,.slice ad15 (List.foldl ep (ep ys (e_ es k)) (goneL kd wd mo ((e_ es k).tm) (ep ys (e_ es k)))).length cp16,.slice ad17 ((zs++[(e_ es k)])++(goneL kd wd mo ((e_ es k).tm) (ep ys (e_ es k)))).length cp18] 241::vc 146 (.slice ad15 (List.foldl ep (ep ys (e_ es k)) (goneL kd wd mo ((e_ es k).tm) (ep ys (e_ es k)))).length cp16) (List.foldl ep (ep ys (e_ es k)) (goneL kd wd mo ((e_ es k).tm) (ep ys (e_ es k))))::vc 108 (.slice ad17 ((zs++[(e_ es k)])++(goneL kd wd mo ((e_ es k).tm) (ep ys (e_ es k)))).length cp18) ((zs++[(e_ es k)])++(goneL kd wd mo ((e_ es k).tm) (ep ys (e_ es k))))::vc 108 (.slice ad13 (goneL kd wd mo ((e_ es k).tm) (ep ys (e_ es k))).length cp14) (goneL kd wd mo ((e_ es k).tm) (ep ys (e_ es k)))::vc 108 (.slice ad8 1 1) (([⟨(e_ es k).kd,(e_ es k).tm,(e_ es k).u,(e_ es k).v,(e_ es k).w,(e_ es k).lb,(e_ es k).sg⟩]:List Ev))::e8 b3 [e7 ((e_ es k).kd),e7 ((e_ es k).tm),e7 ((e_ es k).u),e7 ((e_ es k).v),e7 ((e_ es k).w),e7 ((e_ es k).lb),e7 ((e_ es k).sg)] 108::e8 b1 [e7 kd,e7 wd,e7 mo] 31::I)
      refine Dz (Ak (Aj (Aq (S5 5 10 28 29 30 C C C C C) (Ax (Gr (Rad C C) (Gm C (Bi ?_)))))))
      have hgs:=gone_steps (kd:=kd) (wd:=wd) (mo:=mo) (nw:=(e_ es k).tm) hI3.val
      have hgl:=gone_len kd wd mo (e_ es k).tm (ep ys (e_ es k))
      have hsl:=stepL_len ys (e_ es k)
      exact B5 ((k+1),(ad15),(cp16),(ad17),(cp18),(List.filter (inW kd wd mo (e_ es k).tm (ep ys (e_ es k))) (ep ys (e_ es k))),(zs++[(e_ es k)]++goneL kd wd mo (e_ es k).tm (ep ys (e_ es k)))) (by dsimp only;exact ⟨om,(by rw [slideS_succ om,hst];exact evStep_three hag c48),(by rw [lastT_succ];exact hI3.filter _),lap⟩) (hI:=by (try dsimp only);exact (by rw [←hgs];exact A1))
     ·refine Ay (Ak (Aj (Ax (Gr (Rad C C) (Gm C (Bi ?_))))))
      have hsl:=stepL_len ys (e_ es k)
      exact B5 ((k+1),(ad9),(cp10),(ad11),(cp12),((ep ys (e_ es k))),(zs++[(e_ es k)])) (by dsimp only;exact ⟨om,(by rw [slideS_succ om,hst];exact evStep_not hag c48),(by rw [lastT_succ];exact hI3),lap⟩)
   ·refine Bv (Al (Al (A5 (Aj (Ai (Gm C (Gr (Bm C) (Gf fld241_1 C (Gl ty28 ?_)))))))))
    refine Ga C (Ga C (Af (A2 ?_)))
    have hE2:(slideS kd wd mo es)=(xs,out):=by rw [←hst,show List.take k es=es from List.take_of_length_le om]
    have hz:(slideE nd kd wd mo es)=0:=(slideE_st c16).trans (Classical.not_not.1 c22)
    exact Cu C C C (vc 108 (.slice o1 (slideS kd wd mo es).2.length d1) (slideS kd wd mo es).2::I) (by rw [hE2];exact A1) (.inr ⟨o1,d1,hz,by rw [hE2],rfl⟩)
end Go.Sl
namespace Go.Proofs
end Go.Proofs
namespace Go.Sl
open Go.Proofs Go.Shelf Go.RowKit Go.Lib Go.Sort
end Go.Sl
namespace Go.Sl
end Go.Sl
namespace Go.Sl
open Go.Proofs
set_option maxRecDepth 4000
theorem ext_at{α:Type}[Inhabited α]{xs ys:List α}(hl:xs.length=ys.length)(h:∀j,j<xs.length->e_ xs j=e_ ys j):xs=ys:=by
 refine List.ext_getElem hl λj h1 h2=>?_
 have:=h j h1
 rwa [C4 xs j h1,C4 ys j h2] at this
theorem Few_ok{κ:Ctx}{I:List Item}{la:Option Addr}{ln lc:Nat} :
    eu prog κ 16 [.slice la ln lc] I (λr J=>r = .bool (decide ((ln:Int)<=500))/\I=J):=by
 refine Ce1 Tryz.func16 C C ?_
 exact Ai (Ga C (Af (Ai (Gm C (Gr (Bs Ac C) (Gr (Ey C C) (Ga C (Af (A2 (A6 C C I A3 ⟨rfl,rfl⟩))))))))))
theorem eqt135:EqT prog 135 Pt:=EqT.flat (λp:Pt=>[p.u,p.v]) (λ_=>rfl) (λx y h=>by cases x;cases y;simpa using h) (n:=2) (λ_=>rfl) kr kr kr kr kr
theorem BSearchE{κ:Ctx}{I:List Item}{v:Value}{xs:List Pt}(hl:Sl κ I v xs)(x:Pt){g:FuncId}{cp_:List Value}{cf:Pt->Pt->Int}(hcb:Cmps prog κ I g cp_ cf)(hsz:xs.length<=1000000000000):eu prog κ 320 [v,.agg #[e7 (x.u),e7 (x.v)],.func (.func g) #[] cp_.toArray] I (λr J=>∃i b,r = .tuple #[e7 ((i:Nat):Int),.bool b]/\BFound cf xs x i b/\I=J):=by
 refine B8 hl.le λhmax=>?_
 refine Ce3 Tryz.func320 C C ?_
 refine Ai (Ge1 (A9 (cs:=[_,_]) C C C) λb1=>Ga C (Ga C (Af (Ai (Gm C (Gr (B0 (α:=Pt) (xs:=xs) Bh C (Ba hl)) (Ga C (Af (Ai (Gm C (Ga C (Ga C (Af (Ap (A0 (B1 (σ:=Nat×Nat) (λs=>([(0,v),(2,.func (.func g) #[] cp_.toArray),(4,.pointer (some ⟨b1,0,none⟩)),(8,e7 ((xs.length:Nat):Int)),(9,e7 ((s.1:Nat):Int)),(10,e7 ((s.2:Nat):Int))]:Env)) (λs=>e8 b1 [e7 (x.u),e7 (x.v)] 135::I) (λs=>(s.1<=s.2)/\(s.2<=xs.length)/\(0<s.1->cf (e_ xs ((s.1:Int) - 1)) x<0)/\(s.2<xs.length->¬cf (e_ xs s.2) x<0)) (λs=>s.2 - s.1) (0,xs.length) (show ((0:Nat)<=(xs.length:Nat))/\((xs.length:Nat)<=xs.length)/\(0<(0:Nat)->cf (e_ xs (((0:Nat):Int) - 1)) x<0)/\((xs.length:Nat)<xs.length->¬cf (e_ xs ((xs.length:Nat):Int)) x<0) from ⟨om,om,(λh=>absurd h dc),(λh=>absurd h om)⟩) (Aa C (Aa C (Aa C (Aa C (Aa Ca (Aa Ca Bp)))))) (show Fit κ _ (e8 b1 [e7 (x.u),e7 (x.v)] 135::I) from A1) ?_))))))))))))))))
 rintro ⟨i,j⟩ hp
 dsimp only at hp ⊢
 obtain ⟨hij,hj,hlo,hhi⟩:=hp
 refine Ap (Ai (Gm C (Gm C (Gr (A7 C C) (Af (A8 C (λc17=>?_) (λc17=>?_)))))))
 ·refine Ay (Aj (A0 (Ai (Gm C (Gm C (Gr (Rad C C) (Gr (Dv Bj Dh C om) (Gr (Runs.shr1 C C) (Gr (Runs.convI Dh Bj C (by unfold InR;omega)) (Ga C (Af (Aq (S7 11 0 2 4 8 9 10 C C C C C C C) (Ap (Bl mixed (Bt (e8 b1 [e7 (x.u),e7 (x.v)] 135::I) 8 (Dr 0 C (Ad C) (Dr 1 C (Ad C) (Dr 2 C (Ad C) (Dr 3 C (Az (α:=Pt) (xs:=xs) Bh ty135 C C (Ba hl) om om) (Dr 4 C (Bz (α:=Pt) (xs:=xs) ty135 C (Ba hl) om om) (Dr 5 C (Bd (vs:=[_,_]) ty135) ?_)))))))))))))))))))))
  refine Ds1 6 (Se C (Cw hcb.1 (first:=[]) (caps:=cp_) C C C (hcb.2 (e_ xs (((i:Int)+(j:Int)) / 2)) x _ A3)) ?_)
  rintro _ _ ⟨_,_,⟨rfl,rfl⟩,rfl,rfl⟩
  refine ⟨A1,?_⟩
  refine Dr 7 C (A7 C C) (Dz (Aj (Aq (S8 31 11 0 2 4 8 9 10 C C C C C C C C) (A8 C (λc31=>?_) (λc31=>?_)))))
  ·exact Ax (Gm C (Gr (Rad C C) (Ga C (Bi (Ak (B5 (((i+j) / 2+1),(j)) (by dsimp only;exact ⟨om,om,(λ_=>by rw [show (((i+j) / 2+1:Nat):Int) - 1=((i:Int)+(j:Int)) / 2 by omega];exact c31),hhi⟩)))))))
  ·exact Ax (Gm C (Ga C (Bi (Ak (B5 ((i),((i+j) / 2)) (by dsimp only;exact ⟨om,om,hlo,(λ_=>by rw [show (((i+j) / 2:Nat):Int)=((i:Int)+(j:Int)) / 2 by omega];exact c31)⟩))))))
 ·refine Bv (Al (Al (A5 (Aj (Ap (Bl mixed (Bt (e8 b1 [e7 (x.u),e7 (x.v)] 135::I) 16 (Dr 0 C (Ad C) (Dr 1 C (Ad C) (Dr 2 C (Ad C) (Dr 3 C (A7 C C) (Dr 4 C (Ad C) (Cs (d:=39) C (λg39=>?_) (λg39=>?_))))))))))))))
  ·refine Dro 5 C (Ad C) (Dro 6 C (Ad C) (Dro 7 C (Ad C) (Dro 8 C (Az (α:=Pt) (xs:=xs) Bh ty135 C C (Ba hl) om om) (Dro 9 C (Bz (α:=Pt) (xs:=xs) ty135 C (Ba hl) om om) (Dro 10 C (Bd (vs:=[_,_]) ty135) ?_)))))
   refine Ds1 11 (Se C (Cw hcb.1 (first:=[]) (caps:=cp_) C C C (hcb.2 (e_ xs i) x _ A3)) ?_)
   rintro _ _ ⟨_,_,⟨rfl,rfl⟩,rfl,rfl⟩
   refine ⟨A1,?_⟩
   refine Dro 12 C (Bu C C) (Dr 13 C (Ar C C) (Dr 14 C (Bb C) (Dr 15 C (Bb C) (Dz (Aj (Aq (S2 7 6 C C) (A2 ?_)))))))
   have hie:i=j:=by omega
   subst hie
   exact Cu C C C I A3 ⟨i,_,rfl,⟨hj,hlo,hhi,(decide_eq_decide.2 ⟨λh=>⟨by omega,h⟩,λh=>h.2⟩)⟩,rfl⟩
  ·refine Dpo 5 C (Dpo 6 C (Dpo 7 C (Dpo 8 C (Dpo 9 C (Dpo 10 C (Dpo 11 C (Dpo 12 C (Dr 13 C (Ao C C) (Dr 14 C (Bb C) (Dr 15 C (Bb C) (Dz (Aj (Aq (S2 7 6 C C) (A2 ?_))))))))))))))
   have hie:i=j:=by omega
   subst hie
   exact Cu C C C I A3 ⟨i,_,rfl,⟨hj,hlo,hhi,((decide_eq_false (λh=>by omega)).symm)⟩,rfl⟩
variable {κ:Ctx}{I:List Item}
theorem CheckGen_ok{nd:Int}{v:Value}{es:List Pt}(hl:Sl κ I v es):eu prog κ 83 [.agg #[e7 nd,v]] I (λr J=>r=e7 (checkG nd es)/\I=J):=by
 refine B8 hl.le λhmax=>?_
 refine Ce1 Tryz.func83 C C ?_
 refine Ai (Ge1 (A9 (cs:=[_,_]) C C C) λb1=>Ga C (Af (Ap (Ai (Gf fld48_0 C (Gl ef ?_))))))
 refine Gr (A7 C C) (Gm C (Bg (d:=8) C (λg8=>?_) (λg8=>?_)))
 ·exact eb (eb (eb (Gr (Ar C C) (Af (Cq C (Ai (Ga C (Af (A2 (Am (A6 C C I A3 ⟨by rw [show checkG nd es=1 from (by unfold checkG;rw [if_pos om])],rfl⟩)))))))))))
 ·refine e9 (Ab fld48_0 C) (e9 (As ef) ?_)
  refine e9 (Bw C C) (Gr (Ao C C) (Af (A8 C (λc12=>?_) (λc12=>?_))))
  ·exact Ai (Ga C (Af (A2 (Am (A6 C C I A3 ⟨by rw [show checkG nd es=1 from (by unfold checkG;rw [if_pos om])],rfl⟩)))))
  ·refine Ay (Aj (Ap (Ai (Gf fld48_1 C (Gl ty46 ?_)))))
   refine Gr (B0 (α:=Pt) (xs:=es) Bh C (Ba hl)) (Gm C (Af (Aq (S4 16 15 14 1 C C C C) (A0 (B1 (σ:=Nat) (λs=>([(1,.pointer (some ⟨b1,0,none⟩)),(14,v),(15,e7 ((es.length:Nat):Int)),(16,e7 ((s:Nat):Int))]:Env)) (λs=>e8 b1 [e7 nd,v] 48::I) (λs=>(s<=es.length)/\(checkG nd es=scanL (badE nd) Pt.lt (prevAt es s) (es.drop s))) (λs=>es.length - s) 0 (show ((0:Nat)<=es.length)/\(checkG nd es=scanL (badE nd) Pt.lt (prevAt es (0:Nat)) (es.drop (0:Nat))) from ⟨om,(by unfold checkG;rw [if_neg om];rfl)⟩) (Aa C (Aa C (Aa C (Aa Ca Bp)))) (show Fit κ _ (e8 b1 [e7 nd,v] 48::I) from A1) ?_)))))
   rintro k hp
   obtain ⟨hk,hs⟩:=hp
   refine Ai (Gr (A7 C C) (Af (Ap (A8 C (λc17=>?_) (λc17=>?_)))))
   ·refine Ay (Aj (Ap (A0 (Ai (Gm C (Gr (Az (α:=Pt) (xs:=es) Bh ty135 C C (Ba hl) om om) (Gr (Bz (α:=Pt) (xs:=es) ty135 C (Ba hl) om om) (Ge1 (Au ty135 C) λb2=>Ga C (Ge0 (Bq ty135) ?_)))))))))
    refine Af (A0 (Ai (Gf fld135_0 C (Gl ef ?_))))
    refine Gr (A7 C C) (Gm C (Bg (d:=25) C (λg25=>?_) (λg25=>?_)))
    ·exact eb (eb (eb (eb (eb (Gr (Ar C C) (Gm C (eb (eb (eb (eb (eb (Gr (Ar C C) (Ga C (Af (Aq (S7 21 3 4 1 14 15 16 C C C C C C C) (Cq C (Ai (Ga C (Af (A2 (Av (Av (Am (Am (Av (Am (A6 C C I A3 ⟨by rw [show checkG nd es=6 from (hs.trans ((Dw om (by unfold badE;rw [if_pos om];decide)).trans (by unfold badE;rw [if_pos om])))],rfl⟩)))))))))))))))))))))))))))
    ·refine e9 (Ab fld135_0 C) (e9 (As ef) ?_)
     refine e9 (Ab fld135_1 C) (e9 (As ef) ?_)
     refine e9 (B9 C C) (Gr (Ao C C) (Gm C (Bg (d:=32) C (λg32=>?_) (λg32=>?_))))
     ·exact eb (eb (eb (eb (eb (Gr (Ar C C) (Ga C (Af (Aq (S7 21 3 4 1 14 15 16 C C C C C C C) (Cq C (Ai (Ga C (Af (A2 (Av (Av (Am (Am (Av (Am (A6 C C I A3 ⟨by rw [show checkG nd es=6 from (hs.trans ((Dw om (by unfold badE;rw [if_pos om];decide)).trans (by unfold badE;rw [if_pos om])))],rfl⟩))))))))))))))))))))
     ·refine e9 (Ab fld135_1 C) (e9 (As ef) ?_)
      refine e9 (Ab fld48_0 C) (e9 (As ef) ?_)
      refine e9 (B9 C C) (Gr (Ao C C) (Ga C (Af (Aq (S7 21 3 4 1 14 15 16 C C C C C C C) (A8 C (λc21=>?_) (λc21=>?_))))))
      ·exact Ai (Ga C (Af (A2 (Av (Av (Am (Am (Av (Am (A6 C C I A3 ⟨by rw [show checkG nd es=6 from (hs.trans ((Dw om (by unfold badE;rw [if_pos om];decide)).trans (by unfold badE;rw [if_pos om])))],rfl⟩))))))))))
      ·refine Ap (Bl mixed (Bt (e8 b2 [e7 ((e_ es k).u),e7 ((e_ es k).v)] 135::e8 b1 [e7 nd,v] 48::I) 14 (Dr 0 C (Ad C) (Dr 1 C (Bw C C) (Dr 2 C (Ad C) (Cs (d:=42) C (λg42=>?_) (λg42=>?_)))))))
       ·refine Dro 3 C (Ab fld48_1 C) (Dro 4 C (As ty46) ?_)
        refine Dro 5 C (Ad C) (Dro 6 C (Rsu C C) (Dro 7 C (Az (α:=Pt) (xs:=es) Bh ty135 C C (Ba hl) om om) (Dro 8 C (Bz (α:=Pt) (xs:=es) ty135 C (Ba hl) om om) (Dro 9 C (Bd (vs:=[_,_]) ty135) ?_))))
        refine Ds1 10 (Se C (Ah call154 C C (Order_ok (e_ es ((k:Int) - 1)) (e_ es k))) ?_)
        rintro _ _ ⟨_,_,⟨rfl,rfl⟩,rfl,rfl⟩
        refine ⟨A3,?_⟩
        refine Dro 11 C (B9 C C) (Dr 12 C (Ar C C) (Dr 13 C (Bb C) (Dz (Aj (Aq (S5 39 1 14 15 16 C C C C C) (A8 C (λc39=>?_) (λc39=>?_)))))))
        ·exact Ai (Ga C (Af (A2 (Av (Av (Am (Am (Av (Am (A6 C C I A3 ⟨by rw [show checkG nd es=5 from (hs.trans (scanL_order om (badE_zero.2 om) om (λh=>by have:=(Pt.cmp_lt _ _).2 h;omega)))],rfl⟩))))))))))
        ·exact Ay (Ak (Ak (Aj (Ax (Gr (Rad C C) (Gm C (Bi (B5 ((k+1)) ⟨om,(hs.trans (Fc om (badE_zero.2 om) (λh0=>by first|omega|exact (Pt.cmp_lt _ _).1 om)))⟩))))))))
       ·exact Dpo 3 C (Dpo 4 C (Dpo 5 C (Dpo 6 C (Dpo 7 C (Dpo 8 C (Dpo 9 C (Dpo 10 C (Dpo 11 C (Dr 12 C (Ao C C) (Dr 13 C (Bb C) (Dz (Aj (Aq (S5 39 1 14 15 16 C C C C C) (C2 C (Ay (Ak (Ak (Aj (Ax (Gr (Rad C C) (Gm C (Bi (B5 ((k+1)) ⟨om,(hs.trans (Fc om (badE_zero.2 om) (λh0=>by first|omega|exact (Pt.cmp_lt _ _).1 om)))⟩)))))))))))))))))))))))
   ·exact Bv (Al (Al (A5 (Aj (Ai (Ga C (Af (A2 (A6 C C I A3 ⟨by rw [show checkG nd es=0 from (hs.trans (scanL_end om))],rfl⟩)))))))))
theorem EdgeG_ok(u v:Int):eu prog κ 319 [e7 u,e7 v] I (λr J=>r = .agg #[e7 (edgeP u v).u,e7 (edgeP u v).v]/\I=J):=by
 refine Ce2 Tryz.func319 C C ?_
 refine Ai (Ge1 (Au ty135 C) λb1=>Af (Ai (Gm C (Gm C (Gr (Ex C C) (Gm C (Gm C (Gr (D2 C C) (Gr (Bc (cells:=[_,_]) ty135 Di pl135 C C) (Ge0 (Bq ty135) ?_))))))))))
 exact Af (A2 (C5 C ty135 C mm C I A3 ⟨rfl,rfl⟩))
theorem Order_cmps:Cmps prog κ I 154 [] Pt.cmp:=⟨call154,λx y J hf=>Order_ok x y⟩
theorem Place_ok{nd:Int}{va:Value}{es:List Pt}(hl:Sl κ I va es)(u v:Int)(hb:es.length<=1000000000):eu prog κ 285 [.agg #[e7 nd,va],e7 u,e7 v] I (λr J=>∃i q,r = .tuple #[e7 ((i:Nat):Int),.bool (decide (i<es.length/\e_ es ((i:Nat):Int)=(edgeP u v)))]/\BFound Pt.cmp es (edgeP u v) i q/\I=J):=by
 refine B8 hl.le λhmax=>?_
 refine Ce3 Tryz.func285 C C ?_
 refine Ai (Ge1 (A9 (cs:=[_,_]) C C C) λb1=>Ga C (Ga C (Af (Ai (Gm C (Gm C (Gc0 (Ah call319 C C (EdgeG_ok u v)) ?_)))))))
 refine Ge1 (Au ty135 C) λb2=>Ge0 (Bq ty135) ?_
 refine Af (Ai (Gf fld48_1 C (Gl ty46 ?_)))
 refine Gl2 ty135 ?_
 refine G.e (Ah call320 C C (BSearchE (Ba hl) (edgeP u v) Order_cmps om)) ?_
 rintro _ _ ⟨_,_,⟨i3,q4,rfl,hi3,rfl⟩,rfl,rfl⟩
 refine Gm C (Gr (Aw C C) (Gr (Aw C C) (Ga C (Ga C (Af (Aq (S3 9 8 3 C C C) (Ap (Bl mixed (Bt (e8 b2 [e7 ((edgeP u v).u),e7 ((edgeP u v).v)] 135::e8 b1 [e7 nd,va] 48::I) 17 (Dr 0 C (Ad C) (Dr 1 C (Ad C) (Dr 2 C (Ab fld48_1 C) (Dr 3 C (As ty46) ?_)))))))))))))
 refine Dr 4 C (B0 (α:=Pt) (xs:=es) Bh C (Ba hl)) (Dr 5 C (A7 C C) (Dr 6 C (Ad C) (Cs (d:=27) C (λg27=>?_) (λg27=>?_))))
 ·refine Dro 7 C (Ab fld48_1 C) (Dro 8 C (As ty46) ?_)
  refine Dro 9 C (Ad C) (Dro 10 C (Az (α:=Pt) (xs:=es) Bh ty135 C C (Ba hl) om om) (Dro 11 C (Bz (α:=Pt) (xs:=es) ty135 C (Ba hl) om om) (Dro 12 C (Bd (vs:=[_,_]) ty135) ?_)))
  exact Dro 13 C (Eu (α:=Pt) (a:=(e_ es i3)) (b:=(edgeP u v)) eqt135 C C) (Dr 14 C (Ar C C) (Dr 15 C (Bb C) (Dr 16 C (Bb C) (Dz (Aj (Aq (S2 7 6 C C) (A2 (Cu C C C I A3 ⟨i3,q4,congrArg (λb_=>Value.tuple #[e7 (i3:Int),.bool b_]) (decide_eq_decide.2 ⟨λh=>⟨by omega,h⟩,λh=>h.2⟩),hi3,rfl⟩))))))))
 ·exact Dpo 7 C (Dpo 8 C (Dpo 9 C (Dpo 10 C (Dpo 11 C (Dpo 12 C (Dpo 13 C (Dr 14 C (Ao C C) (Dr 15 C (Bb C) (Dr 16 C (Bb C) (Dz (Aj (Aq (S2 7 6 C C) (A2 (Cu C C C I A3 ⟨i3,q4,congrArg (λb_=>Value.tuple #[e7 (i3:Int),.bool b_]) (decide_eq_false (λh=>by omega)).symm,hi3,rfl⟩))))))))))))))
variable {κ:Ctx}{I:List Item}
def bitB(v:Int):BitVec 64:=if v<0\/64<=v then 0#64 else 1#64 <<< v.toNat
def maskB(l:List Int):BitVec 64:=l.foldl (λm v=>m ||| bitB v) 0#64
def allB(n:Int):BitVec 64:=if n<=0 then 0#64 else if 64<=n then 18446744073709551615#64 else (1#64 <<< n.toNat) - 1#64
theorem maskB_take{l:List Int}{k:Nat}(h:k<l.length):maskB (l.take (k+1))=maskB (l.take k) ||| bitB (e_ l k):=by
 unfold maskB;rw [C6 l k h,List.foldl_append];rfl
def ones1(m:BitVec 64):BitVec 64:=((m >>> (1:Int).toNat) &&& 6148914691236517205#64)+(m &&& 6148914691236517205#64)
def ones2(m:BitVec 64):BitVec 64:=((m >>> (2:Int).toNat) &&& 3689348814741910323#64)+(m &&& 3689348814741910323#64)
def ones3(m:BitVec 64):BitVec 64:=((m >>> (4:Int).toNat)+m) &&& 1085102592571150095#64
def ones4(m:BitVec 64):BitVec 64:=m+(m >>> (8:Int).toNat)
def ones5(m:BitVec 64):BitVec 64:=m+(m >>> (16:Int).toNat)
def ones6(m:BitVec 64):BitVec 64:=m+(m >>> (32:Int).toNat)
def onesB(m:BitVec 64):Int:=((ones6 (ones5 (ones4 (ones3 (ones2 (ones1 m)))))).toNat:Int) % 128
theorem ones_small(m:BitVec 64):(ones6 (ones5 (ones4 (ones3 m)))).toNat<9223372036854775808:=by
 have h3:(ones3 m).toNat<=1085102592571150095:=by unfold ones3;rw [BitVec.toNat_and];exact Nat.and_le_right
 generalize ones3 m=a at h3
 have h4:(ones4 a).toNat<=a.toNat+a.toNat / 256:=by
  unfold ones4;rw [BitVec.toNat_add,BitVec.toNat_ushiftRight,Nat.shiftRight_eq_div_pow,show 2 ^ (8:Int).toNat=256 by decide];exact Nat.mod_le _ _
 generalize ones4 a=b at h4
 have h5:(ones5 b).toNat<=b.toNat+b.toNat / 65536:=by
  unfold ones5;rw [BitVec.toNat_add,BitVec.toNat_ushiftRight,Nat.shiftRight_eq_div_pow,show 2 ^ (16:Int).toNat=65536 by decide];exact Nat.mod_le _ _
 generalize ones5 b=c at h5
 have h6:(ones6 c).toNat<=c.toNat+c.toNat / 4294967296:=by
  unfold ones6;rw [BitVec.toNat_add,BitVec.toNat_ushiftRight,Nat.shiftRight_eq_div_pow,show 2 ^ (32:Int).toNat=4294967296 by decide];exact Nat.mod_le _ _
 omega
theorem Bit_ok(v:Int):eu prog κ 237 [e7 v] I (λr J=>r=U64 (bitB v)/\I=J):=by
 refine Ce1 Tryz.func237 C C ?_
 refine Ai (Ga C (Af (Ap (Ai (Gm C (Gr (A7 C C) (Gm C (Bg (d:=5) C (λg5=>?_) (λg5=>?_)))))))))
 ·exact eb (eb (Gr (Ar C C) (Af (Cq C (Ai (Ga C (Af (A2 (Am (A6 C C I A3 ⟨by unfold bitB;rw [if_pos om];rfl,rfl⟩))))))))))
 ·refine e9 (Ad C) (e9 (B9 C C) (Gr (Ao C C) (Af (A8 C (λc8=>?_) (λc8=>?_)))))
  ·exact Ai (Ga C (Af (A2 (Am (A6 C C I A3 ⟨by unfold bitB;rw [if_pos om];rfl,rfl⟩)))))
  ·exact Ay (Aj (Ai (Gm C (Gr (Runs.shlB (a:=1#64) C C om om) (Ga C (Af (A2 (A6 C C I A3 ⟨by unfold bitB;rw [if_neg om],rfl⟩))))))))
theorem MaskOf_ok{v:Value}{l:List Int}(hl:Sl κ I v l):eu prog κ 199 [v] I (λr J=>r=U64 (maskB l)/\I=J):=by
 refine B8 hl.le λhmax=>?_
 refine Ce1 Tryz.func199 C C ?_
 refine Ai (Ga C (Af (Ai (Ga C (Af (Ap (Ai (Gm C (Gr (B0 (α:=Int) (xs:=l) Ac C (Ba hl)) (Gm C (Af (A0 (B1 (σ:=Nat×(BitVec 64)) (λs=>([(3,U64 (s.2)),(6,v),(7,e7 ((l.length:Nat):Int)),(8,e7 ((s.1:Nat):Int))]:Env)) (λs=>I) (λs=>(s.1<=l.length)/\(s.2=maskB (l.take s.1))) (λs=>l.length - s.1) (0,0#64) (show ((0:Nat)<=l.length)/\((0#64:BitVec 64)=maskB (l.take (0:Nat))) from ⟨om,rfl⟩) (Aa (Dl C (by first|rfl|simp)) (Aa C (Aa C (Aa Ca Bp)))) (show Fit κ _ I from A1) ?_)))))))))))))
 rintro ⟨k,m⟩ hp
 dsimp only at hp ⊢
 obtain ⟨hk,hm⟩:=hp
 refine Ai (Gr (A7 C C) (Af (Ap (A8 C (λc9=>?_) (λc9=>?_)))))
 ·refine Ay (Aj (Ap (A0 (Ai (Gr (Az (α:=Int) (xs:=l) Ac ef C C (Ba hl) om om) (Gr (Bo (xs:=l) ef C (Ba hl) om om) (Ga C (Af (Ax (Gm C (Gm C (G.e (Ah call237 C C (Bit_ok (e_ l k))) ?_))))))))))))
  rintro _ _ ⟨_,_,⟨rfl,rfl⟩,rfl,rfl⟩
  exact Gr (E8 (a:=m) (b:=bitB (e_ l k)) C C) (Ga C (Bi (Ak (Aj (Ax (Gr (Rad C C) (Gm C (Bi (B5 ((k+1),(m ||| (bitB (e_ l k)))) (by dsimp only;exact ⟨om,(by rw [maskB_take om,←hm])⟩))))))))))
 ·refine Bv (Al (Al (A5 (Aj (Ai (Gm C (Ga C (Af (A2 ?_)))))))))
  rw [List.take_of_length_le om] at hm
  exact A6 C C I A3 ⟨by rw [hm],rfl⟩
theorem MaskAll_ok(n:Int):eu prog κ 200 [e7 n] I (λr J=>r=U64 (allB n)/\I=J):=by
 refine Ce1 Tryz.func200 C C ?_
 refine Ai (Ga C (Af (Ap (A0 (Ai (Gm C (Gr (Ey C C) (Ga C (Af (A8 C (λc3=>?_) (λc3=>?_)))))))))))
 ·exact Ai (Ga C (Af (A2 (Av (Am (A6 C C I A3 ⟨by unfold allB;rw [if_pos om];rfl,rfl⟩))))))
 ·refine Ai (Gm C (Gr (B9 C C) (Ga C (Af (A8 C (λc6=>?_) (λc6=>?_))))))
  ·exact Ai (Ga C (Af (A2 (Av (Am (A6 C C I A3 ⟨by unfold allB;rw [if_neg om,if_pos om];rfl,rfl⟩))))))
  ·exact Ay (Ak (Aj (Ai (Gm C (Gr (Runs.shlB (a:=1#64) C C om om) (Gr (Runs.subB (a:=(1#64) <<< (n).toNat) (b:=1#64) C C) (Ga C (Af (A2 (A6 C C I A3 ⟨by unfold allB;rw [if_neg om,if_neg om],rfl⟩))))))))))
theorem OnesCount_ok(m:BitVec 64):eu prog κ 271 [U64 m] I (λr J=>r=e7 (onesB m)/\I=J):=by
 refine Ce1 Tryz.func271 C C ?_
 refine Ai (Ga C (Af (Ai (Gm C (Gr (E7 (a:=m) C C om om) (Gr (Da (a:=m >>> (1:Int).toNat) (b:=6148914691236517205#64) C C) (Gm C (Gr (Da (a:=m) (b:=6148914691236517205#64) C C) (Gr (Runs.addB (a:=(m >>> (1:Int).toNat) &&& (6148914691236517205#64)) (b:=m &&& (6148914691236517205#64)) C C) (Ga C ?_))))))))))
 generalize hm1:((m >>> (1:Int).toNat) &&& (6148914691236517205#64))+(m &&& (6148914691236517205#64))=m1
 refine Af (Ai (Gm C (Gr (E7 (a:=m1) C C om om) (Gr (Da (a:=m1 >>> (2:Int).toNat) (b:=3689348814741910323#64) C C) (Gm C (Gr (Da (a:=m1) (b:=3689348814741910323#64) C C) (Gr (Runs.addB (a:=(m1 >>> (2:Int).toNat) &&& (3689348814741910323#64)) (b:=m1 &&& (3689348814741910323#64)) C C) (Ga C ?_))))))))
 generalize hm2:((m1 >>> (2:Int).toNat) &&& (3689348814741910323#64))+(m1 &&& (3689348814741910323#64))=m2
 refine Af (Aq (S1 0 C) (Ai (Gm C (Gr (E7 (a:=m2) C C om om) (Gm C (Gr (Runs.addB (a:=m2 >>> (4:Int).toNat) (b:=m2) C C) (Gr (Da (a:=(m2 >>> (4:Int).toNat)+m2) (b:=1085102592571150095#64) C C) (Ga C ?_))))))))
 generalize hm3:((m2 >>> (4:Int).toNat)+m2) &&& (1085102592571150095#64)=m3
 refine Af (Ai (Gm C (Gm C (Gr (E7 (a:=m3) C C om om) (Gr (Runs.addB (a:=m3) (b:=m3 >>> (8:Int).toNat) C C) (Ga C ?_))))))
 generalize hm4:m3+(m3 >>> (8:Int).toNat)=m4
 refine Af (Ai (Gm C (Gm C (Gr (E7 (a:=m4) C C om om) (Gr (Runs.addB (a:=m4) (b:=m4 >>> (16:Int).toNat) C C) (Ga C ?_))))))
 generalize hm5:m4+(m4 >>> (16:Int).toNat)=m5
 refine Af (Aq (S1 0 C) (Ai (Gm C (Gm C (Gr (E7 (a:=m5) C C om om) (Gr (Runs.addB (a:=m5) (b:=m5 >>> (32:Int).toNat) C C) (Ga C ?_)))))))
 generalize hm6:m5+(m5 >>> (32:Int).toNat)=m6
 exact Af (Ai (Gm C (Gr (Runs.toI Cr Bj C (by subst hm6 hm5 hm4 hm3;exact ones_small _)) (Gr (Runs.and127 C C om) (Ga C (Af (A2 (A6 C C I A3 ⟨by subst hm6 hm5 hm4 hm3 hm2 hm1;rfl,rfl⟩))))))))
theorem MCount_ok(m:BitVec 64):eu prog κ 219 [U64 m] I (λr J=>r=e7 (onesB m)/\I=J):=by
 refine Ce1 Tryz.func219 C C ?_
 refine Ai (Ga C (Af (Ai (Gm C (Gc0 (Ah call271 C C (OnesCount_ok m)) ?_)))))
 exact Ga C (Af (A2 (A6 C C I A3 ⟨rfl,rfl⟩)))
theorem bitB_two{v:Int}(h0:0<=v)(h1:v<64):bitB v=BitVec.twoPow 64 v.toNat:=by
 unfold bitB;rw [if_neg om];rfl
theorem getLsb_bitB{v:Int}{i:Nat}(hi:i<64):(bitB v).getLsbD i=decide (v=(i:Int)):=by
 by_cases h:0<=v/\v<64
 ·rw [bitB_two h.1 h.2,BitVec.getLsbD_twoPow]
  have e:(v.toNat=i)↔(v=(i:Int)):=by omega
  simp [hi,h,e]
 ·unfold bitB
  rw [if_pos om]
  have:¬v=(i:Int):=by omega
  simp [this]
theorem getLsb_maskB{i:Nat}(hi:i<64):∀(l:List Int) (m:BitVec 64),(l.foldl (λm v=>m ||| bitB v) m).getLsbD i=(m.getLsbD i||decide ((i:Int)∈l))
 |[],m=>by simp
 |v::l,m=>by
  rw [List.foldl_cons,getLsb_maskB hi l,BitVec.getLsbD_or,getLsb_bitB hi]
  by_cases h1:v=(i:Int)
  ·simp [h1]
  ·have:¬(i:Int)=v:=λe=>h1 e.symm
   simp [h1,this]
theorem mem_maskB{l:List Int}{v:Int}(h0:0<=v)(h1:v<64):(maskB l &&& bitB v≠0#64)↔v∈l:=by
 have hm:(maskB l).getLsbD v.toNat=decide (v∈l):=by
  unfold maskB;rw [getLsb_maskB om,show ((v.toNat:Nat):Int)=v by omega];simp
 rw [bitB_two h0 h1,BitVec.and_twoPow,hm]
 by_cases h:v∈l
 ·simp only [h,decide_true,if_true,iff_true]
  intro e
  have:=congrArg (λb=>BitVec.getLsbD b v.toNat) e
  simp only [BitVec.getLsbD_twoPow] at this
  simp at this
  omega
 ·simp [h]
def inE(set:List Int)(e:Pt):Bool:=decide ((maskB set &&& bitB e.u≠0#64)/\(maskB set &&& bitB e.v≠0#64))
def insideL(set:List Int)(es:List Pt):List Pt:=es.filter (inE set)
theorem inE_eq{nd:Int}{es:List Pt}{set:List Int}(h:GrOk nd es){e:Pt}(he:e∈es):inE set e=decide (e.u∈set/\e.v∈set):=by
 have:=h.edge e he;have:=h.rng
 unfold inE
 rw [decide_eq_decide,mem_maskB om om,mem_maskB om om]
theorem insideL_eq{nd:Int}{es:List Pt}(set:List Int)(h:GrOk nd es):insideL set es=es.filter λe=>decide (e.u∈set/\e.v∈set):=
 List.filter_congr λe he=>inE_eq h he
def insideN(nd:Int)(es:List Pt)(set:List Int):Nat:=if checkG nd es≠0 then 0 else (insideL set es).length
theorem insideN_le(nd:Int)(es:List Pt)(set:List Int):insideN nd es set<=es.length:=by
 unfold insideN;split
 ·exact Nat.zero_le _
 ·exact List.length_filter_le _ _
end Go.Sl
