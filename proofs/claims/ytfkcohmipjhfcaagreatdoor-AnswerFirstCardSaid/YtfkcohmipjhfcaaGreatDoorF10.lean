/- A part of the proofs of statements of this seat: contracts of functions, and the plain laws that they lean on. No conditions. -/
import Derived.Test.YtfkcohmipjhfcaaGreatDoorF9
import Derived.Shelf.SortM.Plain
import Derived.Shelf.SortM.SortNone
set_option linter.unusedVariables false
set_option linter.unusedSimpArgs false
set_option linter.unusedSectionVars false
namespace Go.Sl
open Go.Proofs
set_option maxRecDepth 4000
variable {κ:Ctx}{I:List Item}
theorem AgeP_two{b:Nat}{nd kd wd mo T last:Int}{a0 o0:Option Addr}{c0 d0:Nat}{xs:List Lk}{out:List Ev}(hk:kd=2)(hI0:SlI nd kd wd last xs)(hw:checkW kd wd mo=0)(hT:0≤last∧last≤T∧T≤1048576)(hsz:xs.length+out.length≤400000) :
  CallS Tryz.prog κ 211 [.pointer (some ⟨b,0,none⟩),.agg #[I64 kd,I64 wd,I64 mo],I64 T] (blk b [I64 (nd),.slice a0 xs.length c0,.slice o0 out.length d0] 241::vc 146 (.slice a0 xs.length c0) (xs)::vc 108 (.slice o0 out.length d0) (out)::I) (fun r J=>∃y:Option Addr×Nat×Option Addr×Nat,(r = .tuple #[]∧SlI nd kd wd T (ageL wd mo T xs out).1∧(ageL wd mo T xs out).1.length+(ageL wd mo T xs out).2.length=xs.length+out.length)∧J=blk b [I64 (nd),.slice y.1 ((ageL wd mo T xs out).1).length y.2.1,.slice y.2.2.1 ((ageL wd mo T xs out).2).length y.2.2.2] 241::vc 146 (.slice y.1 ((ageL wd mo T xs out).1).length y.2.1) ((ageL wd mo T xs out).1)::vc 108 (.slice y.2.2.1 ((ageL wd mo T xs out).2).length y.2.2.2) ((ageL wd mo T xs out).2)::I):=by
 subst hk
 exact AgeP_base hI0 hw hT hsz
theorem evStep_three{kd wd mo:Int}{xs:List Lk}{out:List Ev}{e:Ev}{ys:List Lk}{zs:List Ev}(h:agedL kd wd mo e.tm (xs,out)=(ys,zs))(hk:kd=3):evStep kd wd mo (xs,out) e=((stepL ys e).filter (inW kd wd mo e.tm (stepL ys e)),zs++[e]++goneL kd wd mo e.tm (stepL ys e)):=by
 unfold evStep windL;rw [h,if_pos hk]
theorem evStep_not{kd wd mo:Int}{xs:List Lk}{out:List Ev}{e:Ev}{ys:List Lk}{zs:List Ev}(h:agedL kd wd mo e.tm (xs,out)=(ys,zs))(hk:¬kd=3):evStep kd wd mo (xs,out) e=(stepL ys e,zs++[e]):=by
 unfold evStep windL;rw [h,if_neg hk]
theorem checkW_one{kd wd mo:Int}(h:checkW kd wd mo=0)(hk:kd=2):1≤wd:=by
 unfold checkW at h
 split at h
 ·cases h
 ·split at h
  ·cases h
  ·omega
theorem lastT_ge{nd:Int}{es:List Ev}(h:StOk nd es){k:Nat}(hk:k≤es.length):0≤lastT es k:=by
 cases k with
 |zero=>exact Int.le_refl _
 |succ k=>rw [lastT_succ];exact (h.fit k om).tm.1
theorem slideE_st{nd kd wd mo:Int}{es:List Ev}(h1:¬checkW kd wd mo≠0):slideE nd kd wd mo es=streamE nd es:=by unfold slideE;rw [if_neg h1]
set_option maxHeartbeats 1000000 in
theorem Slide_ok{nd kd wd mo:Int}{va:Value}{es:List Ev}(hl:Sl κ I va es) :
    CallS Tryz.prog κ 140 [I64 (nd),va,.agg #[I64 (kd),I64 (wd),I64 (mo)]] I (fun r J=>((slideE nd kd wd mo es)≠0∧r = .tuple #[.slice none 0 0,I64 (slideE nd kd wd mo es)]∧I=J)∨(∃a c,(slideE nd kd wd mo es)=0∧r = .tuple #[.slice a (slideS kd wd mo es).2.length c,I64 0]∧J=vc 108 (.slice a (slideS kd wd mo es).2.length c) (slideS kd wd mo es).2::I)):=by
 refine B4 hl.le fun hmax=>?_
 refine Ce3 Tryz.func140 rfl rfl ?_
 refine Ah (Ge1 (Bb (cs:=[_,_,_]) rfl rfl rfl) fun b1=>Ga rfl (Ga rfl (Af (Av (Ah (Gl3 ty31 ?_))))))
 refine G.e (Aj call78 rfl rfl (CheckW_ok kd wd mo)) ?_
 rintro _ _ ⟨_,_,⟨rfl,rfl⟩,rfl,rfl⟩
 refine Ga rfl (Af (Ah (Gm rfl (Gr (Bh rfl rfl) (Af (A6 rfl (fun c16=>?_) (fun c16=>?_)))))))
 ·refine Ah (Gm rfl (Ga rfl (Ga rfl (Af (Ar (S2 7 6 rfl rfl) (Ay (Ad ?_)))))))
  have hz:(slideE nd kd wd mo es)=checkW kd wd mo:=by unfold slideE;rw [if_pos c16]
  exact Ct rfl rfl rfl (I) A1 (.inl ⟨by rw [hz];exact c16,by rw [hz],rfl⟩)
 ·refine Az (Ai (Av (Ah (Gm rfl (Gm rfl (G.e (Aj call139 rfl rfl (Stream_ok (nd:=nd) (Bl hl))) ?_))))))
  rintro _ _ ⟨_,_,⟨rfl,rfl⟩,rfl,rfl⟩
  refine Ga rfl (Af (Ar (S4 9 5 0 1 rfl rfl rfl rfl) (Ah (Gm rfl (Gr (Bh rfl rfl) (Af (A6 rfl (fun c22=>?_) (fun c22=>?_))))))))
  ·refine Ah (Gm rfl (Ga rfl (Ga rfl (Af (Ay (Ad ?_))))))
   have hz:(slideE nd kd wd mo es)=streamE nd es:=slideE_st c16
   exact Ct rfl rfl rfl (I) A1 (.inl ⟨by rw [hz];exact c22,by rw [hz],rfl⟩)
  ·refine Az (Ai (Ah (Gm rfl ?_)))
   have hE:=streamE_ok (Classical.not_not.1 c22)
   refine Gr (Bc (cells:=[_,_]) ty111 Dp pl111 rfl rfl) (Gr (Bc (cells:=[_,_,_]) ty241 Tryz.underlying241 pl241 rfl rfl) (Ge1 (Bb (cs:=[_,_,_]) rfl rfl rfl) fun b2=>Ga rfl (Af (Av (Ah (Gm rfl (Gr (Bu (α:=Ev) (xs:=es) Aw rfl (Bl hl)) (Gm rfl (Af (Ar (S5 30 29 28 10 5 rfl rfl rfl rfl rfl) (A5 (Bv (σ:=Nat×(Option Addr)×Nat×(Option Addr)×Nat×(List Lk)×(List Ev)) (fun s=>([(5,.pointer (some ⟨b1,0,none⟩)),(10,.pointer (some ⟨b2,0,none⟩)),(28,va),(29,I64 (((es.length:Nat):Int))),(30,I64 (((s.1:Nat):Int)))]:Env)) (fun s=>blk b2 [I64 (nd),.slice s.2.1 s.2.2.2.2.2.1.length s.2.2.1,.slice s.2.2.2.1 s.2.2.2.2.2.2.length s.2.2.2.2.1] 241::vc 146 (.slice s.2.1 s.2.2.2.2.2.1.length s.2.2.1) (s.2.2.2.2.2.1)::vc 108 (.slice s.2.2.2.1 s.2.2.2.2.2.2.length s.2.2.2.2.1) (s.2.2.2.2.2.2)::blk b1 [I64 (kd),I64 (wd),I64 (mo)] 31::I) (fun s=>(s.1≤es.length)∧(slideS kd wd mo (List.take s.1 es)=(s.2.2.2.2.2.1,s.2.2.2.2.2.2))∧(SlI nd kd wd (lastT es s.1) s.2.2.2.2.2.1)∧(s.2.2.2.2.2.1.length+s.2.2.2.2.2.2.length≤2*s.1)) (fun s=>es.length - s.1) (0,none,0,none,0,[],[]) (show ((0:Nat)≤es.length)∧(slideS kd wd mo (List.take (0:Nat) es)=(([]:List Lk),([]:List Ev)))∧(SlI nd kd wd (lastT es (0:Nat)) ([]:List Lk))∧(([]:List Lk).length+([]:List Ev).length≤2*(0:Nat)) from ⟨om,rfl,(SlI.nil hE.nodes),(by simp)⟩) (Ab rfl (Ab rfl (Ab rfl (Ab rfl (Ab Ca Bp))))) (show Fit κ _ (blk b2 [I64 (nd),.slice (none) ([]).length (0),.slice (none) ([]).length (0)] 241::vc 146 (.slice (none) ([]).length (0)) (([]))::vc 108 (.slice (none) ([]).length (0)) (([]))::blk b1 [I64 (kd),I64 (wd),I64 (mo)] 31::I) from (Cp (Bw 108 _) (Cp (Bw 146 _) Bz))) ?_))))))))))))
   rintro ⟨k,a1,c1,o1,d1,xs,out⟩ hp
   dsimp only at hp ⊢
   obtain ⟨hk,hst,hI,hs⟩:=hp
   have hlen:=hE.len
   refine Ah (Gr (A8 rfl rfl) (Af (Av (A6 rfl (fun c31=>?_) (fun c31=>?_)))))
   ·refine Az (Ai (Av (A5 (Ah (Gr (Ba (α:=Ev) (xs:=es) Aw ty108 rfl rfl (Bl hl) om om) (Gr (Bs (α:=Ev) (xs:=es) ty108 rfl (Bl hl) om om) (Ge1 (Ax ty108 rfl) fun b3=>Ge0 (Es7_7 ty108) ?_)))))))
    have hfe:=hE.fit k om
    have hto:=hE.asc k om
    refine Af (Ek (σ:=(Option Addr)×Nat×(Option Addr)×Nat×(List Lk)×(List Ev)) (fun s=>([(5,.pointer (some ⟨b1,0,none⟩)),(10,.pointer (some ⟨b2,0,none⟩)),(12,.pointer (some ⟨b3,0,none⟩)),(28,va),(29,I64 (((es.length:Nat):Int))),(30,I64 ((k:Int)))]:Env)) (fun s=>blk b2 [I64 (nd),.slice s.1 s.2.2.2.2.1.length s.2.1,.slice s.2.2.1 s.2.2.2.2.2.length s.2.2.2.1] 241::vc 146 (.slice s.1 s.2.2.2.2.1.length s.2.1) (s.2.2.2.2.1)::vc 108 (.slice s.2.2.1 s.2.2.2.2.2.length s.2.2.2.1) (s.2.2.2.2.2)::blk b3 [I64 ((at_ es (k:Int)).kd),I64 ((at_ es (k:Int)).tm),I64 ((at_ es (k:Int)).u),I64 ((at_ es (k:Int)).v),I64 ((at_ es (k:Int)).w),I64 ((at_ es (k:Int)).lb),I64 ((at_ es (k:Int)).sg)] 108::blk b1 [I64 (kd),I64 (wd),I64 (mo)] 31::I) (fun s=>((agedL kd wd mo (at_ es (k:Int)).tm (xs,out))=(s.2.2.2.2.1,s.2.2.2.2.2))∧(SlI nd kd wd (at_ es (k:Int)).tm s.2.2.2.2.1)∧(s.2.2.2.2.1.length+s.2.2.2.2.2.length=xs.length+out.length)) ?_ ?_)
    ·refine Ah (Gf fld31_0 rfl (Gl ty3 ?_))
     refine Gr (Bi rfl rfl) (Af (A6 rfl (fun c36=>?_) (fun c36=>?_)))
     ·refine A2 (Gm rfl (Gl3 ty31 ?_))
      refine Gf fld108_1 rfl (Gl ty3 ?_)
      refine G.e (Aj call211 rfl rfl (Cq (J:=blk b2 [I64 (nd),.slice a1 xs.length c1,.slice o1 out.length d1] 241::vc 146 (.slice a1 xs.length c1) (xs)::vc 108 (.slice o1 out.length d1) (out)::blk b3 [I64 ((at_ es (k:Int)).kd),I64 ((at_ es (k:Int)).tm),I64 ((at_ es (k:Int)).u),I64 ((at_ es (k:Int)).v),I64 ((at_ es (k:Int)).w),I64 ((at_ es (k:Int)).lb),I64 ((at_ es (k:Int)).sg)] 108::blk b1 [I64 (kd),I64 (wd),I64 (mo)] 31::I) Bz (AgeP_two (nd:=nd) (T:=(at_ es (k:Int)).tm) (xs:=xs) (out:=out) c36 hI (Classical.not_not.1 c16) ⟨lastT_ge hE om,hto,hfe.tm.2⟩ om))) ?_
      rintro _ _ ⟨_,_,⟨⟨ad4,cp5,ad6,cp7⟩,⟨rfl,hag⟩,rfl⟩,rfl,rfl⟩
      show G Tryz.prog κ _ _ _ _ ([(41,.tuple #[]),(40,I64 ((at_ es (k:Int)).tm)),(39,.pointer (some ⟨b3,1,none⟩)),(38,.agg #[I64 (kd),I64 (wd),I64 (mo)]),(37,.pointer (some ⟨b2,0,none⟩)),(36,.bool (decide (kd=2))),(35,I64 (kd)),(34,.pointer (some ⟨b1,0,none⟩)),(12,.pointer (some ⟨b3,0,none⟩)),(33,.agg #[I64 ((at_ es (k:Int)).kd),I64 ((at_ es (k:Int)).tm),I64 ((at_ es (k:Int)).u),I64 ((at_ es (k:Int)).v),I64 ((at_ es (k:Int)).w),I64 ((at_ es (k:Int)).lb),I64 ((at_ es (k:Int)).sg)]),(32,elemPtr (va) (((k:Int)).toNat*Enc.sz Ev)),(31,.bool (decide ((k:Int)<((es.length:Nat):Int)))),(5,.pointer (some ⟨b1,0,none⟩)),(10,.pointer (some ⟨b2,0,none⟩)),(28,va),(29,I64 (((es.length:Nat):Int))),(30,I64 ((k:Int)))]:Env) (blk b2 [I64 (nd),.slice ad4 ((ageL wd mo ((at_ es (k:Int)).tm) xs out).1).length cp5,.slice ad6 ((ageL wd mo ((at_ es (k:Int)).tm) xs out).2).length cp7] 241::vc 146 (.slice ad4 ((ageL wd mo ((at_ es (k:Int)).tm) xs out).1).length cp5) ((ageL wd mo ((at_ es (k:Int)).tm) xs out).1)::vc 108 (.slice ad6 ((ageL wd mo ((at_ es (k:Int)).tm) xs out).2).length cp7) ((ageL wd mo ((at_ es (k:Int)).tm) xs out).2)::blk b3 [I64 ((at_ es (k:Int)).kd),I64 ((at_ es (k:Int)).tm),I64 ((at_ es (k:Int)).u),I64 ((at_ es (k:Int)).v),I64 ((at_ es (k:Int)).w),I64 ((at_ es (k:Int)).lb),I64 ((at_ es (k:Int)).sg)] 108::blk b1 [I64 (kd),I64 (wd),I64 (mo)] 31::I)
      exact Be (Cl ((ad4),(cp5),(ad6),(cp7),((ageL wd mo (at_ es (k:Int)).tm xs out).1),((ageL wd mo (at_ es (k:Int)).tm xs out).2)) (by dsimp only;exact ⟨(by unfold agedL;rw [if_pos c36]),hag.1,hag.2⟩))
     ·exact Az (Cl ((a1),(c1),(o1),(d1),(xs),(out)) (by dsimp only;exact ⟨(by unfold agedL;rw [if_neg c36]),(hI.later hto (fun h=>absurd h c36)),rfl⟩))
    ·rintro ⟨a2,c2,o2,d2,ys,zs⟩ hp
     obtain ⟨hag,hI2,hs2⟩:((agedL kd wd mo (at_ es (k:Int)).tm (xs,out))=(ys,zs))∧(SlI nd kd wd (at_ es (k:Int)).tm ys)∧(ys.length+zs.length=xs.length+out.length):=hp
     show W Tryz.prog κ 64 _ _ ([(5,.pointer (some ⟨b1,0,none⟩)),(10,.pointer (some ⟨b2,0,none⟩)),(12,.pointer (some ⟨b3,0,none⟩)),(28,va),(29,I64 (((es.length:Nat):Int))),(30,I64 ((k:Int)))]:Env) (blk b2 [I64 (nd),.slice a2 ys.length c2,.slice o2 zs.length d2] 241::vc 146 (.slice a2 ys.length c2) (ys)::vc 108 (.slice o2 zs.length d2) (zs)::blk b3 [I64 ((at_ es (k:Int)).kd),I64 ((at_ es (k:Int)).tm),I64 ((at_ es (k:Int)).u),I64 ((at_ es (k:Int)).v),I64 ((at_ es (k:Int)).w),I64 ((at_ es (k:Int)).lb),I64 ((at_ es (k:Int)).sg)] 108::blk b1 [I64 (kd),I64 (wd),I64 (mo)] 31::I)
     refine Ah (Gm rfl (Gl7 ty108 ?_))
     refine Ge1 (B1 (α:=Ev) (cs:=[I64 ((at_ es (k:Int)).kd),I64 ((at_ es (k:Int)).tm),I64 ((at_ es (k:Int)).u),I64 ((at_ es (k:Int)).v),I64 ((at_ es (k:Int)).w),I64 ((at_ es (k:Int)).lb),I64 ((at_ es (k:Int)).sg)]) (xs:=[⟨(at_ es (k:Int)).kd,(at_ es (k:Int)).tm,(at_ es (k:Int)).u,(at_ es (k:Int)).v,(at_ es (k:Int)).w,(at_ es (k:Int)).lb,(at_ es (k:Int)).sg⟩]) Aw ty108 rfl rfl dc dc rfl kr rfl rfl) fun ad8=>?_
     refine G.e (Aj call212 rfl rfl (Cq (J:=blk b2 [I64 (nd),.slice a2 ys.length c2,.slice o2 zs.length d2] 241::vc 146 (.slice a2 ys.length c2) (ys)::vc 108 (.slice o2 zs.length d2) (zs)::vc 108 (.slice ad8 1 1) (([⟨(at_ es (k:Int)).kd,(at_ es (k:Int)).tm,(at_ es (k:Int)).u,(at_ es (k:Int)).v,(at_ es (k:Int)).w,(at_ es (k:Int)).lb,(at_ es (k:Int)).sg⟩]:List Ev))::blk b3 [I64 ((at_ es (k:Int)).kd),I64 ((at_ es (k:Int)).tm),I64 ((at_ es (k:Int)).u),I64 ((at_ es (k:Int)).v),I64 ((at_ es (k:Int)).w),I64 ((at_ es (k:Int)).lb),I64 ((at_ es (k:Int)).sg)] 108::blk b1 [I64 (kd),I64 (wd),I64 (mo)] 31::I) Bz (PutP_base (nd:=nd) (xs:=ys) (out:=zs) (es:=([⟨(at_ es (k:Int)).kd,(at_ es (k:Int)).tm,(at_ es (k:Int)).u,(at_ es (k:Int)).v,(at_ es (k:Int)).w,(at_ es (k:Int)).lb,(at_ es (k:Int)).sg⟩]:List Ev)) Bo hI2.val (fitone hfe) (by have h:=stepL_len ys (at_ es (k:Int));have h9:=gone_len kd wd mo (at_ es (k:Int)).tm (stepL ys (at_ es (k:Int)));first|(simp only [List.length_append,List.length_cons,List.length_nil];omega)|omega) (by have h:=stepL_len ys (at_ es (k:Int));have h9:=gone_len kd wd mo (at_ es (k:Int)).tm (stepL ys (at_ es (k:Int)));first|(simp only [List.length_append,List.length_cons,List.length_nil];omega)|omega)))) ?_
     rintro _ _ ⟨_,_,⟨⟨ad9,cp10,ad11,cp12⟩,rfl,rfl⟩,rfl,rfl⟩
     show G Tryz.prog κ _ _ _ _ ([(45,.tuple #[]),(44,.slice ad8 1 1),(43,.agg #[I64 ((at_ es (k:Int)).kd),I64 ((at_ es (k:Int)).tm),I64 ((at_ es (k:Int)).u),I64 ((at_ es (k:Int)).v),I64 ((at_ es (k:Int)).w),I64 ((at_ es (k:Int)).lb),I64 ((at_ es (k:Int)).sg)]),(42,.pointer (some ⟨b2,0,none⟩)),(5,.pointer (some ⟨b1,0,none⟩)),(10,.pointer (some ⟨b2,0,none⟩)),(12,.pointer (some ⟨b3,0,none⟩)),(28,va),(29,I64 (((es.length:Nat):Int))),(30,I64 ((k:Int)))]:Env) (blk b2 [I64 (nd),.slice ad9 (List.foldl stepL ys ([⟨(at_ es (k:Int)).kd,(at_ es (k:Int)).tm,(at_ es (k:Int)).u,(at_ es (k:Int)).v,(at_ es (k:Int)).w,(at_ es (k:Int)).lb,(at_ es (k:Int)).sg⟩]:List Ev)).length cp10,.slice ad11 (zs++([⟨(at_ es (k:Int)).kd,(at_ es (k:Int)).tm,(at_ es (k:Int)).u,(at_ es (k:Int)).v,(at_ es (k:Int)).w,(at_ es (k:Int)).lb,(at_ es (k:Int)).sg⟩]:List Ev)).length cp12] 241::vc 146 (.slice ad9 (List.foldl stepL ys ([⟨(at_ es (k:Int)).kd,(at_ es (k:Int)).tm,(at_ es (k:Int)).u,(at_ es (k:Int)).v,(at_ es (k:Int)).w,(at_ es (k:Int)).lb,(at_ es (k:Int)).sg⟩]:List Ev)).length cp10) (List.foldl stepL ys ([⟨(at_ es (k:Int)).kd,(at_ es (k:Int)).tm,(at_ es (k:Int)).u,(at_ es (k:Int)).v,(at_ es (k:Int)).w,(at_ es (k:Int)).lb,(at_ es (k:Int)).sg⟩]:List Ev))::vc 108 (.slice ad11 (zs++([⟨(at_ es (k:Int)).kd,(at_ es (k:Int)).tm,(at_ es (k:Int)).u,(at_ es (k:Int)).v,(at_ es (k:Int)).w,(at_ es (k:Int)).lb,(at_ es (k:Int)).sg⟩]:List Ev)).length cp12) (zs++([⟨(at_ es (k:Int)).kd,(at_ es (k:Int)).tm,(at_ es (k:Int)).u,(at_ es (k:Int)).v,(at_ es (k:Int)).w,(at_ es (k:Int)).lb,(at_ es (k:Int)).sg⟩]:List Ev))::vc 108 (.slice ad8 1 1) (([⟨(at_ es (k:Int)).kd,(at_ es (k:Int)).tm,(at_ es (k:Int)).u,(at_ es (k:Int)).v,(at_ es (k:Int)).w,(at_ es (k:Int)).lb,(at_ es (k:Int)).sg⟩]:List Ev))::blk b3 [I64 ((at_ es (k:Int)).kd),I64 ((at_ es (k:Int)).tm),I64 ((at_ es (k:Int)).u),I64 ((at_ es (k:Int)).v),I64 ((at_ es (k:Int)).w),I64 ((at_ es (k:Int)).lb),I64 ((at_ es (k:Int)).sg)] 108::blk b1 [I64 (kd),I64 (wd),I64 (mo)] 31::I)
     show G Tryz.prog κ _ _ _ _ ([(45,.tuple #[]),(44,.slice ad8 1 1),(43,.agg #[I64 ((at_ es (k:Int)).kd),I64 ((at_ es (k:Int)).tm),I64 ((at_ es (k:Int)).u),I64 ((at_ es (k:Int)).v),I64 ((at_ es (k:Int)).w),I64 ((at_ es (k:Int)).lb),I64 ((at_ es (k:Int)).sg)]),(42,.pointer (some ⟨b2,0,none⟩)),(5,.pointer (some ⟨b1,0,none⟩)),(10,.pointer (some ⟨b2,0,none⟩)),(12,.pointer (some ⟨b3,0,none⟩)),(28,va),(29,I64 (((es.length:Nat):Int))),(30,I64 ((k:Int)))]:Env) (blk b2 [I64 (nd),.slice ad9 (stepL ys (at_ es (k:Int))).length cp10,.slice ad11 (zs++[(at_ es (k:Int))]).length cp12] 241::vc 146 (.slice ad9 (stepL ys (at_ es (k:Int))).length cp10) (stepL ys (at_ es (k:Int)))::vc 108 (.slice ad11 (zs++[(at_ es (k:Int))]).length cp12) (zs++[(at_ es (k:Int))])::vc 108 (.slice ad8 1 1) (([⟨(at_ es (k:Int)).kd,(at_ es (k:Int)).tm,(at_ es (k:Int)).u,(at_ es (k:Int)).v,(at_ es (k:Int)).w,(at_ es (k:Int)).lb,(at_ es (k:Int)).sg⟩]:List Ev))::blk b3 [I64 ((at_ es (k:Int)).kd),I64 ((at_ es (k:Int)).tm),I64 ((at_ es (k:Int)).u),I64 ((at_ es (k:Int)).v),I64 ((at_ es (k:Int)).w),I64 ((at_ es (k:Int)).lb),I64 ((at_ es (k:Int)).sg)] 108::blk b1 [I64 (kd),I64 (wd),I64 (mo)] 31::I)
     refine Af (Ah (Gf fld31_0 rfl (Gl ty3 ?_)))
     refine Gr (Bi rfl rfl) ?_
     have hI3:SlI nd kd wd (at_ es (k:Int)).tm (stepL ys (at_ es (k:Int))):=hI2.step hfe rfl (checkW_one (Classical.not_not.1 c16))
     refine Af (A6 rfl (fun c48=>?_) (fun c48=>?_))
     ·refine Bk mixed (Bq (blk b3 [I64 ((at_ es (k:Int)).kd),I64 ((at_ es (k:Int)).tm),I64 ((at_ es (k:Int)).u),I64 ((at_ es (k:Int)).v),I64 ((at_ es (k:Int)).w),I64 ((at_ es (k:Int)).lb),I64 ((at_ es (k:Int)).sg)] 108::blk b1 [I64 (kd),I64 (wd),I64 (mo)] 31::I) 10 (Dr 0 rfl (Ac rfl) (Dr 1 rfl (Ac rfl) (Dr 2 rfl (Bg rfl) (Dr 3 rfl (Aa fld241_0 rfl) (Dr 5 rfl (Bm (vs:=[_,_,_]) ty31) ?_))))))
      refine Dr 6 rfl (Aa fld108_1 rfl) (Dr 7 rfl (As ty3) ?_)
      refine Ds1 4 (Sr rfl (Bm (vs:=[_,_]) ty111) A4 ?_)
      refine Ds1 8 (Sc2 rfl (Aj call213 rfl rfl (GoneP_ok (nd:=nd) Bo (by have h:=stepL_len ys (at_ es (k:Int));show (stepL ys (at_ es (k:Int))).length≤1000000;omega) (hI3.ask (Classical.not_not.1 c16) hfe.tm (Int.le_refl _)))) fun ad13 cp14=>?_)
      refine Ds1 9 (Se rfl (Aj call212 rfl rfl (Cq (J:=blk b2 [I64 (nd),.slice ad9 (stepL ys (at_ es (k:Int))).length cp10,.slice ad11 (zs++[(at_ es (k:Int))]).length cp12] 241::vc 146 (.slice ad9 (stepL ys (at_ es (k:Int))).length cp10) (stepL ys (at_ es (k:Int)))::vc 108 (.slice ad11 (zs++[(at_ es (k:Int))]).length cp12) (zs++[(at_ es (k:Int))])::vc 108 (.slice ad13 (goneL kd wd mo ((at_ es (k:Int)).tm) (stepL ys (at_ es (k:Int)))).length cp14) (goneL kd wd mo ((at_ es (k:Int)).tm) (stepL ys (at_ es (k:Int))))::vc 108 (.slice ad8 1 1) (([⟨(at_ es (k:Int)).kd,(at_ es (k:Int)).tm,(at_ es (k:Int)).u,(at_ es (k:Int)).v,(at_ es (k:Int)).w,(at_ es (k:Int)).lb,(at_ es (k:Int)).sg⟩]:List Ev))::blk b3 [I64 ((at_ es (k:Int)).kd),I64 ((at_ es (k:Int)).tm),I64 ((at_ es (k:Int)).u),I64 ((at_ es (k:Int)).v),I64 ((at_ es (k:Int)).w),I64 ((at_ es (k:Int)).lb),I64 ((at_ es (k:Int)).sg)] 108::blk b1 [I64 (kd),I64 (wd),I64 (mo)] 31::I) Bz (PutP_base (nd:=nd) (xs:=stepL ys (at_ es (k:Int))) (out:=zs++[(at_ es (k:Int))]) (es:=goneL kd wd mo ((at_ es (k:Int)).tm) (stepL ys (at_ es (k:Int)))) Bo hI3.val (fitgone hI3.val hfe.tm) (by have h:=stepL_len ys (at_ es (k:Int));have h9:=gone_len kd wd mo (at_ es (k:Int)).tm (stepL ys (at_ es (k:Int)));first|(simp only [List.length_append,List.length_cons,List.length_nil];omega)|omega) (by have h:=stepL_len ys (at_ es (k:Int));have h9:=gone_len kd wd mo (at_ es (k:Int)).tm (stepL ys (at_ es (k:Int)));first|(simp only [List.length_append,List.length_cons,List.length_nil];omega)|omega)))) ?_)
      rintro _ _ ⟨_,_,⟨⟨ad15,cp16,ad17,cp18⟩,rfl,rfl⟩,rfl,rfl⟩
      refine ⟨A4,?_⟩
      show D Tryz.prog κ _ _ _ _ _ _ _ ([(58,.tuple #[]),(57,.slice ad13 (goneL kd wd mo ((at_ es (k:Int)).tm) (stepL ys (at_ es (k:Int)))).length cp14),(53,.agg #[I64 (nd),.slice ad9 (stepL ys (at_ es (k:Int))).length cp10]),(56,I64 ((at_ es (k:Int)).tm)),(55,.pointer (some ⟨b3,1,none⟩)),(54,.agg #[I64 (kd),I64 (wd),I64 (mo)]),(52,.pointer (some ⟨b2,0,none⟩)),(51,.pointer (some ⟨b2,0,none⟩)),(50,.pointer (some ⟨b2,0,none⟩)),(49,.pointer (some ⟨b2,0,none⟩)),(48,.bool (decide (kd=3))),(47,I64 (kd)),(46,.pointer (some ⟨b1,0,none⟩)),(45,.tuple #[]),(44,.slice ad8 1 1),(43,.agg #[I64 ((at_ es (k:Int)).kd),I64 ((at_ es (k:Int)).tm),I64 ((at_ es (k:Int)).u),I64 ((at_ es (k:Int)).v),I64 ((at_ es (k:Int)).w),I64 ((at_ es (k:Int)).lb),I64 ((at_ es (k:Int)).sg)]),(42,.pointer (some ⟨b2,0,none⟩)),(5,.pointer (some ⟨b1,0,none⟩)),(10,.pointer (some ⟨b2,0,none⟩)),(12,.pointer (some ⟨b3,0,none⟩)),(28,va),(29,I64 (((es.length:Nat):Int))),(30,I64 ((k:Int)))]:Env) (blk b2 [I64 (nd),.slice ad15 (List.foldl stepL (stepL ys (at_ es (k:Int))) (goneL kd wd mo ((at_ es (k:Int)).tm) (stepL ys (at_ es (k:Int))))).length cp16,.slice ad17 ((zs++[(at_ es (k:Int))])++(goneL kd wd mo ((at_ es (k:Int)).tm) (stepL ys (at_ es (k:Int))))).length cp18] 241::vc 146 (.slice ad15 (List.foldl stepL (stepL ys (at_ es (k:Int))) (goneL kd wd mo ((at_ es (k:Int)).tm) (stepL ys (at_ es (k:Int))))).length cp16) (List.foldl stepL (stepL ys (at_ es (k:Int))) (goneL kd wd mo ((at_ es (k:Int)).tm) (stepL ys (at_ es (k:Int)))))::vc 108 (.slice ad17 ((zs++[(at_ es (k:Int))])++(goneL kd wd mo ((at_ es (k:Int)).tm) (stepL ys (at_ es (k:Int))))).length cp18) ((zs++[(at_ es (k:Int))])++(goneL kd wd mo ((at_ es (k:Int)).tm) (stepL ys (at_ es (k:Int)))))::vc 108 (.slice ad13 (goneL kd wd mo ((at_ es (k:Int)).tm) (stepL ys (at_ es (k:Int)))).length cp14) (goneL kd wd mo ((at_ es (k:Int)).tm) (stepL ys (at_ es (k:Int))))::vc 108 (.slice ad8 1 1) (([⟨(at_ es (k:Int)).kd,(at_ es (k:Int)).tm,(at_ es (k:Int)).u,(at_ es (k:Int)).v,(at_ es (k:Int)).w,(at_ es (k:Int)).lb,(at_ es (k:Int)).sg⟩]:List Ev))::blk b3 [I64 ((at_ es (k:Int)).kd),I64 ((at_ es (k:Int)).tm),I64 ((at_ es (k:Int)).u),I64 ((at_ es (k:Int)).v),I64 ((at_ es (k:Int)).w),I64 ((at_ es (k:Int)).lb),I64 ((at_ es (k:Int)).sg)] 108::blk b1 [I64 (kd),I64 (wd),I64 (mo)] 31::I)
      refine Dz (Al (Ai (Ar (S5 5 10 28 29 30 rfl rfl rfl rfl rfl) (A2 (Gr (Rad rfl rfl) (Gm rfl (Be ?_)))))))
      have hgs:=gone_steps (kd:=kd) (wd:=wd) (mo:=mo) (nw:=(at_ es (k:Int)).tm) hI3.val
      have hgl:=gone_len kd wd mo (at_ es (k:Int)).tm (stepL ys (at_ es (k:Int)))
      have hsl:=stepL_len ys (at_ es (k:Int))
      exact B0 ((k+1),(ad15),(cp16),(ad17),(cp18),(List.filter (inW kd wd mo (at_ es (k:Int)).tm (stepL ys (at_ es (k:Int)))) (stepL ys (at_ es (k:Int)))),(zs++[(at_ es (k:Int))]++goneL kd wd mo (at_ es (k:Int)).tm (stepL ys (at_ es (k:Int))))) (by dsimp only;exact ⟨om,(by rw [slideS_succ om,hst];exact evStep_three hag c48),(by rw [lastT_succ];exact hI3.filter _),lap⟩) (hI:=by (try dsimp only);exact (by rw [←hgs];exact A4))
     ·refine Az (Al (Ai (A2 (Gr (Rad rfl rfl) (Gm rfl (Be ?_))))))
      have hsl:=stepL_len ys (at_ es (k:Int))
      exact B0 ((k+1),(ad9),(cp10),(ad11),(cp12),((stepL ys (at_ es (k:Int)))),(zs++[(at_ es (k:Int))])) (by dsimp only;exact ⟨om,(by rw [slideS_succ om,hst];exact evStep_not hag c48),(by rw [lastT_succ];exact hI3),lap⟩)
   ·refine Bt (Aq (Aq (A9 (Ai (Ah (Gm rfl (Gr (Bg rfl) (Gf fld241_1 rfl (Gl ty28 ?_)))))))))
    refine Ga rfl (Ga rfl (Af (Ay ?_)))
    have hE2:(slideS kd wd mo es)=(xs,out):=by rw [←hst,show List.take k es=es from List.take_of_length_le om]
    have hz:(slideE nd kd wd mo es)=0:=(slideE_st c16).trans (Classical.not_not.1 c22)
    exact Ct rfl rfl rfl (vc 108 (.slice o1 (slideS kd wd mo es).2.length d1) (slideS kd wd mo es).2::I) (by rw [hE2];exact A4) (.inr ⟨o1,d1,hz,by rw [hE2],rfl⟩)
end Go.Sl
namespace Go.Proofs
end Go.Proofs
namespace Go.Sl
open Go.Proofs Go.Shelf Go.RowKit Go.Lib Go.Sort
end Go.Sl
namespace Go.Sl
end Go.Sl
namespace Go.Sl
open Go.Proofs
set_option maxRecDepth 4000
theorem Few_ok{κ:Ctx}{I:List Item}{la:Option Addr}{ln lc:Nat} :
    CallS Tryz.prog κ 16 [.slice la ln lc] I (fun r J=>r = .bool (decide ((ln:Int)≤500))∧I=J):=by
 refine Ce1 Tryz.func16 rfl rfl ?_
 exact Ah (Ga rfl (Af (Ah (Gm rfl (Gr (B3 Am rfl) (Gr (D3 rfl rfl) (Ga rfl (Af (Ay (A0 rfl rfl (I) A1 ⟨rfl,rfl⟩))))))))))
theorem eqt135:EqT Tryz.prog 135 Pt:=EqT.flat (fun p:Pt=>[p.u,p.v]) (fun _=>rfl) (fun x y h=>by cases x;cases y;simpa using h) (n:=2) (fun _=>rfl) kr kr kr kr kr
theorem CheckGen_ok{κ:Ctx}{I:List Item}{nd:Int}{v:Value}{es:List Pt}(hl:Sl κ I v es) :
    CallS Tryz.prog κ 83 [.agg #[I64 (nd),v]] I (fun r J=>r=I64 (checkG nd es)∧I=J):=by
 refine B4 hl.le fun hmax=>?_
 refine Ce1 Tryz.func83 rfl rfl ?_
 refine Ah (Ge1 (Bb (cs:=[_,_]) rfl rfl rfl) fun b1=>Ga rfl (Af (Av (Ah (Gf fld48_0 rfl (Gl ty3 ?_))))))
 refine Gr (A8 rfl rfl) (Gm rfl (A7 (d:=8) rfl (fun g8=>?_) (fun g8=>?_)))
 ·exact Gpo (Gpo (Gpo (Gr (Ao rfl rfl) (Af (B6 rfl (Ah (Ga rfl (Af (Ay (Ad (A0 rfl rfl (I) A1 ⟨by rw [show checkG nd es=1 from (by unfold checkG;rw [if_pos om])],rfl⟩)))))))))))
 ·refine Gro (Aa fld48_0 rfl) (Gro (As ty3) ?_)
  refine Gro (Br rfl rfl) (Gr (Ak rfl rfl) (Af (A6 rfl (fun c12=>?_) (fun c12=>?_))))
  ·exact Ah (Ga rfl (Af (Ay (Ad (A0 rfl rfl (I) A1 ⟨by rw [show checkG nd es=1 from (by unfold checkG;rw [if_pos om])],rfl⟩)))))
  ·refine Az (Ai (Av (Ah (Gf fld48_1 rfl (Gl ty46 ?_)))))
   refine Gr (Bu (α:=Pt) (xs:=es) Bx rfl (Bl hl)) (Gm rfl (Af (Ar (S4 16 15 14 1 rfl rfl rfl rfl) (A5 (Bv (σ:=Nat) (fun s=>([(1,.pointer (some ⟨b1,0,none⟩)),(14,v),(15,I64 (((es.length:Nat):Int))),(16,I64 (((s:Nat):Int)))]:Env)) (fun s=>blk b1 [I64 (nd),v] 48::I) (fun s=>(s≤es.length)∧(checkG nd es=scanL (badE nd) Pt.lt (prevAt es s) (es.drop s))) (fun s=>es.length - s) (0) (show ((0:Nat)≤es.length)∧(checkG nd es=scanL (badE nd) Pt.lt (prevAt es (0:Nat)) (es.drop (0:Nat))) from ⟨om,(by unfold checkG;rw [if_neg om];rfl)⟩) (Ab rfl (Ab rfl (Ab rfl (Ab Ca Bp)))) (show Fit κ _ (blk b1 [I64 (nd),v] 48::I) from A4) ?_)))))
   rintro k hp
   obtain ⟨hk,hs⟩:=hp
   refine Ah (Gr (A8 rfl rfl) (Af (Av (A6 rfl (fun c17=>?_) (fun c17=>?_)))))
   ·refine Az (Ai (Av (A5 (Ah (Gm rfl (Gr (Ba (α:=Pt) (xs:=es) Bx ty135 rfl rfl (Bl hl) om om) (Gr (Bs (α:=Pt) (xs:=es) ty135 rfl (Bl hl) om om) (Ge1 (Ax ty135 rfl) fun b2=>Ga rfl (Ge0 (Bj ty135) ?_)))))))))
    refine Af (A5 (Ah (Gf fld135_0 rfl (Gl ty3 ?_))))
    refine Gr (A8 rfl rfl) (Gm rfl (A7 (d:=25) rfl (fun g25=>?_) (fun g25=>?_)))
    ·exact Gpo (Gpo (Gpo (Gpo (Gpo (Gr (Ao rfl rfl) (Gm rfl (Gpo (Gpo (Gpo (Gpo (Gpo (Gr (Ao rfl rfl) (Ga rfl (Af (Ar (S7 21 3 4 1 14 15 16 rfl rfl rfl rfl rfl rfl rfl) (B6 rfl (Ah (Ga rfl (Af (Ay (Au (Au (Ad (Ad (Au (Ad (A0 rfl rfl (I) A1 ⟨by rw [show checkG nd es=6 from (hs.trans ((Cn om (by unfold badE;rw [if_pos om];decide)).trans (by unfold badE;rw [if_pos om])))],rfl⟩)))))))))))))))))))))))))))
    ·refine Gro (Aa fld135_0 rfl) (Gro (As ty3) ?_)
     refine Gro (Aa fld135_1 rfl) (Gro (As ty3) ?_)
     refine Gro (B5 rfl rfl) (Gr (Ak rfl rfl) (Gm rfl (A7 (d:=32) rfl (fun g32=>?_) (fun g32=>?_))))
     ·exact Gpo (Gpo (Gpo (Gpo (Gpo (Gr (Ao rfl rfl) (Ga rfl (Af (Ar (S7 21 3 4 1 14 15 16 rfl rfl rfl rfl rfl rfl rfl) (B6 rfl (Ah (Ga rfl (Af (Ay (Au (Au (Ad (Ad (Au (Ad (A0 rfl rfl (I) A1 ⟨by rw [show checkG nd es=6 from (hs.trans ((Cn om (by unfold badE;rw [if_pos om];decide)).trans (by unfold badE;rw [if_pos om])))],rfl⟩))))))))))))))))))))
     ·refine Gro (Aa fld135_1 rfl) (Gro (As ty3) ?_)
      refine Gro (Aa fld48_0 rfl) (Gro (As ty3) ?_)
      refine Gro (B5 rfl rfl) (Gr (Ak rfl rfl) (Ga rfl (Af (Ar (S7 21 3 4 1 14 15 16 rfl rfl rfl rfl rfl rfl rfl) (A6 rfl (fun c21=>?_) (fun c21=>?_))))))
      ·exact Ah (Ga rfl (Af (Ay (Au (Au (Ad (Ad (Au (Ad (A0 rfl rfl (I) A1 ⟨by rw [show checkG nd es=6 from (hs.trans ((Cn om (by unfold badE;rw [if_pos om];decide)).trans (by unfold badE;rw [if_pos om])))],rfl⟩))))))))))
      ·refine Av (Bk mixed (Bq (blk b2 [I64 ((at_ es (k:Int)).u),I64 ((at_ es (k:Int)).v)] 135::blk b1 [I64 (nd),v] 48::I) 14 (Dr 0 rfl (Ac rfl) (Dr 1 rfl (Br rfl rfl) (Dr 2 rfl (Ac rfl) (Dt (d:=42) rfl (fun g42=>?_) (fun g42=>?_)))))))
       ·refine Dro 3 rfl (Aa fld48_1 rfl) (Dro 4 rfl (As ty46) ?_)
        refine Dro 5 rfl (Ac rfl) (Dro 6 rfl (Rsu rfl rfl) (Dro 7 rfl (Ba (α:=Pt) (xs:=es) Bx ty135 rfl rfl (Bl hl) om om) (Dro 8 rfl (Bs (α:=Pt) (xs:=es) ty135 rfl (Bl hl) om om) (Dro 9 rfl (Bm (vs:=[_,_]) ty135) ?_))))
        refine Ds1 10 (Se rfl (Aj call154 rfl rfl (Order_ok (at_ es ((k:Int) - 1)) (at_ es (k:Int)))) ?_)
        rintro _ _ ⟨_,_,⟨rfl,rfl⟩,rfl,rfl⟩
        refine ⟨A1,?_⟩
        refine Dro 11 rfl (B5 rfl rfl) (Dr 12 rfl (Ao rfl rfl) (Dr 13 rfl (Bd rfl) (Dz (Ai (Ar (S5 39 1 14 15 16 rfl rfl rfl rfl rfl) (A6 rfl (fun c39=>?_) (fun c39=>?_)))))))
        ·exact Ah (Ga rfl (Af (Ay (Au (Au (Ad (Ad (Au (Ad (A0 rfl rfl (I) A1 ⟨by rw [show checkG nd es=5 from (hs.trans (scanL_order om (badE_zero.2 om) om (fun h=>by have:=(Pt.cmp_lt _ _).2 h;omega)))],rfl⟩))))))))))
        ·exact Az (Al (Al (Ai (A2 (Gr (Rad rfl rfl) (Gm rfl (Be (B0 ((k+1)) ⟨om,(hs.trans (D6 om (badE_zero.2 om) (fun h0=>by first|omega|exact (Pt.cmp_lt _ _).1 om)))⟩))))))))
       ·exact Dpo 3 rfl (Dpo 4 rfl (Dpo 5 rfl (Dpo 6 rfl (Dpo 7 rfl (Dpo 8 rfl (Dpo 9 rfl (Dpo 10 rfl (Dpo 11 rfl (Dr 12 rfl (Ak rfl rfl) (Dr 13 rfl (Bd rfl) (Dz (Ai (Ar (S5 39 1 14 15 16 rfl rfl rfl rfl rfl) (Cw rfl (Az (Al (Al (Ai (A2 (Gr (Rad rfl rfl) (Gm rfl (Be (B0 ((k+1)) ⟨om,(hs.trans (D6 om (badE_zero.2 om) (fun h0=>by first|omega|exact (Pt.cmp_lt _ _).1 om)))⟩)))))))))))))))))))))))
   ·exact Bt (Aq (Aq (A9 (Ai (Ah (Ga rfl (Af (Ay (A0 rfl rfl (I) A1 ⟨by rw [show checkG nd es=0 from (hs.trans (scanL_end om))],rfl⟩)))))))))
variable {κ:Ctx}{I:List Item}
def bitB(v:Int):BitVec 64:=if v<0∨64≤v then 0#64 else 1#64 <<< v.toNat
def allB(n:Int):BitVec 64:=if n≤0 then 0#64 else if 64≤n then 18446744073709551615#64 else (1#64 <<< n.toNat) - 1#64
theorem Bit_ok(v:Int) :
    CallS Tryz.prog κ 237 [I64 (v)] I (fun r J=>r=U64 (bitB v)∧I=J):=by
 refine Ce1 Tryz.func237 rfl rfl ?_
 refine Ah (Ga rfl (Af (Av (Ah (Gm rfl (Gr (A8 rfl rfl) (Gm rfl (A7 (d:=5) rfl (fun g5=>?_) (fun g5=>?_)))))))))
 ·exact Gpo (Gpo (Gr (Ao rfl rfl) (Af (B6 rfl (Ah (Ga rfl (Af (Ay (Ad (A0 rfl rfl (I) A1 ⟨by unfold bitB;rw [if_pos om];rfl,rfl⟩))))))))))
 ·refine Gro (Ac rfl) (Gro (B5 rfl rfl) (Gr (Ak rfl rfl) (Af (A6 rfl (fun c8=>?_) (fun c8=>?_)))))
  ·exact Ah (Ga rfl (Af (Ay (Ad (A0 rfl rfl (I) A1 ⟨by unfold bitB;rw [if_pos om];rfl,rfl⟩)))))
  ·exact Az (Ai (Ah (Gm rfl (Gr (Runs.shlB (a:=1#64) rfl rfl om om) (Ga rfl (Af (Ay (A0 rfl rfl (I) A1 ⟨by unfold bitB;rw [if_neg om],rfl⟩))))))))
theorem MaskAll_ok(n:Int) :
    CallS Tryz.prog κ 200 [I64 (n)] I (fun r J=>r=U64 (allB n)∧I=J):=by
 refine Ce1 Tryz.func200 rfl rfl ?_
 refine Ah (Ga rfl (Af (Av (A5 (Ah (Gm rfl (Gr (D3 rfl rfl) (Ga rfl (Af (A6 rfl (fun c3=>?_) (fun c3=>?_)))))))))))
 ·exact Ah (Ga rfl (Af (Ay (Au (Ad (A0 rfl rfl (I) A1 ⟨by unfold allB;rw [if_pos om];rfl,rfl⟩))))))
 ·refine Ah (Gm rfl (Gr (B5 rfl rfl) (Ga rfl (Af (A6 rfl (fun c6=>?_) (fun c6=>?_))))))
  ·exact Ah (Ga rfl (Af (Ay (Au (Ad (A0 rfl rfl (I) A1 ⟨by unfold allB;rw [if_neg om,if_pos om];rfl,rfl⟩))))))
  ·exact Az (Al (Ai (Ah (Gm rfl (Gr (Runs.shlB (a:=1#64) rfl rfl om om) (Gr (Runs.subB (a:=(1#64) <<< (n).toNat) (b:=1#64) rfl rfl) (Ga rfl (Af (Ay (A0 rfl rfl (I) A1 ⟨by unfold allB;rw [if_neg om,if_neg om],rfl⟩))))))))))
variable {κ:Ctx}{I:List Item}
structure Fr where
 num:Int
 den:Int
deriving DecidableEq
instance:Inhabited Fr:=⟨⟨0,0⟩⟩
instance:Enc Fr:=⟨fun r=>[I64 r.num,I64 r.den],2,by omega,fun _=>rfl,fun r u hu=>by
 simp only [List.mem_cons,List.not_mem_nil,or_false] at hu
 rcases hu with rfl|rfl<;>rfl⟩
theorem eqt40:EqT Tryz.prog 40 Fr:=EqT.flat (fun p:Fr=>[p.num,p.den]) (fun _=>rfl) (fun x y h=>by cases x;cases y;simpa using h) (n:=2) (fun _=>rfl) kr kr kr kr kr
def gcdI(a b:Int):Int:=((a.toNat.gcd b.toNat:Nat):Int)
theorem gcdI_step{a b:Int}(h0:0≤a)(h1:0<b):gcdI b (Int.tmod a b)=gcdI a b:=by
 unfold gcdI
 rw [Int.tmod_eq_emod_of_nonneg h0,show (a % b).toNat=a.toNat % b.toNat by rw [Int.toNat_emod h0 om]]
 congr 1
 rw [Nat.gcd_comm a.toNat b.toNat,Nat.gcd_rec b.toNat a.toNat,Nat.gcd_comm]
theorem gcdI_zero{a:Int}(h0:0≤a):gcdI a 0=a:=by unfold gcdI;simp;omega
theorem gcdI_pos{a b:Int}(h1:0<b):0<gcdI a b:=by
 unfold gcdI
 have:0<a.toNat.gcd b.toNat:=Nat.gcd_pos_of_pos_right _ om
 omega
theorem gcdI_le{a b:Int}(h1:0<b):gcdI a b≤b:=by
 unfold gcdI
 have:a.toNat.gcd b.toNat≤b.toNat:=Nat.le_of_dvd om (Nat.gcd_dvd_right _ _)
 omega
def mkF(a b:Int):Fr:=⟨a / gcdI a b,b / gcdI a b⟩
theorem mkF_num{a b:Int}(h0:0≤a)(h1:0<b):0≤(mkF a b).num∧(mkF a b).num≤a:=⟨Int.ediv_nonneg h0 (by have:=gcdI_pos (a:=a) h1;omega),Int.ediv_le_self _ h0⟩
theorem mkF_den{a b:Int}(h1:0<b):1≤(mkF a b).den∧(mkF a b).den≤b:=by
 have hg:=gcdI_pos (a:=a) h1
 have hl:=gcdI_le (a:=a) h1
 exact ⟨(Int.le_ediv_iff_mul_le hg).2 om,Int.ediv_le_self _ om⟩
theorem RWithin_ok(n m:Int)(h:0≤m∧m≤9223372036854775807) :
    CallS Tryz.prog κ 157 [I64 (n),I64 (m)] I (fun r J=>r = .bool (decide (-m≤n∧n≤m))∧I=J):=by
 refine Ce2 Tryz.func157 rfl rfl ?_
 refine Ah (Ga rfl (Af (Ah (Gm rfl (Gm rfl (Gr (Runs.neg rfl (by unfold InR;omega)) (Gr (B5 rfl rfl) (Gm rfl (A7 (d:=9) rfl (fun g9=>?_) (fun g9=>?_))))))))))
 ·exact Gro (Ac rfl) (Gro (Ac rfl) (Gro (D3 rfl rfl) (Gr (Ao rfl rfl) (Ga rfl (Af (Ar (S1 4 rfl) (Ay (A0 rfl rfl (I) A1 ⟨(by first|exact congrArg Value.bool (decide_eq_decide.2 (by skip;omega))|exact congrArg Value.bool (decide_eq_true (by skip;omega)).symm|exact congrArg Value.bool (decide_eq_false (by skip;omega)).symm),rfl⟩))))))))
 ·exact Gpo (Gpo (Gpo (Gr (Ak rfl rfl) (Ga rfl (Af (Ar (S1 4 rfl) (Ay (A0 rfl rfl (I) A1 ⟨(by first|exact congrArg Value.bool (decide_eq_decide.2 (by skip;omega))|exact congrArg Value.bool (decide_eq_true (by skip;omega)).symm|exact congrArg Value.bool (decide_eq_false (by skip;omega)).symm),rfl⟩))))))))
theorem Common_ok(a b:Int)(h0:0≤a)(h1:0≤b) :
    CallS Tryz.prog κ 158 [I64 (a),I64 (b)] I (fun r J=>r=I64 (gcdI a b)∧I=J):=by
 refine Ce2 Tryz.func158 rfl rfl ?_
 refine Ah (Ga rfl (Af (Av (A5 (Bv (σ:=Int×Int) (fun s=>([(0,I64 (s.1)),(1,I64 (s.2))]:Env)) (fun s=>I) (fun s=>(0≤s.1)∧(0≤s.2)∧(gcdI s.1 s.2=gcdI a b)) (fun s=>s.2.toNat) (a,b) (show (0≤(a:Int))∧(0≤(b:Int))∧(gcdI (a:Int) (b:Int)=gcdI a b) from ⟨om,om,rfl⟩) (Ab Ca (Ab Ca Bp)) (show Fit κ _ (I) from A4) ?_)))))
 rintro ⟨x,y⟩ hp
 dsimp only at hp ⊢
 obtain ⟨hx,hy,hg⟩:=hp
 refine Av (Ah (Gm rfl (Gr (Bh rfl rfl) (Af (A6 rfl (fun c6=>?_) (fun c6=>?_))))))
 ·refine Az (Ai (A5 (Bk mixed (Bq (I) 6 (Dr 0 rfl (Ac rfl) (Dr 1 rfl (Ac rfl) (Dr 2 rfl (Ac rfl) (Dr 3 rfl (Runs.rem rfl rfl om) (Dr 4 rfl (Bd rfl) (Dr 5 rfl (Bd rfl) (Dz (Al ?_))))))))))))
  have hm0:=Int.tmod_nonneg y (a:=x) hx
  have hm1:=Int.tmod_lt_of_pos x (b:=y) om
  exact B0 ((y),(Int.tmod x y)) (by dsimp only;exact ⟨om,om,((gcdI_step hx om).trans hg)⟩)
 ·refine Bt (Aq (Aq (A9 (Ai (Ah (Gm rfl (Ga rfl (Af (Ay ?_)))))))))
  have hy0:y=0:=by omega
  subst hy0
  exact A0 rfl rfl (I) A1 ⟨by rw [←hg,gcdI_zero hx],rfl⟩
theorem Checked_ok(x:Fr)(h:0≤x.num∧x.num≤1152921504606846976∧x.den≤1152921504606846976) :
    CallS Tryz.prog κ 309 [.agg #[I64 (x.num),I64 (x.den)]] I (fun r J=>r = .tuple #[.agg #[I64 x.num,I64 x.den],I64 0]∧I=J):=by
 refine Ce1 Tryz.func309 rfl rfl ?_
 refine Ah (Ge1 (Bb (cs:=[_,_]) rfl rfl rfl) fun b1=>Ge1 (Ax ty40 rfl) fun b2=>Ga rfl (Af (Av (Ah (Gf fld40_0 rfl (Gl ty3 ?_))))))
 refine G.e (Aj call157 rfl rfl (RWithin_ok x.num 1152921504606846976 om)) ?_
 rintro _ _ ⟨_,_,⟨rfl,rfl⟩,rfl,rfl⟩
 refine Gr (Cd rfl) (Gm rfl (A7 (d:=8) rfl (fun g8=>?_) (fun g8=>?_)))
 ·exact absurd h om
 ·refine Gro (Aa fld40_1 rfl) (Gro (As ty3) ?_)
  refine Gro (Br rfl rfl) (Gr (Ak rfl rfl) (Af (Ar (S3 12 2 1 rfl rfl rfl) (A6 rfl (fun c12=>?_) (fun c12=>?_)))))
  ·exact absurd h om
  ·refine Az (Ai (Ah (Gl2 ty40 ?_)))
   refine Ge0 (Bj ty40) ?_
   exact Ga rfl (Af (Ay (Dg rfl ty40 rfl rfl mm rfl (I) A1 ⟨rfl,rfl⟩)))
theorem Lowest_ok(a b:Int)(h0:0≤a∧a≤1152921504606846976)(h1:0<b∧b≤1152921504606846976) :
    CallS Tryz.prog κ 272 [I64 (a),I64 (b)] I (fun r J=>r = .tuple #[.agg #[I64 (mkF a b).num,I64 (mkF a b).den],I64 0]∧I=J):=by
 refine Ce2 Tryz.func272 rfl rfl ?_
 refine Ah (Ge1 (Ax ty40 rfl) fun b1=>Ga rfl (Af (Av (Ah (Gm rfl (Gr (A8 rfl rfl) (Af (A6 rfl (fun c8=>?_) (fun c8=>?_)))))))))
 ·exact absurd c8 om
 ·refine Az (Ai (Ah (Gm rfl (Gm rfl (Gr (Runs.neg rfl (by unfold InR;omega)) (Gr (Runs.max rfl rfl) (Gm rfl (Gc0 (Aj call158 rfl rfl (Common_ok (if a<(-(a)) then (-(a)) else a) b (by split<;>omega) om)) ?_))))))))
  refine Ga rfl ?_
  have hmx:(if a < -a then -a else a)=a:=by rw [if_neg om]
  rw [hmx]
  refine Af (Ar (S4 6 4 0 1 rfl rfl rfl rfl) (Av (Bk mixed (Bq (blk b1 [I64 (0),I64 (0)] 40::I) 10 (Dr 0 rfl (Ac rfl) ?_)))))
  have hgp:=gcdI_pos (a:=a) h1.1
  refine Dr 1 rfl (Ac rfl) (Dr 2 rfl (Runs.quo rfl rfl om om (by unfold InR;omega)) (Dr 3 rfl (Ac rfl) (Dr 4 rfl (Ac rfl) (Dr 5 rfl (Runs.quo rfl rfl om om (by unfold InR;omega)) (Dr 6 rfl (Bc (cells:=[_,_]) ty40 B9 pl40 rfl rfl) (Ds1 7 (Sc0 rfl (Aj call309 rfl rfl (Checked_ok (⟨a / (gcdI a b),b / (gcdI a b)⟩:Fr) (by have hn:=mkF_num h0.1 h1.1;have hd:=mkF_den (a:=a) h1.1;exact ⟨hn.1,by have:=hn.2;show (mkF a b).num≤_;omega,by have:=hd.2;show (mkF a b).den≤_;omega⟩))) ?_)))))))
  refine Dr 8 rfl (A3 rfl rfl) (Dr 9 rfl (A3 rfl rfl) (Dh kr ?_))
  refine Ae 10 rfl (Bj ty40) ?_
  rintro _ _ ⟨rfl,rfl⟩
  refine A.read (i:=11) kr rfl (Ce rfl) rfl rfl (Bd rfl) ?_
  refine Di kr ?_
  exact Ai (Ar (S2 5 4 rfl rfl) (Ay (Dg rfl ty40 rfl rfl mm rfl (I) A1 ⟨rfl,rfl⟩)))
theorem MakeF_ok(a b:Int)(h0:0≤a∧a≤1152921504606846976)(h1:0<b∧b≤1152921504606846976) :
    CallS Tryz.prog κ 220 [I64 (a),I64 (b)] I (fun r J=>r = .tuple #[.agg #[I64 (mkF a b).num,I64 (mkF a b).den],I64 0]∧I=J):=by
 refine Ce2 Tryz.func220 rfl rfl ?_
 refine Ah (Ge1 (Ax ty40 rfl) fun b1=>Ga rfl (Af (Av (A5 (Ah (Gm rfl (Gr (Bi rfl rfl) (Ga rfl (Af (A6 rfl (fun c6=>?_) (fun c6=>?_)))))))))))
 ·exact absurd c6 om
 ·refine Ah (Gm rfl (G.e (Aj call157 rfl rfl (RWithin_ok a 4611686018427387904 om)) ?_))
  rintro _ _ ⟨_,_,⟨rfl,rfl⟩,rfl,rfl⟩
  refine Gm rfl (A7 (d:=13) rfl (fun g13=>?_) (fun g13=>?_))
  ·refine Gro (Ac rfl) (Et (Cu rfl rfl rfl) (Aj call157 rfl rfl (RWithin_ok b 4611686018427387904 om)) ?_)
   rintro _ _ ⟨_,_,⟨rfl,rfl⟩,rfl,rfl⟩
   refine Gr (Ao rfl rfl) (Ga rfl (Af (Ar (S4 10 4 0 1 rfl rfl rfl rfl) (A6 rfl (fun c10=>?_) (fun c10=>?_)))))
   ·refine Ah (Gm rfl (Gm rfl (Gc0 (Aj call272 rfl rfl (Lowest_ok a b om om)) ?_)))
    refine Gr (A3 rfl rfl) (Gr (A3 rfl rfl) (Ge0 (Bj ty40) ?_))
    exact Ga rfl (Af (Ay (Au (Ad (Dg rfl ty40 rfl rfl mm rfl (I) A1 ⟨rfl,rfl⟩)))))
   ·exact absurd om c10
  ·exact absurd om g13
theorem Check03G_ok{κ:Ctx}{I:List Item}{nd:Int}{v:Value}{es:List Pt}(hl:Sl κ I v es) :
    CallS Tryz.prog κ 30 [.agg #[I64 (nd),v]] I (fun r J=>r=I64 (checkG nd es)∧I=J):=by
 refine B4 hl.le fun hmax=>?_
 refine Ce1 Tryz.func30 rfl rfl ?_
 refine Ah (Ge1 (Bb (cs:=[_,_]) rfl rfl rfl) fun b1=>Ga rfl (Af (Av (Ah (Gf fld48_0 rfl (Gl ty3 ?_))))))
 refine Gr (A8 rfl rfl) (Gm rfl (A7 (d:=8) rfl (fun g8=>?_) (fun g8=>?_)))
 ·exact Gpo (Gpo (Gpo (Gr (Ao rfl rfl) (Af (B6 rfl (Ah (Ga rfl (Af (Ay (Ad (A0 rfl rfl (I) A1 ⟨by rw [show checkG nd es=1 from (by unfold checkG;rw [if_pos om])],rfl⟩)))))))))))
 ·refine Gro (Aa fld48_0 rfl) (Gro (As ty3) ?_)
  refine Gro (Br rfl rfl) (Gr (Ak rfl rfl) (Af (A6 rfl (fun c12=>?_) (fun c12=>?_))))
  ·exact Ah (Ga rfl (Af (Ay (Ad (A0 rfl rfl (I) A1 ⟨by rw [show checkG nd es=1 from (by unfold checkG;rw [if_pos om])],rfl⟩)))))
  ·refine Az (Ai (Av (Ah (Gf fld48_1 rfl (Gl ty46 ?_)))))
   refine Gr (Bu (α:=Pt) (xs:=es) Bx rfl (Bl hl)) (Gm rfl (Af (Ar (S4 16 15 14 1 rfl rfl rfl rfl) (A5 (Bv (σ:=Nat) (fun s=>([(1,.pointer (some ⟨b1,0,none⟩)),(14,v),(15,I64 (((es.length:Nat):Int))),(16,I64 (((s:Nat):Int)))]:Env)) (fun s=>blk b1 [I64 (nd),v] 48::I) (fun s=>(s≤es.length)∧(checkG nd es=scanL (badE nd) Pt.lt (prevAt es s) (es.drop s))) (fun s=>es.length - s) (0) (show ((0:Nat)≤es.length)∧(checkG nd es=scanL (badE nd) Pt.lt (prevAt es (0:Nat)) (es.drop (0:Nat))) from ⟨om,(by unfold checkG;rw [if_neg om];rfl)⟩) (Ab rfl (Ab rfl (Ab rfl (Ab Ca Bp)))) (show Fit κ _ (blk b1 [I64 (nd),v] 48::I) from A4) ?_)))))
   rintro k hp
   obtain ⟨hk,hs⟩:=hp
   refine Ah (Gr (A8 rfl rfl) (Af (Av (A6 rfl (fun c17=>?_) (fun c17=>?_)))))
   ·refine Az (Ai (Av (A5 (Ah (Gm rfl (Gr (Ba (α:=Pt) (xs:=es) Bx ty135 rfl rfl (Bl hl) om om) (Gr (Bs (α:=Pt) (xs:=es) ty135 rfl (Bl hl) om om) (Ge1 (Ax ty135 rfl) fun b2=>Ga rfl (Ge0 (Bj ty135) ?_)))))))))
    refine Af (Av (Ah (Gf fld135_0 rfl (Gl ty3 ?_))))
    refine Gr (A8 rfl rfl) (Gm rfl (A7 (d:=24) rfl (fun g24=>?_) (fun g24=>?_)))
    ·exact Gpo (Gpo (Gpo (Gpo (Gpo (Gr (Ao rfl rfl) (Gm rfl (Gpo (Gpo (Gpo (Gpo (Gpo (Gr (Ao rfl rfl) (Af (Ar (S7 37 3 4 1 14 15 16 rfl rfl rfl rfl rfl rfl rfl) (B6 rfl (Ah (Ga rfl (Af (Ay (Ad (Au (Ad (Ad (Au (Ad (A0 rfl rfl (I) A1 ⟨by rw [show checkG nd es=6 from (hs.trans ((Cn om (by unfold badE;rw [if_pos om];decide)).trans (by unfold badE;rw [if_pos om])))],rfl⟩))))))))))))))))))))))))))
    ·refine Gro (Aa fld135_0 rfl) (Gro (As ty3) ?_)
     refine Gro (Aa fld135_1 rfl) (Gro (As ty3) ?_)
     refine Gro (B5 rfl rfl) (Gr (Ak rfl rfl) (Gm rfl (A7 (d:=31) rfl (fun g31=>?_) (fun g31=>?_))))
     ·exact Gpo (Gpo (Gpo (Gpo (Gpo (Gr (Ao rfl rfl) (Af (Ar (S7 37 3 4 1 14 15 16 rfl rfl rfl rfl rfl rfl rfl) (B6 rfl (Ah (Ga rfl (Af (Ay (Ad (Au (Ad (Ad (Au (Ad (A0 rfl rfl (I) A1 ⟨by rw [show checkG nd es=6 from (hs.trans ((Cn om (by unfold badE;rw [if_pos om];decide)).trans (by unfold badE;rw [if_pos om])))],rfl⟩)))))))))))))))))))
     ·refine Gro (Aa fld135_1 rfl) (Gro (As ty3) ?_)
      refine Gro (Aa fld48_0 rfl) (Gro (As ty3) ?_)
      refine Gro (B5 rfl rfl) (Gr (Ak rfl rfl) (Af (Ar (S7 37 3 4 1 14 15 16 rfl rfl rfl rfl rfl rfl rfl) (A6 rfl (fun c37=>?_) (fun c37=>?_)))))
      ·exact Ah (Ga rfl (Af (Ay (Ad (Au (Ad (Ad (Au (Ad (A0 rfl rfl (I) A1 ⟨by rw [show checkG nd es=6 from (hs.trans ((Cn om (by unfold badE;rw [if_pos om];decide)).trans (by unfold badE;rw [if_pos om])))],rfl⟩))))))))))
      ·refine Az (Ai (Av (Bk mixed (Bq (blk b2 [I64 ((at_ es (k:Int)).u),I64 ((at_ es (k:Int)).v)] 135::blk b1 [I64 (nd),v] 48::I) 13 (Dr 0 rfl (Ac rfl) (Dr 1 rfl (Br rfl rfl) (Dr 2 rfl (Ac rfl) (Dt (d:=40) rfl (fun g40=>?_) (fun g40=>?_)))))))))
       ·refine Dro 3 rfl (Aa fld48_1 rfl) (Dro 4 rfl (As ty46) ?_)
        refine Dro 5 rfl (Ac rfl) (Dro 6 rfl (Rsu rfl rfl) (Dro 7 rfl (Ba (α:=Pt) (xs:=es) Bx ty135 rfl rfl (Bl hl) om om) (Dro 8 rfl (Bs (α:=Pt) (xs:=es) ty135 rfl (Bl hl) om om) (Dro 9 rfl (Bm (vs:=[_,_]) ty135) ?_))))
        refine Ds1 10 (Sc0 rfl (Aj call84 rfl rfl (Before03_ok (at_ es ((k:Int) - 1)) (at_ es (k:Int)))) ?_)
        refine Dro 11 rfl (Cd rfl) (Dr 12 rfl (Ao rfl rfl) (Dz (Ai (Ar (S5 50 1 14 15 16 rfl rfl rfl rfl rfl) (A6 rfl (fun c50=>?_) (fun c50=>?_))))))
        ·exact Ah (Ga rfl (Af (Ay (Au (Ad (Ad (Au (Ad (A0 rfl rfl (I) A1 ⟨by rw [show checkG nd es=5 from (hs.trans (scanL_order om (badE_zero.2 om) om (by first|assumption|simpa using c50)))],rfl⟩)))))))))
        ·exact Az (Al (Ai (A2 (Gr (Rad rfl rfl) (Gm rfl (Be (B0 ((k+1)) ⟨om,(hs.trans (D6 om (badE_zero.2 om) (fun h0=>by first|omega|exact Classical.not_not.1 asm|assumption)))⟩)))))))
       ·exact Dpo 3 rfl (Dpo 4 rfl (Dpo 5 rfl (Dpo 6 rfl (Dpo 7 rfl (Dpo 8 rfl (Dpo 9 rfl (Dpo 10 rfl (Dpo 11 rfl (Dr 12 rfl (Ak rfl rfl) (Dz (Ai (Ar (S5 50 1 14 15 16 rfl rfl rfl rfl rfl) (Cw rfl (Az (Al (Ai (A2 (Gr (Rad rfl rfl) (Gm rfl (Be (B0 ((k+1)) ⟨om,(hs.trans (D6 om (badE_zero.2 om) (fun h0=>by first|omega|exact Classical.not_not.1 asm|assumption)))⟩)))))))))))))))))))))
   ·exact Bt (Aq (Aq (A9 (Ai (Ah (Ga rfl (Af (Ay (A0 rfl rfl (I) A1 ⟨by rw [show checkG nd es=0 from (hs.trans (scanL_end om))],rfl⟩)))))))))
section
variable {P:Program}{κ:Ctx}{N:Frm}{L:Env}{I J:List Item}{d:Option Tmp}{ty:TypeId}{ps:String}{af:Array Edge}{gd:Option (Nat×Bool)}
theorem vc.isSome{α:Type}[Enc α]{xs:List α}{e:TypeId}{ad:Option Addr}{n c:Nat}(h:vc e (.slice ad n c) xs∈I):∀w,Sep κ w I→(0<xs.length→ad≠none):=fun w hs hlt=>by
 obtain ⟨b,o,cap,h0,_⟩:=((Sl.vec (κ:=κ) h) w hs).some hlt
 cases h0
 exact fun hh=>by cases hh
theorem Runs.idxs(α:Type)[Enc α]{x y:Operand}{T E by' n c:Nat}{ag:Bool}{z:List Value}{ad:Option Addr}{i:Int}(ht:P.underlying T=some (.slice E))(hE:tyF P E=some (Enc.sz α,ag,by',z))(hx:evalO L x=some (.slice ad n c))
  (hy:evalO L y=some (I64 i)) (ha:ad≠none) (h0:0≤i) (hn:i<n):Runs P κ N ⟨d,.indexAddr T x y,ty,ps,af,gd⟩ L J (elemPtr (.slice ad n c) (i.toNat*Enc.sz α)):=by
 cases ad with
 |none=>exact absurd rfl ha
 |some ad=>exact fun a w ha hs=>by simp [execOp,ha.eval hx,ha.eval hy,Instr.indexAt,asIntOf,run_underlying ht,h0,hn,run_sizeOf hE,elemPtr]
end
variable {κ:Ctx}{I:List Item}
theorem ApplyP_ok{nd:Int}{e:Ev}{a0:Option Addr}{c0:Nat}{xs:List Lk}(hv:checkS nd xs=0)(hf:FitOk nd e)(hsz:xs.length≤100000) :
    CallS Tryz.prog κ 141 [.agg #[I64 (nd),.slice a0 xs.length c0],.agg #[I64 (e.kd),I64 (e.tm),I64 (e.u),I64 (e.v),I64 (e.w),I64 (e.lb),I64 (e.sg)]] (vc 146 (.slice a0 xs.length c0) (xs)::I) (fun r J=>∃a c w,r = .tuple #[.agg #[I64 nd,.slice a (stepL xs e).length c],w,I64 0]∧J=vc 146 (.slice a (stepL xs e).length c) (stepL xs e)::I):=by
 refine Ce2 Tryz.func141 rfl rfl ?_
 refine Ah (Ge1 (Bb (cs:=[_,_]) rfl rfl rfl) fun b1=>Ge1 (Bb (cs:=[_,_,_,_,_,_,_]) rfl rfl rfl) fun b2=>Ge1 (Ax ty111 rfl) fun b3=>Ga rfl (Ga rfl (Af (Ah (Gl2 ty111 ?_)))))
 refine G.e (Aj call214 rfl rfl (CheckS_ok (nd:=nd) Bo)) ?_
 rintro _ _ ⟨_,_,⟨rfl,rfl⟩,rfl,rfl⟩
 refine Ga rfl (Af (Av (Ah (Gm rfl (Gr (Bi rfl rfl) (Af (A6 rfl (fun c13=>?_) (fun c13=>?_))))))))
 ·refine A2 (Gf fld111_0 rfl (Gl ty3 ?_))
  refine Gl7 ty108 ?_
  refine Gc0 (Aj call210 rfl rfl (FitsE_ok nd e)) ?_
  refine Ga rfl (Af (Ar (S4 7 4 3 2 rfl rfl rfl rfl) (Av (Ah (Gm rfl (Gr (Bh rfl rfl) (Af (A6 rfl (fun c19=>?_) (fun c19=>?_)))))))))
  ·exact absurd (fitE_ok.2 hf) c19
  ·refine Az (Ai (Ah (Gl2 ty111 ?_)))
   refine Gl7 ty108 ?_
   refine G.e (Aj call215 rfl rfl (StepP_at (by repeat (first|exact AtF.head _ _|apply AtF.tail)) rfl (checkS_ok hv).2.2 om)) ?_
   rintro _ _ ⟨_,_,⟨⟨ad4,cp5,wv6⟩,rfl,rfl⟩,rfl,rfl⟩
   show G Tryz.prog κ _ _ _ _ ([(25,.tuple #[.agg #[I64 (nd),.slice ad4 (stepL xs e).length cp5],wv6]),(24,.agg #[I64 (e.kd),I64 (e.tm),I64 (e.u),I64 (e.v),I64 (e.w),I64 (e.lb),I64 (e.sg)]),(23,.agg #[I64 (nd),.slice a0 xs.length c0]),(19,.bool (decide ((fitE nd e)≠0))),(18,I64 (fitE nd e)),(7,I64 (fitE nd e)),(4,.pointer (some ⟨b3,0,none⟩)),(3,.pointer (some ⟨b2,0,none⟩)),(2,.pointer (some ⟨b1,0,none⟩))]:Env) (blk b3 [I64 (0),.slice none 0 0] 111::blk b2 [I64 (e.kd),I64 (e.tm),I64 (e.u),I64 (e.v),I64 (e.w),I64 (e.lb),I64 (e.sg)] 108::blk b1 [I64 (nd),.slice a0 xs.length c0] 111::vc 146 (.slice ad4 (stepL xs e).length cp5) (stepL xs e)::I)
   refine Gm rfl (Gr (A3 rfl rfl) (Gr (A3 rfl rfl) (Ge1 (Ax ty111 rfl) fun b7=>Ge0 (Bj ty111) ?_)))
   refine Ga rfl (Af (Ar (S3 9 8 4 rfl rfl rfl) (Ah (Gf fld111_1 rfl (Gl ty109 ?_)))))
   refine G.e (Aj call216 rfl rfl (CloneL (xs:=stepL xs e) Bo (by have h:=stepL_len xs e;omega))) ?_
   rintro _ _ ⟨_,_,⟨ad8,cp9,rfl,rfl⟩,rfl,rfl⟩
   refine Gf fld111_1 rfl (Ge0 (Dy ty109) ?_)
   refine Af (Ah (Gl2 ty111 ?_))
   refine Gm rfl (Ge0 (Bj ty111) ?_)
   exact Ga rfl (Ga rfl (Af (Ay (V.retc2 rfl ty111 rfl rfl rfl mm rfl (vc 146 (.slice ad8 (stepL xs e).length cp9) (stepL xs e)::I) Bz ⟨ad8,cp9,wv6,rfl,rfl⟩))))
 ·exact absurd hv c13
theorem edgesK_take{xs:List Lk}{k:Nat}(h:k<xs.length):edgesK (xs.take (k+1))=edgesK (xs.take k)++[(⟨(at_ xs (k:Int)).u,(at_ xs (k:Int)).v⟩:Pt)]:=by
 unfold edgesK;rw [Da xs k h,List.map_append];rfl
theorem LEdges_ok{nd:Int}{va:Value}{xs:List Lk}(hl:Sl κ I va xs)(hsz:xs.length≤100000) :
    CallS Tryz.prog κ 231 [.agg #[I64 (nd),va]] I (fun r J=>∃a c,r = .agg #[I64 nd,.slice a (edgesK xs).length c]∧J=vc 135 (.slice a (edgesK xs).length c) (edgesK xs)::I):=by
 refine B4 hl.le fun hmax=>?_
 refine Ce1 Tryz.func231 rfl rfl ?_
 refine Ah (Ge1 (Bb (cs:=[_,_]) rfl rfl rfl) fun b1=>Ge1 (Ax ty48 rfl) fun b2=>Af (Ah (Gf fld111_0 rfl (Gl ty3 ?_))))
 refine Gr (Bc (cells:=[_,_]) ty48 Tryz.underlying48 pl48 rfl rfl) (Ge1 (Ax ty48 rfl) fun b3=>Ge0 (Bj ty48) ?_)
 refine Af (Av (Ah (Gf fld111_1 rfl (Gl ty109 ?_))))
 refine Gr (Bu (α:=Lk) (xs:=xs) Ap rfl (Bl hl)) (Gm rfl (Af (A5 (Bv (σ:=Nat×(Option Addr)×Nat×(List Pt)) (fun s=>([(2,.pointer (some ⟨b2,0,none⟩)),(3,.pointer (some ⟨b3,0,none⟩)),(10,va),(11,I64 (((xs.length:Nat):Int))),(12,I64 (((s.1:Nat):Int)))]:Env)) (fun s=>vc 135 (.slice s.2.1 s.2.2.2.length s.2.2.1) (s.2.2.2)::blk b3 [I64 (nd),.slice s.2.1 s.2.2.2.length s.2.2.1] 48::blk b2 [I64 (0),.slice none 0 0] 48::blk b1 [I64 (nd),va] 111::I) (fun s=>(s.1≤xs.length)∧(s.2.2.2=edgesK (xs.take s.1))) (fun s=>xs.length - s.1) (0,none,0,[]) (show ((0:Nat)≤xs.length)∧(([]:List Pt)=edgesK (xs.take (0:Nat))) from ⟨om,rfl⟩) (Ab rfl (Ab rfl (Ab rfl (Ab rfl (Ab Ca Bp))))) (show Fit κ _ (vc 135 (.slice (none) ([]).length (0)) (([]))::blk b3 [I64 (nd),.slice (none) ([]).length (0)] 48::blk b2 [I64 (0),.slice none 0 0] 48::blk b1 [I64 (nd),va] 111::I) from (Bw _ _)) ?_))))
 rintro ⟨k,a,c,out⟩ hp
 dsimp only at hp ⊢
 obtain ⟨hk,ho⟩:=hp
 have hol:out.length=k:=by rw [ho,edgesK_len,List.length_take];omega
 refine Ah (Gr (A8 rfl rfl) (Af (Av (A6 rfl (fun c13=>?_) (fun c13=>?_)))))
 ·refine Az (Ai (Av (A5 (Ah (Gr (Ba (α:=Lk) (xs:=xs) Ap ty146 rfl rfl (Bl hl) om om) (Gr (Bs (α:=Lk) (xs:=xs) ty146 rfl (Bl hl) om om) (Ge1 (Ax ty146 rfl) fun b4=>Ge0 (Dw ty146) ?_)))))))
  refine Af (A2 (Gf fld48_1 rfl (Gl ty46 ?_)))
  refine Gf fld146_0 rfl (Gl ty3 ?_)
  refine Gf fld146_1 rfl (Gl ty3 ?_)
  refine Gr (Bc (cells:=[_,_]) ty135 Tryz.underlying135 pl135 rfl rfl) (Ge1 (B1 (α:=Pt) (cs:=[_,_]) (xs:=[⟨(at_ xs (k:Int)).u,(at_ xs (k:Int)).v⟩]) Bx ty135 rfl rfl dc dc rfl rfl rfl rfl) fun ad5=>?_)
  refine Ge2 (B2 (α:=Pt) (e:=135) (xs:=out) (ys:=([⟨(at_ xs (k:Int)).u,(at_ xs (k:Int)).v⟩]:List Pt)) Bx ty135 rfl rfl rfl mm Bo lcn dc rfl (fun _ _=>am)) fun ad6 cp7=>?_
  refine Gf fld48_1 rfl (Ge0 (Dy ty46) ?_)
  exact Be (Al (Ai (Ar (S5 2 3 10 11 12 rfl rfl rfl rfl rfl) (A2 (Gr (Rad rfl rfl) (Gm rfl (Be (B0 ((k+1),(ad6),(cp7),(out++([⟨(at_ xs (k:Int)).u,(at_ xs (k:Int)).v⟩]:List Pt))) (by dsimp only;exact ⟨om,(by rw [edgesK_take om,←ho])⟩)))))))))
 ·refine Bt (Aq (Aq (A9 (Ai (Ah (Gl2 ty48 ?_))))))
  refine Ge0 (Bj ty48) ?_
  refine Af (Ay ?_)
  have hE:out=edgesK xs:=by rw [ho,List.take_of_length_le om]
  exact C6 rfl ty48 rfl mm rfl (vc 135 (.slice a (edgesK xs).length c) (edgesK xs)::I) (by rw [←hE];exact Bz) ⟨a,c,by rw [←hE]<;>rfl,rfl⟩
theorem LGraph_ok{nd:Int}{va:Value}{xs:List Lk}(hl:Sl κ I va xs)(hv:checkS nd xs=0)(hsz:xs.length≤100000) :
    CallS Tryz.prog κ 167 [.agg #[I64 (nd),va]] I (fun r J=>∃a c,r = .tuple #[.agg #[I64 nd,.slice a (edgesK xs).length c],I64 0]∧J=vc 135 (.slice a (edgesK xs).length c) (edgesK xs)::I):=by
 refine Ce1 Tryz.func167 rfl rfl ?_
 refine Ah (Ge1 (Bb (cs:=[_,_]) rfl rfl rfl) fun b1=>Ge1 (Ax ty48 rfl) fun b2=>Ga rfl (Af (Av (Ah (Gl2 ty111 ?_)))))
 refine G.e (Aj call214 rfl rfl (CheckS_ok (nd:=nd) (Bl hl))) ?_
 rintro _ _ ⟨_,_,⟨rfl,rfl⟩,rfl,rfl⟩
 refine Ga rfl (Af (Ah (Gm rfl (Gr (Bh rfl rfl) (Af (A6 rfl (fun c8=>?_) (fun c8=>?_)))))))
 ·exact absurd hv c8
 ·refine Az (Ai (Ah (Gl2 ty111 ?_)))
  refine G.e (Aj call231 rfl rfl (LEdges_ok (nd:=nd) (Bl hl) om)) ?_
  rintro _ _ ⟨_,_,⟨ad3,cp4,rfl,rfl⟩,rfl,rfl⟩
  refine Ge0 (Bj ty48) ?_
  exact Ga rfl (Af (Ay (Dg rfl ty48 rfl rfl mm rfl (vc 135 (.slice ad3 (edgesK xs).length cp4) (edgesK xs)::I) Bz ⟨ad3,cp4,rfl,rfl⟩)))
theorem LateC_ok(x y:Ev) :
    CallS Tryz.prog κ 230 [.agg #[I64 (x.kd),I64 (x.tm),I64 (x.u),I64 (x.v),I64 (x.w),I64 (x.lb),I64 (x.sg)],.agg #[I64 (y.kd),I64 (y.tm),I64 (y.u),I64 (y.v),I64 (y.w),I64 (y.lb),I64 (y.sg)]] I (fun r J=>r=I64 (evC x y)∧I=J):=by
 refine Ce2 Tryz.func230 rfl rfl ?_
 refine Ah (Ge1 (Bb (cs:=[_,_,_,_,_,_,_]) rfl rfl rfl) fun b1=>Ge1 (Bb (cs:=[_,_,_,_,_,_,_]) rfl rfl rfl) fun b2=>Ga rfl (Af (Ah (Gf fld108_1 rfl (Gl ty3 ?_)))))
 refine Gf fld108_1 rfl (Gl ty3 ?_)
 refine Gc0 (Aj call225 rfl rfl (Compare_ok x.tm y.tm)) ?_
 exact Ga rfl (Af (Ay (A0 rfl rfl (I) A1 ⟨by first|rfl|(unfold evC;repeat (first|rfl|omega|split))|(unfold evC;congr 1;repeat (first|rfl|omega|split)),rfl⟩)))
end Go.Sl
