/- A part of the proofs of statements of this seat: contracts of functions, and the plain laws that they lean on. No conditions. -/
import Derived.Test.YtfkcohmipjhfcaaGreatDoorA8
import Derived.Shelf.SortM.Plain
import Derived.Shelf.SortM.SortNone
set_option linter.unusedVariables false
set_option linter.unusedSimpArgs false
set_option linter.unusedSectionVars false
namespace Go.Sl
open Go.Proofs
set_option maxRecDepth 4000
variable {κ:Ctx}{I:List Item}
theorem AgeP_two{b:Nat}{nd kd wd mo T last:Int}{a0 o0:Option Addr}{c0 d0:Nat}{xs:List Lk}{out:List Ev}(hk:kd=2)(hI0:SlI nd kd wd last xs)(hw:checkW kd wd mo=0)(hT:0≤last∧last≤T∧T≤1048576)(hsz:xs.length+out.length≤400000) :
  CallS Tryz.prog κ 211 [.pointer (some ⟨b,0,none⟩),.agg #[I64 kd,I64 wd,I64 mo],I64 T] (blk b [I64 (nd),.slice a0 xs.length c0,.slice o0 out.length d0] 241::vc 146 (.slice a0 xs.length c0) (xs)::vc 108 (.slice o0 out.length d0) (out)::I) (fun r J=>∃y:Option Addr×Nat×Option Addr×Nat,(r = .tuple #[]∧SlI nd kd wd T (ageL wd mo T xs out).1∧(ageL wd mo T xs out).1.length+(ageL wd mo T xs out).2.length=xs.length+out.length)∧J=blk b [I64 (nd),.slice y.1 ((ageL wd mo T xs out).1).length y.2.1,.slice y.2.2.1 ((ageL wd mo T xs out).2).length y.2.2.2] 241::vc 146 (.slice y.1 ((ageL wd mo T xs out).1).length y.2.1) ((ageL wd mo T xs out).1)::vc 108 (.slice y.2.2.1 ((ageL wd mo T xs out).2).length y.2.2.2) ((ageL wd mo T xs out).2)::I):=by
 subst hk
 exact AgeP_base hI0 hw hT hsz
theorem evStep_three{kd wd mo:Int}{xs:List Lk}{out:List Ev}{e:Ev}{ys:List Lk}{zs:List Ev}(h:agedL kd wd mo e.tm (xs,out)=(ys,zs))(hk:kd=3):evStep kd wd mo (xs,out) e=((stepL ys e).filter (inW kd wd mo e.tm (stepL ys e)),zs++[e]++goneL kd wd mo e.tm (stepL ys e)):=by
 unfold evStep windL;rw [h,if_pos hk]
theorem evStep_not{kd wd mo:Int}{xs:List Lk}{out:List Ev}{e:Ev}{ys:List Lk}{zs:List Ev}(h:agedL kd wd mo e.tm (xs,out)=(ys,zs))(hk:¬kd=3):evStep kd wd mo (xs,out) e=(stepL ys e,zs++[e]):=by
 unfold evStep windL;rw [h,if_neg hk]
theorem checkW_one{kd wd mo:Int}(h:checkW kd wd mo=0)(hk:kd=2):1≤wd:=by
 unfold checkW at h
 split at h
 ·cases h
 ·split at h
  ·cases h
  ·omega
theorem lastT_ge{nd:Int}{es:List Ev}(h:StOk nd es){k:Nat}(hk:k≤es.length):0≤lastT es k:=by
 cases k with
 |zero=>exact Int.le_refl _
 |succ k=>rw [lastT_succ];exact (h.fit k om).tm.1
theorem slideE_st{nd kd wd mo:Int}{es:List Ev}(h1:¬checkW kd wd mo≠0):slideE nd kd wd mo es=streamE nd es:=by unfold slideE;rw [if_neg h1]
set_option maxHeartbeats 1000000 in
theorem Slide_ok{nd kd wd mo:Int}{va:Value}{es:List Ev}(hl:Sl κ I va es) :
    CallS Tryz.prog κ 140 [I64 (nd),va,.agg #[I64 (kd),I64 (wd),I64 (mo)]] I (fun r J=>((slideE nd kd wd mo es)≠0∧r = .tuple #[.slice none 0 0,I64 (slideE nd kd wd mo es)]∧I=J)∨(∃a c,(slideE nd kd wd mo es)=0∧r = .tuple #[.slice a (slideS kd wd mo es).2.length c,I64 0]∧J=vc 108 (.slice a (slideS kd wd mo es).2.length c) (slideS kd wd mo es).2::I)):=by
 refine B4 hl.le fun hmax=>?_
 refine Ce3 Tryz.func140 rfl rfl ?_
 refine Ah (Ge1 (Bb (cs:=[_,_,_]) rfl rfl rfl) fun b1=>Ga rfl (Ga rfl (Af (Ao (Ah (Gl3 ty31 ?_))))))
 refine G.e (Am call78 rfl rfl (CheckW_ok kd wd mo)) ?_
 rintro _ _ ⟨_,_,⟨rfl,rfl⟩,rfl,rfl⟩
 refine Ga rfl (Af (Ah (Gm rfl (Gr (Bv rfl rfl) (Af (A9 rfl (fun c16=>?_) (fun c16=>?_)))))))
 ·refine Ah (Gm rfl (Ga rfl (Ga rfl (Af (As (S2 7 6 rfl rfl) (A2 (Al ?_)))))))
  have hz:(slideE nd kd wd mo es)=checkW kd wd mo:=by unfold slideE;rw [if_pos c16]
  exact C9 rfl rfl rfl (I) A4 (.inl ⟨by rw [hz];exact c16,by rw [hz],rfl⟩)
 ·refine A0 (Ai (Ao (Ah (Gm rfl (Gm rfl (G.e (Am call139 rfl rfl (Stream_ok (nd:=nd) (Bf hl))) ?_))))))
  rintro _ _ ⟨_,_,⟨rfl,rfl⟩,rfl,rfl⟩
  refine Ga rfl (Af (As (S4 9 5 0 1 rfl rfl rfl rfl) (Ah (Gm rfl (Gr (Bv rfl rfl) (Af (A9 rfl (fun c22=>?_) (fun c22=>?_))))))))
  ·refine Ah (Gm rfl (Ga rfl (Ga rfl (Af (A2 (Al ?_))))))
   have hz:(slideE nd kd wd mo es)=streamE nd es:=slideE_st c16
   exact C9 rfl rfl rfl (I) A4 (.inl ⟨by rw [hz];exact c22,by rw [hz],rfl⟩)
  ·refine A0 (Ai (Ah (Gm rfl ?_)))
   have hE:=streamE_ok (Classical.not_not.1 c22)
   refine Gr (Be (cells:=[_,_]) ty111 Tryz.underlying111 pl111 rfl rfl) (Gr (Be (cells:=[_,_,_]) ty241 Tryz.underlying241 pl241 rfl rfl) (Ge1 (Bb (cs:=[_,_,_]) rfl rfl rfl) fun b2=>Ga rfl (Af (Ao (Ah (Gm rfl (Gr (Bz (α:=Ev) (xs:=es) Ba rfl (Bf hl)) (Gm rfl (Af (As (S5 30 29 28 10 5 rfl rfl rfl rfl rfl) (Ax (Bx (σ:=Nat×(Option Addr)×Nat×(Option Addr)×Nat×(List Lk)×(List Ev)) (fun s=>([(5,.pointer (some ⟨b1,0,none⟩)),(10,.pointer (some ⟨b2,0,none⟩)),(28,va),(29,I64 (((es.length:Nat):Int))),(30,I64 (((s.1:Nat):Int)))]:Env)) (fun s=>blk b2 [I64 (nd),.slice s.2.1 s.2.2.2.2.2.1.length s.2.2.1,.slice s.2.2.2.1 s.2.2.2.2.2.2.length s.2.2.2.2.1] 241::vc 146 (.slice s.2.1 s.2.2.2.2.2.1.length s.2.2.1) (s.2.2.2.2.2.1)::vc 108 (.slice s.2.2.2.1 s.2.2.2.2.2.2.length s.2.2.2.2.1) (s.2.2.2.2.2.2)::blk b1 [I64 (kd),I64 (wd),I64 (mo)] 31::I) (fun s=>(s.1≤es.length)∧(slideS kd wd mo (List.take s.1 es)=(s.2.2.2.2.2.1,s.2.2.2.2.2.2))∧(SlI nd kd wd (lastT es s.1) s.2.2.2.2.2.1)∧(s.2.2.2.2.2.1.length+s.2.2.2.2.2.2.length≤2*s.1)) (fun s=>es.length - s.1) (0,none,0,none,0,[],[]) (show ((0:Nat)≤es.length)∧(slideS kd wd mo (List.take (0:Nat) es)=(([]:List Lk),([]:List Ev)))∧(SlI nd kd wd (lastT es (0:Nat)) ([]:List Lk))∧(([]:List Lk).length+([]:List Ev).length≤2*(0:Nat)) from ⟨om,rfl,(SlI.nil hE.nodes),(by simp)⟩) (Ac rfl (Ac rfl (Ac rfl (Ac rfl (Ac Cb Bq))))) (show Fit κ _ (blk b2 [I64 (nd),.slice (none) ([]).length (0),.slice (none) ([]).length (0)] 241::vc 146 (.slice (none) ([]).length (0)) (([]))::vc 108 (.slice (none) ([]).length (0)) (([]))::blk b1 [I64 (kd),I64 (wd),I64 (mo)] 31::I) from (Cm (B3 108 _) (Cm (B3 146 _) B7))) ?_))))))))))))
   rintro ⟨k,a1,c1,o1,d1,xs,out⟩ hp
   dsimp only at hp ⊢
   obtain ⟨hk,hst,hI,hs⟩:=hp
   have hlen:=hE.len
   refine Ah (Gr (Bc rfl rfl) (Af (Ao (A9 rfl (fun c31=>?_) (fun c31=>?_)))))
   ·refine A0 (Ai (Ao (Ax (Ah (Gr (A8 (α:=Ev) (xs:=es) Ba ty108 rfl rfl (Bf hl) om om) (Gr (B0 (α:=Ev) (xs:=es) ty108 rfl (Bf hl) om om) (Ge1 (A5 ty108 rfl) fun b3=>Ge0 (Es7_7 ty108) ?_)))))))
    have hfe:=hE.fit k om
    have hto:=hE.asc k om
    refine Af (W.cut (σ:=(Option Addr)×Nat×(Option Addr)×Nat×(List Lk)×(List Ev)) (fun s=>([(5,.pointer (some ⟨b1,0,none⟩)),(10,.pointer (some ⟨b2,0,none⟩)),(12,.pointer (some ⟨b3,0,none⟩)),(28,va),(29,I64 (((es.length:Nat):Int))),(30,I64 ((k:Int)))]:Env)) (fun s=>blk b2 [I64 (nd),.slice s.1 s.2.2.2.2.1.length s.2.1,.slice s.2.2.1 s.2.2.2.2.2.length s.2.2.2.1] 241::vc 146 (.slice s.1 s.2.2.2.2.1.length s.2.1) (s.2.2.2.2.1)::vc 108 (.slice s.2.2.1 s.2.2.2.2.2.length s.2.2.2.1) (s.2.2.2.2.2)::blk b3 [I64 ((at_ es (k:Int)).kd),I64 ((at_ es (k:Int)).tm),I64 ((at_ es (k:Int)).u),I64 ((at_ es (k:Int)).v),I64 ((at_ es (k:Int)).w),I64 ((at_ es (k:Int)).lb),I64 ((at_ es (k:Int)).sg)] 108::blk b1 [I64 (kd),I64 (wd),I64 (mo)] 31::I) (fun s=>((agedL kd wd mo (at_ es (k:Int)).tm (xs,out))=(s.2.2.2.2.1,s.2.2.2.2.2))∧(SlI nd kd wd (at_ es (k:Int)).tm s.2.2.2.2.1)∧(s.2.2.2.2.1.length+s.2.2.2.2.2.length=xs.length+out.length)) ?_ ?_)
    ·refine Ah (Gf fld31_0 rfl (Gl ty3 ?_))
     refine Gr (Bs rfl rfl) (Af (A9 rfl (fun c36=>?_) (fun c36=>?_)))
     ·refine Aw (Gm rfl (Gl3 ty31 ?_))
      refine Gf fld108_1 rfl (Gl ty3 ?_)
      refine G.e (Am call211 rfl rfl (Cn (J:=blk b2 [I64 (nd),.slice a1 xs.length c1,.slice o1 out.length d1] 241::vc 146 (.slice a1 xs.length c1) (xs)::vc 108 (.slice o1 out.length d1) (out)::blk b3 [I64 ((at_ es (k:Int)).kd),I64 ((at_ es (k:Int)).tm),I64 ((at_ es (k:Int)).u),I64 ((at_ es (k:Int)).v),I64 ((at_ es (k:Int)).w),I64 ((at_ es (k:Int)).lb),I64 ((at_ es (k:Int)).sg)] 108::blk b1 [I64 (kd),I64 (wd),I64 (mo)] 31::I) B7 (AgeP_two (nd:=nd) (T:=(at_ es (k:Int)).tm) (xs:=xs) (out:=out) c36 hI (Classical.not_not.1 c16) ⟨lastT_ge hE om,hto,hfe.tm.2⟩ om))) ?_
      rintro _ _ ⟨_,_,⟨⟨ad4,cp5,ad6,cp7⟩,⟨rfl,hag⟩,rfl⟩,rfl,rfl⟩
      show G Tryz.prog κ _ _ _ _ ([(41,.tuple #[]),(40,I64 ((at_ es (k:Int)).tm)),(39,.pointer (some ⟨b3,1,none⟩)),(38,.agg #[I64 (kd),I64 (wd),I64 (mo)]),(37,.pointer (some ⟨b2,0,none⟩)),(36,.bool (decide (kd=2))),(35,I64 (kd)),(34,.pointer (some ⟨b1,0,none⟩)),(12,.pointer (some ⟨b3,0,none⟩)),(33,.agg #[I64 ((at_ es (k:Int)).kd),I64 ((at_ es (k:Int)).tm),I64 ((at_ es (k:Int)).u),I64 ((at_ es (k:Int)).v),I64 ((at_ es (k:Int)).w),I64 ((at_ es (k:Int)).lb),I64 ((at_ es (k:Int)).sg)]),(32,elemPtr (va) (((k:Int)).toNat*Enc.sz Ev)),(31,.bool (decide ((k:Int)<((es.length:Nat):Int)))),(5,.pointer (some ⟨b1,0,none⟩)),(10,.pointer (some ⟨b2,0,none⟩)),(28,va),(29,I64 (((es.length:Nat):Int))),(30,I64 ((k:Int)))]:Env) (blk b2 [I64 (nd),.slice ad4 ((ageL wd mo ((at_ es (k:Int)).tm) xs out).1).length cp5,.slice ad6 ((ageL wd mo ((at_ es (k:Int)).tm) xs out).2).length cp7] 241::vc 146 (.slice ad4 ((ageL wd mo ((at_ es (k:Int)).tm) xs out).1).length cp5) ((ageL wd mo ((at_ es (k:Int)).tm) xs out).1)::vc 108 (.slice ad6 ((ageL wd mo ((at_ es (k:Int)).tm) xs out).2).length cp7) ((ageL wd mo ((at_ es (k:Int)).tm) xs out).2)::blk b3 [I64 ((at_ es (k:Int)).kd),I64 ((at_ es (k:Int)).tm),I64 ((at_ es (k:Int)).u),I64 ((at_ es (k:Int)).v),I64 ((at_ es (k:Int)).w),I64 ((at_ es (k:Int)).lb),I64 ((at_ es (k:Int)).sg)] 108::blk b1 [I64 (kd),I64 (wd),I64 (mo)] 31::I)
      exact Bj (Ep ((ad4),(cp5),(ad6),(cp7),((ageL wd mo (at_ es (k:Int)).tm xs out).1),((ageL wd mo (at_ es (k:Int)).tm xs out).2)) (by dsimp only;exact ⟨(by unfold agedL;rw [if_pos c36]),hag.1,hag.2⟩))
     ·exact A0 (Ep ((a1),(c1),(o1),(d1),(xs),(out)) (by dsimp only;exact ⟨(by unfold agedL;rw [if_neg c36]),(hI.later hto (fun h=>absurd h c36)),rfl⟩))
    ·rintro ⟨a2,c2,o2,d2,ys,zs⟩ hp
     obtain ⟨hag,hI2,hs2⟩:((agedL kd wd mo (at_ es (k:Int)).tm (xs,out))=(ys,zs))∧(SlI nd kd wd (at_ es (k:Int)).tm ys)∧(ys.length+zs.length=xs.length+out.length):=hp
     show W Tryz.prog κ 64 _ _ ([(5,.pointer (some ⟨b1,0,none⟩)),(10,.pointer (some ⟨b2,0,none⟩)),(12,.pointer (some ⟨b3,0,none⟩)),(28,va),(29,I64 (((es.length:Nat):Int))),(30,I64 ((k:Int)))]:Env) (blk b2 [I64 (nd),.slice a2 ys.length c2,.slice o2 zs.length d2] 241::vc 146 (.slice a2 ys.length c2) (ys)::vc 108 (.slice o2 zs.length d2) (zs)::blk b3 [I64 ((at_ es (k:Int)).kd),I64 ((at_ es (k:Int)).tm),I64 ((at_ es (k:Int)).u),I64 ((at_ es (k:Int)).v),I64 ((at_ es (k:Int)).w),I64 ((at_ es (k:Int)).lb),I64 ((at_ es (k:Int)).sg)] 108::blk b1 [I64 (kd),I64 (wd),I64 (mo)] 31::I)
     refine Ah (Gm rfl (Gl7 ty108 ?_))
     refine Ge1 (B9 (α:=Ev) (cs:=[I64 ((at_ es (k:Int)).kd),I64 ((at_ es (k:Int)).tm),I64 ((at_ es (k:Int)).u),I64 ((at_ es (k:Int)).v),I64 ((at_ es (k:Int)).w),I64 ((at_ es (k:Int)).lb),I64 ((at_ es (k:Int)).sg)]) (xs:=[⟨(at_ es (k:Int)).kd,(at_ es (k:Int)).tm,(at_ es (k:Int)).u,(at_ es (k:Int)).v,(at_ es (k:Int)).w,(at_ es (k:Int)).lb,(at_ es (k:Int)).sg⟩]) Ba ty108 rfl rfl dc dc rfl kr rfl rfl) fun ad8=>?_
     refine G.e (Am call212 rfl rfl (Cn (J:=blk b2 [I64 (nd),.slice a2 ys.length c2,.slice o2 zs.length d2] 241::vc 146 (.slice a2 ys.length c2) (ys)::vc 108 (.slice o2 zs.length d2) (zs)::vc 108 (.slice ad8 1 1) (([⟨(at_ es (k:Int)).kd,(at_ es (k:Int)).tm,(at_ es (k:Int)).u,(at_ es (k:Int)).v,(at_ es (k:Int)).w,(at_ es (k:Int)).lb,(at_ es (k:Int)).sg⟩]:List Ev))::blk b3 [I64 ((at_ es (k:Int)).kd),I64 ((at_ es (k:Int)).tm),I64 ((at_ es (k:Int)).u),I64 ((at_ es (k:Int)).v),I64 ((at_ es (k:Int)).w),I64 ((at_ es (k:Int)).lb),I64 ((at_ es (k:Int)).sg)] 108::blk b1 [I64 (kd),I64 (wd),I64 (mo)] 31::I) B7 (PutP_base (nd:=nd) (xs:=ys) (out:=zs) (es:=([⟨(at_ es (k:Int)).kd,(at_ es (k:Int)).tm,(at_ es (k:Int)).u,(at_ es (k:Int)).v,(at_ es (k:Int)).w,(at_ es (k:Int)).lb,(at_ es (k:Int)).sg⟩]:List Ev)) Br hI2.val (fitone hfe) (by have h:=stepL_len ys (at_ es (k:Int));have h9:=gone_len kd wd mo (at_ es (k:Int)).tm (stepL ys (at_ es (k:Int)));first|(simp only [List.length_append,List.length_cons,List.length_nil];omega)|omega) (by have h:=stepL_len ys (at_ es (k:Int));have h9:=gone_len kd wd mo (at_ es (k:Int)).tm (stepL ys (at_ es (k:Int)));first|(simp only [List.length_append,List.length_cons,List.length_nil];omega)|omega)))) ?_
     rintro _ _ ⟨_,_,⟨⟨ad9,cp10,ad11,cp12⟩,rfl,rfl⟩,rfl,rfl⟩
     show G Tryz.prog κ _ _ _ _ ([(45,.tuple #[]),(44,.slice ad8 1 1),(43,.agg #[I64 ((at_ es (k:Int)).kd),I64 ((at_ es (k:Int)).tm),I64 ((at_ es (k:Int)).u),I64 ((at_ es (k:Int)).v),I64 ((at_ es (k:Int)).w),I64 ((at_ es (k:Int)).lb),I64 ((at_ es (k:Int)).sg)]),(42,.pointer (some ⟨b2,0,none⟩)),(5,.pointer (some ⟨b1,0,none⟩)),(10,.pointer (some ⟨b2,0,none⟩)),(12,.pointer (some ⟨b3,0,none⟩)),(28,va),(29,I64 (((es.length:Nat):Int))),(30,I64 ((k:Int)))]:Env) (blk b2 [I64 (nd),.slice ad9 (List.foldl stepL ys ([⟨(at_ es (k:Int)).kd,(at_ es (k:Int)).tm,(at_ es (k:Int)).u,(at_ es (k:Int)).v,(at_ es (k:Int)).w,(at_ es (k:Int)).lb,(at_ es (k:Int)).sg⟩]:List Ev)).length cp10,.slice ad11 (zs++([⟨(at_ es (k:Int)).kd,(at_ es (k:Int)).tm,(at_ es (k:Int)).u,(at_ es (k:Int)).v,(at_ es (k:Int)).w,(at_ es (k:Int)).lb,(at_ es (k:Int)).sg⟩]:List Ev)).length cp12] 241::vc 146 (.slice ad9 (List.foldl stepL ys ([⟨(at_ es (k:Int)).kd,(at_ es (k:Int)).tm,(at_ es (k:Int)).u,(at_ es (k:Int)).v,(at_ es (k:Int)).w,(at_ es (k:Int)).lb,(at_ es (k:Int)).sg⟩]:List Ev)).length cp10) (List.foldl stepL ys ([⟨(at_ es (k:Int)).kd,(at_ es (k:Int)).tm,(at_ es (k:Int)).u,(at_ es (k:Int)).v,(at_ es (k:Int)).w,(at_ es (k:Int)).lb,(at_ es (k:Int)).sg⟩]:List Ev))::vc 108 (.slice ad11 (zs++([⟨(at_ es (k:Int)).kd,(at_ es (k:Int)).tm,(at_ es (k:Int)).u,(at_ es (k:Int)).v,(at_ es (k:Int)).w,(at_ es (k:Int)).lb,(at_ es (k:Int)).sg⟩]:List Ev)).length cp12) (zs++([⟨(at_ es (k:Int)).kd,(at_ es (k:Int)).tm,(at_ es (k:Int)).u,(at_ es (k:Int)).v,(at_ es (k:Int)).w,(at_ es (k:Int)).lb,(at_ es (k:Int)).sg⟩]:List Ev))::vc 108 (.slice ad8 1 1) (([⟨(at_ es (k:Int)).kd,(at_ es (k:Int)).tm,(at_ es (k:Int)).u,(at_ es (k:Int)).v,(at_ es (k:Int)).w,(at_ es (k:Int)).lb,(at_ es (k:Int)).sg⟩]:List Ev))::blk b3 [I64 ((at_ es (k:Int)).kd),I64 ((at_ es (k:Int)).tm),I64 ((at_ es (k:Int)).u),I64 ((at_ es (k:Int)).v),I64 ((at_ es (k:Int)).w),I64 ((at_ es (k:Int)).lb),I64 ((at_ es (k:Int)).sg)] 108::blk b1 [I64 (kd),I64 (wd),I64 (mo)] 31::I)
     show G Tryz.prog κ _ _ _ _ ([(45,.tuple #[]),(44,.slice ad8 1 1),(43,.agg #[I64 ((at_ es (k:Int)).kd),I64 ((at_ es (k:Int)).tm),I64 ((at_ es (k:Int)).u),I64 ((at_ es (k:Int)).v),I64 ((at_ es (k:Int)).w),I64 ((at_ es (k:Int)).lb),I64 ((at_ es (k:Int)).sg)]),(42,.pointer (some ⟨b2,0,none⟩)),(5,.pointer (some ⟨b1,0,none⟩)),(10,.pointer (some ⟨b2,0,none⟩)),(12,.pointer (some ⟨b3,0,none⟩)),(28,va),(29,I64 (((es.length:Nat):Int))),(30,I64 ((k:Int)))]:Env) (blk b2 [I64 (nd),.slice ad9 (stepL ys (at_ es (k:Int))).length cp10,.slice ad11 (zs++[(at_ es (k:Int))]).length cp12] 241::vc 146 (.slice ad9 (stepL ys (at_ es (k:Int))).length cp10) (stepL ys (at_ es (k:Int)))::vc 108 (.slice ad11 (zs++[(at_ es (k:Int))]).length cp12) (zs++[(at_ es (k:Int))])::vc 108 (.slice ad8 1 1) (([⟨(at_ es (k:Int)).kd,(at_ es (k:Int)).tm,(at_ es (k:Int)).u,(at_ es (k:Int)).v,(at_ es (k:Int)).w,(at_ es (k:Int)).lb,(at_ es (k:Int)).sg⟩]:List Ev))::blk b3 [I64 ((at_ es (k:Int)).kd),I64 ((at_ es (k:Int)).tm),I64 ((at_ es (k:Int)).u),I64 ((at_ es (k:Int)).v),I64 ((at_ es (k:Int)).w),I64 ((at_ es (k:Int)).lb),I64 ((at_ es (k:Int)).sg)] 108::blk b1 [I64 (kd),I64 (wd),I64 (mo)] 31::I)
     refine Af (Ah (Gf fld31_0 rfl (Gl ty3 ?_)))
     refine Gr (Bs rfl rfl) ?_
     have hI3:SlI nd kd wd (at_ es (k:Int)).tm (stepL ys (at_ es (k:Int))):=hI2.step hfe rfl (checkW_one (Classical.not_not.1 c16))
     refine Af (A9 rfl (fun c48=>?_) (fun c48=>?_))
     ·refine Bo mixed (Bu (blk b3 [I64 ((at_ es (k:Int)).kd),I64 ((at_ es (k:Int)).tm),I64 ((at_ es (k:Int)).u),I64 ((at_ es (k:Int)).v),I64 ((at_ es (k:Int)).w),I64 ((at_ es (k:Int)).lb),I64 ((at_ es (k:Int)).sg)] 108::blk b1 [I64 (kd),I64 (wd),I64 (mo)] 31::I) 10 (Dr 0 rfl (Ad rfl) (Dr 1 rfl (Ad rfl) (Dr 2 rfl (Bk rfl) (Dr 3 rfl (Aa fld241_0 rfl) (Dr 5 rfl (Bm (vs:=[_,_,_]) ty31) ?_))))))
      refine Dr 6 rfl (Aa fld108_1 rfl) (Dr 7 rfl (Au ty3) ?_)
      refine Ds1 4 (Sr rfl (Bm (vs:=[_,_]) ty111) Ay ?_)
      refine Ds1 8 (Sc2 rfl (Am call213 rfl rfl (GoneP_ok (nd:=nd) Br (by have h:=stepL_len ys (at_ es (k:Int));show (stepL ys (at_ es (k:Int))).length≤1000000;omega) (hI3.ask (Classical.not_not.1 c16) hfe.tm (Int.le_refl _)))) fun ad13 cp14=>?_)
      refine Ds1 9 (Se rfl (Am call212 rfl rfl (Cn (J:=blk b2 [I64 (nd),.slice ad9 (stepL ys (at_ es (k:Int))).length cp10,.slice ad11 (zs++[(at_ es (k:Int))]).length cp12] 241::vc 146 (.slice ad9 (stepL ys (at_ es (k:Int))).length cp10) (stepL ys (at_ es (k:Int)))::vc 108 (.slice ad11 (zs++[(at_ es (k:Int))]).length cp12) (zs++[(at_ es (k:Int))])::vc 108 (.slice ad13 (goneL kd wd mo ((at_ es (k:Int)).tm) (stepL ys (at_ es (k:Int)))).length cp14) (goneL kd wd mo ((at_ es (k:Int)).tm) (stepL ys (at_ es (k:Int))))::vc 108 (.slice ad8 1 1) (([⟨(at_ es (k:Int)).kd,(at_ es (k:Int)).tm,(at_ es (k:Int)).u,(at_ es (k:Int)).v,(at_ es (k:Int)).w,(at_ es (k:Int)).lb,(at_ es (k:Int)).sg⟩]:List Ev))::blk b3 [I64 ((at_ es (k:Int)).kd),I64 ((at_ es (k:Int)).tm),I64 ((at_ es (k:Int)).u),I64 ((at_ es (k:Int)).v),I64 ((at_ es (k:Int)).w),I64 ((at_ es (k:Int)).lb),I64 ((at_ es (k:Int)).sg)] 108::blk b1 [I64 (kd),I64 (wd),I64 (mo)] 31::I) B7 (PutP_base (nd:=nd) (xs:=stepL ys (at_ es (k:Int))) (out:=zs++[(at_ es (k:Int))]) (es:=goneL kd wd mo ((at_ es (k:Int)).tm) (stepL ys (at_ es (k:Int)))) Br hI3.val (fitgone hI3.val hfe.tm) (by have h:=stepL_len ys (at_ es (k:Int));have h9:=gone_len kd wd mo (at_ es (k:Int)).tm (stepL ys (at_ es (k:Int)));first|(simp only [List.length_append,List.length_cons,List.length_nil];omega)|omega) (by have h:=stepL_len ys (at_ es (k:Int));have h9:=gone_len kd wd mo (at_ es (k:Int)).tm (stepL ys (at_ es (k:Int)));first|(simp only [List.length_append,List.length_cons,List.length_nil];omega)|omega)))) ?_)
      rintro _ _ ⟨_,_,⟨⟨ad15,cp16,ad17,cp18⟩,rfl,rfl⟩,rfl,rfl⟩
      refine ⟨Ay,?_⟩
      show D Tryz.prog κ _ _ _ _ _ _ _ ([(58,.tuple #[]),(57,.slice ad13 (goneL kd wd mo ((at_ es (k:Int)).tm) (stepL ys (at_ es (k:Int)))).length cp14),(53,.agg #[I64 (nd),.slice ad9 (stepL ys (at_ es (k:Int))).length cp10]),(56,I64 ((at_ es (k:Int)).tm)),(55,.pointer (some ⟨b3,1,none⟩)),(54,.agg #[I64 (kd),I64 (wd),I64 (mo)]),(52,.pointer (some ⟨b2,0,none⟩)),(51,.pointer (some ⟨b2,0,none⟩)),(50,.pointer (some ⟨b2,0,none⟩)),(49,.pointer (some ⟨b2,0,none⟩)),(48,.bool (decide (kd=3))),(47,I64 (kd)),(46,.pointer (some ⟨b1,0,none⟩)),(45,.tuple #[]),(44,.slice ad8 1 1),(43,.agg #[I64 ((at_ es (k:Int)).kd),I64 ((at_ es (k:Int)).tm),I64 ((at_ es (k:Int)).u),I64 ((at_ es (k:Int)).v),I64 ((at_ es (k:Int)).w),I64 ((at_ es (k:Int)).lb),I64 ((at_ es (k:Int)).sg)]),(42,.pointer (some ⟨b2,0,none⟩)),(5,.pointer (some ⟨b1,0,none⟩)),(10,.pointer (some ⟨b2,0,none⟩)),(12,.pointer (some ⟨b3,0,none⟩)),(28,va),(29,I64 (((es.length:Nat):Int))),(30,I64 ((k:Int)))]:Env) (blk b2 [I64 (nd),.slice ad15 (List.foldl stepL (stepL ys (at_ es (k:Int))) (goneL kd wd mo ((at_ es (k:Int)).tm) (stepL ys (at_ es (k:Int))))).length cp16,.slice ad17 ((zs++[(at_ es (k:Int))])++(goneL kd wd mo ((at_ es (k:Int)).tm) (stepL ys (at_ es (k:Int))))).length cp18] 241::vc 146 (.slice ad15 (List.foldl stepL (stepL ys (at_ es (k:Int))) (goneL kd wd mo ((at_ es (k:Int)).tm) (stepL ys (at_ es (k:Int))))).length cp16) (List.foldl stepL (stepL ys (at_ es (k:Int))) (goneL kd wd mo ((at_ es (k:Int)).tm) (stepL ys (at_ es (k:Int)))))::vc 108 (.slice ad17 ((zs++[(at_ es (k:Int))])++(goneL kd wd mo ((at_ es (k:Int)).tm) (stepL ys (at_ es (k:Int))))).length cp18) ((zs++[(at_ es (k:Int))])++(goneL kd wd mo ((at_ es (k:Int)).tm) (stepL ys (at_ es (k:Int)))))::vc 108 (.slice ad13 (goneL kd wd mo ((at_ es (k:Int)).tm) (stepL ys (at_ es (k:Int)))).length cp14) (goneL kd wd mo ((at_ es (k:Int)).tm) (stepL ys (at_ es (k:Int))))::vc 108 (.slice ad8 1 1) (([⟨(at_ es (k:Int)).kd,(at_ es (k:Int)).tm,(at_ es (k:Int)).u,(at_ es (k:Int)).v,(at_ es (k:Int)).w,(at_ es (k:Int)).lb,(at_ es (k:Int)).sg⟩]:List Ev))::blk b3 [I64 ((at_ es (k:Int)).kd),I64 ((at_ es (k:Int)).tm),I64 ((at_ es (k:Int)).u),I64 ((at_ es (k:Int)).v),I64 ((at_ es (k:Int)).w),I64 ((at_ es (k:Int)).lb),I64 ((at_ es (k:Int)).sg)] 108::blk b1 [I64 (kd),I64 (wd),I64 (mo)] 31::I)
      refine Dz (Aj (Ai (As (S5 5 10 28 29 30 rfl rfl rfl rfl rfl) (Aw (Gr (Rad rfl rfl) (Gm rfl (Bj ?_)))))))
      have hgs:=gone_steps (kd:=kd) (wd:=wd) (mo:=mo) (nw:=(at_ es (k:Int)).tm) hI3.val
      have hgl:=gone_len kd wd mo (at_ es (k:Int)).tm (stepL ys (at_ es (k:Int)))
      have hsl:=stepL_len ys (at_ es (k:Int))
      exact B6 ((k+1),(ad15),(cp16),(ad17),(cp18),(List.filter (inW kd wd mo (at_ es (k:Int)).tm (stepL ys (at_ es (k:Int)))) (stepL ys (at_ es (k:Int)))),(zs++[(at_ es (k:Int))]++goneL kd wd mo (at_ es (k:Int)).tm (stepL ys (at_ es (k:Int))))) (by dsimp only;exact ⟨om,(by rw [slideS_succ om,hst];exact evStep_three hag c48),(by rw [lastT_succ];exact hI3.filter _),lap⟩) (hI:=by (try dsimp only);exact (by rw [←hgs];exact Ay))
     ·refine A0 (Aj (Ai (Aw (Gr (Rad rfl rfl) (Gm rfl (Bj ?_))))))
      have hsl:=stepL_len ys (at_ es (k:Int))
      exact B6 ((k+1),(ad9),(cp10),(ad11),(cp12),((stepL ys (at_ es (k:Int)))),(zs++[(at_ es (k:Int))])) (by dsimp only;exact ⟨om,(by rw [slideS_succ om,hst];exact evStep_not hag c48),(by rw [lastT_succ];exact hI3),lap⟩)
   ·refine Bt (Ak (Ak (A6 (Ai (Ah (Gm rfl (Gr (Bk rfl) (Gf fld241_1 rfl (Gl ty28 ?_)))))))))
    refine Ga rfl (Ga rfl (Af (A2 ?_)))
    have hE2:(slideS kd wd mo es)=(xs,out):=by rw [←hst,show List.take k es=es from List.take_of_length_le om]
    have hz:(slideE nd kd wd mo es)=0:=(slideE_st c16).trans (Classical.not_not.1 c22)
    exact C9 rfl rfl rfl (vc 108 (.slice o1 (slideS kd wd mo es).2.length d1) (slideS kd wd mo es).2::I) (by rw [hE2];exact Ay) (.inr ⟨o1,d1,hz,by rw [hE2],rfl⟩)
end Go.Sl
namespace Go.Proofs
def Tryz.sortI_ren:Go.Shelf.Ren:=⟨fun |5=>142|8=>218|7=>217|19=>269|20=>270|10=>260|11=>261|12=>262|13=>263|14=>264|15=>265|16=>266|17=>267|18=>268|30=>304|31=>305|32=>306|33=>307|34=>308|35=>277|40=>326|n=>n,fun |23=>22|25=>3|3=>3|32=>181|22=>22|0=>0|44=>291|46=>175|4=>4|36=>285|35=>284|41=>273|5=>5|9=>9|53=>320|57=>324|63=>346|64=>259|n=>n,fun |n=>n⟩
theorem Tryz.sortI:Go.Proofs.SlLaysM.n5 Tryz.prog Tryz.sortI_ren:={
 mixed:=by kernel_rfl,
 f5:=⟨Tryz.f142.name,by decide,Tryz.func142.trans (congrArg some (by kernel_rfl))⟩,
 f7:=⟨Tryz.f217.name,by decide,Tryz.func217.trans (congrArg some (by kernel_rfl))⟩,
 f8:=Tryz.func218.trans (congrArg some (by kernel_rfl)),
 f10:=⟨Tryz.f260.name,by decide,Tryz.func260.trans (congrArg some (by kernel_rfl))⟩,
 f11:=⟨Tryz.f261.name,by decide,Tryz.func261.trans (congrArg some (by kernel_rfl))⟩,
 f12:=⟨Tryz.f262.name,by decide,Tryz.func262.trans (congrArg some (by kernel_rfl))⟩,
 f13:=⟨Tryz.f263.name,by decide,Tryz.func263.trans (congrArg some (by kernel_rfl))⟩,
 f14:=⟨Tryz.f264.name,by decide,Tryz.func264.trans (congrArg some (by kernel_rfl))⟩,
 f15:=⟨Tryz.f265.name,by decide,Tryz.func265.trans (congrArg some (by kernel_rfl))⟩,
 f16:=⟨Tryz.f266.name,by decide,Tryz.func266.trans (congrArg some (by kernel_rfl))⟩,
 f17:=⟨Tryz.f267.name,by decide,Tryz.func267.trans (congrArg some (by kernel_rfl))⟩,
 f18:=⟨Tryz.f268.name,by decide,Tryz.func268.trans (congrArg some (by kernel_rfl))⟩,
 f19:=Tryz.func269.trans (congrArg some (by kernel_rfl)),
 f20:=Tryz.func270.trans (congrArg some (by kernel_rfl)),
 f30:=⟨Tryz.f304.name,by decide,Tryz.func304.trans (congrArg some (by kernel_rfl))⟩,
 f31:=Tryz.func305.trans (congrArg some (by kernel_rfl)),
 f32:=Tryz.func306.trans (congrArg some (by kernel_rfl)),
 f33:=⟨Tryz.f307.name,by decide,Tryz.func307.trans (congrArg some (by kernel_rfl))⟩,
 f34:=⟨Tryz.f308.name,by decide,Tryz.func308.trans (congrArg some (by kernel_rfl))⟩,
 f35:=⟨Tryz.f277.name,by decide,Tryz.func277.trans (congrArg some (by kernel_rfl))⟩,
 f40:=⟨Tryz.f326.name,by decide,Tryz.func326.trans (congrArg some (by kernel_rfl))⟩,
 t0:=Tryz.underlying0,
 a0:=Tryz.isAgg0,
 z0:=Tryz.sizeOf0,
 v0:=Tryz.zeroValue0,
 t3:=Tryz.underlying3,
 a3:=Tryz.isAgg3,
 z3:=Tryz.sizeOf3,
 v3:=Tryz.zeroValue3,
 t4:=Tryz.underlying4,
 a4:=Tryz.isAgg4,
 z4:=Tryz.sizeOf4,
 v4:=Tryz.zeroValue4,
 t5:=Tryz.underlying5,
 a5:=Tryz.isAgg5,
 z5:=Tryz.sizeOf5,
 v5:=Tryz.zeroValue5,
 t9:=Tryz.underlying9,
 a9:=Tryz.isAgg9,
 z9:=Tryz.sizeOf9,
 v9:=Tryz.zeroValue9,
 t22:=Tryz.underlying22,
 a22:=Tryz.isAgg22,
 z22:=Tryz.sizeOf22,
 v22:=Tryz.zeroValue22,
 t23:=Tryz.underlying22,
 a23:=Tryz.isAgg22,
 z23:=Tryz.sizeOf22,
 v23:=Tryz.zeroValue22,
 t25:=Tryz.underlying3,
 a25:=Tryz.isAgg3,
 z25:=Tryz.sizeOf3,
 v25:=Tryz.zeroValue3,
 t32:=Tryz.underlying181,
 a32:=Tryz.isAgg181,
 z32:=Tryz.sizeOf181,
 v32:=Tryz.zeroValue181,
 t35:=Tryz.underlying284,
 a35:=Tryz.isAgg284,
 z35:=Tryz.sizeOf284,
 v35:=Tryz.zeroValue284,
 t36:=Tryz.underlying285,
 a36:=Tryz.isAgg285,
 z36:=Tryz.sizeOf285,
 v36:=Tryz.zeroValue285,
 t41:=Tryz.underlying273,
 a41:=Tryz.isAgg273,
 z41:=Tryz.sizeOf273,
 v41:=Tryz.zeroValue273,
 t44:=Tryz.underlying291,
 a44:=Tryz.isAgg291,
 z44:=Tryz.sizeOf291,
 v44:=Tryz.zeroValue291,
 t46:=Tryz.underlying175,
 a46:=Tryz.isAgg175,
 z46:=Tryz.sizeOf175,
 v46:=Tryz.zeroValue175,
 t53:=Tryz.underlying320,
 a53:=Tryz.isAgg320,
 z53:=Tryz.sizeOf320,
 v53:=Tryz.zeroValue320,
 t57:=Tryz.underlying324,
 a57:=Tryz.isAgg324,
 z57:=Tryz.sizeOf324,
 v57:=Tryz.zeroValue324,
 t63:=Tryz.underlying346,
 a63:=Tryz.isAgg346,
 z63:=Tryz.sizeOf346,
 v63:=Tryz.zeroValue346,
 t64:=Tryz.underlying259,
 a64:=Tryz.isAgg259,
 z64:=Tryz.sizeOf259,
 v64:=Tryz.zeroValue259}
end Go.Proofs
namespace Go.Sl
open Go.Proofs Go.Shelf Go.RowKit Go.Lib Go.Sort
def sortZ(xs:List Int):List Int:=xs.mergeSort fun x y=>decide (x≤y)
theorem sortZ_perm(xs:List Int):(sortZ xs).Perm xs:=List.mergeSort_perm _ _
theorem sortZ_len(xs:List Int):(sortZ xs).length=xs.length:=(sortZ_perm xs).length_eq
theorem mem_sortZ{xs:List Int}{x:Int}:x∈sortZ xs↔x∈xs:=(sortZ_perm xs).mem_iff
theorem sortZ_asc(xs:List Int):(sortZ xs).Pairwise (· ≤ ·):=by
 have h:=List.pairwise_mergeSort (le:=fun x y:Int=>decide (x≤y)) (fun a b c h1 h2=>by simp at *; omega) (fun a b=>by simp;omega) xs
 exact h.imp fun h=>by simpa using h
theorem sortI_base{P:Program}{ρ:Ren}{κ:Ctx}{I:List Item}(L:SlLaysM.n5 P ρ){e:TypeId}{ad:Option Addr}{c:Nat}{xs:List Int}(hc:0<c)(hsz:xs.length<4611686018427387904) :
  CallS P κ (ρ.f 5) [.slice ad xs.length c] (vc e (.slice ad xs.length c) xs::I) fun r J=>r = .tuple #[]∧J=vc e (.slice ad (sortZ xs).length c) (sortZ xs)::I:=by
 intro w hs
 obtain ⟨hok,_⟩:=hs.ok _ List.mem_cons_self
 obtain ⟨a',cap',hv,hl,hnc,hcm,hcap⟩:=hok
 cases hv
 obtain ⟨b,off,cur,rfl,hb,hsize,hcur⟩:=hcap hc
 have hbw:b<w.heap.size:=(Array.getElem?_eq_some_iff.1 hb).1
 have hlen:=sortZ_len xs
 have hcx:∀ys:List Int,cells ys=ys.map fun x=>I64 x:=fun ys=>by
  induction ys with
  |nil=>rfl
  |cons y ys ih=>show I64 y::cells ys=_;rw [ih];rfl
 have hcl:∀ys:List Int,(cells ys).length=ys.length:=fun ys=>by rw [hcx,List.length_map]
 have hH:Holds (Value.int .i64) w b off xs.toArray:=fun j hj=>by
  have hj':j<xs.length:=by simpa using hj
  have h1:=hcur j (I64 xs[j]) (by rw [hcx,List.getElem?_map,List.getElem?_eq_getElem hj'];rfl)
  refine ⟨?_,by simp [World.frozen?,hb]⟩
  rw [cell_of_row w b (off+j) cur e (0,0) hb,h1]
  simp [getElem!_pos,hj']
 have h:=AnyM.slices_Sort_int L b off c xs w hH hbw hsz
 refine Calls.mono h ?_
 rintro e' w' ⟨rfl,n,os,rfl⟩
 refine ⟨_,_,rfl,⟨rfl,rfl⟩,?_⟩
 have hz:(xs.mergeSort fun x y=>decide (x≤y))=sortZ xs:=rfl
 rw [hz]
 refine hs.upd (At.head _ _ _) rfl ⟨rfl,by simp [putRow,mapBlock,Sort.grow,Sort.ahead]⟩ rfl (by simp [putRow,mapBlock,Sort.grow,Sort.ahead]) (fun k hk hne=>?_) ?_ fun k hk=> .inl ?_
 ·have hkb:k≠b:=fun ekb=>hne (by subst ekb;exact ⟨off,xs.length,c,rfl,hc⟩)
  simp only [Sort.grow,putRow,mapBlock,Sort.ahead]
  rw [Array.getElem?_append_left (by simpa using hk),Array.getElem?_modify,if_neg (fun e=>hkb e.symm)]
 ·refine ⟨_,c,rfl,(hcl _).trans (Nat.mul_one _).symm,by rw [hlen];exact hnc,hcm,fun _=>⟨b,off,putCells (Value.int .i64) off (sortZ xs).toArray cur,rfl,?_,?_,fun j u hj=>?_⟩⟩
  ·simp only [Sort.grow,putRow,mapBlock,Sort.ahead]
   rw [Array.getElem?_append_left (by simpa using hbw),Array.getElem?_modify,if_pos rfl]
   show (w.heap[b]?).map _=_
   rw [hb];rfl
  ·simpa [putCells] using hsize
  ·have hj':j<(sortZ xs).length:=by rw [←hcl];exact (List.getElem?_eq_some_iff.1 hj).1
   have hoff:off+j<cur.size:=by
    have:=hsize;rw [hlen] at hj'
    have:c*Enc.sz Int=c:=Nat.mul_one c
    omega
   simp only [putCells,Array.getElem?_mapIdx,Array.getElem?_eq_getElem hoff,Option.map_some]
   rw [if_pos ⟨by omega,by simpa using hj'⟩,Nat.add_sub_cancel_left]
   rw [hcx,List.getElem?_map,List.getElem?_eq_getElem hj'] at hj
   simpa [getElem!_pos,hj'] using hj
 ·obtain ⟨o',n',c',hv',hc'⟩:=hk
  cases hv'
  exact ⟨off,xs.length,c,rfl,hc⟩
theorem sortI_any{P:Program}{ρ:Ren}{κ:Ctx}{I:List Item}(L:SlLaysM.n5 P ρ){e:TypeId}{ad:Option Addr}{c:Nat}{xs:List Int}(hsz:xs.length<4611686018427387904) :
  CallS P κ (ρ.f 5) [.slice ad xs.length c] (vc e (.slice ad xs.length c) xs::I) fun r J=>r = .tuple #[]∧J=vc e (.slice ad (sortZ xs).length c) (sortZ xs)::I:=by
 by_cases hc:0<c
 ·exact sortI_base L hc hsz
 ·intro w hs
  obtain ⟨hok,_⟩:=hs.ok _ List.mem_cons_self
  obtain ⟨a',cap',hv,hl,hnc,hcm,hcap⟩:=hok
  cases hv
  obtain rfl:xs=[]:=List.eq_nil_of_length_eq_zero (by omega)
  refine Calls.mono (AnyM.slices_Sort_int_none L ad c w) ?_
  rintro e' w' ⟨rfl,rfl⟩
  have hz:sortZ []=[]:=List.eq_nil_of_length_eq_zero (sortZ_len [])
  refine ⟨_,_,rfl,⟨rfl,rfl⟩,?_⟩
  rw [hz];exact hs
end Go.Sl
namespace Go.Sl
end Go.Sl
namespace Go.Sl
open Go.Proofs
set_option maxRecDepth 4000
theorem Few_ok{κ:Ctx}{I:List Item}{la:Option Addr}{ln lc:Nat} :
    CallS Tryz.prog κ 16 [.slice la ln lc] I (fun r J=>r = .bool (decide ((ln:Int)≤500))∧I=J):=by
 refine Ce1 Tryz.func16 rfl rfl ?_
 exact Ah (Ga rfl (Af (Ah (Gm rfl (Gr (Bw Ab rfl) (Gr (Dw rfl rfl) (Ga rfl (Af (A2 (A7 rfl rfl (I) A4 ⟨rfl,rfl⟩))))))))))
theorem sortI_ok{κ:Ctx}{I:List Item}{e:TypeId}{ad:Option Addr}{c:Nat}{xs:List Int}(hsz:xs.length<4611686018427387904) :
  CallS Tryz.prog κ 142 [.slice ad xs.length c] (vc e (.slice ad xs.length c) xs::I) fun r J=>r = .tuple #[]∧J=vc e (.slice ad xs.length c) (sortZ xs)::I:=
 (sortI_any (κ:=κ) (I:=I) Tryz.sortI (e:=e) (ad:=ad) (c:=c) hsz).mono fun r J ⟨h1,h2⟩=>⟨h1,by rw [h2,sortZ_len]⟩
theorem eqt135:EqT Tryz.prog 135 Pt:=EqT.flat (fun p:Pt=>[p.u,p.v]) (fun _=>rfl) (fun x y h=>by cases x;cases y;simpa using h) (n:=2) (fun _=>rfl) kr kr kr kr kr
theorem CheckGen_ok{κ:Ctx}{I:List Item}{nd:Int}{v:Value}{es:List Pt}(hl:Sl κ I v es) :
    CallS Tryz.prog κ 83 [.agg #[I64 (nd),v]] I (fun r J=>r=I64 (checkG nd es)∧I=J):=by
 refine B4 hl.le fun hmax=>?_
 refine Ce1 Tryz.func83 rfl rfl ?_
 refine Ah (Ge1 (Bb (cs:=[_,_]) rfl rfl rfl) fun b1=>Ga rfl (Af (Ao (Ah (Gf fld48_0 rfl (Gl ty3 ?_))))))
 refine Gr (Bc rfl rfl) (Gm rfl (Bi (d:=8) rfl (fun g8=>?_) (fun g8=>?_)))
 ·exact Gpo (Gpo (Gpo (Gr (Ap rfl rfl) (Af (Cl rfl (Ah (Ga rfl (Af (A2 (Al (A7 rfl rfl (I) A4 ⟨by rw [show checkG nd es=1 from (by unfold checkG;rw [if_pos om])],rfl⟩)))))))))))
 ·refine Gro (Aa fld48_0 rfl) (Gro (Au ty3) ?_)
  refine Gro (B5 rfl rfl) (Gr (Av rfl rfl) (Af (A9 rfl (fun c12=>?_) (fun c12=>?_))))
  ·exact Ah (Ga rfl (Af (A2 (Al (A7 rfl rfl (I) A4 ⟨by rw [show checkG nd es=1 from (by unfold checkG;rw [if_pos om])],rfl⟩)))))
  ·refine A0 (Ai (Ao (Ah (Gf fld48_1 rfl (Gl ty46 ?_)))))
   refine Gr (Bz (α:=Pt) (xs:=es) Bh rfl (Bf hl)) (Gm rfl (Af (As (S4 16 15 14 1 rfl rfl rfl rfl) (Ax (Bx (σ:=Nat) (fun s=>([(1,.pointer (some ⟨b1,0,none⟩)),(14,v),(15,I64 (((es.length:Nat):Int))),(16,I64 (((s:Nat):Int)))]:Env)) (fun s=>blk b1 [I64 (nd),v] 48::I) (fun s=>(s≤es.length)∧(checkG nd es=scanL (badE nd) Pt.lt (prevAt es s) (es.drop s))) (fun s=>es.length - s) (0) (show ((0:Nat)≤es.length)∧(checkG nd es=scanL (badE nd) Pt.lt (prevAt es (0:Nat)) (es.drop (0:Nat))) from ⟨om,(by unfold checkG;rw [if_neg om];rfl)⟩) (Ac rfl (Ac rfl (Ac rfl (Ac Cb Bq)))) (show Fit κ _ (blk b1 [I64 (nd),v] 48::I) from Ay) ?_)))))
   rintro k hp
   obtain ⟨hk,hs⟩:=hp
   refine Ah (Gr (Bc rfl rfl) (Af (Ao (A9 rfl (fun c17=>?_) (fun c17=>?_)))))
   ·refine A0 (Ai (Ao (Ax (Ah (Gm rfl (Gr (A8 (α:=Pt) (xs:=es) Bh ty135 rfl rfl (Bf hl) om om) (Gr (B0 (α:=Pt) (xs:=es) ty135 rfl (Bf hl) om om) (Ge1 (A5 ty135 rfl) fun b2=>Ga rfl (Ge0 (B1 ty135) ?_)))))))))
    refine Af (Ax (Ah (Gf fld135_0 rfl (Gl ty3 ?_))))
    refine Gr (Bc rfl rfl) (Gm rfl (Bi (d:=25) rfl (fun g25=>?_) (fun g25=>?_)))
    ·exact Gpo (Gpo (Gpo (Gpo (Gpo (Gr (Ap rfl rfl) (Gm rfl (Gpo (Gpo (Gpo (Gpo (Gpo (Gr (Ap rfl rfl) (Ga rfl (Af (As (S7 21 3 4 1 14 15 16 rfl rfl rfl rfl rfl rfl rfl) (Cl rfl (Ah (Ga rfl (Af (A2 (Ar (Ar (Al (Al (Ar (Al (A7 rfl rfl (I) A4 ⟨by rw [show checkG nd es=6 from (hs.trans ((Dh om (by unfold badE;rw [if_pos om];decide)).trans (by unfold badE;rw [if_pos om])))],rfl⟩)))))))))))))))))))))))))))
    ·refine Gro (Aa fld135_0 rfl) (Gro (Au ty3) ?_)
     refine Gro (Aa fld135_1 rfl) (Gro (Au ty3) ?_)
     refine Gro (Cg rfl rfl) (Gr (Av rfl rfl) (Gm rfl (Bi (d:=32) rfl (fun g32=>?_) (fun g32=>?_))))
     ·exact Gpo (Gpo (Gpo (Gpo (Gpo (Gr (Ap rfl rfl) (Ga rfl (Af (As (S7 21 3 4 1 14 15 16 rfl rfl rfl rfl rfl rfl rfl) (Cl rfl (Ah (Ga rfl (Af (A2 (Ar (Ar (Al (Al (Ar (Al (A7 rfl rfl (I) A4 ⟨by rw [show checkG nd es=6 from (hs.trans ((Dh om (by unfold badE;rw [if_pos om];decide)).trans (by unfold badE;rw [if_pos om])))],rfl⟩))))))))))))))))))))
     ·refine Gro (Aa fld135_1 rfl) (Gro (Au ty3) ?_)
      refine Gro (Aa fld48_0 rfl) (Gro (Au ty3) ?_)
      refine Gro (Cg rfl rfl) (Gr (Av rfl rfl) (Ga rfl (Af (As (S7 21 3 4 1 14 15 16 rfl rfl rfl rfl rfl rfl rfl) (A9 rfl (fun c21=>?_) (fun c21=>?_))))))
      ·exact Ah (Ga rfl (Af (A2 (Ar (Ar (Al (Al (Ar (Al (A7 rfl rfl (I) A4 ⟨by rw [show checkG nd es=6 from (hs.trans ((Dh om (by unfold badE;rw [if_pos om];decide)).trans (by unfold badE;rw [if_pos om])))],rfl⟩))))))))))
      ·refine Ao (Bo mixed (Bu (blk b2 [I64 ((at_ es (k:Int)).u),I64 ((at_ es (k:Int)).v)] 135::blk b1 [I64 (nd),v] 48::I) 14 (Dr 0 rfl (Ad rfl) (Dr 1 rfl (B5 rfl rfl) (Dr 2 rfl (Ad rfl) (D1 (d:=42) rfl (fun g42=>?_) (fun g42=>?_)))))))
       ·refine Dro 3 rfl (Aa fld48_1 rfl) (Dro 4 rfl (Au ty46) ?_)
        refine Dro 5 rfl (Ad rfl) (Dro 6 rfl (Rsu rfl rfl) (Dro 7 rfl (A8 (α:=Pt) (xs:=es) Bh ty135 rfl rfl (Bf hl) om om) (Dro 8 rfl (B0 (α:=Pt) (xs:=es) ty135 rfl (Bf hl) om om) (Dro 9 rfl (Bm (vs:=[_,_]) ty135) ?_))))
        refine Ds1 10 (Se rfl (Am call154 rfl rfl (Order_ok (at_ es ((k:Int) - 1)) (at_ es (k:Int)))) ?_)
        rintro _ _ ⟨_,_,⟨rfl,rfl⟩,rfl,rfl⟩
        refine ⟨A4,?_⟩
        refine Dro 11 rfl (Cg rfl rfl) (Dr 12 rfl (Ap rfl rfl) (Dr 13 rfl (Bd rfl) (Dz (Ai (As (S5 39 1 14 15 16 rfl rfl rfl rfl rfl) (A9 rfl (fun c39=>?_) (fun c39=>?_)))))))
        ·exact Ah (Ga rfl (Af (A2 (Ar (Ar (Al (Al (Ar (Al (A7 rfl rfl (I) A4 ⟨by rw [show checkG nd es=5 from (hs.trans (scanL_order om (badE_zero.2 om) om (fun h=>by have:=(Pt.cmp_lt _ _).2 h;omega)))],rfl⟩))))))))))
        ·exact A0 (Aj (Aj (Ai (Aw (Gr (Rad rfl rfl) (Gm rfl (Bj (B6 ((k+1)) ⟨om,(hs.trans (E8 om (badE_zero.2 om) (fun h0=>by first|omega|exact (Pt.cmp_lt _ _).1 om)))⟩))))))))
       ·exact Dpo 3 rfl (Dpo 4 rfl (Dpo 5 rfl (Dpo 6 rfl (Dpo 7 rfl (Dpo 8 rfl (Dpo 9 rfl (Dpo 10 rfl (Dpo 11 rfl (Dr 12 rfl (Av rfl rfl) (Dr 13 rfl (Bd rfl) (Dz (Ai (As (S5 39 1 14 15 16 rfl rfl rfl rfl rfl) (Cx rfl (A0 (Aj (Aj (Ai (Aw (Gr (Rad rfl rfl) (Gm rfl (Bj (B6 ((k+1)) ⟨om,(hs.trans (E8 om (badE_zero.2 om) (fun h0=>by first|omega|exact (Pt.cmp_lt _ _).1 om)))⟩)))))))))))))))))))))))
   ·exact Bt (Ak (Ak (A6 (Ai (Ah (Ga rfl (Af (A2 (A7 rfl rfl (I) A4 ⟨by rw [show checkG nd es=0 from (hs.trans (scanL_end om))],rfl⟩)))))))))
variable {κ:Ctx}{I:List Item}
def bitB(v:Int):BitVec 64:=if v<0∨64≤v then 0#64 else 1#64 <<< v.toNat
def maskB(l:List Int):BitVec 64:=l.foldl (fun m v=>m ||| bitB v) 0#64
def allB(n:Int):BitVec 64:=if n≤0 then 0#64 else if 64≤n then 18446744073709551615#64 else (1#64 <<< n.toNat) - 1#64
theorem maskB_take{l:List Int}{k:Nat}(h:k<l.length):maskB (l.take (k+1))=maskB (l.take k) ||| bitB (at_ l (k:Int)):=by
 unfold maskB;rw [Db l k h,List.foldl_append];rfl
def ones1(m:BitVec 64):BitVec 64:=((m >>> (1:Int).toNat) &&& 6148914691236517205#64)+(m &&& 6148914691236517205#64)
def ones2(m:BitVec 64):BitVec 64:=((m >>> (2:Int).toNat) &&& 3689348814741910323#64)+(m &&& 3689348814741910323#64)
def ones3(m:BitVec 64):BitVec 64:=((m >>> (4:Int).toNat)+m) &&& 1085102592571150095#64
def ones4(m:BitVec 64):BitVec 64:=m+(m >>> (8:Int).toNat)
def ones5(m:BitVec 64):BitVec 64:=m+(m >>> (16:Int).toNat)
def ones6(m:BitVec 64):BitVec 64:=m+(m >>> (32:Int).toNat)
def onesB(m:BitVec 64):Int:=((ones6 (ones5 (ones4 (ones3 (ones2 (ones1 m)))))).toNat:Int) % 128
theorem ones_small(m:BitVec 64):(ones6 (ones5 (ones4 (ones3 m)))).toNat<9223372036854775808:=by
 have h3:(ones3 m).toNat≤1085102592571150095:=by unfold ones3;rw [BitVec.toNat_and];exact Nat.and_le_right
 generalize ones3 m=a at h3
 have h4:(ones4 a).toNat≤a.toNat+a.toNat / 256:=by
  unfold ones4;rw [BitVec.toNat_add,BitVec.toNat_ushiftRight,Nat.shiftRight_eq_div_pow,show 2 ^ (8:Int).toNat=256 by decide];exact Nat.mod_le _ _
 generalize ones4 a=b at h4
 have h5:(ones5 b).toNat≤b.toNat+b.toNat / 65536:=by
  unfold ones5;rw [BitVec.toNat_add,BitVec.toNat_ushiftRight,Nat.shiftRight_eq_div_pow,show 2 ^ (16:Int).toNat=65536 by decide];exact Nat.mod_le _ _
 generalize ones5 b=c at h5
 have h6:(ones6 c).toNat≤c.toNat+c.toNat / 4294967296:=by
  unfold ones6;rw [BitVec.toNat_add,BitVec.toNat_ushiftRight,Nat.shiftRight_eq_div_pow,show 2 ^ (32:Int).toNat=4294967296 by decide];exact Nat.mod_le _ _
 omega
theorem Bit_ok(v:Int) :
    CallS Tryz.prog κ 237 [I64 (v)] I (fun r J=>r=U64 (bitB v)∧I=J):=by
 refine Ce1 Tryz.func237 rfl rfl ?_
 refine Ah (Ga rfl (Af (Ao (Ah (Gm rfl (Gr (Bc rfl rfl) (Gm rfl (Bi (d:=5) rfl (fun g5=>?_) (fun g5=>?_)))))))))
 ·exact Gpo (Gpo (Gr (Ap rfl rfl) (Af (Cl rfl (Ah (Ga rfl (Af (A2 (Al (A7 rfl rfl (I) A4 ⟨by unfold bitB;rw [if_pos om];rfl,rfl⟩))))))))))
 ·refine Gro (Ad rfl) (Gro (Cg rfl rfl) (Gr (Av rfl rfl) (Af (A9 rfl (fun c8=>?_) (fun c8=>?_)))))
  ·exact Ah (Ga rfl (Af (A2 (Al (A7 rfl rfl (I) A4 ⟨by unfold bitB;rw [if_pos om];rfl,rfl⟩)))))
  ·exact A0 (Ai (Ah (Gm rfl (Gr (Ef (a:=1#64) rfl rfl om om) (Ga rfl (Af (A2 (A7 rfl rfl (I) A4 ⟨by unfold bitB;rw [if_neg om],rfl⟩))))))))
theorem MaskOf_ok{v:Value}{l:List Int}(hl:Sl κ I v l) :
    CallS Tryz.prog κ 199 [v] I (fun r J=>r=U64 (maskB l)∧I=J):=by
 refine B4 hl.le fun hmax=>?_
 refine Ce1 Tryz.func199 rfl rfl ?_
 refine Ah (Ga rfl (Af (Ah (Ga rfl (Af (Ao (Ah (Gm rfl (Gr (Bz (α:=Int) (xs:=l) Ab rfl (Bf hl)) (Gm rfl (Af (Ax (Bx (σ:=Nat×(BitVec 64)) (fun s=>([(3,U64 (s.2)),(6,v),(7,I64 (((l.length:Nat):Int))),(8,I64 (((s.1:Nat):Int)))]:Env)) (fun s=>I) (fun s=>(s.1≤l.length)∧(s.2=maskB (l.take s.1))) (fun s=>l.length - s.1) (0,0#64) (show ((0:Nat)≤l.length)∧((0#64:BitVec 64)=maskB (l.take (0:Nat))) from ⟨om,rfl⟩) (Ac (Cz rfl (by first|rfl|simp)) (Ac rfl (Ac rfl (Ac Cb Bq)))) (show Fit κ _ (I) from Ay) ?_)))))))))))))
 rintro ⟨k,m⟩ hp
 dsimp only at hp ⊢
 obtain ⟨hk,hm⟩:=hp
 refine Ah (Gr (Bc rfl rfl) (Af (Ao (A9 rfl (fun c9=>?_) (fun c9=>?_)))))
 ·refine A0 (Ai (Ao (Ax (Ah (Gr (A8 (α:=Int) (xs:=l) Ab ty3 rfl rfl (Bf hl) om om) (Gr (B2 (xs:=l) ty3 rfl (Bf hl) om om) (Ga rfl (Af (Aw (Gm rfl (Gm rfl (G.e (Am call237 rfl rfl (Bit_ok (at_ l (k:Int)))) ?_))))))))))))
  rintro _ _ ⟨_,_,⟨rfl,rfl⟩,rfl,rfl⟩
  exact Gr (Runs.orB (a:=m) (b:=bitB (at_ l (k:Int))) rfl rfl) (Ga rfl (Bj (Aj (Ai (Aw (Gr (Rad rfl rfl) (Gm rfl (Bj (B6 ((k+1),(m ||| (bitB (at_ l (k:Int))))) (by dsimp only;exact ⟨om,(by rw [maskB_take om,←hm])⟩))))))))))
 ·refine Bt (Ak (Ak (A6 (Ai (Ah (Gm rfl (Ga rfl (Af (A2 ?_)))))))))
  rw [List.take_of_length_le om] at hm
  exact A7 rfl rfl (I) A4 ⟨by rw [hm],rfl⟩
theorem MaskAll_ok(n:Int) :
    CallS Tryz.prog κ 200 [I64 (n)] I (fun r J=>r=U64 (allB n)∧I=J):=by
 refine Ce1 Tryz.func200 rfl rfl ?_
 refine Ah (Ga rfl (Af (Ao (Ax (Ah (Gm rfl (Gr (Dw rfl rfl) (Ga rfl (Af (A9 rfl (fun c3=>?_) (fun c3=>?_)))))))))))
 ·exact Ah (Ga rfl (Af (A2 (Ar (Al (A7 rfl rfl (I) A4 ⟨by unfold allB;rw [if_pos om];rfl,rfl⟩))))))
 ·refine Ah (Gm rfl (Gr (Cg rfl rfl) (Ga rfl (Af (A9 rfl (fun c6=>?_) (fun c6=>?_))))))
  ·exact Ah (Ga rfl (Af (A2 (Ar (Al (A7 rfl rfl (I) A4 ⟨by unfold allB;rw [if_neg om,if_pos om];rfl,rfl⟩))))))
  ·exact A0 (Aj (Ai (Ah (Gm rfl (Gr (Ef (a:=1#64) rfl rfl om om) (Gr (Runs.subB (a:=(1#64) <<< (n).toNat) (b:=1#64) rfl rfl) (Ga rfl (Af (A2 (A7 rfl rfl (I) A4 ⟨by unfold allB;rw [if_neg om,if_neg om],rfl⟩))))))))))
theorem OnesCount_ok(m:BitVec 64) :
    CallS Tryz.prog κ 271 [U64 (m)] I (fun r J=>r=I64 (onesB m)∧I=J):=by
 refine Ce1 Tryz.func271 rfl rfl ?_
 refine Ah (Ga rfl (Af (Ah (Gm rfl (Gr (E6 (a:=m) rfl rfl om om) (Gr (C0 (a:=m >>> (1:Int).toNat) (b:=6148914691236517205#64) rfl rfl) (Gm rfl (Gr (C0 (a:=m) (b:=6148914691236517205#64) rfl rfl) (Gr (Runs.addB (a:=(m >>> (1:Int).toNat) &&& (6148914691236517205#64)) (b:=m &&& (6148914691236517205#64)) rfl rfl) (Ga rfl ?_))))))))))
 generalize hm1:((m >>> (1:Int).toNat) &&& (6148914691236517205#64))+(m &&& (6148914691236517205#64))=m1
 refine Af (Ah (Gm rfl (Gr (E6 (a:=m1) rfl rfl om om) (Gr (C0 (a:=m1 >>> (2:Int).toNat) (b:=3689348814741910323#64) rfl rfl) (Gm rfl (Gr (C0 (a:=m1) (b:=3689348814741910323#64) rfl rfl) (Gr (Runs.addB (a:=(m1 >>> (2:Int).toNat) &&& (3689348814741910323#64)) (b:=m1 &&& (3689348814741910323#64)) rfl rfl) (Ga rfl ?_))))))))
 generalize hm2:((m1 >>> (2:Int).toNat) &&& (3689348814741910323#64))+(m1 &&& (3689348814741910323#64))=m2
 refine Af (As (S1 0 rfl) (Ah (Gm rfl (Gr (E6 (a:=m2) rfl rfl om om) (Gm rfl (Gr (Runs.addB (a:=m2 >>> (4:Int).toNat) (b:=m2) rfl rfl) (Gr (C0 (a:=(m2 >>> (4:Int).toNat)+m2) (b:=1085102592571150095#64) rfl rfl) (Ga rfl ?_))))))))
 generalize hm3:((m2 >>> (4:Int).toNat)+m2) &&& (1085102592571150095#64)=m3
 refine Af (Ah (Gm rfl (Gm rfl (Gr (E6 (a:=m3) rfl rfl om om) (Gr (Runs.addB (a:=m3) (b:=m3 >>> (8:Int).toNat) rfl rfl) (Ga rfl ?_))))))
 generalize hm4:m3+(m3 >>> (8:Int).toNat)=m4
 refine Af (Ah (Gm rfl (Gm rfl (Gr (E6 (a:=m4) rfl rfl om om) (Gr (Runs.addB (a:=m4) (b:=m4 >>> (16:Int).toNat) rfl rfl) (Ga rfl ?_))))))
 generalize hm5:m4+(m4 >>> (16:Int).toNat)=m5
 refine Af (As (S1 0 rfl) (Ah (Gm rfl (Gm rfl (Gr (E6 (a:=m5) rfl rfl om om) (Gr (Runs.addB (a:=m5) (b:=m5 >>> (32:Int).toNat) rfl rfl) (Ga rfl ?_)))))))
 generalize hm6:m5+(m5 >>> (32:Int).toNat)=m6
 exact Af (Ah (Gm rfl (Gr (Runs.toI Cq Bl rfl (by subst hm6 hm5 hm4 hm3;exact ones_small _)) (Gr (Runs.and127 rfl rfl om) (Ga rfl (Af (A2 (A7 rfl rfl (I) A4 ⟨by subst hm6 hm5 hm4 hm3 hm2 hm1;rfl,rfl⟩))))))))
theorem MCount_ok(m:BitVec 64) :
    CallS Tryz.prog κ 219 [U64 (m)] I (fun r J=>r=I64 (onesB m)∧I=J):=by
 refine Ce1 Tryz.func219 rfl rfl ?_
 refine Ah (Ga rfl (Af (Ah (Gm rfl (Gc0 (Am call271 rfl rfl (OnesCount_ok m)) ?_)))))
 exact Ga rfl (Af (A2 (A7 rfl rfl (I) A4 ⟨rfl,rfl⟩)))
variable {κ:Ctx}{I:List Item}
theorem bitB_two{v:Int}(h0:0≤v)(h1:v<64):bitB v=BitVec.twoPow 64 v.toNat:=by
 unfold bitB;rw [if_neg om];rfl
theorem getLsb_bitB{v:Int}{i:Nat}(hi:i<64):(bitB v).getLsbD i=decide (v=(i:Int)):=by
 by_cases h:0≤v∧v<64
 ·rw [bitB_two h.1 h.2,BitVec.getLsbD_twoPow]
  have e:(v.toNat=i)↔(v=(i:Int)):=by omega
  simp [hi,h,e]
 ·unfold bitB
  rw [if_pos om]
  have:¬v=(i:Int):=by omega
  simp [this]
theorem getLsb_maskB{i:Nat}(hi:i<64):∀(l:List Int) (m:BitVec 64),(l.foldl (fun m v=>m ||| bitB v) m).getLsbD i=(m.getLsbD i||decide ((i:Int)∈l))
 |[],m=>by simp
 |v::l,m=>by
  rw [List.foldl_cons,getLsb_maskB hi l,BitVec.getLsbD_or,getLsb_bitB hi]
  by_cases h1:v=(i:Int)
  ·simp [h1]
  ·have:¬(i:Int)=v:=fun e=>h1 e.symm
   simp [h1,this]
theorem mem_maskB{l:List Int}{v:Int}(h0:0≤v)(h1:v<64):(maskB l &&& bitB v≠0#64)↔v∈l:=by
 have hm:(maskB l).getLsbD v.toNat=decide (v∈l):=by
  unfold maskB;rw [getLsb_maskB om,show ((v.toNat:Nat):Int)=v by omega];simp
 rw [bitB_two h0 h1,BitVec.and_twoPow,hm]
 by_cases h:v∈l
 ·simp only [h,decide_true,if_true,iff_true]
  intro e
  have:=congrArg (fun b=>BitVec.getLsbD b v.toNat) e
  simp only [BitVec.getLsbD_twoPow] at this
  simp at this
  omega
 ·simp [h]
def inE(set:List Int)(e:Pt):Bool:=decide ((maskB set &&& bitB e.u≠0#64)∧(maskB set &&& bitB e.v≠0#64))
def insideL(set:List Int)(es:List Pt):List Pt:=es.filter (inE set)
theorem inE_eq{nd:Int}{es:List Pt}{set:List Int}(h:GrOk nd es){e:Pt}(he:e∈es):inE set e=decide (e.u∈set∧e.v∈set):=by
 have:=h.edge e he;have:=h.rng
 unfold inE
 rw [decide_eq_decide,mem_maskB om om,mem_maskB om om]
theorem insideL_eq{nd:Int}{es:List Pt}(set:List Int)(h:GrOk nd es):insideL set es=es.filter fun e=>decide (e.u∈set∧e.v∈set):=
 List.filter_congr fun e he=>inE_eq h he
def insideN(nd:Int)(es:List Pt)(set:List Int):Nat:=if checkG nd es≠0 then 0 else (insideL set es).length
theorem insideN_le(nd:Int)(es:List Pt)(set:List Int):insideN nd es set≤es.length:=by
 unfold insideN;split
 ·exact Nat.zero_le _
 ·exact List.length_filter_le _ _
theorem WithinG_ok{nd:Int}{va vb:Value}{es:List Pt}{set:List Int}(hl:Sl κ I va es)(hs:Sl κ I vb set)(hb:es.length≤1000000) :
    CallS Tryz.prog κ 275 [.agg #[I64 (nd),va],vb] I (fun r J=>∃a c,r = .slice a (insideL set es).length c∧J=vc 135 (.slice a (insideL set es).length c) (insideL set es)::I):=by
 refine B4 hl.le fun hmax=>?_
 refine Ce2 Tryz.func275 rfl rfl ?_
 refine Ah (Ge1 (Bb (cs:=[_,_]) rfl rfl rfl) fun b1=>Ga rfl (Af (Ah (Gm rfl (Gc0 (Am call199 rfl rfl (MaskOf_ok (Bf hs))) ?_)))))
 refine Ga rfl (Af (Ah (Ga rfl (Af (Ao (Ah (Gf fld48_1 rfl (Gl ty46 ?_))))))))
 refine Gr (Bz (α:=Pt) (xs:=es) Bh rfl (Bf hl)) (Gm rfl (Af (Ax (Bx (σ:=Nat×(Option Addr)×Nat×(List Pt)) (fun s=>([(5,U64 (maskB set)),(6,.slice s.2.1 s.2.2.2.length s.2.2.1),(12,va),(13,I64 (((es.length:Nat):Int))),(14,I64 (((s.1:Nat):Int)))]:Env)) (fun s=>vc 135 (.slice s.2.1 s.2.2.2.length s.2.2.1) (s.2.2.2)::blk b1 [I64 (nd),va] 48::I) (fun s=>(s.1≤es.length)∧(s.2.2.2=(es.take s.1).filter (inE set))) (fun s=>es.length - s.1) (0,none,0,[]) (show ((0:Nat)≤es.length)∧(([]:List Pt)=(es.take (0:Nat)).filter (inE set)) from ⟨om,rfl⟩) (Ac rfl (Ac (Cz rfl (by first|rfl|simp)) (Ac rfl (Ac rfl (Ac Cb Bq))))) (show Fit κ _ (vc 135 (.slice (none) ([]).length (0)) (([]))::blk b1 [I64 (nd),va] 48::I) from (B3 _ _)) ?_))))
 rintro ⟨k,a,c,out⟩ hp
 dsimp only at hp ⊢
 obtain ⟨hk,ho⟩:=hp
 have hol:out.length≤es.length:=by rw [ho];refine Nat.le_trans (List.length_filter_le _ _) ?_;simp only [List.length_take];omega
 refine Ah (Gr (Bc rfl rfl) (Af (Ao (A9 rfl (fun c15=>?_) (fun c15=>?_)))))
 ·refine A0 (Ai (Ao (Ax (Ah (Gr (A8 (α:=Pt) (xs:=es) Bh ty135 rfl rfl (Bf hl) om om) (Gr (B0 (α:=Pt) (xs:=es) ty135 rfl (Bf hl) om om) (Ge1 (A5 ty135 rfl) fun b2=>Ge0 (B1 ty135) ?_)))))))
  refine Af (Ah (Gm rfl (Gf fld135_0 rfl (Gl ty3 ?_))))
  refine G.e (Am call237 rfl rfl (Bit_ok ((at_ es (k:Int)).u))) ?_
  rintro _ _ ⟨_,_,⟨rfl,rfl⟩,rfl,rfl⟩
  refine Gr (C0 (a:=maskB set) (b:=bitB ((at_ es (k:Int)).u)) rfl rfl) (Gr (D8 (a:=(maskB set) &&& (bitB ((at_ es (k:Int)).u))) (b:=0#64) rfl rfl) (Gm rfl (Bi (d:=24) rfl (fun g24=>?_) (fun g24=>?_))))
  ·refine Gro (Ad rfl) (Gro (Aa fld135_1 rfl) (Gro (Au ty3) ?_))
   refine Eu (Cv rfl rfl rfl) (Am call237 rfl rfl (Bit_ok ((at_ es (k:Int)).v))) ?_
   rintro _ _ ⟨_,_,⟨rfl,rfl⟩,rfl,rfl⟩
   refine Gro (C0 (a:=maskB set) (b:=bitB ((at_ es (k:Int)).v)) rfl rfl) (Gro (D8 (a:=(maskB set) &&& (bitB ((at_ es (k:Int)).v))) (b:=0#64) rfl rfl) (Gr (Ap rfl rfl) (Af (As (S7 31 8 5 6 12 13 14 rfl rfl rfl rfl rfl rfl rfl) (A9 rfl (fun c31=>?_) (fun c31=>?_))))))
   ·refine Aw (Gm rfl (Gl2 ty135 ?_))
    refine Ge1 (B9 (α:=Pt) (cs:=[_,_]) (xs:=[⟨(at_ es (k:Int)).u,(at_ es (k:Int)).v⟩]) Bh ty135 rfl rfl dc dc rfl rfl rfl rfl) fun ad3=>?_
    refine Ge2 (Ca (α:=Pt) (e:=135) (xs:=out) (ys:=([⟨(at_ es (k:Int)).u,(at_ es (k:Int)).v⟩]:List Pt)) Bh ty135 rfl rfl rfl mm Br lcn dc rfl (fun _ _=>am)) fun ad4 cp5=>?_
    exact Ga rfl (Bj (Aj (Ai (Aw (Gr (Rad rfl rfl) (Gm rfl (Bj (B6 ((k+1),(ad4),(cp5),(out++([⟨(at_ es (k:Int)).u,(at_ es (k:Int)).v⟩]:List Pt))) (by dsimp only;exact ⟨om,(by first|rw [flt_yes om (decide_eq_true ⟨by assumption,by assumption⟩),←ho]|rw [flt_no om (decide_eq_false (fun h=>by first|exact absurd h.1 asm|exact absurd h.2 asm)),←ho])⟩)))))))))
   ·exact A0 (Aj (Ai (Aw (Gr (Rad rfl rfl) (Gm rfl (Bj (B6 ((k+1),(a),(c),(out)) (by dsimp only;exact ⟨om,(by first|rw [flt_yes om (decide_eq_true ⟨by assumption,by assumption⟩),←ho]|rw [flt_no om (decide_eq_false (fun h=>by first|exact absurd h.1 asm|exact absurd h.2 asm)),←ho])⟩))))))))
  ·exact Gpo (Gpo (Gpo (Gpo (Gpo (Gpo (Gr (Av rfl rfl) (Af (As (S7 31 8 5 6 12 13 14 rfl rfl rfl rfl rfl rfl rfl) (Cx rfl (A0 (Aj (Ai (Aw (Gr (Rad rfl rfl) (Gm rfl (Bj (B6 ((k+1),(a),(c),(out)) (by dsimp only;exact ⟨om,(by first|rw [flt_yes om (decide_eq_true ⟨by assumption,by assumption⟩),←ho]|rw [flt_no om (decide_eq_false (fun h=>by first|exact absurd h.1 asm|exact absurd h.2 asm)),←ho])⟩))))))))))))))))))
 ·refine Bt (Ak (Ak (A6 (Ai (Ah (Gm rfl (Ga rfl (Af (A2 ?_)))))))))
  have hk2:es.take k=es:=List.take_of_length_le om
  rw [hk2] at ho
  have ho2:out=insideL set es:=ho
  subst ho2
  exact A7 rfl rfl (vc 135 (.slice a (insideL set es).length c) (insideL set es)::I) Ay ⟨a,c,rfl,rfl⟩
theorem InsideG_ok{nd:Int}{va vb:Value}{es:List Pt}{set:List Int}(hl:Sl κ I va es)(hs:Sl κ I vb set)(hb:es.length≤1000000) :
    CallS Tryz.prog κ 221 [.agg #[I64 (nd),va],vb] I (fun r J=>r=I64 ((insideN nd es set:Nat):Int)∧I=J):=by
 refine Ce2 Tryz.func221 rfl rfl ?_
 refine Ah (Ge1 (Bb (cs:=[_,_]) rfl rfl rfl) fun b1=>Ga rfl (Af (Ao (Ah (Gl2 ty48 ?_)))))
 refine Gc0 (Am call83 rfl rfl (CheckGen_ok (Bf hl))) ?_
 refine Gr (Bv rfl rfl) (Af (A9 rfl (fun c7=>?_) (fun c7=>?_)))
 ·exact Ah (Ga rfl (Af (A2 (Al (A7 rfl rfl (I) A4 ⟨by unfold insideN;rw [if_pos c7];rfl,rfl⟩)))))
 ·refine A0 (Ai (Ah (Gl2 ty48 ?_)))
  refine Gm rfl (G.e (Am call275 rfl rfl (WithinG_ok (Bf hl) (Bf hs) om)) ?_)
  rintro _ _ ⟨_,_,⟨ad2,cp3,rfl,rfl⟩,rfl,rfl⟩
  exact Gr (Bw Bh rfl) (Ga rfl (Af (A2 (A7 rfl rfl (I) A4 ⟨by unfold insideN;rw [if_neg c7],rfl⟩))))
variable {κ:Ctx}{I:List Item}
structure Fr where
 num:Int
 den:Int
deriving DecidableEq
instance:Inhabited Fr:=⟨⟨0,0⟩⟩
instance:Enc Fr:=⟨fun r=>[I64 r.num,I64 r.den],2,by omega,fun _=>rfl,fun r u hu=>by
 simp only [List.mem_cons,List.not_mem_nil,or_false] at hu
 rcases hu with rfl|rfl<;>rfl⟩
theorem eqt40:EqT Tryz.prog 40 Fr:=EqT.flat (fun p:Fr=>[p.num,p.den]) (fun _=>rfl) (fun x y h=>by cases x;cases y;simpa using h) (n:=2) (fun _=>rfl) kr kr kr kr kr
def gcdI(a b:Int):Int:=((a.toNat.gcd b.toNat:Nat):Int)
theorem gcdI_step{a b:Int}(h0:0≤a)(h1:0<b):gcdI b (Int.tmod a b)=gcdI a b:=by
 unfold gcdI
 rw [Int.tmod_eq_emod_of_nonneg h0,show (a % b).toNat=a.toNat % b.toNat by rw [Int.toNat_emod h0 om]]
 congr 1
 rw [Nat.gcd_comm a.toNat b.toNat,Nat.gcd_rec b.toNat a.toNat,Nat.gcd_comm]
theorem gcdI_zero{a:Int}(h0:0≤a):gcdI a 0=a:=by unfold gcdI;simp;omega
theorem gcdI_pos{a b:Int}(h1:0<b):0<gcdI a b:=by
 unfold gcdI
 have:0<a.toNat.gcd b.toNat:=Nat.gcd_pos_of_pos_right _ om
 omega
theorem gcdI_le{a b:Int}(h1:0<b):gcdI a b≤b:=by
 unfold gcdI
 have:a.toNat.gcd b.toNat≤b.toNat:=Nat.le_of_dvd om (Nat.gcd_dvd_right _ _)
 omega
def mkF(a b:Int):Fr:=⟨a / gcdI a b,b / gcdI a b⟩
theorem mkF_num{a b:Int}(h0:0≤a)(h1:0<b):0≤(mkF a b).num∧(mkF a b).num≤a:=⟨Int.ediv_nonneg h0 (by have:=gcdI_pos (a:=a) h1;omega),Int.ediv_le_self _ h0⟩
theorem mkF_den{a b:Int}(h1:0<b):1≤(mkF a b).den∧(mkF a b).den≤b:=by
 have hg:=gcdI_pos (a:=a) h1
 have hl:=gcdI_le (a:=a) h1
 exact ⟨(Int.le_ediv_iff_mul_le hg).2 om,Int.ediv_le_self _ om⟩
theorem RWithin_ok(n m:Int)(h:0≤m∧m≤9223372036854775807) :
    CallS Tryz.prog κ 157 [I64 (n),I64 (m)] I (fun r J=>r = .bool (decide (-m≤n∧n≤m))∧I=J):=by
 refine Ce2 Tryz.func157 rfl rfl ?_
 refine Ah (Ga rfl (Af (Ah (Gm rfl (Gm rfl (Gr (Runs.neg rfl (by unfold InR;omega)) (Gr (Cg rfl rfl) (Gm rfl (Bi (d:=9) rfl (fun g9=>?_) (fun g9=>?_))))))))))
 ·exact Gro (Ad rfl) (Gro (Ad rfl) (Gro (Dw rfl rfl) (Gr (Ap rfl rfl) (Ga rfl (Af (As (S1 4 rfl) (A2 (A7 rfl rfl (I) A4 ⟨(by first|exact congrArg Value.bool (decide_eq_decide.2 (by skip;omega))|exact congrArg Value.bool (decide_eq_true (by skip;omega)).symm|exact congrArg Value.bool (decide_eq_false (by skip;omega)).symm),rfl⟩))))))))
 ·exact Gpo (Gpo (Gpo (Gr (Av rfl rfl) (Ga rfl (Af (As (S1 4 rfl) (A2 (A7 rfl rfl (I) A4 ⟨(by first|exact congrArg Value.bool (decide_eq_decide.2 (by skip;omega))|exact congrArg Value.bool (decide_eq_true (by skip;omega)).symm|exact congrArg Value.bool (decide_eq_false (by skip;omega)).symm),rfl⟩))))))))
theorem Common_ok(a b:Int)(h0:0≤a)(h1:0≤b) :
    CallS Tryz.prog κ 158 [I64 (a),I64 (b)] I (fun r J=>r=I64 (gcdI a b)∧I=J):=by
 refine Ce2 Tryz.func158 rfl rfl ?_
 refine Ah (Ga rfl (Af (Ao (Ax (Bx (σ:=Int×Int) (fun s=>([(0,I64 (s.1)),(1,I64 (s.2))]:Env)) (fun s=>I) (fun s=>(0≤s.1)∧(0≤s.2)∧(gcdI s.1 s.2=gcdI a b)) (fun s=>s.2.toNat) (a,b) (show (0≤(a:Int))∧(0≤(b:Int))∧(gcdI (a:Int) (b:Int)=gcdI a b) from ⟨om,om,rfl⟩) (Ac Cb (Ac Cb Bq)) (show Fit κ _ (I) from Ay) ?_)))))
 rintro ⟨x,y⟩ hp
 dsimp only at hp ⊢
 obtain ⟨hx,hy,hg⟩:=hp
 refine Ao (Ah (Gm rfl (Gr (Bv rfl rfl) (Af (A9 rfl (fun c6=>?_) (fun c6=>?_))))))
 ·refine A0 (Ai (Ax (Bo mixed (Bu (I) 6 (Dr 0 rfl (Ad rfl) (Dr 1 rfl (Ad rfl) (Dr 2 rfl (Ad rfl) (Dr 3 rfl (Runs.rem rfl rfl om) (Dr 4 rfl (Bd rfl) (Dr 5 rfl (Bd rfl) (Dz (Aj ?_))))))))))))
  have hm0:=Int.tmod_nonneg y (a:=x) hx
  have hm1:=Int.tmod_lt_of_pos x (b:=y) om
  exact B6 ((y),(Int.tmod x y)) (by dsimp only;exact ⟨om,om,((gcdI_step hx om).trans hg)⟩)
 ·refine Bt (Ak (Ak (A6 (Ai (Ah (Gm rfl (Ga rfl (Af (A2 ?_)))))))))
  have hy0:y=0:=by omega
  subst hy0
  exact A7 rfl rfl (I) A4 ⟨by rw [←hg,gcdI_zero hx],rfl⟩
theorem Checked_ok(x:Fr)(h:0≤x.num∧x.num≤1152921504606846976∧x.den≤1152921504606846976) :
    CallS Tryz.prog κ 309 [.agg #[I64 (x.num),I64 (x.den)]] I (fun r J=>r = .tuple #[.agg #[I64 x.num,I64 x.den],I64 0]∧I=J):=by
 refine Ce1 Tryz.func309 rfl rfl ?_
 refine Ah (Ge1 (Bb (cs:=[_,_]) rfl rfl rfl) fun b1=>Ge1 (A5 ty40 rfl) fun b2=>Ga rfl (Af (Ao (Ah (Gf fld40_0 rfl (Gl ty3 ?_))))))
 refine G.e (Am call157 rfl rfl (RWithin_ok x.num 1152921504606846976 om)) ?_
 rintro _ _ ⟨_,_,⟨rfl,rfl⟩,rfl,rfl⟩
 refine Gr (C7 rfl) (Gm rfl (Bi (d:=8) rfl (fun g8=>?_) (fun g8=>?_)))
 ·exact absurd h om
 ·refine Gro (Aa fld40_1 rfl) (Gro (Au ty3) ?_)
  refine Gro (B5 rfl rfl) (Gr (Av rfl rfl) (Af (As (S3 12 2 1 rfl rfl rfl) (A9 rfl (fun c12=>?_) (fun c12=>?_)))))
  ·exact absurd h om
  ·refine A0 (Ai (Ah (Gl2 ty40 ?_)))
   refine Ge0 (B1 ty40) ?_
   exact Ga rfl (Af (A2 (Ct rfl ty40 rfl rfl mm rfl (I) A4 ⟨rfl,rfl⟩)))
theorem Lowest_ok(a b:Int)(h0:0≤a∧a≤1152921504606846976)(h1:0<b∧b≤1152921504606846976) :
    CallS Tryz.prog κ 272 [I64 (a),I64 (b)] I (fun r J=>r = .tuple #[.agg #[I64 (mkF a b).num,I64 (mkF a b).den],I64 0]∧I=J):=by
 refine Ce2 Tryz.func272 rfl rfl ?_
 refine Ah (Ge1 (A5 ty40 rfl) fun b1=>Ga rfl (Af (Ao (Ah (Gm rfl (Gr (Bc rfl rfl) (Af (A9 rfl (fun c8=>?_) (fun c8=>?_)))))))))
 ·exact absurd c8 om
 ·refine A0 (Ai (Ah (Gm rfl (Gm rfl (Gr (Runs.neg rfl (by unfold InR;omega)) (Gr (Et rfl rfl) (Gm rfl (Gc0 (Am call158 rfl rfl (Common_ok (if a<(-(a)) then (-(a)) else a) b (by split<;>omega) om)) ?_))))))))
  refine Ga rfl ?_
  have hmx:(if a < -a then -a else a)=a:=by rw [if_neg om]
  rw [hmx]
  refine Af (As (S4 6 4 0 1 rfl rfl rfl rfl) (Ao (Bo mixed (Bu (blk b1 [I64 (0),I64 (0)] 40::I) 10 (Dr 0 rfl (Ad rfl) ?_)))))
  have hgp:=gcdI_pos (a:=a) h1.1
  refine Dr 1 rfl (Ad rfl) (Dr 2 rfl (Runs.quo rfl rfl om om (by unfold InR;omega)) (Dr 3 rfl (Ad rfl) (Dr 4 rfl (Ad rfl) (Dr 5 rfl (Runs.quo rfl rfl om om (by unfold InR;omega)) (Dr 6 rfl (Be (cells:=[_,_]) ty40 Cj pl40 rfl rfl) (Ds1 7 (Sc0 rfl (Am call309 rfl rfl (Checked_ok (⟨a / (gcdI a b),b / (gcdI a b)⟩:Fr) (by have hn:=mkF_num h0.1 h1.1;have hd:=mkF_den (a:=a) h1.1;exact ⟨hn.1,by have:=hn.2;show (mkF a b).num≤_;omega,by have:=hd.2;show (mkF a b).den≤_;omega⟩))) ?_)))))))
  refine Dr 8 rfl (Az rfl rfl) (Dr 9 rfl (Az rfl rfl) (C4 kr ?_))
  refine Ae 10 rfl (B1 ty40) ?_
  rintro _ _ ⟨rfl,rfl⟩
  refine E3 (i:=11) kr rfl (Bg rfl) rfl rfl (Bd rfl) ?_
  refine C5 kr ?_
  exact Ai (As (S2 5 4 rfl rfl) (A2 (Ct rfl ty40 rfl rfl mm rfl (I) A4 ⟨rfl,rfl⟩)))
theorem MakeF_ok(a b:Int)(h0:0≤a∧a≤1152921504606846976)(h1:0<b∧b≤1152921504606846976) :
    CallS Tryz.prog κ 220 [I64 (a),I64 (b)] I (fun r J=>r = .tuple #[.agg #[I64 (mkF a b).num,I64 (mkF a b).den],I64 0]∧I=J):=by
 refine Ce2 Tryz.func220 rfl rfl ?_
 refine Ah (Ge1 (A5 ty40 rfl) fun b1=>Ga rfl (Af (Ao (Ax (Ah (Gm rfl (Gr (Bs rfl rfl) (Ga rfl (Af (A9 rfl (fun c6=>?_) (fun c6=>?_)))))))))))
 ·exact absurd c6 om
 ·refine Ah (Gm rfl (G.e (Am call157 rfl rfl (RWithin_ok a 4611686018427387904 om)) ?_))
  rintro _ _ ⟨_,_,⟨rfl,rfl⟩,rfl,rfl⟩
  refine Gm rfl (Bi (d:=13) rfl (fun g13=>?_) (fun g13=>?_))
  ·refine Gro (Ad rfl) (Eu (Cv rfl rfl rfl) (Am call157 rfl rfl (RWithin_ok b 4611686018427387904 om)) ?_)
   rintro _ _ ⟨_,_,⟨rfl,rfl⟩,rfl,rfl⟩
   refine Gr (Ap rfl rfl) (Ga rfl (Af (As (S4 10 4 0 1 rfl rfl rfl rfl) (A9 rfl (fun c10=>?_) (fun c10=>?_)))))
   ·refine Ah (Gm rfl (Gm rfl (Gc0 (Am call272 rfl rfl (Lowest_ok a b om om)) ?_)))
    refine Gr (Az rfl rfl) (Gr (Az rfl rfl) (Ge0 (B1 ty40) ?_))
    exact Ga rfl (Af (A2 (Ar (Al (Ct rfl ty40 rfl rfl mm rfl (I) A4 ⟨rfl,rfl⟩)))))
   ·exact absurd om c10
  ·exact absurd om g13
theorem onesB_bd(m:BitVec 64):0≤onesB m∧onesB m<128:=by unfold onesB;omega
end Go.Sl
namespace Go.Sl
set_option maxRecDepth 10000
instance:Enc (BitVec 64):=⟨fun b=>[U64 b],1,by omega,fun _=>rfl,fun _ u h=>by simp at h;subst h;rfl⟩
def addRow(rows:List (BitVec 64))(e:Pt):List (BitVec 64):=
 if 0≤e.u∧e.u<e.v∧e.v<rows.length then
  (rows.set e.u.toNat (at_ rows e.u ||| 1#64 <<< e.v.toNat)).set e.v.toNat (at_ (rows.set e.u.toNat (at_ rows e.u ||| 1#64 <<< e.v.toNat)) e.v ||| 1#64 <<< e.u.toNat)
 else rows
def rows0(nd:Int):List (BitVec 64):=List.replicate (min (max nd 0) 64).toNat 0#64
def rowsB(nd:Int)(es:List Pt):List (BitVec 64):=es.foldl addRow (rows0 nd)
theorem addRow_len(rows:List (BitVec 64))(e:Pt):(addRow rows e).length=rows.length:=by
 unfold addRow;split<;>simp
theorem rowsB_take{nd:Int}{es:List Pt}{k:Nat}(h:k<es.length):rowsB nd (es.take (k+1))=addRow (rowsB nd (es.take k)) (at_ es (k:Int)):=by
 unfold rowsB;rw [take_at es k h,List.foldl_append];rfl
theorem at_rep64(n:Nat)(i:Int):at_ (List.replicate n (0#64)) i=0#64:=by
 unfold at_
 rw [List.getD_eq_getElem?_getD,List.getElem?_replicate]
 split<;>rfl
structure RowsOk (nd:Int) (es:List Pt) (rows:List (BitVec 64)):Prop where
 len:(rows.length:Int)=nd
 bit:∀v w:Int,0≤v→v<nd→0≤w→w<64→((at_ rows v).getLsbD w.toNat=decide ((⟨v,w⟩:Pt)∈es∨(⟨w,v⟩:Pt)∈es))
theorem RowsOk.start{nd:Int}(h:0≤nd∧nd≤64):RowsOk nd [] (rows0 nd):=
 ⟨by unfold rows0;simp;omega,fun v w _ _ _ _=>by unfold rows0;rw [at_rep64];simp⟩
theorem addRow_at{rows:List (BitVec 64)}{e:Pt}(h:0≤e.u∧e.u<e.v∧e.v<rows.length)(j:Int)(h0:0≤j)(h1:j<rows.length) :
  at_ (addRow rows e) j=if e.v=j then at_ rows e.v ||| 1#64 <<< e.u.toNat else if e.u=j then at_ rows e.u ||| 1#64 <<< e.v.toNat else at_ rows j:=by
 unfold addRow
 rw [if_pos h,at_set _ e.v j _ (by omega) h0 (by rw [List.length_set];omega)]
 by_cases hv:e.v=j
 ·rw [if_pos hv,if_pos hv,at_set _ e.u e.v _ (by omega) (by omega) (by omega),if_neg (by omega)]
 ·rw [if_neg hv,if_neg hv,at_set _ e.u j _ (by omega) h0 (by omega)]
theorem getLsb_shl(a i:Nat)(hi:i<64):(1#64 <<< a).getLsbD i=decide (a=i):=by
 show (BitVec.twoPow 64 a).getLsbD i=_
 rw [BitVec.getLsbD_twoPow]
 by_cases h:a=i
 ·subst h;simp [hi]
 ·simp [h]
theorem RowsOk.push{nd:Int}{es:List Pt}{rows:List (BitVec 64)}{e:Pt}(h:RowsOk nd es rows)(he:0≤e.u∧e.u<e.v∧e.v<nd)(hn:nd≤64):RowsOk nd (es++[e]) (addRow rows e):=by
 have hl:=h.len
 refine ⟨by rw [addRow_len];exact hl,fun v w v0 v1 w0 w1=>?_⟩
 rw [addRow_at (by omega) v v0 (by omega)]
 have hb:=h.bit v w v0 v1 w0 w1
 have hext:∀a b:Int,((⟨a,b⟩:Pt)=e)↔(a=e.u∧b=e.v):=fun a b=>by rw [Pt.ext_iff']
 simp only [List.mem_append,List.mem_singleton,hext]
 by_cases hv:e.v=v
 ·rw [if_pos hv,BitVec.getLsbD_or,getLsb_shl _ _ (by omega),hv,hb]
  have e1:(e.u.toNat=w.toNat)↔(w=e.u∧v=e.v):=by omega
  have e2:¬(v=e.u∧w=e.v):=by omega
  rw [decide_eq_decide.2 e1]
  rw [←Bool.decide_or,decide_eq_decide]
  constructor
  ·rintro ((a|b)|c)
   ·exact .inl (.inl a)
   ·exact .inr (.inl b)
   ·exact .inr (.inr ⟨c.1,rfl⟩)
  ·rintro ((a|c)|(b|c))
   ·exact .inl (.inl a)
   ·exact absurd c (fun c=>by omega)
   ·exact .inl (.inr b)
   ·exact .inr ⟨c.1,hv.symm⟩
 ·rw [if_neg hv]
  by_cases hu:e.u=v
  ·rw [if_pos hu,BitVec.getLsbD_or,getLsb_shl _ _ (by omega),hu,hb]
   have e1:(e.v.toNat=w.toNat)↔(v=e.u∧w=e.v):=by omega
   have e2:¬(w=e.u∧v=e.v):=by omega
   rw [decide_eq_decide.2 e1]
   rw [←Bool.decide_or,decide_eq_decide]
   constructor
   ·rintro ((a|b)|c)
    ·exact .inl (.inl a)
    ·exact .inr (.inl b)
    ·exact .inl (.inr ⟨rfl,c.2⟩)
   ·rintro ((a|c)|(b|c))
    ·exact .inl (.inl a)
    ·exact .inr ⟨hu.symm,c.2⟩
    ·exact .inl (.inr b)
    ·exact absurd c (fun c=>by omega)
  ·rw [if_neg hu,hb]
   have e1:¬(v=e.u∧w=e.v):=by omega
   have e2:¬(w=e.u∧v=e.v):=by omega
   simp [e1,e2]
theorem rowsB_ok{nd:Int}{es:List Pt}(h:GrOk nd es):∀k,k≤es.length→RowsOk nd (es.take k) (rowsB nd (es.take k))
 |0,_=>by simpa [rowsB] using RowsOk.start h.rng
 |k+1,hk=>by
  rw [rowsB_take (by omega),take_at es k (by omega)]
  exact (rowsB_ok h k (by omega)).push (h.at (by omega)) h.rng.2
theorem GrOk.rows{nd:Int}{es:List Pt}(h:GrOk nd es):RowsOk nd es (rowsB nd es):=by
 have:=rowsB_ok h es.length (Nat.le_refl _)
 rwa [List.take_length] at this
end Go.Sl
namespace Go.Sl
open Go.Proofs
set_option maxRecDepth 4000
end Go.Sl
