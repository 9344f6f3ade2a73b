/- A part of the proofs of statements of this seat: contracts of functions, and the plain laws that they lean on. No conditions. -/
import Derived.Test.YtfkcohmipjhfcaaGreatDoorH10
import Derived.Shelf.SortM.Plain
import Derived.Shelf.SortM.SortNone
set_option linter.unusedVariables false
set_option linter.unusedSimpArgs false
set_option linter.unusedSectionVars false
namespace Go.Sl
open Go.Proofs
set_option maxRecDepth 4000
variable {κ:Ctx}{I:List Item}
theorem AgeP_two{b:Nat}{nd kd wd mo T last:Int}{a0 o0:Option Addr}{c0 d0:Nat}{xs:List Lk}{out:List Ev}(hk:kd=2)(hI0:SlI nd kd wd last xs)(hw:checkW kd wd mo=0)(hT:0≤last∧last≤T∧T≤1048576)(hsz:xs.length+out.length≤400000) :
  CallS Tryz.prog κ 211 [.pointer (some ⟨b,0,none⟩),.agg #[I64 kd,I64 wd,I64 mo],I64 T] (blk b [I64 (nd),.slice a0 xs.length c0,.slice o0 out.length d0] 241::vc 146 (.slice a0 xs.length c0) (xs)::vc 108 (.slice o0 out.length d0) (out)::I) (fun r J=>∃y:Option Addr×Nat×Option Addr×Nat,(r = .tuple #[]∧SlI nd kd wd T (ageL wd mo T xs out).1∧(ageL wd mo T xs out).1.length+(ageL wd mo T xs out).2.length=xs.length+out.length)∧J=blk b [I64 (nd),.slice y.1 ((ageL wd mo T xs out).1).length y.2.1,.slice y.2.2.1 ((ageL wd mo T xs out).2).length y.2.2.2] 241::vc 146 (.slice y.1 ((ageL wd mo T xs out).1).length y.2.1) ((ageL wd mo T xs out).1)::vc 108 (.slice y.2.2.1 ((ageL wd mo T xs out).2).length y.2.2.2) ((ageL wd mo T xs out).2)::I):=by
 subst hk
 exact AgeP_base hI0 hw hT hsz
theorem evStep_three{kd wd mo:Int}{xs:List Lk}{out:List Ev}{e:Ev}{ys:List Lk}{zs:List Ev}(h:agedL kd wd mo e.tm (xs,out)=(ys,zs))(hk:kd=3):evStep kd wd mo (xs,out) e=((stepL ys e).filter (inW kd wd mo e.tm (stepL ys e)),zs++[e]++goneL kd wd mo e.tm (stepL ys e)):=by
 unfold evStep windL;rw [h,if_pos hk]
theorem evStep_not{kd wd mo:Int}{xs:List Lk}{out:List Ev}{e:Ev}{ys:List Lk}{zs:List Ev}(h:agedL kd wd mo e.tm (xs,out)=(ys,zs))(hk:¬kd=3):evStep kd wd mo (xs,out) e=(stepL ys e,zs++[e]):=by
 unfold evStep windL;rw [h,if_neg hk]
theorem checkW_one{kd wd mo:Int}(h:checkW kd wd mo=0)(hk:kd=2):1≤wd:=by
 unfold checkW at h
 split at h
 ·cases h
 ·split at h
  ·cases h
  ·omega
theorem lastT_ge{nd:Int}{es:List Ev}(h:StOk nd es){k:Nat}(hk:k≤es.length):0≤lastT es k:=by
 cases k with
 |zero=>exact Int.le_refl _
 |succ k=>rw [lastT_succ];exact (h.fit k om).tm.1
theorem slideE_st{nd kd wd mo:Int}{es:List Ev}(h1:¬checkW kd wd mo≠0):slideE nd kd wd mo es=streamE nd es:=by unfold slideE;rw [if_neg h1]
set_option maxHeartbeats 1000000 in
theorem Slide_ok{nd kd wd mo:Int}{va:Value}{es:List Ev}(hl:Sl κ I va es) :
    CallS Tryz.prog κ 140 [I64 (nd),va,.agg #[I64 (kd),I64 (wd),I64 (mo)]] I (fun r J=>((slideE nd kd wd mo es)≠0∧r = .tuple #[.slice none 0 0,I64 (slideE nd kd wd mo es)]∧I=J)∨(∃a c,(slideE nd kd wd mo es)=0∧r = .tuple #[.slice a (slideS kd wd mo es).2.length c,I64 0]∧J=vc 108 (.slice a (slideS kd wd mo es).2.length c) (slideS kd wd mo es).2::I)):=by
 refine B4 hl.le fun hmax=>?_
 refine Ce3 Tryz.func140 rfl rfl ?_
 refine Ai (Ge1 (Bd (cs:=[_,_,_]) rfl rfl rfl) fun b1=>Ga rfl (Ga rfl (Af (Au (Ai (Gl3 ty31 ?_))))))
 refine G.e (Ap call78 rfl rfl (CheckW_ok kd wd mo)) ?_
 rintro _ _ ⟨_,_,⟨rfl,rfl⟩,rfl,rfl⟩
 refine Ga rfl (Af (Ai (Gm rfl (Gr (Be rfl rfl) (Af (A7 rfl (fun c16=>?_) (fun c16=>?_)))))))
 ·refine Ai (Gm rfl (Ga rfl (Ga rfl (Af (Ar (S2 7 6 rfl rfl) (Ax (Ah ?_)))))))
  have hz:(slideE nd kd wd mo es)=checkW kd wd mo:=by unfold slideE;rw [if_pos c16]
  exact Cl rfl rfl rfl (I) A0 (.inl ⟨by rw [hz];exact c16,by rw [hz],rfl⟩)
 ·refine Aw (Aj (Au (Ai (Gm rfl (Gm rfl (G.e (Ap call139 rfl rfl (Stream_ok (nd:=nd) (Bj hl))) ?_))))))
  rintro _ _ ⟨_,_,⟨rfl,rfl⟩,rfl,rfl⟩
  refine Ga rfl (Af (Ar (S4 9 5 0 1 rfl rfl rfl rfl) (Ai (Gm rfl (Gr (Be rfl rfl) (Af (A7 rfl (fun c22=>?_) (fun c22=>?_))))))))
  ·refine Ai (Gm rfl (Ga rfl (Ga rfl (Af (Ax (Ah ?_))))))
   have hz:(slideE nd kd wd mo es)=streamE nd es:=slideE_st c16
   exact Cl rfl rfl rfl (I) A0 (.inl ⟨by rw [hz];exact c22,by rw [hz],rfl⟩)
  ·refine Aw (Aj (Ai (Gm rfl ?_)))
   have hE:=streamE_ok (Classical.not_not.1 c22)
   refine Gr (Bl (cells:=[_,_]) ty111 Dx pl111 rfl rfl) (Gr (Bl (cells:=[_,_,_]) ty241 Tryz.underlying241 pl241 rfl rfl) (Ge1 (Bd (cs:=[_,_,_]) rfl rfl rfl) fun b2=>Ga rfl (Af (Au (Ai (Gm rfl (Gr (Bx (α:=Ev) (xs:=es) A1 rfl (Bj hl)) (Gm rfl (Af (Ar (S5 30 29 28 10 5 rfl rfl rfl rfl rfl) (A4 (Bv (σ:=Nat×(Option Addr)×Nat×(Option Addr)×Nat×(List Lk)×(List Ev)) (fun s=>([(5,.pointer (some ⟨b1,0,none⟩)),(10,.pointer (some ⟨b2,0,none⟩)),(28,va),(29,I64 (((es.length:Nat):Int))),(30,I64 (((s.1:Nat):Int)))]:Env)) (fun s=>blk b2 [I64 (nd),.slice s.2.1 s.2.2.2.2.2.1.length s.2.2.1,.slice s.2.2.2.1 s.2.2.2.2.2.2.length s.2.2.2.2.1] 241::vc 146 (.slice s.2.1 s.2.2.2.2.2.1.length s.2.2.1) (s.2.2.2.2.2.1)::vc 108 (.slice s.2.2.2.1 s.2.2.2.2.2.2.length s.2.2.2.2.1) (s.2.2.2.2.2.2)::blk b1 [I64 (kd),I64 (wd),I64 (mo)] 31::I) (fun s=>(s.1≤es.length)∧(slideS kd wd mo (List.take s.1 es)=(s.2.2.2.2.2.1,s.2.2.2.2.2.2))∧(SlI nd kd wd (lastT es s.1) s.2.2.2.2.2.1)∧(s.2.2.2.2.2.1.length+s.2.2.2.2.2.2.length≤2*s.1)) (fun s=>es.length - s.1) (0,none,0,none,0,[],[]) (show ((0:Nat)≤es.length)∧(slideS kd wd mo (List.take (0:Nat) es)=(([]:List Lk),([]:List Ev)))∧(SlI nd kd wd (lastT es (0:Nat)) ([]:List Lk))∧(([]:List Lk).length+([]:List Ev).length≤2*(0:Nat)) from ⟨om,rfl,(SlI.nil hE.nodes),(by simp)⟩) (Aa rfl (Aa rfl (Aa rfl (Aa rfl (Aa B8 Bg))))) (show Fit κ _ (blk b2 [I64 (nd),.slice (none) ([]).length (0),.slice (none) ([]).length (0)] 241::vc 146 (.slice (none) ([]).length (0)) (([]))::vc 108 (.slice (none) ([]).length (0)) (([]))::blk b1 [I64 (kd),I64 (wd),I64 (mo)] 31::I) from (Cg (Bw 108 _) (Cg (Bw 146 _) Bt))) ?_))))))))))))
   rintro ⟨k,a1,c1,o1,d1,xs,out⟩ hp
   dsimp only at hp ⊢
   obtain ⟨hk,hst,hI,hs⟩:=hp
   have hlen:=hE.len
   refine Ai (Gr (A9 rfl rfl) (Af (Au (A7 rfl (fun c31=>?_) (fun c31=>?_)))))
   ·refine Aw (Aj (Au (A4 (Ai (Gr (A3 (α:=Ev) (xs:=es) A1 ty108 rfl rfl (Bj hl) om om) (Gr (Bu (α:=Ev) (xs:=es) ty108 rfl (Bj hl) om om) (Ge1 (A8 ty108 rfl) fun b3=>Ge0 (Es7_7 ty108) ?_)))))))
    have hfe:=hE.fit k om
    have hto:=hE.asc k om
    refine Af (Eq (σ:=(Option Addr)×Nat×(Option Addr)×Nat×(List Lk)×(List Ev)) (fun s=>([(5,.pointer (some ⟨b1,0,none⟩)),(10,.pointer (some ⟨b2,0,none⟩)),(12,.pointer (some ⟨b3,0,none⟩)),(28,va),(29,I64 (((es.length:Nat):Int))),(30,I64 ((k:Int)))]:Env)) (fun s=>blk b2 [I64 (nd),.slice s.1 s.2.2.2.2.1.length s.2.1,.slice s.2.2.1 s.2.2.2.2.2.length s.2.2.2.1] 241::vc 146 (.slice s.1 s.2.2.2.2.1.length s.2.1) (s.2.2.2.2.1)::vc 108 (.slice s.2.2.1 s.2.2.2.2.2.length s.2.2.2.1) (s.2.2.2.2.2)::blk b3 [I64 ((at_ es (k:Int)).kd),I64 ((at_ es (k:Int)).tm),I64 ((at_ es (k:Int)).u),I64 ((at_ es (k:Int)).v),I64 ((at_ es (k:Int)).w),I64 ((at_ es (k:Int)).lb),I64 ((at_ es (k:Int)).sg)] 108::blk b1 [I64 (kd),I64 (wd),I64 (mo)] 31::I) (fun s=>((agedL kd wd mo (at_ es (k:Int)).tm (xs,out))=(s.2.2.2.2.1,s.2.2.2.2.2))∧(SlI nd kd wd (at_ es (k:Int)).tm s.2.2.2.2.1)∧(s.2.2.2.2.1.length+s.2.2.2.2.2.length=xs.length+out.length)) ?_ ?_)
    ·refine Ai (Gf fld31_0 rfl (Gl ty3 ?_))
     refine Gr (Bi rfl rfl) (Af (A7 rfl (fun c36=>?_) (fun c36=>?_)))
     ·refine Az (Gm rfl (Gl3 ty31 ?_))
      refine Gf fld108_1 rfl (Gl ty3 ?_)
      refine G.e (Ap call211 rfl rfl (Cj (J:=blk b2 [I64 (nd),.slice a1 xs.length c1,.slice o1 out.length d1] 241::vc 146 (.slice a1 xs.length c1) (xs)::vc 108 (.slice o1 out.length d1) (out)::blk b3 [I64 ((at_ es (k:Int)).kd),I64 ((at_ es (k:Int)).tm),I64 ((at_ es (k:Int)).u),I64 ((at_ es (k:Int)).v),I64 ((at_ es (k:Int)).w),I64 ((at_ es (k:Int)).lb),I64 ((at_ es (k:Int)).sg)] 108::blk b1 [I64 (kd),I64 (wd),I64 (mo)] 31::I) Bt (AgeP_two (nd:=nd) (T:=(at_ es (k:Int)).tm) (xs:=xs) (out:=out) c36 hI (Classical.not_not.1 c16) ⟨lastT_ge hE om,hto,hfe.tm.2⟩ om))) ?_
      rintro _ _ ⟨_,_,⟨⟨ad4,cp5,ad6,cp7⟩,⟨rfl,hag⟩,rfl⟩,rfl,rfl⟩
      show G Tryz.prog κ _ _ _ _ ([(41,.tuple #[]),(40,I64 ((at_ es (k:Int)).tm)),(39,.pointer (some ⟨b3,1,none⟩)),(38,.agg #[I64 (kd),I64 (wd),I64 (mo)]),(37,.pointer (some ⟨b2,0,none⟩)),(36,.bool (decide (kd=2))),(35,I64 (kd)),(34,.pointer (some ⟨b1,0,none⟩)),(12,.pointer (some ⟨b3,0,none⟩)),(33,.agg #[I64 ((at_ es (k:Int)).kd),I64 ((at_ es (k:Int)).tm),I64 ((at_ es (k:Int)).u),I64 ((at_ es (k:Int)).v),I64 ((at_ es (k:Int)).w),I64 ((at_ es (k:Int)).lb),I64 ((at_ es (k:Int)).sg)]),(32,elemPtr (va) (((k:Int)).toNat*Enc.sz Ev)),(31,.bool (decide ((k:Int)<((es.length:Nat):Int)))),(5,.pointer (some ⟨b1,0,none⟩)),(10,.pointer (some ⟨b2,0,none⟩)),(28,va),(29,I64 (((es.length:Nat):Int))),(30,I64 ((k:Int)))]:Env) (blk b2 [I64 (nd),.slice ad4 ((ageL wd mo ((at_ es (k:Int)).tm) xs out).1).length cp5,.slice ad6 ((ageL wd mo ((at_ es (k:Int)).tm) xs out).2).length cp7] 241::vc 146 (.slice ad4 ((ageL wd mo ((at_ es (k:Int)).tm) xs out).1).length cp5) ((ageL wd mo ((at_ es (k:Int)).tm) xs out).1)::vc 108 (.slice ad6 ((ageL wd mo ((at_ es (k:Int)).tm) xs out).2).length cp7) ((ageL wd mo ((at_ es (k:Int)).tm) xs out).2)::blk b3 [I64 ((at_ es (k:Int)).kd),I64 ((at_ es (k:Int)).tm),I64 ((at_ es (k:Int)).u),I64 ((at_ es (k:Int)).v),I64 ((at_ es (k:Int)).w),I64 ((at_ es (k:Int)).lb),I64 ((at_ es (k:Int)).sg)] 108::blk b1 [I64 (kd),I64 (wd),I64 (mo)] 31::I)
      exact Bc (Dh ((ad4),(cp5),(ad6),(cp7),((ageL wd mo (at_ es (k:Int)).tm xs out).1),((ageL wd mo (at_ es (k:Int)).tm xs out).2)) (by dsimp only;exact ⟨(by unfold agedL;rw [if_pos c36]),hag.1,hag.2⟩))
     ·exact Aw (Dh ((a1),(c1),(o1),(d1),(xs),(out)) (by dsimp only;exact ⟨(by unfold agedL;rw [if_neg c36]),(hI.later hto (fun h=>absurd h c36)),rfl⟩))
    ·rintro ⟨a2,c2,o2,d2,ys,zs⟩ hp
     obtain ⟨hag,hI2,hs2⟩:((agedL kd wd mo (at_ es (k:Int)).tm (xs,out))=(ys,zs))∧(SlI nd kd wd (at_ es (k:Int)).tm ys)∧(ys.length+zs.length=xs.length+out.length):=hp
     show W Tryz.prog κ 64 _ _ ([(5,.pointer (some ⟨b1,0,none⟩)),(10,.pointer (some ⟨b2,0,none⟩)),(12,.pointer (some ⟨b3,0,none⟩)),(28,va),(29,I64 (((es.length:Nat):Int))),(30,I64 ((k:Int)))]:Env) (blk b2 [I64 (nd),.slice a2 ys.length c2,.slice o2 zs.length d2] 241::vc 146 (.slice a2 ys.length c2) (ys)::vc 108 (.slice o2 zs.length d2) (zs)::blk b3 [I64 ((at_ es (k:Int)).kd),I64 ((at_ es (k:Int)).tm),I64 ((at_ es (k:Int)).u),I64 ((at_ es (k:Int)).v),I64 ((at_ es (k:Int)).w),I64 ((at_ es (k:Int)).lb),I64 ((at_ es (k:Int)).sg)] 108::blk b1 [I64 (kd),I64 (wd),I64 (mo)] 31::I)
     refine Ai (Gm rfl (Gl7 ty108 ?_))
     refine Ge1 (B1 (α:=Ev) (cs:=[I64 ((at_ es (k:Int)).kd),I64 ((at_ es (k:Int)).tm),I64 ((at_ es (k:Int)).u),I64 ((at_ es (k:Int)).v),I64 ((at_ es (k:Int)).w),I64 ((at_ es (k:Int)).lb),I64 ((at_ es (k:Int)).sg)]) (xs:=[⟨(at_ es (k:Int)).kd,(at_ es (k:Int)).tm,(at_ es (k:Int)).u,(at_ es (k:Int)).v,(at_ es (k:Int)).w,(at_ es (k:Int)).lb,(at_ es (k:Int)).sg⟩]) A1 ty108 rfl rfl dc dc rfl kr rfl rfl) fun ad8=>?_
     refine G.e (Ap call212 rfl rfl (Cj (J:=blk b2 [I64 (nd),.slice a2 ys.length c2,.slice o2 zs.length d2] 241::vc 146 (.slice a2 ys.length c2) (ys)::vc 108 (.slice o2 zs.length d2) (zs)::vc 108 (.slice ad8 1 1) (([⟨(at_ es (k:Int)).kd,(at_ es (k:Int)).tm,(at_ es (k:Int)).u,(at_ es (k:Int)).v,(at_ es (k:Int)).w,(at_ es (k:Int)).lb,(at_ es (k:Int)).sg⟩]:List Ev))::blk b3 [I64 ((at_ es (k:Int)).kd),I64 ((at_ es (k:Int)).tm),I64 ((at_ es (k:Int)).u),I64 ((at_ es (k:Int)).v),I64 ((at_ es (k:Int)).w),I64 ((at_ es (k:Int)).lb),I64 ((at_ es (k:Int)).sg)] 108::blk b1 [I64 (kd),I64 (wd),I64 (mo)] 31::I) Bt (PutP_base (nd:=nd) (xs:=ys) (out:=zs) (es:=([⟨(at_ es (k:Int)).kd,(at_ es (k:Int)).tm,(at_ es (k:Int)).u,(at_ es (k:Int)).v,(at_ es (k:Int)).w,(at_ es (k:Int)).lb,(at_ es (k:Int)).sg⟩]:List Ev)) Bf hI2.val (fitone hfe) (by have h:=stepL_len ys (at_ es (k:Int));have h9:=gone_len kd wd mo (at_ es (k:Int)).tm (stepL ys (at_ es (k:Int)));first|(simp only [List.length_append,List.length_cons,List.length_nil];omega)|omega) (by have h:=stepL_len ys (at_ es (k:Int));have h9:=gone_len kd wd mo (at_ es (k:Int)).tm (stepL ys (at_ es (k:Int)));first|(simp only [List.length_append,List.length_cons,List.length_nil];omega)|omega)))) ?_
     rintro _ _ ⟨_,_,⟨⟨ad9,cp10,ad11,cp12⟩,rfl,rfl⟩,rfl,rfl⟩
     show G Tryz.prog κ _ _ _ _ ([(45,.tuple #[]),(44,.slice ad8 1 1),(43,.agg #[I64 ((at_ es (k:Int)).kd),I64 ((at_ es (k:Int)).tm),I64 ((at_ es (k:Int)).u),I64 ((at_ es (k:Int)).v),I64 ((at_ es (k:Int)).w),I64 ((at_ es (k:Int)).lb),I64 ((at_ es (k:Int)).sg)]),(42,.pointer (some ⟨b2,0,none⟩)),(5,.pointer (some ⟨b1,0,none⟩)),(10,.pointer (some ⟨b2,0,none⟩)),(12,.pointer (some ⟨b3,0,none⟩)),(28,va),(29,I64 (((es.length:Nat):Int))),(30,I64 ((k:Int)))]:Env) (blk b2 [I64 (nd),.slice ad9 (List.foldl stepL ys ([⟨(at_ es (k:Int)).kd,(at_ es (k:Int)).tm,(at_ es (k:Int)).u,(at_ es (k:Int)).v,(at_ es (k:Int)).w,(at_ es (k:Int)).lb,(at_ es (k:Int)).sg⟩]:List Ev)).length cp10,.slice ad11 (zs++([⟨(at_ es (k:Int)).kd,(at_ es (k:Int)).tm,(at_ es (k:Int)).u,(at_ es (k:Int)).v,(at_ es (k:Int)).w,(at_ es (k:Int)).lb,(at_ es (k:Int)).sg⟩]:List Ev)).length cp12] 241::vc 146 (.slice ad9 (List.foldl stepL ys ([⟨(at_ es (k:Int)).kd,(at_ es (k:Int)).tm,(at_ es (k:Int)).u,(at_ es (k:Int)).v,(at_ es (k:Int)).w,(at_ es (k:Int)).lb,(at_ es (k:Int)).sg⟩]:List Ev)).length cp10) (List.foldl stepL ys ([⟨(at_ es (k:Int)).kd,(at_ es (k:Int)).tm,(at_ es (k:Int)).u,(at_ es (k:Int)).v,(at_ es (k:Int)).w,(at_ es (k:Int)).lb,(at_ es (k:Int)).sg⟩]:List Ev))::vc 108 (.slice ad11 (zs++([⟨(at_ es (k:Int)).kd,(at_ es (k:Int)).tm,(at_ es (k:Int)).u,(at_ es (k:Int)).v,(at_ es (k:Int)).w,(at_ es (k:Int)).lb,(at_ es (k:Int)).sg⟩]:List Ev)).length cp12) (zs++([⟨(at_ es (k:Int)).kd,(at_ es (k:Int)).tm,(at_ es (k:Int)).u,(at_ es (k:Int)).v,(at_ es (k:Int)).w,(at_ es (k:Int)).lb,(at_ es (k:Int)).sg⟩]:List Ev))::vc 108 (.slice ad8 1 1) (([⟨(at_ es (k:Int)).kd,(at_ es (k:Int)).tm,(at_ es (k:Int)).u,(at_ es (k:Int)).v,(at_ es (k:Int)).w,(at_ es (k:Int)).lb,(at_ es (k:Int)).sg⟩]:List Ev))::blk b3 [I64 ((at_ es (k:Int)).kd),I64 ((at_ es (k:Int)).tm),I64 ((at_ es (k:Int)).u),I64 ((at_ es (k:Int)).v),I64 ((at_ es (k:Int)).w),I64 ((at_ es (k:Int)).lb),I64 ((at_ es (k:Int)).sg)] 108::blk b1 [I64 (kd),I64 (wd),I64 (mo)] 31::I)
     show G Tryz.prog κ _ _ _ _ ([(45,.tuple #[]),(44,.slice ad8 1 1),(43,.agg #[I64 ((at_ es (k:Int)).kd),I64 ((at_ es (k:Int)).tm),I64 ((at_ es (k:Int)).u),I64 ((at_ es (k:Int)).v),I64 ((at_ es (k:Int)).w),I64 ((at_ es (k:Int)).lb),I64 ((at_ es (k:Int)).sg)]),(42,.pointer (some ⟨b2,0,none⟩)),(5,.pointer (some ⟨b1,0,none⟩)),(10,.pointer (some ⟨b2,0,none⟩)),(12,.pointer (some ⟨b3,0,none⟩)),(28,va),(29,I64 (((es.length:Nat):Int))),(30,I64 ((k:Int)))]:Env) (blk b2 [I64 (nd),.slice ad9 (stepL ys (at_ es (k:Int))).length cp10,.slice ad11 (zs++[(at_ es (k:Int))]).length cp12] 241::vc 146 (.slice ad9 (stepL ys (at_ es (k:Int))).length cp10) (stepL ys (at_ es (k:Int)))::vc 108 (.slice ad11 (zs++[(at_ es (k:Int))]).length cp12) (zs++[(at_ es (k:Int))])::vc 108 (.slice ad8 1 1) (([⟨(at_ es (k:Int)).kd,(at_ es (k:Int)).tm,(at_ es (k:Int)).u,(at_ es (k:Int)).v,(at_ es (k:Int)).w,(at_ es (k:Int)).lb,(at_ es (k:Int)).sg⟩]:List Ev))::blk b3 [I64 ((at_ es (k:Int)).kd),I64 ((at_ es (k:Int)).tm),I64 ((at_ es (k:Int)).u),I64 ((at_ es (k:Int)).v),I64 ((at_ es (k:Int)).w),I64 ((at_ es (k:Int)).lb),I64 ((at_ es (k:Int)).sg)] 108::blk b1 [I64 (kd),I64 (wd),I64 (mo)] 31::I)
     refine Af (Ai (Gf fld31_0 rfl (Gl ty3 ?_)))
     refine Gr (Bi rfl rfl) ?_
     have hI3:SlI nd kd wd (at_ es (k:Int)).tm (stepL ys (at_ es (k:Int))):=hI2.step hfe rfl (checkW_one (Classical.not_not.1 c16))
     refine Af (A7 rfl (fun c48=>?_) (fun c48=>?_))
     ·refine Bk mixed (Bo (blk b3 [I64 ((at_ es (k:Int)).kd),I64 ((at_ es (k:Int)).tm),I64 ((at_ es (k:Int)).u),I64 ((at_ es (k:Int)).v),I64 ((at_ es (k:Int)).w),I64 ((at_ es (k:Int)).lb),I64 ((at_ es (k:Int)).sg)] 108::blk b1 [I64 (kd),I64 (wd),I64 (mo)] 31::I) 10 (Dr 0 rfl (Ad rfl) (Dr 1 rfl (Ad rfl) (Dr 2 rfl (Bh rfl) (Dr 3 rfl (Ab fld241_0 rfl) (Dr 5 rfl (Bq (vs:=[_,_,_]) ty31) ?_))))))
      refine Dr 6 rfl (Ab fld108_1 rfl) (Dr 7 rfl (As ty3) ?_)
      refine Ds1 4 (Sr rfl (Bq (vs:=[_,_]) ty111) A5 ?_)
      refine Ds1 8 (Sc2 rfl (Ap call213 rfl rfl (GoneP_ok (nd:=nd) Bf (by have h:=stepL_len ys (at_ es (k:Int));show (stepL ys (at_ es (k:Int))).length≤1000000;omega) (hI3.ask (Classical.not_not.1 c16) hfe.tm (Int.le_refl _)))) fun ad13 cp14=>?_)
      refine Ds1 9 (Se rfl (Ap call212 rfl rfl (Cj (J:=blk b2 [I64 (nd),.slice ad9 (stepL ys (at_ es (k:Int))).length cp10,.slice ad11 (zs++[(at_ es (k:Int))]).length cp12] 241::vc 146 (.slice ad9 (stepL ys (at_ es (k:Int))).length cp10) (stepL ys (at_ es (k:Int)))::vc 108 (.slice ad11 (zs++[(at_ es (k:Int))]).length cp12) (zs++[(at_ es (k:Int))])::vc 108 (.slice ad13 (goneL kd wd mo ((at_ es (k:Int)).tm) (stepL ys (at_ es (k:Int)))).length cp14) (goneL kd wd mo ((at_ es (k:Int)).tm) (stepL ys (at_ es (k:Int))))::vc 108 (.slice ad8 1 1) (([⟨(at_ es (k:Int)).kd,(at_ es (k:Int)).tm,(at_ es (k:Int)).u,(at_ es (k:Int)).v,(at_ es (k:Int)).w,(at_ es (k:Int)).lb,(at_ es (k:Int)).sg⟩]:List Ev))::blk b3 [I64 ((at_ es (k:Int)).kd),I64 ((at_ es (k:Int)).tm),I64 ((at_ es (k:Int)).u),I64 ((at_ es (k:Int)).v),I64 ((at_ es (k:Int)).w),I64 ((at_ es (k:Int)).lb),I64 ((at_ es (k:Int)).sg)] 108::blk b1 [I64 (kd),I64 (wd),I64 (mo)] 31::I) Bt (PutP_base (nd:=nd) (xs:=stepL ys (at_ es (k:Int))) (out:=zs++[(at_ es (k:Int))]) (es:=goneL kd wd mo ((at_ es (k:Int)).tm) (stepL ys (at_ es (k:Int)))) Bf hI3.val (fitgone hI3.val hfe.tm) (by have h:=stepL_len ys (at_ es (k:Int));have h9:=gone_len kd wd mo (at_ es (k:Int)).tm (stepL ys (at_ es (k:Int)));first|(simp only [List.length_append,List.length_cons,List.length_nil];omega)|omega) (by have h:=stepL_len ys (at_ es (k:Int));have h9:=gone_len kd wd mo (at_ es (k:Int)).tm (stepL ys (at_ es (k:Int)));first|(simp only [List.length_append,List.length_cons,List.length_nil];omega)|omega)))) ?_)
      rintro _ _ ⟨_,_,⟨⟨ad15,cp16,ad17,cp18⟩,rfl,rfl⟩,rfl,rfl⟩
      refine ⟨A5,?_⟩
      show D Tryz.prog κ _ _ _ _ _ _ _ ([(58,.tuple #[]),(57,.slice ad13 (goneL kd wd mo ((at_ es (k:Int)).tm) (stepL ys (at_ es (k:Int)))).length cp14),(53,.agg #[I64 (nd),.slice ad9 (stepL ys (at_ es (k:Int))).length cp10]),(56,I64 ((at_ es (k:Int)).tm)),(55,.pointer (some ⟨b3,1,none⟩)),(54,.agg #[I64 (kd),I64 (wd),I64 (mo)]),(52,.pointer (some ⟨b2,0,none⟩)),(51,.pointer (some ⟨b2,0,none⟩)),(50,.pointer (some ⟨b2,0,none⟩)),(49,.pointer (some ⟨b2,0,none⟩)),(48,.bool (decide (kd=3))),(47,I64 (kd)),(46,.pointer (some ⟨b1,0,none⟩)),(45,.tuple #[]),(44,.slice ad8 1 1),(43,.agg #[I64 ((at_ es (k:Int)).kd),I64 ((at_ es (k:Int)).tm),I64 ((at_ es (k:Int)).u),I64 ((at_ es (k:Int)).v),I64 ((at_ es (k:Int)).w),I64 ((at_ es (k:Int)).lb),I64 ((at_ es (k:Int)).sg)]),(42,.pointer (some ⟨b2,0,none⟩)),(5,.pointer (some ⟨b1,0,none⟩)),(10,.pointer (some ⟨b2,0,none⟩)),(12,.pointer (some ⟨b3,0,none⟩)),(28,va),(29,I64 (((es.length:Nat):Int))),(30,I64 ((k:Int)))]:Env) (blk b2 [I64 (nd),.slice ad15 (List.foldl stepL (stepL ys (at_ es (k:Int))) (goneL kd wd mo ((at_ es (k:Int)).tm) (stepL ys (at_ es (k:Int))))).length cp16,.slice ad17 ((zs++[(at_ es (k:Int))])++(goneL kd wd mo ((at_ es (k:Int)).tm) (stepL ys (at_ es (k:Int))))).length cp18] 241::vc 146 (.slice ad15 (List.foldl stepL (stepL ys (at_ es (k:Int))) (goneL kd wd mo ((at_ es (k:Int)).tm) (stepL ys (at_ es (k:Int))))).length cp16) (List.foldl stepL (stepL ys (at_ es (k:Int))) (goneL kd wd mo ((at_ es (k:Int)).tm) (stepL ys (at_ es (k:Int)))))::vc 108 (.slice ad17 ((zs++[(at_ es (k:Int))])++(goneL kd wd mo ((at_ es (k:Int)).tm) (stepL ys (at_ es (k:Int))))).length cp18) ((zs++[(at_ es (k:Int))])++(goneL kd wd mo ((at_ es (k:Int)).tm) (stepL ys (at_ es (k:Int)))))::vc 108 (.slice ad13 (goneL kd wd mo ((at_ es (k:Int)).tm) (stepL ys (at_ es (k:Int)))).length cp14) (goneL kd wd mo ((at_ es (k:Int)).tm) (stepL ys (at_ es (k:Int))))::vc 108 (.slice ad8 1 1) (([⟨(at_ es (k:Int)).kd,(at_ es (k:Int)).tm,(at_ es (k:Int)).u,(at_ es (k:Int)).v,(at_ es (k:Int)).w,(at_ es (k:Int)).lb,(at_ es (k:Int)).sg⟩]:List Ev))::blk b3 [I64 ((at_ es (k:Int)).kd),I64 ((at_ es (k:Int)).tm),I64 ((at_ es (k:Int)).u),I64 ((at_ es (k:Int)).v),I64 ((at_ es (k:Int)).w),I64 ((at_ es (k:Int)).lb),I64 ((at_ es (k:Int)).sg)] 108::blk b1 [I64 (kd),I64 (wd),I64 (mo)] 31::I)
      refine Dz (Ak (Aj (Ar (S5 5 10 28 29 30 rfl rfl rfl rfl rfl) (Az (Gr (Rad rfl rfl) (Gm rfl (Bc ?_)))))))
      have hgs:=gone_steps (kd:=kd) (wd:=wd) (mo:=mo) (nw:=(at_ es (k:Int)).tm) hI3.val
      have hgl:=gone_len kd wd mo (at_ es (k:Int)).tm (stepL ys (at_ es (k:Int)))
      have hsl:=stepL_len ys (at_ es (k:Int))
      exact B3 ((k+1),(ad15),(cp16),(ad17),(cp18),(List.filter (inW kd wd mo (at_ es (k:Int)).tm (stepL ys (at_ es (k:Int)))) (stepL ys (at_ es (k:Int)))),(zs++[(at_ es (k:Int))]++goneL kd wd mo (at_ es (k:Int)).tm (stepL ys (at_ es (k:Int))))) (by dsimp only;exact ⟨om,(by rw [slideS_succ om,hst];exact evStep_three hag c48),(by rw [lastT_succ];exact hI3.filter _),lap⟩) (hI:=by (try dsimp only);exact (by rw [←hgs];exact A5))
     ·refine Aw (Ak (Aj (Az (Gr (Rad rfl rfl) (Gm rfl (Bc ?_))))))
      have hsl:=stepL_len ys (at_ es (k:Int))
      exact B3 ((k+1),(ad9),(cp10),(ad11),(cp12),((stepL ys (at_ es (k:Int)))),(zs++[(at_ es (k:Int))])) (by dsimp only;exact ⟨om,(by rw [slideS_succ om,hst];exact evStep_not hag c48),(by rw [lastT_succ];exact hI3),lap⟩)
   ·refine Bs (Am (Am (A6 (Aj (Ai (Gm rfl (Gr (Bh rfl) (Gf fld241_1 rfl (Gl ty28 ?_)))))))))
    refine Ga rfl (Ga rfl (Af (Ax ?_)))
    have hE2:(slideS kd wd mo es)=(xs,out):=by rw [←hst,show List.take k es=es from List.take_of_length_le om]
    have hz:(slideE nd kd wd mo es)=0:=(slideE_st c16).trans (Classical.not_not.1 c22)
    exact Cl rfl rfl rfl (vc 108 (.slice o1 (slideS kd wd mo es).2.length d1) (slideS kd wd mo es).2::I) (by rw [hE2];exact A5) (.inr ⟨o1,d1,hz,by rw [hE2],rfl⟩)
end Go.Sl
namespace Go.Proofs
def Tryz.sortI_ren:Go.Shelf.Ren:=⟨fun |5=>142|8=>218|7=>217|19=>269|20=>270|10=>260|11=>261|12=>262|13=>263|14=>264|15=>265|16=>266|17=>267|18=>268|30=>304|31=>305|32=>306|33=>307|34=>308|35=>277|40=>326|n=>n,fun |23=>22|25=>3|3=>3|32=>181|22=>22|0=>0|44=>291|46=>175|4=>4|36=>285|35=>284|41=>273|5=>5|9=>9|53=>320|57=>324|63=>346|64=>259|n=>n,fun |n=>n⟩
theorem Tryz.sortI:Go.Proofs.SlLaysM.n5 Tryz.prog Tryz.sortI_ren:={
 mixed:=by kernel_rfl,
 f5:=⟨Tryz.f142.name,by decide,Tryz.func142.trans (congrArg some (by kernel_rfl))⟩,
 f7:=⟨Tryz.f217.name,by decide,Tryz.func217.trans (congrArg some (by kernel_rfl))⟩,
 f8:=Tryz.func218.trans (congrArg some (by kernel_rfl)),
 f10:=⟨Tryz.f260.name,by decide,Tryz.func260.trans (congrArg some (by kernel_rfl))⟩,
 f11:=⟨Tryz.f261.name,by decide,Tryz.func261.trans (congrArg some (by kernel_rfl))⟩,
 f12:=⟨Tryz.f262.name,by decide,Tryz.func262.trans (congrArg some (by kernel_rfl))⟩,
 f13:=⟨Tryz.f263.name,by decide,Tryz.func263.trans (congrArg some (by kernel_rfl))⟩,
 f14:=⟨Tryz.f264.name,by decide,Tryz.func264.trans (congrArg some (by kernel_rfl))⟩,
 f15:=⟨Tryz.f265.name,by decide,Tryz.func265.trans (congrArg some (by kernel_rfl))⟩,
 f16:=⟨Tryz.f266.name,by decide,Tryz.func266.trans (congrArg some (by kernel_rfl))⟩,
 f17:=⟨Tryz.f267.name,by decide,Tryz.func267.trans (congrArg some (by kernel_rfl))⟩,
 f18:=⟨Tryz.f268.name,by decide,Tryz.func268.trans (congrArg some (by kernel_rfl))⟩,
 f19:=Tryz.func269.trans (congrArg some (by kernel_rfl)),
 f20:=Tryz.func270.trans (congrArg some (by kernel_rfl)),
 f30:=⟨Tryz.f304.name,by decide,Tryz.func304.trans (congrArg some (by kernel_rfl))⟩,
 f31:=Tryz.func305.trans (congrArg some (by kernel_rfl)),
 f32:=Tryz.func306.trans (congrArg some (by kernel_rfl)),
 f33:=⟨Tryz.f307.name,by decide,Tryz.func307.trans (congrArg some (by kernel_rfl))⟩,
 f34:=⟨Tryz.f308.name,by decide,Tryz.func308.trans (congrArg some (by kernel_rfl))⟩,
 f35:=⟨Tryz.f277.name,by decide,Tryz.func277.trans (congrArg some (by kernel_rfl))⟩,
 f40:=⟨Tryz.f326.name,by decide,Tryz.func326.trans (congrArg some (by kernel_rfl))⟩,
 t0:=Tryz.underlying0,
 a0:=Tryz.isAgg0,
 z0:=Tryz.sizeOf0,
 v0:=Tryz.zeroValue0,
 t3:=Tryz.underlying3,
 a3:=Tryz.isAgg3,
 z3:=Tryz.sizeOf3,
 v3:=Tryz.zeroValue3,
 t4:=Tryz.underlying4,
 a4:=Tryz.isAgg4,
 z4:=Tryz.sizeOf4,
 v4:=Tryz.zeroValue4,
 t5:=Tryz.underlying5,
 a5:=Tryz.isAgg5,
 z5:=Tryz.sizeOf5,
 v5:=Tryz.zeroValue5,
 t9:=Tryz.underlying9,
 a9:=Tryz.isAgg9,
 z9:=Tryz.sizeOf9,
 v9:=Tryz.zeroValue9,
 t22:=Tryz.underlying22,
 a22:=Tryz.isAgg22,
 z22:=Tryz.sizeOf22,
 v22:=Tryz.zeroValue22,
 t23:=Tryz.underlying22,
 a23:=Tryz.isAgg22,
 z23:=Tryz.sizeOf22,
 v23:=Tryz.zeroValue22,
 t25:=Tryz.underlying3,
 a25:=Tryz.isAgg3,
 z25:=Tryz.sizeOf3,
 v25:=Tryz.zeroValue3,
 t32:=Tryz.underlying181,
 a32:=Tryz.isAgg181,
 z32:=Tryz.sizeOf181,
 v32:=Tryz.zeroValue181,
 t35:=Tryz.underlying284,
 a35:=Tryz.isAgg284,
 z35:=Tryz.sizeOf284,
 v35:=Tryz.zeroValue284,
 t36:=Tryz.underlying285,
 a36:=Tryz.isAgg285,
 z36:=Tryz.sizeOf285,
 v36:=Tryz.zeroValue285,
 t41:=Tryz.underlying273,
 a41:=Tryz.isAgg273,
 z41:=Tryz.sizeOf273,
 v41:=Tryz.zeroValue273,
 t44:=Tryz.underlying291,
 a44:=Tryz.isAgg291,
 z44:=Tryz.sizeOf291,
 v44:=Tryz.zeroValue291,
 t46:=Tryz.underlying175,
 a46:=Tryz.isAgg175,
 z46:=Tryz.sizeOf175,
 v46:=Tryz.zeroValue175,
 t53:=Tryz.underlying320,
 a53:=Tryz.isAgg320,
 z53:=Tryz.sizeOf320,
 v53:=Tryz.zeroValue320,
 t57:=Tryz.underlying324,
 a57:=Tryz.isAgg324,
 z57:=Tryz.sizeOf324,
 v57:=Tryz.zeroValue324,
 t63:=Tryz.underlying346,
 a63:=Tryz.isAgg346,
 z63:=Tryz.sizeOf346,
 v63:=Tryz.zeroValue346,
 t64:=Tryz.underlying259,
 a64:=Tryz.isAgg259,
 z64:=Tryz.sizeOf259,
 v64:=Tryz.zeroValue259}
end Go.Proofs
namespace Go.Sl
open Go.Proofs Go.Shelf Go.RowKit Go.Lib Go.Sort
def sortZ(xs:List Int):List Int:=xs.mergeSort fun x y=>decide (x≤y)
theorem sortZ_perm(xs:List Int):(sortZ xs).Perm xs:=List.mergeSort_perm _ _
theorem sortZ_len(xs:List Int):(sortZ xs).length=xs.length:=(sortZ_perm xs).length_eq
theorem mem_sortZ{xs:List Int}{x:Int}:x∈sortZ xs↔x∈xs:=(sortZ_perm xs).mem_iff
theorem sortZ_asc(xs:List Int):(sortZ xs).Pairwise (· ≤ ·):=by
 have h:=List.pairwise_mergeSort (le:=fun x y:Int=>decide (x≤y)) (fun a b c h1 h2=>by simp at *; omega) (fun a b=>by simp;omega) xs
 exact h.imp fun h=>by simpa using h
theorem sortI_base{P:Program}{ρ:Ren}{κ:Ctx}{I:List Item}(L:SlLaysM.n5 P ρ){e:TypeId}{ad:Option Addr}{c:Nat}{xs:List Int}(hc:0<c)(hsz:xs.length<4611686018427387904) :
  CallS P κ (ρ.f 5) [.slice ad xs.length c] (vc e (.slice ad xs.length c) xs::I) fun r J=>r = .tuple #[]∧J=vc e (.slice ad (sortZ xs).length c) (sortZ xs)::I:=by
 intro w hs
 obtain ⟨hok,_⟩:=hs.ok _ List.mem_cons_self
 obtain ⟨a',cap',hv,hl,hnc,hcm,hcap⟩:=hok
 cases hv
 obtain ⟨b,off,cur,rfl,hb,hsize,hcur⟩:=hcap hc
 have hbw:b<w.heap.size:=(Array.getElem?_eq_some_iff.1 hb).1
 have hlen:=sortZ_len xs
 have hcx:∀ys:List Int,cells ys=ys.map fun x=>I64 x:=fun ys=>by
  induction ys with
  |nil=>rfl
  |cons y ys ih=>show I64 y::cells ys=_;rw [ih];rfl
 have hcl:∀ys:List Int,(cells ys).length=ys.length:=fun ys=>by rw [hcx,List.length_map]
 have hH:Holds (Value.int .i64) w b off xs.toArray:=fun j hj=>by
  have hj':j<xs.length:=by simpa using hj
  have h1:=hcur j (I64 xs[j]) (by rw [hcx,List.getElem?_map,List.getElem?_eq_getElem hj'];rfl)
  refine ⟨?_,by simp [World.frozen?,hb]⟩
  rw [cell_of_row w b (off+j) cur e (0,0) hb,h1]
  simp [getElem!_pos,hj']
 have h:=AnyM.slices_Sort_int L b off c xs w hH hbw hsz
 refine Calls.mono h ?_
 rintro e' w' ⟨rfl,n,os,rfl⟩
 refine ⟨_,_,rfl,⟨rfl,rfl⟩,?_⟩
 have hz:(xs.mergeSort fun x y=>decide (x≤y))=sortZ xs:=rfl
 rw [hz]
 refine hs.upd (At.head _ _ _) rfl ⟨rfl,by simp [putRow,mapBlock,Sort.grow,Sort.ahead]⟩ rfl (by simp [putRow,mapBlock,Sort.grow,Sort.ahead]) (fun k hk hne=>?_) ?_ fun k hk=> .inl ?_
 ·have hkb:k≠b:=fun ekb=>hne (by subst ekb;exact ⟨off,xs.length,c,rfl,hc⟩)
  simp only [Sort.grow,putRow,mapBlock,Sort.ahead]
  rw [Array.getElem?_append_left (by simpa using hk),Array.getElem?_modify,if_neg (fun e=>hkb e.symm)]
 ·refine ⟨_,c,rfl,(hcl _).trans (Nat.mul_one _).symm,by rw [hlen];exact hnc,hcm,fun _=>⟨b,off,putCells (Value.int .i64) off (sortZ xs).toArray cur,rfl,?_,?_,fun j u hj=>?_⟩⟩
  ·simp only [Sort.grow,putRow,mapBlock,Sort.ahead]
   rw [Array.getElem?_append_left (by simpa using hbw),Array.getElem?_modify,if_pos rfl]
   show (w.heap[b]?).map _=_
   rw [hb];rfl
  ·simpa [putCells] using hsize
  ·have hj':j<(sortZ xs).length:=by rw [←hcl];exact (List.getElem?_eq_some_iff.1 hj).1
   have hoff:off+j<cur.size:=by
    have:=hsize;rw [hlen] at hj'
    have:c*Enc.sz Int=c:=Nat.mul_one c
    omega
   simp only [putCells,Array.getElem?_mapIdx,Array.getElem?_eq_getElem hoff,Option.map_some]
   rw [if_pos ⟨by omega,by simpa using hj'⟩,Nat.add_sub_cancel_left]
   rw [hcx,List.getElem?_map,List.getElem?_eq_getElem hj'] at hj
   simpa [getElem!_pos,hj'] using hj
 ·obtain ⟨o',n',c',hv',hc'⟩:=hk
  cases hv'
  exact ⟨off,xs.length,c,rfl,hc⟩
theorem sortI_any{P:Program}{ρ:Ren}{κ:Ctx}{I:List Item}(L:SlLaysM.n5 P ρ){e:TypeId}{ad:Option Addr}{c:Nat}{xs:List Int}(hsz:xs.length<4611686018427387904) :
  CallS P κ (ρ.f 5) [.slice ad xs.length c] (vc e (.slice ad xs.length c) xs::I) fun r J=>r = .tuple #[]∧J=vc e (.slice ad (sortZ xs).length c) (sortZ xs)::I:=by
 by_cases hc:0<c
 ·exact sortI_base L hc hsz
 ·intro w hs
  obtain ⟨hok,_⟩:=hs.ok _ List.mem_cons_self
  obtain ⟨a',cap',hv,hl,hnc,hcm,hcap⟩:=hok
  cases hv
  obtain rfl:xs=[]:=List.eq_nil_of_length_eq_zero (by omega)
  refine Calls.mono (AnyM.slices_Sort_int_none L ad c w) ?_
  rintro e' w' ⟨rfl,rfl⟩
  have hz:sortZ []=[]:=List.eq_nil_of_length_eq_zero (sortZ_len [])
  refine ⟨_,_,rfl,⟨rfl,rfl⟩,?_⟩
  rw [hz];exact hs
end Go.Sl
namespace Go.Sl
section
variable {α:Type}[Inhabited α][DecidableEq α]
def compG(xs:List α):Nat→List α
 |0=>[]
 |k+1=>if 0<k∧at_ xs (k:Int)=at_ xs ((k:Int) - 1) then compG xs k else compG xs k++[at_ xs (k:Int)]
theorem compG_len(xs:List α):∀k,(compG xs k).length≤k
 |0=>by simp [compG]
 |k+1=>by
  have:=compG_len xs k
  simp only [compG]
  split
  ·omega
  ·rw [List.length_append];simp;omega
theorem compG_take{xs:List α}{k:Nat}(h:∀j,j<k→0<j→at_ xs (j:Int)≠at_ xs ((j:Int) - 1))(hk:k≤xs.length):compG xs k=xs.take k:=by
 induction k with
 |zero=>rfl
 |succ k ih=>
  simp only [compG]
  rw [if_neg fun e=>h k (by omega) e.1 e.2,ih (fun j hj h0=>h j (by omega) h0) (by omega),take_at xs k (by omega)]
theorem compG_keep{xs ys:List α}{m q:Nat}(h:ys.take m=compG xs q)(h0:0<q)(he:¬at_ ys (q:Int)≠at_ ys ((q:Int) - 1))(h1:at_ ys (q:Int)=at_ xs (q:Int))(h2:at_ ys ((q:Int) - 1)=at_ xs ((q:Int) - 1)):ys.take m=compG xs (q+1):=by
 rw [h1,h2] at he
 simp only [compG]
 rw [if_pos ⟨h0,Classical.not_not.1 he⟩,h]
theorem compG_put{xs ys:List α}{m q:Nat}(h:ys.take m=compG xs q)(hm:m<ys.length)(he:at_ ys (q:Int)≠at_ ys ((q:Int) - 1))(h1:at_ ys (q:Int)=at_ xs (q:Int))(h2:at_ ys ((q:Int) - 1)=at_ xs ((q:Int) - 1)):(ys.set m (at_ ys (q:Int))).take (m+1)=compG xs (q+1):=by
 rw [h1,h2] at he
 simp only [compG]
 rw [if_neg fun e=>he e.2,←h,h1,List.take_add_one,List.take_set_of_le (Nat.le_refl _)]
 simp [hm]
theorem at_dropG(xs:List α)(l:Nat)(i:Int)(h0:0≤i):at_ (xs.drop l) i=at_ xs ((l:Int)+i):=by
 unfold at_
 rw [List.getD_eq_getElem?_getD,List.getD_eq_getElem?_getD,List.getElem?_drop]
 congr 2;omega
end
theorem compZ_spec{xs:List Int}(h:xs.Pairwise (· ≤ ·)):∀k,k≤xs.length→(compG xs k).Pairwise (· < ·)∧(∀x,x∈compG xs k↔x∈xs.take k)
 |0,_=>by simp [compG]
 |k+1,hk=>by
  obtain ⟨h1,h2⟩:=compZ_spec h k (by omega)
  have hle:∀i j:Nat,i<j→j<xs.length→at_ xs (i:Int)≤at_ xs (j:Int):=fun i j hij hj=>by
   rw [at_get xs i (by omega),at_get xs j hj]
   exact (List.pairwise_iff_getElem.1 h) i j (by omega) hj hij
  rw [take_at xs k (by omega)]
  simp only [compG]
  have mem:∀a,a∈xs.take k→∃j:Nat,j<k∧a=at_ xs (j:Int):=fun a ha=>by
   obtain ⟨j,hj,rfl⟩:=List.getElem_of_mem ha
   rw [List.length_take] at hj
   exact ⟨j,by omega,by rw [List.getElem_take,at_get xs j (by omega)]⟩
  split
  ·rename_i hc
   refine ⟨h1,fun x=>?_⟩
   rw [h2,List.mem_append,List.mem_singleton]
   refine ⟨.inl,fun e=>e.elim id fun e=>?_⟩
   subst e
   rw [hc.2,show (k:Int) - 1=((k - 1:Nat):Int) by omega,at_get xs (k - 1) (by omega)]
   exact List.mem_take_iff_getElem.2 ⟨k - 1,by omega,rfl⟩
  ·rename_i hc
   refine ⟨List.pairwise_append.2 ⟨h1,List.pairwise_singleton _ _,fun a ha b hb=>?_⟩,fun x=>by rw [List.mem_append,List.mem_append,h2]⟩
   rw [List.mem_singleton.1 hb]
   obtain ⟨j,hj,rfl⟩:=mem a ((h2 a).1 ha)
   have h3:=hle (k - 1) k (by omega) (by omega)
   have h4:at_ xs (j:Int)≤at_ xs ((k - 1:Nat):Int):=by
    by_cases e:j=k - 1
    ·rw [e];exact Int.le_refl _
    ·exact hle j (k - 1) (by omega) (by omega)
   have h5:at_ xs (k:Int)≠at_ xs ((k:Int) - 1):=fun e=>hc ⟨by omega,e⟩
   rw [show (k:Int) - 1=((k - 1:Nat):Int) by omega] at h5
   omega
theorem compZ_asc{xs:List Int}(h:xs.Pairwise (· ≤ ·)):(compG xs xs.length).Pairwise (· < ·):=(compZ_spec h _ (Nat.le_refl _)).1
theorem mem_compZ{xs:List Int}(h:xs.Pairwise (· ≤ ·)){x:Int}:x∈compG xs xs.length↔x∈xs:=by
 have:=(compZ_spec h _ (Nat.le_refl _)).2 x
 rwa [List.take_length] at this
end Go.Sl
namespace Go.Sl
open Go.Proofs
set_option maxRecDepth 4000
theorem Few_ok{κ:Ctx}{I:List Item}{la:Option Addr}{ln lc:Nat} :
    CallS Tryz.prog κ 16 [.slice la ln lc] I (fun r J=>r = .bool (decide ((ln:Int)≤500))∧I=J):=by
 refine Ce1 Tryz.func16 rfl rfl ?_
 exact Ai (Ga rfl (Af (Ai (Gm rfl (Gr (Bp Ac rfl) (Gr (Dt rfl rfl) (Ga rfl (Af (Ax (Ay rfl rfl (I) A0 ⟨rfl,rfl⟩))))))))))
variable {κ:Ctx}{I:List Item}
theorem sortI_ok{e:TypeId}{ad:Option Addr}{c:Nat}{xs:List Int}(hsz:xs.length<4611686018427387904) :
  CallS Tryz.prog κ 142 [.slice ad xs.length c] (vc e (.slice ad xs.length c) xs::I) fun r J=>r = .tuple #[]∧J=vc e (.slice ad xs.length c) (sortZ xs)::I:=
 (sortI_any (κ:=κ) (I:=I) Tryz.sortI (e:=e) (ad:=ad) (c:=c) hsz).mono fun r J ⟨h1,h2⟩=>⟨h1,by rw [h2,sortZ_len]⟩
theorem CompactI_ok{a:Option Addr}{c:Nat}{xs:List Int}(hsz:xs.length<1000000000000) :
    CallS Tryz.prog κ 143 [.slice a xs.length c] (vc 3 (.slice a xs.length c) (xs)::I) (fun r J=>r = .slice a (compG xs xs.length).length c∧J=vc 3 (.slice a (compG xs xs.length).length c) (compG xs xs.length)::I):=by
 refine B4 (vc.cap List.mem_cons_self) fun hcap=>?_
 refine Ce1 Tryz.func143 rfl rfl ?_
 refine Ai (Ga rfl (Af (Au (Ai (Gm rfl (Gr (Bp Ac rfl) (Gr (A9 rfl rfl) (Af (A7 rfl (fun c8=>?_) (fun c8=>?_))))))))))
 ·refine Ai (Gm rfl (Ga rfl (Af (Ax (Ah ?_)))))
  have hc:compG xs xs.length=xs:=(compG_take (fun j h1 h2=>by omega) (Nat.le_refl _)).trans (List.take_length)
  exact Ay rfl rfl (vc 3 (.slice a (compG xs xs.length).length c) (compG xs xs.length)::I) (by rw [hc];exact A5) ⟨by rw [hc],rfl⟩
 ·refine Aw (Aj (Au (Ai (Ga rfl (Af (A4 (Bv (σ:=Nat) (fun s=>([(0,.slice a xs.length c),(3,I64 (((s:Nat):Int)))]:Env)) (fun s=>vc 3 (.slice a xs.length c) (xs)::I) (fun s=>(1≤s∧s≤xs.length)∧(∀j,j<s→0<j→at_ xs (j:Int)≠at_ xs ((j:Int) - 1))) (fun s=>xs.length - s) (1) (show (1≤(1:Nat)∧(1:Nat)≤xs.length)∧(∀j,j<(1:Nat)→0<j→at_ xs (j:Int)≠at_ xs ((j:Int) - 1)) from ⟨om,(fun j h1 h2=>by omega)⟩) (Aa rfl (Aa B8 Bg)) (show Fit κ _ (vc 3 (.slice a xs.length c) (xs)::I) from A5) ?_)))))))
  rintro k hp
  obtain ⟨hk,hne⟩:=hp
  refine Au (Ai (Gm rfl (Gm rfl (Gr (Bp Ac rfl) (Gr (A9 rfl rfl) (Af (A7 rfl (fun c13=>?_) (fun c13=>?_))))))))
  ·refine Aw (Aj (Au (A4 (Au (Bk mixed (Bo (vc 3 (.slice a xs.length c) (xs)::I) 10 (Dr 0 rfl (Ad rfl) (Dr 1 rfl (Ad rfl) (Dr 2 rfl (A3 (α:=Int) (xs:=xs) Ac ty3 rfl rfl Bf om (by first|omega|(simp only [List.length_drop];omega))) (Dr 3 rfl (Br (xs:=xs) ty3 rfl Bf om (by first|omega|(simp only [List.length_drop];omega))) (Dr 4 rfl (Ad rfl) (Dr 5 rfl (Ad rfl) (Dr 6 rfl (Rsu rfl rfl) (Dr 7 rfl (A3 (α:=Int) (xs:=xs) Ac ty3 rfl rfl Bf om (by first|omega|(simp only [List.length_drop];omega))) (Dr 8 rfl (Br (xs:=xs) ty3 rfl Bf om (by first|omega|(simp only [List.length_drop];omega))) (Dr 9 rfl (Bi rfl rfl) (Dz (Aj (Ar (S3 25 0 3 rfl rfl rfl) (A7 rfl (fun c25=>?_) (fun c25=>?_)))))))))))))))))))))
   ·refine Ai (Gm rfl (Gm rfl (Gr (Ec (α:=Int) (xs:=xs) (l:=k) Ac ty3 rfl rfl om Bf om) (Ga rfl (Af (Au (Ai (Ga rfl (Af (A4 (Bv (σ:=Nat×Nat×(List Int)) (fun s=>([(0,.slice a xs.length c),(3,I64 (((s.1:Nat):Int))),(4,.slice (adrop a c k (Enc.sz Int)) (List.drop k xs).length (c - k)),(5,I64 (((s.2.1:Nat):Int)))]:Env)) (fun s=>vc 3 (.slice a xs.length c) (s.2.2)::I) (fun s=>(1≤s.2.1∧k+s.2.1≤xs.length)∧(s.2.2.length=xs.length)∧(1≤s.1∧s.1<k+s.2.1)∧(s.2.2.take s.1=compG xs (k+s.2.1))∧(∀j,k+s.2.1≤j+1→at_ s.2.2 (j:Int)=at_ xs (j:Int))) (fun s=>xs.length - (k+s.2.1)) (k,1,xs) (show (1≤(1:Nat)∧k+(1:Nat)≤xs.length)∧((xs:List Int).length=xs.length)∧(1≤(k:Nat)∧(k:Nat)<k+(1:Nat))∧((xs:List Int).take (k:Nat)=compG xs (k+(1:Nat)))∧(∀j,k+(1:Nat)≤j+1→at_ (xs:List Int) (j:Int)=at_ xs (j:Int)) from ⟨om,om,om,(by rw [←compG_take hne om];simp only [compG];rw [if_pos ⟨by omega,c25⟩]),(fun _ _=>rfl)⟩) (Aa rfl (Aa B8 (Aa rfl (Aa B8 Bg)))) (show Fit κ _ (vc 3 (.slice a xs.length c) ((xs))::I) from A5) ?_)))))))))))
    rintro ⟨m,q,ys⟩ hp
    dsimp only at hp ⊢
    obtain ⟨hq,hyl,hm,htk,hsame⟩:=hp
    have hdl:(List.drop k xs).length=xs.length - k:=List.length_drop
    have hq1:=hsame (k+q) om
    have hq2:=hsame (k+q - 1) om
    rw [show ((k+q - 1:Nat):Int)=((k+q:Nat):Int) - 1 by omega] at hq2
    refine Au (Ai (Gm rfl (Gm rfl (Gr (Bp Ac rfl) (Gr (A9 rfl rfl) (Af (A7 rfl (fun c32=>?_) (fun c32=>?_))))))))
    ·refine Aw (Aj (Au (A4 (Au (Bk mixed (Bo (vc 3 (.slice a xs.length c) (ys)::I) 10 (Dr 0 rfl (Ad rfl) (Dr 1 rfl (Ad rfl) (Dr 2 rfl (A3 (α:=Int) (xs:=List.drop k ys) Ac ty3 rfl rfl (E0 Bf om (by rw [List.length_drop];omega)) om (by first|omega|(simp only [List.length_drop];omega))) (Dr 3 rfl (Br (xs:=List.drop k ys) ty3 rfl (E0 Bf om (by rw [List.length_drop];omega)) om (by first|omega|(simp only [List.length_drop];omega))) (Dr 4 rfl (Ad rfl) (Dr 5 rfl (Ad rfl) (Dr 6 rfl (Rsu rfl rfl) (Dr 7 rfl (A3 (α:=Int) (xs:=List.drop k ys) Ac ty3 rfl rfl (E0 Bf om (by rw [List.length_drop];omega)) om (by first|omega|(simp only [List.length_drop];omega))) (Dr 8 rfl (Br (xs:=List.drop k ys) ty3 rfl (E0 Bf om (by rw [List.length_drop];omega)) om (by first|omega|(simp only [List.length_drop];omega))) (Dr 9 rfl (Be rfl rfl) (Dz (Aj (Ar (S5 44 0 3 4 5 rfl rfl rfl rfl rfl) (A7 rfl (fun c44=>?_) (fun c44=>?_)))))))))))))))))))))
     ·refine Ai (Gm rfl (Gm rfl (Gm rfl (Gm rfl (Gr (A3 (α:=Int) (xs:=List.drop k ys) Ac ty3 rfl rfl (E0 Bf om (by rw [List.length_drop];omega)) om (by first|omega|(simp only [List.length_drop];omega))) (Gr (Br (xs:=List.drop k ys) ty3 rfl (E0 Bf om (by rw [List.length_drop];omega)) om (by first|omega|(simp only [List.length_drop];omega))) (Gr (A3 (α:=Int) (xs:=ys) Ac ty3 rfl rfl Bf om (by first|omega|(simp only [List.length_drop];omega))) (Ge0 (C6 (α:=Int) (xs:=ys) (e:=3) (new:=at_ (List.drop k ys) (q:Int)) ty3 rfl rfl rfl om (by first|omega|(simp only [List.length_drop];omega)) am) ?_))))))))
      refine Af (Az (Gm rfl (Gr (Rad rfl rfl) (Ga rfl (Bc (Ak (Aj (Ar (S4 3 0 4 5 rfl rfl rfl rfl) (Az (Gm rfl (Gr (Rad rfl rfl) (Ga rfl (Bc ?_)))))))))))))
      have hd1:at_ (List.drop k ys) (q:Int)=at_ ys ((k+q:Nat):Int):=by rw [at_dropG _ _ _ om];congr 1
      have hd2:at_ (List.drop k ys) ((q:Int) - 1)=at_ ys (((k+q:Nat):Int) - 1):=by rw [at_dropG _ _ _ om];congr 1;omega
      have hset:List.set ys ((m:Int)).toNat (at_ (List.drop k ys) (q:Int))=ys.set m (at_ ys ((k+q:Nat):Int)):=by rw [←hd1];rfl
      rw [hset]
      rw [hd1,hd2] at c44
      exact B3 ((m+1),(q+1),(ys.set m (at_ ys ((k+q:Nat):Int)))) (by dsimp only;exact ⟨om,(by rw [List.length_set];exact hyl),om,(by rw [show k+(q+1)=k+q+1 by omega];exact compG_put htk om c44 hq1 hq2),(fun j hj=>by rw [at_setn _ _ _ _ om,if_neg om];exact hsame j om)⟩) (hlt:=by (try dsimp only);exact (by simp only [List.length_drop] at *; omega))
     ·refine Aw (Ak (Aj (Az (Gm rfl (Gr (Rad rfl rfl) (Ga rfl (Bc ?_)))))))
      have hd1:at_ (List.drop k ys) (q:Int)=at_ ys ((k+q:Nat):Int):=by rw [at_dropG _ _ _ om];congr 1
      have hd2:at_ (List.drop k ys) ((q:Int) - 1)=at_ ys (((k+q:Nat):Int) - 1):=by rw [at_dropG _ _ _ om];congr 1;omega
      rw [hd1,hd2] at c44
      exact B3 ((m),(q+1),(ys)) (by dsimp only;exact ⟨om,om,om,(by rw [show k+(q+1)=k+q+1 by omega];exact compG_keep htk om c44 hq1 hq2),(fun j hj=>hsame j om)⟩) (hlt:=by (try dsimp only);exact (by simp only [List.length_drop] at *; omega))
    ·refine Bs (Am (Am (A6 (Aj (Ai (Gm rfl (Gm rfl (Gr (Ec (α:=Int) (xs:=ys) (l:=m) Ac ty3 rfl rfl om Bf om) (Ge0 (Eff.clear (α:=Int) (k:=m) (xs:=ys) Ac ty3 (AllOne.cons rfl AllOne.nil) rfl rfl om am) ?_)))))))))
     refine Af (Ai (Gm rfl (Gm rfl (Gr (Runs.hiraw (h:=m) Ac ty3 rfl rfl om om) (Ga rfl (Af (Ar (S1 2 rfl) (Ax (Av (Ah (Ah (Av (Ah ?_)))))))))))))
     have hc:ys.take m=compG xs xs.length:=by rw [htk];congr 1;omega
     have hcm:(compG xs xs.length).length=m:=by rw [←hc,List.length_take,hyl,Nat.min_eq_left om]
     exact Ay rfl rfl (vc 3 (.slice a (compG xs xs.length).length c) (compG xs xs.length)::I) (by rw [←hc];exact A5) ⟨by rw [hcm],rfl⟩
   ·exact Aw (Ak (Aj (Az (Gm rfl (Gr (Rad rfl rfl) (Ga rfl (Bc (B3 ((k+1)) ⟨om,(Di hne (fun _=>c25))⟩))))))))
  ·refine Bs (Am (Am (A6 (Aj (Ai (Gm rfl (Ga rfl (Af (Ax ?_)))))))))
   have hc:compG xs xs.length=xs:=(compG_take (fun j h1 h2=>hne j om h2) (Nat.le_refl _)).trans (List.take_length)
   exact Ay rfl rfl (vc 3 (.slice a (compG xs xs.length).length c) (compG xs xs.length)::I) (by rw [hc];exact A5) ⟨by rw [hc],rfl⟩
theorem CloneI{a:Option Addr}{c:Nat}{xs:List Int}(hl:Sl κ I (.slice a xs.length c) xs)(hb:xs.length≤1000000000) :
    CallS Tryz.prog κ 284 [.slice a xs.length c] I (fun r J=>∃a' c',r = .slice a' xs.length c'∧J=vc 3 (.slice a' xs.length c') xs::I):=by
 refine B4 (p:=a.isNone=true→xs=[]∧c=0) (fun w hs hn=>hl.isNone w hs hn) fun hnone=>?_
 refine Ce1 Tryz.func284 rfl rfl ?_
 refine Ai (Ga rfl (Af (Au (Ai (Gm rfl (Gr (Runs.eqnil Ac rfl rfl) (Af (Ek rfl (fun c4=>?_) (fun c4=>?_)))))))))
 ·refine Ai (Ga rfl (Af (Ax (Ah ?_))))
  obtain ⟨hx0,_⟩:=hnone c4
  subst hx0
  exact Ay rfl rfl (vc 3 (.slice none ([]:List Int).length 0) ([]:List Int)::I) (Bw _ _) ⟨none,0,rfl,rfl⟩
 ·refine Aw (Aj (Ai (Ge1 (Eff.bs0 (α:=Int) Ac ty3 rfl) fun ad1=>?_)))
  refine Gm rfl (Ge2 (B0 (α:=Int) (e:=3) (xs:=([]:List Int)) (ys:=xs) Ac ty3 rfl rfl rfl mm (Bj hl) (by simp only [List.length_nil];omega) dc rfl (fun _ _=>am)) fun ad2 cp3=>?_)
  exact Ga rfl (Af (Ax (Ay rfl rfl (vc 3 (.slice ad2 xs.length cp3) xs::I) A5 ⟨ad2,cp3,rfl,rfl⟩)))
theorem eqt135:EqT Tryz.prog 135 Pt:=EqT.flat (fun p:Pt=>[p.u,p.v]) (fun _=>rfl) (fun x y h=>by cases x;cases y;simpa using h) (n:=2) (fun _=>rfl) kr kr kr kr kr
theorem CheckGen_ok{κ:Ctx}{I:List Item}{nd:Int}{v:Value}{es:List Pt}(hl:Sl κ I v es) :
    CallS Tryz.prog κ 83 [.agg #[I64 (nd),v]] I (fun r J=>r=I64 (checkG nd es)∧I=J):=by
 refine B4 hl.le fun hmax=>?_
 refine Ce1 Tryz.func83 rfl rfl ?_
 refine Ai (Ge1 (Bd (cs:=[_,_]) rfl rfl rfl) fun b1=>Ga rfl (Af (Au (Ai (Gf fld48_0 rfl (Gl ty3 ?_))))))
 refine Gr (A9 rfl rfl) (Gm rfl (Bb (d:=8) rfl (fun g8=>?_) (fun g8=>?_)))
 ·exact Gpo (Gpo (Gpo (Gr (Ao rfl rfl) (Af (Ca rfl (Ai (Ga rfl (Af (Ax (Ah (Ay rfl rfl (I) A0 ⟨by rw [show checkG nd es=1 from (by unfold checkG;rw [if_pos om])],rfl⟩)))))))))))
 ·refine Gro (Ab fld48_0 rfl) (Gro (As ty3) ?_)
  refine Gro (Bz rfl rfl) (Gr (Al rfl rfl) (Af (A7 rfl (fun c12=>?_) (fun c12=>?_))))
  ·exact Ai (Ga rfl (Af (Ax (Ah (Ay rfl rfl (I) A0 ⟨by rw [show checkG nd es=1 from (by unfold checkG;rw [if_pos om])],rfl⟩)))))
  ·refine Aw (Aj (Au (Ai (Gf fld48_1 rfl (Gl ty46 ?_)))))
   refine Gr (Bx (α:=Pt) (xs:=es) B2 rfl (Bj hl)) (Gm rfl (Af (Ar (S4 16 15 14 1 rfl rfl rfl rfl) (A4 (Bv (σ:=Nat) (fun s=>([(1,.pointer (some ⟨b1,0,none⟩)),(14,v),(15,I64 (((es.length:Nat):Int))),(16,I64 (((s:Nat):Int)))]:Env)) (fun s=>blk b1 [I64 (nd),v] 48::I) (fun s=>(s≤es.length)∧(checkG nd es=scanL (badE nd) Pt.lt (prevAt es s) (es.drop s))) (fun s=>es.length - s) (0) (show ((0:Nat)≤es.length)∧(checkG nd es=scanL (badE nd) Pt.lt (prevAt es (0:Nat)) (es.drop (0:Nat))) from ⟨om,(by unfold checkG;rw [if_neg om];rfl)⟩) (Aa rfl (Aa rfl (Aa rfl (Aa B8 Bg)))) (show Fit κ _ (blk b1 [I64 (nd),v] 48::I) from A5) ?_)))))
   rintro k hp
   obtain ⟨hk,hs⟩:=hp
   refine Ai (Gr (A9 rfl rfl) (Af (Au (A7 rfl (fun c17=>?_) (fun c17=>?_)))))
   ·refine Aw (Aj (Au (A4 (Ai (Gm rfl (Gr (A3 (α:=Pt) (xs:=es) B2 ty135 rfl rfl (Bj hl) om om) (Gr (Bu (α:=Pt) (xs:=es) ty135 rfl (Bj hl) om om) (Ge1 (A8 ty135 rfl) fun b2=>Ga rfl (Ge0 (Ce ty135) ?_)))))))))
    refine Af (A4 (Ai (Gf fld135_0 rfl (Gl ty3 ?_))))
    refine Gr (A9 rfl rfl) (Gm rfl (Bb (d:=25) rfl (fun g25=>?_) (fun g25=>?_)))
    ·exact Gpo (Gpo (Gpo (Gpo (Gpo (Gr (Ao rfl rfl) (Gm rfl (Gpo (Gpo (Gpo (Gpo (Gpo (Gr (Ao rfl rfl) (Ga rfl (Af (Ar (S7 21 3 4 1 14 15 16 rfl rfl rfl rfl rfl rfl rfl) (Ca rfl (Ai (Ga rfl (Af (Ax (Av (Av (Ah (Ah (Av (Ah (Ay rfl rfl (I) A0 ⟨by rw [show checkG nd es=6 from (hs.trans ((Cs om (by unfold badE;rw [if_pos om];decide)).trans (by unfold badE;rw [if_pos om])))],rfl⟩)))))))))))))))))))))))))))
    ·refine Gro (Ab fld135_0 rfl) (Gro (As ty3) ?_)
     refine Gro (Ab fld135_1 rfl) (Gro (As ty3) ?_)
     refine Gro (B6 rfl rfl) (Gr (Al rfl rfl) (Gm rfl (Bb (d:=32) rfl (fun g32=>?_) (fun g32=>?_))))
     ·exact Gpo (Gpo (Gpo (Gpo (Gpo (Gr (Ao rfl rfl) (Ga rfl (Af (Ar (S7 21 3 4 1 14 15 16 rfl rfl rfl rfl rfl rfl rfl) (Ca rfl (Ai (Ga rfl (Af (Ax (Av (Av (Ah (Ah (Av (Ah (Ay rfl rfl (I) A0 ⟨by rw [show checkG nd es=6 from (hs.trans ((Cs om (by unfold badE;rw [if_pos om];decide)).trans (by unfold badE;rw [if_pos om])))],rfl⟩))))))))))))))))))))
     ·refine Gro (Ab fld135_1 rfl) (Gro (As ty3) ?_)
      refine Gro (Ab fld48_0 rfl) (Gro (As ty3) ?_)
      refine Gro (B6 rfl rfl) (Gr (Al rfl rfl) (Ga rfl (Af (Ar (S7 21 3 4 1 14 15 16 rfl rfl rfl rfl rfl rfl rfl) (A7 rfl (fun c21=>?_) (fun c21=>?_))))))
      ·exact Ai (Ga rfl (Af (Ax (Av (Av (Ah (Ah (Av (Ah (Ay rfl rfl (I) A0 ⟨by rw [show checkG nd es=6 from (hs.trans ((Cs om (by unfold badE;rw [if_pos om];decide)).trans (by unfold badE;rw [if_pos om])))],rfl⟩))))))))))
      ·refine Au (Bk mixed (Bo (blk b2 [I64 ((at_ es (k:Int)).u),I64 ((at_ es (k:Int)).v)] 135::blk b1 [I64 (nd),v] 48::I) 14 (Dr 0 rfl (Ad rfl) (Dr 1 rfl (Bz rfl rfl) (Dr 2 rfl (Ad rfl) (C7 (d:=42) rfl (fun g42=>?_) (fun g42=>?_)))))))
       ·refine Dro 3 rfl (Ab fld48_1 rfl) (Dro 4 rfl (As ty46) ?_)
        refine Dro 5 rfl (Ad rfl) (Dro 6 rfl (Rsu rfl rfl) (Dro 7 rfl (A3 (α:=Pt) (xs:=es) B2 ty135 rfl rfl (Bj hl) om om) (Dro 8 rfl (Bu (α:=Pt) (xs:=es) ty135 rfl (Bj hl) om om) (Dro 9 rfl (Bq (vs:=[_,_]) ty135) ?_))))
        refine Ds1 10 (Se rfl (Ap call154 rfl rfl (Order_ok (at_ es ((k:Int) - 1)) (at_ es (k:Int)))) ?_)
        rintro _ _ ⟨_,_,⟨rfl,rfl⟩,rfl,rfl⟩
        refine ⟨A0,?_⟩
        refine Dro 11 rfl (B6 rfl rfl) (Dr 12 rfl (Ao rfl rfl) (Dr 13 rfl (Ba rfl) (Dz (Aj (Ar (S5 39 1 14 15 16 rfl rfl rfl rfl rfl) (A7 rfl (fun c39=>?_) (fun c39=>?_)))))))
        ·exact Ai (Ga rfl (Af (Ax (Av (Av (Ah (Ah (Av (Ah (Ay rfl rfl (I) A0 ⟨by rw [show checkG nd es=5 from (hs.trans (scanL_order om (badE_zero.2 om) om (fun h=>by have:=(Pt.cmp_lt _ _).2 h;omega)))],rfl⟩))))))))))
        ·exact Aw (Ak (Ak (Aj (Az (Gr (Rad rfl rfl) (Gm rfl (Bc (B3 ((k+1)) ⟨om,(hs.trans (D9 om (badE_zero.2 om) (fun h0=>by first|omega|exact (Pt.cmp_lt _ _).1 om)))⟩))))))))
       ·exact Dpo 3 rfl (Dpo 4 rfl (Dpo 5 rfl (Dpo 6 rfl (Dpo 7 rfl (Dpo 8 rfl (Dpo 9 rfl (Dpo 10 rfl (Dpo 11 rfl (Dr 12 rfl (Al rfl rfl) (Dr 13 rfl (Ba rfl) (Dz (Aj (Ar (S5 39 1 14 15 16 rfl rfl rfl rfl rfl) (C9 rfl (Aw (Ak (Ak (Aj (Az (Gr (Rad rfl rfl) (Gm rfl (Bc (B3 ((k+1)) ⟨om,(hs.trans (D9 om (badE_zero.2 om) (fun h0=>by first|omega|exact (Pt.cmp_lt _ _).1 om)))⟩)))))))))))))))))))))))
   ·exact Bs (Am (Am (A6 (Aj (Ai (Ga rfl (Af (Ax (Ay rfl rfl (I) A0 ⟨by rw [show checkG nd es=0 from (hs.trans (scanL_end om))],rfl⟩)))))))))
variable {κ:Ctx}{I:List Item}
def bitB(v:Int):BitVec 64:=if v<0∨64≤v then 0#64 else 1#64 <<< v.toNat
def maskB(l:List Int):BitVec 64:=l.foldl (fun m v=>m ||| bitB v) 0#64
def allB(n:Int):BitVec 64:=if n≤0 then 0#64 else if 64≤n then 18446744073709551615#64 else (1#64 <<< n.toNat) - 1#64
theorem maskB_take{l:List Int}{k:Nat}(h:k<l.length):maskB (l.take (k+1))=maskB (l.take k) ||| bitB (at_ l (k:Int)):=by
 unfold maskB;rw [Cz l k h,List.foldl_append];rfl
def ones1(m:BitVec 64):BitVec 64:=((m >>> (1:Int).toNat) &&& 6148914691236517205#64)+(m &&& 6148914691236517205#64)
def ones2(m:BitVec 64):BitVec 64:=((m >>> (2:Int).toNat) &&& 3689348814741910323#64)+(m &&& 3689348814741910323#64)
def ones3(m:BitVec 64):BitVec 64:=((m >>> (4:Int).toNat)+m) &&& 1085102592571150095#64
def ones4(m:BitVec 64):BitVec 64:=m+(m >>> (8:Int).toNat)
def ones5(m:BitVec 64):BitVec 64:=m+(m >>> (16:Int).toNat)
def ones6(m:BitVec 64):BitVec 64:=m+(m >>> (32:Int).toNat)
def onesB(m:BitVec 64):Int:=((ones6 (ones5 (ones4 (ones3 (ones2 (ones1 m)))))).toNat:Int) % 128
theorem ones_small(m:BitVec 64):(ones6 (ones5 (ones4 (ones3 m)))).toNat<9223372036854775808:=by
 have h3:(ones3 m).toNat≤1085102592571150095:=by unfold ones3;rw [BitVec.toNat_and];exact Nat.and_le_right
 generalize ones3 m=a at h3
 have h4:(ones4 a).toNat≤a.toNat+a.toNat / 256:=by
  unfold ones4;rw [BitVec.toNat_add,BitVec.toNat_ushiftRight,Nat.shiftRight_eq_div_pow,show 2 ^ (8:Int).toNat=256 by decide];exact Nat.mod_le _ _
 generalize ones4 a=b at h4
 have h5:(ones5 b).toNat≤b.toNat+b.toNat / 65536:=by
  unfold ones5;rw [BitVec.toNat_add,BitVec.toNat_ushiftRight,Nat.shiftRight_eq_div_pow,show 2 ^ (16:Int).toNat=65536 by decide];exact Nat.mod_le _ _
 generalize ones5 b=c at h5
 have h6:(ones6 c).toNat≤c.toNat+c.toNat / 4294967296:=by
  unfold ones6;rw [BitVec.toNat_add,BitVec.toNat_ushiftRight,Nat.shiftRight_eq_div_pow,show 2 ^ (32:Int).toNat=4294967296 by decide];exact Nat.mod_le _ _
 omega
theorem Bit_ok(v:Int) :
    CallS Tryz.prog κ 237 [I64 (v)] I (fun r J=>r=U64 (bitB v)∧I=J):=by
 refine Ce1 Tryz.func237 rfl rfl ?_
 refine Ai (Ga rfl (Af (Au (Ai (Gm rfl (Gr (A9 rfl rfl) (Gm rfl (Bb (d:=5) rfl (fun g5=>?_) (fun g5=>?_)))))))))
 ·exact Gpo (Gpo (Gr (Ao rfl rfl) (Af (Ca rfl (Ai (Ga rfl (Af (Ax (Ah (Ay rfl rfl (I) A0 ⟨by unfold bitB;rw [if_pos om];rfl,rfl⟩))))))))))
 ·refine Gro (Ad rfl) (Gro (B6 rfl rfl) (Gr (Al rfl rfl) (Af (A7 rfl (fun c8=>?_) (fun c8=>?_)))))
  ·exact Ai (Ga rfl (Af (Ax (Ah (Ay rfl rfl (I) A0 ⟨by unfold bitB;rw [if_pos om];rfl,rfl⟩)))))
  ·exact Aw (Aj (Ai (Gm rfl (Gr (Runs.shlB (a:=1#64) rfl rfl om om) (Ga rfl (Af (Ax (Ay rfl rfl (I) A0 ⟨by unfold bitB;rw [if_neg om],rfl⟩))))))))
theorem MaskOf_ok{v:Value}{l:List Int}(hl:Sl κ I v l) :
    CallS Tryz.prog κ 199 [v] I (fun r J=>r=U64 (maskB l)∧I=J):=by
 refine B4 hl.le fun hmax=>?_
 refine Ce1 Tryz.func199 rfl rfl ?_
 refine Ai (Ga rfl (Af (Ai (Ga rfl (Af (Au (Ai (Gm rfl (Gr (Bx (α:=Int) (xs:=l) Ac rfl (Bj hl)) (Gm rfl (Af (A4 (Bv (σ:=Nat×(BitVec 64)) (fun s=>([(3,U64 (s.2)),(6,v),(7,I64 (((l.length:Nat):Int))),(8,I64 (((s.1:Nat):Int)))]:Env)) (fun s=>I) (fun s=>(s.1≤l.length)∧(s.2=maskB (l.take s.1))) (fun s=>l.length - s.1) (0,0#64) (show ((0:Nat)≤l.length)∧((0#64:BitVec 64)=maskB (l.take (0:Nat))) from ⟨om,rfl⟩) (Aa (Cp rfl (by first|rfl|simp)) (Aa rfl (Aa rfl (Aa B8 Bg)))) (show Fit κ _ (I) from A5) ?_)))))))))))))
 rintro ⟨k,m⟩ hp
 dsimp only at hp ⊢
 obtain ⟨hk,hm⟩:=hp
 refine Ai (Gr (A9 rfl rfl) (Af (Au (A7 rfl (fun c9=>?_) (fun c9=>?_)))))
 ·refine Aw (Aj (Au (A4 (Ai (Gr (A3 (α:=Int) (xs:=l) Ac ty3 rfl rfl (Bj hl) om om) (Gr (Br (xs:=l) ty3 rfl (Bj hl) om om) (Ga rfl (Af (Az (Gm rfl (Gm rfl (G.e (Ap call237 rfl rfl (Bit_ok (at_ l (k:Int)))) ?_))))))))))))
  rintro _ _ ⟨_,_,⟨rfl,rfl⟩,rfl,rfl⟩
  exact Gr (E3 (a:=m) (b:=bitB (at_ l (k:Int))) rfl rfl) (Ga rfl (Bc (Ak (Aj (Az (Gr (Rad rfl rfl) (Gm rfl (Bc (B3 ((k+1),(m ||| (bitB (at_ l (k:Int))))) (by dsimp only;exact ⟨om,(by rw [maskB_take om,←hm])⟩))))))))))
 ·refine Bs (Am (Am (A6 (Aj (Ai (Gm rfl (Ga rfl (Af (Ax ?_)))))))))
  rw [List.take_of_length_le om] at hm
  exact Ay rfl rfl (I) A0 ⟨by rw [hm],rfl⟩
theorem MaskAll_ok(n:Int) :
    CallS Tryz.prog κ 200 [I64 (n)] I (fun r J=>r=U64 (allB n)∧I=J):=by
 refine Ce1 Tryz.func200 rfl rfl ?_
 refine Ai (Ga rfl (Af (Au (A4 (Ai (Gm rfl (Gr (Dt rfl rfl) (Ga rfl (Af (A7 rfl (fun c3=>?_) (fun c3=>?_)))))))))))
 ·exact Ai (Ga rfl (Af (Ax (Av (Ah (Ay rfl rfl (I) A0 ⟨by unfold allB;rw [if_pos om];rfl,rfl⟩))))))
 ·refine Ai (Gm rfl (Gr (B6 rfl rfl) (Ga rfl (Af (A7 rfl (fun c6=>?_) (fun c6=>?_))))))
  ·exact Ai (Ga rfl (Af (Ax (Av (Ah (Ay rfl rfl (I) A0 ⟨by unfold allB;rw [if_neg om,if_pos om];rfl,rfl⟩))))))
  ·exact Aw (Ak (Aj (Ai (Gm rfl (Gr (Runs.shlB (a:=1#64) rfl rfl om om) (Gr (Runs.subB (a:=(1#64) <<< (n).toNat) (b:=1#64) rfl rfl) (Ga rfl (Af (Ax (Ay rfl rfl (I) A0 ⟨by unfold allB;rw [if_neg om,if_neg om],rfl⟩))))))))))
theorem OnesCount_ok(m:BitVec 64) :
    CallS Tryz.prog κ 271 [U64 (m)] I (fun r J=>r=I64 (onesB m)∧I=J):=by
 refine Ce1 Tryz.func271 rfl rfl ?_
 refine Ai (Ga rfl (Af (Ai (Gm rfl (Gr (E1 (a:=m) rfl rfl om om) (Gr (C5 (a:=m >>> (1:Int).toNat) (b:=6148914691236517205#64) rfl rfl) (Gm rfl (Gr (C5 (a:=m) (b:=6148914691236517205#64) rfl rfl) (Gr (Runs.addB (a:=(m >>> (1:Int).toNat) &&& (6148914691236517205#64)) (b:=m &&& (6148914691236517205#64)) rfl rfl) (Ga rfl ?_))))))))))
 generalize hm1:((m >>> (1:Int).toNat) &&& (6148914691236517205#64))+(m &&& (6148914691236517205#64))=m1
 refine Af (Ai (Gm rfl (Gr (E1 (a:=m1) rfl rfl om om) (Gr (C5 (a:=m1 >>> (2:Int).toNat) (b:=3689348814741910323#64) rfl rfl) (Gm rfl (Gr (C5 (a:=m1) (b:=3689348814741910323#64) rfl rfl) (Gr (Runs.addB (a:=(m1 >>> (2:Int).toNat) &&& (3689348814741910323#64)) (b:=m1 &&& (3689348814741910323#64)) rfl rfl) (Ga rfl ?_))))))))
 generalize hm2:((m1 >>> (2:Int).toNat) &&& (3689348814741910323#64))+(m1 &&& (3689348814741910323#64))=m2
 refine Af (Ar (S1 0 rfl) (Ai (Gm rfl (Gr (E1 (a:=m2) rfl rfl om om) (Gm rfl (Gr (Runs.addB (a:=m2 >>> (4:Int).toNat) (b:=m2) rfl rfl) (Gr (C5 (a:=(m2 >>> (4:Int).toNat)+m2) (b:=1085102592571150095#64) rfl rfl) (Ga rfl ?_))))))))
 generalize hm3:((m2 >>> (4:Int).toNat)+m2) &&& (1085102592571150095#64)=m3
 refine Af (Ai (Gm rfl (Gm rfl (Gr (E1 (a:=m3) rfl rfl om om) (Gr (Runs.addB (a:=m3) (b:=m3 >>> (8:Int).toNat) rfl rfl) (Ga rfl ?_))))))
 generalize hm4:m3+(m3 >>> (8:Int).toNat)=m4
 refine Af (Ai (Gm rfl (Gm rfl (Gr (E1 (a:=m4) rfl rfl om om) (Gr (Runs.addB (a:=m4) (b:=m4 >>> (16:Int).toNat) rfl rfl) (Ga rfl ?_))))))
 generalize hm5:m4+(m4 >>> (16:Int).toNat)=m5
 refine Af (Ar (S1 0 rfl) (Ai (Gm rfl (Gm rfl (Gr (E1 (a:=m5) rfl rfl om om) (Gr (Runs.addB (a:=m5) (b:=m5 >>> (32:Int).toNat) rfl rfl) (Ga rfl ?_)))))))
 generalize hm6:m5+(m5 >>> (32:Int).toNat)=m6
 exact Af (Ai (Gm rfl (Gr (Runs.toI Dk Bm rfl (by subst hm6 hm5 hm4 hm3;exact ones_small _)) (Gr (Runs.and127 rfl rfl om) (Ga rfl (Af (Ax (Ay rfl rfl (I) A0 ⟨by subst hm6 hm5 hm4 hm3 hm2 hm1;rfl,rfl⟩))))))))
theorem MCount_ok(m:BitVec 64) :
    CallS Tryz.prog κ 219 [U64 (m)] I (fun r J=>r=I64 (onesB m)∧I=J):=by
 refine Ce1 Tryz.func219 rfl rfl ?_
 refine Ai (Ga rfl (Af (Ai (Gm rfl (Gc0 (Ap call271 rfl rfl (OnesCount_ok m)) ?_)))))
 exact Ga rfl (Af (Ax (Ay rfl rfl (I) A0 ⟨rfl,rfl⟩)))
theorem bitB_two{v:Int}(h0:0≤v)(h1:v<64):bitB v=BitVec.twoPow 64 v.toNat:=by
 unfold bitB;rw [if_neg om];rfl
theorem getLsb_bitB{v:Int}{i:Nat}(hi:i<64):(bitB v).getLsbD i=decide (v=(i:Int)):=by
 by_cases h:0≤v∧v<64
 ·rw [bitB_two h.1 h.2,BitVec.getLsbD_twoPow]
  have e:(v.toNat=i)↔(v=(i:Int)):=by omega
  simp [hi,h,e]
 ·unfold bitB
  rw [if_pos om]
  have:¬v=(i:Int):=by omega
  simp [this]
theorem getLsb_maskB{i:Nat}(hi:i<64):∀(l:List Int) (m:BitVec 64),(l.foldl (fun m v=>m ||| bitB v) m).getLsbD i=(m.getLsbD i||decide ((i:Int)∈l))
 |[],m=>by simp
 |v::l,m=>by
  rw [List.foldl_cons,getLsb_maskB hi l,BitVec.getLsbD_or,getLsb_bitB hi]
  by_cases h1:v=(i:Int)
  ·simp [h1]
  ·have:¬(i:Int)=v:=fun e=>h1 e.symm
   simp [h1,this]
variable {κ:Ctx}{I:List Item}
structure Fr where
 num:Int
 den:Int
deriving DecidableEq
instance:Inhabited Fr:=⟨⟨0,0⟩⟩
instance:Enc Fr:=⟨fun r=>[I64 r.num,I64 r.den],2,by omega,fun _=>rfl,fun r u hu=>by
 simp only [List.mem_cons,List.not_mem_nil,or_false] at hu
 rcases hu with rfl|rfl<;>rfl⟩
theorem eqt40:EqT Tryz.prog 40 Fr:=EqT.flat (fun p:Fr=>[p.num,p.den]) (fun _=>rfl) (fun x y h=>by cases x;cases y;simpa using h) (n:=2) (fun _=>rfl) kr kr kr kr kr
def gcdI(a b:Int):Int:=((a.toNat.gcd b.toNat:Nat):Int)
theorem gcdI_step{a b:Int}(h0:0≤a)(h1:0<b):gcdI b (Int.tmod a b)=gcdI a b:=by
 unfold gcdI
 rw [Int.tmod_eq_emod_of_nonneg h0,show (a % b).toNat=a.toNat % b.toNat by rw [Int.toNat_emod h0 om]]
 congr 1
 rw [Nat.gcd_comm a.toNat b.toNat,Nat.gcd_rec b.toNat a.toNat,Nat.gcd_comm]
theorem gcdI_zero{a:Int}(h0:0≤a):gcdI a 0=a:=by unfold gcdI;simp;omega
theorem gcdI_pos{a b:Int}(h1:0<b):0<gcdI a b:=by
 unfold gcdI
 have:0<a.toNat.gcd b.toNat:=Nat.gcd_pos_of_pos_right _ om
 omega
theorem gcdI_le{a b:Int}(h1:0<b):gcdI a b≤b:=by
 unfold gcdI
 have:a.toNat.gcd b.toNat≤b.toNat:=Nat.le_of_dvd om (Nat.gcd_dvd_right _ _)
 omega
def mkF(a b:Int):Fr:=⟨a / gcdI a b,b / gcdI a b⟩
theorem mkF_num{a b:Int}(h0:0≤a)(h1:0<b):0≤(mkF a b).num∧(mkF a b).num≤a:=⟨Int.ediv_nonneg h0 (by have:=gcdI_pos (a:=a) h1;omega),Int.ediv_le_self _ h0⟩
theorem mkF_den{a b:Int}(h1:0<b):1≤(mkF a b).den∧(mkF a b).den≤b:=by
 have hg:=gcdI_pos (a:=a) h1
 have hl:=gcdI_le (a:=a) h1
 exact ⟨(Int.le_ediv_iff_mul_le hg).2 om,Int.ediv_le_self _ om⟩
theorem RWithin_ok(n m:Int)(h:0≤m∧m≤9223372036854775807) :
    CallS Tryz.prog κ 157 [I64 (n),I64 (m)] I (fun r J=>r = .bool (decide (-m≤n∧n≤m))∧I=J):=by
 refine Ce2 Tryz.func157 rfl rfl ?_
 refine Ai (Ga rfl (Af (Ai (Gm rfl (Gm rfl (Gr (Runs.neg rfl (by unfold InR;omega)) (Gr (B6 rfl rfl) (Gm rfl (Bb (d:=9) rfl (fun g9=>?_) (fun g9=>?_))))))))))
 ·exact Gro (Ad rfl) (Gro (Ad rfl) (Gro (Dt rfl rfl) (Gr (Ao rfl rfl) (Ga rfl (Af (Ar (S1 4 rfl) (Ax (Ay rfl rfl (I) A0 ⟨(by first|exact congrArg Value.bool (decide_eq_decide.2 (by skip;omega))|exact congrArg Value.bool (decide_eq_true (by skip;omega)).symm|exact congrArg Value.bool (decide_eq_false (by skip;omega)).symm),rfl⟩))))))))
 ·exact Gpo (Gpo (Gpo (Gr (Al rfl rfl) (Ga rfl (Af (Ar (S1 4 rfl) (Ax (Ay rfl rfl (I) A0 ⟨(by first|exact congrArg Value.bool (decide_eq_decide.2 (by skip;omega))|exact congrArg Value.bool (decide_eq_true (by skip;omega)).symm|exact congrArg Value.bool (decide_eq_false (by skip;omega)).symm),rfl⟩))))))))
theorem Common_ok(a b:Int)(h0:0≤a)(h1:0≤b) :
    CallS Tryz.prog κ 158 [I64 (a),I64 (b)] I (fun r J=>r=I64 (gcdI a b)∧I=J):=by
 refine Ce2 Tryz.func158 rfl rfl ?_
 refine Ai (Ga rfl (Af (Au (A4 (Bv (σ:=Int×Int) (fun s=>([(0,I64 (s.1)),(1,I64 (s.2))]:Env)) (fun s=>I) (fun s=>(0≤s.1)∧(0≤s.2)∧(gcdI s.1 s.2=gcdI a b)) (fun s=>s.2.toNat) (a,b) (show (0≤(a:Int))∧(0≤(b:Int))∧(gcdI (a:Int) (b:Int)=gcdI a b) from ⟨om,om,rfl⟩) (Aa B8 (Aa B8 Bg)) (show Fit κ _ (I) from A5) ?_)))))
 rintro ⟨x,y⟩ hp
 dsimp only at hp ⊢
 obtain ⟨hx,hy,hg⟩:=hp
 refine Au (Ai (Gm rfl (Gr (Be rfl rfl) (Af (A7 rfl (fun c6=>?_) (fun c6=>?_))))))
 ·refine Aw (Aj (A4 (Bk mixed (Bo (I) 6 (Dr 0 rfl (Ad rfl) (Dr 1 rfl (Ad rfl) (Dr 2 rfl (Ad rfl) (Dr 3 rfl (Runs.rem rfl rfl om) (Dr 4 rfl (Ba rfl) (Dr 5 rfl (Ba rfl) (Dz (Ak ?_))))))))))))
  have hm0:=Int.tmod_nonneg y (a:=x) hx
  have hm1:=Int.tmod_lt_of_pos x (b:=y) om
  exact B3 ((y),(Int.tmod x y)) (by dsimp only;exact ⟨om,om,((gcdI_step hx om).trans hg)⟩)
 ·refine Bs (Am (Am (A6 (Aj (Ai (Gm rfl (Ga rfl (Af (Ax ?_)))))))))
  have hy0:y=0:=by omega
  subst hy0
  exact Ay rfl rfl (I) A0 ⟨by rw [←hg,gcdI_zero hx],rfl⟩
theorem Checked_ok(x:Fr)(h:0≤x.num∧x.num≤1152921504606846976∧x.den≤1152921504606846976) :
    CallS Tryz.prog κ 309 [.agg #[I64 (x.num),I64 (x.den)]] I (fun r J=>r = .tuple #[.agg #[I64 x.num,I64 x.den],I64 0]∧I=J):=by
 refine Ce1 Tryz.func309 rfl rfl ?_
 refine Ai (Ge1 (Bd (cs:=[_,_]) rfl rfl rfl) fun b1=>Ge1 (A8 ty40 rfl) fun b2=>Ga rfl (Af (Au (Ai (Gf fld40_0 rfl (Gl ty3 ?_))))))
 refine G.e (Ap call157 rfl rfl (RWithin_ok x.num 1152921504606846976 om)) ?_
 rintro _ _ ⟨_,_,⟨rfl,rfl⟩,rfl,rfl⟩
 refine Gr (Cw rfl) (Gm rfl (Bb (d:=8) rfl (fun g8=>?_) (fun g8=>?_)))
 ·exact absurd h om
 ·refine Gro (Ab fld40_1 rfl) (Gro (As ty3) ?_)
  refine Gro (Bz rfl rfl) (Gr (Al rfl rfl) (Af (Ar (S3 12 2 1 rfl rfl rfl) (A7 rfl (fun c12=>?_) (fun c12=>?_)))))
  ·exact absurd h om
  ·refine Aw (Aj (Ai (Gl2 ty40 ?_)))
   refine Ge0 (Ce ty40) ?_
   exact Ga rfl (Af (Ax (D4 rfl ty40 rfl rfl mm rfl (I) A0 ⟨rfl,rfl⟩)))
theorem Lowest_ok(a b:Int)(h0:0≤a∧a≤1152921504606846976)(h1:0<b∧b≤1152921504606846976) :
    CallS Tryz.prog κ 272 [I64 (a),I64 (b)] I (fun r J=>r = .tuple #[.agg #[I64 (mkF a b).num,I64 (mkF a b).den],I64 0]∧I=J):=by
 refine Ce2 Tryz.func272 rfl rfl ?_
 refine Ai (Ge1 (A8 ty40 rfl) fun b1=>Ga rfl (Af (Au (Ai (Gm rfl (Gr (A9 rfl rfl) (Af (A7 rfl (fun c8=>?_) (fun c8=>?_)))))))))
 ·exact absurd c8 om
 ·refine Aw (Aj (Ai (Gm rfl (Gm rfl (Gr (Runs.neg rfl (by unfold InR;omega)) (Gr (En rfl rfl) (Gm rfl (Gc0 (Ap call158 rfl rfl (Common_ok (if a<(-(a)) then (-(a)) else a) b (by split<;>omega) om)) ?_))))))))
  refine Ga rfl ?_
  have hmx:(if a < -a then -a else a)=a:=by rw [if_neg om]
  rw [hmx]
  refine Af (Ar (S4 6 4 0 1 rfl rfl rfl rfl) (Au (Bk mixed (Bo (blk b1 [I64 (0),I64 (0)] 40::I) 10 (Dr 0 rfl (Ad rfl) ?_)))))
  have hgp:=gcdI_pos (a:=a) h1.1
  refine Dr 1 rfl (Ad rfl) (Dr 2 rfl (Runs.quo rfl rfl om om (by unfold InR;omega)) (Dr 3 rfl (Ad rfl) (Dr 4 rfl (Ad rfl) (Dr 5 rfl (Runs.quo rfl rfl om om (by unfold InR;omega)) (Dr 6 rfl (Bl (cells:=[_,_]) ty40 Es pl40 rfl rfl) (Ds1 7 (Sc0 rfl (Ap call309 rfl rfl (Checked_ok (⟨a / (gcdI a b),b / (gcdI a b)⟩:Fr) (by have hn:=mkF_num h0.1 h1.1;have hd:=mkF_den (a:=a) h1.1;exact ⟨hn.1,by have:=hn.2;show (mkF a b).num≤_;omega,by have:=hd.2;show (mkF a b).den≤_;omega⟩))) ?_)))))))
  refine Dr 8 rfl (A2 rfl rfl) (Dr 9 rfl (A2 rfl rfl) (Dc kr ?_))
  refine Ae 10 rfl (Ce ty40) ?_
  rintro _ _ ⟨rfl,rfl⟩
  refine A.read (i:=11) kr rfl (Ch rfl) rfl rfl (Ba rfl) ?_
  refine De kr ?_
  exact Aj (Ar (S2 5 4 rfl rfl) (Ax (D4 rfl ty40 rfl rfl mm rfl (I) A0 ⟨rfl,rfl⟩)))
theorem MakeF_ok(a b:Int)(h0:0≤a∧a≤1152921504606846976)(h1:0<b∧b≤1152921504606846976) :
    CallS Tryz.prog κ 220 [I64 (a),I64 (b)] I (fun r J=>r = .tuple #[.agg #[I64 (mkF a b).num,I64 (mkF a b).den],I64 0]∧I=J):=by
 refine Ce2 Tryz.func220 rfl rfl ?_
 refine Ai (Ge1 (A8 ty40 rfl) fun b1=>Ga rfl (Af (Au (A4 (Ai (Gm rfl (Gr (Bi rfl rfl) (Ga rfl (Af (A7 rfl (fun c6=>?_) (fun c6=>?_)))))))))))
 ·exact absurd c6 om
 ·refine Ai (Gm rfl (G.e (Ap call157 rfl rfl (RWithin_ok a 4611686018427387904 om)) ?_))
  rintro _ _ ⟨_,_,⟨rfl,rfl⟩,rfl,rfl⟩
  refine Gm rfl (Bb (d:=13) rfl (fun g13=>?_) (fun g13=>?_))
  ·refine Gro (Ad rfl) (Eo (Cv rfl rfl rfl) (Ap call157 rfl rfl (RWithin_ok b 4611686018427387904 om)) ?_)
   rintro _ _ ⟨_,_,⟨rfl,rfl⟩,rfl,rfl⟩
   refine Gr (Ao rfl rfl) (Ga rfl (Af (Ar (S4 10 4 0 1 rfl rfl rfl rfl) (A7 rfl (fun c10=>?_) (fun c10=>?_)))))
   ·refine Ai (Gm rfl (Gm rfl (Gc0 (Ap call272 rfl rfl (Lowest_ok a b om om)) ?_)))
    refine Gr (A2 rfl rfl) (Gr (A2 rfl rfl) (Ge0 (Ce ty40) ?_))
    exact Ga rfl (Af (Ax (Av (Ah (D4 rfl ty40 rfl rfl mm rfl (I) A0 ⟨rfl,rfl⟩)))))
   ·exact absurd om c10
  ·exact absurd om g13
end Go.Sl
