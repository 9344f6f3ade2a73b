/- A part of the proofs of statements of this seat: contracts of functions, and the plain laws that they lean on. No conditions. -/
import Derived.Test.YtfkcohmipjhfcaaGreatDoorG9
set_option linter.unusedVariables false
set_option linter.unusedSimpArgs false
set_option linter.unusedSectionVars false
namespace Go.Sl
open Go.Proofs
set_option maxRecDepth 4000
variable {κ:Ctx}{I:List Item}
theorem InsSortE_ok{a:Option Addr}{c:Nat}{xs:List Ev}(hn:xs.length≤1000) :
    CallS Tryz.prog κ 315 [.slice a xs.length c,I64 (0),I64 (((xs.length:Nat):Int)),.func (.func 230) #[] #[]] (vc 108 (.slice a xs.length c) (xs)::I) (fun r J=>r = .tuple #[]∧J=vc 108 (.slice a xs.length c) (isortG evC xs)::I):=by
 refine B4 (p:=0<xs.length→a≠none) (vc.isSome mm) fun hsm=>?_
 refine Ce4 Tryz.func315 rfl rfl ?_
 refine Ah (Gm rfl (Gr (Rad rfl rfl) (Ga rfl (Af (A3 (Bv (σ:=Nat×(List Ev)) (fun s=>([(0,.slice a xs.length c),(1,I64 (0)),(2,I64 (((xs.length:Nat):Int))),(3,.func (.func 230) #[] #[]),(8,I64 (((s.1:Nat):Int)))]:Env)) (fun s=>vc 108 (.slice a xs.length c) (s.2)::I) (fun s=>(1≤s.1∧(s.1≤xs.length∨s.1=1))∧(s.2=(isortG evC (xs.take s.1))++xs.drop s.1)) (fun s=>xs.length - s.1) (1,xs) (show (1≤(1:Nat)∧((1:Nat)≤xs.length∨(1:Nat)=1))∧((xs:List Ev)=(isortG evC (xs.take (1:Nat)))++xs.drop (1:Nat)) from ⟨om,(by cases xs<;>rfl)⟩) (Ab rfl (Ab rfl (Ab rfl (Ab rfl (Ab Cc Bj))))) (show Fit κ _ (vc 108 (.slice a xs.length c) ((xs))::I) from Ay) ?_))))))
 rintro ⟨i,ys⟩ hp
 dsimp only at hp ⊢
 obtain ⟨hi,hy⟩:=hp
 have hil:=fun h:i≤xs.length=>isort_tlenG evC h
 have hyl:ys.length=xs.length:=by rw [hy,List.length_append,List.length_drop];rcases hi.2 with h|h;(· have:=hil h;omega);(· subst h;cases xs with |nil=>rfl|cons x t=>(have:=hil (by simp);simp at this ⊢; omega))
 refine Ap (Ah (Gm rfl (Gm rfl (Gr (Bb rfl rfl) (Af (A9 rfl (fun c14=>?_) (fun c14=>?_)))))))
 ·refine A1 (Ai (Ap (A3 (Ah (Gm rfl (Ga rfl (Af (A3 (Bv (σ:=Nat×(List Ev)) (fun s=>([(0,.slice a xs.length c),(1,I64 (0)),(2,I64 (((xs.length:Nat):Int))),(3,.func (.func 230) #[] #[]),(8,I64 ((i:Int))),(9,I64 (((s.1:Nat):Int)))]:Env)) (fun s=>vc 108 (.slice a xs.length c) (s.2)::I) (fun s=>(s.1≤i)∧(s.2=insG (isortG evC (xs.take i)) s.1 (at_ xs (i:Int))++xs.drop (i+1))∧(placeG evC (isortG evC (xs.take i)) (at_ xs (i:Int)) s.1=placeG evC (isortG evC (xs.take i)) (at_ xs (i:Int)) i)) (fun s=>s.1) (i,ys) (show ((i:Nat)≤i)∧((ys:List Ev)=insG (isortG evC (xs.take i)) (i:Nat) (at_ xs (i:Int))++xs.drop (i+1))∧(placeG evC (isortG evC (xs.take i)) (at_ xs (i:Int)) (i:Nat)=placeG evC (isortG evC (xs.take i)) (at_ xs (i:Int)) i) from ⟨om,(by rw [hy];exact ins_startG om),rfl⟩) (Ab rfl (Ab rfl (Ab rfl (Ab rfl (Ab rfl (Ab Cc Bj)))))) (show Fit κ _ (vc 108 (.slice a xs.length c) ((ys))::I) from Ay) ?_)))))))))
  rintro ⟨j,zs⟩ hp
  dsimp only at hp ⊢
  obtain ⟨hj,hzs,hpl⟩:=hp
  have hil2:=hil om
  have hz0:at_ zs (j:Int)=(at_ xs (i:Int)):=by rw [hzs];exact at_midG om
  have hz1:0<j→at_ zs ((j:Int) - 1)=at_ (isortG evC (xs.take i)) ((j:Int) - 1):=fun h=>by rw [hzs];exact at_prevG h om
  have hzl:zs.length=xs.length:=by rw [hzs,List.length_append,List.length_drop];unfold insG;rw [List.length_append,List.length_cons,List.length_take,List.length_drop];omega
  refine Ap (Ap (Bd mixed (Bl (vc 108 (.slice a xs.length c) (zs)::I) 17 (Dr 0 rfl (Ad rfl) (Dr 1 rfl (Ad rfl) (Dr 2 rfl (B2 rfl rfl) (Dr 3 rfl (Ad rfl) (Dl (d:=21) rfl (fun g21=>?_) (fun g21=>?_)))))))))
  ·refine Dro 4 rfl (Ad rfl) (Dro 5 rfl (Ad rfl) (Dro 6 rfl (Ad rfl) (Dro 7 rfl (A0 (α:=Ev) (xs:=zs) A5 ty108 rfl rfl Bf om oo) (Dro 8 rfl (Bu (α:=Ev) (xs:=zs) ty108 rfl Bf om oo) (Dro 9 rfl (Ad rfl) (Dro 10 rfl (Ad rfl) (Dro 11 rfl (Rsu rfl rfl) (Dro 12 rfl (A0 (α:=Ev) (xs:=zs) A5 ty108 rfl rfl Bf om oo) (Dro 13 rfl (Bu (α:=Ev) (xs:=zs) ty108 rfl Bf om oo) (Ds1 14 (Sc0 rfl (Cl call230 rfl rfl rfl (LateC_ok (at_ zs (j:Int)) (at_ zs ((j:Int) - 1)))) ?_)))))))))))
   refine Dro 15 rfl (Bb rfl rfl) (Dr 16 rfl (As rfl rfl) (Dz (Ai (Ar (S7 34 0 1 2 3 8 9 rfl rfl rfl rfl rfl rfl rfl) (A9 rfl (fun c34=>?_) (fun c34=>?_))))))
   ·refine A1 (Ai (Ap (A3 (Bd mixed (Bl (I) 18 (Dr 0 rfl (Ad rfl) (Dr 1 rfl (Ad rfl) (Dr 2 rfl (Ad rfl) (Dr 3 rfl (Ad rfl) (Dr 4 rfl (Rsu rfl rfl) (Dr 5 rfl (Ad rfl) (Dr 6 rfl (Ad rfl) (Dr 7 rfl (Rsu rfl rfl) (Dr 8 rfl (Runs.idxs Ev A5 ty108 rfl rfl (hsm om) om om) (Dr 10 rfl (Ad rfl) (Dr 11 rfl (Ad rfl) (Dr 12 rfl (Runs.idxs Ev A5 ty108 rfl rfl (hsm om) om om) (Dh (rs:=[9,13]) kr rfl rfl (Ej ?_ (all1 ?_))))))))))))))))))))
    ·refine Sr rfl (Bu (α:=Ev) (xs:=zs) ty108 rfl Bf om oo) Ay ?_
     refine Ds1 13 (Sr rfl (Bu (α:=Ev) (xs:=zs) ty108 rfl Bf om oo) Ay ?_)
     refine Dr 14 rfl (Runs.idxs Ev A5 ty108 rfl rfl (hsm om) om om) (Ds1 15 (Se0 rfl (Cw (α:=Ev) (xs:=zs) (e:=108) (new:=⟨(at_ zs ((j:Int) - 1)).kd,(at_ zs ((j:Int) - 1)).tm,(at_ zs ((j:Int) - 1)).u,(at_ zs ((j:Int) - 1)).v,(at_ zs ((j:Int) - 1)).w,(at_ zs ((j:Int) - 1)).lb,(at_ zs ((j:Int) - 1)).sg⟩) ty108 rfl rfl rfl om oo am) ?_))
     refine Dr 16 rfl (Runs.idxs Ev A5 ty108 rfl rfl (hsm om) om om) (Ds1 17 (Se0 rfl (Cw (α:=Ev) (xs:=List.set zs ((j:Int)).toNat (⟨(at_ zs ((j:Int) - 1)).kd,(at_ zs ((j:Int) - 1)).tm,(at_ zs ((j:Int) - 1)).u,(at_ zs ((j:Int) - 1)).v,(at_ zs ((j:Int) - 1)).w,(at_ zs ((j:Int) - 1)).lb,(at_ zs ((j:Int) - 1)).sg⟩)) (e:=108) (new:=⟨(at_ zs (j:Int)).kd,(at_ zs (j:Int)).tm,(at_ zs (j:Int)).u,(at_ zs (j:Int)).v,(at_ zs (j:Int)).w,(at_ zs (j:Int)).lb,(at_ zs (j:Int)).sg⟩) ty108 rfl rfl rfl om oo am) ?_))
     exact Dz (Aj (Ai (Ar (S6 0 1 2 3 8 9 rfl rfl rfl rfl rfl rfl) (A2 (Gm rfl (Gr (Rsu rfl rfl) (Ga rfl (Bh (B7 ((j - 1),(List.set (List.set zs ((j:Int)).toNat (⟨(at_ zs ((j:Int) - 1)).kd,(at_ zs ((j:Int) - 1)).tm,(at_ zs ((j:Int) - 1)).u,(at_ zs ((j:Int) - 1)).v,(at_ zs ((j:Int) - 1)).w,(at_ zs ((j:Int) - 1)).lb,(at_ zs ((j:Int) - 1)).sg⟩)) ((j:Int) - 1).toNat (⟨(at_ zs (j:Int)).kd,(at_ zs (j:Int)).tm,(at_ zs (j:Int)).u,(at_ zs (j:Int)).v,(at_ zs (j:Int)).w,(at_ zs (j:Int)).lb,(at_ zs (j:Int)).sg⟩))) (by dsimp only;exact ⟨om,(by have hsw:=ins_swapG (l:=(isortG evC (xs.take i))) (r:=xs.drop (i+1)) (x:=(at_ xs (i:Int))) (show 0<j by omega) om;rw [←hzs,←hz0,←hz1 om] at hsw;rw [hz0] at hsw ⊢; rw [show (((j:Int)).toNat)=j by omega,show (((j:Int) - 1).toNat)=j - 1 by omega];exact hsw),((place_stepG om (by rw [←hz1 om,←hz0];assumption)).trans hpl)⟩))))))))))
    ·refine Sr rfl (Bu (α:=Ev) (xs:=zs) ty108 rfl Bf om oo) Ay ?_
     refine Ds1 9 (Sr rfl (Bu (α:=Ev) (xs:=zs) ty108 rfl Bf om oo) Ay ?_)
     refine Dr 14 rfl (Runs.idxs Ev A5 ty108 rfl rfl (hsm om) om om) (Ds1 15 (Se0 rfl (Cw (α:=Ev) (xs:=zs) (e:=108) (new:=⟨(at_ zs ((j:Int) - 1)).kd,(at_ zs ((j:Int) - 1)).tm,(at_ zs ((j:Int) - 1)).u,(at_ zs ((j:Int) - 1)).v,(at_ zs ((j:Int) - 1)).w,(at_ zs ((j:Int) - 1)).lb,(at_ zs ((j:Int) - 1)).sg⟩) ty108 rfl rfl rfl om oo am) ?_))
     refine Dr 16 rfl (Runs.idxs Ev A5 ty108 rfl rfl (hsm om) om om) (Ds1 17 (Se0 rfl (Cw (α:=Ev) (xs:=List.set zs ((j:Int)).toNat (⟨(at_ zs ((j:Int) - 1)).kd,(at_ zs ((j:Int) - 1)).tm,(at_ zs ((j:Int) - 1)).u,(at_ zs ((j:Int) - 1)).v,(at_ zs ((j:Int) - 1)).w,(at_ zs ((j:Int) - 1)).lb,(at_ zs ((j:Int) - 1)).sg⟩)) (e:=108) (new:=⟨(at_ zs (j:Int)).kd,(at_ zs (j:Int)).tm,(at_ zs (j:Int)).u,(at_ zs (j:Int)).v,(at_ zs (j:Int)).w,(at_ zs (j:Int)).lb,(at_ zs (j:Int)).sg⟩) ty108 rfl rfl rfl om oo am) ?_))
     exact Dz (Aj (Ai (Ar (S6 0 1 2 3 8 9 rfl rfl rfl rfl rfl rfl) (A2 (Gm rfl (Gr (Rsu rfl rfl) (Ga rfl (Bh (B7 ((j - 1),(List.set (List.set zs ((j:Int)).toNat (⟨(at_ zs ((j:Int) - 1)).kd,(at_ zs ((j:Int) - 1)).tm,(at_ zs ((j:Int) - 1)).u,(at_ zs ((j:Int) - 1)).v,(at_ zs ((j:Int) - 1)).w,(at_ zs ((j:Int) - 1)).lb,(at_ zs ((j:Int) - 1)).sg⟩)) ((j:Int) - 1).toNat (⟨(at_ zs (j:Int)).kd,(at_ zs (j:Int)).tm,(at_ zs (j:Int)).u,(at_ zs (j:Int)).v,(at_ zs (j:Int)).w,(at_ zs (j:Int)).lb,(at_ zs (j:Int)).sg⟩))) (by dsimp only;exact ⟨om,(by have hsw:=ins_swapG (l:=(isortG evC (xs.take i))) (r:=xs.drop (i+1)) (x:=(at_ xs (i:Int))) (show 0<j by omega) om;rw [←hzs,←hz0,←hz1 om] at hsw;rw [hz0] at hsw ⊢; rw [show (((j:Int)).toNat)=j by omega,show (((j:Int) - 1).toNat)=j - 1 by omega];exact hsw),((place_stepG om (by rw [←hz1 om,←hz0];assumption)).trans hpl)⟩))))))))))
   ·exact Bs (Am (Am (A7 (Aj (Ai (A2 (Gm rfl (Gr (Rad rfl rfl) (Ga rfl (Bh (B7 ((i+1),(zs)) (by dsimp only;exact ⟨om,(by rw [hzs];exact ins_endsG om hpl (by first|exact .inl om|(by_cases h0:j=0;(· exact .inl h0);(· exact .inr ⟨by omega,by rw [←hz0,←hz1 om];assumption⟩))))⟩))))))))))))
  ·exact Dpo 4 rfl (Dpo 5 rfl (Dpo 6 rfl (Dpo 7 rfl (Dpo 8 rfl (Dpo 9 rfl (Dpo 10 rfl (Dpo 11 rfl (Dpo 12 rfl (Dpo 13 rfl (Dpo 14 rfl (Dpo 15 rfl (Dr 16 rfl (Au rfl rfl) (Dz (Ai (Ar (S7 34 0 1 2 3 8 9 rfl rfl rfl rfl rfl rfl rfl) (D0 rfl (Bs (Am (Am (A7 (Aj (Ai (A2 (Gm rfl (Gr (Rad rfl rfl) (Ga rfl (Bh (B7 ((i+1),(zs)) (by dsimp only;exact ⟨om,(by rw [hzs];exact ins_endsG om hpl (by first|exact .inl om|(by_cases h0:j=0;(· exact .inl h0);(· exact .inr ⟨by omega,by rw [←hz0,←hz1 om];assumption⟩))))⟩)))))))))))))))))))))))))))))
 ·refine Bs (Am (Am (A7 ?_)))
  have hE:ys=isortG evC xs:=by rw [hy];rcases hi.2 with h|h;(· have e:i=xs.length:=om;rw [e,List.take_length,List.drop_length,List.append_nil]);(· rw [List.take_of_length_le om,List.drop_eq_nil_of_le om,List.append_nil])
  exact V.end0 rfl (vc 108 (.slice a xs.length c) (isortG evC xs)::I) (by rw [hE];exact Ay) ⟨rfl,rfl⟩
theorem StableE_ok{a:Option Addr}{c:Nat}{xs:List Ev}(hn:xs.length≤19) :
    CallS Tryz.prog κ 280 [.slice a xs.length c,I64 (((xs.length:Nat):Int)),.func (.func 230) #[] #[]] (vc 108 (.slice a xs.length c) (xs)::I) (fun r J=>r = .tuple #[]∧J=vc 108 (.slice a xs.length c) (isortG evC xs)::I):=by
 refine Ce3 Tryz.func280 rfl rfl ?_
 refine Ah (Ga rfl (Af (Ah (Gm rfl (Ga rfl (Ga rfl (Af (Ap (A3 (Bv (σ:=Nat) (fun s=>([(0,.slice a xs.length c),(1,I64 (((xs.length:Nat):Int))),(2,.func (.func 230) #[] #[]),(6,I64 (20)),(7,I64 (0)),(8,I64 (20))]:Env)) (fun s=>vc 108 (.slice a xs.length c) (xs)::I) (fun s=>True) (fun s=>0) (0) (show True from trivial) (Ab rfl (Ab rfl (Ab rfl (Ab rfl (Ab rfl (Ab rfl Bj)))))) (show Fit κ _ (vc 108 (.slice a xs.length c) (xs)::I) from Ay) ?_))))))))))
 rintro z hp
 refine Ap (Ah (Gm rfl (Gm rfl (Gr (Dv rfl rfl) (Af (A9 rfl (fun c13=>?_) (fun c13=>?_)))))))
 ·omega
 ·refine Bs (Am (Am (A7 (Ai (Ah (Gm rfl (Gm rfl (Gm rfl (Gm rfl (Gc1 (Al call315 rfl rfl (Cg (J:=vc 108 (.slice a xs.length c) (xs)::I) Bt (InsSortE_ok (xs:=xs) om))) ?_))))))))))
  refine Af (Ar (S4 0 1 2 6 rfl rfl rfl rfl) (A3 (Bv (σ:=Nat) (fun s=>([(0,.slice a xs.length c),(1,I64 (((xs.length:Nat):Int))),(2,.func (.func 230) #[] #[]),(6,I64 (20))]:Env)) (fun s=>vc 108 (.slice a xs.length c) (isortG evC xs)::I) (fun s=>True) (fun s=>0) (0) (show True from trivial) (Ab rfl (Ab rfl (Ab rfl (Ab rfl Bj)))) (show Fit κ _ (vc 108 (.slice a xs.length c) (isortG evC xs)::I) from Ay) ?_)))
  rintro z hp
  refine Ap (Ah (Gm rfl (Gm rfl (Gr (Bb rfl rfl) (Af (A9 rfl (fun c30=>?_) (fun c30=>?_)))))))
  ·omega
  ·exact Bs (Am (Am (A7 (V.end0 rfl (vc 108 (.slice a xs.length c) (isortG evC xs)::I) Ay ⟨rfl,rfl⟩))))
theorem SortStableE_ok{a:Option Addr}{c:Nat}{xs:List Ev}(hn:xs.length≤19) :
    CallS Tryz.prog κ 229 [.slice a xs.length c,.func (.func 230) #[] #[]] (vc 108 (.slice a xs.length c) (xs)::I) (fun r J=>r = .tuple #[]∧J=vc 108 (.slice a xs.length c) (isortG evC xs)::I):=by
 refine Ce2 Tryz.func229 rfl rfl ?_
 refine A2 (Gm rfl (Gm rfl (Gr (Bq A5 rfl) (Gm rfl (Gc1 (Al call280 rfl rfl (Cg (J:=vc 108 (.slice a xs.length c) (xs)::I) Bt (StableE_ok (xs:=xs) om))) ?_)))))
 exact Bh (V.end0 rfl (vc 108 (.slice a xs.length c) (isortG evC xs)::I) Ay ⟨rfl,rfl⟩)
theorem late_yes{kd wd:Int}{xs:List Lk}{k:Nat}(h:k<xs.length)(h1:kd=2)(h2:(at_ xs (k:Int)).tm+wd≤1048576):lateL kd wd (xs.take (k+1))=lateL kd wd (xs.take k)++[cutAt wd (at_ xs (k:Int))]:=by
 rw [lateL_take h,if_pos (show lateP kd wd (at_ xs (k:Int))=true from decide_eq_true ⟨h1,h2⟩)]
theorem late_no{kd wd:Int}{xs:List Lk}{k:Nat}(h:k<xs.length)(h1:¬kd=2∨¬(at_ xs (k:Int)).tm+wd≤1048576):lateL kd wd (xs.take (k+1))=lateL kd wd (xs.take k):=by
 rw [lateL_take h,if_neg (fun h=>by have h3:=of_decide_eq_true h;rcases h1 with h1|h1<;>omega),List.append_nil]
theorem Late_ok{nd kd wd mo:Int}{va:Value}{xs:List Lk}(hl:Sl κ I va xs)(hv:checkS nd xs=0)(hw:0≤wd∧wd≤1048576)(hsz:xs.length≤19) :
    CallS Tryz.prog κ 166 [.agg #[I64 (nd),va],.agg #[I64 (kd),I64 (wd),I64 (mo)]] I (fun r J=>∃a c,r = .slice a (isortG evC (lateL kd wd xs)).length c∧J=vc 108 (.slice a (isortG evC (lateL kd wd xs)).length c) (isortG evC (lateL kd wd xs))::I):=by
 refine B4 hl.le fun hmax=>?_
 refine Ce2 Tryz.func166 rfl rfl ?_
 refine Ah (Ge1 (Bc (cs:=[_,_]) rfl rfl rfl) fun b1=>Ge1 (Bc (cs:=[_,_,_]) rfl rfl rfl) fun b2=>Ga rfl (Af (Ah (Ga rfl (Af (Ap (Ah (Gf fld111_1 rfl (Gl ty109 ?_)))))))))
 refine Gr (Bw (α:=Lk) (xs:=xs) Aq rfl (Bi hl)) (Gm rfl (Af (A3 (Bv (σ:=Nat×(Option Addr)×Nat×(List Ev)) (fun s=>([(3,.pointer (some ⟨b2,0,none⟩)),(5,.slice s.2.1 s.2.2.2.length s.2.2.1),(10,va),(11,I64 (((xs.length:Nat):Int))),(12,I64 (((s.1:Nat):Int)))]:Env)) (fun s=>vc 108 (.slice s.2.1 s.2.2.2.length s.2.2.1) (s.2.2.2)::blk b2 [I64 (kd),I64 (wd),I64 (mo)] 31::blk b1 [I64 (nd),va] 111::I) (fun s=>(s.1≤xs.length)∧(s.2.2.2=lateL kd wd (xs.take s.1))) (fun s=>xs.length - s.1) (0,none,0,[]) (show ((0:Nat)≤xs.length)∧(([]:List Ev)=lateL kd wd (xs.take (0:Nat))) from ⟨om,rfl⟩) (Ab rfl (Ab (C1 rfl (by first|rfl|simp)) (Ab rfl (Ab rfl (Ab Cc Bj))))) (show Fit κ _ (vc 108 (.slice (none) ([]).length (0)) (([]))::blk b2 [I64 (kd),I64 (wd),I64 (mo)] 31::blk b1 [I64 (nd),va] 111::I) from (Bx _ _)) ?_))))
 rintro ⟨k,a,c,out⟩ hp
 dsimp only at hp ⊢
 obtain ⟨hk,ho⟩:=hp
 have hol:out.length≤k:=by rw [ho];have h1:=lateL_len kd wd (xs.take k);rw [List.length_take] at h1;omega
 refine Ah (Gr (Bb rfl rfl) (Af (Ap (A9 rfl (fun c13=>?_) (fun c13=>?_)))))
 ·refine A1 (Ai (Ap (A3 (Ah (Gr (A0 (α:=Lk) (xs:=xs) Aq ty146 rfl rfl (Bi hl) om om) (Gr (Bu (α:=Lk) (xs:=xs) ty146 rfl (Bi hl) om om) (Ge1 (A8 ty146 rfl) fun b3=>Ge0 (D5 ty146) ?_)))))))
  have htk:=checkS_tm hv (k:Int) om om
  refine Af (Ah (Gf fld146_5 rfl (Gl ty3 ?_)))
  refine Gf fld31_1 rfl (Gl ty3 ?_)
  refine Gr (Rad rfl rfl) (Ga rfl (Af (Ar (S7 8 7 3 5 10 11 12 rfl rfl rfl rfl rfl rfl rfl) (Ah (Gf fld31_0 rfl (Gl ty3 ?_))))))
  refine Gr (Bm rfl rfl) (Gm rfl (Bk (d:=24) rfl (fun g24=>?_) (fun g24=>?_)))
  ·refine Gro (Ad rfl) (Gro (Dv rfl rfl) (Gr (As rfl rfl) (Af (Ar (S8 27 8 7 3 5 10 11 12 rfl rfl rfl rfl rfl rfl rfl rfl) (A9 rfl (fun c27=>?_) (fun c27=>?_))))))
   ·refine A2 (Gm rfl (Gm rfl (Gf fld146_0 rfl (Gl ty3 ?_))))
    refine Gf fld146_1 rfl (Gl ty3 ?_)
    refine Gr (Bg (cells:=[_,_,_,_,_,_,_]) ty108 De pl108 rfl rfl) (Ge1 (B8 (α:=Ev) (cs:=[I64 (2),I64 (((at_ xs (k:Int)).tm)+wd),I64 ((at_ xs (k:Int)).u),I64 ((at_ xs (k:Int)).v),I64 (0),I64 (0),I64 (0)]) (xs:=[⟨2,((at_ xs (k:Int)).tm)+wd,(at_ xs (k:Int)).u,(at_ xs (k:Int)).v,0,0,0⟩]) A5 ty108 rfl rfl dc dc rfl kr rfl rfl) fun ad4=>?_)
    refine Ge2 (Ch (α:=Ev) (e:=108) (xs:=out) (ys:=([⟨2,((at_ xs (k:Int)).tm)+wd,(at_ xs (k:Int)).u,(at_ xs (k:Int)).v,0,0,0⟩]:List Ev)) A5 ty108 rfl rfl rfl mm Bf lcn dc rfl (fun _ _=>am)) fun ad5 cp6=>?_
    exact Ga rfl (Bh (Aj (Ai (Ar (S5 5 3 10 11 12 rfl rfl rfl rfl rfl) (A2 (Gr (Rad rfl rfl) (Gm rfl (Bh (B7 ((k+1),(ad5),(cp6),(out++([⟨2,((at_ xs (k:Int)).tm)+wd,(at_ xs (k:Int)).u,(at_ xs (k:Int)).v,0,0,0⟩]:List Ev))) (by dsimp only;exact ⟨om,(by first|(rw [late_yes om g24 asm,←ho];rfl)|(rw [late_no om (.inl g24),←ho])|(rw [late_no om (.inr asm),←ho]))⟩))))))))))
   ·exact A1 (Aj (Ai (A2 (Gr (Rad rfl rfl) (Gm rfl (Bh (B7 ((k+1),(a),(c),(out)) (by dsimp only;exact ⟨om,(by first|(rw [late_yes om g24 asm,←ho];rfl)|(rw [late_no om (.inl g24),←ho])|(rw [late_no om (.inr asm),←ho]))⟩))))))))
  ·exact Gpo (Gpo (Gr (Au rfl rfl) (Af (Ar (S8 27 8 7 3 5 10 11 12 rfl rfl rfl rfl rfl rfl rfl rfl) (D0 rfl (A1 (Aj (Ai (A2 (Gr (Rad rfl rfl) (Gm rfl (Bh (B7 ((k+1),(a),(c),(out)) (by dsimp only;exact ⟨om,(by first|(rw [late_yes om g24 asm,←ho];rfl)|(rw [late_no om (.inl g24),←ho])|(rw [late_no om (.inr asm),←ho]))⟩))))))))))))))
 ·refine Bs (Am (Am (A7 (Ai (Ah (Gm rfl (Gc1 (Al call229 rfl rfl (Cg (J:=vc 108 (.slice a out.length c) (out)::blk b2 [I64 (kd),I64 (wd),I64 (mo)] 31::blk b1 [I64 (nd),va] 111::I) Bt (SortStableE_ok (xs:=out) om))) ?_)))))))
  refine Af (Ah (Gm rfl (Ga rfl (Af (Az ?_)))))
  have hE:out=lateL kd wd xs:=by rw [ho,List.take_of_length_le om]
  have hEl:(isortG evC out).length=out.length:=(isort_permG evC out).length_eq
  exact A4 rfl rfl (vc 108 (.slice a (isortG evC (lateL kd wd xs)).length c) (isortG evC (lateL kd wd xs))::I) (by rw [←hE,hEl];exact Bt) ⟨a,c,by rw [←hE,hEl],rfl⟩
end Go.Sl
namespace Go.Sl
open Go.RowKit (Below)
section
variable {P:Program}{κ:Ctx}{N:Frm}{Q:Exit→Act→World→Prop}{L:Env}{I J:List Item}{ops:Array Oper}{l m:Nat}
theorem WR.cond{c:Operand}{x y:Code}{t:Bool}(hc:evalO L c=some (.bool t))(h1:t=true→WR P κ N l m x Q L I)(h2:t=false→WR P κ N l m y Q L I):WR P κ N l m (.cond c x y) Q L I:=
 fun a w ha hs=>wpIn_cond_split (ha.eval hc) (fun h=>h1 h a w ha hs) (fun h=>h2 h a w ha hs)
theorem WR.ite{c:Operand}{x y:Code}{p:Prop}[Decidable p](hc:evalO L c=some (.bool (decide p)))(h1:p→WR P κ N l m x Q L I)(h2:¬p→WR P κ N l m y Q L I):WR P κ N l m (.cond c x y) Q L I:=
 WR.cond hc (fun h=>h1 (of_decide_eq_true h)) (fun h=>h2 (of_decide_eq_false h))
theorem WR.no{c:Operand}{x y:Code}(hc:evalO L c=some (.bool false))(h:WR P κ N l m y Q L I):WR P κ N l m (.cond c x y) Q L I:=WR.cond hc (fun e=>by cases e) (fun _=>h)
theorem WR.skip(h:V κ N Q .normal L I):WR P κ N l m .skip Q L I:=fun a w ha hs=>wpIn_skip (h a w ha hs)
theorem WR.exit{id:Nat}(h:V κ N Q (.exit id) L I):WR P κ N l m (.exit id) Q L I:=fun a w ha hs=>wpIn_exit (h a w ha hs)
theorem WR.ret(h:V κ N Q .ret L I):WR P κ N l m .ret Q L I:=fun a w ha hs=>wpIn_ret (h a w ha hs)
def YieldB(P:Program)(κ:Ctx)(l:Nat)(args:List Value)(I:List Item)(Post:Bool→List Item→Prop):Prop:=∀w,Sep κ w I→YieldAt Fence.wide 0 P l args.toArray w fun e w'=>∃b,e = .returned (.bool b)∧∃J,Post b J∧Sep κ w' J
theorem V.roundB{r:Loop}{Post:Bool→List Item→Prop}(J:List Item)(hf:Fit κ I (recI l {r with state:= .busy}::J))(hp:r.state = .ready∧r.pending=none)(hP:Post true (recI l r::J)):V κ N (roundPost P l fun e w'=>∃b,e = .returned (.bool b)∧∃K,Post b K∧Sep κ w' K) .normal L I:=fun a w ha hs=>by
 have hs':=hf w hs
 have hl:=(hs'.ok _ List.mem_cons_self).1
 refine ⟨_,_,run_endRound none hl,true,rfl,?_⟩
 have e:({({r with state:= .busy}:Loop) with state:=if (none:Option Code).isNone then .ready else .done,pending:=none}:Loop)=r:=by
  obtain ⟨h1,h2⟩:=hp
  cases r;simp_all
 rw [e]
 exact ⟨_,hP,hs'.putRec⟩
theorem V.roundX{r:Loop}{Post:Bool→List Item→Prop}{id:Nat}(J:List Item)(hf:Fit κ I (recI l {r with state:= .busy}::J))(hP:Post false (recI l {r with state:= .done,pending:=some (.exit id)}::J)):V κ N (roundPost P l fun e w'=>∃b,e = .returned (.bool b)∧∃K,Post b K∧Sep κ w' K) (.exit id) L I:=fun a w ha hs=>by
 have hs':=hf w hs
 have hl:=(hs'.ok _ List.mem_cons_self).1
 exact ⟨_,_,run_endRound (some (.exit id)) hl,false,rfl,_,hP,hs'.putRec⟩
theorem V.roundRet{r:Loop}{Post:Bool→List Item→Prop}(J:List Item)(hf:Fit κ I (recI l {r with state:= .busy}::J))(hP:Post false (recI l {r with state:= .done,pending:=some .ret}::J)):V κ N (roundPost P l fun e w'=>∃b,e = .returned (.bool b)∧∃K,Post b K∧Sep κ w' K) .ret L I:=fun a w ha hs=>by
 have hs':=hf w hs
 have hl:=(hs'.ok _ List.mem_cons_self).1
 exact ⟨_,_,run_endRound (some .ret) hl,false,rfl,_,hP,hs'.putRec⟩
theorem YieldB.mk{r:Loop}{Post:Bool→List Item→Prop}{args:List Value}{L₁:Env}(hps:args.length=r.params.size)(hrd:r.state = .ready∧r.pending=none){body:Code}(hb:r.body=body)
  (hassign:∀(w:World) (K:Act→World→Prop),(∀a₁,Ag N a₁ L₁→K a₁ w)→r.assign.wpIn (Fence.wide.inRound l) 0 P (Exit.then K (fun _ _ _=>False)) {tmps:=(r.params.zip args.toArray).foldl (fun t (p,v)=>t.setIfInBounds p v) r.tmps,defers:=[]} w)
  (hbody:WR P κ N l 0 body (roundPost P l fun e w'=>∃b,e = .returned (.bool b)∧∃K,Post b K∧Sep κ w' K) L₁ (recI l {r with state:= .busy}::I)) :
  YieldB P κ l args (recI l r::I) Post:=fun w hs=>by
 have hl:=(hs.ok _ List.mem_cons_self).1
 refine ⟨_,_,_,_,run_yield hl (by simpa using hps),roundIn_of_wpIn trivial ?_⟩
 refine hassign w _ fun a₁ ha=>⟨_,run_beginRound hl hrd.1,?_⟩
 have h:=hbody a₁ _ ha hs.putRec
 rw [←hb] at h
 exact h
theorem fold_two(tm:Array Value)(p q:Tmp)(v u:Value):(#[p,q].zip [v,u].toArray).foldl (fun t (p,v)=>t.setIfInBounds p v) tm=(tm.setIfInBounds p v).setIfInBounds q u:=by simp
theorem GY.yieldB{rest:List Oper}{Post:Bool→List Item→Prop}{l dd:Nat}{x:Operand}{xs:List Operand}{vs:List Value}{ats:Array TypeId}{ty:TypeId}{ps:String}{af:Array Edge}{gd:Option (Nat×Bool)}
  (hw:Wanted N ops ⟨some dd,.call {callee:= .value x,args:=xs.toArray,argTypes:=ats},ty,ps,af,gd⟩ L) (hfv:evalO L x=some (.func (.yield l) #[] #[])) (hx:evalL L xs=some vs) (hN:Nat.blt dd N.n=true) (hy:YieldB P κ l vs I Post)
  (h:∀b J,Post b J→GY P κ N ops Q rest ((dd,.bool b)::L) J):GY P κ N ops Q (⟨some dd,.call {callee:= .value x,args:=xs.toArray,argTypes:=ats},ty,ps,af,gd⟩::rest) L I:=fun a w ha hs=>by
 obtain ⟨fn,tmps,assign,body,hyr,hR⟩:=hy w hs
 have he:(execOp a.eval ⟨some dd,.call {callee:= .value x,args:=xs.toArray,argTypes:=ats},ty,ps,af,gd⟩).run P w = .ok (.round l fn tmps assign body) w:=by
  simp only [execOp,resolve,ha.eval hfv,Deferred.ofValue,invoke,Sem.run_bind,Sem.run_pure,Result.andThen_ok,List.map_toArray,ha.evalL hx]
  simpa using hyr
 unfold wpListIn
 rw [if_pos (hw a ha)]
 refine ⟨fun _ _=>trivial,?_⟩
 simp only [Fence.wide_round,Oper.semAt_none,he,Oper.uponIn]
 refine ⟨fun hd=>by simp [Fence.wide] at hd,hR.mono fun e w' ⟨b,h1,J,hP,h2⟩=>?_⟩
 subst h1
 exact h b J hP _ w' (ha.put dd hN _) h2
theorem GY.pass{o:Oper}{rest:List Oper}{d:Nat}(hw:Unwanted N ops o L)(hd:o.dst=some d)(hN:Nat.blt d N.n=true)(h:GY P κ N ops Q rest ((d,undef)::L) I):GY P κ N ops Q (o::rest) L I:=
 fun a w ha hs=>by
  unfold wpListIn
  rw [if_neg (by simp [hw a ha])]
  rw [hd]
  exact ⟨fun _ _=>trivial,h _ w (ha.put d hN _) hs⟩
theorem YieldB.fit{l:Nat}{args:List Value}{Post:Bool→List Item→Prop}(hf:Fit κ I J)(h:YieldB P κ l args J Post):YieldB P κ l args I Post:=fun w hs=>h w (hf w hs)
theorem perm_fr{A L T:List Item}:(A++(L++T)).Perm (L++(A++T)):=by
 rw [←List.append_assoc,←List.append_assoc];exact List.perm_append_comm.append_right T
theorem W.rangeFnB{g:Operand}{ps:Array Tmp}{assign body:Code}{gf:FuncId}{lb:List Value}(hg:evalO L g=some (.func (.func gf) #[] lb.toArray))(hc:callable P gf=true)
  (h:∀(D l:Nat) (r:Loop),(r.state = .ready∧r.pending=none)→r.params=ps→r.assign=assign→r.body=body→Ag ⟨N.n,[]⟩ {tmps:=r.tmps,defers:=[]} L→
   CallS P κ gf (.func (.yield l) #[] #[]::lb) (recI l r::dfrI D::I) fun v K=>
    (∃J,K=recI l r::dfrI D::J∧V κ ⟨N.n,markD D::N.ds⟩ Q .normal L (dfrI D::J))∨
    ∃c J,K=recI l {r with state:= .done,pending:=some c}::dfrI D::J∧W P κ ⟨N.n,markD D::N.ds⟩ c Q L (dfrI D::J)) :
  W P κ N (.rangeFunc g ps assign body) Q L I:=fun a w ha hs=>by
 refine (wpIn_wide (n:=0)).1 (wpIn_rangeFunc ?_)
 intro fn _
 obtain ⟨r,hr⟩:∃r:Loop,r={state:= .ready,pending:=none,fn,tmps:=a.tmps,params:=ps,assign,body,defers:=w.heap.size}:=⟨_,rfl⟩
 obtain ⟨W1,hW1⟩:∃W1,(w.alloc (.deferred (some []))).alloc (.loop r)=W1:=⟨_,rfl⟩
 have hD1:(w.alloc (.deferred (some []))).heap[w.heap.size]? = some (.deferred (some [])):=World.alloc_heap_new w _
 have s1:Sep κ (w.alloc (.deferred (some []))) (dfrI w.heap.size::I):=hs.new (hs.alloc _) hD1 fun k hk=>by obtain rfl:k=_:=hk;exact ⟨Nat.le_refl _,by simp⟩
 have hL1:W1.heap[w.heap.size+1]? = some (.loop r):=by
  rw [←hW1];have:=World.alloc_heap_new (w.alloc (.deferred (some []))) (.loop r);rwa [World.size_alloc] at this
 have s2:Sep κ W1 (recI (w.heap.size+1) r::dfrI w.heap.size::I):=by
  rw [←hW1]
  exact s1.new (s1.alloc _) (by rw [hW1];exact hL1) fun k hk=>by obtain rfl:k=_:=hk;exact ⟨by simp,by simp⟩
 have hcall:=h w.heap.size (w.heap.size+1) r (by rw [hr];exact ⟨rfl,rfl⟩) (by rw [hr]) (by rw [hr]) (by rw [hr]) ⟨rfl,by rw [hr];exact ha.size,by rw [hr];exact ha.get⟩ W1 s2
 refine ⟨w.heap.size+1,[markD w.heap.size],W1,{target:= .fn (.func gf) lb.toArray,args:= #[.func (.yield (w.heap.size+1)) #[] #[]]},W1,gf, #[.func (.yield (w.heap.size+1)) #[] #[]]++lb.toArray,W1,?_,?_,fun _ _=>trivial,?_,fun hd=>by simp [Fence.wide] at hd,?_⟩
 ·rw [←hW1,hr];exact run_enterLoop_outer _ _ _ _ _
 ·simp only [resolve,ha.eval hg]
  simp [go_sem]
 ·simp [invoke,go_sem,run_callFunc hc]
 ·refine callsIn_wide.2 ?_
  have e1:(#[.func (.yield (w.heap.size+1)) #[] #[]]++lb.toArray:Array Value)=(Value.func (.yield (w.heap.size+1)) #[] #[]::lb).toArray:=by simp
  rw [e1]
  have hag:∀(N':Frm) (t:Array Value),True→True:=fun _ _ _=>trivial
  refine hcall.mono fun e w' ⟨v,K,he,hK,hs'⟩=>?_
  subst he
  rcases hK with ⟨J,hK,hV⟩|⟨c,J,hK,hW⟩
  ·subst hK
   have hl:=(hs'.ok _ List.mem_cons_self).1
   have hst:r.state ≠ .busy:=by rw [hr];exact fun h=>by cases h
   refine ⟨_,_,run_endLoop hl hst,?_⟩
   have hp:r.pending=none:=by rw [hr]
   rw [hp]
   exact hV _ _ ⟨by show [markD w.heap.size]++a.defers=_;rw [ha.defers];rfl,ha.size,ha.get⟩ hs'.putRec.tail
  ·subst hK
   have hl:=(hs'.ok _ List.mem_cons_self).1
   refine ⟨_,_,run_endLoop hl (fun h=>by cases h),?_⟩
   exact wpIn_wide.2 (hW _ _ ⟨by show [markD w.heap.size]++a.defers=_;rw [ha.defers];rfl,ha.size,ha.get⟩ hs'.putRec.tail)
end
end Go.Sl
/- Searching what is left of a network: the plain law of the search by layers. No Go. -/
namespace Go.Sl
section
variable (n:Net)(f out:List Int)
def un:Nat:=out.count (-1)
end
section
variable {n:Net}{f out todo:List Int}{x:Int}{k1 k2:Nat}
theorem un_set{y i:Int}(hy:0≤y∧y<out.length)(h:at_ out y = -1)(hi:i ≠ -1):un (out.set y.toNat i)+1=un out:=by
 unfold un
 have hl:y.toNat<out.length:=by omega
 have hg:out[y.toNat] = -1:=by rw [at_eq hy.1 hy.2] at h;exact h
 rw [List.count_set hl]
 have hpos:0<out.count (-1):=List.count_pos_iff.2 (hg▸List.getElem_mem hl)
 have e1:(out[y.toNat]==(-1:Int))=true:=by simp [hg]
 have e2:(i==(-1:Int))=false:=by simpa using hi
 rw [e1,e2]
 simp only [if_true,Bool.false_eq_true,if_false]
 omega
end
end Go.Sl
/- Flows and cuts: the plain law. No Go. -/
namespace Go.Sl
def netF(n:Net)(f:List Int)(v:Int):Int:=
 sumN n.arcs.length fun k=>(if (at_ n.arcs (k:Int)).frm=v then at_ f (k:Int) else 0) - (if (at_ n.arcs (k:Int)).dst=v then at_ f (k:Int) else 0)
structure IsFlow (n:Net) (f:List Int):Prop where
 len:f.length=n.arcs.length
 cap:∀k:Nat,k<n.arcs.length→0≤at_ f (k:Int)∧at_ f (k:Int)≤(at_ n.arcs (k:Int)).cap
 cons:∀v,0≤v→v<n.nodes→v≠n.source→v≠n.sink→netF n f v=0
def cutS(n:Net)(S:Int→Bool):Int:=sumN n.arcs.length fun k=>if S (at_ n.arcs (k:Int)).frm && !S (at_ n.arcs (k:Int)).dst then (at_ n.arcs (k:Int)).cap else 0
theorem arc_at{n:Net}(hok:n.Ok){k:Nat}(hk:k<n.arcs.length):(0≤(at_ n.arcs (k:Int)).frm∧(at_ n.arcs (k:Int)).frm<n.nodes)∧(0≤(at_ n.arcs (k:Int)).dst∧(at_ n.arcs (k:Int)).dst<n.nodes)∧(at_ n.arcs (k:Int)).frm≠(at_ n.arcs (k:Int)).dst∧0≤(at_ n.arcs (k:Int)).cap∧(at_ n.arcs (k:Int)).cap≤1099511627776:=
 hok.arc _ (Ce om om)
theorem sumN_ind{m:Nat}{v:Int}(h0:0≤v)(h1:v<m)(S:Int→Bool)(c:Int):sumN m (fun j=>if S (j:Int) then (if v=(j:Int) then c else 0) else 0)=if S v then c else 0:=by
 have e:v=((v.toNat:Nat):Int):=by omega
 rw [C5 m (h:=fun j=>if j=v.toNat then (if S v then c else 0) else 0) fun j hj=>?_]
 ·exact sumN_at om _
 ·by_cases hj:j=v.toNat
  ·subst hj;rw [if_pos rfl,←e,if_pos rfl]
  ·rw [if_neg hj,if_neg (show ¬v=(j:Int) by omega)];split<;>rfl
theorem value_cut{n:Net}(hok:n.Ok){f:List Int}(hf:IsFlow n f)(S:Int→Bool)(hs:S n.source=true)(ht:S n.sink=false) :
  netF n f n.source=sumN n.arcs.length fun k=>(if S (at_ n.arcs (k:Int)).frm && !S (at_ n.arcs (k:Int)).dst then at_ f (k:Int) else 0) - (if S (at_ n.arcs (k:Int)).dst && !S (at_ n.arcs (k:Int)).frm then at_ f (k:Int) else 0):=by
 have hsrc:=hok.src
 -- the sum of what goes out of the nodes of S
 have h1:sumN n.nodes.toNat (fun v=>if S (v:Int) then netF n f (v:Int) else 0)=netF n f n.source:=by
  rw [C5 n.nodes.toNat (h:=fun j=>if j=n.source.toNat then netF n f n.source else 0) fun j hj=>?_]
  ·exact sumN_at om _
  ·by_cases hj':j=n.source.toNat
   ·subst hj'
    rw [if_pos rfl,show ((n.source.toNat:Nat):Int)=n.source from by omega,hs];simp
   ·rw [if_neg hj']
    by_cases hS:S (j:Int)=true
    ·rw [if_pos hS]
     refine hf.cons _ om om (fun e=>hj' om) fun e=>?_
     rw [e,ht] at hS;cases hS
    ·rw [if_neg hS]
 rw [←h1]
 have h2:sumN n.nodes.toNat (fun v=>if S (v:Int) then netF n f (v:Int) else 0) =
   sumN n.nodes.toNat (fun v=>sumN n.arcs.length fun k=>(if S (v:Int) then (if (at_ n.arcs (k:Int)).frm=(v:Int) then at_ f (k:Int) else 0) else 0) - (if S (v:Int) then (if (at_ n.arcs (k:Int)).dst=(v:Int) then at_ f (k:Int) else 0) else 0)):=
  C5 _ fun v _=>by
   by_cases hS:S (v:Int)=true
   ·rw [if_pos hS];unfold netF
    exact C5 _ fun k _=>by rw [if_pos hS,if_pos hS]
   ·rw [if_neg hS]
    exact (sumN_eq_zero _ fun k _=>by rw [if_neg hS,if_neg hS];rfl).symm
 rw [h2,sumN_swap]
 refine C5 _ fun k hk=>?_
 have ha:=arc_at hok hk
 rw [sumN_sub,sumN_ind ha.1.1 om,sumN_ind ha.2.1.1 om]
 cases S (at_ n.arcs (k:Int)).frm<;>cases S (at_ n.arcs (k:Int)).dst<;>simp
theorem value_le{n:Net}(hok:n.Ok){f:List Int}(hf:IsFlow n f)(S:Int→Bool)(hs:S n.source=true)(ht:S n.sink=false):netF n f n.source≤cutS n S:=by
 rw [value_cut hok hf S hs ht]
 refine sumN_le _ fun k hk=>?_
 have hc:=hf.cap k hk
 cases S (at_ n.arcs (k:Int)).frm<;>cases S (at_ n.arcs (k:Int)).dst<;>simp<;>omega
def Shut(n:Net)(f:List Int)(S:Int→Bool):Prop:=∀k:Nat,k<n.arcs.length→
 (S (at_ n.arcs (k:Int)).frm=true→at_ f (k:Int)<(at_ n.arcs (k:Int)).cap→S (at_ n.arcs (k:Int)).dst=true)∧
 (S (at_ n.arcs (k:Int)).dst=true→0<at_ f (k:Int)→S (at_ n.arcs (k:Int)).frm=true)
theorem shut_value{n:Net}(hok:n.Ok){f:List Int}(hf:IsFlow n f){S:Int→Bool}(hs:S n.source=true)(ht:S n.sink=false):netF n f n.source=cutS n S↔Shut n f S:=by
 rw [value_cut hok hf S hs ht]
 have hle:∀k,k<n.arcs.length→((if S (at_ n.arcs (k:Int)).frm && !S (at_ n.arcs (k:Int)).dst then at_ f (k:Int) else 0) - (if S (at_ n.arcs (k:Int)).dst && !S (at_ n.arcs (k:Int)).frm then at_ f (k:Int) else 0))≤(if S (at_ n.arcs (k:Int)).frm && !S (at_ n.arcs (k:Int)).dst then (at_ n.arcs (k:Int)).cap else 0):=fun k hk=>by
  have hc:=hf.cap k hk
  cases S (at_ n.arcs (k:Int)).frm<;>cases S (at_ n.arcs (k:Int)).dst<;>simp<;>omega
 constructor
 ·intro h k hk
  have:=sumN_eq_terms _ hle h k hk
  have hc:=hf.cap k hk
  revert this
  cases h1:S (at_ n.arcs (k:Int)).frm<;>cases h2:S (at_ n.arcs (k:Int)).dst<;>simp<;>omega
 ·intro h
  refine C5 _ fun k hk=>?_
  have hc:=hf.cap k hk
  have:=h k hk
  revert this
  cases h1:S (at_ n.arcs (k:Int)).frm<;>cases h2:S (at_ n.arcs (k:Int)).dst<;>simp<;>omega
end Go.Sl
/- Sending along a way: the plain law. No Go. -/
namespace Go.Sl
section
variable {n:Net}{f out:List Int}{rk:Int→Nat}
theorem netF_set{k:Nat}(hk:k<n.arcs.length){f1:List Int}(hl:f1.length=n.arcs.length)(c v:Int) :
  netF n (f1.set k c) v=netF n f1 v+(if (at_ n.arcs (k:Int)).frm=v then c - at_ f1 (k:Int) else 0) - (if (at_ n.arcs (k:Int)).dst=v then c - at_ f1 (k:Int) else 0):=by
 have hat:∀j:Nat,at_ (f1.set k c) (j:Int)=if k=j then c else at_ f1 (j:Int):=fun j=>at_setn f1 k j c om
 unfold netF
 rw [sumN_upd hk (g:=fun k=>(if (at_ n.arcs (k:Int)).frm=v then at_ f1 (k:Int) else 0) - (if (at_ n.arcs (k:Int)).dst=v then at_ f1 (k:Int) else 0)) (fun j hj hjk=>by simp only [hat j,if_neg (fun e=>hjk e.symm:¬k=j)])]
 simp only [hat k,if_true]
 split<;>split<;>omega
theorem at_all{p:Int→Prop}{i:Int}{m:Nat}(h:∀k:Nat,k<m→p (k:Int))(h0:0≤i)(hi:i<m):p i:=by
 have:=h i.toNat om
 rwa [show ((i.toNat:Nat):Int)=i from by omega] at this
theorem arc_ok(hok:n.Ok){i:Int}(h0:0≤i)(hi:i<n.arcs.length):(0≤(at_ n.arcs i).frm∧(at_ n.arcs i).frm<n.nodes)∧(0≤(at_ n.arcs i).dst∧(at_ n.arcs i).dst<n.nodes)∧(at_ n.arcs i).frm≠(at_ n.arcs i).dst∧0≤(at_ n.arcs i).cap∧(at_ n.arcs i).cap≤1099511627776:=hok.arc _ (Ce h0 hi)
theorem cap_ok(hf:∀k:Nat,k<n.arcs.length→0≤at_ f (k:Int)∧at_ f (k:Int)≤(at_ n.arcs (k:Int)).cap){i:Int}(h0:0≤i)(hi:i<n.arcs.length):0≤at_ f i∧at_ f i≤(at_ n.arcs i).cap:=at_all (p:=fun i=>0≤at_ f i∧at_ f i≤(at_ n.arcs i).cap) hf h0 hi
end
end Go.Sl
/- The least and the greatest side of a cut: the plain law. No Go. -/
namespace Go.Sl
def sideL(N:Nat)(R:Int→Bool):List Int:=((List.range N).map fun k=>((k:Nat):Int)).filter R
theorem sideL_succ(N:Nat)(R:Int→Bool):sideL (N+1) R=sideL N R++if R (N:Int) then [(N:Int)] else []:=by
 unfold sideL
 rw [List.range_succ,List.map_append,List.filter_append]
 congr 1
 by_cases h:R (N:Int)<;>simp [h]
theorem sideL_yes{N:Nat}{R:Int→Bool}(h:R (N:Int)=true):sideL (N+1) R=sideL N R++[(N:Int)]:=by rw [sideL_succ,if_pos h]
theorem sideL_no{N:Nat}{R:Int→Bool}(h:R (N:Int)=false):sideL (N+1) R=sideL N R:=by rw [sideL_succ,h];simp
theorem sideL_len(N:Nat)(R:Int→Bool):(sideL N R).length≤N:=by
 have:=List.length_filter_le R ((List.range N).map fun k=>((k:Nat):Int))
 simpa [sideL] using this
theorem mem_sideL{N:Nat}{R:Int→Bool}{z:Int}:z∈sideL N R↔(0≤z∧z<N)∧R z=true:=by
 unfold sideL
 rw [List.mem_filter,List.mem_map]
 constructor
 ·rintro ⟨⟨k,hk,rfl⟩,h⟩
  exact ⟨⟨by omega,by have:=List.mem_range.1 hk;omega⟩,h⟩
 ·rintro ⟨⟨h0,h1⟩,h⟩
  exact ⟨⟨z.toNat,List.mem_range.2 om,by omega⟩,h⟩
structure Great (n:Net) (f:List Int) (T:Int→Bool):Prop where
 src:T n.source=true
 snk:T n.sink=false
 shut:Shut n f T
 great:∀S:Int→Bool,Shut n f S→S n.sink=false→∀z,0≤z→z<n.nodes→S z=true→T z=true
section
variable {n:Net}{f g:List Int}{R R':Int→Bool}
theorem Great.value(hok:n.Ok)(hf:IsFlow n f)(h:Great n f R):netF n f n.source=cutS n R:=(shut_value hok hf h.src h.snk).2 h.shut
end
theorem cut_nonneg_le{n:Net}(hok:n.Ok)(S:Int→Bool):0≤cutS n S∧cutS n S≤18014398509481984:=by
 have h:∀m:Nat,m≤n.arcs.length→0≤sumN m (fun k=>if S (at_ n.arcs (k:Int)).frm && !S (at_ n.arcs (k:Int)).dst then (at_ n.arcs (k:Int)).cap else 0)∧sumN m (fun k=>if S (at_ n.arcs (k:Int)).frm && !S (at_ n.arcs (k:Int)).dst then (at_ n.arcs (k:Int)).cap else 0)≤(m:Int)*1099511627776:=fun m=>by
  induction m with
  |zero=>intro _;simp [sumN]
  |succ m ih=>
   intro hm
   have:=ih om
   have:=arc_at hok (k:=m) om
   simp only [sumN]
   split<;>omega
 have:=h n.arcs.length (Nat.le_refl _)
 have:=hok.lim
 unfold cutS
 omega
theorem flow_zero(n:Net)(hok:n.Ok):IsFlow n (List.replicate n.arcs.length (0:Int))∧netF n (List.replicate n.arcs.length (0:Int)) n.source=0:=by
 have h0:∀k:Nat,k<n.arcs.length→at_ (List.replicate n.arcs.length (0:Int)) (k:Int)=0:=fun k hk=>at_rep _ _ _ om om
 have hn:∀v,netF n (List.replicate n.arcs.length (0:Int)) v=0:=fun v=>sumN_eq_zero _ fun k hk=>by rw [h0 k hk];simp
 exact ⟨⟨by simp,fun k hk=>by rw [h0 k hk];have:=arc_at hok hk;omega,fun v _ _ _ _=>hn v⟩,hn _⟩
end Go.Sl
/- Searching back from the sink: the plain law. No Go. -/
namespace Go.Sl
end Go.Sl
/- What a check of a flow accepts: the plain law. No Go. -/
namespace Go.Sl
end Go.Sl
/- Networks with one arc more, and turned round; sets between the least and the greatest side: the plain law. No Go. -/
namespace Go.Sl
end Go.Sl
namespace Go.Sl
open Go.Proofs
set_option maxRecDepth 4000
theorem intLin:LinO (fun a b:Int=>a<b):=⟨fun a h=>by omega,fun a b c h1 h2=>by omega,fun a b=>by omega⟩
theorem ValidP_iff{l:List Int}{N:Int}:ValidP l N↔(∀x∈l,0≤x∧x<N)∧l.Pairwise (fun a b:Int=>a<b):=by
 constructor
 ·intro h
  refine ⟨fun x hx=>ValidP_mem h hx,pairwise_next intLin.tr fun i hi=>?_⟩
  have:=(h (i+1) hi).2 om
  rwa [show ((i+1:Nat):Int) - 1=(i:Int) from by omega] at this
 ·rintro ⟨h1,h2⟩ j hj
  refine ⟨h1 _ (Ce om om),fun h0=>?_⟩
  have:=(pairwise_at l).1 h2 (j - 1) j om hj
  rwa [show ((j - 1:Nat):Int)=(j:Int) - 1 from by omega] at this
end Go.Sl
/- Cuts of graphs: how many edges a set separates; least cuts; which nodes few edges cannot separate. No Go. No conditions. -/
namespace Go.Sl
theorem sumN_list{α:Type}[Inhabited α](g:α→Int)(l:List α):sumN l.length (fun k=>g (at_ l (k:Int)))=(l.map g).sum:=by
 have key:∀m,m≤l.length→sumN m (fun k=>g (at_ l (k:Int)))=((l.take m).map g).sum:=fun m=>by
  induction m with
  |zero=>intro _;simp [sumN]
  |succ m ih=>
   intro hm
   rw [C7 l m om,List.map_append,List.sum_append,←ih om]
   simp [sumN]
 have:=key l.length (Nat.le_refl _)
 rwa [List.take_length] at this
end Go.Sl
namespace Go.Sl
theorem mem_andB{a b:BitVec 64}{u:Int}:u∈listB (a &&& b)↔u∈listB a∧u∈listB b:=by
 simp only [mem_listB,BitVec.getLsbD_and,Bool.and_eq_true]
 constructor
 ·rintro ⟨h1,h2,h3⟩;exact ⟨⟨h1,h2⟩,h1,h3⟩
 ·rintro ⟨⟨h1,h2⟩,_,h3⟩;exact ⟨h1,h2,h3⟩
theorem listB_lt{m:BitVec 64}{u:Int}(h:u∈listB m):0≤u∧u<64:=by
 rw [mem_listB] at h
 refine ⟨h.1,Classical.byContradiction fun hn=>?_⟩
 rw [BitVec.getLsbD_of_ge _ _ (by omega)] at h
 exact absurd h.2 (by simp)
theorem mem_orbit{m:BitVec 64}{u k:Int}(h0:0≤k)(h1:k<64):u∈listB (m ||| 1#64 <<< k.toNat)↔u∈listB m∨u=k:=by
 constructor
 ·intro h
  have hu:=listB_lt h
  rw [mem_listB,BitVec.getLsbD_or,getLsb_shl _ _ (by omega),Bool.or_eq_true,decide_eq_true_eq] at h
  rw [mem_listB]
  rcases h.2 with h2|h2
  ·exact .inl ⟨h.1,h2⟩
  ·exact .inr (by omega)
 ·intro h
  have hu:0≤u∧u<64:=h.elim listB_lt fun h=>by omega
  rw [mem_listB,BitVec.getLsbD_or,getLsb_shl _ _ (by omega),Bool.or_eq_true,decide_eq_true_eq]
  rw [mem_listB] at h
  exact ⟨hu.1,h.elim (fun h=> .inl h.2) fun h=> .inr (by omega)⟩
theorem mem_minus{m:BitVec 64}{u k:Int}(h0:0≤k):u∈listB (m &&& ~~~(1#64 <<< k.toNat))↔u∈listB m∧u≠k:=by
 constructor
 ·intro h
  have hu:=listB_lt h
  rw [mem_listB,BitVec.getLsbD_and,BitVec.getLsbD_not,getLsb_shl _ _ (by omega),Bool.and_eq_true] at h
  rw [mem_listB]
  refine ⟨⟨h.1,h.2.1⟩,fun e=>?_⟩
  have h3:=h.2.2
  rw [e] at h3
  simp at h3
 ·rintro ⟨h,hne⟩
  have hu:=listB_lt h
  rw [mem_listB] at h
  rw [mem_listB,BitVec.getLsbD_and,BitVec.getLsbD_not,getLsb_shl _ _ (by omega),Bool.and_eq_true]
  refine ⟨h.1,h.2,?_⟩
  rw [decide_eq_false (show ¬k.toNat=u.toNat by omega)]
  simp;omega
theorem listB_nodup(m:BitVec 64):(listB m).Nodup:=(listB_asc m).imp fun h=>by omega
theorem listB_perm{m:BitVec 64}{k:Int}(h:k∈listB m):(listB m).Perm (k::listB (m &&& ~~~(1#64 <<< k.toNat))):=by
 have h0:=(listB_lt h).1
 refine (List.perm_ext_iff_of_nodup (listB_nodup _) (List.nodup_cons.2 ⟨fun e=>((mem_minus h0).1 e).2 rfl,listB_nodup _⟩)).2 fun u=>?_
 rw [List.mem_cons,mem_minus h0]
 by_cases e:u=k
 ·subst e;simp [h]
 ·simp [e]
theorem listB_minus{m:BitVec 64}{k:Int}(h:k∈listB m):(listB m).length=(listB (m &&& ~~~(1#64 <<< k.toNat))).length+1:=(listB_perm h).length_eq
theorem minus_same{m:BitVec 64}{k:Int}(h0:0≤k)(h:k∉listB m):(listB (m &&& ~~~(1#64 <<< k.toNat))).length=(listB m).length:=by
 refine ((List.perm_ext_iff_of_nodup (listB_nodup _) (listB_nodup _)).2 fun u=>?_).length_eq
 rw [mem_minus h0]
 exact ⟨fun h=>h.1,fun hu=>⟨hu,fun e=>h (e▸hu)⟩⟩
theorem nz_listB{m:BitVec 64}:m≠0#64↔∃u,u∈listB m:=by
 constructor
 ·intro h;exact ⟨_,by rw [listB_step h];exact List.mem_cons_self⟩
 ·rintro ⟨u,hu⟩ rfl
  rw [listB_zero] at hu;cases hu
theorem tzB_le{m:BitVec 64}(h:m≠0#64):tzB m∈listB m∧∀u∈listB m,tzB m≤u:=by
 have e:=listB_step h
 refine ⟨by rw [e];exact List.mem_cons_self,fun u hu=>?_⟩
 have ha:=listB_asc m
 rw [e] at ha hu
 rcases List.mem_cons.1 hu with rfl|hu
 ·exact Int.le_refl _
 ·have:=(List.pairwise_cons.1 ha).1 u hu;omega
def degB(rows:List (BitVec 64))(left:BitVec 64)(v:Int):Nat:=(listB (at_ rows v &&& left)).length
structure Takes (rows:List (BitVec 64)) (left:BitVec 64) (v:Int):Prop where
 mem:v∈listB left
 le:∀u∈listB left,degB rows left v<degB rows left u∨(degB rows left v=degB rows left u∧v≤u)
theorem Takes.uniq{rows:List (BitVec 64)}{left:BitVec 64}{v v':Int}(h:Takes rows left v)(h':Takes rows left v'):v=v':=by
 have a:=h.le v' h'.mem
 have b:=h'.le v h.mem
 omega
theorem fold_least(f:Int→Nat):∀(l:List Int) (b:Int),(∀u∈l,b≤u)→l.Pairwise (· < ·)→
    ((l.foldl (fun b v=>if f v<f b then v else b) b=b∨l.foldl (fun b v=>if f v<f b then v else b) b∈l)∧
     (f (l.foldl (fun b v=>if f v<f b then v else b) b)<f b∨l.foldl (fun b v=>if f v<f b then v else b) b=b)∧
     ∀u∈l,f (l.foldl (fun b v=>if f v<f b then v else b) b)<f u∨(f (l.foldl (fun b v=>if f v<f b then v else b) b)=f u∧l.foldl (fun b v=>if f v<f b then v else b) b≤u))
  |[],b,_,_=>⟨.inl rfl,.inr rfl,fun u hu=>by cases hu⟩
  |x::xs,b,hb,hp=>by
    obtain ⟨hx,hp'⟩:=List.pairwise_cons.1 hp
    have hbx:=hb x List.mem_cons_self
    rw [List.foldl_cons]
    by_cases hc:f x<f b
    · rw [if_pos hc]
      obtain ⟨h1,h2,h3⟩:=fold_least f xs x (fun u hu=>by have:=hx u hu;omega) hp'
      generalize xs.foldl (fun b v=>if f v<f b then v else b) x=r at h1 h2 h3
      refine ⟨.inr (h1.elim (fun e=>e▸List.mem_cons_self) fun h=>List.mem_cons_of_mem _ h),.inl (h2.elim (fun h=>by omega) fun h=>by rw [h];exact hc),fun u hu=>?_⟩
      rcases List.mem_cons.1 hu with rfl|hu
      · exact h2.elim .inl fun h=> .inr ⟨by rw [h],by omega⟩
      · exact h3 u hu
    · rw [if_neg hc]
      obtain ⟨h1,h2,h3⟩:=fold_least f xs b (fun u hu=>hb u (List.mem_cons_of_mem _ hu)) hp'
      generalize xs.foldl (fun b v=>if f v<f b then v else b) b=r at h1 h2 h3
      refine ⟨h1.imp_right fun h=>List.mem_cons_of_mem _ h,h2,fun u hu=>?_⟩
      rcases List.mem_cons.1 hu with rfl|hu
      · rcases h2 with h|h
        · exact .inl (by omega)
        · rw [h];omega
      · exact h3 u hu
def takeF(rows:List (BitVec 64))(left:BitVec 64):Int:=(listB left).foldl (fun b v=>if degB rows left v<degB rows left b then v else b) ((listB left).headD 0)
theorem takeF_takes{rows:List (BitVec 64)}{left:BitVec 64}(h:left≠0#64):Takes rows left (takeF rows left):=by
 have e:=listB_step h
 have ha:=listB_asc left
 unfold takeF
 have hh:(listB left).headD 0=tzB left:=by rw [e];rfl
 rw [hh]
 obtain ⟨h1,_,h3⟩:=fold_least (degB rows left) (listB left) (tzB left) (tzB_le h).2 ha
 refine ⟨?_,h3⟩
 rcases h1 with h1|h1
 ·rw [h1];exact (tzB_le h).1
 ·exact h1
def coreF(rows:List (BitVec 64)):Nat→BitVec 64→Nat→List (Int×Nat)
 |0,_,_=>[]
 |n+1,left,k=>(takeF rows left,max k (degB rows left (takeF rows left)))::coreF rows n (left &&& ~~~(1#64 <<< (takeF rows left).toNat)) (max k (degB rows left (takeF rows left)))
def coreR(rows:List (BitVec 64))(left:BitVec 64)(k:Nat):List (Int×Nat):=coreF rows (listB left).length left k
theorem coreR_zero(rows:List (BitVec 64))(k:Nat):coreR rows 0#64 k=[]:=by unfold coreR;rw [listB_zero];rfl
theorem coreR_step{rows:List (BitVec 64)}{left:BitVec 64}{k:Nat}{v:Int}(h:Takes rows left v):coreR rows left k=(v,max k (degB rows left v))::coreR rows (left &&& ~~~(1#64 <<< v.toNat)) (max k (degB rows left v)):=by
 have hv:takeF rows left=v:=(takeF_takes (nz_listB.2 ⟨v,h.mem⟩)).uniq h
 unfold coreR
 rw [listB_minus h.mem]
 show (takeF rows left,_)::_=_
 rw [hv]
def ordL(l:List (Int×Nat)):List Int:=l.map fun p=>p.1
def numL(n:Nat)(l:List (Int×Nat)):List Int:=l.foldl (fun xs p=>xs.set p.1.toNat (p.2:Int)) (List.replicate n 0)
theorem numL_len(n:Nat)(l:List (Int×Nat)):(numL n l).length=n:=by
 unfold numL
 have:∀(l:List (Int×Nat)) (xs:List Int),(l.foldl (fun xs p=>xs.set p.1.toNat (p.2:Int)) xs).length=xs.length:=fun l=>by
  induction l with
  |nil=>intro xs;rfl
  |cons p l ih=>intro xs;rw [List.foldl_cons,ih,List.length_set]
 rw [this,List.length_replicate]
theorem numL_snoc(n:Nat)(l:List (Int×Nat))(v:Int)(k:Nat):numL n (l++[(v,k)])=(numL n l).set v.toNat (k:Int):=by
 unfold numL;rw [List.foldl_append];rfl
theorem ordL_snoc(l:List (Int×Nat))(v:Int)(k:Nat):ordL (l++[(v,k)])=ordL l++[v]:=by
 unfold ordL;rw [List.map_append];rfl
structure SymB (n:Nat) (rows:List (BitVec 64)):Prop where
 len:rows.length=n
 le:n≤64
 lt:∀u v:Int,0≤u→u<n→v∈listB (at_ rows u)→v<n
 sym:∀u v:Int,0≤u→u<n→v∈listB (at_ rows u)→u∈listB (at_ rows v)
 irr:∀u:Int,0≤u→u<n→u∉listB (at_ rows u)
theorem RowsOk.mem{nd:Int}{es:List Pt}{rows:List (BitVec 64)}(h:RowsOk nd es rows){u v:Int}(u0:0≤u)(u1:u<nd):v∈listB (at_ rows u)↔(0≤v∧v<64)∧((⟨u,v⟩:Pt)∈es∨(⟨v,u⟩:Pt)∈es):=by
 constructor
 ·intro hv
  have hr:=listB_lt hv
  rw [mem_listB,h.bit u v u0 u1 hr.1 hr.2,decide_eq_true_eq] at hv
  exact ⟨hr,hv.2⟩
 ·rintro ⟨hr,hv⟩
  rw [mem_listB,h.bit u v u0 u1 hr.1 hr.2,decide_eq_true_eq]
  exact ⟨hr.1,hv⟩
theorem RowsOk.symB{nd:Int}{es:List Pt}{rows:List (BitVec 64)}(h:RowsOk nd es rows)(hG:GrOk nd es):SymB nd.toNat rows:=by
 have hr:=hG.rng
 have hl:=h.len
 have ed:∀a b:Int,((⟨a,b⟩:Pt)∈es)→0≤a∧a<b∧b<nd:=fun a b hm=>hG.edge _ hm
 refine ⟨by omega,by omega,fun u v u0 u1 hv=>?_,fun u v u0 u1 hv=>?_,fun u u0 u1 hv=>?_⟩
 ·have:=((h.mem u0 (by omega)).1 hv).2
  rcases this with e|e<;>have:=ed _ _ e<;>omega
 ·obtain ⟨h1,h2⟩:=(h.mem u0 (by omega)).1 hv
  have h3:v<nd:=by rcases h2 with e|e<;>have:=ed _ _ e<;>omega
  exact (h.mem h1.1 h3).2 ⟨⟨u0,by omega⟩,h2.symm⟩
 ·have:=((h.mem u0 (by omega)).1 hv).2
  rcases this with e|e<;>have:=ed _ _ e<;>omega
section
variable {n:Nat}{rows:List (BitVec 64)}
theorem degB_lt(h:SymB n rows)(left:BitVec 64){v:Int}(v0:0≤v)(v1:v<n):degB rows left v<n:=by
 unfold degB
 have hs:(v::listB (at_ rows v &&& left)).Nodup:=List.nodup_cons.2 ⟨fun hm=>h.irr v v0 v1 (mem_andB.1 hm).1,listB_nodup _⟩
 have hsub:∀x∈(v::listB (at_ rows v &&& left)),x∈(List.range n).map fun (i:Nat)=>(i:Int):=fun x hx=>by
  rw [List.mem_map]
  rcases List.mem_cons.1 hx with rfl|hx
  ·exact ⟨x.toNat,List.mem_range.2 (by omega),by omega⟩
  ·have h1:=(mem_andB.1 hx).1
   have h2:=h.lt v x v0 v1 h1
   have h3:=(listB_lt h1).1
   exact ⟨x.toNat,List.mem_range.2 (by omega),by omega⟩
 have:=List.Nodup.length_le_of_subset hs hsub
 rw [List.length_map,List.length_range,List.length_cons] at this
 omega
theorem degB_minus(h:SymB n rows){left:BitVec 64}{u v:Int}(u0:0≤u)(u1:u<n)(v0:0≤v)(v1:v<n)(hv:v∈listB left) :
  degB rows left u=degB rows (left &&& ~~~(1#64 <<< v.toNat)) u+if u∈listB (at_ rows v) then 1 else 0:=by
 unfold degB
 rw [←BitVec.and_assoc]
 by_cases hm:u∈listB (at_ rows v)
 ·rw [if_pos hm]
  exact listB_minus (mem_andB.2 ⟨h.sym v u v0 v1 hm,hv⟩)
 ·rw [if_neg hm]
  exact (minus_same v0 fun e=>hm (h.sym u v u0 u1 (mem_andB.1 e).1)).symm
end
structure BkOk (n:Nat) (S:Int→Prop) (dg:Int→Nat) (dgs:List Int) (bks:List (BitVec 64)):Prop where
 dlen:dgs.length=n
 blen:bks.length=64
 rng:∀u,S u→0≤u∧u<n
 deg:∀u,S u→at_ dgs u=(dg u:Int)
 bkt:∀d:Int,0≤d→d<64→∀u:Int,u∈listB (at_ bks d)↔S u∧(dg u:Int)=d
section
variable {n:Nat}{S S':Int→Prop}{dg dg':Int→Nat}{dgs:List Int}{bks:List (BitVec 64)}
theorem BkOk.start(n:Nat)(dg:Int→Nat):BkOk n (fun u=>0≤u∧u<((0:Nat):Int)) dg (List.replicate n 0) (List.replicate 64 0#64):=
 ⟨List.length_replicate,List.length_replicate,fun u hu=>by omega,fun u hu=>by omega,fun d d0 d1 u=>by
  rw [at_rep64,listB_zero]
  exact ⟨(fun h=>by cases h),fun h=>by omega⟩⟩
theorem BkOk.congr(h:BkOk n S dg dgs bks)(hS:∀u,S' u↔S u)(hd:∀u,S u→dg' u=dg u):BkOk n S' dg' dgs bks:=
 ⟨h.dlen,h.blen,fun u hu=>h.rng u ((hS u).1 hu),fun u hu=>by rw [h.deg u ((hS u).1 hu),hd u ((hS u).1 hu)],fun d d0 d1 u=>by
  rw [h.bkt d d0 d1 u,hS]
  constructor
  ·rintro ⟨h1,h2⟩;exact ⟨h1,by rw [hd u h1];exact h2⟩
  ·rintro ⟨h1,h2⟩;exact ⟨h1,by rw [←hd u h1];exact h2⟩⟩
theorem BkOk.push(h:BkOk n S dg dgs bks){v c:Int}(v0:0≤v)(v1:v<n)(hn:n≤64)(hS:∀u,S' u↔S u∨u=v)(hv:¬S v)(hc:c=(dg v:Int))(c1:c<64) :
  BkOk n S' dg (dgs.set v.toNat c) (bks.set c.toNat (at_ bks c ||| 1#64 <<< v.toNat)):=by
 have hbl:=h.blen
 have hdl:=h.dlen
 refine ⟨by rw [List.length_set];exact hdl,by rw [List.length_set];exact hbl,fun u hu=>?_,fun u hu=>?_,fun d d0 d1 u=>?_⟩
 ·rcases (hS u).1 hu with hu|rfl
  ·exact h.rng u hu
  ·exact ⟨v0,v1⟩
 ·have hr:0≤u:=((hS u).1 hu).elim (fun hu=>(h.rng u hu).1) fun e=>by omega
  rw [at_set _ v u _ v0 hr (by omega)]
  rcases (hS u).1 hu with hu|rfl
  ·rw [if_neg (fun e=>hv (by rw [e];exact hu))];exact h.deg u hu
  ·rw [if_pos rfl,hc]
 ·rw [at_set _ c d _ (by omega) d0 (by omega),hS]
  by_cases e:c=d
  ·rw [if_pos e,mem_orbit v0 (by omega),e,h.bkt d d0 d1]
   constructor
   ·rintro (⟨h1,h2⟩|rfl)
    ·exact ⟨.inl h1,h2⟩
    ·exact ⟨.inr rfl,by omega⟩
   ·rintro ⟨h1|rfl,h2⟩
    ·exact .inl ⟨h1,h2⟩
    ·exact .inr rfl
  ·rw [if_neg e,h.bkt d d0 d1]
   constructor
   ·rintro ⟨h1,h2⟩;exact ⟨.inl h1,h2⟩
   ·rintro ⟨h1|rfl,h2⟩
    ·exact ⟨h1,h2⟩
    ·exact absurd (hc.trans h2) e
theorem BkOk.drop(h:BkOk n S dg dgs bks){v d:Int}(hv:S v)(hd:(dg v:Int)=d)(d1:d<64)(hS:∀u,S' u↔S u∧u≠v) :
  BkOk n S' dg dgs (bks.set d.toNat (at_ bks d &&& ~~~(1#64 <<< v.toNat))):=by
 have hbl:=h.blen
 have hr:=h.rng v hv
 refine ⟨h.dlen,by rw [List.length_set];exact hbl,fun u hu=>h.rng u ((hS u).1 hu).1,fun u hu=>h.deg u ((hS u).1 hu).1,fun c c0 c1 u=>?_⟩
 rw [at_set _ d c _ (by omega) c0 (by omega),hS]
 by_cases e:d=c
 ·rw [if_pos e,mem_minus hr.1,e,h.bkt c c0 c1]
  constructor
  ·rintro ⟨⟨h1,h2⟩,h3⟩;exact ⟨⟨h1,h3⟩,h2⟩
  ·rintro ⟨⟨h1,h3⟩,h2⟩;exact ⟨⟨h1,h2⟩,h3⟩
 ·rw [if_neg e,h.bkt c c0 c1]
  constructor
  ·rintro ⟨h1,h2⟩;exact ⟨⟨h1,fun e2=>e (by subst e2;omega)⟩,h2⟩
  ·rintro ⟨⟨h1,_⟩,h2⟩;exact ⟨h1,h2⟩
theorem BkOk.lower(h:BkOk n S dg dgs bks)(hn:n≤64){w e:Int}(hw:S w)(he:(dg w:Int)=e)(e0:1≤e)(e1:e<64)(hd:∀u,S u→dg' u=if u=w then dg u - 1 else dg u) :
  BkOk n S dg' (dgs.set w.toNat (e - 1)) ((bks.set e.toNat (at_ bks e &&& ~~~(1#64 <<< w.toNat))).set (e - 1).toNat (at_ (bks.set e.toNat (at_ bks e &&& ~~~(1#64 <<< w.toNat))) (e - 1) ||| 1#64 <<< w.toNat)):=by
 have hr:=h.rng w hw
 have h1:BkOk n (fun u=>S u∧u≠w) dg dgs _:=h.drop hw he e1 (S':=fun u=>S u∧u≠w) fun u=>Iff.rfl
 have h2:BkOk n (fun u=>S u∧u≠w) dg' dgs _:=h1.congr (fun u=>Iff.rfl) fun u hu=>by rw [hd u hu.1,if_neg hu.2]
 have hdw:=hd w hw
 rw [if_pos rfl] at hdw
 refine (h2.push (S':=S) hr.1 hr.2 hn (fun u=>?_) (fun h=>h.2 rfl) (by omega) (by omega):BkOk n S dg' (dgs.set w.toNat (e - 1)) _)
 constructor
 ·intro hu
  by_cases e:u=w
  ·exact .inr e
  ·exact .inl ⟨hu,e⟩
 ·rintro (hu|rfl)
  ·exact hu.1
  ·exact hw
theorem BkOk.takes{rows:List (BitVec 64)}{left:BitVec 64}(h:BkOk n (fun u=>u∈listB left) (degB rows left) dgs bks){d:Int}(d0:0≤d)(d1:d<64)(hd:at_ bks d≠0#64)(hlt:∀c:Int,0≤c→c<d→at_ bks c=0#64)(hdeg:∀u∈listB left,degB rows left u<64) :
  Takes rows left (tzB (at_ bks d))∧(degB rows left (tzB (at_ bks d)):Int)=d:=by
 obtain ⟨h1,h2⟩:=tzB_le hd
 obtain ⟨h3,h4⟩:=(h.bkt d d0 d1 _).1 h1
 refine ⟨⟨h3,fun u hu=>?_⟩,h4⟩
 have hb:=hdeg u hu
 rcases Int.lt_trichotomy (degB rows left u:Int) d with h5|h5|h5
 ·have h6:=(h.bkt (degB rows left u:Int) (by omega) (by omega) u).2 ⟨hu,rfl⟩
  rw [hlt _ (by omega) h5,listB_zero] at h6
  cases h6
 ·exact .inr ⟨by omega,h2 u ((h.bkt d d0 d1 u).2 ⟨hu,h5⟩)⟩
 ·exact .inl (by omega)
theorem BkOk.some{rows:List (BitVec 64)}{left:BitVec 64}(h:BkOk n (fun u=>u∈listB left) (degB rows left) dgs bks)(hl:left≠0#64)(hdeg:∀u∈listB left,degB rows left u<64)(hz:∀c:Int,0≤c→c<64→at_ bks c=0#64):False:=by
 obtain ⟨u,hu⟩:=nz_listB.1 hl
 have hb:=hdeg u hu
 have h6:=(h.bkt (degB rows left u:Int) (by omega) (by omega) u).2 ⟨hu,rfl⟩
 rw [hz _ (by omega) (by omega),listB_zero] at h6
 cases h6
end
def degM(rows:List (BitVec 64))(left:BitVec 64)(ws:List Int)(j:Nat)(u:Int):Nat:=if u∈ws.take j then degB rows left u - 1 else degB rows left u
theorem degM_zero(rows:List (BitVec 64))(left:BitVec 64)(ws:List Int)(u:Int):degM rows left ws 0 u=degB rows left u:=by unfold degM;rw [if_neg (by simp)]
theorem degM_succ{rows:List (BitVec 64)}{left:BitVec 64}{ws:List Int}{j:Nat}(hj:j<ws.length)(hn:ws.Nodup)(u:Int):degM rows left ws (j+1) u=if u=at_ ws (j:Int) then degM rows left ws j u - 1 else degM rows left ws j u:=by
 have hnot:at_ ws (j:Int)∉ws.take j:=by
  rw [at_get ws j hj]
  intro hm
  obtain ⟨i,hi,e⟩:=List.mem_iff_getElem.1 hm
  rw [List.length_take] at hi
  rw [List.getElem_take] at e
  exact (List.pairwise_iff_getElem.1 hn) i j (by omega) hj (by omega) e
 unfold degM
 rw [take_at ws j hj]
 simp only [List.mem_append,List.mem_singleton]
 by_cases e:u=at_ ws (j:Int)
 ·subst e
  rw [if_pos (.inr rfl),if_pos rfl,if_neg hnot]
 ·rw [if_neg e]
  by_cases h2:u∈ws.take j
  ·rw [if_pos (.inl h2),if_pos h2]
  ·rw [if_neg (by rintro (h3|h3);exact h2 h3;exact e h3),if_neg h2]
theorem degM_now{rows:List (BitVec 64)}{left:BitVec 64}{ws:List Int}{j:Nat}(hj:j<ws.length)(hn:ws.Nodup):degM rows left ws j (at_ ws (j:Int))=degB rows left (at_ ws (j:Int)):=by
 have h1:=degM_succ (rows:=rows) (left:=left) hj hn (at_ ws (j:Int))
 rw [if_pos rfl] at h1
 unfold degM at h1 ⊢
 split
 ·rename_i h2
  have hnot:at_ ws (j:Int)∉ws.take j:=by
   rw [at_get ws j hj]
   intro hm
   obtain ⟨i,hi,e⟩:=List.mem_iff_getElem.1 hm
   rw [List.length_take] at hi
   rw [List.getElem_take] at e
   exact (List.pairwise_iff_getElem.1 hn) i j (by omega) hj (by omega) e
  exact absurd h2 hnot
 ·rfl
theorem degM_all{n:Nat}{rows:List (BitVec 64)}(h:SymB n rows){left:BitVec 64}{v:Int}(v0:0≤v)(v1:v<n)(hv:v∈listB left){u:Int}(u0:0≤u)(u1:u<n)(hu:u∈listB (left &&& ~~~(1#64 <<< v.toNat))){j:Nat}(hj:(listB (at_ rows v &&& (left &&& ~~~(1#64 <<< v.toNat)))).length≤j) :
  degM rows left (listB (at_ rows v &&& (left &&& ~~~(1#64 <<< v.toNat)))) j u=degB rows (left &&& ~~~(1#64 <<< v.toNat)) u:=by
 have h1:=degB_minus h u0 u1 v0 v1 hv
 unfold degM
 rw [List.take_of_length_le hj]
 by_cases hm:u∈listB (at_ rows v)
 ·rw [if_pos (mem_andB.2 ⟨hm,hu⟩)];rw [if_pos hm] at h1;omega
 ·rw [if_neg (fun e=>hm (mem_andB.1 e).1)];rw [if_neg hm] at h1;omega
end Go.Sl
/- The greatest set for which the edges inside, less a price for each node, are most, by a least cut. The plain law. No Go. No conditions. -/
namespace Go.Sl
def nodeArcs(N:Int)(v:Nat):List Arc:=[⟨0,2+(v:Int),0⟩,⟨2+(v:Int),1,N⟩]
def edgeArcs(nd D:Int)(es:List Pt)(i:Nat):List Arc:=[⟨0,2+nd+(i:Int),D⟩,⟨2+nd+(i:Int),2+(at_ es (i:Int)).u,D⟩,⟨2+nd+(i:Int),2+(at_ es (i:Int)).v,D⟩]
def denseArcs(nd N D:Int)(es:List Pt):List Arc:=(List.range nd.toNat).flatMap (nodeArcs N)++(List.range es.length).flatMap (edgeArcs nd D es)
def denseNet(nd N D:Int)(es:List Pt):Net:=⟨2+nd+(es.length:Int),0,1,denseArcs nd N D es⟩
theorem flat_len{α:Type}(f:Nat→List α)(c:Nat)(h:∀i,(f i).length=c)(n:Nat):((List.range n).flatMap f).length=n*c:=by
 induction n with
 |zero=>simp
 |succ n ih=>rw [List.range_succ,List.flatMap_append,List.length_append,ih,Nat.succ_mul];simp [h]
theorem denseArcs_len(nd N D:Int)(es:List Pt):(denseArcs nd N D es).length=nd.toNat*2+es.length*3:=by
 unfold denseArcs
 rw [List.length_append,flat_len _ 2 (fun _=>rfl),flat_len _ 3 (fun _=>rfl)]
theorem mem_denseArcs{nd N D:Int}{es:List Pt}{a:Arc}:a∈denseArcs nd N D es↔(∃v:Nat,(v:Int)<nd∧a∈nodeArcs N v)∨∃i:Nat,i<es.length∧a∈edgeArcs nd D es i:=by
 unfold denseArcs
 rw [List.mem_append,List.mem_flatMap,List.mem_flatMap]
 constructor
 ·rintro (⟨v,h1,h2⟩|⟨i,h1,h2⟩)
  ·exact .inl ⟨v,by have:=List.mem_range.1 h1;omega,h2⟩
  ·exact .inr ⟨i,List.mem_range.1 h1,h2⟩
 ·rintro (⟨v,h1,h2⟩|⟨i,h1,h2⟩)
  ·exact .inl ⟨v,List.mem_range.2 om,h2⟩
  ·exact .inr ⟨i,List.mem_range.2 h1,h2⟩
theorem denseNet_ok{nd N D:Int}{es:List Pt}(hG:GrOk nd es)(hm:es.length≤2016)(hN:0≤N∧N≤1099511627776)(hD:0≤D∧D≤1099511627776):(denseNet nd N D es).Ok:=by
 have hr:=hG.rng
 have hl:=denseArcs_len nd N D es
 refine ⟨⟨by show 2+nd+(es.length:Int)≤4200;omega,by show (denseArcs nd N D es).length≤16384;omega⟩,by show 2≤2+nd+(es.length:Int);omega,⟨Int.le_refl _,by show (0:Int)<2+nd+(es.length:Int);omega⟩,⟨by show (0:Int)≤1;decide,by show (1:Int)<2+nd+(es.length:Int);omega⟩,by show (0:Int)≠1;decide,fun a ha=>?_⟩
 show (0≤a.frm∧a.frm<2+nd+(es.length:Int))∧(0≤a.dst∧a.dst<2+nd+(es.length:Int))∧a.frm≠a.dst∧0≤a.cap∧a.cap≤1099511627776
 rcases mem_denseArcs.1 ha with ⟨v,hv,h⟩|⟨i,hi,h⟩
 ·simp only [nodeArcs,List.mem_cons,List.not_mem_nil,or_false] at h
  rcases h with rfl|rfl<;>simp only<;>omega
 ·have he:=hG.edge _ (Ce (xs:=es) (i:=(i:Int)) om om)
  simp only [edgeArcs,List.mem_cons,List.not_mem_nil,or_false] at h
  rcases h with rfl|rfl|rfl<;>simp only<;>omega
def costW(nd N D:Int)(es:List Pt)(W:Int→Bool):Int:=sumN nd.toNat (fun v=>if W (v:Int) then N else 0)+sumN es.length fun i=>if W (at_ es (i:Int)).u&&W (at_ es (i:Int)).v then 0 else D
def cutA(S:Int→Bool)(a:Arc):Int:=if S a.frm && !S a.dst then a.cap else 0
theorem sum_flat{α:Type}(φ:α→Int)(f:Nat→List α)(n:Nat):(((List.range n).flatMap f).map φ).sum=sumN n fun i=>((f i).map φ).sum:=by
 induction n with
 |zero=>rfl
 |succ n ih=>rw [List.range_succ,List.flatMap_append,List.map_append,List.sum_append,ih];simp [sumN]
theorem cut_dense(nd N D:Int)(es:List Pt)(S:Int→Bool)(h0:S 0=true)(h1:S 1=false):cutS (denseNet nd N D es) S =
  sumN nd.toNat (fun v=>if S (2+(v:Int)) then N else 0)+sumN es.length fun i=>(if S (2+nd+(i:Int)) then (if S (2+(at_ es (i:Int)).u) then 0 else D)+(if S (2+(at_ es (i:Int)).v) then 0 else D) else D):=by
 have e:cutS (denseNet nd N D es) S=((denseArcs nd N D es).map (cutA S)).sum:=by
  rw [←sumN_list];rfl
 rw [e]
 unfold denseArcs
 rw [List.map_append,List.sum_append,sum_flat,sum_flat]
 congr 1
 ·refine C5 _ fun v _=>?_
  simp [nodeArcs,cutA,h0,h1]
 ·refine C5 _ fun i _=>?_
  simp only [edgeArcs,cutA,List.map_cons,List.map_nil,List.sum_cons,List.sum_nil,h0]
  cases S (2+nd+(i:Int))<;>cases S (2+(at_ es (i:Int)).u)<;>cases S (2+(at_ es (i:Int)).v)<;>simp
def liftW(nd:Int)(es:List Pt)(W:Int→Bool)(z:Int):Bool:=
 decide (z=0)||(decide (2≤z∧z<2+nd)&&W (z - 2))||(decide (2+nd≤z∧z<2+nd+(es.length:Int))&&W (at_ es (z - 2 - nd)).u&&W (at_ es (z - 2 - nd)).v)
theorem liftW_node{nd:Int}{es:List Pt}{W:Int→Bool}{v:Int}(h0:0≤v)(h1:v<nd):liftW nd es W (2+v)=W v:=by
 unfold liftW
 rw [decide_eq_false (show ¬2+v=0 by omega),decide_eq_true (show 2≤2+v∧2+v<2+nd by omega),decide_eq_false (show ¬(2+nd≤2+v∧2+v<2+nd+(es.length:Int)) by omega),show 2+v - 2=v by omega]
 simp
theorem liftW_edge{nd:Int}{es:List Pt}{W:Int→Bool}{i:Nat}(hnd:0≤nd)(hi:i<es.length):liftW nd es W (2+nd+(i:Int))=(W (at_ es (i:Int)).u&&W (at_ es (i:Int)).v):=by
 unfold liftW
 rw [decide_eq_false (show ¬2+nd+(i:Int)=0 by omega),decide_eq_false (show ¬(2≤2+nd+(i:Int)∧2+nd+(i:Int)<2+nd) by omega),decide_eq_true (show 2+nd≤2+nd+(i:Int)∧2+nd+(i:Int)<2+nd+(es.length:Int) by omega),show 2+nd+(i:Int) - 2 - nd=(i:Int) by omega]
 simp
theorem cut_lift{nd N D:Int}{es:List Pt}(hG:GrOk nd es)(W:Int→Bool):liftW nd es W 0=true∧liftW nd es W 1=false∧cutS (denseNet nd N D es) (liftW nd es W)=costW nd N D es W:=by
 have hr:=hG.rng
 have a0:liftW nd es W 0=true:=by unfold liftW;simp
 have a1:liftW nd es W 1=false:=by
  unfold liftW
  rw [decide_eq_false (show ¬(1:Int)=0 by decide),decide_eq_false (show ¬(2≤(1:Int)∧(1:Int)<2+nd) by omega),decide_eq_false (show ¬(2+nd≤(1:Int)∧(1:Int)<2+nd+(es.length:Int)) by omega)];simp
 refine ⟨a0,a1,?_⟩
 rw [cut_dense _ _ _ _ _ a0 a1]
 unfold costW
 congr 1
 ·refine C5 _ fun v hv=>?_
  rw [liftW_node om om]
 ·refine C5 _ fun i hi=>?_
  have he:=hG.edge _ (Ce (xs:=es) (i:=(i:Int)) om om)
  rw [liftW_edge hr.1 hi,liftW_node om om,liftW_node om om]
  cases W (at_ es (i:Int)).u<;>cases W (at_ es (i:Int)).v<;>simp
theorem cost_le_cut{nd N D:Int}{es:List Pt}(hD:0≤D)(S:Int→Bool)(h0:S 0=true)(h1:S 1=false):costW nd N D es (fun v=>S (2+v))≤cutS (denseNet nd N D es) S:=by
 rw [cut_dense _ _ _ _ _ h0 h1]
 unfold costW
 dsimp only
 have:=sumN_le es.length (g:=fun i=>if S (2+(at_ es (i:Int)).u)&&S (2+(at_ es (i:Int)).v) then 0 else D)
  (h:=fun i=>(if S (2+nd+(i:Int)) then (if S (2+(at_ es (i:Int)).u) then 0 else D)+(if S (2+(at_ es (i:Int)).v) then 0 else D) else D)) fun i hi=>by
  cases S (2+nd+(i:Int))<;>cases S (2+(at_ es (i:Int)).u)<;>cases S (2+(at_ es (i:Int)).v)<;>simp<;>omega
 omega
theorem great_cost{nd N D:Int}{es:List Pt}(hG:GrOk nd es)(hm:es.length≤2016)(hN:0≤N∧N≤1099511627776)(hD:0≤D∧D≤1099511627776){f:List Int}{T:Int→Bool}(hf:IsFlow (denseNet nd N D es) f)(hT:Great (denseNet nd N D es) f T)(W:Int→Bool) :
  costW nd N D es (fun v=>T (2+v))≤costW nd N D es W∧(costW nd N D es W≤costW nd N D es (fun v=>T (2+v))→∀v,0≤v→v<nd→W v=true→T (2+v)=true):=by
 have hok:=denseNet_ok hG hm hN hD
 obtain ⟨l0,l1,l2⟩:=cut_lift (N:=N) (D:=D) hG W
 have h1:=cost_le_cut (nd:=nd) (N:=N) (es:=es) hD.1 T hT.src hT.snk
 have h2:cutS (denseNet nd N D es) T≤cutS (denseNet nd N D es) (liftW nd es W):=by
  rw [←hT.value hok hf];exact value_le hok hf _ l0 l1
 rw [l2] at h2
 refine ⟨by omega,fun hle v v0 v1 hv=>?_⟩
 have h3:netF (denseNet nd N D es) f (denseNet nd N D es).source=cutS (denseNet nd N D es) (liftW nd es W):=by
  rw [hT.value hok hf,l2];omega
 have h4:=(shut_value hok hf (S:=liftW nd es W) l0 l1).1 h3
 exact hT.great _ h4 l1 (2+v) om (by show 2+v<2+nd+(es.length:Int);omega) (by rw [liftW_node v0 v1];exact hv)
end Go.Sl
