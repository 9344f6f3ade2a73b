/- A part of the proofs of statements of this seat: contracts of functions, and the plain laws that they lean on. No conditions. -/
import Derived.Test.YtfkcohmipjhfcaaGreatDoorS8
set_option linter.unusedVariables false
set_option linter.unusedSimpArgs false
set_option linter.unusedSectionVars false
open Go.Proofs.Tryz (prog)
namespace Go.Sl
open Go.Proofs
set_option maxRecDepth 4000
variable {κ:Ctx}{I:List Item}
theorem ov324:∀args w,(callFunc 324 args).run prog w=((Extern.SlicesOverlaps.overlaps #[109,109] #[4] args).run prog w).andThen λv w'=> .ok (.value v) w':=λargs w=>run_callFunc_extern (e:=Extern.SlicesOverlaps.overlaps #[109,109] #[4]) Tryz.func324 kr kr kr kr args w
set_option maxHeartbeats 8000000 in
theorem InsertL_ok{a va:Option Addr}{c vcp i:Nat}{xs ys:List Lk}(hi:i<=xs.length)(hy:0<ys.length)(hsz:xs.length+ys.length<=1000000000):ep prog κ 303 [.slice a xs.length c,e7 ((i:Int)),.slice va ys.length vcp] (vc 146 (.slice a xs.length c) (xs)::vc 146 (.slice va ys.length vcp) (ys)::I) (λr J=>∃a' c',r = .slice a' (List.take i xs++ys++List.drop i xs).length c'/\J=vc 146 (.slice a' (List.take i xs++ys++List.drop i xs).length c') (List.take i xs++ys++List.drop i xs)::I):=by
 refine B3 (vc.cap List.mem_cons_self) λhcap=>?_
 have hRl:(List.take i xs++ys++List.drop i xs).length=xs.length+ys.length:=by simp only [List.length_append,List.length_take,List.length_drop];omega
 refine Ce3 Tryz.func303 C C ?_
 refine Ah (Ga C (Af (Ah (Gm C (Gm C (Gr (Eg (α:=Lk) (xs:=xs) (l:=i) Ar ty146 C C om Bg lat) (Af (Ah (Gm C (Gr (Bm Ar C) (Ga C (Af (Au (Ah (Gm C (Gr (Bi C C) (Af (A6 C (λc16=>?_) (λc16=>?_)))))))))))))))))))
 ·exact absurd c16 om
 ·refine Ay (Aj (Ah (Gm C (Gr (Bm Ar C) (Ga C (Af (Aq (S5 8 7 0 1 2 C C C C C) (Au (Ah (Gm C (Gm C (Gr (Bi C C) (Af (A6 C (λc22=>?_) (λc22=>?_)))))))))))))))
  ·refine Ah (Gm C (Gm C (Ge2 (B1 (α:=Lk) (e:=146) (xs:=xs) (ys:=ys) Ar ty146 C C C mm Bg om dc C (λ_ _=>am)) λad1 cp2=>?_)))
   refine Ga C (Af (Aw (Ai ?_)))
   have hR:List.take i xs++ys++List.drop i xs=xs++ys:=by rw [List.take_of_length_le om,List.drop_eq_nil_of_le om,List.append_nil]
   exact A1 C C (vc 146 (.slice ad1 (List.take i xs++ys++List.drop i xs).length cp2) (List.take i xs++ys++List.drop i xs)::I) (by rw [hR];exact B4) ⟨ad1,cp2,by rw [hR],rfl⟩
  ·refine Ay (Aj (Au (Ah (Gm C (Gm C (Gr (Rad C C) (Gm C (Gr (Runs.caps Ar C) (Gr (Bv C C) (Af (Aq (S6 31 8 7 0 1 2 C C C C C C) (A6 C (λc31=>?_) (λc31=>?_)))))))))))))
   ·refine Ah (Gm C (Gm C (Gr (Runs.hiraw (h:=i) Ar ty146 C C om om) (Gm C (Gm C (Gr (Rad C C) (Gm C (Gr (Rsu C C) (Ge2 (Eff.grow (α:=Lk) (xs:=xs) (k:=xs.length+ys.length - i) Ar B6 ty146 C C C om Bg om om om om dc C) λad3 cp4=>?_)))))))))
    refine Ga C (G.pull (p:=(List.take i xs++List.replicate (xs.length+ys.length - i) (default:Lk)).length<=cp4) (vc.cap mm) λhcap2=>?_)
    have hZl:(List.take i xs++List.replicate (xs.length+ys.length - i) (default:Lk)).length=xs.length+ys.length:=by simp only [List.length_append,List.length_take,List.length_replicate];omega
    refine Af (Aq (S5 9 7 0 1 2 C C C C C) (Ah (Gm C (Gm C (Gr (Eg (α:=Lk) (xs:=List.take i xs++List.replicate (xs.length+ys.length - i) (default:Lk)) (l:=i) Ar ty146 C C om Bg lat) (Gm C (Ge0 (Eff.copyT (α:=Lk) (k:=i) (q:=ys.length) (R:=List.take i xs++ys++List.replicate (xs.length - i) (default:Lk)) (n:=(i+(xs.length+ys.length - i))) Ar ty146 C lat C Bg lat lat C (ins1 hi) lat am) ?_)))))))
    refine Af (Au (Bl mixed (Br I 9 (Dr 0 C (Ad C) (Dr 1 C (Ad C) (Dr 2 C (Ad C) (Dr 3 C (Rad C C) (Dr 4 C (Ee (l:=(i+ys.length)) Ar ty146 C C om om om) (Dr 5 C (Ad C) (Dr 6 C (Ad C) (Dr 7 C (Ee (l:=i) Ar ty146 C C om om om) (Ds1 8 (Se0 C (Eff.copyT (α:=Lk) (k:=(i+ys.length)) (q:=(xs.length - i)) (R:=List.take i xs++ys++List.drop i xs) (n:=(i+(xs.length+ys.length - i))) Ar ty146 C lat C (Ex (Eq (xs:=xs) mm) om om) lat lat C (ins2 hi) lat am) ?_)))))))))))))
    exact Dz (Aj (Aq (S1 9 C) (Ah (Gm C (Ga C (Af (Aw (Ai (A1 C C (vc 146 (.slice ad3 (List.take i xs++ys++List.drop i xs).length cp4) (List.take i xs++ys++List.drop i xs)::I) (by rw [show (List.take i xs++ys++List.drop i xs).length=i+(xs.length+ys.length - i) by omega];exact B4) ⟨ad3,cp4,by rw [show (List.take i xs++ys++List.drop i xs).length=i+(xs.length+ys.length - i) by omega],rfl⟩)))))))))
   ·refine Ay (Aj (Ah (Gm C (Gm C (Gm C (Gr (Rad C C) (Gr (Runs.hiraw (h:=xs.length+ys.length) Ar ty146 C C om om) (Ga C (G.room (h:=xs.length+ys.length) (by repeat (first|exact AtF.head _ _|apply AtF.tail)) C om om (λjs hjs=>?_))))))))))
    show G prog κ _ _ _ _ ([(0,.slice a (xs.length+ys.length) c),(60,.slice a (xs.length+ys.length) c),(59,e7 (((xs.length:Nat):Int)+((ys.length:Nat):Int))),(58,e7 ((ys.length:Nat):Int)),(57,e7 ((xs.length:Nat):Int)),(56,.slice a xs.length c),(31,.bool (decide ((c:Int)<(((xs.length:Nat):Int)+((ys.length:Nat):Int))))),(8,e7 ((xs.length:Nat):Int)),(7,e7 ((ys.length:Nat):Int)),(0,.slice a xs.length c),(1,e7 ((i:Int))),(2,.slice va ys.length vcp)]:Env) (vec 146 (Enc.sz Lk) (.slice a (xs.length+ys.length) c) (xs.length+ys.length) (cells xs++js)::vc 146 (.slice va ys.length vcp) (ys)::I)
    refine Af (Au (Ah (Gm C (Gm C (Gm C (Gm C (Gr (Rad C C) (Gr (Ee (l:=(i+ys.length)) Ar ty146 C C om om om) (Ge0 (Eff.overlaps (k:=i+ys.length) ov324 Ar ty146 C C om om om (show Fit κ _ (vc 146 (.slice va ys.length vcp) ys::vec 146 (Enc.sz Lk) (.slice a (xs.length+ys.length) c) (xs.length+ys.length) (cells xs++js)::I) from Fit.sp (Sp.pick (Pick.tail _ (Pick.head _ _)) (Sp.refl _))) (Nat.mul_pos om Enc.pos) C) ?_)))))))))
    refine Gr (Cb C) (Af (Aq (S6 68 0 8 7 1 2 C C C C C C) (B7 C (Au (Bl mixed (Br I 9 (Dr 0 C (Ad C) (Dr 1 C (Ad C) (Dr 2 C (Ad C) (Dr 3 C (Rad C C) (Dr 4 C (Ee (l:=(i+ys.length)) Ar ty146 C C om om om) (Dr 5 C (Ad C) (Dr 6 C (Ad C) (Dr 7 C (Ee (l:=i) Ar ty146 C C om om om) (Ds1 8 (Se0 C (Eff.copyR (sz:=Enc.sz Lk) (n:=xs.length+ys.length) (cs:=(cells xs++js)) (k:=(i+ys.length)) (q:=(xs.length - i)) Ar ty146 C om C (SlRd.dropR (SlRd.vec mm) om) om om (ins_one hi) C am) ?_))))))))))))))))
    show D prog κ _ _ _ _ _ _ _ ([(77,e7 ((((xs.length - i):Nat):Int))),(76,.slice (adrop a c i (Enc.sz Lk)) ((xs.length+ys.length) - i) (c - i)),(75,e7 ((i:Int))),(74,.slice a (xs.length+ys.length) c),(73,.slice (adrop a c (i+ys.length) (Enc.sz Lk)) ((xs.length+ys.length) - (i+ys.length)) (c - (i+ys.length))),(72,e7 ((i:Int)+((ys.length:Nat):Int))),(71,e7 ((ys.length:Nat):Int)),(70,e7 ((i:Int))),(69,.slice a (xs.length+ys.length) c),(68,.bool true),(0,.slice a (xs.length+ys.length) c),(8,e7 ((xs.length:Nat):Int)),(7,e7 ((ys.length:Nat):Int)),(1,e7 ((i:Int))),(2,.slice va ys.length vcp)]:Env) (vec 146 (Enc.sz Lk) (.slice a (xs.length+ys.length) c) (xs.length+ys.length) (List.take ((i+ys.length)*Enc.sz Lk) (cells xs++js)++List.take ((xs.length - i)*Enc.sz Lk) (List.drop (i*Enc.sz Lk) (cells xs++js))++List.drop ((i+ys.length)*Enc.sz Lk+(xs.length - i)*Enc.sz Lk) (cells xs++js))::vc 146 (.slice va ys.length vcp) (ys)::I)
    refine Dz (Aj (Aq (S3 0 1 2 C C C) (Ah (Gm C (Gm C (Gr (Ee (l:=i) Ar ty146 C C om om om) (Gm C (Ge0 (Eff.copyR (sz:=Enc.sz Lk) (n:=xs.length+ys.length) (cs:=(List.take ((i+ys.length)*Enc.sz Lk) (cells xs++js)++List.take ((xs.length - i)*Enc.sz Lk) (List.drop (i*Enc.sz Lk) (cells xs++js))++List.drop ((i+ys.length)*Enc.sz Lk+(xs.length - i)*Enc.sz Lk) (cells xs++js))) (k:=i) (q:=ys.length) Ar ty146 C om C (show Sl κ _ (.slice va ys.length vcp) ys from (Eq (e:=146) (xs:=ys) mm)) om om (λu hu=>cells_one ys u (List.mem_of_mem_take hu)) C am) ?_))))))))
    show G prog κ _ _ _ _ ([(82,e7 ((ys.length:Nat):Int)),(81,.slice va ys.length vcp),(80,.slice (adrop a c i (Enc.sz Lk)) ((xs.length+ys.length) - i) (c - i)),(79,e7 ((i:Int))),(78,.slice a (xs.length+ys.length) c),(0,.slice a (xs.length+ys.length) c),(1,e7 ((i:Int))),(2,.slice va ys.length vcp)]:Env) (vec 146 (Enc.sz Lk) (.slice a (xs.length+ys.length) c) (xs.length+ys.length) (List.take (i*Enc.sz Lk) (List.take ((i+ys.length)*Enc.sz Lk) (cells xs++js)++List.take ((xs.length - i)*Enc.sz Lk) (List.drop (i*Enc.sz Lk) (cells xs++js))++List.drop ((i+ys.length)*Enc.sz Lk+(xs.length - i)*Enc.sz Lk) (cells xs++js))++List.take (ys.length*Enc.sz Lk) (cells ys)++List.drop (i*Enc.sz Lk+ys.length*Enc.sz Lk) (List.take ((i+ys.length)*Enc.sz Lk) (cells xs++js)++List.take ((xs.length - i)*Enc.sz Lk) (List.drop (i*Enc.sz Lk) (cells xs++js))++List.drop ((i+ys.length)*Enc.sz Lk+(xs.length - i)*Enc.sz Lk) (cells xs++js)))::vc 146 (.slice va ys.length vcp) (ys)::I)
    refine Af (Ah (Gm C (Ga C (Af (Aw (Ai ?_))))))
    have hC:(List.take (i*Enc.sz Lk) (List.take ((i+ys.length)*Enc.sz Lk) (cells xs++js)++List.take ((xs.length - i)*Enc.sz Lk) (List.drop (i*Enc.sz Lk) (cells xs++js))++List.drop ((i+ys.length)*Enc.sz Lk+(xs.length - i)*Enc.sz Lk) (cells xs++js))++List.take (ys.length*Enc.sz Lk) (cells ys)++List.drop (i*Enc.sz Lk+ys.length*Enc.sz Lk) (List.take ((i+ys.length)*Enc.sz Lk) (cells xs++js)++List.take ((xs.length - i)*Enc.sz Lk) (List.drop (i*Enc.sz Lk) (cells xs++js))++List.drop ((i+ys.length)*Enc.sz Lk+(xs.length - i)*Enc.sz Lk) (cells xs++js)))=cells (List.take i xs++ys++List.drop i xs):=ins_cells hi hjs
    exact A1 C C (vc 146 (.slice a (List.take i xs++ys++List.drop i xs).length c) (List.take i xs++ys++List.drop i xs)::I) (by rw [hC];show Fit κ _ (vec 146 _ (.slice a (List.take i xs++ys++List.drop i xs).length c) (List.take i xs++ys++List.drop i xs).length (cells (List.take i xs++ys++List.drop i xs))::I);rw [hRl];exact B4) ⟨a,c,by rw [hRl],rfl⟩
theorem InsertL_two{a va:Option Addr}{n m c vcp i:Nat}{xs ys:List Lk}{K:List Item}(hf:Fit κ I (vc 146 (.slice a n c) xs::vc 146 (.slice va m vcp) ys::K))(hn:n=xs.length)(hm:m=ys.length)(hi:i<=xs.length)(hy:0<ys.length)(hsz:xs.length+ys.length<=1000000000):ep prog κ 303 [.slice a n c,e7 (i:Int),.slice va m vcp] I (λr J=>∃a' c',r = .slice a' (List.take i xs++ys++List.drop i xs).length c'/\J=vc 146 (.slice a' (List.take i xs++ys++List.drop i xs).length c') (List.take i xs++ys++List.drop i xs)::K):=by
 subst hn hm
 exact Cm hf (InsertL_ok hi hy hsz)
theorem BSearchL{v:Value}{xs:List Lk}(hl:Sl κ I v xs)(x:Lk){g:FuncId}{cp_:List Value}{cf:Lk->Lk->Int}(hcb:Cmps prog κ I g cp_ cf)(hsz:xs.length<=1000000000000):ep prog κ 302 [v,.agg #[e7 (x.u),e7 (x.v),e7 (x.w),e7 (x.lb),e7 (x.sg),e7 (x.tm)],.func (.func g) #[] cp_.toArray] I (λr J=>∃i b,r = .tuple #[e7 ((i:Nat):Int),.bool b]/\BFound cf xs x i b/\I=J):=by
 refine B3 hl.le λhmax=>?_
 refine Ce3 Tryz.func302 C C ?_
 refine Ah (Ge1 (Bc (cs:=[_,_,_,_,_,_]) C C C) λb1=>Ga C (Ga C (Af (Ah (Gm C (Gr (Bx (α:=Lk) (xs:=xs) Ar C (Bh hl)) (Ga C (Af (Ah (Gm C (Ga C (Ga C (Af (Au (A4 (Bu (σ:=Nat×Nat) (λs=>([(0,v),(2,.func (.func g) #[] cp_.toArray),(4,.pointer (some ⟨b1,0,none⟩)),(8,e7 ((xs.length:Nat):Int)),(9,e7 ((s.1:Nat):Int)),(10,e7 ((s.2:Nat):Int))]:Env)) (λs=>e8 b1 [e7 (x.u),e7 (x.v),e7 (x.w),e7 (x.lb),e7 (x.sg),e7 (x.tm)] 146::I) (λs=>(s.1<=s.2)/\(s.2<=xs.length)/\(0<s.1->cf (e_ xs ((s.1:Int) - 1)) x<0)/\(s.2<xs.length->¬cf (e_ xs s.2) x<0)) (λs=>s.2 - s.1) (0,xs.length) (show ((0:Nat)<=(xs.length:Nat))/\((xs.length:Nat)<=xs.length)/\(0<(0:Nat)->cf (e_ xs (((0:Nat):Int) - 1)) x<0)/\((xs.length:Nat)<xs.length->¬cf (e_ xs ((xs.length:Nat):Int)) x<0) from ⟨om,om,(λh=>absurd h dc),(λh=>absurd h om)⟩) (Aa C (Aa C (Aa C (Aa C (Aa B9 (Aa B9 Bj)))))) (show Fit κ _ (e8 b1 [e7 (x.u),e7 (x.v),e7 (x.w),e7 (x.lb),e7 (x.sg),e7 (x.tm)] 146::I) from A5) ?_))))))))))))))))
 rintro ⟨i,j⟩ hp
 dsimp only at hp ⊢
 obtain ⟨hij,hj,hlo,hhi⟩:=hp
 refine Au (Ah (Gm C (Gm C (Gr (A9 C C) (Af (A6 C (λc17=>?_) (λc17=>?_)))))))
 ·refine Ay (Aj (A4 (Ah (Gm C (Gm C (Gr (Rad C C) (Gr (Runs.convU B6 Eo C om) (Gr (Runs.shr1 C C) (Gr (Runs.convI Eo B6 C (by unfold InR;omega)) (Ga C (Af (Aq (S7 11 0 2 4 8 9 10 C C C C C C C) (Au (Bl mixed (Br (e8 b1 [e7 (x.u),e7 (x.v),e7 (x.w),e7 (x.lb),e7 (x.sg),e7 (x.tm)] 146::I) 8 (Dr 0 C (Ad C) (Dr 1 C (Ad C) (Dr 2 C (Ad C) (Dr 3 C (A3 (α:=Lk) (xs:=xs) Ar ty146 C C (Bh hl) om om) (Dr 4 C (Bp (α:=Lk) (xs:=xs) ty146 C (Bh hl) om om) (Dr 5 C (Bq (vs:=[_,_,_,_,_,_]) ty146) ?_)))))))))))))))))))))
  refine Ds1 6 (Se C (Ct hcb.1 (first:=[]) (caps:=cp_) C C C (hcb.2 (e_ xs (((i:Int)+(j:Int)) / 2)) x _ A0)) ?_)
  rintro _ _ ⟨_,_,⟨rfl,rfl⟩,rfl,rfl⟩
  refine ⟨A5,?_⟩
  refine Dr 7 C (A9 C C) (Dz (Aj (Aq (S8 31 11 0 2 4 8 9 10 C C C C C C C C) (A6 C (λc31=>?_) (λc31=>?_)))))
  ·exact Ax (Gm C (Gr (Rad C C) (Ga C (Bd (Ak (B2 (((i+j) / 2+1),(j)) (by dsimp only;exact ⟨om,om,(λ_=>by rw [show (((i+j) / 2+1:Nat):Int) - 1=((i:Int)+(j:Int)) / 2 by omega];exact c31),hhi⟩)))))))
  ·exact Ax (Gm C (Ga C (Bd (Ak (B2 ((i),((i+j) / 2)) (by dsimp only;exact ⟨om,om,hlo,(λ_=>by rw [show (((i+j) / 2:Nat):Int)=((i:Int)+(j:Int)) / 2 by omega];exact c31)⟩))))))
 ·refine Bs (Ap (Ap (A7 (Aj (Au (Bl mixed (Br (e8 b1 [e7 (x.u),e7 (x.v),e7 (x.w),e7 (x.lb),e7 (x.sg),e7 (x.tm)] 146::I) 16 (Dr 0 C (Ad C) (Dr 1 C (Ad C) (Dr 2 C (Ad C) (Dr 3 C (A9 C C) (Dr 4 C (Ad C) (C9 (d:=39) C (λg39=>?_) (λg39=>?_))))))))))))))
  ·refine Dro 5 C (Ad C) (Dro 6 C (Ad C) (Dro 7 C (Ad C) (Dro 8 C (A3 (α:=Lk) (xs:=xs) Ar ty146 C C (Bh hl) om om) (Dro 9 C (Bp (α:=Lk) (xs:=xs) ty146 C (Bh hl) om om) (Dro 10 C (Bq (vs:=[_,_,_,_,_,_]) ty146) ?_)))))
   refine Ds1 11 (Se C (Ct hcb.1 (first:=[]) (caps:=cp_) C C C (hcb.2 (e_ xs i) x _ A0)) ?_)
   rintro _ _ ⟨_,_,⟨rfl,rfl⟩,rfl,rfl⟩
   refine ⟨A5,?_⟩
   refine Dro 12 C (Bi C C) (Dr 13 C (Am C C) (Dr 14 C (Bb C) (Dr 15 C (Bb C) (Dz (Aj (Aq (S2 7 6 C C) (Aw ?_)))))))
   have hie:i=j:=by omega
   subst hie
   exact Co C C C I A0 ⟨i,_,rfl,⟨hj,hlo,hhi,(decide_eq_decide.2 ⟨λh=>⟨by omega,h⟩,λh=>h.2⟩)⟩,rfl⟩
  ·refine Dpo 5 C (Dpo 6 C (Dpo 7 C (Dpo 8 C (Dpo 9 C (Dpo 10 C (Dpo 11 C (Dpo 12 C (Dr 13 C (Al C C) (Dr 14 C (Bb C) (Dr 15 C (Bb C) (Dz (Aj (Aq (S2 7 6 C C) (Aw ?_))))))))))))))
   have hie:i=j:=by omega
   subst hie
   exact Co C C C I A0 ⟨i,_,rfl,⟨hj,hlo,hhi,((decide_eq_false (λh=>by omega)).symm)⟩,rfl⟩
theorem OrderL_cmps:Cmps prog κ I 255 [] Lk.cmp:=⟨call255,λx y J hf=>OrderL_ok x y⟩
set_option maxHeartbeats 1000000 in
theorem SetP_base{κ:Ctx}{I:List Item}{e:Ev}{a0:Option Addr}{c0:Nat}{xs:List Lk}(ha:xs.Pairwise Lk.lt)(hsz:xs.length<=1000000):ep prog κ 256 [.slice a0 xs.length c0,.agg #[e7 (e.kd),e7 (e.tm),e7 (e.u),e7 (e.v),e7 (e.w),e7 (e.lb),e7 (e.sg)]] (vc 146 (.slice a0 xs.length c0) (xs)::I) (λr J=>∃y:Option Addr×Nat×Value,(r = .tuple #[.slice y.1 (setL (ei e) xs).length y.2.1,y.2.2])/\J=[]++vc 146 (.slice y.1 (setL (ei e) xs).length y.2.1) (setL (ei e) xs)::I):=by
 refine Ce2 Tryz.func256 C C ?_
 refine Ah (Ge1 (Bc (cs:=[_,_,_,_,_,_,_]) C C C) λb1=>Ga C (Ga C (Af (Ah (Gf fld108_2 C (Gl ef ?_))))))
 refine Gf fld108_3 C (Gl ef ?_)
 refine Gr (E1 C C) (Gf fld108_2 C (Gl ef ?_))
 refine Gf fld108_3 C (Gl ef ?_)
 refine Gr (D2 C C) (Gf fld108_4 C (Gl ef ?_))
 refine Gf fld108_5 C (Gl ef ?_)
 refine Gf fld108_6 C (Gl ef ?_)
 refine Gf fld108_1 C (Gl ef ?_)
 refine Gr (Bf (cells:=[_,_,_,_,_,_]) ty146 Tryz.underlying146 pl146 C C) (Ge1 (A8 ty146 C) λb2=>Ge0 (C5 ty146) ?_)
 refine Af (Aq (S3 6 3 0 C C C) (Ah (Gm C (Gl6 ty146 ?_))))
 refine G.e (Ao call302 C C (BSearchL Bg (⟨if e.v<e.u then e.v else e.u,if e.u<e.v then e.v else e.u,e.w,e.lb,e.sg,e.tm⟩:Lk) OrderL_cmps om)) ?_
 rintro _ _ ⟨_,_,⟨i3,q4,rfl,hi3,rfl⟩,rfl,rfl⟩
 refine Gm C ?_
 have hile:=hi3.le
 refine Gr (A2 C C) (Gr (A2 C C) (Ga C (Ga C (Af (Au (Au (Bl mixed (Br (e8 b2 [e7 (if e.v<e.u then e.v else e.u),e7 (if e.u<e.v then e.v else e.u),e7 (e.w),e7 (e.lb),e7 (e.sg),e7 (e.tm)] 146::e8 b1 [e7 (e.kd),e7 (e.tm),e7 (e.u),e7 (e.v),e7 (e.w),e7 (e.lb),e7 (e.sg)] 108::vc 146 (.slice a0 xs.length c0) (xs)::I) 9 (Dr 0 C (Ad C) (Dr 1 C (Ad C) (D.splitb (d:=35) C (λg35=>?_) (λg35=>?_))))))))))))
 ·have hil:=(setL_there hi3 ha g35).1
  refine Dro 2 C (Ad C) (Dro 3 C (Ad C) (Dro 4 C (A3 (α:=Lk) (xs:=xs) Ar ty146 C C Bg om om) (Dro 5 C (Bp (α:=Lk) (xs:=xs) ty146 C Bg om om) (Dro 6 C (Bq (vs:=[_,_,_,_,_,_]) ty146) ?_))))
  refine Dro 7 C (Runs.eqlT (α:=Lk) (a:=(e_ xs i3)) (b:=(⟨if e.v<e.u then e.v else e.u,if e.u<e.v then e.v else e.u,e.w,e.lb,e.sg,e.tm⟩:Lk)) eqt146 C C) (Dr 8 C (Am C C) (Dz (Aj (Aq (S6 42 8 7 6 3 0 C C C C C C) (A6 C (λc42=>?_) (λc42=>?_))))))
  ·refine Ah (Gm C (Ga C (Ga C (Af (Aw (Ai ?_))))))
   have hst:i3<xs.length/\(setL (ei e) xs)=xs.set i3 (ei e):=setL_there hi3 ha g35
   have hE:xs=(setL (ei e) xs):=by rw [hst.2];exact (set_self (n:=ei e) hst.1 c42).symm
   exact Co C C C ([]++vc 146 (.slice a0 (setL (ei e) xs).length c0) (setL (ei e) xs)::I) (by rw [←hE];exact A5) ⟨⟨a0,c0,.slice none 0 0⟩,by rw [←hE],rfl⟩
  ·refine Ay (Aj (Au (Ah (Gm C (Gr (Cb C) (Af (Ei C (λc45=>?_) (λc45=>?_))))))))
   ·rw [g35] at c45;exact absurd c45 dc
   ·refine Ah (Gm C (G.e (Ao call216 C C (CloneL (xs:=xs) Bg om)) ?_))
    rintro _ _ ⟨_,_,⟨ad5,cp6,rfl,rfl⟩,rfl,rfl⟩
    refine Ga C (Af (Ax (Gm C (Gm C (Gl6 ty146 ?_)))))
    refine Gr (A3 (α:=Lk) (xs:=xs) Ar ty146 C C Bg om om) (Ge0 (Cs (α:=Lk) (xs:=xs) (e:=146) (new:=⟨if e.v<e.u then e.v else e.u,if e.u<e.v then e.v else e.u,e.w,e.lb,e.sg,e.tm⟩) ty146 C C C om om am) ?_)
    refine Af (Aq (S3 0 6 3 C C C) (Au (Bl mixed (Br (vc 146 (.slice ad5 xs.length cp6) (List.set xs ((i3:Int)).toNat (⟨if e.v<e.u then e.v else e.u,if e.u<e.v then e.v else e.u,e.w,e.lb,e.sg,e.tm⟩))::e8 b2 [e7 (if e.v<e.u then e.v else e.u),e7 (if e.u<e.v then e.v else e.u),e7 (e.w),e7 (e.lb),e7 (e.sg),e7 (e.tm)] 146::vc 146 (.slice a0 xs.length c0) (xs)::I) 5 (Dr 0 C (Ab fld146_0 C) (Dr 1 C (As ef) ?_))))))
    refine Dr 4 C (Ab fld108_2 C) (Ds (rs:=[2,5]) kr C C (Ej ?_ (Et ?_)))
    ·refine Sr C (Ab fld146_1 C) A5 ?_
     refine Ds (rs:=[3,5]) kr C C (Ej ?_ (Et ?_))
     ·refine Sr C (As ef) A5 ?_
      refine Dg kr ?_
      refine Ae 5 C (D9 ef) ?_
      rintro _ _ ⟨rfl,rfl⟩
      refine A.read (i:=6) kr C (Cp C) C C (Ab fld108_3 C) ?_
      refine Ae 7 C (D9 ef) ?_
      rintro _ _ ⟨rfl,rfl⟩
      refine Dh kr ?_
      refine Aj (Au (Bl mixed (Br (vc 146 (.slice ad5 xs.length cp6) (List.set xs ((i3:Int)).toNat (⟨if e.v<e.u then e.v else e.u,if e.u<e.v then e.v else e.u,e.w,e.lb,e.sg,e.tm⟩))::e8 b2 [e7 (if e.v<e.u then e.v else e.u),e7 (if e.u<e.v then e.v else e.u),e7 (e.w),e7 (e.lb),e7 (e.sg),e7 (e.tm)] 146::e8 b1 [e7 (e.kd),e7 (e.tm),e7 (if e.v<e.u then e.v else e.u),e7 (if e.u<e.v then e.v else e.u),e7 (e.w),e7 (e.lb),e7 (e.sg)] 108::vc 146 (.slice a0 xs.length c0) (xs)::I) 5 (Dr 0 C (Ad C) (Dr 1 C (Bq (vs:=[_,_,_,_,_,_,_]) ty108) ?_)))))
      refine Dr 3 C (Bb C) (Ds1 2 (Se1 C (B0 (α:=Ev) (cs:=[e7 (e.kd),e7 (e.tm),e7 (if e.v<e.u then e.v else e.u),e7 (if e.u<e.v then e.v else e.u),e7 (e.w),e7 (e.lb),e7 (e.sg)]) (xs:=[⟨e.kd,e.tm,if e.v<e.u then e.v else e.u,if e.u<e.v then e.v else e.u,e.w,e.lb,e.sg⟩]) Az ty108 C C dc dc C kr C C) λad7=>?_))
      refine Dr 4 C (Bb C) (Dz (Aj (Aq (S2 5 4 C C) (Aw ?_))))
      have hE:List.set xs ((i3:Int)).toNat (⟨if e.v<e.u then e.v else e.u,if e.u<e.v then e.v else e.u,e.w,e.lb,e.sg,e.tm⟩)=(setL (ei e) xs):=(setL_there hi3 ha g35).2.symm
      have hEl:(setL (ei e) xs).length=xs.length:=by rw [←hE,List.length_set]
      exact Co C C C ([]++vc 146 (.slice ad5 (setL (ei e) xs).length cp6) (setL (ei e) xs)::I) (by rw [hEl,←hE];exact A5) ⟨⟨ad5,cp6,.slice ad7 1 1⟩,by rw [hEl],rfl⟩
     ·refine Se0 C (D9 ef) ?_
      refine Ds1 3 (Sr C (As ef) A5 ?_)
      refine Ds1 6 (Sr C (Ab fld108_3 C) A5 ?_)
      refine Ds1 7 (Se0 C (D9 ef) ?_)
      refine Dz (Aj (Au (Bl mixed (Br (vc 146 (.slice ad5 xs.length cp6) (List.set xs ((i3:Int)).toNat (⟨if e.v<e.u then e.v else e.u,if e.u<e.v then e.v else e.u,e.w,e.lb,e.sg,e.tm⟩))::e8 b2 [e7 (if e.v<e.u then e.v else e.u),e7 (if e.u<e.v then e.v else e.u),e7 (e.w),e7 (e.lb),e7 (e.sg),e7 (e.tm)] 146::e8 b1 [e7 (e.kd),e7 (e.tm),e7 (if e.v<e.u then e.v else e.u),e7 (if e.u<e.v then e.v else e.u),e7 (e.w),e7 (e.lb),e7 (e.sg)] 108::vc 146 (.slice a0 xs.length c0) (xs)::I) 5 (Dr 0 C (Ad C) (Dr 1 C (Bq (vs:=[_,_,_,_,_,_,_]) ty108) ?_))))))
      refine Dr 3 C (Bb C) (Ds1 2 (Se1 C (B0 (α:=Ev) (cs:=[e7 (e.kd),e7 (e.tm),e7 (if e.v<e.u then e.v else e.u),e7 (if e.u<e.v then e.v else e.u),e7 (e.w),e7 (e.lb),e7 (e.sg)]) (xs:=[⟨e.kd,e.tm,if e.v<e.u then e.v else e.u,if e.u<e.v then e.v else e.u,e.w,e.lb,e.sg⟩]) Az ty108 C C dc dc C kr C C) λad8=>?_))
      refine Dr 4 C (Bb C) (Dz (Aj (Aq (S2 5 4 C C) (Aw ?_))))
      have hE:List.set xs ((i3:Int)).toNat (⟨if e.v<e.u then e.v else e.u,if e.u<e.v then e.v else e.u,e.w,e.lb,e.sg,e.tm⟩)=(setL (ei e) xs):=(setL_there hi3 ha g35).2.symm
      have hEl:(setL (ei e) xs).length=xs.length:=by rw [←hE,List.length_set]
      exact Co C C C ([]++vc 146 (.slice ad5 (setL (ei e) xs).length cp6) (setL (ei e) xs)::I) (by rw [hEl,←hE];exact A5) ⟨⟨ad5,cp6,.slice ad8 1 1⟩,by rw [hEl],rfl⟩
    ·refine Se0 C (D9 ef) ?_
     refine Ds1 2 (Sr C (Ab fld146_1 C) A5 ?_)
     refine Ds1 3 (Sr C (As ef) A5 ?_)
     refine Ds1 6 (Sr C (Ab fld108_3 C) A5 ?_)
     refine Ds1 7 (Se0 C (D9 ef) ?_)
     refine Dz (Aj (Au (Bl mixed (Br (vc 146 (.slice ad5 xs.length cp6) (List.set xs ((i3:Int)).toNat (⟨if e.v<e.u then e.v else e.u,if e.u<e.v then e.v else e.u,e.w,e.lb,e.sg,e.tm⟩))::e8 b2 [e7 (if e.v<e.u then e.v else e.u),e7 (if e.u<e.v then e.v else e.u),e7 (e.w),e7 (e.lb),e7 (e.sg),e7 (e.tm)] 146::e8 b1 [e7 (e.kd),e7 (e.tm),e7 (if e.v<e.u then e.v else e.u),e7 (if e.u<e.v then e.v else e.u),e7 (e.w),e7 (e.lb),e7 (e.sg)] 108::vc 146 (.slice a0 xs.length c0) (xs)::I) 5 (Dr 0 C (Ad C) (Dr 1 C (Bq (vs:=[_,_,_,_,_,_,_]) ty108) ?_))))))
     refine Dr 3 C (Bb C) (Ds1 2 (Se1 C (B0 (α:=Ev) (cs:=[e7 (e.kd),e7 (e.tm),e7 (if e.v<e.u then e.v else e.u),e7 (if e.u<e.v then e.v else e.u),e7 (e.w),e7 (e.lb),e7 (e.sg)]) (xs:=[⟨e.kd,e.tm,if e.v<e.u then e.v else e.u,if e.u<e.v then e.v else e.u,e.w,e.lb,e.sg⟩]) Az ty108 C C dc dc C kr C C) λad9=>?_))
     refine Dr 4 C (Bb C) (Dz (Aj (Aq (S2 5 4 C C) (Aw ?_))))
     have hE:List.set xs ((i3:Int)).toNat (⟨if e.v<e.u then e.v else e.u,if e.u<e.v then e.v else e.u,e.w,e.lb,e.sg,e.tm⟩)=(setL (ei e) xs):=(setL_there hi3 ha g35).2.symm
     have hEl:(setL (ei e) xs).length=xs.length:=by rw [←hE,List.length_set]
     exact Co C C C ([]++vc 146 (.slice ad5 (setL (ei e) xs).length cp6) (setL (ei e) xs)::I) (by rw [hEl,←hE];exact A5) ⟨⟨ad5,cp6,.slice ad9 1 1⟩,by rw [hEl],rfl⟩
 ·refine Dpo 2 C (Dpo 3 C (Dpo 4 C (Dpo 5 C (Dpo 6 C (Dpo 7 C (Dr 8 C (Al C C) (Dz (Aj (Aq (S6 42 8 7 6 3 0 C C C C C C) (C2 C (Ay (Aj (Au (Ah (Gm C (Gr (Cb C) (Af (Ei C (λc45=>?_) (λc45=>?_)))))))))))))))))))
  ·refine Bl mixed (Br (e8 b2 [e7 (if e.v<e.u then e.v else e.u),e7 (if e.u<e.v then e.v else e.u),e7 (e.w),e7 (e.lb),e7 (e.sg),e7 (e.tm)] 146::e8 b1 [e7 (e.kd),e7 (e.tm),e7 (e.u),e7 (e.v),e7 (e.w),e7 (e.lb),e7 (e.sg)] 108::vc 146 (.slice a0 xs.length c0) (xs)::I) 7 (Dr 0 C (Ad C) (Dr 2 C (Ad C) (Dr 3 C (Bq (vs:=[_,_,_,_,_,_]) ty146) ?_))))
   refine Ds (rs:=[1,4]) kr C C (Ej ?_ (Et ?_))
   ·refine Se C (Ao call216 C C (CloneL (xs:=xs) Bg om)) ?_
    rintro _ _ ⟨_,_,⟨ad10,cp11,rfl,rfl⟩,rfl,rfl⟩
    refine ⟨A5,?_⟩
    refine Ds1 4 (Se1 C (B0 (α:=Lk) (cs:=[e7 (if e.v<e.u then e.v else e.u),e7 (if e.u<e.v then e.v else e.u),e7 (e.w),e7 (e.lb),e7 (e.sg),e7 (e.tm)]) (xs:=[⟨if e.v<e.u then e.v else e.u,if e.u<e.v then e.v else e.u,e.w,e.lb,e.sg,e.tm⟩]) Ar ty146 C C dc dc C kr C C) λad12=>?_)
    refine Ds1 5 (Sc2 C (Ao call303 C C (InsertL_two (i:=i3) (xs:=xs) (ys:=([⟨if e.v<e.u then e.v else e.u,if e.u<e.v then e.v else e.u,e.w,e.lb,e.sg,e.tm⟩]:List Lk)) (show Fit κ _ (vc 146 (.slice ad10 xs.length cp11) (xs)::vc 146 (.slice ad12 1 1) (([⟨if e.v<e.u then e.v else e.u,if e.u<e.v then e.v else e.u,e.w,e.lb,e.sg,e.tm⟩]:List Lk))::e8 b2 [e7 (if e.v<e.u then e.v else e.u),e7 (if e.u<e.v then e.v else e.u),e7 (e.w),e7 (e.lb),e7 (e.sg),e7 (e.tm)] 146::e8 b1 [e7 (e.kd),e7 (e.tm),e7 (e.u),e7 (e.v),e7 (e.w),e7 (e.lb),e7 (e.sg)] 108::vc 146 (.slice a0 xs.length c0) (xs)::I) from B4) C C om (by simp only [List.length_cons];omega) lcn)) λad13 cp14=>?_)
    show D prog κ _ _ _ _ _ _ _ ([(51,.slice ad13 (List.take i3 xs++([⟨if e.v<e.u then e.v else e.u,if e.u<e.v then e.v else e.u,e.w,e.lb,e.sg,e.tm⟩]:List Lk)++List.drop i3 xs).length cp14),(50,.slice ad12 1 1),(47,.slice ad10 xs.length cp11),(49,.agg #[e7 (if e.v<e.u then e.v else e.u),e7 (if e.u<e.v then e.v else e.u),e7 (e.w),e7 (e.lb),e7 (e.sg),e7 (e.tm)]),(48,e7 ((i3:Int))),(46,.slice a0 xs.length c0),(45,.bool (!q4)),(44,.bool q4),(42,.bool false),(8,.bool q4),(7,e7 ((i3:Int))),(6,.pointer (some ⟨b2,0,none⟩)),(3,.pointer (some ⟨b1,0,none⟩)),(0,.slice a0 xs.length c0)]:Env) (vc 146 (.slice ad13 (List.take i3 xs++([⟨if e.v<e.u then e.v else e.u,if e.u<e.v then e.v else e.u,e.w,e.lb,e.sg,e.tm⟩]:List Lk)++List.drop i3 xs).length cp14) (List.take i3 xs++([⟨if e.v<e.u then e.v else e.u,if e.u<e.v then e.v else e.u,e.w,e.lb,e.sg,e.tm⟩]:List Lk)++List.drop i3 xs)::e8 b2 [e7 (if e.v<e.u then e.v else e.u),e7 (if e.u<e.v then e.v else e.u),e7 (e.w),e7 (e.lb),e7 (e.sg),e7 (e.tm)] 146::e8 b1 [e7 (e.kd),e7 (e.tm),e7 (e.u),e7 (e.v),e7 (e.w),e7 (e.lb),e7 (e.sg)] 108::vc 146 (.slice a0 xs.length c0) (xs)::I)
    refine Dr 6 C (Bb C) (Dz (Aj (Aq (S3 0 6 3 C C C) (Au (Bl mixed (Br (vc 146 (.slice ad13 (List.take i3 xs++([⟨if e.v<e.u then e.v else e.u,if e.u<e.v then e.v else e.u,e.w,e.lb,e.sg,e.tm⟩]:List Lk)++List.drop i3 xs).length cp14) (List.take i3 xs++([⟨if e.v<e.u then e.v else e.u,if e.u<e.v then e.v else e.u,e.w,e.lb,e.sg,e.tm⟩]:List Lk)++List.drop i3 xs)::e8 b2 [e7 (if e.v<e.u then e.v else e.u),e7 (if e.u<e.v then e.v else e.u),e7 (e.w),e7 (e.lb),e7 (e.sg),e7 (e.tm)] 146::vc 146 (.slice a0 xs.length c0) (xs)::I) 5 (Dr 0 C (Ab fld146_0 C) (Dr 1 C (As ef) ?_))))))))
    refine Dr 4 C (Ab fld108_2 C) (Ds (rs:=[2,5]) kr C C (Ej ?_ (Et ?_)))
    ·refine Sr C (Ab fld146_1 C) A5 ?_
     refine Ds (rs:=[3,5]) kr C C (Ej ?_ (Et ?_))
     ·refine Sr C (As ef) A5 ?_
      refine Dg kr ?_
      refine Ae 5 C (D9 ef) ?_
      rintro _ _ ⟨rfl,rfl⟩
      refine A.read (i:=6) kr C (Cp C) C C (Ab fld108_3 C) ?_
      refine Ae 7 C (D9 ef) ?_
      rintro _ _ ⟨rfl,rfl⟩
      refine Dh kr ?_
      refine Aj (Au (Bl mixed (Br (vc 146 (.slice ad13 (List.take i3 xs++([⟨if e.v<e.u then e.v else e.u,if e.u<e.v then e.v else e.u,e.w,e.lb,e.sg,e.tm⟩]:List Lk)++List.drop i3 xs).length cp14) (List.take i3 xs++([⟨if e.v<e.u then e.v else e.u,if e.u<e.v then e.v else e.u,e.w,e.lb,e.sg,e.tm⟩]:List Lk)++List.drop i3 xs)::e8 b2 [e7 (if e.v<e.u then e.v else e.u),e7 (if e.u<e.v then e.v else e.u),e7 (e.w),e7 (e.lb),e7 (e.sg),e7 (e.tm)] 146::e8 b1 [e7 (e.kd),e7 (e.tm),e7 (if e.v<e.u then e.v else e.u),e7 (if e.u<e.v then e.v else e.u),e7 (e.w),e7 (e.lb),e7 (e.sg)] 108::vc 146 (.slice a0 xs.length c0) (xs)::I) 5 (Dr 0 C (Ad C) (Dr 1 C (Bq (vs:=[_,_,_,_,_,_,_]) ty108) ?_)))))
      refine Dr 3 C (Bb C) (Ds1 2 (Se1 C (B0 (α:=Ev) (cs:=[e7 (e.kd),e7 (e.tm),e7 (if e.v<e.u then e.v else e.u),e7 (if e.u<e.v then e.v else e.u),e7 (e.w),e7 (e.lb),e7 (e.sg)]) (xs:=[⟨e.kd,e.tm,if e.v<e.u then e.v else e.u,if e.u<e.v then e.v else e.u,e.w,e.lb,e.sg⟩]) Az ty108 C C dc dc C kr C C) λad15=>?_))
      refine Dr 4 C (Bb C) (Dz (Aj (Aq (S2 5 4 C C) (Aw ?_))))
      have hE:List.take i3 xs++([⟨if e.v<e.u then e.v else e.u,if e.u<e.v then e.v else e.u,e.w,e.lb,e.sg,e.tm⟩]:List Lk)++List.drop i3 xs=(setL (ei e) xs):=(setL_new hi3 ha g35).symm
      exact Co C C C ([]++vc 146 (.slice ad13 (setL (ei e) xs).length cp14) (setL (ei e) xs)::I) (by rw [←hE];exact A5) ⟨⟨ad13,cp14,.slice ad15 1 1⟩,by rw [←hE],rfl⟩
     ·refine Se0 C (D9 ef) ?_
      refine Ds1 3 (Sr C (As ef) A5 ?_)
      refine Ds1 6 (Sr C (Ab fld108_3 C) A5 ?_)
      refine Ds1 7 (Se0 C (D9 ef) ?_)
      refine Dz (Aj (Au (Bl mixed (Br (vc 146 (.slice ad13 (List.take i3 xs++([⟨if e.v<e.u then e.v else e.u,if e.u<e.v then e.v else e.u,e.w,e.lb,e.sg,e.tm⟩]:List Lk)++List.drop i3 xs).length cp14) (List.take i3 xs++([⟨if e.v<e.u then e.v else e.u,if e.u<e.v then e.v else e.u,e.w,e.lb,e.sg,e.tm⟩]:List Lk)++List.drop i3 xs)::e8 b2 [e7 (if e.v<e.u then e.v else e.u),e7 (if e.u<e.v then e.v else e.u),e7 (e.w),e7 (e.lb),e7 (e.sg),e7 (e.tm)] 146::e8 b1 [e7 (e.kd),e7 (e.tm),e7 (if e.v<e.u then e.v else e.u),e7 (if e.u<e.v then e.v else e.u),e7 (e.w),e7 (e.lb),e7 (e.sg)] 108::vc 146 (.slice a0 xs.length c0) (xs)::I) 5 (Dr 0 C (Ad C) (Dr 1 C (Bq (vs:=[_,_,_,_,_,_,_]) ty108) ?_))))))
      refine Dr 3 C (Bb C) (Ds1 2 (Se1 C (B0 (α:=Ev) (cs:=[e7 (e.kd),e7 (e.tm),e7 (if e.v<e.u then e.v else e.u),e7 (if e.u<e.v then e.v else e.u),e7 (e.w),e7 (e.lb),e7 (e.sg)]) (xs:=[⟨e.kd,e.tm,if e.v<e.u then e.v else e.u,if e.u<e.v then e.v else e.u,e.w,e.lb,e.sg⟩]) Az ty108 C C dc dc C kr C C) λad16=>?_))
      refine Dr 4 C (Bb C) (Dz (Aj (Aq (S2 5 4 C C) (Aw ?_))))
      have hE:List.take i3 xs++([⟨if e.v<e.u then e.v else e.u,if e.u<e.v then e.v else e.u,e.w,e.lb,e.sg,e.tm⟩]:List Lk)++List.drop i3 xs=(setL (ei e) xs):=(setL_new hi3 ha g35).symm
      exact Co C C C ([]++vc 146 (.slice ad13 (setL (ei e) xs).length cp14) (setL (ei e) xs)::I) (by rw [←hE];exact A5) ⟨⟨ad13,cp14,.slice ad16 1 1⟩,by rw [←hE],rfl⟩
    ·refine Se0 C (D9 ef) ?_
     refine Ds1 2 (Sr C (Ab fld146_1 C) A5 ?_)
     refine Ds1 3 (Sr C (As ef) A5 ?_)
     refine Ds1 6 (Sr C (Ab fld108_3 C) A5 ?_)
     refine Ds1 7 (Se0 C (D9 ef) ?_)
     refine Dz (Aj (Au (Bl mixed (Br (vc 146 (.slice ad13 (List.take i3 xs++([⟨if e.v<e.u then e.v else e.u,if e.u<e.v then e.v else e.u,e.w,e.lb,e.sg,e.tm⟩]:List Lk)++List.drop i3 xs).length cp14) (List.take i3 xs++([⟨if e.v<e.u then e.v else e.u,if e.u<e.v then e.v else e.u,e.w,e.lb,e.sg,e.tm⟩]:List Lk)++List.drop i3 xs)::e8 b2 [e7 (if e.v<e.u then e.v else e.u),e7 (if e.u<e.v then e.v else e.u),e7 (e.w),e7 (e.lb),e7 (e.sg),e7 (e.tm)] 146::e8 b1 [e7 (e.kd),e7 (e.tm),e7 (if e.v<e.u then e.v else e.u),e7 (if e.u<e.v then e.v else e.u),e7 (e.w),e7 (e.lb),e7 (e.sg)] 108::vc 146 (.slice a0 xs.length c0) (xs)::I) 5 (Dr 0 C (Ad C) (Dr 1 C (Bq (vs:=[_,_,_,_,_,_,_]) ty108) ?_))))))
     refine Dr 3 C (Bb C) (Ds1 2 (Se1 C (B0 (α:=Ev) (cs:=[e7 (e.kd),e7 (e.tm),e7 (if e.v<e.u then e.v else e.u),e7 (if e.u<e.v then e.v else e.u),e7 (e.w),e7 (e.lb),e7 (e.sg)]) (xs:=[⟨e.kd,e.tm,if e.v<e.u then e.v else e.u,if e.u<e.v then e.v else e.u,e.w,e.lb,e.sg⟩]) Az ty108 C C dc dc C kr C C) λad17=>?_))
     refine Dr 4 C (Bb C) (Dz (Aj (Aq (S2 5 4 C C) (Aw ?_))))
     have hE:List.take i3 xs++([⟨if e.v<e.u then e.v else e.u,if e.u<e.v then e.v else e.u,e.w,e.lb,e.sg,e.tm⟩]:List Lk)++List.drop i3 xs=(setL (ei e) xs):=(setL_new hi3 ha g35).symm
     exact Co C C C ([]++vc 146 (.slice ad13 (setL (ei e) xs).length cp14) (setL (ei e) xs)::I) (by rw [←hE];exact A5) ⟨⟨ad13,cp14,.slice ad17 1 1⟩,by rw [←hE],rfl⟩
   ·refine Se1 C (B0 (α:=Lk) (cs:=[e7 (if e.v<e.u then e.v else e.u),e7 (if e.u<e.v then e.v else e.u),e7 (e.w),e7 (e.lb),e7 (e.sg),e7 (e.tm)]) (xs:=[⟨if e.v<e.u then e.v else e.u,if e.u<e.v then e.v else e.u,e.w,e.lb,e.sg,e.tm⟩]) Ar ty146 C C dc dc C kr C C) λad18=>?_
    refine Ds1 1 (Se C (Ao call216 C C (CloneL (xs:=xs) Bg om)) ?_)
    rintro _ _ ⟨_,_,⟨ad19,cp20,rfl,rfl⟩,rfl,rfl⟩
    refine ⟨A5,?_⟩
    refine Ds1 5 (Sc2 C (Ao call303 C C (InsertL_two (i:=i3) (xs:=xs) (ys:=([⟨if e.v<e.u then e.v else e.u,if e.u<e.v then e.v else e.u,e.w,e.lb,e.sg,e.tm⟩]:List Lk)) (show Fit κ _ (vc 146 (.slice ad19 xs.length cp20) (xs)::vc 146 (.slice ad18 1 1) (([⟨if e.v<e.u then e.v else e.u,if e.u<e.v then e.v else e.u,e.w,e.lb,e.sg,e.tm⟩]:List Lk))::e8 b2 [e7 (if e.v<e.u then e.v else e.u),e7 (if e.u<e.v then e.v else e.u),e7 (e.w),e7 (e.lb),e7 (e.sg),e7 (e.tm)] 146::e8 b1 [e7 (e.kd),e7 (e.tm),e7 (e.u),e7 (e.v),e7 (e.w),e7 (e.lb),e7 (e.sg)] 108::vc 146 (.slice a0 xs.length c0) (xs)::I) from B4) C C om (by simp only [List.length_cons];omega) lcn)) λad21 cp22=>?_)
    show D prog κ _ _ _ _ _ _ _ ([(51,.slice ad21 (List.take i3 xs++([⟨if e.v<e.u then e.v else e.u,if e.u<e.v then e.v else e.u,e.w,e.lb,e.sg,e.tm⟩]:List Lk)++List.drop i3 xs).length cp22),(47,.slice ad19 xs.length cp20),(50,.slice ad18 1 1),(49,.agg #[e7 (if e.v<e.u then e.v else e.u),e7 (if e.u<e.v then e.v else e.u),e7 (e.w),e7 (e.lb),e7 (e.sg),e7 (e.tm)]),(48,e7 ((i3:Int))),(46,.slice a0 xs.length c0),(45,.bool (!q4)),(44,.bool q4),(42,.bool false),(8,.bool q4),(7,e7 ((i3:Int))),(6,.pointer (some ⟨b2,0,none⟩)),(3,.pointer (some ⟨b1,0,none⟩)),(0,.slice a0 xs.length c0)]:Env) (vc 146 (.slice ad21 (List.take i3 xs++([⟨if e.v<e.u then e.v else e.u,if e.u<e.v then e.v else e.u,e.w,e.lb,e.sg,e.tm⟩]:List Lk)++List.drop i3 xs).length cp22) (List.take i3 xs++([⟨if e.v<e.u then e.v else e.u,if e.u<e.v then e.v else e.u,e.w,e.lb,e.sg,e.tm⟩]:List Lk)++List.drop i3 xs)::e8 b2 [e7 (if e.v<e.u then e.v else e.u),e7 (if e.u<e.v then e.v else e.u),e7 (e.w),e7 (e.lb),e7 (e.sg),e7 (e.tm)] 146::e8 b1 [e7 (e.kd),e7 (e.tm),e7 (e.u),e7 (e.v),e7 (e.w),e7 (e.lb),e7 (e.sg)] 108::vc 146 (.slice a0 xs.length c0) (xs)::I)
    refine Dr 6 C (Bb C) (Dz (Aj (Aq (S3 0 6 3 C C C) (Au (Bl mixed (Br (vc 146 (.slice ad21 (List.take i3 xs++([⟨if e.v<e.u then e.v else e.u,if e.u<e.v then e.v else e.u,e.w,e.lb,e.sg,e.tm⟩]:List Lk)++List.drop i3 xs).length cp22) (List.take i3 xs++([⟨if e.v<e.u then e.v else e.u,if e.u<e.v then e.v else e.u,e.w,e.lb,e.sg,e.tm⟩]:List Lk)++List.drop i3 xs)::e8 b2 [e7 (if e.v<e.u then e.v else e.u),e7 (if e.u<e.v then e.v else e.u),e7 (e.w),e7 (e.lb),e7 (e.sg),e7 (e.tm)] 146::vc 146 (.slice a0 xs.length c0) (xs)::I) 5 (Dr 0 C (Ab fld146_0 C) (Dr 1 C (As ef) ?_))))))))
    refine Dr 4 C (Ab fld108_2 C) (Ds (rs:=[2,5]) kr C C (Ej ?_ (Et ?_)))
    ·refine Sr C (Ab fld146_1 C) A5 ?_
     refine Ds (rs:=[3,5]) kr C C (Ej ?_ (Et ?_))
     ·refine Sr C (As ef) A5 ?_
      refine Dg kr ?_
      refine Ae 5 C (D9 ef) ?_
      rintro _ _ ⟨rfl,rfl⟩
      refine A.read (i:=6) kr C (Cp C) C C (Ab fld108_3 C) ?_
      refine Ae 7 C (D9 ef) ?_
      rintro _ _ ⟨rfl,rfl⟩
      refine Dh kr ?_
      refine Aj (Au (Bl mixed (Br (vc 146 (.slice ad21 (List.take i3 xs++([⟨if e.v<e.u then e.v else e.u,if e.u<e.v then e.v else e.u,e.w,e.lb,e.sg,e.tm⟩]:List Lk)++List.drop i3 xs).length cp22) (List.take i3 xs++([⟨if e.v<e.u then e.v else e.u,if e.u<e.v then e.v else e.u,e.w,e.lb,e.sg,e.tm⟩]:List Lk)++List.drop i3 xs)::e8 b2 [e7 (if e.v<e.u then e.v else e.u),e7 (if e.u<e.v then e.v else e.u),e7 (e.w),e7 (e.lb),e7 (e.sg),e7 (e.tm)] 146::e8 b1 [e7 (e.kd),e7 (e.tm),e7 (if e.v<e.u then e.v else e.u),e7 (if e.u<e.v then e.v else e.u),e7 (e.w),e7 (e.lb),e7 (e.sg)] 108::vc 146 (.slice a0 xs.length c0) (xs)::I) 5 (Dr 0 C (Ad C) (Dr 1 C (Bq (vs:=[_,_,_,_,_,_,_]) ty108) ?_)))))
      refine Dr 3 C (Bb C) (Ds1 2 (Se1 C (B0 (α:=Ev) (cs:=[e7 (e.kd),e7 (e.tm),e7 (if e.v<e.u then e.v else e.u),e7 (if e.u<e.v then e.v else e.u),e7 (e.w),e7 (e.lb),e7 (e.sg)]) (xs:=[⟨e.kd,e.tm,if e.v<e.u then e.v else e.u,if e.u<e.v then e.v else e.u,e.w,e.lb,e.sg⟩]) Az ty108 C C dc dc C kr C C) λad23=>?_))
      refine Dr 4 C (Bb C) (Dz (Aj (Aq (S2 5 4 C C) (Aw ?_))))
      have hE:List.take i3 xs++([⟨if e.v<e.u then e.v else e.u,if e.u<e.v then e.v else e.u,e.w,e.lb,e.sg,e.tm⟩]:List Lk)++List.drop i3 xs=(setL (ei e) xs):=(setL_new hi3 ha g35).symm
      exact Co C C C ([]++vc 146 (.slice ad21 (setL (ei e) xs).length cp22) (setL (ei e) xs)::I) (by rw [←hE];exact A5) ⟨⟨ad21,cp22,.slice ad23 1 1⟩,by rw [←hE],rfl⟩
     ·refine Se0 C (D9 ef) ?_
      refine Ds1 3 (Sr C (As ef) A5 ?_)
      refine Ds1 6 (Sr C (Ab fld108_3 C) A5 ?_)
      refine Ds1 7 (Se0 C (D9 ef) ?_)
      refine Dz (Aj (Au (Bl mixed (Br (vc 146 (.slice ad21 (List.take i3 xs++([⟨if e.v<e.u then e.v else e.u,if e.u<e.v then e.v else e.u,e.w,e.lb,e.sg,e.tm⟩]:List Lk)++List.drop i3 xs).length cp22) (List.take i3 xs++([⟨if e.v<e.u then e.v else e.u,if e.u<e.v then e.v else e.u,e.w,e.lb,e.sg,e.tm⟩]:List Lk)++List.drop i3 xs)::e8 b2 [e7 (if e.v<e.u then e.v else e.u),e7 (if e.u<e.v then e.v else e.u),e7 (e.w),e7 (e.lb),e7 (e.sg),e7 (e.tm)] 146::e8 b1 [e7 (e.kd),e7 (e.tm),e7 (if e.v<e.u then e.v else e.u),e7 (if e.u<e.v then e.v else e.u),e7 (e.w),e7 (e.lb),e7 (e.sg)] 108::vc 146 (.slice a0 xs.length c0) (xs)::I) 5 (Dr 0 C (Ad C) (Dr 1 C (Bq (vs:=[_,_,_,_,_,_,_]) ty108) ?_))))))
      refine Dr 3 C (Bb C) (Ds1 2 (Se1 C (B0 (α:=Ev) (cs:=[e7 (e.kd),e7 (e.tm),e7 (if e.v<e.u then e.v else e.u),e7 (if e.u<e.v then e.v else e.u),e7 (e.w),e7 (e.lb),e7 (e.sg)]) (xs:=[⟨e.kd,e.tm,if e.v<e.u then e.v else e.u,if e.u<e.v then e.v else e.u,e.w,e.lb,e.sg⟩]) Az ty108 C C dc dc C kr C C) λad24=>?_))
      refine Dr 4 C (Bb C) (Dz (Aj (Aq (S2 5 4 C C) (Aw ?_))))
      have hE:List.take i3 xs++([⟨if e.v<e.u then e.v else e.u,if e.u<e.v then e.v else e.u,e.w,e.lb,e.sg,e.tm⟩]:List Lk)++List.drop i3 xs=(setL (ei e) xs):=(setL_new hi3 ha g35).symm
      exact Co C C C ([]++vc 146 (.slice ad21 (setL (ei e) xs).length cp22) (setL (ei e) xs)::I) (by rw [←hE];exact A5) ⟨⟨ad21,cp22,.slice ad24 1 1⟩,by rw [←hE],rfl⟩
    ·refine Se0 C (D9 ef) ?_
     refine Ds1 2 (Sr C (Ab fld146_1 C) A5 ?_)
     refine Ds1 3 (Sr C (As ef) A5 ?_)
     refine Ds1 6 (Sr C (Ab fld108_3 C) A5 ?_)
     refine Ds1 7 (Se0 C (D9 ef) ?_)
     refine Dz (Aj (Au (Bl mixed (Br (vc 146 (.slice ad21 (List.take i3 xs++([⟨if e.v<e.u then e.v else e.u,if e.u<e.v then e.v else e.u,e.w,e.lb,e.sg,e.tm⟩]:List Lk)++List.drop i3 xs).length cp22) (List.take i3 xs++([⟨if e.v<e.u then e.v else e.u,if e.u<e.v then e.v else e.u,e.w,e.lb,e.sg,e.tm⟩]:List Lk)++List.drop i3 xs)::e8 b2 [e7 (if e.v<e.u then e.v else e.u),e7 (if e.u<e.v then e.v else e.u),e7 (e.w),e7 (e.lb),e7 (e.sg),e7 (e.tm)] 146::e8 b1 [e7 (e.kd),e7 (e.tm),e7 (if e.v<e.u then e.v else e.u),e7 (if e.u<e.v then e.v else e.u),e7 (e.w),e7 (e.lb),e7 (e.sg)] 108::vc 146 (.slice a0 xs.length c0) (xs)::I) 5 (Dr 0 C (Ad C) (Dr 1 C (Bq (vs:=[_,_,_,_,_,_,_]) ty108) ?_))))))
     refine Dr 3 C (Bb C) (Ds1 2 (Se1 C (B0 (α:=Ev) (cs:=[e7 (e.kd),e7 (e.tm),e7 (if e.v<e.u then e.v else e.u),e7 (if e.u<e.v then e.v else e.u),e7 (e.w),e7 (e.lb),e7 (e.sg)]) (xs:=[⟨e.kd,e.tm,if e.v<e.u then e.v else e.u,if e.u<e.v then e.v else e.u,e.w,e.lb,e.sg⟩]) Az ty108 C C dc dc C kr C C) λad25=>?_))
     refine Dr 4 C (Bb C) (Dz (Aj (Aq (S2 5 4 C C) (Aw ?_))))
     have hE:List.take i3 xs++([⟨if e.v<e.u then e.v else e.u,if e.u<e.v then e.v else e.u,e.w,e.lb,e.sg,e.tm⟩]:List Lk)++List.drop i3 xs=(setL (ei e) xs):=(setL_new hi3 ha g35).symm
     exact Co C C C ([]++vc 146 (.slice ad21 (setL (ei e) xs).length cp22) (setL (ei e) xs)::I) (by rw [←hE];exact A5) ⟨⟨ad21,cp22,.slice ad25 1 1⟩,by rw [←hE],rfl⟩
  ·rw [g35] at c45;exact absurd c45 dc
set_option maxHeartbeats 1000000 in
theorem CutP_base{κ:Ctx}{I:List Item}{nw:Int}{a0:Option Addr}{c0:Nat}{xs:List Lk}{g:FuncId}{cp_:List Value}{p:Lk->Bool}(hcb:Says prog κ (vc 146 (.slice a0 xs.length c0) xs::I) g cp_ p)(hsz:xs.length<=1000000):ep prog κ 257 [.slice a0 xs.length c0,e7 nw,.func (.func g) #[] cp_.toArray] (vc 146 (.slice a0 xs.length c0) (xs)::I) (λr J=>∃y:Option Addr×Nat×Value,(r = .tuple #[.slice y.1 (xs.filter (λx=> !p x)).length y.2.1,y.2.2])/\J=[]++vc 146 (.slice y.1 (xs.filter (λx=> !p x)).length y.2.1) (xs.filter (λx=> !p x))::I):=by
 refine Ce3 Tryz.func257 C C ?_
 refine Ah (Ga C (Ga C (Af (Ah (Gm C (G.e (Ao call216 C C (CloneL (xs:=xs) Bg om)) ?_))))))
 rintro _ _ ⟨_,_,⟨ad1,cp2,rfl,rfl⟩,rfl,rfl⟩
 refine Ga C (Af (Ah (Ga C (Af (Au (Ah (Ga C (Af (A4 (Bu (σ:=Nat×(Option Addr)×Nat×(List Ev)) (λs=>([(0,.slice ad1 (keepL (λx=> !p x) xs s.1).length cp2),(1,e7 nw),(2,.func (.func g) #[] cp_.toArray),(8,.slice s.2.1 s.2.2.2.length s.2.2.1),(9,e7 (((keptN (λx=> !p x) xs s.1:Nat):Int)))]:Env)) (λs=>vc 108 (.slice s.2.1 s.2.2.2.length s.2.2.1) (s.2.2.2)::vc 146 (.slice ad1 (keepL (λx=> !p x) xs s.1).length cp2) ((keepL (λx=> !p x) xs s.1))::vc 146 (.slice a0 xs.length c0) (xs)::I) (λs=>(s.1<=xs.length)/\(s.2.2.2.length<=s.1)) (λs=>xs.length - s.1) (0,none,0,[]) (show ((0:Nat)<=xs.length)/\(([]:List Ev).length<=(0:Nat)) from ⟨om,(by simp)⟩) (Aa (Cr C (by first|rfl|(rw [keepL_zero])|(rw [hky.1])|(rw [hkl]))) (Aa C (Aa C (Aa (Cr C (by first|rfl|(rw [keepL_zero])|(rw [hky.1])|(rw [hkl]))) (Aa (C4 C (by first|omega|(rw [keptN_zero];rfl)|(dsimp only;have e1:=hky.2;omega)|(dsimp only;have e1:=hkn;omega))) Bj))))) (show Fit κ _ (vc 108 (.slice none ([]).length 0) (([]))::vc 146 (.slice ad1 (keepL (λx=> !p x) xs 0).length cp2) ((keepL (λx=> !p x) xs 0))::vc 146 (.slice a0 xs.length c0) (xs)::I) from (by rw [keepL_zero];exact Bt _ _)) ?_))))))))))
 rintro ⟨j,a2,c2,chg⟩ hp
 dsimp only at hp ⊢
 obtain ⟨hj,hcg⟩:=hp
 have hkj:=keptN_le (P:=(λx=> !p x)) (xs:=xs) (j:=j)
 have hkl0:=keepL_len (P:=(λx=> !p x)) (xs:=xs) (j:=j)
 refine W.pull (vc.cap (xs:=(keepL (λx=> !p x) xs j)) mm) λhcap=>?_
 refine Au (Ah (Gm C (Gm C (Gr (Bm Ar C) (Gr (A9 C C) (Af (A6 C (λc15=>?_) (λc15=>?_))))))))
 ·refine Ay (Aj (A4 (Au (Ah (Gm C (Gm C (Gm C (Gr (A3 (α:=Lk) (xs:=(keepL (λx=> !p x) xs j)) Ar ty146 C C Bg om om) (Gr (Bp (α:=Lk) (xs:=(keepL (λx=> !p x) xs j)) ty146 C Bg om om) (G.e (Ct hcb.1 (first:=[]) (caps:=cp_) C C C (hcb.2 (e_ (keepL (λx=> !p x) xs j) ((keptN (λx=> !p x) xs j:Nat):Int)) _ A0)) ?_))))))))))
  rintro _ _ ⟨_,_,⟨rfl,rfl⟩,rfl,rfl⟩
  refine Gr (Cb C) (Af (Aq (S6 22 0 1 2 8 9 C C C C C C) (Ei C (λc22=>?_) (λc22=>?_))))
  ·refine Ah (Gm C (Gr (Rad C C) (Ga C (Af (Bs (Ap (A7 ?_)))))))
   have hky:=keep_yes (P:=(λx=> !p x)) (xs:=xs) (j:=j) om (by rw [←keepL_at (P:=(λx=> !p x)) (xs:=xs) (j:=j) om];exact c22)
   exact B2 ((j+1),(a2),(c2),(chg)) (by dsimp only;exact ⟨om,om⟩) (hL:=(Aa (Cr C (by first|rfl|(rw [keepL_zero])|(rw [hky.1])|(rw [hkl]))) (Aa C (Aa C (Aa (Cr C (by first|rfl|(rw [keepL_zero])|(rw [hky.1])|(rw [hkl]))) (Aa (C4 C (by first|omega|(rw [keptN_zero];rfl)|(dsimp only;have e1:=hky.2;omega)|(dsimp only;have e1:=hkn;omega))) Bj)))))) (hI:=by (try dsimp only);exact (by rw [hky.1];exact A5))
  ·refine Ay (Aj (Ah (Gm C ?_)))
   have hpj:(λx=> !p x) (e_ xs j)=false:=by rw [←keepL_at (P:=(λx=> !p x)) (xs:=xs) (j:=j) om];exact c22
   have hkn:=keep_no (P:=(λx=> !p x)) (xs:=xs) (j:=j) om hpj
   refine Gm C (Gm C (Gr (A3 (α:=Lk) (xs:=(keepL (λx=> !p x) xs j)) Ar ty146 C C Bg om om) (Gr (Bp (α:=Lk) (xs:=(keepL (λx=> !p x) xs j)) ty146 C Bg om om) (Gm C (G.e (Ao call254 C C (Gone_ok (e_ (keepL (λx=> !p x) xs j) ((keptN (λx=> !p x) xs j:Nat):Int)) nw)) ?_)))))
   rintro _ _ ⟨_,_,⟨rfl,rfl⟩,rfl,rfl⟩
   refine Ge1 (B0 (α:=Ev) (cs:=[e7 2,e7 nw,e7 ((e_ (keepL (λx=> !p x) xs j) ((keptN (λx=> !p x) xs j:Nat):Int)).u),e7 ((e_ (keepL (λx=> !p x) xs j) ((keptN (λx=> !p x) xs j:Nat):Int)).v),e7 0,e7 0,e7 0]) (xs:=[⟨2,nw,(e_ (keepL (λx=> !p x) xs j) ((keptN (λx=> !p x) xs j:Nat):Int)).u,(e_ (keepL (λx=> !p x) xs j) ((keptN (λx=> !p x) xs j:Nat):Int)).v,0,0,0⟩]) Az ty108 C C dc dc C kr C C) λad3=>?_
   refine Ge2 (B1 (α:=Ev) (e:=108) (xs:=chg) (ys:=([⟨2,nw,(e_ (keepL (λx=> !p x) xs j) ((keptN (λx=> !p x) xs j:Nat):Int)).u,(e_ (keepL (λx=> !p x) xs j) ((keptN (λx=> !p x) xs j:Nat):Int)).v,0,0,0⟩]:List Ev)) Az ty108 C C C mm Bg lcn dc C (λ_ _=>am)) λad4 cp5=>?_
   refine Ga C (Af (Aq (S5 8 0 1 2 9 C C C C C) (Au (Bl mixed (Br I 8 (Dr 0 C (Ad C) (Dr 1 C (Ad C) (Dr 2 C (Ee (l:=keptN (λx=> !p x) xs j) Ar ty146 C C (by simp only [Int.natCast_add]<;>omega) om om) (Dr 3 C (Ad C) (Dr 4 C (Ad C) (Dr 5 C (Rad C C) (Dr 6 C (Ee (l:=(keptN (λx=> !p x) xs j+1)) Ar ty146 C C (by simp only [Int.natCast_add]<;>omega) om om) (Ds1 7 (Se0 C (Eff.copyT (α:=Lk) (k:=keptN (λx=> !p x) xs j) (q:=(xs.length - j - 1)) (R:=(keepL (λx=> !p x) xs (j+1))++List.drop (keptN (λx=> !p x) xs j+(xs.length - j - 1)) (keepL (λx=> !p x) xs j)) (n:=(keepL (λx=> !p x) xs j).length) Ar ty146 C lat C (Ex (Eq (xs:=(keepL (λx=> !p x) xs j)) mm) om om) lat lat C (keep_copy om hpj C) lat am) ?_))))))))))))))
   refine Dz (Aj (Ax (Gm C (Gm C (Gr (Bm Ar C) (Gr (Rsu C C) (Gr (Runs.hiraw (h:=((keepL (λx=> !p x) xs j).length - 1)) Ar ty146 C C om om) (Ga C ?_))))))))
   have hkl:(keepL (λx=> !p x) xs j).length - 1=(keepL (λx=> !p x) xs (j+1)).length:=by have h3:=keepL_len (P:=(λx=> !p x)) (xs:=xs) (j:=j+1);omega
   refine G.fit (J:=vc 108 (.slice ad3 1 1) (([⟨2,nw,(e_ (keepL (λx=> !p x) xs j) ((keptN (λx=> !p x) xs j:Nat):Int)).u,(e_ (keepL (λx=> !p x) xs j) ((keptN (λx=> !p x) xs j:Nat):Int)).v,0,0,0⟩]:List Ev))::vc 108 (.slice ad4 (chg++([⟨2,nw,(e_ (keepL (λx=> !p x) xs j) ((keptN (λx=> !p x) xs j:Nat):Int)).u,(e_ (keepL (λx=> !p x) xs j) ((keptN (λx=> !p x) xs j:Nat):Int)).v,0,0,0⟩]:List Ev)).length cp5) (chg++([⟨2,nw,(e_ (keepL (λx=> !p x) xs j) ((keptN (λx=> !p x) xs j:Nat):Int)).u,(e_ (keepL (λx=> !p x) xs j) ((keptN (λx=> !p x) xs j:Nat):Int)).v,0,0,0⟩]:List Ev))::vc 146 (.slice ad1 (keepL (λx=> !p x) xs (j+1)).length cp2) ((keepL (λx=> !p x) xs (j+1)))::vc 146 (.slice a0 xs.length c0) (xs)::I) (Fit.upd am (λw h=>by have h4:=cutshort (h:=((keepL (λx=> !p x) xs j).length - 1)) (by rw [List.length_append];omega) w h;rw [keep_take hkl] at h4;exact h4)) ?_
   exact Bd (Ak (B2 ((j+1),(ad4),(cp5),(chg++([⟨2,nw,(e_ (keepL (λx=> !p x) xs j) ((keptN (λx=> !p x) xs j:Nat):Int)).u,(e_ (keepL (λx=> !p x) xs j) ((keptN (λx=> !p x) xs j:Nat):Int)).v,0,0,0⟩]:List Ev))) (by dsimp only;exact ⟨om,lap⟩) (hL:=(Aa (Cr C (by first|rfl|(rw [keepL_zero])|(rw [hky.1])|(rw [hkl]))) (Aa C (Aa C (Aa (Cr C (by first|rfl|(rw [keepL_zero])|(rw [hky.1])|(rw [hkl]))) (Aa (C4 C (by first|omega|(rw [keptN_zero];rfl)|(dsimp only;have e1:=hky.2;omega)|(dsimp only;have e1:=hkn;omega))) Bj))))))))
 ·refine Bs (Ap (Ap (A7 (Aj (Ah (Gm C (Gm C (Ga C (Ga C (Af (Aw ?_)))))))))))
  have hE:(keepL (λx=> !p x) xs j)=(xs.filter (λx=> !p x)):=keepL_end om
  exact Co C C C ([]++vc 146 (.slice ad1 (xs.filter (λx=> !p x)).length cp2) (xs.filter (λx=> !p x))::I) (by rw [←hE];exact A5) ⟨⟨ad1,cp2,.slice a2 chg.length c2⟩,by rw [←hE],rfl⟩
variable {κ:Ctx}{I:List Item}
theorem SetP_at{F:Item->List Item}{n:Nat}{e:Ev}{a0:Option Addr}{c0:Nat}{xs:List Lk}(hat:AtF I (vc 146 (.slice a0 n c0) xs) F)(hn:n=xs.length)(ha:xs.Pairwise Lk.lt)(hsz:xs.length<=1000000):ep prog κ 256 [.slice a0 n c0,.agg #[e7 (e.kd),e7 (e.tm),e7 (e.u),e7 (e.v),e7 (e.w),e7 (e.lb),e7 (e.sg)]] I λr J=>∃y:Option Addr×Nat×Value,(r = .tuple #[.slice y.1 (setL (ei e) xs).length y.2.1,y.2.2])/\J=[]++F (vc 146 (.slice y.1 (setL (ei e) xs).length y.2.1) (setL (ei e) xs)):=by
 subst hn
 exact D4 (Post:=λr (y:Option Addr×Nat×Value)=>r = .tuple #[.slice y.1 (setL (ei e) xs).length y.2.1,y.2.2]) (Z:=λ_=>[]) (X:=λy:Option Addr×Nat×Value=>vc 146 (.slice y.1 (setL (ei e) xs).length y.2.1) (setL (ei e) xs)) hat λJ hJ _=>SetP_base ha hsz
theorem CutP_at{F:Item->List Item}{n:Nat}{nw:Int}{a0:Option Addr}{c0:Nat}{xs:List Lk}{g:FuncId}{cp_:List Value}{p:Lk->Bool}(hat:AtF I (vc 146 (.slice a0 n c0) xs) F)(hn:n=xs.length)(hcb:Says prog κ I g cp_ p)(hsz:xs.length<=1000000):ep prog κ 257 [.slice a0 n c0,e7 nw,.func (.func g) #[] cp_.toArray] I λr J=>∃y:Option Addr×Nat×Value,(r = .tuple #[.slice y.1 (xs.filter (λx=> !p x)).length y.2.1,y.2.2])/\J=[]++F (vc 146 (.slice y.1 (xs.filter (λx=> !p x)).length y.2.1) (xs.filter (λx=> !p x))):=by
 subst hn
 exact D4 (Post:=λr (y:Option Addr×Nat×Value)=>r = .tuple #[.slice y.1 (xs.filter (λx=> !p x)).length y.2.1,y.2.2]) (Z:=λ_=>[]) (X:=λy:Option Addr×Nat×Value=>vc 146 (.slice y.1 (xs.filter (λx=> !p x)).length y.2.1) (xs.filter (λx=> !p x))) hat λJ hJ _=>CutP_base (hcb.fit hJ) hsz
theorem hitE_two{e:Ev}{l:Lk}(h:e.kd=2):hitE e l=decide (l.u=(if e.v<e.u then e.v else e.u)/\l.v=(if e.u<e.v then e.v else e.u)):=by unfold hitE;rw [if_pos h];rfl
theorem hitE_oth{e:Ev}{l:Lk}(h:¬e.kd=2):hitE e l=decide (l.u=e.u\/l.v=e.u):=by unfold hitE;rw [if_neg h]
theorem Step1_ok{b:Nat}{e:Ev}(hk:e.kd=2)(hb:BlkRd κ I b [e7 (e.kd),e7 (e.tm),e7 (e.u),e7 (e.v),e7 (e.w),e7 (e.lb),e7 (e.sg)] 108)(x:Lk):ep prog κ 258 [.agg #[e7 (x.u),e7 (x.v),e7 (x.w),e7 (x.lb),e7 (x.sg),e7 (x.tm)],.pointer (some ⟨b,0,none⟩)] I (λr J=>r = .bool (hitE e x)/\I=J):=by
 refine Ce2 Tryz.func258 C C ?_
 refine Ah (Ge1 (Bc (cs:=[_,_,_,_,_,_]) C C C) λb1=>Ga C (Af (Ah (Gf fld146_0 C (Gl ef ?_)))))
 refine Gf fld108_2 C (Gr (C7 ef C (C1 hb A0) C) (Gf fld108_3 C (Gr (C7 ef C (C1 hb A0) C) (Gr (E1 C C) (Gr (Bi C C) (Gm C (Ba (d:=12) C (λg12=>?_) (λg12=>?_))))))))
 ·refine e9 (Ab fld146_1 C) (e9 (As ef) ?_)
  exact e9 (Ab fld108_2 C) (e9 (C7 ef C (C1 hb A0) C) (e9 (Ab fld108_3 C) (e9 (C7 ef C (C1 hb A0) C) (e9 (D2 C C) (e9 (Bi C C) (Gr (Am C C) (Ga C (Af (Aq (S1 3 C) (Aw (A1 C C I A0 ⟨by rw [hitE_two hk];exact (by first|exact congrArg Value.bool (decide_eq_decide.2 (by skip;omega))|exact congrArg Value.bool (decide_eq_true (by skip;omega)).symm|exact congrArg Value.bool (decide_eq_false (by skip;omega)).symm),rfl⟩)))))))))))
 ·exact eb (eb (eb (eb (eb (eb (eb (eb (Gr (Al C C) (Ga C (Af (Aq (S1 3 C) (Aw (A1 C C I A0 ⟨by rw [hitE_two hk];exact (by first|exact congrArg Value.bool (decide_eq_decide.2 (by skip;omega))|exact congrArg Value.bool (decide_eq_true (by skip;omega)).symm|exact congrArg Value.bool (decide_eq_false (by skip;omega)).symm),rfl⟩)))))))))))))
theorem Step1_says{b:Nat}{e:Ev}(hk:e.kd=2)(hb:BlkRd κ I b [e7 (e.kd),e7 (e.tm),e7 (e.u),e7 (e.v),e7 (e.w),e7 (e.lb),e7 (e.sg)] 108):Says prog κ I 258 [.pointer (some ⟨b,0,none⟩)] (hitE e):=⟨call258,λx J hf=>Step1_ok hk (hb.fit hf) x⟩
theorem Step2_ok{b:Nat}{e:Ev}(hk:¬e.kd=2)(hb:BlkRd κ I b [e7 (e.kd),e7 (e.tm),e7 (e.u),e7 (e.v),e7 (e.w),e7 (e.lb),e7 (e.sg)] 108)(x:Lk):ep prog κ 259 [.agg #[e7 (x.u),e7 (x.v),e7 (x.w),e7 (x.lb),e7 (x.sg),e7 (x.tm)],.pointer (some ⟨b,0,none⟩)] I (λr J=>r = .bool (hitE e x)/\I=J):=by
 refine Ce2 Tryz.func259 C C ?_
 refine Ah (Ge1 (Bc (cs:=[_,_,_,_,_,_]) C C C) λb1=>Ga C (Af (Ah (Gf fld146_0 C (Gl ef ?_)))))
 refine Gf fld108_2 C (Gr (C7 ef C (C1 hb A0) C) (Gr (Bi C C) (Gm C (Ba (d:=9) C (λg9=>?_) (λg9=>?_)))))
 ·exact eb (eb (eb (eb (eb (Gr (Am C C) (Ga C (Af (Aq (S1 3 C) (Aw (A1 C C I A0 ⟨by rw [hitE_oth hk];exact (by first|exact congrArg Value.bool (decide_eq_decide.2 (by skip;omega))|exact congrArg Value.bool (decide_eq_true (by skip;omega)).symm|exact congrArg Value.bool (decide_eq_false (by skip;omega)).symm),rfl⟩))))))))))
 ·refine e9 (Ab fld146_1 C) (e9 (As ef) ?_)
  exact e9 (Ab fld108_2 C) (e9 (C7 ef C (C1 hb A0) C) (e9 (Bi C C) (Gr (Al C C) (Ga C (Af (Aq (S1 3 C) (Aw (A1 C C I A0 ⟨by rw [hitE_oth hk];exact (by first|exact congrArg Value.bool (decide_eq_decide.2 (by skip;omega))|exact congrArg Value.bool (decide_eq_true (by skip;omega)).symm|exact congrArg Value.bool (decide_eq_false (by skip;omega)).symm),rfl⟩))))))))
theorem Step2_says{b:Nat}{e:Ev}(hk:¬e.kd=2)(hb:BlkRd κ I b [e7 (e.kd),e7 (e.tm),e7 (e.u),e7 (e.v),e7 (e.w),e7 (e.lb),e7 (e.sg)] 108):Says prog κ I 259 [.pointer (some ⟨b,0,none⟩)] (hitE e):=⟨call259,λx J hf=>Step2_ok hk (hb.fit hf) x⟩
theorem StepP_base{nd:Int}{e:Ev}{a0:Option Addr}{c0:Nat}{xs:List Lk}(ha:xs.Pairwise Lk.lt)(hsz:xs.length<=1000000):ep prog κ 215 [.agg #[e7 nd,.slice a0 xs.length c0],.agg #[e7 (e.kd),e7 (e.tm),e7 (e.u),e7 (e.v),e7 (e.w),e7 (e.lb),e7 (e.sg)]] (vc 146 (.slice a0 xs.length c0) (xs)::I) (λr J=>∃y:Option Addr×Nat×Value,(r = .tuple #[.agg #[e7 nd,.slice y.1 (em xs e).length y.2.1],y.2.2])/\J=[]++vc 146 (.slice y.1 (em xs e).length y.2.1) (em xs e)::I):=by
 refine Ce2 Tryz.func215 C C ?_
 refine Ah (Ge1 (Bc (cs:=[_,_]) C C C) λb1=>Ge1 (Bc (cs:=[_,_,_,_,_,_,_]) C C C) λb2=>Ge1 (A8 ty111 C) λb3=>Ga C (Af (Ah (Ga C (Af (Au (Ah (Gf fld108_0 C (Gl ef ?_)))))))))
 refine Af (A4 (Ah (Gr (Bi C C) (Ga C (Af (A6 C (λc19=>?_) (λc19=>?_)))))))
 ·refine Ax (Gf fld111_1 C (Gl ty109 ?_))
  refine Gl7 ty108 ?_
  refine G.e (Ao call256 C C (SetP_at (by repeat (first|exact AtF.head _ _|apply AtF.tail)) C ha om)) ?_
  rintro _ _ ⟨_,_,⟨⟨ad4,cp5,wv6⟩,rfl,rfl⟩,rfl,rfl⟩
  show G prog κ _ _ _ _ ([(25,.tuple #[.slice ad4 (setL (ei e) xs).length cp5,wv6]),(24,.agg #[e7 (e.kd),e7 (e.tm),e7 (e.u),e7 (e.v),e7 (e.w),e7 (e.lb),e7 (e.sg)]),(23,.slice a0 xs.length c0),(22,.pointer (some ⟨b1,1,none⟩)),(19,.bool (decide (e.kd=1))),(20,.bool (decide (e.kd=1))),(8,e7 (e.kd)),(7,.pointer (some ⟨b2,0,none⟩)),(6,.slice none 0 0),(5,.slice none 0 0),(4,.pointer (some ⟨b3,0,none⟩)),(3,.pointer (some ⟨b2,0,none⟩)),(2,.pointer (some ⟨b1,0,none⟩)),(0,.agg #[e7 nd,.slice a0 xs.length c0]),(1,.agg #[e7 (e.kd),e7 (e.tm),e7 (e.u),e7 (e.v),e7 (e.w),e7 (e.lb),e7 (e.sg)])]:Env) (e8 b3 [e7 0,.slice none 0 0] 111::e8 b2 [e7 (e.kd),e7 (e.tm),e7 (e.u),e7 (e.v),e7 (e.w),e7 (e.lb),e7 (e.sg)] 108::e8 b1 [e7 nd,.slice a0 xs.length c0] 111::vc 146 (.slice ad4 (setL (ei e) xs).length cp5) (setL (ei e) xs)::I)
  refine Gm C (Gr (A2 C C) (Gr (A2 C C) (Gf fld111_1 C (Ge0 (Ed ty109) ?_))))
  refine Ga C (Bd (Ak (Aj (Aq (S3 6 4 2 C C C) (Ah (Gl2 ty111 ?_))))))
  refine Gm C (Ge0 (Cd ty111) ?_)
  refine Ga C (Af (Aw ?_))
  have hE:setL (ei e) xs=(em xs e):=by unfold em;rw [if_pos c19]
  exact Dq C ty111 C C mm C ([]++vc 146 (.slice ad4 (em xs e).length cp5) (em xs e)::I) (by rw [←hE];exact A5) ⟨⟨ad4,cp5,wv6⟩,by rw [←hE]<;>rfl,rfl⟩
 ·refine Ah (Gr (Bi C C) (Ga C (Af (A6 C (λc29=>?_) (λc29=>?_)))))
  ·refine Ax (Gf fld111_1 C (Gl ty109 ?_))
   refine Gf fld108_1 C (Gl ef ?_)
   refine Gr (D8 C C) (G.e (Ao call257 C C (CutP_at (by repeat (first|exact AtF.head _ _|apply AtF.tail)) C (Step1_says c29 (Dv mm)) om)) ?_)
   rintro _ _ ⟨_,_,⟨⟨ad7,cp8,wv9⟩,rfl,rfl⟩,rfl,rfl⟩
   show G prog κ _ _ _ _ ([(37,.tuple #[.slice ad7 (List.filter (λx=> !hitE e x) xs).length cp8,wv9]),(36,.func (.func 258) #[] #[.pointer (some ⟨b2,0,none⟩)]),(35,e7 (e.tm)),(34,.pointer (some ⟨b2,1,none⟩)),(33,.slice a0 xs.length c0),(32,.pointer (some ⟨b1,1,none⟩)),(29,.bool (decide (e.kd=2))),(30,.bool (decide (e.kd=2))),(19,.bool (decide (e.kd=1))),(20,.bool (decide (e.kd=1))),(8,e7 (e.kd)),(7,.pointer (some ⟨b2,0,none⟩)),(6,.slice none 0 0),(5,.slice none 0 0),(4,.pointer (some ⟨b3,0,none⟩)),(3,.pointer (some ⟨b2,0,none⟩)),(2,.pointer (some ⟨b1,0,none⟩)),(0,.agg #[e7 nd,.slice a0 xs.length c0]),(1,.agg #[e7 (e.kd),e7 (e.tm),e7 (e.u),e7 (e.v),e7 (e.w),e7 (e.lb),e7 (e.sg)])]:Env) (e8 b3 [e7 0,.slice none 0 0] 111::e8 b2 [e7 (e.kd),e7 (e.tm),e7 (e.u),e7 (e.v),e7 (e.w),e7 (e.lb),e7 (e.sg)] 108::e8 b1 [e7 nd,.slice a0 xs.length c0] 111::vc 146 (.slice ad7 (List.filter (λx=> !hitE e x) xs).length cp8) (List.filter (λx=> !hitE e x) xs)::I)
   refine Gm C (Gr (A2 C C) (Gr (A2 C C) (Gf fld111_1 C (Ge0 (Ed ty109) ?_))))
   refine Ga C (Bd (Ak (Aj (Aq (S3 6 4 2 C C C) (Ah (Gl2 ty111 ?_))))))
   refine Gm C (Ge0 (Cd ty111) ?_)
   refine Ga C (Af (Aw ?_))
   have hE:List.filter (λx=> !hitE e x) xs=(em xs e):=by unfold em;rw [if_neg c19]
   exact Dq C ty111 C C mm C ([]++vc 146 (.slice ad7 (em xs e).length cp8) (em xs e)::I) (by rw [←hE];exact A5) ⟨⟨ad7,cp8,wv9⟩,by rw [←hE]<;>rfl,rfl⟩
  ·refine Ax (Gf fld111_1 C (Gl ty109 ?_))
   refine Gf fld108_1 C (Gl ef ?_)
   refine Gr (D8 C C) (G.e (Ao call257 C C (CutP_at (by repeat (first|exact AtF.head _ _|apply AtF.tail)) C (Step2_says c29 (Dv mm)) om)) ?_)
   rintro _ _ ⟨_,_,⟨⟨ad10,cp11,wv12⟩,rfl,rfl⟩,rfl,rfl⟩
   show G prog κ _ _ _ _ ([(15,.tuple #[.slice ad10 (List.filter (λx=> !hitE e x) xs).length cp11,wv12]),(14,.func (.func 259) #[] #[.pointer (some ⟨b2,0,none⟩)]),(13,e7 (e.tm)),(12,.pointer (some ⟨b2,1,none⟩)),(11,.slice a0 xs.length c0),(10,.pointer (some ⟨b1,1,none⟩)),(29,.bool (decide (e.kd=2))),(30,.bool (decide (e.kd=2))),(19,.bool (decide (e.kd=1))),(20,.bool (decide (e.kd=1))),(8,e7 (e.kd)),(7,.pointer (some ⟨b2,0,none⟩)),(6,.slice none 0 0),(5,.slice none 0 0),(4,.pointer (some ⟨b3,0,none⟩)),(3,.pointer (some ⟨b2,0,none⟩)),(2,.pointer (some ⟨b1,0,none⟩)),(0,.agg #[e7 nd,.slice a0 xs.length c0]),(1,.agg #[e7 (e.kd),e7 (e.tm),e7 (e.u),e7 (e.v),e7 (e.w),e7 (e.lb),e7 (e.sg)])]:Env) (e8 b3 [e7 0,.slice none 0 0] 111::e8 b2 [e7 (e.kd),e7 (e.tm),e7 (e.u),e7 (e.v),e7 (e.w),e7 (e.lb),e7 (e.sg)] 108::e8 b1 [e7 nd,.slice a0 xs.length c0] 111::vc 146 (.slice ad10 (List.filter (λx=> !hitE e x) xs).length cp11) (List.filter (λx=> !hitE e x) xs)::I)
   refine Gm C (Gr (A2 C C) (Gr (A2 C C) (Gf fld111_1 C (Ge0 (Ed ty109) ?_))))
   refine Ga C (Bd (Ak (Aj (Aq (S3 6 4 2 C C C) (Ah (Gl2 ty111 ?_))))))
   refine Gm C (Ge0 (Cd ty111) ?_)
   refine Ga C (Af (Aw ?_))
   have hE:List.filter (λx=> !hitE e x) xs=(em xs e):=by unfold em;rw [if_neg c19]
   exact Dq C ty111 C C mm C ([]++vc 146 (.slice ad10 (em xs e).length cp11) (em xs e)::I) (by rw [←hE];exact A5) ⟨⟨ad10,cp11,wv12⟩,by rw [←hE]<;>rfl,rfl⟩
theorem StepP_at{F:Item->List Item}{n:Nat}{nd:Int}{e:Ev}{a0:Option Addr}{c0:Nat}{xs:List Lk}(hat:AtF I (vc 146 (.slice a0 n c0) xs) F)(hn:n=xs.length)(ha:xs.Pairwise Lk.lt)(hsz:xs.length<=1000000):ep prog κ 215 [.agg #[e7 nd,.slice a0 n c0],.agg #[e7 (e.kd),e7 (e.tm),e7 (e.u),e7 (e.v),e7 (e.w),e7 (e.lb),e7 (e.sg)]] I λr J=>∃y:Option Addr×Nat×Value,(r = .tuple #[.agg #[e7 nd,.slice y.1 (em xs e).length y.2.1],y.2.2])/\J=[]++F (vc 146 (.slice y.1 (em xs e).length y.2.1) (em xs e)):=by
 subst hn
 exact D4 (Post:=λr (y:Option Addr×Nat×Value)=>r = .tuple #[.agg #[e7 nd,.slice y.1 (em xs e).length y.2.1],y.2.2]) (Z:=λ_=>[]) (X:=λy:Option Addr×Nat×Value=>vc 146 (.slice y.1 (em xs e).length y.2.1) (em xs e)) hat λJ hJ _=>StepP_base ha hsz
end Go.Sl
