/- A part of the proofs of statements of this seat: contracts of functions, and the plain laws that they lean on. No conditions. -/
import Derived.Test.YtfkcohmipjhfcaaGreatDoorW7
set_option linter.unusedVariables false
set_option linter.unusedSimpArgs false
set_option linter.unusedSectionVars false
open Go.Proofs.Tryz (prog)
namespace Go.Sl
open Go.Proofs
set_option maxRecDepth 4000
theorem fitE_chk{nd:Int}{e:Ev}(h:checkE e≠0):fitE nd e=checkE e:=by unfold fitE;rw [if_pos h]
theorem Stream_ok{κ:Ctx}{I:List Item}{nd:Int}{va:Value}{es:List Ev}(hl:Sl κ I va es):eu prog κ 139 [e7 nd,va] I (λr J=>r=e7 (streamE nd es)/\I=J):=by
 refine Cg hl.le λhmax=>?_
 refine Ce2 Tryz.func139 C C ?_
 refine Aj (Ga C (Ah (Au (A6 (Aj (Gm C (Gr (Bi C C) (Gm C (Bs (d:=13) C (λg13=>?_) (λg13=>?_))))))))))
 ·exact eb (eb (Gr (Ap C C) (Ga C (Ah (Do C (Aj (Ga C (Ah (Az (A3 (Ar (Ba C C I Ay ⟨by rw [show streamE nd es=1 from (by unfold streamE;rw [if_pos om])],rfl⟩))))))))))))
 ·refine e9 (Af C) (e9 (Ci C C) (Gr (Al C C) (Ga C (Ah (Bd C (λc10=>?_) (λc10=>?_))))))
  ·exact Aj (Ga C (Ah (Az (A3 (Ar (Ba C C I Ay ⟨by rw [show streamE nd es=1 from (by unfold streamE;rw [if_pos om])],rfl⟩))))))
  ·refine Aj (Gm C (Gr (Cb (α:=Ev) (xs:=es) Bh C (Bj hl)) (Gr (Ci C C) (Ga C (Ah (Av (S3 17 0 1 C C C) (Bd C (λc17=>?_) (λc17=>?_))))))))
   ·exact Aj (Ga C (Ah (Az (A3 (Ar (Ba C C I Ay ⟨by rw [show streamE nd es=3 from (by unfold streamE;rw [if_neg om,if_pos om])],rfl⟩))))))
   ·refine A4 (Ak (Ai (Aj (Ga C (Ah (Au (Aj (Gm C (Gr (Cb (α:=Ev) (xs:=es) Bh C (Bj hl)) (Gm C (Ah (A6 (Ca (σ:=Nat) (λs=>([(0,e7 nd),(5,e7 (lastT es s)),(21,va),(22,e7 ((es.length:Nat):Int)),(23,e7 ((s:Nat):Int))]:Env)) (λs=>I) (λs=>(s<=es.length)/\(streamE nd es=streamS nd (lastT es s) (es.drop s))) (λs=>es.length - s) 0 ⟨om,(by unfold streamE;rw [if_neg om,if_neg om];rfl)⟩ (Aa C (Aa (Dl C (by first|omega|(dsimp only<;>omega)|exact (rfl:(0:Int)=lastT es 0)|exact (lastT_succ es k).symm)) (Aa C (Aa C (Aa (Dl C (by first|omega|(dsimp only<;>omega)|exact (rfl:(0:Int)=lastT es 0)|exact (lastT_succ es k).symm)) Bq))))) (show Fit κ _ I from A5) ?_)))))))))))))
    rintro k hp
    obtain ⟨hk,hs⟩:=hp
    refine Aj (Gr (Bi C C) (Ah (Au (Bd C (λc24=>?_) (λc24=>?_)))))
    ·refine A4 (Ai (Au (A6 (Aj (Gr (A2 (α:=Ev) (xs:=es) Bh ty108 C C (Bj hl) om om) (Gr (B7 (α:=Ev) (xs:=es) ty108 C (Bj hl) om om) (Ge1 (A9 ty108 C) λb1=>Ge0 (Fl ty108) ?_)))))))
     refine Ah (Au (Aj (Gl7 ty108 ?_)))
     refine Gc0 (Am call209 C C (CheckE_ok (e_ es k))) ?_
     refine Ga C (Ah (Aj (Gm C (Gr (Bx C C) (Ah (Av (S8 30 8 7 0 5 21 22 23 C C C C C C C C) (Bd C (λc30=>?_) (λc30=>?_))))))))
     ·exact Aj (Gm C (Ga C (Ah (Az (Ar (A3 (Ar (Ar (A3 (Ar (Ba C C I Ay ⟨by rw [show streamE nd es=checkE (e_ es k) from (hs.trans ((streamS_bad om (by rw [fitE_chk c30];exact c30)).trans (fitE_chk c30)))],rfl⟩)))))))))))
     ·refine A4 (Ai (Au (Aj (Gm C (Gl7 ty108 ?_)))))
      refine Gc0 (Am call210 C C (FitsE_ok nd (e_ es k))) ?_
      refine Ga C (Ah (Aj (Gm C (Gr (Bx C C) (Ah (Av (S8 36 9 7 0 5 21 22 23 C C C C C C C C) (Bd C (λc36=>?_) (λc36=>?_))))))))
      ·exact Aj (Gm C (Ga C (Ah (Az (Ar (A3 (Ar (Ar (A3 (Ar (Ba C C I Ay ⟨by rw [show streamE nd es=fitE nd (e_ es k) from (hs.trans (streamS_bad om c36))],rfl⟩)))))))))))
      ·refine A4 (Ai (Au (Aj (Gf fld108_1 C (Gl ef ?_)))))
       refine Gm C (Gr (Bi C C) (Ah (Bd C (λc41=>?_) (λc41=>?_))))
       ·exact Aj (Ga C (Ah (Az (Ar (A3 (Ar (Ar (A3 (Ar (Ba C C I Ay ⟨by rw [show streamE nd es=9 from (hs.trans (streamS_late om (Classical.not_not.1 c36) om))],rfl⟩))))))))))
       ·refine A4 (Ai (A0 (Gf fld108_1 C (Gl ef ?_))))
        exact Ga C (Bf (Ak (Ai (Av (S5 5 0 21 22 23 C C C C C) (A0 (Gr (Rad C C) (Gm C (Bf (Ch ((k+1)) ⟨om,(hs.trans (streamS_step om (Classical.not_not.1 c36) om))⟩ (hL:=(Aa C (Aa (Dl C (by first|omega|(dsimp only<;>omega)|exact (rfl:(0:Int)=lastT es 0)|exact (lastT_succ es k).symm)) (Aa C (Aa C (Aa (Dl C (by first|omega|(dsimp only<;>omega)|exact (rfl:(0:Int)=lastT es 0)|exact (lastT_succ es k).symm)) Bq)))))))))))))))
    ·exact Bp (Ac (Ac (Aw (Ai (Aj (Ga C (Ah (Az (Ba C C I Ay ⟨by rw [show streamE nd es=0 from (hs.trans (streamS_end om))],rfl⟩)))))))))
variable {κ:Ctx}{I:List Item}
theorem ov324:∀args w,(callFunc 324 args).run prog w=((Extern.SlicesOverlaps.overlaps #[109,109] #[4] args).run prog w).andThen λv w'=> .ok (.value v) w':=λargs w=>run_callFunc_extern (e:=Extern.SlicesOverlaps.overlaps #[109,109] #[4]) Tryz.func324 kr kr kr kr args w
set_option maxHeartbeats 8000000 in
theorem InsertL_ok{a va:Option Addr}{c vcp i:Nat}{xs ys:List Lk}(hi:i<=xs.length)(hy:0<ys.length)(hsz:xs.length+ys.length<=1000000000):eu prog κ 303 [.slice a xs.length c,e7 ((i:Int)),.slice va ys.length vcp] (vc 146 (.slice a xs.length c) (xs)::vc 146 (.slice va ys.length vcp) (ys)::I) (λr J=>∃a' c',r = .slice a' (List.take i xs++ys++List.drop i xs).length c'/\J=vc 146 (.slice a' (List.take i xs++ys++List.drop i xs).length c') (List.take i xs++ys++List.drop i xs)::I):=by
 refine Cg (vc.cap List.mem_cons_self) λhcap=>?_
 have hRl:(List.take i xs++ys++List.drop i xs).length=xs.length+ys.length:=by simp only [List.length_append,List.length_take,List.length_drop];omega
 refine Ce3 Tryz.func303 C C ?_
 refine Aj (Ga C (Ah (Aj (Gm C (Gm C (Gr (Ew (α:=Lk) (xs:=xs) (l:=i) A7 ty146 C C om Bk lat) (Ah (Aj (Gm C (Gr (Bz A7 C) (Ga C (Ah (Au (Aj (Gm C (Gr (Bl C C) (Ah (Bd C (λc16=>?_) (λc16=>?_)))))))))))))))))))
 ·exact absurd c16 om
 ·refine A4 (Ai (Aj (Gm C (Gr (Bz A7 C) (Ga C (Ah (Av (S5 8 7 0 1 2 C C C C C) (Au (Aj (Gm C (Gm C (Gr (Bl C C) (Ah (Bd C (λc22=>?_) (λc22=>?_)))))))))))))))
  ·refine Aj (Gm C (Gm C (Ge2 (Cn (α:=Lk) (e:=146) (xs:=xs) (ys:=ys) A7 ty146 C C C mm Bk om dc C (λ_ _=>am)) λad1 cp2=>?_)))
   refine Ga C (Ah (Az (Ar ?_)))
   have hR:List.take i xs++ys++List.drop i xs=xs++ys:=by rw [List.take_of_length_le om,List.drop_eq_nil_of_le om,List.append_nil]
   exact Ba C C (vc 146 (.slice ad1 (List.take i xs++ys++List.drop i xs).length cp2) (List.take i xs++ys++List.drop i xs)::I) (by rw [hR];exact Bv) ⟨ad1,cp2,by rw [hR],rfl⟩
  ·refine A4 (Ai (Au (Aj (Gm C (Gm C (Gr (Rad C C) (Gm C (Gr (Runs.caps A7 C) (Gr (Ci C C) (Ah (Av (S6 31 8 7 0 1 2 C C C C C C) (Bd C (λc31=>?_) (λc31=>?_)))))))))))))
   ·refine Aj (Gm C (Gm C (Gr (Runs.hiraw (h:=i) A7 ty146 C C om om) (Gm C (Gm C (Gr (Rad C C) (Gm C (Gr (Rsu C C) (Ge2 (Eff.grow (α:=Lk) (xs:=xs) (k:=xs.length+ys.length - i) A7 Bo ty146 C C C om Bk om om om om dc C) λad3 cp4=>?_)))))))))
    refine Ga C (G.pull (p:=(List.take i xs++List.replicate (xs.length+ys.length - i) (default:Lk)).length<=cp4) (vc.cap mm) λhcap2=>?_)
    have hZl:(List.take i xs++List.replicate (xs.length+ys.length - i) (default:Lk)).length=xs.length+ys.length:=by simp only [List.length_append,List.length_take,List.length_replicate];omega
    refine Ah (Av (S5 9 7 0 1 2 C C C C C) (Aj (Gm C (Gm C (Gr (Ew (α:=Lk) (xs:=List.take i xs++List.replicate (xs.length+ys.length - i) (default:Lk)) (l:=i) A7 ty146 C C om Bk lat) (Gm C (Ge0 (Eff.copyT (α:=Lk) (k:=i) (q:=ys.length) (R:=List.take i xs++ys++List.replicate (xs.length - i) (default:Lk)) (n:=(i+(xs.length+ys.length - i))) A7 ty146 C lat C Bk lat lat C (ins1 hi) lat am) ?_)))))))
    refine Ah (Au (Bt mixed (C9 I 9 (Dr 0 C (Af C) (Dr 1 C (Af C) (Dr 2 C (Af C) (Dr 3 C (Rad C C) (Dr 4 C (E1 (l:=(i+ys.length)) A7 ty146 C C om om om) (Dr 5 C (Af C) (Dr 6 C (Af C) (Dr 7 C (E1 (l:=i) A7 ty146 C C om om om) (Ds1 8 (Se0 C (Eff.copyT (α:=Lk) (k:=(i+ys.length)) (q:=(xs.length - i)) (R:=List.take i xs++ys++List.drop i xs) (n:=(i+(xs.length+ys.length - i))) A7 ty146 C lat C (Fh (Fo (xs:=xs) mm) om om) lat lat C (ins2 hi) lat am) ?_)))))))))))))
    exact Dz (Ai (Av (S1 9 C) (Aj (Gm C (Ga C (Ah (Az (Ar (Ba C C (vc 146 (.slice ad3 (List.take i xs++ys++List.drop i xs).length cp4) (List.take i xs++ys++List.drop i xs)::I) (by rw [show (List.take i xs++ys++List.drop i xs).length=i+(xs.length+ys.length - i) by omega];exact Bv) ⟨ad3,cp4,by rw [show (List.take i xs++ys++List.drop i xs).length=i+(xs.length+ys.length - i) by omega],rfl⟩)))))))))
   ·refine A4 (Ai (Aj (Gm C (Gm C (Gm C (Gr (Rad C C) (Gr (Runs.hiraw (h:=xs.length+ys.length) A7 ty146 C C om om) (Ga C (G.room (h:=xs.length+ys.length) (by repeat (first|exact AtF.head _ _|apply AtF.tail)) C om om (λjs hjs=>?_))))))))))
    refine Ah (Au (Aj (Gm C (Gm C (Gm C (Gm C (Gr (Rad C C) (Gr (E1 (l:=(i+ys.length)) A7 ty146 C C om om om) (Ge0 (Eff.overlaps (k:=i+ys.length) ov324 A7 ty146 C C om om om (Fit.sp (Sp.pick (Pick.tail _ (Pick.head _ _)) (Sp.refl _))) (Nat.mul_pos om Enc.pos) C) ?_)))))))))
    refine Gr (B8 C) (Ah (Av (S6 68 0 8 7 1 2 C C C C C C) (Do C (Au (Bt mixed (C9 I 9 (Dr 0 C (Af C) (Dr 1 C (Af C) (Dr 2 C (Af C) (Dr 3 C (Rad C C) (Dr 4 C (E1 (l:=(i+ys.length)) A7 ty146 C C om om om) (Dr 5 C (Af C) (Dr 6 C (Af C) (Dr 7 C (E1 (l:=i) A7 ty146 C C om om om) (Ds1 8 (Se0 C (Eff.copyR (sz:=Enc.sz Lk) (n:=xs.length+ys.length) (cs:=(cells xs++js)) (k:=(i+ys.length)) (q:=(xs.length - i)) A7 ty146 C om C (SlRd.dropR (SlRd.vec mm) om) om om (ins_one hi) C am) ?_))))))))))))))))
    refine Dz (Ai (Av (S3 0 1 2 C C C) (Aj (Gm C (Gm C (Gr (E1 (l:=i) A7 ty146 C C om om om) (Gm C (Ge0 (Eff.copyR (sz:=Enc.sz Lk) (n:=xs.length+ys.length) (cs:=(List.take ((i+ys.length)*Enc.sz Lk) (cells xs++js)++List.take ((xs.length - i)*Enc.sz Lk) (List.drop (i*Enc.sz Lk) (cells xs++js))++List.drop ((i+ys.length)*Enc.sz Lk+(xs.length - i)*Enc.sz Lk) (cells xs++js))) (k:=i) (q:=ys.length) A7 ty146 C om C (Fo (e:=146) (xs:=ys) mm) om om (λu hu=>cells_one ys u (List.mem_of_mem_take hu)) C am) ?_))))))))
    refine Ah (Aj (Gm C (Ga C (Ah (Az (Ar ?_))))))
    have hC:(List.take (i*Enc.sz Lk) (List.take ((i+ys.length)*Enc.sz Lk) (cells xs++js)++List.take ((xs.length - i)*Enc.sz Lk) (List.drop (i*Enc.sz Lk) (cells xs++js))++List.drop ((i+ys.length)*Enc.sz Lk+(xs.length - i)*Enc.sz Lk) (cells xs++js))++List.take (ys.length*Enc.sz Lk) (cells ys)++List.drop (i*Enc.sz Lk+ys.length*Enc.sz Lk) (List.take ((i+ys.length)*Enc.sz Lk) (cells xs++js)++List.take ((xs.length - i)*Enc.sz Lk) (List.drop (i*Enc.sz Lk) (cells xs++js))++List.drop ((i+ys.length)*Enc.sz Lk+(xs.length - i)*Enc.sz Lk) (cells xs++js)))=cells (List.take i xs++ys++List.drop i xs):=ins_cells hi hjs
    exact Ba C C (vc 146 (.slice a (List.take i xs++ys++List.drop i xs).length c) (List.take i xs++ys++List.drop i xs)::I) (by rw [hC];show Fit κ _ (vec 146 _ (.slice a (List.take i xs++ys++List.drop i xs).length c) (List.take i xs++ys++List.drop i xs).length (cells (List.take i xs++ys++List.drop i xs))::I);rw [hRl];exact Bv) ⟨a,c,by rw [hRl],rfl⟩
theorem InsertL_two{a va:Option Addr}{n m c vcp i:Nat}{xs ys:List Lk}{K:List Item}(hf:Fit κ I (vc 146 (.slice a n c) xs::vc 146 (.slice va m vcp) ys::K))(hn:n=xs.length)(hm:m=ys.length)(hi:i<=xs.length)(hy:0<ys.length)(hsz:xs.length+ys.length<=1000000000):eu prog κ 303 [.slice a n c,e7 (i:Int),.slice va m vcp] I (λr J=>∃a' c',r = .slice a' (List.take i xs++ys++List.drop i xs).length c'/\J=vc 146 (.slice a' (List.take i xs++ys++List.drop i xs).length c') (List.take i xs++ys++List.drop i xs)::K):=by
 subst hn hm
 exact C1 hf (InsertL_ok hi hy hsz)
theorem BSearchL{v:Value}{xs:List Lk}(hl:Sl κ I v xs)(x:Lk){g:FuncId}{cp_:List Value}{cf:Lk->Lk->Int}(hcb:Cmps prog κ I g cp_ cf)(hsz:xs.length<=1000000000000):eu prog κ 302 [v,.agg #[e7 (x.u),e7 (x.v),e7 (x.w),e7 (x.lb),e7 (x.sg),e7 (x.tm)],.func (.func g) #[] cp_.toArray] I (λr J=>∃i b,r = .tuple #[e7 ((i:Nat):Int),.bool b]/\BFound cf xs x i b/\I=J):=by
 refine Cg hl.le λhmax=>?_
 refine Ce3 Tryz.func302 C C ?_
 refine Aj (Ge1 (Bg (cs:=[_,_,_,_,_,_]) C C C) λb1=>Ga C (Ga C (Ah (Aj (Gm C (Gr (Cb (α:=Lk) (xs:=xs) A7 C (Bj hl)) (Ga C (Ah (Aj (Gm C (Ga C (Ga C (Ah (Au (A6 (Ca (σ:=Nat×Nat) (λs=>([(0,v),(2,.func (.func g) #[] cp_.toArray),(4,.pointer (some ⟨b1,0,none⟩)),(8,e7 ((xs.length:Nat):Int)),(9,e7 ((s.1:Nat):Int)),(10,e7 ((s.2:Nat):Int))]:Env)) (λs=>e8 b1 [e7 (x.u),e7 (x.v),e7 (x.w),e7 (x.lb),e7 (x.sg),e7 (x.tm)] 146::I) (λs=>(s.1<=s.2)/\(s.2<=xs.length)/\(0<s.1->cf (e_ xs ((s.1:Int) - 1)) x<0)/\(s.2<xs.length->¬cf (e_ xs s.2) x<0)) (λs=>s.2 - s.1) (0,xs.length) (show ((0:Nat)<=(xs.length:Nat))/\((xs.length:Nat)<=xs.length)/\(0<(0:Nat)->cf (e_ xs (((0:Nat):Int) - 1)) x<0)/\((xs.length:Nat)<xs.length->¬cf (e_ xs ((xs.length:Nat):Int)) x<0) from ⟨om,om,(λh=>absurd h dc),(λh=>absurd h om)⟩) (Aa C (Aa C (Aa C (Aa C (Aa Cr (Aa Cr Bq)))))) A5 ?_))))))))))))))))
 rintro ⟨i,j⟩ hp
 dsimp only at hp ⊢
 obtain ⟨hij,hj,hlo,hhi⟩:=hp
 refine Au (Aj (Gm C (Gm C (Gr (Bi C C) (Ah (Bd C (λc17=>?_) (λc17=>?_)))))))
 ·refine A4 (Ai (A6 (Aj (Gm C (Gm C (Gr (Rad C C) (Gr (Fq Bo Ed C om) (Gr (Runs.shr1 C C) (Gr (Runs.convI Ed Bo C (by unfold InR;omega)) (Ga C (Ah (Av (S7 11 0 2 4 8 9 10 C C C C C C C) (Au (Bt mixed (C7 8 (Dr 0 C (Af C) (Dr 1 C (Af C) (Dr 2 C (Af C) (Dr 3 C (A2 (α:=Lk) (xs:=xs) A7 ty146 C C (Bj hl) om om) (Dr 4 C (B7 (α:=Lk) (xs:=xs) ty146 C (Bj hl) om om) (Dr 5 C (Be (vs:=[_,_,_,_,_,_]) ty146) ?_)))))))))))))))))))))
  refine Ds1 6 (Se C (C0 hcb.1 (first:=[]) (caps:=cp_) C C C (hcb.2 (e_ xs (((i:Int)+(j:Int)) / 2)) x _ Ay)) ?_)
  rintro _ _ ⟨_,_,⟨rfl,rfl⟩,rfl,rfl⟩
  refine ⟨A5,?_⟩
  refine Dr 7 C (Bi C C) (Dz (Ai (Av (S8 31 11 0 2 4 8 9 10 C C C C C C C C) (Bd C (λc31=>?_) (λc31=>?_)))))
  ·exact A0 (Gm C (Gr (Rad C C) (Ga C (Bf (Ak (Ch (((i+j) / 2+1),(j)) (by dsimp only;exact ⟨om,om,(λ_=>by rw [show (((i+j) / 2+1:Nat):Int) - 1=((i:Int)+(j:Int)) / 2 by omega];exact c31),hhi⟩)))))))
  ·exact A0 (Gm C (Ga C (Bf (Ak (Ch ((i),((i+j) / 2)) (by dsimp only;exact ⟨om,om,hlo,(λ_=>by rw [show (((i+j) / 2:Nat):Int)=((i:Int)+(j:Int)) / 2 by omega];exact c31)⟩))))))
 ·refine Bp (Ac (Ac (Aw (Ai (Au (Bt mixed (C7 16 (Dr 0 C (Af C) (Dr 1 C (Af C) (Dr 2 C (Af C) (Dr 3 C (Bi C C) (Dr 4 C (Af C) (D4 (d:=39) C (λg39=>?_) (λg39=>?_))))))))))))))
  ·refine Dro 5 C (Af C) (Dro 6 C (Af C) (Dro 7 C (Af C) (Dro 8 C (A2 (α:=Lk) (xs:=xs) A7 ty146 C C (Bj hl) om om) (Dro 9 C (B7 (α:=Lk) (xs:=xs) ty146 C (Bj hl) om om) (Dro 10 C (Be (vs:=[_,_,_,_,_,_]) ty146) ?_)))))
   refine Ds1 11 (Se C (C0 hcb.1 (first:=[]) (caps:=cp_) C C C (hcb.2 (e_ xs i) x _ Ay)) ?_)
   rintro _ _ ⟨_,_,⟨rfl,rfl⟩,rfl,rfl⟩
   refine ⟨A5,?_⟩
   refine Dro 12 C (Bl C C) (Dr 13 C (Ap C C) (Dr 14 C (Bb C) (Dr 15 C (Bb C) (Dz (Ai (Av (S2 7 6 C C) (Az ?_)))))))
   have hie:i=j:=by omega
   subst hie
   exact C4 C C C I Ay ⟨i,_,rfl,⟨hj,hlo,hhi,(decide_eq_decide.2 ⟨λh=>⟨by omega,h⟩,λh=>h.2⟩)⟩,rfl⟩
  ·refine Dpo 5 C (Dpo 6 C (Dpo 7 C (Dpo 8 C (Dpo 9 C (Dpo 10 C (Dpo 11 C (Dpo 12 C (Dr 13 C (Al C C) (Dr 14 C (Bb C) (Dr 15 C (Bb C) (Dz (Ai (Av (S2 7 6 C C) (Az ?_))))))))))))))
   have hie:i=j:=by omega
   subst hie
   exact C4 C C C I Ay ⟨i,_,rfl,⟨hj,hlo,hhi,((decide_eq_false (λh=>by omega)).symm)⟩,rfl⟩
theorem OrderL_cmps:Cmps prog κ I 255 [] Lk.cmp:=⟨call255,λx y J hf=>OrderL_ok x y⟩
set_option maxHeartbeats 1000000 in
theorem SetP_base{κ:Ctx}{I:List Item}{e:Ev}{a0:Option Addr}{c0:Nat}{xs:List Lk}(ha:xs.Pairwise Lk.lt)(hsz:xs.length<=1000000):eu prog κ 256 [.slice a0 xs.length c0,.agg #[e7 (e.kd),e7 (e.tm),e7 (e.u),e7 (e.v),e7 (e.w),e7 (e.lb),e7 (e.sg)]] (vc 146 (.slice a0 xs.length c0) (xs)::I) (λr J=>∃y:Option Addr×Nat×Value,(r = .tuple #[.slice y.1 (setL (ei e) xs).length y.2.1,y.2.2])/\J=[]++vc 146 (.slice y.1 (setL (ei e) xs).length y.2.1) (setL (ei e) xs)::I):=by
 refine Ce2 Tryz.func256 C C ?_
 refine Aj (Ge1 (Bg (cs:=[_,_,_,_,_,_,_]) C C C) λb1=>Ga C (Ga C (Ah (Aj (Gf fld108_2 C (Gl ef ?_))))))
 refine Gf fld108_3 C (Gl ef ?_)
 refine Gr (E9 C C) (Gf fld108_2 C (Gl ef ?_))
 refine Gf fld108_3 C (Gl ef ?_)
 refine Gr (D7 C C) (Gf fld108_4 C (Gl ef ?_))
 refine Gf fld108_5 C (Gl ef ?_)
 refine Gf fld108_6 C (Gl ef ?_)
 refine Gf fld108_1 C (Gl ef ?_)
 refine Gr (Bc (cells:=[_,_,_,_,_,_]) ty146 Tryz.underlying146 pl146 C C) (Ge1 (A9 ty146 C) λb2=>Ge0 (E6 ty146) ?_)
 refine Ah (Av (S3 6 3 0 C C C) (Aj (Gm C (Gl6 ty146 ?_))))
 refine G.e (Am call302 C C (BSearchL Bk (⟨if e.v<e.u then e.v else e.u,if e.u<e.v then e.v else e.u,e.w,e.lb,e.sg,e.tm⟩:Lk) OrderL_cmps om)) ?_
 rintro _ _ ⟨_,_,⟨i3,q4,rfl,hi3,rfl⟩,rfl,rfl⟩
 refine Gm C ?_
 have hile:=hi3.le
 refine Gr (Ax C C) (Gr (Ax C C) (Ga C (Ga C (Ah (Au (Au (Bt mixed (C7 9 (Dr 0 C (Af C) (Dr 1 C (Af C) (D.splitb (d:=35) C (λg35=>?_) (λg35=>?_))))))))))))
 ·have hil:=(setL_there hi3 ha g35).1
  refine Dro 2 C (Af C) (Dro 3 C (Af C) (Dro 4 C (A2 (α:=Lk) (xs:=xs) A7 ty146 C C Bk om om) (Dro 5 C (B7 (α:=Lk) (xs:=xs) ty146 C Bk om om) (Dro 6 C (Be (vs:=[_,_,_,_,_,_]) ty146) ?_))))
  refine Dro 7 C (Runs.eqlT (α:=Lk) (a:=(e_ xs i3)) (b:=(⟨if e.v<e.u then e.v else e.u,if e.u<e.v then e.v else e.u,e.w,e.lb,e.sg,e.tm⟩:Lk)) eqt146 C C) (Dr 8 C (Ap C C) (Dz (Ai (Av (S6 42 8 7 6 3 0 C C C C C C) (Bd C (λc42=>?_) (λc42=>?_))))))
  ·refine Aj (Gm C (Ga C (Ga C (Ah (Az (Ar ?_))))))
   have hst:i3<xs.length/\(setL (ei e) xs)=xs.set i3 (ei e):=setL_there hi3 ha g35
   have hE:xs=(setL (ei e) xs):=by rw [hst.2];exact (set_self (n:=ei e) hst.1 c42).symm
   exact C4 C C C ([]++vc 146 (.slice a0 (setL (ei e) xs).length c0) (setL (ei e) xs)::I) (by rw [←hE];exact A5) ⟨⟨a0,c0,.slice none 0 0⟩,by rw [←hE],rfl⟩
  ·refine A4 (Ai (Au (Aj (Gm C (Gr (B8 C) (Ah (Ez C (λc45=>?_) (λc45=>?_))))))))
   ·rw [g35] at c45;exact absurd c45 dc
   ·refine Aj (Gm C (G.e (Am call216 C C (CloneL (xs:=xs) Bk om)) ?_))
    rintro _ _ ⟨_,_,⟨ad5,cp6,rfl,rfl⟩,rfl,rfl⟩
    refine Ga C (Ah (A0 (Gm C (Gm C (Gl6 ty146 ?_)))))
    refine Gr (A2 (α:=Lk) (xs:=xs) A7 ty146 C C Bk om om) (Ge0 (Cy (α:=Lk) (xs:=xs) (e:=146) (new:=⟨if e.v<e.u then e.v else e.u,if e.u<e.v then e.v else e.u,e.w,e.lb,e.sg,e.tm⟩) ty146 C C C om om am) ?_)
    refine Ah (Av (S3 0 6 3 C C C) (Au (Bt mixed (C9 (vc 146 (.slice ad5 xs.length cp6) (List.set xs ((i3:Int)).toNat (⟨if e.v<e.u then e.v else e.u,if e.u<e.v then e.v else e.u,e.w,e.lb,e.sg,e.tm⟩))::e8 b2 [e7 (if e.v<e.u then e.v else e.u),e7 (if e.u<e.v then e.v else e.u),e7 (e.w),e7 (e.lb),e7 (e.sg),e7 (e.tm)] 146::vc 146 (.slice a0 xs.length c0) (xs)::I) 5 (Dr 0 C (Ab fld146_0 C) (Dr 1 C (As ef) ?_))))))
    refine Dr 4 C (Ab fld108_2 C) (Dv (rs:=[2,5]) kr C C (Ex ?_ (En ?_)))
    ·refine Sr C (Ab fld146_1 C) A5 ?_
     refine Dv (rs:=[3,5]) kr C C (Ex ?_ (En ?_))
     ·refine Sr C (As ef) A5 ?_
      refine Dc kr ?_
      refine Ae 5 C (Dp ef) ?_
      rintro _ _ ⟨rfl,rfl⟩
      refine Fc (i:=6) kr C (Bm C) C C (Ab fld108_3 C) ?_
      refine Ae 7 C (Dp ef) ?_
      rintro _ _ ⟨rfl,rfl⟩
      refine De kr ?_
      refine Ai (Au (Bt mixed (C9 (vc 146 (.slice ad5 xs.length cp6) (List.set xs ((i3:Int)).toNat (⟨if e.v<e.u then e.v else e.u,if e.u<e.v then e.v else e.u,e.w,e.lb,e.sg,e.tm⟩))::e8 b2 [e7 (if e.v<e.u then e.v else e.u),e7 (if e.u<e.v then e.v else e.u),e7 (e.w),e7 (e.lb),e7 (e.sg),e7 (e.tm)] 146::e8 b1 [e7 (e.kd),e7 (e.tm),e7 (if e.v<e.u then e.v else e.u),e7 (if e.u<e.v then e.v else e.u),e7 (e.w),e7 (e.lb),e7 (e.sg)] 108::vc 146 (.slice a0 xs.length c0) (xs)::I) 5 (Dr 0 C (Af C) (Dr 1 C (Be (vs:=[_,_,_,_,_,_,_]) ty108) ?_)))))
      refine Dr 3 C (Bb C) (Ds1 2 (Se1 C (Cj (α:=Ev) (cs:=[e7 (e.kd),e7 (e.tm),e7 (if e.v<e.u then e.v else e.u),e7 (if e.u<e.v then e.v else e.u),e7 (e.w),e7 (e.lb),e7 (e.sg)]) (xs:=[⟨e.kd,e.tm,if e.v<e.u then e.v else e.u,if e.u<e.v then e.v else e.u,e.w,e.lb,e.sg⟩]) Bh ty108 C C dc dc C kr C C) λad7=>?_))
      refine Dr 4 C (Bb C) (Dz (Ai (Av (S2 5 4 C C) (Az ?_))))
      have hE:List.set xs ((i3:Int)).toNat (⟨if e.v<e.u then e.v else e.u,if e.u<e.v then e.v else e.u,e.w,e.lb,e.sg,e.tm⟩)=(setL (ei e) xs):=(setL_there hi3 ha g35).2.symm
      have hEl:(setL (ei e) xs).length=xs.length:=by rw [←hE,List.length_set]
      exact C4 C C C ([]++vc 146 (.slice ad5 (setL (ei e) xs).length cp6) (setL (ei e) xs)::I) (by rw [hEl,←hE];exact A5) ⟨⟨ad5,cp6,.slice ad7 1 1⟩,by rw [hEl],rfl⟩
     ·refine Se0 C (Dp ef) ?_
      refine Ds1 3 (Sr C (As ef) A5 ?_)
      refine Ds1 6 (Sr C (Ab fld108_3 C) A5 ?_)
      refine Ds1 7 (Se0 C (Dp ef) ?_)
      refine Dz (Ai (Au (Bt mixed (C7 5 (Dr 0 C (Af C) (Dr 1 C (Be (vs:=[_,_,_,_,_,_,_]) ty108) ?_))))))
      refine Dr 3 C (Bb C) (Ds1 2 (Se1 C (Cj (α:=Ev) (cs:=[e7 (e.kd),e7 (e.tm),e7 (if e.v<e.u then e.v else e.u),e7 (if e.u<e.v then e.v else e.u),e7 (e.w),e7 (e.lb),e7 (e.sg)]) (xs:=[⟨e.kd,e.tm,if e.v<e.u then e.v else e.u,if e.u<e.v then e.v else e.u,e.w,e.lb,e.sg⟩]) Bh ty108 C C dc dc C kr C C) λad8=>?_))
      refine Dr 4 C (Bb C) (Dz (Ai (Av (S2 5 4 C C) (Az ?_))))
      have hE:List.set xs ((i3:Int)).toNat (⟨if e.v<e.u then e.v else e.u,if e.u<e.v then e.v else e.u,e.w,e.lb,e.sg,e.tm⟩)=(setL (ei e) xs):=(setL_there hi3 ha g35).2.symm
      have hEl:(setL (ei e) xs).length=xs.length:=by rw [←hE,List.length_set]
      exact C4 C C C ([]++vc 146 (.slice ad5 (setL (ei e) xs).length cp6) (setL (ei e) xs)::I) (by rw [hEl,←hE];exact A5) ⟨⟨ad5,cp6,.slice ad8 1 1⟩,by rw [hEl],rfl⟩
    ·refine Se0 C (Dp ef) ?_
     refine Ds1 2 (Sr C (Ab fld146_1 C) A5 ?_)
     refine Ds1 3 (Sr C (As ef) A5 ?_)
     refine Ds1 6 (Sr C (Ab fld108_3 C) A5 ?_)
     refine Ds1 7 (Se0 C (Dp ef) ?_)
     refine Dz (Ai (Au (Bt mixed (C7 5 (Dr 0 C (Af C) (Dr 1 C (Be (vs:=[_,_,_,_,_,_,_]) ty108) ?_))))))
     refine Dr 3 C (Bb C) (Ds1 2 (Se1 C (Cj (α:=Ev) (cs:=[e7 (e.kd),e7 (e.tm),e7 (if e.v<e.u then e.v else e.u),e7 (if e.u<e.v then e.v else e.u),e7 (e.w),e7 (e.lb),e7 (e.sg)]) (xs:=[⟨e.kd,e.tm,if e.v<e.u then e.v else e.u,if e.u<e.v then e.v else e.u,e.w,e.lb,e.sg⟩]) Bh ty108 C C dc dc C kr C C) λad9=>?_))
     refine Dr 4 C (Bb C) (Dz (Ai (Av (S2 5 4 C C) (Az ?_))))
     have hE:List.set xs ((i3:Int)).toNat (⟨if e.v<e.u then e.v else e.u,if e.u<e.v then e.v else e.u,e.w,e.lb,e.sg,e.tm⟩)=(setL (ei e) xs):=(setL_there hi3 ha g35).2.symm
     have hEl:(setL (ei e) xs).length=xs.length:=by rw [←hE,List.length_set]
     exact C4 C C C ([]++vc 146 (.slice ad5 (setL (ei e) xs).length cp6) (setL (ei e) xs)::I) (by rw [hEl,←hE];exact A5) ⟨⟨ad5,cp6,.slice ad9 1 1⟩,by rw [hEl],rfl⟩
 ·refine Dpo 2 C (Dpo 3 C (Dpo 4 C (Dpo 5 C (Dpo 6 C (Dpo 7 C (Dr 8 C (Al C C) (Dz (Ai (Av (S6 42 8 7 6 3 0 C C C C C C) (Eo C (A4 (Ai (Au (Aj (Gm C (Gr (B8 C) (Ah (Ez C (λc45=>?_) (λc45=>?_)))))))))))))))))))
  ·refine Bt mixed (C7 7 (Dr 0 C (Af C) (Dr 2 C (Af C) (Dr 3 C (Be (vs:=[_,_,_,_,_,_]) ty146) ?_))))
   refine Dv (rs:=[1,4]) kr C C (Ex ?_ (En ?_))
   ·refine Se C (Am call216 C C (CloneL (xs:=xs) Bk om)) ?_
    rintro _ _ ⟨_,_,⟨ad10,cp11,rfl,rfl⟩,rfl,rfl⟩
    refine ⟨A5,?_⟩
    refine Ds1 4 (Se1 C (Cj (α:=Lk) (cs:=[e7 (if e.v<e.u then e.v else e.u),e7 (if e.u<e.v then e.v else e.u),e7 (e.w),e7 (e.lb),e7 (e.sg),e7 (e.tm)]) (xs:=[⟨if e.v<e.u then e.v else e.u,if e.u<e.v then e.v else e.u,e.w,e.lb,e.sg,e.tm⟩]) A7 ty146 C C dc dc C kr C C) λad12=>?_)
    refine Ds1 5 (Sc2 C (Am call303 C C (InsertL_two (i:=i3) (xs:=xs) (ys:=([⟨if e.v<e.u then e.v else e.u,if e.u<e.v then e.v else e.u,e.w,e.lb,e.sg,e.tm⟩]:List Lk)) Bv C C om (by simp only [List.length_cons];omega) lcn)) λad13 cp14=>?_)
    refine Dr 6 C (Bb C) (Dz (Ai (Av (S3 0 6 3 C C C) (Au (Bt mixed (C9 (vc 146 (.slice ad13 (List.take i3 xs++([⟨if e.v<e.u then e.v else e.u,if e.u<e.v then e.v else e.u,e.w,e.lb,e.sg,e.tm⟩]:List Lk)++List.drop i3 xs).length cp14) (List.take i3 xs++([⟨if e.v<e.u then e.v else e.u,if e.u<e.v then e.v else e.u,e.w,e.lb,e.sg,e.tm⟩]:List Lk)++List.drop i3 xs)::e8 b2 [e7 (if e.v<e.u then e.v else e.u),e7 (if e.u<e.v then e.v else e.u),e7 (e.w),e7 (e.lb),e7 (e.sg),e7 (e.tm)] 146::vc 146 (.slice a0 xs.length c0) (xs)::I) 5 (Dr 0 C (Ab fld146_0 C) (Dr 1 C (As ef) ?_))))))))
    refine Dr 4 C (Ab fld108_2 C) (Dv (rs:=[2,5]) kr C C (Ex ?_ (En ?_)))
    ·refine Sr C (Ab fld146_1 C) A5 ?_
     refine Dv (rs:=[3,5]) kr C C (Ex ?_ (En ?_))
     ·refine Sr C (As ef) A5 ?_
      refine Dc kr ?_
      refine Ae 5 C (Dp ef) ?_
      rintro _ _ ⟨rfl,rfl⟩
      refine Fc (i:=6) kr C (Bm C) C C (Ab fld108_3 C) ?_
      refine Ae 7 C (Dp ef) ?_
      rintro _ _ ⟨rfl,rfl⟩
      refine De kr ?_
      refine Ai (Au (Bt mixed (C9 (vc 146 (.slice ad13 (List.take i3 xs++([⟨if e.v<e.u then e.v else e.u,if e.u<e.v then e.v else e.u,e.w,e.lb,e.sg,e.tm⟩]:List Lk)++List.drop i3 xs).length cp14) (List.take i3 xs++([⟨if e.v<e.u then e.v else e.u,if e.u<e.v then e.v else e.u,e.w,e.lb,e.sg,e.tm⟩]:List Lk)++List.drop i3 xs)::e8 b2 [e7 (if e.v<e.u then e.v else e.u),e7 (if e.u<e.v then e.v else e.u),e7 (e.w),e7 (e.lb),e7 (e.sg),e7 (e.tm)] 146::e8 b1 [e7 (e.kd),e7 (e.tm),e7 (if e.v<e.u then e.v else e.u),e7 (if e.u<e.v then e.v else e.u),e7 (e.w),e7 (e.lb),e7 (e.sg)] 108::vc 146 (.slice a0 xs.length c0) (xs)::I) 5 (Dr 0 C (Af C) (Dr 1 C (Be (vs:=[_,_,_,_,_,_,_]) ty108) ?_)))))
      refine Dr 3 C (Bb C) (Ds1 2 (Se1 C (Cj (α:=Ev) (cs:=[e7 (e.kd),e7 (e.tm),e7 (if e.v<e.u then e.v else e.u),e7 (if e.u<e.v then e.v else e.u),e7 (e.w),e7 (e.lb),e7 (e.sg)]) (xs:=[⟨e.kd,e.tm,if e.v<e.u then e.v else e.u,if e.u<e.v then e.v else e.u,e.w,e.lb,e.sg⟩]) Bh ty108 C C dc dc C kr C C) λad15=>?_))
      refine Dr 4 C (Bb C) (Dz (Ai (Av (S2 5 4 C C) (Az ?_))))
      have hE:List.take i3 xs++([⟨if e.v<e.u then e.v else e.u,if e.u<e.v then e.v else e.u,e.w,e.lb,e.sg,e.tm⟩]:List Lk)++List.drop i3 xs=(setL (ei e) xs):=(setL_new hi3 ha g35).symm
      exact C4 C C C ([]++vc 146 (.slice ad13 (setL (ei e) xs).length cp14) (setL (ei e) xs)::I) (by rw [←hE];exact A5) ⟨⟨ad13,cp14,.slice ad15 1 1⟩,by rw [←hE],rfl⟩
     ·refine Se0 C (Dp ef) ?_
      refine Ds1 3 (Sr C (As ef) A5 ?_)
      refine Ds1 6 (Sr C (Ab fld108_3 C) A5 ?_)
      refine Ds1 7 (Se0 C (Dp ef) ?_)
      refine Dz (Ai (Au (Bt mixed (C7 5 (Dr 0 C (Af C) (Dr 1 C (Be (vs:=[_,_,_,_,_,_,_]) ty108) ?_))))))
      refine Dr 3 C (Bb C) (Ds1 2 (Se1 C (Cj (α:=Ev) (cs:=[e7 (e.kd),e7 (e.tm),e7 (if e.v<e.u then e.v else e.u),e7 (if e.u<e.v then e.v else e.u),e7 (e.w),e7 (e.lb),e7 (e.sg)]) (xs:=[⟨e.kd,e.tm,if e.v<e.u then e.v else e.u,if e.u<e.v then e.v else e.u,e.w,e.lb,e.sg⟩]) Bh ty108 C C dc dc C kr C C) λad16=>?_))
      refine Dr 4 C (Bb C) (Dz (Ai (Av (S2 5 4 C C) (Az ?_))))
      have hE:List.take i3 xs++([⟨if e.v<e.u then e.v else e.u,if e.u<e.v then e.v else e.u,e.w,e.lb,e.sg,e.tm⟩]:List Lk)++List.drop i3 xs=(setL (ei e) xs):=(setL_new hi3 ha g35).symm
      exact C4 C C C ([]++vc 146 (.slice ad13 (setL (ei e) xs).length cp14) (setL (ei e) xs)::I) (by rw [←hE];exact A5) ⟨⟨ad13,cp14,.slice ad16 1 1⟩,by rw [←hE],rfl⟩
    ·refine Se0 C (Dp ef) ?_
     refine Ds1 2 (Sr C (Ab fld146_1 C) A5 ?_)
     refine Ds1 3 (Sr C (As ef) A5 ?_)
     refine Ds1 6 (Sr C (Ab fld108_3 C) A5 ?_)
     refine Ds1 7 (Se0 C (Dp ef) ?_)
     refine Dz (Ai (Au (Bt mixed (C7 5 (Dr 0 C (Af C) (Dr 1 C (Be (vs:=[_,_,_,_,_,_,_]) ty108) ?_))))))
     refine Dr 3 C (Bb C) (Ds1 2 (Se1 C (Cj (α:=Ev) (cs:=[e7 (e.kd),e7 (e.tm),e7 (if e.v<e.u then e.v else e.u),e7 (if e.u<e.v then e.v else e.u),e7 (e.w),e7 (e.lb),e7 (e.sg)]) (xs:=[⟨e.kd,e.tm,if e.v<e.u then e.v else e.u,if e.u<e.v then e.v else e.u,e.w,e.lb,e.sg⟩]) Bh ty108 C C dc dc C kr C C) λad17=>?_))
     refine Dr 4 C (Bb C) (Dz (Ai (Av (S2 5 4 C C) (Az ?_))))
     have hE:List.take i3 xs++([⟨if e.v<e.u then e.v else e.u,if e.u<e.v then e.v else e.u,e.w,e.lb,e.sg,e.tm⟩]:List Lk)++List.drop i3 xs=(setL (ei e) xs):=(setL_new hi3 ha g35).symm
     exact C4 C C C ([]++vc 146 (.slice ad13 (setL (ei e) xs).length cp14) (setL (ei e) xs)::I) (by rw [←hE];exact A5) ⟨⟨ad13,cp14,.slice ad17 1 1⟩,by rw [←hE],rfl⟩
   ·refine Se1 C (Cj (α:=Lk) (cs:=[e7 (if e.v<e.u then e.v else e.u),e7 (if e.u<e.v then e.v else e.u),e7 (e.w),e7 (e.lb),e7 (e.sg),e7 (e.tm)]) (xs:=[⟨if e.v<e.u then e.v else e.u,if e.u<e.v then e.v else e.u,e.w,e.lb,e.sg,e.tm⟩]) A7 ty146 C C dc dc C kr C C) λad18=>?_
    refine Ds1 1 (Se C (Am call216 C C (CloneL (xs:=xs) Bk om)) ?_)
    rintro _ _ ⟨_,_,⟨ad19,cp20,rfl,rfl⟩,rfl,rfl⟩
    refine ⟨A5,?_⟩
    refine Ds1 5 (Sc2 C (Am call303 C C (InsertL_two (i:=i3) (xs:=xs) (ys:=([⟨if e.v<e.u then e.v else e.u,if e.u<e.v then e.v else e.u,e.w,e.lb,e.sg,e.tm⟩]:List Lk)) Bv C C om (by simp only [List.length_cons];omega) lcn)) λad21 cp22=>?_)
    refine Dr 6 C (Bb C) (Dz (Ai (Av (S3 0 6 3 C C C) (Au (Bt mixed (C9 (vc 146 (.slice ad21 (List.take i3 xs++([⟨if e.v<e.u then e.v else e.u,if e.u<e.v then e.v else e.u,e.w,e.lb,e.sg,e.tm⟩]:List Lk)++List.drop i3 xs).length cp22) (List.take i3 xs++([⟨if e.v<e.u then e.v else e.u,if e.u<e.v then e.v else e.u,e.w,e.lb,e.sg,e.tm⟩]:List Lk)++List.drop i3 xs)::e8 b2 [e7 (if e.v<e.u then e.v else e.u),e7 (if e.u<e.v then e.v else e.u),e7 (e.w),e7 (e.lb),e7 (e.sg),e7 (e.tm)] 146::vc 146 (.slice a0 xs.length c0) (xs)::I) 5 (Dr 0 C (Ab fld146_0 C) (Dr 1 C (As ef) ?_))))))))
    refine Dr 4 C (Ab fld108_2 C) (Dv (rs:=[2,5]) kr C C (Ex ?_ (En ?_)))
    ·refine Sr C (Ab fld146_1 C) A5 ?_
     refine Dv (rs:=[3,5]) kr C C (Ex ?_ (En ?_))
     ·refine Sr C (As ef) A5 ?_
      refine Dc kr ?_
      refine Ae 5 C (Dp ef) ?_
      rintro _ _ ⟨rfl,rfl⟩
      refine Fc (i:=6) kr C (Bm C) C C (Ab fld108_3 C) ?_
      refine Ae 7 C (Dp ef) ?_
      rintro _ _ ⟨rfl,rfl⟩
      refine De kr ?_
      refine Ai (Au (Bt mixed (C9 (vc 146 (.slice ad21 (List.take i3 xs++([⟨if e.v<e.u then e.v else e.u,if e.u<e.v then e.v else e.u,e.w,e.lb,e.sg,e.tm⟩]:List Lk)++List.drop i3 xs).length cp22) (List.take i3 xs++([⟨if e.v<e.u then e.v else e.u,if e.u<e.v then e.v else e.u,e.w,e.lb,e.sg,e.tm⟩]:List Lk)++List.drop i3 xs)::e8 b2 [e7 (if e.v<e.u then e.v else e.u),e7 (if e.u<e.v then e.v else e.u),e7 (e.w),e7 (e.lb),e7 (e.sg),e7 (e.tm)] 146::e8 b1 [e7 (e.kd),e7 (e.tm),e7 (if e.v<e.u then e.v else e.u),e7 (if e.u<e.v then e.v else e.u),e7 (e.w),e7 (e.lb),e7 (e.sg)] 108::vc 146 (.slice a0 xs.length c0) (xs)::I) 5 (Dr 0 C (Af C) (Dr 1 C (Be (vs:=[_,_,_,_,_,_,_]) ty108) ?_)))))
      refine Dr 3 C (Bb C) (Ds1 2 (Se1 C (Cj (α:=Ev) (cs:=[e7 (e.kd),e7 (e.tm),e7 (if e.v<e.u then e.v else e.u),e7 (if e.u<e.v then e.v else e.u),e7 (e.w),e7 (e.lb),e7 (e.sg)]) (xs:=[⟨e.kd,e.tm,if e.v<e.u then e.v else e.u,if e.u<e.v then e.v else e.u,e.w,e.lb,e.sg⟩]) Bh ty108 C C dc dc C kr C C) λad23=>?_))
      refine Dr 4 C (Bb C) (Dz (Ai (Av (S2 5 4 C C) (Az ?_))))
      have hE:List.take i3 xs++([⟨if e.v<e.u then e.v else e.u,if e.u<e.v then e.v else e.u,e.w,e.lb,e.sg,e.tm⟩]:List Lk)++List.drop i3 xs=(setL (ei e) xs):=(setL_new hi3 ha g35).symm
      exact C4 C C C ([]++vc 146 (.slice ad21 (setL (ei e) xs).length cp22) (setL (ei e) xs)::I) (by rw [←hE];exact A5) ⟨⟨ad21,cp22,.slice ad23 1 1⟩,by rw [←hE],rfl⟩
     ·refine Se0 C (Dp ef) ?_
      refine Ds1 3 (Sr C (As ef) A5 ?_)
      refine Ds1 6 (Sr C (Ab fld108_3 C) A5 ?_)
      refine Ds1 7 (Se0 C (Dp ef) ?_)
      refine Dz (Ai (Au (Bt mixed (C7 5 (Dr 0 C (Af C) (Dr 1 C (Be (vs:=[_,_,_,_,_,_,_]) ty108) ?_))))))
      refine Dr 3 C (Bb C) (Ds1 2 (Se1 C (Cj (α:=Ev) (cs:=[e7 (e.kd),e7 (e.tm),e7 (if e.v<e.u then e.v else e.u),e7 (if e.u<e.v then e.v else e.u),e7 (e.w),e7 (e.lb),e7 (e.sg)]) (xs:=[⟨e.kd,e.tm,if e.v<e.u then e.v else e.u,if e.u<e.v then e.v else e.u,e.w,e.lb,e.sg⟩]) Bh ty108 C C dc dc C kr C C) λad24=>?_))
      refine Dr 4 C (Bb C) (Dz (Ai (Av (S2 5 4 C C) (Az ?_))))
      have hE:List.take i3 xs++([⟨if e.v<e.u then e.v else e.u,if e.u<e.v then e.v else e.u,e.w,e.lb,e.sg,e.tm⟩]:List Lk)++List.drop i3 xs=(setL (ei e) xs):=(setL_new hi3 ha g35).symm
      exact C4 C C C ([]++vc 146 (.slice ad21 (setL (ei e) xs).length cp22) (setL (ei e) xs)::I) (by rw [←hE];exact A5) ⟨⟨ad21,cp22,.slice ad24 1 1⟩,by rw [←hE],rfl⟩
    ·refine Se0 C (Dp ef) ?_
     refine Ds1 2 (Sr C (Ab fld146_1 C) A5 ?_)
     refine Ds1 3 (Sr C (As ef) A5 ?_)
     refine Ds1 6 (Sr C (Ab fld108_3 C) A5 ?_)
     refine Ds1 7 (Se0 C (Dp ef) ?_)
     refine Dz (Ai (Au (Bt mixed (C7 5 (Dr 0 C (Af C) (Dr 1 C (Be (vs:=[_,_,_,_,_,_,_]) ty108) ?_))))))
     refine Dr 3 C (Bb C) (Ds1 2 (Se1 C (Cj (α:=Ev) (cs:=[e7 (e.kd),e7 (e.tm),e7 (if e.v<e.u then e.v else e.u),e7 (if e.u<e.v then e.v else e.u),e7 (e.w),e7 (e.lb),e7 (e.sg)]) (xs:=[⟨e.kd,e.tm,if e.v<e.u then e.v else e.u,if e.u<e.v then e.v else e.u,e.w,e.lb,e.sg⟩]) Bh ty108 C C dc dc C kr C C) λad25=>?_))
     refine Dr 4 C (Bb C) (Dz (Ai (Av (S2 5 4 C C) (Az ?_))))
     have hE:List.take i3 xs++([⟨if e.v<e.u then e.v else e.u,if e.u<e.v then e.v else e.u,e.w,e.lb,e.sg,e.tm⟩]:List Lk)++List.drop i3 xs=(setL (ei e) xs):=(setL_new hi3 ha g35).symm
     exact C4 C C C ([]++vc 146 (.slice ad21 (setL (ei e) xs).length cp22) (setL (ei e) xs)::I) (by rw [←hE];exact A5) ⟨⟨ad21,cp22,.slice ad25 1 1⟩,by rw [←hE],rfl⟩
  ·rw [g35] at c45;exact absurd c45 dc
set_option maxHeartbeats 1000000 in
theorem CutP_base{κ:Ctx}{I:List Item}{nw:Int}{a0:Option Addr}{c0:Nat}{xs:List Lk}{g:FuncId}{cp_:List Value}{p:Lk->Bool}(hcb:Says prog κ (vc 146 (.slice a0 xs.length c0) xs::I) g cp_ p)(hsz:xs.length<=1000000):eu prog κ 257 [.slice a0 xs.length c0,e7 nw,.func (.func g) #[] cp_.toArray] (vc 146 (.slice a0 xs.length c0) (xs)::I) (λr J=>∃y:Option Addr×Nat×Value,(r = .tuple #[.slice y.1 (xs.filter (λx=> !p x)).length y.2.1,y.2.2])/\J=[]++vc 146 (.slice y.1 (xs.filter (λx=> !p x)).length y.2.1) (xs.filter (λx=> !p x))::I):=by
 refine Ce3 Tryz.func257 C C ?_
 refine Aj (Ga C (Ga C (Ah (Aj (Gm C (G.e (Am call216 C C (CloneL (xs:=xs) Bk om)) ?_))))))
 rintro _ _ ⟨_,_,⟨ad1,cp2,rfl,rfl⟩,rfl,rfl⟩
 refine Ga C (Ah (Aj (Ga C (Ah (Au (Aj (Ga C (Ah (A6 (Ca (σ:=Nat×(Option Addr)×Nat×(List Ev)) (λs=>([(0,.slice ad1 (keepL (λx=> !p x) xs s.1).length cp2),(1,e7 nw),(2,.func (.func g) #[] cp_.toArray),(8,.slice s.2.1 s.2.2.2.length s.2.2.1),(9,e7 (((keptN (λx=> !p x) xs s.1:Nat):Int)))]:Env)) (λs=>vc 108 (.slice s.2.1 s.2.2.2.length s.2.2.1) (s.2.2.2)::vc 146 (.slice ad1 (keepL (λx=> !p x) xs s.1).length cp2) ((keepL (λx=> !p x) xs s.1))::vc 146 (.slice a0 xs.length c0) (xs)::I) (λs=>(s.1<=xs.length)/\(s.2.2.2.length<=s.1)) (λs=>xs.length - s.1) (0,none,0,[]) ⟨om,(by simp)⟩ (Aa (Da C (by first|rfl|(rw [keepL_zero])|(rw [hky.1])|(rw [hkl]))) (Aa C (Aa C (Aa (Da C (by first|rfl|(rw [keepL_zero])|(rw [hky.1])|(rw [hkl]))) (Aa (Dl C (by first|omega|(rw [keptN_zero];rfl)|(dsimp only;have e1:=hky.2;omega)|(dsimp only;have e1:=hkn;omega))) Bq))))) (by rw [keepL_zero];exact B9 _ _) ?_))))))))))
 rintro ⟨j,a2,c2,chg⟩ hp
 dsimp only at hp ⊢
 obtain ⟨hj,hcg⟩:=hp
 have hkj:=keptN_le (P:=(λx=> !p x)) (xs:=xs) (j:=j)
 have hkl0:=keepL_len (P:=(λx=> !p x)) (xs:=xs) (j:=j)
 refine W.pull (vc.cap (xs:=(keepL (λx=> !p x) xs j)) mm) λhcap=>?_
 refine Au (Aj (Gm C (Gm C (Gr (Bz A7 C) (Gr (Bi C C) (Ah (Bd C (λc15=>?_) (λc15=>?_))))))))
 ·refine A4 (Ai (A6 (Au (Aj (Gm C (Gm C (Gm C (Gr (A2 (α:=Lk) (xs:=(keepL (λx=> !p x) xs j)) A7 ty146 C C Bk om om) (Gr (B7 (α:=Lk) (xs:=(keepL (λx=> !p x) xs j)) ty146 C Bk om om) (G.e (C0 hcb.1 (first:=[]) (caps:=cp_) C C C (hcb.2 (e_ (keepL (λx=> !p x) xs j) ((keptN (λx=> !p x) xs j:Nat):Int)) _ Ay)) ?_))))))))))
  rintro _ _ ⟨_,_,⟨rfl,rfl⟩,rfl,rfl⟩
  refine Gr (B8 C) (Ah (Av (S6 22 0 1 2 8 9 C C C C C C) (Ez C (λc22=>?_) (λc22=>?_))))
  ·refine Aj (Gm C (Gr (Rad C C) (Ga C (Ah (Bp (Ac (Aw ?_)))))))
   have hky:=keep_yes (P:=(λx=> !p x)) (xs:=xs) (j:=j) om (by rw [←keepL_at (P:=(λx=> !p x)) (xs:=xs) (j:=j) om];exact c22)
   exact Ch ((j+1),(a2),(c2),(chg)) (by dsimp only;exact ⟨om,om⟩) (hL:=(Aa (Da C (by first|rfl|(rw [keepL_zero])|(rw [hky.1])|(rw [hkl]))) (Aa C (Aa C (Aa (Da C (by first|rfl|(rw [keepL_zero])|(rw [hky.1])|(rw [hkl]))) (Aa (Dl C (by first|omega|(rw [keptN_zero];rfl)|(dsimp only;have e1:=hky.2;omega)|(dsimp only;have e1:=hkn;omega))) Bq)))))) (hI:=by (try dsimp only);exact (by rw [hky.1];exact A5))
  ·refine A4 (Ai (Aj (Gm C ?_)))
   have hpj:(λx=> !p x) (e_ xs j)=false:=by rw [←keepL_at (P:=(λx=> !p x)) (xs:=xs) (j:=j) om];exact c22
   have hkn:=keep_no (P:=(λx=> !p x)) (xs:=xs) (j:=j) om hpj
   refine Gm C (Gm C (Gr (A2 (α:=Lk) (xs:=(keepL (λx=> !p x) xs j)) A7 ty146 C C Bk om om) (Gr (B7 (α:=Lk) (xs:=(keepL (λx=> !p x) xs j)) ty146 C Bk om om) (Gm C (G.e (Am call254 C C (Gone_ok (e_ (keepL (λx=> !p x) xs j) ((keptN (λx=> !p x) xs j:Nat):Int)) nw)) ?_)))))
   rintro _ _ ⟨_,_,⟨rfl,rfl⟩,rfl,rfl⟩
   refine Ge1 (Cj (α:=Ev) (cs:=[e7 2,e7 nw,e7 ((e_ (keepL (λx=> !p x) xs j) ((keptN (λx=> !p x) xs j:Nat):Int)).u),e7 ((e_ (keepL (λx=> !p x) xs j) ((keptN (λx=> !p x) xs j:Nat):Int)).v),e7 0,e7 0,e7 0]) (xs:=[⟨2,nw,(e_ (keepL (λx=> !p x) xs j) ((keptN (λx=> !p x) xs j:Nat):Int)).u,(e_ (keepL (λx=> !p x) xs j) ((keptN (λx=> !p x) xs j:Nat):Int)).v,0,0,0⟩]) Bh ty108 C C dc dc C kr C C) λad3=>?_
   refine Ge2 (Cn (α:=Ev) (e:=108) (xs:=chg) (ys:=([⟨2,nw,(e_ (keepL (λx=> !p x) xs j) ((keptN (λx=> !p x) xs j:Nat):Int)).u,(e_ (keepL (λx=> !p x) xs j) ((keptN (λx=> !p x) xs j:Nat):Int)).v,0,0,0⟩]:List Ev)) Bh ty108 C C C mm Bk lcn dc C (λ_ _=>am)) λad4 cp5=>?_
   refine Ga C (Ah (Av (S5 8 0 1 2 9 C C C C C) (Au (Bt mixed (C9 I 8 (Dr 0 C (Af C) (Dr 1 C (Af C) (Dr 2 C (E1 (l:=keptN (λx=> !p x) xs j) A7 ty146 C C (by simp only [Int.natCast_add]<;>omega) om om) (Dr 3 C (Af C) (Dr 4 C (Af C) (Dr 5 C (Rad C C) (Dr 6 C (E1 (l:=(keptN (λx=> !p x) xs j+1)) A7 ty146 C C (by simp only [Int.natCast_add]<;>omega) om om) (Ds1 7 (Se0 C (Eff.copyT (α:=Lk) (k:=keptN (λx=> !p x) xs j) (q:=(xs.length - j - 1)) (R:=(keepL (λx=> !p x) xs (j+1))++List.drop (keptN (λx=> !p x) xs j+(xs.length - j - 1)) (keepL (λx=> !p x) xs j)) (n:=(keepL (λx=> !p x) xs j).length) A7 ty146 C lat C (Fh (Fo (xs:=(keepL (λx=> !p x) xs j)) mm) om om) lat lat C (keep_copy om hpj C) lat am) ?_))))))))))))))
   refine Dz (Ai (A0 (Gm C (Gm C (Gr (Bz A7 C) (Gr (Rsu C C) (Gr (Runs.hiraw (h:=((keepL (λx=> !p x) xs j).length - 1)) A7 ty146 C C om om) (Ga C ?_))))))))
   have hkl:(keepL (λx=> !p x) xs j).length - 1=(keepL (λx=> !p x) xs (j+1)).length:=by have h3:=keepL_len (P:=(λx=> !p x)) (xs:=xs) (j:=j+1);omega
   refine G.fit (J:=vc 108 (.slice ad3 1 1) (([⟨2,nw,(e_ (keepL (λx=> !p x) xs j) ((keptN (λx=> !p x) xs j:Nat):Int)).u,(e_ (keepL (λx=> !p x) xs j) ((keptN (λx=> !p x) xs j:Nat):Int)).v,0,0,0⟩]:List Ev))::vc 108 (.slice ad4 (chg++([⟨2,nw,(e_ (keepL (λx=> !p x) xs j) ((keptN (λx=> !p x) xs j:Nat):Int)).u,(e_ (keepL (λx=> !p x) xs j) ((keptN (λx=> !p x) xs j:Nat):Int)).v,0,0,0⟩]:List Ev)).length cp5) (chg++([⟨2,nw,(e_ (keepL (λx=> !p x) xs j) ((keptN (λx=> !p x) xs j:Nat):Int)).u,(e_ (keepL (λx=> !p x) xs j) ((keptN (λx=> !p x) xs j:Nat):Int)).v,0,0,0⟩]:List Ev))::vc 146 (.slice ad1 (keepL (λx=> !p x) xs (j+1)).length cp2) ((keepL (λx=> !p x) xs (j+1)))::vc 146 (.slice a0 xs.length c0) (xs)::I) (Fit.upd am (λw h=>by have h4:=cutshort (h:=((keepL (λx=> !p x) xs j).length - 1)) (by rw [List.length_append];omega) w h;rw [keep_take hkl] at h4;exact h4)) ?_
   exact Bf (Ak (Ch ((j+1),(ad4),(cp5),(chg++([⟨2,nw,(e_ (keepL (λx=> !p x) xs j) ((keptN (λx=> !p x) xs j:Nat):Int)).u,(e_ (keepL (λx=> !p x) xs j) ((keptN (λx=> !p x) xs j:Nat):Int)).v,0,0,0⟩]:List Ev))) (by dsimp only;exact ⟨om,lap⟩) (hL:=(Aa (Da C (by first|rfl|(rw [keepL_zero])|(rw [hky.1])|(rw [hkl]))) (Aa C (Aa C (Aa (Da C (by first|rfl|(rw [keepL_zero])|(rw [hky.1])|(rw [hkl]))) (Aa (Dl C (by first|omega|(rw [keptN_zero];rfl)|(dsimp only;have e1:=hky.2;omega)|(dsimp only;have e1:=hkn;omega))) Bq))))))))
 ·refine Bp (Ac (Ac (Aw (Ai (Aj (Gm C (Gm C (Ga C (Ga C (Ah (Az ?_)))))))))))
  have hE:(keepL (λx=> !p x) xs j)=(xs.filter (λx=> !p x)):=keepL_end om
  exact C4 C C C ([]++vc 146 (.slice ad1 (xs.filter (λx=> !p x)).length cp2) (xs.filter (λx=> !p x))::I) (by rw [←hE];exact A5) ⟨⟨ad1,cp2,.slice a2 chg.length c2⟩,by rw [←hE],rfl⟩
variable {κ:Ctx}{I:List Item}
theorem SetP_at{F:Item->List Item}{n:Nat}{e:Ev}{a0:Option Addr}{c0:Nat}{xs:List Lk}(hat:AtF I (vc 146 (.slice a0 n c0) xs) F)(hn:n=xs.length)(ha:xs.Pairwise Lk.lt)(hsz:xs.length<=1000000):eu prog κ 256 [.slice a0 n c0,.agg #[e7 (e.kd),e7 (e.tm),e7 (e.u),e7 (e.v),e7 (e.w),e7 (e.lb),e7 (e.sg)]] I λr J=>∃y:Option Addr×Nat×Value,(r = .tuple #[.slice y.1 (setL (ei e) xs).length y.2.1,y.2.2])/\J=[]++F (vc 146 (.slice y.1 (setL (ei e) xs).length y.2.1) (setL (ei e) xs)):=by
 subst hn
 exact Ej (Post:=λr (y:Option Addr×Nat×Value)=>r = .tuple #[.slice y.1 (setL (ei e) xs).length y.2.1,y.2.2]) (Z:=λ_=>[]) (X:=λy:Option Addr×Nat×Value=>vc 146 (.slice y.1 (setL (ei e) xs).length y.2.1) (setL (ei e) xs)) hat λJ hJ _=>SetP_base ha hsz
theorem CutP_at{F:Item->List Item}{n:Nat}{nw:Int}{a0:Option Addr}{c0:Nat}{xs:List Lk}{g:FuncId}{cp_:List Value}{p:Lk->Bool}(hat:AtF I (vc 146 (.slice a0 n c0) xs) F)(hn:n=xs.length)(hcb:Says prog κ I g cp_ p)(hsz:xs.length<=1000000):eu prog κ 257 [.slice a0 n c0,e7 nw,.func (.func g) #[] cp_.toArray] I λr J=>∃y:Option Addr×Nat×Value,(r = .tuple #[.slice y.1 (xs.filter (λx=> !p x)).length y.2.1,y.2.2])/\J=[]++F (vc 146 (.slice y.1 (xs.filter (λx=> !p x)).length y.2.1) (xs.filter (λx=> !p x))):=by
 subst hn
 exact Ej (Post:=λr (y:Option Addr×Nat×Value)=>r = .tuple #[.slice y.1 (xs.filter (λx=> !p x)).length y.2.1,y.2.2]) (Z:=λ_=>[]) (X:=λy:Option Addr×Nat×Value=>vc 146 (.slice y.1 (xs.filter (λx=> !p x)).length y.2.1) (xs.filter (λx=> !p x))) hat λJ hJ _=>CutP_base (hcb.fit hJ) hsz
theorem hitE_two{e:Ev}{l:Lk}(h:e.kd=2):hitE e l=decide (l.u=(if e.v<e.u then e.v else e.u)/\l.v=(if e.u<e.v then e.v else e.u)):=by unfold hitE;rw [if_pos h];rfl
theorem hitE_oth{e:Ev}{l:Lk}(h:¬e.kd=2):hitE e l=decide (l.u=e.u\/l.v=e.u):=by unfold hitE;rw [if_neg h]
theorem Step1_ok{b:Nat}{e:Ev}(hk:e.kd=2)(hb:BlkRd κ I b [e7 (e.kd),e7 (e.tm),e7 (e.u),e7 (e.v),e7 (e.w),e7 (e.lb),e7 (e.sg)] 108)(x:Lk):eu prog κ 258 [.agg #[e7 (x.u),e7 (x.v),e7 (x.w),e7 (x.lb),e7 (x.sg),e7 (x.tm)],.pointer (some ⟨b,0,none⟩)] I (λr J=>r = .bool (hitE e x)/\I=J):=by
 refine Ce2 Tryz.func258 C C ?_
 refine Aj (Ge1 (Bg (cs:=[_,_,_,_,_,_]) C C C) λb1=>Ga C (Ah (Aj (Gf fld146_0 C (Gl ef ?_)))))
 refine Gf fld108_2 C (Gr (C6 ef C (C5 hb Ay) C) (Gf fld108_3 C (Gr (C6 ef C (C5 hb Ay) C) (Gr (E9 C C) (Gr (Bl C C) (Gm C (Bs (d:=12) C (λg12=>?_) (λg12=>?_))))))))
 ·refine e9 (Ab fld146_1 C) (e9 (As ef) ?_)
  exact e9 (Ab fld108_2 C) (e9 (C6 ef C (C5 hb Ay) C) (e9 (Ab fld108_3 C) (e9 (C6 ef C (C5 hb Ay) C) (e9 (D7 C C) (e9 (Bl C C) (Gr (Ap C C) (Ga C (Ah (Av (S1 3 C) (Az (Ba C C I Ay ⟨by rw [hitE_two hk];exact (by first|exact congrArg Value.bool (decide_eq_decide.2 (by skip;omega))|exact congrArg Value.bool (decide_eq_true (by skip;omega)).symm|exact congrArg Value.bool (decide_eq_false (by skip;omega)).symm),rfl⟩)))))))))))
 ·exact eb (eb (eb (eb (eb (eb (eb (eb (Gr (Al C C) (Ga C (Ah (Av (S1 3 C) (Az (Ba C C I Ay ⟨by rw [hitE_two hk];exact (by first|exact congrArg Value.bool (decide_eq_decide.2 (by skip;omega))|exact congrArg Value.bool (decide_eq_true (by skip;omega)).symm|exact congrArg Value.bool (decide_eq_false (by skip;omega)).symm),rfl⟩)))))))))))))
theorem Step1_says{b:Nat}{e:Ev}(hk:e.kd=2)(hb:BlkRd κ I b [e7 (e.kd),e7 (e.tm),e7 (e.u),e7 (e.v),e7 (e.w),e7 (e.lb),e7 (e.sg)] 108):Says prog κ I 258 [.pointer (some ⟨b,0,none⟩)] (hitE e):=⟨call258,λx J hf=>Step1_ok hk (hb.fit hf) x⟩
theorem Step2_ok{b:Nat}{e:Ev}(hk:¬e.kd=2)(hb:BlkRd κ I b [e7 (e.kd),e7 (e.tm),e7 (e.u),e7 (e.v),e7 (e.w),e7 (e.lb),e7 (e.sg)] 108)(x:Lk):eu prog κ 259 [.agg #[e7 (x.u),e7 (x.v),e7 (x.w),e7 (x.lb),e7 (x.sg),e7 (x.tm)],.pointer (some ⟨b,0,none⟩)] I (λr J=>r = .bool (hitE e x)/\I=J):=by
 refine Ce2 Tryz.func259 C C ?_
 refine Aj (Ge1 (Bg (cs:=[_,_,_,_,_,_]) C C C) λb1=>Ga C (Ah (Aj (Gf fld146_0 C (Gl ef ?_)))))
 refine Gf fld108_2 C (Gr (C6 ef C (C5 hb Ay) C) (Gr (Bl C C) (Gm C (Bs (d:=9) C (λg9=>?_) (λg9=>?_)))))
 ·exact eb (eb (eb (eb (eb (Gr (Ap C C) (Ga C (Ah (Av (S1 3 C) (Az (Ba C C I Ay ⟨by rw [hitE_oth hk];exact (by first|exact congrArg Value.bool (decide_eq_decide.2 (by skip;omega))|exact congrArg Value.bool (decide_eq_true (by skip;omega)).symm|exact congrArg Value.bool (decide_eq_false (by skip;omega)).symm),rfl⟩))))))))))
 ·refine e9 (Ab fld146_1 C) (e9 (As ef) ?_)
  exact e9 (Ab fld108_2 C) (e9 (C6 ef C (C5 hb Ay) C) (e9 (Bl C C) (Gr (Al C C) (Ga C (Ah (Av (S1 3 C) (Az (Ba C C I Ay ⟨by rw [hitE_oth hk];exact (by first|exact congrArg Value.bool (decide_eq_decide.2 (by skip;omega))|exact congrArg Value.bool (decide_eq_true (by skip;omega)).symm|exact congrArg Value.bool (decide_eq_false (by skip;omega)).symm),rfl⟩))))))))
theorem Step2_says{b:Nat}{e:Ev}(hk:¬e.kd=2)(hb:BlkRd κ I b [e7 (e.kd),e7 (e.tm),e7 (e.u),e7 (e.v),e7 (e.w),e7 (e.lb),e7 (e.sg)] 108):Says prog κ I 259 [.pointer (some ⟨b,0,none⟩)] (hitE e):=⟨call259,λx J hf=>Step2_ok hk (hb.fit hf) x⟩
theorem StepP_base{nd:Int}{e:Ev}{a0:Option Addr}{c0:Nat}{xs:List Lk}(ha:xs.Pairwise Lk.lt)(hsz:xs.length<=1000000):eu prog κ 215 [.agg #[e7 nd,.slice a0 xs.length c0],.agg #[e7 (e.kd),e7 (e.tm),e7 (e.u),e7 (e.v),e7 (e.w),e7 (e.lb),e7 (e.sg)]] (vc 146 (.slice a0 xs.length c0) (xs)::I) (λr J=>∃y:Option Addr×Nat×Value,(r = .tuple #[.agg #[e7 nd,.slice y.1 (ep xs e).length y.2.1],y.2.2])/\J=[]++vc 146 (.slice y.1 (ep xs e).length y.2.1) (ep xs e)::I):=by
 refine Ce2 Tryz.func215 C C ?_
 refine Aj (Ge1 (Bg (cs:=[_,_]) C C C) λb1=>Ge1 (Bg (cs:=[_,_,_,_,_,_,_]) C C C) λb2=>Ge1 (A9 ty111 C) λb3=>Ga C (Ah (Aj (Ga C (Ah (Au (Aj (Gf fld108_0 C (Gl ef ?_)))))))))
 refine Ah (A6 (Aj (Gr (Bl C C) (Ga C (Ah (Bd C (λc19=>?_) (λc19=>?_)))))))
 ·refine A0 (Gf fld111_1 C (Gl ty109 ?_))
  refine Gl7 ty108 ?_
  refine G.e (Am call256 C C (SetP_at (by repeat (first|exact AtF.head _ _|apply AtF.tail)) C ha om)) ?_
  rintro _ _ ⟨_,_,⟨⟨ad4,cp5,wv6⟩,rfl,rfl⟩,rfl,rfl⟩
  refine Gm C (Gr (Ax C C) (Gr (Ax C C) (Gf fld111_1 C (Ge0 (Es2_1 ty109) ?_))))
  refine Ga C (Bf (Ak (Ai (Av (S3 6 4 2 C C C) (Aj (Gl2 ty111 ?_))))))
  refine Gm C (Ge0 (Cs ty111) ?_)
  refine Ga C (Ah (Az ?_))
  have hE:setL (ei e) xs=(ep xs e):=by unfold ep;rw [if_pos c19]
  exact D3 C ty111 C C mm C ([]++vc 146 (.slice ad4 (ep xs e).length cp5) (ep xs e)::I) (by rw [←hE];exact A5) ⟨⟨ad4,cp5,wv6⟩,by rw [←hE]<;>rfl,rfl⟩
 ·refine Aj (Gr (Bl C C) (Ga C (Ah (Bd C (λc29=>?_) (λc29=>?_)))))
  ·refine A0 (Gf fld111_1 C (Gl ty109 ?_))
   refine Gf fld108_1 C (Gl ef ?_)
   refine Gr (Er C C) (G.e (Am call257 C C (CutP_at (by repeat (first|exact AtF.head _ _|apply AtF.tail)) C (Step1_says c29 (C2 mm)) om)) ?_)
   rintro _ _ ⟨_,_,⟨⟨ad7,cp8,wv9⟩,rfl,rfl⟩,rfl,rfl⟩
   refine Gm C (Gr (Ax C C) (Gr (Ax C C) (Gf fld111_1 C (Ge0 (Es2_1 ty109) ?_))))
   refine Ga C (Bf (Ak (Ai (Av (S3 6 4 2 C C C) (Aj (Gl2 ty111 ?_))))))
   refine Gm C (Ge0 (Cs ty111) ?_)
   refine Ga C (Ah (Az ?_))
   have hE:List.filter (λx=> !hitE e x) xs=(ep xs e):=by unfold ep;rw [if_neg c19]
   exact D3 C ty111 C C mm C ([]++vc 146 (.slice ad7 (ep xs e).length cp8) (ep xs e)::I) (by rw [←hE];exact A5) ⟨⟨ad7,cp8,wv9⟩,by rw [←hE]<;>rfl,rfl⟩
  ·refine A0 (Gf fld111_1 C (Gl ty109 ?_))
   refine Gf fld108_1 C (Gl ef ?_)
   refine Gr (Er C C) (G.e (Am call257 C C (CutP_at (by repeat (first|exact AtF.head _ _|apply AtF.tail)) C (Step2_says c29 (C2 mm)) om)) ?_)
   rintro _ _ ⟨_,_,⟨⟨ad10,cp11,wv12⟩,rfl,rfl⟩,rfl,rfl⟩
   refine Gm C (Gr (Ax C C) (Gr (Ax C C) (Gf fld111_1 C (Ge0 (Es2_1 ty109) ?_))))
   refine Ga C (Bf (Ak (Ai (Av (S3 6 4 2 C C C) (Aj (Gl2 ty111 ?_))))))
   refine Gm C (Ge0 (Cs ty111) ?_)
   refine Ga C (Ah (Az ?_))
   have hE:List.filter (λx=> !hitE e x) xs=(ep xs e):=by unfold ep;rw [if_neg c19]
   exact D3 C ty111 C C mm C ([]++vc 146 (.slice ad10 (ep xs e).length cp11) (ep xs e)::I) (by rw [←hE];exact A5) ⟨⟨ad10,cp11,wv12⟩,by rw [←hE]<;>rfl,rfl⟩
theorem StepP_at{F:Item->List Item}{n:Nat}{nd:Int}{e:Ev}{a0:Option Addr}{c0:Nat}{xs:List Lk}(hat:AtF I (vc 146 (.slice a0 n c0) xs) F)(hn:n=xs.length)(ha:xs.Pairwise Lk.lt)(hsz:xs.length<=1000000):eu prog κ 215 [.agg #[e7 nd,.slice a0 n c0],.agg #[e7 (e.kd),e7 (e.tm),e7 (e.u),e7 (e.v),e7 (e.w),e7 (e.lb),e7 (e.sg)]] I λr J=>∃y:Option Addr×Nat×Value,(r = .tuple #[.agg #[e7 nd,.slice y.1 (ep xs e).length y.2.1],y.2.2])/\J=[]++F (vc 146 (.slice y.1 (ep xs e).length y.2.1) (ep xs e)):=by
 subst hn
 exact Ej (Post:=λr (y:Option Addr×Nat×Value)=>r = .tuple #[.agg #[e7 nd,.slice y.1 (ep xs e).length y.2.1],y.2.2]) (Z:=λ_=>[]) (X:=λy:Option Addr×Nat×Value=>vc 146 (.slice y.1 (ep xs e).length y.2.1) (ep xs e)) hat λJ hJ _=>StepP_base ha hsz
set_option maxHeartbeats 1000000 in
theorem PutP_base{κ:Ctx}{I:List Item}{b:Nat}{nd:Int}{a0 o0:Option Addr}{c0 d0:Nat}{xs:List Lk}{out:List Ev}{va:Value}{es:List Ev}(hl:Sl κ I va es)(hval:checkS nd xs=0)(hfit:∀j:Nat,j<es.length->FitOk nd (e_ es j))(hsz:xs.length+es.length<=1000000)(hso:out.length+es.length<=1000000):eu prog κ 212 [.pointer (some ⟨b,0,none⟩),va] (e8 b [e7 nd,.slice a0 xs.length c0,.slice o0 out.length d0] 241::vc 146 (.slice a0 xs.length c0) (xs)::vc 108 (.slice o0 out.length d0) (out)::I) (λr J=>∃y:Option Addr×Nat×Option Addr×Nat,r = .tuple #[]/\J=e8 b [e7 nd,.slice y.1 (List.foldl ep xs es).length y.2.1,.slice y.2.2.1 (out++es).length y.2.2.2] 241::vc 146 (.slice y.1 (List.foldl ep xs es).length y.2.1) (List.foldl ep xs es)::vc 108 (.slice y.2.2.1 (out++es).length y.2.2.2) (out++es)::I):=by
 refine Ce2 Tryz.func212 C C ?_
 refine Aj (Gm C (Gr (Cb (α:=Ev) (xs:=es) Bh C (Bj hl)) (Gm C (Ah (A6 (Ca (σ:=Nat×(Option Addr)×Nat×(Option Addr)×Nat) (λs=>([(0,.pointer (some ⟨b,0,none⟩)),(6,va),(7,e7 ((es.length:Nat):Int)),(8,e7 ((s.1:Nat):Int))]:Env)) (λs=>e8 b [e7 nd,.slice s.2.1 (List.foldl ep xs (List.take s.1 es)).length s.2.2.1,.slice s.2.2.2.1 (out++List.take s.1 es).length s.2.2.2.2] 241::vc 146 (.slice s.2.1 (List.foldl ep xs (List.take s.1 es)).length s.2.2.1) (List.foldl ep xs (List.take s.1 es))::vc 108 (.slice s.2.2.2.1 (out++List.take s.1 es).length s.2.2.2.2) (out++List.take s.1 es)::I) (λs=>(s.1<=es.length)/\(checkS nd (List.foldl ep xs (List.take s.1 es))=0)) (λs=>es.length - s.1) (0,a0,c0,o0,d0) ⟨om,hval⟩ (Aa C (Aa C (Aa C (Aa Cr Bq)))) (by rw [show out++List.take 0 es=out from List.append_nil _];exact Fk _) ?_))))))
 rintro ⟨k,a1,c1,o1,d1⟩ hp
 dsimp only at hp ⊢
 obtain ⟨hk,hv⟩:=hp
 refine Aj (Gr (Bi C C) (Ah (Au (Bd C (λc9=>?_) (λc9=>?_)))))
 ·refine A4 (Ai (Au (A6 (Aj (Gr (A2 (α:=Ev) (xs:=es) Bh ty108 C C (Bj hl) om om) (Gr (B7 (α:=Ev) (xs:=es) ty108 C (Bj hl) om om) (Ge1 (A9 ty108 C) λb1=>Ge0 (Fl ty108) ?_)))))))
  refine Ah (Au (Bt mixed (C9 (e8 b1 [e7 ((e_ es k).kd),e7 ((e_ es k).tm),e7 ((e_ es k).u),e7 ((e_ es k).v),e7 ((e_ es k).w),e7 ((e_ es k).lb),e7 ((e_ es k).sg)] 108::I) 13 (Dr 0 C (Af C) (Dr 1 C (Af C) (Dr 2 C (Br C) (Dr 3 C (Ab fld241_0 C) (Dr 5 C (Be (vs:=[_,_,_,_,_,_,_]) ty108) ?_))))))))
  refine Ds1 4 (Sr C (Be (vs:=[_,_]) ty111) A5 ?_)
  refine Ds1 6 (Se C (Am call215 C C (StepP_at (by repeat (first|exact AtF.head _ _|apply AtF.tail)) C (checkS_ok hv).2.2 (by have h:=steps_len (List.take k es) xs;rw [List.length_take] at h;omega))) ?_)
  rintro _ _ ⟨_,_,⟨⟨ad2,cp3,wv4⟩,rfl,rfl⟩,rfl,rfl⟩
  refine ⟨A5,?_⟩
  refine Dr 7 C (Af C) (Dr 8 C (Ax C C) (Dr 9 C (Ax C C) (Dr 10 C (Br C) (Dr 11 C (Ab fld241_0 C) (Ds1 12 (Se0 C (B4 (cs:=[_,_,_]) (vs:=[_,_]) (cs':=[_,_,_]) ty111) ?_))))))
  refine Dz (Ai (Av (S5 5 0 6 7 8 C C C C C) (Bt mixed (C9 (e8 b1 [e7 ((e_ es k).kd),e7 ((e_ es k).tm),e7 ((e_ es k).u),e7 ((e_ es k).v),e7 ((e_ es k).w),e7 ((e_ es k).lb),e7 ((e_ es k).sg)] 108::I) 11 (Dr 0 C (Af C) (Dr 1 C (Af C) (Dr 2 C (Br C) (Dr 3 C (Ab fld241_1 C) (Dr 5 C (Be (vs:=[_,_,_,_,_,_,_]) ty108) ?_)))))))))
  refine Dv (rs:=[4,6]) kr C C (Ex ?_ (En ?_))
  ·refine Sr C (As ty28) A5 ?_
   refine Ds1 6 (Se1 C (Cj (α:=Ev) (cs:=[e7 ((e_ es k).kd),e7 ((e_ es k).tm),e7 ((e_ es k).u),e7 ((e_ es k).v),e7 ((e_ es k).w),e7 ((e_ es k).lb),e7 ((e_ es k).sg)]) (xs:=[⟨(e_ es k).kd,(e_ es k).tm,(e_ es k).u,(e_ es k).v,(e_ es k).w,(e_ es k).lb,(e_ es k).sg⟩]) Bh ty108 C C dc dc C kr C C) λad5=>?_)
   refine Ds1 7 (Se2 C (Cn (α:=Ev) (e:=108) (xs:=out++List.take k es) (ys:=([⟨(e_ es k).kd,(e_ es k).tm,(e_ es k).u,(e_ es k).v,(e_ es k).w,(e_ es k).lb,(e_ es k).sg⟩]:List Ev)) Bh ty108 C C C mm Bk (by simp only [List.length_append,List.length_take,List.length_cons,List.length_nil];omega) dc C (λ_ _=>am)) λad6 cp7=>?_)
   refine Dr 8 C (Br C) (Dr 9 C (Ab fld241_1 C) (Ds1 10 (Se0 C (B4 (cs:=[_,_,_]) (vs:=[_]) (cs':=[_,_,_]) ty28) ?_)))
   exact Dz (Ak (Ai (Av (S4 0 6 7 8 C C C C) (A0 (Gr (Rad C C) (Gm C (Bf (Ch ((k+1),(ad2),(cp3),(ad6),(cp7)) (by dsimp only;exact ⟨om,(by rw [steps_succ om];exact stepL_val hv (hfit k om))⟩) (hI:=by (try dsimp only);exact (by rw [steps_succ om,out_succ om];exact A5))))))))))
  ·refine Se1 C (Cj (α:=Ev) (cs:=[e7 ((e_ es k).kd),e7 ((e_ es k).tm),e7 ((e_ es k).u),e7 ((e_ es k).v),e7 ((e_ es k).w),e7 ((e_ es k).lb),e7 ((e_ es k).sg)]) (xs:=[⟨(e_ es k).kd,(e_ es k).tm,(e_ es k).u,(e_ es k).v,(e_ es k).w,(e_ es k).lb,(e_ es k).sg⟩]) Bh ty108 C C dc dc C kr C C) λad8=>?_
   refine Ds1 4 (Sr C (As ty28) A5 ?_)
   refine Ds1 7 (Se2 C (Cn (α:=Ev) (e:=108) (xs:=out++List.take k es) (ys:=([⟨(e_ es k).kd,(e_ es k).tm,(e_ es k).u,(e_ es k).v,(e_ es k).w,(e_ es k).lb,(e_ es k).sg⟩]:List Ev)) Bh ty108 C C C mm Bk (by simp only [List.length_append,List.length_take,List.length_cons,List.length_nil];omega) dc C (λ_ _=>am)) λad9 cp10=>?_)
   refine Dr 8 C (Br C) (Dr 9 C (Ab fld241_1 C) (Ds1 10 (Se0 C (B4 (cs:=[_,_,_]) (vs:=[_]) (cs':=[_,_,_]) ty28) ?_)))
   exact Dz (Ak (Ai (Av (S4 0 6 7 8 C C C C) (A0 (Gr (Rad C C) (Gm C (Bf (Ch ((k+1),(ad2),(cp3),(ad9),(cp10)) (by dsimp only;exact ⟨om,(by rw [steps_succ om];exact stepL_val hv (hfit k om))⟩) (hI:=by (try dsimp only);exact (by rw [steps_succ om,out_succ om];exact A5))))))))))
 ·refine Bp (Ac (Ac (Aw ?_)))
  have hk2:List.take k es=es:=List.take_of_length_le om
  exact V.end0 C (e8 b [e7 nd,.slice a1 (List.foldl ep xs es).length c1,.slice o1 (out++es).length d1] 241::vc 146 (.slice a1 (List.foldl ep xs es).length c1) (List.foldl ep xs es)::vc 108 (.slice o1 (out++es).length d1) (out++es)::I) (by rw [hk2];exact A5) ⟨⟨a1,c1,o1,d1⟩,rfl,rfl⟩
end Go.Sl
