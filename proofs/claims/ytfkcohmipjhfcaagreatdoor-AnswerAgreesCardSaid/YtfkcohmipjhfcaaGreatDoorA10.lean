/- A part of the proofs of statements of this seat: contracts of functions, and the plain laws that they lean on. No conditions. -/
import Derived.Test.YtfkcohmipjhfcaaGreatDoorA9
set_option linter.unusedVariables false
set_option linter.unusedSimpArgs false
set_option linter.unusedSectionVars false
namespace Go.Sl
open Go.Proofs
set_option maxRecDepth 4000
variable {κ:Ctx}{I:List Item}
theorem Check03G_ok{nd:Int}{v:Value}{es:List Pt}(hl:Sl κ I v es) :
    CallS Tryz.prog κ 30 [.agg #[I64 (nd),v]] I (fun r J=>r=I64 (checkG nd es)∧I=J):=by
 refine B4 hl.le fun hmax=>?_
 refine Ce1 Tryz.func30 rfl rfl ?_
 refine Ah (Ge1 (Bb (cs:=[_,_]) rfl rfl rfl) fun b1=>Ga rfl (Af (Ao (Ah (Gf fld48_0 rfl (Gl ty3 ?_))))))
 refine Gr (Bc rfl rfl) (Gm rfl (Bi (d:=8) rfl (fun g8=>?_) (fun g8=>?_)))
 ·exact Gpo (Gpo (Gpo (Gr (Ap rfl rfl) (Af (Cl rfl (Ah (Ga rfl (Af (A2 (Al (A7 rfl rfl (I) A4 ⟨by rw [show checkG nd es=1 from (by unfold checkG;rw [if_pos om])],rfl⟩)))))))))))
 ·refine Gro (Aa fld48_0 rfl) (Gro (Au ty3) ?_)
  refine Gro (B5 rfl rfl) (Gr (Av rfl rfl) (Af (A9 rfl (fun c12=>?_) (fun c12=>?_))))
  ·exact Ah (Ga rfl (Af (A2 (Al (A7 rfl rfl (I) A4 ⟨by rw [show checkG nd es=1 from (by unfold checkG;rw [if_pos om])],rfl⟩)))))
  ·refine A0 (Ai (Ao (Ah (Gf fld48_1 rfl (Gl ty46 ?_)))))
   refine Gr (Bz (α:=Pt) (xs:=es) Bh rfl (Bf hl)) (Gm rfl (Af (As (S4 16 15 14 1 rfl rfl rfl rfl) (Ax (Bx (σ:=Nat) (fun s=>([(1,.pointer (some ⟨b1,0,none⟩)),(14,v),(15,I64 (((es.length:Nat):Int))),(16,I64 (((s:Nat):Int)))]:Env)) (fun s=>blk b1 [I64 (nd),v] 48::I) (fun s=>(s≤es.length)∧(checkG nd es=scanL (badE nd) Pt.lt (prevAt es s) (es.drop s))) (fun s=>es.length - s) (0) (show ((0:Nat)≤es.length)∧(checkG nd es=scanL (badE nd) Pt.lt (prevAt es (0:Nat)) (es.drop (0:Nat))) from ⟨om,(by unfold checkG;rw [if_neg om];rfl)⟩) (Ac rfl (Ac rfl (Ac rfl (Ac Cb Bq)))) (show Fit κ _ (blk b1 [I64 (nd),v] 48::I) from Ay) ?_)))))
   rintro k hp
   obtain ⟨hk,hs⟩:=hp
   refine Ah (Gr (Bc rfl rfl) (Af (Ao (A9 rfl (fun c17=>?_) (fun c17=>?_)))))
   ·refine A0 (Ai (Ao (Ax (Ah (Gm rfl (Gr (A8 (α:=Pt) (xs:=es) Bh ty135 rfl rfl (Bf hl) om om) (Gr (B0 (α:=Pt) (xs:=es) ty135 rfl (Bf hl) om om) (Ge1 (A5 ty135 rfl) fun b2=>Ga rfl (Ge0 (B1 ty135) ?_)))))))))
    refine Af (Ao (Ah (Gf fld135_0 rfl (Gl ty3 ?_))))
    refine Gr (Bc rfl rfl) (Gm rfl (Bi (d:=24) rfl (fun g24=>?_) (fun g24=>?_)))
    ·exact Gpo (Gpo (Gpo (Gpo (Gpo (Gr (Ap rfl rfl) (Gm rfl (Gpo (Gpo (Gpo (Gpo (Gpo (Gr (Ap rfl rfl) (Af (As (S7 37 3 4 1 14 15 16 rfl rfl rfl rfl rfl rfl rfl) (Cl rfl (Ah (Ga rfl (Af (A2 (Al (Ar (Al (Al (Ar (Al (A7 rfl rfl (I) A4 ⟨by rw [show checkG nd es=6 from (hs.trans ((Dh om (by unfold badE;rw [if_pos om];decide)).trans (by unfold badE;rw [if_pos om])))],rfl⟩))))))))))))))))))))))))))
    ·refine Gro (Aa fld135_0 rfl) (Gro (Au ty3) ?_)
     refine Gro (Aa fld135_1 rfl) (Gro (Au ty3) ?_)
     refine Gro (Cg rfl rfl) (Gr (Av rfl rfl) (Gm rfl (Bi (d:=31) rfl (fun g31=>?_) (fun g31=>?_))))
     ·exact Gpo (Gpo (Gpo (Gpo (Gpo (Gr (Ap rfl rfl) (Af (As (S7 37 3 4 1 14 15 16 rfl rfl rfl rfl rfl rfl rfl) (Cl rfl (Ah (Ga rfl (Af (A2 (Al (Ar (Al (Al (Ar (Al (A7 rfl rfl (I) A4 ⟨by rw [show checkG nd es=6 from (hs.trans ((Dh om (by unfold badE;rw [if_pos om];decide)).trans (by unfold badE;rw [if_pos om])))],rfl⟩)))))))))))))))))))
     ·refine Gro (Aa fld135_1 rfl) (Gro (Au ty3) ?_)
      refine Gro (Aa fld48_0 rfl) (Gro (Au ty3) ?_)
      refine Gro (Cg rfl rfl) (Gr (Av rfl rfl) (Af (As (S7 37 3 4 1 14 15 16 rfl rfl rfl rfl rfl rfl rfl) (A9 rfl (fun c37=>?_) (fun c37=>?_)))))
      ·exact Ah (Ga rfl (Af (A2 (Al (Ar (Al (Al (Ar (Al (A7 rfl rfl (I) A4 ⟨by rw [show checkG nd es=6 from (hs.trans ((Dh om (by unfold badE;rw [if_pos om];decide)).trans (by unfold badE;rw [if_pos om])))],rfl⟩))))))))))
      ·refine A0 (Ai (Ao (Bo mixed (Bu (blk b2 [I64 ((at_ es (k:Int)).u),I64 ((at_ es (k:Int)).v)] 135::blk b1 [I64 (nd),v] 48::I) 13 (Dr 0 rfl (Ad rfl) (Dr 1 rfl (B5 rfl rfl) (Dr 2 rfl (Ad rfl) (D1 (d:=40) rfl (fun g40=>?_) (fun g40=>?_)))))))))
       ·refine Dro 3 rfl (Aa fld48_1 rfl) (Dro 4 rfl (Au ty46) ?_)
        refine Dro 5 rfl (Ad rfl) (Dro 6 rfl (Rsu rfl rfl) (Dro 7 rfl (A8 (α:=Pt) (xs:=es) Bh ty135 rfl rfl (Bf hl) om om) (Dro 8 rfl (B0 (α:=Pt) (xs:=es) ty135 rfl (Bf hl) om om) (Dro 9 rfl (Bm (vs:=[_,_]) ty135) ?_))))
        refine Ds1 10 (Sc0 rfl (Am call84 rfl rfl (Before03_ok (at_ es ((k:Int) - 1)) (at_ es (k:Int)))) ?_)
        refine Dro 11 rfl (C7 rfl) (Dr 12 rfl (Ap rfl rfl) (Dz (Ai (As (S5 50 1 14 15 16 rfl rfl rfl rfl rfl) (A9 rfl (fun c50=>?_) (fun c50=>?_))))))
        ·exact Ah (Ga rfl (Af (A2 (Ar (Al (Al (Ar (Al (A7 rfl rfl (I) A4 ⟨by rw [show checkG nd es=5 from (hs.trans (scanL_order om (badE_zero.2 om) om (by first|assumption|simpa using c50)))],rfl⟩)))))))))
        ·exact A0 (Aj (Ai (Aw (Gr (Rad rfl rfl) (Gm rfl (Bj (B6 ((k+1)) ⟨om,(hs.trans (E8 om (badE_zero.2 om) (fun h0=>by first|omega|exact Classical.not_not.1 asm|assumption)))⟩)))))))
       ·exact Dpo 3 rfl (Dpo 4 rfl (Dpo 5 rfl (Dpo 6 rfl (Dpo 7 rfl (Dpo 8 rfl (Dpo 9 rfl (Dpo 10 rfl (Dpo 11 rfl (Dr 12 rfl (Av rfl rfl) (Dz (Ai (As (S5 50 1 14 15 16 rfl rfl rfl rfl rfl) (Cx rfl (A0 (Aj (Ai (Aw (Gr (Rad rfl rfl) (Gm rfl (Bj (B6 ((k+1)) ⟨om,(hs.trans (E8 om (badE_zero.2 om) (fun h0=>by first|omega|exact Classical.not_not.1 asm|assumption)))⟩)))))))))))))))))))))
   ·exact Bt (Ak (Ak (A6 (Ai (Ah (Ga rfl (Af (A2 (A7 rfl rfl (I) A4 ⟨by rw [show checkG nd es=0 from (hs.trans (scanL_end om))],rfl⟩)))))))))
theorem Edge03_ok(u v:Int) :
    CallS Tryz.prog κ 119 [I64 (u),I64 (v)] I (fun r J=>r = .agg #[I64 (edgeP u v).u,I64 (edgeP u v).v]∧I=J):=by
 refine Ce2 Tryz.func119 rfl rfl ?_
 refine Ah (Ge1 (A5 ty135 rfl) fun b1=>Af (Ah (Gm rfl (Gm rfl (Gr (Runs.min rfl rfl) (Gm rfl (Gm rfl (Gr (Et rfl rfl) (Gr (Be (cells:=[_,_]) ty135 Tryz.underlying135 pl135 rfl rfl) (Ge0 (B1 ty135) ?_))))))))))
 exact Af (A2 (Cw rfl ty135 rfl mm rfl (I) A4 ⟨rfl,rfl⟩))
section
variable {P:Program}{κ:Ctx}{N:Frm}{L:Env}{I J:List Item}{d:Option Tmp}{ty:TypeId}{ps:String}{af:Array Edge}{gd:Option (Nat×Bool)}
theorem vc.isSome{α:Type}[Enc α]{xs:List α}{e:TypeId}{ad:Option Addr}{n c:Nat}(h:vc e (.slice ad n c) xs∈I):∀w,Sep κ w I→(0<xs.length→ad≠none):=fun w hs hlt=>by
 obtain ⟨b,o,cap,h0,_⟩:=((Sl.vec (κ:=κ) h) w hs).some hlt
 cases h0
 exact fun hh=>by cases hh
theorem Runs.idxs(α:Type)[Enc α]{x y:Operand}{T E by' n c:Nat}{ag:Bool}{z:List Value}{ad:Option Addr}{i:Int}(ht:P.underlying T=some (.slice E))(hE:tyF P E=some (Enc.sz α,ag,by',z))(hx:evalO L x=some (.slice ad n c))
  (hy:evalO L y=some (I64 i)) (ha:ad≠none) (h0:0≤i) (hn:i<n):Runs P κ N ⟨d,.indexAddr T x y,ty,ps,af,gd⟩ L J (elemPtr (.slice ad n c) (i.toNat*Enc.sz α)):=by
 cases ad with
 |none=>exact absurd rfl ha
 |some ad=>exact fun a w ha hs=>by simp [execOp,ha.eval hx,ha.eval hy,Instr.indexAt,asIntOf,run_underlying ht,h0,hn,run_sizeOf hE,elemPtr]
end
variable {κ:Ctx}{I:List Item}
theorem ApplyP_ok{nd:Int}{e:Ev}{a0:Option Addr}{c0:Nat}{xs:List Lk}(hv:checkS nd xs=0)(hf:FitOk nd e)(hsz:xs.length≤100000) :
    CallS Tryz.prog κ 141 [.agg #[I64 (nd),.slice a0 xs.length c0],.agg #[I64 (e.kd),I64 (e.tm),I64 (e.u),I64 (e.v),I64 (e.w),I64 (e.lb),I64 (e.sg)]] (vc 146 (.slice a0 xs.length c0) (xs)::I) (fun r J=>∃a c w,r = .tuple #[.agg #[I64 nd,.slice a (stepL xs e).length c],w,I64 0]∧J=vc 146 (.slice a (stepL xs e).length c) (stepL xs e)::I):=by
 refine Ce2 Tryz.func141 rfl rfl ?_
 refine Ah (Ge1 (Bb (cs:=[_,_]) rfl rfl rfl) fun b1=>Ge1 (Bb (cs:=[_,_,_,_,_,_,_]) rfl rfl rfl) fun b2=>Ge1 (A5 ty111 rfl) fun b3=>Ga rfl (Ga rfl (Af (Ah (Gl2 ty111 ?_)))))
 refine G.e (Am call214 rfl rfl (CheckS_ok (nd:=nd) Br)) ?_
 rintro _ _ ⟨_,_,⟨rfl,rfl⟩,rfl,rfl⟩
 refine Ga rfl (Af (Ao (Ah (Gm rfl (Gr (Bs rfl rfl) (Af (A9 rfl (fun c13=>?_) (fun c13=>?_))))))))
 ·refine Aw (Gf fld111_0 rfl (Gl ty3 ?_))
  refine Gl7 ty108 ?_
  refine Gc0 (Am call210 rfl rfl (FitsE_ok nd e)) ?_
  refine Ga rfl (Af (As (S4 7 4 3 2 rfl rfl rfl rfl) (Ao (Ah (Gm rfl (Gr (Bv rfl rfl) (Af (A9 rfl (fun c19=>?_) (fun c19=>?_)))))))))
  ·exact absurd (fitE_ok.2 hf) c19
  ·refine A0 (Ai (Ah (Gl2 ty111 ?_)))
   refine Gl7 ty108 ?_
   refine G.e (Am call215 rfl rfl (StepP_at (by repeat (first|exact AtF.head _ _|apply AtF.tail)) rfl (checkS_ok hv).2.2 om)) ?_
   rintro _ _ ⟨_,_,⟨⟨ad4,cp5,wv6⟩,rfl,rfl⟩,rfl,rfl⟩
   show G Tryz.prog κ _ _ _ _ ([(25,.tuple #[.agg #[I64 (nd),.slice ad4 (stepL xs e).length cp5],wv6]),(24,.agg #[I64 (e.kd),I64 (e.tm),I64 (e.u),I64 (e.v),I64 (e.w),I64 (e.lb),I64 (e.sg)]),(23,.agg #[I64 (nd),.slice a0 xs.length c0]),(19,.bool (decide ((fitE nd e)≠0))),(18,I64 (fitE nd e)),(7,I64 (fitE nd e)),(4,.pointer (some ⟨b3,0,none⟩)),(3,.pointer (some ⟨b2,0,none⟩)),(2,.pointer (some ⟨b1,0,none⟩))]:Env) (blk b3 [I64 (0),.slice none 0 0] 111::blk b2 [I64 (e.kd),I64 (e.tm),I64 (e.u),I64 (e.v),I64 (e.w),I64 (e.lb),I64 (e.sg)] 108::blk b1 [I64 (nd),.slice a0 xs.length c0] 111::vc 146 (.slice ad4 (stepL xs e).length cp5) (stepL xs e)::I)
   refine Gm rfl (Gr (Az rfl rfl) (Gr (Az rfl rfl) (Ge1 (A5 ty111 rfl) fun b7=>Ge0 (B1 ty111) ?_)))
   refine Ga rfl (Af (As (S3 9 8 4 rfl rfl rfl) (Ah (Gf fld111_1 rfl (Gl ty109 ?_)))))
   refine G.e (Am call216 rfl rfl (CloneL (xs:=stepL xs e) Br (by have h:=stepL_len xs e;omega))) ?_
   rintro _ _ ⟨_,_,⟨ad8,cp9,rfl,rfl⟩,rfl,rfl⟩
   refine Gf fld111_1 rfl (Ge0 (Ek ty109) ?_)
   refine Af (Ah (Gl2 ty111 ?_))
   refine Gm rfl (Ge0 (B1 ty111) ?_)
   exact Ga rfl (Ga rfl (Af (A2 (V.retc2 rfl ty111 rfl rfl rfl mm rfl (vc 146 (.slice ad8 (stepL xs e).length cp9) (stepL xs e)::I) B7 ⟨ad8,cp9,wv6,rfl,rfl⟩))))
 ·exact absurd hv c13
theorem edgesK_take{xs:List Lk}{k:Nat}(h:k<xs.length):edgesK (xs.take (k+1))=edgesK (xs.take k)++[(⟨(at_ xs (k:Int)).u,(at_ xs (k:Int)).v⟩:Pt)]:=by
 unfold edgesK;rw [Db xs k h,List.map_append];rfl
theorem LEdges_ok{nd:Int}{va:Value}{xs:List Lk}(hl:Sl κ I va xs)(hsz:xs.length≤100000) :
    CallS Tryz.prog κ 231 [.agg #[I64 (nd),va]] I (fun r J=>∃a c,r = .agg #[I64 nd,.slice a (edgesK xs).length c]∧J=vc 135 (.slice a (edgesK xs).length c) (edgesK xs)::I):=by
 refine B4 hl.le fun hmax=>?_
 refine Ce1 Tryz.func231 rfl rfl ?_
 refine Ah (Ge1 (Bb (cs:=[_,_]) rfl rfl rfl) fun b1=>Ge1 (A5 ty48 rfl) fun b2=>Af (Ah (Gf fld111_0 rfl (Gl ty3 ?_))))
 refine Gr (Be (cells:=[_,_]) ty48 Tryz.underlying48 pl48 rfl rfl) (Ge1 (A5 ty48 rfl) fun b3=>Ge0 (B1 ty48) ?_)
 refine Af (Ao (Ah (Gf fld111_1 rfl (Gl ty109 ?_))))
 refine Gr (Bz (α:=Lk) (xs:=xs) A3 rfl (Bf hl)) (Gm rfl (Af (Ax (Bx (σ:=Nat×(Option Addr)×Nat×(List Pt)) (fun s=>([(2,.pointer (some ⟨b2,0,none⟩)),(3,.pointer (some ⟨b3,0,none⟩)),(10,va),(11,I64 (((xs.length:Nat):Int))),(12,I64 (((s.1:Nat):Int)))]:Env)) (fun s=>vc 135 (.slice s.2.1 s.2.2.2.length s.2.2.1) (s.2.2.2)::blk b3 [I64 (nd),.slice s.2.1 s.2.2.2.length s.2.2.1] 48::blk b2 [I64 (0),.slice none 0 0] 48::blk b1 [I64 (nd),va] 111::I) (fun s=>(s.1≤xs.length)∧(s.2.2.2=edgesK (xs.take s.1))) (fun s=>xs.length - s.1) (0,none,0,[]) (show ((0:Nat)≤xs.length)∧(([]:List Pt)=edgesK (xs.take (0:Nat))) from ⟨om,rfl⟩) (Ac rfl (Ac rfl (Ac rfl (Ac rfl (Ac Cb Bq))))) (show Fit κ _ (vc 135 (.slice (none) ([]).length (0)) (([]))::blk b3 [I64 (nd),.slice (none) ([]).length (0)] 48::blk b2 [I64 (0),.slice none 0 0] 48::blk b1 [I64 (nd),va] 111::I) from (B3 _ _)) ?_))))
 rintro ⟨k,a,c,out⟩ hp
 dsimp only at hp ⊢
 obtain ⟨hk,ho⟩:=hp
 have hol:out.length=k:=by rw [ho,edgesK_len,List.length_take];omega
 refine Ah (Gr (Bc rfl rfl) (Af (Ao (A9 rfl (fun c13=>?_) (fun c13=>?_)))))
 ·refine A0 (Ai (Ao (Ax (Ah (Gr (A8 (α:=Lk) (xs:=xs) A3 ty146 rfl rfl (Bf hl) om om) (Gr (B0 (α:=Lk) (xs:=xs) ty146 rfl (Bf hl) om om) (Ge1 (A5 ty146 rfl) fun b4=>Ge0 (Ej ty146) ?_)))))))
  refine Af (Aw (Gf fld48_1 rfl (Gl ty46 ?_)))
  refine Gf fld146_0 rfl (Gl ty3 ?_)
  refine Gf fld146_1 rfl (Gl ty3 ?_)
  refine Gr (Be (cells:=[_,_]) ty135 Tryz.underlying135 pl135 rfl rfl) (Ge1 (B9 (α:=Pt) (cs:=[_,_]) (xs:=[⟨(at_ xs (k:Int)).u,(at_ xs (k:Int)).v⟩]) Bh ty135 rfl rfl dc dc rfl rfl rfl rfl) fun ad5=>?_)
  refine Ge2 (Ca (α:=Pt) (e:=135) (xs:=out) (ys:=([⟨(at_ xs (k:Int)).u,(at_ xs (k:Int)).v⟩]:List Pt)) Bh ty135 rfl rfl rfl mm Br lcn dc rfl (fun _ _=>am)) fun ad6 cp7=>?_
  refine Gf fld48_1 rfl (Ge0 (Ek ty46) ?_)
  exact Bj (Aj (Ai (As (S5 2 3 10 11 12 rfl rfl rfl rfl rfl) (Aw (Gr (Rad rfl rfl) (Gm rfl (Bj (B6 ((k+1),(ad6),(cp7),(out++([⟨(at_ xs (k:Int)).u,(at_ xs (k:Int)).v⟩]:List Pt))) (by dsimp only;exact ⟨om,(by rw [edgesK_take om,←ho])⟩)))))))))
 ·refine Bt (Ak (Ak (A6 (Ai (Ah (Gl2 ty48 ?_))))))
  refine Ge0 (B1 ty48) ?_
  refine Af (A2 ?_)
  have hE:out=edgesK xs:=by rw [ho,List.take_of_length_le om]
  exact Cw rfl ty48 rfl mm rfl (vc 135 (.slice a (edgesK xs).length c) (edgesK xs)::I) (by rw [←hE];exact B7) ⟨a,c,by rw [←hE]<;>rfl,rfl⟩
theorem LGraph_ok{nd:Int}{va:Value}{xs:List Lk}(hl:Sl κ I va xs)(hv:checkS nd xs=0)(hsz:xs.length≤100000) :
    CallS Tryz.prog κ 167 [.agg #[I64 (nd),va]] I (fun r J=>∃a c,r = .tuple #[.agg #[I64 nd,.slice a (edgesK xs).length c],I64 0]∧J=vc 135 (.slice a (edgesK xs).length c) (edgesK xs)::I):=by
 refine Ce1 Tryz.func167 rfl rfl ?_
 refine Ah (Ge1 (Bb (cs:=[_,_]) rfl rfl rfl) fun b1=>Ge1 (A5 ty48 rfl) fun b2=>Ga rfl (Af (Ao (Ah (Gl2 ty111 ?_)))))
 refine G.e (Am call214 rfl rfl (CheckS_ok (nd:=nd) (Bf hl))) ?_
 rintro _ _ ⟨_,_,⟨rfl,rfl⟩,rfl,rfl⟩
 refine Ga rfl (Af (Ah (Gm rfl (Gr (Bv rfl rfl) (Af (A9 rfl (fun c8=>?_) (fun c8=>?_)))))))
 ·exact absurd hv c8
 ·refine A0 (Ai (Ah (Gl2 ty111 ?_)))
  refine G.e (Am call231 rfl rfl (LEdges_ok (nd:=nd) (Bf hl) om)) ?_
  rintro _ _ ⟨_,_,⟨ad3,cp4,rfl,rfl⟩,rfl,rfl⟩
  refine Ge0 (B1 ty48) ?_
  exact Ga rfl (Af (A2 (Ct rfl ty48 rfl rfl mm rfl (vc 135 (.slice ad3 (edgesK xs).length cp4) (edgesK xs)::I) B7 ⟨ad3,cp4,rfl,rfl⟩)))
theorem LateC_ok(x y:Ev) :
    CallS Tryz.prog κ 230 [.agg #[I64 (x.kd),I64 (x.tm),I64 (x.u),I64 (x.v),I64 (x.w),I64 (x.lb),I64 (x.sg)],.agg #[I64 (y.kd),I64 (y.tm),I64 (y.u),I64 (y.v),I64 (y.w),I64 (y.lb),I64 (y.sg)]] I (fun r J=>r=I64 (evC x y)∧I=J):=by
 refine Ce2 Tryz.func230 rfl rfl ?_
 refine Ah (Ge1 (Bb (cs:=[_,_,_,_,_,_,_]) rfl rfl rfl) fun b1=>Ge1 (Bb (cs:=[_,_,_,_,_,_,_]) rfl rfl rfl) fun b2=>Ga rfl (Af (Ah (Gf fld108_1 rfl (Gl ty3 ?_)))))
 refine Gf fld108_1 rfl (Gl ty3 ?_)
 refine Gc0 (Am call225 rfl rfl (Compare_ok x.tm y.tm)) ?_
 exact Ga rfl (Af (A2 (A7 rfl rfl (I) A4 ⟨by first|rfl|(unfold evC;repeat (first|rfl|omega|split))|(unfold evC;congr 1;repeat (first|rfl|omega|split)),rfl⟩)))
variable {κ:Ctx}{I:List Item}
theorem InsSortE_ok{a:Option Addr}{c:Nat}{xs:List Ev}(hn:xs.length≤1000) :
    CallS Tryz.prog κ 315 [.slice a xs.length c,I64 (0),I64 (((xs.length:Nat):Int)),.func (.func 230) #[] #[]] (vc 108 (.slice a xs.length c) (xs)::I) (fun r J=>r = .tuple #[]∧J=vc 108 (.slice a xs.length c) (isortG evC xs)::I):=by
 refine B4 (p:=0<xs.length→a≠none) (vc.isSome mm) fun hsm=>?_
 refine Ce4 Tryz.func315 rfl rfl ?_
 refine Ah (Gm rfl (Gr (Rad rfl rfl) (Ga rfl (Af (Ax (Bx (σ:=Nat×(List Ev)) (fun s=>([(0,.slice a xs.length c),(1,I64 (0)),(2,I64 (((xs.length:Nat):Int))),(3,.func (.func 230) #[] #[]),(8,I64 (((s.1:Nat):Int)))]:Env)) (fun s=>vc 108 (.slice a xs.length c) (s.2)::I) (fun s=>(1≤s.1∧(s.1≤xs.length∨s.1=1))∧(s.2=(isortG evC (xs.take s.1))++xs.drop s.1)) (fun s=>xs.length - s.1) (1,xs) (show (1≤(1:Nat)∧((1:Nat)≤xs.length∨(1:Nat)=1))∧((xs:List Ev)=(isortG evC (xs.take (1:Nat)))++xs.drop (1:Nat)) from ⟨om,(by cases xs<;>rfl)⟩) (Ac rfl (Ac rfl (Ac rfl (Ac rfl (Ac Cb Bq))))) (show Fit κ _ (vc 108 (.slice a xs.length c) ((xs))::I) from Ay) ?_))))))
 rintro ⟨i,ys⟩ hp
 dsimp only at hp ⊢
 obtain ⟨hi,hy⟩:=hp
 have hil:=fun h:i≤xs.length=>isort_tlenG evC h
 have hyl:ys.length=xs.length:=by rw [hy,List.length_append,List.length_drop];rcases hi.2 with h|h;(· have:=hil h;omega);(· subst h;cases xs with |nil=>rfl|cons x t=>(have:=hil (by simp);simp at this ⊢; omega))
 refine Ao (Ah (Gm rfl (Gm rfl (Gr (Bc rfl rfl) (Af (A9 rfl (fun c14=>?_) (fun c14=>?_)))))))
 ·refine A0 (Ai (Ao (Ax (Ah (Gm rfl (Ga rfl (Af (Ax (Bx (σ:=Nat×(List Ev)) (fun s=>([(0,.slice a xs.length c),(1,I64 (0)),(2,I64 (((xs.length:Nat):Int))),(3,.func (.func 230) #[] #[]),(8,I64 ((i:Int))),(9,I64 (((s.1:Nat):Int)))]:Env)) (fun s=>vc 108 (.slice a xs.length c) (s.2)::I) (fun s=>(s.1≤i)∧(s.2=insG (isortG evC (xs.take i)) s.1 (at_ xs (i:Int))++xs.drop (i+1))∧(placeG evC (isortG evC (xs.take i)) (at_ xs (i:Int)) s.1=placeG evC (isortG evC (xs.take i)) (at_ xs (i:Int)) i)) (fun s=>s.1) (i,ys) (show ((i:Nat)≤i)∧((ys:List Ev)=insG (isortG evC (xs.take i)) (i:Nat) (at_ xs (i:Int))++xs.drop (i+1))∧(placeG evC (isortG evC (xs.take i)) (at_ xs (i:Int)) (i:Nat)=placeG evC (isortG evC (xs.take i)) (at_ xs (i:Int)) i) from ⟨om,(by rw [hy];exact ins_startG om),rfl⟩) (Ac rfl (Ac rfl (Ac rfl (Ac rfl (Ac rfl (Ac Cb Bq)))))) (show Fit κ _ (vc 108 (.slice a xs.length c) ((ys))::I) from Ay) ?_)))))))))
  rintro ⟨j,zs⟩ hp
  dsimp only at hp ⊢
  obtain ⟨hj,hzs,hpl⟩:=hp
  have hil2:=hil om
  have hz0:at_ zs (j:Int)=(at_ xs (i:Int)):=by rw [hzs];exact at_midG om
  have hz1:0<j→at_ zs ((j:Int) - 1)=at_ (isortG evC (xs.take i)) ((j:Int) - 1):=fun h=>by rw [hzs];exact at_prevG h om
  have hzl:zs.length=xs.length:=by rw [hzs,List.length_append,List.length_drop];unfold insG;rw [List.length_append,List.length_cons,List.length_take,List.length_drop];omega
  refine Ao (Ao (Bo mixed (Bu (vc 108 (.slice a xs.length c) (zs)::I) 17 (Dr 0 rfl (Ad rfl) (Dr 1 rfl (Ad rfl) (Dr 2 rfl (B5 rfl rfl) (Dr 3 rfl (Ad rfl) (D1 (d:=21) rfl (fun g21=>?_) (fun g21=>?_)))))))))
  ·refine Dro 4 rfl (Ad rfl) (Dro 5 rfl (Ad rfl) (Dro 6 rfl (Ad rfl) (Dro 7 rfl (A8 (α:=Ev) (xs:=zs) Ba ty108 rfl rfl Br om oo) (Dro 8 rfl (B0 (α:=Ev) (xs:=zs) ty108 rfl Br om oo) (Dro 9 rfl (Ad rfl) (Dro 10 rfl (Ad rfl) (Dro 11 rfl (Rsu rfl rfl) (Dro 12 rfl (A8 (α:=Ev) (xs:=zs) Ba ty108 rfl rfl Br om oo) (Dro 13 rfl (B0 (α:=Ev) (xs:=zs) ty108 rfl Br om oo) (Ds1 14 (Sc0 rfl (Cr call230 rfl rfl rfl (LateC_ok (at_ zs (j:Int)) (at_ zs ((j:Int) - 1)))) ?_)))))))))))
   refine Dro 15 rfl (Bc rfl rfl) (Dr 16 rfl (Ap rfl rfl) (Dz (Ai (As (S7 34 0 1 2 3 8 9 rfl rfl rfl rfl rfl rfl rfl) (A9 rfl (fun c34=>?_) (fun c34=>?_))))))
   ·refine A0 (Ai (Ao (Ax (Bo mixed (Bu (I) 18 (Dr 0 rfl (Ad rfl) (Dr 1 rfl (Ad rfl) (Dr 2 rfl (Ad rfl) (Dr 3 rfl (Ad rfl) (Dr 4 rfl (Rsu rfl rfl) (Dr 5 rfl (Ad rfl) (Dr 6 rfl (Ad rfl) (Dr 7 rfl (Rsu rfl rfl) (Dr 8 rfl (Runs.idxs Ev Ba ty108 rfl rfl (hsm om) om om) (Dr 10 rfl (Ad rfl) (Dr 11 rfl (Ad rfl) (Dr 12 rfl (Runs.idxs Ev Ba ty108 rfl rfl (hsm om) om om) (De (rs:=[9,13]) kr rfl rfl (Eb ?_ (Du ?_))))))))))))))))))))
    ·refine Sr rfl (B0 (α:=Ev) (xs:=zs) ty108 rfl Br om oo) Ay ?_
     refine Ds1 13 (Sr rfl (B0 (α:=Ev) (xs:=zs) ty108 rfl Br om oo) Ay ?_)
     refine Dr 14 rfl (Runs.idxs Ev Ba ty108 rfl rfl (hsm om) om om) (Ds1 15 (Se0 rfl (Cy (α:=Ev) (xs:=zs) (e:=108) (new:=⟨(at_ zs ((j:Int) - 1)).kd,(at_ zs ((j:Int) - 1)).tm,(at_ zs ((j:Int) - 1)).u,(at_ zs ((j:Int) - 1)).v,(at_ zs ((j:Int) - 1)).w,(at_ zs ((j:Int) - 1)).lb,(at_ zs ((j:Int) - 1)).sg⟩) ty108 rfl rfl rfl om oo am) ?_))
     refine Dr 16 rfl (Runs.idxs Ev Ba ty108 rfl rfl (hsm om) om om) (Ds1 17 (Se0 rfl (Cy (α:=Ev) (xs:=List.set zs ((j:Int)).toNat (⟨(at_ zs ((j:Int) - 1)).kd,(at_ zs ((j:Int) - 1)).tm,(at_ zs ((j:Int) - 1)).u,(at_ zs ((j:Int) - 1)).v,(at_ zs ((j:Int) - 1)).w,(at_ zs ((j:Int) - 1)).lb,(at_ zs ((j:Int) - 1)).sg⟩)) (e:=108) (new:=⟨(at_ zs (j:Int)).kd,(at_ zs (j:Int)).tm,(at_ zs (j:Int)).u,(at_ zs (j:Int)).v,(at_ zs (j:Int)).w,(at_ zs (j:Int)).lb,(at_ zs (j:Int)).sg⟩) ty108 rfl rfl rfl om oo am) ?_))
     exact Dz (Aj (Ai (As (S6 0 1 2 3 8 9 rfl rfl rfl rfl rfl rfl) (Aw (Gm rfl (Gr (Rsu rfl rfl) (Ga rfl (Bj (B6 ((j - 1),(List.set (List.set zs ((j:Int)).toNat (⟨(at_ zs ((j:Int) - 1)).kd,(at_ zs ((j:Int) - 1)).tm,(at_ zs ((j:Int) - 1)).u,(at_ zs ((j:Int) - 1)).v,(at_ zs ((j:Int) - 1)).w,(at_ zs ((j:Int) - 1)).lb,(at_ zs ((j:Int) - 1)).sg⟩)) ((j:Int) - 1).toNat (⟨(at_ zs (j:Int)).kd,(at_ zs (j:Int)).tm,(at_ zs (j:Int)).u,(at_ zs (j:Int)).v,(at_ zs (j:Int)).w,(at_ zs (j:Int)).lb,(at_ zs (j:Int)).sg⟩))) (by dsimp only;exact ⟨om,(by have hsw:=ins_swapG (l:=(isortG evC (xs.take i))) (r:=xs.drop (i+1)) (x:=(at_ xs (i:Int))) (show 0<j by omega) om;rw [←hzs,←hz0,←hz1 om] at hsw;rw [hz0] at hsw ⊢; rw [show (((j:Int)).toNat)=j by omega,show (((j:Int) - 1).toNat)=j - 1 by omega];exact hsw),((place_stepG om (by rw [←hz1 om,←hz0];assumption)).trans hpl)⟩))))))))))
    ·refine Sr rfl (B0 (α:=Ev) (xs:=zs) ty108 rfl Br om oo) Ay ?_
     refine Ds1 9 (Sr rfl (B0 (α:=Ev) (xs:=zs) ty108 rfl Br om oo) Ay ?_)
     refine Dr 14 rfl (Runs.idxs Ev Ba ty108 rfl rfl (hsm om) om om) (Ds1 15 (Se0 rfl (Cy (α:=Ev) (xs:=zs) (e:=108) (new:=⟨(at_ zs ((j:Int) - 1)).kd,(at_ zs ((j:Int) - 1)).tm,(at_ zs ((j:Int) - 1)).u,(at_ zs ((j:Int) - 1)).v,(at_ zs ((j:Int) - 1)).w,(at_ zs ((j:Int) - 1)).lb,(at_ zs ((j:Int) - 1)).sg⟩) ty108 rfl rfl rfl om oo am) ?_))
     refine Dr 16 rfl (Runs.idxs Ev Ba ty108 rfl rfl (hsm om) om om) (Ds1 17 (Se0 rfl (Cy (α:=Ev) (xs:=List.set zs ((j:Int)).toNat (⟨(at_ zs ((j:Int) - 1)).kd,(at_ zs ((j:Int) - 1)).tm,(at_ zs ((j:Int) - 1)).u,(at_ zs ((j:Int) - 1)).v,(at_ zs ((j:Int) - 1)).w,(at_ zs ((j:Int) - 1)).lb,(at_ zs ((j:Int) - 1)).sg⟩)) (e:=108) (new:=⟨(at_ zs (j:Int)).kd,(at_ zs (j:Int)).tm,(at_ zs (j:Int)).u,(at_ zs (j:Int)).v,(at_ zs (j:Int)).w,(at_ zs (j:Int)).lb,(at_ zs (j:Int)).sg⟩) ty108 rfl rfl rfl om oo am) ?_))
     exact Dz (Aj (Ai (As (S6 0 1 2 3 8 9 rfl rfl rfl rfl rfl rfl) (Aw (Gm rfl (Gr (Rsu rfl rfl) (Ga rfl (Bj (B6 ((j - 1),(List.set (List.set zs ((j:Int)).toNat (⟨(at_ zs ((j:Int) - 1)).kd,(at_ zs ((j:Int) - 1)).tm,(at_ zs ((j:Int) - 1)).u,(at_ zs ((j:Int) - 1)).v,(at_ zs ((j:Int) - 1)).w,(at_ zs ((j:Int) - 1)).lb,(at_ zs ((j:Int) - 1)).sg⟩)) ((j:Int) - 1).toNat (⟨(at_ zs (j:Int)).kd,(at_ zs (j:Int)).tm,(at_ zs (j:Int)).u,(at_ zs (j:Int)).v,(at_ zs (j:Int)).w,(at_ zs (j:Int)).lb,(at_ zs (j:Int)).sg⟩))) (by dsimp only;exact ⟨om,(by have hsw:=ins_swapG (l:=(isortG evC (xs.take i))) (r:=xs.drop (i+1)) (x:=(at_ xs (i:Int))) (show 0<j by omega) om;rw [←hzs,←hz0,←hz1 om] at hsw;rw [hz0] at hsw ⊢; rw [show (((j:Int)).toNat)=j by omega,show (((j:Int) - 1).toNat)=j - 1 by omega];exact hsw),((place_stepG om (by rw [←hz1 om,←hz0];assumption)).trans hpl)⟩))))))))))
   ·exact Bt (Ak (Ak (A6 (Aj (Ai (Aw (Gm rfl (Gr (Rad rfl rfl) (Ga rfl (Bj (B6 ((i+1),(zs)) (by dsimp only;exact ⟨om,(by rw [hzs];exact ins_endsG om hpl (by first|exact .inl om|(by_cases h0:j=0;(· exact .inl h0);(· exact .inr ⟨by omega,by rw [←hz0,←hz1 om];assumption⟩))))⟩))))))))))))
  ·exact Dpo 4 rfl (Dpo 5 rfl (Dpo 6 rfl (Dpo 7 rfl (Dpo 8 rfl (Dpo 9 rfl (Dpo 10 rfl (Dpo 11 rfl (Dpo 12 rfl (Dpo 13 rfl (Dpo 14 rfl (Dpo 15 rfl (Dr 16 rfl (Av rfl rfl) (Dz (Ai (As (S7 34 0 1 2 3 8 9 rfl rfl rfl rfl rfl rfl rfl) (Cx rfl (Bt (Ak (Ak (A6 (Aj (Ai (Aw (Gm rfl (Gr (Rad rfl rfl) (Ga rfl (Bj (B6 ((i+1),(zs)) (by dsimp only;exact ⟨om,(by rw [hzs];exact ins_endsG om hpl (by first|exact .inl om|(by_cases h0:j=0;(· exact .inl h0);(· exact .inr ⟨by omega,by rw [←hz0,←hz1 om];assumption⟩))))⟩)))))))))))))))))))))))))))))
 ·refine Bt (Ak (Ak (A6 ?_)))
  have hE:ys=isortG evC xs:=by rw [hy];rcases hi.2 with h|h;(· have e:i=xs.length:=om;rw [e,List.take_length,List.drop_length,List.append_nil]);(· rw [List.take_of_length_le om,List.drop_eq_nil_of_le om,List.append_nil])
  exact V.end0 rfl (vc 108 (.slice a xs.length c) (isortG evC xs)::I) (by rw [hE];exact Ay) ⟨rfl,rfl⟩
theorem StableE_ok{a:Option Addr}{c:Nat}{xs:List Ev}(hn:xs.length≤19) :
    CallS Tryz.prog κ 280 [.slice a xs.length c,I64 (((xs.length:Nat):Int)),.func (.func 230) #[] #[]] (vc 108 (.slice a xs.length c) (xs)::I) (fun r J=>r = .tuple #[]∧J=vc 108 (.slice a xs.length c) (isortG evC xs)::I):=by
 refine Ce3 Tryz.func280 rfl rfl ?_
 refine Ah (Ga rfl (Af (Ah (Gm rfl (Ga rfl (Ga rfl (Af (Ao (Ax (Bx (σ:=Nat) (fun s=>([(0,.slice a xs.length c),(1,I64 (((xs.length:Nat):Int))),(2,.func (.func 230) #[] #[]),(6,I64 (20)),(7,I64 (0)),(8,I64 (20))]:Env)) (fun s=>vc 108 (.slice a xs.length c) (xs)::I) (fun s=>True) (fun s=>0) (0) (show True from trivial) (Ac rfl (Ac rfl (Ac rfl (Ac rfl (Ac rfl (Ac rfl Bq)))))) (show Fit κ _ (vc 108 (.slice a xs.length c) (xs)::I) from Ay) ?_))))))))))
 rintro z hp
 refine Ao (Ah (Gm rfl (Gm rfl (Gr (Dw rfl rfl) (Af (A9 rfl (fun c13=>?_) (fun c13=>?_)))))))
 ·omega
 ·refine Bt (Ak (Ak (A6 (Ai (Ah (Gm rfl (Gm rfl (Gm rfl (Gm rfl (Gc1 (Am call315 rfl rfl (Cn (J:=vc 108 (.slice a xs.length c) (xs)::I) B7 (InsSortE_ok (xs:=xs) om))) ?_))))))))))
  refine Af (As (S4 0 1 2 6 rfl rfl rfl rfl) (Ax (Bx (σ:=Nat) (fun s=>([(0,.slice a xs.length c),(1,I64 (((xs.length:Nat):Int))),(2,.func (.func 230) #[] #[]),(6,I64 (20))]:Env)) (fun s=>vc 108 (.slice a xs.length c) (isortG evC xs)::I) (fun s=>True) (fun s=>0) (0) (show True from trivial) (Ac rfl (Ac rfl (Ac rfl (Ac rfl Bq)))) (show Fit κ _ (vc 108 (.slice a xs.length c) (isortG evC xs)::I) from Ay) ?_)))
  rintro z hp
  refine Ao (Ah (Gm rfl (Gm rfl (Gr (Bc rfl rfl) (Af (A9 rfl (fun c30=>?_) (fun c30=>?_)))))))
  ·omega
  ·exact Bt (Ak (Ak (A6 (V.end0 rfl (vc 108 (.slice a xs.length c) (isortG evC xs)::I) Ay ⟨rfl,rfl⟩))))
theorem SortStableE_ok{a:Option Addr}{c:Nat}{xs:List Ev}(hn:xs.length≤19) :
    CallS Tryz.prog κ 229 [.slice a xs.length c,.func (.func 230) #[] #[]] (vc 108 (.slice a xs.length c) (xs)::I) (fun r J=>r = .tuple #[]∧J=vc 108 (.slice a xs.length c) (isortG evC xs)::I):=by
 refine Ce2 Tryz.func229 rfl rfl ?_
 refine Aw (Gm rfl (Gm rfl (Gr (Bw Ba rfl) (Gm rfl (Gc1 (Am call280 rfl rfl (Cn (J:=vc 108 (.slice a xs.length c) (xs)::I) B7 (StableE_ok (xs:=xs) om))) ?_)))))
 exact Bj (V.end0 rfl (vc 108 (.slice a xs.length c) (isortG evC xs)::I) Ay ⟨rfl,rfl⟩)
theorem late_yes{kd wd:Int}{xs:List Lk}{k:Nat}(h:k<xs.length)(h1:kd=2)(h2:(at_ xs (k:Int)).tm+wd≤1048576):lateL kd wd (xs.take (k+1))=lateL kd wd (xs.take k)++[cutAt wd (at_ xs (k:Int))]:=by
 rw [lateL_take h,if_pos (show lateP kd wd (at_ xs (k:Int))=true from decide_eq_true ⟨h1,h2⟩)]
theorem late_no{kd wd:Int}{xs:List Lk}{k:Nat}(h:k<xs.length)(h1:¬kd=2∨¬(at_ xs (k:Int)).tm+wd≤1048576):lateL kd wd (xs.take (k+1))=lateL kd wd (xs.take k):=by
 rw [lateL_take h,if_neg (fun h=>by have h3:=of_decide_eq_true h;rcases h1 with h1|h1<;>omega),List.append_nil]
theorem Late_ok{nd kd wd mo:Int}{va:Value}{xs:List Lk}(hl:Sl κ I va xs)(hv:checkS nd xs=0)(hw:0≤wd∧wd≤1048576)(hsz:xs.length≤19) :
    CallS Tryz.prog κ 166 [.agg #[I64 (nd),va],.agg #[I64 (kd),I64 (wd),I64 (mo)]] I (fun r J=>∃a c,r = .slice a (isortG evC (lateL kd wd xs)).length c∧J=vc 108 (.slice a (isortG evC (lateL kd wd xs)).length c) (isortG evC (lateL kd wd xs))::I):=by
 refine B4 hl.le fun hmax=>?_
 refine Ce2 Tryz.func166 rfl rfl ?_
 refine Ah (Ge1 (Bb (cs:=[_,_]) rfl rfl rfl) fun b1=>Ge1 (Bb (cs:=[_,_,_]) rfl rfl rfl) fun b2=>Ga rfl (Af (Ah (Ga rfl (Af (Ao (Ah (Gf fld111_1 rfl (Gl ty109 ?_)))))))))
 refine Gr (Bz (α:=Lk) (xs:=xs) A3 rfl (Bf hl)) (Gm rfl (Af (Ax (Bx (σ:=Nat×(Option Addr)×Nat×(List Ev)) (fun s=>([(3,.pointer (some ⟨b2,0,none⟩)),(5,.slice s.2.1 s.2.2.2.length s.2.2.1),(10,va),(11,I64 (((xs.length:Nat):Int))),(12,I64 (((s.1:Nat):Int)))]:Env)) (fun s=>vc 108 (.slice s.2.1 s.2.2.2.length s.2.2.1) (s.2.2.2)::blk b2 [I64 (kd),I64 (wd),I64 (mo)] 31::blk b1 [I64 (nd),va] 111::I) (fun s=>(s.1≤xs.length)∧(s.2.2.2=lateL kd wd (xs.take s.1))) (fun s=>xs.length - s.1) (0,none,0,[]) (show ((0:Nat)≤xs.length)∧(([]:List Ev)=lateL kd wd (xs.take (0:Nat))) from ⟨om,rfl⟩) (Ac rfl (Ac (Cz rfl (by first|rfl|simp)) (Ac rfl (Ac rfl (Ac Cb Bq))))) (show Fit κ _ (vc 108 (.slice (none) ([]).length (0)) (([]))::blk b2 [I64 (kd),I64 (wd),I64 (mo)] 31::blk b1 [I64 (nd),va] 111::I) from (B3 _ _)) ?_))))
 rintro ⟨k,a,c,out⟩ hp
 dsimp only at hp ⊢
 obtain ⟨hk,ho⟩:=hp
 have hol:out.length≤k:=by rw [ho];have h1:=lateL_len kd wd (xs.take k);rw [List.length_take] at h1;omega
 refine Ah (Gr (Bc rfl rfl) (Af (Ao (A9 rfl (fun c13=>?_) (fun c13=>?_)))))
 ·refine A0 (Ai (Ao (Ax (Ah (Gr (A8 (α:=Lk) (xs:=xs) A3 ty146 rfl rfl (Bf hl) om om) (Gr (B0 (α:=Lk) (xs:=xs) ty146 rfl (Bf hl) om om) (Ge1 (A5 ty146 rfl) fun b3=>Ge0 (Ej ty146) ?_)))))))
  have htk:=checkS_tm hv (k:Int) om om
  refine Af (Ah (Gf fld146_5 rfl (Gl ty3 ?_)))
  refine Gf fld31_1 rfl (Gl ty3 ?_)
  refine Gr (Rad rfl rfl) (Ga rfl (Af (As (S7 8 7 3 5 10 11 12 rfl rfl rfl rfl rfl rfl rfl) (Ah (Gf fld31_0 rfl (Gl ty3 ?_))))))
  refine Gr (Bs rfl rfl) (Gm rfl (Bi (d:=24) rfl (fun g24=>?_) (fun g24=>?_)))
  ·refine Gro (Ad rfl) (Gro (Dw rfl rfl) (Gr (Ap rfl rfl) (Af (As (S8 27 8 7 3 5 10 11 12 rfl rfl rfl rfl rfl rfl rfl rfl) (A9 rfl (fun c27=>?_) (fun c27=>?_))))))
   ·refine Aw (Gm rfl (Gm rfl (Gf fld146_0 rfl (Gl ty3 ?_))))
    refine Gf fld146_1 rfl (Gl ty3 ?_)
    refine Gr (Be (cells:=[_,_,_,_,_,_,_]) ty108 Do pl108 rfl rfl) (Ge1 (B9 (α:=Ev) (cs:=[I64 (2),I64 (((at_ xs (k:Int)).tm)+wd),I64 ((at_ xs (k:Int)).u),I64 ((at_ xs (k:Int)).v),I64 (0),I64 (0),I64 (0)]) (xs:=[⟨2,((at_ xs (k:Int)).tm)+wd,(at_ xs (k:Int)).u,(at_ xs (k:Int)).v,0,0,0⟩]) Ba ty108 rfl rfl dc dc rfl kr rfl rfl) fun ad4=>?_)
    refine Ge2 (Ca (α:=Ev) (e:=108) (xs:=out) (ys:=([⟨2,((at_ xs (k:Int)).tm)+wd,(at_ xs (k:Int)).u,(at_ xs (k:Int)).v,0,0,0⟩]:List Ev)) Ba ty108 rfl rfl rfl mm Br lcn dc rfl (fun _ _=>am)) fun ad5 cp6=>?_
    exact Ga rfl (Bj (Aj (Ai (As (S5 5 3 10 11 12 rfl rfl rfl rfl rfl) (Aw (Gr (Rad rfl rfl) (Gm rfl (Bj (B6 ((k+1),(ad5),(cp6),(out++([⟨2,((at_ xs (k:Int)).tm)+wd,(at_ xs (k:Int)).u,(at_ xs (k:Int)).v,0,0,0⟩]:List Ev))) (by dsimp only;exact ⟨om,(by first|(rw [late_yes om g24 asm,←ho];rfl)|(rw [late_no om (.inl g24),←ho])|(rw [late_no om (.inr asm),←ho]))⟩))))))))))
   ·exact A0 (Aj (Ai (Aw (Gr (Rad rfl rfl) (Gm rfl (Bj (B6 ((k+1),(a),(c),(out)) (by dsimp only;exact ⟨om,(by first|(rw [late_yes om g24 asm,←ho];rfl)|(rw [late_no om (.inl g24),←ho])|(rw [late_no om (.inr asm),←ho]))⟩))))))))
  ·exact Gpo (Gpo (Gr (Av rfl rfl) (Af (As (S8 27 8 7 3 5 10 11 12 rfl rfl rfl rfl rfl rfl rfl rfl) (Cx rfl (A0 (Aj (Ai (Aw (Gr (Rad rfl rfl) (Gm rfl (Bj (B6 ((k+1),(a),(c),(out)) (by dsimp only;exact ⟨om,(by first|(rw [late_yes om g24 asm,←ho];rfl)|(rw [late_no om (.inl g24),←ho])|(rw [late_no om (.inr asm),←ho]))⟩))))))))))))))
 ·refine Bt (Ak (Ak (A6 (Ai (Ah (Gm rfl (Gc1 (Am call229 rfl rfl (Cn (J:=vc 108 (.slice a out.length c) (out)::blk b2 [I64 (kd),I64 (wd),I64 (mo)] 31::blk b1 [I64 (nd),va] 111::I) B7 (SortStableE_ok (xs:=out) om))) ?_)))))))
  refine Af (Ah (Gm rfl (Ga rfl (Af (A2 ?_)))))
  have hE:out=lateL kd wd xs:=by rw [ho,List.take_of_length_le om]
  have hEl:(isortG evC out).length=out.length:=(isort_permG evC out).length_eq
  exact A7 rfl rfl (vc 108 (.slice a (isortG evC (lateL kd wd xs)).length c) (isortG evC (lateL kd wd xs))::I) (by rw [←hE,hEl];exact B7) ⟨a,c,by rw [←hE,hEl],rfl⟩
end Go.Sl
namespace Go.Sl
open Go.RowKit (Below)
section
variable {P:Program}{κ:Ctx}{N:Frm}{Q:Exit→Act→World→Prop}{L:Env}{I J:List Item}{ops:Array Oper}{l m:Nat}
theorem WR.cond{c:Operand}{x y:Code}{t:Bool}(hc:evalO L c=some (.bool t))(h1:t=true→WR P κ N l m x Q L I)(h2:t=false→WR P κ N l m y Q L I):WR P κ N l m (.cond c x y) Q L I:=
 fun a w ha hs=>wpIn_cond_split (ha.eval hc) (fun h=>h1 h a w ha hs) (fun h=>h2 h a w ha hs)
theorem WR.ite{c:Operand}{x y:Code}{p:Prop}[Decidable p](hc:evalO L c=some (.bool (decide p)))(h1:p→WR P κ N l m x Q L I)(h2:¬p→WR P κ N l m y Q L I):WR P κ N l m (.cond c x y) Q L I:=
 WR.cond hc (fun h=>h1 (of_decide_eq_true h)) (fun h=>h2 (of_decide_eq_false h))
theorem WR.no{c:Operand}{x y:Code}(hc:evalO L c=some (.bool false))(h:WR P κ N l m y Q L I):WR P κ N l m (.cond c x y) Q L I:=WR.cond hc (fun e=>by cases e) (fun _=>h)
theorem WR.skip(h:V κ N Q .normal L I):WR P κ N l m .skip Q L I:=fun a w ha hs=>wpIn_skip (h a w ha hs)
theorem WR.exit{id:Nat}(h:V κ N Q (.exit id) L I):WR P κ N l m (.exit id) Q L I:=fun a w ha hs=>wpIn_exit (h a w ha hs)
theorem WR.ret(h:V κ N Q .ret L I):WR P κ N l m .ret Q L I:=fun a w ha hs=>wpIn_ret (h a w ha hs)
def YieldB(P:Program)(κ:Ctx)(l:Nat)(args:List Value)(I:List Item)(Post:Bool→List Item→Prop):Prop:=∀w,Sep κ w I→YieldAt Fence.wide 0 P l args.toArray w fun e w'=>∃b,e = .returned (.bool b)∧∃J,Post b J∧Sep κ w' J
theorem V.roundB{r:Loop}{Post:Bool→List Item→Prop}(J:List Item)(hf:Fit κ I (recI l {r with state:= .busy}::J))(hp:r.state = .ready∧r.pending=none)(hP:Post true (recI l r::J)):V κ N (roundPost P l fun e w'=>∃b,e = .returned (.bool b)∧∃K,Post b K∧Sep κ w' K) .normal L I:=fun a w ha hs=>by
 have hs':=hf w hs
 have hl:=(hs'.ok _ List.mem_cons_self).1
 refine ⟨_,_,run_endRound none hl,true,rfl,?_⟩
 have e:({({r with state:= .busy}:Loop) with state:=if (none:Option Code).isNone then .ready else .done,pending:=none}:Loop)=r:=by
  obtain ⟨h1,h2⟩:=hp
  cases r;simp_all
 rw [e]
 exact ⟨_,hP,hs'.putRec⟩
theorem V.roundX{r:Loop}{Post:Bool→List Item→Prop}{id:Nat}(J:List Item)(hf:Fit κ I (recI l {r with state:= .busy}::J))(hP:Post false (recI l {r with state:= .done,pending:=some (.exit id)}::J)):V κ N (roundPost P l fun e w'=>∃b,e = .returned (.bool b)∧∃K,Post b K∧Sep κ w' K) (.exit id) L I:=fun a w ha hs=>by
 have hs':=hf w hs
 have hl:=(hs'.ok _ List.mem_cons_self).1
 exact ⟨_,_,run_endRound (some (.exit id)) hl,false,rfl,_,hP,hs'.putRec⟩
theorem V.roundRet{r:Loop}{Post:Bool→List Item→Prop}(J:List Item)(hf:Fit κ I (recI l {r with state:= .busy}::J))(hP:Post false (recI l {r with state:= .done,pending:=some .ret}::J)):V κ N (roundPost P l fun e w'=>∃b,e = .returned (.bool b)∧∃K,Post b K∧Sep κ w' K) .ret L I:=fun a w ha hs=>by
 have hs':=hf w hs
 have hl:=(hs'.ok _ List.mem_cons_self).1
 exact ⟨_,_,run_endRound (some .ret) hl,false,rfl,_,hP,hs'.putRec⟩
theorem YieldB.mk{r:Loop}{Post:Bool→List Item→Prop}{args:List Value}{L₁:Env}(hps:args.length=r.params.size)(hrd:r.state = .ready∧r.pending=none){body:Code}(hb:r.body=body)
  (hassign:∀(w:World) (K:Act→World→Prop),(∀a₁,Ag N a₁ L₁→K a₁ w)→r.assign.wpIn (Fence.wide.inRound l) 0 P (Exit.then K (fun _ _ _=>False)) {tmps:=(r.params.zip args.toArray).foldl (fun t (p,v)=>t.setIfInBounds p v) r.tmps,defers:=[]} w)
  (hbody:WR P κ N l 0 body (roundPost P l fun e w'=>∃b,e = .returned (.bool b)∧∃K,Post b K∧Sep κ w' K) L₁ (recI l {r with state:= .busy}::I)) :
  YieldB P κ l args (recI l r::I) Post:=fun w hs=>by
 have hl:=(hs.ok _ List.mem_cons_self).1
 refine ⟨_,_,_,_,run_yield hl (by simpa using hps),roundIn_of_wpIn trivial ?_⟩
 refine hassign w _ fun a₁ ha=>⟨_,run_beginRound hl hrd.1,?_⟩
 have h:=hbody a₁ _ ha hs.putRec
 rw [←hb] at h
 exact h
theorem fold_two(tm:Array Value)(p q:Tmp)(v u:Value):(#[p,q].zip [v,u].toArray).foldl (fun t (p,v)=>t.setIfInBounds p v) tm=(tm.setIfInBounds p v).setIfInBounds q u:=by simp
theorem GY.yieldB{rest:List Oper}{Post:Bool→List Item→Prop}{l dd:Nat}{x:Operand}{xs:List Operand}{vs:List Value}{ats:Array TypeId}{ty:TypeId}{ps:String}{af:Array Edge}{gd:Option (Nat×Bool)}
  (hw:Wanted N ops ⟨some dd,.call {callee:= .value x,args:=xs.toArray,argTypes:=ats},ty,ps,af,gd⟩ L) (hfv:evalO L x=some (.func (.yield l) #[] #[])) (hx:evalL L xs=some vs) (hN:Nat.blt dd N.n=true) (hy:YieldB P κ l vs I Post)
  (h:∀b J,Post b J→GY P κ N ops Q rest ((dd,.bool b)::L) J):GY P κ N ops Q (⟨some dd,.call {callee:= .value x,args:=xs.toArray,argTypes:=ats},ty,ps,af,gd⟩::rest) L I:=fun a w ha hs=>by
 obtain ⟨fn,tmps,assign,body,hyr,hR⟩:=hy w hs
 have he:(execOp a.eval ⟨some dd,.call {callee:= .value x,args:=xs.toArray,argTypes:=ats},ty,ps,af,gd⟩).run P w = .ok (.round l fn tmps assign body) w:=by
  simp only [execOp,resolve,ha.eval hfv,Deferred.ofValue,invoke,Sem.run_bind,Sem.run_pure,Result.andThen_ok,List.map_toArray,ha.evalL hx]
  simpa using hyr
 unfold wpListIn
 rw [if_pos (hw a ha)]
 refine ⟨fun _ _=>trivial,?_⟩
 simp only [Fence.wide_round,Oper.semAt_none,he,Oper.uponIn]
 refine ⟨fun hd=>by simp [Fence.wide] at hd,hR.mono fun e w' ⟨b,h1,J,hP,h2⟩=>?_⟩
 subst h1
 exact h b J hP _ w' (ha.put dd hN _) h2
theorem GY.pass{o:Oper}{rest:List Oper}{d:Nat}(hw:Unwanted N ops o L)(hd:o.dst=some d)(hN:Nat.blt d N.n=true)(h:GY P κ N ops Q rest ((d,undef)::L) I):GY P κ N ops Q (o::rest) L I:=
 fun a w ha hs=>by
  unfold wpListIn
  rw [if_neg (by simp [hw a ha])]
  rw [hd]
  exact ⟨fun _ _=>trivial,h _ w (ha.put d hN _) hs⟩
theorem YieldB.fit{l:Nat}{args:List Value}{Post:Bool→List Item→Prop}(hf:Fit κ I J)(h:YieldB P κ l args J Post):YieldB P κ l args I Post:=fun w hs=>h w (hf w hs)
theorem perm_fr{A L T:List Item}:(A++(L++T)).Perm (L++(A++T)):=by
 rw [←List.append_assoc,←List.append_assoc];exact List.perm_append_comm.append_right T
theorem W.rangeFnB{g:Operand}{ps:Array Tmp}{assign body:Code}{gf:FuncId}{lb:List Value}(hg:evalO L g=some (.func (.func gf) #[] lb.toArray))(hc:callable P gf=true)
  (h:∀(D l:Nat) (r:Loop),(r.state = .ready∧r.pending=none)→r.params=ps→r.assign=assign→r.body=body→Ag ⟨N.n,[]⟩ {tmps:=r.tmps,defers:=[]} L→
   CallS P κ gf (.func (.yield l) #[] #[]::lb) (recI l r::dfrI D::I) fun v K=>
    (∃J,K=recI l r::dfrI D::J∧V κ ⟨N.n,markD D::N.ds⟩ Q .normal L (dfrI D::J))∨
    ∃c J,K=recI l {r with state:= .done,pending:=some c}::dfrI D::J∧W P κ ⟨N.n,markD D::N.ds⟩ c Q L (dfrI D::J)) :
  W P κ N (.rangeFunc g ps assign body) Q L I:=fun a w ha hs=>by
 refine (wpIn_wide (n:=0)).1 (wpIn_rangeFunc ?_)
 intro fn _
 obtain ⟨r,hr⟩:∃r:Loop,r={state:= .ready,pending:=none,fn,tmps:=a.tmps,params:=ps,assign,body,defers:=w.heap.size}:=⟨_,rfl⟩
 obtain ⟨W1,hW1⟩:∃W1,(w.alloc (.deferred (some []))).alloc (.loop r)=W1:=⟨_,rfl⟩
 have hD1:(w.alloc (.deferred (some []))).heap[w.heap.size]? = some (.deferred (some [])):=World.alloc_heap_new w _
 have s1:Sep κ (w.alloc (.deferred (some []))) (dfrI w.heap.size::I):=hs.new (hs.alloc _) hD1 fun k hk=>by obtain rfl:k=_:=hk;exact ⟨Nat.le_refl _,by simp⟩
 have hL1:W1.heap[w.heap.size+1]? = some (.loop r):=by
  rw [←hW1];have:=World.alloc_heap_new (w.alloc (.deferred (some []))) (.loop r);rwa [World.size_alloc] at this
 have s2:Sep κ W1 (recI (w.heap.size+1) r::dfrI w.heap.size::I):=by
  rw [←hW1]
  exact s1.new (s1.alloc _) (by rw [hW1];exact hL1) fun k hk=>by obtain rfl:k=_:=hk;exact ⟨by simp,by simp⟩
 have hcall:=h w.heap.size (w.heap.size+1) r (by rw [hr];exact ⟨rfl,rfl⟩) (by rw [hr]) (by rw [hr]) (by rw [hr]) ⟨rfl,by rw [hr];exact ha.size,by rw [hr];exact ha.get⟩ W1 s2
 refine ⟨w.heap.size+1,[markD w.heap.size],W1,{target:= .fn (.func gf) lb.toArray,args:= #[.func (.yield (w.heap.size+1)) #[] #[]]},W1,gf, #[.func (.yield (w.heap.size+1)) #[] #[]]++lb.toArray,W1,?_,?_,fun _ _=>trivial,?_,fun hd=>by simp [Fence.wide] at hd,?_⟩
 ·rw [←hW1,hr];exact run_enterLoop_outer _ _ _ _ _
 ·simp only [resolve,ha.eval hg]
  simp [go_sem]
 ·simp [invoke,go_sem,run_callFunc hc]
 ·refine callsIn_wide.2 ?_
  have e1:(#[.func (.yield (w.heap.size+1)) #[] #[]]++lb.toArray:Array Value)=(Value.func (.yield (w.heap.size+1)) #[] #[]::lb).toArray:=by simp
  rw [e1]
  have hag:∀(N':Frm) (t:Array Value),True→True:=fun _ _ _=>trivial
  refine hcall.mono fun e w' ⟨v,K,he,hK,hs'⟩=>?_
  subst he
  rcases hK with ⟨J,hK,hV⟩|⟨c,J,hK,hW⟩
  ·subst hK
   have hl:=(hs'.ok _ List.mem_cons_self).1
   have hst:r.state ≠ .busy:=by rw [hr];exact fun h=>by cases h
   refine ⟨_,_,run_endLoop hl hst,?_⟩
   have hp:r.pending=none:=by rw [hr]
   rw [hp]
   exact hV _ _ ⟨by show [markD w.heap.size]++a.defers=_;rw [ha.defers];rfl,ha.size,ha.get⟩ hs'.putRec.tail
  ·subst hK
   have hl:=(hs'.ok _ List.mem_cons_self).1
   refine ⟨_,_,run_endLoop hl (fun h=>by cases h),?_⟩
   exact wpIn_wide.2 (hW _ _ ⟨by show [markD w.heap.size]++a.defers=_;rw [ha.defers];rfl,ha.size,ha.get⟩ hs'.putRec.tail)
end
end Go.Sl
/- Searching what is left of a network: the plain law of the search by layers. No Go. -/
namespace Go.Sl
section
variable (n:Net)(f out:List Int)
def un:Nat:=out.count (-1)
end
section
variable {n:Net}{f out todo:List Int}{x:Int}{k1 k2:Nat}
theorem un_set{y i:Int}(hy:0≤y∧y<out.length)(h:at_ out y = -1)(hi:i ≠ -1):un (out.set y.toNat i)+1=un out:=by
 unfold un
 have hl:y.toNat<out.length:=by omega
 have hg:out[y.toNat] = -1:=by rw [at_eq hy.1 hy.2] at h;exact h
 rw [List.count_set hl]
 have hpos:0<out.count (-1):=List.count_pos_iff.2 (hg▸List.getElem_mem hl)
 have e1:(out[y.toNat]==(-1:Int))=true:=by simp [hg]
 have e2:(i==(-1:Int))=false:=by simpa using hi
 rw [e1,e2]
 simp only [if_true,Bool.false_eq_true,if_false]
 omega
end
end Go.Sl
/- Flows and cuts: the plain law. No Go. -/
namespace Go.Sl
def netF(n:Net)(f:List Int)(v:Int):Int:=
 sumN n.arcs.length fun k=>(if (at_ n.arcs (k:Int)).frm=v then at_ f (k:Int) else 0) - (if (at_ n.arcs (k:Int)).dst=v then at_ f (k:Int) else 0)
structure IsFlow (n:Net) (f:List Int):Prop where
 len:f.length=n.arcs.length
 cap:∀k:Nat,k<n.arcs.length→0≤at_ f (k:Int)∧at_ f (k:Int)≤(at_ n.arcs (k:Int)).cap
 cons:∀v,0≤v→v<n.nodes→v≠n.source→v≠n.sink→netF n f v=0
def cutS(n:Net)(S:Int→Bool):Int:=sumN n.arcs.length fun k=>if S (at_ n.arcs (k:Int)).frm && !S (at_ n.arcs (k:Int)).dst then (at_ n.arcs (k:Int)).cap else 0
theorem arc_at{n:Net}(hok:n.Ok){k:Nat}(hk:k<n.arcs.length):(0≤(at_ n.arcs (k:Int)).frm∧(at_ n.arcs (k:Int)).frm<n.nodes)∧(0≤(at_ n.arcs (k:Int)).dst∧(at_ n.arcs (k:Int)).dst<n.nodes)∧(at_ n.arcs (k:Int)).frm≠(at_ n.arcs (k:Int)).dst∧0≤(at_ n.arcs (k:Int)).cap∧(at_ n.arcs (k:Int)).cap≤1099511627776:=
 hok.arc _ (Ck om om)
theorem sumN_ind{m:Nat}{v:Int}(h0:0≤v)(h1:v<m)(S:Int→Bool)(c:Int):sumN m (fun j=>if S (j:Int) then (if v=(j:Int) then c else 0) else 0)=if S v then c else 0:=by
 have e:v=((v.toNat:Nat):Int):=by omega
 rw [Di m (h:=fun j=>if j=v.toNat then (if S v then c else 0) else 0) fun j hj=>?_]
 ·exact sumN_at om _
 ·by_cases hj:j=v.toNat
  ·subst hj;rw [if_pos rfl,←e,if_pos rfl]
  ·rw [if_neg hj,if_neg (show ¬v=(j:Int) by omega)];split<;>rfl
theorem value_cut{n:Net}(hok:n.Ok){f:List Int}(hf:IsFlow n f)(S:Int→Bool)(hs:S n.source=true)(ht:S n.sink=false) :
  netF n f n.source=sumN n.arcs.length fun k=>(if S (at_ n.arcs (k:Int)).frm && !S (at_ n.arcs (k:Int)).dst then at_ f (k:Int) else 0) - (if S (at_ n.arcs (k:Int)).dst && !S (at_ n.arcs (k:Int)).frm then at_ f (k:Int) else 0):=by
 have hsrc:=hok.src
 -- the sum of what goes out of the nodes of S
 have h1:sumN n.nodes.toNat (fun v=>if S (v:Int) then netF n f (v:Int) else 0)=netF n f n.source:=by
  rw [Di n.nodes.toNat (h:=fun j=>if j=n.source.toNat then netF n f n.source else 0) fun j hj=>?_]
  ·exact sumN_at om _
  ·by_cases hj':j=n.source.toNat
   ·subst hj'
    rw [if_pos rfl,show ((n.source.toNat:Nat):Int)=n.source from by omega,hs];simp
   ·rw [if_neg hj']
    by_cases hS:S (j:Int)=true
    ·rw [if_pos hS]
     refine hf.cons _ om om (fun e=>hj' om) fun e=>?_
     rw [e,ht] at hS;cases hS
    ·rw [if_neg hS]
 rw [←h1]
 have h2:sumN n.nodes.toNat (fun v=>if S (v:Int) then netF n f (v:Int) else 0) =
   sumN n.nodes.toNat (fun v=>sumN n.arcs.length fun k=>(if S (v:Int) then (if (at_ n.arcs (k:Int)).frm=(v:Int) then at_ f (k:Int) else 0) else 0) - (if S (v:Int) then (if (at_ n.arcs (k:Int)).dst=(v:Int) then at_ f (k:Int) else 0) else 0)):=
  Di _ fun v _=>by
   by_cases hS:S (v:Int)=true
   ·rw [if_pos hS];unfold netF
    exact Di _ fun k _=>by rw [if_pos hS,if_pos hS]
   ·rw [if_neg hS]
    exact (sumN_eq_zero _ fun k _=>by rw [if_neg hS,if_neg hS];rfl).symm
 rw [h2,sumN_swap]
 refine Di _ fun k hk=>?_
 have ha:=arc_at hok hk
 rw [sumN_sub,sumN_ind ha.1.1 om,sumN_ind ha.2.1.1 om]
 cases S (at_ n.arcs (k:Int)).frm<;>cases S (at_ n.arcs (k:Int)).dst<;>simp
theorem value_le{n:Net}(hok:n.Ok){f:List Int}(hf:IsFlow n f)(S:Int→Bool)(hs:S n.source=true)(ht:S n.sink=false):netF n f n.source≤cutS n S:=by
 rw [value_cut hok hf S hs ht]
 refine sumN_le _ fun k hk=>?_
 have hc:=hf.cap k hk
 cases S (at_ n.arcs (k:Int)).frm<;>cases S (at_ n.arcs (k:Int)).dst<;>simp<;>omega
def Shut(n:Net)(f:List Int)(S:Int→Bool):Prop:=∀k:Nat,k<n.arcs.length→
 (S (at_ n.arcs (k:Int)).frm=true→at_ f (k:Int)<(at_ n.arcs (k:Int)).cap→S (at_ n.arcs (k:Int)).dst=true)∧
 (S (at_ n.arcs (k:Int)).dst=true→0<at_ f (k:Int)→S (at_ n.arcs (k:Int)).frm=true)
theorem shut_value{n:Net}(hok:n.Ok){f:List Int}(hf:IsFlow n f){S:Int→Bool}(hs:S n.source=true)(ht:S n.sink=false):netF n f n.source=cutS n S↔Shut n f S:=by
 rw [value_cut hok hf S hs ht]
 have hle:∀k,k<n.arcs.length→((if S (at_ n.arcs (k:Int)).frm && !S (at_ n.arcs (k:Int)).dst then at_ f (k:Int) else 0) - (if S (at_ n.arcs (k:Int)).dst && !S (at_ n.arcs (k:Int)).frm then at_ f (k:Int) else 0))≤(if S (at_ n.arcs (k:Int)).frm && !S (at_ n.arcs (k:Int)).dst then (at_ n.arcs (k:Int)).cap else 0):=fun k hk=>by
  have hc:=hf.cap k hk
  cases S (at_ n.arcs (k:Int)).frm<;>cases S (at_ n.arcs (k:Int)).dst<;>simp<;>omega
 constructor
 ·intro h k hk
  have:=sumN_eq_terms _ hle h k hk
  have hc:=hf.cap k hk
  revert this
  cases h1:S (at_ n.arcs (k:Int)).frm<;>cases h2:S (at_ n.arcs (k:Int)).dst<;>simp<;>omega
 ·intro h
  refine Di _ fun k hk=>?_
  have hc:=hf.cap k hk
  have:=h k hk
  revert this
  cases h1:S (at_ n.arcs (k:Int)).frm<;>cases h2:S (at_ n.arcs (k:Int)).dst<;>simp<;>omega
end Go.Sl
/- Sending along a way: the plain law. No Go. -/
namespace Go.Sl
section
variable {n:Net}{f out:List Int}{rk:Int→Nat}
theorem netF_set{k:Nat}(hk:k<n.arcs.length){f1:List Int}(hl:f1.length=n.arcs.length)(c v:Int) :
  netF n (f1.set k c) v=netF n f1 v+(if (at_ n.arcs (k:Int)).frm=v then c - at_ f1 (k:Int) else 0) - (if (at_ n.arcs (k:Int)).dst=v then c - at_ f1 (k:Int) else 0):=by
 have hat:∀j:Nat,at_ (f1.set k c) (j:Int)=if k=j then c else at_ f1 (j:Int):=fun j=>at_setn f1 k j c om
 unfold netF
 rw [sumN_upd hk (g:=fun k=>(if (at_ n.arcs (k:Int)).frm=v then at_ f1 (k:Int) else 0) - (if (at_ n.arcs (k:Int)).dst=v then at_ f1 (k:Int) else 0)) (fun j hj hjk=>by simp only [hat j,if_neg (fun e=>hjk e.symm:¬k=j)])]
 simp only [hat k,if_true]
 split<;>split<;>omega
theorem at_all{p:Int→Prop}{i:Int}{m:Nat}(h:∀k:Nat,k<m→p (k:Int))(h0:0≤i)(hi:i<m):p i:=by
 have:=h i.toNat om
 rwa [show ((i.toNat:Nat):Int)=i from by omega] at this
theorem arc_ok(hok:n.Ok){i:Int}(h0:0≤i)(hi:i<n.arcs.length):(0≤(at_ n.arcs i).frm∧(at_ n.arcs i).frm<n.nodes)∧(0≤(at_ n.arcs i).dst∧(at_ n.arcs i).dst<n.nodes)∧(at_ n.arcs i).frm≠(at_ n.arcs i).dst∧0≤(at_ n.arcs i).cap∧(at_ n.arcs i).cap≤1099511627776:=hok.arc _ (Ck h0 hi)
theorem cap_ok(hf:∀k:Nat,k<n.arcs.length→0≤at_ f (k:Int)∧at_ f (k:Int)≤(at_ n.arcs (k:Int)).cap){i:Int}(h0:0≤i)(hi:i<n.arcs.length):0≤at_ f i∧at_ f i≤(at_ n.arcs i).cap:=at_all (p:=fun i=>0≤at_ f i∧at_ f i≤(at_ n.arcs i).cap) hf h0 hi
end
end Go.Sl
/- The least and the greatest side of a cut: the plain law. No Go. -/
namespace Go.Sl
structure Great (n:Net) (f:List Int) (T:Int→Bool):Prop where
 src:T n.source=true
 snk:T n.sink=false
 shut:Shut n f T
 great:∀S:Int→Bool,Shut n f S→S n.sink=false→∀z,0≤z→z<n.nodes→S z=true→T z=true
section
variable {n:Net}{f g:List Int}{R R':Int→Bool}
theorem Great.value(hok:n.Ok)(hf:IsFlow n f)(h:Great n f R):netF n f n.source=cutS n R:=(shut_value hok hf h.src h.snk).2 h.shut
end
theorem cut_nonneg_le{n:Net}(hok:n.Ok)(S:Int→Bool):0≤cutS n S∧cutS n S≤18014398509481984:=by
 have h:∀m:Nat,m≤n.arcs.length→0≤sumN m (fun k=>if S (at_ n.arcs (k:Int)).frm && !S (at_ n.arcs (k:Int)).dst then (at_ n.arcs (k:Int)).cap else 0)∧sumN m (fun k=>if S (at_ n.arcs (k:Int)).frm && !S (at_ n.arcs (k:Int)).dst then (at_ n.arcs (k:Int)).cap else 0)≤(m:Int)*1099511627776:=fun m=>by
  induction m with
  |zero=>intro _;simp [sumN]
  |succ m ih=>
   intro hm
   have:=ih om
   have:=arc_at hok (k:=m) om
   simp only [sumN]
   split<;>omega
 have:=h n.arcs.length (Nat.le_refl _)
 have:=hok.lim
 unfold cutS
 omega
theorem flow_zero(n:Net)(hok:n.Ok):IsFlow n (List.replicate n.arcs.length (0:Int))∧netF n (List.replicate n.arcs.length (0:Int)) n.source=0:=by
 have h0:∀k:Nat,k<n.arcs.length→at_ (List.replicate n.arcs.length (0:Int)) (k:Int)=0:=fun k hk=>at_rep _ _ _ om om
 have hn:∀v,netF n (List.replicate n.arcs.length (0:Int)) v=0:=fun v=>sumN_eq_zero _ fun k hk=>by rw [h0 k hk];simp
 exact ⟨⟨by simp,fun k hk=>by rw [h0 k hk];have:=arc_at hok hk;omega,fun v _ _ _ _=>hn v⟩,hn _⟩
end Go.Sl
/- Searching back from the sink: the plain law. No Go. -/
namespace Go.Sl
end Go.Sl
/- What a check of a flow accepts: the plain law. No Go. -/
namespace Go.Sl
end Go.Sl
/- Networks with one arc more, and turned round; sets between the least and the greatest side: the plain law. No Go. -/
namespace Go.Sl
end Go.Sl
namespace Go.Sl
open Go.Proofs
set_option maxRecDepth 4000
theorem intLin:LinO (fun a b:Int=>a<b):=⟨fun a h=>by omega,fun a b c h1 h2=>by omega,fun a b=>by omega⟩
theorem putL_eq(x:Int):∀l,putL l x=insB (fun a b:Int=>a<b) l x
 |[]=>rfl
 |y::ys=>by simp only [putL,insB,putL_eq x ys]
theorem ofL_eq(l:List Int):ofL l=sortB (fun a b:Int=>a<b) l:=by
 unfold ofL sortB
 congr 1
 funext acc x
 exact putL_eq x acc
theorem ofL_asc(l:List Int):(ofL l).Pairwise (fun a b:Int=>a<b):=by rw [ofL_eq];exact intLin.sortB l
theorem ValidP_iff{l:List Int}{N:Int}:ValidP l N↔(∀x∈l,0≤x∧x<N)∧l.Pairwise (fun a b:Int=>a<b):=by
 constructor
 ·intro h
  refine ⟨fun x hx=>ValidP_mem h hx,pairwise_next intLin.tr fun i hi=>?_⟩
  have:=(h (i+1) hi).2 om
  rwa [show ((i+1:Nat):Int) - 1=(i:Int) from by omega] at this
 ·rintro ⟨h1,h2⟩ j hj
  refine ⟨h1 _ (Ck om om),fun h0=>?_⟩
  have:=(pairwise_at l).1 h2 (j - 1) j om hj
  rwa [show ((j - 1:Nat):Int)=(j:Int) - 1 from by omega] at this
end Go.Sl
/- Cuts of graphs: how many edges a set separates; least cuts; which nodes few edges cannot separate. No Go. No conditions. -/
namespace Go.Sl
theorem sumN_list{α:Type}[Inhabited α](g:α→Int)(l:List α):sumN l.length (fun k=>g (at_ l (k:Int)))=(l.map g).sum:=by
 have key:∀m,m≤l.length→sumN m (fun k=>g (at_ l (k:Int)))=((l.take m).map g).sum:=fun m=>by
  induction m with
  |zero=>intro _;simp [sumN]
  |succ m ih=>
   intro hm
   rw [Db l m om,List.map_append,List.sum_append,←ih om]
   simp [sumN]
 have:=key l.length (Nat.le_refl _)
 rwa [List.take_length] at this
end Go.Sl
namespace Go.Sl
theorem mem_andB{a b:BitVec 64}{u:Int}:u∈listB (a &&& b)↔u∈listB a∧u∈listB b:=by
 simp only [mem_listB,BitVec.getLsbD_and,Bool.and_eq_true]
 constructor
 ·rintro ⟨h1,h2,h3⟩;exact ⟨⟨h1,h2⟩,h1,h3⟩
 ·rintro ⟨⟨h1,h2⟩,_,h3⟩;exact ⟨h1,h2,h3⟩
theorem listB_lt{m:BitVec 64}{u:Int}(h:u∈listB m):0≤u∧u<64:=by
 rw [mem_listB] at h
 refine ⟨h.1,Classical.byContradiction fun hn=>?_⟩
 rw [BitVec.getLsbD_of_ge _ _ (by omega)] at h
 exact absurd h.2 (by simp)
theorem mem_orbit{m:BitVec 64}{u k:Int}(h0:0≤k)(h1:k<64):u∈listB (m ||| 1#64 <<< k.toNat)↔u∈listB m∨u=k:=by
 constructor
 ·intro h
  have hu:=listB_lt h
  rw [mem_listB,BitVec.getLsbD_or,getLsb_shl _ _ (by omega),Bool.or_eq_true,decide_eq_true_eq] at h
  rw [mem_listB]
  rcases h.2 with h2|h2
  ·exact .inl ⟨h.1,h2⟩
  ·exact .inr (by omega)
 ·intro h
  have hu:0≤u∧u<64:=h.elim listB_lt fun h=>by omega
  rw [mem_listB,BitVec.getLsbD_or,getLsb_shl _ _ (by omega),Bool.or_eq_true,decide_eq_true_eq]
  rw [mem_listB] at h
  exact ⟨hu.1,h.elim (fun h=> .inl h.2) fun h=> .inr (by omega)⟩
theorem mem_minus{m:BitVec 64}{u k:Int}(h0:0≤k):u∈listB (m &&& ~~~(1#64 <<< k.toNat))↔u∈listB m∧u≠k:=by
 constructor
 ·intro h
  have hu:=listB_lt h
  rw [mem_listB,BitVec.getLsbD_and,BitVec.getLsbD_not,getLsb_shl _ _ (by omega),Bool.and_eq_true] at h
  rw [mem_listB]
  refine ⟨⟨h.1,h.2.1⟩,fun e=>?_⟩
  have h3:=h.2.2
  rw [e] at h3
  simp at h3
 ·rintro ⟨h,hne⟩
  have hu:=listB_lt h
  rw [mem_listB] at h
  rw [mem_listB,BitVec.getLsbD_and,BitVec.getLsbD_not,getLsb_shl _ _ (by omega),Bool.and_eq_true]
  refine ⟨h.1,h.2,?_⟩
  rw [decide_eq_false (show ¬k.toNat=u.toNat by omega)]
  simp;omega
theorem listB_nodup(m:BitVec 64):(listB m).Nodup:=(listB_asc m).imp fun h=>by omega
theorem listB_perm{m:BitVec 64}{k:Int}(h:k∈listB m):(listB m).Perm (k::listB (m &&& ~~~(1#64 <<< k.toNat))):=by
 have h0:=(listB_lt h).1
 refine (List.perm_ext_iff_of_nodup (listB_nodup _) (List.nodup_cons.2 ⟨fun e=>((mem_minus h0).1 e).2 rfl,listB_nodup _⟩)).2 fun u=>?_
 rw [List.mem_cons,mem_minus h0]
 by_cases e:u=k
 ·subst e;simp [h]
 ·simp [e]
theorem listB_minus{m:BitVec 64}{k:Int}(h:k∈listB m):(listB m).length=(listB (m &&& ~~~(1#64 <<< k.toNat))).length+1:=(listB_perm h).length_eq
theorem nz_listB{m:BitVec 64}:m≠0#64↔∃u,u∈listB m:=by
 constructor
 ·intro h;exact ⟨_,by rw [listB_step h];exact List.mem_cons_self⟩
 ·rintro ⟨u,hu⟩ rfl
  rw [listB_zero] at hu;cases hu
theorem tzB_le{m:BitVec 64}(h:m≠0#64):tzB m∈listB m∧∀u∈listB m,tzB m≤u:=by
 have e:=listB_step h
 refine ⟨by rw [e];exact List.mem_cons_self,fun u hu=>?_⟩
 have ha:=listB_asc m
 rw [e] at ha hu
 rcases List.mem_cons.1 hu with rfl|hu
 ·exact Int.le_refl _
 ·have:=(List.pairwise_cons.1 ha).1 u hu;omega
structure SymB (n:Nat) (rows:List (BitVec 64)):Prop where
 len:rows.length=n
 le:n≤64
 lt:∀u v:Int,0≤u→u<n→v∈listB (at_ rows u)→v<n
 sym:∀u v:Int,0≤u→u<n→v∈listB (at_ rows u)→u∈listB (at_ rows v)
 irr:∀u:Int,0≤u→u<n→u∉listB (at_ rows u)
theorem RowsOk.mem{nd:Int}{es:List Pt}{rows:List (BitVec 64)}(h:RowsOk nd es rows){u v:Int}(u0:0≤u)(u1:u<nd):v∈listB (at_ rows u)↔(0≤v∧v<64)∧((⟨u,v⟩:Pt)∈es∨(⟨v,u⟩:Pt)∈es):=by
 constructor
 ·intro hv
  have hr:=listB_lt hv
  rw [mem_listB,h.bit u v u0 u1 hr.1 hr.2,decide_eq_true_eq] at hv
  exact ⟨hr,hv.2⟩
 ·rintro ⟨hr,hv⟩
  rw [mem_listB,h.bit u v u0 u1 hr.1 hr.2,decide_eq_true_eq]
  exact ⟨hr.1,hv⟩
theorem RowsOk.symB{nd:Int}{es:List Pt}{rows:List (BitVec 64)}(h:RowsOk nd es rows)(hG:GrOk nd es):SymB nd.toNat rows:=by
 have hr:=hG.rng
 have hl:=h.len
 have ed:∀a b:Int,((⟨a,b⟩:Pt)∈es)→0≤a∧a<b∧b<nd:=fun a b hm=>hG.edge _ hm
 refine ⟨by omega,by omega,fun u v u0 u1 hv=>?_,fun u v u0 u1 hv=>?_,fun u u0 u1 hv=>?_⟩
 ·have:=((h.mem u0 (by omega)).1 hv).2
  rcases this with e|e<;>have:=ed _ _ e<;>omega
 ·obtain ⟨h1,h2⟩:=(h.mem u0 (by omega)).1 hv
  have h3:v<nd:=by rcases h2 with e|e<;>have:=ed _ _ e<;>omega
  exact (h.mem h1.1 h3).2 ⟨⟨u0,by omega⟩,h2.symm⟩
 ·have:=((h.mem u0 (by omega)).1 hv).2
  rcases this with e|e<;>have:=ed _ _ e<;>omega
end Go.Sl
/- The greatest set for which the edges inside, less a price for each node, are most, by a least cut. The plain law. No Go. No conditions. -/
namespace Go.Sl
def nodeArcs(N:Int)(v:Nat):List Arc:=[⟨0,2+(v:Int),0⟩,⟨2+(v:Int),1,N⟩]
def edgeArcs(nd D:Int)(es:List Pt)(i:Nat):List Arc:=[⟨0,2+nd+(i:Int),D⟩,⟨2+nd+(i:Int),2+(at_ es (i:Int)).u,D⟩,⟨2+nd+(i:Int),2+(at_ es (i:Int)).v,D⟩]
def denseArcs(nd N D:Int)(es:List Pt):List Arc:=(List.range nd.toNat).flatMap (nodeArcs N)++(List.range es.length).flatMap (edgeArcs nd D es)
def denseNet(nd N D:Int)(es:List Pt):Net:=⟨2+nd+(es.length:Int),0,1,denseArcs nd N D es⟩
theorem flat_len{α:Type}(f:Nat→List α)(c:Nat)(h:∀i,(f i).length=c)(n:Nat):((List.range n).flatMap f).length=n*c:=by
 induction n with
 |zero=>simp
 |succ n ih=>rw [List.range_succ,List.flatMap_append,List.length_append,ih,Nat.succ_mul];simp [h]
theorem denseArcs_len(nd N D:Int)(es:List Pt):(denseArcs nd N D es).length=nd.toNat*2+es.length*3:=by
 unfold denseArcs
 rw [List.length_append,flat_len _ 2 (fun _=>rfl),flat_len _ 3 (fun _=>rfl)]
theorem mem_denseArcs{nd N D:Int}{es:List Pt}{a:Arc}:a∈denseArcs nd N D es↔(∃v:Nat,(v:Int)<nd∧a∈nodeArcs N v)∨∃i:Nat,i<es.length∧a∈edgeArcs nd D es i:=by
 unfold denseArcs
 rw [List.mem_append,List.mem_flatMap,List.mem_flatMap]
 constructor
 ·rintro (⟨v,h1,h2⟩|⟨i,h1,h2⟩)
  ·exact .inl ⟨v,by have:=List.mem_range.1 h1;omega,h2⟩
  ·exact .inr ⟨i,List.mem_range.1 h1,h2⟩
 ·rintro (⟨v,h1,h2⟩|⟨i,h1,h2⟩)
  ·exact .inl ⟨v,List.mem_range.2 om,h2⟩
  ·exact .inr ⟨i,List.mem_range.2 h1,h2⟩
theorem denseNet_ok{nd N D:Int}{es:List Pt}(hG:GrOk nd es)(hm:es.length≤2016)(hN:0≤N∧N≤1099511627776)(hD:0≤D∧D≤1099511627776):(denseNet nd N D es).Ok:=by
 have hr:=hG.rng
 have hl:=denseArcs_len nd N D es
 refine ⟨⟨by show 2+nd+(es.length:Int)≤4200;omega,by show (denseArcs nd N D es).length≤16384;omega⟩,by show 2≤2+nd+(es.length:Int);omega,⟨Int.le_refl _,by show (0:Int)<2+nd+(es.length:Int);omega⟩,⟨by show (0:Int)≤1;decide,by show (1:Int)<2+nd+(es.length:Int);omega⟩,by show (0:Int)≠1;decide,fun a ha=>?_⟩
 show (0≤a.frm∧a.frm<2+nd+(es.length:Int))∧(0≤a.dst∧a.dst<2+nd+(es.length:Int))∧a.frm≠a.dst∧0≤a.cap∧a.cap≤1099511627776
 rcases mem_denseArcs.1 ha with ⟨v,hv,h⟩|⟨i,hi,h⟩
 ·simp only [nodeArcs,List.mem_cons,List.not_mem_nil,or_false] at h
  rcases h with rfl|rfl<;>simp only<;>omega
 ·have he:=hG.edge _ (Ck (xs:=es) (i:=(i:Int)) om om)
  simp only [edgeArcs,List.mem_cons,List.not_mem_nil,or_false] at h
  rcases h with rfl|rfl|rfl<;>simp only<;>omega
def costW(nd N D:Int)(es:List Pt)(W:Int→Bool):Int:=sumN nd.toNat (fun v=>if W (v:Int) then N else 0)+sumN es.length fun i=>if W (at_ es (i:Int)).u&&W (at_ es (i:Int)).v then 0 else D
def cutA(S:Int→Bool)(a:Arc):Int:=if S a.frm && !S a.dst then a.cap else 0
theorem sum_flat{α:Type}(φ:α→Int)(f:Nat→List α)(n:Nat):(((List.range n).flatMap f).map φ).sum=sumN n fun i=>((f i).map φ).sum:=by
 induction n with
 |zero=>rfl
 |succ n ih=>rw [List.range_succ,List.flatMap_append,List.map_append,List.sum_append,ih];simp [sumN]
theorem cut_dense(nd N D:Int)(es:List Pt)(S:Int→Bool)(h0:S 0=true)(h1:S 1=false):cutS (denseNet nd N D es) S =
  sumN nd.toNat (fun v=>if S (2+(v:Int)) then N else 0)+sumN es.length fun i=>(if S (2+nd+(i:Int)) then (if S (2+(at_ es (i:Int)).u) then 0 else D)+(if S (2+(at_ es (i:Int)).v) then 0 else D) else D):=by
 have e:cutS (denseNet nd N D es) S=((denseArcs nd N D es).map (cutA S)).sum:=by
  rw [←sumN_list];rfl
 rw [e]
 unfold denseArcs
 rw [List.map_append,List.sum_append,sum_flat,sum_flat]
 congr 1
 ·refine Di _ fun v _=>?_
  simp [nodeArcs,cutA,h0,h1]
 ·refine Di _ fun i _=>?_
  simp only [edgeArcs,cutA,List.map_cons,List.map_nil,List.sum_cons,List.sum_nil,h0]
  cases S (2+nd+(i:Int))<;>cases S (2+(at_ es (i:Int)).u)<;>cases S (2+(at_ es (i:Int)).v)<;>simp
def liftW(nd:Int)(es:List Pt)(W:Int→Bool)(z:Int):Bool:=
 decide (z=0)||(decide (2≤z∧z<2+nd)&&W (z - 2))||(decide (2+nd≤z∧z<2+nd+(es.length:Int))&&W (at_ es (z - 2 - nd)).u&&W (at_ es (z - 2 - nd)).v)
theorem liftW_node{nd:Int}{es:List Pt}{W:Int→Bool}{v:Int}(h0:0≤v)(h1:v<nd):liftW nd es W (2+v)=W v:=by
 unfold liftW
 rw [decide_eq_false (show ¬2+v=0 by omega),decide_eq_true (show 2≤2+v∧2+v<2+nd by omega),decide_eq_false (show ¬(2+nd≤2+v∧2+v<2+nd+(es.length:Int)) by omega),show 2+v - 2=v by omega]
 simp
theorem liftW_edge{nd:Int}{es:List Pt}{W:Int→Bool}{i:Nat}(hnd:0≤nd)(hi:i<es.length):liftW nd es W (2+nd+(i:Int))=(W (at_ es (i:Int)).u&&W (at_ es (i:Int)).v):=by
 unfold liftW
 rw [decide_eq_false (show ¬2+nd+(i:Int)=0 by omega),decide_eq_false (show ¬(2≤2+nd+(i:Int)∧2+nd+(i:Int)<2+nd) by omega),decide_eq_true (show 2+nd≤2+nd+(i:Int)∧2+nd+(i:Int)<2+nd+(es.length:Int) by omega),show 2+nd+(i:Int) - 2 - nd=(i:Int) by omega]
 simp
theorem cut_lift{nd N D:Int}{es:List Pt}(hG:GrOk nd es)(W:Int→Bool):liftW nd es W 0=true∧liftW nd es W 1=false∧cutS (denseNet nd N D es) (liftW nd es W)=costW nd N D es W:=by
 have hr:=hG.rng
 have a0:liftW nd es W 0=true:=by unfold liftW;simp
 have a1:liftW nd es W 1=false:=by
  unfold liftW
  rw [decide_eq_false (show ¬(1:Int)=0 by decide),decide_eq_false (show ¬(2≤(1:Int)∧(1:Int)<2+nd) by omega),decide_eq_false (show ¬(2+nd≤(1:Int)∧(1:Int)<2+nd+(es.length:Int)) by omega)];simp
 refine ⟨a0,a1,?_⟩
 rw [cut_dense _ _ _ _ _ a0 a1]
 unfold costW
 congr 1
 ·refine Di _ fun v hv=>?_
  rw [liftW_node om om]
 ·refine Di _ fun i hi=>?_
  have he:=hG.edge _ (Ck (xs:=es) (i:=(i:Int)) om om)
  rw [liftW_edge hr.1 hi,liftW_node om om,liftW_node om om]
  cases W (at_ es (i:Int)).u<;>cases W (at_ es (i:Int)).v<;>simp
theorem cost_le_cut{nd N D:Int}{es:List Pt}(hD:0≤D)(S:Int→Bool)(h0:S 0=true)(h1:S 1=false):costW nd N D es (fun v=>S (2+v))≤cutS (denseNet nd N D es) S:=by
 rw [cut_dense _ _ _ _ _ h0 h1]
 unfold costW
 dsimp only
 have:=sumN_le es.length (g:=fun i=>if S (2+(at_ es (i:Int)).u)&&S (2+(at_ es (i:Int)).v) then 0 else D)
  (h:=fun i=>(if S (2+nd+(i:Int)) then (if S (2+(at_ es (i:Int)).u) then 0 else D)+(if S (2+(at_ es (i:Int)).v) then 0 else D) else D)) fun i hi=>by
  cases S (2+nd+(i:Int))<;>cases S (2+(at_ es (i:Int)).u)<;>cases S (2+(at_ es (i:Int)).v)<;>simp<;>omega
 omega
theorem great_cost{nd N D:Int}{es:List Pt}(hG:GrOk nd es)(hm:es.length≤2016)(hN:0≤N∧N≤1099511627776)(hD:0≤D∧D≤1099511627776){f:List Int}{T:Int→Bool}(hf:IsFlow (denseNet nd N D es) f)(hT:Great (denseNet nd N D es) f T)(W:Int→Bool) :
  costW nd N D es (fun v=>T (2+v))≤costW nd N D es W∧(costW nd N D es W≤costW nd N D es (fun v=>T (2+v))→∀v,0≤v→v<nd→W v=true→T (2+v)=true):=by
 have hok:=denseNet_ok hG hm hN hD
 obtain ⟨l0,l1,l2⟩:=cut_lift (N:=N) (D:=D) hG W
 have h1:=cost_le_cut (nd:=nd) (N:=N) (es:=es) hD.1 T hT.src hT.snk
 have h2:cutS (denseNet nd N D es) T≤cutS (denseNet nd N D es) (liftW nd es W):=by
  rw [←hT.value hok hf];exact value_le hok hf _ l0 l1
 rw [l2] at h2
 refine ⟨by omega,fun hle v v0 v1 hv=>?_⟩
 have h3:netF (denseNet nd N D es) f (denseNet nd N D es).source=cutS (denseNet nd N D es) (liftW nd es W):=by
  rw [hT.value hok hf,l2];omega
 have h4:=(shut_value hok hf (S:=liftW nd es W) l0 l1).1 h3
 exact hT.great _ h4 l1 (2+v) om (by show 2+v<2+nd+(es.length:Int);omega) (by rw [liftW_node v0 v1];exact hv)
end Go.Sl
