/- A part of the proofs of statements of this seat: contracts of functions, and the plain laws that they lean on. No conditions. -/
import Derived.Test.YtfkcohmipjhfcaaGreatDoorH11
set_option linter.unusedVariables false
set_option linter.unusedSimpArgs false
set_option linter.unusedSectionVars false
namespace Go.Sl
open Go.Proofs
set_option maxRecDepth 4000
theorem addRow_no{rows:List (BitVec 64)}{e:Pt}(h:¬(0≤e.u∧e.u<e.v∧e.v<rows.length)):addRow rows e=rows:=by unfold addRow;rw [if_neg h]
theorem MRows_ok{κ:Ctx}{I:List Item}{nd:Int}{v:Value}{es:List Pt}(hl:Sl κ I v es) :
    CallS Tryz.prog κ 198 [.agg #[I64 (nd),v]] I (fun r J=>∃a c,r = .slice a (rowsB nd es).length c∧J=vc 175 (.slice a (rowsB nd es).length c) (rowsB nd es)::I):=by
 refine B4 hl.le fun hmax=>?_
 refine Ce1 Tryz.func198 rfl rfl ?_
 refine Ai (Ge1 (Bd (cs:=[_,_]) rfl rfl rfl) fun b1=>Ga rfl (Af (Ai (Gf fld48_0 rfl (Gl ty3 ?_)))))
 refine Gr (En rfl rfl) (Gr (Runs.min rfl rfl) (Ge2 (Cr (α:=(BitVec 64)) (n:=(min (max nd 0) 64).toNat) Cd ty175 rfl rfl rfl om om dc rfl) fun ad2 cp3=>?_))
 refine Ga rfl ?_
 have hrep:(List.replicate (min (max nd 0) 64).toNat (default:(BitVec 64))).length=(min (max nd 0) 64).toNat:=List.length_replicate
 refine Af (Au (Ai (Gf fld48_1 rfl (Gl ty46 ?_))))
 refine Gr (Bx (α:=Pt) (xs:=es) B2 rfl (Bj hl)) (Gm rfl (Af (A4 (Bv (σ:=Nat×(List (BitVec 64))) (fun s=>([(3,.slice ad2 (List.replicate ((min (max nd 0) 64).toNat) (default:(BitVec 64))).length cp3),(12,v),(13,I64 (((es.length:Nat):Int))),(14,I64 (((s.1:Nat):Int)))]:Env)) (fun s=>vc 175 (.slice ad2 (List.replicate ((min (max nd 0) 64).toNat) (default:(BitVec 64))).length cp3) (s.2)::blk b1 [I64 (nd),v] 48::I) (fun s=>(s.1≤es.length)∧(s.2=rowsB nd (es.take s.1))∧(s.2.length=(min (max nd 0) 64).toNat)) (fun s=>es.length - s.1) (0,List.replicate (min (max nd 0) 64).toNat (default:(BitVec 64))) (show ((0:Nat)≤es.length)∧((List.replicate (min (max nd 0) 64).toNat (default:(BitVec 64)):List (BitVec 64))=rowsB nd (es.take (0:Nat)))∧((List.replicate (min (max nd 0) 64).toNat (default:(BitVec 64)):List (BitVec 64)).length=(min (max nd 0) 64).toNat) from ⟨om,rfl,(by simp)⟩) (Aa rfl (Aa rfl (Aa rfl (Aa B8 Bg)))) (show Fit κ _ (vc 175 (.slice ad2 (List.replicate ((min (max nd 0) 64).toNat) (default:(BitVec 64))).length cp3) ((List.replicate (min (max nd 0) 64).toNat (default:(BitVec 64))))::blk b1 [I64 (nd),v] 48::I) from A5) ?_))))
 rintro ⟨k,rows⟩ hp
 dsimp only at hp ⊢
 obtain ⟨hk,hr,hrl⟩:=hp
 refine Ai (Gr (A9 rfl rfl) (Af (Au (A7 rfl (fun c15=>?_) (fun c15=>?_)))))
 ·refine Aw (Aj (Au (A4 (Ai (Gr (A3 (α:=Pt) (xs:=es) B2 ty135 rfl rfl (Bj hl) om oo) (Gr (Bu (α:=Pt) (xs:=es) ty135 rfl (Bj hl) om oo) (Ge1 (A8 ty135 rfl) fun b4=>Ge0 (Ce ty135) ?_)))))))
  refine Af (Ai (Gf fld135_0 rfl (Gl ty3 ?_)))
  refine Gr (B6 rfl rfl) (Gm rfl (Bb (d:=21) rfl (fun g21=>?_) (fun g21=>?_)))
  ·refine Gro (Ab fld135_0 rfl) (Gro (As ty3) ?_)
   refine Gro (Ab fld135_1 rfl) (Gro (As ty3) ?_)
   refine Gro (A9 rfl rfl) (Gr (Ao rfl rfl) (Gm rfl (Bb (d:=28) rfl (fun g28=>?_) (fun g28=>?_))))
   ·refine Gro (Ab fld135_1 rfl) (Gro (As ty3) ?_)
    refine Gro (Ad rfl) (Gro (Bp Cd rfl) (Gro (A9 rfl rfl) (Gr (Ao rfl rfl) (Af (Ar (S6 34 5 3 12 13 14 rfl rfl rfl rfl rfl rfl) (A7 rfl (fun c34=>?_) (fun c34=>?_)))))))
    ·refine Au (Bk mixed (Bo (blk b4 [I64 ((at_ es (k:Int)).u),I64 ((at_ es (k:Int)).v)] 135::vc 175 (.slice ad2 (List.replicate ((min (max nd 0) 64).toNat) (default:(BitVec 64))).length cp3) (rows)::blk b1 [I64 (nd),v] 48::I) 10 (Dr 0 rfl (Ad rfl) (Dr 1 rfl (Ab fld135_0 rfl) (Dr 2 rfl (As ty3) ?_)))))
     refine Dr 3 rfl (A3 (α:=(BitVec 64)) (xs:=rows) Cd ty175 rfl rfl Bf om oo) (Dr 4 rfl (Dy (α:=(BitVec 64)) (xs:=rows) (u:=U64 ((at_ rows ((at_ es (k:Int)).u)))) ty175 rfl Bf om oo rfl) (Dr 5 rfl (Ab fld135_1 rfl) (Dr 6 rfl (As ty3) ?_)))
     refine Dr 7 rfl (Runs.shlB (a:=1#64) rfl rfl om om) (Dr 8 rfl (E3 (a:=(at_ rows ((at_ es (k:Int)).u))) (b:=(1#64) <<< ((at_ es (k:Int)).v).toNat) rfl rfl) (Dr 9 rfl (A3 (α:=(BitVec 64)) (xs:=rows) Cd ty175 rfl rfl Bf om oo) (Dc kr ?_)))
     refine Ae 10 rfl (C6 (α:=(BitVec 64)) (xs:=rows) (e:=175) (new:=(at_ rows ((at_ es (k:Int)).u)) ||| ((1#64) <<< ((at_ es (k:Int)).v).toNat)) ty175 rfl rfl rfl om oo am) ?_
     rintro _ _ ⟨rfl,rfl⟩
     refine De kr ?_
     refine Aj (Ar (S5 5 3 12 13 14 rfl rfl rfl rfl rfl) (Bk mixed (Bo (blk b4 [I64 ((at_ es (k:Int)).u),I64 ((at_ es (k:Int)).v)] 135::vc 175 (.slice ad2 (List.replicate ((min (max nd 0) 64).toNat) (default:(BitVec 64))).length cp3) (List.set rows ((at_ es (k:Int)).u).toNat ((at_ rows ((at_ es (k:Int)).u)) ||| ((1#64) <<< ((at_ es (k:Int)).v).toNat)))::blk b1 [I64 (nd),v] 48::I) 10 (Dr 0 rfl (Ad rfl) (Dr 1 rfl (Ab fld135_1 rfl) (Dr 2 rfl (As ty3) ?_))))))
     refine Dr 3 rfl (A3 (α:=(BitVec 64)) (xs:=List.set rows ((at_ es (k:Int)).u).toNat ((at_ rows ((at_ es (k:Int)).u)) ||| ((1#64) <<< ((at_ es (k:Int)).v).toNat))) Cd ty175 rfl rfl Bf om oo) (Dr 4 rfl (Dy (α:=(BitVec 64)) (xs:=List.set rows ((at_ es (k:Int)).u).toNat ((at_ rows ((at_ es (k:Int)).u)) ||| ((1#64) <<< ((at_ es (k:Int)).v).toNat))) (u:=U64 ((at_ (List.set rows ((at_ es (k:Int)).u).toNat ((at_ rows ((at_ es (k:Int)).u)) ||| ((1#64) <<< ((at_ es (k:Int)).v).toNat))) ((at_ es (k:Int)).v)))) ty175 rfl Bf om oo rfl) (Dr 5 rfl (Ab fld135_0 rfl) (Dr 6 rfl (As ty3) ?_)))
     refine Dr 7 rfl (Runs.shlB (a:=1#64) rfl rfl om om) (Dr 8 rfl (E3 (a:=(at_ (List.set rows ((at_ es (k:Int)).u).toNat ((at_ rows ((at_ es (k:Int)).u)) ||| ((1#64) <<< ((at_ es (k:Int)).v).toNat))) ((at_ es (k:Int)).v))) (b:=(1#64) <<< ((at_ es (k:Int)).u).toNat) rfl rfl) (Dr 9 rfl (A3 (α:=(BitVec 64)) (xs:=List.set rows ((at_ es (k:Int)).u).toNat ((at_ rows ((at_ es (k:Int)).u)) ||| ((1#64) <<< ((at_ es (k:Int)).v).toNat))) Cd ty175 rfl rfl Bf om oo) (Dc kr ?_)))
     refine Ae 10 rfl (C6 (α:=(BitVec 64)) (xs:=List.set rows ((at_ es (k:Int)).u).toNat ((at_ rows ((at_ es (k:Int)).u)) ||| ((1#64) <<< ((at_ es (k:Int)).v).toNat))) (e:=175) (new:=(at_ (List.set rows ((at_ es (k:Int)).u).toNat ((at_ rows ((at_ es (k:Int)).u)) ||| ((1#64) <<< ((at_ es (k:Int)).v).toNat))) ((at_ es (k:Int)).v)) ||| ((1#64) <<< ((at_ es (k:Int)).u).toNat)) ty175 rfl rfl rfl om oo am) ?_
     rintro _ _ ⟨rfl,rfl⟩
     refine De kr ?_
     refine Ak (Aj (Ar (S4 3 12 13 14 rfl rfl rfl rfl) (Az (Gr (Rad rfl rfl) (Gm rfl (Bc ?_))))))
     have hset:List.set (List.set rows ((at_ es (k:Int)).u).toNat ((at_ rows ((at_ es (k:Int)).u)) ||| ((1#64) <<< ((at_ es (k:Int)).v).toNat))) ((at_ es (k:Int)).v).toNat ((at_ (List.set rows ((at_ es (k:Int)).u).toNat ((at_ rows ((at_ es (k:Int)).u)) ||| ((1#64) <<< ((at_ es (k:Int)).v).toNat))) ((at_ es (k:Int)).v)) ||| ((1#64) <<< ((at_ es (k:Int)).u).toNat))=addRow rows (at_ es (k:Int)):=by unfold addRow;rw [if_pos om]
     rw [hset]
     exact B3 ((k+1),(addRow rows (at_ es (k:Int)))) (by dsimp only;exact ⟨om,(by rw [rowsB_take om,←hr];first|done|exact hset),(by first|exact hrl|(rw [addRow_len];exact hrl))⟩)
    ·refine Aw (Ak (Aj (Az (Gr (Rad rfl rfl) (Gm rfl (Bc ?_))))))
     have hset:rows=addRow rows (at_ es (k:Int)):=(addRow_no om).symm
     exact B3 ((k+1),(rows)) (by dsimp only;exact ⟨om,(by rw [rowsB_take om,←hr];first|done|exact hset),(by first|exact hrl|(rw [addRow_len];exact hrl))⟩)
   ·refine Gpo (Gpo (Gpo (Gpo (Gpo (Gr (Al rfl rfl) (Af (Ar (S6 34 5 3 12 13 14 rfl rfl rfl rfl rfl rfl) (C9 rfl (Aw (Ak (Aj (Az (Gr (Rad rfl rfl) (Gm rfl (Bc ?_)))))))))))))))
    have hset:rows=addRow rows (at_ es (k:Int)):=(addRow_no om).symm
    exact B3 ((k+1),(rows)) (by dsimp only;exact ⟨om,(by rw [rowsB_take om,←hr];first|done|exact hset),(by first|exact hrl|(rw [addRow_len];exact hrl))⟩)
  ·refine Gpo (Gpo (Gpo (Gpo (Gpo (Gr (Al rfl rfl) (Gm rfl (Gpo (Gpo (Gpo (Gpo (Gpo (Gr (Al rfl rfl) (Af (Ar (S6 34 5 3 12 13 14 rfl rfl rfl rfl rfl rfl) (C9 rfl (Aw (Ak (Aj (Az (Gr (Rad rfl rfl) (Gm rfl (Bc ?_))))))))))))))))))))))
   have hset:rows=addRow rows (at_ es (k:Int)):=(addRow_no om).symm
   exact B3 ((k+1),(rows)) (by dsimp only;exact ⟨om,(by rw [rowsB_take om,←hr];first|done|exact hset),(by first|exact hrl|(rw [addRow_len];exact hrl))⟩)
 ·refine Bs (Am (Am (A6 (Aj (Ai (Gm rfl (Ga rfl (Af (Ax ?_)))))))))
  rw [List.take_of_length_le om] at hr
  subst hr
  have hle:(rowsB nd es).length=(List.replicate (min (max nd 0) 64).toNat (default:(BitVec 64))).length:=by omega
  exact Ay rfl rfl (vc 175 (.slice ad2 (rowsB nd es).length cp3) (rowsB nd es)::I) (by rw [hle];exact A5) ⟨_,_,by rw [hle],rfl⟩
theorem Check03G_ok{κ:Ctx}{I:List Item}{nd:Int}{v:Value}{es:List Pt}(hl:Sl κ I v es) :
    CallS Tryz.prog κ 30 [.agg #[I64 (nd),v]] I (fun r J=>r=I64 (checkG nd es)∧I=J):=by
 refine B4 hl.le fun hmax=>?_
 refine Ce1 Tryz.func30 rfl rfl ?_
 refine Ai (Ge1 (Bd (cs:=[_,_]) rfl rfl rfl) fun b1=>Ga rfl (Af (Au (Ai (Gf fld48_0 rfl (Gl ty3 ?_))))))
 refine Gr (A9 rfl rfl) (Gm rfl (Bb (d:=8) rfl (fun g8=>?_) (fun g8=>?_)))
 ·exact Gpo (Gpo (Gpo (Gr (Ao rfl rfl) (Af (Ca rfl (Ai (Ga rfl (Af (Ax (Ah (Ay rfl rfl (I) A0 ⟨by rw [show checkG nd es=1 from (by unfold checkG;rw [if_pos om])],rfl⟩)))))))))))
 ·refine Gro (Ab fld48_0 rfl) (Gro (As ty3) ?_)
  refine Gro (Bz rfl rfl) (Gr (Al rfl rfl) (Af (A7 rfl (fun c12=>?_) (fun c12=>?_))))
  ·exact Ai (Ga rfl (Af (Ax (Ah (Ay rfl rfl (I) A0 ⟨by rw [show checkG nd es=1 from (by unfold checkG;rw [if_pos om])],rfl⟩)))))
  ·refine Aw (Aj (Au (Ai (Gf fld48_1 rfl (Gl ty46 ?_)))))
   refine Gr (Bx (α:=Pt) (xs:=es) B2 rfl (Bj hl)) (Gm rfl (Af (Ar (S4 16 15 14 1 rfl rfl rfl rfl) (A4 (Bv (σ:=Nat) (fun s=>([(1,.pointer (some ⟨b1,0,none⟩)),(14,v),(15,I64 (((es.length:Nat):Int))),(16,I64 (((s:Nat):Int)))]:Env)) (fun s=>blk b1 [I64 (nd),v] 48::I) (fun s=>(s≤es.length)∧(checkG nd es=scanL (badE nd) Pt.lt (prevAt es s) (es.drop s))) (fun s=>es.length - s) (0) (show ((0:Nat)≤es.length)∧(checkG nd es=scanL (badE nd) Pt.lt (prevAt es (0:Nat)) (es.drop (0:Nat))) from ⟨om,(by unfold checkG;rw [if_neg om];rfl)⟩) (Aa rfl (Aa rfl (Aa rfl (Aa B8 Bg)))) (show Fit κ _ (blk b1 [I64 (nd),v] 48::I) from A5) ?_)))))
   rintro k hp
   obtain ⟨hk,hs⟩:=hp
   refine Ai (Gr (A9 rfl rfl) (Af (Au (A7 rfl (fun c17=>?_) (fun c17=>?_)))))
   ·refine Aw (Aj (Au (A4 (Ai (Gm rfl (Gr (A3 (α:=Pt) (xs:=es) B2 ty135 rfl rfl (Bj hl) om om) (Gr (Bu (α:=Pt) (xs:=es) ty135 rfl (Bj hl) om om) (Ge1 (A8 ty135 rfl) fun b2=>Ga rfl (Ge0 (Ce ty135) ?_)))))))))
    refine Af (Au (Ai (Gf fld135_0 rfl (Gl ty3 ?_))))
    refine Gr (A9 rfl rfl) (Gm rfl (Bb (d:=24) rfl (fun g24=>?_) (fun g24=>?_)))
    ·exact Gpo (Gpo (Gpo (Gpo (Gpo (Gr (Ao rfl rfl) (Gm rfl (Gpo (Gpo (Gpo (Gpo (Gpo (Gr (Ao rfl rfl) (Af (Ar (S7 37 3 4 1 14 15 16 rfl rfl rfl rfl rfl rfl rfl) (Ca rfl (Ai (Ga rfl (Af (Ax (Ah (Av (Ah (Ah (Av (Ah (Ay rfl rfl (I) A0 ⟨by rw [show checkG nd es=6 from (hs.trans ((Cs om (by unfold badE;rw [if_pos om];decide)).trans (by unfold badE;rw [if_pos om])))],rfl⟩))))))))))))))))))))))))))
    ·refine Gro (Ab fld135_0 rfl) (Gro (As ty3) ?_)
     refine Gro (Ab fld135_1 rfl) (Gro (As ty3) ?_)
     refine Gro (B6 rfl rfl) (Gr (Al rfl rfl) (Gm rfl (Bb (d:=31) rfl (fun g31=>?_) (fun g31=>?_))))
     ·exact Gpo (Gpo (Gpo (Gpo (Gpo (Gr (Ao rfl rfl) (Af (Ar (S7 37 3 4 1 14 15 16 rfl rfl rfl rfl rfl rfl rfl) (Ca rfl (Ai (Ga rfl (Af (Ax (Ah (Av (Ah (Ah (Av (Ah (Ay rfl rfl (I) A0 ⟨by rw [show checkG nd es=6 from (hs.trans ((Cs om (by unfold badE;rw [if_pos om];decide)).trans (by unfold badE;rw [if_pos om])))],rfl⟩)))))))))))))))))))
     ·refine Gro (Ab fld135_1 rfl) (Gro (As ty3) ?_)
      refine Gro (Ab fld48_0 rfl) (Gro (As ty3) ?_)
      refine Gro (B6 rfl rfl) (Gr (Al rfl rfl) (Af (Ar (S7 37 3 4 1 14 15 16 rfl rfl rfl rfl rfl rfl rfl) (A7 rfl (fun c37=>?_) (fun c37=>?_)))))
      ·exact Ai (Ga rfl (Af (Ax (Ah (Av (Ah (Ah (Av (Ah (Ay rfl rfl (I) A0 ⟨by rw [show checkG nd es=6 from (hs.trans ((Cs om (by unfold badE;rw [if_pos om];decide)).trans (by unfold badE;rw [if_pos om])))],rfl⟩))))))))))
      ·refine Aw (Aj (Au (Bk mixed (Bo (blk b2 [I64 ((at_ es (k:Int)).u),I64 ((at_ es (k:Int)).v)] 135::blk b1 [I64 (nd),v] 48::I) 13 (Dr 0 rfl (Ad rfl) (Dr 1 rfl (Bz rfl rfl) (Dr 2 rfl (Ad rfl) (C7 (d:=40) rfl (fun g40=>?_) (fun g40=>?_)))))))))
       ·refine Dro 3 rfl (Ab fld48_1 rfl) (Dro 4 rfl (As ty46) ?_)
        refine Dro 5 rfl (Ad rfl) (Dro 6 rfl (Rsu rfl rfl) (Dro 7 rfl (A3 (α:=Pt) (xs:=es) B2 ty135 rfl rfl (Bj hl) om om) (Dro 8 rfl (Bu (α:=Pt) (xs:=es) ty135 rfl (Bj hl) om om) (Dro 9 rfl (Bq (vs:=[_,_]) ty135) ?_))))
        refine Ds1 10 (Sc0 rfl (Ap call84 rfl rfl (Before03_ok (at_ es ((k:Int) - 1)) (at_ es (k:Int)))) ?_)
        refine Dro 11 rfl (Cw rfl) (Dr 12 rfl (Ao rfl rfl) (Dz (Aj (Ar (S5 50 1 14 15 16 rfl rfl rfl rfl rfl) (A7 rfl (fun c50=>?_) (fun c50=>?_))))))
        ·exact Ai (Ga rfl (Af (Ax (Av (Ah (Ah (Av (Ah (Ay rfl rfl (I) A0 ⟨by rw [show checkG nd es=5 from (hs.trans (scanL_order om (badE_zero.2 om) om (by first|assumption|simpa using c50)))],rfl⟩)))))))))
        ·exact Aw (Ak (Aj (Az (Gr (Rad rfl rfl) (Gm rfl (Bc (B3 ((k+1)) ⟨om,(hs.trans (D9 om (badE_zero.2 om) (fun h0=>by first|omega|exact Classical.not_not.1 asm|assumption)))⟩)))))))
       ·exact Dpo 3 rfl (Dpo 4 rfl (Dpo 5 rfl (Dpo 6 rfl (Dpo 7 rfl (Dpo 8 rfl (Dpo 9 rfl (Dpo 10 rfl (Dpo 11 rfl (Dr 12 rfl (Al rfl rfl) (Dz (Aj (Ar (S5 50 1 14 15 16 rfl rfl rfl rfl rfl) (C9 rfl (Aw (Ak (Aj (Az (Gr (Rad rfl rfl) (Gm rfl (Bc (B3 ((k+1)) ⟨om,(hs.trans (D9 om (badE_zero.2 om) (fun h0=>by first|omega|exact Classical.not_not.1 asm|assumption)))⟩)))))))))))))))))))))
   ·exact Bs (Am (Am (A6 (Aj (Ai (Ga rfl (Af (Ax (Ay rfl rfl (I) A0 ⟨by rw [show checkG nd es=0 from (hs.trans (scanL_end om))],rfl⟩)))))))))
section
variable {P:Program}{κ:Ctx}{N:Frm}{L:Env}{I J:List Item}{d:Option Tmp}{ty:TypeId}{ps:String}{af:Array Edge}{gd:Option (Nat×Bool)}
theorem vc.isSome{α:Type}[Enc α]{xs:List α}{e:TypeId}{ad:Option Addr}{n c:Nat}(h:vc e (.slice ad n c) xs∈I):∀w,Sep κ w I→(0<xs.length→ad≠none):=fun w hs hlt=>by
 obtain ⟨b,o,cap,h0,_⟩:=((E5 (κ:=κ) h) w hs).some hlt
 cases h0
 exact fun hh=>by cases hh
theorem Runs.idxs(α:Type)[Enc α]{x y:Operand}{T E by' n c:Nat}{ag:Bool}{z:List Value}{ad:Option Addr}{i:Int}(ht:P.underlying T=some (.slice E))(hE:tyF P E=some (Enc.sz α,ag,by',z))(hx:evalO L x=some (.slice ad n c))
  (hy:evalO L y=some (I64 i)) (ha:ad≠none) (h0:0≤i) (hn:i<n):Runs P κ N ⟨d,.indexAddr T x y,ty,ps,af,gd⟩ L J (elemPtr (.slice ad n c) (i.toNat*Enc.sz α)):=by
 cases ad with
 |none=>exact absurd rfl ha
 |some ad=>exact fun a w ha hs=>by simp [execOp,ha.eval hx,ha.eval hy,Instr.indexAt,asIntOf,run_underlying ht,h0,hn,run_sizeOf hE,elemPtr]
end
variable {κ:Ctx}{I:List Item}
theorem ApplyP_ok{nd:Int}{e:Ev}{a0:Option Addr}{c0:Nat}{xs:List Lk}(hv:checkS nd xs=0)(hf:FitOk nd e)(hsz:xs.length≤100000) :
    CallS Tryz.prog κ 141 [.agg #[I64 (nd),.slice a0 xs.length c0],.agg #[I64 (e.kd),I64 (e.tm),I64 (e.u),I64 (e.v),I64 (e.w),I64 (e.lb),I64 (e.sg)]] (vc 146 (.slice a0 xs.length c0) (xs)::I) (fun r J=>∃a c w,r = .tuple #[.agg #[I64 nd,.slice a (stepL xs e).length c],w,I64 0]∧J=vc 146 (.slice a (stepL xs e).length c) (stepL xs e)::I):=by
 refine Ce2 Tryz.func141 rfl rfl ?_
 refine Ai (Ge1 (Bd (cs:=[_,_]) rfl rfl rfl) fun b1=>Ge1 (Bd (cs:=[_,_,_,_,_,_,_]) rfl rfl rfl) fun b2=>Ge1 (A8 ty111 rfl) fun b3=>Ga rfl (Ga rfl (Af (Ai (Gl2 ty111 ?_)))))
 refine G.e (Ap call214 rfl rfl (CheckS_ok (nd:=nd) Bf)) ?_
 rintro _ _ ⟨_,_,⟨rfl,rfl⟩,rfl,rfl⟩
 refine Ga rfl (Af (Au (Ai (Gm rfl (Gr (Bi rfl rfl) (Af (A7 rfl (fun c13=>?_) (fun c13=>?_))))))))
 ·refine Az (Gf fld111_0 rfl (Gl ty3 ?_))
  refine Gl7 ty108 ?_
  refine Gc0 (Ap call210 rfl rfl (FitsE_ok nd e)) ?_
  refine Ga rfl (Af (Ar (S4 7 4 3 2 rfl rfl rfl rfl) (Au (Ai (Gm rfl (Gr (Be rfl rfl) (Af (A7 rfl (fun c19=>?_) (fun c19=>?_)))))))))
  ·exact absurd (fitE_ok.2 hf) c19
  ·refine Aw (Aj (Ai (Gl2 ty111 ?_)))
   refine Gl7 ty108 ?_
   refine G.e (Ap call215 rfl rfl (StepP_at (by repeat (first|exact AtF.head _ _|apply AtF.tail)) rfl (checkS_ok hv).2.2 om)) ?_
   rintro _ _ ⟨_,_,⟨⟨ad4,cp5,wv6⟩,rfl,rfl⟩,rfl,rfl⟩
   show G Tryz.prog κ _ _ _ _ ([(25,.tuple #[.agg #[I64 (nd),.slice ad4 (stepL xs e).length cp5],wv6]),(24,.agg #[I64 (e.kd),I64 (e.tm),I64 (e.u),I64 (e.v),I64 (e.w),I64 (e.lb),I64 (e.sg)]),(23,.agg #[I64 (nd),.slice a0 xs.length c0]),(19,.bool (decide ((fitE nd e)≠0))),(18,I64 (fitE nd e)),(7,I64 (fitE nd e)),(4,.pointer (some ⟨b3,0,none⟩)),(3,.pointer (some ⟨b2,0,none⟩)),(2,.pointer (some ⟨b1,0,none⟩))]:Env) (blk b3 [I64 (0),.slice none 0 0] 111::blk b2 [I64 (e.kd),I64 (e.tm),I64 (e.u),I64 (e.v),I64 (e.w),I64 (e.lb),I64 (e.sg)] 108::blk b1 [I64 (nd),.slice a0 xs.length c0] 111::vc 146 (.slice ad4 (stepL xs e).length cp5) (stepL xs e)::I)
   refine Gm rfl (Gr (A2 rfl rfl) (Gr (A2 rfl rfl) (Ge1 (A8 ty111 rfl) fun b7=>Ge0 (Ce ty111) ?_)))
   refine Ga rfl (Af (Ar (S3 9 8 4 rfl rfl rfl) (Ai (Gf fld111_1 rfl (Gl ty109 ?_)))))
   refine G.e (Ap call216 rfl rfl (CloneL (xs:=stepL xs e) Bf (by have h:=stepL_len xs e;omega))) ?_
   rintro _ _ ⟨_,_,⟨ad8,cp9,rfl,rfl⟩,rfl,rfl⟩
   refine Gf fld111_1 rfl (Ge0 (Eu ty109) ?_)
   refine Af (Ai (Gl2 ty111 ?_))
   refine Gm rfl (Ge0 (Ce ty111) ?_)
   exact Ga rfl (Ga rfl (Af (Ax (V.retc2 rfl ty111 rfl rfl rfl mm rfl (vc 146 (.slice ad8 (stepL xs e).length cp9) (stepL xs e)::I) Bt ⟨ad8,cp9,wv6,rfl,rfl⟩))))
 ·exact absurd hv c13
theorem edgesK_take{xs:List Lk}{k:Nat}(h:k<xs.length):edgesK (xs.take (k+1))=edgesK (xs.take k)++[(⟨(at_ xs (k:Int)).u,(at_ xs (k:Int)).v⟩:Pt)]:=by
 unfold edgesK;rw [Cz xs k h,List.map_append];rfl
theorem LEdges_ok{nd:Int}{va:Value}{xs:List Lk}(hl:Sl κ I va xs)(hsz:xs.length≤100000) :
    CallS Tryz.prog κ 231 [.agg #[I64 (nd),va]] I (fun r J=>∃a c,r = .agg #[I64 nd,.slice a (edgesK xs).length c]∧J=vc 135 (.slice a (edgesK xs).length c) (edgesK xs)::I):=by
 refine B4 hl.le fun hmax=>?_
 refine Ce1 Tryz.func231 rfl rfl ?_
 refine Ai (Ge1 (Bd (cs:=[_,_]) rfl rfl rfl) fun b1=>Ge1 (A8 ty48 rfl) fun b2=>Af (Ai (Gf fld111_0 rfl (Gl ty3 ?_))))
 refine Gr (Bl (cells:=[_,_]) ty48 Tryz.underlying48 pl48 rfl rfl) (Ge1 (A8 ty48 rfl) fun b3=>Ge0 (Ce ty48) ?_)
 refine Af (Au (Ai (Gf fld111_1 rfl (Gl ty109 ?_))))
 refine Gr (Bx (α:=Lk) (xs:=xs) Aq rfl (Bj hl)) (Gm rfl (Af (A4 (Bv (σ:=Nat×(Option Addr)×Nat×(List Pt)) (fun s=>([(2,.pointer (some ⟨b2,0,none⟩)),(3,.pointer (some ⟨b3,0,none⟩)),(10,va),(11,I64 (((xs.length:Nat):Int))),(12,I64 (((s.1:Nat):Int)))]:Env)) (fun s=>vc 135 (.slice s.2.1 s.2.2.2.length s.2.2.1) (s.2.2.2)::blk b3 [I64 (nd),.slice s.2.1 s.2.2.2.length s.2.2.1] 48::blk b2 [I64 (0),.slice none 0 0] 48::blk b1 [I64 (nd),va] 111::I) (fun s=>(s.1≤xs.length)∧(s.2.2.2=edgesK (xs.take s.1))) (fun s=>xs.length - s.1) (0,none,0,[]) (show ((0:Nat)≤xs.length)∧(([]:List Pt)=edgesK (xs.take (0:Nat))) from ⟨om,rfl⟩) (Aa rfl (Aa rfl (Aa rfl (Aa rfl (Aa B8 Bg))))) (show Fit κ _ (vc 135 (.slice (none) ([]).length (0)) (([]))::blk b3 [I64 (nd),.slice (none) ([]).length (0)] 48::blk b2 [I64 (0),.slice none 0 0] 48::blk b1 [I64 (nd),va] 111::I) from (Bw _ _)) ?_))))
 rintro ⟨k,a,c,out⟩ hp
 dsimp only at hp ⊢
 obtain ⟨hk,ho⟩:=hp
 have hol:out.length=k:=by rw [ho,edgesK_len,List.length_take];omega
 refine Ai (Gr (A9 rfl rfl) (Af (Au (A7 rfl (fun c13=>?_) (fun c13=>?_)))))
 ·refine Aw (Aj (Au (A4 (Ai (Gr (A3 (α:=Lk) (xs:=xs) Aq ty146 rfl rfl (Bj hl) om om) (Gr (Bu (α:=Lk) (xs:=xs) ty146 rfl (Bj hl) om om) (Ge1 (A8 ty146 rfl) fun b4=>Ge0 (D3 ty146) ?_)))))))
  refine Af (Az (Gf fld48_1 rfl (Gl ty46 ?_)))
  refine Gf fld146_0 rfl (Gl ty3 ?_)
  refine Gf fld146_1 rfl (Gl ty3 ?_)
  refine Gr (Bl (cells:=[_,_]) ty135 Tryz.underlying135 pl135 rfl rfl) (Ge1 (B1 (α:=Pt) (cs:=[_,_]) (xs:=[⟨(at_ xs (k:Int)).u,(at_ xs (k:Int)).v⟩]) B2 ty135 rfl rfl dc dc rfl rfl rfl rfl) fun ad5=>?_)
  refine Ge2 (B0 (α:=Pt) (e:=135) (xs:=out) (ys:=([⟨(at_ xs (k:Int)).u,(at_ xs (k:Int)).v⟩]:List Pt)) B2 ty135 rfl rfl rfl mm Bf lcn dc rfl (fun _ _=>am)) fun ad6 cp7=>?_
  refine Gf fld48_1 rfl (Ge0 (Eu ty46) ?_)
  exact Bc (Ak (Aj (Ar (S5 2 3 10 11 12 rfl rfl rfl rfl rfl) (Az (Gr (Rad rfl rfl) (Gm rfl (Bc (B3 ((k+1),(ad6),(cp7),(out++([⟨(at_ xs (k:Int)).u,(at_ xs (k:Int)).v⟩]:List Pt))) (by dsimp only;exact ⟨om,(by rw [edgesK_take om,←ho])⟩)))))))))
 ·refine Bs (Am (Am (A6 (Aj (Ai (Gl2 ty48 ?_))))))
  refine Ge0 (Ce ty48) ?_
  refine Af (Ax ?_)
  have hE:out=edgesK xs:=by rw [ho,List.take_of_length_le om]
  exact D1 rfl ty48 rfl mm rfl (vc 135 (.slice a (edgesK xs).length c) (edgesK xs)::I) (by rw [←hE];exact Bt) ⟨a,c,by rw [←hE]<;>rfl,rfl⟩
theorem LGraph_ok{nd:Int}{va:Value}{xs:List Lk}(hl:Sl κ I va xs)(hv:checkS nd xs=0)(hsz:xs.length≤100000) :
    CallS Tryz.prog κ 167 [.agg #[I64 (nd),va]] I (fun r J=>∃a c,r = .tuple #[.agg #[I64 nd,.slice a (edgesK xs).length c],I64 0]∧J=vc 135 (.slice a (edgesK xs).length c) (edgesK xs)::I):=by
 refine Ce1 Tryz.func167 rfl rfl ?_
 refine Ai (Ge1 (Bd (cs:=[_,_]) rfl rfl rfl) fun b1=>Ge1 (A8 ty48 rfl) fun b2=>Ga rfl (Af (Au (Ai (Gl2 ty111 ?_)))))
 refine G.e (Ap call214 rfl rfl (CheckS_ok (nd:=nd) (Bj hl))) ?_
 rintro _ _ ⟨_,_,⟨rfl,rfl⟩,rfl,rfl⟩
 refine Ga rfl (Af (Ai (Gm rfl (Gr (Be rfl rfl) (Af (A7 rfl (fun c8=>?_) (fun c8=>?_)))))))
 ·exact absurd hv c8
 ·refine Aw (Aj (Ai (Gl2 ty111 ?_)))
  refine G.e (Ap call231 rfl rfl (LEdges_ok (nd:=nd) (Bj hl) om)) ?_
  rintro _ _ ⟨_,_,⟨ad3,cp4,rfl,rfl⟩,rfl,rfl⟩
  refine Ge0 (Ce ty48) ?_
  exact Ga rfl (Af (Ax (D4 rfl ty48 rfl rfl mm rfl (vc 135 (.slice ad3 (edgesK xs).length cp4) (edgesK xs)::I) Bt ⟨ad3,cp4,rfl,rfl⟩)))
theorem LateC_ok(x y:Ev) :
    CallS Tryz.prog κ 230 [.agg #[I64 (x.kd),I64 (x.tm),I64 (x.u),I64 (x.v),I64 (x.w),I64 (x.lb),I64 (x.sg)],.agg #[I64 (y.kd),I64 (y.tm),I64 (y.u),I64 (y.v),I64 (y.w),I64 (y.lb),I64 (y.sg)]] I (fun r J=>r=I64 (evC x y)∧I=J):=by
 refine Ce2 Tryz.func230 rfl rfl ?_
 refine Ai (Ge1 (Bd (cs:=[_,_,_,_,_,_,_]) rfl rfl rfl) fun b1=>Ge1 (Bd (cs:=[_,_,_,_,_,_,_]) rfl rfl rfl) fun b2=>Ga rfl (Af (Ai (Gf fld108_1 rfl (Gl ty3 ?_)))))
 refine Gf fld108_1 rfl (Gl ty3 ?_)
 refine Gc0 (Ap call225 rfl rfl (Compare_ok x.tm y.tm)) ?_
 exact Ga rfl (Af (Ax (Ay rfl rfl (I) A0 ⟨by first|rfl|(unfold evC;repeat (first|rfl|omega|split))|(unfold evC;congr 1;repeat (first|rfl|omega|split)),rfl⟩)))
variable {κ:Ctx}{I:List Item}
theorem InsSortE_ok{a:Option Addr}{c:Nat}{xs:List Ev}(hn:xs.length≤1000) :
    CallS Tryz.prog κ 315 [.slice a xs.length c,I64 (0),I64 (((xs.length:Nat):Int)),.func (.func 230) #[] #[]] (vc 108 (.slice a xs.length c) (xs)::I) (fun r J=>r = .tuple #[]∧J=vc 108 (.slice a xs.length c) (isortG evC xs)::I):=by
 refine B4 (p:=0<xs.length→a≠none) (vc.isSome mm) fun hsm=>?_
 refine Ce4 Tryz.func315 rfl rfl ?_
 refine Ai (Gm rfl (Gr (Rad rfl rfl) (Ga rfl (Af (A4 (Bv (σ:=Nat×(List Ev)) (fun s=>([(0,.slice a xs.length c),(1,I64 (0)),(2,I64 (((xs.length:Nat):Int))),(3,.func (.func 230) #[] #[]),(8,I64 (((s.1:Nat):Int)))]:Env)) (fun s=>vc 108 (.slice a xs.length c) (s.2)::I) (fun s=>(1≤s.1∧(s.1≤xs.length∨s.1=1))∧(s.2=(isortG evC (xs.take s.1))++xs.drop s.1)) (fun s=>xs.length - s.1) (1,xs) (show (1≤(1:Nat)∧((1:Nat)≤xs.length∨(1:Nat)=1))∧((xs:List Ev)=(isortG evC (xs.take (1:Nat)))++xs.drop (1:Nat)) from ⟨om,(by cases xs<;>rfl)⟩) (Aa rfl (Aa rfl (Aa rfl (Aa rfl (Aa B8 Bg))))) (show Fit κ _ (vc 108 (.slice a xs.length c) ((xs))::I) from A5) ?_))))))
 rintro ⟨i,ys⟩ hp
 dsimp only at hp ⊢
 obtain ⟨hi,hy⟩:=hp
 have hil:=fun h:i≤xs.length=>isort_tlenG evC h
 have hyl:ys.length=xs.length:=by rw [hy,List.length_append,List.length_drop];rcases hi.2 with h|h;(· have:=hil h;omega);(· subst h;cases xs with |nil=>rfl|cons x t=>(have:=hil (by simp);simp at this ⊢; omega))
 refine Au (Ai (Gm rfl (Gm rfl (Gr (A9 rfl rfl) (Af (A7 rfl (fun c14=>?_) (fun c14=>?_)))))))
 ·refine Aw (Aj (Au (A4 (Ai (Gm rfl (Ga rfl (Af (A4 (Bv (σ:=Nat×(List Ev)) (fun s=>([(0,.slice a xs.length c),(1,I64 (0)),(2,I64 (((xs.length:Nat):Int))),(3,.func (.func 230) #[] #[]),(8,I64 ((i:Int))),(9,I64 (((s.1:Nat):Int)))]:Env)) (fun s=>vc 108 (.slice a xs.length c) (s.2)::I) (fun s=>(s.1≤i)∧(s.2=insG (isortG evC (xs.take i)) s.1 (at_ xs (i:Int))++xs.drop (i+1))∧(placeG evC (isortG evC (xs.take i)) (at_ xs (i:Int)) s.1=placeG evC (isortG evC (xs.take i)) (at_ xs (i:Int)) i)) (fun s=>s.1) (i,ys) (show ((i:Nat)≤i)∧((ys:List Ev)=insG (isortG evC (xs.take i)) (i:Nat) (at_ xs (i:Int))++xs.drop (i+1))∧(placeG evC (isortG evC (xs.take i)) (at_ xs (i:Int)) (i:Nat)=placeG evC (isortG evC (xs.take i)) (at_ xs (i:Int)) i) from ⟨om,(by rw [hy];exact ins_startG om),rfl⟩) (Aa rfl (Aa rfl (Aa rfl (Aa rfl (Aa rfl (Aa B8 Bg)))))) (show Fit κ _ (vc 108 (.slice a xs.length c) ((ys))::I) from A5) ?_)))))))))
  rintro ⟨j,zs⟩ hp
  dsimp only at hp ⊢
  obtain ⟨hj,hzs,hpl⟩:=hp
  have hil2:=hil om
  have hz0:at_ zs (j:Int)=(at_ xs (i:Int)):=by rw [hzs];exact at_midG om
  have hz1:0<j→at_ zs ((j:Int) - 1)=at_ (isortG evC (xs.take i)) ((j:Int) - 1):=fun h=>by rw [hzs];exact at_prevG h om
  have hzl:zs.length=xs.length:=by rw [hzs,List.length_append,List.length_drop];unfold insG;rw [List.length_append,List.length_cons,List.length_take,List.length_drop];omega
  refine Au (Au (Bk mixed (Bo (vc 108 (.slice a xs.length c) (zs)::I) 17 (Dr 0 rfl (Ad rfl) (Dr 1 rfl (Ad rfl) (Dr 2 rfl (Bz rfl rfl) (Dr 3 rfl (Ad rfl) (C7 (d:=21) rfl (fun g21=>?_) (fun g21=>?_)))))))))
  ·refine Dro 4 rfl (Ad rfl) (Dro 5 rfl (Ad rfl) (Dro 6 rfl (Ad rfl) (Dro 7 rfl (A3 (α:=Ev) (xs:=zs) A1 ty108 rfl rfl Bf om oo) (Dro 8 rfl (Bu (α:=Ev) (xs:=zs) ty108 rfl Bf om oo) (Dro 9 rfl (Ad rfl) (Dro 10 rfl (Ad rfl) (Dro 11 rfl (Rsu rfl rfl) (Dro 12 rfl (A3 (α:=Ev) (xs:=zs) A1 ty108 rfl rfl Bf om oo) (Dro 13 rfl (Bu (α:=Ev) (xs:=zs) ty108 rfl Bf om oo) (Ds1 14 (Sc0 rfl (Cx call230 rfl rfl rfl (LateC_ok (at_ zs (j:Int)) (at_ zs ((j:Int) - 1)))) ?_)))))))))))
   refine Dro 15 rfl (A9 rfl rfl) (Dr 16 rfl (Ao rfl rfl) (Dz (Aj (Ar (S7 34 0 1 2 3 8 9 rfl rfl rfl rfl rfl rfl rfl) (A7 rfl (fun c34=>?_) (fun c34=>?_))))))
   ·refine Aw (Aj (Au (A4 (Bk mixed (Bo (I) 18 (Dr 0 rfl (Ad rfl) (Dr 1 rfl (Ad rfl) (Dr 2 rfl (Ad rfl) (Dr 3 rfl (Ad rfl) (Dr 4 rfl (Rsu rfl rfl) (Dr 5 rfl (Ad rfl) (Dr 6 rfl (Ad rfl) (Dr 7 rfl (Rsu rfl rfl) (Dr 8 rfl (Runs.idxs Ev A1 ty108 rfl rfl (hsm om) om om) (Dr 10 rfl (Ad rfl) (Dr 11 rfl (Ad rfl) (Dr 12 rfl (Runs.idxs Ev A1 ty108 rfl rfl (hsm om) om om) (Dq (rs:=[9,13]) kr rfl rfl (Ej ?_ (Ew ?_))))))))))))))))))))
    ·refine Sr rfl (Bu (α:=Ev) (xs:=zs) ty108 rfl Bf om oo) A5 ?_
     refine Ds1 13 (Sr rfl (Bu (α:=Ev) (xs:=zs) ty108 rfl Bf om oo) A5 ?_)
     refine Dr 14 rfl (Runs.idxs Ev A1 ty108 rfl rfl (hsm om) om om) (Ds1 15 (Se0 rfl (C6 (α:=Ev) (xs:=zs) (e:=108) (new:=⟨(at_ zs ((j:Int) - 1)).kd,(at_ zs ((j:Int) - 1)).tm,(at_ zs ((j:Int) - 1)).u,(at_ zs ((j:Int) - 1)).v,(at_ zs ((j:Int) - 1)).w,(at_ zs ((j:Int) - 1)).lb,(at_ zs ((j:Int) - 1)).sg⟩) ty108 rfl rfl rfl om oo am) ?_))
     refine Dr 16 rfl (Runs.idxs Ev A1 ty108 rfl rfl (hsm om) om om) (Ds1 17 (Se0 rfl (C6 (α:=Ev) (xs:=List.set zs ((j:Int)).toNat (⟨(at_ zs ((j:Int) - 1)).kd,(at_ zs ((j:Int) - 1)).tm,(at_ zs ((j:Int) - 1)).u,(at_ zs ((j:Int) - 1)).v,(at_ zs ((j:Int) - 1)).w,(at_ zs ((j:Int) - 1)).lb,(at_ zs ((j:Int) - 1)).sg⟩)) (e:=108) (new:=⟨(at_ zs (j:Int)).kd,(at_ zs (j:Int)).tm,(at_ zs (j:Int)).u,(at_ zs (j:Int)).v,(at_ zs (j:Int)).w,(at_ zs (j:Int)).lb,(at_ zs (j:Int)).sg⟩) ty108 rfl rfl rfl om oo am) ?_))
     exact Dz (Ak (Aj (Ar (S6 0 1 2 3 8 9 rfl rfl rfl rfl rfl rfl) (Az (Gm rfl (Gr (Rsu rfl rfl) (Ga rfl (Bc (B3 ((j - 1),(List.set (List.set zs ((j:Int)).toNat (⟨(at_ zs ((j:Int) - 1)).kd,(at_ zs ((j:Int) - 1)).tm,(at_ zs ((j:Int) - 1)).u,(at_ zs ((j:Int) - 1)).v,(at_ zs ((j:Int) - 1)).w,(at_ zs ((j:Int) - 1)).lb,(at_ zs ((j:Int) - 1)).sg⟩)) ((j:Int) - 1).toNat (⟨(at_ zs (j:Int)).kd,(at_ zs (j:Int)).tm,(at_ zs (j:Int)).u,(at_ zs (j:Int)).v,(at_ zs (j:Int)).w,(at_ zs (j:Int)).lb,(at_ zs (j:Int)).sg⟩))) (by dsimp only;exact ⟨om,(by have hsw:=ins_swapG (l:=(isortG evC (xs.take i))) (r:=xs.drop (i+1)) (x:=(at_ xs (i:Int))) (show 0<j by omega) om;rw [←hzs,←hz0,←hz1 om] at hsw;rw [hz0] at hsw ⊢; rw [show (((j:Int)).toNat)=j by omega,show (((j:Int) - 1).toNat)=j - 1 by omega];exact hsw),((place_stepG om (by rw [←hz1 om,←hz0];assumption)).trans hpl)⟩))))))))))
    ·refine Sr rfl (Bu (α:=Ev) (xs:=zs) ty108 rfl Bf om oo) A5 ?_
     refine Ds1 9 (Sr rfl (Bu (α:=Ev) (xs:=zs) ty108 rfl Bf om oo) A5 ?_)
     refine Dr 14 rfl (Runs.idxs Ev A1 ty108 rfl rfl (hsm om) om om) (Ds1 15 (Se0 rfl (C6 (α:=Ev) (xs:=zs) (e:=108) (new:=⟨(at_ zs ((j:Int) - 1)).kd,(at_ zs ((j:Int) - 1)).tm,(at_ zs ((j:Int) - 1)).u,(at_ zs ((j:Int) - 1)).v,(at_ zs ((j:Int) - 1)).w,(at_ zs ((j:Int) - 1)).lb,(at_ zs ((j:Int) - 1)).sg⟩) ty108 rfl rfl rfl om oo am) ?_))
     refine Dr 16 rfl (Runs.idxs Ev A1 ty108 rfl rfl (hsm om) om om) (Ds1 17 (Se0 rfl (C6 (α:=Ev) (xs:=List.set zs ((j:Int)).toNat (⟨(at_ zs ((j:Int) - 1)).kd,(at_ zs ((j:Int) - 1)).tm,(at_ zs ((j:Int) - 1)).u,(at_ zs ((j:Int) - 1)).v,(at_ zs ((j:Int) - 1)).w,(at_ zs ((j:Int) - 1)).lb,(at_ zs ((j:Int) - 1)).sg⟩)) (e:=108) (new:=⟨(at_ zs (j:Int)).kd,(at_ zs (j:Int)).tm,(at_ zs (j:Int)).u,(at_ zs (j:Int)).v,(at_ zs (j:Int)).w,(at_ zs (j:Int)).lb,(at_ zs (j:Int)).sg⟩) ty108 rfl rfl rfl om oo am) ?_))
     exact Dz (Ak (Aj (Ar (S6 0 1 2 3 8 9 rfl rfl rfl rfl rfl rfl) (Az (Gm rfl (Gr (Rsu rfl rfl) (Ga rfl (Bc (B3 ((j - 1),(List.set (List.set zs ((j:Int)).toNat (⟨(at_ zs ((j:Int) - 1)).kd,(at_ zs ((j:Int) - 1)).tm,(at_ zs ((j:Int) - 1)).u,(at_ zs ((j:Int) - 1)).v,(at_ zs ((j:Int) - 1)).w,(at_ zs ((j:Int) - 1)).lb,(at_ zs ((j:Int) - 1)).sg⟩)) ((j:Int) - 1).toNat (⟨(at_ zs (j:Int)).kd,(at_ zs (j:Int)).tm,(at_ zs (j:Int)).u,(at_ zs (j:Int)).v,(at_ zs (j:Int)).w,(at_ zs (j:Int)).lb,(at_ zs (j:Int)).sg⟩))) (by dsimp only;exact ⟨om,(by have hsw:=ins_swapG (l:=(isortG evC (xs.take i))) (r:=xs.drop (i+1)) (x:=(at_ xs (i:Int))) (show 0<j by omega) om;rw [←hzs,←hz0,←hz1 om] at hsw;rw [hz0] at hsw ⊢; rw [show (((j:Int)).toNat)=j by omega,show (((j:Int) - 1).toNat)=j - 1 by omega];exact hsw),((place_stepG om (by rw [←hz1 om,←hz0];assumption)).trans hpl)⟩))))))))))
   ·exact Bs (Am (Am (A6 (Ak (Aj (Az (Gm rfl (Gr (Rad rfl rfl) (Ga rfl (Bc (B3 ((i+1),(zs)) (by dsimp only;exact ⟨om,(by rw [hzs];exact ins_endsG om hpl (by first|exact .inl om|(by_cases h0:j=0;(· exact .inl h0);(· exact .inr ⟨by omega,by rw [←hz0,←hz1 om];assumption⟩))))⟩))))))))))))
  ·exact Dpo 4 rfl (Dpo 5 rfl (Dpo 6 rfl (Dpo 7 rfl (Dpo 8 rfl (Dpo 9 rfl (Dpo 10 rfl (Dpo 11 rfl (Dpo 12 rfl (Dpo 13 rfl (Dpo 14 rfl (Dpo 15 rfl (Dr 16 rfl (Al rfl rfl) (Dz (Aj (Ar (S7 34 0 1 2 3 8 9 rfl rfl rfl rfl rfl rfl rfl) (C9 rfl (Bs (Am (Am (A6 (Ak (Aj (Az (Gm rfl (Gr (Rad rfl rfl) (Ga rfl (Bc (B3 ((i+1),(zs)) (by dsimp only;exact ⟨om,(by rw [hzs];exact ins_endsG om hpl (by first|exact .inl om|(by_cases h0:j=0;(· exact .inl h0);(· exact .inr ⟨by omega,by rw [←hz0,←hz1 om];assumption⟩))))⟩)))))))))))))))))))))))))))))
 ·refine Bs (Am (Am (A6 ?_)))
  have hE:ys=isortG evC xs:=by rw [hy];rcases hi.2 with h|h;(· have e:i=xs.length:=om;rw [e,List.take_length,List.drop_length,List.append_nil]);(· rw [List.take_of_length_le om,List.drop_eq_nil_of_le om,List.append_nil])
  exact V.end0 rfl (vc 108 (.slice a xs.length c) (isortG evC xs)::I) (by rw [hE];exact A5) ⟨rfl,rfl⟩
theorem StableE_ok{a:Option Addr}{c:Nat}{xs:List Ev}(hn:xs.length≤19) :
    CallS Tryz.prog κ 280 [.slice a xs.length c,I64 (((xs.length:Nat):Int)),.func (.func 230) #[] #[]] (vc 108 (.slice a xs.length c) (xs)::I) (fun r J=>r = .tuple #[]∧J=vc 108 (.slice a xs.length c) (isortG evC xs)::I):=by
 refine Ce3 Tryz.func280 rfl rfl ?_
 refine Ai (Ga rfl (Af (Ai (Gm rfl (Ga rfl (Ga rfl (Af (Au (A4 (Bv (σ:=Nat) (fun s=>([(0,.slice a xs.length c),(1,I64 (((xs.length:Nat):Int))),(2,.func (.func 230) #[] #[]),(6,I64 (20)),(7,I64 (0)),(8,I64 (20))]:Env)) (fun s=>vc 108 (.slice a xs.length c) (xs)::I) (fun s=>True) (fun s=>0) (0) (show True from trivial) (Aa rfl (Aa rfl (Aa rfl (Aa rfl (Aa rfl (Aa rfl Bg)))))) (show Fit κ _ (vc 108 (.slice a xs.length c) (xs)::I) from A5) ?_))))))))))
 rintro z hp
 refine Au (Ai (Gm rfl (Gm rfl (Gr (Dt rfl rfl) (Af (A7 rfl (fun c13=>?_) (fun c13=>?_)))))))
 ·omega
 ·refine Bs (Am (Am (A6 (Aj (Ai (Gm rfl (Gm rfl (Gm rfl (Gm rfl (Gc1 (Ap call315 rfl rfl (Cj (J:=vc 108 (.slice a xs.length c) (xs)::I) Bt (InsSortE_ok (xs:=xs) om))) ?_))))))))))
  refine Af (Ar (S4 0 1 2 6 rfl rfl rfl rfl) (A4 (Bv (σ:=Nat) (fun s=>([(0,.slice a xs.length c),(1,I64 (((xs.length:Nat):Int))),(2,.func (.func 230) #[] #[]),(6,I64 (20))]:Env)) (fun s=>vc 108 (.slice a xs.length c) (isortG evC xs)::I) (fun s=>True) (fun s=>0) (0) (show True from trivial) (Aa rfl (Aa rfl (Aa rfl (Aa rfl Bg)))) (show Fit κ _ (vc 108 (.slice a xs.length c) (isortG evC xs)::I) from A5) ?_)))
  rintro z hp
  refine Au (Ai (Gm rfl (Gm rfl (Gr (A9 rfl rfl) (Af (A7 rfl (fun c30=>?_) (fun c30=>?_)))))))
  ·omega
  ·exact Bs (Am (Am (A6 (V.end0 rfl (vc 108 (.slice a xs.length c) (isortG evC xs)::I) A5 ⟨rfl,rfl⟩))))
theorem SortStableE_ok{a:Option Addr}{c:Nat}{xs:List Ev}(hn:xs.length≤19) :
    CallS Tryz.prog κ 229 [.slice a xs.length c,.func (.func 230) #[] #[]] (vc 108 (.slice a xs.length c) (xs)::I) (fun r J=>r = .tuple #[]∧J=vc 108 (.slice a xs.length c) (isortG evC xs)::I):=by
 refine Ce2 Tryz.func229 rfl rfl ?_
 refine Az (Gm rfl (Gm rfl (Gr (Bp A1 rfl) (Gm rfl (Gc1 (Ap call280 rfl rfl (Cj (J:=vc 108 (.slice a xs.length c) (xs)::I) Bt (StableE_ok (xs:=xs) om))) ?_)))))
 exact Bc (V.end0 rfl (vc 108 (.slice a xs.length c) (isortG evC xs)::I) A5 ⟨rfl,rfl⟩)
theorem late_yes{kd wd:Int}{xs:List Lk}{k:Nat}(h:k<xs.length)(h1:kd=2)(h2:(at_ xs (k:Int)).tm+wd≤1048576):lateL kd wd (xs.take (k+1))=lateL kd wd (xs.take k)++[cutAt wd (at_ xs (k:Int))]:=by
 rw [lateL_take h,if_pos (show lateP kd wd (at_ xs (k:Int))=true from decide_eq_true ⟨h1,h2⟩)]
theorem late_no{kd wd:Int}{xs:List Lk}{k:Nat}(h:k<xs.length)(h1:¬kd=2∨¬(at_ xs (k:Int)).tm+wd≤1048576):lateL kd wd (xs.take (k+1))=lateL kd wd (xs.take k):=by
 rw [lateL_take h,if_neg (fun h=>by have h3:=of_decide_eq_true h;rcases h1 with h1|h1<;>omega),List.append_nil]
theorem Late_ok{nd kd wd mo:Int}{va:Value}{xs:List Lk}(hl:Sl κ I va xs)(hv:checkS nd xs=0)(hw:0≤wd∧wd≤1048576)(hsz:xs.length≤19) :
    CallS Tryz.prog κ 166 [.agg #[I64 (nd),va],.agg #[I64 (kd),I64 (wd),I64 (mo)]] I (fun r J=>∃a c,r = .slice a (isortG evC (lateL kd wd xs)).length c∧J=vc 108 (.slice a (isortG evC (lateL kd wd xs)).length c) (isortG evC (lateL kd wd xs))::I):=by
 refine B4 hl.le fun hmax=>?_
 refine Ce2 Tryz.func166 rfl rfl ?_
 refine Ai (Ge1 (Bd (cs:=[_,_]) rfl rfl rfl) fun b1=>Ge1 (Bd (cs:=[_,_,_]) rfl rfl rfl) fun b2=>Ga rfl (Af (Ai (Ga rfl (Af (Au (Ai (Gf fld111_1 rfl (Gl ty109 ?_)))))))))
 refine Gr (Bx (α:=Lk) (xs:=xs) Aq rfl (Bj hl)) (Gm rfl (Af (A4 (Bv (σ:=Nat×(Option Addr)×Nat×(List Ev)) (fun s=>([(3,.pointer (some ⟨b2,0,none⟩)),(5,.slice s.2.1 s.2.2.2.length s.2.2.1),(10,va),(11,I64 (((xs.length:Nat):Int))),(12,I64 (((s.1:Nat):Int)))]:Env)) (fun s=>vc 108 (.slice s.2.1 s.2.2.2.length s.2.2.1) (s.2.2.2)::blk b2 [I64 (kd),I64 (wd),I64 (mo)] 31::blk b1 [I64 (nd),va] 111::I) (fun s=>(s.1≤xs.length)∧(s.2.2.2=lateL kd wd (xs.take s.1))) (fun s=>xs.length - s.1) (0,none,0,[]) (show ((0:Nat)≤xs.length)∧(([]:List Ev)=lateL kd wd (xs.take (0:Nat))) from ⟨om,rfl⟩) (Aa rfl (Aa (Cp rfl (by first|rfl|simp)) (Aa rfl (Aa rfl (Aa B8 Bg))))) (show Fit κ _ (vc 108 (.slice (none) ([]).length (0)) (([]))::blk b2 [I64 (kd),I64 (wd),I64 (mo)] 31::blk b1 [I64 (nd),va] 111::I) from (Bw _ _)) ?_))))
 rintro ⟨k,a,c,out⟩ hp
 dsimp only at hp ⊢
 obtain ⟨hk,ho⟩:=hp
 have hol:out.length≤k:=by rw [ho];have h1:=lateL_len kd wd (xs.take k);rw [List.length_take] at h1;omega
 refine Ai (Gr (A9 rfl rfl) (Af (Au (A7 rfl (fun c13=>?_) (fun c13=>?_)))))
 ·refine Aw (Aj (Au (A4 (Ai (Gr (A3 (α:=Lk) (xs:=xs) Aq ty146 rfl rfl (Bj hl) om om) (Gr (Bu (α:=Lk) (xs:=xs) ty146 rfl (Bj hl) om om) (Ge1 (A8 ty146 rfl) fun b3=>Ge0 (D3 ty146) ?_)))))))
  have htk:=checkS_tm hv (k:Int) om om
  refine Af (Ai (Gf fld146_5 rfl (Gl ty3 ?_)))
  refine Gf fld31_1 rfl (Gl ty3 ?_)
  refine Gr (Rad rfl rfl) (Ga rfl (Af (Ar (S7 8 7 3 5 10 11 12 rfl rfl rfl rfl rfl rfl rfl) (Ai (Gf fld31_0 rfl (Gl ty3 ?_))))))
  refine Gr (Bi rfl rfl) (Gm rfl (Bb (d:=24) rfl (fun g24=>?_) (fun g24=>?_)))
  ·refine Gro (Ad rfl) (Gro (Dt rfl rfl) (Gr (Ao rfl rfl) (Af (Ar (S8 27 8 7 3 5 10 11 12 rfl rfl rfl rfl rfl rfl rfl rfl) (A7 rfl (fun c27=>?_) (fun c27=>?_))))))
   ·refine Az (Gm rfl (Gm rfl (Gf fld146_0 rfl (Gl ty3 ?_))))
    refine Gf fld146_1 rfl (Gl ty3 ?_)
    refine Gr (Bl (cells:=[_,_,_,_,_,_,_]) ty108 C4 pl108 rfl rfl) (Ge1 (B1 (α:=Ev) (cs:=[I64 (2),I64 (((at_ xs (k:Int)).tm)+wd),I64 ((at_ xs (k:Int)).u),I64 ((at_ xs (k:Int)).v),I64 (0),I64 (0),I64 (0)]) (xs:=[⟨2,((at_ xs (k:Int)).tm)+wd,(at_ xs (k:Int)).u,(at_ xs (k:Int)).v,0,0,0⟩]) A1 ty108 rfl rfl dc dc rfl kr rfl rfl) fun ad4=>?_)
    refine Ge2 (B0 (α:=Ev) (e:=108) (xs:=out) (ys:=([⟨2,((at_ xs (k:Int)).tm)+wd,(at_ xs (k:Int)).u,(at_ xs (k:Int)).v,0,0,0⟩]:List Ev)) A1 ty108 rfl rfl rfl mm Bf lcn dc rfl (fun _ _=>am)) fun ad5 cp6=>?_
    exact Ga rfl (Bc (Ak (Aj (Ar (S5 5 3 10 11 12 rfl rfl rfl rfl rfl) (Az (Gr (Rad rfl rfl) (Gm rfl (Bc (B3 ((k+1),(ad5),(cp6),(out++([⟨2,((at_ xs (k:Int)).tm)+wd,(at_ xs (k:Int)).u,(at_ xs (k:Int)).v,0,0,0⟩]:List Ev))) (by dsimp only;exact ⟨om,(by first|(rw [late_yes om g24 asm,←ho];rfl)|(rw [late_no om (.inl g24),←ho])|(rw [late_no om (.inr asm),←ho]))⟩))))))))))
   ·exact Aw (Ak (Aj (Az (Gr (Rad rfl rfl) (Gm rfl (Bc (B3 ((k+1),(a),(c),(out)) (by dsimp only;exact ⟨om,(by first|(rw [late_yes om g24 asm,←ho];rfl)|(rw [late_no om (.inl g24),←ho])|(rw [late_no om (.inr asm),←ho]))⟩))))))))
  ·exact Gpo (Gpo (Gr (Al rfl rfl) (Af (Ar (S8 27 8 7 3 5 10 11 12 rfl rfl rfl rfl rfl rfl rfl rfl) (C9 rfl (Aw (Ak (Aj (Az (Gr (Rad rfl rfl) (Gm rfl (Bc (B3 ((k+1),(a),(c),(out)) (by dsimp only;exact ⟨om,(by first|(rw [late_yes om g24 asm,←ho];rfl)|(rw [late_no om (.inl g24),←ho])|(rw [late_no om (.inr asm),←ho]))⟩))))))))))))))
 ·refine Bs (Am (Am (A6 (Aj (Ai (Gm rfl (Gc1 (Ap call229 rfl rfl (Cj (J:=vc 108 (.slice a out.length c) (out)::blk b2 [I64 (kd),I64 (wd),I64 (mo)] 31::blk b1 [I64 (nd),va] 111::I) Bt (SortStableE_ok (xs:=out) om))) ?_)))))))
  refine Af (Ai (Gm rfl (Ga rfl (Af (Ax ?_)))))
  have hE:out=lateL kd wd xs:=by rw [ho,List.take_of_length_le om]
  have hEl:(isortG evC out).length=out.length:=(Ee evC out).length_eq
  exact Ay rfl rfl (vc 108 (.slice a (isortG evC (lateL kd wd xs)).length c) (isortG evC (lateL kd wd xs))::I) (by rw [←hE,hEl];exact Bt) ⟨a,c,by rw [←hE,hEl],rfl⟩
end Go.Sl
/- Searching what is left of a network: the plain law of the search by layers. No Go. -/
namespace Go.Sl
section
variable (n:Net)(f out:List Int)
def un:Nat:=out.count (-1)
end
section
variable {n:Net}{f out todo:List Int}{x:Int}{k1 k2:Nat}
theorem un_set{y i:Int}(hy:0≤y∧y<out.length)(h:at_ out y = -1)(hi:i ≠ -1):un (out.set y.toNat i)+1=un out:=by
 unfold un
 have hl:y.toNat<out.length:=by omega
 have hg:out[y.toNat] = -1:=by rw [at_eq hy.1 hy.2] at h;exact h
 rw [List.count_set hl]
 have hpos:0<out.count (-1):=List.count_pos_iff.2 (hg▸List.getElem_mem hl)
 have e1:(out[y.toNat]==(-1:Int))=true:=by simp [hg]
 have e2:(i==(-1:Int))=false:=by simpa using hi
 rw [e1,e2]
 simp only [if_true,Bool.false_eq_true,if_false]
 omega
end
end Go.Sl
/- Flows and cuts: the plain law. No Go. -/
namespace Go.Sl
def netF(n:Net)(f:List Int)(v:Int):Int:=
 sumN n.arcs.length fun k=>(if (at_ n.arcs (k:Int)).frm=v then at_ f (k:Int) else 0) - (if (at_ n.arcs (k:Int)).dst=v then at_ f (k:Int) else 0)
structure IsFlow (n:Net) (f:List Int):Prop where
 len:f.length=n.arcs.length
 cap:∀k:Nat,k<n.arcs.length→0≤at_ f (k:Int)∧at_ f (k:Int)≤(at_ n.arcs (k:Int)).cap
 cons:∀v,0≤v→v<n.nodes→v≠n.source→v≠n.sink→netF n f v=0
def cutS(n:Net)(S:Int→Bool):Int:=sumN n.arcs.length fun k=>if S (at_ n.arcs (k:Int)).frm && !S (at_ n.arcs (k:Int)).dst then (at_ n.arcs (k:Int)).cap else 0
theorem arc_at{n:Net}(hok:n.Ok){k:Nat}(hk:k<n.arcs.length):(0≤(at_ n.arcs (k:Int)).frm∧(at_ n.arcs (k:Int)).frm<n.nodes)∧(0≤(at_ n.arcs (k:Int)).dst∧(at_ n.arcs (k:Int)).dst<n.nodes)∧(at_ n.arcs (k:Int)).frm≠(at_ n.arcs (k:Int)).dst∧0≤(at_ n.arcs (k:Int)).cap∧(at_ n.arcs (k:Int)).cap≤1099511627776:=
 hok.arc _ (Cf om om)
theorem sumN_ind{m:Nat}{v:Int}(h0:0≤v)(h1:v<m)(S:Int→Bool)(c:Int):sumN m (fun j=>if S (j:Int) then (if v=(j:Int) then c else 0) else 0)=if S v then c else 0:=by
 have e:v=((v.toNat:Nat):Int):=by omega
 rw [Dp m (h:=fun j=>if j=v.toNat then (if S v then c else 0) else 0) fun j hj=>?_]
 ·exact sumN_at om _
 ·by_cases hj:j=v.toNat
  ·subst hj;rw [if_pos rfl,←e,if_pos rfl]
  ·rw [if_neg hj,if_neg (show ¬v=(j:Int) by omega)];split<;>rfl
theorem value_cut{n:Net}(hok:n.Ok){f:List Int}(hf:IsFlow n f)(S:Int→Bool)(hs:S n.source=true)(ht:S n.sink=false) :
  netF n f n.source=sumN n.arcs.length fun k=>(if S (at_ n.arcs (k:Int)).frm && !S (at_ n.arcs (k:Int)).dst then at_ f (k:Int) else 0) - (if S (at_ n.arcs (k:Int)).dst && !S (at_ n.arcs (k:Int)).frm then at_ f (k:Int) else 0):=by
 have hsrc:=hok.src
 -- the sum of what goes out of the nodes of S
 have h1:sumN n.nodes.toNat (fun v=>if S (v:Int) then netF n f (v:Int) else 0)=netF n f n.source:=by
  rw [Dp n.nodes.toNat (h:=fun j=>if j=n.source.toNat then netF n f n.source else 0) fun j hj=>?_]
  ·exact sumN_at om _
  ·by_cases hj':j=n.source.toNat
   ·subst hj'
    rw [if_pos rfl,show ((n.source.toNat:Nat):Int)=n.source from by omega,hs];simp
   ·rw [if_neg hj']
    by_cases hS:S (j:Int)=true
    ·rw [if_pos hS]
     refine hf.cons _ om om (fun e=>hj' om) fun e=>?_
     rw [e,ht] at hS;cases hS
    ·rw [if_neg hS]
 rw [←h1]
 have h2:sumN n.nodes.toNat (fun v=>if S (v:Int) then netF n f (v:Int) else 0) =
   sumN n.nodes.toNat (fun v=>sumN n.arcs.length fun k=>(if S (v:Int) then (if (at_ n.arcs (k:Int)).frm=(v:Int) then at_ f (k:Int) else 0) else 0) - (if S (v:Int) then (if (at_ n.arcs (k:Int)).dst=(v:Int) then at_ f (k:Int) else 0) else 0)):=
  Dp _ fun v _=>by
   by_cases hS:S (v:Int)=true
   ·rw [if_pos hS];unfold netF
    exact Dp _ fun k _=>by rw [if_pos hS,if_pos hS]
   ·rw [if_neg hS]
    exact (sumN_eq_zero _ fun k _=>by rw [if_neg hS,if_neg hS];rfl).symm
 rw [h2,sumN_swap]
 refine Dp _ fun k hk=>?_
 have ha:=arc_at hok hk
 rw [sumN_sub,sumN_ind ha.1.1 om,sumN_ind ha.2.1.1 om]
 cases S (at_ n.arcs (k:Int)).frm<;>cases S (at_ n.arcs (k:Int)).dst<;>simp
theorem value_le{n:Net}(hok:n.Ok){f:List Int}(hf:IsFlow n f)(S:Int→Bool)(hs:S n.source=true)(ht:S n.sink=false):netF n f n.source≤cutS n S:=by
 rw [value_cut hok hf S hs ht]
 refine sumN_le _ fun k hk=>?_
 have hc:=hf.cap k hk
 cases S (at_ n.arcs (k:Int)).frm<;>cases S (at_ n.arcs (k:Int)).dst<;>simp<;>omega
def Shut(n:Net)(f:List Int)(S:Int→Bool):Prop:=∀k:Nat,k<n.arcs.length→
 (S (at_ n.arcs (k:Int)).frm=true→at_ f (k:Int)<(at_ n.arcs (k:Int)).cap→S (at_ n.arcs (k:Int)).dst=true)∧
 (S (at_ n.arcs (k:Int)).dst=true→0<at_ f (k:Int)→S (at_ n.arcs (k:Int)).frm=true)
theorem shut_value{n:Net}(hok:n.Ok){f:List Int}(hf:IsFlow n f){S:Int→Bool}(hs:S n.source=true)(ht:S n.sink=false):netF n f n.source=cutS n S↔Shut n f S:=by
 rw [value_cut hok hf S hs ht]
 have hle:∀k,k<n.arcs.length→((if S (at_ n.arcs (k:Int)).frm && !S (at_ n.arcs (k:Int)).dst then at_ f (k:Int) else 0) - (if S (at_ n.arcs (k:Int)).dst && !S (at_ n.arcs (k:Int)).frm then at_ f (k:Int) else 0))≤(if S (at_ n.arcs (k:Int)).frm && !S (at_ n.arcs (k:Int)).dst then (at_ n.arcs (k:Int)).cap else 0):=fun k hk=>by
  have hc:=hf.cap k hk
  cases S (at_ n.arcs (k:Int)).frm<;>cases S (at_ n.arcs (k:Int)).dst<;>simp<;>omega
 constructor
 ·intro h k hk
  have:=sumN_eq_terms _ hle h k hk
  have hc:=hf.cap k hk
  revert this
  cases h1:S (at_ n.arcs (k:Int)).frm<;>cases h2:S (at_ n.arcs (k:Int)).dst<;>simp<;>omega
 ·intro h
  refine Dp _ fun k hk=>?_
  have hc:=hf.cap k hk
  have:=h k hk
  revert this
  cases h1:S (at_ n.arcs (k:Int)).frm<;>cases h2:S (at_ n.arcs (k:Int)).dst<;>simp<;>omega
end Go.Sl
/- Sending along a way: the plain law. No Go. -/
namespace Go.Sl
section
variable {n:Net}{f out:List Int}{rk:Int→Nat}
theorem netF_set{k:Nat}(hk:k<n.arcs.length){f1:List Int}(hl:f1.length=n.arcs.length)(c v:Int) :
  netF n (f1.set k c) v=netF n f1 v+(if (at_ n.arcs (k:Int)).frm=v then c - at_ f1 (k:Int) else 0) - (if (at_ n.arcs (k:Int)).dst=v then c - at_ f1 (k:Int) else 0):=by
 have hat:∀j:Nat,at_ (f1.set k c) (j:Int)=if k=j then c else at_ f1 (j:Int):=fun j=>at_setn f1 k j c om
 unfold netF
 rw [sumN_upd hk (g:=fun k=>(if (at_ n.arcs (k:Int)).frm=v then at_ f1 (k:Int) else 0) - (if (at_ n.arcs (k:Int)).dst=v then at_ f1 (k:Int) else 0)) (fun j hj hjk=>by simp only [hat j,if_neg (fun e=>hjk e.symm:¬k=j)])]
 simp only [hat k,if_true]
 split<;>split<;>omega
theorem at_all{p:Int→Prop}{i:Int}{m:Nat}(h:∀k:Nat,k<m→p (k:Int))(h0:0≤i)(hi:i<m):p i:=by
 have:=h i.toNat om
 rwa [show ((i.toNat:Nat):Int)=i from by omega] at this
theorem arc_ok(hok:n.Ok){i:Int}(h0:0≤i)(hi:i<n.arcs.length):(0≤(at_ n.arcs i).frm∧(at_ n.arcs i).frm<n.nodes)∧(0≤(at_ n.arcs i).dst∧(at_ n.arcs i).dst<n.nodes)∧(at_ n.arcs i).frm≠(at_ n.arcs i).dst∧0≤(at_ n.arcs i).cap∧(at_ n.arcs i).cap≤1099511627776:=hok.arc _ (Cf h0 hi)
theorem cap_ok(hf:∀k:Nat,k<n.arcs.length→0≤at_ f (k:Int)∧at_ f (k:Int)≤(at_ n.arcs (k:Int)).cap){i:Int}(h0:0≤i)(hi:i<n.arcs.length):0≤at_ f i∧at_ f i≤(at_ n.arcs i).cap:=at_all (p:=fun i=>0≤at_ f i∧at_ f i≤(at_ n.arcs i).cap) hf h0 hi
end
end Go.Sl
/- The least and the greatest side of a cut: the plain law. No Go. -/
namespace Go.Sl
def sideL(N:Nat)(R:Int→Bool):List Int:=((List.range N).map fun k=>((k:Nat):Int)).filter R
theorem sideL_succ(N:Nat)(R:Int→Bool):sideL (N+1) R=sideL N R++if R (N:Int) then [(N:Int)] else []:=by
 unfold sideL
 rw [List.range_succ,List.map_append,List.filter_append]
 congr 1
 by_cases h:R (N:Int)<;>simp [h]
theorem sideL_yes{N:Nat}{R:Int→Bool}(h:R (N:Int)=true):sideL (N+1) R=sideL N R++[(N:Int)]:=by rw [sideL_succ,if_pos h]
theorem sideL_no{N:Nat}{R:Int→Bool}(h:R (N:Int)=false):sideL (N+1) R=sideL N R:=by rw [sideL_succ,h];simp
theorem sideL_len(N:Nat)(R:Int→Bool):(sideL N R).length≤N:=by
 have:=List.length_filter_le R ((List.range N).map fun k=>((k:Nat):Int))
 simpa [sideL] using this
theorem mem_sideL{N:Nat}{R:Int→Bool}{z:Int}:z∈sideL N R↔(0≤z∧z<N)∧R z=true:=by
 unfold sideL
 rw [List.mem_filter,List.mem_map]
 constructor
 ·rintro ⟨⟨k,hk,rfl⟩,h⟩
  exact ⟨⟨by omega,by have:=List.mem_range.1 hk;omega⟩,h⟩
 ·rintro ⟨⟨h0,h1⟩,h⟩
  exact ⟨⟨z.toNat,List.mem_range.2 om,by omega⟩,h⟩
structure Great (n:Net) (f:List Int) (T:Int→Bool):Prop where
 src:T n.source=true
 snk:T n.sink=false
 shut:Shut n f T
 great:∀S:Int→Bool,Shut n f S→S n.sink=false→∀z,0≤z→z<n.nodes→S z=true→T z=true
section
variable {n:Net}{f g:List Int}{R R':Int→Bool}
theorem Great.value(hok:n.Ok)(hf:IsFlow n f)(h:Great n f R):netF n f n.source=cutS n R:=(shut_value hok hf h.src h.snk).2 h.shut
end
theorem cut_nonneg_le{n:Net}(hok:n.Ok)(S:Int→Bool):0≤cutS n S∧cutS n S≤18014398509481984:=by
 have h:∀m:Nat,m≤n.arcs.length→0≤sumN m (fun k=>if S (at_ n.arcs (k:Int)).frm && !S (at_ n.arcs (k:Int)).dst then (at_ n.arcs (k:Int)).cap else 0)∧sumN m (fun k=>if S (at_ n.arcs (k:Int)).frm && !S (at_ n.arcs (k:Int)).dst then (at_ n.arcs (k:Int)).cap else 0)≤(m:Int)*1099511627776:=fun m=>by
  induction m with
  |zero=>intro _;simp [sumN]
  |succ m ih=>
   intro hm
   have:=ih om
   have:=arc_at hok (k:=m) om
   simp only [sumN]
   split<;>omega
 have:=h n.arcs.length (Nat.le_refl _)
 have:=hok.lim
 unfold cutS
 omega
theorem flow_zero(n:Net)(hok:n.Ok):IsFlow n (List.replicate n.arcs.length (0:Int))∧netF n (List.replicate n.arcs.length (0:Int)) n.source=0:=by
 have h0:∀k:Nat,k<n.arcs.length→at_ (List.replicate n.arcs.length (0:Int)) (k:Int)=0:=fun k hk=>at_rep _ _ _ om om
 have hn:∀v,netF n (List.replicate n.arcs.length (0:Int)) v=0:=fun v=>sumN_eq_zero _ fun k hk=>by rw [h0 k hk];simp
 exact ⟨⟨by simp,fun k hk=>by rw [h0 k hk];have:=arc_at hok hk;omega,fun v _ _ _ _=>hn v⟩,hn _⟩
end Go.Sl
/- Searching back from the sink: the plain law. No Go. -/
namespace Go.Sl
end Go.Sl
/- What a check of a flow accepts: the plain law. No Go. -/
namespace Go.Sl
section
variable {n:Net}{f side:List Int}{val:Int}
theorem sideL_valid(N:Nat)(R:Int→Bool):ValidP (sideL N R) (N:Int):=by
 induction N with
 |zero=>exact ValidP_nil _
 |succ N ih=>
  rw [sideL_succ]
  split
  ·have:=ValidP_push ih om
   exact this
  ·rw [List.append_nil];exact ValidP_mono ih om
end
end Go.Sl
/- Networks with one arc more, and turned round; sets between the least and the greatest side: the plain law. No Go. -/
namespace Go.Sl
end Go.Sl
namespace Go.Sl
open Go.Proofs
set_option maxRecDepth 4000
theorem intLin:LinO (fun a b:Int=>a<b):=⟨fun a h=>by omega,fun a b c h1 h2=>by omega,fun a b=>by omega⟩
theorem putL_eq(x:Int):∀l,putL l x=insB (fun a b:Int=>a<b) l x
 |[]=>rfl
 |y::ys=>by simp only [putL,insB,putL_eq x ys]
theorem ofL_eq(l:List Int):ofL l=sortB (fun a b:Int=>a<b) l:=by
 unfold ofL sortB
 congr 1
 funext acc x
 exact putL_eq x acc
theorem ofL_asc(l:List Int):(ofL l).Pairwise (fun a b:Int=>a<b):=by rw [ofL_eq];exact intLin.sortB l
theorem ValidP_iff{l:List Int}{N:Int}:ValidP l N↔(∀x∈l,0≤x∧x<N)∧l.Pairwise (fun a b:Int=>a<b):=by
 constructor
 ·intro h
  refine ⟨fun x hx=>ValidP_mem h hx,pairwise_next intLin.tr fun i hi=>?_⟩
  have:=(h (i+1) hi).2 om
  rwa [show ((i+1:Nat):Int) - 1=(i:Int) from by omega] at this
 ·rintro ⟨h1,h2⟩ j hj
  refine ⟨h1 _ (Cf om om),fun h0=>?_⟩
  have:=(pairwise_at l).1 h2 (j - 1) j om hj
  rwa [show ((j - 1:Nat):Int)=(j:Int) - 1 from by omega] at this
end Go.Sl
/- Cuts of graphs: how many edges a set separates; least cuts; which nodes few edges cannot separate. No Go. No conditions. -/
namespace Go.Sl
theorem sumN_list{α:Type}[Inhabited α](g:α→Int)(l:List α):sumN l.length (fun k=>g (at_ l (k:Int)))=(l.map g).sum:=by
 have key:∀m,m≤l.length→sumN m (fun k=>g (at_ l (k:Int)))=((l.take m).map g).sum:=fun m=>by
  induction m with
  |zero=>intro _;simp [sumN]
  |succ m ih=>
   intro hm
   rw [Cz l m om,List.map_append,List.sum_append,←ih om]
   simp [sumN]
 have:=key l.length (Nat.le_refl _)
 rwa [List.take_length] at this
end Go.Sl
/- The greatest set for which the edges inside, less a price for each node, are most, by a least cut. The plain law. No Go. No conditions. -/
namespace Go.Sl
def nodeArcs(N:Int)(v:Nat):List Arc:=[⟨0,2+(v:Int),0⟩,⟨2+(v:Int),1,N⟩]
def edgeArcs(nd D:Int)(es:List Pt)(i:Nat):List Arc:=[⟨0,2+nd+(i:Int),D⟩,⟨2+nd+(i:Int),2+(at_ es (i:Int)).u,D⟩,⟨2+nd+(i:Int),2+(at_ es (i:Int)).v,D⟩]
def denseArcs(nd N D:Int)(es:List Pt):List Arc:=(List.range nd.toNat).flatMap (nodeArcs N)++(List.range es.length).flatMap (edgeArcs nd D es)
def denseNet(nd N D:Int)(es:List Pt):Net:=⟨2+nd+(es.length:Int),0,1,denseArcs nd N D es⟩
theorem flat_len{α:Type}(f:Nat→List α)(c:Nat)(h:∀i,(f i).length=c)(n:Nat):((List.range n).flatMap f).length=n*c:=by
 induction n with
 |zero=>simp
 |succ n ih=>rw [List.range_succ,List.flatMap_append,List.length_append,ih,Nat.succ_mul];simp [h]
theorem denseArcs_len(nd N D:Int)(es:List Pt):(denseArcs nd N D es).length=nd.toNat*2+es.length*3:=by
 unfold denseArcs
 rw [List.length_append,flat_len _ 2 (fun _=>rfl),flat_len _ 3 (fun _=>rfl)]
theorem mem_denseArcs{nd N D:Int}{es:List Pt}{a:Arc}:a∈denseArcs nd N D es↔(∃v:Nat,(v:Int)<nd∧a∈nodeArcs N v)∨∃i:Nat,i<es.length∧a∈edgeArcs nd D es i:=by
 unfold denseArcs
 rw [List.mem_append,List.mem_flatMap,List.mem_flatMap]
 constructor
 ·rintro (⟨v,h1,h2⟩|⟨i,h1,h2⟩)
  ·exact .inl ⟨v,by have:=List.mem_range.1 h1;omega,h2⟩
  ·exact .inr ⟨i,List.mem_range.1 h1,h2⟩
 ·rintro (⟨v,h1,h2⟩|⟨i,h1,h2⟩)
  ·exact .inl ⟨v,List.mem_range.2 om,h2⟩
  ·exact .inr ⟨i,List.mem_range.2 h1,h2⟩
theorem denseNet_ok{nd N D:Int}{es:List Pt}(hG:GrOk nd es)(hm:es.length≤2016)(hN:0≤N∧N≤1099511627776)(hD:0≤D∧D≤1099511627776):(denseNet nd N D es).Ok:=by
 have hr:=hG.rng
 have hl:=denseArcs_len nd N D es
 refine ⟨⟨by show 2+nd+(es.length:Int)≤4200;omega,by show (denseArcs nd N D es).length≤16384;omega⟩,by show 2≤2+nd+(es.length:Int);omega,⟨Int.le_refl _,by show (0:Int)<2+nd+(es.length:Int);omega⟩,⟨by show (0:Int)≤1;decide,by show (1:Int)<2+nd+(es.length:Int);omega⟩,by show (0:Int)≠1;decide,fun a ha=>?_⟩
 show (0≤a.frm∧a.frm<2+nd+(es.length:Int))∧(0≤a.dst∧a.dst<2+nd+(es.length:Int))∧a.frm≠a.dst∧0≤a.cap∧a.cap≤1099511627776
 rcases mem_denseArcs.1 ha with ⟨v,hv,h⟩|⟨i,hi,h⟩
 ·simp only [nodeArcs,List.mem_cons,List.not_mem_nil,or_false] at h
  rcases h with rfl|rfl<;>simp only<;>omega
 ·have he:=hG.edge _ (Cf (xs:=es) (i:=(i:Int)) om om)
  simp only [edgeArcs,List.mem_cons,List.not_mem_nil,or_false] at h
  rcases h with rfl|rfl|rfl<;>simp only<;>omega
def costW(nd N D:Int)(es:List Pt)(W:Int→Bool):Int:=sumN nd.toNat (fun v=>if W (v:Int) then N else 0)+sumN es.length fun i=>if W (at_ es (i:Int)).u&&W (at_ es (i:Int)).v then 0 else D
def cutA(S:Int→Bool)(a:Arc):Int:=if S a.frm && !S a.dst then a.cap else 0
theorem sum_flat{α:Type}(φ:α→Int)(f:Nat→List α)(n:Nat):(((List.range n).flatMap f).map φ).sum=sumN n fun i=>((f i).map φ).sum:=by
 induction n with
 |zero=>rfl
 |succ n ih=>rw [List.range_succ,List.flatMap_append,List.map_append,List.sum_append,ih];simp [sumN]
theorem cut_dense(nd N D:Int)(es:List Pt)(S:Int→Bool)(h0:S 0=true)(h1:S 1=false):cutS (denseNet nd N D es) S =
  sumN nd.toNat (fun v=>if S (2+(v:Int)) then N else 0)+sumN es.length fun i=>(if S (2+nd+(i:Int)) then (if S (2+(at_ es (i:Int)).u) then 0 else D)+(if S (2+(at_ es (i:Int)).v) then 0 else D) else D):=by
 have e:cutS (denseNet nd N D es) S=((denseArcs nd N D es).map (cutA S)).sum:=by
  rw [←sumN_list];rfl
 rw [e]
 unfold denseArcs
 rw [List.map_append,List.sum_append,sum_flat,sum_flat]
 congr 1
 ·refine Dp _ fun v _=>?_
  simp [nodeArcs,cutA,h0,h1]
 ·refine Dp _ fun i _=>?_
  simp only [edgeArcs,cutA,List.map_cons,List.map_nil,List.sum_cons,List.sum_nil,h0]
  cases S (2+nd+(i:Int))<;>cases S (2+(at_ es (i:Int)).u)<;>cases S (2+(at_ es (i:Int)).v)<;>simp
def liftW(nd:Int)(es:List Pt)(W:Int→Bool)(z:Int):Bool:=
 decide (z=0)||(decide (2≤z∧z<2+nd)&&W (z - 2))||(decide (2+nd≤z∧z<2+nd+(es.length:Int))&&W (at_ es (z - 2 - nd)).u&&W (at_ es (z - 2 - nd)).v)
theorem liftW_node{nd:Int}{es:List Pt}{W:Int→Bool}{v:Int}(h0:0≤v)(h1:v<nd):liftW nd es W (2+v)=W v:=by
 unfold liftW
 rw [decide_eq_false (show ¬2+v=0 by omega),decide_eq_true (show 2≤2+v∧2+v<2+nd by omega),decide_eq_false (show ¬(2+nd≤2+v∧2+v<2+nd+(es.length:Int)) by omega),show 2+v - 2=v by omega]
 simp
theorem liftW_edge{nd:Int}{es:List Pt}{W:Int→Bool}{i:Nat}(hnd:0≤nd)(hi:i<es.length):liftW nd es W (2+nd+(i:Int))=(W (at_ es (i:Int)).u&&W (at_ es (i:Int)).v):=by
 unfold liftW
 rw [decide_eq_false (show ¬2+nd+(i:Int)=0 by omega),decide_eq_false (show ¬(2≤2+nd+(i:Int)∧2+nd+(i:Int)<2+nd) by omega),decide_eq_true (show 2+nd≤2+nd+(i:Int)∧2+nd+(i:Int)<2+nd+(es.length:Int) by omega),show 2+nd+(i:Int) - 2 - nd=(i:Int) by omega]
 simp
theorem cut_lift{nd N D:Int}{es:List Pt}(hG:GrOk nd es)(W:Int→Bool):liftW nd es W 0=true∧liftW nd es W 1=false∧cutS (denseNet nd N D es) (liftW nd es W)=costW nd N D es W:=by
 have hr:=hG.rng
 have a0:liftW nd es W 0=true:=by unfold liftW;simp
 have a1:liftW nd es W 1=false:=by
  unfold liftW
  rw [decide_eq_false (show ¬(1:Int)=0 by decide),decide_eq_false (show ¬(2≤(1:Int)∧(1:Int)<2+nd) by omega),decide_eq_false (show ¬(2+nd≤(1:Int)∧(1:Int)<2+nd+(es.length:Int)) by omega)];simp
 refine ⟨a0,a1,?_⟩
 rw [cut_dense _ _ _ _ _ a0 a1]
 unfold costW
 congr 1
 ·refine Dp _ fun v hv=>?_
  rw [liftW_node om om]
 ·refine Dp _ fun i hi=>?_
  have he:=hG.edge _ (Cf (xs:=es) (i:=(i:Int)) om om)
  rw [liftW_edge hr.1 hi,liftW_node om om,liftW_node om om]
  cases W (at_ es (i:Int)).u<;>cases W (at_ es (i:Int)).v<;>simp
theorem cost_le_cut{nd N D:Int}{es:List Pt}(hD:0≤D)(S:Int→Bool)(h0:S 0=true)(h1:S 1=false):costW nd N D es (fun v=>S (2+v))≤cutS (denseNet nd N D es) S:=by
 rw [cut_dense _ _ _ _ _ h0 h1]
 unfold costW
 dsimp only
 have:=sumN_le es.length (g:=fun i=>if S (2+(at_ es (i:Int)).u)&&S (2+(at_ es (i:Int)).v) then 0 else D)
  (h:=fun i=>(if S (2+nd+(i:Int)) then (if S (2+(at_ es (i:Int)).u) then 0 else D)+(if S (2+(at_ es (i:Int)).v) then 0 else D) else D)) fun i hi=>by
  cases S (2+nd+(i:Int))<;>cases S (2+(at_ es (i:Int)).u)<;>cases S (2+(at_ es (i:Int)).v)<;>simp<;>omega
 omega
theorem great_cost{nd N D:Int}{es:List Pt}(hG:GrOk nd es)(hm:es.length≤2016)(hN:0≤N∧N≤1099511627776)(hD:0≤D∧D≤1099511627776){f:List Int}{T:Int→Bool}(hf:IsFlow (denseNet nd N D es) f)(hT:Great (denseNet nd N D es) f T)(W:Int→Bool) :
  costW nd N D es (fun v=>T (2+v))≤costW nd N D es W∧(costW nd N D es W≤costW nd N D es (fun v=>T (2+v))→∀v,0≤v→v<nd→W v=true→T (2+v)=true):=by
 have hok:=denseNet_ok hG hm hN hD
 obtain ⟨l0,l1,l2⟩:=cut_lift (N:=N) (D:=D) hG W
 have h1:=cost_le_cut (nd:=nd) (N:=N) (es:=es) hD.1 T hT.src hT.snk
 have h2:cutS (denseNet nd N D es) T≤cutS (denseNet nd N D es) (liftW nd es W):=by
  rw [←hT.value hok hf];exact value_le hok hf _ l0 l1
 rw [l2] at h2
 refine ⟨by omega,fun hle v v0 v1 hv=>?_⟩
 have h3:netF (denseNet nd N D es) f (denseNet nd N D es).source=cutS (denseNet nd N D es) (liftW nd es W):=by
  rw [hT.value hok hf,l2];omega
 have h4:=(shut_value hok hf (S:=liftW nd es W) l0 l1).1 h3
 exact hT.great _ h4 l1 (2+v) om (by show 2+v<2+nd+(es.length:Int);omega) (by rw [liftW_node v0 v1];exact hv)
end Go.Sl
