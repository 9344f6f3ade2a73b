/- A part of the proofs of statements of this seat: contracts of functions, and the plain laws that they lean on. No conditions. -/
import Derived.Test.YtfkcohmipjhfcaaGreatDoorH11
set_option linter.unusedVariables false
set_option linter.unusedSimpArgs false
set_option linter.unusedSectionVars false
namespace Go.Sl
open Go.Proofs
set_option maxRecDepth 4000
set_option maxHeartbeats 4000000 in
theorem Apply5_ok{κ:Ctx}{I:List Item}{nd:Int}{e:Ev}{va:Value}{xs:List Lk}(hl:Sl κ I va xs)(hval:checkS nd xs=0)(hfit:FitOk nd e)(hsz:xs.length≤1000000) :
    CallS Tryz.prog κ 94 [.agg #[I64 (nd),va],.agg #[I64 (e.kd),I64 (e.tm),I64 (e.u),I64 (e.v),I64 (e.w),I64 (e.lb),I64 (e.sg)]] I (fun r J=>∃y:Option Addr×Nat×Option Addr×Nat×Nat,(r = .tuple #[.agg #[I64 nd,.slice y.1 (stepL xs e).length y.2.1],.slice y.2.2.1 y.2.2.2.1 y.2.2.2.2,I64 0]∧y.2.2.2.1≤2*xs.length+1)∧J=vc 146 (.slice y.1 (stepL xs e).length y.2.1) (stepL xs e)::I):=by
 refine B4 hl.le fun hmax=>?_
 refine Ce2 Tryz.func94 rfl rfl ?_
 refine Ai (Ge1 (Bd (cs:=[_,_]) rfl rfl rfl) fun b1=>Ge1 (Bd (cs:=[_,_,_,_,_,_,_]) rfl rfl rfl) fun b2=>Ge1 (A8 ty111 rfl) fun b3=>Ga rfl (Ga rfl (Af (Au (Ai (Gl2 ty111 ?_))))))
 refine Gc0 (Ap call129 rfl rfl (CheckS5_ok (nd:=nd) (Bj hl))) ?_
 refine Ga rfl (Af (Ai (Gm rfl (Gr (Be rfl rfl) (Af (A7 rfl (fun c19=>?_) (fun c19=>?_)))))))
 ·exact absurd hval c19
 ·refine Aw (Aj (Au (Ai (Gl7 ty108 ?_))))
  refine Gc0 (Ap call155 rfl rfl (CheckE4_ok e)) ?_
  refine Ga rfl (Af (Ar (S4 8 4 3 2 rfl rfl rfl rfl) (Ai (Gm rfl (Gr (Be rfl rfl) (Af (A7 rfl (fun c25=>?_) (fun c25=>?_))))))))
  ·exact absurd hfit.chk c25
  ·refine Aw (Aj (Au (Ai (Gf fld108_2 rfl (Gl ty3 ?_)))))
   refine Gf fld111_0 rfl (Gl ty3 ?_)
   refine Gr (B6 rfl rfl) (Gm rfl (Bb (d:=33) rfl (fun g33=>?_) (fun g33=>?_)))
   ·exact absurd hfit.fits om
   ·refine Gro (Ab fld108_3 rfl) (Gro (As ty3) ?_)
    refine Gro (Ab fld111_0 rfl) (Gro (As ty3) ?_)
    refine Gro (B6 rfl rfl) (Gr (Al rfl rfl) (Af (Ar (S4 39 4 3 2 rfl rfl rfl rfl) (A7 rfl (fun c39=>?_) (fun c39=>?_)))))
    ·exact absurd hfit.fits om
    ·refine Aw (Aj (Ai (Gf fld111_0 rfl (Gl ty3 ?_))))
     refine Gr (Bl (cells:=[_,_]) ty111 Dx pl111 rfl rfl) (Ge1 (A8 ty111 rfl) fun b4=>Ge0 (Ce ty111) ?_)
     refine Af (Ai (Ga rfl ?_))
     have hasc:=(checkS_ok hval).2.2
     have hfk:=hfit.kind
     refine Af (Ai (Gf fld108_2 rfl (Gl ty3 ?_)))
     refine Gf fld108_3 rfl (Gl ty3 ?_)
     refine Gr (Runs.min rfl rfl) (Gf fld108_2 rfl (Gl ty3 ?_))
     refine Gf fld108_3 rfl (Gl ty3 ?_)
     refine Gr (En rfl rfl) (Gf fld108_4 rfl (Gl ty3 ?_))
     refine Gf fld108_5 rfl (Gl ty3 ?_)
     refine Gf fld108_6 rfl (Gl ty3 ?_)
     refine Gf fld108_1 rfl (Gl ty3 ?_)
     refine Gr (Bl (cells:=[_,_,_,_,_,_]) ty146 Tryz.underlying146 pl146 rfl rfl) (Ge1 (A8 ty146 rfl) fun b5=>Ge0 (D3 ty146) ?_)
     show G Tryz.prog κ _ _ _ _ ([(11,.pointer (some ⟨b5,0,none⟩)),(62,.agg #[I64 (if e.v<e.u then e.v else e.u),I64 (if e.u<e.v then e.v else e.u),I64 (e.w),I64 (e.lb),I64 (e.sg),I64 (e.tm)]),(61,I64 (e.tm)),(60,.pointer (some ⟨b2,1,none⟩)),(59,I64 (e.sg)),(58,.pointer (some ⟨b2,6,none⟩)),(57,I64 (e.lb)),(56,.pointer (some ⟨b2,5,none⟩)),(55,I64 (e.w)),(54,.pointer (some ⟨b2,4,none⟩)),(53,I64 (if e.u<e.v then e.v else e.u)),(52,I64 (e.v)),(51,.pointer (some ⟨b2,3,none⟩)),(50,I64 (e.u)),(49,.pointer (some ⟨b2,2,none⟩)),(48,I64 (if e.v<e.u then e.v else e.u)),(47,I64 (e.v)),(46,.pointer (some ⟨b2,3,none⟩)),(45,I64 (e.u)),(44,.pointer (some ⟨b2,2,none⟩)),(10,.slice none 0 0),(9,.pointer (some ⟨b4,0,none⟩)),(43,.agg #[I64 (nd),.slice none 0 0]),(42,I64 (nd)),(41,.pointer (some ⟨b1,0,none⟩)),(39,.bool (decide (nd≤e.v))),(4,.pointer (some ⟨b3,0,none⟩)),(3,.pointer (some ⟨b2,0,none⟩)),(2,.pointer (some ⟨b1,0,none⟩))]:Env) (blk b5 [I64 ((lkOf e).u),I64 ((lkOf e).v),I64 ((lkOf e).w),I64 ((lkOf e).lb),I64 ((lkOf e).sg),I64 ((lkOf e).tm)] 146::blk b4 [I64 (nd),.slice none 0 0] 111::blk b3 [I64 (0),.slice none 0 0] 111::blk b2 [I64 (e.kd),I64 (e.tm),I64 (e.u),I64 (e.v),I64 (e.w),I64 (e.lb),I64 (e.sg)] 108::blk b1 [I64 (nd),va] 111::I)
     refine Af (Ar (S6 11 10 9 4 3 2 rfl rfl rfl rfl rfl rfl) (Ai (Gf fld108_0 rfl (Gl ty3 ?_))))
     refine Gr (Be rfl rfl) (Ga rfl (Af (Au (Ai (Gf fld111_1 rfl (Gl ty109 ?_))))))
     refine Gr (Bx (α:=Lk) (xs:=xs) Aq rfl (Bj hl)) (Gm rfl (Af (Ar (S9 69 68 67 12 11 10 9 4 3 rfl rfl rfl rfl rfl rfl rfl rfl rfl) (A4 (Bv (σ:=Nat×(Option Addr)×Nat×(Option Addr)×Nat×(List Lk)×(List Ev)×Bool) (fun s=>([(3,.pointer (some ⟨b2,0,none⟩)),(4,.pointer (some ⟨b3,0,none⟩)),(9,.pointer (some ⟨b4,0,none⟩)),(10,.slice s.2.2.2.1 s.2.2.2.2.2.2.1.length s.2.2.2.2.1),(11,.pointer (some ⟨b5,0,none⟩)),(12,.bool (s.2.2.2.2.2.2.2)),(67,va),(68,I64 (((xs.length:Nat):Int))),(69,I64 (((s.1:Nat):Int)))]:Env)) (fun s=>blk b4 [I64 (nd),.slice s.2.1 s.2.2.2.2.2.1.length s.2.2.1] 111::vc 146 (.slice s.2.1 s.2.2.2.2.2.1.length s.2.2.1) (s.2.2.2.2.2.1)::vc 108 (.slice s.2.2.2.1 s.2.2.2.2.2.2.1.length s.2.2.2.2.1) (s.2.2.2.2.2.2.1)::blk b5 [I64 ((lkOf e).u),I64 ((lkOf e).v),I64 ((lkOf e).w),I64 ((lkOf e).lb),I64 ((lkOf e).sg),I64 ((lkOf e).tm)] 146::blk b3 [I64 (0),.slice none 0 0] 111::blk b2 [I64 (e.kd),I64 (e.tm),I64 (e.u),I64 (e.v),I64 (e.w),I64 (e.lb),I64 (e.sg)] 108::blk b1 [I64 (nd),va] 111::I) (fun s=>(s.1≤xs.length)∧(ApI xs e s.1 s.2.2.2.2.2.1 s.2.2.2.2.2.2.2)∧(s.2.2.2.2.2.2.1.length≤2*s.1)) (fun s=>xs.length - s.1) (0,none,0,none,0,[],[],decide (e.kd≠1)) (show ((0:Nat)≤xs.length)∧(ApI xs e (0:Nat) ([]:List Lk) (decide (e.kd≠1):Bool))∧(([]:List Ev).length≤2*(0:Nat)) from ⟨om,ApI.start,(by simp)⟩) (Aa rfl (Aa rfl (Aa rfl (Aa (Cp rfl (by first|rfl|simp)) (Aa rfl (Aa (Cp rfl (by first|rfl|simp)) (Aa rfl (Aa rfl (Aa B8 Bg))))))))) (show Fit κ _ (blk b4 [I64 (nd),.slice (none) ([]).length (0)] 111::vc 146 (.slice (none) ([]).length (0)) (([]))::vc 108 (.slice (none) ([]).length (0)) (([]))::blk b5 [I64 ((lkOf e).u),I64 ((lkOf e).v),I64 ((lkOf e).w),I64 ((lkOf e).lb),I64 ((lkOf e).sg),I64 ((lkOf e).tm)] 146::blk b3 [I64 (0),.slice none 0 0] 111::blk b2 [I64 (e.kd),I64 (e.tm),I64 (e.u),I64 (e.v),I64 (e.w),I64 (e.lb),I64 (e.sg)] 108::blk b1 [I64 (nd),va] 111::I) from (Cg (Bw 108 _) (Cg (Bw 146 _) Bt))) ?_)))))
     rintro ⟨k,a1,c1,a2,c2,O,chg,q⟩ hp
     dsimp only at hp ⊢
     obtain ⟨hk,hA,hcg⟩:=hp
     refine Ai (Gr (A9 rfl rfl) (Af (Au (A7 rfl (fun c70=>?_) (fun c70=>?_)))))
     ·refine Aw (Aj (Au (A4 (Ai (Gr (A3 (α:=Lk) (xs:=xs) Aq ty146 rfl rfl (Bj hl) om om) (Gr (Bu (α:=Lk) (xs:=xs) ty146 rfl (Bj hl) om om) (Ge1 (A8 ty146 rfl) fun b6=>Ge0 (D3 ty146) ?_)))))))
      refine Af (Eq (σ:=(Option Addr)×Nat×(Option Addr)×Nat×(List Lk)×(List Ev)×Bool) (fun s=>([(3,.pointer (some ⟨b2,0,none⟩)),(4,.pointer (some ⟨b3,0,none⟩)),(9,.pointer (some ⟨b4,0,none⟩)),(10,.slice s.2.2.1 s.2.2.2.2.2.1.length s.2.2.2.1),(11,.pointer (some ⟨b5,0,none⟩)),(12,.bool (s.2.2.2.2.2.2)),(14,.pointer (some ⟨b6,0,none⟩)),(67,va),(68,I64 (((xs.length:Nat):Int))),(69,I64 ((k:Int)))]:Env)) (fun s=>blk b4 [I64 (nd),.slice s.1 s.2.2.2.2.1.length s.2.1] 111::vc 146 (.slice s.1 s.2.2.2.2.1.length s.2.1) (s.2.2.2.2.1)::vc 108 (.slice s.2.2.1 s.2.2.2.2.2.1.length s.2.2.2.1) (s.2.2.2.2.2.1)::blk b6 [I64 ((at_ xs (k:Int)).u),I64 ((at_ xs (k:Int)).v),I64 ((at_ xs (k:Int)).w),I64 ((at_ xs (k:Int)).lb),I64 ((at_ xs (k:Int)).sg),I64 ((at_ xs (k:Int)).tm)] 146::blk b5 [I64 ((lkOf e).u),I64 ((lkOf e).v),I64 ((lkOf e).w),I64 ((lkOf e).lb),I64 ((lkOf e).sg),I64 ((lkOf e).tm)] 146::blk b3 [I64 (0),.slice none 0 0] 111::blk b2 [I64 (e.kd),I64 (e.tm),I64 (e.u),I64 (e.v),I64 (e.w),I64 (e.lb),I64 (e.sg)] 108::blk b1 [I64 (nd),va] 111::I) (fun s=>(ApI xs e k s.2.2.2.2.1 s.2.2.2.2.2.2)∧((!s.2.2.2.2.2.2)=true→¬Pt.lt (lkOf e).p (at_ xs (k:Int)).p)∧(s.2.2.2.2.2.1.length≤2*k+1)) ?_ ?_)
      ·refine Au (Bk mixed (Bo (blk b6 [I64 ((at_ xs (k:Int)).u),I64 ((at_ xs (k:Int)).v),I64 ((at_ xs (k:Int)).w),I64 ((at_ xs (k:Int)).lb),I64 ((at_ xs (k:Int)).sg),I64 ((at_ xs (k:Int)).tm)] 146::blk b4 [I64 (nd),.slice a1 O.length c1] 111::vc 146 (.slice a1 O.length c1) (O)::vc 108 (.slice a2 chg.length c2) (chg)::blk b5 [I64 ((lkOf e).u),I64 ((lkOf e).v),I64 ((lkOf e).w),I64 ((lkOf e).lb),I64 ((lkOf e).sg),I64 ((lkOf e).tm)] 146::blk b3 [I64 (0),.slice none 0 0] 111::blk b2 [I64 (e.kd),I64 (e.tm),I64 (e.u),I64 (e.v),I64 (e.w),I64 (e.lb),I64 (e.sg)] 108::blk b1 [I64 (nd),va] 111::I) 9 (Dr 0 rfl (Ad rfl) (Dr 1 rfl (Cu rfl) (Dr 2 rfl (Ad rfl) (D.splitb (d:=75) rfl (fun g75=>?_) (fun g75=>?_)))))))
       ·refine Dro 3 rfl (Bq (vs:=[_,_,_,_,_,_]) ty146) ?_
        refine Dro 5 rfl (Bq (vs:=[_,_,_,_,_,_]) ty146) ?_
        refine Ds1 4 (Sc0 rfl (Ap call130 rfl rfl (Edge5_ok (lkOf e))) ?_)
        refine Ds1 6 (Sc0 rfl (Ap call130 rfl rfl (Edge5_ok (at_ xs (k:Int)))) ?_)
        refine Ds1 7 (Sc0 rfl (Ap call84 rfl rfl (Before03_ok (lkOf e).p (at_ xs (k:Int)).p)) ?_)
        refine Dr 8 rfl (Ao rfl rfl) (Dz (Aj (Ar (S11 81 14 3 4 9 10 11 12 67 68 69 rfl rfl rfl rfl rfl rfl rfl rfl rfl rfl rfl) (A7 rfl (fun c81=>?_) (fun c81=>?_)))))
        ·refine Bk mixed (Bo (blk b6 [I64 ((at_ xs (k:Int)).u),I64 ((at_ xs (k:Int)).v),I64 ((at_ xs (k:Int)).w),I64 ((at_ xs (k:Int)).lb),I64 ((at_ xs (k:Int)).sg),I64 ((at_ xs (k:Int)).tm)] 146::blk b5 [I64 ((lkOf e).u),I64 ((lkOf e).v),I64 ((lkOf e).w),I64 ((lkOf e).lb),I64 ((lkOf e).sg),I64 ((lkOf e).tm)] 146::blk b3 [I64 (0),.slice none 0 0] 111::blk b2 [I64 (e.kd),I64 (e.tm),I64 (e.u),I64 (e.v),I64 (e.w),I64 (e.lb),I64 (e.sg)] 108::blk b1 [I64 (nd),va] 111::I) 16 (Dr 0 rfl (Ab fld111_1 rfl) (Dr 2 rfl (Bq (vs:=[_,_,_,_,_,_]) ty146) ?_)))
         refine Dr 5 rfl (Ad rfl) (Dr 6 rfl (Bq (vs:=[_,_,_,_,_,_]) ty146) ?_)
         refine Dr 7 rfl (Ab fld108_1 rfl) (Dr 8 rfl (As ty3) ?_)
         refine Dq (rs:=[1,3]) kr rfl rfl (Ej ?_ (Ew ?_))
         ·refine Sr rfl (As ty109) A5 ?_
          refine Ds1 3 (Se1 rfl (B1 (α:=Lk) (cs:=[I64 ((lkOf e).u),I64 ((lkOf e).v),I64 ((lkOf e).w),I64 ((lkOf e).lb),I64 ((lkOf e).sg),I64 ((lkOf e).tm)]) (xs:=[⟨(lkOf e).u,(lkOf e).v,(lkOf e).w,(lkOf e).lb,(lkOf e).sg,(lkOf e).tm⟩]) Aq ty146 rfl rfl dc dc rfl kr rfl rfl) fun ad7=>?_)
          refine Ds1 4 (Se2 rfl (B0 (α:=Lk) (e:=146) (xs:=O) (ys:=([⟨(lkOf e).u,(lkOf e).v,(lkOf e).w,(lkOf e).lb,(lkOf e).sg,(lkOf e).tm⟩]:List Lk)) Aq ty146 rfl rfl rfl mm Bf (by have hol3:=hA.len;first|(simp only [List.length_append,List.length_cons,List.length_nil];omega)|(have hol4:=hA2.len;simp only [List.length_append,List.length_cons,List.length_nil];omega)) dc rfl (fun _ _=>am)) fun ad8 cp9=>?_)
          refine Dr 12 rfl (Ab fld111_1 rfl) (Ds1 9 (Sc0 rfl (Ap call163 rfl rfl (Set5_ok (lkOf e) e.tm)) ?_))
          refine Ds1 10 (Se1 rfl (B1 (α:=Ev) (cs:=[I64 (1),I64 (e.tm),I64 ((lkOf e).u),I64 ((lkOf e).v),I64 ((lkOf e).w),I64 ((lkOf e).lb),I64 ((lkOf e).sg)]) (xs:=[⟨1,e.tm,(lkOf e).u,(lkOf e).v,(lkOf e).w,(lkOf e).lb,(lkOf e).sg⟩]) A1 ty108 rfl rfl dc dc rfl kr rfl rfl) fun ad10=>?_)
          refine Ds1 11 (Se2 rfl (B0 (α:=Ev) (e:=108) (xs:=chg) (ys:=([⟨1,e.tm,(lkOf e).u,(lkOf e).v,(lkOf e).w,(lkOf e).lb,(lkOf e).sg⟩]:List Ev)) A1 ty108 rfl rfl rfl mm Bf (by have hol3:=hA.len;first|(simp only [List.length_append,List.length_cons,List.length_nil];omega)|(have hol4:=hA2.len;simp only [List.length_append,List.length_cons,List.length_nil];omega)) dc rfl (fun _ _=>am)) fun ad11 cp12=>?_)
          refine Ds1 13 (Se0 rfl (Eu ty109) ?_)
          exact Dr 14 rfl (Ba rfl) (Dr 15 rfl (Ba rfl) (Dz (Dh ((ad8),(cp9),(ad11),(cp12),(O++([⟨(lkOf e).u,(lkOf e).v,(lkOf e).w,(lkOf e).lb,(lkOf e).sg,(lkOf e).tm⟩]:List Lk)),(chg++([⟨1,e.tm,(lkOf e).u,(lkOf e).v,(lkOf e).w,(lkOf e).lb,(lkOf e).sg⟩]:List Ev)),(true)) (by dsimp only;exact ⟨(by first|exact hA.ins hasc om g75 c81|exact hA),(by intro h;first|exact absurd h dc|exact c81|(rw [h] at g75;cases g75)),olp⟩))))
         ·refine Se1 rfl (B1 (α:=Lk) (cs:=[I64 ((lkOf e).u),I64 ((lkOf e).v),I64 ((lkOf e).w),I64 ((lkOf e).lb),I64 ((lkOf e).sg),I64 ((lkOf e).tm)]) (xs:=[⟨(lkOf e).u,(lkOf e).v,(lkOf e).w,(lkOf e).lb,(lkOf e).sg,(lkOf e).tm⟩]) Aq ty146 rfl rfl dc dc rfl kr rfl rfl) fun ad13=>?_
          refine Ds1 1 (Sr rfl (As ty109) A5 ?_)
          refine Ds1 4 (Se2 rfl (B0 (α:=Lk) (e:=146) (xs:=O) (ys:=([⟨(lkOf e).u,(lkOf e).v,(lkOf e).w,(lkOf e).lb,(lkOf e).sg,(lkOf e).tm⟩]:List Lk)) Aq ty146 rfl rfl rfl mm Bf (by have hol3:=hA.len;first|(simp only [List.length_append,List.length_cons,List.length_nil];omega)|(have hol4:=hA2.len;simp only [List.length_append,List.length_cons,List.length_nil];omega)) dc rfl (fun _ _=>am)) fun ad14 cp15=>?_)
          refine Dr 12 rfl (Ab fld111_1 rfl) (Ds1 9 (Sc0 rfl (Ap call163 rfl rfl (Set5_ok (lkOf e) e.tm)) ?_))
          refine Ds1 10 (Se1 rfl (B1 (α:=Ev) (cs:=[I64 (1),I64 (e.tm),I64 ((lkOf e).u),I64 ((lkOf e).v),I64 ((lkOf e).w),I64 ((lkOf e).lb),I64 ((lkOf e).sg)]) (xs:=[⟨1,e.tm,(lkOf e).u,(lkOf e).v,(lkOf e).w,(lkOf e).lb,(lkOf e).sg⟩]) A1 ty108 rfl rfl dc dc rfl kr rfl rfl) fun ad16=>?_)
          refine Ds1 11 (Se2 rfl (B0 (α:=Ev) (e:=108) (xs:=chg) (ys:=([⟨1,e.tm,(lkOf e).u,(lkOf e).v,(lkOf e).w,(lkOf e).lb,(lkOf e).sg⟩]:List Ev)) A1 ty108 rfl rfl rfl mm Bf (by have hol3:=hA.len;first|(simp only [List.length_append,List.length_cons,List.length_nil];omega)|(have hol4:=hA2.len;simp only [List.length_append,List.length_cons,List.length_nil];omega)) dc rfl (fun _ _=>am)) fun ad17 cp18=>?_)
          refine Ds1 13 (Se0 rfl (Eu ty109) ?_)
          exact Dr 14 rfl (Ba rfl) (Dr 15 rfl (Ba rfl) (Dz (Dh ((ad14),(cp15),(ad17),(cp18),(O++([⟨(lkOf e).u,(lkOf e).v,(lkOf e).w,(lkOf e).lb,(lkOf e).sg,(lkOf e).tm⟩]:List Lk)),(chg++([⟨1,e.tm,(lkOf e).u,(lkOf e).v,(lkOf e).w,(lkOf e).lb,(lkOf e).sg⟩]:List Ev)),(true)) (by dsimp only;exact ⟨(by first|exact hA.ins hasc om g75 c81|exact hA),(by intro h;first|exact absurd h dc|exact c81|(rw [h] at g75;cases g75)),olp⟩))))
        ·exact Aw (Dh ((a1),(c1),(a2),(c2),(O),(chg),(q)) (by dsimp only;exact ⟨(by first|exact hA.ins hasc om g75 c81|exact hA),(by intro h;first|exact absurd h dc|exact c81|(rw [h] at g75;cases g75)),olp⟩))
       ·exact Dpo 3 rfl (Dpo 5 rfl (Dpo 4 rfl (Dpo 6 rfl (Dpo 7 rfl (Dr 8 rfl (Al rfl rfl) (Dz (Aj (Ar (S11 81 14 3 4 9 10 11 12 67 68 69 rfl rfl rfl rfl rfl rfl rfl rfl rfl rfl rfl) (C9 rfl (Aw (Dh ((a1),(c1),(a2),(c2),(O),(chg),(q)) (by dsimp only;exact ⟨(by first|exact hA.ins hasc om g75 c81|exact hA),(by intro h;first|exact absurd h dc|exact c81|(rw [h] at g75;cases g75)),olp⟩))))))))))))
      ·rintro ⟨a3,c3,a4,c4,O2,chg2,q2⟩ hp
       obtain ⟨hA2,hM,hc2⟩:(ApI xs e k O2 q2)∧((!q2)=true→¬Pt.lt (lkOf e).p (at_ xs (k:Int)).p)∧(chg2.length≤2*k+1):=hp
       show W Tryz.prog κ 180 _ _ ([(3,.pointer (some ⟨b2,0,none⟩)),(4,.pointer (some ⟨b3,0,none⟩)),(9,.pointer (some ⟨b4,0,none⟩)),(10,.slice a4 chg2.length c4),(11,.pointer (some ⟨b5,0,none⟩)),(12,.bool (q2)),(14,.pointer (some ⟨b6,0,none⟩)),(67,va),(68,I64 (((xs.length:Nat):Int))),(69,I64 ((k:Int)))]:Env) (blk b4 [I64 (nd),.slice a3 O2.length c3] 111::vc 146 (.slice a3 O2.length c3) (O2)::vc 108 (.slice a4 chg2.length c4) (chg2)::blk b6 [I64 ((at_ xs (k:Int)).u),I64 ((at_ xs (k:Int)).v),I64 ((at_ xs (k:Int)).w),I64 ((at_ xs (k:Int)).lb),I64 ((at_ xs (k:Int)).sg),I64 ((at_ xs (k:Int)).tm)] 146::blk b5 [I64 ((lkOf e).u),I64 ((lkOf e).v),I64 ((lkOf e).w),I64 ((lkOf e).lb),I64 ((lkOf e).sg),I64 ((lkOf e).tm)] 146::blk b3 [I64 (0),.slice none 0 0] 111::blk b2 [I64 (e.kd),I64 (e.tm),I64 (e.u),I64 (e.v),I64 (e.w),I64 (e.lb),I64 (e.sg)] 108::blk b1 [I64 (nd),va] 111::I)
       refine Au (Bk mixed (Bo (blk b4 [I64 (nd),.slice a3 O2.length c3] 111::vc 146 (.slice a3 O2.length c3) (O2)::vc 108 (.slice a4 chg2.length c4) (chg2)::blk b6 [I64 ((at_ xs (k:Int)).u),I64 ((at_ xs (k:Int)).v),I64 ((at_ xs (k:Int)).w),I64 ((at_ xs (k:Int)).lb),I64 ((at_ xs (k:Int)).sg),I64 ((at_ xs (k:Int)).tm)] 146::blk b5 [I64 ((lkOf e).u),I64 ((lkOf e).v),I64 ((lkOf e).w),I64 ((lkOf e).lb),I64 ((lkOf e).sg),I64 ((lkOf e).tm)] 146::blk b3 [I64 (0),.slice none 0 0] 111::blk b2 [I64 (e.kd),I64 (e.tm),I64 (e.u),I64 (e.v),I64 (e.w),I64 (e.lb),I64 (e.sg)] 108::blk b1 [I64 (nd),va] 111::I) 6 (Dr 0 rfl (Bq (vs:=[_,_,_,_,_,_]) ty146) ?_)))
       refine Dr 2 rfl (Bq (vs:=[_,_,_,_,_,_]) ty146) ?_
       refine Ds1 1 (Sc0 rfl (Ap call130 rfl rfl (Edge5_ok (at_ xs (k:Int)))) ?_)
       refine Ds1 3 (Sc0 rfl (Ap call130 rfl rfl (Edge5_ok (lkOf e))) ?_)
       refine Dr 4 rfl (Runs.eqlT (α:=Pt) (a:=(at_ xs (k:Int)).p) (b:=(lkOf e).p) eqt135 rfl rfl) (Dr 5 rfl (Ba rfl) (Dz (Aj (Ar (S11 15 3 4 9 10 11 12 14 67 68 69 rfl rfl rfl rfl rfl rfl rfl rfl rfl rfl rfl) (A4 (Eq (σ:=Bool) (fun s=>([(3,.pointer (some ⟨b2,0,none⟩)),(4,.pointer (some ⟨b3,0,none⟩)),(9,.pointer (some ⟨b4,0,none⟩)),(10,.slice a4 chg2.length c4),(11,.pointer (some ⟨b5,0,none⟩)),(12,.bool (q2)),(14,.pointer (some ⟨b6,0,none⟩)),(15,.bool (decide (((at_ xs (k:Int)).p)=((lkOf e).p)))),(67,va),(68,I64 (((xs.length:Nat):Int))),(69,I64 ((k:Int))),(106,.bool (s))]:Env)) (fun s=>blk b4 [I64 (nd),.slice a3 O2.length c3] 111::vc 146 (.slice a3 O2.length c3) (O2)::vc 108 (.slice a4 chg2.length c4) (chg2)::blk b6 [I64 ((at_ xs (k:Int)).u),I64 ((at_ xs (k:Int)).v),I64 ((at_ xs (k:Int)).w),I64 ((at_ xs (k:Int)).lb),I64 ((at_ xs (k:Int)).sg),I64 ((at_ xs (k:Int)).tm)] 146::blk b5 [I64 ((lkOf e).u),I64 ((lkOf e).v),I64 ((lkOf e).w),I64 ((lkOf e).lb),I64 ((lkOf e).sg),I64 ((lkOf e).tm)] 146::blk b3 [I64 (0),.slice none 0 0] 111::blk b2 [I64 (e.kd),I64 (e.tm),I64 (e.u),I64 (e.v),I64 (e.w),I64 (e.lb),I64 (e.sg)] 108::blk b1 [I64 (nd),va] 111::I) (fun s=>(s=decide (e.kd=1∧(at_ xs (k:Int)).p=(lkOf e).p))) ?_ ?_))))))
       ·refine Az (Gf fld108_0 rfl (Gl ty3 ?_))
        refine Gr (Bi rfl rfl) (Gm rfl (Bb (d:=110) rfl (fun g110=>?_) (fun g110=>?_)))
        ·exact Gro (Ad rfl) (Gr (Ao rfl rfl) (Ga rfl (Bc (Dh ((decide (((at_ xs (k:Int)).p)=((lkOf e).p)))) (by first|exact decide_eq_decide.2 ⟨fun h=>⟨by omega,h⟩,fun h=>h.2⟩|exact (decide_eq_false (fun h=>by omega)).symm) (hI:=by (try dsimp only);exact (Df _))))))
        ·exact Gpo (Gr (Al rfl rfl) (Ga rfl (Bc (Dh ((false)) (by first|exact decide_eq_decide.2 ⟨fun h=>⟨by omega,h⟩,fun h=>h.2⟩|exact (decide_eq_false (fun h=>by omega)).symm) (hI:=by (try dsimp only);exact (Df _))))))
       ·rintro y hp
        have hy:(y=decide (e.kd=1∧(at_ xs (k:Int)).p=(lkOf e).p)):=hp
        show W Tryz.prog κ 180 _ _ ([(3,.pointer (some ⟨b2,0,none⟩)),(4,.pointer (some ⟨b3,0,none⟩)),(9,.pointer (some ⟨b4,0,none⟩)),(10,.slice a4 chg2.length c4),(11,.pointer (some ⟨b5,0,none⟩)),(12,.bool (q2)),(14,.pointer (some ⟨b6,0,none⟩)),(15,.bool (decide (((at_ xs (k:Int)).p)=((lkOf e).p)))),(67,va),(68,I64 (((xs.length:Nat):Int))),(69,I64 ((k:Int))),(106,.bool (y))]:Env) (blk b4 [I64 (nd),.slice a3 O2.length c3] 111::vc 146 (.slice a3 O2.length c3) (O2)::vc 108 (.slice a4 chg2.length c4) (chg2)::blk b6 [I64 ((at_ xs (k:Int)).u),I64 ((at_ xs (k:Int)).v),I64 ((at_ xs (k:Int)).w),I64 ((at_ xs (k:Int)).lb),I64 ((at_ xs (k:Int)).sg),I64 ((at_ xs (k:Int)).tm)] 146::blk b5 [I64 ((lkOf e).u),I64 ((lkOf e).v),I64 ((lkOf e).w),I64 ((lkOf e).lb),I64 ((lkOf e).sg),I64 ((lkOf e).tm)] 146::blk b3 [I64 (0),.slice none 0 0] 111::blk b2 [I64 (e.kd),I64 (e.tm),I64 (e.u),I64 (e.v),I64 (e.w),I64 (e.lb),I64 (e.sg)] 108::blk b1 [I64 (nd),va] 111::I)
        refine Ek rfl (fun c106=>?_) (fun c106=>?_)
        ·refine Au (Ai (Gl6 ty146 ?_))
         refine Gl6 ty146 ?_
         refine Gr (Runs.neqT (α:=Lk) (a:=(at_ xs (k:Int))) (b:=(lkOf e)) eqt146 rfl rfl) (Af (Ar (S9 115 3 4 9 10 11 67 68 69 rfl rfl rfl rfl rfl rfl rfl rfl rfl) (A7 rfl (fun c115=>?_) (fun c115=>?_))))
         ·refine Az (Gm rfl (Gl6 ty146 ?_))
          refine Gf fld108_1 rfl (Gl ty3 ?_)
          refine Gc0 (Ap call163 rfl rfl (Set5_ok (lkOf e) e.tm)) ?_
          refine Ge1 (B1 (α:=Ev) (cs:=[I64 (1),I64 (e.tm),I64 ((lkOf e).u),I64 ((lkOf e).v),I64 ((lkOf e).w),I64 ((lkOf e).lb),I64 ((lkOf e).sg)]) (xs:=[⟨1,e.tm,(lkOf e).u,(lkOf e).v,(lkOf e).w,(lkOf e).lb,(lkOf e).sg⟩]) A1 ty108 rfl rfl dc dc rfl kr rfl rfl) fun ad19=>?_
          refine Ge2 (B0 (α:=Ev) (e:=108) (xs:=chg2) (ys:=([⟨1,e.tm,(lkOf e).u,(lkOf e).v,(lkOf e).w,(lkOf e).lb,(lkOf e).sg⟩]:List Ev)) A1 ty108 rfl rfl rfl mm Bf (by have hol3:=hA.len;first|(simp only [List.length_append,List.length_cons,List.length_nil];omega)|(have hol4:=hA2.len;simp only [List.length_append,List.length_cons,List.length_nil];omega)) dc rfl (fun _ _=>am)) fun ad20 cp21=>?_
          refine Ga rfl (Af (Ar (S8 10 3 4 9 11 67 68 69 rfl rfl rfl rfl rfl rfl rfl rfl) (Az (Gf fld111_1 rfl (Gl ty109 ?_)))))
          refine Gl6 ty146 ?_
          refine Ge1 (B1 (α:=Lk) (cs:=[I64 ((lkOf e).u),I64 ((lkOf e).v),I64 ((lkOf e).w),I64 ((lkOf e).lb),I64 ((lkOf e).sg),I64 ((lkOf e).tm)]) (xs:=[⟨(lkOf e).u,(lkOf e).v,(lkOf e).w,(lkOf e).lb,(lkOf e).sg,(lkOf e).tm⟩]) Aq ty146 rfl rfl dc dc rfl kr rfl rfl) fun ad22=>?_
          refine Ge2 (B0 (α:=Lk) (e:=146) (xs:=O2) (ys:=([⟨(lkOf e).u,(lkOf e).v,(lkOf e).w,(lkOf e).lb,(lkOf e).sg,(lkOf e).tm⟩]:List Lk)) Aq ty146 rfl rfl rfl mm Bf (by have hol3:=hA.len;first|(simp only [List.length_append,List.length_cons,List.length_nil];omega)|(have hol4:=hA2.len;simp only [List.length_append,List.length_cons,List.length_nil];omega)) dc rfl (fun _ _=>am)) fun ad23 cp24=>?_
          refine Gf fld111_1 rfl (Ge0 (Eu ty109) ?_)
          exact Ga rfl (Bc (Ak (Ak (Aj (Ar (S9 12 10 3 4 9 11 67 68 69 rfl rfl rfl rfl rfl rfl rfl rfl rfl) (Az (Gr (Rad rfl rfl) (Gm rfl (Bc (B3 ((k+1),(ad23),(cp24),(ad20),(cp21),(O2++([⟨(lkOf e).u,(lkOf e).v,(lkOf e).w,(lkOf e).lb,(lkOf e).sg,(lkOf e).tm⟩]:List Lk)),(chg2++([⟨1,e.tm,(lkOf e).u,(lkOf e).v,(lkOf e).w,(lkOf e).lb,(lkOf e).sg⟩]:List Ev)),(true)) (by dsimp only;exact ⟨om,(by first|exact hA2.hit hasc om (of_decide_eq_true (hy.symm.trans c106)).1 (of_decide_eq_true (hy.symm.trans c106)).2|exact hA2.drop om (of_decide_eq_true (hz.symm.trans c129)).1 (of_decide_eq_true (hz.symm.trans c129)).2|exact hA2.keep hasc om hM (fun h1 h2=>of_decide_eq_false (hy.symm.trans c106) ⟨h1,h2⟩) (fun h1=>Classical.byContradiction fun hh=>of_decide_eq_false (hz.symm.trans c129) ⟨h1,by simpa using hh⟩)),olp⟩)))))))))))
         ·refine Aw (Aj (Az (Gf fld111_1 rfl (Gl ty109 ?_))))
          refine Gl6 ty146 ?_
          refine Ge1 (B1 (α:=Lk) (cs:=[I64 ((lkOf e).u),I64 ((lkOf e).v),I64 ((lkOf e).w),I64 ((lkOf e).lb),I64 ((lkOf e).sg),I64 ((lkOf e).tm)]) (xs:=[⟨(lkOf e).u,(lkOf e).v,(lkOf e).w,(lkOf e).lb,(lkOf e).sg,(lkOf e).tm⟩]) Aq ty146 rfl rfl dc dc rfl kr rfl rfl) fun ad25=>?_
          refine Ge2 (B0 (α:=Lk) (e:=146) (xs:=O2) (ys:=([⟨(lkOf e).u,(lkOf e).v,(lkOf e).w,(lkOf e).lb,(lkOf e).sg,(lkOf e).tm⟩]:List Lk)) Aq ty146 rfl rfl rfl mm Bf (by have hol3:=hA.len;first|(simp only [List.length_append,List.length_cons,List.length_nil];omega)|(have hol4:=hA2.len;simp only [List.length_append,List.length_cons,List.length_nil];omega)) dc rfl (fun _ _=>am)) fun ad26 cp27=>?_
          refine Gf fld111_1 rfl (Ge0 (Eu ty109) ?_)
          exact Ga rfl (Bc (Ak (Ak (Aj (Ar (S9 12 3 4 9 10 11 67 68 69 rfl rfl rfl rfl rfl rfl rfl rfl rfl) (Az (Gr (Rad rfl rfl) (Gm rfl (Bc (B3 ((k+1),(ad26),(cp27),(a4),(c4),(O2++([⟨(lkOf e).u,(lkOf e).v,(lkOf e).w,(lkOf e).lb,(lkOf e).sg,(lkOf e).tm⟩]:List Lk)),(chg2),(true)) (by dsimp only;exact ⟨om,(by first|exact hA2.hit hasc om (of_decide_eq_true (hy.symm.trans c106)).1 (of_decide_eq_true (hy.symm.trans c106)).2|exact hA2.drop om (of_decide_eq_true (hz.symm.trans c129)).1 (of_decide_eq_true (hz.symm.trans c129)).2|exact hA2.keep hasc om hM (fun h1 h2=>of_decide_eq_false (hy.symm.trans c106) ⟨h1,h2⟩) (fun h1=>Classical.byContradiction fun hh=>of_decide_eq_false (hz.symm.trans c129) ⟨h1,by simpa using hh⟩)),olp⟩)))))))))))
        ·refine Eq (σ:=Bool) (fun s=>([(3,.pointer (some ⟨b2,0,none⟩)),(4,.pointer (some ⟨b3,0,none⟩)),(9,.pointer (some ⟨b4,0,none⟩)),(10,.slice a4 chg2.length c4),(11,.pointer (some ⟨b5,0,none⟩)),(12,.bool (q2)),(14,.pointer (some ⟨b6,0,none⟩)),(67,va),(68,I64 (((xs.length:Nat):Int))),(69,I64 ((k:Int))),(129,.bool (s))]:Env)) (fun s=>blk b4 [I64 (nd),.slice a3 O2.length c3] 111::vc 146 (.slice a3 O2.length c3) (O2)::vc 108 (.slice a4 chg2.length c4) (chg2)::blk b6 [I64 ((at_ xs (k:Int)).u),I64 ((at_ xs (k:Int)).v),I64 ((at_ xs (k:Int)).w),I64 ((at_ xs (k:Int)).lb),I64 ((at_ xs (k:Int)).sg),I64 ((at_ xs (k:Int)).tm)] 146::blk b5 [I64 ((lkOf e).u),I64 ((lkOf e).v),I64 ((lkOf e).w),I64 ((lkOf e).lb),I64 ((lkOf e).sg),I64 ((lkOf e).tm)] 146::blk b3 [I64 (0),.slice none 0 0] 111::blk b2 [I64 (e.kd),I64 (e.tm),I64 (e.u),I64 (e.v),I64 (e.w),I64 (e.lb),I64 (e.sg)] 108::blk b1 [I64 (nd),va] 111::I) (fun s=>(s=decide (e.kd≠1∧hitE e (at_ xs (k:Int))=true))) ?_ ?_
         ·refine Az (Gf fld108_0 rfl (Gl ty3 ?_))
          refine Gr (Bi rfl rfl) (Gm rfl (Bb (d:=133) rfl (fun g133=>?_) (fun g133=>?_)))
          ·refine Gro (Ad rfl) (Gr (Ao rfl rfl) (Gm rfl (Bb (d:=136) rfl (fun g136=>?_) (fun g136=>?_))))
           ·exact Gpo (Gpo (Gpo (Gpo (Gpu (Gpu (Gpu (Gpu (Gpu (Gpu (Gpu (Gpu (Gpu (Gpu (Gpu (Gpu (Gpo (Gr (Ao rfl rfl) (Ga rfl (Bc (Dh ((true)) (by first|(exfalso;omega)|exact (decide_eq_true ⟨by omega,by first|(rw [hit_two om];exact decide_eq_true asm)|(rw [hit_oth om];exact decide_eq_true om)⟩).symm|exact (decide_eq_false (fun h=>by first|omega|(have h2:=h.2;first|(rw [hit_two om] at h2;exact absurd (of_decide_eq_true h2) asm)|(rw [hit_oth om] at h2;have h3:=of_decide_eq_true h2;omega)))).symm|exact decide_eq_decide.2 ⟨fun h=>⟨by omega,by rw [hit_oth om];exact decide_eq_true (.inr h)⟩,fun h=>by have h2:=h.2;rw [hit_oth om] at h2;have h3:=of_decide_eq_true h2;omega⟩) (hI:=by (try dsimp only);exact (Df _))))))))))))))))))))))
           ·refine Gro (Ab fld108_0 rfl) (Gro (As ty3) ?_)
            refine Gro (Bi rfl rfl) (Gro (Ad rfl) (Bb (d:=140) rfl (fun g140=>?_) (fun g140=>?_)))
            ·refine Gro (Ab fld146_0 rfl) (Gro (As ty3) ?_)
             refine Gro (Ab fld108_2 rfl) (Gro (As ty3) ?_)
             refine Gro (Bi rfl rfl) (Gro (Ad rfl) (Bb (d:=146) rfl (fun g146=>?_) (fun g146=>?_)))
             ·exact Gpo (Gpo (Gpo (Gpo (Gpo (Gro (Ao rfl rfl) (Gro (Ao rfl rfl) (Gr (Al rfl rfl) (Ga rfl (Bc (Dh ((true)) (by first|(exfalso;omega)|exact (decide_eq_true ⟨by omega,by first|(rw [hit_two om];exact decide_eq_true asm)|(rw [hit_oth om];exact decide_eq_true om)⟩).symm|exact (decide_eq_false (fun h=>by first|omega|(have h2:=h.2;first|(rw [hit_two om] at h2;exact absurd (of_decide_eq_true h2) asm)|(rw [hit_oth om] at h2;have h3:=of_decide_eq_true h2;omega)))).symm|exact decide_eq_decide.2 ⟨fun h=>⟨by omega,by rw [hit_oth om];exact decide_eq_true (.inr h)⟩,fun h=>by have h2:=h.2;rw [hit_oth om] at h2;have h3:=of_decide_eq_true h2;omega⟩) (hI:=by (try dsimp only);exact (Df _))))))))))))
             ·refine Gro (Ab fld146_1 rfl) (Gro (As ty3) ?_)
              refine Gro (Ab fld108_2 rfl) (Gro (As ty3) ?_)
              exact Gro (Bi rfl rfl) (Gro (Al rfl rfl) (Gro (Ao rfl rfl) (Gr (Al rfl rfl) (Ga rfl (Bc (Dh ((decide (((at_ xs (k:Int)).v)=e.u))) (by first|(exfalso;omega)|exact (decide_eq_true ⟨by omega,by first|(rw [hit_two om];exact decide_eq_true asm)|(rw [hit_oth om];exact decide_eq_true om)⟩).symm|exact (decide_eq_false (fun h=>by first|omega|(have h2:=h.2;first|(rw [hit_two om] at h2;exact absurd (of_decide_eq_true h2) asm)|(rw [hit_oth om] at h2;have h3:=of_decide_eq_true h2;omega)))).symm|exact decide_eq_decide.2 ⟨fun h=>⟨by omega,by rw [hit_oth om];exact decide_eq_true (.inr h)⟩,fun h=>by have h2:=h.2;rw [hit_oth om] at h2;have h3:=of_decide_eq_true h2;omega⟩) (hI:=by (try dsimp only);exact (Df _))))))))
            ·exact Gpo (Gpo (Gpo (Gpo (Gpo (Gpo (Gpu (Gpu (Gpu (Gpu (Gpu (Gpo (Gro (Al rfl rfl) (Gr (Al rfl rfl) (Ga rfl (Bc (Dh ((false)) (by first|(exfalso;omega)|exact (decide_eq_true ⟨by omega,by first|(rw [hit_two om];exact decide_eq_true asm)|(rw [hit_oth om];exact decide_eq_true om)⟩).symm|exact (decide_eq_false (fun h=>by first|omega|(have h2:=h.2;first|(rw [hit_two om] at h2;exact absurd (of_decide_eq_true h2) asm)|(rw [hit_oth om] at h2;have h3:=of_decide_eq_true h2;omega)))).symm|exact decide_eq_decide.2 ⟨fun h=>⟨by omega,by rw [hit_oth om];exact decide_eq_true (.inr h)⟩,fun h=>by have h2:=h.2;rw [hit_oth om] at h2;have h3:=of_decide_eq_true h2;omega⟩) (hI:=by (try dsimp only);exact (Df _))))))))))))))))))
          ·refine Gpo (Gr (Al rfl rfl) (Gm rfl (Gro (Ab fld108_0 rfl) (Gro (As ty3) ?_))))
           refine Gro (Bi rfl rfl) (Gro (Ad rfl) (Bb (d:=140) rfl (fun g140=>?_) (fun g140=>?_)))
           ·refine Gro (Ab fld146_0 rfl) (Gro (As ty3) ?_)
            refine Gro (Ab fld108_2 rfl) (Gro (As ty3) ?_)
            refine Gro (Bi rfl rfl) (Gro (Ad rfl) (Bb (d:=146) rfl (fun g146=>?_) (fun g146=>?_)))
            ·exact Gpo (Gpo (Gpo (Gpo (Gpo (Gro (Ao rfl rfl) (Gro (Ao rfl rfl) (Gr (Al rfl rfl) (Ga rfl (Bc (Dh ((true)) (by first|(exfalso;omega)|exact (decide_eq_true ⟨by omega,by first|(rw [hit_two om];exact decide_eq_true asm)|(rw [hit_oth om];exact decide_eq_true om)⟩).symm|exact (decide_eq_false (fun h=>by first|omega|(have h2:=h.2;first|(rw [hit_two om] at h2;exact absurd (of_decide_eq_true h2) asm)|(rw [hit_oth om] at h2;have h3:=of_decide_eq_true h2;omega)))).symm|exact decide_eq_decide.2 ⟨fun h=>⟨by omega,by rw [hit_oth om];exact decide_eq_true (.inr h)⟩,fun h=>by have h2:=h.2;rw [hit_oth om] at h2;have h3:=of_decide_eq_true h2;omega⟩) (hI:=by (try dsimp only);exact (Df _))))))))))))
            ·refine Gro (Ab fld146_1 rfl) (Gro (As ty3) ?_)
             refine Gro (Ab fld108_2 rfl) (Gro (As ty3) ?_)
             exact Gro (Bi rfl rfl) (Gro (Al rfl rfl) (Gro (Ao rfl rfl) (Gr (Al rfl rfl) (Ga rfl (Bc (Dh ((decide (((at_ xs (k:Int)).v)=e.u))) (by first|(exfalso;omega)|exact (decide_eq_true ⟨by omega,by first|(rw [hit_two om];exact decide_eq_true asm)|(rw [hit_oth om];exact decide_eq_true om)⟩).symm|exact (decide_eq_false (fun h=>by first|omega|(have h2:=h.2;first|(rw [hit_two om] at h2;exact absurd (of_decide_eq_true h2) asm)|(rw [hit_oth om] at h2;have h3:=of_decide_eq_true h2;omega)))).symm|exact decide_eq_decide.2 ⟨fun h=>⟨by omega,by rw [hit_oth om];exact decide_eq_true (.inr h)⟩,fun h=>by have h2:=h.2;rw [hit_oth om] at h2;have h3:=of_decide_eq_true h2;omega⟩) (hI:=by (try dsimp only);exact (Df _))))))))
           ·exact Gpo (Gpo (Gpo (Gpo (Gpo (Gpo (Gpu (Gpu (Gpu (Gpu (Gpu (Gpo (Gro (Al rfl rfl) (Gr (Al rfl rfl) (Ga rfl (Bc (Dh ((false)) (by first|(exfalso;omega)|exact (decide_eq_true ⟨by omega,by first|(rw [hit_two om];exact decide_eq_true asm)|(rw [hit_oth om];exact decide_eq_true om)⟩).symm|exact (decide_eq_false (fun h=>by first|omega|(have h2:=h.2;first|(rw [hit_two om] at h2;exact absurd (of_decide_eq_true h2) asm)|(rw [hit_oth om] at h2;have h3:=of_decide_eq_true h2;omega)))).symm|exact decide_eq_decide.2 ⟨fun h=>⟨by omega,by rw [hit_oth om];exact decide_eq_true (.inr h)⟩,fun h=>by have h2:=h.2;rw [hit_oth om] at h2;have h3:=of_decide_eq_true h2;omega⟩) (hI:=by (try dsimp only);exact (Df _))))))))))))))))))
         ·rintro z hp
          have hz:(z=decide (e.kd≠1∧hitE e (at_ xs (k:Int))=true)):=hp
          show W Tryz.prog κ 180 _ _ ([(3,.pointer (some ⟨b2,0,none⟩)),(4,.pointer (some ⟨b3,0,none⟩)),(9,.pointer (some ⟨b4,0,none⟩)),(10,.slice a4 chg2.length c4),(11,.pointer (some ⟨b5,0,none⟩)),(12,.bool (q2)),(14,.pointer (some ⟨b6,0,none⟩)),(67,va),(68,I64 (((xs.length:Nat):Int))),(69,I64 ((k:Int))),(129,.bool (z))]:Env) (blk b4 [I64 (nd),.slice a3 O2.length c3] 111::vc 146 (.slice a3 O2.length c3) (O2)::vc 108 (.slice a4 chg2.length c4) (chg2)::blk b6 [I64 ((at_ xs (k:Int)).u),I64 ((at_ xs (k:Int)).v),I64 ((at_ xs (k:Int)).w),I64 ((at_ xs (k:Int)).lb),I64 ((at_ xs (k:Int)).sg),I64 ((at_ xs (k:Int)).tm)] 146::blk b5 [I64 ((lkOf e).u),I64 ((lkOf e).v),I64 ((lkOf e).w),I64 ((lkOf e).lb),I64 ((lkOf e).sg),I64 ((lkOf e).tm)] 146::blk b3 [I64 (0),.slice none 0 0] 111::blk b2 [I64 (e.kd),I64 (e.tm),I64 (e.u),I64 (e.v),I64 (e.w),I64 (e.lb),I64 (e.sg)] 108::blk b1 [I64 (nd),va] 111::I)
          refine Ek rfl (fun c129=>?_) (fun c129=>?_)
          ·refine Az (Gm rfl (Gl6 ty146 ?_))
           refine Gf fld108_1 rfl (Gl ty3 ?_)
           refine Gc0 (Ap call164 rfl rfl (Cut5_ok (at_ xs (k:Int)) e.tm)) ?_
           refine Ge1 (B1 (α:=Ev) (cs:=[I64 (2),I64 (e.tm),I64 ((at_ xs (k:Int)).u),I64 ((at_ xs (k:Int)).v),I64 (0),I64 (0),I64 (0)]) (xs:=[⟨2,e.tm,(at_ xs (k:Int)).u,(at_ xs (k:Int)).v,0,0,0⟩]) A1 ty108 rfl rfl dc dc rfl kr rfl rfl) fun ad28=>?_
           refine Ge2 (B0 (α:=Ev) (e:=108) (xs:=chg2) (ys:=([⟨2,e.tm,(at_ xs (k:Int)).u,(at_ xs (k:Int)).v,0,0,0⟩]:List Ev)) A1 ty108 rfl rfl rfl mm Bf (by have hol3:=hA.len;first|(simp only [List.length_append,List.length_cons,List.length_nil];omega)|(have hol4:=hA2.len;simp only [List.length_append,List.length_cons,List.length_nil];omega)) dc rfl (fun _ _=>am)) fun ad29 cp30=>?_
           exact Ga rfl (Bc (Ak (Ak (Aj (Ar (S9 10 3 4 9 11 12 67 68 69 rfl rfl rfl rfl rfl rfl rfl rfl rfl) (Az (Gr (Rad rfl rfl) (Gm rfl (Bc (B3 ((k+1),(a3),(c3),(ad29),(cp30),(O2),(chg2++([⟨2,e.tm,(at_ xs (k:Int)).u,(at_ xs (k:Int)).v,0,0,0⟩]:List Ev)),(q2)) (by dsimp only;exact ⟨om,(by first|exact hA2.hit hasc om (of_decide_eq_true (hy.symm.trans c106)).1 (of_decide_eq_true (hy.symm.trans c106)).2|exact hA2.drop om (of_decide_eq_true (hz.symm.trans c129)).1 (of_decide_eq_true (hz.symm.trans c129)).2|exact hA2.keep hasc om hM (fun h1 h2=>of_decide_eq_false (hy.symm.trans c106) ⟨h1,h2⟩) (fun h1=>Classical.byContradiction fun hh=>of_decide_eq_false (hz.symm.trans c129) ⟨h1,by simpa using hh⟩)),olp⟩)))))))))))
          ·refine Az (Gf fld111_1 rfl (Gl ty109 ?_))
           refine Gl6 ty146 ?_
           refine Ge1 (B1 (α:=Lk) (cs:=[I64 ((at_ xs (k:Int)).u),I64 ((at_ xs (k:Int)).v),I64 ((at_ xs (k:Int)).w),I64 ((at_ xs (k:Int)).lb),I64 ((at_ xs (k:Int)).sg),I64 ((at_ xs (k:Int)).tm)]) (xs:=[⟨(at_ xs (k:Int)).u,(at_ xs (k:Int)).v,(at_ xs (k:Int)).w,(at_ xs (k:Int)).lb,(at_ xs (k:Int)).sg,(at_ xs (k:Int)).tm⟩]) Aq ty146 rfl rfl dc dc rfl kr rfl rfl) fun ad31=>?_
           refine Ge2 (B0 (α:=Lk) (e:=146) (xs:=O2) (ys:=([⟨(at_ xs (k:Int)).u,(at_ xs (k:Int)).v,(at_ xs (k:Int)).w,(at_ xs (k:Int)).lb,(at_ xs (k:Int)).sg,(at_ xs (k:Int)).tm⟩]:List Lk)) Aq ty146 rfl rfl rfl mm Bf (by have hol3:=hA.len;first|(simp only [List.length_append,List.length_cons,List.length_nil];omega)|(have hol4:=hA2.len;simp only [List.length_append,List.length_cons,List.length_nil];omega)) dc rfl (fun _ _=>am)) fun ad32 cp33=>?_
           refine Gf fld111_1 rfl (Ge0 (Eu ty109) ?_)
           exact Bc (Ak (Ak (Aj (Ar (S9 3 4 9 10 11 12 67 68 69 rfl rfl rfl rfl rfl rfl rfl rfl rfl) (Az (Gr (Rad rfl rfl) (Gm rfl (Bc (B3 ((k+1),(ad32),(cp33),(a4),(c4),(O2++([⟨(at_ xs (k:Int)).u,(at_ xs (k:Int)).v,(at_ xs (k:Int)).w,(at_ xs (k:Int)).lb,(at_ xs (k:Int)).sg,(at_ xs (k:Int)).tm⟩]:List Lk)),(chg2),(q2)) (by dsimp only;exact ⟨om,(by first|exact hA2.hit hasc om (of_decide_eq_true (hy.symm.trans c106)).1 (of_decide_eq_true (hy.symm.trans c106)).2|exact hA2.drop om (of_decide_eq_true (hz.symm.trans c129)).1 (of_decide_eq_true (hz.symm.trans c129)).2|exact hA2.keep hasc om hM (fun h1 h2=>of_decide_eq_false (hy.symm.trans c106) ⟨h1,h2⟩) (fun h1=>Classical.byContradiction fun hh=>of_decide_eq_false (hz.symm.trans c129) ⟨h1,by simpa using hh⟩)),olp⟩))))))))))
     ·refine Bs (Am (Am (A6 (Aj (Au (Ai (Gm rfl (Gr (Cu rfl) (Af (Ek rfl (fun c164=>?_) (fun c164=>?_)))))))))))
      ·refine Bk mixed (Bo (blk b5 [I64 ((lkOf e).u),I64 ((lkOf e).v),I64 ((lkOf e).w),I64 ((lkOf e).lb),I64 ((lkOf e).sg),I64 ((lkOf e).tm)] 146::blk b3 [I64 (0),.slice none 0 0] 111::blk b2 [I64 (e.kd),I64 (e.tm),I64 (e.u),I64 (e.v),I64 (e.w),I64 (e.lb),I64 (e.sg)] 108::blk b1 [I64 (nd),va] 111::I) 15 (Dr 0 rfl (Ab fld111_1 rfl) (Dr 2 rfl (Bq (vs:=[_,_,_,_,_,_]) ty146) ?_)))
       refine Dr 5 rfl (Ad rfl) (Dr 6 rfl (Bq (vs:=[_,_,_,_,_,_]) ty146) ?_)
       refine Dr 7 rfl (Ab fld108_1 rfl) (Dr 8 rfl (As ty3) ?_)
       refine Dq (rs:=[1,3]) kr rfl rfl (Ej ?_ (Ew ?_))
       ·refine Sr rfl (As ty109) A5 ?_
        refine Ds1 3 (Se1 rfl (B1 (α:=Lk) (cs:=[I64 ((lkOf e).u),I64 ((lkOf e).v),I64 ((lkOf e).w),I64 ((lkOf e).lb),I64 ((lkOf e).sg),I64 ((lkOf e).tm)]) (xs:=[⟨(lkOf e).u,(lkOf e).v,(lkOf e).w,(lkOf e).lb,(lkOf e).sg,(lkOf e).tm⟩]) Aq ty146 rfl rfl dc dc rfl kr rfl rfl) fun ad34=>?_)
        refine Ds1 4 (Se2 rfl (B0 (α:=Lk) (e:=146) (xs:=O) (ys:=([⟨(lkOf e).u,(lkOf e).v,(lkOf e).w,(lkOf e).lb,(lkOf e).sg,(lkOf e).tm⟩]:List Lk)) Aq ty146 rfl rfl rfl mm Bf (by have hol3:=hA.len;first|(simp only [List.length_append,List.length_cons,List.length_nil];omega)|(have hol4:=hA2.len;simp only [List.length_append,List.length_cons,List.length_nil];omega)) dc rfl (fun _ _=>am)) fun ad35 cp36=>?_)
        refine Dr 12 rfl (Ab fld111_1 rfl) (Ds1 9 (Sc0 rfl (Ap call163 rfl rfl (Set5_ok (lkOf e) e.tm)) ?_))
        refine Ds1 10 (Se1 rfl (B1 (α:=Ev) (cs:=[I64 (1),I64 (e.tm),I64 ((lkOf e).u),I64 ((lkOf e).v),I64 ((lkOf e).w),I64 ((lkOf e).lb),I64 ((lkOf e).sg)]) (xs:=[⟨1,e.tm,(lkOf e).u,(lkOf e).v,(lkOf e).w,(lkOf e).lb,(lkOf e).sg⟩]) A1 ty108 rfl rfl dc dc rfl kr rfl rfl) fun ad37=>?_)
        refine Ds1 11 (Se2 rfl (B0 (α:=Ev) (e:=108) (xs:=chg) (ys:=([⟨1,e.tm,(lkOf e).u,(lkOf e).v,(lkOf e).w,(lkOf e).lb,(lkOf e).sg⟩]:List Ev)) A1 ty108 rfl rfl rfl mm Bf (by have hol3:=hA.len;first|(simp only [List.length_append,List.length_cons,List.length_nil];omega)|(have hol4:=hA2.len;simp only [List.length_append,List.length_cons,List.length_nil];omega)) dc rfl (fun _ _=>am)) fun ad38 cp39=>?_)
        refine Ds1 13 (Se0 rfl (Eu ty109) ?_)
        refine Dr 14 rfl (Ba rfl) (Dz (Aj (Ar (S3 10 4 9 rfl rfl rfl) (Ai (Gl2 ty111 ?_)))))
        refine Gm rfl (Ge0 (Ce ty111) ?_)
        refine Ga rfl (Ga rfl (Af (Ax ?_)))
        have hE:O++([⟨(lkOf e).u,(lkOf e).v,(lkOf e).w,(lkOf e).lb,(lkOf e).sg,(lkOf e).tm⟩]:List Lk)=(stepL xs e):=by first|exact hA.fin om asm|exact hA.finIns om asm
        exact V.retc2 rfl ty111 rfl rfl rfl mm rfl (vc 146 (.slice ad35 (stepL xs e).length cp36) (stepL xs e)::I) (by rw [←hE];exact A5) ⟨⟨ad35,cp36,ad38,(chg++([⟨1,e.tm,(lkOf e).u,(lkOf e).v,(lkOf e).w,(lkOf e).lb,(lkOf e).sg⟩]:List Ev)).length,cp39⟩,⟨by rw [←hE]<;>rfl,by first|(show _≤2*xs.length+1;omega)|(show _≤2*xs.length+1;simp only [List.length_append,List.length_cons,List.length_nil];omega)⟩,rfl⟩
       ·refine Se1 rfl (B1 (α:=Lk) (cs:=[I64 ((lkOf e).u),I64 ((lkOf e).v),I64 ((lkOf e).w),I64 ((lkOf e).lb),I64 ((lkOf e).sg),I64 ((lkOf e).tm)]) (xs:=[⟨(lkOf e).u,(lkOf e).v,(lkOf e).w,(lkOf e).lb,(lkOf e).sg,(lkOf e).tm⟩]) Aq ty146 rfl rfl dc dc rfl kr rfl rfl) fun ad40=>?_
        refine Ds1 1 (Sr rfl (As ty109) A5 ?_)
        refine Ds1 4 (Se2 rfl (B0 (α:=Lk) (e:=146) (xs:=O) (ys:=([⟨(lkOf e).u,(lkOf e).v,(lkOf e).w,(lkOf e).lb,(lkOf e).sg,(lkOf e).tm⟩]:List Lk)) Aq ty146 rfl rfl rfl mm Bf (by have hol3:=hA.len;first|(simp only [List.length_append,List.length_cons,List.length_nil];omega)|(have hol4:=hA2.len;simp only [List.length_append,List.length_cons,List.length_nil];omega)) dc rfl (fun _ _=>am)) fun ad41 cp42=>?_)
        refine Dr 12 rfl (Ab fld111_1 rfl) (Ds1 9 (Sc0 rfl (Ap call163 rfl rfl (Set5_ok (lkOf e) e.tm)) ?_))
        refine Ds1 10 (Se1 rfl (B1 (α:=Ev) (cs:=[I64 (1),I64 (e.tm),I64 ((lkOf e).u),I64 ((lkOf e).v),I64 ((lkOf e).w),I64 ((lkOf e).lb),I64 ((lkOf e).sg)]) (xs:=[⟨1,e.tm,(lkOf e).u,(lkOf e).v,(lkOf e).w,(lkOf e).lb,(lkOf e).sg⟩]) A1 ty108 rfl rfl dc dc rfl kr rfl rfl) fun ad43=>?_)
        refine Ds1 11 (Se2 rfl (B0 (α:=Ev) (e:=108) (xs:=chg) (ys:=([⟨1,e.tm,(lkOf e).u,(lkOf e).v,(lkOf e).w,(lkOf e).lb,(lkOf e).sg⟩]:List Ev)) A1 ty108 rfl rfl rfl mm Bf (by have hol3:=hA.len;first|(simp only [List.length_append,List.length_cons,List.length_nil];omega)|(have hol4:=hA2.len;simp only [List.length_append,List.length_cons,List.length_nil];omega)) dc rfl (fun _ _=>am)) fun ad44 cp45=>?_)
        refine Ds1 13 (Se0 rfl (Eu ty109) ?_)
        refine Dr 14 rfl (Ba rfl) (Dz (Aj (Ar (S3 10 4 9 rfl rfl rfl) (Ai (Gl2 ty111 ?_)))))
        refine Gm rfl (Ge0 (Ce ty111) ?_)
        refine Ga rfl (Ga rfl (Af (Ax ?_)))
        have hE:O++([⟨(lkOf e).u,(lkOf e).v,(lkOf e).w,(lkOf e).lb,(lkOf e).sg,(lkOf e).tm⟩]:List Lk)=(stepL xs e):=by first|exact hA.fin om asm|exact hA.finIns om asm
        exact V.retc2 rfl ty111 rfl rfl rfl mm rfl (vc 146 (.slice ad41 (stepL xs e).length cp42) (stepL xs e)::I) (by rw [←hE];exact A5) ⟨⟨ad41,cp42,ad44,(chg++([⟨1,e.tm,(lkOf e).u,(lkOf e).v,(lkOf e).w,(lkOf e).lb,(lkOf e).sg⟩]:List Ev)).length,cp45⟩,⟨by rw [←hE]<;>rfl,by first|(show _≤2*xs.length+1;omega)|(show _≤2*xs.length+1;simp only [List.length_append,List.length_cons,List.length_nil];omega)⟩,rfl⟩
      ·refine Aw (Aj (Ai (Gl2 ty111 ?_)))
       refine Gm rfl (Ge0 (Ce ty111) ?_)
       refine Ga rfl (Ga rfl (Af (Ar (S3 6 5 4 rfl rfl rfl) (Ax ?_))))
       have hE:O=(stepL xs e):=by first|exact hA.fin om asm|exact hA.finIns om asm
       exact V.retc2 rfl ty111 rfl rfl rfl mm rfl (vc 146 (.slice a1 (stepL xs e).length c1) (stepL xs e)::I) (by rw [←hE];exact A5) ⟨⟨a1,c1,a2,chg.length,c2⟩,⟨by rw [←hE]<;>rfl,by first|(show _≤2*xs.length+1;omega)|(show _≤2*xs.length+1;simp only [List.length_append,List.length_cons,List.length_nil];omega)⟩,rfl⟩
set_option maxHeartbeats 1000000 in
theorem All5_base{κ:Ctx}{I:List Item}{nd:Int}{a0:Option Addr}{c0:Nat}{xs:List Lk}{va:Value}{es:List Ev}(hl:Sl κ I va es)(hval:checkS nd xs=0)(hfit:∀j:Nat,j<es.length→FitOk nd (at_ es (j:Int)))(hsz:xs.length+es.length≤1000000) :
    CallS Tryz.prog κ 162 [.agg #[I64 (nd),.slice a0 xs.length c0],va] (vc 146 (.slice a0 xs.length c0) (xs)::I) (fun r J=>∃y:Option Addr×Nat×Int,(r = .tuple #[.agg #[I64 nd,.slice y.1 (List.foldl stepL xs es).length y.2.1],I64 y.2.2,I64 0])∧J=vc 146 (.slice y.1 (List.foldl stepL xs es).length y.2.1) (List.foldl stepL xs es)::I):=by
 refine Ce2 Tryz.func162 rfl rfl ?_
 refine Ai (Ge1 (Bd (cs:=[_,_]) rfl rfl rfl) fun b1=>Ge1 (A8 ty111 rfl) fun b2=>Ga rfl (Ga rfl (Af (Au (Ai (Gl2 ty111 ?_))))))
 refine Gc0 (Ap call129 rfl rfl (CheckS5_ok (nd:=nd) Bf)) ?_
 refine Ga rfl (Af (Ai (Gm rfl (Gr (Be rfl rfl) (Af (A7 rfl (fun c17=>?_) (fun c17=>?_)))))))
 ·exact absurd hval c17
 ·refine Aw (Aj (Ai (Ga rfl (Af (Au (Ai (Gm rfl (Gr (Bx (α:=Ev) (xs:=es) A1 rfl (Bj hl)) (Gm rfl (Af (Ar (S6 22 21 20 8 4 2 rfl rfl rfl rfl rfl rfl) (A4 (Bv (σ:=Nat×(Option Addr)×Nat×Int) (fun s=>([(2,.pointer (some ⟨b1,0,none⟩)),(4,.pointer (some ⟨b2,0,none⟩)),(8,I64 (s.2.2.2)),(20,va),(21,I64 (((es.length:Nat):Int))),(22,I64 (((s.1:Nat):Int)))]:Env)) (fun s=>blk b1 [I64 (nd),.slice s.2.1 (List.foldl stepL xs (List.take s.1 es)).length s.2.2.1] 111::vc 146 (.slice s.2.1 (List.foldl stepL xs (List.take s.1 es)).length s.2.2.1) (List.foldl stepL xs (List.take s.1 es))::blk b2 [I64 (0),.slice none 0 0] 111::I) (fun s=>(s.1≤es.length)∧(checkS nd (List.foldl stepL xs (List.take s.1 es))=0)∧(0≤s.2.2.2∧s.2.2.2≤s.1*2000001)) (fun s=>es.length - s.1) (0,a0,c0,0) (show ((0:Nat)≤es.length)∧(checkS nd (List.foldl stepL xs (List.take (0:Nat) es))=0)∧(0≤(0:Int)∧(0:Int)≤(0:Nat)*2000001) from ⟨om,hval,om⟩) (Aa rfl (Aa rfl (Aa B8 (Aa rfl (Aa rfl (Aa B8 Bg)))))) (show Fit κ _ (blk b1 [I64 (nd),.slice (a0) (List.foldl stepL xs (List.take (0) es)).length (c0)] 111::vc 146 (.slice (a0) (List.foldl stepL xs (List.take (0) es)).length (c0)) (List.foldl stepL xs (List.take (0) es))::blk b2 [I64 (0),.slice none 0 0] 111::I) from Bt) ?_)))))))))))))
  rintro ⟨k,a1,c1,n⟩ hp
  dsimp only at hp ⊢
  obtain ⟨hk,hv,hn⟩:=hp
  have hlk:=steps_len (List.take k es) xs
  rw [List.length_take] at hlk
  refine Ai (Gr (A9 rfl rfl) (Af (Au (A7 rfl (fun c23=>?_) (fun c23=>?_)))))
  ·refine Aw (Aj (Au (A4 (Ai (Gm rfl (Gr (A3 (α:=Ev) (xs:=es) A1 ty108 rfl rfl (Bj hl) om om) (Gr (Bu (α:=Ev) (xs:=es) ty108 rfl (Bj hl) om om) (Ge1 (A8 ty108 rfl) fun b3=>Ga rfl (Ge0 (Es7_7 ty108) ?_)))))))))
   refine Af (Ai (Gl2 ty111 ?_))
   refine Gl7 ty108 ?_
   refine G.e (Ap call94 rfl rfl (Apply5_ok (nd:=nd) (e:=(at_ es (k:Int))) Bf hv (hfit k om) (by have hlk:=steps_len (List.take k es) xs;rw [List.length_take] at hlk;omega))) ?_
   rintro _ _ ⟨_,_,⟨⟨ad4,cp5,ad6,nn7,cp8⟩,⟨rfl,hnn7⟩,rfl⟩,rfl,rfl⟩
   show G Tryz.prog κ _ _ _ _ ([(30,.tuple #[.agg #[I64 (nd),.slice ad4 (stepL (List.foldl stepL xs (List.take k es)) (at_ es (k:Int))).length cp5],.slice ad6 nn7 cp8,I64 (0)]),(29,.agg #[I64 ((at_ es (k:Int)).kd),I64 ((at_ es (k:Int)).tm),I64 ((at_ es (k:Int)).u),I64 ((at_ es (k:Int)).v),I64 ((at_ es (k:Int)).w),I64 ((at_ es (k:Int)).lb),I64 ((at_ es (k:Int)).sg)]),(28,.agg #[I64 (nd),.slice a1 (List.foldl stepL xs (List.take k es)).length c1]),(9,I64 ((k:Int))),(10,.pointer (some ⟨b3,0,none⟩)),(26,.agg #[I64 ((at_ es (k:Int)).kd),I64 ((at_ es (k:Int)).tm),I64 ((at_ es (k:Int)).u),I64 ((at_ es (k:Int)).v),I64 ((at_ es (k:Int)).w),I64 ((at_ es (k:Int)).lb),I64 ((at_ es (k:Int)).sg)]),(25,elemPtr (va) (((k:Int)).toNat*Enc.sz Ev)),(24,I64 ((k:Int))),(23,.bool (decide ((k:Int)<((es.length:Nat):Int)))),(2,.pointer (some ⟨b1,0,none⟩)),(4,.pointer (some ⟨b2,0,none⟩)),(8,I64 (n)),(20,va),(21,I64 (((es.length:Nat):Int))),(22,I64 ((k:Int)))]:Env) (vc 146 (.slice ad4 (stepL (List.foldl stepL xs (List.take k es)) (at_ es (k:Int))).length cp5) (stepL (List.foldl stepL xs (List.take k es)) (at_ es (k:Int)))::blk b3 [I64 ((at_ es (k:Int)).kd),I64 ((at_ es (k:Int)).tm),I64 ((at_ es (k:Int)).u),I64 ((at_ es (k:Int)).v),I64 ((at_ es (k:Int)).w),I64 ((at_ es (k:Int)).lb),I64 ((at_ es (k:Int)).sg)] 108::blk b1 [I64 (nd),.slice a1 (List.foldl stepL xs (List.take k es)).length c1] 111::vc 146 (.slice a1 (List.foldl stepL xs (List.take k es)).length c1) (List.foldl stepL xs (List.take k es))::blk b2 [I64 (0),.slice none 0 0] 111::I)
   have hnn7:nn7≤2*(List.foldl stepL xs (List.take k es)).length+1:=hnn7
   refine Gm rfl (Gr (A2 rfl rfl) (Gr (A2 rfl rfl) (Gr (A2 rfl rfl) (Ge1 (A8 ty111 rfl) fun b9=>Ge0 (Ce ty111) ?_))))
   refine Ga rfl (Ga rfl (Af (Ar (S10 13 12 11 9 2 4 8 20 21 22 rfl rfl rfl rfl rfl rfl rfl rfl rfl rfl) (Au (Ai (Gm rfl (Gr (Be rfl rfl) (Af (A7 rfl (fun c35=>?_) (fun c35=>?_))))))))))
   ·exact absurd rfl c35
   ·refine Aw (Aj (Az (Gl2 ty111 ?_)))
    refine Gm rfl (Gm rfl (Gr (Bp A1 rfl) (Gr (Rad rfl rfl) (Ge0 (Ce ty111) ?_))))
    exact Ga rfl (Bc (Ak (Aj (Ar (S6 8 2 4 20 21 22 rfl rfl rfl rfl rfl rfl) (Az (Gr (Rad rfl rfl) (Gm rfl (Bc (B3 ((k+1),(ad4),(cp5),(n+(nn7:Int))) (by dsimp only;exact ⟨om,(by rw [steps_succ om];exact stepL_val hv (hfit k om)),om⟩) (hI:=by (try dsimp only);exact (by rw [steps_succ om];exact Bt)))))))))))
  ·refine Bs (Am (Am (A6 (Aj (Ai (Gl2 ty111 ?_))))))
   refine Gm rfl (Ge0 (Ce ty111) ?_)
   refine Ga rfl (Ga rfl (Af (Ax ?_)))
   have hk2:List.take k es=es:=List.take_of_length_le om
   exact V.retc2 rfl ty111 rfl rfl rfl mm rfl (vc 146 (.slice a1 (List.foldl stepL xs es).length c1) (List.foldl stepL xs es)::I) (by rw [hk2];exact A5) ⟨⟨a1,c1,n⟩,by rw [hk2],rfl⟩
theorem qnot_t{q:Bool}{p:Prop}[Decidable p](h:(!q)=true)(hq:q=decide p):¬p:=fun hp=>by rw [hq,decide_eq_true hp] at h;cases h
theorem qnot_f{q:Bool}{p:Prop}[Decidable p](h:(!q)=false)(hq:q=decide p):p:=Classical.byContradiction fun hp=>by rw [hq,decide_eq_false hp] at h;cases h
theorem Until7_ok{κ:Ctx}{I:List Item}{nd kd wd mo:Int}{va:Value}{xs:List Lk}(hl:Sl κ I va xs) :
    CallS Tryz.prog κ 160 [.agg #[I64 (nd),va],.agg #[I64 (kd),I64 (wd),I64 (mo)]] I (fun r J=>∃z:Int,r = .tuple #[I64 z,.bool (decide (untilC nd xs kd wd mo)),I64 (uErr nd xs kd wd mo)]∧UntilP nd xs kd wd mo z∧I=J):=by
 refine B4 hl.le fun hmax=>?_
 refine Ce2 Tryz.func160 rfl rfl ?_
 refine Ai (Ge1 (Bd (cs:=[_,_]) rfl rfl rfl) fun b1=>Ge1 (Bd (cs:=[_,_,_]) rfl rfl rfl) fun b2=>Ga rfl (Ga rfl (Ga rfl (Af (Au (Ai (Gl3 ty31 ?_)))))))
 refine Gc0 (Ap call85 rfl rfl (CheckW7_ok kd wd mo)) ?_
 refine Ga rfl (Af (Ai (Gm rfl (Gr (Be rfl rfl) (Af (A7 rfl (fun c17=>?_) (fun c17=>?_)))))))
 ·refine Ai (Gm rfl (Ga rfl (Ga rfl (Ga rfl (Af (Ar (S3 6 5 4 rfl rfl rfl) (Ax (Ah ?_))))))))
  have hu:uErr nd xs kd wd mo=checkW kd wd mo:=by unfold uErr;rw [if_pos c17]
  have hn:¬untilC nd xs kd wd mo:=fun h=>c17 (hu▸h.1)
  exact V.ret3 rfl rfl rfl rfl (I) A0 ⟨0,by rw [decide_eq_false hn,hu],.none hn,rfl⟩
 ·refine Aw (Aj (Au (Ai (Gl2 ty111 ?_))))
  refine Gc0 (Ap call129 rfl rfl (CheckS5_ok (nd:=nd) (Bj hl))) ?_
  refine Ga rfl (Af (Ar (S3 8 3 2 rfl rfl rfl) (Ai (Gm rfl (Gr (Be rfl rfl) (Af (A7 rfl (fun c22=>?_) (fun c22=>?_))))))))
  ·refine Ai (Gm rfl (Ga rfl (Ga rfl (Ga rfl (Af (Ax (Ah ?_)))))))
   have hu:uErr nd xs kd wd mo=checkS nd xs:=by unfold uErr;rw [if_neg c17]
   have hn:¬untilC nd xs kd wd mo:=fun h=>c22 (hu▸h.1)
   exact V.ret3 rfl rfl rfl rfl (I) A0 ⟨0,by rw [decide_eq_false hn,hu],.none hn,rfl⟩
  ·refine Aw (Aj (Ai (Ga rfl (Ga rfl (Af (Au (Ai (Gf fld111_1 rfl (Gl ty109 ?_)))))))))
   refine Gr (Bx (α:=Lk) (xs:=xs) Aq rfl (Bj hl)) (Gm rfl (Af (A4 (Bv (σ:=Nat×Int×Bool) (fun s=>([(3,.pointer (some ⟨b2,0,none⟩)),(9,I64 (s.2.1)),(10,.bool (s.2.2)),(25,va),(26,I64 (((xs.length:Nat):Int))),(27,I64 (((s.1:Nat):Int)))]:Env)) (fun s=>blk b2 [I64 (kd),I64 (wd),I64 (mo)] 31::blk b1 [I64 (nd),va] 111::I) (fun s=>(s.1≤xs.length)∧(s.2.2=decide (kd=2∧0<s.1))∧(¬(kd=2∧0<s.1)→s.2.1=0)∧(kd=2∧0<s.1→∃x∈xs,s.2.1=x.tm+wd)∧(kd=2→∀j,j<s.1→s.2.1≤(at_ xs (j:Int)).tm+wd)) (fun s=>xs.length - s.1) (0,0,false) (show ((0:Nat)≤xs.length)∧((false:Bool)=decide (kd=2∧0<(0:Nat)))∧(¬(kd=2∧0<(0:Nat))→(0:Int)=0)∧(kd=2∧0<(0:Nat)→∃x∈xs,(0:Int)=x.tm+wd)∧(kd=2→∀j,j<(0:Nat)→(0:Int)≤(at_ xs (j:Int)).tm+wd) from ⟨om,(decide_eq_false (fun h=>absurd h.2 om)).symm,(fun _=>rfl),(fun h=>absurd h.2 om),(fun _ j hj=>absurd hj om)⟩) (Aa rfl (Aa B8 (Aa (Cp rfl (by first|rfl|simp)) (Aa rfl (Aa rfl (Aa B8 Bg)))))) (show Fit κ _ (blk b2 [I64 (kd),I64 (wd),I64 (mo)] 31::blk b1 [I64 (nd),va] 111::I) from A5) ?_))))
   rintro ⟨k,z,q⟩ hp
   dsimp only at hp ⊢
   obtain ⟨hk,hq,hz0,hz1,hz2⟩:=hp
   refine Ai (Gr (A9 rfl rfl) (Af (Au (A7 rfl (fun c28=>?_) (fun c28=>?_)))))
   ·refine Aw (Aj (Au (A4 (Ai (Gr (A3 (α:=Lk) (xs:=xs) Aq ty146 rfl rfl (Bj hl) om om) (Gr (Bu (α:=Lk) (xs:=xs) ty146 rfl (Bj hl) om om) (Ge1 (A8 ty146 rfl) fun b3=>Ge0 (D3 ty146) ?_)))))))
    have htk:=checkS_tm (Classical.not_not.1 c22) (k:Int) om om
    have hwk:=checkW_wd (Classical.not_not.1 c17)
    refine Af (Ai (Gf fld146_5 rfl (Gl ty3 ?_)))
    refine Gf fld31_1 rfl (Gl ty3 ?_)
    refine Gr (Rad rfl rfl) (Ga rfl (Af (Ar (S7 13 3 9 10 25 26 27 rfl rfl rfl rfl rfl rfl rfl) (Ai (Gf fld31_0 rfl (Gl ty3 ?_))))))
    refine Gr (Bi rfl rfl) (Gm rfl (Bb (d:=39) rfl (fun g39=>?_) (fun g39=>?_)))
    ·refine Gro (Ad rfl) (Gro (Cu rfl) (Gro (Ad rfl) (G.splitb (d:=42) rfl (fun g42=>?_) (fun g42=>?_))))
     ·exact Gpo (Gpo (Gpo (Gro (Ao rfl rfl) (Gr (Ao rfl rfl) (Af (Ar (S8 47 13 3 9 10 25 26 27 rfl rfl rfl rfl rfl rfl rfl rfl) (Ca rfl (Az (Gm rfl (Ga rfl (Ga rfl (Bc (Ak (Aj (Az (Gr (Rad rfl rfl) (Gm rfl (Bc (B3 ((k+1),(((at_ xs (k:Int)).tm)+wd),(true)) (by dsimp only;exact ⟨om,(by first|exact (decide_eq_true om).symm|(rw [hq,decide_eq_decide];omega)|(rw [hq,decide_eq_decide];have hP:=qnot_f g42 hq;omega)),(fun h=>by first|omega|exact hz0 om),(fun h=>by first|exact ⟨_,Cf (i:=(k:Int)) om om,rfl⟩|exact hz1 om|(have hP:=qnot_f g42 hq;exact hz1 hP)),(fun hk2=>by first|omega|exact Di (fun j hj=>by first|(have hP:=qnot_t g42 hq;omega)|(have h5:=hz2 hk2 j hj;omega)) (Int.le_refl _)|exact Di (hz2 hk2) om)⟩))))))))))))))))))))
     ·refine Gro (Ad rfl) (Gro (Ad rfl) (Gro (A9 rfl rfl) (Gro (Al rfl rfl) (Gr (Ao rfl rfl) (Af (Ar (S8 47 13 3 9 10 25 26 27 rfl rfl rfl rfl rfl rfl rfl rfl) (A7 rfl (fun c47=>?_) (fun c47=>?_))))))))
      ·exact Az (Gm rfl (Ga rfl (Ga rfl (Bc (Ak (Aj (Az (Gr (Rad rfl rfl) (Gm rfl (Bc (B3 ((k+1),(((at_ xs (k:Int)).tm)+wd),(true)) (by dsimp only;exact ⟨om,(by first|exact (decide_eq_true om).symm|(rw [hq,decide_eq_decide];omega)|(rw [hq,decide_eq_decide];have hP:=qnot_f g42 hq;omega)),(fun h=>by first|omega|exact hz0 om),(fun h=>by first|exact ⟨_,Cf (i:=(k:Int)) om om,rfl⟩|exact hz1 om|(have hP:=qnot_f g42 hq;exact hz1 hP)),(fun hk2=>by first|omega|exact Di (fun j hj=>by first|(have hP:=qnot_t g42 hq;omega)|(have h5:=hz2 hk2 j hj;omega)) (Int.le_refl _)|exact Di (hz2 hk2) om)⟩))))))))))))
      ·exact Aw (Ak (Aj (Az (Gr (Rad rfl rfl) (Gm rfl (Bc (B3 ((k+1),(z),(q)) (by dsimp only;exact ⟨om,(by first|exact (decide_eq_true om).symm|(rw [hq,decide_eq_decide];omega)|(rw [hq,decide_eq_decide];have hP:=qnot_f g42 hq;omega)),(fun h=>by first|omega|exact hz0 om),(fun h=>by first|exact ⟨_,Cf (i:=(k:Int)) om om,rfl⟩|exact hz1 om|(have hP:=qnot_f g42 hq;exact hz1 hP)),(fun hk2=>by first|omega|exact Di (fun j hj=>by first|(have hP:=qnot_t g42 hq;omega)|(have h5:=hz2 hk2 j hj;omega)) (Int.le_refl _)|exact Di (hz2 hk2) om)⟩))))))))
    ·exact Gpo (Gpo (Gpo (Gpu (Gpu (Gpu (Gpo (Gr (Al rfl rfl) (Af (Ar (S8 47 13 3 9 10 25 26 27 rfl rfl rfl rfl rfl rfl rfl rfl) (C9 rfl (Aw (Ak (Aj (Az (Gr (Rad rfl rfl) (Gm rfl (Bc (B3 ((k+1),(z),(q)) (by dsimp only;exact ⟨om,(by first|exact (decide_eq_true om).symm|(rw [hq,decide_eq_decide];omega)|(rw [hq,decide_eq_decide];have hP:=qnot_f g42 hq;omega)),(fun h=>by first|omega|exact hz0 om),(fun h=>by first|exact ⟨_,Cf (i:=(k:Int)) om om,rfl⟩|exact hz1 om|(have hP:=qnot_f g42 hq;exact hz1 hP)),(fun hk2=>by first|omega|exact Di (fun j hj=>by first|(have hP:=qnot_t g42 hq;omega)|(have h5:=hz2 hk2 j hj;omega)) (Int.le_refl _)|exact Di (hz2 hk2) om)⟩)))))))))))))))))))
   ·refine Bs (Am (Am (A6 (Aj (Ai (Gm rfl (Gm rfl (Ga rfl (Ga rfl (Ga rfl (Af (Ax ?_))))))))))))
    have hu:uErr nd xs kd wd mo=0:=uErr_zero c17 c22
    have hc:untilC nd xs kd wd mo↔(kd=2∧0<k):=⟨fun h=>⟨h.2.1,by have:=List.length_pos_iff.2 h.2.2;omega⟩,fun h=>⟨hu,h.1,List.length_pos_iff.1 om⟩⟩
    exact V.ret3 rfl rfl rfl rfl (I) A0 ⟨z,by rw [hq,show decide (untilC nd xs kd wd mo)=decide (kd=2∧0<k) from decide_eq_decide.2 hc,hu],⟨fun h=>⟨hz1 (hc.1 h),fun y hy=>by obtain ⟨j,hj,rfl⟩:=Ei hy;exact hz2 (hc.1 h).1 j om⟩,fun h=>hz0 (fun h2=>h (hc.2 h2))⟩,rfl⟩
end Go.Sl
