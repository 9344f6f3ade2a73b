/- A part of the proofs of statements of this seat: contracts of functions, and the plain laws that they lean on. No conditions. -/
import Derived.Test.YtfkcohmipjhfcaaGreatDoorF13
import Derived.ScopeJumps
set_option linter.unusedVariables false
set_option linter.unusedSimpArgs false
set_option linter.unusedSectionVars false
namespace Go.Sl
open Go.Proofs
set_option maxRecDepth 4000
variable {κ:Ctx}{I:List Item}
theorem eqt177:EqT Tryz.prog 177 Wd:=EqT.flatU (fun p:Wd=>[p.hi,p.lo]) (fun _=>rfl) (fun x y h=>by cases x;cases y;simpa using h) (n:=2) (fun _=>rfl) kr kr kr kr kr
theorem wd_zero{y:Int}:(⟨0,y⟩:Wd)=⟨0,0⟩↔y=0:=by rw [Wd.mk.injEq];exact ⟨fun h=>h.2,fun h=>⟨rfl,h⟩⟩
theorem mkF_zero{b:Int}(h:0<b):mkF 0 b=⟨0,1⟩:=by
 have e:gcdI 0 b=b:=by unfold gcdI;simp;omega
 unfold mkF;rw [e,Int.zero_ediv,Int.ediv_self om]
theorem gcdI_mod{a b:Int}(h0:0≤a)(h1:0<b):gcdI b (a % b)=gcdI a b:=by
 rw [←gcdI_step h0 h1,Int.tmod_eq_emod_of_nonneg h0]
theorem WDouble_ok(n:Int)(h:0≤n∧n<9223372036854775808) :
    CallS Tryz.prog κ 278 [.agg #[.int .u64 (0),.int .u64 (n)]] I (fun r J=>r = .agg #[.int .u64 0,.int .u64 (2*n)]∧I=J):=by
 refine Ce1 Tryz.func278 rfl rfl ?_
 refine Ah (Ge1 (Bb (cs:=[_,_]) rfl rfl rfl) fun b1=>Ge1 (Ax ty177 rfl) fun b2=>Af (Ah (Gf fld177_0 rfl (Gl ty175 ?_))))
 refine Gr (Runs.shlU (m:=0) rfl rfl dc dc) (Gf fld177_1 rfl (Gl ty175 ?_))
 refine Gr (Runs.shr63 (m:=n) rfl rfl om om) (Gr (Runs.orZ rfl rfl) (Gf fld177_1 rfl (Gl ty175 ?_)))
 refine Gr (Runs.shlU (m:=n) rfl rfl om om) (Gr (Bc (cells:=[_,_]) ty177 Co pl177 rfl rfl) (Ge0 (Bj ty177) ?_))
 exact Af (Ar (S1 2 rfl) (Ay (C6 rfl ty177 rfl mm rfl (I) A1 ⟨rfl,rfl⟩)))
theorem WLess_ok(a b:Int) :
    CallS Tryz.prog κ 124 [.agg #[.int .u64 (0),.int .u64 (a)],.agg #[.int .u64 (0),.int .u64 (b)]] I (fun r J=>r = .bool (decide (a<b))∧I=J):=by
 refine Ce2 Tryz.func124 rfl rfl ?_
 refine Ah (Ge1 (Bb (cs:=[_,_]) rfl rfl rfl) fun b1=>Ge1 (Bb (cs:=[_,_]) rfl rfl rfl) fun b2=>Ga rfl (Af (Ah (Gf fld177_0 rfl (Gl ty175 ?_)))))
 refine Gf fld177_0 rfl (Gl ty175 ?_)
 refine Gr (A8 rfl rfl) (Gm rfl (A7 (d:=10) rfl (fun g10=>?_) (fun g10=>?_)))
 ·exact absurd g10 om
 ·refine Gro (Aa fld177_0 rfl) (Gro (As ty175) ?_)
  refine Gro (Aa fld177_0 rfl) (Gro (As ty175) ?_)
  refine Gro (Bi rfl rfl) (Gro (Ac rfl) (A7 (d:=16) rfl (fun g16=>?_) (fun g16=>?_)))
  ·refine Gro (Aa fld177_1 rfl) (Gro (As ty175) ?_)
   refine Gro (Aa fld177_1 rfl) (Gro (As ty175) ?_)
   exact Gro (A8 rfl rfl) (Gro (Ao rfl rfl) (Gr (Ak rfl rfl) (Ga rfl (Af (Ar (S1 4 rfl) (Ay (A0 rfl rfl (I) A1 ⟨rfl,rfl⟩)))))))
  ·exact absurd rfl g16
theorem WSub_ok(a b:Int)(h:0≤b∧b≤a∧a<9223372036854775808) :
    CallS Tryz.prog κ 279 [.agg #[.int .u64 (0),.int .u64 (a)],.agg #[.int .u64 (0),.int .u64 (b)]] I (fun r J=>r = .agg #[.int .u64 0,.int .u64 (a - b)]∧I=J):=by
 refine Ce2 Tryz.func279 rfl rfl ?_
 refine Ah (Ge1 (Bb (cs:=[_,_]) rfl rfl rfl) fun b1=>Ge1 (Bb (cs:=[_,_]) rfl rfl rfl) fun b2=>Ge1 (Ax ty177 rfl) fun b3=>Af (Ah (Gf fld177_0 rfl (Gl ty175 ?_))))
 refine Gf fld177_0 rfl (Gl ty175 ?_)
 refine Gr (Runs.subU (m:=0) (n:=0) rfl rfl dc dc dc) (Ga rfl (Af (Av (Ah (Gf fld177_1 rfl (Gl ty175 ?_))))))
 refine Gf fld177_1 rfl (Gl ty175 ?_)
 refine Gr (A8 rfl rfl) (Af (Ar (S5 15 5 4 3 2 rfl rfl rfl rfl rfl) (A6 rfl (fun c15=>?_) (fun c15=>?_))))
 ·exact absurd c15 om
 ·refine Az (Ai (Ah (Gm rfl (Gf fld177_1 rfl (Gl ty175 ?_)))))
  refine Gf fld177_1 rfl (Gl ty175 ?_)
  refine Gr (Runs.subU (m:=a) (n:=b) rfl rfl om om om) (Gr (Bc (cells:=[_,_]) ty177 Co pl177 rfl rfl) (Ge0 (Bj ty177) ?_))
  exact Af (Ay (C6 rfl ty177 rfl mm rfl (I) A1 ⟨rfl,rfl⟩))
set_option maxHeartbeats 1000000 in
theorem WDivide_ok(a b:Int)(h0:0≤a∧a≤1152921504606846976)(h1:0<b∧b≤1152921504606846976) :
    CallS Tryz.prog κ 228 [.agg #[.int .u64 (0),.int .u64 (a)],.agg #[.int .u64 (0),.int .u64 (b)]] I (fun r J=>r = .tuple #[.agg #[.int .u64 0,.int .u64 (a / b)],.agg #[.int .u64 0,.int .u64 (a % b)]]∧I=J):=by
 refine Ce2 Tryz.func228 rfl rfl ?_
 refine Ah (Ge1 (Bb (cs:=[_,_]) rfl rfl rfl) fun b1=>Ge1 (Bb (cs:=[_,_]) rfl rfl rfl) fun b2=>Ge1 (Ax ty177 rfl) fun b3=>Ge1 (Ax ty177 rfl) fun b4=>Af (Ah (Ge1 (Ax ty177 rfl) fun b5=>Ge1 (Ax ty177 rfl) fun b6=>Af (Av (Ah (Ga rfl (Af (A5 (Bv (σ:=Int×Int×Int) (fun s=>([(2,.pointer (some ⟨b1,0,none⟩)),(3,.pointer (some ⟨b2,0,none⟩)),(4,.pointer (some ⟨b3,0,none⟩)),(5,.pointer (some ⟨b4,0,none⟩)),(6,.pointer (some ⟨b5,0,none⟩)),(7,.pointer (some ⟨b6,0,none⟩)),(8,I64 (s.1))]:Env)) (fun s=>blk b6 [.int .u64 (0),.int .u64 (s.2.2)] 177::blk b5 [.int .u64 (0),.int .u64 (s.2.1)] 177::blk b4 [.int .u64 (0),.int .u64 (0)] 177::blk b3 [.int .u64 (0),.int .u64 (0)] 177::blk b2 [.int .u64 (0),.int .u64 (b)] 177::blk b1 [.int .u64 (0),.int .u64 (a)] 177::I) (fun s=>(-1≤s.1∧s.1≤127)∧(0≤s.2.2∧s.2.2<b)∧(0≤s.2.1)∧(a / 2 ^ (s.1+1).toNat=s.2.1*b+s.2.2)) (fun s=>(s.1+1).toNat) (127,0,0) (show (-1≤(127:Int)∧(127:Int)≤127)∧(0≤(0:Int)∧(0:Int)<b)∧(0≤(0:Int))∧(a / 2 ^ ((127:Int)+1).toNat=(0:Int)*b+(0:Int)) from ⟨om,om,om,(div_start h0.1 om)⟩) (Ab rfl (Ab rfl (Ab rfl (Ab rfl (Ab rfl (Ab rfl (Ab Ca Bp))))))) (show Fit κ _ (blk b6 [.int .u64 (0),.int .u64 ((0))] 177::blk b5 [.int .u64 (0),.int .u64 ((0))] 177::blk b4 [.int .u64 (0),.int .u64 (0)] 177::blk b3 [.int .u64 (0),.int .u64 (0)] 177::blk b2 [.int .u64 (0),.int .u64 (b)] 177::blk b1 [.int .u64 (0),.int .u64 (a)] 177::I) from A4) ?_)))))))))
 rintro ⟨i,qq,rr⟩ hp
 dsimp only at hp ⊢
 obtain ⟨hi,hr,hq,hd⟩:=hp
 have hqa:=div_bd h0.1 hd hr.1 h1.1 hq
 have hbt:=bitA_two a i
 have hbh:63≤i→bitA a i=0:=bitA_high h0.1 om
 refine Av (Ah (Gm rfl (Gr (B5 rfl rfl) (Af (A6 rfl (fun c10=>?_) (fun c10=>?_))))))
 ·refine Az (Ai (Av (A5 (Ah (Gl2 ty177 ?_)))))
  refine G.e (Aj call278 rfl rfl (WDouble_ok rr om)) ?_
  rintro _ _ ⟨_,_,⟨rfl,rfl⟩,rfl,rfl⟩
  refine Ge0 (Bj ty177) ?_
  refine Af (Av (Ah (Gm rfl (Gr (B5 rfl rfl) (Gm rfl (A7 (d:=17) rfl (fun g17=>?_) (fun g17=>?_)))))))
  ·refine Gro (Aa fld177_0 rfl) (Gro (As ty175) ?_)
   refine Gro (Ac rfl) (Gro (Rsu rfl rfl) (Gro (Cr Bf Cg rfl om) (Gro (Runs.zeroU rfl rfl om om) (Gro (Runs.zand rfl rfl) (Gro (Bi rfl rfl) (Gr (Ao rfl rfl) (Gm rfl (A7 (d:=27) rfl (fun g27=>?_) (fun g27=>?_)))))))))
   ·exact absurd g27 om
   ·refine Gro (Ac rfl) (Gro (A8 rfl rfl) (Gro (Ac rfl) (A7 (d:=30) rfl (fun g30=>?_) (fun g30=>?_))))
    ·refine Gro (Aa fld177_1 rfl) (Gro (As ty175) ?_)
     refine Gro (Ac rfl) (Gro (Cr Bf Cg rfl om) (Gro (Runs.shrU (m:=a) rfl rfl om om) (Gro (Runs.bitU (a:=a) (i:=i) rfl rfl om om) (Gro (Bi rfl rfl) (Gro (Ao rfl rfl) (Gr (Ak rfl rfl) (Af (Ar (S8 39 2 3 4 5 6 7 8 rfl rfl rfl rfl rfl rfl rfl rfl) (A6 rfl (fun c39=>?_) (fun c39=>?_))))))))))
     ·refine A2 (Gf fld177_1 rfl (Gl ty175 ?_))
      refine Gr (Ee (m:=rr) rfl rfl om om) (Gf fld177_1 rfl (Ge0 (Dy ty175) ?_))
      refine Af (Ah (Gl2 ty177 ?_))
      refine G.e (Aj call278 rfl rfl (WDouble_ok qq om)) ?_
      rintro _ _ ⟨_,_,⟨rfl,rfl⟩,rfl,rfl⟩
      refine Ge0 (Bj ty177) ?_
      refine Af (Ar (S7 2 3 4 5 6 7 8 rfl rfl rfl rfl rfl rfl rfl) (Ah (Gl2 ty177 ?_)))
      refine Gl2 ty177 ?_
      refine Gc0 (Aj call124 rfl rfl (WLess_ok (2*rr+1) b)) ?_
      refine Gr (Cd rfl) (Af (A6 rfl (fun c49=>?_) (fun c49=>?_)))
      ·refine Ah (Gl2 ty177 ?_)
       refine Gl2 ty177 ?_
       refine Gc0 (Aj call279 rfl rfl (WSub_ok (2*rr+1) b om)) ?_
       refine Ge0 (Bj ty177) ?_
       refine Af (Ar (S7 2 3 4 5 6 7 8 rfl rfl rfl rfl rfl rfl rfl) (A2 (Gf fld177_1 rfl (Gl ty175 ?_))))
       refine Gr (Ee (m:=qq) rfl rfl om om) (Gf fld177_1 rfl (Ge0 (Dy ty175) ?_))
       exact Be (Al (Ai (A2 (Gm rfl (Gr (Rsu rfl rfl) (Ga rfl (Be (B0 ((i - 1),(2*qq+1),((2*rr+1) - b)) (by dsimp only;exact ⟨om,om,om,(by first|exact Eo h0.1 hd om om|exact En h0.1 hd om om)⟩)))))))))
      ·exact Az (Al (Ai (A2 (Gm rfl (Gr (Rsu rfl rfl) (Ga rfl (Be (B0 ((i - 1),(2*qq),(2*rr+1)) (by dsimp only;exact ⟨om,om,om,(by first|exact Eo h0.1 hd om om|exact En h0.1 hd om om)⟩)))))))))
     ·refine Az (Ai (Ah (Gl2 ty177 ?_)))
      refine G.e (Aj call278 rfl rfl (WDouble_ok qq om)) ?_
      rintro _ _ ⟨_,_,⟨rfl,rfl⟩,rfl,rfl⟩
      refine Ge0 (Bj ty177) ?_
      refine Af (Ah (Gl2 ty177 ?_))
      refine Gl2 ty177 ?_
      refine Gc0 (Aj call124 rfl rfl (WLess_ok (2*rr) b)) ?_
      refine Gr (Cd rfl) (Af (Ar (S8 49 2 3 4 5 6 7 8 rfl rfl rfl rfl rfl rfl rfl rfl) (A6 rfl (fun c49=>?_) (fun c49=>?_))))
      ·refine Ah (Gl2 ty177 ?_)
       refine Gl2 ty177 ?_
       refine Gc0 (Aj call279 rfl rfl (WSub_ok (2*rr) b om)) ?_
       refine Ge0 (Bj ty177) ?_
       refine Af (A2 (Gf fld177_1 rfl (Gl ty175 ?_)))
       refine Gr (Ee (m:=qq) rfl rfl om om) (Gf fld177_1 rfl (Ge0 (Dy ty175) ?_))
       exact Be (Al (Ai (Ar (S7 2 3 4 5 6 7 8 rfl rfl rfl rfl rfl rfl rfl) (A2 (Gm rfl (Gr (Rsu rfl rfl) (Ga rfl (Be (B0 ((i - 1),(2*qq+1),((2*rr) - b)) (by dsimp only;exact ⟨om,om,om,(by first|exact Eo h0.1 hd om om|exact En h0.1 hd om om)⟩))))))))))
      ·exact Az (Al (Ai (A2 (Gm rfl (Gr (Rsu rfl rfl) (Ga rfl (Be (B0 ((i - 1),(2*qq),(2*rr)) (by dsimp only;exact ⟨om,om,om,(by first|exact Eo h0.1 hd om om|exact En h0.1 hd om om)⟩)))))))))
    ·refine Gpo (Gpo (Gpo (Gpo (Gpo (Gpo (Gpo (Gro (Ak rfl rfl) (Gr (Ak rfl rfl) (Af (Ar (S8 39 2 3 4 5 6 7 8 rfl rfl rfl rfl rfl rfl rfl rfl) (Cw rfl (Az (Ai (Ah (Gl2 ty177 ?_)))))))))))))))
     refine G.e (Aj call278 rfl rfl (WDouble_ok qq om)) ?_
     rintro _ _ ⟨_,_,⟨rfl,rfl⟩,rfl,rfl⟩
     refine Ge0 (Bj ty177) ?_
     refine Af (Ah (Gl2 ty177 ?_))
     refine Gl2 ty177 ?_
     refine Gc0 (Aj call124 rfl rfl (WLess_ok (2*rr) b)) ?_
     refine Gr (Cd rfl) (Af (Ar (S8 49 2 3 4 5 6 7 8 rfl rfl rfl rfl rfl rfl rfl rfl) (A6 rfl (fun c49=>?_) (fun c49=>?_))))
     ·refine Ah (Gl2 ty177 ?_)
      refine Gl2 ty177 ?_
      refine Gc0 (Aj call279 rfl rfl (WSub_ok (2*rr) b om)) ?_
      refine Ge0 (Bj ty177) ?_
      refine Af (A2 (Gf fld177_1 rfl (Gl ty175 ?_)))
      refine Gr (Ee (m:=qq) rfl rfl om om) (Gf fld177_1 rfl (Ge0 (Dy ty175) ?_))
      exact Be (Al (Ai (Ar (S7 2 3 4 5 6 7 8 rfl rfl rfl rfl rfl rfl rfl) (A2 (Gm rfl (Gr (Rsu rfl rfl) (Ga rfl (Be (B0 ((i - 1),(2*qq+1),((2*rr) - b)) (by dsimp only;exact ⟨om,om,om,(by first|exact Eo h0.1 hd om om|exact En h0.1 hd om om)⟩))))))))))
     ·exact Az (Al (Ai (A2 (Gm rfl (Gr (Rsu rfl rfl) (Ga rfl (Be (B0 ((i - 1),(2*qq),(2*rr)) (by dsimp only;exact ⟨om,om,om,(by first|exact Eo h0.1 hd om om|exact En h0.1 hd om om)⟩)))))))))
  ·refine Gpo (Gpo (Gpo (Gpo (Gpo (Gpo (Gpo (Gpo (Gr (Ak rfl rfl) (Gm rfl (Gro (Ac rfl) (Gro (A8 rfl rfl) (Gro (Ac rfl) (A7 (d:=30) rfl (fun g30=>?_) (fun g30=>?_))))))))))))))
   ·refine Gro (Aa fld177_1 rfl) (Gro (As ty175) ?_)
    refine Gro (Ac rfl) (Gro (Cr Bf Cg rfl om) (Gro (Runs.shrU (m:=a) rfl rfl om om) (Gro (Runs.bitU (a:=a) (i:=i) rfl rfl om om) (Gro (Bi rfl rfl) (Gro (Ao rfl rfl) (Gr (Ak rfl rfl) (Af (Ar (S8 39 2 3 4 5 6 7 8 rfl rfl rfl rfl rfl rfl rfl rfl) (A6 rfl (fun c39=>?_) (fun c39=>?_))))))))))
    ·refine A2 (Gf fld177_1 rfl (Gl ty175 ?_))
     refine Gr (Ee (m:=rr) rfl rfl om om) (Gf fld177_1 rfl (Ge0 (Dy ty175) ?_))
     refine Af (Ah (Gl2 ty177 ?_))
     refine G.e (Aj call278 rfl rfl (WDouble_ok qq om)) ?_
     rintro _ _ ⟨_,_,⟨rfl,rfl⟩,rfl,rfl⟩
     refine Ge0 (Bj ty177) ?_
     refine Af (Ar (S7 2 3 4 5 6 7 8 rfl rfl rfl rfl rfl rfl rfl) (Ah (Gl2 ty177 ?_)))
     refine Gl2 ty177 ?_
     refine Gc0 (Aj call124 rfl rfl (WLess_ok (2*rr+1) b)) ?_
     refine Gr (Cd rfl) (Af (A6 rfl (fun c49=>?_) (fun c49=>?_)))
     ·refine Ah (Gl2 ty177 ?_)
      refine Gl2 ty177 ?_
      refine Gc0 (Aj call279 rfl rfl (WSub_ok (2*rr+1) b om)) ?_
      refine Ge0 (Bj ty177) ?_
      refine Af (Ar (S7 2 3 4 5 6 7 8 rfl rfl rfl rfl rfl rfl rfl) (A2 (Gf fld177_1 rfl (Gl ty175 ?_))))
      refine Gr (Ee (m:=qq) rfl rfl om om) (Gf fld177_1 rfl (Ge0 (Dy ty175) ?_))
      exact Be (Al (Ai (A2 (Gm rfl (Gr (Rsu rfl rfl) (Ga rfl (Be (B0 ((i - 1),(2*qq+1),((2*rr+1) - b)) (by dsimp only;exact ⟨om,om,om,(by first|exact Eo h0.1 hd om om|exact En h0.1 hd om om)⟩)))))))))
     ·exact Az (Al (Ai (A2 (Gm rfl (Gr (Rsu rfl rfl) (Ga rfl (Be (B0 ((i - 1),(2*qq),(2*rr+1)) (by dsimp only;exact ⟨om,om,om,(by first|exact Eo h0.1 hd om om|exact En h0.1 hd om om)⟩)))))))))
    ·refine Az (Ai (Ah (Gl2 ty177 ?_)))
     refine G.e (Aj call278 rfl rfl (WDouble_ok qq om)) ?_
     rintro _ _ ⟨_,_,⟨rfl,rfl⟩,rfl,rfl⟩
     refine Ge0 (Bj ty177) ?_
     refine Af (Ah (Gl2 ty177 ?_))
     refine Gl2 ty177 ?_
     refine Gc0 (Aj call124 rfl rfl (WLess_ok (2*rr) b)) ?_
     refine Gr (Cd rfl) (Af (Ar (S8 49 2 3 4 5 6 7 8 rfl rfl rfl rfl rfl rfl rfl rfl) (A6 rfl (fun c49=>?_) (fun c49=>?_))))
     ·refine Ah (Gl2 ty177 ?_)
      refine Gl2 ty177 ?_
      refine Gc0 (Aj call279 rfl rfl (WSub_ok (2*rr) b om)) ?_
      refine Ge0 (Bj ty177) ?_
      refine Af (A2 (Gf fld177_1 rfl (Gl ty175 ?_)))
      refine Gr (Ee (m:=qq) rfl rfl om om) (Gf fld177_1 rfl (Ge0 (Dy ty175) ?_))
      exact Be (Al (Ai (Ar (S7 2 3 4 5 6 7 8 rfl rfl rfl rfl rfl rfl rfl) (A2 (Gm rfl (Gr (Rsu rfl rfl) (Ga rfl (Be (B0 ((i - 1),(2*qq+1),((2*rr) - b)) (by dsimp only;exact ⟨om,om,om,(by first|exact Eo h0.1 hd om om|exact En h0.1 hd om om)⟩))))))))))
     ·exact Az (Al (Ai (A2 (Gm rfl (Gr (Rsu rfl rfl) (Ga rfl (Be (B0 ((i - 1),(2*qq),(2*rr)) (by dsimp only;exact ⟨om,om,om,(by first|exact Eo h0.1 hd om om|exact En h0.1 hd om om)⟩)))))))))
   ·refine Gpo (Gpo (Gpo (Gpo (Gpo (Gpo (Gpo (Gro (Ak rfl rfl) (Gr (Ak rfl rfl) (Af (Ar (S8 39 2 3 4 5 6 7 8 rfl rfl rfl rfl rfl rfl rfl rfl) (Cw rfl (Az (Ai (Ah (Gl2 ty177 ?_)))))))))))))))
    refine G.e (Aj call278 rfl rfl (WDouble_ok qq om)) ?_
    rintro _ _ ⟨_,_,⟨rfl,rfl⟩,rfl,rfl⟩
    refine Ge0 (Bj ty177) ?_
    refine Af (Ah (Gl2 ty177 ?_))
    refine Gl2 ty177 ?_
    refine Gc0 (Aj call124 rfl rfl (WLess_ok (2*rr) b)) ?_
    refine Gr (Cd rfl) (Af (Ar (S8 49 2 3 4 5 6 7 8 rfl rfl rfl rfl rfl rfl rfl rfl) (A6 rfl (fun c49=>?_) (fun c49=>?_))))
    ·refine Ah (Gl2 ty177 ?_)
     refine Gl2 ty177 ?_
     refine Gc0 (Aj call279 rfl rfl (WSub_ok (2*rr) b om)) ?_
     refine Ge0 (Bj ty177) ?_
     refine Af (A2 (Gf fld177_1 rfl (Gl ty175 ?_)))
     refine Gr (Ee (m:=qq) rfl rfl om om) (Gf fld177_1 rfl (Ge0 (Dy ty175) ?_))
     exact Be (Al (Ai (Ar (S7 2 3 4 5 6 7 8 rfl rfl rfl rfl rfl rfl rfl) (A2 (Gm rfl (Gr (Rsu rfl rfl) (Ga rfl (Be (B0 ((i - 1),(2*qq+1),((2*rr) - b)) (by dsimp only;exact ⟨om,om,om,(by first|exact Eo h0.1 hd om om|exact En h0.1 hd om om)⟩))))))))))
    ·exact Az (Al (Ai (A2 (Gm rfl (Gr (Rsu rfl rfl) (Ga rfl (Be (B0 ((i - 1),(2*qq),(2*rr)) (by dsimp only;exact ⟨om,om,om,(by first|exact Eo h0.1 hd om om|exact En h0.1 hd om om)⟩)))))))))
 ·refine Bt (Aq (Aq (A9 (Ai (Av (Bk mixed (Bq (blk b6 [.int .u64 (0),.int .u64 (rr)] 177::blk b5 [.int .u64 (0),.int .u64 (qq)] 177::blk b2 [.int .u64 (0),.int .u64 (b)] 177::blk b1 [.int .u64 (0),.int .u64 (a)] 177::I) 2 (Dr 0 rfl (Bm (vs:=[_,_]) ty177) ?_))))))))
  refine Cc (rs:=[1,2]) kr rfl rfl (C4 ?_ (Dc ?_))
  ·refine Sr rfl (Bm (vs:=[_,_]) ty177) A4 ?_
   refine Dh kr ?_
   refine Ae 2 rfl (Bj ty177) ?_
   rintro _ _ ⟨rfl,rfl⟩
   refine Ae 3 rfl (Bj ty177) ?_
   rintro _ _ ⟨rfl,rfl⟩
   refine Di kr ?_
   refine Ai (Ay ?_)
   obtain ⟨hE1,hE2⟩:=div_end hd om hr.1 hr.2
   subst hE1 hE2
   exact V.retcc rfl ty177 ty177 rfl rfl mm mm rfl rfl (I) A1 ⟨rfl,rfl⟩
  ·refine Se0 rfl (Bj ty177) ?_
   refine Ds1 1 (Sr rfl (Bm (vs:=[_,_]) ty177) A4 ?_)
   refine Ds1 3 (Se0 rfl (Bj ty177) ?_)
   refine Dz (Ai (Ay ?_))
   obtain ⟨hE1,hE2⟩:=div_end hd om hr.1 hr.2
   subst hE1 hE2
   exact V.retcc rfl ty177 ty177 rfl rfl mm mm rfl rfl (I) A1 ⟨rfl,rfl⟩
theorem WGcd_ok(a b:Int)(h0:0≤a∧a≤1152921504606846976)(h1:0≤b∧b≤1152921504606846976) :
    CallS Tryz.prog κ 159 [.agg #[.int .u64 (0),.int .u64 (a)],.agg #[.int .u64 (0),.int .u64 (b)]] I (fun r J=>r = .agg #[.int .u64 0,.int .u64 (gcdI a b)]∧I=J):=by
 refine Ce2 Tryz.func159 rfl rfl ?_
 refine Ah (Ge1 (Bb (cs:=[_,_]) rfl rfl rfl) fun b1=>Ge1 (Bb (cs:=[_,_]) rfl rfl rfl) fun b2=>Ge1 (Ax ty177 rfl) fun b3=>Af (Av (A5 (Bv (σ:=Int×Int) (fun s=>([(2,.pointer (some ⟨b1,0,none⟩)),(3,.pointer (some ⟨b2,0,none⟩)),(4,.pointer (some ⟨b3,0,none⟩))]:Env)) (fun s=>blk b3 [.int .u64 (0),.int .u64 (0)] 177::blk b2 [.int .u64 (0),.int .u64 (s.2)] 177::blk b1 [.int .u64 (0),.int .u64 (s.1)] 177::I) (fun s=>(0≤s.1∧s.1≤1152921504606846976)∧(0≤s.2∧s.2≤1152921504606846976)∧(gcdI s.1 s.2=gcdI a b)) (fun s=>s.2.toNat) (a,b) (show (0≤(a:Int)∧(a:Int)≤1152921504606846976)∧(0≤(b:Int)∧(b:Int)≤1152921504606846976)∧(gcdI (a:Int) (b:Int)=gcdI a b) from ⟨om,om,rfl⟩) (Ab rfl (Ab rfl (Ab rfl Bp))) (show Fit κ _ (blk b3 [.int .u64 (0),.int .u64 (0)] 177::blk b2 [.int .u64 (0),.int .u64 ((b))] 177::blk b1 [.int .u64 (0),.int .u64 ((a))] 177::I) from A4) ?_))))
 rintro ⟨x,y⟩ hp
 dsimp only at hp ⊢
 obtain ⟨hx,hy,hg⟩:=hp
 refine Av (Ah (Gl2 ty177 ?_))
 refine Gr (Bc (cells:=[_,_]) ty177 Co pl177 rfl rfl) (Gr (Runs.neqT (α:=Wd) (a:=(⟨0,y⟩:Wd)) (b:=(⟨0,0⟩:Wd)) eqt177 rfl rfl) (Af (A6 rfl (fun c9=>?_) (fun c9=>?_))))
 ·refine Az (Ai (A5 (Ah (Gl2 ty177 ?_))))
  refine Gl2 ty177 ?_
  refine Gc0 (Aj call228 rfl rfl (WDivide_ok x y om (by have:=mt wd_zero.2 c9;omega))) ?_
  refine Gm rfl (Gr (A3 rfl rfl) (Gr (A3 rfl rfl) (Ge1 (Ax ty177 rfl) fun b4=>Ge1 (Ax ty177 rfl) fun b5=>Ge0 (Bj ty177) ?_)))
  refine Ge0 (Bj ty177) ?_
  refine Af (Ar (S4 6 2 3 4 rfl rfl rfl rfl) (Bk mixed (Bq (blk b5 [.int .u64 (0),.int .u64 (x % y)] 177::blk b4 [.int .u64 (0),.int .u64 (x / y)] 177::blk b3 [.int .u64 (0),.int .u64 (0)] 177::I) 4 (Dr 1 rfl (Bm (vs:=[_,_]) ty177) ?_))))
  refine Ds1 0 (Sr rfl (Bm (vs:=[_,_]) ty177) A4 ?_)
  refine Ds1 2 (Se0 rfl (Bj ty177) ?_)
  refine Ds1 3 (Se0 rfl (Bj ty177) ?_)
  refine Dz (Al ?_)
  have hyp:0<y:=by have:=mt wd_zero.2 c9;omega
  have hm0:=Int.emod_nonneg x (b:=y) om
  have hm1:=Int.emod_lt_of_pos x (b:=y) hyp
  exact B0 ((y),(x % y)) (by dsimp only;exact ⟨om,om,((gcdI_mod hx.1 hyp).trans hg)⟩)
 ·refine Bt (Aq (Aq (A9 (Ai (Ah (Gl2 ty177 ?_))))))
  refine Ge0 (Bj ty177) ?_
  refine Af (Ay ?_)
  have hy0:y=0:=wd_zero.1 (Classical.not_not.1 c9)
  subst hy0
  have hE:x=gcdI a b:=by rw [←hg,gcdI_zero hx.1]
  subst hE
  exact C6 rfl ty177 rfl mm rfl (I) A1 ⟨rfl,rfl⟩
set_option maxHeartbeats 1000000 in
theorem WReduce_ok(a b:Int)(h0:0≤a∧a≤1152921504606846976)(h1:0<b∧b≤1152921504606846976) :
    CallS Tryz.prog κ 247 [.bool false,.agg #[.int .u64 (0),.int .u64 (a)],.agg #[.int .u64 (0),.int .u64 (b)]] I (fun r J=>r = .tuple #[.agg #[I64 (mkF a b).num,I64 (mkF a b).den],I64 0]∧I=J):=by
 refine Ce3 Tryz.func247 rfl rfl ?_
 refine Ah (Ge1 (Bb (cs:=[_,_]) rfl rfl rfl) fun b1=>Ge1 (Bb (cs:=[_,_]) rfl rfl rfl) fun b2=>Ge1 (Ax ty40 rfl) fun b3=>Ga rfl (Af (Av (Ah (Gl2 ty177 ?_)))))
 refine Gr (Bc (cells:=[_,_]) ty177 Co pl177 rfl rfl) (Gr (Er (α:=Wd) (a:=(⟨0,a⟩:Wd)) (b:=(⟨0,0⟩:Wd)) eqt177 rfl rfl) (Af (A6 rfl (fun c16=>?_) (fun c16=>?_))))
 ·refine Ah (Gr (Bc (cells:=[_,_]) ty40 B9 pl40 rfl rfl) (Ge0 (Bj ty40) ?_))
  refine Ga rfl (Af (Ay (Ad ?_)))
  have ha0:a=0:=wd_zero.1 c16
  subst ha0
  exact Dg rfl ty40 rfl rfl mm rfl (I) A1 ⟨by rw [mkF_zero h1.1];rfl,rfl⟩
 ·refine Az (Ai (Ah (Gl2 ty177 ?_)))
  refine Gl2 ty177 ?_
  refine Gc0 (Aj call159 rfl rfl (WGcd_ok a b om om)) ?_
  refine Ge1 (Ax ty177 rfl) fun b4=>Ge0 (Bj ty177) ?_
  have hgp:=gcdI_pos (a:=a) h1.1
  have hgl:=gcdI_le (a:=a) h1.1
  have hqn:=mkF_num h0.1 h1.1
  have hqd:=mkF_den (a:=a) h1.1
  unfold mkF at hqn hqd
  dsimp only at hqn hqd
  refine Af (Ar (S5 8 6 5 4 0 rfl rfl rfl rfl rfl) (Ah (Gl2 ty177 ?_)))
  refine Gl2 ty177 ?_
  refine Gc0 (Aj call228 rfl rfl (WDivide_ok a (gcdI a b) om om)) ?_
  refine Gm rfl (Gr (A3 rfl rfl) (Gr (A3 rfl rfl) (Ge1 (Ax ty177 rfl) fun b5=>Ge1 (Ax ty177 rfl) fun b6=>Ge0 (Bj ty177) ?_)))
  refine Ge0 (Bj ty177) ?_
  refine Af (Ah (Gl2 ty177 ?_))
  refine Gl2 ty177 ?_
  refine Gc0 (Aj call228 rfl rfl (WDivide_ok b (gcdI a b) om om)) ?_
  refine Gm rfl (Gr (A3 rfl rfl) (Gr (A3 rfl rfl) (Ge1 (Ax ty177 rfl) fun b7=>Ge1 (Ax ty177 rfl) fun b8=>Ge0 (Bj ty177) ?_)))
  refine Ge0 (Bj ty177) ?_
  refine Af (Ar (S4 11 9 6 0 rfl rfl rfl rfl) (Av (Ah (Gf fld177_0 rfl (Gl ty175 ?_)))))
  refine Gr (Br rfl rfl) (Gm rfl (A7 (d:=36) rfl (fun g36=>?_) (fun g36=>?_)))
  ·exact absurd g36 om
  ·refine Gro (Aa fld177_0 rfl) (Gro (As ty175) ?_)
   refine Gro (Br rfl rfl) (Gr (Ak rfl rfl) (Gm rfl (A7 (d:=41) rfl (fun g41=>?_) (fun g41=>?_))))
   ·exact absurd g41 om
   ·refine Gro (Aa fld177_1 rfl) (Gro (As ty175) ?_)
    refine Gro (Br rfl rfl) (Gr (Ak rfl rfl) (Gm rfl (A7 (d:=46) rfl (fun g46=>?_) (fun g46=>?_))))
    ·exact absurd g46 om
    ·refine Gro (Aa fld177_1 rfl) (Gro (As ty175) ?_)
     refine Gro (Br rfl rfl) (Gr (Ak rfl rfl) (Af (Ar (S5 50 11 9 6 0 rfl rfl rfl rfl rfl) (A6 rfl (fun c50=>?_) (fun c50=>?_)))))
     ·exact absurd c50 om
     ·refine Az (Ai (Ah (Gf fld177_1 rfl (Gl ty175 ?_))))
      refine Gr (Runs.convI Ch Bf rfl (by unfold InR;omega)) (Gf fld177_1 rfl (Gl ty175 ?_))
      refine Gr (Runs.convI Ch Bf rfl (by unfold InR;omega)) (Gr (Bc (cells:=[_,_]) ty40 B9 pl40 rfl rfl) (Ge1 (Ax ty40 rfl) fun b9=>Ge0 (Bj ty40) ?_))
      refine Af (Av (Ah (Gm rfl (Af (Ar (S3 59 13 6 rfl rfl rfl) (Cw rfl (Az (Ai (Ah (Gl2 ty40 ?_))))))))))
      refine Ge0 (Bj ty40) ?_
      exact Ga rfl (Af (Ay (Dg rfl ty40 rfl rfl mm rfl (I) A1 ⟨rfl,rfl⟩)))
theorem WSize_ok(n:Int)(h:0≤n∧n≤1152921504606846976) :
    CallS Tryz.prog κ 123 [I64 (n)] I (fun r J=>r = .int .u64 n∧I=J):=by
 refine Ce1 Tryz.func123 rfl rfl ?_
 refine Ah (Ga rfl (Af (Av (Ah (Gm rfl (Gr (A8 rfl rfl) (Af (A6 rfl (fun c4=>?_) (fun c4=>?_)))))))))
 ·exact absurd c4 om
 ·exact Az (Ai (Ah (Gm rfl (Gr (Cr Bf Ch rfl om) (Ga rfl (Af (Ay (A0 rfl rfl (I) A1 ⟨rfl,rfl⟩))))))))
theorem Make01_ok(a b:Int)(h0:0≤a∧a≤1152921504606846976)(h1:0<b∧b≤1152921504606846976) :
    CallS Tryz.prog κ 204 [I64 (a),I64 (b)] I (fun r J=>r = .tuple #[.agg #[I64 (mkF a b).num,I64 (mkF a b).den],I64 0]∧I=J):=by
 refine Ce2 Tryz.func204 rfl rfl ?_
 refine Ah (Ge1 (Ax ty40 rfl) fun b1=>Ga rfl (Af (Av (Ah (Gm rfl (Gr (Bi rfl rfl) (Af (A6 rfl (fun c7=>?_) (fun c7=>?_)))))))))
 ·exact absurd c7 om
 ·refine Az (Ai (Ah (Gm rfl (Gr (A8 rfl rfl) (Gm rfl (Gr (A8 rfl rfl) (Gr (Runs.neqb Ep rfl rfl) ?_)))))))
  have hsg:decide (decide (a<0)≠decide (b<0))=false:=by rw [decide_eq_false (show ¬a<0 by omega),decide_eq_false (show ¬b<0 by omega)];rfl
  rw [hsg]
  refine Gm rfl (Gc0 (Aj call123 rfl rfl (WSize_ok a om)) ?_)
  refine Gr (Bc (cells:=[_,_]) ty177 Co pl177 rfl rfl) (Gm rfl (Gc0 (Aj call123 rfl rfl (WSize_ok b om)) ?_))
  refine Gr (Bc (cells:=[_,_]) ty177 Co pl177 rfl rfl) (Gc0 (Aj call247 rfl rfl (WReduce_ok a b om om)) ?_)
  refine Gr (A3 rfl rfl) (Gr (A3 rfl rfl) (Ge0 (Bj ty40) ?_))
  exact Ga rfl (Af (Ar (S2 5 4 rfl rfl) (Ay (Dg rfl ty40 rfl rfl mm rfl (I) A1 ⟨rfl,rfl⟩))))
theorem RatOf_ok(a b:Int)(h0:0≤a∧a≤1152921504606846976)(h1:0<b∧b≤1152921504606846976) :
    CallS Tryz.prog κ 128 [I64 (a),I64 (b)] I (fun r J=>r = .agg #[I64 (mkF a b).num,I64 (mkF a b).den]∧I=J):=by
 refine Ce2 Tryz.func128 rfl rfl ?_
 refine Ah (Ge1 (Ax ty40 rfl) fun b1=>Af (Ah (Gm rfl (Gm rfl (Gc0 (Aj call204 rfl rfl (Make01_ok a b om om)) ?_)))))
 refine Gm rfl (Gr (A3 rfl rfl) (Gr (A3 rfl rfl) (Ge1 (Ax ty40 rfl) fun b2=>Ge0 (Bj ty40) ?_)))
 refine Ga rfl (Af (Ah (Gl2 ty40 ?_)))
 refine Ge0 (Bj ty40) ?_
 exact Af (Ay (C6 rfl ty40 rfl mm rfl (I) A1 ⟨rfl,rfl⟩))
theorem all_tab:∀n:Fin 65,∀i:Fin 64,(allB (n.val:Int)).getLsbD i.val=decide (i.val<n.val):=by decide+kernel
theorem getLsb_allB{n:Int}(h0:0≤n)(h1:n≤64){i:Nat}(hi:i<64):(allB n).getLsbD i=decide ((i:Int)<n):=by
 have:=all_tab ⟨n.toNat,by omega⟩ ⟨i,hi⟩
 simp only [show ((n.toNat:Nat):Int)=n by omega] at this
 rw [this,decide_eq_decide];omega
end Go.Sl
namespace Go.Sl
end Go.Sl
namespace Go.Sl
end Go.Sl
namespace Go.Sl
open Go.Proofs
set_option maxRecDepth 4000
theorem bit_sh{v:Int}(h0:0≤v)(h1:v<64):bitB v=1#64 <<< v.toNat:=by unfold bitB;rw [if_neg om]
structure BothP (n:Net) (f:List Int) (side:List Bool):Prop where
 flow:IsFlow n f
 len:(side.length:Int)=n.nodes
 great:∃T,Great n f T∧∀z:Int,0≤z→z<n.nodes→at_ side z=T z
set_option maxHeartbeats 1000000 in
theorem Both_ok{κ:Ctx}{I:List Item}{n:Net}{v:Value}(hl:Sl κ I v n.arcs)(hok:n.Ok) :
    CallS Tryz.prog κ 282 [.agg #[I64 (n.nodes),I64 (n.source),I64 (n.sink),v]] I (fun r J=>∃a c f a' c' side val,r = .tuple #[.slice a f.length c,I64 val,.slice a' side.length c']∧BothP n f side∧J=vc 4 (.slice a' side.length c') side::vc 3 (.slice a f.length c) f::I):=by
 have hlim:=hok.lim
 have hsnk:=hok.snk
 have hsrc:=hok.src
 refine Ce1 Tryz.func282 rfl rfl ?_
 refine Ah (Ge1 (Bb (cs:=[_,_,_,_]) rfl rfl rfl) fun b1=>Ga rfl (Ga rfl (Ga rfl (Af (Ah (Gl4 ty303 ?_))))))
 refine G.e (Aj call317 rfl rfl (Solved_ok (n:=n) (Bl hl) hok)) ?_
 rintro _ _ ⟨_,_,⟨b,hw,ow,lw,nw,f,hs,rs,L,nx,val,rfl,⟨hfull,hh,hr⟩,rfl⟩,rfl,rfl⟩
 refine G.fit (J:=blk b [hw,ow,lw,nw,I64 (n.sink)] 339::vc 336 (hw) (hs)::vc 3 (lw) (L)::vc 3 (nw) (nx)::vc 22 (ow) (rs)::blk b1 [I64 (n.nodes),I64 (n.source),I64 (n.sink),v] 303::(rowsI rs++I)) Bz ?_
 refine Gm rfl (Gr (A3 rfl rfl) (Gr (A3 rfl rfl) (Ga rfl (Ga rfl (Af (Av (Ah (Gf fld303_3 rfl ?_))))))))
 have hff:=hfull.flow.len
 have hhl:=hh.len
 refine Gl ty301 ?_
 refine Gr (Bu (α:=Arc) (xs:=n.arcs) C7 rfl (Bl hl)) (Gm rfl (Af (Ar (S7 17 16 15 3 5 2 1 rfl rfl rfl rfl rfl rfl rfl) (A5 (Bv (σ:=Nat×(Option Addr)×Nat×(List Int)) (fun s=>([(1,.pointer (some ⟨b1,0,none⟩)),(2,.slice s.2.1 s.2.2.2.length s.2.2.1),(3,I64 (val)),(5,.pointer (some ⟨b,0,none⟩)),(15,v),(16,I64 (((n.arcs.length:Nat):Int))),(17,I64 (((s.1:Nat):Int)))]:Env)) (fun s=>vc 3 (.slice s.2.1 s.2.2.2.length s.2.2.1) (s.2.2.2)::blk b [hw,ow,lw,nw,I64 (n.sink)] 339::vc 336 (hw) (hs)::vc 3 (lw) (L)::vc 3 (nw) (nx)::vc 22 (ow) (rs)::blk b1 [I64 (n.nodes),I64 (n.source),I64 (n.sink),v] 303::(rowsI rs++I)) (fun s=>(s.1≤n.arcs.length)∧(s.2.2.2=f.take s.1)) (fun s=>n.arcs.length - s.1) (0,none,0,[]) (show ((0:Nat)≤n.arcs.length)∧(([]:List Int)=f.take (0:Nat)) from ⟨om,rfl⟩) (Ab rfl (Ab (Db rfl (by first|rfl|simp)) (Ab rfl (Ab rfl (Ab rfl (Ab rfl (Ab Ca Bp))))))) (show Fit κ _ (vc 3 (.slice (none) ([]).length (0)) (([]))::blk b [hw,ow,lw,nw,I64 (n.sink)] 339::vc 336 (hw) (hs)::vc 3 (lw) (L)::vc 3 (nw) (nx)::vc 22 (ow) (rs)::blk b1 [I64 (n.nodes),I64 (n.source),I64 (n.sink),v] 303::(rowsI rs++I)) from (Bw _ _)) ?_)))))
 rintro ⟨k,a,c,fl⟩ hp
 dsimp only at hp ⊢
 obtain ⟨hk,hfl⟩:=hp
 have hfll:fl.length=k:=by rw [hfl,List.length_take];omega
 refine Ah (Gr (A8 rfl rfl) (Af (Av (A6 rfl (fun c18=>?_) (fun c18=>?_)))))
 ·refine Az (Ai (Av (A5 (Ah (Gm rfl (Gr (Ba (α:=Arc) (xs:=n.arcs) C7 ty305 rfl rfl (Bl hl) om oo) (Gr (Bs (α:=Arc) (xs:=n.arcs) ty305 rfl (Bl hl) om oo) (Ge1 (Ax ty305 rfl) fun b2=>Ga rfl (Ge0 (Es3_3 ty305) ?_)))))))))
  have hgt:=hh.get (2*(k:Int)) ⟨by omega,by omega⟩
  have hcap:=hfull.flow.cap k om
  have hac:=arc_at hok (k:=k) om
  have hlv:leftH n f (2*(k:Int))=(at_ n.arcs (k:Int)).cap - at_ f (k:Int):=by unfold leftH;rw [if_pos om,show (2*(k:Int)) / 2=(k:Int) from by omega]
  have hleft:(at_ n.arcs (k:Int)).cap - (at_ hs (2*(k:Int))).left=at_ f (k:Int):=by omega
  refine Af (Bk mixed (Bq (blk b2 [I64 ((at_ n.arcs (k:Int)).frm),I64 ((at_ n.arcs (k:Int)).dst),I64 ((at_ n.arcs (k:Int)).cap)] 305::blk b [hw,ow,lw,nw,I64 (n.sink)] 339::vc 336 (hw) (hs)::vc 3 (lw) (L)::vc 3 (nw) (nx)::vc 22 (ow) (rs)::blk b1 [I64 (n.nodes),I64 (n.source),I64 (n.sink),v] 303::(rowsI rs++I)) 16 (Dr 0 rfl (Ac rfl) (Dr 1 rfl (Aa fld305_2 rfl) (Dr 2 rfl (As ty3) ?_)))))
  refine Dr 3 rfl (Ac rfl) (Dr 4 rfl (Bg rfl) (Dr 5 rfl (Aa fld339_0 rfl) (Dr 6 rfl (As ty337) ?_)))
  refine Dr 7 rfl (Ac rfl) (Dr 8 rfl (D0 rfl rfl (by unfold InR;omega)) (Dr 9 rfl (Ba (α:=Half) (xs:=hs) B7 ty336 rfl rfl Bo om oo) (Dr 10 rfl (C8 (α:=Half) (xs:=hs) fld336_1 rfl Bo oo) (Dr 11 rfl (De (α:=Half) (xs:=hs) (u:=I64 ((at_ hs (2*(k:Int))).left)) ty3 rfl Bo om oo rfl) (Dr 12 rfl (Rsu rfl rfl) (Ds1 13 (Se1 rfl (B1 (α:=Int) (cs:=[_]) (xs:=[((at_ n.arcs (k:Int)).cap) - ((at_ hs (2*(k:Int))).left)]) Am ty3 rfl rfl dc dc rfl rfl rfl rfl) fun ad3=>?_)))))))
  refine Ds1 14 (Se2 rfl (B2 (α:=Int) (e:=3) (xs:=fl) (ys:=([((at_ n.arcs (k:Int)).cap) - ((at_ hs (2*(k:Int))).left)]:List Int)) Am ty3 rfl rfl rfl mm Bo lcn dc rfl (fun _ _=>am)) fun ad4 cp5=>?_)
  exact Dr 15 rfl (Bd rfl) (Dz (Al (Ai (Ar (S7 2 1 3 5 15 16 17 rfl rfl rfl rfl rfl rfl rfl) (A2 (Gr (Rad rfl rfl) (Gm rfl (Be (B0 ((k+1),(ad4),(cp5),(fl++([((at_ n.arcs (k:Int)).cap) - ((at_ hs (2*(k:Int))).left)]:List Int))) (by dsimp only;exact ⟨om,(by rw [hfl,Da f k om];congr 1;rw [hleft])⟩))))))))))
 ·refine Bt (Aq (Aq (A9 (Ai (Ah (Gm rfl ?_))))))
  have hkm:k=n.arcs.length:=by omega
  have hfe:fl=f:=by rw [hfl,hkm,←hff,List.take_length]
  refine Gf fld303_2 rfl (Gl ty3 ?_)
  refine G.e (Aj call318 rfl rfl (Cq (J:=blk b [hw,ow,lw,nw,I64 (n.sink)] 339::vc 3 (.slice a fl.length c) (fl)::vc 336 (hw) (hs)::vc 3 (lw) (L)::vc 3 (nw) (nx)::vc 22 (ow) (rs)::blk b1 [I64 (n.nodes),I64 (n.source),I64 (n.sink),v] 303::(rowsI rs++I)) Bz (Reached_ok (n:=n) (rs:=rs) (hs:=hs) hok hh Bo hr Bo (fun i h0 h=>Cj (rowsI_sl i h0 h) A1) om))) ?_
  rintro _ _ ⟨_,_,⟨ad6,cp7,seen8,rfl,hseen8,rfl⟩,rfl,rfl⟩
  show G Tryz.prog κ _ _ _ _ ([(41,.slice ad6 seen8.length cp7),(40,I64 (n.sink)),(39,.pointer (some ⟨b1,2,none⟩)),(38,.pointer (some ⟨b,0,none⟩)),(18,.bool (decide ((k:Int)<((n.arcs.length:Nat):Int)))),(1,.pointer (some ⟨b1,0,none⟩)),(2,.slice a fl.length c),(3,I64 (val)),(5,.pointer (some ⟨b,0,none⟩)),(15,v),(16,I64 (((n.arcs.length:Nat):Int))),(17,I64 ((k:Int)))]:Env) (vc 4 (.slice ad6 seen8.length cp7) (seen8)::blk b [hw,ow,lw,nw,I64 (n.sink)] 339::vc 3 (.slice a fl.length c) (fl)::vc 336 (hw) (hs)::vc 3 (lw) (L)::vc 3 (nw) (nx)::vc 22 (ow) (rs)::blk b1 [I64 (n.nodes),I64 (n.source),I64 (n.sink),v] 303::(rowsI rs++I))
  have hlenseen8:=hseen8.len
  refine Ga rfl (Af (Av (Ah (Gm rfl (Gr (B3 C2 rfl) (Gm rfl (Af (Ar (S5 44 43 4 2 3 rfl rfl rfl rfl rfl) (A5 (Bv (σ:=Nat×(List Bool)) (fun s=>([(2,.slice a fl.length c),(3,I64 (val)),(4,.slice ad6 seen8.length cp7),(43,I64 (((seen8.length:Nat):Int))),(44,I64 (((s.1:Nat):Int)))]:Env)) (fun s=>vc 4 (.slice ad6 seen8.length cp7) (s.2)::blk b [hw,ow,lw,nw,I64 (n.sink)] 339::vc 3 (.slice a fl.length c) (fl)::vc 336 (hw) (hs)::vc 3 (lw) (L)::vc 3 (nw) (nx)::vc 22 (ow) (rs)::blk b1 [I64 (n.nodes),I64 (n.source),I64 (n.sink),v] 303::(rowsI rs++I)) (fun s=>(s.1≤seen8.length)∧(s.2.length=seen8.length)∧(∀i:Nat,i<seen8.length→at_ s.2 (i:Int)=if i<s.1 then !at_ seen8 (i:Int) else at_ seen8 (i:Int))) (fun s=>seen8.length - s.1) (0,seen8) (show ((0:Nat)≤seen8.length)∧((seen8:List Bool).length=seen8.length)∧(∀i:Nat,i<seen8.length→at_ (seen8:List Bool) (i:Int)=if i<(0:Nat) then !at_ seen8 (i:Int) else at_ seen8 (i:Int)) from ⟨om,rfl,(fun i h=>by rw [if_neg om])⟩) (Ab rfl (Ab rfl (Ab rfl (Ab rfl (Ab Ca Bp))))) (show Fit κ _ (vc 4 (.slice ad6 seen8.length cp7) ((seen8))::blk b [hw,ow,lw,nw,I64 (n.sink)] 339::vc 3 (.slice a fl.length c) (fl)::vc 336 (hw) (hs)::vc 3 (lw) (L)::vc 3 (nw) (nx)::vc 22 (ow) (rs)::blk b1 [I64 (n.nodes),I64 (n.source),I64 (n.sink),v] 303::(rowsI rs++I)) from A4) ?_))))))))))
  rintro ⟨k,sd⟩ hp
  dsimp only at hp ⊢
  obtain ⟨hk,hsl,hsd⟩:=hp
  refine Ah (Gr (A8 rfl rfl) (Af (Av (A6 rfl (fun c45=>?_) (fun c45=>?_)))))
  ·refine Az (Ai (Av (A5 (Ah (Gm rfl (Ga rfl (Af (A2 (Gm rfl (Gm rfl (Gm rfl (Gm rfl (Gr (Ba (α:=Bool) (xs:=sd) C2 ty4 rfl rfl Bo om oo) (Gr (Runs.getB (xs:=sd) ty4 rfl Bo om oo) (Gr (Ck rfl) (Gr (Ba (α:=Bool) (xs:=sd) C2 ty4 rfl rfl Bo om oo) (Ge0 (Ds (α:=Bool) (xs:=sd) (e:=4) (new:= !at_ sd (k:Int)) ty4 rfl rfl rfl om oo am) ?_)))))))))))))))))
   exact Be (Al (Ai (Ar (S5 2 3 4 43 44 rfl rfl rfl rfl rfl) (A2 (Gr (Rad rfl rfl) (Gm rfl (Be (B0 ((k+1),(List.set sd ((k:Int)).toNat (!at_ sd (k:Int)))) (by dsimp only;exact ⟨om,(by rw [List.length_set];exact hsl),(fun i h=>by rw [Dj _ _ _ _ om om om];by_cases e:i=k;(· subst e;rw [if_pos rfl,if_pos om,hsd i h,if_neg om]);(· rw [if_neg om,hsd i h];by_cases h2:i<k;(· rw [if_pos h2,if_pos om]);(· rw [if_neg h2,if_neg om])))⟩)))))))))
  ·refine Bt (Aq (Aq (A9 (Ai (Ah (Gm rfl (Gm rfl (Gm rfl (Ga rfl (Ga rfl (Ga rfl (Af (Ay ?_)))))))))))))
   subst hfe
   exact V.ret3 rfl rfl rfl rfl (vc 4 (.slice ad6 sd.length cp7) sd::vc 3 (.slice a fl.length c) fl::I) (by rw [hsl];exact Bz) ⟨a,c,fl,ad6,cp7,sd,val,by rw [hsl],⟨hfull.flow,by omega,_,hseen8.great hok hfull,fun z h0 h1=>by obtain ⟨i,rfl⟩:∃i:Nat,z=(i:Int):=⟨z.toNat,om⟩;rw [hsd i om,if_pos om]⟩,rfl⟩
def setP2(p:Pt)(j:Int)(n:Int):Pt:=if j=0 then {p with u:=n} else {p with v:=n}
section
variable {P:Program}{κ:Ctx}{N:Frm}{Q:Exit→Act→World→Prop}{L:Env}{I J:List Item}
variable {d:Option Tmp}{ty:TypeId}{ps:String}{af:Array Edge}{gd:Option (Nat×Bool)}
theorem Runs.index2{x y:Operand}{T:TypeId}{u v j:Int}(h0:∀w:World,(Instr.index T (.agg #[I64 u,I64 v]) (I64 0)).run P w = .ok (I64 u) w)(h1:∀w:World,(Instr.index T (.agg #[I64 u,I64 v]) (I64 1)).run P w = .ok (I64 v) w)
  (hx:evalO L x=some (.agg #[I64 u,I64 v])) (hy:evalO L y=some (I64 j)) (hj:j=0∨j=1):Runs P κ N ⟨d,.index T x y,ty,ps,af,gd⟩ L J (I64 (if j=0 then u else v)):=fun a w ha hs=>by
 rcases hj with rfl|rfl
 ·simp [execOp,ha.eval hx,ha.eval hy,h0]
 ·simp [execOp,ha.eval hx,ha.eval hy,h1]
theorem Runs.idxsV(α:Type)[Enc α]{x y:Operand}{T E by' n c:Nat}{ag:Bool}{z:List Value}{ad:Option Addr}{i:Int}(ht:P.underlying T=some (.slice E))(hE:tyF P E=some (Enc.sz α,ag,by',z))(hx:evalO L x=some (.slice ad n c))
  (hy:evalO L y=some (I64 i)) (ha:ad≠none) (h0:0≤i) (hn:i<n):Runs P κ N ⟨d,.indexAddr T x y,ty,ps,af,gd⟩ L J (elemPtr (.slice ad n c) (i.toNat*Enc.sz α)):=by
 cases ad with
 |none=>exact absurd rfl ha
 |some ad=>exact fun a w ha hs=>by simp [execOp,ha.eval hx,ha.eval hy,Instr.indexAt,asIntOf,run_underlying ht,h0,hn,run_sizeOf hE,elemPtr]
theorem Runs.idxElF{x y:Operand}{T E n sz m by' n' c:Nat}{ag:Bool}{z:List Value}{ad:Option Addr}{i:Int}(ht:P.underlying T=some (.array n E))(hE:tyF P E=some (sz,ag,by',z))(hx:evalO L x=some (elemPtr (.slice ad n' c) m))
  (hy:evalO L y=some (I64 i)) (ha:ad≠none) (h0:0≤i) (hn:i<n):Runs P κ N ⟨d,.indexAddr T x y,ty,ps,af,gd⟩ L J (elemPtr (.slice ad n' c) (m+i.toNat*sz)):=by
 cases ad with
 |none=>exact absurd rfl ha
 |some ad=>
  have e:(ad.add m).add (i.toNat*sz)=ad.add (m+i.toNat*sz):=by
   generalize i.toNat*sz=q
   unfold Addr.add
   by_cases h1:m=0<;>by_cases h2:q=0<;>simp [h1,h2,Nat.add_assoc]
  exact fun a w ha hs=>by simp [execOp,ha.eval hx,ha.eval hy,elemPtr,Instr.indexAt,asIntOf,run_underlying ht,h0,hn,run_sizeOf hE,Instr.sureAddr,e]
theorem Eff.setP2{xs:List Pt}{x y:Operand}{T by' e:Nat}{z:List Value}{v:Value}{i j n:Int}{I':List Item}(hT:tyF P T=some (1,false,by',z))(hx:evalO L x=some (elemPtr v (i.toNat*Enc.sz Pt+j.toNat*1)))(hy:evalO L y=some (I64 n))(hj:j=0∨j=1)
  (h0:0≤i) (hn:i<xs.length) (hat:At I (vc e v xs) (vc e v (xs.set i.toNat (setP2 (at_ xs i) j n))) I'):Eff P κ N Q ⟨none,.store T x y,ty,ps,af,gd⟩ L I fun L' I''=>L'=L∧I''=I':=by
 rcases hj with rfl|rfl
 ·exact Eff.setf (α:=Pt) (xs:=xs) (e:=e) (new:={at_ xs i with u:=n}) (j:=0) hT hx hy rfl rfl dc rfl h0 hn hat
 ·exact Eff.setf (α:=Pt) (xs:=xs) (e:=e) (new:={at_ xs i with v:=n}) (j:=1) hT hx hy rfl rfl dc rfl h0 hn hat
theorem Eff.setC2{x y:Operand}{T sz by' b E:Nat}{ag:Bool}{z:List Value}{p q j n:Int}{I':List Item}(hT:tyF P T=some (sz,ag,by',z))(hs1:sz=1)(hx:evalO L x=some (.pointer (some ⟨b,0+j.toNat*1,none⟩)))(hy:evalO L y=some (I64 n))(hj:j=0∨j=1)
  (hat:At I (blk b [I64 p,I64 q] E) (blk b [I64 (if j=0 then n else p),I64 (if j=0 then q else n)] E) I'):Eff P κ N Q ⟨none,.store T x y,ty,ps,af,gd⟩ L I fun L' I''=>L'=L∧I''=I':=by
 rcases hj with rfl|rfl
 ·exact Eff.store (vs:=[I64 n]) hT hx hy rfl (by rw [hs1];rfl) (fun u hu=>by rw [List.mem_singleton] at hu;subst hu;rfl) (by simp) rfl hat
 ·exact Eff.store (vs:=[I64 n]) hT hx hy rfl (by rw [hs1];rfl) (fun u hu=>by rw [List.mem_singleton] at hu;subst hu;rfl) (by simp) rfl hat
end
theorem ix2a(u v:Int)(w:World):(Instr.index 64 (.agg #[I64 u,I64 v]) (I64 0)).run Tryz.prog w = .ok (I64 u) w:=by kernel_rfl
theorem ix2b(u v:Int)(w:World):(Instr.index 64 (.agg #[I64 u,I64 v]) (I64 1)).run Tryz.prog w = .ok (I64 v) w:=by kernel_rfl
structure PlainP (nd:Int) (es:List Pt) (ws bs cs:List Int):Prop where
 wl:ws.length=es.length
 w1:∀i:Nat,i<es.length→at_ ws (i:Int)=1
 bl:bs.length=nd.toNat
 b0:∀i:Int,0≤i→i<nd→at_ bs i=0
 cl:cs.length=nd.toNat
 c1:∀i:Int,0≤i→i<nd→at_ cs i=1
theorem bit_mem{W:BitVec 64}{u:Int}(h0:0≤u)(h1:u<64):W &&& bitB u≠0#64↔W.getLsbD u.toNat=true:=by
 have hb:bitB u=0#64 ||| 1#64 <<< u.toNat:=by rw [BitVec.zero_or];exact bit_sh h0 h1
 rw [hb]
 constructor
 ·intro h
  obtain ⟨x,hx⟩:=nz_listB.1 h
  rw [mem_andB,mem_orbit h0 h1,Cx] at hx
  rcases hx.2 with h2|h2
  ·cases h2
  ·rw [←h2];exact (mem_listB.1 hx.1).2
 ·intro h
  exact nz_listB.2 ⟨u,mem_andB.2 ⟨mem_listB.2 ⟨h0,h⟩,(mem_orbit h0 h1).2 (.inr rfl)⟩⟩
theorem bit_all{u nd:Int}(h0:0≤u)(h1:u<nd)(h2:nd≤64):(bitB u &&& allB nd) &&& ~~~0#64≠0#64:=by
 rw [BitVec.not_zero,BitVec.and_allOnes,BitVec.and_comm]
 exact (bit_mem h0 om).2 (by rw [getLsb_allB om h2 om,decide_eq_true_eq];omega)
theorem insE_yes{W:BitVec 64}{es:List Pt}{k:Nat}(hk:k<es.length)(hr:(0≤(at_ es (k:Int)).u∧(at_ es (k:Int)).u<64)∧0≤(at_ es (k:Int)).v∧(at_ es (k:Int)).v<64)(h1:W &&& bitB (at_ es (k:Int)).u≠0#64)(h2:W &&& bitB (at_ es (k:Int)).v≠0#64):insE W (es.take (k+1))=insE W (es.take k)+1:=by
 rw [insE_take hk,(bit_mem hr.1.1 hr.1.2).1 h1,(bit_mem hr.2.1 hr.2.2).1 h2];rfl
theorem insE_no{W:BitVec 64}{es:List Pt}{k:Nat}(hk:k<es.length)(hr:(0≤(at_ es (k:Int)).u∧(at_ es (k:Int)).u<64)∧0≤(at_ es (k:Int)).v∧(at_ es (k:Int)).v<64)(h:¬W &&& bitB (at_ es (k:Int)).u≠0#64∨¬W &&& bitB (at_ es (k:Int)).v≠0#64):insE W (es.take (k+1))=insE W (es.take k):=by
 rw [insE_take hk]
 rcases h with h|h
 ·rw [bit_mem hr.1.1 hr.1.2,Bool.not_eq_true] at h
  rw [h];simp
 ·rw [bit_mem hr.2.1 hr.2.2,Bool.not_eq_true] at h
  rw [h];simp
theorem flat_succ{α:Type}(f:Nat→List α)(k:Nat):(List.range (k+1)).flatMap f=(List.range k).flatMap f++f k:=by
 rw [List.range_succ,List.flatMap_append];simp
theorem Gain_ok{κ:Ctx}{I:List Item}{nd:Int}{ve vw vb vk:Value}{al:BitVec 64}{es:List Pt}{ws bs cs:List Int}(hl:Sl κ I ve es)(hw:Sl κ I vw ws)(hb:Sl κ I vb bs)(hkc:Sl κ I vk cs)(hG:GrOk nd es)(hm:es.length≤2016)(hP:PlainP nd es ws bs cs)(wb:BitVec 64)(hW:subN nd wb)(hT:TabRd κ I 0 tzCells) :
    CallS Tryz.prog κ 232 [.agg #[ve,vw,vb,vk,U64 (al),U64 (0#64)],U64 (wb)] I (fun r J=>r = .tuple #[I64 (insE wb es),I64 (cntB wb)]∧I=J):=by
 have hrng:=hG.rng
 have hwl:=hP.wl
 have hbl:=hP.bl
 have hcl:=hP.cl
 refine Ce2 Tryz.func232 rfl rfl ?_
 refine Ah (Ge1 (Bb (cs:=[_,_,_,_,_,_]) rfl rfl rfl) fun b1=>Ga rfl (Ga rfl (Af (Av (Ah (Gf fld211_0 rfl (Gl ty46 ?_)))))))
 refine Gr (Bu (α:=Pt) (xs:=es) Bx rfl (Bl hl)) (Gm rfl (Af (A5 (Bv (σ:=Nat) (fun s=>([(1,U64 (wb)),(2,.pointer (some ⟨b1,0,none⟩)),(4,I64 (insE wb (es.take s))),(5,I64 (0)),(11,ve),(12,I64 (((es.length:Nat):Int))),(13,I64 (((s:Nat):Int)))]:Env)) (fun s=>blk b1 [ve,vw,vb,vk,U64 (al),U64 (0#64)] 211::I) (fun s=>(s≤es.length)) (fun s=>es.length - s) (0) (show ((0:Nat)≤es.length) from om) (Ab rfl (Ab rfl (Ab (D5 rfl (by first|omega|(dsimp only<;>omega)|exact insE_yes hk2 her2 g24 c31|exact (insE_yes hk2 her2 g24 c31).symm|exact insE_no hk2 her2 (.inl g24)|exact insE_no hk2 her2 (.inr c31)|exact (insE_no hk2 her2 (.inl g24)).symm|exact (insE_no hk2 her2 (.inr c31)).symm|rfl)) (Ab rfl (Ab rfl (Ab rfl (Ab (D5 rfl (by first|omega|(dsimp only<;>omega)|exact insE_yes hk2 her2 g24 c31|exact (insE_yes hk2 her2 g24 c31).symm|exact insE_no hk2 her2 (.inl g24)|exact insE_no hk2 her2 (.inr c31)|exact (insE_no hk2 her2 (.inl g24)).symm|exact (insE_no hk2 her2 (.inr c31)).symm|rfl)) Bp))))))) (show Fit κ _ (blk b1 [ve,vw,vb,vk,U64 (al),U64 (0#64)] 211::I) from A4) ?_))))
 rintro k hp
 have hk:=hp
 have hib:=insE_bd wb (es.take k)
 have htl:(es.take k).length≤k:=by rw [List.length_take];omega
 refine Ah (Gr (A8 rfl rfl) (Af (Av (A6 rfl (fun c14=>?_) (fun c14=>?_)))))
 ·refine Az (Ai (Av (A5 (Ah (Gm rfl (Gr (Ba (α:=Pt) (xs:=es) Bx ty135 rfl rfl (Bl hl) om om) ?_))))))
  have hk2:k<es.length:=by omega
  have hed:=hG.edge (at_ es (k:Int)) (Cf om om)
  have her2:(0≤(at_ es (k:Int)).u∧(at_ es (k:Int)).u<64)∧0≤(at_ es (k:Int)).v∧(at_ es (k:Int)).v<64:=by omega
  refine Gr (Bs (α:=Pt) (xs:=es) ty135 rfl (Bl hl) om om) (Ge1 (Ax ty135 rfl) fun b2=>Ga rfl (Ge0 (Bj ty135) ?_))
  refine Af (Ah (Gm rfl (Gf fld135_0 rfl (Gl ty3 ?_))))
  refine G.e (Aj call237 rfl rfl (Bit_ok ((at_ es (k:Int)).u))) ?_
  rintro _ _ ⟨_,_,⟨rfl,rfl⟩,rfl,rfl⟩
  refine Gr (Es (a:=wb) (b:=bitB ((at_ es (k:Int)).u)) rfl rfl) (Gr (Runs.neB (a:=wb &&& (bitB ((at_ es (k:Int)).u))) (b:=0#64) rfl rfl) (Gm rfl (A7 (d:=24) rfl (fun g24=>?_) (fun g24=>?_))))
  ·refine Gro (Ac rfl) (Gro (Aa fld135_1 rfl) (Gro (As ty3) ?_))
   refine Et (Cu rfl rfl rfl) (Aj call237 rfl rfl (Bit_ok ((at_ es (k:Int)).v))) ?_
   rintro _ _ ⟨_,_,⟨rfl,rfl⟩,rfl,rfl⟩
   refine Gro (Es (a:=wb) (b:=bitB ((at_ es (k:Int)).v)) rfl rfl) (Gro (Runs.neB (a:=wb &&& (bitB ((at_ es (k:Int)).v))) (b:=0#64) rfl rfl) (Gr (Ao rfl rfl) (Af (Ar (S9 31 6 1 2 4 5 11 12 13 rfl rfl rfl rfl rfl rfl rfl rfl rfl) (A6 rfl (fun c31=>?_) (fun c31=>?_))))))
   ·refine A2 (Gm rfl (Gf fld211_1 rfl (Gl ty22 ?_)))
    refine Gm rfl (Gr (Ba (α:=Int) (xs:=ws) Am ty3 rfl rfl (Bl hw) om om) (Gr (Cb (xs:=ws) ty3 rfl (Bl hw) om om) ?_))
    rw [hP.w1 k hk2]
    exact Gr (Rad rfl rfl) (Ga rfl (Be (Al (Ai (Ar (S7 4 1 2 5 11 12 13 rfl rfl rfl rfl rfl rfl rfl) (A2 (Gr (Rad rfl rfl) (Gm rfl (Be (B0 ((k+1)) om (hL:=(Ab rfl (Ab rfl (Ab (D5 rfl (by first|omega|(dsimp only<;>omega)|exact insE_yes hk2 her2 g24 c31|exact (insE_yes hk2 her2 g24 c31).symm|exact insE_no hk2 her2 (.inl g24)|exact insE_no hk2 her2 (.inr c31)|exact (insE_no hk2 her2 (.inl g24)).symm|exact (insE_no hk2 her2 (.inr c31)).symm|rfl)) (Ab rfl (Ab rfl (Ab rfl (Ab (D5 rfl (by first|omega|(dsimp only<;>omega)|exact insE_yes hk2 her2 g24 c31|exact (insE_yes hk2 her2 g24 c31).symm|exact insE_no hk2 her2 (.inl g24)|exact insE_no hk2 her2 (.inr c31)|exact (insE_no hk2 her2 (.inl g24)).symm|exact (insE_no hk2 her2 (.inr c31)).symm|rfl)) Bp))))))))))))))))))
   ·exact Az (Al (Ai (A2 (Gr (Rad rfl rfl) (Gm rfl (Be (B0 ((k+1)) om (hL:=(Ab rfl (Ab rfl (Ab (D5 rfl (by first|omega|(dsimp only<;>omega)|exact insE_yes hk2 her2 g24 c31|exact (insE_yes hk2 her2 g24 c31).symm|exact insE_no hk2 her2 (.inl g24)|exact insE_no hk2 her2 (.inr c31)|exact (insE_no hk2 her2 (.inl g24)).symm|exact (insE_no hk2 her2 (.inr c31)).symm|rfl)) (Ab rfl (Ab rfl (Ab rfl (Ab (D5 rfl (by first|omega|(dsimp only<;>omega)|exact insE_yes hk2 her2 g24 c31|exact (insE_yes hk2 her2 g24 c31).symm|exact insE_no hk2 her2 (.inl g24)|exact insE_no hk2 her2 (.inr c31)|exact (insE_no hk2 her2 (.inl g24)).symm|exact (insE_no hk2 her2 (.inr c31)).symm|rfl)) Bp)))))))))))))))
  ·exact Gpo (Gpo (Gpo (Gpo (Gpo (Gpo (Gr (Ak rfl rfl) (Af (Ar (S9 31 6 1 2 4 5 11 12 13 rfl rfl rfl rfl rfl rfl rfl rfl rfl) (Cw rfl (Az (Al (Ai (A2 (Gr (Rad rfl rfl) (Gm rfl (Be (B0 ((k+1)) om (hL:=(Ab rfl (Ab rfl (Ab (D5 rfl (by first|omega|(dsimp only<;>omega)|exact insE_yes hk2 her2 g24 c31|exact (insE_yes hk2 her2 g24 c31).symm|exact insE_no hk2 her2 (.inl g24)|exact insE_no hk2 her2 (.inr c31)|exact (insE_no hk2 her2 (.inl g24)).symm|exact (insE_no hk2 her2 (.inr c31)).symm|rfl)) (Ab rfl (Ab rfl (Ab rfl (Ab (D5 rfl (by first|omega|(dsimp only<;>omega)|exact insE_yes hk2 her2 g24 c31|exact (insE_yes hk2 her2 g24 c31).symm|exact insE_no hk2 her2 (.inl g24)|exact insE_no hk2 her2 (.inr c31)|exact (insE_no hk2 her2 (.inl g24)).symm|exact (insE_no hk2 her2 (.inr c31)).symm|rfl)) Bp)))))))))))))))))))))))))
 ·refine Bt (Aq (Aq (A9 (Ai (Av (Ah (Gm rfl ?_)))))))
  have hfull:es.take k=es:=List.take_of_length_le om
  rw [hfull]
  refine Gc2 (Aj call171 rfl rfl (MList_ok wb (Cv hT A1))) fun ad3 cp4=>?_
  refine Gr (B3 Am rfl) (Gm rfl (Af (A5 (Bv (σ:=Nat) (fun s=>([(2,.pointer (some ⟨b1,0,none⟩)),(4,I64 (insE wb es)),(5,I64 (((s:Nat):Int))),(41,.slice ad3 (listB wb).length cp4),(42,I64 ((((listB wb).length:Nat):Int))),(43,I64 (((s:Nat):Int)))]:Env)) (fun s=>vc 3 (.slice ad3 (listB wb).length cp4) (listB wb)::blk b1 [ve,vw,vb,vk,U64 (al),U64 (0#64)] 211::I) (fun s=>(s≤(listB wb).length)) (fun s=>(listB wb).length - s) (0) (show ((0:Nat)≤(listB wb).length) from om) (Ab rfl (Ab rfl (Ab (D5 rfl (by first|omega|(dsimp only<;>omega)|exact insE_yes hk2 her2 g24 c31|exact (insE_yes hk2 her2 g24 c31).symm|exact insE_no hk2 her2 (.inl g24)|exact insE_no hk2 her2 (.inr c31)|exact (insE_no hk2 her2 (.inl g24)).symm|exact (insE_no hk2 her2 (.inr c31)).symm|rfl)) (Ab rfl (Ab rfl (Ab (D5 rfl (by first|omega|(dsimp only<;>omega)|exact insE_yes hk2 her2 g24 c31|exact (insE_yes hk2 her2 g24 c31).symm|exact insE_no hk2 her2 (.inl g24)|exact insE_no hk2 her2 (.inr c31)|exact (insE_no hk2 her2 (.inl g24)).symm|exact (insE_no hk2 her2 (.inr c31)).symm|rfl)) Bp)))))) (show Fit κ _ (vc 3 (.slice ad3 (listB wb).length cp4) (listB wb)::blk b1 [ve,vw,vb,vk,U64 (al),U64 (0#64)] 211::I) from A4) ?_))))
  rintro k hp
  have hk:=hp
  have hib:=insE_bd wb es
  have hll:=D8 wb
  have hvr:k<(listB wb).length→0≤(at_ (listB wb) (k:Int))∧(at_ (listB wb) (k:Int))<nd:=fun h=>by have hmm:=Cf (xs:=listB wb) (i:=(k:Int)) om om;have h1:=listB_lt hmm;have h2:=hW _ hmm;omega
  refine Ah (Gr (A8 rfl rfl) (Af (Av (A6 rfl (fun c44=>?_) (fun c44=>?_)))))
  ·refine Az (Ai (Av (A5 (Ah (Gr (Ba (α:=Int) (xs:=listB wb) Am ty3 rfl rfl Bo om om) (Gr (Cb (xs:=listB wb) ty3 rfl Bo om om) (Ga rfl ?_)))))))
   have hv2:=hvr om
   refine Af (Ah (Gm rfl (Gf fld211_2 rfl (Gl ty22 ?_))))
   refine Gm rfl (Gr (Ba (α:=Int) (xs:=bs) Am ty3 rfl rfl (Bl hb) om om) (Gr (Cb (xs:=bs) ty3 rfl (Bl hb) om om) ?_))
   rw [hP.b0 (at_ (listB wb) (k:Int)) hv2.1 hv2.2]
   refine Gr (Rad rfl rfl) (Ga rfl (Af (Ar (S7 4 9 2 5 41 42 43 rfl rfl rfl rfl rfl rfl rfl) (A2 (Gm rfl (Gf fld211_3 rfl (Gl ty22 ?_)))))))
   refine Gm rfl (Gr (Ba (α:=Int) (xs:=cs) Am ty3 rfl rfl (Bl hkc) om om) (Gr (Cb (xs:=cs) ty3 rfl (Bl hkc) om om) ?_))
   rw [hP.c1 (at_ (listB wb) (k:Int)) hv2.1 hv2.2]
   exact Gr (Rad rfl rfl) (Ga rfl (Be (Al (Ai (Ar (S6 5 4 2 41 42 43 rfl rfl rfl rfl rfl rfl) (A2 (Gr (Rad rfl rfl) (Gm rfl (Be (B0 ((k+1)) om (hL:=(Ab rfl (Ab (D5 rfl (by first|omega|(dsimp only<;>omega)|exact insE_yes hk2 her2 g24 c31|exact (insE_yes hk2 her2 g24 c31).symm|exact insE_no hk2 her2 (.inl g24)|exact insE_no hk2 her2 (.inr c31)|exact (insE_no hk2 her2 (.inl g24)).symm|exact (insE_no hk2 her2 (.inr c31)).symm|rfl)) (Ab (D5 rfl (by first|omega|(dsimp only<;>omega)|exact insE_yes hk2 her2 g24 c31|exact (insE_yes hk2 her2 g24 c31).symm|exact insE_no hk2 her2 (.inl g24)|exact insE_no hk2 her2 (.inr c31)|exact (insE_no hk2 her2 (.inl g24)).symm|exact (insE_no hk2 her2 (.inr c31)).symm|rfl)) (Ab rfl (Ab rfl (Ab (D5 rfl (by first|omega|(dsimp only<;>omega)|exact insE_yes hk2 her2 g24 c31|exact (insE_yes hk2 her2 g24 c31).symm|exact insE_no hk2 her2 (.inl g24)|exact insE_no hk2 her2 (.inr c31)|exact (insE_no hk2 her2 (.inl g24)).symm|exact (insE_no hk2 her2 (.inr c31)).symm|rfl)) Bp)))))))))))))))))
  ·refine Bt (Aq (Aq (A9 (Ai (Ah (Gm rfl (Gm rfl (Ga rfl (Ga rfl (Af (Ay ?_)))))))))))
   have hkk:(k:Int)=cntB wb:=by unfold cntB;omega
   exact Ct rfl rfl rfl (I) A1 ⟨by rw [hkk],rfl⟩
theorem Arc_ok{κ:Ctx}{I:List Item}{b:Nat}{nn:Int}{a:Option Addr}{c:Nat}{arcs:List Arc}(f t m:Int)(hlen:arcs.length≤100000) :
    CallS Tryz.prog κ 281 [I64 (f),I64 (t),I64 (m),.pointer (some ⟨b,0,none⟩)] (blk b [I64 (nn),I64 (0),I64 (1),.slice a arcs.length c] 303::vc 305 (.slice a arcs.length c) (arcs)::I) (fun r J=>∃a2 c2,r=I64 ((arcs.length:Nat):Int)∧J=blk b [I64 nn,I64 0,I64 1,.slice a2 (arcs++[(⟨f,t,m⟩:Arc)]).length c2] 303::vc 305 (.slice a2 (arcs++[(⟨f,t,m⟩:Arc)]).length c2) (arcs++[(⟨f,t,m⟩:Arc)])::I):=by
 refine Ce4 Tryz.func281 rfl rfl ?_
 refine Ah (Ga rfl (Af (Ah (Gf fld303_3 rfl (Gl ty301 ?_)))))
 refine Gm rfl (Gm rfl (Gm rfl (Gr (Bc (cells:=[_,_,_]) ty305 Tryz.underlying305 pl305 rfl rfl) (Ge1 (B1 (α:=Arc) (cs:=[_,_,_]) (xs:=[⟨f,t,m⟩]) C7 ty305 rfl rfl dc dc rfl rfl rfl rfl) fun ad1=>?_))))
 refine Ge2 (B2 (α:=Arc) (e:=305) (xs:=arcs) (ys:=([⟨f,t,m⟩]:List Arc)) C7 ty305 rfl rfl rfl mm Bo lcn dc rfl (fun _ _=>am)) fun ad2 cp3=>?_
 refine Gf fld303_3 rfl (Ge0 (Dq (cs:=[_,_,_,_]) (vs:=[_]) (cs':=[_,_,_,_]) ty301) ?_)
 refine Af (Ar (S1 3 rfl) (Ah (Gf fld303_3 rfl (Gl ty301 ?_))))
 refine Gr (B3 C7 rfl) (Gr (Runs.sub rfl rfl (by unfold InR;simp only [List.length_append,List.length_cons,List.length_nil];omega)) (Ga rfl (Af (Ay ?_))))
 have hal:(((arcs++[(⟨f,t,m⟩:Arc)]).length:Nat):Int) - 1=((arcs.length:Nat):Int):=by simp only [List.length_append,List.length_cons,List.length_nil];omega
 exact A0 rfl rfl (blk b [I64 nn,I64 0,I64 1,.slice ad2 (arcs++[(⟨f,t,m⟩:Arc)]).length cp3] 303::vc 305 (.slice ad2 (arcs++[(⟨f,t,m⟩:Arc)]).length cp3) (arcs++[(⟨f,t,m⟩:Arc)])::I) Bz ⟨ad2,cp3,by rw [hal],rfl⟩
theorem Part_ok{κ:Ctx}{I:List Item}{ve vw vb vk vf:Value}{al:BitVec 64}{fl:List Int}{p q i total:Int}(hf:Sl κ I vf fl)(hp:p<fl.length)(hq:q<fl.length)(hb:∀x∈fl,0≤x∧x≤4096)(ht:0≤total∧total≤4096) :
    CallS Tryz.prog κ 283 [.agg #[ve,vw,vb,vk,U64 (al),U64 (0#64)],I64 (i),.agg #[I64 (p),I64 (q)],vf,I64 (total)] I (fun r J=>∃x:Int,r=I64 x∧I=J):=by
 refine Ce5 Tryz.func283 rfl rfl ?_
 refine Ah (Ge1 (Bb (cs:=[_,_,_,_,_,_]) rfl rfl rfl) fun b1=>Ge1 (Bb (cs:=[_,_]) rfl rfl rfl) fun b2=>Ga rfl (Af (Ah (Ge1 (Ax ty64 rfl) fun b3=>Af (Av (Ah (Gl2 ty64 ?_)))))))
 refine Gm rfl (Af (A5 (Bv (σ:=Nat×Int×Int) (fun s=>([(3,vf),(4,I64 (total)),(7,.pointer (some ⟨b2,0,none⟩)),(11,.pointer (some ⟨b3,0,none⟩)),(15,.agg #[I64 (p),I64 (q)]),(16,I64 (((s.1:Nat):Int)))]:Env)) (fun s=>blk b3 [I64 (s.2.1),I64 (s.2.2)] 64::blk b2 [I64 (p),I64 (q)] 64::blk b1 [ve,vw,vb,vk,U64 (al),U64 (0#64)] 211::I) (fun s=>(s.1≤2)∧(0≤s.2.1∧s.2.1≤4096)∧(0≤s.2.2∧s.2.2≤4096)) (fun s=>2 - s.1) (0,0,0) (show ((0:Nat)≤2)∧(0≤(0:Int)∧(0:Int)≤4096)∧(0≤(0:Int)∧(0:Int)≤4096) from ⟨om,om,om⟩) (Ab rfl (Ab rfl (Ab rfl (Ab rfl (Ab rfl (Ab Ca Bp)))))) (show Fit κ _ (blk b3 [I64 ((0)),I64 ((0))] 64::blk b2 [I64 (p),I64 (q)] 64::blk b1 [ve,vw,vb,vk,U64 (al),U64 (0#64)] 211::I) from A4) ?_)))
 rintro ⟨j,e0,e1⟩ hp
 dsimp only at hp ⊢
 obtain ⟨hj,he0,he1⟩:=hp
 have hpq:(if (j:Int)=0 then p else q)<fl.length:=by split<;>assumption
 refine Ah (Gr (A8 rfl rfl) (Af (Av (A6 rfl (fun c17=>?_) (fun c17=>?_)))))
 ·refine Az (Ai (Av (A5 (Ah (Gm rfl (Gr (Runs.index2 (ix2a _ _) (ix2b _ _) rfl rfl om) (Ga rfl (Ga rfl (Af (Ah (Gm rfl (Gr (B5 rfl rfl) (Af (A6 rfl (fun c21=>?_) (fun c21=>?_)))))))))))))))
  ·refine A2 (Gm rfl (Gm rfl (Gm rfl (Gr (Ba (α:=Int) (xs:=fl) Am ty3 rfl rfl (Bl hf) om om) (Gr (Cb (xs:=fl) ty3 rfl (Bl hf) om om) ?_)))))
   have hvx:=hb _ (Cf (xs:=fl) (i:=(if (j:Int)=0 then p else q)) om om)
   generalize at_ fl (if (j:Int)=0 then p else q)=xv at hvx ⊢
   refine Gr (D2 Cm ty2 rfl rfl om om) (Ge0 (Eff.setC2 (p:=e0) (q:=e1) (j:=(j:Int)) (n:=xv) ty3 rfl rfl rfl om am) ?_)
   exact Be (Al (Ai (Ar (S6 3 4 7 11 15 16 rfl rfl rfl rfl rfl rfl) (A2 (Gr (Rad rfl rfl) (Gm rfl (Be (B0 ((j+1),(if (j:Int)=0 then xv else e0),(if (j:Int)=0 then e1 else xv)) (by dsimp only;exact ⟨om,(by first|exact he0|(split<;>first|exact he0|exact hvx)),(by first|exact he1|(split<;>first|exact he1|exact hvx))⟩)))))))))
  ·exact Az (Al (Ai (A2 (Gr (Rad rfl rfl) (Gm rfl (Be (B0 ((j+1),(e0),(e1)) (by dsimp only;exact ⟨om,(by first|exact he0|(split<;>first|exact he0|exact hvx)),(by first|exact he1|(split<;>first|exact he1|exact hvx))⟩))))))))
 ·refine Bt (Aq (Aq (A9 (Ai (Ah (Gm rfl (Gr (D2 Cm ty2 rfl rfl om om) (Gl ty3 ?_))))))))
  refine Gr (Rsu rfl rfl) (Gr (D2 Cm ty2 rfl rfl om om) (Gl ty3 ?_))
  refine Gr (Rsu rfl rfl) (Ga rfl (Af (Ar (S3 14 7 11 rfl rfl rfl) (Av (Ah (Gr (D2 Cm ty2 rfl rfl om om) (Gl ty3 ?_)))))))
  refine Gr (B5 rfl rfl) (Gm rfl (A7 (d:=39) rfl (fun g39=>?_) (fun g39=>?_)))
  ·refine Gro (D2 Cm ty2 rfl rfl om om) (Gro (As ty3) ?_)
   refine Gro (A8 rfl rfl) (Gr (Ao rfl rfl) (Af (A6 rfl (fun c43=>?_) (fun c43=>?_))))
   ·refine A2 (Ga rfl (Af (Ah (Gr (D2 Cm ty2 rfl rfl om om) (Gl ty3 ?_)))))
    exact Gm rfl (Gr (Rad rfl rfl) (Ga rfl (Af (Ar (S1 10 rfl) (Ay (A0 rfl rfl (I) A1 ⟨_,rfl,rfl⟩))))))
   ·refine Az (Ai (Ah (Gr (D2 Cm ty2 rfl rfl om om) (Gl ty3 ?_))))
    exact Gm rfl (Gr (Rad rfl rfl) (Ga rfl (Af (Ar (S1 10 rfl) (Ay (A0 rfl rfl (I) A1 ⟨_,rfl,rfl⟩))))))
  ·refine Gpo (Gpo (Gpo (Gr (Ak rfl rfl) (Af (Cw rfl (Az (Ai (Ah (Gr (D2 Cm ty2 rfl rfl om om) (Gl ty3 ?_))))))))))
   exact Gm rfl (Gr (Rad rfl rfl) (Ga rfl (Af (Ar (S1 10 rfl) (Ay (A0 rfl rfl (I) A1 ⟨_,rfl,rfl⟩))))))
end Go.Sl
