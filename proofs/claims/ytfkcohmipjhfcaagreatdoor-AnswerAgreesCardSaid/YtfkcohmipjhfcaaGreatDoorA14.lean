/- A part of the proofs of statements of this seat: contracts of functions, and the plain laws that they lean on. No conditions. -/
import Derived.Test.YtfkcohmipjhfcaaGreatDoorA13
import Derived.ScopeJumps
set_option linter.unusedVariables false
set_option linter.unusedSimpArgs false
set_option linter.unusedSectionVars false
namespace Go.Sl
open Go.Proofs
set_option maxRecDepth 4000
variable {κ:Ctx}{I:List Item}
theorem eqt177:EqT Tryz.prog 177 Wd:=EqT.flatU (fun p:Wd=>[p.hi,p.lo]) (fun _=>rfl) (fun x y h=>by cases x;cases y;simpa using h) (n:=2) (fun _=>rfl) kr kr kr kr kr
theorem wd_zero{y:Int}:(⟨0,y⟩:Wd)=⟨0,0⟩↔y=0:=by rw [Wd.mk.injEq];exact ⟨fun h=>h.2,fun h=>⟨rfl,h⟩⟩
theorem mkF_zero{b:Int}(h:0<b):mkF 0 b=⟨0,1⟩:=by
 have e:gcdI 0 b=b:=by unfold gcdI;simp;omega
 unfold mkF;rw [e,Int.zero_ediv,Int.ediv_self om]
theorem gcdI_mod{a b:Int}(h0:0≤a)(h1:0<b):gcdI b (a % b)=gcdI a b:=by
 rw [←gcdI_step h0 h1,Int.tmod_eq_emod_of_nonneg h0]
theorem WDouble_ok(n:Int)(h:0≤n∧n<9223372036854775808) :
    CallS Tryz.prog κ 278 [.agg #[.int .u64 (0),.int .u64 (n)]] I (fun r J=>r = .agg #[.int .u64 0,.int .u64 (2*n)]∧I=J):=by
 refine Ce1 Tryz.func278 rfl rfl ?_
 refine Ah (Ge1 (Bb (cs:=[_,_]) rfl rfl rfl) fun b1=>Ge1 (A5 ty177 rfl) fun b2=>Af (Ah (Gf fld177_0 rfl (Gl ty175 ?_))))
 refine Gr (Runs.shlU (m:=0) rfl rfl dc dc) (Gf fld177_1 rfl (Gl ty175 ?_))
 refine Gr (Runs.shr63 (m:=n) rfl rfl om om) (Gr (Runs.orZ rfl rfl) (Gf fld177_1 rfl (Gl ty175 ?_)))
 refine Gr (Runs.shlU (m:=n) rfl rfl om om) (Gr (Be (cells:=[_,_]) ty177 Dn pl177 rfl rfl) (Ge0 (B1 ty177) ?_))
 exact Af (As (S1 2 rfl) (A2 (Cw rfl ty177 rfl mm rfl (I) A4 ⟨rfl,rfl⟩)))
theorem WLess_ok(a b:Int) :
    CallS Tryz.prog κ 124 [.agg #[.int .u64 (0),.int .u64 (a)],.agg #[.int .u64 (0),.int .u64 (b)]] I (fun r J=>r = .bool (decide (a<b))∧I=J):=by
 refine Ce2 Tryz.func124 rfl rfl ?_
 refine Ah (Ge1 (Bb (cs:=[_,_]) rfl rfl rfl) fun b1=>Ge1 (Bb (cs:=[_,_]) rfl rfl rfl) fun b2=>Ga rfl (Af (Ah (Gf fld177_0 rfl (Gl ty175 ?_)))))
 refine Gf fld177_0 rfl (Gl ty175 ?_)
 refine Gr (Bc rfl rfl) (Gm rfl (Bi (d:=10) rfl (fun g10=>?_) (fun g10=>?_)))
 ·exact absurd g10 om
 ·refine Gro (Aa fld177_0 rfl) (Gro (Au ty175) ?_)
  refine Gro (Aa fld177_0 rfl) (Gro (Au ty175) ?_)
  refine Gro (Bs rfl rfl) (Gro (Ad rfl) (Bi (d:=16) rfl (fun g16=>?_) (fun g16=>?_)))
  ·refine Gro (Aa fld177_1 rfl) (Gro (Au ty175) ?_)
   refine Gro (Aa fld177_1 rfl) (Gro (Au ty175) ?_)
   exact Gro (Bc rfl rfl) (Gro (Ap rfl rfl) (Gr (Av rfl rfl) (Ga rfl (Af (As (S1 4 rfl) (A2 (A7 rfl rfl (I) A4 ⟨rfl,rfl⟩)))))))
  ·exact absurd rfl g16
theorem WSub_ok(a b:Int)(h:0≤b∧b≤a∧a<9223372036854775808) :
    CallS Tryz.prog κ 279 [.agg #[.int .u64 (0),.int .u64 (a)],.agg #[.int .u64 (0),.int .u64 (b)]] I (fun r J=>r = .agg #[.int .u64 0,.int .u64 (a - b)]∧I=J):=by
 refine Ce2 Tryz.func279 rfl rfl ?_
 refine Ah (Ge1 (Bb (cs:=[_,_]) rfl rfl rfl) fun b1=>Ge1 (Bb (cs:=[_,_]) rfl rfl rfl) fun b2=>Ge1 (A5 ty177 rfl) fun b3=>Af (Ah (Gf fld177_0 rfl (Gl ty175 ?_))))
 refine Gf fld177_0 rfl (Gl ty175 ?_)
 refine Gr (Runs.subU (m:=0) (n:=0) rfl rfl dc dc dc) (Ga rfl (Af (Ao (Ah (Gf fld177_1 rfl (Gl ty175 ?_))))))
 refine Gf fld177_1 rfl (Gl ty175 ?_)
 refine Gr (Bc rfl rfl) (Af (As (S5 15 5 4 3 2 rfl rfl rfl rfl rfl) (A9 rfl (fun c15=>?_) (fun c15=>?_))))
 ·exact absurd c15 om
 ·refine A0 (Ai (Ah (Gm rfl (Gf fld177_1 rfl (Gl ty175 ?_)))))
  refine Gf fld177_1 rfl (Gl ty175 ?_)
  refine Gr (Runs.subU (m:=a) (n:=b) rfl rfl om om om) (Gr (Be (cells:=[_,_]) ty177 Dn pl177 rfl rfl) (Ge0 (B1 ty177) ?_))
  exact Af (A2 (Cw rfl ty177 rfl mm rfl (I) A4 ⟨rfl,rfl⟩))
set_option maxHeartbeats 1000000 in
theorem WDivide_ok(a b:Int)(h0:0≤a∧a≤1152921504606846976)(h1:0<b∧b≤1152921504606846976) :
    CallS Tryz.prog κ 228 [.agg #[.int .u64 (0),.int .u64 (a)],.agg #[.int .u64 (0),.int .u64 (b)]] I (fun r J=>r = .tuple #[.agg #[.int .u64 0,.int .u64 (a / b)],.agg #[.int .u64 0,.int .u64 (a % b)]]∧I=J):=by
 refine Ce2 Tryz.func228 rfl rfl ?_
 refine Ah (Ge1 (Bb (cs:=[_,_]) rfl rfl rfl) fun b1=>Ge1 (Bb (cs:=[_,_]) rfl rfl rfl) fun b2=>Ge1 (A5 ty177 rfl) fun b3=>Ge1 (A5 ty177 rfl) fun b4=>Af (Ah (Ge1 (A5 ty177 rfl) fun b5=>Ge1 (A5 ty177 rfl) fun b6=>Af (Ao (Ah (Ga rfl (Af (Ax (Bx (σ:=Int×Int×Int) (fun s=>([(2,.pointer (some ⟨b1,0,none⟩)),(3,.pointer (some ⟨b2,0,none⟩)),(4,.pointer (some ⟨b3,0,none⟩)),(5,.pointer (some ⟨b4,0,none⟩)),(6,.pointer (some ⟨b5,0,none⟩)),(7,.pointer (some ⟨b6,0,none⟩)),(8,I64 (s.1))]:Env)) (fun s=>blk b6 [.int .u64 (0),.int .u64 (s.2.2)] 177::blk b5 [.int .u64 (0),.int .u64 (s.2.1)] 177::blk b4 [.int .u64 (0),.int .u64 (0)] 177::blk b3 [.int .u64 (0),.int .u64 (0)] 177::blk b2 [.int .u64 (0),.int .u64 (b)] 177::blk b1 [.int .u64 (0),.int .u64 (a)] 177::I) (fun s=>(-1≤s.1∧s.1≤127)∧(0≤s.2.2∧s.2.2<b)∧(0≤s.2.1)∧(a / 2 ^ (s.1+1).toNat=s.2.1*b+s.2.2)) (fun s=>(s.1+1).toNat) (127,0,0) (show (-1≤(127:Int)∧(127:Int)≤127)∧(0≤(0:Int)∧(0:Int)<b)∧(0≤(0:Int))∧(a / 2 ^ ((127:Int)+1).toNat=(0:Int)*b+(0:Int)) from ⟨om,om,om,(div_start h0.1 om)⟩) (Ac rfl (Ac rfl (Ac rfl (Ac rfl (Ac rfl (Ac rfl (Ac Cb Bq))))))) (show Fit κ _ (blk b6 [.int .u64 (0),.int .u64 ((0))] 177::blk b5 [.int .u64 (0),.int .u64 ((0))] 177::blk b4 [.int .u64 (0),.int .u64 (0)] 177::blk b3 [.int .u64 (0),.int .u64 (0)] 177::blk b2 [.int .u64 (0),.int .u64 (b)] 177::blk b1 [.int .u64 (0),.int .u64 (a)] 177::I) from Ay) ?_)))))))))
 rintro ⟨i,qq,rr⟩ hp
 dsimp only at hp ⊢
 obtain ⟨hi,hr,hq,hd⟩:=hp
 have hqa:=div_bd h0.1 hd hr.1 h1.1 hq
 have hbt:=bitA_two a i
 have hbh:63≤i→bitA a i=0:=bitA_high h0.1 om
 refine Ao (Ah (Gm rfl (Gr (Cg rfl rfl) (Af (A9 rfl (fun c10=>?_) (fun c10=>?_))))))
 ·refine A0 (Ai (Ao (Ax (Ah (Gl2 ty177 ?_)))))
  refine G.e (Am call278 rfl rfl (WDouble_ok rr om)) ?_
  rintro _ _ ⟨_,_,⟨rfl,rfl⟩,rfl,rfl⟩
  refine Ge0 (B1 ty177) ?_
  refine Af (Ao (Ah (Gm rfl (Gr (Cg rfl rfl) (Gm rfl (Bi (d:=17) rfl (fun g17=>?_) (fun g17=>?_)))))))
  ·refine Gro (Aa fld177_0 rfl) (Gro (Au ty175) ?_)
   refine Gro (Ad rfl) (Gro (Rsu rfl rfl) (Gro (D4 Bl Dg rfl om) (Gro (Runs.zeroU rfl rfl om om) (Gro (Runs.zand rfl rfl) (Gro (Bs rfl rfl) (Gr (Ap rfl rfl) (Gm rfl (Bi (d:=27) rfl (fun g27=>?_) (fun g27=>?_)))))))))
   ·exact absurd g27 om
   ·refine Gro (Ad rfl) (Gro (Bc rfl rfl) (Gro (Ad rfl) (Bi (d:=30) rfl (fun g30=>?_) (fun g30=>?_))))
    ·refine Gro (Aa fld177_1 rfl) (Gro (Au ty175) ?_)
     refine Gro (Ad rfl) (Gro (D4 Bl Dg rfl om) (Gro (Runs.shrU (m:=a) rfl rfl om om) (Gro (Runs.bitU (a:=a) (i:=i) rfl rfl om om) (Gro (Bs rfl rfl) (Gro (Ap rfl rfl) (Gr (Av rfl rfl) (Af (As (S8 39 2 3 4 5 6 7 8 rfl rfl rfl rfl rfl rfl rfl rfl) (A9 rfl (fun c39=>?_) (fun c39=>?_))))))))))
     ·refine Aw (Gf fld177_1 rfl (Gl ty175 ?_))
      refine Gr (Eo (m:=rr) rfl rfl om om) (Gf fld177_1 rfl (Ge0 (Ek ty175) ?_))
      refine Af (Ah (Gl2 ty177 ?_))
      refine G.e (Am call278 rfl rfl (WDouble_ok qq om)) ?_
      rintro _ _ ⟨_,_,⟨rfl,rfl⟩,rfl,rfl⟩
      refine Ge0 (B1 ty177) ?_
      refine Af (As (S7 2 3 4 5 6 7 8 rfl rfl rfl rfl rfl rfl rfl) (Ah (Gl2 ty177 ?_)))
      refine Gl2 ty177 ?_
      refine Gc0 (Am call124 rfl rfl (WLess_ok (2*rr+1) b)) ?_
      refine Gr (C7 rfl) (Af (A9 rfl (fun c49=>?_) (fun c49=>?_)))
      ·refine Ah (Gl2 ty177 ?_)
       refine Gl2 ty177 ?_
       refine Gc0 (Am call279 rfl rfl (WSub_ok (2*rr+1) b om)) ?_
       refine Ge0 (B1 ty177) ?_
       refine Af (As (S7 2 3 4 5 6 7 8 rfl rfl rfl rfl rfl rfl rfl) (Aw (Gf fld177_1 rfl (Gl ty175 ?_))))
       refine Gr (Eo (m:=qq) rfl rfl om om) (Gf fld177_1 rfl (Ge0 (Ek ty175) ?_))
       exact Bj (Aj (Ai (Aw (Gm rfl (Gr (Rsu rfl rfl) (Ga rfl (Bj (B6 ((i - 1),(2*qq+1),((2*rr+1) - b)) (by dsimp only;exact ⟨om,om,om,(by first|exact E1 h0.1 hd om om|exact E0 h0.1 hd om om)⟩)))))))))
      ·exact A0 (Aj (Ai (Aw (Gm rfl (Gr (Rsu rfl rfl) (Ga rfl (Bj (B6 ((i - 1),(2*qq),(2*rr+1)) (by dsimp only;exact ⟨om,om,om,(by first|exact E1 h0.1 hd om om|exact E0 h0.1 hd om om)⟩)))))))))
     ·refine A0 (Ai (Ah (Gl2 ty177 ?_)))
      refine G.e (Am call278 rfl rfl (WDouble_ok qq om)) ?_
      rintro _ _ ⟨_,_,⟨rfl,rfl⟩,rfl,rfl⟩
      refine Ge0 (B1 ty177) ?_
      refine Af (Ah (Gl2 ty177 ?_))
      refine Gl2 ty177 ?_
      refine Gc0 (Am call124 rfl rfl (WLess_ok (2*rr) b)) ?_
      refine Gr (C7 rfl) (Af (As (S8 49 2 3 4 5 6 7 8 rfl rfl rfl rfl rfl rfl rfl rfl) (A9 rfl (fun c49=>?_) (fun c49=>?_))))
      ·refine Ah (Gl2 ty177 ?_)
       refine Gl2 ty177 ?_
       refine Gc0 (Am call279 rfl rfl (WSub_ok (2*rr) b om)) ?_
       refine Ge0 (B1 ty177) ?_
       refine Af (Aw (Gf fld177_1 rfl (Gl ty175 ?_)))
       refine Gr (Eo (m:=qq) rfl rfl om om) (Gf fld177_1 rfl (Ge0 (Ek ty175) ?_))
       exact Bj (Aj (Ai (As (S7 2 3 4 5 6 7 8 rfl rfl rfl rfl rfl rfl rfl) (Aw (Gm rfl (Gr (Rsu rfl rfl) (Ga rfl (Bj (B6 ((i - 1),(2*qq+1),((2*rr) - b)) (by dsimp only;exact ⟨om,om,om,(by first|exact E1 h0.1 hd om om|exact E0 h0.1 hd om om)⟩))))))))))
      ·exact A0 (Aj (Ai (Aw (Gm rfl (Gr (Rsu rfl rfl) (Ga rfl (Bj (B6 ((i - 1),(2*qq),(2*rr)) (by dsimp only;exact ⟨om,om,om,(by first|exact E1 h0.1 hd om om|exact E0 h0.1 hd om om)⟩)))))))))
    ·refine Gpo (Gpo (Gpo (Gpo (Gpo (Gpo (Gpo (Gro (Av rfl rfl) (Gr (Av rfl rfl) (Af (As (S8 39 2 3 4 5 6 7 8 rfl rfl rfl rfl rfl rfl rfl rfl) (Cx rfl (A0 (Ai (Ah (Gl2 ty177 ?_)))))))))))))))
     refine G.e (Am call278 rfl rfl (WDouble_ok qq om)) ?_
     rintro _ _ ⟨_,_,⟨rfl,rfl⟩,rfl,rfl⟩
     refine Ge0 (B1 ty177) ?_
     refine Af (Ah (Gl2 ty177 ?_))
     refine Gl2 ty177 ?_
     refine Gc0 (Am call124 rfl rfl (WLess_ok (2*rr) b)) ?_
     refine Gr (C7 rfl) (Af (As (S8 49 2 3 4 5 6 7 8 rfl rfl rfl rfl rfl rfl rfl rfl) (A9 rfl (fun c49=>?_) (fun c49=>?_))))
     ·refine Ah (Gl2 ty177 ?_)
      refine Gl2 ty177 ?_
      refine Gc0 (Am call279 rfl rfl (WSub_ok (2*rr) b om)) ?_
      refine Ge0 (B1 ty177) ?_
      refine Af (Aw (Gf fld177_1 rfl (Gl ty175 ?_)))
      refine Gr (Eo (m:=qq) rfl rfl om om) (Gf fld177_1 rfl (Ge0 (Ek ty175) ?_))
      exact Bj (Aj (Ai (As (S7 2 3 4 5 6 7 8 rfl rfl rfl rfl rfl rfl rfl) (Aw (Gm rfl (Gr (Rsu rfl rfl) (Ga rfl (Bj (B6 ((i - 1),(2*qq+1),((2*rr) - b)) (by dsimp only;exact ⟨om,om,om,(by first|exact E1 h0.1 hd om om|exact E0 h0.1 hd om om)⟩))))))))))
     ·exact A0 (Aj (Ai (Aw (Gm rfl (Gr (Rsu rfl rfl) (Ga rfl (Bj (B6 ((i - 1),(2*qq),(2*rr)) (by dsimp only;exact ⟨om,om,om,(by first|exact E1 h0.1 hd om om|exact E0 h0.1 hd om om)⟩)))))))))
  ·refine Gpo (Gpo (Gpo (Gpo (Gpo (Gpo (Gpo (Gpo (Gr (Av rfl rfl) (Gm rfl (Gro (Ad rfl) (Gro (Bc rfl rfl) (Gro (Ad rfl) (Bi (d:=30) rfl (fun g30=>?_) (fun g30=>?_))))))))))))))
   ·refine Gro (Aa fld177_1 rfl) (Gro (Au ty175) ?_)
    refine Gro (Ad rfl) (Gro (D4 Bl Dg rfl om) (Gro (Runs.shrU (m:=a) rfl rfl om om) (Gro (Runs.bitU (a:=a) (i:=i) rfl rfl om om) (Gro (Bs rfl rfl) (Gro (Ap rfl rfl) (Gr (Av rfl rfl) (Af (As (S8 39 2 3 4 5 6 7 8 rfl rfl rfl rfl rfl rfl rfl rfl) (A9 rfl (fun c39=>?_) (fun c39=>?_))))))))))
    ·refine Aw (Gf fld177_1 rfl (Gl ty175 ?_))
     refine Gr (Eo (m:=rr) rfl rfl om om) (Gf fld177_1 rfl (Ge0 (Ek ty175) ?_))
     refine Af (Ah (Gl2 ty177 ?_))
     refine G.e (Am call278 rfl rfl (WDouble_ok qq om)) ?_
     rintro _ _ ⟨_,_,⟨rfl,rfl⟩,rfl,rfl⟩
     refine Ge0 (B1 ty177) ?_
     refine Af (As (S7 2 3 4 5 6 7 8 rfl rfl rfl rfl rfl rfl rfl) (Ah (Gl2 ty177 ?_)))
     refine Gl2 ty177 ?_
     refine Gc0 (Am call124 rfl rfl (WLess_ok (2*rr+1) b)) ?_
     refine Gr (C7 rfl) (Af (A9 rfl (fun c49=>?_) (fun c49=>?_)))
     ·refine Ah (Gl2 ty177 ?_)
      refine Gl2 ty177 ?_
      refine Gc0 (Am call279 rfl rfl (WSub_ok (2*rr+1) b om)) ?_
      refine Ge0 (B1 ty177) ?_
      refine Af (As (S7 2 3 4 5 6 7 8 rfl rfl rfl rfl rfl rfl rfl) (Aw (Gf fld177_1 rfl (Gl ty175 ?_))))
      refine Gr (Eo (m:=qq) rfl rfl om om) (Gf fld177_1 rfl (Ge0 (Ek ty175) ?_))
      exact Bj (Aj (Ai (Aw (Gm rfl (Gr (Rsu rfl rfl) (Ga rfl (Bj (B6 ((i - 1),(2*qq+1),((2*rr+1) - b)) (by dsimp only;exact ⟨om,om,om,(by first|exact E1 h0.1 hd om om|exact E0 h0.1 hd om om)⟩)))))))))
     ·exact A0 (Aj (Ai (Aw (Gm rfl (Gr (Rsu rfl rfl) (Ga rfl (Bj (B6 ((i - 1),(2*qq),(2*rr+1)) (by dsimp only;exact ⟨om,om,om,(by first|exact E1 h0.1 hd om om|exact E0 h0.1 hd om om)⟩)))))))))
    ·refine A0 (Ai (Ah (Gl2 ty177 ?_)))
     refine G.e (Am call278 rfl rfl (WDouble_ok qq om)) ?_
     rintro _ _ ⟨_,_,⟨rfl,rfl⟩,rfl,rfl⟩
     refine Ge0 (B1 ty177) ?_
     refine Af (Ah (Gl2 ty177 ?_))
     refine Gl2 ty177 ?_
     refine Gc0 (Am call124 rfl rfl (WLess_ok (2*rr) b)) ?_
     refine Gr (C7 rfl) (Af (As (S8 49 2 3 4 5 6 7 8 rfl rfl rfl rfl rfl rfl rfl rfl) (A9 rfl (fun c49=>?_) (fun c49=>?_))))
     ·refine Ah (Gl2 ty177 ?_)
      refine Gl2 ty177 ?_
      refine Gc0 (Am call279 rfl rfl (WSub_ok (2*rr) b om)) ?_
      refine Ge0 (B1 ty177) ?_
      refine Af (Aw (Gf fld177_1 rfl (Gl ty175 ?_)))
      refine Gr (Eo (m:=qq) rfl rfl om om) (Gf fld177_1 rfl (Ge0 (Ek ty175) ?_))
      exact Bj (Aj (Ai (As (S7 2 3 4 5 6 7 8 rfl rfl rfl rfl rfl rfl rfl) (Aw (Gm rfl (Gr (Rsu rfl rfl) (Ga rfl (Bj (B6 ((i - 1),(2*qq+1),((2*rr) - b)) (by dsimp only;exact ⟨om,om,om,(by first|exact E1 h0.1 hd om om|exact E0 h0.1 hd om om)⟩))))))))))
     ·exact A0 (Aj (Ai (Aw (Gm rfl (Gr (Rsu rfl rfl) (Ga rfl (Bj (B6 ((i - 1),(2*qq),(2*rr)) (by dsimp only;exact ⟨om,om,om,(by first|exact E1 h0.1 hd om om|exact E0 h0.1 hd om om)⟩)))))))))
   ·refine Gpo (Gpo (Gpo (Gpo (Gpo (Gpo (Gpo (Gro (Av rfl rfl) (Gr (Av rfl rfl) (Af (As (S8 39 2 3 4 5 6 7 8 rfl rfl rfl rfl rfl rfl rfl rfl) (Cx rfl (A0 (Ai (Ah (Gl2 ty177 ?_)))))))))))))))
    refine G.e (Am call278 rfl rfl (WDouble_ok qq om)) ?_
    rintro _ _ ⟨_,_,⟨rfl,rfl⟩,rfl,rfl⟩
    refine Ge0 (B1 ty177) ?_
    refine Af (Ah (Gl2 ty177 ?_))
    refine Gl2 ty177 ?_
    refine Gc0 (Am call124 rfl rfl (WLess_ok (2*rr) b)) ?_
    refine Gr (C7 rfl) (Af (As (S8 49 2 3 4 5 6 7 8 rfl rfl rfl rfl rfl rfl rfl rfl) (A9 rfl (fun c49=>?_) (fun c49=>?_))))
    ·refine Ah (Gl2 ty177 ?_)
     refine Gl2 ty177 ?_
     refine Gc0 (Am call279 rfl rfl (WSub_ok (2*rr) b om)) ?_
     refine Ge0 (B1 ty177) ?_
     refine Af (Aw (Gf fld177_1 rfl (Gl ty175 ?_)))
     refine Gr (Eo (m:=qq) rfl rfl om om) (Gf fld177_1 rfl (Ge0 (Ek ty175) ?_))
     exact Bj (Aj (Ai (As (S7 2 3 4 5 6 7 8 rfl rfl rfl rfl rfl rfl rfl) (Aw (Gm rfl (Gr (Rsu rfl rfl) (Ga rfl (Bj (B6 ((i - 1),(2*qq+1),((2*rr) - b)) (by dsimp only;exact ⟨om,om,om,(by first|exact E1 h0.1 hd om om|exact E0 h0.1 hd om om)⟩))))))))))
    ·exact A0 (Aj (Ai (Aw (Gm rfl (Gr (Rsu rfl rfl) (Ga rfl (Bj (B6 ((i - 1),(2*qq),(2*rr)) (by dsimp only;exact ⟨om,om,om,(by first|exact E1 h0.1 hd om om|exact E0 h0.1 hd om om)⟩)))))))))
 ·refine Bt (Ak (Ak (A6 (Ai (Ao (Bo mixed (Bu (blk b6 [.int .u64 (0),.int .u64 (rr)] 177::blk b5 [.int .u64 (0),.int .u64 (qq)] 177::blk b2 [.int .u64 (0),.int .u64 (b)] 177::blk b1 [.int .u64 (0),.int .u64 (a)] 177::I) 2 (Dr 0 rfl (Bm (vs:=[_,_]) ty177) ?_))))))))
  refine De (rs:=[1,2]) kr rfl rfl (Eb ?_ (Du ?_))
  ·refine Sr rfl (Bm (vs:=[_,_]) ty177) Ay ?_
   refine C4 kr ?_
   refine Ae 2 rfl (B1 ty177) ?_
   rintro _ _ ⟨rfl,rfl⟩
   refine Ae 3 rfl (B1 ty177) ?_
   rintro _ _ ⟨rfl,rfl⟩
   refine C5 kr ?_
   refine Ai (A2 ?_)
   obtain ⟨hE1,hE2⟩:=div_end hd om hr.1 hr.2
   subst hE1 hE2
   exact V.retcc rfl ty177 ty177 rfl rfl mm mm rfl rfl (I) A4 ⟨rfl,rfl⟩
  ·refine Se0 rfl (B1 ty177) ?_
   refine Ds1 1 (Sr rfl (Bm (vs:=[_,_]) ty177) Ay ?_)
   refine Ds1 3 (Se0 rfl (B1 ty177) ?_)
   refine Dz (Ai (A2 ?_))
   obtain ⟨hE1,hE2⟩:=div_end hd om hr.1 hr.2
   subst hE1 hE2
   exact V.retcc rfl ty177 ty177 rfl rfl mm mm rfl rfl (I) A4 ⟨rfl,rfl⟩
theorem WGcd_ok(a b:Int)(h0:0≤a∧a≤1152921504606846976)(h1:0≤b∧b≤1152921504606846976) :
    CallS Tryz.prog κ 159 [.agg #[.int .u64 (0),.int .u64 (a)],.agg #[.int .u64 (0),.int .u64 (b)]] I (fun r J=>r = .agg #[.int .u64 0,.int .u64 (gcdI a b)]∧I=J):=by
 refine Ce2 Tryz.func159 rfl rfl ?_
 refine Ah (Ge1 (Bb (cs:=[_,_]) rfl rfl rfl) fun b1=>Ge1 (Bb (cs:=[_,_]) rfl rfl rfl) fun b2=>Ge1 (A5 ty177 rfl) fun b3=>Af (Ao (Ax (Bx (σ:=Int×Int) (fun s=>([(2,.pointer (some ⟨b1,0,none⟩)),(3,.pointer (some ⟨b2,0,none⟩)),(4,.pointer (some ⟨b3,0,none⟩))]:Env)) (fun s=>blk b3 [.int .u64 (0),.int .u64 (0)] 177::blk b2 [.int .u64 (0),.int .u64 (s.2)] 177::blk b1 [.int .u64 (0),.int .u64 (s.1)] 177::I) (fun s=>(0≤s.1∧s.1≤1152921504606846976)∧(0≤s.2∧s.2≤1152921504606846976)∧(gcdI s.1 s.2=gcdI a b)) (fun s=>s.2.toNat) (a,b) (show (0≤(a:Int)∧(a:Int)≤1152921504606846976)∧(0≤(b:Int)∧(b:Int)≤1152921504606846976)∧(gcdI (a:Int) (b:Int)=gcdI a b) from ⟨om,om,rfl⟩) (Ac rfl (Ac rfl (Ac rfl Bq))) (show Fit κ _ (blk b3 [.int .u64 (0),.int .u64 (0)] 177::blk b2 [.int .u64 (0),.int .u64 ((b))] 177::blk b1 [.int .u64 (0),.int .u64 ((a))] 177::I) from Ay) ?_))))
 rintro ⟨x,y⟩ hp
 dsimp only at hp ⊢
 obtain ⟨hx,hy,hg⟩:=hp
 refine Ao (Ah (Gl2 ty177 ?_))
 refine Gr (Be (cells:=[_,_]) ty177 Dn pl177 rfl rfl) (Gr (Runs.neqT (α:=Wd) (a:=(⟨0,y⟩:Wd)) (b:=(⟨0,0⟩:Wd)) eqt177 rfl rfl) (Af (A9 rfl (fun c9=>?_) (fun c9=>?_))))
 ·refine A0 (Ai (Ax (Ah (Gl2 ty177 ?_))))
  refine Gl2 ty177 ?_
  refine Gc0 (Am call228 rfl rfl (WDivide_ok x y om (by have:=mt wd_zero.2 c9;omega))) ?_
  refine Gm rfl (Gr (Az rfl rfl) (Gr (Az rfl rfl) (Ge1 (A5 ty177 rfl) fun b4=>Ge1 (A5 ty177 rfl) fun b5=>Ge0 (B1 ty177) ?_)))
  refine Ge0 (B1 ty177) ?_
  refine Af (As (S4 6 2 3 4 rfl rfl rfl rfl) (Bo mixed (Bu (blk b5 [.int .u64 (0),.int .u64 (x % y)] 177::blk b4 [.int .u64 (0),.int .u64 (x / y)] 177::blk b3 [.int .u64 (0),.int .u64 (0)] 177::I) 4 (Dr 1 rfl (Bm (vs:=[_,_]) ty177) ?_))))
  refine Ds1 0 (Sr rfl (Bm (vs:=[_,_]) ty177) Ay ?_)
  refine Ds1 2 (Se0 rfl (B1 ty177) ?_)
  refine Ds1 3 (Se0 rfl (B1 ty177) ?_)
  refine Dz (Aj ?_)
  have hyp:0<y:=by have:=mt wd_zero.2 c9;omega
  have hm0:=Int.emod_nonneg x (b:=y) om
  have hm1:=Int.emod_lt_of_pos x (b:=y) hyp
  exact B6 ((y),(x % y)) (by dsimp only;exact ⟨om,om,((gcdI_mod hx.1 hyp).trans hg)⟩)
 ·refine Bt (Ak (Ak (A6 (Ai (Ah (Gl2 ty177 ?_))))))
  refine Ge0 (B1 ty177) ?_
  refine Af (A2 ?_)
  have hy0:y=0:=wd_zero.1 (Classical.not_not.1 c9)
  subst hy0
  have hE:x=gcdI a b:=by rw [←hg,gcdI_zero hx.1]
  subst hE
  exact Cw rfl ty177 rfl mm rfl (I) A4 ⟨rfl,rfl⟩
set_option maxHeartbeats 1000000 in
theorem WReduce_ok(a b:Int)(h0:0≤a∧a≤1152921504606846976)(h1:0<b∧b≤1152921504606846976) :
    CallS Tryz.prog κ 247 [.bool false,.agg #[.int .u64 (0),.int .u64 (a)],.agg #[.int .u64 (0),.int .u64 (b)]] I (fun r J=>r = .tuple #[.agg #[I64 (mkF a b).num,I64 (mkF a b).den],I64 0]∧I=J):=by
 refine Ce3 Tryz.func247 rfl rfl ?_
 refine Ah (Ge1 (Bb (cs:=[_,_]) rfl rfl rfl) fun b1=>Ge1 (Bb (cs:=[_,_]) rfl rfl rfl) fun b2=>Ge1 (A5 ty40 rfl) fun b3=>Ga rfl (Af (Ao (Ah (Gl2 ty177 ?_)))))
 refine Gr (Be (cells:=[_,_]) ty177 Dn pl177 rfl rfl) (Gr (Runs.eqlT (α:=Wd) (a:=(⟨0,a⟩:Wd)) (b:=(⟨0,0⟩:Wd)) eqt177 rfl rfl) (Af (A9 rfl (fun c16=>?_) (fun c16=>?_))))
 ·refine Ah (Gr (Be (cells:=[_,_]) ty40 Cj pl40 rfl rfl) (Ge0 (B1 ty40) ?_))
  refine Ga rfl (Af (A2 (Al ?_)))
  have ha0:a=0:=wd_zero.1 c16
  subst ha0
  exact Ct rfl ty40 rfl rfl mm rfl (I) A4 ⟨by rw [mkF_zero h1.1];rfl,rfl⟩
 ·refine A0 (Ai (Ah (Gl2 ty177 ?_)))
  refine Gl2 ty177 ?_
  refine Gc0 (Am call159 rfl rfl (WGcd_ok a b om om)) ?_
  refine Ge1 (A5 ty177 rfl) fun b4=>Ge0 (B1 ty177) ?_
  have hgp:=gcdI_pos (a:=a) h1.1
  have hgl:=gcdI_le (a:=a) h1.1
  have hqn:=mkF_num h0.1 h1.1
  have hqd:=mkF_den (a:=a) h1.1
  unfold mkF at hqn hqd
  dsimp only at hqn hqd
  refine Af (As (S5 8 6 5 4 0 rfl rfl rfl rfl rfl) (Ah (Gl2 ty177 ?_)))
  refine Gl2 ty177 ?_
  refine Gc0 (Am call228 rfl rfl (WDivide_ok a (gcdI a b) om om)) ?_
  refine Gm rfl (Gr (Az rfl rfl) (Gr (Az rfl rfl) (Ge1 (A5 ty177 rfl) fun b5=>Ge1 (A5 ty177 rfl) fun b6=>Ge0 (B1 ty177) ?_)))
  refine Ge0 (B1 ty177) ?_
  refine Af (Ah (Gl2 ty177 ?_))
  refine Gl2 ty177 ?_
  refine Gc0 (Am call228 rfl rfl (WDivide_ok b (gcdI a b) om om)) ?_
  refine Gm rfl (Gr (Az rfl rfl) (Gr (Az rfl rfl) (Ge1 (A5 ty177 rfl) fun b7=>Ge1 (A5 ty177 rfl) fun b8=>Ge0 (B1 ty177) ?_)))
  refine Ge0 (B1 ty177) ?_
  refine Af (As (S4 11 9 6 0 rfl rfl rfl rfl) (Ao (Ah (Gf fld177_0 rfl (Gl ty175 ?_)))))
  refine Gr (B5 rfl rfl) (Gm rfl (Bi (d:=36) rfl (fun g36=>?_) (fun g36=>?_)))
  ·exact absurd g36 om
  ·refine Gro (Aa fld177_0 rfl) (Gro (Au ty175) ?_)
   refine Gro (B5 rfl rfl) (Gr (Av rfl rfl) (Gm rfl (Bi (d:=41) rfl (fun g41=>?_) (fun g41=>?_))))
   ·exact absurd g41 om
   ·refine Gro (Aa fld177_1 rfl) (Gro (Au ty175) ?_)
    refine Gro (B5 rfl rfl) (Gr (Av rfl rfl) (Gm rfl (Bi (d:=46) rfl (fun g46=>?_) (fun g46=>?_))))
    ·exact absurd g46 om
    ·refine Gro (Aa fld177_1 rfl) (Gro (Au ty175) ?_)
     refine Gro (B5 rfl rfl) (Gr (Av rfl rfl) (Af (As (S5 50 11 9 6 0 rfl rfl rfl rfl rfl) (A9 rfl (fun c50=>?_) (fun c50=>?_)))))
     ·exact absurd c50 om
     ·refine A0 (Ai (Ah (Gf fld177_1 rfl (Gl ty175 ?_))))
      refine Gr (Runs.convI Cq Bl rfl (by unfold InR;omega)) (Gf fld177_1 rfl (Gl ty175 ?_))
      refine Gr (Runs.convI Cq Bl rfl (by unfold InR;omega)) (Gr (Be (cells:=[_,_]) ty40 Cj pl40 rfl rfl) (Ge1 (A5 ty40 rfl) fun b9=>Ge0 (B1 ty40) ?_))
      refine Af (Ao (Ah (Gm rfl (Af (As (S3 59 13 6 rfl rfl rfl) (Cx rfl (A0 (Ai (Ah (Gl2 ty40 ?_))))))))))
      refine Ge0 (B1 ty40) ?_
      exact Ga rfl (Af (A2 (Ct rfl ty40 rfl rfl mm rfl (I) A4 ⟨rfl,rfl⟩)))
theorem WSize_ok(n:Int)(h:0≤n∧n≤1152921504606846976) :
    CallS Tryz.prog κ 123 [I64 (n)] I (fun r J=>r = .int .u64 n∧I=J):=by
 refine Ce1 Tryz.func123 rfl rfl ?_
 refine Ah (Ga rfl (Af (Ao (Ah (Gm rfl (Gr (Bc rfl rfl) (Af (A9 rfl (fun c4=>?_) (fun c4=>?_)))))))))
 ·exact absurd c4 om
 ·exact A0 (Ai (Ah (Gm rfl (Gr (D4 Bl Cq rfl om) (Ga rfl (Af (A2 (A7 rfl rfl (I) A4 ⟨rfl,rfl⟩))))))))
theorem Make01_ok(a b:Int)(h0:0≤a∧a≤1152921504606846976)(h1:0<b∧b≤1152921504606846976) :
    CallS Tryz.prog κ 204 [I64 (a),I64 (b)] I (fun r J=>r = .tuple #[.agg #[I64 (mkF a b).num,I64 (mkF a b).den],I64 0]∧I=J):=by
 refine Ce2 Tryz.func204 rfl rfl ?_
 refine Ah (Ge1 (A5 ty40 rfl) fun b1=>Ga rfl (Af (Ao (Ah (Gm rfl (Gr (Bs rfl rfl) (Af (A9 rfl (fun c7=>?_) (fun c7=>?_)))))))))
 ·exact absurd c7 om
 ·refine A0 (Ai (Ah (Gm rfl (Gr (Bc rfl rfl) (Gm rfl (Gr (Bc rfl rfl) (Gr (Runs.neqb E5 rfl rfl) ?_)))))))
  have hsg:decide (decide (a<0)≠decide (b<0))=false:=by rw [decide_eq_false (show ¬a<0 by omega),decide_eq_false (show ¬b<0 by omega)];rfl
  rw [hsg]
  refine Gm rfl (Gc0 (Am call123 rfl rfl (WSize_ok a om)) ?_)
  refine Gr (Be (cells:=[_,_]) ty177 Dn pl177 rfl rfl) (Gm rfl (Gc0 (Am call123 rfl rfl (WSize_ok b om)) ?_))
  refine Gr (Be (cells:=[_,_]) ty177 Dn pl177 rfl rfl) (Gc0 (Am call247 rfl rfl (WReduce_ok a b om om)) ?_)
  refine Gr (Az rfl rfl) (Gr (Az rfl rfl) (Ge0 (B1 ty40) ?_))
  exact Ga rfl (Af (As (S2 5 4 rfl rfl) (A2 (Ct rfl ty40 rfl rfl mm rfl (I) A4 ⟨rfl,rfl⟩))))
theorem RatOf_ok(a b:Int)(h0:0≤a∧a≤1152921504606846976)(h1:0<b∧b≤1152921504606846976) :
    CallS Tryz.prog κ 128 [I64 (a),I64 (b)] I (fun r J=>r = .agg #[I64 (mkF a b).num,I64 (mkF a b).den]∧I=J):=by
 refine Ce2 Tryz.func128 rfl rfl ?_
 refine Ah (Ge1 (A5 ty40 rfl) fun b1=>Af (Ah (Gm rfl (Gm rfl (Gc0 (Am call204 rfl rfl (Make01_ok a b om om)) ?_)))))
 refine Gm rfl (Gr (Az rfl rfl) (Gr (Az rfl rfl) (Ge1 (A5 ty40 rfl) fun b2=>Ge0 (B1 ty40) ?_)))
 refine Ga rfl (Af (Ah (Gl2 ty40 ?_)))
 refine Ge0 (B1 ty40) ?_
 exact Af (A2 (Cw rfl ty40 rfl mm rfl (I) A4 ⟨rfl,rfl⟩))
def rowG(nd:Int)(es:List Pt)(v:Int):BitVec 64:=if v<0∨((rowsB nd es).length:Int)≤v∨checkG nd es≠0 then 0#64 else at_ (rowsB nd es) v
def nbL(es:List Pt)(v:Int):List Int:=es.flatMap fun e=>(if e.u=v then [e.v] else [])++(if e.v=v then [e.u] else [])
theorem nbL_take{es:List Pt}{k:Nat}(h:k<es.length)(v:Int):nbL (es.take (k+1)) v=nbL (es.take k) v++((if (at_ es (k:Int)).u=v then [(at_ es (k:Int)).v] else [])++(if (at_ es (k:Int)).v=v then [(at_ es (k:Int)).u] else [])):=by
 unfold nbL;rw [Db es k h,List.flatMap_append];simp
theorem mem_nbL{es:List Pt}{v x:Int}:x∈nbL es v↔(⟨v,x⟩:Pt)∈es∨(⟨x,v⟩:Pt)∈es:=by
 unfold nbL
 rw [List.mem_flatMap]
 constructor
 ·rintro ⟨⟨a,b⟩,he,hx⟩
  rcases List.mem_append.1 hx with h|h
  ·split at h
   ·rename_i h1;simp only [List.mem_singleton] at h;simp only at h1;subst h h1;exact .inl he
   ·simp at h
  ·split at h
   ·rename_i h1;simp only [List.mem_singleton] at h;simp only at h1;subst h h1;exact .inr he
   ·simp at h
 ·rintro (h|h)
  ·exact ⟨_,h,by simp⟩
  ·exact ⟨_,h,by simp⟩
def nbG(nd:Int)(es:List Pt)(v:Int):List Int:=if checkG nd es≠0 then [] else ofL (nbL es v)
theorem nb_eq(nd:Int)(es:List Pt)(v:Int):listB (rowG nd es v)=nbG nd es v:=by
 by_cases hc:checkG nd es≠0
 ·unfold rowG nbG;rw [if_pos (.inr (.inr hc)),if_pos hc,C8]
 ·have hG:=checkG_ok.1 (Classical.not_not.1 hc)
  have hr:=hG.rng
  have hl:=hG.rows.len
  unfold nbG
  rw [if_neg hc]
  refine intLin.uniq (listB_asc _) (ofL_asc _) fun x=>?_
  rw [En,mem_ofL,mem_nbL]
  by_cases hv:v<0∨((rowsB nd es).length:Int)≤v
  ·have hz:rowG nd es v=0#64:=if_pos om
   rw [hz]
   simp only [BitVec.getLsbD_zero,Bool.false_eq_true,and_false,false_iff]
   rintro (h|h)
   ·have:=hG.edge _ h;simp only at this;omega
   ·have:=hG.edge _ h;simp only at this;omega
  ·have hz:rowG nd es v=at_ (rowsB nd es) v:=if_neg om
   rw [hz]
   by_cases hx:0≤x∧x<64
   ·rw [hG.rows.bit v x om om hx.1 hx.2,decide_eq_true_eq]
    exact ⟨fun h=>h.2,fun h=>⟨hx.1,h⟩⟩
   ·constructor
    ·rintro ⟨h1,h2⟩
     rw [BitVec.getLsbD_of_ge _ _ om] at h2
     exact absurd h2 dc
    ·rintro (h|h)
     ·have:=hG.edge _ h;simp only at this;omega
     ·have:=hG.edge _ h;simp only at this;omega
theorem nbG_len(nd:Int)(es:List Pt)(v:Int):(nbG nd es v).length≤64:=by rw [←nb_eq];exact Ed _
theorem listB_and(a b:BitVec 64):listB (a &&& b)=meetL (listB a) (listB b):=by
 refine intLin.uniq (listB_asc _) ((ofL_asc _).sublist List.filter_sublist) fun x=>?_
 rw [mem_meetL,En,En,En,BitVec.getLsbD_and,Bool.and_eq_true]
 exact ⟨fun h=>⟨⟨h.1,h.2.1⟩,h.1,h.2.2⟩,fun h=>⟨h.1.1,h.1.2,h.2.2⟩⟩
def commonG(nd:Int)(es:List Pt)(u v:Int):List Int:=if u=v then [] else meetL (nbG nd es u) (nbG nd es v)
theorem common_eq{nd:Int}{es:List Pt}{u v:Int}(h:u≠v):listB (rowG nd es u &&& rowG nd es v)=commonG nd es u v:=by
 unfold commonG;rw [if_neg h,listB_and,nb_eq,nb_eq]
def FindP(nd:Int)(es:List Pt)(u v y:Int):Prop:=(checkG nd es=0∧∃j:Nat,y=(j:Int)∧j<es.length∧at_ es (j:Int)=edgeP u v)∨(y = -1∧(checkG nd es≠0∨edgeP u v∉es))
def indG(nd:Int)(es:List Pt)(set:List Int):List Pt:=if checkG nd es≠0 then [] else insideL set es
def indN(nd:Int)(es:List Pt):Int:=if checkG nd es≠0 then 0 else nd
theorem indG_len(nd:Int)(es:List Pt)(set:List Int):(indG nd es set).length=insideN nd es set:=by
 unfold indG insideN;split<;>rfl
theorem indG_ref{nd:Int}{es:List Pt}(set:List Int)(h:¬checkG nd es≠0):indG nd es set=es.filter fun e=>decide (e.u∈set∧e.v∈set):=by
 unfold indG;rw [if_neg h];exact insideL_eq set (checkG_ok.1 (Classical.not_not.1 h))
theorem all_tab:∀n:Fin 65,∀i:Fin 64,(allB (n.val:Int)).getLsbD i.val=decide (i.val<n.val):=by decide+kernel
theorem getLsb_allB{n:Int}(h0:0≤n)(h1:n≤64){i:Nat}(hi:i<64):(allB n).getLsbD i=decide ((i:Int)<n):=by
 have:=all_tab ⟨n.toNat,by omega⟩ ⟨i,hi⟩
 simp only [show ((n.toNat:Nat):Int)=n by omega] at this
 rw [this,decide_eq_decide];omega
theorem meet_all{nd:Int}(set:List Int)(h0:0≤nd)(h1:nd≤64):listB (maskB set &&& allB nd)=meetL set (rangeI nd):=by
 refine intLin.uniq (listB_asc _) ((ofL_asc _).sublist List.filter_sublist) fun x=>?_
 rw [mem_meetL,En,mem_rangeI,BitVec.getLsbD_and,Bool.and_eq_true]
 by_cases hx:0≤x∧x<64
 ·rw [getLsb_allB h0 h1 om,decide_eq_true_eq,show (maskB set).getLsbD x.toNat=decide (x∈set) by unfold maskB;rw [getLsb_maskB om,show ((x.toNat:Nat):Int)=x by omega];simp,decide_eq_true_eq]
  exact ⟨fun h=>⟨h.2.1,h.1,by omega,by omega⟩,fun h=>⟨h.2.1,h.1,by omega⟩⟩
 ·constructor
  ·rintro ⟨h1,h2,_⟩
   rw [BitVec.getLsbD_of_ge _ _ om] at h2
   exact absurd h2 dc
  ·rintro ⟨_,h⟩;omega
theorem dens_count{nd:Int}{es:List Pt}(set:List Int)(h:¬checkG nd es≠0):onesB (maskB set &&& allB nd)=((meetL set (rangeI nd)).length:Int):=by
 have hr:=(checkG_ok.1 (Classical.not_not.1 h)).rng
 rw [ones_pop,meet_all set hr.1 hr.2]
theorem dens_none{nd:Int}{es:List Pt}{set:List Int}(h:¬checkG nd es≠0)(hm:(meetL set (rangeI nd)).length=0):insideN nd es set=0:=by
 have hG:=checkG_ok.1 (Classical.not_not.1 h)
 have hr:=hG.rng
 rw [insideN_ok hG,List.length_eq_zero_iff,List.filter_eq_nil_iff]
 intro e he hd
 simp only [decide_eq_true_eq] at hd
 have h1:=hG.edge e he
 have:e.u∈meetL set (rangeI nd):=mem_meetL.2 ⟨hd.1,mem_rangeI.2 ⟨by omega,by omega,by omega⟩⟩
 rw [List.length_eq_zero_iff.1 hm] at this
 exact absurd this List.not_mem_nil
def densG(nd:Int)(es:List Pt)(set:List Int):Fr:=if checkG nd es≠0 then ⟨0,0⟩ else if (meetL set (rangeI nd)).length=0 then ⟨0,1⟩ else mkF ((insideN nd es set:Nat):Int) (((meetL set (rangeI nd)).length:Nat):Int)
theorem densG_prog{nd:Int}{es:List Pt}(set:List Int)(h:¬checkG nd es≠0):mkF ((insideN nd es set:Nat):Int) (if onesB (maskB set &&& allB nd)<1 then 1 else onesB (maskB set &&& allB nd))=densG nd es set:=by
 unfold densG
 rw [if_neg h,dens_count set h]
 by_cases hm:(meetL set (rangeI nd)).length=0
 ·rw [if_pos hm,dens_none h hm,if_pos om];exact mkF_zero dc
 ·rw [if_neg hm,if_neg om]
theorem DensityG_ok{κ:Ctx}{I:List Item}{nd:Int}{va vb:Value}{es:List Pt}{set:List Int}(hl:Sl κ I va es)(hs:Sl κ I vb set)(hb:es.length≤1000000) :
    CallS Tryz.prog κ 147 [.agg #[I64 (nd),va],vb] I (fun r J=>r = .tuple #[.agg #[I64 (densG nd es set).num,I64 (densG nd es set).den],I64 (checkG nd es)]∧I=J):=by
 refine Ce2 Tryz.func147 rfl rfl ?_
 refine Ah (Ge1 (Bb (cs:=[_,_]) rfl rfl rfl) fun b1=>Ge1 (A5 ty40 rfl) fun b2=>Ga rfl (Af (Ao (Ah (Gl2 ty48 ?_)))))
 refine Gc0 (Am call83 rfl rfl (CheckGen_ok (Bf hl))) ?_
 refine Ga rfl (Af (Ah (Gm rfl (Gr (Bv rfl rfl) (Af (A9 rfl (fun c11=>?_) (fun c11=>?_)))))))
 ·refine Ah (Gr (Be (cells:=[_,_]) ty40 Cj pl40 rfl rfl) (Gm rfl (Ge0 (B1 ty40) ?_)))
  refine Ga rfl (Af (A2 (Al ?_)))
  have hX:(densG nd es set)=⟨0,0⟩:=if_pos c11
  exact Ct rfl ty40 rfl rfl mm rfl (I) A4 ⟨by first|(rw [hX];done)|(rw [hX];rfl),rfl⟩
 ·refine A0 (Ai (Ao (Bo mixed (Bu (blk b2 [I64 (0),I64 (0)] 40::blk b1 [I64 (nd),va] 48::I) 8 (Dr 0 rfl (Ad rfl) (Dr 2 rfl (Aa fld48_0 rfl) (Dr 3 rfl (Au ty3) ?_)))))))
  refine Ds1 1 (Sc0 rfl (Am call199 rfl rfl (MaskOf_ok (Bf hs))) ?_)
  refine Ds1 4 (Sc0 rfl (Am call200 rfl rfl (MaskAll_ok nd)) ?_)
  refine Dr 5 rfl (C0 (a:=maskB set) (b:=allB nd) rfl rfl) (Ds1 6 (Sc0 rfl (Am call219 rfl rfl (MCount_ok ((maskB set) &&& (allB nd)))) ?_))
  refine Dr 7 rfl (Bd rfl) (Dz (Ai (As (S4 7 4 2 1 rfl rfl rfl rfl) (Ah (Gl2 ty48 ?_)))))
  refine Gm rfl (Gc0 (Am call221 rfl rfl (InsideG_ok (nd:=nd) (Bf hl) (Bf hs) om)) ?_)
  have hin23:=insideN_le nd es set
  refine Gm rfl (Gr (Et rfl rfl) (Gc0 (Am call220 rfl rfl (MakeF_ok ((insideN nd es set:Nat):Int) (if (onesB ((maskB set) &&& (allB nd)))<1 then 1 else (onesB ((maskB set) &&& (allB nd)))) om (by have:=onesB_bd (maskB set &&& allB nd);split<;>omega))) ?_))
  refine Gr (Az rfl rfl) (Gr (Az rfl rfl) (Ge0 (B1 ty40) ?_))
  refine Ga rfl (Af (A2 ?_))
  have hX:=densG_prog (nd:=nd) (es:=es) set c11
  have hz:checkG nd es=0:=Classical.not_not.1 c11
  exact Ct rfl ty40 rfl rfl mm rfl (I) A4 ⟨by first|(rw [←hX,hz];done)|(rw [←hX,hz];rfl),rfl⟩
end Go.Sl
namespace Go.Sl
section
variable {P:Program}{κ:Ctx}{N:Frm}{Q:Exit→Act→World→Prop}{L:Env}{I:List Item}
theorem wp_scope_ghost{c rest:Code}{a:Act}{w:World}(l:Nat){σ:Type}(R:σ→Act→World→Prop)(μ:σ→Nat)(hf:findLabel c l=some rest)
  (first:c.wp P (Exit.jump l (fun a w=>∃s,R s a w) Q) a w)
  (pass:∀s a w,R s a w→rest.wp P (Exit.jump l (fun a' w'=>∃s',R s' a' w'∧μ s'<μ s) Q) a w):(Code.scope c).wp P Q a w:=by
 intro b k cs
 have hg:gotoIn l (.inScope c::k)=some (.code rest :: .inScope c::k):=by simp [gotoIn,hf]
 have key:∀n s a w,μ s=n→R s a w→∃e a' w',Q e a' w'∧Arrives P (lone (b.at a (.code rest :: .inScope c::k)) cs w) b k cs e a' w':=by
  intro n
  induction n using Nat.strongRecOn with
  |_ n ih=>
   intro s a w hn hR
   obtain ⟨e,a₁,w₁,hq,harr⟩:=pass s a w hR b (.inScope c::k) cs
   cases e with
   |normal=>exact ⟨.normal,a₁,w₁,hq,Steps.trans harr (.one step_inScope)⟩
   |exit id=>exact ⟨.exit id,a₁,w₁,hq,fun k' hk=>harr k' (by simp [exitTo,hk])⟩
   |goto l'=>
    obtain ⟨rfl,s',hR',hlt⟩:=hq
    obtain ⟨e₂,a₂,w₂,hq₂,harr₂⟩:=ih _ (by omega) s' a₁ w₁ rfl hR'
    exact ⟨e₂,a₂,w₂,hq₂,.of_steps (harr _ hg) harr₂⟩
   |ret=>exact ⟨_,a₁,w₁,hq,harr⟩
   |panic ch=>exact ⟨_,a₁,w₁,hq,harr⟩
   |outgrown=>exact ⟨_,a₁,w₁,hq,harr⟩
 obtain ⟨e,a₁,w₁,hq,harr⟩:=first b (.inScope c::k) cs
 cases e with
 |normal=>exact ⟨.normal,a₁,w₁,hq,.head step_scope (Steps.trans harr (.one step_inScope))⟩
 |exit id=>exact ⟨.exit id,a₁,w₁,hq,fun k' hk=> .head step_scope (harr k' (by simp [exitTo,hk]))⟩
 |goto l'=>
  obtain ⟨rfl,s,hR⟩:=hq
  obtain ⟨e₂,a₂,w₂,hq₂,harr₂⟩:=key _ s a₁ w₁ rfl hR
  exact ⟨e₂,a₂,w₂,hq₂,.of_steps (.head step_scope (harr _ hg)) harr₂⟩
 |ret=>exact ⟨_,a₁,w₁,hq,.of_steps (.one step_scope) harr⟩
 |panic ch=>exact ⟨_,a₁,w₁,hq,.of_steps (.one step_scope) harr⟩
 |outgrown=>exact ⟨_,a₁,w₁,hq,.of_steps (.one step_scope) harr⟩
theorem V.jump_normal{l:Nat}{K:Act→World→Prop}(h:V κ N Q .normal L I):V κ N (Exit.jump l K Q) .normal L I:=h
end
end Go.Sl
namespace Go.Sl
section
variable {P:Program}{κ:Ctx}{N:Frm}{Q:Exit→Act→World→Prop}{L:Env}{I:List Item}
theorem W.scope0{c rest:Code}{l:Nat}(hf:findLabel c l=some rest)(h:W P κ N c (Exit.jump l (fun _ _=>∃s:Unit,False) Q) L I):W P κ N (.scope c) Q L I:=fun a w ha hs=>
 wp_scope_ghost l (fun (_:Unit) _ _=>False) (fun _=>0) hf (h a w ha hs) fun _ _ _ hR=>hR.elim
theorem W.label{l:Nat}(h:V κ N Q .normal L I):W P κ N (.label l) Q L I:=fun a w ha hs=>wp_label (h a w ha hs)
end
end Go.Sl
namespace Go.Sl
open Go.Proofs
set_option maxRecDepth 4000
theorem bit_sh{v:Int}(h0:0≤v)(h1:v<64):bitB v=1#64 <<< v.toNat:=by unfold bitB;rw [if_neg om]
theorem rows_sym{nd:Int}{es:List Pt}(hG:GrOk nd es):SymB (rowsB nd es).length (rowsB nd es):=by
 have h:=hG.rows.symB hG
 have e:=h.len
 rw [←e] at h;exact h
structure BothP (n:Net) (f:List Int) (side:List Bool):Prop where
 flow:IsFlow n f
 len:(side.length:Int)=n.nodes
 great:∃T,Great n f T∧∀z:Int,0≤z→z<n.nodes→at_ side z=T z
set_option maxHeartbeats 1000000 in
theorem Both_ok{κ:Ctx}{I:List Item}{n:Net}{v:Value}(hl:Sl κ I v n.arcs)(hok:n.Ok) :
    CallS Tryz.prog κ 282 [.agg #[I64 (n.nodes),I64 (n.source),I64 (n.sink),v]] I (fun r J=>∃a c f a' c' side val,r = .tuple #[.slice a f.length c,I64 val,.slice a' side.length c']∧BothP n f side∧J=vc 4 (.slice a' side.length c') side::vc 3 (.slice a f.length c) f::I):=by
 have hlim:=hok.lim
 have hsnk:=hok.snk
 have hsrc:=hok.src
 refine Ce1 Tryz.func282 rfl rfl ?_
 refine Ah (Ge1 (Bb (cs:=[_,_,_,_]) rfl rfl rfl) fun b1=>Ga rfl (Ga rfl (Ga rfl (Af (Ah (Gl4 ty303 ?_))))))
 refine G.e (Am call317 rfl rfl (Solved_ok (n:=n) (Bf hl) hok)) ?_
 rintro _ _ ⟨_,_,⟨b,hw,ow,lw,nw,f,hs,rs,L,nx,val,rfl,⟨hfull,hh,hr⟩,rfl⟩,rfl,rfl⟩
 refine G.fit (J:=blk b [hw,ow,lw,nw,I64 (n.sink)] 339::vc 336 (hw) (hs)::vc 3 (lw) (L)::vc 3 (nw) (nx)::vc 22 (ow) (rs)::blk b1 [I64 (n.nodes),I64 (n.source),I64 (n.sink),v] 303::(rowsI rs++I)) B7 ?_
 refine Gm rfl (Gr (Az rfl rfl) (Gr (Az rfl rfl) (Ga rfl (Ga rfl (Af (Ao (Ah (Gf fld303_3 rfl ?_))))))))
 have hff:=hfull.flow.len
 have hhl:=hh.len
 refine Gl ty301 ?_
 refine Gr (Bz (α:=Arc) (xs:=n.arcs) Df rfl (Bf hl)) (Gm rfl (Af (As (S7 17 16 15 3 5 2 1 rfl rfl rfl rfl rfl rfl rfl) (Ax (Bx (σ:=Nat×(Option Addr)×Nat×(List Int)) (fun s=>([(1,.pointer (some ⟨b1,0,none⟩)),(2,.slice s.2.1 s.2.2.2.length s.2.2.1),(3,I64 (val)),(5,.pointer (some ⟨b,0,none⟩)),(15,v),(16,I64 (((n.arcs.length:Nat):Int))),(17,I64 (((s.1:Nat):Int)))]:Env)) (fun s=>vc 3 (.slice s.2.1 s.2.2.2.length s.2.2.1) (s.2.2.2)::blk b [hw,ow,lw,nw,I64 (n.sink)] 339::vc 336 (hw) (hs)::vc 3 (lw) (L)::vc 3 (nw) (nx)::vc 22 (ow) (rs)::blk b1 [I64 (n.nodes),I64 (n.source),I64 (n.sink),v] 303::(rowsI rs++I)) (fun s=>(s.1≤n.arcs.length)∧(s.2.2.2=f.take s.1)) (fun s=>n.arcs.length - s.1) (0,none,0,[]) (show ((0:Nat)≤n.arcs.length)∧(([]:List Int)=f.take (0:Nat)) from ⟨om,rfl⟩) (Ac rfl (Ac (Cz rfl (by first|rfl|simp)) (Ac rfl (Ac rfl (Ac rfl (Ac rfl (Ac Cb Bq))))))) (show Fit κ _ (vc 3 (.slice (none) ([]).length (0)) (([]))::blk b [hw,ow,lw,nw,I64 (n.sink)] 339::vc 336 (hw) (hs)::vc 3 (lw) (L)::vc 3 (nw) (nx)::vc 22 (ow) (rs)::blk b1 [I64 (n.nodes),I64 (n.source),I64 (n.sink),v] 303::(rowsI rs++I)) from (B3 _ _)) ?_)))))
 rintro ⟨k,a,c,fl⟩ hp
 dsimp only at hp ⊢
 obtain ⟨hk,hfl⟩:=hp
 have hfll:fl.length=k:=by rw [hfl,List.length_take];omega
 refine Ah (Gr (Bc rfl rfl) (Af (Ao (A9 rfl (fun c18=>?_) (fun c18=>?_)))))
 ·refine A0 (Ai (Ao (Ax (Ah (Gm rfl (Gr (A8 (α:=Arc) (xs:=n.arcs) Df ty305 rfl rfl (Bf hl) om oo) (Gr (B0 (α:=Arc) (xs:=n.arcs) ty305 rfl (Bf hl) om oo) (Ge1 (A5 ty305 rfl) fun b2=>Ga rfl (Ge0 (Es3_3 ty305) ?_)))))))))
  have hgt:=hh.get (2*(k:Int)) ⟨by omega,by omega⟩
  have hcap:=hfull.flow.cap k om
  have hac:=arc_at hok (k:=k) om
  have hlv:leftH n f (2*(k:Int))=(at_ n.arcs (k:Int)).cap - at_ f (k:Int):=by unfold leftH;rw [if_pos om,show (2*(k:Int)) / 2=(k:Int) from by omega]
  have hleft:(at_ n.arcs (k:Int)).cap - (at_ hs (2*(k:Int))).left=at_ f (k:Int):=by omega
  refine Af (Bo mixed (Bu (blk b2 [I64 ((at_ n.arcs (k:Int)).frm),I64 ((at_ n.arcs (k:Int)).dst),I64 ((at_ n.arcs (k:Int)).cap)] 305::blk b [hw,ow,lw,nw,I64 (n.sink)] 339::vc 336 (hw) (hs)::vc 3 (lw) (L)::vc 3 (nw) (nx)::vc 22 (ow) (rs)::blk b1 [I64 (n.nodes),I64 (n.source),I64 (n.sink),v] 303::(rowsI rs++I)) 16 (Dr 0 rfl (Ad rfl) (Dr 1 rfl (Aa fld305_2 rfl) (Dr 2 rfl (Au ty3) ?_)))))
  refine Dr 3 rfl (Ad rfl) (Dr 4 rfl (Bk rfl) (Dr 5 rfl (Aa fld339_0 rfl) (Dr 6 rfl (Au ty337) ?_)))
  refine Dr 7 rfl (Ad rfl) (Dr 8 rfl (E7 rfl rfl (by unfold InR;omega)) (Dr 9 rfl (A8 (α:=Half) (xs:=hs) Ce ty336 rfl rfl Br om oo) (Dr 10 rfl (Dq (α:=Half) (xs:=hs) fld336_1 rfl Br oo) (Dr 11 rfl (D6 (α:=Half) (xs:=hs) (u:=I64 ((at_ hs (2*(k:Int))).left)) ty3 rfl Br om oo rfl) (Dr 12 rfl (Rsu rfl rfl) (Ds1 13 (Se1 rfl (B9 (α:=Int) (cs:=[_]) (xs:=[((at_ n.arcs (k:Int)).cap) - ((at_ hs (2*(k:Int))).left)]) Ab ty3 rfl rfl dc dc rfl rfl rfl rfl) fun ad3=>?_)))))))
  refine Ds1 14 (Se2 rfl (Ca (α:=Int) (e:=3) (xs:=fl) (ys:=([((at_ n.arcs (k:Int)).cap) - ((at_ hs (2*(k:Int))).left)]:List Int)) Ab ty3 rfl rfl rfl mm Br lcn dc rfl (fun _ _=>am)) fun ad4 cp5=>?_)
  exact Dr 15 rfl (Bd rfl) (Dz (Aj (Ai (As (S7 2 1 3 5 15 16 17 rfl rfl rfl rfl rfl rfl rfl) (Aw (Gr (Rad rfl rfl) (Gm rfl (Bj (B6 ((k+1),(ad4),(cp5),(fl++([((at_ n.arcs (k:Int)).cap) - ((at_ hs (2*(k:Int))).left)]:List Int))) (by dsimp only;exact ⟨om,(by rw [hfl,Db f k om];congr 1;rw [hleft])⟩))))))))))
 ·refine Bt (Ak (Ak (A6 (Ai (Ah (Gm rfl ?_))))))
  have hkm:k=n.arcs.length:=by omega
  have hfe:fl=f:=by rw [hfl,hkm,←hff,List.take_length]
  refine Gf fld303_2 rfl (Gl ty3 ?_)
  refine G.e (Am call318 rfl rfl (Cn (J:=blk b [hw,ow,lw,nw,I64 (n.sink)] 339::vc 3 (.slice a fl.length c) (fl)::vc 336 (hw) (hs)::vc 3 (lw) (L)::vc 3 (nw) (nx)::vc 22 (ow) (rs)::blk b1 [I64 (n.nodes),I64 (n.source),I64 (n.sink),v] 303::(rowsI rs++I)) B7 (Reached_ok (n:=n) (rs:=rs) (hs:=hs) hok hh Br hr Br (fun i h0 h=>Ch (rowsI_sl i h0 h) A4) om))) ?_
  rintro _ _ ⟨_,_,⟨ad6,cp7,seen8,rfl,hseen8,rfl⟩,rfl,rfl⟩
  show G Tryz.prog κ _ _ _ _ ([(41,.slice ad6 seen8.length cp7),(40,I64 (n.sink)),(39,.pointer (some ⟨b1,2,none⟩)),(38,.pointer (some ⟨b,0,none⟩)),(18,.bool (decide ((k:Int)<((n.arcs.length:Nat):Int)))),(1,.pointer (some ⟨b1,0,none⟩)),(2,.slice a fl.length c),(3,I64 (val)),(5,.pointer (some ⟨b,0,none⟩)),(15,v),(16,I64 (((n.arcs.length:Nat):Int))),(17,I64 ((k:Int)))]:Env) (vc 4 (.slice ad6 seen8.length cp7) (seen8)::blk b [hw,ow,lw,nw,I64 (n.sink)] 339::vc 3 (.slice a fl.length c) (fl)::vc 336 (hw) (hs)::vc 3 (lw) (L)::vc 3 (nw) (nx)::vc 22 (ow) (rs)::blk b1 [I64 (n.nodes),I64 (n.source),I64 (n.sink),v] 303::(rowsI rs++I))
  have hlenseen8:=hseen8.len
  refine Ga rfl (Af (Ao (Ah (Gm rfl (Gr (Bw C6 rfl) (Gm rfl (Af (As (S5 44 43 4 2 3 rfl rfl rfl rfl rfl) (Ax (Bx (σ:=Nat×(List Bool)) (fun s=>([(2,.slice a fl.length c),(3,I64 (val)),(4,.slice ad6 seen8.length cp7),(43,I64 (((seen8.length:Nat):Int))),(44,I64 (((s.1:Nat):Int)))]:Env)) (fun s=>vc 4 (.slice ad6 seen8.length cp7) (s.2)::blk b [hw,ow,lw,nw,I64 (n.sink)] 339::vc 3 (.slice a fl.length c) (fl)::vc 336 (hw) (hs)::vc 3 (lw) (L)::vc 3 (nw) (nx)::vc 22 (ow) (rs)::blk b1 [I64 (n.nodes),I64 (n.source),I64 (n.sink),v] 303::(rowsI rs++I)) (fun s=>(s.1≤seen8.length)∧(s.2.length=seen8.length)∧(∀i:Nat,i<seen8.length→at_ s.2 (i:Int)=if i<s.1 then !at_ seen8 (i:Int) else at_ seen8 (i:Int))) (fun s=>seen8.length - s.1) (0,seen8) (show ((0:Nat)≤seen8.length)∧((seen8:List Bool).length=seen8.length)∧(∀i:Nat,i<seen8.length→at_ (seen8:List Bool) (i:Int)=if i<(0:Nat) then !at_ seen8 (i:Int) else at_ seen8 (i:Int)) from ⟨om,rfl,(fun i h=>by rw [if_neg om])⟩) (Ac rfl (Ac rfl (Ac rfl (Ac rfl (Ac Cb Bq))))) (show Fit κ _ (vc 4 (.slice ad6 seen8.length cp7) ((seen8))::blk b [hw,ow,lw,nw,I64 (n.sink)] 339::vc 3 (.slice a fl.length c) (fl)::vc 336 (hw) (hs)::vc 3 (lw) (L)::vc 3 (nw) (nx)::vc 22 (ow) (rs)::blk b1 [I64 (n.nodes),I64 (n.source),I64 (n.sink),v] 303::(rowsI rs++I)) from Ay) ?_))))))))))
  rintro ⟨k,sd⟩ hp
  dsimp only at hp ⊢
  obtain ⟨hk,hsl,hsd⟩:=hp
  refine Ah (Gr (Bc rfl rfl) (Af (Ao (A9 rfl (fun c45=>?_) (fun c45=>?_)))))
  ·refine A0 (Ai (Ao (Ax (Ah (Gm rfl (Ga rfl (Af (Aw (Gm rfl (Gm rfl (Gm rfl (Gm rfl (Gr (A8 (α:=Bool) (xs:=sd) C6 ty4 rfl rfl Br om oo) (Gr (Runs.getB (xs:=sd) ty4 rfl Br om oo) (Gr (Cd rfl) (Gr (A8 (α:=Bool) (xs:=sd) C6 ty4 rfl rfl Br om oo) (Ge0 (Cy (α:=Bool) (xs:=sd) (e:=4) (new:= !at_ sd (k:Int)) ty4 rfl rfl rfl om oo am) ?_)))))))))))))))))
   exact Bj (Aj (Ai (As (S5 2 3 4 43 44 rfl rfl rfl rfl rfl) (Aw (Gr (Rad rfl rfl) (Gm rfl (Bj (B6 ((k+1),(List.set sd ((k:Int)).toNat (!at_ sd (k:Int)))) (by dsimp only;exact ⟨om,(by rw [List.length_set];exact hsl),(fun i h=>by rw [Dc _ _ _ _ om om om];by_cases e:i=k;(· subst e;rw [if_pos rfl,if_pos om,hsd i h,if_neg om]);(· rw [if_neg om,hsd i h];by_cases h2:i<k;(· rw [if_pos h2,if_pos om]);(· rw [if_neg h2,if_neg om])))⟩)))))))))
  ·refine Bt (Ak (Ak (A6 (Ai (Ah (Gm rfl (Gm rfl (Gm rfl (Ga rfl (Ga rfl (Ga rfl (Af (A2 ?_)))))))))))))
   subst hfe
   exact V.ret3 rfl rfl rfl rfl (vc 4 (.slice ad6 sd.length cp7) sd::vc 3 (.slice a fl.length c) fl::I) (by rw [hsl];exact B7) ⟨a,c,fl,ad6,cp7,sd,val,by rw [hsl],⟨hfull.flow,by omega,_,hseen8.great hok hfull,fun z h0 h1=>by obtain ⟨i,rfl⟩:∃i:Nat,z=(i:Int):=⟨z.toNat,om⟩;rw [hsd i om,if_pos om]⟩,rfl⟩
def setP2(p:Pt)(j:Int)(n:Int):Pt:=if j=0 then {p with u:=n} else {p with v:=n}
section
variable {P:Program}{κ:Ctx}{N:Frm}{Q:Exit→Act→World→Prop}{L:Env}{I J:List Item}
variable {d:Option Tmp}{ty:TypeId}{ps:String}{af:Array Edge}{gd:Option (Nat×Bool)}
theorem Runs.index2{x y:Operand}{T:TypeId}{u v j:Int}(h0:∀w:World,(Instr.index T (.agg #[I64 u,I64 v]) (I64 0)).run P w = .ok (I64 u) w)(h1:∀w:World,(Instr.index T (.agg #[I64 u,I64 v]) (I64 1)).run P w = .ok (I64 v) w)
  (hx:evalO L x=some (.agg #[I64 u,I64 v])) (hy:evalO L y=some (I64 j)) (hj:j=0∨j=1):Runs P κ N ⟨d,.index T x y,ty,ps,af,gd⟩ L J (I64 (if j=0 then u else v)):=fun a w ha hs=>by
 rcases hj with rfl|rfl
 ·simp [execOp,ha.eval hx,ha.eval hy,h0]
 ·simp [execOp,ha.eval hx,ha.eval hy,h1]
theorem Runs.idxsV(α:Type)[Enc α]{x y:Operand}{T E by' n c:Nat}{ag:Bool}{z:List Value}{ad:Option Addr}{i:Int}(ht:P.underlying T=some (.slice E))(hE:tyF P E=some (Enc.sz α,ag,by',z))(hx:evalO L x=some (.slice ad n c))
  (hy:evalO L y=some (I64 i)) (ha:ad≠none) (h0:0≤i) (hn:i<n):Runs P κ N ⟨d,.indexAddr T x y,ty,ps,af,gd⟩ L J (elemPtr (.slice ad n c) (i.toNat*Enc.sz α)):=by
 cases ad with
 |none=>exact absurd rfl ha
 |some ad=>exact fun a w ha hs=>by simp [execOp,ha.eval hx,ha.eval hy,Instr.indexAt,asIntOf,run_underlying ht,h0,hn,run_sizeOf hE,elemPtr]
theorem Runs.idxElF{x y:Operand}{T E n sz m by' n' c:Nat}{ag:Bool}{z:List Value}{ad:Option Addr}{i:Int}(ht:P.underlying T=some (.array n E))(hE:tyF P E=some (sz,ag,by',z))(hx:evalO L x=some (elemPtr (.slice ad n' c) m))
  (hy:evalO L y=some (I64 i)) (ha:ad≠none) (h0:0≤i) (hn:i<n):Runs P κ N ⟨d,.indexAddr T x y,ty,ps,af,gd⟩ L J (elemPtr (.slice ad n' c) (m+i.toNat*sz)):=by
 cases ad with
 |none=>exact absurd rfl ha
 |some ad=>
  have e:(ad.add m).add (i.toNat*sz)=ad.add (m+i.toNat*sz):=by
   generalize i.toNat*sz=q
   unfold Addr.add
   by_cases h1:m=0<;>by_cases h2:q=0<;>simp [h1,h2,Nat.add_assoc]
  exact fun a w ha hs=>by simp [execOp,ha.eval hx,ha.eval hy,elemPtr,Instr.indexAt,asIntOf,run_underlying ht,h0,hn,run_sizeOf hE,Instr.sureAddr,e]
theorem Eff.setP2{xs:List Pt}{x y:Operand}{T by' e:Nat}{z:List Value}{v:Value}{i j n:Int}{I':List Item}(hT:tyF P T=some (1,false,by',z))(hx:evalO L x=some (elemPtr v (i.toNat*Enc.sz Pt+j.toNat*1)))(hy:evalO L y=some (I64 n))(hj:j=0∨j=1)
  (h0:0≤i) (hn:i<xs.length) (hat:At I (vc e v xs) (vc e v (xs.set i.toNat (setP2 (at_ xs i) j n))) I'):Eff P κ N Q ⟨none,.store T x y,ty,ps,af,gd⟩ L I fun L' I''=>L'=L∧I''=I':=by
 rcases hj with rfl|rfl
 ·exact Eff.setf (α:=Pt) (xs:=xs) (e:=e) (new:={at_ xs i with u:=n}) (j:=0) hT hx hy rfl rfl dc rfl h0 hn hat
 ·exact Eff.setf (α:=Pt) (xs:=xs) (e:=e) (new:={at_ xs i with v:=n}) (j:=1) hT hx hy rfl rfl dc rfl h0 hn hat
theorem Eff.setC2{x y:Operand}{T sz by' b E:Nat}{ag:Bool}{z:List Value}{p q j n:Int}{I':List Item}(hT:tyF P T=some (sz,ag,by',z))(hs1:sz=1)(hx:evalO L x=some (.pointer (some ⟨b,0+j.toNat*1,none⟩)))(hy:evalO L y=some (I64 n))(hj:j=0∨j=1)
  (hat:At I (blk b [I64 p,I64 q] E) (blk b [I64 (if j=0 then n else p),I64 (if j=0 then q else n)] E) I'):Eff P κ N Q ⟨none,.store T x y,ty,ps,af,gd⟩ L I fun L' I''=>L'=L∧I''=I':=by
 rcases hj with rfl|rfl
 ·exact Eff.store (vs:=[I64 n]) hT hx hy rfl (by rw [hs1];rfl) (fun u hu=>by rw [List.mem_singleton] at hu;subst hu;rfl) (by simp) rfl hat
 ·exact Eff.store (vs:=[I64 n]) hT hx hy rfl (by rw [hs1];rfl) (fun u hu=>by rw [List.mem_singleton] at hu;subst hu;rfl) (by simp) rfl hat
end
theorem ix2a(u v:Int)(w:World):(Instr.index 64 (.agg #[I64 u,I64 v]) (I64 0)).run Tryz.prog w = .ok (I64 u) w:=by kernel_rfl
theorem ix2b(u v:Int)(w:World):(Instr.index 64 (.agg #[I64 u,I64 v]) (I64 1)).run Tryz.prog w = .ok (I64 v) w:=by kernel_rfl
structure PlainP (nd:Int) (es:List Pt) (ws bs cs:List Int):Prop where
 wl:ws.length=es.length
 w1:∀i:Nat,i<es.length→at_ ws (i:Int)=1
 bl:bs.length=nd.toNat
 b0:∀i:Int,0≤i→i<nd→at_ bs i=0
 cl:cs.length=nd.toNat
 c1:∀i:Int,0≤i→i<nd→at_ cs i=1
theorem bit_mem{W:BitVec 64}{u:Int}(h0:0≤u)(h1:u<64):W &&& bitB u≠0#64↔W.getLsbD u.toNat=true:=by
 have hb:bitB u=0#64 ||| 1#64 <<< u.toNat:=by rw [BitVec.zero_or];exact bit_sh h0 h1
 rw [hb]
 constructor
 ·intro h
  obtain ⟨x,hx⟩:=nz_listB.1 h
  rw [mem_andB,mem_orbit h0 h1,C8] at hx
  rcases hx.2 with h2|h2
  ·cases h2
  ·rw [←h2];exact (mem_listB.1 hx.1).2
 ·intro h
  exact nz_listB.2 ⟨u,mem_andB.2 ⟨mem_listB.2 ⟨h0,h⟩,(mem_orbit h0 h1).2 (.inr rfl)⟩⟩
theorem bit_all{u nd:Int}(h0:0≤u)(h1:u<nd)(h2:nd≤64):(bitB u &&& allB nd) &&& ~~~0#64≠0#64:=by
 rw [BitVec.not_zero,BitVec.and_allOnes,BitVec.and_comm]
 exact (bit_mem h0 om).2 (by rw [getLsb_allB om h2 om,decide_eq_true_eq];omega)
theorem insE_yes{W:BitVec 64}{es:List Pt}{k:Nat}(hk:k<es.length)(hr:(0≤(at_ es (k:Int)).u∧(at_ es (k:Int)).u<64)∧0≤(at_ es (k:Int)).v∧(at_ es (k:Int)).v<64)(h1:W &&& bitB (at_ es (k:Int)).u≠0#64)(h2:W &&& bitB (at_ es (k:Int)).v≠0#64):insE W (es.take (k+1))=insE W (es.take k)+1:=by
 rw [insE_take hk,(bit_mem hr.1.1 hr.1.2).1 h1,(bit_mem hr.2.1 hr.2.2).1 h2];rfl
theorem insE_no{W:BitVec 64}{es:List Pt}{k:Nat}(hk:k<es.length)(hr:(0≤(at_ es (k:Int)).u∧(at_ es (k:Int)).u<64)∧0≤(at_ es (k:Int)).v∧(at_ es (k:Int)).v<64)(h:¬W &&& bitB (at_ es (k:Int)).u≠0#64∨¬W &&& bitB (at_ es (k:Int)).v≠0#64):insE W (es.take (k+1))=insE W (es.take k):=by
 rw [insE_take hk]
 rcases h with h|h
 ·rw [bit_mem hr.1.1 hr.1.2,Bool.not_eq_true] at h
  rw [h];simp
 ·rw [bit_mem hr.2.1 hr.2.2,Bool.not_eq_true] at h
  rw [h];simp
theorem flat_succ{α:Type}(f:Nat→List α)(k:Nat):(List.range (k+1)).flatMap f=(List.range k).flatMap f++f k:=by
 rw [List.range_succ,List.flatMap_append];simp
theorem Gain_ok{κ:Ctx}{I:List Item}{nd:Int}{ve vw vb vk:Value}{al:BitVec 64}{es:List Pt}{ws bs cs:List Int}(hl:Sl κ I ve es)(hw:Sl κ I vw ws)(hb:Sl κ I vb bs)(hkc:Sl κ I vk cs)(hG:GrOk nd es)(hm:es.length≤2016)(hP:PlainP nd es ws bs cs)(wb:BitVec 64)(hW:subN nd wb)(hT:TabRd κ I 0 tzCells) :
    CallS Tryz.prog κ 232 [.agg #[ve,vw,vb,vk,U64 (al),U64 (0#64)],U64 (wb)] I (fun r J=>r = .tuple #[I64 (insE wb es),I64 (cntB wb)]∧I=J):=by
 have hrng:=hG.rng
 have hwl:=hP.wl
 have hbl:=hP.bl
 have hcl:=hP.cl
 refine Ce2 Tryz.func232 rfl rfl ?_
 refine Ah (Ge1 (Bb (cs:=[_,_,_,_,_,_]) rfl rfl rfl) fun b1=>Ga rfl (Ga rfl (Af (Ao (Ah (Gf fld211_0 rfl (Gl ty46 ?_)))))))
 refine Gr (Bz (α:=Pt) (xs:=es) Bh rfl (Bf hl)) (Gm rfl (Af (Ax (Bx (σ:=Nat) (fun s=>([(1,U64 (wb)),(2,.pointer (some ⟨b1,0,none⟩)),(4,I64 (insE wb (es.take s))),(5,I64 (0)),(11,ve),(12,I64 (((es.length:Nat):Int))),(13,I64 (((s:Nat):Int)))]:Env)) (fun s=>blk b1 [ve,vw,vb,vk,U64 (al),U64 (0#64)] 211::I) (fun s=>(s≤es.length)) (fun s=>es.length - s) (0) (show ((0:Nat)≤es.length) from om) (Ac rfl (Ac rfl (Ac (Ec rfl (by first|omega|(dsimp only<;>omega)|exact insE_yes hk2 her2 g24 c31|exact (insE_yes hk2 her2 g24 c31).symm|exact insE_no hk2 her2 (.inl g24)|exact insE_no hk2 her2 (.inr c31)|exact (insE_no hk2 her2 (.inl g24)).symm|exact (insE_no hk2 her2 (.inr c31)).symm|rfl)) (Ac rfl (Ac rfl (Ac rfl (Ac (Ec rfl (by first|omega|(dsimp only<;>omega)|exact insE_yes hk2 her2 g24 c31|exact (insE_yes hk2 her2 g24 c31).symm|exact insE_no hk2 her2 (.inl g24)|exact insE_no hk2 her2 (.inr c31)|exact (insE_no hk2 her2 (.inl g24)).symm|exact (insE_no hk2 her2 (.inr c31)).symm|rfl)) Bq))))))) (show Fit κ _ (blk b1 [ve,vw,vb,vk,U64 (al),U64 (0#64)] 211::I) from Ay) ?_))))
 rintro k hp
 have hk:=hp
 have hib:=insE_bd wb (es.take k)
 have htl:(es.take k).length≤k:=by rw [List.length_take];omega
 refine Ah (Gr (Bc rfl rfl) (Af (Ao (A9 rfl (fun c14=>?_) (fun c14=>?_)))))
 ·refine A0 (Ai (Ao (Ax (Ah (Gm rfl (Gr (A8 (α:=Pt) (xs:=es) Bh ty135 rfl rfl (Bf hl) om om) ?_))))))
  have hk2:k<es.length:=by omega
  have hed:=hG.edge (at_ es (k:Int)) (Ck om om)
  have her2:(0≤(at_ es (k:Int)).u∧(at_ es (k:Int)).u<64)∧0≤(at_ es (k:Int)).v∧(at_ es (k:Int)).v<64:=by omega
  refine Gr (B0 (α:=Pt) (xs:=es) ty135 rfl (Bf hl) om om) (Ge1 (A5 ty135 rfl) fun b2=>Ga rfl (Ge0 (B1 ty135) ?_))
  refine Af (Ah (Gm rfl (Gf fld135_0 rfl (Gl ty3 ?_))))
  refine G.e (Am call237 rfl rfl (Bit_ok ((at_ es (k:Int)).u))) ?_
  rintro _ _ ⟨_,_,⟨rfl,rfl⟩,rfl,rfl⟩
  refine Gr (C0 (a:=wb) (b:=bitB ((at_ es (k:Int)).u)) rfl rfl) (Gr (D8 (a:=wb &&& (bitB ((at_ es (k:Int)).u))) (b:=0#64) rfl rfl) (Gm rfl (Bi (d:=24) rfl (fun g24=>?_) (fun g24=>?_))))
  ·refine Gro (Ad rfl) (Gro (Aa fld135_1 rfl) (Gro (Au ty3) ?_))
   refine Eu (Cv rfl rfl rfl) (Am call237 rfl rfl (Bit_ok ((at_ es (k:Int)).v))) ?_
   rintro _ _ ⟨_,_,⟨rfl,rfl⟩,rfl,rfl⟩
   refine Gro (C0 (a:=wb) (b:=bitB ((at_ es (k:Int)).v)) rfl rfl) (Gro (D8 (a:=wb &&& (bitB ((at_ es (k:Int)).v))) (b:=0#64) rfl rfl) (Gr (Ap rfl rfl) (Af (As (S9 31 6 1 2 4 5 11 12 13 rfl rfl rfl rfl rfl rfl rfl rfl rfl) (A9 rfl (fun c31=>?_) (fun c31=>?_))))))
   ·refine Aw (Gm rfl (Gf fld211_1 rfl (Gl ty22 ?_)))
    refine Gm rfl (Gr (A8 (α:=Int) (xs:=ws) Ab ty3 rfl rfl (Bf hw) om om) (Gr (B2 (xs:=ws) ty3 rfl (Bf hw) om om) ?_))
    rw [hP.w1 k hk2]
    exact Gr (Rad rfl rfl) (Ga rfl (Bj (Aj (Ai (As (S7 4 1 2 5 11 12 13 rfl rfl rfl rfl rfl rfl rfl) (Aw (Gr (Rad rfl rfl) (Gm rfl (Bj (B6 ((k+1)) om (hL:=(Ac rfl (Ac rfl (Ac (Ec rfl (by first|omega|(dsimp only<;>omega)|exact insE_yes hk2 her2 g24 c31|exact (insE_yes hk2 her2 g24 c31).symm|exact insE_no hk2 her2 (.inl g24)|exact insE_no hk2 her2 (.inr c31)|exact (insE_no hk2 her2 (.inl g24)).symm|exact (insE_no hk2 her2 (.inr c31)).symm|rfl)) (Ac rfl (Ac rfl (Ac rfl (Ac (Ec rfl (by first|omega|(dsimp only<;>omega)|exact insE_yes hk2 her2 g24 c31|exact (insE_yes hk2 her2 g24 c31).symm|exact insE_no hk2 her2 (.inl g24)|exact insE_no hk2 her2 (.inr c31)|exact (insE_no hk2 her2 (.inl g24)).symm|exact (insE_no hk2 her2 (.inr c31)).symm|rfl)) Bq))))))))))))))))))
   ·exact A0 (Aj (Ai (Aw (Gr (Rad rfl rfl) (Gm rfl (Bj (B6 ((k+1)) om (hL:=(Ac rfl (Ac rfl (Ac (Ec rfl (by first|omega|(dsimp only<;>omega)|exact insE_yes hk2 her2 g24 c31|exact (insE_yes hk2 her2 g24 c31).symm|exact insE_no hk2 her2 (.inl g24)|exact insE_no hk2 her2 (.inr c31)|exact (insE_no hk2 her2 (.inl g24)).symm|exact (insE_no hk2 her2 (.inr c31)).symm|rfl)) (Ac rfl (Ac rfl (Ac rfl (Ac (Ec rfl (by first|omega|(dsimp only<;>omega)|exact insE_yes hk2 her2 g24 c31|exact (insE_yes hk2 her2 g24 c31).symm|exact insE_no hk2 her2 (.inl g24)|exact insE_no hk2 her2 (.inr c31)|exact (insE_no hk2 her2 (.inl g24)).symm|exact (insE_no hk2 her2 (.inr c31)).symm|rfl)) Bq)))))))))))))))
  ·exact Gpo (Gpo (Gpo (Gpo (Gpo (Gpo (Gr (Av rfl rfl) (Af (As (S9 31 6 1 2 4 5 11 12 13 rfl rfl rfl rfl rfl rfl rfl rfl rfl) (Cx rfl (A0 (Aj (Ai (Aw (Gr (Rad rfl rfl) (Gm rfl (Bj (B6 ((k+1)) om (hL:=(Ac rfl (Ac rfl (Ac (Ec rfl (by first|omega|(dsimp only<;>omega)|exact insE_yes hk2 her2 g24 c31|exact (insE_yes hk2 her2 g24 c31).symm|exact insE_no hk2 her2 (.inl g24)|exact insE_no hk2 her2 (.inr c31)|exact (insE_no hk2 her2 (.inl g24)).symm|exact (insE_no hk2 her2 (.inr c31)).symm|rfl)) (Ac rfl (Ac rfl (Ac rfl (Ac (Ec rfl (by first|omega|(dsimp only<;>omega)|exact insE_yes hk2 her2 g24 c31|exact (insE_yes hk2 her2 g24 c31).symm|exact insE_no hk2 her2 (.inl g24)|exact insE_no hk2 her2 (.inr c31)|exact (insE_no hk2 her2 (.inl g24)).symm|exact (insE_no hk2 her2 (.inr c31)).symm|rfl)) Bq)))))))))))))))))))))))))
 ·refine Bt (Ak (Ak (A6 (Ai (Ao (Ah (Gm rfl ?_)))))))
  have hfull:es.take k=es:=List.take_of_length_le om
  rw [hfull]
  refine Gc2 (Am call171 rfl rfl (MList_ok wb (Cc hT A4))) fun ad3 cp4=>?_
  refine Gr (Bw Ab rfl) (Gm rfl (Af (Ax (Bx (σ:=Nat) (fun s=>([(2,.pointer (some ⟨b1,0,none⟩)),(4,I64 (insE wb es)),(5,I64 (((s:Nat):Int))),(41,.slice ad3 (listB wb).length cp4),(42,I64 ((((listB wb).length:Nat):Int))),(43,I64 (((s:Nat):Int)))]:Env)) (fun s=>vc 3 (.slice ad3 (listB wb).length cp4) (listB wb)::blk b1 [ve,vw,vb,vk,U64 (al),U64 (0#64)] 211::I) (fun s=>(s≤(listB wb).length)) (fun s=>(listB wb).length - s) (0) (show ((0:Nat)≤(listB wb).length) from om) (Ac rfl (Ac rfl (Ac (Ec rfl (by first|omega|(dsimp only<;>omega)|exact insE_yes hk2 her2 g24 c31|exact (insE_yes hk2 her2 g24 c31).symm|exact insE_no hk2 her2 (.inl g24)|exact insE_no hk2 her2 (.inr c31)|exact (insE_no hk2 her2 (.inl g24)).symm|exact (insE_no hk2 her2 (.inr c31)).symm|rfl)) (Ac rfl (Ac rfl (Ac (Ec rfl (by first|omega|(dsimp only<;>omega)|exact insE_yes hk2 her2 g24 c31|exact (insE_yes hk2 her2 g24 c31).symm|exact insE_no hk2 her2 (.inl g24)|exact insE_no hk2 her2 (.inr c31)|exact (insE_no hk2 her2 (.inl g24)).symm|exact (insE_no hk2 her2 (.inr c31)).symm|rfl)) Bq)))))) (show Fit κ _ (vc 3 (.slice ad3 (listB wb).length cp4) (listB wb)::blk b1 [ve,vw,vb,vk,U64 (al),U64 (0#64)] 211::I) from Ay) ?_))))
  rintro k hp
  have hk:=hp
  have hib:=insE_bd wb es
  have hll:=Ed wb
  have hvr:k<(listB wb).length→0≤(at_ (listB wb) (k:Int))∧(at_ (listB wb) (k:Int))<nd:=fun h=>by have hmm:=Ck (xs:=listB wb) (i:=(k:Int)) om om;have h1:=listB_lt hmm;have h2:=hW _ hmm;omega
  refine Ah (Gr (Bc rfl rfl) (Af (Ao (A9 rfl (fun c44=>?_) (fun c44=>?_)))))
  ·refine A0 (Ai (Ao (Ax (Ah (Gr (A8 (α:=Int) (xs:=listB wb) Ab ty3 rfl rfl Br om om) (Gr (B2 (xs:=listB wb) ty3 rfl Br om om) (Ga rfl ?_)))))))
   have hv2:=hvr om
   refine Af (Ah (Gm rfl (Gf fld211_2 rfl (Gl ty22 ?_))))
   refine Gm rfl (Gr (A8 (α:=Int) (xs:=bs) Ab ty3 rfl rfl (Bf hb) om om) (Gr (B2 (xs:=bs) ty3 rfl (Bf hb) om om) ?_))
   rw [hP.b0 (at_ (listB wb) (k:Int)) hv2.1 hv2.2]
   refine Gr (Rad rfl rfl) (Ga rfl (Af (As (S7 4 9 2 5 41 42 43 rfl rfl rfl rfl rfl rfl rfl) (Aw (Gm rfl (Gf fld211_3 rfl (Gl ty22 ?_)))))))
   refine Gm rfl (Gr (A8 (α:=Int) (xs:=cs) Ab ty3 rfl rfl (Bf hkc) om om) (Gr (B2 (xs:=cs) ty3 rfl (Bf hkc) om om) ?_))
   rw [hP.c1 (at_ (listB wb) (k:Int)) hv2.1 hv2.2]
   exact Gr (Rad rfl rfl) (Ga rfl (Bj (Aj (Ai (As (S6 5 4 2 41 42 43 rfl rfl rfl rfl rfl rfl) (Aw (Gr (Rad rfl rfl) (Gm rfl (Bj (B6 ((k+1)) om (hL:=(Ac rfl (Ac (Ec rfl (by first|omega|(dsimp only<;>omega)|exact insE_yes hk2 her2 g24 c31|exact (insE_yes hk2 her2 g24 c31).symm|exact insE_no hk2 her2 (.inl g24)|exact insE_no hk2 her2 (.inr c31)|exact (insE_no hk2 her2 (.inl g24)).symm|exact (insE_no hk2 her2 (.inr c31)).symm|rfl)) (Ac (Ec rfl (by first|omega|(dsimp only<;>omega)|exact insE_yes hk2 her2 g24 c31|exact (insE_yes hk2 her2 g24 c31).symm|exact insE_no hk2 her2 (.inl g24)|exact insE_no hk2 her2 (.inr c31)|exact (insE_no hk2 her2 (.inl g24)).symm|exact (insE_no hk2 her2 (.inr c31)).symm|rfl)) (Ac rfl (Ac rfl (Ac (Ec rfl (by first|omega|(dsimp only<;>omega)|exact insE_yes hk2 her2 g24 c31|exact (insE_yes hk2 her2 g24 c31).symm|exact insE_no hk2 her2 (.inl g24)|exact insE_no hk2 her2 (.inr c31)|exact (insE_no hk2 her2 (.inl g24)).symm|exact (insE_no hk2 her2 (.inr c31)).symm|rfl)) Bq)))))))))))))))))
  ·refine Bt (Ak (Ak (A6 (Ai (Ah (Gm rfl (Gm rfl (Ga rfl (Ga rfl (Af (A2 ?_)))))))))))
   have hkk:(k:Int)=cntB wb:=by unfold cntB;omega
   exact C9 rfl rfl rfl (I) A4 ⟨by rw [hkk],rfl⟩
theorem Arc_ok{κ:Ctx}{I:List Item}{b:Nat}{nn:Int}{a:Option Addr}{c:Nat}{arcs:List Arc}(f t m:Int)(hlen:arcs.length≤100000) :
    CallS Tryz.prog κ 281 [I64 (f),I64 (t),I64 (m),.pointer (some ⟨b,0,none⟩)] (blk b [I64 (nn),I64 (0),I64 (1),.slice a arcs.length c] 303::vc 305 (.slice a arcs.length c) (arcs)::I) (fun r J=>∃a2 c2,r=I64 ((arcs.length:Nat):Int)∧J=blk b [I64 nn,I64 0,I64 1,.slice a2 (arcs++[(⟨f,t,m⟩:Arc)]).length c2] 303::vc 305 (.slice a2 (arcs++[(⟨f,t,m⟩:Arc)]).length c2) (arcs++[(⟨f,t,m⟩:Arc)])::I):=by
 refine Ce4 Tryz.func281 rfl rfl ?_
 refine Ah (Ga rfl (Af (Ah (Gf fld303_3 rfl (Gl ty301 ?_)))))
 refine Gm rfl (Gm rfl (Gm rfl (Gr (Be (cells:=[_,_,_]) ty305 Tryz.underlying305 pl305 rfl rfl) (Ge1 (B9 (α:=Arc) (cs:=[_,_,_]) (xs:=[⟨f,t,m⟩]) Df ty305 rfl rfl dc dc rfl rfl rfl rfl) fun ad1=>?_))))
 refine Ge2 (Ca (α:=Arc) (e:=305) (xs:=arcs) (ys:=([⟨f,t,m⟩]:List Arc)) Df ty305 rfl rfl rfl mm Br lcn dc rfl (fun _ _=>am)) fun ad2 cp3=>?_
 refine Gf fld303_3 rfl (Ge0 (Ci (cs:=[_,_,_,_]) (vs:=[_]) (cs':=[_,_,_,_]) ty301) ?_)
 refine Af (As (S1 3 rfl) (Ah (Gf fld303_3 rfl (Gl ty301 ?_))))
 refine Gr (Bw Df rfl) (Gr (Runs.sub rfl rfl (by unfold InR;simp only [List.length_append,List.length_cons,List.length_nil];omega)) (Ga rfl (Af (A2 ?_))))
 have hal:(((arcs++[(⟨f,t,m⟩:Arc)]).length:Nat):Int) - 1=((arcs.length:Nat):Int):=by simp only [List.length_append,List.length_cons,List.length_nil];omega
 exact A7 rfl rfl (blk b [I64 nn,I64 0,I64 1,.slice ad2 (arcs++[(⟨f,t,m⟩:Arc)]).length cp3] 303::vc 305 (.slice ad2 (arcs++[(⟨f,t,m⟩:Arc)]).length cp3) (arcs++[(⟨f,t,m⟩:Arc)])::I) B7 ⟨ad2,cp3,by rw [hal],rfl⟩
theorem Part_ok{κ:Ctx}{I:List Item}{ve vw vb vk vf:Value}{al:BitVec 64}{fl:List Int}{p q i total:Int}(hf:Sl κ I vf fl)(hp:p<fl.length)(hq:q<fl.length)(hb:∀x∈fl,0≤x∧x≤4096)(ht:0≤total∧total≤4096) :
    CallS Tryz.prog κ 283 [.agg #[ve,vw,vb,vk,U64 (al),U64 (0#64)],I64 (i),.agg #[I64 (p),I64 (q)],vf,I64 (total)] I (fun r J=>∃x:Int,r=I64 x∧I=J):=by
 refine Ce5 Tryz.func283 rfl rfl ?_
 refine Ah (Ge1 (Bb (cs:=[_,_,_,_,_,_]) rfl rfl rfl) fun b1=>Ge1 (Bb (cs:=[_,_]) rfl rfl rfl) fun b2=>Ga rfl (Af (Ah (Ge1 (A5 ty64 rfl) fun b3=>Af (Ao (Ah (Gl2 ty64 ?_)))))))
 refine Gm rfl (Af (Ax (Bx (σ:=Nat×Int×Int) (fun s=>([(3,vf),(4,I64 (total)),(7,.pointer (some ⟨b2,0,none⟩)),(11,.pointer (some ⟨b3,0,none⟩)),(15,.agg #[I64 (p),I64 (q)]),(16,I64 (((s.1:Nat):Int)))]:Env)) (fun s=>blk b3 [I64 (s.2.1),I64 (s.2.2)] 64::blk b2 [I64 (p),I64 (q)] 64::blk b1 [ve,vw,vb,vk,U64 (al),U64 (0#64)] 211::I) (fun s=>(s.1≤2)∧(0≤s.2.1∧s.2.1≤4096)∧(0≤s.2.2∧s.2.2≤4096)) (fun s=>2 - s.1) (0,0,0) (show ((0:Nat)≤2)∧(0≤(0:Int)∧(0:Int)≤4096)∧(0≤(0:Int)∧(0:Int)≤4096) from ⟨om,om,om⟩) (Ac rfl (Ac rfl (Ac rfl (Ac rfl (Ac rfl (Ac Cb Bq)))))) (show Fit κ _ (blk b3 [I64 ((0)),I64 ((0))] 64::blk b2 [I64 (p),I64 (q)] 64::blk b1 [ve,vw,vb,vk,U64 (al),U64 (0#64)] 211::I) from Ay) ?_)))
 rintro ⟨j,e0,e1⟩ hp
 dsimp only at hp ⊢
 obtain ⟨hj,he0,he1⟩:=hp
 have hpq:(if (j:Int)=0 then p else q)<fl.length:=by split<;>assumption
 refine Ah (Gr (Bc rfl rfl) (Af (Ao (A9 rfl (fun c17=>?_) (fun c17=>?_)))))
 ·refine A0 (Ai (Ao (Ax (Ah (Gm rfl (Gr (Runs.index2 (ix2a _ _) (ix2b _ _) rfl rfl om) (Ga rfl (Ga rfl (Af (Ah (Gm rfl (Gr (Cg rfl rfl) (Af (A9 rfl (fun c21=>?_) (fun c21=>?_)))))))))))))))
  ·refine Aw (Gm rfl (Gm rfl (Gm rfl (Gr (A8 (α:=Int) (xs:=fl) Ab ty3 rfl rfl (Bf hf) om om) (Gr (B2 (xs:=fl) ty3 rfl (Bf hf) om om) ?_)))))
   have hvx:=hb _ (Ck (xs:=fl) (i:=(if (j:Int)=0 then p else q)) om om)
   generalize at_ fl (if (j:Int)=0 then p else q)=xv at hvx ⊢
   refine Gr (D5 Co ty2 rfl rfl om om) (Ge0 (Eff.setC2 (p:=e0) (q:=e1) (j:=(j:Int)) (n:=xv) ty3 rfl rfl rfl om am) ?_)
   exact Bj (Aj (Ai (As (S6 3 4 7 11 15 16 rfl rfl rfl rfl rfl rfl) (Aw (Gr (Rad rfl rfl) (Gm rfl (Bj (B6 ((j+1),(if (j:Int)=0 then xv else e0),(if (j:Int)=0 then e1 else xv)) (by dsimp only;exact ⟨om,(by first|exact he0|(split<;>first|exact he0|exact hvx)),(by first|exact he1|(split<;>first|exact he1|exact hvx))⟩)))))))))
  ·exact A0 (Aj (Ai (Aw (Gr (Rad rfl rfl) (Gm rfl (Bj (B6 ((j+1),(e0),(e1)) (by dsimp only;exact ⟨om,(by first|exact he0|(split<;>first|exact he0|exact hvx)),(by first|exact he1|(split<;>first|exact he1|exact hvx))⟩))))))))
 ·refine Bt (Ak (Ak (A6 (Ai (Ah (Gm rfl (Gr (D5 Co ty2 rfl rfl om om) (Gl ty3 ?_))))))))
  refine Gr (Rsu rfl rfl) (Gr (D5 Co ty2 rfl rfl om om) (Gl ty3 ?_))
  refine Gr (Rsu rfl rfl) (Ga rfl (Af (As (S3 14 7 11 rfl rfl rfl) (Ao (Ah (Gr (D5 Co ty2 rfl rfl om om) (Gl ty3 ?_)))))))
  refine Gr (Cg rfl rfl) (Gm rfl (Bi (d:=39) rfl (fun g39=>?_) (fun g39=>?_)))
  ·refine Gro (D5 Co ty2 rfl rfl om om) (Gro (Au ty3) ?_)
   refine Gro (Bc rfl rfl) (Gr (Ap rfl rfl) (Af (A9 rfl (fun c43=>?_) (fun c43=>?_))))
   ·refine Aw (Ga rfl (Af (Ah (Gr (D5 Co ty2 rfl rfl om om) (Gl ty3 ?_)))))
    exact Gm rfl (Gr (Rad rfl rfl) (Ga rfl (Af (As (S1 10 rfl) (A2 (A7 rfl rfl (I) A4 ⟨_,rfl,rfl⟩))))))
   ·refine A0 (Ai (Ah (Gr (D5 Co ty2 rfl rfl om om) (Gl ty3 ?_))))
    exact Gm rfl (Gr (Rad rfl rfl) (Ga rfl (Af (As (S1 10 rfl) (A2 (A7 rfl rfl (I) A4 ⟨_,rfl,rfl⟩))))))
  ·refine Gpo (Gpo (Gpo (Gr (Av rfl rfl) (Af (Cx rfl (A0 (Ai (Ah (Gr (D5 Co ty2 rfl rfl om om) (Gl ty3 ?_))))))))))
   exact Gm rfl (Gr (Rad rfl rfl) (Ga rfl (Af (As (S1 10 rfl) (A2 (A7 rfl rfl (I) A4 ⟨_,rfl,rfl⟩))))))
end Go.Sl
