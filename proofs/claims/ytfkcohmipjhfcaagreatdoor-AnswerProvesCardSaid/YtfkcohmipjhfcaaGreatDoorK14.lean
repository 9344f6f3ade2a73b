/- A part of the proofs of statements of this seat: contracts of functions, and the plain laws that they lean on. No conditions. -/
import Derived.Test.YtfkcohmipjhfcaaGreatDoorK13
import Derived.ScopeJumps
set_option linter.unusedVariables false
set_option linter.unusedSimpArgs false
set_option linter.unusedSectionVars false
open Go.Proofs.Tryz (prog)
namespace Go.Sl
open Go.Proofs
set_option maxRecDepth 4000
variable {κ:Ctx}{I:List Item}
theorem eqt177:EqT prog 177 Wd:=EqT.flatU (λp:Wd=>[p.hi,p.lo]) (λ_=>rfl) (λx y h=>by cases x;cases y;simpa using h) (n:=2) (λ_=>rfl) kr kr kr kr kr
theorem wd_zero{y:Int}:(⟨0,y⟩:Wd)=⟨0,0⟩↔y=0:=by rw [Wd.mk.injEq];exact ⟨λh=>h.2,λh=>⟨rfl,h⟩⟩
theorem mkF_zero{b:Int}(h:0<b):mkF 0 b=⟨0,1⟩:=by
 have e:gcdI 0 b=b:=by unfold gcdI;simp;omega
 unfold mkF;rw [e,Int.zero_ediv,Int.ediv_self om]
theorem gcdI_mod{a b:Int}(h0:0<=a)(h1:0<b):gcdI b (a % b)=gcdI a b:=by
 rw [←gcdI_step h0 h1,Int.tmod_eq_emod_of_nonneg h0]
theorem WDouble_ok(n:Int)(h:0<=n/\n<9223372036854775808):eu prog κ 278 [.agg #[.int .u64 0,.int .u64 n]] I (λr J=>r = .agg #[.int .u64 0,.int .u64 (2*n)]/\I=J):=by
 refine Ce1 Tryz.func278 C C ?_
 refine Ai (Ge1 (A9 (cs:=[_,_]) C C C) λb1=>Ge1 (Au ty177 C) λb2=>Af (Ai (Gf fld177_0 C (Gl ty175 ?_))))
 refine Gr (Runs.shlU (m:=0) C C dc dc) (Gf fld177_1 C (Gl ty175 ?_))
 refine Gr (Runs.shr63 (m:=n) C C om om) (Gr (Runs.orZ C C) (Gf fld177_1 C (Gl ty175 ?_)))
 refine Gr (Runs.shlU (m:=n) C C om om) (Gr (Bc (cells:=[_,_]) ty177 Cz pl177 C C) (Ge0 (Bq ty177) ?_))
 exact Af (Aq (S1 2 C) (A2 (C5 C ty177 C mm C I A3 ⟨rfl,rfl⟩)))
theorem WLess_ok(a b:Int):eu prog κ 124 [.agg #[.int .u64 0,.int .u64 a],.agg #[.int .u64 0,.int .u64 b]] I (λr J=>r = .bool (decide (a<b))/\I=J):=by
 refine Ce2 Tryz.func124 C C ?_
 refine Ai (Ge1 (A9 (cs:=[_,_]) C C C) λb1=>Ge1 (A9 (cs:=[_,_]) C C C) λb2=>Ga C (Af (Ai (Gf fld177_0 C (Gl ty175 ?_)))))
 refine Gf fld177_0 C (Gl ty175 ?_)
 refine Gr (A7 C C) (Gm C (Bg (d:=10) C (λg10=>?_) (λg10=>?_)))
 ·exact absurd g10 om
 ·refine e9 (Ab fld177_0 C) (e9 (As ty175) ?_)
  refine e9 (Ab fld177_0 C) (e9 (As ty175) ?_)
  refine e9 (Bu C C) (e9 (Ad C) (Bg (d:=16) C (λg16=>?_) (λg16=>?_)))
  ·refine e9 (Ab fld177_1 C) (e9 (As ty175) ?_)
   refine e9 (Ab fld177_1 C) (e9 (As ty175) ?_)
   exact e9 (A7 C C) (e9 (Ar C C) (Gr (Ao C C) (Ga C (Af (Aq (S1 4 C) (A2 (A6 C C I A3 ⟨rfl,rfl⟩)))))))
  ·exact absurd rfl g16
theorem WSub_ok(a b:Int)(h:0<=b/\b<=a/\a<9223372036854775808):eu prog κ 279 [.agg #[.int .u64 0,.int .u64 a],.agg #[.int .u64 0,.int .u64 b]] I (λr J=>r = .agg #[.int .u64 0,.int .u64 (a - b)]/\I=J):=by
 refine Ce2 Tryz.func279 C C ?_
 refine Ai (Ge1 (A9 (cs:=[_,_]) C C C) λb1=>Ge1 (A9 (cs:=[_,_]) C C C) λb2=>Ge1 (Au ty177 C) λb3=>Af (Ai (Gf fld177_0 C (Gl ty175 ?_))))
 refine Gf fld177_0 C (Gl ty175 ?_)
 refine Gr (Runs.subU (m:=0) (n:=0) C C dc dc dc) (Ga C (Af (Ap (Ai (Gf fld177_1 C (Gl ty175 ?_))))))
 refine Gf fld177_1 C (Gl ty175 ?_)
 refine Gr (A7 C C) (Af (Aq (S5 15 5 4 3 2 C C C C C) (A8 C (λc15=>?_) (λc15=>?_))))
 ·exact absurd c15 om
 ·refine Ay (Aj (Ai (Gm C (Gf fld177_1 C (Gl ty175 ?_)))))
  refine Gf fld177_1 C (Gl ty175 ?_)
  refine Gr (Runs.subU (m:=a) (n:=b) C C om om om) (Gr (Bc (cells:=[_,_]) ty177 Cz pl177 C C) (Ge0 (Bq ty177) ?_))
  exact Af (A2 (C5 C ty177 C mm C I A3 ⟨rfl,rfl⟩))
set_option maxHeartbeats 1000000 in
theorem WDivide_ok(a b:Int)(h0:0<=a/\a<=1152921504606846976)(h1:0<b/\b<=1152921504606846976):eu prog κ 228 [.agg #[.int .u64 0,.int .u64 a],.agg #[.int .u64 0,.int .u64 b]] I (λr J=>r = .tuple #[.agg #[.int .u64 0,.int .u64 (a / b)],.agg #[.int .u64 0,.int .u64 (a % b)]]/\I=J):=by
 refine Ce2 Tryz.func228 C C ?_
 refine Ai (Ge1 (A9 (cs:=[_,_]) C C C) λb1=>Ge1 (A9 (cs:=[_,_]) C C C) λb2=>Ge1 (Au ty177 C) λb3=>Ge1 (Au ty177 C) λb4=>Af (Ai (Ge1 (Au ty177 C) λb5=>Ge1 (Au ty177 C) λb6=>Af (Ap (Ai (Ga C (Af (A0 (B1 (σ:=Int×Int×Int) (λs=>([(2,.pointer (some ⟨b1,0,none⟩)),(3,.pointer (some ⟨b2,0,none⟩)),(4,.pointer (some ⟨b3,0,none⟩)),(5,.pointer (some ⟨b4,0,none⟩)),(6,.pointer (some ⟨b5,0,none⟩)),(7,.pointer (some ⟨b6,0,none⟩)),(8,e7 (s.1))]:Env)) (λs=>e8 b6 [.int .u64 0,.int .u64 (s.2.2)] 177::e8 b5 [.int .u64 0,.int .u64 (s.2.1)] 177::e8 b4 [.int .u64 0,.int .u64 0] 177::e8 b3 [.int .u64 0,.int .u64 0] 177::e8 b2 [.int .u64 0,.int .u64 b] 177::e8 b1 [.int .u64 0,.int .u64 a] 177::I) (λs=>(-1<=s.1/\s.1<=127)/\(0<=s.2.2/\s.2.2<b)/\(0<=s.2.1)/\(a / 2 ^ (s.1+1).toNat=s.2.1*b+s.2.2)) (λs=>(s.1+1).toNat) (127,0,0) (show (-1<=(127:Int)/\(127:Int)<=127)/\(0<=(0:Int)/\(0:Int)<b)/\(0<=(0:Int))/\(a / 2 ^ ((127:Int)+1).toNat=(0:Int)*b+(0:Int)) from ⟨om,om,om,(div_start h0.1 om)⟩) (Aa C (Aa C (Aa C (Aa C (Aa C (Aa C (Aa Ca Bp))))))) (show Fit κ _ (e8 b6 [.int .u64 0,.int .u64 ((0))] 177::e8 b5 [.int .u64 0,.int .u64 ((0))] 177::e8 b4 [.int .u64 0,.int .u64 0] 177::e8 b3 [.int .u64 0,.int .u64 0] 177::e8 b2 [.int .u64 0,.int .u64 b] 177::e8 b1 [.int .u64 0,.int .u64 a] 177::I) from A1) ?_)))))))))
 rintro ⟨i,qq,rr⟩ hp
 dsimp only at hp ⊢
 obtain ⟨hi,hr,hq,hd⟩:=hp
 have hqa:=div_bd h0.1 hd hr.1 h1.1 hq
 have hbt:=bitA_two a i
 have hbh:63<=i->bitA a i=0:=bitA_high h0.1 om
 refine Ap (Ai (Gm C (Gr (B9 C C) (Af (A8 C (λc10=>?_) (λc10=>?_))))))
 ·refine Ay (Aj (Ap (A0 (Ai (Gl2 ty177 ?_)))))
  refine G.e (Ah call278 C C (WDouble_ok rr om)) ?_
  rintro _ _ ⟨_,_,⟨rfl,rfl⟩,rfl,rfl⟩
  refine Ge0 (Bq ty177) ?_
  refine Af (Ap (Ai (Gm C (Gr (B9 C C) (Gm C (Bg (d:=17) C (λg17=>?_) (λg17=>?_)))))))
  ·refine e9 (Ab fld177_0 C) (e9 (As ty175) ?_)
   refine e9 (Ad C) (e9 (Rsu C C) (e9 (Dv Bj Dh C om) (e9 (Runs.zeroU C C om om) (e9 (Runs.zand C C) (e9 (Bu C C) (Gr (Ar C C) (Gm C (Bg (d:=27) C (λg27=>?_) (λg27=>?_)))))))))
   ·exact absurd g27 om
   ·refine e9 (Ad C) (e9 (A7 C C) (e9 (Ad C) (Bg (d:=30) C (λg30=>?_) (λg30=>?_))))
    ·refine e9 (Ab fld177_1 C) (e9 (As ty175) ?_)
     refine e9 (Ad C) (e9 (Dv Bj Dh C om) (e9 (Runs.shrU (m:=a) C C om om) (e9 (Runs.bitU (a:=a) (i:=i) C C om om) (e9 (Bu C C) (e9 (Ar C C) (Gr (Ao C C) (Af (Aq (S8 39 2 3 4 5 6 7 8 C C C C C C C C) (A8 C (λc39=>?_) (λc39=>?_))))))))))
     ·refine Ax (Gf fld177_1 C (Gl ty175 ?_))
      refine Gr (Es (m:=rr) C C om om) (Gf fld177_1 C (Ge0 (Eq ty175) ?_))
      refine Af (Ai (Gl2 ty177 ?_))
      refine G.e (Ah call278 C C (WDouble_ok qq om)) ?_
      rintro _ _ ⟨_,_,⟨rfl,rfl⟩,rfl,rfl⟩
      refine Ge0 (Bq ty177) ?_
      refine Af (Aq (S7 2 3 4 5 6 7 8 C C C C C C C) (Ai (Gl2 ty177 ?_)))
      refine Gl2 ty177 ?_
      refine Gc0 (Ah call124 C C (WLess_ok (2*rr+1) b)) ?_
      refine Gr (Dp C) (Af (A8 C (λc49=>?_) (λc49=>?_)))
      ·refine Ai (Gl2 ty177 ?_)
       refine Gl2 ty177 ?_
       refine Gc0 (Ah call279 C C (WSub_ok (2*rr+1) b om)) ?_
       refine Ge0 (Bq ty177) ?_
       refine Af (Aq (S7 2 3 4 5 6 7 8 C C C C C C C) (Ax (Gf fld177_1 C (Gl ty175 ?_))))
       refine Gr (Es (m:=qq) C C om om) (Gf fld177_1 C (Ge0 (Eq ty175) ?_))
       exact Bi (Ak (Aj (Ax (Gm C (Gr (Rsu C C) (Ga C (Bi (B5 ((i - 1),(2*qq+1),((2*rr+1) - b)) (by dsimp only;exact ⟨om,om,om,(by first|exact E3 h0.1 hd om om|exact E1 h0.1 hd om om)⟩)))))))))
      ·exact Ay (Ak (Aj (Ax (Gm C (Gr (Rsu C C) (Ga C (Bi (B5 ((i - 1),(2*qq),(2*rr+1)) (by dsimp only;exact ⟨om,om,om,(by first|exact E3 h0.1 hd om om|exact E1 h0.1 hd om om)⟩)))))))))
     ·refine Ay (Aj (Ai (Gl2 ty177 ?_)))
      refine G.e (Ah call278 C C (WDouble_ok qq om)) ?_
      rintro _ _ ⟨_,_,⟨rfl,rfl⟩,rfl,rfl⟩
      refine Ge0 (Bq ty177) ?_
      refine Af (Ai (Gl2 ty177 ?_))
      refine Gl2 ty177 ?_
      refine Gc0 (Ah call124 C C (WLess_ok (2*rr) b)) ?_
      refine Gr (Dp C) (Af (Aq (S8 49 2 3 4 5 6 7 8 C C C C C C C C) (A8 C (λc49=>?_) (λc49=>?_))))
      ·refine Ai (Gl2 ty177 ?_)
       refine Gl2 ty177 ?_
       refine Gc0 (Ah call279 C C (WSub_ok (2*rr) b om)) ?_
       refine Ge0 (Bq ty177) ?_
       refine Af (Ax (Gf fld177_1 C (Gl ty175 ?_)))
       refine Gr (Es (m:=qq) C C om om) (Gf fld177_1 C (Ge0 (Eq ty175) ?_))
       exact Bi (Ak (Aj (Aq (S7 2 3 4 5 6 7 8 C C C C C C C) (Ax (Gm C (Gr (Rsu C C) (Ga C (Bi (B5 ((i - 1),(2*qq+1),((2*rr) - b)) (by dsimp only;exact ⟨om,om,om,(by first|exact E3 h0.1 hd om om|exact E1 h0.1 hd om om)⟩))))))))))
      ·exact Ay (Ak (Aj (Ax (Gm C (Gr (Rsu C C) (Ga C (Bi (B5 ((i - 1),(2*qq),(2*rr)) (by dsimp only;exact ⟨om,om,om,(by first|exact E3 h0.1 hd om om|exact E1 h0.1 hd om om)⟩)))))))))
    ·refine eb (eb (eb (eb (eb (eb (eb (e9 (Ao C C) (Gr (Ao C C) (Af (Aq (S8 39 2 3 4 5 6 7 8 C C C C C C C C) (C2 C (Ay (Aj (Ai (Gl2 ty177 ?_)))))))))))))))
     refine G.e (Ah call278 C C (WDouble_ok qq om)) ?_
     rintro _ _ ⟨_,_,⟨rfl,rfl⟩,rfl,rfl⟩
     refine Ge0 (Bq ty177) ?_
     refine Af (Ai (Gl2 ty177 ?_))
     refine Gl2 ty177 ?_
     refine Gc0 (Ah call124 C C (WLess_ok (2*rr) b)) ?_
     refine Gr (Dp C) (Af (Aq (S8 49 2 3 4 5 6 7 8 C C C C C C C C) (A8 C (λc49=>?_) (λc49=>?_))))
     ·refine Ai (Gl2 ty177 ?_)
      refine Gl2 ty177 ?_
      refine Gc0 (Ah call279 C C (WSub_ok (2*rr) b om)) ?_
      refine Ge0 (Bq ty177) ?_
      refine Af (Ax (Gf fld177_1 C (Gl ty175 ?_)))
      refine Gr (Es (m:=qq) C C om om) (Gf fld177_1 C (Ge0 (Eq ty175) ?_))
      exact Bi (Ak (Aj (Aq (S7 2 3 4 5 6 7 8 C C C C C C C) (Ax (Gm C (Gr (Rsu C C) (Ga C (Bi (B5 ((i - 1),(2*qq+1),((2*rr) - b)) (by dsimp only;exact ⟨om,om,om,(by first|exact E3 h0.1 hd om om|exact E1 h0.1 hd om om)⟩))))))))))
     ·exact Ay (Ak (Aj (Ax (Gm C (Gr (Rsu C C) (Ga C (Bi (B5 ((i - 1),(2*qq),(2*rr)) (by dsimp only;exact ⟨om,om,om,(by first|exact E3 h0.1 hd om om|exact E1 h0.1 hd om om)⟩)))))))))
  ·refine eb (eb (eb (eb (eb (eb (eb (eb (Gr (Ao C C) (Gm C (e9 (Ad C) (e9 (A7 C C) (e9 (Ad C) (Bg (d:=30) C (λg30=>?_) (λg30=>?_))))))))))))))
   ·refine e9 (Ab fld177_1 C) (e9 (As ty175) ?_)
    refine e9 (Ad C) (e9 (Dv Bj Dh C om) (e9 (Runs.shrU (m:=a) C C om om) (e9 (Runs.bitU (a:=a) (i:=i) C C om om) (e9 (Bu C C) (e9 (Ar C C) (Gr (Ao C C) (Af (Aq (S8 39 2 3 4 5 6 7 8 C C C C C C C C) (A8 C (λc39=>?_) (λc39=>?_))))))))))
    ·refine Ax (Gf fld177_1 C (Gl ty175 ?_))
     refine Gr (Es (m:=rr) C C om om) (Gf fld177_1 C (Ge0 (Eq ty175) ?_))
     refine Af (Ai (Gl2 ty177 ?_))
     refine G.e (Ah call278 C C (WDouble_ok qq om)) ?_
     rintro _ _ ⟨_,_,⟨rfl,rfl⟩,rfl,rfl⟩
     refine Ge0 (Bq ty177) ?_
     refine Af (Aq (S7 2 3 4 5 6 7 8 C C C C C C C) (Ai (Gl2 ty177 ?_)))
     refine Gl2 ty177 ?_
     refine Gc0 (Ah call124 C C (WLess_ok (2*rr+1) b)) ?_
     refine Gr (Dp C) (Af (A8 C (λc49=>?_) (λc49=>?_)))
     ·refine Ai (Gl2 ty177 ?_)
      refine Gl2 ty177 ?_
      refine Gc0 (Ah call279 C C (WSub_ok (2*rr+1) b om)) ?_
      refine Ge0 (Bq ty177) ?_
      refine Af (Aq (S7 2 3 4 5 6 7 8 C C C C C C C) (Ax (Gf fld177_1 C (Gl ty175 ?_))))
      refine Gr (Es (m:=qq) C C om om) (Gf fld177_1 C (Ge0 (Eq ty175) ?_))
      exact Bi (Ak (Aj (Ax (Gm C (Gr (Rsu C C) (Ga C (Bi (B5 ((i - 1),(2*qq+1),((2*rr+1) - b)) (by dsimp only;exact ⟨om,om,om,(by first|exact E3 h0.1 hd om om|exact E1 h0.1 hd om om)⟩)))))))))
     ·exact Ay (Ak (Aj (Ax (Gm C (Gr (Rsu C C) (Ga C (Bi (B5 ((i - 1),(2*qq),(2*rr+1)) (by dsimp only;exact ⟨om,om,om,(by first|exact E3 h0.1 hd om om|exact E1 h0.1 hd om om)⟩)))))))))
    ·refine Ay (Aj (Ai (Gl2 ty177 ?_)))
     refine G.e (Ah call278 C C (WDouble_ok qq om)) ?_
     rintro _ _ ⟨_,_,⟨rfl,rfl⟩,rfl,rfl⟩
     refine Ge0 (Bq ty177) ?_
     refine Af (Ai (Gl2 ty177 ?_))
     refine Gl2 ty177 ?_
     refine Gc0 (Ah call124 C C (WLess_ok (2*rr) b)) ?_
     refine Gr (Dp C) (Af (Aq (S8 49 2 3 4 5 6 7 8 C C C C C C C C) (A8 C (λc49=>?_) (λc49=>?_))))
     ·refine Ai (Gl2 ty177 ?_)
      refine Gl2 ty177 ?_
      refine Gc0 (Ah call279 C C (WSub_ok (2*rr) b om)) ?_
      refine Ge0 (Bq ty177) ?_
      refine Af (Ax (Gf fld177_1 C (Gl ty175 ?_)))
      refine Gr (Es (m:=qq) C C om om) (Gf fld177_1 C (Ge0 (Eq ty175) ?_))
      exact Bi (Ak (Aj (Aq (S7 2 3 4 5 6 7 8 C C C C C C C) (Ax (Gm C (Gr (Rsu C C) (Ga C (Bi (B5 ((i - 1),(2*qq+1),((2*rr) - b)) (by dsimp only;exact ⟨om,om,om,(by first|exact E3 h0.1 hd om om|exact E1 h0.1 hd om om)⟩))))))))))
     ·exact Ay (Ak (Aj (Ax (Gm C (Gr (Rsu C C) (Ga C (Bi (B5 ((i - 1),(2*qq),(2*rr)) (by dsimp only;exact ⟨om,om,om,(by first|exact E3 h0.1 hd om om|exact E1 h0.1 hd om om)⟩)))))))))
   ·refine eb (eb (eb (eb (eb (eb (eb (e9 (Ao C C) (Gr (Ao C C) (Af (Aq (S8 39 2 3 4 5 6 7 8 C C C C C C C C) (C2 C (Ay (Aj (Ai (Gl2 ty177 ?_)))))))))))))))
    refine G.e (Ah call278 C C (WDouble_ok qq om)) ?_
    rintro _ _ ⟨_,_,⟨rfl,rfl⟩,rfl,rfl⟩
    refine Ge0 (Bq ty177) ?_
    refine Af (Ai (Gl2 ty177 ?_))
    refine Gl2 ty177 ?_
    refine Gc0 (Ah call124 C C (WLess_ok (2*rr) b)) ?_
    refine Gr (Dp C) (Af (Aq (S8 49 2 3 4 5 6 7 8 C C C C C C C C) (A8 C (λc49=>?_) (λc49=>?_))))
    ·refine Ai (Gl2 ty177 ?_)
     refine Gl2 ty177 ?_
     refine Gc0 (Ah call279 C C (WSub_ok (2*rr) b om)) ?_
     refine Ge0 (Bq ty177) ?_
     refine Af (Ax (Gf fld177_1 C (Gl ty175 ?_)))
     refine Gr (Es (m:=qq) C C om om) (Gf fld177_1 C (Ge0 (Eq ty175) ?_))
     exact Bi (Ak (Aj (Aq (S7 2 3 4 5 6 7 8 C C C C C C C) (Ax (Gm C (Gr (Rsu C C) (Ga C (Bi (B5 ((i - 1),(2*qq+1),((2*rr) - b)) (by dsimp only;exact ⟨om,om,om,(by first|exact E3 h0.1 hd om om|exact E1 h0.1 hd om om)⟩))))))))))
    ·exact Ay (Ak (Aj (Ax (Gm C (Gr (Rsu C C) (Ga C (Bi (B5 ((i - 1),(2*qq),(2*rr)) (by dsimp only;exact ⟨om,om,om,(by first|exact E3 h0.1 hd om om|exact E1 h0.1 hd om om)⟩)))))))))
 ·refine Bv (Al (Al (A5 (Aj (Ap (Bl mixed (Bt (e8 b6 [.int .u64 0,.int .u64 rr] 177::e8 b5 [.int .u64 0,.int .u64 qq] 177::e8 b2 [.int .u64 0,.int .u64 b] 177::e8 b1 [.int .u64 0,.int .u64 a] 177::I) 2 (Dr 0 C (Bd (vs:=[_,_]) ty177) ?_))))))))
  refine Cj (rs:=[1,2]) kr C C (Dg ?_ (Ds ?_))
  ·refine Sr C (Bd (vs:=[_,_]) ty177) A1 ?_
   refine C0 kr ?_
   refine Ae 2 C (Bq ty177) ?_
   rintro _ _ ⟨rfl,rfl⟩
   refine Ae 3 C (Bq ty177) ?_
   rintro _ _ ⟨rfl,rfl⟩
   refine C1 kr ?_
   refine Aj (A2 ?_)
   obtain ⟨hE1,hE2⟩:=div_end hd om hr.1 hr.2
   subst hE1 hE2
   exact V.retcc C ty177 ty177 C C mm mm C C I A3 ⟨rfl,rfl⟩
  ·refine Se0 C (Bq ty177) ?_
   refine Ds1 1 (Sr C (Bd (vs:=[_,_]) ty177) A1 ?_)
   refine Ds1 3 (Se0 C (Bq ty177) ?_)
   refine Dz (Aj (A2 ?_))
   obtain ⟨hE1,hE2⟩:=div_end hd om hr.1 hr.2
   subst hE1 hE2
   exact V.retcc C ty177 ty177 C C mm mm C C I A3 ⟨rfl,rfl⟩
theorem WGcd_ok(a b:Int)(h0:0<=a/\a<=1152921504606846976)(h1:0<=b/\b<=1152921504606846976):eu prog κ 159 [.agg #[.int .u64 0,.int .u64 a],.agg #[.int .u64 0,.int .u64 b]] I (λr J=>r = .agg #[.int .u64 0,.int .u64 (gcdI a b)]/\I=J):=by
 refine Ce2 Tryz.func159 C C ?_
 refine Ai (Ge1 (A9 (cs:=[_,_]) C C C) λb1=>Ge1 (A9 (cs:=[_,_]) C C C) λb2=>Ge1 (Au ty177 C) λb3=>Af (Ap (A0 (B1 (σ:=Int×Int) (λs=>([(2,.pointer (some ⟨b1,0,none⟩)),(3,.pointer (some ⟨b2,0,none⟩)),(4,.pointer (some ⟨b3,0,none⟩))]:Env)) (λs=>e8 b3 [.int .u64 0,.int .u64 0] 177::e8 b2 [.int .u64 0,.int .u64 (s.2)] 177::e8 b1 [.int .u64 0,.int .u64 (s.1)] 177::I) (λs=>(0<=s.1/\s.1<=1152921504606846976)/\(0<=s.2/\s.2<=1152921504606846976)/\(gcdI s.1 s.2=gcdI a b)) (λs=>s.2.toNat) (a,b) (show (0<=(a:Int)/\(a:Int)<=1152921504606846976)/\(0<=(b:Int)/\(b:Int)<=1152921504606846976)/\(gcdI (a:Int) (b:Int)=gcdI a b) from ⟨om,om,rfl⟩) (Aa C (Aa C (Aa C Bp))) (show Fit κ _ (e8 b3 [.int .u64 0,.int .u64 0] 177::e8 b2 [.int .u64 0,.int .u64 ((b))] 177::e8 b1 [.int .u64 0,.int .u64 ((a))] 177::I) from A1) ?_))))
 rintro ⟨x,y⟩ hp
 dsimp only at hp ⊢
 obtain ⟨hx,hy,hg⟩:=hp
 refine Ap (Ai (Gl2 ty177 ?_))
 refine Gr (Bc (cells:=[_,_]) ty177 Cz pl177 C C) (Gr (E9 (α:=Wd) (a:=(⟨0,y⟩:Wd)) (b:=(⟨0,0⟩:Wd)) eqt177 C C) (Af (A8 C (λc9=>?_) (λc9=>?_))))
 ·refine Ay (Aj (A0 (Ai (Gl2 ty177 ?_))))
  refine Gl2 ty177 ?_
  refine Gc0 (Ah call228 C C (WDivide_ok x y om (by have:=mt wd_zero.2 c9;omega))) ?_
  refine Gm C (Gr (Aw C C) (Gr (Aw C C) (Ge1 (Au ty177 C) λb4=>Ge1 (Au ty177 C) λb5=>Ge0 (Bq ty177) ?_)))
  refine Ge0 (Bq ty177) ?_
  refine Af (Aq (S4 6 2 3 4 C C C C) (Bl mixed (Bt (e8 b5 [.int .u64 0,.int .u64 (x % y)] 177::e8 b4 [.int .u64 0,.int .u64 (x / y)] 177::e8 b3 [.int .u64 0,.int .u64 0] 177::I) 4 (Dr 1 C (Bd (vs:=[_,_]) ty177) ?_))))
  refine Ds1 0 (Sr C (Bd (vs:=[_,_]) ty177) A1 ?_)
  refine Ds1 2 (Se0 C (Bq ty177) ?_)
  refine Ds1 3 (Se0 C (Bq ty177) ?_)
  refine Dz (Ak ?_)
  have hyp:0<y:=by have:=mt wd_zero.2 c9;omega
  have hm0:=Int.emod_nonneg x (b:=y) om
  have hm1:=Int.emod_lt_of_pos x (b:=y) hyp
  exact B5 ((y),(x % y)) (by dsimp only;exact ⟨om,om,((gcdI_mod hx.1 hyp).trans hg)⟩)
 ·refine Bv (Al (Al (A5 (Aj (Ai (Gl2 ty177 ?_))))))
  refine Ge0 (Bq ty177) ?_
  refine Af (A2 ?_)
  have hy0:y=0:=wd_zero.1 (Classical.not_not.1 c9)
  subst hy0
  have hE:x=gcdI a b:=by rw [←hg,gcdI_zero hx.1]
  subst hE
  exact C5 C ty177 C mm C I A3 ⟨rfl,rfl⟩
set_option maxHeartbeats 1000000 in
theorem WReduce_ok(a b:Int)(h0:0<=a/\a<=1152921504606846976)(h1:0<b/\b<=1152921504606846976):eu prog κ 247 [.bool false,.agg #[.int .u64 0,.int .u64 a],.agg #[.int .u64 0,.int .u64 b]] I (λr J=>r = .tuple #[.agg #[e7 (mkF a b).num,e7 (mkF a b).den],e7 0]/\I=J):=by
 refine Ce3 Tryz.func247 C C ?_
 refine Ai (Ge1 (A9 (cs:=[_,_]) C C C) λb1=>Ge1 (A9 (cs:=[_,_]) C C C) λb2=>Ge1 (Au ty40 C) λb3=>Ga C (Af (Ap (Ai (Gl2 ty177 ?_)))))
 refine Gr (Bc (cells:=[_,_]) ty177 Cz pl177 C C) (Gr (Eu (α:=Wd) (a:=(⟨0,a⟩:Wd)) (b:=(⟨0,0⟩:Wd)) eqt177 C C) (Af (A8 C (λc16=>?_) (λc16=>?_))))
 ·refine Ai (Gr (Bc (cells:=[_,_]) ty40 Ct pl40 C C) (Ge0 (Bq ty40) ?_))
  refine Ga C (Af (A2 (Am ?_)))
  have ha0:a=0:=wd_zero.1 c16
  subst ha0
  exact C3 C ty40 C C mm C I A3 ⟨by rw [mkF_zero h1.1];rfl,rfl⟩
 ·refine Ay (Aj (Ai (Gl2 ty177 ?_)))
  refine Gl2 ty177 ?_
  refine Gc0 (Ah call159 C C (WGcd_ok a b om om)) ?_
  refine Ge1 (Au ty177 C) λb4=>Ge0 (Bq ty177) ?_
  have hgp:=gcdI_pos (a:=a) h1.1
  have hgl:=gcdI_le (a:=a) h1.1
  have hqn:=mkF_num h0.1 h1.1
  have hqd:=mkF_den (a:=a) h1.1
  unfold mkF at hqn hqd
  dsimp only at hqn hqd
  refine Af (Aq (S5 8 6 5 4 0 C C C C C) (Ai (Gl2 ty177 ?_)))
  refine Gl2 ty177 ?_
  refine Gc0 (Ah call228 C C (WDivide_ok a (gcdI a b) om om)) ?_
  refine Gm C (Gr (Aw C C) (Gr (Aw C C) (Ge1 (Au ty177 C) λb5=>Ge1 (Au ty177 C) λb6=>Ge0 (Bq ty177) ?_)))
  refine Ge0 (Bq ty177) ?_
  refine Af (Ai (Gl2 ty177 ?_))
  refine Gl2 ty177 ?_
  refine Gc0 (Ah call228 C C (WDivide_ok b (gcdI a b) om om)) ?_
  refine Gm C (Gr (Aw C C) (Gr (Aw C C) (Ge1 (Au ty177 C) λb7=>Ge1 (Au ty177 C) λb8=>Ge0 (Bq ty177) ?_)))
  refine Ge0 (Bq ty177) ?_
  refine Af (Aq (S4 11 9 6 0 C C C C) (Ap (Ai (Gf fld177_0 C (Gl ty175 ?_)))))
  refine Gr (Bw C C) (Gm C (Bg (d:=36) C (λg36=>?_) (λg36=>?_)))
  ·exact absurd g36 om
  ·refine e9 (Ab fld177_0 C) (e9 (As ty175) ?_)
   refine e9 (Bw C C) (Gr (Ao C C) (Gm C (Bg (d:=41) C (λg41=>?_) (λg41=>?_))))
   ·exact absurd g41 om
   ·refine e9 (Ab fld177_1 C) (e9 (As ty175) ?_)
    refine e9 (Bw C C) (Gr (Ao C C) (Gm C (Bg (d:=46) C (λg46=>?_) (λg46=>?_))))
    ·exact absurd g46 om
    ·refine e9 (Ab fld177_1 C) (e9 (As ty175) ?_)
     refine e9 (Bw C C) (Gr (Ao C C) (Af (Aq (S5 50 11 9 6 0 C C C C C) (A8 C (λc50=>?_) (λc50=>?_)))))
     ·exact absurd c50 om
     ·refine Ay (Aj (Ai (Gf fld177_1 C (Gl ty175 ?_))))
      refine Gr (Runs.convI Cr Bj C (by unfold InR;omega)) (Gf fld177_1 C (Gl ty175 ?_))
      refine Gr (Runs.convI Cr Bj C (by unfold InR;omega)) (Gr (Bc (cells:=[_,_]) ty40 Ct pl40 C C) (Ge1 (Au ty40 C) λb9=>Ge0 (Bq ty40) ?_))
      refine Af (Ap (Ai (Gm C (Af (Aq (S3 59 13 6 C C C) (C2 C (Ay (Aj (Ai (Gl2 ty40 ?_))))))))))
      refine Ge0 (Bq ty40) ?_
      exact Ga C (Af (A2 (C3 C ty40 C C mm C I A3 ⟨rfl,rfl⟩)))
theorem WSize_ok(n:Int)(h:0<=n/\n<=1152921504606846976):eu prog κ 123 [e7 n] I (λr J=>r = .int .u64 n/\I=J):=by
 refine Ce1 Tryz.func123 C C ?_
 refine Ai (Ga C (Af (Ap (Ai (Gm C (Gr (A7 C C) (Af (A8 C (λc4=>?_) (λc4=>?_)))))))))
 ·exact absurd c4 om
 ·exact Ay (Aj (Ai (Gm C (Gr (Dv Bj Cr C om) (Ga C (Af (A2 (A6 C C I A3 ⟨rfl,rfl⟩))))))))
theorem Make01_ok(a b:Int)(h0:0<=a/\a<=1152921504606846976)(h1:0<b/\b<=1152921504606846976):eu prog κ 204 [e7 a,e7 b] I (λr J=>r = .tuple #[.agg #[e7 (mkF a b).num,e7 (mkF a b).den],e7 0]/\I=J):=by
 refine Ce2 Tryz.func204 C C ?_
 refine Ai (Ge1 (Au ty40 C) λb1=>Ga C (Af (Ap (Ai (Gm C (Gr (Bu C C) (Af (A8 C (λc7=>?_) (λc7=>?_)))))))))
 ·exact absurd c7 om
 ·refine Ay (Aj (Ai (Gm C (Gr (A7 C C) (Gm C (Gr (A7 C C) (Gr (Runs.neqb E6 C C) ?_)))))))
  have hsg:decide (decide (a<0)≠decide (b<0))=false:=by rw [decide_eq_false (show ¬a<0 by omega),decide_eq_false (show ¬b<0 by omega)];rfl
  rw [hsg]
  refine Gm C (Gc0 (Ah call123 C C (WSize_ok a om)) ?_)
  refine Gr (Bc (cells:=[_,_]) ty177 Cz pl177 C C) (Gm C (Gc0 (Ah call123 C C (WSize_ok b om)) ?_))
  refine Gr (Bc (cells:=[_,_]) ty177 Cz pl177 C C) (Gc0 (Ah call247 C C (WReduce_ok a b om om)) ?_)
  refine Gr (Aw C C) (Gr (Aw C C) (Ge0 (Bq ty40) ?_))
  exact Ga C (Af (Aq (S2 5 4 C C) (A2 (C3 C ty40 C C mm C I A3 ⟨rfl,rfl⟩))))
theorem RatOf_ok(a b:Int)(h0:0<=a/\a<=1152921504606846976)(h1:0<b/\b<=1152921504606846976):eu prog κ 128 [e7 a,e7 b] I (λr J=>r = .agg #[e7 (mkF a b).num,e7 (mkF a b).den]/\I=J):=by
 refine Ce2 Tryz.func128 C C ?_
 refine Ai (Ge1 (Au ty40 C) λb1=>Af (Ai (Gm C (Gm C (Gc0 (Ah call204 C C (Make01_ok a b om om)) ?_)))))
 refine Gm C (Gr (Aw C C) (Gr (Aw C C) (Ge1 (Au ty40 C) λb2=>Ge0 (Bq ty40) ?_)))
 refine Ga C (Af (Ai (Gl2 ty40 ?_)))
 refine Ge0 (Bq ty40) ?_
 exact Af (A2 (C5 C ty40 C mm C I A3 ⟨rfl,rfl⟩))
variable {κ:Ctx}{I:List Item}
def rowG(nd:Int)(es:List Pt)(v:Int):BitVec 64:=if v<0\/((ek nd es).length:Int)<=v\/checkG nd es≠0 then 0#64 else e_ (ek nd es) v
def nbL(es:List Pt)(v:Int):List Int:=es.flatMap λe=>(if e.u=v then [e.v] else [])++(if e.v=v then [e.u] else [])
theorem nbL_take{es:List Pt}{k:Nat}(h:k<es.length)(v:Int):nbL (es.take (k+1)) v=nbL (es.take k) v++((if (e_ es k).u=v then [(e_ es k).v] else [])++(if (e_ es k).v=v then [(e_ es k).u] else [])):=by
 unfold nbL;rw [C6 es k h,List.flatMap_append];simp
theorem mem_nbL{es:List Pt}{v x:Int}:x∈nbL es v↔(⟨v,x⟩:Pt)∈es\/(⟨x,v⟩:Pt)∈es:=by
 unfold nbL
 rw [List.mem_flatMap]
 constructor
 ·rintro ⟨⟨a,b⟩,he,hx⟩
  rcases List.mem_append.1 hx with h|h
  ·split at h
   ·rename_i h1;simp only [List.mem_singleton] at h;simp only at h1;subst h h1;exact .inl he
   ·simp at h
  ·split at h
   ·rename_i h1;simp only [List.mem_singleton] at h;simp only at h1;subst h h1;exact .inr he
   ·simp at h
 ·rintro (h|h)
  ·exact ⟨_,h,by simp⟩
  ·exact ⟨_,h,by simp⟩
def nbG(nd:Int)(es:List Pt)(v:Int):List Int:=if checkG nd es≠0 then [] else ofL (nbL es v)
theorem nb_eq(nd:Int)(es:List Pt)(v:Int):eo (rowG nd es v)=nbG nd es v:=by
 by_cases hc:checkG nd es≠0
 ·unfold rowG nbG;rw [if_pos (.inr (.inr hc)),if_pos hc,Df]
 ·have hG:=checkG_ok.1 (Classical.not_not.1 hc)
  have hr:=hG.rng
  have hl:=hG.rows.len
  unfold nbG
  rw [if_neg hc]
  refine intLin.uniq (listB_asc _) (ofL_asc _) λx=>?_
  rw [Ed,mem_ofL,mem_nbL]
  by_cases hv:v<0\/((ek nd es).length:Int)<=v
  ·have hz:rowG nd es v=0#64:=if_pos om
   rw [hz]
   simp only [BitVec.getLsbD_zero,Bool.false_eq_true,and_false,false_iff]
   rintro (h|h)
   ·have:=hG.edge _ h;simp only at this;omega
   ·have:=hG.edge _ h;simp only at this;omega
  ·have hz:rowG nd es v=e_ (ek nd es) v:=if_neg om
   rw [hz]
   by_cases hx:0<=x/\x<64
   ·rw [hG.rows.bit v x om om hx.1 hx.2,decide_eq_true_eq]
    exact ⟨λh=>h.2,λh=>⟨hx.1,h⟩⟩
   ·constructor
    ·rintro ⟨h1,h2⟩
     rw [BitVec.getLsbD_of_ge _ _ om] at h2
     exact absurd h2 dc
    ·rintro (h|h)
     ·have:=hG.edge _ h;simp only at this;omega
     ·have:=hG.edge _ h;simp only at this;omega
theorem nbG_len(nd:Int)(es:List Pt)(v:Int):(nbG nd es v).length<=64:=by rw [←nb_eq];exact E5 _
theorem listB_and(a b:BitVec 64):eo (a &&& b)=meetL (eo a) (eo b):=by
 refine intLin.uniq (listB_asc _) ((ofL_asc _).sublist List.filter_sublist) λx=>?_
 rw [mem_meetL,Ed,Ed,Ed,BitVec.getLsbD_and,Bool.and_eq_true]
 exact ⟨λh=>⟨⟨h.1,h.2.1⟩,h.1,h.2.2⟩,λh=>⟨h.1.1,h.1.2,h.2.2⟩⟩
def commonG(nd:Int)(es:List Pt)(u v:Int):List Int:=if u=v then [] else meetL (nbG nd es u) (nbG nd es v)
theorem common_eq{nd:Int}{es:List Pt}{u v:Int}(h:u≠v):eo (rowG nd es u &&& rowG nd es v)=commonG nd es u v:=by
 unfold commonG;rw [if_neg h,listB_and,nb_eq,nb_eq]
def FindP(nd:Int)(es:List Pt)(u v y:Int):Prop:=(checkG nd es=0/\∃j:Nat,y=(j:Int)/\j<es.length/\e_ es j=edgeP u v)\/(y = -1/\(checkG nd es≠0\/edgeP u v∉es))
theorem FindP.uniq{nd:Int}{es:List Pt}{u v y z:Int}(h:FindP nd es u v y)(h':FindP nd es u v z):y=z:=by
 have key:∀{a b:Int},(checkG nd es=0/\∃j:Nat,a=(j:Int)/\j<es.length/\e_ es j=edgeP u v)->(b = -1/\(checkG nd es≠0\/edgeP u v∉es))->False:=by
  rintro a b ⟨hc,j,_,hj,he⟩ ⟨_,h1|h1⟩
  ·exact h1 hc
  ·exact h1 (he▸Bf om om)
 rcases h with h|h<;>rcases h' with h'|h'
 ·obtain ⟨hc,j,rfl,hj,he⟩:=h
  obtain ⟨_,i,rfl,hi,hf⟩:=h'
  have ha:=(checkG_ok.1 hc).asc
  rcases Nat.lt_trichotomy i j with h1|h1|h1
  ·have:=asc_at ha (i:=i) (j:=j) h1 hj;rw [he,hf] at this;exact absurd this (Pt.lin.irr _)
  ·rw [h1]
  ·have:=asc_at ha (i:=j) (j:=i) h1 hi;rw [he,hf] at this;exact absurd this (Pt.lin.irr _)
 ·exact (key h h').elim
 ·exact (key h' h).elim
 ·rw [h.1,h'.1]
def indG(nd:Int)(es:List Pt)(set:List Int):List Pt:=if checkG nd es≠0 then [] else insideL set es
def indN(nd:Int)(es:List Pt):Int:=if checkG nd es≠0 then 0 else nd
theorem indG_len(nd:Int)(es:List Pt)(set:List Int):(indG nd es set).length=insideN nd es set:=by
 unfold indG insideN;split<;>rfl
theorem indG_ref{nd:Int}{es:List Pt}(set:List Int)(h:¬checkG nd es≠0):indG nd es set=es.filter λe=>decide (e.u∈set/\e.v∈set):=by
 unfold indG;rw [if_neg h];exact insideL_eq set (checkG_ok.1 (Classical.not_not.1 h))
theorem all_tab:∀n:Fin 65,∀i:Fin 64,(allB (n.val:Int)).getLsbD i.val=decide (i.val<n.val):=by decide+kernel
theorem getLsb_allB{n:Int}(h0:0<=n)(h1:n<=64){i:Nat}(hi:i<64):(allB n).getLsbD i=decide ((i:Int)<n):=by
 have:=all_tab ⟨n.toNat,by omega⟩ ⟨i,hi⟩
 simp only [show ((n.toNat:Nat):Int)=n by omega] at this
 rw [this,decide_eq_decide];omega
def densG(nd:Int)(es:List Pt)(set:List Int):Fr:=if checkG nd es≠0 then ⟨0,0⟩ else if (meetL set (rangeI nd)).length=0 then ⟨0,1⟩ else mkF ((insideN nd es set:Nat):Int) (((meetL set (rangeI nd)).length:Nat):Int)
theorem GRowG_ok{nd:Int}{va:Value}{es:List Pt}(hl:Sl κ I va es)(v:Int):eu prog κ 333 [.agg #[e7 nd,va],e7 v] I (λr J=>r=U64 (rowG nd es v)/\I=J):=by
 refine Ce2 Tryz.func333 C C ?_
 refine Ai (Ge1 (A9 (cs:=[_,_]) C C C) λb1=>Ga C (Af (Ai (Gl2 ty48 ?_))))
 refine G.e (Ah call198 C C (MRows_ok (nd:=nd) (Ba hl))) ?_
 rintro _ _ ⟨_,_,⟨ad2,cp3,rfl,rfl⟩,rfl,rfl⟩
 have hrwad2:=rowsB_len nd es
 refine Ga C (Af (Ap (Ai (Gm C (Gr (A7 C C) (Gm C (Bg (d:=10) C (λg10=>?_) (λg10=>?_))))))))
 ·exact eb (eb (eb (eb (Gr (Ar C C) (Gm C (eb (eb (eb (Gr (Ar C C) (Af (Aq (S3 20 5 1 C C C) (Cq C (Ai (Ga C (Af (A2 (Am (A6 C C I A3 ⟨by rw [show rowG nd es v=0#64 from if_pos om];rfl,rfl⟩))))))))))))))))))
 ·refine e9 (Ad C) (e9 (Ad C) (e9 (Bs Cc C) (e9 (B9 C C) (Gr (Ao C C) (Gm C (Bg (d:=16) C (λg16=>?_) (λg16=>?_)))))))
  ·exact eb (eb (eb (Gr (Ar C C) (Af (Aq (S3 20 5 1 C C C) (Cq C (Ai (Ga C (Af (A2 (Am (A6 C C I A3 ⟨by rw [show rowG nd es v=0#64 from if_pos om];rfl,rfl⟩))))))))))))
  ·refine e9 (Bd (vs:=[_,_]) ty48) ?_
   refine D5 (Ck C C C) (Ah call83 C C (CheckGen_ok (Ba hl))) ?_
   rintro _ _ ⟨_,_,⟨rfl,rfl⟩,rfl,rfl⟩
   refine e9 (Br C C) (Gr (Ao C C) (Af (Aq (S3 20 5 1 C C C) (A8 C (λc20=>?_) (λc20=>?_)))))
   ·exact Ai (Ga C (Af (A2 (Am (A6 C C I A3 ⟨by rw [show rowG nd es v=0#64 from if_pos om];rfl,rfl⟩)))))
   ·exact Ay (Aj (Ai (Gm C (Gm C (Gr (Az (α:=(BitVec 64)) (xs:=ek nd es) Cc ty175 C C Bk om om) (Gr (Dj (α:=(BitVec 64)) (xs:=ek nd es) (u:=U64 ((e_ (ek nd es) v))) ty175 C Bk om om C) (Ga C (Af (A2 (A6 C C I A3 ⟨by rw [show rowG nd es v=e_ (ek nd es) v from if_neg om],rfl⟩))))))))))
theorem CommonG_ok{nd:Int}{va:Value}{es:List Pt}(hl:Sl κ I va es)(u v:Int)(hT:TabRd κ I 0 tzCells):eu prog κ 314 [.agg #[e7 nd,va],e7 u,e7 v] I (λr J=>∃a c,r = .slice a (commonG nd es u v).length c/\J=vc 3 (.slice a (commonG nd es u v).length c) (commonG nd es u v)::I):=by
 refine Ce3 Tryz.func314 C C ?_
 refine Ai (Ge1 (A9 (cs:=[_,_]) C C C) λb1=>Ga C (Af (Ap (Ai (Gm C (Gm C (Gr (Bu C C) (Af (A8 C (λc9=>?_) (λc9=>?_))))))))))
 ·refine Ai (Ga C (Af (A2 (Am ?_))))
  have hX:(commonG nd es u v)=[]:=if_pos c9
  exact A6 C C (vc 3 (.slice none (commonG nd es u v).length 0) (commonG nd es u v)::I) (by rw [hX];exact Cn (show Fit κ _ I from A3) (B2 (α:=Int) _ _)) ⟨none,0,by rw [hX];rfl,rfl⟩
 ·refine Ay (Aj (Ap (Bl mixed (Bt (e8 b1 [e7 nd,va] 48::I) 9 (Dr 0 C (Bd (vs:=[_,_]) ty48) ?_)))))
  refine Dr 1 C (Ad C) (Dr 3 C (Bd (vs:=[_,_]) ty48) ?_)
  refine Dr 4 C (Ad C) (Ds1 2 (Se C (Ah call333 C C (GRowG_ok (nd:=nd) (Ba hl) u)) ?_))
  rintro _ _ ⟨_,_,⟨rfl,rfl⟩,rfl,rfl⟩
  refine ⟨A1,?_⟩
  refine Ds1 5 (Se C (Ah call333 C C (GRowG_ok (nd:=nd) (Ba hl) v)) ?_)
  rintro _ _ ⟨_,_,⟨rfl,rfl⟩,rfl,rfl⟩
  refine ⟨A1,?_⟩
  refine Dr 6 C (Da (a:=rowG nd es u) (b:=rowG nd es v) C C) (Ds1 7 (Sc2 C (Ah call171 C C (MList_ok ((rowG nd es u) &&& (rowG nd es v)) (Bx hT A3))) λad2 cp3=>?_))
  refine Dr 8 C (Bb C) (Dz (Aj (Aq (S1 6 C) (A2 ?_))))
  have hX:(commonG nd es u v)=_:=(common_eq c9).symm
  exact A6 C C (vc 3 (.slice ad2 (commonG nd es u v).length cp3) (commonG nd es u v)::I) (by rw [hX];exact A1) ⟨ad2,cp3,by rw [hX],rfl⟩
theorem FindG_ok{nd:Int}{va:Value}{es:List Pt}(hl:Sl κ I va es)(u v:Int)(hb:es.length<=1000000000):eu prog κ 240 [.agg #[e7 nd,va],e7 u,e7 v] I (λr J=>∃y:Int,r=e7 y/\FindP nd es u v y/\I=J):=by
 refine Ce3 Tryz.func240 C C ?_
 refine Ai (Ge1 (A9 (cs:=[_,_]) C C C) λb1=>Ga C (Af (Ap (Ai (Gl2 ty48 ?_)))))
 refine Gm C (Gm C (G.e (Ah call285 C C (Place_ok (Ba hl) u v om)) ?_))
 rintro _ _ ⟨_,_,⟨i2,q3,rfl,hi2,rfl⟩,rfl,rfl⟩
 refine Gm C (Gr (Aw C C) (Gr (Aw C C) (Ga C (Ga C (Af (Aq (S3 8 7 3 C C C) (Ai (Gm C (Gm C (Bg (d:=17) C (λg17=>?_) (λg17=>?_)))))))))))
 ·refine e9 (Bd (vs:=[_,_]) ty48) ?_
  refine D5 (Ck C C C) (Ah call83 C C (CheckGen_ok (Ba hl))) ?_
  rintro _ _ ⟨_,_,⟨rfl,rfl⟩,rfl,rfl⟩
  refine e9 (Bu C C) (Gr (Ar C C) (Af (A8 C (λc21=>?_) (λc21=>?_))))
  ·exact Ai (Gm C (Ga C (Af (A2 (Am (A6 C C I A3 ⟨_,rfl,.inl ⟨c21,i2,rfl,g17.1,g17.2⟩,rfl⟩))))))
  ·refine Ay (Aj (Ai (Ga C (Af (A2 ?_)))))
   have hn:checkG nd es≠0\/edgeP u v∉es:=(Decidable.em (checkG nd es=0)).elim (λhc=> .inr λhm=>by first|exact c21 hc|exact g17 ((hi2.mem (checkG_ok.1 hc).asc).2 hm)) .inl
   exact A6 C C I A3 ⟨_,rfl,.inr ⟨rfl,hn⟩,rfl⟩
 ·refine eb (eb (eb (Gr (Ao C C) (Af (C2 C (Ay (Aj (Ai (Ga C (Af (A2 ?_)))))))))))
  have hn:checkG nd es≠0\/edgeP u v∉es:=(Decidable.em (checkG nd es=0)).elim (λhc=> .inr λhm=>by first|exact c21 hc|exact g17 ((hi2.mem (checkG_ok.1 hc).asc).2 hm)) .inl
  exact A6 C C I A3 ⟨_,rfl,.inr ⟨rfl,hn⟩,rfl⟩
variable {κ:Ctx}{I:List Item}
theorem all_rows{nd:Int}{es:List Pt}(h:0<=nd/\nd<=64)(i:Nat)(hi:(allB nd).getLsbD i=true):i<(ek nd es).length:=by
 have h64:i<64:=Classical.byContradiction λhn=>by rw [BitVec.getLsbD_of_ge _ _ om] at hi;cases hi
 rw [getLsb_allB h.1 h.2 h64,decide_eq_true_eq] at hi
 rw [rowsB_len];omega
theorem and_all_rows{nd:Int}{es:List Pt}(m:BitVec 64)(h:0<=nd/\nd<=64)(i:Nat)(hi:(m &&& allB nd).getLsbD i=true):i<(ek nd es).length:=by
 rw [BitVec.getLsbD_and,Bool.and_eq_true] at hi;exact all_rows h i hi.2
theorem MReach_ok{va:Value}{rows:List (BitVec 64)}(hl:Sl κ I va rows)(f w:BitVec 64)(hw:∀i:Nat,w.getLsbD i=true->i<rows.length)(hT:TabRd κ I 0 tzCells):eu prog κ 197 [va,U64 f,U64 w] I (λr J=>r=U64 (reachB rows f w)/\I=J):=by
 refine Ce3 Tryz.func197 C C ?_
 refine Ai (Ga C (Af (Ai (Gm C (Gm C (Gr (Da (a:=f) (b:=w) C C) (Ga C (Af (Ap (Ai (Gm C (Ga C (Af (A0 (B1 (σ:=(BitVec 64)×(BitVec 64)) (λs=>([(0,va),(1,U64 (s.2)),(2,U64 w),(7,U64 (s.1))]:Env)) (λs=>I) (λs=>(ReachI rows f w s.1 s.2)) (λs=>reachM w s.1 s.2) (f &&& w,f &&& w) (show (ReachI rows f w (f &&& w:BitVec 64) (f &&& w:BitVec 64)) from .begin) (Aa C (Aa (Dl C (by first|rfl|simp)) (Aa C (Aa (Dl C (by first|rfl|simp)) Bp)))) (show Fit κ _ I from A1) ?_)))))))))))))))
 rintro ⟨front,frm⟩ hp
 dsimp only at hp ⊢
 have hR:=hp
 refine Ap (Ai (Gm C (Gr (Runs.neB (a:=front) (b:=0#64) C C) (Af (A8 C (λc15=>?_) (λc15=>?_))))))
 ·refine Ay (Aj (A0 (Ai (Gm C (Gc0 (Ah call238 C C (Least_ok front (Bx hT A3))) ?_)))))
  refine Ga C ?_
  have htz:=tzB_range c15
  have hbd:=hw _ (hR.sub _ (hR.fsub _ htz.2.2))
  exact Af (Ai (Gm C (Gm C (Gr (Runs.subB (a:=front) (b:=1#64) C C) (Gr (Da (a:=front) (b:=front - (1#64)) C C) (Ga C (Af (Aq (S5 7 8 0 1 2 C C C C C) (Ai (Gm C (Gm C (Gr (Az (α:=(BitVec 64)) (xs:=rows) Cc ty175 C C (Ba hl) om om) (Gr (Dj (α:=(BitVec 64)) (xs:=rows) (u:=U64 ((e_ rows (tzB front)))) ty175 C (Ba hl) om om C) (Gm C (Gr (Da (a:=(e_ rows (tzB front))) (b:=w) C C) (Gm C (Gr (Er (a:=(e_ rows (tzB front)) &&& w) (b:=frm) C C) (Ga C (Af (Aq (S5 9 7 0 1 2 C C C C C) (Ai (Gm C (Gm C (Gr (E8 (a:=frm) (b:=((e_ rows (tzB front)) &&& w) &&& ~~~frm) C C) (Ga C (Af (Ax (Gm C (Gm C (Gr (E8 (a:=front &&& (front - (1#64))) (b:=((e_ rows (tzB front)) &&& w) &&& ~~~frm) C C) (Ga C (Bi (Ak (B5 (((front &&& (front - (1#64))) ||| (((e_ rows (tzB front)) &&& w) &&& ~~~frm)),(frm ||| (((e_ rows (tzB front)) &&& w) &&& ~~~frm))) (by dsimp only;exact (hR.step c15).1) (hlt:=by (try dsimp only);exact (hR.step c15).2)))))))))))))))))))))))))))))))))))
 ·refine Bv (Al (Al (A5 (Aj (Ai (Gm C (Ga C (Af (A2 ?_)))))))))
  have hz:front=0#64:=Classical.not_not.1 c15
  subst hz
  exact A6 C C I A3 ⟨by rw [hR.eq],rfl⟩
def rchG(nd:Int)(es:List Pt)(frm set:List Int):List Int:=if checkG nd es≠0 then [] else eo (reachB (ek nd es) (maskB frm) (maskB set &&& allB nd))
theorem CReach_ok{nd:Int}{va vb vd:Value}{es:List Pt}{frm set:List Int}(hl:Sl κ I va es)(hf:Sl κ I vb frm)(hs:Sl κ I vd set)(hT:TabRd κ I 0 tzCells):eu prog κ 110 [.agg #[e7 nd,va],vb,vd] I (λr J=>∃a c,r = .tuple #[.slice a (rchG nd es frm set).length c,e7 (checkG nd es)]/\J=vc 3 (.slice a (rchG nd es frm set).length c) (rchG nd es frm set)::I):=by
 refine Ce3 Tryz.func110 C C ?_
 refine Ai (Ge1 (A9 (cs:=[_,_]) C C C) λb1=>Ga C (Ga C (Af (Ap (Ai (Gl2 ty48 ?_))))))
 refine Gc0 (Ah call83 C C (CheckGen_ok (Ba hl))) ?_
 refine Ga C (Af (Ai (Gm C (Gr (Br C C) (Af (A8 C (λc12=>?_) (λc12=>?_)))))))
 ·refine Ai (Gm C (Ga C (Ga C (Af (Aq (S2 7 6 C C) (A2 (Am ?_)))))))
  have hX:(rchG nd es frm set)=[]:=if_pos c12
  exact Cu C C C (vc 3 (.slice none (rchG nd es frm set).length 0) (rchG nd es frm set)::I) (by rw [hX];exact Cn (show Fit κ _ I from A3) (B2 (α:=Int) _ _)) ⟨none,0,by rw [hX];rfl,rfl⟩
 ·refine Ay (Aj (Ap (Bl mixed (Bt (e8 b1 [e7 nd,va] 48::I) 14 (Dr 0 C (Bd (vs:=[_,_]) ty48) ?_)))))
  refine Dr 2 C (Ad C) (Dr 4 C (Ad C) (Dr 6 C (Ab fld48_0 C) (Dr 7 C (As ef) ?_)))
  refine Ds1 1 (Se C (Ah call198 C C (MRows_ok (nd:=nd) (Ba hl))) ?_)
  rintro _ _ ⟨_,_,⟨ad2,cp3,rfl,rfl⟩,rfl,rfl⟩
  refine ⟨A1,?_⟩
  have hrwad2:=rowsB_len nd es
  refine Ds1 3 (Sc0 C (Ah call199 C C (MaskOf_ok (Ba hf))) ?_)
  refine Ds1 5 (Sc0 C (Ah call199 C C (MaskOf_ok (Ba hs))) ?_)
  refine Ds1 8 (Sc0 C (Ah call200 C C (MaskAll_ok nd)) ?_)
  refine Dr 9 C (Da (a:=maskB set) (b:=allB nd) C C) (Ds1 10 (Se C (Ah call197 C C (MReach_ok Bk (maskB frm) ((maskB set) &&& (allB nd)) (and_all_rows _ (checkG_ok.1 (Classical.not_not.1 c12)).rng) (Bx hT A3))) ?_))
  rintro _ _ ⟨_,_,⟨rfl,rfl⟩,rfl,rfl⟩
  refine ⟨A1,?_⟩
  refine Ds1 11 (Sc2 C (Ah call171 C C (MList_ok (reachB (ek nd es) (maskB frm) ((maskB set) &&& (allB nd))) (Bx hT A3))) λad4 cp5=>?_)
  refine Dr 12 C (Bb C) (Dr 13 C (Bb C) (Dz (Aj (Aq (S2 7 6 C C) (A2 ?_)))))
  have hX:(rchG nd es frm set)=_:=if_neg c12
  have hz:checkG nd es=0:=Classical.not_not.1 c12
  exact Cu C C C (vc 3 (.slice ad4 (rchG nd es frm set).length cp5) (rchG nd es frm set)::I) (by rw [hX];exact A1) ⟨ad4,cp5,by rw [hX,hz],rfl⟩
end Go.Sl
namespace Go.Sl
section
variable {P:Program}{κ:Ctx}{N:Frm}{Q:Exit->Act->World->Prop}{L:Env}{I:List Item}
theorem wp_scope_ghost{c rest:Code}{a:Act}{w:World}(l:Nat){σ:Type}(R:σ->Act->World->Prop)(μ:σ->Nat)(hf:findLabel c l=some rest)
  (first:c.wp P (Exit.jump l (λa w=>∃s,R s a w) Q) a w)
  (pass:∀s a w,R s a w->rest.wp P (Exit.jump l (λa' w'=>∃s',R s' a' w'/\μ s'<μ s) Q) a w):(Code.scope c).wp P Q a w:=by
 intro b k cs
 have hg:gotoIn l (.inScope c::k)=some (.code rest :: .inScope c::k):=by simp [gotoIn,hf]
 have key:∀n s a w,μ s=n->R s a w->∃e a' w',Q e a' w'/\Arrives P (lone (b.at a (.code rest :: .inScope c::k)) cs w) b k cs e a' w':=by
  intro n
  induction n using Nat.strongRecOn with
  |_ n ih=>
   intro s a w hn hR
   obtain ⟨e,a₁,w₁,hq,harr⟩:=pass s a w hR b (.inScope c::k) cs
   cases e with
   |normal=>exact ⟨.normal,a₁,w₁,hq,Steps.trans harr (.one step_inScope)⟩
   |exit id=>exact ⟨.exit id,a₁,w₁,hq,λk' hk=>harr k' (by simp [exitTo,hk])⟩
   |goto l'=>
    obtain ⟨rfl,s',hR',hlt⟩:=hq
    obtain ⟨e₂,a₂,w₂,hq₂,harr₂⟩:=ih _ (by omega) s' a₁ w₁ rfl hR'
    exact ⟨e₂,a₂,w₂,hq₂,.of_steps (harr _ hg) harr₂⟩
   |ret=>exact ⟨_,a₁,w₁,hq,harr⟩
   |panic ch=>exact ⟨_,a₁,w₁,hq,harr⟩
   |outgrown=>exact ⟨_,a₁,w₁,hq,harr⟩
 obtain ⟨e,a₁,w₁,hq,harr⟩:=first b (.inScope c::k) cs
 cases e with
 |normal=>exact ⟨.normal,a₁,w₁,hq,.head step_scope (Steps.trans harr (.one step_inScope))⟩
 |exit id=>exact ⟨.exit id,a₁,w₁,hq,λk' hk=> .head step_scope (harr k' (by simp [exitTo,hk]))⟩
 |goto l'=>
  obtain ⟨rfl,s,hR⟩:=hq
  obtain ⟨e₂,a₂,w₂,hq₂,harr₂⟩:=key _ s a₁ w₁ rfl hR
  exact ⟨e₂,a₂,w₂,hq₂,.of_steps (.head step_scope (harr _ hg)) harr₂⟩
 |ret=>exact ⟨_,a₁,w₁,hq,.of_steps (.one step_scope) harr⟩
 |panic ch=>exact ⟨_,a₁,w₁,hq,.of_steps (.one step_scope) harr⟩
 |outgrown=>exact ⟨_,a₁,w₁,hq,.of_steps (.one step_scope) harr⟩
theorem V.jump_ret{l:Nat}{K:Act->World->Prop}(h:V κ N Q .ret L I):V κ N (Exit.jump l K Q) .ret L I:=h
end
end Go.Sl
namespace Go.Sl
section
variable {P:Program}{κ:Ctx}{N:Frm}{Q:Exit->Act->World->Prop}{L:Env}{I:List Item}
theorem W.scope0{c rest:Code}{l:Nat}(hf:findLabel c l=some rest)(h:W P κ N c (Exit.jump l (λ_ _=>∃s:Unit,False) Q) L I):W P κ N (.scope c) Q L I:=λa w ha hs=>
 wp_scope_ghost l (fun (_:Unit) _ _=>False) (λ_=>0) hf (h a w ha hs) λ_ _ _ hR=>hR.elim
theorem W.label{l:Nat}(h:V κ N Q .normal L I):W P κ N (.label l) Q L I:=λa w ha hs=>wp_label (h a w ha hs)
end
end Go.Sl
