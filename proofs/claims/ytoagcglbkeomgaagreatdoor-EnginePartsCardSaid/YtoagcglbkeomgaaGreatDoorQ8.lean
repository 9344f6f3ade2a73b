/- A part of the proofs of statements of this seat: contracts of functions, and the plain laws that they lean on. No conditions. -/
import Derived.Test.YtoagcglbkeomgaaGreatDoorQ7
import Derived.Shelf.SortM.Plain
import Derived.Shelf.SortM.SortNone
set_option linter.unusedVariables false
set_option linter.unusedSimpArgs false
set_option linter.unusedSectionVars false
open Go.Proofs.Tryz (prog)
set_option maxHeartbeats 8000000
namespace Go.Sl
open Go.Proofs
set_option maxRecDepth 4000
variable{a va:Option Addr}{Z b c i:Nat}{xs ys:List Lk}
variable {κ:Ctx}{I:List Item}
theorem NodeE_ok(n:Int):eu prog κ 137 [e7 n] I (λr J=>r = .bool (decide (0<=n/\n<64))/\I=J):=by
 refine Ce1 Tryz.func137 C C ?_
 refine Af<|Ga C<|Ad<|Af<|Gm C<|Gr (C3 C C)<|Gm C<|Br (d:=5) C (λZ=>?_)<|λZ=>?_
 ·exact e9 (Ai C)<|e9 (Bb C C)<|Gr (A3 C C)<|Ga C<|Ad<|Ay<|A1 C C I Av ⟨(by first|exact congrArg Value.bool (decide_eq_decide.2<|by skip;omega)|exact congrArg Value.bool (decide_eq_true<|by skip;omega).symm|exact congrArg Value.bool (decide_eq_false<|by skip;omega).symm),rfl⟩
 exact eb<|eb<|Gr (Bd C C)<|Ga C<|Ad<|Ay<|A1 C C I Av ⟨(by first|exact congrArg Value.bool (decide_eq_decide.2<|by skip;omega)|exact congrArg Value.bool (decide_eq_true<|by skip;omega).symm|exact congrArg Value.bool (decide_eq_false<|by skip;omega).symm),rfl⟩
theorem EndsE_ok(e:Ev):eu prog κ 91 [.agg #[e7 (e.kd),e7 (e.tm),e7 (e.u),e7 (e.v),e7 (e.w),e7 (e.lb),e7 (e.sg)]] I (λr J=>r = .bool (decide (endsE e))/\I=J):=by
 refine Ce1 Tryz.func91 C C ?_
 refine Af<|Ge1 (Bc (cs:=[_,_,_,_,_,_,_]) C C C) λb1=>Ga C<|Ad<|Ap<|Af<|Gf fld54_0 C<|Gl ef ?_
 refine Gr (Bs C C)<|Ad<|A8 C (λc5=>?_)<|λc5=>?_
 ·refine Af (Gf fld54_2 C<|Gl ef ?_)
  refine Gc0 (Aj c_ C C<|NodeE_ok e.u) ?_
  refine Gm C<|Br (d:=9) C (λg9=>?_)<|λg9=>?_
  ·refine e9 (Ac fld54_3 C) (e9 (A7 ef) ?_)
   exact e9 (Bs C C)<|Gr (A3 C C)<|Ga C<|Ad<|Am (S1 2 C)<|Ay<|Aq<|A1 C C I Av ⟨(by first|exact congrArg Value.bool (decide_eq_decide.2<|by unfold endsE;omega)|exact congrArg Value.bool (decide_eq_true<|by unfold endsE;omega).symm|exact congrArg Value.bool (decide_eq_false<|by unfold endsE;omega).symm),rfl⟩
  exact eb<|eb<|eb<|Gr (Bd C C)<|Ga C<|Ad<|Am (S1 2 C)<|Ay<|Aq<|A1 C C I Av ⟨(by first|exact congrArg Value.bool (decide_eq_decide.2<|by unfold endsE;omega)|exact congrArg Value.bool (decide_eq_true<|by unfold endsE;omega).symm|exact congrArg Value.bool (decide_eq_false<|by unfold endsE;omega).symm),rfl⟩
 refine Aw<|Ah<|Af<|Gf fld54_2 C<|Gl ef ?_
 refine Gc0 (Aj c_ C C<|NodeE_ok e.u) ?_
 refine Gm C<|Br (d:=17) C (λZ=>?_)<|λZ=>?_
 ·refine e9 (Ac fld54_3 C) (e9 (A7 ef) ?_)
  refine Dm (Ch C C C) (Aj c_ C C<|NodeE_ok e.v) ?_
  rintro _ _ ⟨_,_,⟨rfl,rfl⟩,rfl,rfl⟩
  refine Gr (A3 C C)<|Gm C<|Br (d:=22) C (λM=>?_)<|λM=>?_
  ·refine e9 (Ac fld54_2 C) (e9 (A7 ef) ?_)
   refine e9 (Ac fld54_3 C)<|e9 (A7 ef) ?_
   exact e9 (Bn C C)<|Gr (A3 C C)<|Ga C<|Ad<|Am (S1 2 C)<|Ay<|A1 C C I Av ⟨(by first|exact congrArg Value.bool (decide_eq_decide.2<|by unfold endsE;omega)|exact congrArg Value.bool (decide_eq_true<|by unfold endsE;omega).symm|exact congrArg Value.bool (decide_eq_false<|by unfold endsE;omega).symm),rfl⟩
  exact eb<|eb<|eb<|eb<|eb<|Gr (Bd C C)<|Ga C<|Ad<|Am (S1 2 C)<|Ay<|A1 C C I Av ⟨(by first|exact congrArg Value.bool (decide_eq_decide.2<|by unfold endsE;omega)|exact congrArg Value.bool (decide_eq_true<|by unfold endsE;omega).symm|exact congrArg Value.bool (decide_eq_false<|by unfold endsE;omega).symm),rfl⟩
 exact eb<|eb<|eb<|Gr (Bd C C)<|Gm C<|eb<|eb<|eb<|eb<|eb<|Gr (Bd C C)<|Ga C<|Ad<|Am (S1 2 C)<|Ay<|A1 C C I Av ⟨(by first|exact congrArg Value.bool (decide_eq_decide.2<|by unfold endsE;omega)|exact congrArg Value.bool (decide_eq_true<|by unfold endsE;omega).symm|exact congrArg Value.bool (decide_eq_false<|by unfold endsE;omega).symm),rfl⟩
theorem CheckE_ok(e:Ev):eu prog κ 45 [.agg #[e7 (e.kd),e7 (e.tm),e7 (e.u),e7 (e.v),e7 (e.w),e7 (e.lb),e7 (e.sg)]] I (λr J=>r=e7 (checkE e)/\I=J):=by
 refine Ce1 Tryz.func45 C C ?_
 refine Af<|Ge1 (Bc (cs:=[_,_,_,_,_,_,_]) C C C) λb1=>Ga C<|Ad<|Ap<|A0<|Af<|Gf fld54_0 C<|Gl ef ?_
 refine Gr (Bb C C)<|Gm C<|Br (d:=7) C (λg7=>?_)<|λg7=>?_
 ·exact eb<|eb<|eb<|Gr (A3 C C)<|Ga C<|Ad<|Dp C<|Af<|Ga C<|Ad<|Am (S1 2 C)<|Ay<|Be<|Aq<|A1 C C I Av ⟨by rw [show checkE e=8 from checkE_eight om],rfl⟩
 refine e9 (Ac fld54_0 C)<|e9 (A7 ef) ?_
 refine e9 (Ck C C)<|Gr (Bd C C)<|Ga C<|Ad<|A8 C (λc3=>?_)<|λc3=>?_
 ·exact Af<|Ga C<|Ad<|Am (S1 2 C)<|Ay<|Be<|Aq<|A1 C C I Av ⟨by rw [show checkE e=8 from checkE_eight om],rfl⟩
 refine Af<|Gf fld54_1 C<|Gl ef ?_
 refine Gr (Bb C C)<|Gm C<|Br (d:=16) C (λai=>?_)<|λai=>?_
 ·exact eb<|eb<|eb<|Gr (A3 C C)<|Ga C<|Ad<|Am (S2 12 1 C C)<|Dp C<|Af<|Ga C<|Ad<|Ay<|Be<|Aq<|A1 C C I Av ⟨by rw [show checkE e=9 from checkE_nine om om],rfl⟩
 refine e9 (Ac fld54_1 C)<|e9 (A7 ef) ?_
 refine e9 (Ck C C)<|Gr (Bd C C)<|Ga C<|Ad<|Am (S2 12 1 C C)<|A8 C (λc12=>?_)<|λc12=>?_
 ·exact Af<|Ga C<|Ad<|Ay<|Be<|Aq<|A1 C C I Av ⟨by rw [show checkE e=9 from checkE_nine om om],rfl⟩
 refine Af<|Gl7 ty54 ?_
 refine Gc0 (Aj c_ C C<|EndsE_ok e) ?_
 refine Gr (Ea C)<|Ga C<|Ad<|A8 C (λah=>?_)<|λah=>?_
 ·exact Af<|Ga C<|Ad<|Ay<|Be<|Aq<|A1 C C I Av ⟨by rw [show checkE e=6 from checkE_six om om (by first|assumption|(unfold endsE;omega))],rfl⟩
 refine Af<|Gf fld54_0 C<|Gl ef ?_
 refine Gr (Bs C C)<|Gm C<|Br (d:=29) C (λad=>?_)<|λad=>?_
 ·refine e9 (Ac fld54_4 C) (e9 (A7 ef) ?_)
  refine e9 (Ac fld54_5 C)<|e9 (A7 ef) ?_
  refine e9 (Ac fld54_6 C)<|e9 (A7 ef) ?_
  refine Dm (Ch C C C) (Aj c_ C C<|RightW_ok e.w e.lb e.sg) ?_
  rintro _ _ ⟨_,_,⟨rfl,rfl⟩,rfl,rfl⟩
  refine e9 (Ea C)<|Gr (A3 C C)<|Ga C<|Ad<|Am (S2 25 1 C C)<|A8 C (λae=>?_)<|λae=>?_
  ·exact Af<|Ga C<|Ad<|Ay<|Be<|Aq<|A1 C C I Av ⟨by rw [show checkE e=1 from checkE_one om om (by first|assumption|exact Classical.not_not.1 asm|(unfold endsE;omega)) (by first|(exact .inr om)|exact .inl ⟨by omega,by assumption⟩|exact .inl ⟨by omega,λh=>by simp_all⟩)],rfl⟩
  refine Af<|Gf fld54_0 C<|Gl ef ?_
  refine Gr (Bn C C)<|Gm C<|Br (d:=43) C (λM=>?_)<|λM=>?_
  ·refine e9 (Ac fld54_4 C) (e9 (A7 ef) ?_)
   refine e9 (Bn C C)<|e9 (Ai C)<|Br (d:=47) C (λZ=>?_)<|λZ=>?_
   ·exact eb<|eb<|eb<|e9 (A3 C C)<|e9 (Ai C)<|eb<|eb<|eb<|e9 (A3 C C)<|Gr (A3 C C)<|Ga C<|Ad<|Am (S1 39 C)<|Dp C<|Af<|Ga C<|Ad<|Ay<|Be<|Aq<|A1 C C I Av ⟨by rw [show checkE e=1 from checkE_one om om (by first|assumption|exact Classical.not_not.1 asm|(unfold endsE;omega)) (by first|(exact .inr om)|exact .inl ⟨by omega,by assumption⟩|exact .inl ⟨by omega,λh=>by simp_all⟩)],rfl⟩
   refine e9 (Ac fld54_5 C)<|e9 (A7 ef) ?_
   refine e9 (Bn C C)<|e9 (Bd C C)<|e9 (Ai C)<|Br (d:=52) C (λab=>?_)<|λab=>?_
   ·exact eb<|eb<|eb<|e9 (A3 C C)<|Gr (A3 C C)<|Ga C<|Ad<|Am (S1 39 C)<|Dp C<|Af<|Ga C<|Ad<|Ay<|Be<|Aq<|A1 C C I Av ⟨by rw [show checkE e=1 from checkE_one om om (by first|assumption|exact Classical.not_not.1 asm|(unfold endsE;omega)) (by first|(exact .inr om)|exact .inl ⟨by omega,by assumption⟩|exact .inl ⟨by omega,λh=>by simp_all⟩)],rfl⟩
   refine e9 (Ac fld54_6 C)<|e9 (A7 ef) ?_
   refine e9 (Bn C C)<|e9 (Bd C C)<|Gr (A3 C C)<|Ga C<|Ad<|Am (S1 39 C)<|A8 C (λaa=>?_)<|λaa=>?_
   ·exact Af<|Ga C<|Ad<|Ay<|Be<|Aq<|A1 C C I Av ⟨by rw [show checkE e=1 from checkE_one om om (by first|assumption|exact Classical.not_not.1 asm|(unfold endsE;omega)) (by first|(exact .inr om)|exact .inl ⟨by omega,by assumption⟩|exact .inl ⟨by omega,λh=>by simp_all⟩)],rfl⟩
   exact Aw<|Al<|Ah<|Af<|Ga C<|Ad<|Ay<|A1 C C I Av ⟨by rw [show checkE e=0 from checkE_zero om om (by first|assumption|exact Classical.not_not.1 asm|(unfold endsE;omega)) (λh=>by first|(exfalso;omega)|assumption|exact Classical.not_not.1 asm) (λh=>by omega)],rfl⟩
  exact eb<|eb<|eb<|eb<|ee<|ee<|ee<|eb<|eb<|ee<|ee<|ee<|eb<|Gr (Bd C C)<|Ga C<|Ad<|Am (S1 39 C)<|Dw C<|Aw<|Al<|Ah<|Af<|Ga C<|Ad<|Ay<|A1 C C I Av ⟨by rw [show checkE e=0 from checkE_zero om om (by first|assumption|exact Classical.not_not.1 asm|(unfold endsE;omega)) (λh=>by first|(exfalso;omega)|assumption|exact Classical.not_not.1 asm) (λh=>by omega)],rfl⟩
 refine eb<|eb<|eb<|eb<|eb<|eb<|eb<|eb<|Gr (Bd C C)<|Ga C<|Ad<|Am (S2 25 1 C C)<|Dw C<|Af<|Gf fld54_0 C<|Gl ef ?_
 refine Gr (Bn C C)<|Gm C<|Br (d:=43) C (λM=>?_)<|λM=>?_
 ·refine e9 (Ac fld54_4 C) (e9 (A7 ef) ?_)
  refine e9 (Bn C C)<|e9 (Ai C)<|Br (d:=47) C (λZ=>?_)<|λZ=>?_
  ·exact eb<|eb<|eb<|e9 (A3 C C)<|e9 (Ai C)<|eb<|eb<|eb<|e9 (A3 C C)<|Gr (A3 C C)<|Ga C<|Ad<|Am (S1 39 C)<|Dp C<|Af<|Ga C<|Ad<|Ay<|Be<|Aq<|A1 C C I Av ⟨by rw [show checkE e=1 from checkE_one om om (by first|assumption|exact Classical.not_not.1 asm|(unfold endsE;omega)) (by first|(exact .inr om)|exact .inl ⟨by omega,by assumption⟩|exact .inl ⟨by omega,λh=>by simp_all⟩)],rfl⟩
  refine e9 (Ac fld54_5 C)<|e9 (A7 ef) ?_
  refine e9 (Bn C C)<|e9 (Bd C C)<|e9 (Ai C)<|Br (d:=52) C (λab=>?_)<|λab=>?_
  ·exact eb<|eb<|eb<|e9 (A3 C C)<|Gr (A3 C C)<|Ga C<|Ad<|Am (S1 39 C)<|Dp C<|Af<|Ga C<|Ad<|Ay<|Be<|Aq<|A1 C C I Av ⟨by rw [show checkE e=1 from checkE_one om om (by first|assumption|exact Classical.not_not.1 asm|(unfold endsE;omega)) (by first|(exact .inr om)|exact .inl ⟨by omega,by assumption⟩|exact .inl ⟨by omega,λh=>by simp_all⟩)],rfl⟩
  refine e9 (Ac fld54_6 C)<|e9 (A7 ef) ?_
  refine e9 (Bn C C)<|e9 (Bd C C)<|Gr (A3 C C)<|Ga C<|Ad<|Am (S1 39 C)<|A8 C (λaa=>?_)<|λaa=>?_
  ·exact Af<|Ga C<|Ad<|Ay<|Be<|Aq<|A1 C C I Av ⟨by rw [show checkE e=1 from checkE_one om om (by first|assumption|exact Classical.not_not.1 asm|(unfold endsE;omega)) (by first|(exact .inr om)|exact .inl ⟨by omega,by assumption⟩|exact .inl ⟨by omega,λh=>by simp_all⟩)],rfl⟩
  exact Aw<|Al<|Ah<|Af<|Ga C<|Ad<|Ay<|A1 C C I Av ⟨by rw [show checkE e=0 from checkE_zero om om (by first|assumption|exact Classical.not_not.1 asm|(unfold endsE;omega)) (λh=>by first|(exfalso;omega)|assumption|exact Classical.not_not.1 asm) (λh=>by omega)],rfl⟩
 exact eb<|eb<|eb<|eb<|ee<|ee<|ee<|eb<|eb<|ee<|ee<|ee<|eb<|Gr (Bd C C)<|Ga C<|Ad<|Am (S1 39 C)<|Dw C<|Aw<|Al<|Ah<|Af<|Ga C<|Ad<|Ay<|A1 C C I Av ⟨by rw [show checkE e=0 from checkE_zero om om (by first|assumption|exact Classical.not_not.1 asm|(unfold endsE;omega)) (λh=>by first|(exfalso;omega)|assumption|exact Classical.not_not.1 asm) (λh=>by omega)],rfl⟩
theorem FitsE_ok(nd:Int)(e:Ev):eu prog κ 170 [e7 nd,.agg #[e7 (e.kd),e7 (e.tm),e7 (e.u),e7 (e.v),e7 (e.w),e7 (e.lb),e7 (e.sg)]] I (λr J=>r=e7 (fitE nd e)/\I=J):=by
 refine Ce2 Tryz.func170 C C ?_
 refine Af<|Ge1 (Bc (cs:=[_,_,_,_,_,_,_]) C C C) λb1=>Ga C<|Ad<|Ap<|Af<|Gl7 ty54 ?_
 refine Gc0 (Aj c_ C C<|CheckE_ok e) ?_
 refine Ga C<|Ad<|Af<|Gm C<|Gr (Bn C C)<|Ad<|A8 C (λZ=>?_)<|λZ=>?_
 ·exact Af<|Gm C<|Ga C<|Ad<|Ay<|Aq<|A1 C C I Av ⟨by rw [show fitE nd e=checkE e from (by unfold fitE;rw [if_pos Z])],rfl⟩
 refine Aw<|Ah<|Ap<|Af<|Gf fld54_2 C<|Gl ef ?_
 refine Gm C<|Gr (C3 C C)<|Gm C<|Br (d:=15) C (λM=>?_)<|λM=>?_
 ·exact eb<|eb<|eb<|eb<|Gr (A3 C C)<|Ad<|Am (S1 20 C)<|Dp C<|Af<|Ga C<|Ad<|Ay<|Aq<|A1 C C I Av ⟨by rw [show fitE nd e=6 from (by unfold fitE;rw [if_neg Z,if_pos om])],rfl⟩
 refine e9 (Ac fld54_3 C)<|e9 (A7 ef) ?_
 refine e9 (Ai C)<|e9 (C3 C C)<|Gr (Bd C C)<|Ad<|Am (S1 20 C)<|A8 C (λaa=>?_)<|λaa=>?_
 ·exact Af<|Ga C<|Ad<|Ay<|Aq<|A1 C C I Av ⟨by rw [show fitE nd e=6 from (by unfold fitE;rw [if_neg Z,if_pos om])],rfl⟩
 exact Aw<|Ah<|Af<|Ga C<|Ad<|Ay<|A1 C C I Av ⟨by rw [show fitE nd e=0 from (by unfold fitE;rw [if_neg Z,if_neg om])],rfl⟩

variable {κ:Ctx}{I:List Item}
theorem ov219:∀Z w,(callFunc 219 Z).run prog w=((Extern.SlicesOverlaps.overlaps #[33,33] #[4] Z).run prog w).andThen λv w'=> .ok (.value v) w':=λZ w=>run_callFunc_extern (e:=Extern.SlicesOverlaps.overlaps #[33,33] #[4]) Tryz.func219 kr kr kr kr Z w
theorem InsertL_ok(hi:i<=xs.length)(hy:0<ys.length)(ap:xs.length+ys.length<=1000000000):eu prog κ 210 [.slice a xs.length c,e7 ((i:Int)),.slice va ys.length Z] (vc 82 (.slice a xs.length c) (xs)::vc 82 (.slice va ys.length Z) (ys)::I) (λr J=>∃a' c',r = .slice a' (List.take i xs++ys++List.drop i xs).length c'/\J=vc 82 (.slice a' (List.take i xs++ys++List.drop i xs).length c') (List.take i xs++ys++List.drop i xs)::I):=by
 refine B9 (vc.cap List.mem_cons_self) λao=>?_
 have ab:(List.take i xs++ys++List.drop i xs).length=xs.length+ys.length:=by simp only [List.length_append,List.length_take,List.length_drop];omega
 refine Ce3 Tryz.func210 C C ?_
 refine Af<|Ga C<|Ad<|Af<|Gm C<|Gm C<|Gr (Es (α:=Lk) (xs:=xs) (l:=i) A4 ty82 C C om Bh lat)<|Ad<|Af<|Gm C<|Gr (Bj A4 C)<|Ga C<|Ad<|Ap<|Af<|Gm C<|Gr (Bs C C)<|Ad<|A8 C (λae=>?_)<|λae=>?_
 ·exact absurd ae om
 refine Aw<|Ah<|Af<|Gm C<|Gr (Bj A4 C)<|Ga C<|Ad<|Am (S5 8 7 0 1 2 C C C C C)<|Ap<|Af<|Gm C<|Gm C<|Gr (Bs C C)<|Ad<|A8 C (λaj=>?_)<|λaj=>?_
 ·refine Af (Gm C<|Gm C<|Ge2 (Cp (α:=Lk) (e:=82) (xs:=xs) (ys:=ys) A4 ty82 C C C mm Bh om dc C<|λ_ _=>am) λaa ah=>?_)
  refine Ga C<|Ad<|Ay<|Aq ?_
  have hR:List.take i xs++ys++List.drop i xs=xs++ys:=by rw [List.take_of_length_le om,List.drop_eq_nil_of_le om,List.append_nil]
  exact A1 C C (vc 82 (.slice aa (List.take i xs++ys++List.drop i xs).length ah) (List.take i xs++ys++List.drop i xs)::I) (by rw [hR];exact Bm) ⟨aa,ah,by rw [hR],rfl⟩
 refine Aw<|Ah<|Ap<|Af<|Gm C<|Gm C<|Gr (Rad C C)<|Gm C<|Gr (Runs.caps A4 C)<|Gr (Ck C C)<|Ad<|Am (S6 31 8 7 0 1 2 C C C C C C)<|A8 C (λak=>?_)<|λak=>?_
 ·refine Af (Gm C<|Gm C<|Gr (Eu (h:=i) A4 ty82 C C om om)<|Gm C<|Gm C<|Gr (Rad C C)<|Gm C<|Gr (Rsu C C)<|Ge2 (Eff.grow (α:=Lk) (xs:=xs) (k:=xs.length+ys.length - i) A4 Cb ty82 C C C om Bh om om om om dc C) λad M=>?_)
  refine Ga C<|G.pull (p:=(List.take i xs++List.replicate (xs.length+ys.length - i) (default:Lk)).length<=M) (vc.cap mm) λan=>?_
  have aq:(List.take i xs++List.replicate (xs.length+ys.length - i) (default:Lk)).length=xs.length+ys.length:=by simp only [List.length_append,List.length_take,List.length_replicate];omega
  refine Ad<|Am (S5 9 7 0 1 2 C C C C C)<|Af<|Gm C<|Gm C<|Gr (Es (α:=Lk) (xs:=List.take i xs++List.replicate (xs.length+ys.length - i) (default:Lk)) (l:=i) A4 ty82 C C om Bh lat)<|Gm C<|Ge0 (Fa (α:=Lk) (k:=i) (q:=ys.length) (R:=List.take i xs++ys++List.replicate (xs.length - i) (default:Lk)) (n:=(i+(xs.length+ys.length - i))) A4 ty82 C lat C Bh lat lat C (ins1 hi) lat am) ?_
  refine Ad<|Ap<|Bq mixed<|Cc I 9<|Dr 0 C (Ai C)<|Dr 1 C (Ai C)<|Dr 2 C (Ai C)<|Dr 3 C (Rad C C)<|Dr 4 C (Cz (l:=(i+ys.length)) A4 ty82 C C om om om)<|Dr 5 C (Ai C)<|Dr 6 C (Ai C)<|Dr 7 C (Cz (l:=i) A4 ty82 C C om om om)<|Ds1 8<|Se0 C (Fa (α:=Lk) (k:=(i+ys.length)) (q:=(xs.length - i)) (R:=List.take i xs++ys++List.drop i xs) (n:=(i+(xs.length+ys.length - i))) A4 ty82 C lat C (Sl.dropn (C8 (xs:=xs) mm) om om) lat lat C (ins2 hi) lat am) ?_
  exact Dz<|Ah<|Am (S1 9 C)<|Af<|Gm C<|Ga C<|Ad<|Ay<|Aq<|A1 C C (vc 82 (.slice ad (List.take i xs++ys++List.drop i xs).length M) (List.take i xs++ys++List.drop i xs)::I) (by rw [show (List.take i xs++ys++List.drop i xs).length=i+(xs.length+ys.length - i) by omega];exact Bm) ⟨ad,M,by rw [show (List.take i xs++ys++List.drop i xs).length=i+(xs.length+ys.length - i) by omega],rfl⟩
 refine Aw<|Ah<|Af<|Gm C<|Gm C<|Gm C<|Gr (Rad C C)<|Gr (Eu (h:=xs.length+ys.length) A4 ty82 C C om om)<|Ga C<|G.room (h:=xs.length+ys.length) (by repeat (first|exact AtF.head _ _|apply AtF.tail)) C om om<|λjs ai=>?_
 show G prog κ _ _ _ _ ([(0,.slice a (xs.length+ys.length) c),(60,.slice a (xs.length+ys.length) c),(59,e7<|((xs.length:Nat):Int)+((ys.length:Nat):Int)),(58,e7 ((ys.length:Nat):Int)),(57,e7 ((xs.length:Nat):Int)),(56,.slice a xs.length c),(31,.bool<|decide<|(c:Int)<(((xs.length:Nat):Int)+((ys.length:Nat):Int))),(8,e7 ((xs.length:Nat):Int)),(7,e7 ((ys.length:Nat):Int)),(0,.slice a xs.length c),(1,e7<|(i:Int)),(2,.slice va ys.length Z)]:Env) (vec 82 (Enc.sz Lk) (.slice a (xs.length+ys.length) c) (xs.length+ys.length) (cells xs++js)::vc 82 (.slice va ys.length Z) (ys)::I)
 refine Ad<|Ap<|Af<|Gm C<|Gm C<|Gm C<|Gm C<|Gr (Rad C C)<|Gr (Cz (l:=(i+ys.length)) A4 ty82 C C om om om)<|Ge0 (Eff.overlaps (k:=i+ys.length) ov219 A4 ty82 C C om om om (show Fit κ _ (vc 82 (.slice va ys.length Z) ys::vec 82 (Enc.sz Lk) (.slice a (xs.length+ys.length) c) (xs.length+ys.length) (cells xs++js)::I) from Fit.sp (Sp.pick (Pick.tail _<|Pick.head _ _)<|Sp.refl _)) (Nat.mul_pos om Enc.pos) C) ?_
 refine Gr (Cr C)<|Ad<|Am (S6 68 0 8 7 1 2 C C C C C C)<|Dp C<|Ap<|Bq mixed<|Cc I 9<|Dr 0 C (Ai C)<|Dr 1 C (Ai C)<|Dr 2 C (Ai C)<|Dr 3 C (Rad C C)<|Dr 4 C (Cz (l:=(i+ys.length)) A4 ty82 C C om om om)<|Dr 5 C (Ai C)<|Dr 6 C (Ai C)<|Dr 7 C (Cz (l:=i) A4 ty82 C C om om om)<|Ds1 8<|Se0 C (Eff.copyR (sz:=Enc.sz Lk) (n:=xs.length+ys.length) (cs:=(cells xs++js)) (k:=(i+ys.length)) (q:=(xs.length - i)) A4 ty82 C om C (SlRd.dropR (SlRd.vec mm) om) om om (ins_one hi) C am) ?_
 show D prog κ _ _ _ _ _ _ _ ([(77,e7<|(((xs.length - i):Nat):Int)),(76,.slice (adrop a c i<|Enc.sz Lk) ((xs.length+ys.length) - i)<|c - i),(75,e7<|(i:Int)),(74,.slice a (xs.length+ys.length) c),(73,.slice (adrop a c (i+ys.length)<|Enc.sz Lk) ((xs.length+ys.length) - (i+ys.length))<|c - (i+ys.length)),(72,e7<|(i:Int)+((ys.length:Nat):Int)),(71,e7 ((ys.length:Nat):Int)),(70,e7<|(i:Int)),(69,.slice a (xs.length+ys.length) c),(68,.bool true),(0,.slice a (xs.length+ys.length) c),(8,e7 ((xs.length:Nat):Int)),(7,e7 ((ys.length:Nat):Int)),(1,e7<|(i:Int)),(2,.slice va ys.length Z)]:Env) (vec 82 (Enc.sz Lk) (.slice a (xs.length+ys.length) c) (xs.length+ys.length) (List.take ((i+ys.length)*Enc.sz Lk) (cells xs++js)++List.take ((xs.length - i)*Enc.sz Lk) (List.drop (i*Enc.sz Lk)<|cells xs++js)++List.drop ((i+ys.length)*Enc.sz Lk+(xs.length - i)*Enc.sz Lk) (cells xs++js))::vc 82 (.slice va ys.length Z) (ys)::I)
 refine Dz<|Ah<|Am (S3 0 1 2 C C C)<|Af<|Gm C<|Gm C<|Gr (Cz (l:=i) A4 ty82 C C om om om)<|Gm C<|Ge0 (Eff.copyR (sz:=Enc.sz Lk) (n:=xs.length+ys.length) (cs:=(List.take ((i+ys.length)*Enc.sz Lk) (cells xs++js)++List.take ((xs.length - i)*Enc.sz Lk) (List.drop (i*Enc.sz Lk)<|cells xs++js)++List.drop ((i+ys.length)*Enc.sz Lk+(xs.length - i)*Enc.sz Lk) (cells xs++js))) (k:=i) (q:=ys.length) A4 ty82 C om C (show Sl κ _ (.slice va ys.length Z) ys from (C8 (e:=82) (xs:=ys) mm)) om om (λu hu=>cells_one ys u<|List.mem_of_mem_take hu) C am) ?_
 show G prog κ _ _ _ _ ([(82,e7 ((ys.length:Nat):Int)),(81,.slice va ys.length Z),(80,.slice (adrop a c i<|Enc.sz Lk) ((xs.length+ys.length) - i)<|c - i),(79,e7<|(i:Int)),(78,.slice a (xs.length+ys.length) c),(0,.slice a (xs.length+ys.length) c),(1,e7<|(i:Int)),(2,.slice va ys.length Z)]:Env) (vec 82 (Enc.sz Lk) (.slice a (xs.length+ys.length) c) (xs.length+ys.length) (List.take (i*Enc.sz Lk) (List.take ((i+ys.length)*Enc.sz Lk) (cells xs++js)++List.take ((xs.length - i)*Enc.sz Lk) (List.drop (i*Enc.sz Lk)<|cells xs++js)++List.drop ((i+ys.length)*Enc.sz Lk+(xs.length - i)*Enc.sz Lk) (cells xs++js))++List.take (ys.length*Enc.sz Lk) (cells ys)++List.drop (i*Enc.sz Lk+ys.length*Enc.sz Lk) (List.take ((i+ys.length)*Enc.sz Lk) (cells xs++js)++List.take ((xs.length - i)*Enc.sz Lk) (List.drop (i*Enc.sz Lk)<|cells xs++js)++List.drop ((i+ys.length)*Enc.sz Lk+(xs.length - i)*Enc.sz Lk) (cells xs++js)))::vc 82 (.slice va ys.length Z) (ys)::I)
 refine Ad<|Af<|Gm C<|Ga C<|Ad<|Ay<|Aq ?_
 have hC:(List.take (i*Enc.sz Lk) (List.take ((i+ys.length)*Enc.sz Lk) (cells xs++js)++List.take ((xs.length - i)*Enc.sz Lk) (List.drop (i*Enc.sz Lk)<|cells xs++js)++List.drop ((i+ys.length)*Enc.sz Lk+(xs.length - i)*Enc.sz Lk) (cells xs++js))++List.take (ys.length*Enc.sz Lk) (cells ys)++List.drop (i*Enc.sz Lk+ys.length*Enc.sz Lk) (List.take ((i+ys.length)*Enc.sz Lk) (cells xs++js)++List.take ((xs.length - i)*Enc.sz Lk) (List.drop (i*Enc.sz Lk)<|cells xs++js)++List.drop ((i+ys.length)*Enc.sz Lk+(xs.length - i)*Enc.sz Lk) (cells xs++js)))=cells (List.take i xs++ys++List.drop i xs):=ins_cells hi ai
 exact A1 C C (vc 82 (.slice a (List.take i xs++ys++List.drop i xs).length c) (List.take i xs++ys++List.drop i xs)::I) (by rw [hC];show Fit κ _ (vec 82 _ (.slice a (List.take i xs++ys++List.drop i xs).length c) (List.take i xs++ys++List.drop i xs).length (cells<|List.take i xs++ys++List.drop i xs)::I);rw [ab];exact Bm) ⟨a,c,by rw [ab],rfl⟩
theorem InsertL_two{n m:Nat}{K:List Item}(hf:Fit κ I (vc 82 (.slice a n c) xs::vc 82 (.slice va m Z) ys::K))(hn:n=xs.length)(hm:m=ys.length)(hi:i<=xs.length)(hy:0<ys.length)(M:xs.length+ys.length<=1000000000):eu prog κ 210 [.slice a n c,e7 (i:Int),.slice va m Z] I (λr J=>∃a' c',r = .slice a' (List.take i xs++ys++List.drop i xs).length c'/\J=vc 82 (.slice a' (List.take i xs++ys++List.drop i xs).length c') (List.take i xs++ys++List.drop i xs)::K):=by
 subst hn hm
 exact Cn hf<|InsertL_ok hi hy M
theorem BSearchL{v:Value}(hl:Sl κ I v xs)(x:Lk){g:FuncId}{Z:List Value}{cf:Lk->Lk->Int}(M:Cmps prog κ I g Z cf)(an:xs.length<=1000000000000):eu prog κ 209 [v,.agg #[e7 (x.u),e7 (x.v),e7 (x.w),e7 (x.lb),e7 (x.sg),e7 (x.tm)],.func (.func g) #[] Z.toArray] I (λr J=>∃i b,r = .tuple #[e7 ((i:Nat):Int),.bool b]/\BFound cf xs x i b/\I=J):=by
 refine B9 hl.le λaj=>?_
 refine Ce3 Tryz.func209 C C ?_
 refine Af<|Ge1 (Bc (cs:=[_,_,_,_,_,_]) C C C) λb1=>Ga C<|Ga C<|Ad<|Af<|Gm C<|Gr (B5 (α:=Lk) (xs:=xs) A4 C<|A6 hl)<|Ga C<|Ad<|Af<|Gm C<|Ga C<|Ga C<|Ad<|Ap<|A0<|B1 (σ:=Nat×Nat) (λs=>([(0,v),(2,.func (.func g) #[] Z.toArray),(4,.pointer<|some ⟨b1,0,none⟩),(8,e7 ((xs.length:Nat):Int)),(9,e7 ((s.1:Nat):Int)),(10,e7 ((s.2:Nat):Int))]:Env)) (λs=>e8 b1 [e7 (x.u),e7<|x.v,e7<|x.w,e7<|x.lb,e7<|x.sg,e7<|x.tm] 82::I) (λs=>(s.1<=s.2)/\(s.2<=xs.length)/\(0<s.1->cf (e_ xs<|(s.1:Int) - 1) x<0)/\(s.2<xs.length->¬cf (e_ xs s.2) x<0)) (λs=>s.2 - s.1) (0,xs.length) (show ((0:Nat)<=(xs.length:Nat))/\((xs.length:Nat)<=xs.length)/\(0<(0:Nat)->cf (e_ xs<|((0:Nat):Int) - 1) x<0)/\((xs.length:Nat)<xs.length->¬cf (e_ xs ((xs.length:Nat):Int)) x<0) from ⟨om,om,(λh=>absurd h dc),(λh=>absurd h om)⟩) (Aa C<|Aa C<|Aa C<|Aa C<|Aa Cd<|Aa Cd Bl) (show Fit κ _ (e8 b1 [e7 (x.u),e7<|x.v,e7<|x.w,e7<|x.lb,e7<|x.sg,e7<|x.tm] 82::I) from Bf) ?_
 rintro ⟨i,j⟩ hp
 dsimp only at hp ⊢
 obtain ⟨ak,hj,aa,ae⟩:=hp
 refine Ap<|Af<|Gm C<|Gm C<|Gr (Bb C C)<|Ad<|A8 C (λai=>?_)<|λai=>?_
 ·refine Aw (Ah<|A0<|Af<|Gm C<|Gm C<|Gr (Rad C C)<|Gr (Runs.convU Cb D1 C om)<|Gr (Runs.shr1 C C)<|Gr (Runs.convI D1 Cb C<|by unfold InR;omega)<|Ga C<|Ad<|Am (S7 11 0 2 4 8 9 10 C C C C C C C)<|Ap<|Bq mixed<|Cc (e8 b1 [e7 (x.u),e7<|x.v,e7<|x.w,e7<|x.lb,e7<|x.sg,e7<|x.tm] 82::I) 8<|Dr 0 C (Ai C)<|Dr 1 C (Ai C)<|Dr 2 C (Ai C)<|Dr 3 C (Az (α:=Lk) (xs:=xs) A4 ty82 C C (A6 hl) om om)<|Dr 4 C (B2 (α:=Lk) (xs:=xs) ty82 C (A6 hl) om om)<|Dr 5 C (A5 (vs:=[_,_,_,_,_,_]) ty82) ?_)
  refine Ds1 6<|Se C (Cs M.1 (first:=[]) (caps:=Z) C C C<|M.2 (e_ xs<|((i:Int)+(j:Int)) / 2) x _ Av) ?_
  rintro _ _ ⟨_,_,⟨rfl,rfl⟩,rfl,rfl⟩
  refine ⟨Bf,?_⟩
  refine Dr 7 C (Bb C C)<|Dz<|Ah<|Am (S8 31 11 0 2 4 8 9 10 C C C C C C C C)<|A8 C (λab=>?_)<|λab=>?_
  ·exact Au<|Gm C<|Gr (Rad C C)<|Ga C<|Bo<|Al<|Cf (((i+j) / 2+1),(j))<|by dsimp only;exact ⟨om,om,(λ_=>by rw [show (((i+j) / 2+1:Nat):Int) - 1=((i:Int)+(j:Int)) / 2 by omega];exact ab),ae⟩
  exact Au<|Gm C<|Ga C<|Bo<|Al<|Cf ((i),((i+j) / 2))<|by dsimp only;exact ⟨om,om,aa,(λ_=>by rw [show (((i+j) / 2:Nat):Int)=((i:Int)+(j:Int)) / 2 by omega];exact ab)⟩
 refine Bx<|Ao<|Ao<|A9<|Ah<|Ap<|Bq mixed<|Cc (e8 b1 [e7 (x.u),e7<|x.v,e7<|x.w,e7<|x.lb,e7<|x.sg,e7<|x.tm] 82::I) 16<|Dr 0 C (Ai C)<|Dr 1 C (Ai C)<|Dr 2 C (Ai C)<|Dr 3 C (Bb C C)<|Dr 4 C (Ai C)<|Ey (d:=39) C (λah=>?_)<|λah=>?_
 ·refine Dro 5 C (Ai C) (Dro 6 C (Ai C)<|Dro 7 C (Ai C)<|Dro 8 C (Az (α:=Lk) (xs:=xs) A4 ty82 C C (A6 hl) om om)<|Dro 9 C (B2 (α:=Lk) (xs:=xs) ty82 C (A6 hl) om om)<|Dro 10 C (A5 (vs:=[_,_,_,_,_,_]) ty82) ?_)
  refine Ds1 11<|Se C (Cs M.1 (first:=[]) (caps:=Z) C C C<|M.2 (e_ xs i) x _ Av) ?_
  rintro _ _ ⟨_,_,⟨rfl,rfl⟩,rfl,rfl⟩
  refine ⟨Bf,?_⟩
  refine Dro 12 C (Bs C C)<|Dr 13 C (A3 C C)<|Dr 14 C (Ba C)<|Dr 15 C (Ba C)<|Dz<|Ah<|Am (S2 7 6 C C)<|Ay ?_
  have ad:i=j:=by omega
  subst ad
  exact De C C C I Av ⟨i,_,rfl,⟨hj,aa,ae,(decide_eq_decide.2 ⟨λh=>⟨by omega,h⟩,λh=>h.2⟩)⟩,rfl⟩
 refine Dpo 5 C<|Dpo 6 C<|Dpo 7 C<|Dpo 8 C<|Dpo 9 C<|Dpo 10 C<|Dpo 11 C<|Dpo 12 C<|Dr 13 C (Bd C C)<|Dr 14 C (Ba C)<|Dr 15 C (Ba C)<|Dz<|Ah<|Am (S2 7 6 C C)<|Ay ?_
 have ad:i=j:=by omega
 subst ad
 exact De C C C I Av ⟨i,_,rfl,⟨hj,aa,ae,((decide_eq_false<|λh=>by omega).symm)⟩,rfl⟩
theorem OrderL_cmps:Cmps prog κ I 144 [] Lk.cmp:=⟨c_,λx y J Z=>OrderL_ok x y⟩


variable {κ:Ctx}{I:List Item}
theorem hitE_two{e:Ev}{l:Lk}(h:e.kd=2):hitE e l=decide (l.u=(if e.v<e.u then e.v else e.u)/\l.v=(if e.u<e.v then e.v else e.u)):=by unfold hitE;rw [if_pos h];rfl
theorem hitE_oth{e:Ev}{l:Lk}(h:¬e.kd=2):hitE e l=decide (l.u=e.u\/l.v=e.u):=by unfold hitE;rw [if_neg h]
theorem Step1_ok{e:Ev}(hk:e.kd=2)(Z:BlkRd κ I b [e7 (e.kd),e7 (e.tm),e7 (e.u),e7 (e.v),e7 (e.w),e7 (e.lb),e7 (e.sg)] 54)(x:Lk):eu prog κ 186 [.agg #[e7 (x.u),e7 (x.v),e7 (x.w),e7 (x.lb),e7 (x.sg),e7 (x.tm)],.pointer (some ⟨b,0,none⟩)] I (λr J=>r = .bool (hitE e x)/\I=J):=by
 refine Ce2 Tryz.func186 C C ?_
 refine Af<|Ge1 (Bc (cs:=[_,_,_,_,_,_]) C C C) λb1=>Ga C<|Ad<|Af<|Gf fld82_0 C<|Gl ef ?_
 refine Gf fld54_2 C<|Gr (D6 ef C (Ei Z Av) C)<|Gf fld54_3 C<|Gr (D6 ef C (Ei Z Av) C)<|Gr (Er C C)<|Gr (Bs C C)<|Gm C<|Br (d:=12) C (λM=>?_)<|λM=>?_
 ·refine e9 (Ac fld82_1 C) (e9 (A7 ef) ?_)
  exact e9 (Ac fld54_2 C)<|e9 (D6 ef C (Ei Z Av) C)<|e9 (Ac fld54_3 C)<|e9 (D6 ef C (Ei Z Av) C)<|e9 (Do C C)<|e9 (Bs C C)<|Gr (A3 C C)<|Ga C<|Ad<|Am (S1 3 C)<|Ay<|A1 C C I Av ⟨by rw [hitE_two hk];exact (by first|exact congrArg Value.bool (decide_eq_decide.2<|by skip;omega)|exact congrArg Value.bool (decide_eq_true<|by skip;omega).symm|exact congrArg Value.bool (decide_eq_false<|by skip;omega).symm),rfl⟩
 exact eb<|eb<|eb<|eb<|eb<|eb<|eb<|eb<|Gr (Bd C C)<|Ga C<|Ad<|Am (S1 3 C)<|Ay<|A1 C C I Av ⟨by rw [hitE_two hk];exact (by first|exact congrArg Value.bool (decide_eq_decide.2<|by skip;omega)|exact congrArg Value.bool (decide_eq_true<|by skip;omega).symm|exact congrArg Value.bool (decide_eq_false<|by skip;omega).symm),rfl⟩
theorem Step1_says{e:Ev}(Z:e.kd=2)(hb:BlkRd κ I b [e7 (e.kd),e7 (e.tm),e7 (e.u),e7 (e.v),e7 (e.w),e7 (e.lb),e7 (e.sg)] 54):Says prog κ I 186 [.pointer (some ⟨b,0,none⟩)] (hitE e):=⟨c_,λx J M=>Step1_ok Z (hb.fit M) x⟩
theorem Step2_ok{e:Ev}(M:¬e.kd=2)(Z:BlkRd κ I b [e7 (e.kd),e7 (e.tm),e7 (e.u),e7 (e.v),e7 (e.w),e7 (e.lb),e7 (e.sg)] 54)(x:Lk):eu prog κ 187 [.agg #[e7 (x.u),e7 (x.v),e7 (x.w),e7 (x.lb),e7 (x.sg),e7 (x.tm)],.pointer (some ⟨b,0,none⟩)] I (λr J=>r = .bool (hitE e x)/\I=J):=by
 refine Ce2 Tryz.func187 C C ?_
 refine Af<|Ge1 (Bc (cs:=[_,_,_,_,_,_]) C C C) λb1=>Ga C<|Ad<|Af<|Gf fld82_0 C<|Gl ef ?_
 refine Gf fld54_2 C<|Gr (D6 ef C (Ei Z Av) C)<|Gr (Bs C C)<|Gm C<|Br (d:=9) C (λg9=>?_)<|λg9=>?_
 ·exact eb<|eb<|eb<|eb<|eb<|Gr (A3 C C)<|Ga C<|Ad<|Am (S1 3 C)<|Ay<|A1 C C I Av ⟨by rw [hitE_oth M];exact (by first|exact congrArg Value.bool (decide_eq_decide.2<|by skip;omega)|exact congrArg Value.bool (decide_eq_true<|by skip;omega).symm|exact congrArg Value.bool (decide_eq_false<|by skip;omega).symm),rfl⟩
 refine e9 (Ac fld82_1 C)<|e9 (A7 ef) ?_
 exact e9 (Ac fld54_2 C)<|e9 (D6 ef C (Ei Z Av) C)<|e9 (Bs C C)<|Gr (Bd C C)<|Ga C<|Ad<|Am (S1 3 C)<|Ay<|A1 C C I Av ⟨by rw [hitE_oth M];exact (by first|exact congrArg Value.bool (decide_eq_decide.2<|by skip;omega)|exact congrArg Value.bool (decide_eq_true<|by skip;omega).symm|exact congrArg Value.bool (decide_eq_false<|by skip;omega).symm),rfl⟩
theorem Step2_says{e:Ev}(Z:¬e.kd=2)(hb:BlkRd κ I b [e7 (e.kd),e7 (e.tm),e7 (e.u),e7 (e.v),e7 (e.w),e7 (e.lb),e7 (e.sg)] 54):Says prog κ I 187 [.pointer (some ⟨b,0,none⟩)] (hitE e):=⟨c_,λx J M=>Step2_ok Z (hb.fit M) x⟩



end Go.Sl
namespace Go.Proofs
def Tryz.sortI_ren:Go.Shelf.Ren:=⟨fun |5=>163|8=>181|7=>180|19=>207|20=>208|10=>198|11=>199|12=>200|13=>201|14=>202|15=>203|16=>204|17=>205|18=>206|30=>214|31=>215|32=>216|33=>217|34=>218|35=>179|40=>222|n=>n,fun |23=>22|25=>3|3=>3|32=>233|22=>22|0=>0|44=>251|46=>207|4=>4|36=>244|35=>243|41=>225|5=>5|9=>9|53=>256|57=>260|63=>265|64=>266|n=>n,fun |n=>n⟩
theorem Tryz.sortI:Go.Proofs.SlLaysM.n5 prog Tryz.sortI_ren:={
 mixed:=by kernel_rfl,
 f5:=⟨Tryz.f163.name,by decide,Tryz.func163.trans<|congrArg some<|by kernel_rfl⟩,
 f7:=⟨Tryz.f180.name,by decide,Tryz.func180.trans<|congrArg some<|by kernel_rfl⟩,
 f8:=Tryz.func181.trans (congrArg some<|by kernel_rfl),
 f10:=⟨Tryz.f198.name,by decide,Tryz.func198.trans<|congrArg some<|by kernel_rfl⟩,
 f11:=⟨Tryz.f199.name,by decide,Tryz.func199.trans<|congrArg some<|by kernel_rfl⟩,
 f12:=⟨Tryz.f200.name,by decide,Tryz.func200.trans<|congrArg some<|by kernel_rfl⟩,
 f13:=⟨Tryz.f201.name,by decide,Tryz.func201.trans<|congrArg some<|by kernel_rfl⟩,
 f14:=⟨Tryz.f202.name,by decide,Tryz.func202.trans<|congrArg some<|by kernel_rfl⟩,
 f15:=⟨Tryz.f203.name,by decide,Tryz.func203.trans<|congrArg some<|by kernel_rfl⟩,
 f16:=⟨Tryz.f204.name,by decide,Tryz.func204.trans<|congrArg some<|by kernel_rfl⟩,
 f17:=⟨Tryz.f205.name,by decide,Tryz.func205.trans<|congrArg some<|by kernel_rfl⟩,
 f18:=⟨Tryz.f206.name,by decide,Tryz.func206.trans<|congrArg some<|by kernel_rfl⟩,
 f19:=Tryz.func207.trans (congrArg some<|by kernel_rfl),
 f20:=Tryz.func208.trans (congrArg some<|by kernel_rfl),
 f30:=⟨Tryz.f214.name,by decide,Tryz.func214.trans<|congrArg some<|by kernel_rfl⟩,
 f31:=Tryz.func215.trans (congrArg some<|by kernel_rfl),
 f32:=Tryz.func216.trans (congrArg some<|by kernel_rfl),
 f33:=⟨Tryz.f217.name,by decide,Tryz.func217.trans<|congrArg some<|by kernel_rfl⟩,
 f34:=⟨Tryz.f218.name,by decide,Tryz.func218.trans<|congrArg some<|by kernel_rfl⟩,
 f35:=⟨Tryz.f179.name,by decide,Tryz.func179.trans<|congrArg some<|by kernel_rfl⟩,
 f40:=⟨Tryz.f222.name,by decide,Tryz.func222.trans<|congrArg some<|by kernel_rfl⟩,
 t0:=Tryz.underlying0,
 a0:=Tryz.isAgg0,
 z0:=Tryz.sizeOf0,
 v0:=Tryz.zeroValue0,
 t3:=Tryz.underlying3,
 a3:=Tryz.isAgg3,
 z3:=Tryz.sizeOf3,
 v3:=Tryz.zeroValue3,
 t4:=Tryz.underlying4,
 a4:=Tryz.isAgg4,
 z4:=Tryz.sizeOf4,
 v4:=Tryz.zeroValue4,
 t5:=Tryz.underlying5,
 a5:=Tryz.isAgg5,
 z5:=Tryz.sizeOf5,
 v5:=Tryz.zeroValue5,
 t9:=Tryz.underlying9,
 a9:=Tryz.isAgg9,
 z9:=Tryz.sizeOf9,
 v9:=Tryz.zeroValue9,
 t22:=Tryz.underlying22,
 a22:=Tryz.isAgg22,
 z22:=Tryz.sizeOf22,
 v22:=Tryz.zeroValue22,
 t23:=Tryz.underlying22,
 a23:=Tryz.isAgg22,
 z23:=Tryz.sizeOf22,
 v23:=Tryz.zeroValue22,
 t25:=Tryz.underlying3,
 a25:=Tryz.isAgg3,
 z25:=Tryz.sizeOf3,
 v25:=Tryz.zeroValue3,
 t32:=Tryz.underlying233,
 a32:=Tryz.isAgg233,
 z32:=Tryz.sizeOf233,
 v32:=Tryz.zeroValue233,
 t35:=Tryz.underlying243,
 a35:=Tryz.isAgg243,
 z35:=Tryz.sizeOf243,
 v35:=Tryz.zeroValue243,
 t36:=Tryz.underlying244,
 a36:=Tryz.isAgg244,
 z36:=Tryz.sizeOf244,
 v36:=Tryz.zeroValue244,
 t41:=Tryz.underlying225,
 a41:=Tryz.isAgg225,
 z41:=Tryz.sizeOf225,
 v41:=Tryz.zeroValue225,
 t44:=Tryz.underlying251,
 a44:=Tryz.isAgg251,
 z44:=Tryz.sizeOf251,
 v44:=Tryz.zeroValue251,
 t46:=Tryz.underlying207,
 a46:=Tryz.isAgg207,
 z46:=Tryz.sizeOf207,
 v46:=Tryz.zeroValue207,
 t53:=Tryz.underlying256,
 a53:=Tryz.isAgg256,
 z53:=Tryz.sizeOf256,
 v53:=Tryz.zeroValue256,
 t57:=Tryz.underlying260,
 a57:=Tryz.isAgg260,
 z57:=Tryz.sizeOf260,
 v57:=Tryz.zeroValue260,
 t63:=Tryz.underlying265,
 a63:=Tryz.isAgg265,
 z63:=Tryz.sizeOf265,
 v63:=Tryz.zeroValue265,
 t64:=Tryz.underlying266,
 a64:=Tryz.isAgg266,
 z64:=Tryz.sizeOf266,
 v64:=Tryz.zeroValue266}
end Go.Proofs
namespace Go.Sl
open Go.Proofs Go.Shelf Go.RowKit Go.Lib Go.Sort
variable{xs:List Int}{P:Program}{κ:Ctx}{I:List Item}{e:TypeId}{ad:Option Addr}{c:Nat}
def sortZ(xs:List Int):List Int:=xs.mergeSort λx y=>decide (x<=y)
theorem sortZ_perm(xs:List Int):(sortZ xs).Perm xs:=List.mergeSort_perm _ _
theorem sortZ_len(xs:List Int):(sortZ xs).length=xs.length:=(sortZ_perm xs).length_eq
theorem mem_sortZ{x:Int}:x∈sortZ xs↔x∈xs:=(sortZ_perm xs).mem_iff
theorem sortZ_asc(xs:List Int):(sortZ xs).Pairwise (· <= ·):=by
 have h:=List.pairwise_mergeSort (le:=λx y:Int=>decide<|x<=y) (λa b c M Z=>by simp at *; omega) (λa b=>by simp;omega) xs
 exact h.imp λh=>by simpa using h
theorem sortI_base{ρ:Ren}(L:SlLaysM.n5 P ρ)(hc:0<c)(au:xs.length<4611686018427387904):eu P κ (ρ.f 5) [.slice ad xs.length c] (vc e (.slice ad xs.length c) xs::I) λr J=>r = .tuple #[]/\J=vc e (.slice ad (sortZ xs).length c) (sortZ xs)::I:=by
 intro w hs
 obtain ⟨aw,_⟩:=hs.ok _ List.mem_cons_self
 obtain ⟨a',ay,hv,hl,av,ap,aj⟩:=aw
 cases hv
 obtain ⟨b,off,ae,rfl,hb,M,ah⟩:=aj hc
 have an:b<w.heap.size:=(Array.getElem?_eq_some_iff.1 hb).1
 have aa:=sortZ_len xs
 have ab:∀ys:List Int,cells ys=ys.map λx=>e7 x:=λys=>by
  induction ys with
  |nil=>rfl
  |cons y ys ih=>show e7 y::cells ys=_;rw [ih];rfl
 have ai:∀ys:List Int,(cells ys).length=ys.length:=λys=>by rw [ab,List.length_map]
 have hH:Holds (Value.int .i64) w b off xs.toArray:=λj hj=>by
  have Z:j<xs.length:=by simpa using hj
  have h1:=ah j (e7 xs[j]) (by rw [ab,List.getElem?_map,List.getElem?_eq_getElem Z];rfl)
  refine ⟨?_,by simp [World.frozen?,hb]⟩
  rw [cell_of_row w b (off+j) ae e (0,0) hb,h1]
  simp [getElem!_pos,Z]
 have h:=AnyM.slices_Sort_int L b off c xs w hH an au
 refine Calls.mono h ?_
 rintro e' w' ⟨rfl,n,os,rfl⟩
 refine ⟨_,_,rfl,⟨rfl,rfl⟩,?_⟩
 have hz:(xs.mergeSort λx y=>decide<|x<=y)=sortZ xs:=rfl
 rw [hz]
 refine hs.upd (At.head _ _ _) rfl ⟨rfl,by simp [putRow,mapBlock,Sort.grow,Sort.ahead]⟩ rfl (by simp [putRow,mapBlock,Sort.grow,Sort.ahead]) (λk hk ar=>?_) ?_ λk hk=> .inl ?_
 ·have aq:k≠b:=λao=>ar (by subst ao;exact ⟨off,xs.length,c,rfl,hc⟩)
  simp only [Sort.grow,putRow,mapBlock,Sort.ahead]
  rw [Array.getElem?_append_left (by simpa using hk),Array.getElem?_modify,if_neg<|λe=>aq e.symm]
 ·refine ⟨_,c,rfl,(ai _).trans (Nat.mul_one _).symm,by rw [aa];exact av,ap,λ_=>⟨b,off,putCells (Value.int .i64) off (sortZ xs).toArray ae,rfl,?_,?_,λj u hj=>?_⟩⟩
  ·simp only [Sort.grow,putRow,mapBlock,Sort.ahead]
   rw [Array.getElem?_append_left (by simpa using an),Array.getElem?_modify,if_pos rfl]
   show (w.heap[b]?).map _=_
   rw [hb];rfl
  ·simpa [putCells] using M
  have Z:j<(sortZ xs).length:=by rw [←ai];exact (List.getElem?_eq_some_iff.1 hj).1
  have ak:off+j<ae.size:=by
   have:=M;rw [aa] at Z
   have:c*Enc.sz Int=c:=Nat.mul_one c
   omega
  simp only [putCells,Array.getElem?_mapIdx,Array.getElem?_eq_getElem ak,Option.map_some]
  rw [if_pos ⟨by omega,by simpa using Z⟩,Nat.add_sub_cancel_left]
  rw [ab,List.getElem?_map,List.getElem?_eq_getElem Z] at hj
  simpa [getElem!_pos,Z] using hj
 obtain ⟨o',n',c',ax,az⟩:=hk
 cases ax
 exact ⟨off,xs.length,c,rfl,hc⟩
theorem sortI_any{ρ:Ren}(L:SlLaysM.n5 P ρ)(M:xs.length<4611686018427387904):eu P κ (ρ.f 5) [.slice ad xs.length c] (vc e (.slice ad xs.length c) xs::I) λr J=>r = .tuple #[]/\J=vc e (.slice ad (sortZ xs).length c) (sortZ xs)::I:=by
 by_cases hc:0<c
 ·exact sortI_base L hc M
 intro w hs
 obtain ⟨Z,_⟩:=hs.ok _ List.mem_cons_self
 obtain ⟨a',aa,hv,hl,ae,ah,ab⟩:=Z
 cases hv
 obtain rfl:xs=[]:=List.eq_nil_of_length_eq_zero (by omega)
 refine Calls.mono (AnyM.slices_Sort_int_none L ad c w) ?_
 rintro e' w' ⟨rfl,rfl⟩
 have hz:sortZ []=[]:=List.eq_nil_of_length_eq_zero (sortZ_len [])
 refine ⟨_,_,rfl,⟨rfl,rfl⟩,?_⟩
 rw [hz];exact hs
end Go.Sl
namespace Go.Sl
end Go.Sl
namespace Go.Sl
open Go.Proofs
set_option maxRecDepth 4000
variable{Z c i:Nat}{a:Option Addr}{xs:List Pt}

theorem ext_at{α:Type}[Inhabited α]{xs ys:List α}(hl:xs.length=ys.length)(h:∀j,j<xs.length->e_ xs j=e_ ys j):xs=ys:=by
 refine List.ext_getElem hl λj Z M=>?_
 have:=h j Z
 rwa [Cy xs j Z,Cy ys j M] at this
theorem Few_ok{κ:Ctx}{I:List Item}{la:Option Addr}{M:Nat} :
    eu prog κ 10 [.slice la Z M] I (λr J=>r = .bool (decide<|(Z:Int)<=500)/\I=J):=by
 refine Ce1 Tryz.func10 C C ?_
 exact Af<|Ga C<|Ad<|Af<|Gm C<|Gr (Bj Ab C)<|Gr (E3 C C)<|Ga C<|Ad<|Ay<|A1 C C I Av ⟨rfl,rfl⟩

variable {κ:Ctx}{I:List Item}
theorem CloneE(hl:Sl κ I (.slice a xs.length c) xs)(hb:xs.length<=1000000000):eu prog κ 84 [.slice a xs.length c] I (λr J=>∃a' c',r = .slice a' xs.length c'/\J=vc 105 (.slice a' xs.length c') xs::I):=by
 refine B9 (p:=a.isNone=true->xs=[]/\c=0) (λw hs hn=>hl.isNone w hs hn) λZ=>?_
 refine Ce1 Tryz.func84 C C ?_
 refine Af<|Ga C<|Ad<|Ap<|Af<|Gm C<|Gr (Runs.eqnil Ax C C)<|Ad<|Eg C (λc4=>?_)<|λc4=>?_
 ·refine Af (Ga C<|Ad<|Ay<|Aq ?_)
  obtain ⟨ab,_⟩:=Z c4
  subst ab
  exact A1 C C (vc 105 (.slice none ([]:List Pt).length 0) ([]:List Pt)::I) (Cm _ _) ⟨none,0,rfl,rfl⟩
 refine Aw<|Ah<|Af<|Ge1 (Eff.bs0 (α:=Pt) Ax ty105 C) λad=>?_
 refine Gm C<|Ge2 (Cp (α:=Pt) (e:=105) (xs:=([]:List Pt)) (ys:=xs) Ax ty105 C C C mm (A6 hl) (by simp only [List.length_nil];omega) dc C<|λ_ _=>am) λaa M=>?_
 exact Ga C<|Ad<|Ay<|A1 C C (vc 105 (.slice aa xs.length M) xs::I) Bf ⟨aa,M,rfl,rfl⟩
theorem ov276:∀Z w,(callFunc 276 Z).run prog w=((Extern.SlicesOverlaps.overlaps #[36,36] #[4] Z).run prog w).andThen λv w'=> .ok (.value v) w':=λZ w=>run_callFunc_extern (e:=Extern.SlicesOverlaps.overlaps #[36,36] #[4]) Tryz.func276 kr kr kr kr Z w
theorem InsertE_ok{va:Option Addr}{ys:List Pt}(hi:i<=xs.length)(hy:0<ys.length)(ap:xs.length+ys.length<=1000000000):eu prog κ 269 [.slice a xs.length c,e7 ((i:Int)),.slice va ys.length Z] (vc 105 (.slice a xs.length c) (xs)::vc 105 (.slice va ys.length Z) (ys)::I) (λr J=>∃a' c',r = .slice a' (List.take i xs++ys++List.drop i xs).length c'/\J=vc 105 (.slice a' (List.take i xs++ys++List.drop i xs).length c') (List.take i xs++ys++List.drop i xs)::I):=by
 refine B9 (vc.cap List.mem_cons_self) λao=>?_
 have ab:(List.take i xs++ys++List.drop i xs).length=xs.length+ys.length:=by simp only [List.length_append,List.length_take,List.length_drop];omega
 refine Ce3 Tryz.func269 C C ?_
 refine Af<|Ga C<|Ad<|Af<|Gm C<|Gm C<|Gr (Es (α:=Pt) (xs:=xs) (l:=i) Ax ty105 C C om Bh lat)<|Ad<|Af<|Gm C<|Gr (Bj Ax C)<|Ga C<|Ad<|Ap<|Af<|Gm C<|Gr (Bs C C)<|Ad<|A8 C (λae=>?_)<|λae=>?_
 ·exact absurd ae om
 refine Aw<|Ah<|Af<|Gm C<|Gr (Bj Ax C)<|Ga C<|Ad<|Am (S5 8 7 0 1 2 C C C C C)<|Ap<|Af<|Gm C<|Gm C<|Gr (Bs C C)<|Ad<|A8 C (λaj=>?_)<|λaj=>?_
 ·refine Af (Gm C<|Gm C<|Ge2 (Cp (α:=Pt) (e:=105) (xs:=xs) (ys:=ys) Ax ty105 C C C mm Bh om dc C<|λ_ _=>am) λaa ah=>?_)
  refine Ga C<|Ad<|Ay<|Aq ?_
  have hR:List.take i xs++ys++List.drop i xs=xs++ys:=by rw [List.take_of_length_le om,List.drop_eq_nil_of_le om,List.append_nil]
  exact A1 C C (vc 105 (.slice aa (List.take i xs++ys++List.drop i xs).length ah) (List.take i xs++ys++List.drop i xs)::I) (by rw [hR];exact Bm) ⟨aa,ah,by rw [hR],rfl⟩
 refine Aw<|Ah<|Ap<|Af<|Gm C<|Gm C<|Gr (Rad C C)<|Gm C<|Gr (Runs.caps Ax C)<|Gr (Ck C C)<|Ad<|Am (S6 31 8 7 0 1 2 C C C C C C)<|A8 C (λak=>?_)<|λak=>?_
 ·refine Af (Gm C<|Gm C<|Gr (Eu (h:=i) Ax ty105 C C om om)<|Gm C<|Gm C<|Gr (Rad C C)<|Gm C<|Gr (Rsu C C)<|Ge2 (Eff.grow (α:=Pt) (xs:=xs) (k:=xs.length+ys.length - i) Ax Cb ty105 C C C om Bh om om om om dc C) λad M=>?_)
  refine Ga C<|G.pull (p:=(List.take i xs++List.replicate (xs.length+ys.length - i) (default:Pt)).length<=M) (vc.cap mm) λan=>?_
  have aq:(List.take i xs++List.replicate (xs.length+ys.length - i) (default:Pt)).length=xs.length+ys.length:=by simp only [List.length_append,List.length_take,List.length_replicate];omega
  refine Ad<|Am (S5 9 7 0 1 2 C C C C C)<|Af<|Gm C<|Gm C<|Gr (Es (α:=Pt) (xs:=List.take i xs++List.replicate (xs.length+ys.length - i) (default:Pt)) (l:=i) Ax ty105 C C om Bh lat)<|Gm C<|Ge0 (Fa (α:=Pt) (k:=i) (q:=ys.length) (R:=List.take i xs++ys++List.replicate (xs.length - i) (default:Pt)) (n:=(i+(xs.length+ys.length - i))) Ax ty105 C lat C Bh lat lat C (ins1 hi) lat am) ?_
  refine Ad<|Ap<|Bq mixed<|Cc I 9<|Dr 0 C (Ai C)<|Dr 1 C (Ai C)<|Dr 2 C (Ai C)<|Dr 3 C (Rad C C)<|Dr 4 C (Cz (l:=(i+ys.length)) Ax ty105 C C om om om)<|Dr 5 C (Ai C)<|Dr 6 C (Ai C)<|Dr 7 C (Cz (l:=i) Ax ty105 C C om om om)<|Ds1 8<|Se0 C (Fa (α:=Pt) (k:=(i+ys.length)) (q:=(xs.length - i)) (R:=List.take i xs++ys++List.drop i xs) (n:=(i+(xs.length+ys.length - i))) Ax ty105 C lat C (Sl.dropn (C8 (xs:=xs) mm) om om) lat lat C (ins2 hi) lat am) ?_
  exact Dz<|Ah<|Am (S1 9 C)<|Af<|Gm C<|Ga C<|Ad<|Ay<|Aq<|A1 C C (vc 105 (.slice ad (List.take i xs++ys++List.drop i xs).length M) (List.take i xs++ys++List.drop i xs)::I) (by rw [show (List.take i xs++ys++List.drop i xs).length=i+(xs.length+ys.length - i) by omega];exact Bm) ⟨ad,M,by rw [show (List.take i xs++ys++List.drop i xs).length=i+(xs.length+ys.length - i) by omega],rfl⟩
 refine Aw<|Ah<|Af<|Gm C<|Gm C<|Gm C<|Gr (Rad C C)<|Gr (Eu (h:=xs.length+ys.length) Ax ty105 C C om om)<|Ga C<|G.room (h:=xs.length+ys.length) (by repeat (first|exact AtF.head _ _|apply AtF.tail)) C om om<|λjs ai=>?_
 show G prog κ _ _ _ _ ([(0,.slice a (xs.length+ys.length) c),(60,.slice a (xs.length+ys.length) c),(59,e7<|((xs.length:Nat):Int)+((ys.length:Nat):Int)),(58,e7 ((ys.length:Nat):Int)),(57,e7 ((xs.length:Nat):Int)),(56,.slice a xs.length c),(31,.bool<|decide<|(c:Int)<(((xs.length:Nat):Int)+((ys.length:Nat):Int))),(8,e7 ((xs.length:Nat):Int)),(7,e7 ((ys.length:Nat):Int)),(0,.slice a xs.length c),(1,e7<|(i:Int)),(2,.slice va ys.length Z)]:Env) (vec 105 (Enc.sz Pt) (.slice a (xs.length+ys.length) c) (xs.length+ys.length) (cells xs++js)::vc 105 (.slice va ys.length Z) (ys)::I)
 refine Ad<|Ap<|Af<|Gm C<|Gm C<|Gm C<|Gm C<|Gr (Rad C C)<|Gr (Cz (l:=(i+ys.length)) Ax ty105 C C om om om)<|Ge0 (Eff.overlaps (k:=i+ys.length) ov276 Ax ty105 C C om om om (show Fit κ _ (vc 105 (.slice va ys.length Z) ys::vec 105 (Enc.sz Pt) (.slice a (xs.length+ys.length) c) (xs.length+ys.length) (cells xs++js)::I) from Fit.sp (Sp.pick (Pick.tail _<|Pick.head _ _)<|Sp.refl _)) (Nat.mul_pos om Enc.pos) C) ?_
 refine Gr (Cr C)<|Ad<|Am (S6 68 0 8 7 1 2 C C C C C C)<|Dp C<|Ap<|Bq mixed<|Cc I 9<|Dr 0 C (Ai C)<|Dr 1 C (Ai C)<|Dr 2 C (Ai C)<|Dr 3 C (Rad C C)<|Dr 4 C (Cz (l:=(i+ys.length)) Ax ty105 C C om om om)<|Dr 5 C (Ai C)<|Dr 6 C (Ai C)<|Dr 7 C (Cz (l:=i) Ax ty105 C C om om om)<|Ds1 8<|Se0 C (Eff.copyR (sz:=Enc.sz Pt) (n:=xs.length+ys.length) (cs:=(cells xs++js)) (k:=(i+ys.length)) (q:=(xs.length - i)) Ax ty105 C om C (SlRd.dropR (SlRd.vec mm) om) om om (ins_one hi) C am) ?_
 show D prog κ _ _ _ _ _ _ _ ([(77,e7<|(((xs.length - i):Nat):Int)),(76,.slice (adrop a c i<|Enc.sz Pt) ((xs.length+ys.length) - i)<|c - i),(75,e7<|(i:Int)),(74,.slice a (xs.length+ys.length) c),(73,.slice (adrop a c (i+ys.length)<|Enc.sz Pt) ((xs.length+ys.length) - (i+ys.length))<|c - (i+ys.length)),(72,e7<|(i:Int)+((ys.length:Nat):Int)),(71,e7 ((ys.length:Nat):Int)),(70,e7<|(i:Int)),(69,.slice a (xs.length+ys.length) c),(68,.bool true),(0,.slice a (xs.length+ys.length) c),(8,e7 ((xs.length:Nat):Int)),(7,e7 ((ys.length:Nat):Int)),(1,e7<|(i:Int)),(2,.slice va ys.length Z)]:Env) (vec 105 (Enc.sz Pt) (.slice a (xs.length+ys.length) c) (xs.length+ys.length) (List.take ((i+ys.length)*Enc.sz Pt) (cells xs++js)++List.take ((xs.length - i)*Enc.sz Pt) (List.drop (i*Enc.sz Pt)<|cells xs++js)++List.drop ((i+ys.length)*Enc.sz Pt+(xs.length - i)*Enc.sz Pt) (cells xs++js))::vc 105 (.slice va ys.length Z) (ys)::I)
 refine Dz<|Ah<|Am (S3 0 1 2 C C C)<|Af<|Gm C<|Gm C<|Gr (Cz (l:=i) Ax ty105 C C om om om)<|Gm C<|Ge0 (Eff.copyR (sz:=Enc.sz Pt) (n:=xs.length+ys.length) (cs:=(List.take ((i+ys.length)*Enc.sz Pt) (cells xs++js)++List.take ((xs.length - i)*Enc.sz Pt) (List.drop (i*Enc.sz Pt)<|cells xs++js)++List.drop ((i+ys.length)*Enc.sz Pt+(xs.length - i)*Enc.sz Pt) (cells xs++js))) (k:=i) (q:=ys.length) Ax ty105 C om C (show Sl κ _ (.slice va ys.length Z) ys from (C8 (e:=105) (xs:=ys) mm)) om om (λu hu=>cells_one ys u<|List.mem_of_mem_take hu) C am) ?_
 show G prog κ _ _ _ _ ([(82,e7 ((ys.length:Nat):Int)),(81,.slice va ys.length Z),(80,.slice (adrop a c i<|Enc.sz Pt) ((xs.length+ys.length) - i)<|c - i),(79,e7<|(i:Int)),(78,.slice a (xs.length+ys.length) c),(0,.slice a (xs.length+ys.length) c),(1,e7<|(i:Int)),(2,.slice va ys.length Z)]:Env) (vec 105 (Enc.sz Pt) (.slice a (xs.length+ys.length) c) (xs.length+ys.length) (List.take (i*Enc.sz Pt) (List.take ((i+ys.length)*Enc.sz Pt) (cells xs++js)++List.take ((xs.length - i)*Enc.sz Pt) (List.drop (i*Enc.sz Pt)<|cells xs++js)++List.drop ((i+ys.length)*Enc.sz Pt+(xs.length - i)*Enc.sz Pt) (cells xs++js))++List.take (ys.length*Enc.sz Pt) (cells ys)++List.drop (i*Enc.sz Pt+ys.length*Enc.sz Pt) (List.take ((i+ys.length)*Enc.sz Pt) (cells xs++js)++List.take ((xs.length - i)*Enc.sz Pt) (List.drop (i*Enc.sz Pt)<|cells xs++js)++List.drop ((i+ys.length)*Enc.sz Pt+(xs.length - i)*Enc.sz Pt) (cells xs++js)))::vc 105 (.slice va ys.length Z) (ys)::I)
 refine Ad<|Af<|Gm C<|Ga C<|Ad<|Ay<|Aq ?_
 have hC:(List.take (i*Enc.sz Pt) (List.take ((i+ys.length)*Enc.sz Pt) (cells xs++js)++List.take ((xs.length - i)*Enc.sz Pt) (List.drop (i*Enc.sz Pt)<|cells xs++js)++List.drop ((i+ys.length)*Enc.sz Pt+(xs.length - i)*Enc.sz Pt) (cells xs++js))++List.take (ys.length*Enc.sz Pt) (cells ys)++List.drop (i*Enc.sz Pt+ys.length*Enc.sz Pt) (List.take ((i+ys.length)*Enc.sz Pt) (cells xs++js)++List.take ((xs.length - i)*Enc.sz Pt) (List.drop (i*Enc.sz Pt)<|cells xs++js)++List.drop ((i+ys.length)*Enc.sz Pt+(xs.length - i)*Enc.sz Pt) (cells xs++js)))=cells (List.take i xs++ys++List.drop i xs):=ins_cells hi ai
 exact A1 C C (vc 105 (.slice a (List.take i xs++ys++List.drop i xs).length c) (List.take i xs++ys++List.drop i xs)::I) (by rw [hC];show Fit κ _ (vec 105 _ (.slice a (List.take i xs++ys++List.drop i xs).length c) (List.take i xs++ys++List.drop i xs).length (cells<|List.take i xs++ys++List.drop i xs)::I);rw [ab];exact Bm) ⟨a,c,by rw [ab],rfl⟩
variable {κ:Ctx}{I:List Item}
theorem sortI_ok{e:TypeId}{ad:Option Addr}{xs:List Int}(Z:xs.length<4611686018427387904):eu prog κ 163 [.slice ad xs.length c] (vc e (.slice ad xs.length c) xs::I) λr J=>r = .tuple #[]/\J=vc e (.slice ad xs.length c) (sortZ xs)::I:=
 (sortI_any (κ:=κ) (I:=I) Tryz.sortI (e:=e) (ad:=ad) (c:=c) Z).mono λr J ⟨h1,M⟩=>⟨h1,by rw [M,sortZ_len]⟩
theorem CloneI{xs:List Int}(hl:Sl κ I (.slice a xs.length c) xs)(hb:xs.length<=1000000000):eu prog κ 128 [.slice a xs.length c] I (λr J=>∃a' c',r = .slice a' xs.length c'/\J=vc 3 (.slice a' xs.length c') xs::I):=by
 refine B9 (p:=a.isNone=true->xs=[]/\c=0) (λw hs hn=>hl.isNone w hs hn) λZ=>?_
 refine Ce1 Tryz.func128 C C ?_
 refine Af<|Ga C<|Ad<|Ap<|Af<|Gm C<|Gr (Runs.eqnil Ab C C)<|Ad<|Eg C (λc4=>?_)<|λc4=>?_
 ·refine Af (Ga C<|Ad<|Ay<|Aq ?_)
  obtain ⟨ab,_⟩:=Z c4
  subst ab
  exact A1 C C (vc 3 (.slice none ([]:List Int).length 0) ([]:List Int)::I) (Cm _ _) ⟨none,0,rfl,rfl⟩
 refine Aw<|Ah<|Af<|Ge1 (Eff.bs0 (α:=Int) Ab ef C) λad=>?_
 refine Gm C<|Ge2 (Cp (α:=Int) (e:=3) (xs:=([]:List Int)) (ys:=xs) Ab ef C C C mm (A6 hl) (by simp only [List.length_nil];omega) dc C<|λ_ _=>am) λaa M=>?_
 exact Ga C<|Ad<|Ay<|A1 C C (vc 3 (.slice aa xs.length M) xs::I) Bf ⟨aa,M,rfl,rfl⟩
variable {κ:Ctx}{I:List Item}
theorem eqt105:EqT prog 105 Pt:=EqT.flat (λp:Pt=>[p.u,p.v]) (λ_=>rfl) (λx y h=>by cases x;cases y;simpa using h) (n:=2) (λ_=>rfl) kr kr kr kr kr
theorem DeleteE_ok{j:Nat}(aa:i<j)(hj:j<=xs.length)(ad:xs.length<=1000000000):eu prog κ 274 [.slice a xs.length c,e7 ((i:Int)),e7 ((j:Int))] (vc 105 (.slice a xs.length c) (xs)::I) (λr J=>r = .slice a (List.take i xs++List.drop j xs).length c/\vc 105 (.slice a (List.take i xs++List.drop j xs).length c) (List.take i xs++List.drop j xs)::I=J):=by
 refine B9 (vc.cap List.mem_cons_self) λM=>?_
 have ab:(List.take i xs++List.drop j xs).length=i+(xs.length - j):=by simp only [List.length_append,List.length_take,List.length_drop];omega
 refine Ce3 Tryz.func274 C C ?_
 refine Af<|Ga C<|Ad<|Af<|Gm C<|Gm C<|Gm C<|Gm C<|Gr (Bj Ax C)<|Gr (Runs.lohi3 (l:=i) (h:=j) (q:=xs.length) Ax ty105 C C om C om C om om om om)<|Ad<|Ap<|Af<|Gm C<|Gm C<|Gr (Bs C C)<|Ad<|A8 C (λZ=>?_)<|λZ=>?_
 ·exact absurd Z om
 refine Aw<|Ah<|Af<|Gm C<|Gr (Bj Ax C)<|Ga C<|Ad<|Am (S4 7 0 1 2 C C C C)<|Ap<|Bq mixed<|Cc I 8<|Dr 0 C (Ai C)<|Dr 1 C (Ai C)<|Dr 2 C (Eu (h:=i) Ax ty105 C C om om)<|Dr 3 C (Ai C)<|Dr 4 C (Ai C)<|Dr 5 C (Cz (l:=j) Ax ty105 C C om om om)<|Ds1 6<|Se0 C (Eff.appIn (α:=Pt) (xs:=xs) (i:=i) (j:=j) Ax ty105 C C C om om om C am) ?_
 refine Dr 7 C (Ba C)<|Dz<|Ah<|Af<|Gm C<|Gm C<|Gr (Bj Ax C)<|Gm C<|Gr (Runs.lohiraw (l:=(List.take i xs++List.drop j xs).length) (h:=xs.length) Ax ty105 C C om C om om om)<|Ge0 (Eff.clearB (α:=Pt) (xs:=(List.take i xs++List.drop j xs)) (k:=(List.take i xs++List.drop j xs).length) (h:=xs.length) Ax ty105 (AllOne.cons C<|AllOne.cons C AllOne.nil) C C C C om om am) ?_
 exact Ad<|Am (S1 0 C)<|Af<|Gm C<|Ga C<|Ad<|Ay<|A1 C C _ (E0 _) ⟨rfl,rfl⟩
theorem BSearchE{v:Value}(hl:Sl κ I v xs)(x:Pt){g:FuncId}{Z:List Value}{cf:Pt->Pt->Int}(M:Cmps prog κ I g Z cf)(an:xs.length<=1000000000000):eu prog κ 189 [v,.agg #[e7 (x.u),e7 (x.v)],.func (.func g) #[] Z.toArray] I (λr J=>∃i b,r = .tuple #[e7 ((i:Nat):Int),.bool b]/\BFound cf xs x i b/\I=J):=by
 refine B9 hl.le λaj=>?_
 refine Ce3 Tryz.func189 C C ?_
 refine Af<|Ge1 (Bc (cs:=[_,_]) C C C) λb1=>Ga C<|Ga C<|Ad<|Af<|Gm C<|Gr (B5 (α:=Pt) (xs:=xs) Ax C<|A6 hl)<|Ga C<|Ad<|Af<|Gm C<|Ga C<|Ga C<|Ad<|Ap<|A0<|B1 (σ:=Nat×Nat) (λs=>([(0,v),(2,.func (.func g) #[] Z.toArray),(4,.pointer<|some ⟨b1,0,none⟩),(8,e7 ((xs.length:Nat):Int)),(9,e7 ((s.1:Nat):Int)),(10,e7 ((s.2:Nat):Int))]:Env)) (λs=>e8 b1 [e7 (x.u),e7<|x.v] 105::I) (λs=>(s.1<=s.2)/\(s.2<=xs.length)/\(0<s.1->cf (e_ xs<|(s.1:Int) - 1) x<0)/\(s.2<xs.length->¬cf (e_ xs s.2) x<0)) (λs=>s.2 - s.1) (0,xs.length) (show ((0:Nat)<=(xs.length:Nat))/\((xs.length:Nat)<=xs.length)/\(0<(0:Nat)->cf (e_ xs<|((0:Nat):Int) - 1) x<0)/\((xs.length:Nat)<xs.length->¬cf (e_ xs ((xs.length:Nat):Int)) x<0) from ⟨om,om,(λh=>absurd h dc),(λh=>absurd h om)⟩) (Aa C<|Aa C<|Aa C<|Aa C<|Aa Cd<|Aa Cd Bl) (show Fit κ _ (e8 b1 [e7 (x.u),e7<|x.v] 105::I) from Bf) ?_
 rintro ⟨i,j⟩ hp
 dsimp only at hp ⊢
 obtain ⟨ak,hj,aa,ae⟩:=hp
 refine Ap<|Af<|Gm C<|Gm C<|Gr (Bb C C)<|Ad<|A8 C (λai=>?_)<|λai=>?_
 ·refine Aw (Ah<|A0<|Af<|Gm C<|Gm C<|Gr (Rad C C)<|Gr (Runs.convU Cb D1 C om)<|Gr (Runs.shr1 C C)<|Gr (Runs.convI D1 Cb C<|by unfold InR;omega)<|Ga C<|Ad<|Am (S7 11 0 2 4 8 9 10 C C C C C C C)<|Ap<|Bq mixed<|Cc (e8 b1 [e7 (x.u),e7<|x.v] 105::I) 8<|Dr 0 C (Ai C)<|Dr 1 C (Ai C)<|Dr 2 C (Ai C)<|Dr 3 C (Az (α:=Pt) (xs:=xs) Ax ty105 C C (A6 hl) om om)<|Dr 4 C (B2 (α:=Pt) (xs:=xs) ty105 C (A6 hl) om om)<|Dr 5 C (A5 (vs:=[_,_]) ty105) ?_)
  refine Ds1 6<|Se C (Cs M.1 (first:=[]) (caps:=Z) C C C<|M.2 (e_ xs<|((i:Int)+(j:Int)) / 2) x _ Av) ?_
  rintro _ _ ⟨_,_,⟨rfl,rfl⟩,rfl,rfl⟩
  refine ⟨Bf,?_⟩
  refine Dr 7 C (Bb C C)<|Dz<|Ah<|Am (S8 31 11 0 2 4 8 9 10 C C C C C C C C)<|A8 C (λab=>?_)<|λab=>?_
  ·exact Au<|Gm C<|Gr (Rad C C)<|Ga C<|Bo<|Al<|Cf (((i+j) / 2+1),(j))<|by dsimp only;exact ⟨om,om,(λ_=>by rw [show (((i+j) / 2+1:Nat):Int) - 1=((i:Int)+(j:Int)) / 2 by omega];exact ab),ae⟩
  exact Au<|Gm C<|Ga C<|Bo<|Al<|Cf ((i),((i+j) / 2))<|by dsimp only;exact ⟨om,om,aa,(λ_=>by rw [show (((i+j) / 2:Nat):Int)=((i:Int)+(j:Int)) / 2 by omega];exact ab)⟩
 refine Bx<|Ao<|Ao<|A9<|Ah<|Ap<|Bq mixed<|Cc (e8 b1 [e7 (x.u),e7<|x.v] 105::I) 16<|Dr 0 C (Ai C)<|Dr 1 C (Ai C)<|Dr 2 C (Ai C)<|Dr 3 C (Bb C C)<|Dr 4 C (Ai C)<|Ey (d:=39) C (λah=>?_)<|λah=>?_
 ·refine Dro 5 C (Ai C) (Dro 6 C (Ai C)<|Dro 7 C (Ai C)<|Dro 8 C (Az (α:=Pt) (xs:=xs) Ax ty105 C C (A6 hl) om om)<|Dro 9 C (B2 (α:=Pt) (xs:=xs) ty105 C (A6 hl) om om)<|Dro 10 C (A5 (vs:=[_,_]) ty105) ?_)
  refine Ds1 11<|Se C (Cs M.1 (first:=[]) (caps:=Z) C C C<|M.2 (e_ xs i) x _ Av) ?_
  rintro _ _ ⟨_,_,⟨rfl,rfl⟩,rfl,rfl⟩
  refine ⟨Bf,?_⟩
  refine Dro 12 C (Bs C C)<|Dr 13 C (A3 C C)<|Dr 14 C (Ba C)<|Dr 15 C (Ba C)<|Dz<|Ah<|Am (S2 7 6 C C)<|Ay ?_
  have ad:i=j:=by omega
  subst ad
  exact De C C C I Av ⟨i,_,rfl,⟨hj,aa,ae,(decide_eq_decide.2 ⟨λh=>⟨by omega,h⟩,λh=>h.2⟩)⟩,rfl⟩
 refine Dpo 5 C<|Dpo 6 C<|Dpo 7 C<|Dpo 8 C<|Dpo 9 C<|Dpo 10 C<|Dpo 11 C<|Dpo 12 C<|Dr 13 C (Bd C C)<|Dr 14 C (Ba C)<|Dr 15 C (Ba C)<|Dz<|Ah<|Am (S2 7 6 C C)<|Ay ?_
 have ad:i=j:=by omega
 subst ad
 exact De C C C I Av ⟨i,_,rfl,⟨hj,aa,ae,((decide_eq_false<|λh=>by omega).symm)⟩,rfl⟩
end Go.Sl
