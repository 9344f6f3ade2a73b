/- A part of the proofs of statements of this seat: contracts of functions, and the plain laws that they lean on. No conditions. -/
import Derived.Test.YtfkcohmipjhfcaaGreatDoorB8
set_option linter.unusedVariables false
set_option linter.unusedSimpArgs false
set_option linter.unusedSectionVars false
open Go.Proofs.Tryz (prog)
set_option maxHeartbeats 8000000
namespace Go.Sl
open Go.Proofs
set_option maxRecDepth 4000
variable{nd:Int}{a va:Option Addr}{c i:Nat}{xs ys:List Lk}
variable {κ:Ctx}{I:List Item}
attribute [local irreducible] W G V D A j0 Eff
theorem ta1{p:Prop}(h:p:=by first|exact Fz Value.bool (Fy.2<|by skip;omega)|exact Fz Value.bool (D_<|by skip;omega).symm|exact Fz Value.bool (E_<|by skip;omega).symm):p:=h
theorem bz2(n:Int):er prog κ 291 [e7 n] I (λr J=>r = .bool (decide (0<=n/\n<64))/\I=J):=by
 refine Ce1 Tryz.func291 C C<|Z ?_
 refine Au (d:=5) C (λM=>Z ?_)<|λM=>Z ?_
 ·exact Ak C C I Af ⟨ta1,rfl⟩
 exact Ak C C I Af ⟨ta1,rfl⟩
theorem ta3{p:Prop}(h:p:=by first|exact Fz Value.bool (Fy.2<|by unfold J2;omega)|exact Fz Value.bool (D_<|by unfold J2;omega).symm|exact Fz Value.bool (E_<|by unfold J2;omega).symm):p:=h
theorem fr8(e:Ev):er prog κ 250 [.agg (ye e).toArray] I (λr J=>r = .bool (decide (J2 e))/\I=J):=by
 refine Ce1 Tryz.func250 C C ?_
 refine Aj<|Ge1 (Ay (cs:=[_,_,_,_,_,_,_]) C C C) λb1=>Z ?_
 refine Am C (λc5=>Z ?_)<|λc5=>Z ?_
 ·refine Gc0 (Ac c_ C C<|bz2 e.u) ?_
  refine Gm C<|Au (d:=9) C (λg9=>Z ?_)<|λg9=>Z ?_
  ·exact Ak C C I Af ⟨ta3,rfl⟩
  exact Ak C C I Af ⟨ta3,rfl⟩
 refine Gc0 (Ac c_ C C<|bz2 e.u) ?_
 refine Gm C<|Au (d:=17) C (λE=>Z ?_)<|λE=>Z ?_
 ·refine D0 (B9 C C C) (Ac c_ C C<|bz2 e.v) ?_
  rintro _ _ ⟨_,_,⟨rfl,rfl⟩,rfl,rfl⟩
  refine Z ?_
  refine Au (d:=22) C (λM=>Z ?_)<|λM=>Z ?_
  ·exact Ak C C I Af ⟨ta3,rfl⟩
  exact Ak C C I Af ⟨ta3,rfl⟩
 exact Ak C C I Af ⟨ta3,rfl⟩
theorem cd4{L:Env}{k:Nat}{u:Bool}{p:Prop}[Decidable p](h:look L k=some (.bool u))(e:u=decide p:=by unfold J2;first|exact (D_ om).symm|exact (E_ om).symm|exact Fy.2 om):look L k=some (.bool (decide p)):=by rw [h,e]
theorem ck8(e:Ev):er prog κ 209 [.agg (ye e).toArray] I (λr J=>r=e7 (s7 e)/\I=J):=by
 refine Ce1 Tryz.func209 C C ?_
 refine Aj<|Ge1 (Ay (cs:=[_,_,_,_,_,_,_]) C C C) λb1=>Z ?_
 refine Au (d:=7) C (λg7=>Z ?_)<|λg7=>Z ?_
 ·exact Ak C C I Af ⟨by rw [show s7 e=8 from ak3 om],rfl⟩
 refine Am C (λc3=>Z ?_)<|λc3=>Z ?_
 ·exact Ak C C I Af ⟨by rw [show s7 e=8 from ak3 om],rfl⟩
 refine Au (d:=16) C (λae=>Z ?_)<|λae=>Z ?_
 ·exact Ak C C I Af ⟨by rw [show s7 e=9 from aq6 om om],rfl⟩
 refine Am C (λc12=>Z ?_)<|λc12=>Z ?_
 ·exact Ak C C I Af ⟨by rw [show s7 e=9 from aq6 om om],rfl⟩
 refine Gc0 (Ac c_ C C<|fr8 e)<|Z ?_
 refine Am C (λad=>Z ?_)<|λad=>Z ?_
 ·exact Ak C C I Af ⟨by rw [show s7 e=6 from br3 om om (by first|assumption|(unfold J2;omega))],rfl⟩
 refine Au (d:=29) C (λai=>Z ?_)<|λai=>Z ?_
 ·refine D0 (B9 C C C) (Ac c_ C C<|ch9 e.w e.lb e.sg) ?_
  rintro _ _ ⟨_,_,⟨rfl,rfl⟩,rfl,rfl⟩
  refine Z ?_
  refine Am C (λah=>Z ?_)<|λah=>Z ?_
  ·exact Ak C C I Af ⟨by rw [show s7 e=1 from M7 om om (by first|assumption|exact B_.1 asm|(unfold J2;omega)) (by first|(exact .inr om)|exact .inl ⟨by omega,by assumption⟩|exact .inl ⟨by omega,λh=>by simp_all⟩)],rfl⟩
  refine Au (d:=43) C (λaa=>Z ?_)<|λaa=>Z ?_
  ·refine Au (d:=47) C (λab=>Z ?_) (λab=>Z ?_)
   ·exact Ak C C I Af ⟨by rw [show s7 e=1 from M7 om om (by first|assumption|exact B_.1 asm|(unfold J2;omega)) (by first|(exact .inr om)|exact .inl ⟨by omega,by assumption⟩|exact .inl ⟨by omega,λh=>by simp_all⟩)],rfl⟩
   refine Au (d:=52) C (λE=>Z ?_)<|λE=>Z ?_
   ·exact Ak C C I Af ⟨by rw [show s7 e=1 from M7 om om (by first|assumption|exact B_.1 asm|(unfold J2;omega)) (by first|(exact .inr om)|exact .inl ⟨by omega,by assumption⟩|exact .inl ⟨by omega,λh=>by simp_all⟩)],rfl⟩
   refine Am C (λM=>Z ?_)<|λM=>Z ?_
   ·exact Ak C C I Af ⟨by rw [show s7 e=1 from M7 om om (by first|assumption|exact B_.1 asm|(unfold J2;omega)) (by first|(exact .inr om)|exact .inl ⟨by omega,by assumption⟩|exact .inl ⟨by omega,λh=>by simp_all⟩)],rfl⟩
   exact Ak C C I Af ⟨by rw [show s7 e=0 from ab1 om om (by first|assumption|exact B_.1 asm|(unfold J2;omega)) (λh=>by first|(exfalso;omega)|assumption|exact B_.1 asm) (λh=>by omega)],rfl⟩
  exact Ak C C I Af ⟨by rw [show s7 e=0 from ab1 om om (by first|assumption|exact B_.1 asm|(unfold J2;omega)) (λh=>by first|(exfalso;omega)|assumption|exact B_.1 asm) (λh=>by omega)],rfl⟩
 refine Au (d:=43) C (λaa=>Z ?_)<|λaa=>Z ?_
 ·refine Au (d:=47) C (λab=>Z ?_) (λab=>Z ?_)
  ·exact Ak C C I Af ⟨by rw [show s7 e=1 from M7 om om (by first|assumption|exact B_.1 asm|(unfold J2;omega)) (by first|(exact .inr om)|exact .inl ⟨by omega,by assumption⟩|exact .inl ⟨by omega,λh=>by simp_all⟩)],rfl⟩
  refine Au (d:=52) C (λE=>Z ?_)<|λE=>Z ?_
  ·exact Ak C C I Af ⟨by rw [show s7 e=1 from M7 om om (by first|assumption|exact B_.1 asm|(unfold J2;omega)) (by first|(exact .inr om)|exact .inl ⟨by omega,by assumption⟩|exact .inl ⟨by omega,λh=>by simp_all⟩)],rfl⟩
  refine Am C (λM=>Z ?_)<|λM=>Z ?_
  ·exact Ak C C I Af ⟨by rw [show s7 e=1 from M7 om om (by first|assumption|exact B_.1 asm|(unfold J2;omega)) (by first|(exact .inr om)|exact .inl ⟨by omega,by assumption⟩|exact .inl ⟨by omega,λh=>by simp_all⟩)],rfl⟩
  exact Ak C C I Af ⟨by rw [show s7 e=0 from ab1 om om (by first|assumption|exact B_.1 asm|(unfold J2;omega)) (λh=>by first|(exfalso;omega)|assumption|exact B_.1 asm) (λh=>by omega)],rfl⟩
 exact Ak C C I Af ⟨by rw [show s7 e=0 from ab1 om om (by first|assumption|exact B_.1 asm|(unfold J2;omega)) (λh=>by first|(exfalso;omega)|assumption|exact B_.1 asm) (λh=>by omega)],rfl⟩
theorem ao1(e:Ev):er prog κ 155 [.agg (ye e).toArray] I (λr J=>r=e7 (s7 e)/\I=J):=by
 refine Ce1 Tryz.func155 C C ?_
 refine Aj<|Ge1 (Ay (cs:=[_,_,_,_,_,_,_]) C C C) λb1=>Z ?_
 refine Gc0 (Ac c_ C C<|ag8 e.kd 1 3)<|Z ?_
 refine Am C (λc6=>Z ?_)<|λc6=>Z ?_
 ·exact Ak C C I Af ⟨by rw [show s7 e=8 from ak3 om],rfl⟩
 refine Gc0 (Ac c_ C C<|ag8 e.tm 0 1048576)<|Z ?_
 refine Am C (λc10=>Z ?_)<|λc10=>?_
 ·exact Ak C C I Af ⟨by rw [show s7 e=9 from aq6 om om],rfl⟩
 refine A4<|Al<|Ax<|D2 (σ:=Nat) (λs=>([(1,pt b1),(42,.bool<|decide<|¬J2 e)]:Env)) (λs=>e8 b1 (ye e) 108::I) (λs=>True) ?_ ?_
 ·refine Z ?_
  refine Gc0 (Ac c_ C C<|ag8 e.u 0 63)<|Z ?_
  refine Au (d:=15) C (λak=>Z ?_)<|λak=>Z ?_
  ·exact Bu ((0)) trivial (hL:=(Aa C<|Aa (cd4 C) A9))
  refine Au (d:=19) C (λah=>Z ?_)<|λah=>Z ?_
  ·refine Au (d:=25) C (λab=>Z ?_) (λab=>Z ?_)
   ·exact Bu ((0)) trivial (hL:=(Aa C<|Aa (cd4 C) A9))
   refine Au (d:=29) C (λM=>Z ?_)<|λM=>Z ?_
   ·refine D0 (B9 C C C) (Ac c_ C C<|ag8 e.v 0 63) ?_
    rintro _ _ ⟨_,_,⟨rfl,rfl⟩,rfl,rfl⟩
    refine Z ?_
    refine Au (d:=34) C (λE=>Z ?_)<|λE=>Z ?_
    ·exact Bu ((0)) trivial (hL:=(Aa C<|Aa (cd4 C) A9))
    exact Bu ((0)) trivial (hL:=(Aa C<|Aa (cd4 C) A9))
   exact Bu ((0)) trivial (hL:=(Aa C<|Aa (cd4 C) A9))
  refine Au (d:=29) C (λM=>Z ?_)<|λM=>Z ?_
  ·refine D0 (B9 C C C) (Ac c_ C C<|ag8 e.v 0 63) ?_
   rintro _ _ ⟨_,_,⟨rfl,rfl⟩,rfl,rfl⟩
   refine Z ?_
   refine Au (d:=34) C (λE=>Z ?_)<|λE=>Z ?_
   ·exact Bu ((0)) trivial (hL:=(Aa C<|Aa (cd4 C) A9))
   exact Bu ((0)) trivial (hL:=(Aa C<|Aa (cd4 C) A9))
  exact Bu ((0)) trivial (hL:=(Aa C<|Aa (cd4 C) A9))
 rintro u0 hp
 show W prog κ 66 _ _ ([(1,pt b1),(42,.bool<|decide<|¬J2 e)]:Env) (e8 b1 (ye e) 108::I)
 refine Am C (λae=>Z ?_)<|λae=>Z ?_
 ·exact Ak C C I Af ⟨by rw [show s7 e=6 from br3 om om (by first|assumption|(unfold J2;omega))],rfl⟩
 refine Am C (λad=>Z ?_)<|λad=>Z ?_
 ·refine Gc0 (Ac c_ C C<|dc1 e.w e.lb e.sg) (Z ?_)
  exact Ak C C I Af ⟨by rw [show s7 e=if F0 e.w e.lb e.sg then 0 else 1 from dh6 om om (by first|assumption|exact B_.1 asm|(unfold J2;omega))],rfl⟩
 refine Au (d:=56) C (λaj=>Z ?_)<|λaj=>Z ?_
 ·exact Ak C C I Af ⟨by rw [show s7 e=1 from M7 om om (by first|assumption|exact B_.1 asm|(unfold J2;omega)) (by first|(exact .inr om)|exact .inl ⟨by omega,by assumption⟩|exact .inl ⟨by omega,λh=>by simp_all⟩)],rfl⟩
 refine Au (d:=61) C (λaa=>Z ?_)<|λaa=>Z ?_
 ·exact Ak C C I Af ⟨by rw [show s7 e=1 from M7 om om (by first|assumption|exact B_.1 asm|(unfold J2;omega)) (by first|(exact .inr om)|exact .inl ⟨by omega,by assumption⟩|exact .inl ⟨by omega,λh=>by simp_all⟩)],rfl⟩
 refine Am C (λai=>Z ?_)<|λai=>Z ?_
 ·exact Ak C C I Af ⟨by rw [show s7 e=1 from M7 om om (by first|assumption|exact B_.1 asm|(unfold J2;omega)) (by first|(exact .inr om)|exact .inl ⟨by omega,by assumption⟩|exact .inl ⟨by omega,λh=>by simp_all⟩)],rfl⟩
 exact Ak C C I Af ⟨by rw [show s7 e=0 from ab1 om om (by first|assumption|exact B_.1 asm|(unfold J2;omega)) (λh=>by first|(exfalso;omega)|assumption|exact B_.1 asm) (λh=>by omega)],rfl⟩
theorem db8(nd:Int)(e:Ev):er prog κ 210 [e7 nd,.agg (ye e).toArray] I (λr J=>r=e7 (ae5 nd e)/\I=J):=by
 refine Ce2 Tryz.func210 C C ?_
 refine Aj<|Ge1 (Ay (cs:=[_,_,_,_,_,_,_]) C C C) λb1=>Z ?_
 refine G.e (Ac c_ C C<|ck8 e) ?_
 rintro _ _ ⟨_,_,⟨rfl,rfl⟩,rfl,rfl⟩
 refine Z ?_
 refine Am C (λM=>Z ?_)<|λM=>Z ?_
 ·exact Ak C C I Af ⟨by rw [show ae5 nd e=s7 e from (by unfold ae5;rw [By M])],rfl⟩
 refine Au (d:=15) C (λaa=>Z ?_)<|λaa=>Z ?_
 ·exact Ak C C I Af ⟨by rw [show ae5 nd e=6 from (by unfold ae5;rw [An M,By om])],rfl⟩
 refine Am C (λE=>Z ?_)<|λE=>Z ?_
 ·exact Ak C C I Af ⟨by rw [show ae5 nd e=6 from (by unfold ae5;rw [An M,By om])],rfl⟩
 exact Ak C C I Af ⟨by rw [show ae5 nd e=0 from (by unfold ae5;rw [An M,An om])],rfl⟩
theorem bj6(l:Lk)(nw:Int):er prog κ 163 [.agg (kl l).toArray,e7 nw] I (λr J=>r = .agg #[e7 1,e7 nw,e7 l.u,e7 l.v,e7 l.w,e7 l.lb,e7 l.sg]/\I=J):=by
 refine Ce2 Tryz.func163 C C ?_
 refine Aj<|Ge1 (Ay (cs:=[_,_,_,_,_,_]) C C C) λb1=>Ge1 (Ah j7 C) λM=>Z ?_
 refine Ge0 (Fa j7)<|Z ?_
 exact Cv C j7 C mm C I Af ⟨rfl,rfl⟩
theorem bb7{e:Ev}(h:s7 e≠0):ae5 nd e=s7 e:=by unfold ae5;rw [By h]
theorem ta6{p:Prop}(h:p:=by unfold q8;rw [By om]):p:=h
theorem ch4{κ:Ctx}{I:List Item}{va:Value}{es:List Ev}(hl:Sl κ I va es):er prog κ 139 [e7 nd,va] I (λr J=>r=e7 (q8 nd es)/\I=J):=by
 refine Bm hl.le λah=>?_
 refine Ce2 Tryz.func139 C C<|Z ?_
 refine Au (d:=13) C (λae=>Z ?_)<|λae=>Z ?_
 ·exact Ak C C I Af ⟨by rw [show q8 nd es=1 from ta6],rfl⟩
 refine Am C (λc10=>Z ?_)<|λc10=>Z ?_
 ·exact Ak C C I Af ⟨by rw [show q8 nd es=1 from ta6],rfl⟩
 refine Am C (λad=>Z ?_)<|λad=>Z ?_
 ·exact Ak C C I Af ⟨by rw [show q8 nd es=3 from (by unfold q8;rw [An om,By om])],rfl⟩
 refine B4 (σ:=Nat) (λs=>([(0,e7 nd),(5,e7<|G3 es s),(21,va),(22,e7 ((es.length:Nat):Int)),(23,e7 ((s:Nat):Int))]:Env)) (λs=>I) (λs=>(s<=es.length)/\(q8 nd es=K5 nd (G3 es s) (es.drop s))) (λs=>es.length - s) 0 (show ((0:Nat)<=es.length)/\(q8 nd es=K5 nd (G3 es (0:Nat)) (es.drop (0:Nat))) from ⟨om,(by unfold q8;rw [An om,An om];rfl)⟩) (Aa C<|Aa (Do C<|by first|omega|(dsimp only<;>omega)|exact (rfl:(0:Int)=G3 es 0)|exact (G0 es k).symm)<|cx2<|Aa (Do C<|by first|omega|(dsimp only<;>omega)|exact (rfl:(0:Int)=G3 es 0)|exact (G0 es k).symm) A9) (show Fit κ _ I from Ar) ?_
 rintro k hp
 obtain ⟨hk,hs⟩:=hp
 refine Z ?_
 refine Am C (λaa=>Z ?_)<|λaa=>Z ?_
 ·refine Ge1 (Ah j7 C) λb1=>Ge0 (Fa j7) (Z ?_)
  refine G.e (Ac c_ C C<|ck8<|e_ es k) ?_
  rintro _ _ ⟨_,_,⟨rfl,rfl⟩,rfl,rfl⟩
  refine Z ?_
  refine Am C (λM=>Z ?_)<|λM=>Z ?_
  ·exact Ak C C I Af ⟨by rw [show q8 nd es=s7 (e_ es k) from (hs.trans<|(L7 om<|by rw [bb7 M];exact M).trans (bb7 M))],rfl⟩
  refine Gc0 (Ac c_ C C<|db8 nd<|e_ es k)<|Z ?_
  refine Am C (λE=>Z ?_)<|λE=>Z ?_
  ·exact Ak C C I Af ⟨by rw [show q8 nd es=ae5 nd (e_ es k) from (hs.trans<|L7 om E)],rfl⟩
  refine Am C (λab=>Z ?_)<|λab=>Z ?_
  ·exact Ak C C I Af ⟨by rw [show q8 nd es=9 from (hs.trans<|ab6 om (B_.1 E) om)],rfl⟩
  exact Bh ((k+1)) ⟨om,(hs.trans<|Q7 om (B_.1 E) om)⟩ (hL:=(Aa C<|Aa (Do C<|by first|omega|(dsimp only<;>omega)|exact (rfl:(0:Int)=G3 es 0)|exact (G0 es k).symm)<|cx2<|Aa (Do C<|by first|omega|(dsimp only<;>omega)|exact (rfl:(0:Int)=G3 es 0)|exact (G0 es k).symm) A9))
 exact Ak C C I Af ⟨by rw [show q8 nd es=0 from (hs.trans<|ae8 om)],rfl⟩
variable {κ:Ctx}{I:List Item}
theorem gr7:∀M w,(callFunc 324 M).run prog w=((Extern.SlicesOverlaps.overlaps #[109,109] #[4] M).run prog w).andThen λv w'=> .ok (.value v) w':=λM w=>run_callFunc_extern (e:=Extern.SlicesOverlaps.overlaps #[109,109] #[4]) Tryz.func324 kr kr kr kr M w
theorem dk8{ah:Nat}(hi:i<=xs.length)(hy:0<ys.length)(ap:xs.length+ys.length<=1000000000):er prog κ 303 [.slice a xs.length c,e7 ((i:Int)),.slice va ys.length ah] (vc 146 (.slice a xs.length c) (xs)::vc 146 (.slice va ys.length ah) (ys)::I) (λr J=>∃a' c',r = .slice a' (List.take i xs++ys++List.drop i xs).length c'/\J=vc 146 (.slice a' (List.take i xs++ys++List.drop i xs).length c') (List.take i xs++ys++List.drop i xs)::I):=by
 refine Bm (vc.cap C_) λao=>?_
 have ad:(List.take i xs++ys++List.drop i xs).length=xs.length+ys.length:=by simp only [A_,Fx,Ge];omega
 refine Ce3 Tryz.func303 C C<|Z ?_
 refine Gr (En (α:=Lk) (xs:=xs) (l:=i) Aw p7 C C om A6 lat)<|Z ?_
 refine Am C (λae=>?_)<|λae=>Z ?_
 ·exact absurd ae om
 refine Am C (λak=>Z ?_)<|λak=>Z ?_
 ·refine Ge2 (Bv (α:=Lk) (e:=146) (xs:=xs) (ys:=ys) Aw p7 C C C mm A6 om dc C<|λ_ _=>am) λab aa=>Z ?_
  have hR:List.take i xs++ys++List.drop i xs=xs++ys:=by rw [Gb om,Hb om,Hq]
  exact Ak C C (vc 146 (.slice ab (List.take i xs++ys++List.drop i xs).length aa) (List.take i xs++ys++List.drop i xs)::I) (by rw [hR];exact Bi) ⟨ab,aa,by rw [hR],rfl⟩
 refine Gr (j0.caps Aw C)<|Z ?_
 refine Am C (λaj=>Z ?_)<|λaj=>Z ?_
 ·refine Gr (j0.fk7 (h:=i) Aw p7 C C om om) (Z ?_)
  refine Ge2 (Eff.grow (α:=Lk) (xs:=xs) (k:=xs.length+ys.length - i) Aw A7 p7 C C C om A6 om om om om dc C) λE M=>?_
  refine Ga C<|G.pull (p:=(List.take i xs++List.replicate (xs.length+ys.length - i) (default:Lk)).length<=M) (vc.cap mm) λai=>?_
  have aq:(List.take i xs++List.replicate (xs.length+ys.length - i) (default:Lk)).length=xs.length+ys.length:=by simp only [A_,Fx,Fw];omega
  refine Z ?_
  refine Gr (En (α:=Lk) (xs:=List.take i xs++List.replicate (xs.length+ys.length - i) (default:Lk)) (l:=i) Aw p7 C C om A6 lat)<|Gm C<|Ge0 (Eff.ga2 (α:=Lk) (k:=i) (q:=ys.length) (R:=List.take i xs++ys++List.replicate (xs.length - i) (default:Lk)) (n:=(i+(xs.length+ys.length - i))) Aw p7 C lat C A6 lat lat C (ins1 hi) lat am) ?_
  refine Aq<|Ax<|A8 mixed<|Cf I 9<|Z ?_
  refine Dr 4 C (Eq (l:=(i+ys.length)) Aw p7 C C om om om)<|Z ?_
  refine Dr 7 C (Eq (l:=i) Aw p7 C C om om om)<|Ds1 8<|Se0 C (Eff.ga2 (α:=Lk) (k:=(i+ys.length)) (q:=(xs.length - i)) (R:=List.take i xs++ys++List.drop i xs) (n:=(i+(xs.length+ys.length - i))) Aw p7 C lat C (Ff (Ed (xs:=xs) mm) om om) lat lat C (ins2 hi) lat am)<|Z ?_
  exact Ak C C (vc 146 (.slice E (List.take i xs++ys++List.drop i xs).length M) (List.take i xs++ys++List.drop i xs)::I) (by rw [show (List.take i xs++ys++List.drop i xs).length=i+(xs.length+ys.length - i) by omega];exact Bi) ⟨E,M,by rw [show (List.take i xs++ys++List.drop i xs).length=i+(xs.length+ys.length - i) by omega],rfl⟩
 refine Gr (j0.fk7 (h:=xs.length+ys.length) Aw p7 C C om om)<|Ga C<|G.room (h:=xs.length+ys.length) ta0 C om om<|λjs an=>Z ?_
 refine Gr (Eq (l:=(i+ys.length)) Aw p7 C C om om om)<|Ge0 (Eff.overlaps (k:=i+ys.length) gr7 Aw p7 C C om om om (Fit.sp<|Sp.pick (ab5.tail _<|ab5.head _ _)<|Sp.refl _) (Nat.mul_pos om Enc.pos) C)<|Z ?_
 refine A8 mixed<|Cf I 9<|Z ?_
 refine Dr 4 C (Eq (l:=(i+ys.length)) Aw p7 C C om om om)<|Z ?_
 refine Dr 7 C (Eq (l:=i) Aw p7 C C om om om)<|Ds1 8<|Se0 C (Eff.ga3 (sz:=Enc.sz Lk) (n:=xs.length+ys.length) (cs:=(cells xs++js)) (k:=(i+ys.length)) (q:=(xs.length - i)) Aw p7 C om C (bj5.gt8 (bj5.vec mm) om) om om (fy9 hi) C am)<|Z ?_
 refine Gr (Eq (l:=i) Aw p7 C C om om om)<|Gm C<|Ge0 (Eff.ga3 (sz:=Enc.sz Lk) (n:=xs.length+ys.length) (cs:=(List.take ((i+ys.length)*Enc.sz Lk) (cells xs++js)++List.take ((xs.length - i)*Enc.sz Lk) (List.drop (i*Enc.sz Lk)<|cells xs++js)++List.drop ((i+ys.length)*Enc.sz Lk+(xs.length - i)*Enc.sz Lk) (cells xs++js))) (k:=i) (q:=ys.length) Aw p7 C om C (Ed (e:=146) (xs:=ys) mm) om om (λu hu=>cells_one ys u<|Lh hu) C am)<|Z ?_
 have hC:(List.take (i*Enc.sz Lk) (List.take ((i+ys.length)*Enc.sz Lk) (cells xs++js)++List.take ((xs.length - i)*Enc.sz Lk) (List.drop (i*Enc.sz Lk)<|cells xs++js)++List.drop ((i+ys.length)*Enc.sz Lk+(xs.length - i)*Enc.sz Lk) (cells xs++js))++List.take (ys.length*Enc.sz Lk) (cells ys)++List.drop (i*Enc.sz Lk+ys.length*Enc.sz Lk) (List.take ((i+ys.length)*Enc.sz Lk) (cells xs++js)++List.take ((xs.length - i)*Enc.sz Lk) (List.drop (i*Enc.sz Lk)<|cells xs++js)++List.drop ((i+ys.length)*Enc.sz Lk+(xs.length - i)*Enc.sz Lk) (cells xs++js)))=cells (List.take i xs++ys++List.drop i xs):=du9 hi an
 exact Ak C C (vc 146 (.slice a (List.take i xs++ys++List.drop i xs).length c) (List.take i xs++ys++List.drop i xs)::I) (by rw [hC];show Fit κ _ (vec 146 _ (.slice a (List.take i xs++ys++List.drop i xs).length c) (List.take i xs++ys++List.drop i xs).length (cells<|List.take i xs++ys++List.drop i xs)::I);rw [ad];exact Bi) ⟨a,c,by rw [ad],rfl⟩
theorem bk2{n m M:Nat}{K:List Item}(hf:Fit κ I (vc 146 (.slice a n c) xs::vc 146 (.slice va m M) ys::K))(hn:n=xs.length)(hm:m=ys.length)(hi:i<=xs.length)(hy:0<ys.length)(E:xs.length+ys.length<=1000000000):er prog κ 303 [.slice a n c,e7 (i:Int),.slice va m M] I (λr J=>∃a' c',r = .slice a' (List.take i xs++ys++List.drop i xs).length c'/\J=vq 146 a' c' (List.take i xs++ys++List.drop i xs)::K):=by
 subst hn hm
 exact Cm hf<|dk8 hi hy E
theorem fs4{v:Value}(hl:Sl κ I v xs)(x:Lk){g:FuncId}{E:List Value}{cf:Lk->Lk->Int}(M:gq7 prog κ I g E cf)(an:xs.length<=1000000000000):er prog κ 302 [v,.agg (kl x).toArray,.func (.func g) #[] E.toArray] I (λr J=>∃i b,r = .tuple #[e7 ((i:Nat):Int),.bool b]/\dc0 cf xs x i b/\I=J):=by
 refine Bm hl.le λaj=>?_
 refine Ce3 Tryz.func302 C C ?_
 refine Aj<|Ge1 (Ay (cs:=[_,_,_,_,_,_]) C C C) λb1=>Z ?_
 refine Dl (σ:=Nat×Nat) (λs=>[(9,e7 ((s.1:Nat):Int)),(10,e7 ((s.2:Nat):Int))]) (λ_=>[]) (λs=>(s.1<=s.2)/\(s.2<=xs.length)/\(0<s.1->cf (e_ xs<|(s.1:Int) - 1) x<0)/\(s.2<xs.length->¬cf (e_ xs s.2) x<0)) (λs=>s.2 - s.1) (0,xs.length) (show ((0:Nat)<=(xs.length:Nat))/\((xs.length:Nat)<=xs.length)/\(0<(0:Nat)->cf (e_ xs<|((0:Nat):Int) - 1) x<0)/\((xs.length:Nat)<xs.length->¬cf (e_ xs ((xs.length:Nat):Int)) x<0) from ⟨om,om,(λh=>absurd h dc),(λh=>absurd h om)⟩) ?_
 rintro ⟨i,j⟩ hp
 dsimp only at hp ⊢
 obtain ⟨ak,hj,ae,ab⟩:=hp
 refine Z ?_
 refine Am C (λai=>Z ?_)<|λai=>Z ?_
 ·refine Gr (C6 A7 Cs C om) (Gr (j0.shr1 C C)<|Gr (j0.dx9 Cs A7 C<|by unfold InR;omega)<|Z ?_)
  refine A8 mixed<|C1 8<|Z ?_
  refine Ds1 6<|Se C (C0 M.1 (first:=[]) (caps:=E) C C C<|M.2 (e_ xs<|((i:Int)+(j:Int)) / 2) x _ Af) ?_
  rintro _ _ ⟨_,_,⟨rfl,rfl⟩,rfl,rfl⟩
  refine ⟨Ar,?_⟩
  refine Z ?_
  refine Am C (λad=>Z ?_)<|λad=>Z ?_
  ·exact Bh (((i+j) / 2+1),(j))<|by dsimp only;exact ⟨om,om,(λ_=>by rw [show (((i+j) / 2+1:Nat):Int) - 1=((i:Int)+(j:Int)) / 2 by omega];exact ad),ab⟩
  exact Bh ((i),((i+j) / 2))<|by dsimp only;exact ⟨om,om,ae,(λ_=>by rw [show (((i+j) / 2:Nat):Int)=((i:Int)+(j:Int)) / 2 by omega];exact ad)⟩
 refine A8 mixed<|C1 16<|Z ?_
 refine Cw (d:=39) C (λah=>Z ?_)<|λah=>?_
 ·refine Ds1 11 (Se C (C0 M.1 (first:=[]) (caps:=E) C C C<|M.2 (e_ xs i) x _ Af) ?_)
  rintro _ _ ⟨_,_,⟨rfl,rfl⟩,rfl,rfl⟩
  refine ⟨Ar,?_⟩
  refine Z ?_
  have aa:i=j:=by omega
  subst aa
  exact B5 C C C I Af ⟨i,_,rfl,⟨hj,ae,ab,(Fy.2 ⟨λh=>⟨by omega,h⟩,λh=>h.2⟩)⟩,rfl⟩
 refine Dpo 5 C<|Z ?_
 have aa:i=j:=by omega
 subst aa
 exact B5 C C C I Af ⟨i,_,rfl,⟨hj,ae,ab,((E_<|λh=>by omega).symm)⟩,rfl⟩
theorem cq7:gq7 prog κ I 255 [] Lk.cmp:=⟨c_,λx y J M=>bj9 x y⟩
theorem fb4{κ:Ctx}{I:List Item}{e:Ev}{a0:Option Addr}{c0:Nat}(ha:xs.Pairwise Lk.lt)(bc:xs.length<=1000000):er prog κ 256 [.slice a0 xs.length c0,.agg (ye e).toArray] (vq 146 a0 c0 xs::I) (λr J=>∃y:Option Addr×Nat×Value,(r = .tuple #[.slice y.1 (Q1 (ei e) xs).length y.2.1,y.2.2])/\J=[]++vq 146 y.1 y.2.1 (Q1 (ei e) xs)::I):=by
 refine Ce2 Tryz.func256 C C ?_
 refine Aj<|Ge1 (Ay (cs:=[_,_,_,_,_,_,_]) C C C) λb1=>Z ?_
 refine Ge1 (Ah p7 C) λb2=>Ge0 (Dp p7)<|Z ?_
 refine G.e (Ac c_ C C<|fs4 A6 (⟨if e.v<e.u then e.v else e.u,if e.u<e.v then e.v else e.u,e.w,e.lb,e.sg,e.tm⟩:Lk) cq7 om) ?_
 rintro _ _ ⟨_,_,⟨M,q4,rfl,ai,rfl⟩,rfl,rfl⟩
 refine Z ?_
 have a5:=ai.le
 refine Z ?_
 refine A8 mixed<|C1 9<|Z ?_
 refine D.bn8 (d:=35) C (λaa=>?_)<|λaa=>?_
 ·have bb:=(ac9 ai ha aa).1
  refine Z ?_
  refine Dro 7 C (Fm (α:=Lk) (a:=(e_ xs M)) (b:=(⟨if e.v<e.u then e.v else e.u,if e.u<e.v then e.v else e.u,e.w,e.lb,e.sg,e.tm⟩:Lk)) dw4 C C)<|Z ?_
  refine Am C (λax=>Z ?_)<|λax=>Z ?_
  ·have aq:M<xs.length/\(Q1 (ei e) xs)=xs.set M (ei e):=ac9 ai ha aa
   have E:xs=(Q1 (ei e) xs):=by rw [aq.2];exact (ff8 (n:=ei e) aq.1 ax).symm
   exact B5 C C C ([]++vq 146 a0 c0 (Q1 (ei e) xs)::I) (by unfold vq;rw [←E];exact Ar) ⟨⟨a0,c0,.slice none 0 0⟩,by rw [←E],rfl⟩
  refine D8 C (λao=>?_)<|λao=>?_
  ·rw [aa] at ao;exact absurd ao dc
  refine Aj<|Gm C<|G.e (Ac c_ C C<|bt1 (xs:=xs) A6 om) ?_
  rintro _ _ ⟨_,_,⟨ak,an,rfl,rfl⟩,rfl,rfl⟩
  refine Z ?_
  refine Ge0 (Cr (α:=Lk) (xs:=xs) (e:=146) (new:=⟨if e.v<e.u then e.v else e.u,if e.u<e.v then e.v else e.u,e.w,e.lb,e.sg,e.tm⟩) p7 C C C om om am)<|Z ?_
  refine A8 mixed<|Cf (vc 146 (.slice ak xs.length an) (List.set xs ((M:Int)).toNat (⟨if e.v<e.u then e.v else e.u,if e.u<e.v then e.v else e.u,e.w,e.lb,e.sg,e.tm⟩))::e8 b2 [e7 (if e.v<e.u then e.v else e.u),e7 (if e.u<e.v then e.v else e.u),e7<|e.w,e7<|e.lb,e7<|e.sg,e7<|e.tm] 146::vq 146 a0 c0 xs::I) 5<|Z ?_
  refine Cg (rs:=[2,5]) kr C C<|Dk ?_<|Du ?_
  ·refine Sr C (Ai T4 C) Ar ?_
   refine Cg (rs:=[3,5]) kr C C<|Dk ?_<|Du ?_
   ·refine Sr C (Bd ef) Ar ?_
    refine De kr ?_
    refine Ae 5 C (Ej ef) ?_
    rintro _ _ ⟨rfl,rfl⟩
    refine Ft (i:=6) kr C (Ci C) C C (Ai L9 C) ?_
    refine Ae 7 C (Ej ef) ?_
    rintro _ _ ⟨rfl,rfl⟩
    refine Df kr ?_
    refine Al<|Ax<|A8 mixed<|Cf (vc 146 (.slice ak xs.length an) (List.set xs ((M:Int)).toNat (⟨if e.v<e.u then e.v else e.u,if e.u<e.v then e.v else e.u,e.w,e.lb,e.sg,e.tm⟩))::e8 b2 [e7 (if e.v<e.u then e.v else e.u),e7 (if e.u<e.v then e.v else e.u),e7<|e.w,e7<|e.lb,e7<|e.sg,e7<|e.tm] 146::e8 b1 [e7 (e.kd),e7<|e.tm,e7 (if e.v<e.u then e.v else e.u),e7 (if e.u<e.v then e.v else e.u),e7<|e.w,e7<|e.lb,e7<|e.sg] 108::vq 146 a0 c0 xs::I) 5<|Z ?_
    refine Ds1 2<|Se1 C (Bt (α:=Ev) (cs:=[e7 (e.kd),e7<|e.tm,e7 (if e.v<e.u then e.v else e.u),e7 (if e.u<e.v then e.v else e.u),e7<|e.w,e7<|e.lb,e7<|e.sg]) (xs:=[⟨e.kd,e.tm,if e.v<e.u then e.v else e.u,if e.u<e.v then e.v else e.u,e.w,e.lb,e.sg⟩]) As j7 C C dc dc C kr C C) λaz=>Z ?_
    have E:List.set xs ((M:Int)).toNat (⟨if e.v<e.u then e.v else e.u,if e.u<e.v then e.v else e.u,e.w,e.lb,e.sg,e.tm⟩)=(Q1 (ei e) xs):=(ac9 ai ha aa).2.symm
    have aj:(Q1 (ei e) xs).length=xs.length:=by rw [←E,Gd]
    exact B5 C C C ([]++vq 146 ak an (Q1 (ei e) xs)::I) (by unfold vq;rw [aj,←E];exact Ar) ⟨⟨ak,an,.slice az 1 1⟩,by rw [aj],rfl⟩
   refine Se0 C (Ej ef) ?_
   refine Ds1 3<|Sr C (Bd ef) Ar ?_
   refine Ds1 6<|Sr C (Ai L9 C) Ar ?_
   refine Ds1 7<|Se0 C (Ej ef) ?_
   refine Dz<|Al<|Ax<|A8 mixed<|C1 5<|Z ?_
   refine Ds1 2<|Se1 C (Bt (α:=Ev) (cs:=[e7 (e.kd),e7<|e.tm,e7 (if e.v<e.u then e.v else e.u),e7 (if e.u<e.v then e.v else e.u),e7<|e.w,e7<|e.lb,e7<|e.sg]) (xs:=[⟨e.kd,e.tm,if e.v<e.u then e.v else e.u,if e.u<e.v then e.v else e.u,e.w,e.lb,e.sg⟩]) As j7 C C dc dc C kr C C) λa1=>Z ?_
   have E:List.set xs ((M:Int)).toNat (⟨if e.v<e.u then e.v else e.u,if e.u<e.v then e.v else e.u,e.w,e.lb,e.sg,e.tm⟩)=(Q1 (ei e) xs):=(ac9 ai ha aa).2.symm
   have aj:(Q1 (ei e) xs).length=xs.length:=by rw [←E,Gd]
   exact B5 C C C ([]++vq 146 ak an (Q1 (ei e) xs)::I) (by unfold vq;rw [aj,←E];exact Ar) ⟨⟨ak,an,.slice a1 1 1⟩,by rw [aj],rfl⟩
  refine Se0 C (Ej ef) ?_
  refine Ds1 2<|Sr C (Ai T4 C) Ar ?_
  refine Ds1 3<|Sr C (Bd ef) Ar ?_
  refine Ds1 6<|Sr C (Ai L9 C) Ar ?_
  refine Ds1 7<|Se0 C (Ej ef) ?_
  refine Dz<|Al<|Ax<|A8 mixed<|C1 5<|Z ?_
  refine Ds1 2<|Se1 C (Bt (α:=Ev) (cs:=[e7 (e.kd),e7<|e.tm,e7 (if e.v<e.u then e.v else e.u),e7 (if e.u<e.v then e.v else e.u),e7<|e.w,e7<|e.lb,e7<|e.sg]) (xs:=[⟨e.kd,e.tm,if e.v<e.u then e.v else e.u,if e.u<e.v then e.v else e.u,e.w,e.lb,e.sg⟩]) As j7 C C dc dc C kr C C) λa3=>Z ?_
  have E:List.set xs ((M:Int)).toNat (⟨if e.v<e.u then e.v else e.u,if e.u<e.v then e.v else e.u,e.w,e.lb,e.sg,e.tm⟩)=(Q1 (ei e) xs):=(ac9 ai ha aa).2.symm
  have aj:(Q1 (ei e) xs).length=xs.length:=by rw [←E,Gd]
  exact B5 C C C ([]++vq 146 ak an (Q1 (ei e) xs)::I) (by unfold vq;rw [aj,←E];exact Ar) ⟨⟨ak,an,.slice a3 1 1⟩,by rw [aj],rfl⟩
 refine Dpo 2 C<|Z ?_
 refine D8 C (λao=>?_)<|λao=>?_
 ·refine A8 mixed (C1 7<|Z ?_)
  refine Cg (rs:=[1,4]) kr C C<|Dk ?_<|Du ?_
  ·refine Se C (Ac c_ C C<|bt1 (xs:=xs) A6 om) ?_
   rintro _ _ ⟨_,_,⟨a6,a4,rfl,rfl⟩,rfl,rfl⟩
   refine ⟨Ar,?_⟩
   refine Ds1 4<|Se1 C (Bt (α:=Lk) (cs:=[e7 (if e.v<e.u then e.v else e.u),e7 (if e.u<e.v then e.v else e.u),e7<|e.w,e7<|e.lb,e7<|e.sg,e7<|e.tm]) (xs:=[⟨if e.v<e.u then e.v else e.u,if e.u<e.v then e.v else e.u,e.w,e.lb,e.sg,e.tm⟩]) Aw p7 C C dc dc C kr C C) λba=>?_
   refine Ds1 5<|Sc2 C (Ac c_ C C<|bk2 (i:=M) (xs:=xs) (ys:=([⟨if e.v<e.u then e.v else e.u,if e.u<e.v then e.v else e.u,e.w,e.lb,e.sg,e.tm⟩]:List Lk)) Bi C C om (by simp only [Fu];omega) lcn) λad ae=>Z ?_
   refine A8 mixed<|Cf (vq 146 ad ae (List.take M xs++([⟨if e.v<e.u then e.v else e.u,if e.u<e.v then e.v else e.u,e.w,e.lb,e.sg,e.tm⟩]:List Lk)++List.drop M xs)::e8 b2 [e7 (if e.v<e.u then e.v else e.u),e7 (if e.u<e.v then e.v else e.u),e7<|e.w,e7<|e.lb,e7<|e.sg,e7<|e.tm] 146::vq 146 a0 c0 xs::I) 5<|Z ?_
   refine Cg (rs:=[2,5]) kr C C<|Dk ?_<|Du ?_
   ·refine Sr C (Ai T4 C) Ar ?_
    refine Cg (rs:=[3,5]) kr C C<|Dk ?_<|Du ?_
    ·refine Sr C (Bd ef) Ar ?_
     refine De kr ?_
     refine Ae 5 C (Ej ef) ?_
     rintro _ _ ⟨rfl,rfl⟩
     refine Ft (i:=6) kr C (Ci C) C C (Ai L9 C) ?_
     refine Ae 7 C (Ej ef) ?_
     rintro _ _ ⟨rfl,rfl⟩
     refine Df kr ?_
     refine Al<|Ax<|A8 mixed<|Cf (vq 146 ad ae (List.take M xs++([⟨if e.v<e.u then e.v else e.u,if e.u<e.v then e.v else e.u,e.w,e.lb,e.sg,e.tm⟩]:List Lk)++List.drop M xs)::e8 b2 [e7 (if e.v<e.u then e.v else e.u),e7 (if e.u<e.v then e.v else e.u),e7<|e.w,e7<|e.lb,e7<|e.sg,e7<|e.tm] 146::e8 b1 [e7 (e.kd),e7<|e.tm,e7 (if e.v<e.u then e.v else e.u),e7 (if e.u<e.v then e.v else e.u),e7<|e.w,e7<|e.lb,e7<|e.sg] 108::vq 146 a0 c0 xs::I) 5<|Z ?_
     refine Ds1 2<|Se1 C (Bt (α:=Ev) (cs:=[e7 (e.kd),e7<|e.tm,e7 (if e.v<e.u then e.v else e.u),e7 (if e.u<e.v then e.v else e.u),e7<|e.w,e7<|e.lb,e7<|e.sg]) (xs:=[⟨e.kd,e.tm,if e.v<e.u then e.v else e.u,if e.u<e.v then e.v else e.u,e.w,e.lb,e.sg⟩]) As j7 C C dc dc C kr C C) λap=>Z ?_
     have E:List.take M xs++([⟨if e.v<e.u then e.v else e.u,if e.u<e.v then e.v else e.u,e.w,e.lb,e.sg,e.tm⟩]:List Lk)++List.drop M xs=(Q1 (ei e) xs):=(am3 ai ha aa).symm
     exact B5 C C C ([]++vq 146 ad ae (Q1 (ei e) xs)::I) (by unfold vq;rw [←E];exact Ar) ⟨⟨ad,ae,.slice ap 1 1⟩,by rw [←E],rfl⟩
    refine Se0 C (Ej ef) ?_
    refine Ds1 3<|Sr C (Bd ef) Ar ?_
    refine Ds1 6<|Sr C (Ai L9 C) Ar ?_
    refine Ds1 7<|Se0 C (Ej ef) ?_
    refine Dz<|Al<|Ax<|A8 mixed<|C1 5<|Z ?_
    refine Ds1 2<|Se1 C (Bt (α:=Ev) (cs:=[e7 (e.kd),e7<|e.tm,e7 (if e.v<e.u then e.v else e.u),e7 (if e.u<e.v then e.v else e.u),e7<|e.w,e7<|e.lb,e7<|e.sg]) (xs:=[⟨e.kd,e.tm,if e.v<e.u then e.v else e.u,if e.u<e.v then e.v else e.u,e.w,e.lb,e.sg⟩]) As j7 C C dc dc C kr C C) λav=>Z ?_
    have E:List.take M xs++([⟨if e.v<e.u then e.v else e.u,if e.u<e.v then e.v else e.u,e.w,e.lb,e.sg,e.tm⟩]:List Lk)++List.drop M xs=(Q1 (ei e) xs):=(am3 ai ha aa).symm
    exact B5 C C C ([]++vq 146 ad ae (Q1 (ei e) xs)::I) (by unfold vq;rw [←E];exact Ar) ⟨⟨ad,ae,.slice av 1 1⟩,by rw [←E],rfl⟩
   refine Se0 C (Ej ef) ?_
   refine Ds1 2<|Sr C (Ai T4 C) Ar ?_
   refine Ds1 3<|Sr C (Bd ef) Ar ?_
   refine Ds1 6<|Sr C (Ai L9 C) Ar ?_
   refine Ds1 7<|Se0 C (Ej ef) ?_
   refine Dz<|Al<|Ax<|A8 mixed<|C1 5<|Z ?_
   refine Ds1 2<|Se1 C (Bt (α:=Ev) (cs:=[e7 (e.kd),e7<|e.tm,e7 (if e.v<e.u then e.v else e.u),e7 (if e.u<e.v then e.v else e.u),e7<|e.w,e7<|e.lb,e7<|e.sg]) (xs:=[⟨e.kd,e.tm,if e.v<e.u then e.v else e.u,if e.u<e.v then e.v else e.u,e.w,e.lb,e.sg⟩]) As j7 C C dc dc C kr C C) λar=>Z ?_
   have E:List.take M xs++([⟨if e.v<e.u then e.v else e.u,if e.u<e.v then e.v else e.u,e.w,e.lb,e.sg,e.tm⟩]:List Lk)++List.drop M xs=(Q1 (ei e) xs):=(am3 ai ha aa).symm
   exact B5 C C C ([]++vq 146 ad ae (Q1 (ei e) xs)::I) (by unfold vq;rw [←E];exact Ar) ⟨⟨ad,ae,.slice ar 1 1⟩,by rw [←E],rfl⟩
  refine Se1 C (Bt (α:=Lk) (cs:=[e7 (if e.v<e.u then e.v else e.u),e7 (if e.u<e.v then e.v else e.u),e7<|e.w,e7<|e.lb,e7<|e.sg,e7<|e.tm]) (xs:=[⟨if e.v<e.u then e.v else e.u,if e.u<e.v then e.v else e.u,e.w,e.lb,e.sg,e.tm⟩]) Aw p7 C C dc dc C kr C C) λa7=>?_
  refine Ds1 1<|Se C (Ac c_ C C<|bt1 (xs:=xs) A6 om) ?_
  rintro _ _ ⟨_,_,⟨a9,a8,rfl,rfl⟩,rfl,rfl⟩
  refine ⟨Ar,?_⟩
  refine Ds1 5<|Sc2 C (Ac c_ C C<|bk2 (i:=M) (xs:=xs) (ys:=([⟨if e.v<e.u then e.v else e.u,if e.u<e.v then e.v else e.u,e.w,e.lb,e.sg,e.tm⟩]:List Lk)) Bi C C om (by simp only [Fu];omega) lcn) λah ab=>Z ?_
  refine A8 mixed<|Cf (vq 146 ah ab (List.take M xs++([⟨if e.v<e.u then e.v else e.u,if e.u<e.v then e.v else e.u,e.w,e.lb,e.sg,e.tm⟩]:List Lk)++List.drop M xs)::e8 b2 [e7 (if e.v<e.u then e.v else e.u),e7 (if e.u<e.v then e.v else e.u),e7<|e.w,e7<|e.lb,e7<|e.sg,e7<|e.tm] 146::vq 146 a0 c0 xs::I) 5<|Z ?_
  refine Cg (rs:=[2,5]) kr C C<|Dk ?_<|Du ?_
  ·refine Sr C (Ai T4 C) Ar ?_
   refine Cg (rs:=[3,5]) kr C C<|Dk ?_<|Du ?_
   ·refine Sr C (Bd ef) Ar ?_
    refine De kr ?_
    refine Ae 5 C (Ej ef) ?_
    rintro _ _ ⟨rfl,rfl⟩
    refine Ft (i:=6) kr C (Ci C) C C (Ai L9 C) ?_
    refine Ae 7 C (Ej ef) ?_
    rintro _ _ ⟨rfl,rfl⟩
    refine Df kr ?_
    refine Al<|Ax<|A8 mixed<|Cf (vq 146 ah ab (List.take M xs++([⟨if e.v<e.u then e.v else e.u,if e.u<e.v then e.v else e.u,e.w,e.lb,e.sg,e.tm⟩]:List Lk)++List.drop M xs)::e8 b2 [e7 (if e.v<e.u then e.v else e.u),e7 (if e.u<e.v then e.v else e.u),e7<|e.w,e7<|e.lb,e7<|e.sg,e7<|e.tm] 146::e8 b1 [e7 (e.kd),e7<|e.tm,e7 (if e.v<e.u then e.v else e.u),e7 (if e.u<e.v then e.v else e.u),e7<|e.w,e7<|e.lb,e7<|e.sg] 108::vq 146 a0 c0 xs::I) 5<|Z ?_
    refine Ds1 2<|Se1 C (Bt (α:=Ev) (cs:=[e7 (e.kd),e7<|e.tm,e7 (if e.v<e.u then e.v else e.u),e7 (if e.u<e.v then e.v else e.u),e7<|e.w,e7<|e.lb,e7<|e.sg]) (xs:=[⟨e.kd,e.tm,if e.v<e.u then e.v else e.u,if e.u<e.v then e.v else e.u,e.w,e.lb,e.sg⟩]) As j7 C C dc dc C kr C C) λau=>Z ?_
    have E:List.take M xs++([⟨if e.v<e.u then e.v else e.u,if e.u<e.v then e.v else e.u,e.w,e.lb,e.sg,e.tm⟩]:List Lk)++List.drop M xs=(Q1 (ei e) xs):=(am3 ai ha aa).symm
    exact B5 C C C ([]++vq 146 ah ab (Q1 (ei e) xs)::I) (by unfold vq;rw [←E];exact Ar) ⟨⟨ah,ab,.slice au 1 1⟩,by rw [←E],rfl⟩
   refine Se0 C (Ej ef) ?_
   refine Ds1 3<|Sr C (Bd ef) Ar ?_
   refine Ds1 6<|Sr C (Ai L9 C) Ar ?_
   refine Ds1 7<|Se0 C (Ej ef) ?_
   refine Dz<|Al<|Ax<|A8 mixed<|C1 5<|Z ?_
   refine Ds1 2<|Se1 C (Bt (α:=Ev) (cs:=[e7 (e.kd),e7<|e.tm,e7 (if e.v<e.u then e.v else e.u),e7 (if e.u<e.v then e.v else e.u),e7<|e.w,e7<|e.lb,e7<|e.sg]) (xs:=[⟨e.kd,e.tm,if e.v<e.u then e.v else e.u,if e.u<e.v then e.v else e.u,e.w,e.lb,e.sg⟩]) As j7 C C dc dc C kr C C) λaw=>Z ?_
   have E:List.take M xs++([⟨if e.v<e.u then e.v else e.u,if e.u<e.v then e.v else e.u,e.w,e.lb,e.sg,e.tm⟩]:List Lk)++List.drop M xs=(Q1 (ei e) xs):=(am3 ai ha aa).symm
   exact B5 C C C ([]++vq 146 ah ab (Q1 (ei e) xs)::I) (by unfold vq;rw [←E];exact Ar) ⟨⟨ah,ab,.slice aw 1 1⟩,by rw [←E],rfl⟩
  refine Se0 C (Ej ef) ?_
  refine Ds1 2<|Sr C (Ai T4 C) Ar ?_
  refine Ds1 3<|Sr C (Bd ef) Ar ?_
  refine Ds1 6<|Sr C (Ai L9 C) Ar ?_
  refine Ds1 7<|Se0 C (Ej ef) ?_
  refine Dz<|Al<|Ax<|A8 mixed<|C1 5<|Z ?_
  refine Ds1 2<|Se1 C (Bt (α:=Ev) (cs:=[e7 (e.kd),e7<|e.tm,e7 (if e.v<e.u then e.v else e.u),e7 (if e.u<e.v then e.v else e.u),e7<|e.w,e7<|e.lb,e7<|e.sg]) (xs:=[⟨e.kd,e.tm,if e.v<e.u then e.v else e.u,if e.u<e.v then e.v else e.u,e.w,e.lb,e.sg⟩]) As j7 C C dc dc C kr C C) λay=>Z ?_
  have E:List.take M xs++([⟨if e.v<e.u then e.v else e.u,if e.u<e.v then e.v else e.u,e.w,e.lb,e.sg,e.tm⟩]:List Lk)++List.drop M xs=(Q1 (ei e) xs):=(am3 ai ha aa).symm
  exact B5 C C C ([]++vq 146 ah ab (Q1 (ei e) xs)::I) (by unfold vq;rw [←E];exact Ar) ⟨⟨ah,ab,.slice ay 1 1⟩,by rw [←E],rfl⟩
 rw [aa] at ao;exact absurd ao dc
end Go.Sl
namespace Go.Sl
open Go.Proofs
set_option maxRecDepth 4000
theorem fd6{κ:Ctx}{I:List Item}{nw:Int}{a0:Option Addr}{c0:Nat}{xs:List Lk}{g:FuncId}{ae:List Value}{p:Lk->Bool}(aj:gc5 prog κ (vq 146 a0 c0 xs::I) g ae p)(av:xs.length<=1000000):er prog κ 257 [.slice a0 xs.length c0,e7 nw,.func (.func g) #[] ae.toArray] (vq 146 a0 c0 xs::I) (λr J=>∃y:Option Addr×Nat×Value,(r = .tuple #[.slice y.1 (xs.filter (λx=> !p x)).length y.2.1,y.2.2])/\J=[]++vq 146 y.1 y.2.1 (xs.filter (λx=> !p x))::I):=by
 refine Ce3 Tryz.func257 C C ?_
 refine Aj<|Ga C<|Ga C<|Aq<|Aj<|Gm C<|G.e (Ac c_ C C<|bt1 (xs:=xs) A6 om) ?_
 rintro _ _ ⟨_,_,⟨ad,ab,rfl,rfl⟩,rfl,rfl⟩
 refine Ga C<|Aq<|Aj<|Ga C<|Aq<|Ax<|Aj<|Ga C<|Aq<|A3<|B4 (σ:=Nat×(Option Addr)×Nat×(List Ev)) (λs=>([(0,.slice ad (G9 (λx=> !p x) xs s.1).length ab),(1,e7 nw),(2,.func (.func g) #[] ae.toArray),(8,.slice s.2.1 s.2.2.2.length s.2.2.1),(9,e7<|((M4 (λx=> !p x) xs s.1:Nat):Int))]:Env)) (λs=>vq 108 s.2.1 s.2.2.1 s.2.2.2::vq 146 ad ab (G9 (λx=> !p x) xs s.1)::vq 146 a0 c0 xs::I) (λs=>(s.1<=xs.length)/\(s.2.2.2.length<=s.1)) (λs=>xs.length - s.1) (0,none,0,[]) ⟨om,(by simp)⟩ (Aa (Da C<|by first|rfl|(rw [U3])|(rw [M.1])|(rw [E]))<|cx2<|Aa (Da C<|by first|rfl|(rw [U3])|(rw [M.1])|(rw [E]))<|Aa (Do C<|by first|omega|(rw [aw1];rfl)|(dsimp only;have e1:=M.2;omega)|(dsimp only;have e1:=ah;omega)) A9) (by rw [U3];exact Bb _ _) ?_
 rintro ⟨j,a2,c2,aa⟩ hp
 dsimp only at hp ⊢
 obtain ⟨hj,ax⟩:=hp
 have aw:=fj7 (P:=(λx=> !p x)) (xs:=xs) (j:=j)
 have au:=bh0 (P:=(λx=> !p x)) (xs:=xs) (j:=j)
 refine W.pull (vc.cap (xs:=(G9 (λx=> !p x) xs j)) mm) λar=>?_
 refine Ax<|Aj<|Gm C<|Gm C<|Gr (Bj Aw C)<|Gr (Bp C C)<|Aq<|Am C (λap=>?_)<|λap=>?_
 ·refine A4 (Al<|A3<|Ax<|Aj<|Gm C<|Gm C<|Gm C<|Gr (A2 (α:=Lk) (xs:=(G9 (λx=> !p x) xs j)) Aw p7 C C A6 om om)<|Gr (Cd (α:=Lk) (xs:=(G9 (λx=> !p x) xs j)) p7 C A6 om om)<|G.e (C0 aj.1 (first:=[]) (caps:=ae) C C C<|aj.2 (e_ (G9 (λx=> !p x) xs j) ((M4 (λx=> !p x) xs j:Nat):Int)) _ Af) ?_)
  rintro _ _ ⟨_,_,⟨rfl,rfl⟩,rfl,rfl⟩
  refine Gr (j0.not C)<|Aq<|A0 (S6 22 0 1 2 8 9)<|D8 C (λai=>?_)<|λai=>?_
  ·refine Aj (Gm C<|Gr (Rad C C)<|Ga C<|Aq<|B6<|Ao<|A5 ?_)
   have M:=fj8 (P:=(λx=> !p x)) (xs:=xs) (j:=j) om (by rw [←cx0 (P:=(λx=> !p x)) (xs:=xs) (j:=j) om];exact ai)
   exact Bh ((j+1),(a2),(c2),(aa)) (by dsimp only;exact ⟨om,om⟩) (hL:=(Aa (Da C<|by first|rfl|(rw [U3])|(rw [M.1])|(rw [E]))<|cx2<|Aa (Da C<|by first|rfl|(rw [U3])|(rw [M.1])|(rw [E]))<|Aa (Do C<|by first|omega|(rw [aw1];rfl)|(dsimp only;have e1:=M.2;omega)|(dsimp only;have e1:=ah;omega)) A9)) (hI:=by (try dsimp only);exact (by rw [M.1];exact Ar))
  refine A4<|Al<|Aj<|Gm C ?_
  have ao:(λx=> !p x) (e_ xs j)=false:=by rw [←cx0 (P:=(λx=> !p x)) (xs:=xs) (j:=j) om];exact ai
  have ah:=fy8 (P:=(λx=> !p x)) (xs:=xs) (j:=j) om ao
  refine Gm C<|Gm C<|Gr (A2 (α:=Lk) (xs:=(G9 (λx=> !p x) xs j)) Aw p7 C C A6 om om)<|Gr (Cd (α:=Lk) (xs:=(G9 (λx=> !p x) xs j)) p7 C A6 om om)<|Gm C<|G.e (Ac c_ C C<|cr6 (e_ (G9 (λx=> !p x) xs j) ((M4 (λx=> !p x) xs j:Nat):Int)) nw) ?_
  rintro _ _ ⟨_,_,⟨rfl,rfl⟩,rfl,rfl⟩
  refine Ge1 (Bt (α:=Ev) (cs:=[e7 2,e7 nw,e7<|(e_ (G9 (λx=> !p x) xs j) ((M4 (λx=> !p x) xs j:Nat):Int)).u,e7<|(e_ (G9 (λx=> !p x) xs j) ((M4 (λx=> !p x) xs j:Nat):Int)).v,e7 0,e7 0,e7 0]) (xs:=[⟨2,nw,(e_ (G9 (λx=> !p x) xs j) ((M4 (λx=> !p x) xs j:Nat):Int)).u,(e_ (G9 (λx=> !p x) xs j) ((M4 (λx=> !p x) xs j:Nat):Int)).v,0,0,0⟩]) As j7 C C dc dc C kr C C) λaq=>?_
  refine Ge2 (Bv (α:=Ev) (e:=108) (xs:=aa) (ys:=([⟨2,nw,(e_ (G9 (λx=> !p x) xs j) ((M4 (λx=> !p x) xs j:Nat):Int)).u,(e_ (G9 (λx=> !p x) xs j) ((M4 (λx=> !p x) xs j:Nat):Int)).v,0,0,0⟩]:List Ev)) As j7 C C C mm A6 lcn dc C<|λ_ _=>am) λak an=>?_
  refine Ga C<|Aq<|A0 (S5 8 0 1 2 9)<|Ax<|A8 mixed<|Cf I 8<|Dr 0 C (Ad C)<|Dr 1 C (Ad C)<|Dr 2 C (Eq (l:=M4 (λx=> !p x) xs j) Aw p7 C C (by simp only [Int.natCast_add]<;>omega) om om)<|Dr 3 C (Ad C)<|Dr 4 C (Ad C)<|Dr 5 C (Rad C C)<|Dr 6 C (Eq (l:=(M4 (λx=> !p x) xs j+1)) Aw p7 C C (by simp only [Int.natCast_add]<;>omega) om om)<|Ds1 7<|Se0 C (Eff.ga2 (α:=Lk) (k:=M4 (λx=> !p x) xs j) (q:=(xs.length - j - 1)) (R:=(G9 (λx=> !p x) xs<|j+1)++List.drop (M4 (λx=> !p x) xs j+(xs.length - j - 1)) (G9 (λx=> !p x) xs j)) (n:=(G9 (λx=> !p x) xs j).length) Aw p7 C lat C (Ff (Ed (xs:=(G9 (λx=> !p x) xs j)) mm) om om) lat lat C (du5 om ao C) lat am) ?_
  refine Dz<|Al<|A1<|Gm C<|Gm C<|Gr (Bj Aw C)<|Gr (Rsu C C)<|Gr (j0.fk7 (h:=((G9 (λx=> !p x) xs j).length - 1)) Aw p7 C C om om)<|Ga C ?_
  have E:(G9 (λx=> !p x) xs j).length - 1=(G9 (λx=> !p x) xs<|j+1).length:=by have h3:=bh0 (P:=(λx=> !p x)) (xs:=xs) (j:=j+1);omega
  refine Fo (J:=vc 108 (.slice aq 1 1) (([⟨2,nw,(e_ (G9 (λx=> !p x) xs j) ((M4 (λx=> !p x) xs j:Nat):Int)).u,(e_ (G9 (λx=> !p x) xs j) ((M4 (λx=> !p x) xs j:Nat):Int)).v,0,0,0⟩]:List Ev))::vq 108 ak an (aa++([⟨2,nw,(e_ (G9 (λx=> !p x) xs j) ((M4 (λx=> !p x) xs j:Nat):Int)).u,(e_ (G9 (λx=> !p x) xs j) ((M4 (λx=> !p x) xs j:Nat):Int)).v,0,0,0⟩]:List Ev))::vq 146 ad ab (G9 (λx=> !p x) xs<|j+1)::vq 146 a0 c0 xs::I) (Fit.upd am (λw h=>by have h4:=cz6 (h:=((G9 (λx=> !p x) xs j).length - 1)) (by rw [A_];omega) w h;rw [du4 E] at h4;exact h4)) ?_
  exact Bl<|Ap<|Bh ((j+1),(ak),(an),(aa++([⟨2,nw,(e_ (G9 (λx=> !p x) xs j) ((M4 (λx=> !p x) xs j:Nat):Int)).u,(e_ (G9 (λx=> !p x) xs j) ((M4 (λx=> !p x) xs j:Nat):Int)).v,0,0,0⟩]:List Ev))) (by dsimp only;exact ⟨om,lap⟩) (hL:=(Aa (Da C<|by first|rfl|(rw [U3])|(rw [M.1])|(rw [E]))<|cx2<|Aa (Da C<|by first|rfl|(rw [U3])|(rw [M.1])|(rw [E]))<|Aa (Do C<|by first|omega|(rw [aw1];rfl)|(dsimp only;have e1:=M.2;omega)|(dsimp only;have e1:=ah;omega)) A9))
 refine B6<|Ao<|Ao<|A5<|Al<|Aj<|Gm C<|Gm C<|Ga C<|Ga C<|Aq<|Bq ?_
 have hE:(G9 (λx=> !p x) xs j)=(xs.filter<|λx=> !p x):=du6 om
 exact B5 C C C ([]++vq 146 ad ab (xs.filter<|λx=> !p x)::I) (by unfold vq;rw [←hE];exact Ar) ⟨⟨ad,ab,.slice a2 aa.length c2⟩,by rw [←hE],rfl⟩
end Go.Sl
namespace Go.Sl
open Go.Proofs
set_option maxRecDepth 4000
variable{b c0 n:Nat}{a0:Option Addr}{xs:List Lk}{nd:Int}
variable {κ:Ctx}{I:List Item}
attribute [local irreducible] W G V D A j0 Eff
theorem gc4{F:Item->List Item}{e:Ev}(M:AtF I (vc 146 (.slice a0 n c0) xs) F)(hn:n=xs.length)(ha:xs.Pairwise Lk.lt)(E:xs.length<=1000000):er prog κ 256 [.slice a0 n c0,.agg (ye e).toArray] I λr J=>∃y:Option Addr×Nat×Value,(r = .tuple #[.slice y.1 (Q1 (ei e) xs).length y.2.1,y.2.2])/\J=[]++F (vq 146 y.1 y.2.1 (Q1 (ei e) xs)):=by
 subst hn
 exact Ea (Post:=λr (y:Option Addr×Nat×Value)=>r = .tuple #[.slice y.1 (Q1 (ei e) xs).length y.2.1,y.2.2]) (Z:=λ_=>[]) (X:=λy:Option Addr×Nat×Value=>vc 146 (.slice y.1 (Q1 (ei e) xs).length y.2.1)<|Q1 (ei e) xs) M λJ hJ _=>fb4 ha E
theorem fd7{F:Item->List Item}{nw:Int}{g:FuncId}{M:List Value}{p:Lk->Bool}(E:AtF I (vc 146 (.slice a0 n c0) xs) F)(hn:n=xs.length)(aa:gc5 prog κ I g M p)(ab:xs.length<=1000000):er prog κ 257 [.slice a0 n c0,e7 nw,.func (.func g) #[] M.toArray] I λr J=>∃y:Option Addr×Nat×Value,(r = .tuple #[.slice y.1 (xs.filter (λx=> !p x)).length y.2.1,y.2.2])/\J=[]++F (vq 146 y.1 y.2.1 (xs.filter (λx=> !p x))):=by
 subst hn
 exact Ea (Post:=λr (y:Option Addr×Nat×Value)=>r = .tuple #[.slice y.1 (xs.filter<|λx=> !p x).length y.2.1,y.2.2]) (Z:=λ_=>[]) (X:=λy:Option Addr×Nat×Value=>vc 146 (.slice y.1 (xs.filter<|λx=> !p x).length y.2.1)<|xs.filter<|λx=> !p x) E λJ hJ _=>fd6 (aa.fit hJ) ab
theorem cx6{e:Ev}{l:Lk}(h:e.kd=2):az8 e l=decide (l.u=(if e.v<e.u then e.v else e.u)/\l.v=(if e.u<e.v then e.v else e.u)):=by unfold az8;rw [By h];rfl
theorem cx7{e:Ev}{l:Lk}(h:¬e.kd=2):az8 e l=decide (l.u=e.u\/l.v=e.u):=by unfold az8;rw [An h]
theorem fp4{e:Ev}(hk:e.kd=2)(M:X8 κ I b (ye e) 108)(x:Lk):er prog κ 258 [.agg (kl x).toArray,(pt b)] I (λr J=>r = .bool (az8 e x)/\I=J):=by
 refine Ce2 Tryz.func258 C C ?_
 refine Aj<|Ge1 (Ay (cs:=[_,_,_,_,_,_]) C C C) λb1=>Z ?_
 refine Gr (Dt ef C (Dj M Af) C)<|Gf L9 C<|Gr (Dt ef C (Dj M Af) C)<|Z ?_
 refine Au (d:=12) C (λE=>Z ?_)<|λE=>Z ?_
 ·refine e9 (Dt ef C (Dj M Af) C) (Z ?_)
  refine e9 (Dt ef C (Dj M Af) C)<|Z ?_
  exact Ak C C I Af ⟨by rw [cx6 hk];exact ta1,rfl⟩
 exact Ak C C I Af ⟨by rw [cx6 hk];exact ta1,rfl⟩
theorem dj1{e:Ev}(hk:e.kd=2)(E:X8 κ I b (ye e) 108):gc5 prog κ I 258 [(pt b)] (az8 e):=⟨c_,λx J M=>fp4 hk (E.fit M) x⟩
theorem fp3{e:Ev}(E:¬e.kd=2)(M:X8 κ I b (ye e) 108)(x:Lk):er prog κ 259 [.agg (kl x).toArray,(pt b)] I (λr J=>r = .bool (az8 e x)/\I=J):=by
 refine Ce2 Tryz.func259 C C ?_
 refine Aj<|Ge1 (Ay (cs:=[_,_,_,_,_,_]) C C C) λb1=>Z ?_
 refine Gr (Dt ef C (Dj M Af) C)<|Z ?_
 refine Au (d:=9) C (λg9=>Z ?_)<|λg9=>Z ?_
 ·exact Ak C C I Af ⟨by rw [cx7 E];exact ta1,rfl⟩
 refine e9 (Dt ef C (Dj M Af) C)<|Z ?_
 exact Ak C C I Af ⟨by rw [cx7 E];exact ta1,rfl⟩
theorem dj0{e:Ev}(hk:¬e.kd=2)(E:X8 κ I b (ye e) 108):gc5 prog κ I 259 [(pt b)] (az8 e):=⟨c_,λx J M=>fp3 hk (E.fit M) x⟩
theorem di9{e:Ev}(ha:xs.Pairwise Lk.lt)(ap:xs.length<=1000000):er prog κ 215 [.agg #[e7 nd,.slice a0 xs.length c0],.agg (ye e).toArray] (vq 146 a0 c0 xs::I) (λr J=>∃y:Option Addr×Nat×Value,(r = .tuple #[.agg #[e7 nd,.slice y.1 (eo xs e).length y.2.1],y.2.2])/\J=[]++vq 146 y.1 y.2.1 (eo xs e)::I):=by
 refine Ce2 Tryz.func215 C C ?_
 refine Aj<|Ge1 (Ay (cs:=[_,_]) C C C) λb1=>Ge1 (Ay (cs:=[_,_,_,_,_,_,_]) C C C) λb2=>Ge1 (Ah s5 C) λb3=>Z ?_
 refine Am C (λM=>Z ?_)<|λM=>Z ?_
 ·refine G.e (Ac c_ C C<|gc4 ta0 C ha om) ?_
  rintro _ _ ⟨_,_,⟨⟨ah,ae,an⟩,rfl,rfl⟩,rfl,rfl⟩
  refine Z ?_
  refine Ge0 (D5 R7)<|Z ?_
  refine Ge0 (Ba s5)<|Z ?_
  have E:Q1 (ei e) xs=(eo xs e):=by unfold eo;rw [By M]
  exact C7 C s5 C C mm C ([]++vq 146 ah ae (eo xs e)::I) (by unfold vq;rw [←E];exact Ar) ⟨⟨ah,ae,an⟩,by rw [←E]<;>rfl,rfl⟩
 refine Am C (λad=>Z ?_)<|λad=>Z ?_
 ·refine Gr (Ei C C) (G.e (Ac c_ C C<|fd7 ta0 C (dj1 ad<|D7 mm) om) ?_)
  rintro _ _ ⟨_,_,⟨⟨ai,ak,ao⟩,rfl,rfl⟩,rfl,rfl⟩
  refine Z ?_
  refine Ge0 (D5 R7)<|Z ?_
  refine Ge0 (Ba s5)<|Z ?_
  have E:List.filter (λx=> !az8 e x) xs=(eo xs e):=by unfold eo;rw [An M]
  exact C7 C s5 C C mm C ([]++vq 146 ai ak (eo xs e)::I) (by unfold vq;rw [←E];exact Ar) ⟨⟨ai,ak,ao⟩,by rw [←E]<;>rfl,rfl⟩
 refine Gr (Ei C C)<|G.e (Ac c_ C C<|fd7 ta0 C (dj0 ad<|D7 mm) om) ?_
 rintro _ _ ⟨_,_,⟨⟨aa,ab,aj⟩,rfl,rfl⟩,rfl,rfl⟩
 refine Z ?_
 refine Ge0 (D5 R7)<|Z ?_
 refine Ge0 (Ba s5)<|Z ?_
 have E:List.filter (λx=> !az8 e x) xs=(eo xs e):=by unfold eo;rw [An M]
 exact C7 C s5 C C mm C ([]++vq 146 aa ab (eo xs e)::I) (by unfold vq;rw [←E];exact Ar) ⟨⟨aa,ab,aj⟩,by rw [←E]<;>rfl,rfl⟩
theorem da7{F:Item->List Item}{e:Ev}(M:AtF I (vc 146 (.slice a0 n c0) xs) F)(hn:n=xs.length)(ha:xs.Pairwise Lk.lt)(E:xs.length<=1000000):er prog κ 215 [.agg #[e7 nd,.slice a0 n c0],.agg (ye e).toArray] I λr J=>∃y:Option Addr×Nat×Value,(r = .tuple #[.agg #[e7 nd,.slice y.1 (eo xs e).length y.2.1],y.2.2])/\J=[]++F (vq 146 y.1 y.2.1 (eo xs e)):=by
 subst hn
 exact Ea (Post:=λr (y:Option Addr×Nat×Value)=>r = .tuple #[.agg #[e7 nd,.slice y.1 (eo xs e).length y.2.1],y.2.2]) (Z:=λ_=>[]) (X:=λy:Option Addr×Nat×Value=>vc 146 (.slice y.1 (eo xs e).length y.2.1)<|eo xs e) M λJ hJ _=>di9 ha E
end Go.Sl
namespace Go.Sl
open Go.Proofs
set_option maxRecDepth 4000
theorem bj8{κ:Ctx}{I:List Item}{b:Nat}{nd:Int}{a0 o0:Option Addr}{c0 d0:Nat}{xs:List Lk}{out:List Ev}{va:Value}{es:List Ev}(hl:Sl κ I va es)(ab:j8 nd xs=0)(M:∀j:Nat,j<es.length->H6 nd (e_ es j))(an:xs.length+es.length<=1000000)(ao:out.length+es.length<=1000000):er prog κ 212 [(pt b),va] (e8 b [e7 nd,.slice a0 xs.length c0,.slice o0 out.length d0] 241::vq 146 a0 c0 xs::vq 108 o0 d0 out::I) (λr J=>∃y:Option Addr×Nat×Option Addr×Nat,r = .tuple #[]/\J=e8 b [e7 nd,.slice y.1 (List.foldl eo xs es).length y.2.1,.slice y.2.2.1 (out++es).length y.2.2.2] 241::vq 146 y.1 y.2.1 (List.foldl eo xs es)::vq 108 y.2.2.1 y.2.2.2 (out++es)::I):=by
 refine Ce2 Tryz.func212 C C ?_
 refine Aj<|Gm C<|Gr (C3 (α:=Ev) (xs:=es) As C<|Bc hl)<|Gm C<|Aq<|A3<|B4 (σ:=Nat×(Option Addr)×Nat×(Option Addr)×Nat) (λs=>([(0,pt b),(6,va),(7,e7 ((es.length:Nat):Int)),(8,e7 ((s.1:Nat):Int))]:Env)) (λs=>e8 b [e7 nd,.slice s.2.1 (List.foldl eo xs<|List.take s.1 es).length s.2.2.1,.slice s.2.2.2.1 (out++List.take s.1 es).length s.2.2.2.2] 241::vq 146 s.2.1 s.2.2.1 (List.foldl eo xs<|List.take s.1 es)::vq 108 s.2.2.2.1 s.2.2.2.2 (out++List.take s.1 es)::I) (λs=>(s.1<=es.length)/\(j8 nd (List.foldl eo xs<|List.take s.1 es)=0)) (λs=>es.length - s.1) (0,a0,c0,o0,d0) ⟨om,ab⟩ (cx2<|Aa C<|Aa Co A9) (by rw [show out++List.take 0 es=out from Hq _];exact Di _) ?_
 rintro ⟨k,a1,c1,o1,d1⟩ hp
 dsimp only at hp ⊢
 obtain ⟨hk,hv⟩:=hp
 refine Aj<|Gr (Bp C C)<|Aq<|Ax<|Am C (λc9=>?_)<|λc9=>?_
 ·refine A4 (Al<|Ax<|A3<|Aj<|Gr (A2 (α:=Ev) (xs:=es) As j7 C C (Bc hl) om om)<|Gr (Cd (α:=Ev) (xs:=es) j7 C (Bc hl) om om)<|Ge1 (Ah j7 C) λb1=>Ge0 (Fa j7) ?_)
  refine Aq<|Ax<|A8 mixed<|Cf (e8 b1 (ye (e_ es k)) 108::I) 13<|Dr 0 C (Ad C)<|Dr 1 C (Ad C)<|Dr 2 C (Bw C)<|Dr 3 C (Ai bb3 C)<|Dr 5 C (Ch (vs:=[_,_,_,_,_,_,_]) j7) ?_
  refine Ds1 4<|Sr C (Ch (vs:=[_,_]) s5) Ar ?_
  refine Ds1 6<|Se C (Ac c_ C C<|da7 ta0 C (K9 hv).2.2 (by have h:=ar7 (List.take k es) xs;rw [Fx] at h;omega)) ?_
  rintro _ _ ⟨_,_,⟨⟨ad,aa,ak⟩,rfl,rfl⟩,rfl,rfl⟩
  refine ⟨Ar,?_⟩
  refine Dr 7 C (Ad C)<|Dr 8 C (Av C C)<|Dr 9 C (Av C C)<|Dr 10 C (Bw C)<|Dr 11 C (Ai bb3 C)<|Ds1 12<|Se0 C (Eff.st (cs:=[_,_,_]) (vs:=[_,_]) (cs':=[_,_,_]) s5) ?_
  refine Dz<|Al<|A0 (S5 5 0 6 7 8)<|A8 mixed<|Cf (e8 b1 (ye (e_ es k)) 108::I) 11<|Dr 0 C (Ad C)<|Dr 1 C (Ad C)<|Dr 2 C (Bw C)<|Dr 3 C (Ai at2 C)<|Dr 5 C (Ch (vs:=[_,_,_,_,_,_,_]) j7) ?_
  refine Cg (rs:=[4,6]) kr C C<|Dk ?_<|Du ?_
  ·refine Sr C (Bd fw1) Ar ?_
   refine Ds1 6<|Se1 C (Bt (α:=Ev) (cs:=(ye (e_ es k))) (xs:=[⟨(e_ es k).kd,(e_ es k).tm,(e_ es k).u,(e_ es k).v,(e_ es k).w,(e_ es k).lb,(e_ es k).sg⟩]) As j7 C C dc dc C kr C C) λaq=>?_
   refine Ds1 7<|Se2 C (Bv (α:=Ev) (e:=108) (xs:=out++List.take k es) (ys:=([⟨(e_ es k).kd,(e_ es k).tm,(e_ es k).u,(e_ es k).v,(e_ es k).w,(e_ es k).lb,(e_ es k).sg⟩]:List Ev)) As j7 C C C mm A6 (by simp only [A_,Fx,Fu,F_];omega) dc C<|λ_ _=>am) λah ae=>?_
   refine Dr 8 C (Bw C)<|Dr 9 C (Ai at2 C)<|Ds1 10<|Se0 C (Eff.st (cs:=[_,_,_]) (vs:=[_]) (cs':=[_,_,_]) fw1) ?_
   exact Dz<|Ap<|Al<|A0 (S4 0 6 7 8)<|A1<|Gr (Rad C C)<|Gm C<|Bl<|Bh ((k+1),(ad),(aa),(ah),(ae)) (by dsimp only;exact ⟨om,(by rw [Q8 om];exact ac7 hv<|M k om)⟩) (hI:=by (try dsimp only);exact (by rw [Q8 om,cv4 om];exact Ar))
  refine Se1 C (Bt (α:=Ev) (cs:=(ye (e_ es k))) (xs:=[⟨(e_ es k).kd,(e_ es k).tm,(e_ es k).u,(e_ es k).v,(e_ es k).w,(e_ es k).lb,(e_ es k).sg⟩]) As j7 C C dc dc C kr C C) λap=>?_
  refine Ds1 4<|Sr C (Bd fw1) Ar ?_
  refine Ds1 7<|Se2 C (Bv (α:=Ev) (e:=108) (xs:=out++List.take k es) (ys:=([⟨(e_ es k).kd,(e_ es k).tm,(e_ es k).u,(e_ es k).v,(e_ es k).w,(e_ es k).lb,(e_ es k).sg⟩]:List Ev)) As j7 C C C mm A6 (by simp only [A_,Fx,Fu,F_];omega) dc C<|λ_ _=>am) λai E=>?_
  refine Dr 8 C (Bw C)<|Dr 9 C (Ai at2 C)<|Ds1 10<|Se0 C (Eff.st (cs:=[_,_,_]) (vs:=[_]) (cs':=[_,_,_]) fw1) ?_
  exact Dz<|Ap<|Al<|A0 (S4 0 6 7 8)<|A1<|Gr (Rad C C)<|Gm C<|Bl<|Bh ((k+1),(ad),(aa),(ai),(E)) (by dsimp only;exact ⟨om,(by rw [Q8 om];exact ac7 hv<|M k om)⟩) (hI:=by (try dsimp only);exact (by rw [Q8 om,cv4 om];exact Ar))
 refine B6<|Ao<|Ao<|A5 ?_
 have aj:List.take k es=es:=Gb om
 exact V.gq6 C (e8 b [e7 nd,.slice a1 (List.foldl eo xs es).length c1,.slice o1 (out++es).length d1] 241::vq 146 a1 c1 (List.foldl eo xs es)::vq 108 o1 d1 (out++es)::I) (by unfold vq;rw [aj];exact Ar) ⟨⟨a1,c1,o1,d1⟩,rfl,rfl⟩
end Go.Sl
