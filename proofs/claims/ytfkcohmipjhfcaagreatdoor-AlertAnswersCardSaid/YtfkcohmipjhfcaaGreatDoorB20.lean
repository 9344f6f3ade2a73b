/- A part of the proofs of statements of this seat: contracts of functions, and the plain laws that they lean on. No conditions. -/
import Derived.Test.YtfkcohmipjhfcaaGreatDoorB19
set_option linter.unusedVariables false
set_option linter.unusedSimpArgs false
set_option linter.unusedSectionVars false
open Go.Proofs.Tryz (prog)
set_option maxHeartbeats 1000000
namespace Go.Sl
open Go.Proofs
set_option maxRecDepth 4000
variable {κ:Ctx}{I:List Item}
attribute [local irreducible] W G V D A j0 Eff
def okF(num den:Int):Prop:=(-1152921504606846976<=num/\num<=1152921504606846976)/\(1<=den/\den<=1152921504606846976)/\af8 (if num<0 then -num else num) den=1
instance (num den:Int):Decidable (okF num den):=inferInstanceAs (Decidable (_/\_))
structure FrW (x:Fr):Prop where
 n0:0<=x.num
 n1:x.num<=1152921504606846976
 d0:1<=x.den
 d1:x.den<=1152921504606846976
 cop:af8 x.num x.den=1
theorem FrV.w{x:Fr}(h:FrV x):FrW x:=⟨h.n0,by have:=h.n1;omega,h.d0,by have:=h.d1;omega,h.cop⟩
theorem FrW.ok{x:Fr}(h:FrW x):okF x.num x.den:=⟨⟨by have:=h.n0;omega,h.n1⟩,⟨h.d0,h.d1⟩,by rw [An (by have:=h.n0;omega)];exact h.cop⟩
theorem FrW.of{num den:Int}(h:okF num den)(M:0<=num):FrW ⟨num,den⟩:=⟨M,h.1.2,h.2.1.1,h.2.1.2,by have:=h.2.2;rwa [An om] at this⟩
theorem FrW.mul{x y:Fr}(M:FrW x)(hy:FrW y):0<=x.num*y.den/\(0<x.num->0<x.num*y.den):=by
 have E:=M.n0;have h3:=hy.d0
 exact ⟨Nf E om,λh=>Int.mul_pos h om⟩
theorem gi8{n:Int}:(if n < -n then -n else n)=if n<0 then -n else n:=by split<;>split<;>omega
theorem ci5(x y:Int)(hx:0<=x/\x<=1152921504606846976)(hy:0<=y/\y<=1152921504606846976):er prog κ 173 [.int .u64 x,.int .u64 y] I (λr J=>r = .tuple #[.int .u64 (x*y / 18446744073709551616),.int .u64 (x*y % 18446744073709551616)]/\I=J):=by
 obtain ⟨E,ah⟩:∃z,x % 4294967296=z:=⟨_,rfl⟩
 obtain ⟨x1,ab⟩:∃z,x / 4294967296=z:=⟨_,rfl⟩
 obtain ⟨M,ad⟩:∃z,y % 4294967296=z:=⟨_,rfl⟩
 obtain ⟨y1,ae⟩:∃z,y / 4294967296=z:=⟨_,rfl⟩
 have hA:=fu1 (a:=x1) (b:=y1) (m:=268435456) (n:=268435456) om om
 have hB:=fu1 (a:=x1) (b:=M) (m:=268435456) (n:=4294967295) om om
 have hC:=fu1 (a:=E) (b:=y1) (m:=4294967295) (n:=268435456) om om
 have aa:=fu1 (a:=E) (b:=M) (m:=4294967295) (n:=4294967295) om om
 have hS:=cd0 x1 E y1 M
 rw [show x1*4294967296+E=x by omega,show y1*4294967296+M=y by omega] at hS
 refine Ce2 Tryz.func173 C C<|Z ?_
 refine Gr (Fk (m:=x) (r:=E) C C om om om)<|Z ?_
 refine Gr (Ef (m:=x) (r:=x1) C C om)<|Z ?_
 refine Gr (Fk (m:=y) (r:=M) C C om om om)<|Z ?_
 refine Gr (Ef (m:=y) (r:=y1) C C om)<|Z ?_
 refine Gr (Ez (m:=E) (n:=M) (r:=E*M) C C C om om)<|Z ?_
 refine Gr (Ez (m:=x1) (n:=M) (r:=x1*M) C C C om om)<|Gm C<|Gr (Ef (m:=E*M) (r:=E*M / 4294967296) C C om)<|Gr (E0 (m:=x1*M) (n:=E*M / 4294967296) (r:=x1*M+E*M / 4294967296) C C om om om)<|Z ?_
 refine Gr (Fk (m:=x1*M+E*M / 4294967296) (r:=(x1*M+E*M / 4294967296) % 4294967296) C C om om om)<|Z ?_
 refine Gr (Ef (m:=x1*M+E*M / 4294967296) (r:=(x1*M+E*M / 4294967296) / 4294967296) C C om)<|Z ?_
 refine Gr (Ez (m:=E) (n:=y1) (r:=E*y1) C C C om om)<|Gr (E0 (m:=(x1*M+E*M / 4294967296) % 4294967296) (n:=E*y1) (r:=(x1*M+E*M / 4294967296) % 4294967296+E*y1) C C om om om)<|Z ?_
 refine Gr (Ez (m:=x1) (n:=y1) (r:=x1*y1) C C C om om)<|Gm C<|Gr (E0 (m:=x1*y1) (n:=(x1*M+E*M / 4294967296) / 4294967296) (r:=x1*y1+(x1*M+E*M / 4294967296) / 4294967296) C C om om om)<|Gm C<|Gr (Ef (m:=(x1*M+E*M / 4294967296) % 4294967296+E*y1) (r:=((x1*M+E*M / 4294967296) % 4294967296+E*y1) / 4294967296) C C om)<|Gr (E0 (m:=x1*y1+(x1*M+E*M / 4294967296) / 4294967296) (n:=((x1*M+E*M / 4294967296) % 4294967296+E*y1) / 4294967296) (r:=x1*y1+(x1*M+E*M / 4294967296) / 4294967296+((x1*M+E*M / 4294967296) % 4294967296+E*y1) / 4294967296) C C om om om)<|Z ?_
 exact Gr (j0.mulW (m:=x) (n:=y) (r:=x*y % 18446744073709551616) C C C)<|Ga C<|Aq<|Bq<|B5 C C C I Af ⟨tup2 om rfl,rfl⟩
theorem r9(x y:Int)(hx:0<=x/\x<=1152921504606846976)(hy:0<=y/\y<=1152921504606846976):er prog κ 122 [.int .u64 x,.int .u64 y] I (λr J=>r = .agg #[.int .u64 (x*y / 18446744073709551616),.int .u64 (x*y % 18446744073709551616)]/\I=J):=by
 obtain ⟨E,ah⟩:∃z,x % 4294967296=z:=⟨_,rfl⟩
 obtain ⟨x1,ab⟩:∃z,x / 4294967296=z:=⟨_,rfl⟩
 obtain ⟨M,ad⟩:∃z,y % 4294967296=z:=⟨_,rfl⟩
 obtain ⟨y1,ae⟩:∃z,y / 4294967296=z:=⟨_,rfl⟩
 have hA:=fu1 (a:=x1) (b:=y1) (m:=268435456) (n:=268435456) om om
 have hB:=fu1 (a:=x1) (b:=M) (m:=268435456) (n:=4294967295) om om
 have hC:=fu1 (a:=E) (b:=y1) (m:=4294967295) (n:=268435456) om om
 have aa:=fu1 (a:=E) (b:=M) (m:=4294967295) (n:=4294967295) om om
 have hS:=cd0 x1 E y1 M
 rw [show x1*4294967296+E=x by omega,show y1*4294967296+M=y by omega] at hS
 refine Ce2 Tryz.func122 C C ?_
 refine Aj<|Ge1 (Ah j4 C) λb1=>Aq<|Aj<|Gm C<|Gr (Ef (m:=x) (r:=x1) C C om)<|Gm C<|Gr (Fk (m:=x) (r:=E) C C om om om)<|Gm C<|Gr (Ef (m:=y) (r:=y1) C C om)<|Gm C<|Gr (Fk (m:=y) (r:=M) C C om om om)<|Z ?_
 refine Gr (Ez (m:=E) (n:=M) (r:=E*M) C C C om om)<|Z ?_
 refine Gr (Ez (m:=x1) (n:=M) (r:=x1*M) C C C om om)<|Gm C<|Gr (Ef (m:=E*M) (r:=E*M / 4294967296) C C om)<|Gr (E0 (m:=x1*M) (n:=E*M / 4294967296) (r:=x1*M+E*M / 4294967296) C C om om om)<|Z ?_
 refine Gr (Ez (m:=E) (n:=y1) (r:=E*y1) C C C om om)<|Gm C<|Gr (Fk (m:=x1*M+E*M / 4294967296) (r:=(x1*M+E*M / 4294967296) % 4294967296) C C om om om)<|Gr (E0 (m:=E*y1) (n:=(x1*M+E*M / 4294967296) % 4294967296) (r:=E*y1+(x1*M+E*M / 4294967296) % 4294967296) C C om om om)<|Z ?_
 refine Gr (Ez (m:=x1) (n:=y1) (r:=x1*y1) C C C om om)<|Gm C<|Gr (Ef (m:=x1*M+E*M / 4294967296) (r:=(x1*M+E*M / 4294967296) / 4294967296) C C om)<|Gr (E0 (m:=x1*y1) (n:=(x1*M+E*M / 4294967296) / 4294967296) (r:=x1*y1+(x1*M+E*M / 4294967296) / 4294967296) C C om om om)<|Gm C<|Gr (Ef (m:=E*y1+(x1*M+E*M / 4294967296) % 4294967296) (r:=(E*y1+(x1*M+E*M / 4294967296) % 4294967296) / 4294967296) C C om)<|Gr (E0 (m:=x1*y1+(x1*M+E*M / 4294967296) / 4294967296) (n:=(E*y1+(x1*M+E*M / 4294967296) % 4294967296) / 4294967296) (r:=x1*y1+(x1*M+E*M / 4294967296) / 4294967296+(E*y1+(x1*M+E*M / 4294967296) % 4294967296) / 4294967296) C C om om om)<|Gm C<|Gr (j0.gg3 (m:=E*y1+(x1*M+E*M / 4294967296) % 4294967296) C C C)<|Gm C<|Gr (Fk (m:=E*M) (r:=E*M % 4294967296) C C om om om)<|Gr (j0.gr8 (m:=(E*y1+(x1*M+E*M / 4294967296) % 4294967296) % 4294967296) (n:=E*M % 4294967296) (r:=x*y % 18446744073709551616) C C om om om om om)<|Z ?_
 refine Ge0 (Ba j4)<|Z ?_
 exact Cv C j4 C mm C I Af ⟨agg2 om rfl,rfl⟩
theorem fa4(a b c d:Int):er prog κ 124 [.agg #[.int .u64 a,.int .u64 b],.agg #[.int .u64 c,.int .u64 d]] I (λr J=>r = .bool (decide (a<c\/a=c/\b<d))/\I=J):=by
 refine Ce2 Tryz.func124 C C ?_
 refine Aj<|Ge1 (Ay (cs:=[_,_]) C C C) λb1=>Ge1 (Ay (cs:=[_,_]) C C C) λb2=>Z ?_
 refine Au (d:=10) C (λM=>Z ?_)<|λM=>Z ?_
 ·exact Ak C C I Af ⟨Fz Value.bool<|by first|exact (D_ om).symm|exact (E_ om).symm|exact Fy.2 om,rfl⟩
 refine Au (d:=16) C (λE=>Z ?_)<|λE=>Z ?_
 ·exact Ak C C I Af ⟨Fz Value.bool<|by first|exact (D_ om).symm|exact (E_ om).symm|exact Fy.2 om,rfl⟩
 exact Ak C C I Af ⟨Fz Value.bool<|by first|exact (D_ om).symm|exact (E_ om).symm|exact Fy.2 om,rfl⟩
theorem bTw{p:Prop}[Decidable p](h:p):true=decide p:=(D_ h).symm
theorem bFw{p:Prop}[Decidable p](h:¬p):false=decide p:=(E_ h).symm
theorem ak8(x:Fr):er prog κ 89 [.agg #[e7 (x.num),e7 (x.den)]] I (λr J=>r = .bool (decide (okF x.num x.den))/\I=J):=by
 refine Ce1 Tryz.func89 C C ?_
 refine Aj<|Ge1 (Ay (cs:=[_,_]) C C C) λb1=>Z ?_
 refine G.e (Ac c_ C C<|an9 x.num 1152921504606846976 om) ?_
 rintro _ _ ⟨_,_,⟨rfl,rfl⟩,rfl,rfl⟩
 refine Gm C<|Au (d:=6) C (λg6=>Z ?_)<|λg6=>Z ?_
 ·refine Au (d:=11) C (λE=>Z ?_) (λE=>Z ?_)
  ·refine Au (d:=16) C (λaa=>Z ?_) (λaa=>Z ?_)
   ·refine e9 (E2 C<|by unfold InR;omega) (Z ?_)
    rw [gi8]
    have ab:0<=(if x.num<0 then -x.num else x.num):=by split<;>omega
    refine Z ?_
    refine D0 (B9 C C C) (Ac c_ C C<|ck5 (if x.num<0 then -x.num else x.num) x.den om om) ?_
    rintro _ _ ⟨_,_,⟨rfl,rfl⟩,rfl,rfl⟩
    refine Z ?_
    exact Ak C C I Af ⟨Fz Value.bool<|by first|exact bFw (λh=>by have h1:=h.1;have M:=h.2.1;omega)|exact Fy.2 ⟨λh=>⟨by omega,by omega,h⟩,λh=>h.2.2⟩,rfl⟩
   exact Ak C C I Af ⟨Fz Value.bool<|by first|exact bFw (λh=>by have h1:=h.1;have M:=h.2.1;omega)|exact Fy.2 ⟨λh=>⟨by omega,by omega,h⟩,λh=>h.2.2⟩,rfl⟩
  exact Ak C C I Af ⟨Fz Value.bool<|by first|exact bFw (λh=>by have h1:=h.1;have M:=h.2.1;omega)|exact Fy.2 ⟨λh=>⟨by omega,by omega,h⟩,λh=>h.2.2⟩,rfl⟩
 exact Ak C C I Af ⟨Fz Value.bool<|by first|exact bFw (λh=>by have h1:=h.1;have M:=h.2.1;omega)|exact Fy.2 ⟨λh=>⟨by omega,by omega,h⟩,λh=>h.2.2⟩,rfl⟩
theorem fp9(n:Int)(h : -1152921504606846976<=n/\n<=1152921504606846976):er prog κ 123 [e7 n] I (λr J=>r = .int .u64 (if n<0 then -n else n)/\I=J):=by
 refine Ce1 Tryz.func123 C C<|Z ?_
 refine Am C (λM=>?_)<|λM=>Z ?_
 ·refine Aj (Gm C<|Gr (j0.gu1 (r:=n % 18446744073709551616) A7 Ce C C)<|Gr (j0.negU (m:=n % 18446744073709551616) (r:= -n) C om)<|Z ?_)
  exact Ak C C I Af ⟨Fz (Value.int .u64) (By M).symm,rfl⟩
 exact Gr (C6 A7 Ce C om)<|Ga C<|Aq<|Bq<|Ak C C I Af ⟨Fz (Value.int .u64) (An M).symm,rfl⟩
theorem ar0(x:Fr):er prog κ 92 [.agg #[e7 (x.num),e7 (x.den)]] I (λr J=>r = .bool (decide (okF x.num x.den))/\I=J):=by
 refine Ce1 Tryz.func92 C C ?_
 refine Aj<|Ge1 (Ay (cs:=[_,_]) C C C) λb1=>Z ?_
 refine Au (d:=6) C (λg6=>Z ?_)<|λg6=>Z ?_
 ·exact Ak C C I Af ⟨Fz Value.bool<|by first|exact bFw (λh=>by have E:=h.1;have M:=h.2.1;omega)|exact Fy.2 ⟨λh=>⟨by omega,by omega,(Wd.mk.injEq _ _ _ _▸h).2⟩,λh=>by rw [h.2.2]⟩,rfl⟩
 refine Au (d:=11) C (λaa=>Z ?_)<|λaa=>Z ?_
 ·exact Ak C C I Af ⟨Fz Value.bool<|by first|exact bFw (λh=>by have E:=h.1;have M:=h.2.1;omega)|exact Fy.2 ⟨λh=>⟨by omega,by omega,(Wd.mk.injEq _ _ _ _▸h).2⟩,λh=>by rw [h.2.2]⟩,rfl⟩
 refine Au (d:=16) C (λad=>Z ?_)<|λad=>Z ?_
 ·exact Ak C C I Af ⟨Fz Value.bool<|by first|exact bFw (λh=>by have E:=h.1;have M:=h.2.1;omega)|exact Fy.2 ⟨λh=>⟨by omega,by omega,(Wd.mk.injEq _ _ _ _▸h).2⟩,λh=>by rw [h.2.2]⟩,rfl⟩
 refine Am C (λab=>Z ?_)<|λab=>?_
 ·exact Ak C C I Af ⟨Fz Value.bool<|by first|exact bFw (λh=>by have E:=h.1;have M:=h.2.1;omega)|exact Fy.2 ⟨λh=>⟨by omega,by omega,(Wd.mk.injEq _ _ _ _▸h).2⟩,λh=>by rw [h.2.2]⟩,rfl⟩
 refine A4<|Al<|Ax<|A8 mixed<|Cf (e8 b1 [e7 (x.num),e7<|x.den] 40::I) 12<|Z ?_
 refine Dr 6 C (C6 A7 Ce C om)<|Z ?_
 refine Ds1 2<|Sc0 C (Ac c_ C C<|fp9 x.num om) ?_
 have ae:0<=(if x.num<0 then -x.num else x.num)/\(if x.num<0 then -x.num else x.num)<=1152921504606846976:=by split<;>omega
 refine Z ?_
 refine Ds1 8<|Sc0 C (Ac c_ C C<|fa5 (if x.num<0 then -x.num else x.num) x.den om om) ?_
 refine Dr 10 C (Fm (α:=Wd) (a:=(⟨0,af8 (if x.num<0 then -x.num else x.num) x.den⟩:Wd)) (b:=(⟨0,1⟩:Wd)) cz1 C C)<|Z ?_
 exact Ak C C I Af ⟨Fz Value.bool<|by first|exact bFw (λh=>by have E:=h.1;have M:=h.2.1;omega)|exact Fy.2 ⟨λh=>⟨by omega,by omega,(Wd.mk.injEq _ _ _ _▸h).2⟩,λh=>by rw [h.2.2]⟩,rfl⟩
theorem az0(x:Fr)(M:FrW x):er prog κ 89 [.agg #[e7 (x.num),e7 (x.den)]] I λr J=>r = .bool true/\I=J:=
 (ak8 x).mono λr J h=>⟨by rw [h.1,D_ M.ok],h.2⟩
theorem bj3(x:Fr)(M:FrW x):er prog κ 92 [.agg #[e7 (x.num),e7 (x.den)]] I λr J=>r = .bool true/\I=J:=
 (ar0 x).mono λr J h=>⟨by rw [h.1,D_ M.ok],h.2⟩
theorem bs6(x y:Fr)(hx:FrW x)(hy:FrW y):er prog κ 101 [.agg #[e7 (x.num),e7 (x.den)],.agg #[e7 (y.num),e7 (y.den)]] I (λr J=>r=e7 (ak2 x y)/\I=J):=by
 have aw:=hx.n0
 have ar:=hx.n1
 have ay:=hx.d0
 have aq:=hx.d1
 have au:=hy.n0
 have av:=hy.n1
 have az:=hy.d0
 have ax:=hy.d1
 have a5:=cu2 x.num
 have a6:=cu2 y.num
 have a1:=hx.mul hy
 have a4:=hy.mul hx
 have a3:x.num=0->x.num*y.den=0:=λh=>by rw [h,Mc]
 have a0:y.num=0->y.num*x.den=0:=λh=>by rw [h,Mc]
 refine Ce2 Tryz.func101 C C ?_
 refine Aj<|Ge1 (Ay (cs:=[_,_]) C C C) λb1=>Ge1 (Ay (cs:=[_,_]) C C C) λb2=>Z ?_
 refine Gc0 (Ac c_ C C<|az0 x asm)<|Z ?_
 refine D0 (B9 C C C) (Ac c_ C C<|az0 y asm) ?_
 rintro _ _ ⟨_,_,⟨rfl,rfl⟩,rfl,rfl⟩
 refine Z ?_
 refine Gc0 (Ac c_ C C<|by8 x.num)<|Z ?_
 refine Gc0 (Ac c_ C C<|by8 y.num)<|Z ?_
 refine Au (d:=28) C (λan=>Z ?_)<|λan=>Z ?_
 ·refine Gc0 (Ac c_ C C<|by8<|(G7 x.num) - (G7 y.num)) (Z ?_)
  have aa:G7 x.num=if x.num<0 then -1 else if 0<x.num then 1 else 0:=rfl
  have E:G7 y.num=if y.num<0 then -1 else if 0<y.num then 1 else 0:=rfl
  exact Ak C C I Af ⟨Fz e7<|by first|(have M:G7 (G7 x.num - G7 y.num)=if G7 x.num - G7 y.num<0 then -1 else if 0<G7 x.num - G7 y.num then 1 else 0:=rfl;unfold ak2;rw [M];repeat (first|omega|split))|(unfold ak2;repeat (first|omega|split)),rfl⟩
 refine Am C (λap=>Z ?_)<|λap=>Z ?_
 ·refine Gc0 (Ac c_ C C<|by8<|(G7 x.num) - (G7 y.num)) (Z ?_)
  have aa:G7 x.num=if x.num<0 then -1 else if 0<x.num then 1 else 0:=rfl
  have E:G7 y.num=if y.num<0 then -1 else if 0<y.num then 1 else 0:=rfl
  exact Ak C C I Af ⟨Fz e7<|by first|(have M:G7 (G7 x.num - G7 y.num)=if G7 x.num - G7 y.num<0 then -1 else if 0<G7 x.num - G7 y.num then 1 else 0:=rfl;unfold ak2;rw [M];repeat (first|omega|split))|(unfold ak2;repeat (first|omega|split)),rfl⟩
 refine Gr (E2 C<|by unfold InR;omega)<|Z ?_
 have ai:(if x.num < -(x.num) then -(x.num) else x.num)=x.num:=by rw [An om]
 rw [ai]
 refine Gr (C6 A7 Ce C om)<|Z ?_
 refine Gr (C6 A7 Ce C om)<|G.e (Ac c_ C C<|ci5 x.num y.den om om) ?_
 rintro _ _ ⟨_,_,⟨rfl,rfl⟩,rfl,rfl⟩
 refine Gm C<|Gr (Av C C)<|Gr (Av C C)<|Ga C<|Ga C<|Aq<|A0 (S5 8 7 5 3 2)<|D2 (σ:=Int×Int×Int×Int) (λs=>([(5,e7<|G7 x.num),(7,.int .u64<|s.1),(8,.int .u64<|s.2.1),(9,.int .u64<|s.2.2.1),(10,.int .u64<|s.2.2.2)]:Env)) (λs=>e8 b2 [e7 (y.num),e7<|y.den] 40::e8 b1 [e7 (x.num),e7<|x.den] 40::I) (λs=>(x.num*y.den=s.1*18446744073709551616+s.2.1/\0<=s.2.1/\s.2.1<18446744073709551616)/\(y.num*x.den=s.2.2.1*18446744073709551616+s.2.2.2/\0<=s.2.2.2/\s.2.2.2<18446744073709551616)) ?_ ?_
 ·refine Z ?_
  refine Gr (E2 C<|by unfold InR;omega)<|Z ?_
  have ad:(if y.num < -(y.num) then -(y.num) else y.num)=y.num:=by rw [An om]
  rw [ad]
  refine Gr (C6 A7 Ce C om)<|Z ?_
  refine Gr (C6 A7 Ce C om)<|G.e (Ac c_ C C<|ci5 y.num x.den om om) ?_
  rintro _ _ ⟨_,_,⟨rfl,rfl⟩,rfl,rfl⟩
  refine Z ?_
  exact Bu ((x.num*y.den / 18446744073709551616),(x.num*y.den % 18446744073709551616),(y.num*x.den / 18446744073709551616),(y.num*x.den % 18446744073709551616))<|by dsimp only;exact ⟨om,om⟩
 rintro ⟨ah,al,bh,bl⟩ hp
 obtain ⟨ha,hb⟩:(x.num*y.den=ah*18446744073709551616+al/\0<=al/\al<18446744073709551616)/\(y.num*x.den=bh*18446744073709551616+bl/\0<=bl/\bl<18446744073709551616):=hp
 show W prog κ 90 _ _ ([(5,e7<|G7 x.num),(7,.int .u64 ah),(8,.int .u64 al),(9,.int .u64 bh),(10,.int .u64 bl)]:Env) (e8 b2 [e7 (y.num),e7<|y.den] 40::e8 b1 [e7 (x.num),e7<|x.den] 40::I)
 refine Z ?_
 refine Au (d:=68) C (λak=>Z ?_)<|λak=>Z ?_
 ·refine Am C (λao=>Z ?_) (λao=>Z ?_)
  ·have aa:G7 x.num=if x.num<0 then -1 else if 0<x.num then 1 else 0:=rfl
   have E:G7 y.num=if y.num<0 then -1 else if 0<y.num then 1 else 0:=rfl
   exact Ak C C I Af ⟨Fz e7<|by first|(have M:G7 (G7 x.num - G7 y.num)=if G7 x.num - G7 y.num<0 then -1 else if 0<G7 x.num - G7 y.num then 1 else 0:=rfl;unfold ak2;rw [M];repeat (first|omega|split))|(unfold ak2;repeat (first|omega|split)),rfl⟩
  refine Au (d:=77) C (λaj=>Z ?_)<|λaj=>Z ?_
  ·refine Gr (E2 C<|by unfold InR;omega) (Z ?_)
   have aa:G7 x.num=if x.num<0 then -1 else if 0<x.num then 1 else 0:=rfl
   have E:G7 y.num=if y.num<0 then -1 else if 0<y.num then 1 else 0:=rfl
   exact Ak C C I Af ⟨Fz e7<|by first|(have M:G7 (G7 x.num - G7 y.num)=if G7 x.num - G7 y.num<0 then -1 else if 0<G7 x.num - G7 y.num then 1 else 0:=rfl;unfold ak2;rw [M];repeat (first|omega|split))|(unfold ak2;repeat (first|omega|split)),rfl⟩
  refine Au (d:=81) C (λae=>Z ?_)<|λae=>Z ?_
  ·refine Am C (λab=>?_) (λab=>Z ?_)
   ·refine Aj (Gm C<|Gr (E2 C<|by unfold InR;omega)<|Z ?_)
    have aa:G7 x.num=if x.num<0 then -1 else if 0<x.num then 1 else 0:=rfl
    have E:G7 y.num=if y.num<0 then -1 else if 0<y.num then 1 else 0:=rfl
    exact Ak C C I Af ⟨Fz e7<|by first|(have M:G7 (G7 x.num - G7 y.num)=if G7 x.num - G7 y.num<0 then -1 else if 0<G7 x.num - G7 y.num then 1 else 0:=rfl;unfold ak2;rw [M];repeat (first|omega|split))|(unfold ak2;repeat (first|omega|split)),rfl⟩
   have aa:G7 x.num=if x.num<0 then -1 else if 0<x.num then 1 else 0:=rfl
   have E:G7 y.num=if y.num<0 then -1 else if 0<y.num then 1 else 0:=rfl
   exact Ak C C I Af ⟨Fz e7<|by first|(have M:G7 (G7 x.num - G7 y.num)=if G7 x.num - G7 y.num<0 then -1 else if 0<G7 x.num - G7 y.num then 1 else 0:=rfl;unfold ak2;rw [M];repeat (first|omega|split))|(unfold ak2;repeat (first|omega|split)),rfl⟩
  have aa:G7 x.num=if x.num<0 then -1 else if 0<x.num then 1 else 0:=rfl
  have E:G7 y.num=if y.num<0 then -1 else if 0<y.num then 1 else 0:=rfl
  exact Ak C C I Af ⟨Fz e7<|by first|(have M:G7 (G7 x.num - G7 y.num)=if G7 x.num - G7 y.num<0 then -1 else if 0<G7 x.num - G7 y.num then 1 else 0:=rfl;unfold ak2;rw [M];repeat (first|omega|split))|(unfold ak2;repeat (first|omega|split)),rfl⟩
 refine Au (d:=77) C (λaj=>Z ?_)<|λaj=>Z ?_
 ·refine Gr (E2 C<|by unfold InR;omega) (Z ?_)
  have aa:G7 x.num=if x.num<0 then -1 else if 0<x.num then 1 else 0:=rfl
  have E:G7 y.num=if y.num<0 then -1 else if 0<y.num then 1 else 0:=rfl
  exact Ak C C I Af ⟨Fz e7<|by first|(have M:G7 (G7 x.num - G7 y.num)=if G7 x.num - G7 y.num<0 then -1 else if 0<G7 x.num - G7 y.num then 1 else 0:=rfl;unfold ak2;rw [M];repeat (first|omega|split))|(unfold ak2;repeat (first|omega|split)),rfl⟩
 refine Au (d:=81) C (λae=>Z ?_)<|λae=>Z ?_
 ·refine Am C (λab=>?_) (λab=>Z ?_)
  ·refine Aj (Gm C<|Gr (E2 C<|by unfold InR;omega)<|Z ?_)
   have aa:G7 x.num=if x.num<0 then -1 else if 0<x.num then 1 else 0:=rfl
   have E:G7 y.num=if y.num<0 then -1 else if 0<y.num then 1 else 0:=rfl
   exact Ak C C I Af ⟨Fz e7<|by first|(have M:G7 (G7 x.num - G7 y.num)=if G7 x.num - G7 y.num<0 then -1 else if 0<G7 x.num - G7 y.num then 1 else 0:=rfl;unfold ak2;rw [M];repeat (first|omega|split))|(unfold ak2;repeat (first|omega|split)),rfl⟩
  have aa:G7 x.num=if x.num<0 then -1 else if 0<x.num then 1 else 0:=rfl
  have E:G7 y.num=if y.num<0 then -1 else if 0<y.num then 1 else 0:=rfl
  exact Ak C C I Af ⟨Fz e7<|by first|(have M:G7 (G7 x.num - G7 y.num)=if G7 x.num - G7 y.num<0 then -1 else if 0<G7 x.num - G7 y.num then 1 else 0:=rfl;unfold ak2;rw [M];repeat (first|omega|split))|(unfold ak2;repeat (first|omega|split)),rfl⟩
 have aa:G7 x.num=if x.num<0 then -1 else if 0<x.num then 1 else 0:=rfl
 have E:G7 y.num=if y.num<0 then -1 else if 0<y.num then 1 else 0:=rfl
 exact Ak C C I Af ⟨Fz e7<|by first|(have M:G7 (G7 x.num - G7 y.num)=if G7 x.num - G7 y.num<0 then -1 else if 0<G7 x.num - G7 y.num then 1 else 0:=rfl;unfold ak2;rw [M];repeat (first|omega|split))|(unfold ak2;repeat (first|omega|split)),rfl⟩
theorem ck6(x y:Fr)(hx:FrW x)(hy:FrW y):er prog κ 66 [.agg #[e7 (x.num),e7 (x.den)],.agg #[e7 (y.num),e7 (y.den)]] I (λr J=>r=e7 (ak2 x y)/\I=J):=by
 have bt:=hx.n0
 have bp:=hx.n1
 have bv:=hx.d0
 have bo:=hx.d1
 have bq:=hy.n0
 have br:=hy.n1
 have bw:=hy.d0
 have bu:=hy.d1
 have cc:=cu2 x.num
 have cd:=cu2 y.num
 have bz:=hx.mul hy
 have cb:=hy.mul hx
 have ca:x.num=0->x.num*y.den=0:=λh=>by rw [h,Mc]
 have bx:y.num=0->y.num*x.den=0:=λh=>by rw [h,Mc]
 refine Ce2 Tryz.func66 C C ?_
 refine Aj<|Ge1 (Ay (cs:=[_,_]) C C C) λb1=>Ge1 (Ay (cs:=[_,_]) C C C) λb2=>Z ?_
 refine Gc0 (Ac c_ C C<|bj3 x asm)<|Z ?_
 refine D0 (B9 C C C) (Ac c_ C C<|bj3 y asm) ?_
 rintro _ _ ⟨_,_,⟨rfl,rfl⟩,rfl,rfl⟩
 refine Z ?_
 refine Gr (Fj Ct C C)<|Z ?_
 refine Am C (λap=>?_)<|λap=>?_
 ·exact absurd (by rw [E_ (show ¬x.num<0 by omega),E_ (show ¬y.num<0 by omega)]) ap
 refine A4<|Al<|D2 (σ:=Nat×Nat×Int×Int×Int×Int) (λs=>([(2,pt b1),(5,pt s.1),(6,pt s.2.1)]:Env)) (λs=>e8 s.1 [.int .u64 (s.2.2.1),.int .u64<|s.2.2.2.1] 177::e8 s.2.1 [.int .u64 (s.2.2.2.2.1),.int .u64<|s.2.2.2.2.2] 177::e8 b2 [e7 (y.num),e7<|y.den] 40::e8 b1 [e7 (x.num),e7<|x.den] 40::I) (λs=>(x.num*y.den=s.2.2.1*18446744073709551616+s.2.2.2.1/\0<=s.2.2.2.1/\s.2.2.2.1<18446744073709551616)/\(y.num*x.den=s.2.2.2.2.1*18446744073709551616+s.2.2.2.2.2/\0<=s.2.2.2.2.2/\s.2.2.2.2.2<18446744073709551616)) ?_ ?_
 ·refine A8 mixed (Cf (e8 b2 [e7 (y.num),e7<|y.den] 40::e8 b1 [e7 (x.num),e7<|x.den] 40::I) 18<|Z ?_)
  refine Dr 5 C (C6 A7 Ce C om)<|Z ?_
  refine Dr 12 C (C6 A7 Ce C om)<|Cg (rs:=[2,14,15]) kr C C<|Dk ?_<|Dk ?_<|Du ?_
  ·refine Sc0 C (Ac c_ C C<|F2 x.num om) ?_
   refine Cg (rs:=[6,14,15]) kr C C<|Dk ?_<|Dk ?_<|Du ?_
   ·refine Sc0 C (Ac c_ C C<|r9 x.num y.den om om) ?_
    refine Cg (rs:=[9,14,15]) kr C C<|Dk ?_<|Dk ?_<|Du ?_
    ·refine Sc0 C (Ac c_ C C<|F2 y.num om) ?_
     refine Cg (rs:=[13,14,15]) kr C C<|Dk ?_<|Dk ?_<|Du ?_
     ·refine Sc0 C (Ac c_ C C<|r9 y.num x.den om om) ?_
      refine Cg (rs:=[14,15]) kr C C<|Dk ?_<|Du ?_
      ·refine Se1 C (Ah j4 C) λb3=>?_
       refine Ds1 15<|Se1 C (Ah j4 C) λb4=>?_
       refine Ds1 16<|Se0 C (Ba j4) ?_
       refine Ds1 17<|Se0 C (Ba j4) ?_
       exact Dz<|Bu ((b3),(b4),(x.num*y.den / 18446744073709551616),(x.num*y.den % 18446744073709551616),(y.num*x.den / 18446744073709551616),(y.num*x.den % 18446744073709551616))<|by dsimp only;exact ⟨om,om⟩
      refine Se1 C (Ah j4 C) λb5=>?_
      refine Ds1 14<|Se1 C (Ah j4 C) λb6=>?_
      refine Ds1 16<|Se0 C (Ba j4) ?_
      refine Ds1 17<|Se0 C (Ba j4) ?_
      exact Dz<|Bu ((b6),(b5),(x.num*y.den / 18446744073709551616),(x.num*y.den % 18446744073709551616),(y.num*x.den / 18446744073709551616),(y.num*x.den % 18446744073709551616))<|by dsimp only;exact ⟨om,om⟩
     ·refine Se1 C (Ah j4 C) λb7=>?_
      refine Cg (rs:=[13,15]) kr C C<|Dk ?_<|Du ?_
      ·refine Sc0 C (Ac c_ C C<|r9 y.num x.den om om) ?_
       refine Ds1 15<|Se1 C (Ah j4 C) λb8=>?_
       refine Ds1 16<|Se0 C (Ba j4) ?_
       refine Ds1 17<|Se0 C (Ba j4) ?_
       exact Dz<|Bu ((b7),(b8),(x.num*y.den / 18446744073709551616),(x.num*y.den % 18446744073709551616),(y.num*x.den / 18446744073709551616),(y.num*x.den % 18446744073709551616))<|by dsimp only;exact ⟨om,om⟩
      refine Se1 C (Ah j4 C) λb9=>?_
      refine Ds1 13<|Sc0 C (Ac c_ C C<|r9 y.num x.den om om) ?_
      refine Ds1 16<|Se0 C (Ba j4) ?_
      refine Ds1 17<|Se0 C (Ba j4) ?_
      exact Dz<|Bu ((b7),(b9),(x.num*y.den / 18446744073709551616),(x.num*y.den % 18446744073709551616),(y.num*x.den / 18446744073709551616),(y.num*x.den % 18446744073709551616))<|by dsimp only;exact ⟨om,om⟩
     refine Se1 C (Ah j4 C) λak=>?_
     refine Cg (rs:=[13,14]) kr C C<|Dk ?_<|Du ?_
     ·refine Sc0 C (Ac c_ C C<|r9 y.num x.den om om) ?_
      refine Ds1 14<|Se1 C (Ah j4 C) λbb=>?_
      refine Ds1 16<|Se0 C (Ba j4) ?_
      refine Ds1 17<|Se0 C (Ba j4) ?_
      exact Dz<|Bu ((bb),(ak),(x.num*y.den / 18446744073709551616),(x.num*y.den % 18446744073709551616),(y.num*x.den / 18446744073709551616),(y.num*x.den % 18446744073709551616))<|by dsimp only;exact ⟨om,om⟩
     refine Se1 C (Ah j4 C) λbc=>?_
     refine Ds1 13<|Sc0 C (Ac c_ C C<|r9 y.num x.den om om) ?_
     refine Ds1 16<|Se0 C (Ba j4) ?_
     refine Ds1 17<|Se0 C (Ba j4) ?_
     exact Dz<|Bu ((bc),(ak),(x.num*y.den / 18446744073709551616),(x.num*y.den % 18446744073709551616),(y.num*x.den / 18446744073709551616),(y.num*x.den % 18446744073709551616))<|by dsimp only;exact ⟨om,om⟩
    ·refine Se1 C (Ah j4 C) λaj=>?_
     refine Cg (rs:=[9,15]) kr C C<|Dk ?_<|Du ?_
     ·refine Sc0 C (Ac c_ C C<|F2 y.num om) ?_
      refine Cg (rs:=[13,15]) kr C C<|Dk ?_<|Du ?_
      ·refine Sc0 C (Ac c_ C C<|r9 y.num x.den om om) ?_
       refine Ds1 15<|Se1 C (Ah j4 C) λax=>?_
       refine Ds1 16<|Se0 C (Ba j4) ?_
       refine Ds1 17<|Se0 C (Ba j4) ?_
       exact Dz<|Bu ((aj),(ax),(x.num*y.den / 18446744073709551616),(x.num*y.den % 18446744073709551616),(y.num*x.den / 18446744073709551616),(y.num*x.den % 18446744073709551616))<|by dsimp only;exact ⟨om,om⟩
      refine Se1 C (Ah j4 C) λa6=>?_
      refine Ds1 13<|Sc0 C (Ac c_ C C<|r9 y.num x.den om om) ?_
      refine Ds1 16<|Se0 C (Ba j4) ?_
      refine Ds1 17<|Se0 C (Ba j4) ?_
      exact Dz<|Bu ((aj),(a6),(x.num*y.den / 18446744073709551616),(x.num*y.den % 18446744073709551616),(y.num*x.den / 18446744073709551616),(y.num*x.den % 18446744073709551616))<|by dsimp only;exact ⟨om,om⟩
     refine Se1 C (Ah j4 C) λaz=>?_
     refine Ds1 9<|Sc0 C (Ac c_ C C<|F2 y.num om) ?_
     refine Ds1 13<|Sc0 C (Ac c_ C C<|r9 y.num x.den om om) ?_
     refine Ds1 16<|Se0 C (Ba j4) ?_
     refine Ds1 17<|Se0 C (Ba j4) ?_
     exact Dz<|Bu ((aj),(az),(x.num*y.den / 18446744073709551616),(x.num*y.den % 18446744073709551616),(y.num*x.den / 18446744073709551616),(y.num*x.den % 18446744073709551616))<|by dsimp only;exact ⟨om,om⟩
    refine Se1 C (Ah j4 C) λai=>?_
    refine Cg (rs:=[9,14]) kr C C<|Dk ?_<|Du ?_
    ·refine Sc0 C (Ac c_ C C<|F2 y.num om) ?_
     refine Cg (rs:=[13,14]) kr C C<|Dk ?_<|Du ?_
     ·refine Sc0 C (Ac c_ C C<|r9 y.num x.den om om) ?_
      refine Ds1 14<|Se1 C (Ah j4 C) λbe=>?_
      refine Ds1 16<|Se0 C (Ba j4) ?_
      refine Ds1 17<|Se0 C (Ba j4) ?_
      exact Dz<|Bu ((be),(ai),(x.num*y.den / 18446744073709551616),(x.num*y.den % 18446744073709551616),(y.num*x.den / 18446744073709551616),(y.num*x.den % 18446744073709551616))<|by dsimp only;exact ⟨om,om⟩
     refine Se1 C (Ah j4 C) λbj=>?_
     refine Ds1 13<|Sc0 C (Ac c_ C C<|r9 y.num x.den om om) ?_
     refine Ds1 16<|Se0 C (Ba j4) ?_
     refine Ds1 17<|Se0 C (Ba j4) ?_
     exact Dz<|Bu ((bj),(ai),(x.num*y.den / 18446744073709551616),(x.num*y.den % 18446744073709551616),(y.num*x.den / 18446744073709551616),(y.num*x.den % 18446744073709551616))<|by dsimp only;exact ⟨om,om⟩
    refine Se1 C (Ah j4 C) λa7=>?_
    refine Ds1 9<|Sc0 C (Ac c_ C C<|F2 y.num om) ?_
    refine Ds1 13<|Sc0 C (Ac c_ C C<|r9 y.num x.den om om) ?_
    refine Ds1 16<|Se0 C (Ba j4) ?_
    refine Ds1 17<|Se0 C (Ba j4) ?_
    exact Dz<|Bu ((a7),(ai),(x.num*y.den / 18446744073709551616),(x.num*y.den % 18446744073709551616),(y.num*x.den / 18446744073709551616),(y.num*x.den % 18446744073709551616))<|by dsimp only;exact ⟨om,om⟩
   ·refine Se1 C (Ah j4 C) λaa=>?_
    refine Cg (rs:=[6,15]) kr C C<|Dk ?_<|Du ?_
    ·refine Sc0 C (Ac c_ C C<|r9 x.num y.den om om) ?_
     refine Cg (rs:=[9,15]) kr C C<|Dk ?_<|Du ?_
     ·refine Sc0 C (Ac c_ C C<|F2 y.num om) ?_
      refine Cg (rs:=[13,15]) kr C C<|Dk ?_<|Du ?_
      ·refine Sc0 C (Ac c_ C C<|r9 y.num x.den om om) ?_
       refine Ds1 15<|Se1 C (Ah j4 C) λbi=>?_
       refine Ds1 16<|Se0 C (Ba j4) ?_
       refine Ds1 17<|Se0 C (Ba j4) ?_
       exact Dz<|Bu ((aa),(bi),(x.num*y.den / 18446744073709551616),(x.num*y.den % 18446744073709551616),(y.num*x.den / 18446744073709551616),(y.num*x.den % 18446744073709551616))<|by dsimp only;exact ⟨om,om⟩
      refine Se1 C (Ah j4 C) λa3=>?_
      refine Ds1 13<|Sc0 C (Ac c_ C C<|r9 y.num x.den om om) ?_
      refine Ds1 16<|Se0 C (Ba j4) ?_
      refine Ds1 17<|Se0 C (Ba j4) ?_
      exact Dz<|Bu ((aa),(a3),(x.num*y.den / 18446744073709551616),(x.num*y.den % 18446744073709551616),(y.num*x.den / 18446744073709551616),(y.num*x.den % 18446744073709551616))<|by dsimp only;exact ⟨om,om⟩
     refine Se1 C (Ah j4 C) λbk=>?_
     refine Ds1 9<|Sc0 C (Ac c_ C C<|F2 y.num om) ?_
     refine Ds1 13<|Sc0 C (Ac c_ C C<|r9 y.num x.den om om) ?_
     refine Ds1 16<|Se0 C (Ba j4) ?_
     refine Ds1 17<|Se0 C (Ba j4) ?_
     exact Dz<|Bu ((aa),(bk),(x.num*y.den / 18446744073709551616),(x.num*y.den % 18446744073709551616),(y.num*x.den / 18446744073709551616),(y.num*x.den % 18446744073709551616))<|by dsimp only;exact ⟨om,om⟩
    refine Se1 C (Ah j4 C) λaw=>?_
    refine Ds1 6<|Sc0 C (Ac c_ C C<|r9 x.num y.den om om) ?_
    refine Ds1 9<|Sc0 C (Ac c_ C C<|F2 y.num om) ?_
    refine Ds1 13<|Sc0 C (Ac c_ C C<|r9 y.num x.den om om) ?_
    refine Ds1 16<|Se0 C (Ba j4) ?_
    refine Ds1 17<|Se0 C (Ba j4) ?_
    exact Dz<|Bu ((aa),(aw),(x.num*y.den / 18446744073709551616),(x.num*y.den % 18446744073709551616),(y.num*x.den / 18446744073709551616),(y.num*x.den % 18446744073709551616))<|by dsimp only;exact ⟨om,om⟩
   refine Se1 C (Ah j4 C) λab=>?_
   refine Cg (rs:=[6,14]) kr C C<|Dk ?_<|Du ?_
   ·refine Sc0 C (Ac c_ C C<|r9 x.num y.den om om) ?_
    refine Cg (rs:=[9,14]) kr C C<|Dk ?_<|Du ?_
    ·refine Sc0 C (Ac c_ C C<|F2 y.num om) ?_
     refine Cg (rs:=[13,14]) kr C C<|Dk ?_<|Du ?_
     ·refine Sc0 C (Ac c_ C C<|r9 y.num x.den om om) ?_
      refine Ds1 14<|Se1 C (Ah j4 C) λa5=>?_
      refine Ds1 16<|Se0 C (Ba j4) ?_
      refine Ds1 17<|Se0 C (Ba j4) ?_
      exact Dz<|Bu ((a5),(ab),(x.num*y.den / 18446744073709551616),(x.num*y.den % 18446744073709551616),(y.num*x.den / 18446744073709551616),(y.num*x.den % 18446744073709551616))<|by dsimp only;exact ⟨om,om⟩
     refine Se1 C (Ah j4 C) λar=>?_
     refine Ds1 13<|Sc0 C (Ac c_ C C<|r9 y.num x.den om om) ?_
     refine Ds1 16<|Se0 C (Ba j4) ?_
     refine Ds1 17<|Se0 C (Ba j4) ?_
     exact Dz<|Bu ((ar),(ab),(x.num*y.den / 18446744073709551616),(x.num*y.den % 18446744073709551616),(y.num*x.den / 18446744073709551616),(y.num*x.den % 18446744073709551616))<|by dsimp only;exact ⟨om,om⟩
    refine Se1 C (Ah j4 C) λa1=>?_
    refine Ds1 9<|Sc0 C (Ac c_ C C<|F2 y.num om) ?_
    refine Ds1 13<|Sc0 C (Ac c_ C C<|r9 y.num x.den om om) ?_
    refine Ds1 16<|Se0 C (Ba j4) ?_
    refine Ds1 17<|Se0 C (Ba j4) ?_
    exact Dz<|Bu ((a1),(ab),(x.num*y.den / 18446744073709551616),(x.num*y.den % 18446744073709551616),(y.num*x.den / 18446744073709551616),(y.num*x.den % 18446744073709551616))<|by dsimp only;exact ⟨om,om⟩
   refine Se1 C (Ah j4 C) λay=>?_
   refine Ds1 6<|Sc0 C (Ac c_ C C<|r9 x.num y.den om om) ?_
   refine Ds1 9<|Sc0 C (Ac c_ C C<|F2 y.num om) ?_
   refine Ds1 13<|Sc0 C (Ac c_ C C<|r9 y.num x.den om om) ?_
   refine Ds1 16<|Se0 C (Ba j4) ?_
   refine Ds1 17<|Se0 C (Ba j4) ?_
   exact Dz<|Bu ((ay),(ab),(x.num*y.den / 18446744073709551616),(x.num*y.den % 18446744073709551616),(y.num*x.den / 18446744073709551616),(y.num*x.den % 18446744073709551616))<|by dsimp only;exact ⟨om,om⟩
  ·refine Se1 C (Ah j4 C) λM=>?_
   refine Cg (rs:=[2,15]) kr C C<|Dk ?_<|Du ?_
   ·refine Sc0 C (Ac c_ C C<|F2 x.num om) ?_
    refine Cg (rs:=[6,15]) kr C C<|Dk ?_<|Du ?_
    ·refine Sc0 C (Ac c_ C C<|r9 x.num y.den om om) ?_
     refine Cg (rs:=[9,15]) kr C C<|Dk ?_<|Du ?_
     ·refine Sc0 C (Ac c_ C C<|F2 y.num om) ?_
      refine Cg (rs:=[13,15]) kr C C<|Dk ?_<|Du ?_
      ·refine Sc0 C (Ac c_ C C<|r9 y.num x.den om om) ?_
       refine Ds1 15<|Se1 C (Ah j4 C) λba=>?_
       refine Ds1 16<|Se0 C (Ba j4) ?_
       refine Ds1 17<|Se0 C (Ba j4) ?_
       exact Dz<|Bu ((M),(ba),(x.num*y.den / 18446744073709551616),(x.num*y.den % 18446744073709551616),(y.num*x.den / 18446744073709551616),(y.num*x.den % 18446744073709551616))<|by dsimp only;exact ⟨om,om⟩
      refine Se1 C (Ah j4 C) λav=>?_
      refine Ds1 13<|Sc0 C (Ac c_ C C<|r9 y.num x.den om om) ?_
      refine Ds1 16<|Se0 C (Ba j4) ?_
      refine Ds1 17<|Se0 C (Ba j4) ?_
      exact Dz<|Bu ((M),(av),(x.num*y.den / 18446744073709551616),(x.num*y.den % 18446744073709551616),(y.num*x.den / 18446744073709551616),(y.num*x.den % 18446744073709551616))<|by dsimp only;exact ⟨om,om⟩
     refine Se1 C (Ah j4 C) λbm=>?_
     refine Ds1 9<|Sc0 C (Ac c_ C C<|F2 y.num om) ?_
     refine Ds1 13<|Sc0 C (Ac c_ C C<|r9 y.num x.den om om) ?_
     refine Ds1 16<|Se0 C (Ba j4) ?_
     refine Ds1 17<|Se0 C (Ba j4) ?_
     exact Dz<|Bu ((M),(bm),(x.num*y.den / 18446744073709551616),(x.num*y.den % 18446744073709551616),(y.num*x.den / 18446744073709551616),(y.num*x.den % 18446744073709551616))<|by dsimp only;exact ⟨om,om⟩
    refine Se1 C (Ah j4 C) λbf=>?_
    refine Ds1 6<|Sc0 C (Ac c_ C C<|r9 x.num y.den om om) ?_
    refine Ds1 9<|Sc0 C (Ac c_ C C<|F2 y.num om) ?_
    refine Ds1 13<|Sc0 C (Ac c_ C C<|r9 y.num x.den om om) ?_
    refine Ds1 16<|Se0 C (Ba j4) ?_
    refine Ds1 17<|Se0 C (Ba j4) ?_
    exact Dz<|Bu ((M),(bf),(x.num*y.den / 18446744073709551616),(x.num*y.den % 18446744073709551616),(y.num*x.den / 18446744073709551616),(y.num*x.den % 18446744073709551616))<|by dsimp only;exact ⟨om,om⟩
   refine Se1 C (Ah j4 C) λa0=>?_
   refine Ds1 2<|Sc0 C (Ac c_ C C<|F2 x.num om) ?_
   refine Ds1 6<|Sc0 C (Ac c_ C C<|r9 x.num y.den om om) ?_
   refine Ds1 9<|Sc0 C (Ac c_ C C<|F2 y.num om) ?_
   refine Ds1 13<|Sc0 C (Ac c_ C C<|r9 y.num x.den om om) ?_
   refine Ds1 16<|Se0 C (Ba j4) ?_
   refine Ds1 17<|Se0 C (Ba j4) ?_
   exact Dz<|Bu ((M),(a0),(x.num*y.den / 18446744073709551616),(x.num*y.den % 18446744073709551616),(y.num*x.den / 18446744073709551616),(y.num*x.den % 18446744073709551616))<|by dsimp only;exact ⟨om,om⟩
  refine Se1 C (Ah j4 C) λE=>?_
  refine Cg (rs:=[2,14]) kr C C<|Dk ?_<|Du ?_
  ·refine Sc0 C (Ac c_ C C<|F2 x.num om) ?_
   refine Cg (rs:=[6,14]) kr C C<|Dk ?_<|Du ?_
   ·refine Sc0 C (Ac c_ C C<|r9 x.num y.den om om) ?_
    refine Cg (rs:=[9,14]) kr C C<|Dk ?_<|Du ?_
    ·refine Sc0 C (Ac c_ C C<|F2 y.num om) ?_
     refine Cg (rs:=[13,14]) kr C C<|Dk ?_<|Du ?_
     ·refine Sc0 C (Ac c_ C C<|r9 y.num x.den om om) ?_
      refine Ds1 14<|Se1 C (Ah j4 C) λa8=>?_
      refine Ds1 16<|Se0 C (Ba j4) ?_
      refine Ds1 17<|Se0 C (Ba j4) ?_
      exact Dz<|Bu ((a8),(E),(x.num*y.den / 18446744073709551616),(x.num*y.den % 18446744073709551616),(y.num*x.den / 18446744073709551616),(y.num*x.den % 18446744073709551616))<|by dsimp only;exact ⟨om,om⟩
     refine Se1 C (Ah j4 C) λbn=>?_
     refine Ds1 13<|Sc0 C (Ac c_ C C<|r9 y.num x.den om om) ?_
     refine Ds1 16<|Se0 C (Ba j4) ?_
     refine Ds1 17<|Se0 C (Ba j4) ?_
     exact Dz<|Bu ((bn),(E),(x.num*y.den / 18446744073709551616),(x.num*y.den % 18446744073709551616),(y.num*x.den / 18446744073709551616),(y.num*x.den % 18446744073709551616))<|by dsimp only;exact ⟨om,om⟩
    refine Se1 C (Ah j4 C) λbg=>?_
    refine Ds1 9<|Sc0 C (Ac c_ C C<|F2 y.num om) ?_
    refine Ds1 13<|Sc0 C (Ac c_ C C<|r9 y.num x.den om om) ?_
    refine Ds1 16<|Se0 C (Ba j4) ?_
    refine Ds1 17<|Se0 C (Ba j4) ?_
    exact Dz<|Bu ((bg),(E),(x.num*y.den / 18446744073709551616),(x.num*y.den % 18446744073709551616),(y.num*x.den / 18446744073709551616),(y.num*x.den % 18446744073709551616))<|by dsimp only;exact ⟨om,om⟩
   refine Se1 C (Ah j4 C) λa9=>?_
   refine Ds1 6<|Sc0 C (Ac c_ C C<|r9 x.num y.den om om) ?_
   refine Ds1 9<|Sc0 C (Ac c_ C C<|F2 y.num om) ?_
   refine Ds1 13<|Sc0 C (Ac c_ C C<|r9 y.num x.den om om) ?_
   refine Ds1 16<|Se0 C (Ba j4) ?_
   refine Ds1 17<|Se0 C (Ba j4) ?_
   exact Dz<|Bu ((a9),(E),(x.num*y.den / 18446744073709551616),(x.num*y.den % 18446744073709551616),(y.num*x.den / 18446744073709551616),(y.num*x.den % 18446744073709551616))<|by dsimp only;exact ⟨om,om⟩
  refine Se1 C (Ah j4 C) λau=>?_
  refine Ds1 2<|Sc0 C (Ac c_ C C<|F2 x.num om) ?_
  refine Ds1 6<|Sc0 C (Ac c_ C C<|r9 x.num y.den om om) ?_
  refine Ds1 9<|Sc0 C (Ac c_ C C<|F2 y.num om) ?_
  refine Ds1 13<|Sc0 C (Ac c_ C C<|r9 y.num x.den om om) ?_
  refine Ds1 16<|Se0 C (Ba j4) ?_
  refine Ds1 17<|Se0 C (Ba j4) ?_
  exact Dz<|Bu ((au),(E),(x.num*y.den / 18446744073709551616),(x.num*y.den % 18446744073709551616),(y.num*x.den / 18446744073709551616),(y.num*x.den % 18446744073709551616))<|by dsimp only;exact ⟨om,om⟩
 rintro ⟨an,ao,ah,al,bh,bl⟩ hp
 obtain ⟨ha,hb⟩:(x.num*y.den=ah*18446744073709551616+al/\0<=al/\al<18446744073709551616)/\(y.num*x.den=bh*18446744073709551616+bl/\0<=bl/\bl<18446744073709551616):=hp
 show W prog κ 52 _ _ ([(2,pt b1),(5,pt an),(6,pt ao)]:Env) (e8 an [.int .u64 ah,.int .u64 al] 177::e8 ao [.int .u64 bh,.int .u64 bl] 177::e8 b2 [e7 (y.num),e7<|y.den] 40::e8 b1 [e7 (x.num),e7<|x.den] 40::I)
 refine Z ?_
 refine Am C (λaq=>?_)<|λaq=>Z ?_
 ·exact absurd aq om
 refine Gc0 (Ac c_ C C<|fa4 ah al bh bl) ?_
 refine Ga C<|Aq<|Am C (λa4=>Z ?_)<|λa4=>Z ?_
 ·exact Ak C C I Af ⟨Fz e7<|by unfold ak2;repeat (first|omega|split),rfl⟩
 refine Gr (Fm (α:=Wd) (a:=(⟨ah,al⟩:Wd)) (b:=(⟨bh,bl⟩:Wd)) cz1 C C)<|Z ?_
 refine Am C (λad=>Z ?_)<|λad=>Z ?_
 ·have ae:=ad
  rw [Wd.mk.injEq] at ae
  exact Ak C C I Af ⟨Fz e7<|by unfold ak2;repeat (first|omega|split),rfl⟩
 have ae:=ad
 rw [Wd.mk.injEq] at ae
 exact Ak C C I Af ⟨Fz e7<|by unfold ak2;repeat (first|omega|split),rfl⟩
end Go.Sl
namespace Go.Sl
section
variable {P:Program}{κ:Ctx}{N:Frm}{L:Env}{I:List Item}
theorem V.gh0{fn:Func}{t1 t2 t3 t4:Tmp}{v1 E v3 v4:Value}{Post:Value->List Item->Prop}(hr:fn.results = #[.tmp t1,.tmp t2,.tmp t3,.tmp t4])(h1:look L t1=some v1)(h2:look L t2=some E)(h3:look L t3=some v3)(h4:look L t4=some v4)(J:List Item)(hf:Fit κ I J)(hp:Post (.tuple #[v1,E,v3,v4]) J)(h0:N.ds=[]:=by rfl):V κ N (bodyPost P fn (bs4 κ Post)) .ret L I:=
 λa w M hs=>bodyPost_ret (v:= .tuple #[v1,E,v3,v4]) (by simp [results,hr,M.get t1 v1 h1,M.get t2 E h2,M.get t3 v3 h3,M.get t4 v4 h4]) (M.defers.trans h0) ⟨_,J,rfl,hp,hf w hs⟩
end
end Go.Sl
