/- A part of the proofs of statements of this seat: contracts of functions, and the plain laws that they lean on. No conditions. -/
import Derived.Test.YtfkcohmipjhfcaaGreatDoorB13
set_option linter.unusedVariables false
set_option linter.unusedSimpArgs false
set_option linter.unusedSectionVars false
open Go.Proofs.Tryz (prog)
set_option maxHeartbeats 1000000
namespace Go.Sl
variable{rows:List (BitVec 64)}{M f w:BitVec 64}{i k:Nat}
def cu9(rows:List (BitVec 64))(w:BitVec 64):Nat->BitVec 64->BitVec 64->BitVec 64
 |0,_,frm=>frm
 |n+1,front,frm=>if front=0#64 then frm else cu9 rows w n ((front &&& (front - 1#64)) ||| (e_ rows (tzB front) &&& w &&& ~~~frm)) (frm ||| (e_ rows (tzB front) &&& w &&& ~~~frm))
def ad2(rows:List (BitVec 64))(f w:BitVec 64):BitVec 64:=cu9 rows w 64 (f &&& w) (f &&& w)
structure ac2 (rows:List (BitVec 64)) (f w front frm:BitVec 64):Prop where
 start:∀i:Nat,(f &&& w).getLsbD i=true->frm.getLsbD i=true
 sub:∀i:Nat,frm.getLsbD i=true->w.getLsbD i=true
 gt1:∀i:Nat,front.getLsbD i=true->frm.getLsbD i=true
 closed:∀i j:Nat,frm.getLsbD i=true->front.getLsbD i=false->(e_ rows i).getLsbD j=true->w.getLsbD j=true->frm.getLsbD j=true
 least:∀X:Nat->Prop,(∀i:Nat,(f &&& w).getLsbD i=true->X i)->(∀i j:Nat,X i->w.getLsbD i=true->(e_ rows i).getLsbD j=true->w.getLsbD j=true->X j)->∀i:Nat,frm.getLsbD i=true->X i
structure bs5 (rows:List (BitVec 64)) (f w M:BitVec 64):Prop where
 start:∀i:Nat,(f &&& w).getLsbD i=true->M.getLsbD i=true
 sub:∀i:Nat,M.getLsbD i=true->w.getLsbD i=true
 closed:∀i j:Nat,M.getLsbD i=true->(e_ rows i).getLsbD j=true->w.getLsbD j=true->M.getLsbD j=true
 least:∀X:Nat->Prop,(∀i:Nat,(f &&& w).getLsbD i=true->X i)->(∀i j:Nat,X i->w.getLsbD i=true->(e_ rows i).getLsbD j=true->w.getLsbD j=true->X j)->∀i:Nat,M.getLsbD i=true->X i
theorem bs5.uniq{N:BitVec 64}(h:bs5 rows f w M)(k:bs5 rows f w N):M=N:=by
 refine Mk λi _=>?_
 have e1:=h.least (λi=>N.getLsbD i=true) k.start (λi j a _ b c=>k.closed i j a b c) i
 have E:=k.least (λi=>M.getLsbD i=true) h.start (λi j a _ b c=>h.closed i j a b c) i
 cases h1:M.getLsbD i<;>cases h2:N.getLsbD i<;>simp_all
theorem ac2.begin:ac2 rows f w (f &&& w) (f &&& w):=
 ⟨λi h=>h,λi h=>by rw [Hm,Hi] at h;exact h.2,λi h=>h,λi j h M=>absurd h<|by rw [M];decide,λX h _ i hi=>h i hi⟩
theorem ac2.done(h:ac2 rows f w 0#64 M):bs5 rows f w M:=
 ⟨h.start,h.sub,λi j a b c=>h.closed i j a (by simp) b c,h.least⟩
def cc4(w front frm:BitVec 64):Nat:=(ah7 (w &&& ~~~(frm &&& ~~~front))).length
theorem fi9{a b:BitVec 64}(h:∀i:Nat,a.getLsbD i=true->b.getLsbD i=true)(ha:a.getLsbD k=false)(E:b.getLsbD k=true):(ah7 a).length<(ah7 b).length:=by
 have hn:(k::ah7 a).Nodup:=Kt.2 ⟨λM=>by {rw [S0,ha] at M;exact absurd M (by decide)},(as6 a).imp λh=>by omega⟩
 exact H_ hn λi hi=>by
  rcases Gh.1 hi with rfl|h1
  ·exact S0.2 E
  exact S0.2<|h i<|S0.1 h1
theorem ac2.step{frm:BitVec 64}(h:ac2 rows f w M frm)(hf:M≠0#64) :
  ac2 rows f w ((M &&& (M - 1#64)) ||| (e_ rows (tzB M) &&& w &&& ~~~frm)) (frm ||| (e_ rows (tzB M) &&& w &&& ~~~frm))/\cc4 w ((M &&& (M - 1#64)) ||| (e_ rows (tzB M) &&& w &&& ~~~frm)) (frm ||| (e_ rows (tzB M) &&& w &&& ~~~frm))<cc4 w M frm:=by
 obtain ⟨k,hk,ae,hlt,he,hp⟩:=cd6 hf
 have ah:tzB M=(k:Int):=ft4 hf hk he
 rw [ah]
 have E:∀i:Nat,(frm ||| (e_ rows k &&& w &&& ~~~frm)).getLsbD i=true↔(frm.getLsbD i=true\/((e_ rows k).getLsbD i=true/\w.getLsbD i=true)):=λi=>by
  by_cases hi:i<64
  ·simp only [Je,Hm,Mi,hi,decide_true,Bool.true_and]
   cases frm.getLsbD i<;>simp
  simp [Jn _ _ (show 64<=i by omega)]
 have aa:∀i:Nat,((M &&& (M - 1#64)) ||| (e_ rows k &&& w &&& ~~~frm)).getLsbD i=true↔((M.getLsbD i=true/\i≠k)\/((e_ rows k).getLsbD i=true/\w.getLsbD i=true/\frm.getLsbD i=false)):=λi=>by
  by_cases hi:i<64
  ·simp only [Je,Hm,Mi,hi,decide_true,Bool.true_and]
   have:=hp i
   rw [Hm] at this
   rw [this]
   cases frm.getLsbD i<;>simp
  simp [Jn _ _ (show 64<=i by omega)]
 have ab:=h.gt1 k ae
 have ad:=h.sub k ab
 refine ⟨⟨λi hi=>(E i).2 (.inl<|h.start i hi),λi hi=>?_,λi hi=>?_,λi j hi hj hr hw=>?_,λX h1 h2 i hi=>?_⟩,?_⟩
 ·rcases (E i).1 hi with h1|h1
  ·exact h.sub i h1
  exact h1.2
 ·rcases (aa i).1 hi with h1|h1
  ·exact (E i).2 (.inl<|h.gt1 i h1.1)
  exact (E i).2 (.inr ⟨h1.1,h1.2.1⟩)
 ·have hn:¬((M.getLsbD i=true/\i≠k)\/((e_ rows k).getLsbD i=true/\w.getLsbD i=true/\frm.getLsbD i=false)):=λhh=>by rw [(aa i).2 hh] at hj;cases hj
  by_cases hik:i=k
  ·subst hik;exact (E j).2 (.inr ⟨hr,hw⟩)
  rcases (E i).1 hi with h1|h1
  ·have h3:M.getLsbD i=false:=by
    cases h4:M.getLsbD i
    ·rfl
    exact absurd (.inl ⟨h4,hik⟩) hn
   exact (E j).2 (.inl<|h.closed i j h1 h3 hr hw)
  have h3:frm.getLsbD i=true:=by
   cases h4:frm.getLsbD i
   ·exact absurd (.inr ⟨h1.1,h1.2,h4⟩) hn
   rfl
  have ai:M.getLsbD i=false:=by
   cases h4:M.getLsbD i
   ·rfl
   exact absurd (.inl ⟨h4,hik⟩) hn
  exact (E j).2 (.inl<|h.closed i j h3 ai hr hw)
 ·rcases (E i).1 hi with h3|h3
  ·exact h.least X h1 h2 i h3
  exact h2 k i (h.least X h1 h2 k ab) ad h3.1 h3.2
 unfold cc4
 have hx:∀(a b:BitVec 64) (i:Nat),(w &&& ~~~(b &&& ~~~a)).getLsbD i=true↔(w.getLsbD i=true/\¬(b.getLsbD i=true/\a.getLsbD i=false)):=λa b i=>by
  by_cases hi:i<64
  ·simp only [Hm,Mi,hi,decide_true,Bool.true_and]
   cases a.getLsbD i<;>cases b.getLsbD i<;>simp
  simp [Jn _ _ (show 64<=i by omega)]
 refine fi9 (k:=k) (λi hi=>?_) ?_<|(hx _ _ _).2 ⟨ad,λhh=>by rw [ae] at hh;exact absurd hh.2<|by decide⟩
 ·obtain ⟨h1,h2⟩:=(hx _ _ _).1 hi
  refine (hx _ _ _).2 ⟨h1,λhh=>h2 ⟨(E i).2 (.inl hh.1),?_⟩⟩
  cases h4:((M &&& (M - 1#64)) ||| (e_ rows k &&& w &&& ~~~frm)).getLsbD i
  ·rfl
  rcases (aa i).1 h4 with h5|h5
  ·rw [hh.2] at h5;exact absurd h5.1 (by decide)
  rw [hh.1] at h5;exact absurd h5.2.2 (by decide)
 rw [←Ms]
 intro hh
 refine ((hx _ _ _).1 hh).2 ⟨(E k).2 (.inl ab),?_⟩
 cases h4:((M &&& (M - 1#64)) ||| (e_ rows k &&& w &&& ~~~frm)).getLsbD k
 ·rfl
 rcases (aa k).1 h4 with h5|h5
 ·exact absurd rfl h5.2
 rw [ab] at h5;exact absurd h5.2.2 (by decide)
theorem ac2.ends:∀(n:Nat) (front frm:BitVec 64),ac2 rows f w front frm->cc4 w front frm<=n->bs5 rows f w (cu9 rows w n front frm)
 |0,front,frm,h,hm=>by
  have E:front=0#64:=Gg λM=>by have:=(h.step M).2;omega
  subst E;exact h.done
 |n+1,front,frm,h,hm=>by
  unfold cu9
  by_cases M:front=0#64
  ·rw [By M];subst M;exact h.done
  rw [An M];exact ac2.ends n _ _ (h.step M).1 (by have:=(h.step M).2;omega)
theorem Y5(rows:List (BitVec 64))(f w:BitVec 64):bs5 rows f w (ad2 rows f w):=ac2.ends 64 _ _ .begin (cd5 _)
theorem ac2.eq(h:ac2 rows f w 0#64 M):M=ad2 rows f w:=h.done.uniq (Y5 rows f w)
def fy2(i:Nat):BitVec 64:=1#64 <<< i
theorem co9{j:Nat}(hi:i<64):(fy2 i).getLsbD j=true↔j=i:=by
 unfold fy2
 rw [BitVec.getLsbD_shiftLeft]
 constructor
 ·intro h
  simp only [Hi,Gn,Lu,decide_eq_false_iff_not,BitVec.getLsbD_one] at h
  omega
 rintro rfl;simp [hi]
def gy1(rows:List (BitVec 64))(w:BitVec 64)(i j:Nat):Prop:=i<64/\(ad2 rows (fy2 i) w).getLsbD j=true
instance {rows:List (BitVec 64)} {w:BitVec 64} {i j:Nat}:Decidable (gy1 rows w i j):=inferInstanceAs (Decidable (_/\_))
theorem fy1(hi:i<64):(fy2 i &&& w).getLsbD k=true↔k=i/\w.getLsbD k=true:=by
 rw [Hm,Hi,co9 hi]
end Go.Sl
namespace Go.Sl
end Go.Sl
namespace Go.Sl
section
variable {α:Type}[Enc α]{κ:Ctx}{I:List Item}
def ba7(e:TypeId)(rs:List (ah9 α)):List Item:=rs.map λr=>vc e (.slice r.a r.xs.length r.c) r.xs
theorem Fit.dq5{e:TypeId}{rs:List (ah9 α)}{r:ah9 α}{A:List Item}:Fit κ (A++vc e (.slice r.a r.xs.length r.c) r.xs::(ba7 e rs++I)) (A++(ba7 e (rs++[r])++I)):=by
 refine Fit.perm<|List.Perm.append_left A ?_
 have M:ba7 e (rs++[r])++I=ba7 e rs++vc e (.slice r.a r.xs.length r.c) r.xs::I:=by simp [ba7]
 rw [M]
 exact Mp.symm
end
end Go.Sl
namespace Go.Sl
open Go.Proofs
set_option maxRecDepth 4000
variable{b nd v:Int}{es:List Pt}{set:List Int}{va vb:Value}
variable {κ:Ctx}{I:List Item}
attribute [local irreducible] W G V D A j0 Eff
theorem cz1:EqT prog 177 Wd:=EqT.dg2 (λp:Wd=>[p.hi,p.lo]) (λ_=>rfl) (λx y h=>by cases x;cases y;simpa using h) (n:=2) (λ_=>rfl) kr kr kr kr kr
theorem bt3{y:Int}:(⟨0,y⟩:Wd)=⟨0,0⟩↔y=0:=by rw [Wd.mk.injEq];exact ⟨λh=>h.2,λh=>⟨rfl,h⟩⟩
theorem bv5(h:0<b):mkF 0 b=⟨0,1⟩:=by
 have e:af8 0 b=b:=by unfold af8;simp;omega
 unfold mkF;rw [e,Int.zero_ediv,Int.ediv_self om]
theorem fk8{a:Int}(M:0<=a)(E:0<b):af8 b (a % b)=af8 a b:=by
 rw [←ce5 M E,Nc M]
theorem U9(n:Int)(h:0<=n/\n<9223372036854775808):er prog κ 278 [.agg #[.int .u64 0,.int .u64 n]] I (λr J=>r = .agg #[.int .u64 0,.int .u64 (2*n)]/\I=J):=by
 refine Ce1 Tryz.func278 C C ?_
 refine Aj<|Ge1 (Ay (cs:=[_,_]) C C C) λb1=>Ge1 (Ah j4 C) λM=>Z ?_
 refine Gr (j0.gw4 (m:=0) C C dc dc)<|Z ?_
 refine Gr (j0.gr3 (m:=n) C C om om)<|Gr (j0.orZ C C)<|Z ?_
 refine Gr (j0.gw4 (m:=n) C C om om)<|Z ?_
 refine Ge0 (Ba j4)<|Z ?_
 exact Cv C j4 C mm C I Af ⟨rfl,rfl⟩
theorem an8(a b:Int):er prog κ 124 [.agg #[.int .u64 0,.int .u64 a],.agg #[.int .u64 0,.int .u64 b]] I (λr J=>r = .bool (decide (a<b))/\I=J):=by
 refine Ce2 Tryz.func124 C C ?_
 refine Aj<|Ge1 (Ay (cs:=[_,_]) C C C) λb1=>Ge1 (Ay (cs:=[_,_]) C C C) λb2=>Z ?_
 refine Au (d:=10) C (λM=>?_)<|λM=>Z ?_
 ·exact absurd M om
 refine Au (d:=16) C (λE=>Z ?_)<|λE=>?_
 ·exact Ak C C I Af ⟨rfl,rfl⟩
 exact absurd rfl E
theorem ax5(a b:Int)(h:0<=b/\b<=a/\a<9223372036854775808):er prog κ 279 [.agg #[.int .u64 0,.int .u64 a],.agg #[.int .u64 0,.int .u64 b]] I (λr J=>r = .agg #[.int .u64 0,.int .u64 (a - b)]/\I=J):=by
 refine Ce2 Tryz.func279 C C ?_
 refine Aj<|Ge1 (Ay (cs:=[_,_]) C C C) λb1=>Ge1 (Ay (cs:=[_,_]) C C C) λb2=>Ge1 (Ah j4 C) λE=>Z ?_
 refine Gr (j0.gw3 (m:=0) (n:=0) C C dc dc dc)<|Z ?_
 refine Am C (λM=>?_)<|λM=>Z ?_
 ·exact absurd M om
 refine Gr (j0.gw3 (m:=a) (n:=b) C C om om om)<|Z ?_
 refine Ge0 (Ba j4) ?_
 exact Aq<|Bq<|Cv C j4 C mm C I Af ⟨rfl,rfl⟩
theorem ax6(a b:Int)(E:0<=a/\a<=1152921504606846976)(h1:0<b/\b<=1152921504606846976):er prog κ 228 [.agg #[.int .u64 0,.int .u64 a],.agg #[.int .u64 0,.int .u64 b]] I (λr J=>r = .tuple #[.agg #[.int .u64 0,.int .u64 (a / b)],.agg #[.int .u64 0,.int .u64 (a % b)]]/\I=J):=by
 refine Ce2 Tryz.func228 C C ?_
 refine Aj<|Ge1 (Ay (cs:=[_,_]) C C C) λb1=>Ge1 (Ay (cs:=[_,_]) C C C) λb2=>Ge1 (Ah j4 C) λb3=>Ge1 (Ah j4 C) λb4=>Aq<|Aj<|Ge1 (Ah j4 C) λb5=>Ge1 (Ah j4 C) λb6=>Z ?_
 refine Dl (σ:=Int×Int×Int) (λs=>[(8,e7<|s.1)]) (λs=>[e8 b6 [.int .u64 0,.int .u64<|s.2.2] 177,e8 b5 [.int .u64 0,.int .u64<|s.2.1] 177]) (λs=>(-1<=s.1/\s.1<=127)/\(0<=s.2.2/\s.2.2<b)/\(0<=s.2.1)/\(a / 2 ^ (s.1+1).toNat=s.2.1*b+s.2.2)) (λs=>(s.1+1).toNat) (127,0,0) (show (-1<=(127:Int)/\(127:Int)<=127)/\(0<=(0:Int)/\(0:Int)<b)/\(0<=(0:Int))/\(a / 2 ^ ((127:Int)+1).toNat=(0:Int)*b+(0:Int)) from ⟨om,om,om,(dw6 E.1 om)⟩) ?_
 rintro ⟨i,qq,M⟩ hp
 dsimp only at hp ⊢
 obtain ⟨hi,hr,hq,hd⟩:=hp
 have ak:=gm3 E.1 hd hr.1 h1.1 hq
 have an:=fo0 a i
 have ao:63<=i->dz4 a i=0:=dz3 E.1 om
 refine Z ?_
 refine Am C (λc10=>Z ?_)<|λc10=>Z ?_
 ·refine G.e (Ac c_ C C<|U9 M om) ?_
  rintro _ _ ⟨_,_,⟨rfl,rfl⟩,rfl,rfl⟩
  refine Ge0 (Ba j4)<|Z ?_
  refine Au (d:=17) C (λaj=>Z ?_)<|λaj=>Z ?_
  ·refine e9 (C6 A7 Cs C om) (e9 (j0.gq8 C C om om)<|e9 (j0.zand C C)<|Z ?_)
   refine Au (d:=27) C (λai=>?_)<|λai=>Z ?_
   ·exact absurd ai om
   refine Au (d:=30) C (λae=>Z ?_)<|λae=>Z ?_
   ·refine e9 (C6 A7 Cs C om) (e9 (j0.gp6 (m:=a) C C om om)<|e9 (j0.gx5 (a:=a) (i:=i) C C om om)<|Z ?_)
    refine Am C (λad=>Z ?_)<|λad=>Z ?_
    ·refine Gr (Ey (m:=M) C C om om) (Gf X6 C<|Ge0 (D5 J8)<|Z ?_)
     refine G.e (Ac c_ C C<|U9 qq om) ?_
     rintro _ _ ⟨_,_,⟨rfl,rfl⟩,rfl,rfl⟩
     refine Ge0 (Ba j4)<|Z ?_
     refine Gc0 (Ac c_ C C<|an8 (2*M+1) b)<|Z ?_
     refine Am C (λaa=>Z ?_)<|λaa=>Z ?_
     ·refine Gc0 (Ac c_ C C<|ax5 (2*M+1) b om) ?_
      refine Ge0 (Ba j4)<|Z ?_
      refine Gr (Ey (m:=qq) C C om om)<|Gf X6 C<|Ge0 (D5 J8)<|Z ?_
      exact Bh ((i - 1),(2*qq+1),((2*M+1) - b))<|by dsimp only;exact ⟨om,om,om,(by first|exact Fc E.1 hd om om|exact Fb E.1 hd om om)⟩
     exact Bh ((i - 1),(2*qq),(2*M+1))<|by dsimp only;exact ⟨om,om,om,(by first|exact Fc E.1 hd om om|exact Fb E.1 hd om om)⟩
    refine G.e (Ac c_ C C<|U9 qq om) ?_
    rintro _ _ ⟨_,_,⟨rfl,rfl⟩,rfl,rfl⟩
    refine Ge0 (Ba j4)<|Z ?_
    refine Gc0 (Ac c_ C C<|an8 (2*M) b)<|Z ?_
    refine Am C (λaa=>Z ?_)<|λaa=>Z ?_
    ·refine Gc0 (Ac c_ C C<|ax5 (2*M) b om) ?_
     refine Ge0 (Ba j4)<|Z ?_
     refine Gr (Ey (m:=qq) C C om om)<|Gf X6 C<|Ge0 (D5 J8)<|Z ?_
     exact Bh ((i - 1),(2*qq+1),((2*M) - b))<|by dsimp only;exact ⟨om,om,om,(by first|exact Fc E.1 hd om om|exact Fb E.1 hd om om)⟩
    exact Bh ((i - 1),(2*qq),(2*M))<|by dsimp only;exact ⟨om,om,om,(by first|exact Fc E.1 hd om om|exact Fb E.1 hd om om)⟩
   refine G.e (Ac c_ C C<|U9 qq om) ?_
   rintro _ _ ⟨_,_,⟨rfl,rfl⟩,rfl,rfl⟩
   refine Ge0 (Ba j4)<|Z ?_
   refine Gc0 (Ac c_ C C<|an8 (2*M) b)<|Z ?_
   refine Am C (λaa=>Z ?_)<|λaa=>Z ?_
   ·refine Gc0 (Ac c_ C C<|ax5 (2*M) b om) ?_
    refine Ge0 (Ba j4)<|Z ?_
    refine Gr (Ey (m:=qq) C C om om)<|Gf X6 C<|Ge0 (D5 J8)<|Z ?_
    exact Bh ((i - 1),(2*qq+1),((2*M) - b))<|by dsimp only;exact ⟨om,om,om,(by first|exact Fc E.1 hd om om|exact Fb E.1 hd om om)⟩
   exact Bh ((i - 1),(2*qq),(2*M))<|by dsimp only;exact ⟨om,om,om,(by first|exact Fc E.1 hd om om|exact Fb E.1 hd om om)⟩
  refine Au (d:=30) C (λae=>Z ?_)<|λae=>Z ?_
  ·refine e9 (C6 A7 Cs C om) (e9 (j0.gp6 (m:=a) C C om om)<|e9 (j0.gx5 (a:=a) (i:=i) C C om om)<|Z ?_)
   refine Am C (λad=>Z ?_)<|λad=>Z ?_
   ·refine Gr (Ey (m:=M) C C om om) (Gf X6 C<|Ge0 (D5 J8)<|Z ?_)
    refine G.e (Ac c_ C C<|U9 qq om) ?_
    rintro _ _ ⟨_,_,⟨rfl,rfl⟩,rfl,rfl⟩
    refine Ge0 (Ba j4)<|Z ?_
    refine Gc0 (Ac c_ C C<|an8 (2*M+1) b)<|Z ?_
    refine Am C (λaa=>Z ?_)<|λaa=>Z ?_
    ·refine Gc0 (Ac c_ C C<|ax5 (2*M+1) b om) ?_
     refine Ge0 (Ba j4)<|Z ?_
     refine Gr (Ey (m:=qq) C C om om)<|Gf X6 C<|Ge0 (D5 J8)<|Z ?_
     exact Bh ((i - 1),(2*qq+1),((2*M+1) - b))<|by dsimp only;exact ⟨om,om,om,(by first|exact Fc E.1 hd om om|exact Fb E.1 hd om om)⟩
    exact Bh ((i - 1),(2*qq),(2*M+1))<|by dsimp only;exact ⟨om,om,om,(by first|exact Fc E.1 hd om om|exact Fb E.1 hd om om)⟩
   refine G.e (Ac c_ C C<|U9 qq om) ?_
   rintro _ _ ⟨_,_,⟨rfl,rfl⟩,rfl,rfl⟩
   refine Ge0 (Ba j4)<|Z ?_
   refine Gc0 (Ac c_ C C<|an8 (2*M) b)<|Z ?_
   refine Am C (λaa=>Z ?_)<|λaa=>Z ?_
   ·refine Gc0 (Ac c_ C C<|ax5 (2*M) b om) ?_
    refine Ge0 (Ba j4)<|Z ?_
    refine Gr (Ey (m:=qq) C C om om)<|Gf X6 C<|Ge0 (D5 J8)<|Z ?_
    exact Bh ((i - 1),(2*qq+1),((2*M) - b))<|by dsimp only;exact ⟨om,om,om,(by first|exact Fc E.1 hd om om|exact Fb E.1 hd om om)⟩
   exact Bh ((i - 1),(2*qq),(2*M))<|by dsimp only;exact ⟨om,om,om,(by first|exact Fc E.1 hd om om|exact Fb E.1 hd om om)⟩
  refine G.e (Ac c_ C C<|U9 qq om) ?_
  rintro _ _ ⟨_,_,⟨rfl,rfl⟩,rfl,rfl⟩
  refine Ge0 (Ba j4)<|Z ?_
  refine Gc0 (Ac c_ C C<|an8 (2*M) b)<|Z ?_
  refine Am C (λaa=>Z ?_)<|λaa=>Z ?_
  ·refine Gc0 (Ac c_ C C<|ax5 (2*M) b om) ?_
   refine Ge0 (Ba j4)<|Z ?_
   refine Gr (Ey (m:=qq) C C om om)<|Gf X6 C<|Ge0 (D5 J8)<|Z ?_
   exact Bh ((i - 1),(2*qq+1),((2*M) - b))<|by dsimp only;exact ⟨om,om,om,(by first|exact Fc E.1 hd om om|exact Fb E.1 hd om om)⟩
  exact Bh ((i - 1),(2*qq),(2*M))<|by dsimp only;exact ⟨om,om,om,(by first|exact Fc E.1 hd om om|exact Fb E.1 hd om om)⟩
 refine A8 mixed<|Cf (e8 b6 [.int .u64 0,.int .u64 M] 177::e8 b5 [.int .u64 0,.int .u64 qq] 177::e8 b2 [.int .u64 0,.int .u64 b] 177::e8 b1 [.int .u64 0,.int .u64 a] 177::I) 2<|Z ?_
 refine Cg (rs:=[1,2]) kr C C<|Dk ?_<|Du ?_
 ·refine Sr C (Ch (vs:=[_,_]) j4) Ar ?_
  refine De kr ?_
  refine Ae 2 C (Ba j4) ?_
  rintro _ _ ⟨rfl,rfl⟩
  refine Ae 3 C (Ba j4) ?_
  rintro _ _ ⟨rfl,rfl⟩
  refine Df kr<|Z ?_
  obtain ⟨ah,ab⟩:=dw7 hd om hr.1 hr.2
  subst ah ab
  exact V.fg5 C j4 j4 C C mm mm C C I Af ⟨rfl,rfl⟩
 refine Se0 C (Ba j4) ?_
 refine Ds1 1<|Sr C (Ch (vs:=[_,_]) j4) Ar ?_
 refine Ds1 3<|Se0 C (Ba j4)<|Z ?_
 obtain ⟨ah,ab⟩:=dw7 hd om hr.1 hr.2
 subst ah ab
 exact V.fg5 C j4 j4 C C mm mm C C I Af ⟨rfl,rfl⟩
theorem fa5(a b:Int)(h0:0<=a/\a<=1152921504606846976)(h1:0<=b/\b<=1152921504606846976):er prog κ 159 [.agg #[.int .u64 0,.int .u64 a],.agg #[.int .u64 0,.int .u64 b]] I (λr J=>r = .agg #[.int .u64 0,.int .u64 (af8 a b)]/\I=J):=by
 refine Ce2 Tryz.func159 C C ?_
 refine Aj<|Ge1 (Ay (cs:=[_,_]) C C C) λb1=>Ge1 (Ay (cs:=[_,_]) C C C) λb2=>Ge1 (Ah j4 C) λb3=>Aq<|Ax<|A3<|Dl (σ:=Int×Int) (λ_=>[]) (λs=>[e8 b2 [.int .u64 0,.int .u64<|s.2] 177,e8 b1 [.int .u64 0,.int .u64<|s.1] 177]) (λs=>(0<=s.1/\s.1<=1152921504606846976)/\(0<=s.2/\s.2<=1152921504606846976)/\(af8 s.1 s.2=af8 a b)) (λs=>s.2.toNat) (a,b) ⟨om,om,rfl⟩ ?_
 rintro ⟨x,y⟩ hp
 dsimp only at hp ⊢
 obtain ⟨hx,hy,hg⟩:=hp
 refine Z ?_
 refine Gr (Dh (α:=Wd) (a:=(⟨0,y⟩:Wd)) (b:=(⟨0,0⟩:Wd)) cz1 C C)<|Aq<|Am C (λE=>Z ?_)<|λE=>Z ?_
 ·refine Gc0 (Ac c_ C C<|ax6 x y om<|by have:=mt bt3.2 E;omega) (Z ?_)
  refine Ge1 (Ah j4 C) λb4=>Ge1 (Ah j4 C) λb5=>Ge0 (Ba j4) ?_
  refine Ge0 (Ba j4)<|Z ?_
  refine A8 mixed<|Cf (e8 b5 [.int .u64 0,.int .u64<|x % y] 177::e8 b4 [.int .u64 0,.int .u64<|x / y] 177::e8 b3 [.int .u64 0,.int .u64 0] 177::I) 4<|Dr 1 C (Ch (vs:=[_,_]) j4) ?_
  refine Ds1 0<|Sr C (Ch (vs:=[_,_]) j4) Ar ?_
  refine Ds1 2<|Se0 C (Ba j4) ?_
  refine Ds1 3<|Se0 C (Ba j4)<|Z ?_
  have M:0<y:=by have:=mt bt3.2 E;omega
  have ad:=Int.emod_nonneg x (b:=y) om
  have ab:=Int.emod_lt_of_pos x (b:=y) M
  exact Bh ((y),(x % y))<|by dsimp only;exact ⟨om,om,((fk8 hx.1 M).trans hg)⟩
 refine Ge0 (Ba j4)<|Z ?_
 have aa:y=0:=bt3.1 (B_.1 E)
 subst aa
 have hE:x=af8 a b:=by rw [←hg,ce4 hx.1]
 subst hE
 exact Cv C j4 C mm C I Af ⟨rfl,rfl⟩
theorem di4(a b:Int)(h0:0<=a/\a<=1152921504606846976)(h1:0<b/\b<=1152921504606846976):er prog κ 247 [.bool false,.agg #[.int .u64 0,.int .u64 a],.agg #[.int .u64 0,.int .u64 b]] I (λr J=>r = .tuple #[.agg #[e7 (mkF a b).num,e7 (mkF a b).den],e7 0]/\I=J):=by
 refine Ce3 Tryz.func247 C C ?_
 refine Aj<|Ge1 (Ay (cs:=[_,_]) C C C) λb1=>Ge1 (Ay (cs:=[_,_]) C C C) λb2=>Ge1 (Ah P0 C) λb3=>Z ?_
 refine Gr (Fm (α:=Wd) (a:=(⟨0,a⟩:Wd)) (b:=(⟨0,0⟩:Wd)) cz1 C C)<|Aq<|Am C (λae=>Z ?_)<|λae=>Z ?_
 ·refine Ge0 (Ba P0) (Z ?_)
  have ai:a=0:=bt3.1 ae
  subst ai
  exact C7 C P0 C C mm C I Af ⟨by rw [bv5 h1.1];rfl,rfl⟩
 refine Gc0 (Ac c_ C C<|fa5 a b om om) ?_
 refine Ge1 (Ah j4 C) λb4=>Ge0 (Ba j4) ?_
 have ak:=at0 (a:=a) h1.1
 have aj:=dv2 (a:=a) h1.1
 have aa:=bg0 h0.1 h1.1
 have E:=bg1 (a:=a) h1.1
 unfold mkF at aa E
 dsimp only at aa E
 refine Z ?_
 refine Gc0 (Ac c_ C C<|ax6 a (af8 a b) om om)<|Z ?_
 refine Ge1 (Ah j4 C) λb5=>Ge1 (Ah j4 C) λb6=>Ge0 (Ba j4) ?_
 refine Ge0 (Ba j4)<|Z ?_
 refine Gc0 (Ac c_ C C<|ax6 b (af8 a b) om om)<|Z ?_
 refine Ge1 (Ah j4 C) λb7=>Ge1 (Ah j4 C) λb8=>Ge0 (Ba j4) ?_
 refine Ge0 (Ba j4)<|Z ?_
 refine Au (d:=36) C (λad=>?_)<|λad=>Z ?_
 ·exact absurd ad om
 refine Au (d:=41) C (λab=>?_)<|λab=>Z ?_
 ·exact absurd ab om
 refine Au (d:=46) C (λah=>?_)<|λah=>Z ?_
 ·exact absurd ah om
 refine Am C (λM=>?_)<|λM=>Z ?_
 ·exact absurd M om
 refine Gr (j0.dx9 Ce A7 C<|by unfold InR;omega)<|Z ?_
 refine Gr (j0.dx9 Ce A7 C<|by unfold InR;omega)<|Z ?_
 refine Ge1 (Ah P0 C) λb9=>Ge0 (Ba P0)<|Z ?_
 refine Ge0 (Ba P0) ?_
 exact Ga C<|Aq<|Bq<|C7 C P0 C C mm C I Af ⟨rfl,rfl⟩
theorem F2(n:Int)(h:0<=n/\n<=1152921504606846976):er prog κ 123 [e7 n] I (λr J=>r = .int .u64 n/\I=J):=by
 refine Ce1 Tryz.func123 C C<|Z ?_
 refine Am C (λM=>?_)<|λM=>Z ?_
 ·exact absurd M om
 exact Gr (C6 A7 Ce C om)<|Ga C<|Aq<|Bq<|Ak C C I Af ⟨rfl,rfl⟩
theorem fc2(a b:Int)(h0:0<=a/\a<=1152921504606846976)(h1:0<b/\b<=1152921504606846976):er prog κ 204 [e7 a,e7 b] I (λr J=>r = .tuple #[.agg #[e7 (mkF a b).num,e7 (mkF a b).den],e7 0]/\I=J):=by
 refine Ce2 Tryz.func204 C C ?_
 refine Aj<|Ge1 (Ah P0 C) λb1=>Z ?_
 refine Am C (λE=>?_)<|λE=>Z ?_
 ·exact absurd E om
 refine Gr (Fj Ct C C) ?_
 have M:decide (decide (a<0)≠decide (b<0))=false:=by rw [E_ (show ¬a<0 by omega),E_ (show ¬b<0 by omega)];rfl
 rw [M]
 refine Gm C<|Gc0 (Ac c_ C C<|F2 a om)<|Z ?_
 refine Gc0 (Ac c_ C C<|F2 b om)<|Z ?_
 refine Gc0 (Ac c_ C C<|di4 a b om om)<|Z ?_
 refine Ge0 (Ba P0)<|Z ?_
 exact C7 C P0 C C mm C I Af ⟨rfl,rfl⟩
theorem db0(a b:Int)(h0:0<=a/\a<=1152921504606846976)(E:0<b/\b<=1152921504606846976):er prog κ 128 [e7 a,e7 b] I (λr J=>r = .agg #[e7 (mkF a b).num,e7 (mkF a b).den]/\I=J):=by
 refine Ce2 Tryz.func128 C C ?_
 refine Aj<|Ge1 (Ah P0 C) λb1=>Z ?_
 refine Gc0 (Ac c_ C C<|fc2 a b om om)<|Z ?_
 refine Ge1 (Ah P0 C) λM=>Ge0 (Ba P0)<|Z ?_
 refine Ge0 (Ba P0) ?_
 exact Aq<|Bq<|Cv C P0 C mm C I Af ⟨rfl,rfl⟩
variable {κ:Ctx}{I:List Item}
def bm4(nd:Int)(es:List Pt)(v:Int):BitVec 64:=if v<0\/((ek nd es).length:Int)<=v\/p9 nd es≠0 then 0#64 else e_ (ek nd es) v
def nbL(es:List Pt)(v:Int):List Int:=es.flatMap λe=>(if e.u=v then [e.v] else [])++(if e.v=v then [e.u] else [])
theorem ba8{k:Nat}(h:k<es.length)(v:Int):nbL (es.take (k+1)) v=nbL (es.take k) v++((if (e_ es k).u=v then [(e_ es k).v] else [])++(if (e_ es k).v=v then [(e_ es k).u] else [])):=by
 unfold nbL;rw [Cn es k h,Md];simp
theorem cn8{x:Int}:x∈nbL es v↔(⟨v,x⟩:Pt)∈es\/(⟨x,v⟩:Pt)∈es:=by
 unfold nbL
 rw [L_]
 constructor
 ·rintro ⟨⟨a,b⟩,M,E⟩
  rcases Gu.1 E with h|h
  ·split at h
   ·rename_i h1;simp only [Gj] at h;simp only at h1;subst h h1;exact .inl M
   simp at h
  split at h
  ·rename_i h1;simp only [Gj] at h;simp only at h1;subst h h1;exact .inr M
  simp at h
 rintro (h|h)
 ·exact ⟨_,h,by simp⟩
 exact ⟨_,h,by simp⟩
def nbG(nd:Int)(es:List Pt)(v:Int):List Int:=if p9 nd es≠0 then [] else ofL (nbL es v)
theorem fh9(nd:Int)(es:List Pt)(v:Int):em (bm4 nd es v)=nbG nd es v:=by
 by_cases hc:p9 nd es≠0
 ·unfold bm4 nbG;rw [By (.inr<|.inr hc),By hc,C5]
 have M:=j6.1 (B_.1 hc)
 have hr:=M.rng
 have hl:=M.rows.len
 unfold nbG
 rw [An hc]
 refine aj3.uniq (T1 _) (Y7 _) λx=>?_
 rw [Cz,af4,cn8]
 by_cases hv:v<0\/((ek nd es).length:Int)<=v
 ·have E:bm4 nd es v=0#64:=By om
  rw [E]
  simp only [BitVec.getLsbD_zero,Mh,and_false,false_iff]
  rintro (h|h)
  ·have:=M.ad7 _ h;simp only at this;omega
  have:=M.ad7 _ h;simp only at this;omega
 have E:bm4 nd es v=e_ (ek nd es) v:=An om
 rw [E]
 by_cases hx:0<=x/\x<64
 ·rw [M.rows.bit v x om om hx.1 hx.2,Gn]
  exact ⟨λh=>h.2,λh=>⟨hx.1,h⟩⟩
 constructor
 ·rintro ⟨h1,h2⟩
  rw [Jn _ _ om] at h2
  exact absurd h2 dc
 rintro (h|h)
 ·have:=M.ad7 _ h;simp only at this;omega
 have:=M.ad7 _ h;simp only at this;omega
theorem ap6(nd:Int)(es:List Pt)(v:Int):(nbG nd es v).length<=64:=by rw [←fh9];exact Ee _
theorem du0(a b:BitVec 64):em (a &&& b)=N5 (em a) (em b):=by
 refine aj3.uniq (T1 _) ((Y7 _).sublist Jo) λx=>?_
 rw [P4,Cz,Cz,Cz,Hm,Hi]
 exact ⟨λh=>⟨⟨h.1,h.2.1⟩,h.1,h.2.2⟩,λh=>⟨h.1.1,h.1.2,h.2.2⟩⟩
def s3(nd:Int)(es:List Pt)(u v:Int):List Int:=if u=v then [] else N5 (nbG nd es u) (nbG nd es v)
theorem bi3{u:Int}(h:u≠v):em (bm4 nd es u &&& bm4 nd es v)=s3 nd es u v:=by
 unfold s3;rw [An h,du0,fh9,fh9]
def go9(nd:Int)(es:List Pt)(u v y:Int):Prop:=(p9 nd es=0/\∃j:Nat,y=(j:Int)/\j<es.length/\e_ es j=F7 u v)\/(y = -1/\(p9 nd es≠0\/F7 u v∉es))
def fe5(nd:Int)(es:List Pt)(set:List Int):List Pt:=if p9 nd es≠0 then [] else aq0 set es
def gs6(nd:Int)(es:List Pt):Int:=if p9 nd es≠0 then 0 else nd
theorem fk2(nd:Int)(es:List Pt)(set:List Int):(fe5 nd es set).length=M9 nd es set:=by
 unfold fe5 M9;split<;>rfl
theorem fk1(set:List Int)(h:¬p9 nd es≠0):fe5 nd es set=es.filter λe=>decide (e.u∈set/\e.v∈set):=by
 unfold fe5;rw [An h];exact bp5 set (j6.1<|B_.1 h)
theorem gc0:∀n:Fin 65,∀i:Fin 64,(K2 (n.val:Int)).getLsbD i.val=decide (i.val<n.val):=by decide+kernel
theorem K1{n:Int}(E:0<=n)(M:n<=64){i:Nat}(hi:i<64):(K2 n).getLsbD i=decide ((i:Int)<n):=by
 have:=gc0 ⟨n.toNat,by omega⟩ ⟨i,hi⟩
 simp only [show ((n.toNat:Nat):Int)=n by omega] at this
 rw [this,Fy];omega
theorem fi3(set:List Int)(h0:0<=nd)(E:nd<=64):em (z7 set &&& K2 nd)=N5 set (K4 nd):=by
 refine aj3.uniq (T1 _) ((Y7 _).sublist Jo) λx=>?_
 rw [P4,Cz,U2,Hm,Hi]
 by_cases hx:0<=x/\x<64
 ·rw [K1 h0 E om,Gn,show (z7 set).getLsbD x.toNat=decide (x∈set) by unfold z7;rw [aa6 om,show ((x.toNat:Nat):Int)=x by omega];simp,Gn]
  exact ⟨λh=>⟨h.2.1,h.1,by omega,by omega⟩,λh=>⟨h.2.1,h.1,by omega⟩⟩
 constructor
 ·rintro ⟨E,M,_⟩
  rw [Jn _ _ om] at M
  exact absurd M dc
 rintro ⟨_,h⟩;omega
theorem bq6(set:List Int)(h:¬p9 nd es≠0):X4 (z7 set &&& K2 nd)=((N5 set (K4 nd)).length:Int):=by
 have M:=(j6.1<|B_.1 h).rng
 rw [cv5,fi3 set M.1 M.2]
theorem dw9(h:¬p9 nd es≠0)(hm:(N5 set (K4 nd)).length=0):M9 nd es set=0:=by
 have M:=j6.1 (B_.1 h)
 have hr:=M.rng
 rw [df8 M,Kr,Jc]
 intro e he E
 simp only [Gn] at E
 have h1:=M.ad7 e he
 have:e.u∈N5 set (K4 nd):=P4.2 ⟨E.1,U2.2 ⟨by omega,by omega,by omega⟩⟩
 rw [Kr.1 hm] at this
 exact absurd this Hy
def Z6(nd:Int)(es:List Pt)(set:List Int):Fr:=if p9 nd es≠0 then ⟨0,0⟩ else if (N5 set (K4 nd)).length=0 then ⟨0,1⟩ else mkF ((M9 nd es set:Nat):Int) (((N5 set (K4 nd)).length:Nat):Int)
theorem dg8(set:List Int)(h:¬p9 nd es≠0):mkF ((M9 nd es set:Nat):Int) (if X4 (z7 set &&& K2 nd)<1 then 1 else X4 (z7 set &&& K2 nd))=Z6 nd es set:=by
 unfold Z6
 rw [An h,bq6 set h]
 by_cases hm:(N5 set<|K4 nd).length=0
 ·rw [By hm,dw9 h hm,By om];exact bv5 dc
 rw [An hm,An om]
theorem db7(hl:Sl κ I va es)(v:Int):er prog κ 333 [.agg #[e7 nd,va],e7 v] I (λr J=>r=U64 (bm4 nd es v)/\I=J):=by
 refine Ce2 Tryz.func333 C C ?_
 refine Aj<|Ge1 (Ay (cs:=[_,_]) C C C) λb1=>Z ?_
 refine G.e (Ac c_ C C<|bz4 (nd:=nd)<|Bc hl) ?_
 rintro _ _ ⟨_,_,⟨ae,ad,rfl,rfl⟩,rfl,rfl⟩
 have M:=ad1 nd es
 refine Z ?_
 refine Au (d:=10) C (λaa=>Z ?_)<|λaa=>Z ?_
 ·exact Ak C C I Af ⟨by rw [show bm4 nd es v=0#64 from By om];rfl,rfl⟩
 refine Au (d:=16) C (λab=>Z ?_)<|λab=>Z ?_
 ·exact Ak C C I Af ⟨by rw [show bm4 nd es v=0#64 from By om];rfl,rfl⟩
 refine D0 (B9 C C C) (Ac c_ C C<|M1<|Bc hl) ?_
 rintro _ _ ⟨_,_,⟨rfl,rfl⟩,rfl,rfl⟩
 refine Z ?_
 refine Am C (λE=>Z ?_)<|λE=>Z ?_
 ·exact Ak C C I Af ⟨by rw [show bm4 nd es v=0#64 from By om];rfl,rfl⟩
 exact Ak C C I Af ⟨by rw [show bm4 nd es v=e_ (ek nd es) v from An om],rfl⟩
theorem dm5(hl:Sl κ I va es)(u v:Int)(hT:P6 κ I 0 F3):er prog κ 314 [.agg #[e7 nd,va],e7 u,e7 v] I (λr J=>∃a c,r = .slice a (s3 nd es u v).length c/\J=vq 3 a c (s3 nd es u v)::I):=by
 refine Ce3 Tryz.func314 C C ?_
 refine Aj<|Ge1 (Ay (cs:=[_,_]) C C C) λb1=>Z ?_
 refine Am C (λc9=>Z ?_)<|λc9=>Z ?_
 ·have hX:(s3 nd es u v)=[]:=By c9
  exact Ak C C (vq 3 none 0 (s3 nd es u v)::I) (by unfold vq;rw [hX];exact Bz (show Fit κ _ I from Af)<|Bb (α:=Int) _ _) ⟨none,0,by rw [hX];rfl,rfl⟩
 refine A8 mixed<|C1 9<|Z ?_
 refine Ds1 2<|Se C (Ac c_ C C<|db7 (nd:=nd) (Bc hl) u) ?_
 rintro _ _ ⟨_,_,⟨rfl,rfl⟩,rfl,rfl⟩
 refine ⟨Ar,?_⟩
 refine Ds1 5<|Se C (Ac c_ C C<|db7 (nd:=nd) (Bc hl) v) ?_
 rintro _ _ ⟨_,_,⟨rfl,rfl⟩,rfl,rfl⟩
 refine ⟨Ar,?_⟩
 refine Dr 6 C (C4 (a:=bm4 nd es u) (b:=bm4 nd es v) C C)<|Ds1 7<|Sc2 C (Ac c_ C C<|au5 ((bm4 nd es u) &&& (bm4 nd es v))<|Cb hT Af) λE M=>Z ?_
 have hX:(s3 nd es u v)=_:=(bi3 c9).symm
 exact Ak C C (vq 3 E M (s3 nd es u v)::I) (by unfold vq;rw [hX];exact Ar) ⟨E,M,by rw [hX],rfl⟩
theorem cr9(hl:Sl κ I va es)(hs:Sl κ I vb set)(hb:es.length<=1000000):er prog κ 147 [.agg #[e7 nd,va],vb] I (λr J=>r = .tuple #[.agg #[e7 (Z6 nd es set).num,e7 (Z6 nd es set).den],e7 (p9 nd es)]/\I=J):=by
 refine Ce2 Tryz.func147 C C ?_
 refine Aj<|Ge1 (Ay (cs:=[_,_]) C C C) λb1=>Ge1 (Ah P0 C) λb2=>Z ?_
 refine Gc0 (Ac c_ C C<|M1<|Bc hl)<|Z ?_
 refine Am C (λc11=>Z ?_)<|λc11=>Z ?_
 ·refine Ge0 (Ba P0) (Z ?_)
  have M:(Z6 nd es set)=⟨0,0⟩:=By c11
  exact C7 C P0 C C mm C I Af ⟨by first|(rw [M];done)|(rw [M];rfl),rfl⟩
 refine A8 mixed<|C1 8<|Z ?_
 refine Ds1 1<|Sc0 C (Ac c_ C C<|au4<|Bc hs) ?_
 refine Ds1 4<|Sc0 C (Ac c_ C C<|R2 nd) ?_
 refine Dr 5 C (C4 (a:=z7 set) (b:=K2 nd) C C)<|Ds1 6<|Sc0 C (Ac c_ C C<|cj2<|(z7 set) &&& (K2 nd))<|Z ?_
 refine Gc0 (Ac c_ C C<|dk7 (nd:=nd) (Bc hl) (Bc hs) om) ?_
 have E:=aw2 nd es set
 refine Z ?_
 refine Gc0 (Ac c_ C C<|db2 ((M9 nd es set:Nat):Int) (if (X4<|(z7 set) &&& (K2 nd))<1 then 1 else (X4<|(z7 set) &&& (K2 nd))) om<|by have:=cv6 (z7 set &&& K2 nd);split<;>omega)<|Z ?_
 refine Ge0 (Ba P0)<|Z ?_
 have M:=dg8 (nd:=nd) (es:=es) set c11
 have hz:p9 nd es=0:=B_.1 c11
 exact C7 C P0 C C mm C I Af ⟨by first|(rw [←M,hz];done)|(rw [←M,hz];rfl),rfl⟩
variable {κ:Ctx}{I:List Item}
theorem fo5(h:0<=nd/\nd<=64)(i:Nat)(hi:(K2 nd).getLsbD i=true):i<(ek nd es).length:=by
 have M:i<64:=Gg λhn=>by rw [Jn _ _ om] at hi;cases hi
 rw [K1 h.1 h.2 M,Gn] at hi
 rw [ad1];omega
theorem cg9(m:BitVec 64)(h:0<=nd/\nd<=64)(i:Nat)(hi:(m &&& K2 nd).getLsbD i=true):i<(ek nd es).length:=by
 rw [Hm,Hi] at hi;exact fo5 h i hi.2
theorem fc3{rows:List (BitVec 64)}(hl:Sl κ I va rows)(f w:BitVec 64)(hw:∀i:Nat,w.getLsbD i=true->i<rows.length)(hT:P6 κ I 0 F3):er prog κ 197 [va,U64 f,U64 w] I (λr J=>r=U64 (ad2 rows f w)/\I=J):=by
 refine Ce3 Tryz.func197 C C<|Z ?_
 refine Gr (C4 (a:=f) (b:=w) C C)<|Z ?_
 refine Dl (σ:=(BitVec 64)×(BitVec 64)) (λs=>[(1,U64<|s.2),(7,U64<|s.1)]) (λ_=>[]) (λs=>(ac2 rows f w s.1 s.2)) (λs=>cc4 w s.1 s.2) (f &&& w,f &&& w) .begin ?_
 rintro ⟨M,frm⟩ hp
 dsimp only at hp ⊢
 have hR:=hp
 refine Ax<|Aj<|Gm C<|Gr (E3 (a:=M) (b:=0#64) C C)<|Aq<|Am C (λE=>Z ?_)<|λE=>Z ?_
 ·refine Gc0 (Ac c_ C C<|db3 M<|Cb hT Af) (Z ?_)
  have aa:=do0 E
  have ab:=hw _ (hR.sub _<|hR.gt1 _ aa.2.2)
  refine Z ?_
  refine Gr (j0.gr1 (a:=M) (b:=1#64) C C)<|Gr (C4 (a:=M) (b:=M - (1#64)) C C)<|Z ?_
  refine Gr (C4 (a:=(e_ rows<|tzB M)) (b:=w) C C)<|Gm C<|Gr (Ew (a:=(e_ rows<|tzB M) &&& w) (b:=frm) C C)<|Z ?_
  refine Gr (Fh (a:=frm) (b:=((e_ rows<|tzB M) &&& w) &&& ~~~frm) C C)<|Z ?_
  exact Gr (Fh (a:=M &&& (M - (1#64))) (b:=((e_ rows<|tzB M) &&& w) &&& ~~~frm) C C)<|Ga C<|Bl<|Ap<|Bh (((M &&& (M - (1#64))) ||| (((e_ rows<|tzB M) &&& w) &&& ~~~frm)),(frm ||| (((e_ rows<|tzB M) &&& w) &&& ~~~frm))) (by dsimp only;exact (hR.step E).1) (hlt:=by (try dsimp only);exact (hR.step E).2)
 have hz:M=0#64:=B_.1 E
 subst hz
 exact Ak C C I Af ⟨by rw [hR.eq],rfl⟩
def bm5(nd:Int)(es:List Pt)(frm set:List Int):List Int:=if p9 nd es≠0 then [] else em (ad2 (ek nd es) (z7 frm) (z7 set &&& K2 nd))
theorem fd9{vd:Value}{frm:List Int}(hl:Sl κ I va es)(hf:Sl κ I vb frm)(hs:Sl κ I vd set)(hT:P6 κ I 0 F3):er prog κ 110 [.agg #[e7 nd,va],vb,vd] I (λr J=>∃a c,r = .tuple #[.slice a (bm5 nd es frm set).length c,e7 (p9 nd es)]/\J=vq 3 a c (bm5 nd es frm set)::I):=by
 refine Ce3 Tryz.func110 C C ?_
 refine Aj<|Ge1 (Ay (cs:=[_,_]) C C C) λb1=>Z ?_
 refine Gc0 (Ac c_ C C<|M1<|Bc hl)<|Z ?_
 refine Am C (λc12=>Z ?_)<|λc12=>Z ?_
 ·have M:(bm5 nd es frm set)=[]:=By c12
  exact B5 C C C (vq 3 none 0 (bm5 nd es frm set)::I) (by unfold vq;rw [M];exact Bz (show Fit κ _ I from Af)<|Bb (α:=Int) _ _) ⟨none,0,by rw [M];rfl,rfl⟩
 refine A8 mixed<|C1 14<|Z ?_
 refine Ds1 1<|Se C (Ac c_ C C<|bz4 (nd:=nd)<|Bc hl) ?_
 rintro _ _ ⟨_,_,⟨ae,ad,rfl,rfl⟩,rfl,rfl⟩
 refine ⟨Ar,?_⟩
 have ab:=ad1 nd es
 refine Ds1 3<|Sc0 C (Ac c_ C C<|au4<|Bc hf) ?_
 refine Ds1 5<|Sc0 C (Ac c_ C C<|au4<|Bc hs) ?_
 refine Ds1 8<|Sc0 C (Ac c_ C C<|R2 nd) ?_
 refine Dr 9 C (C4 (a:=z7 set) (b:=K2 nd) C C)<|Ds1 10<|Se C (Ac c_ C C<|fc3 A6 (z7 frm) ((z7 set) &&& (K2 nd)) (cg9 _ (j6.1<|B_.1 c12).rng)<|Cb hT Af) ?_
 rintro _ _ ⟨_,_,⟨rfl,rfl⟩,rfl,rfl⟩
 refine ⟨Ar,?_⟩
 refine Ds1 11<|Sc2 C (Ac c_ C C<|au5 (ad2 (ek nd es) (z7 frm)<|(z7 set) &&& (K2 nd))<|Cb hT Af) λaa E=>Z ?_
 have M:(bm5 nd es frm set)=_:=An c12
 have hz:p9 nd es=0:=B_.1 c12
 exact B5 C C C (vq 3 aa E (bm5 nd es frm set)::I) (by unfold vq;rw [M];exact Ar) ⟨aa,E,by rw [M,hz],rfl⟩
end Go.Sl
