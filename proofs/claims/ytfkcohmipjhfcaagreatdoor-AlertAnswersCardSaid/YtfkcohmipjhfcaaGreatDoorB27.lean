/- A part of the proofs of statements of this seat: contracts of functions, and the plain laws that they lean on. No conditions. -/
import Derived.Test.YtfkcohmipjhfcaaGreatDoorB26
set_option linter.unusedVariables false
set_option linter.unusedSimpArgs false
set_option linter.unusedSectionVars false
open Go.Proofs.Tryz (prog)
open List (replicate)
set_option maxHeartbeats 2000000
namespace Go.Sl
open Go.Proofs
set_option maxRecDepth 4000
variable {κ:Ctx}{I:List Item}
attribute [local irreducible] W G V D A j0 Eff
def alR(als:List AlV):List (ah9 Int):=als.map λx=>⟨x.a,x.c,x.xs⟩
theorem fo6(als:List AlV)(x:AlV):alR (als++[x])=alR als++[(⟨x.a,x.c,x.xs⟩:ah9 Int)]:=by unfold alR;rw [Jb];rfl
theorem da5{als:List AlV}:∀x∈als,Sl κ (ba7 3 (alR als)++I) (.slice x.a x.xs.length x.c) x.xs:=λx M=>Ed (Js _ (Ha.2 ⟨⟨x.a,x.c,x.xs⟩,Ha.2 ⟨x,M,rfl⟩,rfl⟩))
theorem cr2{b:Nat}{lv:Value}{ls:List Int}{i nodes:Int}(hl:Sl κ I lv ls)(h0:0<=i)(hn:1<=nodes/\nodes<=64):er prog κ 22 [(pt b),e7 nodes] (e8 b [lv,e7 i] 125::I) (λr J=>∃a c als q,r = .slice a als.length c/\(∀x∈als,bz9 nodes x)/\als.length<=4/\0<=q/\J=vq 42 a c als::(ba7 3 (alR als)++(R5 b lv q::I))):=by
 refine Ce2 Tryz.func22 C C<|Z ?_
 refine G.e (Ac c_ C C<|F5 ta0 (Bc hl) om om) ?_
 rintro _ _ ⟨_,_,⟨x1,i2,rfl,ak,an,rfl⟩,rfl,rfl⟩
 show G prog κ _ _ _ _ ([(8,e7 x1),(7,pt b),(5,.slice none 0 0),(4,.slice none 0 0),(0,pt b),(1,e7 nodes)]:Env) (e8 b [lv,e7 i2] 125::I)
 refine Ga C<|Aq<|A3<|B4 (σ:=(Option Addr)×Nat×(List AlV)×Int×Int) (λs=>([(0,pt b),(1,e7 nodes),(5,.slice s.1 s.2.2.1.length s.2.1),(6,e7<|s.2.2.2.2)]:Env)) (λs=>vq 42 s.1 s.2.1 s.2.2.1::e8 b [lv,e7<|s.2.2.2.1] 125::(ba7 3 (alR s.2.2.1)++I)) (λs=>(∀x∈s.2.2.1,bz9 nodes x)/\(0<=s.2.2.2.2/\(s.2.2.1.length:Int)+s.2.2.2.2<=4)/\(0<=s.2.2.2.1)) (λs=>s.2.2.2.2.toNat) (none,0,[],i2,x1) (show (∀x∈([]:List AlV),bz9 nodes x)/\(0<=(x1:Int)/\(([]:List AlV).length:Int)+(x1:Int)<=4)/\(0<=(i2:Int)) from ⟨(λx hx=>by cases hx),ta8,om⟩) (cx2<|Aa (Da C<|by first|rfl|simp)<|Aa Co A9) (show Fit κ _ (vq 42 none 0 ([])::e8 b [lv,e7<|(i2)] 125::(ba7 3 (alR<|[])++I)) from (Bb _ _)) ?_
 rintro ⟨a,c,out,iq,kq⟩ hp
 dsimp only at hp ⊢
 obtain ⟨ae,ao,ai⟩:=hp
 refine Z ?_
 refine Am C (λc10=>Z ?_)<|λc10=>Z ?_
 ·refine G.e (Ac c_ C C<|bs9 ta0 (λ_=>Bs hl Af) om  om) ?_
  rintro _ _ ⟨_,_,⟨⟨M,i4⟩,⟨⟨rfl,aa,ah⟩,ad⟩,rfl⟩,rfl,rfl⟩
  show G prog κ _ _ _ _ ([(16,.agg #[e7 (M.kd),e7<|M.no,e7<|M.lv,.slice M.a M.xs.length M.c,e7<|M.num,e7<|M.den]),(15,e7 nodes),(14,pt b),(13,.slice a out.length c),(10,.bool<|decide<|0<kq),(9,e7 kq),(0,pt b),(1,e7 nodes),(5,.slice a out.length c),(6,e7 kq)]:Env) (vq 3 M.a M.c M.xs::vq 42 a c out::e8 b [lv,e7 i4] 125::(ba7 3 (alR out)++I))
  have ad:0<=i4:=ad
  refine Ge1 (Bt (α:=AlV) (cs:=[e7 (M.kd),e7<|M.no,e7<|M.lv,.slice M.a M.xs.length M.c,e7<|M.num,e7<|M.den]) (xs:=[⟨M.kd,M.no,M.lv,M.a,M.c,M.xs,M.num,M.den⟩]) Be P1 C C dc dc C kr C C) λaj=>?_
  refine Ge2 (Bv (α:=AlV) (e:=42) (xs:=out) (ys:=([⟨M.kd,M.no,M.lv,M.a,M.c,M.xs,M.num,M.den⟩]:List AlV)) Be P1 C C C mm A6 lcn dc C<|λ_ _=>am) λab E=>Z ?_
  exact Bh ((ab),(E),(out++[M]),(i4),(kq - 1)) (by dsimp only;exact ⟨(λx hx=>(Gu.1 hx).elim (ae x) (λh=>by rw [Gj.1 h];exact aa)),lap,om⟩) (hI:=by (try dsimp only);exact (by rw [fo6];exact Bz (show Fit κ _ ([vq 42 ab E (out++([⟨M.kd,M.no,M.lv,M.a,M.c,M.xs,M.num,M.den⟩]:List AlV)),e8 b [lv,e7 i4] 125]++vq 3 M.a M.c M.xs::(ba7 3 (alR out)++I)) from Bi)<|Fit.dq5 (A:=[vq 42 ab E (out++([⟨M.kd,M.no,M.lv,M.a,M.c,M.xs,M.num,M.den⟩]:List AlV)),e8 b [lv,e7 i4] 125]) (e:=3) (rs:=alR out) (r:=(⟨M.a,M.c,M.xs⟩:ah9 Int))))
 exact Ak C C (vq 42 a c out::(ba7 3 (alR out)++(e8 b [lv,e7 iq] 125::I))) (Fit.perm<|List.Perm.cons _<|bf7 (A:=[e8 b [lv,e7 iq] 125]) (L:=ba7 3 (alR out)) (T:=I)) ⟨a,c,out,iq,rfl,ae,by omega,by omega,rfl⟩
end Go.Sl
namespace Go.Sl
open Go.Proofs
set_option maxRecDepth 4000
end Go.Sl
namespace Go.Sl
open Go.Proofs
set_option maxRecDepth 4000
variable{T kd mo nd wd:Int}{es:List Ev}{M va:Value}{k n:Nat}{R:List Rg}
variable {κ:Ctx}{I:List Item}
attribute [local irreducible] W G V D A j0 Eff
theorem gf6:ofL ([0]++P2 kd wd mo es)=j5 kd wd mo es:=by
 unfold j5
 refine aj3.uniq (Y7 _) (bc3 _) λx=>?_
 rw [af4,af6]
 unfold P2 ay0
 rw [Gu,af4]
 simp only [Gh,Hy,Kx]
theorem cs4(hl:Sl κ I va es):er prog κ 86 [e7 nd,va] I (λr J=>r=e7 (q8 nd es)/\I=J):=by
 refine Bm hl.le λaj=>?_
 refine Ce2 Tryz.func86 C C<|Z ?_
 refine Au (d:=10) C (λaa=>Z ?_)<|λaa=>Z ?_
 ·exact Ak C C I Af ⟨by rw [show q8 nd es=1 from ta6],rfl⟩
 refine Am C (λc13=>Z ?_)<|λc13=>Z ?_
 ·exact Ak C C I Af ⟨by rw [show q8 nd es=1 from ta6],rfl⟩
 refine Am C (λai=>Z ?_)<|λai=>Z ?_
 ·exact Ak C C I Af ⟨by rw [show q8 nd es=3 from (by unfold q8;rw [An om,By om])],rfl⟩
 refine Dl (σ:=Nat) (λs=>[(19,e7 ((s:Nat):Int))]) (λ_=>[]) (λs=>(s<=es.length)/\(q8 nd es=K5 nd (G3 es s) (es.drop s))) (λs=>es.length - s) 0 (show ((0:Nat)<=es.length)/\(q8 nd es=K5 nd (G3 es (0:Nat)) (es.drop (0:Nat))) from ⟨om,(by unfold q8;rw [An om,An om];rfl)⟩) ?_
 rintro k hp
 obtain ⟨hk,hs⟩:=hp
 refine Z ?_
 refine Am C (λE=>Z ?_)<|λE=>Z ?_
 ·refine Ge1 (Ah j7 C) λb1=>Ga C (Ge0 (Fa j7)<|Z ?_)
  refine Gc0 (Ac c_ C C<|ao1<|e_ es k)<|Z ?_
  refine Am C (λM=>Z ?_)<|λM=>Z ?_
  ·exact Ak C C I Af ⟨by rw [show q8 nd es=s7 (e_ es k) from (hs.trans<|(L7 om<|by rw [bb7 M];exact M).trans (bb7 M))],rfl⟩
  refine Au (d:=33) C (λah=>Z ?_)<|λah=>Z ?_
  ·exact Ak C C I Af ⟨by rw [show q8 nd es=6 from (hs.trans<|(L7 om<|by unfold ae5;rw [An M,By om];decide).trans (by unfold ae5;rw [An M,By om]))],rfl⟩
  refine Am C (λad=>Z ?_)<|λad=>?_
  ·exact Ak C C I Af ⟨by rw [show q8 nd es=6 from (hs.trans<|(L7 om<|by unfold ae5;rw [An M,By om];decide).trans (by unfold ae5;rw [An M,By om]))],rfl⟩
  refine A4<|Al<|Ax<|A8 mixed<|Cf (e8 b1 (ye (e_ es k)) 108::I) 13<|Z ?_
  refine Cw (d:=41) C (λae=>Z ?_)<|λae=>?_
  ·refine Am C (λab=>Z ?_) (λab=>Z ?_)
   ·exact Ak C C I Af ⟨by rw [show q8 nd es=9 from (hs.trans<|ab6 om (by unfold ae5;rw [An M,An om])<|by unfold G3;rw [An om];omega)],rfl⟩
   exact Bh ((k+1)) ⟨om,(hs.trans<|Q7 om (by unfold ae5;rw [An M,An om])<|by have hf:=(X2.1 (show ae5 nd (e_ es k)=0 by unfold ae5;rw [An M,An om])).tm;unfold G3;split<;>omega)⟩
  refine Dpo 3 C<|Z ?_
  exact Bh ((k+1)) ⟨om,(hs.trans<|Q7 om (by unfold ae5;rw [An M,An om])<|by have hf:=(X2.1 (show ae5 nd (e_ es k)=0 by unfold ae5;rw [An M,An om])).tm;unfold G3;split<;>omega)⟩
 exact Ak C C I Af ⟨by rw [show q8 nd es=0 from (hs.trans<|ae8 om)],rfl⟩
theorem ch1{ea aa:Option Addr}{ec ac:Nat}{als:List AlV}(hl:Sl κ I (.slice ea es.length ec) es)(ha:Sl κ I (.slice aa als.length ac) als)(a9:∀x∈als,Sl κ I (.slice x.a x.xs.length x.c) x.xs)(hlen:es.length<=19)(h7:nd<=7):er prog κ 31 [e7 nd,.slice ea es.length ec,.agg #[e7 kd,e7 wd,e7 mo],.slice aa als.length ac] I (λr J=>∃a c,r = .tuple #[.slice a (ap2 nd kd wd mo es als).length c,e7 (au9 nd kd wd mo es als)]/\J=vq 44 a c (ap2 nd kd wd mo es als)::I):=by
 refine Bm hl.le λbp=>?_
 refine Bm ha.le λbc=>?_
 refine Ce4 Tryz.func31 C C ?_
 refine Aj<|Ge1 (Ay (cs:=[_,_,_]) C C C) λb1=>Ga C<|Ga C<|Aq<|Ax<|Aj<|Gl3 ah8 ?_
 refine Gc0 (Ac c_ C C<|ae2 kd wd mo) ?_
 refine Ga C<|Aq<|Aj<|Gm C<|Gr (Cu C C)<|Aq<|Am C (λan=>?_)<|λan=>?_
 ·refine Aj (Gm C<|Ga C<|Ga C<|Aq<|A0 (S2 9 8)<|Bq<|Az ?_)
  have he:au9 nd kd wd mo es als=r7 kd wd mo:=fs8 an
  have hr:ap2 nd kd wd mo es als=[]:=ai1 (by rw [he];exact an)
  exact B5 C C C (vq 44 none 0 (ap2 nd kd wd mo es als)::I) (by unfold vq;rw [hr];exact Bz (Bb (α:=Rg) _ _) Bi) ⟨none,0,by rw [hr,he]<;>rfl,rfl⟩
 refine A4<|Al<|Ax<|Aj<|Gm C<|Gm C<|G.e (Ac c_ C C<|cs4 (nd:=nd)<|Bc hl) ?_
 rintro _ _ ⟨_,_,⟨rfl,rfl⟩,rfl,rfl⟩
 refine Ga C<|Aq<|A0 (S5 11 6 0 1 3)<|Aj<|Gm C<|Gr (Cu C C)<|Aq<|Am C (λap=>?_)<|λap=>?_
 ·refine Aj (Gm C<|Ga C<|Ga C<|Aq<|Bq<|Az ?_)
  have he:au9 nd kd wd mo es als=q8 nd es:=fs9 an ap
  have hr:ap2 nd kd wd mo es als=[]:=ai1 (by rw [he];exact ap)
  exact B5 C C C (vq 44 none 0 (ap2 nd kd wd mo es als)::I) (by unfold vq;rw [hr];exact Bz (Bb (α:=Rg) _ _) Bi) ⟨none,0,by rw [hr,he]<;>rfl,rfl⟩
 refine A4<|Al<|Ax<|Aj<|Gm C<|Gr (Bj Be C)<|Gr (Cl C C)<|Aq<|Am C (λbf=>?_)<|λbf=>?_
 ·refine Aj (Ga C<|Ga C<|Aq<|Bq<|Az ?_)
  have he:au9 nd kd wd mo es als=3:=ft0 an ap om
  have hr:ap2 nd kd wd mo es als=[]:=ai1 (by rw [he];decide)
  exact B5 C C C (vq 44 none 0 (ap2 nd kd wd mo es als)::I) (by unfold vq;rw [hr];exact Bz (Bb (α:=Rg) _ _) Bi) ⟨none,0,by rw [hr,he]<;>rfl,rfl⟩
 refine A4<|Al<|Ax<|Aj<|Ga C<|Aq<|A3<|B4 (σ:=Nat) (λs=>([(0,e7 nd),(1,.slice ea es.length ec),(3,.slice aa als.length ac),(6,pt b1),(12,e7 ((s:Nat):Int))]:Env)) (λs=>e8 b1 [e7 kd,e7 wd,e7 mo] 31::I) (λs=>(s<=als.length)/\(bz7 nd als=bz7 nd (als.drop s))) (λs=>als.length - s) 0 (show ((0:Nat)<=als.length)/\(bz7 nd als=bz7 nd (als.drop (0:Nat))) from ⟨om,rfl⟩) (cx4<|Aa Co A9) (show Fit κ _ (e8 b1 [e7 kd,e7 wd,e7 mo] 31::I) from Ar) ?_
 rintro k hp
 obtain ⟨hk,a1⟩:=hp
 refine Ax<|Aj<|Gm C<|Gm C<|Gr (Bj Be C)<|Gr (Bp C C)<|Aq<|Am C (λbb=>?_)<|λbb=>?_
 ·refine A4 (Al<|Ax<|A3<|Aj<|Gm C<|Gm C<|Gr (A2 (α:=AlV) (xs:=als) Be P1 C C (Bc ha) om olr)<|Gr (Cd (α:=AlV) (xs:=als) P1 C (Bc ha) om olr)<|Gm C<|Gc0 (Ac c_ C C<|ao3 (nd:=nd) (K:=(e_ als k).kd) (no:=(e_ als k).no) (lv:=(e_ als k).lv) (S:=(e_ als k).xs) (num:=(e_ als k).num) (den:=(e_ als k).den)<|Bs (a9 _<|B3 om om) Af) ?_)
  refine Ga C<|Aq<|A0 (S6 13 0 1 3 6 12)<|Aj<|Gm C<|Gr (Cu C C)<|Aq<|Am C (λav=>?_)<|λav=>?_
  ·refine Aj (Gm C<|Ga C<|Ga C<|Aq<|Bq<|Bf<|Az<|Az<|Bf<|Az ?_)
   have he:au9 nd kd wd mo es als=(e_ als k).err nd:=(cs7 an ap om).trans (a1.trans<|cz0 om av)
   have hr:ap2 nd kd wd mo es als=[]:=ai1 (by rw [he];exact av)
   exact B5 C C C (vq 44 none 0 (ap2 nd kd wd mo es als)::I) (by unfold vq;rw [hr];exact Bz (Bb (α:=Rg) _ _) Bi) ⟨none,0,by rw [hr,he]<;>rfl,rfl⟩
  exact A4<|Ap<|Al<|A1<|Gm C<|Gr (Rad C C)<|Ga C<|Bl<|Bh ((k+1)) ⟨om,(a1.trans<|cf0 om<|B_.1 av)⟩
 refine B6<|Ao<|Ao<|A5<|Al<|Aj<|Ga C ?_
 have hH:G6 nd kd wd mo es:=⟨av3<|B_.1 ap,B_.1 an⟩
 have bi:als.length<=16:=by omega
 have a4:bz7 nd als=0:=by rw [a1,Hb om];rfl
 have hz:au9 nd kd wd mo es als=0:=(cs7 an ap om).trans a4
 have be:=bh6 a4
 refine Aq<|Aj<|Gm C<|Gr (Bj Be C)<|Ge2 (Ca (α:=Bool) (n:=als.length) Bk ty4 C C C om om dc C) λE M=>?_
 refine Ga C<|Aq<|A0 (S6 15 14 0 1 3 6)<|Aj<|Ge1 (Bt (α:=Int) (cs:=[_]) (xs:=[0]) Ab ef C C dc dc C C C C) λak=>?_
 refine Gm C<|Gm C<|Gl3 ah8 ?_
 refine G.e (Ac c_ C C<|di8 (nd:=nd) (kd:=kd) (wd:=wd) (mo:=mo) (Bc hl) hH hlen) ?_
 rintro _ _ ⟨_,_,⟨aj,ao,rfl,rfl⟩,rfl,rfl⟩
 refine Gc2 (Ac c_ C C<|fo9 A6 A6<|by have:=dc7 hH hlen;simp only [Fu,F_];omega) λab ad=>?_
 have bk:=av2 hH hlen
 rw [show ofL (([0]:List Int)++P2 kd wd mo es)=j5 kd wd mo es from gf6]
 refine Ga C<|Aq<|Ax<|Aj<|Ga C<|Aq<|A0 (S8 17 16 15 14 0 1 3 6)<|A3<|B4 (σ:=Nat×(Option Addr)×Nat×(List Bool)×(List Rg)) (λs=>([(0,e7 nd),(1,.slice ea es.length ec),(3,.slice aa als.length ac),(6,pt b1),(14,.slice s.2.1 s.2.2.2.2.length s.2.2.1),(15,.slice E (replicate als.length (default:Bool)).length M),(16,.slice ab (j5 kd wd mo es).length ad),(17,e7 ((s.1:Nat):Int))]:Env)) (λs=>vq 44 s.2.1 s.2.2.1 s.2.2.2.2::vq 3 ab ad (j5 kd wd mo es)::vq 3 aj ao (P2 kd wd mo es)::vc 3 (.slice ak 1 1) (([0]:List Int))::vc 4 (.slice E (replicate als.length (default:Bool)).length M) (s.2.2.2.1)::e8 b1 [e7 kd,e7 wd,e7 mo] 31::I) (λs=>(s.1<=(j5 kd wd mo es).length)/\((s.2.2.2.1,s.2.2.2.2)=av7 (alH nd kd wd mo es als) als.length (List.take s.1<|j5 kd wd mo es))) (λs=>(j5 kd wd mo es).length - s.1) (0,none,0,replicate als.length false,[]) (show ((0:Nat)<=(j5 kd wd mo es).length)/\(((replicate als.length false:List Bool),([]:List Rg))=av7 (alH nd kd wd mo es als) als.length (List.take (0:Nat)<|j5 kd wd mo es)) from ⟨om,rfl⟩) (cx4<|Aa (Da C<|by first|rfl|simp)<|cx2<|Aa Co A9) (show Fit κ _ (vq 44 none 0 ([])::vq 3 ab ad (j5 kd wd mo es)::vq 3 aj ao (P2 kd wd mo es)::vc 3 (.slice ak 1 1) (([0]:List Int))::vc 4 (.slice E (replicate als.length (default:Bool)).length M) ((replicate als.length false))::e8 b1 [e7 kd,e7 wd,e7 mo] 31::I) from (Bz (Bb (α:=Rg) _ _) Bi)) ?_
 rintro ⟨k,a,c,on,out⟩ hp
 dsimp only at hp ⊢
 obtain ⟨hk,a0⟩:=hp
 have br:=av2 hH hlen
 have ay:=bf3 (alH nd kd wd mo es als) als.length (j5 kd wd mo es) k om
 rw [←a0] at ay
 have a5:on.length=als.length:=ay.1
 have bm:out.length<=als.length*k:=ay.2
 have bu:als.length*k<=16*58:=Nat.mul_le_mul bi om
 refine Ax<|Aj<|Gm C<|Gm C<|Gr (Bj Ab C)<|Gr (Bp C C)<|Aq<|Am C (λbj=>?_)<|λbj=>?_
 ·refine A4 (Al<|Ax<|A3<|D2 (σ:=Nat×(Option Addr)×Nat) (λs=>([(0,e7 nd),(1,.slice ea es.length ec),(3,.slice aa als.length ac),(6,pt b1),(14,.slice a out.length c),(15,.slice E (replicate als.length (default:Bool)).length M),(16,.slice ab (j5 kd wd mo es).length ad),(17,e7<|(k:Int)),(18,pt s.1)]:Env)) (λs=>e8 s.1 [e7 nd,.slice s.2.1 (atG kd wd mo es<|e_ (j5 kd wd mo es) k).length s.2.2] 48::vq 135 s.2.1 s.2.2 (atG kd wd mo es<|e_ (j5 kd wd mo es) k)::vq 44 a c out::vq 3 ab ad (j5 kd wd mo es)::vq 3 aj ao (P2 kd wd mo es)::vc 3 (.slice ak 1 1) (([0]:List Int))::vc 4 (.slice E (replicate als.length (default:Bool)).length M) (on)::e8 b1 [e7 kd,e7 wd,e7 mo] 31::I) (λs=>True) ?_ ?_)
  ·refine A8 mixed (Cf (vq 44 a c out::vq 3 ab ad (j5 kd wd mo es)::vq 3 aj ao (P2 kd wd mo es)::vc 3 (.slice ak 1 1) (([0]:List Int))::vc 4 (.slice E (replicate als.length (default:Bool)).length M) (on)::e8 b1 [e7 kd,e7 wd,e7 mo] 31::I) 12<|Dr 0 C (Ad C)<|Dr 1 C (Ad C)<|Dr 2 C (Ch (vs:=[_,_,_]) ah8) ?_)
   refine Dr 3 C (Ad C)<|Dr 4 C (Ad C)<|Dr 5 C (A2 (α:=Int) (xs:=j5 kd wd mo es) Ab ef C C A6 om olr)<|Dr 6 C (B8 (xs:=j5 kd wd mo es) ef C A6 om olr)<|Cg (rs:=[7,11]) kr C C<|Dk ?_<|Du ?_
   ·refine Sc2 C (Ac c_ C C<|fe1 (nd:=nd) (kd:=kd) (wd:=wd) (mo:=mo) (Bc hl) hH hlen (T:=e_ (j5 kd wd mo es) k)<|av1 hH _<|B3 om om) λa3 ar=>?_
    refine Dr 8 C (Ad C)<|Dr 9 C (Av C C)<|Cg (rs:=[10,11]) kr C C<|Dk ?_<|Du ?_
    ·refine Sr C (Av C C) Ar ?_
     refine Ds1 11<|Se1 C (Ah H2 C) λbg=>?_
     refine De kr ?_
     refine Ae 12 C (Ba H2) ?_
     rintro _ _ ⟨rfl,rfl⟩
     refine Ft (i:=13) kr C (Ci C) C C (Bo C) ?_
     refine Df kr ?_
     exact Bu ((bg),(a3),(ar)) trivial
    refine Se1 C (Ah H2 C) λa7=>?_
    refine Cg (rs:=[10,12]) kr C C<|Dk ?_<|Du ?_
    ·refine Sr C (Av C C) Ar ?_
     refine De kr ?_
     refine Ae 12 C (Ba H2) ?_
     rintro _ _ ⟨rfl,rfl⟩
     refine Ft (i:=13) kr C (Ci C) C C (Bo C) ?_
     refine Df kr ?_
     exact Bu ((a7),(a3),(ar)) trivial
    refine Se0 C (Ba H2) ?_
    refine Ds1 10<|Sr C (Av C C) Ar ?_
    refine Ds1 13<|Sr C (Bo C) Ar ?_
    exact Dz<|Bu ((a7),(a3),(ar)) trivial
   refine Se1 C (Ah H2 C) λba=>?_
   refine Ds1 7<|Sc2 C (Ac c_ C C<|fe1 (nd:=nd) (kd:=kd) (wd:=wd) (mo:=mo) (Bc hl) hH hlen (T:=e_ (j5 kd wd mo es) k)<|av1 hH _<|B3 om om) λax aw=>?_
   refine Dr 8 C (Ad C)<|Dr 9 C (Av C C)<|Cg (rs:=[10,12]) kr C C<|Dk ?_<|Du ?_
   ·refine Sr C (Av C C) Ar ?_
    refine De kr ?_
    refine Ae 12 C (Ba H2) ?_
    rintro _ _ ⟨rfl,rfl⟩
    refine Ft (i:=13) kr C (Ci C) C C (Bo C) ?_
    refine Df kr ?_
    exact Bu ((ba),(ax),(aw)) trivial
   refine Se0 C (Ba H2) ?_
   refine Ds1 10<|Sr C (Av C C) Ar ?_
   refine Ds1 13<|Sr C (Bo C) Ar ?_
   exact Dz<|Bu ((ba),(ax),(aw)) trivial
  rintro ⟨aq,ga,gc⟩ hp
  show W prog κ 110 _ _ ([(0,e7 nd),(1,.slice ea es.length ec),(3,.slice aa als.length ac),(6,pt b1),(14,.slice a out.length c),(15,.slice E (replicate als.length (default:Bool)).length M),(16,.slice ab (j5 kd wd mo es).length ad),(17,e7<|(k:Int)),(18,pt aq)]:Env) (e8 aq [e7 nd,.slice ga (atG kd wd mo es<|e_ (j5 kd wd mo es) k).length gc] 48::vq 135 ga gc (atG kd wd mo es<|e_ (j5 kd wd mo es) k)::vq 44 a c out::vq 3 ab ad (j5 kd wd mo es)::vq 3 aj ao (P2 kd wd mo es)::vc 3 (.slice ak 1 1) (([0]:List Int))::vc 4 (.slice E (replicate als.length (default:Bool)).length M) (on)::e8 b1 [e7 kd,e7 wd,e7 mo] 31::I)
  refine Aj<|Ga C<|Aq<|A3<|B4 (σ:=Nat×(Option Addr)×Nat×(List Bool)×(List Rg)) (λs=>([(0,e7 nd),(1,.slice ea es.length ec),(3,.slice aa als.length ac),(6,pt b1),(14,.slice s.2.1 s.2.2.2.2.length s.2.2.1),(15,.slice E (replicate als.length (default:Bool)).length M),(16,.slice ab (j5 kd wd mo es).length ad),(17,e7<|(k:Int)),(18,pt aq),(20,e7 ((s.1:Nat):Int))]:Env)) (λs=>vq 44 s.2.1 s.2.2.1 s.2.2.2.2::e8 aq [e7 nd,.slice ga (atG kd wd mo es<|e_ (j5 kd wd mo es) k).length gc] 48::vq 135 ga gc (atG kd wd mo es<|e_ (j5 kd wd mo es) k)::vq 3 ab ad (j5 kd wd mo es)::vq 3 aj ao (P2 kd wd mo es)::vc 3 (.slice ak 1 1) (([0]:List Int))::vc 4 (.slice E (replicate als.length (default:Bool)).length M) (s.2.2.2.1)::e8 b1 [e7 kd,e7 wd,e7 mo] 31::I) (λs=>(s.1<=als.length)/\((s.2.2.2.1,s.2.2.2.2)=W8 (e_ (j5 kd wd mo es) k) ((alH nd kd wd mo es als)<|e_ (j5 kd wd mo es) k) s.1 (on,out))) (λs=>als.length - s.1) (0,a,c,on,out) (show ((0:Nat)<=als.length)/\(((on:List Bool),(out:List Rg))=W8 (e_ (j5 kd wd mo es) k) ((alH nd kd wd mo es als)<|e_ (j5 kd wd mo es) k) (0:Nat) (on,out)) from ⟨om,rfl⟩) (cx4<|Aa (Da C<|by first|rfl|simp)<|cx4<|Aa Co A9) (show Fit κ _ (vq 44 a c (out)::e8 aq [e7 nd,.slice ga (atG kd wd mo es<|e_ (j5 kd wd mo es) k).length gc] 48::vq 135 ga gc (atG kd wd mo es<|e_ (j5 kd wd mo es) k)::vq 3 ab ad (j5 kd wd mo es)::vq 3 aj ao (P2 kd wd mo es)::vc 3 (.slice ak 1 1) (([0]:List Int))::vc 4 (.slice E (replicate als.length (default:Bool)).length M) ((on))::e8 b1 [e7 kd,e7 wd,e7 mo] 31::I) from Bi) ?_
  rintro ⟨k2,a2,c2,ai,ae⟩ hp
  dsimp only at hp ⊢
  obtain ⟨bt,ah⟩:=hp
  have az:=as1 (e_ (j5 kd wd mo es) k) ((alH nd kd wd mo es als)<|e_ (j5 kd wd mo es) k) k2 (on,out)
  rw [←ah] at az
  have bo:ai.length=als.length:=az.1.trans a5
  have bn:ae.length<=out.length+k2:=az.2
  refine Ax<|Aj<|Gm C<|Gm C<|Gr (Bj Be C)<|Gr (Bp C C)<|Aq<|A0 (S11 80 0 1 3 6 14 15 16 17 18 20)<|Am C (λbh=>?_)<|λbh=>?_
  ·refine A4 (Al<|Ax<|A3<|Ax<|A8 mixed<|Cf (vq 44 a2 c2 ae::e8 aq [e7 nd,.slice ga (atG kd wd mo es<|e_ (j5 kd wd mo es) k).length gc] 48::vq 135 ga gc (atG kd wd mo es<|e_ (j5 kd wd mo es) k)::vq 3 ab ad (j5 kd wd mo es)::vq 3 aj ao (P2 kd wd mo es)::vc 3 (.slice ak 1 1) (([0]:List Int))::vc 4 (.slice E (replicate als.length (default:Bool)).length M) (ai)::e8 b1 [e7 kd,e7 wd,e7 mo] 31::I) 7<|Dr 0 C (Ch (vs:=[_,_]) H2) ?_)
   refine Dr 1 C (Ad C)<|Dr 2 C (Ad C)<|Dr 3 C (A2 (α:=AlV) (xs:=als) Be P1 C C (Bc ha) om olr)<|Dr 4 C (Cd (α:=AlV) (xs:=als) P1 C (Bc ha) om olr)<|Ds1 5<|Sc0 C (Ac c_ C C<|bk3 (nd:=nd) (ea:=ga) (ec:=gc) (es:=atG kd wd mo es (e_ (j5 kd wd mo es) k)) (x:=(e_ als k2)) A6 (Bs (a9 _<|B3 om om) Af) (hH.graph _) h7<|be _<|B3 om om) ?_
   refine Dr 6 C (Bo C)<|Dz<|Al<|A0 (S11 21 0 1 3 6 14 15 16 17 18 20)<|Aj<|Gm C<|Gm C<|Gm C<|Gr (A2 (α:=Bool) (xs:=ai) Bk ty4 C C A6 om olr)<|Gr (Fl (xs:=ai) ty4 C A6 om olr)<|Gr (Fj Ct C C)<|Aq<|A0 (S12 94 21 0 1 3 6 14 15 16 17 18 20)<|Am C (λau=>?_)<|λau=>?_
   ·refine Aj (Gm C<|Gm C<|Gm C<|Gr (A2 (α:=Bool) (xs:=ai) Bk ty4 C C A6 om olr)<|Ge0 (Cr (α:=Bool) (xs:=ai) (e:=4) (new:=(U4 nd (atG kd wd mo es<|e_ (j5 kd wd mo es) k)<|e_ als k2)) ty4 C C C om olr am) ?_)
    refine Aq<|A0 (S11 21 0 1 3 6 14 15 16 17 18 20)<|A1<|Gm C<|Gm C<|Gm C<|Gr (A2 (α:=Int) (xs:=j5 kd wd mo es) Ab ef C C A6 om olr)<|Gr (B8 (xs:=j5 kd wd mo es) ef C A6 om olr)<|Gm C<|Gm C<|Gr (B1 (cells:=[_,_,_]) bt6 C8 ge3 C C)<|Ge1 (Bt (α:=Rg) (cs:=[_,_,_]) (xs:=[⟨e_ (j5 kd wd mo es) k,(k2:Int),(U4 nd (atG kd wd mo es<|e_ (j5 kd wd mo es) k)<|e_ als k2)⟩]) Cq bt6 C C dc dc C C C C) λbq=>?_
    refine Ge2 (Bv (α:=Rg) (e:=44) (xs:=ae) (ys:=([⟨e_ (j5 kd wd mo es) k,(k2:Int),(U4 nd (atG kd wd mo es<|e_ (j5 kd wd mo es) k)<|e_ als k2)⟩]:List Rg)) Cq bt6 C C C mm A6 lcn dc C<|λ_ _=>am) λa8 a6=>?_
    exact Ga C<|Bl<|Ap<|Al<|A0 (S10 14 0 1 3 6 15 16 17 18 20)<|A1<|Gm C<|Gr (Rad C C)<|Ga C<|Bl<|Bh ((k2+1),(a8),(a6),(List.set ai ((k2:Int)).toNat ((U4 nd (atG kd wd mo es<|e_ (j5 kd wd mo es) k)<|e_ als k2))),(ae++([⟨e_ (j5 kd wd mo es) k,(k2:Int),(U4 nd (atG kd wd mo es<|e_ (j5 kd wd mo es) k)<|e_ als k2)⟩]:List Rg)))<|by dsimp only;exact ⟨om,(by first|exact ba6 ah au|exact bu4 ah au)⟩
   exact A4<|Ap<|Al<|A1<|Gm C<|Gr (Rad C C)<|Ga C<|Bl<|Bh ((k2+1),(a2),(c2),(ai),(ae))<|by dsimp only;exact ⟨om,(by first|exact ba6 ah au|exact bu4 ah au)⟩
  exact B6<|Ao<|Ao<|A5<|Ap<|Al<|A1<|Gm C<|Gr (Rad C C)<|Ga C<|Bl<|Bh ((k+1),(a2),(c2),(ai),(ae))<|by dsimp only;exact ⟨om,(by rw [ah,av6 om,←a0,show k2=als.length by omega])⟩
 refine B6<|Ao<|Ao<|A5<|Al<|Aj<|Gm C<|Ga C<|Ga C<|Aq<|A0 (S2 9 8)<|Bq ?_
 have hE:out=(bo7 nd kd wd mo es als):=by have h:=Fz Prod.snd a0;rw [Gb om] at h;exact h
 have hR:ap2 nd kd wd mo es als=out:=by rw [hE];exact bt4 hz
 exact B5 C C C (vq 44 a c (ap2 nd kd wd mo es als)::I) (by unfold vq;rw [hR];exact Bi) ⟨a,c,by rw [hR,hz],rfl⟩
variable {κ:Ctx}{I:List Item}
noncomputable def U1(n:Int)(R:List Rg):Int:=if n<0\/16<n then 1 else @ite Int (cm0 (replicate n.toNat false) R) (Classical.propDecidable _) 0 4
noncomputable def H7(n T:Int)(R:List Rg):List Bool:=if U1 n R=0 then (az5 T (replicate n.toNat false,replicate n.toNat false) R).2 else []
theorem cb3{n:Int}(h:n<0\/16<n):U1 n R=1:=by unfold U1;rw [By h]
theorem cu0(h:n<=16):U1 (n:Int) R = @ite Int (cm0 (replicate n false) R) (Classical.propDecidable _) 0 4:=by unfold U1;rw [An om];rfl
theorem bq0:∀(R:List Rg) (on:List Bool),(ay6 R on).length=on.length
 |[],on=>rfl
 |r::R,on=>(bq0 R _).trans Gd
theorem ac8(h:n<=16)(hk:k<R.length)(M:¬((0<=(e_ R k).al/\(e_ R k).al<(n:Int))/\e_ (ay6 (R.take k) (replicate n false)) (e_ R k).al≠(e_ R k).on)):U1 (n:Int) R=4:=by
 rw [cu0 h]
 exact An λE=>M<|by have:=dp7 E k hk;rwa [Fw] at this
theorem ba5(E:k<R.length)(h0:cm0 (replicate n false) (R.take k))(M:(0<=(e_ R k).al/\(e_ R k).al<(n:Int))/\e_ (ay6 (R.take k) (replicate n false)) (e_ R k).al≠(e_ R k).on):cm0 (replicate n false) (R.take (k+1)):=by
 rw [Cn R k E]
 exact cu6 h0 ⟨⟨⟨M.1.1,by rw [bq0,Fw];exact M.1.2⟩,M.2⟩,trivial⟩
theorem am2(h:n<=16)(M:cm0 (replicate n false) R):U1 (n:Int) R=0:=by rw [cu0 h];exact By M
theorem ab7{n:Int}(h:U1 n R≠0):H7 n T R=[]:=by unfold H7;rw [An h]
theorem cb2(h:U1 (n:Int) R=0):H7 (n:Int) T R=(az5 T (replicate n false,replicate n false) R).2:=by unfold H7;rw [By h];rfl
theorem ta4{p:Prop}(h:p:=by first|omega|(simp only [Gd];omega)|(simp only [Fw];omega)):p:=h
theorem dj5(hl:Sl κ I va R)(hn:n<=16)(T:Int):er prog κ 32 [va,e7 ((n:Int)),e7 T] I (λr J=>∃a c,r = .tuple #[.slice a (H7 (n:Int) T R).length c,e7 (U1 (n:Int) R)]/\J=vq 4 a c (H7 (n:Int) T R)::I):=by
 refine Bm hl.le λa3=>?_
 refine Ce3 Tryz.func32 C C ?_
 refine Aj<|Ga C<|Ga C<|Aq<|Ax<|Aj<|Gm C<|Gr (Bp C C)<|Gm C<|Au (d:=14) C (λa1=>?_)<|λa1=>?_
 ·exfalso;omega
 refine e9 (Ad C)<|e9 (Cl C C)<|Gr (Bg C C)<|Aq<|Am C (λaz=>?_)<|λaz=>?_
 ·omega
 refine A4<|Al<|D2 (σ:=(Option Addr)×Nat×(Option Addr)×Nat) (λs=>([(0,va),(1,e7<|(n:Int)),(2,e7 T),(8,.slice s.1 (replicate n (default:Bool)).length s.2.1),(9,.slice s.2.2.1 (replicate n (default:Bool)).length s.2.2.2)]:Env)) (λs=>vq 4 s.1 s.2.1 (replicate n (default:Bool))::vq 4 s.2.2.1 s.2.2.2 (replicate n (default:Bool))::I) (λs=>True) ?_ ?_
 ·refine A8 mixed (Cf I 6<|Dr 0 C (Ad C)<|Dr 2 C (Ad C)<|Cg (rs:=[1,3]) kr C C<|Dk ?_<|Du ?_)
  ·refine Se2 C (Ca (α:=Bool) (n:=n) Bk ty4 C C C om om dc C) λay ao=>?_
   refine Dr 4 C (Bo C)<|Ds1 3<|Se2 C (Ca (α:=Bool) (n:=n) Bk ty4 C C C om om dc C) λak aq=>?_
   exact Dr 5 C (Bo C)<|Dz<|Bu ((ay),(ao),(ak),(aq)) trivial
  refine Se2 C (Ca (α:=Bool) (n:=n) Bk ty4 C C C om om dc C) λan a0=>?_
  refine Ds1 1<|Se2 C (Ca (α:=Bool) (n:=n) Bk ty4 C C C om om dc C) λar av=>?_
  exact Dr 4 C (Bo C)<|Dr 5 C (Bo C)<|Dz<|Bu ((ar),(av),(an),(a0)) trivial
 rintro ⟨x8,y8,x9,y9⟩ hp
 show W prog κ 65 _ _ ([(0,va),(1,e7<|(n:Int)),(2,e7 T),(8,.slice x8 (replicate n (default:Bool)).length y8),(9,.slice x9 (replicate n (default:Bool)).length y9)]:Env) (vq 4 x8 y8 (replicate n (default:Bool))::vq 4 x9 y9 (replicate n (default:Bool))::I)
 refine Ax<|Aj<|Gm C<|Gr (C3 (α:=Rg) (xs:=R) Cq C<|Bc hl)<|Gm C<|Aq<|A3<|B4 (σ:=Nat×(List Bool)×(List Bool)) (λs=>([(1,e7<|(n:Int)),(2,e7 T),(8,.slice x8 (replicate n (default:Bool)).length y8),(9,.slice x9 (replicate n (default:Bool)).length y9),(22,va),(23,e7 ((R.length:Nat):Int)),(24,e7 ((s.1:Nat):Int))]:Env)) (λs=>vc 4 (.slice x8 (replicate n (default:Bool)).length y8) (s.2.1)::vc 4 (.slice x9 (replicate n (default:Bool)).length y9) (s.2.2)::I) (λs=>(s.1<=R.length)/\((s.2.1,s.2.2)=az5 T (replicate n false,replicate n false) (R.take s.1))/\(cm0 (replicate n false)<|R.take s.1)) (λs=>R.length - s.1) (0,replicate n false,replicate n false) (show ((0:Nat)<=R.length)/\(((replicate n false:List Bool),(replicate n false:List Bool))=az5 T (replicate n false,replicate n false) (R.take (0:Nat)))/\(cm0 (replicate n false)<|R.take (0:Nat)) from ⟨om,rfl,trivial⟩) (cx4<|cx2<|Aa Co A9) (show Fit κ _ (vc 4 (.slice x8 (replicate n (default:Bool)).length y8) ((replicate n false))::vc 4 (.slice x9 (replicate n (default:Bool)).length y9) ((replicate n false))::I) from Ar) ?_
 rintro ⟨k,on,out⟩ hp
 dsimp only at hp ⊢
 obtain ⟨hk,aa,ae⟩:=hp
 have ad:=be2 T (R.take k) (replicate n false,replicate n false)
 rw [←aa] at ad
 simp only [Fw] at ad
 have a4:=ad.1
 have au:=ad.2
 refine Aj<|Gr (Bp C C)<|Aq<|Ax<|Am C (λax=>?_)<|λax=>?_
 ·refine A4 (Al<|Ax<|A3<|Aj<|Gr (A2 (α:=Rg) (xs:=R) Cq bt6 C C (Bc hl) om<|by first|omega|(simp only [Gd];omega)|(simp only [Fw];omega))<|Gr (Cd (α:=Rg) (xs:=R) bt6 C (Bc hl) om<|by first|omega|(simp only [Gd];omega)|(simp only [Fw];omega)) ?_)
  have E:on=ay6 (R.take k) (replicate n false):=by have h:=Fz Prod.fst aa;rw [be3] at h;exact h
  refine Ge1 (Ah bt6 C) λb9=>Ge0 (ck1 bt6) ?_
  refine Aq<|Ax<|Ax<|A8 mixed<|Cf (e8 b9 [e7 ((e_ R k).tm),e7<|(e_ R k).al,.bool<|(e_ R k).on] 44::vc 4 (.slice x8 (replicate n (default:Bool)).length y8) (on)::vc 4 (.slice x9 (replicate n (default:Bool)).length y9) (out)::I) 19<|Dr 0 C (Ai Z4 C)<|Dr 1 C (Bd ef) ?_
  refine Dr 2 C (Bp C C)<|Dr 3 C (Ad C)<|Cw (d:=31) C (λap=>?_)<|λap=>?_
  ·refine Dpo 4 C (Dpo 5 C<|Dpo 6 C<|Dpo 7 C<|Dr 8 C (Br C C)<|Dr 9 C (Ad C)<|Dpo 10 C<|Dpo 11 C<|Dpo 12 C<|Dpo 13 C<|Dpo 14 C<|Dpo 15 C<|Dpo 16 C<|Dpo 17 C<|Dr 18 C (Br C C)<|Dz<|Al<|A0 (S9 46 11 1 2 8 9 22 23 24)<|W.yes C<|Aj<|Ga C<|Ga C<|Aq<|Bq<|Az<|Bf<|Az<|Az<|Bf<|Az ?_)
   have he:U1 (n:Int) R=4:=ac8 (k:=k) hn om (λh=>by rw [←E] at h;first|omega|exact h.2 asm)
   have M:H7 (n:Int) T R=[]:=ab7 (by rw [he];decide)
   exact B5 C C C (vq 4 none 0 (H7 (n:Int) T R)::I) (by unfold vq;rw [M];exact Bz (Bb (α:=Bool) _ _) Bi) ⟨none,0,by rw [M,he]<;>rfl,rfl⟩
  refine Dro 4 C (Ai Z4 C)<|Dro 5 C (Bd ef) ?_
  refine Dro 6 C (Ad C)<|Dro 7 C (Eo C C)<|Dr 8 C (Bg C C)<|Dr 9 C (Ad C)<|Cw (d:=37) C (λaw=>?_)<|λaw=>?_
  ·refine Dpo 10 C (Dpo 11 C<|Dpo 12 C<|Dpo 13 C<|Dpo 14 C<|Dpo 15 C<|Dpo 16 C<|Dpo 17 C<|Dr 18 C (Br C C)<|Dz<|Al<|A0 (S9 46 11 1 2 8 9 22 23 24)<|W.yes C<|Aj<|Ga C<|Ga C<|Aq<|Bq<|Az<|Bf<|Az<|Az<|Bf<|Az ?_)
   have he:U1 (n:Int) R=4:=ac8 (k:=k) hn om (λh=>by rw [←E] at h;first|omega|exact h.2 asm)
   have M:H7 (n:Int) T R=[]:=ab7 (by rw [he];decide)
   exact B5 C C C (vq 4 none 0 (H7 (n:Int) T R)::I) (by unfold vq;rw [M];exact Bz (Bb (α:=Bool) _ _) Bi) ⟨none,0,by rw [M,he]<;>rfl,rfl⟩
  refine Dro 10 C (Ad C)<|Dro 11 C (Ai Z4 C)<|Dro 12 C (Bd ef) ?_
  refine Dro 13 C (A2 (α:=Bool) (xs:=on) Bk ty4 C C A6 om<|by first|omega|(simp only [Gd];omega)|(simp only [Fw];omega))<|Dro 14 C (Fl (xs:=on) ty4 C A6 om<|by first|omega|(simp only [Gd];omega)|(simp only [Fw];omega))<|Dro 15 C (Ai aq3 C)<|Dro 16 C (Bd ty4) ?_
  refine Dro 17 C (j0.gx4 Ct C C)<|Dr 18 C (Bg C C)<|Dz<|Al<|A0 (S9 46 11 1 2 8 9 22 23 24)<|Am C (λah=>?_)<|λah=>?_
  ·refine Aj (Ga C<|Ga C<|Aq<|Bq<|Az<|Bf<|Az<|Az<|Bf<|Az ?_)
   have he:U1 (n:Int) R=4:=ac8 (k:=k) hn om (λh=>by rw [←E] at h;first|omega|exact h.2 asm)
   have M:H7 (n:Int) T R=[]:=ab7 (by rw [he];decide)
   exact B5 C C C (vq 4 none 0 (H7 (n:Int) T R)::I) (by unfold vq;rw [M];exact Bz (Bb (α:=Bool) _ _) Bi) ⟨none,0,by rw [M,he]<;>rfl,rfl⟩
  refine A4<|Al<|Aj<|Gm C<|Gf Z4 C<|Gl ef ?_
  refine Gf aq3 C<|Gl ty4 ?_
  refine Gr (A2 (α:=Bool) (xs:=on) Bk ty4 C C A6 om<|by first|omega|(simp only [Gd];omega)|(simp only [Fw];omega))<|Ge0 (Cr (α:=Bool) (xs:=on) (e:=4) (new:=(e_ R k).on) ty4 C C C om ta4 am) ?_
  refine Aq<|A0 (S8 11 1 2 8 9 22 23 24)<|Aj<|Gf cp2 C<|Gl ef ?_
  refine Gm C<|Gr (E4 C C)<|Aq<|Am C (λab=>?_)<|λab=>?_
  ·refine A1 (Gm C<|Gf Z4 C<|Gl ef ?_)
   refine Gf aq3 C<|Gl ty4 ?_
   refine Gr (A2 (α:=Bool) (xs:=out) Bk ty4 C C A6 om<|by first|omega|(simp only [Gd];omega)|(simp only [Fw];omega))<|Ge0 (Cr (α:=Bool) (xs:=out) (e:=4) (new:=(e_ R k).on) ty4 C C C om ta4 am) ?_
   exact Bl<|Ap<|Al<|A0 (S7 1 2 8 9 22 23 24)<|A1<|Gr (Rad C C)<|Gm C<|Bl<|Bh ((k+1),(List.set on ((e_ R k).al).toNat ((e_ R k).on)),(List.set out ((e_ R k).al).toNat ((e_ R k).on)))<|by dsimp only;exact ⟨om,(by rw [am1 om,←aa];unfold stepT;first|rw [By ab]|rw [An ab]),(ba5 (k:=k) om ae ⟨by omega,by rw [←E];exact ah⟩)⟩
  exact A4<|Ap<|Al<|A1<|Gr (Rad C C)<|Gm C<|Bl<|Bh ((k+1),(List.set on ((e_ R k).al).toNat ((e_ R k).on)),(out))<|by dsimp only;exact ⟨om,(by rw [am1 om,←aa];unfold stepT;first|rw [By ab]|rw [An ab]),(ba5 (k:=k) om ae ⟨by omega,by rw [←E];exact ah⟩)⟩
 refine B6<|Ao<|Ao<|A5<|Al<|Aj<|Gm C<|Ga C<|Ga C<|Aq<|Bq ?_
 have ai:cm0 (replicate n false) R:=by rwa [Gb om] at ae
 have hE:out=H7 (n:Int) T R:=by have h:=Fz Prod.snd aa;rw [Gb om] at h;rw [cb2 (am2 hn ai)];exact h
 have aj:(replicate n (default:Bool)).length=out.length:=by rw [Fw];exact au.symm
 exact B5 C C C (vq 4 x9 y9 (H7 (n:Int) T R)::I) (by unfold vq;rw [←hE,←aj];exact Bi) ⟨x9,y9,by rw [←hE,←aj,am2 hn ai],rfl⟩
theorem dj4(hl:Sl κ I va R){n:Int}(hn:n<0\/16<n)(T:Int):er prog κ 32 [va,e7 n,e7 T] I (λr J=>r = .tuple #[.slice none 0 0,e7 1]/\I=J):=by
 refine Ce3 Tryz.func32 C C<|Z ?_
 refine Au (d:=14) C (λE=>Z ?_)<|λE=>Z ?_
 ·exact B5 C C C I Af ⟨rfl,rfl⟩
 refine Am C (λM=>Z ?_)<|λM=>?_
 ·exact B5 C C C I Af ⟨rfl,rfl⟩
 exact absurd M om
theorem ch6(hl:Sl κ I M R)(n T:Int):er prog κ 32 [M,e7 n,e7 T] I λr J=>∃a c,r = .tuple #[.slice a (H7 n T R).length c,e7 (U1 n R)]/\∃K,J=K/\Fit κ K (vq 4 a c (H7 n T R)::I):=by
 by_cases h:n<0\/16<n
 ·refine (dj4 hl h T).mono λr J q=>?_
  have E:U1 n R=1:=cb3 h
  have hr:H7 n T R=[]:=ab7 (by rw [E];decide)
  exact ⟨none,0,by rw [q.1,hr,E];rfl,J,rfl,by rw [←q.2,hr];exact Bb (α:=Bool) _ _⟩
 obtain ⟨m,rfl⟩:=Hv (show 0<=n by omega)
 exact (dj5 hl om T).mono λr J ⟨a,c,h1,h2⟩=>⟨a,c,h1,J,rfl,by rw [h2];exact Di _⟩
theorem dj3(hl:Sl κ I va R)(hn:n<=16)(T:Int):er prog κ 33 [va,e7 ((n:Int)),e7 T] I (λr J=>∃a c,r = .tuple #[.slice a (H7 (n:Int) T R).length c,e7 (U1 (n:Int) R)]/\J=vq 4 a c (H7 (n:Int) T R)::I):=by
 refine Bm hl.le λa3=>?_
 refine Ce3 Tryz.func33 C C ?_
 refine Aj<|Ga C<|Ga C<|Aq<|Ax<|Aj<|Gm C<|Gr (Bp C C)<|Gm C<|Au (d:=14) C (λa1=>?_)<|λa1=>?_
 ·exfalso;omega
 refine e9 (Ad C)<|e9 (Cl C C)<|Gr (Bg C C)<|Aq<|Am C (λaz=>?_)<|λaz=>?_
 ·omega
 refine A4<|Al<|D2 (σ:=(Option Addr)×Nat×(Option Addr)×Nat) (λs=>([(0,va),(1,e7<|(n:Int)),(2,e7 T),(8,.slice s.1 (replicate n (default:Bool)).length s.2.1),(9,.slice s.2.2.1 (replicate n (default:Bool)).length s.2.2.2)]:Env)) (λs=>vq 4 s.1 s.2.1 (replicate n (default:Bool))::vq 4 s.2.2.1 s.2.2.2 (replicate n (default:Bool))::I) (λs=>True) ?_ ?_
 ·refine A8 mixed (Cf I 6<|Dr 0 C (Ad C)<|Dr 2 C (Ad C)<|Cg (rs:=[1,3]) kr C C<|Dk ?_<|Du ?_)
  ·refine Se2 C (Ca (α:=Bool) (n:=n) Bk ty4 C C C om om dc C) λay ao=>?_
   refine Dr 4 C (Bo C)<|Ds1 3<|Se2 C (Ca (α:=Bool) (n:=n) Bk ty4 C C C om om dc C) λak ap=>?_
   exact Dr 5 C (Bo C)<|Dz<|Bu ((ay),(ao),(ak),(ap)) trivial
  refine Se2 C (Ca (α:=Bool) (n:=n) Bk ty4 C C C om om dc C) λan a0=>?_
  refine Ds1 1<|Se2 C (Ca (α:=Bool) (n:=n) Bk ty4 C C C om om dc C) λaq av=>?_
  exact Dr 4 C (Bo C)<|Dr 5 C (Bo C)<|Dz<|Bu ((aq),(av),(an),(a0)) trivial
 rintro ⟨x8,y8,x9,y9⟩ hp
 show W prog κ 68 _ _ ([(0,va),(1,e7<|(n:Int)),(2,e7 T),(8,.slice x8 (replicate n (default:Bool)).length y8),(9,.slice x9 (replicate n (default:Bool)).length y9)]:Env) (vq 4 x8 y8 (replicate n (default:Bool))::vq 4 x9 y9 (replicate n (default:Bool))::I)
 refine Ax<|Aj<|Ga C<|Aq<|A3<|B4 (σ:=Nat×(List Bool)×(List Bool)) (λs=>([(0,va),(1,e7<|(n:Int)),(2,e7 T),(8,.slice x8 (replicate n (default:Bool)).length y8),(9,.slice x9 (replicate n (default:Bool)).length y9),(10,e7 ((s.1:Nat):Int))]:Env)) (λs=>vc 4 (.slice x8 (replicate n (default:Bool)).length y8) (s.2.1)::vc 4 (.slice x9 (replicate n (default:Bool)).length y9) (s.2.2)::I) (λs=>(s.1<=R.length)/\((s.2.1,s.2.2)=az5 T (replicate n false,replicate n false) (R.take s.1))/\(cm0 (replicate n false)<|R.take s.1)) (λs=>R.length - s.1) (0,replicate n false,replicate n false) (show ((0:Nat)<=R.length)/\(((replicate n false:List Bool),(replicate n false:List Bool))=az5 T (replicate n false,replicate n false) (R.take (0:Nat)))/\(cm0 (replicate n false)<|R.take (0:Nat)) from ⟨om,rfl,trivial⟩) (cx4<|Aa C<|Aa Co A9) (show Fit κ _ (vc 4 (.slice x8 (replicate n (default:Bool)).length y8) ((replicate n false))::vc 4 (.slice x9 (replicate n (default:Bool)).length y9) ((replicate n false))::I) from Ar) ?_
 rintro ⟨k,on,out⟩ hp
 dsimp only at hp ⊢
 obtain ⟨hk,aa,ae⟩:=hp
 have ad:=be2 T (R.take k) (replicate n false,replicate n false)
 rw [←aa] at ad
 simp only [Fw] at ad
 have a4:=ad.1
 have au:=ad.2
 refine Ax<|Aj<|Gm C<|Gm C<|Gr (C3 (α:=Rg) (xs:=R) Cq C<|Bc hl)<|Gr (Bp C C)<|Aq<|Am C (λax=>?_)<|λax=>?_
 ·refine A4 (Al<|Ax<|A3<|Aj<|Gm C<|Gm C<|Gr (A2 (α:=Rg) (xs:=R) Cq bt6 C C (Bc hl) om<|by first|omega|(simp only [Gd];omega)|(simp only [Fw];omega))<|Gr (Cd (α:=Rg) (xs:=R) bt6 C (Bc hl) om<|by first|omega|(simp only [Gd];omega)|(simp only [Fw];omega)) ?_)
  have E:on=ay6 (R.take k) (replicate n false):=by have h:=Fz Prod.fst aa;rw [be3] at h;exact h
  refine Ge1 (Ah bt6 C) λb9=>Ge0 (ck1 bt6) ?_
  refine Aq<|A0 (S7 11 0 1 2 8 9 10)<|Ax<|Ax<|A8 mixed<|Cf (e8 b9 [e7 ((e_ R k).tm),e7<|(e_ R k).al,.bool<|(e_ R k).on] 44::vc 4 (.slice x8 (replicate n (default:Bool)).length y8) (on)::vc 4 (.slice x9 (replicate n (default:Bool)).length y9) (out)::I) 19<|Dr 0 C (Ai Z4 C)<|Dr 1 C (Bd ef) ?_
  refine Dr 2 C (Bp C C)<|Dr 3 C (Ad C)<|Cw (d:=35) C (λaw=>?_)<|λaw=>?_
  ·refine Dpo 4 C (Dpo 5 C<|Dpo 6 C<|Dpo 7 C<|Dr 8 C (Br C C)<|Dr 9 C (Ad C)<|Dpo 10 C<|Dpo 11 C<|Dpo 12 C<|Dpo 13 C<|Dpo 14 C<|Dpo 15 C<|Dpo 16 C<|Dpo 17 C<|Dr 18 C (Br C C)<|Dz<|Al<|A0 (S8 50 11 0 1 2 8 9 10)<|W.yes C<|Aj<|Ga C<|Ga C<|Aq<|Bq<|Az<|Bf<|Az<|Az<|Bf<|Az ?_)
   have he:U1 (n:Int) R=4:=ac8 (k:=k) hn om (λh=>by rw [←E] at h;first|omega|exact h.2 asm)
   have M:H7 (n:Int) T R=[]:=ab7 (by rw [he];decide)
   exact B5 C C C (vq 4 none 0 (H7 (n:Int) T R)::I) (by unfold vq;rw [M];exact Bz (Bb (α:=Bool) _ _) Bi) ⟨none,0,by rw [M,he]<;>rfl,rfl⟩
  refine Dro 4 C (Ai Z4 C)<|Dro 5 C (Bd ef) ?_
  refine Dro 6 C (Ad C)<|Dro 7 C (Eo C C)<|Dr 8 C (Bg C C)<|Dr 9 C (Ad C)<|Cw (d:=41) C (λar=>?_)<|λar=>?_
  ·refine Dpo 10 C (Dpo 11 C<|Dpo 12 C<|Dpo 13 C<|Dpo 14 C<|Dpo 15 C<|Dpo 16 C<|Dpo 17 C<|Dr 18 C (Br C C)<|Dz<|Al<|A0 (S8 50 11 0 1 2 8 9 10)<|W.yes C<|Aj<|Ga C<|Ga C<|Aq<|Bq<|Az<|Bf<|Az<|Az<|Bf<|Az ?_)
   have he:U1 (n:Int) R=4:=ac8 (k:=k) hn om (λh=>by rw [←E] at h;first|omega|exact h.2 asm)
   have M:H7 (n:Int) T R=[]:=ab7 (by rw [he];decide)
   exact B5 C C C (vq 4 none 0 (H7 (n:Int) T R)::I) (by unfold vq;rw [M];exact Bz (Bb (α:=Bool) _ _) Bi) ⟨none,0,by rw [M,he]<;>rfl,rfl⟩
  refine Dro 10 C (Ad C)<|Dro 11 C (Ai Z4 C)<|Dro 12 C (Bd ef) ?_
  refine Dro 13 C (A2 (α:=Bool) (xs:=on) Bk ty4 C C A6 om<|by first|omega|(simp only [Gd];omega)|(simp only [Fw];omega))<|Dro 14 C (Fl (xs:=on) ty4 C A6 om<|by first|omega|(simp only [Gd];omega)|(simp only [Fw];omega))<|Dro 15 C (Ai aq3 C)<|Dro 16 C (Bd ty4) ?_
  refine Dro 17 C (j0.gx4 Ct C C)<|Dr 18 C (Bg C C)<|Dz<|Al<|A0 (S8 50 11 0 1 2 8 9 10)<|Am C (λah=>?_)<|λah=>?_
  ·refine Aj (Ga C<|Ga C<|Aq<|Bq<|Az<|Bf<|Az<|Az<|Bf<|Az ?_)
   have he:U1 (n:Int) R=4:=ac8 (k:=k) hn om (λh=>by rw [←E] at h;first|omega|exact h.2 asm)
   have M:H7 (n:Int) T R=[]:=ab7 (by rw [he];decide)
   exact B5 C C C (vq 4 none 0 (H7 (n:Int) T R)::I) (by unfold vq;rw [M];exact Bz (Bb (α:=Bool) _ _) Bi) ⟨none,0,by rw [M,he]<;>rfl,rfl⟩
  refine A4<|Al<|Aj<|Gm C<|Gf Z4 C<|Gl ef ?_
  refine Gf aq3 C<|Gl ty4 ?_
  refine Gr (A2 (α:=Bool) (xs:=on) Bk ty4 C C A6 om<|by first|omega|(simp only [Gd];omega)|(simp only [Fw];omega))<|Ge0 (Cr (α:=Bool) (xs:=on) (e:=4) (new:=(e_ R k).on) ty4 C C C om ta4 am) ?_
  refine Aq<|A0 (S7 11 0 1 2 8 9 10)<|Aj<|Gf cp2 C<|Gl ef ?_
  refine Gm C<|Gr (E4 C C)<|Aq<|Am C (λab=>?_)<|λab=>?_
  ·refine A1 (Gm C<|Gf Z4 C<|Gl ef ?_)
   refine Gf aq3 C<|Gl ty4 ?_
   refine Gr (A2 (α:=Bool) (xs:=out) Bk ty4 C C A6 om<|by first|omega|(simp only [Gd];omega)|(simp only [Fw];omega))<|Ge0 (Cr (α:=Bool) (xs:=out) (e:=4) (new:=(e_ R k).on) ty4 C C C om ta4 am) ?_
   exact Bl<|Ap<|Al<|A0 (S6 0 1 2 8 9 10)<|A1<|Gm C<|Gr (Rad C C)<|Ga C<|Bl<|Bh ((k+1),(List.set on ((e_ R k).al).toNat ((e_ R k).on)),(List.set out ((e_ R k).al).toNat ((e_ R k).on)))<|by dsimp only;exact ⟨om,(by rw [am1 om,←aa];unfold stepT;first|rw [By ab]|rw [An ab]),(ba5 (k:=k) om ae ⟨by omega,by rw [←E];exact ah⟩)⟩
  exact A4<|Ap<|Al<|A1<|Gm C<|Gr (Rad C C)<|Ga C<|Bl<|Bh ((k+1),(List.set on ((e_ R k).al).toNat ((e_ R k).on)),(out))<|by dsimp only;exact ⟨om,(by rw [am1 om,←aa];unfold stepT;first|rw [By ab]|rw [An ab]),(ba5 (k:=k) om ae ⟨by omega,by rw [←E];exact ah⟩)⟩
 refine B6<|Ao<|Ao<|A5<|Al<|Aj<|Gm C<|Ga C<|Ga C<|Aq<|Bq ?_
 have ai:cm0 (replicate n false) R:=by rwa [Gb om] at ae
 have hE:out=H7 (n:Int) T R:=by have h:=Fz Prod.snd aa;rw [Gb om] at h;rw [cb2 (am2 hn ai)];exact h
 have aj:(replicate n (default:Bool)).length=out.length:=by rw [Fw];exact au.symm
 exact B5 C C C (vq 4 x9 y9 (H7 (n:Int) T R)::I) (by unfold vq;rw [←hE,←aj];exact Bi) ⟨x9,y9,by rw [←hE,←aj,am2 hn ai],rfl⟩
theorem dj2(hl:Sl κ I va R){n:Int}(hn:n<0\/16<n)(T:Int):er prog κ 33 [va,e7 n,e7 T] I (λr J=>r = .tuple #[.slice none 0 0,e7 1]/\I=J):=by
 refine Ce3 Tryz.func33 C C<|Z ?_
 refine Au (d:=14) C (λE=>Z ?_)<|λE=>Z ?_
 ·exact B5 C C C I Af ⟨rfl,rfl⟩
 refine Am C (λM=>Z ?_)<|λM=>?_
 ·exact B5 C C C I Af ⟨rfl,rfl⟩
 exact absurd M om
theorem ch5(hl:Sl κ I M R)(n T:Int):er prog κ 33 [M,e7 n,e7 T] I λr J=>∃a c,r = .tuple #[.slice a (H7 n T R).length c,e7 (U1 n R)]/\∃K,J=K/\Fit κ K (vq 4 a c (H7 n T R)::I):=by
 by_cases h:n<0\/16<n
 ·refine (dj2 hl h T).mono λr J q=>?_
  have E:U1 n R=1:=cb3 h
  have hr:H7 n T R=[]:=ab7 (by rw [E];decide)
  exact ⟨none,0,by rw [q.1,hr,E];rfl,J,rfl,by rw [←q.2,hr];exact Bb (α:=Bool) _ _⟩
 obtain ⟨m,rfl⟩:=Hv (show 0<=n by omega)
 exact (dj3 hl om T).mono λr J ⟨a,c,h1,h2⟩=>⟨a,c,h1,J,rfl,by rw [h2];exact Di _⟩
end Go.Sl
namespace Go.Sl
open Go.Proofs
set_option maxRecDepth 4000
theorem dz5(a0:Option Addr)(E:Nat):au9 2 2 3 0 [evA] [⟨3,0,0,a0,E,[0,1],0,1⟩,⟨1,0,1,none,0,[],0,0⟩]=0:=by
 have h1:J3 2 3 0 0 [0,1] 0 1=0:=by decide+kernel
 have M:J3 2 1 0 1 [] 0 0=0:=by decide+kernel
 unfold au9
 rw [An dc,An dc,An<|by simp]
 show (if J3 2 3 0 0 [0,1] 0 1≠0 then _ else if J3 2 1 0 1 [] 0 0≠0 then _ else 0)=0
 rw [h1,M]
 rfl
theorem gb1(E:Option Addr)(M:Nat):ap2 2 2 3 0 [evA] [⟨3,0,0,E,M,[0,1],0,1⟩,⟨1,0,1,none,0,[],0,0⟩]=[⟨0,0,true⟩,⟨4,1,true⟩,⟨7,1,false⟩]:=(bt4 (dz5 E M)).trans (cq0 E M)
theorem ar2{κ:Ctx}{I:List Item}(hT:P6 κ I 0 F3):er prog κ 17 [] I (λr J=>r = .bool true/\I=J):=by
 refine Ce0 Tryz.func17 C C ?_
 refine Aj<|Ga C<|Aq<|Aj<|Ge1 (Bt (α:=Int) (cs:=[_,_]) (xs:=[0,1]) Ab ef C C dc dc C C C C) λM=>?_
 refine Gr (B1 (cells:=[_,_]) P0 Tryz.underlying40 gw5 C C)<|Gr (B1 (cells:=[_,_,_,_,_,_]) P1 C9 gq2 C C)<|Ge1 (Ah P1 C) λb2=>Ge0 (Dp P1) ?_
 refine Aq<|Aj<|Gr (B1 (cells:=[_,_,_,_,_,_]) P1 C9 gq2 C C)<|Ge1 (Ah P1 C) λb3=>Ge0 (Dp P1) ?_
 refine Aq<|Aj<|Gr (B1 (cells:=[_,_,_,_,_,_,_]) j7 Tryz.underlying108 gh9 C C)<|Ge1 (Bt (α:=Ev) (cs:=[e7 1,e7 4,e7 0,e7 1,e7 1,e7 0,e7 1]) (xs:=[⟨1,4,0,1,1,0,1⟩]) As j7 C C dc dc C kr C C) λab=>?_
 refine Gr (B1 (cells:=[_,_,_]) ah8 Tryz.underlying31 gw6 C C)<|Gl6 P1 ?_
 refine Gl6 P1 ?_
 refine Ge1 (Bt (α:=AlV) (cs:=[e7 3,e7 0,e7 0,.slice M 2 2,e7 0,e7 1,e7 1,e7 0,e7 1,.slice none 0 0,e7 0,e7 0]) (xs:=[⟨3,0,0,M,2,([0,1]:List Int),0,1⟩,⟨1,0,1,none,0,[],0,0⟩]) Be P1 C C dc dc C kr C C) λad=>?_
 refine G.e (Ac c_ C C<|bj2 (nd:=2) (kd:=2) (wd:=3) (mo:=0) (es:=([⟨1,4,0,1,1,0,1⟩]:List Ev)) (als:=([⟨3,0,0,M,2,([0,1]:List Int),0,1⟩,⟨1,0,1,none,0,[],0,0⟩]:List AlV)) (ea:=ab) (ec:=1) (aa:=ad) (ac:=2) A6 A6 (by intro x hx;simp only [Gh,Hy,Kx] at hx;rcases hx with rfl|rfl;(· exact Ed (xs:=[0,1]) mm);(· exact Sl.nil _)) dc<|Cb hT Af) ?_
 rintro _ _ ⟨_,_,⟨ae,ai,rfl,rfl⟩,rfl,rfl⟩
 refine Gm C<|Gr (Av C C)<|Gr (Av C C)<|Ga C<|Ga C<|Aq<|A0 (S2 4 3)<|Aj<|Gm C<|Gr (B7 C C)<|Gm C<|Au (d:=21) C (λE=>?_)<|λE=>?_
 ·refine e9 (Ad C) (e9 (B1 (cells:=[_,_,_]) bt6 C8 ge3 C C)<|e9 (B1 (cells:=[_,_,_]) bt6 C8 ge3 C C)<|e9 (B1 (cells:=[_,_,_]) bt6 C8 ge3 C C)<|D0 (B9 C C C) (Bt (α:=Rg) (cs:=[e7 0,e7 0,.bool true,e7 4,e7 1,.bool true,e7 7,e7 1,.bool false]) (xs:=[⟨0,0,true⟩,⟨4,1,true⟩,⟨7,1,false⟩]) Cq bt6 C C dc dc C kr C C) ?_)
  rintro _ _ ⟨ah,rfl,rfl⟩
  refine D0 (B9 C C C) (Ac c_ C C<|bj7 A6 A6) ?_
  rintro _ _ ⟨_,_,⟨rfl,rfl⟩,rfl,rfl⟩
  exact Gr (Br C C)<|Ga C<|Aq<|A0 (S1 0)<|Bq<|Ak C C I Af ⟨by rw [D_ (by exact gb1 _ _)],rfl⟩
 exact absurd (dz5 _ _) E
end Go.Sl
