/- A part of the proofs of statements of this seat: contracts of functions, and the plain laws that they lean on. No conditions. -/
import Derived.Test.YtfkcohmipjhfcaaGreatDoorB23
import Derived.OrdersIn
import Derived.Test.YtfkcohmipjhfcaaGreatDoorB22
set_option linter.unusedVariables false
set_option linter.unusedSimpArgs false
set_option linter.unusedSectionVars false
open Go.Proofs.Tryz (prog)
set_option maxHeartbeats 4000000
namespace Go.Sl
open Go.Proofs
set_option maxRecDepth 4000
variable{T kd mo nd wd z:Int}{ys:List Lk}{es zs:List Ev}{k:Nat}
theorem di1(E:kd=2)(h:0<ys.length/\ae4 ys+wd<=T)(M:z=ae4 ys+wd):Z9 kd wd mo T (ys,zs)=Z9 kd wd mo T (ys.filter (inW kd wd mo z ys),zs++F6 kd wd mo z ys):=by
 subst E M
 unfold Z9
 rw [By rfl,By rfl]
 exact bj0 h
theorem bs1(h:kd=2->¬(0<ys.length/\ae4 ys+wd<=T)):Z9 kd wd mo T (ys,zs)=(ys,zs):=by
 unfold Z9
 by_cases hk:kd=2
 ·rw [By hk];exact ak5 (h hk)
 rw [An hk]
theorem fa1(M:kd=2)(h:0<ys.length)(E:z=ae4 ys+wd):(ys.filter (inW kd wd mo z ys)).length<ys.length:=by
 subst M E
 exact bc8 (wd:=wd) (mo:=mo) h
theorem ca8(E:¬(nd<0\/64<nd))(M:¬65536<es.length):q8 nd es=K5 nd 0 es:=by unfold q8;rw [An E,An M]
theorem bh4{e:Ev}(E:¬s7 e≠0)(M:¬(nd<=e.u\/nd<=e.v)):ae5 nd e=0:=by unfold ae5;rw [An E,An M]
theorem bb6{e:Ev}(E:¬s7 e≠0)(M:nd<=e.u\/nd<=e.v):ae5 nd e=6:=by unfold ae5;rw [An E,By M]
theorem cy8{e:Ev}(M:s7 e≠0):ae5 nd e=s7 e:=by unfold ae5;rw [By M]
theorem ft7(M:H6 nd (e_ es k))(h:0<k->¬(e_ es k).tm<(e_ es ((k:Int) - 1)).tm):G3 es k<=(e_ es k).tm:=by
 unfold G3
 split
 ·exact M.tm.1
 have:=h om;omega
theorem du3(h:0<k):G3 es k=(e_ es ((k:Int) - 1)).tm:=by unfold G3;rw [An om]
theorem fb1{κ:Ctx}{I:List Item}{va:Value}(hl:Sl κ I va es):er prog κ 93 [e7 nd,va,.agg #[e7 kd,e7 wd,e7 mo]] I (λr J=>((K6 nd kd wd mo es)≠0/\r = .tuple #[.slice none 0 0,e7 (K6 nd kd wd mo es)]/\I=J)\/(∃a c,(K6 nd kd wd mo es)=0/\r = .tuple #[.slice a (q9 kd wd mo es).2.length c,e7 0]/\J=vq 108 a c (q9 kd wd mo es).2::I)):=by
 refine Bm hl.le λce=>?_
 refine Ce3 Tryz.func93 C C ?_
 refine Aj<|Ge1 (Ay (cs:=[_,_,_]) C C C) λb1=>Ga C<|Ga C<|Aq<|Ax<|Aj<|Gl3 ah8 ?_
 refine Gc0 (Ac c_ C C<|ae2 kd wd mo) ?_
 refine Ga C<|Aq<|Aj<|Gm C<|Gr (Cu C C)<|Aq<|Am C (λM=>?_)<|λM=>?_
 ·refine Aj (Gm C<|Ga C<|Ga C<|Aq<|A0 (S2 7 6)<|Bq<|Az ?_)
  have E:(K6 nd kd wd mo es)=r7 kd wd mo:=by unfold K6;rw [By M]
  exact B5 C C C I Af<|.inl ⟨by rw [E];exact M,by rw [E],rfl⟩
 refine A4<|Al<|Ax<|Aj<|Gm C<|Gr (Bp C C)<|Gm C<|Au (d:=28) C (λbz=>?_)<|λbz=>?_
 ·refine eb (eb<|Gr (Br C C)<|Aq<|A0 (S4 31 5 0 1)<|W.yes C<|Aj<|Ga C<|Ga C<|Aq<|Bq<|Az ?_)
  have E:(K6 nd kd wd mo es)=1:=(P3 M).trans ta6
  exact B5 C C C I Af<|.inl ⟨by rw [E];decide,by rw [E],rfl⟩
 refine e9 (Ad C)<|e9 (Cl C C)<|Gr (Bg C C)<|Aq<|A0 (S4 31 5 0 1)<|Am C (λb6=>?_)<|λb6=>?_
 ·refine Aj (Ga C<|Ga C<|Aq<|Bq<|Az ?_)
  have E:(K6 nd kd wd mo es)=1:=(P3 M).trans ta6
  exact B5 C C C I Af<|.inl ⟨by rw [E];decide,by rw [E],rfl⟩
 refine A4<|Al<|Ax<|Aj<|Gm C<|Gr (C3 (α:=Ev) (xs:=es) As C<|Bc hl)<|Gr (Cl C C)<|Aq<|Am C (λb4=>?_)<|λb4=>?_
 ·refine Aj (Ga C<|Ga C<|Aq<|Bq<|Az ?_)
  have E:(K6 nd kd wd mo es)=3:=(P3 M).trans (by unfold q8;rw [An om,By om])
  exact B5 C C C I Af<|.inl ⟨by rw [E];decide,by rw [E],rfl⟩
 refine A4<|Al<|Aj<|Gm C<|Gr (B1 (cells:=[_,_]) s5 Dc bu9 C C)<|Ge1 (Ah s5 C) λb2=>Ge0 (Ba s5) ?_
 refine Aq<|Aj<|Ga C<|Aq<|Ax<|Aj<|Gm C<|Gr (C3 (α:=Ev) (xs:=es) As C<|Bc hl)<|Gm C<|Aq<|A0 (S8 39 38 37 10 9 5 0 1)<|A3<|B4 (σ:=Nat×(Option Addr)×Nat×(Option Addr)×Nat×(List Lk)×(List Ev)) (λs=>([(0,e7 nd),(1,va),(5,pt b1),(9,pt b2),(10,.slice s.2.2.2.1 s.2.2.2.2.2.2.length s.2.2.2.2.1),(37,va),(38,e7 ((es.length:Nat):Int)),(39,e7 ((s.1:Nat):Int))]:Env)) (λs=>e8 b2 [e7 nd,.slice s.2.1 s.2.2.2.2.2.1.length s.2.2.1] 111::vq 146 s.2.1 s.2.2.1 s.2.2.2.2.2.1::vq 108 s.2.2.2.1 s.2.2.2.2.1 s.2.2.2.2.2.2::e8 b1 [e7 kd,e7 wd,e7 mo] 31::I) (λs=>(s.1<=es.length)/\(q9 kd wd mo (List.take s.1 es)=(s.2.2.2.2.2.1,s.2.2.2.2.2.2))/\(SlI nd kd wd (G3 es s.1) s.2.2.2.2.2.1)/\(s.2.2.2.2.2.1.length+s.2.2.2.2.2.2.length<=2*s.1)/\(q8 nd es=K5 nd (G3 es s.1) (es.drop s.1))/\(0<=G3 es s.1)) (λs=>es.length - s.1) (0,none,0,none,0,[],[]) ⟨om,rfl,(SlI.nil om),(by simp),(ca8 om om),(Hn _)⟩ (cx4<|Aa (Da C<|by first|rfl|simp)<|cx2<|Aa Co A9) (Bz (Bb 108 _)<|Bz (Bb 146 _) Bi) ?_
 rintro ⟨k,a1,c1,o1,d1,xs,out⟩ hp
 dsimp only at hp ⊢
 obtain ⟨hk,az,hI,hs,aj,cj⟩:=hp
 refine Aj<|Gr (Bp C C)<|Aq<|Ax<|Am C (λb8=>?_)<|λb8=>?_
 ·refine A4 (Al<|Ax<|A3<|Aj<|Gm C<|Gr (A2 (α:=Ev) (xs:=es) As j7 C C (Bc hl) om om)<|Gr (Cd (α:=Ev) (xs:=es) j7 C (Bc hl) om om)<|Ge1 (Ah j7 C) λb3=>Ga C<|Ge0 (Fa j7) ?_)
  refine Aq<|A0 (S10 11 12 0 1 5 9 10 37 38 39)<|Ax<|Aj<|Gl7 j7 ?_
  refine Gc0 (Ac c_ C C<|ao1<|e_ es k) ?_
  refine Ga C<|Aq<|Aj<|Gm C<|Gr (Cu C C)<|Aq<|A0 (S12 47 13 11 12 0 1 5 9 10 37 38 39)<|Am C (λaa=>?_)<|λaa=>?_
  ·refine Aj (Gm C<|Ga C<|Ga C<|Aq<|A0 (S2 7 6)<|Bq<|Az<|Bf<|Az<|Az<|Bf<|Az ?_)
   have E:(K6 nd kd wd mo es)=s7 (e_ es k):=(P3 M).trans (aj.trans<|(L7 om<|by rw [cy8 aa];exact aa).trans (cy8 aa))
   exact B5 C C C I Af<|.inl ⟨by rw [E];exact aa,by rw [E],rfl⟩
  refine A4<|Al<|Ax<|Aj<|Gf X7 C<|Gl ef ?_
  refine Gm C<|Gr (Eo C C)<|Gm C<|Au (d:=53) C (λca=>?_)<|λca=>?_
  ·refine eb (eb<|eb<|eb<|Gr (Br C C)<|Aq<|A0 (S11 58 11 12 0 1 5 9 10 37 38 39)<|W.yes C<|Aj<|Ga C<|Ga C<|Aq<|Bq<|Az<|Bf<|Az<|Az<|Bf<|Az ?_)
   have E:(K6 nd kd wd mo es)=6:=(P3 M).trans (aj.trans<|(L7 om<|by rw [bb6 aa om];decide).trans (bb6 aa om))
   exact B5 C C C I Af<|.inl ⟨by rw [E];decide,by rw [E],rfl⟩
  refine e9 (Ai L9 C)<|e9 (Bd ef) ?_
  refine e9 (Ad C)<|e9 (Eo C C)<|Gr (Bg C C)<|Aq<|A0 (S11 58 11 12 0 1 5 9 10 37 38 39)<|Am C (λbq=>?_)<|λbq=>?_
  ·refine Aj (Ga C<|Ga C<|Aq<|Bq<|Az<|Bf<|Az<|Az<|Bf<|Az ?_)
   have E:(K6 nd kd wd mo es)=6:=(P3 M).trans (aj.trans<|(L7 om<|by rw [bb6 aa om];decide).trans (bb6 aa om))
   exact B5 C C C I Af<|.inl ⟨by rw [E];decide,by rw [E],rfl⟩
  refine A4<|Al<|D2 (σ:=Nat) (λs=>([(0,e7 nd),(1,va),(5,pt b1),(9,pt b2),(10,.slice o1 out.length d1),(12,pt b3),(37,va),(38,e7 ((es.length:Nat):Int)),(39,e7<|(k:Int))]:Env)) (λs=>e8 b3 (ye (e_ es k)) 108::e8 b2 [e7 nd,.slice a1 xs.length c1] 111::vq 146 a1 c1 xs::vq 108 o1 d1 out::e8 b1 [e7 kd,e7 wd,e7 mo] 31::I) (λs=>(G3 es k<=(e_ es k).tm)/\(H6 nd<|e_ es k)) ?_ ?_
  ·refine Ax (A8 mixed<|C1 13<|Dr 0 C (Ad C)<|Dr 1 C (Cl C C)<|Dr 2 C (Ad C)<|Cw (d:=61) C (λbx=>?_)<|λbx=>?_)
   ·refine Dro 3 C (Ad C) (Dro 4 C (Ad C)<|Dro 5 C (Rsu C C)<|Dro 6 C (A2 (α:=Ev) (xs:=es) As j7 C C (Bc hl) om om)<|Dro 7 C (D4 (α:=Ev) (xs:=es) K0 C (Bc hl) om)<|Dro 8 C (D9 (α:=Ev) (xs:=es) (u:=e7 ((e_ es<|(k:Int) - 1).tm)) ef C (Bc hl) om om C)<|Dro 9 C (Ai K0 C)<|Dro 10 C (Bd ef) ?_)
    refine Dro 11 C (Cl C C)<|Dr 12 C (Br C C)<|Dz<|Al<|A0 (S10 71 12 0 1 5 9 10 37 38 39)<|Am C (λbr=>?_)<|λbr=>?_
    ·refine Aj (Ga C<|Ga C<|Aq<|Bq<|Az<|Bf<|Az<|Az<|Bf<|Az ?_)
     have E:(K6 nd kd wd mo es)=9:=(P3 M).trans (aj.trans<|ab6 om (bh4 aa om)<|by rw [du3 om];omega)
     exact B5 C C C I Af<|.inl ⟨by rw [E];decide,by rw [E],rfl⟩
    exact A4<|Bu ((0)) ⟨(ft7 (nd:=nd) (X2.1<|bh4 aa om)<|λbu=>by omega),(X2.1<|bh4 aa om)⟩ (hI:=by (try dsimp only);exact (Di _))
   exact Dpo 3 C<|Dpo 4 C<|Dpo 5 C<|Dpo 6 C<|Dpo 7 C<|Dpo 8 C<|Dpo 9 C<|Dpo 10 C<|Dpo 11 C<|Dr 12 C (Bg C C)<|Dz<|Al<|A0 (S10 71 12 0 1 5 9 10 37 38 39)<|W.no C<|A4<|Bu ((0)) ⟨(ft7 (nd:=nd) (X2.1<|bh4 aa om)<|λbu=>by omega),(X2.1<|bh4 aa om)⟩ (hI:=by (try dsimp only);exact (Di _))
  rintro u0 hp
  obtain ⟨a8,ae⟩:(G3 es k<=(e_ es k).tm)/\(H6 nd<|e_ es k):=hp
  refine D2 (σ:=(Option Addr)×Nat×(Option Addr)×Nat×(List Lk)×(List Ev)) (λs=>([(0,e7 nd),(1,va),(5,pt b1),(9,pt b2),(10,.slice s.2.2.1 s.2.2.2.2.2.length s.2.2.2.1),(12,pt b3),(37,va),(38,e7 ((es.length:Nat):Int)),(39,e7<|(k:Int))]:Env)) (λs=>e8 b2 [e7 nd,.slice s.1 s.2.2.2.2.1.length s.2.1] 111::vq 146 s.1 s.2.1 s.2.2.2.2.1::vq 108 s.2.2.1 s.2.2.2.1 s.2.2.2.2.2::e8 b1 [e7 kd,e7 wd,e7 mo] 31::e8 b3 (ye (e_ es k)) 108::I) (λs=>((Z9 kd wd mo (e_ es k).tm (xs,out))=(s.2.2.2.2.1,s.2.2.2.2.2))/\(SlI nd kd wd (e_ es k).tm s.2.2.2.2.1)/\(s.2.2.2.2.1.length+s.2.2.2.2.2.length=xs.length+out.length)) ?_ ?_
  ·refine A3 (B4 (σ:=(Option Addr)×Nat×(Option Addr)×Nat×(List Lk)×(List Ev)) (λs=>([(0,e7 nd),(1,va),(5,pt b1),(9,pt b2),(10,.slice s.2.2.1 s.2.2.2.2.2.length s.2.2.2.1),(12,pt b3),(37,va),(38,e7 ((es.length:Nat):Int)),(39,e7<|(k:Int))]:Env)) (λs=>e8 b2 [e7 nd,.slice s.1 s.2.2.2.2.1.length s.2.1] 111::vq 146 s.1 s.2.1 s.2.2.2.2.1::vq 108 s.2.2.1 s.2.2.2.1 s.2.2.2.2.2::e8 b1 [e7 kd,e7 wd,e7 mo] 31::e8 b3 (ye (e_ es k)) 108::I) (λs=>((Z9 kd wd mo (e_ es k).tm (xs,out))=Z9 kd wd mo (e_ es k).tm (s.2.2.2.2.1,s.2.2.2.2.2))/\(SlI nd kd wd (G3 es k) s.2.2.2.2.1)/\(s.2.2.2.2.1.length+s.2.2.2.2.2.length=xs.length+out.length)) (λs=>s.2.2.2.2.1.length) (a1,c1,o1,d1,xs,out) ⟨rfl,hI,rfl⟩ (cx4<|Aa (Da C<|by first|rfl|simp)<|cx2<|Aa C<|Aa C A9) Bi ?_)
   rintro ⟨a3,c3,o3,d3,us,vs⟩ hp
   dsimp only at hp ⊢
   obtain ⟨ao,hJ,bk⟩:=hp
   refine A3<|Aj<|Gl2 s5 ?_
   refine Gl3 ah8 ?_
   refine G.e (Ac c_ C C<|fa8 (nd:=nd) (kd:=kd) (wd:=wd) (mo:=mo) A6) ?_
   rintro _ _ ⟨_,_,⟨ab,rfl,ah,rfl⟩,rfl,rfl⟩
   refine Gm C<|Gr (Av C C)<|Gr (Av C C)<|Gr (Av C C)<|Ga C<|Ga C<|Ga C<|Aq<|A0 (S11 15 14 0 1 5 9 10 12 37 38 39)<|Ax<|Aj<|Gm C<|Gr (Fi C)<|Gm C<|Au (d:=81) C (λav=>?_)<|λav=>?_
   ·refine eb (eb<|eb<|eb<|Gr (Br C C)<|Aq<|A0 (S11 86 14 0 1 5 9 10 12 37 38 39)<|W.yes C<|B6<|Ao<|Eu C<|Ao<|A5 ?_)
    have ad:kd=2->¬(0<us.length/\ae4 us+wd<=(e_ es k).tm):=λa0 h=>by have hc:ac6 nd us kd wd mo:=⟨bd2 M<|λh=>h hJ.val,a0,Ku.1 h.1⟩;first|exact absurd hc av|(have E:=R9 (ah.yes hc);omega)
    exact Bu ((a3),(c3),(o3),(d3),(us),(vs))<|by dsimp only;exact ⟨(ao.trans<|bs1 ad),(hJ.later a8 ad),bk⟩
   refine e9 (Ad C)<|e9 (Ai K0 C)<|e9 (Bd ef) ?_
   refine e9 (Cl C C)<|Gr (Bg C C)<|Aq<|A0 (S11 86 14 0 1 5 9 10 12 37 38 39)<|Am C (λb5=>?_)<|λb5=>?_
   ·refine B6 (Ao<|Eu C<|Ao<|A5 ?_)
    have ad:kd=2->¬(0<us.length/\ae4 us+wd<=(e_ es k).tm):=λa0 h=>by have hc:ac6 nd us kd wd mo:=⟨bd2 M<|λh=>h hJ.val,a0,Ku.1 h.1⟩;first|exact absurd hc av|(have E:=R9 (ah.yes hc);omega)
    exact Bu ((a3),(c3),(o3),(d3),(us),(vs))<|by dsimp only;exact ⟨(ao.trans<|bs1 ad),(hJ.later a8 ad),bk⟩
   refine A4<|Al<|Aj<|Gl2 s5 ?_
   refine Gl3 ah8 ?_
   refine Gm C ?_
   have ch:=ae.tm
   have hc:ac6 nd us kd wd mo:=by first|exact B_.1 av|assumption
   have an:0<us.length:=Ku.2 hc.2.2
   have E:ab=ae4 us+wd:=R9 (ah.yes hc)
   have cm:=hJ.first hc.2.1 an
   have bf:aq8 nd us kd wd mo ab=0:=hJ.ask (B_.1 M) om om
   have cf:=H5 kd wd mo ab us
   refine G.e (Ac c_ C C<|bk5 (nd:=nd) (kd:=kd) (wd:=wd) (mo:=mo) (nw:=ab) (xs:=us) A6<|by first|omega|(have h:=y6 ys (e_ es k);omega)) ?_
   rintro _ _ ⟨_,_,(⟨aw,rfl,rfl⟩|⟨bp,b9,cb,rfl,rfl⟩),rfl,rfl⟩
   ·exact absurd bf aw
   skip
   refine Gm C<|Gr (Av C C)<|Gr (Av C C)<|Ga C<|Ga C<|Aq<|A0 (S10 17 0 1 5 9 10 12 37 38 39)<|Aj<|Gl2 s5 ?_
   refine Gm C<|G.e (Ac c_ C C<|Cm (J:=vq 146 a3 c3 us::vq 108 bp b9 (F6 kd wd mo ab us)::e8 b2 [e7 nd,.slice a3 us.length c3] 111::vq 108 o3 d3 vs::e8 b1 [e7 kd,e7 wd,e7 mo] 31::e8 b3 (ye (e_ es k)) 108::I) Bi<|ck9 (nd:=nd) (xs:=us) (es:=F6 kd wd mo ab us) A6 hJ.val (bx2 hJ.val om)<|by first|omega|(have h:=y6 ys (e_ es k);have h9:=H5 kd wd mo (e_ es k).tm (eo ys<|e_ es k);omega)) ?_
   rintro _ _ ⟨_,_,⟨⟨bt,bv,ci⟩,rfl,rfl⟩,rfl,rfl⟩
   refine Gm C<|Gr (Av C C)<|Gr (Av C C)<|Gr (Av C C)<|Ge0 (Ba s5) ?_
   refine Aq<|A0 (S10 17 0 1 5 9 10 12 37 38 39)<|A1<|Gm C<|Gm C<|Ge2 (Bv (α:=Ev) (e:=108) (xs:=vs) (ys:=F6 kd wd mo ab us) As j7 C C C mm A6 (by first|omega|(simp only [A_,Fu,F_];omega)|(have h:=y6 ys (e_ es k);have h9:=H5 kd wd mo (e_ es k).tm (eo ys<|e_ es k);first|omega|(simp only [A_,Fu,F_];omega))) dc C<|λ_ _=>am) λbc a6=>?_
   refine Ga C<|Bl<|Ap ?_
   have hg:=U5 (kd:=kd) (wd:=wd) (mo:=mo) (nw:=ab) hJ.val
   have bo:=H5 kd wd mo ab us
   exact Bh ((bt),(bv),(bc),(a6),(List.filter (inW kd wd mo ab us) us),(vs++F6 kd wd mo ab us)) (by dsimp only;exact ⟨(ao.trans<|di1 hc.2.1 ⟨an,by omega⟩ E),(hJ.filter _),(by rw [A_];omega)⟩) (hlt:=by (try dsimp only);exact (fa1 hc.2.1 an E)) (hI:=by (try dsimp only);exact (by rw [←hg];exact Bi))
  rintro ⟨a2,c2,o2,d2,ys,zs⟩ hp
  obtain ⟨a4,a9,ck⟩:((Z9 kd wd mo (e_ es k).tm (xs,out))=(ys,zs))/\(SlI nd kd wd (e_ es k).tm ys)/\(ys.length+zs.length=xs.length+out.length):=hp
  refine Aj<|Gl2 s5 ?_
  refine Gl7 j7 ?_
  refine G.e (Ac c_ C C<|au6 (nd:=nd) (e:=(e_ es k)) A6 a9.val ae om) ?_
  rintro _ _ ⟨_,_,⟨⟨aq,ak,cg,bi,cd⟩,⟨rfl,au⟩,rfl⟩,rfl,rfl⟩
  have au:bi<=2*ys.length+1:=au
  refine Gm C<|Gr (Av C C)<|Gr (Av C C)<|Gr (Av C C)<|Ge0 (Ba s5) ?_
  have ai:SlI nd kd wd (e_ es k).tm (eo ys<|e_ es k):=a9.step ae rfl (br1<|B_.1 M)
  have bh:q8 nd es=K5 nd (G3 es<|k+1) (es.drop<|k+1):=aj.trans (Q7 om (X2.2 ae) om)
  refine Aq<|A0 (S9 0 1 5 9 10 12 37 38 39)<|Aj<|Gm C<|Gl7 j7 ?_
  refine Ge1 (Bt (α:=Ev) (cs:=(ye (e_ es k))) (xs:=[⟨(e_ es k).kd,(e_ es k).tm,(e_ es k).u,(e_ es k).v,(e_ es k).w,(e_ es k).lb,(e_ es k).sg⟩]) As j7 C C dc dc C kr C C) λbg=>?_
  refine Ge2 (Bv (α:=Ev) (e:=108) (xs:=zs) (ys:=([⟨(e_ es k).kd,(e_ es k).tm,(e_ es k).u,(e_ es k).v,(e_ es k).w,(e_ es k).lb,(e_ es k).sg⟩]:List Ev)) As j7 C C C mm A6 (by first|omega|(simp only [A_,Fu,F_];omega)|(have h:=y6 ys (e_ es k);have h9:=H5 kd wd mo (e_ es k).tm (eo ys<|e_ es k);first|omega|(simp only [A_,Fu,F_];omega))) dc C<|λ_ _=>am) λax ay=>?_
  refine Ga C<|Aq<|A0 (S9 10 0 1 5 9 12 37 38 39)<|Aj<|Gf ac5 C<|Gl ef ?_
  refine Gr (B7 C C)<|Aq<|Am C (λap=>?_)<|λap=>?_
  ·refine Aj (Gl2 s5 ?_)
   refine Gl3 ah8 ?_
   refine Gf K0 C<|Gl ef ?_
   refine G.e (Ac c_ C C<|bk5 (nd:=nd) (kd:=kd) (wd:=wd) (mo:=mo) (nw:=((e_ es k).tm)) (xs:=eo ys (e_ es k)) A6<|by first|omega|(have h:=y6 ys (e_ es k);omega)) ?_
   rintro _ _ ⟨_,_,(⟨ar,rfl,rfl⟩|⟨bb,a7,bn,rfl,rfl⟩),rfl,rfl⟩
   ·exact absurd (ai.ask (B_.1 M) ae.tm<|Hn _) ar
   skip
   refine Gm C<|Gr (Av C C)<|Gr (Av C C)<|Ga C<|Ga C<|Aq<|A0 (S9 19 10 0 1 5 9 37 38 39)<|Aj<|Gl2 s5 ?_
   refine Gm C<|G.e (Ac c_ C C<|Cm (J:=vq 146 aq ak (eo ys<|e_ es k)::vq 108 bb a7 (F6 kd wd mo ((e_ es k).tm)<|eo ys<|e_ es k)::vc 108 (.slice bg 1 1) (([⟨(e_ es k).kd,(e_ es k).tm,(e_ es k).u,(e_ es k).v,(e_ es k).w,(e_ es k).lb,(e_ es k).sg⟩]:List Ev))::e8 b2 [e7 nd,.slice aq (eo ys<|e_ es k).length ak] 111::vq 146 a2 c2 ys::vq 108 ax ay (zs++([⟨(e_ es k).kd,(e_ es k).tm,(e_ es k).u,(e_ es k).v,(e_ es k).w,(e_ es k).lb,(e_ es k).sg⟩]:List Ev))::e8 b1 [e7 kd,e7 wd,e7 mo] 31::e8 b3 (ye (e_ es k)) 108::I) Bi<|ck9 (nd:=nd) (xs:=eo ys (e_ es k)) (es:=F6 kd wd mo ((e_ es k).tm) (eo ys<|e_ es k)) A6 ai.val (bx2 ai.val ae.tm)<|by first|omega|(have h:=y6 ys (e_ es k);have h9:=H5 kd wd mo (e_ es k).tm (eo ys<|e_ es k);omega)) ?_
   rintro _ _ ⟨_,_,⟨⟨bj,ba,cc⟩,rfl,rfl⟩,rfl,rfl⟩
   refine Gm C<|Gr (Av C C)<|Gr (Av C C)<|Gr (Av C C)<|Ge0 (Ba s5) ?_
   refine Aq<|A0 (S9 19 10 0 1 5 9 37 38 39)<|A1<|Gm C<|Gm C<|Ge2 (Bv (α:=Ev) (e:=108) (xs:=zs++([⟨(e_ es k).kd,(e_ es k).tm,(e_ es k).u,(e_ es k).v,(e_ es k).w,(e_ es k).lb,(e_ es k).sg⟩]:List Ev)) (ys:=F6 kd wd mo ((e_ es k).tm) (eo ys<|e_ es k)) As j7 C C C mm A6 (by first|omega|(simp only [A_,Fu,F_];omega)|(have h:=y6 ys (e_ es k);have h9:=H5 kd wd mo (e_ es k).tm (eo ys<|e_ es k);first|omega|(simp only [A_,Fu,F_];omega))) dc C<|λ_ _=>am) λbm a5=>?_
   refine Ga C<|Bl<|Ap<|Al<|A1<|Gr (Rad C C)<|Gm C<|Bl ?_
   have bo:=H5 kd wd mo (e_ es k).tm (eo ys<|e_ es k)
   have b7:=y6 ys (e_ es k)
   have bw:=U5 (kd:=kd) (wd:=wd) (mo:=mo) (nw:=(e_ es k).tm) ai.val
   exact Bh ((k+1),(bj),(ba),(bm),(a5),(List.filter (inW kd wd mo (e_ es k).tm (eo ys<|e_ es k))<|eo ys<|e_ es k),(zs++[(e_ es k)]++F6 kd wd mo (e_ es k).tm (eo ys<|e_ es k))) (by dsimp only;exact ⟨om,(by rw [H9 om,az];exact ay7 a4 ap),(by rw [G0];exact ai.filter _),lap,bh,(by rw [G0];exact ae.tm.1)⟩) (hI:=by (try dsimp only);exact (by rw [←bw];exact Bi))
  refine A4<|Ap<|Al<|A1<|Gr (Rad C C)<|Gm C<|Bl ?_
  have b7:=y6 ys (e_ es k)
  exact Bh ((k+1),(aq),(ak),(ax),(ay),((eo ys<|e_ es k)),(zs++[(e_ es k)]))<|by dsimp only;exact ⟨om,(by rw [H9 om,az];exact bq5 a4 ap),(by rw [G0];exact ai),lap,bh,(by rw [G0];exact ae.tm.1)⟩
 refine B6<|Ao<|Ao<|A5<|Al<|Aj<|Gm C<|Ga C<|Ga C<|Aq<|Bq ?_
 have be:(q9 kd wd mo es)=(xs,out):=by rw [←az,show List.take k es=es from Gb om]
 have E:(K6 nd kd wd mo es)=0:=(P3 M).trans (aj.trans<|ae8 om)
 exact B5 C C C (vq 108 o1 d1 (q9 kd wd mo es).2::I) (by unfold vq;rw [be];exact Bi)<|.inr ⟨o1,d1,E,by rw [be],rfl⟩
end Go.Sl
namespace Go.Sl
open Go.Proofs
set_option maxRecDepth 4000
variable{T kd mo nd wd:Int}{E es:List Ev}{ec k:Nat}{va:Value}{ea:Option Addr}
variable {κ:Ctx}{I:List Item}
attribute [local irreducible] W G V D A j0 Eff
theorem bj4{M:Value}(hl:Sl κ I M es)(h:G6 nd kd wd mo es):er prog κ 93 [e7 nd,M,.agg #[e7 kd,e7 wd,e7 mo]] I λr J=>∃a c,r = .tuple #[.slice a (q9 kd wd mo es).2.length c,e7 0]/\J=vq 108 a c (q9 kd wd mo es).2::I:=
 (fb1 hl).mono λr J hh=>by
  rcases hh with ⟨h1,_⟩|⟨a,c,_,E,h3⟩
  ·exact absurd (ai4 h) h1
  exact ⟨a,c,E,h3⟩
theorem dn6(h:k<E.length)(M:(e_ E k).tm<=T):eh (List.filter (upT T) (List.take (k+1) E))=eo (eh (List.filter (upT T) (List.take k E))) (e_ E k):=by
 rw [Cn E k h,Hc,List.filter_cons_of_pos<|by unfold upT;exact D_ M,ad3];rfl
theorem ft1(h:k<E.length)(M:¬(e_ E k).tm<=T):eh (List.filter (upT T) (List.take (k+1) E))=eh (List.filter (upT T) (List.take k E)):=by
 rw [Cn E k h,Hc,List.filter_cons_of_neg<|by unfold upT;simp [M]];simp
theorem do7(M:0<=nd/\nd<=64)(hE:∀e∈E,H6 nd e):j8 nd (eh E)=0:=ai3 M _ _ (ca3 M) hE
theorem ft2(h0:0<=nd/\nd<=64)(M:∀e∈E,H6 nd e)(k:Nat):j8 nd (eh (List.filter (upT T) (List.take k E)))=0:=do7 h0 λe he=>M e (Lh (G_.1 he).1)
theorem dn7(h0:0<=nd/\nd<=64)(M:∀e∈E,H6 nd e):j8 nd (eh (List.filter (upT T) E))=0:=do7 h0 λe he=>M e (G_.1 he).1
theorem gf1(hw:r7 kd wd mo=0)(h0:0<=nd/\nd<=64)(M:∀e∈E,H6 nd e)(hT:0<=T/\T<=1048576):aq8 nd (eh (List.filter (upT T) E)) kd wd mo T=0:=
 gm7 hw (dn7 h0 M) hT (ct9 _ _ (λx hx=>by cases hx) λe he=>Gc (G_.1 he).2)
theorem cu8(h:kd=2):gh2 kd wd mo es T=List.filter (inW kd wd mo T (eh (List.filter (upT T) (q9 kd wd mo es).2))) (eh (List.filter (upT T) (q9 kd wd mo es).2)):=by
 subst h;unfold gh2;rw [By rfl,ce2]
theorem dq0(h:¬kd=2):gh2 kd wd mo es T=eh (List.filter (upT T) (q9 kd wd mo es).2):=An h
theorem dm9(hl:Sl κ I va es)(M:da8 nd es):er prog κ 86 [e7 nd,va] I (λr J=>r=e7 0/\I=J):=by
 refine Bm hl.le λao=>?_
 refine Ce2 Tryz.func86 C C<|Z ?_
 refine Au (d:=10) C (λaa=>?_)<|λaa=>Z ?_
 ·exact absurd aa<|by have:=M.nodes;omega
 refine Am C (λc13=>?_)<|λc13=>Z ?_
 ·exact absurd c13<|by have:=M.nodes;omega
 refine Am C (λae=>?_)<|λae=>Z ?_
 ·exact absurd ae<|by have:=M.len;omega
 refine Dl (σ:=Nat) (λs=>[(19,e7 ((s:Nat):Int))]) (λ_=>[]) (λs=>(s<=es.length)) (λs=>es.length - s) 0 (show ((0:Nat)<=es.length) from om) ?_
 rintro k hp
 have hk:=hp
 refine Z ?_
 refine Am C (λaj=>Z ?_)<|λaj=>Z ?_
 ·have E:=M.fit k om
  have ad:=M.asc k om
  refine Ge1 (Ah j7 C) λb1=>Ga C<|Ge0 (Fa j7)<|Z ?_
  refine Gc0 (Ac c_ C C<|ao1<|e_ es k)<|Z ?_
  refine Am C (λab=>?_)<|λab=>Z ?_
  ·exact absurd E.chk ab
  refine Au (d:=33) C (λai=>?_)<|λai=>Z ?_
  ·exact absurd E.fits om
  refine Am C (λah=>?_)<|λah=>?_
  ·exact absurd E.fits om
  refine A4<|Al<|Ax<|A8 mixed<|C1 13<|Z ?_
  refine Cw (d:=41) C (λan=>Z ?_)<|λan=>?_
  ·refine Am C (λak=>?_) (λak=>Z ?_)
   ·unfold G3 at ad;rw [An om] at ad;omega
   exact Bh ((k+1)) om
  refine Dpo 3 C<|Z ?_
  exact Bh ((k+1)) om
 exact Ak C C I Af ⟨rfl,rfl⟩
theorem dm2(M:Sl κ I (.slice ea es.length ec) es)(hH:G6 nd kd wd mo es):er prog κ 95 [e7 nd,.slice ea es.length ec,.agg #[e7 kd,e7 wd,e7 mo]] I (λr J=>r=e7 0/\I=J):=by
 refine Ce3 Tryz.func95 C C ?_
 refine Aj<|Ge1 (Ay (cs:=[_,_,_]) C C C) λb1=>Z ?_
 refine Gc0 (Ac c_ C C<|ae2 kd wd mo)<|Z ?_
 refine Am C (λc11=>?_)<|λc11=>Z ?_
 ·exact absurd hH.win c11
 refine G.e (Ac c_ C C<|dm9 (nd:=nd) (Bc M) hH.st) ?_
 rintro _ _ ⟨_,_,⟨rfl,rfl⟩,rfl,rfl⟩
 refine Z ?_
 exact Ak C C I Af ⟨rfl,rfl⟩
theorem cj9{xs:List Lk}(hl:Sl κ I va xs)(hv:j8 nd xs=0)(ap:xs.length<=100000):er prog κ 69 [.agg #[e7 nd,va]] I (λr J=>∃a c,r = .tuple #[.agg #[e7 nd,.slice a (F4 xs).length c],e7 0]/\J=vq 135 a c (F4 xs)::I):=by
 refine Bm hl.le λaj=>?_
 refine Ce1 Tryz.func69 C C ?_
 refine Aj<|Ge1 (Ay (cs:=[_,_]) C C C) λb1=>Ge1 (Ah H2 C) λb2=>Z ?_
 refine Gc0 (Ac c_ C C<|ae3 (nd:=nd)<|Bc hl)<|Z ?_
 refine Am C (λc11=>?_)<|λc11=>Z ?_
 ·exact absurd hv c11
 refine Ge1 (Ah H2 C) λb3=>Ge0 (Ba H2)<|Z ?_
 refine Dl (σ:=Nat×(Option Addr)×Nat×(List Pt)) (λs=>[(20,e7 ((s.1:Nat):Int))]) (λs=>[vq 135 s.2.1 s.2.2.1 s.2.2.2,e8 b3 [e7 nd,.slice s.2.1 s.2.2.2.length s.2.2.1] 48]) (λs=>(s.1<=xs.length)/\(s.2.2.2=F4 (xs.take s.1))) (λs=>xs.length - s.1) (0,none,0,[]) ⟨om,rfl⟩ (hI:=(Bz (Bb (α:=Pt) _ _) Bi)) ?_
 rintro ⟨k,a,c,out⟩ hp
 dsimp only at hp ⊢
 obtain ⟨hk,ho⟩:=hp
 have ak:out.length=k:=by rw [ho,aw9,Fx];omega
 refine Z ?_
 refine Am C (λab=>Z ?_)<|λab=>Z ?_
 ·refine Ge1 (Ah p7 C) λb4=>Ge0 (Dp p7) ?_
  refine Aq<|A8 mixed<|Cf (e8 b4 (kl (e_ xs k)) 146::e8 b2 [e7 0,.slice none 0 0] 48::e8 b1 [e7 nd,va] 111::I) 8<|Z ?_
  refine Cg (rs:=[1,3]) kr C C<|Dk ?_<|Du ?_
  ·refine Sr C (Bd bm1) Ar ?_
   refine Ds1 3<|Sc0 C (Ac c_ C C<|ac3<|e_ xs k) ?_
   refine Ds1 4<|Se1 C (Bt (α:=Pt) (cs:=[_,_]) (xs:=[⟨(e_ xs k).p.u,(e_ xs k).p.v⟩]) B2 H3 C C dc dc C C C C) λao=>?_
   refine Ds1 5<|Se2 C (Bv (α:=Pt) (e:=135) (xs:=out) (ys:=([⟨(e_ xs k).p.u,(e_ xs k).p.v⟩]:List Pt)) B2 H3 C C C mm A6 lcn dc C<|λ_ _=>am) λad ah=>Z ?_
   refine Ds1 7<|Se0 C (D5 bm1)<|Z ?_
   exact Bh ((k+1),(ad),(ah),(out++([⟨(e_ xs k).p.u,(e_ xs k).p.v⟩]:List Pt)))<|by dsimp only;exact ⟨om,(by rw [ag5 om,←ho];rfl)⟩
  refine Sc0 C (Ac c_ C C<|ac3<|e_ xs k) ?_
  refine Cg (rs:=[1,4]) kr C C<|Dk ?_<|Du ?_
  ·refine Sr C (Bd bm1) Ar ?_
   refine Ds1 4<|Se1 C (Bt (α:=Pt) (cs:=[_,_]) (xs:=[⟨(e_ xs k).p.u,(e_ xs k).p.v⟩]) B2 H3 C C dc dc C C C C) λan=>?_
   refine Ds1 5<|Se2 C (Bv (α:=Pt) (e:=135) (xs:=out) (ys:=([⟨(e_ xs k).p.u,(e_ xs k).p.v⟩]:List Pt)) B2 H3 C C C mm A6 lcn dc C<|λ_ _=>am) λae aa=>Z ?_
   refine Ds1 7<|Se0 C (D5 bm1)<|Z ?_
   exact Bh ((k+1),(ae),(aa),(out++([⟨(e_ xs k).p.u,(e_ xs k).p.v⟩]:List Pt)))<|by dsimp only;exact ⟨om,(by rw [ag5 om,←ho];rfl)⟩
  refine Se1 C (Bt (α:=Pt) (cs:=[_,_]) (xs:=[⟨(e_ xs k).p.u,(e_ xs k).p.v⟩]) B2 H3 C C dc dc C C C C) λai=>?_
  refine Ds1 1<|Sr C (Bd bm1) Ar ?_
  refine Ds1 5<|Se2 C (Bv (α:=Pt) (e:=135) (xs:=out) (ys:=([⟨(e_ xs k).p.u,(e_ xs k).p.v⟩]:List Pt)) B2 H3 C C C mm A6 lcn dc C<|λ_ _=>am) λM E=>Z ?_
  refine Ds1 7<|Se0 C (D5 bm1)<|Z ?_
  exact Bh ((k+1),(M),(E),(out++([⟨(e_ xs k).p.u,(e_ xs k).p.v⟩]:List Pt)))<|by dsimp only;exact ⟨om,(by rw [ag5 om,←ho];rfl)⟩
 refine Ge0 (Ba H2)<|Z ?_
 have hE:out=F4 xs:=by rw [ho,Gb om]
 exact C7 C H2 C C mm C (vq 135 a c (F4 xs)::I) (by unfold vq;rw [←hE];exact Bi) ⟨a,c,by rw [←hE]<;>rfl,rfl⟩
variable {κ:Ctx}{I:List Item}
theorem gb7(hl:Sl κ I (.slice ea es.length ec) es)(hH:G6 nd kd wd mo es)(hlen:es.length<=19)(hT:0<=T/\T<=1048576):er prog κ 96 [e7 nd,.slice ea es.length ec,.agg #[e7 kd,e7 wd,e7 mo],e7 T] I (λr J=>∃a c,r = .agg #[e7 nd,.slice a (atG kd wd mo es T).length c]/\J=vq 135 a c (atG kd wd mo es T)::I):=by
 refine Ce4 Tryz.func96 C C ?_
 refine Aj<|Ge1 (Ay (cs:=[_,_,_]) C C C) λb1=>Ge1 (Ah H2 C) λb2=>Aq<|Aj<|Gm C<|Gr (B1 (cells:=[_,_]) s5 Dc bu9 C C)<|Ge1 (Ah s5 C) λb3=>Ge0 (Ba s5) ?_
 refine Aq<|Aj<|Gm C<|Gm C<|Gl3 ah8 ?_
 refine Gc2 (Ac c_ C C<|bj4 (nd:=nd) (kd:=kd) (wd:=wd) (mo:=mo) (es:=es) (Bc hl) hH) λE M=>?_
 refine Gm C<|Gr (Av C C)<|Gr (Av C C)<|Ga C<|Ga C ?_
 generalize hSE:(q9 kd wd mo es).2=SE
 have ad:∀e∈SE,H6 nd e:=by rw [←hSE];exact hH.fit
 have a6:SE.length<=38:=by rw [←hSE];have:=hH.ge4;omega
 have a4:(eh SE).length<=19:=by rw [←hSE];have:=hH.len;omega
 refine Aq<|A0 (S5 10 9 8 6 3)<|Ax<|Aj<|Ga C<|Aq<|A3<|B4 (σ:=Nat×(Option Addr)×Nat) (λs=>([(3,e7 T),(6,pt b1),(8,pt b2),(9,pt b3),(10,.slice E (SE).length M),(12,e7 ((s.1:Nat):Int))]:Env)) (λs=>vq 146 s.2.1 s.2.2 (eh<|List.filter (upT T)<|List.take s.1 SE)::vq 108 E M (SE)::e8 b3 [e7 nd,.slice s.2.1 (eh<|List.filter (upT T)<|List.take s.1 SE).length s.2.2] 111::e8 b2 [e7 0,.slice none 0 0] 48::e8 b1 [e7 kd,e7 wd,e7 mo] 31::I) (λs=>(s.1<=SE.length)) (λs=>SE.length - s.1) (0,none,0) (show ((0:Nat)<=SE.length) from om) (cx4<|Aa C<|Aa Co A9) (Bz (Bb (α:=Lk) _ _) Bi) ?_
 rintro ⟨k,a,c⟩ hp
 dsimp only at hp ⊢
 have hk:=hp
 refine Ax<|Aj<|Gm C<|Gm C<|Gr (Bj As C)<|Gr (Bp C C)<|Aq<|Am C (λay=>?_)<|λay=>?_
 ·refine A4 (Al<|Ax<|A3<|Aj<|Gm C<|Gm C<|Gr (A2 (α:=Ev) (xs:=SE) As j7 C C A6 om om)<|Gr (D4 (α:=Ev) (xs:=SE) K0 C A6 om)<|Gr (D9 (α:=Ev) (xs:=SE) (u:=e7 ((e_ SE k).tm)) ef C A6 om om C)<|Gm C<|Gr (E4 C C)<|Aq<|A0 (S7 36 3 6 8 9 10 12)<|Am C (λah=>?_)<|λah=>?_)
  ·refine A8 mixed (Cf (vq 146 a c (eh<|List.filter (upT T)<|List.take k SE)::vq 108 E M (SE)::e8 b2 [e7 0,.slice none 0 0] 48::e8 b1 [e7 kd,e7 wd,e7 mo] 31::I) 11<|Dr 1 C (Ad C)<|Dr 2 C (Ad C)<|Dr 3 C (A2 (α:=Ev) (xs:=SE) As j7 C C A6 om om)<|Dr 4 C (Cd (α:=Ev) (xs:=SE) j7 C A6 om om)<|Ds1 0<|Sr C (Ch (vs:=[_,_]) s5) Ar ?_)
   refine Ds1 5<|Se C (Ac c_ C C<|au6 (nd:=nd) (e:=(e_ SE k)) A6 (ft2 hH.st.nodes ad k) (ad _<|B3 om om)<|by have:=Z1 (ft2 (T:=T) hH.st.nodes ad k);omega) ?_
   rintro _ _ ⟨_,_,⟨⟨ap,aq,az,av,au⟩,⟨rfl,aj⟩,rfl⟩,rfl,rfl⟩
   refine ⟨Ar,?_⟩
   show D prog κ _ _ _ _ _ _ _ ([(43,.tuple #[.agg #[e7 nd,.slice ap (eo (eh<|List.filter (upT T)<|List.take k SE)<|e_ SE k).length aq],.slice az av au,e7 0]),(38,.agg #[e7 nd,.slice a (eh<|List.filter (upT T)<|List.take k SE).length c]),(42,.agg (ye (e_ SE k)).toArray),(41,s6 (.slice E (SE).length M)<|((k:Int)).toNat*Enc.sz Ev),(40,e7<|(k:Int)),(39,.slice E (SE).length M),(36,.bool<|decide<|((e_ SE k).tm)<=T),(3,e7 T),(6,pt b1),(8,pt b2),(9,pt b3),(10,.slice E (SE).length M),(12,e7<|(k:Int))]:Env) (vq 146 ap aq (eo (eh<|List.filter (upT T)<|List.take k SE)<|e_ SE k)::vq 146 a c (eh<|List.filter (upT T)<|List.take k SE)::vq 108 E M (SE)::e8 b3 [e7 nd,.slice a (eh<|List.filter (upT T)<|List.take k SE).length c] 111::e8 b2 [e7 0,.slice none 0 0] 48::e8 b1 [e7 kd,e7 wd,e7 mo] 31::I)
   have aj:av<=2*(eh<|List.filter (upT T)<|List.take k SE).length+1:=aj
   refine Dr 6 C (Ad C)<|Dr 7 C (Av C C)<|Dr 8 C (Av C C)<|Dr 9 C (Av C C)<|Ds1 10<|Se0 C (Ba s5) ?_
   exact Dz<|Ap<|Al<|A0 (S6 3 6 8 9 10 12)<|A1<|Gm C<|Gr (Rad C C)<|Ga C<|Bl<|Bh ((k+1),(ap),(aq)) (by dsimp only;exact om) (hI:=by (try dsimp only);exact (by first|(rw [dn6 om ah];exact Bi)|(rw [ft1 om ah];exact Bi)))
  exact A4<|Ap<|Al<|A1<|Gm C<|Gr (Rad C C)<|Ga C<|Bl<|Bh ((k+1),(a),(c)) (by dsimp only;exact om) (hI:=by (try dsimp only);exact (by first|(rw [dn6 om ah];exact Bi)|(rw [ft1 om ah];exact Bi)))
 refine B6<|Ao<|Ao<|A5<|Al<|Ax<|Aj<|Gf ac5 C<|Gl ef ?_
 refine Gr (B7 C C) ?_
 have ar:SE.take k=SE:=Gb om
 rw [ar]
 have ae:j8 nd (eh<|List.filter (upT T) SE)=0:=dn7 hH.st.nodes ad
 have a5:=Z1 ae
 have aw:=gf1 hH.win hH.st.nodes ad hT
 refine Aq<|Am C (λab=>?_)<|λab=>?_
 ·refine A1 (Gl2 s5 ?_)
  refine Gl3 ah8 ?_
  refine Gm C<|G.e (Ac c_ C C<|cq6 (nd:=nd) (kd:=kd) (wd:=wd) (mo:=mo) (nw:=T) (xs:=eh (List.filter (upT T) SE)) A6 om) ?_
  rintro _ _ ⟨_,_,(⟨aa,rfl,rfl⟩|⟨a0,a1,ax,rfl,rfl⟩),rfl,rfl⟩
  ·exact absurd aw aa
  skip
  refine Gm C<|Gr (Av C C)<|Gr (Av C C)<|Ge0 (Ba s5) ?_
  refine Aq<|A0 (S2 8 9)<|Aj<|Gl2 s5 ?_
  refine Gc2 (Ac c_ C C<|cj9 (nd:=nd) A6 (by first|exact ae|exact an1 ae)<|by first|omega|(have:=Gz (inW kd wd mo T<|eh<|List.filter (upT T) SE) (eh<|List.filter (upT T) SE);omega)) λak an=>?_
  refine Gm C<|Gr (Av C C)<|Gr (Av C C)<|Ge1 (Ah H2 C) λa3=>Ge0 (Ba H2) ?_
  refine Ga C<|Aq<|Aj<|Gl2 H2 ?_
  refine Ge0 (Ba H2) ?_
  refine Aq<|Bq ?_
  have hE:F4 (List.filter (inW kd wd mo T<|eh<|List.filter (upT T) SE)<|eh<|List.filter (upT T) SE)=(atG kd wd mo es T):=by unfold atG;rw [dz7 hH hT];first|rw [cu8 ab,hSE]|rw [dq0 ab,hSE]
  exact Cv C H2 C mm C (vq 135 ak an (atG kd wd mo es T)::I) (by unfold vq;rw [←hE];exact Bi) ⟨ak,an,by rw [←hE]<;>rfl,rfl⟩
 refine A4<|Al<|Aj<|Gl2 s5 ?_
 refine Gc2 (Ac c_ C C<|cj9 (nd:=nd) A6 (by first|exact ae|exact an1 ae)<|by first|omega|(have:=Gz (inW kd wd mo T<|eh<|List.filter (upT T) SE) (eh<|List.filter (upT T) SE);omega)) λao ai=>?_
 refine Gm C<|Gr (Av C C)<|Gr (Av C C)<|Ge1 (Ah H2 C) λa7=>Ge0 (Ba H2) ?_
 refine Ga C<|Aq<|A0 (S2 13 8)<|Aj<|Gl2 H2 ?_
 refine Ge0 (Ba H2) ?_
 refine Aq<|Bq ?_
 have hE:F4 (eh<|List.filter (upT T) SE)=(atG kd wd mo es T):=by unfold atG;rw [dz7 hH hT];first|rw [cu8 ab,hSE]|rw [dq0 ab,hSE]
 exact Cv C H2 C mm C (vq 135 ao ai (atG kd wd mo es T)::I) (by unfold vq;rw [←hE];exact Bi) ⟨ao,ai,by rw [←hE]<;>rfl,rfl⟩
theorem fe1(hl:Sl κ I (.slice ea es.length ec) es)(hH:G6 nd kd wd mo es)(hlen:es.length<=19)(hT:0<=T/\T<=1048576):er prog κ 40 [e7 nd,.slice ea es.length ec,.agg #[e7 kd,e7 wd,e7 mo],e7 T] I (λr J=>∃a c,r = .tuple #[.agg #[e7 nd,.slice a (atG kd wd mo es T).length c],e7 0]/\J=vq 135 a c (atG kd wd mo es T)::I):=by
 refine Ce4 Tryz.func40 C C ?_
 refine Aj<|Ge1 (Ay (cs:=[_,_,_]) C C C) λb1=>Ge1 (Ah H2 C) λb2=>Z ?_
 refine Gc0 (Ac c_ C C<|dm2 (nd:=nd) (kd:=kd) (wd:=wd) (mo:=mo) (Bc hl) hH)<|Z ?_
 refine Am C (λad=>?_)<|λad=>Z ?_
 ·exact absurd rfl ad
 refine Au (d:=21) C (λE=>?_)<|λE=>Z ?_
 ·exact absurd E om
 refine Am C (λM=>?_)<|λM=>Z ?_
 ·exact absurd M om
 refine Gc2 (Ac c_ C C<|gb7 (nd:=nd) (kd:=kd) (wd:=wd) (mo:=mo) (Bc hl) hH hlen (T:=T) hT) λab aa=>?_
 refine Ge0 (Ba H2) ?_
 exact Ga C<|Aq<|Bq<|C7 C H2 C C mm C (vq 135 ab aa (atG kd wd mo es T)::I) Bi ⟨ab,aa,rfl,rfl⟩
end Go.Sl
namespace Go.Sl
open Go.Proofs
set_option maxRecDepth 4000
end Go.Sl
namespace Go.Sl
end Go.Sl
namespace Go.Sl
open Go.Proofs
set_option maxRecDepth 4000
end Go.Sl
namespace Go.Sl
def ba0(rows:List (BitVec 64))(k:Nat)(W:BitVec 64):Prop:=∀u∈em W,k<=R6 rows W u
theorem cf7{rows:List (BitVec 64)}{W L:BitVec 64}(h:∀u∈em W,u∈em L)(v:Int):R6 rows W v<=R6 rows L v:=by
 unfold R6
 refine H_ (Q2 _) λx E=>?_
 obtain ⟨h1,M⟩:=J1.1 E
 exact J1.2 ⟨h1,h x M⟩
theorem ak0{rows:List (BitVec 64)}{X:BitVec 64->Nat->List (Int×Nat)->Prop}(h0:∀k,X 0#64 k [])
  (hs:∀left k v,ch3 rows left v->X (left &&& ~~~(1#64 <<< v.toNat)) (max k<|R6 rows left v) (ad8 rows (left &&& ~~~(1#64 <<< v.toNat))<|max k<|R6 rows left v)->X left k ((v,max k<|R6 rows left v)::ad8 rows (left &&& ~~~(1#64 <<< v.toNat)) (max k<|R6 rows left v))) :
  ∀(n:Nat) (left:BitVec 64) (k:Nat),(em left).length=n->X left k (ad8 rows left k)
 |0,left,k,h=>by
  have:left=0#64:=Gg λhn=>by
   obtain ⟨u,hu⟩:=V3.1 hn
   have:=Jz hu;omega
  subst this
  rw [bq8];exact h0 k
 |n+1,left,k,h=>by
  have E:left≠0#64:=λe=>by subst e;rw [N6] at h;simp at h
  have M:=bd7 (rows:=rows) E
  rw [bq9 M]
  have hm:=aa9 M.mem
  exact hs _ _ _ M<|ak0 h0 hs n _ _<|by omega
section
variable {rows:List (BitVec 64)}
theorem br0(left:BitVec 64)(k:Nat):(av8 (ad8 rows left k)).Nodup/\(∀v,v∈av8 (ad8 rows left k)↔v∈em left):=by
 refine ak0 (rows:=rows) (X:=λleft k l=>(av8 l).Nodup/\∀v,v∈av8 l↔v∈em left) (λk=>?_) (λleft k v hT ih=>?_) _ left k rfl
 ·refine ⟨List.nodup_nil,λv=>?_⟩
  rw [N6];exact Iff.rfl
 have E:=(T0 hT.mem).1
 obtain ⟨h1,M⟩:=ih
 refine ⟨Kt.2 ⟨λhm=>((M2 E).1 ((M v).1 hm)).2 rfl,h1⟩,λu=>?_⟩
 show u∈v::av8 (ad8 rows _ _)↔_
 rw [Gh,M,M2 E]
 constructor
 ·rintro (rfl|h)
  ·exact hT.mem
  exact h.1
 intro h
 by_cases e:u=v
 ·exact .inl e
 exact .inr ⟨h,e⟩
theorem cz8(left:BitVec 64)(k:Nat):∀p∈ad8 rows left k,k<=p.2:=by
 refine ak0 (rows:=rows) (X:=λleft k l=>∀p∈l,k<=p.2) (λk p hp=>by cases hp) (λleft k v E M p hp=>?_) _ left k rfl
 rcases Gh.1 hp with rfl|hp
 ·show k<=max k _;omega
 have:=M p hp;omega
theorem dh1{j:Nat}{W:BitVec 64}(hW:ba0 rows j W)(left:BitVec 64)(k:Nat):(∀u∈em W,u∈em left)->∀p∈ad8 rows left k,p.1∈em W->j<=p.2:=by
 refine ak0 (rows:=rows) (X:=λleft k l=>(∀u∈em W,u∈em left)->∀p∈l,p.1∈em W->j<=p.2) (λk _ p hp=>by cases hp) (λleft k v hT ih M p hp E=>?_) _ left k rfl
 have h0:=(T0 hT.mem).1
 by_cases hv:v∈em W
 ·have h1:=hW v hv
  have h2:=cf7 (rows:=rows) M v
  rcases Gh.1 hp with rfl|hp
  ·show j<=max k _;omega
  have:=cz8 _ _ p hp;omega
 rcases Gh.1 hp with rfl|hp
 ·exact absurd E hv
 exact ih (λu hu=>(M2 h0).2 ⟨M u hu,λe=>hv<|e▸hu⟩) p hp E
theorem dh0(left:BitVec 64)(E:Nat):∀k,E<k->∃W:BitVec 64,ba0 rows k W/\(∀u∈em W,u∈em left)/\∀p∈ad8 rows left E,k<=p.2↔p.1∈em W:=by
 refine ak0 (rows:=rows) (X:=λleft E l=>∀k,E<k->∃W:BitVec 64,ba0 rows k W/\(∀u∈em W,u∈em left)/\∀p∈l,k<=p.2↔p.1∈em W) (λE k hk=>?_) (λleft E v hT ih k hk=>?_) _ left E rfl
 ·refine ⟨0#64,λu M=>?_,λu M=>M,λp hp=>by cases hp⟩
  rw [N6] at M;cases M
 have h0:=(T0 hT.mem).1
 by_cases hc:k<=max E (R6 rows left v)
 ·refine ⟨left,λu M=>?_,λu M=>M,λp hp=>⟨λ_=>?_,λ_=>?_⟩⟩
  ·have:=hT.le u M;omega
  ·rcases Gh.1 hp with rfl|hp
   ·exact hT.mem
   have h1:p.1∈av8 (ad8 rows (left &&& ~~~(1#64 <<< v.toNat))<|max E<|R6 rows left v):=Ha.2 ⟨p,hp,rfl⟩
   exact ((M2 h0).1 (((br0 _ _).2 _).1 h1)).1
  rcases Gh.1 hp with rfl|hp
  ·exact hc
  have:=cz8 _ _ p hp;omega
 obtain ⟨W,h1,h2,h3⟩:=ih k (by omega)
 refine ⟨W,h1,λu M=>((M2 h0).1 (h2 u M)).1,λp hp=>?_⟩
 rcases Gh.1 hp with rfl|hp
 ·exact ⟨λh=>absurd h hc,λh=>absurd rfl ((M2 h0).1 (h2 _ h)).2⟩
 exact h3 p hp
theorem fy3{n:Nat}:∀{l:List (Int×Nat)},(av8 l).Nodup->(∀v∈av8 l,0<=v/\v<(n:Int))->∀p∈l,e_ (de3 n l) p.1=(p.2:Int):=by
 intro l
 unfold de3
 have hk:∀(l:List (Int×Nat)) (xs:List Int) (u:Int),0<=u->(∀v∈av8 l,0<=v)->u∉av8 l->e_ (l.foldl (λxs p=>xs.set p.1.toNat (p.2:Int)) xs) u=e_ xs u:=λl=>by
  induction l with
  |nil=>intro xs u _ _ _;rfl
  |cons q l ih=>
   intro xs u hu h0 hn
   have hq:0<=q.1:=h0 q.1 C_
   have ab:u≠q.1:=λe=>hn (by rw [e];exact C_)
   rw [Jp,ih _ u hu (λv hv=>h0 v<|Fv _ hv) λh=>hn<|Fv _ h]
   unfold e_
   rw [Gs,Gs,List.getElem?_set_ne (by omega)]
 have:∀(l:List (Int×Nat)) (xs:List Int),xs.length=n->(av8 l).Nodup->(∀v∈av8 l,0<=v/\v<(n:Int))->∀p∈l,e_ (l.foldl (λxs p=>xs.set p.1.toNat (p.2:Int)) xs) p.1=(p.2:Int):=λl=>by
  induction l with
  |nil=>intro xs _ _ _ p hp;cases hp
  |cons q l ih=>
   intro xs hl hn hr p hp
   obtain ⟨hq,aa⟩:=Kt.1 (show (q.1::av8 l).Nodup from hn)
   have E:∀v∈av8 l,0<=v/\v<(n:Int):=λv hv=>hr v (Fv _ hv)
   have M:=hr q.1 C_
   rw [Jp]
   rcases Gh.1 hp with rfl|hp
   ·rw [hk l _ p.1 M.1 (λv hv=>(E v hv).1) hq,R1 _ _ _ _ M.1 M.1<|by omega,By rfl]
   exact ih _ (by rw [Gd];exact hl) aa E p hp
 exact λh1 h2=>this l _ Fw h1 h2
end
end Go.Sl
namespace Go.Sl
open Go.Proofs
set_option maxRecDepth 4000
variable{kd mo nd wd:Int}{es:List Ev}
def P2(kd wd mo:Int)(es:List Ev):List Int:=ofL ((q9 kd wd mo es).2.map Ev.tm++(L8 kd wd (eh (q9 kd wd mo es).2)).map Ev.tm)
theorem as8{xs:List Lk}(h:¬kd=2):L8 kd wd xs=[]:=by
 unfold L8
 rw [Jc.2 λx _ M=>by unfold cd7 at M;exact h (Gc M).1]
 rfl
theorem dc7(hH:G6 nd kd wd mo es)(hlen:es.length<=19):(P2 kd wd mo es).length<=57:=by
 have E:=hH.ge4
 have h3:=hH.len
 have h4:=ad5 kd wd (eh (q9 kd wd mo es).2)
 have M:=ap5 ((q9 kd wd mo es).2.map Ev.tm++(L8 kd wd<|eh (q9 kd wd mo es).2).map Ev.tm)
 rw [A_,Gi,Gi] at M
 unfold P2
 omega
theorem di8{κ:Ctx}{I:List Item}{ea:Option Addr}{ec:Nat}(hl:Sl κ I (.slice ea es.length ec) es)(hH:G6 nd kd wd mo es)(hlen:es.length<=19):er prog κ 39 [e7 nd,.slice ea es.length ec,.agg #[e7 kd,e7 wd,e7 mo]] I (λr J=>∃a c,r = .slice a (P2 kd wd mo es).length c/\J=vq 3 a c (P2 kd wd mo es)::I):=by
 refine Ce3 Tryz.func39 C C ?_
 refine Aj<|Ge1 (Ay (cs:=[_,_,_]) C C C) λb1=>Ga C<|Aq<|Aj<|Ga C<|Aq<|Aj<|Gm C<|Gr (B1 (cells:=[_,_]) s5 Dc bu9 C C)<|Ge1 (Ah s5 C) λb2=>Ge0 (Ba s5) ?_
 refine Aq<|Aj<|Gm C<|Gm C<|Gl3 ah8 ?_
 refine Gc2 (Ac c_ C C<|bj4 (nd:=nd) (kd:=kd) (wd:=wd) (mo:=mo) (es:=es) (Bc hl) hH) λE aa=>?_
 refine Gm C<|Gr (Av C C)<|Gr (Av C C)<|Ga C<|Ga C ?_
 generalize hSE:(q9 kd wd mo es).2=SE
 have ai:∀e∈SE,H6 nd e:=by rw [←hSE];exact hH.fit
 have bb:SE.length<=38:=by rw [←hSE];have:=hH.ge4;omega
 have bc:(eh SE).length<=19:=by rw [←hSE];have:=hH.len;omega
 refine Aq<|A0 (S4 9 8 7 5)<|Ax<|Aj<|Ga C<|Aq<|A3<|B4 (σ:=Nat×(Option Addr)×Nat×(Option Addr)×Nat×(List Int)) (λs=>([(5,pt b1),(7,.slice s.2.2.2.1 s.2.2.2.2.2.length s.2.2.2.2.1),(8,pt b2),(9,.slice E (SE).length aa),(11,e7 ((s.1:Nat):Int))]:Env)) (λs=>vq 146 s.2.1 s.2.2.1 (eh<|SE.take s.1)::vq 3 s.2.2.2.1 s.2.2.2.2.1 s.2.2.2.2.2::vq 108 E aa (SE)::e8 b2 [e7 nd,.slice s.2.1 (eh<|SE.take s.1).length s.2.2.1] 111::e8 b1 [e7 kd,e7 wd,e7 mo] 31::I) (λs=>(s.1<=SE.length)/\(s.2.2.2.2.2=(SE.take s.1).map Ev.tm)) (λs=>SE.length - s.1) (0,none,0,none,0,[]) ⟨om,rfl⟩ (Aa C<|Aa (Da C<|by first|rfl|simp)<|cx2<|Aa Co A9) (Bz (Bb (α:=Int) 3 _)<|Bz (Bb (α:=Lk) 146 _) Bi) ?_
 rintro ⟨k,a,c,oa,oc,out⟩ hp
 dsimp only at hp ⊢
 obtain ⟨hk,ho⟩:=hp
 have ba:out.length=k:=by rw [ho,Gi,Fx];omega
 refine Ax<|Aj<|Gm C<|Gm C<|Gr (Bj As C)<|Gr (Bp C C)<|Aq<|Am C (λa4=>?_)<|λa4=>?_
 ·refine A4 (Al<|Ax<|A3<|Aj<|Gm C<|Gm C<|Gm C<|Gr (A2 (α:=Ev) (xs:=SE) As j7 C C A6 om om)<|Gr (D4 (α:=Ev) (xs:=SE) K0 C A6 om)<|Gr (D9 (α:=Ev) (xs:=SE) (u:=e7 ((e_ SE k).tm)) ef C A6 om om C)<|Ge1 (Bt (α:=Int) (cs:=[_]) (xs:=[(e_ SE k).tm]) Ab ef C C dc dc C C C C) λaz=>?_)
  refine Ge2 (Bv (α:=Int) (e:=3) (xs:=out) (ys:=([(e_ SE k).tm]:List Int)) Ab ef C C C mm A6 lcn dc C<|λ_ _=>am) λak aj=>?_
  refine Ga C<|Aq<|A0 (S5 7 5 8 9 11)<|A8 mixed<|Cf (vc 3 (.slice az 1 1) (([(e_ SE k).tm]:List Int))::vq 146 a c (eh<|SE.take k)::vq 3 ak aj (out++([(e_ SE k).tm]:List Int))::vq 108 E aa (SE)::e8 b1 [e7 kd,e7 wd,e7 mo] 31::I) 11<|Dr 1 C (Ad C)<|Dr 2 C (Ad C)<|Dr 3 C (A2 (α:=Ev) (xs:=SE) As j7 C C A6 om om)<|Dr 4 C (Cd (α:=Ev) (xs:=SE) j7 C A6 om om)<|Ds1 0<|Sr C (Ch (vs:=[_,_]) s5) Ar ?_
  refine Ds1 5<|Se C (Ac c_ C C<|au6 (nd:=nd) (e:=(e_ SE k)) A6 (M3 hH.st.nodes ai k) (ai _<|B3 om om)<|by have:=Z1 (M3 hH.st.nodes ai k);omega) ?_
  rintro _ _ ⟨_,_,⟨⟨au,av,a0,ar,aw⟩,⟨rfl,ah⟩,rfl⟩,rfl,rfl⟩
  refine ⟨Ar,?_⟩
  show D prog κ _ _ _ _ _ _ _ ([(43,.tuple #[.agg #[e7 nd,.slice au (eo (eh<|SE.take k)<|e_ SE k).length av],.slice a0 ar aw,e7 0]),(38,.agg #[e7 nd,.slice a (eh<|SE.take k).length c]),(42,.agg (ye (e_ SE k)).toArray),(41,s6 (.slice E (SE).length aa)<|((k:Int)).toNat*Enc.sz Ev),(40,e7<|(k:Int)),(39,.slice E (SE).length aa),(7,.slice ak (out++([(e_ SE k).tm]:List Int)).length aj),(5,pt b1),(8,pt b2),(9,.slice E (SE).length aa),(11,e7<|(k:Int))]:Env) (vq 146 au av (eo (eh<|SE.take k)<|e_ SE k)::vc 3 (.slice az 1 1) (([(e_ SE k).tm]:List Int))::vq 146 a c (eh<|SE.take k)::vq 3 ak aj (out++([(e_ SE k).tm]:List Int))::vq 108 E aa (SE)::e8 b2 [e7 nd,.slice a (eh<|SE.take k).length c] 111::e8 b1 [e7 kd,e7 wd,e7 mo] 31::I)
  have ah:ar<=2*(eh<|SE.take k).length+1:=ah
  refine Dr 6 C (Ad C)<|Dr 7 C (Av C C)<|Dr 8 C (Av C C)<|Dr 9 C (Av C C)<|Ds1 10<|Se0 C (Ba s5) ?_
  exact Dz<|Ap<|Al<|A0 (S5 7 5 8 9 11)<|A1<|Gm C<|Gr (Rad C C)<|Ga C<|Bl<|Bh ((k+1),(au),(av),(ak),(aj),(out++([(e_ SE k).tm]:List Int))) (by dsimp only;exact ⟨om,(by rw [ho,Cn SE k om,Jb];rfl)⟩) (hI:=by (try dsimp only);exact (by rw [ab0 om];exact Bi))
 refine B6<|Ao<|Ao<|A5<|Al<|Ax<|Aj<|Ga C ?_
 have ae:SE.take k=SE:=Gb om
 rw [ae] at ho ⊢
 have a1:j8 nd (eh SE)=0:=by have:=M3 hH.st.nodes ai k;rwa [ae] at this
 refine Aq<|A3<|B4 (σ:=Nat×(Option Addr)×Nat×(List Int)) (λs=>([(5,pt b1),(7,.slice s.2.1 s.2.2.2.length s.2.2.1),(8,pt b2),(12,e7 ((s.1:Nat):Int))]:Env)) (λs=>vq 146 a c (eh SE)::vq 3 s.2.1 s.2.2.1 s.2.2.2::vq 108 E aa (SE)::e8 b2 [e7 nd,.slice a (eh SE).length c] 111::e8 b1 [e7 kd,e7 wd,e7 mo] 31::I) (λs=>(s.1<=(eh SE).length)/\(s.2.2.2=SE.map Ev.tm++(L8 kd wd<|(eh SE).take s.1).map Ev.tm)) (λs=>(eh SE).length - s.1) (0,oa,oc,out) ⟨om,(by rw [ho];simp [L8])⟩ (Aa C<|Aa (Da C<|by first|rfl|simp)<|Aa C<|Aa Co A9) Ar ?_
 rintro ⟨k2,a7,a5,M⟩ hp
 dsimp only at hp ⊢
 obtain ⟨be,ad⟩:=hp
 have a8:M.length<=SE.length+k2:=by rw [ad,A_,Gi,Gi];have h1:=ad5 kd wd ((eh SE).take k2);rw [Fx] at h1;omega
 have bf:=ad9 hH.win
 refine Ax<|Aj<|Gf ac5 C<|Gl ef ?_
 refine Gr (B7 C C)<|Gm C<|Au (d:=50) C (λab=>?_)<|λab=>?_
 ·refine e9 (Ad C) (e9 (Ai H0 C)<|e9 (Bd R7) ?_)
  refine e9 (Bj Aw C)<|e9 (Bp C C)<|Gr (Br C C)<|Aq<|A0 (S5 56 5 7 8 12)<|Am C (λa6=>?_)<|λa6=>?_
  ·refine A4 (Al<|Ax<|A3<|Ax<|A8 mixed<|C1 10<|Dr 0 C (Ai H0 C) ?_)
   have bg:=au1 a1 (k2:Int) om om
   refine Dr 1 C (Bd R7) ?_
   refine Dr 2 C (Ad C)<|Dr 3 C (A2 (α:=Lk) (xs:=eh SE) Aw p7 C C A6 om om)<|Dr 4 C (D4 (α:=Lk) (xs:=eh SE) am9 C A6 om)<|Dr 5 C (D9 (α:=Lk) (xs:=eh SE) (u:=e7 ((e_ (eh SE) k2).tm)) ef C A6 om om C)<|Dr 6 C (Ai bw4 C)<|Dr 7 C (Bd ef) ?_
   refine Dr 8 C (Rad C C)<|Dr 9 C (Bo C)<|Dz<|Al<|A0 (S5 13 5 7 8 12)<|Aj<|Gm C<|Gr (E4 C C)<|Aq<|Am C (λa3=>?_)<|λa3=>?_
   ·refine A1 (Gm C<|Gm C<|Ge1 (Bt (α:=Int) (cs:=[_]) (xs:=[((e_ (eh SE) k2).tm)+wd]) Ab ef C C dc dc C C C C) λa9=>?_)
    refine Ge2 (Bv (α:=Int) (e:=3) (xs:=M) (ys:=([((e_ (eh SE) k2).tm)+wd]:List Int)) Ab ef C C C mm A6 lcn dc C<|λ_ _=>am) λay ax=>?_
    exact Ga C<|Bl<|Ap<|Al<|A1<|Gm C<|Gr (Rad C C)<|Ga C<|Bl<|Bh ((k2+1),(ay),(ax),(M++([((e_ (eh SE) k2).tm)+wd]:List Int)))<|by dsimp only;exact ⟨om,(by first|(rw [ad,ad4 om ab asm,H1])|(rw [ad,W3 om<|.inr asm]))⟩
   exact A4<|Ap<|Al<|A1<|Gm C<|Gr (Rad C C)<|Ga C<|Bl<|Bh ((k2+1),(a7),(a5),(M))<|by dsimp only;exact ⟨om,(by first|(rw [ad,ad4 om ab asm,H1])|(rw [ad,W3 om<|.inr asm]))⟩
  refine B6<|Ao<|Ao<|A5<|Al<|Aj<|Gm C<|Gc2 (Ac c_ C C<|cq8 A6 om) λap an=>?_
  refine Ga C<|Aq<|Bq ?_
  have hE:ofL M=P2 kd wd mo es:=by unfold P2;rw [hSE,ad];first|rw [Gb om]|rw [as8 ab,as8 ab]
  exact Ak C C (vq 3 ap an (P2 kd wd mo es)::I) (by unfold vq;rw [←hE];exact Bi) ⟨ap,an,by rw [←hE],rfl⟩
 refine eb<|eb<|eb<|eb<|eb<|Gr (Bg C C)<|Aq<|A0 (S5 56 5 7 8 12)<|W.no C<|B6<|Ao<|Ao<|A5<|Al<|Aj<|Gm C<|Gc2 (Ac c_ C C<|cq8 A6 om) λao aq=>?_
 refine Ga C<|Aq<|Bq ?_
 have hE:ofL M=P2 kd wd mo es:=by unfold P2;rw [hSE,ad];first|rw [Gb om]|rw [as8 ab,as8 ab]
 exact Ak C C (vq 3 ao aq (P2 kd wd mo es)::I) (by unfold vq;rw [←hE];exact Bi) ⟨ao,aq,by rw [←hE],rfl⟩
end Go.Sl
