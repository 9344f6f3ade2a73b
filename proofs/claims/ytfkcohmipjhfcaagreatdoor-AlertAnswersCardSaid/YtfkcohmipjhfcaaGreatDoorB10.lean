/- A part of the proofs of statements of this seat: contracts of functions, and the plain laws that they lean on. No conditions. -/
import Derived.Test.YtfkcohmipjhfcaaGreatDoorB9
set_option linter.unusedVariables false
set_option linter.unusedSimpArgs false
set_option linter.unusedSectionVars false
open Go.Proofs.Tryz (prog)
set_option maxHeartbeats 1000000
namespace Go.Sl
open Go.Proofs
set_option maxRecDepth 4000
attribute [local irreducible] W G V D A j0 Eff
theorem fe2{κ:Ctx}{I:List Item}{b:Nat}{nd wd mo T last:Int}{a0 o0:Option Addr}{c0 d0:Nat}{xs:List Lk}{out:List Ev}(aq:SlI nd 2 wd last xs)(hw:r7 2 wd mo=0)(hT:0<=last/\last<=T/\T<=1048576)(aw:xs.length+out.length<=400000):er prog κ 211 [(pt b),.agg #[e7 2,e7 wd,e7 mo],e7 T] (e8 b [e7 nd,.slice a0 xs.length c0,.slice o0 out.length d0] 241::vq 146 a0 c0 xs::vq 108 o0 d0 out::I) (λr J=>∃y:Option Addr×Nat×Option Addr×Nat,(r = .tuple #[]/\SlI nd 2 wd T (Y0 wd mo T xs out).1/\(Y0 wd mo T xs out).1.length+(Y0 wd mo T xs out).2.length=xs.length+out.length)/\J=e8 b [e7 nd,.slice y.1 ((Y0 wd mo T xs out).1).length y.2.1,.slice y.2.2.1 ((Y0 wd mo T xs out).2).length y.2.2.2] 241::vq 146 y.1 y.2.1 ((Y0 wd mo T xs out).1)::vq 108 y.2.2.1 y.2.2.2 ((Y0 wd mo T xs out).2)::I):=by
 refine Ce3 Tryz.func211 C C ?_
 refine Aj<|Ge1 (Ay (cs:=[_,_,_]) C C C) λb1=>Aq<|A3<|Dl (σ:=(Option Addr)×Nat×(Option Addr)×Nat×(List Lk)×(List Ev)) (λ_=>[]) (λs=>[e8 b [e7 nd,.slice s.1 s.2.2.2.2.1.length s.2.1,.slice s.2.2.1 s.2.2.2.2.2.length s.2.2.2.1] 241,vc 146 (.slice s.1 s.2.2.2.2.1.length s.2.1)<|s.2.2.2.2.1,vc 108 (.slice s.2.2.1 s.2.2.2.2.2.length s.2.2.2.1)<|s.2.2.2.2.2]) (λs=>((Y0 wd mo T xs out)=Y0 wd mo T s.2.2.2.2.1 s.2.2.2.2.2)/\(SlI nd 2 wd last s.2.2.2.2.1)/\(s.2.2.2.2.1.length+s.2.2.2.2.2.length=xs.length+out.length)) (λs=>s.2.2.2.2.1.length) (a0,c0,o0,d0,xs,out) ⟨rfl,aq,rfl⟩ ?_
 rintro ⟨a1,c1,o1,d1,ys,zs⟩ hp
 dsimp only at hp ⊢
 obtain ⟨hr,hI,hs⟩:=hp
 refine A3<|Ax<|A8 mixed<|C1 12<|Z ?_
 refine Ds1 6<|Se C (Ac c_ C C<|fr7 (nd:=nd) A6 (br2 hI.val)<|ad9 hw) ?_
 rintro _ _ ⟨_,_,⟨M,rfl,ad,rfl⟩,rfl,rfl⟩
 refine ⟨Ar,?_⟩
 refine Z ?_
 have aa:=ad
 refine Z ?_
 refine Au (d:=20) C (λak=>Z ?_)<|λak=>Z ?_
 ·have E:¬(0<ys.length/\ae4 ys+wd<=T):=(λh=>by have hz:=R9 (aa.1 h.1);omega)
  have hE:(Y0 wd mo T xs out)=(ys,zs):=hr.trans (ak5 E)
  exact V.gq0 C (e8 b [e7 nd,.slice a1 ((Y0 wd mo T xs out).1).length c1,.slice o1 ((Y0 wd mo T xs out).2).length d1] 241::vq 146 a1 c1 ((Y0 wd mo T xs out).1)::vq 108 o1 d1 ((Y0 wd mo T xs out).2)::I) (by unfold vq;rw [hE];exact Ar) ⟨⟨a1,c1,o1,d1⟩,⟨rfl,by rw [hE];exact hI.later hT.2.1<|λ_=>E,by rw [hE];exact hs⟩,rfl⟩
 refine Am C (λai=>Z ?_)<|λai=>Z ?_
 ·have E:¬(0<ys.length/\ae4 ys+wd<=T):=(λh=>by have hz:=R9 (aa.1 h.1);omega)
  have hE:(Y0 wd mo T xs out)=(ys,zs):=hr.trans (ak5 E)
  exact V.gq0 C (e8 b [e7 nd,.slice a1 ((Y0 wd mo T xs out).1).length c1,.slice o1 ((Y0 wd mo T xs out).2).length d1] 241::vq 146 a1 c1 ((Y0 wd mo T xs out).1)::vq 108 o1 d1 ((Y0 wd mo T xs out).2)::I) (by unfold vq;rw [hE];exact Ar) ⟨⟨a1,c1,o1,d1⟩,⟨rfl,by rw [hE];exact hI.later hT.2.1<|λ_=>E,by rw [hE];exact hs⟩,rfl⟩
 refine A8 mixed<|Cf (e8 b1 [e7 2,e7 wd,e7 mo] 31::I) 9<|Z ?_
 refine Ds1 4<|Sr C (Ch (vs:=[_,_]) s5) Ar ?_
 refine Ds1 7<|Sc2 C (Ac c_ C C<|db6 (nd:=nd) A6 om<|hI.ask hw (by have ae:=hI.first C om;have hz:=R9 (aa.1 om);omega)<|by have ae:=hI.first C om;have hz:=R9 (aa.1 om);omega) λah aj=>?_
 refine Ds1 8<|Se C (Ac c_ C C<|Cm (J:=e8 b [e7 nd,.slice a1 ys.length c1,.slice o1 zs.length d1] 241::vq 146 a1 c1 ys::vq 108 o1 d1 zs::vq 108 ah aj (F6 2 wd mo M ys)::e8 b1 [e7 2,e7 wd,e7 mo] 31::I) Bi<|bj8 (nd:=nd) (xs:=ys) (out:=zs) (es:=F6 2 wd mo M ys) A6 (hI.val) (bx2 hI.val<|by have ae:=hI.first C om;have hz:=R9 (aa.1 om);omega) (by have h:=H5 2 wd mo M ys;omega)<|by have h:=H5 2 wd mo M ys;omega) ?_
 rintro _ _ ⟨_,_,⟨⟨au,an,ao,ar⟩,rfl,rfl⟩,rfl,rfl⟩
 refine ⟨Ar,?_⟩
 refine Z ?_
 have ab:0<ys.length:=by omega
 have hz:M=ae4 ys+wd:=R9 (aa.1 ab)
 have hg:List.foldl eo ys (F6 2 wd mo M ys)=List.filter (inW 2 wd mo M ys) ys:=U5 hI.val
 have av:=H5 2 wd mo M ys
 have ap:(List.filter (inW 2 wd mo M ys) ys).length<ys.length:=by rw [hz];exact bc8 (wd:=wd) (mo:=mo) ab
 exact Bh ((au),(an),(ao),(ar),(List.filter (inW 2 wd mo M ys) ys),(zs++F6 2 wd mo M ys)) (by dsimp only;exact ⟨(by rw [hr,bj0 ⟨ab,by omega⟩,←hz]),(hI.filter _),(by rw [A_];omega)⟩) (hlt:=by (try dsimp only);exact ap) (hI:=by (try dsimp only);exact (by rw [hg];exact Ar))
end Go.Sl
namespace Go.Sl
open Go.Proofs
set_option maxRecDepth 4000
variable{kd mo nd wd:Int}{xs ys:List Lk}{es out zs:List Ev}
variable {κ:Ctx}{I:List Item}
theorem fs7{b:Nat}{T last:Int}{a0 o0:Option Addr}{c0 d0:Nat}(hk:kd=2)(E:SlI nd kd wd last xs)(hw:r7 kd wd mo=0)(hT:0<=last/\last<=T/\T<=1048576)(M:xs.length+out.length<=400000):er prog κ 211 [(pt b),.agg #[e7 kd,e7 wd,e7 mo],e7 T] (e8 b [e7 nd,.slice a0 xs.length c0,.slice o0 out.length d0] 241::vq 146 a0 c0 xs::vq 108 o0 d0 out::I) (λr J=>∃y:Option Addr×Nat×Option Addr×Nat,(r = .tuple #[]/\SlI nd kd wd T (Y0 wd mo T xs out).1/\(Y0 wd mo T xs out).1.length+(Y0 wd mo T xs out).2.length=xs.length+out.length)/\J=e8 b [e7 nd,.slice y.1 ((Y0 wd mo T xs out).1).length y.2.1,.slice y.2.2.1 ((Y0 wd mo T xs out).2).length y.2.2.2] 241::vq 146 y.1 y.2.1 ((Y0 wd mo T xs out).1)::vq 108 y.2.2.1 y.2.2.2 ((Y0 wd mo T xs out).2)::I):=by
 subst hk
 exact fe2 E hw hT M
theorem ay7{e:Ev}(h:Z9 kd wd mo e.tm (xs,out)=(ys,zs))(M:kd=3):ab9 kd wd mo (xs,out) e=((eo ys e).filter (inW kd wd mo e.tm (eo ys e)),zs++[e]++F6 kd wd mo e.tm (eo ys e)):=by
 unfold ab9 dn4;rw [h,By M]
theorem bq5{e:Ev}(h:Z9 kd wd mo e.tm (xs,out)=(ys,zs))(M:¬kd=3):ab9 kd wd mo (xs,out) e=(eo ys e,zs++[e]):=by
 unfold ab9 dn4;rw [h,An M]
theorem br1(h:r7 kd wd mo=0)(M:kd=2):1<=wd:=by
 unfold r7 at h
 split at h
 ·cases h
 split at h
 ·cases h
 omega
theorem fj6(h:da8 nd es){k:Nat}(M:k<=es.length):0<=G3 es k:=by
 cases k with
 |zero=>exact Hn _
 |succ k=>rw [G0];exact (h.fit k om).tm.1
theorem P3(M:¬r7 kd wd mo≠0):K6 nd kd wd mo es=q8 nd es:=by unfold K6;rw [An M]
theorem fp8{va:Value}(hl:Sl κ I va es):er prog κ 140 [e7 nd,va,.agg #[e7 kd,e7 wd,e7 mo]] I (λr J=>((K6 nd kd wd mo es)≠0/\r = .tuple #[.slice none 0 0,e7 (K6 nd kd wd mo es)]/\I=J)\/(∃a c,(K6 nd kd wd mo es)=0/\r = .tuple #[.slice a (q9 kd wd mo es).2.length c,e7 0]/\J=vq 108 a c (q9 kd wd mo es).2::I)):=by
 refine Bm hl.le λba=>?_
 refine Ce3 Tryz.func140 C C ?_
 refine Aj<|Ge1 (Ay (cs:=[_,_,_]) C C C) λb1=>Ga C<|Ga C<|Aq<|Ax<|Aj<|Gl3 ah8 ?_
 refine G.e (Ac c_ C C<|bk6 kd wd mo) ?_
 rintro _ _ ⟨_,_,⟨rfl,rfl⟩,rfl,rfl⟩
 refine Ga C<|Aq<|Aj<|Gm C<|Gr (Cu C C)<|Aq<|Am C (λM=>?_)<|λM=>?_
 ·refine Aj (Gm C<|Ga C<|Ga C<|Aq<|A0 (S2 7 6)<|Bq<|Az ?_)
  have hz:(K6 nd kd wd mo es)=r7 kd wd mo:=by unfold K6;rw [By M]
  exact B5 C C C I Af<|.inl ⟨by rw [hz];exact M,by rw [hz],rfl⟩
 refine A4<|Al<|Ax<|Aj<|Gm C<|Gm C<|G.e (Ac c_ C C<|ch4 (nd:=nd)<|Bc hl) ?_
 rintro _ _ ⟨_,_,⟨rfl,rfl⟩,rfl,rfl⟩
 refine Ga C<|Aq<|A0 (S4 9 5 0 1)<|Aj<|Gm C<|Gr (Cu C C)<|Aq<|Am C (λaj=>?_)<|λaj=>?_
 ·refine Aj (Gm C<|Ga C<|Ga C<|Aq<|Bq<|Az ?_)
  have hz:(K6 nd kd wd mo es)=q8 nd es:=P3 M
  exact B5 C C C I Af<|.inl ⟨by rw [hz];exact aj,by rw [hz],rfl⟩
 refine A4<|Al<|Aj<|Gm C ?_
 have hE:=av3 (B_.1 aj)
 refine Gr (B1 (cells:=[_,_]) s5 Dc bu9 C C)<|Gr (B1 (cells:=[_,_,_]) gf4 Tryz.underlying241 gh5 C C)<|Ge1 (Ay (cs:=[_,_,_]) C C C) λb2=>Ga C<|Aq<|Ax<|Aj<|Gm C<|Gr (C3 (α:=Ev) (xs:=es) As C<|Bc hl)<|Gm C<|Aq<|A0 (S5 30 29 28 10 5)<|A3<|B4 (σ:=Nat×(Option Addr)×Nat×(Option Addr)×Nat×(List Lk)×(List Ev)) (λs=>([(5,pt b1),(10,pt b2),(28,va),(29,e7 ((es.length:Nat):Int)),(30,e7 ((s.1:Nat):Int))]:Env)) (λs=>e8 b2 [e7 nd,.slice s.2.1 s.2.2.2.2.2.1.length s.2.2.1,.slice s.2.2.2.1 s.2.2.2.2.2.2.length s.2.2.2.2.1] 241::vq 146 s.2.1 s.2.2.1 s.2.2.2.2.2.1::vq 108 s.2.2.2.1 s.2.2.2.2.1 s.2.2.2.2.2.2::e8 b1 [e7 kd,e7 wd,e7 mo] 31::I) (λs=>(s.1<=es.length)/\(q9 kd wd mo (List.take s.1 es)=(s.2.2.2.2.2.1,s.2.2.2.2.2.2))/\(SlI nd kd wd (G3 es s.1) s.2.2.2.2.2.1)/\(s.2.2.2.2.2.1.length+s.2.2.2.2.2.2.length<=2*s.1)) (λs=>es.length - s.1) (0,none,0,none,0,[],[]) ⟨om,rfl,(SlI.nil hE.nodes),(by simp)⟩ (cx4<|Aa Co A9) (Bz (Bb 108 _)<|Bz (Bb 146 _) Bi) ?_
 rintro ⟨k,a1,c1,o1,d1,xs,out⟩ hp
 dsimp only at hp ⊢
 obtain ⟨hk,an,hI,hs⟩:=hp
 have hlen:=hE.len
 refine Aj<|Gr (Bp C C)<|Aq<|Ax<|Am C (λa5=>?_)<|λa5=>?_
 ·refine A4 (Al<|Ax<|A3<|Aj<|Gr (A2 (α:=Ev) (xs:=es) As j7 C C (Bc hl) om om)<|Gr (Cd (α:=Ev) (xs:=es) j7 C (Bc hl) om om)<|Ge1 (Ah j7 C) λb3=>Ge0 (Fa j7) ?_)
  have ad:=hE.fit k om
  have aw:=hE.asc k om
  refine Aq<|D2 (σ:=(Option Addr)×Nat×(Option Addr)×Nat×(List Lk)×(List Ev)) (λs=>([(5,pt b1),(10,pt b2),(12,pt b3),(28,va),(29,e7 ((es.length:Nat):Int)),(30,e7<|(k:Int))]:Env)) (λs=>e8 b2 [e7 nd,.slice s.1 s.2.2.2.2.1.length s.2.1,.slice s.2.2.1 s.2.2.2.2.2.length s.2.2.2.1] 241::vq 146 s.1 s.2.1 s.2.2.2.2.1::vq 108 s.2.2.1 s.2.2.2.1 s.2.2.2.2.2::e8 b3 (ye (e_ es k)) 108::e8 b1 [e7 kd,e7 wd,e7 mo] 31::I) (λs=>((Z9 kd wd mo (e_ es k).tm (xs,out))=(s.2.2.2.2.1,s.2.2.2.2.2))/\(SlI nd kd wd (e_ es k).tm s.2.2.2.2.1)/\(s.2.2.2.2.1.length+s.2.2.2.2.2.length=xs.length+out.length)) ?_ ?_
  ·refine Aj (Gf ac5 C<|Gl ef ?_)
   refine Gr (B7 C C)<|Aq<|Am C (λai=>?_)<|λai=>?_
   ·refine A1 (Gm C<|Gl3 ah8 ?_)
    refine Gf K0 C<|Gl ef ?_
    refine G.e (Ac c_ C C<|Cm (J:=e8 b2 [e7 nd,.slice a1 xs.length c1,.slice o1 out.length d1] 241::vq 146 a1 c1 xs::vq 108 o1 d1 out::e8 b3 (ye (e_ es k)) 108::e8 b1 [e7 kd,e7 wd,e7 mo] 31::I) Bi<|fs7 (nd:=nd) (T:=(e_ es k).tm) (xs:=xs) (out:=out) ai hI (B_.1 M) ⟨fj6 hE om,aw,ad.tm.2⟩ om) ?_
    rintro _ _ ⟨_,_,⟨⟨a3,a8,a9,a4⟩,⟨rfl,aa⟩,rfl⟩,rfl,rfl⟩
    exact Bl<|Bu ((a3),(a8),(a9),(a4),((Y0 wd mo (e_ es k).tm xs out).1),((Y0 wd mo (e_ es k).tm xs out).2))<|by dsimp only;exact ⟨(by unfold Z9;rw [By ai]),aa.1,aa.2⟩
   exact A4<|Bu ((a1),(c1),(o1),(d1),(xs),(out))<|by dsimp only;exact ⟨(by unfold Z9;rw [An ai]),(hI.later aw<|λh=>absurd h ai),rfl⟩
  rintro ⟨a2,c2,o2,d2,ys,zs⟩ hp
  obtain ⟨aa,ax,bc⟩:((Z9 kd wd mo (e_ es k).tm (xs,out))=(ys,zs))/\(SlI nd kd wd (e_ es k).tm ys)/\(ys.length+zs.length=xs.length+out.length):=hp
  refine Aj<|Gm C<|Gl7 j7 ?_
  refine Ge1 (Bt (α:=Ev) (cs:=(ye (e_ es k))) (xs:=[⟨(e_ es k).kd,(e_ es k).tm,(e_ es k).u,(e_ es k).v,(e_ es k).w,(e_ es k).lb,(e_ es k).sg⟩]) As j7 C C dc dc C kr C C) λav=>?_
  refine G.e (Ac c_ C C<|Cm (J:=e8 b2 [e7 nd,.slice a2 ys.length c2,.slice o2 zs.length d2] 241::vq 146 a2 c2 ys::vq 108 o2 d2 zs::vc 108 (.slice av 1 1) (([⟨(e_ es k).kd,(e_ es k).tm,(e_ es k).u,(e_ es k).v,(e_ es k).w,(e_ es k).lb,(e_ es k).sg⟩]:List Ev))::e8 b3 (ye (e_ es k)) 108::e8 b1 [e7 kd,e7 wd,e7 mo] 31::I) Bi<|bj8 (nd:=nd) (xs:=ys) (out:=zs) (es:=([⟨(e_ es k).kd,(e_ es k).tm,(e_ es k).u,(e_ es k).v,(e_ es k).w,(e_ es k).lb,(e_ es k).sg⟩]:List Ev)) A6 ax.val (gk3 ad) (by have h:=y6 ys (e_ es k);have h9:=H5 kd wd mo (e_ es k).tm (eo ys<|e_ es k);first|(simp only [A_,Fu,F_];omega)|omega)<|by have h:=y6 ys (e_ es k);have h9:=H5 kd wd mo (e_ es k).tm (eo ys<|e_ es k);first|(simp only [A_,Fu,F_];omega)|omega) ?_
  rintro _ _ ⟨_,_,⟨⟨ao,ae,ab,ah⟩,rfl,rfl⟩,rfl,rfl⟩
  refine Aq<|Aj<|Gf ac5 C<|Gl ef ?_
  refine Gr (B7 C C) ?_
  have E:SlI nd kd wd (e_ es k).tm (eo ys<|e_ es k):=ax.step ad rfl (br1<|B_.1 M)
  refine Aq<|Am C (λak=>?_)<|λak=>?_
  ·refine A8 mixed (Cf (e8 b3 (ye (e_ es k)) 108::e8 b1 [e7 kd,e7 wd,e7 mo] 31::I) 10<|Dr 0 C (Ad C)<|Dr 1 C (Ad C)<|Dr 2 C (Bw C)<|Dr 3 C (Ai bb3 C)<|Dr 5 C (Ch (vs:=[_,_,_]) ah8) ?_)
   refine Dr 6 C (Ai K0 C)<|Dr 7 C (Bd ef) ?_
   refine Ds1 4<|Sr C (Ch (vs:=[_,_]) s5) Ar ?_
   refine Ds1 8<|Sc2 C (Ac c_ C C<|db6 (nd:=nd) A6 (by have h:=y6 ys (e_ es k);show (eo ys<|e_ es k).length<=1000000;omega)<|E.ask (B_.1 M) ad.tm<|Hn _) λaz au=>?_
   refine Ds1 9<|Se C (Ac c_ C C<|Cm (J:=e8 b2 [e7 nd,.slice ao (eo ys<|e_ es k).length ae,.slice ab (zs++[(e_ es k)]).length ah] 241::vq 146 ao ae (eo ys<|e_ es k)::vq 108 ab ah (zs++[(e_ es k)])::vq 108 az au (F6 kd wd mo ((e_ es k).tm)<|eo ys<|e_ es k)::vc 108 (.slice av 1 1) (([⟨(e_ es k).kd,(e_ es k).tm,(e_ es k).u,(e_ es k).v,(e_ es k).w,(e_ es k).lb,(e_ es k).sg⟩]:List Ev))::e8 b3 (ye (e_ es k)) 108::e8 b1 [e7 kd,e7 wd,e7 mo] 31::I) Bi<|bj8 (nd:=nd) (xs:=eo ys (e_ es k)) (out:=zs++[(e_ es k)]) (es:=F6 kd wd mo ((e_ es k).tm) (eo ys<|e_ es k)) A6 E.val (bx2 E.val ad.tm) (by have h:=y6 ys (e_ es k);have h9:=H5 kd wd mo (e_ es k).tm (eo ys<|e_ es k);first|(simp only [A_,Fu,F_];omega)|omega)<|by have h:=y6 ys (e_ es k);have h9:=H5 kd wd mo (e_ es k).tm (eo ys<|e_ es k);first|(simp only [A_,Fu,F_];omega)|omega) ?_
   rintro _ _ ⟨_,_,⟨⟨ay,a0,ar,aq⟩,rfl,rfl⟩,rfl,rfl⟩
   refine ⟨Ar,?_⟩
   refine Dz<|Ap<|Al<|A0 (S5 5 10 28 29 30)<|A1<|Gr (Rad C C)<|Gm C<|Bl ?_
   have a7:=U5 (kd:=kd) (wd:=wd) (mo:=mo) (nw:=(e_ es k).tm) E.val
   have bb:=H5 kd wd mo (e_ es k).tm (eo ys<|e_ es k)
   have a6:=y6 ys (e_ es k)
   exact Bh ((k+1),(ay),(a0),(ar),(aq),(List.filter (inW kd wd mo (e_ es k).tm (eo ys<|e_ es k))<|eo ys<|e_ es k),(zs++[(e_ es k)]++F6 kd wd mo (e_ es k).tm (eo ys<|e_ es k))) (by dsimp only;exact ⟨om,(by rw [H9 om,an];exact ay7 aa ak),(by rw [G0];exact E.filter _),lap⟩) (hI:=by (try dsimp only);exact (by rw [←a7];exact Ar))
  refine A4<|Ap<|Al<|A1<|Gr (Rad C C)<|Gm C<|Bl ?_
  have a6:=y6 ys (e_ es k)
  exact Bh ((k+1),(ao),(ae),(ab),(ah),((eo ys<|e_ es k)),(zs++[(e_ es k)]))<|by dsimp only;exact ⟨om,(by rw [H9 om,an];exact bq5 aa ak),(by rw [G0];exact E),lap⟩
 refine B6<|Ao<|Ao<|A5<|Al<|Aj<|Gm C<|Gr (Bw C)<|Gf at2 C<|Gl fw1 ?_
 refine Ga C<|Ga C<|Aq<|Bq ?_
 have ap:(q9 kd wd mo es)=(xs,out):=by rw [←an,show List.take k es=es from Gb om]
 have hz:(K6 nd kd wd mo es)=0:=(P3 M).trans (B_.1 aj)
 exact B5 C C C (vq 108 o1 d1 (q9 kd wd mo es).2::I) (by unfold vq;rw [ap];exact Ar)<|.inr ⟨o1,d1,hz,by rw [ap],rfl⟩
theorem cf1:EqT prog 135 Pt:=EqT.flat (λp:Pt=>[p.u,p.v]) (λ_=>rfl) (λx y h=>by cases x;cases y;simpa using h) (n:=2) (λ_=>rfl) kr kr kr kr kr
end Go.Sl
namespace Go.Sl
open Go.Proofs
set_option maxRecDepth 4000
attribute [local irreducible] W G V D A j0 Eff
theorem ta5{p:Prop}(h:p:=by unfold cg7;rw [By om]):p:=h
theorem M1{κ:Ctx}{I:List Item}{nd:Int}{v:Value}{es:List Pt}(hl:Sl κ I v es):er prog κ 83 [.agg #[e7 nd,v]] I (λr J=>r=e7 (p9 nd es)/\I=J):=by
 refine Bm hl.le λah=>?_
 refine Ce1 Tryz.func83 C C ?_
 refine Aj<|Ge1 (Ay (cs:=[_,_]) C C C) λb1=>Z ?_
 refine Au (d:=8) C (λg8=>Z ?_)<|λg8=>Z ?_
 ·exact Ak C C I Af ⟨by rw [show p9 nd es=1 from (by unfold p9;rw [By om])],rfl⟩
 refine Am C (λc12=>Z ?_)<|λc12=>Z ?_
 ·exact Ak C C I Af ⟨by rw [show p9 nd es=1 from (by unfold p9;rw [By om])],rfl⟩
 refine Dl (σ:=Nat) (λs=>[(16,e7 ((s:Nat):Int))]) (λ_=>[]) (λs=>(s<=es.length)/\(p9 nd es=R3 (cg7 nd) Pt.lt (Y6 es s) (es.drop s))) (λs=>es.length - s) 0 ⟨om,(by unfold p9;rw [An om];rfl)⟩ ?_
 rintro k hp
 obtain ⟨hk,hs⟩:=hp
 refine Z ?_
 refine Am C (λab=>Z ?_)<|λab=>Z ?_
 ·refine Ge1 (Ah H3 C) λb2=>Ga C (Ge0 (Ba H3)<|Z ?_)
  refine Au (d:=25) C (λM=>Z ?_)<|λM=>Z ?_
  ·exact Ak C C I Af ⟨by rw [show p9 nd es=6 from (hs.trans<|(Cy om<|by unfold cg7;rw [By om];decide).trans ta5)],rfl⟩
  refine Au (d:=32) C (λae=>Z ?_)<|λae=>Z ?_
  ·exact Ak C C I Af ⟨by rw [show p9 nd es=6 from (hs.trans<|(Cy om<|by unfold cg7;rw [By om];decide).trans ta5)],rfl⟩
  refine Am C (λad=>Z ?_)<|λad=>?_
  ·exact Ak C C I Af ⟨by rw [show p9 nd es=6 from (hs.trans<|(Cy om<|by unfold cg7;rw [By om];decide).trans ta5)],rfl⟩
  refine Ax<|A8 mixed<|C1 14<|Z ?_
  refine Cw (d:=42) C (λaa=>Z ?_)<|λaa=>?_
  ·refine Ds1 10 (Se C (Ac c_ C C<|fq6 (e_ es<|(k:Int) - 1)<|e_ es k) ?_)
   rintro _ _ ⟨_,_,⟨rfl,rfl⟩,rfl,rfl⟩
   refine ⟨Af,?_⟩
   refine Z ?_
   refine Am C (λE=>Z ?_)<|λE=>Z ?_
   ·exact Ak C C I Af ⟨by rw [show p9 nd es=5 from (hs.trans<|ae9 om (W5.2 om) om (λh=>by have:=(Pt.ac0 _ _).2 h;omega))],rfl⟩
   exact Bh ((k+1)) ⟨om,(hs.trans<|Ep om (W5.2 om)<|λh0=>by first|omega|exact (Pt.ac0 _ _).1 om)⟩
  refine Dpo 3 C<|Z ?_
  exact Bh ((k+1)) ⟨om,(hs.trans<|Ep om (W5.2 om)<|λh0=>by first|omega|exact (Pt.ac0 _ _).1 om)⟩
 exact Ak C C I Af ⟨by rw [show p9 nd es=0 from (hs.trans<|ar9 om)],rfl⟩
end Go.Sl
namespace Go.Sl
open Go.Proofs
set_option maxRecDepth 4000
end Go.Sl
namespace Go.Sl
open Go.Proofs
set_option maxRecDepth 4000
variable{l set:List Int}{a b nd v:Int}{i:Nat}{es:List Pt}{va:Value}
variable {κ:Ctx}{I:List Item}
attribute [local irreducible] W G V D A j0 Eff
def Q6(v:Int):BitVec 64:=if v<0\/64<=v then 0#64 else 1#64 <<< v.toNat
def z7(l:List Int):BitVec 64:=l.foldl (λm v=>m ||| Q6 v) 0#64
def K2(n:Int):BitVec 64:=if n<=0 then 0#64 else if 64<=n then 18446744073709551615#64 else (1#64 <<< n.toNat) - 1#64
theorem de7{k:Nat}(h:k<l.length):z7 (l.take (k+1))=z7 (l.take k) ||| Q6 (e_ l k):=by
 unfold z7;rw [Cn l k h,Hw];rfl
def fh5(m:BitVec 64):BitVec 64:=((m >>> (1:Int).toNat) &&& 6148914691236517205#64)+(m &&& 6148914691236517205#64)
def fh4(m:BitVec 64):BitVec 64:=((m >>> (2:Int).toNat) &&& 3689348814741910323#64)+(m &&& 3689348814741910323#64)
def cc9(m:BitVec 64):BitVec 64:=((m >>> (4:Int).toNat)+m) &&& 1085102592571150095#64
def bv1(m:BitVec 64):BitVec 64:=m+(m >>> (8:Int).toNat)
def cc8(m:BitVec 64):BitVec 64:=m+(m >>> (16:Int).toNat)
def de2(m:BitVec 64):BitVec 64:=m+(m >>> (32:Int).toNat)
def X4(m:BitVec 64):Int:=((de2 (cc8 (bv1 (cc9 (fh4 (fh5 m)))))).toNat:Int) % 128
theorem de1(m:BitVec 64):(de2 (cc8 (bv1 (cc9 m)))).toNat<9223372036854775808:=by
 have h3:(cc9 m).toNat<=1085102592571150095:=by unfold cc9;rw [Ja];exact Nat.and_le_right
 generalize cc9 m=a at h3
 have M:(bv1 a).toNat<=a.toNat+a.toNat / 256:=by
  unfold bv1;rw [J_,Hh,Hj,show 2 ^ (8:Int).toNat=256 by decide];exact Nat.mod_le _ _
 generalize bv1 a=b at M
 have E:(cc8 b).toNat<=b.toNat+b.toNat / 65536:=by
  unfold cc8;rw [J_,Hh,Hj,show 2 ^ (16:Int).toNat=65536 by decide];exact Nat.mod_le _ _
 generalize cc8 b=c at E
 have h6:(de2 c).toNat<=c.toNat+c.toNat / 4294967296:=by
  unfold de2;rw [J_,Hh,Hj,show 2 ^ (32:Int).toNat=4294967296 by decide];exact Nat.mod_le _ _
 omega
theorem ac4(v:Int):er prog κ 237 [e7 v] I (λr J=>r=U64 (Q6 v)/\I=J):=by
 refine Ce1 Tryz.func237 C C<|Z ?_
 refine Au (d:=5) C (λM=>Z ?_)<|λM=>Z ?_
 ·exact Ak C C I Af ⟨by unfold Q6;rw [By om];rfl,rfl⟩
 refine Am C (λE=>Z ?_)<|λE=>Z ?_
 ·exact Ak C C I Af ⟨by unfold Q6;rw [By om];rfl,rfl⟩
 exact Gr (j0.gp8 (a:=1#64) C C om om)<|Ga C<|Aq<|Bq<|Ak C C I Af ⟨by unfold Q6;rw [An om],rfl⟩
theorem au4{v:Value}(hl:Sl κ I v l):er prog κ 199 [v] I (λr J=>r=U64 (z7 l)/\I=J):=by
 refine Bm hl.le λaa=>?_
 refine Ce1 Tryz.func199 C C<|Z ?_
 refine Dl (σ:=Nat×(BitVec 64)) (λs=>[(3,U64<|s.2),(8,e7 ((s.1:Nat):Int))]) (λ_=>[]) (λs=>(s.1<=l.length)/\(s.2=z7 (l.take s.1))) (λs=>l.length - s.1) (0,0#64) ⟨om,rfl⟩ ?_
 rintro ⟨k,m⟩ E
 dsimp only at E ⊢
 obtain ⟨hk,M⟩:=E
 refine Z ?_
 refine Am C (λc9=>Z ?_)<|λc9=>Z ?_
 ·refine G.e (Ac c_ C C<|ac4<|e_ l k) ?_
  rintro _ _ ⟨_,_,⟨rfl,rfl⟩,rfl,rfl⟩
  refine Gr (Fh (a:=m) (b:=Q6 (e_ l k)) C C)<|Z ?_
  exact Bh ((k+1),(m ||| (Q6<|e_ l k)))<|by dsimp only;exact ⟨om,(by rw [de7 om,←M])⟩
 rw [Gb om] at M
 exact Ak C C I Af ⟨by rw [M],rfl⟩
theorem R2(n:Int):er prog κ 200 [e7 n] I (λr J=>r=U64 (K2 n)/\I=J):=by
 refine Ce1 Tryz.func200 C C<|Z ?_
 refine Am C (λE=>Z ?_)<|λE=>Z ?_
 ·exact Ak C C I Af ⟨by unfold K2;rw [By om];rfl,rfl⟩
 refine Am C (λM=>Z ?_)<|λM=>Z ?_
 ·exact Ak C C I Af ⟨by unfold K2;rw [An om,By om];rfl,rfl⟩
 exact Gr (j0.gp8 (a:=1#64) C C om om)<|Gr (j0.gr1 (a:=(1#64) <<< (n).toNat) (b:=1#64) C C)<|Ga C<|Aq<|Bq<|Ak C C I Af ⟨by unfold K2;rw [An om,An om],rfl⟩
theorem ci1(m:BitVec 64):er prog κ 271 [U64 m] I (λr J=>r=e7 (X4 m)/\I=J):=by
 refine Ce1 Tryz.func271 C C<|Z ?_
 refine Gr (Fg (a:=m) C C om om)<|Gr (C4 (a:=m >>> (1:Int).toNat) (b:=6148914691236517205#64) C C)<|Gm C<|Gr (C4 (a:=m) (b:=6148914691236517205#64) C C)<|Gr (j0.ge8 (a:=(m >>> (1:Int).toNat) &&& (6148914691236517205#64)) (b:=m &&& (6148914691236517205#64)) C C)<|Z ?_
 generalize hm1:((m >>> (1:Int).toNat) &&& (6148914691236517205#64))+(m &&& (6148914691236517205#64))=m1
 refine Z ?_
 refine Gr (Fg (a:=m1) C C om om)<|Gr (C4 (a:=m1 >>> (2:Int).toNat) (b:=3689348814741910323#64) C C)<|Gm C<|Gr (C4 (a:=m1) (b:=3689348814741910323#64) C C)<|Gr (j0.ge8 (a:=(m1 >>> (2:Int).toNat) &&& (3689348814741910323#64)) (b:=m1 &&& (3689348814741910323#64)) C C)<|Z ?_
 generalize hm2:((m1 >>> (2:Int).toNat) &&& (3689348814741910323#64))+(m1 &&& (3689348814741910323#64))=m2
 refine Z ?_
 refine Gr (Fg (a:=m2) C C om om)<|Gm C<|Gr (j0.ge8 (a:=m2 >>> (4:Int).toNat) (b:=m2) C C)<|Gr (C4 (a:=(m2 >>> (4:Int).toNat)+m2) (b:=1085102592571150095#64) C C)<|Z ?_
 generalize hm3:((m2 >>> (4:Int).toNat)+m2) &&& (1085102592571150095#64)=m3
 refine Z ?_
 refine Gr (Fg (a:=m3) C C om om)<|Gr (j0.ge8 (a:=m3) (b:=m3 >>> (8:Int).toNat) C C)<|Z ?_
 generalize hm4:m3+(m3 >>> (8:Int).toNat)=m4
 refine Z ?_
 refine Gr (Fg (a:=m4) C C om om)<|Gr (j0.ge8 (a:=m4) (b:=m4 >>> (16:Int).toNat) C C)<|Z ?_
 generalize hm5:m4+(m4 >>> (16:Int).toNat)=m5
 refine Z ?_
 refine Gr (Fg (a:=m5) C C om om)<|Gr (j0.ge8 (a:=m5) (b:=m5 >>> (32:Int).toNat) C C)<|Z ?_
 generalize hm6:m5+(m5 >>> (32:Int).toNat)=m6
 refine Z ?_
 exact Gr (j0.toI Ce A7 C<|by subst hm6 hm5 hm4 hm3;exact de1 _)<|Gr (j0.gn0 C C om)<|Ga C<|Aq<|Bq<|Ak C C I Af ⟨by subst hm6 hm5 hm4 hm3 hm2 hm1;rfl,rfl⟩
theorem cj2(m:BitVec 64):er prog κ 219 [U64 m] I (λr J=>r=e7 (X4 m)/\I=J):=by
 refine Ce1 Tryz.func219 C C<|Z ?_
 refine Gc0 (Ac c_ C C<|ci1 m) ?_
 exact Ga C<|Aq<|Bq<|Ak C C I Af ⟨rfl,rfl⟩
variable {κ:Ctx}{I:List Item}
theorem da2(M:0<=v)(E:v<64):Q6 v=BitVec.twoPow 64 v.toNat:=by
 unfold Q6;rw [An om];rfl
theorem cp0(hi:i<64):(Q6 v).getLsbD i=decide (v=(i:Int)):=by
 by_cases h:0<=v/\v<64
 ·rw [da2 h.1 h.2,BitVec.getLsbD_twoPow]
  have e:(v.toNat=i)↔(v=(i:Int)):=by omega
  simp [hi,h,e]
 unfold Q6
 rw [By om]
 have:¬v=(i:Int):=by omega
 simp [this]
theorem aa6(hi:i<64):∀(l:List Int) (m:BitVec 64),(l.foldl (λm v=>m ||| Q6 v) m).getLsbD i=(m.getLsbD i||decide ((i:Int)∈l))
 |[],m=>by simp
 |v::l,m=>by
  rw [Jp,aa6 hi l,Je,cp0 hi]
  by_cases h1:v=(i:Int)
  ·simp [h1]
  have:¬(i:Int)=v:=λe=>h1 e.symm
  simp [h1,this]
theorem cd2(h0:0<=v)(E:v<64):(z7 l &&& Q6 v≠0#64)↔v∈l:=by
 have M:(z7 l).getLsbD v.toNat=decide (v∈l):=by
  unfold z7;rw [aa6 om,show ((v.toNat:Nat):Int)=v by omega];simp
 rw [da2 h0 E,BitVec.and_twoPow,M]
 by_cases h:v∈l
 ·simp only [h,decide_true,Ll,iff_true]
  intro e
  have:=Fz (λb=>BitVec.getLsbD b v.toNat) e
  simp only [BitVec.getLsbD_twoPow] at this
  simp at this
  omega
 simp [h]
def inE(set:List Int)(e:Pt):Bool:=decide ((z7 set &&& Q6 e.u≠0#64)/\(z7 set &&& Q6 e.v≠0#64))
def aq0(set:List Int)(es:List Pt):List Pt:=es.filter (inE set)
theorem gj4(h:G8 nd es){e:Pt}(M:e∈es):inE set e=decide (e.u∈set/\e.v∈set):=by
 have:=h.ad7 e M;have:=h.rng
 unfold inE
 rw [Fy,cd2 om om,cd2 om om]
theorem bp5(set:List Int)(h:G8 nd es):aq0 set es=es.filter λe=>decide (e.u∈set/\e.v∈set):=
 Jd λe M=>gj4 h M
def M9(nd:Int)(es:List Pt)(set:List Int):Nat:=if p9 nd es≠0 then 0 else (aq0 set es).length
theorem aw2(nd:Int)(es:List Pt)(set:List Int):M9 nd es set<=es.length:=by
 unfold M9;split
 ·exact Le _
 exact Gz _ _
theorem di3{vb:Value}(hl:Sl κ I va es)(hs:Sl κ I vb set)(hb:es.length<=1000000):er prog κ 275 [.agg #[e7 nd,va],vb] I (λr J=>∃a c,r = .slice a (aq0 set es).length c/\J=vq 135 a c (aq0 set es)::I):=by
 refine Bm hl.le λai=>?_
 refine Ce2 Tryz.func275 C C ?_
 refine Aj<|Ge1 (Ay (cs:=[_,_]) C C C) λb1=>Z ?_
 refine Gc0 (Ac c_ C C<|au4<|Bc hs)<|Z ?_
 refine Dl (σ:=Nat×(Option Addr)×Nat×(List Pt)) (λs=>[(6,.slice s.2.1 s.2.2.2.length s.2.2.1),(14,e7 ((s.1:Nat):Int))]) (λs=>[vq 135 s.2.1 s.2.2.1 s.2.2.2]) (λs=>(s.1<=es.length)/\(s.2.2.2=(es.take s.1).filter (inE set))) (λs=>es.length - s.1) (0,none,0,[]) ⟨om,rfl⟩ (hI:=(Bb _ _)) ?_
 rintro ⟨k,a,c,out⟩ hp
 dsimp only at hp ⊢
 obtain ⟨hk,ho⟩:=hp
 have aj:out.length<=es.length:=by rw [ho];refine Jt (Gz _ _) ?_;simp only [Fx];omega
 refine Z ?_
 refine Am C (λM=>Z ?_)<|λM=>Z ?_
 ·refine Ge1 (Ah H3 C) λb2=>Ge0 (Ba H3) (Z ?_)
  refine G.e (Ac c_ C C<|ac4<|(e_ es k).u) ?_
  rintro _ _ ⟨_,_,⟨rfl,rfl⟩,rfl,rfl⟩
  refine Gr (C4 (a:=z7 set) (b:=Q6 ((e_ es k).u)) C C)<|Gr (E3 (a:=(z7 set) &&& (Q6<|(e_ es k).u)) (b:=0#64) C C)<|Gm C<|Au (d:=24) C (λE=>Z ?_)<|λE=>Z ?_
  ·refine D0 (B9 C C C) (Ac c_ C C<|ac4<|(e_ es k).v) ?_
   rintro _ _ ⟨_,_,⟨rfl,rfl⟩,rfl,rfl⟩
   refine e9 (C4 (a:=z7 set) (b:=Q6 ((e_ es k).v)) C C)<|e9 (E3 (a:=(z7 set) &&& (Q6<|(e_ es k).v)) (b:=0#64) C C)<|Z ?_
   refine Am C (λae=>Z ?_)<|λae=>Z ?_
   ·refine Ge1 (Bt (α:=Pt) (cs:=[_,_]) (xs:=[⟨(e_ es k).u,(e_ es k).v⟩]) B2 H3 C C dc dc C C C C) λak=>?_
    refine Ge2 (Bv (α:=Pt) (e:=135) (xs:=out) (ys:=([⟨(e_ es k).u,(e_ es k).v⟩]:List Pt)) B2 H3 C C C mm A6 lcn dc C<|λ_ _=>am) λad aa=>Z ?_
    exact Bh ((k+1),(ad),(aa),(out++([⟨(e_ es k).u,(e_ es k).v⟩]:List Pt)))<|by dsimp only;exact ⟨om,(by first|rw [aw5 om (D_ ⟨by assumption,by assumption⟩),←ho]|rw [bq1 om (E_<|λh=>by first|exact absurd h.1 asm|exact absurd h.2 asm),←ho])⟩
   exact Bh ((k+1),(a),(c),(out))<|by dsimp only;exact ⟨om,(by first|rw [aw5 om (D_ ⟨by assumption,by assumption⟩),←ho]|rw [bq1 om (E_<|λh=>by first|exact absurd h.1 asm|exact absurd h.2 asm),←ho])⟩
  exact Bh ((k+1),(a),(c),(out))<|by dsimp only;exact ⟨om,(by first|rw [aw5 om (D_ ⟨by assumption,by assumption⟩),←ho]|rw [bq1 om (E_<|λh=>by first|exact absurd h.1 asm|exact absurd h.2 asm),←ho])⟩
 have ah:es.take k=es:=Gb om
 rw [ah] at ho
 have ab:out=aq0 set es:=ho
 subst ab
 exact Ak C C (vq 135 a c (aq0 set es)::I) Ar ⟨a,c,rfl,rfl⟩
theorem dk7{E:Value}(hl:Sl κ I va es)(hs:Sl κ I E set)(hb:es.length<=1000000):er prog κ 221 [.agg #[e7 nd,va],E] I (λr J=>r=e7 ((M9 nd es set:Nat):Int)/\I=J):=by
 refine Ce2 Tryz.func221 C C ?_
 refine Aj<|Ge1 (Ay (cs:=[_,_]) C C C) λb1=>Z ?_
 refine Gc0 (Ac c_ C C<|M1<|Bc hl)<|Z ?_
 refine Am C (λM=>Z ?_)<|λM=>Z ?_
 ·exact Ak C C I Af ⟨by unfold M9;rw [By M];rfl,rfl⟩
 refine G.e (Ac c_ C C<|di3 (Bc hl) (Bc hs) om) ?_
 rintro _ _ ⟨_,_,⟨ab,aa,rfl,rfl⟩,rfl,rfl⟩
 refine Z ?_
 exact Ak C C I Af ⟨by unfold M9;rw [An M],rfl⟩
variable {κ:Ctx}{I:List Item}
structure Fr where
 num:Int
 den:Int
deriving DecidableEq
instance:Inhabited Fr:=⟨⟨0,0⟩⟩
instance:Enc Fr:=⟨λr=>[e7 r.num,e7 r.den],2,by omega,λ_=>rfl,λr u hu=>by
 simp only [Gh,Hy,Kx] at hu
 rcases hu with rfl|rfl<;>rfl⟩
theorem ao5:EqT prog 40 Fr:=EqT.flat (λp:Fr=>[p.num,p.den]) (λ_=>rfl) (λx y h=>by cases x;cases y;simpa using h) (n:=2) (λ_=>rfl) kr kr kr kr kr
def af8(a b:Int):Int:=((a.toNat.gcd b.toNat:Nat):Int)
theorem ce5(M:0<=a)(E:0<b):af8 b (Int.tmod a b)=af8 a b:=by
 unfold af8
 rw [Nc M,show (a % b).toNat=a.toNat % b.toNat by rw [Int.toNat_emod M om]]
 congr 1
 rw [Nat.gcd_comm a.toNat b.toNat,Nat.gcd_rec b.toNat a.toNat,Nat.gcd_comm]
theorem ce4(M:0<=a):af8 a 0=a:=by unfold af8;simp;omega
theorem at0(M:0<b):0<af8 a b:=by
 unfold af8
 have:0<a.toNat.gcd b.toNat:=Nat.gcd_pos_of_pos_right _ om
 omega
theorem dv2(M:0<b):af8 a b<=b:=by
 unfold af8
 have:a.toNat.gcd b.toNat<=b.toNat:=Nat.le_of_dvd om (Nat.gcd_dvd_right _ _)
 omega
def mkF(a b:Int):Fr:=⟨a / af8 a b,b / af8 a b⟩
theorem bg0(M:0<=a)(E:0<b):0<=(mkF a b).num/\(mkF a b).num<=a:=⟨Int.ediv_nonneg M (by have:=at0 (a:=a) E;omega),Mr _ M⟩
theorem bg1(M:0<b):1<=(mkF a b).den/\(mkF a b).den<=b:=by
 have E:=at0 (a:=a) M
 have hl:=dv2 (a:=a) M
 exact ⟨(Int.le_ediv_iff_mul_le E).2 om,Mr _ om⟩
theorem an9(n m:Int)(h:0<=m/\m<=9223372036854775807):er prog κ 157 [e7 n,e7 m] I (λr J=>r = .bool (decide (-m<=n/\n<=m))/\I=J):=by
 refine Ce2 Tryz.func157 C C<|Z ?_
 refine Gr (E2 C<|by unfold InR;omega)<|Z ?_
 refine Au (d:=9) C (λM=>Z ?_)<|λM=>Z ?_
 ·exact Ak C C I Af ⟨ta1,rfl⟩
 exact Ak C C I Af ⟨ta1,rfl⟩
theorem ck5(a b:Int)(h0:0<=a)(h1:0<=b):er prog κ 158 [e7 a,e7 b] I (λr J=>r=e7 (af8 a b)/\I=J):=by
 refine Ce2 Tryz.func158 C C<|Z ?_
 refine Dl (σ:=Int×Int) (λs=>[(0,e7<|s.1),(1,e7<|s.2)]) (λ_=>[]) (λs=>(0<=s.1)/\(0<=s.2)/\(af8 s.1 s.2=af8 a b)) (λs=>s.2.toNat) (a,b) ⟨om,om,rfl⟩ ?_
 rintro ⟨x,y⟩ hp
 dsimp only at hp ⊢
 obtain ⟨M,hy,hg⟩:=hp
 refine Z ?_
 refine Am C (λc6=>?_)<|λc6=>Z ?_
 ·refine A4 (Al<|A3<|A8 mixed<|Cf I 6<|Z ?_)
  refine Dr 3 C (j0.rem C C om)<|Z ?_
  have aa:=Int.tmod_nonneg y (a:=x) M
  have ab:=Int.tmod_lt_of_pos x (b:=y) om
  exact Bh ((y),(Int.tmod x y))<|by dsimp only;exact ⟨om,om,((ce5 M om).trans hg)⟩
 have E:y=0:=by omega
 subst E
 exact Ak C C I Af ⟨by rw [←hg,ce4 M],rfl⟩
theorem dm6(x:Fr)(h:0<=x.num/\x.num<=1152921504606846976/\x.den<=1152921504606846976):er prog κ 309 [.agg #[e7 (x.num),e7 (x.den)]] I (λr J=>r = .tuple #[.agg #[e7 x.num,e7 x.den],e7 0]/\I=J):=by
 refine Ce1 Tryz.func309 C C ?_
 refine Aj<|Ge1 (Ay (cs:=[_,_]) C C C) λb1=>Ge1 (Ah P0 C) λE=>Z ?_
 refine G.e (Ac c_ C C<|an9 x.num 1152921504606846976 om) ?_
 rintro _ _ ⟨_,_,⟨rfl,rfl⟩,rfl,rfl⟩
 refine Z ?_
 refine Au (d:=8) C (λM=>?_)<|λM=>Z ?_
 ·exact absurd h om
 refine Am C (λc12=>?_)<|λc12=>Z ?_
 ·exact absurd h om
 refine Ge0 (Ba P0) ?_
 exact Ga C<|Aq<|Bq<|C7 C P0 C C mm C I Af ⟨rfl,rfl⟩
theorem fc4(a b:Int)(h0:0<=a/\a<=1152921504606846976)(M:0<b/\b<=1152921504606846976):er prog κ 272 [e7 a,e7 b] I (λr J=>r = .tuple #[.agg #[e7 (mkF a b).num,e7 (mkF a b).den],e7 0]/\I=J):=by
 refine Ce2 Tryz.func272 C C ?_
 refine Aj<|Ge1 (Ah P0 C) λb1=>Z ?_
 refine Am C (λc8=>?_)<|λc8=>Z ?_
 ·exact absurd c8 om
 refine Gr (E2 C<|by unfold InR;omega)<|Z ?_
 refine Gc0 (Ac c_ C C<|ck5 (if a<(-(a)) then (-(a)) else a) b (by split<;>omega) om)<|Z ?_
 have E:(if a < -a then -a else a)=a:=by rw [An om]
 rw [E]
 refine Z ?_
 refine A8 mixed<|C1 10<|Z ?_
 have aa:=at0 (a:=a) M.1
 refine Z ?_
 refine Dr 2 C (j0.quo C C om om<|by unfold InR;omega)<|Z ?_
 refine Dr 5 C (j0.quo C C om om<|by unfold InR;omega)<|Z ?_
 refine Ds1 7<|Sc0 C (Ac c_ C C<|dm6 (⟨a / (af8 a b),b / (af8 a b)⟩:Fr)<|by have hn:=bg0 h0.1 M.1;have hd:=bg1 (a:=a) M.1;exact ⟨hn.1,by have:=hn.2;show (mkF a b).num<=_;omega,by have:=hd.2;show (mkF a b).den<=_;omega⟩)<|Z ?_
 refine De kr ?_
 refine Ae 10 C (Ba P0) ?_
 rintro _ _ ⟨rfl,rfl⟩
 refine Ft (i:=11) kr C (Ci C) C C (Bo C) ?_
 refine Df kr<|Z ?_
 exact C7 C P0 C C mm C I Af ⟨rfl,rfl⟩
theorem db2(a b:Int)(h0:0<=a/\a<=1152921504606846976)(h1:0<b/\b<=1152921504606846976):er prog κ 220 [e7 a,e7 b] I (λr J=>r = .tuple #[.agg #[e7 (mkF a b).num,e7 (mkF a b).den],e7 0]/\I=J):=by
 refine Ce2 Tryz.func220 C C ?_
 refine Aj<|Ge1 (Ah P0 C) λb1=>Z ?_
 refine Am C (λE=>?_)<|λE=>?_
 ·exact absurd E om
 refine Aj<|Gm C<|G.e (Ac c_ C C<|an9 a 4611686018427387904 om) ?_
 rintro _ _ ⟨_,_,⟨rfl,rfl⟩,rfl,rfl⟩
 refine Gm C<|Au (d:=13) C (λM=>?_)<|λM=>?_
 ·refine e9 (Ad C) (D0 (B9 C C C) (Ac c_ C C<|an9 b 4611686018427387904 om) ?_)
  rintro _ _ ⟨_,_,⟨rfl,rfl⟩,rfl,rfl⟩
  refine Z ?_
  refine Am C (λc10=>Z ?_)<|λc10=>?_
  ·refine Gc0 (Ac c_ C C<|fc4 a b om om) (Z ?_)
   refine Ge0 (Ba P0)<|Z ?_
   exact C7 C P0 C C mm C I Af ⟨rfl,rfl⟩
  exact absurd om c10
 exact absurd om M
end Go.Sl
namespace Go.Sl
open Go.Proofs
set_option maxRecDepth 4000
theorem cv6(m:BitVec 64):0<=X4 m/\X4 m<128:=by unfold X4;omega
end Go.Sl
namespace Go.Sl
open Go.Proofs
set_option maxRecDepth 4000
variable{nd:Int}{v:Value}{es:List Pt}
attribute [local irreducible] W G V D A j0 Eff
theorem bj1{rows:List (BitVec 64)}{e:Pt}(h:¬(0<=e.u/\e.u<e.v/\e.v<rows.length)):X3 rows e=rows:=by unfold X3;rw [An h]
theorem bz4{κ:Ctx}{I:List Item}(hl:Sl κ I v es):er prog κ 198 [.agg #[e7 nd,v]] I (λr J=>∃a c,r = .slice a (ek nd es).length c/\J=vq 175 a c (ek nd es)::I):=by
 refine Bm hl.le λan=>?_
 refine Ce1 Tryz.func198 C C ?_
 refine Aj<|Ge1 (Ay (cs:=[_,_]) C C C) λb1=>Z ?_
 refine Ge2 (Ca (α:=(BitVec 64)) (n:=(min (max nd 0) 64).toNat) Ds J8 C C C om om dc C) λad ab=>Z ?_
 have ak:(List.replicate (min (max nd 0) 64).toNat (default:(BitVec 64))).length=(min (max nd 0) 64).toNat:=Fw
 refine Z ?_
 refine Dl (σ:=Nat×(List<|BitVec 64)) (λs=>[(14,e7 ((s.1:Nat):Int))]) (λs=>[vc 175 (.slice ad (List.replicate ((min (max nd 0) 64).toNat) (default:(BitVec 64))).length ab) (s.2)]) (λs=>(s.1<=es.length)/\(s.2=ek nd (es.take s.1))/\(s.2.length=(min (max nd 0) 64).toNat)) (λs=>es.length - s.1) (0,List.replicate (min (max nd 0) 64).toNat (default:(BitVec 64))) ⟨om,rfl,(by simp)⟩ ?_
 rintro ⟨k,rows⟩ hp
 dsimp only at hp ⊢
 obtain ⟨hk,hr,E⟩:=hp
 refine Z ?_
 refine Am C (λae=>Z ?_)<|λae=>Z ?_
 ·refine Ge1 (Ah H3 C) λb4=>Ge0 (Ba H3) (Z ?_)
  refine Au (d:=21) C (λah=>Z ?_)<|λah=>Z ?_
  ·refine Au (d:=28) C (λai=>Z ?_) (λai=>Z ?_)
   ·refine Am C (λaj=>?_) (λaj=>Z ?_)
    ·refine Ax (A8 mixed<|C1 10<|Z ?_)
     refine Dr 7 C (j0.gp8 (a:=1#64) C C om om)<|Dr 8 C (Fh (a:=(e_ rows<|(e_ es k).u)) (b:=(1#64) <<< ((e_ es k).v).toNat) C C)<|Z ?_
     refine De kr ?_
     refine Ae 10 C (Cr (α:=(BitVec 64)) (xs:=rows) (e:=175) (new:=(e_ rows<|(e_ es k).u) ||| ((1#64) <<< ((e_ es k).v).toNat)) J8 C C C om oo am) ?_
     rintro _ _ ⟨rfl,rfl⟩
     refine Df kr<|Z ?_
     refine A8 mixed<|C1 10<|Z ?_
     refine Dr 7 C (j0.gp8 (a:=1#64) C C om om)<|Dr 8 C (Fh (a:=(e_ (List.set rows ((e_ es k).u).toNat ((e_ rows<|(e_ es k).u) ||| ((1#64) <<< ((e_ es k).v).toNat)))<|(e_ es k).v)) (b:=(1#64) <<< ((e_ es k).u).toNat) C C)<|Z ?_
     refine De kr ?_
     refine Ae 10 C (Cr (α:=(BitVec 64)) (xs:=List.set rows ((e_ es k).u).toNat ((e_ rows<|(e_ es k).u) ||| ((1#64) <<< ((e_ es k).v).toNat))) (e:=175) (new:=(e_ (List.set rows ((e_ es k).u).toNat ((e_ rows<|(e_ es k).u) ||| ((1#64) <<< ((e_ es k).v).toNat)))<|(e_ es k).v) ||| ((1#64) <<< ((e_ es k).u).toNat)) J8 C C C om oo am) ?_
     rintro _ _ ⟨rfl,rfl⟩
     refine Df kr<|Z ?_
     have M:List.set (List.set rows ((e_ es k).u).toNat ((e_ rows<|(e_ es k).u) ||| ((1#64) <<< ((e_ es k).v).toNat))) ((e_ es k).v).toNat ((e_ (List.set rows ((e_ es k).u).toNat ((e_ rows<|(e_ es k).u) ||| ((1#64) <<< ((e_ es k).v).toNat)))<|(e_ es k).v) ||| ((1#64) <<< ((e_ es k).u).toNat))=X3 rows (e_ es k):=by unfold X3;rw [By om]
     rw [M]
     exact Bh ((k+1),(X3 rows<|e_ es k))<|by dsimp only;exact ⟨om,(by rw [ad0 om,←hr];first|done|exact M),(by first|exact E|(rw [Y1];exact E))⟩
    have M:rows=X3 rows (e_ es k):=(bj1 om).symm
    exact Bh ((k+1),(rows))<|by dsimp only;exact ⟨om,(by rw [ad0 om,←hr];first|done|exact M),(by first|exact E|(rw [Y1];exact E))⟩
   have M:rows=X3 rows (e_ es k):=(bj1 om).symm
   exact Bh ((k+1),(rows))<|by dsimp only;exact ⟨om,(by rw [ad0 om,←hr];first|done|exact M),(by first|exact E|(rw [Y1];exact E))⟩
  have M:rows=X3 rows (e_ es k):=(bj1 om).symm
  exact Bh ((k+1),(rows))<|by dsimp only;exact ⟨om,(by rw [ad0 om,←hr];first|done|exact M),(by first|exact E|(rw [Y1];exact E))⟩
 rw [Gb om] at hr
 subst hr
 have aa:(ek nd es).length=(List.replicate (min (max nd 0) 64).toNat (default:(BitVec 64))).length:=by omega
 exact Ak C C (vq 175 ad ab (ek nd es)::I) (by unfold vq;rw [aa];exact Ar) ⟨_,_,by rw [aa],rfl⟩
variable {κ:Ctx}{I:List Item}
theorem K3(hl:Sl κ I v es):er prog κ 30 [.agg #[e7 nd,v]] I (λr J=>r=e7 (p9 nd es)/\I=J):=by
 refine Bm hl.le λah=>?_
 refine Ce1 Tryz.func30 C C ?_
 refine Aj<|Ge1 (Ay (cs:=[_,_]) C C C) λb1=>Z ?_
 refine Au (d:=8) C (λg8=>Z ?_)<|λg8=>Z ?_
 ·exact Ak C C I Af ⟨by rw [show p9 nd es=1 from (by unfold p9;rw [By om])],rfl⟩
 refine Am C (λc12=>Z ?_)<|λc12=>Z ?_
 ·exact Ak C C I Af ⟨by rw [show p9 nd es=1 from (by unfold p9;rw [By om])],rfl⟩
 refine Dl (σ:=Nat) (λs=>[(16,e7 ((s:Nat):Int))]) (λ_=>[]) (λs=>(s<=es.length)/\(p9 nd es=R3 (cg7 nd) Pt.lt (Y6 es s) (es.drop s))) (λs=>es.length - s) 0 ⟨om,(by unfold p9;rw [An om];rfl)⟩ ?_
 rintro k hp
 obtain ⟨hk,hs⟩:=hp
 refine Z ?_
 refine Am C (λaa=>Z ?_)<|λaa=>Z ?_
 ·refine Ge1 (Ah H3 C) λb2=>Ga C (Ge0 (Ba H3)<|Z ?_)
  refine Au (d:=24) C (λab=>Z ?_)<|λab=>Z ?_
  ·exact Ak C C I Af ⟨by rw [show p9 nd es=6 from (hs.trans<|(Cy om<|by unfold cg7;rw [By om];decide).trans ta5)],rfl⟩
  refine Au (d:=31) C (λae=>Z ?_)<|λae=>Z ?_
  ·exact Ak C C I Af ⟨by rw [show p9 nd es=6 from (hs.trans<|(Cy om<|by unfold cg7;rw [By om];decide).trans ta5)],rfl⟩
  refine Am C (λE=>Z ?_)<|λE=>?_
  ·exact Ak C C I Af ⟨by rw [show p9 nd es=6 from (hs.trans<|(Cy om<|by unfold cg7;rw [By om];decide).trans ta5)],rfl⟩
  refine A4<|Al<|Ax<|A8 mixed<|C1 13<|Z ?_
  refine Cw (d:=40) C (λad=>Z ?_)<|λad=>?_
  ·refine Ds1 10 (Sc0 C (Ac c_ C C<|ar1 (e_ es<|(k:Int) - 1)<|e_ es k)<|Z ?_)
   refine Am C (λM=>Z ?_)<|λM=>Z ?_
   ·exact Ak C C I Af ⟨by rw [show p9 nd es=5 from (hs.trans<|ae9 om (W5.2 om) om<|by first|assumption|simpa using M)],rfl⟩
   exact Bh ((k+1)) ⟨om,(hs.trans<|Ep om (W5.2 om)<|λh0=>by first|omega|exact B_.1 asm|assumption)⟩
  refine Dpo 3 C<|Z ?_
  exact Bh ((k+1)) ⟨om,(hs.trans<|Ep om (W5.2 om)<|λh0=>by first|omega|exact B_.1 asm|assumption)⟩
 exact Ak C C I Af ⟨by rw [show p9 nd es=0 from (hs.trans<|ar9 om)],rfl⟩
theorem fd4(u v:Int):er prog κ 119 [e7 u,e7 v] I (λr J=>r = .agg #[e7 (F7 u v).u,e7 (F7 u v).v]/\I=J):=by
 refine Ce2 Tryz.func119 C C ?_
 refine Aj<|Ge1 (Ah H3 C) λb1=>Z ?_
 refine Ge0 (Ba H3) ?_
 exact Aq<|Bq<|Cv C H3 C mm C I Af ⟨rfl,rfl⟩
end Go.Sl
namespace Go.Sl
open Go.Proofs
set_option maxRecDepth 4000
variable{ad:Option Addr}{c n:Nat}
section
variable {P:Program}{κ:Ctx}{N:Frm}{L:Env}{I J:List Item}{d:Option Tmp}{ty:TypeId}{ps:String}{af:Array Edge}{gd:Option (Nat×Bool)}
theorem vc.isSome{α:Type}[Enc α]{xs:List α}{e:TypeId}(h:vc e (.slice ad n c) xs∈I):∀w,Sep κ w I->(0<xs.length->ad≠none):=λw hs hlt=>by
 obtain ⟨b,o,cap,E,_⟩:=((Ed (κ:=κ) h) w hs).some hlt
 cases E
 exact λM=>by cases M
theorem j0.idxs(α:Type)[Enc α]{x y:Operand}{T E by':Nat}{ag:Bool}{z:List Value}{i:Int}(ht:P.underlying T=some (.slice E))(hE:tyF P E=some (Enc.sz α,ag,by',z))(hx:ep L x=some (.slice ad n c))
  (hy:ep L y=some (e7 i)) (M:ad≠none) (h0:0<=i) (hn:i<n):j0 P κ N ⟨d,.indexAddr T x y,ty,ps,af,gd⟩ L J (s6 (.slice ad n c)<|i.toNat*Enc.sz α):=by
 cases ad with
 |none=>exact absurd rfl M
 |some ad=>exact λa w M hs=>by simp [execOp,M.eval hx,M.eval hy,Instr.indexAt,asIntOf,run_underlying ht,h0,hn,run_sizeOf hE,s6]
end
end Go.Sl
namespace Go.Sl
open Go.Proofs
set_option maxRecDepth 4000
variable{nd:Int}{xs:List Lk}{va:Value}
variable {κ:Ctx}{I:List Item}
attribute [local irreducible] W G V D A j0 Eff
theorem bk8{e:Ev}{a0:Option Addr}{c0:Nat}(hv:j8 nd xs=0)(hf:H6 nd e)(ah:xs.length<=100000):er prog κ 141 [.agg #[e7 nd,.slice a0 xs.length c0],.agg (ye e).toArray] (vq 146 a0 c0 xs::I) (λr J=>∃a c w,r = .tuple #[.agg #[e7 nd,.slice a (eo xs e).length c],w,e7 0]/\J=vq 146 a c (eo xs e)::I):=by
 refine Ce2 Tryz.func141 C C ?_
 refine Aj<|Ge1 (Ay (cs:=[_,_]) C C C) λb1=>Ge1 (Ay (cs:=[_,_,_,_,_,_,_]) C C C) λb2=>Ge1 (Ah s5 C) λb3=>Z ?_
 refine G.e (Ac c_ C C<|ck7 (nd:=nd) A6) ?_
 rintro _ _ ⟨_,_,⟨rfl,rfl⟩,rfl,rfl⟩
 refine Z ?_
 refine Am C (λc13=>Z ?_)<|λc13=>?_
 ·refine Gc0 (Ac c_ C C<|db8 nd e) (Z ?_)
  refine Am C (λaa=>?_)<|λaa=>Z ?_
  ·exact absurd (X2.2 hf) aa
  refine G.e (Ac c_ C C<|da7 ta0 C (K9 hv).2.2 om) ?_
  rintro _ _ ⟨_,_,⟨⟨ae,ad,ab⟩,rfl,rfl⟩,rfl,rfl⟩
  refine Z ?_
  refine Ge1 (Ah s5 C) λb7=>Ge0 (Ba s5)<|Z ?_
  refine G.e (Ac c_ C C<|bt1 (xs:=eo xs e) A6<|by have h:=y6 xs e;omega) ?_
  rintro _ _ ⟨_,_,⟨M,E,rfl,rfl⟩,rfl,rfl⟩
  refine Gf H0 C<|Ge0 (D5 R7)<|Z ?_
  refine Ge0 (Ba s5)<|Z ?_
  exact V.dp8 C s5 C C C mm C (vq 146 M E (eo xs e)::I) Bi ⟨M,E,ab,rfl,rfl⟩
 exact absurd hv c13
theorem ag5{k:Nat}(h:k<xs.length):F4 (xs.take (k+1))=F4 (xs.take k)++[(⟨(e_ xs k).u,(e_ xs k).v⟩:Pt)]:=by
 unfold F4;rw [Cn xs k h,Jb];rfl
theorem fc7(hl:Sl κ I va xs)(ae:xs.length<=100000):er prog κ 231 [.agg #[e7 nd,va]] I (λr J=>∃a c,r = .agg #[e7 nd,.slice a (F4 xs).length c]/\J=vq 135 a c (F4 xs)::I):=by
 refine Bm hl.le λaa=>?_
 refine Ce1 Tryz.func231 C C ?_
 refine Aj<|Ge1 (Ay (cs:=[_,_]) C C C) λb1=>Ge1 (Ah H2 C) λb2=>Z ?_
 refine Ge1 (Ah H2 C) λb3=>Ge0 (Ba H2)<|Z ?_
 refine Dl (σ:=Nat×(Option Addr)×Nat×(List Pt)) (λs=>[(12,e7 ((s.1:Nat):Int))]) (λs=>[vq 135 s.2.1 s.2.2.1 s.2.2.2,e8 b3 [e7 nd,.slice s.2.1 s.2.2.2.length s.2.2.1] 48]) (λs=>(s.1<=xs.length)/\(s.2.2.2=F4 (xs.take s.1))) (λs=>xs.length - s.1) (0,none,0,[]) ⟨om,rfl⟩ (hI:=(Bb _ _)) ?_
 rintro ⟨k,a,c,out⟩ hp
 dsimp only at hp ⊢
 obtain ⟨hk,ho⟩:=hp
 have ab:out.length=k:=by rw [ho,aw9,Fx];omega
 refine Z ?_
 refine Am C (λc13=>Z ?_)<|λc13=>Z ?_
 ·refine Ge1 (Ah p7 C) λb4=>Ge0 (Dp p7) (Z ?_)
  refine Ge1 (Bt (α:=Pt) (cs:=[_,_]) (xs:=[⟨(e_ xs k).u,(e_ xs k).v⟩]) B2 H3 C C dc dc C C C C) λad=>?_
  refine Ge2 (Bv (α:=Pt) (e:=135) (xs:=out) (ys:=([⟨(e_ xs k).u,(e_ xs k).v⟩]:List Pt)) B2 H3 C C C mm A6 lcn dc C<|λ_ _=>am) λM E=>?_
  refine Gf Z3 C<|Ge0 (D5 bm1)<|Z ?_
  exact Bh ((k+1),(M),(E),(out++([⟨(e_ xs k).u,(e_ xs k).v⟩]:List Pt)))<|by dsimp only;exact ⟨om,(by rw [ag5 om,←ho])⟩
 refine Ge0 (Ba H2)<|Z ?_
 have hE:out=F4 xs:=by rw [ho,Gb om]
 exact Cv C H2 C mm C (vq 135 a c (F4 xs)::I) (by unfold vq;rw [←hE];exact Bi) ⟨a,c,by rw [←hE]<;>rfl,rfl⟩
theorem fc6(hl:Sl κ I va xs)(hv:j8 nd xs=0)(aa:xs.length<=100000):er prog κ 167 [.agg #[e7 nd,va]] I (λr J=>∃a c,r = .tuple #[.agg #[e7 nd,.slice a (F4 xs).length c],e7 0]/\J=vq 135 a c (F4 xs)::I):=by
 refine Ce1 Tryz.func167 C C ?_
 refine Aj<|Ge1 (Ay (cs:=[_,_]) C C C) λb1=>Ge1 (Ah H2 C) λb2=>Z ?_
 refine G.e (Ac c_ C C<|ck7 (nd:=nd)<|Bc hl) ?_
 rintro _ _ ⟨_,_,⟨rfl,rfl⟩,rfl,rfl⟩
 refine Z ?_
 refine Am C (λc8=>?_)<|λc8=>Z ?_
 ·exact absurd hv c8
 refine G.e (Ac c_ C C<|fc7 (nd:=nd) (Bc hl) om) ?_
 rintro _ _ ⟨_,_,⟨E,M,rfl,rfl⟩,rfl,rfl⟩
 refine Ge0 (Ba H2) ?_
 exact Ga C<|Aq<|Bq<|C7 C H2 C C mm C (vq 135 E M (F4 xs)::I) Bi ⟨E,M,rfl,rfl⟩
theorem fq9(x y:Ev):er prog κ 230 [.agg (ye x).toArray,.agg (ye y).toArray] I (λr J=>r=e7 (evC x y)/\I=J):=by
 refine Ce2 Tryz.func230 C C ?_
 refine Aj<|Ge1 (Ay (cs:=[_,_,_,_,_,_,_]) C C C) λb1=>Ge1 (Ay (cs:=[_,_,_,_,_,_,_]) C C C) λM=>Z ?_
 refine Gc0 (Ac c_ C C<|V0 x.tm y.tm) ?_
 exact Ga C<|Aq<|Bq<|Ak C C I Af ⟨by first|rfl|(unfold evC;repeat (first|rfl|omega|split))|(unfold evC;congr 1;repeat (first|rfl|omega|split)),rfl⟩
end Go.Sl
