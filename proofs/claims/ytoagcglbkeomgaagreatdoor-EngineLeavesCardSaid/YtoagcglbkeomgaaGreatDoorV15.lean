/- A part of the proofs of statements of this seat: contracts of functions, and the plain laws that they lean on. No conditions. -/
import Derived.Test.YtoagcglbkeomgaaGreatDoorV14
set_option linter.unusedVariables false
set_option linter.unusedSimpArgs false
set_option linter.unusedSectionVars false
open List (replicate)
set_option maxHeartbeats 2000000
namespace Go.Sl
open Go.Proofs
set_option maxRecDepth 4000
variable{lv n u x:Int}{k:Nat}{W:BitVec 64}{l m:List Int}{κ:Ctx}{A I:List Item}
section
variable {nd:Int}{es:List Pt}
theorem bs9(hG:s6 nd es)(h0:0<=u)(h1:u<nd):∃p∈bg6 nd es,p.1=u/\e_ (j9 nd es) u=(p.2:Int):=by
 have hl:=hG.rows.len
 have hS:=ak9 hG
 have M:=bn5 (rows:=ek nd es) (at4 ((ek nd es).length:Int)) 0
 have hm:u∈am9 (bg6 nd es):=(M.2 u).2 ((af9 hS.le).2 om)
 obtain ⟨p,hp,rfl⟩:=Gv.1 hm
 refine ⟨p,hp,rfl,?_⟩
 unfold j9
 rw [An (by rw [s4.2 hG];decide)]
 exact fn8 M.1 (λv hv=>by have:=(af9 hS.le).1 ((M.2 v).1 hv);omega) p hp
theorem bz5(M:s6 nd es)(hc:au5 (ek nd es) k W)(hs:dt0 nd W)(hu:u∈eo W):(k:Int)<=e_ (j9 nd es) u:=by
 have hl:=M.rows.len
 have hr:=M.rng
 have hS:=ak9 M
 obtain ⟨p,hp,e,h⟩:=bs9 M (En hu).1 (hs u hu)
 have:=cv2 hc (at4 ((ek nd es).length:Int)) 0 (λx hx=>(af9 hS.le).2 ⟨(En hx).1,by have:=hs x hx;omega⟩) p hp (by rw [e];exact hu)
 omega
theorem bz4(M:s6 nd es)(hk:1<=k):∃W,au5 (ek nd es) k W/\dt0 nd W/\∀u,0<=u->u<nd->(k:Int)<=e_ (j9 nd es) u->u∈eo W:=by
 have hl:=M.rows.len
 have hr:=M.rng
 have hS:=ak9 M
 obtain ⟨W,h1,h2,h3⟩:=cv1 (rows:=ek nd es) (at4 ((ek nd es).length:Int)) 0 k om
 refine ⟨W,h1,λx hx=>by have:=(af9 hS.le).1 (h2 x hx);omega,λu h0 h4 h5=>?_⟩
 obtain ⟨p,hp,e,h⟩:=bs9 M h0 h4
 have:=(h3 p hp).1 om
 rwa [e] at this
theorem T6(M:s6 nd es)(h0:0<=u)(h1:u<nd):0<=e_ (j9 nd es) u/\e_ (j9 nd es) u<nd:=by
 have hl:=M.rows.len
 have hr:=M.rng
 have hS:=ak9 M
 obtain ⟨p,hp,e,h⟩:=bs9 M h0 h1
 have:=bg8 (fa5 hS om) _ _ _ (Mq _) p hp
 omega
theorem as8(M:s6 nd es)(hW:∀x,x∈eo W↔x∈l)(h0:0<=u)(h1:u<nd):Q3 (ek nd es) W u=(Z9 (nbG nd es u) l).length:=by
 unfold Q3
 have hr:=M.rng
 refine ((Hp (Df _) ?_).2 λx=>?_).length_eq
 ·unfold Z9
  exact ((R9 _).imp λh=>by omega:(ofL<|nbG nd es u).Nodup).filter _
 rw [K1,T1,hW,M.rows.mem h0 h1]
 unfold nbG
 rw [An (by rw [s4.2 M];decide),af8,ao1]
 refine and_congr_left λ_=>⟨λh=>h.2,λh=>⟨?_,h⟩⟩
 rcases h with h|h
 ·have:=M.Z1 _ h;simp only at this;omega
 have:=M.Z1 _ h;simp only at this;omega
theorem aj0(hn:n<=64)(h:∀x∈l,0<=x/\x<n)(x:Int):x∈eo (be1 l)↔x∈l:=by
 rw [D3]
 constructor
 ·rintro ⟨h0,M⟩
  have hlt:=BitVec.lt_of_getLsbD M
  rw [ca4 hlt,Gz h0] at M
  exact M
 intro hx
 have:=h x hx
 refine ⟨this.1,(ca4 om).2 ?_⟩
 rw [Gz this.1];exact hx
theorem dm3(hG:s6 nd es)(ad:l.Pairwise (λx0 x1:Int=>x0<x1))(M:∀x∈l,0<=x/\x<nd)(aj:∀x∈l,lv<=((Z9 (nbG nd es x) l).length:Int))(ai:∀W:BitVec 64,au5 (ek nd es) lv.toNat W->dt0 nd W->∀u∈eo W,u∈l):l=U9 nd es lv:=by
 have hr:=hG.rng
 have hl:=hG.rows.len
 have ak:((j9 nd es).length:Int)=nd:=by
  unfold j9
  rw [An (by rw [s4.2 hG];decide),at0];omega
 have hW:=aj0 hr.2 M
 have aa:(U9 nd es lv).Pairwise (λx0 x1:Int=>x0<x1):=by
  unfold U9
  exact (ae8.1<|bc9 _ _).2
 refine as2.uniq ad aa λx=>?_
 rw [ai9]
 constructor
 ·intro hx
  have ab:=M x hx
  have hc:au5 (ek nd es) lv.toNat (be1 l):=λu hu=>by
   have ae:=(hW u).1 hu
   have ah:=M u ae
   rw [as8 hG hW ah.1 ah.2]
   have:=aj u ae
   omega
  have:=bz5 hG hc (λu hu=>(M u<|(hW u).1 hu).2) ((hW x).2 hx)
  exact ⟨by omega,by omega⟩
 rintro ⟨ab,hx⟩
 by_cases h0:lv<=0
 ·refine ai (at4 nd) (λu hu=>by omega) (fq5 hr.1 hr.2) x (K0.2 ⟨ab.1,?_⟩)
  rw [ag1 hr.1 hr.2 om,Gn];omega
 obtain ⟨W,h1,h2,h3⟩:=bz4 hG (k:=lv.toNat) om
 exact ai W h1 h2 x<|h3 x ab.1 om om
theorem dm5(hG:s6 nd es)(M:∀y∈m,0<=y/\y<nd)(ab:∀W:BitVec 64,au5 (ek nd es) lv.toNat W->dt0 nd W->∀u∈eo W,u∈m)(hx:x∈m)(hlt:((Z9 (nbG nd es x) m).length:Int)<lv):∀W:BitVec 64,au5 (ek nd es) lv.toNat W->dt0 nd W->∀u∈eo W,u∈V9 m [x]:=λW h1 h2 u hu=>by
 have hr:=hG.rng
 have ad:=ab W h1 h2 u hu
 rw [show u∈V9 m [x]↔u∈m/\u∉[x] by simp [V9,af8]]
 refine ⟨ad,λe=>?_⟩
 rw [Gc] at e
 subst e
 have aa:=M u hx
 have h3:=h1 u hu
 have h4:=bg3 (rows:=ek nd es) (W:=W) (L:=be1 m) (λy hy=>(aj0 hr.2 M y).2 (ab W h1 h2 y hy)) u
 rw [as8 hG (aj0 hr.2 M) aa.1 aa.2] at h4
 omega
end
theorem Fit.vcR{R:List Item}{x:Item}:Fit κ (A++((x::R)++I)) (x::(A++I)):=
 A9 (Cj Mb) (C4<|List.Sublist.cons_cons _<|List.Sublist.append_left (Gk R I) A)
theorem Fit.gj5{x:Item}:Fit κ (x::(A++I)) (A++([x]++I)):=Cj Mb.symm
theorem ao2:u∈V9 m [x]↔u∈m/\u≠x:=by simp [V9,af8]
theorem ca5(h:l.Pairwise (λx0 x1:Int=>x0<x1))(hr:∀x∈l,0<=x/\x<64):l.length<=64:=by
 have hs:∀x∈l,x∈(List.range 64).map fun (i:Nat)=>(i:Int):=λx M=>by
  have:=hr x M
  exact Gv.2 ⟨x.toNat,Hz.2 om,by omega⟩
 have:=Hk (h.imp λh=>by omega:l.Nodup) hs
 rwa [F_,Jy] at this
theorem dn9(h:l.Pairwise (λx0 x1:Int=>x0<x1)){i j:Nat}(hi:i<l.length)(M:j<l.length)(e:e_ l i=e_ l j):i=j:=by
 rw [Ct _ i hi,Ct _ j M] at e
 rcases Kn i j with h1|h1|h1
 ·have:=(H1.1 h) i j hi M h1;omega
 ·exact h1
 have:=(H1.1 h) j i M hi h1;omega
theorem dg3(h:m.Pairwise (λx0 x1:Int=>x0<x1))(M:x∈m):(V9 m [x]).length+1=m.length:=by
 have hn:(V9 m [x]).Nodup:=((R9 m).imp λh=>by omega:(ofL m).Nodup).filter _
 have hp:m.Perm (x::V9 m [x]):=(Hp (h.imp λh=>by omega)<|Hx.2 ⟨λe=>(ao2.1 e).2 rfl,hn⟩).2 λu=>by
  rw [Fw,ao2]
  by_cases e:u=x
  ·subst e;simp [M]
  simp [e]
 have:=hp.length_eq
 rw [E_] at this;omega
theorem bd3(hr:0<=n/\n<=64):ak1 (R7 n) n:=by
 refine ae8.2 ⟨λx M=>by have:=bm6.1 M;omega,?_⟩
 unfold R7
 refine Mu _ (λa b h=>?_)<|List.pairwise_lt_range (n:=(min n 64).toNat)
 omega
theorem dr9{nd:Int}{va:Value}{es:List Pt}(hl:Sl κ I va es)(hG:s6 nd es)(hb:es.length<=1000000):eu Tryz.prog κ 52 [.agg #[e7 nd,va],e7 lv] I (λr J=>∃a c,r = .slice a (U9 nd es lv).length c/\J=vk 3 a c (U9 nd es lv)::I):=by
 have hr:=hG.rng
 refine Ce2 Tryz.func52 C C ?_
 refine Ak<|Ge1 (Au (cs:=[_,_]) C C C) λb1=>Ga C<|Ar<|Ak<|Gf ag2 C<|Gl ef ?_
 refine Gc2 (Ac c_ C C<|fe7 nd) λav ao=>?_
 refine Ga C<|Ar<|Ax<|Ak<|Ga C<|Ar<|A7<|B9 (σ:=(Option Addr)×Nat×(List Int)×Bool) (λs=>([(1,e7 lv),(2,pt b1),(5,.slice s.1 s.2.2.1.length s.2.1),(6,.bool<|s.2.2.2)]:Env)) (λs=>vk 3 s.1 s.2.1 s.2.2.1::e8 b1 [e7 nd,va] 38::I) (λs=>(s.2.2.1.Pairwise (λx0 x1:Int=>x0<x1))/\(∀x∈s.2.2.1,0<=x/\x<nd)/\(∀W:BitVec 64,au5 (ek nd es) lv.toNat W->dt0 nd W->∀u∈eo W,u∈s.2.2.1)/\(s.2.2.2=false->∀x∈s.2.2.1,lv<=((Z9 (nbG nd es x) s.2.2.1).length:Int))) (λs=>(2*s.2.2.1.length+s.2.2.2.toNat)) (av,ao,R7 nd,true) (show ((R7 nd:List Int).Pairwise (λx0 x1:Int=>x0<x1))/\(∀x∈(R7 nd:List Int),0<=x/\x<nd)/\(∀W:BitVec 64,au5 (ek nd es) lv.toNat W->dt0 nd W->∀u∈eo W,u∈(R7 nd:List Int))/\((true:Bool)=false->∀x∈(R7 nd:List Int),lv<=((Z9 (nbG nd es x) (R7 nd:List Int)).length:Int)) from ⟨(ae8.1<|bd3 hr).2,(ae8.1<|bd3 hr).1,(λW h1 h2 u hu=>bm6.2<|by have:=h2 u hu;have:=En hu;omega),(λh=>by cases h)⟩) (cx2<|Aa (Db C<|by first|rfl|simp)<|Aa (Db C<|by first|rfl|simp) Bb) (show Fit κ _ (vk 3 av ao (R7 nd)::e8 b1 [e7 nd,va] 38::I) from Az) ?_
 rintro ⟨a,c,l,ag⟩ hp
 dsimp only at hp ⊢
 obtain ⟨aa,ad,az,a6⟩:=hp
 have a9:l.length<=64:=ca5 aa (λx hx=>by have:=ad x hx;omega)
 refine Ax<|Ak<|Gm C<|Ar<|Dp C (λc12=>?_)<|λc12=>?_
 ·refine Bc (Ao<|A7<|Ak<|Ga C<|Ar<|Ak<|Gm C<|Gr (Bk Ab C)<|Gm C<|Ar<|A7<|B9 (σ:=Nat×(Option Addr)×Nat×(List Int)×Bool×(List Item)) (λs=>([(1,e7 lv),(2,pt b1),(5,.slice s.2.1 s.2.2.2.1.length s.2.2.1),(6,.bool<|s.2.2.2.2.1),(13,.slice a l.length c),(14,e7 ((l.length:Nat):Int)),(15,e7 ((s.1:Nat):Int))]:Env)) (λs=>e8 b1 [e7 nd,va] 38::(s.2.2.2.2.2++I)) (λs=>(s.1<=l.length)/\(Sl κ s.2.2.2.2.2 (.slice a l.length c) l)/\(∃R,s.2.2.2.2.2=vk 3 s.2.1 s.2.2.1 s.2.2.2.1::R)/\(s.2.2.2.1.Pairwise (λx0 x1:Int=>x0<x1))/\(∀x∈s.2.2.2.1,x∈l)/\(∀W:BitVec 64,au5 (ek nd es) lv.toNat W->dt0 nd W->∀u∈eo W,u∈s.2.2.2.1)/\(s.2.2.2.2.1=false->s.2.2.2.1=l/\∀i:Nat,i<s.1->lv<=((Z9 (nbG nd es<|e_ l i) l).length:Int))/\(∀i:Nat,s.1<=i->i<l.length->e_ l i∈s.2.2.2.1)/\(s.2.2.2.1.length+s.2.2.2.2.1.toNat<=l.length/\(s.2.2.2.2.1=true->s.2.2.2.1.length<l.length))) (λs=>(l.length - s.1)) (0,a,c,l,false,[vk 3 a c l]) (show ((0:Nat)<=l.length)/\(Sl κ ([vk 3 a c l]:List Item) (.slice a l.length c) l)/\(∃R,([vk 3 a c l]:List Item)=vk 3 (a:Option Addr) (c:Nat) (l:List Int)::R)/\((l:List Int).Pairwise (λx0 x1:Int=>x0<x1))/\(∀x∈(l:List Int),x∈l)/\(∀W:BitVec 64,au5 (ek nd es) lv.toNat W->dt0 nd W->∀u∈eo W,u∈(l:List Int))/\((false:Bool)=false->(l:List Int)=l/\∀i:Nat,i<(0:Nat)->lv<=((Z9 (nbG nd es<|e_ l i) l).length:Int))/\(∀i:Nat,(0:Nat)<=i->i<l.length->e_ l i∈(l:List Int))/\((l:List Int).length+(false:Bool).toNat<=l.length/\((false:Bool)=true->(l:List Int).length<l.length)) from ⟨om,(Cz A_),⟨[],rfl⟩,aa,(λx hx=>hx),az,(λ_=>⟨rfl,λi hi=>by omega⟩),(λi _ hi=>Bp om om),⟨by simp,λh=>by cases h⟩⟩) (cx2<|Aa (Db C<|by first|rfl|simp)<|Aa (Db C<|by first|rfl|simp)<|cx2<|Aa Co Bb) (show Fit κ _ (e8 b1 [e7 nd,va] 38::(([vk 3 a c l])++I)) from (Fit.gj5 (A:=[e8 b1 [e7 nd,va] 38]))) ?_)
  rintro ⟨j,a2,c2,m,ai,Y2⟩ hp
  dsimp only at hp ⊢
  obtain ⟨hj,ak,aq,M,ab,ae,ay,an,a0⟩:=hp
  have ba:m.length<=64:=ca5 M (λx hx=>by have:=ad x (ab x hx);omega)
  have aw:Sl κ Y2 (.slice a2 m.length c2) m:=by obtain ⟨R,rfl⟩:=aq;exact Cz A_
  refine Ak<|Gr (Bl C C)<|Ar<|Ax<|Am C (λa4=>?_)<|λa4=>?_
  ·refine Bc (Ao<|Ax<|A7<|Ak<|Gr (A2 (α:=Int) (xs:=l) Ab ef C C (Bg ak<|C4<|Kd (Ho _ I)<|Gk ([e8 b1 [e7 nd,va] 38]:List Item)<|Y2++I) om om)<|Gr (B6 (xs:=l) ef C (Bg ak<|C4<|Kd (Ho _ I)<|Gk ([e8 b1 [e7 nd,va] 38]:List Item)<|Y2++I) om om)<|Ga C ?_)
   have au:=an j (Gd _) om
   refine Ar<|Ak<|Gl2 J8 ?_
   refine Gm C<|G.e (Ac c_ C C<|ae9 (nd:=nd) (A4 hl) (e_ l j) om) ?_
   rintro _ _ ⟨_,_,⟨ap,ar,rfl,rfl⟩,rfl,rfl⟩
   have a3:=J9 nd es (e_ l j)
   refine Gm C<|G.e (Ac c_ C C<|dq7 A5 (Bg aw<|C4<|Kd (Ho _ I)<|Gk ([vk 3 ap ar (nbG nd es<|e_ l j),e8 b1 [e7 nd,va] 38]:List Item)<|Y2++I)<|by first|omega|(have:=J9 nd es (e_ l j);omega)) ?_
   rintro _ _ ⟨_,_,⟨a7,a1,rfl,rfl⟩,rfl,rfl⟩
   refine Gr (Bk Ab C)<|Gm C<|Gr (Bl C C)<|Ar<|A1 (S9 26 8 1 2 5 6 13 14 15)<|Am C (λaj=>?_)<|λaj=>?_
   ·refine A6 (Gm C<|Gm C<|Ge1 (B2 (α:=Int) (cs:=[_]) (xs:=[e_ l j]) Ab ef C C dc dc C C C C) λa5=>?_)
    refine G.e (Ac c_ C C<|cq4 (Bg aw<|C4<|Kd (Ho _ I)<|Gk ([vc 3 (.slice a5 1 1) (([e_ l j]:List Int)),vc 3 (.slice a7 (Z9 (nbG nd es<|e_ l j) m).length a1)<|Z9 (nbG nd es<|e_ l j) m,vc 3 (.slice ap (nbG nd es<|e_ l j).length ar)<|nbG nd es<|e_ l j,e8 b1 [e7 nd,va] 38]:List Item)<|Y2++I) A5<|by first|omega|(have:=J9 nd es (e_ l j);omega)) ?_
    rintro _ _ ⟨_,_,⟨ax,ah,rfl,rfl⟩,rfl,rfl⟩
    exact Ga C<|Ga C<|Bq<|Av<|Ao<|A1 (S7 6 5 1 2 13 14 15)<|A6<|Gr (Rad C C)<|Gm C<|Bq<|Bt ((j+1),(ax),(ah),(V9 m ([e_ l j]:List Int)),(true),((vk 3 ax ah (V9 m ([e_ l j]:List Int))::Y2))) (by dsimp only;exact ⟨om,(Bg ak<|Fa<|Dd _),⟨Y2,rfl⟩,((R9 m).sublist He),(λx hx=>ab x (ao2.1 hx).1),(dm5 hG (λy hy=>ad y<|ab y hy) ae au aj),(λh=>by cases h),(λi h1 h2=>ao2.2 ⟨an i om h2,λe=>by have:=dn9 aa h2 (show j<l.length by omega) e;omega⟩),(by have:=dg3 M au;exact ⟨by simp;omega,λ_=>by omega⟩)⟩) (hI:=by (try dsimp only);exact (by first|exact Az|exact Ai))
   exact Bc<|Av<|Ao<|A6<|Gr (Rad C C)<|Gm C<|Bq<|Bt ((j+1),(a2),(c2),(m),(ai),(Y2)) (by dsimp only;exact ⟨om,om,om,om,om,om,(λh=>by obtain ⟨e,h2⟩:=ay h;refine ⟨e,λi hi=>?_⟩;by_cases e2:i=j;(· subst e2;rw [e] at aj;omega);(· exact h2 i om)),(λi h1 h2=>an i om h2),om⟩) (hI:=by (try dsimp only);exact (by first|exact Az|exact Ai))
  refine Ci<|Aw<|Aw<|Bi<|Av ?_
  obtain ⟨R,rfl⟩:=aq
  exact Bt ((a2),(c2),(m),(ai)) (by dsimp only;exact ⟨M,(λx hx=>ad x<|ab x hx),ae,(λh=>by obtain ⟨e,h2⟩:=ay h;subst e;intro x hx;obtain ⟨i,hi,rfl⟩:=an6 hx;exact h2 i om)⟩) (hlt:=by (try dsimp only);exact (by have a8:ag=true:=(by simpa using c12);subst a8;cases ai<;>simp at a0 ⊢ <;>omega)) (hI:=by (try dsimp only);exact (Fit.vcR (A:=[e8 b1 [e7 nd,va] 38])))
 refine Ci<|Aw<|Aw<|Bi<|Ao<|Ak<|Gm C<|Ga C<|Ar<|B3 ?_
 have hE:l=U9 nd es lv:=dm3 hG aa ad (a6<|by simpa using c12) az
 subst hE
 exact Al C C (vk 3 a c (U9 nd es lv)::I) Az ⟨a,c,rfl,rfl⟩
end Go.Sl
namespace Go.Sl
variable{w x y:Nat}
section
variable {n:Nat}{e e':Nat->Nat->Bool}{u v:Nat}
structure L3 (n:Nat) (e e':Nat->Nat->Bool) (u v:Nat):Prop where
 adj:ft6 n e
 lu:u<n
 lv:v<n
 ne:u≠v
 no:e u v=false
 is:∀x y,e' x y=(e x y||(decide (x=u/\y=v)||decide (x=v/\y=u)))
theorem dv7(k:Int):prs (k+1)=prs k+k:=by
 unfold prs
 have M:(k+1)*(k+1 - 1)=k*k+k:=by rw [Int.add_sub_cancel,Int.add_mul,Int.one_mul]
 have h2:k*(k - 1)=k*k - k:=by rw [Int.mul_sub,Mh]
 rw [M,h2];omega
theorem L3.oth(h:L3 n e e' u v)(hu:x≠u\/y≠v)(hv:x≠v\/y≠u):e' x y=e x y:=by
 rw [h.is,D_<|by omega,D_<|by omega,Bool.or_false,Bool.or_false]
theorem L3.uv(h:L3 n e e' u v):e' u v=true/\e' v u=true:=by
 constructor
 ·rw [h.is,As (show u=u/\v=v from ⟨rfl,rfl⟩)];simp
 rw [h.is,As (show v=v/\u=u from ⟨rfl,rfl⟩)];simp
theorem L3.no'(h:L3 n e e' u v):e v u=false:=by rw [h.adj.sym];exact h.no
theorem L3.swap(h:L3 n e e' u v):L3 n e e' v u:=⟨h.adj,h.lv,h.lu,h.ne.symm,h.no',λx y=>by rw [h.is,Bool.or_comm (decide _)]⟩
theorem L3.fq9(h:L3 n e e' u v):ft6 n e':=by
 refine ⟨λx y=>?_,λx=>?_⟩
 ·rw [h.is,h.is,h.adj.sym x y,Bool.or_comm<|decide<|x=u/\y=v]
  congr 2
  ·rw [Fs];omega
  rw [Fs];omega
 rw [h.is,h.adj.irr,D_<|by have:=h.ne;omega,D_<|by have:=h.ne;omega];rfl
theorem aw9(h:ft6 n e)(x y:Nat):coN n e x y=coN n e y x:=by
 unfold coN
 by_cases hq:x=y
 ·rw [B_ hq,B_ hq.symm]
 rw [An hq,An<|Me hq]
 exact p4 n λz _=>by rw [Lj]
theorem L3.gh9(h:L3 n e e' u v)(M:y≠u)(h2:y≠v):coN n e' u y=coN n e u y+ind (e v y):=by
 unfold coN
 rw [An (Me M),An (Me M),aq4 h.lv (g:=λx=>ind (e u x&&e y x)) (h:=λx=>ind (e' u x&&e' y x)) λj _ hj=>by
  rw [h.oth (x:=u) (y:=j) (.inr hj) (.inl h.ne),h.oth (x:=y) (y:=j) (.inl M) (.inl h2)]]
 rw [h.uv.1,h.oth (x:=y) (y:=v) (.inl M)<|.inl h2,h.no,h.adj.sym y v,Kl,Jt,as3]
 omega
theorem L3.gh8(h:L3 n e e' u v):coN n e' u v=coN n e u v:=by
 unfold coN
 rw [An h.ne,An h.ne]
 refine p4 n λz _=>?_
 by_cases hz:z=v
 ·subst hz;rw [h.fq9.irr,h.adj.irr];simp
 by_cases hz2:z=u
 ·subst hz2;rw [h.fq9.irr,h.adj.irr];simp
 rw [h.oth (x:=u) (y:=z) (.inr hz) (.inr hz2),h.oth (x:=v) (y:=z) (.inr hz)<|.inr hz2]
theorem L3.ga6(h:L3 n e e' u v)(x1:x≠u)(x2:x≠v)(M:y≠u)(y2:y≠v):coN n e' x y=coN n e x y:=by
 unfold coN
 by_cases hq:x=y
 ·rw [B_ hq,B_ hq]
 rw [An hq,An hq]
 exact p4 n λz _=>by rw [h.oth (x:=x) (y:=z) (.inl x1) (.inl x2),h.oth (x:=y) (y:=z) (.inl M)<|.inl y2]
theorem bq5(k:Int)(p:Bool):prs (k+ind p)=prs k+if p=true then k else 0:=by
 cases p with
 |true=>rw [cu1,dv7,B_ rfl]
 |false=>rw [as3,Jz,An<|by decide,Jz]
def ovr(e:Nat->Nat->Bool)(u v a b:Nat):Bool:=e u a&&e v b&&e a b
theorem di7(p:Bool)(q:Nat->Bool):p9 n (λz=>ind (p&&q z))=if p=true then p9 n (λz=>ind (q z)) else 0:=by
 cases p with
 |true=>rw [B_ rfl];exact p4 n λz _=>by rw [Kl]
 |false=>rw [An (by decide)];exact R2 n λz _=>by rw [Jt];rfl
theorem L3.fj0(h:L3 n e e' u v):ah4 n e' u=ah4 n e u+p9 n λa=>p9 n λb=>ind (ovr e u v a b):=by
 have h1:p9 n (λa=>p9 n λb=>ind<|ovr e u v a b)=p9 n λy=>if e v y=true then coN n e u y else 0:=by
  rw [G6 n n λa b=>ind<|ovr e u v a b]
  refine p4 n λb _=>?_
  have:(λa=>ind<|ovr e u v a b)=λa=>ind (e v b&&(e u a&&e b a)):=funext λa=>by
   unfold ovr;rw [h.adj.sym a b];congr 1
   cases e u a<;>cases e v b<;>cases e b a<;>rfl
  rw [this,di7 (e v b) λa=>e u a&&e b a]
  by_cases hb:e v b=true
  ·have M:u≠b:=λq=>by rw [←q,h.no'] at hb;cases hb
   rw [B_ hb,B_ hb];unfold coN;rw [An M]
  rw [An hb,An hb]
 rw [h1]
 unfold ah4
 rw [←F9]
 refine p4 n λy _=>?_
 by_cases hu:y=u
 ·subst hu
  rw [An (by rw [h.no'];decide)]
  unfold coN;rw [B_ rfl,B_ rfl];omega
 by_cases hv:y=v
 ·subst hv;rw [h.gh8,h.adj.irr,An<|by decide,Jz]
 rw [h.gh9 hu hv,bq5]
theorem L3.fx3(h:L3 n e e' u v):ah4 n e' v=ah4 n e v+p9 n λa=>p9 n λb=>ind (ovr e u v a b):=by
 rw [h.swap.fj0,G6 n n λa b=>ind<|ovr e v u a b]
 congr 1
 refine p4 n λa _=>p4 n λb _=>?_
 unfold ovr
 rw [h.adj.sym b a,Lj<|e v b]
theorem L3.dv3(h:L3 n e e' u v)(w1:w≠u)(M:w≠v):ah4 n e' w=ah4 n e w+p9 n (λb=>ind (ovr e u v w b))+p9 n λa=>ind (ovr e u v a w):=by
 have ha:p9 n (λb=>ind<|ovr e u v w b)=if e u w=true then coN n e w v else 0:=by
  have:(λb=>ind<|ovr e u v w b)=λb=>ind (e u w&&(e w b&&e v b)):=funext λb=>by
   unfold ovr;congr 1
   cases e u w<;>cases e v b<;>cases e w b<;>rfl
  rw [this,di7 (e u w) λb=>e w b&&e v b]
  unfold coN;rw [An M]
 have hb:p9 n (λa=>ind<|ovr e u v a w)=if e v w=true then coN n e w u else 0:=by
  have:(λa=>ind<|ovr e u v a w)=λa=>ind (e v w&&(e w a&&e u a)):=funext λa=>by
   unfold ovr;rw [h.adj.sym a w];congr 1
   cases e u a<;>cases e v w<;>cases e w a<;>rfl
  rw [this,di7 (e v w) λa=>e w a&&e u a]
  unfold coN;rw [An w1]
 rw [ha,hb]
 have h1:ah4 n e' w=p9 n λy=>prs (coN n e w y)+((if y=v then (if e u w=true then coN n e w v else 0) else 0)+(if y=u then (if e v w=true then coN n e w u else 0) else 0)):=by
  unfold ah4
  refine p4 n λy _=>?_
  by_cases hu:y=u
  ·subst hu
   rw [An h.ne,B_ rfl,aw9 h.fq9 w y,h.gh9 w1 M,bq5,aw9 h.adj y w];omega
  by_cases hv:y=v
  ·subst hv
   rw [B_ rfl,An hu,aw9 h.fq9 w y,h.swap.gh9 M w1,bq5,aw9 h.adj y w];omega
  rw [An hv,An hu,h.ga6 w1 M hu hv];omega
 rw [h1,F9,F9,R6 h.lv,R6 h.lu]
 unfold ah4
 omega
def occ(n:Nat)(e:Nat->Nat->Bool)(u v w:Nat):Int:=p9 n λa=>p9 n λb=>if ovr e u v a b=true then (((ind (decide (u=w))+ind (decide (v=w)))+ind (decide (a=w)))+ind (decide (b=w))) else 0
theorem L3.ft8(h:L3 n e e' u v)(hw:w<n):ah4 n e' w=ah4 n e w+occ n e u v w:=by
 have hp:∀a b,ovr e u v a b=true->a≠u/\a≠v/\b≠u/\b≠v:=λa b M=>by
  unfold ovr at M
  rw [Hc,Hc] at M
  obtain ⟨⟨h1,h2⟩,_⟩:=M
  exact ⟨λq=>(by rw [q,h.adj.irr] at h1;cases h1),λq=>(by rw [q,h.no] at h1;cases h1),λq=>(by rw [q,h.no'] at h2;cases h2),λq=>(by rw [q,h.adj.irr] at h2;cases h2)⟩
 by_cases w1:w=u
 ·subst w1
  rw [h.fj0]
  congr 1
  refine p4 n λa _=>p4 n λb _=>?_
  by_cases M:ovr e w v a b=true
  ·obtain ⟨q1,q2,q3,q4⟩:=hp a b M
   rw [B_ M,M,As rfl,D_ h.ne.symm,D_ q1,D_ q3];rfl
  rw [An M];unfold ind;rw [An M]
 by_cases w2:w=v
 ·subst w2
  rw [h.fx3]
  congr 1
  refine p4 n λa _=>p4 n λb _=>?_
  by_cases M:ovr e u w a b=true
  ·obtain ⟨q1,q2,q3,q4⟩:=hp a b M
   rw [B_ M,M,As rfl,D_ h.ne,D_ q2,D_ q4];rfl
  rw [An M];unfold ind;rw [An M]
 rw [h.dv3 w1 w2,Int.add_assoc]
 congr 1
 have h1:occ n e u v w=p9 n (λa=>p9 n λb=>(if a=w then ind (ovr e u v a b) else 0)+(if b=w then ind (ovr e u v a b) else 0)):=by
  refine p4 n λa _=>p4 n λb _=>?_
  by_cases M:ovr e u v a b=true
  ·rw [B_ M,M,D_<|Me w1,D_<|Me w2,di8,di8,cu1,as3];omega
  have h0:ind (ovr e u v a b)=0:=by unfold ind;rw [An M]
  rw [An M,h0];split<;>split<;>rfl
 rw [h1]
 have h2:∀a,p9 n (λb=>(if a=w then ind (ovr e u v a b) else 0)+(if b=w then ind (ovr e u v a b) else 0))=(if a=w then p9 n (λb=>ind<|ovr e u v w b) else 0)+ind (ovr e u v a w):=λa=>by
  rw [F9]
  congr 1
  ·by_cases ha:a=w
   ·subst ha;rw [B_ rfl];exact p4 n λb _=>B_ rfl
   rw [An ha];exact R2 n λb _=>An ha
  rw [←R6 hw (ind<|ovr e u v a w)]
  refine p4 n λb _=>?_
  by_cases hb:b=w
  ·subst hb;simp
  rw [An hb,An hb]
 rw [p4 n λa _=>h2 a,F9,R6 hw]
def gd0(n:Nat)(e:Nat->Nat->Bool)(u v:Nat):Int:=p9 n λa=>p9 n λb=>ind (ovr e u v a b)
theorem fn7(h:L3 n e e' u v):p9 n (occ n e u v)=4*gd0 n e u v:=by
 have h1:∀a,a<n->∀b,b<n->p9 n (λw=>if ovr e u v a b=true then (((ind (decide<|u=w)+ind (decide<|v=w))+ind (decide<|a=w))+ind (decide<|b=w)) else 0)=4*ind (ovr e u v a b):=λa ha b hb=>by
  have one:∀k,k<n->p9 n (λw=>ind<|decide<|k=w)=1:=λk hk=>by
   rw [←R6 hk 1]
   refine p4 n λw _=>?_
   rw [di8]
   by_cases q:w=k
   ·rw [B_ q.symm,B_ q]
   rw [An (Me q),An q]
  by_cases hab:ovr e u v a b=true
  ·rw [p4 n λw _=>B_ hab,F9,F9,F9,one u h.lu,one v h.lv,one a ha,one b hb,hab];rfl
  rw [R2 n λw _=>An hab];unfold ind;rw [An hab];rfl
 have M:∀(m:Nat) (g:Nat->Int),p9 m (λk=>4*g k)=4*p9 m g:=λm g=>by
  induction m with
  |zero=>rfl
  |succ m ih=>
   show p9 m _+4*g m=4*(p9 m g+g m)
   rw [ih];omega
 unfold occ
 rw [G6 n n λw a=>p9 n λb=>if ovr e u v a b=true then (((ind (decide<|u=w)+ind (decide<|v=w))+ind (decide<|a=w))+ind (decide<|b=w)) else 0]
 rw [p4 n λa ha=>(G6 n n λw b=>if ovr e u v a b=true then (((ind (decide<|u=w)+ind (decide<|v=w))+ind (decide<|a=w))+ind (decide<|b=w)) else 0).trans ((p4 n λb hb=>h1 a ha b hb).trans (M n _))]
 rw [M];rfl
theorem L3.all(h:L3 n e e' u v):bw8 n e'=bw8 n e+gd0 n e u v:=by
 have h1:=bd4 h.fq9
 have h2:=bd4 h.adj
 have h3:=fn7 h
 rw [p4 n λw M=>h.ft8 M,F9] at h1
 omega
end
end Go.Sl
namespace Go.Sl
section
variable {n:Nat}{e e':Nat->Nat->Bool}{u v:Nat}
def cc9(n:Nat)(e:Nat->Nat->Bool)(w:Nat):Int:=p9 n λx=>p9 n λy=>ind (e x y&&(e w x&&e w y))
theorem cd8{p q:Nat}(M:p<n)(hq:q<n)(c d:Int)(g:Nat->Int):p9 n (λx=>g x+((if x=p then c else 0)+(if x=q then d else 0)))=p9 n g+(c+d):=by
 rw [F9,F9,R6 M,R6 hq]
theorem L3.fk8(h:L3 n e e' u v){w:Nat}(w1:w≠u)(w2:w≠v):cc9 n e' w=cc9 n e w+2*ind (e u w&&e v w):=by
 have aa:∀x,p9 n (λy=>ind<|e' x y&&(e' w x&&e' w y))=p9 n (λy=>ind<|e x y&&(e w x&&e w y))+((if x=u then ind (e u w&&e v w) else 0)+(if x=v then ind (e u w&&e v w) else 0)):=λx=>by
  have M:∀z,e' w z=e w z:=λz=>h.oth (.inl w1) (.inl w2)
  by_cases hx:x=u
  ·subst hx
   rw [B_ rfl,An h.ne,Jz,aq4 h.lv (g:=λy=>ind<|e x y&&(e w x&&e w y)) λj _ hj=>by rw [M,M,h.oth (.inr hj)<|.inl h.ne]]
   rw [M,M,h.uv.1,h.no,h.adj.sym x w,h.adj.sym v w,Kl,Jt,as3];omega
  by_cases hv:x=v
  ·subst hv
   rw [An hx,B_ rfl,Mm,aq4 h.lu (g:=λy=>ind<|e x y&&(e w x&&e w y)) λj _ hj=>by rw [M,M,h.oth (.inl hx)<|.inr hj]]
   rw [M,M,h.uv.2,h.no',h.adj.sym x w,h.adj.sym u w,Kl,Jt,as3,Lj];omega
  rw [An hx,An hv]
  rw [p4 n λy _=>by rw [M,M,h.oth (x:=x) (y:=y) (.inl hx)<|.inl hv]];omega
 unfold cc9
 rw [p4 n λx _=>aa x,cd8 h.lu h.lv];omega
theorem L3.fv9(h:L3 n e e' u v):cc9 n e' u=cc9 n e u+2*coN n e u v:=by
 have hp:∀x y,ind (e' x y&&(e' u x&&e' u y))=ind (e x y&&(e u x&&e u y))+((if x=v then ind (e u y&&e v y) else 0)+(if y=v then ind (e u x&&e v x) else 0)):=λx y=>by
  by_cases hx:x=v
  ·subst hx
   rw [B_ rfl,h.uv.1,h.no]
   by_cases hy:y=x
   ·subst hy;rw [h.fq9.irr,h.adj.irr,h.no];simp [ind]
   rw [An hy]
   by_cases hu:y=u
   ·subst hu;rw [h.fq9.irr,h.adj.irr];simp [ind]
   rw [h.oth (x:=x) (y:=y) (.inl h.ne.symm) (.inr hu),h.oth (x:=u) (y:=y) (.inr hy)<|.inl h.ne,Kl,Jt,Ly,as3,Lj];omega
  rw [An hx,h.oth (x:=u) (y:=x) (.inr hx)<|.inl h.ne]
  by_cases hy:y=v
  ·subst hy
   rw [B_ rfl,h.uv.1,h.no]
   by_cases hu:x=u
   ·subst hu;rw [h.adj.irr];simp [ind]
   rw [h.oth (x:=x) (y:=y) (.inl hu) (.inl hx),h.adj.sym x y,Bool.and_true,Ly,Ly,as3,Lj];omega
  rw [An hy,h.oth (x:=u) (y:=y) (.inr hy)<|.inl h.ne,h.oth (x:=x) (y:=y) (.inr hy)<|.inl hx];omega
 unfold cc9
 rw [p4 n λx _=>p4 n λy _=>hp x y]
 have h2:∀x,p9 n (λy=>ind (e x y&&(e u x&&e u y))+((if x=v then ind (e u y&&e v y) else 0)+(if y=v then ind (e u x&&e v x) else 0)))=p9 n (λy=>ind<|e x y&&(e u x&&e u y))+((if x=v then coN n e u v else 0)+ind (e u x&&e v x)):=λx=>by
  rw [F9,F9,R6 h.lv]
  congr 2
  by_cases hx:x=v
  ·rw [B_ hx];unfold coN;rw [An h.ne];exact p4 n λy _=>B_ hx
  rw [An hx];exact R2 n λy _=>An hx
 rw [p4 n λx _=>h2 x,F9,F9,R6 h.lv]
 have M:p9 n (λx=>ind<|e u x&&e v x)=coN n e u v:=by unfold coN;rw [An h.ne]
 rw [M];omega
theorem L3.ge2(h:L3 n e e' u v):cc9 n e' v=cc9 n e v+2*coN n e u v:=by rw [h.swap.fv9,aw9 h.adj]
theorem L3.tri(h:L3 n e e' u v)(w:Nat):cc9 n e' w=cc9 n e w+2*ind (e u w&&e v w)+((if w=u then 2*coN n e u v else 0)+(if w=v then 2*coN n e u v else 0)):=by
 by_cases w1:w=u
 ·subst w1;rw [h.fv9,B_ rfl,An h.ne,h.adj.irr,Jt,as3];omega
 by_cases w2:w=v
 ·subst w2;rw [h.ge2,An w1,B_ rfl,h.adj.irr,Ly,as3];omega
 rw [h.fk8 w1 w2,An w1,An w2];omega
theorem dc3(m:Nat)(g:Nat->Int):p9 m (λk=>2*g k)=2*p9 m g:=by
 induction m with
 |zero=>rfl
 |succ m ih=>show p9 m _+2*g m=2*(p9 m g+g m);rw [ih];omega
theorem L3.fm1(h:L3 n e e' u v):p9 n (cc9 n e')=p9 n (cc9 n e)+6*coN n e u v:=by
 rw [p4 n λw _=>h.tri w,cd8 h.lu h.lv,F9,dc3]
 have M:p9 n (λx=>ind<|e u x&&e v x)=coN n e u v:=by unfold coN;rw [An h.ne]
 rw [M];omega
def fa2(n:Nat)(e:Nat->Nat->Bool)(v:Nat):Int:=p9 n λx=>ind (e v x)
theorem L3.deg(h:L3 n e e' u v)(w:Nat):fa2 n e' w=fa2 n e w+ind (decide (w=u)||decide (w=v)):=by
 unfold fa2
 by_cases hu:w=u
 ·subst hu
  rw [As rfl,Bool.true_or,cu1,aq4 h.lv (g:=λx=>ind<|e w x) λj _ M=>by rw [h.oth (.inr M) (.inl h.ne)],h.uv.1,h.no];rfl
 by_cases hv:w=v
 ·subst hv
  rw [As rfl,Bool.or_true,cu1,aq4 h.lu (g:=λx=>ind<|e w x) λj _ M=>by rw [h.oth (.inl hu) (.inr M)],h.uv.2,h.no'];rfl
 rw [D_ hu,D_ hv,Bool.or_false,as3,Jz]
 exact p4 n λx _=>by rw [h.oth (.inl hu) (.inl hv)]
theorem L3.fu8(h:L3 n e e' u v):p9 n (λw=>prs (fa2 n e' w))=p9 n (λw=>prs (fa2 n e w))+(fa2 n e u+fa2 n e v):=by
 rw [←cd8 h.lu h.lv]
 refine p4 n λw _=>?_
 rw [h.deg,bq5]
 by_cases hu:w=u
 ·subst hu;rw [B_ rfl,An h.ne,As rfl,Bool.true_or,B_ rfl];omega
 by_cases hv:w=v
 ·subst hv;rw [An hu,B_ rfl,As rfl,Bool.or_true,B_ rfl];omega
 rw [An hu,An hv,D_ hu,D_ hv,Bool.or_false,An<|by decide];omega
end
end Go.Sl
namespace Go.Sl
open Go.Proofs
set_option maxRecDepth 4000
variable{x y:Int}
section
variable {nd:Int}{es es':List Pt}{u v:Int}
theorem ae1(M:s6 nd es):y∈nbG nd es x↔(⟨x,y⟩:Pt)∈es\/(⟨y,x⟩:Pt)∈es:=by
 unfold nbG
 rw [An (by rw [s4.2 M];decide),af8,ao1]
theorem dg2(nd:Int)(es:List Pt)(x:Int):(nbG nd es x).Pairwise (λM x1:Int=>M<x1):=by
 rw [←ct1];exact ae4 _
theorem ac1(nd:Int)(es:List Pt)(x:Int):(nbG nd es x).Nodup:=(dg2 nd es x).imp λh=>by omega
theorem N3(M:s6 nd es)(h:y∈nbG nd es x):(0<=x/\x<nd)/\(0<=y/\y<nd)/\x≠y:=by
 rcases (ae1 M).1 h with h|h
 ·have:=M.Z1 _ h;simp only at this;omega
 have:=M.Z1 _ h;simp only at this;omega
theorem ag9(M:s6 nd es)(h:y∈nbG nd es x):x∈nbG nd es y:=(ae1 M).2 ((ae1 M).1 h).symm
structure R5 (nd:Int) (es es':List Pt) (u v:Int):Prop where
 ok:s6 nd es
 ok':s6 nd es'
 ends:F5 nd u v
 no:j4 u v∉es
 mem:∀p,p∈es'↔p∈es\/p=j4 u v
theorem R5.add(M:s6 nd es)(he:F5 nd u v)(hn:j4 u v∉es):R5 nd es (z7 Pt.lt es (j4 u v)) u v:=⟨M,M.add he,he,hn,λp=>by rw [ar8];exact Or.comm⟩
theorem R5.rem(M:s6 nd es)(he:F5 nd u v)(hm:j4 u v∈es):R5 nd (j7 es (j4 u v)) es u v:=by
 refine ⟨M.rem,M,he,λh=>?_,λp=>?_⟩
 ·unfold j7 at h
  exact Fq (Gg.1 h).2 rfl
 unfold j7
 rw [Gg,Gn]
 constructor
 ·intro h
  by_cases e:p=j4 u v
  ·exact .inr e
  exact .inl ⟨h,e⟩
 rintro (h|h)
 ·exact h.1
 rw [h];exact hm
theorem dk6{nd:Int}(M:F5 nd u v)(x y:Int):((⟨x,y⟩:Pt)=j4 u v\/(⟨y,x⟩:Pt)=j4 u v)↔(x=u/\y=v)\/(x=v/\y=u):=by
 rcases co5 M with ⟨h,_⟩|⟨h,_⟩
 ·rw [h,Dc,Dc];simp only;omega
 rw [h,Dc,Dc];simp only;omega
theorem R5.nb(h:R5 nd es es' u v)(x y:Int):y∈nbG nd es' x↔y∈nbG nd es x\/(x=u/\y=v)\/(x=v/\y=u):=by
 rw [ae1 h.ok',ae1 h.ok,h.mem,h.mem,←dk6 h.ends]
 constructor
 ·rintro ((a|b)|(a|b))
  ·exact .inl<|.inl a
  ·exact .inr<|.inl b
  ·exact .inl<|.inr a
  exact .inr<|.inr b
 rintro ((a|a)|(b|b))
 ·exact .inl<|.inl a
 ·exact .inr<|.inl a
 ·exact .inl<|.inr b
 exact .inr<|.inr b
theorem R5.nuv(h:R5 nd es es' u v):v∉nbG nd es u/\u∉nbG nd es v:=by
 have M:∀a b:Int,((⟨a,b⟩:Pt)∈es\/(⟨b,a⟩:Pt)∈es)->j4 a b∈es:=λa b hh=>by
  rcases hh with hh|hh
  ·have:=h.ok.Z1 _ hh
   simp only at this
   unfold j4
   rw [An om,B_ om];exact hh
  have:=h.ok.Z1 _ hh
  simp only at this
  unfold j4
  rw [B_ om,An om];exact hh
 exact ⟨λhm=>h.no<|M _ _<|(ae1 h.ok).1 hm,λhm=>h.no<|by rw [cu5];exact M _ _<|(ae1 h.ok).1 hm⟩
def p8(nd x:Int):Prop:=0<=x/\x<nd
theorem R5.more(h:R5 nd es es' u v):bk2 (p8 nd) (nbG nd es) (nbG nd es') u v:=by
 have M:=h.ends
 unfold F5 at M
 exact dx2 ⟨M.1,M.2.2.1⟩ ⟨M.2.1,M.2.2.2.1⟩ M.2.2.2.2 (ac1 nd es) (ac1 nd es') h.nuv.1 h.nuv.2 h.nb
theorem bg9(M:s6 nd es)(l:List Int)(x:Int):ao9 (nbG nd es) (λy=>decide (y∈l)) x=(Z9 (nbG nd es x) l).length:=by
 unfold ao9
 refine ((Hp ((ac1 nd es x).filter _) ?_).2 λy=>?_).length_eq
 ·unfold Z9;exact ((R9 _).imp λh=>by omega:(ofL<|nbG nd es x).Nodup).filter _
 rw [T1,Gg,Gn]
theorem am3(hG:s6 nd es):af0 (p8 nd) (nbG nd es) λx=>(e_ (j9 nd es) x).toNat:=by
 intro x hx k
 have hr:=hG.rng
 show k<=(e_ (j9 nd es) x).toNat↔_
 constructor
 ·intro hk
  by_cases h0:k=0
  ·subst h0
   exact ⟨λy=> @decide (p8 nd y) (Classical.propDecidable _),⟨λy M=> @Fq _ (Classical.propDecidable _) M,λ_ _=>Mq _⟩, @As _ (Classical.propDecidable _) hx⟩
  obtain ⟨W,h1,h2,h3⟩:=bz4 hG (k:=k) om
  refine ⟨λy=>decide<|y∈eo W,⟨λy M=>?_,λy M=>?_⟩,As<|h3 x hx.1 hx.2 om⟩
  ·have M:=Fq M;exact ⟨(En M).1,h2 y M⟩
  have M:=Fq M
  rw [bg9 hG,←as8 hG (W:=W) (λz=>Iff.rfl) (En M).1 (h2 y M)]
  exact h1 y M
 rintro ⟨X,hX,ad⟩
 have hm:∀y,y∈af2 nd.toNat X↔X y=true:=λy=>by
  rw [ai7]
  exact ⟨λh=>h.2,λh=>⟨by have:=hX.dom y h;unfold p8 at this;omega,h⟩⟩
 have hl:=aj0 hr.2 (l:=af2 nd.toNat X) λy M=>by have:=hX.dom y ((hm y).1 M);unfold p8 at this;exact this
 have hc:au5 (ek nd es) k (be1<|af2 nd.toNat X):=λy M=>by
  have aa:=(hm y).1 ((hl y).1 M)
  have ab:=hX.dom y aa
  rw [as8 hG hl ab.1 ab.2,←bg9 hG]
  refine G_ (hX.deg y aa)<|M8 λz _ hz=>As<|(hm z).2 hz
 have:=bz5 hG hc (λy M=>(hX.dom y<|(hm y).1 ((hl y).1 M)).2) ((hl x).2 ((hm x).2 ad))
 omega
theorem af0.uniq{V:Int->Prop}{nb:Int->List Int}{n m:Int->Nat}(h:af0 V nb n)(h':af0 V nb m)(M:V x):n x=m x:=
 Nat.le_antisymm ((h' x M _).2 ((h x M _).1 (Gd _))) ((h x M _).2 ((h' x M _).1 (Gd _)))
end
theorem am1{a b:BitVec 64}{u:Int}:u∈eo (a ||| b)↔u∈eo a\/u∈eo b:=by
 simp only [D3,Ld,Ki]
 constructor
 ·rintro ⟨M,h2|h2⟩
  ·exact .inl ⟨M,h2⟩
  exact .inr ⟨M,h2⟩
 rintro (⟨M,h2⟩|⟨M,h2⟩)
 ·exact ⟨M,.inl h2⟩
 exact ⟨M,.inr h2⟩
section
variable {nd:Int}{es es':List Pt}{u v k:Int}{F S A:BitVec 64}
theorem ba9(M:s6 nd es){W:BitVec 64}(hx:p8 nd x):Q3 (ek nd es) W x=ao9 (nbG nd es) (λy=>decide (y∈eo W)) x:=by
 rw [bg9 M,as8 M (W:=W) (λz=>Iff.rfl) hx.1 hx.2]
structure fu7 (rows:List (BitVec 64)) (F A:BitVec 64) (k:Int) (S:BitVec 64):Prop where
 sub:∀x∈eo S,x∈eo F
 deg:∀x∈eo S,k<=((Q3 rows (S ||| A) x:Nat):Int)
 most:∀T:BitVec 64,(∀x∈eo T,x∈eo F)->(∀x∈eo T,k<=((Q3 rows (T ||| A) x:Nat):Int))->∀x∈eo T,x∈eo S
structure gm3 (nd:Int) (es:List Pt) (N:List Int) (u v k:Int) (F:BitVec 64):Prop where
 lev:∀x∈eo F,p8 nd x/\e_ N x=k
 hu:e_ N u=k->u∈eo F
 hv:e_ N v=k->v∈eo F
 cl:∀x∈eo F,∀y∈nbG nd es x,e_ N y=k->y∈eo F
theorem fz2(hG:s6 nd es){T:Int->Bool}(M:∀x,T x=true->p8 nd x)(x:Int):x∈eo (be1 (af2 nd.toNat T))↔T x=true:=by
 have hr:=hG.rng
 rw [aj0 hr.2 (l:=af2 nd.toNat T) (λy hy=>M y (ai7.1 hy).2),ai7]
 exact ⟨λh=>h.2,λh=>⟨by have:=M x h;unfold p8 at this;omega,h⟩⟩
theorem cv0(h:R5 nd es es' u v)(hk:k=min (e_ (j9 nd es) u) (e_ (j9 nd es) v))(hF:gm3 nd es' (j9 nd es) u v k F)(hA:∀x,x∈eo A↔p8 nd x/\k<e_ (j9 nd es) x)(hS:fu7 (ek nd es') F A (k+1) S)
  {x:Int} (hx:p8 nd x):e_ (j9 nd es') x=e_ (j9 nd es) x+if x∈eo S then 1 else 0:=by
 have he:=h.ends
 unfold F5 at he
 have hp:=λy (M:p8 nd y)=>T6 h.ok M.1 M.2
 have ae:=λy (M:p8 nd y)=>T6 h.ok' M.1 M.2
 have hu:p8 nd u:=⟨he.1,he.2.2.1⟩
 have hv:p8 nd v:=⟨he.2.1,he.2.2.2.1⟩
 have pu:=hp u hu
 have pv:=hp v hv
 have hX:∀(T:BitVec 64) y,(decide (y∈eo T)||upN (p8 nd) (λx=>(e_ (j9 nd es) x).toNat) (k.toNat+1) y)=decide (y∈eo (T ||| A)):=λT y=>by
  rw [Ka,av7,P9,Gp,Gp,am1,hA]
  constructor
  ·rintro (h1|⟨h1,h2⟩)
   ·exact .inl h1
   exact .inr ⟨h1,by omega⟩
  rintro (h1|⟨h1,h2⟩)
  ·exact .inl h1
  exact .inr ⟨h1,by have:=hp y h1;omega⟩
 have hc:=fa7 (am3 h.ok) h.more (λa b ha hb ad=>ag9 h.ok' ad) (k:=k.toNat) om (R:=λy=>decide<|y∈eo F) (S:=λy=>decide<|y∈eo S)
  (λy M=>by have:=hF.lev y (Fq M);exact ⟨this.1,by omega⟩) (λe=>As<|hF.hu om) (λe=>As<|hF.hv om)
  (λy z M hz ai ak=>As<|hF.cl y (Fq M) z hz<|by have:=hp z ai;omega)
  (λy M=>As<|hS.sub y<|Fq M)
  (λy M=>by
   have M:=Fq M
   have aj:=(hF.lev y<|hS.sub y M).1
   simp only [hX]
   rw [←ba9 h.ok' aj]
   have:=hS.deg y M;omega)
  (λT ab ah y M=>by
   have aa:∀z,T z=true->p8 nd z:=λz hz=>(hF.lev z<|Fq<|ab z hz).1
   have hm:=fz2 h.ok' aa
   refine As<|hS.most (be1<|af2 nd.toNat T) (λz hz=>Fq<|ab z<|(hm z).1 hz) (λz hz=>?_) y<|(hm y).2 M
   have hz:=(hm z).1 hz
   rw [ba9 h.ok' (aa z hz)]
   have h3:=ah z hz
   have h4:(λy=>T y||upN (p8 nd) (λx=>(e_ (j9 nd es) x).toNat) (k.toNat+1) y)=λy=>decide (y∈eo (be1 (af2 nd.toNat T) ||| A)):=funext λy=>by
    rw [←hX];congr 1
    rw [Ka,Gp];exact (hm y).symm
   rw [h4] at h3;omega)
 have h1:(e_ (j9 nd es') x).toNat=(e_ (j9 nd es) x).toNat+if decide (x∈eo S)=true then 1 else 0:=(am3 h.ok').uniq hc hx
 have h2:=hp x hx
 have h3:=ae x hx
 by_cases hs:x∈eo S
 ·rw [B_ (As hs)] at h1;rw [B_ hs];omega
 rw [An (λq=>hs<|Fq q)] at h1;rw [An hs];omega
theorem dm4(h:R5 nd es es' u v)(hk:k=min (e_ (j9 nd es') u) (e_ (j9 nd es') v))(hF:gm3 nd es' (j9 nd es') u v k F)(hA:∀x,x∈eo A↔p8 nd x/\k<=e_ (j9 nd es') x/\x∉eo F)(hS:fu7 (ek nd es) F A k S)
  {x:Int} (hx:p8 nd x):e_ (j9 nd es) x=e_ (j9 nd es') x - if x∈eo F/\x∉eo S then 1 else 0:=by
 have he:=h.ends
 unfold F5 at he
 have hp:=λy (M:p8 nd y)=>T6 h.ok M.1 M.2
 have aa:=λy (M:p8 nd y)=>T6 h.ok' M.1 M.2
 have hu:p8 nd u:=⟨he.1,he.2.2.1⟩
 have hv:p8 nd v:=⟨he.2.1,he.2.2.2.1⟩
 have pu:=aa u hu
 have pv:=aa v hv
 have hX:∀(T:BitVec 64) y,(decide (y∈eo T)||(upN (p8 nd) (λx=>(e_ (j9 nd es') x).toNat) k.toNat y && !decide (y∈eo F)))=decide (y∈eo (T ||| A)):=λT y=>by
  rw [Ka,av7,L7,P9,Gp,Gp,am1,hA,J_,Kt]
  constructor
  ·rintro (h1|⟨⟨h1,h2⟩,h3⟩)
   ·exact .inl h1
   exact .inr ⟨h1,by have:=aa y h1;omega,h3⟩
  rintro (h1|⟨h1,h2,h3⟩)
  ·exact .inl h1
  exact .inr ⟨⟨h1,by have:=aa y h1;omega⟩,h3⟩
 have ak:=h.more.pos (am3 h.ok')
 have hc:=fa8 (am3 h.ok') h.more (λa b ha hb ae=>ag9 h.ok' ae) (k:=k.toNat) om (R:=λy=>decide<|y∈eo F) (S:=λy=>decide<|y∈eo S)
  (λy M=>by have:=hF.lev y (Fq M);exact ⟨this.1,by omega⟩) (λe=>As<|hF.hu om) (λe=>As<|hF.hv om)
  (λy z M hz ai an=>As<|hF.cl y (Fq M) z hz<|by have:=aa z ai;omega)
  (λy M=>As<|hS.sub y<|Fq M)
  (λy M=>by
   have M:=Fq M
   have aj:=(hF.lev y<|hS.sub y M).1
   simp only [hX]
   rw [←ba9 h.ok aj]
   have:=hS.deg y M;omega)
  (λT ad ah y M=>by
   have ab:∀z,T z=true->p8 nd z:=λz hz=>(hF.lev z<|Fq<|ad z hz).1
   have hm:=fz2 h.ok ab
   refine As<|hS.most (be1<|af2 nd.toNat T) (λz hz=>Fq<|ad z<|(hm z).1 hz) (λz hz=>?_) y<|(hm y).2 M
   have hz:=(hm z).1 hz
   rw [ba9 h.ok (ab z hz)]
   have h3:=ah z hz
   have h4:(λy=>T y||(upN (p8 nd) (λx=>(e_ (j9 nd es') x).toNat) k.toNat y && !decide (y∈eo F)))=λy=>decide (y∈eo (be1 (af2 nd.toNat T) ||| A)):=funext λy=>by
    rw [←hX];congr 1
    rw [Ka,Gp];exact (hm y).symm
   rw [h4] at h3;omega)
 have h1:(e_ (j9 nd es) x).toNat=(e_ (j9 nd es') x).toNat - if decide (x∈eo F)=true/\decide (x∈eo S)≠true then 1 else 0:=(am3 h.ok).uniq hc hx
 have h2:=hp x hx
 have h3:=aa x hx
 by_cases hs:x∈eo F/\x∉eo S
 ·have hl:=(hF.lev x hs.1).2
  rw [B_ ⟨As hs.1,λq=>hs.2<|Fq q⟩] at h1;rw [B_ hs];omega
 rw [An (λq=>hs ⟨Fq q.1,λq2=>q.2<|As q2⟩)] at h1;rw [An hs];omega
end
end Go.Sl
namespace Go.Sl
end Go.Sl
namespace Go.Sl
open Go.Proofs
set_option maxRecDepth 4000
variable{l:List Int}{nd v:Int}{k:Nat}{es:List Pt}{va:Value}
variable {κ:Ctx}{I:List Item}
theorem az8{i:Int}(M:0<=i)(h:i<l.length):(l.set i.toNat v).sum=l.sum - e_ l i+v:=by
 obtain ⟨k,rfl⟩:=Hm M
 rw [Lw]
 clear M
 induction l generalizing k with
 |nil=>simp at h;omega
 |cons x xs ih=>
  cases k with
  |zero=>simp [e_];omega
  |succ k=>
   have:=ih k (by simp at h;omega)
   have e:e_ (x::xs) ((k+1:Nat):Int)=e_ xs k:=by unfold e_;simp
   rw [e,List.set_cons_succ,Jb,Jb,this];omega
theorem dc4(h:k<l.length):(l.take (k+1)).sum=(l.take k).sum+e_ l k:=by
 rw [Ca l k h,List.sum_append];simp
theorem bp7(n:Nat):(replicate n (default:Int)).sum=0:=by
 induction n with
 |zero=>rfl
 |succ n ih=>rw [Mk,Jb,ih];rfl
def V7(nd:Int)(es:List Pt):Int:=(es.map λe=>((j3 nd es e.u e.v).length:Int)).sum
def bu6(nd:Int)(es:List Pt)(k:Nat):Int:=((es.take k).map λe=>((j3 nd es e.u e.v).length:Int)).sum
theorem aq2(h:k<es.length):bu6 nd es (k+1)=bu6 nd es k+((j3 nd es (e_ es k).u (e_ es k).v).length:Int):=by
 unfold bu6
 rw [Ca es k h,Hr,List.sum_append];simp
theorem bp4(nd:Int)(es:List Pt):bu6 nd es es.length=V7 nd es:=by unfold bu6 V7;rw [Hb]
theorem M2(nd:Int)(es:List Pt)(u v:Int):(j3 nd es u v).length<=64:=by
 by_cases h:u=v
 ·unfold j3;rw [B_ h];simp
 rw [←at1 h];exact Es _
theorem bc1(nd:Int)(es:List Pt):∀k,k<=es.length->0<=bu6 nd es k/\bu6 nd es k<=64*(k:Int)
 |0,_=>by unfold bu6;simp
 |k+1,h=>by
  have M:=bc1 nd es k om
  have:=M2 nd es (e_ es k).u (e_ es k).v
  rw [aq2 om];omega
theorem bk6(h:∀x∈l,0<=x):∀k,k<=l.length->0<=(l.take k).sum/\(l.take k).sum<=l.sum:=by
 have aa:∀l:List Int,(∀x∈l,0<=x)->∀k,0<=(l.take k).sum/\(l.take k).sum<=l.sum:=λl=>by
  induction l with
  |nil=>intro _ k;simp
  |cons x xs ih=>
   intro h k
   have h0:=h x A_
   have M:=ih λy hy=>h y (C_ _ hy)
   cases k with
   |zero=>have:=M xs.length;rw [Hb] at this;simp;omega
   |succ k=>have:=M k;simp;omega
 exact λk _=>aa l h k
theorem Z2(hG:s6 nd es){u x:Int}(M:x∈j3 nd es u v):0<=x/\x<nd:=by
 unfold j3 at M
 split at M
 ·cases M
 have h1:=(T1.1 M).1
 unfold nbG at h1
 rw [An (by rw [s4.2 hG];decide),af8,ao1] at h1
 rcases h1 with h|h
 ·have:=hG.Z1 _ h;simp only at this;omega
 have:=hG.Z1 _ h;simp only at this;omega
theorem ae2:∀{l:List Int},(∀x∈l,0<=x)->∀{x:Int},x∈l->x<=l.sum
 |[],_,x,hx=>by cases hx
 |y::ys,h,x,hx=>by
  have h0:=h y A_
  have M:∀z∈ys,0<=z:=λz hz=>h z (C_ _ hz)
  have h2:=(bk6 M ys.length<|Gd _)
  rw [Hb] at h2
  rw [Jb]
  rcases Fw.1 hx with rfl|hx
  ·omega
  have:=ae2 M hx;omega
theorem cy6(hl:Sl κ I va es)(hG:s6 nd es):eu Tryz.prog κ 54 [.agg #[e7 nd,va]] I (λr J=>∃a c,∃out:List Int,r = .tuple #[.slice a out.length c,e7 0]/\(out.length<=64/\out.sum=V7 nd es/\∀x∈out,0<=x)/\J=vk 3 a c out::I):=by
 have ax:=hG.rng
 have a0:=q9 hG
 refine Ce1 Tryz.func54 C C ?_
 refine Ak<|Ge1 (Au (cs:=[_,_]) C C C) λb1=>Ga C<|Ga C<|Ar<|Ax<|Ak<|Gl2 J8 ?_
 refine G.e (Ac c_ C C<|V2 (nd:=nd)<|A4 hl) ?_
 rintro _ _ ⟨_,_,⟨rfl,rfl⟩,rfl,rfl⟩
 refine Ga C<|Ar<|Ak<|Gm C<|Gr (Cb C C)<|Ar<|Am C (λc12=>?_)<|λc12=>?_
 ·exact absurd (s4.2 hG) c12
 refine Bc<|Ao<|Ak<|Gf ag2 C<|Gl ef ?_
 refine Ge2 (Dk (α:=Int) (n:=nd.toNat) Ab ef C C C om om dc C) λab aa=>?_
 refine Ga C<|Ar<|Ax<|Ak<|Ga C<|Ar<|A1 (S3 6 5 1)<|A7<|B9 (σ:=Nat×(List Int)) (λs=>([(1,pt b1),(5,.slice ab (replicate nd.toNat (default:Int)).length aa),(6,e7 ((s.1:Nat):Int))]:Env)) (λs=>vc 3 (.slice ab (replicate nd.toNat (default:Int)).length aa) (s.2)::e8 b1 [e7 nd,va] 38::I) (λs=>(s.1<=es.length)/\(s.2.length=nd.toNat)/\(s.2.sum=bu6 nd es s.1)/\(∀x∈s.2,0<=x)) (λs=>es.length - s.1) (0,replicate nd.toNat (default:Int)) (show ((0:Nat)<=es.length)/\((replicate nd.toNat (default:Int):List Int).length=nd.toNat)/\((replicate nd.toNat (default:Int):List Int).sum=bu6 nd es (0:Nat))/\(∀x∈(replicate nd.toNat (default:Int):List Int),0<=x) from ⟨om,(by rw [Fy]),(by rw [bp7];rfl),(λx hx=>by rw [Kf hx];exact Hl 0)⟩) (cx2<|Aa Co Bb) (show Fit κ _ (vk 3 ab aa (replicate nd.toNat (default:Int))::e8 b1 [e7 nd,va] 38::I) from Az) ?_
 rintro ⟨k,out⟩ hp
 dsimp only at hp ⊢
 obtain ⟨hk,an,ap,ao⟩:=hp
 have aw:=λh:k<=es.length=>bc1 nd es k h
 refine Ax<|Ak<|Gm C<|Gf K4 C<|Gl an1 ?_
 refine Gr (E1 (α:=Pt) (xs:=es) Ay C<|A4 hl)<|Gr (Bl C C)<|Ar<|Am C (λar=>?_)<|λar=>?_
 ·refine Bc (Ao<|Ax<|A7<|Ax<|Ba mixed<|Bx (vc 3 (.slice ab (replicate nd.toNat (default:Int)).length aa) (out)::e8 b1 [e7 nd,va] 38::I) 15<|Dr 0 C (Bm (vs:=[_,_]) J8) ?_)
  refine Dr 1 C (Af K4 C)<|Dr 2 C (Bd an1) ?_
  refine Dr 3 C (Aq C)<|Dr 4 C (A2 (α:=Pt) (xs:=es) Ay s8 C C (A4 hl) om oo)<|Dr 5 C (j8.fld (α:=Pt) (xs:=es) N8 C (A4 hl) oo)<|Dr 6 C (Fj (α:=Pt) (xs:=es) (u:=e7 ((e_ es k).u)) ef C (A4 hl) om oo C)<|Dr 7 C (Af K4 C)<|Dr 8 C (Bd an1) ?_
  refine Dr 9 C (Aq C)<|Dr 10 C (A2 (α:=Pt) (xs:=es) Ay s8 C C (A4 hl) om oo)<|Dr 11 C (j8.fld (α:=Pt) (xs:=es) N7 C (A4 hl) oo)<|Dr 12 C (Fj (α:=Pt) (xs:=es) (u:=e7 ((e_ es k).v)) ef C (A4 hl) om oo C)<|Ds1 13<|Sc2 C (Ac c_ C C<|ag7 (nd:=nd) (A4 hl) ((e_ es k).u) ((e_ es k).v) om) λak aj=>?_
  refine Dr 14 C (Bh C)<|Dz<|Ao<|A1 (S4 7 1 5 6)<|Ak<|Ga C<|Ar<|A7<|B9 (σ:=Nat×(List Int)) (λs=>([(1,pt b1),(5,.slice ab (replicate nd.toNat (default:Int)).length aa),(6,e7<|(k:Int)),(7,.slice ak (j3 nd es ((e_ es k).u)<|(e_ es k).v).length aj),(8,e7 ((s.1:Nat):Int))]:Env)) (λs=>vc 3 (.slice ab (replicate nd.toNat (default:Int)).length aa) (s.2)::vk 3 ak aj (j3 nd es ((e_ es k).u)<|(e_ es k).v)::e8 b1 [e7 nd,va] 38::I) (λs=>(s.1<=(j3 nd es (e_ es k).u (e_ es k).v).length)/\(s.2.length=nd.toNat)/\(s.2.sum=bu6 nd es k+(s.1:Int))/\(∀x∈s.2,0<=x)) (λs=>(j3 nd es (e_ es k).u (e_ es k).v).length - s.1) (0,out) (show ((0:Nat)<=(j3 nd es (e_ es k).u (e_ es k).v).length)/\((out:List Int).length=nd.toNat)/\((out:List Int).sum=bu6 nd es k+((0:Nat):Int))/\(∀x∈(out:List Int),0<=x) from ⟨om,an,(by rw [ap];simp),ao⟩) (cx4<|Aa Co Bb) (show Fit κ _ (vc 3 (.slice ab (replicate nd.toNat (default:Int)).length aa) ((out))::vk 3 ak aj (j3 nd es ((e_ es k).u)<|(e_ es k).v)::e8 b1 [e7 nd,va] 38::I) from Az) ?_
  rintro ⟨k2,M⟩ hp
  dsimp only at hp ⊢
  obtain ⟨az,ae,ah,ad⟩:=hp
  have av:k2<(j3 nd es (e_ es k).u (e_ es k).v).length->0<=e_ (j3 nd es (e_ es k).u (e_ es k).v) (k2:Int)/\e_ (j3 nd es (e_ es k).u (e_ es k).v) (k2:Int)<nd:=λh=>Z2 hG (Bp om om)
  have ay:=M2 nd es (e_ es k).u (e_ es k).v
  have au:k2<(j3 nd es (e_ es k).u (e_ es k).v).length->0<=e_ M (e_ (j3 nd es (e_ es k).u (e_ es k).v) (k2:Int))/\e_ M (e_ (j3 nd es (e_ es k).u (e_ es k).v) (k2:Int))<=1000000:=λh=>by have h1:=av h;have h2:=Bp (xs:=M) (i:=e_ (j3 nd es (e_ es k).u (e_ es k).v) (k2:Int)) om om;have h3:=ae2 ad h2;have h4:=ad _ h2;have h5:=aw om;omega
  refine Ax<|Ak<|Gm C<|Gm C<|Gr (Bk Ab C)<|Gr (Bl C C)<|Ar<|Am C (λaq=>?_)<|λaq=>?_
  ·refine Bc (Ao<|Ax<|A7<|A6<|Gm C<|Gm C<|Gm C<|Gr (A2 (α:=Int) (xs:=j3 nd es ((e_ es k).u) ((e_ es k).v)) Ab ef C C A5 om oo)<|Gr (B6 (xs:=j3 nd es ((e_ es k).u) ((e_ es k).v)) ef C A5 om oo)<|Gr (A2 (α:=Int) (xs:=M) Ab ef C C A5 om oo)<|Gr (B6 (xs:=M) ef C A5 om oo)<|Gr (Rad C C)<|Gr (A2 (α:=Int) (xs:=M) Ab ef C C A5 om oo)<|Ge0 (Cw (α:=Int) (xs:=M) (e:=3) (new:=(e_ M<|e_ (j3 nd es ((e_ es k).u)<|(e_ es k).v) (k2:Int))+1) ef C C C om oo am) ?_)
   exact Bq<|Av<|Ao<|A1 (S5 1 5 6 7 8)<|A6<|Gm C<|Gr (Rad C C)<|Ga C<|Bq<|Bt ((k2+1),(List.set M (e_ (j3 nd es ((e_ es k).u)<|(e_ es k).v) (k2:Int)).toNat ((e_ M<|e_ (j3 nd es ((e_ es k).u)<|(e_ es k).v) (k2:Int))+1)))<|by dsimp only;exact ⟨om,(by rw [Fo];exact ae),(by rw [az8 om om,ah];omega),(λx hx=>by rcases Jq hx with h|h;(· exact ad x h);(· rw [h];have:=au om;omega))⟩
  exact Ci<|Aw<|Aw<|Bi<|Av<|Ao<|A6<|Gm C<|Gr (Rad C C)<|Ga C<|Bq<|Bt ((k+1),(M))<|by dsimp only;exact ⟨om,ae,(by rw [aq2 om,ah,show k2=(j3 nd es (e_ es k).u (e_ es k).v).length by omega]),ad⟩
 refine Ci<|Aw<|Aw<|Bi<|Ao<|Ak<|Gm C<|Ga C<|Ga C<|Ar<|B3 ?_
 have ai:(replicate nd.toNat (default:Int)).length=out.length:=by rw [Fy,an]
 exact C3 C C C (vk 3 ab aa out::I) (by unfold vk;rw [←ai];exact Az) ⟨ab,aa,out,by rw [←ai],⟨by omega,by rw [ap,show k=es.length by omega,bp4],ao⟩,rfl⟩
theorem bp3(M:s6 nd es):0<=V7 nd es/\V7 nd es<=129024:=by
 have:=bc1 nd es es.length (Gd _)
 rw [bp4] at this
 have:=q9 M
 omega
theorem da2(hl:Sl κ I va es)(hG:s6 nd es):eu Tryz.prog κ 21 [.agg #[e7 nd,va]] I (λr J=>r = .tuple #[e7 (V7 nd es / 3),e7 0]/\I=J):=by
 refine Ce1 Tryz.func21 C C ?_
 refine Ak<|Ge1 (Au (cs:=[_,_]) C C C) λb1=>Ga C<|Ga C<|Ar<|Ak<|Gl2 J8 ?_
 refine G.e (Ac c_ C C<|cy6 (nd:=nd) (A4 hl) hG) ?_
 rintro _ _ ⟨_,_,⟨ad,ab,M,rfl,aa,rfl⟩,rfl,rfl⟩
 refine Gm C<|Gr (Bj C C)<|Gr (Bj C C)<|Ga C<|Ga C<|Ar<|Ak<|Ga C<|Ar<|Ax<|Ak<|Ga C<|Ar<|A7<|B9 (σ:=Nat×Int) (λs=>([(4,.slice ad M.length ab),(5,e7 0),(6,e7<|s.2),(7,e7 ((s.1:Nat):Int))]:Env)) (λs=>vk 3 ad ab M::e8 b1 [e7 nd,va] 38::I) (λs=>(s.1<=M.length)/\(s.2=(M.take s.1).sum)) (λs=>M.length - s.1) (0,0) (show ((0:Nat)<=M.length)/\((0:Int)=(M.take (0:Nat)).sum) from ⟨om,rfl⟩) (cx2<|Aa Co<|Aa Co Bb) (show Fit κ _ (vk 3 ad ab M::e8 b1 [e7 nd,va] 38::I) from Ai) ?_
 rintro ⟨k,q⟩ hp
 dsimp only at hp ⊢
 obtain ⟨hk,ae⟩:=hp
 have ak:=bk6 aa.2.2 k om
 have ap:=λh:k<M.length=>aa.2.2 _ (Bp (xs:=M) (i:=((k:Nat):Int)) om om)
 have ao:=λh:k<M.length=>ae2 aa.2.2 (Bp (xs:=M) (i:=((k:Nat):Int)) om om)
 have an:=bp3 hG
 have ah:=aa.2.1
 refine Ax<|Ak<|Gm C<|Gm C<|Gr (Bk Ab C)<|Gr (Bl C C)<|Ar<|Am C (λai=>?_)<|λai=>?_
 ·exact Bc<|Ao<|Ax<|A7<|A6<|Gm C<|Gm C<|Gm C<|Gr (A2 (α:=Int) (xs:=M) Ab ef C C A5 om om)<|Gr (B6 (xs:=M) ef C A5 om om)<|Gr (Rad C C)<|Ga C<|Bq<|Av<|Ao<|A1 (S4 6 4 5 7)<|A6<|Gm C<|Gr (Rad C C)<|Ga C<|Bq<|Bt ((k+1),(q+(e_ M k)))<|by dsimp only;exact ⟨om,(by rw [dc4 om,←ae])⟩
 refine Ci<|Aw<|Aw<|Bi<|Ao<|Ak<|Gm C<|Gr (j8.quo C C om om<|by unfold InR;omega)<|Gm C<|Ga C<|Ga C<|Ar<|B3 ?_
 have aj:q=V7 nd es:=by rw [ae,Fv om];exact ah
 exact C3 C C C I Ah ⟨by rw [aj],rfl⟩
end Go.Sl
namespace Go.Sl
open Go.Proofs
set_option maxRecDepth 4000
variable{xs ys:List Int}
attribute [local irreducible] W G V D A j8 Eff
def M0(xs ys:List Int):List Int:=xs.filter λx=>decide (x∈ys)
theorem head_drop(h:0<xs.length):xs=e_ xs 0::List.drop 1 xs:=by
 cases xs with
 |nil=>cases h
 |cons x xs=>rfl
theorem bb0(h:xs.Pairwise (λM x1:Int=>M<x1)):(List.drop 1 xs).Pairwise (λM x1:Int=>M<x1):=h.sublist (List.drop_sublist _ _)
theorem cf1(h:xs.Pairwise (λM x1:Int=>M<x1))(h0:0<xs.length){y:Int}(hy:y∈List.drop 1 xs):e_ xs 0<y:=by
 rw [head_drop h0] at h
 exact (Ge.1 h).1 y hy
theorem dy3(hy:ys.Pairwise (λx0 x1:Int=>x0<x1))(h0:0<xs.length)(h1:0<ys.length)(h:e_ xs 0<e_ ys 0):M0 xs ys=M0 (List.drop 1 xs) ys:=by
 have hn:e_ xs 0∉ys:=λM=>by
  rw [head_drop h1] at M
  rcases Fw.1 M with e|e
  ·omega
  have:=cf1 hy h1 e;omega
 conv=>lhs;rw [head_drop h0]
 unfold M0
 rw [List.filter_cons_of_neg (by simpa using hn)]
theorem dy4(hx:xs.Pairwise (λx0 x1:Int=>x0<x1))(h0:0<xs.length)(h1:0<ys.length)(h:e_ ys 0<e_ xs 0):M0 xs ys=M0 xs (List.drop 1 ys):=by
 unfold M0
 refine Ht λx M=>?_
 rw [Fs]
 have aa:e_ ys 0<x:=by
  rw [head_drop h0] at M
  rcases Fw.1 M with rfl|e
  ·exact h
  have:=cf1 hx h0 e;omega
 constructor
 ·intro hm
  rw [head_drop h1] at hm
  rcases Fw.1 hm with e|e
  ·omega
  exact e
 exact λhm=>Mg hm
theorem inter_eq(hx:xs.Pairwise (λx0 x1:Int=>x0<x1))(h0:0<xs.length)(h1:0<ys.length)(h:e_ xs 0=e_ ys 0):M0 xs ys=e_ xs 0::M0 (List.drop 1 xs) (List.drop 1 ys):=by
 have M:e_ xs 0∈ys:=by rw [h];exact Bp om om
 conv=>lhs;rw [head_drop h0]
 unfold M0
 rw [List.filter_cons_of_pos (p:=λx=>decide<|x∈ys) (As M)]
 congr 1
 refine Ht λx aa=>?_
 rw [Fs]
 have ab:=cf1 hx h0 aa
 constructor
 ·intro M
  rw [head_drop h1] at M
  rcases Fw.1 M with e|e
  ·omega
  exact e
 exact λM=>Mg M
theorem by4(h:xs.length=0\/ys.length=0):M0 xs ys=[]:=by
 unfold M0
 rcases h with h|h
 ·rw [Kw.1 h];rfl
 rw [Kw.1 h];simp
theorem tb4{p:Prop}(h:p:=by first|omega|(simp only [By,Fx,E_,Fu];omega)):p:=h
theorem do8{κ:Ctx}{I:List Item}{a0 b0:Option Addr}{c0 d0:Nat}(hl:Sl κ I (.slice a0 xs.length c0) xs)(hm:Sl κ I (.slice b0 ys.length d0) ys)(hx:xs.Pairwise (λx0 x1:Int=>x0<x1))(hy:ys.Pairwise (λx0 x1:Int=>x0<x1))(hb:xs.length<=100000):eu Tryz.prog κ 133 [.slice a0 xs.length c0,.slice b0 ys.length d0] I (λr J=>∃a c,r = .slice a (M0 xs ys).length c/\J=vk 3 a c (M0 xs ys)::I):=by
 refine Ce2 Tryz.func133 C C<|Z ?_
 refine Dh (σ:=(Option Addr)×Nat×(List Int)×(Option Addr)×Nat×(List Int)×(Option Addr)×Nat×(List Int)) (λs=>[(0,.slice s.1 s.2.2.1.length s.2.1),(1,.slice s.2.2.2.1 s.2.2.2.2.2.1.length s.2.2.2.2.1),(5,.slice s.2.2.2.2.2.2.1 s.2.2.2.2.2.2.2.2.length s.2.2.2.2.2.2.2.1)]) (λs=>[vk 3 s.2.2.2.2.2.2.1 s.2.2.2.2.2.2.2.1 s.2.2.2.2.2.2.2.2]) (λs=>(Sl κ I (.slice s.1 s.2.2.1.length s.2.1) s.2.2.1)/\(Sl κ I (.slice s.2.2.2.1 s.2.2.2.2.2.1.length s.2.2.2.2.1) s.2.2.2.2.2.1)/\(s.2.2.1.Pairwise (λx0 x1:Int=>x0<x1))/\(s.2.2.2.2.2.1.Pairwise (λx0 x1:Int=>x0<x1))/\(M0 xs ys=s.2.2.2.2.2.2.2.2++M0 s.2.2.1 s.2.2.2.2.2.1)/\(s.2.2.2.2.2.2.2.2.length+s.2.2.1.length<=xs.length)) (λs=>(s.2.2.1.length+s.2.2.2.2.2.1.length)) (a0,c0,xs,b0,d0,ys,none,0,[]) (show (Sl κ I (.slice (a0:Option Addr) (xs:List Int).length (c0:Nat)) (xs:List Int))/\(Sl κ I (.slice (b0:Option Addr) (ys:List Int).length (d0:Nat)) (ys:List Int))/\((xs:List Int).Pairwise (λx0 x1:Int=>x0<x1))/\((ys:List Int).Pairwise (λx0 x1:Int=>x0<x1))/\(M0 xs ys=([]:List Int)++M0 (xs:List Int) (ys:List Int))/\(([]:List Int).length+(xs:List Int).length<=xs.length) from ⟨hl,hm,hx,hy,rfl,(by simp)⟩) (hI:=(B7 _ _)) ?_
 rintro ⟨pa,pc,M,qa,qc,aa,oa,oc,out⟩ hp
 dsimp only at hp ⊢
 obtain ⟨hA,hB,ab,ae,ad,ap⟩:=hp
 refine Z ?_
 refine A3 (d:=9) C (λg9=>Z ?_)<|λg9=>Z ?_
 ·refine Am C (λc13=>Z ?_) (λc13=>Z ?_)
  ·refine Ba mixed (Bx (vk 3 oa oc out::I) 7<|Z ?_)
   refine Ds1 6<|Sc0 C (Ac c_ C C<|Z6 (e_ M 0)<|e_ aa 0) ?_
   have ao:(e_ M 0<e_ aa 0/\bu7 (e_ M 0) (e_ aa 0) = -1)\/(e_ aa 0<e_ M 0/\bu7 (e_ M 0) (e_ aa 0)=1)\/(e_ M 0=e_ aa 0/\bu7 (e_ M 0) (e_ aa 0)=0):=by unfold bu7;repeat (first|omega|split)
   refine Z ?_
   refine Am C (λaj=>?_)<|λaj=>Z ?_
   ·refine A6 (Gm C<|Gr (Dn (α:=Int) (xs:=M) (l:=1) Ab ef C C om (A4 hA) om)<|Z ?_)
    exact Bt (((N9 pa pc 1<|Enc.sz Int)),((pc - 1)),(List.drop 1 M),(qa),(qc),(aa),(oa),(oc),(out)) (by dsimp only;exact ⟨(Er hA om),hB,(bb0 ab),ae,(by rw [ad,dy3 ae om om om]),tb4⟩) (hlt:=by (try dsimp only);exact (by simp only [Fx];omega))
   refine Am C (λan=>?_)<|λan=>Z ?_
   ·refine A6 (Gm C<|Gr (Dn (α:=Int) (xs:=aa) (l:=1) Ab ef C C om (A4 hB) om)<|Z ?_)
    exact Bt ((pa),(pc),(M),((N9 qa qc 1<|Enc.sz Int)),((qc - 1)),(List.drop 1 aa),(oa),(oc),(out)) (by dsimp only;exact ⟨hA,(Er hB om),ab,(bb0 ae),(by rw [ad,dy4 ab om om om]),tb4⟩) (hlt:=by (try dsimp only);exact (by simp only [Fx];omega))
   refine Ge1 (B2 (α:=Int) (cs:=[_]) (xs:=[e_ M 0]) Ab ef C C dc dc C C C C) λak=>?_
   refine Ge2 (Br (α:=Int) (e:=3) (xs:=out) (ys:=([e_ M 0]:List Int)) Ab ef C C C mm A5 lcn dc C<|λ_ _=>am) λai ah=>Z ?_
   refine Ba mixed<|Bx (vc 3 (.slice ak 1 1) (([e_ M 0]:List Int))::vk 3 ai ah (out++([e_ M 0]:List Int))::I) 6<|Z ?_
   refine Dr 1 C (Dn (α:=Int) (xs:=M) (l:=1) Ab ef C C om (A4 hA) om)<|Z ?_
   refine Dr 3 C (Dn (α:=Int) (xs:=aa) (l:=1) Ab ef C C om (A4 hB) om)<|Z ?_
   exact Bt (((N9 pa pc 1<|Enc.sz Int)),((pc - 1)),(List.drop 1 M),((N9 qa qc 1<|Enc.sz Int)),((qc - 1)),(List.drop 1 aa),(ai),(ah),(out++([e_ M 0]:List Int))) (by dsimp only;exact ⟨(Er hA om),(Er hB om),(bb0 ab),(bb0 ae),(by rw [ad,inter_eq ab om om om,Fr];rfl),tb4⟩) (hlt:=by (try dsimp only);exact (by simp only [Fx];omega))
  have hE:M0 xs ys=out:=by rw [ad,by4 om,Gq]
  exact Al C C (vk 3 oa oc (M0 xs ys)::I) (by unfold vk;rw [hE];exact Ai) ⟨oa,oc,by rw [hE],rfl⟩
 have hE:M0 xs ys=out:=by rw [ad,by4 om,Gq]
 exact Al C C (vk 3 oa oc (M0 xs ys)::I) (by unfold vk;rw [hE];exact Ai) ⟨oa,oc,by rw [hE],rfl⟩
end Go.Sl
