/- A part of the proofs of statements of this seat: contracts of functions, and the plain laws that they lean on. No conditions. -/
import Derived.Test.YtoagcglbkeomgaaGreatDoorE14
set_option linter.unusedVariables false
set_option linter.unusedSimpArgs false
set_option linter.unusedSectionVars false
open List (replicate)
set_option maxHeartbeats 2000000
namespace Go.Sl
open Go.Proofs
set_option maxRecDepth 4000
variable{lv n u x:Int}{k:Nat}{W:BitVec 64}{l m:List Int}{κ:Ctx}{A I:List Item}
section
variable {nd:Int}{es:List Pt}
theorem bs5(hG:s8 nd es)(h0:0<=u)(h1:u<nd):∃p∈bf6 nd es,p.1=u/\e_ (j9 nd es) u=(p.2:Int):=by
 have hl:=hG.rows.len
 have hS:=ak6 hG
 have M:=bm6 (rows:=ek nd es) (at1 ((ek nd es).length:Int)) 0
 have hm:u∈am6 (bf6 nd es):=(M.2 u).2 ((af7 hS.le).2 om)
 obtain ⟨p,hp,rfl⟩:=Gz.1 hm
 refine ⟨p,hp,rfl,?_⟩
 unfold j9
 rw [An (by rw [s4.2 hG];decide)]
 exact fm5 M.1 (λv hv=>by have:=(af7 hS.le).1 ((M.2 v).1 hv);omega) p hp
theorem bz1(M:s8 nd es)(hc:au0 (ek nd es) k W)(hs:ds3 nd W)(hu:u∈eo W):(k:Int)<=e_ (j9 nd es) u:=by
 have hl:=M.rows.len
 have hr:=M.rng
 have hS:=ak6 M
 obtain ⟨p,hp,e,h⟩:=bs5 M (Eo hu).1 (hs u hu)
 have:=cv0 hc (at1 ((ek nd es).length:Int)) 0 (λx hx=>(af7 hS.le).2 ⟨(Eo hx).1,by have:=hs x hx;omega⟩) p hp (by rw [e];exact hu)
 omega
theorem bz0(M:s8 nd es)(hk:1<=k):∃W,au0 (ek nd es) k W/\ds3 nd W/\∀u,0<=u->u<nd->(k:Int)<=e_ (j9 nd es) u->u∈eo W:=by
 have hl:=M.rows.len
 have hr:=M.rng
 have hS:=ak6 M
 obtain ⟨W,h1,h2,h3⟩:=cu9 (rows:=ek nd es) (at1 ((ek nd es).length:Int)) 0 k om
 refine ⟨W,h1,λx hx=>by have:=(af7 hS.le).1 (h2 x hx);omega,λu h0 h4 h5=>?_⟩
 obtain ⟨p,hp,e,h⟩:=bs5 M h0 h4
 have:=(h3 p hp).1 om
 rwa [e] at this
theorem T7(M:s8 nd es)(h0:0<=u)(h1:u<nd):0<=e_ (j9 nd es) u/\e_ (j9 nd es) u<nd:=by
 have hl:=M.rows.len
 have hr:=M.rng
 have hS:=ak6 M
 obtain ⟨p,hp,e,h⟩:=bs5 M h0 h1
 have:=bf7 (dz9 hS om) _ _ _ (Mt _) p hp
 omega
theorem as4(M:s8 nd es)(hW:∀x,x∈eo W↔x∈l)(h0:0<=u)(h1:u<nd):Q1 (ek nd es) W u=(Z7 (nbG nd es u) l).length:=by
 unfold Q1
 have hr:=M.rng
 refine ((Hr (Df _) ?_).2 λx=>?_).length_eq
 ·unfold Z7
  exact ((T0 _).imp λh=>by omega:(ofL<|nbG nd es u).Nodup).filter _
 rw [K2,T2,hW,M.rows.mem h0 h1]
 unfold nbG
 rw [An (by rw [s4.2 M];decide),af6,an7]
 refine and_congr_left λ_=>⟨λh=>h.2,λh=>⟨?_,h⟩⟩
 rcases h with h|h
 ·have:=M.aa9 _ h;simp only at this;omega
 have:=M.aa9 _ h;simp only at this;omega
theorem ai8(hn:n<=64)(h:∀x∈l,0<=x/\x<n)(x:Int):x∈eo (bd5 l)↔x∈l:=by
 rw [D1]
 constructor
 ·rintro ⟨h0,M⟩
  have hlt:=BitVec.lt_of_getLsbD M
  rw [ca1 hlt,H1 h0] at M
  exact M
 intro hx
 have:=h x hx
 refine ⟨this.1,(ca1 om).2 ?_⟩
 rw [H1 this.1];exact hx
theorem dk6(hG:s8 nd es)(ah:l.Pairwise (λx0 x1:Int=>x0<x1))(M:∀x∈l,0<=x/\x<nd)(aj:∀x∈l,lv<=((Z7 (nbG nd es x) l).length:Int))(ai:∀W:BitVec 64,au0 (ek nd es) lv.toNat W->ds3 nd W->∀u∈eo W,u∈l):l=U8 nd es lv:=by
 have hr:=hG.rng
 have hl:=hG.rows.len
 have ak:((j9 nd es).length:Int)=nd:=by
  unfold j9
  rw [An (by rw [s4.2 hG];decide),as7];omega
 have hW:=ai8 hr.2 M
 have aa:(U8 nd es lv).Pairwise (λx0 x1:Int=>x0<x1):=by
  unfold U8
  exact (ae4.1<|bc3 _ _).2
 refine ar8.uniq ah aa λx=>?_
 rw [ai7]
 constructor
 ·intro hx
  have ab:=M x hx
  have hc:au0 (ek nd es) lv.toNat (bd5 l):=λu hu=>by
   have ad:=(hW u).1 hu
   have ae:=M u ad
   rw [as4 hG hW ae.1 ae.2]
   have:=aj u ad
   omega
  have:=bz1 hG hc (λu hu=>(M u<|(hW u).1 hu).2) ((hW x).2 hx)
  exact ⟨by omega,by omega⟩
 rintro ⟨ab,hx⟩
 by_cases h0:lv<=0
 ·refine ai (at1 nd) (λu hu=>by omega) (fp3 hr.1 hr.2) x (K1.2 ⟨ab.1,?_⟩)
  rw [af9 hr.1 hr.2 om,Gp];omega
 obtain ⟨W,h1,h2,h3⟩:=bz0 hG (k:=lv.toNat) om
 exact ai W h1 h2 x<|h3 x ab.1 om om
theorem dk8(hG:s8 nd es)(M:∀y∈m,0<=y/\y<nd)(ab:∀W:BitVec 64,au0 (ek nd es) lv.toNat W->ds3 nd W->∀u∈eo W,u∈m)(hx:x∈m)(hlt:((Z7 (nbG nd es x) m).length:Int)<lv):∀W:BitVec 64,au0 (ek nd es) lv.toNat W->ds3 nd W->∀u∈eo W,u∈V7 m [x]:=λW h1 h2 u hu=>by
 have hr:=hG.rng
 have ad:=ab W h1 h2 u hu
 rw [show u∈V7 m [x]↔u∈m/\u∉[x] by simp [V7,af6]]
 refine ⟨ad,λe=>?_⟩
 rw [Ge] at e
 subst e
 have aa:=M u hx
 have h3:=h1 u hu
 have h4:=bf3 (rows:=ek nd es) (W:=W) (L:=bd5 m) (λy hy=>(ai8 hr.2 M y).2 (ab W h1 h2 y hy)) u
 rw [as4 hG (ai8 hr.2 M) aa.1 aa.2] at h4
 omega
end
theorem Fit.vcR{R:List Item}{x:Item}:Fit κ (A++((x::R)++I)) (x::(A++I)):=
 A7 (Cj Md) (C1<|List.Sublist.cons_cons _<|List.Sublist.append_left (Gn R I) A)
theorem Fit.gi5{x:Item}:Fit κ (x::(A++I)) (A++([x]++I)):=Cj Md.symm
theorem an8:u∈V7 m [x]↔u∈m/\u≠x:=by simp [V7,af6]
theorem ca2(h:l.Pairwise (λx0 x1:Int=>x0<x1))(hr:∀x∈l,0<=x/\x<64):l.length<=64:=by
 have hs:∀x∈l,x∈(List.range 64).map fun (i:Nat)=>(i:Int):=λx M=>by
  have:=hr x M
  exact Gz.2 ⟨x.toNat,Ja.2 om,by omega⟩
 have:=Ho (h.imp λh=>by omega:l.Nodup) hs
 rwa [Gc,J_] at this
theorem dn3(h:l.Pairwise (λx0 x1:Int=>x0<x1)){i j:Nat}(hi:i<l.length)(M:j<l.length)(e:e_ l i=e_ l j):i=j:=by
 rw [Cs _ i hi,Cs _ j M] at e
 rcases Kq i j with h1|h1|h1
 ·have:=(Ha.1 h) i j hi M h1;omega
 ·exact h1
 have:=(Ha.1 h) j i M hi h1;omega
theorem df8(h:m.Pairwise (λx0 x1:Int=>x0<x1))(hx:x∈m):(V7 m [x]).length+1=m.length:=by
 have hn:(V7 m [x]).Nodup:=((T0 m).imp λh=>by omega:(ofL m).Nodup).filter _
 have M:m.Perm (x::V7 m [x]):=(Hr (h.imp λh=>by omega)<|Hz.2 ⟨λe=>(an8.1 e).2 rfl,hn⟩).2 λu=>by
  rw [Fy,an8]
  by_cases e:u=x
  ·subst e;simp [hx]
  simp [e]
 have:=M.length_eq
 rw [E_] at this;omega
theorem bc7(hr:0<=n/\n<=64):aj7 (R8 n) n:=by
 refine ae4.2 ⟨λx M=>by have:=bk7.1 M;omega,?_⟩
 unfold R8
 refine Mx _ (λa b h=>?_)<|List.pairwise_lt_range (n:=(min n 64).toNat)
 omega
theorem dr1{nd:Int}{va:Value}{es:List Pt}(hl:Sl κ I va es)(hG:s8 nd es)(hb:es.length<=1000000):eu Tryz.prog κ 52 [.agg #[e7 nd,va],e7 lv] I (λr J=>∃a c,r = .slice a (U8 nd es lv).length c/\J=vk 3 a c (U8 nd es lv)::I):=by
 have hr:=hG.rng
 refine Ce2 Tryz.func52 C C ?_
 refine Am<|Ge1 (Au (cs:=[_,_]) C C C) λb1=>Ga C<|Ar<|Am<|Gf ag1 C<|Gl ef ?_
 refine Gc2 (Ac c_ C C<|fe0 nd) λax aq=>?_
 refine Ga C<|Ar<|Ay<|Am<|Ga C<|Ar<|A8<|B9 (σ:=(Option Addr)×Nat×(List Int)×Bool) (λs=>([(1,e7 lv),(2,pt b1),(5,.slice s.1 s.2.2.1.length s.2.1),(6,.bool<|s.2.2.2)]:Env)) (λs=>vk 3 s.1 s.2.1 s.2.2.1::e8 b1 [e7 nd,va] 38::I) (λs=>(s.2.2.1.Pairwise (λx0 x1:Int=>x0<x1))/\(∀x∈s.2.2.1,0<=x/\x<nd)/\(∀W:BitVec 64,au0 (ek nd es) lv.toNat W->ds3 nd W->∀u∈eo W,u∈s.2.2.1)/\(s.2.2.2=false->∀x∈s.2.2.1,lv<=((Z7 (nbG nd es x) s.2.2.1).length:Int))) (λs=>(2*s.2.2.1.length+s.2.2.2.toNat)) (ax,aq,R8 nd,true) (show ((R8 nd:List Int).Pairwise (λx0 x1:Int=>x0<x1))/\(∀x∈(R8 nd:List Int),0<=x/\x<nd)/\(∀W:BitVec 64,au0 (ek nd es) lv.toNat W->ds3 nd W->∀u∈eo W,u∈(R8 nd:List Int))/\((true:Bool)=false->∀x∈(R8 nd:List Int),lv<=((Z7 (nbG nd es x) (R8 nd:List Int)).length:Int)) from ⟨(ae4.1<|bc7 hr).2,(ae4.1<|bc7 hr).1,(λW h1 h2 u hu=>bk7.2<|by have:=h2 u hu;have:=Eo hu;omega),(λh=>by cases h)⟩) (cx2<|Aa (Db C<|by first|rfl|simp)<|Aa (Db C<|by first|rfl|simp) Bb) (show Fit κ _ (vk 3 ax aq (R8 nd)::e8 b1 [e7 nd,va] 38::I) from Az) ?_
 rintro ⟨a,c,l,ag⟩ hp
 dsimp only at hp ⊢
 obtain ⟨ab,ad,az,a4⟩:=hp
 have a9:l.length<=64:=ca2 ab (λx hx=>by have:=ad x hx;omega)
 refine Ay<|Am<|Gm C<|Ar<|Dq C (λc12=>?_)<|λc12=>?_
 ·refine Bc (Ao<|A8<|Am<|Ga C<|Ar<|Am<|Gm C<|Gr (Bl Ab C)<|Gm C<|Ar<|A8<|B9 (σ:=Nat×(Option Addr)×Nat×(List Int)×Bool×(List Item)) (λs=>([(1,e7 lv),(2,pt b1),(5,.slice s.2.1 s.2.2.2.1.length s.2.2.1),(6,.bool<|s.2.2.2.2.1),(13,.slice a l.length c),(14,e7 ((l.length:Nat):Int)),(15,e7 ((s.1:Nat):Int))]:Env)) (λs=>e8 b1 [e7 nd,va] 38::(s.2.2.2.2.2++I)) (λs=>(s.1<=l.length)/\(Sl κ s.2.2.2.2.2 (.slice a l.length c) l)/\(∃R,s.2.2.2.2.2=vk 3 s.2.1 s.2.2.1 s.2.2.2.1::R)/\(s.2.2.2.1.Pairwise (λx0 x1:Int=>x0<x1))/\(∀x∈s.2.2.2.1,x∈l)/\(∀W:BitVec 64,au0 (ek nd es) lv.toNat W->ds3 nd W->∀u∈eo W,u∈s.2.2.2.1)/\(s.2.2.2.2.1=false->s.2.2.2.1=l/\∀i:Nat,i<s.1->lv<=((Z7 (nbG nd es<|e_ l i) l).length:Int))/\(∀i:Nat,s.1<=i->i<l.length->e_ l i∈s.2.2.2.1)/\(s.2.2.2.1.length+s.2.2.2.2.1.toNat<=l.length/\(s.2.2.2.2.1=true->s.2.2.2.1.length<l.length))) (λs=>(l.length - s.1)) (0,a,c,l,false,[vk 3 a c l]) (show ((0:Nat)<=l.length)/\(Sl κ ([vk 3 a c l]:List Item) (.slice a l.length c) l)/\(∃R,([vk 3 a c l]:List Item)=vk 3 (a:Option Addr) (c:Nat) (l:List Int)::R)/\((l:List Int).Pairwise (λx0 x1:Int=>x0<x1))/\(∀x∈(l:List Int),x∈l)/\(∀W:BitVec 64,au0 (ek nd es) lv.toNat W->ds3 nd W->∀u∈eo W,u∈(l:List Int))/\((false:Bool)=false->(l:List Int)=l/\∀i:Nat,i<(0:Nat)->lv<=((Z7 (nbG nd es<|e_ l i) l).length:Int))/\(∀i:Nat,(0:Nat)<=i->i<l.length->e_ l i∈(l:List Int))/\((l:List Int).length+(false:Bool).toNat<=l.length/\((false:Bool)=true->(l:List Int).length<l.length)) from ⟨om,(Cy A_),⟨[],rfl⟩,ab,(λx hx=>hx),az,(λ_=>⟨rfl,λi hi=>by omega⟩),(λi _ hi=>Bn om om),⟨by simp,λh=>by cases h⟩⟩) (cx2<|Aa (Db C<|by first|rfl|simp)<|Aa (Db C<|by first|rfl|simp)<|cx2<|Aa Cn Bb) (show Fit κ _ (e8 b1 [e7 nd,va] 38::(([vk 3 a c l])++I)) from (Fit.gi5 (A:=[e8 b1 [e7 nd,va] 38]))) ?_)
  rintro ⟨j,a2,c2,m,ai,Y2⟩ hp
  dsimp only at hp ⊢
  obtain ⟨hj,aj,ay,M,aa,ae,av,an,a8⟩:=hp
  have ba:m.length<=64:=ca2 M (λx hx=>by have:=ad x (aa x hx);omega)
  have aw:Sl κ Y2 (.slice a2 m.length c2) m:=by obtain ⟨R,rfl⟩:=ay;exact Cy A_
  refine Am<|Gr (Bj C C)<|Ar<|Ay<|Al C (λa6=>?_)<|λa6=>?_
  ·refine Bc (Ao<|Ay<|A8<|Am<|Gr (A2 (α:=Int) (xs:=l) Ab ef C C (Bd aj<|C1<|Ke (Hm _ I)<|Gn ([e8 b1 [e7 nd,va] 38]:List Item)<|Y2++I) om om)<|Gr (B8 (xs:=l) ef C (Bd aj<|C1<|Ke (Hm _ I)<|Gn ([e8 b1 [e7 nd,va] 38]:List Item)<|Y2++I) om om)<|Ga C ?_)
   have ap:=an j (Gg _) om
   refine Ar<|Am<|Gl2 J9 ?_
   refine Gm C<|G.e (Ac c_ C C<|ae5 (nd:=nd) (A4 hl) (e_ l j) om) ?_
   rintro _ _ ⟨_,_,⟨au,ar,rfl,rfl⟩,rfl,rfl⟩
   have a5:=K0 nd es (e_ l j)
   refine Gm C<|G.e (Ac c_ C C<|dq0 A5 (Bd aw<|C1<|Ke (Hm _ I)<|Gn ([vk 3 au ar (nbG nd es<|e_ l j),e8 b1 [e7 nd,va] 38]:List Item)<|Y2++I)<|by first|omega|(have:=K0 nd es (e_ l j);omega)) ?_
   rintro _ _ ⟨_,_,⟨a1,a7,rfl,rfl⟩,rfl,rfl⟩
   refine Gr (Bl Ab C)<|Gm C<|Gr (Bj C C)<|Ar<|A0 (S9 26 8 1 2 5 6 13 14 15)<|Al C (λak=>?_)<|λak=>?_
   ·refine Ba (Gm C<|Gm C<|Ge1 (B0 (α:=Int) (cs:=[_]) (xs:=[e_ l j]) Ab ef C C dc dc C C C C) λa3=>?_)
    refine G.e (Ac c_ C C<|cq4 (Bd aw<|C1<|Ke (Hm _ I)<|Gn ([vc 3 (.slice a3 1 1) (([e_ l j]:List Int)),vc 3 (.slice a1 (Z7 (nbG nd es<|e_ l j) m).length a7)<|Z7 (nbG nd es<|e_ l j) m,vc 3 (.slice au (nbG nd es<|e_ l j).length ar)<|nbG nd es<|e_ l j,e8 b1 [e7 nd,va] 38]:List Item)<|Y2++I) A5<|by first|omega|(have:=K0 nd es (e_ l j);omega)) ?_
    rintro _ _ ⟨_,_,⟨ao,ah,rfl,rfl⟩,rfl,rfl⟩
    exact Ga C<|Ga C<|Bs<|Av<|Ao<|A0 (S7 6 5 1 2 13 14 15)<|Ba<|Gr (Rad C C)<|Gm C<|Bs<|Bt ((j+1),(ao),(ah),(V7 m ([e_ l j]:List Int)),(true),((vk 3 ao ah (V7 m ([e_ l j]:List Int))::Y2))) (by dsimp only;exact ⟨om,(Bd aj<|Fb<|Dd _),⟨Y2,rfl⟩,((T0 m).sublist Hg),(λx hx=>aa x (an8.1 hx).1),(dk8 hG (λy hy=>ad y<|aa y hy) ae ap ak),(λh=>by cases h),(λi h1 h2=>an8.2 ⟨an i om h2,λe=>by have:=dn3 ab h2 (show j<l.length by omega) e;omega⟩),(by have:=df8 M ap;exact ⟨by simp;omega,λ_=>by omega⟩)⟩) (hI:=by (try dsimp only);exact (by first|exact Az|exact Ai))
   exact Bc<|Av<|Ao<|Ba<|Gr (Rad C C)<|Gm C<|Bs<|Bt ((j+1),(a2),(c2),(m),(ai),(Y2)) (by dsimp only;exact ⟨om,om,om,om,om,om,(λh=>by obtain ⟨e,h2⟩:=av h;refine ⟨e,λi hi=>?_⟩;by_cases e2:i=j;(· subst e2;rw [e] at ak;omega);(· exact h2 i om)),(λi h1 h2=>an i om h2),om⟩) (hI:=by (try dsimp only);exact (by first|exact Az|exact Ai))
  refine Ck<|Aw<|Aw<|Bi<|Av ?_
  obtain ⟨R,rfl⟩:=ay
  exact Bt ((a2),(c2),(m),(ai)) (by dsimp only;exact ⟨M,(λx hx=>ad x<|aa x hx),ae,(λh=>by obtain ⟨e,h2⟩:=av h;subst e;intro x hx;obtain ⟨i,hi,rfl⟩:=ar4 hx;exact h2 i om)⟩) (hlt:=by (try dsimp only);exact (by have a0:ag=true:=(by simpa using c12);subst a0;cases ai<;>simp at a8 ⊢ <;>omega)) (hI:=by (try dsimp only);exact (Fit.vcR (A:=[e8 b1 [e7 nd,va] 38])))
 refine Ck<|Aw<|Aw<|Bi<|Ao<|Am<|Gm C<|Ga C<|Ar<|B2 ?_
 have hE:l=U8 nd es lv:=dk6 hG ab ad (a4<|by simpa using c12) az
 subst hE
 exact Ak C C (vk 3 a c (U8 nd es lv)::I) Az ⟨a,c,rfl,rfl⟩
end Go.Sl
namespace Go.Sl
variable{w x y:Nat}
section
variable {n:Nat}{e e':Nat->Nat->Bool}{u v:Nat}
structure L4 (n:Nat) (e e':Nat->Nat->Bool) (u v:Nat):Prop where
 adj:fs5 n e
 lu:u<n
 lv:v<n
 ne:u≠v
 no:e u v=false
 is:∀x y,e' x y=(e x y||(decide (x=u/\y=v)||decide (x=v/\y=u)))
theorem dv0(k:Int):prs (k+1)=prs k+k:=by
 unfold prs
 have M:(k+1)*(k+1 - 1)=k*k+k:=by rw [Int.add_sub_cancel,Int.add_mul,Int.one_mul]
 have h2:k*(k - 1)=k*k - k:=by rw [Int.mul_sub,Mj]
 rw [M,h2];omega
theorem L4.oth(h:L4 n e e' u v)(hu:x≠u\/y≠v)(hv:x≠v\/y≠u):e' x y=e x y:=by
 rw [h.is,D_<|by omega,D_<|by omega,Bool.or_false,Bool.or_false]
theorem L4.uv(h:L4 n e e' u v):e' u v=true/\e' v u=true:=by
 constructor
 ·rw [h.is,As (show u=u/\v=v from ⟨rfl,rfl⟩)];simp
 rw [h.is,As (show v=v/\u=u from ⟨rfl,rfl⟩)];simp
theorem L4.no'(h:L4 n e e' u v):e v u=false:=by rw [h.adj.sym];exact h.no
theorem L4.swap(h:L4 n e e' u v):L4 n e e' v u:=⟨h.adj,h.lv,h.lu,h.ne.symm,h.no',λx y=>by rw [h.is,Bool.or_comm (decide _)]⟩
theorem L4.fp7(h:L4 n e e' u v):fs5 n e':=by
 refine ⟨λx y=>?_,λx=>?_⟩
 ·rw [h.is,h.is,h.adj.sym x y,Bool.or_comm<|decide<|x=u/\y=v]
  congr 2
  ·rw [Ft];omega
  rw [Ft];omega
 rw [h.is,h.adj.irr,D_<|by have:=h.ne;omega,D_<|by have:=h.ne;omega];rfl
theorem aw7(h:fs5 n e)(x y:Nat):coN n e x y=coN n e y x:=by
 unfold coN
 by_cases hq:x=y
 ·rw [B_ hq,B_ hq.symm]
 rw [An hq,An<|Mg hq]
 exact p4 n λz _=>by rw [Ll]
theorem L4.gg7(h:L4 n e e' u v)(M:y≠u)(h2:y≠v):coN n e' u y=coN n e u y+ind (e v y):=by
 unfold coN
 rw [An (Mg M),An (Mg M),ap9 h.lv (g:=λx=>ind (e u x&&e y x)) (h:=λx=>ind (e' u x&&e' y x)) λj _ hj=>by
  rw [h.oth (x:=u) (y:=j) (.inr hj) (.inl h.ne),h.oth (x:=y) (y:=j) (.inl M) (.inl h2)]]
 rw [h.uv.1,h.oth (x:=y) (y:=v) (.inl M)<|.inl h2,h.no,h.adj.sym y v,Kn,Jv,ar9]
 omega
theorem L4.gg6(h:L4 n e e' u v):coN n e' u v=coN n e u v:=by
 unfold coN
 rw [An h.ne,An h.ne]
 refine p4 n λz _=>?_
 by_cases hz:z=v
 ·subst hz;rw [h.fp7.irr,h.adj.irr];simp
 by_cases hz2:z=u
 ·subst hz2;rw [h.fp7.irr,h.adj.irr];simp
 rw [h.oth (x:=u) (y:=z) (.inr hz) (.inr hz2),h.oth (x:=v) (y:=z) (.inr hz)<|.inr hz2]
theorem L4.fz5(h:L4 n e e' u v)(x1:x≠u)(x2:x≠v)(y1:y≠u)(M:y≠v):coN n e' x y=coN n e x y:=by
 unfold coN
 by_cases hq:x=y
 ·rw [B_ hq,B_ hq]
 rw [An hq,An hq]
 exact p4 n λz _=>by rw [h.oth (x:=x) (y:=z) (.inl x1) (.inl x2),h.oth (x:=y) (y:=z) (.inl y1)<|.inl M]
theorem bp8(k:Int)(p:Bool):prs (k+ind p)=prs k+if p=true then k else 0:=by
 cases p with
 |true=>rw [cu0,dv0,B_ rfl]
 |false=>rw [ar9,Ka,An<|by decide,Ka]
def ovr(e:Nat->Nat->Bool)(u v a b:Nat):Bool:=e u a&&e v b&&e a b
theorem di0(p:Bool)(q:Nat->Bool):p7 n (λz=>ind (p&&q z))=if p=true then p7 n (λz=>ind (q z)) else 0:=by
 cases p with
 |true=>rw [B_ rfl];exact p4 n λz _=>by rw [Kn]
 |false=>rw [An (by decide)];exact R2 n λz _=>by rw [Jv];rfl
theorem L4.fh9(h:L4 n e e' u v):ai2 n e' u=ai2 n e u+p7 n λa=>p7 n λb=>ind (ovr e u v a b):=by
 have h1:p7 n (λa=>p7 n λb=>ind<|ovr e u v a b)=p7 n λy=>if e v y=true then coN n e u y else 0:=by
  rw [G5 n n λa b=>ind<|ovr e u v a b]
  refine p4 n λb _=>?_
  have:(λa=>ind<|ovr e u v a b)=λa=>ind (e v b&&(e u a&&e b a)):=funext λa=>by
   unfold ovr;rw [h.adj.sym a b];congr 1
   cases e u a<;>cases e v b<;>cases e b a<;>rfl
  rw [this,di0 (e v b) λa=>e u a&&e b a]
  by_cases hb:e v b=true
  ·have M:u≠b:=λq=>by rw [←q,h.no'] at hb;cases hb
   rw [B_ hb,B_ hb];unfold coN;rw [An M]
  rw [An hb,An hb]
 rw [h1]
 unfold ai2
 rw [←F8]
 refine p4 n λy _=>?_
 by_cases hu:y=u
 ·subst hu
  rw [An (by rw [h.no'];decide)]
  unfold coN;rw [B_ rfl,B_ rfl];omega
 by_cases hv:y=v
 ·subst hv;rw [h.gg6,h.adj.irr,An<|by decide,Ka]
 rw [h.gg7 hu hv,bp8]
theorem L4.fw2(h:L4 n e e' u v):ai2 n e' v=ai2 n e v+p7 n λa=>p7 n λb=>ind (ovr e u v a b):=by
 rw [h.swap.fh9,G5 n n λa b=>ind<|ovr e v u a b]
 congr 1
 refine p4 n λa _=>p4 n λb _=>?_
 unfold ovr
 rw [h.adj.sym b a,Ll<|e v b]
theorem L4.du6(h:L4 n e e' u v)(M:w≠u)(w2:w≠v):ai2 n e' w=ai2 n e w+p7 n (λb=>ind (ovr e u v w b))+p7 n λa=>ind (ovr e u v a w):=by
 have ha:p7 n (λb=>ind<|ovr e u v w b)=if e u w=true then coN n e w v else 0:=by
  have:(λb=>ind<|ovr e u v w b)=λb=>ind (e u w&&(e w b&&e v b)):=funext λb=>by
   unfold ovr;congr 1
   cases e u w<;>cases e v b<;>cases e w b<;>rfl
  rw [this,di0 (e u w) λb=>e w b&&e v b]
  unfold coN;rw [An w2]
 have hb:p7 n (λa=>ind<|ovr e u v a w)=if e v w=true then coN n e w u else 0:=by
  have:(λa=>ind<|ovr e u v a w)=λa=>ind (e v w&&(e w a&&e u a)):=funext λa=>by
   unfold ovr;rw [h.adj.sym a w];congr 1
   cases e u a<;>cases e v w<;>cases e w a<;>rfl
  rw [this,di0 (e v w) λa=>e w a&&e u a]
  unfold coN;rw [An M]
 rw [ha,hb]
 have h1:ai2 n e' w=p7 n λy=>prs (coN n e w y)+((if y=v then (if e u w=true then coN n e w v else 0) else 0)+(if y=u then (if e v w=true then coN n e w u else 0) else 0)):=by
  unfold ai2
  refine p4 n λy _=>?_
  by_cases hu:y=u
  ·subst hu
   rw [An h.ne,B_ rfl,aw7 h.fp7 w y,h.gg7 M w2,bp8,aw7 h.adj y w];omega
  by_cases hv:y=v
  ·subst hv
   rw [B_ rfl,An hu,aw7 h.fp7 w y,h.swap.gg7 w2 M,bp8,aw7 h.adj y w];omega
  rw [An hv,An hu,h.fz5 M w2 hu hv];omega
 rw [h1,F8,F8,R7 h.lv,R7 h.lu]
 unfold ai2
 omega
def occ(n:Nat)(e:Nat->Nat->Bool)(u v w:Nat):Int:=p7 n λa=>p7 n λb=>if ovr e u v a b=true then (((ind (decide (u=w))+ind (decide (v=w)))+ind (decide (a=w)))+ind (decide (b=w))) else 0
theorem L4.fs7(h:L4 n e e' u v)(hw:w<n):ai2 n e' w=ai2 n e w+occ n e u v w:=by
 have hp:∀a b,ovr e u v a b=true->a≠u/\a≠v/\b≠u/\b≠v:=λa b M=>by
  unfold ovr at M
  rw [He,He] at M
  obtain ⟨⟨h1,h2⟩,_⟩:=M
  exact ⟨λq=>(by rw [q,h.adj.irr] at h1;cases h1),λq=>(by rw [q,h.no] at h1;cases h1),λq=>(by rw [q,h.no'] at h2;cases h2),λq=>(by rw [q,h.adj.irr] at h2;cases h2)⟩
 by_cases w1:w=u
 ·subst w1
  rw [h.fh9]
  congr 1
  refine p4 n λa _=>p4 n λb _=>?_
  by_cases M:ovr e w v a b=true
  ·obtain ⟨q1,q2,q3,q4⟩:=hp a b M
   rw [B_ M,M,As rfl,D_ h.ne.symm,D_ q1,D_ q3];rfl
  rw [An M];unfold ind;rw [An M]
 by_cases w2:w=v
 ·subst w2
  rw [h.fw2]
  congr 1
  refine p4 n λa _=>p4 n λb _=>?_
  by_cases M:ovr e u w a b=true
  ·obtain ⟨q1,q2,q3,q4⟩:=hp a b M
   rw [B_ M,M,As rfl,D_ h.ne,D_ q2,D_ q4];rfl
  rw [An M];unfold ind;rw [An M]
 rw [h.du6 w1 w2,Int.add_assoc]
 congr 1
 have h1:occ n e u v w=p7 n (λa=>p7 n λb=>(if a=w then ind (ovr e u v a b) else 0)+(if b=w then ind (ovr e u v a b) else 0)):=by
  refine p4 n λa _=>p4 n λb _=>?_
  by_cases M:ovr e u v a b=true
  ·rw [B_ M,M,D_<|Mg w1,D_<|Mg w2,di1,di1,cu0,ar9];omega
  have h0:ind (ovr e u v a b)=0:=by unfold ind;rw [An M]
  rw [An M,h0];split<;>split<;>rfl
 rw [h1]
 have h2:∀a,p7 n (λb=>(if a=w then ind (ovr e u v a b) else 0)+(if b=w then ind (ovr e u v a b) else 0))=(if a=w then p7 n (λb=>ind<|ovr e u v w b) else 0)+ind (ovr e u v a w):=λa=>by
  rw [F8]
  congr 1
  ·by_cases ha:a=w
   ·subst ha;rw [B_ rfl];exact p4 n λb _=>B_ rfl
   rw [An ha];exact R2 n λb _=>An ha
  rw [←R7 hw (ind<|ovr e u v a w)]
  refine p4 n λb _=>?_
  by_cases hb:b=w
  ·subst hb;simp
  rw [An hb,An hb]
 rw [p4 n λa _=>h2 a,F8,R7 hw]
def gb8(n:Nat)(e:Nat->Nat->Bool)(u v:Nat):Int:=p7 n λa=>p7 n λb=>ind (ovr e u v a b)
theorem fm4(h:L4 n e e' u v):p7 n (occ n e u v)=4*gb8 n e u v:=by
 have h1:∀a,a<n->∀b,b<n->p7 n (λw=>if ovr e u v a b=true then (((ind (decide<|u=w)+ind (decide<|v=w))+ind (decide<|a=w))+ind (decide<|b=w)) else 0)=4*ind (ovr e u v a b):=λa ha b hb=>by
  have one:∀k,k<n->p7 n (λw=>ind<|decide<|k=w)=1:=λk hk=>by
   rw [←R7 hk 1]
   refine p4 n λw _=>?_
   rw [di1]
   by_cases q:w=k
   ·rw [B_ q.symm,B_ q]
   rw [An (Mg q),An q]
  by_cases hab:ovr e u v a b=true
  ·rw [p4 n λw _=>B_ hab,F8,F8,F8,one u h.lu,one v h.lv,one a ha,one b hb,hab];rfl
  rw [R2 n λw _=>An hab];unfold ind;rw [An hab];rfl
 have M:∀(m:Nat) (g:Nat->Int),p7 m (λk=>4*g k)=4*p7 m g:=λm g=>by
  induction m with
  |zero=>rfl
  |succ m ih=>
   show p7 m _+4*g m=4*(p7 m g+g m)
   rw [ih];omega
 unfold occ
 rw [G5 n n λw a=>p7 n λb=>if ovr e u v a b=true then (((ind (decide<|u=w)+ind (decide<|v=w))+ind (decide<|a=w))+ind (decide<|b=w)) else 0]
 rw [p4 n λa ha=>(G5 n n λw b=>if ovr e u v a b=true then (((ind (decide<|u=w)+ind (decide<|v=w))+ind (decide<|a=w))+ind (decide<|b=w)) else 0).trans ((p4 n λb hb=>h1 a ha b hb).trans (M n _))]
 rw [M];rfl
theorem L4.all(h:L4 n e e' u v):bw5 n e'=bw5 n e+gb8 n e u v:=by
 have h1:=bc8 h.fp7
 have h2:=bc8 h.adj
 have h3:=fm4 h
 rw [p4 n λw M=>h.fs7 M,F8] at h1
 omega
end
end Go.Sl
namespace Go.Sl
section
variable {n:Nat}{e e':Nat->Nat->Bool}{u v:Nat}
def cc5(n:Nat)(e:Nat->Nat->Bool)(w:Nat):Int:=p7 n λx=>p7 n λy=>ind (e x y&&(e w x&&e w y))
theorem cd4{p q:Nat}(M:p<n)(hq:q<n)(c d:Int)(g:Nat->Int):p7 n (λx=>g x+((if x=p then c else 0)+(if x=q then d else 0)))=p7 n g+(c+d):=by
 rw [F8,F8,R7 M,R7 hq]
theorem L4.fj6(h:L4 n e e' u v){w:Nat}(w1:w≠u)(w2:w≠v):cc5 n e' w=cc5 n e w+2*ind (e u w&&e v w):=by
 have aa:∀x,p7 n (λy=>ind<|e' x y&&(e' w x&&e' w y))=p7 n (λy=>ind<|e x y&&(e w x&&e w y))+((if x=u then ind (e u w&&e v w) else 0)+(if x=v then ind (e u w&&e v w) else 0)):=λx=>by
  have M:∀z,e' w z=e w z:=λz=>h.oth (.inl w1) (.inl w2)
  by_cases hx:x=u
  ·subst hx
   rw [B_ rfl,An h.ne,Ka,ap9 h.lv (g:=λy=>ind<|e x y&&(e w x&&e w y)) λj _ hj=>by rw [M,M,h.oth (.inr hj)<|.inl h.ne]]
   rw [M,M,h.uv.1,h.no,h.adj.sym x w,h.adj.sym v w,Kn,Jv,ar9];omega
  by_cases hv:x=v
  ·subst hv
   rw [An hx,B_ rfl,Mo,ap9 h.lu (g:=λy=>ind<|e x y&&(e w x&&e w y)) λj _ hj=>by rw [M,M,h.oth (.inl hx)<|.inr hj]]
   rw [M,M,h.uv.2,h.no',h.adj.sym x w,h.adj.sym u w,Kn,Jv,ar9,Ll];omega
  rw [An hx,An hv]
  rw [p4 n λy _=>by rw [M,M,h.oth (x:=x) (y:=y) (.inl hx)<|.inl hv]];omega
 unfold cc5
 rw [p4 n λx _=>aa x,cd4 h.lu h.lv];omega
theorem L4.fu8(h:L4 n e e' u v):cc5 n e' u=cc5 n e u+2*coN n e u v:=by
 have M:∀x y,ind (e' x y&&(e' u x&&e' u y))=ind (e x y&&(e u x&&e u y))+((if x=v then ind (e u y&&e v y) else 0)+(if y=v then ind (e u x&&e v x) else 0)):=λx y=>by
  by_cases hx:x=v
  ·subst hx
   rw [B_ rfl,h.uv.1,h.no]
   by_cases hy:y=x
   ·subst hy;rw [h.fp7.irr,h.adj.irr,h.no];simp [ind]
   rw [An hy]
   by_cases hu:y=u
   ·subst hu;rw [h.fp7.irr,h.adj.irr];simp [ind]
   rw [h.oth (x:=x) (y:=y) (.inl h.ne.symm) (.inr hu),h.oth (x:=u) (y:=y) (.inr hy)<|.inl h.ne,Kn,Jv,L_,ar9,Ll];omega
  rw [An hx,h.oth (x:=u) (y:=x) (.inr hx)<|.inl h.ne]
  by_cases hy:y=v
  ·subst hy
   rw [B_ rfl,h.uv.1,h.no]
   by_cases hu:x=u
   ·subst hu;rw [h.adj.irr];simp [ind]
   rw [h.oth (x:=x) (y:=y) (.inl hu) (.inl hx),h.adj.sym x y,Bool.and_true,L_,L_,ar9,Ll];omega
  rw [An hy,h.oth (x:=u) (y:=y) (.inr hy)<|.inl h.ne,h.oth (x:=x) (y:=y) (.inr hy)<|.inl hx];omega
 unfold cc5
 rw [p4 n λx _=>p4 n λy _=>M x y]
 have h2:∀x,p7 n (λy=>ind (e x y&&(e u x&&e u y))+((if x=v then ind (e u y&&e v y) else 0)+(if y=v then ind (e u x&&e v x) else 0)))=p7 n (λy=>ind<|e x y&&(e u x&&e u y))+((if x=v then coN n e u v else 0)+ind (e u x&&e v x)):=λx=>by
  rw [F8,F8,R7 h.lv]
  congr 2
  by_cases hx:x=v
  ·rw [B_ hx];unfold coN;rw [An h.ne];exact p4 n λy _=>B_ hx
  rw [An hx];exact R2 n λy _=>An hx
 rw [p4 n λx _=>h2 x,F8,F8,R7 h.lv]
 have h3:p7 n (λx=>ind<|e u x&&e v x)=coN n e u v:=by unfold coN;rw [An h.ne]
 rw [h3];omega
theorem L4.gc9(h:L4 n e e' u v):cc5 n e' v=cc5 n e v+2*coN n e u v:=by rw [h.swap.fu8,aw7 h.adj]
theorem L4.tri(h:L4 n e e' u v)(w:Nat):cc5 n e' w=cc5 n e w+2*ind (e u w&&e v w)+((if w=u then 2*coN n e u v else 0)+(if w=v then 2*coN n e u v else 0)):=by
 by_cases w1:w=u
 ·subst w1;rw [h.fu8,B_ rfl,An h.ne,h.adj.irr,Jv,ar9];omega
 by_cases w2:w=v
 ·subst w2;rw [h.gc9,An w1,B_ rfl,h.adj.irr,L_,ar9];omega
 rw [h.fj6 w1 w2,An w1,An w2];omega
theorem db9(m:Nat)(g:Nat->Int):p7 m (λk=>2*g k)=2*p7 m g:=by
 induction m with
 |zero=>rfl
 |succ m ih=>show p7 m _+2*g m=2*(p7 m g+g m);rw [ih];omega
theorem L4.fj9(h:L4 n e e' u v):p7 n (cc5 n e')=p7 n (cc5 n e)+6*coN n e u v:=by
 rw [p4 n λw _=>h.tri w,cd4 h.lu h.lv,F8,db9]
 have M:p7 n (λx=>ind<|e u x&&e v x)=coN n e u v:=by unfold coN;rw [An h.ne]
 rw [M];omega
def dz6(n:Nat)(e:Nat->Nat->Bool)(v:Nat):Int:=p7 n λx=>ind (e v x)
theorem L4.deg(h:L4 n e e' u v)(w:Nat):dz6 n e' w=dz6 n e w+ind (decide (w=u)||decide (w=v)):=by
 unfold dz6
 by_cases hu:w=u
 ·subst hu
  rw [As rfl,Bool.true_or,cu0,ap9 h.lv (g:=λx=>ind<|e w x) λj _ M=>by rw [h.oth (.inr M) (.inl h.ne)],h.uv.1,h.no];rfl
 by_cases hv:w=v
 ·subst hv
  rw [As rfl,Bool.or_true,cu0,ap9 h.lu (g:=λx=>ind<|e w x) λj _ M=>by rw [h.oth (.inl hu) (.inr M)],h.uv.2,h.no'];rfl
 rw [D_ hu,D_ hv,Bool.or_false,ar9,Ka]
 exact p4 n λx _=>by rw [h.oth (.inl hu) (.inl hv)]
theorem L4.ft7(h:L4 n e e' u v):p7 n (λw=>prs (dz6 n e' w))=p7 n (λw=>prs (dz6 n e w))+(dz6 n e u+dz6 n e v):=by
 rw [←cd4 h.lu h.lv]
 refine p4 n λw _=>?_
 rw [h.deg,bp8]
 by_cases hu:w=u
 ·subst hu;rw [B_ rfl,An h.ne,As rfl,Bool.true_or,B_ rfl];omega
 by_cases hv:w=v
 ·subst hv;rw [An hu,B_ rfl,As rfl,Bool.or_true,B_ rfl];omega
 rw [An hu,An hv,D_ hu,D_ hv,Bool.or_false,An<|by decide];omega
end
end Go.Sl
namespace Go.Sl
open Go.Proofs
set_option maxRecDepth 4000
variable{x y:Int}
section
variable {nd:Int}{es es':List Pt}{u v:Int}
theorem ag8(M:s8 nd es):y∈nbG nd es x↔(⟨x,y⟩:Pt)∈es\/(⟨y,x⟩:Pt)∈es:=by
 unfold nbG
 rw [An (by rw [s4.2 M];decide),af6,an7]
theorem df7(nd:Int)(es:List Pt)(x:Int):(nbG nd es x).Pairwise (λx0 M:Int=>x0<M):=by
 rw [←ct1];exact ae0 _
theorem ab9(nd:Int)(es:List Pt)(x:Int):(nbG nd es x).Nodup:=(df7 nd es x).imp λh=>by omega
theorem N3(M:s8 nd es)(h:y∈nbG nd es x):(0<=x/\x<nd)/\(0<=y/\y<nd)/\x≠y:=by
 rcases (ag8 M).1 h with h|h
 ·have:=M.aa9 _ h;simp only at this;omega
 have:=M.aa9 _ h;simp only at this;omega
theorem ai4(M:s8 nd es)(h:y∈nbG nd es x):x∈nbG nd es y:=(ag8 M).2 ((ag8 M).1 h).symm
structure R6 (nd:Int) (es es':List Pt) (u v:Int):Prop where
 ok:s8 nd es
 ok':s8 nd es'
 ends:F5 nd u v
 no:j4 u v∉es
 mem:∀p,p∈es'↔p∈es\/p=j4 u v
theorem R6.add(hG:s8 nd es)(M:F5 nd u v)(hn:j4 u v∉es):R6 nd es (z8 Pt.lt es (j4 u v)) u v:=⟨hG,hG.add M,M,hn,λp=>by rw [ar3];exact Or.comm⟩
theorem R6.rem(M:s8 nd es)(he:F5 nd u v)(hm:j4 u v∈es):R6 nd (j6 es (j4 u v)) es u v:=by
 refine ⟨M.rem,M,he,λh=>?_,λp=>?_⟩
 ·unfold j6 at h
  exact Fs (Gj.1 h).2 rfl
 unfold j6
 rw [Gj,Gp]
 constructor
 ·intro h
  by_cases e:p=j4 u v
  ·exact .inr e
  exact .inl ⟨h,e⟩
 rintro (h|h)
 ·exact h.1
 rw [h];exact hm
theorem dk0{nd:Int}(M:F5 nd u v)(x y:Int):((⟨x,y⟩:Pt)=j4 u v\/(⟨y,x⟩:Pt)=j4 u v)↔(x=u/\y=v)\/(x=v/\y=u):=by
 rcases co5 M with ⟨h,_⟩|⟨h,_⟩
 ·rw [h,Dc,Dc];simp only;omega
 rw [h,Dc,Dc];simp only;omega
theorem R6.nb(h:R6 nd es es' u v)(x y:Int):y∈nbG nd es' x↔y∈nbG nd es x\/(x=u/\y=v)\/(x=v/\y=u):=by
 rw [ag8 h.ok',ag8 h.ok,h.mem,h.mem,←dk0 h.ends]
 constructor
 ·rintro ((a|b)|(a|b))
  ·exact .inl<|.inl a
  ·exact .inr<|.inl b
  ·exact .inl<|.inr a
  exact .inr<|.inr b
 rintro ((a|a)|(b|b))
 ·exact .inl<|.inl a
 ·exact .inr<|.inl a
 ·exact .inl<|.inr b
 exact .inr<|.inr b
theorem R6.nuv(h:R6 nd es es' u v):v∉nbG nd es u/\u∉nbG nd es v:=by
 have M:∀a b:Int,((⟨a,b⟩:Pt)∈es\/(⟨b,a⟩:Pt)∈es)->j4 a b∈es:=λa b hh=>by
  rcases hh with hh|hh
  ·have:=h.ok.aa9 _ hh
   simp only at this
   unfold j4
   rw [An om,B_ om];exact hh
  have:=h.ok.aa9 _ hh
  simp only at this
  unfold j4
  rw [B_ om,An om];exact hh
 exact ⟨λhm=>h.no<|M _ _<|(ag8 h.ok).1 hm,λhm=>h.no<|by rw [cu3];exact M _ _<|(ag8 h.ok).1 hm⟩
def p8(nd x:Int):Prop:=0<=x/\x<nd
theorem R6.more(h:R6 nd es es' u v):bj2 (p8 nd) (nbG nd es) (nbG nd es') u v:=by
 have M:=h.ends
 unfold F5 at M
 exact dw5 ⟨M.1,M.2.2.1⟩ ⟨M.2.1,M.2.2.2.1⟩ M.2.2.2.2 (ab9 nd es) (ab9 nd es') h.nuv.1 h.nuv.2 h.nb
theorem bf8(M:s8 nd es)(l:List Int)(x:Int):ap0 (nbG nd es) (λy=>decide (y∈l)) x=(Z7 (nbG nd es x) l).length:=by
 unfold ap0
 refine ((Hr ((ab9 nd es x).filter _) ?_).2 λy=>?_).length_eq
 ·unfold Z7;exact ((T0 _).imp λh=>by omega:(ofL<|nbG nd es x).Nodup).filter _
 rw [T2,Gj,Gp]
theorem as6(hG:s8 nd es):ae6 (p8 nd) (nbG nd es) λx=>(e_ (j9 nd es) x).toNat:=by
 intro x hx k
 have hr:=hG.rng
 show k<=(e_ (j9 nd es) x).toNat↔_
 constructor
 ·intro hk
  by_cases h0:k=0
  ·subst h0
   exact ⟨λy=> @decide (p8 nd y) (Classical.propDecidable _),⟨λy M=> @Fs _ (Classical.propDecidable _) M,λ_ _=>Mt _⟩, @As _ (Classical.propDecidable _) hx⟩
  obtain ⟨W,h1,h2,h3⟩:=bz0 hG (k:=k) om
  refine ⟨λy=>decide<|y∈eo W,⟨λy M=>?_,λy M=>?_⟩,As<|h3 x hx.1 hx.2 om⟩
  ·have M:=Fs M;exact ⟨(Eo M).1,h2 y M⟩
  have M:=Fs M
  rw [bf8 hG,←as4 hG (W:=W) (λz=>Iff.rfl) (Eo M).1 (h2 y M)]
  exact h1 y M
 rintro ⟨X,hX,ad⟩
 have hm:∀y,y∈ae9 nd.toNat X↔X y=true:=λy=>by
  rw [ai5]
  exact ⟨λh=>h.2,λh=>⟨by have:=hX.dom y h;unfold p8 at this;omega,h⟩⟩
 have hl:=ai8 hr.2 (l:=ae9 nd.toNat X) λy M=>by have:=hX.dom y ((hm y).1 M);unfold p8 at this;exact this
 have hc:au0 (ek nd es) k (bd5<|ae9 nd.toNat X):=λy M=>by
  have aa:=(hm y).1 ((hl y).1 M)
  have ab:=hX.dom y aa
  rw [as4 hG hl ab.1 ab.2,←bf8 hG]
  refine Hc (hX.deg y aa)<|M7 λz _ hz=>As<|(hm z).2 hz
 have:=bz1 hG hc (λy M=>(hX.dom y<|(hm y).1 ((hl y).1 M)).2) ((hl x).2 ((hm x).2 ad))
 omega
theorem ae6.uniq{V:Int->Prop}{nb:Int->List Int}{n m:Int->Nat}(h:ae6 V nb n)(h':ae6 V nb m)(M:V x):n x=m x:=
 Nat.le_antisymm ((h' x M _).2 ((h x M _).1 (Gg _))) ((h x M _).2 ((h' x M _).1 (Gg _)))
end
theorem ak8{a b:BitVec 64}{u:Int}:u∈eo (a ||| b)↔u∈eo a\/u∈eo b:=by
 simp only [D1,Le,Kk]
 constructor
 ·rintro ⟨M,h2|h2⟩
  ·exact .inl ⟨M,h2⟩
  exact .inr ⟨M,h2⟩
 rintro (⟨M,h2⟩|⟨M,h2⟩)
 ·exact ⟨M,.inl h2⟩
 exact ⟨M,.inr h2⟩
section
variable {nd:Int}{es es':List Pt}{u v k:Int}{F S A:BitVec 64}
theorem ba5(hG:s8 nd es){W:BitVec 64}(M:p8 nd x):Q1 (ek nd es) W x=ap0 (nbG nd es) (λy=>decide (y∈eo W)) x:=by
 rw [bf8 hG,as4 hG (W:=W) (λz=>Iff.rfl) M.1 M.2]
structure ft6 (rows:List (BitVec 64)) (F A:BitVec 64) (k:Int) (S:BitVec 64):Prop where
 sub:∀x∈eo S,x∈eo F
 deg:∀x∈eo S,k<=((Q1 rows (S ||| A) x:Nat):Int)
 most:∀T:BitVec 64,(∀x∈eo T,x∈eo F)->(∀x∈eo T,k<=((Q1 rows (T ||| A) x:Nat):Int))->∀x∈eo T,x∈eo S
structure gk1 (nd:Int) (es:List Pt) (N:List Int) (u v k:Int) (F:BitVec 64):Prop where
 lev:∀x∈eo F,p8 nd x/\e_ N x=k
 hu:e_ N u=k->u∈eo F
 hv:e_ N v=k->v∈eo F
 cl:∀x∈eo F,∀y∈nbG nd es x,e_ N y=k->y∈eo F
theorem fy1(hG:s8 nd es){T:Int->Bool}(M:∀x,T x=true->p8 nd x)(x:Int):x∈eo (bd5 (ae9 nd.toNat T))↔T x=true:=by
 have hr:=hG.rng
 rw [ai8 hr.2 (l:=ae9 nd.toNat T) (λy hy=>M y (ai5.1 hy).2),ai5]
 exact ⟨λh=>h.2,λh=>⟨by have:=M x h;unfold p8 at this;omega,h⟩⟩
theorem cu8(h:R6 nd es es' u v)(hk:k=min (e_ (j9 nd es) u) (e_ (j9 nd es) v))(hF:gk1 nd es' (j9 nd es) u v k F)(hA:∀x,x∈eo A↔p8 nd x/\k<e_ (j9 nd es) x)(hS:ft6 (ek nd es') F A (k+1) S)
  {x:Int} (hx:p8 nd x):e_ (j9 nd es') x=e_ (j9 nd es) x+if x∈eo S then 1 else 0:=by
 have he:=h.ends
 unfold F5 at he
 have hp:=λy (M:p8 nd y)=>T7 h.ok M.1 M.2
 have ad:=λy (M:p8 nd y)=>T7 h.ok' M.1 M.2
 have hu:p8 nd u:=⟨he.1,he.2.2.1⟩
 have hv:p8 nd v:=⟨he.2.1,he.2.2.2.1⟩
 have pu:=hp u hu
 have pv:=hp v hv
 have hX:∀(T:BitVec 64) y,(decide (y∈eo T)||upN (p8 nd) (λx=>(e_ (j9 nd es) x).toNat) (k.toNat+1) y)=decide (y∈eo (T ||| A)):=λT y=>by
  rw [Kb,av5,P9,Gq,Gq,ak8,hA]
  constructor
  ·rintro (h1|⟨h1,h2⟩)
   ·exact .inl h1
   exact .inr ⟨h1,by omega⟩
  rintro (h1|⟨h1,h2⟩)
  ·exact .inl h1
  exact .inr ⟨h1,by have:=hp y h1;omega⟩
 have hc:=fa1 (as6 h.ok) h.more (λa b ha hb ae=>ai4 h.ok' ae) (k:=k.toNat) om (R:=λy=>decide<|y∈eo F) (S:=λy=>decide<|y∈eo S)
  (λy M=>by have:=hF.lev y (Fs M);exact ⟨this.1,by omega⟩) (λe=>As<|hF.hu om) (λe=>As<|hF.hv om)
  (λy z M hz ai ak=>As<|hF.cl y (Fs M) z hz<|by have:=hp z ai;omega)
  (λy M=>As<|hS.sub y<|Fs M)
  (λy M=>by
   have M:=Fs M
   have ah:=(hF.lev y<|hS.sub y M).1
   simp only [hX]
   rw [←ba5 h.ok' ah]
   have:=hS.deg y M;omega)
  (λT ab aj y M=>by
   have aa:∀z,T z=true->p8 nd z:=λz hz=>(hF.lev z<|Fs<|ab z hz).1
   have hm:=fy1 h.ok' aa
   refine As<|hS.most (bd5<|ae9 nd.toNat T) (λz hz=>Fs<|ab z<|(hm z).1 hz) (λz hz=>?_) y<|(hm y).2 M
   have hz:=(hm z).1 hz
   rw [ba5 h.ok' (aa z hz)]
   have h3:=aj z hz
   have h4:(λy=>T y||upN (p8 nd) (λx=>(e_ (j9 nd es) x).toNat) (k.toNat+1) y)=λy=>decide (y∈eo (bd5 (ae9 nd.toNat T) ||| A)):=funext λy=>by
    rw [←hX];congr 1
    rw [Kb,Gq];exact (hm y).symm
   rw [h4] at h3;omega)
 have h1:(e_ (j9 nd es') x).toNat=(e_ (j9 nd es) x).toNat+if decide (x∈eo S)=true then 1 else 0:=(as6 h.ok').uniq hc hx
 have h2:=hp x hx
 have h3:=ad x hx
 by_cases hs:x∈eo S
 ·rw [B_ (As hs)] at h1;rw [B_ hs];omega
 rw [An (λq=>hs<|Fs q)] at h1;rw [An hs];omega
theorem dk7(h:R6 nd es es' u v)(hk:k=min (e_ (j9 nd es') u) (e_ (j9 nd es') v))(hF:gk1 nd es' (j9 nd es') u v k F)(hA:∀x,x∈eo A↔p8 nd x/\k<=e_ (j9 nd es') x/\x∉eo F)(hS:ft6 (ek nd es) F A k S)
  {x:Int} (hx:p8 nd x):e_ (j9 nd es) x=e_ (j9 nd es') x - if x∈eo F/\x∉eo S then 1 else 0:=by
 have he:=h.ends
 unfold F5 at he
 have hp:=λy (M:p8 nd y)=>T7 h.ok M.1 M.2
 have aa:=λy (M:p8 nd y)=>T7 h.ok' M.1 M.2
 have hu:p8 nd u:=⟨he.1,he.2.2.1⟩
 have hv:p8 nd v:=⟨he.2.1,he.2.2.2.1⟩
 have pu:=aa u hu
 have pv:=aa v hv
 have hX:∀(T:BitVec 64) y,(decide (y∈eo T)||(upN (p8 nd) (λx=>(e_ (j9 nd es') x).toNat) k.toNat y && !decide (y∈eo F)))=decide (y∈eo (T ||| A)):=λT y=>by
  rw [Kb,av5,L7,P9,Gq,Gq,ak8,hA,Kj,Ln]
  constructor
  ·rintro (h1|⟨⟨h1,h2⟩,h3⟩)
   ·exact .inl h1
   exact .inr ⟨h1,by have:=aa y h1;omega,h3⟩
  rintro (h1|⟨h1,h2,h3⟩)
  ·exact .inl h1
  exact .inr ⟨⟨h1,by have:=aa y h1;omega⟩,h3⟩
 have ak:=h.more.pos (as6 h.ok')
 have hc:=fa2 (as6 h.ok') h.more (λa b ha hb ae=>ai4 h.ok' ae) (k:=k.toNat) om (R:=λy=>decide<|y∈eo F) (S:=λy=>decide<|y∈eo S)
  (λy M=>by have:=hF.lev y (Fs M);exact ⟨this.1,by omega⟩) (λe=>As<|hF.hu om) (λe=>As<|hF.hv om)
  (λy z M hz ai an=>As<|hF.cl y (Fs M) z hz<|by have:=aa z ai;omega)
  (λy M=>As<|hS.sub y<|Fs M)
  (λy M=>by
   have M:=Fs M
   have ah:=(hF.lev y<|hS.sub y M).1
   simp only [hX]
   rw [←ba5 h.ok ah]
   have:=hS.deg y M;omega)
  (λT ad aj y M=>by
   have ab:∀z,T z=true->p8 nd z:=λz hz=>(hF.lev z<|Fs<|ad z hz).1
   have hm:=fy1 h.ok ab
   refine As<|hS.most (bd5<|ae9 nd.toNat T) (λz hz=>Fs<|ad z<|(hm z).1 hz) (λz hz=>?_) y<|(hm y).2 M
   have hz:=(hm z).1 hz
   rw [ba5 h.ok (ab z hz)]
   have h3:=aj z hz
   have h4:(λy=>T y||(upN (p8 nd) (λx=>(e_ (j9 nd es') x).toNat) k.toNat y && !decide (y∈eo F)))=λy=>decide (y∈eo (bd5 (ae9 nd.toNat T) ||| A)):=funext λy=>by
    rw [←hX];congr 1
    rw [Kb,Gq];exact (hm y).symm
   rw [h4] at h3;omega)
 have h1:(e_ (j9 nd es) x).toNat=(e_ (j9 nd es') x).toNat - if decide (x∈eo F)=true/\decide (x∈eo S)≠true then 1 else 0:=(as6 h.ok).uniq hc hx
 have h2:=hp x hx
 have h3:=aa x hx
 by_cases hs:x∈eo F/\x∉eo S
 ·have hl:=(hF.lev x hs.1).2
  rw [B_ ⟨As hs.1,λq=>hs.2<|Fs q⟩] at h1;rw [B_ hs];omega
 rw [An (λq=>hs ⟨Fs q.1,λq2=>q.2<|As q2⟩)] at h1;rw [An hs];omega
end
end Go.Sl
namespace Go.Sl
end Go.Sl
namespace Go.Sl
open Go.Proofs
set_option maxRecDepth 4000
variable{l:List Int}{nd v:Int}{k:Nat}{es:List Pt}{va:Value}
variable {κ:Ctx}{I:List Item}
theorem az4{i:Int}(M:0<=i)(h:i<l.length):(l.set i.toNat v).sum=l.sum - e_ l i+v:=by
 obtain ⟨k,rfl⟩:=Hp M
 rw [Ly]
 clear M
 induction l generalizing k with
 |nil=>simp at h;omega
 |cons x xs ih=>
  cases k with
  |zero=>simp [e_];omega
  |succ k=>
   have:=ih k (by simp at h;omega)
   have e:e_ (x::xs) ((k+1:Nat):Int)=e_ xs k:=by unfold e_;simp
   rw [e,List.set_cons_succ,Je,Je,this];omega
theorem dc0(h:k<l.length):(l.take (k+1)).sum=(l.take k).sum+e_ l k:=by
 rw [Ca l k h,List.sum_append];simp
theorem bp0(n:Nat):(replicate n (default:Int)).sum=0:=by
 induction n with
 |zero=>rfl
 |succ n ih=>rw [Mm,Je,ih];rfl
def V5(nd:Int)(es:List Pt):Int:=(es.map λe=>((j3 nd es e.u e.v).length:Int)).sum
def bu3(nd:Int)(es:List Pt)(k:Nat):Int:=((es.take k).map λe=>((j3 nd es e.u e.v).length:Int)).sum
theorem ap7(h:k<es.length):bu3 nd es (k+1)=bu3 nd es k+((j3 nd es (e_ es k).u (e_ es k).v).length:Int):=by
 unfold bu3
 rw [Ca es k h,Ht,List.sum_append];simp
theorem bo7(nd:Int)(es:List Pt):bu3 nd es es.length=V5 nd es:=by unfold bu3 V5;rw [Hd]
theorem M2(nd:Int)(es:List Pt)(u v:Int):(j3 nd es u v).length<=64:=by
 by_cases h:u=v
 ·unfold j3;rw [B_ h];simp
 rw [←as8 h];exact Et _
theorem bb6(nd:Int)(es:List Pt):∀k,k<=es.length->0<=bu3 nd es k/\bu3 nd es k<=64*(k:Int)
 |0,_=>by unfold bu3;simp
 |k+1,h=>by
  have M:=bb6 nd es k om
  have:=M2 nd es (e_ es k).u (e_ es k).v
  rw [ap7 om];omega
theorem bj7(h:∀x∈l,0<=x):∀k,k<=l.length->0<=(l.take k).sum/\(l.take k).sum<=l.sum:=by
 have aa:∀l:List Int,(∀x∈l,0<=x)->∀k,0<=(l.take k).sum/\(l.take k).sum<=l.sum:=λl=>by
  induction l with
  |nil=>intro _ k;simp
  |cons x xs ih=>
   intro h k
   have h0:=h x A_
   have M:=ih λy hy=>h y (C_ _ hy)
   cases k with
   |zero=>have:=M xs.length;rw [Hd] at this;simp;omega
   |succ k=>have:=M k;simp;omega
 exact λk _=>aa l h k
theorem Y0(hG:s8 nd es){u x:Int}(M:x∈j3 nd es u v):0<=x/\x<nd:=by
 unfold j3 at M
 split at M
 ·cases M
 have h1:=(T2.1 M).1
 unfold nbG at h1
 rw [An (by rw [s4.2 hG];decide),af6,an7] at h1
 rcases h1 with h|h
 ·have:=hG.aa9 _ h;simp only at this;omega
 have:=hG.aa9 _ h;simp only at this;omega
theorem ad8:∀{l:List Int},(∀x∈l,0<=x)->∀{x:Int},x∈l->x<=l.sum
 |[],_,x,hx=>by cases hx
 |y::ys,h,x,hx=>by
  have h0:=h y A_
  have M:∀z∈ys,0<=z:=λz hz=>h z (C_ _ hz)
  have h2:=(bj7 M ys.length<|Gg _)
  rw [Hd] at h2
  rw [Je]
  rcases Fy.1 hx with rfl|hx
  ·omega
  have:=ad8 M hx;omega
theorem cy4(hl:Sl κ I va es)(hG:s8 nd es):eu Tryz.prog κ 54 [.agg #[e7 nd,va]] I (λr J=>∃a c,∃out:List Int,r = .tuple #[.slice a out.length c,e7 0]/\(out.length<=64/\out.sum=V5 nd es/\∀x∈out,0<=x)/\J=vk 3 a c out::I):=by
 have ax:=hG.rng
 have ay:=q9 hG
 refine Ce1 Tryz.func54 C C ?_
 refine Am<|Ge1 (Au (cs:=[_,_]) C C C) λb1=>Ga C<|Ga C<|Ar<|Ay<|Am<|Gl2 J9 ?_
 refine G.e (Ac c_ C C<|V1 (nd:=nd)<|A4 hl) ?_
 rintro _ _ ⟨_,_,⟨rfl,rfl⟩,rfl,rfl⟩
 refine Ga C<|Ar<|Am<|Gm C<|Gr (Ci C C)<|Ar<|Al C (λc12=>?_)<|λc12=>?_
 ·exact absurd (s4.2 hG) c12
 refine Bc<|Ao<|Am<|Gf ag1 C<|Gl ef ?_
 refine Ge2 (Dl (α:=Int) (n:=nd.toNat) Ab ef C C C om om dc C) λaa ab=>?_
 refine Ga C<|Ar<|Ay<|Am<|Ga C<|Ar<|A0 (S3 6 5 1)<|A8<|B9 (σ:=Nat×(List Int)) (λs=>([(1,pt b1),(5,.slice aa (replicate nd.toNat (default:Int)).length ab),(6,e7 ((s.1:Nat):Int))]:Env)) (λs=>vc 3 (.slice aa (replicate nd.toNat (default:Int)).length ab) (s.2)::e8 b1 [e7 nd,va] 38::I) (λs=>(s.1<=es.length)/\(s.2.length=nd.toNat)/\(s.2.sum=bu3 nd es s.1)/\(∀x∈s.2,0<=x)) (λs=>es.length - s.1) (0,replicate nd.toNat (default:Int)) (show ((0:Nat)<=es.length)/\((replicate nd.toNat (default:Int):List Int).length=nd.toNat)/\((replicate nd.toNat (default:Int):List Int).sum=bu3 nd es (0:Nat))/\(∀x∈(replicate nd.toNat (default:Int):List Int),0<=x) from ⟨om,(by rw [F_]),(by rw [bp0];rfl),(λx hx=>by rw [Kg hx];exact Hn 0)⟩) (cx2<|Aa Cn Bb) (show Fit κ _ (vk 3 aa ab (replicate nd.toNat (default:Int))::e8 b1 [e7 nd,va] 38::I) from Az) ?_
 rintro ⟨k,out⟩ hp
 dsimp only at hp ⊢
 obtain ⟨hk,ap,an,ao⟩:=hp
 have aq:=λh:k<=es.length=>bb6 nd es k h
 refine Ay<|Am<|Gm C<|Gf K5 C<|Gl am8 ?_
 refine Gr (E7 (α:=Pt) (xs:=es) Ax C<|A4 hl)<|Gr (Bj C C)<|Ar<|Al C (λav=>?_)<|λav=>?_
 ·refine Bc (Ao<|Ay<|A8<|Ay<|A9 mixed<|Bx (vc 3 (.slice aa (replicate nd.toNat (default:Int)).length ab) (out)::e8 b1 [e7 nd,va] 38::I) 15<|Dr 0 C (Bm (vs:=[_,_]) J9) ?_)
  refine Dr 1 C (Af K5 C)<|Dr 2 C (Bf am8) ?_
  refine Dr 3 C (Aq C)<|Dr 4 C (A2 (α:=Pt) (xs:=es) Ax s9 C C (A4 hl) om oo)<|Dr 5 C (j7.fld (α:=Pt) (xs:=es) N8 C (A4 hl) oo)<|Dr 6 C (Fj (α:=Pt) (xs:=es) (u:=e7 ((e_ es k).u)) ef C (A4 hl) om oo C)<|Dr 7 C (Af K5 C)<|Dr 8 C (Bf am8) ?_
  refine Dr 9 C (Aq C)<|Dr 10 C (A2 (α:=Pt) (xs:=es) Ax s9 C C (A4 hl) om oo)<|Dr 11 C (j7.fld (α:=Pt) (xs:=es) N7 C (A4 hl) oo)<|Dr 12 C (Fj (α:=Pt) (xs:=es) (u:=e7 ((e_ es k).v)) ef C (A4 hl) om oo C)<|Ds1 13<|Sc2 C (Ac c_ C C<|ag6 (nd:=nd) (A4 hl) ((e_ es k).u) ((e_ es k).v) om) λak aj=>?_
  refine Dr 14 C (Be C)<|Dz<|Ao<|A0 (S4 7 1 5 6)<|Am<|Ga C<|Ar<|A8<|B9 (σ:=Nat×(List Int)) (λs=>([(1,pt b1),(5,.slice aa (replicate nd.toNat (default:Int)).length ab),(6,e7<|(k:Int)),(7,.slice ak (j3 nd es ((e_ es k).u)<|(e_ es k).v).length aj),(8,e7 ((s.1:Nat):Int))]:Env)) (λs=>vc 3 (.slice aa (replicate nd.toNat (default:Int)).length ab) (s.2)::vk 3 ak aj (j3 nd es ((e_ es k).u)<|(e_ es k).v)::e8 b1 [e7 nd,va] 38::I) (λs=>(s.1<=(j3 nd es (e_ es k).u (e_ es k).v).length)/\(s.2.length=nd.toNat)/\(s.2.sum=bu3 nd es k+(s.1:Int))/\(∀x∈s.2,0<=x)) (λs=>(j3 nd es (e_ es k).u (e_ es k).v).length - s.1) (0,out) (show ((0:Nat)<=(j3 nd es (e_ es k).u (e_ es k).v).length)/\((out:List Int).length=nd.toNat)/\((out:List Int).sum=bu3 nd es k+((0:Nat):Int))/\(∀x∈(out:List Int),0<=x) from ⟨om,ap,(by rw [an];simp),ao⟩) (cx4<|Aa Cn Bb) (show Fit κ _ (vc 3 (.slice aa (replicate nd.toNat (default:Int)).length ab) ((out))::vk 3 ak aj (j3 nd es ((e_ es k).u)<|(e_ es k).v)::e8 b1 [e7 nd,va] 38::I) from Az) ?_
  rintro ⟨k2,M⟩ hp
  dsimp only at hp ⊢
  obtain ⟨az,ae,ai,ad⟩:=hp
  have ar:k2<(j3 nd es (e_ es k).u (e_ es k).v).length->0<=e_ (j3 nd es (e_ es k).u (e_ es k).v) (k2:Int)/\e_ (j3 nd es (e_ es k).u (e_ es k).v) (k2:Int)<nd:=λh=>Y0 hG (Bn om om)
  have a0:=M2 nd es (e_ es k).u (e_ es k).v
  have au:k2<(j3 nd es (e_ es k).u (e_ es k).v).length->0<=e_ M (e_ (j3 nd es (e_ es k).u (e_ es k).v) (k2:Int))/\e_ M (e_ (j3 nd es (e_ es k).u (e_ es k).v) (k2:Int))<=1000000:=λh=>by have h1:=ar h;have h2:=Bn (xs:=M) (i:=e_ (j3 nd es (e_ es k).u (e_ es k).v) (k2:Int)) om om;have h3:=ad8 ad h2;have h4:=ad _ h2;have h5:=aq om;omega
  refine Ay<|Am<|Gm C<|Gm C<|Gr (Bl Ab C)<|Gr (Bj C C)<|Ar<|Al C (λaw=>?_)<|λaw=>?_
  ·refine Bc (Ao<|Ay<|A8<|Ba<|Gm C<|Gm C<|Gm C<|Gr (A2 (α:=Int) (xs:=j3 nd es ((e_ es k).u) ((e_ es k).v)) Ab ef C C A5 om oo)<|Gr (B8 (xs:=j3 nd es ((e_ es k).u) ((e_ es k).v)) ef C A5 om oo)<|Gr (A2 (α:=Int) (xs:=M) Ab ef C C A5 om oo)<|Gr (B8 (xs:=M) ef C A5 om oo)<|Gr (Rad C C)<|Gr (A2 (α:=Int) (xs:=M) Ab ef C C A5 om oo)<|Ge0 (Cv (α:=Int) (xs:=M) (e:=3) (new:=(e_ M<|e_ (j3 nd es ((e_ es k).u)<|(e_ es k).v) (k2:Int))+1) ef C C C om oo am) ?_)
   exact Bs<|Av<|Ao<|A0 (S5 1 5 6 7 8)<|Ba<|Gm C<|Gr (Rad C C)<|Ga C<|Bs<|Bt ((k2+1),(List.set M (e_ (j3 nd es ((e_ es k).u)<|(e_ es k).v) (k2:Int)).toNat ((e_ M<|e_ (j3 nd es ((e_ es k).u)<|(e_ es k).v) (k2:Int))+1)))<|by dsimp only;exact ⟨om,(by rw [Fq];exact ae),(by rw [az4 om om,ai];omega),(λx hx=>by rcases Jr hx with h|h;(· exact ad x h);(· rw [h];have:=au om;omega))⟩
  exact Ck<|Aw<|Aw<|Bi<|Av<|Ao<|Ba<|Gm C<|Gr (Rad C C)<|Ga C<|Bs<|Bt ((k+1),(M))<|by dsimp only;exact ⟨om,ae,(by rw [ap7 om,ai,show k2=(j3 nd es (e_ es k).u (e_ es k).v).length by omega]),ad⟩
 refine Ck<|Aw<|Aw<|Bi<|Ao<|Am<|Gm C<|Ga C<|Ga C<|Ar<|B2 ?_
 have ah:(replicate nd.toNat (default:Int)).length=out.length:=by rw [F_,ap]
 exact C3 C C C (vk 3 aa ab out::I) (by unfold vk;rw [←ah];exact Az) ⟨aa,ab,out,by rw [←ah],⟨by omega,by rw [an,show k=es.length by omega,bo7],ao⟩,rfl⟩
theorem bo6(M:s8 nd es):0<=V5 nd es/\V5 nd es<=129024:=by
 have:=bb6 nd es es.length (Gg _)
 rw [bo7] at this
 have:=q9 M
 omega
theorem cz8(hl:Sl κ I va es)(hG:s8 nd es):eu Tryz.prog κ 21 [.agg #[e7 nd,va]] I (λr J=>r = .tuple #[e7 (V5 nd es / 3),e7 0]/\I=J):=by
 refine Ce1 Tryz.func21 C C ?_
 refine Am<|Ge1 (Au (cs:=[_,_]) C C C) λb1=>Ga C<|Ga C<|Ar<|Am<|Gl2 J9 ?_
 refine G.e (Ac c_ C C<|cy4 (nd:=nd) (A4 hl) hG) ?_
 rintro _ _ ⟨_,_,⟨ad,ab,M,rfl,aa,rfl⟩,rfl,rfl⟩
 refine Gm C<|Gr (Bk C C)<|Gr (Bk C C)<|Ga C<|Ga C<|Ar<|Am<|Ga C<|Ar<|Ay<|Am<|Ga C<|Ar<|A8<|B9 (σ:=Nat×Int) (λs=>([(4,.slice ad M.length ab),(5,e7 0),(6,e7<|s.2),(7,e7 ((s.1:Nat):Int))]:Env)) (λs=>vk 3 ad ab M::e8 b1 [e7 nd,va] 38::I) (λs=>(s.1<=M.length)/\(s.2=(M.take s.1).sum)) (λs=>M.length - s.1) (0,0) (show ((0:Nat)<=M.length)/\((0:Int)=(M.take (0:Nat)).sum) from ⟨om,rfl⟩) (cx2<|Aa Cn<|Aa Cn Bb) (show Fit κ _ (vk 3 ad ab M::e8 b1 [e7 nd,va] 38::I) from Ai) ?_
 rintro ⟨k,q⟩ hp
 dsimp only at hp ⊢
 obtain ⟨hk,ae⟩:=hp
 have an:=bj7 aa.2.2 k om
 have ao:=λh:k<M.length=>aa.2.2 _ (Bn (xs:=M) (i:=((k:Nat):Int)) om om)
 have ap:=λh:k<M.length=>ad8 aa.2.2 (Bn (xs:=M) (i:=((k:Nat):Int)) om om)
 have ak:=bo6 hG
 have ah:=aa.2.1
 refine Ay<|Am<|Gm C<|Gm C<|Gr (Bl Ab C)<|Gr (Bj C C)<|Ar<|Al C (λaj=>?_)<|λaj=>?_
 ·exact Bc<|Ao<|Ay<|A8<|Ba<|Gm C<|Gm C<|Gm C<|Gr (A2 (α:=Int) (xs:=M) Ab ef C C A5 om om)<|Gr (B8 (xs:=M) ef C A5 om om)<|Gr (Rad C C)<|Ga C<|Bs<|Av<|Ao<|A0 (S4 6 4 5 7)<|Ba<|Gm C<|Gr (Rad C C)<|Ga C<|Bs<|Bt ((k+1),(q+(e_ M k)))<|by dsimp only;exact ⟨om,(by rw [dc0 om,←ae])⟩
 refine Ck<|Aw<|Aw<|Bi<|Ao<|Am<|Gm C<|Gr (j7.quo C C om om<|by unfold InR;omega)<|Gm C<|Ga C<|Ga C<|Ar<|B2 ?_
 have ai:q=V5 nd es:=by rw [ae,Fx om];exact ah
 exact C3 C C C I Ah ⟨by rw [ai],rfl⟩
end Go.Sl
namespace Go.Sl
open Go.Proofs
set_option maxRecDepth 4000
variable{xs ys:List Int}
attribute [local irreducible] W G V D A j7 Eff
def M0(xs ys:List Int):List Int:=xs.filter λx=>decide (x∈ys)
theorem head_drop(h:0<xs.length):xs=e_ xs 0::List.drop 1 xs:=by
 cases xs with
 |nil=>cases h
 |cons x xs=>rfl
theorem ba6(h:xs.Pairwise (λx0 M:Int=>x0<M)):(List.drop 1 xs).Pairwise (λx0 M:Int=>x0<M):=h.sublist (List.drop_sublist _ _)
theorem ce8(h:xs.Pairwise (λx0 x1:Int=>x0<x1))(M:0<xs.length){y:Int}(hy:y∈List.drop 1 xs):e_ xs 0<y:=by
 rw [head_drop M] at h
 exact (Gh.1 h).1 y hy
theorem dx6(hy:ys.Pairwise (λx0 x1:Int=>x0<x1))(h0:0<xs.length)(h1:0<ys.length)(h:e_ xs 0<e_ ys 0):M0 xs ys=M0 (List.drop 1 xs) ys:=by
 have hn:e_ xs 0∉ys:=λM=>by
  rw [head_drop h1] at M
  rcases Fy.1 M with e|e
  ·omega
  have:=ce8 hy h1 e;omega
 conv=>lhs;rw [head_drop h0]
 unfold M0
 rw [List.filter_cons_of_neg (by simpa using hn)]
theorem dx7(hx:xs.Pairwise (λx0 x1:Int=>x0<x1))(h0:0<xs.length)(h1:0<ys.length)(h:e_ ys 0<e_ xs 0):M0 xs ys=M0 xs (List.drop 1 ys):=by
 unfold M0
 refine Hy λx M=>?_
 rw [Ft]
 have aa:e_ ys 0<x:=by
  rw [head_drop h0] at M
  rcases Fy.1 M with rfl|e
  ·exact h
  have:=ce8 hx h0 e;omega
 constructor
 ·intro hm
  rw [head_drop h1] at hm
  rcases Fy.1 hm with e|e
  ·omega
  exact e
 exact λhm=>Mi hm
theorem inter_eq(hx:xs.Pairwise (λx0 x1:Int=>x0<x1))(h0:0<xs.length)(h1:0<ys.length)(h:e_ xs 0=e_ ys 0):M0 xs ys=e_ xs 0::M0 (List.drop 1 xs) (List.drop 1 ys):=by
 have M:e_ xs 0∈ys:=by rw [h];exact Bn om om
 conv=>lhs;rw [head_drop h0]
 unfold M0
 rw [List.filter_cons_of_pos (p:=λx=>decide<|x∈ys) (As M)]
 congr 1
 refine Hy λx aa=>?_
 rw [Ft]
 have ab:=ce8 hx h0 aa
 constructor
 ·intro M
  rw [head_drop h1] at M
  rcases Fy.1 M with e|e
  ·omega
  exact e
 exact λM=>Mi M
theorem by1(h:xs.length=0\/ys.length=0):M0 xs ys=[]:=by
 unfold M0
 rcases h with h|h
 ·rw [Kx.1 h];rfl
 rw [Kx.1 h];simp
theorem tb4{p:Prop}(h:p:=by first|omega|(simp only [By,Fz,E_,Fw];omega)):p:=h
theorem do1{κ:Ctx}{I:List Item}{a0 b0:Option Addr}{c0 d0:Nat}(hl:Sl κ I (.slice a0 xs.length c0) xs)(hm:Sl κ I (.slice b0 ys.length d0) ys)(hx:xs.Pairwise (λx0 x1:Int=>x0<x1))(hy:ys.Pairwise (λx0 x1:Int=>x0<x1))(hb:xs.length<=100000):eu Tryz.prog κ 133 [.slice a0 xs.length c0,.slice b0 ys.length d0] I (λr J=>∃a c,r = .slice a (M0 xs ys).length c/\J=vk 3 a c (M0 xs ys)::I):=by
 refine Ce2 Tryz.func133 C C<|Z ?_
 refine Dh (σ:=(Option Addr)×Nat×(List Int)×(Option Addr)×Nat×(List Int)×(Option Addr)×Nat×(List Int)) (λs=>[(0,.slice s.1 s.2.2.1.length s.2.1),(1,.slice s.2.2.2.1 s.2.2.2.2.2.1.length s.2.2.2.2.1),(5,.slice s.2.2.2.2.2.2.1 s.2.2.2.2.2.2.2.2.length s.2.2.2.2.2.2.2.1)]) (λs=>[vk 3 s.2.2.2.2.2.2.1 s.2.2.2.2.2.2.2.1 s.2.2.2.2.2.2.2.2]) (λs=>(Sl κ I (.slice s.1 s.2.2.1.length s.2.1) s.2.2.1)/\(Sl κ I (.slice s.2.2.2.1 s.2.2.2.2.2.1.length s.2.2.2.2.1) s.2.2.2.2.2.1)/\(s.2.2.1.Pairwise (λx0 x1:Int=>x0<x1))/\(s.2.2.2.2.2.1.Pairwise (λx0 x1:Int=>x0<x1))/\(M0 xs ys=s.2.2.2.2.2.2.2.2++M0 s.2.2.1 s.2.2.2.2.2.1)/\(s.2.2.2.2.2.2.2.2.length+s.2.2.1.length<=xs.length)) (λs=>(s.2.2.1.length+s.2.2.2.2.2.1.length)) (a0,c0,xs,b0,d0,ys,none,0,[]) (show (Sl κ I (.slice (a0:Option Addr) (xs:List Int).length (c0:Nat)) (xs:List Int))/\(Sl κ I (.slice (b0:Option Addr) (ys:List Int).length (d0:Nat)) (ys:List Int))/\((xs:List Int).Pairwise (λx0 x1:Int=>x0<x1))/\((ys:List Int).Pairwise (λx0 x1:Int=>x0<x1))/\(M0 xs ys=([]:List Int)++M0 (xs:List Int) (ys:List Int))/\(([]:List Int).length+(xs:List Int).length<=xs.length) from ⟨hl,hm,hx,hy,rfl,(by simp)⟩) (hI:=(B6 _ _)) ?_
 rintro ⟨pa,pc,M,qa,qc,aa,oa,oc,out⟩ hp
 dsimp only at hp ⊢
 obtain ⟨hA,hB,ab,ae,ad,ap⟩:=hp
 refine Z ?_
 refine A1 (d:=9) C (λg9=>Z ?_)<|λg9=>Z ?_
 ·refine Al C (λc13=>Z ?_) (λc13=>Z ?_)
  ·refine A9 mixed (Bx (vk 3 oa oc out::I) 7<|Z ?_)
   refine Ds1 6<|Sc0 C (Ac c_ C C<|Z5 (e_ M 0)<|e_ aa 0) ?_
   have ao:(e_ M 0<e_ aa 0/\bu4 (e_ M 0) (e_ aa 0) = -1)\/(e_ aa 0<e_ M 0/\bu4 (e_ M 0) (e_ aa 0)=1)\/(e_ M 0=e_ aa 0/\bu4 (e_ M 0) (e_ aa 0)=0):=by unfold bu4;repeat (first|omega|split)
   refine Z ?_
   refine Al C (λak=>?_)<|λak=>Z ?_
   ·refine Ba (Gm C<|Gr (Dn (α:=Int) (xs:=M) (l:=1) Ab ef C C om (A4 hA) om)<|Z ?_)
    exact Bt (((N9 pa pc 1<|Enc.sz Int)),((pc - 1)),(List.drop 1 M),(qa),(qc),(aa),(oa),(oc),(out)) (by dsimp only;exact ⟨(Es hA om),hB,(ba6 ab),ae,(by rw [ad,dx6 ae om om om]),tb4⟩) (hlt:=by (try dsimp only);exact (by simp only [Fz];omega))
   refine Al C (λaj=>?_)<|λaj=>Z ?_
   ·refine Ba (Gm C<|Gr (Dn (α:=Int) (xs:=aa) (l:=1) Ab ef C C om (A4 hB) om)<|Z ?_)
    exact Bt ((pa),(pc),(M),((N9 qa qc 1<|Enc.sz Int)),((qc - 1)),(List.drop 1 aa),(oa),(oc),(out)) (by dsimp only;exact ⟨hA,(Es hB om),ab,(ba6 ae),(by rw [ad,dx7 ab om om om]),tb4⟩) (hlt:=by (try dsimp only);exact (by simp only [Fz];omega))
   refine Ge1 (B0 (α:=Int) (cs:=[_]) (xs:=[e_ M 0]) Ab ef C C dc dc C C C C) λan=>?_
   refine Ge2 (Bp (α:=Int) (e:=3) (xs:=out) (ys:=([e_ M 0]:List Int)) Ab ef C C C mm A5 lcn dc C<|λ_ _=>am) λai ah=>Z ?_
   refine A9 mixed<|Bx (vc 3 (.slice an 1 1) (([e_ M 0]:List Int))::vk 3 ai ah (out++([e_ M 0]:List Int))::I) 6<|Z ?_
   refine Dr 1 C (Dn (α:=Int) (xs:=M) (l:=1) Ab ef C C om (A4 hA) om)<|Z ?_
   refine Dr 3 C (Dn (α:=Int) (xs:=aa) (l:=1) Ab ef C C om (A4 hB) om)<|Z ?_
   exact Bt (((N9 pa pc 1<|Enc.sz Int)),((pc - 1)),(List.drop 1 M),((N9 qa qc 1<|Enc.sz Int)),((qc - 1)),(List.drop 1 aa),(ai),(ah),(out++([e_ M 0]:List Int))) (by dsimp only;exact ⟨(Es hA om),(Es hB om),(ba6 ab),(ba6 ae),(by rw [ad,inter_eq ab om om om,Fu];rfl),tb4⟩) (hlt:=by (try dsimp only);exact (by simp only [Fz];omega))
  have hE:M0 xs ys=out:=by rw [ad,by1 om,Gt]
  exact Ak C C (vk 3 oa oc (M0 xs ys)::I) (by unfold vk;rw [hE];exact Ai) ⟨oa,oc,by rw [hE],rfl⟩
 have hE:M0 xs ys=out:=by rw [ad,by1 om,Gt]
 exact Ak C C (vk 3 oa oc (M0 xs ys)::I) (by unfold vk;rw [hE];exact Ai) ⟨oa,oc,by rw [hE],rfl⟩
end Go.Sl
