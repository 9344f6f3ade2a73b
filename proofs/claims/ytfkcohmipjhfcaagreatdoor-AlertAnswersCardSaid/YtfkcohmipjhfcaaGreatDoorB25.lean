/- A part of the proofs of statements of this seat: contracts of functions, and the plain laws that they lean on. No conditions. -/
import Derived.Test.YtfkcohmipjhfcaaGreatDoorB24
set_option linter.unusedVariables false
set_option linter.unusedSimpArgs false
set_option linter.unusedSectionVars false
open List (replicate)
set_option maxHeartbeats 2000000
namespace Go.Sl
open Go.Proofs
set_option maxRecDepth 4000
variable{k lv n u x:Int}{W:BitVec 64}{l m:List Int}{κ:Ctx}{A I:List Item}{j:Nat}{va:Value}
section
variable {nd:Int}{es:List Pt}
theorem bx9(M:G8 nd es)(h0:0<=u)(h1:u<nd):∃p∈bi0 nd es,p.1=u/\e_ (G5 nd es) u=(p.2:Int):=by
 have hl:=M.rows.len
 have hS:=am4 M
 have E:=br0 (rows:=ek nd es) (K2 ((ek nd es).length:Int)) 0
 have hm:u∈av8 (bi0 nd es):=(E.2 u).2 ((af7 hS.le).2 om)
 obtain ⟨p,hp,rfl⟩:=Ha.1 hm
 refine ⟨p,hp,rfl,?_⟩
 unfold G5
 rw [An (by rw [j6.2 M];decide)]
 exact fy3 E.1 (λv hv=>by have:=(af7 hS.le).1 ((E.2 v).1 hv);omega) p hp
theorem dx7(M:G8 nd es){k:Nat}(hc:ba0 (ek nd es) k W)(hs:ah5 nd W)(E:u∈em W):(k:Int)<=e_ (G5 nd es) u:=by
 have hl:=M.rows.len
 have hr:=M.rng
 have hS:=am4 M
 obtain ⟨p,hp,e,h⟩:=bx9 M (Fd E).1 (hs u E)
 have:=dh1 hc (K2 ((ek nd es).length:Int)) 0 (λx hx=>(af7 hS.le).2 ⟨(Fd hx).1,by have:=hs x hx;omega⟩) p hp (by rw [e];exact E)
 omega
theorem cf9(M:G8 nd es){k:Nat}(hk:1<=k):∃W,ba0 (ek nd es) k W/\ah5 nd W/\∀u,0<=u->u<nd->(k:Int)<=e_ (G5 nd es) u->u∈em W:=by
 have hl:=M.rows.len
 have hr:=M.rng
 have E:=am4 M
 obtain ⟨W,h1,h2,h3⟩:=dh0 (rows:=ek nd es) (K2 ((ek nd es).length:Int)) 0 k om
 refine ⟨W,h1,λx hx=>by have:=(af7 E.le).1 (h2 x hx);omega,λu h0 h4 h5=>?_⟩
 obtain ⟨p,hp,e,h⟩:=bx9 M h0 h4
 have:=(h3 p hp).1 om
 rwa [e] at this
theorem bx8(M:G8 nd es)(h0:0<=u)(h1:u<nd):0<=e_ (G5 nd es) u/\e_ (G5 nd es) u<nd:=by
 have hl:=M.rows.len
 have hr:=M.rng
 have E:=am4 M
 obtain ⟨p,hp,e,h⟩:=bx9 M h0 h1
 have:=bi2 (fm9 E om) _ _ _ (Le _) p hp
 omega
theorem cz5(M:G8 nd es)(E:∀x,x∈em W↔x∈l)(h0:0<=u)(h1:u<nd):R6 (ek nd es) W u=(N5 (nbG nd es u) l).length:=by
 unfold R6
 have hr:=M.rng
 refine ((Jq (Dv _) ?_).2 λx=>?_).length_eq
 ·unfold N5
  exact ((Y7 _).imp λh=>by omega:(ofL<|nbG nd es u).Nodup).filter _
 rw [J1,P4,E,M.rows.mem h0 h1]
 unfold nbG
 rw [An (by rw [j6.2 M];decide),af4,cn8]
 refine and_congr_left λ_=>⟨λh=>h.2,λh=>⟨?_,h⟩⟩
 rcases h with h|h
 ·have:=M.ad7 _ h;simp only at this;omega
 have:=M.ad7 _ h;simp only at this;omega
theorem bg4(hn:n<=64)(h:∀x∈l,0<=x/\x<n)(x:Int):x∈em (z7 l)↔x∈l:=by
 rw [Cz]
 constructor
 ·rintro ⟨h0,M⟩
  have hlt:=BitVec.lt_of_getLsbD M
  rw [P5 hlt,Lm h0] at M
  exact M
 intro E
 have:=h x E
 refine ⟨this.1,(P5 om).2 ?_⟩
 rw [Lm this.1];exact E
theorem dx4(hG:G8 nd es)(ae:l.Pairwise (λx0 x1:Int=>x0<x1))(M:∀x∈l,0<=x/\x<nd)(ai:∀x∈l,lv<=((N5 (nbG nd es x) l).length:Int))(ah:∀W:BitVec 64,ba0 (ek nd es) lv.toNat W->ah5 nd W->∀u∈em W,u∈l):l=N0 nd es lv:=by
 have hr:=hG.rng
 have hl:=hG.rows.len
 have hlen:((G5 nd es).length:Int)=nd:=by
  unfold G5
  rw [An (by rw [j6.2 hG];decide),ak1];omega
 have hW:=bg4 hr.2 M
 have E:(N0 nd es lv).Pairwise (λx0 x1:Int=>x0<x1):=by
  unfold N0
  exact (ae1.1<|be7 _ _).2
 refine aj3.uniq ae E λx=>?_
 rw [Y9]
 constructor
 ·intro hx
  have aa:=M x hx
  have hc:ba0 (ek nd es) lv.toNat (z7 l):=λu hu=>by
   have ad:=(hW u).1 hu
   have ab:=M u ad
   rw [cz5 hG hW ab.1 ab.2]
   have:=ai u ad
   omega
  have:=dx7 hG hc (λu hu=>(M u<|(hW u).1 hu).2) ((hW x).2 hx)
  exact ⟨by omega,by omega⟩
 rintro ⟨aa,hx⟩
 by_cases h0:lv<=0
 ·refine ah (K2 nd) (λu hu=>by omega) (dz9 hr.1 hr.2) x (s4.2 ⟨aa.1,?_⟩)
  rw [K1 hr.1 hr.2 om,Gn];omega
 obtain ⟨W,h1,h2,h3⟩:=cf9 hG (k:=lv.toNat) om
 exact ah W h1 h2 x<|h3 x aa.1 om om
theorem dx6(hG:G8 nd es)(M:∀y∈m,0<=y/\y<nd)(E:∀W:BitVec 64,ba0 (ek nd es) lv.toNat W->ah5 nd W->∀u∈em W,u∈m)(hx:x∈m)(hlt:((N5 (nbG nd es x) m).length:Int)<lv):∀W:BitVec 64,ba0 (ek nd es) lv.toNat W->ah5 nd W->∀u∈em W,u∈W2 m [x]:=λW h1 h2 u hu=>by
 have hr:=hG.rng
 have ab:=E W h1 h2 u hu
 rw [show u∈W2 m [x]↔u∈m/\u∉[x] by simp [W2,af4]]
 refine ⟨ab,λe=>?_⟩
 rw [Gj] at e
 subst e
 have aa:=M u hx
 have h3:=h1 u hu
 have h4:=cf7 (rows:=ek nd es) (W:=W) (L:=z7 m) (λy hy=>(bg4 hr.2 M y).2 (E W h1 h2 y hy)) u
 rw [cz5 hG (bg4 hr.2 M) aa.1 aa.2] at h4
 omega
end
theorem Fit.vcR{R:List Item}{x:Item}:Fit κ (A++((x::R)++I)) (x::(A++I)):=
 Bz (Fit.perm Mp) (Dn<|List.Sublist.cons_cons _<|List.Sublist.append_left (Gv R I) A)
theorem Fit.gw2{x:Item}:Fit κ (x::(A++I)) (A++([x]++I)):=Fit.perm Mp.symm
theorem ap7:u∈W2 m [x]↔u∈m/\u≠x:=by simp [W2,af4]
theorem cg8(h:l.Pairwise (λx0 M:Int=>x0<M))(E:∀x∈l,0<=x/\x<64):l.length<=64:=by
 have hs:∀x∈l,x∈(List.range 64).map fun (i:Nat)=>(i:Int):=λx hx=>by
  have:=E x hx
  exact Ha.2 ⟨x.toNat,Ht.2 om,by omega⟩
 have:=H_ (h.imp λh=>by omega:l.Nodup) hs
 rwa [Gi,Kq] at this
theorem dz8(h:l.Pairwise (λE M:Int=>E<M)){i:Nat}(hi:i<l.length)(hj:j<l.length)(e:e_ l i=e_ l j):i=j:=by
 rw [Cj _ i hi,Cj _ j hj] at e
 rcases Ls i j with h1|h1|h1
 ·have:=(Ho.1 h) i j hi hj h1;omega
 ·exact h1
 have:=(Ho.1 h) j i hj hi h1;omega
theorem ds7(h:m.Pairwise (λE M:Int=>E<M))(hx:x∈m):(W2 m [x]).length+1=m.length:=by
 have hn:(W2 m [x]).Nodup:=((Y7 m).imp λh=>by omega:(ofL m).Nodup).filter _
 have hp:m.Perm (x::W2 m [x]):=(Jq (h.imp λh=>by omega)<|Kt.2 ⟨λe=>(ap7.1 e).2 rfl,hn⟩).2 λu=>by
  rw [Gh,ap7]
  by_cases e:u=x
  ·subst e;simp [hx]
  simp [e]
 have:=hp.length_eq
 rw [Fu] at this;omega
theorem bf5(E:0<=n/\n<=64):y7 (K4 n) n:=by
 refine ae1.2 ⟨λx M=>by have:=U2.1 M;omega,?_⟩
 unfold K4
 refine Nm _ (λa b h=>?_)<|List.pairwise_lt_range (n:=(min n 64).toNat)
 omega
theorem ck3{nd:Int}{es:List Pt}(hl:Sl κ I va es)(hG:G8 nd es)(hb:es.length<=1000000):er Tryz.prog κ 133 [.agg #[e7 nd,va],e7 lv] I (λr J=>∃a c,r = .slice a (N0 nd es lv).length c/\J=vq 3 a c (N0 nd es lv)::I):=by
 have hr:=hG.rng
 refine Ce2 Tryz.func133 C C ?_
 refine Aj<|Ge1 (Ay (cs:=[_,_]) C C C) λb1=>Ga C<|Aq<|Aj<|Gf T2 C<|Gl ef ?_
 refine Gc2 (Ac c_ C C<|bz0 nd) λa4 a0=>?_
 refine Ga C<|Aq<|Ax<|Aj<|Ga C<|Aq<|A3<|B4 (σ:=(Option Addr)×Nat×(List Int)×Bool) (λs=>([(1,e7 lv),(2,pt b1),(5,.slice s.1 s.2.2.1.length s.2.1),(6,.bool<|s.2.2.2)]:Env)) (λs=>vq 3 s.1 s.2.1 s.2.2.1::e8 b1 [e7 nd,va] 48::I) (λs=>(s.2.2.1.Pairwise (λx0 x1:Int=>x0<x1))/\(∀x∈s.2.2.1,0<=x/\x<nd)/\(∀W:BitVec 64,ba0 (ek nd es) lv.toNat W->ah5 nd W->∀u∈em W,u∈s.2.2.1)/\(s.2.2.2=false->∀x∈s.2.2.1,lv<=((N5 (nbG nd es x) s.2.2.1).length:Int))) (λs=>(2*s.2.2.1.length+s.2.2.2.toNat)) (a4,a0,K4 nd,true) ⟨(ae1.1<|bf5 hr).2,(ae1.1<|bf5 hr).1,(λW h1 h2 u hu=>U2.2<|by have:=h2 u hu;have:=Fd hu;omega),(λh=>by cases h)⟩ (cx2<|Aa (Da C<|by first|rfl|simp)<|Aa (Da C<|by first|rfl|simp) A9) Bi ?_
 rintro ⟨a,c,l,ag⟩ hp
 dsimp only at hp ⊢
 obtain ⟨aa,ab,av,a1⟩:=hp
 have a8:l.length<=64:=cg8 aa (λx hx=>by have:=ab x hx;omega)
 refine Ax<|Aj<|Gm C<|Aq<|D8 C (λc12=>?_)<|λc12=>?_
 ·refine A4 (Al<|A3<|Aj<|Ga C<|Aq<|Aj<|Gm C<|Gr (Bj Ab C)<|Gm C<|Aq<|A3<|B4 (σ:=Nat×(Option Addr)×Nat×(List Int)×Bool×(List Item)) (λs=>([(1,e7 lv),(2,pt b1),(5,.slice s.2.1 s.2.2.2.1.length s.2.2.1),(6,.bool<|s.2.2.2.2.1),(13,.slice a l.length c),(14,e7 ((l.length:Nat):Int)),(15,e7 ((s.1:Nat):Int))]:Env)) (λs=>e8 b1 [e7 nd,va] 48::(s.2.2.2.2.2++I)) (λs=>(s.1<=l.length)/\(Sl κ s.2.2.2.2.2 (.slice a l.length c) l)/\(∃R,s.2.2.2.2.2=vq 3 s.2.1 s.2.2.1 s.2.2.2.1::R)/\(s.2.2.2.1.Pairwise (λx0 x1:Int=>x0<x1))/\(∀x∈s.2.2.2.1,x∈l)/\(∀W:BitVec 64,ba0 (ek nd es) lv.toNat W->ah5 nd W->∀u∈em W,u∈s.2.2.2.1)/\(s.2.2.2.2.1=false->s.2.2.2.1=l/\∀i:Nat,i<s.1->lv<=((N5 (nbG nd es<|e_ l i) l).length:Int))/\(∀i:Nat,s.1<=i->i<l.length->e_ l i∈s.2.2.2.1)/\(s.2.2.2.1.length+s.2.2.2.2.1.toNat<=l.length/\(s.2.2.2.2.1=true->s.2.2.2.1.length<l.length))) (λs=>(l.length - s.1)) (0,a,c,l,false,[vq 3 a c l]) (show ((0:Nat)<=l.length)/\(Sl κ ([vq 3 a c l]:List Item) (.slice a l.length c) l)/\(∃R,([vq 3 a c l]:List Item)=vq 3 (a:Option Addr) (c:Nat) (l:List Int)::R)/\((l:List Int).Pairwise (λx0 x1:Int=>x0<x1))/\(∀x∈(l:List Int),x∈l)/\(∀W:BitVec 64,ba0 (ek nd es) lv.toNat W->ah5 nd W->∀u∈em W,u∈(l:List Int))/\((false:Bool)=false->(l:List Int)=l/\∀i:Nat,i<(0:Nat)->lv<=((N5 (nbG nd es<|e_ l i) l).length:Int))/\(∀i:Nat,(0:Nat)<=i->i<l.length->e_ l i∈(l:List Int))/\((l:List Int).length+(false:Bool).toNat<=l.length/\((false:Bool)=true->(l:List Int).length<l.length)) from ⟨om,(Ed C_),⟨[],rfl⟩,aa,(λx hx=>hx),av,(λ_=>⟨rfl,λi hi=>by omega⟩),(λi _ hi=>B3 om om),⟨by simp,λh=>by cases h⟩⟩) (cx2<|Aa (Da C<|by first|rfl|simp)<|Aa (Da C<|by first|rfl|simp)<|cx2<|Aa Co A9) (Fit.gw2 (A:=[e8 b1 [e7 nd,va] 48])) ?_)
  rintro ⟨j,a2,c2,m,ah,Y2⟩ hp
  dsimp only at hp ⊢
  obtain ⟨hj,aj,ar,M,E,ae,ap,ai,az⟩:=hp
  have a9:m.length<=64:=cg8 M (λx hx=>by have:=ab x (E x hx);omega)
  have aq:Sl κ Y2 (.slice a2 m.length c2) m:=by obtain ⟨R,rfl⟩:=ar;exact Ed C_
  refine Aj<|Gr (Bp C C)<|Aq<|Ax<|Am C (λa5=>?_)<|λa5=>?_
  ·refine A4 (Al<|Ax<|A3<|Aj<|Gr (A2 (α:=Int) (xs:=l) Ab ef C C (Bs aj<|Dn<|Km (Ju _ I)<|Gv ([e8 b1 [e7 nd,va] 48]:List Item)<|Y2++I) om om)<|Gr (B8 (xs:=l) ef C (Bs aj<|Dn<|Km (Ju _ I)<|Gv ([e8 b1 [e7 nd,va] 48]:List Item)<|Y2++I) om om)<|Ga C ?_)
   have ao:=ai j (Gk _) om
   refine Aq<|Aj<|Gl2 H2 ?_
   refine Gm C<|G.e (Ac c_ C C<|ao0 (nd:=nd) (Bc hl) (e_ l j) om) ?_
   rintro _ _ ⟨_,_,⟨an,au,rfl,rfl⟩,rfl,rfl⟩
   have a7:=ap6 nd es (e_ l j)
   refine Gm C<|G.e (Ac c_ C C<|bk1 A6 (Bs aq<|Dn<|Km (Ju _ I)<|Gv ([vq 3 an au (nbG nd es<|e_ l j),e8 b1 [e7 nd,va] 48]:List Item)<|Y2++I)<|by first|omega|(have:=ap6 nd es (e_ l j);omega)) ?_
   rintro _ _ ⟨_,_,⟨a6,ay,rfl,rfl⟩,rfl,rfl⟩
   refine Gr (Bj Ab C)<|Gm C<|Gr (Bp C C)<|Aq<|A0 (S9 26 8 1 2 5 6 13 14 15)<|Am C (λak=>?_)<|λak=>?_
   ·refine A1 (Gm C<|Gm C<|Ge1 (Bt (α:=Int) (cs:=[_]) (xs:=[e_ l j]) Ab ef C C dc dc C C C C) λa3=>?_)
    refine G.e (Ac c_ C C<|db1 (Bs aq<|Dn<|Km (Ju _ I)<|Gv ([vc 3 (.slice a3 1 1) (([e_ l j]:List Int)),vc 3 (.slice a6 (N5 (nbG nd es<|e_ l j) m).length ay)<|N5 (nbG nd es<|e_ l j) m,vc 3 (.slice an (nbG nd es<|e_ l j).length au)<|nbG nd es<|e_ l j,e8 b1 [e7 nd,va] 48]:List Item)<|Y2++I) A6<|by first|omega|(have:=ap6 nd es (e_ l j);omega)) ?_
    rintro _ _ ⟨_,_,⟨aw,ad,rfl,rfl⟩,rfl,rfl⟩
    exact Ga C<|Ga C<|Bl<|Ap<|Al<|A0 (S7 6 5 1 2 13 14 15)<|A1<|Gr (Rad C C)<|Gm C<|Bl<|Bh ((j+1),(aw),(ad),(W2 m ([e_ l j]:List Int)),(true),((vq 3 aw ad (W2 m ([e_ l j]:List Int))::Y2))) (by dsimp only;exact ⟨om,(Bs aj<|Fit.tail<|Di _),⟨Y2,rfl⟩,((Y7 m).sublist Jo),(λx hx=>E x (ap7.1 hx).1),(dx6 hG (λy hy=>ab y<|E y hy) ae ao ak),(λh=>by cases h),(λi h1 h2=>ap7.2 ⟨ai i om h2,λe=>by have:=dz8 aa h2 (show j<l.length by omega) e;omega⟩),(by have:=ds7 M ao;exact ⟨by simp;omega,λ_=>by omega⟩)⟩) (hI:=by (try dsimp only);exact (by first|exact Bi|exact Ar))
   exact A4<|Ap<|Al<|A1<|Gr (Rad C C)<|Gm C<|Bl<|Bh ((j+1),(a2),(c2),(m),(ah),(Y2)) (by dsimp only;exact ⟨om,om,om,om,om,om,(λh=>by obtain ⟨e,h2⟩:=ap h;refine ⟨e,λi hi=>?_⟩;by_cases e2:i=j;(· subst e2;rw [e] at ak;omega);(· exact h2 i om)),(λi h1 h2=>ai i om h2),om⟩) (hI:=by (try dsimp only);exact (by first|exact Bi|exact Ar))
  refine B6<|Ao<|Ao<|A5<|Ap ?_
  obtain ⟨R,rfl⟩:=ar
  exact Bh ((a2),(c2),(m),(ah)) (by dsimp only;exact ⟨M,(λx hx=>ab x<|E x hx),ae,(λh=>by obtain ⟨e,h2⟩:=ap h;subst e;intro x hx;obtain ⟨i,hi,rfl⟩:=E1 hx;exact h2 i om)⟩) (hlt:=by (try dsimp only);exact (by have ax:ag=true:=(by simpa using c12);subst ax;cases ah<;>simp at az ⊢ <;>omega)) (hI:=by (try dsimp only);exact (Fit.vcR (A:=[e8 b1 [e7 nd,va] 48])))
 refine B6<|Ao<|Ao<|A5<|Al<|Aj<|Gm C<|Ga C<|Aq<|Bq ?_
 have hE:l=N0 nd es lv:=dx4 hG aa ab (a1<|by simpa using c12) av
 subst hE
 exact Ak C C (vq 3 a c (N0 nd es lv)::I) Bi ⟨a,c,rfl,rfl⟩
section
variable {nd:Int}{es:List Pt}
def dh8(nd:Int)(es:List Pt)(k:Int):List Int:=(G5 nd es).map λx=>min k x
theorem T7(nd:Int)(es:List Pt)(k:Int):(dh8 nd es k).length=(G5 nd es).length:=Gi ..
theorem an4(M:G8 nd es):((G5 nd es).length:Int)=nd:=by
 have E:=M.rng
 have hl:=M.rows.len
 unfold G5
 rw [An (by rw [j6.2 M];decide),ak1];omega
theorem by2(M:0<=u)(E:u<(G5 nd es).length):e_ (dh8 nd es k) u=min k (e_ (G5 nd es) u):=by
 obtain ⟨i,rfl⟩:=Hv M
 rw [Cj _ i (by rw [T7];omega),Cj _ i om]
 unfold dh8
 rw [Kf]
theorem dy8(M:G8 nd es):dh8 nd es 0=replicate (G5 nd es).length 0:=by
 have E:=an4 M
 refine aw8 (by rw [T7,Fw]) λi hi=>?_
 rw [T7] at hi
 rw [by2 om om,ak4 _ _ _ om om]
 have:=bx8 M (u:=(i:Int)) om om
 omega
theorem fn6(M:G8 nd es)(h:1<=nd):dh8 nd es (nd - 1)=G5 nd es:=by
 have E:=an4 M
 refine aw8 (T7 _ _ _) λi hi=>?_
 rw [T7] at hi
 rw [by2 om om]
 have:=bx8 M (u:=(i:Int)) om om
 omega
def dn1(l:List Int)(k:Int)(xs:List Int):List Int:=xs.foldl (λl v=>l.set v.toNat k) l
theorem cc5{xs:List Int}(h:j<xs.length):dn1 l k (xs.take (j+1))=(dn1 l k (xs.take j)).set (e_ xs j).toNat k:=by
 unfold dn1
 rw [Cn xs j h,Hw];rfl
theorem af1(k:Int):∀(xs l:List Int),(dn1 l k xs).length=l.length
 |[],l=>rfl
 |x::xs,l=>by
  show (dn1 (l.set x.toNat k) k xs).length=_
  rw [af1 k xs,Gd]
theorem cn2(k:Int):∀(xs l:List Int) (u:Int),(∀x∈xs,0<=x/\x<l.length)->0<=u->e_ (dn1 l k xs) u=if u∈xs then k else e_ l u
 |[],l,u,_,_=>rfl
 |x::xs,l,u,hx,hu=>by
  have M:=hx x C_
  show e_ (dn1 (l.set x.toNat k) k xs) u=_
  rw [cn2 k xs _ u (λy E=>by rw [Gd];exact hx y<|Fv _ E) hu,Dq _ _ _ _ M.1 hu M.2]
  by_cases h1:u∈xs
  ·rw [By h1,By<|Fv _ h1]
  rw [An h1]
  by_cases h2:x=u
  ·subst h2;rw [By rfl,By C_]
  rw [An h2,An<|λh=>by rcases Gh.1 h with h|h;(· exact h2 h.symm);(· exact h1 h)]
theorem fn5(E:G8 nd es)(hk:1<=k):dn1 (dh8 nd es (k - 1)) k (N0 nd es k)=dh8 nd es k:=by
 have hl:=an4 E
 refine aw8 (by rw [af1,T7,T7]) λi hi=>?_
 rw [af1,T7] at hi
 rw [cn2 k _ _ _ (λx hx=>by rw [T7];exact (Y9.1 hx).1) om,by2 om om,by2 om om]
 by_cases h:(i:Int)∈N0 nd es k
 ·rw [By h]
  have:=(Y9.1 h).2
  omega
 rw [An h]
 have:¬k<=e_ (G5 nd es) i:=λM=>h (Y9.2 ⟨⟨by omega,by omega⟩,M⟩)
 omega
end
theorem cg0(nd:Int)(es:List Pt)(k:Int):(N0 nd es k).length<=64:=by
 unfold N0
 exact Jt (be8 _ _)<|bi1 nd es
theorem ci3{nd:Int}{es:List Pt}(hl:Sl κ I va es)(hG:G8 nd es)(hb:es.length<=1000000)(h1:1<=nd):er Tryz.prog κ 71 [.agg #[e7 nd,va]] I (λr J=>∃a c,r = .tuple #[.slice a (G5 nd es).length c,e7 0]/\J=vq 3 a c (G5 nd es)::I):=by
 have hr:=hG.rng
 have ap:=an4 hG
 have ae:(G5 nd es).length=nd.toNat:=by omega
 refine Ce1 Tryz.func71 C C ?_
 refine Aj<|Ge1 (Ay (cs:=[_,_]) C C C) λb1=>Ga C<|Ga C<|Aq<|Ax<|Aj<|Gl2 H2 ?_
 refine G.e (Ac c_ C C<|K3 (nd:=nd)<|Bc hl) ?_
 rintro _ _ ⟨_,_,⟨rfl,rfl⟩,rfl,rfl⟩
 refine Ga C<|Aq<|Aj<|Gm C<|Gr (Cu C C)<|Aq<|Am C (λc12=>?_)<|λc12=>?_
 ·exact absurd (j6.2 hG) c12
 refine A4<|Al<|Aj<|Gf T2 C<|Gl ef ?_
 refine Ge2 (Ca (α:=Int) (n:=nd.toNat) Ab ef C C C om om dc C) λE M=>?_
 refine Ga C<|Aq<|Ax<|Aj<|Ga C<|Aq<|A0 (S3 6 5 1)<|A3<|B4 (σ:=Int) (λs=>([(1,pt b1),(5,.slice E (replicate nd.toNat (default:Int)).length M),(6,e7 s)]:Env)) (λs=>vc 3 (.slice E (replicate nd.toNat (default:Int)).length M) ((dh8 nd es<|s - 1))::e8 b1 [e7 nd,va] 48::I) (λs=>(1<=s/\(s<=nd\/s=1))) (λs=>(nd - s).toNat) 1 om (cx2<|Aa Co A9) (by rw [show dh8 nd es (1 - 1)=replicate (G5 nd es).length 0 from dy8 hG,ae];exact Bi) ?_
 rintro q hp
 have hq:=hp
 have ao:=T7 nd es (q - 1)
 have ar:=cg0 nd es q
 have ai:∀x∈N0 nd es q,0<=x/\x<nd:=λx hx=>by have:=(Y9.1 hx).1;omega
 refine Ax<|Aj<|Gm C<|Gf T2 C<|Gl ef ?_
 refine Gr (Bp C C)<|Aq<|Am C (λak=>?_)<|λak=>?_
 ·refine A4 (Al<|Ax<|A3<|Aj<|Gl2 H2 ?_)
  refine Gm C<|G.e (Ac c_ C C<|ck3 (nd:=nd) (lv:=q) (Bc hl) hG om) ?_
  rintro _ _ ⟨_,_,⟨ad,ah,rfl,rfl⟩,rfl,rfl⟩
  refine Gr (Bj Ab C)<|Gm C<|Aq<|A3<|B4 (σ:=Nat×(List Int)) (λs=>([(1,pt b1),(5,.slice E (replicate nd.toNat (default:Int)).length M),(6,e7 q),(25,.slice ad (N0 nd es q).length ah),(26,e7<|(((N0 nd es q).length:Nat):Int)),(27,e7 ((s.1:Nat):Int))]:Env)) (λs=>vc 3 (.slice E (replicate nd.toNat (default:Int)).length M) (s.2)::vq 3 ad ah (N0 nd es q)::e8 b1 [e7 nd,va] 48::I) (λs=>(s.1<=(N0 nd es q).length)/\(s.2=dn1 (dh8 nd es<|q - 1) q ((N0 nd es q).take s.1))) (λs=>(N0 nd es q).length - s.1) (0,dh8 nd es<|q - 1) ⟨om,rfl⟩ (cx4<|Aa C<|Aa Co A9) Bi ?_
  rintro ⟨k,out⟩ hp
  dsimp only at hp ⊢
  obtain ⟨hk,aa⟩:=hp
  have aq:out.length=(G5 nd es).length:=by rw [aa,af1,T7]
  have au:k<(N0 nd es q).length->0<=e_ (N0 nd es q) k/\e_ (N0 nd es q) k<nd:=λh=>ai _ (B3 om om)
  refine Aj<|Gr (Bp C C)<|Aq<|Ax<|Am C (λan=>?_)<|λan=>?_
  ·refine A4 (Al<|Ax<|A3<|Aj<|Gr (A2 (α:=Int) (xs:=N0 nd es q) Ab ef C C A6 om om)<|Gr (B8 (xs:=N0 nd es q) ef C A6 om om)<|Ga C<|Aq<|A1<|Gm C<|Gm C<|Gm C<|Gr (A2 (α:=Int) (xs:=out) Ab ef C C A6 om om)<|Ge0 (Cr (α:=Int) (xs:=out) (e:=3) (new:=q) ef C C C om om am) ?_)
   exact Bl<|Ap<|Al<|A0 (S6 1 5 6 25 26 27)<|A1<|Gr (Rad C C)<|Gm C<|Bl<|Bh ((k+1),(List.set out (e_ (N0 nd es q) k).toNat (q)))<|by dsimp only;exact ⟨om,(by rw [cc5 om,←aa])⟩
  refine B6<|Ao<|Ao<|A5<|Ap<|Al<|A1<|Gm C<|Gr (Rad C C)<|Ga C<|Bl ?_
  have aj:out=dh8 nd es (q+1 - 1):=by rw [aa,Gb om,fn5 hG hq.1,Int.add_sub_cancel]
  exact Bh ((q+1)) om (hI:=by (try dsimp only);exact (by rw [←aj];exact Bi))
 refine B6<|Ao<|Ao<|A5<|Al<|Aj<|Gm C<|Ga C<|Ga C<|Aq<|Bq ?_
 have hE:dh8 nd es (q - 1)=G5 nd es:=by rw [show q - 1=nd - 1 by omega];exact fn6 hG h1
 have ab:(replicate nd.toNat (default:Int)).length=(G5 nd es).length:=by rw [Fw,ae]
 exact B5 C C C (vq 3 E M (G5 nd es)::I) (by unfold vq;rw [←ab,←hE];exact Bi) ⟨E,M,by rw [←ab],rfl⟩
end Go.Sl
namespace Go.Sl
end Go.Sl
namespace Go.Sl
open Go.Proofs
set_option maxRecDepth 4000
end Go.Sl
namespace Go.Sl
open Go.Proofs
set_option maxRecDepth 4000
variable{xs:List Pt}{k:Nat}{κ:Ctx}{I:List Item}{va:Value}
attribute [local irreducible] W G V D A j0 Eff
section
variable {nd:Int}{es:List Pt}
theorem ce7(M:G8 nd es){u v y:Int}(h:go9 nd es u v y)(E:F7 u v∈es):y=((es.idxOf (F7 u v):Nat):Int):=by
 rcases h with ⟨_,j,rfl,hj,e⟩|⟨_,h|h⟩
 ·rw [←e,idx_eq M hj]
 ·exact absurd (j6.2 M) h
 exact absurd E h
theorem cp1(p:Pt->Bool)(h:k<xs.length)(M:p (e_ xs k)=true):((((xs.take (k+1)).filter p).length:Nat):Int)=(((xs.take k).filter p).length:Nat)+1:=by
 rw [Cn _ k h,Hc,A_,Gw,By M];simp
theorem bp9(p:Pt->Bool)(h:k<xs.length)(M:p (e_ xs k)=false):((((xs.take (k+1)).filter p).length:Nat):Int)=(((xs.take k).filter p).length:Nat):=by
 rw [Cn _ k h,Hc,A_,Gw,M];simp
theorem ff0(M:G8 nd es){e:Pt}(E:e∈es):(ar3 nd es e).length<=nd.toNat - 1:=by
 unfold ar3;rw [Gi];exact an5 M E
end
theorem dk1{nd:Int}{es:List Pt}(hl:Sl κ I va es)(hG:G8 nd es)(i:Int)(h0:0<=i)(h1:i<es.length)(hb:es.length<=1000000):er Tryz.prog κ 120 [.agg #[e7 nd,va],e7 i] I (λr J=>∃a c,r = .slice a (ar3 nd es (e_ es i)).length c/\J=vq 64 a c (ar3 nd es (e_ es i))::I):=by
 have ap:=hG.rng
 have he:=B3 (xs:=es) h0 h1
 have ar:=an5 hG he
 refine Ce2 Tryz.func120 C C ?_
 refine Aj<|Ge1 (Ay (cs:=[_,_]) C C C) λb1=>Z ?_
 refine Ge1 (Ah H3 C) λb2=>Ge0 (Ba H3)<|Z ?_
 refine Gc2 (Ac c_ C C<|cs3 (nd:=nd) (Bc hl) ((e_ es i).u) ((e_ es i).v) om) λai ak=>Z ?_
 refine Dl (σ:=Nat×(Option Addr)×Nat×(List Pt)) (λs=>[(5,.slice s.2.1 s.2.2.2.length s.2.2.1),(21,e7 ((s.1:Nat):Int))]) (λs=>[vq 64 s.2.1 s.2.2.1 s.2.2.2]) (λs=>(s.1<=(s3 nd es (e_ es i).u (e_ es i).v).length)/\(s.2.2.2=((s3 nd es (e_ es i).u (e_ es i).v).take s.1).map (λw=>(⟨((es.idxOf (F7 (e_ es i).u w):Nat):Int),((es.idxOf (F7 (e_ es i).v w):Nat):Int)⟩:Pt)))) (λs=>(s3 nd es (e_ es i).u (e_ es i).v).length - s.1) (0,none,0,[]) ⟨om,rfl⟩ (hI:=(Bb _ _)) ?_
 rintro ⟨k,oa,oc,out⟩ hp
 dsimp only at hp ⊢
 obtain ⟨hk,ho⟩:=hp
 have aq:out.length=k:=by rw [ho,Gi,Fx];omega
 have ae:k<(s3 nd es (e_ es i).u (e_ es i).v).length->F7 (e_ es i).u (e_ (s3 nd es (e_ es i).u (e_ es i).v) (k:Int))∈es/\F7 (e_ es i).v (e_ (s3 nd es (e_ es i).u (e_ es i).v) (k:Int))∈es:=λh=>ax2 hG he (B3 om om)
 refine Z ?_
 refine Am C (λan=>Z ?_)<|λan=>Z ?_
 ·refine A8 mixed (Cf (vq 3 ai ak (s3 nd es ((e_ es i).u)<|(e_ es i).v)::e8 b2 [e7 ((e_ es i).u),e7<|(e_ es i).v] 135::e8 b1 [e7 nd,va] 48::I) 15<|Z ?_)
  refine Ds1 5<|Se C (Ac c_ C C<|bt0 (nd:=nd) (Bc hl) ((e_ es i).u)<|e_ (s3 nd es ((e_ es i).u)<|(e_ es i).v) (k:Int)) ?_
  rintro _ _ ⟨_,_,⟨E,rfl,ad,rfl⟩,rfl,rfl⟩
  refine ⟨Ar,?_⟩
  have ah:=ce7 hG ad (ae om).1
  refine Ds1 10<|Se C (Ac c_ C C<|bt0 (nd:=nd) (Bc hl) ((e_ es i).v)<|e_ (s3 nd es ((e_ es i).u)<|(e_ es i).v) (k:Int)) ?_
  rintro _ _ ⟨_,_,⟨M,rfl,aa,rfl⟩,rfl,rfl⟩
  refine ⟨Ar,?_⟩
  have ab:=ce7 hG aa (ae om).2
  refine Dr 11 C (Er (cells:=[_,_]) ar6 B0 ef C C)<|Ds1 12<|Se1 C (Bt (α:=Pt) (cs:=[_,_]) (xs:=[⟨E,M⟩]) Cp ar6 C C dc dc C C C C) λau=>?_
  refine Ds1 13<|Se2 C (Bv (α:=Pt) (e:=64) (xs:=out) (ys:=([⟨E,M⟩]:List Pt)) Cp ar6 C C C mm A6 lcn dc C<|λ_ _=>am) λao aj=>Z ?_
  exact Bh ((k+1),(ao),(aj),(out++([⟨E,M⟩]:List Pt)))<|by dsimp only;exact ⟨om,(by rw [Cn _ k om,Jb,←ho,ah,ab];rfl)⟩
 have hX:(ar3 nd es<|e_ es i)=out:=by rw [ho,Gb om];rfl
 exact Ak C C (vq 64 oa oc (ar3 nd es<|e_ es i)::I) (by unfold vq;rw [hX];exact Ar) ⟨oa,oc,by rw [hX],rfl⟩
theorem cq3{nd:Int}{es:List Pt}{la:Option Addr}{lc:Nat}{l:List Int}(hl:Sl κ I va es)(hs:Sl κ I (.slice la l.length lc) l)(hG:G8 nd es)(i:Int)(h0:0<=i)(h1:i<es.length)(hb:es.length<=1000000):er Tryz.prog κ 121 [.agg #[e7 nd,va],e7 i,.slice la l.length lc] I (λr J=>r=e7 ((((ar3 nd es (e_ es i)).filter (λp:Pt=>decide (p.u∈l/\p.v∈l))).length:Nat):Int)/\I=J):=by
 have ad:=hG.rng
 have ae:=ff0 hG (B3 (xs:=es) h0 h1)
 refine Ce3 Tryz.func121 C C ?_
 refine Aj<|Ge1 (Ay (cs:=[_,_]) C C C) λb1=>Z ?_
 refine G.e (Ac c_ C C<|dk1 (nd:=nd) (Bc hl) hG i om om om) ?_
 rintro _ _ ⟨_,_,⟨ai,ah,rfl,rfl⟩,rfl,rfl⟩
 refine Z ?_
 refine Dl (σ:=Nat×Int) (λs=>[(7,e7<|s.2),(14,e7 ((s.1:Nat):Int))]) (λ_=>[]) (λs=>(s.1<=(ar3 nd es<|e_ es i).length)/\(s.2=((((ar3 nd es<|e_ es i).take s.1).filter (λp:Pt=>decide<|p.u∈l/\p.v∈l)).length:Int))) (λs=>(ar3 nd es<|e_ es i).length - s.1) (0,0) ⟨om,rfl⟩ ?_
 rintro ⟨k,n⟩ hp
 dsimp only at hp ⊢
 obtain ⟨hk,hn⟩:=hp
 have ab:=Gz (λp:Pt=>decide<|p.u∈l/\p.v∈l) ((ar3 nd es<|e_ es i).take k)
 rw [Fx] at ab
 refine Z ?_
 refine Am C (λaa=>Z ?_)<|λaa=>Z ?_
 ·refine Ge1 (Ah ar6 C) λb4=>Ge0 (Ba ar6) ?_
  refine Aq<|Aj<|Gm C<|Gr (Cc B0 ty2 C C om om)<|Z ?_
  refine Gc0 (Ac c_ C C<|ag7 (Bc hs)<|(e_ (ar3 nd es<|e_ es i) (k:Int)).u) ?_
  refine Gm C<|Au (d:=22) C (λM=>?_)<|λM=>Z ?_
  ·refine e9 (Ad C) (e9 (Cc B0 ty2 C C om om)<|Z ?_)
   refine D0 (B9 C C C) (Ac c_ C C<|ag7 (Bc hs)<|(e_ (ar3 nd es<|e_ es i) (k:Int)).v) ?_
   rintro _ _ ⟨_,_,⟨rfl,rfl⟩,rfl,rfl⟩
   refine Z ?_
   refine Am C (λE=>Z ?_)<|λE=>Z ?_
   ·exact Bh ((k+1),(n+1))<|by dsimp only;exact ⟨om,(by first|(rw [cp1 (λp:Pt=>decide<|p.u∈l/\p.v∈l) om (D_ ⟨M,E⟩),hn])|(rw [bp9 (λp:Pt=>decide<|p.u∈l/\p.v∈l) om (E_ λh=>E h.2),hn])|(rw [bp9 (λp:Pt=>decide<|p.u∈l/\p.v∈l) om (E_ λh=>M h.1),hn]))⟩
   exact Bh ((k+1),(n))<|by dsimp only;exact ⟨om,(by first|(rw [cp1 (λp:Pt=>decide<|p.u∈l/\p.v∈l) om (D_ ⟨M,E⟩),hn])|(rw [bp9 (λp:Pt=>decide<|p.u∈l/\p.v∈l) om (E_ λh=>E h.2),hn])|(rw [bp9 (λp:Pt=>decide<|p.u∈l/\p.v∈l) om (E_ λh=>M h.1),hn]))⟩
  exact Bh ((k+1),(n))<|by dsimp only;exact ⟨om,(by first|(rw [cp1 (λp:Pt=>decide<|p.u∈l/\p.v∈l) om (D_ ⟨M,E⟩),hn])|(rw [bp9 (λp:Pt=>decide<|p.u∈l/\p.v∈l) om (E_ λh=>E h.2),hn])|(rw [bp9 (λp:Pt=>decide<|p.u∈l/\p.v∈l) om (E_ λh=>M h.1),hn]))⟩
 rw [Gb om] at hn
 exact Ak C C I Af ⟨by rw [hn],rfl⟩
end Go.Sl
namespace Go.Sl
open Go.Proofs
set_option maxRecDepth 4000
end Go.Sl
namespace Go.Sl
open Go.Proofs
set_option maxRecDepth 4000
variable{u x:Int}{i:Nat}
attribute [local irreducible] W G V D A j0 Eff
theorem ce9{xs:List Pt}{p q:Pt->Bool}(h:∀x∈xs,p x=true->q x=true):(xs.filter p).length<=(xs.filter q).length:=by
 rw [←List.countP_eq_length_filter,←List.countP_eq_length_filter];exact List.countP_mono_left h
theorem by6{l:List Int}{n:Nat}(h:l.Nodup)(M:∀x∈l,0<=x/\x<n):l.length<=n:=by
 have:=H_ h (l₂:=(List.range n).map λi=>((i:Nat):Int)) λx E=>by
  have:=M x E
  exact Ha.2 ⟨x.toNat,Ht.2 om,by omega⟩
 rwa [Gi,Kq] at this
section
variable {tri:List (List Pt)}{num ord l:List Int}{k:Int}
theorem ak6.pos(M:ak6 tri num ord)(E:0<=x)(h1:x<tri.length):∃i:Nat,i<ord.length/\e_ ord i=x:=by
 by_cases hx:x∈ord
 ·obtain ⟨i,hi,e⟩:=bv6 hx
  exact ⟨i,hi,e.symm⟩
 have:=by6 (n:=tri.length) (Kt.2 ⟨hx,M.nodup⟩) λy hy=>by
  rcases Gh.1 hy with rfl|hy
  ·exact ⟨E,h1⟩
  exact M.rng y hy
 have:=M.gi4
 simp only [Fu] at *
 omega
theorem ak6.le(M:ak6 tri num ord):∀d:Nat,i+d<ord.length->e_ num (e_ ord i)<=e_ num (e_ ord ((i+d:Nat):Int))
 |0,_=>Hn _
 |d+1,h=>Lj (ak6.le M d om) (M.asc (i+d) om)
theorem dt2{l:List Int}{m:Nat}(h:i<m)(M:m<l.length):e_ l m∈List.drop (i+1) l:=by
 rw [Cj _ m M,Li]
 refine ⟨m - (i+1),by rw [Ge];omega,?_⟩
 rw [List.getElem_drop]
 congr 1;omega
theorem fj1(hx:∃j:Nat,j<ord.length/\e_ ord j∈l):∃i:Nat,(∀m:Nat,m<i->e_ ord m∉l)/\e_ ord i∈l/\i<ord.length:=by
 obtain ⟨j,hj,h⟩:=hx
 induction j using Nat.strongRecOn with
 |_ j ih=>
  by_cases h2:∃m:Nat,m<j/\e_ ord m∈l
  ·obtain ⟨m,M,E⟩:=h2
   exact ih m M om E
  exact ⟨j,λm M E=>h2 ⟨m,M,E⟩,h,hj⟩
theorem ak6.cp6(hG:fp0 tri)(hE:ak6 tri num ord)(E:∀x∈l,0<=x/\x<tri.length)(hc:∀x∈l,k<=(((e_ tri x).filter λp:Pt=>decide (p.u∈l/\p.v∈l)).length:Int)):∀x∈l,k<=e_ num x:=λx hx=>by
 obtain ⟨j,hj,rfl⟩:=hE.pos (E x hx).1 (E x hx).2
 obtain ⟨i,h1,M,hi⟩:=fj1 ⟨j,hj,hx⟩
 have ad:i<=j:=by
  rcases Lg j i with h|h
  ·exact absurd hx<|h1 j h
  exact h
 have h2:=hE.le (i:=i) (j - i) om
 rw [show i+(j - i)=j by omega] at h2
 refine Lj (Lj (hc _ M)<|Lj (Int.ofNat_le.2<|ce9 λp hp h=>?_)<|hE.later i hi) h2
 have hr:=hG.rng _ (E _ M).1 (E _ M).2 p hp
 rw [Gn] at h ⊢
 have aa:∀y∈l,y≠e_ ord i->y∈List.drop (i+1) ord:=λy hy ab=>by
  obtain ⟨m,hm,rfl⟩:=hE.pos (E y hy).1 (E y hy).2
  rcases Ls m i with h3|h3|h3
  ·exact absurd hy<|h1 m h3
  ·subst h3;exact absurd rfl ab
  exact dt2 h3 hm
 exact ⟨aa _ h.1 hr.2.2.1,aa _ h.2 hr.2.2.2⟩
theorem ak6.set(hG:fp0 tri)(E:ak6 tri num ord)(h0:0<=x)(h1:x<tri.length)(hk:k<=e_ num x)(hl:∀y:Int,0<=y->y<tri.length->k<=e_ num y->y∈l):k<=(((e_ tri x).filter λp:Pt=>decide (p.u∈l/\p.v∈l)).length:Int):=by
 obtain ⟨i,hi,rfl⟩:=E.pos h0 h1
 refine Lj hk<|Lj (E.high i hi)<|Int.ofNat_le.2<|ce9 λp hp h=>?_
 have M:=hG.rng _ h0 h1 p hp
 rw [Gn] at h ⊢
 exact ⟨hl _ M.1.1 M.1.2.1 om,hl _ M.1.2.2.1 M.1.2.2.2 om⟩
end
section
variable {nd lv:Int}{es:List Pt}{l m:List Int}
theorem bt8(M:G8 nd es):ak6 (J9 nd es) (z8 nd es) (U0 (J9 nd es)):=by
 unfold z8
 rw [An (by rw [j6.2 M];decide)]
 exact gf5 (gr0 M)<|cm7 M
theorem L5(M:G8 nd es):(z8 nd es).length=es.length:=by
 rw [(bt8 M).cn5];exact Gi ..
theorem cs9(M:0<=x)(E:x<es.length):e_ (J9 nd es) x=ar3 nd es (e_ es x):=by
 obtain ⟨i,rfl⟩:=Hv M
 rw [Cj _ i (by unfold J9;rw [Gi];omega),Cj _ i om]
 unfold J9
 rw [Kf]
def trK(nd:Int)(es:List Pt)(k:Int):List Int:=ap3 (z8 nd es).length λv=>decide (k<=e_ (z8 nd es) v)
theorem af3(M:G8 nd es):x∈trK nd es lv↔(0<=x/\x<es.length)/\lv<=e_ (z8 nd es) x:=by
 unfold trK;rw [cd1,Gn,L5 M]
theorem fw5:(trK nd es lv).Pairwise (λM E:Int=>M<E):=by unfold trK;exact (ae1.1 (be7 _ _)).2
theorem fw4(M:G8 nd es):(trK nd es lv).length<=es.length:=by unfold trK;exact Jt (be8 _ _) (Nat.le_of_eq (L5 M))
theorem fw2(hG:G8 nd es)(E:l.Pairwise (λx0 x1:Int=>x0<x1))(M:∀x∈l,0<=x/\x<es.length)(ab:∀x∈l,lv<=((((ar3 nd es (e_ es x)).filter (λp:Pt=>decide (p.u∈l/\p.v∈l))).length:Nat):Int))(aa:∀x∈trK nd es lv,x∈l):l=trK nd es lv:=by
 have hl:(J9 nd es).length=es.length:=Gi ..
 refine aj3.uniq E fw5 λx=>⟨λhx=>(af3 hG).2 ⟨M x hx,?_⟩,aa x⟩
 exact (bt8 hG).cp6 (gr0 hG) (λy hy=>by rw [hl];exact M y hy) (λy hy=>by rw [cs9 (M y hy).1 (M y hy).2];exact ab y hy) x hx
theorem fw3(E:G8 nd es)(M:∀x∈trK nd es lv,x∈m)(hx:0<=x/\x<es.length)(hlt:((((ar3 nd es (e_ es x)).filter (λp:Pt=>decide (p.u∈m/\p.v∈m))).length:Nat):Int)<lv):∀y∈trK nd es lv,y∈W2 m [x]:=λy hy=>by
 refine ap7.2 ⟨M y hy,λe=>?_⟩
 subst e
 have hl:(J9 nd es).length=es.length:=Gi ..
 have:=(bt8 E).set (gr0 E) hx.1 (by rw [hl];exact hx.2) ((af3 E).1 hy).2 (l:=m) (λz h0 h1 h2=>M z<|(af3 E).2 ⟨⟨h0,by rw [hl] at h1;exact h1⟩,h2⟩)
 rw [cs9 hx.1 hx.2] at this
 omega
def bz8(nd:Int)(es:List Pt)(k:Int):List Int:=(z8 nd es).map λx=>min k x
theorem T6(nd:Int)(es:List Pt)(k:Int):(bz8 nd es k).length=(z8 nd es).length:=Gi ..
theorem by1{k:Int}(M:0<=u)(E:u<(z8 nd es).length):e_ (bz8 nd es k) u=min k (e_ (z8 nd es) u):=by
 obtain ⟨i,rfl⟩:=Hv M
 rw [Cj _ i (by rw [T6];omega),Cj _ i om]
 unfold bz8
 rw [Kf]
theorem bn5(M:G8 nd es)(h0:0<=u)(E:u<(z8 nd es).length):0<=e_ (z8 nd es) u/\e_ (z8 nd es) u<=nd - 1:=by
 have hl:=L5 M
 have he:=M.ad7 (e_ es u) (B3 om om)
 exact do3 M om _<|B3 h0 E
theorem dy7(M:G8 nd es):bz8 nd es 0=replicate es.length 0:=by
 have E:=L5 M
 refine aw8 (by rw [T6,Fw,E]) λi hi=>?_
 rw [T6] at hi
 rw [by1 om om,ak4 _ _ _ om om]
 have:=bn5 M (u:=(i:Int)) om om
 omega
theorem da0(M:G8 nd es){k:Int}(h:nd - 1<=k\/trK nd es (k+1)=[]):bz8 nd es k=z8 nd es:=by
 refine aw8 (T6 _ _ _) λi hi=>?_
 rw [T6] at hi
 rw [by1 om om]
 have h1:=bn5 M (u:=(i:Int)) om om
 rcases h with h|h
 ·omega
 have:¬k+1<=e_ (z8 nd es) i:=λh2=>by
  have E:=(af3 M (lv:=k+1)).2 ⟨⟨by omega,by have:=L5 M;omega⟩,h2⟩
  rw [h] at E;cases E
 omega
theorem fn4(M:G8 nd es){k:Int}(hk:1<=k):dn1 (bz8 nd es (k - 1)) k (trK nd es k)=bz8 nd es k:=by
 have hl:=L5 M
 refine aw8 (by rw [af1,T6,T6]) λi hi=>?_
 rw [af1,T6] at hi
 rw [cn2 k _ _ _ (λx hx=>by rw [T6,hl];exact ((af3 M).1 hx).1) om,by1 om om,by1 om om]
 by_cases h:(i:Int)∈trK nd es k
 ·rw [By h]
  have:=((af3 M).1 h).2
  omega
 rw [An h]
 have:¬k<=e_ (z8 nd es) i:=λE=>h ((af3 M).2 ⟨⟨by omega,by omega⟩,E⟩)
 omega
theorem bu7(n:Nat):((List.range n).map λi=>((i:Nat):Int)).Pairwise (λE M:Int=>E<M)/\∀x,x∈((List.range n).map λi=>((i:Nat):Int))↔0<=x/\x<n:=by
 constructor
 ·refine Nm _ (λa b h=>?_) List.pairwise_lt_range
  omega
 intro x
 rw [Ha]
 constructor
 ·rintro ⟨i,hi,rfl⟩;have:=Ht.1 hi;omega
 intro h;exact ⟨x.toNat,Ht.2 om,by omega⟩
theorem cn1(k:Nat):((List.range (k+1)).map λi=>((i:Nat):Int))=((List.range k).map λi=>((i:Nat):Int))++[(k:Int)]:=by rw [Kj,Jb];rfl
end
theorem fs6{κ:Ctx}{I:List Item}{nd:Int}{va:Value}{es:List Pt}(hl:Sl κ I va es)(hb:es.length<=1000000):er Tryz.prog κ 245 [.agg #[e7 nd,va]] I (λr J=>∃a c,r = .slice a ((List.range es.length).map λi=>((i:Nat):Int)).length c/\J=vq 3 a c ((List.range es.length).map λi=>((i:Nat):Int))::I):=by
 refine Bm hl.le λaa=>?_
 refine Ce1 Tryz.func245 C C ?_
 refine Aj<|Ge1 (Ay (cs:=[_,_]) C C C) λb1=>Z ?_
 refine Dl (σ:=Nat×(Option Addr)×Nat×(List Int)) (λs=>[(3,.slice s.2.1 s.2.2.2.length s.2.2.1),(8,e7 ((s.1:Nat):Int))]) (λs=>[vq 3 s.2.1 s.2.2.1 s.2.2.2]) (λs=>(s.1<=es.length)/\(s.2.2.2=((List.range s.1).map λi=>((i:Nat):Int)))) (λs=>es.length - s.1) (0,none,0,[]) (show ((0:Nat)<=es.length)/\(([]:List Int)=((List.range (0:Nat)).map λi=>((i:Nat):Int))) from ⟨om,rfl⟩) (hI:=(Bb _ _)) ?_
 rintro ⟨k,a,c,out⟩ hp
 dsimp only at hp ⊢
 obtain ⟨hk,ho⟩:=hp
 have ab:out.length=k:=by rw [ho,Gi,Kq]
 refine Z ?_
 refine Am C (λc9=>Z ?_)<|λc9=>Z ?_
 ·refine Ge1 (Bt (α:=Int) (cs:=[_]) (xs:=[(k:Int)]) Ab ef C C dc dc C C C C) λad=>?_
  refine Ge2 (Bv (α:=Int) (e:=3) (xs:=out) (ys:=([(k:Int)]:List Int)) Ab ef C C C mm A6 lcn dc C<|λ_ _=>am) λM E=>Z ?_
  exact Bh ((k+1),(M),(E),(out++([(k:Int)]:List Int)))<|by dsimp only;exact ⟨om,(by rw [cn1,ho])⟩
 have hE:out=((List.range es.length).map λi=>((i:Nat):Int)):=by rw [ho,show k=es.length by omega]
 exact Ak C C (vq 3 a c ((List.range es.length).map λi=>((i:Nat):Int))::I) (by unfold vq;rw [←hE];exact Bi) ⟨a,c,by rw [←hE],rfl⟩
end Go.Sl
namespace Go.Sl
open Go.Proofs
set_option maxRecDepth 4000
variable{nd:Int}{va:Value}{es:List Pt}
variable {κ:Ctx}{I:List Item}
theorem di6{lv:Int}(hl:Sl κ I va es)(hG:G8 nd es)(hb:es.length<=1000000):er Tryz.prog κ 227 [.agg #[e7 nd,va],e7 lv] I (λr J=>∃a c,r = .slice a (trK nd es lv).length c/\J=vq 3 a c (trK nd es lv)::I):=by
 have hr:=hG.rng
 refine Ce2 Tryz.func227 C C ?_
 refine Aj<|Ge1 (Ay (cs:=[_,_]) C C C) λb1=>Ga C<|Aq<|Aj<|Gl2 H2 ?_
 refine G.e (Ac c_ C C<|fs6 (nd:=nd) (Bc hl) om) ?_
 rintro _ _ ⟨_,_,⟨ar,ap,rfl,rfl⟩,rfl,rfl⟩
 refine Ga C<|Aq<|Ax<|Aj<|Ga C<|Aq<|A3<|B4 (σ:=(Option Addr)×Nat×(List Int)×Bool) (λs=>([(1,e7 lv),(2,pt b1),(5,.slice s.1 s.2.2.1.length s.2.1),(6,.bool<|s.2.2.2)]:Env)) (λs=>vq 3 s.1 s.2.1 s.2.2.1::e8 b1 [e7 nd,va] 48::I) (λs=>(s.2.2.1.Pairwise (λx0 x1:Int=>x0<x1))/\(∀x∈s.2.2.1,0<=x/\x<es.length)/\(∀x∈trK nd es lv,x∈s.2.2.1)/\(s.2.2.2=false->∀x∈s.2.2.1,lv<=((((ar3 nd es<|e_ es x).filter (λp:Pt=>decide<|p.u∈s.2.2.1/\p.v∈s.2.2.1)).length:Nat):Int))) (λs=>(2*s.2.2.1.length+s.2.2.2.toNat)) (ar,ap,((List.range es.length).map λi=>((i:Nat):Int)),true) (show ((((List.range es.length).map λi=>((i:Nat):Int)):List Int).Pairwise (λx0 x1:Int=>x0<x1))/\(∀x∈(((List.range es.length).map λi=>((i:Nat):Int)):List Int),0<=x/\x<es.length)/\(∀x∈trK nd es lv,x∈(((List.range es.length).map λi=>((i:Nat):Int)):List Int))/\((true:Bool)=false->∀x∈(((List.range es.length).map λi=>((i:Nat):Int)):List Int),lv<=((((ar3 nd es<|e_ es x).filter (λp:Pt=>decide<|p.u∈(((List.range es.length).map λi=>((i:Nat):Int)):List Int)/\p.v∈(((List.range es.length).map λi=>((i:Nat):Int)):List Int))).length:Nat):Int)) from ⟨(bu7 _).1,(λx hx=>((bu7 _).2 x).1 hx),(λx hx=>((bu7 _).2 x).2 ((af3 hG).1 hx).1),(λh=>by cases h)⟩) (cx2<|Aa (Da C<|by first|rfl|simp)<|Aa (Da C<|by first|rfl|simp) A9) (show Fit κ _ (vq 3 ar ap (((List.range es.length).map λi=>((i:Nat):Int)))::e8 b1 [e7 nd,va] 48::I) from Bi) ?_
 rintro ⟨a,c,l,ag⟩ hp
 dsimp only at hp ⊢
 obtain ⟨E,ab,aw,a3⟩:=hp
 have a4:l.length<=es.length:=by6 (E.imp λh=>by omega) ab
 refine Ax<|Aj<|Gm C<|Aq<|D8 C (λc11=>?_)<|λc11=>?_
 ·refine A4 (Al<|A3<|Aj<|Ga C<|Aq<|Aj<|Gm C<|Gr (Bj Ab C)<|Gm C<|Aq<|A3<|B4 (σ:=Nat×(Option Addr)×Nat×(List Int)×Bool×(List Item)) (λs=>([(1,e7 lv),(2,pt b1),(5,.slice s.2.1 s.2.2.2.1.length s.2.2.1),(6,.bool<|s.2.2.2.2.1),(12,.slice a l.length c),(13,e7 ((l.length:Nat):Int)),(14,e7 ((s.1:Nat):Int))]:Env)) (λs=>e8 b1 [e7 nd,va] 48::(s.2.2.2.2.2++I)) (λs=>(s.1<=l.length)/\(Sl κ s.2.2.2.2.2 (.slice a l.length c) l)/\(∃R,s.2.2.2.2.2=vq 3 s.2.1 s.2.2.1 s.2.2.2.1::R)/\(s.2.2.2.1.Pairwise (λx0 x1:Int=>x0<x1))/\(∀x∈s.2.2.2.1,x∈l)/\(∀x∈trK nd es lv,x∈s.2.2.2.1)/\(s.2.2.2.2.1=false->s.2.2.2.1=l/\∀i:Nat,i<s.1->lv<=((((ar3 nd es<|e_ es<|e_ l i).filter (λp:Pt=>decide<|p.u∈l/\p.v∈l)).length:Nat):Int))/\(∀i:Nat,s.1<=i->i<l.length->e_ l i∈s.2.2.2.1)/\(s.2.2.2.1.length+s.2.2.2.2.1.toNat<=l.length/\(s.2.2.2.2.1=true->s.2.2.2.1.length<l.length))) (λs=>(l.length - s.1)) (0,a,c,l,false,[vq 3 a c l]) (show ((0:Nat)<=l.length)/\(Sl κ ([vq 3 a c l]:List Item) (.slice a l.length c) l)/\(∃R,([vq 3 a c l]:List Item)=vq 3 (a:Option Addr) (c:Nat) (l:List Int)::R)/\((l:List Int).Pairwise (λx0 x1:Int=>x0<x1))/\(∀x∈(l:List Int),x∈l)/\(∀x∈trK nd es lv,x∈(l:List Int))/\((false:Bool)=false->(l:List Int)=l/\∀i:Nat,i<(0:Nat)->lv<=((((ar3 nd es<|e_ es<|e_ l i).filter (λp:Pt=>decide<|p.u∈l/\p.v∈l)).length:Nat):Int))/\(∀i:Nat,(0:Nat)<=i->i<l.length->e_ l i∈(l:List Int))/\((l:List Int).length+(false:Bool).toNat<=l.length/\((false:Bool)=true->(l:List Int).length<l.length)) from ⟨om,(Ed C_),⟨[],rfl⟩,E,(λx hx=>hx),aw,(λ_=>⟨rfl,λi hi=>by omega⟩),(λi _ hi=>B3 om om),⟨by simp,λh=>by cases h⟩⟩) (cx2<|Aa (Da C<|by first|rfl|simp)<|Aa (Da C<|by first|rfl|simp)<|cx2<|Aa Co A9) (show Fit κ _ (e8 b1 [e7 nd,va] 48::(([vq 3 a c l])++I)) from (Fit.gw2 (A:=[e8 b1 [e7 nd,va] 48]))) ?_)
  rintro ⟨j,a2,c2,m,ae,Y2⟩ hp
  dsimp only at hp ⊢
  obtain ⟨hj,ai,au,M,aa,ad,ao,ah,a1⟩:=hp
  have a5:m.length<=es.length:=by6 (M.imp λh=>by omega) (λx hx=>ab x<|aa x hx)
  have aq:Sl κ Y2 (.slice a2 m.length c2) m:=by obtain ⟨R,rfl⟩:=au;exact Ed C_
  refine Aj<|Gr (Bp C C)<|Aq<|Ax<|Am C (λax=>?_)<|λax=>?_
  ·refine A4 (Al<|Ax<|A3<|Aj<|Gr (A2 (α:=Int) (xs:=l) Ab ef C C (Bs ai<|Dn<|Km (Ju _ I)<|Gv ([e8 b1 [e7 nd,va] 48]:List Item)<|Y2++I) om om)<|Gr (B8 (xs:=l) ef C (Bs ai<|Dn<|Km (Ju _ I)<|Gv ([e8 b1 [e7 nd,va] 48]:List Item)<|Y2++I) om om)<|Ga C ?_)
   have a0:=ah j (Gk _) om
   have aj:=ab _ (B3 (xs:=l) (i:=(j:Int)) om om)
   refine Aq<|Aj<|Gl2 H2 ?_
   refine Gm C<|Gm C<|Gc0 (Ac c_ C C<|cq3 (nd:=nd) (Bc hl) (Bs aq<|Dn<|Km (Ju _ I)<|Gv ([e8 b1 [e7 nd,va] 48]:List Item)<|Y2++I) hG (e_ l j) aj.1 aj.2 om) ?_
   refine Gm C<|Gr (Bp C C)<|Aq<|A0 (S9 23 8 1 2 5 6 12 13 14)<|Am C (λak=>?_)<|λak=>?_
   ·refine A1 (Gm C<|Gm C<|Ge1 (Bt (α:=Int) (cs:=[_]) (xs:=[e_ l j]) Ab ef C C dc dc C C C C) λaz=>?_)
    refine G.e (Ac c_ C C<|db1 (Bs aq<|Dn<|Km (Ju _ I)<|Gv ([vc 3 (.slice az 1 1) (([e_ l j]:List Int)),e8 b1 [e7 nd,va] 48]:List Item)<|Y2++I) A6 om) ?_
    rintro _ _ ⟨_,_,⟨an,av,rfl,rfl⟩,rfl,rfl⟩
    exact Ga C<|Ga C<|Bl<|Ap<|Al<|A0 (S7 6 5 1 2 12 13 14)<|A1<|Gr (Rad C C)<|Gm C<|Bl<|Bh ((j+1),(an),(av),(W2 m ([e_ l j]:List Int)),(true),((vq 3 an av (W2 m ([e_ l j]:List Int))::Y2))) (by dsimp only;exact ⟨om,(Bs ai<|Fit.tail<|Di _),⟨Y2,rfl⟩,((Y7 m).sublist Jo),(λx hx=>aa x (ap7.1 hx).1),(fw3 hG ad aj ak),(λh=>by cases h),(λi h1 h2=>ap7.2 ⟨ah i om h2,λe=>by have:=dz8 E h2 (show j<l.length by omega) e;omega⟩),(by have:=ds7 M a0;exact ⟨by simp;omega,λ_=>by omega⟩)⟩) (hI:=by (try dsimp only);exact (by first|exact Bi|exact Ar))
   exact A4<|Ap<|Al<|A1<|Gr (Rad C C)<|Gm C<|Bl<|Bh ((j+1),(a2),(c2),(m),(ae),(Y2)) (by dsimp only;exact ⟨om,om,om,om,om,om,(λh=>by obtain ⟨e,h2⟩:=ao h;refine ⟨e,λi hi=>?_⟩;by_cases e2:i=j;(· subst e2;rw [e] at ak;omega);(· exact h2 i om)),(λi h1 h2=>ah i om h2),om⟩) (hI:=by (try dsimp only);exact (by first|exact Bi|exact Ar))
  refine B6<|Ao<|Ao<|A5<|Ap ?_
  obtain ⟨R,rfl⟩:=au
  exact Bh ((a2),(c2),(m),(ae)) (by dsimp only;exact ⟨M,(λx hx=>ab x<|aa x hx),ad,(λh=>by obtain ⟨e,h2⟩:=ao h;subst e;intro x hx;obtain ⟨i,hi,rfl⟩:=E1 hx;exact h2 i om)⟩) (hlt:=by (try dsimp only);exact (by have ay:ag=true:=(by simpa using c11);subst ay;cases ae<;>simp at a1 ⊢ <;>omega)) (hI:=by (try dsimp only);exact (Fit.vcR (A:=[e8 b1 [e7 nd,va] 48])))
 refine B6<|Ao<|Ao<|A5<|Al<|Aj<|Gm C<|Ga C<|Aq<|Bq ?_
 have hE:l=trK nd es lv:=fw2 hG E ab (a3<|by simpa using c11) aw
 subst hE
 exact Ak C C (vq 3 a c (trK nd es lv)::I) Bi ⟨a,c,rfl,rfl⟩
theorem ci2(hl:Sl κ I va es)(hG:G8 nd es)(hb:es.length<=1000000):er Tryz.prog κ 156 [.agg #[e7 nd,va]] I (λr J=>∃a c,r = .tuple #[.slice a (z8 nd es).length c,e7 0]/\J=vq 3 a c (z8 nd es)::I):=by
 have hr:=hG.rng
 have ah:=L5 hG
 refine Ce1 Tryz.func156 C C ?_
 refine Aj<|Ge1 (Ay (cs:=[_,_]) C C C) λb1=>Ga C<|Ga C<|Aq<|Ax<|Aj<|Gl2 H2 ?_
 refine G.e (Ac c_ C C<|K3 (nd:=nd)<|Bc hl) ?_
 rintro _ _ ⟨_,_,⟨rfl,rfl⟩,rfl,rfl⟩
 refine Ga C<|Aq<|Aj<|Gm C<|Gr (Cu C C)<|Aq<|Am C (λc13=>?_)<|λc13=>?_
 ·exact absurd (j6.2 hG) c13
 refine A4<|Al<|Aj<|Gf Z3 C<|Gl bm1 ?_
 refine Gr (C3 (α:=Pt) (xs:=es) B2 C<|Bc hl)<|Ge2 (Ca (α:=Int) (n:=es.length) Ab ef C C C om om dc C) λE M=>?_
 refine Ga C<|Aq<|A0 (S2 5 1)<|Ax<|Aj<|Ga C<|Aq<|A3<|B4 (σ:=Int) (λs=>([(1,pt b1),(5,.slice E (replicate es.length (default:Int)).length M),(6,e7 s)]:Env)) (λs=>vc 3 (.slice E (replicate es.length (default:Int)).length M) ((bz8 nd es<|s - 1))::e8 b1 [e7 nd,va] 48::I) (λs=>(1<=s/\(s<=nd\/s=1))) (λs=>(nd - s).toNat) 1 (show (1<=(1:Int)/\((1:Int)<=nd\/(1:Int)=1)) from om) (cx2<|Aa Co A9) (show Fit κ _ (vc 3 (.slice E (replicate es.length (default:Int)).length M) ((bz8 nd es<|(1) - 1))::e8 b1 [e7 nd,va] 48::I) from (by rw [show bz8 nd es (1 - 1)=replicate es.length 0 from dy7 hG];exact Bi)) ?_
 rintro q hp
 have hq:=hp
 have ap:=T6 nd es (q - 1)
 have ar:=fw4 (lv:=q) hG
 have ak:∀x∈trK nd es q,0<=x/\x<es.length:=λx hx=>((af3 hG).1 hx).1
 refine Ax<|Aj<|Gm C<|Gf T2 C<|Gl ef ?_
 refine Gr (Bp C C)<|Aq<|Am C (λao=>?_)<|λao=>?_
 ·refine A4 (Al<|Ax<|A3<|Aj<|Gl2 H2 ?_)
  refine Gm C<|Gc2 (Ac c_ C C<|di6 (nd:=nd) (lv:=q) (Bc hl) hG om) λad ae=>?_
  refine Ga C<|Aq<|Ax<|Aj<|Gm C<|Gr (Bj Ab C)<|Gr (B7 C C)<|Aq<|A0 (S5 30 7 1 5 6)<|Am C (λai=>?_)<|λai=>?_
  ·refine B6 (Ao<|Eu C<|Ao<|Ao<|A5<|Al<|Aj<|Gm C<|Ga C<|Ga C<|Aq<|Bq ?_)
   have hE:bz8 nd es (q - 1)=z8 nd es:=da0 hG (by first|(left;omega)|(right;rw [Int.sub_add_cancel];exact Hr om))
   have aa:(replicate es.length (default:Int)).length=(z8 nd es).length:=by rw [Fw,ah]
   exact B5 C C C (vq 3 E M (z8 nd es)::I) (by unfold vq;rw [←aa,←hE];exact Bi) ⟨E,M,by rw [←aa],rfl⟩
  refine A4<|Al<|Aj<|Gm C<|Gr (Bj Ab C)<|Gm C<|Aq<|A3<|B4 (σ:=Nat×(List Int)) (λs=>([(1,pt b1),(5,.slice E (replicate es.length (default:Int)).length M),(6,e7 q),(31,.slice ad (trK nd es q).length ae),(32,e7<|(((trK nd es q).length:Nat):Int)),(33,e7 ((s.1:Nat):Int))]:Env)) (λs=>vc 3 (.slice E (replicate es.length (default:Int)).length M) (s.2)::vq 3 ad ae (trK nd es q)::e8 b1 [e7 nd,va] 48::I) (λs=>(s.1<=(trK nd es q).length)/\(s.2=dn1 (bz8 nd es<|q - 1) q ((trK nd es q).take s.1))) (λs=>(trK nd es q).length - s.1) (0,bz8 nd es<|q - 1) (show ((0:Nat)<=(trK nd es q).length)/\((bz8 nd es (q - 1):List Int)=dn1 (bz8 nd es<|q - 1) q ((trK nd es q).take (0:Nat))) from ⟨om,rfl⟩) (cx4<|Aa C<|Aa Co A9) (show Fit κ _ (vc 3 (.slice E (replicate es.length (default:Int)).length M) ((bz8 nd es<|q - 1))::vq 3 ad ae (trK nd es q)::e8 b1 [e7 nd,va] 48::I) from Bi) ?_
  rintro ⟨k,out⟩ hp
  dsimp only at hp ⊢
  obtain ⟨hk,ab⟩:=hp
  have aq:out.length=(z8 nd es).length:=by rw [ab,af1,T6]
  have au:k<(trK nd es q).length->0<=e_ (trK nd es q) k/\e_ (trK nd es q) k<es.length:=λh=>ak _ (B3 om om)
  refine Aj<|Gr (Bp C C)<|Aq<|Ax<|Am C (λaj=>?_)<|λaj=>?_
  ·refine A4 (Al<|Ax<|A3<|Aj<|Gr (A2 (α:=Int) (xs:=trK nd es q) Ab ef C C A6 om om)<|Gr (B8 (xs:=trK nd es q) ef C A6 om om)<|Ga C<|Aq<|A1<|Gm C<|Gm C<|Gm C<|Gr (A2 (α:=Int) (xs:=out) Ab ef C C A6 om om)<|Ge0 (Cr (α:=Int) (xs:=out) (e:=3) (new:=q) ef C C C om om am) ?_)
   exact Bl<|Ap<|Al<|A0 (S6 1 5 6 31 32 33)<|A1<|Gr (Rad C C)<|Gm C<|Bl<|Bh ((k+1),(List.set out (e_ (trK nd es q) k).toNat (q)))<|by dsimp only;exact ⟨om,(by rw [cc5 om,←ab])⟩
  refine B6<|Ao<|Ao<|A5<|Ap<|Al<|A1<|Gm C<|Gr (Rad C C)<|Ga C<|Bl ?_
  have an:out=bz8 nd es (q+1 - 1):=by rw [ab,Gb om,fn4 hG hq.1,Int.add_sub_cancel]
  exact Bh ((q+1)) om (hI:=by (try dsimp only);exact (by rw [←an];exact Bi))
 refine B6<|Ao<|Ao<|A5<|Al<|Aj<|Gm C<|Ga C<|Ga C<|Aq<|Bq ?_
 have hE:bz8 nd es (q - 1)=z8 nd es:=da0 hG (by first|(left;omega)|(right;rw [Int.sub_add_cancel];exact Hr om))
 have aa:(replicate es.length (default:Int)).length=(z8 nd es).length:=by rw [Fw,ah]
 exact B5 C C C (vq 3 E M (z8 nd es)::I) (by unfold vq;rw [←aa,←hE];exact Bi) ⟨E,M,by rw [←aa],rfl⟩
end Go.Sl
/- The densest set as the gb0 of all fx4, each once: the greatest set of the greatest density. No Go. No conditions. -/
namespace Go.Sl
variable{nd:Int}{A B:BitVec 64}
theorem bp6(A B:BitVec 64):∀es:List Pt,J7 A es+J7 B es<=J7 (A ||| B) es+J7 (A &&& B) es
 |[]=>by unfold J7;simp
 |e::es=>by
  have M:=bp6 A B es
  have step:∀W:BitVec 64,J7 W (e::es)=J7 W es+if W.getLsbD e.u.toNat&&W.getLsbD e.v.toNat then 1 else 0:=λW=>by
   unfold J7
   rw [Gw]
   split<;>simp
  rw [step,step,step,step]
  simp only [Je,Hm]
  cases A.getLsbD e.u.toNat<;>cases A.getLsbD e.v.toNat<;>cases B.getLsbD e.u.toNat<;>cases B.getLsbD e.v.toNat<;>simp<;>omega
theorem bq4{α:Type}(p:α->Bool):∀l:List α,(l.filter p).length+(l.filter λx=> !p x).length=l.length
 |[]=>rfl
 |x::xs=>by
  have:=bq4 p xs
  simp only [Gw]
  cases p x<;>simp<;>omega
theorem dh5(A B:BitVec 64):J5 (A ||| B)+J5 (A &&& B)=J5 A+J5 B:=by
 have h1:(em<|A ||| B).Perm (em A++(em B).filter λx=> !decide (x∈em A)):=by
  refine (Jq (Dv _) ?_).2 λu=>?_
  ·refine Nl.2 ⟨Dv _,(Dv _).filter _,λa ha b hb e=>?_⟩
   have:=(G_.1 hb).2
   rw [←e] at this
   simp [ha] at this
  rw [Gu,G_]
  by_cases hA:u∈em A
  ·refine ⟨λ_=> .inl hA,λ_=>?_⟩
   rw [Cz] at hA ⊢
   rw [Je,hA.2];simp [hA.1]
  rw [E_ hA]
  constructor
  ·intro M
   rw [Cz,Je] at M
   refine .inr ⟨s4.2 ⟨M.1,?_⟩,rfl⟩
   rcases Bool.or_eq_true_iff.1 M.2 with h|h
   ·exact absurd (s4.2 ⟨M.1,h⟩) hA
   exact h
  rintro (h|⟨h,_⟩)
  ·exact absurd h hA
  rw [Cz] at h ⊢
  rw [Je,h.2];simp [h.1]
 have E:(em<|A &&& B).Perm ((em B).filter λx=>decide<|x∈em A):=by
  refine (Jq (Dv _)<|(Dv _).filter _).2 λu=>?_
  rw [G_,J1,Gn]
  exact and_comm
 have h3:=bq4 (λx=>decide<|x∈em A) (em B)
 have e1:=h1.length_eq
 have e2:=E.length_eq
 rw [A_] at e1
 unfold J5
 omega
theorem gf8(E:ah5 nd A)(hb:ah5 nd B):ah5 nd (A ||| B):=λx M=>by
 rw [Cz,Je] at M
 rcases Bool.or_eq_true_iff.1 M.2 with h|h
 ·exact E x<|s4.2 ⟨M.1,h⟩
 exact hb x<|s4.2 ⟨M.1,h⟩
theorem fw9(E:ah5 nd A):ah5 nd (A &&& B):=λx M=>E x (J1.1 M).1
theorem dg5{N D:Int}{es:List Pt}(M:ah5 nd B)(aa:B≠0#64)(ai:D*J7 B es=N*J5 B)(E:∀W,ah5 nd W->W≠0#64->D*J7 W es<=N*J5 W)(ab:∀W,ah5 nd W->W≠0#64->D*J7 W es=N*J5 W->J5 W<=J5 B)(hD:0<=D):fd5 nd N D es B:=by
 have hz:∀W,ah5 nd W->D*J7 W es<=N*J5 W:=λW hW=>by
  by_cases e:W=0#64
  ·subst e;rw [ce0,cg2];simp
  exact E W hW e
 refine ⟨M,aa,ai,hz,λW hW hw x hx=>?_⟩
 have hU:=gf8 hW M
 have ad:W ||| B≠0#64:=by
  obtain ⟨u,hu⟩:=V3.1 aa
  refine V3.2 ⟨u,?_⟩
  rw [Cz] at hu ⊢
  rw [Je,hu.2];simp [hu.1]
 have h1:=hz (W ||| B) hU
 have h2:=hz (W &&& B) (fw9 hW)
 have h3:=Mv (bp6 W B es) hD
 have h4:N*(J5 (W ||| B)+J5 (W &&& B))=N*(J5 W+J5 B):=by rw [dh5]
 rw [Lx,Lx] at h3 h4
 have h5:=ab (W ||| B) hU ad om
 have hp:(em B).Sublist (em B):=Jm _
 have ae:∀u∈em B,u∈em (W ||| B):=λu hu=>by
  rw [Cz] at hu ⊢
  rw [Je,hu.2];simp [hu.1]
 have ah:x∈em (W ||| B):=by
  rw [Cz] at hx ⊢
  rw [Je,hx.2];simp [hx.1]
 refine Gg λhn=>?_
 have aj:(x::em B).Nodup:=Kt.2 ⟨hn,Dv _⟩
 have:=H_ aj (l₂:=em (W ||| B)) λu hu=>by
  rcases Gh.1 hu with rfl|hu
  ·exact ah
  exact ae u hu
 rw [Fu] at this
 unfold J5 at h5
 omega
end Go.Sl
