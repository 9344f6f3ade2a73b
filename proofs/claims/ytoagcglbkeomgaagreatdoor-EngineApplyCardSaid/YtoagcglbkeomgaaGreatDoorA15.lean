/- A part of the proofs of statements of this seat: contracts of functions, and the plain laws that they lean on. No conditions. -/
import Derived.Test.YtoagcglbkeomgaaGreatDoorA14
set_option linter.unusedVariables false
set_option linter.unusedSimpArgs false
set_option linter.unusedSectionVars false
open List (replicate)
set_option maxHeartbeats 2000000
namespace Go.Sl
open Go.Proofs
set_option maxRecDepth 4000
variable{lv n u x:Int}{k:Nat}{W:BitVec 64}{l m:List Int}{κ:Ctx}{A I:List Item}
section
variable {nd:Int}{es:List Pt}
theorem bs4(M:s8 nd es)(h0:0<=u)(h1:u<nd):∃p∈bf9 nd es,p.1=u/\e_ (j9 nd es) u=(p.2:Int):=by
 have hl:=M.rows.len
 have hS:=ak4 M
 have hk:=bm8 (rows:=ek nd es) (as9 ((ek nd es).length:Int)) 0
 have hm:u∈am5 (bf9 nd es):=(hk.2 u).2 ((af6 hS.le).2 om)
 obtain ⟨p,hp,rfl⟩:=H1.1 hm
 refine ⟨p,hp,rfl,?_⟩
 unfold j9
 rw [An (by rw [s4.2 M];decide)]
 exact fm5 hk.1 (λv hv=>by have:=(af6 hS.le).1 ((hk.2 v).1 hv);omega) p hp
theorem by9(M:s8 nd es)(hc:at7 (ek nd es) k W)(hs:dr8 nd W)(hu:u∈eo W):(k:Int)<=e_ (j9 nd es) u:=by
 have hl:=M.rows.len
 have hr:=M.rng
 have hS:=ak4 M
 obtain ⟨p,hp,e,h⟩:=bs4 M (Em hu).1 (hs u hu)
 have:=cu8 hc (as9 ((ek nd es).length:Int)) 0 (λx hx=>(af6 hS.le).2 ⟨(Em hx).1,by have:=hs x hx;omega⟩) p hp (by rw [e];exact hu)
 omega
theorem by8(M:s8 nd es)(hk:1<=k):∃W,at7 (ek nd es) k W/\dr8 nd W/\∀u,0<=u->u<nd->(k:Int)<=e_ (j9 nd es) u->u∈eo W:=by
 have hl:=M.rows.len
 have hr:=M.rng
 have hS:=ak4 M
 obtain ⟨W,h1,h2,h3⟩:=cu7 (rows:=ek nd es) (as9 ((ek nd es).length:Int)) 0 k om
 refine ⟨W,h1,λx hx=>by have:=(af6 hS.le).1 (h2 x hx);omega,λu h0 h4 h5=>?_⟩
 obtain ⟨p,hp,e,h⟩:=bs4 M h0 h4
 have:=(h3 p hp).1 om
 rwa [e] at this
theorem T7(M:s8 nd es)(h0:0<=u)(h1:u<nd):0<=e_ (j9 nd es) u/\e_ (j9 nd es) u<nd:=by
 have hl:=M.rows.len
 have hr:=M.rng
 have hS:=ak4 M
 obtain ⟨p,hp,e,h⟩:=bs4 M h0 h1
 have:=bg0 (dz5 hS om) _ _ _ (Mu _) p hp
 omega
theorem as2(M:s8 nd es)(hW:∀x,x∈eo W↔x∈l)(h0:0<=u)(h1:u<nd):Q4 (ek nd es) W u=(Z6 (nbG nd es u) l).length:=by
 unfold Q4
 have hr:=M.rng
 refine ((Ht (Dh _) ?_).2 λx=>?_).length_eq
 ·unfold Z6
  exact ((T1 _).imp λh=>by omega:(ofL<|nbG nd es u).Nodup).filter _
 rw [K3,T3,hW,M.rows.mem h0 h1]
 unfold nbG
 rw [An (by rw [s4.2 M];decide),af5,an6]
 refine and_congr_left λ_=>⟨λh=>h.2,λh=>⟨?_,h⟩⟩
 rcases h with h|h
 ·have:=M.aa9 _ h;simp only at this;omega
 have:=M.aa9 _ h;simp only at this;omega
theorem ai7(hn:n<=64)(h:∀x∈l,0<=x/\x<n)(x:Int):x∈eo (bd8 l)↔x∈l:=by
 rw [D3]
 constructor
 ·rintro ⟨h0,M⟩
  have hlt:=BitVec.lt_of_getLsbD M
  rw [bz9 hlt,Hb h0] at M
  exact M
 intro hx
 have:=h x hx
 refine ⟨this.1,(bz9 om).2 ?_⟩
 rw [Hb this.1];exact hx
theorem dk4(hG:s8 nd es)(ae:l.Pairwise (λx0 x1:Int=>x0<x1))(M:∀x∈l,0<=x/\x<nd)(aj:∀x∈l,lv<=((Z6 (nbG nd es x) l).length:Int))(ah:∀W:BitVec 64,at7 (ek nd es) lv.toNat W->dr8 nd W->∀u∈eo W,u∈l):l=U9 nd es lv:=by
 have hr:=hG.rng
 have hl:=hG.rows.len
 have ak:((j9 nd es).length:Int)=nd:=by
  unfold j9
  rw [An (by rw [s4.2 hG];decide),as5];omega
 have hW:=ai7 hr.2 M
 have aa:(U9 nd es lv).Pairwise (λx0 x1:Int=>x0<x1):=by
  unfold U9
  exact (ae4.1<|bc6 _ _).2
 refine ar6.uniq ae aa λx=>?_
 rw [ai6]
 constructor
 ·intro hx
  have ab:=M x hx
  have hc:at7 (ek nd es) lv.toNat (bd8 l):=λu hu=>by
   have ai:=(hW u).1 hu
   have ad:=M u ai
   rw [as2 hG hW ad.1 ad.2]
   have:=aj u ai
   omega
  have:=by9 hG hc (λu hu=>(M u<|(hW u).1 hu).2) ((hW x).2 hx)
  exact ⟨by omega,by omega⟩
 rintro ⟨ab,hx⟩
 by_cases h0:lv<=0
 ·refine ah (as9 nd) (λu hu=>by omega) (fp2 hr.1 hr.2) x (K2.2 ⟨ab.1,?_⟩)
  rw [af8 hr.1 hr.2 om,Gs];omega
 obtain ⟨W,h1,h2,h3⟩:=by8 hG (k:=lv.toNat) om
 exact ah W h1 h2 x<|h3 x ab.1 om om
theorem dk6(hG:s8 nd es)(M:∀y∈m,0<=y/\y<nd)(ab:∀W:BitVec 64,at7 (ek nd es) lv.toNat W->dr8 nd W->∀u∈eo W,u∈m)(hx:x∈m)(hlt:((Z6 (nbG nd es x) m).length:Int)<lv):∀W:BitVec 64,at7 (ek nd es) lv.toNat W->dr8 nd W->∀u∈eo W,u∈V8 m [x]:=λW h1 h2 u hu=>by
 have hr:=hG.rng
 have ad:=ab W h1 h2 u hu
 rw [show u∈V8 m [x]↔u∈m/\u∉[x] by simp [V8,af5]]
 refine ⟨ad,λe=>?_⟩
 rw [Gh] at e
 subst e
 have aa:=M u hx
 have h3:=h1 u hu
 have h4:=bf6 (rows:=ek nd es) (W:=W) (L:=bd8 m) (λy hy=>(ai7 hr.2 M y).2 (ab W h1 h2 y hy)) u
 rw [as2 hG (ai7 hr.2 M) aa.1 aa.2] at h4
 omega
end
theorem Fit.vcR{R:List Item}{x:Item}:Fit κ (A++((x::R)++I)) (x::(A++I)):=
 A9 (Cj Mf) (C4<|List.Sublist.cons_cons _<|List.Sublist.append_left (Gq R I) A)
theorem Fit.gi4{x:Item}:Fit κ (x::(A++I)) (A++([x]++I)):=Cj Mf.symm
theorem an7:u∈V8 m [x]↔u∈m/\u≠x:=by simp [V8,af5]
theorem ca0(h:l.Pairwise (λx0 x1:Int=>x0<x1))(M:∀x∈l,0<=x/\x<64):l.length<=64:=by
 have hs:∀x∈l,x∈(List.range 64).map fun (i:Nat)=>(i:Int):=λx hx=>by
  have:=M x hx
  exact H1.2 ⟨x.toNat,Jd.2 om,by omega⟩
 have:=Ho (h.imp λh=>by omega:l.Nodup) hs
 rwa [Ge,Kb] at this
theorem dn0(h:l.Pairwise (λx0 x1:Int=>x0<x1)){i j:Nat}(hi:i<l.length)(M:j<l.length)(e:e_ l i=e_ l j):i=j:=by
 rw [Ct _ i hi,Ct _ j M] at e
 rcases Ks i j with h1|h1|h1
 ·have:=(Hc.1 h) i j hi M h1;omega
 ·exact h1
 have:=(Hc.1 h) j i M hi h1;omega
theorem df6(h:m.Pairwise (λx0 x1:Int=>x0<x1))(M:x∈m):(V8 m [x]).length+1=m.length:=by
 have hn:(V8 m [x]).Nodup:=((T1 m).imp λh=>by omega:(ofL m).Nodup).filter _
 have hp:m.Perm (x::V8 m [x]):=(Ht (h.imp λh=>by omega)<|Jb.2 ⟨λe=>(an7.1 e).2 rfl,hn⟩).2 λu=>by
  rw [F_,an7]
  by_cases e:u=x
  ·subst e;simp [M]
  simp [e]
 have:=hp.length_eq
 rw [E_] at this;omega
theorem bd0(hr:0<=n/\n<=64):aj6 (R9 n) n:=by
 refine ae4.2 ⟨λx M=>by have:=bk9.1 M;omega,?_⟩
 unfold R9
 refine My _ (λa b h=>?_)<|List.pairwise_lt_range (n:=(min n 64).toNat)
 omega
theorem dr0{nd:Int}{va:Value}{es:List Pt}(hl:Sl κ I va es)(hG:s8 nd es)(hb:es.length<=1000000):eu Tryz.prog κ 52 [.agg #[e7 nd,va],e7 lv] I (λr J=>∃a c,r = .slice a (U9 nd es lv).length c/\J=vk 3 a c (U9 nd es lv)::I):=by
 have hr:=hG.rng
 refine Ce2 Tryz.func52 C C ?_
 refine Al<|Ge1 (Av (cs:=[_,_]) C C C) λb1=>Ga C<|Ar<|Al<|Gf ag0 C<|Gl ef ?_
 refine Gc2 (Ab c_ C C<|fd6 nd) λar aw=>?_
 refine Ga C<|Ar<|Ax<|Al<|Ga C<|Ar<|A7<|B9 (σ:=(Option Addr)×Nat×(List Int)×Bool) (λs=>([(1,e7 lv),(2,pt b1),(5,.slice s.1 s.2.2.1.length s.2.1),(6,.bool<|s.2.2.2)]:Env)) (λs=>vk 3 s.1 s.2.1 s.2.2.1::e8 b1 [e7 nd,va] 38::I) (λs=>(s.2.2.1.Pairwise (λx0 x1:Int=>x0<x1))/\(∀x∈s.2.2.1,0<=x/\x<nd)/\(∀W:BitVec 64,at7 (ek nd es) lv.toNat W->dr8 nd W->∀u∈eo W,u∈s.2.2.1)/\(s.2.2.2=false->∀x∈s.2.2.1,lv<=((Z6 (nbG nd es x) s.2.2.1).length:Int))) (λs=>(2*s.2.2.1.length+s.2.2.2.toNat)) (ar,aw,R9 nd,true) (show ((R9 nd:List Int).Pairwise (λx0 x1:Int=>x0<x1))/\(∀x∈(R9 nd:List Int),0<=x/\x<nd)/\(∀W:BitVec 64,at7 (ek nd es) lv.toNat W->dr8 nd W->∀u∈eo W,u∈(R9 nd:List Int))/\((true:Bool)=false->∀x∈(R9 nd:List Int),lv<=((Z6 (nbG nd es x) (R9 nd:List Int)).length:Int)) from ⟨(ae4.1<|bd0 hr).2,(ae4.1<|bd0 hr).1,(λW h1 h2 u hu=>bk9.2<|by have:=h2 u hu;have:=Em hu;omega),(λh=>by cases h)⟩) (cx2<|Aa (Da C<|by first|rfl|simp)<|Aa (Da C<|by first|rfl|simp) Bb) (show Fit κ _ (vk 3 ar aw (R9 nd)::e8 b1 [e7 nd,va] 38::I) from Az) ?_
 rintro ⟨a,c,l,ag⟩ hp
 dsimp only at hp ⊢
 obtain ⟨aa,ad,ap,a8⟩:=hp
 have a9:l.length<=64:=ca0 aa (λx hx=>by have:=ad x hx;omega)
 refine Ax<|Al<|Gm C<|Ar<|Ds C (λc12=>?_)<|λc12=>?_
 ·refine Bc (Ak<|A7<|Al<|Ga C<|Ar<|Al<|Gm C<|Gr (Bn Ac C)<|Gm C<|Ar<|A7<|B9 (σ:=Nat×(Option Addr)×Nat×(List Int)×Bool×(List Item)) (λs=>([(1,e7 lv),(2,pt b1),(5,.slice s.2.1 s.2.2.2.1.length s.2.2.1),(6,.bool<|s.2.2.2.2.1),(13,.slice a l.length c),(14,e7 ((l.length:Nat):Int)),(15,e7 ((s.1:Nat):Int))]:Env)) (λs=>e8 b1 [e7 nd,va] 38::(s.2.2.2.2.2++I)) (λs=>(s.1<=l.length)/\(Sl κ s.2.2.2.2.2 (.slice a l.length c) l)/\(∃R,s.2.2.2.2.2=vk 3 s.2.1 s.2.2.1 s.2.2.2.1::R)/\(s.2.2.2.1.Pairwise (λx0 x1:Int=>x0<x1))/\(∀x∈s.2.2.2.1,x∈l)/\(∀W:BitVec 64,at7 (ek nd es) lv.toNat W->dr8 nd W->∀u∈eo W,u∈s.2.2.2.1)/\(s.2.2.2.2.1=false->s.2.2.2.1=l/\∀i:Nat,i<s.1->lv<=((Z6 (nbG nd es<|e_ l i) l).length:Int))/\(∀i:Nat,s.1<=i->i<l.length->e_ l i∈s.2.2.2.1)/\(s.2.2.2.1.length+s.2.2.2.2.1.toNat<=l.length/\(s.2.2.2.2.1=true->s.2.2.2.1.length<l.length))) (λs=>(l.length - s.1)) (0,a,c,l,false,[vk 3 a c l]) (show ((0:Nat)<=l.length)/\(Sl κ ([vk 3 a c l]:List Item) (.slice a l.length c) l)/\(∃R,([vk 3 a c l]:List Item)=vk 3 (a:Option Addr) (c:Nat) (l:List Int)::R)/\((l:List Int).Pairwise (λx0 x1:Int=>x0<x1))/\(∀x∈(l:List Int),x∈l)/\(∀W:BitVec 64,at7 (ek nd es) lv.toNat W->dr8 nd W->∀u∈eo W,u∈(l:List Int))/\((false:Bool)=false->(l:List Int)=l/\∀i:Nat,i<(0:Nat)->lv<=((Z6 (nbG nd es<|e_ l i) l).length:Int))/\(∀i:Nat,(0:Nat)<=i->i<l.length->e_ l i∈(l:List Int))/\((l:List Int).length+(false:Bool).toNat<=l.length/\((false:Bool)=true->(l:List Int).length<l.length)) from ⟨om,(Cy A_),⟨[],rfl⟩,aa,(λx hx=>hx),ap,(λ_=>⟨rfl,λi hi=>by omega⟩),(λi _ hi=>Bo om om),⟨by simp,λh=>by cases h⟩⟩) (cx2<|Aa (Da C<|by first|rfl|simp)<|Aa (Da C<|by first|rfl|simp)<|cx2<|Aa Cl Bb) (show Fit κ _ (e8 b1 [e7 nd,va] 38::(([vk 3 a c l])++I)) from (Fit.gi4 (A:=[e8 b1 [e7 nd,va] 38]))) ?_)
  rintro ⟨j,a2,c2,m,ak,Y2⟩ hp
  dsimp only at hp ⊢
  obtain ⟨hj,an,az,M,ab,ae,aq,aj,a7⟩:=hp
  have ba:m.length<=64:=ca0 M (λx hx=>by have:=ad x (ab x hx);omega)
  have ax:Sl κ Y2 (.slice a2 m.length c2) m:=by obtain ⟨R,rfl⟩:=az;exact Cy A_
  refine Al<|Gr (Bm C C)<|Ar<|Ax<|Ao C (λa3=>?_)<|λa3=>?_
  ·refine Bc (Ak<|Ax<|A7<|Al<|Gr (A1 (α:=Int) (xs:=l) Ac ef C C (Bd an<|C4<|Kg (Hs _ I)<|Gq ([e8 b1 [e7 nd,va] 38]:List Item)<|Y2++I) om om)<|Gr (B8 (xs:=l) ef C (Bd an<|C4<|Kg (Hs _ I)<|Gq ([e8 b1 [e7 nd,va] 38]:List Item)<|Y2++I) om om)<|Ga C ?_)
   have ao:=aj j (Gi _) om
   refine Ar<|Al<|Gl2 K0 ?_
   refine Gm C<|G.e (Ab c_ C C<|ae5 (nd:=nd) (A3 hl) (e_ l j) om) ?_
   rintro _ _ ⟨_,_,⟨av,au,rfl,rfl⟩,rfl,rfl⟩
   have a1:=K1 nd es (e_ l j)
   refine Gm C<|G.e (Ab c_ C C<|dp8 A5 (Bd ax<|C4<|Kg (Hs _ I)<|Gq ([vk 3 av au (nbG nd es<|e_ l j),e8 b1 [e7 nd,va] 38]:List Item)<|Y2++I)<|by first|omega|(have:=K1 nd es (e_ l j);omega)) ?_
   rintro _ _ ⟨_,_,⟨a6,a4,rfl,rfl⟩,rfl,rfl⟩
   refine Gr (Bn Ac C)<|Gm C<|Gr (Bm C C)<|Ar<|A0 (S9 26 8 1 2 5 6 13 14 15)<|Ao C (λai=>?_)<|λai=>?_
   ·refine A6 (Gm C<|Gm C<|Ge1 (B1 (α:=Int) (cs:=[_]) (xs:=[e_ l j]) Ac ef C C dc dc C C C C) λa5=>?_)
    refine G.e (Ab c_ C C<|cq3 (Bd ax<|C4<|Kg (Hs _ I)<|Gq ([vc 3 (.slice a5 1 1) (([e_ l j]:List Int)),vc 3 (.slice a6 (Z6 (nbG nd es<|e_ l j) m).length a4)<|Z6 (nbG nd es<|e_ l j) m,vc 3 (.slice av (nbG nd es<|e_ l j).length au)<|nbG nd es<|e_ l j,e8 b1 [e7 nd,va] 38]:List Item)<|Y2++I) A5<|by first|omega|(have:=K1 nd es (e_ l j);omega)) ?_
    rintro _ _ ⟨_,_,⟨ay,ah,rfl,rfl⟩,rfl,rfl⟩
    exact Ga C<|Ga C<|Bq<|Au<|Ak<|A0 (S7 6 5 1 2 13 14 15)<|A6<|Gr (Rad C C)<|Gm C<|Bq<|Bu ((j+1),(ay),(ah),(V8 m ([e_ l j]:List Int)),(true),((vk 3 ay ah (V8 m ([e_ l j]:List Int))::Y2))) (by dsimp only;exact ⟨om,(Bd an<|Ff<|De _),⟨Y2,rfl⟩,((T1 m).sublist Hi),(λx hx=>ab x (an7.1 hx).1),(dk6 hG (λy hy=>ad y<|ab y hy) ae ao ai),(λh=>by cases h),(λi h1 h2=>an7.2 ⟨aj i om h2,λe=>by have:=dn0 aa h2 (show j<l.length by omega) e;omega⟩),(by have:=df6 M ao;exact ⟨by simp;omega,λ_=>by omega⟩)⟩) (hI:=by (try dsimp only);exact (by first|exact Az|exact Ai))
   exact Bc<|Au<|Ak<|A6<|Gr (Rad C C)<|Gm C<|Bq<|Bu ((j+1),(a2),(c2),(m),(ak),(Y2)) (by dsimp only;exact ⟨om,om,om,om,om,om,(λh=>by obtain ⟨e,h2⟩:=aq h;refine ⟨e,λi hi=>?_⟩;by_cases e2:i=j;(· subst e2;rw [e] at ai;omega);(· exact h2 i om)),(λi h1 h2=>aj i om h2),om⟩) (hI:=by (try dsimp only);exact (by first|exact Az|exact Ai))
  refine Cg<|Aw<|Aw<|Bi<|Au ?_
  obtain ⟨R,rfl⟩:=az
  exact Bu ((a2),(c2),(m),(ak)) (by dsimp only;exact ⟨M,(λx hx=>ad x<|ab x hx),ae,(λh=>by obtain ⟨e,h2⟩:=aq h;subst e;intro x hx;obtain ⟨i,hi,rfl⟩:=ar2 hx;exact h2 i om)⟩) (hlt:=by (try dsimp only);exact (by have a0:ag=true:=(by simpa using c12);subst a0;cases ak<;>simp at a7 ⊢ <;>omega)) (hI:=by (try dsimp only);exact (Fit.vcR (A:=[e8 b1 [e7 nd,va] 38])))
 refine Cg<|Aw<|Aw<|Bi<|Ak<|Al<|Gm C<|Ga C<|Ar<|B3 ?_
 have hE:l=U9 nd es lv:=dk4 hG aa ad (a8<|by simpa using c12) ap
 subst hE
 exact Am C C (vk 3 a c (U9 nd es lv)::I) Az ⟨a,c,rfl,rfl⟩
end Go.Sl
namespace Go.Sl
variable{w x y:Nat}
section
variable {n:Nat}{e e':Nat->Nat->Bool}{u v:Nat}
structure L5 (n:Nat) (e e':Nat->Nat->Bool) (u v:Nat):Prop where
 adj:fs3 n e
 lu:u<n
 lv:v<n
 ne:u≠v
 no:e u v=false
 is:∀x y,e' x y=(e x y||(decide (x=u/\y=v)||decide (x=v/\y=u)))
theorem du6(k:Int):prs (k+1)=prs k+k:=by
 unfold prs
 have M:(k+1)*(k+1 - 1)=k*k+k:=by rw [Int.add_sub_cancel,Int.add_mul,Int.one_mul]
 have h2:k*(k - 1)=k*k - k:=by rw [Int.mul_sub,Ml]
 rw [M,h2];omega
theorem L5.oth(h:L5 n e e' u v)(hu:x≠u\/y≠v)(hv:x≠v\/y≠u):e' x y=e x y:=by
 rw [h.is,D_<|by omega,D_<|by omega,Bool.or_false,Bool.or_false]
theorem L5.uv(h:L5 n e e' u v):e' u v=true/\e' v u=true:=by
 constructor
 ·rw [h.is,As (show u=u/\v=v from ⟨rfl,rfl⟩)];simp
 rw [h.is,As (show v=v/\u=u from ⟨rfl,rfl⟩)];simp
theorem L5.no'(h:L5 n e e' u v):e v u=false:=by rw [h.adj.sym];exact h.no
theorem L5.swap(h:L5 n e e' u v):L5 n e e' v u:=⟨h.adj,h.lv,h.lu,h.ne.symm,h.no',λx y=>by rw [h.is,Bool.or_comm (decide _)]⟩
theorem L5.fp6(h:L5 n e e' u v):fs3 n e':=by
 refine ⟨λx y=>?_,λx=>?_⟩
 ·rw [h.is,h.is,h.adj.sym x y,Bool.or_comm<|decide<|x=u/\y=v]
  congr 2
  ·rw [Fw];omega
  rw [Fw];omega
 rw [h.is,h.adj.irr,D_<|by have:=h.ne;omega,D_<|by have:=h.ne;omega];rfl
theorem aw8(h:fs3 n e)(x y:Nat):coN n e x y=coN n e y x:=by
 unfold coN
 by_cases hq:x=y
 ·rw [B_ hq,B_ hq.symm]
 rw [An hq,An<|Mi hq]
 exact p4 n λz _=>by rw [Ln]
theorem L5.gg7(h:L5 n e e' u v)(M:y≠u)(h2:y≠v):coN n e' u y=coN n e u y+ind (e v y):=by
 unfold coN
 rw [An (Mi M),An (Mi M),ap7 h.lv (g:=λx=>ind (e u x&&e y x)) (h:=λx=>ind (e' u x&&e' y x)) λj _ hj=>by
  rw [h.oth (x:=u) (y:=j) (.inr hj) (.inl h.ne),h.oth (x:=y) (y:=j) (.inl M) (.inl h2)]]
 rw [h.uv.1,h.oth (x:=y) (y:=v) (.inl M)<|.inl h2,h.no,h.adj.sym y v,Kq,Jx,ar7]
 omega
theorem L5.gg6(h:L5 n e e' u v):coN n e' u v=coN n e u v:=by
 unfold coN
 rw [An h.ne,An h.ne]
 refine p4 n λz _=>?_
 by_cases hz:z=v
 ·subst hz;rw [h.fp6.irr,h.adj.irr];simp
 by_cases hz2:z=u
 ·subst hz2;rw [h.fp6.irr,h.adj.irr];simp
 rw [h.oth (x:=u) (y:=z) (.inr hz) (.inr hz2),h.oth (x:=v) (y:=z) (.inr hz)<|.inr hz2]
theorem L5.fz5(h:L5 n e e' u v)(x1:x≠u)(M:x≠v)(y1:y≠u)(y2:y≠v):coN n e' x y=coN n e x y:=by
 unfold coN
 by_cases hq:x=y
 ·rw [B_ hq,B_ hq]
 rw [An hq,An hq]
 exact p4 n λz _=>by rw [h.oth (x:=x) (y:=z) (.inl x1) (.inl M),h.oth (x:=y) (y:=z) (.inl y1)<|.inl y2]
theorem bq0(k:Int)(p:Bool):prs (k+ind p)=prs k+if p=true then k else 0:=by
 cases p with
 |true=>rw [ct8,du6,B_ rfl]
 |false=>rw [ar7,Kc,An<|by decide,Kc]
def ovr(e:Nat->Nat->Bool)(u v a b:Nat):Bool:=e u a&&e v b&&e a b
theorem dh8(p:Bool)(q:Nat->Bool):p8 n (λz=>ind (p&&q z))=if p=true then p8 n (λz=>ind (q z)) else 0:=by
 cases p with
 |true=>rw [B_ rfl];exact p4 n λz _=>by rw [Kq]
 |false=>rw [An (by decide)];exact R3 n λz _=>by rw [Jx];rfl
theorem L5.fh9(h:L5 n e e' u v):ai1 n e' u=ai1 n e u+p8 n λa=>p8 n λb=>ind (ovr e u v a b):=by
 have h1:p8 n (λa=>p8 n λb=>ind<|ovr e u v a b)=p8 n λy=>if e v y=true then coN n e u y else 0:=by
  rw [G6 n n λa b=>ind<|ovr e u v a b]
  refine p4 n λb _=>?_
  have:(λa=>ind<|ovr e u v a b)=λa=>ind (e v b&&(e u a&&e b a)):=funext λa=>by
   unfold ovr;rw [h.adj.sym a b];congr 1
   cases e u a<;>cases e v b<;>cases e b a<;>rfl
  rw [this,dh8 (e v b) λa=>e u a&&e b a]
  by_cases hb:e v b=true
  ·have M:u≠b:=λq=>by rw [←q,h.no'] at hb;cases hb
   rw [B_ hb,B_ hb];unfold coN;rw [An M]
  rw [An hb,An hb]
 rw [h1]
 unfold ai1
 rw [←F9]
 refine p4 n λy _=>?_
 by_cases hu:y=u
 ·subst hu
  rw [An (by rw [h.no'];decide)]
  unfold coN;rw [B_ rfl,B_ rfl];omega
 by_cases hv:y=v
 ·subst hv;rw [h.gg6,h.adj.irr,An<|by decide,Kc]
 rw [h.gg7 hu hv,bq0]
theorem L5.fv9(h:L5 n e e' u v):ai1 n e' v=ai1 n e v+p8 n λa=>p8 n λb=>ind (ovr e u v a b):=by
 rw [h.swap.fh9,G6 n n λa b=>ind<|ovr e v u a b]
 congr 1
 refine p4 n λa _=>p4 n λb _=>?_
 unfold ovr
 rw [h.adj.sym b a,Ln<|e v b]
theorem L5.du2(h:L5 n e e' u v)(M:w≠u)(w2:w≠v):ai1 n e' w=ai1 n e w+p8 n (λb=>ind (ovr e u v w b))+p8 n λa=>ind (ovr e u v a w):=by
 have ha:p8 n (λb=>ind<|ovr e u v w b)=if e u w=true then coN n e w v else 0:=by
  have:(λb=>ind<|ovr e u v w b)=λb=>ind (e u w&&(e w b&&e v b)):=funext λb=>by
   unfold ovr;congr 1
   cases e u w<;>cases e v b<;>cases e w b<;>rfl
  rw [this,dh8 (e u w) λb=>e w b&&e v b]
  unfold coN;rw [An w2]
 have hb:p8 n (λa=>ind<|ovr e u v a w)=if e v w=true then coN n e w u else 0:=by
  have:(λa=>ind<|ovr e u v a w)=λa=>ind (e v w&&(e w a&&e u a)):=funext λa=>by
   unfold ovr;rw [h.adj.sym a w];congr 1
   cases e u a<;>cases e v w<;>cases e w a<;>rfl
  rw [this,dh8 (e v w) λa=>e w a&&e u a]
  unfold coN;rw [An M]
 rw [ha,hb]
 have h1:ai1 n e' w=p8 n λy=>prs (coN n e w y)+((if y=v then (if e u w=true then coN n e w v else 0) else 0)+(if y=u then (if e v w=true then coN n e w u else 0) else 0)):=by
  unfold ai1
  refine p4 n λy _=>?_
  by_cases hu:y=u
  ·subst hu
   rw [An h.ne,B_ rfl,aw8 h.fp6 w y,h.gg7 M w2,bq0,aw8 h.adj y w];omega
  by_cases hv:y=v
  ·subst hv
   rw [B_ rfl,An hu,aw8 h.fp6 w y,h.swap.gg7 w2 M,bq0,aw8 h.adj y w];omega
  rw [An hv,An hu,h.fz5 M w2 hu hv];omega
 rw [h1,F9,F9,R8 h.lv,R8 h.lu]
 unfold ai1
 omega
def occ(n:Nat)(e:Nat->Nat->Bool)(u v w:Nat):Int:=p8 n λa=>p8 n λb=>if ovr e u v a b=true then (((ind (decide (u=w))+ind (decide (v=w)))+ind (decide (a=w)))+ind (decide (b=w))) else 0
theorem L5.fs5(h:L5 n e e' u v)(hw:w<n):ai1 n e' w=ai1 n e w+occ n e u v w:=by
 have hp:∀a b,ovr e u v a b=true->a≠u/\a≠v/\b≠u/\b≠v:=λa b M=>by
  unfold ovr at M
  rw [Hh,Hh] at M
  obtain ⟨⟨h1,h2⟩,_⟩:=M
  exact ⟨λq=>(by rw [q,h.adj.irr] at h1;cases h1),λq=>(by rw [q,h.no] at h1;cases h1),λq=>(by rw [q,h.no'] at h2;cases h2),λq=>(by rw [q,h.adj.irr] at h2;cases h2)⟩
 by_cases w1:w=u
 ·subst w1
  rw [h.fh9]
  congr 1
  refine p4 n λa _=>p4 n λb _=>?_
  by_cases M:ovr e w v a b=true
  ·obtain ⟨q1,q2,q3,q4⟩:=hp a b M
   rw [B_ M,M,As rfl,D_ h.ne.symm,D_ q1,D_ q3];rfl
  rw [An M];unfold ind;rw [An M]
 by_cases w2:w=v
 ·subst w2
  rw [h.fv9]
  congr 1
  refine p4 n λa _=>p4 n λb _=>?_
  by_cases M:ovr e u w a b=true
  ·obtain ⟨q1,q2,q3,q4⟩:=hp a b M
   rw [B_ M,M,As rfl,D_ h.ne,D_ q2,D_ q4];rfl
  rw [An M];unfold ind;rw [An M]
 rw [h.du2 w1 w2,Int.add_assoc]
 congr 1
 have h1:occ n e u v w=p8 n (λa=>p8 n λb=>(if a=w then ind (ovr e u v a b) else 0)+(if b=w then ind (ovr e u v a b) else 0)):=by
  refine p4 n λa _=>p4 n λb _=>?_
  by_cases M:ovr e u v a b=true
  ·rw [B_ M,M,D_<|Mi w1,D_<|Mi w2,dh9,dh9,ct8,ar7];omega
  have h0:ind (ovr e u v a b)=0:=by unfold ind;rw [An M]
  rw [An M,h0];split<;>split<;>rfl
 rw [h1]
 have h2:∀a,p8 n (λb=>(if a=w then ind (ovr e u v a b) else 0)+(if b=w then ind (ovr e u v a b) else 0))=(if a=w then p8 n (λb=>ind<|ovr e u v w b) else 0)+ind (ovr e u v a w):=λa=>by
  rw [F9]
  congr 1
  ·by_cases ha:a=w
   ·subst ha;rw [B_ rfl];exact p4 n λb _=>B_ rfl
   rw [An ha];exact R3 n λb _=>An ha
  rw [←R8 hw (ind<|ovr e u v a w)]
  refine p4 n λb _=>?_
  by_cases hb:b=w
  ·subst hb;simp
  rw [An hb,An hb]
 rw [p4 n λa _=>h2 a,F9,R8 hw]
def gb9(n:Nat)(e:Nat->Nat->Bool)(u v:Nat):Int:=p8 n λa=>p8 n λb=>ind (ovr e u v a b)
theorem fm4(h:L5 n e e' u v):p8 n (occ n e u v)=4*gb9 n e u v:=by
 have h1:∀a,a<n->∀b,b<n->p8 n (λw=>if ovr e u v a b=true then (((ind (decide<|u=w)+ind (decide<|v=w))+ind (decide<|a=w))+ind (decide<|b=w)) else 0)=4*ind (ovr e u v a b):=λa ha b hb=>by
  have one:∀k,k<n->p8 n (λw=>ind<|decide<|k=w)=1:=λk hk=>by
   rw [←R8 hk 1]
   refine p4 n λw _=>?_
   rw [dh9]
   by_cases q:w=k
   ·rw [B_ q.symm,B_ q]
   rw [An (Mi q),An q]
  by_cases hab:ovr e u v a b=true
  ·rw [p4 n λw _=>B_ hab,F9,F9,F9,one u h.lu,one v h.lv,one a ha,one b hb,hab];rfl
  rw [R3 n λw _=>An hab];unfold ind;rw [An hab];rfl
 have M:∀(m:Nat) (g:Nat->Int),p8 m (λk=>4*g k)=4*p8 m g:=λm g=>by
  induction m with
  |zero=>rfl
  |succ m ih=>
   show p8 m _+4*g m=4*(p8 m g+g m)
   rw [ih];omega
 unfold occ
 rw [G6 n n λw a=>p8 n λb=>if ovr e u v a b=true then (((ind (decide<|u=w)+ind (decide<|v=w))+ind (decide<|a=w))+ind (decide<|b=w)) else 0]
 rw [p4 n λa ha=>(G6 n n λw b=>if ovr e u v a b=true then (((ind (decide<|u=w)+ind (decide<|v=w))+ind (decide<|a=w))+ind (decide<|b=w)) else 0).trans ((p4 n λb hb=>h1 a ha b hb).trans (M n _))]
 rw [M];rfl
theorem L5.all(h:L5 n e e' u v):bw3 n e'=bw3 n e+gb9 n e u v:=by
 have M:=bd1 h.fp6
 have h2:=bd1 h.adj
 have h3:=fm4 h
 rw [p4 n λw hw=>h.fs5 hw,F9] at M
 omega
end
end Go.Sl
namespace Go.Sl
section
variable {n:Nat}{e e':Nat->Nat->Bool}{u v:Nat}
def cc5(n:Nat)(e:Nat->Nat->Bool)(w:Nat):Int:=p8 n λx=>p8 n λy=>ind (e x y&&(e w x&&e w y))
theorem cd4{p q:Nat}(hp:p<n)(M:q<n)(c d:Int)(g:Nat->Int):p8 n (λx=>g x+((if x=p then c else 0)+(if x=q then d else 0)))=p8 n g+(c+d):=by
 rw [F9,F9,R8 hp,R8 M]
theorem L5.fj6(h:L5 n e e' u v){w:Nat}(w1:w≠u)(w2:w≠v):cc5 n e' w=cc5 n e w+2*ind (e u w&&e v w):=by
 have aa:∀x,p8 n (λy=>ind<|e' x y&&(e' w x&&e' w y))=p8 n (λy=>ind<|e x y&&(e w x&&e w y))+((if x=u then ind (e u w&&e v w) else 0)+(if x=v then ind (e u w&&e v w) else 0)):=λx=>by
  have M:∀z,e' w z=e w z:=λz=>h.oth (.inl w1) (.inl w2)
  by_cases hx:x=u
  ·subst hx
   rw [B_ rfl,An h.ne,Kc,ap7 h.lv (g:=λy=>ind<|e x y&&(e w x&&e w y)) λj _ hj=>by rw [M,M,h.oth (.inr hj)<|.inl h.ne]]
   rw [M,M,h.uv.1,h.no,h.adj.sym x w,h.adj.sym v w,Kq,Jx,ar7];omega
  by_cases hv:x=v
  ·subst hv
   rw [An hx,B_ rfl,Mq,ap7 h.lu (g:=λy=>ind<|e x y&&(e w x&&e w y)) λj _ hj=>by rw [M,M,h.oth (.inl hx)<|.inr hj]]
   rw [M,M,h.uv.2,h.no',h.adj.sym x w,h.adj.sym u w,Kq,Jx,ar7,Ln];omega
  rw [An hx,An hv]
  rw [p4 n λy _=>by rw [M,M,h.oth (x:=x) (y:=y) (.inl hx)<|.inl hv]];omega
 unfold cc5
 rw [p4 n λx _=>aa x,cd4 h.lu h.lv];omega
theorem L5.fu5(h:L5 n e e' u v):cc5 n e' u=cc5 n e u+2*coN n e u v:=by
 have hp:∀x y,ind (e' x y&&(e' u x&&e' u y))=ind (e x y&&(e u x&&e u y))+((if x=v then ind (e u y&&e v y) else 0)+(if y=v then ind (e u x&&e v x) else 0)):=λx y=>by
  by_cases hx:x=v
  ·subst hx
   rw [B_ rfl,h.uv.1,h.no]
   by_cases hy:y=x
   ·subst hy;rw [h.fp6.irr,h.adj.irr,h.no];simp [ind]
   rw [An hy]
   by_cases hu:y=u
   ·subst hu;rw [h.fp6.irr,h.adj.irr];simp [ind]
   rw [h.oth (x:=x) (y:=y) (.inl h.ne.symm) (.inr hu),h.oth (x:=u) (y:=y) (.inr hy)<|.inl h.ne,Kq,Jx,Mb,ar7,Ln];omega
  rw [An hx,h.oth (x:=u) (y:=x) (.inr hx)<|.inl h.ne]
  by_cases hy:y=v
  ·subst hy
   rw [B_ rfl,h.uv.1,h.no]
   by_cases hu:x=u
   ·subst hu;rw [h.adj.irr];simp [ind]
   rw [h.oth (x:=x) (y:=y) (.inl hu) (.inl hx),h.adj.sym x y,Bool.and_true,Mb,Mb,ar7,Ln];omega
  rw [An hy,h.oth (x:=u) (y:=y) (.inr hy)<|.inl h.ne,h.oth (x:=x) (y:=y) (.inr hy)<|.inl hx];omega
 unfold cc5
 rw [p4 n λx _=>p4 n λy _=>hp x y]
 have M:∀x,p8 n (λy=>ind (e x y&&(e u x&&e u y))+((if x=v then ind (e u y&&e v y) else 0)+(if y=v then ind (e u x&&e v x) else 0)))=p8 n (λy=>ind<|e x y&&(e u x&&e u y))+((if x=v then coN n e u v else 0)+ind (e u x&&e v x)):=λx=>by
  rw [F9,F9,R8 h.lv]
  congr 2
  by_cases hx:x=v
  ·rw [B_ hx];unfold coN;rw [An h.ne];exact p4 n λy _=>B_ hx
  rw [An hx];exact R3 n λy _=>An hx
 rw [p4 n λx _=>M x,F9,F9,R8 h.lv]
 have h3:p8 n (λx=>ind<|e u x&&e v x)=coN n e u v:=by unfold coN;rw [An h.ne]
 rw [h3];omega
theorem L5.gd1(h:L5 n e e' u v):cc5 n e' v=cc5 n e v+2*coN n e u v:=by rw [h.swap.fu5,aw8 h.adj]
theorem L5.tri(h:L5 n e e' u v)(w:Nat):cc5 n e' w=cc5 n e w+2*ind (e u w&&e v w)+((if w=u then 2*coN n e u v else 0)+(if w=v then 2*coN n e u v else 0)):=by
 by_cases w1:w=u
 ·subst w1;rw [h.fu5,B_ rfl,An h.ne,h.adj.irr,Jx,ar7];omega
 by_cases w2:w=v
 ·subst w2;rw [h.gd1,An w1,B_ rfl,h.adj.irr,Mb,ar7];omega
 rw [h.fj6 w1 w2,An w1,An w2];omega
theorem db8(m:Nat)(g:Nat->Int):p8 m (λk=>2*g k)=2*p8 m g:=by
 induction m with
 |zero=>rfl
 |succ m ih=>show p8 m _+2*g m=2*(p8 m g+g m);rw [ih];omega
theorem L5.fj9(h:L5 n e e' u v):p8 n (cc5 n e')=p8 n (cc5 n e)+6*coN n e u v:=by
 rw [p4 n λw _=>h.tri w,cd4 h.lu h.lv,F9,db8]
 have M:p8 n (λx=>ind<|e u x&&e v x)=coN n e u v:=by unfold coN;rw [An h.ne]
 rw [M];omega
def dz2(n:Nat)(e:Nat->Nat->Bool)(v:Nat):Int:=p8 n λx=>ind (e v x)
theorem L5.deg(h:L5 n e e' u v)(w:Nat):dz2 n e' w=dz2 n e w+ind (decide (w=u)||decide (w=v)):=by
 unfold dz2
 by_cases hu:w=u
 ·subst hu
  rw [As rfl,Bool.true_or,ct8,ap7 h.lv (g:=λx=>ind<|e w x) λj _ M=>by rw [h.oth (.inr M) (.inl h.ne)],h.uv.1,h.no];rfl
 by_cases hv:w=v
 ·subst hv
  rw [As rfl,Bool.or_true,ct8,ap7 h.lu (g:=λx=>ind<|e w x) λj _ M=>by rw [h.oth (.inl hu) (.inr M)],h.uv.2,h.no'];rfl
 rw [D_ hu,D_ hv,Bool.or_false,ar7,Kc]
 exact p4 n λx _=>by rw [h.oth (.inl hu) (.inl hv)]
theorem L5.ft4(h:L5 n e e' u v):p8 n (λw=>prs (dz2 n e' w))=p8 n (λw=>prs (dz2 n e w))+(dz2 n e u+dz2 n e v):=by
 rw [←cd4 h.lu h.lv]
 refine p4 n λw _=>?_
 rw [h.deg,bq0]
 by_cases hu:w=u
 ·subst hu;rw [B_ rfl,An h.ne,As rfl,Bool.true_or,B_ rfl];omega
 by_cases hv:w=v
 ·subst hv;rw [An hu,B_ rfl,As rfl,Bool.or_true,B_ rfl];omega
 rw [An hu,An hv,D_ hu,D_ hv,Bool.or_false,An<|by decide];omega
end
end Go.Sl
namespace Go.Sl
open Go.Proofs
set_option maxRecDepth 4000
variable{x y:Int}
section
variable {nd:Int}{es es':List Pt}{u v:Int}
theorem ag7(M:s8 nd es):y∈nbG nd es x↔(⟨x,y⟩:Pt)∈es\/(⟨y,x⟩:Pt)∈es:=by
 unfold nbG
 rw [An (by rw [s4.2 M];decide),af5,an6]
theorem df5(nd:Int)(es:List Pt)(x:Int):(nbG nd es x).Pairwise (λM x1:Int=>M<x1):=by
 rw [←cs9];exact ae0 _
theorem ab9(nd:Int)(es:List Pt)(x:Int):(nbG nd es x).Nodup:=(df5 nd es x).imp λh=>by omega
theorem N4(M:s8 nd es)(h:y∈nbG nd es x):(0<=x/\x<nd)/\(0<=y/\y<nd)/\x≠y:=by
 rcases (ag7 M).1 h with h|h
 ·have:=M.aa9 _ h;simp only at this;omega
 have:=M.aa9 _ h;simp only at this;omega
theorem ai3(M:s8 nd es)(h:y∈nbG nd es x):x∈nbG nd es y:=(ag7 M).2 ((ag7 M).1 h).symm
structure R7 (nd:Int) (es es':List Pt) (u v:Int):Prop where
 ok:s8 nd es
 ok':s8 nd es'
 ends:F5 nd u v
 no:j4 u v∉es
 mem:∀p,p∈es'↔p∈es\/p=j4 u v
theorem R7.add(M:s8 nd es)(he:F5 nd u v)(hn:j4 u v∉es):R7 nd es (z8 Pt.lt es (j4 u v)) u v:=⟨M,M.add he,he,hn,λp=>by rw [ar1];exact Or.comm⟩
theorem R7.rem(M:s8 nd es)(he:F5 nd u v)(hm:j4 u v∈es):R7 nd (j7 es (j4 u v)) es u v:=by
 refine ⟨M.rem,M,he,λh=>?_,λp=>?_⟩
 ·unfold j7 at h
  exact Fu (Gp.1 h).2 rfl
 unfold j7
 rw [Gp,Gs]
 constructor
 ·intro h
  by_cases e:p=j4 u v
  ·exact .inr e
  exact .inl ⟨h,e⟩
 rintro (h|h)
 ·exact h.1
 rw [h];exact hm
theorem dj8{nd:Int}(M:F5 nd u v)(x y:Int):((⟨x,y⟩:Pt)=j4 u v\/(⟨y,x⟩:Pt)=j4 u v)↔(x=u/\y=v)\/(x=v/\y=u):=by
 rcases co3 M with ⟨h,_⟩|⟨h,_⟩
 ·rw [h,Dd,Dd];simp only;omega
 rw [h,Dd,Dd];simp only;omega
theorem R7.nb(h:R7 nd es es' u v)(x y:Int):y∈nbG nd es' x↔y∈nbG nd es x\/(x=u/\y=v)\/(x=v/\y=u):=by
 rw [ag7 h.ok',ag7 h.ok,h.mem,h.mem,←dj8 h.ends]
 constructor
 ·rintro ((a|b)|(a|b))
  ·exact .inl<|.inl a
  ·exact .inr<|.inl b
  ·exact .inl<|.inr a
  exact .inr<|.inr b
 rintro ((a|a)|(b|b))
 ·exact .inl<|.inl a
 ·exact .inr<|.inl a
 ·exact .inl<|.inr b
 exact .inr<|.inr b
theorem R7.nuv(h:R7 nd es es' u v):v∉nbG nd es u/\u∉nbG nd es v:=by
 have M:∀a b:Int,((⟨a,b⟩:Pt)∈es\/(⟨b,a⟩:Pt)∈es)->j4 a b∈es:=λa b hh=>by
  rcases hh with hh|hh
  ·have:=h.ok.aa9 _ hh
   simp only at this
   unfold j4
   rw [An om,B_ om];exact hh
  have:=h.ok.aa9 _ hh
  simp only at this
  unfold j4
  rw [B_ om,An om];exact hh
 exact ⟨λhm=>h.no<|M _ _<|(ag7 h.ok).1 hm,λhm=>h.no<|by rw [cu1];exact M _ _<|(ag7 h.ok).1 hm⟩
def q7(nd x:Int):Prop:=0<=x/\x<nd
theorem R7.more(h:R7 nd es es' u v):bj5 (q7 nd) (nbG nd es) (nbG nd es') u v:=by
 have M:=h.ends
 unfold F5 at M
 exact dw1 ⟨M.1,M.2.2.1⟩ ⟨M.2.1,M.2.2.2.1⟩ M.2.2.2.2 (ab9 nd es) (ab9 nd es') h.nuv.1 h.nuv.2 h.nb
theorem bg1(M:s8 nd es)(l:List Int)(x:Int):ao8 (nbG nd es) (λy=>decide (y∈l)) x=(Z6 (nbG nd es x) l).length:=by
 unfold ao8
 refine ((Ht ((ab9 nd es x).filter _) ?_).2 λy=>?_).length_eq
 ·unfold Z6;exact ((T1 _).imp λh=>by omega:(ofL<|nbG nd es x).Nodup).filter _
 rw [T3,Gp,Gs]
theorem as4(hG:s8 nd es):ae6 (q7 nd) (nbG nd es) λx=>(e_ (j9 nd es) x).toNat:=by
 intro x hx k
 have hr:=hG.rng
 show k<=(e_ (j9 nd es) x).toNat↔_
 constructor
 ·intro hk
  by_cases h0:k=0
  ·subst h0
   exact ⟨λy=> @decide (q7 nd y) (Classical.propDecidable _),⟨λy M=> @Fu _ (Classical.propDecidable _) M,λ_ _=>Mu _⟩, @As _ (Classical.propDecidable _) hx⟩
  obtain ⟨W,h1,h2,h3⟩:=by8 hG (k:=k) om
  refine ⟨λy=>decide<|y∈eo W,⟨λy M=>?_,λy M=>?_⟩,As<|h3 x hx.1 hx.2 om⟩
  ·have M:=Fu M;exact ⟨(Em M).1,h2 y M⟩
  have M:=Fu M
  rw [bg1 hG,←as2 hG (W:=W) (λz=>Iff.rfl) (Em M).1 (h2 y M)]
  exact h1 y M
 rintro ⟨X,hX,ad⟩
 have hm:∀y,y∈ae8 nd.toNat X↔X y=true:=λy=>by
  rw [ai4]
  exact ⟨λh=>h.2,λh=>⟨by have:=hX.dom y h;unfold q7 at this;omega,h⟩⟩
 have hl:=ai7 hr.2 (l:=ae8 nd.toNat X) λy M=>by have:=hX.dom y ((hm y).1 M);unfold q7 at this;exact this
 have hc:at7 (ek nd es) k (bd8<|ae8 nd.toNat X):=λy M=>by
  have aa:=(hm y).1 ((hl y).1 M)
  have ab:=hX.dom y aa
  rw [as2 hG hl ab.1 ab.2,←bg1 hG]
  refine Hd (hX.deg y aa)<|M8 λz _ hz=>As<|(hm z).2 hz
 have:=by9 hG hc (λy M=>(hX.dom y<|(hm y).1 ((hl y).1 M)).2) ((hl x).2 ((hm x).2 ad))
 omega
theorem ae6.uniq{V:Int->Prop}{nb:Int->List Int}{n m:Int->Nat}(h:ae6 V nb n)(h':ae6 V nb m)(M:V x):n x=m x:=
 Nat.le_antisymm ((h' x M _).2 ((h x M _).1 (Gi _))) ((h x M _).2 ((h' x M _).1 (Gi _)))
end
theorem ak6{a b:BitVec 64}{u:Int}:u∈eo (a ||| b)↔u∈eo a\/u∈eo b:=by
 simp only [D3,Lg,Km]
 constructor
 ·rintro ⟨M,h2|h2⟩
  ·exact .inl ⟨M,h2⟩
  exact .inr ⟨M,h2⟩
 rintro (⟨M,h2⟩|⟨M,h2⟩)
 ·exact ⟨M,.inl h2⟩
 exact ⟨M,.inr h2⟩
section
variable {nd:Int}{es es':List Pt}{u v k:Int}{F S A:BitVec 64}
theorem ba6(hG:s8 nd es){W:BitVec 64}(M:q7 nd x):Q4 (ek nd es) W x=ao8 (nbG nd es) (λy=>decide (y∈eo W)) x:=by
 rw [bg1 hG,as2 hG (W:=W) (λz=>Iff.rfl) M.1 M.2]
structure ft3 (rows:List (BitVec 64)) (F A:BitVec 64) (k:Int) (S:BitVec 64):Prop where
 sub:∀x∈eo S,x∈eo F
 deg:∀x∈eo S,k<=((Q4 rows (S ||| A) x:Nat):Int)
 most:∀T:BitVec 64,(∀x∈eo T,x∈eo F)->(∀x∈eo T,k<=((Q4 rows (T ||| A) x:Nat):Int))->∀x∈eo T,x∈eo S
structure gk1 (nd:Int) (es:List Pt) (N:List Int) (u v k:Int) (F:BitVec 64):Prop where
 lev:∀x∈eo F,q7 nd x/\e_ N x=k
 hu:e_ N u=k->u∈eo F
 hv:e_ N v=k->v∈eo F
 cl:∀x∈eo F,∀y∈nbG nd es x,e_ N y=k->y∈eo F
theorem fx8(hG:s8 nd es){T:Int->Bool}(M:∀x,T x=true->q7 nd x)(x:Int):x∈eo (bd8 (ae8 nd.toNat T))↔T x=true:=by
 have hr:=hG.rng
 rw [ai7 hr.2 (l:=ae8 nd.toNat T) (λy hy=>M y (ai4.1 hy).2),ai4]
 exact ⟨λh=>h.2,λh=>⟨by have:=M x h;unfold q7 at this;omega,h⟩⟩
theorem cu6(h:R7 nd es es' u v)(hk:k=min (e_ (j9 nd es) u) (e_ (j9 nd es) v))(hF:gk1 nd es' (j9 nd es) u v k F)(hA:∀x,x∈eo A↔q7 nd x/\k<e_ (j9 nd es) x)(hS:ft3 (ek nd es') F A (k+1) S)
  {x:Int} (hx:q7 nd x):e_ (j9 nd es') x=e_ (j9 nd es) x+if x∈eo S then 1 else 0:=by
 have he:=h.ends
 unfold F5 at he
 have hp:=λy (M:q7 nd y)=>T7 h.ok M.1 M.2
 have ai:=λy (M:q7 nd y)=>T7 h.ok' M.1 M.2
 have hu:q7 nd u:=⟨he.1,he.2.2.1⟩
 have hv:q7 nd v:=⟨he.2.1,he.2.2.2.1⟩
 have pu:=hp u hu
 have pv:=hp v hv
 have hX:∀(T:BitVec 64) y,(decide (y∈eo T)||upN (q7 nd) (λx=>(e_ (j9 nd es) x).toNat) (k.toNat+1) y)=decide (y∈eo (T ||| A)):=λT y=>by
  rw [Kd,av3,Q1,Gt,Gt,ak6,hA]
  constructor
  ·rintro (h1|⟨h1,h2⟩)
   ·exact .inl h1
   exact .inr ⟨h1,by omega⟩
  rintro (h1|⟨h1,h2⟩)
  ·exact .inl h1
  exact .inr ⟨h1,by have:=hp y h1;omega⟩
 have hc:=dz7 (as4 h.ok) h.more (λa b ha hb ad=>ai3 h.ok' ad) (k:=k.toNat) om (R:=λy=>decide<|y∈eo F) (S:=λy=>decide<|y∈eo S)
  (λy M=>by have:=hF.lev y (Fu M);exact ⟨this.1,by omega⟩) (λe=>As<|hF.hu om) (λe=>As<|hF.hv om)
  (λy z M hz ah ak=>As<|hF.cl y (Fu M) z hz<|by have:=hp z ah;omega)
  (λy M=>As<|hS.sub y<|Fu M)
  (λy M=>by
   have M:=Fu M
   have ae:=(hF.lev y<|hS.sub y M).1
   simp only [hX]
   rw [←ba6 h.ok' ae]
   have:=hS.deg y M;omega)
  (λT ab aj y M=>by
   have aa:∀z,T z=true->q7 nd z:=λz hz=>(hF.lev z<|Fu<|ab z hz).1
   have hm:=fx8 h.ok' aa
   refine As<|hS.most (bd8<|ae8 nd.toNat T) (λz hz=>Fu<|ab z<|(hm z).1 hz) (λz hz=>?_) y<|(hm y).2 M
   have hz:=(hm z).1 hz
   rw [ba6 h.ok' (aa z hz)]
   have h3:=aj z hz
   have h4:(λy=>T y||upN (q7 nd) (λx=>(e_ (j9 nd es) x).toNat) (k.toNat+1) y)=λy=>decide (y∈eo (bd8 (ae8 nd.toNat T) ||| A)):=funext λy=>by
    rw [←hX];congr 1
    rw [Kd,Gt];exact (hm y).symm
   rw [h4] at h3;omega)
 have h1:(e_ (j9 nd es') x).toNat=(e_ (j9 nd es) x).toNat+if decide (x∈eo S)=true then 1 else 0:=(as4 h.ok').uniq hc hx
 have h2:=hp x hx
 have h3:=ai x hx
 by_cases hs:x∈eo S
 ·rw [B_ (As hs)] at h1;rw [B_ hs];omega
 rw [An (λq=>hs<|Fu q)] at h1;rw [An hs];omega
theorem dk5(h:R7 nd es es' u v)(hk:k=min (e_ (j9 nd es') u) (e_ (j9 nd es') v))(hF:gk1 nd es' (j9 nd es') u v k F)(hA:∀x,x∈eo A↔q7 nd x/\k<=e_ (j9 nd es') x/\x∉eo F)(hS:ft3 (ek nd es) F A k S)
  {x:Int} (hx:q7 nd x):e_ (j9 nd es) x=e_ (j9 nd es') x - if x∈eo F/\x∉eo S then 1 else 0:=by
 have he:=h.ends
 unfold F5 at he
 have hp:=λy (M:q7 nd y)=>T7 h.ok M.1 M.2
 have aa:=λy (M:q7 nd y)=>T7 h.ok' M.1 M.2
 have hu:q7 nd u:=⟨he.1,he.2.2.1⟩
 have hv:q7 nd v:=⟨he.2.1,he.2.2.2.1⟩
 have pu:=aa u hu
 have pv:=aa v hv
 have hX:∀(T:BitVec 64) y,(decide (y∈eo T)||(upN (q7 nd) (λx=>(e_ (j9 nd es') x).toNat) k.toNat y && !decide (y∈eo F)))=decide (y∈eo (T ||| A)):=λT y=>by
  rw [Kd,av3,L8,Q1,Gt,Gt,ak6,hA,Kl,Lp]
  constructor
  ·rintro (h1|⟨⟨h1,h2⟩,h3⟩)
   ·exact .inl h1
   exact .inr ⟨h1,by have:=aa y h1;omega,h3⟩
  rintro (h1|⟨h1,h2,h3⟩)
  ·exact .inl h1
  exact .inr ⟨⟨h1,by have:=aa y h1;omega⟩,h3⟩
 have an:=h.more.pos (as4 h.ok')
 have hc:=dz8 (as4 h.ok') h.more (λa b ha hb ae=>ai3 h.ok' ae) (k:=k.toNat) om (R:=λy=>decide<|y∈eo F) (S:=λy=>decide<|y∈eo S)
  (λy M=>by have:=hF.lev y (Fu M);exact ⟨this.1,by omega⟩) (λe=>As<|hF.hu om) (λe=>As<|hF.hv om)
  (λy z M hz ai ak=>As<|hF.cl y (Fu M) z hz<|by have:=aa z ai;omega)
  (λy M=>As<|hS.sub y<|Fu M)
  (λy M=>by
   have M:=Fu M
   have ah:=(hF.lev y<|hS.sub y M).1
   simp only [hX]
   rw [←ba6 h.ok ah]
   have:=hS.deg y M;omega)
  (λT ad aj y M=>by
   have ab:∀z,T z=true->q7 nd z:=λz hz=>(hF.lev z<|Fu<|ad z hz).1
   have hm:=fx8 h.ok ab
   refine As<|hS.most (bd8<|ae8 nd.toNat T) (λz hz=>Fu<|ad z<|(hm z).1 hz) (λz hz=>?_) y<|(hm y).2 M
   have hz:=(hm z).1 hz
   rw [ba6 h.ok (ab z hz)]
   have h3:=aj z hz
   have h4:(λy=>T y||(upN (q7 nd) (λx=>(e_ (j9 nd es') x).toNat) k.toNat y && !decide (y∈eo F)))=λy=>decide (y∈eo (bd8 (ae8 nd.toNat T) ||| A)):=funext λy=>by
    rw [←hX];congr 1
    rw [Kd,Gt];exact (hm y).symm
   rw [h4] at h3;omega)
 have h1:(e_ (j9 nd es) x).toNat=(e_ (j9 nd es') x).toNat - if decide (x∈eo F)=true/\decide (x∈eo S)≠true then 1 else 0:=(as4 h.ok).uniq hc hx
 have h2:=hp x hx
 have h3:=aa x hx
 by_cases hs:x∈eo F/\x∉eo S
 ·have hl:=(hF.lev x hs.1).2
  rw [B_ ⟨As hs.1,λq=>hs.2<|Fu q⟩] at h1;rw [B_ hs];omega
 rw [An (λq=>hs ⟨Fu q.1,λq2=>q.2<|As q2⟩)] at h1;rw [An hs];omega
end
end Go.Sl
namespace Go.Sl
end Go.Sl
namespace Go.Sl
open Go.Proofs
set_option maxRecDepth 4000
variable{l:List Int}{nd v:Int}{k:Nat}{es:List Pt}{va:Value}
variable {κ:Ctx}{I:List Item}
theorem az5{i:Int}(M:0<=i)(h:i<l.length):(l.set i.toNat v).sum=l.sum - e_ l i+v:=by
 obtain ⟨k,rfl⟩:=Hq M
 rw [L_]
 clear M
 induction l generalizing k with
 |nil=>simp at h;omega
 |cons x xs ih=>
  cases k with
  |zero=>simp [e_];omega
  |succ k=>
   have:=ih k (by simp at h;omega)
   have e:e_ (x::xs) ((k+1:Nat):Int)=e_ xs k:=by unfold e_;simp
   rw [e,List.set_cons_succ,Jg,Jg,this];omega
theorem db9(h:k<l.length):(l.take (k+1)).sum=(l.take k).sum+e_ l k:=by
 rw [Ca l k h,List.sum_append];simp
theorem bp2(n:Nat):(replicate n (default:Int)).sum=0:=by
 induction n with
 |zero=>rfl
 |succ n ih=>rw [Mo,Jg,ih];rfl
def V6(nd:Int)(es:List Pt):Int:=(es.map λe=>((j3 nd es e.u e.v).length:Int)).sum
def bu1(nd:Int)(es:List Pt)(k:Nat):Int:=((es.take k).map λe=>((j3 nd es e.u e.v).length:Int)).sum
theorem ap5(h:k<es.length):bu1 nd es (k+1)=bu1 nd es k+((j3 nd es (e_ es k).u (e_ es k).v).length:Int):=by
 unfold bu1
 rw [Ca es k h,Hv,List.sum_append];simp
theorem bo9(nd:Int)(es:List Pt):bu1 nd es es.length=V6 nd es:=by unfold bu1 V6;rw [Hg]
theorem M3(nd:Int)(es:List Pt)(u v:Int):(j3 nd es u v).length<=64:=by
 by_cases h:u=v
 ·unfold j3;rw [B_ h];simp
 rw [←as6 h];exact Er _
theorem bb7(nd:Int)(es:List Pt):∀k,k<=es.length->0<=bu1 nd es k/\bu1 nd es k<=64*(k:Int)
 |0,_=>by unfold bu1;simp
 |k+1,h=>by
  have M:=bb7 nd es k om
  have:=M3 nd es (e_ es k).u (e_ es k).v
  rw [ap5 om];omega
theorem bk0(h:∀x∈l,0<=x):∀k,k<=l.length->0<=(l.take k).sum/\(l.take k).sum<=l.sum:=by
 have aa:∀l:List Int,(∀x∈l,0<=x)->∀k,0<=(l.take k).sum/\(l.take k).sum<=l.sum:=λl=>by
  induction l with
  |nil=>intro _ k;simp
  |cons x xs ih=>
   intro h k
   have h0:=h x A_
   have M:=ih λy hy=>h y (C_ _ hy)
   cases k with
   |zero=>have:=M xs.length;rw [Hg] at this;simp;omega
   |succ k=>have:=M k;simp;omega
 exact λk _=>aa l h k
theorem X9(hG:s8 nd es){u x:Int}(M:x∈j3 nd es u v):0<=x/\x<nd:=by
 unfold j3 at M
 split at M
 ·cases M
 have h1:=(T3.1 M).1
 unfold nbG at h1
 rw [An (by rw [s4.2 hG];decide),af5,an6] at h1
 rcases h1 with h|h
 ·have:=hG.aa9 _ h;simp only at this;omega
 have:=hG.aa9 _ h;simp only at this;omega
theorem ad8:∀{l:List Int},(∀x∈l,0<=x)->∀{x:Int},x∈l->x<=l.sum
 |[],_,x,hx=>by cases hx
 |y::ys,h,x,hx=>by
  have h0:=h y A_
  have M:∀z∈ys,0<=z:=λz hz=>h z (C_ _ hz)
  have h2:=(bk0 M ys.length<|Gi _)
  rw [Hg] at h2
  rw [Jg]
  rcases F_.1 hx with rfl|hx
  ·omega
  have:=ad8 M hx;omega
theorem cy2(hl:Sl κ I va es)(hG:s8 nd es):eu Tryz.prog κ 54 [.agg #[e7 nd,va]] I (λr J=>∃a c,∃out:List Int,r = .tuple #[.slice a out.length c,e7 0]/\(out.length<=64/\out.sum=V6 nd es/\∀x∈out,0<=x)/\J=vk 3 a c out::I):=by
 have ax:=hG.rng
 have ay:=q9 hG
 refine Ce1 Tryz.func54 C C ?_
 refine Al<|Ge1 (Av (cs:=[_,_]) C C C) λb1=>Ga C<|Ga C<|Ar<|Ax<|Al<|Gl2 K0 ?_
 refine G.e (Ab c_ C C<|V2 (nd:=nd)<|A3 hl) ?_
 rintro _ _ ⟨_,_,⟨rfl,rfl⟩,rfl,rfl⟩
 refine Ga C<|Ar<|Al<|Gm C<|Gr (Cb C C)<|Ar<|Ao C (λc12=>?_)<|λc12=>?_
 ·exact absurd (s4.2 hG) c12
 refine Bc<|Ak<|Al<|Gf ag0 C<|Gl ef ?_
 refine Ge2 (Dm (α:=Int) (n:=nd.toNat) Ac ef C C C om om dc C) λaa ab=>?_
 refine Ga C<|Ar<|Ax<|Al<|Ga C<|Ar<|A0 (S3 6 5 1)<|A7<|B9 (σ:=Nat×(List Int)) (λs=>([(1,pt b1),(5,.slice aa (replicate nd.toNat (default:Int)).length ab),(6,e7 ((s.1:Nat):Int))]:Env)) (λs=>vc 3 (.slice aa (replicate nd.toNat (default:Int)).length ab) (s.2)::e8 b1 [e7 nd,va] 38::I) (λs=>(s.1<=es.length)/\(s.2.length=nd.toNat)/\(s.2.sum=bu1 nd es s.1)/\(∀x∈s.2,0<=x)) (λs=>es.length - s.1) (0,replicate nd.toNat (default:Int)) (show ((0:Nat)<=es.length)/\((replicate nd.toNat (default:Int):List Int).length=nd.toNat)/\((replicate nd.toNat (default:Int):List Int).sum=bu1 nd es (0:Nat))/\(∀x∈(replicate nd.toNat (default:Int):List Int),0<=x) from ⟨om,(by rw [Gc]),(by rw [bp2];rfl),(λx hx=>by rw [Ki hx];exact Hp 0)⟩) (cx2<|Aa Cl Bb) (show Fit κ _ (vk 3 aa ab (replicate nd.toNat (default:Int))::e8 b1 [e7 nd,va] 38::I) from Az) ?_
 rintro ⟨k,out⟩ hp
 dsimp only at hp ⊢
 obtain ⟨hk,ap,an,ao⟩:=hp
 have aw:=λh:k<=es.length=>bb7 nd es k h
 refine Ax<|Al<|Gm C<|Gf K6 C<|Gl am7 ?_
 refine Gr (Fa (α:=Pt) (xs:=es) Ay C<|A3 hl)<|Gr (Bm C C)<|Ar<|Ao C (λar=>?_)<|λar=>?_
 ·refine Bc (Ak<|Ax<|A7<|Ax<|A8 mixed<|Bv (vc 3 (.slice aa (replicate nd.toNat (default:Int)).length ab) (out)::e8 b1 [e7 nd,va] 38::I) 15<|Dr 0 C (Bl (vs:=[_,_]) K0) ?_)
  refine Dr 1 C (Af K6 C)<|Dr 2 C (Be am7) ?_
  refine Dr 3 C (Ap C)<|Dr 4 C (A1 (α:=Pt) (xs:=es) Ay s9 C C (A3 hl) om oo)<|Dr 5 C (Fe (α:=Pt) (xs:=es) P0 C (A3 hl) oo)<|Dr 6 C (E3 (α:=Pt) (xs:=es) (u:=e7 ((e_ es k).u)) ef C (A3 hl) om oo C)<|Dr 7 C (Af K6 C)<|Dr 8 C (Be am7) ?_
  refine Dr 9 C (Ap C)<|Dr 10 C (A1 (α:=Pt) (xs:=es) Ay s9 C C (A3 hl) om oo)<|Dr 11 C (Fe (α:=Pt) (xs:=es) N9 C (A3 hl) oo)<|Dr 12 C (E3 (α:=Pt) (xs:=es) (u:=e7 ((e_ es k).v)) ef C (A3 hl) om oo C)<|Ds1 13<|Sc2 C (Ab c_ C C<|ag5 (nd:=nd) (A3 hl) ((e_ es k).u) ((e_ es k).v) om) λak aj=>?_
  refine Dr 14 C (Bj C)<|Dz<|Ak<|A0 (S4 7 1 5 6)<|Al<|Ga C<|Ar<|A7<|B9 (σ:=Nat×(List Int)) (λs=>([(1,pt b1),(5,.slice aa (replicate nd.toNat (default:Int)).length ab),(6,e7<|(k:Int)),(7,.slice ak (j3 nd es ((e_ es k).u)<|(e_ es k).v).length aj),(8,e7 ((s.1:Nat):Int))]:Env)) (λs=>vc 3 (.slice aa (replicate nd.toNat (default:Int)).length ab) (s.2)::vk 3 ak aj (j3 nd es ((e_ es k).u)<|(e_ es k).v)::e8 b1 [e7 nd,va] 38::I) (λs=>(s.1<=(j3 nd es (e_ es k).u (e_ es k).v).length)/\(s.2.length=nd.toNat)/\(s.2.sum=bu1 nd es k+(s.1:Int))/\(∀x∈s.2,0<=x)) (λs=>(j3 nd es (e_ es k).u (e_ es k).v).length - s.1) (0,out) (show ((0:Nat)<=(j3 nd es (e_ es k).u (e_ es k).v).length)/\((out:List Int).length=nd.toNat)/\((out:List Int).sum=bu1 nd es k+((0:Nat):Int))/\(∀x∈(out:List Int),0<=x) from ⟨om,ap,(by rw [an];simp),ao⟩) (cx4<|Aa Cl Bb) (show Fit κ _ (vc 3 (.slice aa (replicate nd.toNat (default:Int)).length ab) ((out))::vk 3 ak aj (j3 nd es ((e_ es k).u)<|(e_ es k).v)::e8 b1 [e7 nd,va] 38::I) from Az) ?_
  rintro ⟨k2,M⟩ hp
  dsimp only at hp ⊢
  obtain ⟨az,ah,ae,ad⟩:=hp
  have au:k2<(j3 nd es (e_ es k).u (e_ es k).v).length->0<=e_ (j3 nd es (e_ es k).u (e_ es k).v) (k2:Int)/\e_ (j3 nd es (e_ es k).u (e_ es k).v) (k2:Int)<nd:=λh=>X9 hG (Bo om om)
  have a0:=M3 nd es (e_ es k).u (e_ es k).v
  have aq:k2<(j3 nd es (e_ es k).u (e_ es k).v).length->0<=e_ M (e_ (j3 nd es (e_ es k).u (e_ es k).v) (k2:Int))/\e_ M (e_ (j3 nd es (e_ es k).u (e_ es k).v) (k2:Int))<=1000000:=λh=>by have h1:=au h;have h2:=Bo (xs:=M) (i:=e_ (j3 nd es (e_ es k).u (e_ es k).v) (k2:Int)) om om;have h3:=ad8 ad h2;have h4:=ad _ h2;have h5:=aw om;omega
  refine Ax<|Al<|Gm C<|Gm C<|Gr (Bn Ac C)<|Gr (Bm C C)<|Ar<|Ao C (λav=>?_)<|λav=>?_
  ·refine Bc (Ak<|Ax<|A7<|A6<|Gm C<|Gm C<|Gm C<|Gr (A1 (α:=Int) (xs:=j3 nd es ((e_ es k).u) ((e_ es k).v)) Ac ef C C A5 om oo)<|Gr (B8 (xs:=j3 nd es ((e_ es k).u) ((e_ es k).v)) ef C A5 om oo)<|Gr (A1 (α:=Int) (xs:=M) Ac ef C C A5 om oo)<|Gr (B8 (xs:=M) ef C A5 om oo)<|Gr (Rad C C)<|Gr (A1 (α:=Int) (xs:=M) Ac ef C C A5 om oo)<|Ge0 (Cw (α:=Int) (xs:=M) (e:=3) (new:=(e_ M<|e_ (j3 nd es ((e_ es k).u)<|(e_ es k).v) (k2:Int))+1) ef C C C om oo am) ?_)
   exact Bq<|Au<|Ak<|A0 (S5 1 5 6 7 8)<|A6<|Gm C<|Gr (Rad C C)<|Ga C<|Bq<|Bu ((k2+1),(List.set M (e_ (j3 nd es ((e_ es k).u)<|(e_ es k).v) (k2:Int)).toNat ((e_ M<|e_ (j3 nd es ((e_ es k).u)<|(e_ es k).v) (k2:Int))+1)))<|by dsimp only;exact ⟨om,(by rw [Fs];exact ah),(by rw [az5 om om,ae];omega),(λx hx=>by rcases Jt hx with h|h;(· exact ad x h);(· rw [h];have:=aq om;omega))⟩
  exact Cg<|Aw<|Aw<|Bi<|Au<|Ak<|A6<|Gm C<|Gr (Rad C C)<|Ga C<|Bq<|Bu ((k+1),(M))<|by dsimp only;exact ⟨om,ah,(by rw [ap5 om,ae,show k2=(j3 nd es (e_ es k).u (e_ es k).v).length by omega]),ad⟩
 refine Cg<|Aw<|Aw<|Bi<|Ak<|Al<|Gm C<|Ga C<|Ga C<|Ar<|B3 ?_
 have ai:(replicate nd.toNat (default:Int)).length=out.length:=by rw [Gc,ap]
 exact C2 C C C (vk 3 aa ab out::I) (by unfold vk;rw [←ai];exact Az) ⟨aa,ab,out,by rw [←ai],⟨by omega,by rw [an,show k=es.length by omega,bo9],ao⟩,rfl⟩
theorem bo8(M:s8 nd es):0<=V6 nd es/\V6 nd es<=129024:=by
 have:=bb7 nd es es.length (Gi _)
 rw [bo9] at this
 have:=q9 M
 omega
theorem cz7(hl:Sl κ I va es)(hG:s8 nd es):eu Tryz.prog κ 21 [.agg #[e7 nd,va]] I (λr J=>r = .tuple #[e7 (V6 nd es / 3),e7 0]/\I=J):=by
 refine Ce1 Tryz.func21 C C ?_
 refine Al<|Ge1 (Av (cs:=[_,_]) C C C) λb1=>Ga C<|Ga C<|Ar<|Al<|Gl2 K0 ?_
 refine G.e (Ab c_ C C<|cy2 (nd:=nd) (A3 hl) hG) ?_
 rintro _ _ ⟨_,_,⟨ab,ad,M,rfl,aa,rfl⟩,rfl,rfl⟩
 refine Gm C<|Gr (Bf C C)<|Gr (Bf C C)<|Ga C<|Ga C<|Ar<|Al<|Ga C<|Ar<|Ax<|Al<|Ga C<|Ar<|A7<|B9 (σ:=Nat×Int) (λs=>([(4,.slice ab M.length ad),(5,e7 0),(6,e7<|s.2),(7,e7 ((s.1:Nat):Int))]:Env)) (λs=>vk 3 ab ad M::e8 b1 [e7 nd,va] 38::I) (λs=>(s.1<=M.length)/\(s.2=(M.take s.1).sum)) (λs=>M.length - s.1) (0,0) (show ((0:Nat)<=M.length)/\((0:Int)=(M.take (0:Nat)).sum) from ⟨om,rfl⟩) (cx2<|Aa Cl<|Aa Cl Bb) (show Fit κ _ (vk 3 ab ad M::e8 b1 [e7 nd,va] 38::I) from Ai) ?_
 rintro ⟨k,q⟩ hp
 dsimp only at hp ⊢
 obtain ⟨hk,ae⟩:=hp
 have ap:=bk0 aa.2.2 k om
 have ak:=λh:k<M.length=>aa.2.2 _ (Bo (xs:=M) (i:=((k:Nat):Int)) om om)
 have ao:=λh:k<M.length=>ad8 aa.2.2 (Bo (xs:=M) (i:=((k:Nat):Int)) om om)
 have an:=bo8 hG
 have ai:=aa.2.1
 refine Ax<|Al<|Gm C<|Gm C<|Gr (Bn Ac C)<|Gr (Bm C C)<|Ar<|Ao C (λah=>?_)<|λah=>?_
 ·exact Bc<|Ak<|Ax<|A7<|A6<|Gm C<|Gm C<|Gm C<|Gr (A1 (α:=Int) (xs:=M) Ac ef C C A5 om om)<|Gr (B8 (xs:=M) ef C A5 om om)<|Gr (Rad C C)<|Ga C<|Bq<|Au<|Ak<|A0 (S4 6 4 5 7)<|A6<|Gm C<|Gr (Rad C C)<|Ga C<|Bq<|Bu ((k+1),(q+(e_ M k)))<|by dsimp only;exact ⟨om,(by rw [db9 om,←ae])⟩
 refine Cg<|Aw<|Aw<|Bi<|Ak<|Al<|Gm C<|Gr (j8.quo C C om om<|by unfold InR;omega)<|Gm C<|Ga C<|Ga C<|Ar<|B3 ?_
 have aj:q=V6 nd es:=by rw [ae,Fz om];exact ai
 exact C2 C C C I Ah ⟨by rw [aj],rfl⟩
end Go.Sl
namespace Go.Sl
open Go.Proofs
set_option maxRecDepth 4000
variable{xs ys:List Int}
attribute [local irreducible] W G V D A j8 Eff
def M1(xs ys:List Int):List Int:=xs.filter λx=>decide (x∈ys)
theorem head_drop(h:0<xs.length):xs=e_ xs 0::List.drop 1 xs:=by
 cases xs with
 |nil=>cases h
 |cons x xs=>rfl
theorem ba7(h:xs.Pairwise (λM x1:Int=>M<x1)):(List.drop 1 xs).Pairwise (λM x1:Int=>M<x1):=h.sublist (List.drop_sublist _ _)
theorem ce7(h:xs.Pairwise (λM x1:Int=>M<x1))(h0:0<xs.length){y:Int}(hy:y∈List.drop 1 xs):e_ xs 0<y:=by
 rw [head_drop h0] at h
 exact (Gj.1 h).1 y hy
theorem dx2(hy:ys.Pairwise (λx0 x1:Int=>x0<x1))(h0:0<xs.length)(M:0<ys.length)(h:e_ xs 0<e_ ys 0):M1 xs ys=M1 (List.drop 1 xs) ys:=by
 have hn:e_ xs 0∉ys:=λhm=>by
  rw [head_drop M] at hm
  rcases F_.1 hm with e|e
  ·omega
  have:=ce7 hy M e;omega
 conv=>lhs;rw [head_drop h0]
 unfold M1
 rw [List.filter_cons_of_neg (by simpa using hn)]
theorem dx3(hx:xs.Pairwise (λx0 x1:Int=>x0<x1))(h0:0<xs.length)(h1:0<ys.length)(h:e_ ys 0<e_ xs 0):M1 xs ys=M1 xs (List.drop 1 ys):=by
 unfold M1
 refine H_ λx M=>?_
 rw [Fw]
 have aa:e_ ys 0<x:=by
  rw [head_drop h0] at M
  rcases F_.1 M with rfl|e
  ·exact h
  have:=ce7 hx h0 e;omega
 constructor
 ·intro hm
  rw [head_drop h1] at hm
  rcases F_.1 hm with e|e
  ·omega
  exact e
 exact λhm=>Mk hm
theorem inter_eq(hx:xs.Pairwise (λx0 x1:Int=>x0<x1))(h0:0<xs.length)(h1:0<ys.length)(h:e_ xs 0=e_ ys 0):M1 xs ys=e_ xs 0::M1 (List.drop 1 xs) (List.drop 1 ys):=by
 have M:e_ xs 0∈ys:=by rw [h];exact Bo om om
 conv=>lhs;rw [head_drop h0]
 unfold M1
 rw [List.filter_cons_of_pos (p:=λx=>decide<|x∈ys) (As M)]
 congr 1
 refine H_ λx aa=>?_
 rw [Fw]
 have ab:=ce7 hx h0 aa
 constructor
 ·intro M
  rw [head_drop h1] at M
  rcases F_.1 M with e|e
  ·omega
  exact e
 exact λM=>Mk M
theorem bx9(h:xs.length=0\/ys.length=0):M1 xs ys=[]:=by
 unfold M1
 rcases h with h|h
 ·rw [Kz.1 h];rfl
 rw [Kz.1 h];simp
theorem tb4{p:Prop}(h:p:=by first|omega|(simp only [By,Gb,E_,Fy];omega)):p:=h
theorem dn9{κ:Ctx}{I:List Item}{a0 b0:Option Addr}{c0 d0:Nat}(hl:Sl κ I (.slice a0 xs.length c0) xs)(hm:Sl κ I (.slice b0 ys.length d0) ys)(hx:xs.Pairwise (λx0 x1:Int=>x0<x1))(hy:ys.Pairwise (λx0 x1:Int=>x0<x1))(hb:xs.length<=100000):eu Tryz.prog κ 133 [.slice a0 xs.length c0,.slice b0 ys.length d0] I (λr J=>∃a c,r = .slice a (M1 xs ys).length c/\J=vk 3 a c (M1 xs ys)::I):=by
 refine Ce2 Tryz.func133 C C<|Z ?_
 refine Dj (σ:=(Option Addr)×Nat×(List Int)×(Option Addr)×Nat×(List Int)×(Option Addr)×Nat×(List Int)) (λs=>[(0,.slice s.1 s.2.2.1.length s.2.1),(1,.slice s.2.2.2.1 s.2.2.2.2.2.1.length s.2.2.2.2.1),(5,.slice s.2.2.2.2.2.2.1 s.2.2.2.2.2.2.2.2.length s.2.2.2.2.2.2.2.1)]) (λs=>[vk 3 s.2.2.2.2.2.2.1 s.2.2.2.2.2.2.2.1 s.2.2.2.2.2.2.2.2]) (λs=>(Sl κ I (.slice s.1 s.2.2.1.length s.2.1) s.2.2.1)/\(Sl κ I (.slice s.2.2.2.1 s.2.2.2.2.2.1.length s.2.2.2.2.1) s.2.2.2.2.2.1)/\(s.2.2.1.Pairwise (λx0 x1:Int=>x0<x1))/\(s.2.2.2.2.2.1.Pairwise (λx0 x1:Int=>x0<x1))/\(M1 xs ys=s.2.2.2.2.2.2.2.2++M1 s.2.2.1 s.2.2.2.2.2.1)/\(s.2.2.2.2.2.2.2.2.length+s.2.2.1.length<=xs.length)) (λs=>(s.2.2.1.length+s.2.2.2.2.2.1.length)) (a0,c0,xs,b0,d0,ys,none,0,[]) (show (Sl κ I (.slice (a0:Option Addr) (xs:List Int).length (c0:Nat)) (xs:List Int))/\(Sl κ I (.slice (b0:Option Addr) (ys:List Int).length (d0:Nat)) (ys:List Int))/\((xs:List Int).Pairwise (λx0 x1:Int=>x0<x1))/\((ys:List Int).Pairwise (λx0 x1:Int=>x0<x1))/\(M1 xs ys=([]:List Int)++M1 (xs:List Int) (ys:List Int))/\(([]:List Int).length+(xs:List Int).length<=xs.length) from ⟨hl,hm,hx,hy,rfl,(by simp)⟩) (hI:=(B6 _ _)) ?_
 rintro ⟨pa,pc,M,qa,qc,aa,oa,oc,out⟩ hp
 dsimp only at hp ⊢
 obtain ⟨hA,hB,ad,ae,ab,ap⟩:=hp
 refine Z ?_
 refine A4 (d:=9) C (λg9=>Z ?_)<|λg9=>Z ?_
 ·refine Ao C (λc13=>Z ?_) (λc13=>Z ?_)
  ·refine A8 mixed (Bv (vk 3 oa oc out::I) 7<|Z ?_)
   refine Ds1 6<|Sc0 C (Ab c_ C C<|Z3 (e_ M 0)<|e_ aa 0) ?_
   have ao:(e_ M 0<e_ aa 0/\bu2 (e_ M 0) (e_ aa 0) = -1)\/(e_ aa 0<e_ M 0/\bu2 (e_ M 0) (e_ aa 0)=1)\/(e_ M 0=e_ aa 0/\bu2 (e_ M 0) (e_ aa 0)=0):=by unfold bu2;repeat (first|omega|split)
   refine Z ?_
   refine Ao C (λaj=>?_)<|λaj=>Z ?_
   ·refine A6 (Gm C<|Gr (Do (α:=Int) (xs:=M) (l:=1) Ac ef C C om (A3 hA) om)<|Z ?_)
    exact Bu (((P1 pa pc 1<|Enc.sz Int)),((pc - 1)),(List.drop 1 M),(qa),(qc),(aa),(oa),(oc),(out)) (by dsimp only;exact ⟨(Ep hA om),hB,(ba7 ad),ae,(by rw [ab,dx2 ae om om om]),tb4⟩) (hlt:=by (try dsimp only);exact (by simp only [Gb];omega))
   refine Ao C (λak=>?_)<|λak=>Z ?_
   ·refine A6 (Gm C<|Gr (Do (α:=Int) (xs:=aa) (l:=1) Ac ef C C om (A3 hB) om)<|Z ?_)
    exact Bu ((pa),(pc),(M),((P1 qa qc 1<|Enc.sz Int)),((qc - 1)),(List.drop 1 aa),(oa),(oc),(out)) (by dsimp only;exact ⟨hA,(Ep hB om),ad,(ba7 ae),(by rw [ab,dx3 ad om om om]),tb4⟩) (hlt:=by (try dsimp only);exact (by simp only [Gb];omega))
   refine Ge1 (B1 (α:=Int) (cs:=[_]) (xs:=[e_ M 0]) Ac ef C C dc dc C C C C) λan=>?_
   refine Ge2 (Bs (α:=Int) (e:=3) (xs:=out) (ys:=([e_ M 0]:List Int)) Ac ef C C C mm A5 lcn dc C<|λ_ _=>am) λah ai=>Z ?_
   refine A8 mixed<|Bv (vc 3 (.slice an 1 1) (([e_ M 0]:List Int))::vk 3 ah ai (out++([e_ M 0]:List Int))::I) 6<|Z ?_
   refine Dr 1 C (Do (α:=Int) (xs:=M) (l:=1) Ac ef C C om (A3 hA) om)<|Z ?_
   refine Dr 3 C (Do (α:=Int) (xs:=aa) (l:=1) Ac ef C C om (A3 hB) om)<|Z ?_
   exact Bu (((P1 pa pc 1<|Enc.sz Int)),((pc - 1)),(List.drop 1 M),((P1 qa qc 1<|Enc.sz Int)),((qc - 1)),(List.drop 1 aa),(ah),(ai),(out++([e_ M 0]:List Int))) (by dsimp only;exact ⟨(Ep hA om),(Ep hB om),(ba7 ad),(ba7 ae),(by rw [ab,inter_eq ad om om om,Fv];rfl),tb4⟩) (hlt:=by (try dsimp only);exact (by simp only [Gb];omega))
  have hE:M1 xs ys=out:=by rw [ab,bx9 om,Gv]
  exact Am C C (vk 3 oa oc (M1 xs ys)::I) (by unfold vk;rw [hE];exact Ai) ⟨oa,oc,by rw [hE],rfl⟩
 have hE:M1 xs ys=out:=by rw [ab,bx9 om,Gv]
 exact Am C C (vk 3 oa oc (M1 xs ys)::I) (by unfold vk;rw [hE];exact Ai) ⟨oa,oc,by rw [hE],rfl⟩
end Go.Sl
