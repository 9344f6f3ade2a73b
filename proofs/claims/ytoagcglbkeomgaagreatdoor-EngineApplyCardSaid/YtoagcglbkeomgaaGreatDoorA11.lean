/- A part of the proofs of statements of this seat: contracts of functions, and the plain laws that they lean on. No conditions. -/
import Derived.Test.YtoagcglbkeomgaaGreatDoorA10
set_option linter.unusedVariables false
set_option linter.unusedSimpArgs false
set_option linter.unusedSectionVars false
open Go.Proofs.Tryz (prog)
open List (replicate)
namespace Go.Sl
variable{M a b c d0 d2 m1 m2 m3 n n4 n5 n6 u:Nat}
def W3:List Nat->Nat
 |[]=>0
 |b::bs=>2 ^ 8*W3 bs+b
theorem bg6{d:Nat}(hb:b<2 ^ 8)(M:d<2 ^ 8):(2 ^ 8*a+b) &&& (2 ^ 8*c+d)=2 ^ 8*(a &&& c)+(b &&& d):=by
 refine Nat.eq_of_testBit_eq λj=>?_
 rw [Nat.testBit_and,Ka _ hb,Ka _ M,Ka _<|Nat.and_lt_two_pow _ M]
 by_cases h:j<8
 ·rw [B_ h,B_ h,B_ h,Nat.testBit_and]
 rw [An h,An h,An h,Nat.testBit_and]
def cd5(c:Nat)(k:Nat):Nat:=W3 (replicate k c)
theorem aq3(c k:Nat):cd5 c (k+1)=2 ^ 8*cd5 c k+c:=rfl
def p1(b:Nat):Nat:=((b / 2) &&& 85)+(b &&& 85)
def p2(b:Nat):Nat:=((b / 4) &&& 51)+(b &&& 51)
def p3(b:Nat):Nat:=(b / 16+b) % 16
theorem c1:∀t:Fin 2,∀x:Fin 128,(128*t.val+x.val) &&& 85=x.val &&& 85:=by decide+kernel
theorem c2:∀t:Fin 4,∀x:Fin 64,(64*t.val+x.val) &&& 51=x.val &&& 51:=by decide+kernel
theorem b1:∀b:Fin 256,p1 b.val<256/\p2 (p1 b.val) % 16<=4/\p2 (p1 b.val) / 16<=4/\p3 (p2 (p1 b.val))<=8/\p3 (p2 (p1 b.val))=((List.range 8).filter λj=>b.val.testBit j).length:=by decide+kernel
theorem fv3:∀bs:List Nat,(∀b∈bs,b<256)->((W3 bs / 2) &&& cd5 85 bs.length)+(W3 bs &&& cd5 85 bs.length)=W3 (bs.map p1)
 |[],_=>rfl
 |b::bs,h=>by
  have hb:=h b A_
  have ih:=fv3 bs λx hx=>h x (C_ _ hx)
  rw [E_,aq3,Hk]
  simp only [W3]
  have e:(2 ^ 8*W3 bs+b) / 2=2 ^ 8*(W3 bs / 2)+(128*(W3 bs % 2)+b / 2):=by omega
  have M:=c1 ⟨W3 bs % 2,by omega⟩ ⟨b / 2,by omega⟩
  simp only at M
  rw [e,bg6 (by omega)<|by decide,bg6 (by omega)<|by decide,M]
  rw [show p1 b=(b / 2 &&& 85)+(b &&& 85) from rfl]
  omega
theorem fv2:∀bs:List Nat,(∀b∈bs,b<256)->((W3 bs / 4) &&& cd5 51 bs.length)+(W3 bs &&& cd5 51 bs.length)=W3 (bs.map p2)
 |[],_=>rfl
 |b::bs,h=>by
  have hb:=h b A_
  have ih:=fv2 bs λx hx=>h x (C_ _ hx)
  rw [E_,aq3,Hk]
  simp only [W3]
  have e:(2 ^ 8*W3 bs+b) / 4=2 ^ 8*(W3 bs / 4)+(64*(W3 bs % 4)+b / 4):=by omega
  have M:=c2 ⟨W3 bs % 4,by omega⟩ ⟨b / 4,by omega⟩
  simp only at M
  rw [e,bg6 (by omega)<|by decide,bg6 (by omega)<|by decide,M]
  rw [show p2 b=(b / 4 &&& 51)+(b &&& 51) from rfl]
  omega
theorem fv1:∀bs:List Nat,(∀b∈bs,b % 16<=4/\b / 16<=4)->(W3 bs / 16+W3 bs) &&& cd5 15 bs.length=W3 (bs.map p3)
 |[],_=>rfl
 |b::bs,h=>by
  have hb:=h b A_
  have ih:=fv1 bs λx M=>h x (C_ _ M)
  have hn:W3 bs % 16<=4:=by
   cases bs with
   |nil=>simp [W3]
   |cons c cs=>
    have:=(h c<|C_ _ A_).1
    simp only [W3];omega
  rw [E_,aq3,Hk]
  simp only [W3]
  have e:(2 ^ 8*W3 bs+b) / 16+(2 ^ 8*W3 bs+b)=2 ^ 8*(W3 bs / 16+W3 bs)+(16*(W3 bs % 16)+b / 16+b):=by omega
  rw [e,bg6 (by omega)<|by decide,ih,show (15:Nat)=2 ^ 4 - 1 by decide,Nat.and_two_pow_sub_one_eq_mod]
  rw [show p3 b=(b / 16+b) % 16 from rfl]
  omega
def bg3(n:Nat):Nat->List Nat
 |0=>[]
 |k+1=>n % 256::bg3 (n / 256) k
theorem cv5(n k:Nat):(bg3 n k).length=k:=by
 induction k generalizing n with
 |zero=>rfl
 |succ k ih=>simp [bg3,ih]
theorem dm7(n k:Nat):∀b∈bg3 n k,b<256:=by
 induction k generalizing n with
 |zero=>intro b hb;cases hb
 |succ k ih=>
  intro b hb
  rcases F_.1 hb with rfl|hb
  ·omega
  exact ih _ b hb
theorem bn2:∀(k n:Nat),n<256 ^ k->W3 (bg3 n k)=n
 |0,n,h=>by simp at h;subst h;rfl
 |k+1,n,h=>by
  rw [Nat.pow_succ] at h
  simp only [bg3,W3]
  rw [bn2 k (n / 256) (by omega)]
  omega
def cr7:List Nat->Nat
 |[]=>0
 |b::bs=>b+cr7 bs
theorem dk9:∀bs:List Nat,(∀b∈bs,b<256)->((List.range (8*bs.length)).filter λj=>(W3 bs).testBit j).length=cr7 (bs.map λb=>p3 (p2 (p1 b)))
 |[],_=>rfl
 |b::bs,h=>by
  have M:=h b A_
  have ih:=dk9 bs λx hx=>h x (C_ _ hx)
  rw [E_,show 8*(bs.length+1)=8+8*bs.length by omega,List.range_add,Gu,By,Hk]
  simp only [cr7,W3]
  rw [←ih,(b1 ⟨b,M⟩).2.2.2.2,Le,Ge]
  congr 2
  ·refine H_ λj hj=>?_
   rw [Ka _ M,B_<|Jd.1 hj]
  refine H_ λj hj=>?_
  show (2 ^ 8*W3 bs+b).testBit (8+j)=_
  rw [Ka _ M,An<|by omega,Kj]
theorem gg3(h0:d0<=8)(h1:M<=8)(h2:d2<=8)(en:n=d0+256*M+65536*m2)(e1:m1=M+256*d2+65536*m3)(h4:n4=n+m1) :
  n4=(d0+M)+256*(M+d2)+65536*(m2+m3)/\n4 / 65536=m2+m3:=by omega
theorem gg2(ha:a<=16)(hb:b<=16)(hc:c<65536)(h4:n4=a+256*b+65536*(c+65536*u))(M:n5=n4+(c+65536*u)):n5=a+256*b+c+65536*(c+u)+4294967296*u:=by omega
theorem gg1{x s t:Nat}(hx:x<65536)(hc:c<=5000)(hs:s<=5000)(hu:u=s+65536*t)(M:n5=x+65536*(c+u)+4294967296*u):n5 / 4294967296=u+t:=by omega
theorem dx6{d1 d4 d5 d6 d7 m4 m5 m6:Nat}(h0:d0<=8)(h1:d1<=8)(h2:d2<=8)(h3:M<=8)(h4:d4<=8)(h5:d5<=8)(h6:d6<=8)(h7:d7<=8)
  (e6:m6=d6+256*d7) (e5:m5=d5+256*d6+65536*d7) (e4:m4=d4+256*d5+65536*m6) (e3:m3=M+256*d4+65536*m5) (e2:m2=d2+256*M+65536*m4) (e1:m1=d1+256*d2+65536*m3) (e0:n=d0+256*d1+65536*m2)
  (g4:n4=n+m1) (g5:n5=n4+n4 / 65536) (g6:n6=n5+n5 / 4294967296):n6 % 128=d0+d1+d2+M+d4+d5+d6+d7:=by
 obtain ⟨a1,a2⟩:=gg3 h0 h1 h2 e0 e1 g4
 have hc:m2+m3=((d2+M)+256*(M+d4))+65536*(m4+m5):=by clear e0 e1 e4 e5 e6 g4 g5 g6 a1 a2;omega
 have hu:m4+m5=((d4+d5)+256*(d5+d6))+65536*(m6+d7):=by clear e0 e1 e2 e3 e6 g4 g5 g6 a1 a2 hc;omega
 rw [a2,hc] at g5
 rw [hc] at a1
 have b1:=gg2 (by omega) (by omega) (by omega) a1 g5
 have b2:=gg1 (x:=d0+d1+256*(d1+d2)+((d2+M)+256*(M+d4))) (by omega) (by omega) (by omega) hu b1
 rw [b2] at g6
 clear b2 a2 hc e0 e1 e2 e3 e4 e5 g4 g5 a1
 omega
theorem dx7{bs:List Nat}(hl:bs.length=8)(hb:∀b∈bs,b<=8)(hn:n=W3 bs)(M:n4=n+n / 256)(g5:n5=n4+n4 / 65536)(g6:n6=n5+n5 / 4294967296):n6 % 128=cr7 bs/\n6<18446744073709551616:=by
 match bs,hl with
 |[d0,d1,d2,d3,d4,d5,d6,d7],_=>
  have k0:=hb d0 (by simp)
  have k1:=hb d1 (by simp)
  have k2:=hb d2 (by simp)
  have k3:=hb d3 (by simp)
  have k4:=hb d4 (by simp)
  have k5:=hb d5 (by simp)
  have k6:=hb d6 (by simp)
  have k7:=hb d7 (by simp)
  obtain ⟨m6,e6⟩:∃m6,m6=d6+256*d7:=⟨_,rfl⟩
  obtain ⟨m5,e5⟩:∃m5,m5=d5+256*d6+65536*d7:=⟨_,rfl⟩
  obtain ⟨m4,e4⟩:∃m4,m4=d4+256*d5+65536*m6:=⟨_,rfl⟩
  obtain ⟨m3,e3⟩:∃m3,m3=d3+256*d4+65536*m5:=⟨_,rfl⟩
  obtain ⟨m2,e2⟩:∃m2,m2=d2+256*d3+65536*m4:=⟨_,rfl⟩
  obtain ⟨m1,e1⟩:∃m1,m1=d1+256*d2+65536*m3:=⟨_,rfl⟩
  have e0:n=d0+256*d1+65536*m2:=by rw [hn];simp only [W3];omega
  have ed:n / 256=m1:=by
   have:n=d0+256*m1:=by clear M g5 g6;rw [hn];simp only [W3];omega
   clear e0 e1 e2 e3 e4 e5 e6 M g5 g6 hn
   omega
  rw [ed] at M
  refine ⟨?_,?_⟩
  ·rw [dx6 k0 k1 k2 k3 k4 k5 k6 k7 e6 e5 e4 e3 e2 e1 e0 M g5 g6];simp only [cr7];omega
  have q6:m6<=2056:=by omega
  have q5:m5<=526344:=by omega
  have q4:m4<=134744072:=by clear M g5 g6 hn e0 e1 e2 e3 ed;omega
  have q3:m3<=34494482440:=by clear M g5 g6 hn e0 e1 e2 e4 ed;omega
  have q2:m2<=8830587504648:=by clear M g5 g6 hn e0 e1 e3 e4 e5 e6 ed;omega
  have q1:m1<=2260630401189896:=by clear M g5 g6 hn e0 e2 e4 e5 e6 ed;omega
  have q0:n<=578721382704613384:=by clear M g5 g6 hn e1 e3 e4 e5 e6 ed;omega
  clear e0 e1 e2 e3 e4 e5 e6 hn ed
  omega
theorem bo5:∀bs:List Nat,(∀b∈bs,b<=c)->W3 bs<=cd5 c bs.length
 |[],_=>Gi _
 |b::bs,h=>by
  have ih:=bo5 bs λx M=>h x (C_ _ M)
  have hb:=h b A_
  rw [E_,aq3]
  simp only [W3]
  omega
end Go.Sl
namespace Go.Sl
open Go.Proofs
set_option maxRecDepth 4000
variable{m:BitVec 64}{bs:List Nat}{xs ys:List Int}{x:Int}
variable {κ:Ctx}{I:List Item}
attribute [local irreducible] W G V D A j8 Eff
theorem ds4(m:BitVec 64):0<=ay8.getD (da8 m) 0/\ay8.getD (da8 m) 0<=64:=by
 have h:∀k:Fin 64,0<=ay8.getD k.val 0/\ay8.getD k.val 0<=64:=by decide+kernel
 exact h ⟨da8 m,cd2 m⟩
theorem ga5(m:BitVec 64)(hT:F4 κ I 0 p5):eu prog κ 177 [U64 m] I (λr J=>r=e7 (tzB m)/\I=J):=by
 refine Ce1 Tryz.func177 C C ?_
 refine Al<|Ga C<|Ar<|Ax<|Al<|Gm C<|Gr (j8.eqB (a:=m) (b:=0#64) C C)<|Ar<|Ao C (λM=>?_)<|λM=>?_
 ·exact Al<|Ga C<|Ar<|B3<|Cu<|Am C C I Ah ⟨by unfold tzB;rw [B_ M],rfl⟩
 exact Bc<|Ak<|Al<|Gm C<|Gm C<|Gr (j8.negB (a:=m) C)<|Gr (Eh (a:=m) (b:= -m) C C)<|Gr (j8.mulB (a:=m &&& (-m)) (b:=285870213051353865#64) C C)<|Gr (Fl (a:=(m &&& (-m))*285870213051353865#64) C C om om)<|Gr (j8.fn7 (i:=da8 m) Tryz.underlying241 ty5 C C<|cd2 m)<|Gr (j8.fm8 ty5 C (Ba hT Ah)<|cr4 m)<|Gr (j8.dz9 Fk Cf C<|by unfold InR;have:=ds4 m;omega)<|Ga C<|Ar<|A0 (S1 2)<|B3<|Am C C I Ah ⟨by unfold tzB;rw [An M],rfl⟩
theorem fe5(m:BitVec 64)(M:F4 κ I 0 p5):eu prog κ 158 [U64 m] I (λr J=>r=e7 (tzB m)/\I=J):=by
 refine Ce1 Tryz.func158 C C<|Z ?_
 refine G.e (Ab c_ C C<|ga5 m<|Ba M Ah) ?_
 rintro _ _ ⟨_,_,⟨rfl,rfl⟩,rfl,rfl⟩
 exact Ga C<|Ar<|B3<|Am C C I Ah ⟨rfl,rfl⟩
theorem ac1(m:BitVec 64)(hT:F4 κ I 0 p5):eu prog κ 159 [U64 m] I (λr J=>∃a c,r = .slice a (eo m).length c/\J=vk 3 a c (eo m)::I):=by
 refine Ce1 Tryz.func159 C C<|Z ?_
 refine Dj (σ:=(BitVec 64)×(Option Addr)×Nat×(List Int)) (λs=>[(0,U64<|s.1),(3,.slice s.2.1 s.2.2.2.length s.2.2.1)]) (λs=>[vk 3 s.2.1 s.2.2.1 s.2.2.2]) (λs=>(eo m=s.2.2.2++eo s.1)) (λs=>(eo s.1).length) (m,none,0,[]) (show (eo m=([]:List Int)++eo (m:BitVec 64)) from rfl) (hI:=(B6 _ _)) ?_
 rintro ⟨n,a,c,out⟩ hp
 dsimp only at hp ⊢
 have ho:=hp
 have ab:=Gd List.length ho
 rw [By] at ab
 have ah:=Er m
 refine Ax<|Al<|Gm C<|Gr (j8.neB (a:=n) (b:=0#64) C C)<|Ar<|Ao C (λM=>Z ?_)<|λM=>Z ?_
 ·refine G.e (Ab c_ C C<|ga5 n<|Ba hT Ah) ?_
  rintro _ _ ⟨_,_,⟨rfl,rfl⟩,rfl,rfl⟩
  refine Ge1 (B1 (α:=Int) (cs:=[_]) (xs:=[tzB n]) Ac ef C C dc dc C C C C) λai=>?_
  refine Ge2 (Bs (α:=Int) (e:=3) (xs:=out) (ys:=([tzB n]:List Int)) Ac ef C C C mm A5 lcn dc C<|λ_ _=>am) λad ae=>Z ?_
  exact Gr (j8.gi5 (a:=n) (b:=1#64) C C)<|Gr (Eh (a:=n) (b:=n - (1#64)) C C)<|Ga C<|Bq<|Bu ((n &&& (n - (1#64))),(ad),(ae),(out++([tzB n]:List Int))) (by dsimp only;exact (by rw [ho,ad9 M,Fv];rfl)) (hlt:=by (try dsimp only);exact (ct5 M))
 have aa:n=0#64:=Fx.1 M
 have hE:out=eo m:=by rw [ho,aa,D4,Gv]
 subst hE
 exact Am C C (vk 3 a c (eo m)::I) Ai ⟨a,c,rfl,rfl⟩
theorem de9(hl:bs.length=8)(hb:∀b∈bs,b<256)(hm:m.toNat=W3 bs):(dv3 m).toNat=W3 (bs.map p1):=by
 unfold dv3
 have M:W3 (bs.map p1)<=cd5 255 8:=by
  have:=bo5 (c:=255) (bs.map p1) λb h=>by obtain ⟨x,hx,rfl⟩:=H1.1 h;have:=(b1 ⟨x,hb x hx⟩).1;simp only at this;omega
  rwa [Ge,hl] at this
 rw [J_,K_,K_,Hy,Hw,show 2 ^ (1:Int).toNat=2 from rfl,hm,show (6148914691236517205#64).toNat=cd5 85 bs.length by rw [hl];decide+kernel,fv3 bs hb]
 exact Kx<|Nat.lt_of_le_of_lt M<|by decide+kernel
theorem de8(hl:bs.length=8)(hb:∀b∈bs,b<256/\p2 b<256)(hm:m.toNat=W3 bs):(dv2 m).toNat=W3 (bs.map p2):=by
 unfold dv2
 have M:W3 (bs.map p2)<=cd5 255 8:=by
  have:=bo5 (c:=255) (bs.map p2) λb h=>by obtain ⟨x,hx,rfl⟩:=H1.1 h;have:=(hb x hx).2;omega
  rwa [Ge,hl] at this
 rw [J_,K_,K_,Hy,Hw,show 2 ^ (2:Int).toNat=4 from rfl,hm,show (3689348814741910323#64).toNat=cd5 51 bs.length by rw [hl];decide+kernel,fv2 bs λb h=>(hb b h).1]
 exact Kx<|Nat.lt_of_le_of_lt M<|by decide+kernel
theorem de7(hl:bs.length=8)(M:∀b∈bs,b % 16<=4/\b / 16<=4)(hm:m.toNat=W3 bs):(bx1 m).toNat=W3 (bs.map p3):=by
 unfold bx1
 have aa:W3 bs<=cd5 68 8:=by
  have:=bo5 (c:=68) bs λb h=>by have:=M b h;omega
  rwa [hl] at this
 have hr:cd5 68 8=4919131752989213764:=by decide+kernel
 rw [K_,J_,Hy,Hw,show 2 ^ (4:Int).toNat=16 from rfl,hm,show (1085102592571150095#64).toNat=cd5 15 bs.length by rw [hl];decide+kernel,Kx om,fv1 bs M]
theorem bq5(m:BitVec 64):ac5 m=((eo m).length:Int):=by
 unfold ac5
 have hl:=cv5 m.toNat 8
 have hlt:=dm7 m.toNat 8
 have hv:=bn2 8 m.toNat (Nat.lt_of_lt_of_le m.isLt dc)
 generalize bg3 m.toNat 8=bs at hl hlt hv
 have hb:=λb (h:b∈bs)=>b1 ⟨b,hlt b h⟩
 have e1:=de9 hl hlt hv.symm
 have e2:=de8 (bs:=bs.map p1) (by rw [Ge,hl]) (λb h=>by obtain ⟨x,hx,rfl⟩:=H1.1 h;have:=hb x hx;simp only at this;exact ⟨this.1,by omega⟩) e1
 have e3:=de7 (bs:=(bs.map p1).map p2) (by rw [Ge,Ge,hl]) (λb h=>by obtain ⟨y,hy,rfl⟩:=H1.1 h;obtain ⟨x,hx,rfl⟩:=H1.1 hy;have:=hb x hx;simp only at this;exact ⟨this.2.1,this.2.2.1⟩) e2
 generalize bx1 (dv2<|dv3 m)=a at e3
 have hc:W3 bs=m.toNat:=hv
 have M:=dk9 bs hlt
 obtain ⟨f1,f2⟩:=dx7 (n:=a.toNat) (n4:=a.toNat+a.toNat / 256) (n5:=a.toNat+a.toNat / 256+(a.toNat+a.toNat / 256) / 65536) (n6:=a.toNat+a.toNat / 256+(a.toNat+a.toNat / 256) / 65536+(a.toNat+a.toNat / 256+(a.toNat+a.toNat / 256) / 65536) / 4294967296)
  (bs:=((bs.map p1).map p2).map p3) (by rw [Ge,Ge,Ge,hl]) (λb h=>by obtain ⟨z,hz,rfl⟩:=H1.1 h;obtain ⟨y,hy,rfl⟩:=H1.1 hz;obtain ⟨x,hx,rfl⟩:=H1.1 hy;have:=hb x hx;simp only at this;exact this.2.2.2.1) e3 rfl rfl rfl
 have g4:(bq6 a).toNat=a.toNat+a.toNat / 256:=by
  unfold bq6;rw [J_,Hy,Hw,show 2 ^ (8:Int).toNat=256 from rfl];exact Kx om
 have g5:(bx0<|bq6 a).toNat=a.toNat+a.toNat / 256+(a.toNat+a.toNat / 256) / 65536:=by
  unfold bx0;rw [J_,Hy,Hw,show 2 ^ (16:Int).toNat=65536 from rfl,g4];exact Kx om
 have g6:(cs8<|bx0<|bq6 a).toNat=a.toNat+a.toNat / 256+(a.toNat+a.toNat / 256) / 65536+(a.toNat+a.toNat / 256+(a.toNat+a.toNat / 256) / 65536) / 4294967296:=by
  unfold cs8;rw [J_,Hy,Hw,show 2 ^ (32:Int).toNat=4294967296 from rfl,g5];exact Kx om
 have hL:(eo m).length=cr7 (((bs.map p1).map p2).map p3):=by
  unfold eo be1
  rw [Ge,List.map_map,List.map_map,show (λi=>m.getLsbD i)=λj=>(W3 bs).testBit j from by funext j;rw [hc];rfl]
  rw [hl] at M
  exact M
 rw [g6,hL,←f1]
 omega
variable {κ:Ctx}{I:List Item}
def Z6(xs ys:List Int):List Int:=(ofL xs).filter λx=>decide (x∈ys)
theorem T3:x∈Z6 xs ys↔x∈xs/\x∈ys:=by simp [Z6,af5]
def R9(n:Int):List Int:=(List.range (min n 64).toNat).map λj:Nat=>(j:Int)
theorem bk9{n:Int}:x∈R9 n↔0<=x/\x<n/\x<64:=by
 unfold R9
 rw [H1]
 constructor
 ·rintro ⟨j,M,rfl⟩;rw [Jd] at M;omega
 rintro ⟨h1,h2,h3⟩;exact ⟨x.toNat,by rw [Jd];omega,by omega⟩
theorem dp8{u v:Value}(hu:Sl κ I u xs)(hv:Sl κ I v ys)(hb:xs.length<17592186044415):eu prog κ 100 [u,v] I (λr J=>∃a c,r = .slice a (Z6 xs ys).length c/\J=vk 3 a c (Z6 xs ys)::I):=by
 have ai:=bd4 xs
 refine Ce2 Tryz.func100 C C<|Z ?_
 refine Gc2 (Ab c_ C C<|fr4 (A3 hu) om) λaj ah=>Z ?_
 refine Dj (σ:=Nat×(Option Addr)×Nat×(List Int)) (λs=>[(5,.slice s.2.1 s.2.2.2.length s.2.2.1),(11,e7 ((s.1:Nat):Int))]) (λs=>[vk 3 s.2.1 s.2.2.1 s.2.2.2]) (λs=>(s.1<=(ofL xs).length)/\(s.2.2.2=((ofL xs).take s.1).filter (λx=>decide<|x∈ys))) (λs=>(ofL xs).length - s.1) (0,none,0,[]) (show ((0:Nat)<=(ofL xs).length)/\(([]:List Int)=((ofL xs).take (0:Nat)).filter (λx=>decide<|x∈ys)) from ⟨om,rfl⟩) (hI:=(B6 _ _)) ?_
 rintro ⟨k,a,c,out⟩ hp
 dsimp only at hp ⊢
 obtain ⟨hk,ho⟩:=hp
 refine Z ?_
 refine Ao C (λc12=>Z ?_)<|λc12=>Z ?_
 ·refine Gc0 (Ab c_ C C<|bt4 (A3 hv)<|e_ (ofL xs) k) ?_
  refine Ar<|Ao C (λM=>Z ?_)<|λM=>Z ?_
  ·refine Ge1 (B1 (α:=Int) (cs:=[_]) (xs:=[e_ (ofL xs) k]) Ac ef C C dc dc C C C C) λak=>?_
   refine Ge2 (Bs (α:=Int) (e:=3) (xs:=out) (ys:=([e_ (ofL xs) k]:List Int)) Ac ef C C C mm A5 (by have:=bd4 xs;simp only [E_,Fy];rw [ho];have:=aj1 (ofL xs) (λx=>decide<|x∈ys) k;omega) dc C<|λ_ _=>am) λab aa=>Z ?_
   exact Bu ((k+1),(ab),(aa),(out++([e_ (ofL xs) k]:List Int)))<|by dsimp only;exact ⟨om,(by first|rw [aa4 _ _ k om (As M),←ho]|rw [aa6 _ _ k om (D_ M),←ho])⟩
  exact Bu ((k+1),(a),(c),(out))<|by dsimp only;exact ⟨om,(by first|rw [aa4 _ _ k om (As M),←ho]|rw [aa6 _ _ k om (D_ M),←ho])⟩
 have ad:(ofL xs).take k=ofL xs:=Fz om
 rw [ad] at ho
 have ae:out=Z6 xs ys:=ho
 subst ae
 exact Am C C (vk 3 a c (Z6 xs ys)::I) Ai ⟨a,c,rfl,rfl⟩
theorem fd6(n:Int):eu prog κ 99 [e7 n] I (λr J=>∃a c,r = .slice a (R9 n).length c/\J=vk 3 a c (R9 n)::I):=by
 refine Ce1 Tryz.func99 C C<|Z ?_
 refine Dj (σ:=Nat×(Option Addr)×Nat×(List Int)) (λs=>[(3,.slice s.2.1 s.2.2.2.length s.2.2.1),(4,e7 ((s.1:Nat):Int))]) (λs=>[vk 3 s.2.1 s.2.2.1 s.2.2.2]) (λs=>(s.1<=(min n 64).toNat)/\(s.2.2.2=(List.range s.1).map λj:Nat=>(j:Int))) (λs=>(min n 64).toNat - s.1) (0,none,0,[]) (show ((0:Nat)<=(min n 64).toNat)/\(([]:List Int)=(List.range (0:Nat)).map λj:Nat=>(j:Int)) from ⟨om,rfl⟩) (hI:=(B6 _ _)) ?_
 rintro ⟨k,a,c,out⟩ hp
 dsimp only at hp ⊢
 obtain ⟨hk,ho⟩:=hp
 have ad:out.length=k:=by rw [ho];simp
 refine Z ?_
 refine A4 (d:=8) C (λg8=>Z ?_)<|λg8=>Z ?_
 ·refine Ao C (λc11=>Z ?_) (λc11=>Z ?_)
  ·refine Ge1 (B1 (α:=Int) (cs:=[_]) (xs:=[(k:Int)]) Ac ef C C dc dc C C C C) λae=>?_
   refine Ge2 (Bs (α:=Int) (e:=3) (xs:=out) (ys:=([(k:Int)]:List Int)) Ac ef C C C mm A5 lcn dc C<|λ_ _=>am) λaa ab=>Z ?_
   exact Bu ((k+1),(aa),(ab),(out++([(k:Int)]:List Int)))<|by dsimp only;exact ⟨om,(by rw [List.range_succ,Hv,←ho];rfl)⟩
  have M:out=R9 n:=by rw [ho];unfold R9;congr 2;omega
  subst M
  exact Am C C (vk 3 a c (R9 n)::I) Ai ⟨a,c,rfl,rfl⟩
 have M:out=R9 n:=by rw [ho];unfold R9;congr 2;omega
 subst M
 exact Am C C (vk 3 a c (R9 n)::I) Ai ⟨a,c,rfl,rfl⟩
end Go.Sl
namespace Go.Sl
end Go.Sl
namespace Go.Sl
end Go.Sl
namespace Go.Sl
theorem D.fit{P:Program}{κ:Ctx}{N:Frm}{ops:Array Oper}{Q:Exit->Act->World->Prop}{I J H:List Item}{L:Env}{stop fuel:Nat}{M:Array Bool}(hf:Fit κ I J)(h:D P κ N ops Q H stop fuel M L J):D P κ N ops Q H stop fuel M L I:=λa w ha hs=>h a w ha (hf w hs)
section
variable {α:Type}[Enc α]{κ:Ctx}{I:List Item}
theorem Fit.fu9{e:TypeId}{a:Option Addr}{n c k:Nat}{xs:List α}(hn:n=xs.length):Fit κ (vc e (.slice a n c) xs::I) (vc e (.slice a (xs.take k).length c) (xs.take k)::I):=by
 subst hn
 refine Fit.upd (At.head _ _ _) λw h=>⟨?_,λj ⟨o,m,c',hv,M⟩=>?_⟩
 ·obtain ⟨a',cap,hv,h1,h2,h3,h4⟩:=h
  cases hv
  refine ⟨a,c,rfl,r8 _,by rw [Ft];omega,h3,λM=>?_⟩
  obtain ⟨b,off,aa,ha,hb,h5,h6⟩:=h4 M
  refine ⟨b,off,aa,ha,hb,h5,λj u hj=>h6 j u ?_⟩
  have e1:cells xs=cells (xs.take k)++cells (xs.drop k):=by rw [←L0,Jo]
  rw [e1,Gz (Ha.1 hj).1];exact hj
 cases hv;exact ⟨o,_,c,rfl,M⟩
def ao6(e:TypeId)(rs:List (G1 α)):List Item:=rs.map λr=>vc e (.slice r.a r.xs.length r.c) r.xs
end
end Go.Sl
namespace Go.Sl
open Go.Proofs
set_option maxRecDepth 4000
end Go.Sl
namespace Go.Sl
open Go.Proofs
set_option maxRecDepth 4000
variable{es:List Pt}{nd v:Int}{va:Value}
variable {κ:Ctx}{I:List Item}
attribute [local irreducible] W G V D A j8 Eff
def bi1(nd:Int)(es:List Pt)(v:Int):BitVec 64:=if v<0\/((ek nd es).length:Int)<=v\/F7 nd es≠0 then 0#64 else e_ (ek nd es) v
def nbL(es:List Pt)(v:Int):List Int:=es.flatMap λe=>(if e.u=v then [e.v] else [])++(if e.v=v then [e.u] else [])
theorem aq8{k:Nat}(h:k<es.length)(v:Int):nbL (es.take (k+1)) v=nbL (es.take k) v++((if (e_ es k).u=v then [(e_ es k).v] else [])++(if (e_ es k).v=v then [(e_ es k).u] else [])):=by
 unfold nbL;rw [Ca es k h,List.flatMap_append];simp
theorem an6{x:Int}:x∈nbL es v↔(⟨v,x⟩:Pt)∈es\/(⟨x,v⟩:Pt)∈es:=by
 unfold nbL
 rw [Ky]
 constructor
 ·rintro ⟨⟨a,b⟩,M,hx⟩
  rcases Gw.1 hx with h|h
  ·split at h
   ·rename_i h1;simp only [Gh] at h;simp only at h1;subst h h1;exact .inl M
   simp at h
  split at h
  ·rename_i h1;simp only [Gh] at h;simp only at h1;subst h h1;exact .inr M
  simp at h
 rintro (h|h)
 ·exact ⟨_,h,by simp⟩
 exact ⟨_,h,by simp⟩
def nbG(nd:Int)(es:List Pt)(v:Int):List Int:=if F7 nd es≠0 then [] else ofL (nbL es v)
theorem cs9(nd:Int)(es:List Pt)(v:Int):eo (bi1 nd es v)=nbG nd es v:=by
 by_cases hc:F7 nd es≠0
 ·unfold bi1 nbG;rw [B_ (.inr<|.inr hc),B_ hc,D4]
 have M:=s4.1 (Fx.1 hc)
 have hr:=M.rng
 have hl:=M.rows.len
 unfold nbG
 rw [An hc]
 refine ar6.uniq (ae0 _) (T1 _) λx=>?_
 rw [D3,af5,an6]
 by_cases hv:v<0\/((ek nd es).length:Int)<=v
 ·have hz:bi1 nd es v=0#64:=B_ om
  rw [hz]
  simp only [BitVec.getLsbD_zero,Bool.false_eq_true,and_false,false_iff]
  rintro (h|h)
  ·have:=M.aa9 _ h;simp only at this;omega
  have:=M.aa9 _ h;simp only at this;omega
 have hz:bi1 nd es v=e_ (ek nd es) v:=An om
 rw [hz]
 by_cases hx:0<=x/\x<64
 ·rw [M.rows.bit v x om om hx.1 hx.2,Gs]
  exact ⟨λh=>h.2,λh=>⟨hx.1,h⟩⟩
 constructor
 ·rintro ⟨h1,h2⟩
  rw [BitVec.getLsbD_of_ge _ _ om] at h2
  exact absurd h2 dc
 rintro (h|h)
 ·have:=M.aa9 _ h;simp only at this;omega
 have:=M.aa9 _ h;simp only at this;omega
theorem K1(nd:Int)(es:List Pt)(v:Int):(nbG nd es v).length<=64:=by rw [←cs9];exact Er _
theorem dg6(a b:BitVec 64):eo (a &&& b)=Z6 (eo a) (eo b):=by
 refine ar6.uniq (ae0 _) ((T1 _).sublist Hi) λx=>?_
 rw [T3,D3,D3,D3,Kh,Hh]
 exact ⟨λh=>⟨⟨h.1,h.2.1⟩,h.1,h.2.2⟩,λh=>⟨h.1.1,h.1.2,h.2.2⟩⟩
theorem dk0(nd:Int)(es:List Pt)(v:Int):ac5 (bi1 nd es v)=((nbG nd es v).length:Int):=by rw [bq5,cs9]
def j3(nd:Int)(es:List Pt)(u v:Int):List Int:=if u=v then [] else Z6 (nbG nd es u) (nbG nd es v)
theorem as6{u:Int}(h:u≠v):eo (bi1 nd es u &&& bi1 nd es v)=j3 nd es u v:=by
 unfold j3;rw [An h,dg6,cs9,cs9]
def at4(nd:Int)(es:List Pt)(u v y:Int):Prop:=(F7 nd es=0/\∃j:Nat,y=(j:Int)/\j<es.length/\e_ es j=j4 u v)\/(y = -1/\(F7 nd es≠0\/j4 u v∉es))
theorem fp1:∀n:Fin 65,∀i:Fin 64,(as9 (n.val:Int)).getLsbD i.val=decide (i.val<n.val):=by decide+kernel
theorem af8{n:Int}(M:0<=n)(h1:n<=64){i:Nat}(hi:i<64):(as9 n).getLsbD i=decide ((i:Int)<n):=by
 have:=fp1 ⟨n.toNat,by omega⟩ ⟨i,hi⟩
 simp only [show ((n.toNat:Nat):Int)=n by omega] at this
 rw [this,Fw];omega
theorem bb2(hl:Sl κ I va es)(v:Int):eu prog κ 165 [.agg #[e7 nd,va],e7 v] I (λr J=>r=U64 (bi1 nd es v)/\I=J):=by
 refine Ce2 Tryz.func165 C C ?_
 refine Al<|Ge1 (Av (cs:=[_,_]) C C C) λb1=>Z ?_
 refine G.e (Ab c_ C C<|at2 (nd:=nd)<|A3 hl) ?_
 rintro _ _ ⟨_,_,⟨ae,ah,rfl,rfl⟩,rfl,rfl⟩
 have M:=ad6 nd es
 refine Z ?_
 refine A4 (d:=10) C (λab=>Z ?_)<|λab=>Z ?_
 ·exact Am C C I Ah ⟨by rw [show bi1 nd es v=0#64 from B_ om];rfl,rfl⟩
 refine A4 (d:=16) C (λad=>Z ?_)<|λad=>Z ?_
 ·exact Am C C I Ah ⟨by rw [show bi1 nd es v=0#64 from B_ om];rfl,rfl⟩
 refine Dt (Cm C C C) (Ab c_ C C<|V1<|A3 hl) ?_
 rintro _ _ ⟨_,_,⟨rfl,rfl⟩,rfl,rfl⟩
 refine Z ?_
 refine Ao C (λaa=>Z ?_)<|λaa=>Z ?_
 ·exact Am C C I Ah ⟨by rw [show bi1 nd es v=0#64 from B_ om];rfl,rfl⟩
 exact Am C C I Ah ⟨by rw [show bi1 nd es v=e_ (ek nd es) v from An om],rfl⟩
theorem bh3(hl:Sl κ I va es)(v:Int)(hT:F4 κ I 0 p5):eu prog κ 164 [.agg #[e7 nd,va],e7 v] I (λr J=>∃a c,r = .slice a (nbG nd es v).length c/\J=vk 3 a c (nbG nd es v)::I):=by
 refine Ce2 Tryz.func164 C C ?_
 refine Al<|Ge1 (Av (cs:=[_,_]) C C C) λb1=>Z ?_
 refine G.e (Ab c_ C C<|bb2 (nd:=nd) (A3 hl) v) ?_
 rintro _ _ ⟨_,_,⟨rfl,rfl⟩,rfl,rfl⟩
 refine Gc2 (Ab c_ C C<|ac1 (bi1 nd es v)<|Ba hT Ah) λM aa=>Z ?_
 have hX:(nbG nd es v)=_:=(cs9 nd es v).symm
 exact Am C C (vk 3 M aa (nbG nd es v)::I) (by unfold vk;rw [hX];exact Ai) ⟨M,aa,by rw [hX],rfl⟩
theorem Z2(M:Sl κ I va es)(v:Int):eu prog κ 136 [.agg #[e7 nd,va],e7 v] I (λr J=>r=e7 ((((nbG nd es v).length:Nat)):Int)/\I=J):=by
 refine Ce2 Tryz.func136 C C ?_
 refine Al<|Ge1 (Av (cs:=[_,_]) C C C) λb1=>Z ?_
 refine G.e (Ab c_ C C<|bb2 (nd:=nd) (A3 M) v) ?_
 rintro _ _ ⟨_,_,⟨rfl,rfl⟩,rfl,rfl⟩
 refine Gc0 (Ab c_ C C<|bh4<|bi1 nd es v) ?_
 exact Ga C<|Ar<|B3<|Am C C I Ah ⟨by rw [dk0],rfl⟩
theorem bo0(hl:Sl κ I va es)(u v:Int)(hT:F4 κ I 0 p5):eu prog κ 178 [.agg #[e7 nd,va],e7 u,e7 v] I (λr J=>∃a c,r = .slice a (j3 nd es u v).length c/\J=vk 3 a c (j3 nd es u v)::I):=by
 refine Ce3 Tryz.func178 C C ?_
 refine Al<|Ge1 (Av (cs:=[_,_]) C C C) λb1=>Z ?_
 refine Ao C (λc9=>Z ?_)<|λc9=>Z ?_
 ·have M:(j3 nd es u v)=[]:=B_ c9
  exact Am C C (vk 3 none 0 (j3 nd es u v)::I) (by unfold vk;rw [M];exact A9 (show Fit κ _ I from Ah)<|B6 (α:=Int) _ _) ⟨none,0,by rw [M];rfl,rfl⟩
 refine A8 mixed<|Bv (e8 b1 [e7 nd,va] 38::I) 9<|Z ?_
 refine Ds1 2<|Se C (Ab c_ C C<|bb2 (nd:=nd) (A3 hl) u) ?_
 rintro _ _ ⟨_,_,⟨rfl,rfl⟩,rfl,rfl⟩
 refine ⟨Ai,?_⟩
 refine Ds1 5<|Se C (Ab c_ C C<|bb2 (nd:=nd) (A3 hl) v) ?_
 rintro _ _ ⟨_,_,⟨rfl,rfl⟩,rfl,rfl⟩
 refine ⟨Ai,?_⟩
 refine Dr 6 C (Eh (a:=bi1 nd es u) (b:=bi1 nd es v) C C)<|Ds1 7<|Sc2 C (Ab c_ C C<|ac1 ((bi1 nd es u) &&& (bi1 nd es v))<|Ba hT Ah) λaa ab=>Z ?_
 have M:(j3 nd es u v)=_:=(as6 c9).symm
 exact Am C C (vk 3 aa ab (j3 nd es u v)::I) (by unfold vk;rw [M];exact Ai) ⟨aa,ab,by rw [M],rfl⟩
theorem at5(hl:Sl κ I va es)(u v:Int)(hb:es.length<=1000000000):eu prog κ 151 [.agg #[e7 nd,va],e7 u,e7 v] I (λr J=>∃y:Int,r=e7 y/\at4 nd es u v y/\I=J):=by
 refine Ce3 Tryz.func151 C C ?_
 refine Al<|Ge1 (Av (cs:=[_,_]) C C C) λb1=>Z ?_
 refine G.e (Ab c_ C C<|bt6 (A3 hl) u v om) ?_
 rintro _ _ ⟨_,_,⟨i2,q3,rfl,ab,rfl⟩,rfl,rfl⟩
 refine Z ?_
 refine A4 (d:=17) C (λM=>Z ?_)<|λM=>Z ?_
 ·refine Dt (Cm C C C) (Ab c_ C C<|V1<|A3 hl) ?_
  rintro _ _ ⟨_,_,⟨rfl,rfl⟩,rfl,rfl⟩
  refine Z ?_
  refine Ao C (λaa=>Z ?_)<|λaa=>Z ?_
  ·exact Am C C I Ah ⟨_,rfl,.inl ⟨aa,i2,rfl,M.1,M.2⟩,rfl⟩
  have hn:F7 nd es≠0\/j4 u v∉es:=(Decidable.em<|F7 nd es=0).elim (λhc=> .inr λhm=>by first|exact aa hc|exact M ((ab.mem (s4.1 hc).asc).2 hm)) .inl
  exact Am C C I Ah ⟨_,rfl,.inr ⟨rfl,hn⟩,rfl⟩
 have hn:F7 nd es≠0\/j4 u v∉es:=(Decidable.em<|F7 nd es=0).elim (λhc=> .inr λhm=>by first|exact aa hc|exact M ((ab.mem (s4.1 hc).asc).2 hm)) .inl
 exact Am C C I Ah ⟨_,rfl,.inr ⟨rfl,hn⟩,rfl⟩
end Go.Sl
namespace Go.Sl
open Go.Proofs
set_option maxRecDepth 4000
variable{n:Nat}{nd v:Int}{rows:List (BitVec 64)}{es:List Pt}
def bf9(nd:Int)(es:List Pt):List (Int×Nat):=ae2 (ek nd es) (as9 ((ek nd es).length:Int)) 0
def dk7(nd:Int)(es:List Pt):List Int:=bq8 (ek nd es).length (bf9 nd es)
def fo0(nd:Int)(es:List Pt):List Int:=am5 (bf9 nd es)
def j9(nd:Int)(es:List Pt):List Int:=if F7 nd es≠0 then [] else dk7 nd es
def U9(nd:Int)(es:List Pt)(k:Int):List Int:=ae8 (j9 nd es).length λv=>decide (k<=e_ (j9 nd es) v)
theorem af6(h:n<=64){u:Int}:u∈eo (as9 (n:Int))↔0<=u/\u<n:=by
 constructor
 ·intro hu
  have M:=Em hu
  rw [D3,af8 om om om,Gs] at hu
  omega
 intro hu
 rw [D3,af8 om om om,Gs]
 omega
theorem as5(nd:Int)(es:List Pt):(dk7 nd es).length=(ek nd es).length:=cm0 _ _
theorem du9(l:List (Int×Nat)):(am5 l).length=l.length:=Ge ..
theorem bz8(h0:0<=v)(M:v<64):J1 v=1#64 <<< v.toNat:=by unfold J1;rw [An om]
theorem dz1(h:fq2 n rows){k:Int}(M:0<=k)(h1:k<n):ac5 (e_ rows k)=((Q4 rows (as9 (n:Int)) k:Nat):Int):=by
 rw [bq5]
 unfold Q4
 congr 1
 refine ((Ht (Dh _)<|Dh _).2 λu=>?_).length_eq
 rw [K3]
 refine ⟨λhu=>⟨hu,(af6 h.le).2 ⟨(Em hu).1,h.lt k u M h1 hu⟩⟩,λhu=>hu.1⟩
theorem dz5(h:fq2 n rows)(hn:1<=n)(left:BitVec 64)(v:Int):Q4 rows left v<=n - 1:=by
 by_cases hv:v.toNat<n
 ·have e:e_ rows v=e_ rows v.toNat:=by show rows.getD v.toNat _=rows.getD ((v.toNat:Nat):Int).toNat _;rw [L_]
  have:=bs3 h left (v:=(v.toNat:Int)) om om
  unfold Q4 at this ⊢
  rw [e];omega
 have e:e_ rows v=0#64:=by
  unfold e_
  rw [Hu,Jq (by rw [h.len];omega)];rfl
 unfold Q4
 rw [e,BitVec.zero_and,D4];simp
theorem ak4(M:s8 nd es):fq2 (ek nd es).length (ek nd es):=by
 have h:=M.rows.symB M
 have e:=h.len
 rw [←e] at h;exact h
theorem dk3{left:BitVec 64}{M dd:Nat}{done:List (Int×Nat)}{all:List (Int×Nat)}(hc:done++ae2 rows left M=all)(hT:ca3 rows left v)(hd:Q4 rows left v=dd) :
  (done++[(v,max M dd)])++ae2 rows (left &&& ~~~(1#64 <<< v.toNat)) (max M dd)=all:=by
 rw [←hc,bm7 hT,hd,Fv];rfl
theorem fa1(h:n<=64):(eo (as9 (n:Int))).length=n:=by
 have M:(eo (as9 (n:Int))).Perm ((List.range n).map fun (i:Nat)=>(i:Int)):=(Ht (Dh _) (by
  exact My _ (λa b h=>by omega) (List.nodup_range (n:=n)))).2 λu=>by
  rw [af6 h,H1]
  constructor
  ·intro hu;exact ⟨u.toNat,Jd.2 om,by omega⟩
  rintro ⟨i,hi,rfl⟩;have:=Jd.1 hi;omega
 have:=M.length_eq
 rwa [Ge,Kb] at this
set_option maxHeartbeats 2000000 in
theorem fg6{κ:Ctx}{I:List Item}{va:Value}(hl:Sl κ I va es)(hG:s8 nd es)(hT:F4 κ I 0 p5):eu prog κ 129 [.agg #[e7 nd,va]] I (λr J=>∃a c a' c',r = .tuple #[.slice a (fo0 nd es).length c,.slice a' (dk7 nd es).length c']/\J=vk 3 a c (fo0 nd es)::vk 3 a' c' (dk7 nd es)::I):=by
 have hS:=ak4 hG
 have bu:=hS.le
 refine Ce1 Tryz.func129 C C ?_
 refine Al<|Ge1 (Av (cs:=[_,_]) C C C) λb1=>Ga C<|Ga C<|Ar<|W.fv6 (l:=0) C ?_
 refine Al<|Gl2 K0 ?_
 refine G.e (Ab c_ C C<|at2 (nd:=nd)<|A3 hl) ?_
 rintro _ _ ⟨_,_,⟨ad,ae,rfl,rfl⟩,rfl,rfl⟩
 have bg:=ad6 nd es
 refine Ga C<|Ar<|Al<|Ge1 (Aj ft8 C) λb4=>?_
 show G prog κ _ _ _ _ ([(5,pt b4),(4,.slice ad (ek nd es).length ae),(16,.slice ad (ek nd es).length ae),(15,.agg #[e7 nd,va]),(3,.slice none 0 0),(2,.slice none 0 0),(1,pt b1),(0,.agg #[e7 nd,va])]:Env) (e8 b4 (cells (replicate 64 (0#64):List (BitVec 64))) 208::vk 207 ad ae (ek nd es)::e8 b1 [e7 nd,va] 38::I)
 refine Ar<|Al<|Gm C<|Gr (Bn Cq C)<|Ge2 (Dm (α:=Int) (n:=(ek nd es).length) Ac ef C C C om om dc C) λai ah=>?_
 refine Ga C<|Ar<|Ax<|Al<|Gm C<|Gr (Bn Cq C)<|Gm C<|Ar<|A0 (S7 22 21 20 6 5 4 2)<|A7<|B9 (σ:=Nat×(List Int)×(List<|BitVec 64)) (λs=>([(2,.slice none 0 0),(4,.slice ad (ek nd es).length ae),(5,pt b4),(6,.slice ai (replicate ((ek nd es).length) (default:Int)).length ah),(20,.slice ad (ek nd es).length ae),(21,e7<|(((ek nd es).length:Nat):Int)),(22,e7 ((s.1:Nat):Int))]:Env)) (λs=>vc 3 (.slice ai (replicate ((ek nd es).length) (default:Int)).length ah) (s.2.1)::e8 b4 (cells (s.2.2:List (BitVec 64))) 208::vk 207 ad ae (ek nd es)::e8 b1 [e7 nd,va] 38::I) (λs=>(s.1<=(ek nd es).length)/\(au3 (ek nd es).length (λu=>0<=u/\u<((s.1:Nat):Int)) (Q4 (ek nd es)<|as9 ((ek nd es).length:Int)) s.2.1 s.2.2)) (λs=>(ek nd es).length - s.1) (0,replicate ((ek nd es).length) (default:Int),replicate 64<|0#64) (show ((0:Nat)<=(ek nd es).length)/\(au3 (ek nd es).length (λu=>0<=u/\u<(((0:Nat):Nat):Int)) (Q4 (ek nd es)<|as9 ((ek nd es).length:Int)) (replicate ((ek nd es).length) (default:Int):List Int) (replicate 64 (0#64):List (BitVec 64))) from ⟨om,(au3.start _ _)⟩) (cx4<|cx2<|Aa Cl Bb) (show Fit κ _ (vk 3 ai ah (replicate ((ek nd es).length) (default:Int))::e8 b4 (cells ((replicate 64<|0#64):List (BitVec 64))) 208::vk 207 ad ae (ek nd es)::e8 b1 [e7 nd,va] 38::I) from Ai) ?_
 rintro ⟨k,dgs,bks⟩ hp
 dsimp only at hp ⊢
 obtain ⟨hk,hB⟩:=hp
 have b8:=hB.fs8
 have cd:=hB.ft0
 have bc:k<(ek nd es).length->ac5 (e_ (ek nd es) k)=((Q4 (ek nd es) (as9 ((ek nd es).length:Int)) (k:Int):Nat):Int):=λh=>dz1 hS om om
 have a3:k<(ek nd es).length->((Q4 (ek nd es) (as9 ((ek nd es).length:Int)) (k:Int):Nat):Int)<64:=λh=>by have:=bs3 hS (as9 ((ek nd es).length:Int)) (v:=(k:Int)) om om;omega
 refine Al<|Gr (Bm C C)<|Ar<|Ax<|Ao C (λbr=>?_)<|λbr=>?_
 ·refine Bc (Ak<|Ax<|A7<|Al<|Gm C<|Gr (A1 (α:=(BitVec 64)) (xs:=ek nd es) Cq M4 C C A5 om oo)<|Gr (Cc (α:=(BitVec 64)) (xs:=ek nd es) (u:=U64 ((e_ (ek nd es) k))) M4 C A5 om oo C)<|Ga C<|Ga C<|Ar<|Al<|Gm C<|Gm C<|Gm C<|Gc0 (Ab c_ C C<|bh4<|e_ (ek nd es) k) ?_)
  refine Gr (A1 (α:=Int) (xs:=dgs) Ac ef C C A5 om oo)<|Ge0 (Cw (α:=Int) (xs:=dgs) (e:=3) (new:=ac5 (e_ (ek nd es) k)) ef C C C om oo am) ?_
  have a8:=bc om
  have bn:=a3 om
  have a9:e_ (List.set dgs ((k:Int)).toNat (ac5<|e_ (ek nd es) k)) (k:Int)=((Q4 (ek nd es) (as9 ((ek nd es).length:Int)) (k:Int):Nat):Int):=by rw [Ei _ _ _ _ om om om,B_ rfl,a8]
  refine Ar<|A0 (S8 7 2 4 5 6 20 21 22)<|A8 mixed<|Bv (vc 3 (.slice ai (replicate ((ek nd es).length) (default:Int)).length ah) (List.set dgs ((k:Int)).toNat (ac5<|e_ (ek nd es) k))::e8 b4 (cells (bks:List (BitVec 64))) 208::vk 207 ad ae (ek nd es)::e8 b1 [e7 nd,va] 38::I) 10<|Dr 0 C (Ap C)<|Dr 1 C (Ap C)<|Dr 2 C (A1 (α:=Int) (xs:=List.set dgs ((k:Int)).toNat (ac5<|e_ (ek nd es) k)) Ac ef C C A5 om oo)<|Dr 3 C (B8 (xs:=List.set dgs ((k:Int)).toNat (ac5<|e_ (ek nd es) k)) ef C A5 om oo)<|Dr 4 C (B5 C8 M4 C C om oo)<|Dr 5 C (Fr (xs:=bks) M4 C (Dn mm) om oo)<|Dr 6 C (Ap C)<|Ds1 7<|Se C (Ab c_ C C<|ac3 (k:Int)) ?_
  rintro _ _ ⟨_,_,⟨rfl,rfl⟩,rfl,rfl⟩
  refine ⟨Ah,?_⟩
  refine Dr 8 C (Ed (a:=e_ bks (e_ (List.set dgs ((k:Int)).toNat (ac5<|e_ (ek nd es) k)) (k:Int))) (b:=J1 (k:Int)) C C)<|Dr 9 C (B5 C8 M4 C C om oo)<|Ch kr ?_
  refine Ae 10 C (Eff.dt6 (xs:=bks) (i:=e_ (List.set dgs ((k:Int)).toNat (ac5<|e_ (ek nd es) k)) (k:Int)) (n:=(e_ bks<|e_ (List.set dgs ((k:Int)).toNat (ac5<|e_ (ek nd es) k)) (k:Int)) ||| (J1 (k:Int))) M4 C C C om oo am) ?_
  rintro _ _ ⟨rfl,rfl⟩
  refine Ci kr ?_
  exact Au<|Ak<|A0 (S7 2 4 5 6 20 21 22)<|A6<|Gr (Rad C C)<|Gm C<|Bq<|Bu ((k+1),(List.set dgs ((k:Int)).toNat (ac5<|e_ (ek nd es) k)),(List.set bks (e_ (List.set dgs ((k:Int)).toNat (ac5<|e_ (ek nd es) k)) (k:Int)).toNat ((e_ bks<|e_ (List.set dgs ((k:Int)).toNat (ac5<|e_ (ek nd es) k)) (k:Int)) ||| (J1 (k:Int)))))<|by dsimp only;exact ⟨om,(by have hN:=hB.push (S':=λu=>0<=u/\u<((k+1:Nat):Int)) (v:=(k:Int)) (c:=((Q4 (ek nd es) (as9 ((ek nd es).length:Int)) (k:Int):Nat):Int)) om om om (λu=>by constructor<;>intro h<;>omega) (λh=>by omega) C (a3 om);rw [a9,bc om,bz8 om om];exact hN)⟩
 refine Cg<|Aw<|Aw<|Bi<|Ak<|Al<|Gm C<|Gr (Bn Cq C)<|Ge2 (Dm (α:=Int) (n:=(ek nd es).length) Ac ef C C C om om dc C) λak aj=>?_
 refine Ga C<|Ar<|Al<|Gm C<|Gr (Bn Cq C)<|Gc0 (Ab c_ C C<|cy4 (((ek nd es).length:Nat):Int)) ?_
 refine Ga C<|Ar<|A0 (S6 9 3 2 4 5 6)<|Al<|Ga C<|Ar<|Ax<|W.label ?_
 refine Ak<|Ax<|A7<|B9 (σ:=(List<|Int×Nat)×(BitVec 64)×Nat×(List Int)×(List<|BitVec 64)×(Option Addr)×Nat) (λs=>([(2,.slice s.2.2.2.2.2.1 (am5 s.1).length s.2.2.2.2.2.2),(3,.slice ak (replicate ((ek nd es).length) (default:Int)).length aj),(4,.slice ad (ek nd es).length ae),(5,pt b4),(6,.slice ai (replicate ((ek nd es).length) (default:Int)).length ah),(9,U64<|s.2.1),(10,e7 ((s.2.2.1:Nat):Int))]:Env)) (λs=>vk 3 s.2.2.2.2.2.1 s.2.2.2.2.2.2 (am5 s.1)::vc 3 (.slice ak (replicate ((ek nd es).length) (default:Int)).length aj) (bq8 (ek nd es).length s.1)::vc 3 (.slice ai (replicate ((ek nd es).length) (default:Int)).length ah) (s.2.2.2.1)::e8 b4 (cells (s.2.2.2.2.1:List (BitVec 64))) 208::vk 207 ad ae (ek nd es)::e8 b1 [e7 nd,va] 38::I) (λs=>(s.1++ae2 (ek nd es) s.2.1 s.2.2.1=bf9 nd es)/\(au3 (ek nd es).length (λu=>u∈eo s.2.1) (Q4 (ek nd es) s.2.1) s.2.2.2.1 s.2.2.2.2.1)/\(s.1.length+(eo s.2.1).length=(ek nd es).length)/\(s.2.2.1<=63)) (λs=>(eo s.2.1).length) ([],(as9 ((ek nd es).length:Int)),0,dgs,bks,none,0) (show (([]:List (Int×Nat))++ae2 (ek nd es) ((as9 ((ek nd es).length:Int)):BitVec 64) (0:Nat)=bf9 nd es)/\(au3 (ek nd es).length (λu=>u∈eo ((as9 ((ek nd es).length:Int)):BitVec 64)) (Q4 (ek nd es) ((as9 ((ek nd es).length:Int)):BitVec 64)) (dgs:List Int) (bks:List (BitVec 64)))/\(([]:List (Int×Nat)).length+(eo ((as9 ((ek nd es).length:Int)):BitVec 64)).length=(ek nd es).length)/\((0:Nat)<=63) from ⟨rfl,(hB.congr (λu=>(af6 hS.le).trans (by constructor<;>intro h<;>omega))<|λu _=>rfl),(by have:(eo<|as9 ((ek nd es).length:Int)).length=(ek nd es).length:=fa1 hS.le;simp only [Fy];omega),om⟩) (Aa (Da C<|by first|rfl|(rw [ai2])|simp)<|cx4<|Aa (Da C<|by first|rfl|(rw [ai2])|simp)<|Aa Cl Bb) (show Fit κ _ (vk 3 none 0 (am5<|[])::vc 3 (.slice ak (replicate ((ek nd es).length) (default:Int)).length aj) (bq8 (ek nd es).length ([]))::vc 3 (.slice ai (replicate ((ek nd es).length) (default:Int)).length ah) ((dgs))::e8 b4 (cells ((bks):List (BitVec 64))) 208::vk 207 ad ae (ek nd es)::e8 b1 [e7 nd,va] 38::I) from (A9 (B6 (α:=Int) _ _) Az)) ?_
 rintro ⟨done,left,kk,aq,aa,ao,co⟩ hp
 dsimp only at hp ⊢
 obtain ⟨hc,ax,b7,ce⟩:=hp
 have bw:=ax.fs8
 have bv:=ax.ft0
 have hold:=du9 done
 have cc:=cm0 (ek nd es).length done
 have aw:∀u∈eo left,Q4 (ek nd es) left u<64:=λu hu=>by have hr:=ax.rng u hu;have:=bs3 hS left hr.1 hr.2;omega
 refine Ax<|Al<|Gm C<|Gr (j8.neB (a:=left) (b:=0#64) C C)<|Ar<|Ao C (λa5=>?_)<|λa5=>?_
 ·refine Bc (Ak<|A7<|Al<|Gm C<|Ar<|A7<|B9 (σ:=Nat) (λs=>([(2,.slice ao (am5 done).length co),(3,.slice ak (replicate ((ek nd es).length) (default:Int)).length aj),(4,.slice ad (ek nd es).length ae),(5,pt b4),(6,.slice ai (replicate ((ek nd es).length) (default:Int)).length ah),(9,U64 left),(10,e7<|(kk:Int)),(51,e7 ((s:Nat):Int))]:Env)) (λs=>vk 3 ao co (am5 done)::vc 3 (.slice ak (replicate ((ek nd es).length) (default:Int)).length aj) (bq8 (ek nd es).length done)::vc 3 (.slice ai (replicate ((ek nd es).length) (default:Int)).length ah) (aq)::e8 b4 (cells (aa:List (BitVec 64))) 208::vk 207 ad ae (ek nd es)::e8 b1 [e7 nd,va] 38::I) (λs=>(s<=64)/\(∀c:Int,0<=c->c<((s:Nat):Int)->e_ aa c=0#64)) (λs=>64 - s) 0 (show ((0:Nat)<=64)/\(∀c:Int,0<=c->c<(((0:Nat):Nat):Int)->e_ aa c=0#64) from ⟨om,(λc h1 h2=>by omega)⟩) (cx4<|cx2<|Aa C<|Aa Cl Bb) (show Fit κ _ (vk 3 ao co (am5 done)::vc 3 (.slice ak (replicate ((ek nd es).length) (default:Int)).length aj) (bq8 (ek nd es).length done)::vc 3 (.slice ai (replicate ((ek nd es).length) (default:Int)).length ah) (aq)::e8 b4 (cells (aa:List (BitVec 64))) 208::vk 207 ad ae (ek nd es)::e8 b1 [e7 nd,va] 38::I) from Ai) ?_)
  rintro dd hp
  obtain ⟨b6,hz⟩:=hp
  refine Al<|Gr (Bm C C)<|Ar<|Ax<|Ao C (λbp=>?_)<|λbp=>?_
  ·refine Bc (Ak<|Ax<|A7<|Al<|Gm C<|Ga C<|Ar<|Ax<|Al<|Gm C<|Gr (B5 C8 M4 C C om oo)<|Gr (Fr (xs:=aa) M4 C (Dn mm) om oo)<|Gr (j8.eqB (a:=e_ aa dd) (b:=0#64) C C)<|Ar<|A0 (S10 57 11 2 3 4 5 6 9 10 51)<|Ao C (λbb=>?_)<|λbb=>?_)
   ·exact Cg<|Aw<|Bi<|Ak<|A6<|Gr (Rad C C)<|Gm C<|Bq<|Bu ((dd+1)) ⟨om,(λc h1 h2=>by by_cases e:c=(dd:Int);(· rw [e];assumption);(· exact hz c h1 om))⟩
   refine Bc<|Ak<|Al<|Gm C<|Gr (B5 C8 M4 C C om oo)<|Gr (Fr (xs:=aa) M4 C (Dn mm) om oo)<|Gc0 (Ab c_ C C<|fe5 (e_ aa dd)<|Ba hT Ah) ?_
   have be:=ax.takes (d:=(dd:Int)) om om bb hz aw
   generalize hvE:tzB (e_ aa dd)=v at be ⊢
   obtain ⟨ba,bk⟩:=be
   have ay:=ba.mem
   have cb:=ax.rng v ay
   refine Ga C<|Ar<|A0 (S9 12 11 2 3 4 5 6 9 10)<|Al<|Gm C<|Gm C<|Gr (Fd C C) ?_
   have bj:(if (kk:Int)<(dd:Int) then (dd:Int) else (kk:Int))=(((max kk dd):Nat):Int):=by split<;>omega
   rw [bj]
   refine Ga C<|Ar<|A0 (S9 10 12 11 2 3 4 5 6 9)<|Al<|Gm C<|Gm C<|Gm C<|Gr (A1 (α:=Int) (xs:=bq8 (ek nd es).length done) Ac ef C C A5 om oo)<|Ge0 (Cw (α:=Int) (xs:=bq8 (ek nd es).length done) (e:=3) (new:=(((max kk dd):Nat):Int)) ef C C C om oo am) ?_
   refine Ar<|Al<|Gm C<|Gm C<|Ge1 (B1 (α:=Int) (cs:=[_]) (xs:=[v]) Ac ef C C dc dc C C C C) λa0=>?_
   refine Ge2 (Bs (α:=Int) (e:=3) (xs:=am5 done) (ys:=([v]:List Int)) Ac ef C C C mm A5 lcn dc C<|λ_ _=>am) λap an=>?_
   refine Ga C<|Ar<|A0 (S9 2 10 12 11 3 4 5 6 9)<|Al<|Gm C<|Gm C<|G.e (Ab c_ C C<|ac3 v) ?_
   rintro _ _ ⟨_,_,⟨rfl,rfl⟩,rfl,rfl⟩
   rw [show J1 v=1#64 <<< (v).toNat from bz8 om om]
   refine Gr (Ez (a:=left) (b:=1#64 <<< (v).toNat) C C)<|Ga C<|Ar<|A0 (S9 9 2 10 12 11 3 4 5 6)<|Ax<|A8 mixed<|Bv (vc 3 (.slice a0 1 1) (([v]:List Int))::vk 3 ap an ((am5 done)++([v]:List Int))::vc 3 (.slice ak (replicate ((ek nd es).length) (default:Int)).length aj) (List.set (bq8 (ek nd es).length done) (v).toNat ((((max kk dd):Nat):Int)))::vc 3 (.slice ai (replicate ((ek nd es).length) (default:Int)).length ah) (aq)::e8 b4 (cells (aa:List (BitVec 64))) 208::vk 207 ad ae (ek nd es)::e8 b1 [e7 nd,va] 38::I) 7<|Dr 0 C (Ap C)<|Dr 1 C (B5 C8 M4 C C om oo)<|Dr 2 C (Fr (xs:=aa) M4 C (Dn mm) om oo)<|Dr 3 C (Ap C)<|Ds1 4<|Se C (Ab c_ C C<|ac3 v) ?_
   rintro _ _ ⟨_,_,⟨rfl,rfl⟩,rfl,rfl⟩
   refine ⟨Ah,?_⟩
   rw [show J1 v=1#64 <<< (v).toNat from bz8 om om]
   refine Dr 5 C (Ez (a:=e_ aa dd) (b:=1#64 <<< (v).toNat) C C)<|Dr 6 C (B5 C8 M4 C C om oo)<|Ch kr ?_
   refine Ae 7 C (Eff.dt6 (xs:=aa) (i:=(dd:Int)) (n:=(e_ aa dd) &&& ~~~(1#64 <<< (v).toNat)) M4 C C C om oo am) ?_
   rintro _ _ ⟨rfl,rfl⟩
   refine Ci kr ?_
   refine Ak<|A0 (S8 9 2 10 12 3 4 5 6)<|Ax<|Al<|Gm C<|Gm C<|Gr (A1 (α:=(BitVec 64)) (xs:=ek nd es) Cq M4 C C A5 om oo)<|Gr (Cc (α:=(BitVec 64)) (xs:=ek nd es) (u:=U64 ((e_ (ek nd es) v))) M4 C A5 om oo C)<|Gm C<|Gr (Eh (a:=(e_ (ek nd es) v)) (b:=left &&& ~~~(1#64 <<< (v).toNat)) C C)<|Gc2 (Ab c_ C C<|ac1 ((e_ (ek nd es) v) &&& (left &&& ~~~(1#64 <<< (v).toNat)))<|Ba hT Ah) λar au=>?_
   refine Gr (Bn Ac C)<|Gm C<|Ar<|A0 (S10 92 91 90 9 2 10 3 4 5 6)<|A7<|B9 (σ:=Nat×(List Int)×(List<|BitVec 64)) (λs=>([(2,.slice ap ((am5 done)++([v]:List Int)).length an),(3,.slice ak (replicate ((ek nd es).length) (default:Int)).length aj),(4,.slice ad (ek nd es).length ae),(5,pt b4),(6,.slice ai (replicate ((ek nd es).length) (default:Int)).length ah),(9,U64<|left &&& ~~~(1#64 <<< (v).toNat)),(10,e7<|(((max kk dd):Nat):Int)),(90,.slice ar (eo<|(e_ (ek nd es) v) &&& (left &&& ~~~(1#64 <<< (v).toNat))).length au),(91,e7<|(((eo<|(e_ (ek nd es) v) &&& (left &&& ~~~(1#64 <<< (v).toNat))).length:Nat):Int)),(92,e7 ((s.1:Nat):Int))]:Env)) (λs=>vk 3 ar au (eo<|(e_ (ek nd es) v) &&& (left &&& ~~~(1#64 <<< (v).toNat)))::vc 3 (.slice a0 1 1) (([v]:List Int))::vk 3 ap an ((am5 done)++([v]:List Int))::vc 3 (.slice ak (replicate ((ek nd es).length) (default:Int)).length aj) (List.set (bq8 (ek nd es).length done) (v).toNat ((((max kk dd):Nat):Int)))::vc 3 (.slice ai (replicate ((ek nd es).length) (default:Int)).length ah) (s.2.1)::e8 b4 (cells (s.2.2:List (BitVec 64))) 208::vk 207 ad ae (ek nd es)::e8 b1 [e7 nd,va] 38::I) (λs=>(s.1<=(eo<|e_ (ek nd es) v &&& (left &&& ~~~(1#64 <<< (v).toNat))).length)/\(au3 (ek nd es).length (λu=>u∈eo (left &&& ~~~(1#64 <<< (v).toNat))) (cu2 (ek nd es) left (eo<|e_ (ek nd es) v &&& (left &&& ~~~(1#64 <<< (v).toNat))) s.1) s.2.1 s.2.2)) (λs=>(eo<|e_ (ek nd es) v &&& (left &&& ~~~(1#64 <<< (v).toNat))).length - s.1) (0,aq,List.set aa ((dd:Int)).toNat ((e_ aa dd) &&& ~~~(1#64 <<< (v).toNat))) (show ((0:Nat)<=(eo<|e_ (ek nd es) v &&& (left &&& ~~~(1#64 <<< (v).toNat))).length)/\(au3 (ek nd es).length (λu=>u∈eo (left &&& ~~~(1#64 <<< (v).toNat))) (cu2 (ek nd es) left (eo<|e_ (ek nd es) v &&& (left &&& ~~~(1#64 <<< (v).toNat))) (0:Nat)) (aq:List Int) (List.set aa ((dd:Int)).toNat ((e_ aa dd) &&& ~~~(1#64 <<< (v).toNat)):List (BitVec 64))) from ⟨om,((ax.drop ay bk om<|λu=>M6 om).congr (λu=>Iff.rfl) (λu _=>dk1 _ _ _ u))⟩) (cx4<|cx4<|Aa C<|Aa Cl Bb) (show Fit κ _ (vk 3 ar au (eo<|(e_ (ek nd es) v) &&& (left &&& ~~~(1#64 <<< (v).toNat)))::vc 3 (.slice a0 1 1) (([v]:List Int))::vk 3 ap an ((am5 done)++([v]:List Int))::vc 3 (.slice ak (replicate ((ek nd es).length) (default:Int)).length aj) (List.set (bq8 (ek nd es).length done) (v).toNat ((((max kk dd):Nat):Int)))::vc 3 (.slice ai (replicate ((ek nd es).length) (default:Int)).length ah) ((aq))::e8 b4 (cells ((List.set aa ((dd:Int)).toNat ((e_ aa dd) &&& ~~~(1#64 <<< (v).toNat))):List (BitVec 64))) 208::vk 207 ad ae (ek nd es)::e8 b1 [e7 nd,va] 38::I) from Ai) ?_
   rintro ⟨j,M,ab⟩ hp
   dsimp only at hp ⊢
   obtain ⟨hj,av⟩:=hp
   have b3:=av.fs8
   have bt:=av.ft0
   have b5:(eo<|e_ (ek nd es) v &&& (left &&& ~~~(1#64 <<< (v).toNat))).length<=64:=Er _
   have bm:j<(eo<|e_ (ek nd es) v &&& (left &&& ~~~(1#64 <<< (v).toNat))).length->(e_ (eo<|e_ (ek nd es) v &&& (left &&& ~~~(1#64 <<< (v).toNat))) (j:Int))∈eo (left &&& ~~~(1#64 <<< (v).toNat))/\(e_ (eo<|e_ (ek nd es) v &&& (left &&& ~~~(1#64 <<< (v).toNat))) (j:Int))∈eo (e_ (ek nd es) v):=λh=>by have h1:=Bo (xs:=(eo<|e_ (ek nd es) v &&& (left &&& ~~~(1#64 <<< (v).toNat)))) (i:=(j:Int)) om om;exact ⟨(K3.1 h1).2,(K3.1 h1).1⟩
   refine Al<|Gr (Bm C C)<|Ar<|Ax<|Ao C (λbq=>?_)<|λbq=>?_
   ·refine Bc (Ak<|Ax<|A7<|Al<|Gr (A1 (α:=Int) (xs:=eo ((e_ (ek nd es) v) &&& (left &&& ~~~(1#64 <<< (v).toNat)))) Ac ef C C A5 om oo)<|Gr (B8 (xs:=eo ((e_ (ek nd es) v) &&& (left &&& ~~~(1#64 <<< (v).toNat)))) ef C A5 om oo)<|Ga C ?_)
    have az:=bm om
    have b9:=av.rng (e_ (eo<|e_ (ek nd es) v &&& (left &&& ~~~(1#64 <<< (v).toNat))) (j:Int)) az.1
    have a1:=av.deg (e_ (eo<|e_ (ek nd es) v &&& (left &&& ~~~(1#64 <<< (v).toNat))) (j:Int)) az.1
    have a6:=a1
    have bf:=dz3 (rows:=ek nd es) (left:=left) (ws:=(eo<|e_ (ek nd es) v &&& (left &&& ~~~(1#64 <<< (v).toNat)))) (j:=j) om (Dh _)
    have bi:(e_ (eo<|e_ (ek nd es) v &&& (left &&& ~~~(1#64 <<< (v).toNat))) (j:Int))∈eo left:=((M6 om).1 az.1).1
    have b2:=aw (e_ (eo<|e_ (ek nd es) v &&& (left &&& ~~~(1#64 <<< (v).toNat))) (j:Int)) bi
    have ca:1<=Q4 (ek nd es) left (e_ (eo<|e_ (ek nd es) v &&& (left &&& ~~~(1#64 <<< (v).toNat))) (j:Int)):=Kn (K3.2 ⟨hS.sym v (e_ (eo<|e_ (ek nd es) v &&& (left &&& ~~~(1#64 <<< (v).toNat))) (j:Int)) om om az.2,ay⟩)
    rw [bf] at a6
    refine Ar<|A0 (S11 14 2 3 4 5 6 9 10 90 91 92)<|Ax<|A8 mixed<|Bv (vk 3 ar au (eo<|(e_ (ek nd es) v) &&& (left &&& ~~~(1#64 <<< (v).toNat)))::vc 3 (.slice a0 1 1) (([v]:List Int))::vk 3 ap an ((am5 done)++([v]:List Int))::vc 3 (.slice ak (replicate ((ek nd es).length) (default:Int)).length aj) (List.set (bq8 (ek nd es).length done) (v).toNat ((((max kk dd):Nat):Int)))::vc 3 (.slice ai (replicate ((ek nd es).length) (default:Int)).length ah) (M)::e8 b4 (cells (ab:List (BitVec 64))) 208::vk 207 ad ae (ek nd es)::e8 b1 [e7 nd,va] 38::I) 10<|Dr 0 C (Ap C)<|Dr 1 C (Ap C)<|Dr 2 C (A1 (α:=Int) (xs:=M) Ac ef C C A5 om oo)<|Dr 3 C (B8 (xs:=M) ef C A5 om oo)<|Dr 4 C (B5 C8 M4 C C om oo)<|Dr 5 C (Fr (xs:=ab) M4 C (Dn mm) om oo)<|Dr 6 C (Ap C)<|Ds1 7<|Se C (Ab c_ C C<|ac3<|e_ (eo<|(e_ (ek nd es) v) &&& (left &&& ~~~(1#64 <<< (v).toNat))) (j:Int)) ?_
    rintro _ _ ⟨_,_,⟨rfl,rfl⟩,rfl,rfl⟩
    refine ⟨Ah,?_⟩
    refine Dr 8 C (Ez (a:=e_ ab (e_ M<|e_ (eo<|(e_ (ek nd es) v) &&& (left &&& ~~~(1#64 <<< (v).toNat))) (j:Int))) (b:=J1 (e_ (eo<|(e_ (ek nd es) v) &&& (left &&& ~~~(1#64 <<< (v).toNat))) (j:Int))) C C)<|Dr 9 C (B5 C8 M4 C C om oo)<|Ch kr ?_
    refine Ae 10 C (Eff.dt6 (xs:=ab) (i:=e_ M (e_ (eo<|(e_ (ek nd es) v) &&& (left &&& ~~~(1#64 <<< (v).toNat))) (j:Int))) (n:=(e_ ab<|e_ M<|e_ (eo<|(e_ (ek nd es) v) &&& (left &&& ~~~(1#64 <<< (v).toNat))) (j:Int)) &&& ~~~(J1<|e_ (eo<|(e_ (ek nd es) v) &&& (left &&& ~~~(1#64 <<< (v).toNat))) (j:Int))) M4 C C C om oo am) ?_
    rintro _ _ ⟨rfl,rfl⟩
    refine Ci kr ?_
    refine Ak<|A0 (S11 14 2 3 4 5 6 9 10 90 91 92)<|Al<|Gm C<|Gm C<|Gr (A1 (α:=Int) (xs:=M) Ac ef C C A5 om oo)<|Gr (B8 (xs:=M) ef C A5 om oo)<|Gr (Rsu C C)<|Gr (A1 (α:=Int) (xs:=M) Ac ef C C A5 om oo)<|Ge0 (Cw (α:=Int) (xs:=M) (e:=3) (new:=(e_ M<|e_ (eo<|(e_ (ek nd es) v) &&& (left &&& ~~~(1#64 <<< (v).toNat))) (j:Int)) - 1) ef C C C om oo am) ?_
    have a4:e_ (List.set M (e_ (eo<|(e_ (ek nd es) v) &&& (left &&& ~~~(1#64 <<< (v).toNat))) (j:Int)).toNat ((e_ M<|e_ (eo<|(e_ (ek nd es) v) &&& (left &&& ~~~(1#64 <<< (v).toNat))) (j:Int)) - 1)) (e_ (eo<|e_ (ek nd es) v &&& (left &&& ~~~(1#64 <<< (v).toNat))) (j:Int))=e_ M (e_ (eo<|e_ (ek nd es) v &&& (left &&& ~~~(1#64 <<< (v).toNat))) (j:Int)) - 1:=by rw [Ei _ _ _ _ om om om,B_ rfl]
    refine Ar<|A0 (S11 14 2 3 4 5 6 9 10 90 91 92)<|A8 mixed<|Bv (vk 3 ar au (eo<|(e_ (ek nd es) v) &&& (left &&& ~~~(1#64 <<< (v).toNat)))::vc 3 (.slice a0 1 1) (([v]:List Int))::vk 3 ap an ((am5 done)++([v]:List Int))::vc 3 (.slice ak (replicate ((ek nd es).length) (default:Int)).length aj) (List.set (bq8 (ek nd es).length done) (v).toNat ((((max kk dd):Nat):Int)))::vc 3 (.slice ai (replicate ((ek nd es).length) (default:Int)).length ah) (List.set M (e_ (eo<|(e_ (ek nd es) v) &&& (left &&& ~~~(1#64 <<< (v).toNat))) (j:Int)).toNat ((e_ M<|e_ (eo<|(e_ (ek nd es) v) &&& (left &&& ~~~(1#64 <<< (v).toNat))) (j:Int)) - 1))::e8 b4 (cells (List.set ab (e_ M<|e_ (eo<|(e_ (ek nd es) v) &&& (left &&& ~~~(1#64 <<< (v).toNat))) (j:Int)).toNat ((e_ ab<|e_ M<|e_ (eo<|(e_ (ek nd es) v) &&& (left &&& ~~~(1#64 <<< (v).toNat))) (j:Int)) &&& ~~~(J1<|e_ (eo<|(e_ (ek nd es) v) &&& (left &&& ~~~(1#64 <<< (v).toNat))) (j:Int))):List (BitVec 64))) 208::vk 207 ad ae (ek nd es)::e8 b1 [e7 nd,va] 38::I) 10<|Dr 0 C (Ap C)<|Dr 1 C (Ap C)<|Dr 2 C (A1 (α:=Int) (xs:=List.set M (e_ (eo<|(e_ (ek nd es) v) &&& (left &&& ~~~(1#64 <<< (v).toNat))) (j:Int)).toNat ((e_ M<|e_ (eo<|(e_ (ek nd es) v) &&& (left &&& ~~~(1#64 <<< (v).toNat))) (j:Int)) - 1)) Ac ef C C A5 om oo)<|Dr 3 C (B8 (xs:=List.set M (e_ (eo<|(e_ (ek nd es) v) &&& (left &&& ~~~(1#64 <<< (v).toNat))) (j:Int)).toNat ((e_ M<|e_ (eo<|(e_ (ek nd es) v) &&& (left &&& ~~~(1#64 <<< (v).toNat))) (j:Int)) - 1)) ef C A5 om oo)<|Dr 4 C (B5 C8 M4 C C om oo)<|Dr 5 C (Fr (xs:=List.set ab (e_ M<|e_ (eo<|(e_ (ek nd es) v) &&& (left &&& ~~~(1#64 <<< (v).toNat))) (j:Int)).toNat ((e_ ab<|e_ M<|e_ (eo<|(e_ (ek nd es) v) &&& (left &&& ~~~(1#64 <<< (v).toNat))) (j:Int)) &&& ~~~(J1<|e_ (eo<|(e_ (ek nd es) v) &&& (left &&& ~~~(1#64 <<< (v).toNat))) (j:Int)))) M4 C (Dn mm) om oo)<|Dr 6 C (Ap C)<|Ds1 7<|Se C (Ab c_ C C<|ac3<|e_ (eo<|(e_ (ek nd es) v) &&& (left &&& ~~~(1#64 <<< (v).toNat))) (j:Int)) ?_
    rintro _ _ ⟨_,_,⟨rfl,rfl⟩,rfl,rfl⟩
    refine ⟨Ah,?_⟩
    refine Dr 8 C (Ed (a:=e_ (List.set ab (e_ M<|e_ (eo<|(e_ (ek nd es) v) &&& (left &&& ~~~(1#64 <<< (v).toNat))) (j:Int)).toNat ((e_ ab<|e_ M<|e_ (eo<|(e_ (ek nd es) v) &&& (left &&& ~~~(1#64 <<< (v).toNat))) (j:Int)) &&& ~~~(J1<|e_ (eo<|(e_ (ek nd es) v) &&& (left &&& ~~~(1#64 <<< (v).toNat))) (j:Int)))) (e_ (List.set M (e_ (eo<|(e_ (ek nd es) v) &&& (left &&& ~~~(1#64 <<< (v).toNat))) (j:Int)).toNat ((e_ M<|e_ (eo<|(e_ (ek nd es) v) &&& (left &&& ~~~(1#64 <<< (v).toNat))) (j:Int)) - 1))<|e_ (eo<|(e_ (ek nd es) v) &&& (left &&& ~~~(1#64 <<< (v).toNat))) (j:Int))) (b:=J1 (e_ (eo<|(e_ (ek nd es) v) &&& (left &&& ~~~(1#64 <<< (v).toNat))) (j:Int))) C C)<|Dr 9 C (B5 C8 M4 C C om oo)<|Ch kr ?_
    refine Ae 10 C (Eff.dt6 (xs:=List.set ab (e_ M<|e_ (eo<|(e_ (ek nd es) v) &&& (left &&& ~~~(1#64 <<< (v).toNat))) (j:Int)).toNat ((e_ ab<|e_ M<|e_ (eo<|(e_ (ek nd es) v) &&& (left &&& ~~~(1#64 <<< (v).toNat))) (j:Int)) &&& ~~~(J1<|e_ (eo<|(e_ (ek nd es) v) &&& (left &&& ~~~(1#64 <<< (v).toNat))) (j:Int)))) (i:=e_ (List.set M (e_ (eo<|(e_ (ek nd es) v) &&& (left &&& ~~~(1#64 <<< (v).toNat))) (j:Int)).toNat ((e_ M<|e_ (eo<|(e_ (ek nd es) v) &&& (left &&& ~~~(1#64 <<< (v).toNat))) (j:Int)) - 1)) (e_ (eo<|(e_ (ek nd es) v) &&& (left &&& ~~~(1#64 <<< (v).toNat))) (j:Int))) (n:=(e_ (List.set ab (e_ M<|e_ (eo<|(e_ (ek nd es) v) &&& (left &&& ~~~(1#64 <<< (v).toNat))) (j:Int)).toNat ((e_ ab<|e_ M<|e_ (eo<|(e_ (ek nd es) v) &&& (left &&& ~~~(1#64 <<< (v).toNat))) (j:Int)) &&& ~~~(J1<|e_ (eo<|(e_ (ek nd es) v) &&& (left &&& ~~~(1#64 <<< (v).toNat))) (j:Int))))<|e_ (List.set M (e_ (eo<|(e_ (ek nd es) v) &&& (left &&& ~~~(1#64 <<< (v).toNat))) (j:Int)).toNat ((e_ M<|e_ (eo<|(e_ (ek nd es) v) &&& (left &&& ~~~(1#64 <<< (v).toNat))) (j:Int)) - 1))<|e_ (eo<|(e_ (ek nd es) v) &&& (left &&& ~~~(1#64 <<< (v).toNat))) (j:Int)) ||| (J1<|e_ (eo<|(e_ (ek nd es) v) &&& (left &&& ~~~(1#64 <<< (v).toNat))) (j:Int))) M4 C C C om oo am) ?_
    rintro _ _ ⟨rfl,rfl⟩
    refine Ci kr ?_
    exact Au<|Ak<|A0 (S10 2 3 4 5 6 9 10 90 91 92)<|A6<|Gr (Rad C C)<|Gm C<|Bq<|Bu ((j+1),(List.set M (e_ (eo<|(e_ (ek nd es) v) &&& (left &&& ~~~(1#64 <<< (v).toNat))) (j:Int)).toNat ((e_ M<|e_ (eo<|(e_ (ek nd es) v) &&& (left &&& ~~~(1#64 <<< (v).toNat))) (j:Int)) - 1)),(List.set (List.set ab (e_ M<|e_ (eo<|(e_ (ek nd es) v) &&& (left &&& ~~~(1#64 <<< (v).toNat))) (j:Int)).toNat ((e_ ab<|e_ M<|e_ (eo<|(e_ (ek nd es) v) &&& (left &&& ~~~(1#64 <<< (v).toNat))) (j:Int)) &&& ~~~(J1<|e_ (eo<|(e_ (ek nd es) v) &&& (left &&& ~~~(1#64 <<< (v).toNat))) (j:Int)))) (e_ (List.set M (e_ (eo<|(e_ (ek nd es) v) &&& (left &&& ~~~(1#64 <<< (v).toNat))) (j:Int)).toNat ((e_ M<|e_ (eo<|(e_ (ek nd es) v) &&& (left &&& ~~~(1#64 <<< (v).toNat))) (j:Int)) - 1))<|e_ (eo<|(e_ (ek nd es) v) &&& (left &&& ~~~(1#64 <<< (v).toNat))) (j:Int)).toNat ((e_ (List.set ab (e_ M<|e_ (eo<|(e_ (ek nd es) v) &&& (left &&& ~~~(1#64 <<< (v).toNat))) (j:Int)).toNat ((e_ ab<|e_ M<|e_ (eo<|(e_ (ek nd es) v) &&& (left &&& ~~~(1#64 <<< (v).toNat))) (j:Int)) &&& ~~~(J1<|e_ (eo<|(e_ (ek nd es) v) &&& (left &&& ~~~(1#64 <<< (v).toNat))) (j:Int))))<|e_ (List.set M (e_ (eo<|(e_ (ek nd es) v) &&& (left &&& ~~~(1#64 <<< (v).toNat))) (j:Int)).toNat ((e_ M<|e_ (eo<|(e_ (ek nd es) v) &&& (left &&& ~~~(1#64 <<< (v).toNat))) (j:Int)) - 1))<|e_ (eo<|(e_ (ek nd es) v) &&& (left &&& ~~~(1#64 <<< (v).toNat))) (j:Int)) ||| (J1<|e_ (eo<|(e_ (ek nd es) v) &&& (left &&& ~~~(1#64 <<< (v).toNat))) (j:Int)))))<|by dsimp only;exact ⟨om,(by have hN:=av.lower om (w:=(e_ (eo<|e_ (ek nd es) v &&& (left &&& ~~~(1#64 <<< (v).toNat))) (j:Int))) (e:=e_ M (e_ (eo<|e_ (ek nd es) v &&& (left &&& ~~~(1#64 <<< (v).toNat))) (j:Int))) az.1 a1.symm om om (dg':=cu2 (ek nd es) left (eo<|e_ (ek nd es) v &&& (left &&& ~~~(1#64 <<< (v).toNat))) (j+1)) (λu _=>by6 om (Dh _) u);rw [a4,bz8 om om];exact hN)⟩
   exact Cg<|Aw<|Aw<|Bi<|Ak<|Cg<|V.aw9 C<|Aw<|Aw<|V.aw9 C<|Bi<|Bu ((done++[(v,max kk dd)]),((left &&& ~~~(1#64 <<< (v).toNat))),(max kk dd),(M),(ab),(ap),(an)) (by dsimp only;exact ⟨(dk3 hc ba om),(av.congr (λu=>Iff.rfl) (λu hu=>by have hr:=av.rng u hu;exact (dz4 hS om om ay hr.1 hr.2 hu om).symm)),(by have:=aa7 ay;simp only [By,E_,Fy];omega),om⟩) (hlt:=by (try dsimp only);exact (by have:=aa7 ay;omega)) (hL:=(Aa (Da C<|by first|rfl|(rw [ai2])|simp)<|cx4<|Aa (Da C<|by first|rfl|(rw [ai2])|simp)<|Aa C Bb)) (hI:=by (try dsimp only);exact (by rw [ai2,df2];exact Az))
  exact (ax.some (Fx.1<|λh=>h asm) aw<|λc h1 h2=>hz c h1 om).elim
 refine Cg<|Aw<|Aw<|Bi<|Ak<|Al<|Gm C<|Gm C<|Ga C<|Ga C<|Ar<|B3<|V.dx1 ?_
 have bh:left=0#64:=Fx.1 a5
 have bo:done=bf9 nd es:=by rw [←hc,bh,bm6,Gv]
 subst bo
 have a7:=as5 nd es
 exact C2 C C C (vk 3 ao co (fo0 nd es)::vk 3 ak aj (dk7 nd es)::I) (by unfold vk;rw [a7];simp only [Gc];exact Az) ⟨ao,co,ak,aj,by rw [a7];simp only [Gc];rfl,rfl⟩
end Go.Sl
namespace Go.Sl
open Go.Proofs
set_option maxRecDepth 4000
attribute [local irreducible] W G V D A j8 Eff
theorem bi0{κ:Ctx}{I:List Item}{nd:Int}{va:Value}{es:List Pt}(hl:Sl κ I va es)(hT:F4 κ I 0 p5):eu prog κ 83 [.agg #[e7 nd,va]] I (λr J=>∃a c,r = .tuple #[.slice a (j9 nd es).length c,e7 (F7 nd es)]/\J=vk 3 a c (j9 nd es)::I):=by
 refine Ce1 Tryz.func83 C C ?_
 refine Al<|Ge1 (Av (cs:=[_,_]) C C C) λb1=>Z ?_
 refine Gc0 (Ab c_ C C<|V1<|A3 hl)<|Z ?_
 refine Ao C (λc10=>Z ?_)<|λc10=>Z ?_
 ·have M:(j9 nd es)=[]:=B_ c10
  exact C2 C C C (vk 3 none 0 (j9 nd es)::I) (by unfold vk;rw [M];exact A9 (show Fit κ _ I from Ah)<|B6 (α:=Int) _ _) ⟨none,0,by rw [M];rfl,rfl⟩
 refine G.e (Ab c_ C C<|fg6 (nd:=nd) (A3 hl) (s4.1<|Fx.1 c10)<|Ba hT Ah) ?_
 rintro _ _ ⟨_,_,⟨ad,ae,ab,aa,rfl,rfl⟩,rfl,rfl⟩
 refine Z ?_
 have M:(j9 nd es)=_:=An c10
 have hz:F7 nd es=0:=Fx.1 c10
 exact C2 C C C (vk 3 ab aa (j9 nd es)::I) (by unfold vk;rw [M];exact Ai) ⟨ab,aa,by rw [M,hz]<;>rfl,rfl⟩
theorem bz0(nd:Int)(es:List Pt):(j9 nd es).length<=64:=by
 unfold j9
 split
 ·simp
 rw [as5,ad6];omega
end Go.Sl
namespace Go.Sl
open Go.Proofs
set_option maxRecDepth 4000
end Go.Sl
