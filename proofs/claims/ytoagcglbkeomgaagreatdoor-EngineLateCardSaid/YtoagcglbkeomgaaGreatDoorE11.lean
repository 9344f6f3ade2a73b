/- A part of the proofs of statements of this seat: contracts of functions, and the plain laws that they lean on. No conditions. -/
import Derived.Test.YtoagcglbkeomgaaGreatDoorE10
set_option linter.unusedVariables false
set_option linter.unusedSimpArgs false
set_option linter.unusedSectionVars false
open Go.Proofs.Tryz (prog)
open List (replicate)
namespace Go.Sl
variable{M a b c d0 d2 m1 m2 m3 n n4 n5 n6 u:Nat}
def W3:List Nat->Nat
 |[]=>0
 |b::bs=>2 ^ 8*W3 bs+b
theorem bg3{d:Nat}(hb:b<2 ^ 8)(M:d<2 ^ 8):(2 ^ 8*a+b) &&& (2 ^ 8*c+d)=2 ^ 8*(a &&& c)+(b &&& d):=by
 refine Nat.eq_of_testBit_eq λj=>?_
 rw [Nat.testBit_and,Jz _ hb,Jz _ M,Jz _<|Nat.and_lt_two_pow _ M]
 by_cases h:j<8
 ·rw [B_ h,B_ h,B_ h,Nat.testBit_and]
 rw [An h,An h,An h,Nat.testBit_and]
def cd6(c:Nat)(k:Nat):Nat:=W3 (replicate k c)
theorem aq5(c k:Nat):cd6 c (k+1)=2 ^ 8*cd6 c k+c:=rfl
def p1(b:Nat):Nat:=((b / 2) &&& 85)+(b &&& 85)
def p2(b:Nat):Nat:=((b / 4) &&& 51)+(b &&& 51)
def p3(b:Nat):Nat:=(b / 16+b) % 16
theorem c1:∀t:Fin 2,∀x:Fin 128,(128*t.val+x.val) &&& 85=x.val &&& 85:=by decide+kernel
theorem c2:∀t:Fin 4,∀x:Fin 64,(64*t.val+x.val) &&& 51=x.val &&& 51:=by decide+kernel
theorem b1:∀b:Fin 256,p1 b.val<256/\p2 (p1 b.val) % 16<=4/\p2 (p1 b.val) / 16<=4/\p3 (p2 (p1 b.val))<=8/\p3 (p2 (p1 b.val))=((List.range 8).filter λj=>b.val.testBit j).length:=by decide+kernel
theorem fv6:∀bs:List Nat,(∀b∈bs,b<256)->((W3 bs / 2) &&& cd6 85 bs.length)+(W3 bs &&& cd6 85 bs.length)=W3 (bs.map p1)
 |[],_=>rfl
 |b::bs,h=>by
  have hb:=h b A_
  have ih:=fv6 bs λx hx=>h x (C_ _ hx)
  rw [E_,aq5,Hi]
  simp only [W3]
  have e:(2 ^ 8*W3 bs+b) / 2=2 ^ 8*(W3 bs / 2)+(128*(W3 bs % 2)+b / 2):=by omega
  have M:=c1 ⟨W3 bs % 2,by omega⟩ ⟨b / 2,by omega⟩
  simp only at M
  rw [e,bg3 (by omega)<|by decide,bg3 (by omega)<|by decide,M]
  rw [show p1 b=(b / 2 &&& 85)+(b &&& 85) from rfl]
  omega
theorem fv5:∀bs:List Nat,(∀b∈bs,b<256)->((W3 bs / 4) &&& cd6 51 bs.length)+(W3 bs &&& cd6 51 bs.length)=W3 (bs.map p2)
 |[],_=>rfl
 |b::bs,h=>by
  have hb:=h b A_
  have ih:=fv5 bs λx hx=>h x (C_ _ hx)
  rw [E_,aq5,Hi]
  simp only [W3]
  have e:(2 ^ 8*W3 bs+b) / 4=2 ^ 8*(W3 bs / 4)+(64*(W3 bs % 4)+b / 4):=by omega
  have M:=c2 ⟨W3 bs % 4,by omega⟩ ⟨b / 4,by omega⟩
  simp only at M
  rw [e,bg3 (by omega)<|by decide,bg3 (by omega)<|by decide,M]
  rw [show p2 b=(b / 4 &&& 51)+(b &&& 51) from rfl]
  omega
theorem fv4:∀bs:List Nat,(∀b∈bs,b % 16<=4/\b / 16<=4)->(W3 bs / 16+W3 bs) &&& cd6 15 bs.length=W3 (bs.map p3)
 |[],_=>rfl
 |b::bs,h=>by
  have hb:=h b A_
  have M:=fv4 bs λx hx=>h x (C_ _ hx)
  have hn:W3 bs % 16<=4:=by
   cases bs with
   |nil=>simp [W3]
   |cons c cs=>
    have:=(h c<|C_ _ A_).1
    simp only [W3];omega
  rw [E_,aq5,Hi]
  simp only [W3]
  have e:(2 ^ 8*W3 bs+b) / 16+(2 ^ 8*W3 bs+b)=2 ^ 8*(W3 bs / 16+W3 bs)+(16*(W3 bs % 16)+b / 16+b):=by omega
  rw [e,bg3 (by omega)<|by decide,M,show (15:Nat)=2 ^ 4 - 1 by decide,Nat.and_two_pow_sub_one_eq_mod]
  rw [show p3 b=(b / 16+b) % 16 from rfl]
  omega
def bg0(n:Nat):Nat->List Nat
 |0=>[]
 |k+1=>n % 256::bg0 (n / 256) k
theorem cv7(n k:Nat):(bg0 n k).length=k:=by
 induction k generalizing n with
 |zero=>rfl
 |succ k ih=>simp [bg0,ih]
theorem dn0(n k:Nat):∀b∈bg0 n k,b<256:=by
 induction k generalizing n with
 |zero=>intro b hb;cases hb
 |succ k ih=>
  intro b hb
  rcases Fy.1 hb with rfl|hb
  ·omega
  exact ih _ b hb
theorem bn0:∀(k n:Nat),n<256 ^ k->W3 (bg0 n k)=n
 |0,n,h=>by simp at h;subst h;rfl
 |k+1,n,h=>by
  rw [Nat.pow_succ] at h
  simp only [bg0,W3]
  rw [bn0 k (n / 256) (by omega)]
  omega
def cr9:List Nat->Nat
 |[]=>0
 |b::bs=>b+cr9 bs
theorem dm2:∀bs:List Nat,(∀b∈bs,b<256)->((List.range (8*bs.length)).filter λj=>(W3 bs).testBit j).length=cr9 (bs.map λb=>p3 (p2 (p1 b)))
 |[],_=>rfl
 |b::bs,h=>by
  have M:=h b A_
  have ih:=dm2 bs λx hx=>h x (C_ _ hx)
  rw [E_,show 8*(bs.length+1)=8+8*bs.length by omega,List.range_add,Gs,By,Hi]
  simp only [cr9,W3]
  rw [←ih,(b1 ⟨b,M⟩).2.2.2.2,Lc,Gc]
  congr 2
  ·refine Hy λj hj=>?_
   rw [Jz _ M,B_<|Ja.1 hj]
  refine Hy λj hj=>?_
  show (2 ^ 8*W3 bs+b).testBit (8+j)=_
  rw [Jz _ M,An<|by omega,Kh]
theorem gg1(h0:d0<=8)(h1:M<=8)(h2:d2<=8)(en:n=d0+256*M+65536*m2)(e1:m1=M+256*d2+65536*m3)(h4:n4=n+m1) :
  n4=(d0+M)+256*(M+d2)+65536*(m2+m3)/\n4 / 65536=m2+m3:=by omega
theorem gg0(ha:a<=16)(M:b<=16)(hc:c<65536)(h4:n4=a+256*b+65536*(c+65536*u))(h5:n5=n4+(c+65536*u)):n5=a+256*b+c+65536*(c+u)+4294967296*u:=by omega
theorem gf9{x s t:Nat}(M:x<65536)(hc:c<=5000)(hs:s<=5000)(hu:u=s+65536*t)(h5:n5=x+65536*(c+u)+4294967296*u):n5 / 4294967296=u+t:=by omega
theorem dy0{d1 d4 d5 d6 d7 m4 m5 m6:Nat}(h0:d0<=8)(h1:d1<=8)(h2:d2<=8)(h3:M<=8)(h4:d4<=8)(h5:d5<=8)(h6:d6<=8)(h7:d7<=8)
  (e6:m6=d6+256*d7) (e5:m5=d5+256*d6+65536*d7) (e4:m4=d4+256*d5+65536*m6) (e3:m3=M+256*d4+65536*m5) (e2:m2=d2+256*M+65536*m4) (e1:m1=d1+256*d2+65536*m3) (e0:n=d0+256*d1+65536*m2)
  (g4:n4=n+m1) (g5:n5=n4+n4 / 65536) (g6:n6=n5+n5 / 4294967296):n6 % 128=d0+d1+d2+M+d4+d5+d6+d7:=by
 obtain ⟨a1,a2⟩:=gg1 h0 h1 h2 e0 e1 g4
 have hc:m2+m3=((d2+M)+256*(M+d4))+65536*(m4+m5):=by clear e0 e1 e4 e5 e6 g4 g5 g6 a1 a2;omega
 have hu:m4+m5=((d4+d5)+256*(d5+d6))+65536*(m6+d7):=by clear e0 e1 e2 e3 e6 g4 g5 g6 a1 a2 hc;omega
 rw [a2,hc] at g5
 rw [hc] at a1
 have b1:=gg0 (by omega) (by omega) (by omega) a1 g5
 have b2:=gf9 (x:=d0+d1+256*(d1+d2)+((d2+M)+256*(M+d4))) (by omega) (by omega) (by omega) hu b1
 rw [b2] at g6
 clear b2 a2 hc e0 e1 e2 e3 e4 e5 g4 g5 a1
 omega
theorem dy1{bs:List Nat}(hl:bs.length=8)(hb:∀b∈bs,b<=8)(hn:n=W3 bs)(M:n4=n+n / 256)(g5:n5=n4+n4 / 65536)(g6:n6=n5+n5 / 4294967296):n6 % 128=cr9 bs/\n6<18446744073709551616:=by
 match bs,hl with
 |[d0,d1,d2,d3,d4,d5,d6,d7],_=>
  have k0:=hb d0 (by simp)
  have k1:=hb d1 (by simp)
  have k2:=hb d2 (by simp)
  have k3:=hb d3 (by simp)
  have k4:=hb d4 (by simp)
  have k5:=hb d5 (by simp)
  have k6:=hb d6 (by simp)
  have k7:=hb d7 (by simp)
  obtain ⟨m6,e6⟩:∃m6,m6=d6+256*d7:=⟨_,rfl⟩
  obtain ⟨m5,e5⟩:∃m5,m5=d5+256*d6+65536*d7:=⟨_,rfl⟩
  obtain ⟨m4,e4⟩:∃m4,m4=d4+256*d5+65536*m6:=⟨_,rfl⟩
  obtain ⟨m3,e3⟩:∃m3,m3=d3+256*d4+65536*m5:=⟨_,rfl⟩
  obtain ⟨m2,e2⟩:∃m2,m2=d2+256*d3+65536*m4:=⟨_,rfl⟩
  obtain ⟨m1,e1⟩:∃m1,m1=d1+256*d2+65536*m3:=⟨_,rfl⟩
  have e0:n=d0+256*d1+65536*m2:=by rw [hn];simp only [W3];omega
  have ed:n / 256=m1:=by
   have:n=d0+256*m1:=by clear M g5 g6;rw [hn];simp only [W3];omega
   clear e0 e1 e2 e3 e4 e5 e6 M g5 g6 hn
   omega
  rw [ed] at M
  refine ⟨?_,?_⟩
  ·rw [dy0 k0 k1 k2 k3 k4 k5 k6 k7 e6 e5 e4 e3 e2 e1 e0 M g5 g6];simp only [cr9];omega
  have q6:m6<=2056:=by omega
  have q5:m5<=526344:=by omega
  have q4:m4<=134744072:=by clear M g5 g6 hn e0 e1 e2 e3 ed;omega
  have q3:m3<=34494482440:=by clear M g5 g6 hn e0 e1 e2 e4 ed;omega
  have q2:m2<=8830587504648:=by clear M g5 g6 hn e0 e1 e3 e4 e5 e6 ed;omega
  have q1:m1<=2260630401189896:=by clear M g5 g6 hn e0 e2 e4 e5 e6 ed;omega
  have q0:n<=578721382704613384:=by clear M g5 g6 hn e1 e3 e4 e5 e6 ed;omega
  clear e0 e1 e2 e3 e4 e5 e6 hn ed
  omega
theorem bo3:∀bs:List Nat,(∀b∈bs,b<=c)->W3 bs<=cd6 c bs.length
 |[],_=>Gg _
 |b::bs,h=>by
  have ih:=bo3 bs λx M=>h x (C_ _ M)
  have hb:=h b A_
  rw [E_,aq5]
  simp only [W3]
  omega
end Go.Sl
namespace Go.Sl
open Go.Proofs
set_option maxRecDepth 4000
variable{m:BitVec 64}{bs:List Nat}{xs ys:List Int}{x:Int}
variable {κ:Ctx}{I:List Item}
attribute [local irreducible] W G V D A j7 Eff
theorem ds8(m:BitVec 64):0<=ay8.getD (da9 m) 0/\ay8.getD (da9 m) 0<=64:=by
 have h:∀k:Fin 64,0<=ay8.getD k.val 0/\ay8.getD k.val 0<=64:=by decide+kernel
 exact h ⟨da9 m,cd2 m⟩
theorem ga5(m:BitVec 64)(hT:F4 κ I 0 p5):eu prog κ 177 [U64 m] I (λr J=>r=e7 (tzB m)/\I=J):=by
 refine Ce1 Tryz.func177 C C ?_
 refine Am<|Ga C<|Ar<|Ay<|Am<|Gm C<|Gr (j7.eqB (a:=m) (b:=0#64) C C)<|Ar<|Al C (λM=>?_)<|λM=>?_
 ·exact Am<|Ga C<|Ar<|B2<|Cw<|Ak C C I Ah ⟨by unfold tzB;rw [B_ M],rfl⟩
 exact Bc<|Ao<|Am<|Gm C<|Gm C<|Gr (j7.negB (a:=m) C)<|Gr (Eg (a:=m) (b:= -m) C C)<|Gr (j7.mulB (a:=m &&& (-m)) (b:=285870213051353865#64) C C)<|Gr (Fh (a:=(m &&& (-m))*285870213051353865#64) C C om om)<|Gr (j7.fn8 (i:=da9 m) Tryz.underlying241 ty5 C C<|cd2 m)<|Gr (j7.fm9 ty5 C (A6 hT Ah)<|cr6 m)<|Gr (j7.dm1 Ek Cb C<|by unfold InR;have:=ds8 m;omega)<|Ga C<|Ar<|A0 (S1 2)<|B2<|Ak C C I Ah ⟨by unfold tzB;rw [An M],rfl⟩
theorem fe9(m:BitVec 64)(M:F4 κ I 0 p5):eu prog κ 158 [U64 m] I (λr J=>r=e7 (tzB m)/\I=J):=by
 refine Ce1 Tryz.func158 C C<|Z ?_
 refine G.e (Ac c_ C C<|ga5 m<|A6 M Ah) ?_
 rintro _ _ ⟨_,_,⟨rfl,rfl⟩,rfl,rfl⟩
 exact Ga C<|Ar<|B2<|Ak C C I Ah ⟨rfl,rfl⟩
theorem ac1(m:BitVec 64)(hT:F4 κ I 0 p5):eu prog κ 159 [U64 m] I (λr J=>∃a c,r = .slice a (eo m).length c/\J=vk 3 a c (eo m)::I):=by
 refine Ce1 Tryz.func159 C C<|Z ?_
 refine Dh (σ:=(BitVec 64)×(Option Addr)×Nat×(List Int)) (λs=>[(0,U64<|s.1),(3,.slice s.2.1 s.2.2.2.length s.2.2.1)]) (λs=>[vk 3 s.2.1 s.2.2.1 s.2.2.2]) (λs=>(eo m=s.2.2.2++eo s.1)) (λs=>(eo s.1).length) (m,none,0,[]) (show (eo m=([]:List Int)++eo (m:BitVec 64)) from rfl) (hI:=(B6 _ _)) ?_
 rintro ⟨n,a,c,out⟩ hp
 dsimp only at hp ⊢
 have ho:=hp
 have ab:=Gb List.length ho
 rw [By] at ab
 have ai:=Et m
 refine Ay<|Am<|Gm C<|Gr (j7.neB (a:=n) (b:=0#64) C C)<|Ar<|Al C (λM=>Z ?_)<|λM=>Z ?_
 ·refine G.e (Ac c_ C C<|ga5 n<|A6 hT Ah) ?_
  rintro _ _ ⟨_,_,⟨rfl,rfl⟩,rfl,rfl⟩
  refine Ge1 (B0 (α:=Int) (cs:=[_]) (xs:=[tzB n]) Ab ef C C dc dc C C C C) λah=>?_
  refine Ge2 (Bp (α:=Int) (e:=3) (xs:=out) (ys:=([tzB n]:List Int)) Ab ef C C C mm A5 lcn dc C<|λ_ _=>am) λad aa=>Z ?_
  exact Gr (j7.gi6 (a:=n) (b:=1#64) C C)<|Gr (Eg (a:=n) (b:=n - (1#64)) C C)<|Ga C<|Bs<|Bt ((n &&& (n - (1#64))),(ad),(aa),(out++([tzB n]:List Int))) (by dsimp only;exact (by rw [ho,ad9 M,Fu];rfl)) (hlt:=by (try dsimp only);exact (ct7 M))
 have ae:n=0#64:=Fv.1 M
 have hE:out=eo m:=by rw [ho,ae,D3,Gt]
 subst hE
 exact Ak C C (vk 3 a c (eo m)::I) Ai ⟨a,c,rfl,rfl⟩
theorem df1(hl:bs.length=8)(hb:∀b∈bs,b<256)(hm:m.toNat=W3 bs):(dv7 m).toNat=W3 (bs.map p1):=by
 unfold dv7
 have M:W3 (bs.map p1)<=cd6 255 8:=by
  have:=bo3 (c:=255) (bs.map p1) λb h=>by obtain ⟨x,hx,rfl⟩:=Gz.1 h;have:=(b1 ⟨x,hb x hx⟩).1;simp only at this;omega
  rwa [Gc,hl] at this
 rw [Jy,Ky,Ky,Hw,Hu,show 2 ^ (1:Int).toNat=2 from rfl,hm,show (6148914691236517205#64).toNat=cd6 85 bs.length by rw [hl];decide+kernel,fv6 bs hb]
 exact Kv<|Nat.lt_of_le_of_lt M<|by decide+kernel
theorem df0(hl:bs.length=8)(hb:∀b∈bs,b<256/\p2 b<256)(hm:m.toNat=W3 bs):(dv6 m).toNat=W3 (bs.map p2):=by
 unfold dv6
 have M:W3 (bs.map p2)<=cd6 255 8:=by
  have:=bo3 (c:=255) (bs.map p2) λb h=>by obtain ⟨x,hx,rfl⟩:=Gz.1 h;have:=(hb x hx).2;omega
  rwa [Gc,hl] at this
 rw [Jy,Ky,Ky,Hw,Hu,show 2 ^ (2:Int).toNat=4 from rfl,hm,show (3689348814741910323#64).toNat=cd6 51 bs.length by rw [hl];decide+kernel,fv5 bs λb h=>(hb b h).1]
 exact Kv<|Nat.lt_of_le_of_lt M<|by decide+kernel
theorem de9(hl:bs.length=8)(M:∀b∈bs,b % 16<=4/\b / 16<=4)(hm:m.toNat=W3 bs):(bx3 m).toNat=W3 (bs.map p3):=by
 unfold bx3
 have aa:W3 bs<=cd6 68 8:=by
  have:=bo3 (c:=68) bs λb h=>by have:=M b h;omega
  rwa [hl] at this
 have hr:cd6 68 8=4919131752989213764:=by decide+kernel
 rw [Ky,Jy,Hw,Hu,show 2 ^ (4:Int).toNat=16 from rfl,hm,show (1085102592571150095#64).toNat=cd6 15 bs.length by rw [hl];decide+kernel,Kv om,fv4 bs M]
theorem bq3(m:BitVec 64):ac5 m=((eo m).length:Int):=by
 unfold ac5
 have hl:=cv7 m.toNat 8
 have hlt:=dn0 m.toNat 8
 have hv:=bn0 8 m.toNat (Nat.lt_of_lt_of_le m.isLt dc)
 generalize bg0 m.toNat 8=bs at hl hlt hv
 have hb:=λb (h:b∈bs)=>b1 ⟨b,hlt b h⟩
 have e1:=df1 hl hlt hv.symm
 have e2:=df0 (bs:=bs.map p1) (by rw [Gc,hl]) (λb h=>by obtain ⟨x,hx,rfl⟩:=Gz.1 h;have:=hb x hx;simp only at this;exact ⟨this.1,by omega⟩) e1
 have e3:=de9 (bs:=(bs.map p1).map p2) (by rw [Gc,Gc,hl]) (λb h=>by obtain ⟨y,hy,rfl⟩:=Gz.1 h;obtain ⟨x,hx,rfl⟩:=Gz.1 hy;have:=hb x hx;simp only at this;exact ⟨this.2.1,this.2.2.1⟩) e2
 generalize bx3 (dv6<|dv7 m)=a at e3
 have hc:W3 bs=m.toNat:=hv
 have M:=dm2 bs hlt
 obtain ⟨f1,f2⟩:=dy1 (n:=a.toNat) (n4:=a.toNat+a.toNat / 256) (n5:=a.toNat+a.toNat / 256+(a.toNat+a.toNat / 256) / 65536) (n6:=a.toNat+a.toNat / 256+(a.toNat+a.toNat / 256) / 65536+(a.toNat+a.toNat / 256+(a.toNat+a.toNat / 256) / 65536) / 4294967296)
  (bs:=((bs.map p1).map p2).map p3) (by rw [Gc,Gc,Gc,hl]) (λb h=>by obtain ⟨z,hz,rfl⟩:=Gz.1 h;obtain ⟨y,hy,rfl⟩:=Gz.1 hz;obtain ⟨x,hx,rfl⟩:=Gz.1 hy;have:=hb x hx;simp only at this;exact this.2.2.2.1) e3 rfl rfl rfl
 have g4:(bq4 a).toNat=a.toNat+a.toNat / 256:=by
  unfold bq4;rw [Jy,Hw,Hu,show 2 ^ (8:Int).toNat=256 from rfl];exact Kv om
 have g5:(bx2<|bq4 a).toNat=a.toNat+a.toNat / 256+(a.toNat+a.toNat / 256) / 65536:=by
  unfold bx2;rw [Jy,Hw,Hu,show 2 ^ (16:Int).toNat=65536 from rfl,g4];exact Kv om
 have g6:(ct0<|bx2<|bq4 a).toNat=a.toNat+a.toNat / 256+(a.toNat+a.toNat / 256) / 65536+(a.toNat+a.toNat / 256+(a.toNat+a.toNat / 256) / 65536) / 4294967296:=by
  unfold ct0;rw [Jy,Hw,Hu,show 2 ^ (32:Int).toNat=4294967296 from rfl,g5];exact Kv om
 have hL:(eo m).length=cr9 (((bs.map p1).map p2).map p3):=by
  unfold eo bd8
  rw [Gc,List.map_map,List.map_map,show (λi=>m.getLsbD i)=λj=>(W3 bs).testBit j from by funext j;rw [hc];rfl]
  rw [hl] at M
  exact M
 rw [g6,hL,←f1]
 omega
variable {κ:Ctx}{I:List Item}
def Z7(xs ys:List Int):List Int:=(ofL xs).filter λx=>decide (x∈ys)
theorem T2:x∈Z7 xs ys↔x∈xs/\x∈ys:=by simp [Z7,af6]
def R8(n:Int):List Int:=(List.range (min n 64).toNat).map λj:Nat=>(j:Int)
theorem bk7{n:Int}:x∈R8 n↔0<=x/\x<n/\x<64:=by
 unfold R8
 rw [Gz]
 constructor
 ·rintro ⟨j,M,rfl⟩;rw [Ja] at M;omega
 rintro ⟨h1,h2,h3⟩;exact ⟨x.toNat,by rw [Ja];omega,by omega⟩
theorem dq0{u v:Value}(hu:Sl κ I u xs)(hv:Sl κ I v ys)(hb:xs.length<17592186044415):eu prog κ 100 [u,v] I (λr J=>∃a c,r = .slice a (Z7 xs ys).length c/\J=vk 3 a c (Z7 xs ys)::I):=by
 have ah:=bd1 xs
 refine Ce2 Tryz.func100 C C<|Z ?_
 refine Gc2 (Ac c_ C C<|fr6 (A4 hu) om) λaj ak=>Z ?_
 refine Dh (σ:=Nat×(Option Addr)×Nat×(List Int)) (λs=>[(5,.slice s.2.1 s.2.2.2.length s.2.2.1),(11,e7 ((s.1:Nat):Int))]) (λs=>[vk 3 s.2.1 s.2.2.1 s.2.2.2]) (λs=>(s.1<=(ofL xs).length)/\(s.2.2.2=((ofL xs).take s.1).filter (λx=>decide<|x∈ys))) (λs=>(ofL xs).length - s.1) (0,none,0,[]) (show ((0:Nat)<=(ofL xs).length)/\(([]:List Int)=((ofL xs).take (0:Nat)).filter (λx=>decide<|x∈ys)) from ⟨om,rfl⟩) (hI:=(B6 _ _)) ?_
 rintro ⟨k,a,c,out⟩ hp
 dsimp only at hp ⊢
 obtain ⟨hk,ho⟩:=hp
 refine Z ?_
 refine Al C (λc12=>Z ?_)<|λc12=>Z ?_
 ·refine Gc0 (Ac c_ C C<|bt5 (A4 hv)<|e_ (ofL xs) k) ?_
  refine Ar<|Al C (λM=>Z ?_)<|λM=>Z ?_
  ·refine Ge1 (B0 (α:=Int) (cs:=[_]) (xs:=[e_ (ofL xs) k]) Ab ef C C dc dc C C C C) λai=>?_
   refine Ge2 (Bp (α:=Int) (e:=3) (xs:=out) (ys:=([e_ (ofL xs) k]:List Int)) Ab ef C C C mm A5 (by have:=bd1 xs;simp only [E_,Fw];rw [ho];have:=aj2 (ofL xs) (λx=>decide<|x∈ys) k;omega) dc C<|λ_ _=>am) λaa ad=>Z ?_
   exact Bt ((k+1),(aa),(ad),(out++([e_ (ofL xs) k]:List Int)))<|by dsimp only;exact ⟨om,(by first|rw [aa4 _ _ k om (As M),←ho]|rw [aa6 _ _ k om (D_ M),←ho])⟩
  exact Bt ((k+1),(a),(c),(out))<|by dsimp only;exact ⟨om,(by first|rw [aa4 _ _ k om (As M),←ho]|rw [aa6 _ _ k om (D_ M),←ho])⟩
 have ae:(ofL xs).take k=ofL xs:=Fx om
 rw [ae] at ho
 have ab:out=Z7 xs ys:=ho
 subst ab
 exact Ak C C (vk 3 a c (Z7 xs ys)::I) Ai ⟨a,c,rfl,rfl⟩
theorem fe0(n:Int):eu prog κ 99 [e7 n] I (λr J=>∃a c,r = .slice a (R8 n).length c/\J=vk 3 a c (R8 n)::I):=by
 refine Ce1 Tryz.func99 C C<|Z ?_
 refine Dh (σ:=Nat×(Option Addr)×Nat×(List Int)) (λs=>[(3,.slice s.2.1 s.2.2.2.length s.2.2.1),(4,e7 ((s.1:Nat):Int))]) (λs=>[vk 3 s.2.1 s.2.2.1 s.2.2.2]) (λs=>(s.1<=(min n 64).toNat)/\(s.2.2.2=(List.range s.1).map λj:Nat=>(j:Int))) (λs=>(min n 64).toNat - s.1) (0,none,0,[]) (show ((0:Nat)<=(min n 64).toNat)/\(([]:List Int)=(List.range (0:Nat)).map λj:Nat=>(j:Int)) from ⟨om,rfl⟩) (hI:=(B6 _ _)) ?_
 rintro ⟨k,a,c,out⟩ hp
 dsimp only at hp ⊢
 obtain ⟨hk,ho⟩:=hp
 have ae:out.length=k:=by rw [ho];simp
 refine Z ?_
 refine A1 (d:=8) C (λg8=>Z ?_)<|λg8=>Z ?_
 ·refine Al C (λc11=>Z ?_) (λc11=>Z ?_)
  ·refine Ge1 (B0 (α:=Int) (cs:=[_]) (xs:=[(k:Int)]) Ab ef C C dc dc C C C C) λad=>?_
   refine Ge2 (Bp (α:=Int) (e:=3) (xs:=out) (ys:=([(k:Int)]:List Int)) Ab ef C C C mm A5 lcn dc C<|λ_ _=>am) λab aa=>Z ?_
   exact Bt ((k+1),(ab),(aa),(out++([(k:Int)]:List Int)))<|by dsimp only;exact ⟨om,(by rw [List.range_succ,Ht,←ho];rfl)⟩
  have M:out=R8 n:=by rw [ho];unfold R8;congr 2;omega
  subst M
  exact Ak C C (vk 3 a c (R8 n)::I) Ai ⟨a,c,rfl,rfl⟩
 have M:out=R8 n:=by rw [ho];unfold R8;congr 2;omega
 subst M
 exact Ak C C (vk 3 a c (R8 n)::I) Ai ⟨a,c,rfl,rfl⟩
end Go.Sl
namespace Go.Sl
end Go.Sl
namespace Go.Sl
end Go.Sl
namespace Go.Sl
theorem D.fit{P:Program}{κ:Ctx}{N:Frm}{ops:Array Oper}{Q:Exit->Act->World->Prop}{I J H:List Item}{L:Env}{stop fuel:Nat}{M:Array Bool}(hf:Fit κ I J)(h:D P κ N ops Q H stop fuel M L J):D P κ N ops Q H stop fuel M L I:=λa w ha hs=>h a w ha (hf w hs)
section
variable {α:Type}[Enc α]{κ:Ctx}{I:List Item}
theorem Fit.fv2{e:TypeId}{a:Option Addr}{n c k:Nat}{xs:List α}(hn:n=xs.length):Fit κ (vc e (.slice a n c) xs::I) (vc e (.slice a (xs.take k).length c) (xs.take k)::I):=by
 subst hn
 refine Fit.upd (At.head _ _ _) λw h=>⟨?_,λj ⟨o,m,c',hv,hc⟩=>?_⟩
 ·obtain ⟨a',cap,hv,h1,h2,h3,h4⟩:=h
  cases hv
  refine ⟨a,c,rfl,r8 _,by rw [Fr];omega,h3,λhc=>?_⟩
  obtain ⟨b,off,M,ha,hb,h5,h6⟩:=h4 hc
  refine ⟨b,off,M,ha,hb,h5,λj u hj=>h6 j u ?_⟩
  have e1:cells xs=cells (xs.take k)++cells (xs.drop k):=by rw [←K9,Jm]
  rw [e1,Gv (G_.1 hj).1];exact hj
 cases hv;exact ⟨o,_,c,rfl,hc⟩
def ao8(e:TypeId)(rs:List (F9 α)):List Item:=rs.map λr=>vc e (.slice r.a r.xs.length r.c) r.xs
end
end Go.Sl
namespace Go.Sl
open Go.Proofs
set_option maxRecDepth 4000
end Go.Sl
namespace Go.Sl
open Go.Proofs
set_option maxRecDepth 4000
variable{es:List Pt}{nd v:Int}{va:Value}
variable {κ:Ctx}{I:List Item}
attribute [local irreducible] W G V D A j7 Eff
def bh9(nd:Int)(es:List Pt)(v:Int):BitVec 64:=if v<0\/((ek nd es).length:Int)<=v\/F6 nd es≠0 then 0#64 else e_ (ek nd es) v
def nbL(es:List Pt)(v:Int):List Int:=es.flatMap λe=>(if e.u=v then [e.v] else [])++(if e.v=v then [e.u] else [])
theorem ar0{k:Nat}(h:k<es.length)(v:Int):nbL (es.take (k+1)) v=nbL (es.take k) v++((if (e_ es k).u=v then [(e_ es k).v] else [])++(if (e_ es k).v=v then [(e_ es k).u] else [])):=by
 unfold nbL;rw [Ca es k h,List.flatMap_append];simp
theorem an7{x:Int}:x∈nbL es v↔(⟨v,x⟩:Pt)∈es\/(⟨x,v⟩:Pt)∈es:=by
 unfold nbL
 rw [Kw]
 constructor
 ·rintro ⟨⟨a,b⟩,M,hx⟩
  rcases Gu.1 hx with h|h
  ·split at h
   ·rename_i h1;simp only [Ge] at h;simp only at h1;subst h h1;exact .inl M
   simp at h
  split at h
  ·rename_i h1;simp only [Ge] at h;simp only at h1;subst h h1;exact .inr M
  simp at h
 rintro (h|h)
 ·exact ⟨_,h,by simp⟩
 exact ⟨_,h,by simp⟩
def nbG(nd:Int)(es:List Pt)(v:Int):List Int:=if F6 nd es≠0 then [] else ofL (nbL es v)
theorem ct1(nd:Int)(es:List Pt)(v:Int):eo (bh9 nd es v)=nbG nd es v:=by
 by_cases hc:F6 nd es≠0
 ·unfold bh9 nbG;rw [B_ (.inr<|.inr hc),B_ hc,D3]
 have M:=s4.1 (Fv.1 hc)
 have hr:=M.rng
 have hl:=M.rows.len
 unfold nbG
 rw [An hc]
 refine ar8.uniq (ae0 _) (T0 _) λx=>?_
 rw [D1,af6,an7]
 by_cases hv:v<0\/((ek nd es).length:Int)<=v
 ·have hz:bh9 nd es v=0#64:=B_ om
  rw [hz]
  simp only [BitVec.getLsbD_zero,Bool.false_eq_true,and_false,false_iff]
  rintro (h|h)
  ·have:=M.aa9 _ h;simp only at this;omega
  have:=M.aa9 _ h;simp only at this;omega
 have hz:bh9 nd es v=e_ (ek nd es) v:=An om
 rw [hz]
 by_cases hx:0<=x/\x<64
 ·rw [M.rows.bit v x om om hx.1 hx.2,Gp]
  exact ⟨λh=>h.2,λh=>⟨hx.1,h⟩⟩
 constructor
 ·rintro ⟨h1,h2⟩
  rw [BitVec.getLsbD_of_ge _ _ om] at h2
  exact absurd h2 dc
 rintro (h|h)
 ·have:=M.aa9 _ h;simp only at this;omega
 have:=M.aa9 _ h;simp only at this;omega
theorem K0(nd:Int)(es:List Pt)(v:Int):(nbG nd es v).length<=64:=by rw [←ct1];exact Et _
theorem dg8(a b:BitVec 64):eo (a &&& b)=Z7 (eo a) (eo b):=by
 refine ar8.uniq (ae0 _) ((T0 _).sublist Hg) λx=>?_
 rw [T2,D1,D1,D1,Kf,He]
 exact ⟨λh=>⟨⟨h.1,h.2.1⟩,h.1,h.2.2⟩,λh=>⟨h.1.1,h.1.2,h.2.2⟩⟩
theorem dk2(nd:Int)(es:List Pt)(v:Int):ac5 (bh9 nd es v)=((nbG nd es v).length:Int):=by rw [bq3,ct1]
def j3(nd:Int)(es:List Pt)(u v:Int):List Int:=if u=v then [] else Z7 (nbG nd es u) (nbG nd es v)
theorem as8{u:Int}(h:u≠v):eo (bh9 nd es u &&& bh9 nd es v)=j3 nd es u v:=by
 unfold j3;rw [An h,dg8,ct1,ct1]
def at5(nd:Int)(es:List Pt)(u v y:Int):Prop:=(F6 nd es=0/\∃j:Nat,y=(j:Int)/\j<es.length/\e_ es j=j4 u v)\/(y = -1/\(F6 nd es≠0\/j4 u v∉es))
theorem fp2:∀n:Fin 65,∀i:Fin 64,(at1 (n.val:Int)).getLsbD i.val=decide (i.val<n.val):=by decide+kernel
theorem af9{n:Int}(M:0<=n)(h1:n<=64){i:Nat}(hi:i<64):(at1 n).getLsbD i=decide ((i:Int)<n):=by
 have:=fp2 ⟨n.toNat,by omega⟩ ⟨i,hi⟩
 simp only [show ((n.toNat:Nat):Int)=n by omega] at this
 rw [this,Ft];omega
theorem bb1(hl:Sl κ I va es)(v:Int):eu prog κ 165 [.agg #[e7 nd,va],e7 v] I (λr J=>r=U64 (bh9 nd es v)/\I=J):=by
 refine Ce2 Tryz.func165 C C ?_
 refine Am<|Ge1 (Au (cs:=[_,_]) C C C) λb1=>Z ?_
 refine G.e (Ac c_ C C<|at4 (nd:=nd)<|A4 hl) ?_
 rintro _ _ ⟨_,_,⟨ah,ae,rfl,rfl⟩,rfl,rfl⟩
 have M:=ad6 nd es
 refine Z ?_
 refine A1 (d:=10) C (λad=>Z ?_)<|λad=>Z ?_
 ·exact Ak C C I Ah ⟨by rw [show bh9 nd es v=0#64 from B_ om];rfl,rfl⟩
 refine A1 (d:=16) C (λaa=>Z ?_)<|λaa=>Z ?_
 ·exact Ak C C I Ah ⟨by rw [show bh9 nd es v=0#64 from B_ om];rfl,rfl⟩
 refine Dj (Cf C C C) (Ac c_ C C<|V0<|A4 hl) ?_
 rintro _ _ ⟨_,_,⟨rfl,rfl⟩,rfl,rfl⟩
 refine Z ?_
 refine Al C (λab=>Z ?_)<|λab=>Z ?_
 ·exact Ak C C I Ah ⟨by rw [show bh9 nd es v=0#64 from B_ om];rfl,rfl⟩
 exact Ak C C I Ah ⟨by rw [show bh9 nd es v=e_ (ek nd es) v from An om],rfl⟩
theorem bh0(hl:Sl κ I va es)(v:Int)(hT:F4 κ I 0 p5):eu prog κ 164 [.agg #[e7 nd,va],e7 v] I (λr J=>∃a c,r = .slice a (nbG nd es v).length c/\J=vk 3 a c (nbG nd es v)::I):=by
 refine Ce2 Tryz.func164 C C ?_
 refine Am<|Ge1 (Au (cs:=[_,_]) C C C) λb1=>Z ?_
 refine G.e (Ac c_ C C<|bb1 (nd:=nd) (A4 hl) v) ?_
 rintro _ _ ⟨_,_,⟨rfl,rfl⟩,rfl,rfl⟩
 refine Gc2 (Ac c_ C C<|ac1 (bh9 nd es v)<|A6 hT Ah) λaa M=>Z ?_
 have hX:(nbG nd es v)=_:=(ct1 nd es v).symm
 exact Ak C C (vk 3 aa M (nbG nd es v)::I) (by unfold vk;rw [hX];exact Ai) ⟨aa,M,by rw [hX],rfl⟩
theorem Z4(M:Sl κ I va es)(v:Int):eu prog κ 136 [.agg #[e7 nd,va],e7 v] I (λr J=>r=e7 ((((nbG nd es v).length:Nat)):Int)/\I=J):=by
 refine Ce2 Tryz.func136 C C ?_
 refine Am<|Ge1 (Au (cs:=[_,_]) C C C) λb1=>Z ?_
 refine G.e (Ac c_ C C<|bb1 (nd:=nd) (A4 M) v) ?_
 rintro _ _ ⟨_,_,⟨rfl,rfl⟩,rfl,rfl⟩
 refine Gc0 (Ac c_ C C<|bh1<|bh9 nd es v) ?_
 exact Ga C<|Ar<|B2<|Ak C C I Ah ⟨by rw [dk2],rfl⟩
theorem bn9(hl:Sl κ I va es)(u v:Int)(hT:F4 κ I 0 p5):eu prog κ 178 [.agg #[e7 nd,va],e7 u,e7 v] I (λr J=>∃a c,r = .slice a (j3 nd es u v).length c/\J=vk 3 a c (j3 nd es u v)::I):=by
 refine Ce3 Tryz.func178 C C ?_
 refine Am<|Ge1 (Au (cs:=[_,_]) C C C) λb1=>Z ?_
 refine Al C (λc9=>Z ?_)<|λc9=>Z ?_
 ·have hX:(j3 nd es u v)=[]:=B_ c9
  exact Ak C C (vk 3 none 0 (j3 nd es u v)::I) (by unfold vk;rw [hX];exact A7 (show Fit κ _ I from Ah)<|B6 (α:=Int) _ _) ⟨none,0,by rw [hX];rfl,rfl⟩
 refine A9 mixed<|Bx (e8 b1 [e7 nd,va] 38::I) 9<|Z ?_
 refine Ds1 2<|Se C (Ac c_ C C<|bb1 (nd:=nd) (A4 hl) u) ?_
 rintro _ _ ⟨_,_,⟨rfl,rfl⟩,rfl,rfl⟩
 refine ⟨Ai,?_⟩
 refine Ds1 5<|Se C (Ac c_ C C<|bb1 (nd:=nd) (A4 hl) v) ?_
 rintro _ _ ⟨_,_,⟨rfl,rfl⟩,rfl,rfl⟩
 refine ⟨Ai,?_⟩
 refine Dr 6 C (Eg (a:=bh9 nd es u) (b:=bh9 nd es v) C C)<|Ds1 7<|Sc2 C (Ac c_ C C<|ac1 ((bh9 nd es u) &&& (bh9 nd es v))<|A6 hT Ah) λaa M=>Z ?_
 have hX:(j3 nd es u v)=_:=(as8 c9).symm
 exact Ak C C (vk 3 aa M (j3 nd es u v)::I) (by unfold vk;rw [hX];exact Ai) ⟨aa,M,by rw [hX],rfl⟩
theorem at6(hl:Sl κ I va es)(u v:Int)(hb:es.length<=1000000000):eu prog κ 151 [.agg #[e7 nd,va],e7 u,e7 v] I (λr J=>∃y:Int,r=e7 y/\at5 nd es u v y/\I=J):=by
 refine Ce3 Tryz.func151 C C ?_
 refine Am<|Ge1 (Au (cs:=[_,_]) C C C) λb1=>Z ?_
 refine G.e (Ac c_ C C<|bt7 (A4 hl) u v om) ?_
 rintro _ _ ⟨_,_,⟨i2,q3,rfl,ab,rfl⟩,rfl,rfl⟩
 refine Z ?_
 refine A1 (d:=17) C (λM=>Z ?_)<|λM=>Z ?_
 ·refine Dj (Cf C C C) (Ac c_ C C<|V0<|A4 hl) ?_
  rintro _ _ ⟨_,_,⟨rfl,rfl⟩,rfl,rfl⟩
  refine Z ?_
  refine Al C (λaa=>Z ?_)<|λaa=>Z ?_
  ·exact Ak C C I Ah ⟨_,rfl,.inl ⟨aa,i2,rfl,M.1,M.2⟩,rfl⟩
  have hn:F6 nd es≠0\/j4 u v∉es:=(Decidable.em<|F6 nd es=0).elim (λhc=> .inr λhm=>by first|exact aa hc|exact M ((ab.mem (s4.1 hc).asc).2 hm)) .inl
  exact Ak C C I Ah ⟨_,rfl,.inr ⟨rfl,hn⟩,rfl⟩
 have hn:F6 nd es≠0\/j4 u v∉es:=(Decidable.em<|F6 nd es=0).elim (λhc=> .inr λhm=>by first|exact aa hc|exact M ((ab.mem (s4.1 hc).asc).2 hm)) .inl
 exact Ak C C I Ah ⟨_,rfl,.inr ⟨rfl,hn⟩,rfl⟩
end Go.Sl
namespace Go.Sl
open Go.Proofs
set_option maxRecDepth 4000
variable{n:Nat}{nd v:Int}{rows:List (BitVec 64)}{es:List Pt}
def bf6(nd:Int)(es:List Pt):List (Int×Nat):=ae2 (ek nd es) (at1 ((ek nd es).length:Int)) 0
def dk9(nd:Int)(es:List Pt):List Int:=bq6 (ek nd es).length (bf6 nd es)
def fo1(nd:Int)(es:List Pt):List Int:=am6 (bf6 nd es)
def j9(nd:Int)(es:List Pt):List Int:=if F6 nd es≠0 then [] else dk9 nd es
def U8(nd:Int)(es:List Pt)(k:Int):List Int:=ae9 (j9 nd es).length λv=>decide (k<=e_ (j9 nd es) v)
theorem af7(h:n<=64){u:Int}:u∈eo (at1 (n:Int))↔0<=u/\u<n:=by
 constructor
 ·intro hu
  have M:=Eo hu
  rw [D1,af9 om om om,Gp] at hu
  omega
 intro hu
 rw [D1,af9 om om om,Gp]
 omega
theorem as7(nd:Int)(es:List Pt):(dk9 nd es).length=(ek nd es).length:=cm1 _ _
theorem dv3(l:List (Int×Nat)):(am6 l).length=l.length:=Gc ..
theorem ca0(M:0<=v)(h1:v<64):H8 v=1#64 <<< v.toNat:=by unfold H8;rw [An om]
theorem dz5(h:fq3 n rows){k:Int}(M:0<=k)(h1:k<n):ac5 (e_ rows k)=((Q1 rows (at1 (n:Int)) k:Nat):Int):=by
 rw [bq3]
 unfold Q1
 congr 1
 refine ((Hr (Df _)<|Df _).2 λu=>?_).length_eq
 rw [K2]
 refine ⟨λhu=>⟨hu,(af7 h.le).2 ⟨(Eo hu).1,h.lt k u M h1 hu⟩⟩,λhu=>hu.1⟩
theorem dz9(h:fq3 n rows)(hn:1<=n)(left:BitVec 64)(v:Int):Q1 rows left v<=n - 1:=by
 by_cases hv:v.toNat<n
 ·have e:e_ rows v=e_ rows v.toNat:=by show rows.getD v.toNat _=rows.getD ((v.toNat:Nat):Int).toNat _;rw [Ly]
  have:=bs4 h left (v:=(v.toNat:Int)) om om
  unfold Q1 at this ⊢
  rw [e];omega
 have e:e_ rows v=0#64:=by
  unfold e_
  rw [Hs,Jo (by rw [h.len];omega)];rfl
 unfold Q1
 rw [e,BitVec.zero_and,D3];simp
theorem ak6(M:s8 nd es):fq3 (ek nd es).length (ek nd es):=by
 have h:=M.rows.symB M
 have e:=h.len
 rw [←e] at h;exact h
theorem dk5{left:BitVec 64}{M dd:Nat}{done:List (Int×Nat)}{all:List (Int×Nat)}(hc:done++ae2 rows left M=all)(hT:ca5 rows left v)(hd:Q1 rows left v=dd) :
  (done++[(v,max M dd)])++ae2 rows (left &&& ~~~(1#64 <<< v.toNat)) (max M dd)=all:=by
 rw [←hc,bm5 hT,hd,Fu];rfl
theorem fa4(h:n<=64):(eo (at1 (n:Int))).length=n:=by
 have M:(eo (at1 (n:Int))).Perm ((List.range n).map fun (i:Nat)=>(i:Int)):=(Hr (Df _) (by
  exact Mx _ (λa b h=>by omega) (List.nodup_range (n:=n)))).2 λu=>by
  rw [af7 h,Gz]
  constructor
  ·intro hu;exact ⟨u.toNat,Ja.2 om,by omega⟩
  rintro ⟨i,hi,rfl⟩;have:=Ja.1 hi;omega
 have:=M.length_eq
 rwa [Gc,J_] at this
set_option maxHeartbeats 2000000 in
theorem fg8{κ:Ctx}{I:List Item}{va:Value}(hl:Sl κ I va es)(hG:s8 nd es)(hT:F4 κ I 0 p5):eu prog κ 129 [.agg #[e7 nd,va]] I (λr J=>∃a c a' c',r = .tuple #[.slice a (fo1 nd es).length c,.slice a' (dk9 nd es).length c']/\J=vk 3 a c (fo1 nd es)::vk 3 a' c' (dk9 nd es)::I):=by
 have hS:=ak6 hG
 have bv:=hS.le
 refine Ce1 Tryz.func129 C C ?_
 refine Am<|Ge1 (Au (cs:=[_,_]) C C C) λb1=>Ga C<|Ga C<|Ar<|W.fv9 (l:=0) C ?_
 refine Am<|Gl2 J9 ?_
 refine G.e (Ac c_ C C<|at4 (nd:=nd)<|A4 hl) ?_
 rintro _ _ ⟨_,_,⟨ad,ae,rfl,rfl⟩,rfl,rfl⟩
 have bg:=ad6 nd es
 refine Ga C<|Ar<|Am<|Ge1 (Aj fu1 C) λb4=>?_
 show G prog κ _ _ _ _ ([(5,pt b4),(4,.slice ad (ek nd es).length ae),(16,.slice ad (ek nd es).length ae),(15,.agg #[e7 nd,va]),(3,.slice none 0 0),(2,.slice none 0 0),(1,pt b1),(0,.agg #[e7 nd,va])]:Env) (e8 b4 (cells (replicate 64 (0#64):List (BitVec 64))) 208::vk 207 ad ae (ek nd es)::e8 b1 [e7 nd,va] 38::I)
 refine Ar<|Am<|Gm C<|Gr (Bl Cp C)<|Ge2 (Dl (α:=Int) (n:=(ek nd es).length) Ab ef C C C om om dc C) λah ai=>?_
 refine Ga C<|Ar<|Ay<|Am<|Gm C<|Gr (Bl Cp C)<|Gm C<|Ar<|A0 (S7 22 21 20 6 5 4 2)<|A8<|B9 (σ:=Nat×(List Int)×(List<|BitVec 64)) (λs=>([(2,.slice none 0 0),(4,.slice ad (ek nd es).length ae),(5,pt b4),(6,.slice ah (replicate ((ek nd es).length) (default:Int)).length ai),(20,.slice ad (ek nd es).length ae),(21,e7<|(((ek nd es).length:Nat):Int)),(22,e7 ((s.1:Nat):Int))]:Env)) (λs=>vc 3 (.slice ah (replicate ((ek nd es).length) (default:Int)).length ai) (s.2.1)::e8 b4 (cells (s.2.2:List (BitVec 64))) 208::vk 207 ad ae (ek nd es)::e8 b1 [e7 nd,va] 38::I) (λs=>(s.1<=(ek nd es).length)/\(au3 (ek nd es).length (λu=>0<=u/\u<((s.1:Nat):Int)) (Q1 (ek nd es)<|at1 ((ek nd es).length:Int)) s.2.1 s.2.2)) (λs=>(ek nd es).length - s.1) (0,replicate ((ek nd es).length) (default:Int),replicate 64<|0#64) (show ((0:Nat)<=(ek nd es).length)/\(au3 (ek nd es).length (λu=>0<=u/\u<(((0:Nat):Nat):Int)) (Q1 (ek nd es)<|at1 ((ek nd es).length:Int)) (replicate ((ek nd es).length) (default:Int):List Int) (replicate 64 (0#64):List (BitVec 64))) from ⟨om,(au3.start _ _)⟩) (cx4<|cx2<|Aa Cn Bb) (show Fit κ _ (vk 3 ah ai (replicate ((ek nd es).length) (default:Int))::e8 b4 (cells ((replicate 64<|0#64):List (BitVec 64))) 208::vk 207 ad ae (ek nd es)::e8 b1 [e7 nd,va] 38::I) from Ai) ?_
 rintro ⟨k,dgs,bks⟩ hp
 dsimp only at hp ⊢
 obtain ⟨hk,hB⟩:=hp
 have b6:=hB.ft1
 have cc:=hB.ft3
 have ba:k<(ek nd es).length->ac5 (e_ (ek nd es) k)=((Q1 (ek nd es) (at1 ((ek nd es).length:Int)) (k:Int):Nat):Int):=λh=>dz5 hS om om
 have a3:k<(ek nd es).length->((Q1 (ek nd es) (at1 ((ek nd es).length:Int)) (k:Int):Nat):Int)<64:=λh=>by have:=bs4 hS (at1 ((ek nd es).length:Int)) (v:=(k:Int)) om om;omega
 refine Am<|Gr (Bj C C)<|Ar<|Ay<|Al C (λbr=>?_)<|λbr=>?_
 ·refine Bc (Ao<|Ay<|A8<|Am<|Gm C<|Gr (A2 (α:=(BitVec 64)) (xs:=ek nd es) Cp M3 C C A5 om oo)<|Gr (Cc (α:=(BitVec 64)) (xs:=ek nd es) (u:=U64 ((e_ (ek nd es) k))) M3 C A5 om oo C)<|Ga C<|Ga C<|Ar<|Am<|Gm C<|Gm C<|Gm C<|Gc0 (Ac c_ C C<|bh1<|e_ (ek nd es) k) ?_)
  refine Gr (A2 (α:=Int) (xs:=dgs) Ab ef C C A5 om oo)<|Ge0 (Cv (α:=Int) (xs:=dgs) (e:=3) (new:=ac5 (e_ (ek nd es) k)) ef C C C om oo am) ?_
  have be:=ba om
  have bj:=a3 om
  have a7:e_ (List.set dgs ((k:Int)).toNat (ac5<|e_ (ek nd es) k)) (k:Int)=((Q1 (ek nd es) (at1 ((ek nd es).length:Int)) (k:Int):Nat):Int):=by rw [Eh _ _ _ _ om om om,B_ rfl,be]
  refine Ar<|A0 (S8 7 2 4 5 6 20 21 22)<|A9 mixed<|Bx (vc 3 (.slice ah (replicate ((ek nd es).length) (default:Int)).length ai) (List.set dgs ((k:Int)).toNat (ac5<|e_ (ek nd es) k))::e8 b4 (cells (bks:List (BitVec 64))) 208::vk 207 ad ae (ek nd es)::e8 b1 [e7 nd,va] 38::I) 10<|Dr 0 C (Aq C)<|Dr 1 C (Aq C)<|Dr 2 C (A2 (α:=Int) (xs:=List.set dgs ((k:Int)).toNat (ac5<|e_ (ek nd es) k)) Ab ef C C A5 om oo)<|Dr 3 C (B8 (xs:=List.set dgs ((k:Int)).toNat (ac5<|e_ (ek nd es) k)) ef C A5 om oo)<|Dr 4 C (B5 C6 M3 C C om oo)<|Dr 5 C (Fp (xs:=bks) M3 C (Dm mm) om oo)<|Dr 6 C (Aq C)<|Ds1 7<|Se C (Ac c_ C C<|ac3 (k:Int)) ?_
  rintro _ _ ⟨_,_,⟨rfl,rfl⟩,rfl,rfl⟩
  refine ⟨Ah,?_⟩
  refine Dr 8 C (Eb (a:=e_ bks (e_ (List.set dgs ((k:Int)).toNat (ac5<|e_ (ek nd es) k)) (k:Int))) (b:=H8 (k:Int)) C C)<|Dr 9 C (B5 C6 M3 C C om oo)<|Cg kr ?_
  refine Ae 10 C (Eff.du0 (xs:=bks) (i:=e_ (List.set dgs ((k:Int)).toNat (ac5<|e_ (ek nd es) k)) (k:Int)) (n:=(e_ bks<|e_ (List.set dgs ((k:Int)).toNat (ac5<|e_ (ek nd es) k)) (k:Int)) ||| (H8 (k:Int))) M3 C C C om oo am) ?_
  rintro _ _ ⟨rfl,rfl⟩
  refine Ch kr ?_
  exact Av<|Ao<|A0 (S7 2 4 5 6 20 21 22)<|Ba<|Gr (Rad C C)<|Gm C<|Bs<|Bt ((k+1),(List.set dgs ((k:Int)).toNat (ac5<|e_ (ek nd es) k)),(List.set bks (e_ (List.set dgs ((k:Int)).toNat (ac5<|e_ (ek nd es) k)) (k:Int)).toNat ((e_ bks<|e_ (List.set dgs ((k:Int)).toNat (ac5<|e_ (ek nd es) k)) (k:Int)) ||| (H8 (k:Int)))))<|by dsimp only;exact ⟨om,(by have hN:=hB.push (S':=λu=>0<=u/\u<((k+1:Nat):Int)) (v:=(k:Int)) (c:=((Q1 (ek nd es) (at1 ((ek nd es).length:Int)) (k:Int):Nat):Int)) om om om (λu=>by constructor<;>intro h<;>omega) (λh=>by omega) C (a3 om);rw [a7,ba om,ca0 om om];exact hN)⟩
 refine Ck<|Aw<|Aw<|Bi<|Ao<|Am<|Gm C<|Gr (Bl Cp C)<|Ge2 (Dl (α:=Int) (n:=(ek nd es).length) Ab ef C C C om om dc C) λak aj=>?_
 refine Ga C<|Ar<|Am<|Gm C<|Gr (Bl Cp C)<|Gc0 (Ac c_ C C<|cy6 (((ek nd es).length:Nat):Int)) ?_
 refine Ga C<|Ar<|A0 (S6 9 3 2 4 5 6)<|Am<|Ga C<|Ar<|Ay<|W.label ?_
 refine Ao<|Ay<|A8<|B9 (σ:=(List<|Int×Nat)×(BitVec 64)×Nat×(List Int)×(List<|BitVec 64)×(Option Addr)×Nat) (λs=>([(2,.slice s.2.2.2.2.2.1 (am6 s.1).length s.2.2.2.2.2.2),(3,.slice ak (replicate ((ek nd es).length) (default:Int)).length aj),(4,.slice ad (ek nd es).length ae),(5,pt b4),(6,.slice ah (replicate ((ek nd es).length) (default:Int)).length ai),(9,U64<|s.2.1),(10,e7 ((s.2.2.1:Nat):Int))]:Env)) (λs=>vk 3 s.2.2.2.2.2.1 s.2.2.2.2.2.2 (am6 s.1)::vc 3 (.slice ak (replicate ((ek nd es).length) (default:Int)).length aj) (bq6 (ek nd es).length s.1)::vc 3 (.slice ah (replicate ((ek nd es).length) (default:Int)).length ai) (s.2.2.2.1)::e8 b4 (cells (s.2.2.2.2.1:List (BitVec 64))) 208::vk 207 ad ae (ek nd es)::e8 b1 [e7 nd,va] 38::I) (λs=>(s.1++ae2 (ek nd es) s.2.1 s.2.2.1=bf6 nd es)/\(au3 (ek nd es).length (λu=>u∈eo s.2.1) (Q1 (ek nd es) s.2.1) s.2.2.2.1 s.2.2.2.2.1)/\(s.1.length+(eo s.2.1).length=(ek nd es).length)/\(s.2.2.1<=63)) (λs=>(eo s.2.1).length) ([],(at1 ((ek nd es).length:Int)),0,dgs,bks,none,0) (show (([]:List (Int×Nat))++ae2 (ek nd es) ((at1 ((ek nd es).length:Int)):BitVec 64) (0:Nat)=bf6 nd es)/\(au3 (ek nd es).length (λu=>u∈eo ((at1 ((ek nd es).length:Int)):BitVec 64)) (Q1 (ek nd es) ((at1 ((ek nd es).length:Int)):BitVec 64)) (dgs:List Int) (bks:List (BitVec 64)))/\(([]:List (Int×Nat)).length+(eo ((at1 ((ek nd es).length:Int)):BitVec 64)).length=(ek nd es).length)/\((0:Nat)<=63) from ⟨rfl,(hB.congr (λu=>(af7 hS.le).trans (by constructor<;>intro h<;>omega))<|λu _=>rfl),(by have:(eo<|at1 ((ek nd es).length:Int)).length=(ek nd es).length:=fa4 hS.le;simp only [Fw];omega),om⟩) (Aa (Db C<|by first|rfl|(rw [ai3])|simp)<|cx4<|Aa (Db C<|by first|rfl|(rw [ai3])|simp)<|Aa Cn Bb) (show Fit κ _ (vk 3 none 0 (am6<|[])::vc 3 (.slice ak (replicate ((ek nd es).length) (default:Int)).length aj) (bq6 (ek nd es).length ([]))::vc 3 (.slice ah (replicate ((ek nd es).length) (default:Int)).length ai) ((dgs))::e8 b4 (cells ((bks):List (BitVec 64))) 208::vk 207 ad ae (ek nd es)::e8 b1 [e7 nd,va] 38::I) from (A7 (B6 (α:=Int) _ _) Az)) ?_
 rintro ⟨done,left,kk,aq,ab,ao,co⟩ hp
 dsimp only at hp ⊢
 obtain ⟨hc,av,cd,b8⟩:=hp
 have b2:=av.ft1
 have b5:=av.ft3
 have hold:=dv3 done
 have cb:=cm1 (ek nd es).length done
 have aw:∀u∈eo left,Q1 (ek nd es) left u<64:=λu hu=>by have hr:=av.rng u hu;have:=bs4 hS left hr.1 hr.2;omega
 refine Ay<|Am<|Gm C<|Gr (j7.neB (a:=left) (b:=0#64) C C)<|Ar<|Al C (λa9=>?_)<|λa9=>?_
 ·refine Bc (Ao<|A8<|Am<|Gm C<|Ar<|A8<|B9 (σ:=Nat) (λs=>([(2,.slice ao (am6 done).length co),(3,.slice ak (replicate ((ek nd es).length) (default:Int)).length aj),(4,.slice ad (ek nd es).length ae),(5,pt b4),(6,.slice ah (replicate ((ek nd es).length) (default:Int)).length ai),(9,U64 left),(10,e7<|(kk:Int)),(51,e7 ((s:Nat):Int))]:Env)) (λs=>vk 3 ao co (am6 done)::vc 3 (.slice ak (replicate ((ek nd es).length) (default:Int)).length aj) (bq6 (ek nd es).length done)::vc 3 (.slice ah (replicate ((ek nd es).length) (default:Int)).length ai) (aq)::e8 b4 (cells (ab:List (BitVec 64))) 208::vk 207 ad ae (ek nd es)::e8 b1 [e7 nd,va] 38::I) (λs=>(s<=64)/\(∀c:Int,0<=c->c<((s:Nat):Int)->e_ ab c=0#64)) (λs=>64 - s) 0 (show ((0:Nat)<=64)/\(∀c:Int,0<=c->c<(((0:Nat):Nat):Int)->e_ ab c=0#64) from ⟨om,(λc h1 h2=>by omega)⟩) (cx4<|cx2<|Aa C<|Aa Cn Bb) (show Fit κ _ (vk 3 ao co (am6 done)::vc 3 (.slice ak (replicate ((ek nd es).length) (default:Int)).length aj) (bq6 (ek nd es).length done)::vc 3 (.slice ah (replicate ((ek nd es).length) (default:Int)).length ai) (aq)::e8 b4 (cells (ab:List (BitVec 64))) 208::vk 207 ad ae (ek nd es)::e8 b1 [e7 nd,va] 38::I) from Ai) ?_)
  rintro dd hp
  obtain ⟨b7,hz⟩:=hp
  refine Am<|Gr (Bj C C)<|Ar<|Ay<|Al C (λbh=>?_)<|λbh=>?_
  ·refine Bc (Ao<|Ay<|A8<|Am<|Gm C<|Ga C<|Ar<|Ay<|Am<|Gm C<|Gr (B5 C6 M3 C C om oo)<|Gr (Fp (xs:=ab) M3 C (Dm mm) om oo)<|Gr (j7.eqB (a:=e_ ab dd) (b:=0#64) C C)<|Ar<|A0 (S10 57 11 2 3 4 5 6 9 10 51)<|Al C (λa8=>?_)<|λa8=>?_)
   ·exact Ck<|Aw<|Bi<|Ao<|Ba<|Gr (Rad C C)<|Gm C<|Bs<|Bt ((dd+1)) ⟨om,(λc h1 h2=>by by_cases e:c=(dd:Int);(· rw [e];assumption);(· exact hz c h1 om))⟩
   refine Bc<|Ao<|Am<|Gm C<|Gr (B5 C6 M3 C C om oo)<|Gr (Fp (xs:=ab) M3 C (Dm mm) om oo)<|Gc0 (Ac c_ C C<|fe9 (e_ ab dd)<|A6 hT Ah) ?_
   have bb:=av.takes (d:=(dd:Int)) om om a8 hz aw
   generalize hvE:tzB (e_ ab dd)=v at bb ⊢
   obtain ⟨bf,bo⟩:=bb
   have ay:=bf.mem
   have b9:=av.rng v ay
   refine Ga C<|Ar<|A0 (S9 12 11 2 3 4 5 6 9 10)<|Am<|Gm C<|Gm C<|Gr (Fi C C) ?_
   have bm:(if (kk:Int)<(dd:Int) then (dd:Int) else (kk:Int))=(((max kk dd):Nat):Int):=by split<;>omega
   rw [bm]
   refine Ga C<|Ar<|A0 (S9 10 12 11 2 3 4 5 6 9)<|Am<|Gm C<|Gm C<|Gm C<|Gr (A2 (α:=Int) (xs:=bq6 (ek nd es).length done) Ab ef C C A5 om oo)<|Ge0 (Cv (α:=Int) (xs:=bq6 (ek nd es).length done) (e:=3) (new:=(((max kk dd):Nat):Int)) ef C C C om oo am) ?_
   refine Ar<|Am<|Gm C<|Gm C<|Ge1 (B0 (α:=Int) (cs:=[_]) (xs:=[v]) Ab ef C C dc dc C C C C) λaz=>?_
   refine Ge2 (Bp (α:=Int) (e:=3) (xs:=am6 done) (ys:=([v]:List Int)) Ab ef C C C mm A5 lcn dc C<|λ_ _=>am) λan ap=>?_
   refine Ga C<|Ar<|A0 (S9 2 10 12 11 3 4 5 6 9)<|Am<|Gm C<|Gm C<|G.e (Ac c_ C C<|ac3 v) ?_
   rintro _ _ ⟨_,_,⟨rfl,rfl⟩,rfl,rfl⟩
   rw [show H8 v=1#64 <<< (v).toNat from ca0 om om]
   refine Gr (E0 (a:=left) (b:=1#64 <<< (v).toNat) C C)<|Ga C<|Ar<|A0 (S9 9 2 10 12 11 3 4 5 6)<|Ay<|A9 mixed<|Bx (vc 3 (.slice az 1 1) (([v]:List Int))::vk 3 an ap ((am6 done)++([v]:List Int))::vc 3 (.slice ak (replicate ((ek nd es).length) (default:Int)).length aj) (List.set (bq6 (ek nd es).length done) (v).toNat ((((max kk dd):Nat):Int)))::vc 3 (.slice ah (replicate ((ek nd es).length) (default:Int)).length ai) (aq)::e8 b4 (cells (ab:List (BitVec 64))) 208::vk 207 ad ae (ek nd es)::e8 b1 [e7 nd,va] 38::I) 7<|Dr 0 C (Aq C)<|Dr 1 C (B5 C6 M3 C C om oo)<|Dr 2 C (Fp (xs:=ab) M3 C (Dm mm) om oo)<|Dr 3 C (Aq C)<|Ds1 4<|Se C (Ac c_ C C<|ac3 v) ?_
   rintro _ _ ⟨_,_,⟨rfl,rfl⟩,rfl,rfl⟩
   refine ⟨Ah,?_⟩
   rw [show H8 v=1#64 <<< (v).toNat from ca0 om om]
   refine Dr 5 C (E0 (a:=e_ ab dd) (b:=1#64 <<< (v).toNat) C C)<|Dr 6 C (B5 C6 M3 C C om oo)<|Cg kr ?_
   refine Ae 7 C (Eff.du0 (xs:=ab) (i:=(dd:Int)) (n:=(e_ ab dd) &&& ~~~(1#64 <<< (v).toNat)) M3 C C C om oo am) ?_
   rintro _ _ ⟨rfl,rfl⟩
   refine Ch kr ?_
   refine Ao<|A0 (S8 9 2 10 12 3 4 5 6)<|Ay<|Am<|Gm C<|Gm C<|Gr (A2 (α:=(BitVec 64)) (xs:=ek nd es) Cp M3 C C A5 om oo)<|Gr (Cc (α:=(BitVec 64)) (xs:=ek nd es) (u:=U64 ((e_ (ek nd es) v))) M3 C A5 om oo C)<|Gm C<|Gr (Eg (a:=(e_ (ek nd es) v)) (b:=left &&& ~~~(1#64 <<< (v).toNat)) C C)<|Gc2 (Ac c_ C C<|ac1 ((e_ (ek nd es) v) &&& (left &&& ~~~(1#64 <<< (v).toNat)))<|A6 hT Ah) λar au=>?_
   refine Gr (Bl Ab C)<|Gm C<|Ar<|A0 (S10 92 91 90 9 2 10 3 4 5 6)<|A8<|B9 (σ:=Nat×(List Int)×(List<|BitVec 64)) (λs=>([(2,.slice an ((am6 done)++([v]:List Int)).length ap),(3,.slice ak (replicate ((ek nd es).length) (default:Int)).length aj),(4,.slice ad (ek nd es).length ae),(5,pt b4),(6,.slice ah (replicate ((ek nd es).length) (default:Int)).length ai),(9,U64<|left &&& ~~~(1#64 <<< (v).toNat)),(10,e7<|(((max kk dd):Nat):Int)),(90,.slice ar (eo<|(e_ (ek nd es) v) &&& (left &&& ~~~(1#64 <<< (v).toNat))).length au),(91,e7<|(((eo<|(e_ (ek nd es) v) &&& (left &&& ~~~(1#64 <<< (v).toNat))).length:Nat):Int)),(92,e7 ((s.1:Nat):Int))]:Env)) (λs=>vk 3 ar au (eo<|(e_ (ek nd es) v) &&& (left &&& ~~~(1#64 <<< (v).toNat)))::vc 3 (.slice az 1 1) (([v]:List Int))::vk 3 an ap ((am6 done)++([v]:List Int))::vc 3 (.slice ak (replicate ((ek nd es).length) (default:Int)).length aj) (List.set (bq6 (ek nd es).length done) (v).toNat ((((max kk dd):Nat):Int)))::vc 3 (.slice ah (replicate ((ek nd es).length) (default:Int)).length ai) (s.2.1)::e8 b4 (cells (s.2.2:List (BitVec 64))) 208::vk 207 ad ae (ek nd es)::e8 b1 [e7 nd,va] 38::I) (λs=>(s.1<=(eo<|e_ (ek nd es) v &&& (left &&& ~~~(1#64 <<< (v).toNat))).length)/\(au3 (ek nd es).length (λu=>u∈eo (left &&& ~~~(1#64 <<< (v).toNat))) (cu4 (ek nd es) left (eo<|e_ (ek nd es) v &&& (left &&& ~~~(1#64 <<< (v).toNat))) s.1) s.2.1 s.2.2)) (λs=>(eo<|e_ (ek nd es) v &&& (left &&& ~~~(1#64 <<< (v).toNat))).length - s.1) (0,aq,List.set ab ((dd:Int)).toNat ((e_ ab dd) &&& ~~~(1#64 <<< (v).toNat))) (show ((0:Nat)<=(eo<|e_ (ek nd es) v &&& (left &&& ~~~(1#64 <<< (v).toNat))).length)/\(au3 (ek nd es).length (λu=>u∈eo (left &&& ~~~(1#64 <<< (v).toNat))) (cu4 (ek nd es) left (eo<|e_ (ek nd es) v &&& (left &&& ~~~(1#64 <<< (v).toNat))) (0:Nat)) (aq:List Int) (List.set ab ((dd:Int)).toNat ((e_ ab dd) &&& ~~~(1#64 <<< (v).toNat)):List (BitVec 64))) from ⟨om,((av.drop ay bo om<|λu=>M5 om).congr (λu=>Iff.rfl) (λu _=>dk3 _ _ _ u))⟩) (cx4<|cx4<|Aa C<|Aa Cn Bb) (show Fit κ _ (vk 3 ar au (eo<|(e_ (ek nd es) v) &&& (left &&& ~~~(1#64 <<< (v).toNat)))::vc 3 (.slice az 1 1) (([v]:List Int))::vk 3 an ap ((am6 done)++([v]:List Int))::vc 3 (.slice ak (replicate ((ek nd es).length) (default:Int)).length aj) (List.set (bq6 (ek nd es).length done) (v).toNat ((((max kk dd):Nat):Int)))::vc 3 (.slice ah (replicate ((ek nd es).length) (default:Int)).length ai) ((aq))::e8 b4 (cells ((List.set ab ((dd:Int)).toNat ((e_ ab dd) &&& ~~~(1#64 <<< (v).toNat))):List (BitVec 64))) 208::vk 207 ad ae (ek nd es)::e8 b1 [e7 nd,va] 38::I) from Ai) ?_
   rintro ⟨j,M,aa⟩ hp
   dsimp only at hp ⊢
   obtain ⟨hj,ax⟩:=hp
   have b3:=ax.ft1
   have bt:=ax.ft3
   have bw:(eo<|e_ (ek nd es) v &&& (left &&& ~~~(1#64 <<< (v).toNat))).length<=64:=Et _
   have bi:j<(eo<|e_ (ek nd es) v &&& (left &&& ~~~(1#64 <<< (v).toNat))).length->(e_ (eo<|e_ (ek nd es) v &&& (left &&& ~~~(1#64 <<< (v).toNat))) (j:Int))∈eo (left &&& ~~~(1#64 <<< (v).toNat))/\(e_ (eo<|e_ (ek nd es) v &&& (left &&& ~~~(1#64 <<< (v).toNat))) (j:Int))∈eo (e_ (ek nd es) v):=λh=>by have h1:=Bn (xs:=(eo<|e_ (ek nd es) v &&& (left &&& ~~~(1#64 <<< (v).toNat)))) (i:=(j:Int)) om om;exact ⟨(K2.1 h1).2,(K2.1 h1).1⟩
   refine Am<|Gr (Bj C C)<|Ar<|Ay<|Al C (λbn=>?_)<|λbn=>?_
   ·refine Bc (Ao<|Ay<|A8<|Am<|Gr (A2 (α:=Int) (xs:=eo ((e_ (ek nd es) v) &&& (left &&& ~~~(1#64 <<< (v).toNat)))) Ab ef C C A5 om oo)<|Gr (B8 (xs:=eo ((e_ (ek nd es) v) &&& (left &&& ~~~(1#64 <<< (v).toNat)))) ef C A5 om oo)<|Ga C ?_)
    have a0:=bi om
    have ca:=ax.rng (e_ (eo<|e_ (ek nd es) v &&& (left &&& ~~~(1#64 <<< (v).toNat))) (j:Int)) a0.1
    have a1:=ax.deg (e_ (eo<|e_ (ek nd es) v &&& (left &&& ~~~(1#64 <<< (v).toNat))) (j:Int)) a0.1
    have a5:=a1
    have bc:=dz7 (rows:=ek nd es) (left:=left) (ws:=(eo<|e_ (ek nd es) v &&& (left &&& ~~~(1#64 <<< (v).toNat)))) (j:=j) om (Df _)
    have bp:(e_ (eo<|e_ (ek nd es) v &&& (left &&& ~~~(1#64 <<< (v).toNat))) (j:Int))∈eo left:=((M5 om).1 a0.1).1
    have bu:=aw (e_ (eo<|e_ (ek nd es) v &&& (left &&& ~~~(1#64 <<< (v).toNat))) (j:Int)) bp
    have ce:1<=Q1 (ek nd es) left (e_ (eo<|e_ (ek nd es) v &&& (left &&& ~~~(1#64 <<< (v).toNat))) (j:Int)):=Kl (K2.2 ⟨hS.sym v (e_ (eo<|e_ (ek nd es) v &&& (left &&& ~~~(1#64 <<< (v).toNat))) (j:Int)) om om a0.2,ay⟩)
    rw [bc] at a5
    refine Ar<|A0 (S11 14 2 3 4 5 6 9 10 90 91 92 C C C C C C C C C C C)<|Ay<|A9 mixed<|Bx (vk 3 ar au (eo<|(e_ (ek nd es) v) &&& (left &&& ~~~(1#64 <<< (v).toNat)))::vc 3 (.slice az 1 1) (([v]:List Int))::vk 3 an ap ((am6 done)++([v]:List Int))::vc 3 (.slice ak (replicate ((ek nd es).length) (default:Int)).length aj) (List.set (bq6 (ek nd es).length done) (v).toNat ((((max kk dd):Nat):Int)))::vc 3 (.slice ah (replicate ((ek nd es).length) (default:Int)).length ai) (M)::e8 b4 (cells (aa:List (BitVec 64))) 208::vk 207 ad ae (ek nd es)::e8 b1 [e7 nd,va] 38::I) 10<|Dr 0 C (Aq C)<|Dr 1 C (Aq C)<|Dr 2 C (A2 (α:=Int) (xs:=M) Ab ef C C A5 om oo)<|Dr 3 C (B8 (xs:=M) ef C A5 om oo)<|Dr 4 C (B5 C6 M3 C C om oo)<|Dr 5 C (Fp (xs:=aa) M3 C (Dm mm) om oo)<|Dr 6 C (Aq C)<|Ds1 7<|Se C (Ac c_ C C<|ac3<|e_ (eo<|(e_ (ek nd es) v) &&& (left &&& ~~~(1#64 <<< (v).toNat))) (j:Int)) ?_
    rintro _ _ ⟨_,_,⟨rfl,rfl⟩,rfl,rfl⟩
    refine ⟨Ah,?_⟩
    refine Dr 8 C (E0 (a:=e_ aa (e_ M<|e_ (eo<|(e_ (ek nd es) v) &&& (left &&& ~~~(1#64 <<< (v).toNat))) (j:Int))) (b:=H8 (e_ (eo<|(e_ (ek nd es) v) &&& (left &&& ~~~(1#64 <<< (v).toNat))) (j:Int))) C C)<|Dr 9 C (B5 C6 M3 C C om oo)<|Cg kr ?_
    refine Ae 10 C (Eff.du0 (xs:=aa) (i:=e_ M (e_ (eo<|(e_ (ek nd es) v) &&& (left &&& ~~~(1#64 <<< (v).toNat))) (j:Int))) (n:=(e_ aa<|e_ M<|e_ (eo<|(e_ (ek nd es) v) &&& (left &&& ~~~(1#64 <<< (v).toNat))) (j:Int)) &&& ~~~(H8<|e_ (eo<|(e_ (ek nd es) v) &&& (left &&& ~~~(1#64 <<< (v).toNat))) (j:Int))) M3 C C C om oo am) ?_
    rintro _ _ ⟨rfl,rfl⟩
    refine Ch kr ?_
    refine Ao<|A0 (S11 14 2 3 4 5 6 9 10 90 91 92 C C C C C C C C C C C)<|Am<|Gm C<|Gm C<|Gr (A2 (α:=Int) (xs:=M) Ab ef C C A5 om oo)<|Gr (B8 (xs:=M) ef C A5 om oo)<|Gr (Rsu C C)<|Gr (A2 (α:=Int) (xs:=M) Ab ef C C A5 om oo)<|Ge0 (Cv (α:=Int) (xs:=M) (e:=3) (new:=(e_ M<|e_ (eo<|(e_ (ek nd es) v) &&& (left &&& ~~~(1#64 <<< (v).toNat))) (j:Int)) - 1) ef C C C om oo am) ?_
    have a4:e_ (List.set M (e_ (eo<|(e_ (ek nd es) v) &&& (left &&& ~~~(1#64 <<< (v).toNat))) (j:Int)).toNat ((e_ M<|e_ (eo<|(e_ (ek nd es) v) &&& (left &&& ~~~(1#64 <<< (v).toNat))) (j:Int)) - 1)) (e_ (eo<|e_ (ek nd es) v &&& (left &&& ~~~(1#64 <<< (v).toNat))) (j:Int))=e_ M (e_ (eo<|e_ (ek nd es) v &&& (left &&& ~~~(1#64 <<< (v).toNat))) (j:Int)) - 1:=by rw [Eh _ _ _ _ om om om,B_ rfl]
    refine Ar<|A0 (S11 14 2 3 4 5 6 9 10 90 91 92 C C C C C C C C C C C)<|A9 mixed<|Bx (vk 3 ar au (eo<|(e_ (ek nd es) v) &&& (left &&& ~~~(1#64 <<< (v).toNat)))::vc 3 (.slice az 1 1) (([v]:List Int))::vk 3 an ap ((am6 done)++([v]:List Int))::vc 3 (.slice ak (replicate ((ek nd es).length) (default:Int)).length aj) (List.set (bq6 (ek nd es).length done) (v).toNat ((((max kk dd):Nat):Int)))::vc 3 (.slice ah (replicate ((ek nd es).length) (default:Int)).length ai) (List.set M (e_ (eo<|(e_ (ek nd es) v) &&& (left &&& ~~~(1#64 <<< (v).toNat))) (j:Int)).toNat ((e_ M<|e_ (eo<|(e_ (ek nd es) v) &&& (left &&& ~~~(1#64 <<< (v).toNat))) (j:Int)) - 1))::e8 b4 (cells (List.set aa (e_ M<|e_ (eo<|(e_ (ek nd es) v) &&& (left &&& ~~~(1#64 <<< (v).toNat))) (j:Int)).toNat ((e_ aa<|e_ M<|e_ (eo<|(e_ (ek nd es) v) &&& (left &&& ~~~(1#64 <<< (v).toNat))) (j:Int)) &&& ~~~(H8<|e_ (eo<|(e_ (ek nd es) v) &&& (left &&& ~~~(1#64 <<< (v).toNat))) (j:Int))):List (BitVec 64))) 208::vk 207 ad ae (ek nd es)::e8 b1 [e7 nd,va] 38::I) 10<|Dr 0 C (Aq C)<|Dr 1 C (Aq C)<|Dr 2 C (A2 (α:=Int) (xs:=List.set M (e_ (eo<|(e_ (ek nd es) v) &&& (left &&& ~~~(1#64 <<< (v).toNat))) (j:Int)).toNat ((e_ M<|e_ (eo<|(e_ (ek nd es) v) &&& (left &&& ~~~(1#64 <<< (v).toNat))) (j:Int)) - 1)) Ab ef C C A5 om oo)<|Dr 3 C (B8 (xs:=List.set M (e_ (eo<|(e_ (ek nd es) v) &&& (left &&& ~~~(1#64 <<< (v).toNat))) (j:Int)).toNat ((e_ M<|e_ (eo<|(e_ (ek nd es) v) &&& (left &&& ~~~(1#64 <<< (v).toNat))) (j:Int)) - 1)) ef C A5 om oo)<|Dr 4 C (B5 C6 M3 C C om oo)<|Dr 5 C (Fp (xs:=List.set aa (e_ M<|e_ (eo<|(e_ (ek nd es) v) &&& (left &&& ~~~(1#64 <<< (v).toNat))) (j:Int)).toNat ((e_ aa<|e_ M<|e_ (eo<|(e_ (ek nd es) v) &&& (left &&& ~~~(1#64 <<< (v).toNat))) (j:Int)) &&& ~~~(H8<|e_ (eo<|(e_ (ek nd es) v) &&& (left &&& ~~~(1#64 <<< (v).toNat))) (j:Int)))) M3 C (Dm mm) om oo)<|Dr 6 C (Aq C)<|Ds1 7<|Se C (Ac c_ C C<|ac3<|e_ (eo<|(e_ (ek nd es) v) &&& (left &&& ~~~(1#64 <<< (v).toNat))) (j:Int)) ?_
    rintro _ _ ⟨_,_,⟨rfl,rfl⟩,rfl,rfl⟩
    refine ⟨Ah,?_⟩
    refine Dr 8 C (Eb (a:=e_ (List.set aa (e_ M<|e_ (eo<|(e_ (ek nd es) v) &&& (left &&& ~~~(1#64 <<< (v).toNat))) (j:Int)).toNat ((e_ aa<|e_ M<|e_ (eo<|(e_ (ek nd es) v) &&& (left &&& ~~~(1#64 <<< (v).toNat))) (j:Int)) &&& ~~~(H8<|e_ (eo<|(e_ (ek nd es) v) &&& (left &&& ~~~(1#64 <<< (v).toNat))) (j:Int)))) (e_ (List.set M (e_ (eo<|(e_ (ek nd es) v) &&& (left &&& ~~~(1#64 <<< (v).toNat))) (j:Int)).toNat ((e_ M<|e_ (eo<|(e_ (ek nd es) v) &&& (left &&& ~~~(1#64 <<< (v).toNat))) (j:Int)) - 1))<|e_ (eo<|(e_ (ek nd es) v) &&& (left &&& ~~~(1#64 <<< (v).toNat))) (j:Int))) (b:=H8 (e_ (eo<|(e_ (ek nd es) v) &&& (left &&& ~~~(1#64 <<< (v).toNat))) (j:Int))) C C)<|Dr 9 C (B5 C6 M3 C C om oo)<|Cg kr ?_
    refine Ae 10 C (Eff.du0 (xs:=List.set aa (e_ M<|e_ (eo<|(e_ (ek nd es) v) &&& (left &&& ~~~(1#64 <<< (v).toNat))) (j:Int)).toNat ((e_ aa<|e_ M<|e_ (eo<|(e_ (ek nd es) v) &&& (left &&& ~~~(1#64 <<< (v).toNat))) (j:Int)) &&& ~~~(H8<|e_ (eo<|(e_ (ek nd es) v) &&& (left &&& ~~~(1#64 <<< (v).toNat))) (j:Int)))) (i:=e_ (List.set M (e_ (eo<|(e_ (ek nd es) v) &&& (left &&& ~~~(1#64 <<< (v).toNat))) (j:Int)).toNat ((e_ M<|e_ (eo<|(e_ (ek nd es) v) &&& (left &&& ~~~(1#64 <<< (v).toNat))) (j:Int)) - 1)) (e_ (eo<|(e_ (ek nd es) v) &&& (left &&& ~~~(1#64 <<< (v).toNat))) (j:Int))) (n:=(e_ (List.set aa (e_ M<|e_ (eo<|(e_ (ek nd es) v) &&& (left &&& ~~~(1#64 <<< (v).toNat))) (j:Int)).toNat ((e_ aa<|e_ M<|e_ (eo<|(e_ (ek nd es) v) &&& (left &&& ~~~(1#64 <<< (v).toNat))) (j:Int)) &&& ~~~(H8<|e_ (eo<|(e_ (ek nd es) v) &&& (left &&& ~~~(1#64 <<< (v).toNat))) (j:Int))))<|e_ (List.set M (e_ (eo<|(e_ (ek nd es) v) &&& (left &&& ~~~(1#64 <<< (v).toNat))) (j:Int)).toNat ((e_ M<|e_ (eo<|(e_ (ek nd es) v) &&& (left &&& ~~~(1#64 <<< (v).toNat))) (j:Int)) - 1))<|e_ (eo<|(e_ (ek nd es) v) &&& (left &&& ~~~(1#64 <<< (v).toNat))) (j:Int)) ||| (H8<|e_ (eo<|(e_ (ek nd es) v) &&& (left &&& ~~~(1#64 <<< (v).toNat))) (j:Int))) M3 C C C om oo am) ?_
    rintro _ _ ⟨rfl,rfl⟩
    refine Ch kr ?_
    exact Av<|Ao<|A0 (S10 2 3 4 5 6 9 10 90 91 92)<|Ba<|Gr (Rad C C)<|Gm C<|Bs<|Bt ((j+1),(List.set M (e_ (eo<|(e_ (ek nd es) v) &&& (left &&& ~~~(1#64 <<< (v).toNat))) (j:Int)).toNat ((e_ M<|e_ (eo<|(e_ (ek nd es) v) &&& (left &&& ~~~(1#64 <<< (v).toNat))) (j:Int)) - 1)),(List.set (List.set aa (e_ M<|e_ (eo<|(e_ (ek nd es) v) &&& (left &&& ~~~(1#64 <<< (v).toNat))) (j:Int)).toNat ((e_ aa<|e_ M<|e_ (eo<|(e_ (ek nd es) v) &&& (left &&& ~~~(1#64 <<< (v).toNat))) (j:Int)) &&& ~~~(H8<|e_ (eo<|(e_ (ek nd es) v) &&& (left &&& ~~~(1#64 <<< (v).toNat))) (j:Int)))) (e_ (List.set M (e_ (eo<|(e_ (ek nd es) v) &&& (left &&& ~~~(1#64 <<< (v).toNat))) (j:Int)).toNat ((e_ M<|e_ (eo<|(e_ (ek nd es) v) &&& (left &&& ~~~(1#64 <<< (v).toNat))) (j:Int)) - 1))<|e_ (eo<|(e_ (ek nd es) v) &&& (left &&& ~~~(1#64 <<< (v).toNat))) (j:Int)).toNat ((e_ (List.set aa (e_ M<|e_ (eo<|(e_ (ek nd es) v) &&& (left &&& ~~~(1#64 <<< (v).toNat))) (j:Int)).toNat ((e_ aa<|e_ M<|e_ (eo<|(e_ (ek nd es) v) &&& (left &&& ~~~(1#64 <<< (v).toNat))) (j:Int)) &&& ~~~(H8<|e_ (eo<|(e_ (ek nd es) v) &&& (left &&& ~~~(1#64 <<< (v).toNat))) (j:Int))))<|e_ (List.set M (e_ (eo<|(e_ (ek nd es) v) &&& (left &&& ~~~(1#64 <<< (v).toNat))) (j:Int)).toNat ((e_ M<|e_ (eo<|(e_ (ek nd es) v) &&& (left &&& ~~~(1#64 <<< (v).toNat))) (j:Int)) - 1))<|e_ (eo<|(e_ (ek nd es) v) &&& (left &&& ~~~(1#64 <<< (v).toNat))) (j:Int)) ||| (H8<|e_ (eo<|(e_ (ek nd es) v) &&& (left &&& ~~~(1#64 <<< (v).toNat))) (j:Int)))))<|by dsimp only;exact ⟨om,(by have hN:=ax.lower om (w:=(e_ (eo<|e_ (ek nd es) v &&& (left &&& ~~~(1#64 <<< (v).toNat))) (j:Int))) (e:=e_ M (e_ (eo<|e_ (ek nd es) v &&& (left &&& ~~~(1#64 <<< (v).toNat))) (j:Int))) a0.1 a1.symm om om (dg':=cu4 (ek nd es) left (eo<|e_ (ek nd es) v &&& (left &&& ~~~(1#64 <<< (v).toNat))) (j+1)) (λu _=>by8 om (Df _) u);rw [a4,ca0 om om];exact hN)⟩
   exact Ck<|Aw<|Aw<|Bi<|Ao<|Ck<|V.aw8 C<|Aw<|Aw<|V.aw8 C<|Bi<|Bt ((done++[(v,max kk dd)]),((left &&& ~~~(1#64 <<< (v).toNat))),(max kk dd),(M),(aa),(an),(ap)) (by dsimp only;exact ⟨(dk5 hc bf om),(ax.congr (λu=>Iff.rfl) (λu hu=>by have hr:=ax.rng u hu;exact (dz8 hS om om ay hr.1 hr.2 hu om).symm)),(by have:=aa7 ay;simp only [By,E_,Fw];omega),om⟩) (hlt:=by (try dsimp only);exact (by have:=aa7 ay;omega)) (hL:=(Aa (Db C<|by first|rfl|(rw [ai3])|simp)<|cx4<|Aa (Db C<|by first|rfl|(rw [ai3])|simp)<|Aa C Bb)) (hI:=by (try dsimp only);exact (by rw [ai3,df4];exact Az))
  exact (av.some (Fv.1<|λh=>h asm) aw<|λc h1 h2=>hz c h1 om).elim
 refine Ck<|Aw<|Aw<|Bi<|Ao<|Am<|Gm C<|Gm C<|Ga C<|Ga C<|Ar<|B2<|V.dx5 ?_
 have bk:left=0#64:=Fv.1 a9
 have bq:done=bf6 nd es:=by rw [←hc,bk,bm4,Gt]
 subst bq
 have a6:=as7 nd es
 exact C3 C C C (vk 3 ao co (fo1 nd es)::vk 3 ak aj (dk9 nd es)::I) (by unfold vk;rw [a6];simp only [F_];exact Az) ⟨ao,co,ak,aj,by rw [a6];simp only [F_];rfl,rfl⟩
end Go.Sl
namespace Go.Sl
open Go.Proofs
set_option maxRecDepth 4000
attribute [local irreducible] W G V D A j7 Eff
theorem bh8{κ:Ctx}{I:List Item}{nd:Int}{va:Value}{es:List Pt}(hl:Sl κ I va es)(hT:F4 κ I 0 p5):eu prog κ 83 [.agg #[e7 nd,va]] I (λr J=>∃a c,r = .tuple #[.slice a (j9 nd es).length c,e7 (F6 nd es)]/\J=vk 3 a c (j9 nd es)::I):=by
 refine Ce1 Tryz.func83 C C ?_
 refine Am<|Ge1 (Au (cs:=[_,_]) C C C) λb1=>Z ?_
 refine Gc0 (Ac c_ C C<|V0<|A4 hl)<|Z ?_
 refine Al C (λc10=>Z ?_)<|λc10=>Z ?_
 ·have hX:(j9 nd es)=[]:=B_ c10
  exact C3 C C C (vk 3 none 0 (j9 nd es)::I) (by unfold vk;rw [hX];exact A7 (show Fit κ _ I from Ah)<|B6 (α:=Int) _ _) ⟨none,0,by rw [hX];rfl,rfl⟩
 refine G.e (Ac c_ C C<|fg8 (nd:=nd) (A4 hl) (s4.1<|Fv.1 c10)<|A6 hT Ah) ?_
 rintro _ _ ⟨_,_,⟨ab,ad,M,aa,rfl,rfl⟩,rfl,rfl⟩
 refine Z ?_
 have hX:(j9 nd es)=_:=An c10
 have hz:F6 nd es=0:=Fv.1 c10
 exact C3 C C C (vk 3 M aa (j9 nd es)::I) (by unfold vk;rw [hX];exact Ai) ⟨M,aa,by rw [hX,hz]<;>rfl,rfl⟩
theorem bz2(nd:Int)(es:List Pt):(j9 nd es).length<=64:=by
 unfold j9
 split
 ·simp
 rw [as7,ad6];omega
end Go.Sl
namespace Go.Sl
open Go.Proofs
set_option maxRecDepth 4000
end Go.Sl
