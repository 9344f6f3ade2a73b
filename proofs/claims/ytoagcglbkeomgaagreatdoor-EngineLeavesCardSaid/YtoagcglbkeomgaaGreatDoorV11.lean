/- A part of the proofs of statements of this seat: contracts of functions, and the plain laws that they lean on. No conditions. -/
import Derived.Test.YtoagcglbkeomgaaGreatDoorV10
set_option linter.unusedVariables false
set_option linter.unusedSimpArgs false
set_option linter.unusedSectionVars false
open Go.Proofs.Tryz (prog)
open List (replicate)
namespace Go.Sl
variable{M a b c d0 d2 m1 m2 m3 n n4 n5 n6 u:Nat}
def W4:List Nat->Nat
 |[]=>0
 |b::bs=>2 ^ 8*W4 bs+b
theorem bh3{d:Nat}(hb:b<2 ^ 8)(M:d<2 ^ 8):(2 ^ 8*a+b) &&& (2 ^ 8*c+d)=2 ^ 8*(a &&& c)+(b &&& d):=by
 refine Nat.eq_of_testBit_eq λj=>?_
 rw [Nat.testBit_and,Jx _ hb,Jx _ M,Jx _<|Nat.and_lt_two_pow _ M]
 by_cases h:j<8
 ·rw [B_ h,B_ h,B_ h,Nat.testBit_and]
 rw [An h,An h,An h,Nat.testBit_and]
def cd9(c:Nat)(k:Nat):Nat:=W4 (replicate k c)
theorem ar0(c k:Nat):cd9 c (k+1)=2 ^ 8*cd9 c k+c:=rfl
def p1(b:Nat):Nat:=((b / 2) &&& 85)+(b &&& 85)
def p2(b:Nat):Nat:=((b / 4) &&& 51)+(b &&& 51)
def p3(b:Nat):Nat:=(b / 16+b) % 16
theorem c1:∀t:Fin 2,∀x:Fin 128,(128*t.val+x.val) &&& 85=x.val &&& 85:=by decide+kernel
theorem c2:∀t:Fin 4,∀x:Fin 64,(64*t.val+x.val) &&& 51=x.val &&& 51:=by decide+kernel
theorem b1:∀b:Fin 256,p1 b.val<256/\p2 (p1 b.val) % 16<=4/\p2 (p1 b.val) / 16<=4/\p3 (p2 (p1 b.val))<=8/\p3 (p2 (p1 b.val))=((List.range 8).filter λj=>b.val.testBit j).length:=by decide+kernel
theorem fw7:∀bs:List Nat,(∀b∈bs,b<256)->((W4 bs / 2) &&& cd9 85 bs.length)+(W4 bs &&& cd9 85 bs.length)=W4 (bs.map p1)
 |[],_=>rfl
 |b::bs,h=>by
  have hb:=h b A_
  have ih:=fw7 bs λx hx=>h x (C_ _ hx)
  rw [E_,ar0,Hg]
  simp only [W4]
  have e:(2 ^ 8*W4 bs+b) / 2=2 ^ 8*(W4 bs / 2)+(128*(W4 bs % 2)+b / 2):=by omega
  have M:=c1 ⟨W4 bs % 2,by omega⟩ ⟨b / 2,by omega⟩
  simp only at M
  rw [e,bh3 (by omega)<|by decide,bh3 (by omega)<|by decide,M]
  rw [show p1 b=(b / 2 &&& 85)+(b &&& 85) from rfl]
  omega
theorem fw6:∀bs:List Nat,(∀b∈bs,b<256)->((W4 bs / 4) &&& cd9 51 bs.length)+(W4 bs &&& cd9 51 bs.length)=W4 (bs.map p2)
 |[],_=>rfl
 |b::bs,h=>by
  have hb:=h b A_
  have ih:=fw6 bs λx hx=>h x (C_ _ hx)
  rw [E_,ar0,Hg]
  simp only [W4]
  have e:(2 ^ 8*W4 bs+b) / 4=2 ^ 8*(W4 bs / 4)+(64*(W4 bs % 4)+b / 4):=by omega
  have M:=c2 ⟨W4 bs % 4,by omega⟩ ⟨b / 4,by omega⟩
  simp only at M
  rw [e,bh3 (by omega)<|by decide,bh3 (by omega)<|by decide,M]
  rw [show p2 b=(b / 4 &&& 51)+(b &&& 51) from rfl]
  omega
theorem fw5:∀bs:List Nat,(∀b∈bs,b % 16<=4/\b / 16<=4)->(W4 bs / 16+W4 bs) &&& cd9 15 bs.length=W4 (bs.map p3)
 |[],_=>rfl
 |b::bs,h=>by
  have hb:=h b A_
  have ih:=fw5 bs λx M=>h x (C_ _ M)
  have hn:W4 bs % 16<=4:=by
   cases bs with
   |nil=>simp [W4]
   |cons c cs=>
    have:=(h c<|C_ _ A_).1
    simp only [W4];omega
  rw [E_,ar0,Hg]
  simp only [W4]
  have e:(2 ^ 8*W4 bs+b) / 16+(2 ^ 8*W4 bs+b)=2 ^ 8*(W4 bs / 16+W4 bs)+(16*(W4 bs % 16)+b / 16+b):=by omega
  rw [e,bh3 (by omega)<|by decide,ih,show (15:Nat)=2 ^ 4 - 1 by decide,Nat.and_two_pow_sub_one_eq_mod]
  rw [show p3 b=(b / 16+b) % 16 from rfl]
  omega
def bh1(n:Nat):Nat->List Nat
 |0=>[]
 |k+1=>n % 256::bh1 (n / 256) k
theorem cv9(n k:Nat):(bh1 n k).length=k:=by
 induction k generalizing n with
 |zero=>rfl
 |succ k ih=>simp [bh1,ih]
theorem dn6(n k:Nat):∀b∈bh1 n k,b<256:=by
 induction k generalizing n with
 |zero=>intro b hb;cases hb
 |succ k ih=>
  intro b hb
  rcases Fw.1 hb with rfl|hb
  ·omega
  exact ih _ b hb
theorem bn9:∀(k n:Nat),n<256 ^ k->W4 (bh1 n k)=n
 |0,n,h=>by simp at h;subst h;rfl
 |k+1,n,h=>by
  rw [Nat.pow_succ] at h
  simp only [bh1,W4]
  rw [bn9 k (n / 256) (by omega)]
  omega
def cr9:List Nat->Nat
 |[]=>0
 |b::bs=>b+cr9 bs
theorem dm8:∀bs:List Nat,(∀b∈bs,b<256)->((List.range (8*bs.length)).filter λj=>(W4 bs).testBit j).length=cr9 (bs.map λb=>p3 (p2 (p1 b)))
 |[],_=>rfl
 |b::bs,h=>by
  have M:=h b A_
  have ih:=dm8 bs λx hx=>h x (C_ _ hx)
  rw [E_,show 8*(bs.length+1)=8+8*bs.length by omega,List.range_add,Gj,By,Hg]
  simp only [cr9,W4]
  rw [←ih,(b1 ⟨b,M⟩).2.2.2.2,Lb,F_]
  congr 2
  ·refine Ht λj hj=>?_
   rw [Jx _ M,B_<|Hz.1 hj]
  refine Ht λj hj=>?_
  show (2 ^ 8*W4 bs+b).testBit (8+j)=_
  rw [Jx _ M,An<|by omega,Kg]
theorem gh4(h0:d0<=8)(h1:M<=8)(h2:d2<=8)(en:n=d0+256*M+65536*m2)(e1:m1=M+256*d2+65536*m3)(h4:n4=n+m1) :
  n4=(d0+M)+256*(M+d2)+65536*(m2+m3)/\n4 / 65536=m2+m3:=by omega
theorem gh3(M:a<=16)(hb:b<=16)(hc:c<65536)(h4:n4=a+256*b+65536*(c+65536*u))(h5:n5=n4+(c+65536*u)):n5=a+256*b+c+65536*(c+u)+4294967296*u:=by omega
theorem gh2{x s t:Nat}(M:x<65536)(hc:c<=5000)(hs:s<=5000)(hu:u=s+65536*t)(h5:n5=x+65536*(c+u)+4294967296*u):n5 / 4294967296=u+t:=by omega
theorem dy7{d1 d4 d5 d6 d7 m4 m5 m6:Nat}(h0:d0<=8)(h1:d1<=8)(h2:d2<=8)(h3:M<=8)(h4:d4<=8)(h5:d5<=8)(h6:d6<=8)(h7:d7<=8)
  (e6:m6=d6+256*d7) (e5:m5=d5+256*d6+65536*d7) (e4:m4=d4+256*d5+65536*m6) (e3:m3=M+256*d4+65536*m5) (e2:m2=d2+256*M+65536*m4) (e1:m1=d1+256*d2+65536*m3) (e0:n=d0+256*d1+65536*m2)
  (g4:n4=n+m1) (g5:n5=n4+n4 / 65536) (g6:n6=n5+n5 / 4294967296):n6 % 128=d0+d1+d2+M+d4+d5+d6+d7:=by
 obtain ⟨a1,a2⟩:=gh4 h0 h1 h2 e0 e1 g4
 have hc:m2+m3=((d2+M)+256*(M+d4))+65536*(m4+m5):=by clear e0 e1 e4 e5 e6 g4 g5 g6 a1 a2;omega
 have hu:m4+m5=((d4+d5)+256*(d5+d6))+65536*(m6+d7):=by clear e0 e1 e2 e3 e6 g4 g5 g6 a1 a2 hc;omega
 rw [a2,hc] at g5
 rw [hc] at a1
 have b1:=gh3 (by omega) (by omega) (by omega) a1 g5
 have b2:=gh2 (x:=d0+d1+256*(d1+d2)+((d2+M)+256*(M+d4))) (by omega) (by omega) (by omega) hu b1
 rw [b2] at g6
 clear b2 a2 hc e0 e1 e2 e3 e4 e5 g4 g5 a1
 omega
theorem dy8{bs:List Nat}(hl:bs.length=8)(hb:∀b∈bs,b<=8)(hn:n=W4 bs)(M:n4=n+n / 256)(g5:n5=n4+n4 / 65536)(g6:n6=n5+n5 / 4294967296):n6 % 128=cr9 bs/\n6<18446744073709551616:=by
 match bs,hl with
 |[d0,d1,d2,d3,d4,d5,d6,d7],_=>
  have k0:=hb d0 (by simp)
  have k1:=hb d1 (by simp)
  have k2:=hb d2 (by simp)
  have k3:=hb d3 (by simp)
  have k4:=hb d4 (by simp)
  have k5:=hb d5 (by simp)
  have k6:=hb d6 (by simp)
  have k7:=hb d7 (by simp)
  obtain ⟨m6,e6⟩:∃m6,m6=d6+256*d7:=⟨_,rfl⟩
  obtain ⟨m5,e5⟩:∃m5,m5=d5+256*d6+65536*d7:=⟨_,rfl⟩
  obtain ⟨m4,e4⟩:∃m4,m4=d4+256*d5+65536*m6:=⟨_,rfl⟩
  obtain ⟨m3,e3⟩:∃m3,m3=d3+256*d4+65536*m5:=⟨_,rfl⟩
  obtain ⟨m2,e2⟩:∃m2,m2=d2+256*d3+65536*m4:=⟨_,rfl⟩
  obtain ⟨m1,e1⟩:∃m1,m1=d1+256*d2+65536*m3:=⟨_,rfl⟩
  have e0:n=d0+256*d1+65536*m2:=by rw [hn];simp only [W4];omega
  have ed:n / 256=m1:=by
   have:n=d0+256*m1:=by clear M g5 g6;rw [hn];simp only [W4];omega
   clear e0 e1 e2 e3 e4 e5 e6 M g5 g6 hn
   omega
  rw [ed] at M
  refine ⟨?_,?_⟩
  ·rw [dy7 k0 k1 k2 k3 k4 k5 k6 k7 e6 e5 e4 e3 e2 e1 e0 M g5 g6];simp only [cr9];omega
  have q6:m6<=2056:=by omega
  have q5:m5<=526344:=by omega
  have q4:m4<=134744072:=by clear M g5 g6 hn e0 e1 e2 e3 ed;omega
  have q3:m3<=34494482440:=by clear M g5 g6 hn e0 e1 e2 e4 ed;omega
  have q2:m2<=8830587504648:=by clear M g5 g6 hn e0 e1 e3 e4 e5 e6 ed;omega
  have q1:m1<=2260630401189896:=by clear M g5 g6 hn e0 e2 e4 e5 e6 ed;omega
  have q0:n<=578721382704613384:=by clear M g5 g6 hn e1 e3 e4 e5 e6 ed;omega
  clear e0 e1 e2 e3 e4 e5 e6 hn ed
  omega
theorem bp0:∀bs:List Nat,(∀b∈bs,b<=c)->W4 bs<=cd9 c bs.length
 |[],_=>Gd _
 |b::bs,h=>by
  have ih:=bp0 bs λx M=>h x (C_ _ M)
  have hb:=h b A_
  rw [E_,ar0]
  simp only [W4]
  omega
end Go.Sl
namespace Go.Sl
open Go.Proofs
set_option maxRecDepth 4000
variable{m:BitVec 64}{bs:List Nat}{xs ys:List Int}{x:Int}
variable {κ:Ctx}{I:List Item}
attribute [local irreducible] W G V D A j8 Eff
theorem dt4(m:BitVec 64):0<=az2.getD (db3 m) 0/\az2.getD (db3 m) 0<=64:=by
 have h:∀k:Fin 64,0<=az2.getD k.val 0/\az2.getD k.val 0<=64:=by decide+kernel
 exact h ⟨db3 m,cd6 m⟩
theorem gb6(m:BitVec 64)(hT:F4 κ I 0 p6):eu prog κ 177 [U64 m] I (λr J=>r=e7 (tzB m)/\I=J):=by
 refine Ce1 Tryz.func177 C C ?_
 refine Ak<|Ga C<|Ar<|Ax<|Ak<|Gm C<|Gr (j8.eqB (a:=m) (b:=0#64) C C)<|Ar<|Am C (λM=>?_)<|λM=>?_
 ·exact Ak<|Ga C<|Ar<|B3<|Ck<|Al C C I Ah ⟨by unfold tzB;rw [B_ M],rfl⟩
 exact Bc<|Ao<|Ak<|Gm C<|Gm C<|Gr (j8.negB (a:=m) C)<|Gr (Eh (a:=m) (b:= -m) C C)<|Gr (j8.mulB (a:=m &&& (-m)) (b:=285870213051353865#64) C C)<|Gr (Fh (a:=(m &&& (-m))*285870213051353865#64) C C om om)<|Gr (j8.fp0 (i:=db3 m) Tryz.underlying241 ty5 C C<|cd6 m)<|Gr (j8.fo1 ty5 C (A8 hT Ah)<|cr6 m)<|Gr (j8.fa9 Fg Cf C<|by unfold InR;have:=dt4 m;omega)<|Ga C<|Ar<|A1 (S1 2)<|B3<|Al C C I Ah ⟨by unfold tzB;rw [An M],rfl⟩
theorem ff6(m:BitVec 64)(M:F4 κ I 0 p6):eu prog κ 158 [U64 m] I (λr J=>r=e7 (tzB m)/\I=J):=by
 refine Ce1 Tryz.func158 C C<|Z ?_
 refine G.e (Ac c_ C C<|gb6 m<|A8 M Ah) ?_
 rintro _ _ ⟨_,_,⟨rfl,rfl⟩,rfl,rfl⟩
 exact Ga C<|Ar<|B3<|Al C C I Ah ⟨rfl,rfl⟩
theorem ac3(m:BitVec 64)(hT:F4 κ I 0 p6):eu prog κ 159 [U64 m] I (λr J=>∃a c,r = .slice a (eo m).length c/\J=vk 3 a c (eo m)::I):=by
 refine Ce1 Tryz.func159 C C<|Z ?_
 refine Dh (σ:=(BitVec 64)×(Option Addr)×Nat×(List Int)) (λs=>[(0,U64<|s.1),(3,.slice s.2.1 s.2.2.2.length s.2.2.1)]) (λs=>[vk 3 s.2.1 s.2.2.1 s.2.2.2]) (λs=>(eo m=s.2.2.2++eo s.1)) (λs=>(eo s.1).length) (m,none,0,[]) (show (eo m=([]:List Int)++eo (m:BitVec 64)) from rfl) (hI:=(B7 _ _)) ?_
 rintro ⟨n,a,c,out⟩ hp
 dsimp only at hp ⊢
 have ho:=hp
 have ae:=Fz List.length ho
 rw [By] at ae
 have ah:=Es m
 refine Ax<|Ak<|Gm C<|Gr (j8.neB (a:=n) (b:=0#64) C C)<|Ar<|Am C (λM=>Z ?_)<|λM=>Z ?_
 ·refine G.e (Ac c_ C C<|gb6 n<|A8 hT Ah) ?_
  rintro _ _ ⟨_,_,⟨rfl,rfl⟩,rfl,rfl⟩
  refine Ge1 (B2 (α:=Int) (cs:=[_]) (xs:=[tzB n]) Ab ef C C dc dc C C C C) λai=>?_
  refine Ge2 (Br (α:=Int) (e:=3) (xs:=out) (ys:=([tzB n]:List Int)) Ab ef C C C mm A5 lcn dc C<|λ_ _=>am) λab aa=>Z ?_
  exact Gr (j8.gj6 (a:=n) (b:=1#64) C C)<|Gr (Eh (a:=n) (b:=n - (1#64)) C C)<|Ga C<|Bq<|Bt ((n &&& (n - (1#64))),(ab),(aa),(out++([tzB n]:List Int))) (by dsimp only;exact (by rw [ho,ae3 M,Fr];rfl)) (hlt:=by (try dsimp only);exact (ct7 M))
 have ad:n=0#64:=Ft.1 M
 have hE:out=eo m:=by rw [ho,ad,D4,Gq]
 subst hE
 exact Al C C (vk 3 a c (eo m)::I) Ai ⟨a,c,rfl,rfl⟩
theorem df6(hl:bs.length=8)(hb:∀b∈bs,b<256)(hm:m.toNat=W4 bs):(dw4 m).toNat=W4 (bs.map p1):=by
 unfold dw4
 have M:W4 (bs.map p1)<=cd9 255 8:=by
  have:=bp0 (c:=255) (bs.map p1) λb h=>by obtain ⟨x,hx,rfl⟩:=Gv.1 h;have:=(b1 ⟨x,hb x hx⟩).1;simp only at this;omega
  rwa [F_,hl] at this
 rw [Jw,Kx,Kx,Hv,Hs,show 2 ^ (1:Int).toNat=2 from rfl,hm,show (6148914691236517205#64).toNat=cd9 85 bs.length by rw [hl];decide+kernel,fw7 bs hb]
 exact Ku<|Nat.lt_of_le_of_lt M<|by decide+kernel
theorem df5(hl:bs.length=8)(hb:∀b∈bs,b<256/\p2 b<256)(hm:m.toNat=W4 bs):(dw3 m).toNat=W4 (bs.map p2):=by
 unfold dw3
 have M:W4 (bs.map p2)<=cd9 255 8:=by
  have:=bp0 (c:=255) (bs.map p2) λb h=>by obtain ⟨x,hx,rfl⟩:=Gv.1 h;have:=(hb x hx).2;omega
  rwa [F_,hl] at this
 rw [Jw,Kx,Kx,Hv,Hs,show 2 ^ (2:Int).toNat=4 from rfl,hm,show (3689348814741910323#64).toNat=cd9 51 bs.length by rw [hl];decide+kernel,fw6 bs λb h=>(hb b h).1]
 exact Ku<|Nat.lt_of_le_of_lt M<|by decide+kernel
theorem df4(M:bs.length=8)(hb:∀b∈bs,b % 16<=4/\b / 16<=4)(hm:m.toNat=W4 bs):(bx6 m).toNat=W4 (bs.map p3):=by
 unfold bx6
 have aa:W4 bs<=cd9 68 8:=by
  have:=bp0 (c:=68) bs λb h=>by have:=hb b h;omega
  rwa [M] at this
 have hr:cd9 68 8=4919131752989213764:=by decide+kernel
 rw [Kx,Jw,Hv,Hs,show 2 ^ (4:Int).toNat=16 from rfl,hm,show (1085102592571150095#64).toNat=cd9 15 bs.length by rw [M];decide+kernel,Ku om,fw5 bs hb]
theorem br0(m:BitVec 64):ac7 m=((eo m).length:Int):=by
 unfold ac7
 have hl:=cv9 m.toNat 8
 have hlt:=dn6 m.toNat 8
 have hv:=bn9 8 m.toNat (Nat.lt_of_lt_of_le m.isLt dc)
 generalize bh1 m.toNat 8=bs at hl hlt hv
 have hb:=λb (h:b∈bs)=>b1 ⟨b,hlt b h⟩
 have e1:=df6 hl hlt hv.symm
 have e2:=df5 (bs:=bs.map p1) (by rw [F_,hl]) (λb h=>by obtain ⟨x,hx,rfl⟩:=Gv.1 h;have:=hb x hx;simp only at this;exact ⟨this.1,by omega⟩) e1
 have e3:=df4 (bs:=(bs.map p1).map p2) (by rw [F_,F_,hl]) (λb h=>by obtain ⟨y,hy,rfl⟩:=Gv.1 h;obtain ⟨x,hx,rfl⟩:=Gv.1 hy;have:=hb x hx;simp only at this;exact ⟨this.2.1,this.2.2.1⟩) e2
 generalize bx6 (dw3<|dw4 m)=a at e3
 have hc:W4 bs=m.toNat:=hv
 have M:=dm8 bs hlt
 obtain ⟨f1,f2⟩:=dy8 (n:=a.toNat) (n4:=a.toNat+a.toNat / 256) (n5:=a.toNat+a.toNat / 256+(a.toNat+a.toNat / 256) / 65536) (n6:=a.toNat+a.toNat / 256+(a.toNat+a.toNat / 256) / 65536+(a.toNat+a.toNat / 256+(a.toNat+a.toNat / 256) / 65536) / 4294967296)
  (bs:=((bs.map p1).map p2).map p3) (by rw [F_,F_,F_,hl]) (λb h=>by obtain ⟨z,hz,rfl⟩:=Gv.1 h;obtain ⟨y,hy,rfl⟩:=Gv.1 hz;obtain ⟨x,hx,rfl⟩:=Gv.1 hy;have:=hb x hx;simp only at this;exact this.2.2.2.1) e3 rfl rfl rfl
 have g4:(br1 a).toNat=a.toNat+a.toNat / 256:=by
  unfold br1;rw [Jw,Hv,Hs,show 2 ^ (8:Int).toNat=256 from rfl];exact Ku om
 have g5:(bx5<|br1 a).toNat=a.toNat+a.toNat / 256+(a.toNat+a.toNat / 256) / 65536:=by
  unfold bx5;rw [Jw,Hv,Hs,show 2 ^ (16:Int).toNat=65536 from rfl,g4];exact Ku om
 have g6:(ct0<|bx5<|br1 a).toNat=a.toNat+a.toNat / 256+(a.toNat+a.toNat / 256) / 65536+(a.toNat+a.toNat / 256+(a.toNat+a.toNat / 256) / 65536) / 4294967296:=by
  unfold ct0;rw [Jw,Hv,Hs,show 2 ^ (32:Int).toNat=4294967296 from rfl,g5];exact Ku om
 have hL:(eo m).length=cr9 (((bs.map p1).map p2).map p3):=by
  unfold eo be4
  rw [F_,List.map_map,List.map_map,show (λi=>m.getLsbD i)=λj=>(W4 bs).testBit j from by funext j;rw [hc];rfl]
  rw [hl] at M
  exact M
 rw [g6,hL,←f1]
 omega
variable {κ:Ctx}{I:List Item}
def Z9(xs ys:List Int):List Int:=(ofL xs).filter λx=>decide (x∈ys)
theorem T1:x∈Z9 xs ys↔x∈xs/\x∈ys:=by simp [Z9,af8]
def R7(n:Int):List Int:=(List.range (min n 64).toNat).map λj:Nat=>(j:Int)
theorem bm6{n:Int}:x∈R7 n↔0<=x/\x<n/\x<64:=by
 unfold R7
 rw [Gv]
 constructor
 ·rintro ⟨j,M,rfl⟩;rw [Hz] at M;omega
 rintro ⟨h1,h2,h3⟩;exact ⟨x.toNat,by rw [Hz];omega,by omega⟩
theorem dq7{u v:Value}(hu:Sl κ I u xs)(hv:Sl κ I v ys)(hb:xs.length<17592186044415):eu prog κ 100 [u,v] I (λr J=>∃a c,r = .slice a (Z9 xs ys).length c/\J=vk 3 a c (Z9 xs ys)::I):=by
 have ah:=bd7 xs
 refine Ce2 Tryz.func100 C C<|Z ?_
 refine Gc2 (Ac c_ C C<|fs7 (A4 hu) om) λai ak=>Z ?_
 refine Dh (σ:=Nat×(Option Addr)×Nat×(List Int)) (λs=>[(5,.slice s.2.1 s.2.2.2.length s.2.2.1),(11,e7 ((s.1:Nat):Int))]) (λs=>[vk 3 s.2.1 s.2.2.1 s.2.2.2]) (λs=>(s.1<=(ofL xs).length)/\(s.2.2.2=((ofL xs).take s.1).filter (λx=>decide<|x∈ys))) (λs=>(ofL xs).length - s.1) (0,none,0,[]) (show ((0:Nat)<=(ofL xs).length)/\(([]:List Int)=((ofL xs).take (0:Nat)).filter (λx=>decide<|x∈ys)) from ⟨om,rfl⟩) (hI:=(B7 _ _)) ?_
 rintro ⟨k,a,c,out⟩ hp
 dsimp only at hp ⊢
 obtain ⟨hk,ho⟩:=hp
 refine Z ?_
 refine Am C (λc12=>Z ?_)<|λc12=>Z ?_
 ·refine Gc0 (Ac c_ C C<|bt9 (A4 hv)<|e_ (ofL xs) k) ?_
  refine Ar<|Am C (λM=>Z ?_)<|λM=>Z ?_
  ·refine Ge1 (B2 (α:=Int) (cs:=[_]) (xs:=[e_ (ofL xs) k]) Ab ef C C dc dc C C C C) λaj=>?_
   refine Ge2 (Br (α:=Int) (e:=3) (xs:=out) (ys:=([e_ (ofL xs) k]:List Int)) Ab ef C C C mm A5 (by have:=bd7 xs;simp only [E_,Fu];rw [ho];have:=aj5 (ofL xs) (λx=>decide<|x∈ys) k;omega) dc C<|λ_ _=>am) λab ad=>Z ?_
   exact Bt ((k+1),(ab),(ad),(out++([e_ (ofL xs) k]:List Int)))<|by dsimp only;exact ⟨om,(by first|rw [aa4 _ _ k om (As M),←ho]|rw [aa6 _ _ k om (D_ M),←ho])⟩
  exact Bt ((k+1),(a),(c),(out))<|by dsimp only;exact ⟨om,(by first|rw [aa4 _ _ k om (As M),←ho]|rw [aa6 _ _ k om (D_ M),←ho])⟩
 have aa:(ofL xs).take k=ofL xs:=Fv om
 rw [aa] at ho
 have ae:out=Z9 xs ys:=ho
 subst ae
 exact Al C C (vk 3 a c (Z9 xs ys)::I) Ai ⟨a,c,rfl,rfl⟩
theorem fe7(n:Int):eu prog κ 99 [e7 n] I (λr J=>∃a c,r = .slice a (R7 n).length c/\J=vk 3 a c (R7 n)::I):=by
 refine Ce1 Tryz.func99 C C<|Z ?_
 refine Dh (σ:=Nat×(Option Addr)×Nat×(List Int)) (λs=>[(3,.slice s.2.1 s.2.2.2.length s.2.2.1),(4,e7 ((s.1:Nat):Int))]) (λs=>[vk 3 s.2.1 s.2.2.1 s.2.2.2]) (λs=>(s.1<=(min n 64).toNat)/\(s.2.2.2=(List.range s.1).map λj:Nat=>(j:Int))) (λs=>(min n 64).toNat - s.1) (0,none,0,[]) (show ((0:Nat)<=(min n 64).toNat)/\(([]:List Int)=(List.range (0:Nat)).map λj:Nat=>(j:Int)) from ⟨om,rfl⟩) (hI:=(B7 _ _)) ?_
 rintro ⟨k,a,c,out⟩ hp
 dsimp only at hp ⊢
 obtain ⟨hk,ho⟩:=hp
 have ae:out.length=k:=by rw [ho];simp
 refine Z ?_
 refine A3 (d:=8) C (λg8=>Z ?_)<|λg8=>Z ?_
 ·refine Am C (λc11=>Z ?_) (λc11=>Z ?_)
  ·refine Ge1 (B2 (α:=Int) (cs:=[_]) (xs:=[(k:Int)]) Ab ef C C dc dc C C C C) λad=>?_
   refine Ge2 (Br (α:=Int) (e:=3) (xs:=out) (ys:=([(k:Int)]:List Int)) Ab ef C C C mm A5 lcn dc C<|λ_ _=>am) λab aa=>Z ?_
   exact Bt ((k+1),(ab),(aa),(out++([(k:Int)]:List Int)))<|by dsimp only;exact ⟨om,(by rw [List.range_succ,Hr,←ho];rfl)⟩
  have M:out=R7 n:=by rw [ho];unfold R7;congr 2;omega
  subst M
  exact Al C C (vk 3 a c (R7 n)::I) Ai ⟨a,c,rfl,rfl⟩
 have M:out=R7 n:=by rw [ho];unfold R7;congr 2;omega
 subst M
 exact Al C C (vk 3 a c (R7 n)::I) Ai ⟨a,c,rfl,rfl⟩
end Go.Sl
namespace Go.Sl
end Go.Sl
namespace Go.Sl
end Go.Sl
namespace Go.Sl
theorem D.fit{P:Program}{κ:Ctx}{N:Frm}{ops:Array Oper}{Q:Exit->Act->World->Prop}{I J H:List Item}{L:Env}{stop fuel:Nat}{M:Array Bool}(hf:Fit κ I J)(h:D P κ N ops Q H stop fuel M L J):D P κ N ops Q H stop fuel M L I:=λa w ha hs=>h a w ha (hf w hs)
section
variable {α:Type}[Enc α]{κ:Ctx}{I:List Item}
theorem Fit.fw3{e:TypeId}{a:Option Addr}{n c k:Nat}{xs:List α}(hn:n=xs.length):Fit κ (vc e (.slice a n c) xs::I) (vc e (.slice a (xs.take k).length c) (xs.take k)::I):=by
 subst hn
 refine Fit.upd (At.head _ _ _) λw h=>⟨?_,λj ⟨o,m,c',hv,hc⟩=>?_⟩
 ·obtain ⟨a',cap,hv,h1,h2,h3,h4⟩:=h
  cases hv
  refine ⟨a,c,rfl,r9 _,by rw [Fp];omega,h3,λhc=>?_⟩
  obtain ⟨b,off,M,ha,hb,h5,h6⟩:=h4 hc
  refine ⟨b,off,M,ha,hb,h5,λj u hj=>h6 j u ?_⟩
  have e1:cells xs=cells (xs.take k)++cells (xs.drop k):=by rw [←K8,Jl]
  rw [e1,Gu (Gw.1 hj).1];exact hj
 cases hv;exact ⟨o,_,c,rfl,hc⟩
def ap4(e:TypeId)(rs:List (G1 α)):List Item:=rs.map λr=>vc e (.slice r.a r.xs.length r.c) r.xs
end
end Go.Sl
namespace Go.Sl
open Go.Proofs
set_option maxRecDepth 4000
end Go.Sl
namespace Go.Sl
open Go.Proofs
set_option maxRecDepth 4000
variable{es:List Pt}{nd v:Int}{va:Value}
variable {κ:Ctx}{I:List Item}
attribute [local irreducible] W G V D A j8 Eff
def bi8(nd:Int)(es:List Pt)(v:Int):BitVec 64:=if v<0\/((ek nd es).length:Int)<=v\/F6 nd es≠0 then 0#64 else e_ (ek nd es) v
def nbL(es:List Pt)(v:Int):List Int:=es.flatMap λe=>(if e.u=v then [e.v] else [])++(if e.v=v then [e.u] else [])
theorem ar5{k:Nat}(h:k<es.length)(v:Int):nbL (es.take (k+1)) v=nbL (es.take k) v++((if (e_ es k).u=v then [(e_ es k).v] else [])++(if (e_ es k).v=v then [(e_ es k).u] else [])):=by
 unfold nbL;rw [Ca es k h,List.flatMap_append];simp
theorem ao1{x:Int}:x∈nbL es v↔(⟨v,x⟩:Pt)∈es\/(⟨x,v⟩:Pt)∈es:=by
 unfold nbL
 rw [Kv]
 constructor
 ·rintro ⟨⟨a,b⟩,M,hx⟩
  rcases Gt.1 hx with h|h
  ·split at h
   ·rename_i h1;simp only [Gc] at h;simp only at h1;subst h h1;exact .inl M
   simp at h
  split at h
  ·rename_i h1;simp only [Gc] at h;simp only at h1;subst h h1;exact .inr M
  simp at h
 rintro (h|h)
 ·exact ⟨_,h,by simp⟩
 exact ⟨_,h,by simp⟩
def nbG(nd:Int)(es:List Pt)(v:Int):List Int:=if F6 nd es≠0 then [] else ofL (nbL es v)
theorem ct1(nd:Int)(es:List Pt)(v:Int):eo (bi8 nd es v)=nbG nd es v:=by
 by_cases hc:F6 nd es≠0
 ·unfold bi8 nbG;rw [B_ (.inr<|.inr hc),B_ hc,D4]
 have M:=s4.1 (Ft.1 hc)
 have hr:=M.rng
 have hl:=M.rows.len
 unfold nbG
 rw [An hc]
 refine as2.uniq (ae4 _) (R9 _) λx=>?_
 rw [D3,af8,ao1]
 by_cases hv:v<0\/((ek nd es).length:Int)<=v
 ·have hz:bi8 nd es v=0#64:=B_ om
  rw [hz]
  simp only [BitVec.getLsbD_zero,Bool.false_eq_true,and_false,false_iff]
  rintro (h|h)
  ·have:=M.Z1 _ h;simp only at this;omega
  have:=M.Z1 _ h;simp only at this;omega
 have hz:bi8 nd es v=e_ (ek nd es) v:=An om
 rw [hz]
 by_cases hx:0<=x/\x<64
 ·rw [M.rows.bit v x om om hx.1 hx.2,Gn]
  exact ⟨λh=>h.2,λh=>⟨hx.1,h⟩⟩
 constructor
 ·rintro ⟨h1,h2⟩
  rw [BitVec.getLsbD_of_ge _ _ om] at h2
  exact absurd h2 dc
 rintro (h|h)
 ·have:=M.Z1 _ h;simp only at this;omega
 have:=M.Z1 _ h;simp only at this;omega
theorem J9(nd:Int)(es:List Pt)(v:Int):(nbG nd es v).length<=64:=by rw [←ct1];exact Es _
theorem dh3(a b:BitVec 64):eo (a &&& b)=Z9 (eo a) (eo b):=by
 refine as2.uniq (ae4 _) ((R9 _).sublist He) λx=>?_
 rw [T1,D3,D3,D3,Ke,Hc]
 exact ⟨λh=>⟨⟨h.1,h.2.1⟩,h.1,h.2.2⟩,λh=>⟨h.1.1,h.1.2,h.2.2⟩⟩
theorem dk8(nd:Int)(es:List Pt)(v:Int):ac7 (bi8 nd es v)=((nbG nd es v).length:Int):=by rw [br0,ct1]
def j3(nd:Int)(es:List Pt)(u v:Int):List Int:=if u=v then [] else Z9 (nbG nd es u) (nbG nd es v)
theorem at1{u:Int}(h:u≠v):eo (bi8 nd es u &&& bi8 nd es v)=j3 nd es u v:=by
 unfold j3;rw [An h,dh3,ct1,ct1]
def au1(nd:Int)(es:List Pt)(u v y:Int):Prop:=(F6 nd es=0/\∃j:Nat,y=(j:Int)/\j<es.length/\e_ es j=j4 u v)\/(y = -1/\(F6 nd es≠0\/j4 u v∉es))
theorem fq4:∀n:Fin 65,∀i:Fin 64,(at4 (n.val:Int)).getLsbD i.val=decide (i.val<n.val):=by decide+kernel
theorem ag1{n:Int}(h0:0<=n)(M:n<=64){i:Nat}(hi:i<64):(at4 n).getLsbD i=decide ((i:Int)<n):=by
 have:=fq4 ⟨n.toNat,by omega⟩ ⟨i,hi⟩
 simp only [show ((n.toNat:Nat):Int)=n by omega] at this
 rw [this,Fs];omega
theorem bb5(hl:Sl κ I va es)(v:Int):eu prog κ 165 [.agg #[e7 nd,va],e7 v] I (λr J=>r=U64 (bi8 nd es v)/\I=J):=by
 refine Ce2 Tryz.func165 C C ?_
 refine Ak<|Ge1 (Au (cs:=[_,_]) C C C) λb1=>Z ?_
 refine G.e (Ac c_ C C<|at7 (nd:=nd)<|A4 hl) ?_
 rintro _ _ ⟨_,_,⟨ae,ah,rfl,rfl⟩,rfl,rfl⟩
 have M:=ad9 nd es
 refine Z ?_
 refine A3 (d:=10) C (λad=>Z ?_)<|λad=>Z ?_
 ·exact Al C C I Ah ⟨by rw [show bi8 nd es v=0#64 from B_ om];rfl,rfl⟩
 refine A3 (d:=16) C (λaa=>Z ?_)<|λaa=>Z ?_
 ·exact Al C C I Ah ⟨by rw [show bi8 nd es v=0#64 from B_ om];rfl,rfl⟩
 refine Ds (Cn C C C) (Ac c_ C C<|V1<|A4 hl) ?_
 rintro _ _ ⟨_,_,⟨rfl,rfl⟩,rfl,rfl⟩
 refine Z ?_
 refine Am C (λab=>Z ?_)<|λab=>Z ?_
 ·exact Al C C I Ah ⟨by rw [show bi8 nd es v=0#64 from B_ om];rfl,rfl⟩
 exact Al C C I Ah ⟨by rw [show bi8 nd es v=e_ (ek nd es) v from An om],rfl⟩
theorem bi0(hl:Sl κ I va es)(v:Int)(hT:F4 κ I 0 p6):eu prog κ 164 [.agg #[e7 nd,va],e7 v] I (λr J=>∃a c,r = .slice a (nbG nd es v).length c/\J=vk 3 a c (nbG nd es v)::I):=by
 refine Ce2 Tryz.func164 C C ?_
 refine Ak<|Ge1 (Au (cs:=[_,_]) C C C) λb1=>Z ?_
 refine G.e (Ac c_ C C<|bb5 (nd:=nd) (A4 hl) v) ?_
 rintro _ _ ⟨_,_,⟨rfl,rfl⟩,rfl,rfl⟩
 refine Gc2 (Ac c_ C C<|ac3 (bi8 nd es v)<|A8 hT Ah) λM aa=>Z ?_
 have hX:(nbG nd es v)=_:=(ct1 nd es v).symm
 exact Al C C (vk 3 M aa (nbG nd es v)::I) (by unfold vk;rw [hX];exact Ai) ⟨M,aa,by rw [hX],rfl⟩
theorem Z5(M:Sl κ I va es)(v:Int):eu prog κ 136 [.agg #[e7 nd,va],e7 v] I (λr J=>r=e7 ((((nbG nd es v).length:Nat)):Int)/\I=J):=by
 refine Ce2 Tryz.func136 C C ?_
 refine Ak<|Ge1 (Au (cs:=[_,_]) C C C) λb1=>Z ?_
 refine G.e (Ac c_ C C<|bb5 (nd:=nd) (A4 M) v) ?_
 rintro _ _ ⟨_,_,⟨rfl,rfl⟩,rfl,rfl⟩
 refine Gc0 (Ac c_ C C<|bi1<|bi8 nd es v) ?_
 exact Ga C<|Ar<|B3<|Al C C I Ah ⟨by rw [dk8],rfl⟩
theorem bo6(hl:Sl κ I va es)(u v:Int)(hT:F4 κ I 0 p6):eu prog κ 178 [.agg #[e7 nd,va],e7 u,e7 v] I (λr J=>∃a c,r = .slice a (j3 nd es u v).length c/\J=vk 3 a c (j3 nd es u v)::I):=by
 refine Ce3 Tryz.func178 C C ?_
 refine Ak<|Ge1 (Au (cs:=[_,_]) C C C) λb1=>Z ?_
 refine Am C (λc9=>Z ?_)<|λc9=>Z ?_
 ·have hX:(j3 nd es u v)=[]:=B_ c9
  exact Al C C (vk 3 none 0 (j3 nd es u v)::I) (by unfold vk;rw [hX];exact A9 (show Fit κ _ I from Ah)<|B7 (α:=Int) _ _) ⟨none,0,by rw [hX];rfl,rfl⟩
 refine Ba mixed<|Bx (e8 b1 [e7 nd,va] 38::I) 9<|Z ?_
 refine Ds1 2<|Se C (Ac c_ C C<|bb5 (nd:=nd) (A4 hl) u) ?_
 rintro _ _ ⟨_,_,⟨rfl,rfl⟩,rfl,rfl⟩
 refine ⟨Ai,?_⟩
 refine Ds1 5<|Se C (Ac c_ C C<|bb5 (nd:=nd) (A4 hl) v) ?_
 rintro _ _ ⟨_,_,⟨rfl,rfl⟩,rfl,rfl⟩
 refine ⟨Ai,?_⟩
 refine Dr 6 C (Eh (a:=bi8 nd es u) (b:=bi8 nd es v) C C)<|Ds1 7<|Sc2 C (Ac c_ C C<|ac3 ((bi8 nd es u) &&& (bi8 nd es v))<|A8 hT Ah) λM aa=>Z ?_
 have hX:(j3 nd es u v)=_:=(at1 c9).symm
 exact Al C C (vk 3 M aa (j3 nd es u v)::I) (by unfold vk;rw [hX];exact Ai) ⟨M,aa,by rw [hX],rfl⟩
theorem au2(hl:Sl κ I va es)(u v:Int)(hb:es.length<=1000000000):eu prog κ 151 [.agg #[e7 nd,va],e7 u,e7 v] I (λr J=>∃y:Int,r=e7 y/\au1 nd es u v y/\I=J):=by
 refine Ce3 Tryz.func151 C C ?_
 refine Ak<|Ge1 (Au (cs:=[_,_]) C C C) λb1=>Z ?_
 refine G.e (Ac c_ C C<|bu1 (A4 hl) u v om) ?_
 rintro _ _ ⟨_,_,⟨i2,q3,rfl,ab,rfl⟩,rfl,rfl⟩
 refine Z ?_
 refine A3 (d:=17) C (λM=>Z ?_)<|λM=>Z ?_
 ·refine Ds (Cn C C C) (Ac c_ C C<|V1<|A4 hl) ?_
  rintro _ _ ⟨_,_,⟨rfl,rfl⟩,rfl,rfl⟩
  refine Z ?_
  refine Am C (λaa=>Z ?_)<|λaa=>Z ?_
  ·exact Al C C I Ah ⟨_,rfl,.inl ⟨aa,i2,rfl,M.1,M.2⟩,rfl⟩
  have hn:F6 nd es≠0\/j4 u v∉es:=(Decidable.em<|F6 nd es=0).elim (λhc=> .inr λhm=>by first|exact aa hc|exact M ((ab.mem (s4.1 hc).asc).2 hm)) .inl
  exact Al C C I Ah ⟨_,rfl,.inr ⟨rfl,hn⟩,rfl⟩
 have hn:F6 nd es≠0\/j4 u v∉es:=(Decidable.em<|F6 nd es=0).elim (λhc=> .inr λhm=>by first|exact aa hc|exact M ((ab.mem (s4.1 hc).asc).2 hm)) .inl
 exact Al C C I Ah ⟨_,rfl,.inr ⟨rfl,hn⟩,rfl⟩
end Go.Sl
namespace Go.Sl
open Go.Proofs
set_option maxRecDepth 4000
variable{n:Nat}{nd v:Int}{rows:List (BitVec 64)}{es:List Pt}
def bg6(nd:Int)(es:List Pt):List (Int×Nat):=ae6 (ek nd es) (at4 ((ek nd es).length:Int)) 0
def dm6(nd:Int)(es:List Pt):List Int:=br3 (ek nd es).length (bg6 nd es)
def fp3(nd:Int)(es:List Pt):List Int:=am9 (bg6 nd es)
def j9(nd:Int)(es:List Pt):List Int:=if F6 nd es≠0 then [] else dm6 nd es
def U9(nd:Int)(es:List Pt)(k:Int):List Int:=af2 (j9 nd es).length λv=>decide (k<=e_ (j9 nd es) v)
theorem af9(h:n<=64){u:Int}:u∈eo (at4 (n:Int))↔0<=u/\u<n:=by
 constructor
 ·intro hu
  have M:=En hu
  rw [D3,ag1 om om om,Gn] at hu
  omega
 intro hu
 rw [D3,ag1 om om om,Gn]
 omega
theorem at0(nd:Int)(es:List Pt):(dm6 nd es).length=(ek nd es).length:=cm0 _ _
theorem dw0(l:List (Int×Nat)):(am9 l).length=l.length:=F_ ..
theorem ca3(h0:0<=v)(M:v<64):H9 v=1#64 <<< v.toNat:=by unfold H9;rw [An om]
theorem fa1(h:fr5 n rows){k:Int}(h0:0<=k)(M:k<n):ac7 (e_ rows k)=((Q3 rows (at4 (n:Int)) k:Nat):Int):=by
 rw [br0]
 unfold Q3
 congr 1
 refine ((Hp (Df _)<|Df _).2 λu=>?_).length_eq
 rw [K1]
 refine ⟨λhu=>⟨hu,(af9 h.le).2 ⟨(En hu).1,h.lt k u h0 M hu⟩⟩,λhu=>hu.1⟩
theorem fa5(h:fr5 n rows)(hn:1<=n)(left:BitVec 64)(v:Int):Q3 rows left v<=n - 1:=by
 by_cases hv:v.toNat<n
 ·have e:e_ rows v=e_ rows v.toNat:=by show rows.getD v.toNat _=rows.getD ((v.toNat:Nat):Int).toNat _;rw [Lw]
  have:=bs8 h left (v:=(v.toNat:Int)) om om
  unfold Q3 at this ⊢
  rw [e];omega
 have e:e_ rows v=0#64:=by
  unfold e_
  rw [Hq,Jn (by rw [h.len];omega)];rfl
 unfold Q3
 rw [e,BitVec.zero_and,D4];simp
theorem ak9(M:s6 nd es):fr5 (ek nd es).length (ek nd es):=by
 have h:=M.rows.symB M
 have e:=h.len
 rw [←e] at h;exact h
theorem dm1{left:BitVec 64}{M dd:Nat}{done:List (Int×Nat)}{all:List (Int×Nat)}(hc:done++ae6 rows left M=all)(hT:ca8 rows left v)(hd:Q3 rows left v=dd) :
  (done++[(v,max M dd)])++ae6 rows (left &&& ~~~(1#64 <<< v.toNat)) (max M dd)=all:=by
 rw [←hc,bn4 hT,hd,Fr];rfl
theorem fb1(h:n<=64):(eo (at4 (n:Int))).length=n:=by
 have M:(eo (at4 (n:Int))).Perm ((List.range n).map fun (i:Nat)=>(i:Int)):=(Hp (Df _) (by
  exact Mu _ (λa b h=>by omega) (List.nodup_range (n:=n)))).2 λu=>by
  rw [af9 h,Gv]
  constructor
  ·intro hu;exact ⟨u.toNat,Hz.2 om,by omega⟩
  rintro ⟨i,hi,rfl⟩;have:=Hz.1 hi;omega
 have:=M.length_eq
 rwa [F_,Jy] at this
set_option maxHeartbeats 2000000 in
theorem fh8{κ:Ctx}{I:List Item}{va:Value}(hl:Sl κ I va es)(hG:s6 nd es)(hT:F4 κ I 0 p6):eu prog κ 129 [.agg #[e7 nd,va]] I (λr J=>∃a c a' c',r = .tuple #[.slice a (fp3 nd es).length c,.slice a' (dm6 nd es).length c']/\J=vk 3 a c (fp3 nd es)::vk 3 a' c' (dm6 nd es)::I):=by
 have hS:=ak9 hG
 have bt:=hS.le
 refine Ce1 Tryz.func129 C C ?_
 refine Ak<|Ge1 (Au (cs:=[_,_]) C C C) λb1=>Ga C<|Ga C<|Ar<|W.fx0 (l:=0) C ?_
 refine Ak<|Gl2 J8 ?_
 refine G.e (Ac c_ C C<|at7 (nd:=nd)<|A4 hl) ?_
 rintro _ _ ⟨_,_,⟨ad,ae,rfl,rfl⟩,rfl,rfl⟩
 have bg:=ad9 nd es
 refine Ga C<|Ar<|Ak<|Ge1 (Aj fv2 C) λb4=>?_
 show G prog κ _ _ _ _ ([(5,pt b4),(4,.slice ad (ek nd es).length ae),(16,.slice ad (ek nd es).length ae),(15,.agg #[e7 nd,va]),(3,.slice none 0 0),(2,.slice none 0 0),(1,pt b1),(0,.agg #[e7 nd,va])]:Env) (e8 b4 (cells (replicate 64 (0#64):List (BitVec 64))) 208::vk 207 ad ae (ek nd es)::e8 b1 [e7 nd,va] 38::I)
 refine Ar<|Ak<|Gm C<|Gr (Bk Cq C)<|Ge2 (Dk (α:=Int) (n:=(ek nd es).length) Ab ef C C C om om dc C) λah ai=>?_
 refine Ga C<|Ar<|Ax<|Ak<|Gm C<|Gr (Bk Cq C)<|Gm C<|Ar<|A1 (S7 22 21 20 6 5 4 2)<|A7<|B9 (σ:=Nat×(List Int)×(List<|BitVec 64)) (λs=>([(2,.slice none 0 0),(4,.slice ad (ek nd es).length ae),(5,pt b4),(6,.slice ah (replicate ((ek nd es).length) (default:Int)).length ai),(20,.slice ad (ek nd es).length ae),(21,e7<|(((ek nd es).length:Nat):Int)),(22,e7 ((s.1:Nat):Int))]:Env)) (λs=>vc 3 (.slice ah (replicate ((ek nd es).length) (default:Int)).length ai) (s.2.1)::e8 b4 (cells (s.2.2:List (BitVec 64))) 208::vk 207 ad ae (ek nd es)::e8 b1 [e7 nd,va] 38::I) (λs=>(s.1<=(ek nd es).length)/\(au8 (ek nd es).length (λu=>0<=u/\u<((s.1:Nat):Int)) (Q3 (ek nd es)<|at4 ((ek nd es).length:Int)) s.2.1 s.2.2)) (λs=>(ek nd es).length - s.1) (0,replicate ((ek nd es).length) (default:Int),replicate 64<|0#64) (show ((0:Nat)<=(ek nd es).length)/\(au8 (ek nd es).length (λu=>0<=u/\u<(((0:Nat):Nat):Int)) (Q3 (ek nd es)<|at4 ((ek nd es).length:Int)) (replicate ((ek nd es).length) (default:Int):List Int) (replicate 64 (0#64):List (BitVec 64))) from ⟨om,(au8.start _ _)⟩) (cx4<|cx2<|Aa Co Bb) (show Fit κ _ (vk 3 ah ai (replicate ((ek nd es).length) (default:Int))::e8 b4 (cells ((replicate 64<|0#64):List (BitVec 64))) 208::vk 207 ad ae (ek nd es)::e8 b1 [e7 nd,va] 38::I) from Ai) ?_
 rintro ⟨k,dgs,bks⟩ hp
 dsimp only at hp ⊢
 obtain ⟨hk,hB⟩:=hp
 have ca:=hB.fu2
 have cc:=hB.fu4
 have ba:k<(ek nd es).length->ac7 (e_ (ek nd es) k)=((Q3 (ek nd es) (at4 ((ek nd es).length:Int)) (k:Int):Nat):Int):=λh=>fa1 hS om om
 have a3:k<(ek nd es).length->((Q3 (ek nd es) (at4 ((ek nd es).length:Int)) (k:Int):Nat):Int)<64:=λh=>by have:=bs8 hS (at4 ((ek nd es).length:Int)) (v:=(k:Int)) om om;omega
 refine Ak<|Gr (Bl C C)<|Ar<|Ax<|Am C (λbi=>?_)<|λbi=>?_
 ·refine Bc (Ao<|Ax<|A7<|Ak<|Gm C<|Gr (A2 (α:=(BitVec 64)) (xs:=ek nd es) Cq M4 C C A5 om oo)<|Gr (Cc (α:=(BitVec 64)) (xs:=ek nd es) (u:=U64 ((e_ (ek nd es) k))) M4 C A5 om oo C)<|Ga C<|Ga C<|Ar<|Ak<|Gm C<|Gm C<|Gm C<|Gc0 (Ac c_ C C<|bi1<|e_ (ek nd es) k) ?_)
  refine Gr (A2 (α:=Int) (xs:=dgs) Ab ef C C A5 om oo)<|Ge0 (Cw (α:=Int) (xs:=dgs) (e:=3) (new:=ac7 (e_ (ek nd es) k)) ef C C C om oo am) ?_
  have bb:=ba om
  have bm:=a3 om
  have a7:e_ (List.set dgs ((k:Int)).toNat (ac7<|e_ (ek nd es) k)) (k:Int)=((Q3 (ek nd es) (at4 ((ek nd es).length:Int)) (k:Int):Nat):Int):=by rw [Ei _ _ _ _ om om om,B_ rfl,bb]
  refine Ar<|A1 (S8 7 2 4 5 6 20 21 22)<|Ba mixed<|Bx (vc 3 (.slice ah (replicate ((ek nd es).length) (default:Int)).length ai) (List.set dgs ((k:Int)).toNat (ac7<|e_ (ek nd es) k))::e8 b4 (cells (bks:List (BitVec 64))) 208::vk 207 ad ae (ek nd es)::e8 b1 [e7 nd,va] 38::I) 10<|Dr 0 C (Aq C)<|Dr 1 C (Aq C)<|Dr 2 C (A2 (α:=Int) (xs:=List.set dgs ((k:Int)).toNat (ac7<|e_ (ek nd es) k)) Ab ef C C A5 om oo)<|Dr 3 C (B6 (xs:=List.set dgs ((k:Int)).toNat (ac7<|e_ (ek nd es) k)) ef C A5 om oo)<|Dr 4 C (B5 C7 M4 C C om oo)<|Dr 5 C (Fm (xs:=bks) M4 C (Dl mm) om oo)<|Dr 6 C (Aq C)<|Ds1 7<|Se C (Ac c_ C C<|ac5 (k:Int)) ?_
  rintro _ _ ⟨_,_,⟨rfl,rfl⟩,rfl,rfl⟩
  refine ⟨Ah,?_⟩
  refine Dr 8 C (Ec (a:=e_ bks (e_ (List.set dgs ((k:Int)).toNat (ac7<|e_ (ek nd es) k)) (k:Int))) (b:=H9 (k:Int)) C C)<|Dr 9 C (B5 C7 M4 C C om oo)<|Cg kr ?_
  refine Ae 10 C (Eff.du7 (xs:=bks) (i:=e_ (List.set dgs ((k:Int)).toNat (ac7<|e_ (ek nd es) k)) (k:Int)) (n:=(e_ bks<|e_ (List.set dgs ((k:Int)).toNat (ac7<|e_ (ek nd es) k)) (k:Int)) ||| (H9 (k:Int))) M4 C C C om oo am) ?_
  rintro _ _ ⟨rfl,rfl⟩
  refine Ch kr ?_
  exact Av<|Ao<|A1 (S7 2 4 5 6 20 21 22)<|A6<|Gr (Rad C C)<|Gm C<|Bq<|Bt ((k+1),(List.set dgs ((k:Int)).toNat (ac7<|e_ (ek nd es) k)),(List.set bks (e_ (List.set dgs ((k:Int)).toNat (ac7<|e_ (ek nd es) k)) (k:Int)).toNat ((e_ bks<|e_ (List.set dgs ((k:Int)).toNat (ac7<|e_ (ek nd es) k)) (k:Int)) ||| (H9 (k:Int)))))<|by dsimp only;exact ⟨om,(by have hN:=hB.push (S':=λu=>0<=u/\u<((k+1:Nat):Int)) (v:=(k:Int)) (c:=((Q3 (ek nd es) (at4 ((ek nd es).length:Int)) (k:Int):Nat):Int)) om om om (λu=>by constructor<;>intro h<;>omega) (λh=>by omega) C (a3 om);rw [a7,ba om,ca3 om om];exact hN)⟩
 refine Ci<|Aw<|Aw<|Bi<|Ao<|Ak<|Gm C<|Gr (Bk Cq C)<|Ge2 (Dk (α:=Int) (n:=(ek nd es).length) Ab ef C C C om om dc C) λaj ak=>?_
 refine Ga C<|Ar<|Ak<|Gm C<|Gr (Bk Cq C)<|Gc0 (Ac c_ C C<|cy9 (((ek nd es).length:Nat):Int)) ?_
 refine Ga C<|Ar<|A1 (S6 9 3 2 4 5 6)<|Ak<|Ga C<|Ar<|Ax<|W.label ?_
 refine Ao<|Ax<|A7<|B9 (σ:=(List<|Int×Nat)×(BitVec 64)×Nat×(List Int)×(List<|BitVec 64)×(Option Addr)×Nat) (λs=>([(2,.slice s.2.2.2.2.2.1 (am9 s.1).length s.2.2.2.2.2.2),(3,.slice aj (replicate ((ek nd es).length) (default:Int)).length ak),(4,.slice ad (ek nd es).length ae),(5,pt b4),(6,.slice ah (replicate ((ek nd es).length) (default:Int)).length ai),(9,U64<|s.2.1),(10,e7 ((s.2.2.1:Nat):Int))]:Env)) (λs=>vk 3 s.2.2.2.2.2.1 s.2.2.2.2.2.2 (am9 s.1)::vc 3 (.slice aj (replicate ((ek nd es).length) (default:Int)).length ak) (br3 (ek nd es).length s.1)::vc 3 (.slice ah (replicate ((ek nd es).length) (default:Int)).length ai) (s.2.2.2.1)::e8 b4 (cells (s.2.2.2.2.1:List (BitVec 64))) 208::vk 207 ad ae (ek nd es)::e8 b1 [e7 nd,va] 38::I) (λs=>(s.1++ae6 (ek nd es) s.2.1 s.2.2.1=bg6 nd es)/\(au8 (ek nd es).length (λu=>u∈eo s.2.1) (Q3 (ek nd es) s.2.1) s.2.2.2.1 s.2.2.2.2.1)/\(s.1.length+(eo s.2.1).length=(ek nd es).length)/\(s.2.2.1<=63)) (λs=>(eo s.2.1).length) ([],(at4 ((ek nd es).length:Int)),0,dgs,bks,none,0) (show (([]:List (Int×Nat))++ae6 (ek nd es) ((at4 ((ek nd es).length:Int)):BitVec 64) (0:Nat)=bg6 nd es)/\(au8 (ek nd es).length (λu=>u∈eo ((at4 ((ek nd es).length:Int)):BitVec 64)) (Q3 (ek nd es) ((at4 ((ek nd es).length:Int)):BitVec 64)) (dgs:List Int) (bks:List (BitVec 64)))/\(([]:List (Int×Nat)).length+(eo ((at4 ((ek nd es).length:Int)):BitVec 64)).length=(ek nd es).length)/\((0:Nat)<=63) from ⟨rfl,(hB.congr (λu=>(af9 hS.le).trans (by constructor<;>intro h<;>omega))<|λu _=>rfl),(by have:(eo<|at4 ((ek nd es).length:Int)).length=(ek nd es).length:=fb1 hS.le;simp only [Fu];omega),om⟩) (Aa (Db C<|by first|rfl|(rw [ai6])|simp)<|cx4<|Aa (Db C<|by first|rfl|(rw [ai6])|simp)<|Aa Co Bb) (show Fit κ _ (vk 3 none 0 (am9<|[])::vc 3 (.slice aj (replicate ((ek nd es).length) (default:Int)).length ak) (br3 (ek nd es).length ([]))::vc 3 (.slice ah (replicate ((ek nd es).length) (default:Int)).length ai) ((dgs))::e8 b4 (cells ((bks):List (BitVec 64))) 208::vk 207 ad ae (ek nd es)::e8 b1 [e7 nd,va] 38::I) from (A9 (B7 (α:=Int) _ _) Az)) ?_
 rintro ⟨done,left,kk,aq,aa,ao,co⟩ hp
 dsimp only at hp ⊢
 obtain ⟨hc,av,ce,b9⟩:=hp
 have b5:=av.fu2
 have b2:=av.fu4
 have hold:=dw0 done
 have cd:=cm0 (ek nd es).length done
 have ax:∀u∈eo left,Q3 (ek nd es) left u<64:=λu hu=>by have hr:=av.rng u hu;have:=bs8 hS left hr.1 hr.2;omega
 refine Ax<|Ak<|Gm C<|Gr (j8.neB (a:=left) (b:=0#64) C C)<|Ar<|Am C (λbe=>?_)<|λbe=>?_
 ·refine Bc (Ao<|A7<|Ak<|Gm C<|Ar<|A7<|B9 (σ:=Nat) (λs=>([(2,.slice ao (am9 done).length co),(3,.slice aj (replicate ((ek nd es).length) (default:Int)).length ak),(4,.slice ad (ek nd es).length ae),(5,pt b4),(6,.slice ah (replicate ((ek nd es).length) (default:Int)).length ai),(9,U64 left),(10,e7<|(kk:Int)),(51,e7 ((s:Nat):Int))]:Env)) (λs=>vk 3 ao co (am9 done)::vc 3 (.slice aj (replicate ((ek nd es).length) (default:Int)).length ak) (br3 (ek nd es).length done)::vc 3 (.slice ah (replicate ((ek nd es).length) (default:Int)).length ai) (aq)::e8 b4 (cells (aa:List (BitVec 64))) 208::vk 207 ad ae (ek nd es)::e8 b1 [e7 nd,va] 38::I) (λs=>(s<=64)/\(∀c:Int,0<=c->c<((s:Nat):Int)->e_ aa c=0#64)) (λs=>64 - s) 0 (show ((0:Nat)<=64)/\(∀c:Int,0<=c->c<(((0:Nat):Nat):Int)->e_ aa c=0#64) from ⟨om,(λc h1 h2=>by omega)⟩) (cx4<|cx2<|Aa C<|Aa Co Bb) (show Fit κ _ (vk 3 ao co (am9 done)::vc 3 (.slice aj (replicate ((ek nd es).length) (default:Int)).length ak) (br3 (ek nd es).length done)::vc 3 (.slice ah (replicate ((ek nd es).length) (default:Int)).length ai) (aq)::e8 b4 (cells (aa:List (BitVec 64))) 208::vk 207 ad ae (ek nd es)::e8 b1 [e7 nd,va] 38::I) from Ai) ?_)
  rintro dd hp
  obtain ⟨b8,hz⟩:=hp
  refine Ak<|Gr (Bl C C)<|Ar<|Ax<|Am C (λbo=>?_)<|λbo=>?_
  ·refine Bc (Ao<|Ax<|A7<|Ak<|Gm C<|Ga C<|Ar<|Ax<|Ak<|Gm C<|Gr (B5 C7 M4 C C om oo)<|Gr (Fm (xs:=aa) M4 C (Dl mm) om oo)<|Gr (j8.eqB (a:=e_ aa dd) (b:=0#64) C C)<|Ar<|A1 (S10 57 11 2 3 4 5 6 9 10 51)<|Am C (λbc=>?_)<|λbc=>?_)
   ·exact Ci<|Aw<|Bi<|Ao<|A6<|Gr (Rad C C)<|Gm C<|Bq<|Bt ((dd+1)) ⟨om,(λc h1 h2=>by by_cases e:c=(dd:Int);(· rw [e];assumption);(· exact hz c h1 om))⟩
   refine Bc<|Ao<|Ak<|Gm C<|Gr (B5 C7 M4 C C om oo)<|Gr (Fm (xs:=aa) M4 C (Dl mm) om oo)<|Gc0 (Ac c_ C C<|ff6 (e_ aa dd)<|A8 hT Ah) ?_
   have bf:=av.takes (d:=(dd:Int)) om om bc hz ax
   generalize hvE:tzB (e_ aa dd)=v at bf ⊢
   obtain ⟨a6,bk⟩:=bf
   have ay:=a6.mem
   have b7:=av.rng v ay
   refine Ga C<|Ar<|A1 (S9 12 11 2 3 4 5 6 9 10)<|Ak<|Gm C<|Gm C<|Gr (E9 C C) ?_
   have bn:(if (kk:Int)<(dd:Int) then (dd:Int) else (kk:Int))=(((max kk dd):Nat):Int):=by split<;>omega
   rw [bn]
   refine Ga C<|Ar<|A1 (S9 10 12 11 2 3 4 5 6 9)<|Ak<|Gm C<|Gm C<|Gm C<|Gr (A2 (α:=Int) (xs:=br3 (ek nd es).length done) Ab ef C C A5 om oo)<|Ge0 (Cw (α:=Int) (xs:=br3 (ek nd es).length done) (e:=3) (new:=(((max kk dd):Nat):Int)) ef C C C om oo am) ?_
   refine Ar<|Ak<|Gm C<|Gm C<|Ge1 (B2 (α:=Int) (cs:=[_]) (xs:=[v]) Ab ef C C dc dc C C C C) λa0=>?_
   refine Ge2 (Br (α:=Int) (e:=3) (xs:=am9 done) (ys:=([v]:List Int)) Ab ef C C C mm A5 lcn dc C<|λ_ _=>am) λap an=>?_
   refine Ga C<|Ar<|A1 (S9 2 10 12 11 3 4 5 6 9)<|Ak<|Gm C<|Gm C<|G.e (Ac c_ C C<|ac5 v) ?_
   rintro _ _ ⟨_,_,⟨rfl,rfl⟩,rfl,rfl⟩
   rw [show H9 v=1#64 <<< (v).toNat from ca3 om om]
   refine Gr (Ey (a:=left) (b:=1#64 <<< (v).toNat) C C)<|Ga C<|Ar<|A1 (S9 9 2 10 12 11 3 4 5 6)<|Ax<|Ba mixed<|Bx (vc 3 (.slice a0 1 1) (([v]:List Int))::vk 3 ap an ((am9 done)++([v]:List Int))::vc 3 (.slice aj (replicate ((ek nd es).length) (default:Int)).length ak) (List.set (br3 (ek nd es).length done) (v).toNat ((((max kk dd):Nat):Int)))::vc 3 (.slice ah (replicate ((ek nd es).length) (default:Int)).length ai) (aq)::e8 b4 (cells (aa:List (BitVec 64))) 208::vk 207 ad ae (ek nd es)::e8 b1 [e7 nd,va] 38::I) 7<|Dr 0 C (Aq C)<|Dr 1 C (B5 C7 M4 C C om oo)<|Dr 2 C (Fm (xs:=aa) M4 C (Dl mm) om oo)<|Dr 3 C (Aq C)<|Ds1 4<|Se C (Ac c_ C C<|ac5 v) ?_
   rintro _ _ ⟨_,_,⟨rfl,rfl⟩,rfl,rfl⟩
   refine ⟨Ah,?_⟩
   rw [show H9 v=1#64 <<< (v).toNat from ca3 om om]
   refine Dr 5 C (Ey (a:=e_ aa dd) (b:=1#64 <<< (v).toNat) C C)<|Dr 6 C (B5 C7 M4 C C om oo)<|Cg kr ?_
   refine Ae 7 C (Eff.du7 (xs:=aa) (i:=(dd:Int)) (n:=(e_ aa dd) &&& ~~~(1#64 <<< (v).toNat)) M4 C C C om oo am) ?_
   rintro _ _ ⟨rfl,rfl⟩
   refine Ch kr ?_
   refine Ao<|A1 (S8 9 2 10 12 3 4 5 6)<|Ax<|Ak<|Gm C<|Gm C<|Gr (A2 (α:=(BitVec 64)) (xs:=ek nd es) Cq M4 C C A5 om oo)<|Gr (Cc (α:=(BitVec 64)) (xs:=ek nd es) (u:=U64 ((e_ (ek nd es) v))) M4 C A5 om oo C)<|Gm C<|Gr (Eh (a:=(e_ (ek nd es) v)) (b:=left &&& ~~~(1#64 <<< (v).toNat)) C C)<|Gc2 (Ac c_ C C<|ac3 ((e_ (ek nd es) v) &&& (left &&& ~~~(1#64 <<< (v).toNat)))<|A8 hT Ah) λau ar=>?_
   refine Gr (Bk Ab C)<|Gm C<|Ar<|A1 (S10 92 91 90 9 2 10 3 4 5 6)<|A7<|B9 (σ:=Nat×(List Int)×(List<|BitVec 64)) (λs=>([(2,.slice ap ((am9 done)++([v]:List Int)).length an),(3,.slice aj (replicate ((ek nd es).length) (default:Int)).length ak),(4,.slice ad (ek nd es).length ae),(5,pt b4),(6,.slice ah (replicate ((ek nd es).length) (default:Int)).length ai),(9,U64<|left &&& ~~~(1#64 <<< (v).toNat)),(10,e7<|(((max kk dd):Nat):Int)),(90,.slice au (eo<|(e_ (ek nd es) v) &&& (left &&& ~~~(1#64 <<< (v).toNat))).length ar),(91,e7<|(((eo<|(e_ (ek nd es) v) &&& (left &&& ~~~(1#64 <<< (v).toNat))).length:Nat):Int)),(92,e7 ((s.1:Nat):Int))]:Env)) (λs=>vk 3 au ar (eo<|(e_ (ek nd es) v) &&& (left &&& ~~~(1#64 <<< (v).toNat)))::vc 3 (.slice a0 1 1) (([v]:List Int))::vk 3 ap an ((am9 done)++([v]:List Int))::vc 3 (.slice aj (replicate ((ek nd es).length) (default:Int)).length ak) (List.set (br3 (ek nd es).length done) (v).toNat ((((max kk dd):Nat):Int)))::vc 3 (.slice ah (replicate ((ek nd es).length) (default:Int)).length ai) (s.2.1)::e8 b4 (cells (s.2.2:List (BitVec 64))) 208::vk 207 ad ae (ek nd es)::e8 b1 [e7 nd,va] 38::I) (λs=>(s.1<=(eo<|e_ (ek nd es) v &&& (left &&& ~~~(1#64 <<< (v).toNat))).length)/\(au8 (ek nd es).length (λu=>u∈eo (left &&& ~~~(1#64 <<< (v).toNat))) (cu6 (ek nd es) left (eo<|e_ (ek nd es) v &&& (left &&& ~~~(1#64 <<< (v).toNat))) s.1) s.2.1 s.2.2)) (λs=>(eo<|e_ (ek nd es) v &&& (left &&& ~~~(1#64 <<< (v).toNat))).length - s.1) (0,aq,List.set aa ((dd:Int)).toNat ((e_ aa dd) &&& ~~~(1#64 <<< (v).toNat))) (show ((0:Nat)<=(eo<|e_ (ek nd es) v &&& (left &&& ~~~(1#64 <<< (v).toNat))).length)/\(au8 (ek nd es).length (λu=>u∈eo (left &&& ~~~(1#64 <<< (v).toNat))) (cu6 (ek nd es) left (eo<|e_ (ek nd es) v &&& (left &&& ~~~(1#64 <<< (v).toNat))) (0:Nat)) (aq:List Int) (List.set aa ((dd:Int)).toNat ((e_ aa dd) &&& ~~~(1#64 <<< (v).toNat)):List (BitVec 64))) from ⟨om,((av.drop ay bk om<|λu=>M6 om).congr (λu=>Iff.rfl) (λu _=>dk9 _ _ _ u))⟩) (cx4<|cx4<|Aa C<|Aa Co Bb) (show Fit κ _ (vk 3 au ar (eo<|(e_ (ek nd es) v) &&& (left &&& ~~~(1#64 <<< (v).toNat)))::vc 3 (.slice a0 1 1) (([v]:List Int))::vk 3 ap an ((am9 done)++([v]:List Int))::vc 3 (.slice aj (replicate ((ek nd es).length) (default:Int)).length ak) (List.set (br3 (ek nd es).length done) (v).toNat ((((max kk dd):Nat):Int)))::vc 3 (.slice ah (replicate ((ek nd es).length) (default:Int)).length ai) ((aq))::e8 b4 (cells ((List.set aa ((dd:Int)).toNat ((e_ aa dd) &&& ~~~(1#64 <<< (v).toNat))):List (BitVec 64))) 208::vk 207 ad ae (ek nd es)::e8 b1 [e7 nd,va] 38::I) from Ai) ?_
   rintro ⟨j,M,ab⟩ hp
   dsimp only at hp ⊢
   obtain ⟨hj,aw⟩:=hp
   have b3:=aw.fu2
   have bv:=aw.fu4
   have bw:(eo<|e_ (ek nd es) v &&& (left &&& ~~~(1#64 <<< (v).toNat))).length<=64:=Es _
   have bq:j<(eo<|e_ (ek nd es) v &&& (left &&& ~~~(1#64 <<< (v).toNat))).length->(e_ (eo<|e_ (ek nd es) v &&& (left &&& ~~~(1#64 <<< (v).toNat))) (j:Int))∈eo (left &&& ~~~(1#64 <<< (v).toNat))/\(e_ (eo<|e_ (ek nd es) v &&& (left &&& ~~~(1#64 <<< (v).toNat))) (j:Int))∈eo (e_ (ek nd es) v):=λh=>by have h1:=Bp (xs:=(eo<|e_ (ek nd es) v &&& (left &&& ~~~(1#64 <<< (v).toNat)))) (i:=(j:Int)) om om;exact ⟨(K1.1 h1).2,(K1.1 h1).1⟩
   refine Ak<|Gr (Bl C C)<|Ar<|Ax<|Am C (λbr=>?_)<|λbr=>?_
   ·refine Bc (Ao<|Ax<|A7<|Ak<|Gr (A2 (α:=Int) (xs:=eo ((e_ (ek nd es) v) &&& (left &&& ~~~(1#64 <<< (v).toNat)))) Ab ef C C A5 om oo)<|Gr (B6 (xs:=eo ((e_ (ek nd es) v) &&& (left &&& ~~~(1#64 <<< (v).toNat)))) ef C A5 om oo)<|Ga C ?_)
    have az:=bq om
    have b6:=aw.rng (e_ (eo<|e_ (ek nd es) v &&& (left &&& ~~~(1#64 <<< (v).toNat))) (j:Int)) az.1
    have a1:=aw.deg (e_ (eo<|e_ (ek nd es) v &&& (left &&& ~~~(1#64 <<< (v).toNat))) (j:Int)) az.1
    have a9:=a1
    have a5:=fa3 (rows:=ek nd es) (left:=left) (ws:=(eo<|e_ (ek nd es) v &&& (left &&& ~~~(1#64 <<< (v).toNat)))) (j:=j) om (Df _)
    have bh:(e_ (eo<|e_ (ek nd es) v &&& (left &&& ~~~(1#64 <<< (v).toNat))) (j:Int))∈eo left:=((M6 om).1 az.1).1
    have bu:=ax (e_ (eo<|e_ (ek nd es) v &&& (left &&& ~~~(1#64 <<< (v).toNat))) (j:Int)) bh
    have cb:1<=Q3 (ek nd es) left (e_ (eo<|e_ (ek nd es) v &&& (left &&& ~~~(1#64 <<< (v).toNat))) (j:Int)):=Kj (K1.2 ⟨hS.sym v (e_ (eo<|e_ (ek nd es) v &&& (left &&& ~~~(1#64 <<< (v).toNat))) (j:Int)) om om az.2,ay⟩)
    rw [a5] at a9
    refine Ar<|A1 (S11 14 2 3 4 5 6 9 10 90 91 92)<|Ax<|Ba mixed<|Bx (vk 3 au ar (eo<|(e_ (ek nd es) v) &&& (left &&& ~~~(1#64 <<< (v).toNat)))::vc 3 (.slice a0 1 1) (([v]:List Int))::vk 3 ap an ((am9 done)++([v]:List Int))::vc 3 (.slice aj (replicate ((ek nd es).length) (default:Int)).length ak) (List.set (br3 (ek nd es).length done) (v).toNat ((((max kk dd):Nat):Int)))::vc 3 (.slice ah (replicate ((ek nd es).length) (default:Int)).length ai) (M)::e8 b4 (cells (ab:List (BitVec 64))) 208::vk 207 ad ae (ek nd es)::e8 b1 [e7 nd,va] 38::I) 10<|Dr 0 C (Aq C)<|Dr 1 C (Aq C)<|Dr 2 C (A2 (α:=Int) (xs:=M) Ab ef C C A5 om oo)<|Dr 3 C (B6 (xs:=M) ef C A5 om oo)<|Dr 4 C (B5 C7 M4 C C om oo)<|Dr 5 C (Fm (xs:=ab) M4 C (Dl mm) om oo)<|Dr 6 C (Aq C)<|Ds1 7<|Se C (Ac c_ C C<|ac5<|e_ (eo<|(e_ (ek nd es) v) &&& (left &&& ~~~(1#64 <<< (v).toNat))) (j:Int)) ?_
    rintro _ _ ⟨_,_,⟨rfl,rfl⟩,rfl,rfl⟩
    refine ⟨Ah,?_⟩
    refine Dr 8 C (Ey (a:=e_ ab (e_ M<|e_ (eo<|(e_ (ek nd es) v) &&& (left &&& ~~~(1#64 <<< (v).toNat))) (j:Int))) (b:=H9 (e_ (eo<|(e_ (ek nd es) v) &&& (left &&& ~~~(1#64 <<< (v).toNat))) (j:Int))) C C)<|Dr 9 C (B5 C7 M4 C C om oo)<|Cg kr ?_
    refine Ae 10 C (Eff.du7 (xs:=ab) (i:=e_ M (e_ (eo<|(e_ (ek nd es) v) &&& (left &&& ~~~(1#64 <<< (v).toNat))) (j:Int))) (n:=(e_ ab<|e_ M<|e_ (eo<|(e_ (ek nd es) v) &&& (left &&& ~~~(1#64 <<< (v).toNat))) (j:Int)) &&& ~~~(H9<|e_ (eo<|(e_ (ek nd es) v) &&& (left &&& ~~~(1#64 <<< (v).toNat))) (j:Int))) M4 C C C om oo am) ?_
    rintro _ _ ⟨rfl,rfl⟩
    refine Ch kr ?_
    refine Ao<|A1 (S11 14 2 3 4 5 6 9 10 90 91 92)<|Ak<|Gm C<|Gm C<|Gr (A2 (α:=Int) (xs:=M) Ab ef C C A5 om oo)<|Gr (B6 (xs:=M) ef C A5 om oo)<|Gr (Rsu C C)<|Gr (A2 (α:=Int) (xs:=M) Ab ef C C A5 om oo)<|Ge0 (Cw (α:=Int) (xs:=M) (e:=3) (new:=(e_ M<|e_ (eo<|(e_ (ek nd es) v) &&& (left &&& ~~~(1#64 <<< (v).toNat))) (j:Int)) - 1) ef C C C om oo am) ?_
    have a4:e_ (List.set M (e_ (eo<|(e_ (ek nd es) v) &&& (left &&& ~~~(1#64 <<< (v).toNat))) (j:Int)).toNat ((e_ M<|e_ (eo<|(e_ (ek nd es) v) &&& (left &&& ~~~(1#64 <<< (v).toNat))) (j:Int)) - 1)) (e_ (eo<|e_ (ek nd es) v &&& (left &&& ~~~(1#64 <<< (v).toNat))) (j:Int))=e_ M (e_ (eo<|e_ (ek nd es) v &&& (left &&& ~~~(1#64 <<< (v).toNat))) (j:Int)) - 1:=by rw [Ei _ _ _ _ om om om,B_ rfl]
    refine Ar<|A1 (S11 14 2 3 4 5 6 9 10 90 91 92)<|Ba mixed<|Bx (vk 3 au ar (eo<|(e_ (ek nd es) v) &&& (left &&& ~~~(1#64 <<< (v).toNat)))::vc 3 (.slice a0 1 1) (([v]:List Int))::vk 3 ap an ((am9 done)++([v]:List Int))::vc 3 (.slice aj (replicate ((ek nd es).length) (default:Int)).length ak) (List.set (br3 (ek nd es).length done) (v).toNat ((((max kk dd):Nat):Int)))::vc 3 (.slice ah (replicate ((ek nd es).length) (default:Int)).length ai) (List.set M (e_ (eo<|(e_ (ek nd es) v) &&& (left &&& ~~~(1#64 <<< (v).toNat))) (j:Int)).toNat ((e_ M<|e_ (eo<|(e_ (ek nd es) v) &&& (left &&& ~~~(1#64 <<< (v).toNat))) (j:Int)) - 1))::e8 b4 (cells (List.set ab (e_ M<|e_ (eo<|(e_ (ek nd es) v) &&& (left &&& ~~~(1#64 <<< (v).toNat))) (j:Int)).toNat ((e_ ab<|e_ M<|e_ (eo<|(e_ (ek nd es) v) &&& (left &&& ~~~(1#64 <<< (v).toNat))) (j:Int)) &&& ~~~(H9<|e_ (eo<|(e_ (ek nd es) v) &&& (left &&& ~~~(1#64 <<< (v).toNat))) (j:Int))):List (BitVec 64))) 208::vk 207 ad ae (ek nd es)::e8 b1 [e7 nd,va] 38::I) 10<|Dr 0 C (Aq C)<|Dr 1 C (Aq C)<|Dr 2 C (A2 (α:=Int) (xs:=List.set M (e_ (eo<|(e_ (ek nd es) v) &&& (left &&& ~~~(1#64 <<< (v).toNat))) (j:Int)).toNat ((e_ M<|e_ (eo<|(e_ (ek nd es) v) &&& (left &&& ~~~(1#64 <<< (v).toNat))) (j:Int)) - 1)) Ab ef C C A5 om oo)<|Dr 3 C (B6 (xs:=List.set M (e_ (eo<|(e_ (ek nd es) v) &&& (left &&& ~~~(1#64 <<< (v).toNat))) (j:Int)).toNat ((e_ M<|e_ (eo<|(e_ (ek nd es) v) &&& (left &&& ~~~(1#64 <<< (v).toNat))) (j:Int)) - 1)) ef C A5 om oo)<|Dr 4 C (B5 C7 M4 C C om oo)<|Dr 5 C (Fm (xs:=List.set ab (e_ M<|e_ (eo<|(e_ (ek nd es) v) &&& (left &&& ~~~(1#64 <<< (v).toNat))) (j:Int)).toNat ((e_ ab<|e_ M<|e_ (eo<|(e_ (ek nd es) v) &&& (left &&& ~~~(1#64 <<< (v).toNat))) (j:Int)) &&& ~~~(H9<|e_ (eo<|(e_ (ek nd es) v) &&& (left &&& ~~~(1#64 <<< (v).toNat))) (j:Int)))) M4 C (Dl mm) om oo)<|Dr 6 C (Aq C)<|Ds1 7<|Se C (Ac c_ C C<|ac5<|e_ (eo<|(e_ (ek nd es) v) &&& (left &&& ~~~(1#64 <<< (v).toNat))) (j:Int)) ?_
    rintro _ _ ⟨_,_,⟨rfl,rfl⟩,rfl,rfl⟩
    refine ⟨Ah,?_⟩
    refine Dr 8 C (Ec (a:=e_ (List.set ab (e_ M<|e_ (eo<|(e_ (ek nd es) v) &&& (left &&& ~~~(1#64 <<< (v).toNat))) (j:Int)).toNat ((e_ ab<|e_ M<|e_ (eo<|(e_ (ek nd es) v) &&& (left &&& ~~~(1#64 <<< (v).toNat))) (j:Int)) &&& ~~~(H9<|e_ (eo<|(e_ (ek nd es) v) &&& (left &&& ~~~(1#64 <<< (v).toNat))) (j:Int)))) (e_ (List.set M (e_ (eo<|(e_ (ek nd es) v) &&& (left &&& ~~~(1#64 <<< (v).toNat))) (j:Int)).toNat ((e_ M<|e_ (eo<|(e_ (ek nd es) v) &&& (left &&& ~~~(1#64 <<< (v).toNat))) (j:Int)) - 1))<|e_ (eo<|(e_ (ek nd es) v) &&& (left &&& ~~~(1#64 <<< (v).toNat))) (j:Int))) (b:=H9 (e_ (eo<|(e_ (ek nd es) v) &&& (left &&& ~~~(1#64 <<< (v).toNat))) (j:Int))) C C)<|Dr 9 C (B5 C7 M4 C C om oo)<|Cg kr ?_
    refine Ae 10 C (Eff.du7 (xs:=List.set ab (e_ M<|e_ (eo<|(e_ (ek nd es) v) &&& (left &&& ~~~(1#64 <<< (v).toNat))) (j:Int)).toNat ((e_ ab<|e_ M<|e_ (eo<|(e_ (ek nd es) v) &&& (left &&& ~~~(1#64 <<< (v).toNat))) (j:Int)) &&& ~~~(H9<|e_ (eo<|(e_ (ek nd es) v) &&& (left &&& ~~~(1#64 <<< (v).toNat))) (j:Int)))) (i:=e_ (List.set M (e_ (eo<|(e_ (ek nd es) v) &&& (left &&& ~~~(1#64 <<< (v).toNat))) (j:Int)).toNat ((e_ M<|e_ (eo<|(e_ (ek nd es) v) &&& (left &&& ~~~(1#64 <<< (v).toNat))) (j:Int)) - 1)) (e_ (eo<|(e_ (ek nd es) v) &&& (left &&& ~~~(1#64 <<< (v).toNat))) (j:Int))) (n:=(e_ (List.set ab (e_ M<|e_ (eo<|(e_ (ek nd es) v) &&& (left &&& ~~~(1#64 <<< (v).toNat))) (j:Int)).toNat ((e_ ab<|e_ M<|e_ (eo<|(e_ (ek nd es) v) &&& (left &&& ~~~(1#64 <<< (v).toNat))) (j:Int)) &&& ~~~(H9<|e_ (eo<|(e_ (ek nd es) v) &&& (left &&& ~~~(1#64 <<< (v).toNat))) (j:Int))))<|e_ (List.set M (e_ (eo<|(e_ (ek nd es) v) &&& (left &&& ~~~(1#64 <<< (v).toNat))) (j:Int)).toNat ((e_ M<|e_ (eo<|(e_ (ek nd es) v) &&& (left &&& ~~~(1#64 <<< (v).toNat))) (j:Int)) - 1))<|e_ (eo<|(e_ (ek nd es) v) &&& (left &&& ~~~(1#64 <<< (v).toNat))) (j:Int)) ||| (H9<|e_ (eo<|(e_ (ek nd es) v) &&& (left &&& ~~~(1#64 <<< (v).toNat))) (j:Int))) M4 C C C om oo am) ?_
    rintro _ _ ⟨rfl,rfl⟩
    refine Ch kr ?_
    exact Av<|Ao<|A1 (S10 2 3 4 5 6 9 10 90 91 92)<|A6<|Gr (Rad C C)<|Gm C<|Bq<|Bt ((j+1),(List.set M (e_ (eo<|(e_ (ek nd es) v) &&& (left &&& ~~~(1#64 <<< (v).toNat))) (j:Int)).toNat ((e_ M<|e_ (eo<|(e_ (ek nd es) v) &&& (left &&& ~~~(1#64 <<< (v).toNat))) (j:Int)) - 1)),(List.set (List.set ab (e_ M<|e_ (eo<|(e_ (ek nd es) v) &&& (left &&& ~~~(1#64 <<< (v).toNat))) (j:Int)).toNat ((e_ ab<|e_ M<|e_ (eo<|(e_ (ek nd es) v) &&& (left &&& ~~~(1#64 <<< (v).toNat))) (j:Int)) &&& ~~~(H9<|e_ (eo<|(e_ (ek nd es) v) &&& (left &&& ~~~(1#64 <<< (v).toNat))) (j:Int)))) (e_ (List.set M (e_ (eo<|(e_ (ek nd es) v) &&& (left &&& ~~~(1#64 <<< (v).toNat))) (j:Int)).toNat ((e_ M<|e_ (eo<|(e_ (ek nd es) v) &&& (left &&& ~~~(1#64 <<< (v).toNat))) (j:Int)) - 1))<|e_ (eo<|(e_ (ek nd es) v) &&& (left &&& ~~~(1#64 <<< (v).toNat))) (j:Int)).toNat ((e_ (List.set ab (e_ M<|e_ (eo<|(e_ (ek nd es) v) &&& (left &&& ~~~(1#64 <<< (v).toNat))) (j:Int)).toNat ((e_ ab<|e_ M<|e_ (eo<|(e_ (ek nd es) v) &&& (left &&& ~~~(1#64 <<< (v).toNat))) (j:Int)) &&& ~~~(H9<|e_ (eo<|(e_ (ek nd es) v) &&& (left &&& ~~~(1#64 <<< (v).toNat))) (j:Int))))<|e_ (List.set M (e_ (eo<|(e_ (ek nd es) v) &&& (left &&& ~~~(1#64 <<< (v).toNat))) (j:Int)).toNat ((e_ M<|e_ (eo<|(e_ (ek nd es) v) &&& (left &&& ~~~(1#64 <<< (v).toNat))) (j:Int)) - 1))<|e_ (eo<|(e_ (ek nd es) v) &&& (left &&& ~~~(1#64 <<< (v).toNat))) (j:Int)) ||| (H9<|e_ (eo<|(e_ (ek nd es) v) &&& (left &&& ~~~(1#64 <<< (v).toNat))) (j:Int)))))<|by dsimp only;exact ⟨om,(by have hN:=aw.lower om (w:=(e_ (eo<|e_ (ek nd es) v &&& (left &&& ~~~(1#64 <<< (v).toNat))) (j:Int))) (e:=e_ M (e_ (eo<|e_ (ek nd es) v &&& (left &&& ~~~(1#64 <<< (v).toNat))) (j:Int))) az.1 a1.symm om om (dg':=cu6 (ek nd es) left (eo<|e_ (ek nd es) v &&& (left &&& ~~~(1#64 <<< (v).toNat))) (j+1)) (λu _=>bz2 om (Df _) u);rw [a4,ca3 om om];exact hN)⟩
   exact Ci<|Aw<|Aw<|Bi<|Ao<|Ci<|V.ax0 C<|Aw<|Aw<|V.ax0 C<|Bi<|Bt ((done++[(v,max kk dd)]),((left &&& ~~~(1#64 <<< (v).toNat))),(max kk dd),(M),(ab),(ap),(an)) (by dsimp only;exact ⟨(dm1 hc a6 om),(aw.congr (λu=>Iff.rfl) (λu hu=>by have hr:=aw.rng u hu;exact (fa4 hS om om ay hr.1 hr.2 hu om).symm)),(by have:=aa8 ay;simp only [By,E_,Fu];omega),om⟩) (hlt:=by (try dsimp only);exact (by have:=aa8 ay;omega)) (hL:=(Aa (Db C<|by first|rfl|(rw [ai6])|simp)<|cx4<|Aa (Db C<|by first|rfl|(rw [ai6])|simp)<|Aa C Bb)) (hI:=by (try dsimp only);exact (by rw [ai6,df9];exact Az))
  exact (av.some (Ft.1<|λh=>h asm) ax<|λc h1 h2=>hz c h1 om).elim
 refine Ci<|Aw<|Aw<|Bi<|Ao<|Ak<|Gm C<|Gm C<|Ga C<|Ga C<|Ar<|B3<|V.dy2 ?_
 have bp:left=0#64:=Ft.1 be
 have bj:done=bg6 nd es:=by rw [←hc,bp,bn3,Gq]
 subst bj
 have a8:=at0 nd es
 exact C3 C C C (vk 3 ao co (fp3 nd es)::vk 3 aj ak (dm6 nd es)::I) (by unfold vk;rw [a8];simp only [Fy];exact Az) ⟨ao,co,aj,ak,by rw [a8];simp only [Fy];rfl,rfl⟩
end Go.Sl
namespace Go.Sl
open Go.Proofs
set_option maxRecDepth 4000
attribute [local irreducible] W G V D A j8 Eff
theorem bi7{κ:Ctx}{I:List Item}{nd:Int}{va:Value}{es:List Pt}(hl:Sl κ I va es)(hT:F4 κ I 0 p6):eu prog κ 83 [.agg #[e7 nd,va]] I (λr J=>∃a c,r = .tuple #[.slice a (j9 nd es).length c,e7 (F6 nd es)]/\J=vk 3 a c (j9 nd es)::I):=by
 refine Ce1 Tryz.func83 C C ?_
 refine Ak<|Ge1 (Au (cs:=[_,_]) C C C) λb1=>Z ?_
 refine Gc0 (Ac c_ C C<|V1<|A4 hl)<|Z ?_
 refine Am C (λc10=>Z ?_)<|λc10=>Z ?_
 ·have hX:(j9 nd es)=[]:=B_ c10
  exact C3 C C C (vk 3 none 0 (j9 nd es)::I) (by unfold vk;rw [hX];exact A9 (show Fit κ _ I from Ah)<|B7 (α:=Int) _ _) ⟨none,0,by rw [hX];rfl,rfl⟩
 refine G.e (Ac c_ C C<|fh8 (nd:=nd) (A4 hl) (s4.1<|Ft.1 c10)<|A8 hT Ah) ?_
 rintro _ _ ⟨_,_,⟨ad,ab,M,aa,rfl,rfl⟩,rfl,rfl⟩
 refine Z ?_
 have hX:(j9 nd es)=_:=An c10
 have hz:F6 nd es=0:=Ft.1 c10
 exact C3 C C C (vk 3 M aa (j9 nd es)::I) (by unfold vk;rw [hX];exact Ai) ⟨M,aa,by rw [hX,hz]<;>rfl,rfl⟩
theorem bz6(nd:Int)(es:List Pt):(j9 nd es).length<=64:=by
 unfold j9
 split
 ·simp
 rw [at0,ad9];omega
end Go.Sl
namespace Go.Sl
open Go.Proofs
set_option maxRecDepth 4000
end Go.Sl
