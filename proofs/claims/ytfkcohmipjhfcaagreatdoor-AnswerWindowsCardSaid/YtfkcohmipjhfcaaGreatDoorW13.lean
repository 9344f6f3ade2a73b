/- A part of the proofs of statements of this seat: contracts of functions, and the plain laws that they lean on. No conditions. -/
import Derived.Test.YtfkcohmipjhfcaaGreatDoorW10
import Derived.ScopeJumps
set_option linter.unusedVariables false
set_option linter.unusedSimpArgs false
set_option linter.unusedSectionVars false
open Go.Proofs.Tryz (prog)
namespace Go.Sl
def valN:List Nat->Nat
 |[]=>0
 |b::bs=>2 ^ 8*valN bs+b
theorem and_dig{a b c d:Nat}(hb:b<2 ^ 8)(hd:d<2 ^ 8):(2 ^ 8*a+b) &&& (2 ^ 8*c+d)=2 ^ 8*(a &&& c)+(b &&& d):=by
 refine Nat.eq_of_testBit_eq λj=>?_
 rw [Nat.testBit_and,Nat.testBit_two_pow_mul_add _ hb,Nat.testBit_two_pow_mul_add _ hd,Nat.testBit_two_pow_mul_add _ (Nat.and_lt_two_pow _ hd)]
 by_cases h:j<8
 ·rw [if_pos h,if_pos h,if_pos h,Nat.testBit_and]
 ·rw [if_neg h,if_neg h,if_neg h,Nat.testBit_and]
def repN(c:Nat)(k:Nat):Nat:=valN (List.replicate k c)
theorem repN_succ(c k:Nat):repN c (k+1)=2 ^ 8*repN c k+c:=rfl
def p1(b:Nat):Nat:=((b / 2) &&& 85)+(b &&& 85)
def p2(b:Nat):Nat:=((b / 4) &&& 51)+(b &&& 51)
def p3(b:Nat):Nat:=(b / 16+b) % 16
theorem c1:∀t:Fin 2,∀x:Fin 128,(128*t.val+x.val) &&& 85=x.val &&& 85:=by decide+kernel
theorem c2:∀t:Fin 4,∀x:Fin 64,(64*t.val+x.val) &&& 51=x.val &&& 51:=by decide+kernel
theorem b1:∀b:Fin 256,p1 b.val<256/\p2 (p1 b.val) % 16<=4/\p2 (p1 b.val) / 16<=4/\p3 (p2 (p1 b.val))<=8/\p3 (p2 (p1 b.val))=((List.range 8).filter λj=>b.val.testBit j).length:=by decide+kernel
theorem step1:∀bs:List Nat,(∀b∈bs,b<256)->((valN bs / 2) &&& repN 85 bs.length)+(valN bs &&& repN 85 bs.length)=valN (bs.map p1)
 |[],_=>rfl
 |b::bs,h=>by
  have hb:=h b List.mem_cons_self
  have ih:=step1 bs λx hx=>h x (List.mem_cons_of_mem _ hx)
  rw [List.length_cons,repN_succ,List.map_cons]
  simp only [valN]
  have e:(2 ^ 8*valN bs+b) / 2=2 ^ 8*(valN bs / 2)+(128*(valN bs % 2)+b / 2):=by omega
  have hc:=c1 ⟨valN bs % 2,by omega⟩ ⟨b / 2,by omega⟩
  simp only at hc
  rw [e,and_dig (by omega) (by decide),and_dig (by omega) (by decide),hc]
  rw [show p1 b=(b / 2 &&& 85)+(b &&& 85) from rfl]
  omega
theorem step2:∀bs:List Nat,(∀b∈bs,b<256)->((valN bs / 4) &&& repN 51 bs.length)+(valN bs &&& repN 51 bs.length)=valN (bs.map p2)
 |[],_=>rfl
 |b::bs,h=>by
  have hb:=h b List.mem_cons_self
  have ih:=step2 bs λx hx=>h x (List.mem_cons_of_mem _ hx)
  rw [List.length_cons,repN_succ,List.map_cons]
  simp only [valN]
  have e:(2 ^ 8*valN bs+b) / 4=2 ^ 8*(valN bs / 4)+(64*(valN bs % 4)+b / 4):=by omega
  have hc:=c2 ⟨valN bs % 4,by omega⟩ ⟨b / 4,by omega⟩
  simp only at hc
  rw [e,and_dig (by omega) (by decide),and_dig (by omega) (by decide),hc]
  rw [show p2 b=(b / 4 &&& 51)+(b &&& 51) from rfl]
  omega
theorem step3:∀bs:List Nat,(∀b∈bs,b % 16<=4/\b / 16<=4)->(valN bs / 16+valN bs) &&& repN 15 bs.length=valN (bs.map p3)
 |[],_=>rfl
 |b::bs,h=>by
  have hb:=h b List.mem_cons_self
  have ih:=step3 bs λx hx=>h x (List.mem_cons_of_mem _ hx)
  have hn:valN bs % 16<=4:=by
   cases bs with
   |nil=>simp [valN]
   |cons c cs=>
    have:=(h c (List.mem_cons_of_mem _ List.mem_cons_self)).1
    simp only [valN];omega
  rw [List.length_cons,repN_succ,List.map_cons]
  simp only [valN]
  have e:(2 ^ 8*valN bs+b) / 16+(2 ^ 8*valN bs+b)=2 ^ 8*(valN bs / 16+valN bs)+(16*(valN bs % 16)+b / 16+b):=by omega
  rw [e,and_dig (by omega) (by decide),ih,show (15:Nat)=2 ^ 4 - 1 by decide,Nat.and_two_pow_sub_one_eq_mod]
  rw [show p3 b=(b / 16+b) % 16 from rfl]
  omega
def bytesN(n:Nat):Nat->List Nat
 |0=>[]
 |k+1=>n % 256::bytesN (n / 256) k
theorem bytesN_len(n k:Nat):(bytesN n k).length=k:=by
 induction k generalizing n with
 |zero=>rfl
 |succ k ih=>simp [bytesN,ih]
theorem bytesN_lt(n k:Nat):∀b∈bytesN n k,b<256:=by
 induction k generalizing n with
 |zero=>intro b hb;cases hb
 |succ k ih=>
  intro b hb
  rcases List.mem_cons.1 hb with rfl|hb
  ·omega
  ·exact ih _ b hb
theorem bytesN_val:∀(k n:Nat),n<256 ^ k->valN (bytesN n k)=n
 |0,n,h=>by simp at h;subst h;rfl
 |k+1,n,h=>by
  rw [Nat.pow_succ] at h
  simp only [bytesN,valN]
  rw [bytesN_val k (n / 256) (by omega)]
  omega
def sumN':List Nat->Nat
 |[]=>0
 |b::bs=>b+sumN' bs
theorem cnt_val:∀bs:List Nat,(∀b∈bs,b<256)->((List.range (8*bs.length)).filter λj=>(valN bs).testBit j).length=sumN' (bs.map λb=>p3 (p2 (p1 b)))
 |[],_=>rfl
 |b::bs,h=>by
  have hb:=h b List.mem_cons_self
  have ih:=cnt_val bs λx hx=>h x (List.mem_cons_of_mem _ hx)
  rw [List.length_cons,show 8*(bs.length+1)=8+8*bs.length by omega,List.range_add,List.filter_append,List.length_append,List.map_cons]
  simp only [sumN',valN]
  rw [←ih,(b1 ⟨b,hb⟩).2.2.2.2,List.filter_map,List.length_map]
  congr 2
  ·refine List.filter_congr λj hj=>?_
   rw [Nat.testBit_two_pow_mul_add _ hb,if_pos (List.mem_range.1 hj)]
  ·refine List.filter_congr λj hj=>?_
   show (2 ^ 8*valN bs+b).testBit (8+j)=_
   rw [Nat.testBit_two_pow_mul_add _ hb,if_neg (by omega),Nat.add_sub_cancel_left]
theorem fold4{d0 d1 d2 m2 m3 n m1 n4:Nat}(h0:d0<=8)(h1:d1<=8)(h2:d2<=8)(en:n=d0+256*d1+65536*m2)(e1:m1=d1+256*d2+65536*m3)(h4:n4=n+m1) :
  n4=(d0+d1)+256*(d1+d2)+65536*(m2+m3)/\n4 / 65536=m2+m3:=by omega
theorem fold5{a b c u n4 n5:Nat}(ha:a<=16)(hb:b<=16)(hc:c<65536)(h4:n4=a+256*b+65536*(c+65536*u))(h5:n5=n4+(c+65536*u)):n5=a+256*b+c+65536*(c+u)+4294967296*u:=by omega
theorem fold6{x c u s t n5:Nat}(hx:x<65536)(hc:c<=5000)(hs:s<=5000)(hu:u=s+65536*t)(h5:n5=x+65536*(c+u)+4294967296*u):n5 / 4294967296=u+t:=by omega
theorem fold_sum{d0 d1 d2 d3 d4 d5 d6 d7 m1 m2 m3 m4 m5 m6 n n4 n5 n6:Nat}(h0:d0<=8)(h1:d1<=8)(h2:d2<=8)(h3:d3<=8)(h4:d4<=8)(h5:d5<=8)(h6:d6<=8)(h7:d7<=8)
  (e6:m6=d6+256*d7) (e5:m5=d5+256*d6+65536*d7) (e4:m4=d4+256*d5+65536*m6) (e3:m3=d3+256*d4+65536*m5) (e2:m2=d2+256*d3+65536*m4) (e1:m1=d1+256*d2+65536*m3) (e0:n=d0+256*d1+65536*m2)
  (g4:n4=n+m1) (g5:n5=n4+n4 / 65536) (g6:n6=n5+n5 / 4294967296):n6 % 128=d0+d1+d2+d3+d4+d5+d6+d7:=by
 obtain ⟨a1,a2⟩:=fold4 h0 h1 h2 e0 e1 g4
 have hc:m2+m3=((d2+d3)+256*(d3+d4))+65536*(m4+m5):=by clear e0 e1 e4 e5 e6 g4 g5 g6 a1 a2;omega
 have hu:m4+m5=((d4+d5)+256*(d5+d6))+65536*(m6+d7):=by clear e0 e1 e2 e3 e6 g4 g5 g6 a1 a2 hc;omega
 rw [a2,hc] at g5
 rw [hc] at a1
 have b1:=fold5 (by omega) (by omega) (by omega) a1 g5
 have b2:=fold6 (x:=d0+d1+256*(d1+d2)+((d2+d3)+256*(d3+d4))) (by omega) (by omega) (by omega) hu b1
 rw [b2] at g6
 clear b2 a2 hc e0 e1 e2 e3 e4 e5 g4 g5 a1
 omega
theorem fold_all{bs:List Nat}{n n4 n5 n6:Nat}(hl:bs.length=8)(hb:∀b∈bs,b<=8)(hn:n=valN bs)(g4:n4=n+n / 256)(g5:n5=n4+n4 / 65536)(g6:n6=n5+n5 / 4294967296):n6 % 128=sumN' bs/\n6<18446744073709551616:=by
 match bs,hl with
 |[d0,d1,d2,d3,d4,d5,d6,d7],_=>
  have k0:=hb d0 (by simp)
  have k1:=hb d1 (by simp)
  have k2:=hb d2 (by simp)
  have k3:=hb d3 (by simp)
  have k4:=hb d4 (by simp)
  have k5:=hb d5 (by simp)
  have k6:=hb d6 (by simp)
  have k7:=hb d7 (by simp)
  obtain ⟨m6,e6⟩:∃m6,m6=d6+256*d7:=⟨_,rfl⟩
  obtain ⟨m5,e5⟩:∃m5,m5=d5+256*d6+65536*d7:=⟨_,rfl⟩
  obtain ⟨m4,e4⟩:∃m4,m4=d4+256*d5+65536*m6:=⟨_,rfl⟩
  obtain ⟨m3,e3⟩:∃m3,m3=d3+256*d4+65536*m5:=⟨_,rfl⟩
  obtain ⟨m2,e2⟩:∃m2,m2=d2+256*d3+65536*m4:=⟨_,rfl⟩
  obtain ⟨m1,e1⟩:∃m1,m1=d1+256*d2+65536*m3:=⟨_,rfl⟩
  have e0:n=d0+256*d1+65536*m2:=by rw [hn];simp only [valN];omega
  have ed:n / 256=m1:=by
   have:n=d0+256*m1:=by clear g4 g5 g6;rw [hn];simp only [valN];omega
   clear e0 e1 e2 e3 e4 e5 e6 g4 g5 g6 hn
   omega
  rw [ed] at g4
  refine ⟨?_,?_⟩
  ·rw [fold_sum k0 k1 k2 k3 k4 k5 k6 k7 e6 e5 e4 e3 e2 e1 e0 g4 g5 g6];simp only [sumN'];omega
  ·have q6:m6<=2056:=by omega
   have q5:m5<=526344:=by omega
   have q4:m4<=134744072:=by clear g4 g5 g6 hn e0 e1 e2 e3 ed;omega
   have q3:m3<=34494482440:=by clear g4 g5 g6 hn e0 e1 e2 e4 ed;omega
   have q2:m2<=8830587504648:=by clear g4 g5 g6 hn e0 e1 e3 e4 e5 e6 ed;omega
   have q1:m1<=2260630401189896:=by clear g4 g5 g6 hn e0 e2 e4 e5 e6 ed;omega
   have q0:n<=578721382704613384:=by clear g4 g5 g6 hn e1 e3 e4 e5 e6 ed;omega
   clear e0 e1 e2 e3 e4 e5 e6 hn ed
   omega
theorem valN_le{c:Nat}:∀bs:List Nat,(∀b∈bs,b<=c)->valN bs<=repN c bs.length
 |[],_=>Nat.le_refl _
 |b::bs,h=>by
  have ih:=valN_le bs λx hx=>h x (List.mem_cons_of_mem _ hx)
  have hb:=h b List.mem_cons_self
  rw [List.length_cons,repN_succ]
  simp only [valN]
  omega
end Go.Sl
namespace Go.Sl
open Go.Proofs
set_option maxRecDepth 4000
variable {κ:Ctx}{I:List Item}
theorem tz_small(m:BitVec 64):0<=tzTab.getD (tzIx m) 0/\tzTab.getD (tzIx m) 0<=64:=by
 have h:∀k:Fin 64,0<=tzTab.getD k.val 0/\tzTab.getD k.val 0<=64:=by decide+kernel
 exact h ⟨tzIx m,tzIx_lt m⟩
theorem Tz_ok(m:BitVec 64)(hT:TabRd κ I 0 tzCells):eu prog κ 234 [U64 m] I (λr J=>r=e7 (tzB m)/\I=J):=by
 refine Ce1 Tryz.func234 C C ?_
 refine Aj (Ga C (Ah (Au (Aj (Gm C (Gr (Runs.eqB (a:=m) (b:=0#64) C C) (Ah (Bd C (λc4=>?_) (λc4=>?_)))))))))
 ·exact Aj (Ga C (Ah (Az (Ar (Ba C C I Ay ⟨by unfold tzB;rw [if_pos c4],rfl⟩)))))
 ·exact A4 (Ai (Aj (Gm C (Gm C (Gr (Runs.negB (a:=m) C) (Gr (C3 (a:=m) (b:= -m) C C) (Gr (Runs.mulB (a:=m &&& (-m)) (b:=285870213051353865#64) C C) (Gr (Fi (a:=(m &&& (-m))*285870213051353865#64) C C om om) (Gr (Runs.idxArrU (i:=tzIx m) Tryz.underlying310 ty5 C C (tzIx_lt m)) (Gr (Runs.loadTab ty5 C (Bw hT Ay) (tzCells_at m)) (Gr (Runs.convI Ff Bo C (by unfold InR;have:=tz_small m;omega)) (Ga C (Ah (Av (S1 2 C) (Az (Ba C C I Ay ⟨by unfold tzB;rw [if_neg c4],rfl⟩))))))))))))))))
theorem Least_ok(m:BitVec 64)(hT:TabRd κ I 0 tzCells):eu prog κ 238 [U64 m] I (λr J=>r=e7 (tzB m)/\I=J):=by
 refine Ce1 Tryz.func238 C C ?_
 refine Aj (Ga C (Ah (Aj (Gm C (G.e (Am call234 C C (Tz_ok m (Bw hT Ay))) ?_)))))
 rintro _ _ ⟨_,_,⟨rfl,rfl⟩,rfl,rfl⟩
 exact Ga C (Ah (Az (Ba C C I Ay ⟨rfl,rfl⟩)))
theorem MList_ok(m:BitVec 64)(hT:TabRd κ I 0 tzCells):eu prog κ 171 [U64 m] I (λr J=>∃a c,r = .slice a (eo m).length c/\J=vc 3 (.slice a (eo m).length c) (eo m)::I):=by
 refine Ce1 Tryz.func171 C C ?_
 refine Aj (Ga C (Ah (Aj (Ga C (Ah (Au (A6 (Ca (σ:=(BitVec 64)×(Option Addr)×Nat×(List Int)) (λs=>([(0,U64 (s.1)),(3,.slice s.2.1 s.2.2.2.length s.2.2.1)]:Env)) (λs=>vc 3 (.slice s.2.1 s.2.2.2.length s.2.2.1) (s.2.2.2)::I) (λs=>(eo m=s.2.2.2++eo s.1)) (λs=>(eo s.1).length) (m,none,0,[]) C (Aa (Da C (by first|rfl|simp)) (Aa (Da C (by first|rfl|simp)) Bq)) (B9 _ _) ?_))))))))
 rintro ⟨n,a,c,out⟩ hp
 dsimp only at hp ⊢
 have ho:=hp
 have hol:=congrArg List.length ho
 rw [List.length_append] at hol
 have hml:=Em m
 refine Au (Aj (Gm C (Gr (Eh (a:=n) (b:=0#64) C C) (Ah (Bd C (λc5=>?_) (λc5=>?_))))))
 ·refine A4 (Ai (Au (A6 (A0 (Gm C (Gm C (G.e (Am call234 C C (Tz_ok n (Bw hT Ay))) ?_)))))))
  rintro _ _ ⟨_,_,⟨rfl,rfl⟩,rfl,rfl⟩
  refine Ge1 (Cj (α:=Int) (cs:=[_]) (xs:=[tzB n]) Ad ef C C dc dc C C C C) λad1=>?_
  refine Ge2 (Cn (α:=Int) (e:=3) (xs:=out) (ys:=([tzB n]:List Int)) Ad ef C C C mm Bk lcn dc C (λ_ _=>am)) λad2 cp3=>?_
  exact Ga C (Bf (Ak (Ai (A0 (Gm C (Gm C (Gr (Runs.subB (a:=n) (b:=1#64) C C) (Gr (C3 (a:=n) (b:=n - (1#64)) C C) (Ga C (Bf (Ch ((n &&& (n - (1#64))),(ad2),(cp3),(out++([tzB n]:List Int))) (by dsimp only;exact (by rw [ho,listB_step c5,List.append_assoc];rfl)) (hlt:=by (try dsimp only);exact (listB_less c5)))))))))))))
 ·refine Bp (Ac (Ac (Aw (Ai (Aj (Gm C (Ga C (Ah (Az ?_)))))))))
  have hn0:n=0#64:=Classical.not_not.1 c5
  have hE:out=eo m:=by rw [ho,hn0,Du,List.append_nil]
  subst hE
  exact Ba C C (vc 3 (.slice a (eo m).length c) (eo m)::I) A5 ⟨a,c,rfl,rfl⟩
theorem ones1_val{m:BitVec 64}{bs:List Nat}(hl:bs.length=8)(hb:∀b∈bs,b<256)(hm:m.toNat=valN bs):(ones1 m).toNat=valN (bs.map p1):=by
 unfold ones1
 have hle:valN (bs.map p1)<=repN 255 8:=by
  have:=valN_le (c:=255) (bs.map p1) λb h=>by obtain ⟨x,hx,rfl⟩:=List.mem_map.1 h;have:=(b1 ⟨x,hb x hx⟩).1;simp only at this;omega
  rwa [List.length_map,hl] at this
 rw [BitVec.toNat_add,BitVec.toNat_and,BitVec.toNat_and,BitVec.toNat_ushiftRight,Nat.shiftRight_eq_div_pow,show 2 ^ (1:Int).toNat=2 from rfl,hm,show (6148914691236517205#64).toNat=repN 85 bs.length by rw [hl];decide+kernel,step1 bs hb]
 exact Nat.mod_eq_of_lt (Nat.lt_of_le_of_lt hle (by decide+kernel))
theorem ones2_val{m:BitVec 64}{bs:List Nat}(hl:bs.length=8)(hb:∀b∈bs,b<256/\p2 b<256)(hm:m.toNat=valN bs):(ones2 m).toNat=valN (bs.map p2):=by
 unfold ones2
 have hle:valN (bs.map p2)<=repN 255 8:=by
  have:=valN_le (c:=255) (bs.map p2) λb h=>by obtain ⟨x,hx,rfl⟩:=List.mem_map.1 h;have:=(hb x hx).2;omega
  rwa [List.length_map,hl] at this
 rw [BitVec.toNat_add,BitVec.toNat_and,BitVec.toNat_and,BitVec.toNat_ushiftRight,Nat.shiftRight_eq_div_pow,show 2 ^ (2:Int).toNat=4 from rfl,hm,show (3689348814741910323#64).toNat=repN 51 bs.length by rw [hl];decide+kernel,step2 bs λb h=>(hb b h).1]
 exact Nat.mod_eq_of_lt (Nat.lt_of_le_of_lt hle (by decide+kernel))
theorem ones3_val{m:BitVec 64}{bs:List Nat}(hl:bs.length=8)(hb:∀b∈bs,b % 16<=4/\b / 16<=4)(hm:m.toNat=valN bs):(ones3 m).toNat=valN (bs.map p3):=by
 unfold ones3
 have hle:valN bs<=repN 68 8:=by
  have:=valN_le (c:=68) bs λb h=>by have:=hb b h;omega
  rwa [hl] at this
 have hr:repN 68 8=4919131752989213764:=by decide+kernel
 rw [BitVec.toNat_and,BitVec.toNat_add,BitVec.toNat_ushiftRight,Nat.shiftRight_eq_div_pow,show 2 ^ (4:Int).toNat=16 from rfl,hm,show (1085102592571150095#64).toNat=repN 15 bs.length by rw [hl];decide+kernel,Nat.mod_eq_of_lt om,step3 bs hb]
theorem ones_pop(m:BitVec 64):onesB m=((eo m).length:Int):=by
 unfold onesB
 have hl:=bytesN_len m.toNat 8
 have hlt:=bytesN_lt m.toNat 8
 have hv:=bytesN_val 8 m.toNat (Nat.lt_of_lt_of_le m.isLt dc)
 generalize bytesN m.toNat 8=bs at hl hlt hv
 have hb:=λb (h:b∈bs)=>b1 ⟨b,hlt b h⟩
 have e1:=ones1_val hl hlt hv.symm
 have e2:=ones2_val (bs:=bs.map p1) (by rw [List.length_map,hl]) (λb h=>by obtain ⟨x,hx,rfl⟩:=List.mem_map.1 h;have:=hb x hx;simp only at this;exact ⟨this.1,by omega⟩) e1
 have e3:=ones3_val (bs:=(bs.map p1).map p2) (by rw [List.length_map,List.length_map,hl]) (λb h=>by obtain ⟨y,hy,rfl⟩:=List.mem_map.1 h;obtain ⟨x,hx,rfl⟩:=List.mem_map.1 hy;have:=hb x hx;simp only at this;exact ⟨this.2.1,this.2.2.1⟩) e2
 generalize ones3 (ones2 (ones1 m))=a at e3
 have hc:valN bs=m.toNat:=hv
 have hcnt:=cnt_val bs hlt
 obtain ⟨f1,f2⟩:=fold_all (n:=a.toNat) (n4:=a.toNat+a.toNat / 256) (n5:=a.toNat+a.toNat / 256+(a.toNat+a.toNat / 256) / 65536) (n6:=a.toNat+a.toNat / 256+(a.toNat+a.toNat / 256) / 65536+(a.toNat+a.toNat / 256+(a.toNat+a.toNat / 256) / 65536) / 4294967296)
  (bs:=((bs.map p1).map p2).map p3) (by rw [List.length_map,List.length_map,List.length_map,hl]) (λb h=>by obtain ⟨z,hz,rfl⟩:=List.mem_map.1 h;obtain ⟨y,hy,rfl⟩:=List.mem_map.1 hz;obtain ⟨x,hx,rfl⟩:=List.mem_map.1 hy;have:=hb x hx;simp only at this;exact this.2.2.2.1) e3 rfl rfl rfl
 have g4:(ones4 a).toNat=a.toNat+a.toNat / 256:=by
  unfold ones4;rw [BitVec.toNat_add,BitVec.toNat_ushiftRight,Nat.shiftRight_eq_div_pow,show 2 ^ (8:Int).toNat=256 from rfl];exact Nat.mod_eq_of_lt om
 have g5:(ones5 (ones4 a)).toNat=a.toNat+a.toNat / 256+(a.toNat+a.toNat / 256) / 65536:=by
  unfold ones5;rw [BitVec.toNat_add,BitVec.toNat_ushiftRight,Nat.shiftRight_eq_div_pow,show 2 ^ (16:Int).toNat=65536 from rfl,g4];exact Nat.mod_eq_of_lt om
 have g6:(ones6 (ones5 (ones4 a))).toNat=a.toNat+a.toNat / 256+(a.toNat+a.toNat / 256) / 65536+(a.toNat+a.toNat / 256+(a.toNat+a.toNat / 256) / 65536) / 4294967296:=by
  unfold ones6;rw [BitVec.toNat_add,BitVec.toNat_ushiftRight,Nat.shiftRight_eq_div_pow,show 2 ^ (32:Int).toNat=4294967296 from rfl,g5];exact Nat.mod_eq_of_lt om
 have hL:(eo m).length=sumN' (((bs.map p1).map p2).map p3):=by
  unfold eo listN
  rw [List.length_map,List.map_map,List.map_map,show (λi=>m.getLsbD i)=λj=>(valN bs).testBit j from by funext j;rw [hc];rfl]
  rw [hl] at hcnt
  exact hcnt
 rw [g6,hL,←f1]
 omega
def meetL(xs ys:List Int):List Int:=(ofL xs).filter λx=>decide (x∈ys)
theorem mem_meetL{xs ys:List Int}{x:Int}:x∈meetL xs ys↔x∈xs/\x∈ys:=by simp [meetL,mem_ofL]
def rangeI(n:Int):List Int:=(List.range (min n 64).toNat).map λj:Nat=>(j:Int)
theorem mem_rangeI{n x:Int}:x∈rangeI n↔0<=x/\x<n/\x<64:=by
 unfold rangeI
 rw [List.mem_map]
 constructor
 ·rintro ⟨j,hj,rfl⟩;rw [List.mem_range] at hj;omega
 ·rintro ⟨h1,h2,h3⟩;exact ⟨x.toNat,by rw [List.mem_range];omega,by omega⟩
theorem insideN_ok{nd:Int}{es:List Pt}{set:List Int}(h:GrOk nd es):insideN nd es set=(es.filter λe=>decide (e.u∈set/\e.v∈set)).length:=by
 unfold insideN;rw [if_neg (by rw [checkG_ok.2 h];decide),insideL_eq set h]
end Go.Sl
namespace Go.Sl
def reachL(rows:List (BitVec 64))(w:BitVec 64):Nat->BitVec 64->BitVec 64->BitVec 64
 |0,_,frm=>frm
 |n+1,front,frm=>if front=0#64 then frm else reachL rows w n ((front &&& (front - 1#64)) ||| (e_ rows (tzB front) &&& w &&& ~~~frm)) (frm ||| (e_ rows (tzB front) &&& w &&& ~~~frm))
def reachB(rows:List (BitVec 64))(f w:BitVec 64):BitVec 64:=reachL rows w 64 (f &&& w) (f &&& w)
structure ReachI (rows:List (BitVec 64)) (f w front frm:BitVec 64):Prop where
 start:∀i:Nat,(f &&& w).getLsbD i=true->frm.getLsbD i=true
 sub:∀i:Nat,frm.getLsbD i=true->w.getLsbD i=true
 fsub:∀i:Nat,front.getLsbD i=true->frm.getLsbD i=true
 closed:∀i j:Nat,frm.getLsbD i=true->front.getLsbD i=false->(e_ rows i).getLsbD j=true->w.getLsbD j=true->frm.getLsbD j=true
 least:∀X:Nat->Prop,(∀i:Nat,(f &&& w).getLsbD i=true->X i)->(∀i j:Nat,X i->w.getLsbD i=true->(e_ rows i).getLsbD j=true->w.getLsbD j=true->X j)->∀i:Nat,frm.getLsbD i=true->X i
structure ReachP (rows:List (BitVec 64)) (f w M:BitVec 64):Prop where
 start:∀i:Nat,(f &&& w).getLsbD i=true->M.getLsbD i=true
 sub:∀i:Nat,M.getLsbD i=true->w.getLsbD i=true
 closed:∀i j:Nat,M.getLsbD i=true->(e_ rows i).getLsbD j=true->w.getLsbD j=true->M.getLsbD j=true
 least:∀X:Nat->Prop,(∀i:Nat,(f &&& w).getLsbD i=true->X i)->(∀i j:Nat,X i->w.getLsbD i=true->(e_ rows i).getLsbD j=true->w.getLsbD j=true->X j)->∀i:Nat,M.getLsbD i=true->X i
theorem ReachP.uniq{rows:List (BitVec 64)}{f w M N:BitVec 64}(h:ReachP rows f w M)(k:ReachP rows f w N):M=N:=by
 refine BitVec.eq_of_getLsbD_eq λi _=>?_
 have e1:=h.least (λi=>N.getLsbD i=true) k.start (λi j a _ b c=>k.closed i j a b c) i
 have e2:=k.least (λi=>M.getLsbD i=true) h.start (λi j a _ b c=>h.closed i j a b c) i
 cases h1:M.getLsbD i<;>cases h2:N.getLsbD i<;>simp_all
theorem ReachI.begin{rows:List (BitVec 64)}{f w:BitVec 64}:ReachI rows f w (f &&& w) (f &&& w):=
 ⟨λi h=>h,λi h=>by rw [BitVec.getLsbD_and,Bool.and_eq_true] at h;exact h.2,λi h=>h,λi j h h'=>absurd h (by rw [h'];decide),λX h _ i hi=>h i hi⟩
theorem ReachI.done{rows:List (BitVec 64)}{f w M:BitVec 64}(h:ReachI rows f w 0#64 M):ReachP rows f w M:=
 ⟨h.start,h.sub,λi j a b c=>h.closed i j a (by simp) b c,h.least⟩
def reachM(w front frm:BitVec 64):Nat:=(listN (w &&& ~~~(frm &&& ~~~front))).length
theorem listN_lt{a b:BitVec 64}(h:∀i:Nat,a.getLsbD i=true->b.getLsbD i=true){k:Nat}(ha:a.getLsbD k=false)(hb:b.getLsbD k=true):(listN a).length<(listN b).length:=by
 have hn:(k::listN a).Nodup:=List.nodup_cons.2 ⟨λhm=>by {rw [mem_listN,ha] at hm;exact absurd hm (by decide)},(listN_asc a).imp λh=>by omega⟩
 exact List.Nodup.length_le_of_subset hn λi hi=>by
  rcases List.mem_cons.1 hi with rfl|h1
  ·exact mem_listN.2 hb
  ·exact mem_listN.2 (h i (mem_listN.1 h1))
theorem ReachI.step{rows:List (BitVec 64)}{f w front frm:BitVec 64}(h:ReachI rows f w front frm)(hf:front≠0#64) :
  ReachI rows f w ((front &&& (front - 1#64)) ||| (e_ rows (tzB front) &&& w &&& ~~~frm)) (frm ||| (e_ rows (tzB front) &&& w &&& ~~~frm))/\reachM w ((front &&& (front - 1#64)) ||| (e_ rows (tzB front) &&& w &&& ~~~frm)) (frm ||| (e_ rows (tzB front) &&& w &&& ~~~frm))<reachM w front frm:=by
 obtain ⟨k,hk,hkb,hlt,he,hp⟩:=least_bit hf
 have htz:tzB front=(k:Int):=tzB_eq hf hk he
 rw [htz]
 have hf1:∀i:Nat,(frm ||| (e_ rows k &&& w &&& ~~~frm)).getLsbD i=true↔(frm.getLsbD i=true\/((e_ rows k).getLsbD i=true/\w.getLsbD i=true)):=λi=>by
  by_cases hi:i<64
  ·simp only [BitVec.getLsbD_or,BitVec.getLsbD_and,BitVec.getLsbD_not,hi,decide_true,Bool.true_and]
   cases frm.getLsbD i<;>simp
  ·simp [BitVec.getLsbD_of_ge _ _ (show 64<=i by omega)]
 have hf2:∀i:Nat,((front &&& (front - 1#64)) ||| (e_ rows k &&& w &&& ~~~frm)).getLsbD i=true↔((front.getLsbD i=true/\i≠k)\/((e_ rows k).getLsbD i=true/\w.getLsbD i=true/\frm.getLsbD i=false)):=λi=>by
  by_cases hi:i<64
  ·simp only [BitVec.getLsbD_or,BitVec.getLsbD_and,BitVec.getLsbD_not,hi,decide_true,Bool.true_and]
   have:=hp i
   rw [BitVec.getLsbD_and] at this
   rw [this]
   cases frm.getLsbD i<;>simp
  ·simp [BitVec.getLsbD_of_ge _ _ (show 64<=i by omega)]
 have hkf:=h.fsub k hkb
 have hkw:=h.sub k hkf
 refine ⟨⟨λi hi=>(hf1 i).2 (.inl (h.start i hi)),λi hi=>?_,λi hi=>?_,λi j hi hj hr hw=>?_,λX h1 h2 i hi=>?_⟩,?_⟩
 ·rcases (hf1 i).1 hi with h1|h1
  ·exact h.sub i h1
  ·exact h1.2
 ·rcases (hf2 i).1 hi with h1|h1
  ·exact (hf1 i).2 (.inl (h.fsub i h1.1))
  ·exact (hf1 i).2 (.inr ⟨h1.1,h1.2.1⟩)
 ·have hn:¬((front.getLsbD i=true/\i≠k)\/((e_ rows k).getLsbD i=true/\w.getLsbD i=true/\frm.getLsbD i=false)):=λhh=>by rw [(hf2 i).2 hh] at hj;cases hj
  by_cases hik:i=k
  ·subst hik;exact (hf1 j).2 (.inr ⟨hr,hw⟩)
  ·rcases (hf1 i).1 hi with h1|h1
   ·have h3:front.getLsbD i=false:=by
     cases h4:front.getLsbD i
     ·rfl
     ·exact absurd (.inl ⟨h4,hik⟩) hn
    exact (hf1 j).2 (.inl (h.closed i j h1 h3 hr hw))
   ·have h3:frm.getLsbD i=true:=by
     cases h4:frm.getLsbD i
     ·exact absurd (.inr ⟨h1.1,h1.2,h4⟩) hn
     ·rfl
    have h3':front.getLsbD i=false:=by
     cases h4:front.getLsbD i
     ·rfl
     ·exact absurd (.inl ⟨h4,hik⟩) hn
    exact (hf1 j).2 (.inl (h.closed i j h3 h3' hr hw))
 ·rcases (hf1 i).1 hi with h3|h3
  ·exact h.least X h1 h2 i h3
  ·exact h2 k i (h.least X h1 h2 k hkf) hkw h3.1 h3.2
 ·unfold reachM
  have hx:∀(a b:BitVec 64) (i:Nat),(w &&& ~~~(b &&& ~~~a)).getLsbD i=true↔(w.getLsbD i=true/\¬(b.getLsbD i=true/\a.getLsbD i=false)):=λa b i=>by
   by_cases hi:i<64
   ·simp only [BitVec.getLsbD_and,BitVec.getLsbD_not,hi,decide_true,Bool.true_and]
    cases a.getLsbD i<;>cases b.getLsbD i<;>simp
   ·simp [BitVec.getLsbD_of_ge _ _ (show 64<=i by omega)]
  refine listN_lt (k:=k) (λi hi=>?_) ?_ ((hx _ _ _).2 ⟨hkw,λhh=>by rw [hkb] at hh;exact absurd hh.2 (by decide)⟩)
  ·obtain ⟨h1,h2⟩:=(hx _ _ _).1 hi
   refine (hx _ _ _).2 ⟨h1,λhh=>h2 ⟨(hf1 i).2 (.inl hh.1),?_⟩⟩
   cases h4:((front &&& (front - 1#64)) ||| (e_ rows k &&& w &&& ~~~frm)).getLsbD i
   ·rfl
   ·rcases (hf2 i).1 h4 with h5|h5
    ·rw [hh.2] at h5;exact absurd h5.1 (by decide)
    ·rw [hh.1] at h5;exact absurd h5.2.2 (by decide)
  ·rw [←Bool.not_eq_true]
   intro hh
   refine ((hx _ _ _).1 hh).2 ⟨(hf1 k).2 (.inl hkf),?_⟩
   cases h4:((front &&& (front - 1#64)) ||| (e_ rows k &&& w &&& ~~~frm)).getLsbD k
   ·rfl
   ·rcases (hf2 k).1 h4 with h5|h5
    ·exact absurd rfl h5.2
    ·rw [hkf] at h5;exact absurd h5.2.2 (by decide)
theorem ReachI.ends{rows:List (BitVec 64)}{f w:BitVec 64}:∀(n:Nat) (front frm:BitVec 64),ReachI rows f w front frm->reachM w front frm<=n->ReachP rows f w (reachL rows w n front frm)
 |0,front,frm,h,hm=>by
  have hz:front=0#64:=Classical.byContradiction λhf=>by have:=(h.step hf).2;omega
  subst hz;exact h.done
 |n+1,front,frm,h,hm=>by
  unfold reachL
  by_cases hf:front=0#64
  ·rw [if_pos hf];subst hf;exact h.done
  ·rw [if_neg hf];exact ReachI.ends n _ _ (h.step hf).1 (by have:=(h.step hf).2;omega)
theorem reachB_ok(rows:List (BitVec 64))(f w:BitVec 64):ReachP rows f w (reachB rows f w):=ReachI.ends 64 _ _ .begin (listN_len _)
theorem ReachI.eq{rows:List (BitVec 64)}{f w M:BitVec 64}(h:ReachI rows f w 0#64 M):M=reachB rows f w:=h.done.uniq (reachB_ok rows f w)
end Go.Sl
namespace Go.Sl
end Go.Sl
namespace Go.Sl
section
variable {α:Type}[Enc α]{κ:Ctx}{I:List Item}
def ownR(e:TypeId)(rs:List (RowG α)):List Item:=rs.map λr=>vc e (.slice r.a r.xs.length r.c) r.xs
end
end Go.Sl
namespace Go.Sl
open Go.Proofs
set_option maxRecDepth 4000
theorem mkF_zero{b:Int}(h:0<b):mkF 0 b=⟨0,1⟩:=by
 have e:gcdI 0 b=b:=by unfold gcdI;simp;omega
 unfold mkF;rw [e,Int.zero_ediv,Int.ediv_self om]
variable {κ:Ctx}{I:List Item}
def rowG(nd:Int)(es:List Pt)(v:Int):BitVec 64:=if v<0\/((ek nd es).length:Int)<=v\/checkG nd es≠0 then 0#64 else e_ (ek nd es) v
def nbL(es:List Pt)(v:Int):List Int:=es.flatMap λe=>(if e.u=v then [e.v] else [])++(if e.v=v then [e.u] else [])
theorem nbL_take{es:List Pt}{k:Nat}(h:k<es.length)(v:Int):nbL (es.take (k+1)) v=nbL (es.take k) v++((if (e_ es k).u=v then [(e_ es k).v] else [])++(if (e_ es k).v=v then [(e_ es k).u] else [])):=by
 unfold nbL;rw [Di es k h,List.flatMap_append];simp
theorem mem_nbL{es:List Pt}{v x:Int}:x∈nbL es v↔(⟨v,x⟩:Pt)∈es\/(⟨x,v⟩:Pt)∈es:=by
 unfold nbL
 rw [List.mem_flatMap]
 constructor
 ·rintro ⟨⟨a,b⟩,he,hx⟩
  rcases List.mem_append.1 hx with h|h
  ·split at h
   ·rename_i h1;simp only [List.mem_singleton] at h;simp only at h1;subst h h1;exact .inl he
   ·simp at h
  ·split at h
   ·rename_i h1;simp only [List.mem_singleton] at h;simp only at h1;subst h h1;exact .inr he
   ·simp at h
 ·rintro (h|h)
  ·exact ⟨_,h,by simp⟩
  ·exact ⟨_,h,by simp⟩
def nbG(nd:Int)(es:List Pt)(v:Int):List Int:=if checkG nd es≠0 then [] else ofL (nbL es v)
theorem nb_eq(nd:Int)(es:List Pt)(v:Int):eo (rowG nd es v)=nbG nd es v:=by
 by_cases hc:checkG nd es≠0
 ·unfold rowG nbG;rw [if_pos (.inr (.inr hc)),if_pos hc,Du]
 ·have hG:=checkG_ok.1 (Classical.not_not.1 hc)
  have hr:=hG.rng
  have hl:=hG.rows.len
  unfold nbG
  rw [if_neg hc]
  refine intLin.uniq (listB_asc _) (ofL_asc _) λx=>?_
  rw [El,mem_ofL,mem_nbL]
  by_cases hv:v<0\/((ek nd es).length:Int)<=v
  ·have hz:rowG nd es v=0#64:=if_pos om
   rw [hz]
   simp only [BitVec.getLsbD_zero,Bool.false_eq_true,and_false,false_iff]
   rintro (h|h)
   ·have:=hG.edge _ h;simp only at this;omega
   ·have:=hG.edge _ h;simp only at this;omega
  ·have hz:rowG nd es v=e_ (ek nd es) v:=if_neg om
   rw [hz]
   by_cases hx:0<=x/\x<64
   ·rw [hG.rows.bit v x om om hx.1 hx.2,decide_eq_true_eq]
    exact ⟨λh=>h.2,λh=>⟨hx.1,h⟩⟩
   ·constructor
    ·rintro ⟨h1,h2⟩
     rw [BitVec.getLsbD_of_ge _ _ om] at h2
     exact absurd h2 dc
    ·rintro (h|h)
     ·have:=hG.edge _ h;simp only at this;omega
     ·have:=hG.edge _ h;simp only at this;omega
theorem nbG_len(nd:Int)(es:List Pt)(v:Int):(nbG nd es v).length<=64:=by rw [←nb_eq];exact Em _
theorem listB_and(a b:BitVec 64):eo (a &&& b)=meetL (eo a) (eo b):=by
 refine intLin.uniq (listB_asc _) ((ofL_asc _).sublist List.filter_sublist) λx=>?_
 rw [mem_meetL,El,El,El,BitVec.getLsbD_and,Bool.and_eq_true]
 exact ⟨λh=>⟨⟨h.1,h.2.1⟩,h.1,h.2.2⟩,λh=>⟨h.1.1,h.1.2,h.2.2⟩⟩
def commonG(nd:Int)(es:List Pt)(u v:Int):List Int:=if u=v then [] else meetL (nbG nd es u) (nbG nd es v)
theorem common_eq{nd:Int}{es:List Pt}{u v:Int}(h:u≠v):eo (rowG nd es u &&& rowG nd es v)=commonG nd es u v:=by
 unfold commonG;rw [if_neg h,listB_and,nb_eq,nb_eq]
def FindP(nd:Int)(es:List Pt)(u v y:Int):Prop:=(checkG nd es=0/\∃j:Nat,y=(j:Int)/\j<es.length/\e_ es j=edgeP u v)\/(y = -1/\(checkG nd es≠0\/edgeP u v∉es))
theorem FindP.uniq{nd:Int}{es:List Pt}{u v y z:Int}(h:FindP nd es u v y)(h':FindP nd es u v z):y=z:=by
 have key:∀{a b:Int},(checkG nd es=0/\∃j:Nat,a=(j:Int)/\j<es.length/\e_ es j=edgeP u v)->(b = -1/\(checkG nd es≠0\/edgeP u v∉es))->False:=by
  rintro a b ⟨hc,j,_,hj,he⟩ ⟨_,h1|h1⟩
  ·exact h1 hc
  ·exact h1 (he▸Cq om om)
 rcases h with h|h<;>rcases h' with h'|h'
 ·obtain ⟨hc,j,rfl,hj,he⟩:=h
  obtain ⟨_,i,rfl,hi,hf⟩:=h'
  have ha:=(checkG_ok.1 hc).asc
  rcases Nat.lt_trichotomy i j with h1|h1|h1
  ·have:=asc_at ha (i:=i) (j:=j) h1 hj;rw [he,hf] at this;exact absurd this (Pt.lin.irr _)
  ·rw [h1]
  ·have:=asc_at ha (i:=j) (j:=i) h1 hi;rw [he,hf] at this;exact absurd this (Pt.lin.irr _)
 ·exact (key h h').elim
 ·exact (key h' h).elim
 ·rw [h.1,h'.1]
theorem all_tab:∀n:Fin 65,∀i:Fin 64,(allB (n.val:Int)).getLsbD i.val=decide (i.val<n.val):=by decide+kernel
theorem getLsb_allB{n:Int}(h0:0<=n)(h1:n<=64){i:Nat}(hi:i<64):(allB n).getLsbD i=decide ((i:Int)<n):=by
 have:=all_tab ⟨n.toNat,by omega⟩ ⟨i,hi⟩
 simp only [show ((n.toNat:Nat):Int)=n by omega] at this
 rw [this,decide_eq_decide];omega
theorem meet_all{nd:Int}(set:List Int)(h0:0<=nd)(h1:nd<=64):eo (maskB set &&& allB nd)=meetL set (rangeI nd):=by
 refine intLin.uniq (listB_asc _) ((ofL_asc _).sublist List.filter_sublist) λx=>?_
 rw [mem_meetL,El,mem_rangeI,BitVec.getLsbD_and,Bool.and_eq_true]
 by_cases hx:0<=x/\x<64
 ·rw [getLsb_allB h0 h1 om,decide_eq_true_eq,show (maskB set).getLsbD x.toNat=decide (x∈set) by unfold maskB;rw [getLsb_maskB om,show ((x.toNat:Nat):Int)=x by omega];simp,decide_eq_true_eq]
  exact ⟨λh=>⟨h.2.1,h.1,by omega,by omega⟩,λh=>⟨h.2.1,h.1,by omega⟩⟩
 ·constructor
  ·rintro ⟨h1,h2,_⟩
   rw [BitVec.getLsbD_of_ge _ _ om] at h2
   exact absurd h2 dc
  ·rintro ⟨_,h⟩;omega
theorem dens_count{nd:Int}{es:List Pt}(set:List Int)(h:¬checkG nd es≠0):onesB (maskB set &&& allB nd)=((meetL set (rangeI nd)).length:Int):=by
 have hr:=(checkG_ok.1 (Classical.not_not.1 h)).rng
 rw [ones_pop,meet_all set hr.1 hr.2]
theorem dens_none{nd:Int}{es:List Pt}{set:List Int}(h:¬checkG nd es≠0)(hm:(meetL set (rangeI nd)).length=0):insideN nd es set=0:=by
 have hG:=checkG_ok.1 (Classical.not_not.1 h)
 have hr:=hG.rng
 rw [insideN_ok hG,List.length_eq_zero_iff,List.filter_eq_nil_iff]
 intro e he hd
 simp only [decide_eq_true_eq] at hd
 have h1:=hG.edge e he
 have:e.u∈meetL set (rangeI nd):=mem_meetL.2 ⟨hd.1,mem_rangeI.2 ⟨by omega,by omega,by omega⟩⟩
 rw [List.length_eq_zero_iff.1 hm] at this
 exact absurd this List.not_mem_nil
def densG(nd:Int)(es:List Pt)(set:List Int):Fr:=if checkG nd es≠0 then ⟨0,0⟩ else if (meetL set (rangeI nd)).length=0 then ⟨0,1⟩ else mkF ((insideN nd es set:Nat):Int) (((meetL set (rangeI nd)).length:Nat):Int)
theorem densG_prog{nd:Int}{es:List Pt}(set:List Int)(h:¬checkG nd es≠0):mkF ((insideN nd es set:Nat):Int) (if onesB (maskB set &&& allB nd)<1 then 1 else onesB (maskB set &&& allB nd))=densG nd es set:=by
 unfold densG
 rw [if_neg h,dens_count set h]
 by_cases hm:(meetL set (rangeI nd)).length=0
 ·rw [if_pos hm,dens_none h hm,if_pos om];exact mkF_zero dc
 ·rw [if_neg hm,if_neg om]
theorem GRowG_ok{nd:Int}{va:Value}{es:List Pt}(hl:Sl κ I va es)(v:Int):eu prog κ 333 [.agg #[e7 nd,va],e7 v] I (λr J=>r=U64 (rowG nd es v)/\I=J):=by
 refine Ce2 Tryz.func333 C C ?_
 refine Aj (Ge1 (Bg (cs:=[_,_]) C C C) λb1=>Ga C (Ah (Aj (Gl2 ty48 ?_))))
 refine G.e (Am call198 C C (MRows_ok (nd:=nd) (Bj hl))) ?_
 rintro _ _ ⟨_,_,⟨ad2,cp3,rfl,rfl⟩,rfl,rfl⟩
 have hrwad2:=rowsB_len nd es
 refine Ga C (Ah (Au (Aj (Gm C (Gr (Bi C C) (Gm C (Bs (d:=10) C (λg10=>?_) (λg10=>?_))))))))
 ·exact eb (eb (eb (eb (Gr (Ap C C) (Gm C (eb (eb (eb (Gr (Ap C C) (Ah (Av (S3 20 5 1 C C C) (Do C (Aj (Ga C (Ah (Az (Ar (Ba C C I Ay ⟨by rw [show rowG nd es v=0#64 from if_pos om];rfl,rfl⟩))))))))))))))))))
 ·refine e9 (Af C) (e9 (Af C) (e9 (Bz B6 C) (e9 (Cu C C) (Gr (Al C C) (Gm C (Bs (d:=16) C (λg16=>?_) (λg16=>?_)))))))
  ·exact eb (eb (eb (Gr (Ap C C) (Ah (Av (S3 20 5 1 C C C) (Do C (Aj (Ga C (Ah (Az (Ar (Ba C C I Ay ⟨by rw [show rowG nd es v=0#64 from if_pos om];rfl,rfl⟩))))))))))))
  ·refine e9 (Be (vs:=[_,_]) ty48) ?_
   refine Et (Cz C C C) (Am call83 C C (CheckGen_ok (Bj hl))) ?_
   rintro _ _ ⟨_,_,⟨rfl,rfl⟩,rfl,rfl⟩
   refine e9 (Bx C C) (Gr (Al C C) (Ah (Av (S3 20 5 1 C C C) (Bd C (λc20=>?_) (λc20=>?_)))))
   ·exact Aj (Ga C (Ah (Az (Ar (Ba C C I Ay ⟨by rw [show rowG nd es v=0#64 from if_pos om];rfl,rfl⟩)))))
   ·exact A4 (Ai (Aj (Gm C (Gm C (Gr (A2 (α:=(BitVec 64)) (xs:=ek nd es) B6 ty175 C C Bk om om) (Gr (Ct (α:=(BitVec 64)) (xs:=ek nd es) (u:=U64 ((e_ (ek nd es) v))) ty175 C Bk om om C) (Ga C (Ah (Az (Ba C C I Ay ⟨by rw [show rowG nd es v=e_ (ek nd es) v from if_neg om],rfl⟩))))))))))
theorem CommonG_ok{nd:Int}{va:Value}{es:List Pt}(hl:Sl κ I va es)(u v:Int)(hT:TabRd κ I 0 tzCells):eu prog κ 314 [.agg #[e7 nd,va],e7 u,e7 v] I (λr J=>∃a c,r = .slice a (commonG nd es u v).length c/\J=vc 3 (.slice a (commonG nd es u v).length c) (commonG nd es u v)::I):=by
 refine Ce3 Tryz.func314 C C ?_
 refine Aj (Ge1 (Bg (cs:=[_,_]) C C C) λb1=>Ga C (Ah (Au (Aj (Gm C (Gm C (Gr (Bl C C) (Ah (Bd C (λc9=>?_) (λc9=>?_))))))))))
 ·refine Aj (Ga C (Ah (Az (Ar ?_))))
  have hX:(commonG nd es u v)=[]:=if_pos c9
  exact Ba C C (vc 3 (.slice none (commonG nd es u v).length 0) (commonG nd es u v)::I) (by rw [hX];exact A8 (show Fit κ _ I from Ay) (B9 (α:=Int) _ _)) ⟨none,0,by rw [hX];rfl,rfl⟩
 ·refine A4 (Ai (Au (Bt mixed (C7 9 (Dr 0 C (Be (vs:=[_,_]) ty48) ?_)))))
  refine Dr 1 C (Af C) (Dr 3 C (Be (vs:=[_,_]) ty48) ?_)
  refine Dr 4 C (Af C) (Ds1 2 (Se C (Am call333 C C (GRowG_ok (nd:=nd) (Bj hl) u)) ?_))
  rintro _ _ ⟨_,_,⟨rfl,rfl⟩,rfl,rfl⟩
  refine ⟨A5,?_⟩
  refine Ds1 5 (Se C (Am call333 C C (GRowG_ok (nd:=nd) (Bj hl) v)) ?_)
  rintro _ _ ⟨_,_,⟨rfl,rfl⟩,rfl,rfl⟩
  refine ⟨A5,?_⟩
  refine Dr 6 C (C3 (a:=rowG nd es u) (b:=rowG nd es v) C C) (Ds1 7 (Sc2 C (Am call171 C C (MList_ok ((rowG nd es u) &&& (rowG nd es v)) (Bw hT Ay))) λad2 cp3=>?_))
  refine Dr 8 C (Bb C) (Dz (Ai (Av (S1 6 C) (Az ?_))))
  have hX:(commonG nd es u v)=_:=(common_eq c9).symm
  exact Ba C C (vc 3 (.slice ad2 (commonG nd es u v).length cp3) (commonG nd es u v)::I) (by rw [hX];exact A5) ⟨ad2,cp3,by rw [hX],rfl⟩
theorem FindG_ok{nd:Int}{va:Value}{es:List Pt}(hl:Sl κ I va es)(u v:Int)(hb:es.length<=1000000000):eu prog κ 240 [.agg #[e7 nd,va],e7 u,e7 v] I (λr J=>∃y:Int,r=e7 y/\FindP nd es u v y/\I=J):=by
 refine Ce3 Tryz.func240 C C ?_
 refine Aj (Ge1 (Bg (cs:=[_,_]) C C C) λb1=>Ga C (Ah (Au (Aj (Gl2 ty48 ?_)))))
 refine Gm C (Gm C (G.e (Am call285 C C (Place_ok (Bj hl) u v om)) ?_))
 rintro _ _ ⟨_,_,⟨i2,q3,rfl,hi2,rfl⟩,rfl,rfl⟩
 refine Gm C (Gr (Ax C C) (Gr (Ax C C) (Ga C (Ga C (Ah (Av (S3 8 7 3 C C C) (Aj (Gm C (Gm C (Bs (d:=17) C (λg17=>?_) (λg17=>?_)))))))))))
 ·refine e9 (Be (vs:=[_,_]) ty48) ?_
  refine Et (Cz C C C) (Am call83 C C (CheckGen_ok (Bj hl))) ?_
  rintro _ _ ⟨_,_,⟨rfl,rfl⟩,rfl,rfl⟩
  refine e9 (Bl C C) (Gr (Ap C C) (Ah (Bd C (λc21=>?_) (λc21=>?_))))
  ·exact Aj (Gm C (Ga C (Ah (Az (Ar (Ba C C I Ay ⟨_,rfl,.inl ⟨c21,i2,rfl,g17.1,g17.2⟩,rfl⟩))))))
  ·refine A4 (Ai (Aj (Ga C (Ah (Az ?_)))))
   have hn:checkG nd es≠0\/edgeP u v∉es:=(Decidable.em (checkG nd es=0)).elim (λhc=> .inr λhm=>by first|exact c21 hc|exact g17 ((hi2.mem (checkG_ok.1 hc).asc).2 hm)) .inl
   exact Ba C C I Ay ⟨_,rfl,.inr ⟨rfl,hn⟩,rfl⟩
 ·refine eb (eb (eb (Gr (Al C C) (Ah (Eo C (A4 (Ai (Aj (Ga C (Ah (Az ?_)))))))))))
  have hn:checkG nd es≠0\/edgeP u v∉es:=(Decidable.em (checkG nd es=0)).elim (λhc=> .inr λhm=>by first|exact c21 hc|exact g17 ((hi2.mem (checkG_ok.1 hc).asc).2 hm)) .inl
  exact Ba C C I Ay ⟨_,rfl,.inr ⟨rfl,hn⟩,rfl⟩
theorem DensityG_ok{nd:Int}{va vb:Value}{es:List Pt}{set:List Int}(hl:Sl κ I va es)(hs:Sl κ I vb set)(hb:es.length<=1000000):eu prog κ 147 [.agg #[e7 nd,va],vb] I (λr J=>r = .tuple #[.agg #[e7 (densG nd es set).num,e7 (densG nd es set).den],e7 (checkG nd es)]/\I=J):=by
 refine Ce2 Tryz.func147 C C ?_
 refine Aj (Ge1 (Bg (cs:=[_,_]) C C C) λb1=>Ge1 (A9 ty40 C) λb2=>Ga C (Ah (Au (Aj (Gl2 ty48 ?_)))))
 refine Gc0 (Am call83 C C (CheckGen_ok (Bj hl))) ?_
 refine Ga C (Ah (Aj (Gm C (Gr (Bx C C) (Ah (Bd C (λc11=>?_) (λc11=>?_)))))))
 ·refine Aj (Gr (Bc (cells:=[_,_]) ty40 B0 pl40 C C) (Gm C (Ge0 (Cs ty40) ?_)))
  refine Ga C (Ah (Az (Ar ?_)))
  have hX:(densG nd es set)=⟨0,0⟩:=if_pos c11
  exact D3 C ty40 C C mm C I Ay ⟨by first|(rw [hX];done)|(rw [hX];rfl),rfl⟩
 ·refine A4 (Ai (Au (Bt mixed (C7 8 (Dr 0 C (Af C) (Dr 2 C (Ab fld48_0 C) (Dr 3 C (As ef) ?_)))))))
  refine Ds1 1 (Sc0 C (Am call199 C C (MaskOf_ok (Bj hs))) ?_)
  refine Ds1 4 (Sc0 C (Am call200 C C (MaskAll_ok nd)) ?_)
  refine Dr 5 C (C3 (a:=maskB set) (b:=allB nd) C C) (Ds1 6 (Sc0 C (Am call219 C C (MCount_ok ((maskB set) &&& (allB nd)))) ?_))
  refine Dr 7 C (Bb C) (Dz (Ai (Av (S4 7 4 2 1 C C C C) (Aj (Gl2 ty48 ?_)))))
  refine Gm C (Gc0 (Am call221 C C (InsideG_ok (nd:=nd) (Bj hl) (Bj hs) om)) ?_)
  have hin23:=insideN_le nd es set
  refine Gm C (Gr (D7 C C) (Gc0 (Am call220 C C (MakeF_ok ((insideN nd es set:Nat):Int) (if (onesB ((maskB set) &&& (allB nd)))<1 then 1 else (onesB ((maskB set) &&& (allB nd)))) om (by have:=onesB_bd (maskB set &&& allB nd);split<;>omega))) ?_))
  refine Gr (Ax C C) (Gr (Ax C C) (Ge0 (Cs ty40) ?_))
  refine Ga C (Ah (Az ?_))
  have hX:=densG_prog (nd:=nd) (es:=es) set c11
  have hz:checkG nd es=0:=Classical.not_not.1 c11
  exact D3 C ty40 C C mm C I Ay ⟨by first|(rw [←hX,hz];done)|(rw [←hX,hz];rfl),rfl⟩
variable {κ:Ctx}{I:List Item}
theorem all_rows{nd:Int}{es:List Pt}(h:0<=nd/\nd<=64)(i:Nat)(hi:(allB nd).getLsbD i=true):i<(ek nd es).length:=by
 have h64:i<64:=Classical.byContradiction λhn=>by rw [BitVec.getLsbD_of_ge _ _ om] at hi;cases hi
 rw [getLsb_allB h.1 h.2 h64,decide_eq_true_eq] at hi
 rw [rowsB_len];omega
theorem and_all_rows{nd:Int}{es:List Pt}(m:BitVec 64)(h:0<=nd/\nd<=64)(i:Nat)(hi:(m &&& allB nd).getLsbD i=true):i<(ek nd es).length:=by
 rw [BitVec.getLsbD_and,Bool.and_eq_true] at hi;exact all_rows h i hi.2
theorem MReach_ok{va:Value}{rows:List (BitVec 64)}(hl:Sl κ I va rows)(f w:BitVec 64)(hw:∀i:Nat,w.getLsbD i=true->i<rows.length)(hT:TabRd κ I 0 tzCells):eu prog κ 197 [va,U64 f,U64 w] I (λr J=>r=U64 (reachB rows f w)/\I=J):=by
 refine Ce3 Tryz.func197 C C ?_
 refine Aj (Ga C (Ah (Aj (Gm C (Gm C (Gr (C3 (a:=f) (b:=w) C C) (Ga C (Ah (Au (Aj (Gm C (Ga C (Ah (A6 (Ca (σ:=(BitVec 64)×(BitVec 64)) (λs=>([(0,va),(1,U64 (s.2)),(2,U64 w),(7,U64 (s.1))]:Env)) (λs=>I) (λs=>(ReachI rows f w s.1 s.2)) (λs=>reachM w s.1 s.2) (f &&& w,f &&& w) .begin (Aa C (Aa (Da C (by first|rfl|simp)) (Aa C (Aa (Da C (by first|rfl|simp)) Bq)))) (show Fit κ _ I from A5) ?_)))))))))))))))
 rintro ⟨front,frm⟩ hp
 dsimp only at hp ⊢
 have hR:=hp
 refine Au (Aj (Gm C (Gr (Eh (a:=front) (b:=0#64) C C) (Ah (Bd C (λc15=>?_) (λc15=>?_))))))
 ·refine A4 (Ai (A6 (Aj (Gm C (Gc0 (Am call238 C C (Least_ok front (Bw hT Ay))) ?_)))))
  refine Ga C ?_
  have htz:=tzB_range c15
  have hbd:=hw _ (hR.sub _ (hR.fsub _ htz.2.2))
  exact Ah (Aj (Gm C (Gm C (Gr (Runs.subB (a:=front) (b:=1#64) C C) (Gr (C3 (a:=front) (b:=front - (1#64)) C C) (Ga C (Ah (Av (S5 7 8 0 1 2 C C C C C) (Aj (Gm C (Gm C (Gr (A2 (α:=(BitVec 64)) (xs:=rows) B6 ty175 C C (Bj hl) om om) (Gr (Ct (α:=(BitVec 64)) (xs:=rows) (u:=U64 ((e_ rows (tzB front)))) ty175 C (Bj hl) om om C) (Gm C (Gr (C3 (a:=(e_ rows (tzB front))) (b:=w) C C) (Gm C (Gr (D8 (a:=(e_ rows (tzB front)) &&& w) (b:=frm) C C) (Ga C (Ah (Av (S5 9 7 0 1 2 C C C C C) (Aj (Gm C (Gm C (Gr (E0 (a:=frm) (b:=((e_ rows (tzB front)) &&& w) &&& ~~~frm) C C) (Ga C (Ah (A0 (Gm C (Gm C (Gr (E0 (a:=front &&& (front - (1#64))) (b:=((e_ rows (tzB front)) &&& w) &&& ~~~frm) C C) (Ga C (Bf (Ak (Ch (((front &&& (front - (1#64))) ||| (((e_ rows (tzB front)) &&& w) &&& ~~~frm)),(frm ||| (((e_ rows (tzB front)) &&& w) &&& ~~~frm))) (by dsimp only;exact (hR.step c15).1) (hlt:=by (try dsimp only);exact (hR.step c15).2)))))))))))))))))))))))))))))))))))
 ·refine Bp (Ac (Ac (Aw (Ai (Aj (Gm C (Ga C (Ah (Az ?_)))))))))
  have hz:front=0#64:=Classical.not_not.1 c15
  subst hz
  exact Ba C C I Ay ⟨by rw [hR.eq],rfl⟩
def rchG(nd:Int)(es:List Pt)(frm set:List Int):List Int:=if checkG nd es≠0 then [] else eo (reachB (ek nd es) (maskB frm) (maskB set &&& allB nd))
theorem CReach_ok{nd:Int}{va vb vd:Value}{es:List Pt}{frm set:List Int}(hl:Sl κ I va es)(hf:Sl κ I vb frm)(hs:Sl κ I vd set)(hT:TabRd κ I 0 tzCells):eu prog κ 110 [.agg #[e7 nd,va],vb,vd] I (λr J=>∃a c,r = .tuple #[.slice a (rchG nd es frm set).length c,e7 (checkG nd es)]/\J=vc 3 (.slice a (rchG nd es frm set).length c) (rchG nd es frm set)::I):=by
 refine Ce3 Tryz.func110 C C ?_
 refine Aj (Ge1 (Bg (cs:=[_,_]) C C C) λb1=>Ga C (Ga C (Ah (Au (Aj (Gl2 ty48 ?_))))))
 refine Gc0 (Am call83 C C (CheckGen_ok (Bj hl))) ?_
 refine Ga C (Ah (Aj (Gm C (Gr (Bx C C) (Ah (Bd C (λc12=>?_) (λc12=>?_)))))))
 ·refine Aj (Gm C (Ga C (Ga C (Ah (Av (S2 7 6 C C) (Az (Ar ?_)))))))
  have hX:(rchG nd es frm set)=[]:=if_pos c12
  exact C4 C C C (vc 3 (.slice none (rchG nd es frm set).length 0) (rchG nd es frm set)::I) (by rw [hX];exact A8 (show Fit κ _ I from Ay) (B9 (α:=Int) _ _)) ⟨none,0,by rw [hX];rfl,rfl⟩
 ·refine A4 (Ai (Au (Bt mixed (C7 14 (Dr 0 C (Be (vs:=[_,_]) ty48) ?_)))))
  refine Dr 2 C (Af C) (Dr 4 C (Af C) (Dr 6 C (Ab fld48_0 C) (Dr 7 C (As ef) ?_)))
  refine Ds1 1 (Se C (Am call198 C C (MRows_ok (nd:=nd) (Bj hl))) ?_)
  rintro _ _ ⟨_,_,⟨ad2,cp3,rfl,rfl⟩,rfl,rfl⟩
  refine ⟨A5,?_⟩
  have hrwad2:=rowsB_len nd es
  refine Ds1 3 (Sc0 C (Am call199 C C (MaskOf_ok (Bj hf))) ?_)
  refine Ds1 5 (Sc0 C (Am call199 C C (MaskOf_ok (Bj hs))) ?_)
  refine Ds1 8 (Sc0 C (Am call200 C C (MaskAll_ok nd)) ?_)
  refine Dr 9 C (C3 (a:=maskB set) (b:=allB nd) C C) (Ds1 10 (Se C (Am call197 C C (MReach_ok Bk (maskB frm) ((maskB set) &&& (allB nd)) (and_all_rows _ (checkG_ok.1 (Classical.not_not.1 c12)).rng) (Bw hT Ay))) ?_))
  rintro _ _ ⟨_,_,⟨rfl,rfl⟩,rfl,rfl⟩
  refine ⟨A5,?_⟩
  refine Ds1 11 (Sc2 C (Am call171 C C (MList_ok (reachB (ek nd es) (maskB frm) ((maskB set) &&& (allB nd))) (Bw hT Ay))) λad4 cp5=>?_)
  refine Dr 12 C (Bb C) (Dr 13 C (Bb C) (Dz (Ai (Av (S2 7 6 C C) (Az ?_)))))
  have hX:(rchG nd es frm set)=_:=if_neg c12
  have hz:checkG nd es=0:=Classical.not_not.1 c12
  exact C4 C C C (vc 3 (.slice ad4 (rchG nd es frm set).length cp5) (rchG nd es frm set)::I) (by rw [hX];exact A5) ⟨ad4,cp5,by rw [hX,hz],rfl⟩
end Go.Sl
namespace Go.Sl
section
variable {P:Program}{κ:Ctx}{N:Frm}{Q:Exit->Act->World->Prop}{L:Env}{I:List Item}
theorem wp_scope_ghost{c rest:Code}{a:Act}{w:World}(l:Nat){σ:Type}(R:σ->Act->World->Prop)(μ:σ->Nat)(hf:findLabel c l=some rest)
  (first:c.wp P (Exit.jump l (λa w=>∃s,R s a w) Q) a w)
  (pass:∀s a w,R s a w->rest.wp P (Exit.jump l (λa' w'=>∃s',R s' a' w'/\μ s'<μ s) Q) a w):(Code.scope c).wp P Q a w:=by
 intro b k cs
 have hg:gotoIn l (.inScope c::k)=some (.code rest :: .inScope c::k):=by simp [gotoIn,hf]
 have key:∀n s a w,μ s=n->R s a w->∃e a' w',Q e a' w'/\Arrives P (lone (b.at a (.code rest :: .inScope c::k)) cs w) b k cs e a' w':=by
  intro n
  induction n using Nat.strongRecOn with
  |_ n ih=>
   intro s a w hn hR
   obtain ⟨e,a₁,w₁,hq,harr⟩:=pass s a w hR b (.inScope c::k) cs
   cases e with
   |normal=>exact ⟨.normal,a₁,w₁,hq,Steps.trans harr (.one step_inScope)⟩
   |exit id=>exact ⟨.exit id,a₁,w₁,hq,λk' hk=>harr k' (by simp [exitTo,hk])⟩
   |goto l'=>
    obtain ⟨rfl,s',hR',hlt⟩:=hq
    obtain ⟨e₂,a₂,w₂,hq₂,harr₂⟩:=ih _ (by omega) s' a₁ w₁ rfl hR'
    exact ⟨e₂,a₂,w₂,hq₂,.of_steps (harr _ hg) harr₂⟩
   |ret=>exact ⟨_,a₁,w₁,hq,harr⟩
   |panic ch=>exact ⟨_,a₁,w₁,hq,harr⟩
   |outgrown=>exact ⟨_,a₁,w₁,hq,harr⟩
 obtain ⟨e,a₁,w₁,hq,harr⟩:=first b (.inScope c::k) cs
 cases e with
 |normal=>exact ⟨.normal,a₁,w₁,hq,.head step_scope (Steps.trans harr (.one step_inScope))⟩
 |exit id=>exact ⟨.exit id,a₁,w₁,hq,λk' hk=> .head step_scope (harr k' (by simp [exitTo,hk]))⟩
 |goto l'=>
  obtain ⟨rfl,s,hR⟩:=hq
  obtain ⟨e₂,a₂,w₂,hq₂,harr₂⟩:=key _ s a₁ w₁ rfl hR
  exact ⟨e₂,a₂,w₂,hq₂,.of_steps (.head step_scope (harr _ hg)) harr₂⟩
 |ret=>exact ⟨_,a₁,w₁,hq,.of_steps (.one step_scope) harr⟩
 |panic ch=>exact ⟨_,a₁,w₁,hq,.of_steps (.one step_scope) harr⟩
 |outgrown=>exact ⟨_,a₁,w₁,hq,.of_steps (.one step_scope) harr⟩
theorem V.jump_normal{l:Nat}{K:Act->World->Prop}(h:V κ N Q .normal L I):V κ N (Exit.jump l K Q) .normal L I:=h
theorem V.jump_ret{l:Nat}{K:Act->World->Prop}(h:V κ N Q .ret L I):V κ N (Exit.jump l K Q) .ret L I:=h
end
end Go.Sl
namespace Go.Sl
section
variable {P:Program}{κ:Ctx}{N:Frm}{Q:Exit->Act->World->Prop}{L:Env}{I:List Item}
theorem W.scope0{c rest:Code}{l:Nat}(hf:findLabel c l=some rest)(h:W P κ N c (Exit.jump l (λ_ _=>∃s:Unit,False) Q) L I):W P κ N (.scope c) Q L I:=λa w ha hs=>
 wp_scope_ghost l (fun (_:Unit) _ _=>False) (λ_=>0) hf (h a w ha hs) λ_ _ _ hR=>hR.elim
theorem W.label{l:Nat}(h:V κ N Q .normal L I):W P κ N (.label l) Q L I:=λa w ha hs=>wp_label (h a w ha hs)
end
end Go.Sl
