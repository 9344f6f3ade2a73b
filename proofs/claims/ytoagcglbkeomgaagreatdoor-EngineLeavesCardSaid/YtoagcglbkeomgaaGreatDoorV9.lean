/- A part of the proofs of statements of this seat: contracts of functions, and the plain laws that they lean on. No conditions. -/
import Derived.Test.YtoagcglbkeomgaaGreatDoorV8
import Derived.Shelf.SortM.Plain
import Derived.Shelf.SortM.SortNone
set_option linter.unusedVariables false
set_option linter.unusedSimpArgs false
set_option linter.unusedSectionVars false
open Go.Proofs.Tryz (prog)
set_option maxHeartbeats 8000000
namespace Go.Sl
theorem Lk.at2(a b:Lk):Lk.cmp a b=0↔a.p=b.p:=Pt.at2 _ _
theorem bp9{n:Lk}{ys:List Lk}:∀(xs:List Lk),(∀x∈xs,Lk.lt x n)->Q2 n (xs++ys)=xs++Q2 n ys
 |[],_=>rfl
 |x::xs,h=>by
  have M:=h x A_
  rw [Jc,Jc]
  conv=>lhs;unfold Q2
  rw [An (show ¬Lk.lt n x from λh2=>Pt.lin.asymm M h2),An<|λh2=>by unfold Lk.lt at M;rw [h2] at M;exact Pt.lin.irr _ M,bp9 xs λy hy=>h y<|C_ _ hy]
section
variable {xs:List Lk}{n:Lk}{i:Nat}{q:Bool}
theorem cm4(h:U5 Lk.cmp xs n i q)(ha:xs.Pairwise Lk.lt):∀x∈xs.take i,Lk.lt x n:=λx hx=>by
 obtain ⟨j,hj,rfl⟩:=Hu hx
 rw [Fp] at hj
 have aa:=h.le
 have e:(xs.take i)[j]=e_ xs j:=by rw [Ct xs j om];simp
 rw [e]
 have M:=(Lk.W0 _ _).1 (h.low om)
 rw [show (i:Int) - 1=((i - 1:Nat):Int) by omega] at M
 by_cases hq:j=i - 1
 ·rw [hq];exact M
 exact Pt.lin.tr _ _ _ ((Fd xs).1 ha j (i - 1) om om) M
theorem af3(h:U5 Lk.cmp xs n i q)(ha:xs.Pairwise Lk.lt)(hq:q=false):Q2 n xs=xs.take i++[n]++xs.drop i:=by
 conv=>lhs;rw [←Jl i xs]
 rw [bp9 _ (cm4 h ha),Fr]
 congr 1
 rcases Nat.lt_or_ge i xs.length with hi|hi
 ·have h1:=h.is
  rw [hq] at h1
  have h2:=Ja h1.symm
  have M:=h.high hi
  rw [Lk.W0] at M
  rw [Dv xs i hi]
  unfold Q2
  rw [Lk.at2] at h2
  have h4:(e_ xs i).p≠n.p:=λe=>h2 ⟨hi,e⟩
  rw [B_,List.singleton_append]
  rcases Pt.lin.tri n.p (e_ xs i).p with h5|h5|h5
  ·exact h5
  ·exact absurd h5.symm h4
  exact absurd h5 M
 rw [Ha hi];rfl
theorem ad7(h:U5 Lk.cmp xs n i q)(ha:xs.Pairwise Lk.lt)(hq:q=true):i<xs.length/\Q2 n xs=xs.set i n:=by
 have h1:=h.is
 rw [hq] at h1
 obtain ⟨hi,h2⟩:=Fq h1.symm
 refine ⟨hi,?_⟩
 rw [Lk.at2] at h2
 conv=>lhs;rw [←Jl i xs]
 rw [bp9 _ (cm4 h ha),Dv xs i hi]
 unfold Q2
 rw [An (λM=>by unfold Lk.lt at M;rw [h2] at M;exact Pt.lin.irr _ M),B_ h2,List.set_eq_take_append_cons_drop,B_ hi]
theorem du4(hi:i<xs.length)(h:e_ xs i=n):xs.set i n=xs:=by
 rw [←h,Ct xs i hi];exact List.set_getElem_self hi
end
section
variable {P:Lk->Bool}{xs:List Lk}{j:Nat}
def M7(P:Lk->Bool)(xs:List Lk)(j:Nat):Nat:=((xs.take j).filter P).length
def J6(P:Lk->Bool)(xs:List Lk)(j:Nat):List Lk:=(xs.take j).filter P++xs.drop j
theorem U6:J6 P xs 0=xs:=by simp [J6]
theorem aw3:M7 P xs 0=0:=by simp [M7]
theorem di3(h:xs.length<=j):J6 P xs j=xs.filter P:=by unfold J6;rw [Fv h,Ha h,Gq]
theorem be6:(J6 P xs j).length=M7 P xs j+(xs.length - j):=by simp [J6,M7]
theorem dy0:M7 P xs j<=j:=by
 unfold M7
 have:=Gs P (xs.take j)
 rw [Fp] at this
 omega
theorem bs1(h:j<xs.length):e_ (J6 P xs j) (M7 P xs j:Int)=e_ xs j:=by
 have M:=be6 (P:=P) (xs:=xs) (j:=j)
 rw [Ct _ _ om,Ct xs j h]
 unfold J6 M7
 rw [List.getElem_append_right (Gd _)]
 simp
theorem dy1(h:j<xs.length)(M:P (e_ xs j)=true):J6 P xs (j+1)=J6 P xs j/\M7 P xs (j+1)=M7 P xs j+1:=by
 unfold J6 M7
 rw [Ca xs j h,Gj,Dv xs j h]
 simp [M]
theorem fo5(h:j<xs.length)(M:P (e_ xs j)=false):M7 P xs (j+1)=M7 P xs j:=by
 unfold M7
 rw [Ca xs j h,Gj]
 simp [M]
theorem di2(h:j<xs.length)(M:P (e_ xs j)=false){q:Nat}(hq:q=xs.length - j - 1) :
  (J6 P xs j).take (M7 P xs j)++((J6 P xs j).drop (M7 P xs j+1)).take q++(J6 P xs j).drop (M7 P xs j+q)=J6 P xs (j+1)++(J6 P xs j).drop (M7 P xs j+q):=by
 congr 1
 have e:J6 P xs j=(xs.take j).filter P++(e_ xs j::xs.drop (j+1)):=by unfold J6;rw [←Dv xs j h]
 have e2:J6 P xs (j+1)=(xs.take j).filter P++xs.drop (j+1):=by
  unfold J6
  rw [Ca xs j h,Gj]
  simp [M]
 have e3:M7 P xs j=((xs.take j).filter P).length:=rfl
 rw [e2,e,e3]
 generalize (xs.take j).filter P=A
 rw [List.take_left' rfl,show A.length+1=(A++[e_ xs j]).length by simp,show A++e_ xs j::xs.drop (j+1)=(A++[e_ xs j])++xs.drop (j+1) by simp,List.drop_left' rfl,Fv<|by rw [Fx];omega]
theorem di1{zs:List Lk}{m:Nat}(M:m=(J6 P xs (j+1)).length):(J6 P xs (j+1)++zs).take m=J6 P xs (j+1):=by
 rw [M];exact List.take_left' rfl
end
end Go.Sl
namespace Go.Sl
theorem T3{e:Ev}{l:Lk}(h:e.kd=2):ah5 e l=decide (l.p=(eh e).p):=by unfold ah5;rw [B_ h,Fs,gg3]
theorem H5{e:Ev}{l:Lk}(h:¬e.kd=2):ah5 e l=decide (l.u=e.u\/l.v=e.u):=by unfold ah5;rw [An h]
structure ApI (xs:List Lk) (e:Ev) (k:Nat) (O:List Lk) (q:Bool):Prop where
 eq:ep xs e=O++(if e.kd=1 then (if q=true then xs.drop k else Q2 (eh e) (xs.drop k)) else (xs.drop k).filter λl=> !ah5 e l)
 aft:q=true->e.kd=1->∀x∈xs.drop k,Lk.lt (eh e) x
 oth:e.kd≠1->q=true
section
variable {xs O:List Lk}{e:Ev}{k:Nat}{q:Bool}
theorem ApI.start:ApI xs e 0 [] (decide (e.kd≠1)):=by
 refine ⟨?_,λh M=>absurd M<|Fq h,λh=>As h⟩
 unfold ep
 by_cases h:e.kd=1
 ·rw [B_ h,B_ h,An<|by simp [h]];rfl
 rw [An h,An h];rfl
theorem dg6(M:xs.Pairwise Lk.lt)(hk:k<xs.length):∀x∈xs.drop (k+1),Lk.lt (e_ xs k) x:=by
 have h:=M.sublist (List.drop_sublist k xs)
 rw [Dv xs k hk] at h
 exact (Ge.1 h).1
theorem ApI.ins(h:ApI xs e k O q)(ha:xs.Pairwise Lk.lt)(hk:k<xs.length)(hq:(!q)=true)(hl:Pt.lt (eh e).p (e_ xs k).p):ApI xs e k (O++[eh e]) true:=by
 have M:q=false:=by simpa using hq
 subst M
 have h1:e.kd=1:=Gb λhn=>by have:=h.oth hn;cases this
 refine ⟨?_,λ_ _ x hx=>?_,λ_=>rfl⟩
 ·rw [h.eq,B_ h1,B_ h1,An dc,B_ rfl,Dv xs k hk]
  conv=>lhs;unfold Q2
  rw [B_ (show Lk.lt (eh e) (e_ xs k) from hl),Fr];rfl
 rw [Dv xs k hk] at hx
 rcases Fw.1 hx with rfl|hx
 ·exact hl
 exact Pt.lin.tr _ _ _ hl<|dg6 ha hk x hx
theorem ApI.hit(h:ApI xs e k O q)(ha:xs.Pairwise Lk.lt)(hk:k<xs.length)(h1:e.kd=1)(hp:(e_ xs k).p=(eh e).p):ApI xs e (k+1) (O++[eh e]) true:=by
 have hn:¬Lk.lt (eh e) (e_ xs k):=λh2=>by unfold Lk.lt at h2;rw [hp] at h2;exact Pt.lin.irr _ h2
 have M:q=false:=Gb λhc=>hn (h.aft (by simpa using hc) h1 _<|by rw [Dv xs k hk];exact A_)
 subst M
 refine ⟨?_,λ_ _ x hx=>?_,λ_=>rfl⟩
 ·rw [h.eq,B_ h1,B_ h1,An dc,B_ rfl,Dv xs k hk]
  conv=>lhs;unfold Q2
  rw [An hn,B_ hp,Fr];rfl
 have:=dg6 ha hk x hx
 unfold Lk.lt at this ⊢
 rw [←hp];exact this
theorem ApI.drop(h:ApI xs e k O q)(hk:k<xs.length)(M:e.kd≠1)(hh:ah5 e (e_ xs k)=true):ApI xs e (k+1) O q:=
 ⟨by rw [h.eq,An M,An M,Dv xs k hk,Hj,hh];rfl,λ_ h2=>absurd h2 M,h.oth⟩
theorem ApI.fo6(h:ApI xs e k O q)(ha:xs.Pairwise Lk.lt)(hk:k<xs.length)(hM:(!q)=true->¬Pt.lt (eh e).p (e_ xs k).p)(hp:e.kd=1->(e_ xs k).p≠(eh e).p)(h2:e.kd≠1->ah5 e (e_ xs k)=false) :
  ApI xs e (k+1) (O++[e_ xs k]) q:=by
 refine ⟨?_,λhq M x hx=>h.aft hq M x<|by rw [Dv xs k hk];exact C_ _ hx,h.oth⟩
 rw [h.eq,Dv xs k hk]
 by_cases M:e.kd=1
 ·rw [B_ M,B_ M]
  cases q
  ·rw [An dc,An dc]
   conv=>lhs;unfold Q2
   rw [An (show ¬Lk.lt (eh e) (e_ xs k) from hM rfl),An<|hp M,Fr];rfl
  rw [B_ rfl,B_ rfl,Fr];rfl
 rw [An M,An M,Hj,h2 M,Fr];rfl
theorem ApI.len(h:ApI xs e k O q):O.length<=xs.length+1:=by
 have M:=Fz List.length h.eq
 rw [By] at M
 have h2:=ai0 xs e
 omega
theorem H7.chk{nd:Int}(h:H7 nd e):z6 e=0:=Gb λhc=>by
 have M:=cf9.2 h
 unfold cu2 at M
 rw [B_ hc] at M
 exact hc M
theorem ApI.fin(h:ApI xs e k O q)(hk:xs.length<=k)(hq:(!q)=false):O=ep xs e:=by
 have M:q=true:=by simpa using hq
 rw [h.eq,Ha hk,M]
 by_cases h1:e.kd=1
 ·rw [B_ h1,B_ rfl,Gq]
 rw [An h1,List.filter_nil,Gq]
theorem ApI.dk2(h:ApI xs e k O q)(hk:xs.length<=k)(hq:(!q)=true):O++[eh e]=ep xs e:=by
 have M:q=false:=by simpa using hq
 have h1:e.kd=1:=Gb λhn=>by have:=h.oth hn;rw [M] at this;cases this
 rw [h.eq,Ha hk,M,B_ h1,An dc];rfl
end
end Go.Sl
namespace Go.Sl
theorem cp7{wd mo T:Int}{P:List Lk->List Ev->Prop}(hs:∀xs out,(0<xs.length/\ab5 xs+wd<=T)->P xs out->P (xs.filter (inW 2 wd mo (ab5 xs+wd) xs)) (out++s3 2 wd mo (ab5 xs+wd) xs)) :
  ∀(n:Nat) (xs:List Lk) (out:List Ev),xs.length<=n->P xs out->P (bi9 wd mo T xs out).1 (bi9 wd mo T xs out).2/\¬(0<(bi9 wd mo T xs out).1.length/\ab5 (bi9 wd mo T xs out).1+wd<=T)
 |n,xs,out,hn,hP=>by
  by_cases h:0<xs.length/\ab5 xs+wd<=T
  ·rw [ae7 h]
   have M:(xs.filter<|inW 2 wd mo (ab5 xs+wd) xs).length<xs.length:=at5 h.1
   cases n with
   |zero=>omega
   |succ n=>exact cp7 hs n _ _ om (hs xs out h hP)
  rw [Q5 h];exact ⟨hP,h⟩
theorem de4{α:Type}{R:α->α->Prop}(h:∀a c,R a c):∀l:List α,l.Pairwise R
 |[]=> .nil
 |x::xs=>Ge.2 ⟨λy _=>h x y,de4 h xs⟩
theorem fu9{nd:Int}(M:0<=nd/\nd<=64):q7 nd []=0:=(SlI.nil (kd:=1) (wd:=0) (last:=0) M).val
theorem di0:∀(K:List Lk),K≠[]->K.Pairwise Lk.lt->∃z∈K,∀y∈K,y=z\/Lk.late y z
 |[],h,_=>absurd rfl h
 |[x],_,_=>⟨x,A_,λy hy=> .inl<|by simpa using hy⟩
 |x::y::ys,_,hp=>by
  obtain ⟨h1,h2⟩:=Ge.1 hp
  obtain ⟨z,hz,hh⟩:=di0 (y::ys) (by simp) h2
  have aa:=h1 z hz
  by_cases hl:Lk.late x z
  ·exact ⟨z,C_ _ hz,λw hw=>by
    rcases Fw.1 hw with rfl|hw
    ·exact .inr hl
    exact hh w hw⟩
  have M:Lk.late z x:=by unfold Lk.late Lk.lt Pt.lt at *; omega
  refine ⟨x,A_,λw hw=>?_⟩
  rcases Fw.1 hw with rfl|hw
  ·exact .inl rfl
  rcases hh w hw with rfl|hwz
  ·exact .inr M
  right;unfold Lk.late Lk.lt Pt.lt at *; omega
theorem fj2{z:Lk}:∀(K:List Lk),K.Pairwise Lk.lt->(K.filter λy=>decide (y=z)).length<=1
 |[],_=>by simp
 |x::xs,h=>by
  obtain ⟨h1,h2⟩:=Ge.1 h
  rw [Hj]
  by_cases hx:x=z
  ·rw [B_ (by simpa using hx),Jd.2 λy hy=>?_]
   ·simp
   intro hd
   have M:y=z:=Fq hd
   have:=h1 y hy
   rw [hx,M] at this
   exact Pt.lin.irr _ this
  rw [An (by simpa using hx)];exact fj2 xs h2
theorem co3(P R:Lk->Bool):∀K:List Lk,(∀y∈K,P y=true\/R y=true)->K.length<=(K.filter P).length+(K.filter R).length
 |[],_=>by simp
 |x::xs,h=>by
  have ih:=co3 P R xs λy M=>h y (C_ _ M)
  have hx:=h x A_
  simp only [Hj,E_]
  cases hP:P x<;>cases hR:R x<;>simp_all<;>omega
theorem dz4{P:Lk->Bool}{K xs:List Lk}(h:K.Sublist xs):(K.filter P).length<=(xs.filter P).length:=(h.filter P).length_le
theorem dx9{wd mo nw:Int}{xs:List Lk}(ha:xs.Pairwise Lk.lt)(hm:0<=mo):((xs.filter (inW 3 wd mo nw xs)).length:Int)<=mo:=by
 generalize hK:xs.filter (inW 3 wd mo nw xs)=K
 have M:K.Sublist xs:=by rw [←hK];exact He
 have aa:=ha.sublist M
 by_cases h0:K=[]
 ·rw [h0];simpa using hm
 obtain ⟨z,hz,hl⟩:=di0 K h0 aa
 have h1:=co3 (λy=>decide<|Lk.late y z) (λy=>decide<|y=z) K λy hy=>by
  rcases hl y hy with h|h
  ·exact .inr<|As h
  exact .inl<|As h
 have h2:=fj2 (z:=z) K aa
 have h3:=dz4 (P:=λy=>decide<|Lk.late y z) M
 have h4:inW 3 wd mo nw xs z=true:=by rw [←hK] at hz;exact (Gg.1 hz).2
 unfold inW at h4
 rw [An dc,B_ rfl] at h4
 have h5:=Fq h4
 unfold ai5 at h5
 omega
end Go.Sl
namespace Go.Sl
variable {α:Type}[Inhabited α]
def gd3(l:List α)(j:Nat)(x:α):List α:=l.take j++x::l.drop j
def M5(cf:α->α->Int)(l:List α)(x:α):Nat->Nat
 |0=>0
 |j+1=>if cf x (e_ l j)<0 then M5 cf l x j else j+1
def be7(cf:α->α->Int)(l:List α)(x:α):List α:=gd3 l (M5 cf l x l.length) x
theorem cf0(l:List α)(j:Nat)(x:α):(gd3 l j x).Perm (x::l):=by
 have:=Mb (a:=x) (l₁:=l.take j) (l₂:=l.drop j)
 rw [Jl] at this;exact this
end Go.Sl
namespace Go.Sl
def evC(a b:Ev):Int:=if a.tm<b.tm then -1 else if b.tm<a.tm then 1 else 0
def j5(xs:List Lk):List Pt:=xs.map λl=>⟨l.u,l.v⟩
theorem dk5{a b:Ev}:evC a b<0↔a.tm<b.tm:=by unfold evC;repeat (first|omega|split)
end Go.Sl
namespace Go.Sl
open Go.Proofs
set_option maxRecDepth 4000
variable{kd mo nd wd:Int}{xs:List Lk}
theorem do4.none(h:¬ad2 nd xs kd wd mo):do4 nd xs kd wd mo 0:=⟨λM=>absurd M h,λ_=>rfl⟩
theorem cv5(h:q7 nd xs=0):∀x∈xs,0<=x.tm/\x.tm<=1048576:=λx M=>cg7 ((Q4 h).2.1 x M)
theorem bc0(M:¬s7 kd wd mo≠0)(h2:¬q7 nd xs≠0):dt3 nd xs kd wd mo=0:=by unfold dt3;rw [An M];exact Ft.1 h2
end Go.Sl
namespace Go.Sl
theorem ay8{kd wd mo:Int}(h:s7 kd wd mo=0):(kd=1/\wd=0/\mo=0)\/(kd=2/\(1<=wd/\wd<=1048576)/\mo=0)\/(kd=3/\wd=0/\0<=mo/\mo<=2016):=by
 unfold s7 at h
 split at h
 ·cases h
 split at h
 ·cases h
 omega
section
variable {nd kd wd mo:Int}{es:List Ev}
theorem F1{X:List Lk}(h:q7 nd X=0):s6 nd (j5 X):=by
 have h1:=P8.1 h
 refine ⟨h1.1,?_,λe he=>?_⟩
 ·show (j5 X).Pairwise Pt.lt
  unfold j5
  exact Mu _ (λa b M=>M) h1.2.2
 obtain ⟨l,hl,rfl⟩:=Gv.1 he
 exact bb9 h l hl
theorem G5(X:List Lk):(j5 X).length=X.length:=F_ ..
end
end Go.Sl
namespace Go.Sl
open Go.Proofs
set_option maxRecDepth 4000
variable {κ:Ctx}{I:List Item}
attribute [local irreducible] W G V D A j8 Eff
theorem bu3(n:Int):eu prog κ 137 [e7 n] I (λr J=>r = .bool (decide (0<=n/\n<64))/\I=J):=by
 refine Ce1 Tryz.func137 C C<|Z ?_
 refine A3 (d:=5) C (λM=>Z ?_)<|λM=>Z ?_
 ·exact Al C C I Ah ⟨(by first|exact Fz Value.bool (Fs.2<|by skip;omega)|exact Fz Value.bool (As<|by skip;omega).symm|exact Fz Value.bool (D_<|by skip;omega).symm),rfl⟩
 exact Al C C I Ah ⟨(by first|exact Fz Value.bool (Fs.2<|by skip;omega)|exact Fz Value.bool (As<|by skip;omega).symm|exact Fz Value.bool (D_<|by skip;omega).symm),rfl⟩
theorem fg9(e:Ev):eu prog κ 91 [.agg (ez e).toArray] I (λr J=>r = .bool (decide (K2 e))/\I=J):=by
 refine Ce1 Tryz.func91 C C ?_
 refine Ak<|Ge1 (Au (cs:=[_,_,_,_,_,_,_]) C C C) λb1=>Z ?_
 refine Am C (λc5=>Z ?_)<|λc5=>Z ?_
 ·refine Gc0 (Ac c_ C C<|bu3 e.u) ?_
  refine Gm C<|A3 (d:=9) C (λg9=>Z ?_)<|λg9=>Z ?_
  ·exact Al C C I Ah ⟨(by first|exact Fz Value.bool (Fs.2<|by unfold K2;omega)|exact Fz Value.bool (As<|by unfold K2;omega).symm|exact Fz Value.bool (D_<|by unfold K2;omega).symm),rfl⟩
  exact Al C C I Ah ⟨(by first|exact Fz Value.bool (Fs.2<|by unfold K2;omega)|exact Fz Value.bool (As<|by unfold K2;omega).symm|exact Fz Value.bool (D_<|by unfold K2;omega).symm),rfl⟩
 refine Gc0 (Ac c_ C C<|bu3 e.u) ?_
 refine Gm C<|A3 (d:=17) C (λaa=>Z ?_)<|λaa=>Z ?_
 ·refine Ds (Cn C C C) (Ac c_ C C<|bu3 e.v) ?_
  rintro _ _ ⟨_,_,⟨rfl,rfl⟩,rfl,rfl⟩
  refine Z ?_
  refine A3 (d:=22) C (λM=>Z ?_)<|λM=>Z ?_
  ·exact Al C C I Ah ⟨(by first|exact Fz Value.bool (Fs.2<|by unfold K2;omega)|exact Fz Value.bool (As<|by unfold K2;omega).symm|exact Fz Value.bool (D_<|by unfold K2;omega).symm),rfl⟩
  exact Al C C I Ah ⟨(by first|exact Fz Value.bool (Fs.2<|by unfold K2;omega)|exact Fz Value.bool (As<|by unfold K2;omega).symm|exact Fz Value.bool (D_<|by unfold K2;omega).symm),rfl⟩
 exact Al C C I Ah ⟨(by first|exact Fz Value.bool (Fs.2<|by unfold K2;omega)|exact Fz Value.bool (As<|by unfold K2;omega).symm|exact Fz Value.bool (D_<|by unfold K2;omega).symm),rfl⟩
theorem by1{L:Env}{k:Nat}{u:Bool}{p:Prop}[Decidable p](h:look L k=some (.bool u))(e:u=decide p:=by unfold K2;first|exact (As om).symm|exact (D_ om).symm|exact Fs.2 om):look L k=some (.bool (decide p)):=by rw [h,e]
theorem ab4(e:Ev):eu prog κ 45 [.agg (ez e).toArray] I (λr J=>r=e7 (z6 e)/\I=J):=by
 refine Ce1 Tryz.func45 C C ?_
 refine Ak<|Ge1 (Au (cs:=[_,_,_,_,_,_,_]) C C C) λb1=>Z ?_
 refine A3 (d:=7) C (λg7=>Z ?_)<|λg7=>Z ?_
 ·exact Al C C I Ah ⟨by rw [show z6 e=8 from aj9 om],rfl⟩
 refine Am C (λc3=>Z ?_)<|λc3=>Z ?_
 ·exact Al C C I Ah ⟨by rw [show z6 e=8 from aj9 om],rfl⟩
 refine A3 (d:=16) C (λae=>Z ?_)<|λae=>Z ?_
 ·exact Al C C I Ah ⟨by rw [show z6 e=9 from ap0 om om],rfl⟩
 refine Am C (λc12=>Z ?_)<|λc12=>Z ?_
 ·exact Al C C I Ah ⟨by rw [show z6 e=9 from ap0 om om],rfl⟩
 refine Gc0 (Ac c_ C C<|fg9 e)<|Z ?_
 refine Am C (λah=>Z ?_)<|λah=>Z ?_
 ·exact Al C C I Ah ⟨by rw [show z6 e=6 from bn8 om om (by first|assumption|(unfold K2;omega))],rfl⟩
 refine A3 (d:=29) C (λai=>Z ?_)<|λai=>Z ?_
 ·refine Ds (Cn C C C) (Ac c_ C C<|cb3 e.w e.lb e.sg) ?_
  rintro _ _ ⟨_,_,⟨rfl,rfl⟩,rfl,rfl⟩
  refine Z ?_
  refine Am C (λaj=>Z ?_)<|λaj=>Z ?_
  ·exact Al C C I Ah ⟨by rw [show z6 e=1 from N1 om om (by first|assumption|exact Ft.1 asm|(unfold K2;omega)) (by first|(exact .inr om)|exact .inl ⟨by omega,by assumption⟩|exact .inl ⟨by omega,λh=>by simp_all⟩)],rfl⟩
  refine A3 (d:=43) C (λad=>Z ?_)<|λad=>Z ?_
  ·refine A3 (d:=47) C (λM=>Z ?_) (λM=>Z ?_)
   ·exact Al C C I Ah ⟨by rw [show z6 e=1 from N1 om om (by first|assumption|exact Ft.1 asm|(unfold K2;omega)) (by first|(exact .inr om)|exact .inl ⟨by omega,by assumption⟩|exact .inl ⟨by omega,λh=>by simp_all⟩)],rfl⟩
   refine A3 (d:=52) C (λab=>Z ?_)<|λab=>Z ?_
   ·exact Al C C I Ah ⟨by rw [show z6 e=1 from N1 om om (by first|assumption|exact Ft.1 asm|(unfold K2;omega)) (by first|(exact .inr om)|exact .inl ⟨by omega,by assumption⟩|exact .inl ⟨by omega,λh=>by simp_all⟩)],rfl⟩
   refine Am C (λaa=>Z ?_)<|λaa=>Z ?_
   ·exact Al C C I Ah ⟨by rw [show z6 e=1 from N1 om om (by first|assumption|exact Ft.1 asm|(unfold K2;omega)) (by first|(exact .inr om)|exact .inl ⟨by omega,by assumption⟩|exact .inl ⟨by omega,λh=>by simp_all⟩)],rfl⟩
   exact Al C C I Ah ⟨by rw [show z6 e=0 from ab1 om om (by first|assumption|exact Ft.1 asm|(unfold K2;omega)) (λh=>by first|(exfalso;omega)|assumption|exact Ft.1 asm) (λh=>by omega)],rfl⟩
  exact Al C C I Ah ⟨by rw [show z6 e=0 from ab1 om om (by first|assumption|exact Ft.1 asm|(unfold K2;omega)) (λh=>by first|(exfalso;omega)|assumption|exact Ft.1 asm) (λh=>by omega)],rfl⟩
 refine A3 (d:=43) C (λad=>Z ?_)<|λad=>Z ?_
 ·refine A3 (d:=47) C (λM=>Z ?_) (λM=>Z ?_)
  ·exact Al C C I Ah ⟨by rw [show z6 e=1 from N1 om om (by first|assumption|exact Ft.1 asm|(unfold K2;omega)) (by first|(exact .inr om)|exact .inl ⟨by omega,by assumption⟩|exact .inl ⟨by omega,λh=>by simp_all⟩)],rfl⟩
  refine A3 (d:=52) C (λab=>Z ?_)<|λab=>Z ?_
  ·exact Al C C I Ah ⟨by rw [show z6 e=1 from N1 om om (by first|assumption|exact Ft.1 asm|(unfold K2;omega)) (by first|(exact .inr om)|exact .inl ⟨by omega,by assumption⟩|exact .inl ⟨by omega,λh=>by simp_all⟩)],rfl⟩
  refine Am C (λaa=>Z ?_)<|λaa=>Z ?_
  ·exact Al C C I Ah ⟨by rw [show z6 e=1 from N1 om om (by first|assumption|exact Ft.1 asm|(unfold K2;omega)) (by first|(exact .inr om)|exact .inl ⟨by omega,by assumption⟩|exact .inl ⟨by omega,λh=>by simp_all⟩)],rfl⟩
  exact Al C C I Ah ⟨by rw [show z6 e=0 from ab1 om om (by first|assumption|exact Ft.1 asm|(unfold K2;omega)) (λh=>by first|(exfalso;omega)|assumption|exact Ft.1 asm) (λh=>by omega)],rfl⟩
 exact Al C C I Ah ⟨by rw [show z6 e=0 from ab1 om om (by first|assumption|exact Ft.1 asm|(unfold K2;omega)) (λh=>by first|(exfalso;omega)|assumption|exact Ft.1 asm) (λh=>by omega)],rfl⟩
theorem Z8(e:Ev):eu prog κ 70 [.agg (ez e).toArray] I (λr J=>r=e7 (z6 e)/\I=J):=by
 refine Ce1 Tryz.func70 C C ?_
 refine Ak<|Ge1 (Au (cs:=[_,_,_,_,_,_,_]) C C C) λb1=>Ga C<|Ar<|Ax<|Ak<|Gf X0 C<|Gl ef ?_
 refine Gc0 (Ac c_ C C<|ag6 e.kd 1 3) ?_
 refine Gr (Fi C)<|Ar<|Am C (λc6=>?_)<|λc6=>?_
 ·exact Ak<|Ga C<|Ar<|B3<|Ck<|Al C C I Ah ⟨by rw [show z6 e=8 from aj9 om],rfl⟩
 refine Bc<|Ao<|Ax<|Ak<|Gf R0 C<|Gl ef ?_
 refine Gc0 (Ac c_ C C<|ag6 e.tm 0 1048576) ?_
 refine Gr (Fi C)<|Ar<|Am C (λc10=>?_)<|λc10=>?_
 ·exact Ak<|Ga C<|Ar<|B3<|Ck<|Al C C I Ah ⟨by rw [show z6 e=9 from ap0 om om],rfl⟩
 refine Bc<|Ao<|Ax<|W.cut (σ:=Nat) (λs=>([(1,pt b1),(42,.bool<|decide<|¬K2 e)]:Env)) (λs=>e8 b1 (ez e) 54::I) (λs=>True) ?_ ?_
 ·refine A6 (Gf L5 C<|Gl ef ?_)
  refine Gc0 (Ac c_ C C<|ag6 e.u 0 63) ?_
  refine Gr (Fi C)<|Gm C<|A3 (d:=15) C (λah=>?_)<|λah=>?_
  ·exact eb<|eb<|eb<|eb<|ee<|ee<|ee<|eb<|Gr (Bz C C)<|Gm C<|eb<|eb<|eb<|eb<|ee<|ee<|ee<|ee<|ee<|ee<|ee<|ee<|ee<|ee<|ee<|eb<|Gr (Bz C C)<|Bq<|Dm ((0)) trivial (hL:=(Aa C<|Aa (by1 C) Bb))
  refine e9 (Af X0 C)<|e9 (Bd ef) ?_
  refine e9 (Cx C C)<|e9 (Aq C)<|A3 (d:=19) C (λae=>?_)<|λae=>?_
  ·refine e9 (Af H6 C) (e9 (Bd ef) ?_)
   refine e9 (Cb C C)<|e9 (Bz C C)<|Gr (Bo C C)<|Gm C<|A3 (d:=25) C (λak=>?_)<|λak=>?_
   ·exact eb<|eb<|eb<|eb<|ee<|ee<|ee<|ee<|ee<|ee<|ee<|ee<|ee<|ee<|ee<|eb<|Gr (Bz C C)<|Bq<|Dm ((0)) trivial (hL:=(Aa C<|Aa (by1 C) Bb))
   refine e9 (Af X0 C)<|e9 (Bd ef) ?_
   refine e9 (Cb C C)<|e9 (Aq C)<|A3 (d:=29) C (λM=>?_)<|λM=>?_
   ·refine e9 (Af H6 C) (e9 (Bd ef) ?_)
    refine Ds (Cn C C C) (Ac c_ C C<|ag6 e.v 0 63) ?_
    rintro _ _ ⟨_,_,⟨rfl,rfl⟩,rfl,rfl⟩
    refine e9 (Fi C)<|e9 (Aq C)<|A3 (d:=34) C (λaa=>?_)<|λaa=>?_
    ·exact eb<|eb<|eb<|eb<|eb<|e9 (Bz C C)<|e9 (Bz C C)<|Gr (Bo C C)<|Bq<|Dm ((0)) trivial (hL:=(Aa C<|Aa (by1 C) Bb))
    refine e9 (Af L5 C)<|e9 (Bd ef) ?_
    refine e9 (Af H6 C)<|e9 (Bd ef) ?_
    exact e9 (Cx C C)<|e9 (Bo C C)<|e9 (Bz C C)<|Gr (Bo C C)<|Bq<|Dm ((0)) trivial (hL:=(Aa C<|Aa (by1 C) Bb))
   exact eb<|eb<|eb<|eb<|eb<|ee<|ee<|ee<|ee<|ee<|eb<|e9 (Bo C C)<|Gr (Bo C C)<|Bq<|Dm ((0)) trivial (hL:=(Aa C<|Aa (by1 C) Bb))
  refine eb<|eb<|eb<|e9 (Bo C C)<|Gr (Bo C C)<|Gm C<|e9 (Af X0 C)<|e9 (Bd ef) ?_
  refine e9 (Cb C C)<|e9 (Aq C)<|A3 (d:=29) C (λM=>?_)<|λM=>?_
  ·refine e9 (Af H6 C) (e9 (Bd ef) ?_)
   refine Ds (Cn C C C) (Ac c_ C C<|ag6 e.v 0 63) ?_
   rintro _ _ ⟨_,_,⟨rfl,rfl⟩,rfl,rfl⟩
   refine e9 (Fi C)<|e9 (Aq C)<|A3 (d:=34) C (λaa=>?_)<|λaa=>?_
   ·exact eb<|eb<|eb<|eb<|eb<|e9 (Bz C C)<|e9 (Bz C C)<|Gr (Bo C C)<|Bq<|Dm ((0)) trivial (hL:=(Aa C<|Aa (by1 C) Bb))
   refine e9 (Af L5 C)<|e9 (Bd ef) ?_
   refine e9 (Af H6 C)<|e9 (Bd ef) ?_
   exact e9 (Cx C C)<|e9 (Bo C C)<|e9 (Bz C C)<|Gr (Bo C C)<|Bq<|Dm ((0)) trivial (hL:=(Aa C<|Aa (by1 C) Bb))
  exact eb<|eb<|eb<|eb<|eb<|ee<|ee<|ee<|ee<|ee<|eb<|e9 (Bo C C)<|Gr (Bo C C)<|Bq<|Dm ((0)) trivial (hL:=(Aa C<|Aa (by1 C) Bb))
 rintro u0 hp
 show W prog κ 66 _ _ ([(1,pt b1),(42,.bool<|decide<|¬K2 e)]:Env) (e8 b1 (ez e) 54::I)
 refine Am C (λai=>?_)<|λai=>?_
 ·exact Ak<|Ga C<|Ar<|B3<|Ck<|Al C C I Ah ⟨by rw [show z6 e=6 from bn8 om om (by first|assumption|(unfold K2;omega))],rfl⟩
 refine Bc<|Ao<|Ax<|Ak<|Gf X0 C<|Gl ef ?_
 refine Gr (Cx C C)<|Ar<|Am C (λad=>?_)<|λad=>?_
 ·refine Ak (Gf bs4 C<|Gl ef ?_)
  refine Gf bf2 C<|Gl ef ?_
  refine Gf bf1 C<|Gl ef ?_
  refine Gc0 (Ac c_ C C<|cr2 e.w e.lb e.sg) ?_
  exact Ga C<|Ar<|B3<|Ck<|Al C C I Ah ⟨by rw [show z6 e=if G4 e.w e.lb e.sg then 0 else 1 from cv6 om om (by first|assumption|exact Ft.1 asm|(unfold K2;omega))],rfl⟩
 refine Bc<|Ao<|Ax<|Ak<|Gf bs4 C<|Gl ef ?_
 refine Gr (Cb C C)<|Gm C<|A3 (d:=56) C (λan=>?_)<|λan=>?_
 ·exact eb<|eb<|eb<|Gr (Bz C C)<|Gm C<|eb<|eb<|eb<|Gr (Bz C C)<|Ar<|A1 (S1 65)<|W.yes C<|Ak<|Ga C<|Ar<|B3<|Ck<|Al C C I Ah ⟨by rw [show z6 e=1 from N1 om om (by first|assumption|exact Ft.1 asm|(unfold K2;omega)) (by first|(exact .inr om)|exact .inl ⟨by omega,by assumption⟩|exact .inl ⟨by omega,λh=>by simp_all⟩)],rfl⟩
 refine e9 (Af bf2 C)<|e9 (Bd ef) ?_
 refine e9 (Cb C C)<|Gr (Bo C C)<|Gm C<|A3 (d:=61) C (λab=>?_)<|λab=>?_
 ·exact eb<|eb<|eb<|Gr (Bz C C)<|Ar<|A1 (S1 65)<|W.yes C<|Ak<|Ga C<|Ar<|B3<|Ck<|Al C C I Ah ⟨by rw [show z6 e=1 from N1 om om (by first|assumption|exact Ft.1 asm|(unfold K2;omega)) (by first|(exact .inr om)|exact .inl ⟨by omega,by assumption⟩|exact .inl ⟨by omega,λh=>by simp_all⟩)],rfl⟩
 refine e9 (Af bf1 C)<|e9 (Bd ef) ?_
 refine e9 (Cb C C)<|Gr (Bo C C)<|Ar<|A1 (S1 65)<|Am C (λaj=>?_)<|λaj=>?_
 ·exact Ak<|Ga C<|Ar<|B3<|Ck<|Al C C I Ah ⟨by rw [show z6 e=1 from N1 om om (by first|assumption|exact Ft.1 asm|(unfold K2;omega)) (by first|(exact .inr om)|exact .inl ⟨by omega,by assumption⟩|exact .inl ⟨by omega,λh=>by simp_all⟩)],rfl⟩
 exact Bc<|Ao<|Ak<|Ga C<|Ar<|B3<|Al C C I Ah ⟨by rw [show z6 e=0 from ab1 om om (by first|assumption|exact Ft.1 asm|(unfold K2;omega)) (λh=>by first|(exfalso;omega)|assumption|exact Ft.1 asm) (λh=>by omega)],rfl⟩
theorem fg5(nd:Int)(e:Ev):eu prog κ 170 [e7 nd,.agg (ez e).toArray] I (λr J=>r=e7 (cu2 nd e)/\I=J):=by
 refine Ce2 Tryz.func170 C C ?_
 refine Ak<|Ge1 (Au (cs:=[_,_,_,_,_,_,_]) C C C) λb1=>Ga C<|Ar<|Ax<|Ak<|Gl7 s9 ?_
 refine G.e (Ac c_ C C<|ab4 e) ?_
 rintro _ _ ⟨_,_,⟨rfl,rfl⟩,rfl,rfl⟩
 refine Z ?_
 refine Am C (λM=>Z ?_)<|λM=>Z ?_
 ·exact Al C C I Ah ⟨by rw [show cu2 nd e=z6 e from (by unfold cu2;rw [B_ M])],rfl⟩
 refine A3 (d:=15) C (λab=>Z ?_)<|λab=>Z ?_
 ·exact Al C C I Ah ⟨by rw [show cu2 nd e=6 from (by unfold cu2;rw [An M,B_ om])],rfl⟩
 refine Am C (λaa=>Z ?_)<|λaa=>Z ?_
 ·exact Al C C I Ah ⟨by rw [show cu2 nd e=6 from (by unfold cu2;rw [An M,B_ om])],rfl⟩
 exact Al C C I Ah ⟨by rw [show cu2 nd e=0 from (by unfold cu2;rw [An M,An om])],rfl⟩
theorem bh6(l:Lk)(nw:Int):eu prog κ 118 [.agg (kl l).toArray,e7 nw] I (λr J=>r = .agg #[e7 1,e7 nw,e7 l.u,e7 l.v,e7 l.w,e7 l.lb,e7 l.sg]/\I=J):=by
 refine Ce2 Tryz.func118 C C ?_
 refine Ak<|Ge1 (Au (cs:=[_,_,_,_,_,_]) C C C) λb1=>Ge1 (Aj s9 C) λM=>Z ?_
 refine Ge0 (au3 s9)<|Z ?_
 exact Ek C s9 C mm C I Ah ⟨rfl,rfl⟩
end Go.Sl
namespace Go.Sl
open Go.Proofs
set_option maxRecDepth 4000
end Go.Sl
namespace Go.Sl
open Go.Proofs
set_option maxRecDepth 4000
variable{a va:Option Addr}{M c i:Nat}{xs ys:List Lk}
variable {κ:Ctx}{I:List Item}
attribute [local irreducible] W G V D A j8 Eff
theorem gf7:∀M w,(callFunc 219 M).run prog w=((Extern.SlicesOverlaps.overlaps #[33,33] #[4] M).run prog w).andThen λv w'=> .ok (.value v) w':=λM w=>run_callFunc_extern (e:=Extern.SlicesOverlaps.overlaps #[33,33] #[4]) Tryz.func219 kr kr kr kr M w
theorem cz6(hi:i<=xs.length)(hy:0<ys.length)(ar:xs.length+ys.length<=1000000000):eu prog κ 210 [.slice a xs.length c,e7 ((i:Int)),.slice va ys.length M] (vc 82 (.slice a xs.length c) (xs)::vc 82 (.slice va ys.length M) (ys)::I) (λr J=>∃a' c',r = .slice a' (List.take i xs++ys++List.drop i xs).length c'/\J=vc 82 (.slice a' (List.take i xs++ys++List.drop i xs).length c') (List.take i xs++ys++List.drop i xs)::I):=by
 refine Bv (vc.cap A_) λap=>?_
 have ab:(List.take i xs++ys++List.drop i xs).length=xs.length+ys.length:=by simp only [By,Fp,Fx];omega
 refine Ce3 Tryz.func210 C C ?_
 refine Ak<|Ga C<|Ar<|Ak<|Gm C<|Gm C<|Gr (Dn (α:=Lk) (xs:=xs) (l:=i) A0 J2 C C om A5 lat)<|Ar<|Ak<|Gm C<|Gr (Bk A0 C)<|Ga C<|Ar<|Ax<|Ak<|Gm C<|Gr (Cx C C)<|Ar<|Am C (λah=>?_)<|λah=>?_
 ·exact absurd ah om
 refine Bc<|Ao<|Ak<|Gm C<|Gr (Bk A0 C)<|Ga C<|Ar<|A1 (S5 8 7 0 1 2)<|Ax<|Ak<|Gm C<|Gm C<|Gr (Cx C C)<|Ar<|Am C (λao=>?_)<|λao=>?_
 ·refine Ak (Gm C<|Gm C<|Ge2 (Br (α:=Lk) (e:=82) (xs:=xs) (ys:=ys) A0 J2 C C C mm A5 om dc C<|λ_ _=>am) λad ai=>?_)
  refine Ga C<|Ar<|B3<|Ck ?_
  have hR:List.take i xs++ys++List.drop i xs=xs++ys:=by rw [Fv om,Ha om,Gq]
  exact Al C C (vc 82 (.slice ad (List.take i xs++ys++List.drop i xs).length ai) (List.take i xs++ys++List.drop i xs)::I) (by rw [hR];exact Az) ⟨ad,ai,by rw [hR],rfl⟩
 refine Bc<|Ao<|Ax<|Ak<|Gm C<|Gm C<|Gr (Rad C C)<|Gm C<|Gr (j8.caps A0 C)<|Gr (Ed C C)<|Ar<|A1 (S6 31 8 7 0 1 2)<|Am C (λaj=>?_)<|λaj=>?_
 ·refine Ak (Gm C<|Gm C<|Gr (E2 (h:=i) A0 J2 C C om om)<|Gm C<|Gm C<|Gr (Rad C C)<|Gm C<|Gr (Rsu C C)<|Ge2 (Eff.grow (α:=Lk) (xs:=xs) (k:=xs.length+ys.length - i) A0 Cf J2 C C C om A5 om om om om dc C) λae aa=>?_)
  refine Ga C<|G.pull (p:=(List.take i xs++List.replicate (xs.length+ys.length - i) (default:Lk)).length<=aa) (vc.cap mm) λak=>?_
  have aq:(List.take i xs++List.replicate (xs.length+ys.length - i) (default:Lk)).length=xs.length+ys.length:=by simp only [By,Fp,Fy];omega
  refine Ar<|A1 (S5 9 7 0 1 2)<|Ak<|Gm C<|Gm C<|Gr (Dn (α:=Lk) (xs:=List.take i xs++List.replicate (xs.length+ys.length - i) (default:Lk)) (l:=i) A0 J2 C C om A5 lat)<|Gm C<|Ge0 (Fk (α:=Lk) (k:=i) (q:=ys.length) (R:=List.take i xs++ys++List.replicate (xs.length - i) (default:Lk)) (n:=(i+(xs.length+ys.length - i))) A0 J2 C lat C A5 lat lat C (gg7 hi) lat am) ?_
  refine Ar<|Ax<|Ba mixed<|Bx I 9<|Dr 0 C (Aq C)<|Dr 1 C (Aq C)<|Dr 2 C (Aq C)<|Dr 3 C (Rad C C)<|Dr 4 C (C2 (l:=(i+ys.length)) A0 J2 C C om om om)<|Dr 5 C (Aq C)<|Dr 6 C (Aq C)<|Dr 7 C (C2 (l:=i) A0 J2 C C om om om)<|Ds1 8<|Se0 C (Fk (α:=Lk) (k:=(i+ys.length)) (q:=(xs.length - i)) (R:=List.take i xs++ys++List.drop i xs) (n:=(i+(xs.length+ys.length - i))) A0 J2 C lat C (Sl.dz8 (Cz (xs:=xs) mm) om om) lat lat C (gg6 hi) lat am) ?_
  exact Dz<|Ao<|A1 (S1 9)<|Ak<|Gm C<|Ga C<|Ar<|B3<|Ck<|Al C C (vc 82 (.slice ae (List.take i xs++ys++List.drop i xs).length aa) (List.take i xs++ys++List.drop i xs)::I) (by rw [show (List.take i xs++ys++List.drop i xs).length=i+(xs.length+ys.length - i) by omega];exact Az) ⟨ae,aa,by rw [show (List.take i xs++ys++List.drop i xs).length=i+(xs.length+ys.length - i) by omega],rfl⟩
 refine Bc<|Ao<|Ak<|Gm C<|Gm C<|Gm C<|Gr (Rad C C)<|Gr (E2 (h:=xs.length+ys.length) A0 J2 C C om om)<|Ga C<|G.room (h:=xs.length+ys.length) (by repeat (first|exact AtF.head _ _|apply AtF.tail)) C om om<|λjs an=>?_
 show G prog κ _ _ _ _ ([(0,.slice a (xs.length+ys.length) c),(60,.slice a (xs.length+ys.length) c),(59,e7<|((xs.length:Nat):Int)+((ys.length:Nat):Int)),(58,e7 ((ys.length:Nat):Int)),(57,e7 ((xs.length:Nat):Int)),(56,.slice a xs.length c),(31,.bool<|decide<|(c:Int)<(((xs.length:Nat):Int)+((ys.length:Nat):Int))),(8,e7 ((xs.length:Nat):Int)),(7,e7 ((ys.length:Nat):Int)),(0,.slice a xs.length c),(1,e7<|(i:Int)),(2,.slice va ys.length M)]:Env) (vec 82 (Enc.sz Lk) (.slice a (xs.length+ys.length) c) (xs.length+ys.length) (cells xs++js)::vc 82 (.slice va ys.length M) (ys)::I)
 refine Ar<|Ax<|Ak<|Gm C<|Gm C<|Gm C<|Gm C<|Gr (Rad C C)<|Gr (C2 (l:=(i+ys.length)) A0 J2 C C om om om)<|Ge0 (Eff.overlaps (k:=i+ys.length) gf7 A0 J2 C C om om om (show Fit κ _ (vc 82 (.slice va ys.length M) ys::vec 82 (Enc.sz Lk) (.slice a (xs.length+ys.length) c) (xs.length+ys.length) (cells xs++js)::I) from Fit.sp (Sp.pick (ab6.tail _<|ab6.head _ _)<|Sp.refl _)) (Nat.mul_pos om Enc.pos) C) ?_
 refine Gr (E3 C)<|Ar<|A1 (S6 68 0 8 7 1 2)<|W.yes C<|Ax<|Ba mixed<|Bx I 9<|Dr 0 C (Aq C)<|Dr 1 C (Aq C)<|Dr 2 C (Aq C)<|Dr 3 C (Rad C C)<|Dr 4 C (C2 (l:=(i+ys.length)) A0 J2 C C om om om)<|Dr 5 C (Aq C)<|Dr 6 C (Aq C)<|Dr 7 C (C2 (l:=i) A0 J2 C C om om om)<|Ds1 8<|Se0 C (Eff.cg2 (sz:=Enc.sz Lk) (n:=xs.length+ys.length) (cs:=(cells xs++js)) (k:=(i+ys.length)) (q:=(xs.length - i)) A0 J2 C om C (au7.dz9 (au7.vec mm) om) om om (ce9 hi) C am) ?_
 show D prog κ _ _ _ _ _ _ _ ([(77,e7<|(((xs.length - i):Nat):Int)),(76,.slice (N9 a c i<|Enc.sz Lk) ((xs.length+ys.length) - i)<|c - i),(75,e7<|(i:Int)),(74,.slice a (xs.length+ys.length) c),(73,.slice (N9 a c (i+ys.length)<|Enc.sz Lk) ((xs.length+ys.length) - (i+ys.length))<|c - (i+ys.length)),(72,e7<|(i:Int)+((ys.length:Nat):Int)),(71,e7 ((ys.length:Nat):Int)),(70,e7<|(i:Int)),(69,.slice a (xs.length+ys.length) c),(68,.bool true),(0,.slice a (xs.length+ys.length) c),(8,e7 ((xs.length:Nat):Int)),(7,e7 ((ys.length:Nat):Int)),(1,e7<|(i:Int)),(2,.slice va ys.length M)]:Env) (vec 82 (Enc.sz Lk) (.slice a (xs.length+ys.length) c) (xs.length+ys.length) (List.take ((i+ys.length)*Enc.sz Lk) (cells xs++js)++List.take ((xs.length - i)*Enc.sz Lk) (List.drop (i*Enc.sz Lk)<|cells xs++js)++List.drop ((i+ys.length)*Enc.sz Lk+(xs.length - i)*Enc.sz Lk) (cells xs++js))::vc 82 (.slice va ys.length M) (ys)::I)
 refine Dz<|Ao<|A1 (S3 0 1 2)<|Ak<|Gm C<|Gm C<|Gr (C2 (l:=i) A0 J2 C C om om om)<|Gm C<|Ge0 (Eff.cg2 (sz:=Enc.sz Lk) (n:=xs.length+ys.length) (cs:=(List.take ((i+ys.length)*Enc.sz Lk) (cells xs++js)++List.take ((xs.length - i)*Enc.sz Lk) (List.drop (i*Enc.sz Lk)<|cells xs++js)++List.drop ((i+ys.length)*Enc.sz Lk+(xs.length - i)*Enc.sz Lk) (cells xs++js))) (k:=i) (q:=ys.length) A0 J2 C om C (show Sl κ _ (.slice va ys.length M) ys from (Cz (e:=82) (xs:=ys) mm)) om om (λu hu=>cells_one ys u<|Hw hu) C am) ?_
 show G prog κ _ _ _ _ ([(82,e7 ((ys.length:Nat):Int)),(81,.slice va ys.length M),(80,.slice (N9 a c i<|Enc.sz Lk) ((xs.length+ys.length) - i)<|c - i),(79,e7<|(i:Int)),(78,.slice a (xs.length+ys.length) c),(0,.slice a (xs.length+ys.length) c),(1,e7<|(i:Int)),(2,.slice va ys.length M)]:Env) (vec 82 (Enc.sz Lk) (.slice a (xs.length+ys.length) c) (xs.length+ys.length) (List.take (i*Enc.sz Lk) (List.take ((i+ys.length)*Enc.sz Lk) (cells xs++js)++List.take ((xs.length - i)*Enc.sz Lk) (List.drop (i*Enc.sz Lk)<|cells xs++js)++List.drop ((i+ys.length)*Enc.sz Lk+(xs.length - i)*Enc.sz Lk) (cells xs++js))++List.take (ys.length*Enc.sz Lk) (cells ys)++List.drop (i*Enc.sz Lk+ys.length*Enc.sz Lk) (List.take ((i+ys.length)*Enc.sz Lk) (cells xs++js)++List.take ((xs.length - i)*Enc.sz Lk) (List.drop (i*Enc.sz Lk)<|cells xs++js)++List.drop ((i+ys.length)*Enc.sz Lk+(xs.length - i)*Enc.sz Lk) (cells xs++js)))::vc 82 (.slice va ys.length M) (ys)::I)
 refine Ar<|Ak<|Gm C<|Ga C<|Ar<|B3<|Ck ?_
 have hC:(List.take (i*Enc.sz Lk) (List.take ((i+ys.length)*Enc.sz Lk) (cells xs++js)++List.take ((xs.length - i)*Enc.sz Lk) (List.drop (i*Enc.sz Lk)<|cells xs++js)++List.drop ((i+ys.length)*Enc.sz Lk+(xs.length - i)*Enc.sz Lk) (cells xs++js))++List.take (ys.length*Enc.sz Lk) (cells ys)++List.drop (i*Enc.sz Lk+ys.length*Enc.sz Lk) (List.take ((i+ys.length)*Enc.sz Lk) (cells xs++js)++List.take ((xs.length - i)*Enc.sz Lk) (List.drop (i*Enc.sz Lk)<|cells xs++js)++List.drop ((i+ys.length)*Enc.sz Lk+(xs.length - i)*Enc.sz Lk) (cells xs++js)))=cells (List.take i xs++ys++List.drop i xs):=be8 hi an
 exact Al C C (vc 82 (.slice a (List.take i xs++ys++List.drop i xs).length c) (List.take i xs++ys++List.drop i xs)::I) (by rw [hC];show Fit κ _ (vec 82 _ (.slice a (List.take i xs++ys++List.drop i xs).length c) (List.take i xs++ys++List.drop i xs).length (cells<|List.take i xs++ys++List.drop i xs)::I);rw [ab];exact Az) ⟨a,c,by rw [ab],rfl⟩
theorem bi2{n m:Nat}{K:List Item}(hf:Fit κ I (vc 82 (.slice a n c) xs::vc 82 (.slice va m M) ys::K))(hn:n=xs.length)(hm:m=ys.length)(hi:i<=xs.length)(hy:0<ys.length)(aa:xs.length+ys.length<=1000000000):eu prog κ 210 [.slice a n c,e7 (i:Int),.slice va m M] I (λr J=>∃a' c',r = .slice a' (List.take i xs++ys++List.drop i xs).length c'/\J=vk 82 a' c' (List.take i xs++ys++List.drop i xs)::K):=by
 subst hn hm
 exact Cm hf<|cz6 hi hy aa
theorem fh9{v:Value}(hl:Sl κ I v xs)(x:Lk){g:FuncId}{aa:List Value}{cf:Lk->Lk->Int}(M:gd9 prog κ I g aa cf)(ao:xs.length<=1000000000000):eu prog κ 209 [v,.agg (kl x).toArray,.func (.func g) #[] aa.toArray] I (λr J=>∃i b,r = .tuple #[e7 ((i:Nat):Int),.bool b]/\U5 cf xs x i b/\I=J):=by
 refine Bv hl.le λak=>?_
 refine Ce3 Tryz.func209 C C ?_
 refine Ak<|Ge1 (Au (cs:=[_,_,_,_,_,_]) C C C) λb1=>Z ?_
 refine Dh (σ:=Nat×Nat) (λs=>[(9,e7 ((s.1:Nat):Int)),(10,e7 ((s.2:Nat):Int))]) (λ_=>[]) (λs=>(s.1<=s.2)/\(s.2<=xs.length)/\(0<s.1->cf (e_ xs<|(s.1:Int) - 1) x<0)/\(s.2<xs.length->¬cf (e_ xs s.2) x<0)) (λs=>s.2 - s.1) (0,xs.length) (show ((0:Nat)<=(xs.length:Nat))/\((xs.length:Nat)<=xs.length)/\(0<(0:Nat)->cf (e_ xs<|((0:Nat):Int) - 1) x<0)/\((xs.length:Nat)<xs.length->¬cf (e_ xs ((xs.length:Nat):Int)) x<0) from ⟨om,om,(λh=>absurd h dc),(λh=>absurd h om)⟩) ?_
 rintro ⟨i,j⟩ hp
 dsimp only at hp ⊢
 obtain ⟨an,hj,ah,ae⟩:=hp
 refine Z ?_
 refine Am C (λaj=>Z ?_)<|λaj=>Z ?_
 ·refine Gr (j8.ga4 Cf D5 C om) (Gr (j8.gj8 C C)<|Gr (j8.fa9 D5 Cf C<|by unfold InR;omega)<|Z ?_)
  refine Ba mixed<|Bx (e8 b1 (kl x) 82::I) 8<|Z ?_
  refine Ds1 6<|Se C (Cy M.1 (first:=[]) (caps:=aa) C C C<|M.2 (e_ xs<|((i:Int)+(j:Int)) / 2) x _ Ah) ?_
  rintro _ _ ⟨_,_,⟨rfl,rfl⟩,rfl,rfl⟩
  refine ⟨Ai,?_⟩
  refine Z ?_
  refine Am C (λad=>Z ?_)<|λad=>Z ?_
  ·exact Bt (((i+j) / 2+1),(j))<|by dsimp only;exact ⟨om,om,(λ_=>by rw [show (((i+j) / 2+1:Nat):Int) - 1=((i:Int)+(j:Int)) / 2 by omega];exact ad),ae⟩
  exact Bt ((i),((i+j) / 2))<|by dsimp only;exact ⟨om,om,ah,(λ_=>by rw [show (((i+j) / 2:Nat):Int)=((i:Int)+(j:Int)) / 2 by omega];exact ad)⟩
 refine Ba mixed<|Bx (e8 b1 (kl x) 82::I) 16<|Z ?_
 refine Dj (d:=39) C (λai=>Z ?_)<|λai=>?_
 ·refine Ds1 11 (Se C (Cy M.1 (first:=[]) (caps:=aa) C C C<|M.2 (e_ xs i) x _ Ah) ?_)
  rintro _ _ ⟨_,_,⟨rfl,rfl⟩,rfl,rfl⟩
  refine ⟨Ai,?_⟩
  refine Z ?_
  have ab:i=j:=by omega
  subst ab
  exact C3 C C C I Ah ⟨i,_,rfl,⟨hj,ah,ae,(Fs.2 ⟨λh=>⟨by omega,h⟩,λh=>h.2⟩)⟩,rfl⟩
 refine Dpo 5 C<|Z ?_
 have ab:i=j:=by omega
 subst ab
 exact C3 C C C I Ah ⟨i,_,rfl,⟨hj,ah,ae,((D_<|λh=>by omega).symm)⟩,rfl⟩
theorem ch7:gd9 prog κ I 144 [] Lk.cmp:=⟨c_,λx y J M=>bh9 x y⟩
end Go.Sl
namespace Go.Sl
open Go.Proofs
set_option maxRecDepth 4000
end Go.Sl
namespace Go.Sl
open Go.Proofs
set_option maxRecDepth 4000
variable{b:Nat}
variable {κ:Ctx}{I:List Item}
attribute [local irreducible] W G V D A j8 Eff
theorem cm9{e:Ev}{l:Lk}(h:e.kd=2):ah5 e l=decide (l.u=(if e.v<e.u then e.v else e.u)/\l.v=(if e.u<e.v then e.v else e.u)):=by unfold ah5;rw [B_ h];rfl
theorem cn0{e:Ev}{l:Lk}(h:¬e.kd=2):ah5 e l=decide (l.u=e.u\/l.v=e.u):=by unfold ah5;rw [An h]
theorem fc9{e:Ev}(hk:e.kd=2)(M:ab8 κ I b (ez e) 54)(x:Lk):eu prog κ 186 [.agg (kl x).toArray,(pt b)] I (λr J=>r = .bool (ah5 e x)/\I=J):=by
 refine Ce2 Tryz.func186 C C ?_
 refine Ak<|Ge1 (Au (cs:=[_,_,_,_,_,_]) C C C) λb1=>Z ?_
 refine Gr (Eb ef C (El M Ah) C)<|Gf H6 C<|Gr (Eb ef C (El M Ah) C)<|Z ?_
 refine A3 (d:=12) C (λaa=>Z ?_)<|λaa=>Z ?_
 ·refine e9 (Eb ef C (El M Ah) C) (Z ?_)
  refine e9 (Eb ef C (El M Ah) C)<|Z ?_
  exact Al C C I Ah ⟨by rw [cm9 hk];exact (by first|exact Fz Value.bool (Fs.2<|by skip;omega)|exact Fz Value.bool (As<|by skip;omega).symm|exact Fz Value.bool (D_<|by skip;omega).symm),rfl⟩
 exact Al C C I Ah ⟨by rw [cm9 hk];exact (by first|exact Fz Value.bool (Fs.2<|by skip;omega)|exact Fz Value.bool (As<|by skip;omega).symm|exact Fz Value.bool (D_<|by skip;omega).symm),rfl⟩
theorem cx1{e:Ev}(hk:e.kd=2)(M:ab8 κ I b (ez e) 54):dp0 prog κ I 186 [(pt b)] (ah5 e):=⟨c_,λx J hf=>fc9 hk (M.fit hf) x⟩
theorem fc8{e:Ev}(hk:¬e.kd=2)(M:ab8 κ I b (ez e) 54)(x:Lk):eu prog κ 187 [.agg (kl x).toArray,(pt b)] I (λr J=>r = .bool (ah5 e x)/\I=J):=by
 refine Ce2 Tryz.func187 C C ?_
 refine Ak<|Ge1 (Au (cs:=[_,_,_,_,_,_]) C C C) λb1=>Z ?_
 refine Gr (Eb ef C (El M Ah) C)<|Z ?_
 refine A3 (d:=9) C (λg9=>Z ?_)<|λg9=>Z ?_
 ·exact Al C C I Ah ⟨by rw [cn0 hk];exact (by first|exact Fz Value.bool (Fs.2<|by skip;omega)|exact Fz Value.bool (As<|by skip;omega).symm|exact Fz Value.bool (D_<|by skip;omega).symm),rfl⟩
 refine e9 (Eb ef C (El M Ah) C)<|Z ?_
 exact Al C C I Ah ⟨by rw [cn0 hk];exact (by first|exact Fz Value.bool (Fs.2<|by skip;omega)|exact Fz Value.bool (As<|by skip;omega).symm|exact Fz Value.bool (D_<|by skip;omega).symm),rfl⟩
theorem cx0{e:Ev}(hk:¬e.kd=2)(M:ab8 κ I b (ez e) 54):dp0 prog κ I 187 [(pt b)] (ah5 e):=⟨c_,λx J hf=>fc8 hk (M.fit hf) x⟩
end Go.Sl
namespace Go.Sl
open Go.Proofs
set_option maxRecDepth 4000
variable{kd mo wd:Int}{xs ys:List Lk}{out zs:List Ev}
theorem bz0{e:Ev}(h:Q0 kd wd mo e.tm (xs,out)=(ys,zs))(M:kd=3):p5 kd wd mo (xs,out) e=((ep ys e).filter (inW kd wd mo e.tm (ep ys e)),zs++[e]++s3 kd wd mo e.tm (ep ys e)):=by
 unfold p5 cr5;rw [h,B_ M]
theorem cu4{e:Ev}(h:Q0 kd wd mo e.tm (xs,out)=(ys,zs))(M:¬kd=3):p5 kd wd mo (xs,out) e=(ep ys e,zs++[e]):=by
 unfold p5 cr5;rw [h,An M]
theorem cv4(h:s7 kd wd mo=0)(M:kd=2):1<=wd:=by
 unfold s7 at h
 split at h
 ·cases h
 split at h
 ·cases h
 omega
end Go.Sl
namespace Go.Proofs
def Tryz.dd2:Go.Shelf.Ren:=⟨fun |5=>163|8=>181|7=>180|19=>207|20=>208|10=>198|11=>199|12=>200|13=>201|14=>202|15=>203|16=>204|17=>205|18=>206|30=>214|31=>215|32=>216|33=>217|34=>218|35=>179|40=>222|n=>n,fun |23=>22|25=>3|3=>3|32=>233|22=>22|0=>0|44=>251|46=>207|4=>4|36=>244|35=>243|41=>225|5=>5|9=>9|53=>256|57=>260|63=>265|64=>266|n=>n,fun |n=>n⟩
theorem Tryz.ge9:Go.Proofs.SlLaysM.n5 prog Tryz.dd2:={
 mixed:=by kernel_rfl,
 f5:=⟨Tryz.f163.name,by decide,Tryz.func163.trans<|congrArg some<|by kernel_rfl⟩,
 f7:=⟨Tryz.f180.name,by decide,Tryz.func180.trans<|congrArg some<|by kernel_rfl⟩,
 f8:=Tryz.func181.trans (congrArg some<|by kernel_rfl),
 f10:=⟨Tryz.f198.name,by decide,Tryz.func198.trans<|congrArg some<|by kernel_rfl⟩,
 f11:=⟨Tryz.f199.name,by decide,Tryz.func199.trans<|congrArg some<|by kernel_rfl⟩,
 f12:=⟨Tryz.f200.name,by decide,Tryz.func200.trans<|congrArg some<|by kernel_rfl⟩,
 f13:=⟨Tryz.f201.name,by decide,Tryz.func201.trans<|congrArg some<|by kernel_rfl⟩,
 f14:=⟨Tryz.f202.name,by decide,Tryz.func202.trans<|congrArg some<|by kernel_rfl⟩,
 f15:=⟨Tryz.f203.name,by decide,Tryz.func203.trans<|congrArg some<|by kernel_rfl⟩,
 f16:=⟨Tryz.f204.name,by decide,Tryz.func204.trans<|congrArg some<|by kernel_rfl⟩,
 f17:=⟨Tryz.f205.name,by decide,Tryz.func205.trans<|congrArg some<|by kernel_rfl⟩,
 f18:=⟨Tryz.f206.name,by decide,Tryz.func206.trans<|congrArg some<|by kernel_rfl⟩,
 f19:=Tryz.func207.trans (congrArg some<|by kernel_rfl),
 f20:=Tryz.func208.trans (congrArg some<|by kernel_rfl),
 f30:=⟨Tryz.f214.name,by decide,Tryz.func214.trans<|congrArg some<|by kernel_rfl⟩,
 f31:=Tryz.func215.trans (congrArg some<|by kernel_rfl),
 f32:=Tryz.func216.trans (congrArg some<|by kernel_rfl),
 f33:=⟨Tryz.f217.name,by decide,Tryz.func217.trans<|congrArg some<|by kernel_rfl⟩,
 f34:=⟨Tryz.f218.name,by decide,Tryz.func218.trans<|congrArg some<|by kernel_rfl⟩,
 f35:=⟨Tryz.f179.name,by decide,Tryz.func179.trans<|congrArg some<|by kernel_rfl⟩,
 f40:=⟨Tryz.f222.name,by decide,Tryz.func222.trans<|congrArg some<|by kernel_rfl⟩,
 t0:=Tryz.underlying0,
 a0:=Tryz.isAgg0,
 z0:=Tryz.sizeOf0,
 v0:=Tryz.zeroValue0,
 t3:=Tryz.underlying3,
 a3:=Tryz.isAgg3,
 z3:=Tryz.sizeOf3,
 v3:=Tryz.zeroValue3,
 t4:=Tryz.underlying4,
 a4:=Tryz.isAgg4,
 z4:=Tryz.sizeOf4,
 v4:=Tryz.zeroValue4,
 t5:=Tryz.underlying5,
 a5:=Tryz.isAgg5,
 z5:=Tryz.sizeOf5,
 v5:=Tryz.zeroValue5,
 t9:=Tryz.underlying9,
 a9:=Tryz.isAgg9,
 z9:=Tryz.sizeOf9,
 v9:=Tryz.zeroValue9,
 t22:=Tryz.underlying22,
 a22:=Tryz.isAgg22,
 z22:=Tryz.sizeOf22,
 v22:=Tryz.zeroValue22,
 t23:=Tryz.underlying22,
 a23:=Tryz.isAgg22,
 z23:=Tryz.sizeOf22,
 v23:=Tryz.zeroValue22,
 t25:=Tryz.underlying3,
 a25:=Tryz.isAgg3,
 z25:=Tryz.sizeOf3,
 v25:=Tryz.zeroValue3,
 t32:=Tryz.underlying233,
 a32:=Tryz.isAgg233,
 z32:=Tryz.sizeOf233,
 v32:=Tryz.zeroValue233,
 t35:=Tryz.underlying243,
 a35:=Tryz.isAgg243,
 z35:=Tryz.sizeOf243,
 v35:=Tryz.zeroValue243,
 t36:=Tryz.underlying244,
 a36:=Tryz.isAgg244,
 z36:=Tryz.sizeOf244,
 v36:=Tryz.zeroValue244,
 t41:=Tryz.underlying225,
 a41:=Tryz.isAgg225,
 z41:=Tryz.sizeOf225,
 v41:=Tryz.zeroValue225,
 t44:=Tryz.underlying251,
 a44:=Tryz.isAgg251,
 z44:=Tryz.sizeOf251,
 v44:=Tryz.zeroValue251,
 t46:=Tryz.underlying207,
 a46:=Tryz.isAgg207,
 z46:=Tryz.sizeOf207,
 v46:=Tryz.zeroValue207,
 t53:=Tryz.underlying256,
 a53:=Tryz.isAgg256,
 z53:=Tryz.sizeOf256,
 v53:=Tryz.zeroValue256,
 t57:=Tryz.underlying260,
 a57:=Tryz.isAgg260,
 z57:=Tryz.sizeOf260,
 v57:=Tryz.zeroValue260,
 t63:=Tryz.underlying265,
 a63:=Tryz.isAgg265,
 z63:=Tryz.sizeOf265,
 v63:=Tryz.zeroValue265,
 t64:=Tryz.underlying266,
 a64:=Tryz.isAgg266,
 z64:=Tryz.sizeOf266,
 v64:=Tryz.zeroValue266}
end Go.Proofs
namespace Go.Sl
open Go.Proofs Go.Shelf Go.RowKit Go.Lib Go.Sort
variable{xs:List Int}{P:Program}{κ:Ctx}{I:List Item}{e:TypeId}{ad:Option Addr}{c:Nat}
def V8(xs:List Int):List Int:=xs.mergeSort λx y=>decide (x<=y)
theorem ad5(xs:List Int):(V8 xs).Perm xs:=List.mergeSort_perm _ _
theorem ad6(xs:List Int):(V8 xs).length=xs.length:=(ad5 xs).length_eq
theorem dg4{x:Int}:x∈V8 xs↔x∈xs:=(ad5 xs).mem_iff
theorem bc7(xs:List Int):(V8 xs).Pairwise (· <= ·):=by
 have h:=List.pairwise_mergeSort (le:=λx y:Int=>decide<|x<=y) (λa b c M h2=>by simp at *; omega) (λa b=>by simp;omega) xs
 exact h.imp λh=>by simpa using h
theorem cs2{ρ:Ren}(L:SlLaysM.n5 P ρ)(hc:0<c)(ay:xs.length<4611686018427387904):eu P κ (ρ.f 5) [.slice ad xs.length c] (vc e (.slice ad xs.length c) xs::I) λr J=>r = .tuple #[]/\J=vc e (.slice ad (V8 xs).length c) (V8 xs)::I:=by
 intro w hs
 obtain ⟨av,_⟩:=hs.ok _ A_
 obtain ⟨a',az,hv,hl,ap,ax,ao⟩:=av
 cases hv
 obtain ⟨b,off,ae,rfl,hb,aa,ai⟩:=ao hc
 have aj:b<w.heap.size:=(Array.getElem?_eq_some_iff.1 hb).1
 have ab:=ad6 xs
 have ah:∀ys:List Int,cells ys=ys.map λx=>e7 x:=λys=>by
  induction ys with
  |nil=>rfl
  |cons y ys ih=>show e7 y::cells ys=_;rw [ih];rfl
 have an:∀ys:List Int,(cells ys).length=ys.length:=λys=>by rw [ah,F_]
 have hH:Holds (Value.int .i64) w b off xs.toArray:=λj hj=>by
  have M:j<xs.length:=by simpa using hj
  have h1:=ai j (e7 xs[j]) (by rw [ah,Kr,H_ M];rfl)
  refine ⟨?_,by simp [World.frozen?,hb]⟩
  rw [cell_of_row w b (off+j) ae e (0,0) hb,h1]
  simp [Lf,M]
 have h:=AnyM.slices_Sort_int L b off c xs w hH aj ay
 refine Calls.mono h ?_
 rintro e' w' ⟨rfl,n,os,rfl⟩
 refine ⟨_,_,rfl,⟨rfl,rfl⟩,?_⟩
 have hz:(xs.mergeSort λx y=>decide<|x<=y)=V8 xs:=rfl
 rw [hz]
 refine hs.upd (At.head _ _ _) rfl ⟨rfl,by simp [putRow,mapBlock,Sort.grow,Sort.ahead]⟩ rfl (by simp [putRow,mapBlock,Sort.grow,Sort.ahead]) (λk hk au=>?_) ?_ λk hk=> .inl ?_
 ·have ar:k≠b:=λaw=>au (by subst aw;exact ⟨off,xs.length,c,rfl,hc⟩)
  simp only [Sort.grow,putRow,mapBlock,Sort.ahead]
  rw [Jh (by simpa using hk),Ma,An<|λe=>ar e.symm]
 ·refine ⟨_,c,rfl,(an _).trans (Nat.mul_one _).symm,by rw [ab];exact ap,ax,λ_=>⟨b,off,putCells (Value.int .i64) off (V8 xs).toArray ae,rfl,?_,?_,λj u hj=>?_⟩⟩
  ·simp only [Sort.grow,putRow,mapBlock,Sort.ahead]
   rw [Jh (by simpa using aj),Ma,B_ rfl]
   show (w.heap[b]?).map _=_
   rw [hb];rfl
  ·simpa [putCells] using aa
  have M:j<(V8 xs).length:=by rw [←an];exact (Gw.1 hj).1
  have ak:off+j<ae.size:=by
   have:=aa;rw [ab] at M
   have:c*Enc.sz Int=c:=Nat.mul_one c
   omega
  simp only [putCells,Array.getElem?_mapIdx,Array.getElem?_eq_getElem ak,Option.map_some]
  rw [B_ ⟨by omega,by simpa using M⟩,Kg]
  rw [ah,Kr,H_ M] at hj
  simpa [Lf,M] using hj
 obtain ⟨o',n',c',aq,a0⟩:=hk
 cases aq
 exact ⟨off,xs.length,c,rfl,hc⟩
theorem dd3{ρ:Ren}(L:SlLaysM.n5 P ρ)(M:xs.length<4611686018427387904):eu P κ (ρ.f 5) [.slice ad xs.length c] (vc e (.slice ad xs.length c) xs::I) λr J=>r = .tuple #[]/\J=vc e (.slice ad (V8 xs).length c) (V8 xs)::I:=by
 by_cases hc:0<c
 ·exact cs2 L hc M
 intro w hs
 obtain ⟨aa,_⟩:=hs.ok _ A_
 obtain ⟨a',ab,hv,hl,ah,ai,ae⟩:=aa
 cases hv
 obtain rfl:xs=[]:=Hn (by omega)
 refine Calls.mono (AnyM.slices_Sort_int_none L ad c w) ?_
 rintro e' w' ⟨rfl,rfl⟩
 have hz:V8 []=[]:=Hn (ad6 [])
 refine ⟨_,_,rfl,⟨rfl,rfl⟩,?_⟩
 rw [hz];exact hs
end Go.Sl
namespace Go.Sl
end Go.Sl
namespace Go.Sl
open Go.Proofs
set_option maxRecDepth 4000
theorem fj8{α:Type}[Inhabited α]{xs ys:List α}(hl:xs.length=ys.length)(h:∀j,j<xs.length->e_ xs j=e_ ys j):xs=ys:=by
 refine Mc hl λj M h2=>?_
 have:=h j M
 rwa [Ct xs j M,Ct ys j h2] at this
theorem gc5{κ:Ctx}{I:List Item}{la:Option Addr}{M lc:Nat} :
    eu prog κ 10 [.slice la M lc] I (λr J=>r = .bool (decide<|(M:Int)<=500)/\I=J):=by
 refine Ce1 Tryz.func10 C C ?_
 exact Ak<|Ga C<|Ar<|Ak<|Gm C<|Gr (Bk Ab C)<|Gr (j8.leq C C)<|Ga C<|Ar<|B3<|Al C C I Ah ⟨rfl,rfl⟩
end Go.Sl
