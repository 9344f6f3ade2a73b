/- A part of the proofs of statements of this seat: contracts of functions, and the plain laws that they lean on. No conditions. -/
import Derived.Test.YtoagcglbkeomgaaGreatDoorA19
set_option linter.unusedVariables false
set_option linter.unusedSimpArgs false
set_option linter.unusedSectionVars false
open Go.Proofs.Tryz (prog)
open List (replicate)
set_option maxHeartbeats 2000000
namespace Go.Sl
open Go.Proofs
set_option maxRecDepth 4000
variable{l:List Int}{a i j k:Nat}{b c d u v w y:Int}{κ:Ctx}{I:List Item}{va:Value}
theorem bk1(f:Int->Int):∀k,k<=l.length->p8 k (λi=>f (e_ l i))=((l.take k).map f).sum
 |0,_=>by rw [Jw];rfl
 |k+1,h=>by
  rw [Ca l k om,Hv,List.sum_append,←bk1 f k om]
  show _+f _=_+(f _+0)
  omega
theorem au9{n:Nat}(g:Nat->Int)(hn:l.Nodup)(M:∀x∈l,0<=x/\x<(n:Int)):p8 l.length (λi=>g (e_ l i).toNat)=p8 n λj=>if (j:Int)∈l then g j else 0:=by
 rw [bk1 (λx=>g x.toNat) l.length (Gi _),Hg,ap6 g hn M]
theorem dn1(M:l.Pairwise (λx y=>x<y))(hi:i<l.length)(hk:k<l.length):i<k↔e_ l i<e_ l k:=by
 rw [Hc] at M
 rw [Ct _ i hi,Ct _ k hk]
 constructor
 ·exact M i k hi hk
 intro h
 rcases Ks i k with q|q|q
 ·exact q
 ·subst q;omega
 have:=M k i hk hi q;omega
theorem cr6{n:Nat}(h:Nat->Nat->Int)(ha:l.Pairwise (λx y=>x<y))(M:∀x∈l,0<=x/\x<(n:Int)) :
  p8 l.length (λi=>p8 l.length λk=>if i<k then h (e_ l i).toNat (e_ l k).toNat else 0)=p8 n λb=>if (b:Int)∈l then (p8 n λd=>if (d:Int)∈l then (if b<d then h b d else 0) else 0) else 0:=by
 have hn:l.Nodup:=ha.imp λh=>by omega
 rw [←au9 (λb=>p8 n λd=>if (d:Int)∈l then (if b<d then h b d else 0) else 0) hn M]
 refine Bz _ λi hi=>?_
 rw [←au9 (λd=>if (e_ l i).toNat<d then h (e_ l i).toNat d else 0) hn M]
 refine Bz _ λk hk=>?_
 have h1:=dn1 ha hi hk
 have h2:=M _ (Bo (xs:=l) (i:=(i:Int)) om om)
 have h3:=M _ (Bo (xs:=l) (i:=(k:Int)) om om)
 by_cases q:i<k
 ·rw [B_ q,B_<|by have:=h1.1 q;omega]
 rw [An q,An<|λq2=>q<|h1.2 om]
theorem ap8{n w:Nat}(M:w<n)(F:Nat->Int):p8 n (λa=>if a=w then F a else 0)=F w:=by
 rw [←R8 M (F w)]
 exact Bz n λa _=>by by_cases q:a=w<;>simp [q]
theorem V3{n:Nat}{p:Prop}[Decidable p](F:Nat->Int):p8 n (λc=>if p then F c else 0)=if p then p8 n F else 0:=by
 by_cases q:p
 ·rw [B_ q];exact Bz n λc _=>B_ q
 rw [An q];exact Es n λc _=>An q
theorem bc1{g:Nat->Int}{B:Int}(h:∀x,0<=g x/\g x<=B):∀m:Nat,0<=p8 m g/\p8 m g<=B*(m:Int)
 |0=>by simp [p8]
 |m+1=>by
  have h1:=bc1 h m
  have M:=h m
  have e:B*((m+1:Nat):Int)=B*(m:Int)+B:=by rw [Mn,Lu];simp
  show 0<=p8 m g+g m/\p8 m g+g m<=_
  rw [e];omega
section
variable {nd:Int}{es:List Pt}
def cc7(nd:Int)(es:List Pt)(a i k:Nat):List Int:=j3 nd es (e_ (nbG nd es (a:Int)) (i:Int)) (e_ (nbG nd es (a:Int)) (k:Int))
def sq1(nd:Int)(es:List Pt)(φ:Nat->Nat->Nat->Nat->Int)(a i k j:Nat):Int:=
 if (a:Int)<e_ (nbG nd es (a:Int)) (i:Int)/\(a:Int)<e_ (cc7 nd es a i k) j then φ a (e_ (nbG nd es (a:Int)) (i:Int)).toNat (e_ (nbG nd es (a:Int)) (k:Int)).toNat (e_ (cc7 nd es a i k) j).toNat else 0
def sqJ(nd:Int)(es:List Pt)(φ:Nat->Nat->Nat->Nat->Int)(a i k j:Nat):Int:=p8 j (sq1 nd es φ a i k)
def sqK(nd:Int)(es:List Pt)(φ:Nat->Nat->Nat->Nat->Int)(a i k:Nat):Int:=p8 k λk=>if i<k then sqJ nd es φ a i k (cc7 nd es a i k).length else 0
def sqN(nd:Int)(es:List Pt)(φ:Nat->Nat->Nat->Nat->Int)(a i:Nat):Int:=p8 i λi=>sqK nd es φ a i (nbG nd es (a:Int)).length
def sqA(nd:Int)(es:List Pt)(φ:Nat->Nat->Nat->Nat->Int)(a:Nat):Int:=p8 a λa=>sqN nd es φ a (nbG nd es (a:Int)).length
def sqT(nd:Int)(es:List Pt)(a i k j:Nat)(φ:Nat->Nat->Nat->Nat->Int):Int:=sqA nd es φ a+(sqN nd es φ a i+(sqK nd es φ a i k+sqJ nd es φ a i k j))
variable (φ:Nat->Nat->Nat->Nat->Int)
theorem aq0(h:k<=i+1):sqK nd es φ a i k=0:=Es k λx M=>An om
theorem fk6(h:(a:Int)<e_ (nbG nd es (a:Int)) (i:Int)/\(a:Int)<e_ (cc7 nd es a i k) j):sqT nd es a i k (j+1) φ=sqT nd es a i k j φ+φ a (e_ (nbG nd es (a:Int)) (i:Int)).toNat (e_ (nbG nd es (a:Int)) (k:Int)).toNat (e_ (cc7 nd es a i k) j).toNat:=by
 have e:sqJ nd es φ a i k (j+1)=sqJ nd es φ a i k j+sq1 nd es φ a i k j:=rfl
 unfold sqT
 rw [e,show sq1 nd es φ a i k j=_ from B_ h]
 omega
theorem fh6(h:¬((a:Int)<e_ (nbG nd es (a:Int)) (i:Int)/\(a:Int)<e_ (cc7 nd es a i k) j)):sqT nd es a i k (j+1) φ=sqT nd es a i k j φ:=by
 have e:sqJ nd es φ a i k (j+1)=sqJ nd es φ a i k j+sq1 nd es φ a i k j:=rfl
 unfold sqT
 rw [e,show sq1 nd es φ a i k j=_ from An h]
 omega
theorem gd5(h:i<k):sqT nd es a i (k+1) 0 φ=sqT nd es a i k (cc7 nd es a i k).length φ:=by
 have e:sqK nd es φ a i (k+1)=sqK nd es φ a i k+if i<k then sqJ nd es φ a i k (cc7 nd es a i k).length else 0:=rfl
 have e2:sqJ nd es φ a i (k+1) 0=0:=rfl
 unfold sqT
 rw [e,e2,B_ h]
 omega
theorem gd6(a i:Nat):sqT nd es a (i+1) (i+2) 0 φ=sqT nd es a i (nbG nd es (a:Int)).length 0 φ:=by
 have e:sqN nd es φ a (i+1)=sqN nd es φ a i+sqK nd es φ a i (nbG nd es (a:Int)).length:=rfl
 have e2:sqJ nd es φ a (i+1) (i+2) 0=0:=rfl
 have e3:sqJ nd es φ a i (nbG nd es (a:Int)).length 0=0:=rfl
 unfold sqT
 rw [e,e2,e3,aq0 φ (show i+2<=i+1+1 by omega)]
 omega
theorem gd7(a:Nat):sqT nd es (a+1) 0 1 0 φ=sqT nd es a (nbG nd es (a:Int)).length ((nbG nd es (a:Int)).length+1) 0 φ:=by
 have e:sqA nd es φ (a+1)=sqA nd es φ a+sqN nd es φ a (nbG nd es (a:Int)).length:=rfl
 have e2:sqJ nd es φ (a+1) 0 1 0=0:=rfl
 have e3:sqJ nd es φ a (nbG nd es (a:Int)).length ((nbG nd es (a:Int)).length+1) 0=0:=rfl
 have e4:sqN nd es φ (a+1) 0=0:=rfl
 unfold sqT
 rw [e,e2,e3,e4,aq0 φ (show 1<=0+1 by omega),aq0 φ<|Gi _]
 omega
theorem fv5:sqT nd es 0 0 1 0 φ=0:=by
 unfold sqT
 rw [aq0 φ (show 1<=0+1 by omega)];rfl
theorem dc1(n:Nat):sqT nd es n 0 1 0 φ=sqA nd es φ n:=by
 have e2:sqJ nd es φ n 0 1 0=0:=rfl
 have e4:sqN nd es φ n 0=0:=rfl
 unfold sqT
 rw [e2,e4,aq0 φ (show 1<=0+1 by omega)];omega
theorem fv4(ha:a<=64)(hi:i<=64)(hk:k<=66)(hj:j<=64):0<=sqT nd es a i k j (λ_ _ _ _=>1)/\sqT nd es a i k j (λ_ _ _ _=>1)<=20000000:=by
 have h1:∀a i k j:Nat,0<=sq1 nd es (λ_ _ _ _=>1) a i k j/\sq1 nd es (λ_ _ _ _=>1) a i k j<=1:=λa i k j=>by unfold sq1;dsimp only;split<;>omega
 have h2:∀a i k j:Nat,0<=sqJ nd es (λ_ _ _ _=>1) a i k j/\sqJ nd es (λ_ _ _ _=>1) a i k j<=(j:Int):=λa i k j=>by have:=bc1 (h1 a i k) j;unfold sqJ;omega
 have h3:∀a i k:Nat,0<=sqK nd es (λ_ _ _ _=>1) a i k/\sqK nd es (λ_ _ _ _=>1) a i k<=64*(k:Int):=λa i k=>bc1 (λx=>by
  have h4:=h2 a i x (cc7 nd es a i x).length
  have M:(cc7 nd es a i x).length<=64:=M3 _ _ _ _
  split<;>omega) k
 have h6:∀a i:Nat,0<=sqN nd es (λ_ _ _ _=>1) a i/\sqN nd es (λ_ _ _ _=>1) a i<=4096*(i:Int):=λa i=>bc1 (λx=>by
  have h4:=h3 a x (nbG nd es (a:Int)).length
  have M:=K1 nd es (a:Int)
  omega) i
 have h7:∀a:Nat,0<=sqA nd es (λ_ _ _ _=>1) a/\sqA nd es (λ_ _ _ _=>1) a<=262144*(a:Int):=λa=>bc1 (λx=>by
  have h4:=h6 x (nbG nd es (x:Int)).length
  have M:=K1 nd es (x:Int)
  omega) a
 have h8:=h7 a
 have h9:=h6 a i
 have ab:=h3 a i k
 have aa:=h2 a i k j
 unfold sqT
 omega
def sqH(nd:Int)(es:List Pt)(φ:Nat->Nat->Nat->Nat->Int)(a b d:Nat):Int:=p8 nd.toNat λc=>if (c:Int)∈j3 nd es (b:Int) (d:Int) then (if a<b/\a<c then φ a b d c else 0) else 0
theorem dc2(M:s8 nd es):sqA nd es φ nd.toNat=p8 nd.toNat λa=>p8 nd.toNat λb=>p8 nd.toNat λd=>p8 nd.toNat λc=>if cyc (N2 nd es) a b d c=true then φ a b d c else 0:=by
 unfold sqA
 refine Bz _ λa _=>?_
 have hr:=dw0 M (x:=(a:Int))
 have h1:sqN nd es φ a (nbG nd es (a:Int)).length=p8 (nbG nd es (a:Int)).length λi=>p8 (nbG nd es (a:Int)).length λk=>if i<k then sqH nd es φ a (e_ (nbG nd es (a:Int)) (i:Int)).toNat (e_ (nbG nd es (a:Int)) (k:Int)).toNat else 0:=by
  unfold sqN
  refine Bz _ λi hi=>?_
  unfold sqK
  refine Bz _ λk hk=>?_
  have h2:=hr _ (Bo (xs:=nbG nd es (a:Int)) (i:=(i:Int)) om om)
  have h3:=hr _ (Bo (xs:=nbG nd es (a:Int)) (i:=(k:Int)) om om)
  by_cases q:i<k
  ·rw [B_ q,B_ q]
   have hc:∀x∈cc7 nd es a i k,0<=x/\x<(nd.toNat:Int):=λx hx=>by have:=X9 M hx;omega
   unfold sqH
   rw [Hb h2.1,Hb h3.1]
   refine (Bz _ λj hj=>?_).trans (au9 (l:=cc7 nd es a i k) (λc=>if a<(e_ (nbG nd es (a:Int)) (i:Int)).toNat/\a<c then φ a (e_ (nbG nd es (a:Int)) (i:Int)).toNat (e_ (nbG nd es (a:Int)) (k:Int)).toNat c else 0) (H5 _ _ _ _) hc)
   have h4:=hc _ (Bo (xs:=cc7 nd es a i k) (i:=(j:Int)) om om)
   unfold sq1
   by_cases q2:(a:Int)<e_ (nbG nd es (a:Int)) (i:Int)/\(a:Int)<e_ (cc7 nd es a i k) j
   ·rw [B_ q2,B_ om]
   rw [An q2,An om]
  rw [An q,An q]
 rw [h1,cr6 (sqH nd es φ a) (df5 nd es (a:Int)) hr]
 refine Bz _ λb _=>?_
 rw [←V3]
 refine Bz _ λd _=>?_
 unfold sqH
 rw [←V3,←V3,←V3]
 refine Bz _ λc _=>?_
 unfold cyc N2
 by_cases q1:(b:Int)∈nbG nd es (a:Int)
 ·by_cases q2:(d:Int)∈nbG nd es (a:Int)
  ·by_cases q3:b<d
   ·rw [B_ q1,B_ q2,B_ q3]
    have hm:=R0 M (x:=(b:Int)) (y:=(d:Int)) (w:=(c:Int)) om
    by_cases q4:(c:Int)∈j3 nd es (b:Int) (d:Int)
    ·obtain ⟨m1,m2⟩:=hm.1 q4
     rw [B_ q4]
     simp [q1,q2,q3,m1,m2]
    rw [An q4]
    have hn:¬((c:Int)∈nbG nd es (b:Int)/\(c:Int)∈nbG nd es (d:Int)):=λh=>q4 (hm.2 h)
    rw [An]
    simp only [Hh,Gs]
    exact λh=>hn h.2.2
   rw [B_ q1,B_ q2,An q3,An<|by simp [q3]]
  rw [B_ q1,An q2,An<|by simp [q2]]
 rw [An q1,An<|by simp [q1]]
theorem fk7(M:s8 nd es):sqA nd es (λ_ _ _ _=>1) nd.toNat=J9 nd es:=by
 rw [dc2 _ M];rfl
def fs7(w a b d c:Nat):Int:=ind (decide (a=w))+ind (decide (b=w))+ind (decide (d=w))+ind (decide (c=w))
theorem dt0(hG:s8 nd es){w:Nat}(M:w<nd.toNat):sqA nd es (fs7 w) nd.toNat=am4 nd es w:=by
 unfold am4
 rw [dc2 _ hG,cj9<|ag2 hG]
 have h1:∀a b d c:Nat,(if cyc (N2 nd es) a b d c=true then fs7 w a b d c else 0)=(if a=w then ind (cyc (N2 nd es) a b d c) else 0)+(if b=w then ind (cyc (N2 nd es) a b d c) else 0)+(if d=w then ind (cyc (N2 nd es) a b d c) else 0)+(if c=w then ind (cyc (N2 nd es) a b d c) else 0):=λa b d c=>by
  unfold fs7
  rw [E6,E6,E6,E6]
  cases cyc (N2 nd es) a b d c with
  |true=>rw [B_ rfl,ct8]
  |false=>rw [An dc,ar7];simp
 have h2:(p8 nd.toNat λa=>p8 nd.toNat λb=>p8 nd.toNat λd=>p8 nd.toNat λc=>if cyc (N2 nd es) a b d c=true then fs7 w a b d c else 0)=p8 nd.toNat λa=>p8 nd.toNat λb=>p8 nd.toNat λd=>p8 nd.toNat λc=>(if a=w then ind (cyc (N2 nd es) a b d c) else 0)+(if b=w then ind (cyc (N2 nd es) a b d c) else 0)+(if d=w then ind (cyc (N2 nd es) a b d c) else 0)+(if c=w then ind (cyc (N2 nd es) a b d c) else 0):=
  Bz _ λa _=>Bz _ λb _=>Bz _ λd _=>Bz _ λc _=>h1 a b d c
 rw [h2]
 simp only [F9]
 congr 1
 ·congr 1
  ·congr 1
   ·rw [←ap8 M λa=>p8 nd.toNat λb=>p8 nd.toNat λd=>p8 nd.toNat λc=>ind<|cyc (N2 nd es) a b d c]
    refine Bz _ λa _=>?_
    rw [←V3];refine Bz _ λb _=>?_
    rw [←V3];refine Bz _ λd _=>?_
    rw [←V3]
   refine Bz _ λa _=>?_
   rw [←ap8 M λb=>p8 nd.toNat λd=>p8 nd.toNat λc=>ind<|cyc (N2 nd es) a b d c]
   refine Bz _ λb _=>?_
   rw [←V3];refine Bz _ λd _=>?_
   rw [←V3]
  refine Bz _ λa _=>Bz _ λb _=>?_
  rw [←ap8 M λd=>p8 nd.toNat λc=>ind<|cyc (N2 nd es) a b d c]
  refine Bz _ λd _=>?_
  rw [←V3]
 refine Bz _ λa _=>Bz _ λb _=>Bz _ λd _=>?_
 rw [←ap8 M λc=>ind<|cyc (N2 nd es) a b d c]
structure SqS (nd:Int) (m:Nat) (N:(Nat->Nat->Nat->Nat->Int)->Int) (n:Int) (xs ys:List Int):Prop where
 len:xs.length=nd.toNat
 dg8:ys.length=m
 cnt:n=N λ_ _ _ _=>1
 val:∀w:Nat,w<nd.toNat->e_ xs w=N (fs7 w)
 bx:∀x∈xs,0<=x/\x<=4*n
 bz:∀x∈ys,0<=x/\x<=4*n
variable {φ}{m:Nat}{N N':(Nat->Nat->Nat->Nat->Int)->Int}{n:Int}{xs ys:List Int}
theorem SqS.to(h:SqS nd m N n xs ys)(e:∀φ,N' φ=N φ):SqS nd m N' n xs ys:=⟨h.len,h.dg8,by rw [e];exact h.cnt,λw M=>by rw [e];exact h.val w M,h.bx,h.bz⟩
theorem SqS.zero:SqS nd m (sqT nd es 0 0 1 0) 0 (replicate nd.toNat (0:Int)) (replicate m (0:Int)):=⟨Gc,Gc,(fv5 _).symm,λw hw=>by rw [fv5,Ct _ w (by rw [Gc];exact hw),Ly],λx M=>by rw [(List.mem_replicate.1 M).2];omega,λx M=>by rw [(List.mem_replicate.1 M).2];omega⟩
theorem SqS.done(M:s8 nd es)(h:SqS nd m (sqT nd es nd.toNat 0 1 0) n xs ys):n=J9 nd es/\xs=r9 nd es/\ys.length=m:=⟨by rw [h.cnt,dc1,fk7 M],E8 (by rw [h.len,G3]) λi hi=>by
 rw [h.len] at hi
 rw [h.val i hi,dc1,dt0 M hi,af1 hi],h.dg8⟩
structure RdS (A xs0 ys0:List Int) (B:Int) (x:Nat) (xs ys:List Int):Prop where
 eq:xs=(A.take x).foldl (X7 1) xs0
 dg8:ys.length=ys0.length
 bx:∀z∈xs,0<=z/\z<=B+(x:Int)
 bz:∀z∈ys,0<=z/\z<=B+(x:Int)
variable {A xs0 ys0:List Int}{B:Int}{x:Nat}
theorem RdS.zero(h1:∀z∈xs0,0<=z/\z<=B)(h2:∀z∈ys0,0<=z/\z<=B):RdS A xs0 ys0 B 0 xs0 ys0:=⟨by rw [Jw];rfl,rfl,λz M=>by have:=h1 z M;omega,λz M=>by have:=h2 z M;omega⟩
theorem RdS.gj2(h:RdS A xs0 ys0 B x xs ys):xs.length=xs0.length:=by rw [h.eq,J5]
theorem fh7{B:Int}(h:∀z∈l,0<=z/\z<=B)(M:0<=w/\w<l.length):∀z∈List.set l w.toNat (e_ l w+1),0<=z/\z<=B+1:=λz hz=>by
 have h1:=h _ (Bo M.1 M.2)
 rcases Jt hz with q|q
 ·have:=h z q;omega
 omega
theorem RdS.step(h:RdS A xs0 ys0 B x xs ys)(hx:x<A.length)(hw:0<=e_ A x/\e_ A x<xs.length)(hy:0<=y/\y<ys.length):RdS A xs0 ys0 B (x+1) (List.set xs (e_ A x).toNat (e_ xs (e_ A x)+1)) (List.set ys y.toNat (e_ ys y+1)):=
 ⟨by rw [Ca A x hx,Hf,←h.eq];rfl,by rw [Fs];exact h.dg8,λz M=>by have:=fh7 h.bx hw z M;omega,λz M=>by have:=fh7 h.bz hy z M;omega⟩
theorem RdS.bdx(h:RdS A xs0 ys0 B x xs ys)(M:0<=w/\w<xs.length):0<=e_ xs w/\e_ xs w<=B+x:=h.bx _ (Bo M.1 M.2)
theorem RdS.bdz(h:RdS A xs0 ys0 B x xs ys)(M:0<=w/\w<ys.length):0<=e_ ys w/\e_ ys w<=B+x:=h.bz _ (Bo M.1 M.2)
theorem SqS.bump(h:SqS nd m N n xs0 ys0){a:Int}(hr:(0<=a/\a<nd)/\(0<=b/\b<nd)/\(0<=d/\d<nd)/\0<=c/\c<nd)(hN:∀φ,N' φ=N φ+φ a.toNat b.toNat d.toNat c.toNat)(hR:RdS [a,b,c,d] xs0 ys0 (4*n) 4 xs ys):SqS nd m N' (n+1) xs ys:=by
 have hl:=h.len
 refine ⟨by rw [hR.gj2,hl],by rw [hR.dg8,h.dg8],by rw [hN,←h.cnt],λw hw=>?_,λz M=>by have:=hR.bx z M;omega,λz M=>by have:=hR.bz z M;omega⟩
 rw [hN,←h.val w hw,hR.eq,show List.take 4 [a,b,c,d]=[a,b,c,d] from rfl,ac6 _ _ (λz M=>by simp only [F_,Ke,Ms] at M;rcases M with rfl|rfl|rfl|rfl<;>omega) _ om]
 have e:∀z:Int,0<=z->ind (decide<|z=(w:Int))=ind (decide<|z.toNat=w):=λz M=>by congr 1;rw [Fw];omega
 simp only [Hk,Ku,Jg,List.sum_nil,Int.one_mul]
 rw [e a hr.1.1,e b hr.2.1.1,e c hr.2.2.2.1,e d hr.2.2.1.1]
 unfold fs7
 omega
theorem at4.inn(h:at4 nd es u v y)(hG:s8 nd es)(M:j4 u v∈es):0<=y/\y<es.length:=by
 rcases h with ⟨_,j,rfl,h1,_⟩|⟨_,h1|h1⟩
 ·omega
 ·exact absurd (s4.2 hG) h1
 exact absurd M h1
theorem fv8(hG:s8 nd es){a:Int}(h1:b∈nbG nd es a)(h2:c∈nbG nd es b)(h3:c∈nbG nd es d)(h4:d∈nbG nd es a):∀x:Nat,x<4->(0<=e_ [a,b,c,d] (x:Int)/\e_ [a,b,c,d] (x:Int)<nd)/\j4 (e_ [a,b,c,d] (x:Int)) (e_ [a,b,c,d] (Int.tmod ((x:Int)+1) 4))∈es:=by
 have M:∀{x y:Int},y∈nbG nd es x->j4 x y∈es:=fun {x y} h=>by
  have hr:=N4 hG h
  rcases (ag7 hG).1 h with q|q
  ·have:=hG.aa9 _ q;simp only at this;unfold j4;rw [An (show ¬y<x by omega),B_ (show x<y by omega)];exact q
  have:=hG.aa9 _ q;simp only at this;unfold j4;rw [B_ (show y<x by omega),An (show ¬x<y by omega)];exact q
 have r1:=N4 hG h1
 have r2:=N4 hG h3
 intro x hx
 rcases (show x=0\/x=1\/x=2\/x=3 by omega) with rfl|rfl|rfl|rfl
 ·exact ⟨r1.1,M h1⟩
 ·exact ⟨r1.2.1,M h2⟩
 ·exact ⟨r2.2.1,M<|ai3 hG h3⟩
 exact ⟨r2.1,M<|ai3 hG h4⟩
end
theorem ca4{nd:Int}{es:List Pt}(hl:Sl κ I va es)(hG:s8 nd es):eu prog κ 55 [.agg #[e7 nd,va]] I (λr J=>∃(a:Option Addr) (c:Nat) (b:Option Addr) (d:Nat) (ys:List Int),r = .tuple #[.slice a (r9 nd es).length c,.slice b es.length d,e7 (J9 nd es)]/\ys.length=es.length/\J=vc 3 (.slice b es.length d) ys::vk 3 a c (r9 nd es)::I):=by
 have bp:=hG.rng
 have cb:=q9 hG
 refine Ce1 Tryz.func55 C C ?_
 refine Al<|Ge1 (Av (cs:=[_,_]) C C C) λb1=>Ga C<|Ga C<|Ga C<|Ar<|Fj (σ:=(Option Addr)×Nat×(Option Addr)×Nat) (λs=>([(1,pt b1),(5,.slice s.1 nd.toNat s.2.1),(6,.slice s.2.2.1 es.length s.2.2.2),(7,e7 0)]:Env)) (λs=>vc 3 (.slice s.1 nd.toNat s.2.1) ((replicate nd.toNat (0:Int)))::vc 3 (.slice s.2.2.1 es.length s.2.2.2) ((replicate es.length (0:Int)))::e8 b1 [e7 nd,va] 38::I) (λs=>True) ?_ ?_
 ·refine A8 mixed (Ee 10<|Dr 0 C (Af ag0 C)<|Dr 1 C (Be ef) ?_)
  refine Dr 3 C (Af K6 C)<|Dr 4 C (Be am7) ?_
  refine Dr 5 C (Fa (α:=Pt) (xs:=es) Ay C<|A3 hl)<|C5 (rs:=[2,6]) kr C C<|D5 ?_<|Dl ?_
  ·refine Se2 C (Dm (α:=Int) (n:=nd.toNat) Ac ef C C C om om dc C) λa0 a1=>?_
   refine Dr 7 C (Bj C)<|Ds1 6<|Se2 C (Dm (α:=Int) (n:=es.length) Ac ef C C C om om dc C) λa9 bk=>?_
   exact Dr 8 C (Bj C)<|Dr 9 C (Bj C)<|Dz<|Dk ((a0),(a1),(a9),(bk)) trivial (hI:=by (try dsimp only);exact (by simp only [Gc];first|exact Az|exact Ai))
  refine Se2 C (Dm (α:=Int) (n:=es.length) Ac ef C C C om om dc C) λa4 bh=>?_
  refine Ds1 2<|Se2 C (Dm (α:=Int) (n:=nd.toNat) Ac ef C C C om om dc C) λa6 bc=>?_
  exact Dr 7 C (Bj C)<|Dr 8 C (Bj C)<|Dr 9 C (Bj C)<|Dz<|Dk ((a6),(bc),(a4),(bh)) trivial (hI:=by (try dsimp only);exact (by simp only [Gc];first|exact Az|exact Ai))
 rintro ⟨na,nc,ea,ec⟩ hp
 refine Ax<|Al<|Ga C<|Ar<|A7<|B9 (σ:=Nat×Int×(List Int)×(List Int)) (λs=>([(1,pt b1),(5,.slice na nd.toNat nc),(6,.slice ea es.length ec),(7,e7<|s.2.1),(8,e7 ((s.1:Nat):Int))]:Env)) (λs=>vc 3 (.slice na nd.toNat nc) (s.2.2.1)::vc 3 (.slice ea es.length ec) (s.2.2.2)::e8 b1 [e7 nd,va] 38::I) (λs=>((s.1:Int)<=nd)/\(SqS nd es.length (sqT nd es s.1 0 1 0) s.2.1 s.2.2.1 s.2.2.2)) (λs=>nd.toNat - s.1) (0,0,(replicate nd.toNat (0:Int)),(replicate es.length (0:Int))) ⟨om,SqS.zero⟩ (cx2<|Aa C<|Aa Cl<|Aa Cl Bb) Az ?_
 rintro ⟨a,n0,xs0,ys0⟩ hp
 dsimp only at hp ⊢
 obtain ⟨cc,h0⟩:=hp
 have b4:=h0.len
 have bt:=h0.dg8
 have b5:=h0.cnt
 have ch:=K1 nd es (a:Int)
 refine Ax<|Al<|Gm C<|Gf ag0 C<|Gl ef ?_
 refine Gr (Bm C C)<|Ar<|Ao C (λa5=>?_)<|λa5=>?_
 ·refine Bc (Ak<|Ax<|A7<|Al<|Gl2 K0 ?_)
  refine Gm C<|G.e (Ab c_ C C<|ae5 (nd:=nd) (A3 hl) (a:Int) om) ?_
  rintro _ _ ⟨_,_,⟨aa,M,rfl,rfl⟩,rfl,rfl⟩
  have bg:=K1 nd es (a:Int)
  refine Ga C<|Ar<|Al<|Ga C<|Ar<|A0 (S7 10 9 1 5 6 7 8)<|A7<|B9 (σ:=Nat×Int×(List Int)×(List Int)) (λs=>([(1,pt b1),(5,.slice na nd.toNat nc),(6,.slice ea es.length ec),(7,e7<|s.2.1),(8,e7<|(a:Int)),(9,.slice aa (nbG nd es (a:Int)).length M),(10,e7 ((s.1:Nat):Int))]:Env)) (λs=>vk 3 aa M (nbG nd es (a:Int))::vc 3 (.slice na nd.toNat nc) (s.2.2.1)::vc 3 (.slice ea es.length ec) (s.2.2.2)::e8 b1 [e7 nd,va] 38::I) (λs=>(s.1<=(nbG nd es (a:Int)).length)/\(SqS nd es.length (sqT nd es a s.1 (s.1+1) 0) s.2.1 s.2.2.1 s.2.2.2)) (λs=>(nbG nd es (a:Int)).length - s.1) (0,n0,xs0,ys0) ⟨om,(h0)⟩ (cx2<|Aa C<|Aa Cl<|cx2<|Aa Cl Bb) Az ?_
  rintro ⟨i,n1,ar,au⟩ hp
  dsimp only at hp ⊢
  obtain ⟨cp,h1⟩:=hp
  have b6:=h1.len
  have b3:=h1.dg8
  have bq:=h1.cnt
  refine Ax<|Al<|Gm C<|Gm C<|Gr (Bn Ac C)<|Gr (Bm C C)<|Ar<|Ao C (λbm=>?_)<|λbm=>?_
  ·refine Bc (Ak<|Ax<|A7<|Al<|Gm C<|Gr (Rad C C)<|Ga C<|Ar<|A0 (S8 11 1 5 6 7 8 9 10)<|A7<|B9 (σ:=Nat×Int×(List Int)×(List Int)) (λs=>([(1,pt b1),(5,.slice na nd.toNat nc),(6,.slice ea es.length ec),(7,e7<|s.2.1),(8,e7<|(a:Int)),(9,.slice aa (nbG nd es (a:Int)).length M),(10,e7<|(i:Int)),(11,e7 ((s.1:Nat):Int))]:Env)) (λs=>vk 3 aa M (nbG nd es (a:Int))::vc 3 (.slice na nd.toNat nc) (s.2.2.1)::vc 3 (.slice ea es.length ec) (s.2.2.2)::e8 b1 [e7 nd,va] 38::I) (λs=>(i+1<=s.1/\s.1<=(nbG nd es (a:Int)).length)/\(SqS nd es.length (sqT nd es a i s.1 0) s.2.1 s.2.2.1 s.2.2.2)) (λs=>(nbG nd es (a:Int)).length - s.1) ((i+1),n1,ar,au) ⟨om,(h1)⟩ (cx2<|Aa C<|Aa Cl<|cx2<|Aa C<|Aa Cl Bb) Az ?_)
   rintro ⟨k,n2,ax,aw⟩ hp
   dsimp only at hp ⊢
   obtain ⟨cn,h2⟩:=hp
   have bu:=h2.len
   have bo:=h2.dg8
   have b2:=h2.cnt
   refine Ax<|Al<|Gm C<|Gm C<|Gr (Bn Ac C)<|Gr (Bm C C)<|Ar<|Ao C (λa3=>?_)<|λa3=>?_
   ·refine Bc (Ak<|Ax<|A7<|Ax<|A8 mixed<|Ee 11<|Dr 0 C (Bl (vs:=[_,_]) K0) ?_)
    refine Dr 1 C (Ap C)<|Dr 2 C (Ap C)<|Dr 3 C (A1 (α:=Int) (xs:=nbG nd es (a:Int)) Ac ef C C A5 om om)<|Dr 4 C (B8 (xs:=nbG nd es (a:Int)) ef C A5 om om)<|Dr 5 C (Ap C)<|Dr 6 C (Ap C)<|Dr 7 C (A1 (α:=Int) (xs:=nbG nd es (a:Int)) Ac ef C C A5 om om)<|Dr 8 C (B8 (xs:=nbG nd es (a:Int)) ef C A5 om om)<|Ds1 9<|Sc2 C (Ab c_ C C<|ag5 (nd:=nd) (A3 hl) (e_ (nbG nd es (a:Int)) (i:Int)) (e_ (nbG nd es (a:Int)) (k:Int)) om) λae ah=>?_
    refine Dr 10 C (Bj C)<|Dz<|Ak<|A0 (S9 12 1 5 6 7 8 9 10 11)<|Al<|Ga C<|Ar<|A7<|B9 (σ:=Nat×Int×(List Int)×(List Int)) (λs=>([(1,pt b1),(5,.slice na nd.toNat nc),(6,.slice ea es.length ec),(7,e7<|s.2.1),(8,e7<|(a:Int)),(9,.slice aa (nbG nd es (a:Int)).length M),(10,e7<|(i:Int)),(11,e7<|(k:Int)),(12,.slice ae (j3 nd es (e_ (nbG nd es (a:Int)) (i:Int))<|e_ (nbG nd es (a:Int)) (k:Int)).length ah),(13,e7 ((s.1:Nat):Int))]:Env)) (λs=>vk 3 ae ah (j3 nd es (e_ (nbG nd es (a:Int)) (i:Int))<|e_ (nbG nd es (a:Int)) (k:Int))::vk 3 aa M (nbG nd es (a:Int))::vc 3 (.slice na nd.toNat nc) (s.2.2.1)::vc 3 (.slice ea es.length ec) (s.2.2.2)::e8 b1 [e7 nd,va] 38::I) (λs=>(s.1<=(j3 nd es (e_ (nbG nd es (a:Int)) (i:Int))<|e_ (nbG nd es (a:Int)) (k:Int)).length)/\(SqS nd es.length (sqT nd es a i k s.1) s.2.1 s.2.2.1 s.2.2.2)) (λs=>(j3 nd es (e_ (nbG nd es (a:Int)) (i:Int))<|e_ (nbG nd es (a:Int)) (k:Int)).length - s.1) (0,n2,ax,aw) ⟨om,(h2)⟩ (cx2<|Aa C<|Aa Cl<|cx4<|Aa C<|Aa Cl Bb) Az ?_
    rintro ⟨j,n3,aj,ai⟩ hp
    dsimp only at hp ⊢
    obtain ⟨ce,h3⟩:=hp
    have bv:=h3.len
    have bw:=h3.dg8
    have br:=h3.cnt
    have cf:(j3 nd es (e_ (nbG nd es (a:Int)) (i:Int))<|e_ (nbG nd es (a:Int)) (k:Int)).length<=64:=M3 _ _ _ _
    have b9:=fv4 (nd:=nd) (es:=es) (a:=a) (i:=i) (k:=k) (j:=j) om om om om
    refine Ax<|Al<|Gm C<|Gm C<|Gr (Bn Ac C)<|Gr (Bm C C)<|Ar<|A0 (S11 59 1 5 6 7 8 9 10 11 12 13)<|Ao C (λba=>?_)<|λba=>?_
    ·refine Bc (Ak<|Ax<|A7<|Al<|Gm C<|Gm C<|Gr (A1 (α:=Int) (xs:=nbG nd es (a:Int)) Ac ef C C A5 om om)<|Gr (B8 (xs:=nbG nd es (a:Int)) ef C A5 om om)<|Gm C<|Gr (Dc C C)<|Gm C<|A4 (d:=68) C (λbn=>?_)<|λbn=>?_)
     ·refine e9 (Ap C) (e9 (Ap C)<|e9 (A1 (α:=Int) (xs:=j3 nd es (e_ (nbG nd es (a:Int)) (i:Int)) (e_ (nbG nd es (a:Int)) (k:Int))) Ac ef C C A5 om om)<|e9 (B8 (xs:=j3 nd es (e_ (nbG nd es (a:Int)) (i:Int)) (e_ (nbG nd es (a:Int)) (k:Int))) ef C A5 om om)<|e9 (Ap C)<|e9 (Dc C C)<|Gr (B0 C C)<|Ar<|A0 (S11 75 1 5 6 7 8 9 10 11 12 13)<|Ao C (λa8=>?_)<|λa8=>?_)
      ·refine Al (Gm C ?_)
       have ao:e_ (nbG nd es (a:Int)) (i:Int)∈(nbG nd es (a:Int)):=Bo om om
       have ay:e_ (nbG nd es (a:Int)) (k:Int)∈(nbG nd es (a:Int)):=Bo om om
       have be:e_ (j3 nd es (e_ (nbG nd es (a:Int)) (i:Int))<|e_ (nbG nd es (a:Int)) (k:Int)) (j:Int)∈(j3 nd es (e_ (nbG nd es (a:Int)) (i:Int))<|e_ (nbG nd es (a:Int)) (k:Int)):=Bo om om
       have cg:=(dn1 (df5 nd es (a:Int)) (i:=i) (k:=k) om om).1 om
       have an:=(R0 hG (show e_ (nbG nd es (a:Int)) (i:Int)≠e_ (nbG nd es (a:Int)) (k:Int) by omega)).1 be
       have ap:=fv8 hG ao an.1 an.2 ay
       have b7:=N4 hG ao
       have ca:=N4 hG ay
       have cm:=N4 hG an.1
       refine Gr (Rad C C)<|Ga C<|Ar<|A0 (S10 7 1 5 6 8 9 10 11 12 13)<|Ax<|A8 mixed<|Ee 15<|Dr 0 C (Ap C)<|Dr 1 C (Ap C)<|Dr 2 C (Ap C)<|Dr 3 C (A1 (α:=Int) (xs:=nbG nd es (a:Int)) Ac ef C C A5 om om)<|Dr 4 C (B8 (xs:=nbG nd es (a:Int)) ef C A5 om om)<|Dr 5 C (Ap C)<|Dr 6 C (Ap C)<|Dr 7 C (A1 (α:=Int) (xs:=j3 nd es (e_ (nbG nd es (a:Int)) (i:Int)) (e_ (nbG nd es (a:Int)) (k:Int))) Ac ef C C A5 om om)<|Dr 8 C (B8 (xs:=j3 nd es (e_ (nbG nd es (a:Int)) (i:Int)) (e_ (nbG nd es (a:Int)) (k:Int))) ef C A5 om om)<|Dr 9 C (Ap C)<|Dr 10 C (Ap C)<|Dr 11 C (A1 (α:=Int) (xs:=nbG nd es (a:Int)) Ac ef C C A5 om om)<|Dr 12 C (B8 (xs:=nbG nd es (a:Int)) ef C A5 om om)<|Dr 13 C (Eg (cells:=[_,_,_,_]) bu9 C0 ef C C)<|Ds1 14<|Se1 C (Aj bu9 C) λaq=>?_
       refine Ch kr ?_
       refine Ae 15 C (C9 bu9) ?_
       rintro _ _ ⟨rfl,rfl⟩
       refine Ci kr ?_
       refine Ak<|A0 (S11 14 7 1 5 6 8 9 10 11 12 13)<|Al<|Ga C<|Ar<|A7<|B9 (σ:=Nat×(List Int)×(List Int)) (λs=>([(1,pt b1),(5,.slice na nd.toNat nc),(6,.slice ea es.length ec),(7,e7<|n3+1),(8,e7<|(a:Int)),(9,.slice aa (nbG nd es (a:Int)).length M),(10,e7<|(i:Int)),(11,e7<|(k:Int)),(12,.slice ae (j3 nd es (e_ (nbG nd es (a:Int)) (i:Int))<|e_ (nbG nd es (a:Int)) (k:Int)).length ah),(13,e7<|(j:Int)),(14,pt aq),(15,e7 ((s.1:Nat):Int))]:Env)) (λs=>e8 aq (cells ([(a:Int),e_ (nbG nd es (a:Int)) (i:Int),e_ (j3 nd es (e_ (nbG nd es (a:Int)) (i:Int))<|e_ (nbG nd es (a:Int)) (k:Int)) (j:Int),e_ (nbG nd es (a:Int)) (k:Int)]:List Int)) 155::vk 3 ae ah (j3 nd es (e_ (nbG nd es (a:Int)) (i:Int))<|e_ (nbG nd es (a:Int)) (k:Int))::vk 3 aa M (nbG nd es (a:Int))::vc 3 (.slice na nd.toNat nc) (s.2.1)::vc 3 (.slice ea es.length ec) (s.2.2)::e8 b1 [e7 nd,va] 38::I) (λs=>(s.1<=4)/\(RdS [(a:Int),e_ (nbG nd es (a:Int)) (i:Int),e_ (j3 nd es (e_ (nbG nd es (a:Int)) (i:Int))<|e_ (nbG nd es (a:Int)) (k:Int)) (j:Int),e_ (nbG nd es (a:Int)) (k:Int)] aj ai (4*n3) s.1 s.2.1 s.2.2)) (λs=>4 - s.1) (0,aj,ai) ⟨om,(RdS.zero h3.bx h3.bz)⟩ (cx4<|cx4<|cx2<|Aa C<|Aa Cl Bb) Az ?_
       rintro ⟨x,ab,ad⟩ hp
       dsimp only at hp ⊢
       obtain ⟨ci,h4⟩:=hp
       have cr:=h4.gj2
       have ck:=h4.dg8
       have cj:([(a:Int),e_ (nbG nd es (a:Int)) (i:Int),e_ (j3 nd es (e_ (nbG nd es (a:Int)) (i:Int))<|e_ (nbG nd es (a:Int)) (k:Int)) (j:Int),e_ (nbG nd es (a:Int)) (k:Int)]:List Int).length=4:=rfl
       refine Ax<|Al<|Gm C<|Gr (Bm C C)<|Ar<|A0 (S13 93 1 5 6 7 8 9 10 11 12 13 14 15 C C C C C C C C C C C C C)<|Ao C (λbj=>?_)<|λbj=>?_
       ·refine Bc (Ak<|Ax<|A7<|Al<|Gm C ?_)
        have az:=ap x om
        have b8:=h4.bdx (w:=e_ [(a:Int),e_ (nbG nd es (a:Int)) (i:Int),e_ (j3 nd es (e_ (nbG nd es (a:Int)) (i:Int))<|e_ (nbG nd es (a:Int)) (k:Int)) (j:Int),e_ (nbG nd es (a:Int)) (k:Int)] (x:Int)) om
        have co:0<=Int.tmod ((x:Int)+1) 4/\Int.tmod ((x:Int)+1) 4<4:=by rw [Int.tmod_eq_emod_of_nonneg om];omega
        refine Gm C<|Gr (B5 C0 ef C C om om)<|Gr (j8.gc4 (xs:=[(a:Int),e_ (nbG nd es (a:Int)) (i:Int),e_ (j3 nd es (e_ (nbG nd es (a:Int)) (i:Int))<|e_ (nbG nd es (a:Int)) (k:Int)) (j:Int),e_ (nbG nd es (a:Int)) (k:Int)]) ef C (Dn mm) om om)<|Gr (A1 (α:=Int) (xs:=ab) Ac ef C C A5 om om)<|Gr (B8 (xs:=ab) ef C A5 om om)<|Gr (Rad C C)<|Gr (A1 (α:=Int) (xs:=ab) Ac ef C C A5 om om)<|Ge0 (Cw (α:=Int) (xs:=ab) (e:=3) (new:=(e_ ab<|e_ ([(a:Int),e_ (nbG nd es (a:Int)) (i:Int),e_ (j3 nd es (e_ (nbG nd es (a:Int)) (i:Int))<|e_ (nbG nd es (a:Int)) (k:Int)) (j:Int),e_ (nbG nd es (a:Int)) (k:Int)]) (x:Int))+1) ef C C C om om am) ?_
        refine Ar<|A0 (S12 1 5 6 7 8 9 10 11 12 13 14 15 C C C C C C C C C C C C)<|A8 mixed<|Ee 15<|Dr 0 C (Ap C)<|Dr 1 C (Bl (vs:=[_,_]) K0) ?_
        refine Dr 2 C (Ap C)<|Dr 3 C (B5 C0 ef C C om om)<|Dr 4 C (j8.gc4 (xs:=[(a:Int),e_ (nbG nd es (a:Int)) (i:Int),e_ (j3 nd es (e_ (nbG nd es (a:Int)) (i:Int))<|e_ (nbG nd es (a:Int)) (k:Int)) (j:Int),e_ (nbG nd es (a:Int)) (k:Int)]) ef C (Dn mm) om om)<|Dr 5 C (Ap C)<|Dr 6 C (Rad C C)<|Dr 7 C (j8.rem C C om)<|Dr 8 C (B5 C0 ef C C om om)<|Dr 9 C (j8.gc4 (xs:=[(a:Int),e_ (nbG nd es (a:Int)) (i:Int),e_ (j3 nd es (e_ (nbG nd es (a:Int)) (i:Int))<|e_ (nbG nd es (a:Int)) (k:Int)) (j:Int),e_ (nbG nd es (a:Int)) (k:Int)]) ef C (Dn mm) om om)<|Ds1 10<|Se C (Ab c_ C C<|ax3 (nd:=nd) (A3 hl) (e_ ([(a:Int),e_ (nbG nd es (a:Int)) (i:Int),e_ (j3 nd es (e_ (nbG nd es (a:Int)) (i:Int))<|e_ (nbG nd es (a:Int)) (k:Int)) (j:Int),e_ (nbG nd es (a:Int)) (k:Int)]) (x:Int))<|e_ ([(a:Int),e_ (nbG nd es (a:Int)) (i:Int),e_ (j3 nd es (e_ (nbG nd es (a:Int)) (i:Int))<|e_ (nbG nd es (a:Int)) (k:Int)) (j:Int),e_ (nbG nd es (a:Int)) (k:Int)])<|Int.tmod ((x:Int)+1) 4) ?_
        rintro _ _ ⟨_,_,⟨ak,rfl,av,rfl⟩,rfl,rfl⟩
        refine ⟨Ai,?_⟩
        have cd:=av.inn hG az.2
        have cq:=h4.bdz (w:=ak) om
        refine Dr 11 C (A1 (α:=Int) (xs:=ad) Ac ef C C A5 om om)<|Dr 12 C (B8 (xs:=ad) ef C A5 om om)<|Dr 13 C (Rad C C)<|Dr 14 C (A1 (α:=Int) (xs:=ad) Ac ef C C A5 om om)<|Ch kr ?_
        refine Ae 15 C (Cw (α:=Int) (xs:=ad) (e:=3) (new:=(e_ ad ak)+1) ef C C C om om am) ?_
        rintro _ _ ⟨rfl,rfl⟩
        refine Ci kr ?_
        exact Au<|Ak<|A0 (S12 1 5 6 7 8 9 10 11 12 13 14 15 C C C C C C C C C C C C)<|A6<|Gm C<|Gr (Rad C C)<|Ga C<|Bq<|Bu ((x+1),(List.set ab (e_ ([(a:Int),e_ (nbG nd es (a:Int)) (i:Int),e_ (j3 nd es (e_ (nbG nd es (a:Int)) (i:Int))<|e_ (nbG nd es (a:Int)) (k:Int)) (j:Int),e_ (nbG nd es (a:Int)) (k:Int)]) (x:Int)).toNat ((e_ ab<|e_ ([(a:Int),e_ (nbG nd es (a:Int)) (i:Int),e_ (j3 nd es (e_ (nbG nd es (a:Int)) (i:Int))<|e_ (nbG nd es (a:Int)) (k:Int)) (j:Int),e_ (nbG nd es (a:Int)) (k:Int)]) (x:Int))+1)),(List.set ad (ak).toNat ((e_ ad ak)+1)))<|by dsimp only;exact ⟨om,(h4.step (by show x<4;omega) om om)⟩
       exact Cg<|Aw<|Aw<|Bi<|Au<|Ak<|A6<|Gm C<|Gr (Rad C C)<|Ga C<|Bq<|Bu ((j+1),(n3+1),(ab),(ad))<|by dsimp only;exact ⟨om,(h3.bump (a:=(a:Int)) (b:=e_ (nbG nd es (a:Int)) (i:Int)) (d:=e_ (nbG nd es (a:Int)) (k:Int)) (c:=e_ (j3 nd es (e_ (nbG nd es (a:Int)) (i:Int))<|e_ (nbG nd es (a:Int)) (k:Int)) (j:Int)) ⟨by omega,by omega,by omega,by omega⟩ (λφ=>fk6 φ ⟨by first|assumption|omega,by first|assumption|omega⟩)<|by rw [show (4:Nat)=x by omega];exact h4)⟩
      exact Bc<|Au<|Ak<|A6<|Gm C<|Gr (Rad C C)<|Ga C<|Bq<|Bu ((j+1),(n3),(aj),(ai))<|by dsimp only;exact ⟨om,((h3.to λφ=>fh6 φ<|by unfold cc7;omega))⟩
     exact eb<|eb<|eb<|eb<|eb<|eb<|Gr (Bk C C)<|Ar<|A0 (S11 75 1 5 6 7 8 9 10 11 12 13)<|W.no C<|Bc<|Au<|Ak<|A6<|Gm C<|Gr (Rad C C)<|Ga C<|Bq<|Bu ((j+1),(n3),(aj),(ai))<|by dsimp only;exact ⟨om,((h3.to λφ=>fh6 φ<|by unfold cc7;omega))⟩
    exact Cg<|Aw<|Aw<|Bi<|Au<|Ak<|A6<|Gm C<|Gr (Rad C C)<|Ga C<|Bq<|Bu ((k+1),(n3),(aj),(ai))<|by dsimp only;exact ⟨om,((h3.to λφ=>by rw [show j=(j3 nd es (e_ (nbG nd es (a:Int)) (i:Int))<|e_ (nbG nd es (a:Int)) (k:Int)).length by omega];exact gd5 φ om))⟩
   exact Cg<|Aw<|Aw<|Bi<|Au<|Ak<|A6<|Gm C<|Gr (Rad C C)<|Ga C<|Bq<|Bu ((i+1),(n2),(ax),(aw))<|by dsimp only;exact ⟨om,((h2.to λφ=>by rw [show k=(nbG nd es (a:Int)).length by omega];exact gd6 φ a i))⟩
  exact Cg<|Aw<|Aw<|Bi<|Au<|Ak<|A6<|Gm C<|Gr (Rad C C)<|Ga C<|Bq<|Bu ((a+1),(n1),(ar),(au))<|by dsimp only;exact ⟨om,((h1.to λφ=>by rw [show i=(nbG nd es (a:Int)).length by omega];exact gd7 φ a))⟩
 refine Cg<|Aw<|Aw<|Bi<|Ak<|Al<|Gm C<|Gm C<|Gm C<|Ga C<|Ga C<|Ga C<|Ar<|A0 (S3 4 3 2)<|B3 ?_
 have a7:a=nd.toNat:=by omega
 rw [a7] at h0
 obtain ⟨bb,bf,bi⟩:=h0.done hG
 exact V.gb8 C C C C (vc 3 (.slice ea es.length ec) ys0::vk 3 na nc (r9 nd es)::I) (by unfold vk;rw [G3,←bf];exact Az) ⟨na,nc,ea,ec,ys0,by rw [G3,←bb],bi,rfl⟩
theorem bd5(nd:Int)(es:List Pt)(v:Int):(nbG nd es v).Pairwise (λM x1:Int=>M<x1):=by
 unfold nbG
 split
 ·exact List.Pairwise.nil
 exact T1 _
theorem ay1{nd:Int}{es:List Pt}(h:u≠v):M1 (nbG nd es u) (nbG nd es v)=j3 nd es u v:=by
 unfold j3
 rw [An h]
 refine ar6.uniq ((bd5 nd es u).sublist Hi) ?_ λx=>?_
 ·unfold Z6;exact (T1 _).sublist Hi
 rw [T3];unfold M1;rw [Gp,Gs]
theorem bn7{a0 b0:Option Addr}{n0 M c0 d0:Nat}{xs ys:List Int}(hn:n0=xs.length)(aa:M=ys.length)(hl:Sl κ I (.slice a0 n0 c0) xs)(hm:Sl κ I (.slice b0 M d0) ys)(hx:xs.Pairwise (λx0 x1:Int=>x0<x1))(hy:ys.Pairwise (λx0 x1:Int=>x0<x1))(hb:xs.length<=100000):eu prog κ 133 [.slice a0 n0 c0,.slice b0 M d0] I λr J=>∃a c,r = .slice a (M1 xs ys).length c/\J=vk 3 a c (M1 xs ys)::I:=by
 subst hn aa
 exact dn9 hl hm hx hy hb
section
variable {nd:Int}{es:List Pt}
def trF(nd:Int)(es:List Pt)(xs:List Int)(p:Pt):List Int:=(j3 nd es p.u p.v).foldl (X7 1) xs
def trC(nd:Int)(es:List Pt)(k:Nat):List Int:=(es.take k).foldl (trF nd es) (replicate nd.toNat 0)
theorem cj3(h:k<es.length):trC nd es (k+1)=(j3 nd es (e_ es k).u (e_ es k).v).foldl (X7 1) (trC nd es k):=by
 unfold trC;rw [Ca es k h,Hf];rfl
theorem db5(xs:List Int)(p:Pt):(trF nd es xs p).length=xs.length:=J5 _ _
theorem cd3(hG:s8 nd es){x:Int}(M:0<=x):∀(l:List Pt) (xs:List Int),(xs.length:Int)=nd->(l.foldl (trF nd es) xs).length=xs.length/\e_ (l.foldl (trF nd es) xs) x=e_ xs x+(l.map λp=>ind (decide (x∈j3 nd es p.u p.v))).sum
 |[],xs,_=>⟨rfl,by simp⟩
 |p::l,xs,hl=>by
  obtain ⟨h1,h2⟩:=cd3 hG M l (trF nd es xs p) (by rw [db5];exact hl)
  rw [Jc,h1,h2,db5]
  refine ⟨rfl,?_⟩
  have h3:e_ (trF nd es xs p) x=e_ xs x+ind (decide<|x∈j3 nd es p.u p.v):=by
   unfold trF
   rw [ac6 _ _ (λw hw=>by have:=X9 hG hw;omega) x M,M2<|H5 nd es p.u p.v,Int.one_mul,E6]
  rw [h3,Hk,Jg];omega
theorem db6(M:s8 nd es):trC nd es es.length=H9 nd es:=by
 have hr:=M.rng
 have hz:((replicate nd.toNat (0:Int)).length:Int)=nd:=by rw [Gc];omega
 have hL:(trC nd es es.length).length=nd.toNat:=by
  unfold trC;rw [(cd3 M (Hp 0) _ _ hz).1,Gc]
 refine E8 (by rw [hL,H3]) λi hi=>?_
 rw [hL] at hi
 rw [au7 hi]
 unfold trC ds6
 rw [Hg,(cd3 M om _ _ hz).2,Ct _ i<|by rw [Gc];exact hi,Ly,Mq]
end
theorem bn9{nd:Int}{es:List Pt}(hl:Sl κ I va es)(hG:s8 nd es):eu prog κ 87 [.agg #[e7 nd,va]] I (λr J=>∃a c,r = .tuple #[e7 (V6 nd es / 3),.slice a (H9 nd es).length c]/\J=vk 3 a c (H9 nd es)::I):=by
 have a9:=hG.rng
 have bf:=q9 hG
 have bc:=bo8 hG
 refine Ce1 Tryz.func87 C C ?_
 refine Al<|Ge1 (Av (cs:=[_,_]) C C C) λb1=>Ga C<|Ga C<|Ar<|Al<|Gl2 K0 ?_
 refine G.e (Ab c_ C C<|cq4 (nd:=nd) (A3 hl) hG) ?_
 rintro _ _ ⟨_,_,⟨ah,ai,rs,aj,rfl,ae,rfl⟩,rfl,rfl⟩
 refine Dp (J:=vk 22 ah ai rs::e8 b1 [e7 nd,va] 38::(ao6 3 aj++I)) (Cj<|List.Perm.cons _<|Cz (A:=ao6 3 aj) (L:=[e8 b1 [e7 nd,va] 38]) (T:=I)) ?_
 have ba:=ae.len
 refine Ga C<|Ar<|Ax<|A8 mixed<|Ee 5<|Dr 0 C (Af ag0 C)<|Dr 1 C (Be ef) ?_
 refine Dr 3 C (Bj C)<|Ds1 2<|Se2 C (Dm (α:=Int) (n:=nd.toNat) Ac ef C C C om om dc C) λad ab=>?_
 refine Dr 4 C (Bj C)<|Dz<|Ak<|Ax<|Al<|Gf K6 C<|Gl am7 ?_
 refine Gr (Fa (α:=Pt) (xs:=es) Ay C<|A3 hl)<|Gm C<|Ar<|A0 (S6 19 18 17 6 5 4)<|A7<|B9 (σ:=Nat×(List Int)×Int) (λs=>([(4,.slice ah rs.length ai),(5,e7<|s.2.2),(6,.slice ad (replicate nd.toNat (default:Int)).length ab),(17,va),(18,e7 ((es.length:Nat):Int)),(19,e7 ((s.1:Nat):Int))]:Env)) (λs=>vc 3 (.slice ad (replicate nd.toNat (default:Int)).length ab) (s.2.1)::vk 22 ah ai rs::e8 b1 [e7 nd,va] 38::(ao6 3 aj++I)) (λs=>(s.1<=es.length)/\(s.2.2=bu1 nd es s.1)/\(s.2.1.length=nd.toNat)/\(s.2.1.sum=s.2.2)/\(∀x∈s.2.1,0<=x)/\(s.2.1=trC nd es s.1)) (λs=>es.length - s.1) (0,replicate nd.toNat (default:Int),0) ⟨om,rfl,(by rw [Gc]),(bp2 _),(λx hx=>by rw [Ki hx];exact Hp 0),rfl⟩ (Aa C<|Aa Cl<|cx2<|Aa C<|Aa Cl Bb) Az ?_
 rintro ⟨k,out,q⟩ hp
 dsimp only at hp ⊢
 obtain ⟨hk,hq,az,ay,a8,av⟩:=hp
 have a6:=λh:k<=es.length=>bb7 nd es k h
 have a0:=λh:k<es.length=>hG.at h
 refine Al<|Gr (Bm C C)<|Ar<|Ax<|Ao C (λa1=>?_)<|λa1=>?_
 ·refine Bc (Ak<|Ax<|A7<|Al<|Gr (A1 (α:=Pt) (xs:=es) Ay s9 C C (A3 hl) om oo)<|Gr (C7 (α:=Pt) (xs:=es) s9 C (A3 hl) om oo)<|Ge1 (Aj s9 C) λb6=>Ge0 (Co s9) ?_)
  refine Ar<|Ax<|A8 mixed<|Ee 13<|Dr 0 C (Ap C)<|Dr 1 C (Af P0 C)<|Dr 2 C (Be ef) ?_
  refine Dr 3 C (A1 (α:=(G1 Int)) (xs:=rs) Cr W4 C C A5 om oo)<|Dr 4 C (Cc (α:=(G1 Int)) (xs:=rs) (u:= .slice (e_ rs<|(e_ es k).u).a (e_ rs<|(e_ es k).u).xs.length (e_ rs<|(e_ es k).u).c) W4 C A5 om oo C)<|Dr 5 C (Ap C)<|Dr 6 C (Af N9 C)<|Dr 7 C (Be ef) ?_
  refine Dr 8 C (A1 (α:=(G1 Int)) (xs:=rs) Cr W4 C C A5 om oo)<|Dr 9 C (Cc (α:=(G1 Int)) (xs:=rs) (u:= .slice (e_ rs<|(e_ es k).v).a (e_ rs<|(e_ es k).v).xs.length (e_ rs<|(e_ es k).v).c) W4 C A5 om oo C)<|Dr 12 C (Ap C)<|Ds1 10<|Se C (Ab c_ C C<|bn7 (ae.row _ om om).2 (ae.row _ om om).2 (Bd (ae.held (I:=I) (i:=((e_ es k).u)) om om) Ah) (Bd (ae.held (I:=I) (i:=((e_ es k).v)) om om) Ah) (bd5 _ _ _) (bd5 _ _ _) (by have:=K1 nd es (e_ es k).u;omega)) ?_
  rintro _ _ ⟨_,_,⟨ar,aq,rfl,rfl⟩,rfl,rfl⟩
  refine ⟨Ai,?_⟩
  have au:M1 (nbG nd es<|(e_ es k).u) (nbG nd es<|(e_ es k).v)=j3 nd es (e_ es k).u (e_ es k).v:=ay1 (by have:=a0 om;omega)
  rw [au]
  refine Dr 11 C (Bn Ac C)<|Dz<|Ak<|A0 (S9 34 33 35 4 5 6 17 18 19)<|A7<|B9 (σ:=Nat×(List Int)×Int) (λs=>([(4,.slice ah rs.length ai),(5,e7<|s.2.2),(6,.slice ad (replicate nd.toNat (default:Int)).length ab),(17,va),(18,e7 ((es.length:Nat):Int)),(19,e7<|(k:Int)),(33,.slice ar (j3 nd es (e_ es k).u (e_ es k).v).length aq),(34,e7<|(((j3 nd es (e_ es k).u (e_ es k).v).length:Nat):Int)),(35,e7 ((s.1:Nat):Int))]:Env)) (λs=>vc 3 (.slice ad (replicate nd.toNat (default:Int)).length ab) (s.2.1)::vk 3 ar aq (j3 nd es (e_ es k).u (e_ es k).v)::e8 b6 [e7 ((e_ es k).u),e7<|(e_ es k).v] 105::vk 22 ah ai rs::e8 b1 [e7 nd,va] 38::(ao6 3 aj++I)) (λs=>(s.1<=(j3 nd es (e_ es k).u (e_ es k).v).length)/\(s.2.2=bu1 nd es k+(s.1:Int))/\(s.2.1.length=nd.toNat)/\(s.2.1.sum=s.2.2)/\(∀x∈s.2.1,0<=x)/\(s.2.1=((j3 nd es (e_ es k).u (e_ es k).v).take s.1).foldl (X7 1) out)) (λs=>(j3 nd es (e_ es k).u (e_ es k).v).length - s.1) (0,out,q) ⟨om,(by rw [hq];simp),az,ay,a8,rfl⟩ (Aa C<|Aa Cl<|cx4<|cx2<|Aa Cl Bb) Az ?_
  rintro ⟨k2,M,q2⟩ hp
  dsimp only at hp ⊢
  obtain ⟨bb,a4,ao,an,aa,ak⟩:=hp
  have a5:k2<(j3 nd es (e_ es k).u (e_ es k).v).length->0<=e_ (j3 nd es (e_ es k).u (e_ es k).v) (k2:Int)/\e_ (j3 nd es (e_ es k).u (e_ es k).v) (k2:Int)<nd:=λh=>X9 hG (Bo om om)
  have be:=M3 nd es (e_ es k).u (e_ es k).v
  have ax:k2<(j3 nd es (e_ es k).u (e_ es k).v).length->0<=e_ M (e_ (j3 nd es (e_ es k).u (e_ es k).v) (k2:Int))/\e_ M (e_ (j3 nd es (e_ es k).u (e_ es k).v) (k2:Int))<=1000000:=λh=>by have h1:=a5 h;have h2:=Bo (xs:=M) (i:=e_ (j3 nd es (e_ es k).u (e_ es k).v) (k2:Int)) om om;have h3:=ad8 aa h2;have h4:=aa _ h2;have h5:=a6 om;omega
  refine Al<|Gr (Bm C C)<|Ar<|Ax<|Ao C (λa7=>?_)<|λa7=>?_
  ·refine Bc (Ak<|Ax<|A7<|Al<|Gr (A1 (α:=Int) (xs:=j3 nd es (e_ es k).u (e_ es k).v) Ac ef C C A5 om oo)<|Gr (B8 (xs:=j3 nd es (e_ es k).u (e_ es k).v) ef C A5 om oo)<|Ga C<|Ar<|Al<|Gm C<|Gm C<|Gr (A1 (α:=Int) (xs:=M) Ac ef C C A5 om oo)<|Gr (B8 (xs:=M) ef C A5 om oo)<|Gr (Rad C C)<|Gr (A1 (α:=Int) (xs:=M) Ac ef C C A5 om oo)<|Ge0 (Cw (α:=Int) (xs:=M) (e:=3) (new:=(e_ M<|e_ (j3 nd es (e_ es k).u (e_ es k).v) (k2:Int))+1) ef C C C om oo am) ?_)
   exact Ar<|A0 (S9 4 5 6 17 18 19 33 34 35)<|A6<|Gm C<|Gr (Rad C C)<|Ga C<|Bq<|Au<|Ak<|A6<|Gr (Rad C C)<|Gm C<|Bq<|Bu ((k2+1),(List.set M (e_ (j3 nd es (e_ es k).u (e_ es k).v) (k2:Int)).toNat ((e_ M<|e_ (j3 nd es (e_ es k).u (e_ es k).v) (k2:Int))+1)),(q2+1))<|by dsimp only;exact ⟨om,om,(by rw [Fs];exact ao),(by rw [az5 om om,an];omega),(λx hx=>by rcases Jt hx with h|h;(· exact aa x h);(· rw [h];have:=ax om;omega)),(ar9 om ak)⟩
  exact Cg<|Aw<|Aw<|Bi<|Au<|Ak<|A6<|Gr (Rad C C)<|Gm C<|Bq<|Bu ((k+1),(M),(q2))<|by dsimp only;exact ⟨om,(by rw [ap5 om,a4,show k2=(j3 nd es (e_ es k).u (e_ es k).v).length by omega]),ao,an,aa,(by rw [cj3 om,←av,ak,Fz om])⟩
 refine Cg<|Aw<|Aw<|Bi<|Ak<|Al<|Gm C<|Gr (j8.quo C C om om<|by unfold InR;omega)<|Gm C<|Ga C<|Ga C<|Ar<|B3 ?_
 have aw:out=H9 nd es:=by rw [av,show k=es.length by omega,db6 hG]
 subst aw
 have ap:(replicate nd.toNat (default:Int)).length=(H9 nd es).length:=by rw [Gc,H3]
 have a3:q=V6 nd es:=by rw [hq,show k=es.length by omega,bo9]
 exact C2 C C C (vk 3 ad ab (H9 nd es)::I) (by unfold vk;rw [←ap];exact Z1) ⟨ad,ab,by rw [←ap,a3],rfl⟩
end Go.Sl
namespace Go.Sl
open Go.Proofs
set_option maxRecDepth 4000
variable{nd:Int}{va:Value}{es:List Pt}{ea:Option Addr}{ec:Nat}
variable {κ:Ctx}{I:List Item}
attribute [local irreducible] W G V D A j8 Eff
theorem ch9(hl:Sl κ I va es)(hG:s8 nd es):eu prog κ 54 [.agg #[e7 nd,va]] I (λr J=>∃a c,r = .tuple #[.slice a (H9 nd es).length c,e7 0]/\J=vk 3 a c (H9 nd es)::I):=by
 have a0:=hG.rng
 have a1:=q9 hG
 refine Ce1 Tryz.func54 C C ?_
 refine Al<|Ge1 (Av (cs:=[_,_]) C C C) λb1=>Ga C<|Ga C<|Ar<|Ax<|Al<|Gl2 K0 ?_
 refine G.e (Ab c_ C C<|V2 (nd:=nd)<|A3 hl) ?_
 rintro _ _ ⟨_,_,⟨rfl,rfl⟩,rfl,rfl⟩
 refine Ga C<|Ar<|Al<|Gm C<|Gr (Cb C C)<|Ar<|Ao C (λc12=>?_)<|λc12=>?_
 ·exact absurd (s4.2 hG) c12
 refine Bc<|Ak<|Al<|Gf ag0 C<|Gl ef ?_
 refine Ge2 (Dm (α:=Int) (n:=nd.toNat) Ac ef C C C om om dc C) λaa ab=>?_
 refine Ga C<|Ar<|Ax<|Al<|Ga C<|Ar<|A0 (S3 6 5 1)<|A7<|B9 (σ:=Nat×(List Int)) (λs=>([(1,pt b1),(5,.slice aa (replicate nd.toNat (default:Int)).length ab),(6,e7 ((s.1:Nat):Int))]:Env)) (λs=>vc 3 (.slice aa (replicate nd.toNat (default:Int)).length ab) (s.2)::e8 b1 [e7 nd,va] 38::I) (λs=>(s.1<=es.length)/\(s.2.length=nd.toNat)/\(s.2.sum=bu1 nd es s.1)/\(∀x∈s.2,0<=x)/\(s.2=trC nd es s.1)) (λs=>es.length - s.1) (0,replicate nd.toNat (default:Int)) (show ((0:Nat)<=es.length)/\((replicate nd.toNat (default:Int):List Int).length=nd.toNat)/\((replicate nd.toNat (default:Int):List Int).sum=bu1 nd es (0:Nat))/\(∀x∈(replicate nd.toNat (default:Int):List Int),0<=x)/\((replicate nd.toNat (default:Int):List Int)=trC nd es (0:Nat)) from ⟨om,(by rw [Gc]),(by rw [bp2];rfl),(λx hx=>by rw [Ki hx];exact Hp 0),rfl⟩) (cx2<|Aa Cl Bb) (show Fit κ _ (vk 3 aa ab (replicate nd.toNat (default:Int))::e8 b1 [e7 nd,va] 38::I) from Az) ?_
 rintro ⟨k,out⟩ hp
 dsimp only at hp ⊢
 obtain ⟨hk,aw,aq,ar,ao⟩:=hp
 have az:=λh:k<=es.length=>bb7 nd es k h
 refine Ax<|Al<|Gm C<|Gf K6 C<|Gl am7 ?_
 refine Gr (Fa (α:=Pt) (xs:=es) Ay C<|A3 hl)<|Gr (Bm C C)<|Ar<|Ao C (λau=>?_)<|λau=>?_
 ·refine Bc (Ak<|Ax<|A7<|Ax<|A8 mixed<|Bv (vc 3 (.slice aa (replicate nd.toNat (default:Int)).length ab) (out)::e8 b1 [e7 nd,va] 38::I) 15<|Dr 0 C (Bl (vs:=[_,_]) K0) ?_)
  refine Dr 1 C (Af K6 C)<|Dr 2 C (Be am7) ?_
  refine Dr 3 C (Ap C)<|Dr 4 C (A1 (α:=Pt) (xs:=es) Ay s9 C C (A3 hl) om oo)<|Dr 5 C (Fe (α:=Pt) (xs:=es) P0 C (A3 hl) oo)<|Dr 6 C (E3 (α:=Pt) (xs:=es) (u:=e7 ((e_ es k).u)) ef C (A3 hl) om oo C)<|Dr 7 C (Af K6 C)<|Dr 8 C (Be am7) ?_
  refine Dr 9 C (Ap C)<|Dr 10 C (A1 (α:=Pt) (xs:=es) Ay s9 C C (A3 hl) om oo)<|Dr 11 C (Fe (α:=Pt) (xs:=es) N9 C (A3 hl) oo)<|Dr 12 C (E3 (α:=Pt) (xs:=es) (u:=e7 ((e_ es k).v)) ef C (A3 hl) om oo C)<|Ds1 13<|Sc2 C (Ab c_ C C<|ag5 (nd:=nd) (A3 hl) ((e_ es k).u) ((e_ es k).v) om) λan ak=>?_
  refine Dr 14 C (Bj C)<|Dz<|Ak<|A0 (S4 7 1 5 6)<|Al<|Ga C<|Ar<|A7<|B9 (σ:=Nat×(List Int)) (λs=>([(1,pt b1),(5,.slice aa (replicate nd.toNat (default:Int)).length ab),(6,e7<|(k:Int)),(7,.slice an (j3 nd es ((e_ es k).u)<|(e_ es k).v).length ak),(8,e7 ((s.1:Nat):Int))]:Env)) (λs=>vc 3 (.slice aa (replicate nd.toNat (default:Int)).length ab) (s.2)::vk 3 an ak (j3 nd es ((e_ es k).u)<|(e_ es k).v)::e8 b1 [e7 nd,va] 38::I) (λs=>(s.1<=(j3 nd es (e_ es k).u (e_ es k).v).length)/\(s.2.length=nd.toNat)/\(s.2.sum=bu1 nd es k+(s.1:Int))/\(∀x∈s.2,0<=x)/\(s.2=((j3 nd es (e_ es k).u (e_ es k).v).take s.1).foldl (X7 1) out)) (λs=>(j3 nd es (e_ es k).u (e_ es k).v).length - s.1) (0,out) (show ((0:Nat)<=(j3 nd es (e_ es k).u (e_ es k).v).length)/\((out:List Int).length=nd.toNat)/\((out:List Int).sum=bu1 nd es k+((0:Nat):Int))/\(∀x∈(out:List Int),0<=x)/\((out:List Int)=((j3 nd es (e_ es k).u (e_ es k).v).take (0:Nat)).foldl (X7 1) out) from ⟨om,aw,(by rw [aq];simp),ar,rfl⟩) (cx4<|Aa Cl Bb) (show Fit κ _ (vc 3 (.slice aa (replicate nd.toNat (default:Int)).length ab) ((out))::vk 3 an ak (j3 nd es ((e_ es k).u)<|(e_ es k).v)::e8 b1 [e7 nd,va] 38::I) from Az) ?_
  rintro ⟨k2,M⟩ hp
  dsimp only at hp ⊢
  obtain ⟨a3,ai,ae,ad,ah⟩:=hp
  have ax:k2<(j3 nd es (e_ es k).u (e_ es k).v).length->0<=e_ (j3 nd es (e_ es k).u (e_ es k).v) (k2:Int)/\e_ (j3 nd es (e_ es k).u (e_ es k).v) (k2:Int)<nd:=λh=>X9 hG (Bo om om)
  have a4:=M3 nd es (e_ es k).u (e_ es k).v
  have ap:k2<(j3 nd es (e_ es k).u (e_ es k).v).length->0<=e_ M (e_ (j3 nd es (e_ es k).u (e_ es k).v) (k2:Int))/\e_ M (e_ (j3 nd es (e_ es k).u (e_ es k).v) (k2:Int))<=1000000:=λh=>by have h1:=ax h;have h2:=Bo (xs:=M) (i:=e_ (j3 nd es (e_ es k).u (e_ es k).v) (k2:Int)) om om;have h3:=ad8 ad h2;have h4:=ad _ h2;have h5:=az om;omega
  refine Ax<|Al<|Gm C<|Gm C<|Gr (Bn Ac C)<|Gr (Bm C C)<|Ar<|Ao C (λay=>?_)<|λay=>?_
  ·refine Bc (Ak<|Ax<|A7<|A6<|Gm C<|Gm C<|Gm C<|Gr (A1 (α:=Int) (xs:=j3 nd es ((e_ es k).u) ((e_ es k).v)) Ac ef C C A5 om oo)<|Gr (B8 (xs:=j3 nd es ((e_ es k).u) ((e_ es k).v)) ef C A5 om oo)<|Gr (A1 (α:=Int) (xs:=M) Ac ef C C A5 om oo)<|Gr (B8 (xs:=M) ef C A5 om oo)<|Gr (Rad C C)<|Gr (A1 (α:=Int) (xs:=M) Ac ef C C A5 om oo)<|Ge0 (Cw (α:=Int) (xs:=M) (e:=3) (new:=(e_ M<|e_ (j3 nd es ((e_ es k).u)<|(e_ es k).v) (k2:Int))+1) ef C C C om oo am) ?_)
   exact Bq<|Au<|Ak<|A0 (S5 1 5 6 7 8)<|A6<|Gm C<|Gr (Rad C C)<|Ga C<|Bq<|Bu ((k2+1),(List.set M (e_ (j3 nd es ((e_ es k).u)<|(e_ es k).v) (k2:Int)).toNat ((e_ M<|e_ (j3 nd es ((e_ es k).u)<|(e_ es k).v) (k2:Int))+1)))<|by dsimp only;exact ⟨om,(by rw [Fs];exact ai),(by rw [az5 om om,ae];omega),(λx hx=>by rcases Jt hx with h|h;(· exact ad x h);(· rw [h];have:=ap om;omega)),(ar9 om ah)⟩
  exact Cg<|Aw<|Aw<|Bi<|Au<|Ak<|A6<|Gm C<|Gr (Rad C C)<|Ga C<|Bq<|Bu ((k+1),(M))<|by dsimp only;exact ⟨om,ai,(by rw [ap5 om,ae,show k2=(j3 nd es (e_ es k).u (e_ es k).v).length by omega]),ad,(by rw [cj3 om,←ao,ah,Fz om])⟩
 refine Cg<|Aw<|Aw<|Bi<|Ak<|Al<|Gm C<|Ga C<|Ga C<|Ar<|B3 ?_
 have av:out=H9 nd es:=by rw [ao,show k=es.length by omega,db6 hG]
 subst av
 have aj:(replicate nd.toNat (default:Int)).length=(H9 nd es).length:=by rw [Gc,H3]
 exact C2 C C C (vk 3 aa ab (H9 nd es)::I) (by unfold vk;rw [←aj];exact Az) ⟨aa,ab,by rw [←aj],rfl⟩
theorem dp3(hl:Sl κ I (.slice ea es.length ec) es)(hG:s8 nd es):eu prog κ 147 [.agg #[e7 nd,.slice ea es.length ec]] I (λr J=>∃a c,r = .tuple #[.agg #[e7 nd,.slice ea es.length ec,e7 (V6 nd es / 3),.slice a (H9 nd es).length c],e7 0]/\J=vk 3 a c (H9 nd es)::I):=by
 refine Ce1 Tryz.func147 C C ?_
 refine Al<|Ge1 (Av (cs:=[_,_]) C C C) λb1=>Ge1 (Aj ad0 C) λb2=>Z ?_
 refine Gc2 (Ab c_ C C<|ch9 (nd:=nd) (A3 hl) hG) λab M=>Z ?_
 refine Ao C (λaa=>?_)<|λaa=>Z ?_
 ·exact absurd aa dc
 refine G.e (Ab c_ C C<|cz7 (nd:=nd) (A3 hl) hG) ?_
 rintro _ _ ⟨_,_,⟨rfl,rfl⟩,rfl,rfl⟩
 refine Z ?_
 refine Ge0 (C9 ad0) ?_
 exact Ga C<|Ar<|B3<|Cp C ad0 C C mm C (vk 3 ab M (H9 nd es)::I) Az ⟨ab,M,rfl,rfl⟩
variable {κ:Ctx}{I:List Item}
theorem ch0(hl:Sl κ I va es)(hG:s8 nd es):eu prog κ 168 [.agg #[e7 nd,va]] I (λr J=>r = .tuple #[e7 (F8 nd es),e7 0]/\I=J):=by
 have ab:=hG.rng
 have ah:=q9 hG
 refine Ce1 Tryz.func168 C C ?_
 refine Al<|Ge1 (Av (cs:=[_,_]) C C C) λb1=>Z ?_
 refine Gc0 (Ab c_ C C<|cz8 (A3 hl) hG)<|Z ?_
 refine Ao C (λc11=>?_)<|λc11=>Z ?_
 ·exact absurd c11 dc
 refine Dj (σ:=Nat×Int) (λs=>[(5,e7<|s.2),(6,e7 ((s.1:Nat):Int))]) (λ_=>[]) (λs=>((s.1:Int)<=nd)/\(s.2=ds2 nd es s.1)) (λs=>nd.toNat - s.1) (0,0) (show (((0:Nat):Int)<=nd)/\((0:Int)=ds2 nd es (0:Nat)) from ⟨om,rfl⟩) ?_
 rintro ⟨k,q⟩ hp
 dsimp only at hp ⊢
 obtain ⟨hk,hq⟩:=hp
 have ae:=K1 nd es (k:Int)
 have ai:=bo4 nd es k
 have ad:=bw7 (n:=((nbG nd es (k:Int)).length:Int)) ⟨by omega,by omega⟩
 have aj:=de0 (n:=((nbG nd es (k:Int)).length:Int)) ⟨by omega,by omega⟩
 refine Z ?_
 refine Ao C (λM=>Z ?_)<|λM=>Z ?_
 ·refine Gc0 (Ab c_ C C<|ci6 (nd:=nd) (A3 hl) (k:Int) om) (Z ?_)
  refine Gr (En C C<|by unfold InR;omega)<|Gr (j8.quo C C om om<|by unfold InR;omega)<|Z ?_
  exact Bu ((k+1),(q+((((((nbG nd es (k:Int)).length:Nat)):Int)*(((((nbG nd es (k:Int)).length:Nat)):Int) - 1)) / 2)))<|by dsimp only;exact ⟨om,(by rw [hq];rfl)⟩
 have aa:k=nd.toNat:=by omega
 exact C2 C C C I Ah ⟨by rw [hq,aa];rfl,rfl⟩
theorem dp2(hl:Sl κ I (.slice ea es.length ec) es)(hG:s8 nd es):eu prog κ 148 [.agg #[e7 nd,.slice ea es.length ec]] I (λr J=>∃a c,r = .tuple #[.agg #[e7 nd,.slice ea es.length ec,e7 (F8 nd es),e7 (J9 nd es),.slice a (r9 nd es).length c],e7 0]/\J=vk 3 a c (r9 nd es)::I):=by
 refine Ce1 Tryz.func148 C C ?_
 refine Al<|Ge1 (Av (cs:=[_,_]) C C C) λb1=>Ge1 (Aj V5 C) λb2=>Z ?_
 refine Gc0 (Ab c_ C C<|ch0 (nd:=nd) (A3 hl) hG)<|Z ?_
 refine Ao C (λM=>?_)<|λM=>Z ?_
 ·exact absurd M dc
 refine G.e (Ab c_ C C<|ca4 (nd:=nd) (A3 hl) hG) ?_
 rintro _ _ ⟨_,_,⟨ab,aa,ai,ae,ah,rfl,ad,rfl⟩,rfl,rfl⟩
 refine Z ?_
 refine Ge0 (E7 V5) ?_
 exact Ga C<|Ar<|B3<|Cp C V5 C C mm C (vk 3 ab aa (r9 nd es)::I) Az ⟨ab,aa,rfl,rfl⟩
theorem dp5(hl:Sl κ I (.slice ea es.length ec) es)(hG:s8 nd es)(h1:1<=nd):eu prog κ 145 [.agg #[e7 nd,.slice ea es.length ec]] I (λr J=>∃b d a c,r = .tuple #[.agg #[e7 nd,.slice b es.length d,.slice a (j9 nd es).length c],e7 0]/\J=vk 105 b d es::vk 3 a c (j9 nd es)::I):=by
 have ae:=hG.rng
 have ah:=q9 hG
 refine Ce1 Tryz.func145 C C ?_
 refine Al<|Ge1 (Av (cs:=[_,_]) C C C) λb1=>Ge1 (Aj ab6 C) λb2=>Z ?_
 refine G.e (Ab c_ C C<|cb4 (nd:=nd) (A3 hl) hG om om) ?_
 rintro _ _ ⟨_,_,⟨aa,M,rfl,rfl⟩,rfl,rfl⟩
 refine Z ?_
 refine Ao C (λc12=>?_)<|λc12=>?_
 ·exact absurd c12 dc
 refine Bc<|Ak<|Ax<|A8 mixed<|Bv (vk 3 aa M (j9 nd es)::e8 b2 [e7 0,.slice none 0 0,.slice none 0 0] 40::e8 b1 [e7 nd,.slice ea es.length ec] 38::I) 8<|Z ?_
 refine Ds1 4<|Se2 C (Fb (α:=Pt) (ys:=es) Ay s9 C C C (A3 hl) (by first|omega|(simp only [Fy];omega)) dc C) λad ab=>Z ?_
 refine Ch kr ?_
 refine Ae 8 C (Db ab6) ?_
 rintro _ _ ⟨rfl,rfl⟩
 refine Di (i:=9) kr C (Aq C) C C (Bj C) ?_
 refine Ci kr<|Z ?_
 exact Cp C ab6 C C mm C (vk 105 ad ab (es)::vk 3 aa M (j9 nd es)::I) Az ⟨ad,ab,aa,M,rfl,rfl⟩
theorem dp4(hl:Sl κ I (.slice ea es.length ec) es)(hG:s8 nd es):eu prog κ 146 [.agg #[e7 nd,.slice ea es.length ec]] I (λr J=>∃b d a c,r = .tuple #[.agg #[e7 nd,.slice b es.length d,.slice a (j5 nd es).length c],e7 0]/\J=vk 105 b d es::vk 3 a c (j5 nd es)::I):=by
 have ae:=hG.rng
 have ah:=q9 hG
 refine Ce1 Tryz.func146 C C ?_
 refine Al<|Ge1 (Av (cs:=[_,_]) C C C) λb1=>Ge1 (Aj L6 C) λb2=>Z ?_
 refine Gc2 (Ab c_ C C<|cb3 (nd:=nd) (A3 hl) hG om) λaa M=>Z ?_
 refine Ao C (λc12=>?_)<|λc12=>?_
 ·exact absurd c12 dc
 refine Bc<|Ak<|Ax<|A8 mixed<|Bv (vk 3 aa M (j5 nd es)::e8 b2 [e7 0,.slice none 0 0,.slice none 0 0] 41::e8 b1 [e7 nd,.slice ea es.length ec] 38::I) 8<|Z ?_
 refine Ds1 4<|Se2 C (Fb (α:=Pt) (ys:=es) Ay s9 C C C (A3 hl) (by first|omega|(simp only [Fy];omega)) dc C) λad ab=>Z ?_
 refine Ch kr ?_
 refine Ae 8 C (Db L6) ?_
 rintro _ _ ⟨rfl,rfl⟩
 refine Di (i:=9) kr C (Aq C) C C (Bj C) ?_
 refine Ci kr<|Z ?_
 exact Cp C L6 C C mm C (vk 105 ad ab (es)::vk 3 aa M (j5 nd es)::I) Az ⟨ad,ab,aa,M,rfl,rfl⟩
end Go.Sl
