/- A part of the proofs of statements of this seat: contracts of functions, and the plain laws that they lean on. No conditions. -/
import Derived.Test.YtoagcglbkeomgaaGreatDoorE19
set_option linter.unusedVariables false
set_option linter.unusedSimpArgs false
set_option linter.unusedSectionVars false
open Go.Proofs.Tryz (prog)
open List (replicate)
set_option maxHeartbeats 2000000
namespace Go.Sl
open Go.Proofs
set_option maxRecDepth 4000
variable{l:List Int}{a i j k:Nat}{b c d u v w y:Int}{κ:Ctx}{I:List Item}{va:Value}
theorem bj8(f:Int->Int):∀k,k<=l.length->p7 k (λi=>f (e_ l i))=((l.take k).map f).sum
 |0,_=>by rw [Ju];rfl
 |k+1,h=>by
  rw [Ca l k om,Ht,List.sum_append,←bj8 f k om]
  show _+f _=_+(f _+0)
  omega
theorem av1{n:Nat}(g:Nat->Int)(hn:l.Nodup)(M:∀x∈l,0<=x/\x<(n:Int)):p7 l.length (λi=>g (e_ l i).toNat)=p7 n λj=>if (j:Int)∈l then g j else 0:=by
 rw [bj8 (λx=>g x.toNat) l.length (Gg _),Hd,ap8 g hn M]
theorem dn4(ha:l.Pairwise (λx y=>x<y))(hi:i<l.length)(M:k<l.length):i<k↔e_ l i<e_ l k:=by
 rw [Ha] at ha
 rw [Cs _ i hi,Cs _ k M]
 constructor
 ·exact ha i k hi M
 intro h
 rcases Kq i k with q|q|q
 ·exact q
 ·subst q;omega
 have:=ha k i M hi q;omega
theorem cr8{n:Nat}(h:Nat->Nat->Int)(ha:l.Pairwise (λx y=>x<y))(M:∀x∈l,0<=x/\x<(n:Int)) :
  p7 l.length (λi=>p7 l.length λk=>if i<k then h (e_ l i).toNat (e_ l k).toNat else 0)=p7 n λb=>if (b:Int)∈l then (p7 n λd=>if (d:Int)∈l then (if b<d then h b d else 0) else 0) else 0:=by
 have hn:l.Nodup:=ha.imp λh=>by omega
 rw [←av1 (λb=>p7 n λd=>if (d:Int)∈l then (if b<d then h b d else 0) else 0) hn M]
 refine Bz _ λi hi=>?_
 rw [←av1 (λd=>if (e_ l i).toNat<d then h (e_ l i).toNat d else 0) hn M]
 refine Bz _ λk hk=>?_
 have h1:=dn4 ha hi hk
 have h2:=M _ (Bn (xs:=l) (i:=(i:Int)) om om)
 have h3:=M _ (Bn (xs:=l) (i:=(k:Int)) om om)
 by_cases q:i<k
 ·rw [B_ q,B_<|by have:=h1.1 q;omega]
 rw [An q,An<|λq2=>q<|h1.2 om]
theorem aq0{n w:Nat}(M:w<n)(F:Nat->Int):p7 n (λa=>if a=w then F a else 0)=F w:=by
 rw [←R7 M (F w)]
 exact Bz n λa _=>by by_cases q:a=w<;>simp [q]
theorem V2{n:Nat}{p:Prop}[Decidable p](F:Nat->Int):p7 n (λc=>if p then F c else 0)=if p then p7 n F else 0:=by
 by_cases q:p
 ·rw [B_ q];exact Bz n λc _=>B_ q
 rw [An q];exact Eu n λc _=>An q
theorem bc0{g:Nat->Int}{B:Int}(h:∀x,0<=g x/\g x<=B):∀m:Nat,0<=p7 m g/\p7 m g<=B*(m:Int)
 |0=>by simp [p7]
 |m+1=>by
  have M:=bc0 h m
  have h2:=h m
  have e:B*((m+1:Nat):Int)=B*(m:Int)+B:=by rw [Ml,Ls];simp
  show 0<=p7 m g+g m/\p7 m g+g m<=_
  rw [e];omega
section
variable {nd:Int}{es:List Pt}
def cc7(nd:Int)(es:List Pt)(a i k:Nat):List Int:=j3 nd es (e_ (nbG nd es (a:Int)) (i:Int)) (e_ (nbG nd es (a:Int)) (k:Int))
def sq1(nd:Int)(es:List Pt)(φ:Nat->Nat->Nat->Nat->Int)(a i k j:Nat):Int:=
 if (a:Int)<e_ (nbG nd es (a:Int)) (i:Int)/\(a:Int)<e_ (cc7 nd es a i k) j then φ a (e_ (nbG nd es (a:Int)) (i:Int)).toNat (e_ (nbG nd es (a:Int)) (k:Int)).toNat (e_ (cc7 nd es a i k) j).toNat else 0
def sqJ(nd:Int)(es:List Pt)(φ:Nat->Nat->Nat->Nat->Int)(a i k j:Nat):Int:=p7 j (sq1 nd es φ a i k)
def sqK(nd:Int)(es:List Pt)(φ:Nat->Nat->Nat->Nat->Int)(a i k:Nat):Int:=p7 k λk=>if i<k then sqJ nd es φ a i k (cc7 nd es a i k).length else 0
def sqN(nd:Int)(es:List Pt)(φ:Nat->Nat->Nat->Nat->Int)(a i:Nat):Int:=p7 i λi=>sqK nd es φ a i (nbG nd es (a:Int)).length
def sqA(nd:Int)(es:List Pt)(φ:Nat->Nat->Nat->Nat->Int)(a:Nat):Int:=p7 a λa=>sqN nd es φ a (nbG nd es (a:Int)).length
def sqT(nd:Int)(es:List Pt)(a i k j:Nat)(φ:Nat->Nat->Nat->Nat->Int):Int:=sqA nd es φ a+(sqN nd es φ a i+(sqK nd es φ a i k+sqJ nd es φ a i k j))
variable (φ:Nat->Nat->Nat->Nat->Int)
theorem aq2(h:k<=i+1):sqK nd es φ a i k=0:=Eu k λx M=>An om
theorem fk6(h:(a:Int)<e_ (nbG nd es (a:Int)) (i:Int)/\(a:Int)<e_ (cc7 nd es a i k) j):sqT nd es a i k (j+1) φ=sqT nd es a i k j φ+φ a (e_ (nbG nd es (a:Int)) (i:Int)).toNat (e_ (nbG nd es (a:Int)) (k:Int)).toNat (e_ (cc7 nd es a i k) j).toNat:=by
 have e:sqJ nd es φ a i k (j+1)=sqJ nd es φ a i k j+sq1 nd es φ a i k j:=rfl
 unfold sqT
 rw [e,show sq1 nd es φ a i k j=_ from B_ h]
 omega
theorem fh7(h:¬((a:Int)<e_ (nbG nd es (a:Int)) (i:Int)/\(a:Int)<e_ (cc7 nd es a i k) j)):sqT nd es a i k (j+1) φ=sqT nd es a i k j φ:=by
 have e:sqJ nd es φ a i k (j+1)=sqJ nd es φ a i k j+sq1 nd es φ a i k j:=rfl
 unfold sqT
 rw [e,show sq1 nd es φ a i k j=_ from An h]
 omega
theorem gd3(h:i<k):sqT nd es a i (k+1) 0 φ=sqT nd es a i k (cc7 nd es a i k).length φ:=by
 have e:sqK nd es φ a i (k+1)=sqK nd es φ a i k+if i<k then sqJ nd es φ a i k (cc7 nd es a i k).length else 0:=rfl
 have e2:sqJ nd es φ a i (k+1) 0=0:=rfl
 unfold sqT
 rw [e,e2,B_ h]
 omega
theorem gd4(a i:Nat):sqT nd es a (i+1) (i+2) 0 φ=sqT nd es a i (nbG nd es (a:Int)).length 0 φ:=by
 have e:sqN nd es φ a (i+1)=sqN nd es φ a i+sqK nd es φ a i (nbG nd es (a:Int)).length:=rfl
 have e2:sqJ nd es φ a (i+1) (i+2) 0=0:=rfl
 have e3:sqJ nd es φ a i (nbG nd es (a:Int)).length 0=0:=rfl
 unfold sqT
 rw [e,e2,e3,aq2 φ (show i+2<=i+1+1 by omega)]
 omega
theorem gd5(a:Nat):sqT nd es (a+1) 0 1 0 φ=sqT nd es a (nbG nd es (a:Int)).length ((nbG nd es (a:Int)).length+1) 0 φ:=by
 have e:sqA nd es φ (a+1)=sqA nd es φ a+sqN nd es φ a (nbG nd es (a:Int)).length:=rfl
 have e2:sqJ nd es φ (a+1) 0 1 0=0:=rfl
 have e3:sqJ nd es φ a (nbG nd es (a:Int)).length ((nbG nd es (a:Int)).length+1) 0=0:=rfl
 have e4:sqN nd es φ (a+1) 0=0:=rfl
 unfold sqT
 rw [e,e2,e3,e4,aq2 φ (show 1<=0+1 by omega),aq2 φ<|Gg _]
 omega
theorem fv8:sqT nd es 0 0 1 0 φ=0:=by
 unfold sqT
 rw [aq2 φ (show 1<=0+1 by omega)];rfl
theorem dc2(n:Nat):sqT nd es n 0 1 0 φ=sqA nd es φ n:=by
 have e2:sqJ nd es φ n 0 1 0=0:=rfl
 have e4:sqN nd es φ n 0=0:=rfl
 unfold sqT
 rw [e2,e4,aq2 φ (show 1<=0+1 by omega)];omega
theorem fv7(ha:a<=64)(hi:i<=64)(hk:k<=66)(hj:j<=64):0<=sqT nd es a i k j (λ_ _ _ _=>1)/\sqT nd es a i k j (λ_ _ _ _=>1)<=20000000:=by
 have h1:∀a i k j:Nat,0<=sq1 nd es (λ_ _ _ _=>1) a i k j/\sq1 nd es (λ_ _ _ _=>1) a i k j<=1:=λa i k j=>by unfold sq1;dsimp only;split<;>omega
 have h2:∀a i k j:Nat,0<=sqJ nd es (λ_ _ _ _=>1) a i k j/\sqJ nd es (λ_ _ _ _=>1) a i k j<=(j:Int):=λa i k j=>by have:=bc0 (h1 a i k) j;unfold sqJ;omega
 have h3:∀a i k:Nat,0<=sqK nd es (λ_ _ _ _=>1) a i k/\sqK nd es (λ_ _ _ _=>1) a i k<=64*(k:Int):=λa i k=>bc0 (λx=>by
  have h4:=h2 a i x (cc7 nd es a i x).length
  have M:(cc7 nd es a i x).length<=64:=M2 _ _ _ _
  split<;>omega) k
 have h6:∀a i:Nat,0<=sqN nd es (λ_ _ _ _=>1) a i/\sqN nd es (λ_ _ _ _=>1) a i<=4096*(i:Int):=λa i=>bc0 (λx=>by
  have h4:=h3 a x (nbG nd es (a:Int)).length
  have M:=K0 nd es (a:Int)
  omega) i
 have h7:∀a:Nat,0<=sqA nd es (λ_ _ _ _=>1) a/\sqA nd es (λ_ _ _ _=>1) a<=262144*(a:Int):=λa=>bc0 (λx=>by
  have h4:=h6 x (nbG nd es (x:Int)).length
  have M:=K0 nd es (x:Int)
  omega) a
 have h8:=h7 a
 have h9:=h6 a i
 have ab:=h3 a i k
 have aa:=h2 a i k j
 unfold sqT
 omega
def sqH(nd:Int)(es:List Pt)(φ:Nat->Nat->Nat->Nat->Int)(a b d:Nat):Int:=p7 nd.toNat λc=>if (c:Int)∈j3 nd es (b:Int) (d:Int) then (if a<b/\a<c then φ a b d c else 0) else 0
theorem dc3(M:s8 nd es):sqA nd es φ nd.toNat=p7 nd.toNat λa=>p7 nd.toNat λb=>p7 nd.toNat λd=>p7 nd.toNat λc=>if cyc (N1 nd es) a b d c=true then φ a b d c else 0:=by
 unfold sqA
 refine Bz _ λa _=>?_
 have hr:=dw4 M (x:=(a:Int))
 have h1:sqN nd es φ a (nbG nd es (a:Int)).length=p7 (nbG nd es (a:Int)).length λi=>p7 (nbG nd es (a:Int)).length λk=>if i<k then sqH nd es φ a (e_ (nbG nd es (a:Int)) (i:Int)).toNat (e_ (nbG nd es (a:Int)) (k:Int)).toNat else 0:=by
  unfold sqN
  refine Bz _ λi hi=>?_
  unfold sqK
  refine Bz _ λk hk=>?_
  have h2:=hr _ (Bn (xs:=nbG nd es (a:Int)) (i:=(i:Int)) om om)
  have h3:=hr _ (Bn (xs:=nbG nd es (a:Int)) (i:=(k:Int)) om om)
  by_cases q:i<k
  ·rw [B_ q,B_ q]
   have hc:∀x∈cc7 nd es a i k,0<=x/\x<(nd.toNat:Int):=λx hx=>by have:=Y0 M hx;omega
   unfold sqH
   rw [H1 h2.1,H1 h3.1]
   refine (Bz _ λj hj=>?_).trans (av1 (l:=cc7 nd es a i k) (λc=>if a<(e_ (nbG nd es (a:Int)) (i:Int)).toNat/\a<c then φ a (e_ (nbG nd es (a:Int)) (i:Int)).toNat (e_ (nbG nd es (a:Int)) (k:Int)).toNat c else 0) (H4 _ _ _ _) hc)
   have h4:=hc _ (Bn (xs:=cc7 nd es a i k) (i:=(j:Int)) om om)
   unfold sq1
   by_cases q2:(a:Int)<e_ (nbG nd es (a:Int)) (i:Int)/\(a:Int)<e_ (cc7 nd es a i k) j
   ·rw [B_ q2,B_ om]
   rw [An q2,An om]
  rw [An q,An q]
 rw [h1,cr8 (sqH nd es φ a) (df7 nd es (a:Int)) hr]
 refine Bz _ λb _=>?_
 rw [←V2]
 refine Bz _ λd _=>?_
 unfold sqH
 rw [←V2,←V2,←V2]
 refine Bz _ λc _=>?_
 unfold cyc N1
 by_cases q1:(b:Int)∈nbG nd es (a:Int)
 ·by_cases q2:(d:Int)∈nbG nd es (a:Int)
  ·by_cases q3:b<d
   ·rw [B_ q1,B_ q2,B_ q3]
    have hm:=Q7 M (x:=(b:Int)) (y:=(d:Int)) (w:=(c:Int)) om
    by_cases q4:(c:Int)∈j3 nd es (b:Int) (d:Int)
    ·obtain ⟨m1,m2⟩:=hm.1 q4
     rw [B_ q4]
     simp [q1,q2,q3,m1,m2]
    rw [An q4]
    have hn:¬((c:Int)∈nbG nd es (b:Int)/\(c:Int)∈nbG nd es (d:Int)):=λh=>q4 (hm.2 h)
    rw [An]
    simp only [He,Gp]
    exact λh=>hn h.2.2
   rw [B_ q1,B_ q2,An q3,An<|by simp [q3]]
  rw [B_ q1,An q2,An<|by simp [q2]]
 rw [An q1,An<|by simp [q1]]
theorem fk7(M:s8 nd es):sqA nd es (λ_ _ _ _=>1) nd.toNat=J8 nd es:=by
 rw [dc3 _ M];rfl
def fs9(w a b d c:Nat):Int:=ind (decide (a=w))+ind (decide (b=w))+ind (decide (d=w))+ind (decide (c=w))
theorem dt4(hG:s8 nd es){w:Nat}(M:w<nd.toNat):sqA nd es (fs9 w) nd.toNat=am5 nd es w:=by
 unfold am5
 rw [dc3 _ hG,ck0<|ag3 hG]
 have h1:∀a b d c:Nat,(if cyc (N1 nd es) a b d c=true then fs9 w a b d c else 0)=(if a=w then ind (cyc (N1 nd es) a b d c) else 0)+(if b=w then ind (cyc (N1 nd es) a b d c) else 0)+(if d=w then ind (cyc (N1 nd es) a b d c) else 0)+(if c=w then ind (cyc (N1 nd es) a b d c) else 0):=λa b d c=>by
  unfold fs9
  rw [E4,E4,E4,E4]
  cases cyc (N1 nd es) a b d c with
  |true=>rw [B_ rfl,cu0]
  |false=>rw [An dc,ar9];simp
 have h2:(p7 nd.toNat λa=>p7 nd.toNat λb=>p7 nd.toNat λd=>p7 nd.toNat λc=>if cyc (N1 nd es) a b d c=true then fs9 w a b d c else 0)=p7 nd.toNat λa=>p7 nd.toNat λb=>p7 nd.toNat λd=>p7 nd.toNat λc=>(if a=w then ind (cyc (N1 nd es) a b d c) else 0)+(if b=w then ind (cyc (N1 nd es) a b d c) else 0)+(if d=w then ind (cyc (N1 nd es) a b d c) else 0)+(if c=w then ind (cyc (N1 nd es) a b d c) else 0):=
  Bz _ λa _=>Bz _ λb _=>Bz _ λd _=>Bz _ λc _=>h1 a b d c
 rw [h2]
 simp only [F8]
 congr 1
 ·congr 1
  ·congr 1
   ·rw [←aq0 M λa=>p7 nd.toNat λb=>p7 nd.toNat λd=>p7 nd.toNat λc=>ind<|cyc (N1 nd es) a b d c]
    refine Bz _ λa _=>?_
    rw [←V2];refine Bz _ λb _=>?_
    rw [←V2];refine Bz _ λd _=>?_
    rw [←V2]
   refine Bz _ λa _=>?_
   rw [←aq0 M λb=>p7 nd.toNat λd=>p7 nd.toNat λc=>ind<|cyc (N1 nd es) a b d c]
   refine Bz _ λb _=>?_
   rw [←V2];refine Bz _ λd _=>?_
   rw [←V2]
  refine Bz _ λa _=>Bz _ λb _=>?_
  rw [←aq0 M λd=>p7 nd.toNat λc=>ind<|cyc (N1 nd es) a b d c]
  refine Bz _ λd _=>?_
  rw [←V2]
 refine Bz _ λa _=>Bz _ λb _=>Bz _ λd _=>?_
 rw [←aq0 M λc=>ind<|cyc (N1 nd es) a b d c]
structure SqS (nd:Int) (m:Nat) (N:(Nat->Nat->Nat->Nat->Int)->Int) (n:Int) (xs ys:List Int):Prop where
 len:xs.length=nd.toNat
 dh0:ys.length=m
 cnt:n=N λ_ _ _ _=>1
 val:∀w:Nat,w<nd.toNat->e_ xs w=N (fs9 w)
 bx:∀x∈xs,0<=x/\x<=4*n
 bz:∀x∈ys,0<=x/\x<=4*n
variable {φ}{m:Nat}{N N':(Nat->Nat->Nat->Nat->Int)->Int}{n:Int}{xs ys:List Int}
theorem SqS.to(h:SqS nd m N n xs ys)(e:∀φ,N' φ=N φ):SqS nd m N' n xs ys:=⟨h.len,h.dh0,by rw [e];exact h.cnt,λw M=>by rw [e];exact h.val w M,h.bx,h.bz⟩
theorem SqS.zero:SqS nd m (sqT nd es 0 0 1 0) 0 (replicate nd.toNat (0:Int)) (replicate m (0:Int)):=⟨F_,F_,(fv8 _).symm,λw hw=>by rw [fv8,Cs _ w (by rw [F_];exact hw),Lw],λx M=>by rw [(List.mem_replicate.1 M).2];omega,λx M=>by rw [(List.mem_replicate.1 M).2];omega⟩
theorem SqS.done(M:s8 nd es)(h:SqS nd m (sqT nd es nd.toNat 0 1 0) n xs ys):n=J8 nd es/\xs=r9 nd es/\ys.length=m:=⟨by rw [h.cnt,dc2,fk7 M],E6 (by rw [h.len,G1]) λi hi=>by
 rw [h.len] at hi
 rw [h.val i hi,dc2,dt4 M hi,af2 hi],h.dh0⟩
structure RdS (A xs0 ys0:List Int) (B:Int) (x:Nat) (xs ys:List Int):Prop where
 eq:xs=(A.take x).foldl (X8 1) xs0
 dh0:ys.length=ys0.length
 bx:∀z∈xs,0<=z/\z<=B+(x:Int)
 bz:∀z∈ys,0<=z/\z<=B+(x:Int)
variable {A xs0 ys0:List Int}{B:Int}{x:Nat}
theorem RdS.zero(h1:∀z∈xs0,0<=z/\z<=B)(h2:∀z∈ys0,0<=z/\z<=B):RdS A xs0 ys0 B 0 xs0 ys0:=⟨by rw [Ju];rfl,rfl,λz M=>by have:=h1 z M;omega,λz M=>by have:=h2 z M;omega⟩
theorem RdS.gj2(h:RdS A xs0 ys0 B x xs ys):xs.length=xs0.length:=by rw [h.eq,J3]
theorem fh8{B:Int}(h:∀z∈l,0<=z/\z<=B)(M:0<=w/\w<l.length):∀z∈List.set l w.toNat (e_ l w+1),0<=z/\z<=B+1:=λz hz=>by
 have h1:=h _ (Bn M.1 M.2)
 rcases Jr hz with q|q
 ·have:=h z q;omega
 omega
theorem RdS.step(h:RdS A xs0 ys0 B x xs ys)(hx:x<A.length)(hw:0<=e_ A x/\e_ A x<xs.length)(hy:0<=y/\y<ys.length):RdS A xs0 ys0 B (x+1) (List.set xs (e_ A x).toNat (e_ xs (e_ A x)+1)) (List.set ys y.toNat (e_ ys y+1)):=
 ⟨by rw [Ca A x hx,Hf,←h.eq];rfl,by rw [Fq];exact h.dh0,λz M=>by have:=fh8 h.bx hw z M;omega,λz M=>by have:=fh8 h.bz hy z M;omega⟩
theorem RdS.bdx(h:RdS A xs0 ys0 B x xs ys)(M:0<=w/\w<xs.length):0<=e_ xs w/\e_ xs w<=B+x:=h.bx _ (Bn M.1 M.2)
theorem RdS.bdz(h:RdS A xs0 ys0 B x xs ys)(M:0<=w/\w<ys.length):0<=e_ ys w/\e_ ys w<=B+x:=h.bz _ (Bn M.1 M.2)
theorem SqS.bump(h:SqS nd m N n xs0 ys0){a:Int}(hr:(0<=a/\a<nd)/\(0<=b/\b<nd)/\(0<=d/\d<nd)/\0<=c/\c<nd)(hN:∀φ,N' φ=N φ+φ a.toNat b.toNat d.toNat c.toNat)(hR:RdS [a,b,c,d] xs0 ys0 (4*n) 4 xs ys):SqS nd m N' (n+1) xs ys:=by
 have hl:=h.len
 refine ⟨by rw [hR.gj2,hl],by rw [hR.dh0,h.dh0],by rw [hN,←h.cnt],λw hw=>?_,λz M=>by have:=hR.bx z M;omega,λz M=>by have:=hR.bz z M;omega⟩
 rw [hN,←h.val w hw,hR.eq,show List.take 4 [a,b,c,d]=[a,b,c,d] from rfl,ac6 _ _ (λz M=>by simp only [Fy,Kc,Mq] at M;rcases M with rfl|rfl|rfl|rfl<;>omega) _ om]
 have e:∀z:Int,0<=z->ind (decide<|z=(w:Int))=ind (decide<|z.toNat=w):=λz M=>by congr 1;rw [Ft];omega
 simp only [Hi,Ks,Je,List.sum_nil,Int.one_mul]
 rw [e a hr.1.1,e b hr.2.1.1,e c hr.2.2.2.1,e d hr.2.2.1.1]
 unfold fs9
 omega
theorem at5.inn(h:at5 nd es u v y)(hG:s8 nd es)(M:j4 u v∈es):0<=y/\y<es.length:=by
 rcases h with ⟨_,j,rfl,h1,_⟩|⟨_,h1|h1⟩
 ·omega
 ·exact absurd (s4.2 hG) h1
 exact absurd M h1
theorem fw1(hG:s8 nd es){a:Int}(h1:b∈nbG nd es a)(h2:c∈nbG nd es b)(h3:c∈nbG nd es d)(h4:d∈nbG nd es a):∀x:Nat,x<4->(0<=e_ [a,b,c,d] (x:Int)/\e_ [a,b,c,d] (x:Int)<nd)/\j4 (e_ [a,b,c,d] (x:Int)) (e_ [a,b,c,d] (Int.tmod ((x:Int)+1) 4))∈es:=by
 have M:∀{x y:Int},y∈nbG nd es x->j4 x y∈es:=fun {x y} h=>by
  have hr:=N3 hG h
  rcases (ag8 hG).1 h with q|q
  ·have:=hG.aa9 _ q;simp only at this;unfold j4;rw [An (show ¬y<x by omega),B_ (show x<y by omega)];exact q
  have:=hG.aa9 _ q;simp only at this;unfold j4;rw [B_ (show y<x by omega),An (show ¬x<y by omega)];exact q
 have r1:=N3 hG h1
 have r2:=N3 hG h3
 intro x hx
 rcases (show x=0\/x=1\/x=2\/x=3 by omega) with rfl|rfl|rfl|rfl
 ·exact ⟨r1.1,M h1⟩
 ·exact ⟨r1.2.1,M h2⟩
 ·exact ⟨r2.2.1,M<|ai4 hG h3⟩
 exact ⟨r2.1,M<|ai4 hG h4⟩
end
theorem ca6{nd:Int}{es:List Pt}(hl:Sl κ I va es)(hG:s8 nd es):eu prog κ 55 [.agg #[e7 nd,va]] I (λr J=>∃(a:Option Addr) (c:Nat) (b:Option Addr) (d:Nat) (ys:List Int),r = .tuple #[.slice a (r9 nd es).length c,.slice b es.length d,e7 (J8 nd es)]/\ys.length=es.length/\J=vc 3 (.slice b es.length d) ys::vk 3 a c (r9 nd es)::I):=by
 have b6:=hG.rng
 have cc:=q9 hG
 refine Ce1 Tryz.func55 C C ?_
 refine Am<|Ge1 (Au (cs:=[_,_]) C C C) λb1=>Ga C<|Ga C<|Ga C<|Ar<|Fe (σ:=(Option Addr)×Nat×(Option Addr)×Nat) (λs=>([(1,pt b1),(5,.slice s.1 nd.toNat s.2.1),(6,.slice s.2.2.1 es.length s.2.2.2),(7,e7 0)]:Env)) (λs=>vc 3 (.slice s.1 nd.toNat s.2.1) ((replicate nd.toNat (0:Int)))::vc 3 (.slice s.2.2.1 es.length s.2.2.2) ((replicate es.length (0:Int)))::e8 b1 [e7 nd,va] 38::I) (λs=>True) ?_ ?_
 ·refine A9 mixed (Ed 10<|Dr 0 C (Af ag1 C)<|Dr 1 C (Bf ef) ?_)
  refine Dr 3 C (Af K5 C)<|Dr 4 C (Bf am8) ?_
  refine Dr 5 C (E7 (α:=Pt) (xs:=es) Ax C<|A4 hl)<|C8 (rs:=[2,6]) kr C C<|Ei ?_<|Do ?_
  ·refine Se2 C (Dl (α:=Int) (n:=nd.toNat) Ab ef C C C om om dc C) λa3 a6=>?_
   refine Dr 7 C (Be C)<|Ds1 6<|Se2 C (Dl (α:=Int) (n:=es.length) Ab ef C C C om om dc C) λbm bk=>?_
   exact Dr 8 C (Be C)<|Dr 9 C (Be C)<|Dz<|Di ((a3),(a6),(bm),(bk)) trivial (hI:=by (try dsimp only);exact (by simp only [F_];first|exact Az|exact Ai))
  refine Se2 C (Dl (α:=Int) (n:=es.length) Ab ef C C C om om dc C) λa0 ba=>?_
  refine Ds1 2<|Se2 C (Dl (α:=Int) (n:=nd.toNat) Ab ef C C C om om dc C) λa1 bj=>?_
  exact Dr 7 C (Be C)<|Dr 8 C (Be C)<|Dr 9 C (Be C)<|Dz<|Di ((a1),(bj),(a0),(ba)) trivial (hI:=by (try dsimp only);exact (by simp only [F_];first|exact Az|exact Ai))
 rintro ⟨na,nc,ea,ec⟩ hp
 refine Ay<|Am<|Ga C<|Ar<|A8<|B9 (σ:=Nat×Int×(List Int)×(List Int)) (λs=>([(1,pt b1),(5,.slice na nd.toNat nc),(6,.slice ea es.length ec),(7,e7<|s.2.1),(8,e7 ((s.1:Nat):Int))]:Env)) (λs=>vc 3 (.slice na nd.toNat nc) (s.2.2.1)::vc 3 (.slice ea es.length ec) (s.2.2.2)::e8 b1 [e7 nd,va] 38::I) (λs=>((s.1:Int)<=nd)/\(SqS nd es.length (sqT nd es s.1 0 1 0) s.2.1 s.2.2.1 s.2.2.2)) (λs=>nd.toNat - s.1) (0,0,(replicate nd.toNat (0:Int)),(replicate es.length (0:Int))) ⟨om,SqS.zero⟩ (cx2<|Aa C<|Aa Cn<|Aa Cn Bb) Az ?_
 rintro ⟨a,n0,xs0,ys0⟩ hp
 dsimp only at hp ⊢
 obtain ⟨cf,h0⟩:=hp
 have bw:=h0.len
 have bt:=h0.dh0
 have bp:=h0.cnt
 have cn:=K0 nd es (a:Int)
 refine Ay<|Am<|Gm C<|Gf ag1 C<|Gl ef ?_
 refine Gr (Bj C C)<|Ar<|Al C (λbg=>?_)<|λbg=>?_
 ·refine Bc (Ao<|Ay<|A8<|Am<|Gl2 J9 ?_)
  refine Gm C<|G.e (Ac c_ C C<|ae5 (nd:=nd) (A4 hl) (a:Int) om) ?_
  rintro _ _ ⟨_,_,⟨M,aa,rfl,rfl⟩,rfl,rfl⟩
  have bi:=K0 nd es (a:Int)
  refine Ga C<|Ar<|Am<|Ga C<|Ar<|A0 (S7 10 9 1 5 6 7 8)<|A8<|B9 (σ:=Nat×Int×(List Int)×(List Int)) (λs=>([(1,pt b1),(5,.slice na nd.toNat nc),(6,.slice ea es.length ec),(7,e7<|s.2.1),(8,e7<|(a:Int)),(9,.slice M (nbG nd es (a:Int)).length aa),(10,e7 ((s.1:Nat):Int))]:Env)) (λs=>vk 3 M aa (nbG nd es (a:Int))::vc 3 (.slice na nd.toNat nc) (s.2.2.1)::vc 3 (.slice ea es.length ec) (s.2.2.2)::e8 b1 [e7 nd,va] 38::I) (λs=>(s.1<=(nbG nd es (a:Int)).length)/\(SqS nd es.length (sqT nd es a s.1 (s.1+1) 0) s.2.1 s.2.2.1 s.2.2.2)) (λs=>(nbG nd es (a:Int)).length - s.1) (0,n0,xs0,ys0) ⟨om,(h0)⟩ (cx2<|Aa C<|Aa Cn<|cx2<|Aa Cn Bb) Az ?_
  rintro ⟨i,n1,av,ay⟩ hp
  dsimp only at hp ⊢
  obtain ⟨b7,h1⟩:=hp
  have bo:=h1.len
  have b2:=h1.dh0
  have b3:=h1.cnt
  refine Ay<|Am<|Gm C<|Gm C<|Gr (Bl Ab C)<|Gr (Bj C C)<|Ar<|Al C (λbc=>?_)<|λbc=>?_
  ·refine Bc (Ao<|Ay<|A8<|Am<|Gm C<|Gr (Rad C C)<|Ga C<|Ar<|A0 (S8 11 1 5 6 7 8 9 10)<|A8<|B9 (σ:=Nat×Int×(List Int)×(List Int)) (λs=>([(1,pt b1),(5,.slice na nd.toNat nc),(6,.slice ea es.length ec),(7,e7<|s.2.1),(8,e7<|(a:Int)),(9,.slice M (nbG nd es (a:Int)).length aa),(10,e7<|(i:Int)),(11,e7 ((s.1:Nat):Int))]:Env)) (λs=>vk 3 M aa (nbG nd es (a:Int))::vc 3 (.slice na nd.toNat nc) (s.2.2.1)::vc 3 (.slice ea es.length ec) (s.2.2.2)::e8 b1 [e7 nd,va] 38::I) (λs=>(i+1<=s.1/\s.1<=(nbG nd es (a:Int)).length)/\(SqS nd es.length (sqT nd es a i s.1 0) s.2.1 s.2.2.1 s.2.2.2)) (λs=>(nbG nd es (a:Int)).length - s.1) ((i+1),n1,av,ay) ⟨om,(h1)⟩ (cx2<|Aa C<|Aa Cn<|cx2<|Aa C<|Aa Cn Bb) Az ?_)
   rintro ⟨k,n2,aw,ar⟩ hp
   dsimp only at hp ⊢
   obtain ⟨ch,h2⟩:=hp
   have bv:=h2.len
   have br:=h2.dh0
   have b5:=h2.cnt
   refine Ay<|Am<|Gm C<|Gm C<|Gr (Bl Ab C)<|Gr (Bj C C)<|Ar<|Al C (λa8=>?_)<|λa8=>?_
   ·refine Bc (Ao<|Ay<|A8<|Ay<|A9 mixed<|Ed 11<|Dr 0 C (Bm (vs:=[_,_]) J9) ?_)
    refine Dr 1 C (Aq C)<|Dr 2 C (Aq C)<|Dr 3 C (A2 (α:=Int) (xs:=nbG nd es (a:Int)) Ab ef C C A5 om om)<|Dr 4 C (B8 (xs:=nbG nd es (a:Int)) ef C A5 om om)<|Dr 5 C (Aq C)<|Dr 6 C (Aq C)<|Dr 7 C (A2 (α:=Int) (xs:=nbG nd es (a:Int)) Ab ef C C A5 om om)<|Dr 8 C (B8 (xs:=nbG nd es (a:Int)) ef C A5 om om)<|Ds1 9<|Sc2 C (Ac c_ C C<|ag6 (nd:=nd) (A4 hl) (e_ (nbG nd es (a:Int)) (i:Int)) (e_ (nbG nd es (a:Int)) (k:Int)) om) λae ah=>?_
    refine Dr 10 C (Be C)<|Dz<|Ao<|A0 (S9 12 1 5 6 7 8 9 10 11)<|Am<|Ga C<|Ar<|A8<|B9 (σ:=Nat×Int×(List Int)×(List Int)) (λs=>([(1,pt b1),(5,.slice na nd.toNat nc),(6,.slice ea es.length ec),(7,e7<|s.2.1),(8,e7<|(a:Int)),(9,.slice M (nbG nd es (a:Int)).length aa),(10,e7<|(i:Int)),(11,e7<|(k:Int)),(12,.slice ae (j3 nd es (e_ (nbG nd es (a:Int)) (i:Int))<|e_ (nbG nd es (a:Int)) (k:Int)).length ah),(13,e7 ((s.1:Nat):Int))]:Env)) (λs=>vk 3 ae ah (j3 nd es (e_ (nbG nd es (a:Int)) (i:Int))<|e_ (nbG nd es (a:Int)) (k:Int))::vk 3 M aa (nbG nd es (a:Int))::vc 3 (.slice na nd.toNat nc) (s.2.2.1)::vc 3 (.slice ea es.length ec) (s.2.2.2)::e8 b1 [e7 nd,va] 38::I) (λs=>(s.1<=(j3 nd es (e_ (nbG nd es (a:Int)) (i:Int))<|e_ (nbG nd es (a:Int)) (k:Int)).length)/\(SqS nd es.length (sqT nd es a i k s.1) s.2.1 s.2.2.1 s.2.2.2)) (λs=>(j3 nd es (e_ (nbG nd es (a:Int)) (i:Int))<|e_ (nbG nd es (a:Int)) (k:Int)).length - s.1) (0,n2,aw,ar) ⟨om,(h2)⟩ (cx2<|Aa C<|Aa Cn<|cx4<|Aa C<|Aa Cn Bb) Az ?_
    rintro ⟨j,n3,ai,aj⟩ hp
    dsimp only at hp ⊢
    obtain ⟨cj,h3⟩:=hp
    have bq:=h3.len
    have b4:=h3.dh0
    have bu:=h3.cnt
    have b9:(j3 nd es (e_ (nbG nd es (a:Int)) (i:Int))<|e_ (nbG nd es (a:Int)) (k:Int)).length<=64:=M2 _ _ _ _
    have co:=fv7 (nd:=nd) (es:=es) (a:=a) (i:=i) (k:=k) (j:=j) om om om om
    refine Ay<|Am<|Gm C<|Gm C<|Gr (Bl Ab C)<|Gr (Bj C C)<|Ar<|A0 (S11 59 1 5 6 7 8 9 10 11 12 13 C C C C C C C C C C C)<|Al C (λa7=>?_)<|λa7=>?_
    ·refine Bc (Ao<|Ay<|A8<|Am<|Gm C<|Gm C<|Gr (A2 (α:=Int) (xs:=nbG nd es (a:Int)) Ab ef C C A5 om om)<|Gr (B8 (xs:=nbG nd es (a:Int)) ef C A5 om om)<|Gm C<|Gr (Ec C C)<|Gm C<|A1 (d:=68) C (λbf=>?_)<|λbf=>?_)
     ·refine e9 (Aq C) (e9 (Aq C)<|e9 (A2 (α:=Int) (xs:=j3 nd es (e_ (nbG nd es (a:Int)) (i:Int)) (e_ (nbG nd es (a:Int)) (k:Int))) Ab ef C C A5 om om)<|e9 (B8 (xs:=j3 nd es (e_ (nbG nd es (a:Int)) (i:Int)) (e_ (nbG nd es (a:Int)) (k:Int))) ef C A5 om om)<|e9 (Aq C)<|e9 (Ec C C)<|Gr (B4 C C)<|Ar<|A0 (S11 75 1 5 6 7 8 9 10 11 12 13 C C C C C C C C C C C)<|Al C (λa9=>?_)<|λa9=>?_)
      ·refine Am (Gm C ?_)
       have ap:e_ (nbG nd es (a:Int)) (i:Int)∈(nbG nd es (a:Int)):=Bn om om
       have ao:e_ (nbG nd es (a:Int)) (k:Int)∈(nbG nd es (a:Int)):=Bn om om
       have az:e_ (j3 nd es (e_ (nbG nd es (a:Int)) (i:Int))<|e_ (nbG nd es (a:Int)) (k:Int)) (j:Int)∈(j3 nd es (e_ (nbG nd es (a:Int)) (i:Int))<|e_ (nbG nd es (a:Int)) (k:Int)):=Bn om om
       have cm:=(dn4 (df7 nd es (a:Int)) (i:=i) (k:=k) om om).1 om
       have an:=(Q7 hG (show e_ (nbG nd es (a:Int)) (i:Int)≠e_ (nbG nd es (a:Int)) (k:Int) by omega)).1 az
       have ax:=fw1 hG ap an.1 an.2 ao
       have cr:=N3 hG ap
       have b8:=N3 hG ao
       have ci:=N3 hG an.1
       refine Gr (Rad C C)<|Ga C<|Ar<|A0 (S10 7 1 5 6 8 9 10 11 12 13)<|Ay<|A9 mixed<|Ed 15<|Dr 0 C (Aq C)<|Dr 1 C (Aq C)<|Dr 2 C (Aq C)<|Dr 3 C (A2 (α:=Int) (xs:=nbG nd es (a:Int)) Ab ef C C A5 om om)<|Dr 4 C (B8 (xs:=nbG nd es (a:Int)) ef C A5 om om)<|Dr 5 C (Aq C)<|Dr 6 C (Aq C)<|Dr 7 C (A2 (α:=Int) (xs:=j3 nd es (e_ (nbG nd es (a:Int)) (i:Int)) (e_ (nbG nd es (a:Int)) (k:Int))) Ab ef C C A5 om om)<|Dr 8 C (B8 (xs:=j3 nd es (e_ (nbG nd es (a:Int)) (i:Int)) (e_ (nbG nd es (a:Int)) (k:Int))) ef C A5 om om)<|Dr 9 C (Aq C)<|Dr 10 C (Aq C)<|Dr 11 C (A2 (α:=Int) (xs:=nbG nd es (a:Int)) Ab ef C C A5 om om)<|Dr 12 C (B8 (xs:=nbG nd es (a:Int)) ef C A5 om om)<|Dr 13 C (Ef (cells:=[_,_,_,_]) bv1 Cz ef C C)<|Ds1 14<|Se1 C (Aj bv1 C) λau=>?_
       refine Cg kr ?_
       refine Ae 15 C (C7 bv1) ?_
       rintro _ _ ⟨rfl,rfl⟩
       refine Ch kr ?_
       refine Ao<|A0 (S11 14 7 1 5 6 8 9 10 11 12 13 C C C C C C C C C C C)<|Am<|Ga C<|Ar<|A8<|B9 (σ:=Nat×(List Int)×(List Int)) (λs=>([(1,pt b1),(5,.slice na nd.toNat nc),(6,.slice ea es.length ec),(7,e7<|n3+1),(8,e7<|(a:Int)),(9,.slice M (nbG nd es (a:Int)).length aa),(10,e7<|(i:Int)),(11,e7<|(k:Int)),(12,.slice ae (j3 nd es (e_ (nbG nd es (a:Int)) (i:Int))<|e_ (nbG nd es (a:Int)) (k:Int)).length ah),(13,e7<|(j:Int)),(14,pt au),(15,e7 ((s.1:Nat):Int))]:Env)) (λs=>e8 au (cells ([(a:Int),e_ (nbG nd es (a:Int)) (i:Int),e_ (j3 nd es (e_ (nbG nd es (a:Int)) (i:Int))<|e_ (nbG nd es (a:Int)) (k:Int)) (j:Int),e_ (nbG nd es (a:Int)) (k:Int)]:List Int)) 155::vk 3 ae ah (j3 nd es (e_ (nbG nd es (a:Int)) (i:Int))<|e_ (nbG nd es (a:Int)) (k:Int))::vk 3 M aa (nbG nd es (a:Int))::vc 3 (.slice na nd.toNat nc) (s.2.1)::vc 3 (.slice ea es.length ec) (s.2.2)::e8 b1 [e7 nd,va] 38::I) (λs=>(s.1<=4)/\(RdS [(a:Int),e_ (nbG nd es (a:Int)) (i:Int),e_ (j3 nd es (e_ (nbG nd es (a:Int)) (i:Int))<|e_ (nbG nd es (a:Int)) (k:Int)) (j:Int),e_ (nbG nd es (a:Int)) (k:Int)] ai aj (4*n3) s.1 s.2.1 s.2.2)) (λs=>4 - s.1) (0,ai,aj) ⟨om,(RdS.zero h3.bx h3.bz)⟩ (cx4<|cx4<|cx2<|Aa C<|Aa Cn Bb) Az ?_
       rintro ⟨x,ab,ad⟩ hp
       dsimp only at hp ⊢
       obtain ⟨cb,h4⟩:=hp
       have ck:=h4.gj2
       have cg:=h4.dh0
       have cp:([(a:Int),e_ (nbG nd es (a:Int)) (i:Int),e_ (j3 nd es (e_ (nbG nd es (a:Int)) (i:Int))<|e_ (nbG nd es (a:Int)) (k:Int)) (j:Int),e_ (nbG nd es (a:Int)) (k:Int)]:List Int).length=4:=rfl
       refine Ay<|Am<|Gm C<|Gr (Bj C C)<|Ar<|A0 (S13 93 1 5 6 7 8 9 10 11 12 13 14 15)<|Al C (λbb=>?_)<|λbb=>?_
       ·refine Bc (Ao<|Ay<|A8<|Am<|Gm C ?_)
        have be:=ax x om
        have ca:=h4.bdx (w:=e_ [(a:Int),e_ (nbG nd es (a:Int)) (i:Int),e_ (j3 nd es (e_ (nbG nd es (a:Int)) (i:Int))<|e_ (nbG nd es (a:Int)) (k:Int)) (j:Int),e_ (nbG nd es (a:Int)) (k:Int)] (x:Int)) om
        have cq:0<=Int.tmod ((x:Int)+1) 4/\Int.tmod ((x:Int)+1) 4<4:=by rw [Mr om];omega
        refine Gm C<|Gr (B5 Cz ef C C om om)<|Gr (j7.gc3 (xs:=[(a:Int),e_ (nbG nd es (a:Int)) (i:Int),e_ (j3 nd es (e_ (nbG nd es (a:Int)) (i:Int))<|e_ (nbG nd es (a:Int)) (k:Int)) (j:Int),e_ (nbG nd es (a:Int)) (k:Int)]) ef C (Dm mm) om om)<|Gr (A2 (α:=Int) (xs:=ab) Ab ef C C A5 om om)<|Gr (B8 (xs:=ab) ef C A5 om om)<|Gr (Rad C C)<|Gr (A2 (α:=Int) (xs:=ab) Ab ef C C A5 om om)<|Ge0 (Cv (α:=Int) (xs:=ab) (e:=3) (new:=(e_ ab<|e_ ([(a:Int),e_ (nbG nd es (a:Int)) (i:Int),e_ (j3 nd es (e_ (nbG nd es (a:Int)) (i:Int))<|e_ (nbG nd es (a:Int)) (k:Int)) (j:Int),e_ (nbG nd es (a:Int)) (k:Int)]) (x:Int))+1) ef C C C om om am) ?_
        refine Ar<|A0 (S12 1 5 6 7 8 9 10 11 12 13 14 15)<|A9 mixed<|Ed 15<|Dr 0 C (Aq C)<|Dr 1 C (Bm (vs:=[_,_]) J9) ?_
        refine Dr 2 C (Aq C)<|Dr 3 C (B5 Cz ef C C om om)<|Dr 4 C (j7.gc3 (xs:=[(a:Int),e_ (nbG nd es (a:Int)) (i:Int),e_ (j3 nd es (e_ (nbG nd es (a:Int)) (i:Int))<|e_ (nbG nd es (a:Int)) (k:Int)) (j:Int),e_ (nbG nd es (a:Int)) (k:Int)]) ef C (Dm mm) om om)<|Dr 5 C (Aq C)<|Dr 6 C (Rad C C)<|Dr 7 C (j7.rem C C om)<|Dr 8 C (B5 Cz ef C C om om)<|Dr 9 C (j7.gc3 (xs:=[(a:Int),e_ (nbG nd es (a:Int)) (i:Int),e_ (j3 nd es (e_ (nbG nd es (a:Int)) (i:Int))<|e_ (nbG nd es (a:Int)) (k:Int)) (j:Int),e_ (nbG nd es (a:Int)) (k:Int)]) ef C (Dm mm) om om)<|Ds1 10<|Se C (Ac c_ C C<|ax2 (nd:=nd) (A4 hl) (e_ ([(a:Int),e_ (nbG nd es (a:Int)) (i:Int),e_ (j3 nd es (e_ (nbG nd es (a:Int)) (i:Int))<|e_ (nbG nd es (a:Int)) (k:Int)) (j:Int),e_ (nbG nd es (a:Int)) (k:Int)]) (x:Int))<|e_ ([(a:Int),e_ (nbG nd es (a:Int)) (i:Int),e_ (j3 nd es (e_ (nbG nd es (a:Int)) (i:Int))<|e_ (nbG nd es (a:Int)) (k:Int)) (j:Int),e_ (nbG nd es (a:Int)) (k:Int)])<|Int.tmod ((x:Int)+1) 4) ?_
        rintro _ _ ⟨_,_,⟨ak,rfl,aq,rfl⟩,rfl,rfl⟩
        refine ⟨Ai,?_⟩
        have ce:=aq.inn hG be.2
        have cd:=h4.bdz (w:=ak) om
        refine Dr 11 C (A2 (α:=Int) (xs:=ad) Ab ef C C A5 om om)<|Dr 12 C (B8 (xs:=ad) ef C A5 om om)<|Dr 13 C (Rad C C)<|Dr 14 C (A2 (α:=Int) (xs:=ad) Ab ef C C A5 om om)<|Cg kr ?_
        refine Ae 15 C (Cv (α:=Int) (xs:=ad) (e:=3) (new:=(e_ ad ak)+1) ef C C C om om am) ?_
        rintro _ _ ⟨rfl,rfl⟩
        refine Ch kr ?_
        exact Av<|Ao<|A0 (S12 1 5 6 7 8 9 10 11 12 13 14 15)<|Ba<|Gm C<|Gr (Rad C C)<|Ga C<|Bs<|Bt ((x+1),(List.set ab (e_ ([(a:Int),e_ (nbG nd es (a:Int)) (i:Int),e_ (j3 nd es (e_ (nbG nd es (a:Int)) (i:Int))<|e_ (nbG nd es (a:Int)) (k:Int)) (j:Int),e_ (nbG nd es (a:Int)) (k:Int)]) (x:Int)).toNat ((e_ ab<|e_ ([(a:Int),e_ (nbG nd es (a:Int)) (i:Int),e_ (j3 nd es (e_ (nbG nd es (a:Int)) (i:Int))<|e_ (nbG nd es (a:Int)) (k:Int)) (j:Int),e_ (nbG nd es (a:Int)) (k:Int)]) (x:Int))+1)),(List.set ad (ak).toNat ((e_ ad ak)+1)))<|by dsimp only;exact ⟨om,(h4.step (by show x<4;omega) om om)⟩
       exact Ck<|Aw<|Aw<|Bi<|Av<|Ao<|Ba<|Gm C<|Gr (Rad C C)<|Ga C<|Bs<|Bt ((j+1),(n3+1),(ab),(ad))<|by dsimp only;exact ⟨om,(h3.bump (a:=(a:Int)) (b:=e_ (nbG nd es (a:Int)) (i:Int)) (d:=e_ (nbG nd es (a:Int)) (k:Int)) (c:=e_ (j3 nd es (e_ (nbG nd es (a:Int)) (i:Int))<|e_ (nbG nd es (a:Int)) (k:Int)) (j:Int)) ⟨by omega,by omega,by omega,by omega⟩ (λφ=>fk6 φ ⟨by first|assumption|omega,by first|assumption|omega⟩)<|by rw [show (4:Nat)=x by omega];exact h4)⟩
      exact Bc<|Av<|Ao<|Ba<|Gm C<|Gr (Rad C C)<|Ga C<|Bs<|Bt ((j+1),(n3),(ai),(aj))<|by dsimp only;exact ⟨om,((h3.to λφ=>fh7 φ<|by unfold cc7;omega))⟩
     exact eb<|eb<|eb<|eb<|eb<|eb<|Gr (Bq C C)<|Ar<|A0 (S11 75 1 5 6 7 8 9 10 11 12 13 C C C C C C C C C C C)<|W.no C<|Bc<|Av<|Ao<|Ba<|Gm C<|Gr (Rad C C)<|Ga C<|Bs<|Bt ((j+1),(n3),(ai),(aj))<|by dsimp only;exact ⟨om,((h3.to λφ=>fh7 φ<|by unfold cc7;omega))⟩
    exact Ck<|Aw<|Aw<|Bi<|Av<|Ao<|Ba<|Gm C<|Gr (Rad C C)<|Ga C<|Bs<|Bt ((k+1),(n3),(ai),(aj))<|by dsimp only;exact ⟨om,((h3.to λφ=>by rw [show j=(j3 nd es (e_ (nbG nd es (a:Int)) (i:Int))<|e_ (nbG nd es (a:Int)) (k:Int)).length by omega];exact gd3 φ om))⟩
   exact Ck<|Aw<|Aw<|Bi<|Av<|Ao<|Ba<|Gm C<|Gr (Rad C C)<|Ga C<|Bs<|Bt ((i+1),(n2),(aw),(ar))<|by dsimp only;exact ⟨om,((h2.to λφ=>by rw [show k=(nbG nd es (a:Int)).length by omega];exact gd4 φ a i))⟩
  exact Ck<|Aw<|Aw<|Bi<|Av<|Ao<|Ba<|Gm C<|Gr (Rad C C)<|Ga C<|Bs<|Bt ((a+1),(n1),(av),(ay))<|by dsimp only;exact ⟨om,((h1.to λφ=>by rw [show i=(nbG nd es (a:Int)).length by omega];exact gd5 φ a))⟩
 refine Ck<|Aw<|Aw<|Bi<|Ao<|Am<|Gm C<|Gm C<|Gm C<|Ga C<|Ga C<|Ga C<|Ar<|A0 (S3 4 3 2)<|B2 ?_
 have a5:a=nd.toNat:=by omega
 rw [a5] at h0
 obtain ⟨bh,bn,a4⟩:=h0.done hG
 exact V.gb7 C C C C (vc 3 (.slice ea es.length ec) ys0::vk 3 na nc (r9 nd es)::I) (by unfold vk;rw [G1,←bn];exact Az) ⟨na,nc,ea,ec,ys0,by rw [G1,←bh],a4,rfl⟩
theorem bd2(nd:Int)(es:List Pt)(v:Int):(nbG nd es v).Pairwise (λx0 M:Int=>x0<M):=by
 unfold nbG
 split
 ·exact List.Pairwise.nil
 exact T0 _
theorem ay1{nd:Int}{es:List Pt}(h:u≠v):M0 (nbG nd es u) (nbG nd es v)=j3 nd es u v:=by
 unfold j3
 rw [An h]
 refine ar8.uniq ((bd2 nd es u).sublist Hg) ?_ λx=>?_
 ·unfold Z7;exact (T0 _).sublist Hg
 rw [T2];unfold M0;rw [Gj,Gp]
theorem bn5{a0 b0:Option Addr}{n0 M c0 d0:Nat}{xs ys:List Int}(hn:n0=xs.length)(aa:M=ys.length)(hl:Sl κ I (.slice a0 n0 c0) xs)(hm:Sl κ I (.slice b0 M d0) ys)(hx:xs.Pairwise (λx0 x1:Int=>x0<x1))(hy:ys.Pairwise (λx0 x1:Int=>x0<x1))(hb:xs.length<=100000):eu prog κ 133 [.slice a0 n0 c0,.slice b0 M d0] I λr J=>∃a c,r = .slice a (M0 xs ys).length c/\J=vk 3 a c (M0 xs ys)::I:=by
 subst hn aa
 exact do1 hl hm hx hy hb
section
variable {nd:Int}{es:List Pt}
def trF(nd:Int)(es:List Pt)(xs:List Int)(p:Pt):List Int:=(j3 nd es p.u p.v).foldl (X8 1) xs
def trC(nd:Int)(es:List Pt)(k:Nat):List Int:=(es.take k).foldl (trF nd es) (replicate nd.toNat 0)
theorem cj4(h:k<es.length):trC nd es (k+1)=(j3 nd es (e_ es k).u (e_ es k).v).foldl (X8 1) (trC nd es k):=by
 unfold trC;rw [Ca es k h,Hf];rfl
theorem db6(xs:List Int)(p:Pt):(trF nd es xs p).length=xs.length:=J3 _ _
theorem cd3(hG:s8 nd es){x:Int}(M:0<=x):∀(l:List Pt) (xs:List Int),(xs.length:Int)=nd->(l.foldl (trF nd es) xs).length=xs.length/\e_ (l.foldl (trF nd es) xs) x=e_ xs x+(l.map λp=>ind (decide (x∈j3 nd es p.u p.v))).sum
 |[],xs,_=>⟨rfl,by simp⟩
 |p::l,xs,hl=>by
  obtain ⟨h1,h2⟩:=cd3 hG M l (trF nd es xs p) (by rw [db6];exact hl)
  rw [H_,h1,h2,db6]
  refine ⟨rfl,?_⟩
  have h3:e_ (trF nd es xs p) x=e_ xs x+ind (decide<|x∈j3 nd es p.u p.v):=by
   unfold trF
   rw [ac6 _ _ (λw hw=>by have:=Y0 hG hw;omega) x M,M1<|H4 nd es p.u p.v,Int.one_mul,E4]
  rw [h3,Hi,Je];omega
theorem db7(M:s8 nd es):trC nd es es.length=H7 nd es:=by
 have hr:=M.rng
 have hz:((replicate nd.toNat (0:Int)).length:Int)=nd:=by rw [F_];omega
 have hL:(trC nd es es.length).length=nd.toNat:=by
  unfold trC;rw [(cd3 M (Hn 0) _ _ hz).1,F_]
 refine E6 (by rw [hL,H2]) λi hi=>?_
 rw [hL] at hi
 rw [au9 hi]
 unfold trC dt0
 rw [Hd,(cd3 M om _ _ hz).2,Cs _ i<|by rw [F_];exact hi,Lw,Mo]
end
theorem bn8{nd:Int}{es:List Pt}(hl:Sl κ I va es)(hG:s8 nd es):eu prog κ 87 [.agg #[e7 nd,va]] I (λr J=>∃a c,r = .tuple #[e7 (V5 nd es / 3),.slice a (H7 nd es).length c]/\J=vk 3 a c (H7 nd es)::I):=by
 have ba:=hG.rng
 have bc:=q9 hG
 have bb:=bo6 hG
 refine Ce1 Tryz.func87 C C ?_
 refine Am<|Ge1 (Au (cs:=[_,_]) C C C) λb1=>Ga C<|Ga C<|Ar<|Am<|Gl2 J9 ?_
 refine G.e (Ac c_ C C<|cq5 (nd:=nd) (A4 hl) hG) ?_
 rintro _ _ ⟨_,_,⟨ai,ae,rs,aj,rfl,ah,rfl⟩,rfl,rfl⟩
 refine Ds (J:=vk 22 ai ae rs::e8 b1 [e7 nd,va] 38::(ao8 3 aj++I)) (Cj<|List.Perm.cons _<|C0 (A:=ao8 3 aj) (L:=[e8 b1 [e7 nd,va] 38]) (T:=I)) ?_
 have a9:=ah.len
 refine Ga C<|Ar<|Ay<|A9 mixed<|Ed 5<|Dr 0 C (Af ag1 C)<|Dr 1 C (Bf ef) ?_
 refine Dr 3 C (Be C)<|Ds1 2<|Se2 C (Dl (α:=Int) (n:=nd.toNat) Ab ef C C C om om dc C) λad ab=>?_
 refine Dr 4 C (Be C)<|Dz<|Ao<|Ay<|Am<|Gf K5 C<|Gl am8 ?_
 refine Gr (E7 (α:=Pt) (xs:=es) Ax C<|A4 hl)<|Gm C<|Ar<|A0 (S6 19 18 17 6 5 4)<|A8<|B9 (σ:=Nat×(List Int)×Int) (λs=>([(4,.slice ai rs.length ae),(5,e7<|s.2.2),(6,.slice ad (replicate nd.toNat (default:Int)).length ab),(17,va),(18,e7 ((es.length:Nat):Int)),(19,e7 ((s.1:Nat):Int))]:Env)) (λs=>vc 3 (.slice ad (replicate nd.toNat (default:Int)).length ab) (s.2.1)::vk 22 ai ae rs::e8 b1 [e7 nd,va] 38::(ao8 3 aj++I)) (λs=>(s.1<=es.length)/\(s.2.2=bu3 nd es s.1)/\(s.2.1.length=nd.toNat)/\(s.2.1.sum=s.2.2)/\(∀x∈s.2.1,0<=x)/\(s.2.1=trC nd es s.1)) (λs=>es.length - s.1) (0,replicate nd.toNat (default:Int),0) ⟨om,rfl,(by rw [F_]),(bp0 _),(λx hx=>by rw [Kg hx];exact Hn 0),rfl⟩ (Aa C<|Aa Cn<|cx2<|Aa C<|Aa Cn Bb) Az ?_
 rintro ⟨k,out,q⟩ hp
 dsimp only at hp ⊢
 obtain ⟨hk,hq,a3,az,aw,ar⟩:=hp
 have a6:=λh:k<=es.length=>bb6 nd es k h
 have ax:=λh:k<es.length=>hG.at h
 refine Am<|Gr (Bj C C)<|Ar<|Ay<|Al C (λa1=>?_)<|λa1=>?_
 ·refine Bc (Ao<|Ay<|A8<|Am<|Gr (A2 (α:=Pt) (xs:=es) Ax s9 C C (A4 hl) om oo)<|Gr (Da (α:=Pt) (xs:=es) s9 C (A4 hl) om oo)<|Ge1 (Aj s9 C) λb6=>Ge0 (Cr s9) ?_)
  refine Ar<|Ay<|A9 mixed<|Ed 13<|Dr 0 C (Aq C)<|Dr 1 C (Af N8 C)<|Dr 2 C (Bf ef) ?_
  refine Dr 3 C (A2 (α:=(F9 Int)) (xs:=rs) Cq W4 C C A5 om oo)<|Dr 4 C (Cc (α:=(F9 Int)) (xs:=rs) (u:= .slice (e_ rs<|(e_ es k).u).a (e_ rs<|(e_ es k).u).xs.length (e_ rs<|(e_ es k).u).c) W4 C A5 om oo C)<|Dr 5 C (Aq C)<|Dr 6 C (Af N7 C)<|Dr 7 C (Bf ef) ?_
  refine Dr 8 C (A2 (α:=(F9 Int)) (xs:=rs) Cq W4 C C A5 om oo)<|Dr 9 C (Cc (α:=(F9 Int)) (xs:=rs) (u:= .slice (e_ rs<|(e_ es k).v).a (e_ rs<|(e_ es k).v).xs.length (e_ rs<|(e_ es k).v).c) W4 C A5 om oo C)<|Dr 12 C (Aq C)<|Ds1 10<|Se C (Ac c_ C C<|bn5 (ah.row _ om om).2 (ah.row _ om om).2 (Bd (ah.held (I:=I) (i:=((e_ es k).u)) om om) Ah) (Bd (ah.held (I:=I) (i:=((e_ es k).v)) om om) Ah) (bd2 _ _ _) (bd2 _ _ _) (by have:=K0 nd es (e_ es k).u;omega)) ?_
  rintro _ _ ⟨_,_,⟨au,aq,rfl,rfl⟩,rfl,rfl⟩
  refine ⟨Ai,?_⟩
  have av:M0 (nbG nd es<|(e_ es k).u) (nbG nd es<|(e_ es k).v)=j3 nd es (e_ es k).u (e_ es k).v:=ay1 (by have:=ax om;omega)
  rw [av]
  refine Dr 11 C (Bl Ab C)<|Dz<|Ao<|A0 (S9 34 33 35 4 5 6 17 18 19)<|A8<|B9 (σ:=Nat×(List Int)×Int) (λs=>([(4,.slice ai rs.length ae),(5,e7<|s.2.2),(6,.slice ad (replicate nd.toNat (default:Int)).length ab),(17,va),(18,e7 ((es.length:Nat):Int)),(19,e7<|(k:Int)),(33,.slice au (j3 nd es (e_ es k).u (e_ es k).v).length aq),(34,e7<|(((j3 nd es (e_ es k).u (e_ es k).v).length:Nat):Int)),(35,e7 ((s.1:Nat):Int))]:Env)) (λs=>vc 3 (.slice ad (replicate nd.toNat (default:Int)).length ab) (s.2.1)::vk 3 au aq (j3 nd es (e_ es k).u (e_ es k).v)::e8 b6 [e7 ((e_ es k).u),e7<|(e_ es k).v] 105::vk 22 ai ae rs::e8 b1 [e7 nd,va] 38::(ao8 3 aj++I)) (λs=>(s.1<=(j3 nd es (e_ es k).u (e_ es k).v).length)/\(s.2.2=bu3 nd es k+(s.1:Int))/\(s.2.1.length=nd.toNat)/\(s.2.1.sum=s.2.2)/\(∀x∈s.2.1,0<=x)/\(s.2.1=((j3 nd es (e_ es k).u (e_ es k).v).take s.1).foldl (X8 1) out)) (λs=>(j3 nd es (e_ es k).u (e_ es k).v).length - s.1) (0,out,q) ⟨om,(by rw [hq];simp),a3,az,aw,rfl⟩ (Aa C<|Aa Cn<|cx4<|cx2<|Aa Cn Bb) Az ?_
  rintro ⟨k2,M,q2⟩ hp
  dsimp only at hp ⊢
  obtain ⟨be,a5,ak,ap,aa,ao⟩:=hp
  have a8:k2<(j3 nd es (e_ es k).u (e_ es k).v).length->0<=e_ (j3 nd es (e_ es k).u (e_ es k).v) (k2:Int)/\e_ (j3 nd es (e_ es k).u (e_ es k).v) (k2:Int)<nd:=λh=>Y0 hG (Bn om om)
  have bf:=M2 nd es (e_ es k).u (e_ es k).v
  have a4:k2<(j3 nd es (e_ es k).u (e_ es k).v).length->0<=e_ M (e_ (j3 nd es (e_ es k).u (e_ es k).v) (k2:Int))/\e_ M (e_ (j3 nd es (e_ es k).u (e_ es k).v) (k2:Int))<=1000000:=λh=>by have h1:=a8 h;have h2:=Bn (xs:=M) (i:=e_ (j3 nd es (e_ es k).u (e_ es k).v) (k2:Int)) om om;have h3:=ad8 aa h2;have h4:=aa _ h2;have h5:=a6 om;omega
  refine Am<|Gr (Bj C C)<|Ar<|Ay<|Al C (λay=>?_)<|λay=>?_
  ·refine Bc (Ao<|Ay<|A8<|Am<|Gr (A2 (α:=Int) (xs:=j3 nd es (e_ es k).u (e_ es k).v) Ab ef C C A5 om oo)<|Gr (B8 (xs:=j3 nd es (e_ es k).u (e_ es k).v) ef C A5 om oo)<|Ga C<|Ar<|Am<|Gm C<|Gm C<|Gr (A2 (α:=Int) (xs:=M) Ab ef C C A5 om oo)<|Gr (B8 (xs:=M) ef C A5 om oo)<|Gr (Rad C C)<|Gr (A2 (α:=Int) (xs:=M) Ab ef C C A5 om oo)<|Ge0 (Cv (α:=Int) (xs:=M) (e:=3) (new:=(e_ M<|e_ (j3 nd es (e_ es k).u (e_ es k).v) (k2:Int))+1) ef C C C om oo am) ?_)
   exact Ar<|A0 (S9 4 5 6 17 18 19 33 34 35)<|Ba<|Gm C<|Gr (Rad C C)<|Ga C<|Bs<|Av<|Ao<|Ba<|Gr (Rad C C)<|Gm C<|Bs<|Bt ((k2+1),(List.set M (e_ (j3 nd es (e_ es k).u (e_ es k).v) (k2:Int)).toNat ((e_ M<|e_ (j3 nd es (e_ es k).u (e_ es k).v) (k2:Int))+1)),(q2+1))<|by dsimp only;exact ⟨om,om,(by rw [Fq];exact ak),(by rw [az4 om om,ap];omega),(λx hx=>by rcases Jr hx with h|h;(· exact aa x h);(· rw [h];have:=a4 om;omega)),(as1 om ao)⟩
  exact Ck<|Aw<|Aw<|Bi<|Av<|Ao<|Ba<|Gr (Rad C C)<|Gm C<|Bs<|Bt ((k+1),(M),(q2))<|by dsimp only;exact ⟨om,(by rw [ap7 om,a5,show k2=(j3 nd es (e_ es k).u (e_ es k).v).length by omega]),ak,ap,aa,(by rw [cj4 om,←ar,ao,Fx om])⟩
 refine Ck<|Aw<|Aw<|Bi<|Ao<|Am<|Gm C<|Gr (j7.quo C C om om<|by unfold InR;omega)<|Gm C<|Ga C<|Ga C<|Ar<|B2 ?_
 have a7:out=H7 nd es:=by rw [ar,show k=es.length by omega,db7 hG]
 subst a7
 have an:(replicate nd.toNat (default:Int)).length=(H7 nd es).length:=by rw [F_,H2]
 have a0:q=V5 nd es:=by rw [hq,show k=es.length by omega,bo7]
 exact C3 C C C (vk 3 ad ab (H7 nd es)::I) (by unfold vk;rw [←an];exact X6) ⟨ad,ab,by rw [←an,a0],rfl⟩
end Go.Sl
namespace Go.Sl
open Go.Proofs
set_option maxRecDepth 4000
variable{nd:Int}{va:Value}{es:List Pt}{ea:Option Addr}{ec:Nat}
variable {κ:Ctx}{I:List Item}
attribute [local irreducible] W G V D A j7 Eff
theorem ci0(hl:Sl κ I va es)(hG:s8 nd es):eu prog κ 54 [.agg #[e7 nd,va]] I (λr J=>∃a c,r = .tuple #[.slice a (H7 nd es).length c,e7 0]/\J=vk 3 a c (H7 nd es)::I):=by
 have a0:=hG.rng
 have a1:=q9 hG
 refine Ce1 Tryz.func54 C C ?_
 refine Am<|Ge1 (Au (cs:=[_,_]) C C C) λb1=>Ga C<|Ga C<|Ar<|Ay<|Am<|Gl2 J9 ?_
 refine G.e (Ac c_ C C<|V1 (nd:=nd)<|A4 hl) ?_
 rintro _ _ ⟨_,_,⟨rfl,rfl⟩,rfl,rfl⟩
 refine Ga C<|Ar<|Am<|Gm C<|Gr (Ci C C)<|Ar<|Al C (λc12=>?_)<|λc12=>?_
 ·exact absurd (s4.2 hG) c12
 refine Bc<|Ao<|Am<|Gf ag1 C<|Gl ef ?_
 refine Ge2 (Dl (α:=Int) (n:=nd.toNat) Ab ef C C C om om dc C) λaa ab=>?_
 refine Ga C<|Ar<|Ay<|Am<|Ga C<|Ar<|A0 (S3 6 5 1)<|A8<|B9 (σ:=Nat×(List Int)) (λs=>([(1,pt b1),(5,.slice aa (replicate nd.toNat (default:Int)).length ab),(6,e7 ((s.1:Nat):Int))]:Env)) (λs=>vc 3 (.slice aa (replicate nd.toNat (default:Int)).length ab) (s.2)::e8 b1 [e7 nd,va] 38::I) (λs=>(s.1<=es.length)/\(s.2.length=nd.toNat)/\(s.2.sum=bu3 nd es s.1)/\(∀x∈s.2,0<=x)/\(s.2=trC nd es s.1)) (λs=>es.length - s.1) (0,replicate nd.toNat (default:Int)) (show ((0:Nat)<=es.length)/\((replicate nd.toNat (default:Int):List Int).length=nd.toNat)/\((replicate nd.toNat (default:Int):List Int).sum=bu3 nd es (0:Nat))/\(∀x∈(replicate nd.toNat (default:Int):List Int),0<=x)/\((replicate nd.toNat (default:Int):List Int)=trC nd es (0:Nat)) from ⟨om,(by rw [F_]),(by rw [bp0];rfl),(λx hx=>by rw [Kg hx];exact Hn 0),rfl⟩) (cx2<|Aa Cn Bb) (show Fit κ _ (vk 3 aa ab (replicate nd.toNat (default:Int))::e8 b1 [e7 nd,va] 38::I) from Az) ?_
 rintro ⟨k,out⟩ hp
 dsimp only at hp ⊢
 obtain ⟨hk,av,ap,au,ao⟩:=hp
 have aq:=λh:k<=es.length=>bb6 nd es k h
 refine Ay<|Am<|Gm C<|Gf K5 C<|Gl am8 ?_
 refine Gr (E7 (α:=Pt) (xs:=es) Ax C<|A4 hl)<|Gr (Bj C C)<|Ar<|Al C (λay=>?_)<|λay=>?_
 ·refine Bc (Ao<|Ay<|A8<|Ay<|A9 mixed<|Bx (vc 3 (.slice aa (replicate nd.toNat (default:Int)).length ab) (out)::e8 b1 [e7 nd,va] 38::I) 15<|Dr 0 C (Bm (vs:=[_,_]) J9) ?_)
  refine Dr 1 C (Af K5 C)<|Dr 2 C (Bf am8) ?_
  refine Dr 3 C (Aq C)<|Dr 4 C (A2 (α:=Pt) (xs:=es) Ax s9 C C (A4 hl) om oo)<|Dr 5 C (j7.fld (α:=Pt) (xs:=es) N8 C (A4 hl) oo)<|Dr 6 C (Fj (α:=Pt) (xs:=es) (u:=e7 ((e_ es k).u)) ef C (A4 hl) om oo C)<|Dr 7 C (Af K5 C)<|Dr 8 C (Bf am8) ?_
  refine Dr 9 C (Aq C)<|Dr 10 C (A2 (α:=Pt) (xs:=es) Ax s9 C C (A4 hl) om oo)<|Dr 11 C (j7.fld (α:=Pt) (xs:=es) N7 C (A4 hl) oo)<|Dr 12 C (Fj (α:=Pt) (xs:=es) (u:=e7 ((e_ es k).v)) ef C (A4 hl) om oo C)<|Ds1 13<|Sc2 C (Ac c_ C C<|ag6 (nd:=nd) (A4 hl) ((e_ es k).u) ((e_ es k).v) om) λan ak=>?_
  refine Dr 14 C (Be C)<|Dz<|Ao<|A0 (S4 7 1 5 6)<|Am<|Ga C<|Ar<|A8<|B9 (σ:=Nat×(List Int)) (λs=>([(1,pt b1),(5,.slice aa (replicate nd.toNat (default:Int)).length ab),(6,e7<|(k:Int)),(7,.slice an (j3 nd es ((e_ es k).u)<|(e_ es k).v).length ak),(8,e7 ((s.1:Nat):Int))]:Env)) (λs=>vc 3 (.slice aa (replicate nd.toNat (default:Int)).length ab) (s.2)::vk 3 an ak (j3 nd es ((e_ es k).u)<|(e_ es k).v)::e8 b1 [e7 nd,va] 38::I) (λs=>(s.1<=(j3 nd es (e_ es k).u (e_ es k).v).length)/\(s.2.length=nd.toNat)/\(s.2.sum=bu3 nd es k+(s.1:Int))/\(∀x∈s.2,0<=x)/\(s.2=((j3 nd es (e_ es k).u (e_ es k).v).take s.1).foldl (X8 1) out)) (λs=>(j3 nd es (e_ es k).u (e_ es k).v).length - s.1) (0,out) (show ((0:Nat)<=(j3 nd es (e_ es k).u (e_ es k).v).length)/\((out:List Int).length=nd.toNat)/\((out:List Int).sum=bu3 nd es k+((0:Nat):Int))/\(∀x∈(out:List Int),0<=x)/\((out:List Int)=((j3 nd es (e_ es k).u (e_ es k).v).take (0:Nat)).foldl (X8 1) out) from ⟨om,av,(by rw [ap];simp),au,rfl⟩) (cx4<|Aa Cn Bb) (show Fit κ _ (vc 3 (.slice aa (replicate nd.toNat (default:Int)).length ab) ((out))::vk 3 an ak (j3 nd es ((e_ es k).u)<|(e_ es k).v)::e8 b1 [e7 nd,va] 38::I) from Az) ?_
  rintro ⟨k2,M⟩ hp
  dsimp only at hp ⊢
  obtain ⟨a3,ae,aj,ad,ai⟩:=hp
  have ar:k2<(j3 nd es (e_ es k).u (e_ es k).v).length->0<=e_ (j3 nd es (e_ es k).u (e_ es k).v) (k2:Int)/\e_ (j3 nd es (e_ es k).u (e_ es k).v) (k2:Int)<nd:=λh=>Y0 hG (Bn om om)
  have a4:=M2 nd es (e_ es k).u (e_ es k).v
  have aw:k2<(j3 nd es (e_ es k).u (e_ es k).v).length->0<=e_ M (e_ (j3 nd es (e_ es k).u (e_ es k).v) (k2:Int))/\e_ M (e_ (j3 nd es (e_ es k).u (e_ es k).v) (k2:Int))<=1000000:=λh=>by have h1:=ar h;have h2:=Bn (xs:=M) (i:=e_ (j3 nd es (e_ es k).u (e_ es k).v) (k2:Int)) om om;have h3:=ad8 ad h2;have h4:=ad _ h2;have h5:=aq om;omega
  refine Ay<|Am<|Gm C<|Gm C<|Gr (Bl Ab C)<|Gr (Bj C C)<|Ar<|Al C (λaz=>?_)<|λaz=>?_
  ·refine Bc (Ao<|Ay<|A8<|Ba<|Gm C<|Gm C<|Gm C<|Gr (A2 (α:=Int) (xs:=j3 nd es ((e_ es k).u) ((e_ es k).v)) Ab ef C C A5 om oo)<|Gr (B8 (xs:=j3 nd es ((e_ es k).u) ((e_ es k).v)) ef C A5 om oo)<|Gr (A2 (α:=Int) (xs:=M) Ab ef C C A5 om oo)<|Gr (B8 (xs:=M) ef C A5 om oo)<|Gr (Rad C C)<|Gr (A2 (α:=Int) (xs:=M) Ab ef C C A5 om oo)<|Ge0 (Cv (α:=Int) (xs:=M) (e:=3) (new:=(e_ M<|e_ (j3 nd es ((e_ es k).u)<|(e_ es k).v) (k2:Int))+1) ef C C C om oo am) ?_)
   exact Bs<|Av<|Ao<|A0 (S5 1 5 6 7 8)<|Ba<|Gm C<|Gr (Rad C C)<|Ga C<|Bs<|Bt ((k2+1),(List.set M (e_ (j3 nd es ((e_ es k).u)<|(e_ es k).v) (k2:Int)).toNat ((e_ M<|e_ (j3 nd es ((e_ es k).u)<|(e_ es k).v) (k2:Int))+1)))<|by dsimp only;exact ⟨om,(by rw [Fq];exact ae),(by rw [az4 om om,aj];omega),(λx hx=>by rcases Jr hx with h|h;(· exact ad x h);(· rw [h];have:=aw om;omega)),(as1 om ai)⟩
  exact Ck<|Aw<|Aw<|Bi<|Av<|Ao<|Ba<|Gm C<|Gr (Rad C C)<|Ga C<|Bs<|Bt ((k+1),(M))<|by dsimp only;exact ⟨om,ae,(by rw [ap7 om,aj,show k2=(j3 nd es (e_ es k).u (e_ es k).v).length by omega]),ad,(by rw [cj4 om,←ao,ai,Fx om])⟩
 refine Ck<|Aw<|Aw<|Bi<|Ao<|Am<|Gm C<|Ga C<|Ga C<|Ar<|B2 ?_
 have ax:out=H7 nd es:=by rw [ao,show k=es.length by omega,db7 hG]
 subst ax
 have ah:(replicate nd.toNat (default:Int)).length=(H7 nd es).length:=by rw [F_,H2]
 exact C3 C C C (vk 3 aa ab (H7 nd es)::I) (by unfold vk;rw [←ah];exact Az) ⟨aa,ab,by rw [←ah],rfl⟩
theorem dp5(hl:Sl κ I (.slice ea es.length ec) es)(hG:s8 nd es):eu prog κ 147 [.agg #[e7 nd,.slice ea es.length ec]] I (λr J=>∃a c,r = .tuple #[.agg #[e7 nd,.slice ea es.length ec,e7 (V5 nd es / 3),.slice a (H7 nd es).length c],e7 0]/\J=vk 3 a c (H7 nd es)::I):=by
 refine Ce1 Tryz.func147 C C ?_
 refine Am<|Ge1 (Au (cs:=[_,_]) C C C) λb1=>Ge1 (Aj ad0 C) λb2=>Z ?_
 refine Gc2 (Ac c_ C C<|ci0 (nd:=nd) (A4 hl) hG) λaa ab=>Z ?_
 refine Al C (λM=>?_)<|λM=>Z ?_
 ·exact absurd M dc
 refine G.e (Ac c_ C C<|cz8 (nd:=nd) (A4 hl) hG) ?_
 rintro _ _ ⟨_,_,⟨rfl,rfl⟩,rfl,rfl⟩
 refine Z ?_
 refine Ge0 (C7 ad0) ?_
 exact Ga C<|Ar<|B2<|Co C ad0 C C mm C (vk 3 aa ab (H7 nd es)::I) Az ⟨aa,ab,rfl,rfl⟩
variable {κ:Ctx}{I:List Item}
theorem ch1(hl:Sl κ I va es)(hG:s8 nd es):eu prog κ 168 [.agg #[e7 nd,va]] I (λr J=>r = .tuple #[e7 (F7 nd es),e7 0]/\I=J):=by
 have ab:=hG.rng
 have aj:=q9 hG
 refine Ce1 Tryz.func168 C C ?_
 refine Am<|Ge1 (Au (cs:=[_,_]) C C C) λb1=>Z ?_
 refine Gc0 (Ac c_ C C<|cz9 (A4 hl) hG)<|Z ?_
 refine Al C (λc11=>?_)<|λc11=>Z ?_
 ·exact absurd c11 dc
 refine Dh (σ:=Nat×Int) (λs=>[(5,e7<|s.2),(6,e7 ((s.1:Nat):Int))]) (λ_=>[]) (λs=>((s.1:Int)<=nd)/\(s.2=ds6 nd es s.1)) (λs=>nd.toNat - s.1) (0,0) (show (((0:Nat):Int)<=nd)/\((0:Int)=ds6 nd es (0:Nat)) from ⟨om,rfl⟩) ?_
 rintro ⟨k,q⟩ hp
 dsimp only at hp ⊢
 obtain ⟨hk,hq⟩:=hp
 have ae:=K0 nd es (k:Int)
 have ai:=bo2 nd es k
 have ad:=bw9 (n:=((nbG nd es (k:Int)).length:Int)) ⟨by omega,by omega⟩
 have ah:=de2 (n:=((nbG nd es (k:Int)).length:Int)) ⟨by omega,by omega⟩
 refine Z ?_
 refine Al C (λaa=>Z ?_)<|λaa=>Z ?_
 ·refine Gc0 (Ac c_ C C<|ci7 (nd:=nd) (A4 hl) (k:Int) om) (Z ?_)
  refine Gr (Ep C C<|by unfold InR;omega)<|Gr (j7.quo C C om om<|by unfold InR;omega)<|Z ?_
  exact Bt ((k+1),(q+((((((nbG nd es (k:Int)).length:Nat)):Int)*(((((nbG nd es (k:Int)).length:Nat)):Int) - 1)) / 2)))<|by dsimp only;exact ⟨om,(by rw [hq];rfl)⟩
 have M:k=nd.toNat:=by omega
 exact C3 C C C I Ah ⟨by rw [hq,M];rfl,rfl⟩
theorem dp4(hl:Sl κ I (.slice ea es.length ec) es)(hG:s8 nd es):eu prog κ 148 [.agg #[e7 nd,.slice ea es.length ec]] I (λr J=>∃a c,r = .tuple #[.agg #[e7 nd,.slice ea es.length ec,e7 (F7 nd es),e7 (J8 nd es),.slice a (r9 nd es).length c],e7 0]/\J=vk 3 a c (r9 nd es)::I):=by
 refine Ce1 Tryz.func148 C C ?_
 refine Am<|Ge1 (Au (cs:=[_,_]) C C C) λb1=>Ge1 (Aj V4 C) λb2=>Z ?_
 refine Gc0 (Ac c_ C C<|ch1 (nd:=nd) (A4 hl) hG)<|Z ?_
 refine Al C (λM=>?_)<|λM=>Z ?_
 ·exact absurd M dc
 refine G.e (Ac c_ C C<|ca6 (nd:=nd) (A4 hl) hG) ?_
 rintro _ _ ⟨_,_,⟨ab,aa,ah,ae,ai,rfl,ad,rfl⟩,rfl,rfl⟩
 refine Z ?_
 refine Ge0 (E5 V4) ?_
 exact Ga C<|Ar<|B2<|Co C V4 C C mm C (vk 3 ab aa (r9 nd es)::I) Az ⟨ab,aa,rfl,rfl⟩
theorem dp7(hl:Sl κ I (.slice ea es.length ec) es)(hG:s8 nd es)(h1:1<=nd):eu prog κ 145 [.agg #[e7 nd,.slice ea es.length ec]] I (λr J=>∃b d a c,r = .tuple #[.agg #[e7 nd,.slice b es.length d,.slice a (j9 nd es).length c],e7 0]/\J=vk 105 b d es::vk 3 a c (j9 nd es)::I):=by
 have ae:=hG.rng
 have ah:=q9 hG
 refine Ce1 Tryz.func145 C C ?_
 refine Am<|Ge1 (Au (cs:=[_,_]) C C C) λb1=>Ge1 (Aj ab6 C) λb2=>Z ?_
 refine G.e (Ac c_ C C<|cb6 (nd:=nd) (A4 hl) hG om om) ?_
 rintro _ _ ⟨_,_,⟨aa,M,rfl,rfl⟩,rfl,rfl⟩
 refine Z ?_
 refine Al C (λc12=>?_)<|λc12=>?_
 ·exact absurd c12 dc
 refine Bc<|Ao<|Ay<|A9 mixed<|Bx (vk 3 aa M (j9 nd es)::e8 b2 [e7 0,.slice none 0 0,.slice none 0 0] 40::e8 b1 [e7 nd,.slice ea es.length ec] 38::I) 8<|Z ?_
 refine Ds1 4<|Se2 C (E8 (α:=Pt) (ys:=es) Ax s9 C C C (A4 hl) (by first|omega|(simp only [Fw];omega)) dc C) λad ab=>Z ?_
 refine Cg kr ?_
 refine Ae 8 C (C9 ab6) ?_
 rintro _ _ ⟨rfl,rfl⟩
 refine Dg (i:=9) kr C (Ap C) C C (Be C) ?_
 refine Ch kr<|Z ?_
 exact Co C ab6 C C mm C (vk 105 ad ab (es)::vk 3 aa M (j9 nd es)::I) Az ⟨ad,ab,aa,M,rfl,rfl⟩
theorem dp6(hl:Sl κ I (.slice ea es.length ec) es)(hG:s8 nd es):eu prog κ 146 [.agg #[e7 nd,.slice ea es.length ec]] I (λr J=>∃b d a c,r = .tuple #[.agg #[e7 nd,.slice b es.length d,.slice a (j5 nd es).length c],e7 0]/\J=vk 105 b d es::vk 3 a c (j5 nd es)::I):=by
 have ae:=hG.rng
 have ah:=q9 hG
 refine Ce1 Tryz.func146 C C ?_
 refine Am<|Ge1 (Au (cs:=[_,_]) C C C) λb1=>Ge1 (Aj L5 C) λb2=>Z ?_
 refine Gc2 (Ac c_ C C<|cb5 (nd:=nd) (A4 hl) hG om) λaa M=>Z ?_
 refine Al C (λc12=>?_)<|λc12=>?_
 ·exact absurd c12 dc
 refine Bc<|Ao<|Ay<|A9 mixed<|Bx (vk 3 aa M (j5 nd es)::e8 b2 [e7 0,.slice none 0 0,.slice none 0 0] 41::e8 b1 [e7 nd,.slice ea es.length ec] 38::I) 8<|Z ?_
 refine Ds1 4<|Se2 C (E8 (α:=Pt) (ys:=es) Ax s9 C C C (A4 hl) (by first|omega|(simp only [Fw];omega)) dc C) λad ab=>Z ?_
 refine Cg kr ?_
 refine Ae 8 C (C9 L5) ?_
 rintro _ _ ⟨rfl,rfl⟩
 refine Dg (i:=9) kr C (Ap C) C C (Be C) ?_
 refine Ch kr<|Z ?_
 exact Co C L5 C C mm C (vk 105 ad ab (es)::vk 3 aa M (j5 nd es)::I) Az ⟨ad,ab,aa,M,rfl,rfl⟩
end Go.Sl
