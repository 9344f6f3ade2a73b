/- A part of the proofs of statements of this seat: contracts of functions, and the plain laws that they lean on. No conditions. -/
import Derived.Test.YtoagcglbkeomgaaGreatDoorV19
set_option linter.unusedVariables false
set_option linter.unusedSimpArgs false
set_option linter.unusedSectionVars false
open Go.Proofs.Tryz (prog)
open List (replicate)
set_option maxHeartbeats 2000000
namespace Go.Sl
open Go.Proofs
set_option maxRecDepth 4000
variable{l:List Int}{a i j k:Nat}{b c d u v w y:Int}{κ:Ctx}{I:List Item}{va:Value}
theorem bk7(f:Int->Int):∀k,k<=l.length->p9 k (λi=>f (e_ l i))=((l.take k).map f).sum
 |0,_=>by rw [Js];rfl
 |k+1,h=>by
  rw [Ca l k om,Hr,List.sum_append,←bk7 f k om]
  show _+f _=_+(f _+0)
  omega
theorem av3{n:Nat}(g:Nat->Int)(hn:l.Nodup)(M:∀x∈l,0<=x/\x<(n:Int)):p9 l.length (λi=>g (e_ l i).toNat)=p9 n λj=>if (j:Int)∈l then g j else 0:=by
 rw [bk7 (λx=>g x.toNat) l.length (Gd _),Hb,aq3 g hn M]
theorem do0(M:l.Pairwise (λx y=>x<y))(hi:i<l.length)(hk:k<l.length):i<k↔e_ l i<e_ l k:=by
 rw [H1] at M
 rw [Ct _ i hi,Ct _ k hk]
 constructor
 ·exact M i k hi hk
 intro h
 rcases Kn i k with q|q|q
 ·exact q
 ·subst q;omega
 have:=M k i hk hi q;omega
theorem cr8{n:Nat}(h:Nat->Nat->Int)(ha:l.Pairwise (λx y=>x<y))(M:∀x∈l,0<=x/\x<(n:Int)) :
  p9 l.length (λi=>p9 l.length λk=>if i<k then h (e_ l i).toNat (e_ l k).toNat else 0)=p9 n λb=>if (b:Int)∈l then (p9 n λd=>if (d:Int)∈l then (if b<d then h b d else 0) else 0) else 0:=by
 have hn:l.Nodup:=ha.imp λh=>by omega
 rw [←av3 (λb=>p9 n λd=>if (d:Int)∈l then (if b<d then h b d else 0) else 0) hn M]
 refine B1 _ λi hi=>?_
 rw [←av3 (λd=>if (e_ l i).toNat<d then h (e_ l i).toNat d else 0) hn M]
 refine B1 _ λk hk=>?_
 have h1:=do0 ha hi hk
 have h2:=M _ (Bp (xs:=l) (i:=(i:Int)) om om)
 have h3:=M _ (Bp (xs:=l) (i:=(k:Int)) om om)
 by_cases q:i<k
 ·rw [B_ q,B_<|by have:=h1.1 q;omega]
 rw [An q,An<|λq2=>q<|h1.2 om]
theorem aq5{n w:Nat}(M:w<n)(F:Nat->Int):p9 n (λa=>if a=w then F a else 0)=F w:=by
 rw [←R6 M (F w)]
 exact B1 n λa _=>by by_cases q:a=w<;>simp [q]
theorem V4{n:Nat}{p:Prop}[Decidable p](F:Nat->Int):p9 n (λc=>if p then F c else 0)=if p then p9 n F else 0:=by
 by_cases q:p
 ·rw [B_ q];exact B1 n λc _=>B_ q
 rw [An q];exact Du n λc _=>An q
theorem bc5{g:Nat->Int}{B:Int}(h:∀x,0<=g x/\g x<=B):∀m:Nat,0<=p9 m g/\p9 m g<=B*(m:Int)
 |0=>by simp [p9]
 |m+1=>by
  have M:=bc5 h m
  have h2:=h m
  have e:B*((m+1:Nat):Int)=B*(m:Int)+B:=by rw [Mj,Lq];simp
  show 0<=p9 m g+g m/\p9 m g+g m<=_
  rw [e];omega
section
variable {nd:Int}{es:List Pt}
def cd1(nd:Int)(es:List Pt)(a i k:Nat):List Int:=j3 nd es (e_ (nbG nd es (a:Int)) (i:Int)) (e_ (nbG nd es (a:Int)) (k:Int))
def sq1(nd:Int)(es:List Pt)(φ:Nat->Nat->Nat->Nat->Int)(a i k j:Nat):Int:=
 if (a:Int)<e_ (nbG nd es (a:Int)) (i:Int)/\(a:Int)<e_ (cd1 nd es a i k) j then φ a (e_ (nbG nd es (a:Int)) (i:Int)).toNat (e_ (nbG nd es (a:Int)) (k:Int)).toNat (e_ (cd1 nd es a i k) j).toNat else 0
def sqJ(nd:Int)(es:List Pt)(φ:Nat->Nat->Nat->Nat->Int)(a i k j:Nat):Int:=p9 j (sq1 nd es φ a i k)
def sqK(nd:Int)(es:List Pt)(φ:Nat->Nat->Nat->Nat->Int)(a i k:Nat):Int:=p9 k λk=>if i<k then sqJ nd es φ a i k (cd1 nd es a i k).length else 0
def sqN(nd:Int)(es:List Pt)(φ:Nat->Nat->Nat->Nat->Int)(a i:Nat):Int:=p9 i λi=>sqK nd es φ a i (nbG nd es (a:Int)).length
def sqA(nd:Int)(es:List Pt)(φ:Nat->Nat->Nat->Nat->Int)(a:Nat):Int:=p9 a λa=>sqN nd es φ a (nbG nd es (a:Int)).length
def sqT(nd:Int)(es:List Pt)(a i k j:Nat)(φ:Nat->Nat->Nat->Nat->Int):Int:=sqA nd es φ a+(sqN nd es φ a i+(sqK nd es φ a i k+sqJ nd es φ a i k j))
variable (φ:Nat->Nat->Nat->Nat->Int)
theorem aq7(h:k<=i+1):sqK nd es φ a i k=0:=Du k λx M=>An om
theorem fm8(h:(a:Int)<e_ (nbG nd es (a:Int)) (i:Int)/\(a:Int)<e_ (cd1 nd es a i k) j):sqT nd es a i k (j+1) φ=sqT nd es a i k j φ+φ a (e_ (nbG nd es (a:Int)) (i:Int)).toNat (e_ (nbG nd es (a:Int)) (k:Int)).toNat (e_ (cd1 nd es a i k) j).toNat:=by
 have e:sqJ nd es φ a i k (j+1)=sqJ nd es φ a i k j+sq1 nd es φ a i k j:=rfl
 unfold sqT
 rw [e,show sq1 nd es φ a i k j=_ from B_ h]
 omega
theorem fi7(h:¬((a:Int)<e_ (nbG nd es (a:Int)) (i:Int)/\(a:Int)<e_ (cd1 nd es a i k) j)):sqT nd es a i k (j+1) φ=sqT nd es a i k j φ:=by
 have e:sqJ nd es φ a i k (j+1)=sqJ nd es φ a i k j+sq1 nd es φ a i k j:=rfl
 unfold sqT
 rw [e,show sq1 nd es φ a i k j=_ from An h]
 omega
theorem ge6(h:i<k):sqT nd es a i (k+1) 0 φ=sqT nd es a i k (cd1 nd es a i k).length φ:=by
 have e:sqK nd es φ a i (k+1)=sqK nd es φ a i k+if i<k then sqJ nd es φ a i k (cd1 nd es a i k).length else 0:=rfl
 have e2:sqJ nd es φ a i (k+1) 0=0:=rfl
 unfold sqT
 rw [e,e2,B_ h]
 omega
theorem ge7(a i:Nat):sqT nd es a (i+1) (i+2) 0 φ=sqT nd es a i (nbG nd es (a:Int)).length 0 φ:=by
 have e:sqN nd es φ a (i+1)=sqN nd es φ a i+sqK nd es φ a i (nbG nd es (a:Int)).length:=rfl
 have e2:sqJ nd es φ a (i+1) (i+2) 0=0:=rfl
 have e3:sqJ nd es φ a i (nbG nd es (a:Int)).length 0=0:=rfl
 unfold sqT
 rw [e,e2,e3,aq7 φ (show i+2<=i+1+1 by omega)]
 omega
theorem ge8(a:Nat):sqT nd es (a+1) 0 1 0 φ=sqT nd es a (nbG nd es (a:Int)).length ((nbG nd es (a:Int)).length+1) 0 φ:=by
 have e:sqA nd es φ (a+1)=sqA nd es φ a+sqN nd es φ a (nbG nd es (a:Int)).length:=rfl
 have e2:sqJ nd es φ (a+1) 0 1 0=0:=rfl
 have e3:sqJ nd es φ a (nbG nd es (a:Int)).length ((nbG nd es (a:Int)).length+1) 0=0:=rfl
 have e4:sqN nd es φ (a+1) 0=0:=rfl
 unfold sqT
 rw [e,e2,e3,e4,aq7 φ (show 1<=0+1 by omega),aq7 φ<|Gd _]
 omega
theorem fw9:sqT nd es 0 0 1 0 φ=0:=by
 unfold sqT
 rw [aq7 φ (show 1<=0+1 by omega)];rfl
theorem dc7(n:Nat):sqT nd es n 0 1 0 φ=sqA nd es φ n:=by
 have e2:sqJ nd es φ n 0 1 0=0:=rfl
 have e4:sqN nd es φ n 0=0:=rfl
 unfold sqT
 rw [e2,e4,aq7 φ (show 1<=0+1 by omega)];omega
theorem fw8(ha:a<=64)(hi:i<=64)(hk:k<=66)(hj:j<=64):0<=sqT nd es a i k j (λ_ _ _ _=>1)/\sqT nd es a i k j (λ_ _ _ _=>1)<=20000000:=by
 have h1:∀a i k j:Nat,0<=sq1 nd es (λ_ _ _ _=>1) a i k j/\sq1 nd es (λ_ _ _ _=>1) a i k j<=1:=λa i k j=>by unfold sq1;dsimp only;split<;>omega
 have h2:∀a i k j:Nat,0<=sqJ nd es (λ_ _ _ _=>1) a i k j/\sqJ nd es (λ_ _ _ _=>1) a i k j<=(j:Int):=λa i k j=>by have:=bc5 (h1 a i k) j;unfold sqJ;omega
 have h3:∀a i k:Nat,0<=sqK nd es (λ_ _ _ _=>1) a i k/\sqK nd es (λ_ _ _ _=>1) a i k<=64*(k:Int):=λa i k=>bc5 (λx=>by
  have h4:=h2 a i x (cd1 nd es a i x).length
  have h5:(cd1 nd es a i x).length<=64:=M2 _ _ _ _
  split<;>omega) k
 have M:∀a i:Nat,0<=sqN nd es (λ_ _ _ _=>1) a i/\sqN nd es (λ_ _ _ _=>1) a i<=4096*(i:Int):=λa i=>bc5 (λx=>by
  have h4:=h3 a x (nbG nd es (a:Int)).length
  have h5:=J9 nd es (a:Int)
  omega) i
 have h7:∀a:Nat,0<=sqA nd es (λ_ _ _ _=>1) a/\sqA nd es (λ_ _ _ _=>1) a<=262144*(a:Int):=λa=>bc5 (λx=>by
  have h4:=M x (nbG nd es (x:Int)).length
  have h5:=J9 nd es (x:Int)
  omega) a
 have h8:=h7 a
 have h9:=M a i
 have ab:=h3 a i k
 have aa:=h2 a i k j
 unfold sqT
 omega
def sqH(nd:Int)(es:List Pt)(φ:Nat->Nat->Nat->Nat->Int)(a b d:Nat):Int:=p9 nd.toNat λc=>if (c:Int)∈j3 nd es (b:Int) (d:Int) then (if a<b/\a<c then φ a b d c else 0) else 0
theorem dc8(hG:s6 nd es):sqA nd es φ nd.toNat=p9 nd.toNat λa=>p9 nd.toNat λb=>p9 nd.toNat λd=>p9 nd.toNat λc=>if cyc (M3 nd es) a b d c=true then φ a b d c else 0:=by
 unfold sqA
 refine B1 _ λa _=>?_
 have M:=dx1 hG (x:=(a:Int))
 have h1:sqN nd es φ a (nbG nd es (a:Int)).length=p9 (nbG nd es (a:Int)).length λi=>p9 (nbG nd es (a:Int)).length λk=>if i<k then sqH nd es φ a (e_ (nbG nd es (a:Int)) (i:Int)).toNat (e_ (nbG nd es (a:Int)) (k:Int)).toNat else 0:=by
  unfold sqN
  refine B1 _ λi hi=>?_
  unfold sqK
  refine B1 _ λk hk=>?_
  have h2:=M _ (Bp (xs:=nbG nd es (a:Int)) (i:=(i:Int)) om om)
  have h3:=M _ (Bp (xs:=nbG nd es (a:Int)) (i:=(k:Int)) om om)
  by_cases q:i<k
  ·rw [B_ q,B_ q]
   have hc:∀x∈cd1 nd es a i k,0<=x/\x<(nd.toNat:Int):=λx hx=>by have:=Z2 hG hx;omega
   unfold sqH
   rw [Gz h2.1,Gz h3.1]
   refine (B1 _ λj hj=>?_).trans (av3 (l:=cd1 nd es a i k) (λc=>if a<(e_ (nbG nd es (a:Int)) (i:Int)).toNat/\a<c then φ a (e_ (nbG nd es (a:Int)) (i:Int)).toNat (e_ (nbG nd es (a:Int)) (k:Int)).toNat c else 0) (H4 _ _ _ _) hc)
   have h4:=hc _ (Bp (xs:=cd1 nd es a i k) (i:=(j:Int)) om om)
   unfold sq1
   by_cases q2:(a:Int)<e_ (nbG nd es (a:Int)) (i:Int)/\(a:Int)<e_ (cd1 nd es a i k) j
   ·rw [B_ q2,B_ om]
   rw [An q2,An om]
  rw [An q,An q]
 rw [h1,cr8 (sqH nd es φ a) (dg2 nd es (a:Int)) M]
 refine B1 _ λb _=>?_
 rw [←V4]
 refine B1 _ λd _=>?_
 unfold sqH
 rw [←V4,←V4,←V4]
 refine B1 _ λc _=>?_
 unfold cyc M3
 by_cases q1:(b:Int)∈nbG nd es (a:Int)
 ·by_cases q2:(d:Int)∈nbG nd es (a:Int)
  ·by_cases q3:b<d
   ·rw [B_ q1,B_ q2,B_ q3]
    have hm:=P1 hG (x:=(b:Int)) (y:=(d:Int)) (w:=(c:Int)) om
    by_cases q4:(c:Int)∈j3 nd es (b:Int) (d:Int)
    ·obtain ⟨m1,m2⟩:=hm.1 q4
     rw [B_ q4]
     simp [q1,q2,q3,m1,m2]
    rw [An q4]
    have hn:¬((c:Int)∈nbG nd es (b:Int)/\(c:Int)∈nbG nd es (d:Int)):=λh=>q4 (hm.2 h)
    rw [An]
    simp only [Hc,Gn]
    exact λh=>hn h.2.2
   rw [B_ q1,B_ q2,An q3,An<|by simp [q3]]
  rw [B_ q1,An q2,An<|by simp [q2]]
 rw [An q1,An<|by simp [q1]]
theorem fm9(M:s6 nd es):sqA nd es (λ_ _ _ _=>1) nd.toNat=J7 nd es:=by
 rw [dc8 _ M];rfl
def fu0(w a b d c:Nat):Int:=ind (decide (a=w))+ind (decide (b=w))+ind (decide (d=w))+ind (decide (c=w))
theorem du1(hG:s6 nd es){w:Nat}(M:w<nd.toNat):sqA nd es (fu0 w) nd.toNat=ah2 nd es w:=by
 unfold ah2
 rw [dc8 _ hG,cj9<|ag4 hG]
 have h1:∀a b d c:Nat,(if cyc (M3 nd es) a b d c=true then fu0 w a b d c else 0)=(if a=w then ind (cyc (M3 nd es) a b d c) else 0)+(if b=w then ind (cyc (M3 nd es) a b d c) else 0)+(if d=w then ind (cyc (M3 nd es) a b d c) else 0)+(if c=w then ind (cyc (M3 nd es) a b d c) else 0):=λa b d c=>by
  unfold fu0
  rw [E4,E4,E4,E4]
  cases cyc (M3 nd es) a b d c with
  |true=>rw [B_ rfl,cu1]
  |false=>rw [An dc,as3];simp
 have h2:(p9 nd.toNat λa=>p9 nd.toNat λb=>p9 nd.toNat λd=>p9 nd.toNat λc=>if cyc (M3 nd es) a b d c=true then fu0 w a b d c else 0)=p9 nd.toNat λa=>p9 nd.toNat λb=>p9 nd.toNat λd=>p9 nd.toNat λc=>(if a=w then ind (cyc (M3 nd es) a b d c) else 0)+(if b=w then ind (cyc (M3 nd es) a b d c) else 0)+(if d=w then ind (cyc (M3 nd es) a b d c) else 0)+(if c=w then ind (cyc (M3 nd es) a b d c) else 0):=
  B1 _ λa _=>B1 _ λb _=>B1 _ λd _=>B1 _ λc _=>h1 a b d c
 rw [h2]
 simp only [F9]
 congr 1
 ·congr 1
  ·congr 1
   ·rw [←aq5 M λa=>p9 nd.toNat λb=>p9 nd.toNat λd=>p9 nd.toNat λc=>ind<|cyc (M3 nd es) a b d c]
    refine B1 _ λa _=>?_
    rw [←V4];refine B1 _ λb _=>?_
    rw [←V4];refine B1 _ λd _=>?_
    rw [←V4]
   refine B1 _ λa _=>?_
   rw [←aq5 M λb=>p9 nd.toNat λd=>p9 nd.toNat λc=>ind<|cyc (M3 nd es) a b d c]
   refine B1 _ λb _=>?_
   rw [←V4];refine B1 _ λd _=>?_
   rw [←V4]
  refine B1 _ λa _=>B1 _ λb _=>?_
  rw [←aq5 M λd=>p9 nd.toNat λc=>ind<|cyc (M3 nd es) a b d c]
  refine B1 _ λd _=>?_
  rw [←V4]
 refine B1 _ λa _=>B1 _ λb _=>B1 _ λd _=>?_
 rw [←aq5 M λc=>ind<|cyc (M3 nd es) a b d c]
structure SqS (nd:Int) (m:Nat) (N:(Nat->Nat->Nat->Nat->Int)->Int) (n:Int) (xs ys:List Int):Prop where
 len:xs.length=nd.toNat
 dh5:ys.length=m
 cnt:n=N λ_ _ _ _=>1
 val:∀w:Nat,w<nd.toNat->e_ xs w=N (fu0 w)
 bx:∀x∈xs,0<=x/\x<=4*n
 bz:∀x∈ys,0<=x/\x<=4*n
variable {φ}{m:Nat}{N N':(Nat->Nat->Nat->Nat->Int)->Int}{n:Int}{xs ys:List Int}
theorem SqS.to(h:SqS nd m N n xs ys)(e:∀φ,N' φ=N φ):SqS nd m N' n xs ys:=⟨h.len,h.dh5,by rw [e];exact h.cnt,λw M=>by rw [e];exact h.val w M,h.bx,h.bz⟩
theorem SqS.zero:SqS nd m (sqT nd es 0 0 1 0) 0 (replicate nd.toNat (0:Int)) (replicate m (0:Int)):=⟨Fy,Fy,(fw9 _).symm,λw hw=>by rw [fw9,Ct _ w (by rw [Fy];exact hw),Lt],λx M=>by rw [(List.mem_replicate.1 M).2];omega,λx M=>by rw [(List.mem_replicate.1 M).2];omega⟩
theorem SqS.done(M:s6 nd es)(h:SqS nd m (sqT nd es nd.toNat 0 1 0) n xs ys):n=J7 nd es/\xs=r8 nd es/\ys.length=m:=⟨by rw [h.cnt,dc7,fm9 M],E6 (by rw [h.len,F7]) λi hi=>by
 rw [h.len] at hi
 rw [h.val i hi,dc7,du1 M hi,ab9 hi],h.dh5⟩
structure RdS (A xs0 ys0:List Int) (B:Int) (x:Nat) (xs ys:List Int):Prop where
 eq:xs=(A.take x).foldl (Y0 1) xs0
 dh5:ys.length=ys0.length
 bx:∀z∈xs,0<=z/\z<=B+(x:Int)
 bz:∀z∈ys,0<=z/\z<=B+(x:Int)
variable {A xs0 ys0:List Int}{B:Int}{x:Nat}
theorem RdS.zero(h1:∀z∈xs0,0<=z/\z<=B)(h2:∀z∈ys0,0<=z/\z<=B):RdS A xs0 ys0 B 0 xs0 ys0:=⟨by rw [Js];rfl,rfl,λz M=>by have:=h1 z M;omega,λz M=>by have:=h2 z M;omega⟩
theorem RdS.gk4(h:RdS A xs0 ys0 B x xs ys):xs.length=xs0.length:=by rw [h.eq,J3]
theorem fi8{B:Int}(h:∀z∈l,0<=z/\z<=B)(M:0<=w/\w<l.length):∀z∈List.set l w.toNat (e_ l w+1),0<=z/\z<=B+1:=λz hz=>by
 have h1:=h _ (Bp M.1 M.2)
 rcases Jq hz with q|q
 ·have:=h z q;omega
 omega
theorem RdS.step(h:RdS A xs0 ys0 B x xs ys)(hx:x<A.length)(hw:0<=e_ A x/\e_ A x<xs.length)(hy:0<=y/\y<ys.length):RdS A xs0 ys0 B (x+1) (List.set xs (e_ A x).toNat (e_ xs (e_ A x)+1)) (List.set ys y.toNat (e_ ys y+1)):=
 ⟨by rw [Ca A x hx,Hd,←h.eq];rfl,by rw [Fo];exact h.dh5,λz M=>by have:=fi8 h.bx hw z M;omega,λz M=>by have:=fi8 h.bz hy z M;omega⟩
theorem RdS.bdx(h:RdS A xs0 ys0 B x xs ys)(M:0<=w/\w<xs.length):0<=e_ xs w/\e_ xs w<=B+x:=h.bx _ (Bp M.1 M.2)
theorem RdS.bdz(h:RdS A xs0 ys0 B x xs ys)(M:0<=w/\w<ys.length):0<=e_ ys w/\e_ ys w<=B+x:=h.bz _ (Bp M.1 M.2)
theorem SqS.bump(h:SqS nd m N n xs0 ys0){a:Int}(hr:(0<=a/\a<nd)/\(0<=b/\b<nd)/\(0<=d/\d<nd)/\0<=c/\c<nd)(hN:∀φ,N' φ=N φ+φ a.toNat b.toNat d.toNat c.toNat)(hR:RdS [a,b,c,d] xs0 ys0 (4*n) 4 xs ys):SqS nd m N' (n+1) xs ys:=by
 have hl:=h.len
 refine ⟨by rw [hR.gk4,hl],by rw [hR.dh5,h.dh5],by rw [hN,←h.cnt],λw hw=>?_,λz M=>by have:=hR.bx z M;omega,λz M=>by have:=hR.bz z M;omega⟩
 rw [hN,←h.val w hw,hR.eq,show List.take 4 [a,b,c,d]=[a,b,c,d] from rfl,ac8 _ _ (λz M=>by simp only [Fw,Kb,Mo] at M;rcases M with rfl|rfl|rfl|rfl<;>omega) _ om]
 have e:∀z:Int,0<=z->ind (decide<|z=(w:Int))=ind (decide<|z.toNat=w):=λz M=>by congr 1;rw [Fs];omega
 simp only [Hg,Kq,Jb,List.sum_nil,Int.one_mul]
 rw [e a hr.1.1,e b hr.2.1.1,e c hr.2.2.2.1,e d hr.2.2.1.1]
 unfold fu0
 omega
theorem au1.inn(h:au1 nd es u v y)(hG:s6 nd es)(M:j4 u v∈es):0<=y/\y<es.length:=by
 rcases h with ⟨_,j,rfl,h1,_⟩|⟨_,h1|h1⟩
 ·omega
 ·exact absurd (s4.2 hG) h1
 exact absurd M h1
theorem fx2(hG:s6 nd es){a:Int}(h1:b∈nbG nd es a)(h2:c∈nbG nd es b)(h3:c∈nbG nd es d)(h4:d∈nbG nd es a):∀x:Nat,x<4->(0<=e_ [a,b,c,d] (x:Int)/\e_ [a,b,c,d] (x:Int)<nd)/\j4 (e_ [a,b,c,d] (x:Int)) (e_ [a,b,c,d] (Int.tmod ((x:Int)+1) 4))∈es:=by
 have M:∀{x y:Int},y∈nbG nd es x->j4 x y∈es:=fun {x y} h=>by
  have hr:=N3 hG h
  rcases (ae1 hG).1 h with q|q
  ·have:=hG.Z1 _ q;simp only at this;unfold j4;rw [An (show ¬y<x by omega),B_ (show x<y by omega)];exact q
  have:=hG.Z1 _ q;simp only at this;unfold j4;rw [B_ (show y<x by omega),An (show ¬x<y by omega)];exact q
 have r1:=N3 hG h1
 have r2:=N3 hG h3
 intro x hx
 rcases (show x=0\/x=1\/x=2\/x=3 by omega) with rfl|rfl|rfl|rfl
 ·exact ⟨r1.1,M h1⟩
 ·exact ⟨r1.2.1,M h2⟩
 ·exact ⟨r2.2.1,M<|ag9 hG h3⟩
 exact ⟨r2.1,M<|ag9 hG h4⟩
end
theorem ca9{nd:Int}{es:List Pt}(hl:Sl κ I va es)(hG:s6 nd es):eu prog κ 55 [.agg #[e7 nd,va]] I (λr J=>∃(a:Option Addr) (c:Nat) (b:Option Addr) (d:Nat) (ys:List Int),r = .tuple #[.slice a (r8 nd es).length c,.slice b es.length d,e7 (J7 nd es)]/\ys.length=es.length/\J=vc 3 (.slice b es.length d) ys::vk 3 a c (r8 nd es)::I):=by
 have bo:=hG.rng
 have cf:=q9 hG
 refine Ce1 Tryz.func55 C C ?_
 refine Ak<|Ge1 (Au (cs:=[_,_]) C C C) λb1=>Ga C<|Ga C<|Ga C<|Ar<|W.cut (σ:=(Option Addr)×Nat×(Option Addr)×Nat) (λs=>([(1,pt b1),(5,.slice s.1 nd.toNat s.2.1),(6,.slice s.2.2.1 es.length s.2.2.2),(7,e7 0)]:Env)) (λs=>vc 3 (.slice s.1 nd.toNat s.2.1) ((replicate nd.toNat (0:Int)))::vc 3 (.slice s.2.2.1 es.length s.2.2.2) ((replicate es.length (0:Int)))::e8 b1 [e7 nd,va] 38::I) (λs=>True) ?_ ?_
 ·refine Ba mixed (Ee 10<|Dr 0 C (Af ag2 C)<|Dr 1 C (Bd ef) ?_)
  refine Dr 3 C (Af K4 C)<|Dr 4 C (Bd an1) ?_
  refine Dr 5 C (E1 (α:=Pt) (xs:=es) Ay C<|A4 hl)<|C9 (rs:=[2,6]) kr C C<|Ej ?_<|Do ?_
  ·refine Se2 C (Dk (α:=Int) (n:=nd.toNat) Ab ef C C C om om dc C) λa6 bh=>?_
   refine Dr 7 C (Bh C)<|Ds1 6<|Se2 C (Dk (α:=Int) (n:=es.length) Ab ef C C C om om dc C) λbj a9=>?_
   exact Dr 8 C (Bh C)<|Dr 9 C (Bh C)<|Dz<|Dm ((a6),(bh),(bj),(a9)) trivial (hI:=by (try dsimp only);exact (by simp only [Fy];first|exact Az|exact Ai))
  refine Se2 C (Dk (α:=Int) (n:=es.length) Ab ef C C C om om dc C) λa1 a8=>?_
  refine Ds1 2<|Se2 C (Dk (α:=Int) (n:=nd.toNat) Ab ef C C C om om dc C) λa7 bb=>?_
  exact Dr 7 C (Bh C)<|Dr 8 C (Bh C)<|Dr 9 C (Bh C)<|Dz<|Dm ((a7),(bb),(a1),(a8)) trivial (hI:=by (try dsimp only);exact (by simp only [Fy];first|exact Az|exact Ai))
 rintro ⟨na,nc,ea,ec⟩ hp
 refine Ax<|Ak<|Ga C<|Ar<|A7<|B9 (σ:=Nat×Int×(List Int)×(List Int)) (λs=>([(1,pt b1),(5,.slice na nd.toNat nc),(6,.slice ea es.length ec),(7,e7<|s.2.1),(8,e7 ((s.1:Nat):Int))]:Env)) (λs=>vc 3 (.slice na nd.toNat nc) (s.2.2.1)::vc 3 (.slice ea es.length ec) (s.2.2.2)::e8 b1 [e7 nd,va] 38::I) (λs=>((s.1:Int)<=nd)/\(SqS nd es.length (sqT nd es s.1 0 1 0) s.2.1 s.2.2.1 s.2.2.2)) (λs=>nd.toNat - s.1) (0,0,(replicate nd.toNat (0:Int)),(replicate es.length (0:Int))) ⟨om,SqS.zero⟩ (cx2<|Aa C<|Aa Co<|Aa Co Bb) Az ?_
 rintro ⟨a,n0,xs0,ys0⟩ hp
 dsimp only at hp ⊢
 obtain ⟨cd,h0⟩:=hp
 have br:=h0.len
 have b5:=h0.dh5
 have bt:=h0.cnt
 have cq:=J9 nd es (a:Int)
 refine Ax<|Ak<|Gm C<|Gf ag2 C<|Gl ef ?_
 refine Gr (Bl C C)<|Ar<|Am C (λbg=>?_)<|λbg=>?_
 ·refine Bc (Ao<|Ax<|A7<|Ak<|Gl2 J8 ?_)
  refine Gm C<|G.e (Ac c_ C C<|ae9 (nd:=nd) (A4 hl) (a:Int) om) ?_
  rintro _ _ ⟨_,_,⟨aa,M,rfl,rfl⟩,rfl,rfl⟩
  have ba:=J9 nd es (a:Int)
  refine Ga C<|Ar<|Ak<|Ga C<|Ar<|A1 (S7 10 9 1 5 6 7 8)<|A7<|B9 (σ:=Nat×Int×(List Int)×(List Int)) (λs=>([(1,pt b1),(5,.slice na nd.toNat nc),(6,.slice ea es.length ec),(7,e7<|s.2.1),(8,e7<|(a:Int)),(9,.slice aa (nbG nd es (a:Int)).length M),(10,e7 ((s.1:Nat):Int))]:Env)) (λs=>vk 3 aa M (nbG nd es (a:Int))::vc 3 (.slice na nd.toNat nc) (s.2.2.1)::vc 3 (.slice ea es.length ec) (s.2.2.2)::e8 b1 [e7 nd,va] 38::I) (λs=>(s.1<=(nbG nd es (a:Int)).length)/\(SqS nd es.length (sqT nd es a s.1 (s.1+1) 0) s.2.1 s.2.2.1 s.2.2.2)) (λs=>(nbG nd es (a:Int)).length - s.1) (0,n0,xs0,ys0) ⟨om,(h0)⟩ (cx2<|Aa C<|Aa Co<|cx2<|Aa Co Bb) Az ?_
  rintro ⟨i,n1,ay,ap⟩ hp
  dsimp only at hp ⊢
  obtain ⟨b8,h1⟩:=hp
  have b2:=h1.len
  have b4:=h1.dh5
  have bp:=h1.cnt
  refine Ax<|Ak<|Gm C<|Gm C<|Gr (Bk Ab C)<|Gr (Bl C C)<|Ar<|Am C (λbc=>?_)<|λbc=>?_
  ·refine Bc (Ao<|Ax<|A7<|Ak<|Gm C<|Gr (Rad C C)<|Ga C<|Ar<|A1 (S8 11 1 5 6 7 8 9 10)<|A7<|B9 (σ:=Nat×Int×(List Int)×(List Int)) (λs=>([(1,pt b1),(5,.slice na nd.toNat nc),(6,.slice ea es.length ec),(7,e7<|s.2.1),(8,e7<|(a:Int)),(9,.slice aa (nbG nd es (a:Int)).length M),(10,e7<|(i:Int)),(11,e7 ((s.1:Nat):Int))]:Env)) (λs=>vk 3 aa M (nbG nd es (a:Int))::vc 3 (.slice na nd.toNat nc) (s.2.2.1)::vc 3 (.slice ea es.length ec) (s.2.2.2)::e8 b1 [e7 nd,va] 38::I) (λs=>(i+1<=s.1/\s.1<=(nbG nd es (a:Int)).length)/\(SqS nd es.length (sqT nd es a i s.1 0) s.2.1 s.2.2.1 s.2.2.2)) (λs=>(nbG nd es (a:Int)).length - s.1) ((i+1),n1,ay,ap) ⟨om,(h1)⟩ (cx2<|Aa C<|Aa Co<|cx2<|Aa C<|Aa Co Bb) Az ?_)
   rintro ⟨k,n2,av,ax⟩ hp
   dsimp only at hp ⊢
   obtain ⟨cj,h2⟩:=hp
   have bu:=h2.len
   have bw:=h2.dh5
   have b3:=h2.cnt
   refine Ax<|Ak<|Gm C<|Gm C<|Gr (Bk Ab C)<|Gr (Bl C C)<|Ar<|Am C (λbn=>?_)<|λbn=>?_
   ·refine Bc (Ao<|Ax<|A7<|Ax<|Ba mixed<|Ee 11<|Dr 0 C (Bm (vs:=[_,_]) J8) ?_)
    refine Dr 1 C (Aq C)<|Dr 2 C (Aq C)<|Dr 3 C (A2 (α:=Int) (xs:=nbG nd es (a:Int)) Ab ef C C A5 om om)<|Dr 4 C (B6 (xs:=nbG nd es (a:Int)) ef C A5 om om)<|Dr 5 C (Aq C)<|Dr 6 C (Aq C)<|Dr 7 C (A2 (α:=Int) (xs:=nbG nd es (a:Int)) Ab ef C C A5 om om)<|Dr 8 C (B6 (xs:=nbG nd es (a:Int)) ef C A5 om om)<|Ds1 9<|Sc2 C (Ac c_ C C<|ag7 (nd:=nd) (A4 hl) (e_ (nbG nd es (a:Int)) (i:Int)) (e_ (nbG nd es (a:Int)) (k:Int)) om) λah ae=>?_
    refine Dr 10 C (Bh C)<|Dz<|Ao<|A1 (S9 12 1 5 6 7 8 9 10 11)<|Ak<|Ga C<|Ar<|A7<|B9 (σ:=Nat×Int×(List Int)×(List Int)) (λs=>([(1,pt b1),(5,.slice na nd.toNat nc),(6,.slice ea es.length ec),(7,e7<|s.2.1),(8,e7<|(a:Int)),(9,.slice aa (nbG nd es (a:Int)).length M),(10,e7<|(i:Int)),(11,e7<|(k:Int)),(12,.slice ah (j3 nd es (e_ (nbG nd es (a:Int)) (i:Int))<|e_ (nbG nd es (a:Int)) (k:Int)).length ae),(13,e7 ((s.1:Nat):Int))]:Env)) (λs=>vk 3 ah ae (j3 nd es (e_ (nbG nd es (a:Int)) (i:Int))<|e_ (nbG nd es (a:Int)) (k:Int))::vk 3 aa M (nbG nd es (a:Int))::vc 3 (.slice na nd.toNat nc) (s.2.2.1)::vc 3 (.slice ea es.length ec) (s.2.2.2)::e8 b1 [e7 nd,va] 38::I) (λs=>(s.1<=(j3 nd es (e_ (nbG nd es (a:Int)) (i:Int))<|e_ (nbG nd es (a:Int)) (k:Int)).length)/\(SqS nd es.length (sqT nd es a i k s.1) s.2.1 s.2.2.1 s.2.2.2)) (λs=>(j3 nd es (e_ (nbG nd es (a:Int)) (i:Int))<|e_ (nbG nd es (a:Int)) (k:Int)).length - s.1) (0,n2,av,ax) ⟨om,(h2)⟩ (cx2<|Aa C<|Aa Co<|cx4<|Aa C<|Aa Co Bb) Az ?_
    rintro ⟨j,n3,aj,ai⟩ hp
    dsimp only at hp ⊢
    obtain ⟨ce,h3⟩:=hp
    have bv:=h3.len
    have bq:=h3.dh5
    have b6:=h3.cnt
    have cc:(j3 nd es (e_ (nbG nd es (a:Int)) (i:Int))<|e_ (nbG nd es (a:Int)) (k:Int)).length<=64:=M2 _ _ _ _
    have ch:=fw8 (nd:=nd) (es:=es) (a:=a) (i:=i) (k:=k) (j:=j) om om om om
    refine Ax<|Ak<|Gm C<|Gm C<|Gr (Bk Ab C)<|Gr (Bl C C)<|Ar<|A1 (S11 59 1 5 6 7 8 9 10 11 12 13)<|Am C (λa5=>?_)<|λa5=>?_
    ·refine Bc (Ao<|Ax<|A7<|Ak<|Gm C<|Gm C<|Gr (A2 (α:=Int) (xs:=nbG nd es (a:Int)) Ab ef C C A5 om om)<|Gr (B6 (xs:=nbG nd es (a:Int)) ef C A5 om om)<|Gm C<|Gr (Ed C C)<|Gm C<|A3 (d:=68) C (λbf=>?_)<|λbf=>?_)
     ·refine e9 (Aq C) (e9 (Aq C)<|e9 (A2 (α:=Int) (xs:=j3 nd es (e_ (nbG nd es (a:Int)) (i:Int)) (e_ (nbG nd es (a:Int)) (k:Int))) Ab ef C C A5 om om)<|e9 (B6 (xs:=j3 nd es (e_ (nbG nd es (a:Int)) (i:Int)) (e_ (nbG nd es (a:Int)) (k:Int))) ef C A5 om om)<|e9 (Aq C)<|e9 (Ed C C)<|Gr (Bz C C)<|Ar<|A1 (S11 75 1 5 6 7 8 9 10 11 12 13)<|Am C (λbm=>?_)<|λbm=>?_)
      ·refine Ak (Gm C ?_)
       have au:e_ (nbG nd es (a:Int)) (i:Int)∈(nbG nd es (a:Int)):=Bp om om
       have aq:e_ (nbG nd es (a:Int)) (k:Int)∈(nbG nd es (a:Int)):=Bp om om
       have az:e_ (j3 nd es (e_ (nbG nd es (a:Int)) (i:Int))<|e_ (nbG nd es (a:Int)) (k:Int)) (j:Int)∈(j3 nd es (e_ (nbG nd es (a:Int)) (i:Int))<|e_ (nbG nd es (a:Int)) (k:Int)):=Bp om om
       have ca:=(do0 (dg2 nd es (a:Int)) (i:=i) (k:=k) om om).1 om
       have an:=(P1 hG (show e_ (nbG nd es (a:Int)) (i:Int)≠e_ (nbG nd es (a:Int)) (k:Int) by omega)).1 az
       have aw:=fx2 hG au an.1 an.2 aq
       have cm:=N3 hG au
       have b7:=N3 hG aq
       have cn:=N3 hG an.1
       refine Gr (Rad C C)<|Ga C<|Ar<|A1 (S10 7 1 5 6 8 9 10 11 12 13)<|Ax<|Ba mixed<|Ee 15<|Dr 0 C (Aq C)<|Dr 1 C (Aq C)<|Dr 2 C (Aq C)<|Dr 3 C (A2 (α:=Int) (xs:=nbG nd es (a:Int)) Ab ef C C A5 om om)<|Dr 4 C (B6 (xs:=nbG nd es (a:Int)) ef C A5 om om)<|Dr 5 C (Aq C)<|Dr 6 C (Aq C)<|Dr 7 C (A2 (α:=Int) (xs:=j3 nd es (e_ (nbG nd es (a:Int)) (i:Int)) (e_ (nbG nd es (a:Int)) (k:Int))) Ab ef C C A5 om om)<|Dr 8 C (B6 (xs:=j3 nd es (e_ (nbG nd es (a:Int)) (i:Int)) (e_ (nbG nd es (a:Int)) (k:Int))) ef C A5 om om)<|Dr 9 C (Aq C)<|Dr 10 C (Aq C)<|Dr 11 C (A2 (α:=Int) (xs:=nbG nd es (a:Int)) Ab ef C C A5 om om)<|Dr 12 C (B6 (xs:=nbG nd es (a:Int)) ef C A5 om om)<|Dr 13 C (Eg (cells:=[_,_,_,_]) bv4 C0 ef C C)<|Ds1 14<|Se1 C (Aj bv4 C) λar=>?_
       refine Cg kr ?_
       refine Ae 15 C (C8 bv4) ?_
       rintro _ _ ⟨rfl,rfl⟩
       refine Ch kr ?_
       refine Ao<|A1 (S11 14 7 1 5 6 8 9 10 11 12 13)<|Ak<|Ga C<|Ar<|A7<|B9 (σ:=Nat×(List Int)×(List Int)) (λs=>([(1,pt b1),(5,.slice na nd.toNat nc),(6,.slice ea es.length ec),(7,e7<|n3+1),(8,e7<|(a:Int)),(9,.slice aa (nbG nd es (a:Int)).length M),(10,e7<|(i:Int)),(11,e7<|(k:Int)),(12,.slice ah (j3 nd es (e_ (nbG nd es (a:Int)) (i:Int))<|e_ (nbG nd es (a:Int)) (k:Int)).length ae),(13,e7<|(j:Int)),(14,pt ar),(15,e7 ((s.1:Nat):Int))]:Env)) (λs=>e8 ar (cells ([(a:Int),e_ (nbG nd es (a:Int)) (i:Int),e_ (j3 nd es (e_ (nbG nd es (a:Int)) (i:Int))<|e_ (nbG nd es (a:Int)) (k:Int)) (j:Int),e_ (nbG nd es (a:Int)) (k:Int)]:List Int)) 155::vk 3 ah ae (j3 nd es (e_ (nbG nd es (a:Int)) (i:Int))<|e_ (nbG nd es (a:Int)) (k:Int))::vk 3 aa M (nbG nd es (a:Int))::vc 3 (.slice na nd.toNat nc) (s.2.1)::vc 3 (.slice ea es.length ec) (s.2.2)::e8 b1 [e7 nd,va] 38::I) (λs=>(s.1<=4)/\(RdS [(a:Int),e_ (nbG nd es (a:Int)) (i:Int),e_ (j3 nd es (e_ (nbG nd es (a:Int)) (i:Int))<|e_ (nbG nd es (a:Int)) (k:Int)) (j:Int),e_ (nbG nd es (a:Int)) (k:Int)] aj ai (4*n3) s.1 s.2.1 s.2.2)) (λs=>4 - s.1) (0,aj,ai) ⟨om,(RdS.zero h3.bx h3.bz)⟩ (cx4<|cx4<|cx2<|Aa C<|Aa Co Bb) Az ?_
       rintro ⟨x,ad,ab⟩ hp
       dsimp only at hp ⊢
       obtain ⟨ck,h4⟩:=hp
       have ci:=h4.gk4
       have co:=h4.dh5
       have cp:([(a:Int),e_ (nbG nd es (a:Int)) (i:Int),e_ (j3 nd es (e_ (nbG nd es (a:Int)) (i:Int))<|e_ (nbG nd es (a:Int)) (k:Int)) (j:Int),e_ (nbG nd es (a:Int)) (k:Int)]:List Int).length=4:=rfl
       refine Ax<|Ak<|Gm C<|Gr (Bl C C)<|Ar<|A1 (S13 93 1 5 6 7 8 9 10 11 12 13 14 15)<|Am C (λbi=>?_)<|λbi=>?_
       ·refine Bc (Ao<|Ax<|A7<|Ak<|Gm C ?_)
        have bk:=aw x om
        have cr:=h4.bdx (w:=e_ [(a:Int),e_ (nbG nd es (a:Int)) (i:Int),e_ (j3 nd es (e_ (nbG nd es (a:Int)) (i:Int))<|e_ (nbG nd es (a:Int)) (k:Int)) (j:Int),e_ (nbG nd es (a:Int)) (k:Int)] (x:Int)) om
        have cb:0<=Int.tmod ((x:Int)+1) 4/\Int.tmod ((x:Int)+1) 4<4:=by rw [Int.tmod_eq_emod_of_nonneg om];omega
        refine Gm C<|Gr (B5 C0 ef C C om om)<|Gr (j8.gd5 (xs:=[(a:Int),e_ (nbG nd es (a:Int)) (i:Int),e_ (j3 nd es (e_ (nbG nd es (a:Int)) (i:Int))<|e_ (nbG nd es (a:Int)) (k:Int)) (j:Int),e_ (nbG nd es (a:Int)) (k:Int)]) ef C (Dl mm) om om)<|Gr (A2 (α:=Int) (xs:=ad) Ab ef C C A5 om om)<|Gr (B6 (xs:=ad) ef C A5 om om)<|Gr (Rad C C)<|Gr (A2 (α:=Int) (xs:=ad) Ab ef C C A5 om om)<|Ge0 (Cw (α:=Int) (xs:=ad) (e:=3) (new:=(e_ ad<|e_ ([(a:Int),e_ (nbG nd es (a:Int)) (i:Int),e_ (j3 nd es (e_ (nbG nd es (a:Int)) (i:Int))<|e_ (nbG nd es (a:Int)) (k:Int)) (j:Int),e_ (nbG nd es (a:Int)) (k:Int)]) (x:Int))+1) ef C C C om om am) ?_
        refine Ar<|A1 (S12 1 5 6 7 8 9 10 11 12 13 14 15 C C C C C C C C C C C C)<|Ba mixed<|Ee 15<|Dr 0 C (Aq C)<|Dr 1 C (Bm (vs:=[_,_]) J8) ?_
        refine Dr 2 C (Aq C)<|Dr 3 C (B5 C0 ef C C om om)<|Dr 4 C (j8.gd5 (xs:=[(a:Int),e_ (nbG nd es (a:Int)) (i:Int),e_ (j3 nd es (e_ (nbG nd es (a:Int)) (i:Int))<|e_ (nbG nd es (a:Int)) (k:Int)) (j:Int),e_ (nbG nd es (a:Int)) (k:Int)]) ef C (Dl mm) om om)<|Dr 5 C (Aq C)<|Dr 6 C (Rad C C)<|Dr 7 C (j8.rem C C om)<|Dr 8 C (B5 C0 ef C C om om)<|Dr 9 C (j8.gd5 (xs:=[(a:Int),e_ (nbG nd es (a:Int)) (i:Int),e_ (j3 nd es (e_ (nbG nd es (a:Int)) (i:Int))<|e_ (nbG nd es (a:Int)) (k:Int)) (j:Int),e_ (nbG nd es (a:Int)) (k:Int)]) ef C (Dl mm) om om)<|Ds1 10<|Se C (Ac c_ C C<|ax5 (nd:=nd) (A4 hl) (e_ ([(a:Int),e_ (nbG nd es (a:Int)) (i:Int),e_ (j3 nd es (e_ (nbG nd es (a:Int)) (i:Int))<|e_ (nbG nd es (a:Int)) (k:Int)) (j:Int),e_ (nbG nd es (a:Int)) (k:Int)]) (x:Int))<|e_ ([(a:Int),e_ (nbG nd es (a:Int)) (i:Int),e_ (j3 nd es (e_ (nbG nd es (a:Int)) (i:Int))<|e_ (nbG nd es (a:Int)) (k:Int)) (j:Int),e_ (nbG nd es (a:Int)) (k:Int)])<|Int.tmod ((x:Int)+1) 4) ?_
        rintro _ _ ⟨_,_,⟨ak,rfl,ao,rfl⟩,rfl,rfl⟩
        refine ⟨Ai,?_⟩
        have b9:=ao.inn hG bk.2
        have cg:=h4.bdz (w:=ak) om
        refine Dr 11 C (A2 (α:=Int) (xs:=ab) Ab ef C C A5 om om)<|Dr 12 C (B6 (xs:=ab) ef C A5 om om)<|Dr 13 C (Rad C C)<|Dr 14 C (A2 (α:=Int) (xs:=ab) Ab ef C C A5 om om)<|Cg kr ?_
        refine Ae 15 C (Cw (α:=Int) (xs:=ab) (e:=3) (new:=(e_ ab ak)+1) ef C C C om om am) ?_
        rintro _ _ ⟨rfl,rfl⟩
        refine Ch kr ?_
        exact Av<|Ao<|A1 (S12 1 5 6 7 8 9 10 11 12 13 14 15 C C C C C C C C C C C C)<|A6<|Gm C<|Gr (Rad C C)<|Ga C<|Bq<|Bt ((x+1),(List.set ad (e_ ([(a:Int),e_ (nbG nd es (a:Int)) (i:Int),e_ (j3 nd es (e_ (nbG nd es (a:Int)) (i:Int))<|e_ (nbG nd es (a:Int)) (k:Int)) (j:Int),e_ (nbG nd es (a:Int)) (k:Int)]) (x:Int)).toNat ((e_ ad<|e_ ([(a:Int),e_ (nbG nd es (a:Int)) (i:Int),e_ (j3 nd es (e_ (nbG nd es (a:Int)) (i:Int))<|e_ (nbG nd es (a:Int)) (k:Int)) (j:Int),e_ (nbG nd es (a:Int)) (k:Int)]) (x:Int))+1)),(List.set ab (ak).toNat ((e_ ab ak)+1)))<|by dsimp only;exact ⟨om,(h4.step (by show x<4;omega) om om)⟩
       exact Ci<|Aw<|Aw<|Bi<|Av<|Ao<|A6<|Gm C<|Gr (Rad C C)<|Ga C<|Bq<|Bt ((j+1),(n3+1),(ad),(ab))<|by dsimp only;exact ⟨om,(h3.bump (a:=(a:Int)) (b:=e_ (nbG nd es (a:Int)) (i:Int)) (d:=e_ (nbG nd es (a:Int)) (k:Int)) (c:=e_ (j3 nd es (e_ (nbG nd es (a:Int)) (i:Int))<|e_ (nbG nd es (a:Int)) (k:Int)) (j:Int)) ⟨by omega,by omega,by omega,by omega⟩ (λφ=>fm8 φ ⟨by first|assumption|omega,by first|assumption|omega⟩)<|by rw [show (4:Nat)=x by omega];exact h4)⟩
      exact Bc<|Av<|Ao<|A6<|Gm C<|Gr (Rad C C)<|Ga C<|Bq<|Bt ((j+1),(n3),(aj),(ai))<|by dsimp only;exact ⟨om,((h3.to λφ=>fi7 φ<|by unfold cd1;omega))⟩
     exact eb<|eb<|eb<|eb<|eb<|eb<|Gr (Bo C C)<|Ar<|A1 (S11 75 1 5 6 7 8 9 10 11 12 13)<|W.no C<|Bc<|Av<|Ao<|A6<|Gm C<|Gr (Rad C C)<|Ga C<|Bq<|Bt ((j+1),(n3),(aj),(ai))<|by dsimp only;exact ⟨om,((h3.to λφ=>fi7 φ<|by unfold cd1;omega))⟩
    exact Ci<|Aw<|Aw<|Bi<|Av<|Ao<|A6<|Gm C<|Gr (Rad C C)<|Ga C<|Bq<|Bt ((k+1),(n3),(aj),(ai))<|by dsimp only;exact ⟨om,((h3.to λφ=>by rw [show j=(j3 nd es (e_ (nbG nd es (a:Int)) (i:Int))<|e_ (nbG nd es (a:Int)) (k:Int)).length by omega];exact ge6 φ om))⟩
   exact Ci<|Aw<|Aw<|Bi<|Av<|Ao<|A6<|Gm C<|Gr (Rad C C)<|Ga C<|Bq<|Bt ((i+1),(n2),(av),(ax))<|by dsimp only;exact ⟨om,((h2.to λφ=>by rw [show k=(nbG nd es (a:Int)).length by omega];exact ge7 φ a i))⟩
  exact Ci<|Aw<|Aw<|Bi<|Av<|Ao<|A6<|Gm C<|Gr (Rad C C)<|Ga C<|Bq<|Bt ((a+1),(n1),(ay),(ap))<|by dsimp only;exact ⟨om,((h1.to λφ=>by rw [show i=(nbG nd es (a:Int)).length by omega];exact ge8 φ a))⟩
 refine Ci<|Aw<|Aw<|Bi<|Ao<|Ak<|Gm C<|Gm C<|Gm C<|Ga C<|Ga C<|Ga C<|Ar<|A1 (S3 4 3 2)<|B3 ?_
 have a4:a=nd.toNat:=by omega
 rw [a4] at h0
 obtain ⟨a3,be,a0⟩:=h0.done hG
 exact V.gc9 C C C C (vc 3 (.slice ea es.length ec) ys0::vk 3 na nc (r8 nd es)::I) (by unfold vk;rw [F7,←be];exact Az) ⟨na,nc,ea,ec,ys0,by rw [F7,←a3],a0,rfl⟩
theorem bd8(nd:Int)(es:List Pt)(v:Int):(nbG nd es v).Pairwise (λM x1:Int=>M<x1):=by
 unfold nbG
 split
 ·exact List.Pairwise.nil
 exact R9 _
theorem ay5{nd:Int}{es:List Pt}(h:u≠v):M0 (nbG nd es u) (nbG nd es v)=j3 nd es u v:=by
 unfold j3
 rw [An h]
 refine as2.uniq ((bd8 nd es u).sublist He) ?_ λx=>?_
 ·unfold Z9;exact (R9 _).sublist He
 rw [T1];unfold M0;rw [Gg,Gn]
theorem bo3{a0 b0:Option Addr}{n0 m0 c0 d0:Nat}{xs ys:List Int}(hn:n0=xs.length)(aa:m0=ys.length)(hl:Sl κ I (.slice a0 n0 c0) xs)(hm:Sl κ I (.slice b0 m0 d0) ys)(hx:xs.Pairwise (λx0 M:Int=>x0<M))(hy:ys.Pairwise (λx0 M:Int=>x0<M))(hb:xs.length<=100000):eu prog κ 133 [.slice a0 n0 c0,.slice b0 m0 d0] I λr J=>∃a c,r = .slice a (M0 xs ys).length c/\J=vk 3 a c (M0 xs ys)::I:=by
 subst hn aa
 exact do8 hl hm hx hy hb
section
variable {nd:Int}{es:List Pt}
def trF(nd:Int)(es:List Pt)(xs:List Int)(p:Pt):List Int:=(j3 nd es p.u p.v).foldl (Y0 1) xs
def trC(nd:Int)(es:List Pt)(k:Nat):List Int:=(es.take k).foldl (trF nd es) (replicate nd.toNat 0)
theorem cj3(h:k<es.length):trC nd es (k+1)=(j3 nd es (e_ es k).u (e_ es k).v).foldl (Y0 1) (trC nd es k):=by
 unfold trC;rw [Ca es k h,Hd];rfl
theorem dc0(xs:List Int)(p:Pt):(trF nd es xs p).length=xs.length:=J3 _ _
theorem cd7(M:s6 nd es){x:Int}(h0:0<=x):∀(l:List Pt) (xs:List Int),(xs.length:Int)=nd->(l.foldl (trF nd es) xs).length=xs.length/\e_ (l.foldl (trF nd es) xs) x=e_ xs x+(l.map λp=>ind (decide (x∈j3 nd es p.u p.v))).sum
 |[],xs,_=>⟨rfl,by simp⟩
 |p::l,xs,hl=>by
  obtain ⟨h1,h2⟩:=cd7 M h0 l (trF nd es xs p) (by rw [dc0];exact hl)
  rw [Hy,h1,h2,dc0]
  refine ⟨rfl,?_⟩
  have h3:e_ (trF nd es xs p) x=e_ xs x+ind (decide<|x∈j3 nd es p.u p.v):=by
   unfold trF
   rw [ac8 _ _ (λw hw=>by have:=Z2 M hw;omega) x h0,M1<|H4 nd es p.u p.v,Int.one_mul,E4]
  rw [h3,Hg,Jb];omega
theorem dc1(M:s6 nd es):trC nd es es.length=H3 nd es:=by
 have hr:=M.rng
 have hz:((replicate nd.toNat (0:Int)).length:Int)=nd:=by rw [Fy];omega
 have hL:(trC nd es es.length).length=nd.toNat:=by
  unfold trC;rw [(cd7 M (Hl 0) _ _ hz).1,Fy]
 refine E6 (by rw [hL,G8]) λi hi=>?_
 rw [hL] at hi
 rw [an8 hi]
 unfold trC ds7
 rw [Hb,(cd7 M om _ _ hz).2,Ct _ i<|by rw [Fy];exact hi,Lt,Mm]
end
theorem bo5{nd:Int}{es:List Pt}(hl:Sl κ I va es)(hG:s6 nd es):eu prog κ 87 [.agg #[e7 nd,va]] I (λr J=>∃a c,r = .tuple #[e7 (V7 nd es / 3),.slice a (H3 nd es).length c]/\J=vk 3 a c (H3 nd es)::I):=by
 have a9:=hG.rng
 have bb:=q9 hG
 have bc:=bp3 hG
 refine Ce1 Tryz.func87 C C ?_
 refine Ak<|Ge1 (Au (cs:=[_,_]) C C C) λb1=>Ga C<|Ga C<|Ar<|Ak<|Gl2 J8 ?_
 refine G.e (Ac c_ C C<|cq5 (nd:=nd) (A4 hl) hG) ?_
 rintro _ _ ⟨_,_,⟨ah,ae,rs,aj,rfl,ai,rfl⟩,rfl,rfl⟩
 refine Dq (J:=vk 22 ah ae rs::e8 b1 [e7 nd,va] 38::(ap4 3 aj++I)) (Cj<|List.Perm.cons _<|C1 (A:=ap4 3 aj) (L:=[e8 b1 [e7 nd,va] 38]) (T:=I)) ?_
 have ba:=ai.len
 refine Ga C<|Ar<|Ax<|Ba mixed<|Ee 5<|Dr 0 C (Af ag2 C)<|Dr 1 C (Bd ef) ?_
 refine Dr 3 C (Bh C)<|Ds1 2<|Se2 C (Dk (α:=Int) (n:=nd.toNat) Ab ef C C C om om dc C) λab ad=>?_
 refine Dr 4 C (Bh C)<|Dz<|Ao<|Ax<|Ak<|Gf K4 C<|Gl an1 ?_
 refine Gr (E1 (α:=Pt) (xs:=es) Ay C<|A4 hl)<|Gm C<|Ar<|A1 (S6 19 18 17 6 5 4)<|A7<|B9 (σ:=Nat×(List Int)×Int) (λs=>([(4,.slice ah rs.length ae),(5,e7<|s.2.2),(6,.slice ab (replicate nd.toNat (default:Int)).length ad),(17,va),(18,e7 ((es.length:Nat):Int)),(19,e7 ((s.1:Nat):Int))]:Env)) (λs=>vc 3 (.slice ab (replicate nd.toNat (default:Int)).length ad) (s.2.1)::vk 22 ah ae rs::e8 b1 [e7 nd,va] 38::(ap4 3 aj++I)) (λs=>(s.1<=es.length)/\(s.2.2=bu6 nd es s.1)/\(s.2.1.length=nd.toNat)/\(s.2.1.sum=s.2.2)/\(∀x∈s.2.1,0<=x)/\(s.2.1=trC nd es s.1)) (λs=>es.length - s.1) (0,replicate nd.toNat (default:Int),0) ⟨om,rfl,(by rw [Fy]),(bp7 _),(λx hx=>by rw [Kf hx];exact Hl 0),rfl⟩ (Aa C<|Aa Co<|cx2<|Aa C<|Aa Co Bb) Az ?_
 rintro ⟨k,out,q⟩ hp
 dsimp only at hp ⊢
 obtain ⟨hk,hq,a3,a6,a8,au⟩:=hp
 have a5:=λh:k<=es.length=>bc1 nd es k h
 have az:=λh:k<es.length=>hG.at h
 refine Ak<|Gr (Bl C C)<|Ar<|Ax<|Am C (λa1=>?_)<|λa1=>?_
 ·refine Bc (Ao<|Ax<|A7<|Ak<|Gr (A2 (α:=Pt) (xs:=es) Ay s8 C C (A4 hl) om oo)<|Gr (C6 (α:=Pt) (xs:=es) s8 C (A4 hl) om oo)<|Ge1 (Aj s8 C) λb6=>Ge0 (Cs s8) ?_)
  refine Ar<|Ax<|Ba mixed<|Ee 13<|Dr 0 C (Aq C)<|Dr 1 C (Af N8 C)<|Dr 2 C (Bd ef) ?_
  refine Dr 3 C (A2 (α:=(G1 Int)) (xs:=rs) Cr U1 C C A5 om oo)<|Dr 4 C (Cc (α:=(G1 Int)) (xs:=rs) (u:= .slice (e_ rs<|(e_ es k).u).a (e_ rs<|(e_ es k).u).xs.length (e_ rs<|(e_ es k).u).c) U1 C A5 om oo C)<|Dr 5 C (Aq C)<|Dr 6 C (Af N7 C)<|Dr 7 C (Bd ef) ?_
  refine Dr 8 C (A2 (α:=(G1 Int)) (xs:=rs) Cr U1 C C A5 om oo)<|Dr 9 C (Cc (α:=(G1 Int)) (xs:=rs) (u:= .slice (e_ rs<|(e_ es k).v).a (e_ rs<|(e_ es k).v).xs.length (e_ rs<|(e_ es k).v).c) U1 C A5 om oo C)<|Dr 12 C (Aq C)<|Ds1 10<|Se C (Ac c_ C C<|bo3 (ai.row _ om om).2 (ai.row _ om om).2 (Bg (ai.held (I:=I) (i:=((e_ es k).u)) om om) Ah) (Bg (ai.held (I:=I) (i:=((e_ es k).v)) om om) Ah) (bd8 _ _ _) (bd8 _ _ _) (by have:=J9 nd es (e_ es k).u;omega)) ?_
  rintro _ _ ⟨_,_,⟨av,ar,rfl,rfl⟩,rfl,rfl⟩
  refine ⟨Ai,?_⟩
  have aq:M0 (nbG nd es<|(e_ es k).u) (nbG nd es<|(e_ es k).v)=j3 nd es (e_ es k).u (e_ es k).v:=ay5 (by have:=az om;omega)
  rw [aq]
  refine Dr 11 C (Bk Ab C)<|Dz<|Ao<|A1 (S9 34 33 35 4 5 6 17 18 19)<|A7<|B9 (σ:=Nat×(List Int)×Int) (λs=>([(4,.slice ah rs.length ae),(5,e7<|s.2.2),(6,.slice ab (replicate nd.toNat (default:Int)).length ad),(17,va),(18,e7 ((es.length:Nat):Int)),(19,e7<|(k:Int)),(33,.slice av (j3 nd es (e_ es k).u (e_ es k).v).length ar),(34,e7<|(((j3 nd es (e_ es k).u (e_ es k).v).length:Nat):Int)),(35,e7 ((s.1:Nat):Int))]:Env)) (λs=>vc 3 (.slice ab (replicate nd.toNat (default:Int)).length ad) (s.2.1)::vk 3 av ar (j3 nd es (e_ es k).u (e_ es k).v)::e8 b6 [e7 ((e_ es k).u),e7<|(e_ es k).v] 105::vk 22 ah ae rs::e8 b1 [e7 nd,va] 38::(ap4 3 aj++I)) (λs=>(s.1<=(j3 nd es (e_ es k).u (e_ es k).v).length)/\(s.2.2=bu6 nd es k+(s.1:Int))/\(s.2.1.length=nd.toNat)/\(s.2.1.sum=s.2.2)/\(∀x∈s.2.1,0<=x)/\(s.2.1=((j3 nd es (e_ es k).u (e_ es k).v).take s.1).foldl (Y0 1) out)) (λs=>(j3 nd es (e_ es k).u (e_ es k).v).length - s.1) (0,out,q) ⟨om,(by rw [hq];simp),a3,a6,a8,rfl⟩ (Aa C<|Aa Co<|cx4<|cx2<|Aa Co Bb) Az ?_
  rintro ⟨k2,M,q2⟩ hp
  dsimp only at hp ⊢
  obtain ⟨bf,a7,ap,an,aa,ak⟩:=hp
  have ay:k2<(j3 nd es (e_ es k).u (e_ es k).v).length->0<=e_ (j3 nd es (e_ es k).u (e_ es k).v) (k2:Int)/\e_ (j3 nd es (e_ es k).u (e_ es k).v) (k2:Int)<nd:=λh=>Z2 hG (Bp om om)
  have be:=M2 nd es (e_ es k).u (e_ es k).v
  have ax:k2<(j3 nd es (e_ es k).u (e_ es k).v).length->0<=e_ M (e_ (j3 nd es (e_ es k).u (e_ es k).v) (k2:Int))/\e_ M (e_ (j3 nd es (e_ es k).u (e_ es k).v) (k2:Int))<=1000000:=λh=>by have h1:=ay h;have h2:=Bp (xs:=M) (i:=e_ (j3 nd es (e_ es k).u (e_ es k).v) (k2:Int)) om om;have h3:=ae2 aa h2;have h4:=aa _ h2;have h5:=a5 om;omega
  refine Ak<|Gr (Bl C C)<|Ar<|Ax<|Am C (λa0=>?_)<|λa0=>?_
  ·refine Bc (Ao<|Ax<|A7<|Ak<|Gr (A2 (α:=Int) (xs:=j3 nd es (e_ es k).u (e_ es k).v) Ab ef C C A5 om oo)<|Gr (B6 (xs:=j3 nd es (e_ es k).u (e_ es k).v) ef C A5 om oo)<|Ga C<|Ar<|Ak<|Gm C<|Gm C<|Gr (A2 (α:=Int) (xs:=M) Ab ef C C A5 om oo)<|Gr (B6 (xs:=M) ef C A5 om oo)<|Gr (Rad C C)<|Gr (A2 (α:=Int) (xs:=M) Ab ef C C A5 om oo)<|Ge0 (Cw (α:=Int) (xs:=M) (e:=3) (new:=(e_ M<|e_ (j3 nd es (e_ es k).u (e_ es k).v) (k2:Int))+1) ef C C C om oo am) ?_)
   exact Ar<|A1 (S9 4 5 6 17 18 19 33 34 35)<|A6<|Gm C<|Gr (Rad C C)<|Ga C<|Bq<|Av<|Ao<|A6<|Gr (Rad C C)<|Gm C<|Bq<|Bt ((k2+1),(List.set M (e_ (j3 nd es (e_ es k).u (e_ es k).v) (k2:Int)).toNat ((e_ M<|e_ (j3 nd es (e_ es k).u (e_ es k).v) (k2:Int))+1)),(q2+1))<|by dsimp only;exact ⟨om,om,(by rw [Fo];exact ap),(by rw [az8 om om,an];omega),(λx hx=>by rcases Jq hx with h|h;(· exact aa x h);(· rw [h];have:=ax om;omega)),(as5 om ak)⟩
  exact Ci<|Aw<|Aw<|Bi<|Av<|Ao<|A6<|Gr (Rad C C)<|Gm C<|Bq<|Bt ((k+1),(M),(q2))<|by dsimp only;exact ⟨om,(by rw [aq2 om,a7,show k2=(j3 nd es (e_ es k).u (e_ es k).v).length by omega]),ap,an,aa,(by rw [cj3 om,←au,ak,Fv om])⟩
 refine Ci<|Aw<|Aw<|Bi<|Ao<|Ak<|Gm C<|Gr (j8.quo C C om om<|by unfold InR;omega)<|Gm C<|Ga C<|Ga C<|Ar<|B3 ?_
 have aw:out=H3 nd es:=by rw [au,show k=es.length by omega,dc1 hG]
 subst aw
 have ao:(replicate nd.toNat (default:Int)).length=(H3 nd es).length:=by rw [Fy,G8]
 have a4:q=V7 nd es:=by rw [hq,show k=es.length by omega,bp4]
 exact C3 C C C (vk 3 ab ad (H3 nd es)::I) (by unfold vk;rw [←ao];exact X8) ⟨ab,ad,by rw [←ao,a4],rfl⟩
end Go.Sl
namespace Go.Sl
open Go.Proofs
set_option maxRecDepth 4000
variable{nd:Int}{va:Value}{es:List Pt}{ea:Option Addr}{ec:Nat}
variable {κ:Ctx}{I:List Item}
attribute [local irreducible] W G V D A j8 Eff
theorem ch9(hl:Sl κ I va es)(hG:s6 nd es):eu prog κ 54 [.agg #[e7 nd,va]] I (λr J=>∃a c,r = .tuple #[.slice a (H3 nd es).length c,e7 0]/\J=vk 3 a c (H3 nd es)::I):=by
 have a0:=hG.rng
 have a4:=q9 hG
 refine Ce1 Tryz.func54 C C ?_
 refine Ak<|Ge1 (Au (cs:=[_,_]) C C C) λb1=>Ga C<|Ga C<|Ar<|Ax<|Ak<|Gl2 J8 ?_
 refine G.e (Ac c_ C C<|V2 (nd:=nd)<|A4 hl) ?_
 rintro _ _ ⟨_,_,⟨rfl,rfl⟩,rfl,rfl⟩
 refine Ga C<|Ar<|Ak<|Gm C<|Gr (Cb C C)<|Ar<|Am C (λc12=>?_)<|λc12=>?_
 ·exact absurd (s4.2 hG) c12
 refine Bc<|Ao<|Ak<|Gf ag2 C<|Gl ef ?_
 refine Ge2 (Dk (α:=Int) (n:=nd.toNat) Ab ef C C C om om dc C) λab aa=>?_
 refine Ga C<|Ar<|Ax<|Ak<|Ga C<|Ar<|A1 (S3 6 5 1)<|A7<|B9 (σ:=Nat×(List Int)) (λs=>([(1,pt b1),(5,.slice ab (replicate nd.toNat (default:Int)).length aa),(6,e7 ((s.1:Nat):Int))]:Env)) (λs=>vc 3 (.slice ab (replicate nd.toNat (default:Int)).length aa) (s.2)::e8 b1 [e7 nd,va] 38::I) (λs=>(s.1<=es.length)/\(s.2.length=nd.toNat)/\(s.2.sum=bu6 nd es s.1)/\(∀x∈s.2,0<=x)/\(s.2=trC nd es s.1)) (λs=>es.length - s.1) (0,replicate nd.toNat (default:Int)) (show ((0:Nat)<=es.length)/\((replicate nd.toNat (default:Int):List Int).length=nd.toNat)/\((replicate nd.toNat (default:Int):List Int).sum=bu6 nd es (0:Nat))/\(∀x∈(replicate nd.toNat (default:Int):List Int),0<=x)/\((replicate nd.toNat (default:Int):List Int)=trC nd es (0:Nat)) from ⟨om,(by rw [Fy]),(by rw [bp7];rfl),(λx hx=>by rw [Kf hx];exact Hl 0),rfl⟩) (cx2<|Aa Co Bb) (show Fit κ _ (vk 3 ab aa (replicate nd.toNat (default:Int))::e8 b1 [e7 nd,va] 38::I) from Az) ?_
 rintro ⟨k,out⟩ hp
 dsimp only at hp ⊢
 obtain ⟨hk,ar,az,av,ao⟩:=hp
 have ay:=λh:k<=es.length=>bc1 nd es k h
 refine Ax<|Ak<|Gm C<|Gf K4 C<|Gl an1 ?_
 refine Gr (E1 (α:=Pt) (xs:=es) Ay C<|A4 hl)<|Gr (Bl C C)<|Ar<|Am C (λau=>?_)<|λau=>?_
 ·refine Bc (Ao<|Ax<|A7<|Ax<|Ba mixed<|Bx (vc 3 (.slice ab (replicate nd.toNat (default:Int)).length aa) (out)::e8 b1 [e7 nd,va] 38::I) 15<|Dr 0 C (Bm (vs:=[_,_]) J8) ?_)
  refine Dr 1 C (Af K4 C)<|Dr 2 C (Bd an1) ?_
  refine Dr 3 C (Aq C)<|Dr 4 C (A2 (α:=Pt) (xs:=es) Ay s8 C C (A4 hl) om oo)<|Dr 5 C (j8.fld (α:=Pt) (xs:=es) N8 C (A4 hl) oo)<|Dr 6 C (Fj (α:=Pt) (xs:=es) (u:=e7 ((e_ es k).u)) ef C (A4 hl) om oo C)<|Dr 7 C (Af K4 C)<|Dr 8 C (Bd an1) ?_
  refine Dr 9 C (Aq C)<|Dr 10 C (A2 (α:=Pt) (xs:=es) Ay s8 C C (A4 hl) om oo)<|Dr 11 C (j8.fld (α:=Pt) (xs:=es) N7 C (A4 hl) oo)<|Dr 12 C (Fj (α:=Pt) (xs:=es) (u:=e7 ((e_ es k).v)) ef C (A4 hl) om oo C)<|Ds1 13<|Sc2 C (Ac c_ C C<|ag7 (nd:=nd) (A4 hl) ((e_ es k).u) ((e_ es k).v) om) λan ak=>?_
  refine Dr 14 C (Bh C)<|Dz<|Ao<|A1 (S4 7 1 5 6)<|Ak<|Ga C<|Ar<|A7<|B9 (σ:=Nat×(List Int)) (λs=>([(1,pt b1),(5,.slice ab (replicate nd.toNat (default:Int)).length aa),(6,e7<|(k:Int)),(7,.slice an (j3 nd es ((e_ es k).u)<|(e_ es k).v).length ak),(8,e7 ((s.1:Nat):Int))]:Env)) (λs=>vc 3 (.slice ab (replicate nd.toNat (default:Int)).length aa) (s.2)::vk 3 an ak (j3 nd es ((e_ es k).u)<|(e_ es k).v)::e8 b1 [e7 nd,va] 38::I) (λs=>(s.1<=(j3 nd es (e_ es k).u (e_ es k).v).length)/\(s.2.length=nd.toNat)/\(s.2.sum=bu6 nd es k+(s.1:Int))/\(∀x∈s.2,0<=x)/\(s.2=((j3 nd es (e_ es k).u (e_ es k).v).take s.1).foldl (Y0 1) out)) (λs=>(j3 nd es (e_ es k).u (e_ es k).v).length - s.1) (0,out) (show ((0:Nat)<=(j3 nd es (e_ es k).u (e_ es k).v).length)/\((out:List Int).length=nd.toNat)/\((out:List Int).sum=bu6 nd es k+((0:Nat):Int))/\(∀x∈(out:List Int),0<=x)/\((out:List Int)=((j3 nd es (e_ es k).u (e_ es k).v).take (0:Nat)).foldl (Y0 1) out) from ⟨om,ar,(by rw [az];simp),av,rfl⟩) (cx4<|Aa Co Bb) (show Fit κ _ (vc 3 (.slice ab (replicate nd.toNat (default:Int)).length aa) ((out))::vk 3 an ak (j3 nd es ((e_ es k).u)<|(e_ es k).v)::e8 b1 [e7 nd,va] 38::I) from Az) ?_
  rintro ⟨k2,M⟩ hp
  dsimp only at hp ⊢
  obtain ⟨a3,ah,ai,ad,ae⟩:=hp
  have ax:k2<(j3 nd es (e_ es k).u (e_ es k).v).length->0<=e_ (j3 nd es (e_ es k).u (e_ es k).v) (k2:Int)/\e_ (j3 nd es (e_ es k).u (e_ es k).v) (k2:Int)<nd:=λh=>Z2 hG (Bp om om)
  have a1:=M2 nd es (e_ es k).u (e_ es k).v
  have aw:k2<(j3 nd es (e_ es k).u (e_ es k).v).length->0<=e_ M (e_ (j3 nd es (e_ es k).u (e_ es k).v) (k2:Int))/\e_ M (e_ (j3 nd es (e_ es k).u (e_ es k).v) (k2:Int))<=1000000:=λh=>by have h1:=ax h;have h2:=Bp (xs:=M) (i:=e_ (j3 nd es (e_ es k).u (e_ es k).v) (k2:Int)) om om;have h3:=ae2 ad h2;have h4:=ad _ h2;have h5:=ay om;omega
  refine Ax<|Ak<|Gm C<|Gm C<|Gr (Bk Ab C)<|Gr (Bl C C)<|Ar<|Am C (λaq=>?_)<|λaq=>?_
  ·refine Bc (Ao<|Ax<|A7<|A6<|Gm C<|Gm C<|Gm C<|Gr (A2 (α:=Int) (xs:=j3 nd es ((e_ es k).u) ((e_ es k).v)) Ab ef C C A5 om oo)<|Gr (B6 (xs:=j3 nd es ((e_ es k).u) ((e_ es k).v)) ef C A5 om oo)<|Gr (A2 (α:=Int) (xs:=M) Ab ef C C A5 om oo)<|Gr (B6 (xs:=M) ef C A5 om oo)<|Gr (Rad C C)<|Gr (A2 (α:=Int) (xs:=M) Ab ef C C A5 om oo)<|Ge0 (Cw (α:=Int) (xs:=M) (e:=3) (new:=(e_ M<|e_ (j3 nd es ((e_ es k).u)<|(e_ es k).v) (k2:Int))+1) ef C C C om oo am) ?_)
   exact Bq<|Av<|Ao<|A1 (S5 1 5 6 7 8)<|A6<|Gm C<|Gr (Rad C C)<|Ga C<|Bq<|Bt ((k2+1),(List.set M (e_ (j3 nd es ((e_ es k).u)<|(e_ es k).v) (k2:Int)).toNat ((e_ M<|e_ (j3 nd es ((e_ es k).u)<|(e_ es k).v) (k2:Int))+1)))<|by dsimp only;exact ⟨om,(by rw [Fo];exact ah),(by rw [az8 om om,ai];omega),(λx hx=>by rcases Jq hx with h|h;(· exact ad x h);(· rw [h];have:=aw om;omega)),(as5 om ae)⟩
  exact Ci<|Aw<|Aw<|Bi<|Av<|Ao<|A6<|Gm C<|Gr (Rad C C)<|Ga C<|Bq<|Bt ((k+1),(M))<|by dsimp only;exact ⟨om,ah,(by rw [aq2 om,ai,show k2=(j3 nd es (e_ es k).u (e_ es k).v).length by omega]),ad,(by rw [cj3 om,←ao,ae,Fv om])⟩
 refine Ci<|Aw<|Aw<|Bi<|Ao<|Ak<|Gm C<|Ga C<|Ga C<|Ar<|B3 ?_
 have ap:out=H3 nd es:=by rw [ao,show k=es.length by omega,dc1 hG]
 subst ap
 have aj:(replicate nd.toNat (default:Int)).length=(H3 nd es).length:=by rw [Fy,G8]
 exact C3 C C C (vk 3 ab aa (H3 nd es)::I) (by unfold vk;rw [←aj];exact Az) ⟨ab,aa,by rw [←aj],rfl⟩
theorem dq2(hl:Sl κ I (.slice ea es.length ec) es)(hG:s6 nd es):eu prog κ 147 [.agg #[e7 nd,.slice ea es.length ec]] I (λr J=>∃a c,r = .tuple #[.agg #[e7 nd,.slice ea es.length ec,e7 (V7 nd es / 3),.slice a (H3 nd es).length c],e7 0]/\J=vk 3 a c (H3 nd es)::I):=by
 refine Ce1 Tryz.func147 C C ?_
 refine Ak<|Ge1 (Au (cs:=[_,_]) C C C) λb1=>Ge1 (Aj ad3 C) λb2=>Z ?_
 refine Gc2 (Ac c_ C C<|ch9 (nd:=nd) (A4 hl) hG) λM aa=>Z ?_
 refine Am C (λab=>?_)<|λab=>Z ?_
 ·exact absurd ab dc
 refine G.e (Ac c_ C C<|da2 (nd:=nd) (A4 hl) hG) ?_
 rintro _ _ ⟨_,_,⟨rfl,rfl⟩,rfl,rfl⟩
 refine Z ?_
 refine Ge0 (C8 ad3) ?_
 exact Ga C<|Ar<|B3<|Cp C ad3 C C mm C (vk 3 M aa (H3 nd es)::I) Az ⟨M,aa,rfl,rfl⟩
variable {κ:Ctx}{I:List Item}
theorem ch0(hl:Sl κ I va es)(hG:s6 nd es):eu prog κ 168 [.agg #[e7 nd,va]] I (λr J=>r = .tuple #[e7 (F8 nd es),e7 0]/\I=J):=by
 have ab:=hG.rng
 have ai:=q9 hG
 refine Ce1 Tryz.func168 C C ?_
 refine Ak<|Ge1 (Au (cs:=[_,_]) C C C) λb1=>Z ?_
 refine Gc0 (Ac c_ C C<|da3 (A4 hl) hG)<|Z ?_
 refine Am C (λc11=>?_)<|λc11=>Z ?_
 ·exact absurd c11 dc
 refine Dh (σ:=Nat×Int) (λs=>[(5,e7<|s.2),(6,e7 ((s.1:Nat):Int))]) (λ_=>[]) (λs=>((s.1:Int)<=nd)/\(s.2=dt2 nd es s.1)) (λs=>nd.toNat - s.1) (0,0) (show (((0:Nat):Int)<=nd)/\((0:Int)=dt2 nd es (0:Nat)) from ⟨om,rfl⟩) ?_
 rintro ⟨k,q⟩ hp
 dsimp only at hp ⊢
 obtain ⟨hk,hq⟩:=hp
 have ae:=J9 nd es (k:Int)
 have ah:=bo9 nd es k
 have ad:=bx2 (n:=((nbG nd es (k:Int)).length:Int)) ⟨by omega,by omega⟩
 have aj:=de7 (n:=((nbG nd es (k:Int)).length:Int)) ⟨by omega,by omega⟩
 refine Z ?_
 refine Am C (λaa=>Z ?_)<|λaa=>Z ?_
 ·refine Gc0 (Ac c_ C C<|ci6 (nd:=nd) (A4 hl) (k:Int) om) (Z ?_)
  refine Gr (Eo C C<|by unfold InR;omega)<|Gr (j8.quo C C om om<|by unfold InR;omega)<|Z ?_
  exact Bt ((k+1),(q+((((((nbG nd es (k:Int)).length:Nat)):Int)*(((((nbG nd es (k:Int)).length:Nat)):Int) - 1)) / 2)))<|by dsimp only;exact ⟨om,(by rw [hq];rfl)⟩
 have M:k=nd.toNat:=by omega
 exact C3 C C C I Ah ⟨by rw [hq,M];rfl,rfl⟩
theorem dq1(hl:Sl κ I (.slice ea es.length ec) es)(hG:s6 nd es):eu prog κ 148 [.agg #[e7 nd,.slice ea es.length ec]] I (λr J=>∃a c,r = .tuple #[.agg #[e7 nd,.slice ea es.length ec,e7 (F8 nd es),e7 (J7 nd es),.slice a (r8 nd es).length c],e7 0]/\J=vk 3 a c (r8 nd es)::I):=by
 refine Ce1 Tryz.func148 C C ?_
 refine Ak<|Ge1 (Au (cs:=[_,_]) C C C) λb1=>Ge1 (Aj V6 C) λb2=>Z ?_
 refine Gc0 (Ac c_ C C<|ch0 (nd:=nd) (A4 hl) hG)<|Z ?_
 refine Am C (λaa=>?_)<|λaa=>Z ?_
 ·exact absurd aa dc
 refine G.e (Ac c_ C C<|ca9 (nd:=nd) (A4 hl) hG) ?_
 rintro _ _ ⟨_,_,⟨ab,M,ai,ah,ae,rfl,ad,rfl⟩,rfl,rfl⟩
 refine Z ?_
 refine Ge0 (E5 V6) ?_
 exact Ga C<|Ar<|B3<|Cp C V6 C C mm C (vk 3 ab M (r8 nd es)::I) Az ⟨ab,M,rfl,rfl⟩
theorem dq4(hl:Sl κ I (.slice ea es.length ec) es)(hG:s6 nd es)(h1:1<=nd):eu prog κ 145 [.agg #[e7 nd,.slice ea es.length ec]] I (λr J=>∃b d a c,r = .tuple #[.agg #[e7 nd,.slice b es.length d,.slice a (j9 nd es).length c],e7 0]/\J=vk 105 b d es::vk 3 a c (j9 nd es)::I):=by
 have ae:=hG.rng
 have ah:=q9 hG
 refine Ce1 Tryz.func145 C C ?_
 refine Ak<|Ge1 (Au (cs:=[_,_]) C C C) λb1=>Ge1 (Aj ab7 C) λb2=>Z ?_
 refine G.e (Ac c_ C C<|cb9 (nd:=nd) (A4 hl) hG om om) ?_
 rintro _ _ ⟨_,_,⟨aa,M,rfl,rfl⟩,rfl,rfl⟩
 refine Z ?_
 refine Am C (λc12=>?_)<|λc12=>?_
 ·exact absurd c12 dc
 refine Bc<|Ao<|Ax<|Ba mixed<|Bx (vk 3 aa M (j9 nd es)::e8 b2 [e7 0,.slice none 0 0,.slice none 0 0] 40::e8 b1 [e7 nd,.slice ea es.length ec] 38::I) 8<|Z ?_
 refine Ds1 4<|Se2 C (E7 (α:=Pt) (ys:=es) Ay s8 C C C (A4 hl) (by first|omega|(simp only [Fu];omega)) dc C) λad ab=>Z ?_
 refine Cg kr ?_
 refine Ae 8 C (Da ab7) ?_
 rintro _ _ ⟨rfl,rfl⟩
 refine Dg (i:=9) kr C (Ap C) C C (Bh C) ?_
 refine Ch kr<|Z ?_
 exact Cp C ab7 C C mm C (vk 105 ad ab (es)::vk 3 aa M (j9 nd es)::I) Az ⟨ad,ab,aa,M,rfl,rfl⟩
theorem dq3(hl:Sl κ I (.slice ea es.length ec) es)(hG:s6 nd es):eu prog κ 146 [.agg #[e7 nd,.slice ea es.length ec]] I (λr J=>∃b d a c,r = .tuple #[.agg #[e7 nd,.slice b es.length d,.slice a (j6 nd es).length c],e7 0]/\J=vk 105 b d es::vk 3 a c (j6 nd es)::I):=by
 have ae:=hG.rng
 have ah:=q9 hG
 refine Ce1 Tryz.func146 C C ?_
 refine Ak<|Ge1 (Au (cs:=[_,_]) C C C) λb1=>Ge1 (Aj L4 C) λb2=>Z ?_
 refine Gc2 (Ac c_ C C<|cb8 (nd:=nd) (A4 hl) hG om) λaa M=>Z ?_
 refine Am C (λc12=>?_)<|λc12=>?_
 ·exact absurd c12 dc
 refine Bc<|Ao<|Ax<|Ba mixed<|Bx (vk 3 aa M (j6 nd es)::e8 b2 [e7 0,.slice none 0 0,.slice none 0 0] 41::e8 b1 [e7 nd,.slice ea es.length ec] 38::I) 8<|Z ?_
 refine Ds1 4<|Se2 C (E7 (α:=Pt) (ys:=es) Ay s8 C C C (A4 hl) (by first|omega|(simp only [Fu];omega)) dc C) λad ab=>Z ?_
 refine Cg kr ?_
 refine Ae 8 C (Da L4) ?_
 rintro _ _ ⟨rfl,rfl⟩
 refine Dg (i:=9) kr C (Ap C) C C (Bh C) ?_
 refine Ch kr<|Z ?_
 exact Cp C L4 C C mm C (vk 105 ad ab (es)::vk 3 aa M (j6 nd es)::I) Az ⟨ad,ab,aa,M,rfl,rfl⟩
end Go.Sl
