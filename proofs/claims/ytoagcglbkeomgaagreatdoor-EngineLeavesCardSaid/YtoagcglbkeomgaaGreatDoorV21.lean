/- A part of the proofs of statements of this seat: contracts of functions, and the plain laws that they lean on. No conditions. -/
import Derived.Test.YtoagcglbkeomgaaGreatDoorV18
set_option linter.unusedVariables false
set_option linter.unusedSimpArgs false
set_option linter.unusedSectionVars false
set_option maxHeartbeats 1000000
namespace Go.Sl
theorem bt7{wd mo T:Int}:∀(n:Nat) (xs:List Lk) (out:List Ev),xs.length<=n->bi9 wd mo T xs out=((bi9 wd mo T xs []).1,out++(bi9 wd mo T xs []).2)
 |0,xs,out,h=>by
  have M:¬(0<xs.length/\ab5 xs+wd<=T):=by omega
  rw [Q5 M,Q5 M,Gq]
 |n+1,xs,out,h=>by
  by_cases M:0<xs.length/\ab5 xs+wd<=T
  ·have hl:=at5 (wd:=wd) (mo:=mo) M.1
   unfold gd7 at hl
   rw [ae7 M,ae7 (out:=[]) M,bt7 n _ (out++_) om,bt7 n _ ([]++_) om,Km,Fr]
  rw [Q5 M,Q5 M,Gq]
section
variable {kd wd mo bd:Int}
theorem cu3(xs:List Lk)(out:List Ev)(e:Ev):p5 kd wd mo (xs,out) e=((p5 kd wd mo (xs,[]) e).1,out++(p5 kd wd mo (xs,[]) e).2):=by
 have M:Q0 kd wd mo e.tm (xs,out)=((Q0 kd wd mo e.tm (xs,[])).1,out++(Q0 kd wd mo e.tm (xs,[])).2):=by
  unfold Q0
  by_cases h:kd=2
  ·rw [B_ h,B_ h];exact bt7 _ _ _ (Gd _)
  rw [An h,An h,Gq]
 unfold p5
 rw [M]
 unfold cr5
 by_cases h:kd=3
 ·rw [B_ h,B_ h,Fr,Fr,Fr]
 rw [An h,An h,Fr]
def X9(kd wd mo:Int)(S:List Lk)(l:List Ev):List Lk×List Ev:=l.foldl (p5 kd wd mo) (S,[])
theorem dv2(l:List Ev):∀(S:List Lk) (out:List Ev),l.foldl (p5 kd wd mo) (S,out)=((X9 kd wd mo S l).1,out++(X9 kd wd mo S l).2):=by
 induction l with
 |nil=>intro S out;unfold X9;rw [Le,Le,Gq]
 |cons e l ih=>
  intro S out
  unfold X9
  rw [Hy,Hy,cu3 S out e]
  have e1:p5 kd wd mo (S,[]) e=((p5 kd wd mo (S,[]) e).1,(p5 kd wd mo (S,[]) e).2):=rfl
  rw [e1,ih,ih,Fr]
theorem ar1(S:List Lk)(l m:List Ev):X9 kd wd mo S (l++m)=((X9 kd wd mo (X9 kd wd mo S l).1 m).1,(X9 kd wd mo S l).2++(X9 kd wd mo (X9 kd wd mo S l).1 m).2):=by
 conv=>lhs;unfold X9
 rw [Hd]
 have e1:l.foldl (p5 kd wd mo) (S,[])=((X9 kd wd mo S l).1,(X9 kd wd mo S l).2):=rfl
 rw [e1,dv2]
def W7(t:Int)(l:List Ev):Int:=l.foldl (λ_ e=>e.tm) t
theorem be5(t:Int)(l m:List Ev):W7 t (l++m)=W7 (W7 t l) m:=Hd ..
structure EnS where
 b:BfS
 S:List Lk
 tm:Int
def EnS.rel(kd wd mo:Int)(k:EnS)(b:BfS)(l:List Ev):EnS:=⟨b,(X9 kd wd mo k.S l).1,W7 k.tm l⟩
def EnS.feed(kd wd mo bd:Int)(k:EnS)(e:Ev):EnS:=k.rel kd wd mo (k.b.push bd e) (k.b.out bd e)
def EnS.da9(kd wd mo bd:Int)(k:EnS)(e:Ev):List Ev:=(X9 kd wd mo k.S (k.b.out bd e)).2
def EnS.flush(kd wd mo:Int)(k:EnS):EnS:=k.rel kd wd mo k.b.flush k.b.ws
def EnS.ge0(kd wd mo:Int)(k:EnS):List Ev:=(X9 kd wd mo k.S k.b.ws).2
def EnS.next(kd wd mo bd:Int)(k:EnS)(e:Ev):EnS:=if e.tm<=k.b.mr then k else k.feed kd wd mo bd e
def EnS.gd2(kd wd mo bd:Int)(k:EnS)(e:Ev):List Ev:=if e.tm<=k.b.mr then [] else k.da9 kd wd mo bd e
def EnS.all(kd wd mo bd:Int)(k:EnS)(l:List Ev):EnS:=l.foldl (λk e=>k.next kd wd mo bd e) k
def BfS.next(bd:Int)(s:BfS)(e:Ev):BfS:=if e.tm<=s.mr then s else s.push bd e
def BfS.all(bd:Int)(s:BfS)(l:List Ev):BfS:=l.foldl (λs e=>s.next bd e) s
def BfS.outs(bd:Int):BfS->List Ev->List Ev
 |_,[]=>[]
 |s,e::l=>(if e.tm<=s.mr then [] else s.out bd e)++BfS.outs bd (s.next bd e) l
def BfS.ao3(bd:Int):BfS->List Ev->Nat
 |_,[]=>0
 |s,e::l=>(if e.tm<=s.mr then 1 else 0)+BfS.ao3 bd (s.next bd e) l
def EnS.outs(kd wd mo bd:Int):EnS->List Ev->List Ev
 |_,[]=>[]
 |k,e::l=>k.gd2 kd wd mo bd e++EnS.outs kd wd mo bd (k.next kd wd mo bd e) l
theorem dx0(k:EnS)(e:Ev):k.next kd wd mo bd e=k.rel kd wd mo (k.b.next bd e) (if e.tm<=k.b.mr then [] else k.b.out bd e)/\k.gd2 kd wd mo bd e=(X9 kd wd mo k.S (if e.tm<=k.b.mr then [] else k.b.out bd e)).2:=by
 unfold EnS.next EnS.gd2 BfS.next
 by_cases h:e.tm<=k.b.mr
 ·rw [B_ h,B_ h,B_ h,B_ h];exact ⟨rfl,rfl⟩
 rw [An h,An h,An h,An h];exact ⟨rfl,rfl⟩
theorem cg8:∀(l:List Ev) (k:EnS),k.all kd wd mo bd l=k.rel kd wd mo (k.b.all bd l) (BfS.outs bd k.b l)/\EnS.outs kd wd mo bd k l=(X9 kd wd mo k.S (BfS.outs bd k.b l)).2
 |[],k=>⟨rfl,rfl⟩
 |e::l,k=>by
  obtain ⟨M,h2⟩:=dx0 (kd:=kd) (wd:=wd) (mo:=mo) (bd:=bd) k e
  obtain ⟨h3,h4⟩:=cg8 l (k.next kd wd mo bd e)
  have hb:(k.next kd wd mo bd e).b=k.b.next bd e:=by rw [M];rfl
  constructor
  ·show (k.next kd wd mo bd e).all kd wd mo bd l=_
   rw [h3,hb,M]
   show (⟨_,_,_⟩:EnS)=⟨_,_,_⟩
   congr 1
   ·show (X9 kd wd mo (X9 kd wd mo k.S _).1 _).1=(X9 kd wd mo k.S<|_++_).1
    rw [ar1]
   show W7 (W7 k.tm _) _=W7 k.tm (_++_)
   rw [be5]
  show k.gd2 kd wd mo bd e++EnS.outs kd wd mo bd (k.next kd wd mo bd e) l=_
  rw [h4,h2,hb,M]
  show _=(X9 kd wd mo k.S<|_++_).2
  rw [ar1];rfl
def gf1(bd:Int)(l:List Ev):List Ev:=BfS.outs bd ⟨-1, -1,[]⟩ l++(BfS.all bd ⟨-1, -1,[]⟩ l).ws
def EnS.run(kd wd mo bd:Int)(l:List Ev):EnS:=((⟨⟨-1, -1,[]⟩,[],0⟩:EnS).all kd wd mo bd l).flush kd wd mo
theorem run_eq(l:List Ev):EnS.run kd wd mo bd l=(⟨⟨-1, -1,[]⟩,[],0⟩:EnS).rel kd wd mo (BfS.all bd ⟨-1, -1,[]⟩ l).flush (gf1 bd l):=by
 unfold EnS.run EnS.flush
 rw [(cg8 l _).1]
 show (⟨_,_,_⟩:EnS)=⟨_,_,_⟩
 unfold gf1
 congr 1
 ·show (X9 kd wd mo (X9 kd wd mo [] _).1 _).1=(X9 kd wd mo []<|_++_).1
  rw [ar1];rfl
 show W7 (W7 0 _) _=W7 0 (_++_)
 rw [be5];rfl
end
end Go.Sl
namespace Go.Sl
section
variable {kd wd mo bd:Int}
theorem BfS.by3:∀(l m:List Ev) (s:BfS),BfS.ao3 bd s (l++m)=BfS.ao3 bd s l+BfS.ao3 bd (s.all bd l) m
 |[],m,s=>by show _=0+_;rw [Ls];rfl
 |e::l,m,s=>by
  show _+BfS.ao3 bd (s.next bd e) (l++m)=_+BfS.ao3 bd (s.next bd e) l+_
  rw [BfS.by3 l m,Mf];rfl
theorem az5.open_(h:0<=bd/\bd<=1048576):az5 bd ⟨-1, -1,[]⟩:=⟨h,by decide,by decide,(λe M=>by cases M),(λe M=>by cases M),List.Pairwise.nil⟩
theorem EnS.fq6(k:EnS)(l m:List Ev):k.all kd wd mo bd (l++m)=(k.all kd wd mo bd l).all kd wd mo bd m:=Hd ..
end
end Go.Sl
namespace Go.Sl
variable{T last:Int}{S xs:List Lk}{out:List Ev}
structure gb7 (nd kd wd mo last:Int) (S:List Lk) (e:Ev) (r:List Lk×List Ev):Prop where
 inv:SlI nd kd wd e.tm r.1
 st:r.1=r.2.foldl ep S
 fit:∀x∈r.2,H7 nd x
 asc:r.2.Pairwise λa b=>a.tm<=b.tm
 rng:∀x∈r.2,last<=x.tm/\x.tm<=e.tm
 has:e∈r.2
 cnt:kd=3->(r.1.length:Int)<=mo
 len:r.1.length<=S.length+1/\r.2.length<=2*S.length+2
structure AgX (nd wd last T:Int) (S xs:List Lk) (out:List Ev):Prop where
 inv:SlI nd 2 wd last xs
 st:xs=out.foldl ep S
 fit:∀e∈out,H7 nd e
 asc:out.Pairwise λa b=>a.tm<=b.tm
 le:∀e∈out,last<=e.tm/\e.tm<=T
 bef:∀e∈out,∀x∈xs,e.tm<=x.tm+wd
 sum:xs.length+out.length<=S.length
theorem AgX.step{nd wd mo:Int}(h:AgX nd wd last T S xs out)(h0:0<=last)(hT:T<=1048576)(hs:0<xs.length/\ab5 xs+wd<=T) :
  AgX nd wd last T S (xs.filter<|inW 2 wd mo (ab5 xs+wd) xs) (out++s3 2 wd mo (ab5 xs+wd) xs):=by
 have hf:=h.inv.first rfl hs.1
 obtain ⟨⟨x0,aa,e0⟩,ad⟩:=T0 hs.1
 have hg:∀c∈s3 2 wd mo (ab5 xs+wd) xs,c.tm=ab5 xs+wd:=λc hc=>(cn2 hc).2
 refine ⟨h.inv.filter _,?_,λe he=>?_,Ko.2 ⟨h.asc,?_,λa ha c hc=>?_⟩,λe he=>?_,λe he x hx=>?_,?_⟩
 ·rw [Hd,←h.st,ae5 h.inv.val]
 ·rcases Gt.1 he with he|he
  ·exact h.fit e he
  exact am2 h.inv.val om e he
 ·unfold s3
  rw [Mr]
  exact de4 (λa c=>Hl _) _
 ·rw [hg c hc,e0];exact h.bef a ha x0 aa
 ·rcases Gt.1 he with he|he
  ·exact h.le e he
  rw [hg e he];omega
 ·obtain ⟨ab,M⟩:=Gg.1 hx
  rcases Gt.1 he with he|he
  ·exact h.bef e he x ab
  rw [gd4] at M
  have:=Fq M
  rw [hg e he];omega
 have h1:=ag0 2 wd mo (ab5 xs+wd) xs
 have h2:=h.sum
 rw [By];omega
theorem AgX.aged{nd wd mo:Int}(h:AgX nd wd last T S xs out)(h0:0<=last)(hl:last<=T)(hT:T<=1048576) :
  AgX nd wd last T S (bi9 wd mo T xs out).1 (bi9 wd mo T xs out).2/\SlI nd 2 wd T (bi9 wd mo T xs out).1:=by
 obtain ⟨M,h2⟩:=cp7 (mo:=mo) (P:=λxs out=>AgX nd wd last T S xs out) (λxs out hs hP=>hP.step h0 hT hs) xs.length xs out (Gd _) h
 exact ⟨M,M.inv.later hl λ_=>h2⟩
theorem bc6{nd kd wd mo:Int}{e:Ev}(h:SlI nd kd wd last S)(h0:0<=last)(hl:last<=e.tm)(M:H7 nd e)(hw:s7 kd wd mo=0):gb7 nd kd wd mo last S e (p5 kd wd mo (S,[]) e):=by
 have aa:=ai0 S e
 rcases ay8 hw with ⟨rfl,rfl,rfl⟩|⟨rfl,ab,rfl⟩|⟨rfl,rfl,hm⟩
 ·have hr:p5 1 0 0 (S,[]) e=(ep S e,[e]):=rfl
  rw [hr]
  refine ⟨(h.later hl λh2=>by cases h2).step M rfl (λh2=>by cases h2),rfl,λx hx=>?_,Ln _ _,λx hx=>?_,Gc.2 rfl,(λh2=>by cases h2),⟨aa,?_⟩⟩
  ·rw [Gc.1 hx];exact M
  ·rw [Gc.1 hx];omega
  simp
 ·have hA:AgX nd wd last e.tm S S []:=⟨h,rfl,(λe M=>by cases M),List.Pairwise.nil,(λe M=>by cases M),(λe M=>by cases M),by simp⟩
  obtain ⟨hG,hI⟩:=hA.aged (mo:=0) h0 hl M.tm.2
  have hr:p5 2 wd 0 (S,[]) e=(ep (bi9 wd 0 e.tm S []).1 e,(bi9 wd 0 e.tm S []).2++[e]):=rfl
  rw [hr]
  generalize bi9 wd 0 e.tm S []=a at hG hI
  have h1:=ai0 a.1 e
  have h2:=hG.sum
  refine ⟨hI.step M rfl<|λ_=>ab.1,?_,λx hx=>?_,Ko.2 ⟨hG.asc,Ln _ _,λx hx y hy=>?_⟩,λx hx=>?_,Lz _<|Gc.2 rfl,(λh2=>by cases h2),⟨?_,?_⟩⟩
  ·simp only;rw [Hd,←hG.st];rfl
  ·rcases Gt.1 hx with hx|hx
   ·exact hG.fit x hx
   rw [Gc.1 hx];exact M
  ·rw [Gc.1 hy];exact (hG.le x hx).2
  ·rcases Gt.1 hx with hx|hx
   ·exact hG.le x hx
   rw [Gc.1 hx];omega
  ·simp only;omega
  simp only [By,E_,Fu];omega
 have hr:p5 3 0 mo (S,[]) e=((ep S e).filter (inW 3 0 mo e.tm<|ep S e),[]++[e]++s3 3 0 mo e.tm (ep S e)):=rfl
 rw [hr,Km]
 have hv:=J5 h.val M
 have hg:∀c∈s3 3 0 mo e.tm (ep S e),c.tm=e.tm:=λc hc=>(cn2 hc).2
 have h1:=ag0 3 0 mo e.tm (ep S e)
 refine ⟨((h.later hl λh2=>by cases h2).step M rfl (λh2=>by cases h2)).filter _,?_,λx hx=>?_,?_,λx hx=>?_,Gi _<|Gc.2 rfl,λ_=>dx9 (P8.1 hv).2.2 hm.1,⟨?_,?_⟩⟩
 ·simp only;rw [Hd];exact (ae5 hv).symm
 ·rcases Gt.1 hx with hx|hx
  ·rw [Gc.1 hx];exact M
  exact am2 hv M.tm x hx
 ·refine Ko.2 ⟨Ln _ _,?_,λa ha c hc=>?_⟩
  ·unfold s3
   rw [Mr]
   exact de4 (λa c=>Hl _) _
  rw [Gc.1 ha,hg c hc];exact Hl _
 ·rcases Gt.1 hx with hx|hx
  ·rw [Gc.1 hx];omega
  rw [hg x hx];omega
 ·simp only;omega
 simp only [By,E_,Fu];omega
structure bj0 (nd kd wd mo bd:Int) (k:EnS):Prop where
 win:s7 kd wd mo=0
 buf:az5 bd k.b
 fit:∀e∈k.b.ws,H7 nd e
 inv:SlI nd kd wd k.tm k.S
 tm:0<=k.tm/\k.tm<=1048576/\(k.tm<=k.b.mr\/k.tm=0)
 cnt:kd=3->(k.S.length:Int)<=mo
section
variable {nd kd wd mo bd:Int}
theorem fi9(hw:s7 kd wd mo=0):∀(l:List Ev) (S:List Lk) (last:Int),SlI nd kd wd last S->0<=last->(kd=3->(S.length:Int)<=mo)->(∀e∈l,H7 nd e/\last<=e.tm)->l.Pairwise (λa b=>a.tm<=b.tm)->
  SlI nd kd wd (W7 last l) (X9 kd wd mo S l).1/\(X9 kd wd mo S l).1=(X9 kd wd mo S l).2.foldl ep S/\(∀x∈(X9 kd wd mo S l).2,H7 nd x)/\(kd=3->((X9 kd wd mo S l).1.length:Int)<=mo)/\last<=W7 last l/\(W7 last l=last\/∃e∈l,W7 last l=e.tm)/\(X9 kd wd mo S l).1.length<=S.length+l.length
 |[],S,last,h,h0,hc,_,_=>⟨h,rfl,(λx hx=>by cases hx),hc,Hl _,.inl rfl,Gd _⟩
 |e::l,S,last,h,h0,hc,hl,ha=>by
  obtain ⟨he,ab⟩:=hl e A_
  obtain ⟨aa,ad⟩:=Ge.1 ha
  have hs:=bc6 h h0 ab he hw
  obtain ⟨r1,r2,r3,r4,r5,M,r7⟩:=fi9 hw l (p5 kd wd mo (S,[]) e).1 e.tm hs.inv om hs.cnt (λx hx=>⟨(hl x<|C_ _ hx).1,aa x hx⟩) ad
  have e1:X9 kd wd mo S (e::l)=((X9 kd wd mo (p5 kd wd mo (S,[]) e).1 l).1,(p5 kd wd mo (S,[]) e).2++(X9 kd wd mo (p5 kd wd mo (S,[]) e).1 l).2):=ar1 S [e] l
  have e2:W7 last (e::l)=W7 e.tm l:=rfl
  rw [e1,e2]
  refine ⟨r1,?_,λx hx=>?_,r4,by omega,?_,?_⟩
  ·simp only;rw [Hd,←hs.st];exact r2
  ·rcases Gt.1 hx with hx|hx
   ·exact hs.fit x hx
   exact r3 x hx
  ·rcases M with M|⟨x,hx,M⟩
   ·exact .inr ⟨e,A_,M⟩
   exact .inr ⟨x,C_ _ hx,M⟩
  have:=hs.len.1
  simp only [E_];omega
theorem bj0.open_(h:0<=nd/\nd<=64)(M:s7 kd wd mo=0)(hb:0<=bd/\bd<=1048576):bj0 nd kd wd mo bd ⟨⟨-1, -1,[]⟩,[],0⟩:=
 ⟨M,az5.open_ hb,(λe he=>by cases he),SlI.nil h,by simp,λhk=>by
  rcases ay8 M with ⟨rfl,_⟩|⟨rfl,_⟩|⟨_,_,hm⟩
  ·cases hk
  ·cases hk
  show ((0:Nat):Int)<=mo;omega⟩
theorem bj0.feed{k:EnS}(h:bj0 nd kd wd mo bd k){e:Ev}(he:H7 nd e)(ht:k.b.mr<e.tm):bj0 nd kd wd mo bd (k.feed kd wd mo bd e):=by
 have hb:=h.buf.push he.chk ht he.tm.2
 obtain ⟨h1,h2⟩:=h.buf.out (e:=e) ht
 have M:∀x∈K3 k.b e,H7 nd x:=λx hx=>by
  rcases mem_push.1 hx with rfl|hx
  ·exact he
  exact h.fit x hx
 have hm:=h.buf.mr
 have aa:=h.tm
 obtain ⟨r1,r2,r3,r4,r5,r6,r7⟩:=fi9 h.win (k.b.out bd e) k.S k.tm h.inv aa.1 h.cnt (λx hx=>by
  have h3:=M x (ba4.1 hx).1
  have:=h1 x hx
  have:=h3.tm
  exact ⟨h3,by omega⟩) h2
 refine ⟨h.win,hb,λx hx=>M x (av9.1 hx).1,r1,?_,r4⟩
 show 0<=W7 k.tm _/\W7 k.tm _<=1048576/\(W7 k.tm _<=max k.b.mr (ah7 bd k.b e)\/W7 k.tm _=0)
 rcases r6 with r6|⟨x,hx,r6⟩
 ·rw [r6];omega
 have h3:=h1 x hx
 have h4:=(M x (ba4.1 hx).1).tm
 have h5:(k.b.push bd e).mr=max k.b.mr (ah7 bd k.b e):=rfl
 rw [r6];omega
end
end Go.Sl
namespace Go.Sl
open Go.Proofs
set_option maxRecDepth 4000
variable{xs:List Lk}{i j:Nat}{q:Bool}{kd mo t:Int}
section
variable {nd:Int}{X:List Lk}{e:Ev}
def ar4(e:Ev):Ev:=⟨e.kd,e.tm,(eh e).u,(eh e).v,e.w,e.lb,e.sg⟩
def an2(xs:List Lk)(e:Ev):List Ev:=if eh e∈xs then [] else [ar4 e]
def P4(xs:List Lk)(e:Ev):List Ev:=if e.kd=1 then an2 xs e else (xs.filter (ah5 e)).map (L9 e.tm)
theorem ay1{n:Lk}:∀{xs:List Lk},xs.Pairwise Lk.lt->n∈xs->(Q2 n xs).length=xs.length
 |[],_,h=>by cases h
 |l::ls,ha,h=>by
  obtain ⟨h1,h2⟩:=Ge.1 ha
  unfold Q2
  rcases Fw.1 h with rfl|h
  ·rw [An (show ¬Lk.lt n n from λq=>Pt.lin.irr _ q),B_ rfl]
  have M:Lk.lt l n:=h1 n h
  rw [An (show ¬Lk.lt n l from λq=>Pt.lin.asymm M q),An (show ¬l.p=n.p from λq=>by unfold Lk.lt at M;rw [q] at M;exact Pt.lin.irr _ M),E_,ay1 h2 h,E_]
theorem dh0(ha:xs.Pairwise Lk.lt){a b:Lk}(h1:a∈xs)(h2:b∈xs)(hp:a.p=b.p):a=b:=by
 induction xs with
 |nil=>cases h1
 |cons l ls ih=>
  obtain ⟨h3,h4⟩:=Ge.1 ha
  rcases Fw.1 h1 with e1|h6<;>rcases Fw.1 h2 with e2|h7
  ·rw [e1,e2]
  ·have M:=h3 b h7;rw [←e1] at M;unfold Lk.lt at M;rw [hp] at M;exact absurd M (Pt.lin.irr _)
  ·have M:=h3 a h6;rw [←e2] at M;unfold Lk.lt at M;rw [hp] at M;exact absurd M (Pt.lin.irr _)
  exact ih h4 h6 h7
theorem bp8{n:Lk}(h:U5 Lk.cmp xs n i q)(ha:xs.Pairwise Lk.lt)(hq:q=true)(M:¬e_ xs i=n):n∉xs:=λhm=>by
 have h1:=h.is
 rw [hq] at h1
 obtain ⟨hi,h2⟩:=Fq h1.symm
 exact M<|dh0 ha (Bp om om) hm<|(Lk.at2 _ _).1 h2
theorem ak8{n:Lk}(h:U5 Lk.cmp xs n i q)(M:xs.Pairwise Lk.lt)(hq:q=false):n∉xs:=λhm=>by
 have h1:=Fz List.length (af3 h M hq)
 rw [ay1 M hm] at h1
 have:=h.le
 simp at h1;omega
theorem ar7{n:Lk}:∀{xs:List Lk} (p:Pt),p∈(Q2 n xs).map Lk.p↔p=n.p\/p∈xs.map Lk.p
 |[],p=>by unfold Q2;simp
 |l::ls,p=>by
  unfold Q2
  split
  ·simp
  split
  ·rename_i h;simp [h]
  rw [Hg,Fw,ar7 p,Hg,Fw]
  constructor
  ·rintro (h|h|h)
   ·exact .inr<|.inl h
   ·exact .inl h
   exact .inr<|.inr h
  rintro (h|h|h)
  ·exact .inr<|.inl h
  ·exact .inl h
  exact .inr<|.inr h
theorem as7(X:List Lk):j5 X=X.map Lk.p:=rfl
def chS(es0 es:List Pt)(c:Ev):List Pt:=if c.kd=1 then (if j4 c.u c.v∈es0 then es else z7 Pt.lt es (j4 c.u c.v)) else j7 es (j4 c.u c.v)
def chE(X:List Lk)(e:Ev)(j:Nat):List Pt:=((P4 X e).take j).foldl (chS (j5 X)) (j5 X)
theorem fb2:chE X e 0=j5 X:=rfl
theorem bt0(h:j<(P4 X e).length):chE X e (j+1)=chS (j5 X) (chE X e j) (e_ (P4 X e) j):=by
 unfold chE;rw [Ca _ j h,Hd];rfl
theorem co9{l:Lk}(h:l.u<l.v):j4 (L9 t l).u (L9 t l).v=l.p:=by
 show j4 l.u l.v=_
 unfold j4;rw [An om,B_ h];rfl
theorem bg4{es0:List Pt}:∀(l:List Lk) (es:List Pt),(∀x∈l,x.u<x.v)->(l.map (L9 t)).foldl (chS es0) es=es.filter λp=>decide (p∉l.map Lk.p)
 |[],es,_=>by
  rw [Kq,Le]
  exact (Jk.2 λp _=>by simp).symm
 |x::l,es,h=>by
  have M:chS es0 es (L9 t x)=j7 es x.p:=by
   unfold chS
   rw [co9 (h x A_)]
   exact An (show ¬((2:Int)=1) by decide)
  rw [Hg,Hy,M,bg4 l _ λy hy=>h y<|C_ _ hy]
  unfold j7
  rw [List.filter_filter]
  refine Ht λp _=>?_
  rw [Hg,←Bool.decide_and,Fs,Fw,not_or]
  exact And.comm
theorem dj3(hv:q7 nd X=0)(P:Lk->Bool):∀x∈X.filter P,x.u<x.v:=λx M=>(bb9 hv x (Gg.1 M).1).2.1
theorem gb2(hv:q7 nd X=0)(hf:H7 nd e):chE X e (P4 X e).length=j5 (ep X e):=by
 have ha:=(P8.1 hv).2.2
 have M:=J5 hv hf
 unfold chE
 rw [Hb]
 by_cases hk:e.kd=1
 ·have hs:ep X e=Q2 (eh e) X:=by unfold ep;rw [B_ hk]
  have hc:P4 X e=an2 X e:=by unfold P4;rw [B_ hk]
  rw [hs] at M
  have h0:=(F1 hv).asc
  have h1:=(F1 M).asc
  rw [hs,hc]
  unfold an2
  by_cases hm:eh e∈X
  ·rw [B_ hm,Le]
   refine Pt.lin.uniq h0 h1 λp=>?_
   rw [as7,as7,ar7]
   exact ⟨.inr,λh=>h.elim (λh=>h▸Lh hm) id⟩
  rw [An hm,Hy,Le]
  have he:j4 (ar4 e).u (ar4 e).v=(eh e).p:=K7 (e:=(eh e).p) (by
   have h2:e.u≠e.v:=(hf.ends.2.2 om).2
   show (if e.v<e.u then e.v else e.u)<(if e.u<e.v then e.v else e.u)
   split<;>split<;>omega)
  unfold chS
  rw [he,B_ (show (ar4 e).kd=1 from hk)]
  by_cases hp:(eh e).p∈j5 X
  ·rw [B_ hp]
   refine Pt.lin.uniq h0 h1 λp=>?_
   rw [as7 (Q2 _ _),ar7]
   exact ⟨.inr,λh=>h.elim (λh=>h▸hp) id⟩
  rw [An hp]
  refine Pt.lin.uniq (Pt.lin.z7 _ h0) h1 λp=>?_
  rw [ar8,as7<|Q2 _ _,ar7];rfl
 have hs:ep X e=X.filter λl=> !ah5 e l:=by unfold ep;rw [An hk]
 have hc:P4 X e=(X.filter<|ah5 e).map (L9 e.tm):=by unfold P4;rw [An hk]
 rw [hs] at M
 rw [hs,hc,bg4 _ _<|dj3 hv _]
 refine Pt.lin.uniq ((F1 hv).asc.sublist He) (F1 M).asc λp=>?_
 rw [Gg,Gn]
 constructor
 ·rintro ⟨h1,h2⟩
  obtain ⟨l,hl,rfl⟩:=Gv.1 h1
  refine Lh (f:=Lk.p)<|Gg.2 ⟨hl,?_⟩
  cases hh:ah5 e l with
  |false=>rfl
  |true=>exact absurd (Lh (f:=Lk.p)<|Gg.2 ⟨hl,hh⟩) h2
 intro h1
 obtain ⟨l,hl,rfl⟩:=Gv.1 h1
 obtain ⟨h2,h3⟩:=Gg.1 hl
 refine ⟨Lh (f:=Lk.p) h2,λh4=>?_⟩
 obtain ⟨l2,aa,e2⟩:=Gv.1 h4
 obtain ⟨h5,h6⟩:=Gg.1 aa
 have:=dh0 ha h5 h2 e2
 subst this
 rw [h6] at h3;cases h3
theorem s6.subl{es es':List Pt}(h:s6 nd es)(hs:es'.Sublist es):s6 nd es':=⟨h.rng,h.asc.sublist hs,λp M=>h.Z1 p (hs.subset M)⟩
structure ChJ (nd:Int) (X:List Lk) (es:List Pt) (c:Ev):Prop where
 ok:s6 nd es
 ends:F5 nd c.u c.v
 set:c.kd=1->es=j5 X
 cut:c.kd≠1->j4 c.u c.v∈es
theorem gi0(hv:q7 nd X=0)(hf:H7 nd e)(M:j<(P4 X e).length):ChJ nd X (chE X e j) (e_ (P4 X e) j):=by
 have ha:=(P8.1 hv).2.2
 have hG:=F1 hv
 by_cases hk:e.kd=1
 ·have hc:P4 X e=an2 X e:=by unfold P4;rw [B_ hk]
  have hl:(an2 X e).length<=1:=by unfold an2;split<;>simp
  have ae:j=0:=by rw [hc] at M;omega
  subst ae
  have he:e_ (P4 X e) ((0:Nat):Int)=ar4 e:=by
   rw [hc] at M ⊢
   unfold an2 at M ⊢
   split at M
   ·cases M
   rename_i h;rw [An h];rfl
  rw [he,fb2]
  have h2:=hf.ends.2.2 om
  have h3:=hf.ends.1
  have h4:=hf.fits
  refine ⟨hG,?_,λ_=>rfl,λh=>absurd hk h⟩
  show F5 nd (if e.v<e.u then e.v else e.u) (if e.u<e.v then e.v else e.u)
  unfold F5
  split<;>split<;>omega
 have hc:P4 X e=(X.filter<|ah5 e).map (L9 e.tm):=by unfold P4;rw [An hk]
 have aa:j<(X.filter<|ah5 e).length:=by rw [hc,F_] at M;exact M
 have he:e_ (P4 X e) j=L9 e.tm (e_ (X.filter<|ah5 e) (j:Int)):=by
  rw [hc,Ct _ j<|by rw [F_];exact aa,Ct _ j aa,Jj]
 have hm:=Bp (xs:=X.filter (ah5 e)) (i:=(j:Int)) om om
 have hr:=bb9 hv _ (Gg.1 hm).1
 have hE:chE X e j=(j5 X).filter λp=>decide (p∉((X.filter<|ah5 e).take j).map Lk.p):=by
  unfold chE
  rw [hc,←List.map_take]
  exact bg4 _ _ λx hx=>dj3 hv _ x<|Hw hx
 have ah:=Ca (X.filter<|ah5 e) j aa
 have ab:=(ha.sublist He).sublist (Lc (j+1)<|X.filter<|ah5 e)
 rw [ah] at ab
 rw [he,hE]
 generalize e_ (X.filter<|ah5 e) (j:Int)=l at *
 refine ⟨hG.subl He,?_,λh=>absurd h (show ¬((2:Int)=1) by decide),λ_=>?_⟩
 ·show F5 nd l.u l.v
  unfold F5;omega
 rw [co9 hr.2.1,Gg,Gn]
 refine ⟨Lh (f:=Lk.p) (Gg.1 hm).1,λh=>?_⟩
 obtain ⟨l2,ad,e2⟩:=Gv.1 h
 have h5:=(Ko.1 ab).2.2 l2 ad l (Gc.2 rfl)
 unfold Lk.lt at h5
 rw [e2] at h5
 exact Pt.lin.irr _ h5
theorem fp9(X:List Lk)(e:Ev):(P4 X e).length<=X.length+1:=by
 unfold P4
 split
 ·unfold an2;split<;>simp
 rw [F_];exact Nat.le_succ_of_le (Gs _ _)
end
structure ch8 (wd T:Int) (P:List Lk) (tt:Int) (out:List Ev):Prop where
 le:tt<=T+1
 low:∀l∈P,tt<=l.tm+wd
 is:tt=T+1\/∃l∈P,l.tm+wd=tt
 out:out=if tt<=T then (P.filter λl=>decide<|l.tm+wd=tt).map (L9 tt) else []
section
variable {wd T tt:Int}{P:List Lk}{out:List Ev}{l:Lk}
theorem ch8.zero:ch8 wd T [] (T+1) []:=⟨by omega,(λl h=>by cases h),.inl rfl,by rw [An om]⟩
theorem ch8.less(h:ch8 wd T P tt out)(h1:l.tm+wd<tt):ch8 wd T (P++[l]) (l.tm+wd) [L9 (l.tm+wd) l]:=by
 have h2:=h.le
 refine ⟨by omega,λx hx=>?_,.inr ⟨l,by simp,rfl⟩,?_⟩
 ·rcases Gt.1 hx with hx|hx
  ·have:=h.low x hx;omega
  rw [Gc.1 hx];omega
 have M:(P.filter λx=>decide<|x.tm+wd=l.tm+wd)=[]:=Jd.2 λx hx=>by
  have:=h.low x hx
  simp;omega
 rw [B_ om,Gj,M]
 simp
theorem ch8.eq(h:ch8 wd T P tt out)(M:l.tm+wd=tt)(h2:tt<=T):ch8 wd T (P++[l]) tt (out++[L9 (l.tm+wd) l]):=by
 refine ⟨h.le,λx hx=>?_,?_,?_⟩
 ·rcases Gt.1 hx with hx|hx
  ·exact h.low x hx
  rw [Gc.1 hx];omega
 ·exact .inr ⟨l,by simp,M⟩
 have h3:=h.out
 rw [B_ h2] at h3 ⊢
 rw [Gj,Hr,←h3,M]
 simp [M]
theorem ch8.no(h:ch8 wd T P tt out)(h1:¬l.tm+wd<tt)(h2:¬(l.tm+wd=tt/\tt<=T)):ch8 wd T (P++[l]) tt out:=by
 refine ⟨h.le,λx hx=>?_,?_,?_⟩
 ·rcases Gt.1 hx with hx|hx
  ·exact h.low x hx
  rw [Gc.1 hx];omega
 ·rcases h.is with M|⟨x,hx,M⟩
  ·exact .inl M
  exact .inr ⟨x,Gi _ hx,M⟩
 have M:=h.out
 by_cases h4:tt<=T
 ·rw [B_ h4] at M ⊢
  rw [Gj,M]
  simp [show ¬l.tm+wd=tt by omega]
 rw [An h4] at M ⊢; exact M
def P3(kd wd mo T:Int)(X:List Lk):List Ev:=if kd=2/\0<X.length/\ab5 X+wd<=T then s3 2 wd mo (ab5 X+wd) X else []
theorem ch8.all(hk:kd=2)(h:ch8 wd T P tt out):out=P3 kd wd mo T P:=by
 unfold P3
 rw [h.out]
 by_cases h0:0<P.length
 ·obtain ⟨⟨x,hx,e⟩,hm⟩:=T0 h0
  have h1:=h.low x hx
  have h2:=h.le
  by_cases h3:ab5 P+wd<=T
  ·have M:tt=ab5 P+wd:=by
    rcases h.is with M|⟨y,hy,M⟩
    ·omega
    have:=hm y hy;omega
   rw [B_ om,B_ ⟨hk,h0,h3⟩,M]
   unfold s3
   congr 1
   refine Ht λy hy=>?_
   have:=hm y hy
   rw [gd4,←decide_not,Fs];omega
  have M:¬tt<=T:=by
   rcases h.is with M|⟨y,hy,M⟩
   ·omega
   have:=hm y hy;omega
  rw [An M,An (show ¬(kd=2/\0<P.length/\ab5 P+wd<=T) from λq=>h3 q.2.2)]
 have M:P=[]:=Kw.1 om
 subst M
 rw [An (show ¬(kd=2/\0<([]:List Lk).length/\ab5 []+wd<=T) from λq=>h0 q.2.1)];simp
theorem dw6{X:List Lk}(M:¬kd=2):P3 kd wd mo T X=[]:=An λq=>M q.1
theorem ck8{X:List Lk}:0<(P3 kd wd mo T X).length↔kd=2/\0<X.length/\ab5 X+wd<=T:=by
 unfold P3
 constructor
 ·intro h
  split at h
  ·assumption
  cases h
 intro h
 rw [B_ h]
 obtain ⟨⟨x,M,e⟩,hm⟩:=T0 h.2.1
 unfold s3
 rw [F_]
 exact Kj<|Gg.2 ⟨M,by rw [gd4];simp;omega⟩
theorem dw7(kd wd mo T:Int)(X:List Lk):(P3 kd wd mo T X).length<=X.length:=by
 unfold P3 s3
 split
 ·rw [F_];exact Gs _ _
 simp
end
end Go.Sl
namespace Go.Sl
open Go.Proofs
set_option maxRecDepth 4000
variable{T:List Item}{a0:Option Addr}{c0:Nat}{nd:Int}
attribute [local irreducible] W G V D A j8 Eff
theorem fr7{κ:Ctx}{I:List Item}{e:Ev}{xs:List Lk}(hT:Has I T)(hl:Sl κ T (.slice a0 xs.length c0) xs)(ha:xs.Pairwise Lk.lt)(bc:xs.length<=1000000):eu Tryz.prog κ 184 [.slice a0 xs.length c0,.agg (ez e).toArray] I (λr J=>∃(a:Option Addr) (c:Nat) (a2:Option Addr) (c2:Nat) (Y:List Item),r = .tuple #[.slice a (Q2 (eh e) xs).length c,.slice a2 (an2 xs e).length c2]/\Sl κ (Y++T) (.slice a (Q2 (eh e) xs).length c) (Q2 (eh e) xs)/\J=vk 54 a2 c2 (an2 xs e)::(Y++I)):=by
 refine Ce2 Tryz.func184 C C ?_
 refine Ak<|Ge1 (Au (cs:=[_,_,_,_,_,_,_]) C C C) λb1=>Z ?_
 refine Ge1 (Aj J2 C) λb2=>Ge0 (Fb J2)<|Z ?_
 refine G.e (Ac c_ C C<|fh9 (Bg (Bg hl hT.fit) Ah) (⟨if e.v<e.u then e.v else e.u,if e.u<e.v then e.v else e.u,e.w,e.lb,e.sg,e.tm⟩:Lk) ch7 om) ?_
 rintro _ _ ⟨_,_,⟨M,q4,rfl,hi3,rfl⟩,rfl,rfl⟩
 refine Z ?_
 have a9:=hi3.le
 refine Z ?_
 refine Ba mixed<|Ee 9<|Z ?_
 refine D.bk8 (d:=35) C (λaa=>?_)<|λaa=>?_
 ·have bb:=(ad7 hi3 ha aa).1
  refine Dro 2 C (Aq C)<|Dro 3 C (Aq C)<|Dro 4 C (A2 (α:=Lk) (xs:=xs) A0 J2 C C (Bg (Bg hl hT.fit) Ah) om om)<|Dro 5 C (C6 (α:=Lk) (xs:=xs) J2 C (Bg (Bg hl hT.fit) Ah) om om)<|Dro 6 C (Bm (vs:=[_,_,_,_,_,_]) J2) ?_
  refine Dro 7 C (j8.fu1 (α:=Lk) (a:=(e_ xs M)) (b:=(⟨if e.v<e.u then e.v else e.u,if e.u<e.v then e.v else e.u,e.w,e.lb,e.sg,e.tm⟩:Lk)) dz5 C C)<|Z ?_
  refine Am C (λao=>Z ?_)<|λao=>Z ?_
  ·have ax:M<xs.length/\(Q2 (eh e) xs)=xs.set M (eh e):=ad7 hi3 ha aa
   have hE:(Q2 (eh e) xs)=xs:=by rw [ax.2];exact du4 (n:=eh e) ax.1 ao
   have a3:eh e∈xs:=by have h9:=Bp (xs:=xs) (i:=(M:Int)) om om;rw [show e_ xs M=eh e from ao] at h9;exact h9
   have hC:an2 xs e=[]:=B_ a3
   exact C3 C C C (vk 54 none 0 (an2 xs e)::([]++I)) (by unfold vk;rw [hC];exact (A9 (show Fit κ _ I from Az)<|B7 _ _)) ⟨a0,c0,none,0,[],by rw [hC,hE]<;>rfl,by rw [hE];exact hl,rfl⟩
  refine Dp C (λan=>?_)<|λan=>?_
  ·rw [aa] at an;exact absurd an dc
  refine Ak<|Gm C<|G.e (Ac c_ C C<|bi4 (xs:=xs) (Bg (Bg hl hT.fit) Ah) om) ?_
  rintro _ _ ⟨_,_,⟨ai,aj,rfl,rfl⟩,rfl,rfl⟩
  refine Z ?_
  refine Ge0 (Cw (α:=Lk) (xs:=xs) (e:=82) (new:=⟨if e.v<e.u then e.v else e.u,if e.u<e.v then e.v else e.u,e.w,e.lb,e.sg,e.tm⟩) J2 C C C om om am)<|Z ?_
  refine Ba mixed<|Bx (vc 82 (.slice ai xs.length aj) (List.set xs ((M:Int)).toNat (⟨if e.v<e.u then e.v else e.u,if e.u<e.v then e.v else e.u,e.w,e.lb,e.sg,e.tm⟩))::e8 b2 [e7 (if e.v<e.u then e.v else e.u),e7 (if e.u<e.v then e.v else e.u),e7<|e.w,e7<|e.lb,e7<|e.sg,e7<|e.tm] 82::I) 5<|Z ?_
  refine C9 (rs:=[2,5]) kr C C<|Ej ?_<|Do ?_
  ·refine Sr C (Af W9 C) Ai ?_
   refine C9 (rs:=[3,5]) kr C C<|Ej ?_<|Do ?_
   ·refine Sr C (Bd ef) Ai ?_
    refine Cg kr ?_
    refine Ae 5 C (Ep ef) ?_
    rintro _ _ ⟨rfl,rfl⟩
    refine Dg (i:=6) kr C (Ap C) C C (Af H6 C) ?_
    refine Ae 7 C (Ep ef) ?_
    rintro _ _ ⟨rfl,rfl⟩
    refine Ch kr ?_
    refine Ao<|Ax<|Ba mixed<|Bx (vc 82 (.slice ai xs.length aj) (List.set xs ((M:Int)).toNat (⟨if e.v<e.u then e.v else e.u,if e.u<e.v then e.v else e.u,e.w,e.lb,e.sg,e.tm⟩))::e8 b2 [e7 (if e.v<e.u then e.v else e.u),e7 (if e.u<e.v then e.v else e.u),e7<|e.w,e7<|e.lb,e7<|e.sg,e7<|e.tm] 82::e8 b1 [e7 (e.kd),e7<|e.tm,e7 (if e.v<e.u then e.v else e.u),e7 (if e.u<e.v then e.v else e.u),e7<|e.w,e7<|e.lb,e7<|e.sg] 54::I) 5<|Z ?_
    refine Ds1 2<|Se1 C (B2 (α:=Ev) (cs:=[e7 (e.kd),e7<|e.tm,e7 (if e.v<e.u then e.v else e.u),e7 (if e.u<e.v then e.v else e.u),e7<|e.w,e7<|e.lb,e7<|e.sg]) (xs:=[⟨e.kd,e.tm,if e.v<e.u then e.v else e.u,if e.u<e.v then e.v else e.u,e.w,e.lb,e.sg⟩]) Ad s9 C C dc dc C kr C C) λay=>Z ?_
    have hE:List.set xs ((M:Int)).toNat (⟨if e.v<e.u then e.v else e.u,if e.u<e.v then e.v else e.u,e.w,e.lb,e.sg,e.tm⟩)=(Q2 (eh e) xs):=(ad7 hi3 ha aa).2.symm
    have ak:(Q2 (eh e) xs).length=xs.length:=by rw [←hE,Fo]
    have hC:an2 xs e=[ar4 e]:=An (bp8 hi3 ha aa ao)
    exact C3 C C C (vk 54 ay 1 (an2 xs e)::([vk 82 ai aj (Q2 (eh e) xs)]++I)) (by unfold vk;rw [hC,ak,←hE];exact Az) ⟨ai,aj,ay,1,[vk 82 ai aj (Q2 (eh e) xs)],by rw [hC,ak]<;>rfl,Cz<|Gi _ A_,rfl⟩
   refine Se0 C (Ep ef) ?_
   refine Ds1 3<|Sr C (Bd ef) Ai ?_
   refine Ds1 6<|Sr C (Af H6 C) Ai ?_
   refine Ds1 7<|Se0 C (Ep ef) ?_
   refine Dz<|Ao<|Ax<|Ba mixed<|Bx (vc 82 (.slice ai xs.length aj) (List.set xs ((M:Int)).toNat (⟨if e.v<e.u then e.v else e.u,if e.u<e.v then e.v else e.u,e.w,e.lb,e.sg,e.tm⟩))::e8 b2 [e7 (if e.v<e.u then e.v else e.u),e7 (if e.u<e.v then e.v else e.u),e7<|e.w,e7<|e.lb,e7<|e.sg,e7<|e.tm] 82::e8 b1 [e7 (e.kd),e7<|e.tm,e7 (if e.v<e.u then e.v else e.u),e7 (if e.u<e.v then e.v else e.u),e7<|e.w,e7<|e.lb,e7<|e.sg] 54::I) 5<|Z ?_
   refine Ds1 2<|Se1 C (B2 (α:=Ev) (cs:=[e7 (e.kd),e7<|e.tm,e7 (if e.v<e.u then e.v else e.u),e7 (if e.u<e.v then e.v else e.u),e7<|e.w,e7<|e.lb,e7<|e.sg]) (xs:=[⟨e.kd,e.tm,if e.v<e.u then e.v else e.u,if e.u<e.v then e.v else e.u,e.w,e.lb,e.sg⟩]) Ad s9 C C dc dc C kr C C) λa1=>Z ?_
   have hE:List.set xs ((M:Int)).toNat (⟨if e.v<e.u then e.v else e.u,if e.u<e.v then e.v else e.u,e.w,e.lb,e.sg,e.tm⟩)=(Q2 (eh e) xs):=(ad7 hi3 ha aa).2.symm
   have ak:(Q2 (eh e) xs).length=xs.length:=by rw [←hE,Fo]
   have hC:an2 xs e=[ar4 e]:=An (bp8 hi3 ha aa ao)
   exact C3 C C C (vk 54 a1 1 (an2 xs e)::([vk 82 ai aj (Q2 (eh e) xs)]++I)) (by unfold vk;rw [hC,ak,←hE];exact Az) ⟨ai,aj,a1,1,[vk 82 ai aj (Q2 (eh e) xs)],by rw [hC,ak]<;>rfl,Cz<|Gi _ A_,rfl⟩
  refine Se0 C (Ep ef) ?_
  refine Ds1 2<|Sr C (Af W9 C) Ai ?_
  refine Ds1 3<|Sr C (Bd ef) Ai ?_
  refine Ds1 6<|Sr C (Af H6 C) Ai ?_
  refine Ds1 7<|Se0 C (Ep ef) ?_
  refine Dz<|Ao<|Ax<|Ba mixed<|Ee 5<|Z ?_
  refine Ds1 2<|Se1 C (B2 (α:=Ev) (cs:=[e7 (e.kd),e7<|e.tm,e7 (if e.v<e.u then e.v else e.u),e7 (if e.u<e.v then e.v else e.u),e7<|e.w,e7<|e.lb,e7<|e.sg]) (xs:=[⟨e.kd,e.tm,if e.v<e.u then e.v else e.u,if e.u<e.v then e.v else e.u,e.w,e.lb,e.sg⟩]) Ad s9 C C dc dc C kr C C) λaz=>Z ?_
  have hE:List.set xs ((M:Int)).toNat (⟨if e.v<e.u then e.v else e.u,if e.u<e.v then e.v else e.u,e.w,e.lb,e.sg,e.tm⟩)=(Q2 (eh e) xs):=(ad7 hi3 ha aa).2.symm
  have ak:(Q2 (eh e) xs).length=xs.length:=by rw [←hE,Fo]
  have hC:an2 xs e=[ar4 e]:=An (bp8 hi3 ha aa ao)
  exact C3 C C C (vk 54 az 1 (an2 xs e)::([vk 82 ai aj (Q2 (eh e) xs)]++I)) (by unfold vk;rw [hC,ak,←hE];exact Az) ⟨ai,aj,az,1,[vk 82 ai aj (Q2 (eh e) xs)],by rw [hC,ak]<;>rfl,Cz<|Gi _ A_,rfl⟩
 refine Dpo 2 C<|Z ?_
 refine Dp C (λan=>?_)<|λan=>?_
 ·refine Ba mixed (Ee 7<|Z ?_)
  refine C9 (rs:=[1,4]) kr C C<|Ej ?_<|Do ?_
  ·refine Se C (Ac c_ C C<|bi4 (xs:=xs) (Bg (Bg hl hT.fit) Ah) om) ?_
   rintro _ _ ⟨_,_,⟨a7,a4,rfl,rfl⟩,rfl,rfl⟩
   refine ⟨Ai,?_⟩
   refine Ds1 4<|Se1 C (B2 (α:=Lk) (cs:=[e7 (if e.v<e.u then e.v else e.u),e7 (if e.u<e.v then e.v else e.u),e7<|e.w,e7<|e.lb,e7<|e.sg,e7<|e.tm]) (xs:=[⟨if e.v<e.u then e.v else e.u,if e.u<e.v then e.v else e.u,e.w,e.lb,e.sg,e.tm⟩]) A0 J2 C C dc dc C kr C C) λba=>?_
   refine Ds1 5<|Sc2 C (Ac c_ C C<|bi2 (i:=M) (xs:=xs) (ys:=([⟨if e.v<e.u then e.v else e.u,if e.u<e.v then e.v else e.u,e.w,e.lb,e.sg,e.tm⟩]:List Lk)) Az C C om tb0 lcn) λad ah=>Z ?_
   refine Ba mixed<|Bx (vk 82 ad ah (List.take M xs++([⟨if e.v<e.u then e.v else e.u,if e.u<e.v then e.v else e.u,e.w,e.lb,e.sg,e.tm⟩]:List Lk)++List.drop M xs)::e8 b2 [e7 (if e.v<e.u then e.v else e.u),e7 (if e.u<e.v then e.v else e.u),e7<|e.w,e7<|e.lb,e7<|e.sg,e7<|e.tm] 82::I) 5<|Z ?_
   refine C9 (rs:=[2,5]) kr C C<|Ej ?_<|Do ?_
   ·refine Sr C (Af W9 C) Ai ?_
    refine C9 (rs:=[3,5]) kr C C<|Ej ?_<|Do ?_
    ·refine Sr C (Bd ef) Ai ?_
     refine Cg kr ?_
     refine Ae 5 C (Ep ef) ?_
     rintro _ _ ⟨rfl,rfl⟩
     refine Dg (i:=6) kr C (Ap C) C C (Af H6 C) ?_
     refine Ae 7 C (Ep ef) ?_
     rintro _ _ ⟨rfl,rfl⟩
     refine Ch kr ?_
     refine Ao<|Ax<|Ba mixed<|Bx (vk 82 ad ah (List.take M xs++([⟨if e.v<e.u then e.v else e.u,if e.u<e.v then e.v else e.u,e.w,e.lb,e.sg,e.tm⟩]:List Lk)++List.drop M xs)::e8 b2 [e7 (if e.v<e.u then e.v else e.u),e7 (if e.u<e.v then e.v else e.u),e7<|e.w,e7<|e.lb,e7<|e.sg,e7<|e.tm] 82::e8 b1 [e7 (e.kd),e7<|e.tm,e7 (if e.v<e.u then e.v else e.u),e7 (if e.u<e.v then e.v else e.u),e7<|e.w,e7<|e.lb,e7<|e.sg] 54::I) 5<|Z ?_
     refine Ds1 2<|Se1 C (B2 (α:=Ev) (cs:=[e7 (e.kd),e7<|e.tm,e7 (if e.v<e.u then e.v else e.u),e7 (if e.u<e.v then e.v else e.u),e7<|e.w,e7<|e.lb,e7<|e.sg]) (xs:=[⟨e.kd,e.tm,if e.v<e.u then e.v else e.u,if e.u<e.v then e.v else e.u,e.w,e.lb,e.sg⟩]) Ad s9 C C dc dc C kr C C) λar=>Z ?_
     have hE:List.take M xs++([⟨if e.v<e.u then e.v else e.u,if e.u<e.v then e.v else e.u,e.w,e.lb,e.sg,e.tm⟩]:List Lk)++List.drop M xs=(Q2 (eh e) xs):=(af3 hi3 ha aa).symm
     have hC:an2 xs e=[ar4 e]:=An (ak8 hi3 ha aa)
     exact C3 C C C (vk 54 ar 1 (an2 xs e)::([vk 82 ad ah (Q2 (eh e) xs)]++I)) (by unfold vk;rw [hC,←hE];exact Az) ⟨ad,ah,ar,1,[vk 82 ad ah (Q2 (eh e) xs)],by rw [hC,←hE]<;>rfl,Cz<|Gi _ A_,rfl⟩
    refine Se0 C (Ep ef) ?_
    refine Ds1 3<|Sr C (Bd ef) Ai ?_
    refine Ds1 6<|Sr C (Af H6 C) Ai ?_
    refine Ds1 7<|Se0 C (Ep ef) ?_
    refine Dz<|Ao<|Ax<|Ba mixed<|Bx (vk 82 ad ah (List.take M xs++([⟨if e.v<e.u then e.v else e.u,if e.u<e.v then e.v else e.u,e.w,e.lb,e.sg,e.tm⟩]:List Lk)++List.drop M xs)::e8 b2 [e7 (if e.v<e.u then e.v else e.u),e7 (if e.u<e.v then e.v else e.u),e7<|e.w,e7<|e.lb,e7<|e.sg,e7<|e.tm] 82::e8 b1 [e7 (e.kd),e7<|e.tm,e7 (if e.v<e.u then e.v else e.u),e7 (if e.u<e.v then e.v else e.u),e7<|e.w,e7<|e.lb,e7<|e.sg] 54::I) 5<|Z ?_
    refine Ds1 2<|Se1 C (B2 (α:=Ev) (cs:=[e7 (e.kd),e7<|e.tm,e7 (if e.v<e.u then e.v else e.u),e7 (if e.u<e.v then e.v else e.u),e7<|e.w,e7<|e.lb,e7<|e.sg]) (xs:=[⟨e.kd,e.tm,if e.v<e.u then e.v else e.u,if e.u<e.v then e.v else e.u,e.w,e.lb,e.sg⟩]) Ad s9 C C dc dc C kr C C) λav=>Z ?_
    have hE:List.take M xs++([⟨if e.v<e.u then e.v else e.u,if e.u<e.v then e.v else e.u,e.w,e.lb,e.sg,e.tm⟩]:List Lk)++List.drop M xs=(Q2 (eh e) xs):=(af3 hi3 ha aa).symm
    have hC:an2 xs e=[ar4 e]:=An (ak8 hi3 ha aa)
    exact C3 C C C (vk 54 av 1 (an2 xs e)::([vk 82 ad ah (Q2 (eh e) xs)]++I)) (by unfold vk;rw [hC,←hE];exact Az) ⟨ad,ah,av,1,[vk 82 ad ah (Q2 (eh e) xs)],by rw [hC,←hE]<;>rfl,Cz<|Gi _ A_,rfl⟩
   refine Se0 C (Ep ef) ?_
   refine Ds1 2<|Sr C (Af W9 C) Ai ?_
   refine Ds1 3<|Sr C (Bd ef) Ai ?_
   refine Ds1 6<|Sr C (Af H6 C) Ai ?_
   refine Ds1 7<|Se0 C (Ep ef) ?_
   refine Dz<|Ao<|Ax<|Ba mixed<|Ee 5<|Z ?_
   refine Ds1 2<|Se1 C (B2 (α:=Ev) (cs:=[e7 (e.kd),e7<|e.tm,e7 (if e.v<e.u then e.v else e.u),e7 (if e.u<e.v then e.v else e.u),e7<|e.w,e7<|e.lb,e7<|e.sg]) (xs:=[⟨e.kd,e.tm,if e.v<e.u then e.v else e.u,if e.u<e.v then e.v else e.u,e.w,e.lb,e.sg⟩]) Ad s9 C C dc dc C kr C C) λau=>Z ?_
   have hE:List.take M xs++([⟨if e.v<e.u then e.v else e.u,if e.u<e.v then e.v else e.u,e.w,e.lb,e.sg,e.tm⟩]:List Lk)++List.drop M xs=(Q2 (eh e) xs):=(af3 hi3 ha aa).symm
   have hC:an2 xs e=[ar4 e]:=An (ak8 hi3 ha aa)
   exact C3 C C C (vk 54 au 1 (an2 xs e)::([vk 82 ad ah (Q2 (eh e) xs)]++I)) (by unfold vk;rw [hC,←hE];exact Az) ⟨ad,ah,au,1,[vk 82 ad ah (Q2 (eh e) xs)],by rw [hC,←hE]<;>rfl,Cz<|Gi _ A_,rfl⟩
  refine Se1 C (B2 (α:=Lk) (cs:=[e7 (if e.v<e.u then e.v else e.u),e7 (if e.u<e.v then e.v else e.u),e7<|e.w,e7<|e.lb,e7<|e.sg,e7<|e.tm]) (xs:=[⟨if e.v<e.u then e.v else e.u,if e.u<e.v then e.v else e.u,e.w,e.lb,e.sg,e.tm⟩]) A0 J2 C C dc dc C kr C C) λa8=>?_
  refine Ds1 1<|Se C (Ac c_ C C<|bi4 (xs:=xs) (Bg (Bg hl hT.fit) Ah) om) ?_
  rintro _ _ ⟨_,_,⟨a6,a5,rfl,rfl⟩,rfl,rfl⟩
  refine ⟨Ai,?_⟩
  refine Ds1 5<|Sc2 C (Ac c_ C C<|bi2 (i:=M) (xs:=xs) (ys:=([⟨if e.v<e.u then e.v else e.u,if e.u<e.v then e.v else e.u,e.w,e.lb,e.sg,e.tm⟩]:List Lk)) Az C C om tb0 lcn) λae ab=>Z ?_
  refine Ba mixed<|Bx (vk 82 ae ab (List.take M xs++([⟨if e.v<e.u then e.v else e.u,if e.u<e.v then e.v else e.u,e.w,e.lb,e.sg,e.tm⟩]:List Lk)++List.drop M xs)::e8 b2 [e7 (if e.v<e.u then e.v else e.u),e7 (if e.u<e.v then e.v else e.u),e7<|e.w,e7<|e.lb,e7<|e.sg,e7<|e.tm] 82::I) 5<|Z ?_
  refine C9 (rs:=[2,5]) kr C C<|Ej ?_<|Do ?_
  ·refine Sr C (Af W9 C) Ai ?_
   refine C9 (rs:=[3,5]) kr C C<|Ej ?_<|Do ?_
   ·refine Sr C (Bd ef) Ai ?_
    refine Cg kr ?_
    refine Ae 5 C (Ep ef) ?_
    rintro _ _ ⟨rfl,rfl⟩
    refine Dg (i:=6) kr C (Ap C) C C (Af H6 C) ?_
    refine Ae 7 C (Ep ef) ?_
    rintro _ _ ⟨rfl,rfl⟩
    refine Ch kr ?_
    refine Ao<|Ax<|Ba mixed<|Bx (vk 82 ae ab (List.take M xs++([⟨if e.v<e.u then e.v else e.u,if e.u<e.v then e.v else e.u,e.w,e.lb,e.sg,e.tm⟩]:List Lk)++List.drop M xs)::e8 b2 [e7 (if e.v<e.u then e.v else e.u),e7 (if e.u<e.v then e.v else e.u),e7<|e.w,e7<|e.lb,e7<|e.sg,e7<|e.tm] 82::e8 b1 [e7 (e.kd),e7<|e.tm,e7 (if e.v<e.u then e.v else e.u),e7 (if e.u<e.v then e.v else e.u),e7<|e.w,e7<|e.lb,e7<|e.sg] 54::I) 5<|Z ?_
    refine Ds1 2<|Se1 C (B2 (α:=Ev) (cs:=[e7 (e.kd),e7<|e.tm,e7 (if e.v<e.u then e.v else e.u),e7 (if e.u<e.v then e.v else e.u),e7<|e.w,e7<|e.lb,e7<|e.sg]) (xs:=[⟨e.kd,e.tm,if e.v<e.u then e.v else e.u,if e.u<e.v then e.v else e.u,e.w,e.lb,e.sg⟩]) Ad s9 C C dc dc C kr C C) λap=>Z ?_
    have hE:List.take M xs++([⟨if e.v<e.u then e.v else e.u,if e.u<e.v then e.v else e.u,e.w,e.lb,e.sg,e.tm⟩]:List Lk)++List.drop M xs=(Q2 (eh e) xs):=(af3 hi3 ha aa).symm
    have hC:an2 xs e=[ar4 e]:=An (ak8 hi3 ha aa)
    exact C3 C C C (vk 54 ap 1 (an2 xs e)::([vk 82 ae ab (Q2 (eh e) xs)]++I)) (by unfold vk;rw [hC,←hE];exact Az) ⟨ae,ab,ap,1,[vk 82 ae ab (Q2 (eh e) xs)],by rw [hC,←hE]<;>rfl,Cz<|Gi _ A_,rfl⟩
   refine Se0 C (Ep ef) ?_
   refine Ds1 3<|Sr C (Bd ef) Ai ?_
   refine Ds1 6<|Sr C (Af H6 C) Ai ?_
   refine Ds1 7<|Se0 C (Ep ef) ?_
   refine Dz<|Ao<|Ax<|Ba mixed<|Bx (vk 82 ae ab (List.take M xs++([⟨if e.v<e.u then e.v else e.u,if e.u<e.v then e.v else e.u,e.w,e.lb,e.sg,e.tm⟩]:List Lk)++List.drop M xs)::e8 b2 [e7 (if e.v<e.u then e.v else e.u),e7 (if e.u<e.v then e.v else e.u),e7<|e.w,e7<|e.lb,e7<|e.sg,e7<|e.tm] 82::e8 b1 [e7 (e.kd),e7<|e.tm,e7 (if e.v<e.u then e.v else e.u),e7 (if e.u<e.v then e.v else e.u),e7<|e.w,e7<|e.lb,e7<|e.sg] 54::I) 5<|Z ?_
   refine Ds1 2<|Se1 C (B2 (α:=Ev) (cs:=[e7 (e.kd),e7<|e.tm,e7 (if e.v<e.u then e.v else e.u),e7 (if e.u<e.v then e.v else e.u),e7<|e.w,e7<|e.lb,e7<|e.sg]) (xs:=[⟨e.kd,e.tm,if e.v<e.u then e.v else e.u,if e.u<e.v then e.v else e.u,e.w,e.lb,e.sg⟩]) Ad s9 C C dc dc C kr C C) λaw=>Z ?_
   have hE:List.take M xs++([⟨if e.v<e.u then e.v else e.u,if e.u<e.v then e.v else e.u,e.w,e.lb,e.sg,e.tm⟩]:List Lk)++List.drop M xs=(Q2 (eh e) xs):=(af3 hi3 ha aa).symm
   have hC:an2 xs e=[ar4 e]:=An (ak8 hi3 ha aa)
   exact C3 C C C (vk 54 aw 1 (an2 xs e)::([vk 82 ae ab (Q2 (eh e) xs)]++I)) (by unfold vk;rw [hC,←hE];exact Az) ⟨ae,ab,aw,1,[vk 82 ae ab (Q2 (eh e) xs)],by rw [hC,←hE]<;>rfl,Cz<|Gi _ A_,rfl⟩
  refine Se0 C (Ep ef) ?_
  refine Ds1 2<|Sr C (Af W9 C) Ai ?_
  refine Ds1 3<|Sr C (Bd ef) Ai ?_
  refine Ds1 6<|Sr C (Af H6 C) Ai ?_
  refine Ds1 7<|Se0 C (Ep ef) ?_
  refine Dz<|Ao<|Ax<|Ba mixed<|Ee 5<|Z ?_
  refine Ds1 2<|Se1 C (B2 (α:=Ev) (cs:=[e7 (e.kd),e7<|e.tm,e7 (if e.v<e.u then e.v else e.u),e7 (if e.u<e.v then e.v else e.u),e7<|e.w,e7<|e.lb,e7<|e.sg]) (xs:=[⟨e.kd,e.tm,if e.v<e.u then e.v else e.u,if e.u<e.v then e.v else e.u,e.w,e.lb,e.sg⟩]) Ad s9 C C dc dc C kr C C) λaq=>Z ?_
  have hE:List.take M xs++([⟨if e.v<e.u then e.v else e.u,if e.u<e.v then e.v else e.u,e.w,e.lb,e.sg,e.tm⟩]:List Lk)++List.drop M xs=(Q2 (eh e) xs):=(af3 hi3 ha aa).symm
  have hC:an2 xs e=[ar4 e]:=An (ak8 hi3 ha aa)
  exact C3 C C C (vk 54 aq 1 (an2 xs e)::([vk 82 ae ab (Q2 (eh e) xs)]++I)) (by unfold vk;rw [hC,←hE];exact Az) ⟨ae,ab,aq,1,[vk 82 ae ab (Q2 (eh e) xs)],by rw [hC,←hE]<;>rfl,Cz<|Gi _ A_,rfl⟩
 rw [aa] at an;exact absurd an dc
section
variable {p:Lk->Bool}{xs:List Lk}{j:Nat}{nw:Int}
theorem fp8(M:j<xs.length)(h:p (e_ xs j)=true):((List.take (j+1) xs).filter p).map (L9 nw)=((List.take j xs).filter p).map (L9 nw)++[L9 nw (e_ xs j)]:=by
 rw [Ca xs j M,Gj,Hr];simp [h]
theorem gb0(M:j<xs.length)(h:p (e_ xs j)=false):((List.take (j+1) xs).filter p).map (L9 nw)=((List.take j xs).filter p).map (L9 nw):=by
 rw [Ca xs j M,Gj,Hr];simp [h]
end
theorem dr8{κ:Ctx}{I:List Item}{nw:Int}{xs:List Lk}{g:FuncId}{aj:List Value}{p:Lk->Bool}(hl:Sl κ I (.slice a0 xs.length c0) xs)(ar:dp0 Tryz.prog κ I g aj p)(a1:xs.length<=1000000):eu Tryz.prog κ 185 [.slice a0 xs.length c0,e7 nw,.func (.func g) #[] aj.toArray] I (λr J=>∃(a:Option Addr) (c:Nat) (a2:Option Addr) (c2:Nat),r = .tuple #[.slice a (xs.filter (λx=> !p x)).length c,.slice a2 ((xs.filter p).map (L9 nw)).length c2]/\J=vk 54 a2 c2 ((xs.filter p).map (L9 nw))::vk 82 a c (xs.filter (λx=> !p x))::I):=by
 refine Ce3 Tryz.func185 C C<|Z ?_
 refine G.e (Ac c_ C C<|bi4 (xs:=xs) (A4 hl) om) ?_
 rintro _ _ ⟨_,_,⟨ad,ae,rfl,rfl⟩,rfl,rfl⟩
 refine Z ?_
 refine B9 (σ:=Nat×(Option Addr)×Nat×(List Ev)) (λs=>([(0,.slice ad (J6 (λx=> !p x) xs s.1).length ae),(1,e7 nw),(2,.func (.func g) #[] aj.toArray),(8,.slice s.2.1 s.2.2.2.length s.2.2.1),(9,e7<|((M7 (λx=> !p x) xs s.1:Nat):Int))]:Env)) (λs=>vk 54 s.2.1 s.2.2.1 s.2.2.2::vk 82 ad ae (J6 (λx=> !p x) xs s.1)::I) (λs=>(s.1<=xs.length)/\(s.2.2.2=((List.take s.1 xs).filter p).map (L9 nw))) (λs=>xs.length - s.1) (0,none,0,[]) ⟨om,rfl⟩ (Aa (Db C<|by first|rfl|(rw [U6])|(rw [M.1])|(rw [aa]))<|cx2<|Aa (Db C<|by first|rfl|(rw [U6])|(rw [M.1])|(rw [aa]))<|Aa (Em C<|by first|omega|(rw [aw3];rfl)|(dsimp only;have e1:=M.2;omega)|(dsimp only;have e1:=an;omega)) Bb) (by rw [U6];exact B7 _ _) ?_
 rintro ⟨j,a2,c2,ab⟩ hp
 dsimp only at hp ⊢
 obtain ⟨hj,ah⟩:=hp
 have az:=dy0 (P:=(λx=> !p x)) (xs:=xs) (j:=j)
 have ax:=be6 (P:=(λx=> !p x)) (xs:=xs) (j:=j)
 have aw:ab.length<=j:=by rw [ah,F_];exact G_ (Gs _ _) (by rw [Fp];omega)
 refine W.pull (vc.cap (xs:=(J6 (λx=> !p x) xs j)) mm) λay=>Z ?_
 refine Am C (λav=>Z ?_)<|λav=>Z ?_
 ·refine G.e (Cy ar.1 (first:=[]) (caps:=aj) C C C<|ar.2 (e_ (J6 (λx=> !p x) xs j) ((M7 (λx=> !p x) xs j:Nat):Int)) _ Ah) ?_
  rintro _ _ ⟨_,_,⟨rfl,rfl⟩,rfl,rfl⟩
  refine Z ?_
  refine Dp C (λak=>Z ?_)<|λak=>Z ?_
  ·have ai:=bs1 (P:=(λx=> !p x)) (xs:=xs) (j:=j) om
   have M:=dy1 (P:=(λx=> !p x)) (xs:=xs) (j:=j) om (by rw [←ai];exact ak)
   exact Bt ((j+1),(a2),(c2),(ab)) (by dsimp only;exact ⟨om,(by rw [gb0 om (by rw [←ai];simpa using ak)];exact ah)⟩) (hL:=(Aa (Db C<|by first|rfl|(rw [U6])|(rw [M.1])|(rw [aa]))<|cx2<|Aa (Db C<|by first|rfl|(rw [U6])|(rw [M.1])|(rw [aa]))<|Aa (Em C<|by first|omega|(rw [aw3];rfl)|(dsimp only;have e1:=M.2;omega)|(dsimp only;have e1:=an;omega)) Bb)) (hI:=by (try dsimp only);exact (by rw [M.1];exact Ai))
  have ao:(λx=> !p x) (e_ xs j)=false:=by rw [←bs1 (P:=(λx=> !p x)) (xs:=xs) (j:=j) om];exact ak
  have an:=fo5 (P:=(λx=> !p x)) (xs:=xs) (j:=j) om ao
  refine Z ?_
  refine G.e (Ac c_ C C<|ci2 (e_ (J6 (λx=> !p x) xs j) ((M7 (λx=> !p x) xs j:Nat):Int)) nw) ?_
  rintro _ _ ⟨_,_,⟨rfl,rfl⟩,rfl,rfl⟩
  refine Ge1 (B2 (α:=Ev) (cs:=[e7 2,e7 nw,e7<|(e_ (J6 (λx=> !p x) xs j) ((M7 (λx=> !p x) xs j:Nat):Int)).u,e7<|(e_ (J6 (λx=> !p x) xs j) ((M7 (λx=> !p x) xs j:Nat):Int)).v,e7 0,e7 0,e7 0]) (xs:=[⟨2,nw,(e_ (J6 (λx=> !p x) xs j) ((M7 (λx=> !p x) xs j:Nat):Int)).u,(e_ (J6 (λx=> !p x) xs j) ((M7 (λx=> !p x) xs j:Nat):Int)).v,0,0,0⟩]) Ad s9 C C dc dc C kr C C) λau=>?_
  refine Ge2 (Br (α:=Ev) (e:=54) (xs:=ab) (ys:=([⟨2,nw,(e_ (J6 (λx=> !p x) xs j) ((M7 (λx=> !p x) xs j:Nat):Int)).u,(e_ (J6 (λx=> !p x) xs j) ((M7 (λx=> !p x) xs j:Nat):Int)).v,0,0,0⟩]:List Ev)) Ad s9 C C C mm A5 lcn dc C<|λ_ _=>am) λap aq=>Z ?_
  refine Ba mixed<|Bx I 8<|Z ?_
  refine Dr 2 C (C2 (l:=M7 (λx=> !p x) xs j) A0 J2 C C (by simp only [Mj]<;>omega) om om)<|Z ?_
  refine Dr 6 C (C2 (l:=(M7 (λx=> !p x) xs j+1)) A0 J2 C C (by simp only [Mj]<;>omega) om om)<|Ds1 7<|Se0 C (Fk (α:=Lk) (k:=M7 (λx=> !p x) xs j) (q:=(xs.length - j - 1)) (R:=(J6 (λx=> !p x) xs<|j+1)++List.drop (M7 (λx=> !p x) xs j+(xs.length - j - 1)) (J6 (λx=> !p x) xs j)) (n:=(J6 (λx=> !p x) xs j).length) A0 J2 C lat C (Sl.dz8 (Cz (xs:=(J6 (λx=> !p x) xs j)) mm) om om) lat lat C (di2 om ao C) lat am)<|Z ?_
  refine Gr (E2 (h:=((J6 (λx=> !p x) xs j).length - 1)) A0 J2 C C om om)<|Ga C ?_
  have aa:(J6 (λx=> !p x) xs j).length - 1=(J6 (λx=> !p x) xs<|j+1).length:=by have h3:=be6 (P:=(λx=> !p x)) (xs:=xs) (j:=j+1);omega
  refine Dq (J:=vc 54 (.slice au 1 1) (([⟨2,nw,(e_ (J6 (λx=> !p x) xs j) ((M7 (λx=> !p x) xs j:Nat):Int)).u,(e_ (J6 (λx=> !p x) xs j) ((M7 (λx=> !p x) xs j:Nat):Int)).v,0,0,0⟩]:List Ev))::vk 54 ap aq (ab++([⟨2,nw,(e_ (J6 (λx=> !p x) xs j) ((M7 (λx=> !p x) xs j:Nat):Int)).u,(e_ (J6 (λx=> !p x) xs j) ((M7 (λx=> !p x) xs j:Nat):Int)).v,0,0,0⟩]:List Ev))::vk 82 ad ae (J6 (λx=> !p x) xs<|j+1)::I) (Fit.upd am (λw h=>by have h4:=fa6 (h:=((J6 (λx=> !p x) xs j).length - 1)) (by rw [By];omega) w h;rw [di1 aa] at h4;exact h4))<|Z ?_
  have ai:=bs1 (P:=(λx=> !p x)) (xs:=xs) (j:=j) om
  exact Bt ((j+1),(ap),(aq),(ab++([⟨2,nw,(e_ (J6 (λx=> !p x) xs j) ((M7 (λx=> !p x) xs j:Nat):Int)).u,(e_ (J6 (λx=> !p x) xs j) ((M7 (λx=> !p x) xs j:Nat):Int)).v,0,0,0⟩]:List Ev))) (by dsimp only;exact ⟨om,(by rw [fp8 om (by simpa using ao),←ah,ai];rfl)⟩) (hL:=(Aa (Db C<|by first|rfl|(rw [U6])|(rw [M.1])|(rw [aa]))<|cx2<|Aa (Db C<|by first|rfl|(rw [U6])|(rw [M.1])|(rw [aa]))<|Aa (Em C<|by first|omega|(rw [aw3];rfl)|(dsimp only;have e1:=M.2;omega)|(dsimp only;have e1:=an;omega)) Bb))
 have hE:(J6 (λx=> !p x) xs j)=(xs.filter<|λx=> !p x):=di3 om
 have hC:ab=(xs.filter p).map (L9 nw):=by rw [ah,Fv om]
 exact C3 C C C (vk 54 a2 c2 ((xs.filter p).map (L9 nw))::vk 82 ad ae (xs.filter<|λx=> !p x)::I) (by unfold vk;rw [←hE,←hC];exact Ai) ⟨ad,ae,a2,c2,by rw [←hE,←hC],rfl⟩
variable {κ:Ctx}{I:List Item}
theorem fc7{e:Ev}{xs:List Lk}(hT:Has I T)(hl:Sl κ T (.slice a0 xs.length c0) xs)(ha:xs.Pairwise Lk.lt)(av:xs.length<=1000000):eu Tryz.prog κ 171 [.agg #[e7 nd,.slice a0 xs.length c0],.agg (ez e).toArray] I (λr J=>∃(a:Option Addr) (c:Nat) (a2:Option Addr) (c2:Nat) (Y:List Item),r = .tuple #[.agg #[e7 nd,.slice a (ep xs e).length c],.slice a2 (P4 xs e).length c2]/\Sl κ (Y++T) (.slice a (ep xs e).length c) (ep xs e)/\J=vk 54 a2 c2 (P4 xs e)::(Y++I)):=by
 refine Ce2 Tryz.func171 C C ?_
 refine Ak<|Ge1 (Au (cs:=[_,_]) C C C) λb1=>Ge1 (Au (cs:=[_,_,_,_,_,_,_]) C C C) λb2=>Ge1 (Aj V3 C) λb3=>Z ?_
 refine Am C (λM=>Z ?_)<|λM=>Z ?_
 ·refine G.e (Ac c_ C C<|fr7 (T:=T) (e:=e) (xs:=xs) (by repeat (first|exact hT|exact Bf _|apply Be|apply B4)) hl ha om) ?_
  rintro _ _ ⟨_,_,⟨aq,ar,ak,an,Y8,rfl,au,rfl⟩,rfl,rfl⟩
  refine Dq (J:=vk 54 ak an (an2 xs e)::e8 b3 [e7 0,.slice none 0 0] 35::e8 b2 (ez e) 54::e8 b1 [e7 nd,.slice a0 xs.length c0] 35::(Y8++I)) (Cj<|List.Perm.cons _<|C1 (A:=Y8) (L:=[e8 b3 [e7 0,.slice none 0 0] 35,e8 b2 (ez e) 54,e8 b1 [e7 nd,.slice a0 xs.length c0] 35]) (T:=I))<|Z ?_
  refine Ge0 (Fc ap3)<|Z ?_
  refine Ge0 (Cs V3)<|Z ?_
  have hE:Q2 (eh e) xs=(ep xs e):=by unfold ep;rw [B_ M]
  have hC:an2 xs e=P4 xs e:=by unfold P4;rw [B_ M]
  exact Cp C V3 C C mm C (vk 54 ak an (P4 xs e)::(Y8++I)) (by unfold vk;rw [←hC];exact Az) ⟨aq,ar,ak,an,Y8,by rw [←hE,←hC]<;>rfl,by rw [←hE];exact au,rfl⟩
 refine Am C (λap=>Z ?_)<|λap=>Z ?_
 ·refine Gr (D0 C C) (G.e (Ac c_ C C<|dr8 (xs:=xs) (nw:=e.tm) (Bg hl<|A9 Ah hT.fit) (cx1 ap<|Dl mm) om) ?_)
  rintro _ _ ⟨_,_,⟨ao,aa,ai,ae,rfl,rfl⟩,rfl,rfl⟩
  refine Z ?_
  refine Ge0 (Fc ap3)<|Z ?_
  refine Ge0 (Cs V3)<|Z ?_
  have hE:List.filter (λx=> !ah5 e x) xs=(ep xs e):=by unfold ep;rw [An M]
  have hC:(xs.filter<|ah5 e).map (L9 e.tm)=P4 xs e:=by unfold P4;rw [An M]
  exact Cp C V3 C C mm C (vk 54 ai ae (P4 xs e)::([vk 82 ao aa (ep xs e)]++I)) (by unfold vk;rw [←hC,←hE];exact Az) ⟨ao,aa,ai,ae,[vk 82 ao aa (ep xs e)],by rw [←hE,←hC]<;>rfl,Cz<|Gi _ A_,rfl⟩
 refine Gr (D0 C C)<|G.e (Ac c_ C C<|dr8 (xs:=xs) (nw:=e.tm) (Bg hl<|A9 Ah hT.fit) (cx0 ap<|Dl mm) om) ?_
 rintro _ _ ⟨_,_,⟨ab,ad,aj,ah,rfl,rfl⟩,rfl,rfl⟩
 refine Z ?_
 refine Ge0 (Fc ap3)<|Z ?_
 refine Ge0 (Cs V3)<|Z ?_
 have hE:List.filter (λx=> !ah5 e x) xs=(ep xs e):=by unfold ep;rw [An M]
 have hC:(xs.filter<|ah5 e).map (L9 e.tm)=P4 xs e:=by unfold P4;rw [An M]
 exact Cp C V3 C C mm C (vk 54 aj ah (P4 xs e)::([vk 82 ab ad (ep xs e)]++I)) (by unfold vk;rw [←hC,←hE];exact Az) ⟨ab,ad,aj,ah,[vk 82 ab ad (ep xs e)],by rw [←hE,←hC]<;>rfl,Cz<|Gi _ A_,rfl⟩
theorem ds4{e:Ev}{xs:List Lk}(hl:Sl κ I (.slice a0 xs.length c0) xs)(hv:q7 nd xs=0)(hf:H7 nd e)(aj:xs.length<=100000):eu Tryz.prog κ 150 [.agg #[e7 nd,.slice a0 xs.length c0],.agg (ez e).toArray] I (λr J=>∃(a:Option Addr) (c:Nat) (a2:Option Addr) (c2:Nat),r = .tuple #[.agg #[e7 nd,.slice a (ep xs e).length c],.slice a2 (P4 xs e).length c2,e7 0]/\J=vk 82 a c (ep xs e)::vk 54 a2 c2 (P4 xs e)::I):=by
 refine Ce2 Tryz.func150 C C ?_
 refine Ak<|Ge1 (Au (cs:=[_,_]) C C C) λb1=>Ge1 (Au (cs:=[_,_,_,_,_,_,_]) C C C) λb2=>Ge1 (Aj V3 C) λb3=>Z ?_
 refine G.e (Ac c_ C C<|bi6 (nd:=nd)<|A4 hl) ?_
 rintro _ _ ⟨_,_,⟨rfl,rfl⟩,rfl,rfl⟩
 refine Z ?_
 refine Am C (λc13=>Z ?_)<|λc13=>?_
 ·refine Gc0 (Ac c_ C C<|fg5 nd e) (Z ?_)
  refine Am C (λae=>?_)<|λae=>Z ?_
  ·exact absurd (cf9.2 hf) ae
  refine G.e (Ac c_ C C<|fc7 (T:=I) (nd:=nd) (e:=e) (xs:=xs) (by repeat (first|exact hT|exact Bf _|apply Be|apply B4)) hl (Q4 hv).2.2 om) ?_
  rintro _ _ ⟨_,_,⟨ai,ak,ab,ad,Y8,rfl,ah,rfl⟩,rfl,rfl⟩
  refine Dq (J:=vk 54 ab ad (P4 xs e)::e8 b3 [e7 0,.slice none 0 0] 35::e8 b2 (ez e) 54::e8 b1 [e7 nd,.slice a0 xs.length c0] 35::(Y8++I)) (Cj<|List.Perm.cons _<|C1 (A:=Y8) (L:=[e8 b3 [e7 0,.slice none 0 0] 35,e8 b2 (ez e) 54,e8 b1 [e7 nd,.slice a0 xs.length c0] 35]) (T:=I))<|Z ?_
  refine Ge1 (Aj V3 C) λb9=>Ge0 (Cs V3)<|Z ?_
  refine G.e (Ac c_ C C<|bi4 (xs:=ep xs e) (Bg ah Ah)<|by have h:=ai0 xs e;omega) ?_
  rintro _ _ ⟨_,_,⟨aa,M,rfl,rfl⟩,rfl,rfl⟩
  refine Gf L6 C<|Ge0 (Fc ap3)<|Z ?_
  refine Ge0 (Cs V3)<|Z ?_
  exact Cu C V3 C C C mm C (vk 82 aa M (ep xs e)::vk 54 ab ad (P4 xs e)::I) Az ⟨aa,M,ab,ad,rfl,rfl⟩
 exact absurd hv c13
end Go.Sl
namespace Go.Sl
section
variable {ys:List Int}{m:Nat}{k:Int}
theorem fi6(hs:ys.Pairwise λa b=>a<=b){i j:Nat}(aa:i<=j)(M:j<ys.length):e_ ys i<=e_ ys j:=by
 by_cases e:i=j
 ·subst e;exact Hl _
 rw [K9 ys i (by omega),K9 ys j M]
 exact (H1.1 hs) i j (by omega) M<|by omega
theorem cs1(hs:ys.Pairwise λa b=>a<=b)(hm:m<ys.length)(h:k<=e_ ys m):ys.length - m<=(ys.filter λx=>decide (k<=x)).length:=by
 have h1:(ys.drop m).filter (λx=>decide<|k<=x)=ys.drop m:=Jk.2 λx M=>by
  obtain ⟨i,hi,rfl⟩:=Hu M
  rw [Fx] at hi
  rw [Lu,←K9 ys (m+i) (by omega)]
  have:=fi6 hs (i:=m) (j:=m+i) (by omega) (by omega)
  exact As<|by omega
 have h2:ys.filter (λx=>decide<|k<=x)=(ys.take m).filter (λx=>decide<|k<=x)++(ys.drop m).filter (λx=>decide<|k<=x):=by rw [←Gj,Jl]
 rw [h2,h1,By,Fx];omega
theorem cs0(hs:ys.Pairwise λa b=>a<=b)(hm:m<ys.length)(h:e_ ys m<k):(ys.filter λx=>decide (k<=x)).length<=ys.length - 1 - m:=by
 have h1:(ys.take<|m+1).filter (λx=>decide<|k<=x)=[]:=Jd.2 λx M=>by
  obtain ⟨i,hi,rfl⟩:=Hu M
  rw [Fp] at hi
  rw [Kh,←K9 ys i (by omega)]
  have:=fi6 hs (i:=i) (j:=m) (by omega) (by omega)
  simp;omega
 have h2:ys.filter (λx=>decide<|k<=x)=(ys.take<|m+1).filter (λx=>decide<|k<=x)++(ys.drop<|m+1).filter (λx=>decide<|k<=x):=by rw [←Gj,Jl]
 have h3:=Gs (λx=>decide<|k<=x) (ys.drop<|m+1)
 rw [Fx] at h3
 rw [h2,h1,Km];omega
theorem fz8{xs:List Int}{h:Nat}(hp:ys.Perm xs)(hs:ys.Pairwise λa b=>a<=b)(hh:h<=ys.length)(M:0<h->(h:Int) - 1<e_ ys (((ys.length - h:Nat)):Int))(aa:h<ys.length->e_ ys (((ys.length - 1 - h:Nat)):Int)<=h):HI xs h:=by
 have hf:∀k:Int,((xs.filter λx=>decide<|k<=x).length:Int)=((ys.filter λx=>decide<|k<=x).length:Int):=λk=>by rw [(hp.filter _).length_eq]
 refine ⟨by omega,?_,λk hk=>?_⟩
 ·rw [hf]
  by_cases h0:h=0
  ·omega
  have:=cs1 hs (m:=ys.length - h) (k:=(h:Int)) (by omega) (by have:=M (by omega);omega)
  omega
 rw [hf] at hk
 refine Gb λhlt=>?_
 by_cases hl:h<ys.length
 ·have:=cs0 hs (m:=ys.length - 1 - h) (k:=k) (by omega) (by have:=aa hl;omega)
  omega
 have:=Gs (λx=>decide<|k<=x) ys
 omega
end
end Go.Sl
namespace Go.Sl
open Go.Proofs
set_option maxRecDepth 4000
attribute [local irreducible] W G V D A j8 Eff
theorem H_ok{κ:Ctx}{I:List Item}{a0:Option Addr}{c0:Nat}{xs:List Int}(hl:Sl κ I (.slice a0 xs.length c0) xs)(hb:xs.length<=1000000):eu Tryz.prog κ 291 [.slice a0 xs.length c0] I (λr J=>∃h:Nat,r=e7 (h:Int)/\HI xs h/\I=J):=by
 have aa:=ad6 xs
 refine Ce1 Tryz.func291 C C<|Z ?_
 refine Gc2 (Ac c_ C C<|ah1 (xs:=xs) (A4 hl) om) λai ak=>Z ?_
 refine Gc1 (Ac c_ C C<|Cm (J:=vk 3 ai ak xs::I) Az<|cj5 om)<|Z ?_
 refine Dh (σ:=Nat) (λs=>[(3,e7 ((s:Nat):Int))]) (λ_=>[]) (λs=>(s<=xs.length)/\(0<s->(s:Int) - 1<e_ (V8 xs) (((xs.length - s:Nat)):Int))) (λs=>xs.length - s) 0 ⟨om,(λh=>absurd h om)⟩ ?_
 rintro h hp
 obtain ⟨hh,ad⟩:=hp
 have ah:h<xs.length->(((xs.length - (h+1):Nat)):Int)=(xs.length:Int) - 1 - (h:Int):=λh=>by omega
 have ab:h<xs.length->(((xs.length - 1 - h:Nat)):Int)=(xs.length:Int) - 1 - (h:Int):=λh=>by omega
 refine Z ?_
 refine A3 (d:=12) C (λaj=>Z ?_)<|λaj=>Z ?_
 ·refine Am C (λae=>Z ?_) (λae=>Z ?_)
  ·exact Bt ((h+1)) ⟨om,(λ_=>by rw [ah om];omega)⟩
  exact Al C C I Ah ⟨h,rfl,fz8 (ad5 xs) (bc7 xs) om (λM=>by rw [aa];exact ad M)<|λM=>by rw [aa] at M ⊢; rw [ab M];omega,rfl⟩
 exact Al C C I Ah ⟨h,rfl,fz8 (ad5 xs) (bc7 xs) om (λM=>by rw [aa];exact ad M)<|λM=>by rw [aa] at M ⊢; rw [ab M];omega,rfl⟩
end Go.Sl
namespace Go.Sl
section
variable {α:Type}[Enc α]{κ:Ctx}{I:List Item}
theorem Fit.ga2{e:TypeId}{a:Option Addr}{n c k:Nat}{xs:List α}(hn:n=xs.length)(hk:k<=xs.length):Fit κ (vc e (.slice a n c) xs::I) (vc e (.slice (N9 a c k (Enc.sz α)) (xs.drop k).length (c - k)) (xs.drop k)::I):=by
 subst hn
 refine Fit.upd (At.head _ _ _) λw h=>⟨?_,λj ⟨o,m,c',hv,hc⟩=>?_⟩
 ·obtain ⟨a',cap,hv,h1,h2,h3,h4⟩:=h
  cases hv
  refine ⟨_,c - k,rfl,r9 _,by rw [Fx];omega,by omega,λhc=>?_⟩
  obtain ⟨b,off,aa,M,hb,h5,h6⟩:=h4 (by omega)
  refine ⟨b,off+k*Enc.sz α,aa,by rw [M];unfold N9;rw [An (by omega)];simp [G9],hb,?_,λj u hj=>?_⟩
  ·have e1:(c - k)*Enc.sz α+k*Enc.sz α=c*Enc.sz α:=by rw [←Jg];congr 1;omega
   omega
  rw [Z3,Ju] at hj
  rw [Mf]
  exact h6 _ u hj
 injection hv with M hm hcc
 subst hcc
 unfold N9 at M
 rw [An (by omega)] at M
 obtain ⟨a',cap,hv,h1,h2,h3,h4⟩:=h
 cases hv
 obtain ⟨b,off,aa,h5,hb,_⟩:=h4 (by omega)
 subst h5
 simp only [Option.map_some,Jr,G9] at M
 injection M with hb1
 subst hb1
 exact ⟨off,_,c,rfl,by omega⟩
end
end Go.Sl
