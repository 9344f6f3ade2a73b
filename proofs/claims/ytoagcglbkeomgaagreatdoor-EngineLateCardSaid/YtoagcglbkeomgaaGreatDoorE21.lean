/- A part of the proofs of statements of this seat: contracts of functions, and the plain laws that they lean on. No conditions. -/
import Derived.Test.YtoagcglbkeomgaaGreatDoorE18
set_option linter.unusedVariables false
set_option linter.unusedSimpArgs false
set_option linter.unusedSectionVars false
set_option maxHeartbeats 1000000
namespace Go.Sl
theorem bt3{wd mo T:Int}:∀(n:Nat) (xs:List Lk) (out:List Ev),xs.length<=n->bi0 wd mo T xs out=((bi0 wd mo T xs []).1,out++(bi0 wd mo T xs []).2)
 |0,xs,out,h=>by
  have M:¬(0<xs.length/\ab4 xs+wd<=T):=by omega
  rw [Q3 M,Q3 M,Gt]
 |n+1,xs,out,h=>by
  by_cases M:0<xs.length/\ab4 xs+wd<=T
  ·have hl:=at2 (wd:=wd) (mo:=mo) M.1
   unfold gc5 at hl
   rw [ae3 M,ae3 (out:=[]) M,bt3 n _ (out++_) om,bt3 n _ ([]++_) om,Ko,Fu]
  rw [Q3 M,Q3 M,Gt]
section
variable {kd wd mo bd:Int}
theorem cu2(xs:List Lk)(out:List Ev)(e:Ev):q7 kd wd mo (xs,out) e=((q7 kd wd mo (xs,[]) e).1,out++(q7 kd wd mo (xs,[]) e).2):=by
 have M:R5 kd wd mo e.tm (xs,out)=((R5 kd wd mo e.tm (xs,[])).1,out++(R5 kd wd mo e.tm (xs,[])).2):=by
  unfold R5
  by_cases h:kd=2
  ·rw [B_ h,B_ h];exact bt3 _ _ _ (Gg _)
  rw [An h,An h,Gt]
 unfold q7
 rw [M]
 unfold ds5
 by_cases h:kd=3
 ·rw [B_ h,B_ h,Fu,Fu,Fu]
 rw [An h,An h,Fu]
def X7(kd wd mo:Int)(S:List Lk)(l:List Ev):List Lk×List Ev:=l.foldl (q7 kd wd mo) (S,[])
theorem du5(l:List Ev):∀(S:List Lk) (out:List Ev),l.foldl (q7 kd wd mo) (S,out)=((X7 kd wd mo S l).1,out++(X7 kd wd mo S l).2):=by
 induction l with
 |nil=>intro S out;unfold X7;rw [Lf,Lf,Gt]
 |cons e l ih=>
  intro S out
  unfold X7
  rw [H_,H_,cu2 S out e]
  have e1:q7 kd wd mo (S,[]) e=((q7 kd wd mo (S,[]) e).1,(q7 kd wd mo (S,[]) e).2):=rfl
  rw [e1,ih,ih,Fu]
theorem aq6(S:List Lk)(l m:List Ev):X7 kd wd mo S (l++m)=((X7 kd wd mo (X7 kd wd mo S l).1 m).1,(X7 kd wd mo S l).2++(X7 kd wd mo (X7 kd wd mo S l).1 m).2):=by
 conv=>lhs;unfold X7
 rw [Hf]
 have e1:l.foldl (q7 kd wd mo) (S,[])=((X7 kd wd mo S l).1,(X7 kd wd mo S l).2):=rfl
 rw [e1,du5]
def T4(t:Int)(l:List Ev):Int:=l.foldl (λ_ e=>e.tm) t
theorem bd9(t:Int)(l m:List Ev):T4 t (l++m)=T4 (T4 t l) m:=Hf ..
structure EnS where
 b:BfS
 S:List Lk
 tm:Int
def EnS.rel(kd wd mo:Int)(k:EnS)(b:BfS)(l:List Ev):EnS:=⟨b,(X7 kd wd mo k.S l).1,T4 k.tm l⟩
def EnS.feed(kd wd mo bd:Int)(k:EnS)(e:Ev):EnS:=k.rel kd wd mo (k.b.push bd e) (k.b.out bd e)
def EnS.cn3(kd wd mo bd:Int)(k:EnS)(e:Ev):List Ev:=(X7 kd wd mo k.S (k.b.out bd e)).2
def EnS.flush(kd wd mo:Int)(k:EnS):EnS:=k.rel kd wd mo k.b.flush k.b.ws
def EnS.da1(kd wd mo:Int)(k:EnS):List Ev:=(X7 kd wd mo k.S k.b.ws).2
def EnS.next(kd wd mo bd:Int)(k:EnS)(e:Ev):EnS:=if e.tm<=k.b.mr then k else k.feed kd wd mo bd e
def EnS.gc0(kd wd mo bd:Int)(k:EnS)(e:Ev):List Ev:=if e.tm<=k.b.mr then [] else k.cn3 kd wd mo bd e
def EnS.all(kd wd mo bd:Int)(k:EnS)(l:List Ev):EnS:=l.foldl (λk e=>k.next kd wd mo bd e) k
def BfS.next(bd:Int)(s:BfS)(e:Ev):BfS:=if e.tm<=s.mr then s else s.push bd e
def BfS.all(bd:Int)(s:BfS)(l:List Ev):BfS:=l.foldl (λs e=>s.next bd e) s
def BfS.outs(bd:Int):BfS->List Ev->List Ev
 |_,[]=>[]
 |s,e::l=>(if e.tm<=s.mr then [] else s.out bd e)++BfS.outs bd (s.next bd e) l
def BfS.an9(bd:Int):BfS->List Ev->Nat
 |_,[]=>0
 |s,e::l=>(if e.tm<=s.mr then 1 else 0)+BfS.an9 bd (s.next bd e) l
def EnS.outs(kd wd mo bd:Int):EnS->List Ev->List Ev
 |_,[]=>[]
 |k,e::l=>k.gc0 kd wd mo bd e++EnS.outs kd wd mo bd (k.next kd wd mo bd e) l
theorem dw3(k:EnS)(e:Ev):k.next kd wd mo bd e=k.rel kd wd mo (k.b.next bd e) (if e.tm<=k.b.mr then [] else k.b.out bd e)/\k.gc0 kd wd mo bd e=(X7 kd wd mo k.S (if e.tm<=k.b.mr then [] else k.b.out bd e)).2:=by
 unfold EnS.next EnS.gc0 BfS.next
 by_cases h:e.tm<=k.b.mr
 ·rw [B_ h,B_ h,B_ h,B_ h];exact ⟨rfl,rfl⟩
 rw [An h,An h,An h,An h];exact ⟨rfl,rfl⟩
theorem cg9:∀(l:List Ev) (k:EnS),k.all kd wd mo bd l=k.rel kd wd mo (k.b.all bd l) (BfS.outs bd k.b l)/\EnS.outs kd wd mo bd k l=(X7 kd wd mo k.S (BfS.outs bd k.b l)).2
 |[],k=>⟨rfl,rfl⟩
 |e::l,k=>by
  obtain ⟨M,h2⟩:=dw3 (kd:=kd) (wd:=wd) (mo:=mo) (bd:=bd) k e
  obtain ⟨h3,h4⟩:=cg9 l (k.next kd wd mo bd e)
  have hb:(k.next kd wd mo bd e).b=k.b.next bd e:=by rw [M];rfl
  constructor
  ·show (k.next kd wd mo bd e).all kd wd mo bd l=_
   rw [h3,hb,M]
   show (⟨_,_,_⟩:EnS)=⟨_,_,_⟩
   congr 1
   ·show (X7 kd wd mo (X7 kd wd mo k.S _).1 _).1=(X7 kd wd mo k.S<|_++_).1
    rw [aq6]
   show T4 (T4 k.tm _) _=T4 k.tm (_++_)
   rw [bd9]
  show k.gc0 kd wd mo bd e++EnS.outs kd wd mo bd (k.next kd wd mo bd e) l=_
  rw [h4,h2,hb,M]
  show _=(X7 kd wd mo k.S<|_++_).2
  rw [aq6];rfl
def gd8(bd:Int)(l:List Ev):List Ev:=BfS.outs bd ⟨-1, -1,[]⟩ l++(BfS.all bd ⟨-1, -1,[]⟩ l).ws
def EnS.run(kd wd mo bd:Int)(l:List Ev):EnS:=((⟨⟨-1, -1,[]⟩,[],0⟩:EnS).all kd wd mo bd l).flush kd wd mo
theorem run_eq(l:List Ev):EnS.run kd wd mo bd l=(⟨⟨-1, -1,[]⟩,[],0⟩:EnS).rel kd wd mo (BfS.all bd ⟨-1, -1,[]⟩ l).flush (gd8 bd l):=by
 unfold EnS.run EnS.flush
 rw [(cg9 l _).1]
 show (⟨_,_,_⟩:EnS)=⟨_,_,_⟩
 unfold gd8
 congr 1
 ·show (X7 kd wd mo (X7 kd wd mo [] _).1 _).1=(X7 kd wd mo []<|_++_).1
  rw [aq6];rfl
 show T4 (T4 0 _) _=T4 0 (_++_)
 rw [bd9];rfl
end
end Go.Sl
namespace Go.Sl
section
variable {kd wd mo bd:Int}
theorem BfS.by0:∀(l m:List Ev) (s:BfS),BfS.an9 bd s (l++m)=BfS.an9 bd s l+BfS.an9 bd (s.all bd l) m
 |[],m,s=>by show _=0+_;rw [Lu];rfl
 |e::l,m,s=>by
  show _+BfS.an9 bd (s.next bd e) (l++m)=_+BfS.an9 bd (s.next bd e) l+_
  rw [BfS.by0 l m,Mh];rfl
theorem au4.open_(h:0<=bd/\bd<=1048576):au4 bd ⟨-1, -1,[]⟩:=⟨h,by decide,by decide,(λe M=>by cases M),(λe M=>by cases M),List.Pairwise.nil⟩
theorem EnS.fp4(k:EnS)(l m:List Ev):k.all kd wd mo bd (l++m)=(k.all kd wd mo bd l).all kd wd mo bd m:=Hf ..
end
end Go.Sl
namespace Go.Sl
variable{T last:Int}{S xs:List Lk}{out:List Ev}
structure gh4 (nd kd wd mo last:Int) (S:List Lk) (e:Ev) (r:List Lk×List Ev):Prop where
 inv:SlI nd kd wd e.tm r.1
 st:r.1=r.2.foldl ep S
 fit:∀x∈r.2,J1 nd x
 asc:r.2.Pairwise λa b=>a.tm<=b.tm
 rng:∀x∈r.2,last<=x.tm/\x.tm<=e.tm
 has:e∈r.2
 cnt:kd=3->(r.1.length:Int)<=mo
 len:r.1.length<=S.length+1/\r.2.length<=2*S.length+2
structure AgX (nd wd last T:Int) (S xs:List Lk) (out:List Ev):Prop where
 inv:SlI nd 2 wd last xs
 st:xs=out.foldl ep S
 fit:∀e∈out,J1 nd e
 asc:out.Pairwise λa b=>a.tm<=b.tm
 le:∀e∈out,last<=e.tm/\e.tm<=T
 bef:∀e∈out,∀x∈xs,e.tm<=x.tm+wd
 sum:xs.length+out.length<=S.length
theorem AgX.step{nd wd mo:Int}(h:AgX nd wd last T S xs out)(h0:0<=last)(hT:T<=1048576)(hs:0<xs.length/\ab4 xs+wd<=T) :
  AgX nd wd last T S (xs.filter<|inW 2 wd mo (ab4 xs+wd) xs) (out++s6 2 wd mo (ab4 xs+wd) xs):=by
 have hf:=h.inv.first rfl hs.1
 obtain ⟨⟨x0,ab,e0⟩,ad⟩:=T1 hs.1
 have hg:∀c∈s6 2 wd mo (ab4 xs+wd) xs,c.tm=ab4 xs+wd:=λc hc=>(cn2 hc).2
 refine ⟨h.inv.filter _,?_,λe he=>?_,Kr.2 ⟨h.asc,?_,λa ha c hc=>?_⟩,λe he=>?_,λe he x hx=>?_,?_⟩
 ·rw [Hf,←h.st,ae1 h.inv.val]
 ·rcases Gu.1 he with he|he
  ·exact h.fit e he
  exact ak9 h.inv.val om e he
 ·unfold s6
  rw [Mu]
  exact dd9 (λa c=>Hn _) _
 ·rw [hg c hc,e0];exact h.bef a ha x0 ab
 ·rcases Gu.1 he with he|he
  ·exact h.le e he
  rw [hg e he];omega
 ·obtain ⟨aa,M⟩:=Gj.1 hx
  rcases Gu.1 he with he|he
  ·exact h.bef e he x aa
  rw [gc2] at M
  have:=Fs M
  rw [hg e he];omega
 have h1:=af8 2 wd mo (ab4 xs+wd) xs
 have h2:=h.sum
 rw [By];omega
theorem AgX.aged{nd wd mo:Int}(h:AgX nd wd last T S xs out)(h0:0<=last)(hl:last<=T)(hT:T<=1048576) :
  AgX nd wd last T S (bi0 wd mo T xs out).1 (bi0 wd mo T xs out).2/\SlI nd 2 wd T (bi0 wd mo T xs out).1:=by
 obtain ⟨M,h2⟩:=cp7 (mo:=mo) (P:=λxs out=>AgX nd wd last T S xs out) (λxs out hs hP=>hP.step h0 hT hs) xs.length xs out (Gg _) h
 exact ⟨M,M.inv.later hl λ_=>h2⟩
theorem cd5{nd kd wd mo:Int}{e:Ev}(h:SlI nd kd wd last S)(h0:0<=last)(hl:last<=e.tm)(M:J1 nd e)(hw:s7 kd wd mo=0):gh4 nd kd wd mo last S e (q7 kd wd mo (S,[]) e):=by
 have ab:=ah7 S e
 rcases ay4 hw with ⟨rfl,rfl,rfl⟩|⟨rfl,aa,rfl⟩|⟨rfl,rfl,hm⟩
 ·have hr:q7 1 0 0 (S,[]) e=(ep S e,[e]):=rfl
  rw [hr]
  refine ⟨(h.later hl λh2=>by cases h2).step M rfl (λh2=>by cases h2),rfl,λx hx=>?_,Lp _ _,λx hx=>?_,Ge.2 rfl,(λh2=>by cases h2),⟨ab,?_⟩⟩
  ·rw [Ge.1 hx];exact M
  ·rw [Ge.1 hx];omega
  simp
 ·have hA:AgX nd wd last e.tm S S []:=⟨h,rfl,(λe M=>by cases M),List.Pairwise.nil,(λe M=>by cases M),(λe M=>by cases M),by simp⟩
  obtain ⟨hG,hI⟩:=hA.aged (mo:=0) h0 hl M.tm.2
  have hr:q7 2 wd 0 (S,[]) e=(ep (bi0 wd 0 e.tm S []).1 e,(bi0 wd 0 e.tm S []).2++[e]):=rfl
  rw [hr]
  generalize bi0 wd 0 e.tm S []=a at hG hI
  have h1:=ah7 a.1 e
  have h2:=hG.sum
  refine ⟨hI.step M rfl<|λ_=>aa.1,?_,λx hx=>?_,Kr.2 ⟨hG.asc,Lp _ _,λx hx y hy=>?_⟩,λx hx=>?_,Ma _<|Ge.2 rfl,(λh2=>by cases h2),⟨?_,?_⟩⟩
  ·simp only;rw [Hf,←hG.st];rfl
  ·rcases Gu.1 hx with hx|hx
   ·exact hG.fit x hx
   rw [Ge.1 hx];exact M
  ·rw [Ge.1 hy];exact (hG.le x hx).2
  ·rcases Gu.1 hx with hx|hx
   ·exact hG.le x hx
   rw [Ge.1 hx];omega
  ·simp only;omega
  simp only [By,E_,Fw];omega
 have hr:q7 3 0 mo (S,[]) e=((ep S e).filter (inW 3 0 mo e.tm<|ep S e),[]++[e]++s6 3 0 mo e.tm (ep S e)):=rfl
 rw [hr,Ko]
 have hv:=J5 h.val M
 have hg:∀c∈s6 3 0 mo e.tm (ep S e),c.tm=e.tm:=λc hc=>(cn2 hc).2
 have h1:=af8 3 0 mo e.tm (ep S e)
 refine ⟨((h.later hl λh2=>by cases h2).step M rfl (λh2=>by cases h2)).filter _,?_,λx hx=>?_,?_,λx hx=>?_,Gk _<|Ge.2 rfl,λ_=>dx2 (P8.1 hv).2.2 hm.1,⟨?_,?_⟩⟩
 ·simp only;rw [Hf];exact (ae1 hv).symm
 ·rcases Gu.1 hx with hx|hx
  ·rw [Ge.1 hx];exact M
  exact ak9 hv M.tm x hx
 ·refine Kr.2 ⟨Lp _ _,?_,λa ha c hc=>?_⟩
  ·unfold s6
   rw [Mu]
   exact dd9 (λa c=>Hn _) _
  rw [Ge.1 ha,hg c hc];exact Hn _
 ·rcases Gu.1 hx with hx|hx
  ·rw [Ge.1 hx];omega
  rw [hg x hx];omega
 ·simp only;omega
 simp only [By,E_,Fw];omega
structure az1 (nd kd wd mo bd:Int) (k:EnS):Prop where
 win:s7 kd wd mo=0
 buf:au4 bd k.b
 fit:∀e∈k.b.ws,J1 nd e
 inv:SlI nd kd wd k.tm k.S
 tm:0<=k.tm/\k.tm<=1048576/\(k.tm<=k.b.mr\/k.tm=0)
 cnt:kd=3->(k.S.length:Int)<=mo
section
variable {nd kd wd mo bd:Int}
theorem dd8(hw:s7 kd wd mo=0):∀(l:List Ev) (S:List Lk) (last:Int),SlI nd kd wd last S->0<=last->(kd=3->(S.length:Int)<=mo)->(∀e∈l,J1 nd e/\last<=e.tm)->l.Pairwise (λa b=>a.tm<=b.tm)->
  SlI nd kd wd (T4 last l) (X7 kd wd mo S l).1/\(X7 kd wd mo S l).1=(X7 kd wd mo S l).2.foldl ep S/\(∀x∈(X7 kd wd mo S l).2,J1 nd x)/\(kd=3->((X7 kd wd mo S l).1.length:Int)<=mo)/\last<=T4 last l/\(T4 last l=last\/∃e∈l,T4 last l=e.tm)/\(X7 kd wd mo S l).1.length<=S.length+l.length
 |[],S,last,h,h0,hc,_,_=>⟨h,rfl,(λx hx=>by cases hx),hc,Hn _,.inl rfl,Gg _⟩
 |e::l,S,last,h,h0,hc,hl,ha=>by
  obtain ⟨he,ad⟩:=hl e A_
  obtain ⟨aa,ab⟩:=Gh.1 ha
  have hs:=cd5 h h0 ad he hw
  obtain ⟨r1,r2,r3,r4,r5,M,r7⟩:=dd8 hw l (q7 kd wd mo (S,[]) e).1 e.tm hs.inv om hs.cnt (λx hx=>⟨(hl x<|C_ _ hx).1,aa x hx⟩) ab
  have e1:X7 kd wd mo S (e::l)=((X7 kd wd mo (q7 kd wd mo (S,[]) e).1 l).1,(q7 kd wd mo (S,[]) e).2++(X7 kd wd mo (q7 kd wd mo (S,[]) e).1 l).2):=aq6 S [e] l
  have e2:T4 last (e::l)=T4 e.tm l:=rfl
  rw [e1,e2]
  refine ⟨r1,?_,λx hx=>?_,r4,by omega,?_,?_⟩
  ·simp only;rw [Hf,←hs.st];exact r2
  ·rcases Gu.1 hx with hx|hx
   ·exact hs.fit x hx
   exact r3 x hx
  ·rcases M with M|⟨x,hx,M⟩
   ·exact .inr ⟨e,A_,M⟩
   exact .inr ⟨x,C_ _ hx,M⟩
  have:=hs.len.1
  simp only [E_];omega
theorem az1.open_(h:0<=nd/\nd<=64)(M:s7 kd wd mo=0)(hb:0<=bd/\bd<=1048576):az1 nd kd wd mo bd ⟨⟨-1, -1,[]⟩,[],0⟩:=
 ⟨M,au4.open_ hb,(λe he=>by cases he),SlI.nil h,by simp,λhk=>by
  rcases ay4 M with ⟨rfl,_⟩|⟨rfl,_⟩|⟨_,_,hm⟩
  ·cases hk
  ·cases hk
  show ((0:Nat):Int)<=mo;omega⟩
theorem az1.feed{k:EnS}(h:az1 nd kd wd mo bd k){e:Ev}(he:J1 nd e)(ht:k.b.mr<e.tm):az1 nd kd wd mo bd (k.feed kd wd mo bd e):=by
 have hb:=h.buf.push he.chk ht he.tm.2
 obtain ⟨h1,h2⟩:=h.buf.out (e:=e) ht
 have M:∀x∈K4 k.b e,J1 nd x:=λx hx=>by
  rcases mem_push.1 hx with rfl|hx
  ·exact he
  exact h.fit x hx
 have hm:=h.buf.mr
 have aa:=h.tm
 obtain ⟨r1,r2,r3,r4,r5,r6,r7⟩:=dd8 h.win (k.b.out bd e) k.S k.tm h.inv aa.1 h.cnt (λx hx=>by
  have h3:=M x (ba0.1 hx).1
  have:=h1 x hx
  have:=h3.tm
  exact ⟨h3,by omega⟩) h2
 refine ⟨h.win,hb,λx hx=>M x (av7.1 hx).1,r1,?_,r4⟩
 show 0<=T4 k.tm _/\T4 k.tm _<=1048576/\(T4 k.tm _<=max k.b.mr (ah3 bd k.b e)\/T4 k.tm _=0)
 rcases r6 with r6|⟨x,hx,r6⟩
 ·rw [r6];omega
 have h3:=h1 x hx
 have h4:=(M x (ba0.1 hx).1).tm
 have h5:(k.b.push bd e).mr=max k.b.mr (ah3 bd k.b e):=rfl
 rw [r6];omega
theorem az1.flush{k:EnS}(h:az1 nd kd wd mo bd k):az1 nd kd wd mo bd (k.flush kd wd mo):=by
 have hm:=h.buf.mr
 have aa:=h.tm
 obtain ⟨r1,r2,r3,r4,r5,r6,r7⟩:=dd8 h.win k.b.ws k.S k.tm h.inv aa.1 h.cnt (λx M=>by
  have h3:=h.fit x M
  have:=h.buf.rng x M
  have:=h3.tm
  exact ⟨h3,by omega⟩) h.buf.asc
 refine ⟨h.win,h.buf.flush om,(λe he=>by cases he),r1,?_,r4⟩
 show 0<=T4 k.tm _/\T4 k.tm _<=1048576/\(T4 k.tm _<=k.b.lt\/T4 k.tm _=0)
 rcases r6 with r6|⟨x,M,r6⟩
 ·rw [r6];omega
 have h3:=h.buf.rng x M
 have h4:=(h.fit x M).tm
 rw [r6];omega
end
end Go.Sl
namespace Go.Sl
open Go.Proofs
set_option maxRecDepth 4000
variable{xs:List Lk}{i j:Nat}{q:Bool}{kd mo t:Int}
section
variable {nd:Int}{X:List Lk}{e:Ev}
def aq9(e:Ev):Ev:=⟨e.kd,e.tm,(eh e).u,(eh e).v,e.w,e.lb,e.sg⟩
def am9(xs:List Lk)(e:Ev):List Ev:=if eh e∈xs then [] else [aq9 e]
def P4(xs:List Lk)(e:Ev):List Ev:=if e.kd=1 then am9 xs e else (xs.filter (ah4 e)).map (L9 e.tm)
theorem ax7{n:Lk}:∀{xs:List Lk},xs.Pairwise Lk.lt->n∈xs->(Q0 n xs).length=xs.length
 |[],_,h=>by cases h
 |l::ls,ha,h=>by
  obtain ⟨h1,h2⟩:=Gh.1 ha
  unfold Q0
  rcases Fy.1 h with rfl|h
  ·rw [An (show ¬Lk.lt n n from λq=>Pt.lin.irr _ q),B_ rfl]
  have M:Lk.lt l n:=h1 n h
  rw [An (show ¬Lk.lt n l from λq=>Pt.lin.asymm M q),An (show ¬l.p=n.p from λq=>by unfold Lk.lt at M;rw [q] at M;exact Pt.lin.irr _ M),E_,ax7 h2 h,E_]
theorem dg5(ha:xs.Pairwise Lk.lt){a b:Lk}(h1:a∈xs)(h2:b∈xs)(hp:a.p=b.p):a=b:=by
 induction xs with
 |nil=>cases h1
 |cons l ls ih=>
  obtain ⟨h3,h4⟩:=Gh.1 ha
  rcases Fy.1 h1 with e1|h6<;>rcases Fy.1 h2 with e2|h7
  ·rw [e1,e2]
  ·have M:=h3 b h7;rw [←e1] at M;unfold Lk.lt at M;rw [hp] at M;exact absurd M (Pt.lin.irr _)
  ·have M:=h3 a h6;rw [←e2] at M;unfold Lk.lt at M;rw [hp] at M;exact absurd M (Pt.lin.irr _)
  exact ih h4 h6 h7
theorem bp1{n:Lk}(h:U5 Lk.cmp xs n i q)(ha:xs.Pairwise Lk.lt)(hq:q=true)(M:¬e_ xs i=n):n∉xs:=λhm=>by
 have h1:=h.is
 rw [hq] at h1
 obtain ⟨hi,h2⟩:=Fs h1.symm
 exact M<|dg5 ha (Bn om om) hm<|(Lk.as9 _ _).1 h2
theorem ak5{n:Lk}(h:U5 Lk.cmp xs n i q)(ha:xs.Pairwise Lk.lt)(hq:q=false):n∉xs:=λhm=>by
 have M:=Gb List.length (af0 h ha hq)
 rw [ax7 ha hm] at M
 have:=h.le
 simp at M;omega
theorem ar2{n:Lk}:∀{xs:List Lk} (p:Pt),p∈(Q0 n xs).map Lk.p↔p=n.p\/p∈xs.map Lk.p
 |[],p=>by unfold Q0;simp
 |l::ls,p=>by
  unfold Q0
  split
  ·simp
  split
  ·rename_i h;simp [h]
  rw [Hi,Fy,ar2 p,Hi,Fy]
  constructor
  ·rintro (h|h|h)
   ·exact .inr<|.inl h
   ·exact .inl h
   exact .inr<|.inr h
  rintro (h|h|h)
  ·exact .inr<|.inl h
  ·exact .inl h
  exact .inr<|.inr h
theorem as3(X:List Lk):j8 X=X.map Lk.p:=rfl
def chS(es0 es:List Pt)(c:Ev):List Pt:=if c.kd=1 then (if j4 c.u c.v∈es0 then es else z8 Pt.lt es (j4 c.u c.v)) else j6 es (j4 c.u c.v)
def chE(X:List Lk)(e:Ev)(j:Nat):List Pt:=((P4 X e).take j).foldl (chS (j8 X)) (j8 X)
theorem fa5:chE X e 0=j8 X:=rfl
theorem bs6(h:j<(P4 X e).length):chE X e (j+1)=chS (j8 X) (chE X e j) (e_ (P4 X e) j):=by
 unfold chE;rw [Ca _ j h,Hf];rfl
theorem co9{l:Lk}(h:l.u<l.v):j4 (L9 t l).u (L9 t l).v=l.p:=by
 show j4 l.u l.v=_
 unfold j4;rw [An om,B_ h];rfl
theorem bf4{es0:List Pt}:∀(l:List Lk) (es:List Pt),(∀x∈l,x.u<x.v)->(l.map (L9 t)).foldl (chS es0) es=es.filter λp=>decide (p∉l.map Lk.p)
 |[],es,_=>by
  rw [Ks,Lf]
  exact (Js.2 λp _=>by simp).symm
 |x::l,es,h=>by
  have M:chS es0 es (L9 t x)=j6 es x.p:=by
   unfold chS
   rw [co9 (h x A_)]
   exact An (show ¬((2:Int)=1) by decide)
  rw [Hi,H_,M,bf4 l _ λy hy=>h y<|C_ _ hy]
  unfold j6
  rw [List.filter_filter]
  refine Hy λp _=>?_
  rw [Hi,←Bool.decide_and,Ft,Fy,not_or]
  exact And.comm
theorem di6(hv:p9 nd X=0)(P:Lk->Bool):∀x∈X.filter P,x.u<x.v:=λx M=>(bj6 hv x (Gj.1 M).1).2.1
theorem ga1(hv:p9 nd X=0)(hf:J1 nd e):chE X e (P4 X e).length=j8 (ep X e):=by
 have ha:=(P8.1 hv).2.2
 have M:=J5 hv hf
 unfold chE
 rw [Hd]
 by_cases hk:e.kd=1
 ·have hs:ep X e=Q0 (eh e) X:=by unfold ep;rw [B_ hk]
  have hc:P4 X e=am9 X e:=by unfold P4;rw [B_ hk]
  rw [hs] at M
  have h0:=(G2 hv).asc
  have h1:=(G2 M).asc
  rw [hs,hc]
  unfold am9
  by_cases hm:eh e∈X
  ·rw [B_ hm,Lf]
   refine Pt.lin.uniq h0 h1 λp=>?_
   rw [as3,as3,ar2]
   exact ⟨.inr,λh=>h.elim (λh=>h▸Li hm) id⟩
  rw [An hm,H_,Lf]
  have he:j4 (aq9 e).u (aq9 e).v=(eh e).p:=K8 (e:=(eh e).p) (by
   have h2:e.u≠e.v:=(hf.ends.2.2 om).2
   show (if e.v<e.u then e.v else e.u)<(if e.u<e.v then e.v else e.u)
   split<;>split<;>omega)
  unfold chS
  rw [he,B_ (show (aq9 e).kd=1 from hk)]
  by_cases hp:(eh e).p∈j8 X
  ·rw [B_ hp]
   refine Pt.lin.uniq h0 h1 λp=>?_
   rw [as3 (Q0 _ _),ar2]
   exact ⟨.inr,λh=>h.elim (λh=>h▸hp) id⟩
  rw [An hp]
  refine Pt.lin.uniq (Pt.lin.z8 _ h0) h1 λp=>?_
  rw [ar3,as3<|Q0 _ _,ar2];rfl
 have hs:ep X e=X.filter λl=> !ah4 e l:=by unfold ep;rw [An hk]
 have hc:P4 X e=(X.filter<|ah4 e).map (L9 e.tm):=by unfold P4;rw [An hk]
 rw [hs] at M
 rw [hs,hc,bf4 _ _<|di6 hv _]
 refine Pt.lin.uniq ((G2 hv).asc.sublist Hg) (G2 M).asc λp=>?_
 rw [Gj,Gp]
 constructor
 ·rintro ⟨h1,h2⟩
  obtain ⟨l,hl,rfl⟩:=Gz.1 h1
  refine Li (f:=Lk.p)<|Gj.2 ⟨hl,?_⟩
  cases hh:ah4 e l with
  |false=>rfl
  |true=>exact absurd (Li (f:=Lk.p)<|Gj.2 ⟨hl,hh⟩) h2
 intro h1
 obtain ⟨l,hl,rfl⟩:=Gz.1 h1
 obtain ⟨h2,h3⟩:=Gj.1 hl
 refine ⟨Li (f:=Lk.p) h2,λh4=>?_⟩
 obtain ⟨l2,aa,e2⟩:=Gz.1 h4
 obtain ⟨h5,h6⟩:=Gj.1 aa
 have:=dg5 ha h5 h2 e2
 subst this
 rw [h6] at h3;cases h3
theorem s8.subl{es es':List Pt}(h:s8 nd es)(hs:es'.Sublist es):s8 nd es':=⟨h.rng,h.asc.sublist hs,λp M=>h.aa9 p (hs.subset M)⟩
structure ChJ (nd:Int) (X:List Lk) (es:List Pt) (c:Ev):Prop where
 ok:s8 nd es
 ends:F5 nd c.u c.v
 set:c.kd=1->es=j8 X
 cut:c.kd≠1->j4 c.u c.v∈es
theorem gg8(hv:p9 nd X=0)(hf:J1 nd e)(hj:j<(P4 X e).length):ChJ nd X (chE X e j) (e_ (P4 X e) j):=by
 have ha:=(P8.1 hv).2.2
 have hG:=G2 hv
 by_cases hk:e.kd=1
 ·have hc:P4 X e=am9 X e:=by unfold P4;rw [B_ hk]
  have hl:(am9 X e).length<=1:=by unfold am9;split<;>simp
  have ad:j=0:=by rw [hc] at hj;omega
  subst ad
  have he:e_ (P4 X e) ((0:Nat):Int)=aq9 e:=by
   rw [hc] at hj ⊢
   unfold am9 at hj ⊢
   split at hj
   ·cases hj
   rename_i h;rw [An h];rfl
  rw [he,fa5]
  have h2:=hf.ends.2.2 om
  have h3:=hf.ends.1
  have h4:=hf.fits
  refine ⟨hG,?_,λ_=>rfl,λh=>absurd hk h⟩
  show F5 nd (if e.v<e.u then e.v else e.u) (if e.u<e.v then e.v else e.u)
  unfold F5
  split<;>split<;>omega
 have hc:P4 X e=(X.filter<|ah4 e).map (L9 e.tm):=by unfold P4;rw [An hk]
 have M:j<(X.filter<|ah4 e).length:=by rw [hc,Gc] at hj;exact hj
 have he:e_ (P4 X e) j=L9 e.tm (e_ (X.filter<|ah4 e) (j:Int)):=by
  rw [hc,Cs _ j<|by rw [Gc];exact M,Cs _ j M,Jl]
 have hm:=Bn (xs:=X.filter (ah4 e)) (i:=(j:Int)) om om
 have hr:=bj6 hv _ (Gj.1 hm).1
 have hE:chE X e j=(j8 X).filter λp=>decide (p∉((X.filter<|ah4 e).take j).map Lk.p):=by
  unfold chE
  rw [hc,←List.map_take]
  exact bf4 _ _ λx hx=>di6 hv _ x<|Hx hx
 have ab:=Ca (X.filter<|ah4 e) j M
 have aa:=(ha.sublist Hg).sublist (Ld (j+1)<|X.filter<|ah4 e)
 rw [ab] at aa
 rw [he,hE]
 generalize e_ (X.filter<|ah4 e) (j:Int)=l at *
 refine ⟨hG.subl Hg,?_,λh=>absurd h (show ¬((2:Int)=1) by decide),λ_=>?_⟩
 ·show F5 nd l.u l.v
  unfold F5;omega
 rw [co9 hr.2.1,Gj,Gp]
 refine ⟨Li (f:=Lk.p) (Gj.1 hm).1,λh=>?_⟩
 obtain ⟨l2,ae,e2⟩:=Gz.1 h
 have h5:=(Kr.1 aa).2.2 l2 ae l (Ge.2 rfl)
 unfold Lk.lt at h5
 rw [e2] at h5
 exact Pt.lin.irr _ h5
theorem fo7(X:List Lk)(e:Ev):(P4 X e).length<=X.length+1:=by
 unfold P4
 split
 ·unfold am9;split<;>simp
 rw [Gc];exact Nat.le_succ_of_le (Gw _ _)
end
structure ch9 (wd T:Int) (P:List Lk) (tt:Int) (out:List Ev):Prop where
 le:tt<=T+1
 low:∀l∈P,tt<=l.tm+wd
 is:tt=T+1\/∃l∈P,l.tm+wd=tt
 out:out=if tt<=T then (P.filter λl=>decide<|l.tm+wd=tt).map (L9 tt) else []
section
variable {wd T tt:Int}{P:List Lk}{out:List Ev}{l:Lk}
theorem ch9.zero:ch9 wd T [] (T+1) []:=⟨by omega,(λl h=>by cases h),.inl rfl,by rw [An om]⟩
theorem ch9.less(h:ch9 wd T P tt out)(h1:l.tm+wd<tt):ch9 wd T (P++[l]) (l.tm+wd) [L9 (l.tm+wd) l]:=by
 have h2:=h.le
 refine ⟨by omega,λx hx=>?_,.inr ⟨l,by simp,rfl⟩,?_⟩
 ·rcases Gu.1 hx with hx|hx
  ·have:=h.low x hx;omega
  rw [Ge.1 hx];omega
 have M:(P.filter λx=>decide<|x.tm+wd=l.tm+wd)=[]:=Jk.2 λx hx=>by
  have:=h.low x hx
  simp;omega
 rw [B_ om,Gs,M]
 simp
theorem ch9.eq(h:ch9 wd T P tt out)(M:l.tm+wd=tt)(h2:tt<=T):ch9 wd T (P++[l]) tt (out++[L9 (l.tm+wd) l]):=by
 refine ⟨h.le,λx hx=>?_,?_,?_⟩
 ·rcases Gu.1 hx with hx|hx
  ·exact h.low x hx
  rw [Ge.1 hx];omega
 ·exact .inr ⟨l,by simp,M⟩
 have h3:=h.out
 rw [B_ h2] at h3 ⊢
 rw [Gs,Ht,←h3,M]
 simp [M]
theorem ch9.no(h:ch9 wd T P tt out)(h1:¬l.tm+wd<tt)(h2:¬(l.tm+wd=tt/\tt<=T)):ch9 wd T (P++[l]) tt out:=by
 refine ⟨h.le,λx hx=>?_,?_,?_⟩
 ·rcases Gu.1 hx with hx|hx
  ·exact h.low x hx
  rw [Ge.1 hx];omega
 ·rcases h.is with M|⟨x,hx,M⟩
  ·exact .inl M
  exact .inr ⟨x,Gk _ hx,M⟩
 have M:=h.out
 by_cases h4:tt<=T
 ·rw [B_ h4] at M ⊢
  rw [Gs,M]
  simp [show ¬l.tm+wd=tt by omega]
 rw [An h4] at M ⊢; exact M
def P3(kd wd mo T:Int)(X:List Lk):List Ev:=if kd=2/\0<X.length/\ab4 X+wd<=T then s6 2 wd mo (ab4 X+wd) X else []
theorem ch9.all(hk:kd=2)(h:ch9 wd T P tt out):out=P3 kd wd mo T P:=by
 unfold P3
 rw [h.out]
 by_cases h0:0<P.length
 ·obtain ⟨⟨x,hx,e⟩,hm⟩:=T1 h0
  have h1:=h.low x hx
  have h2:=h.le
  by_cases h3:ab4 P+wd<=T
  ·have M:tt=ab4 P+wd:=by
    rcases h.is with M|⟨y,hy,M⟩
    ·omega
    have:=hm y hy;omega
   rw [B_ om,B_ ⟨hk,h0,h3⟩,M]
   unfold s6
   congr 1
   refine Hy λy hy=>?_
   have:=hm y hy
   rw [gc2,←decide_not,Ft];omega
  have M:¬tt<=T:=by
   rcases h.is with M|⟨y,hy,M⟩
   ·omega
   have:=hm y hy;omega
  rw [An M,An (show ¬(kd=2/\0<P.length/\ab4 P+wd<=T) from λq=>h3 q.2.2)]
 have M:P=[]:=Kx.1 om
 subst M
 rw [An (show ¬(kd=2/\0<([]:List Lk).length/\ab4 []+wd<=T) from λq=>h0 q.2.1)];simp
theorem dv9{X:List Lk}(M:¬kd=2):P3 kd wd mo T X=[]:=An λq=>M q.1
theorem ck9{X:List Lk}:0<(P3 kd wd mo T X).length↔kd=2/\0<X.length/\ab4 X+wd<=T:=by
 unfold P3
 constructor
 ·intro h
  split at h
  ·assumption
  cases h
 intro h
 rw [B_ h]
 obtain ⟨⟨x,M,e⟩,hm⟩:=T1 h.2.1
 unfold s6
 rw [Gc]
 exact Kl<|Gj.2 ⟨M,by rw [gc2];simp;omega⟩
theorem dw0(kd wd mo T:Int)(X:List Lk):(P3 kd wd mo T X).length<=X.length:=by
 unfold P3 s6
 split
 ·rw [Gc];exact Gw _ _
 simp
end
end Go.Sl
namespace Go.Sl
open Go.Proofs
set_option maxRecDepth 4000
variable{T:List Item}{a0:Option Addr}{c0:Nat}{nd:Int}
attribute [local irreducible] W G V D A j7 Eff
theorem fq6{κ:Ctx}{I:List Item}{e:Ev}{xs:List Lk}(hT:Has I T)(hl:Sl κ T (.slice a0 xs.length c0) xs)(ha:xs.Pairwise Lk.lt)(bc:xs.length<=1000000):eu Tryz.prog κ 184 [.slice a0 xs.length c0,.agg (ez e).toArray] I (λr J=>∃(a:Option Addr) (c:Nat) (a2:Option Addr) (c2:Nat) (Y:List Item),r = .tuple #[.slice a (Q0 (eh e) xs).length c,.slice a2 (am9 xs e).length c2]/\Sl κ (Y++T) (.slice a (Q0 (eh e) xs).length c) (Q0 (eh e) xs)/\J=vk 54 a2 c2 (am9 xs e)::(Y++I)):=by
 refine Ce2 Tryz.func184 C C ?_
 refine Am<|Ge1 (Au (cs:=[_,_,_,_,_,_,_]) C C C) λb1=>Z ?_
 refine Ge1 (Aj J7 C) λb2=>Ge0 (Fl J7)<|Z ?_
 refine G.e (Ac c_ C C<|fg9 (Bd (Bd hl hT.fit) Ah) (⟨if e.v<e.u then e.v else e.u,if e.u<e.v then e.v else e.u,e.w,e.lb,e.sg,e.tm⟩:Lk) ch8 om) ?_
 rintro _ _ ⟨_,_,⟨M,q4,rfl,hi3,rfl⟩,rfl,rfl⟩
 refine Z ?_
 have a6:=hi3.le
 refine Z ?_
 refine A9 mixed<|Ed 9<|Z ?_
 refine D.bj9 (d:=35) C (λaa=>?_)<|λaa=>?_
 ·have bb:=(ad4 hi3 ha aa).1
  refine Dro 2 C (Aq C)<|Dro 3 C (Aq C)<|Dro 4 C (A2 (α:=Lk) (xs:=xs) A3 J7 C C (Bd (Bd hl hT.fit) Ah) om om)<|Dro 5 C (Da (α:=Lk) (xs:=xs) J7 C (Bd (Bd hl hT.fit) Ah) om om)<|Dro 6 C (Bm (vs:=[_,_,_,_,_,_]) J7) ?_
  refine Dro 7 C (j7.ft0 (α:=Lk) (a:=(e_ xs M)) (b:=(⟨if e.v<e.u then e.v else e.u,if e.u<e.v then e.v else e.u,e.w,e.lb,e.sg,e.tm⟩:Lk)) dy9 C C)<|Z ?_
  refine Al C (λao=>Z ?_)<|λao=>Z ?_
  ·have a1:M<xs.length/\(Q0 (eh e) xs)=xs.set M (eh e):=ad4 hi3 ha aa
   have hE:(Q0 (eh e) xs)=xs:=by rw [a1.2];exact dt7 (n:=eh e) a1.1 ao
   have a3:eh e∈xs:=by have h9:=Bn (xs:=xs) (i:=(M:Int)) om om;rw [show e_ xs M=eh e from ao] at h9;exact h9
   have hC:am9 xs e=[]:=B_ a3
   exact C3 C C C (vk 54 none 0 (am9 xs e)::([]++I)) (by unfold vk;rw [hC];exact (A7 (show Fit κ _ I from Az)<|B6 _ _)) ⟨a0,c0,none,0,[],by rw [hC,hE]<;>rfl,by rw [hE];exact hl,rfl⟩
  refine Dq C (λan=>?_)<|λan=>?_
  ·rw [aa] at an;exact absurd an dc
  refine Am<|Gm C<|G.e (Ac c_ C C<|bh5 (xs:=xs) (Bd (Bd hl hT.fit) Ah) om) ?_
  rintro _ _ ⟨_,_,⟨ai,aj,rfl,rfl⟩,rfl,rfl⟩
  refine Z ?_
  refine Ge0 (Cv (α:=Lk) (xs:=xs) (e:=82) (new:=⟨if e.v<e.u then e.v else e.u,if e.u<e.v then e.v else e.u,e.w,e.lb,e.sg,e.tm⟩) J7 C C C om om am)<|Z ?_
  refine A9 mixed<|Bx (vc 82 (.slice ai xs.length aj) (List.set xs ((M:Int)).toNat (⟨if e.v<e.u then e.v else e.u,if e.u<e.v then e.v else e.u,e.w,e.lb,e.sg,e.tm⟩))::e8 b2 [e7 (if e.v<e.u then e.v else e.u),e7 (if e.u<e.v then e.v else e.u),e7<|e.w,e7<|e.lb,e7<|e.sg,e7<|e.tm] 82::I) 5<|Z ?_
  refine C8 (rs:=[2,5]) kr C C<|Ei ?_<|Do ?_
  ·refine Sr C (Af ag0 C) Ai ?_
   refine C8 (rs:=[3,5]) kr C C<|Ei ?_<|Do ?_
   ·refine Sr C (Bf ef) Ai ?_
    refine Cg kr ?_
    refine Ae 5 C (Er ef) ?_
    rintro _ _ ⟨rfl,rfl⟩
    refine Dg (i:=6) kr C (Ap C) C C (Af H6 C) ?_
    refine Ae 7 C (Er ef) ?_
    rintro _ _ ⟨rfl,rfl⟩
    refine Ch kr ?_
    refine Ao<|Ay<|A9 mixed<|Bx (vc 82 (.slice ai xs.length aj) (List.set xs ((M:Int)).toNat (⟨if e.v<e.u then e.v else e.u,if e.u<e.v then e.v else e.u,e.w,e.lb,e.sg,e.tm⟩))::e8 b2 [e7 (if e.v<e.u then e.v else e.u),e7 (if e.u<e.v then e.v else e.u),e7<|e.w,e7<|e.lb,e7<|e.sg,e7<|e.tm] 82::e8 b1 [e7 (e.kd),e7<|e.tm,e7 (if e.v<e.u then e.v else e.u),e7 (if e.u<e.v then e.v else e.u),e7<|e.w,e7<|e.lb,e7<|e.sg] 54::I) 5<|Z ?_
    refine Ds1 2<|Se1 C (B0 (α:=Ev) (cs:=[e7 (e.kd),e7<|e.tm,e7 (if e.v<e.u then e.v else e.u),e7 (if e.u<e.v then e.v else e.u),e7<|e.w,e7<|e.lb,e7<|e.sg]) (xs:=[⟨e.kd,e.tm,if e.v<e.u then e.v else e.u,if e.u<e.v then e.v else e.u,e.w,e.lb,e.sg⟩]) Ad z6 C C dc dc C kr C C) λay=>Z ?_
    have hE:List.set xs ((M:Int)).toNat (⟨if e.v<e.u then e.v else e.u,if e.u<e.v then e.v else e.u,e.w,e.lb,e.sg,e.tm⟩)=(Q0 (eh e) xs):=(ad4 hi3 ha aa).2.symm
    have ak:(Q0 (eh e) xs).length=xs.length:=by rw [←hE,Fq]
    have hC:am9 xs e=[aq9 e]:=An (bp1 hi3 ha aa ao)
    exact C3 C C C (vk 54 ay 1 (am9 xs e)::([vk 82 ai aj (Q0 (eh e) xs)]++I)) (by unfold vk;rw [hC,ak,←hE];exact Az) ⟨ai,aj,ay,1,[vk 82 ai aj (Q0 (eh e) xs)],by rw [hC,ak]<;>rfl,Cy<|Gk _ A_,rfl⟩
   refine Se0 C (Er ef) ?_
   refine Ds1 3<|Sr C (Bf ef) Ai ?_
   refine Ds1 6<|Sr C (Af H6 C) Ai ?_
   refine Ds1 7<|Se0 C (Er ef) ?_
   refine Dz<|Ao<|Ay<|A9 mixed<|Bx (vc 82 (.slice ai xs.length aj) (List.set xs ((M:Int)).toNat (⟨if e.v<e.u then e.v else e.u,if e.u<e.v then e.v else e.u,e.w,e.lb,e.sg,e.tm⟩))::e8 b2 [e7 (if e.v<e.u then e.v else e.u),e7 (if e.u<e.v then e.v else e.u),e7<|e.w,e7<|e.lb,e7<|e.sg,e7<|e.tm] 82::e8 b1 [e7 (e.kd),e7<|e.tm,e7 (if e.v<e.u then e.v else e.u),e7 (if e.u<e.v then e.v else e.u),e7<|e.w,e7<|e.lb,e7<|e.sg] 54::I) 5<|Z ?_
   refine Ds1 2<|Se1 C (B0 (α:=Ev) (cs:=[e7 (e.kd),e7<|e.tm,e7 (if e.v<e.u then e.v else e.u),e7 (if e.u<e.v then e.v else e.u),e7<|e.w,e7<|e.lb,e7<|e.sg]) (xs:=[⟨e.kd,e.tm,if e.v<e.u then e.v else e.u,if e.u<e.v then e.v else e.u,e.w,e.lb,e.sg⟩]) Ad z6 C C dc dc C kr C C) λax=>Z ?_
   have hE:List.set xs ((M:Int)).toNat (⟨if e.v<e.u then e.v else e.u,if e.u<e.v then e.v else e.u,e.w,e.lb,e.sg,e.tm⟩)=(Q0 (eh e) xs):=(ad4 hi3 ha aa).2.symm
   have ak:(Q0 (eh e) xs).length=xs.length:=by rw [←hE,Fq]
   have hC:am9 xs e=[aq9 e]:=An (bp1 hi3 ha aa ao)
   exact C3 C C C (vk 54 ax 1 (am9 xs e)::([vk 82 ai aj (Q0 (eh e) xs)]++I)) (by unfold vk;rw [hC,ak,←hE];exact Az) ⟨ai,aj,ax,1,[vk 82 ai aj (Q0 (eh e) xs)],by rw [hC,ak]<;>rfl,Cy<|Gk _ A_,rfl⟩
  refine Se0 C (Er ef) ?_
  refine Ds1 2<|Sr C (Af ag0 C) Ai ?_
  refine Ds1 3<|Sr C (Bf ef) Ai ?_
  refine Ds1 6<|Sr C (Af H6 C) Ai ?_
  refine Ds1 7<|Se0 C (Er ef) ?_
  refine Dz<|Ao<|Ay<|A9 mixed<|Ed 5<|Z ?_
  refine Ds1 2<|Se1 C (B0 (α:=Ev) (cs:=[e7 (e.kd),e7<|e.tm,e7 (if e.v<e.u then e.v else e.u),e7 (if e.u<e.v then e.v else e.u),e7<|e.w,e7<|e.lb,e7<|e.sg]) (xs:=[⟨e.kd,e.tm,if e.v<e.u then e.v else e.u,if e.u<e.v then e.v else e.u,e.w,e.lb,e.sg⟩]) Ad z6 C C dc dc C kr C C) λaz=>Z ?_
  have hE:List.set xs ((M:Int)).toNat (⟨if e.v<e.u then e.v else e.u,if e.u<e.v then e.v else e.u,e.w,e.lb,e.sg,e.tm⟩)=(Q0 (eh e) xs):=(ad4 hi3 ha aa).2.symm
  have ak:(Q0 (eh e) xs).length=xs.length:=by rw [←hE,Fq]
  have hC:am9 xs e=[aq9 e]:=An (bp1 hi3 ha aa ao)
  exact C3 C C C (vk 54 az 1 (am9 xs e)::([vk 82 ai aj (Q0 (eh e) xs)]++I)) (by unfold vk;rw [hC,ak,←hE];exact Az) ⟨ai,aj,az,1,[vk 82 ai aj (Q0 (eh e) xs)],by rw [hC,ak]<;>rfl,Cy<|Gk _ A_,rfl⟩
 refine Dpo 2 C<|Z ?_
 refine Dq C (λan=>?_)<|λan=>?_
 ·refine A9 mixed (Ed 7<|Z ?_)
  refine C8 (rs:=[1,4]) kr C C<|Ei ?_<|Do ?_
  ·refine Se C (Ac c_ C C<|bh5 (xs:=xs) (Bd (Bd hl hT.fit) Ah) om) ?_
   rintro _ _ ⟨_,_,⟨a4,a8,rfl,rfl⟩,rfl,rfl⟩
   refine ⟨Ai,?_⟩
   refine Ds1 4<|Se1 C (B0 (α:=Lk) (cs:=[e7 (if e.v<e.u then e.v else e.u),e7 (if e.u<e.v then e.v else e.u),e7<|e.w,e7<|e.lb,e7<|e.sg,e7<|e.tm]) (xs:=[⟨if e.v<e.u then e.v else e.u,if e.u<e.v then e.v else e.u,e.w,e.lb,e.sg,e.tm⟩]) A3 J7 C C dc dc C kr C C) λa5=>?_
   refine Ds1 5<|Sc2 C (Ac c_ C C<|bh2 (i:=M) (xs:=xs) (ys:=([⟨if e.v<e.u then e.v else e.u,if e.u<e.v then e.v else e.u,e.w,e.lb,e.sg,e.tm⟩]:List Lk)) Az C C om tb0 lcn) λad ah=>Z ?_
   refine A9 mixed<|Bx (vk 82 ad ah (List.take M xs++([⟨if e.v<e.u then e.v else e.u,if e.u<e.v then e.v else e.u,e.w,e.lb,e.sg,e.tm⟩]:List Lk)++List.drop M xs)::e8 b2 [e7 (if e.v<e.u then e.v else e.u),e7 (if e.u<e.v then e.v else e.u),e7<|e.w,e7<|e.lb,e7<|e.sg,e7<|e.tm] 82::I) 5<|Z ?_
   refine C8 (rs:=[2,5]) kr C C<|Ei ?_<|Do ?_
   ·refine Sr C (Af ag0 C) Ai ?_
    refine C8 (rs:=[3,5]) kr C C<|Ei ?_<|Do ?_
    ·refine Sr C (Bf ef) Ai ?_
     refine Cg kr ?_
     refine Ae 5 C (Er ef) ?_
     rintro _ _ ⟨rfl,rfl⟩
     refine Dg (i:=6) kr C (Ap C) C C (Af H6 C) ?_
     refine Ae 7 C (Er ef) ?_
     rintro _ _ ⟨rfl,rfl⟩
     refine Ch kr ?_
     refine Ao<|Ay<|A9 mixed<|Bx (vk 82 ad ah (List.take M xs++([⟨if e.v<e.u then e.v else e.u,if e.u<e.v then e.v else e.u,e.w,e.lb,e.sg,e.tm⟩]:List Lk)++List.drop M xs)::e8 b2 [e7 (if e.v<e.u then e.v else e.u),e7 (if e.u<e.v then e.v else e.u),e7<|e.w,e7<|e.lb,e7<|e.sg,e7<|e.tm] 82::e8 b1 [e7 (e.kd),e7<|e.tm,e7 (if e.v<e.u then e.v else e.u),e7 (if e.u<e.v then e.v else e.u),e7<|e.w,e7<|e.lb,e7<|e.sg] 54::I) 5<|Z ?_
     refine Ds1 2<|Se1 C (B0 (α:=Ev) (cs:=[e7 (e.kd),e7<|e.tm,e7 (if e.v<e.u then e.v else e.u),e7 (if e.u<e.v then e.v else e.u),e7<|e.w,e7<|e.lb,e7<|e.sg]) (xs:=[⟨e.kd,e.tm,if e.v<e.u then e.v else e.u,if e.u<e.v then e.v else e.u,e.w,e.lb,e.sg⟩]) Ad z6 C C dc dc C kr C C) λav=>Z ?_
     have hE:List.take M xs++([⟨if e.v<e.u then e.v else e.u,if e.u<e.v then e.v else e.u,e.w,e.lb,e.sg,e.tm⟩]:List Lk)++List.drop M xs=(Q0 (eh e) xs):=(af0 hi3 ha aa).symm
     have hC:am9 xs e=[aq9 e]:=An (ak5 hi3 ha aa)
     exact C3 C C C (vk 54 av 1 (am9 xs e)::([vk 82 ad ah (Q0 (eh e) xs)]++I)) (by unfold vk;rw [hC,←hE];exact Az) ⟨ad,ah,av,1,[vk 82 ad ah (Q0 (eh e) xs)],by rw [hC,←hE]<;>rfl,Cy<|Gk _ A_,rfl⟩
    refine Se0 C (Er ef) ?_
    refine Ds1 3<|Sr C (Bf ef) Ai ?_
    refine Ds1 6<|Sr C (Af H6 C) Ai ?_
    refine Ds1 7<|Se0 C (Er ef) ?_
    refine Dz<|Ao<|Ay<|A9 mixed<|Bx (vk 82 ad ah (List.take M xs++([⟨if e.v<e.u then e.v else e.u,if e.u<e.v then e.v else e.u,e.w,e.lb,e.sg,e.tm⟩]:List Lk)++List.drop M xs)::e8 b2 [e7 (if e.v<e.u then e.v else e.u),e7 (if e.u<e.v then e.v else e.u),e7<|e.w,e7<|e.lb,e7<|e.sg,e7<|e.tm] 82::e8 b1 [e7 (e.kd),e7<|e.tm,e7 (if e.v<e.u then e.v else e.u),e7 (if e.u<e.v then e.v else e.u),e7<|e.w,e7<|e.lb,e7<|e.sg] 54::I) 5<|Z ?_
    refine Ds1 2<|Se1 C (B0 (α:=Ev) (cs:=[e7 (e.kd),e7<|e.tm,e7 (if e.v<e.u then e.v else e.u),e7 (if e.u<e.v then e.v else e.u),e7<|e.w,e7<|e.lb,e7<|e.sg]) (xs:=[⟨e.kd,e.tm,if e.v<e.u then e.v else e.u,if e.u<e.v then e.v else e.u,e.w,e.lb,e.sg⟩]) Ad z6 C C dc dc C kr C C) λar=>Z ?_
    have hE:List.take M xs++([⟨if e.v<e.u then e.v else e.u,if e.u<e.v then e.v else e.u,e.w,e.lb,e.sg,e.tm⟩]:List Lk)++List.drop M xs=(Q0 (eh e) xs):=(af0 hi3 ha aa).symm
    have hC:am9 xs e=[aq9 e]:=An (ak5 hi3 ha aa)
    exact C3 C C C (vk 54 ar 1 (am9 xs e)::([vk 82 ad ah (Q0 (eh e) xs)]++I)) (by unfold vk;rw [hC,←hE];exact Az) ⟨ad,ah,ar,1,[vk 82 ad ah (Q0 (eh e) xs)],by rw [hC,←hE]<;>rfl,Cy<|Gk _ A_,rfl⟩
   refine Se0 C (Er ef) ?_
   refine Ds1 2<|Sr C (Af ag0 C) Ai ?_
   refine Ds1 3<|Sr C (Bf ef) Ai ?_
   refine Ds1 6<|Sr C (Af H6 C) Ai ?_
   refine Ds1 7<|Se0 C (Er ef) ?_
   refine Dz<|Ao<|Ay<|A9 mixed<|Ed 5<|Z ?_
   refine Ds1 2<|Se1 C (B0 (α:=Ev) (cs:=[e7 (e.kd),e7<|e.tm,e7 (if e.v<e.u then e.v else e.u),e7 (if e.u<e.v then e.v else e.u),e7<|e.w,e7<|e.lb,e7<|e.sg]) (xs:=[⟨e.kd,e.tm,if e.v<e.u then e.v else e.u,if e.u<e.v then e.v else e.u,e.w,e.lb,e.sg⟩]) Ad z6 C C dc dc C kr C C) λaw=>Z ?_
   have hE:List.take M xs++([⟨if e.v<e.u then e.v else e.u,if e.u<e.v then e.v else e.u,e.w,e.lb,e.sg,e.tm⟩]:List Lk)++List.drop M xs=(Q0 (eh e) xs):=(af0 hi3 ha aa).symm
   have hC:am9 xs e=[aq9 e]:=An (ak5 hi3 ha aa)
   exact C3 C C C (vk 54 aw 1 (am9 xs e)::([vk 82 ad ah (Q0 (eh e) xs)]++I)) (by unfold vk;rw [hC,←hE];exact Az) ⟨ad,ah,aw,1,[vk 82 ad ah (Q0 (eh e) xs)],by rw [hC,←hE]<;>rfl,Cy<|Gk _ A_,rfl⟩
  refine Se1 C (B0 (α:=Lk) (cs:=[e7 (if e.v<e.u then e.v else e.u),e7 (if e.u<e.v then e.v else e.u),e7<|e.w,e7<|e.lb,e7<|e.sg,e7<|e.tm]) (xs:=[⟨if e.v<e.u then e.v else e.u,if e.u<e.v then e.v else e.u,e.w,e.lb,e.sg,e.tm⟩]) A3 J7 C C dc dc C kr C C) λa7=>?_
  refine Ds1 1<|Se C (Ac c_ C C<|bh5 (xs:=xs) (Bd (Bd hl hT.fit) Ah) om) ?_
  rintro _ _ ⟨_,_,⟨ba,a9,rfl,rfl⟩,rfl,rfl⟩
  refine ⟨Ai,?_⟩
  refine Ds1 5<|Sc2 C (Ac c_ C C<|bh2 (i:=M) (xs:=xs) (ys:=([⟨if e.v<e.u then e.v else e.u,if e.u<e.v then e.v else e.u,e.w,e.lb,e.sg,e.tm⟩]:List Lk)) Az C C om tb0 lcn) λae ab=>Z ?_
  refine A9 mixed<|Bx (vk 82 ae ab (List.take M xs++([⟨if e.v<e.u then e.v else e.u,if e.u<e.v then e.v else e.u,e.w,e.lb,e.sg,e.tm⟩]:List Lk)++List.drop M xs)::e8 b2 [e7 (if e.v<e.u then e.v else e.u),e7 (if e.u<e.v then e.v else e.u),e7<|e.w,e7<|e.lb,e7<|e.sg,e7<|e.tm] 82::I) 5<|Z ?_
  refine C8 (rs:=[2,5]) kr C C<|Ei ?_<|Do ?_
  ·refine Sr C (Af ag0 C) Ai ?_
   refine C8 (rs:=[3,5]) kr C C<|Ei ?_<|Do ?_
   ·refine Sr C (Bf ef) Ai ?_
    refine Cg kr ?_
    refine Ae 5 C (Er ef) ?_
    rintro _ _ ⟨rfl,rfl⟩
    refine Dg (i:=6) kr C (Ap C) C C (Af H6 C) ?_
    refine Ae 7 C (Er ef) ?_
    rintro _ _ ⟨rfl,rfl⟩
    refine Ch kr ?_
    refine Ao<|Ay<|A9 mixed<|Bx (vk 82 ae ab (List.take M xs++([⟨if e.v<e.u then e.v else e.u,if e.u<e.v then e.v else e.u,e.w,e.lb,e.sg,e.tm⟩]:List Lk)++List.drop M xs)::e8 b2 [e7 (if e.v<e.u then e.v else e.u),e7 (if e.u<e.v then e.v else e.u),e7<|e.w,e7<|e.lb,e7<|e.sg,e7<|e.tm] 82::e8 b1 [e7 (e.kd),e7<|e.tm,e7 (if e.v<e.u then e.v else e.u),e7 (if e.u<e.v then e.v else e.u),e7<|e.w,e7<|e.lb,e7<|e.sg] 54::I) 5<|Z ?_
    refine Ds1 2<|Se1 C (B0 (α:=Ev) (cs:=[e7 (e.kd),e7<|e.tm,e7 (if e.v<e.u then e.v else e.u),e7 (if e.u<e.v then e.v else e.u),e7<|e.w,e7<|e.lb,e7<|e.sg]) (xs:=[⟨e.kd,e.tm,if e.v<e.u then e.v else e.u,if e.u<e.v then e.v else e.u,e.w,e.lb,e.sg⟩]) Ad z6 C C dc dc C kr C C) λau=>Z ?_
    have hE:List.take M xs++([⟨if e.v<e.u then e.v else e.u,if e.u<e.v then e.v else e.u,e.w,e.lb,e.sg,e.tm⟩]:List Lk)++List.drop M xs=(Q0 (eh e) xs):=(af0 hi3 ha aa).symm
    have hC:am9 xs e=[aq9 e]:=An (ak5 hi3 ha aa)
    exact C3 C C C (vk 54 au 1 (am9 xs e)::([vk 82 ae ab (Q0 (eh e) xs)]++I)) (by unfold vk;rw [hC,←hE];exact Az) ⟨ae,ab,au,1,[vk 82 ae ab (Q0 (eh e) xs)],by rw [hC,←hE]<;>rfl,Cy<|Gk _ A_,rfl⟩
   refine Se0 C (Er ef) ?_
   refine Ds1 3<|Sr C (Bf ef) Ai ?_
   refine Ds1 6<|Sr C (Af H6 C) Ai ?_
   refine Ds1 7<|Se0 C (Er ef) ?_
   refine Dz<|Ao<|Ay<|A9 mixed<|Bx (vk 82 ae ab (List.take M xs++([⟨if e.v<e.u then e.v else e.u,if e.u<e.v then e.v else e.u,e.w,e.lb,e.sg,e.tm⟩]:List Lk)++List.drop M xs)::e8 b2 [e7 (if e.v<e.u then e.v else e.u),e7 (if e.u<e.v then e.v else e.u),e7<|e.w,e7<|e.lb,e7<|e.sg,e7<|e.tm] 82::e8 b1 [e7 (e.kd),e7<|e.tm,e7 (if e.v<e.u then e.v else e.u),e7 (if e.u<e.v then e.v else e.u),e7<|e.w,e7<|e.lb,e7<|e.sg] 54::I) 5<|Z ?_
   refine Ds1 2<|Se1 C (B0 (α:=Ev) (cs:=[e7 (e.kd),e7<|e.tm,e7 (if e.v<e.u then e.v else e.u),e7 (if e.u<e.v then e.v else e.u),e7<|e.w,e7<|e.lb,e7<|e.sg]) (xs:=[⟨e.kd,e.tm,if e.v<e.u then e.v else e.u,if e.u<e.v then e.v else e.u,e.w,e.lb,e.sg⟩]) Ad z6 C C dc dc C kr C C) λap=>Z ?_
   have hE:List.take M xs++([⟨if e.v<e.u then e.v else e.u,if e.u<e.v then e.v else e.u,e.w,e.lb,e.sg,e.tm⟩]:List Lk)++List.drop M xs=(Q0 (eh e) xs):=(af0 hi3 ha aa).symm
   have hC:am9 xs e=[aq9 e]:=An (ak5 hi3 ha aa)
   exact C3 C C C (vk 54 ap 1 (am9 xs e)::([vk 82 ae ab (Q0 (eh e) xs)]++I)) (by unfold vk;rw [hC,←hE];exact Az) ⟨ae,ab,ap,1,[vk 82 ae ab (Q0 (eh e) xs)],by rw [hC,←hE]<;>rfl,Cy<|Gk _ A_,rfl⟩
  refine Se0 C (Er ef) ?_
  refine Ds1 2<|Sr C (Af ag0 C) Ai ?_
  refine Ds1 3<|Sr C (Bf ef) Ai ?_
  refine Ds1 6<|Sr C (Af H6 C) Ai ?_
  refine Ds1 7<|Se0 C (Er ef) ?_
  refine Dz<|Ao<|Ay<|A9 mixed<|Ed 5<|Z ?_
  refine Ds1 2<|Se1 C (B0 (α:=Ev) (cs:=[e7 (e.kd),e7<|e.tm,e7 (if e.v<e.u then e.v else e.u),e7 (if e.u<e.v then e.v else e.u),e7<|e.w,e7<|e.lb,e7<|e.sg]) (xs:=[⟨e.kd,e.tm,if e.v<e.u then e.v else e.u,if e.u<e.v then e.v else e.u,e.w,e.lb,e.sg⟩]) Ad z6 C C dc dc C kr C C) λaq=>Z ?_
  have hE:List.take M xs++([⟨if e.v<e.u then e.v else e.u,if e.u<e.v then e.v else e.u,e.w,e.lb,e.sg,e.tm⟩]:List Lk)++List.drop M xs=(Q0 (eh e) xs):=(af0 hi3 ha aa).symm
  have hC:am9 xs e=[aq9 e]:=An (ak5 hi3 ha aa)
  exact C3 C C C (vk 54 aq 1 (am9 xs e)::([vk 82 ae ab (Q0 (eh e) xs)]++I)) (by unfold vk;rw [hC,←hE];exact Az) ⟨ae,ab,aq,1,[vk 82 ae ab (Q0 (eh e) xs)],by rw [hC,←hE]<;>rfl,Cy<|Gk _ A_,rfl⟩
 rw [aa] at an;exact absurd an dc
section
variable {p:Lk->Bool}{xs:List Lk}{j:Nat}{nw:Int}
theorem fo6(M:j<xs.length)(h:p (e_ xs j)=true):((List.take (j+1) xs).filter p).map (L9 nw)=((List.take j xs).filter p).map (L9 nw)++[L9 nw (e_ xs j)]:=by
 rw [Ca xs j M,Gs,Ht];simp [h]
theorem fz9(M:j<xs.length)(h:p (e_ xs j)=false):((List.take (j+1) xs).filter p).map (L9 nw)=((List.take j xs).filter p).map (L9 nw):=by
 rw [Ca xs j M,Gs,Ht];simp [h]
end
theorem dr0{κ:Ctx}{I:List Item}{nw:Int}{xs:List Lk}{g:FuncId}{aj:List Value}{p:Lk->Bool}(hl:Sl κ I (.slice a0 xs.length c0) xs)(ar:do3 Tryz.prog κ I g aj p)(az:xs.length<=1000000):eu Tryz.prog κ 185 [.slice a0 xs.length c0,e7 nw,.func (.func g) #[] aj.toArray] I (λr J=>∃(a:Option Addr) (c:Nat) (a2:Option Addr) (c2:Nat),r = .tuple #[.slice a (xs.filter (λx=> !p x)).length c,.slice a2 ((xs.filter p).map (L9 nw)).length c2]/\J=vk 54 a2 c2 ((xs.filter p).map (L9 nw))::vk 82 a c (xs.filter (λx=> !p x))::I):=by
 refine Ce3 Tryz.func185 C C<|Z ?_
 refine G.e (Ac c_ C C<|bh5 (xs:=xs) (A4 hl) om) ?_
 rintro _ _ ⟨_,_,⟨ad,ae,rfl,rfl⟩,rfl,rfl⟩
 refine Z ?_
 refine B9 (σ:=Nat×(Option Addr)×Nat×(List Ev)) (λs=>([(0,.slice ad (J6 (λx=> !p x) xs s.1).length ae),(1,e7 nw),(2,.func (.func g) #[] aj.toArray),(8,.slice s.2.1 s.2.2.2.length s.2.2.1),(9,e7<|((M6 (λx=> !p x) xs s.1:Nat):Int))]:Env)) (λs=>vk 54 s.2.1 s.2.2.1 s.2.2.2::vk 82 ad ae (J6 (λx=> !p x) xs s.1)::I) (λs=>(s.1<=xs.length)/\(s.2.2.2=((List.take s.1 xs).filter p).map (L9 nw))) (λs=>xs.length - s.1) (0,none,0,[]) ⟨om,rfl⟩ (Aa (Db C<|by first|rfl|(rw [U6])|(rw [M.1])|(rw [ab]))<|cx2<|Aa (Db C<|by first|rfl|(rw [U6])|(rw [M.1])|(rw [ab]))<|Aa (En C<|by first|omega|(rw [aw1];rfl)|(dsimp only;have e1:=M.2;omega)|(dsimp only;have e1:=an;omega)) Bb) (by rw [U6];exact B6 _ _) ?_
 rintro ⟨j,a2,c2,aa⟩ hp
 dsimp only at hp ⊢
 obtain ⟨hj,ak⟩:=hp
 have a1:=dx3 (P:=(λx=> !p x)) (xs:=xs) (j:=j)
 have ay:=be0 (P:=(λx=> !p x)) (xs:=xs) (j:=j)
 have ax:aa.length<=j:=by rw [ak,Gc];exact Hc (Gw _ _) (by rw [Fr];omega)
 refine W.pull (vc.cap (xs:=(J6 (λx=> !p x) xs j)) mm) λaw=>Z ?_
 refine Al C (λav=>Z ?_)<|λav=>Z ?_
 ·refine G.e (Cx ar.1 (first:=[]) (caps:=aj) C C C<|ar.2 (e_ (J6 (λx=> !p x) xs j) ((M6 (λx=> !p x) xs j:Nat):Int)) _ Ah) ?_
  rintro _ _ ⟨_,_,⟨rfl,rfl⟩,rfl,rfl⟩
  refine Z ?_
  refine Dq C (λai=>Z ?_)<|λai=>Z ?_
  ·have ah:=br3 (P:=(λx=> !p x)) (xs:=xs) (j:=j) om
   have M:=dx4 (P:=(λx=> !p x)) (xs:=xs) (j:=j) om (by rw [←ah];exact ai)
   exact Bt ((j+1),(a2),(c2),(aa)) (by dsimp only;exact ⟨om,(by rw [fz9 om (by rw [←ah];simpa using ai)];exact ak)⟩) (hL:=(Aa (Db C<|by first|rfl|(rw [U6])|(rw [M.1])|(rw [ab]))<|cx2<|Aa (Db C<|by first|rfl|(rw [U6])|(rw [M.1])|(rw [ab]))<|Aa (En C<|by first|omega|(rw [aw1];rfl)|(dsimp only;have e1:=M.2;omega)|(dsimp only;have e1:=an;omega)) Bb)) (hI:=by (try dsimp only);exact (by rw [M.1];exact Ai))
  have ao:(λx=> !p x) (e_ xs j)=false:=by rw [←br3 (P:=(λx=> !p x)) (xs:=xs) (j:=j) om];exact ai
  have an:=fn3 (P:=(λx=> !p x)) (xs:=xs) (j:=j) om ao
  refine Z ?_
  refine G.e (Ac c_ C C<|ci3 (e_ (J6 (λx=> !p x) xs j) ((M6 (λx=> !p x) xs j:Nat):Int)) nw) ?_
  rintro _ _ ⟨_,_,⟨rfl,rfl⟩,rfl,rfl⟩
  refine Ge1 (B0 (α:=Ev) (cs:=[e7 2,e7 nw,e7<|(e_ (J6 (λx=> !p x) xs j) ((M6 (λx=> !p x) xs j:Nat):Int)).u,e7<|(e_ (J6 (λx=> !p x) xs j) ((M6 (λx=> !p x) xs j:Nat):Int)).v,e7 0,e7 0,e7 0]) (xs:=[⟨2,nw,(e_ (J6 (λx=> !p x) xs j) ((M6 (λx=> !p x) xs j:Nat):Int)).u,(e_ (J6 (λx=> !p x) xs j) ((M6 (λx=> !p x) xs j:Nat):Int)).v,0,0,0⟩]) Ad z6 C C dc dc C kr C C) λau=>?_
  refine Ge2 (Bp (α:=Ev) (e:=54) (xs:=aa) (ys:=([⟨2,nw,(e_ (J6 (λx=> !p x) xs j) ((M6 (λx=> !p x) xs j:Nat):Int)).u,(e_ (J6 (λx=> !p x) xs j) ((M6 (λx=> !p x) xs j:Nat):Int)).v,0,0,0⟩]:List Ev)) Ad z6 C C C mm A5 lcn dc C<|λ_ _=>am) λaq ap=>Z ?_
  refine A9 mixed<|Bx I 8<|Z ?_
  refine Dr 2 C (C2 (l:=M6 (λx=> !p x) xs j) A3 J7 C C (by simp only [Ml]<;>omega) om om)<|Z ?_
  refine Dr 6 C (C2 (l:=(M6 (λx=> !p x) xs j+1)) A3 J7 C C (by simp only [Ml]<;>omega) om om)<|Ds1 7<|Se0 C (Fm (α:=Lk) (k:=M6 (λx=> !p x) xs j) (q:=(xs.length - j - 1)) (R:=(J6 (λx=> !p x) xs<|j+1)++List.drop (M6 (λx=> !p x) xs j+(xs.length - j - 1)) (J6 (λx=> !p x) xs j)) (n:=(J6 (λx=> !p x) xs j).length) A3 J7 C lat C (Sl.dz2 (Cy (xs:=(J6 (λx=> !p x) xs j)) mm) om om) lat lat C (dh5 om ao C) lat am)<|Z ?_
  refine Gr (E3 (h:=((J6 (λx=> !p x) xs j).length - 1)) A3 J7 C C om om)<|Ga C ?_
  have ab:(J6 (λx=> !p x) xs j).length - 1=(J6 (λx=> !p x) xs<|j+1).length:=by have h3:=be0 (P:=(λx=> !p x)) (xs:=xs) (j:=j+1);omega
  refine Ds (J:=vc 54 (.slice au 1 1) (([⟨2,nw,(e_ (J6 (λx=> !p x) xs j) ((M6 (λx=> !p x) xs j:Nat):Int)).u,(e_ (J6 (λx=> !p x) xs j) ((M6 (λx=> !p x) xs j:Nat):Int)).v,0,0,0⟩]:List Ev))::vk 54 aq ap (aa++([⟨2,nw,(e_ (J6 (λx=> !p x) xs j) ((M6 (λx=> !p x) xs j:Nat):Int)).u,(e_ (J6 (λx=> !p x) xs j) ((M6 (λx=> !p x) xs j:Nat):Int)).v,0,0,0⟩]:List Ev))::vk 82 ad ae (J6 (λx=> !p x) xs<|j+1)::I) (Fit.upd am (λw h=>by have h4:=fa0 (h:=((J6 (λx=> !p x) xs j).length - 1)) (by rw [By];omega) w h;rw [dh4 ab] at h4;exact h4))<|Z ?_
  have ah:=br3 (P:=(λx=> !p x)) (xs:=xs) (j:=j) om
  exact Bt ((j+1),(aq),(ap),(aa++([⟨2,nw,(e_ (J6 (λx=> !p x) xs j) ((M6 (λx=> !p x) xs j:Nat):Int)).u,(e_ (J6 (λx=> !p x) xs j) ((M6 (λx=> !p x) xs j:Nat):Int)).v,0,0,0⟩]:List Ev))) (by dsimp only;exact ⟨om,(by rw [fo6 om (by simpa using ao),←ak,ah];rfl)⟩) (hL:=(Aa (Db C<|by first|rfl|(rw [U6])|(rw [M.1])|(rw [ab]))<|cx2<|Aa (Db C<|by first|rfl|(rw [U6])|(rw [M.1])|(rw [ab]))<|Aa (En C<|by first|omega|(rw [aw1];rfl)|(dsimp only;have e1:=M.2;omega)|(dsimp only;have e1:=an;omega)) Bb))
 have hE:(J6 (λx=> !p x) xs j)=(xs.filter<|λx=> !p x):=dh6 om
 have hC:aa=(xs.filter p).map (L9 nw):=by rw [ak,Fx om]
 exact C3 C C C (vk 54 a2 c2 ((xs.filter p).map (L9 nw))::vk 82 ad ae (xs.filter<|λx=> !p x)::I) (by unfold vk;rw [←hE,←hC];exact Ai) ⟨ad,ae,a2,c2,by rw [←hE,←hC],rfl⟩
variable {κ:Ctx}{I:List Item}
theorem fc0{e:Ev}{xs:List Lk}(hT:Has I T)(hl:Sl κ T (.slice a0 xs.length c0) xs)(ha:xs.Pairwise Lk.lt)(av:xs.length<=1000000):eu Tryz.prog κ 171 [.agg #[e7 nd,.slice a0 xs.length c0],.agg (ez e).toArray] I (λr J=>∃(a:Option Addr) (c:Nat) (a2:Option Addr) (c2:Nat) (Y:List Item),r = .tuple #[.agg #[e7 nd,.slice a (ep xs e).length c],.slice a2 (P4 xs e).length c2]/\Sl κ (Y++T) (.slice a (ep xs e).length c) (ep xs e)/\J=vk 54 a2 c2 (P4 xs e)::(Y++I)):=by
 refine Ce2 Tryz.func171 C C ?_
 refine Am<|Ge1 (Au (cs:=[_,_]) C C C) λb1=>Ge1 (Au (cs:=[_,_,_,_,_,_,_]) C C C) λb2=>Ge1 (Aj W2 C) λb3=>Z ?_
 refine Al C (λM=>Z ?_)<|λM=>Z ?_
 ·refine G.e (Ac c_ C C<|fq6 (T:=T) (e:=e) (xs:=xs) (by repeat (first|exact hT|exact Bh _|apply Bg|apply B1)) hl ha om) ?_
  rintro _ _ ⟨_,_,⟨aq,ar,ap,an,Y8,rfl,au,rfl⟩,rfl,rfl⟩
  refine Ds (J:=vk 54 ap an (am9 xs e)::e8 b3 [e7 0,.slice none 0 0] 35::e8 b2 (ez e) 54::e8 b1 [e7 nd,.slice a0 xs.length c0] 35::(Y8++I)) (Cj<|List.Perm.cons _<|C0 (A:=Y8) (L:=[e8 b3 [e7 0,.slice none 0 0] 35,e8 b2 (ez e) 54,e8 b1 [e7 nd,.slice a0 xs.length c0] 35]) (T:=I))<|Z ?_
  refine Ge0 (Fc au7)<|Z ?_
  refine Ge0 (Cr W2)<|Z ?_
  have hE:Q0 (eh e) xs=(ep xs e):=by unfold ep;rw [B_ M]
  have hC:am9 xs e=P4 xs e:=by unfold P4;rw [B_ M]
  exact Co C W2 C C mm C (vk 54 ap an (P4 xs e)::(Y8++I)) (by unfold vk;rw [←hC];exact Az) ⟨aq,ar,ap,an,Y8,by rw [←hE,←hC]<;>rfl,by rw [←hE];exact au,rfl⟩
 refine Al C (λao=>Z ?_)<|λao=>Z ?_
 ·refine Gr (Dv C C) (G.e (Ac c_ C C<|dr0 (xs:=xs) (nw:=e.tm) (Bd hl<|A7 Ah hT.fit) (cw9 ao<|Dm mm) om) ?_)
  rintro _ _ ⟨_,_,⟨ak,ad,aj,ae,rfl,rfl⟩,rfl,rfl⟩
  refine Z ?_
  refine Ge0 (Fc au7)<|Z ?_
  refine Ge0 (Cr W2)<|Z ?_
  have hE:List.filter (λx=> !ah4 e x) xs=(ep xs e):=by unfold ep;rw [An M]
  have hC:(xs.filter<|ah4 e).map (L9 e.tm)=P4 xs e:=by unfold P4;rw [An M]
  exact Co C W2 C C mm C (vk 54 aj ae (P4 xs e)::([vk 82 ak ad (ep xs e)]++I)) (by unfold vk;rw [←hC,←hE];exact Az) ⟨ak,ad,aj,ae,[vk 82 ak ad (ep xs e)],by rw [←hE,←hC]<;>rfl,Cy<|Gk _ A_,rfl⟩
 refine Gr (Dv C C)<|G.e (Ac c_ C C<|dr0 (xs:=xs) (nw:=e.tm) (Bd hl<|A7 Ah hT.fit) (cw8 ao<|Dm mm) om) ?_
 rintro _ _ ⟨_,_,⟨aa,ab,ai,ah,rfl,rfl⟩,rfl,rfl⟩
 refine Z ?_
 refine Ge0 (Fc au7)<|Z ?_
 refine Ge0 (Cr W2)<|Z ?_
 have hE:List.filter (λx=> !ah4 e x) xs=(ep xs e):=by unfold ep;rw [An M]
 have hC:(xs.filter<|ah4 e).map (L9 e.tm)=P4 xs e:=by unfold P4;rw [An M]
 exact Co C W2 C C mm C (vk 54 ai ah (P4 xs e)::([vk 82 aa ab (ep xs e)]++I)) (by unfold vk;rw [←hC,←hE];exact Az) ⟨aa,ab,ai,ah,[vk 82 aa ab (ep xs e)],by rw [←hE,←hC]<;>rfl,Cy<|Gk _ A_,rfl⟩
theorem dr6{e:Ev}{xs:List Lk}(hl:Sl κ I (.slice a0 xs.length c0) xs)(hv:p9 nd xs=0)(hf:J1 nd e)(aj:xs.length<=100000):eu Tryz.prog κ 150 [.agg #[e7 nd,.slice a0 xs.length c0],.agg (ez e).toArray] I (λr J=>∃(a:Option Addr) (c:Nat) (a2:Option Addr) (c2:Nat),r = .tuple #[.agg #[e7 nd,.slice a (ep xs e).length c],.slice a2 (P4 xs e).length c2,e7 0]/\J=vk 82 a c (ep xs e)::vk 54 a2 c2 (P4 xs e)::I):=by
 refine Ce2 Tryz.func150 C C ?_
 refine Am<|Ge1 (Au (cs:=[_,_]) C C C) λb1=>Ge1 (Au (cs:=[_,_,_,_,_,_,_]) C C C) λb2=>Ge1 (Aj W2 C) λb3=>Z ?_
 refine G.e (Ac c_ C C<|bh7 (nd:=nd)<|A4 hl) ?_
 rintro _ _ ⟨_,_,⟨rfl,rfl⟩,rfl,rfl⟩
 refine Z ?_
 refine Al C (λc13=>Z ?_)<|λc13=>?_
 ·refine Gc0 (Ac c_ C C<|ff7 nd e) (Z ?_)
  refine Al C (λae=>?_)<|λae=>Z ?_
  ·exact absurd (cg0.2 hf) ae
  refine G.e (Ac c_ C C<|fc0 (T:=I) (nd:=nd) (e:=e) (xs:=xs) (by repeat (first|exact hT|exact Bh _|apply Bg|apply B1)) hl (Q2 hv).2.2 om) ?_
  rintro _ _ ⟨_,_,⟨ai,ak,ad,ab,Y8,rfl,ah,rfl⟩,rfl,rfl⟩
  refine Ds (J:=vk 54 ad ab (P4 xs e)::e8 b3 [e7 0,.slice none 0 0] 35::e8 b2 (ez e) 54::e8 b1 [e7 nd,.slice a0 xs.length c0] 35::(Y8++I)) (Cj<|List.Perm.cons _<|C0 (A:=Y8) (L:=[e8 b3 [e7 0,.slice none 0 0] 35,e8 b2 (ez e) 54,e8 b1 [e7 nd,.slice a0 xs.length c0] 35]) (T:=I))<|Z ?_
  refine Ge1 (Aj W2 C) λb9=>Ge0 (Cr W2)<|Z ?_
  refine G.e (Ac c_ C C<|bh5 (xs:=ep xs e) (Bd ah Ah)<|by have h:=ah7 xs e;omega) ?_
  rintro _ _ ⟨_,_,⟨M,aa,rfl,rfl⟩,rfl,rfl⟩
  refine Gf P1 C<|Ge0 (Fc au7)<|Z ?_
  refine Ge0 (Cr W2)<|Z ?_
  exact Cu C W2 C C C mm C (vk 82 M aa (ep xs e)::vk 54 ad ab (P4 xs e)::I) Az ⟨M,aa,ad,ab,rfl,rfl⟩
 exact absurd hv c13
end Go.Sl
namespace Go.Sl
section
variable {ys:List Int}{m:Nat}{k:Int}
theorem fh6(hs:ys.Pairwise λa b=>a<=b){i j:Nat}(aa:i<=j)(M:j<ys.length):e_ ys i<=e_ ys j:=by
 by_cases e:i=j
 ·subst e;exact Hn _
 rw [L0 ys i (by omega),L0 ys j M]
 exact (Ha.1 hs) i j (by omega) M<|by omega
theorem cs1(hs:ys.Pairwise λa b=>a<=b)(hm:m<ys.length)(h:k<=e_ ys m):ys.length - m<=(ys.filter λx=>decide (k<=x)).length:=by
 have M:(ys.drop m).filter (λx=>decide<|k<=x)=ys.drop m:=Js.2 λx hx=>by
  obtain ⟨i,hi,rfl⟩:=Hv hx
  rw [Fz] at hi
  rw [Lx,←L0 ys (m+i) (by omega)]
  have:=fh6 hs (i:=m) (j:=m+i) (by omega) (by omega)
  exact As<|by omega
 have h2:ys.filter (λx=>decide<|k<=x)=(ys.take m).filter (λx=>decide<|k<=x)++(ys.drop m).filter (λx=>decide<|k<=x):=by rw [←Gs,Jm]
 rw [h2,M,By,Fz];omega
theorem cs0(hs:ys.Pairwise λa b=>a<=b)(hm:m<ys.length)(h:e_ ys m<k):(ys.filter λx=>decide (k<=x)).length<=ys.length - 1 - m:=by
 have M:(ys.take<|m+1).filter (λx=>decide<|k<=x)=[]:=Jk.2 λx hx=>by
  obtain ⟨i,hi,rfl⟩:=Hv hx
  rw [Fr] at hi
  rw [Ki,←L0 ys i (by omega)]
  have:=fh6 hs (i:=i) (j:=m) (by omega) (by omega)
  simp;omega
 have h2:ys.filter (λx=>decide<|k<=x)=(ys.take<|m+1).filter (λx=>decide<|k<=x)++(ys.drop<|m+1).filter (λx=>decide<|k<=x):=by rw [←Gs,Jm]
 have h3:=Gw (λx=>decide<|k<=x) (ys.drop<|m+1)
 rw [Fz] at h3
 rw [h2,M,Ko];omega
theorem fy7{xs:List Int}{h:Nat}(hp:ys.Perm xs)(hs:ys.Pairwise λa b=>a<=b)(hh:h<=ys.length)(M:0<h->(h:Int) - 1<e_ ys (((ys.length - h:Nat)):Int))(aa:h<ys.length->e_ ys (((ys.length - 1 - h:Nat)):Int)<=h):HI xs h:=by
 have hf:∀k:Int,((xs.filter λx=>decide<|k<=x).length:Int)=((ys.filter λx=>decide<|k<=x).length:Int):=λk=>by rw [(hp.filter _).length_eq]
 refine ⟨by omega,?_,λk hk=>?_⟩
 ·rw [hf]
  by_cases h0:h=0
  ·omega
  have:=cs1 hs (m:=ys.length - h) (k:=(h:Int)) (by omega) (by have:=M (by omega);omega)
  omega
 rw [hf] at hk
 refine Gd λhlt=>?_
 by_cases hl:h<ys.length
 ·have:=cs0 hs (m:=ys.length - 1 - h) (k:=k) (by omega) (by have:=aa hl;omega)
  omega
 have:=Gw (λx=>decide<|k<=x) ys
 omega
end
end Go.Sl
namespace Go.Sl
open Go.Proofs
set_option maxRecDepth 4000
attribute [local irreducible] W G V D A j7 Eff
theorem H_ok{κ:Ctx}{I:List Item}{a0:Option Addr}{c0:Nat}{xs:List Int}(hl:Sl κ I (.slice a0 xs.length c0) xs)(hb:xs.length<=1000000):eu Tryz.prog κ 291 [.slice a0 xs.length c0] I (λr J=>∃h:Nat,r=e7 (h:Int)/\HI xs h/\I=J):=by
 have M:=ad3 xs
 refine Ce1 Tryz.func291 C C<|Z ?_
 refine Gc2 (Ac c_ C C<|ah0 (xs:=xs) (A4 hl) om) λae ah=>Z ?_
 refine Gc1 (Ac c_ C C<|Cl (J:=vk 3 ae ah xs::I) Az<|cj6 om)<|Z ?_
 refine Dh (σ:=Nat) (λs=>[(3,e7 ((s:Nat):Int))]) (λ_=>[]) (λs=>(s<=xs.length)/\(0<s->(s:Int) - 1<e_ (V6 xs) (((xs.length - s:Nat)):Int))) (λs=>xs.length - s) 0 ⟨om,(λh=>absurd h om)⟩ ?_
 rintro h hp
 obtain ⟨hh,aa⟩:=hp
 have aj:h<xs.length->(((xs.length - (h+1):Nat)):Int)=(xs.length:Int) - 1 - (h:Int):=λh=>by omega
 have ab:h<xs.length->(((xs.length - 1 - h:Nat)):Int)=(xs.length:Int) - 1 - (h:Int):=λh=>by omega
 refine Z ?_
 refine A1 (d:=12) C (λad=>Z ?_)<|λad=>Z ?_
 ·refine Al C (λai=>Z ?_) (λai=>Z ?_)
  ·exact Bt ((h+1)) ⟨om,(λ_=>by rw [aj om];omega)⟩
  exact Ak C C I Ah ⟨h,rfl,fy7 (ad2 xs) (bc1 xs) om (λh0=>by rw [M];exact aa h0)<|λh0=>by rw [M] at h0 ⊢; rw [ab h0];omega,rfl⟩
 exact Ak C C I Ah ⟨h,rfl,fy7 (ad2 xs) (bc1 xs) om (λh0=>by rw [M];exact aa h0)<|λh0=>by rw [M] at h0 ⊢; rw [ab h0];omega,rfl⟩
end Go.Sl
