/- A part of the proofs of statements of this seat: contracts of functions, and the plain laws that they lean on. No conditions. -/
import Derived.Test.YtoagcglbkeomgaaGreatDoorA18
set_option linter.unusedVariables false
set_option linter.unusedSimpArgs false
set_option linter.unusedSectionVars false
set_option maxHeartbeats 1000000
namespace Go.Sl
theorem bt2{wd mo T:Int}:∀(n:Nat) (xs:List Lk) (out:List Ev),xs.length<=n->bi2 wd mo T xs out=((bi2 wd mo T xs []).1,out++(bi2 wd mo T xs []).2)
 |0,xs,out,h=>by
  have M:¬(0<xs.length/\ab4 xs+wd<=T):=by omega
  rw [Q6 M,Q6 M,Gv]
 |n+1,xs,out,h=>by
  by_cases M:0<xs.length/\ab4 xs+wd<=T
  ·have hl:=at0 (wd:=wd) (mo:=mo) M.1
   unfold gc6 at hl
   rw [ae3 M,ae3 (out:=[]) M,bt2 n _ (out++_) om,bt2 n _ ([]++_) om,Kr,Fv]
  rw [Q6 M,Q6 M,Gv]
section
variable {kd wd mo bd:Int}
theorem cu0(xs:List Lk)(out:List Ev)(e:Ev):p6 kd wd mo (xs,out) e=((p6 kd wd mo (xs,[]) e).1,out++(p6 kd wd mo (xs,[]) e).2):=by
 have M:R6 kd wd mo e.tm (xs,out)=((R6 kd wd mo e.tm (xs,[])).1,out++(R6 kd wd mo e.tm (xs,[])).2):=by
  unfold R6
  by_cases h:kd=2
  ·rw [B_ h,B_ h];exact bt2 _ _ _ (Gi _)
  rw [An h,An h,Gv]
 unfold p6
 rw [M]
 unfold ds1
 by_cases h:kd=3
 ·rw [B_ h,B_ h,Fv,Fv,Fv]
 rw [An h,An h,Fv]
def X6(kd wd mo:Int)(S:List Lk)(l:List Ev):List Lk×List Ev:=l.foldl (p6 kd wd mo) (S,[])
theorem du1(l:List Ev):∀(S:List Lk) (out:List Ev),l.foldl (p6 kd wd mo) (S,out)=((X6 kd wd mo S l).1,out++(X6 kd wd mo S l).2):=by
 induction l with
 |nil=>intro S out;unfold X6;rw [Lh,Lh,Gv]
 |cons e l ih=>
  intro S out
  unfold X6
  rw [Jc,Jc,cu0 S out e]
  have e1:p6 kd wd mo (S,[]) e=((p6 kd wd mo (S,[]) e).1,(p6 kd wd mo (S,[]) e).2):=rfl
  rw [e1,ih,ih,Fv]
theorem aq4(S:List Lk)(l m:List Ev):X6 kd wd mo S (l++m)=((X6 kd wd mo (X6 kd wd mo S l).1 m).1,(X6 kd wd mo S l).2++(X6 kd wd mo (X6 kd wd mo S l).1 m).2):=by
 conv=>lhs;unfold X6
 rw [Hf]
 have e1:l.foldl (p6 kd wd mo) (S,[])=((X6 kd wd mo S l).1,(X6 kd wd mo S l).2):=rfl
 rw [e1,du1]
def W7(t:Int)(l:List Ev):Int:=l.foldl (λ_ e=>e.tm) t
theorem be2(t:Int)(l m:List Ev):W7 t (l++m)=W7 (W7 t l) m:=Hf ..
structure EnS where
 b:BfS
 S:List Lk
 tm:Int
def EnS.rel(kd wd mo:Int)(k:EnS)(b:BfS)(l:List Ev):EnS:=⟨b,(X6 kd wd mo k.S l).1,W7 k.tm l⟩
def EnS.feed(kd wd mo bd:Int)(k:EnS)(e:Ev):EnS:=k.rel kd wd mo (k.b.push bd e) (k.b.out bd e)
def EnS.da4(kd wd mo bd:Int)(k:EnS)(e:Ev):List Ev:=(X6 kd wd mo k.S (k.b.out bd e)).2
def EnS.flush(kd wd mo:Int)(k:EnS):EnS:=k.rel kd wd mo k.b.flush k.b.ws
def EnS.gc9(kd wd mo:Int)(k:EnS):List Ev:=(X6 kd wd mo k.S k.b.ws).2
def EnS.next(kd wd mo bd:Int)(k:EnS)(e:Ev):EnS:=if e.tm<=k.b.mr then k else k.feed kd wd mo bd e
def EnS.gc1(kd wd mo bd:Int)(k:EnS)(e:Ev):List Ev:=if e.tm<=k.b.mr then [] else k.da4 kd wd mo bd e
def EnS.all(kd wd mo bd:Int)(k:EnS)(l:List Ev):EnS:=l.foldl (λk e=>k.next kd wd mo bd e) k
def BfS.next(bd:Int)(s:BfS)(e:Ev):BfS:=if e.tm<=s.mr then s else s.push bd e
def BfS.all(bd:Int)(s:BfS)(l:List Ev):BfS:=l.foldl (λs e=>s.next bd e) s
def BfS.outs(bd:Int):BfS->List Ev->List Ev
 |_,[]=>[]
 |s,e::l=>(if e.tm<=s.mr then [] else s.out bd e)++BfS.outs bd (s.next bd e) l
def BfS.an8(bd:Int):BfS->List Ev->Nat
 |_,[]=>0
 |s,e::l=>(if e.tm<=s.mr then 1 else 0)+BfS.an8 bd (s.next bd e) l
def EnS.outs(kd wd mo bd:Int):EnS->List Ev->List Ev
 |_,[]=>[]
 |k,e::l=>k.gc1 kd wd mo bd e++EnS.outs kd wd mo bd (k.next kd wd mo bd e) l
theorem dv9(k:EnS)(e:Ev):k.next kd wd mo bd e=k.rel kd wd mo (k.b.next bd e) (if e.tm<=k.b.mr then [] else k.b.out bd e)/\k.gc1 kd wd mo bd e=(X6 kd wd mo k.S (if e.tm<=k.b.mr then [] else k.b.out bd e)).2:=by
 unfold EnS.next EnS.gc1 BfS.next
 by_cases h:e.tm<=k.b.mr
 ·rw [B_ h,B_ h,B_ h,B_ h];exact ⟨rfl,rfl⟩
 rw [An h,An h,An h,An h];exact ⟨rfl,rfl⟩
theorem cg8:∀(l:List Ev) (k:EnS),k.all kd wd mo bd l=k.rel kd wd mo (k.b.all bd l) (BfS.outs bd k.b l)/\EnS.outs kd wd mo bd k l=(X6 kd wd mo k.S (BfS.outs bd k.b l)).2
 |[],k=>⟨rfl,rfl⟩
 |e::l,k=>by
  obtain ⟨M,h2⟩:=dv9 (kd:=kd) (wd:=wd) (mo:=mo) (bd:=bd) k e
  obtain ⟨h3,h4⟩:=cg8 l (k.next kd wd mo bd e)
  have hb:(k.next kd wd mo bd e).b=k.b.next bd e:=by rw [M];rfl
  constructor
  ·show (k.next kd wd mo bd e).all kd wd mo bd l=_
   rw [h3,hb,M]
   show (⟨_,_,_⟩:EnS)=⟨_,_,_⟩
   congr 1
   ·show (X6 kd wd mo (X6 kd wd mo k.S _).1 _).1=(X6 kd wd mo k.S<|_++_).1
    rw [aq4]
   show W7 (W7 k.tm _) _=W7 k.tm (_++_)
   rw [be2]
  show k.gc1 kd wd mo bd e++EnS.outs kd wd mo bd (k.next kd wd mo bd e) l=_
  rw [h4,h2,hb,M]
  show _=(X6 kd wd mo k.S<|_++_).2
  rw [aq4];rfl
def ge0(bd:Int)(l:List Ev):List Ev:=BfS.outs bd ⟨-1, -1,[]⟩ l++(BfS.all bd ⟨-1, -1,[]⟩ l).ws
def EnS.run(kd wd mo bd:Int)(l:List Ev):EnS:=((⟨⟨-1, -1,[]⟩,[],0⟩:EnS).all kd wd mo bd l).flush kd wd mo
theorem run_eq(l:List Ev):EnS.run kd wd mo bd l=(⟨⟨-1, -1,[]⟩,[],0⟩:EnS).rel kd wd mo (BfS.all bd ⟨-1, -1,[]⟩ l).flush (ge0 bd l):=by
 unfold EnS.run EnS.flush
 rw [(cg8 l _).1]
 show (⟨_,_,_⟩:EnS)=⟨_,_,_⟩
 unfold ge0
 congr 1
 ·show (X6 kd wd mo (X6 kd wd mo [] _).1 _).1=(X6 kd wd mo []<|_++_).1
  rw [aq4];rfl
 show W7 (W7 0 _) _=W7 0 (_++_)
 rw [be2];rfl
end
end Go.Sl
namespace Go.Sl
section
variable {kd wd mo bd:Int}
theorem BfS.bx8:∀(l m:List Ev) (s:BfS),BfS.an8 bd s (l++m)=BfS.an8 bd s l+BfS.an8 bd (s.all bd l) m
 |[],m,s=>by show _=0+_;rw [Lx];rfl
 |e::l,m,s=>by
  show _+BfS.an8 bd (s.next bd e) (l++m)=_+BfS.an8 bd (s.next bd e) l+_
  rw [BfS.bx8 l m,Mj];rfl
theorem az2.open_(h:0<=bd/\bd<=1048576):az2 bd ⟨-1, -1,[]⟩:=⟨h,by decide,by decide,(λe M=>by cases M),(λe M=>by cases M),List.Pairwise.nil⟩
theorem EnS.fp3(k:EnS)(l m:List Ev):k.all kd wd mo bd (l++m)=(k.all kd wd mo bd l).all kd wd mo bd m:=Hf ..
end
end Go.Sl
namespace Go.Sl
variable{T last:Int}{S xs:List Lk}{out:List Ev}
structure ga6 (nd kd wd mo last:Int) (S:List Lk) (e:Ev) (r:List Lk×List Ev):Prop where
 inv:SlI nd kd wd e.tm r.1
 st:r.1=r.2.foldl ep S
 fit:∀x∈r.2,H4 nd x
 asc:r.2.Pairwise λa b=>a.tm<=b.tm
 rng:∀x∈r.2,last<=x.tm/\x.tm<=e.tm
 has:e∈r.2
 cnt:kd=3->(r.1.length:Int)<=mo
 len:r.1.length<=S.length+1/\r.2.length<=2*S.length+2
structure AgX (nd wd last T:Int) (S xs:List Lk) (out:List Ev):Prop where
 inv:SlI nd 2 wd last xs
 st:xs=out.foldl ep S
 fit:∀e∈out,H4 nd e
 asc:out.Pairwise λa b=>a.tm<=b.tm
 le:∀e∈out,last<=e.tm/\e.tm<=T
 bef:∀e∈out,∀x∈xs,e.tm<=x.tm+wd
 sum:xs.length+out.length<=S.length
theorem AgX.step{nd wd mo:Int}(h:AgX nd wd last T S xs out)(h0:0<=last)(hT:T<=1048576)(hs:0<xs.length/\ab4 xs+wd<=T) :
  AgX nd wd last T S (xs.filter<|inW 2 wd mo (ab4 xs+wd) xs) (out++s6 2 wd mo (ab4 xs+wd) xs):=by
 have hf:=h.inv.first rfl hs.1
 obtain ⟨⟨x0,aa,e0⟩,ad⟩:=T2 hs.1
 have hg:∀c∈s6 2 wd mo (ab4 xs+wd) xs,c.tm=ab4 xs+wd:=λc hc=>(cn1 hc).2
 refine ⟨h.inv.filter _,?_,λe he=>?_,Kt.2 ⟨h.asc,?_,λa ha c hc=>?_⟩,λe he=>?_,λe he x hx=>?_,?_⟩
 ·rw [Hf,←h.st,ae1 h.inv.val]
 ·rcases Gw.1 he with he|he
  ·exact h.fit e he
  exact ak7 h.inv.val om e he
 ·unfold s6
  rw [Mv]
  exact dd7 (λa c=>Hp _) _
 ·rw [hg c hc,e0];exact h.bef a ha x0 aa
 ·rcases Gw.1 he with he|he
  ·exact h.le e he
  rw [hg e he];omega
 ·obtain ⟨ab,M⟩:=Gp.1 hx
  rcases Gw.1 he with he|he
  ·exact h.bef e he x ab
  rw [gc3] at M
  have:=Fu M
  rw [hg e he];omega
 have h1:=af7 2 wd mo (ab4 xs+wd) xs
 have h2:=h.sum
 rw [By];omega
theorem AgX.aged{nd wd mo:Int}(h:AgX nd wd last T S xs out)(h0:0<=last)(hl:last<=T)(hT:T<=1048576) :
  AgX nd wd last T S (bi2 wd mo T xs out).1 (bi2 wd mo T xs out).2/\SlI nd 2 wd T (bi2 wd mo T xs out).1:=by
 obtain ⟨M,h2⟩:=cp5 (mo:=mo) (P:=λxs out=>AgX nd wd last T S xs out) (λxs out hs hP=>hP.step h0 hT hs) xs.length xs out (Gi _) h
 exact ⟨M,M.inv.later hl λ_=>h2⟩
theorem bc2{nd kd wd mo:Int}{e:Ev}(h:SlI nd kd wd last S)(h0:0<=last)(hl:last<=e.tm)(M:H4 nd e)(hw:s7 kd wd mo=0):ga6 nd kd wd mo last S e (p6 kd wd mo (S,[]) e):=by
 have aa:=ah6 S e
 rcases ay4 hw with ⟨rfl,rfl,rfl⟩|⟨rfl,ab,rfl⟩|⟨rfl,rfl,hm⟩
 ·have hr:p6 1 0 0 (S,[]) e=(ep S e,[e]):=rfl
  rw [hr]
  refine ⟨(h.later hl λh2=>by cases h2).step M rfl (λh2=>by cases h2),rfl,λx hx=>?_,Lr _ _,λx hx=>?_,Gh.2 rfl,(λh2=>by cases h2),⟨aa,?_⟩⟩
  ·rw [Gh.1 hx];exact M
  ·rw [Gh.1 hx];omega
  simp
 ·have hA:AgX nd wd last e.tm S S []:=⟨h,rfl,(λe M=>by cases M),List.Pairwise.nil,(λe M=>by cases M),(λe M=>by cases M),by simp⟩
  obtain ⟨hG,hI⟩:=hA.aged (mo:=0) h0 hl M.tm.2
  have hr:p6 2 wd 0 (S,[]) e=(ep (bi2 wd 0 e.tm S []).1 e,(bi2 wd 0 e.tm S []).2++[e]):=rfl
  rw [hr]
  generalize bi2 wd 0 e.tm S []=a at hG hI
  have h1:=ah6 a.1 e
  have h2:=hG.sum
  refine ⟨hI.step M rfl<|λ_=>ab.1,?_,λx hx=>?_,Kt.2 ⟨hG.asc,Lr _ _,λx hx y hy=>?_⟩,λx hx=>?_,Mc _<|Gh.2 rfl,(λh2=>by cases h2),⟨?_,?_⟩⟩
  ·simp only;rw [Hf,←hG.st];rfl
  ·rcases Gw.1 hx with hx|hx
   ·exact hG.fit x hx
   rw [Gh.1 hx];exact M
  ·rw [Gh.1 hy];exact (hG.le x hx).2
  ·rcases Gw.1 hx with hx|hx
   ·exact hG.le x hx
   rw [Gh.1 hx];omega
  ·simp only;omega
  simp only [By,E_,Fy];omega
 have hr:p6 3 0 mo (S,[]) e=((ep S e).filter (inW 3 0 mo e.tm<|ep S e),[]++[e]++s6 3 0 mo e.tm (ep S e)):=rfl
 rw [hr,Kr]
 have hv:=J3 h.val M
 have hg:∀c∈s6 3 0 mo e.tm (ep S e),c.tm=e.tm:=λc hc=>(cn1 hc).2
 have h1:=af7 3 0 mo e.tm (ep S e)
 refine ⟨((h.later hl λh2=>by cases h2).step M rfl (λh2=>by cases h2)).filter _,?_,λx hx=>?_,?_,λx hx=>?_,Gk _<|Gh.2 rfl,λ_=>dw8 (Q0.1 hv).2.2 hm.1,⟨?_,?_⟩⟩
 ·simp only;rw [Hf];exact (ae1 hv).symm
 ·rcases Gw.1 hx with hx|hx
  ·rw [Gh.1 hx];exact M
  exact ak7 hv M.tm x hx
 ·refine Kt.2 ⟨Lr _ _,?_,λa ha c hc=>?_⟩
  ·unfold s6
   rw [Mv]
   exact dd7 (λa c=>Hp _) _
  rw [Gh.1 ha,hg c hc];exact Hp _
 ·rcases Gw.1 hx with hx|hx
  ·rw [Gh.1 hx];omega
  rw [hg x hx];omega
 ·simp only;omega
 simp only [By,E_,Fy];omega
structure bi3 (nd kd wd mo bd:Int) (k:EnS):Prop where
 win:s7 kd wd mo=0
 buf:az2 bd k.b
 fit:∀e∈k.b.ws,H4 nd e
 inv:SlI nd kd wd k.tm k.S
 tm:0<=k.tm/\k.tm<=1048576/\(k.tm<=k.b.mr\/k.tm=0)
 cnt:kd=3->(k.S.length:Int)<=mo
section
variable {nd kd wd mo bd:Int}
theorem fh8(hw:s7 kd wd mo=0):∀(l:List Ev) (S:List Lk) (last:Int),SlI nd kd wd last S->0<=last->(kd=3->(S.length:Int)<=mo)->(∀e∈l,H4 nd e/\last<=e.tm)->l.Pairwise (λa b=>a.tm<=b.tm)->
  SlI nd kd wd (W7 last l) (X6 kd wd mo S l).1/\(X6 kd wd mo S l).1=(X6 kd wd mo S l).2.foldl ep S/\(∀x∈(X6 kd wd mo S l).2,H4 nd x)/\(kd=3->((X6 kd wd mo S l).1.length:Int)<=mo)/\last<=W7 last l/\(W7 last l=last\/∃e∈l,W7 last l=e.tm)/\(X6 kd wd mo S l).1.length<=S.length+l.length
 |[],S,last,h,h0,hc,_,_=>⟨h,rfl,(λx hx=>by cases hx),hc,Hp _,.inl rfl,Gi _⟩
 |e::l,S,last,h,h0,hc,hl,ha=>by
  obtain ⟨he,ad⟩:=hl e A_
  obtain ⟨aa,ab⟩:=Gj.1 ha
  have hs:=bc2 h h0 ad he hw
  obtain ⟨r1,r2,r3,r4,r5,M,r7⟩:=fh8 hw l (p6 kd wd mo (S,[]) e).1 e.tm hs.inv om hs.cnt (λx hx=>⟨(hl x<|C_ _ hx).1,aa x hx⟩) ab
  have e1:X6 kd wd mo S (e::l)=((X6 kd wd mo (p6 kd wd mo (S,[]) e).1 l).1,(p6 kd wd mo (S,[]) e).2++(X6 kd wd mo (p6 kd wd mo (S,[]) e).1 l).2):=aq4 S [e] l
  have e2:W7 last (e::l)=W7 e.tm l:=rfl
  rw [e1,e2]
  refine ⟨r1,?_,λx hx=>?_,r4,by omega,?_,?_⟩
  ·simp only;rw [Hf,←hs.st];exact r2
  ·rcases Gw.1 hx with hx|hx
   ·exact hs.fit x hx
   exact r3 x hx
  ·rcases M with M|⟨x,hx,M⟩
   ·exact .inr ⟨e,A_,M⟩
   exact .inr ⟨x,C_ _ hx,M⟩
  have:=hs.len.1
  simp only [E_];omega
theorem bi3.open_(h:0<=nd/\nd<=64)(M:s7 kd wd mo=0)(hb:0<=bd/\bd<=1048576):bi3 nd kd wd mo bd ⟨⟨-1, -1,[]⟩,[],0⟩:=
 ⟨M,az2.open_ hb,(λe he=>by cases he),SlI.nil h,by simp,λhk=>by
  rcases ay4 M with ⟨rfl,_⟩|⟨rfl,_⟩|⟨_,_,hm⟩
  ·cases hk
  ·cases hk
  show ((0:Nat):Int)<=mo;omega⟩
theorem bi3.feed{k:EnS}(h:bi3 nd kd wd mo bd k){e:Ev}(he:H4 nd e)(ht:k.b.mr<e.tm):bi3 nd kd wd mo bd (k.feed kd wd mo bd e):=by
 have hb:=h.buf.push he.chk ht he.tm.2
 obtain ⟨h1,h2⟩:=h.buf.out (e:=e) ht
 have M:∀x∈K5 k.b e,H4 nd x:=λx hx=>by
  rcases mem_push.1 hx with rfl|hx
  ·exact he
  exact h.fit x hx
 have hm:=h.buf.mr
 have aa:=h.tm
 obtain ⟨r1,r2,r3,r4,r5,r6,r7⟩:=fh8 h.win (k.b.out bd e) k.S k.tm h.inv aa.1 h.cnt (λx hx=>by
  have h3:=M x (ba1.1 hx).1
  have:=h1 x hx
  have:=h3.tm
  exact ⟨h3,by omega⟩) h2
 refine ⟨h.win,hb,λx hx=>M x (av5.1 hx).1,r1,?_,r4⟩
 show 0<=W7 k.tm _/\W7 k.tm _<=1048576/\(W7 k.tm _<=max k.b.mr (ah2 bd k.b e)\/W7 k.tm _=0)
 rcases r6 with r6|⟨x,hx,r6⟩
 ·rw [r6];omega
 have h3:=h1 x hx
 have h4:=(M x (ba1.1 hx).1).tm
 have h5:(k.b.push bd e).mr=max k.b.mr (ah2 bd k.b e):=rfl
 rw [r6];omega
end
end Go.Sl
namespace Go.Sl
open Go.Proofs
set_option maxRecDepth 4000
variable{xs:List Lk}{i j:Nat}{q:Bool}{kd mo t:Int}
section
variable {nd:Int}{X:List Lk}{e:Ev}
def aq7(e:Ev):Ev:=⟨e.kd,e.tm,(eh e).u,(eh e).v,e.w,e.lb,e.sg⟩
def am8(xs:List Lk)(e:Ev):List Ev:=if eh e∈xs then [] else [aq7 e]
def P6(xs:List Lk)(e:Ev):List Ev:=if e.kd=1 then am8 xs e else (xs.filter (ah3 e)).map (M0 e.tm)
theorem ax7{n:Lk}:∀{xs:List Lk},xs.Pairwise Lk.lt->n∈xs->(Q3 n xs).length=xs.length
 |[],_,h=>by cases h
 |l::ls,ha,h=>by
  obtain ⟨h1,h2⟩:=Gj.1 ha
  unfold Q3
  rcases F_.1 h with rfl|h
  ·rw [An (show ¬Lk.lt n n from λq=>Pt.lin.irr _ q),B_ rfl]
  have M:Lk.lt l n:=h1 n h
  rw [An (show ¬Lk.lt n l from λq=>Pt.lin.asymm M q),An (show ¬l.p=n.p from λq=>by unfold Lk.lt at M;rw [q] at M;exact Pt.lin.irr _ M),E_,ax7 h2 h,E_]
theorem dg3(ha:xs.Pairwise Lk.lt){a b:Lk}(h1:a∈xs)(h2:b∈xs)(hp:a.p=b.p):a=b:=by
 induction xs with
 |nil=>cases h1
 |cons l ls ih=>
  obtain ⟨h3,h4⟩:=Gj.1 ha
  rcases F_.1 h1 with e1|h6<;>rcases F_.1 h2 with e2|h7
  ·rw [e1,e2]
  ·have M:=h3 b h7;rw [←e1] at M;unfold Lk.lt at M;rw [hp] at M;exact absurd M (Pt.lin.irr _)
  ·have M:=h3 a h6;rw [←e2] at M;unfold Lk.lt at M;rw [hp] at M;exact absurd M (Pt.lin.irr _)
  exact ih h4 h6 h7
theorem bp3{n:Lk}(h:U5 Lk.cmp xs n i q)(ha:xs.Pairwise Lk.lt)(hq:q=true)(M:¬e_ xs i=n):n∉xs:=λhm=>by
 have h1:=h.is
 rw [hq] at h1
 obtain ⟨hi,h2⟩:=Fu h1.symm
 exact M<|dg3 ha (Bo om om) hm<|(Lk.as7 _ _).1 h2
theorem ak3{n:Lk}(h:U5 Lk.cmp xs n i q)(M:xs.Pairwise Lk.lt)(hq:q=false):n∉xs:=λhm=>by
 have h1:=Gd List.length (ae9 h M hq)
 rw [ax7 M hm] at h1
 have:=h.le
 simp at h1;omega
theorem ar0{n:Lk}:∀{xs:List Lk} (p:Pt),p∈(Q3 n xs).map Lk.p↔p=n.p\/p∈xs.map Lk.p
 |[],p=>by unfold Q3;simp
 |l::ls,p=>by
  unfold Q3
  split
  ·simp
  split
  ·rename_i h;simp [h]
  rw [Hk,F_,ar0 p,Hk,F_]
  constructor
  ·rintro (h|h|h)
   ·exact .inr<|.inl h
   ·exact .inl h
   exact .inr<|.inr h
  rintro (h|h|h)
  ·exact .inr<|.inl h
  ·exact .inl h
  exact .inr<|.inr h
theorem as1(X:List Lk):j6 X=X.map Lk.p:=rfl
def chS(es0 es:List Pt)(c:Ev):List Pt:=if c.kd=1 then (if j4 c.u c.v∈es0 then es else z8 Pt.lt es (j4 c.u c.v)) else j7 es (j4 c.u c.v)
def chE(X:List Lk)(e:Ev)(j:Nat):List Pt:=((P6 X e).take j).foldl (chS (j6 X)) (j6 X)
theorem fa2:chE X e 0=j6 X:=rfl
theorem bs5(h:j<(P6 X e).length):chE X e (j+1)=chS (j6 X) (chE X e j) (e_ (P6 X e) j):=by
 unfold chE;rw [Ca _ j h,Hf];rfl
theorem co7{l:Lk}(h:l.u<l.v):j4 (M0 t l).u (M0 t l).v=l.p:=by
 show j4 l.u l.v=_
 unfold j4;rw [An om,B_ h];rfl
theorem bf7{es0:List Pt}:∀(l:List Lk) (es:List Pt),(∀x∈l,x.u<x.v)->(l.map (M0 t)).foldl (chS es0) es=es.filter λp=>decide (p∉l.map Lk.p)
 |[],es,_=>by
  rw [Ku,Lh]
  exact (Ju.2 λp _=>by simp).symm
 |x::l,es,h=>by
  have M:chS es0 es (M0 t x)=j7 es x.p:=by
   unfold chS
   rw [co7 (h x A_)]
   exact An (show ¬((2:Int)=1) by decide)
  rw [Hk,Jc,M,bf7 l _ λy hy=>h y<|C_ _ hy]
  unfold j7
  rw [List.filter_filter]
  refine H_ λp _=>?_
  rw [Hk,←Bool.decide_and,Fw,F_,not_or]
  exact And.comm
theorem di4(hv:p9 nd X=0)(P:Lk->Bool):∀x∈X.filter P,x.u<x.v:=λx M=>(bj9 hv x (Gp.1 M).1).2.1
theorem ga1(hv:p9 nd X=0)(hf:H4 nd e):chE X e (P6 X e).length=j6 (ep X e):=by
 have ha:=(Q0.1 hv).2.2
 have M:=J3 hv hf
 unfold chE
 rw [Hg]
 by_cases hk:e.kd=1
 ·have hs:ep X e=Q3 (eh e) X:=by unfold ep;rw [B_ hk]
  have hc:P6 X e=am8 X e:=by unfold P6;rw [B_ hk]
  rw [hs] at M
  have h0:=(F6 hv).asc
  have h1:=(F6 M).asc
  rw [hs,hc]
  unfold am8
  by_cases hm:eh e∈X
  ·rw [B_ hm,Lh]
   refine Pt.lin.uniq h0 h1 λp=>?_
   rw [as1,as1,ar0]
   exact ⟨.inr,λh=>h.elim (λh=>h▸Ll hm) id⟩
  rw [An hm,Jc,Lh]
  have he:j4 (aq7 e).u (aq7 e).v=(eh e).p:=K9 (e:=(eh e).p) (by
   have h2:e.u≠e.v:=(hf.ends.2.2 om).2
   show (if e.v<e.u then e.v else e.u)<(if e.u<e.v then e.v else e.u)
   split<;>split<;>omega)
  unfold chS
  rw [he,B_ (show (aq7 e).kd=1 from hk)]
  by_cases hp:(eh e).p∈j6 X
  ·rw [B_ hp]
   refine Pt.lin.uniq h0 h1 λp=>?_
   rw [as1 (Q3 _ _),ar0]
   exact ⟨.inr,λh=>h.elim (λh=>h▸hp) id⟩
  rw [An hp]
  refine Pt.lin.uniq (Pt.lin.z8 _ h0) h1 λp=>?_
  rw [ar1,as1<|Q3 _ _,ar0];rfl
 have hs:ep X e=X.filter λl=> !ah3 e l:=by unfold ep;rw [An hk]
 have hc:P6 X e=(X.filter<|ah3 e).map (M0 e.tm):=by unfold P6;rw [An hk]
 rw [hs] at M
 rw [hs,hc,bf7 _ _<|di4 hv _]
 refine Pt.lin.uniq ((F6 hv).asc.sublist Hi) (F6 M).asc λp=>?_
 rw [Gp,Gs]
 constructor
 ·rintro ⟨h1,h2⟩
  obtain ⟨l,hl,rfl⟩:=H1.1 h1
  refine Ll (f:=Lk.p)<|Gp.2 ⟨hl,?_⟩
  cases hh:ah3 e l with
  |false=>rfl
  |true=>exact absurd (Ll (f:=Lk.p)<|Gp.2 ⟨hl,hh⟩) h2
 intro h1
 obtain ⟨l,hl,rfl⟩:=H1.1 h1
 obtain ⟨h2,h3⟩:=Gp.1 hl
 refine ⟨Ll (f:=Lk.p) h2,λh4=>?_⟩
 obtain ⟨l2,aa,e2⟩:=H1.1 h4
 obtain ⟨h5,h6⟩:=Gp.1 aa
 have:=dg3 ha h5 h2 e2
 subst this
 rw [h6] at h3;cases h3
theorem s8.subl{es es':List Pt}(h:s8 nd es)(hs:es'.Sublist es):s8 nd es':=⟨h.rng,h.asc.sublist hs,λp M=>h.aa9 p (hs.subset M)⟩
structure ChJ (nd:Int) (X:List Lk) (es:List Pt) (c:Ev):Prop where
 ok:s8 nd es
 ends:F5 nd c.u c.v
 set:c.kd=1->es=j6 X
 cut:c.kd≠1->j4 c.u c.v∈es
theorem gg8(hv:p9 nd X=0)(hf:H4 nd e)(hj:j<(P6 X e).length):ChJ nd X (chE X e j) (e_ (P6 X e) j):=by
 have ha:=(Q0.1 hv).2.2
 have hG:=F6 hv
 by_cases hk:e.kd=1
 ·have hc:P6 X e=am8 X e:=by unfold P6;rw [B_ hk]
  have hl:(am8 X e).length<=1:=by unfold am8;split<;>simp
  have ad:j=0:=by rw [hc] at hj;omega
  subst ad
  have he:e_ (P6 X e) ((0:Nat):Int)=aq7 e:=by
   rw [hc] at hj ⊢
   unfold am8 at hj ⊢
   split at hj
   ·cases hj
   rename_i h;rw [An h];rfl
  rw [he,fa2]
  have h2:=hf.ends.2.2 om
  have h3:=hf.ends.1
  have h4:=hf.fits
  refine ⟨hG,?_,λ_=>rfl,λh=>absurd hk h⟩
  show F5 nd (if e.v<e.u then e.v else e.u) (if e.u<e.v then e.v else e.u)
  unfold F5
  split<;>split<;>omega
 have hc:P6 X e=(X.filter<|ah3 e).map (M0 e.tm):=by unfold P6;rw [An hk]
 have M:j<(X.filter<|ah3 e).length:=by rw [hc,Ge] at hj;exact hj
 have he:e_ (P6 X e) j=M0 e.tm (e_ (X.filter<|ah3 e) (j:Int)):=by
  rw [hc,Ct _ j<|by rw [Ge];exact M,Ct _ j M,Jn]
 have hm:=Bo (xs:=X.filter (ah3 e)) (i:=(j:Int)) om om
 have hr:=bj9 hv _ (Gp.1 hm).1
 have hE:chE X e j=(j6 X).filter λp=>decide (p∉((X.filter<|ah3 e).take j).map Lk.p):=by
  unfold chE
  rw [hc,←List.map_take]
  exact bf7 _ _ λx hx=>di4 hv _ x<|Hz hx
 have ae:=Ca (X.filter<|ah3 e) j M
 have aa:=(ha.sublist Hi).sublist (Lf (j+1)<|X.filter<|ah3 e)
 rw [ae] at aa
 rw [he,hE]
 generalize e_ (X.filter<|ah3 e) (j:Int)=l at *
 refine ⟨hG.subl Hi,?_,λh=>absurd h (show ¬((2:Int)=1) by decide),λ_=>?_⟩
 ·show F5 nd l.u l.v
  unfold F5;omega
 rw [co7 hr.2.1,Gp,Gs]
 refine ⟨Ll (f:=Lk.p) (Gp.1 hm).1,λh=>?_⟩
 obtain ⟨l2,ab,e2⟩:=H1.1 h
 have h5:=(Kt.1 aa).2.2 l2 ab l (Gh.2 rfl)
 unfold Lk.lt at h5
 rw [e2] at h5
 exact Pt.lin.irr _ h5
theorem fo6(X:List Lk)(e:Ev):(P6 X e).length<=X.length+1:=by
 unfold P6
 split
 ·unfold am8;split<;>simp
 rw [Ge];exact Nat.le_succ_of_le (G_ _ _)
end
structure ch8 (wd T:Int) (P:List Lk) (tt:Int) (out:List Ev):Prop where
 le:tt<=T+1
 low:∀l∈P,tt<=l.tm+wd
 is:tt=T+1\/∃l∈P,l.tm+wd=tt
 out:out=if tt<=T then (P.filter λl=>decide<|l.tm+wd=tt).map (M0 tt) else []
section
variable {wd T tt:Int}{P:List Lk}{out:List Ev}{l:Lk}
theorem ch8.zero:ch8 wd T [] (T+1) []:=⟨by omega,(λl h=>by cases h),.inl rfl,by rw [An om]⟩
theorem ch8.less(h:ch8 wd T P tt out)(h1:l.tm+wd<tt):ch8 wd T (P++[l]) (l.tm+wd) [M0 (l.tm+wd) l]:=by
 have h2:=h.le
 refine ⟨by omega,λx hx=>?_,.inr ⟨l,by simp,rfl⟩,?_⟩
 ·rcases Gw.1 hx with hx|hx
  ·have:=h.low x hx;omega
  rw [Gh.1 hx];omega
 have M:(P.filter λx=>decide<|x.tm+wd=l.tm+wd)=[]:=Jm.2 λx hx=>by
  have:=h.low x hx
  simp;omega
 rw [B_ om,Gu,M]
 simp
theorem ch8.eq(h:ch8 wd T P tt out)(M:l.tm+wd=tt)(h2:tt<=T):ch8 wd T (P++[l]) tt (out++[M0 (l.tm+wd) l]):=by
 refine ⟨h.le,λx hx=>?_,?_,?_⟩
 ·rcases Gw.1 hx with hx|hx
  ·exact h.low x hx
  rw [Gh.1 hx];omega
 ·exact .inr ⟨l,by simp,M⟩
 have h3:=h.out
 rw [B_ h2] at h3 ⊢
 rw [Gu,Hv,←h3,M]
 simp [M]
theorem ch8.no(h:ch8 wd T P tt out)(h1:¬l.tm+wd<tt)(h2:¬(l.tm+wd=tt/\tt<=T)):ch8 wd T (P++[l]) tt out:=by
 refine ⟨h.le,λx hx=>?_,?_,?_⟩
 ·rcases Gw.1 hx with hx|hx
  ·exact h.low x hx
  rw [Gh.1 hx];omega
 ·rcases h.is with M|⟨x,hx,M⟩
  ·exact .inl M
  exact .inr ⟨x,Gk _ hx,M⟩
 have M:=h.out
 by_cases h4:tt<=T
 ·rw [B_ h4] at M ⊢
  rw [Gu,M]
  simp [show ¬l.tm+wd=tt by omega]
 rw [An h4] at M ⊢; exact M
def P5(kd wd mo T:Int)(X:List Lk):List Ev:=if kd=2/\0<X.length/\ab4 X+wd<=T then s6 2 wd mo (ab4 X+wd) X else []
theorem ch8.all(hk:kd=2)(h:ch8 wd T P tt out):out=P5 kd wd mo T P:=by
 unfold P5
 rw [h.out]
 by_cases h0:0<P.length
 ·obtain ⟨⟨x,hx,e⟩,hm⟩:=T2 h0
  have h1:=h.low x hx
  have h2:=h.le
  by_cases h3:ab4 P+wd<=T
  ·have M:tt=ab4 P+wd:=by
    rcases h.is with M|⟨y,hy,M⟩
    ·omega
    have:=hm y hy;omega
   rw [B_ om,B_ ⟨hk,h0,h3⟩,M]
   unfold s6
   congr 1
   refine H_ λy hy=>?_
   have:=hm y hy
   rw [gc3,←decide_not,Fw];omega
  have M:¬tt<=T:=by
   rcases h.is with M|⟨y,hy,M⟩
   ·omega
   have:=hm y hy;omega
  rw [An M,An (show ¬(kd=2/\0<P.length/\ab4 P+wd<=T) from λq=>h3 q.2.2)]
 have M:P=[]:=Kz.1 om
 subst M
 rw [An (show ¬(kd=2/\0<([]:List Lk).length/\ab4 []+wd<=T) from λq=>h0 q.2.1)];simp
theorem dv5{X:List Lk}(M:¬kd=2):P5 kd wd mo T X=[]:=An λq=>M q.1
theorem ck8{X:List Lk}:0<(P5 kd wd mo T X).length↔kd=2/\0<X.length/\ab4 X+wd<=T:=by
 unfold P5
 constructor
 ·intro h
  split at h
  ·assumption
  cases h
 intro h
 rw [B_ h]
 obtain ⟨⟨x,M,e⟩,hm⟩:=T2 h.2.1
 unfold s6
 rw [Ge]
 exact Kn<|Gp.2 ⟨M,by rw [gc3];simp;omega⟩
theorem dv6(kd wd mo T:Int)(X:List Lk):(P5 kd wd mo T X).length<=X.length:=by
 unfold P5 s6
 split
 ·rw [Ge];exact G_ _ _
 simp
end
end Go.Sl
namespace Go.Sl
open Go.Proofs
set_option maxRecDepth 4000
variable{T:List Item}{a0:Option Addr}{c0:Nat}{nd:Int}
attribute [local irreducible] W G V D A j8 Eff
theorem fq4{κ:Ctx}{I:List Item}{e:Ev}{xs:List Lk}(hT:Has I T)(hl:Sl κ T (.slice a0 xs.length c0) xs)(ha:xs.Pairwise Lk.lt)(bc:xs.length<=1000000):eu Tryz.prog κ 184 [.slice a0 xs.length c0,.agg (ez e).toArray] I (λr J=>∃(a:Option Addr) (c:Nat) (a2:Option Addr) (c2:Nat) (Y:List Item),r = .tuple #[.slice a (Q3 (eh e) xs).length c,.slice a2 (am8 xs e).length c2]/\Sl κ (Y++T) (.slice a (Q3 (eh e) xs).length c) (Q3 (eh e) xs)/\J=vk 54 a2 c2 (am8 xs e)::(Y++I)):=by
 refine Ce2 Tryz.func184 C C ?_
 refine Al<|Ge1 (Av (cs:=[_,_,_,_,_,_,_]) C C C) λb1=>Z ?_
 refine Ge1 (Aj J8 C) λb2=>Ge0 (Fo J8)<|Z ?_
 refine G.e (Ab c_ C C<|fg7 (Bd (Bd hl hT.fit) Ah) (⟨if e.v<e.u then e.v else e.u,if e.u<e.v then e.v else e.u,e.w,e.lb,e.sg,e.tm⟩:Lk) ch7 om) ?_
 rintro _ _ ⟨_,_,⟨M,q4,rfl,hi3,rfl⟩,rfl,rfl⟩
 refine Z ?_
 have ba:=hi3.le
 refine Z ?_
 refine A8 mixed<|Ee 9<|Z ?_
 refine D.bc3 (d:=35) C (λaa=>?_)<|λaa=>?_
 ·have bb:=(ad4 hi3 ha aa).1
  refine Dro 2 C (Ap C)<|Dro 3 C (Ap C)<|Dro 4 C (A1 (α:=Lk) (xs:=xs) A2 J8 C C (Bd (Bd hl hT.fit) Ah) om om)<|Dro 5 C (C7 (α:=Lk) (xs:=xs) J8 C (Bd (Bd hl hT.fit) Ah) om om)<|Dro 6 C (Bl (vs:=[_,_,_,_,_,_]) J8) ?_
  refine Dro 7 C (Fm (α:=Lk) (a:=(e_ xs M)) (b:=(⟨if e.v<e.u then e.v else e.u,if e.u<e.v then e.v else e.u,e.w,e.lb,e.sg,e.tm⟩:Lk)) dy5 C C)<|Z ?_
  refine Ao C (λao=>Z ?_)<|λao=>Z ?_
  ·have ay:M<xs.length/\(Q3 (eh e) xs)=xs.set M (eh e):=ad4 hi3 ha aa
   have hE:(Q3 (eh e) xs)=xs:=by rw [ay.2];exact dt3 (n:=eh e) ay.1 ao
   have a3:eh e∈xs:=by have h9:=Bo (xs:=xs) (i:=(M:Int)) om om;rw [show e_ xs M=eh e from ao] at h9;exact h9
   have hC:am8 xs e=[]:=B_ a3
   exact C2 C C C (vk 54 none 0 (am8 xs e)::([]++I)) (by unfold vk;rw [hC];exact (A9 (show Fit κ _ I from Az)<|B6 _ _)) ⟨a0,c0,none,0,[],by rw [hC,hE]<;>rfl,by rw [hE];exact hl,rfl⟩
  refine Ds C (λan=>?_)<|λan=>?_
  ·rw [aa] at an;exact absurd an dc
  refine Al<|Gm C<|G.e (Ab c_ C C<|bh7 (xs:=xs) (Bd (Bd hl hT.fit) Ah) om) ?_
  rintro _ _ ⟨_,_,⟨aj,ai,rfl,rfl⟩,rfl,rfl⟩
  refine Z ?_
  refine Ge0 (Cw (α:=Lk) (xs:=xs) (e:=82) (new:=⟨if e.v<e.u then e.v else e.u,if e.u<e.v then e.v else e.u,e.w,e.lb,e.sg,e.tm⟩) J8 C C C om om am)<|Z ?_
  refine A8 mixed<|Bv (vc 82 (.slice aj xs.length ai) (List.set xs ((M:Int)).toNat (⟨if e.v<e.u then e.v else e.u,if e.u<e.v then e.v else e.u,e.w,e.lb,e.sg,e.tm⟩))::e8 b2 [e7 (if e.v<e.u then e.v else e.u),e7 (if e.u<e.v then e.v else e.u),e7<|e.w,e7<|e.lb,e7<|e.sg,e7<|e.tm] 82::I) 5<|Z ?_
  refine C5 (rs:=[2,5]) kr C C<|D5 ?_<|Dl ?_
  ·refine Sr C (Af af9 C) Ai ?_
   refine C5 (rs:=[3,5]) kr C C<|D5 ?_<|Dl ?_
   ·refine Sr C (Be ef) Ai ?_
    refine Ch kr ?_
    refine Ae 5 C (Eo ef) ?_
    rintro _ _ ⟨rfl,rfl⟩
    refine Di (i:=6) kr C (Aq C) C C (Af H7 C) ?_
    refine Ae 7 C (Eo ef) ?_
    rintro _ _ ⟨rfl,rfl⟩
    refine Ci kr ?_
    refine Ak<|Ax<|A8 mixed<|Bv (vc 82 (.slice aj xs.length ai) (List.set xs ((M:Int)).toNat (⟨if e.v<e.u then e.v else e.u,if e.u<e.v then e.v else e.u,e.w,e.lb,e.sg,e.tm⟩))::e8 b2 [e7 (if e.v<e.u then e.v else e.u),e7 (if e.u<e.v then e.v else e.u),e7<|e.w,e7<|e.lb,e7<|e.sg,e7<|e.tm] 82::e8 b1 [e7 (e.kd),e7<|e.tm,e7 (if e.v<e.u then e.v else e.u),e7 (if e.u<e.v then e.v else e.u),e7<|e.w,e7<|e.lb,e7<|e.sg] 54::I) 5<|Z ?_
    refine Ds1 2<|Se1 C (B1 (α:=Ev) (cs:=[e7 (e.kd),e7<|e.tm,e7 (if e.v<e.u then e.v else e.u),e7 (if e.u<e.v then e.v else e.u),e7<|e.w,e7<|e.lb,e7<|e.sg]) (xs:=[⟨e.kd,e.tm,if e.v<e.u then e.v else e.u,if e.u<e.v then e.v else e.u,e.w,e.lb,e.sg⟩]) Ad z6 C C dc dc C kr C C) λaz=>Z ?_
    have hE:List.set xs ((M:Int)).toNat (⟨if e.v<e.u then e.v else e.u,if e.u<e.v then e.v else e.u,e.w,e.lb,e.sg,e.tm⟩)=(Q3 (eh e) xs):=(ad4 hi3 ha aa).2.symm
    have ak:(Q3 (eh e) xs).length=xs.length:=by rw [←hE,Fs]
    have hC:am8 xs e=[aq7 e]:=An (bp3 hi3 ha aa ao)
    exact C2 C C C (vk 54 az 1 (am8 xs e)::([vk 82 aj ai (Q3 (eh e) xs)]++I)) (by unfold vk;rw [hC,ak,←hE];exact Az) ⟨aj,ai,az,1,[vk 82 aj ai (Q3 (eh e) xs)],by rw [hC,ak]<;>rfl,Cy<|Gk _ A_,rfl⟩
   refine Se0 C (Eo ef) ?_
   refine Ds1 3<|Sr C (Be ef) Ai ?_
   refine Ds1 6<|Sr C (Af H7 C) Ai ?_
   refine Ds1 7<|Se0 C (Eo ef) ?_
   refine Dz<|Ak<|Ax<|A8 mixed<|Bv (vc 82 (.slice aj xs.length ai) (List.set xs ((M:Int)).toNat (⟨if e.v<e.u then e.v else e.u,if e.u<e.v then e.v else e.u,e.w,e.lb,e.sg,e.tm⟩))::e8 b2 [e7 (if e.v<e.u then e.v else e.u),e7 (if e.u<e.v then e.v else e.u),e7<|e.w,e7<|e.lb,e7<|e.sg,e7<|e.tm] 82::e8 b1 [e7 (e.kd),e7<|e.tm,e7 (if e.v<e.u then e.v else e.u),e7 (if e.u<e.v then e.v else e.u),e7<|e.w,e7<|e.lb,e7<|e.sg] 54::I) 5<|Z ?_
   refine Ds1 2<|Se1 C (B1 (α:=Ev) (cs:=[e7 (e.kd),e7<|e.tm,e7 (if e.v<e.u then e.v else e.u),e7 (if e.u<e.v then e.v else e.u),e7<|e.w,e7<|e.lb,e7<|e.sg]) (xs:=[⟨e.kd,e.tm,if e.v<e.u then e.v else e.u,if e.u<e.v then e.v else e.u,e.w,e.lb,e.sg⟩]) Ad z6 C C dc dc C kr C C) λa1=>Z ?_
   have hE:List.set xs ((M:Int)).toNat (⟨if e.v<e.u then e.v else e.u,if e.u<e.v then e.v else e.u,e.w,e.lb,e.sg,e.tm⟩)=(Q3 (eh e) xs):=(ad4 hi3 ha aa).2.symm
   have ak:(Q3 (eh e) xs).length=xs.length:=by rw [←hE,Fs]
   have hC:am8 xs e=[aq7 e]:=An (bp3 hi3 ha aa ao)
   exact C2 C C C (vk 54 a1 1 (am8 xs e)::([vk 82 aj ai (Q3 (eh e) xs)]++I)) (by unfold vk;rw [hC,ak,←hE];exact Az) ⟨aj,ai,a1,1,[vk 82 aj ai (Q3 (eh e) xs)],by rw [hC,ak]<;>rfl,Cy<|Gk _ A_,rfl⟩
  refine Se0 C (Eo ef) ?_
  refine Ds1 2<|Sr C (Af af9 C) Ai ?_
  refine Ds1 3<|Sr C (Be ef) Ai ?_
  refine Ds1 6<|Sr C (Af H7 C) Ai ?_
  refine Ds1 7<|Se0 C (Eo ef) ?_
  refine Dz<|Ak<|Ax<|A8 mixed<|Ee 5<|Z ?_
  refine Ds1 2<|Se1 C (B1 (α:=Ev) (cs:=[e7 (e.kd),e7<|e.tm,e7 (if e.v<e.u then e.v else e.u),e7 (if e.u<e.v then e.v else e.u),e7<|e.w,e7<|e.lb,e7<|e.sg]) (xs:=[⟨e.kd,e.tm,if e.v<e.u then e.v else e.u,if e.u<e.v then e.v else e.u,e.w,e.lb,e.sg⟩]) Ad z6 C C dc dc C kr C C) λax=>Z ?_
  have hE:List.set xs ((M:Int)).toNat (⟨if e.v<e.u then e.v else e.u,if e.u<e.v then e.v else e.u,e.w,e.lb,e.sg,e.tm⟩)=(Q3 (eh e) xs):=(ad4 hi3 ha aa).2.symm
  have ak:(Q3 (eh e) xs).length=xs.length:=by rw [←hE,Fs]
  have hC:am8 xs e=[aq7 e]:=An (bp3 hi3 ha aa ao)
  exact C2 C C C (vk 54 ax 1 (am8 xs e)::([vk 82 aj ai (Q3 (eh e) xs)]++I)) (by unfold vk;rw [hC,ak,←hE];exact Az) ⟨aj,ai,ax,1,[vk 82 aj ai (Q3 (eh e) xs)],by rw [hC,ak]<;>rfl,Cy<|Gk _ A_,rfl⟩
 refine Dpo 2 C<|Z ?_
 refine Ds C (λan=>?_)<|λan=>?_
 ·refine A8 mixed (Ee 7<|Z ?_)
  refine C5 (rs:=[1,4]) kr C C<|D5 ?_<|Dl ?_
  ·refine Se C (Ab c_ C C<|bh7 (xs:=xs) (Bd (Bd hl hT.fit) Ah) om) ?_
   rintro _ _ ⟨_,_,⟨a7,a4,rfl,rfl⟩,rfl,rfl⟩
   refine ⟨Ai,?_⟩
   refine Ds1 4<|Se1 C (B1 (α:=Lk) (cs:=[e7 (if e.v<e.u then e.v else e.u),e7 (if e.u<e.v then e.v else e.u),e7<|e.w,e7<|e.lb,e7<|e.sg,e7<|e.tm]) (xs:=[⟨if e.v<e.u then e.v else e.u,if e.u<e.v then e.v else e.u,e.w,e.lb,e.sg,e.tm⟩]) A2 J8 C C dc dc C kr C C) λa8=>?_
   refine Ds1 5<|Sc2 C (Ab c_ C C<|bh5 (i:=M) (xs:=xs) (ys:=([⟨if e.v<e.u then e.v else e.u,if e.u<e.v then e.v else e.u,e.w,e.lb,e.sg,e.tm⟩]:List Lk)) Az C C om tb0 lcn) λad ah=>Z ?_
   refine A8 mixed<|Bv (vk 82 ad ah (List.take M xs++([⟨if e.v<e.u then e.v else e.u,if e.u<e.v then e.v else e.u,e.w,e.lb,e.sg,e.tm⟩]:List Lk)++List.drop M xs)::e8 b2 [e7 (if e.v<e.u then e.v else e.u),e7 (if e.u<e.v then e.v else e.u),e7<|e.w,e7<|e.lb,e7<|e.sg,e7<|e.tm] 82::I) 5<|Z ?_
   refine C5 (rs:=[2,5]) kr C C<|D5 ?_<|Dl ?_
   ·refine Sr C (Af af9 C) Ai ?_
    refine C5 (rs:=[3,5]) kr C C<|D5 ?_<|Dl ?_
    ·refine Sr C (Be ef) Ai ?_
     refine Ch kr ?_
     refine Ae 5 C (Eo ef) ?_
     rintro _ _ ⟨rfl,rfl⟩
     refine Di (i:=6) kr C (Aq C) C C (Af H7 C) ?_
     refine Ae 7 C (Eo ef) ?_
     rintro _ _ ⟨rfl,rfl⟩
     refine Ci kr ?_
     refine Ak<|Ax<|A8 mixed<|Bv (vk 82 ad ah (List.take M xs++([⟨if e.v<e.u then e.v else e.u,if e.u<e.v then e.v else e.u,e.w,e.lb,e.sg,e.tm⟩]:List Lk)++List.drop M xs)::e8 b2 [e7 (if e.v<e.u then e.v else e.u),e7 (if e.u<e.v then e.v else e.u),e7<|e.w,e7<|e.lb,e7<|e.sg,e7<|e.tm] 82::e8 b1 [e7 (e.kd),e7<|e.tm,e7 (if e.v<e.u then e.v else e.u),e7 (if e.u<e.v then e.v else e.u),e7<|e.w,e7<|e.lb,e7<|e.sg] 54::I) 5<|Z ?_
     refine Ds1 2<|Se1 C (B1 (α:=Ev) (cs:=[e7 (e.kd),e7<|e.tm,e7 (if e.v<e.u then e.v else e.u),e7 (if e.u<e.v then e.v else e.u),e7<|e.w,e7<|e.lb,e7<|e.sg]) (xs:=[⟨e.kd,e.tm,if e.v<e.u then e.v else e.u,if e.u<e.v then e.v else e.u,e.w,e.lb,e.sg⟩]) Ad z6 C C dc dc C kr C C) λav=>Z ?_
     have hE:List.take M xs++([⟨if e.v<e.u then e.v else e.u,if e.u<e.v then e.v else e.u,e.w,e.lb,e.sg,e.tm⟩]:List Lk)++List.drop M xs=(Q3 (eh e) xs):=(ae9 hi3 ha aa).symm
     have hC:am8 xs e=[aq7 e]:=An (ak3 hi3 ha aa)
     exact C2 C C C (vk 54 av 1 (am8 xs e)::([vk 82 ad ah (Q3 (eh e) xs)]++I)) (by unfold vk;rw [hC,←hE];exact Az) ⟨ad,ah,av,1,[vk 82 ad ah (Q3 (eh e) xs)],by rw [hC,←hE]<;>rfl,Cy<|Gk _ A_,rfl⟩
    refine Se0 C (Eo ef) ?_
    refine Ds1 3<|Sr C (Be ef) Ai ?_
    refine Ds1 6<|Sr C (Af H7 C) Ai ?_
    refine Ds1 7<|Se0 C (Eo ef) ?_
    refine Dz<|Ak<|Ax<|A8 mixed<|Bv (vk 82 ad ah (List.take M xs++([⟨if e.v<e.u then e.v else e.u,if e.u<e.v then e.v else e.u,e.w,e.lb,e.sg,e.tm⟩]:List Lk)++List.drop M xs)::e8 b2 [e7 (if e.v<e.u then e.v else e.u),e7 (if e.u<e.v then e.v else e.u),e7<|e.w,e7<|e.lb,e7<|e.sg,e7<|e.tm] 82::e8 b1 [e7 (e.kd),e7<|e.tm,e7 (if e.v<e.u then e.v else e.u),e7 (if e.u<e.v then e.v else e.u),e7<|e.w,e7<|e.lb,e7<|e.sg] 54::I) 5<|Z ?_
    refine Ds1 2<|Se1 C (B1 (α:=Ev) (cs:=[e7 (e.kd),e7<|e.tm,e7 (if e.v<e.u then e.v else e.u),e7 (if e.u<e.v then e.v else e.u),e7<|e.w,e7<|e.lb,e7<|e.sg]) (xs:=[⟨e.kd,e.tm,if e.v<e.u then e.v else e.u,if e.u<e.v then e.v else e.u,e.w,e.lb,e.sg⟩]) Ad z6 C C dc dc C kr C C) λap=>Z ?_
    have hE:List.take M xs++([⟨if e.v<e.u then e.v else e.u,if e.u<e.v then e.v else e.u,e.w,e.lb,e.sg,e.tm⟩]:List Lk)++List.drop M xs=(Q3 (eh e) xs):=(ae9 hi3 ha aa).symm
    have hC:am8 xs e=[aq7 e]:=An (ak3 hi3 ha aa)
    exact C2 C C C (vk 54 ap 1 (am8 xs e)::([vk 82 ad ah (Q3 (eh e) xs)]++I)) (by unfold vk;rw [hC,←hE];exact Az) ⟨ad,ah,ap,1,[vk 82 ad ah (Q3 (eh e) xs)],by rw [hC,←hE]<;>rfl,Cy<|Gk _ A_,rfl⟩
   refine Se0 C (Eo ef) ?_
   refine Ds1 2<|Sr C (Af af9 C) Ai ?_
   refine Ds1 3<|Sr C (Be ef) Ai ?_
   refine Ds1 6<|Sr C (Af H7 C) Ai ?_
   refine Ds1 7<|Se0 C (Eo ef) ?_
   refine Dz<|Ak<|Ax<|A8 mixed<|Ee 5<|Z ?_
   refine Ds1 2<|Se1 C (B1 (α:=Ev) (cs:=[e7 (e.kd),e7<|e.tm,e7 (if e.v<e.u then e.v else e.u),e7 (if e.u<e.v then e.v else e.u),e7<|e.w,e7<|e.lb,e7<|e.sg]) (xs:=[⟨e.kd,e.tm,if e.v<e.u then e.v else e.u,if e.u<e.v then e.v else e.u,e.w,e.lb,e.sg⟩]) Ad z6 C C dc dc C kr C C) λaw=>Z ?_
   have hE:List.take M xs++([⟨if e.v<e.u then e.v else e.u,if e.u<e.v then e.v else e.u,e.w,e.lb,e.sg,e.tm⟩]:List Lk)++List.drop M xs=(Q3 (eh e) xs):=(ae9 hi3 ha aa).symm
   have hC:am8 xs e=[aq7 e]:=An (ak3 hi3 ha aa)
   exact C2 C C C (vk 54 aw 1 (am8 xs e)::([vk 82 ad ah (Q3 (eh e) xs)]++I)) (by unfold vk;rw [hC,←hE];exact Az) ⟨ad,ah,aw,1,[vk 82 ad ah (Q3 (eh e) xs)],by rw [hC,←hE]<;>rfl,Cy<|Gk _ A_,rfl⟩
  refine Se1 C (B1 (α:=Lk) (cs:=[e7 (if e.v<e.u then e.v else e.u),e7 (if e.u<e.v then e.v else e.u),e7<|e.w,e7<|e.lb,e7<|e.sg,e7<|e.tm]) (xs:=[⟨if e.v<e.u then e.v else e.u,if e.u<e.v then e.v else e.u,e.w,e.lb,e.sg,e.tm⟩]) A2 J8 C C dc dc C kr C C) λa9=>?_
  refine Ds1 1<|Se C (Ab c_ C C<|bh7 (xs:=xs) (Bd (Bd hl hT.fit) Ah) om) ?_
  rintro _ _ ⟨_,_,⟨a6,a5,rfl,rfl⟩,rfl,rfl⟩
  refine ⟨Ai,?_⟩
  refine Ds1 5<|Sc2 C (Ab c_ C C<|bh5 (i:=M) (xs:=xs) (ys:=([⟨if e.v<e.u then e.v else e.u,if e.u<e.v then e.v else e.u,e.w,e.lb,e.sg,e.tm⟩]:List Lk)) Az C C om tb0 lcn) λae ab=>Z ?_
  refine A8 mixed<|Bv (vk 82 ae ab (List.take M xs++([⟨if e.v<e.u then e.v else e.u,if e.u<e.v then e.v else e.u,e.w,e.lb,e.sg,e.tm⟩]:List Lk)++List.drop M xs)::e8 b2 [e7 (if e.v<e.u then e.v else e.u),e7 (if e.u<e.v then e.v else e.u),e7<|e.w,e7<|e.lb,e7<|e.sg,e7<|e.tm] 82::I) 5<|Z ?_
  refine C5 (rs:=[2,5]) kr C C<|D5 ?_<|Dl ?_
  ·refine Sr C (Af af9 C) Ai ?_
   refine C5 (rs:=[3,5]) kr C C<|D5 ?_<|Dl ?_
   ·refine Sr C (Be ef) Ai ?_
    refine Ch kr ?_
    refine Ae 5 C (Eo ef) ?_
    rintro _ _ ⟨rfl,rfl⟩
    refine Di (i:=6) kr C (Aq C) C C (Af H7 C) ?_
    refine Ae 7 C (Eo ef) ?_
    rintro _ _ ⟨rfl,rfl⟩
    refine Ci kr ?_
    refine Ak<|Ax<|A8 mixed<|Bv (vk 82 ae ab (List.take M xs++([⟨if e.v<e.u then e.v else e.u,if e.u<e.v then e.v else e.u,e.w,e.lb,e.sg,e.tm⟩]:List Lk)++List.drop M xs)::e8 b2 [e7 (if e.v<e.u then e.v else e.u),e7 (if e.u<e.v then e.v else e.u),e7<|e.w,e7<|e.lb,e7<|e.sg,e7<|e.tm] 82::e8 b1 [e7 (e.kd),e7<|e.tm,e7 (if e.v<e.u then e.v else e.u),e7 (if e.u<e.v then e.v else e.u),e7<|e.w,e7<|e.lb,e7<|e.sg] 54::I) 5<|Z ?_
    refine Ds1 2<|Se1 C (B1 (α:=Ev) (cs:=[e7 (e.kd),e7<|e.tm,e7 (if e.v<e.u then e.v else e.u),e7 (if e.u<e.v then e.v else e.u),e7<|e.w,e7<|e.lb,e7<|e.sg]) (xs:=[⟨e.kd,e.tm,if e.v<e.u then e.v else e.u,if e.u<e.v then e.v else e.u,e.w,e.lb,e.sg⟩]) Ad z6 C C dc dc C kr C C) λar=>Z ?_
    have hE:List.take M xs++([⟨if e.v<e.u then e.v else e.u,if e.u<e.v then e.v else e.u,e.w,e.lb,e.sg,e.tm⟩]:List Lk)++List.drop M xs=(Q3 (eh e) xs):=(ae9 hi3 ha aa).symm
    have hC:am8 xs e=[aq7 e]:=An (ak3 hi3 ha aa)
    exact C2 C C C (vk 54 ar 1 (am8 xs e)::([vk 82 ae ab (Q3 (eh e) xs)]++I)) (by unfold vk;rw [hC,←hE];exact Az) ⟨ae,ab,ar,1,[vk 82 ae ab (Q3 (eh e) xs)],by rw [hC,←hE]<;>rfl,Cy<|Gk _ A_,rfl⟩
   refine Se0 C (Eo ef) ?_
   refine Ds1 3<|Sr C (Be ef) Ai ?_
   refine Ds1 6<|Sr C (Af H7 C) Ai ?_
   refine Ds1 7<|Se0 C (Eo ef) ?_
   refine Dz<|Ak<|Ax<|A8 mixed<|Bv (vk 82 ae ab (List.take M xs++([⟨if e.v<e.u then e.v else e.u,if e.u<e.v then e.v else e.u,e.w,e.lb,e.sg,e.tm⟩]:List Lk)++List.drop M xs)::e8 b2 [e7 (if e.v<e.u then e.v else e.u),e7 (if e.u<e.v then e.v else e.u),e7<|e.w,e7<|e.lb,e7<|e.sg,e7<|e.tm] 82::e8 b1 [e7 (e.kd),e7<|e.tm,e7 (if e.v<e.u then e.v else e.u),e7 (if e.u<e.v then e.v else e.u),e7<|e.w,e7<|e.lb,e7<|e.sg] 54::I) 5<|Z ?_
   refine Ds1 2<|Se1 C (B1 (α:=Ev) (cs:=[e7 (e.kd),e7<|e.tm,e7 (if e.v<e.u then e.v else e.u),e7 (if e.u<e.v then e.v else e.u),e7<|e.w,e7<|e.lb,e7<|e.sg]) (xs:=[⟨e.kd,e.tm,if e.v<e.u then e.v else e.u,if e.u<e.v then e.v else e.u,e.w,e.lb,e.sg⟩]) Ad z6 C C dc dc C kr C C) λaq=>Z ?_
   have hE:List.take M xs++([⟨if e.v<e.u then e.v else e.u,if e.u<e.v then e.v else e.u,e.w,e.lb,e.sg,e.tm⟩]:List Lk)++List.drop M xs=(Q3 (eh e) xs):=(ae9 hi3 ha aa).symm
   have hC:am8 xs e=[aq7 e]:=An (ak3 hi3 ha aa)
   exact C2 C C C (vk 54 aq 1 (am8 xs e)::([vk 82 ae ab (Q3 (eh e) xs)]++I)) (by unfold vk;rw [hC,←hE];exact Az) ⟨ae,ab,aq,1,[vk 82 ae ab (Q3 (eh e) xs)],by rw [hC,←hE]<;>rfl,Cy<|Gk _ A_,rfl⟩
  refine Se0 C (Eo ef) ?_
  refine Ds1 2<|Sr C (Af af9 C) Ai ?_
  refine Ds1 3<|Sr C (Be ef) Ai ?_
  refine Ds1 6<|Sr C (Af H7 C) Ai ?_
  refine Ds1 7<|Se0 C (Eo ef) ?_
  refine Dz<|Ak<|Ax<|A8 mixed<|Ee 5<|Z ?_
  refine Ds1 2<|Se1 C (B1 (α:=Ev) (cs:=[e7 (e.kd),e7<|e.tm,e7 (if e.v<e.u then e.v else e.u),e7 (if e.u<e.v then e.v else e.u),e7<|e.w,e7<|e.lb,e7<|e.sg]) (xs:=[⟨e.kd,e.tm,if e.v<e.u then e.v else e.u,if e.u<e.v then e.v else e.u,e.w,e.lb,e.sg⟩]) Ad z6 C C dc dc C kr C C) λau=>Z ?_
  have hE:List.take M xs++([⟨if e.v<e.u then e.v else e.u,if e.u<e.v then e.v else e.u,e.w,e.lb,e.sg,e.tm⟩]:List Lk)++List.drop M xs=(Q3 (eh e) xs):=(ae9 hi3 ha aa).symm
  have hC:am8 xs e=[aq7 e]:=An (ak3 hi3 ha aa)
  exact C2 C C C (vk 54 au 1 (am8 xs e)::([vk 82 ae ab (Q3 (eh e) xs)]++I)) (by unfold vk;rw [hC,←hE];exact Az) ⟨ae,ab,au,1,[vk 82 ae ab (Q3 (eh e) xs)],by rw [hC,←hE]<;>rfl,Cy<|Gk _ A_,rfl⟩
 rw [aa] at an;exact absurd an dc
section
variable {p:Lk->Bool}{xs:List Lk}{j:Nat}{nw:Int}
theorem fo5(M:j<xs.length)(h:p (e_ xs j)=true):((List.take (j+1) xs).filter p).map (M0 nw)=((List.take j xs).filter p).map (M0 nw)++[M0 nw (e_ xs j)]:=by
 rw [Ca xs j M,Gu,Hv];simp [h]
theorem fz9(M:j<xs.length)(h:p (e_ xs j)=false):((List.take (j+1) xs).filter p).map (M0 nw)=((List.take j xs).filter p).map (M0 nw):=by
 rw [Ca xs j M,Gu,Hv];simp [h]
end
theorem dq9{κ:Ctx}{I:List Item}{nw:Int}{xs:List Lk}{g:FuncId}{ai:List Value}{p:Lk->Bool}(hl:Sl κ I (.slice a0 xs.length c0) xs)(ap:do1 Tryz.prog κ I g ai p)(az:xs.length<=1000000):eu Tryz.prog κ 185 [.slice a0 xs.length c0,e7 nw,.func (.func g) #[] ai.toArray] I (λr J=>∃(a:Option Addr) (c:Nat) (a2:Option Addr) (c2:Nat),r = .tuple #[.slice a (xs.filter (λx=> !p x)).length c,.slice a2 ((xs.filter p).map (M0 nw)).length c2]/\J=vk 54 a2 c2 ((xs.filter p).map (M0 nw))::vk 82 a c (xs.filter (λx=> !p x))::I):=by
 refine Ce3 Tryz.func185 C C<|Z ?_
 refine G.e (Ab c_ C C<|bh7 (xs:=xs) (A3 hl) om) ?_
 rintro _ _ ⟨_,_,⟨ae,ad,rfl,rfl⟩,rfl,rfl⟩
 refine Z ?_
 refine B9 (σ:=Nat×(Option Addr)×Nat×(List Ev)) (λs=>([(0,.slice ae (J7 (λx=> !p x) xs s.1).length ad),(1,e7 nw),(2,.func (.func g) #[] ai.toArray),(8,.slice s.2.1 s.2.2.2.length s.2.2.1),(9,e7<|((M7 (λx=> !p x) xs s.1:Nat):Int))]:Env)) (λs=>vk 54 s.2.1 s.2.2.1 s.2.2.2::vk 82 ae ad (J7 (λx=> !p x) xs s.1)::I) (λs=>(s.1<=xs.length)/\(s.2.2.2=((List.take s.1 xs).filter p).map (M0 nw))) (λs=>xs.length - s.1) (0,none,0,[]) ⟨om,rfl⟩ (Aa (Da C<|by first|rfl|(rw [U6])|(rw [M.1])|(rw [ab]))<|cx2<|Aa (Da C<|by first|rfl|(rw [U6])|(rw [M.1])|(rw [ab]))<|Aa (El C<|by first|omega|(rw [av9];rfl)|(dsimp only;have e1:=M.2;omega)|(dsimp only;have e1:=an;omega)) Bb) (by rw [U6];exact B6 _ _) ?_
 rintro ⟨j,a2,c2,aa⟩ hp
 dsimp only at hp ⊢
 obtain ⟨hj,ak⟩:=hp
 have a1:=dw9 (P:=(λx=> !p x)) (xs:=xs) (j:=j)
 have aw:=be3 (P:=(λx=> !p x)) (xs:=xs) (j:=j)
 have ay:aa.length<=j:=by rw [ak,Ge];exact Hd (G_ _ _) (by rw [Ft];omega)
 refine W.pull (vc.cap (xs:=(J7 (λx=> !p x) xs j)) mm) λax=>Z ?_
 refine Ao C (λav=>Z ?_)<|λav=>Z ?_
 ·refine G.e (Cx ap.1 (first:=[]) (caps:=ai) C C C<|ap.2 (e_ (J7 (λx=> !p x) xs j) ((M7 (λx=> !p x) xs j:Nat):Int)) _ Ah) ?_
  rintro _ _ ⟨_,_,⟨rfl,rfl⟩,rfl,rfl⟩
  refine Z ?_
  refine Ds C (λah=>Z ?_)<|λah=>Z ?_
  ·have aj:=br5 (P:=(λx=> !p x)) (xs:=xs) (j:=j) om
   have M:=dx0 (P:=(λx=> !p x)) (xs:=xs) (j:=j) om (by rw [←aj];exact ah)
   exact Bu ((j+1),(a2),(c2),(aa)) (by dsimp only;exact ⟨om,(by rw [fz9 om (by rw [←aj];simpa using ah)];exact ak)⟩) (hL:=(Aa (Da C<|by first|rfl|(rw [U6])|(rw [M.1])|(rw [ab]))<|cx2<|Aa (Da C<|by first|rfl|(rw [U6])|(rw [M.1])|(rw [ab]))<|Aa (El C<|by first|omega|(rw [av9];rfl)|(dsimp only;have e1:=M.2;omega)|(dsimp only;have e1:=an;omega)) Bb)) (hI:=by (try dsimp only);exact (by rw [M.1];exact Ai))
  have ao:(λx=> !p x) (e_ xs j)=false:=by rw [←br5 (P:=(λx=> !p x)) (xs:=xs) (j:=j) om];exact ah
  have an:=fn2 (P:=(λx=> !p x)) (xs:=xs) (j:=j) om ao
  refine Z ?_
  refine G.e (Ab c_ C C<|ci2 (e_ (J7 (λx=> !p x) xs j) ((M7 (λx=> !p x) xs j:Nat):Int)) nw) ?_
  rintro _ _ ⟨_,_,⟨rfl,rfl⟩,rfl,rfl⟩
  refine Ge1 (B1 (α:=Ev) (cs:=[e7 2,e7 nw,e7<|(e_ (J7 (λx=> !p x) xs j) ((M7 (λx=> !p x) xs j:Nat):Int)).u,e7<|(e_ (J7 (λx=> !p x) xs j) ((M7 (λx=> !p x) xs j:Nat):Int)).v,e7 0,e7 0,e7 0]) (xs:=[⟨2,nw,(e_ (J7 (λx=> !p x) xs j) ((M7 (λx=> !p x) xs j:Nat):Int)).u,(e_ (J7 (λx=> !p x) xs j) ((M7 (λx=> !p x) xs j:Nat):Int)).v,0,0,0⟩]) Ad z6 C C dc dc C kr C C) λau=>?_
  refine Ge2 (Bs (α:=Ev) (e:=54) (xs:=aa) (ys:=([⟨2,nw,(e_ (J7 (λx=> !p x) xs j) ((M7 (λx=> !p x) xs j:Nat):Int)).u,(e_ (J7 (λx=> !p x) xs j) ((M7 (λx=> !p x) xs j:Nat):Int)).v,0,0,0⟩]:List Ev)) Ad z6 C C C mm A5 lcn dc C<|λ_ _=>am) λar aq=>Z ?_
  refine A8 mixed<|Bv I 8<|Z ?_
  refine Dr 2 C (C1 (l:=M7 (λx=> !p x) xs j) A2 J8 C C (by simp only [Mn]<;>omega) om om)<|Z ?_
  refine Dr 6 C (C1 (l:=(M7 (λx=> !p x) xs j+1)) A2 J8 C C (by simp only [Mn]<;>omega) om om)<|Ds1 7<|Se0 C (Fp (α:=Lk) (k:=M7 (λx=> !p x) xs j) (q:=(xs.length - j - 1)) (R:=(J7 (λx=> !p x) xs<|j+1)++List.drop (M7 (λx=> !p x) xs j+(xs.length - j - 1)) (J7 (λx=> !p x) xs j)) (n:=(J7 (λx=> !p x) xs j).length) A2 J8 C lat C (Sl.dy8 (Cy (xs:=(J7 (λx=> !p x) xs j)) mm) om om) lat lat C (dh3 om ao C) lat am)<|Z ?_
  refine Gr (E2 (h:=((J7 (λx=> !p x) xs j).length - 1)) A2 J8 C C om om)<|Ga C ?_
  have ab:(J7 (λx=> !p x) xs j).length - 1=(J7 (λx=> !p x) xs<|j+1).length:=by have h3:=be3 (P:=(λx=> !p x)) (xs:=xs) (j:=j+1);omega
  refine Dp (J:=vc 54 (.slice au 1 1) (([⟨2,nw,(e_ (J7 (λx=> !p x) xs j) ((M7 (λx=> !p x) xs j:Nat):Int)).u,(e_ (J7 (λx=> !p x) xs j) ((M7 (λx=> !p x) xs j:Nat):Int)).v,0,0,0⟩]:List Ev))::vk 54 ar aq (aa++([⟨2,nw,(e_ (J7 (λx=> !p x) xs j) ((M7 (λx=> !p x) xs j:Nat):Int)).u,(e_ (J7 (λx=> !p x) xs j) ((M7 (λx=> !p x) xs j:Nat):Int)).v,0,0,0⟩]:List Ev))::vk 82 ae ad (J7 (λx=> !p x) xs<|j+1)::I) (Fit.upd am (λw h=>by have h4:=dz6 (h:=((J7 (λx=> !p x) xs j).length - 1)) (by rw [By];omega) w h;rw [dh2 ab] at h4;exact h4))<|Z ?_
  have aj:=br5 (P:=(λx=> !p x)) (xs:=xs) (j:=j) om
  exact Bu ((j+1),(ar),(aq),(aa++([⟨2,nw,(e_ (J7 (λx=> !p x) xs j) ((M7 (λx=> !p x) xs j:Nat):Int)).u,(e_ (J7 (λx=> !p x) xs j) ((M7 (λx=> !p x) xs j:Nat):Int)).v,0,0,0⟩]:List Ev))) (by dsimp only;exact ⟨om,(by rw [fo5 om (by simpa using ao),←ak,aj];rfl)⟩) (hL:=(Aa (Da C<|by first|rfl|(rw [U6])|(rw [M.1])|(rw [ab]))<|cx2<|Aa (Da C<|by first|rfl|(rw [U6])|(rw [M.1])|(rw [ab]))<|Aa (El C<|by first|omega|(rw [av9];rfl)|(dsimp only;have e1:=M.2;omega)|(dsimp only;have e1:=an;omega)) Bb))
 have hE:(J7 (λx=> !p x) xs j)=(xs.filter<|λx=> !p x):=dh4 om
 have hC:aa=(xs.filter p).map (M0 nw):=by rw [ak,Fz om]
 exact C2 C C C (vk 54 a2 c2 ((xs.filter p).map (M0 nw))::vk 82 ae ad (xs.filter<|λx=> !p x)::I) (by unfold vk;rw [←hE,←hC];exact Ai) ⟨ae,ad,a2,c2,by rw [←hE,←hC],rfl⟩
variable {κ:Ctx}{I:List Item}
theorem fb7{e:Ev}{xs:List Lk}(hT:Has I T)(hl:Sl κ T (.slice a0 xs.length c0) xs)(ha:xs.Pairwise Lk.lt)(av:xs.length<=1000000):eu Tryz.prog κ 171 [.agg #[e7 nd,.slice a0 xs.length c0],.agg (ez e).toArray] I (λr J=>∃(a:Option Addr) (c:Nat) (a2:Option Addr) (c2:Nat) (Y:List Item),r = .tuple #[.agg #[e7 nd,.slice a (ep xs e).length c],.slice a2 (P6 xs e).length c2]/\Sl κ (Y++T) (.slice a (ep xs e).length c) (ep xs e)/\J=vk 54 a2 c2 (P6 xs e)::(Y++I)):=by
 refine Ce2 Tryz.func171 C C ?_
 refine Al<|Ge1 (Av (cs:=[_,_]) C C C) λb1=>Ge1 (Av (cs:=[_,_,_,_,_,_,_]) C C C) λb2=>Ge1 (Aj Q2 C) λb3=>Z ?_
 refine Ao C (λM=>Z ?_)<|λM=>Z ?_
 ·refine G.e (Ab c_ C C<|fq4 (T:=T) (e:=e) (xs:=xs) (by repeat (first|exact hT|exact Bh _|apply Bg|apply B2)) hl ha om) ?_
  rintro _ _ ⟨_,_,⟨ar,aq,ap,an,Y8,rfl,au,rfl⟩,rfl,rfl⟩
  refine Dp (J:=vk 54 ap an (am8 xs e)::e8 b3 [e7 0,.slice none 0 0] 35::e8 b2 (ez e) 54::e8 b1 [e7 nd,.slice a0 xs.length c0] 35::(Y8++I)) (Cj<|List.Perm.cons _<|Cz (A:=Y8) (L:=[e8 b3 [e7 0,.slice none 0 0] 35,e8 b2 (ez e) 54,e8 b1 [e7 nd,.slice a0 xs.length c0] 35]) (T:=I))<|Z ?_
  refine Ge0 (Fg au1)<|Z ?_
  refine Ge0 (Co Q2)<|Z ?_
  have hE:Q3 (eh e) xs=(ep xs e):=by unfold ep;rw [B_ M]
  have hC:am8 xs e=P6 xs e:=by unfold P6;rw [B_ M]
  exact Cp C Q2 C C mm C (vk 54 ap an (P6 xs e)::(Y8++I)) (by unfold vk;rw [←hC];exact Az) ⟨ar,aq,ap,an,Y8,by rw [←hE,←hC]<;>rfl,by rw [←hE];exact au,rfl⟩
 refine Ao C (λao=>Z ?_)<|λao=>Z ?_
 ·refine Gr (D0 C C) (G.e (Ab c_ C C<|dq9 (xs:=xs) (nw:=e.tm) (Bd hl<|A9 Ah hT.fit) (cw7 ao<|Dn mm) om) ?_)
  rintro _ _ ⟨_,_,⟨ak,ad,aj,ae,rfl,rfl⟩,rfl,rfl⟩
  refine Z ?_
  refine Ge0 (Fg au1)<|Z ?_
  refine Ge0 (Co Q2)<|Z ?_
  have hE:List.filter (λx=> !ah3 e x) xs=(ep xs e):=by unfold ep;rw [An M]
  have hC:(xs.filter<|ah3 e).map (M0 e.tm)=P6 xs e:=by unfold P6;rw [An M]
  exact Cp C Q2 C C mm C (vk 54 aj ae (P6 xs e)::([vk 82 ak ad (ep xs e)]++I)) (by unfold vk;rw [←hC,←hE];exact Az) ⟨ak,ad,aj,ae,[vk 82 ak ad (ep xs e)],by rw [←hE,←hC]<;>rfl,Cy<|Gk _ A_,rfl⟩
 refine Gr (D0 C C)<|G.e (Ab c_ C C<|dq9 (xs:=xs) (nw:=e.tm) (Bd hl<|A9 Ah hT.fit) (cw6 ao<|Dn mm) om) ?_
 rintro _ _ ⟨_,_,⟨ab,aa,ai,ah,rfl,rfl⟩,rfl,rfl⟩
 refine Z ?_
 refine Ge0 (Fg au1)<|Z ?_
 refine Ge0 (Co Q2)<|Z ?_
 have hE:List.filter (λx=> !ah3 e x) xs=(ep xs e):=by unfold ep;rw [An M]
 have hC:(xs.filter<|ah3 e).map (M0 e.tm)=P6 xs e:=by unfold P6;rw [An M]
 exact Cp C Q2 C C mm C (vk 54 ai ah (P6 xs e)::([vk 82 ab aa (ep xs e)]++I)) (by unfold vk;rw [←hC,←hE];exact Az) ⟨ab,aa,ai,ah,[vk 82 ab aa (ep xs e)],by rw [←hE,←hC]<;>rfl,Cy<|Gk _ A_,rfl⟩
theorem dr4{e:Ev}{xs:List Lk}(hl:Sl κ I (.slice a0 xs.length c0) xs)(hv:p9 nd xs=0)(hf:H4 nd e)(ak:xs.length<=100000):eu Tryz.prog κ 150 [.agg #[e7 nd,.slice a0 xs.length c0],.agg (ez e).toArray] I (λr J=>∃(a:Option Addr) (c:Nat) (a2:Option Addr) (c2:Nat),r = .tuple #[.agg #[e7 nd,.slice a (ep xs e).length c],.slice a2 (P6 xs e).length c2,e7 0]/\J=vk 82 a c (ep xs e)::vk 54 a2 c2 (P6 xs e)::I):=by
 refine Ce2 Tryz.func150 C C ?_
 refine Al<|Ge1 (Av (cs:=[_,_]) C C C) λb1=>Ge1 (Av (cs:=[_,_,_,_,_,_,_]) C C C) λb2=>Ge1 (Aj Q2 C) λb3=>Z ?_
 refine G.e (Ab c_ C C<|bh9 (nd:=nd)<|A3 hl) ?_
 rintro _ _ ⟨_,_,⟨rfl,rfl⟩,rfl,rfl⟩
 refine Z ?_
 refine Ao C (λc13=>Z ?_)<|λc13=>?_
 ·refine Gc0 (Ab c_ C C<|ff4 nd e) (Z ?_)
  refine Ao C (λae=>?_)<|λae=>Z ?_
  ·exact absurd (cf9.2 hf) ae
  refine G.e (Ab c_ C C<|fb7 (T:=I) (nd:=nd) (e:=e) (xs:=xs) (by repeat (first|exact hT|exact Bh _|apply Bg|apply B2)) hl (Q5 hv).2.2 om) ?_
  rintro _ _ ⟨_,_,⟨aj,ai,ad,ab,Y8,rfl,ah,rfl⟩,rfl,rfl⟩
  refine Dp (J:=vk 54 ad ab (P6 xs e)::e8 b3 [e7 0,.slice none 0 0] 35::e8 b2 (ez e) 54::e8 b1 [e7 nd,.slice a0 xs.length c0] 35::(Y8++I)) (Cj<|List.Perm.cons _<|Cz (A:=Y8) (L:=[e8 b3 [e7 0,.slice none 0 0] 35,e8 b2 (ez e) 54,e8 b1 [e7 nd,.slice a0 xs.length c0] 35]) (T:=I))<|Z ?_
  refine Ge1 (Aj Q2 C) λb9=>Ge0 (Co Q2)<|Z ?_
  refine G.e (Ab c_ C C<|bh7 (xs:=ep xs e) (Bd ah Ah)<|by have h:=ah6 xs e;omega) ?_
  rintro _ _ ⟨_,_,⟨aa,M,rfl,rfl⟩,rfl,rfl⟩
  refine Gf N6 C<|Ge0 (Fg au1)<|Z ?_
  refine Ge0 (Co Q2)<|Z ?_
  exact Cs C Q2 C C C mm C (vk 82 aa M (ep xs e)::vk 54 ad ab (P6 xs e)::I) Az ⟨aa,M,ad,ab,rfl,rfl⟩
 exact absurd hv c13
end Go.Sl
namespace Go.Sl
section
variable {ys:List Int}{m:Nat}{k:Int}
theorem fh5(hs:ys.Pairwise λa b=>a<=b){i j:Nat}(aa:i<=j)(M:j<ys.length):e_ ys i<=e_ ys j:=by
 by_cases e:i=j
 ·subst e;exact Hp _
 rw [L3 ys i (by omega),L3 ys j M]
 exact (Hc.1 hs) i j (by omega) M<|by omega
theorem cr9(hs:ys.Pairwise λa b=>a<=b)(hm:m<ys.length)(h:k<=e_ ys m):ys.length - m<=(ys.filter λx=>decide (k<=x)).length:=by
 have h1:(ys.drop m).filter (λx=>decide<|k<=x)=ys.drop m:=Ju.2 λx hx=>by
  obtain ⟨i,hi,rfl⟩:=Hx hx
  rw [Gb] at hi
  rw [Lz,←L3 ys (m+i) (by omega)]
  have:=fh5 hs (i:=m) (j:=m+i) (by omega) (by omega)
  exact As<|by omega
 have M:ys.filter (λx=>decide<|k<=x)=(ys.take m).filter (λx=>decide<|k<=x)++(ys.drop m).filter (λx=>decide<|k<=x):=by rw [←Gu,Jo]
 rw [M,h1,By,Gb];omega
theorem cr8(hs:ys.Pairwise λa b=>a<=b)(hm:m<ys.length)(h:e_ ys m<k):(ys.filter λx=>decide (k<=x)).length<=ys.length - 1 - m:=by
 have h1:(ys.take<|m+1).filter (λx=>decide<|k<=x)=[]:=Jm.2 λx hx=>by
  obtain ⟨i,hi,rfl⟩:=Hx hx
  rw [Ft] at hi
  rw [Kk,←L3 ys i (by omega)]
  have:=fh5 hs (i:=i) (j:=m) (by omega) (by omega)
  simp;omega
 have M:ys.filter (λx=>decide<|k<=x)=(ys.take<|m+1).filter (λx=>decide<|k<=x)++(ys.drop<|m+1).filter (λx=>decide<|k<=x):=by rw [←Gu,Jo]
 have h3:=G_ (λx=>decide<|k<=x) (ys.drop<|m+1)
 rw [Gb] at h3
 rw [M,h1,Kr];omega
theorem fy4{xs:List Int}{h:Nat}(hp:ys.Perm xs)(hs:ys.Pairwise λa b=>a<=b)(hh:h<=ys.length)(M:0<h->(h:Int) - 1<e_ ys (((ys.length - h:Nat)):Int))(aa:h<ys.length->e_ ys (((ys.length - 1 - h:Nat)):Int)<=h):HI xs h:=by
 have hf:∀k:Int,((xs.filter λx=>decide<|k<=x).length:Int)=((ys.filter λx=>decide<|k<=x).length:Int):=λk=>by rw [(hp.filter _).length_eq]
 refine ⟨by omega,?_,λk hk=>?_⟩
 ·rw [hf]
  by_cases h0:h=0
  ·omega
  have:=cr9 hs (m:=ys.length - h) (k:=(h:Int)) (by omega) (by have:=M (by omega);omega)
  omega
 rw [hf] at hk
 refine Gg λhlt=>?_
 by_cases hl:h<ys.length
 ·have:=cr8 hs (m:=ys.length - 1 - h) (k:=k) (by omega) (by have:=aa hl;omega)
  omega
 have:=G_ (λx=>decide<|k<=x) ys
 omega
end
end Go.Sl
namespace Go.Sl
open Go.Proofs
set_option maxRecDepth 4000
attribute [local irreducible] W G V D A j8 Eff
theorem H_ok{κ:Ctx}{I:List Item}{a0:Option Addr}{c0:Nat}{xs:List Int}(hl:Sl κ I (.slice a0 xs.length c0) xs)(hb:xs.length<=1000000):eu Tryz.prog κ 291 [.slice a0 xs.length c0] I (λr J=>∃h:Nat,r=e7 (h:Int)/\HI xs h/\I=J):=by
 have M:=ad3 xs
 refine Ce1 Tryz.func291 C C<|Z ?_
 refine Gc2 (Ab c_ C C<|ag9 (xs:=xs) (A3 hl) om) λaj ad=>Z ?_
 refine Gc1 (Ab c_ C C<|Ck (J:=vk 3 aj ad xs::I) Az<|cj5 om)<|Z ?_
 refine Dj (σ:=Nat) (λs=>[(3,e7 ((s:Nat):Int))]) (λ_=>[]) (λs=>(s<=xs.length)/\(0<s->(s:Int) - 1<e_ (V7 xs) (((xs.length - s:Nat)):Int))) (λs=>xs.length - s) 0 ⟨om,(λh=>absurd h om)⟩ ?_
 rintro h hp
 obtain ⟨hh,aa⟩:=hp
 have ah:h<xs.length->(((xs.length - (h+1):Nat)):Int)=(xs.length:Int) - 1 - (h:Int):=λh=>by omega
 have ab:h<xs.length->(((xs.length - 1 - h:Nat)):Int)=(xs.length:Int) - 1 - (h:Int):=λh=>by omega
 refine Z ?_
 refine A4 (d:=12) C (λae=>Z ?_)<|λae=>Z ?_
 ·refine Ao C (λai=>Z ?_) (λai=>Z ?_)
  ·exact Bu ((h+1)) ⟨om,(λ_=>by rw [ah om];omega)⟩
  exact Am C C I Ah ⟨h,rfl,fy4 (ad2 xs) (bc4 xs) om (λh0=>by rw [M];exact aa h0)<|λh0=>by rw [M] at h0 ⊢; rw [ab h0];omega,rfl⟩
 exact Am C C I Ah ⟨h,rfl,fy4 (ad2 xs) (bc4 xs) om (λh0=>by rw [M];exact aa h0)<|λh0=>by rw [M] at h0 ⊢; rw [ab h0];omega,rfl⟩
end Go.Sl
namespace Go.Sl
section
variable {α:Type}[Enc α]{κ:Ctx}{I:List Item}
theorem Fit.fz1{e:TypeId}{a:Option Addr}{n c k:Nat}{xs:List α}(hn:n=xs.length)(hk:k<=xs.length):Fit κ (vc e (.slice a n c) xs::I) (vc e (.slice (P1 a c k (Enc.sz α)) (xs.drop k).length (c - k)) (xs.drop k)::I):=by
 subst hn
 refine Fit.upd (At.head _ _ _) λw h=>⟨?_,λj ⟨o,m,c',hv,hc⟩=>?_⟩
 ·obtain ⟨a',cap,hv,h1,h2,h3,h4⟩:=h
  cases hv
  refine ⟨_,c - k,rfl,r8 _,by rw [Gb];omega,by omega,λhc=>?_⟩
  obtain ⟨b,off,aa,M,hb,h5,h6⟩:=h4 (by omega)
  refine ⟨b,off+k*Enc.sz α,aa,by rw [M];unfold P1;rw [An (by omega)];simp [G9],hb,?_,λj u hj=>?_⟩
  ·have e1:(c - k)*Enc.sz α+k*Enc.sz α=c*Enc.sz α:=by rw [←Jj];congr 1;omega
   omega
  rw [Y0,Jy] at hj
  rw [Mj]
  exact h6 _ u hj
 injection hv with M hm hcc
 subst hcc
 unfold P1 at M
 rw [An (by omega)] at M
 obtain ⟨a',cap,hv,h1,h2,h3,h4⟩:=h
 cases hv
 obtain ⟨b,off,aa,h5,hb,_⟩:=h4 (by omega)
 subst h5
 simp only [Option.map_some,Jv,G9] at M
 injection M with hb1
 subst hb1
 exact ⟨off,_,c,rfl,by omega⟩
end
end Go.Sl
