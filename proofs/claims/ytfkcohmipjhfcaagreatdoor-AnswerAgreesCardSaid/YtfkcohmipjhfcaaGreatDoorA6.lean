/- A part of the proofs of statements of this seat: contracts of functions, and the plain laws that they lean on. No conditions. -/
import Derived.Test.YtfkcohmipjhfcaaGreatDoorA5
set_option linter.unusedVariables false
set_option linter.unusedSimpArgs false
set_option linter.unusedSectionVars false
namespace Go.Sl
open Go.Proofs
set_option maxRecDepth 4000
variable {κ:Ctx}{I:List Item}
def Lk.lcmp(a c:Lk):Int:=orL [cmpI c.tm a.tm,Lk.cmp c a]
def Lk.late(a c:Lk):Prop:=c.tm<a.tm∨(a.tm=c.tm∧Lk.lt c a)
instance:DecidableRel Lk.late:=fun a c=>by unfold Lk.late;infer_instance
theorem Lk.lcmp_lt(a c:Lk):Lk.lcmp a c<0↔Lk.late a c:=by
 unfold Lk.lcmp Lk.late
 rw [←Lk.cmp_lt]
 simp only [orL,cmpI]
 generalize Lk.cmp c a=z
 (repeat' split)<;>omega
def SortedK(xs ys:List Lk):Prop:=ys.Perm xs∧ys.Pairwise fun a b=>¬Lk.late b a
open Go.Proofs Go.Shelf Go.Sort in
theorem swo_lk:SWO (ltOf Lk.lcmp) where
 irrefl x:=decide_eq_false fun h=>by rw [Lk.lcmp_lt] at h;unfold Lk.late Lk.lt Pt.lt Lk.p at h;simp only at h;omega
 trans x y z h1 h2:=decide_eq_true (by
  have a:=of_decide_eq_true h1
  have b:=of_decide_eq_true h2
  rw [Lk.lcmp_lt] at a b ⊢
  unfold Lk.late Lk.lt Pt.lt Lk.p at a b ⊢
  simp only at a b ⊢
  omega)
 ntrans x y z h1 h2:=decide_eq_false fun h=>by
  have a:=of_decide_eq_false h1
  have b:=of_decide_eq_false h2
  rw [Lk.lcmp_lt] at a b h
  unfold Lk.late Lk.lt Pt.lt Lk.p at a b h
  simp only at a b h
  omega
theorem CloneL{a:Option Addr}{c:Nat}{xs:List Lk}(hl:Sl κ I (.slice a xs.length c) xs)(hb:xs.length≤1000000000) :
    CallS Tryz.prog κ 216 [.slice a xs.length c] I (fun r J=>∃a' c',r = .slice a' xs.length c'∧J=vc 146 (.slice a' xs.length c') xs::I):=by
 refine B4 (p:=a.isNone=true→xs=[]∧c=0) (fun w hs hn=>hl.isNone w hs hn) fun hnone=>?_
 refine Ce1 Tryz.func216 rfl rfl ?_
 refine Ah (Ga rfl (Af (Ao (Ah (Gm rfl (Gr (Runs.eqnil A3 rfl rfl) (Af (W.cond rfl (fun c4=>?_) (fun c4=>?_)))))))))
 ·refine Ah (Ga rfl (Af (A2 (Al ?_))))
  obtain ⟨hx0,_⟩:=hnone c4
  subst hx0
  exact A7 rfl rfl (vc 146 (.slice none ([]:List Lk).length 0) ([]:List Lk)::I) (B3 _ _) ⟨none,0,rfl,rfl⟩
 ·refine A0 (Ai (Ah (Ge1 (Eff.bs0 (α:=Lk) A3 ty146 rfl) fun ad1=>?_)))
  refine Gm rfl (Ge2 (Ca (α:=Lk) (e:=146) (xs:=([]:List Lk)) (ys:=xs) A3 ty146 rfl rfl rfl mm (Bf hl) (by simp only [List.length_nil];omega) dc rfl (fun _ _=>am)) fun ad2 cp3=>?_)
  exact Ga rfl (Af (A2 (A7 rfl rfl (vc 146 (.slice ad2 xs.length cp3) xs::I) Ay ⟨ad2,cp3,rfl,rfl⟩)))
theorem LastCmp_ok(a c:Lk) :
    CallS Tryz.prog κ 322 [.agg #[I64 (a.u),I64 (a.v),I64 (a.w),I64 (a.lb),I64 (a.sg),I64 (a.tm)],.agg #[I64 (c.u),I64 (c.v),I64 (c.w),I64 (c.lb),I64 (c.sg),I64 (c.tm)]] I (fun r J=>r=I64 (Lk.lcmp a c)∧I=J):=by
 refine Ce2 Tryz.func322 rfl rfl ?_
 refine Ah (Ge1 (Bb (cs:=[_,_,_,_,_,_]) rfl rfl rfl) fun b1=>Ge1 (Bb (cs:=[_,_,_,_,_,_]) rfl rfl rfl) fun b2=>Ga rfl (Af (Ao (Bo mixed (Bu (blk b2 [I64 (c.u),I64 (c.v),I64 (c.w),I64 (c.lb),I64 (c.sg),I64 (c.tm)] 146::blk b1 [I64 (a.u),I64 (a.v),I64 (a.w),I64 (a.lb),I64 (a.sg),I64 (a.tm)] 146::I) 10 (Dr 0 rfl (Aa fld146_5 rfl) (Dr 1 rfl (Au ty3) ?_)))))))
 refine Dr 2 rfl (Aa fld146_5 rfl) (Dr 3 rfl (Au ty3) ?_)
 refine Dr 5 rfl (Bm (vs:=[_,_,_,_,_,_]) ty146) ?_
 refine Dr 6 rfl (Bm (vs:=[_,_,_,_,_,_]) ty146) ?_
 refine Ds1 4 (Sc0 rfl (Am call225 rfl rfl (Compare_ok c.tm a.tm)) ?_)
 refine Ds1 7 (Sc0 rfl (Am call255 rfl rfl (OrderL_ok c a)) ?_)
 refine Ds1 8 (Se1 rfl (B9 (α:=Int) (cs:=[_,_]) (xs:=[cmpI c.tm a.tm,Lk.cmp c a]) Ab ty3 rfl rfl dc dc rfl rfl rfl rfl) fun ad3=>?_)
 refine Ds1 9 (Sc0 rfl (Am call224 rfl rfl (Or_ok Br)) ?_)
 refine C4 kr ?_
 refine E3 (i:=10) kr rfl (Bg rfl) rfl rfl (Bd rfl) ?_
 refine C5 kr ?_
 exact Ai (As (S1 4 rfl) (A2 (A7 rfl rfl (I) A4 ⟨rfl,rfl⟩)))
open Go.Proofs Go.Shelf Go.Sort in
theorem SortK_ok{κ:Ctx}{I:List Item}{a:Option Addr}{c:Nat}{xs:List Lk}(hsz:xs.length<1000000000) :
  CallS Tryz.prog κ 321 [.slice a xs.length c,.func (.func 322) #[] #[]] (vc 146 (.slice a xs.length c) xs::I) fun r J=>∃ys:List Lk,(r = .tuple #[]∧SortedK xs ys∧ys.length=xs.length)∧J=[]++vc 146 (.slice a xs.length c) ys::I:=
 (sort_any (α:=Lk) (ρ:=Tryz.sort321_ren) Tryz.sort321 Tryz.isAgg146 Tryz.sizeOf146 Lk.lcmp swo_lk 322 #[] (enters_of Tryz.func322 (by kernel_rfl) rfl) (fun x y W=>lays_of (LastCmp_ok x y)) om).mono fun r J ⟨ys,⟨h1,h2,h3⟩,h4⟩=>
  ⟨ys,⟨h1,⟨h2,h3.imp fun {a b} h=>by rw [←Lk.lcmp_lt];exact of_decide_eq_false h⟩,h2.length_eq⟩,by rw [h4,h2.length_eq]⟩
theorem SortK_at{F:Item→List Item}{a:Option Addr}{n c:Nat}{xs:List Lk}(hat:AtF I (vc 146 (.slice a n c) xs) F)(hn:xs.length=n)(hsz:xs.length<1000000000) :
  CallS Tryz.prog κ 321 [.slice a n c,.func (.func 322) #[] #[]] I fun r J=>∃ys:List Lk,(r = .tuple #[]∧SortedK xs ys∧ys.length=n)∧J=[]++F (vc 146 (.slice a n c) ys):=
 Dy (Z:=fun _=>[]) (X:=fun ys:List Lk=>vc 146 (.slice a n c) ys) (Post:=fun r ys=>r = .tuple #[]∧SortedK xs ys∧ys.length=n) hat fun J _ _=>by subst hn;exact SortK_ok hsz
theorem Last_ok{nd mo:Int}{a0:Option Addr}{c0:Nat}{xs:List Lk}(hl:Sl κ I (.slice a0 xs.length c0) xs)(h0:0≤mo)(hsz:xs.length≤1000000) :
    CallS Tryz.prog κ 299 [.agg #[I64 (nd),.slice a0 xs.length c0],I64 (mo)] I (fun r J=>∃(a:Option Addr) (c:Nat) (ys:List Lk) (m:Nat),r = .slice a (List.take m ys).length c∧(SortedK xs ys∧ys.length=xs.length∧(m:Int)≤mo∧m≤xs.length∧((m:Int)=mo∨m=xs.length))∧J=vc 146 (.slice a xs.length c) ys::I):=by
 refine Ce2 Tryz.func299 rfl rfl ?_
 refine Ah (Ge1 (Bb (cs:=[_,_]) rfl rfl rfl) fun b1=>Ga rfl (Af (Ah (Gf fld111_1 rfl (Gl ty109 ?_)))))
 refine G.e (Am call216 rfl rfl (CloneL (xs:=xs) (Bf hl) om)) ?_
 rintro _ _ ⟨_,_,⟨ad2,cp3,rfl,rfl⟩,rfl,rfl⟩
 refine Ga rfl (Af (Ah (Gm rfl (G.e (Am call321 rfl rfl (SortK_at (by repeat (first|exact AtF.head _ _|apply AtF.tail)) rfl om)) ?_))))
 rintro _ _ ⟨_,_,⟨ys4,⟨rfl,hsys4,hlys4⟩,rfl⟩,rfl,rfl⟩
 show G Tryz.prog κ _ _ _ _ ([(10,.tuple #[]),(9,.slice ad2 xs.length cp3),(5,.slice ad2 xs.length cp3),(8,.slice ad2 xs.length cp3),(7,.slice a0 xs.length c0),(6,.pointer (some ⟨b1,1,none⟩)),(4,.slice none 0 0),(2,.pointer (some ⟨b1,0,none⟩)),(0,.agg #[I64 (nd),.slice a0 xs.length c0]),(1,I64 (mo))]:Env) (vc 146 (.slice ad2 xs.length cp3) (ys4)::blk b1 [I64 (nd),.slice a0 xs.length c0] 111::I)
 refine Af (Ah (Gm rfl (Gm rfl (Gm rfl (Gr (Bw A3 rfl) (Gr (Runs.min rfl rfl) (Gr (Runs.hi (α:=Lk) (xs:=ys4) (h:=(if ((xs.length:Nat):Int)<mo then ((xs.length:Nat):Int) else mo).toNat) A3 ty146 rfl rfl om Br (by split<;>omega)) (Ga rfl (Af (As (S1 4 rfl) (A2 ?_)))))))))))
 have hmn:(((((if ((xs.length:Nat):Int)<mo then ((xs.length:Nat):Int) else mo).toNat)):Nat):Int)≤mo∧(((if ((xs.length:Nat):Int)<mo then ((xs.length:Nat):Int) else mo).toNat))≤xs.length∧((((((if ((xs.length:Nat):Int)<mo then ((xs.length:Nat):Int) else mo).toNat)):Nat):Int)=mo∨(((if ((xs.length:Nat):Int)<mo then ((xs.length:Nat):Int) else mo).toNat))=xs.length):=by split<;>omega
 exact A7 rfl rfl (vc 146 (.slice ad2 xs.length cp3) (ys4)::I) Ay ⟨ad2,cp3,ys4,((if ((xs.length:Nat):Int)<mo then ((xs.length:Nat):Int) else mo).toNat),rfl,⟨hsys4,hlys4,hmn⟩,rfl⟩
theorem IndexL_ok{v:Value}{xs:List Lk}(hl:Sl κ I v xs)(x:Lk) :
    CallS Tryz.prog κ 323 [v,.agg #[I64 (x.u),I64 (x.v),I64 (x.w),I64 (x.lb),I64 (x.sg),I64 (x.tm)]] I (fun r J=>∃y:Int,r=I64 y∧(0≤y↔x∈xs)∧I=J):=by
 refine B4 hl.le fun hmax=>?_
 refine Ce2 Tryz.func323 rfl rfl ?_
 refine Ah (Ge1 (Bb (cs:=[_,_,_,_,_,_]) rfl rfl rfl) fun b1=>Ga rfl (Af (Ao (Ah (Gm rfl (Gr (Bz (α:=Lk) (xs:=xs) A3 rfl (Bf hl)) (Gm rfl (Af (Ax (Bx (σ:=Nat) (fun s=>([(0,v),(3,.pointer (some ⟨b1,0,none⟩)),(7,I64 (((xs.length:Nat):Int))),(8,I64 (((s:Nat):Int)))]:Env)) (fun s=>blk b1 [I64 (x.u),I64 (x.v),I64 (x.w),I64 (x.lb),I64 (x.sg),I64 (x.tm)] 146::I) (fun s=>(s≤xs.length)∧(∀j,j<s→at_ xs (j:Int)≠x)) (fun s=>xs.length - s) (0) (show ((0:Nat)≤xs.length)∧(∀j,j<(0:Nat)→at_ xs (j:Int)≠x) from ⟨om,all_zero⟩) (Ac rfl (Ac rfl (Ac rfl (Ac Cb Bq)))) (show Fit κ _ (blk b1 [I64 (x.u),I64 (x.v),I64 (x.w),I64 (x.lb),I64 (x.sg),I64 (x.tm)] 146::I) from Ay) ?_))))))))))
 rintro k hp
 obtain ⟨hk,hn⟩:=hp
 refine Ah (Gr (Bc rfl rfl) (Af (Ao (A9 rfl (fun c9=>?_) (fun c9=>?_)))))
 ·refine A0 (Ai (Ao (Ax (Ah (Gm rfl (Ga rfl (Af (Ao (Bo mixed (Bu (blk b1 [I64 (x.u),I64 (x.v),I64 (x.w),I64 (x.lb),I64 (x.sg),I64 (x.tm)] 146::I) 6 (Dr 0 rfl (Bm (vs:=[_,_,_,_,_,_]) ty146) ?_)))))))))))
  refine Dr 1 rfl (Ad rfl) (Dr 2 rfl (Ad rfl) (Dr 3 rfl (A8 (α:=Lk) (xs:=xs) A3 ty146 rfl rfl (Bf hl) om om) (Dr 4 rfl (B0 (α:=Lk) (xs:=xs) ty146 rfl (Bf hl) om om) (Dr 5 rfl (Runs.eqlT (α:=Lk) (a:=x) (b:=(at_ xs (k:Int))) eqt146 rfl rfl) (Dz (Ai (A9 rfl (fun c16=>?_) (fun c16=>?_))))))))
  ·refine Ah (Gm rfl (Ga rfl (Af (As (S1 4 rfl) (A2 (Ar (Al (Al (Ar (Al ?_))))))))))
   have hm:x∈xs:=by rw [show x=at_ xs (k:Int) from c16];exact Ck om om
   exact A7 rfl rfl (I) A4 ⟨_,rfl,⟨fun _=>hm,fun _=>by omega⟩,rfl⟩
  ·exact A0 (Aj (Ai (Aw (Gr (Rad rfl rfl) (Gm rfl (Bj (B6 ((k+1)) ⟨om,(Ei hn (fun e=>c16 e.symm))⟩)))))))
 ·refine Bt (Ak (Ak (A6 (Ai (Ah (Ga rfl (Af (A2 ?_))))))))
  have hm:x∉xs:=not_mem_at hn om
  exact A7 rfl rfl (I) A4 ⟨_,rfl,⟨fun h=>absurd h dc,fun h=>absurd h hm⟩,rfl⟩
theorem ContainsL_ok{v:Value}{xs:List Lk}(hl:Sl κ I v xs)(x:Lk) :
    CallS Tryz.prog κ 301 [v,.agg #[I64 (x.u),I64 (x.v),I64 (x.w),I64 (x.lb),I64 (x.sg),I64 (x.tm)]] I (fun r J=>r = .bool (decide (x∈xs))∧I=J):=by
 refine Ce2 Tryz.func301 rfl rfl ?_
 refine Ah (Ge1 (Bb (cs:=[_,_,_,_,_,_]) rfl rfl rfl) fun b1=>Ga rfl (Af (Ah (Gm rfl (Gl6 ty146 ?_)))))
 refine G.e (Am call323 rfl rfl (IndexL_ok (Bf hl) x)) ?_
 rintro _ _ ⟨_,_,⟨y2,rfl,hy2,rfl⟩,rfl,rfl⟩
 exact Gr (Cg rfl rfl) (Ga rfl (Af (A2 (A7 rfl rfl (I) A4 ⟨by rw [decide_eq_decide.2 asm],rfl⟩))))
theorem Last1_ok{b:Nat}{v:Value}{zs:List Lk}(hb:BlkRd κ I b [v] 109)(hz:Sl κ I v zs)(x:Lk) :
    CallS Tryz.prog κ 300 [.agg #[I64 (x.u),I64 (x.v),I64 (x.w),I64 (x.lb),I64 (x.sg),I64 (x.tm)],.pointer (some ⟨b,0,none⟩)] I (fun r J=>r = .bool (decide (x∈zs))∧I=J):=by
 refine Ce2 Tryz.func300 rfl rfl ?_
 refine Ah (Ge1 (Bb (cs:=[_,_,_,_,_,_]) rfl rfl rfl) fun b1=>Ga rfl (Af (Ah (Gr (Da ty109 rfl (C2 hb A4) rfl) (Gl6 ty146 ?_)))))
 refine Gc0 (Am call301 rfl rfl (ContainsL_ok (Bf hz) x)) ?_
 exact Ga rfl (Af (A2 (A7 rfl rfl (I) A4 ⟨rfl,rfl⟩)))
theorem Rule3_ok{nd kd wd mo nw:Int}{a0:Option Addr}{c0:Nat}{xs:List Lk}(hl:Sl κ I (.slice a0 xs.length c0) xs)(h0:0≤mo)(hsz:xs.length≤1000000) :
    CallS Tryz.prog κ 298 [.agg #[I64 (nd),.slice a0 xs.length c0],.agg #[I64 (kd),I64 (wd),I64 (mo)],I64 (nw)] I (fun r J=>∃(b:Nat) (a:Option Addr) (c:Nat) (ys:List Lk) (m:Nat),r = .func (.func 300) #[] #[.pointer (some ⟨b,0,none⟩)]∧(SortedK xs ys∧ys.length=xs.length∧(m:Int)≤mo∧m≤xs.length∧((m:Int)=mo∨m=xs.length))∧J=blk b [.slice a (List.take m ys).length c] 109::vc 146 (.slice a xs.length c) ys::I):=by
 refine Ce3 Tryz.func298 rfl rfl ?_
 refine Ah (Ge1 (Bb (cs:=[_,_]) rfl rfl rfl) fun b1=>Ge1 (Bb (cs:=[_,_,_]) rfl rfl rfl) fun b2=>Ga rfl (Af (Ah (Gl2 ty111 ?_))))
 refine Gf fld31_2 rfl (Gl ty3 ?_)
 refine G.e (Am call299 rfl rfl (Last_ok (nd:=nd) (Bf hl) h0 om)) ?_
 rintro _ _ ⟨_,_,⟨ad3,cp4,ys5,mm6,rfl,hzys5,rfl⟩,rfl,rfl⟩
 refine Ge1 (A5 ty109 rfl) fun b7=>Ge0 (Ci (cs:=[_]) (vs:=[_]) (cs':=[_]) ty109) ?_
 exact Af (Ah (Gr (Dv rfl rfl) (Ga rfl (Af (A2 (A7 rfl rfl (blk b7 [.slice ad3 (List.take mm6 ys5).length cp4] 109::vc 146 (.slice ad3 xs.length cp4) (ys5)::I) Ay ⟨b7,ad3,cp4,ys5,mm6,rfl,hzys5,rfl⟩))))))
end Go.Sl
/- Windows: what is present. The plain laws. No Go. No conditions. -/
namespace Go.Sl
theorem scan0{n:Int}:∀(xs:List Lk) (q:Lk),scanL (badL n) Lk.lt (some q) xs=0→(∀x∈xs,badL n x=0)∧(q::xs).Pairwise Lk.lt
 |[],q,_=>by simp
 |p::ps,q,h=>by
  simp only [scanL] at h
  by_cases hb:badL n p=0
  ·rw [if_neg (by simp [hb])] at h
   by_cases hl:Lk.lt q p
   ·rw [if_pos hl] at h
    obtain ⟨h1,h2⟩:=scan0 ps p h
    refine ⟨fun x hx=>?_,List.pairwise_cons.2 ⟨fun x hx=>?_,h2⟩⟩
    ·rcases List.mem_cons.1 hx with rfl|hx
     ·exact hb
     ·exact h1 x hx
    ·rcases List.mem_cons.1 hx with rfl|hx
     ·exact hl
     ·exact Pt.lin.tr _ _ _ hl ((List.pairwise_cons.1 h2).1 x hx)
   ·rw [if_neg hl] at h;cases h
  ·rw [if_pos hb] at h;exact absurd h hb
theorem checkS_ok{n:Int}{xs:List Lk}(h:checkS n xs=0):(0≤n∧n≤64)∧(∀x∈xs,badL n x=0)∧xs.Pairwise Lk.lt:=by
 unfold checkS at h
 by_cases hn:n<0∨64<n
 ·rw [if_pos hn] at h;cases h
 ·rw [if_neg hn] at h
  refine ⟨by omega,?_⟩
  cases xs with
  |nil=>exact ⟨(fun x hx=>by cases hx),List.Pairwise.nil⟩
  |cons p ps=>
   simp only [scanL] at h
   by_cases hb:badL n p=0
   ·rw [if_neg (by simp [hb])] at h
    obtain ⟨h1,h2⟩:=scan0 ps p h
    exact ⟨fun x hx=>by
     rcases List.mem_cons.1 hx with rfl|hx
     ·exact hb
     ·exact h1 x hx,h2⟩
   ·rw [if_pos hb] at h;exact absurd h hb
theorem badL_tm{n:Int}{l:Lk}(h:badL n l=0):0≤l.tm∧l.tm≤1048576:=by
 unfold badL at h
 split at h
 ·cases h
 ·split at h
  ·cases h
  ·split at h
   ·cases h
   ·omega
structure AskOk (nd:Int) (xs:List Lk) (kd wd mo nw:Int):Prop where
 kind:1≤kd∧kd≤3
 width:kd=2→1≤wd∧wd≤1048576
 most:kd=3→0≤mo∧mo≤2016
 nodes:0≤nd∧nd≤64
 asc:xs.Pairwise Lk.lt
 now:0≤nw∧nw≤1048576
 tm:∀x∈xs,0≤x.tm∧x.tm≤nw
theorem askE_ok{nd:Int}{xs:List Lk}{kd wd mo nw:Int}(h:askE nd xs kd wd mo nw=0):AskOk nd xs kd wd mo nw:=by
 unfold askE at h
 by_cases h1:checkW kd wd mo=0
 ·rw [if_neg (by simp [h1])] at h
  by_cases h2:checkS nd xs=0
  ·rw [if_neg (by simp [h2])] at h
   obtain ⟨h3,h4,h5⟩:=checkS_ok h2
   split at h
   ·cases h
   ·rename_i h6
    have hw:(1≤kd∧kd≤3)∧(kd=2→1≤wd∧wd≤1048576)∧(kd=3→0≤mo∧mo≤2016):=by
     unfold checkW at h1
     split at h1
     ·cases h1
     ·split at h1
      ·cases h1
      ·omega
    refine ⟨hw.1,hw.2.1,hw.2.2,h3,h5,by omega,fun x hx=>?_⟩
    have h7:=badL_tm (h4 x hx)
    refine ⟨h7.1,?_⟩
    by_cases h8:nw<x.tm
    ·exact absurd (.inr (.inr (List.any_eq_true.2 ⟨x,hx,decide_eq_true h8⟩))) h6
    ·omega
  ·rw [if_pos h2] at h;exact absurd h h2
 ·rw [if_pos h1] at h;exact absurd h h1
def rankL(xs:List Lk)(x:Lk):Nat:=(xs.filter fun y=>decide (Lk.late y x)).length
def inW(kd wd mo nw:Int)(xs:List Lk)(x:Lk):Bool:=if kd=2 then decide (nw - x.tm<wd) else if kd=3 then decide ((rankL xs x:Int)<mo) else true
theorem late_irr(x:Lk):¬Lk.late x x:=by unfold Lk.late Lk.lt Pt.lt;omega
theorem late_asymm{x y:Lk}(h:Lk.late x y):¬Lk.late y x:=by unfold Lk.late Lk.lt Pt.lt at *; omega
theorem rank_at:∀(ys:List Lk) (i:Nat) (hi:i<ys.length),ys.Pairwise Lk.late→rankL ys ys[i]=i
 |[],i,hi,_=>absurd hi (by simp)
 |y::ys,0,hi,hp=>by
  obtain ⟨h1,h2⟩:=List.pairwise_cons.1 hp
  unfold rankL
  rw [List.filter_eq_nil_iff.2 fun z hz=>?_]
  ·rfl
  ·simp only [List.getElem_cons_zero,decide_eq_true_eq]
   rcases List.mem_cons.1 hz with rfl|hz
   ·exact late_irr _
   ·exact late_asymm (h1 z hz)
 |y::ys,i+1,hi,hp=>by
  obtain ⟨h1,h2⟩:=List.pairwise_cons.1 hp
  have hi':i<ys.length:=by simpa using hi
  have ih:=rank_at ys i hi' h2
  unfold rankL at ih ⊢
  rw [List.getElem_cons_succ,List.filter_cons,if_pos (decide_eq_true (h1 _ (List.getElem_mem hi'))),List.length_cons,ih]
theorem sortedK_late{xs ys:List Lk}(h:SortedK xs ys)(ha:xs.Pairwise Lk.lt):ys.Pairwise Lk.late:=by
 have h1:xs.Pairwise fun a b=>Lk.late a b∨Lk.late b a:=ha.imp fun {a b} hab=>by unfold Lk.late Lk.lt Pt.lt at *; omega
 have h2:ys.Pairwise fun a b=>Lk.late a b∨Lk.late b a:=(h.1.pairwise_iff fun {x y} hxy=>hxy.symm).2 h1
 exact (h2.and h.2).imp fun {a b} hab=>hab.1.resolve_right hab.2
theorem take_rank{xs ys:List Lk}(h:SortedK xs ys)(ha:xs.Pairwise Lk.lt){x:Lk}(hx:x∈xs)(m:Nat):x∈ys.take m↔rankL xs x<m:=by
 have hp:=sortedK_late h ha
 have hr:∀z,rankL xs z=rankL ys z:=fun z=>by unfold rankL;exact ((h.1.filter _).length_eq).symm
 constructor
 ·intro hm
  obtain ⟨j,hj,he⟩:=List.mem_take_iff_getElem.1 hm
  rw [hr,←he,rank_at ys j om hp];omega
 ·intro hm
  obtain ⟨j,hj,he⟩:=List.getElem_of_mem (h.1.mem_iff.2 hx)
  rw [hr,←he,rank_at ys j hj hp] at hm
  exact List.mem_take_iff_getElem.2 ⟨j,by omega,he⟩
theorem inW_all{kd wd mo nw:Int}{xs:List Lk}(hk:kd=1):(xs.filter fun _=>true)=xs.filter (inW kd wd mo nw xs):=
 List.filter_congr fun x hx=>by unfold inW;rw [if_neg om,if_neg om]
theorem inW_age{nd kd wd mo nw:Int}{xs:List Lk}(h:AskOk nd xs kd wd mo nw)(hk:kd=2):(xs.filter fun x=>decide (IntKind.i64.wrap (nw - x.tm)<wd))=xs.filter (inW kd wd mo nw xs):=
 List.filter_congr fun x hx=>by
  have h1:=h.tm x hx
  have h2:=h.now
  unfold inW;rw [if_pos hk,InR.wrap (by unfold InR;omega)]
theorem inW_last{nd kd wd mo nw:Int}{xs ys:List Lk}{m:Nat}(h:AskOk nd xs kd wd mo nw)(hk:kd=3)(hs:SortedK xs ys∧ys.length=xs.length∧(m:Int)≤mo∧m≤xs.length∧((m:Int)=mo∨m=xs.length)) :
  (xs.filter fun x=>decide (x∈ys.take m))=xs.filter (inW kd wd mo nw xs):=
 List.filter_congr fun x hx=>by
  unfold inW;rw [if_neg om,if_pos hk,decide_eq_decide,take_rank hs.1 h.asc hx]
  have hlt:rankL xs x<xs.length:=by
   have h1:=List.length_filter_le (fun y=>decide (Lk.late y x)) xs
   obtain ⟨j,hj,he⟩:=List.getElem_of_mem (hs.1.1.mem_iff.2 hx)
   have h2:rankL xs x=j:=by
    have:rankL xs x=rankL ys x:=by unfold rankL;exact ((hs.1.1.filter _).length_eq).symm
    rw [this,←he,rank_at ys j hj (sortedK_late hs.1 h.asc)]
   omega
  omega
end Go.Sl
namespace Go.Sl
open Go.Proofs
set_option maxRecDepth 4000
variable {κ:Ctx}{I:List Item}
def cutEv(nw:Int)(l:Lk):Ev:=⟨2,nw,l.u,l.v,0,0,0⟩
theorem gone_yes{P:Lk→Bool}{f:Lk→Ev}{xs:List Lk}{k:Nat}(hk:k<xs.length)(h:P (at_ xs (k:Int))=false):((xs.take (k+1)).filter fun x=> !P x).map f=((xs.take k).filter fun x=> !P x).map f++[f (at_ xs (k:Int))]:=by
 rw [Db xs k hk,List.filter_append,List.map_append];simp [h]
theorem gone_no{P:Lk→Bool}{f:Lk→Ev}{xs:List Lk}{k:Nat}(hk:k<xs.length)(h:P (at_ xs (k:Int))=true):((xs.take (k+1)).filter fun x=> !P x).map f=((xs.take k).filter fun x=> !P x).map f:=by
 rw [Db xs k hk,List.filter_append,List.map_append];simp [h]
theorem filt_not{P R:Lk→Bool}{xs:List Lk}(h:xs.filter P=xs.filter R):(xs.filter fun x=> !P x)=xs.filter fun x=> !R x:=
 List.filter_congr fun x hx=>by
  have h1:x∈xs.filter P↔x∈xs.filter R:=by rw [h]
  rw [List.mem_filter,List.mem_filter] at h1
  simp only [hx,true_and] at h1
  cases hp:P x<;>cases hr:R x<;>simp_all
def goneL(kd wd mo nw:Int)(xs:List Lk):List Ev:=(xs.filter fun x=> !inW kd wd mo nw xs x).map (cutEv nw)
theorem Gone_ok(l:Lk)(nw:Int) :
    CallS Tryz.prog κ 254 [.agg #[I64 (l.u),I64 (l.v),I64 (l.w),I64 (l.lb),I64 (l.sg),I64 (l.tm)],I64 (nw)] I (fun r J=>r = .agg #[I64 2,I64 nw,I64 l.u,I64 l.v,I64 0,I64 0,I64 0]∧I=J):=by
 refine Ce2 Tryz.func254 rfl rfl ?_
 refine Ah (Ge1 (Bb (cs:=[_,_,_,_,_,_]) rfl rfl rfl) fun b1=>Ge1 (A5 ty108 rfl) fun b2=>Af (Ah (Gm rfl (Gf fld146_0 rfl (Gl ty3 ?_)))))
 refine Gf fld146_1 rfl (Gl ty3 ?_)
 refine Gr (Be (cells:=[_,_,_,_,_,_,_]) ty108 Do pl108 rfl rfl) (Ge0 (Es7_7 ty108) ?_)
 exact Af (A2 (Cw rfl ty108 rfl mm rfl (I) A4 ⟨rfl,rfl⟩))
theorem Gone1_ok{nd wd mo nw:Int}{a0:Option Addr}{c0:Nat}{xs:List Lk}(hl:Sl κ I (.slice a0 xs.length c0) xs)(hsz:xs.length≤1000000)(hA:askE nd xs 1 wd mo nw=0) :
    CallS Tryz.prog κ 213 [.agg #[I64 (nd),.slice a0 xs.length c0],.agg #[I64 (1),I64 (wd),I64 (mo)],I64 (nw)] I (fun r J=>∃a c,r = .slice a (goneL 1 wd mo nw xs).length c∧J=vc 108 (.slice a (goneL 1 wd mo nw xs).length c) (goneL 1 wd mo nw xs)::I):=by
 refine Ce3 Tryz.func213 rfl rfl ?_
 refine Ah (Ge1 (Bb (cs:=[_,_]) rfl rfl rfl) fun b1=>Ge1 (Bb (cs:=[_,_,_]) rfl rfl rfl) fun b2=>Ga rfl (Af (Ao (Bo mixed (Bu (blk b2 [I64 (1),I64 (wd),I64 (mo)] 31::blk b1 [I64 (nd),.slice a0 xs.length c0] 111::I) 9 (Dr 1 rfl (Aa fld31_0 rfl) (Dr 2 rfl (Au ty3) ?_)))))))
 refine Dr 4 rfl (Bm (vs:=[_,_]) ty111) ?_
 refine Dr 5 rfl (Bm (vs:=[_,_,_]) ty31) ?_
 refine Dr 6 rfl (Ad rfl) (Ds1 0 (Se rfl (Am call253 rfl rfl Rules_ok) ?_))
 rintro _ _ ⟨_,_,⟨mr3,rfl,rfl⟩,rfl,rfl⟩
 refine ⟨Ay,?_⟩
 refine Ds1 3 (Sr rfl (D9 (i:=0) Dk Bl rfl rfl rfl mm rfl) Ay ?_)
 refine Ds1 7 (Se rfl (Cr call294 rfl rfl rfl Rule1_ok) ?_)
 rintro _ _ ⟨_,_,⟨rfl,rfl⟩,rfl,rfl⟩
 refine ⟨Ay,?_⟩
 refine Dr 8 rfl (Bd rfl) (Dz (Ai (As (S3 7 3 2 rfl rfl rfl) (Ah (Ga rfl (Af (Ao (Ah (Gf fld111_1 rfl (Gl ty109 ?_))))))))))
 refine Gr (Bw A3 rfl) (Gm rfl (Af (Ax (Bx (σ:=Nat×(Option Addr)×Nat×(List Ev)) (fun s=>([(2,I64 (nw)),(7,.func (.func 295) #[] #[]),(8,.slice s.2.1 s.2.2.2.length s.2.2.1),(20,.slice a0 xs.length c0),(21,I64 (((xs.length:Nat):Int))),(22,I64 (((s.1:Nat):Int)))]:Env)) (fun s=>vc 108 (.slice s.2.1 s.2.2.2.length s.2.2.1) (s.2.2.2)::mp mr3 [({key:=I64 (1),val:= .func (.func 294) #[] #[],born:=0}:MapEntry),({key:=I64 (2),val:= .func (.func 296) #[] #[],born:=1}:MapEntry),({key:=I64 (3),val:= .func (.func 298) #[] #[],born:=2}:MapEntry)] 3::blk b2 [I64 (1),I64 (wd),I64 (mo)] 31::blk b1 [I64 (nd),.slice a0 xs.length c0] 111::I) (fun s=>(s.1≤xs.length)∧(s.2.2.2=((xs.take s.1).filter fun x=> !(fun _:Lk=>true) x).map (cutEv nw))) (fun s=>xs.length - s.1) (0,none,0,[]) (show ((0:Nat)≤xs.length)∧(([]:List Ev)=((xs.take (0:Nat)).filter fun x=> !(fun _:Lk=>true) x).map (cutEv nw)) from ⟨om,rfl⟩) (Ac rfl (Ac rfl (Ac (Cz rfl (by first|rfl|simp)) (Ac rfl (Ac rfl (Ac Cb Bq)))))) (show Fit κ _ (vc 108 (.slice (none) ([]).length (0)) (([]))::mp mr3 [({key:=I64 (1),val:= .func (.func 294) #[] #[],born:=0}:MapEntry),({key:=I64 (2),val:= .func (.func 296) #[] #[],born:=1}:MapEntry),({key:=I64 (3),val:= .func (.func 298) #[] #[],born:=2}:MapEntry)] 3::blk b2 [I64 (1),I64 (wd),I64 (mo)] 31::blk b1 [I64 (nd),.slice a0 xs.length c0] 111::I) from (B3 _ _)) ?_))))
 rintro ⟨k,a,c,out⟩ hp
 dsimp only at hp ⊢
 obtain ⟨hk,ho⟩:=hp
 have hol:out.length≤xs.length:=by rw [ho,List.length_map];refine Nat.le_trans (List.length_filter_le _ _) ?_;simp only [List.length_take];omega
 refine Ah (Gr (Bc rfl rfl) (Af (Ao (A9 rfl (fun c23=>?_) (fun c23=>?_)))))
 ·refine A0 (Ai (Ao (Ax (Ah (Gr (A8 (α:=Lk) (xs:=xs) A3 ty146 rfl rfl (Bf hl) om om) (Gr (B0 (α:=Lk) (xs:=xs) ty146 rfl (Bf hl) om om) (Ge1 (A5 ty146 rfl) fun b4=>Ge0 (Ej ty146) ?_)))))))
  refine Af (Ah (Gm rfl (Gl6 ty146 ?_)))
  refine Gc0 (Cr call295 rfl rfl rfl (All1_ok (at_ xs (k:Int)))) ?_
  exact Gr (Cd rfl) (Af (As (S8 29 10 2 7 8 20 21 22 rfl rfl rfl rfl rfl rfl rfl rfl) (Cx rfl (A0 (Aj (Ai (Aw (Gr (Rad rfl rfl) (Gm rfl (Bj (B6 ((k+1),(a),(c),(out)) (by dsimp only;exact ⟨om,(by first|(rw [gone_yes (P:=(fun _:Lk=>true)) om (decide_eq_false c29),←ho];done)|(rw [gone_yes (P:=(fun _:Lk=>true)) om (decide_eq_false c29),←ho];rfl)|(rw [gone_no (P:=(fun _:Lk=>true)) om (decide_eq_true (Classical.not_not.1 c29)),←ho])|(rw [gone_no (P:=(fun _:Lk=>true)) om rfl,←ho]))⟩))))))))))))
 ·refine Bt (Ak (Ak (A6 (Ai (Ah (Gm rfl (Ga rfl (Af (A2 ?_)))))))))
  have hE:out=(goneL 1 wd mo nw xs):=by rw [ho,show List.take k xs=xs from List.take_of_length_le om];unfold goneL;rw [filt_not (P:=(fun _:Lk=>true)) (inW_all rfl)]
  subst hE
  exact A7 rfl rfl (vc 108 (.slice a (goneL 1 wd mo nw xs).length c) (goneL 1 wd mo nw xs)::I) Ay ⟨a,c,rfl,rfl⟩
theorem Gone2_ok{nd wd mo nw:Int}{a0:Option Addr}{c0:Nat}{xs:List Lk}(hl:Sl κ I (.slice a0 xs.length c0) xs)(hsz:xs.length≤1000000)(hA:askE nd xs 2 wd mo nw=0) :
    CallS Tryz.prog κ 213 [.agg #[I64 (nd),.slice a0 xs.length c0],.agg #[I64 (2),I64 (wd),I64 (mo)],I64 (nw)] I (fun r J=>∃a c,r = .slice a (goneL 2 wd mo nw xs).length c∧J=vc 108 (.slice a (goneL 2 wd mo nw xs).length c) (goneL 2 wd mo nw xs)::I):=by
 refine Ce3 Tryz.func213 rfl rfl ?_
 refine Ah (Ge1 (Bb (cs:=[_,_]) rfl rfl rfl) fun b1=>Ge1 (Bb (cs:=[_,_,_]) rfl rfl rfl) fun b2=>Ga rfl (Af (Ao (Bo mixed (Bu (blk b2 [I64 (2),I64 (wd),I64 (mo)] 31::blk b1 [I64 (nd),.slice a0 xs.length c0] 111::I) 9 (Dr 1 rfl (Aa fld31_0 rfl) (Dr 2 rfl (Au ty3) ?_)))))))
 refine Dr 4 rfl (Bm (vs:=[_,_]) ty111) ?_
 refine Dr 5 rfl (Bm (vs:=[_,_,_]) ty31) ?_
 refine Dr 6 rfl (Ad rfl) (Ds1 0 (Se rfl (Am call253 rfl rfl Rules_ok) ?_))
 rintro _ _ ⟨_,_,⟨mr3,rfl,rfl⟩,rfl,rfl⟩
 refine ⟨Ay,?_⟩
 refine Ds1 3 (Sr rfl (D9 (i:=1) Dk Bl rfl rfl rfl mm rfl) Ay ?_)
 refine Ds1 7 (Sc2 rfl (Cr call296 rfl rfl rfl Rule2_ok) fun b4 b5=>?_)
 refine Dr 8 rfl (Bd rfl) (Dz (Ai (As (S3 7 3 2 rfl rfl rfl) (Ah (Ga rfl (Af (Ao (Ah (Gf fld111_1 rfl (Gl ty109 ?_))))))))))
 refine Gr (Bw A3 rfl) (Gm rfl (Af (Ax (Bx (σ:=Nat×(Option Addr)×Nat×(List Ev)) (fun s=>([(2,I64 (nw)),(7,.func (.func 297) #[] #[.pointer (some ⟨b4,0,none⟩),.pointer (some ⟨b5,0,none⟩)]),(8,.slice s.2.1 s.2.2.2.length s.2.2.1),(20,.slice a0 xs.length c0),(21,I64 (((xs.length:Nat):Int))),(22,I64 (((s.1:Nat):Int)))]:Env)) (fun s=>vc 108 (.slice s.2.1 s.2.2.2.length s.2.2.1) (s.2.2.2)::blk b4 [I64 (nw)] 3::blk b5 [I64 (2),I64 (wd),I64 (mo)] 31::mp mr3 [({key:=I64 (1),val:= .func (.func 294) #[] #[],born:=0}:MapEntry),({key:=I64 (2),val:= .func (.func 296) #[] #[],born:=1}:MapEntry),({key:=I64 (3),val:= .func (.func 298) #[] #[],born:=2}:MapEntry)] 3::blk b2 [I64 (2),I64 (wd),I64 (mo)] 31::blk b1 [I64 (nd),.slice a0 xs.length c0] 111::I) (fun s=>(s.1≤xs.length)∧(s.2.2.2=((xs.take s.1).filter fun x=> !(fun x:Lk=>decide (IntKind.i64.wrap (nw - x.tm)<wd)) x).map (cutEv nw))) (fun s=>xs.length - s.1) (0,none,0,[]) (show ((0:Nat)≤xs.length)∧(([]:List Ev)=((xs.take (0:Nat)).filter fun x=> !(fun x:Lk=>decide (IntKind.i64.wrap (nw - x.tm)<wd)) x).map (cutEv nw)) from ⟨om,rfl⟩) (Ac rfl (Ac rfl (Ac (Cz rfl (by first|rfl|simp)) (Ac rfl (Ac rfl (Ac Cb Bq)))))) (show Fit κ _ (vc 108 (.slice (none) ([]).length (0)) (([]))::blk b4 [I64 (nw)] 3::blk b5 [I64 (2),I64 (wd),I64 (mo)] 31::mp mr3 [({key:=I64 (1),val:= .func (.func 294) #[] #[],born:=0}:MapEntry),({key:=I64 (2),val:= .func (.func 296) #[] #[],born:=1}:MapEntry),({key:=I64 (3),val:= .func (.func 298) #[] #[],born:=2}:MapEntry)] 3::blk b2 [I64 (2),I64 (wd),I64 (mo)] 31::blk b1 [I64 (nd),.slice a0 xs.length c0] 111::I) from (B3 _ _)) ?_))))
 rintro ⟨k,a,c,out⟩ hp
 dsimp only at hp ⊢
 obtain ⟨hk,ho⟩:=hp
 have hol:out.length≤xs.length:=by rw [ho,List.length_map];refine Nat.le_trans (List.length_filter_le _ _) ?_;simp only [List.length_take];omega
 refine Ah (Gr (Bc rfl rfl) (Af (Ao (A9 rfl (fun c23=>?_) (fun c23=>?_)))))
 ·refine A0 (Ai (Ao (Ax (Ah (Gr (A8 (α:=Lk) (xs:=xs) A3 ty146 rfl rfl (Bf hl) om om) (Gr (B0 (α:=Lk) (xs:=xs) ty146 rfl (Bf hl) om om) (Ge1 (A5 ty146 rfl) fun b6=>Ge0 (Ej ty146) ?_)))))))
  refine Af (Ah (Gm rfl (Gl6 ty146 ?_)))
  refine Gc0 (Cr call297 rfl rfl rfl (Age1_ok (Ds mm) (Ds mm) (at_ xs (k:Int)))) ?_
  refine Gr (C7 rfl) (Af (As (S8 29 10 2 7 8 20 21 22 rfl rfl rfl rfl rfl rfl rfl rfl) (A9 rfl (fun c29=>?_) (fun c29=>?_))))
  ·refine Aw (Gm rfl (Gl6 ty146 ?_))
   refine Gm rfl (G.e (Am call254 rfl rfl (Gone_ok (at_ xs (k:Int)) nw)) ?_)
   rintro _ _ ⟨_,_,⟨rfl,rfl⟩,rfl,rfl⟩
   refine Ge1 (B9 (α:=Ev) (cs:=[I64 (2),I64 (nw),I64 ((at_ xs (k:Int)).u),I64 ((at_ xs (k:Int)).v),I64 (0),I64 (0),I64 (0)]) (xs:=[⟨2,nw,(at_ xs (k:Int)).u,(at_ xs (k:Int)).v,0,0,0⟩]) Ba ty108 rfl rfl dc dc rfl kr rfl rfl) fun ad7=>?_
   refine Ge2 (Ca (α:=Ev) (e:=108) (xs:=out) (ys:=([⟨2,nw,(at_ xs (k:Int)).u,(at_ xs (k:Int)).v,0,0,0⟩]:List Ev)) Ba ty108 rfl rfl rfl mm Br lcn dc rfl (fun _ _=>am)) fun ad8 cp9=>?_
   exact Ga rfl (Bj (Aj (Ai (As (S6 8 2 7 20 21 22 rfl rfl rfl rfl rfl rfl) (Aw (Gr (Rad rfl rfl) (Gm rfl (Bj (B6 ((k+1),(ad8),(cp9),(out++([⟨2,nw,(at_ xs (k:Int)).u,(at_ xs (k:Int)).v,0,0,0⟩]:List Ev))) (by dsimp only;exact ⟨om,(by first|(rw [gone_yes (P:=(fun x:Lk=>decide (IntKind.i64.wrap (nw - x.tm)<wd))) om (decide_eq_false c29),←ho];done)|(rw [gone_yes (P:=(fun x:Lk=>decide (IntKind.i64.wrap (nw - x.tm)<wd))) om (decide_eq_false c29),←ho];rfl)|(rw [gone_no (P:=(fun x:Lk=>decide (IntKind.i64.wrap (nw - x.tm)<wd))) om (decide_eq_true (Classical.not_not.1 c29)),←ho])|(rw [gone_no (P:=(fun x:Lk=>decide (IntKind.i64.wrap (nw - x.tm)<wd))) om rfl,←ho]))⟩))))))))))
  ·exact A0 (Aj (Ai (Aw (Gr (Rad rfl rfl) (Gm rfl (Bj (B6 ((k+1),(a),(c),(out)) (by dsimp only;exact ⟨om,(by first|(rw [gone_yes (P:=(fun x:Lk=>decide (IntKind.i64.wrap (nw - x.tm)<wd))) om (decide_eq_false c29),←ho];done)|(rw [gone_yes (P:=(fun x:Lk=>decide (IntKind.i64.wrap (nw - x.tm)<wd))) om (decide_eq_false c29),←ho];rfl)|(rw [gone_no (P:=(fun x:Lk=>decide (IntKind.i64.wrap (nw - x.tm)<wd))) om (decide_eq_true (Classical.not_not.1 c29)),←ho])|(rw [gone_no (P:=(fun x:Lk=>decide (IntKind.i64.wrap (nw - x.tm)<wd))) om rfl,←ho]))⟩))))))))
 ·refine Bt (Ak (Ak (A6 (Ai (Ah (Gm rfl (Ga rfl (Af (A2 ?_)))))))))
  have hE:out=(goneL 2 wd mo nw xs):=by rw [ho,show List.take k xs=xs from List.take_of_length_le om];unfold goneL;rw [filt_not (P:=(fun x:Lk=>decide (IntKind.i64.wrap (nw - x.tm)<wd))) (inW_age (askE_ok hA) rfl)]
  subst hE
  exact A7 rfl rfl (vc 108 (.slice a (goneL 2 wd mo nw xs).length c) (goneL 2 wd mo nw xs)::I) Ay ⟨a,c,rfl,rfl⟩
theorem Gone3_ok{nd wd mo nw:Int}{a0:Option Addr}{c0:Nat}{xs:List Lk}(hl:Sl κ I (.slice a0 xs.length c0) xs)(hsz:xs.length≤1000000)(hA:askE nd xs 3 wd mo nw=0) :
    CallS Tryz.prog κ 213 [.agg #[I64 (nd),.slice a0 xs.length c0],.agg #[I64 (3),I64 (wd),I64 (mo)],I64 (nw)] I (fun r J=>∃a c,r = .slice a (goneL 3 wd mo nw xs).length c∧J=vc 108 (.slice a (goneL 3 wd mo nw xs).length c) (goneL 3 wd mo nw xs)::I):=by
 refine Ce3 Tryz.func213 rfl rfl ?_
 refine Ah (Ge1 (Bb (cs:=[_,_]) rfl rfl rfl) fun b1=>Ge1 (Bb (cs:=[_,_,_]) rfl rfl rfl) fun b2=>Ga rfl (Af (Ao (Bo mixed (Bu (blk b2 [I64 (3),I64 (wd),I64 (mo)] 31::blk b1 [I64 (nd),.slice a0 xs.length c0] 111::I) 9 (Dr 1 rfl (Aa fld31_0 rfl) (Dr 2 rfl (Au ty3) ?_)))))))
 refine Dr 4 rfl (Bm (vs:=[_,_]) ty111) ?_
 refine Dr 5 rfl (Bm (vs:=[_,_,_]) ty31) ?_
 refine Dr 6 rfl (Ad rfl) (Ds1 0 (Se rfl (Am call253 rfl rfl Rules_ok) ?_))
 rintro _ _ ⟨_,_,⟨mr3,rfl,rfl⟩,rfl,rfl⟩
 refine ⟨Ay,?_⟩
 refine Ds1 3 (Sr rfl (D9 (i:=2) Dk Bl rfl rfl rfl mm rfl) Ay ?_)
 refine Ds1 7 (Se rfl (Cr call298 rfl rfl rfl (Rule3_ok (Bf hl) ((askE_ok hA).most rfl).1 om)) ?_)
 rintro _ _ ⟨_,_,⟨b4,ad5,cp6,ys7,mm8,rfl,hzys7,rfl⟩,rfl,rfl⟩
 refine ⟨Ay,?_⟩
 refine Dr 8 rfl (Bd rfl) (Dz (Ai (As (S3 7 3 2 rfl rfl rfl) (Ah (Ga rfl (Af (Ao (Ah (Gf fld111_1 rfl (Gl ty109 ?_))))))))))
 refine Gr (Bw A3 rfl) (Gm rfl (Af (Ax (Bx (σ:=Nat×(Option Addr)×Nat×(List Ev)) (fun s=>([(2,I64 (nw)),(7,.func (.func 300) #[] #[.pointer (some ⟨b4,0,none⟩)]),(8,.slice s.2.1 s.2.2.2.length s.2.2.1),(20,.slice a0 xs.length c0),(21,I64 (((xs.length:Nat):Int))),(22,I64 (((s.1:Nat):Int)))]:Env)) (fun s=>vc 108 (.slice s.2.1 s.2.2.2.length s.2.2.1) (s.2.2.2)::blk b4 [.slice ad5 (List.take mm8 ys7).length cp6] 109::vc 146 (.slice ad5 xs.length cp6) (ys7)::mp mr3 [({key:=I64 (1),val:= .func (.func 294) #[] #[],born:=0}:MapEntry),({key:=I64 (2),val:= .func (.func 296) #[] #[],born:=1}:MapEntry),({key:=I64 (3),val:= .func (.func 298) #[] #[],born:=2}:MapEntry)] 3::blk b2 [I64 (3),I64 (wd),I64 (mo)] 31::blk b1 [I64 (nd),.slice a0 xs.length c0] 111::I) (fun s=>(s.1≤xs.length)∧(s.2.2.2=((xs.take s.1).filter fun x=> !(fun x:Lk=>decide (x∈List.take mm8 ys7)) x).map (cutEv nw))) (fun s=>xs.length - s.1) (0,none,0,[]) (show ((0:Nat)≤xs.length)∧(([]:List Ev)=((xs.take (0:Nat)).filter fun x=> !(fun x:Lk=>decide (x∈List.take mm8 ys7)) x).map (cutEv nw)) from ⟨om,rfl⟩) (Ac rfl (Ac rfl (Ac (Cz rfl (by first|rfl|simp)) (Ac rfl (Ac rfl (Ac Cb Bq)))))) (show Fit κ _ (vc 108 (.slice (none) ([]).length (0)) (([]))::blk b4 [.slice ad5 (List.take mm8 ys7).length cp6] 109::vc 146 (.slice ad5 xs.length cp6) (ys7)::mp mr3 [({key:=I64 (1),val:= .func (.func 294) #[] #[],born:=0}:MapEntry),({key:=I64 (2),val:= .func (.func 296) #[] #[],born:=1}:MapEntry),({key:=I64 (3),val:= .func (.func 298) #[] #[],born:=2}:MapEntry)] 3::blk b2 [I64 (3),I64 (wd),I64 (mo)] 31::blk b1 [I64 (nd),.slice a0 xs.length c0] 111::I) from (B3 _ _)) ?_))))
 rintro ⟨k,a,c,out⟩ hp
 dsimp only at hp ⊢
 obtain ⟨hk,ho⟩:=hp
 have hol:out.length≤xs.length:=by rw [ho,List.length_map];refine Nat.le_trans (List.length_filter_le _ _) ?_;simp only [List.length_take];omega
 refine Ah (Gr (Bc rfl rfl) (Af (Ao (A9 rfl (fun c23=>?_) (fun c23=>?_)))))
 ·refine A0 (Ai (Ao (Ax (Ah (Gr (A8 (α:=Lk) (xs:=xs) A3 ty146 rfl rfl (Bf hl) om om) (Gr (B0 (α:=Lk) (xs:=xs) ty146 rfl (Bf hl) om om) (Ge1 (A5 ty146 rfl) fun b9=>Ge0 (Ej ty146) ?_)))))))
  refine Af (Ah (Gm rfl (Gl6 ty146 ?_)))
  refine Gc0 (Cr call300 rfl rfl rfl (Last1_ok (Ds mm) (Sl.take Br om) (at_ xs (k:Int)))) ?_
  refine Gr (C7 rfl) (Af (As (S8 29 10 2 7 8 20 21 22 rfl rfl rfl rfl rfl rfl rfl rfl) (A9 rfl (fun c29=>?_) (fun c29=>?_))))
  ·refine Aw (Gm rfl (Gl6 ty146 ?_))
   refine Gm rfl (G.e (Am call254 rfl rfl (Gone_ok (at_ xs (k:Int)) nw)) ?_)
   rintro _ _ ⟨_,_,⟨rfl,rfl⟩,rfl,rfl⟩
   refine Ge1 (B9 (α:=Ev) (cs:=[I64 (2),I64 (nw),I64 ((at_ xs (k:Int)).u),I64 ((at_ xs (k:Int)).v),I64 (0),I64 (0),I64 (0)]) (xs:=[⟨2,nw,(at_ xs (k:Int)).u,(at_ xs (k:Int)).v,0,0,0⟩]) Ba ty108 rfl rfl dc dc rfl kr rfl rfl) fun ad10=>?_
   refine Ge2 (Ca (α:=Ev) (e:=108) (xs:=out) (ys:=([⟨2,nw,(at_ xs (k:Int)).u,(at_ xs (k:Int)).v,0,0,0⟩]:List Ev)) Ba ty108 rfl rfl rfl mm Br lcn dc rfl (fun _ _=>am)) fun ad11 cp12=>?_
   exact Ga rfl (Bj (Aj (Ai (As (S6 8 2 7 20 21 22 rfl rfl rfl rfl rfl rfl) (Aw (Gr (Rad rfl rfl) (Gm rfl (Bj (B6 ((k+1),(ad11),(cp12),(out++([⟨2,nw,(at_ xs (k:Int)).u,(at_ xs (k:Int)).v,0,0,0⟩]:List Ev))) (by dsimp only;exact ⟨om,(by first|(rw [gone_yes (P:=(fun x:Lk=>decide (x∈List.take mm8 ys7))) om (decide_eq_false c29),←ho];done)|(rw [gone_yes (P:=(fun x:Lk=>decide (x∈List.take mm8 ys7))) om (decide_eq_false c29),←ho];rfl)|(rw [gone_no (P:=(fun x:Lk=>decide (x∈List.take mm8 ys7))) om (decide_eq_true (Classical.not_not.1 c29)),←ho])|(rw [gone_no (P:=(fun x:Lk=>decide (x∈List.take mm8 ys7))) om rfl,←ho]))⟩))))))))))
  ·exact A0 (Aj (Ai (Aw (Gr (Rad rfl rfl) (Gm rfl (Bj (B6 ((k+1),(a),(c),(out)) (by dsimp only;exact ⟨om,(by first|(rw [gone_yes (P:=(fun x:Lk=>decide (x∈List.take mm8 ys7))) om (decide_eq_false c29),←ho];done)|(rw [gone_yes (P:=(fun x:Lk=>decide (x∈List.take mm8 ys7))) om (decide_eq_false c29),←ho];rfl)|(rw [gone_no (P:=(fun x:Lk=>decide (x∈List.take mm8 ys7))) om (decide_eq_true (Classical.not_not.1 c29)),←ho])|(rw [gone_no (P:=(fun x:Lk=>decide (x∈List.take mm8 ys7))) om rfl,←ho]))⟩))))))))
 ·refine Bt (Ak (Ak (A6 (Ai (Ah (Gm rfl (Ga rfl (Af (A2 ?_)))))))))
  have hE:out=(goneL 3 wd mo nw xs):=by rw [ho,show List.take k xs=xs from List.take_of_length_le om];unfold goneL;rw [filt_not (P:=(fun x:Lk=>decide (x∈List.take mm8 ys7))) (inW_last (askE_ok hA) rfl hzys7)]
  subst hE
  exact A7 rfl rfl (vc 108 (.slice a (goneL 3 wd mo nw xs).length c) (goneL 3 wd mo nw xs)::I) Ay ⟨a,c,rfl,rfl⟩
theorem GoneP_ok{nd kd wd mo nw:Int}{a0:Option Addr}{c0:Nat}{xs:List Lk}(hl:Sl κ I (.slice a0 xs.length c0) xs)(hsz:xs.length≤1000000)(hA:askE nd xs kd wd mo nw=0) :
  CallS Tryz.prog κ 213 [.agg #[I64 (nd),.slice a0 xs.length c0],.agg #[I64 (kd),I64 (wd),I64 (mo)],I64 (nw)] I fun r J=>∃a c,r = .slice a (goneL kd wd mo nw xs).length c∧J=vc 108 (.slice a (goneL kd wd mo nw xs).length c) (goneL kd wd mo nw xs)::I:=by
 have hk:=(askE_ok hA).kind
 rcases (by omega:kd=1∨kd=2∨kd=3) with rfl|rfl|rfl
 ·exact Gone1_ok hl hsz hA
 ·exact Gone2_ok hl hsz hA
 ·exact Gone3_ok hl hsz hA
variable {κ:Ctx}{I:List Item}
theorem checkW_wd{kd wd mo:Int}(h:checkW kd wd mo=0):0≤wd∧wd≤1048576:=by
 unfold checkW at h
 split at h
 ·cases h
 ·split at h
  ·cases h
  ·omega
theorem checkS_tm{nd:Int}{xs:List Lk}(h:checkS nd xs=0):∀i:Int,0≤i→i<xs.length→0≤(at_ xs i).tm∧(at_ xs i).tm≤1048576:=fun i h0 h1=>badL_tm ((checkS_ok h).2.1 _ (Ck h0 h1))
def tmC(a c:Lk):Int:=cmpI a.tm c.tm
theorem tmC_lt(a c:Lk):tmC a c<0↔a.tm<c.tm:=by unfold tmC cmpI;split<;>(try split)<;>omega
theorem FirstC_ok(a c:Lk) :
    CallS Tryz.prog κ 293 [.agg #[I64 (a.u),I64 (a.v),I64 (a.w),I64 (a.lb),I64 (a.sg),I64 (a.tm)],.agg #[I64 (c.u),I64 (c.v),I64 (c.w),I64 (c.lb),I64 (c.sg),I64 (c.tm)]] I (fun r J=>r=I64 (tmC a c)∧I=J):=by
 refine Ce2 Tryz.func293 rfl rfl ?_
 refine Ah (Ge1 (Bb (cs:=[_,_,_,_,_,_]) rfl rfl rfl) fun b1=>Ge1 (Bb (cs:=[_,_,_,_,_,_]) rfl rfl rfl) fun b2=>Ga rfl (Af (Ah (Gf fld146_5 rfl (Gl ty3 ?_)))))
 refine Gf fld146_5 rfl (Gl ty3 ?_)
 refine Gc0 (Am call225 rfl rfl (Compare_ok a.tm c.tm)) ?_
 exact Ga rfl (Af (A2 (A7 rfl rfl (I) A4 ⟨rfl,rfl⟩)))
theorem FirstC_cmps:Cmps Tryz.prog κ I 293 [] tmC:=⟨call293,fun x y J hf=>FirstC_ok x y⟩
theorem MinF_ok{v:Value}{xs:List Lk}(hl:Sl κ I v xs)(hne:0<xs.length){g:FuncId}{cp_:List Value}(hcb:Cmps Tryz.prog κ I g cp_ tmC) :
    CallS Tryz.prog κ 292 [v,.func (.func g) #[] cp_.toArray] I (fun r J=>∃x:Lk,r = .agg #[I64 x.u,I64 x.v,I64 x.w,I64 x.lb,I64 x.sg,I64 x.tm]∧(x∈xs∧∀y∈xs,x.tm≤y.tm)∧I=J):=by
 refine B4 hl.le fun hmax=>?_
 refine Ce2 Tryz.func292 rfl rfl ?_
 refine Ah (Ge1 (A5 ty146 rfl) fun b1=>Af (Ao (Ah (Gm rfl (Gr (Bz (α:=Lk) (xs:=xs) A3 rfl (Bf hl)) (Gr (Bc rfl rfl) (Af (A9 rfl (fun c9=>?_) (fun c9=>?_)))))))))
 ·exact absurd hne om
 ·refine A0 (Ai (Ah (Gm rfl (Gr (A8 (α:=Lk) (xs:=xs) A3 ty146 rfl rfl (Bf hl) om om) (Gr (B0 (α:=Lk) (xs:=xs) ty146 rfl (Bf hl) om om) (Ge1 (A5 ty146 rfl) fun b2=>Ge0 (Ej ty146) ?_))))))
  refine Af (Ao (Ah (Ga rfl (Af (Ax (Bx (σ:=Nat×Lk) (fun s=>([(0,v),(1,.func (.func g) #[] cp_.toArray),(4,.pointer (some ⟨b1,0,none⟩)),(5,.pointer (some ⟨b2,0,none⟩)),(6,I64 (((s.1:Nat):Int)))]:Env)) (fun s=>blk b2 [I64 (s.2.u),I64 (s.2.v),I64 (s.2.w),I64 (s.2.lb),I64 (s.2.sg),I64 (s.2.tm)] 146::blk b1 [I64 (0),I64 (0),I64 (0),I64 (0),I64 (0),I64 (0)] 146::I) (fun s=>(1≤s.1∧s.1≤xs.length)∧(s.2∈xs)∧(∀j,j<s.1→s.2.tm≤(at_ xs (j:Int)).tm)) (fun s=>xs.length - s.1) (1,at_ xs (0:Int)) (show (1≤(1:Nat)∧(1:Nat)≤xs.length)∧((at_ xs (0:Int):Lk)∈xs)∧(∀j,j<(1:Nat)→(at_ xs (0:Int):Lk).tm≤(at_ xs (j:Int)).tm) from ⟨om,(Ck om om),(fun j hj=>by rw [show j=0 by omega];exact Int.le_refl _)⟩) (Ac rfl (Ac rfl (Ac rfl (Ac rfl (Ac Cb Bq))))) (show Fit κ _ (blk b2 [I64 ((at_ xs (0:Int)).u),I64 ((at_ xs (0:Int)).v),I64 ((at_ xs (0:Int)).w),I64 ((at_ xs (0:Int)).lb),I64 ((at_ xs (0:Int)).sg),I64 ((at_ xs (0:Int)).tm)] 146::blk b1 [I64 (0),I64 (0),I64 (0),I64 (0),I64 (0),I64 (0)] 146::I) from Ay) ?_))))))
  rintro ⟨k,m⟩ hp
  dsimp only at hp ⊢
  obtain ⟨hk,hm,hn⟩:=hp
  refine Ao (Ah (Gm rfl (Gm rfl (Gr (Bz (α:=Lk) (xs:=xs) A3 rfl (Bf hl)) (Gr (Bc rfl rfl) (Af (A9 rfl (fun c17=>?_) (fun c17=>?_))))))))
  ·refine A0 (Ai (Ao (Ax (Ao (Bo mixed (Bu (blk b2 [I64 (m.u),I64 (m.v),I64 (m.w),I64 (m.lb),I64 (m.sg),I64 (m.tm)] 146::blk b1 [I64 (0),I64 (0),I64 (0),I64 (0),I64 (0),I64 (0)] 146::I) 8 (Dr 0 rfl (Ad rfl) (Dr 1 rfl (Ad rfl) (Dr 2 rfl (Ad rfl) (Dr 3 rfl (A8 (α:=Lk) (xs:=xs) A3 ty146 rfl rfl (Bf hl) om om) (Dr 4 rfl (B0 (α:=Lk) (xs:=xs) ty146 rfl (Bf hl) om om) (Dr 5 rfl (Bm (vs:=[_,_,_,_,_,_]) ty146) ?_))))))))))))
   refine Ds1 6 (Se rfl (Cr hcb.1 (first:=[]) (caps:=cp_) rfl rfl rfl (hcb.2 (at_ xs (k:Int)) m _ A4)) ?_)
   rintro _ _ ⟨_,_,⟨rfl,rfl⟩,rfl,rfl⟩
   refine ⟨Ay,?_⟩
   refine Dr 7 rfl (Bc rfl rfl) (Dz (Ai (As (S6 27 0 1 4 5 6 rfl rfl rfl rfl rfl rfl) (A9 rfl (fun c27=>?_) (fun c27=>?_)))))
   ·refine Aw (Gm rfl (Gm rfl (Gr (A8 (α:=Lk) (xs:=xs) A3 ty146 rfl rfl (Bf hl) om om) (Gr (B0 (α:=Lk) (xs:=xs) ty146 rfl (Bf hl) om om) (Ge0 (Ej ty146) ?_)))))
    exact Bj (Aj (Ai (Aw (Gm rfl (Gr (Rad rfl rfl) (Ga rfl (Bj (B6 ((k+1),(at_ xs (k:Int))) (by dsimp only;exact ⟨om,(by first|exact hm|exact Ck om om),(Ei (fun j hj=>by have hnj:=hn j hj;first|exact hnj|(have hlt:=(tmC_lt _ _).1 c27;omega)) (by first|exact Int.le_refl _|(have hge:=mt (tmC_lt (at_ xs (k:Int)) m).2 c27;omega)))⟩)))))))))
   ·exact A0 (Aj (Ai (Aw (Gm rfl (Gr (Rad rfl rfl) (Ga rfl (Bj (B6 ((k+1),(m)) (by dsimp only;exact ⟨om,(by first|exact hm|exact Ck om om),(Ei (fun j hj=>by have hnj:=hn j hj;first|exact hnj|(have hlt:=(tmC_lt _ _).1 c27;omega)) (by first|exact Int.le_refl _|(have hge:=mt (tmC_lt (at_ xs (k:Int)) m).2 c27;omega)))⟩)))))))))
  ·refine Bt (Ak (Ak (A6 (Ai (Ah (Gl6 ty146 ?_))))))
   refine Ge0 (Ej ty146) ?_
   exact Af (A2 (Cw rfl ty146 rfl mm rfl (I) A4 ⟨m,rfl,⟨hm,fun y hy=>by obtain ⟨j,hj,rfl⟩:=mem_at hy;exact hn j om⟩,rfl⟩))
end Go.Sl
/- Windows: a stream with the cuts of what expires. The plain laws. No Go. No conditions. -/
namespace Go.Sl
def lkOf(e:Ev):Lk:=⟨if e.v<e.u then e.v else e.u,if e.u<e.v then e.v else e.u,e.w,e.lb,e.sg,e.tm⟩
def setL(n:Lk):List Lk→List Lk
 |[]=>[n]
 |l::ls=>if Lk.lt n l then n::l::ls else if l.p=n.p then n::ls else l::setL n ls
def hitE(e:Ev)(l:Lk):Bool:=if e.kd=2 then decide (l.u=(lkOf e).u∧l.v=(lkOf e).v) else decide (l.u=e.u∨l.v=e.u)
def stepL(xs:List Lk)(e:Ev):List Lk:=if e.kd=1 then setL (lkOf e) xs else xs.filter fun l=> !hitE e l
def endsE(e:Ev):Prop:=(0≤e.u∧e.u<64)∧(e.kd=3→e.v=0)∧(e.kd≠3→(0≤e.v∧e.v<64)∧e.u≠e.v)
instance (e:Ev):Decidable (endsE e):=by unfold endsE;infer_instance
def checkE(e:Ev):Int:=if e.kd<1∨3<e.kd then 8 else if e.tm<0∨1048576<e.tm then 9 else if ¬endsE e then 6 else if (e.kd=1∧¬rightW e.w e.lb e.sg)∨(e.kd≠1∧(e.w≠0∨e.lb≠0∨e.sg≠0)) then 1 else 0
def fitE(nd:Int)(e:Ev):Int:=if checkE e≠0 then checkE e else if nd≤e.u∨nd≤e.v then 6 else 0
section
variable {e:Ev}{nd:Int}
theorem checkE_eight(h:e.kd<1∨3<e.kd):checkE e=8:=by unfold checkE;rw [if_pos h]
theorem checkE_nine(h1:1≤e.kd∧e.kd≤3)(h:e.tm<0∨1048576<e.tm):checkE e=9:=by unfold checkE;rw [if_neg om,if_pos h]
theorem checkE_six(h1:1≤e.kd∧e.kd≤3)(h2:0≤e.tm∧e.tm≤1048576)(h:¬endsE e):checkE e=6:=by unfold checkE;rw [if_neg om,if_neg om,if_pos h]
theorem checkE_one(h1:1≤e.kd∧e.kd≤3)(h2:0≤e.tm∧e.tm≤1048576)(h3:endsE e)(h:(e.kd=1∧¬rightW e.w e.lb e.sg)∨(e.kd≠1∧(e.w≠0∨e.lb≠0∨e.sg≠0))):checkE e=1:=by
 unfold checkE;rw [if_neg om,if_neg om,if_neg (fun h=>h h3),if_pos h]
theorem checkE_zero(h1:1≤e.kd∧e.kd≤3)(h2:0≤e.tm∧e.tm≤1048576)(h3:endsE e)(h:e.kd=1→rightW e.w e.lb e.sg)(h4:e.kd≠1→e.w=0∧e.lb=0∧e.sg=0):checkE e=0:=by
 unfold checkE;rw [if_neg om,if_neg om,if_neg (fun h=>h h3),if_neg];rintro (⟨a,b⟩|⟨a,b⟩)
 ·exact b (h a)
 ·have:=h4 a;omega
end
structure FitOk (nd:Int) (e:Ev):Prop where
 kind:1≤e.kd∧e.kd≤3
 tm:0≤e.tm∧e.tm≤1048576
 ends:endsE e
 right:e.kd=1→rightW e.w e.lb e.sg
 fits:e.u<nd∧e.v<nd
 zero:e.kd≠1→e.w=0∧e.lb=0∧e.sg=0
theorem fitE_ok{nd:Int}{e:Ev}:fitE nd e=0↔FitOk nd e:=by
 constructor
 ·intro h
  unfold fitE checkE at h
  by_cases h1:e.kd<1∨3<e.kd
  ·rw [if_pos h1] at h;simp at h
  rw [if_neg h1] at h
  by_cases h2:e.tm<0∨1048576<e.tm
  ·rw [if_pos h2] at h;simp at h
  rw [if_neg h2] at h
  by_cases h3:¬endsE e
  ·rw [if_pos h3] at h;simp at h
  rw [if_neg h3] at h
  by_cases h4:(e.kd=1∧¬rightW e.w e.lb e.sg)∨(e.kd≠1∧(e.w≠0∨e.lb≠0∨e.sg≠0))
  ·rw [if_pos h4] at h;simp at h
  rw [if_neg h4] at h
  by_cases h5:nd≤e.u∨nd≤e.v
  ·rw [if_neg (by simp),if_pos h5] at h;simp at h
  exact ⟨by omega,by omega,Classical.not_not.1 h3,fun hk=>Classical.byContradiction fun hr=>h4 (.inl ⟨hk,hr⟩),by omega,fun hk=>by omega⟩
 ·intro h
  have h1:=h.kind
  have h2:=h.tm
  have h5:=h.fits
  have hc:checkE e=0:=by
   unfold checkE
   rw [if_neg om,if_neg om,if_neg (by simpa using h.ends),if_neg ?_]
   rintro (⟨a,b⟩|⟨a,b⟩)
   ·exact b (h.right a)
   ·have:=h.zero a;omega
  unfold fitE
  rw [if_neg (by simp [hc]),if_neg om]
theorem lk_lt{a b:Lk}:Lk.lt a b↔a.u<b.u∨(a.u=b.u∧a.v<b.v):=Iff.rfl
theorem lk_p{a b:Lk}:a.p=b.p↔a.u=b.u∧a.v=b.v:=by unfold Lk.p;simp
theorem FitOk.lk{nd:Int}{e:Ev}(h:FitOk nd e)(hk:e.kd≠3):0≤(lkOf e).u∧(lkOf e).u<(lkOf e).v∧(lkOf e).v<nd:=by
 have h1:=h.ends.2.2 hk
 have h2:=h.ends.1
 have h3:=h.fits
 unfold lkOf
 simp only
 refine ⟨?_,?_,?_⟩<;>(repeat' split)<;>omega
theorem FitOk.badL{nd:Int}{e:Ev}(h:FitOk nd e)(hk:e.kd=1):badL nd (lkOf e)=0:=by
 have h1:=h.lk om
 have h2:=h.tm
 exact badL_zero om (h.right hk) (by show ¬(e.tm<0∨1048576<e.tm);omega)
theorem mem_setL{n:Lk}{xs:List Lk}{x:Lk}(h:x∈setL n xs):x=n∨x∈xs:=by
 induction xs with
 |nil=>simp [setL] at h;exact .inl h
 |cons l ls ih=>
  unfold setL at h
  split at h
  ·simpa using h
  ·split at h
   ·rcases List.mem_cons.1 h with h|h
    ·exact .inl h
    ·exact .inr (List.mem_cons_of_mem _ h)
   ·rcases List.mem_cons.1 h with h|h
    ·exact .inr (by rw [h];exact List.mem_cons_self)
    ·rcases ih h with h|h
     ·exact .inl h
     ·exact .inr (List.mem_cons_of_mem _ h)
theorem setL_asc{n:Lk}{xs:List Lk}(h:xs.Pairwise Lk.lt):(setL n xs).Pairwise Lk.lt:=by
 induction xs with
 |nil=>simp [setL]
 |cons l ls ih=>
  obtain ⟨h1,h2⟩:=List.pairwise_cons.1 h
  unfold setL
  by_cases hl:Lk.lt n l
  ·rw [if_pos hl]
   refine List.pairwise_cons.2 ⟨fun x hx=>?_,h⟩
   rcases List.mem_cons.1 hx with rfl|hx
   ·exact hl
   ·exact Pt.lin.tr _ _ _ hl (h1 x hx)
  ·rw [if_neg hl]
   by_cases he:l.p=n.p
   ·rw [if_pos he]
    refine List.pairwise_cons.2 ⟨fun x hx=>?_,h2⟩
    have:=h1 x hx
    unfold Lk.lt at this ⊢
    rw [←he];exact this
   ·rw [if_neg he]
    refine List.pairwise_cons.2 ⟨fun x hx=>?_,ih h2⟩
    rcases mem_setL hx with rfl|hx
    ·rw [lk_lt] at hl ⊢; rw [lk_p] at he;omega
    ·exact h1 x hx
theorem setL_len(n:Lk)(xs:List Lk):(setL n xs).length≤xs.length+1:=by
 induction xs with
 |nil=>simp [setL]
 |cons l ls ih=>
  unfold setL
  split
  ·simp
  ·split
   ·simp
   ·simp;omega
theorem stepL_len(xs:List Lk)(e:Ev):(stepL xs e).length≤xs.length+1:=by
 unfold stepL
 split
 ·exact setL_len _ _
 ·exact Nat.le_succ_of_le (List.length_filter_le _ _)
theorem scan0_back{n:Int}:∀(xs:List Lk) (q:Lk),(∀x∈xs,badL n x=0)→(q::xs).Pairwise Lk.lt→scanL (badL n) Lk.lt (some q) xs=0
 |[],q,_,_=>rfl
 |p::ps,q,h1,h2=>by
  obtain ⟨a,b⟩:=List.pairwise_cons.1 h2
  simp only [scanL]
  rw [if_neg (by simp [h1 p List.mem_cons_self]),if_pos (a p List.mem_cons_self)]
  exact scan0_back ps p (fun x hx=>h1 x (List.mem_cons_of_mem _ hx)) b
theorem checkS_iff{n:Int}{xs:List Lk}:checkS n xs=0↔(0≤n∧n≤64)∧(∀x∈xs,badL n x=0)∧xs.Pairwise Lk.lt:=by
 constructor
 ·exact checkS_ok
 ·rintro ⟨h1,h2,h3⟩
  unfold checkS
  rw [if_neg om]
  cases xs with
  |nil=>rfl
  |cons p ps=>
   simp only [scanL]
   rw [if_neg (by simp [h2 p List.mem_cons_self])]
   exact scan0_back ps p (fun x hx=>h2 x (List.mem_cons_of_mem _ hx)) h3
theorem stepL_val{nd:Int}{xs:List Lk}{e:Ev}(h:checkS nd xs=0)(he:FitOk nd e):checkS nd (stepL xs e)=0:=by
 obtain ⟨h1,h2,h3⟩:=checkS_iff.1 h
 refine checkS_iff.2 ⟨h1,?_⟩
 unfold stepL
 by_cases hk:e.kd=1
 ·rw [if_pos hk]
  refine ⟨fun x hx=>?_,setL_asc h3⟩
  rcases mem_setL hx with rfl|hx
  ·exact he.badL hk
  ·exact h2 x hx
 ·rw [if_neg hk]
  exact ⟨fun x hx=>h2 x (List.mem_filter.1 hx).1,h3.sublist List.filter_sublist⟩
theorem filter_val{nd:Int}{xs:List Lk}{P:Lk→Bool}(h:checkS nd xs=0):checkS nd (xs.filter P)=0:=by
 obtain ⟨h1,h2,h3⟩:=checkS_iff.1 h
 exact checkS_iff.2 ⟨h1,fun x hx=>h2 x (List.mem_filter.1 hx).1,h3.sublist List.filter_sublist⟩
theorem val_uv{nd:Int}{xs:List Lk}(h:checkS nd xs=0):∀x∈xs,0≤x.u∧x.u<x.v∧x.v<nd:=fun x hx=>by
 have h1:=(checkS_ok h).2.1 x hx
 unfold Sl.badL at h1
 split at h1
 ·cases h1
 ·omega
theorem cut_hit(nw:Int){z:Lk}(hz:z.u<z.v)(l:Lk):hitE (cutEv nw z) l=decide (l.p=z.p):=by
 unfold hitE lkOf cutEv
 simp only [if_true]
 rw [if_neg om,if_pos hz,decide_eq_decide,lk_p]
theorem cuts_filter(nw:Int):∀(zs xs:List Lk),(∀z∈zs,z.u<z.v)→(zs.map (cutEv nw)).foldl stepL xs=xs.filter fun x=>zs.all fun z=> !decide (x.p=z.p)
 |[],xs,_=>by simp only [List.map_nil,List.foldl_nil,List.all_nil];exact (List.filter_eq_self.2 fun _ _=>rfl).symm
 |z::zs,xs,h=>by
  have ih:=cuts_filter nw zs (xs.filter fun l=> !decide (l.p=z.p)) fun y hy=>h y (List.mem_cons_of_mem _ hy)
  have hs:stepL xs (cutEv nw z)=xs.filter fun l=> !decide (l.p=z.p):=by
   unfold stepL
   rw [if_neg (by show ¬(2:Int)=1;decide)]
   exact List.filter_congr fun l _=>by rw [cut_hit nw (h z List.mem_cons_self)]
  rw [List.map_cons,List.foldl_cons,hs,ih,List.filter_filter]
  exact List.filter_congr fun x _=>by rw [List.all_cons,Bool.and_comm]
theorem asc_p{xs:List Lk}(h:xs.Pairwise Lk.lt){x y:Lk}(hx:x∈xs)(hy:y∈xs)(he:x.p=y.p):x=y:=by
 induction xs with
 |nil=>cases hx
 |cons l ls ih=>
  obtain ⟨h1,h2⟩:=List.pairwise_cons.1 h
  have hne:∀z∈ls,l.p≠z.p:=fun z hz e=>by
   have:=h1 z hz
   unfold Lk.lt at this
   rw [e] at this
   exact Pt.lin.irr _ this
  rcases List.mem_cons.1 hx with e1|e1<;>rcases List.mem_cons.1 hy with e2|e2
  ·rw [e1,e2]
  ·exact absurd (e1▸he) (hne y e2)
  ·exact absurd (e2▸he.symm) (hne x e1)
  ·exact ih h2 e1 e2
theorem gone_steps{nd kd wd mo nw:Int}{xs:List Lk}(h:checkS nd xs=0):(goneL kd wd mo nw xs).foldl stepL xs=xs.filter (inW kd wd mo nw xs):=by
 unfold goneL
 rw [cuts_filter nw _ _ fun z hz=>(val_uv h z (List.mem_filter.1 hz).1).2.1]
 refine List.filter_congr fun x hx=>?_
 cases hp:inW kd wd mo nw xs x
 ·rw [Bool.eq_false_iff]
  intro ha
  have:=List.all_eq_true.1 ha x (List.mem_filter.2 ⟨hx,by rw [hp];rfl⟩)
  simp at this
 ·rw [List.all_eq_true]
  intro z hz
  obtain ⟨hz1,hz2⟩:=List.mem_filter.1 hz
  rw [Bool.not_eq_true',decide_eq_false_iff_not]
  intro he
  have:=asc_p (checkS_ok h).2.2 hx hz1 he
  subst this
  rw [hp] at hz2
  cases hz2
theorem gone_len(kd wd mo nw:Int)(xs:List Lk):(goneL kd wd mo nw xs).length+(xs.filter (inW kd wd mo nw xs)).length=xs.length:=by
 unfold goneL
 rw [List.length_map]
 generalize inW kd wd mo nw xs=P
 induction xs with
 |nil=>rfl
 |cons x xs ih=>simp only [List.filter_cons];cases P x<;>simp<;>omega
theorem gone_fit{nd kd wd mo nw:Int}{xs:List Lk}(h:checkS nd xs=0)(ht:0≤nw∧nw≤1048576):∀e∈goneL kd wd mo nw xs,FitOk nd e:=fun e he=>by
 unfold goneL at he
 obtain ⟨x,hx,rfl⟩:=List.mem_map.1 he
 have h1:=val_uv h x (List.mem_filter.1 hx).1
 have h2:=(checkS_ok h).1
 exact ⟨by show (1:Int)≤2∧(2:Int)≤3;omega,ht,⟨by show 0≤x.u∧x.u<64;omega,fun h3=>absurd h3 (by show ¬(2:Int)=3;decide),fun _=>by show (0≤x.v∧x.v<64)∧x.u≠x.v;omega⟩,
  fun h3=>absurd h3 (by show ¬(2:Int)=1;decide),by show x.u<nd∧x.v<nd;omega,fun _=>⟨rfl,rfl,rfl⟩⟩
def minT:List Lk→Int
 |[]=>0
 |x::xs=>xs.foldl (fun m y=>if y.tm<m then y.tm else m) x.tm
theorem minT_fold:∀(xs:List Lk) (m:Int),xs.foldl (fun m y=>if y.tm<m then y.tm else m) m≤m∧(xs.foldl (fun m y=>if y.tm<m then y.tm else m) m=m∨∃x∈xs,xs.foldl (fun m y=>if y.tm<m then y.tm else m) m=x.tm)∧∀y∈xs,xs.foldl (fun m y=>if y.tm<m then y.tm else m) m≤y.tm
 |[],m=>⟨Int.le_refl _,.inl rfl,fun y hy=>by cases hy⟩
 |x::xs,m=>by
  rw [List.foldl_cons]
  by_cases hx:x.tm<m
  ·rw [if_pos hx]
   obtain ⟨h1,h2,h3⟩:=minT_fold xs x.tm
   refine ⟨by omega,?_,fun y hy=>?_⟩
   ·rcases h2 with h2|⟨y,hy,h2⟩
    ·exact .inr ⟨x,List.mem_cons_self,h2⟩
    ·exact .inr ⟨y,List.mem_cons_of_mem _ hy,h2⟩
   ·rcases List.mem_cons.1 hy with rfl|hy
    ·exact h1
    ·exact h3 y hy
  ·rw [if_neg hx]
   obtain ⟨h1,h2,h3⟩:=minT_fold xs m
   refine ⟨h1,?_,fun y hy=>?_⟩
   ·rcases h2 with h2|⟨y,hy,h2⟩
    ·exact .inl h2
    ·exact .inr ⟨y,List.mem_cons_of_mem _ hy,h2⟩
   ·rcases List.mem_cons.1 hy with rfl|hy
    ·omega
    ·exact h3 y hy
theorem minT_spec{xs:List Lk}(h:0<xs.length):(∃x∈xs,minT xs=x.tm)∧∀y∈xs,minT xs≤y.tm:=by
 cases xs with
 |nil=>cases h
 |cons x xs=>
  obtain ⟨h1,h2,h3⟩:=minT_fold xs x.tm
  refine ⟨?_,fun y hy=>?_⟩
  ·rcases h2 with h2|⟨y,hy,h2⟩
   ·exact ⟨x,List.mem_cons_self,h2⟩
   ·exact ⟨y,List.mem_cons_of_mem _ hy,h2⟩
  ·rcases List.mem_cons.1 hy with rfl|hy
   ·exact h1
   ·exact h3 y hy
theorem minT_uniq{xs:List Lk}{wd z:Int}(h:(∃x∈xs,z=x.tm+wd)∧∀y∈xs,z≤y.tm+wd):z=minT xs+wd:=by
 obtain ⟨⟨x,hx,e⟩,h1⟩:=h
 obtain ⟨⟨y,hy,e2⟩,h2⟩:=minT_spec (List.length_pos_of_mem hx)
 have:=h1 y hy
 have:=h2 x hx
 omega
theorem inW2(wd mo nw:Int)(xs:List Lk)(x:Lk):inW 2 wd mo nw xs x=decide (nw - x.tm<wd):=by unfold inW;rw [if_pos rfl]
def ageX(wd mo:Int)(xs:List Lk):List Lk:=xs.filter (inW 2 wd mo (minT xs+wd) xs)
theorem age_less{wd mo:Int}{xs:List Lk}(h:0<xs.length):(ageX wd mo xs).length<xs.length:=by
 unfold ageX
 obtain ⟨⟨x,hx,e⟩,_⟩:=minT_spec h
 have h1:=gone_len 2 wd mo (minT xs+wd) xs
 have h2:0<(goneL 2 wd mo (minT xs+wd) xs).length:=by
  unfold goneL
  rw [List.length_map]
  refine List.length_pos_of_mem (a:=x) (List.mem_filter.2 ⟨hx,?_⟩)
  rw [inW2,decide_eq_false om];rfl
 omega
def ageL(wd mo T:Int)(xs:List Lk)(out:List Ev):List Lk×List Ev:=
 if h:0<xs.length∧minT xs+wd≤T then ageL wd mo T (ageX wd mo xs) (out++goneL 2 wd mo (minT xs+wd) xs) else (xs,out)
termination_by xs.length
decreasing_by exact age_less h.1
theorem ageL_step{wd mo T:Int}{xs:List Lk}{out:List Ev}(h:0<xs.length∧minT xs+wd≤T):ageL wd mo T xs out=ageL wd mo T (xs.filter (inW 2 wd mo (minT xs+wd) xs)) (out++goneL 2 wd mo (minT xs+wd) xs):=by
 rw [ageL,dif_pos h];rfl
theorem ageL_stop{wd mo T:Int}{xs:List Lk}{out:List Ev}(h:¬(0<xs.length∧minT xs+wd≤T)):ageL wd mo T xs out=(xs,out):=by
 rw [ageL,dif_neg h]
def windL(kd wd mo:Int)(b:List Lk×List Ev)(T:Int):List Lk×List Ev:=if kd=3 then (b.1.filter (inW kd wd mo T b.1),b.2++goneL kd wd mo T b.1) else b
def agedL(kd wd mo T:Int)(s:List Lk×List Ev):List Lk×List Ev:=if kd=2 then ageL wd mo T s.1 s.2 else s
def evStep(kd wd mo:Int)(s:List Lk×List Ev)(e:Ev):List Lk×List Ev:=windL kd wd mo (stepL (agedL kd wd mo e.tm s).1 e,(agedL kd wd mo e.tm s).2++[e]) e.tm
def slideS(kd wd mo:Int)(es:List Ev):List Lk×List Ev:=es.foldl (evStep kd wd mo) ([],[])
def streamS(nd:Int):Int→List Ev→Int
 |_,[]=>0
 |last,e::es=>if fitE nd e≠0 then fitE nd e else if e.tm<last then 9 else streamS nd e.tm es
def streamE(nd:Int)(es:List Ev):Int:=if nd<0∨64<nd then 1 else if 65536<es.length then 3 else streamS nd 0 es
def slideE(nd kd wd mo:Int)(es:List Ev):Int:=if checkW kd wd mo≠0 then checkW kd wd mo else streamE nd es
def lastT(es:List Ev)(k:Nat):Int:=if k=0 then 0 else (at_ es ((k:Int) - 1)).tm
theorem lastT_succ(es:List Ev)(k:Nat):lastT es (k+1)=(at_ es (k:Int)).tm:=by
 unfold lastT;rw [if_neg om,show ((k+1:Nat):Int) - 1=(k:Int) by omega]
section
variable {nd:Int}{es:List Ev}{k:Nat}
theorem streamS_step(hk:k<es.length)(h1:fitE nd (at_ es (k:Int))=0)(h2:¬(at_ es (k:Int)).tm<lastT es k):streamS nd (lastT es k) (es.drop k)=streamS nd (lastT es (k+1)) (es.drop (k+1)):=by
 rw [D0 es k hk,lastT_succ];simp only [streamS];rw [if_neg (by simp [h1]),if_neg h2]
theorem streamS_bad(hk:k<es.length)(h1:fitE nd (at_ es (k:Int))≠0):streamS nd (lastT es k) (es.drop k)=fitE nd (at_ es (k:Int)):=by
 rw [D0 es k hk];simp only [streamS];rw [if_pos h1]
theorem streamS_late(hk:k<es.length)(h1:fitE nd (at_ es (k:Int))=0)(h2:(at_ es (k:Int)).tm<lastT es k):streamS nd (lastT es k) (es.drop k)=9:=by
 rw [D0 es k hk];simp only [streamS];rw [if_neg (by simp [h1]),if_pos h2]
theorem streamS_end(hk:es.length≤k):streamS nd (lastT es k) (es.drop k)=0:=by rw [List.drop_eq_nil_of_le hk];rfl
theorem streamS_all(h:streamS nd 0 es=0):∀k,k≤es.length→streamS nd (lastT es k) (es.drop k)=0∧∀j,j<k→FitOk nd (at_ es (j:Int))∧lastT es j≤(at_ es (j:Int)).tm
 |0,_=>⟨h,fun j hj=>absurd hj (Nat.not_lt_zero _)⟩
 |k+1,hk=>by
  obtain ⟨h1,h2⟩:=streamS_all h k om
  have h3:fitE nd (at_ es (k:Int))=0:=Classical.byContradiction fun hc=>hc (by rw [streamS_bad om hc] at h1;exact h1)
  have h4:¬(at_ es (k:Int)).tm<lastT es k:=fun hc=>by rw [streamS_late om h3 hc] at h1;cases h1
  refine ⟨by rw [←streamS_step om h3 h4];exact h1,fun j hj=>?_⟩
  rcases Nat.lt_succ_iff_lt_or_eq.1 hj with hj|rfl
  ·exact h2 j hj
  ·exact ⟨fitE_ok.1 h3,by omega⟩
structure StOk (nd:Int) (es:List Ev):Prop where
 nodes:0≤nd∧nd≤64
 len:es.length≤65536
 fit:∀j:Nat,j<es.length→FitOk nd (at_ es (j:Int))
 asc:∀j:Nat,j<es.length→lastT es j≤(at_ es (j:Int)).tm
theorem streamE_ok(h:streamE nd es=0):StOk nd es:=by
 unfold streamE at h
 by_cases h1:nd<0∨64<nd
 ·rw [if_pos h1] at h;cases h
 rw [if_neg h1] at h
 by_cases h2:65536<es.length
 ·rw [if_pos h2] at h;cases h
 rw [if_neg h2] at h
 have h3:=(streamS_all h es.length (Nat.le_refl _)).2
 exact ⟨by omega,by omega,fun j hj=>(h3 j hj).1,fun j hj=>(h3 j hj).2⟩
end
theorem slideS_succ{kd wd mo:Int}{es:List Ev}{k:Nat}(hk:k<es.length):slideS kd wd mo (es.take (k+1))=evStep kd wd mo (slideS kd wd mo (es.take k)) (at_ es (k:Int)):=by
 unfold slideS;rw [Db es k hk,List.foldl_append];rfl
theorem steps_succ{xs:List Lk}{es:List Ev}{k:Nat}(hk:k<es.length):(es.take (k+1)).foldl stepL xs=stepL ((es.take k).foldl stepL xs) (at_ es (k:Int)):=by
 rw [Db es k hk,List.foldl_append];rfl
theorem out_succ{out es:List Ev}{k:Nat}(hk:k<es.length):out++es.take (k+1)=out++es.take k++[at_ es (k:Int)]:=by
 rw [Db es k hk,List.append_assoc]
theorem steps_len:∀(es:List Ev) (xs:List Lk),(es.foldl stepL xs).length≤xs.length+es.length
 |[],xs=>Nat.le_refl _
 |e::es,xs=>by
  have h1:=steps_len es (stepL xs e)
  have h2:=stepL_len xs e
  rw [List.foldl_cons,List.length_cons];omega
structure SlI (nd kd wd:Int) (last:Int) (xs:List Lk):Prop where
 val:checkS nd xs=0
 tm:∀x∈xs,x.tm≤last
 al:kd=2→∀x∈xs,last<x.tm+wd
section
variable {nd kd wd mo last T:Int}{xs:List Lk}{out:List Ev}
theorem SlI.nil(h:0≤nd∧nd≤64):SlI nd kd wd last []:=⟨checkS_iff.2 ⟨h,fun x hx=>(by cases hx),List.Pairwise.nil⟩,fun x hx=>(by cases hx),fun _ x hx=>(by cases hx)⟩
theorem SlI.filter(h:SlI nd kd wd last xs)(P:Lk→Bool):SlI nd kd wd last (xs.filter P):=
 ⟨filter_val h.val,fun x hx=>h.tm x (List.mem_filter.1 hx).1,fun hk x hx=>h.al hk x (List.mem_filter.1 hx).1⟩
theorem SlI.later(h:SlI nd kd wd last xs)(hT:last≤T)(hk:kd=2→¬(0<xs.length∧minT xs+wd≤T)):SlI nd kd wd T xs:=
 ⟨h.val,fun x hx=>by have:=h.tm x hx;omega,fun h2 x hx=>by
  have h3:=hk h2
  have h4:0<xs.length:=List.length_pos_of_mem hx
  have h5:=(minT_spec h4).2 x hx
  omega⟩
theorem SlI.step(h:SlI nd kd wd T xs){e:Ev}(he:FitOk nd e)(ht:e.tm=T)(hw:kd=2→1≤wd):SlI nd kd wd T (stepL xs e):=by
 have key:∀x∈stepL xs e,x.tm=T∨x∈xs:=fun x hx=>by
  unfold stepL at hx
  split at hx
  ·rcases mem_setL hx with rfl|hx
   ·exact .inl ht
   ·exact .inr hx
  ·exact .inr (List.mem_filter.1 hx).1
 refine ⟨stepL_val h.val he,fun x hx=>?_,fun hk x hx=>?_⟩
 ·rcases key x hx with h1|h1
  ·omega
  ·exact h.tm x h1
 ·rcases key x hx with h1|h1
  ·have:=hw hk;omega
  ·exact h.al hk x h1
theorem SlI.ask(h:SlI nd kd wd last xs)(hc:checkW kd wd mo=0){t:Int}(ht:0≤t∧t≤1048576)(hl:last≤t):askE nd xs kd wd mo t=0:=by
 unfold askE
 rw [if_neg (by simp [hc]),if_neg (by simp [h.val]),if_neg]
 rintro (h1|h1|h1)
 ·omega
 ·omega
 ·obtain ⟨x,hx,h2⟩:=List.any_eq_true.1 h1
  have:=h.tm x hx
  have:=of_decide_eq_true h2
  omega
theorem SlI.first(h:SlI nd kd wd last xs)(hk:kd=2)(h0:0<xs.length):last<minT xs+wd:=by
 obtain ⟨⟨x,hx,e⟩,_⟩:=minT_spec h0
 have:=h.al hk x hx
 omega
end
end Go.Sl
namespace Go.Sl
def edgeP(u v:Int):Pt:=⟨if v<u then v else u,if u<v then v else u⟩
theorem Pt.cmp_zero(a b:Pt):Pt.cmp a b=0↔a=b:=by
 rw [Pt.ext_iff']
 unfold Pt.cmp
 split<;>(try split)<;>(try split)<;>(try split)<;>omega
end Go.Sl
/- Windows: setting and cutting links in place. The plain laws. No Go. No conditions. -/
namespace Go.Sl
theorem Lk.cmp_zero(a b:Lk):Lk.cmp a b=0↔a.p=b.p:=Pt.cmp_zero _ _
theorem setL_app{n:Lk}{ys:List Lk}:∀(xs:List Lk),(∀x∈xs,Lk.lt x n)→setL n (xs++ys)=xs++setL n ys
 |[],_=>rfl
 |x::xs,h=>by
  have h1:=h x List.mem_cons_self
  rw [List.cons_append,List.cons_append]
  conv=>lhs;unfold setL
  rw [if_neg (show ¬Lk.lt n x from fun h2=>Pt.lin.asymm h1 h2),if_neg (fun h2=>by unfold Lk.lt at h1;rw [h2] at h1;exact Pt.lin.irr _ h1),setL_app xs fun y hy=>h y (List.mem_cons_of_mem _ hy)]
section
variable {xs:List Lk}{n:Lk}{i:Nat}{q:Bool}
theorem lk_below(h:BFound Lk.cmp xs n i q)(ha:xs.Pairwise Lk.lt):∀x∈xs.take i,Lk.lt x n:=fun x hx=>by
 obtain ⟨j,hj,rfl⟩:=List.getElem_of_mem hx
 rw [List.length_take] at hj
 have hle:=h.le
 have e:(xs.take i)[j]=at_ xs (j:Int):=by rw [D3 xs j om];simp
 rw [e]
 have h1:=(Lk.cmp_lt _ _).1 (h.low om)
 rw [show (i:Int) - 1=((i - 1:Nat):Int) by omega] at h1
 by_cases hq:j=i - 1
 ·rw [hq];exact h1
 ·exact Pt.lin.tr _ _ _ ((pairwise_at xs).1 ha j (i - 1) om om) h1
theorem setL_new(h:BFound Lk.cmp xs n i q)(ha:xs.Pairwise Lk.lt)(hq:q=false):setL n xs=xs.take i++[n]++xs.drop i:=by
 conv=>lhs;rw [←List.take_append_drop i xs]
 rw [setL_app _ (lk_below h ha),List.append_assoc]
 congr 1
 rcases Nat.lt_or_ge i xs.length with hi|hi
 ·have h1:=h.is
  rw [hq] at h1
  have h2:=of_decide_eq_false h1.symm
  have h3:=h.high hi
  rw [Lk.cmp_lt] at h3
  rw [D0 xs i hi]
  unfold setL
  rw [Lk.cmp_zero] at h2
  have h4:(at_ xs (i:Int)).p≠n.p:=fun e=>h2 ⟨hi,e⟩
  rw [if_pos,List.singleton_append]
  rcases Pt.lin.tri n.p (at_ xs (i:Int)).p with h5|h5|h5
  ·exact h5
  ·exact absurd h5.symm h4
  ·exact absurd h5 h3
 ·rw [List.drop_eq_nil_of_le hi];rfl
theorem setL_there(h:BFound Lk.cmp xs n i q)(ha:xs.Pairwise Lk.lt)(hq:q=true):i<xs.length∧setL n xs=xs.set i n:=by
 have h1:=h.is
 rw [hq] at h1
 obtain ⟨hi,h2⟩:=of_decide_eq_true h1.symm
 refine ⟨hi,?_⟩
 rw [Lk.cmp_zero] at h2
 conv=>lhs;rw [←List.take_append_drop i xs]
 rw [setL_app _ (lk_below h ha),D0 xs i hi]
 unfold setL
 rw [if_neg (fun h3=>by unfold Lk.lt at h3;rw [h2] at h3;exact Pt.lin.irr _ h3),if_pos h2,List.set_eq_take_append_cons_drop,if_pos hi]
theorem set_self(hi:i<xs.length)(h:at_ xs (i:Int)=n):xs.set i n=xs:=by
 rw [←h,D3 xs i hi];exact List.set_getElem_self hi
end
section
variable {P:Lk→Bool}{xs:List Lk}{j:Nat}
def keptN(P:Lk→Bool)(xs:List Lk)(j:Nat):Nat:=((xs.take j).filter P).length
def keepL(P:Lk→Bool)(xs:List Lk)(j:Nat):List Lk:=(xs.take j).filter P++xs.drop j
theorem keepL_zero:keepL P xs 0=xs:=by simp [keepL]
theorem keptN_zero:keptN P xs 0=0:=by simp [keptN]
theorem keepL_end(h:xs.length≤j):keepL P xs j=xs.filter P:=by unfold keepL;rw [List.take_of_length_le h,List.drop_eq_nil_of_le h,List.append_nil]
theorem keepL_len:(keepL P xs j).length=keptN P xs j+(xs.length - j):=by simp [keepL,keptN]
theorem keptN_le:keptN P xs j≤j:=by
 unfold keptN
 have:=List.length_filter_le P (xs.take j)
 rw [List.length_take] at this
 omega
theorem keepL_at(h:j<xs.length):at_ (keepL P xs j) (keptN P xs j:Int)=at_ xs (j:Int):=by
 have hl:=keepL_len (P:=P) (xs:=xs) (j:=j)
 rw [D3 _ _ om,D3 xs j h]
 unfold keepL keptN
 rw [List.getElem_append_right (Nat.le_refl _)]
 simp
theorem keep_yes(h:j<xs.length)(hp:P (at_ xs (j:Int))=true):keepL P xs (j+1)=keepL P xs j∧keptN P xs (j+1)=keptN P xs j+1:=by
 unfold keepL keptN
 rw [Db xs j h,List.filter_append,D0 xs j h]
 simp [hp]
theorem keep_no(h:j<xs.length)(hp:P (at_ xs (j:Int))=false):keptN P xs (j+1)=keptN P xs j:=by
 unfold keptN
 rw [Db xs j h,List.filter_append]
 simp [hp]
theorem keep_copy(h:j<xs.length)(hp:P (at_ xs (j:Int))=false){q:Nat}(hq:q=xs.length - j - 1) :
  (keepL P xs j).take (keptN P xs j)++((keepL P xs j).drop (keptN P xs j+1)).take q++(keepL P xs j).drop (keptN P xs j+q)=keepL P xs (j+1)++(keepL P xs j).drop (keptN P xs j+q):=by
 congr 1
 have e:keepL P xs j=(xs.take j).filter P++(at_ xs (j:Int)::xs.drop (j+1)):=by unfold keepL;rw [←D0 xs j h]
 have e2:keepL P xs (j+1)=(xs.take j).filter P++xs.drop (j+1):=by
  unfold keepL
  rw [Db xs j h,List.filter_append]
  simp [hp]
 have e3:keptN P xs j=((xs.take j).filter P).length:=rfl
 rw [e2,e,e3]
 generalize (xs.take j).filter P=A
 rw [List.take_left' rfl,show A.length+1=(A++[at_ xs (j:Int)]).length by simp,show A++at_ xs (j:Int)::xs.drop (j+1)=(A++[at_ xs (j:Int)])++xs.drop (j+1) by simp,List.drop_left' rfl,List.take_of_length_le (by rw [List.length_drop];omega)]
theorem keep_take{zs:List Lk}{m:Nat}(hm:m=(keepL P xs (j+1)).length):(keepL P xs (j+1)++zs).take m=keepL P xs (j+1):=by
 rw [hm];exact List.take_left' rfl
end
theorem fitgone{nd kd wd mo nw:Int}{xs:List Lk}(h:checkS nd xs=0)(ht:0≤nw∧nw≤1048576):∀j:Nat,j<(goneL kd wd mo nw xs).length→FitOk nd (at_ (goneL kd wd mo nw xs) (j:Int)):=fun j hj=>gone_fit h ht _ (Ck om om)
theorem fitone{nd:Int}{e:Ev}(h:FitOk nd e):∀j:Nat,j<[e].length→FitOk nd (at_ [e] (j:Int)):=fun j hj=>by
 obtain rfl:j=0:=by simpa using hj
 exact h
end Go.Sl
/- Windows: the reference's way to apply an event. The plain laws. No Go. No conditions. -/
namespace Go.Sl
end Go.Sl
