/- A part of the proofs of statements of this seat: contracts of functions, and the plain laws that they lean on. No conditions. -/
import Derived.Test.YtfkcohmipjhfcaaGreatDoorH6
set_option linter.unusedVariables false
set_option linter.unusedSimpArgs false
set_option linter.unusedSectionVars false
namespace Go.Sl
open Go.Proofs
set_option maxRecDepth 4000
variable {κ:Ctx}{I:List Item}
def Lk.lcmp(a c:Lk):Int:=orL [cmpI c.tm a.tm,Lk.cmp c a]
def Lk.late(a c:Lk):Prop:=c.tm<a.tm∨(a.tm=c.tm∧Lk.lt c a)
instance:DecidableRel Lk.late:=fun a c=>by unfold Lk.late;infer_instance
theorem Lk.lcmp_lt(a c:Lk):Lk.lcmp a c<0↔Lk.late a c:=by
 unfold Lk.lcmp Lk.late
 rw [←Lk.cmp_lt]
 simp only [orL,cmpI]
 generalize Lk.cmp c a=z
 (repeat' split)<;>omega
def SortedK(xs ys:List Lk):Prop:=ys.Perm xs∧ys.Pairwise fun a b=>¬Lk.late b a
open Go.Proofs Go.Shelf Go.Sort in
theorem swo_lk:SWO (ltOf Lk.lcmp) where
 irrefl x:=decide_eq_false fun h=>by rw [Lk.lcmp_lt] at h;unfold Lk.late Lk.lt Pt.lt Lk.p at h;simp only at h;omega
 trans x y z h1 h2:=decide_eq_true (by
  have a:=of_decide_eq_true h1
  have b:=of_decide_eq_true h2
  rw [Lk.lcmp_lt] at a b ⊢
  unfold Lk.late Lk.lt Pt.lt Lk.p at a b ⊢
  simp only at a b ⊢
  omega)
 ntrans x y z h1 h2:=decide_eq_false fun h=>by
  have a:=of_decide_eq_false h1
  have b:=of_decide_eq_false h2
  rw [Lk.lcmp_lt] at a b h
  unfold Lk.late Lk.lt Pt.lt Lk.p at a b h
  simp only at a b h
  omega
theorem CloneL{a:Option Addr}{c:Nat}{xs:List Lk}(hl:Sl κ I (.slice a xs.length c) xs)(hb:xs.length≤1000000000) :
    CallS Tryz.prog κ 216 [.slice a xs.length c] I (fun r J=>∃a' c',r = .slice a' xs.length c'∧J=vc 146 (.slice a' xs.length c') xs::I):=by
 refine B4 (p:=a.isNone=true→xs=[]∧c=0) (fun w hs hn=>hl.isNone w hs hn) fun hnone=>?_
 refine Ce1 Tryz.func216 rfl rfl ?_
 refine Ai (Ga rfl (Af (Au (Ai (Gm rfl (Gr (Runs.eqnil Aq rfl rfl) (Af (Ek rfl (fun c4=>?_) (fun c4=>?_)))))))))
 ·refine Ai (Ga rfl (Af (Ax (Ah ?_))))
  obtain ⟨hx0,_⟩:=hnone c4
  subst hx0
  exact Ay rfl rfl (vc 146 (.slice none ([]:List Lk).length 0) ([]:List Lk)::I) (Bw _ _) ⟨none,0,rfl,rfl⟩
 ·refine Aw (Aj (Ai (Ge1 (Eff.bs0 (α:=Lk) Aq ty146 rfl) fun ad1=>?_)))
  refine Gm rfl (Ge2 (B0 (α:=Lk) (e:=146) (xs:=([]:List Lk)) (ys:=xs) Aq ty146 rfl rfl rfl mm (Bj hl) (by simp only [List.length_nil];omega) dc rfl (fun _ _=>am)) fun ad2 cp3=>?_)
  exact Ga rfl (Af (Ax (Ay rfl rfl (vc 146 (.slice ad2 xs.length cp3) xs::I) A5 ⟨ad2,cp3,rfl,rfl⟩)))
theorem LastCmp_ok(a c:Lk) :
    CallS Tryz.prog κ 322 [.agg #[I64 (a.u),I64 (a.v),I64 (a.w),I64 (a.lb),I64 (a.sg),I64 (a.tm)],.agg #[I64 (c.u),I64 (c.v),I64 (c.w),I64 (c.lb),I64 (c.sg),I64 (c.tm)]] I (fun r J=>r=I64 (Lk.lcmp a c)∧I=J):=by
 refine Ce2 Tryz.func322 rfl rfl ?_
 refine Ai (Ge1 (Bd (cs:=[_,_,_,_,_,_]) rfl rfl rfl) fun b1=>Ge1 (Bd (cs:=[_,_,_,_,_,_]) rfl rfl rfl) fun b2=>Ga rfl (Af (Au (Bk mixed (Bo (blk b2 [I64 (c.u),I64 (c.v),I64 (c.w),I64 (c.lb),I64 (c.sg),I64 (c.tm)] 146::blk b1 [I64 (a.u),I64 (a.v),I64 (a.w),I64 (a.lb),I64 (a.sg),I64 (a.tm)] 146::I) 10 (Dr 0 rfl (Ab fld146_5 rfl) (Dr 1 rfl (As ty3) ?_)))))))
 refine Dr 2 rfl (Ab fld146_5 rfl) (Dr 3 rfl (As ty3) ?_)
 refine Dr 5 rfl (Bq (vs:=[_,_,_,_,_,_]) ty146) ?_
 refine Dr 6 rfl (Bq (vs:=[_,_,_,_,_,_]) ty146) ?_
 refine Ds1 4 (Sc0 rfl (Ap call225 rfl rfl (Compare_ok c.tm a.tm)) ?_)
 refine Ds1 7 (Sc0 rfl (Ap call255 rfl rfl (OrderL_ok c a)) ?_)
 refine Ds1 8 (Se1 rfl (B1 (α:=Int) (cs:=[_,_]) (xs:=[cmpI c.tm a.tm,Lk.cmp c a]) Ac ty3 rfl rfl dc dc rfl rfl rfl rfl) fun ad3=>?_)
 refine Ds1 9 (Sc0 rfl (Ap call224 rfl rfl (Or_ok Bf)) ?_)
 refine Dc kr ?_
 refine A.read (i:=10) kr rfl (Ch rfl) rfl rfl (Ba rfl) ?_
 refine De kr ?_
 exact Aj (Ar (S1 4 rfl) (Ax (Ay rfl rfl (I) A0 ⟨rfl,rfl⟩)))
open Go.Proofs Go.Shelf Go.Sort in
theorem SortK_ok{κ:Ctx}{I:List Item}{a:Option Addr}{c:Nat}{xs:List Lk}(hsz:xs.length<1000000000) :
  CallS Tryz.prog κ 321 [.slice a xs.length c,.func (.func 322) #[] #[]] (vc 146 (.slice a xs.length c) xs::I) fun r J=>∃ys:List Lk,(r = .tuple #[]∧SortedK xs ys∧ys.length=xs.length)∧J=[]++vc 146 (.slice a xs.length c) ys::I:=
 (sort_any (α:=Lk) (ρ:=Tryz.sort321_ren) Tryz.sort321 Tryz.isAgg146 Tryz.sizeOf146 Lk.lcmp swo_lk 322 #[] (enters_of Tryz.func322 (by kernel_rfl) rfl) (fun x y W=>lays_of (LastCmp_ok x y)) om).mono fun r J ⟨ys,⟨h1,h2,h3⟩,h4⟩=>
  ⟨ys,⟨h1,⟨h2,h3.imp fun {a b} h=>by rw [←Lk.lcmp_lt];exact of_decide_eq_false h⟩,h2.length_eq⟩,by rw [h4,h2.length_eq]⟩
theorem SortK_at{F:Item→List Item}{a:Option Addr}{n c:Nat}{xs:List Lk}(hat:AtF I (vc 146 (.slice a n c) xs) F)(hn:xs.length=n)(hsz:xs.length<1000000000) :
  CallS Tryz.prog κ 321 [.slice a n c,.func (.func 322) #[] #[]] I fun r J=>∃ys:List Lk,(r = .tuple #[]∧SortedK xs ys∧ys.length=n)∧J=[]++F (vc 146 (.slice a n c) ys):=
 Eg (Z:=fun _=>[]) (X:=fun ys:List Lk=>vc 146 (.slice a n c) ys) (Post:=fun r ys=>r = .tuple #[]∧SortedK xs ys∧ys.length=n) hat fun J _ _=>by subst hn;exact SortK_ok hsz
theorem Last_ok{nd mo:Int}{a0:Option Addr}{c0:Nat}{xs:List Lk}(hl:Sl κ I (.slice a0 xs.length c0) xs)(h0:0≤mo)(hsz:xs.length≤1000000) :
    CallS Tryz.prog κ 299 [.agg #[I64 (nd),.slice a0 xs.length c0],I64 (mo)] I (fun r J=>∃(a:Option Addr) (c:Nat) (ys:List Lk) (m:Nat),r = .slice a (List.take m ys).length c∧(SortedK xs ys∧ys.length=xs.length∧(m:Int)≤mo∧m≤xs.length∧((m:Int)=mo∨m=xs.length))∧J=vc 146 (.slice a xs.length c) ys::I):=by
 refine Ce2 Tryz.func299 rfl rfl ?_
 refine Ai (Ge1 (Bd (cs:=[_,_]) rfl rfl rfl) fun b1=>Ga rfl (Af (Ai (Gf fld111_1 rfl (Gl ty109 ?_)))))
 refine G.e (Ap call216 rfl rfl (CloneL (xs:=xs) (Bj hl) om)) ?_
 rintro _ _ ⟨_,_,⟨ad2,cp3,rfl,rfl⟩,rfl,rfl⟩
 refine Ga rfl (Af (Ai (Gm rfl (G.e (Ap call321 rfl rfl (SortK_at (by repeat (first|exact AtF.head _ _|apply AtF.tail)) rfl om)) ?_))))
 rintro _ _ ⟨_,_,⟨ys4,⟨rfl,hsys4,hlys4⟩,rfl⟩,rfl,rfl⟩
 show G Tryz.prog κ _ _ _ _ ([(10,.tuple #[]),(9,.slice ad2 xs.length cp3),(5,.slice ad2 xs.length cp3),(8,.slice ad2 xs.length cp3),(7,.slice a0 xs.length c0),(6,.pointer (some ⟨b1,1,none⟩)),(4,.slice none 0 0),(2,.pointer (some ⟨b1,0,none⟩)),(0,.agg #[I64 (nd),.slice a0 xs.length c0]),(1,I64 (mo))]:Env) (vc 146 (.slice ad2 xs.length cp3) (ys4)::blk b1 [I64 (nd),.slice a0 xs.length c0] 111::I)
 refine Af (Ai (Gm rfl (Gm rfl (Gm rfl (Gr (Bp Aq rfl) (Gr (Runs.min rfl rfl) (Gr (Runs.hi (α:=Lk) (xs:=ys4) (h:=(if ((xs.length:Nat):Int)<mo then ((xs.length:Nat):Int) else mo).toNat) Aq ty146 rfl rfl om Bf (by split<;>omega)) (Ga rfl (Af (Ar (S1 4 rfl) (Ax ?_)))))))))))
 have hmn:(((((if ((xs.length:Nat):Int)<mo then ((xs.length:Nat):Int) else mo).toNat)):Nat):Int)≤mo∧(((if ((xs.length:Nat):Int)<mo then ((xs.length:Nat):Int) else mo).toNat))≤xs.length∧((((((if ((xs.length:Nat):Int)<mo then ((xs.length:Nat):Int) else mo).toNat)):Nat):Int)=mo∨(((if ((xs.length:Nat):Int)<mo then ((xs.length:Nat):Int) else mo).toNat))=xs.length):=by split<;>omega
 exact Ay rfl rfl (vc 146 (.slice ad2 xs.length cp3) (ys4)::I) A5 ⟨ad2,cp3,ys4,((if ((xs.length:Nat):Int)<mo then ((xs.length:Nat):Int) else mo).toNat),rfl,⟨hsys4,hlys4,hmn⟩,rfl⟩
theorem IndexL_ok{v:Value}{xs:List Lk}(hl:Sl κ I v xs)(x:Lk) :
    CallS Tryz.prog κ 323 [v,.agg #[I64 (x.u),I64 (x.v),I64 (x.w),I64 (x.lb),I64 (x.sg),I64 (x.tm)]] I (fun r J=>∃y:Int,r=I64 y∧(0≤y↔x∈xs)∧I=J):=by
 refine B4 hl.le fun hmax=>?_
 refine Ce2 Tryz.func323 rfl rfl ?_
 refine Ai (Ge1 (Bd (cs:=[_,_,_,_,_,_]) rfl rfl rfl) fun b1=>Ga rfl (Af (Au (Ai (Gm rfl (Gr (Bx (α:=Lk) (xs:=xs) Aq rfl (Bj hl)) (Gm rfl (Af (A4 (Bv (σ:=Nat) (fun s=>([(0,v),(3,.pointer (some ⟨b1,0,none⟩)),(7,I64 (((xs.length:Nat):Int))),(8,I64 (((s:Nat):Int)))]:Env)) (fun s=>blk b1 [I64 (x.u),I64 (x.v),I64 (x.w),I64 (x.lb),I64 (x.sg),I64 (x.tm)] 146::I) (fun s=>(s≤xs.length)∧(∀j,j<s→at_ xs (j:Int)≠x)) (fun s=>xs.length - s) (0) (show ((0:Nat)≤xs.length)∧(∀j,j<(0:Nat)→at_ xs (j:Int)≠x) from ⟨om,all_zero⟩) (Aa rfl (Aa rfl (Aa rfl (Aa B8 Bg)))) (show Fit κ _ (blk b1 [I64 (x.u),I64 (x.v),I64 (x.w),I64 (x.lb),I64 (x.sg),I64 (x.tm)] 146::I) from A5) ?_))))))))))
 rintro k hp
 obtain ⟨hk,hn⟩:=hp
 refine Ai (Gr (A9 rfl rfl) (Af (Au (A7 rfl (fun c9=>?_) (fun c9=>?_)))))
 ·refine Aw (Aj (Au (A4 (Ai (Gm rfl (Ga rfl (Af (Au (Bk mixed (Bo (blk b1 [I64 (x.u),I64 (x.v),I64 (x.w),I64 (x.lb),I64 (x.sg),I64 (x.tm)] 146::I) 6 (Dr 0 rfl (Bq (vs:=[_,_,_,_,_,_]) ty146) ?_)))))))))))
  refine Dr 1 rfl (Ad rfl) (Dr 2 rfl (Ad rfl) (Dr 3 rfl (A3 (α:=Lk) (xs:=xs) Aq ty146 rfl rfl (Bj hl) om om) (Dr 4 rfl (Bu (α:=Lk) (xs:=xs) ty146 rfl (Bj hl) om om) (Dr 5 rfl (Runs.eqlT (α:=Lk) (a:=x) (b:=(at_ xs (k:Int))) eqt146 rfl rfl) (Dz (Aj (A7 rfl (fun c16=>?_) (fun c16=>?_))))))))
  ·refine Ai (Gm rfl (Ga rfl (Af (Ar (S1 4 rfl) (Ax (Av (Ah (Ah (Av (Ah ?_))))))))))
   have hm:x∈xs:=by rw [show x=at_ xs (k:Int) from c16];exact Cf om om
   exact Ay rfl rfl (I) A0 ⟨_,rfl,⟨fun _=>hm,fun _=>by omega⟩,rfl⟩
  ·exact Aw (Ak (Aj (Az (Gr (Rad rfl rfl) (Gm rfl (Bc (B3 ((k+1)) ⟨om,(Di hn (fun e=>c16 e.symm))⟩)))))))
 ·refine Bs (Am (Am (A6 (Aj (Ai (Ga rfl (Af (Ax ?_))))))))
  have hm:x∉xs:=not_mem_at hn om
  exact Ay rfl rfl (I) A0 ⟨_,rfl,⟨fun h=>absurd h dc,fun h=>absurd h hm⟩,rfl⟩
theorem ContainsL_ok{v:Value}{xs:List Lk}(hl:Sl κ I v xs)(x:Lk) :
    CallS Tryz.prog κ 301 [v,.agg #[I64 (x.u),I64 (x.v),I64 (x.w),I64 (x.lb),I64 (x.sg),I64 (x.tm)]] I (fun r J=>r = .bool (decide (x∈xs))∧I=J):=by
 refine Ce2 Tryz.func301 rfl rfl ?_
 refine Ai (Ge1 (Bd (cs:=[_,_,_,_,_,_]) rfl rfl rfl) fun b1=>Ga rfl (Af (Ai (Gm rfl (Gl6 ty146 ?_)))))
 refine G.e (Ap call323 rfl rfl (IndexL_ok (Bj hl) x)) ?_
 rintro _ _ ⟨_,_,⟨y2,rfl,hy2,rfl⟩,rfl,rfl⟩
 exact Gr (B6 rfl rfl) (Ga rfl (Af (Ax (Ay rfl rfl (I) A0 ⟨by rw [decide_eq_decide.2 asm],rfl⟩))))
theorem Last1_ok{b:Nat}{v:Value}{zs:List Lk}(hb:BlkRd κ I b [v] 109)(hz:Sl κ I v zs)(x:Lk) :
    CallS Tryz.prog κ 300 [.agg #[I64 (x.u),I64 (x.v),I64 (x.w),I64 (x.lb),I64 (x.sg),I64 (x.tm)],.pointer (some ⟨b,0,none⟩)] I (fun r J=>r = .bool (decide (x∈zs))∧I=J):=by
 refine Ce2 Tryz.func300 rfl rfl ?_
 refine Ai (Ge1 (Bd (cs:=[_,_,_,_,_,_]) rfl rfl rfl) fun b1=>Ga rfl (Af (Ai (Gr (Co ty109 rfl (Cm hb A0) rfl) (Gl6 ty146 ?_)))))
 refine Gc0 (Ap call301 rfl rfl (ContainsL_ok (Bj hz) x)) ?_
 exact Ga rfl (Af (Ax (Ay rfl rfl (I) A0 ⟨rfl,rfl⟩)))
theorem Rule3_ok{nd kd wd mo nw:Int}{a0:Option Addr}{c0:Nat}{xs:List Lk}(hl:Sl κ I (.slice a0 xs.length c0) xs)(h0:0≤mo)(hsz:xs.length≤1000000) :
    CallS Tryz.prog κ 298 [.agg #[I64 (nd),.slice a0 xs.length c0],.agg #[I64 (kd),I64 (wd),I64 (mo)],I64 (nw)] I (fun r J=>∃(b:Nat) (a:Option Addr) (c:Nat) (ys:List Lk) (m:Nat),r = .func (.func 300) #[] #[.pointer (some ⟨b,0,none⟩)]∧(SortedK xs ys∧ys.length=xs.length∧(m:Int)≤mo∧m≤xs.length∧((m:Int)=mo∨m=xs.length))∧J=blk b [.slice a (List.take m ys).length c] 109::vc 146 (.slice a xs.length c) ys::I):=by
 refine Ce3 Tryz.func298 rfl rfl ?_
 refine Ai (Ge1 (Bd (cs:=[_,_]) rfl rfl rfl) fun b1=>Ge1 (Bd (cs:=[_,_,_]) rfl rfl rfl) fun b2=>Ga rfl (Af (Ai (Gl2 ty111 ?_))))
 refine Gf fld31_2 rfl (Gl ty3 ?_)
 refine G.e (Ap call299 rfl rfl (Last_ok (nd:=nd) (Bj hl) h0 om)) ?_
 rintro _ _ ⟨_,_,⟨ad3,cp4,ys5,mm6,rfl,hzys5,rfl⟩,rfl,rfl⟩
 refine Ge1 (A8 ty109 rfl) fun b7=>Ge0 (Cy (cs:=[_]) (vs:=[_]) (cs':=[_]) ty109) ?_
 exact Af (Ai (Gr (Eb rfl rfl) (Ga rfl (Af (Ax (Ay rfl rfl (blk b7 [.slice ad3 (List.take mm6 ys5).length cp4] 109::vc 146 (.slice ad3 xs.length cp4) (ys5)::I) A5 ⟨b7,ad3,cp4,ys5,mm6,rfl,hzys5,rfl⟩))))))
end Go.Sl
/- Windows: what is present. The plain laws. No Go. No conditions. -/
namespace Go.Sl
theorem scan0{n:Int}:∀(xs:List Lk) (q:Lk),scanL (badL n) Lk.lt (some q) xs=0→(∀x∈xs,badL n x=0)∧(q::xs).Pairwise Lk.lt
 |[],q,_=>by simp
 |p::ps,q,h=>by
  simp only [scanL] at h
  by_cases hb:badL n p=0
  ·rw [if_neg (by simp [hb])] at h
   by_cases hl:Lk.lt q p
   ·rw [if_pos hl] at h
    obtain ⟨h1,h2⟩:=scan0 ps p h
    refine ⟨fun x hx=>?_,List.pairwise_cons.2 ⟨fun x hx=>?_,h2⟩⟩
    ·rcases List.mem_cons.1 hx with rfl|hx
     ·exact hb
     ·exact h1 x hx
    ·rcases List.mem_cons.1 hx with rfl|hx
     ·exact hl
     ·exact Pt.lin.tr _ _ _ hl ((List.pairwise_cons.1 h2).1 x hx)
   ·rw [if_neg hl] at h;cases h
  ·rw [if_pos hb] at h;exact absurd h hb
theorem checkS_ok{n:Int}{xs:List Lk}(h:checkS n xs=0):(0≤n∧n≤64)∧(∀x∈xs,badL n x=0)∧xs.Pairwise Lk.lt:=by
 unfold checkS at h
 by_cases hn:n<0∨64<n
 ·rw [if_pos hn] at h;cases h
 ·rw [if_neg hn] at h
  refine ⟨by omega,?_⟩
  cases xs with
  |nil=>exact ⟨(fun x hx=>by cases hx),List.Pairwise.nil⟩
  |cons p ps=>
   simp only [scanL] at h
   by_cases hb:badL n p=0
   ·rw [if_neg (by simp [hb])] at h
    obtain ⟨h1,h2⟩:=scan0 ps p h
    exact ⟨fun x hx=>by
     rcases List.mem_cons.1 hx with rfl|hx
     ·exact hb
     ·exact h1 x hx,h2⟩
   ·rw [if_pos hb] at h;exact absurd h hb
theorem badL_tm{n:Int}{l:Lk}(h:badL n l=0):0≤l.tm∧l.tm≤1048576:=by
 unfold badL at h
 split at h
 ·cases h
 ·split at h
  ·cases h
  ·split at h
   ·cases h
   ·omega
structure AskOk (nd:Int) (xs:List Lk) (kd wd mo nw:Int):Prop where
 kind:1≤kd∧kd≤3
 width:kd=2→1≤wd∧wd≤1048576
 most:kd=3→0≤mo∧mo≤2016
 nodes:0≤nd∧nd≤64
 asc:xs.Pairwise Lk.lt
 now:0≤nw∧nw≤1048576
 tm:∀x∈xs,0≤x.tm∧x.tm≤nw
theorem askE_ok{nd:Int}{xs:List Lk}{kd wd mo nw:Int}(h:askE nd xs kd wd mo nw=0):AskOk nd xs kd wd mo nw:=by
 unfold askE at h
 by_cases h1:checkW kd wd mo=0
 ·rw [if_neg (by simp [h1])] at h
  by_cases h2:checkS nd xs=0
  ·rw [if_neg (by simp [h2])] at h
   obtain ⟨h3,h4,h5⟩:=checkS_ok h2
   split at h
   ·cases h
   ·rename_i h6
    have hw:(1≤kd∧kd≤3)∧(kd=2→1≤wd∧wd≤1048576)∧(kd=3→0≤mo∧mo≤2016):=by
     unfold checkW at h1
     split at h1
     ·cases h1
     ·split at h1
      ·cases h1
      ·omega
    refine ⟨hw.1,hw.2.1,hw.2.2,h3,h5,by omega,fun x hx=>?_⟩
    have h7:=badL_tm (h4 x hx)
    refine ⟨h7.1,?_⟩
    by_cases h8:nw<x.tm
    ·exact absurd (.inr (.inr (List.any_eq_true.2 ⟨x,hx,decide_eq_true h8⟩))) h6
    ·omega
  ·rw [if_pos h2] at h;exact absurd h h2
 ·rw [if_pos h1] at h;exact absurd h h1
def rankL(xs:List Lk)(x:Lk):Nat:=(xs.filter fun y=>decide (Lk.late y x)).length
def inW(kd wd mo nw:Int)(xs:List Lk)(x:Lk):Bool:=if kd=2 then decide (nw - x.tm<wd) else if kd=3 then decide ((rankL xs x:Int)<mo) else true
theorem late_irr(x:Lk):¬Lk.late x x:=by unfold Lk.late Lk.lt Pt.lt;omega
theorem late_asymm{x y:Lk}(h:Lk.late x y):¬Lk.late y x:=by unfold Lk.late Lk.lt Pt.lt at *; omega
theorem rank_at:∀(ys:List Lk) (i:Nat) (hi:i<ys.length),ys.Pairwise Lk.late→rankL ys ys[i]=i
 |[],i,hi,_=>absurd hi (by simp)
 |y::ys,0,hi,hp=>by
  obtain ⟨h1,h2⟩:=List.pairwise_cons.1 hp
  unfold rankL
  rw [List.filter_eq_nil_iff.2 fun z hz=>?_]
  ·rfl
  ·simp only [List.getElem_cons_zero,decide_eq_true_eq]
   rcases List.mem_cons.1 hz with rfl|hz
   ·exact late_irr _
   ·exact late_asymm (h1 z hz)
 |y::ys,i+1,hi,hp=>by
  obtain ⟨h1,h2⟩:=List.pairwise_cons.1 hp
  have hi':i<ys.length:=by simpa using hi
  have ih:=rank_at ys i hi' h2
  unfold rankL at ih ⊢
  rw [List.getElem_cons_succ,List.filter_cons,if_pos (decide_eq_true (h1 _ (List.getElem_mem hi'))),List.length_cons,ih]
theorem sortedK_late{xs ys:List Lk}(h:SortedK xs ys)(ha:xs.Pairwise Lk.lt):ys.Pairwise Lk.late:=by
 have h1:xs.Pairwise fun a b=>Lk.late a b∨Lk.late b a:=ha.imp fun {a b} hab=>by unfold Lk.late Lk.lt Pt.lt at *; omega
 have h2:ys.Pairwise fun a b=>Lk.late a b∨Lk.late b a:=(h.1.pairwise_iff fun {x y} hxy=>hxy.symm).2 h1
 exact (h2.and h.2).imp fun {a b} hab=>hab.1.resolve_right hab.2
theorem take_rank{xs ys:List Lk}(h:SortedK xs ys)(ha:xs.Pairwise Lk.lt){x:Lk}(hx:x∈xs)(m:Nat):x∈ys.take m↔rankL xs x<m:=by
 have hp:=sortedK_late h ha
 have hr:∀z,rankL xs z=rankL ys z:=fun z=>by unfold rankL;exact ((h.1.filter _).length_eq).symm
 constructor
 ·intro hm
  obtain ⟨j,hj,he⟩:=List.mem_take_iff_getElem.1 hm
  rw [hr,←he,rank_at ys j om hp];omega
 ·intro hm
  obtain ⟨j,hj,he⟩:=List.getElem_of_mem (h.1.mem_iff.2 hx)
  rw [hr,←he,rank_at ys j hj hp] at hm
  exact List.mem_take_iff_getElem.2 ⟨j,by omega,he⟩
theorem inW_all{kd wd mo nw:Int}{xs:List Lk}(hk:kd=1):(xs.filter fun _=>true)=xs.filter (inW kd wd mo nw xs):=
 List.filter_congr fun x hx=>by unfold inW;rw [if_neg om,if_neg om]
theorem inW_age{nd kd wd mo nw:Int}{xs:List Lk}(h:AskOk nd xs kd wd mo nw)(hk:kd=2):(xs.filter fun x=>decide (IntKind.i64.wrap (nw - x.tm)<wd))=xs.filter (inW kd wd mo nw xs):=
 List.filter_congr fun x hx=>by
  have h1:=h.tm x hx
  have h2:=h.now
  unfold inW;rw [if_pos hk,InR.wrap (by unfold InR;omega)]
theorem inW_last{nd kd wd mo nw:Int}{xs ys:List Lk}{m:Nat}(h:AskOk nd xs kd wd mo nw)(hk:kd=3)(hs:SortedK xs ys∧ys.length=xs.length∧(m:Int)≤mo∧m≤xs.length∧((m:Int)=mo∨m=xs.length)) :
  (xs.filter fun x=>decide (x∈ys.take m))=xs.filter (inW kd wd mo nw xs):=
 List.filter_congr fun x hx=>by
  unfold inW;rw [if_neg om,if_pos hk,decide_eq_decide,take_rank hs.1 h.asc hx]
  have hlt:rankL xs x<xs.length:=by
   have h1:=List.length_filter_le (fun y=>decide (Lk.late y x)) xs
   obtain ⟨j,hj,he⟩:=List.getElem_of_mem (hs.1.1.mem_iff.2 hx)
   have h2:rankL xs x=j:=by
    have:rankL xs x=rankL ys x:=by unfold rankL;exact ((hs.1.1.filter _).length_eq).symm
    rw [this,←he,rank_at ys j hj (sortedK_late hs.1 h.asc)]
   omega
  omega
theorem late_ix{xs:List Lk}(ha:xs.Pairwise Lk.lt){i j:Nat}(hi:i<xs.length)(hj:j<xs.length):Lk.late (at_ xs (j:Int)) (at_ xs (i:Int))↔((at_ xs (i:Int)).tm<(at_ xs (j:Int)).tm∨((at_ xs (j:Int)).tm=(at_ xs (i:Int)).tm∧i<j)):=by
 unfold Lk.late
 have key:Lk.lt (at_ xs (i:Int)) (at_ xs (j:Int))↔i<j:=by
  constructor
  ·intro h
   rcases Nat.lt_trichotomy i j with h1|h1|h1
   ·exact h1
   ·subst h1;exact absurd h (Pt.lin.irr _)
   ·exact absurd (Pt.lin.tr _ _ _ h ((pairwise_at xs).1 ha j i h1 hi)) (Pt.lin.irr _)
  ·intro h;exact (pairwise_at xs).1 ha i j h hj
 rw [key]
end Go.Sl
namespace Go.Sl
open Go.Proofs
set_option maxRecDepth 4000
theorem In7_ok{κ:Ctx}{I:List Item}{nd kd wd mo nw:Int}{va:Value}{xs:List Lk}(hl:Sl κ I va xs){i:Nat}(hi:i<xs.length)(hA:AskOk nd xs kd wd mo nw) :
    CallS Tryz.prog κ 132 [.agg #[I64 (nd),va],.agg #[I64 (kd),I64 (wd),I64 (mo)],I64 (nw),I64 ((i:Int))] I (fun r J=>r = .bool (inW kd wd mo nw xs (at_ xs (i:Int)))∧I=J):=by
 refine B4 hl.le fun hmax=>?_
 have hti:=hA.tm _ (Cf (xs:=xs) (i:=(i:Int)) om om)
 have hnow:=hA.now
 refine Ce4 Tryz.func132 rfl rfl ?_
 refine Ai (Ge1 (Bd (cs:=[_,_]) rfl rfl rfl) fun b1=>Ge1 (Bd (cs:=[_,_,_]) rfl rfl rfl) fun b2=>Ga rfl (Af (Au (Ai (Gf fld31_0 rfl (Gl ty3 ?_))))))
 refine Af (A4 (Ai (Gr (Bi rfl rfl) (Ga rfl (Af (A7 rfl (fun c14=>?_) (fun c14=>?_)))))))
 ·refine Au (Bk mixed (Bo (blk b2 [I64 (kd),I64 (wd),I64 (mo)] 31::blk b1 [I64 (nd),va] 111::I) 12 (Dr 0 rfl (Ad rfl) (Dr 1 rfl (Ab fld111_1 rfl) (Dr 2 rfl (As ty109) ?_)))))
  refine Dr 3 rfl (Ad rfl) (Dr 4 rfl (A3 (α:=Lk) (xs:=xs) Aq ty146 rfl rfl (Bj hl) om om) (Dr 5 rfl (C0 (α:=Lk) (xs:=xs) fld146_5 rfl (Bj hl) om) (Dr 6 rfl (C1 (α:=Lk) (xs:=xs) (u:=I64 ((at_ xs (i:Int)).tm)) ty3 rfl (Bj hl) om om rfl) (Dr 7 rfl (Rsu rfl rfl) (Dr 8 rfl (Ab fld31_1 rfl) (Dr 9 rfl (As ty3) ?_))))))
  exact Dr 10 rfl (A9 rfl rfl) (Dr 11 rfl (Ba rfl) (Dz (Aj (Ar (S1 8 rfl) (Ax (Av (Ah (Ay rfl rfl (I) A0 ⟨by unfold inW;rw [if_pos c14],rfl⟩))))))))
 ·refine Ai (Gr (Bi rfl rfl) (Ga rfl (Af (A7 rfl (fun c27=>?_) (fun c27=>?_)))))
  ·refine Ai (Ga rfl (Af (Ar (S4 9 5 4 3 rfl rfl rfl rfl) (Au (Ai (Gf fld111_1 rfl (Gl ty109 ?_)))))))
   refine Gr (Bx (α:=Lk) (xs:=xs) Aq rfl (Bj hl)) (Gm rfl (Af (A4 (Bv (σ:=Nat×Int) (fun s=>([(3,I64 ((i:Int))),(4,.pointer (some ⟨b1,0,none⟩)),(5,.pointer (some ⟨b2,0,none⟩)),(9,I64 (s.2)),(30,va),(31,I64 (((xs.length:Nat):Int))),(32,I64 (((s.1:Nat):Int)))]:Env)) (fun s=>blk b2 [I64 (kd),I64 (wd),I64 (mo)] 31::blk b1 [I64 (nd),va] 111::I) (fun s=>(s.1≤xs.length)∧(s.2=((((xs.take s.1).filter (fun y=>decide (Lk.late y (at_ xs (i:Int))))).length:Nat):Int))) (fun s=>xs.length - s.1) (0,0) (show ((0:Nat)≤xs.length)∧((0:Int)=((((xs.take (0:Nat)).filter (fun y=>decide (Lk.late y (at_ xs (i:Int))))).length:Nat):Int)) from ⟨om,(by simp)⟩) (Aa rfl (Aa rfl (Aa rfl (Aa B8 (Aa rfl (Aa rfl (Aa B8 Bg))))))) (show Fit κ _ (blk b2 [I64 (kd),I64 (wd),I64 (mo)] 31::blk b1 [I64 (nd),va] 111::I) from A5) ?_))))
   rintro ⟨k,cn⟩ hp
   dsimp only at hp ⊢
   obtain ⟨hk,hc⟩:=hp
   have hcb:0≤cn∧cn≤k:=by rw [hc];have hfl:=List.length_filter_le (fun y=>decide (Lk.late y (at_ xs (i:Int)))) (xs.take k);rw [List.length_take] at hfl;omega
   refine Ai (Gr (A9 rfl rfl) (Af (Au (A7 rfl (fun c33=>?_) (fun c33=>?_)))))
   ·refine Aw (Aj (Au (A4 (Ai (Gm rfl (Gr (A3 (α:=Lk) (xs:=xs) Aq ty146 rfl rfl (Bj hl) om om) (Gr (Bu (α:=Lk) (xs:=xs) ty146 rfl (Bj hl) om om) (Ge1 (A8 ty146 rfl) fun b3=>Ga rfl (Ge0 (D3 ty146) ?_)))))))))
    refine Af (Au (Bk mixed (Bo (blk b3 [I64 ((at_ xs (k:Int)).u),I64 ((at_ xs (k:Int)).v),I64 ((at_ xs (k:Int)).w),I64 ((at_ xs (k:Int)).lb),I64 ((at_ xs (k:Int)).sg),I64 ((at_ xs (k:Int)).tm)] 146::blk b2 [I64 (kd),I64 (wd),I64 (mo)] 31::blk b1 [I64 (nd),va] 111::I) 25 (Dr 0 rfl (Ab fld146_5 rfl) (Dr 1 rfl (As ty3) ?_)))))
    refine Dr 2 rfl (Ab fld111_1 rfl) (Dr 3 rfl (As ty109) ?_)
    refine Dr 4 rfl (Ad rfl) (Dr 5 rfl (A3 (α:=Lk) (xs:=xs) Aq ty146 rfl rfl (Bj hl) om om) (Dr 6 rfl (C0 (α:=Lk) (xs:=xs) fld146_5 rfl (Bj hl) om) (Dr 7 rfl (C1 (α:=Lk) (xs:=xs) (u:=I64 ((at_ xs (i:Int)).tm)) ty3 rfl (Bj hl) om om rfl) (Dr 8 rfl (Bz rfl rfl) (Dr 9 rfl (Ad rfl) (C7 (d:=46) rfl (fun g46=>?_) (fun g46=>?_)))))))
    ·exact Dpo 10 rfl (Dpo 11 rfl (Dpo 12 rfl (Dpo 13 rfl (Dpo 14 rfl (Dpo 15 rfl (Dpo 16 rfl (Dpo 17 rfl (Dpo 18 rfl (Dpo 19 rfl (Dpu 20 rfl (Dpu 21 rfl (Dpu 22 rfl (Dpo 23 rfl (Dr 24 rfl (Ao rfl rfl) (Dz (Aj (Ar (S8 61 3 4 5 9 30 31 32 rfl rfl rfl rfl rfl rfl rfl rfl) (Ca rfl (Az (Gm rfl (Gr (Rad rfl rfl) (Ga rfl (Bc (Ak (Aj (Az (Gr (Rad rfl rfl) (Gm rfl (Bc (B3 ((k+1),(cn+1)) (by dsimp only;exact ⟨om,(by first|(rw [flk_yes om (decide_eq_true ((late_ix hA.asc hi om).2 om)),List.length_append,List.length_singleton];omega)|(rw [flk_no om (decide_eq_false (fun h=>by have:=(late_ix hA.asc hi om).1 h;omega))];omega))⟩)))))))))))))))))))))))))))))))
    ·refine Dro 10 rfl (Ab fld146_5 rfl) (Dro 11 rfl (As ty3) ?_)
     refine Dro 12 rfl (Ab fld111_1 rfl) (Dro 13 rfl (As ty109) ?_)
     refine Dro 14 rfl (Ad rfl) (Dro 15 rfl (A3 (α:=Lk) (xs:=xs) Aq ty146 rfl rfl (Bj hl) om om) (Dro 16 rfl (C0 (α:=Lk) (xs:=xs) fld146_5 rfl (Bj hl) om) (Dro 17 rfl (C1 (α:=Lk) (xs:=xs) (u:=I64 ((at_ xs (i:Int)).tm)) ty3 rfl (Bj hl) om om rfl) (Dro 18 rfl (Bi rfl rfl) (Dro 19 rfl (Ad rfl) (C7 (d:=56) rfl (fun g56=>?_) (fun g56=>?_)))))))
     ·refine Dro 20 rfl (Ad rfl) (Dro 21 rfl (Ad rfl) (Dro 22 rfl (Bz rfl rfl) (Dro 23 rfl (Ao rfl rfl) (Dr 24 rfl (Al rfl rfl) (Dz (Aj (Ar (S8 61 3 4 5 9 30 31 32 rfl rfl rfl rfl rfl rfl rfl rfl) (A7 rfl (fun c61=>?_) (fun c61=>?_)))))))))
      ·exact Az (Gm rfl (Gr (Rad rfl rfl) (Ga rfl (Bc (Ak (Aj (Az (Gr (Rad rfl rfl) (Gm rfl (Bc (B3 ((k+1),(cn+1)) (by dsimp only;exact ⟨om,(by first|(rw [flk_yes om (decide_eq_true ((late_ix hA.asc hi om).2 om)),List.length_append,List.length_singleton];omega)|(rw [flk_no om (decide_eq_false (fun h=>by have:=(late_ix hA.asc hi om).1 h;omega))];omega))⟩))))))))))))
      ·exact Aw (Ak (Aj (Az (Gr (Rad rfl rfl) (Gm rfl (Bc (B3 ((k+1),(cn)) (by dsimp only;exact ⟨om,(by first|(rw [flk_yes om (decide_eq_true ((late_ix hA.asc hi om).2 om)),List.length_append,List.length_singleton];omega)|(rw [flk_no om (decide_eq_false (fun h=>by have:=(late_ix hA.asc hi om).1 h;omega))];omega))⟩))))))))
     ·exact Dpo 20 rfl (Dpo 21 rfl (Dpo 22 rfl (Dro 23 rfl (Al rfl rfl) (Dr 24 rfl (Al rfl rfl) (Dz (Aj (Ar (S8 61 3 4 5 9 30 31 32 rfl rfl rfl rfl rfl rfl rfl rfl) (C9 rfl (Aw (Ak (Aj (Az (Gr (Rad rfl rfl) (Gm rfl (Bc (B3 ((k+1),(cn)) (by dsimp only;exact ⟨om,(by first|(rw [flk_yes om (decide_eq_true ((late_ix hA.asc hi om).2 om)),List.length_append,List.length_singleton];omega)|(rw [flk_no om (decide_eq_false (fun h=>by have:=(late_ix hA.asc hi om).1 h;omega))];omega))⟩)))))))))))))))))
   ·refine Bs (Am (Am (A6 (Aj (Ai (Gm rfl (Gf fld31_2 rfl (Gl ty3 ?_))))))))
    refine Gr (A9 rfl rfl) (Ga rfl (Af (Ax (Av (Ah ?_)))))
    have hrk:cn=((rankL xs (at_ xs (i:Int)):Nat):Int):=by rw [hc,List.take_of_length_le om];rfl
    exact Ay rfl rfl (I) A0 ⟨by unfold inW;rw [if_neg c14,if_pos c27,hrk],rfl⟩
  ·exact Aw (Ak (Aj (Ai (Ga rfl (Af (Ar (S1 8 rfl) (Ax (Ay rfl rfl (I) A0 ⟨by unfold inW;rw [if_neg c14,if_neg c27],rfl⟩))))))))
variable {κ:Ctx}{I:List Item}
def cutEv(nw:Int)(l:Lk):Ev:=⟨2,nw,l.u,l.v,0,0,0⟩
theorem gone_yes{P:Lk→Bool}{f:Lk→Ev}{xs:List Lk}{k:Nat}(hk:k<xs.length)(h:P (at_ xs (k:Int))=false):((xs.take (k+1)).filter fun x=> !P x).map f=((xs.take k).filter fun x=> !P x).map f++[f (at_ xs (k:Int))]:=by
 rw [Cz xs k hk,List.filter_append,List.map_append];simp [h]
theorem gone_no{P:Lk→Bool}{f:Lk→Ev}{xs:List Lk}{k:Nat}(hk:k<xs.length)(h:P (at_ xs (k:Int))=true):((xs.take (k+1)).filter fun x=> !P x).map f=((xs.take k).filter fun x=> !P x).map f:=by
 rw [Cz xs k hk,List.filter_append,List.map_append];simp [h]
theorem filt_not{P R:Lk→Bool}{xs:List Lk}(h:xs.filter P=xs.filter R):(xs.filter fun x=> !P x)=xs.filter fun x=> !R x:=
 List.filter_congr fun x hx=>by
  have h1:x∈xs.filter P↔x∈xs.filter R:=by rw [h]
  rw [List.mem_filter,List.mem_filter] at h1
  simp only [hx,true_and] at h1
  cases hp:P x<;>cases hr:R x<;>simp_all
def goneL(kd wd mo nw:Int)(xs:List Lk):List Ev:=(xs.filter fun x=> !inW kd wd mo nw xs x).map (cutEv nw)
theorem Gone_ok(l:Lk)(nw:Int) :
    CallS Tryz.prog κ 254 [.agg #[I64 (l.u),I64 (l.v),I64 (l.w),I64 (l.lb),I64 (l.sg),I64 (l.tm)],I64 (nw)] I (fun r J=>r = .agg #[I64 2,I64 nw,I64 l.u,I64 l.v,I64 0,I64 0,I64 0]∧I=J):=by
 refine Ce2 Tryz.func254 rfl rfl ?_
 refine Ai (Ge1 (Bd (cs:=[_,_,_,_,_,_]) rfl rfl rfl) fun b1=>Ge1 (A8 ty108 rfl) fun b2=>Af (Ai (Gm rfl (Gf fld146_0 rfl (Gl ty3 ?_)))))
 refine Gf fld146_1 rfl (Gl ty3 ?_)
 refine Gr (Bl (cells:=[_,_,_,_,_,_,_]) ty108 C4 pl108 rfl rfl) (Ge0 (Es7_7 ty108) ?_)
 exact Af (Ax (D1 rfl ty108 rfl mm rfl (I) A0 ⟨rfl,rfl⟩))
theorem Cut5_ok(l:Lk)(nw:Int) :
    CallS Tryz.prog κ 164 [.agg #[I64 (l.u),I64 (l.v),I64 (l.w),I64 (l.lb),I64 (l.sg),I64 (l.tm)],I64 (nw)] I (fun r J=>r = .agg #[I64 2,I64 nw,I64 l.u,I64 l.v,I64 0,I64 0,I64 0]∧I=J):=by
 refine Ce2 Tryz.func164 rfl rfl ?_
 refine Ai (Ge1 (Bd (cs:=[_,_,_,_,_,_]) rfl rfl rfl) fun b1=>Ge1 (A8 ty108 rfl) fun b2=>Af (Ai (Gm rfl (Gf fld146_0 rfl (Gl ty3 ?_)))))
 refine Gf fld146_1 rfl (Gl ty3 ?_)
 refine Gr (Bl (cells:=[_,_,_,_,_,_,_]) ty108 C4 pl108 rfl rfl) (Ge0 (Es7_7 ty108) ?_)
 exact Af (Ax (D1 rfl ty108 rfl mm rfl (I) A0 ⟨rfl,rfl⟩))
theorem Gone1_ok{nd wd mo nw:Int}{a0:Option Addr}{c0:Nat}{xs:List Lk}(hl:Sl κ I (.slice a0 xs.length c0) xs)(hsz:xs.length≤1000000)(hA:askE nd xs 1 wd mo nw=0) :
    CallS Tryz.prog κ 213 [.agg #[I64 (nd),.slice a0 xs.length c0],.agg #[I64 (1),I64 (wd),I64 (mo)],I64 (nw)] I (fun r J=>∃a c,r = .slice a (goneL 1 wd mo nw xs).length c∧J=vc 108 (.slice a (goneL 1 wd mo nw xs).length c) (goneL 1 wd mo nw xs)::I):=by
 refine Ce3 Tryz.func213 rfl rfl ?_
 refine Ai (Ge1 (Bd (cs:=[_,_]) rfl rfl rfl) fun b1=>Ge1 (Bd (cs:=[_,_,_]) rfl rfl rfl) fun b2=>Ga rfl (Af (Au (Bk mixed (Bo (blk b2 [I64 (1),I64 (wd),I64 (mo)] 31::blk b1 [I64 (nd),.slice a0 xs.length c0] 111::I) 9 (Dr 1 rfl (Ab fld31_0 rfl) (Dr 2 rfl (As ty3) ?_)))))))
 refine Dr 4 rfl (Bq (vs:=[_,_]) ty111) ?_
 refine Dr 5 rfl (Bq (vs:=[_,_,_]) ty31) ?_
 refine Dr 6 rfl (Ad rfl) (Ds1 0 (Se rfl (Ap call253 rfl rfl Rules_ok) ?_))
 rintro _ _ ⟨_,_,⟨mr3,rfl,rfl⟩,rfl,rfl⟩
 refine ⟨A5,?_⟩
 refine Ds1 3 (Sr rfl (Runs.lookupK (i:=0) Dv Bm rfl rfl rfl mm rfl) A5 ?_)
 refine Ds1 7 (Se rfl (Cx call294 rfl rfl rfl Rule1_ok) ?_)
 rintro _ _ ⟨_,_,⟨rfl,rfl⟩,rfl,rfl⟩
 refine ⟨A5,?_⟩
 refine Dr 8 rfl (Ba rfl) (Dz (Aj (Ar (S3 7 3 2 rfl rfl rfl) (Ai (Ga rfl (Af (Au (Ai (Gf fld111_1 rfl (Gl ty109 ?_))))))))))
 refine Gr (Bp Aq rfl) (Gm rfl (Af (A4 (Bv (σ:=Nat×(Option Addr)×Nat×(List Ev)) (fun s=>([(2,I64 (nw)),(7,.func (.func 295) #[] #[]),(8,.slice s.2.1 s.2.2.2.length s.2.2.1),(20,.slice a0 xs.length c0),(21,I64 (((xs.length:Nat):Int))),(22,I64 (((s.1:Nat):Int)))]:Env)) (fun s=>vc 108 (.slice s.2.1 s.2.2.2.length s.2.2.1) (s.2.2.2)::mp mr3 [({key:=I64 (1),val:= .func (.func 294) #[] #[],born:=0}:MapEntry),({key:=I64 (2),val:= .func (.func 296) #[] #[],born:=1}:MapEntry),({key:=I64 (3),val:= .func (.func 298) #[] #[],born:=2}:MapEntry)] 3::blk b2 [I64 (1),I64 (wd),I64 (mo)] 31::blk b1 [I64 (nd),.slice a0 xs.length c0] 111::I) (fun s=>(s.1≤xs.length)∧(s.2.2.2=((xs.take s.1).filter fun x=> !(fun _:Lk=>true) x).map (cutEv nw))) (fun s=>xs.length - s.1) (0,none,0,[]) (show ((0:Nat)≤xs.length)∧(([]:List Ev)=((xs.take (0:Nat)).filter fun x=> !(fun _:Lk=>true) x).map (cutEv nw)) from ⟨om,rfl⟩) (Aa rfl (Aa rfl (Aa (Cp rfl (by first|rfl|simp)) (Aa rfl (Aa rfl (Aa B8 Bg)))))) (show Fit κ _ (vc 108 (.slice (none) ([]).length (0)) (([]))::mp mr3 [({key:=I64 (1),val:= .func (.func 294) #[] #[],born:=0}:MapEntry),({key:=I64 (2),val:= .func (.func 296) #[] #[],born:=1}:MapEntry),({key:=I64 (3),val:= .func (.func 298) #[] #[],born:=2}:MapEntry)] 3::blk b2 [I64 (1),I64 (wd),I64 (mo)] 31::blk b1 [I64 (nd),.slice a0 xs.length c0] 111::I) from (Bw _ _)) ?_))))
 rintro ⟨k,a,c,out⟩ hp
 dsimp only at hp ⊢
 obtain ⟨hk,ho⟩:=hp
 have hol:out.length≤xs.length:=by rw [ho,List.length_map];refine Nat.le_trans (List.length_filter_le _ _) ?_;simp only [List.length_take];omega
 refine Ai (Gr (A9 rfl rfl) (Af (Au (A7 rfl (fun c23=>?_) (fun c23=>?_)))))
 ·refine Aw (Aj (Au (A4 (Ai (Gr (A3 (α:=Lk) (xs:=xs) Aq ty146 rfl rfl (Bj hl) om om) (Gr (Bu (α:=Lk) (xs:=xs) ty146 rfl (Bj hl) om om) (Ge1 (A8 ty146 rfl) fun b4=>Ge0 (D3 ty146) ?_)))))))
  refine Af (Ai (Gm rfl (Gl6 ty146 ?_)))
  refine Gc0 (Cx call295 rfl rfl rfl (All1_ok (at_ xs (k:Int)))) ?_
  exact Gr (Cu rfl) (Af (Ar (S8 29 10 2 7 8 20 21 22 rfl rfl rfl rfl rfl rfl rfl rfl) (C9 rfl (Aw (Ak (Aj (Az (Gr (Rad rfl rfl) (Gm rfl (Bc (B3 ((k+1),(a),(c),(out)) (by dsimp only;exact ⟨om,(by first|(rw [gone_yes (P:=(fun _:Lk=>true)) om (decide_eq_false c29),←ho];done)|(rw [gone_yes (P:=(fun _:Lk=>true)) om (decide_eq_false c29),←ho];rfl)|(rw [gone_no (P:=(fun _:Lk=>true)) om (decide_eq_true (Classical.not_not.1 c29)),←ho])|(rw [gone_no (P:=(fun _:Lk=>true)) om rfl,←ho]))⟩))))))))))))
 ·refine Bs (Am (Am (A6 (Aj (Ai (Gm rfl (Ga rfl (Af (Ax ?_)))))))))
  have hE:out=(goneL 1 wd mo nw xs):=by rw [ho,show List.take k xs=xs from List.take_of_length_le om];unfold goneL;rw [filt_not (P:=(fun _:Lk=>true)) (inW_all rfl)]
  subst hE
  exact Ay rfl rfl (vc 108 (.slice a (goneL 1 wd mo nw xs).length c) (goneL 1 wd mo nw xs)::I) A5 ⟨a,c,rfl,rfl⟩
theorem Gone2_ok{nd wd mo nw:Int}{a0:Option Addr}{c0:Nat}{xs:List Lk}(hl:Sl κ I (.slice a0 xs.length c0) xs)(hsz:xs.length≤1000000)(hA:askE nd xs 2 wd mo nw=0) :
    CallS Tryz.prog κ 213 [.agg #[I64 (nd),.slice a0 xs.length c0],.agg #[I64 (2),I64 (wd),I64 (mo)],I64 (nw)] I (fun r J=>∃a c,r = .slice a (goneL 2 wd mo nw xs).length c∧J=vc 108 (.slice a (goneL 2 wd mo nw xs).length c) (goneL 2 wd mo nw xs)::I):=by
 refine Ce3 Tryz.func213 rfl rfl ?_
 refine Ai (Ge1 (Bd (cs:=[_,_]) rfl rfl rfl) fun b1=>Ge1 (Bd (cs:=[_,_,_]) rfl rfl rfl) fun b2=>Ga rfl (Af (Au (Bk mixed (Bo (blk b2 [I64 (2),I64 (wd),I64 (mo)] 31::blk b1 [I64 (nd),.slice a0 xs.length c0] 111::I) 9 (Dr 1 rfl (Ab fld31_0 rfl) (Dr 2 rfl (As ty3) ?_)))))))
 refine Dr 4 rfl (Bq (vs:=[_,_]) ty111) ?_
 refine Dr 5 rfl (Bq (vs:=[_,_,_]) ty31) ?_
 refine Dr 6 rfl (Ad rfl) (Ds1 0 (Se rfl (Ap call253 rfl rfl Rules_ok) ?_))
 rintro _ _ ⟨_,_,⟨mr3,rfl,rfl⟩,rfl,rfl⟩
 refine ⟨A5,?_⟩
 refine Ds1 3 (Sr rfl (Runs.lookupK (i:=1) Dv Bm rfl rfl rfl mm rfl) A5 ?_)
 refine Ds1 7 (Sc2 rfl (Cx call296 rfl rfl rfl Rule2_ok) fun b4 b5=>?_)
 refine Dr 8 rfl (Ba rfl) (Dz (Aj (Ar (S3 7 3 2 rfl rfl rfl) (Ai (Ga rfl (Af (Au (Ai (Gf fld111_1 rfl (Gl ty109 ?_))))))))))
 refine Gr (Bp Aq rfl) (Gm rfl (Af (A4 (Bv (σ:=Nat×(Option Addr)×Nat×(List Ev)) (fun s=>([(2,I64 (nw)),(7,.func (.func 297) #[] #[.pointer (some ⟨b4,0,none⟩),.pointer (some ⟨b5,0,none⟩)]),(8,.slice s.2.1 s.2.2.2.length s.2.2.1),(20,.slice a0 xs.length c0),(21,I64 (((xs.length:Nat):Int))),(22,I64 (((s.1:Nat):Int)))]:Env)) (fun s=>vc 108 (.slice s.2.1 s.2.2.2.length s.2.2.1) (s.2.2.2)::blk b4 [I64 (nw)] 3::blk b5 [I64 (2),I64 (wd),I64 (mo)] 31::mp mr3 [({key:=I64 (1),val:= .func (.func 294) #[] #[],born:=0}:MapEntry),({key:=I64 (2),val:= .func (.func 296) #[] #[],born:=1}:MapEntry),({key:=I64 (3),val:= .func (.func 298) #[] #[],born:=2}:MapEntry)] 3::blk b2 [I64 (2),I64 (wd),I64 (mo)] 31::blk b1 [I64 (nd),.slice a0 xs.length c0] 111::I) (fun s=>(s.1≤xs.length)∧(s.2.2.2=((xs.take s.1).filter fun x=> !(fun x:Lk=>decide (IntKind.i64.wrap (nw - x.tm)<wd)) x).map (cutEv nw))) (fun s=>xs.length - s.1) (0,none,0,[]) (show ((0:Nat)≤xs.length)∧(([]:List Ev)=((xs.take (0:Nat)).filter fun x=> !(fun x:Lk=>decide (IntKind.i64.wrap (nw - x.tm)<wd)) x).map (cutEv nw)) from ⟨om,rfl⟩) (Aa rfl (Aa rfl (Aa (Cp rfl (by first|rfl|simp)) (Aa rfl (Aa rfl (Aa B8 Bg)))))) (show Fit κ _ (vc 108 (.slice (none) ([]).length (0)) (([]))::blk b4 [I64 (nw)] 3::blk b5 [I64 (2),I64 (wd),I64 (mo)] 31::mp mr3 [({key:=I64 (1),val:= .func (.func 294) #[] #[],born:=0}:MapEntry),({key:=I64 (2),val:= .func (.func 296) #[] #[],born:=1}:MapEntry),({key:=I64 (3),val:= .func (.func 298) #[] #[],born:=2}:MapEntry)] 3::blk b2 [I64 (2),I64 (wd),I64 (mo)] 31::blk b1 [I64 (nd),.slice a0 xs.length c0] 111::I) from (Bw _ _)) ?_))))
 rintro ⟨k,a,c,out⟩ hp
 dsimp only at hp ⊢
 obtain ⟨hk,ho⟩:=hp
 have hol:out.length≤xs.length:=by rw [ho,List.length_map];refine Nat.le_trans (List.length_filter_le _ _) ?_;simp only [List.length_take];omega
 refine Ai (Gr (A9 rfl rfl) (Af (Au (A7 rfl (fun c23=>?_) (fun c23=>?_)))))
 ·refine Aw (Aj (Au (A4 (Ai (Gr (A3 (α:=Lk) (xs:=xs) Aq ty146 rfl rfl (Bj hl) om om) (Gr (Bu (α:=Lk) (xs:=xs) ty146 rfl (Bj hl) om om) (Ge1 (A8 ty146 rfl) fun b6=>Ge0 (D3 ty146) ?_)))))))
  refine Af (Ai (Gm rfl (Gl6 ty146 ?_)))
  refine Gc0 (Cx call297 rfl rfl rfl (Age1_ok (Ci mm) (Ci mm) (at_ xs (k:Int)))) ?_
  refine Gr (Cw rfl) (Af (Ar (S8 29 10 2 7 8 20 21 22 rfl rfl rfl rfl rfl rfl rfl rfl) (A7 rfl (fun c29=>?_) (fun c29=>?_))))
  ·refine Az (Gm rfl (Gl6 ty146 ?_))
   refine Gm rfl (G.e (Ap call254 rfl rfl (Gone_ok (at_ xs (k:Int)) nw)) ?_)
   rintro _ _ ⟨_,_,⟨rfl,rfl⟩,rfl,rfl⟩
   refine Ge1 (B1 (α:=Ev) (cs:=[I64 (2),I64 (nw),I64 ((at_ xs (k:Int)).u),I64 ((at_ xs (k:Int)).v),I64 (0),I64 (0),I64 (0)]) (xs:=[⟨2,nw,(at_ xs (k:Int)).u,(at_ xs (k:Int)).v,0,0,0⟩]) A1 ty108 rfl rfl dc dc rfl kr rfl rfl) fun ad7=>?_
   refine Ge2 (B0 (α:=Ev) (e:=108) (xs:=out) (ys:=([⟨2,nw,(at_ xs (k:Int)).u,(at_ xs (k:Int)).v,0,0,0⟩]:List Ev)) A1 ty108 rfl rfl rfl mm Bf lcn dc rfl (fun _ _=>am)) fun ad8 cp9=>?_
   exact Ga rfl (Bc (Ak (Aj (Ar (S6 8 2 7 20 21 22 rfl rfl rfl rfl rfl rfl) (Az (Gr (Rad rfl rfl) (Gm rfl (Bc (B3 ((k+1),(ad8),(cp9),(out++([⟨2,nw,(at_ xs (k:Int)).u,(at_ xs (k:Int)).v,0,0,0⟩]:List Ev))) (by dsimp only;exact ⟨om,(by first|(rw [gone_yes (P:=(fun x:Lk=>decide (IntKind.i64.wrap (nw - x.tm)<wd))) om (decide_eq_false c29),←ho];done)|(rw [gone_yes (P:=(fun x:Lk=>decide (IntKind.i64.wrap (nw - x.tm)<wd))) om (decide_eq_false c29),←ho];rfl)|(rw [gone_no (P:=(fun x:Lk=>decide (IntKind.i64.wrap (nw - x.tm)<wd))) om (decide_eq_true (Classical.not_not.1 c29)),←ho])|(rw [gone_no (P:=(fun x:Lk=>decide (IntKind.i64.wrap (nw - x.tm)<wd))) om rfl,←ho]))⟩))))))))))
  ·exact Aw (Ak (Aj (Az (Gr (Rad rfl rfl) (Gm rfl (Bc (B3 ((k+1),(a),(c),(out)) (by dsimp only;exact ⟨om,(by first|(rw [gone_yes (P:=(fun x:Lk=>decide (IntKind.i64.wrap (nw - x.tm)<wd))) om (decide_eq_false c29),←ho];done)|(rw [gone_yes (P:=(fun x:Lk=>decide (IntKind.i64.wrap (nw - x.tm)<wd))) om (decide_eq_false c29),←ho];rfl)|(rw [gone_no (P:=(fun x:Lk=>decide (IntKind.i64.wrap (nw - x.tm)<wd))) om (decide_eq_true (Classical.not_not.1 c29)),←ho])|(rw [gone_no (P:=(fun x:Lk=>decide (IntKind.i64.wrap (nw - x.tm)<wd))) om rfl,←ho]))⟩))))))))
 ·refine Bs (Am (Am (A6 (Aj (Ai (Gm rfl (Ga rfl (Af (Ax ?_)))))))))
  have hE:out=(goneL 2 wd mo nw xs):=by rw [ho,show List.take k xs=xs from List.take_of_length_le om];unfold goneL;rw [filt_not (P:=(fun x:Lk=>decide (IntKind.i64.wrap (nw - x.tm)<wd))) (inW_age (askE_ok hA) rfl)]
  subst hE
  exact Ay rfl rfl (vc 108 (.slice a (goneL 2 wd mo nw xs).length c) (goneL 2 wd mo nw xs)::I) A5 ⟨a,c,rfl,rfl⟩
theorem Gone3_ok{nd wd mo nw:Int}{a0:Option Addr}{c0:Nat}{xs:List Lk}(hl:Sl κ I (.slice a0 xs.length c0) xs)(hsz:xs.length≤1000000)(hA:askE nd xs 3 wd mo nw=0) :
    CallS Tryz.prog κ 213 [.agg #[I64 (nd),.slice a0 xs.length c0],.agg #[I64 (3),I64 (wd),I64 (mo)],I64 (nw)] I (fun r J=>∃a c,r = .slice a (goneL 3 wd mo nw xs).length c∧J=vc 108 (.slice a (goneL 3 wd mo nw xs).length c) (goneL 3 wd mo nw xs)::I):=by
 refine Ce3 Tryz.func213 rfl rfl ?_
 refine Ai (Ge1 (Bd (cs:=[_,_]) rfl rfl rfl) fun b1=>Ge1 (Bd (cs:=[_,_,_]) rfl rfl rfl) fun b2=>Ga rfl (Af (Au (Bk mixed (Bo (blk b2 [I64 (3),I64 (wd),I64 (mo)] 31::blk b1 [I64 (nd),.slice a0 xs.length c0] 111::I) 9 (Dr 1 rfl (Ab fld31_0 rfl) (Dr 2 rfl (As ty3) ?_)))))))
 refine Dr 4 rfl (Bq (vs:=[_,_]) ty111) ?_
 refine Dr 5 rfl (Bq (vs:=[_,_,_]) ty31) ?_
 refine Dr 6 rfl (Ad rfl) (Ds1 0 (Se rfl (Ap call253 rfl rfl Rules_ok) ?_))
 rintro _ _ ⟨_,_,⟨mr3,rfl,rfl⟩,rfl,rfl⟩
 refine ⟨A5,?_⟩
 refine Ds1 3 (Sr rfl (Runs.lookupK (i:=2) Dv Bm rfl rfl rfl mm rfl) A5 ?_)
 refine Ds1 7 (Se rfl (Cx call298 rfl rfl rfl (Rule3_ok (Bj hl) ((askE_ok hA).most rfl).1 om)) ?_)
 rintro _ _ ⟨_,_,⟨b4,ad5,cp6,ys7,mm8,rfl,hzys7,rfl⟩,rfl,rfl⟩
 refine ⟨A5,?_⟩
 refine Dr 8 rfl (Ba rfl) (Dz (Aj (Ar (S3 7 3 2 rfl rfl rfl) (Ai (Ga rfl (Af (Au (Ai (Gf fld111_1 rfl (Gl ty109 ?_))))))))))
 refine Gr (Bp Aq rfl) (Gm rfl (Af (A4 (Bv (σ:=Nat×(Option Addr)×Nat×(List Ev)) (fun s=>([(2,I64 (nw)),(7,.func (.func 300) #[] #[.pointer (some ⟨b4,0,none⟩)]),(8,.slice s.2.1 s.2.2.2.length s.2.2.1),(20,.slice a0 xs.length c0),(21,I64 (((xs.length:Nat):Int))),(22,I64 (((s.1:Nat):Int)))]:Env)) (fun s=>vc 108 (.slice s.2.1 s.2.2.2.length s.2.2.1) (s.2.2.2)::blk b4 [.slice ad5 (List.take mm8 ys7).length cp6] 109::vc 146 (.slice ad5 xs.length cp6) (ys7)::mp mr3 [({key:=I64 (1),val:= .func (.func 294) #[] #[],born:=0}:MapEntry),({key:=I64 (2),val:= .func (.func 296) #[] #[],born:=1}:MapEntry),({key:=I64 (3),val:= .func (.func 298) #[] #[],born:=2}:MapEntry)] 3::blk b2 [I64 (3),I64 (wd),I64 (mo)] 31::blk b1 [I64 (nd),.slice a0 xs.length c0] 111::I) (fun s=>(s.1≤xs.length)∧(s.2.2.2=((xs.take s.1).filter fun x=> !(fun x:Lk=>decide (x∈List.take mm8 ys7)) x).map (cutEv nw))) (fun s=>xs.length - s.1) (0,none,0,[]) (show ((0:Nat)≤xs.length)∧(([]:List Ev)=((xs.take (0:Nat)).filter fun x=> !(fun x:Lk=>decide (x∈List.take mm8 ys7)) x).map (cutEv nw)) from ⟨om,rfl⟩) (Aa rfl (Aa rfl (Aa (Cp rfl (by first|rfl|simp)) (Aa rfl (Aa rfl (Aa B8 Bg)))))) (show Fit κ _ (vc 108 (.slice (none) ([]).length (0)) (([]))::blk b4 [.slice ad5 (List.take mm8 ys7).length cp6] 109::vc 146 (.slice ad5 xs.length cp6) (ys7)::mp mr3 [({key:=I64 (1),val:= .func (.func 294) #[] #[],born:=0}:MapEntry),({key:=I64 (2),val:= .func (.func 296) #[] #[],born:=1}:MapEntry),({key:=I64 (3),val:= .func (.func 298) #[] #[],born:=2}:MapEntry)] 3::blk b2 [I64 (3),I64 (wd),I64 (mo)] 31::blk b1 [I64 (nd),.slice a0 xs.length c0] 111::I) from (Bw _ _)) ?_))))
 rintro ⟨k,a,c,out⟩ hp
 dsimp only at hp ⊢
 obtain ⟨hk,ho⟩:=hp
 have hol:out.length≤xs.length:=by rw [ho,List.length_map];refine Nat.le_trans (List.length_filter_le _ _) ?_;simp only [List.length_take];omega
 refine Ai (Gr (A9 rfl rfl) (Af (Au (A7 rfl (fun c23=>?_) (fun c23=>?_)))))
 ·refine Aw (Aj (Au (A4 (Ai (Gr (A3 (α:=Lk) (xs:=xs) Aq ty146 rfl rfl (Bj hl) om om) (Gr (Bu (α:=Lk) (xs:=xs) ty146 rfl (Bj hl) om om) (Ge1 (A8 ty146 rfl) fun b9=>Ge0 (D3 ty146) ?_)))))))
  refine Af (Ai (Gm rfl (Gl6 ty146 ?_)))
  refine Gc0 (Cx call300 rfl rfl rfl (Last1_ok (Ci mm) (Sl.take Bf om) (at_ xs (k:Int)))) ?_
  refine Gr (Cw rfl) (Af (Ar (S8 29 10 2 7 8 20 21 22 rfl rfl rfl rfl rfl rfl rfl rfl) (A7 rfl (fun c29=>?_) (fun c29=>?_))))
  ·refine Az (Gm rfl (Gl6 ty146 ?_))
   refine Gm rfl (G.e (Ap call254 rfl rfl (Gone_ok (at_ xs (k:Int)) nw)) ?_)
   rintro _ _ ⟨_,_,⟨rfl,rfl⟩,rfl,rfl⟩
   refine Ge1 (B1 (α:=Ev) (cs:=[I64 (2),I64 (nw),I64 ((at_ xs (k:Int)).u),I64 ((at_ xs (k:Int)).v),I64 (0),I64 (0),I64 (0)]) (xs:=[⟨2,nw,(at_ xs (k:Int)).u,(at_ xs (k:Int)).v,0,0,0⟩]) A1 ty108 rfl rfl dc dc rfl kr rfl rfl) fun ad10=>?_
   refine Ge2 (B0 (α:=Ev) (e:=108) (xs:=out) (ys:=([⟨2,nw,(at_ xs (k:Int)).u,(at_ xs (k:Int)).v,0,0,0⟩]:List Ev)) A1 ty108 rfl rfl rfl mm Bf lcn dc rfl (fun _ _=>am)) fun ad11 cp12=>?_
   exact Ga rfl (Bc (Ak (Aj (Ar (S6 8 2 7 20 21 22 rfl rfl rfl rfl rfl rfl) (Az (Gr (Rad rfl rfl) (Gm rfl (Bc (B3 ((k+1),(ad11),(cp12),(out++([⟨2,nw,(at_ xs (k:Int)).u,(at_ xs (k:Int)).v,0,0,0⟩]:List Ev))) (by dsimp only;exact ⟨om,(by first|(rw [gone_yes (P:=(fun x:Lk=>decide (x∈List.take mm8 ys7))) om (decide_eq_false c29),←ho];done)|(rw [gone_yes (P:=(fun x:Lk=>decide (x∈List.take mm8 ys7))) om (decide_eq_false c29),←ho];rfl)|(rw [gone_no (P:=(fun x:Lk=>decide (x∈List.take mm8 ys7))) om (decide_eq_true (Classical.not_not.1 c29)),←ho])|(rw [gone_no (P:=(fun x:Lk=>decide (x∈List.take mm8 ys7))) om rfl,←ho]))⟩))))))))))
  ·exact Aw (Ak (Aj (Az (Gr (Rad rfl rfl) (Gm rfl (Bc (B3 ((k+1),(a),(c),(out)) (by dsimp only;exact ⟨om,(by first|(rw [gone_yes (P:=(fun x:Lk=>decide (x∈List.take mm8 ys7))) om (decide_eq_false c29),←ho];done)|(rw [gone_yes (P:=(fun x:Lk=>decide (x∈List.take mm8 ys7))) om (decide_eq_false c29),←ho];rfl)|(rw [gone_no (P:=(fun x:Lk=>decide (x∈List.take mm8 ys7))) om (decide_eq_true (Classical.not_not.1 c29)),←ho])|(rw [gone_no (P:=(fun x:Lk=>decide (x∈List.take mm8 ys7))) om rfl,←ho]))⟩))))))))
 ·refine Bs (Am (Am (A6 (Aj (Ai (Gm rfl (Ga rfl (Af (Ax ?_)))))))))
  have hE:out=(goneL 3 wd mo nw xs):=by rw [ho,show List.take k xs=xs from List.take_of_length_le om];unfold goneL;rw [filt_not (P:=(fun x:Lk=>decide (x∈List.take mm8 ys7))) (inW_last (askE_ok hA) rfl hzys7)]
  subst hE
  exact Ay rfl rfl (vc 108 (.slice a (goneL 3 wd mo nw xs).length c) (goneL 3 wd mo nw xs)::I) A5 ⟨a,c,rfl,rfl⟩
theorem GoneP_ok{nd kd wd mo nw:Int}{a0:Option Addr}{c0:Nat}{xs:List Lk}(hl:Sl κ I (.slice a0 xs.length c0) xs)(hsz:xs.length≤1000000)(hA:askE nd xs kd wd mo nw=0) :
  CallS Tryz.prog κ 213 [.agg #[I64 (nd),.slice a0 xs.length c0],.agg #[I64 (kd),I64 (wd),I64 (mo)],I64 (nw)] I fun r J=>∃a c,r = .slice a (goneL kd wd mo nw xs).length c∧J=vc 108 (.slice a (goneL kd wd mo nw xs).length c) (goneL kd wd mo nw xs)::I:=by
 have hk:=(askE_ok hA).kind
 rcases (by omega:kd=1∨kd=2∨kd=3) with rfl|rfl|rfl
 ·exact Gone1_ok hl hsz hA
 ·exact Gone2_ok hl hsz hA
 ·exact Gone3_ok hl hsz hA
theorem Expired7_ok{κ:Ctx}{I:List Item}{nd kd wd mo nw:Int}{a0:Option Addr}{c0:Nat}{xs:List Lk}(hl:Sl κ I (.slice a0 xs.length c0) xs)(hsz:xs.length≤1000000) :
    CallS Tryz.prog κ 161 [.agg #[I64 (nd),.slice a0 xs.length c0],.agg #[I64 (kd),I64 (wd),I64 (mo)],I64 (nw)] I (fun r J=>(askE nd xs kd wd mo nw≠0∧r = .tuple #[.slice none 0 0,I64 (askE nd xs kd wd mo nw)]∧I=J)∨(∃a c,askE nd xs kd wd mo nw=0∧r = .tuple #[.slice a (goneL kd wd mo nw xs).length c,I64 0]∧J=vc 108 (.slice a (goneL kd wd mo nw xs).length c) (goneL kd wd mo nw xs)::I)):=by
 refine Ce3 Tryz.func161 rfl rfl ?_
 refine Ai (Ge1 (Bd (cs:=[_,_]) rfl rfl rfl) fun b1=>Ge1 (Bd (cs:=[_,_,_]) rfl rfl rfl) fun b2=>Ga rfl (Ga rfl (Af (Au (Ai (Gl2 ty111 ?_))))))
 refine Gl3 ty31 ?_
 refine Gm rfl (Gc0 (Ap call131 rfl rfl (Wrong_ok (nd:=nd) (kd:=kd) (wd:=wd) (mo:=mo) (nw:=nw) (Bj hl))) ?_)
 refine Ga rfl (Af (Ai (Gm rfl (Gr (Be rfl rfl) (Af (Ar (S5 17 8 4 3 2 rfl rfl rfl rfl rfl) (A7 rfl (fun c17=>?_) (fun c17=>?_))))))))
 ·exact Ai (Gm rfl (Ga rfl (Ga rfl (Af (Ax (Ah (Cl rfl rfl rfl (I) A0 (.inl ⟨c17,rfl,rfl⟩))))))))
 ·refine Aw (Aj (Ai (Ga rfl (Af (Au (Ai (Gf fld111_1 rfl (Gl ty109 ?_))))))))
  refine Gr (Bp Aq rfl) (Gm rfl (Af (A4 (Bv (σ:=Nat×(Option Addr)×Nat×(List Ev)) (fun s=>([(2,I64 (nw)),(3,.pointer (some ⟨b1,0,none⟩)),(4,.pointer (some ⟨b2,0,none⟩)),(9,.slice s.2.1 s.2.2.2.length s.2.2.1),(20,.slice a0 xs.length c0),(21,I64 (((xs.length:Nat):Int))),(22,I64 (((s.1:Nat):Int)))]:Env)) (fun s=>vc 108 (.slice s.2.1 s.2.2.2.length s.2.2.1) (s.2.2.2)::blk b2 [I64 (kd),I64 (wd),I64 (mo)] 31::blk b1 [I64 (nd),.slice a0 xs.length c0] 111::I) (fun s=>(s.1≤xs.length)∧(s.2.2.2=((xs.take s.1).filter fun x=> !(inW kd wd mo nw xs) x).map (cutEv nw))) (fun s=>xs.length - s.1) (0,none,0,[]) (show ((0:Nat)≤xs.length)∧(([]:List Ev)=((xs.take (0:Nat)).filter fun x=> !(inW kd wd mo nw xs) x).map (cutEv nw)) from ⟨om,rfl⟩) (Aa rfl (Aa rfl (Aa rfl (Aa (Cp rfl (by first|rfl|simp)) (Aa rfl (Aa rfl (Aa B8 Bg))))))) (show Fit κ _ (vc 108 (.slice (none) ([]).length (0)) (([]))::blk b2 [I64 (kd),I64 (wd),I64 (mo)] 31::blk b1 [I64 (nd),.slice a0 xs.length c0] 111::I) from (Bw _ _)) ?_))))
  rintro ⟨k,a,c,out⟩ hp
  dsimp only at hp ⊢
  obtain ⟨hk,ho⟩:=hp
  have hol:out.length≤xs.length:=by rw [ho,List.length_map];refine Nat.le_trans (List.length_filter_le _ _) ?_;simp only [List.length_take];omega
  refine Ai (Gr (A9 rfl rfl) (Af (Au (A7 rfl (fun c23=>?_) (fun c23=>?_)))))
  ·refine Aw (Aj (Au (A4 (Ai (Gm rfl (Gr (A3 (α:=Lk) (xs:=xs) Aq ty146 rfl rfl (Bj hl) om om) (Gr (Bu (α:=Lk) (xs:=xs) ty146 rfl (Bj hl) om om) (Ge1 (A8 ty146 rfl) fun b3=>Ga rfl (Ge0 (D3 ty146) ?_)))))))))
   refine Af (Ai (Gl2 ty111 ?_))
   refine Gl3 ty31 ?_
   refine Gm rfl (Gm rfl (Gc0 (Ap call132 rfl rfl (In7_ok (nd:=nd) (Bj hl) (i:=k) om (askE_ok (Classical.not_not.1 c17)))) ?_))
   refine Gr (Cu rfl) (Af (Ar (S9 32 11 2 3 4 9 20 21 22 rfl rfl rfl rfl rfl rfl rfl rfl rfl) (Ek rfl (fun c32=>?_) (fun c32=>?_))))
   ·refine Az (Gm rfl (Gl6 ty146 ?_))
    refine Gm rfl (Gc0 (Ap call164 rfl rfl (Cut5_ok (at_ xs (k:Int)) nw)) ?_)
    refine Ge1 (B1 (α:=Ev) (cs:=[I64 (2),I64 (nw),I64 ((at_ xs (k:Int)).u),I64 ((at_ xs (k:Int)).v),I64 (0),I64 (0),I64 (0)]) (xs:=[⟨2,nw,(at_ xs (k:Int)).u,(at_ xs (k:Int)).v,0,0,0⟩]) A1 ty108 rfl rfl dc dc rfl kr rfl rfl) fun ad4=>?_
    refine Ge2 (B0 (α:=Ev) (e:=108) (xs:=out) (ys:=([⟨2,nw,(at_ xs (k:Int)).u,(at_ xs (k:Int)).v,0,0,0⟩]:List Ev)) A1 ty108 rfl rfl rfl mm Bf lcn dc rfl (fun _ _=>am)) fun ad5 cp6=>?_
    exact Ga rfl (Bc (Ak (Aj (Ar (S7 9 2 3 4 20 21 22 rfl rfl rfl rfl rfl rfl rfl) (Az (Gr (Rad rfl rfl) (Gm rfl (Bc (B3 ((k+1),(ad5),(cp6),(out++([⟨2,nw,(at_ xs (k:Int)).u,(at_ xs (k:Int)).v,0,0,0⟩]:List Ev))) (by dsimp only;exact ⟨om,(by first|(rw [gone_yes (P:=(inW kd wd mo nw xs)) om (by simpa using c32),←ho];done)|(rw [gone_yes (P:=(inW kd wd mo nw xs)) om (by simpa using c32),←ho];rfl)|(rw [gone_no (P:=(inW kd wd mo nw xs)) om (by simpa using c32),←ho]))⟩))))))))))
   ·exact Aw (Ak (Aj (Az (Gr (Rad rfl rfl) (Gm rfl (Bc (B3 ((k+1),(a),(c),(out)) (by dsimp only;exact ⟨om,(by first|(rw [gone_yes (P:=(inW kd wd mo nw xs)) om (by simpa using c32),←ho];done)|(rw [gone_yes (P:=(inW kd wd mo nw xs)) om (by simpa using c32),←ho];rfl)|(rw [gone_no (P:=(inW kd wd mo nw xs)) om (by simpa using c32),←ho]))⟩))))))))
  ·refine Bs (Am (Am (A6 (Aj (Ai (Gm rfl (Ga rfl (Ga rfl (Af (Ax ?_))))))))))
   have hE:out=(goneL kd wd mo nw xs):=by rw [ho,show List.take k xs=xs from List.take_of_length_le om];rfl
   subst hE
   exact Cl rfl rfl rfl (vc 108 (.slice a (goneL kd wd mo nw xs).length c) (goneL kd wd mo nw xs)::I) A5 (.inr ⟨a,c,Classical.not_not.1 c17,rfl,rfl⟩)
variable {κ:Ctx}{I:List Item}
theorem checkW_wd{kd wd mo:Int}(h:checkW kd wd mo=0):0≤wd∧wd≤1048576:=by
 unfold checkW at h
 split at h
 ·cases h
 ·split at h
  ·cases h
  ·omega
theorem checkS_tm{nd:Int}{xs:List Lk}(h:checkS nd xs=0):∀i:Int,0≤i→i<xs.length→0≤(at_ xs i).tm∧(at_ xs i).tm≤1048576:=fun i h0 h1=>badL_tm ((checkS_ok h).2.1 _ (Cf h0 h1))
def uErr(nd:Int)(xs:List Lk)(kd wd mo:Int):Int:=if checkW kd wd mo≠0 then checkW kd wd mo else checkS nd xs
def untilC(nd:Int)(xs:List Lk)(kd wd mo:Int):Prop:=uErr nd xs kd wd mo=0∧kd=2∧xs≠[]
instance (nd:Int) (xs:List Lk) (kd wd mo:Int):Decidable (untilC nd xs kd wd mo):=by unfold untilC;infer_instance
structure UntilP (nd:Int) (xs:List Lk) (kd wd mo z:Int):Prop where
 yes:untilC nd xs kd wd mo→(∃x∈xs,z=x.tm+wd)∧∀y∈xs,z≤y.tm+wd
 no:¬untilC nd xs kd wd mo→z=0
def tmC(a c:Lk):Int:=cmpI a.tm c.tm
theorem tmC_lt(a c:Lk):tmC a c<0↔a.tm<c.tm:=by unfold tmC cmpI;split<;>(try split)<;>omega
theorem FirstC_ok(a c:Lk) :
    CallS Tryz.prog κ 293 [.agg #[I64 (a.u),I64 (a.v),I64 (a.w),I64 (a.lb),I64 (a.sg),I64 (a.tm)],.agg #[I64 (c.u),I64 (c.v),I64 (c.w),I64 (c.lb),I64 (c.sg),I64 (c.tm)]] I (fun r J=>r=I64 (tmC a c)∧I=J):=by
 refine Ce2 Tryz.func293 rfl rfl ?_
 refine Ai (Ge1 (Bd (cs:=[_,_,_,_,_,_]) rfl rfl rfl) fun b1=>Ge1 (Bd (cs:=[_,_,_,_,_,_]) rfl rfl rfl) fun b2=>Ga rfl (Af (Ai (Gf fld146_5 rfl (Gl ty3 ?_)))))
 refine Gf fld146_5 rfl (Gl ty3 ?_)
 refine Gc0 (Ap call225 rfl rfl (Compare_ok a.tm c.tm)) ?_
 exact Ga rfl (Af (Ax (Ay rfl rfl (I) A0 ⟨rfl,rfl⟩)))
theorem FirstC_cmps:Cmps Tryz.prog κ I 293 [] tmC:=⟨call293,fun x y J hf=>FirstC_ok x y⟩
theorem MinF_ok{v:Value}{xs:List Lk}(hl:Sl κ I v xs)(hne:0<xs.length){g:FuncId}{cp_:List Value}(hcb:Cmps Tryz.prog κ I g cp_ tmC) :
    CallS Tryz.prog κ 292 [v,.func (.func g) #[] cp_.toArray] I (fun r J=>∃x:Lk,r = .agg #[I64 x.u,I64 x.v,I64 x.w,I64 x.lb,I64 x.sg,I64 x.tm]∧(x∈xs∧∀y∈xs,x.tm≤y.tm)∧I=J):=by
 refine B4 hl.le fun hmax=>?_
 refine Ce2 Tryz.func292 rfl rfl ?_
 refine Ai (Ge1 (A8 ty146 rfl) fun b1=>Af (Au (Ai (Gm rfl (Gr (Bx (α:=Lk) (xs:=xs) Aq rfl (Bj hl)) (Gr (A9 rfl rfl) (Af (A7 rfl (fun c9=>?_) (fun c9=>?_)))))))))
 ·exact absurd hne om
 ·refine Aw (Aj (Ai (Gm rfl (Gr (A3 (α:=Lk) (xs:=xs) Aq ty146 rfl rfl (Bj hl) om om) (Gr (Bu (α:=Lk) (xs:=xs) ty146 rfl (Bj hl) om om) (Ge1 (A8 ty146 rfl) fun b2=>Ge0 (D3 ty146) ?_))))))
  refine Af (Au (Ai (Ga rfl (Af (A4 (Bv (σ:=Nat×Lk) (fun s=>([(0,v),(1,.func (.func g) #[] cp_.toArray),(4,.pointer (some ⟨b1,0,none⟩)),(5,.pointer (some ⟨b2,0,none⟩)),(6,I64 (((s.1:Nat):Int)))]:Env)) (fun s=>blk b2 [I64 (s.2.u),I64 (s.2.v),I64 (s.2.w),I64 (s.2.lb),I64 (s.2.sg),I64 (s.2.tm)] 146::blk b1 [I64 (0),I64 (0),I64 (0),I64 (0),I64 (0),I64 (0)] 146::I) (fun s=>(1≤s.1∧s.1≤xs.length)∧(s.2∈xs)∧(∀j,j<s.1→s.2.tm≤(at_ xs (j:Int)).tm)) (fun s=>xs.length - s.1) (1,at_ xs (0:Int)) (show (1≤(1:Nat)∧(1:Nat)≤xs.length)∧((at_ xs (0:Int):Lk)∈xs)∧(∀j,j<(1:Nat)→(at_ xs (0:Int):Lk).tm≤(at_ xs (j:Int)).tm) from ⟨om,(Cf om om),(fun j hj=>by rw [show j=0 by omega];exact Int.le_refl _)⟩) (Aa rfl (Aa rfl (Aa rfl (Aa rfl (Aa B8 Bg))))) (show Fit κ _ (blk b2 [I64 ((at_ xs (0:Int)).u),I64 ((at_ xs (0:Int)).v),I64 ((at_ xs (0:Int)).w),I64 ((at_ xs (0:Int)).lb),I64 ((at_ xs (0:Int)).sg),I64 ((at_ xs (0:Int)).tm)] 146::blk b1 [I64 (0),I64 (0),I64 (0),I64 (0),I64 (0),I64 (0)] 146::I) from A5) ?_))))))
  rintro ⟨k,m⟩ hp
  dsimp only at hp ⊢
  obtain ⟨hk,hm,hn⟩:=hp
  refine Au (Ai (Gm rfl (Gm rfl (Gr (Bx (α:=Lk) (xs:=xs) Aq rfl (Bj hl)) (Gr (A9 rfl rfl) (Af (A7 rfl (fun c17=>?_) (fun c17=>?_))))))))
  ·refine Aw (Aj (Au (A4 (Au (Bk mixed (Bo (blk b2 [I64 (m.u),I64 (m.v),I64 (m.w),I64 (m.lb),I64 (m.sg),I64 (m.tm)] 146::blk b1 [I64 (0),I64 (0),I64 (0),I64 (0),I64 (0),I64 (0)] 146::I) 8 (Dr 0 rfl (Ad rfl) (Dr 1 rfl (Ad rfl) (Dr 2 rfl (Ad rfl) (Dr 3 rfl (A3 (α:=Lk) (xs:=xs) Aq ty146 rfl rfl (Bj hl) om om) (Dr 4 rfl (Bu (α:=Lk) (xs:=xs) ty146 rfl (Bj hl) om om) (Dr 5 rfl (Bq (vs:=[_,_,_,_,_,_]) ty146) ?_))))))))))))
   refine Ds1 6 (Se rfl (Cx hcb.1 (first:=[]) (caps:=cp_) rfl rfl rfl (hcb.2 (at_ xs (k:Int)) m _ A0)) ?_)
   rintro _ _ ⟨_,_,⟨rfl,rfl⟩,rfl,rfl⟩
   refine ⟨A5,?_⟩
   refine Dr 7 rfl (A9 rfl rfl) (Dz (Aj (Ar (S6 27 0 1 4 5 6 rfl rfl rfl rfl rfl rfl) (A7 rfl (fun c27=>?_) (fun c27=>?_)))))
   ·refine Az (Gm rfl (Gm rfl (Gr (A3 (α:=Lk) (xs:=xs) Aq ty146 rfl rfl (Bj hl) om om) (Gr (Bu (α:=Lk) (xs:=xs) ty146 rfl (Bj hl) om om) (Ge0 (D3 ty146) ?_)))))
    exact Bc (Ak (Aj (Az (Gm rfl (Gr (Rad rfl rfl) (Ga rfl (Bc (B3 ((k+1),(at_ xs (k:Int))) (by dsimp only;exact ⟨om,(by first|exact hm|exact Cf om om),(Di (fun j hj=>by have hnj:=hn j hj;first|exact hnj|(have hlt:=(tmC_lt _ _).1 c27;omega)) (by first|exact Int.le_refl _|(have hge:=mt (tmC_lt (at_ xs (k:Int)) m).2 c27;omega)))⟩)))))))))
   ·exact Aw (Ak (Aj (Az (Gm rfl (Gr (Rad rfl rfl) (Ga rfl (Bc (B3 ((k+1),(m)) (by dsimp only;exact ⟨om,(by first|exact hm|exact Cf om om),(Di (fun j hj=>by have hnj:=hn j hj;first|exact hnj|(have hlt:=(tmC_lt _ _).1 c27;omega)) (by first|exact Int.le_refl _|(have hge:=mt (tmC_lt (at_ xs (k:Int)) m).2 c27;omega)))⟩)))))))))
  ·refine Bs (Am (Am (A6 (Aj (Ai (Gl6 ty146 ?_))))))
   refine Ge0 (D3 ty146) ?_
   exact Af (Ax (D1 rfl ty146 rfl mm rfl (I) A0 ⟨m,rfl,⟨hm,fun y hy=>by obtain ⟨j,hj,rfl⟩:=Ei hy;exact hn j om⟩,rfl⟩))
end Go.Sl
