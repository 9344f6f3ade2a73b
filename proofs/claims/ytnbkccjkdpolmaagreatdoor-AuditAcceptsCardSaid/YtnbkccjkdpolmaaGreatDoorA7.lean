/- A part of the proofs of statements of this seat: contracts of functions, and the plain laws that they lean on. No conditions. -/
import Derived.Test.YtnbkccjkdpolmaaGreatDoorA6
set_option linter.unusedVariables false
set_option linter.unusedSimpArgs false
set_option linter.unusedSectionVars false
/- Windows: what is present. The plain laws. No Go. No conditions. -/
open Go.Proofs.Tryz (prog)
namespace Go.Sl
variable{kd mo n nd nw wd:Int}{xs ys:List Lk}
theorem scan0:∀(xs:List Lk) (q:Lk),scanL (badL n) Lk.lt (some q) xs=0->(∀x∈xs,badL n x=0)/\(q::xs).Pairwise Lk.lt
 |[],q,_=>by simp
 |p::ps,q,h=>by
  simp only [scanL] at h
  by_cases hb:badL n p=0
  ·rw [if_neg (by simp [hb])] at h
   by_cases hl:Lk.lt q p
   ·rw [if_pos hl] at h
    obtain ⟨h1,M⟩:=scan0 ps p h
    refine ⟨λx hx=>?_,List.pairwise_cons.2 ⟨λx hx=>?_,M⟩⟩
    ·rcases List.mem_cons.1 hx with rfl|hx
     ·exact hb
     exact h1 x hx
    rcases List.mem_cons.1 hx with rfl|hx
    ·exact hl
    exact Pt.lin.tr _ _ _ hl<|(List.pairwise_cons.1 M).1 x hx
   rw [if_neg hl] at h;cases h
  rw [if_pos hb] at h;exact absurd h hb
theorem checkS_ok(h:checkS n xs=0):(0<=n/\n<=64)/\(∀x∈xs,badL n x=0)/\xs.Pairwise Lk.lt:=by
 unfold checkS at h
 by_cases hn:n<0\/64<n
 ·rw [if_pos hn] at h;cases h
 rw [if_neg hn] at h
 refine ⟨by omega,?_⟩
 cases xs with
 |nil=>exact ⟨(λx hx=>by cases hx),List.Pairwise.nil⟩
 |cons p ps=>
  simp only [scanL] at h
  by_cases hb:badL n p=0
  ·rw [if_neg (by simp [hb])] at h
   obtain ⟨h1,M⟩:=scan0 ps p h
   exact ⟨λx hx=>by
    rcases List.mem_cons.1 hx with rfl|hx
    ·exact hb
    exact h1 x hx,M⟩
  rw [if_pos hb] at h;exact absurd h hb
theorem badL_tm{l:Lk}(h:badL n l=0):0<=l.tm/\l.tm<=1048576:=by
 unfold badL at h
 split at h
 ·cases h
 split at h
 ·cases h
 split at h
 ·cases h
 omega
structure AskOk (nd:Int) (xs:List Lk) (kd wd mo nw:Int):Prop where
 kind:1<=kd/\kd<=3
 width:kd=2->1<=wd/\wd<=1048576
 most:kd=3->0<=mo/\mo<=2016
 nodes:0<=nd/\nd<=64
 asc:xs.Pairwise Lk.lt
 now:0<=nw/\nw<=1048576
 tm:∀x∈xs,0<=x.tm/\x.tm<=nw
theorem askE_ok(h:askE nd xs kd wd mo nw=0):AskOk nd xs kd wd mo nw:=by
 unfold askE at h
 by_cases h1:checkW kd wd mo=0
 ·rw [if_neg (by simp [h1])] at h
  by_cases h2:checkS nd xs=0
  ·rw [if_neg (by simp [h2])] at h
   obtain ⟨h3,h4,h5⟩:=checkS_ok h2
   split at h
   ·cases h
   rename_i h6
   have M:(1<=kd/\kd<=3)/\(kd=2->1<=wd/\wd<=1048576)/\(kd=3->0<=mo/\mo<=2016):=by
    unfold checkW at h1
    split at h1
    ·cases h1
    split at h1
    ·cases h1
    omega
   refine ⟨M.1,M.2.1,M.2.2,h3,h5,by omega,λx hx=>?_⟩
   have h7:=badL_tm (h4 x hx)
   refine ⟨h7.1,?_⟩
   by_cases h8:nw<x.tm
   ·exact absurd (.inr<|.inr<|List.any_eq_true.2 ⟨x,hx,decide_eq_true h8⟩) h6
   omega
  rw [if_pos h2] at h;exact absurd h h2
 rw [if_pos h1] at h;exact absurd h h1
def rankL(xs:List Lk)(x:Lk):Nat:=(xs.filter λy=>decide (Lk.late y x)).length
def inW(kd wd mo nw:Int)(xs:List Lk)(x:Lk):Bool:=if kd=2 then decide (nw - x.tm<wd) else if kd=3 then decide ((rankL xs x:Int)<mo) else true
theorem late_irr(x:Lk):¬Lk.late x x:=by unfold Lk.late Lk.lt Pt.lt;omega
theorem late_asymm{x y:Lk}(h:Lk.late x y):¬Lk.late y x:=by unfold Lk.late Lk.lt Pt.lt at *; omega
theorem rank_at:∀(ys:List Lk) (i:Nat) (hi:i<ys.length),ys.Pairwise Lk.late->rankL ys ys[i]=i
 |[],i,hi,_=>absurd hi (by simp)
 |y::ys,0,hi,hp=>by
  obtain ⟨h1,h2⟩:=List.pairwise_cons.1 hp
  unfold rankL
  rw [List.filter_eq_nil_iff.2 λz hz=>?_]
  ·rfl
  simp only [List.getElem_cons_zero,decide_eq_true_eq]
  rcases List.mem_cons.1 hz with rfl|hz
  ·exact late_irr _
  exact late_asymm<|h1 z hz
 |y::ys,i+1,hi,hp=>by
  obtain ⟨h1,h2⟩:=List.pairwise_cons.1 hp
  have M:i<ys.length:=by simpa using hi
  have ih:=rank_at ys i M h2
  unfold rankL at ih ⊢
  rw [List.getElem_cons_succ,List.filter_cons,if_pos<|decide_eq_true<|h1 _<|List.getElem_mem M,List.length_cons,ih]
theorem sortedK_late(h:SortedK xs ys)(ha:xs.Pairwise Lk.lt):ys.Pairwise Lk.late:=by
 have h1:xs.Pairwise λa b=>Lk.late a b\/Lk.late b a:=ha.imp fun {a b} M=>by unfold Lk.late Lk.lt Pt.lt at *; omega
 have h2:ys.Pairwise λa b=>Lk.late a b\/Lk.late b a:=(h.1.pairwise_iff fun {x y} aa=>aa.symm).2 h1
 exact (h2.and h.2).imp fun {a b} M=>M.1.resolve_right M.2
theorem take_rank(h:SortedK xs ys)(ha:xs.Pairwise Lk.lt){x:Lk}(hx:x∈xs)(m:Nat):x∈ys.take m↔rankL xs x<m:=by
 have hp:=sortedK_late h ha
 have hr:∀z,rankL xs z=rankL ys z:=λz=>by unfold rankL;exact ((h.1.filter _).length_eq).symm
 constructor
 ·intro hm
  obtain ⟨j,hj,M⟩:=List.mem_take_iff_getElem.1 hm
  rw [hr,←M,rank_at ys j om hp];omega
 intro hm
 obtain ⟨j,hj,M⟩:=List.getElem_of_mem (h.1.mem_iff.2 hx)
 rw [hr,←M,rank_at ys j hj hp] at hm
 exact List.mem_take_iff_getElem.2 ⟨j,by omega,M⟩
theorem inW_all(hk:kd=1):(xs.filter λ_=>true)=xs.filter (inW kd wd mo nw xs):=
 List.filter_congr λx M=>by unfold inW;rw [if_neg om,if_neg om]
theorem inW_age(h:AskOk nd xs kd wd mo nw)(hk:kd=2):(xs.filter λx=>decide (IntKind.i64.wrap (nw - x.tm)<wd))=xs.filter (inW kd wd mo nw xs):=
 List.filter_congr λx M=>by
  have h1:=h.tm x M
  have h2:=h.now
  unfold inW;rw [if_pos hk,InR.wrap<|by unfold InR;omega]
theorem inW_last{m:Nat}(h:AskOk nd xs kd wd mo nw)(hk:kd=3)(hs:SortedK xs ys/\ys.length=xs.length/\(m:Int)<=mo/\m<=xs.length/\((m:Int)=mo\/m=xs.length)) :
  (xs.filter λx=>decide<|x∈ys.take m)=xs.filter (inW kd wd mo nw xs):=
 List.filter_congr λx M=>by
  unfold inW;rw [if_neg om,if_pos hk,decide_eq_decide,take_rank hs.1 h.asc M]
  have hlt:rankL xs x<xs.length:=by
   have h1:=List.length_filter_le (λy=>decide<|Lk.late y x) xs
   obtain ⟨j,hj,he⟩:=List.getElem_of_mem (hs.1.1.mem_iff.2 M)
   have h2:rankL xs x=j:=by
    have:rankL xs x=rankL ys x:=by unfold rankL;exact ((hs.1.1.filter _).length_eq).symm
    rw [this,←he,rank_at ys j hj<|sortedK_late hs.1 h.asc]
   omega
  omega
end Go.Sl
namespace Go.Sl
open Go.Proofs
set_option maxRecDepth 4000

end Go.Sl
namespace Go.Sl
open Go.Proofs
set_option maxRecDepth 4000
variable{xs:List Lk}{c0 k:Nat}{mo nd nw wd:Int}{a0:Option Addr}
variable {κ:Ctx}{I:List Item}
attribute [local irreducible] W G V D A Runs Eff
def cutEv(nw:Int)(l:Lk):Ev:=⟨2,nw,l.u,l.v,0,0,0⟩
theorem gone_yes{P:Lk->Bool}{f:Lk->Ev}(M:k<xs.length)(h:P (e_ xs k)=false):((xs.take (k+1)).filter λx=> !P x).map f=((xs.take k).filter λx=> !P x).map f++[f (e_ xs k)]:=by
 rw [Ct xs k M,List.filter_append,List.map_append];simp [h]
theorem gone_no{P:Lk->Bool}{f:Lk->Ev}(M:k<xs.length)(h:P (e_ xs k)=true):((xs.take (k+1)).filter λx=> !P x).map f=((xs.take k).filter λx=> !P x).map f:=by
 rw [Ct xs k M,List.filter_append,List.map_append];simp [h]
theorem filt_not{P R:Lk->Bool}(h:xs.filter P=xs.filter R):(xs.filter λx=> !P x)=xs.filter λx=> !R x:=
 List.filter_congr λx hx=>by
  have M:x∈xs.filter P↔x∈xs.filter R:=by rw [h]
  rw [List.mem_filter,List.mem_filter] at M
  simp only [hx,true_and] at M
  cases hp:P x<;>cases hr:R x<;>simp_all
def goneL(kd wd mo nw:Int)(xs:List Lk):List Ev:=(xs.filter λx=> !inW kd wd mo nw xs x).map (cutEv nw)
theorem Gone_ok(l:Lk)(nw:Int):eu prog κ 241 [.agg #[e7 (l.u),e7 (l.v),e7 (l.w),e7 (l.lb),e7 (l.sg),e7 (l.tm)],e7 nw] I (λr J=>r = .agg #[e7 2,e7 nw,e7 l.u,e7 l.v,e7 0,e7 0,e7 0]/\I=J):=by
 refine Ce2 Tryz.func241 C C ?_
 refine Ar<|Ge1 (Al (cs:=[_,_,_,_,_,_]) C C C) λb1=>Ge1 (Am ty63 C) λM=>Z ?_
 refine Ge0 (Fj ty63) ?_
 exact As<|Bf<|B0 C ty63 C mm C I Ah ⟨rfl,rfl⟩
theorem Gone1_ok(hl:Sl κ I (.slice a0 xs.length c0) xs)(aa:xs.length<=1000000)(hA:askE nd xs 1 wd mo nw=0):eu prog κ 205 [.agg #[e7 nd,.slice a0 xs.length c0],.agg #[e7 1,e7 wd,e7 mo],e7 nw] I (λr J=>∃a c,r = .slice a (goneL 1 wd mo nw xs).length c/\J=vc 63 (.slice a (goneL 1 wd mo nw xs).length c) (goneL 1 wd mo nw xs)::I):=by
 refine Ce3 Tryz.func205 C C ?_
 refine Ar<|Ge1 (Al (cs:=[_,_]) C C C) λb1=>Ge1 (Al (cs:=[_,_,_]) C C C) λb2=>Ga C<|As<|A5<|A4 mixed<|Cr 9<|Dr 1 C (Ad fld31_0 C)<|Z ?_
 refine Ds1 0<|Se C (Ac c_ C C Rules_ok) ?_
 rintro _ _ ⟨_,_,⟨ab,rfl,rfl⟩,rfl,rfl⟩
 refine ⟨Aj,?_⟩
 refine Ds1 3<|Sr C (Di (i:=0) Ei Bd C C C mm C) Aj ?_
 refine Ds1 7<|Se C (Cu c_ C C C Rule1_ok) ?_
 rintro _ _ ⟨_,_,⟨rfl,rfl⟩,rfl,rfl⟩
 refine ⟨Aj,?_⟩
 refine Z ?_
 refine D7 (σ:=Nat×(Option Addr)×Nat×(List Ev)) (λs=>[(8,.slice s.2.1 s.2.2.2.length s.2.2.1),(22,e7 ((s.1:Nat):Int))]) (λs=>[vc 63 (.slice s.2.1 s.2.2.2.length s.2.2.1) (s.2.2.2)]) (λs=>(s.1<=xs.length)/\(s.2.2.2=((xs.take s.1).filter λx=> !(λ_:Lk=>true) x).map (cutEv nw))) (λs=>xs.length - s.1) (0,none,0,[]) ⟨om,rfl⟩ (hI:=(Bw _ _)) ?_
 rintro ⟨k,a,c,out⟩ hp
 dsimp only at hp ⊢
 obtain ⟨hk,ho⟩:=hp
 have ad:out.length<=xs.length:=by rw [ho,List.length_map];refine Nat.le_trans (List.length_filter_le _ _) ?_;simp only [List.length_take];omega
 refine Z ?_
 refine Ap C (λM=>Z ?_)<|λM=>Z ?_
 ·refine Ge1 (Am ty192 C) λb4=>Ge0 (E9 ty192) (Z ?_)
  refine Gc0 (Cu c_ C C C<|All1_ok<|e_ xs k)<|Z ?_
  exact B5 ((k+1),(a),(c),(out))<|by dsimp only;exact ⟨om,(by first|(rw [gone_yes (P:=(λ_:Lk=>true)) om (decide_eq_false c29),←ho];done)|(rw [gone_yes (P:=(λ_:Lk=>true)) om (decide_eq_false c29),←ho];rfl)|(rw [gone_no (P:=(λ_:Lk=>true)) om (decide_eq_true<|Classical.not_not.1 c29),←ho])|(rw [gone_no (P:=(λ_:Lk=>true)) om rfl,←ho]))⟩
 have hE:out=(goneL 1 wd mo nw xs):=by rw [ho,show List.take k xs=xs from List.take_of_length_le om];unfold goneL;rw [filt_not (P:=(λ_:Lk=>true)) (inW_all rfl)]
 subst hE
 exact Ai C C (vc 63 (.slice a (goneL 1 wd mo nw xs).length c) (goneL 1 wd mo nw xs)::I) Aj ⟨a,c,rfl,rfl⟩
theorem Gone2_ok(hl:Sl κ I (.slice a0 xs.length c0) xs)(ah:xs.length<=1000000)(hA:askE nd xs 2 wd mo nw=0):eu prog κ 205 [.agg #[e7 nd,.slice a0 xs.length c0],.agg #[e7 2,e7 wd,e7 mo],e7 nw] I (λr J=>∃a c,r = .slice a (goneL 2 wd mo nw xs).length c/\J=vc 63 (.slice a (goneL 2 wd mo nw xs).length c) (goneL 2 wd mo nw xs)::I):=by
 refine Ce3 Tryz.func205 C C ?_
 refine Ar<|Ge1 (Al (cs:=[_,_]) C C C) λb1=>Ge1 (Al (cs:=[_,_,_]) C C C) λb2=>Ga C<|As<|A5<|A4 mixed<|Cr 9<|Dr 1 C (Ad fld31_0 C)<|Z ?_
 refine Ds1 0<|Se C (Ac c_ C C Rules_ok) ?_
 rintro _ _ ⟨_,_,⟨ai,rfl,rfl⟩,rfl,rfl⟩
 refine ⟨Aj,?_⟩
 refine Ds1 3<|Sr C (Di (i:=1) Ei Bd C C C mm C) Aj ?_
 refine Ds1 7<|Sc2 C (Cu c_ C C C Rule2_ok) λb4 b5=>Z ?_
 refine D7 (σ:=Nat×(Option Addr)×Nat×(List Ev)) (λs=>[(8,.slice s.2.1 s.2.2.2.length s.2.2.1),(22,e7 ((s.1:Nat):Int))]) (λs=>[vc 63 (.slice s.2.1 s.2.2.2.length s.2.2.1) (s.2.2.2)]) (λs=>(s.1<=xs.length)/\(s.2.2.2=((xs.take s.1).filter λx=> !(λx:Lk=>decide<|IntKind.i64.wrap (nw - x.tm)<wd) x).map (cutEv nw))) (λs=>xs.length - s.1) (0,none,0,[]) ⟨om,rfl⟩ (hI:=(Bw _ _)) ?_
 rintro ⟨k,a,c,out⟩ hp
 dsimp only at hp ⊢
 obtain ⟨hk,ho⟩:=hp
 have aj:out.length<=xs.length:=by rw [ho,List.length_map];refine Nat.le_trans (List.length_filter_le _ _) ?_;simp only [List.length_take];omega
 refine Z ?_
 refine Ap C (λad=>Z ?_)<|λad=>Z ?_
 ·refine Ge1 (Am ty192 C) λb6=>Ge0 (E9 ty192) (Z ?_)
  refine Gc0 (Cu c_ C C C<|Age1_ok (Cw mm) (Cw mm)<|e_ xs k)<|Z ?_
  refine Ap C (λM=>Z ?_)<|λM=>Z ?_
  ·refine G.e (Ac c_ C C<|Gone_ok (e_ xs k) nw) ?_
   rintro _ _ ⟨_,_,⟨rfl,rfl⟩,rfl,rfl⟩
   refine Ge1 (B9 (α:=Ev) (cs:=[e7 2,e7 nw,e7<|(e_ xs k).u,e7<|(e_ xs k).v,e7 0,e7 0,e7 0]) (xs:=[⟨2,nw,(e_ xs k).u,(e_ xs k).v,0,0,0⟩]) Bc ty63 C C dc dc C kr C C) λae=>?_
   refine Ge2 (B4 (α:=Ev) (e:=63) (xs:=out) (ys:=([⟨2,nw,(e_ xs k).u,(e_ xs k).v,0,0,0⟩]:List Ev)) Bc ty63 C C C mm A7 lcn dc C<|λ_ _=>am) λaa ab=>Z ?_
   exact B5 ((k+1),(aa),(ab),(out++([⟨2,nw,(e_ xs k).u,(e_ xs k).v,0,0,0⟩]:List Ev)))<|by dsimp only;exact ⟨om,(by first|(rw [gone_yes (P:=(λx:Lk=>decide<|IntKind.i64.wrap (nw - x.tm)<wd)) om (decide_eq_false M),←ho];done)|(rw [gone_yes (P:=(λx:Lk=>decide<|IntKind.i64.wrap (nw - x.tm)<wd)) om (decide_eq_false M),←ho];rfl)|(rw [gone_no (P:=(λx:Lk=>decide<|IntKind.i64.wrap (nw - x.tm)<wd)) om (decide_eq_true<|Classical.not_not.1 M),←ho])|(rw [gone_no (P:=(λx:Lk=>decide<|IntKind.i64.wrap (nw - x.tm)<wd)) om rfl,←ho]))⟩
  exact B5 ((k+1),(a),(c),(out))<|by dsimp only;exact ⟨om,(by first|(rw [gone_yes (P:=(λx:Lk=>decide<|IntKind.i64.wrap (nw - x.tm)<wd)) om (decide_eq_false M),←ho];done)|(rw [gone_yes (P:=(λx:Lk=>decide<|IntKind.i64.wrap (nw - x.tm)<wd)) om (decide_eq_false M),←ho];rfl)|(rw [gone_no (P:=(λx:Lk=>decide<|IntKind.i64.wrap (nw - x.tm)<wd)) om (decide_eq_true<|Classical.not_not.1 M),←ho])|(rw [gone_no (P:=(λx:Lk=>decide<|IntKind.i64.wrap (nw - x.tm)<wd)) om rfl,←ho]))⟩
 have hE:out=(goneL 2 wd mo nw xs):=by rw [ho,show List.take k xs=xs from List.take_of_length_le om];unfold goneL;rw [filt_not (P:=(λx:Lk=>decide<|IntKind.i64.wrap (nw - x.tm)<wd)) (inW_age (askE_ok hA) rfl)]
 subst hE
 exact Ai C C (vc 63 (.slice a (goneL 2 wd mo nw xs).length c) (goneL 2 wd mo nw xs)::I) Aj ⟨a,c,rfl,rfl⟩
theorem Gone3_ok(hl:Sl κ I (.slice a0 xs.length c0) xs)(ap:xs.length<=1000000)(hA:askE nd xs 3 wd mo nw=0):eu prog κ 205 [.agg #[e7 nd,.slice a0 xs.length c0],.agg #[e7 3,e7 wd,e7 mo],e7 nw] I (λr J=>∃a c,r = .slice a (goneL 3 wd mo nw xs).length c/\J=vc 63 (.slice a (goneL 3 wd mo nw xs).length c) (goneL 3 wd mo nw xs)::I):=by
 refine Ce3 Tryz.func205 C C ?_
 refine Ar<|Ge1 (Al (cs:=[_,_]) C C C) λb1=>Ge1 (Al (cs:=[_,_,_]) C C C) λb2=>Ga C<|As<|A5<|A4 mixed<|Cr 9<|Dr 1 C (Ad fld31_0 C)<|Z ?_
 refine Ds1 0<|Se C (Ac c_ C C Rules_ok) ?_
 rintro _ _ ⟨_,_,⟨aq,rfl,rfl⟩,rfl,rfl⟩
 refine ⟨Aj,?_⟩
 refine Ds1 3<|Sr C (Di (i:=2) Ei Bd C C C mm C) Aj ?_
 refine Ds1 7<|Se C (Cu c_ C C C<|Rule3_ok (Au hl) ((askE_ok hA).most C).1 om) ?_
 rintro _ _ ⟨_,_,⟨b4,ao,an,M,aa,rfl,ad,rfl⟩,rfl,rfl⟩
 refine ⟨Aj,?_⟩
 refine Z ?_
 refine D7 (σ:=Nat×(Option Addr)×Nat×(List Ev)) (λs=>[(8,.slice s.2.1 s.2.2.2.length s.2.2.1),(22,e7 ((s.1:Nat):Int))]) (λs=>[vc 63 (.slice s.2.1 s.2.2.2.length s.2.2.1) (s.2.2.2)]) (λs=>(s.1<=xs.length)/\(s.2.2.2=((xs.take s.1).filter λx=> !(λx:Lk=>decide<|x∈List.take aa M) x).map (cutEv nw))) (λs=>xs.length - s.1) (0,none,0,[]) ⟨om,rfl⟩ (hI:=(Bw _ _)) ?_
 rintro ⟨k,a,c,out⟩ hp
 dsimp only at hp ⊢
 obtain ⟨hk,ho⟩:=hp
 have ak:out.length<=xs.length:=by rw [ho,List.length_map];refine Nat.le_trans (List.length_filter_le _ _) ?_;simp only [List.length_take];omega
 refine Z ?_
 refine Ap C (λai=>Z ?_)<|λai=>Z ?_
 ·refine Ge1 (Am ty192 C) λb9=>Ge0 (E9 ty192) (Z ?_)
  refine Gc0 (Cu c_ C C C<|Last1_ok (Cw mm) (Sl.take A7 om)<|e_ xs k)<|Z ?_
  refine Ap C (λab=>Z ?_)<|λab=>Z ?_
  ·refine G.e (Ac c_ C C<|Gone_ok (e_ xs k) nw) ?_
   rintro _ _ ⟨_,_,⟨rfl,rfl⟩,rfl,rfl⟩
   refine Ge1 (B9 (α:=Ev) (cs:=[e7 2,e7 nw,e7<|(e_ xs k).u,e7<|(e_ xs k).v,e7 0,e7 0,e7 0]) (xs:=[⟨2,nw,(e_ xs k).u,(e_ xs k).v,0,0,0⟩]) Bc ty63 C C dc dc C kr C C) λaj=>?_
   refine Ge2 (B4 (α:=Ev) (e:=63) (xs:=out) (ys:=([⟨2,nw,(e_ xs k).u,(e_ xs k).v,0,0,0⟩]:List Ev)) Bc ty63 C C C mm A7 lcn dc C<|λ_ _=>am) λae ah=>Z ?_
   exact B5 ((k+1),(ae),(ah),(out++([⟨2,nw,(e_ xs k).u,(e_ xs k).v,0,0,0⟩]:List Ev)))<|by dsimp only;exact ⟨om,(by first|(rw [gone_yes (P:=(λx:Lk=>decide<|x∈List.take aa M)) om (decide_eq_false ab),←ho];done)|(rw [gone_yes (P:=(λx:Lk=>decide<|x∈List.take aa M)) om (decide_eq_false ab),←ho];rfl)|(rw [gone_no (P:=(λx:Lk=>decide<|x∈List.take aa M)) om (decide_eq_true<|Classical.not_not.1 ab),←ho])|(rw [gone_no (P:=(λx:Lk=>decide<|x∈List.take aa M)) om rfl,←ho]))⟩
  exact B5 ((k+1),(a),(c),(out))<|by dsimp only;exact ⟨om,(by first|(rw [gone_yes (P:=(λx:Lk=>decide<|x∈List.take aa M)) om (decide_eq_false ab),←ho];done)|(rw [gone_yes (P:=(λx:Lk=>decide<|x∈List.take aa M)) om (decide_eq_false ab),←ho];rfl)|(rw [gone_no (P:=(λx:Lk=>decide<|x∈List.take aa M)) om (decide_eq_true<|Classical.not_not.1 ab),←ho])|(rw [gone_no (P:=(λx:Lk=>decide<|x∈List.take aa M)) om rfl,←ho]))⟩
 have hE:out=(goneL 3 wd mo nw xs):=by rw [ho,show List.take k xs=xs from List.take_of_length_le om];unfold goneL;rw [filt_not (P:=(λx:Lk=>decide<|x∈List.take aa M)) (inW_last (askE_ok hA) rfl ad)]
 subst hE
 exact Ai C C (vc 63 (.slice a (goneL 3 wd mo nw xs).length c) (goneL 3 wd mo nw xs)::I) Aj ⟨a,c,rfl,rfl⟩
theorem GoneP_ok{kd:Int}(hl:Sl κ I (.slice a0 xs.length c0) xs)(M:xs.length<=1000000)(hA:askE nd xs kd wd mo nw=0):eu prog κ 205 [.agg #[e7 nd,.slice a0 xs.length c0],.agg #[e7 kd,e7 wd,e7 mo],e7 nw] I λr J=>∃a c,r = .slice a (goneL kd wd mo nw xs).length c/\J=vc 63 (.slice a (goneL kd wd mo nw xs).length c) (goneL kd wd mo nw xs)::I:=by
 have hk:=(askE_ok hA).kind
 rcases (by omega:kd=1\/kd=2\/kd=3) with rfl|rfl|rfl
 ·exact Gone1_ok hl M hA
 ·exact Gone2_ok hl M hA
 exact Gone3_ok hl M hA
end Go.Sl
namespace Go.Sl
open Go.Proofs
set_option maxRecDepth 4000
end Go.Sl
namespace Go.Sl
open Go.Proofs
set_option maxRecDepth 4000
variable{xs:List Lk}
variable {κ:Ctx}{I:List Item}
attribute [local irreducible] W G V D A Runs Eff
theorem checkW_wd{kd wd mo:Int}(h:checkW kd wd mo=0):0<=wd/\wd<=1048576:=by
 unfold checkW at h
 split at h
 ·cases h
 split at h
 ·cases h
 omega
theorem checkS_tm{nd:Int}(h:checkS nd xs=0):∀i:Int,0<=i->i<xs.length->0<=(e_ xs i).tm/\(e_ xs i).tm<=1048576:=λi M h1=>badL_tm ((checkS_ok h).2.1 _ (Bx M h1))
def tmC(a c:Lk):Int:=cmpI a.tm c.tm
theorem tmC_lt(a c:Lk):tmC a c<0↔a.tm<c.tm:=by unfold tmC cmpI;split<;>(try split)<;>omega
theorem FirstC_ok(a c:Lk):eu prog κ 270 [.agg #[e7 (a.u),e7 (a.v),e7 (a.w),e7 (a.lb),e7 (a.sg),e7 (a.tm)],.agg #[e7 (c.u),e7 (c.v),e7 (c.w),e7 (c.lb),e7 (c.sg),e7 (c.tm)]] I (λr J=>r=e7 (tmC a c)/\I=J):=by
 refine Ce2 Tryz.func270 C C ?_
 refine Ar<|Ge1 (Al (cs:=[_,_,_,_,_,_]) C C C) λb1=>Ge1 (Al (cs:=[_,_,_,_,_,_]) C C C) λM=>Z ?_
 refine Gc0 (Ac c_ C C<|Compare_ok a.tm c.tm) ?_
 exact Ga C<|As<|Bf<|Ai C C I Ah ⟨rfl,rfl⟩
theorem FirstC_cmps:Cmps prog κ I 270 [] tmC:=⟨c_,λx y J M=>FirstC_ok x y⟩
theorem MinF_ok{v:Value}(hl:Sl κ I v xs)(ae:0<xs.length){g:FuncId}{ab:List Value}(ad:Cmps prog κ I g ab tmC):eu prog κ 269 [v,.func (.func g) #[] ab.toArray] I (λr J=>∃x:Lk,r = .agg #[e7 x.u,e7 x.v,e7 x.w,e7 x.lb,e7 x.sg,e7 x.tm]/\(x∈xs/\∀y∈xs,x.tm<=y.tm)/\I=J):=by
 refine Bu hl.le λaj=>?_
 refine Ce2 Tryz.func269 C C ?_
 refine Ar<|Ge1 (Am ty192 C) λb1=>Z ?_
 refine Ap C (λc9=>?_)<|λc9=>Z ?_
 ·exact absurd ae om
 refine Ge1 (Am ty192 C) λb2=>Ge0 (E9 ty192)<|Z ?_
 refine D7 (σ:=Nat×Lk) (λs=>[(6,e7 ((s.1:Nat):Int))]) (λs=>[e8 b2 [e7 (s.2.u),e7<|s.2.v,e7<|s.2.w,e7<|s.2.lb,e7<|s.2.sg,e7<|s.2.tm] 192]) (λs=>(1<=s.1/\s.1<=xs.length)/\(s.2∈xs)/\(∀j,j<s.1->s.2.tm<=(e_ xs j).tm)) (λs=>xs.length - s.1) (1,e_ xs 0) ⟨om,(Bx om om),(λj hj=>by rw [show j=0 by omega];exact Int.le_refl _)⟩ ?_
 rintro ⟨k,m⟩ hp
 dsimp only at hp ⊢
 obtain ⟨hk,hm,hn⟩:=hp
 refine Z ?_
 refine Ap C (λai=>Z ?_)<|λai=>Z ?_
 ·refine A4 mixed (Cr 8<|Z ?_)
  refine Ds1 6<|Se C (Cu ad.1 (first:=[]) (caps:=ab) C C C<|ad.2 (e_ xs k) m _ Ah) ?_
  rintro _ _ ⟨_,_,⟨rfl,rfl⟩,rfl,rfl⟩
  refine ⟨Aj,?_⟩
  refine Z ?_
  refine Ap C (λM=>Z ?_)<|λM=>Z ?_
  ·refine Ge0 (E9 ty192) (Z ?_)
   exact B5 ((k+1),(e_ xs k))<|by dsimp only;exact ⟨om,(by first|exact hm|exact Bx om om),(all_succ (λj hj=>by have aa:=hn j hj;first|exact aa|(have hlt:=(tmC_lt _ _).1 M;omega))<|by first|exact Int.le_refl _|(have ah:=mt (tmC_lt (e_ xs k) m).2 M;omega))⟩
  exact B5 ((k+1),(m))<|by dsimp only;exact ⟨om,(by first|exact hm|exact Bx om om),(all_succ (λj hj=>by have aa:=hn j hj;first|exact aa|(have hlt:=(tmC_lt _ _).1 M;omega))<|by first|exact Int.le_refl _|(have ah:=mt (tmC_lt (e_ xs k) m).2 M;omega))⟩
 refine Ge0 (E9 ty192) ?_
 exact As<|Bf<|B0 C ty192 C mm C I Ah ⟨m,rfl,⟨hm,λy hy=>by obtain ⟨j,hj,rfl⟩:=E7 hy;exact hn j om⟩,rfl⟩
end Go.Sl
/- Windows: a stream with the cuts of what expires. The plain laws. No Go. No conditions. -/
namespace Go.Sl
variable{n nw:Int}
def ei(e:Ev):Lk:=⟨if e.v<e.u then e.v else e.u,if e.u<e.v then e.v else e.u,e.w,e.lb,e.sg,e.tm⟩
def setL(n:Lk):List Lk->List Lk
 |[]=>[n]
 |l::ls=>if Lk.lt n l then n::l::ls else if l.p=n.p then n::ls else l::setL n ls
def hitE(e:Ev)(l:Lk):Bool:=if e.kd=2 then decide (l.u=(ei e).u/\l.v=(ei e).v) else decide (l.u=e.u\/l.v=e.u)
def ep(xs:List Lk)(e:Ev):List Lk:=if e.kd=1 then setL (ei e) xs else xs.filter λl=> !hitE e l
def endsE(e:Ev):Prop:=(0<=e.u/\e.u<64)/\(e.kd=3->e.v=0)/\(e.kd≠3->(0<=e.v/\e.v<64)/\e.u≠e.v)
instance (e:Ev):Decidable (endsE e):=by unfold endsE;infer_instance
def checkE(e:Ev):Int:=if e.kd<1\/3<e.kd then 8 else if e.tm<0\/1048576<e.tm then 9 else if ¬endsE e then 6 else if (e.kd=1/\¬rightW e.w e.lb e.sg)\/(e.kd≠1/\(e.w≠0\/e.lb≠0\/e.sg≠0)) then 1 else 0
def fitE(nd:Int)(e:Ev):Int:=if checkE e≠0 then checkE e else if nd<=e.u\/nd<=e.v then 6 else 0
section
variable {e:Ev}{nd:Int}
theorem checkE_eight(h:e.kd<1\/3<e.kd):checkE e=8:=by unfold checkE;rw [if_pos h]
theorem checkE_nine(M:1<=e.kd/\e.kd<=3)(h:e.tm<0\/1048576<e.tm):checkE e=9:=by unfold checkE;rw [if_neg om,if_pos h]
theorem checkE_six(h1:1<=e.kd/\e.kd<=3)(M:0<=e.tm/\e.tm<=1048576)(h:¬endsE e):checkE e=6:=by unfold checkE;rw [if_neg om,if_neg om,if_pos h]
theorem checkE_one(h1:1<=e.kd/\e.kd<=3)(h2:0<=e.tm/\e.tm<=1048576)(M:endsE e)(h:(e.kd=1/\¬rightW e.w e.lb e.sg)\/(e.kd≠1/\(e.w≠0\/e.lb≠0\/e.sg≠0))):checkE e=1:=by
 unfold checkE;rw [if_neg om,if_neg om,if_neg<|λh=>h M,if_pos h]
theorem checkE_zero(h1:1<=e.kd/\e.kd<=3)(h2:0<=e.tm/\e.tm<=1048576)(M:endsE e)(h:e.kd=1->rightW e.w e.lb e.sg)(h4:e.kd≠1->e.w=0/\e.lb=0/\e.sg=0):checkE e=0:=by
 unfold checkE;rw [if_neg om,if_neg om,if_neg<|λh=>h M,if_neg];rintro (⟨a,b⟩|⟨a,b⟩)
 ·exact b<|h a
 have:=h4 a;omega
end
structure FitOk (nd:Int) (e:Ev):Prop where
 kind:1<=e.kd/\e.kd<=3
 tm:0<=e.tm/\e.tm<=1048576
 ends:endsE e
 right:e.kd=1->rightW e.w e.lb e.sg
 fits:e.u<nd/\e.v<nd
 zero:e.kd≠1->e.w=0/\e.lb=0/\e.sg=0
theorem fitE_ok{nd:Int}{e:Ev}:fitE nd e=0↔FitOk nd e:=by
 constructor
 ·intro h
  unfold fitE checkE at h
  by_cases M:e.kd<1\/3<e.kd
  ·rw [if_pos M] at h;simp at h
  rw [if_neg M] at h
  by_cases h2:e.tm<0\/1048576<e.tm
  ·rw [if_pos h2] at h;simp at h
  rw [if_neg h2] at h
  by_cases h3:¬endsE e
  ·rw [if_pos h3] at h;simp at h
  rw [if_neg h3] at h
  by_cases h4:(e.kd=1/\¬rightW e.w e.lb e.sg)\/(e.kd≠1/\(e.w≠0\/e.lb≠0\/e.sg≠0))
  ·rw [if_pos h4] at h;simp at h
  rw [if_neg h4] at h
  by_cases h5:nd<=e.u\/nd<=e.v
  ·rw [if_neg (by simp),if_pos h5] at h;simp at h
  exact ⟨by omega,by omega,Classical.not_not.1 h3,λhk=>Classical.byContradiction λhr=>h4<|.inl ⟨hk,hr⟩,by omega,λhk=>by omega⟩
 intro h
 have M:=h.kind
 have h2:=h.tm
 have h5:=h.fits
 have hc:checkE e=0:=by
  unfold checkE
  rw [if_neg om,if_neg om,if_neg<|by simpa using h.ends,if_neg ?_]
  rintro (⟨a,b⟩|⟨a,b⟩)
  ·exact b<|h.right a
  have:=h.zero a;omega
 unfold fitE
 rw [if_neg (by simp [hc]),if_neg om]
theorem lk_lt{a b:Lk}:Lk.lt a b↔a.u<b.u\/(a.u=b.u/\a.v<b.v):=Iff.rfl
theorem lk_p{a b:Lk}:a.p=b.p↔a.u=b.u/\a.v=b.v:=by unfold Lk.p;simp
theorem FitOk.lk{nd:Int}{e:Ev}(h:FitOk nd e)(M:e.kd≠3):0<=(ei e).u/\(ei e).u<(ei e).v/\(ei e).v<nd:=by
 have h1:=h.ends.2.2 M
 have h2:=h.ends.1
 have h3:=h.fits
 unfold ei
 simp only
 refine ⟨?_,?_,?_⟩<;>(repeat' split)<;>omega
theorem FitOk.badL{nd:Int}{e:Ev}(h:FitOk nd e)(M:e.kd=1):badL nd (ei e)=0:=by
 have h1:=h.lk om
 have h2:=h.tm
 exact badL_zero om (h.right M)<|by show ¬(e.tm<0\/1048576<e.tm);omega
theorem mem_setL{n:Lk}{xs:List Lk}{x:Lk}(h:x∈setL n xs):x=n\/x∈xs:=by
 induction xs with
 |nil=>simp [setL] at h;exact .inl h
 |cons l ls ih=>
  unfold setL at h
  split at h
  ·simpa using h
  split at h
  ·rcases List.mem_cons.1 h with h|h
   ·exact .inl h
   exact .inr<|List.mem_cons_of_mem _ h
  rcases List.mem_cons.1 h with h|h
  ·exact .inr<|by rw [h];exact List.mem_cons_self
  rcases ih h with h|h
  ·exact .inl h
  exact .inr<|List.mem_cons_of_mem _ h
theorem setL_asc{n:Lk}{xs:List Lk}(h:xs.Pairwise Lk.lt):(setL n xs).Pairwise Lk.lt:=by
 induction xs with
 |nil=>simp [setL]
 |cons l ls ih=>
  obtain ⟨M,h2⟩:=List.pairwise_cons.1 h
  unfold setL
  by_cases hl:Lk.lt n l
  ·rw [if_pos hl]
   refine List.pairwise_cons.2 ⟨λx hx=>?_,h⟩
   rcases List.mem_cons.1 hx with rfl|hx
   ·exact hl
   exact Pt.lin.tr _ _ _ hl<|M x hx
  rw [if_neg hl]
  by_cases he:l.p=n.p
  ·rw [if_pos he]
   refine List.pairwise_cons.2 ⟨λx hx=>?_,h2⟩
   have:=M x hx
   unfold Lk.lt at this ⊢
   rw [←he];exact this
  rw [if_neg he]
  refine List.pairwise_cons.2 ⟨λx hx=>?_,ih h2⟩
  rcases mem_setL hx with rfl|hx
  ·rw [lk_lt] at hl ⊢; rw [lk_p] at he;omega
  exact M x hx
theorem setL_len(n:Lk)(xs:List Lk):(setL n xs).length<=xs.length+1:=by
 induction xs with
 |nil=>simp [setL]
 |cons l ls ih=>
  unfold setL
  split
  ·simp
  split
  ·simp
  simp;omega
theorem stepL_len(xs:List Lk)(e:Ev):(ep xs e).length<=xs.length+1:=by
 unfold ep
 split
 ·exact setL_len _ _
 exact Nat.le_succ_of_le<|List.length_filter_le _ _
theorem scan0_back:∀(xs:List Lk) (q:Lk),(∀x∈xs,badL n x=0)->(q::xs).Pairwise Lk.lt->scanL (badL n) Lk.lt (some q) xs=0
 |[],q,_,_=>rfl
 |p::ps,q,h1,h2=>by
  obtain ⟨a,b⟩:=List.pairwise_cons.1 h2
  simp only [scanL]
  rw [if_neg (by simp [h1 p List.mem_cons_self]),if_pos<|a p List.mem_cons_self]
  exact scan0_back ps p (λx M=>h1 x<|List.mem_cons_of_mem _ M) b
theorem checkS_iff{xs:List Lk}:checkS n xs=0↔(0<=n/\n<=64)/\(∀x∈xs,badL n x=0)/\xs.Pairwise Lk.lt:=by
 constructor
 ·exact checkS_ok
 rintro ⟨h1,M,h3⟩
 unfold checkS
 rw [if_neg om]
 cases xs with
 |nil=>rfl
 |cons p ps=>
  simp only [scanL]
  rw [if_neg (by simp [M p List.mem_cons_self])]
  exact scan0_back ps p (λx hx=>M x<|List.mem_cons_of_mem _ hx) h3
theorem stepL_val{nd:Int}{xs:List Lk}{e:Ev}(h:checkS nd xs=0)(he:FitOk nd e):checkS nd (ep xs e)=0:=by
 obtain ⟨h1,h2,M⟩:=checkS_iff.1 h
 refine checkS_iff.2 ⟨h1,?_⟩
 unfold ep
 by_cases hk:e.kd=1
 ·rw [if_pos hk]
  refine ⟨λx hx=>?_,setL_asc M⟩
  rcases mem_setL hx with rfl|hx
  ·exact he.badL hk
  exact h2 x hx
 rw [if_neg hk]
 exact ⟨λx hx=>h2 x (List.mem_filter.1 hx).1,M.sublist List.filter_sublist⟩
theorem filter_val{nd:Int}{xs:List Lk}{P:Lk->Bool}(h:checkS nd xs=0):checkS nd (xs.filter P)=0:=by
 obtain ⟨h1,h2,M⟩:=checkS_iff.1 h
 exact checkS_iff.2 ⟨h1,λx hx=>h2 x (List.mem_filter.1 hx).1,M.sublist List.filter_sublist⟩
theorem val_uv{nd:Int}{xs:List Lk}(h:checkS nd xs=0):∀x∈xs,0<=x.u/\x.u<x.v/\x.v<nd:=λx hx=>by
 have M:=(checkS_ok h).2.1 x hx
 unfold Sl.badL at M
 split at M
 ·cases M
 omega
theorem cut_hit(nw:Int){z:Lk}(M:z.u<z.v)(l:Lk):hitE (cutEv nw z) l=decide (l.p=z.p):=by
 unfold hitE ei cutEv
 simp only [if_true]
 rw [if_neg om,if_pos M,decide_eq_decide,lk_p]
theorem cuts_filter(nw:Int):∀(zs xs:List Lk),(∀z∈zs,z.u<z.v)->(zs.map (cutEv nw)).foldl ep xs=xs.filter λx=>zs.all λz=> !decide (x.p=z.p)
 |[],xs,_=>by simp only [List.map_nil,List.foldl_nil,List.all_nil];exact (List.filter_eq_self.2 λ_ _=>rfl).symm
 |z::zs,xs,h=>by
  have ih:=cuts_filter nw zs (xs.filter λl=> !decide (l.p=z.p)) λy M=>h y (List.mem_cons_of_mem _ M)
  have hs:ep xs (cutEv nw z)=xs.filter λl=> !decide (l.p=z.p):=by
   unfold ep
   rw [if_neg (by show ¬(2:Int)=1;decide)]
   exact List.filter_congr λl _=>by rw [cut_hit nw (h z List.mem_cons_self)]
  rw [List.map_cons,List.foldl_cons,hs,ih,List.filter_filter]
  exact List.filter_congr λx _=>by rw [List.all_cons,Bool.and_comm]
theorem asc_p{xs:List Lk}(h:xs.Pairwise Lk.lt){x y:Lk}(hx:x∈xs)(hy:y∈xs)(he:x.p=y.p):x=y:=by
 induction xs with
 |nil=>cases hx
 |cons l ls ih=>
  obtain ⟨h1,h2⟩:=List.pairwise_cons.1 h
  have M:∀z∈ls,l.p≠z.p:=λz hz e=>by
   have:=h1 z hz
   unfold Lk.lt at this
   rw [e] at this
   exact Pt.lin.irr _ this
  rcases List.mem_cons.1 hx with e1|e1<;>rcases List.mem_cons.1 hy with e2|e2
  ·rw [e1,e2]
  ·exact absurd (e1▸he)<|M y e2
  ·exact absurd (e2▸he.symm)<|M x e1
  exact ih h2 e1 e2
theorem gone_steps{nd kd wd mo:Int}{xs:List Lk}(h:checkS nd xs=0):(goneL kd wd mo nw xs).foldl ep xs=xs.filter (inW kd wd mo nw xs):=by
 unfold goneL
 rw [cuts_filter nw _ _ λz hz=>(val_uv h z (List.mem_filter.1 hz).1).2.1]
 refine List.filter_congr λx hx=>?_
 cases hp:inW kd wd mo nw xs x
 ·rw [Bool.eq_false_iff]
  intro ha
  have:=List.all_eq_true.1 ha x (List.mem_filter.2 ⟨hx,by rw [hp];rfl⟩)
  simp at this
 rw [List.all_eq_true]
 intro z hz
 obtain ⟨aa,M⟩:=List.mem_filter.1 hz
 rw [Bool.not_eq_true',decide_eq_false_iff_not]
 intro he
 have:=asc_p (checkS_ok h).2.2 hx aa he
 subst this
 rw [hp] at M
 cases M
theorem gone_len(kd wd mo nw:Int)(xs:List Lk):(goneL kd wd mo nw xs).length+(xs.filter (inW kd wd mo nw xs)).length=xs.length:=by
 unfold goneL
 rw [List.length_map]
 generalize inW kd wd mo nw xs=P
 induction xs with
 |nil=>rfl
 |cons x xs ih=>simp only [List.filter_cons];cases P x<;>simp<;>omega
theorem gone_fit{nd kd wd mo:Int}{xs:List Lk}(h:checkS nd xs=0)(ht:0<=nw/\nw<=1048576):∀e∈goneL kd wd mo nw xs,FitOk nd e:=λe he=>by
 unfold goneL at he
 obtain ⟨x,hx,rfl⟩:=List.mem_map.1 he
 have h1:=val_uv h x (List.mem_filter.1 hx).1
 have h2:=(checkS_ok h).1
 exact ⟨by show (1:Int)<=2/\(2:Int)<=3;omega,ht,⟨by show 0<=x.u/\x.u<64;omega,λM=>absurd M (by show ¬(2:Int)=3;decide),λ_=>by show (0<=x.v/\x.v<64)/\x.u≠x.v;omega⟩,
  λM=>absurd M (by show ¬(2:Int)=1;decide),by show x.u<nd/\x.v<nd;omega,λ_=>⟨rfl,rfl,rfl⟩⟩
def minT:List Lk->Int
 |[]=>0
 |x::xs=>xs.foldl (λm y=>if y.tm<m then y.tm else m) x.tm
theorem minT_fold:∀(xs:List Lk) (m:Int),xs.foldl (λm y=>if y.tm<m then y.tm else m) m<=m/\(xs.foldl (λm y=>if y.tm<m then y.tm else m) m=m\/∃x∈xs,xs.foldl (λm y=>if y.tm<m then y.tm else m) m=x.tm)/\∀y∈xs,xs.foldl (λm y=>if y.tm<m then y.tm else m) m<=y.tm
 |[],m=>⟨Int.le_refl _,.inl rfl,λy hy=>by cases hy⟩
 |x::xs,m=>by
  rw [List.foldl_cons]
  by_cases hx:x.tm<m
  ·rw [if_pos hx]
   obtain ⟨h1,M,h3⟩:=minT_fold xs x.tm
   refine ⟨by omega,?_,λy hy=>?_⟩
   ·rcases M with M|⟨y,hy,M⟩
    ·exact .inr ⟨x,List.mem_cons_self,M⟩
    exact .inr ⟨y,List.mem_cons_of_mem _ hy,M⟩
   rcases List.mem_cons.1 hy with rfl|hy
   ·exact h1
   exact h3 y hy
  rw [if_neg hx]
  obtain ⟨h1,M,h3⟩:=minT_fold xs m
  refine ⟨h1,?_,λy hy=>?_⟩
  ·rcases M with M|⟨y,hy,M⟩
   ·exact .inl M
   exact .inr ⟨y,List.mem_cons_of_mem _ hy,M⟩
  rcases List.mem_cons.1 hy with rfl|hy
  ·omega
  exact h3 y hy
theorem minT_spec{xs:List Lk}(h:0<xs.length):(∃x∈xs,minT xs=x.tm)/\∀y∈xs,minT xs<=y.tm:=by
 cases xs with
 |nil=>cases h
 |cons x xs=>
  obtain ⟨h1,M,h3⟩:=minT_fold xs x.tm
  refine ⟨?_,λy hy=>?_⟩
  ·rcases M with M|⟨y,hy,M⟩
   ·exact ⟨x,List.mem_cons_self,M⟩
   exact ⟨y,List.mem_cons_of_mem _ hy,M⟩
  rcases List.mem_cons.1 hy with rfl|hy
  ·exact h1
  exact h3 y hy
theorem minT_uniq{xs:List Lk}{wd z:Int}(h:(∃x∈xs,z=x.tm+wd)/\∀y∈xs,z<=y.tm+wd):z=minT xs+wd:=by
 obtain ⟨⟨x,M,e⟩,h1⟩:=h
 obtain ⟨⟨y,hy,e2⟩,h2⟩:=minT_spec (List.length_pos_of_mem M)
 have:=h1 y hy
 have:=h2 x M
 omega
theorem inW2(wd mo nw:Int)(xs:List Lk)(x:Lk):inW 2 wd mo nw xs x=decide (nw - x.tm<wd):=by unfold inW;rw [if_pos rfl]
def ageX(wd mo:Int)(xs:List Lk):List Lk:=xs.filter (inW 2 wd mo (minT xs+wd) xs)
theorem age_less{wd mo:Int}{xs:List Lk}(h:0<xs.length):(ageX wd mo xs).length<xs.length:=by
 unfold ageX
 obtain ⟨⟨x,M,e⟩,_⟩:=minT_spec h
 have h1:=gone_len 2 wd mo (minT xs+wd) xs
 have h2:0<(goneL 2 wd mo (minT xs+wd) xs).length:=by
  unfold goneL
  rw [List.length_map]
  refine List.length_pos_of_mem (a:=x)<|List.mem_filter.2 ⟨M,?_⟩
  rw [inW2,decide_eq_false om];rfl
 omega
def ageL(wd mo T:Int)(xs:List Lk)(out:List Ev):List Lk×List Ev:=
 if h:0<xs.length/\minT xs+wd<=T then ageL wd mo T (ageX wd mo xs) (out++goneL 2 wd mo (minT xs+wd) xs) else (xs,out)
termination_by xs.length
decreasing_by exact age_less h.1
theorem ageL_step{wd mo T:Int}{xs:List Lk}{out:List Ev}(h:0<xs.length/\minT xs+wd<=T):ageL wd mo T xs out=ageL wd mo T (xs.filter (inW 2 wd mo (minT xs+wd) xs)) (out++goneL 2 wd mo (minT xs+wd) xs):=by
 rw [ageL,dif_pos h];rfl
theorem ageL_stop{wd mo T:Int}{xs:List Lk}{out:List Ev}(h:¬(0<xs.length/\minT xs+wd<=T)):ageL wd mo T xs out=(xs,out):=by
 rw [ageL,dif_neg h]
def windL(kd wd mo:Int)(b:List Lk×List Ev)(T:Int):List Lk×List Ev:=if kd=3 then (b.1.filter (inW kd wd mo T b.1),b.2++goneL kd wd mo T b.1) else b
def agedL(kd wd mo T:Int)(s:List Lk×List Ev):List Lk×List Ev:=if kd=2 then ageL wd mo T s.1 s.2 else s
def evStep(kd wd mo:Int)(s:List Lk×List Ev)(e:Ev):List Lk×List Ev:=windL kd wd mo (ep (agedL kd wd mo e.tm s).1 e,(agedL kd wd mo e.tm s).2++[e]) e.tm
def slideS(kd wd mo:Int)(es:List Ev):List Lk×List Ev:=es.foldl (evStep kd wd mo) ([],[])
def streamS(nd:Int):Int->List Ev->Int
 |_,[]=>0
 |last,e::es=>if fitE nd e≠0 then fitE nd e else if e.tm<last then 9 else streamS nd e.tm es
def streamE(nd:Int)(es:List Ev):Int:=if nd<0\/64<nd then 1 else if 65536<es.length then 3 else streamS nd 0 es
def slideE(nd kd wd mo:Int)(es:List Ev):Int:=if checkW kd wd mo≠0 then checkW kd wd mo else streamE nd es
def lastT(es:List Ev)(k:Nat):Int:=if k=0 then 0 else (e_ es ((k:Int) - 1)).tm
theorem lastT_succ(es:List Ev)(k:Nat):lastT es (k+1)=(e_ es k).tm:=by
 unfold lastT;rw [if_neg om,show ((k+1:Nat):Int) - 1=(k:Int) by omega]
section
variable {nd:Int}{es:List Ev}{k:Nat}
theorem streamS_step(hk:k<es.length)(h1:fitE nd (e_ es k)=0)(M:¬(e_ es k).tm<lastT es k):streamS nd (lastT es k) (es.drop k)=streamS nd (lastT es (k+1)) (es.drop (k+1)):=by
 rw [Eu es k hk,lastT_succ];simp only [streamS];rw [if_neg (by simp [h1]),if_neg M]
theorem streamS_bad(M:k<es.length)(h1:fitE nd (e_ es k)≠0):streamS nd (lastT es k) (es.drop k)=fitE nd (e_ es k):=by
 rw [Eu es k M];simp only [streamS];rw [if_pos h1]
theorem streamS_late(hk:k<es.length)(h1:fitE nd (e_ es k)=0)(M:(e_ es k).tm<lastT es k):streamS nd (lastT es k) (es.drop k)=9:=by
 rw [Eu es k hk];simp only [streamS];rw [if_neg (by simp [h1]),if_pos M]
theorem streamS_end(M:es.length<=k):streamS nd (lastT es k) (es.drop k)=0:=by rw [List.drop_eq_nil_of_le M];rfl
theorem streamS_all(h:streamS nd 0 es=0):∀k,k<=es.length->streamS nd (lastT es k) (es.drop k)=0/\∀j,j<k->FitOk nd (e_ es j)/\lastT es j<=(e_ es j).tm
 |0,_=>⟨h,λj hj=>absurd hj<|Nat.not_lt_zero _⟩
 |k+1,hk=>by
  obtain ⟨M,h2⟩:=streamS_all h k om
  have h3:fitE nd (e_ es k)=0:=Classical.byContradiction λhc=>hc (by rw [streamS_bad om hc] at M;exact M)
  have h4:¬(e_ es k).tm<lastT es k:=λhc=>by rw [streamS_late om h3 hc] at M;cases M
  refine ⟨by rw [←streamS_step om h3 h4];exact M,λj hj=>?_⟩
  rcases Nat.lt_succ_iff_lt_or_eq.1 hj with hj|rfl
  ·exact h2 j hj
  exact ⟨fitE_ok.1 h3,by omega⟩
structure StOk (nd:Int) (es:List Ev):Prop where
 nodes:0<=nd/\nd<=64
 len:es.length<=65536
 fit:∀j:Nat,j<es.length->FitOk nd (e_ es j)
 asc:∀j:Nat,j<es.length->lastT es j<=(e_ es j).tm
theorem streamE_ok(h:streamE nd es=0):StOk nd es:=by
 unfold streamE at h
 by_cases h1:nd<0\/64<nd
 ·rw [if_pos h1] at h;cases h
 rw [if_neg h1] at h
 by_cases h2:65536<es.length
 ·rw [if_pos h2] at h;cases h
 rw [if_neg h2] at h
 have M:=(streamS_all h es.length<|Nat.le_refl _).2
 exact ⟨by omega,by omega,λj hj=>(M j hj).1,λj hj=>(M j hj).2⟩
end
theorem slideS_succ{kd wd mo:Int}{es:List Ev}{k:Nat}(M:k<es.length):slideS kd wd mo (es.take (k+1))=evStep kd wd mo (slideS kd wd mo (es.take k)) (e_ es k):=by
 unfold slideS;rw [Ct es k M,List.foldl_append];rfl
theorem steps_succ{xs:List Lk}{es:List Ev}{k:Nat}(M:k<es.length):(es.take (k+1)).foldl ep xs=ep ((es.take k).foldl ep xs) (e_ es k):=by
 rw [Ct es k M,List.foldl_append];rfl
theorem out_succ{out es:List Ev}{k:Nat}(M:k<es.length):out++es.take (k+1)=out++es.take k++[e_ es k]:=by
 rw [Ct es k M,List.append_assoc]
theorem steps_len:∀(es:List Ev) (xs:List Lk),(es.foldl ep xs).length<=xs.length+es.length
 |[],xs=>Nat.le_refl _
 |e::es,xs=>by
  have h1:=steps_len es (ep xs e)
  have M:=stepL_len xs e
  rw [List.foldl_cons,List.length_cons];omega
structure SlI (nd kd wd:Int) (last:Int) (xs:List Lk):Prop where
 val:checkS nd xs=0
 tm:∀x∈xs,x.tm<=last
 al:kd=2->∀x∈xs,last<x.tm+wd
section
variable {nd kd wd mo last T:Int}{xs:List Lk}{out:List Ev}
theorem SlI.nil(h:0<=nd/\nd<=64):SlI nd kd wd last []:=⟨checkS_iff.2 ⟨h,λx M=>(by cases M),List.Pairwise.nil⟩,λx M=>(by cases M),λ_ x M=>(by cases M)⟩
theorem SlI.filter(h:SlI nd kd wd last xs)(P:Lk->Bool):SlI nd kd wd last (xs.filter P):=
 ⟨filter_val h.val,λx M=>h.tm x (List.mem_filter.1 M).1,λhk x M=>h.al hk x (List.mem_filter.1 M).1⟩
theorem SlI.later(h:SlI nd kd wd last xs)(hT:last<=T)(hk:kd=2->¬(0<xs.length/\minT xs+wd<=T)):SlI nd kd wd T xs:=
 ⟨h.val,λx M=>by have:=h.tm x M;omega,λh2 x M=>by
  have h3:=hk h2
  have h4:0<xs.length:=List.length_pos_of_mem M
  have h5:=(minT_spec h4).2 x M
  omega⟩
theorem SlI.step(h:SlI nd kd wd T xs){e:Ev}(he:FitOk nd e)(ht:e.tm=T)(hw:kd=2->1<=wd):SlI nd kd wd T (ep xs e):=by
 have M:∀x∈ep xs e,x.tm=T\/x∈xs:=λx hx=>by
  unfold ep at hx
  split at hx
  ·rcases mem_setL hx with rfl|hx
   ·exact .inl ht
   exact .inr hx
  exact .inr (List.mem_filter.1 hx).1
 refine ⟨stepL_val h.val he,λx hx=>?_,λhk x hx=>?_⟩
 ·rcases M x hx with h1|h1
  ·omega
  exact h.tm x h1
 rcases M x hx with h1|h1
 ·have:=hw hk;omega
 exact h.al hk x h1
theorem SlI.ask(h:SlI nd kd wd last xs)(M:checkW kd wd mo=0){t:Int}(ht:0<=t/\t<=1048576)(hl:last<=t):askE nd xs kd wd mo t=0:=by
 unfold askE
 rw [if_neg (by simp [M]),if_neg<|by simp [h.val],if_neg]
 rintro (h1|h1|h1)
 ·omega
 ·omega
 obtain ⟨x,hx,h2⟩:=List.any_eq_true.1 h1
 have:=h.tm x hx
 have:=of_decide_eq_true h2
 omega
theorem SlI.first(h:SlI nd kd wd last xs)(hk:kd=2)(M:0<xs.length):last<minT xs+wd:=by
 obtain ⟨⟨x,hx,e⟩,_⟩:=minT_spec M
 have:=h.al hk x hx
 omega
end
end Go.Sl
/- Windows: setting and cutting links in place. The plain laws. No Go. No conditions. -/
namespace Go.Sl
theorem Lk.cmp_zero(a b:Lk):Lk.cmp a b=0↔a.p=b.p:=Pt.cmp_zero _ _
theorem setL_app{n:Lk}{ys:List Lk}:∀(xs:List Lk),(∀x∈xs,Lk.lt x n)->setL n (xs++ys)=xs++setL n ys
 |[],_=>rfl
 |x::xs,h=>by
  have M:=h x List.mem_cons_self
  rw [List.cons_append,List.cons_append]
  conv=>lhs;unfold setL
  rw [if_neg (show ¬Lk.lt n x from λh2=>Pt.lin.asymm M h2),if_neg<|λh2=>by unfold Lk.lt at M;rw [h2] at M;exact Pt.lin.irr _ M,setL_app xs λy hy=>h y<|List.mem_cons_of_mem _ hy]
section
variable {xs:List Lk}{n:Lk}{i:Nat}{q:Bool}
theorem lk_below(h:BFound Lk.cmp xs n i q)(ha:xs.Pairwise Lk.lt):∀x∈xs.take i,Lk.lt x n:=λx hx=>by
 obtain ⟨j,hj,rfl⟩:=List.getElem_of_mem hx
 rw [List.length_take] at hj
 have aa:=h.le
 have e:(xs.take i)[j]=e_ xs j:=by rw [Cx xs j om];simp
 rw [e]
 have M:=(Lk.cmp_lt _ _).1 (h.low om)
 rw [show (i:Int) - 1=((i - 1:Nat):Int) by omega] at M
 by_cases hq:j=i - 1
 ·rw [hq];exact M
 exact Pt.lin.tr _ _ _ ((pairwise_at xs).1 ha j (i - 1) om om) M
theorem setL_new(h:BFound Lk.cmp xs n i q)(ha:xs.Pairwise Lk.lt)(hq:q=false):setL n xs=xs.take i++[n]++xs.drop i:=by
 conv=>lhs;rw [←List.take_append_drop i xs]
 rw [setL_app _ (lk_below h ha),List.append_assoc]
 congr 1
 rcases Nat.lt_or_ge i xs.length with hi|hi
 ·have h1:=h.is
  rw [hq] at h1
  have h2:=of_decide_eq_false h1.symm
  have M:=h.high hi
  rw [Lk.cmp_lt] at M
  rw [Eu xs i hi]
  unfold setL
  rw [Lk.cmp_zero] at h2
  have h4:(e_ xs i).p≠n.p:=λe=>h2 ⟨hi,e⟩
  rw [if_pos,List.singleton_append]
  rcases Pt.lin.tri n.p (e_ xs i).p with h5|h5|h5
  ·exact h5
  ·exact absurd h5.symm h4
  exact absurd h5 M
 rw [List.drop_eq_nil_of_le hi];rfl
theorem setL_there(h:BFound Lk.cmp xs n i q)(ha:xs.Pairwise Lk.lt)(hq:q=true):i<xs.length/\setL n xs=xs.set i n:=by
 have h1:=h.is
 rw [hq] at h1
 obtain ⟨hi,h2⟩:=of_decide_eq_true h1.symm
 refine ⟨hi,?_⟩
 rw [Lk.cmp_zero] at h2
 conv=>lhs;rw [←List.take_append_drop i xs]
 rw [setL_app _ (lk_below h ha),Eu xs i hi]
 unfold setL
 rw [if_neg (λM=>by unfold Lk.lt at M;rw [h2] at M;exact Pt.lin.irr _ M),if_pos h2,List.set_eq_take_append_cons_drop,if_pos hi]
theorem set_self(hi:i<xs.length)(h:e_ xs i=n):xs.set i n=xs:=by
 rw [←h,Cx xs i hi];exact List.set_getElem_self hi
end
section
variable {P:Lk->Bool}{xs:List Lk}{j:Nat}
def keptN(P:Lk->Bool)(xs:List Lk)(j:Nat):Nat:=((xs.take j).filter P).length
def keepL(P:Lk->Bool)(xs:List Lk)(j:Nat):List Lk:=(xs.take j).filter P++xs.drop j
theorem keepL_zero:keepL P xs 0=xs:=by simp [keepL]
theorem keptN_zero:keptN P xs 0=0:=by simp [keptN]
theorem keepL_end(h:xs.length<=j):keepL P xs j=xs.filter P:=by unfold keepL;rw [List.take_of_length_le h,List.drop_eq_nil_of_le h,List.append_nil]
theorem keepL_len:(keepL P xs j).length=keptN P xs j+(xs.length - j):=by simp [keepL,keptN]
theorem keptN_le:keptN P xs j<=j:=by
 unfold keptN
 have:=List.length_filter_le P (xs.take j)
 rw [List.length_take] at this
 omega
theorem keepL_at(h:j<xs.length):e_ (keepL P xs j) (keptN P xs j:Int)=e_ xs j:=by
 have M:=keepL_len (P:=P) (xs:=xs) (j:=j)
 rw [Cx _ _ om,Cx xs j h]
 unfold keepL keptN
 rw [List.getElem_append_right (Nat.le_refl _)]
 simp
theorem keep_yes(h:j<xs.length)(M:P (e_ xs j)=true):keepL P xs (j+1)=keepL P xs j/\keptN P xs (j+1)=keptN P xs j+1:=by
 unfold keepL keptN
 rw [Ct xs j h,List.filter_append,Eu xs j h]
 simp [M]
theorem keep_no(h:j<xs.length)(M:P (e_ xs j)=false):keptN P xs (j+1)=keptN P xs j:=by
 unfold keptN
 rw [Ct xs j h,List.filter_append]
 simp [M]
theorem keep_copy(h:j<xs.length)(hp:P (e_ xs j)=false){q:Nat}(hq:q=xs.length - j - 1) :
  (keepL P xs j).take (keptN P xs j)++((keepL P xs j).drop (keptN P xs j+1)).take q++(keepL P xs j).drop (keptN P xs j+q)=keepL P xs (j+1)++(keepL P xs j).drop (keptN P xs j+q):=by
 congr 1
 have e:keepL P xs j=(xs.take j).filter P++(e_ xs j::xs.drop (j+1)):=by unfold keepL;rw [←Eu xs j h]
 have e2:keepL P xs (j+1)=(xs.take j).filter P++xs.drop (j+1):=by
  unfold keepL
  rw [Ct xs j h,List.filter_append]
  simp [hp]
 have M:keptN P xs j=((xs.take j).filter P).length:=rfl
 rw [e2,e,M]
 generalize (xs.take j).filter P=A
 rw [List.take_left' rfl,show A.length+1=(A++[e_ xs j]).length by simp,show A++e_ xs j::xs.drop (j+1)=(A++[e_ xs j])++xs.drop (j+1) by simp,List.drop_left' rfl,List.take_of_length_le<|by rw [List.length_drop];omega]
theorem keep_take{zs:List Lk}{m:Nat}(M:m=(keepL P xs (j+1)).length):(keepL P xs (j+1)++zs).take m=keepL P xs (j+1):=by
 rw [M];exact List.take_left' rfl
end
theorem fitgone{nd kd wd mo nw:Int}{xs:List Lk}(h:checkS nd xs=0)(M:0<=nw/\nw<=1048576):∀j:Nat,j<(goneL kd wd mo nw xs).length->FitOk nd (e_ (goneL kd wd mo nw xs) j):=λj hj=>gone_fit h M _ (Bx om om)
theorem fitone{nd:Int}{e:Ev}(h:FitOk nd e):∀j:Nat,j<[e].length->FitOk nd (e_ [e] (j:Int)):=λj hj=>by
 obtain rfl:j=0:=by simpa using hj
 exact h
end Go.Sl
/- Windows: the reference's way to apply an event. The plain laws. No Go. No conditions. -/
namespace Go.Sl
end Go.Sl
/- Windows: what a stream with cuts leads to. The plain laws. No Go. No conditions. -/
namespace Go.Sl
variable{T kd last mo nd wd:Int}{xs:List Lk}{m:Nat}{es out:List Ev}
theorem ageL_ind{P:List Lk->List Ev->Prop}(hs:∀xs out,(0<xs.length/\minT xs+wd<=T)->P xs out->P (xs.filter (inW 2 wd mo (minT xs+wd) xs)) (out++goneL 2 wd mo (minT xs+wd) xs)) :
  ∀(n:Nat) (xs:List Lk) (out:List Ev),xs.length<=n->P xs out->P (ageL wd mo T xs out).1 (ageL wd mo T xs out).2/\¬(0<(ageL wd mo T xs out).1.length/\minT (ageL wd mo T xs out).1+wd<=T)
 |n,xs,out,hn,hP=>by
  by_cases h:0<xs.length/\minT xs+wd<=T
  ·rw [ageL_step h]
   have M:(xs.filter<|inW 2 wd mo (minT xs+wd) xs).length<xs.length:=age_less h.1
   cases n with
   |zero=>omega
   |succ n=>exact ageL_ind hs n _ _ om (hs xs out h hP)
  rw [ageL_stop h];exact ⟨hP,h⟩
theorem setL_filter{n:Lk}{P:Lk->Bool}(hn:P n=true)(ha:xs.Pairwise Lk.lt):setL n (xs.filter P)=(setL n xs).filter P:=by
 induction xs with
 |nil=>simp [setL,hn]
 |cons l ls ih=>
  obtain ⟨h1,h2⟩:=List.pairwise_cons.1 ha
  have hlt:∀{z:Lk},(z.p=n.p\/Lk.lt n z)->(∀x∈ls,Lk.lt z x)->setL n (ls.filter P)=n::ls.filter P:=fun {z} hz hx=>by
   cases hf:ls.filter P with
   |nil=>rfl
   |cons y ys=>
    have M:Lk.lt z y:=hx y (List.mem_filter.1<|by rw [hf];exact List.mem_cons_self).1
    unfold setL
    rw [if_pos]
    rcases hz with hz|hz
    ·unfold Lk.lt at M ⊢; rw [←hz];exact M
    exact Pt.lin.tr _ _ _ hz M
  conv=>rhs;unfold setL
  by_cases hl:Lk.lt n l
  ·rw [if_pos hl,show (n::l::ls).filter P=n::(l::ls).filter P by rw [List.filter_cons,if_pos hn]]
   by_cases hp:P l=true
   ·rw [show (l::ls).filter P=l::ls.filter P by rw [List.filter_cons,if_pos hp]];unfold setL;rw [if_pos hl]
   rw [show (l::ls).filter P=ls.filter P by rw [List.filter_cons,if_neg hp]];exact hlt (.inr hl) h1
  rw [if_neg hl]
  by_cases he:l.p=n.p
  ·rw [if_pos he,List.filter_cons,List.filter_cons,if_pos hn]
   by_cases hp:P l=true
   ·rw [if_pos hp];unfold setL;rw [if_neg hl,if_pos he]
   rw [if_neg hp];exact hlt (.inl he) h1
  rw [if_neg he,List.filter_cons,List.filter_cons]
  by_cases hp:P l=true
  ·rw [if_pos hp,if_pos hp];conv=>lhs;unfold setL
   rw [if_neg hl,if_neg he,ih h2]
  rw [if_neg hp,if_neg hp];exact ih h2
theorem stepL_filter{e:Ev}{P:Lk->Bool}(hn:P (ei e)=true)(M:xs.Pairwise Lk.lt):ep (xs.filter P) e=(ep xs e).filter P:=by
 unfold ep
 by_cases h:e.kd=1
 ·rw [if_pos h,if_pos h];exact setL_filter hn M
 rw [if_neg h,if_neg h,List.filter_filter,List.filter_filter]
 exact List.filter_congr λx _=>Bool.and_comm _ _
theorem pw_all{α:Type}{R:α->α->Prop}(h:∀a c,R a c):∀l:List α,l.Pairwise R
 |[]=> .nil
 |x::xs=>List.pairwise_cons.2 ⟨λy _=>h x y,pw_all h xs⟩
def aliveB(wd T:Int)(x:Lk):Bool:=decide (T - x.tm<wd)
theorem inW_alive(wd mo T:Int)(ys xs:List Lk):xs.filter (inW 2 wd mo T ys)=xs.filter (aliveB wd T):=List.filter_congr λx _=>inW2 wd mo T ys x
theorem alive_two{t:Int}(h:t<=T)(xs:List Lk):(xs.filter (aliveB wd t)).filter (aliveB wd T)=xs.filter (aliveB wd T):=by
 rw [List.filter_filter]
 refine List.filter_congr λx _=>?_
 unfold aliveB
 by_cases h1:T - x.tm<wd
 ·rw [decide_eq_true h1,decide_eq_true (show t - x.tm<wd by omega)];rfl
 rw [decide_eq_false h1];rfl
structure AgB (nd wd last T:Int) (m:Nat) (all xs:List Lk) (out:List Ev):Prop where
 inv:SlI nd 2 wd last xs
 st:xs=out.foldl ep []
 fit:∀e∈out,FitOk nd e
 asc:out.Pairwise λa b=>a.tm<=b.tm
 le:∀e∈out,e.tm<=T
 bef:∀e∈out,∀x∈xs,e.tm<=x.tm+wd
 al:xs.filter (aliveB wd T)=all.filter (aliveB wd T)
 sum:xs.length+out.length<=m
theorem AgB.step{all:List Lk}(h:AgB nd wd last T m all xs out)(h0:0<=last)(hT:T<=1048576)(hs:0<xs.length/\minT xs+wd<=T) :
  AgB nd wd last T m all (xs.filter<|inW 2 wd mo (minT xs+wd) xs) (out++goneL 2 wd mo (minT xs+wd) xs):=by
 have hf:=h.inv.first rfl hs.1
 obtain ⟨⟨x0,aa,e0⟩,ad⟩:=minT_spec hs.1
 refine ⟨h.inv.filter _,?_,λe he=>?_,List.pairwise_append.2 ⟨h.asc,?_,λa ha c hc=>?_⟩,λe he=>?_,λe he x hx=>?_,?_,?_⟩
 ·rw [List.foldl_append,←h.st,gone_steps h.inv.val]
 ·rcases List.mem_append.1 he with he|he
  ·exact h.fit e he
  exact gone_fit h.inv.val om e he
 ·unfold goneL
  rw [List.pairwise_map]
  exact pw_all (λa c=>Int.le_refl _) _
 ·unfold goneL at hc
  obtain ⟨z,hz,rfl⟩:=List.mem_map.1 hc
  show a.tm<=minT xs+wd
  rw [e0];exact h.bef a ha x0 aa
 ·rcases List.mem_append.1 he with he|he
  ·exact h.le e he
  unfold goneL at he
  obtain ⟨z,hz,rfl⟩:=List.mem_map.1 he
  exact hs.2
 ·obtain ⟨ab,M⟩:=List.mem_filter.1 hx
  rcases List.mem_append.1 he with he|he
  ·exact h.bef e he x ab
  unfold goneL at he
  obtain ⟨z,hz,rfl⟩:=List.mem_map.1 he
  rw [inW2] at M
  have:=of_decide_eq_true M
  show minT xs+wd<=x.tm+wd
  omega
 ·rw [inW_alive,alive_two hs.2,h.al]
 have h1:=gone_len 2 wd mo (minT xs+wd) xs
 have h2:=h.sum
 rw [List.length_append];omega
theorem AgB.aged{all:List Lk}(h:AgB nd wd last T m all xs out)(h0:0<=last)(hl:last<=T)(hT:T<=1048576) :
  AgB nd wd T T m all (ageL wd mo T xs out).1 (ageL wd mo T xs out).2:=by
 obtain ⟨M,h2⟩:=ageL_ind (mo:=mo) (P:=λxs out=>AgB nd wd last T m all xs out) (λxs out hs hP=>hP.step h0 hT hs) xs.length xs out (Nat.le_refl _) h
 exact {M with inv:=M.inv.later hl λ_=>h2}
structure BehB (nd wd:Int) (es:List Ev) (k:Nat) (s:List Lk×List Ev):Prop where
 inv:SlI nd 2 wd (lastT es k) s.1
 st:s.1=s.2.foldl ep []
 fit:∀e∈s.2,FitOk nd e
 asc:s.2.Pairwise λa b=>a.tm<=b.tm
 le:∀e∈s.2,e.tm<=lastT es k
 al:s.1=((es.take k).foldl ep []).filter (aliveB wd<|lastT es k)
 sum:s.1.length+s.2.length<=2*k
theorem filter_alive(h:SlI nd 2 wd T xs):xs.filter (aliveB wd T)=xs:=List.filter_eq_self.2 λx M=>by
 have:=h.al rfl x M
 unfold aliveB
 exact decide_eq_true om
theorem steps_val(M:0<=nd/\nd<=64):∀(es:List Ev) (xs:List Lk),checkS nd xs=0->(∀e∈es,FitOk nd e)->checkS nd (es.foldl ep xs)=0
 |[],xs,hx,_=>hx
 |e::es,xs,hx,he=>steps_val M es (ep xs e) (stepL_val hx<|he e List.mem_cons_self) λy hy=>he y (List.mem_cons_of_mem _ hy)
theorem valNil(M:0<=nd/\nd<=64):checkS nd []=0:=(SlI.nil (kd:=1) (wd:=0) (last:=0) M).val
theorem StOk.mem(h:StOk nd es):∀e∈es,FitOk nd e:=λe M=>by
 obtain ⟨j,hj,rfl⟩:=E7 M
 exact h.fit j hj
theorem BehB.all{nd wd mo:Int}{es:List Ev}(h:StOk nd es)(hw:1<=wd):∀k,k<=es.length->BehB nd wd es k (slideS 2 wd mo (es.take k))
 |0,_=>⟨SlI.nil h.nodes,rfl,λe he=>(by cases he),List.Pairwise.nil,λe he=>(by cases he),rfl,Nat.le_refl _⟩
 |k+1,hk=>by
  have M:=BehB.all (mo:=mo) h hw k om
  have aa:=h.fit k om
  have ad:=h.asc k om
  have h0:0<=lastT es k:=by
   cases k with
   |zero=>exact Int.le_refl _
   |succ k=>rw [lastT_succ];exact (h.fit k om).tm.1
  rw [slideS_succ om]
  generalize hs:slideS 2 wd mo (es.take k)=s at M ⊢
  generalize hee:e_ es k=e at aa ad ⊢
  obtain ⟨xs,out⟩:=s
  have hA:AgB nd wd (lastT es k) e.tm (2*k) ((es.take k).foldl ep []) xs out:=
   ⟨M.inv,M.st,M.fit,M.asc,λe' ab=>by have:=M.le e' ab;omega,λe' ab x hx=>by have h1:=M.le e' ab;have h2:=M.inv.al rfl x hx;omega,by
    have:=M.al
    simp only at this
    rw [this,alive_two ad],M.sum⟩
  have hG:=hA.aged (mo:=mo) h0 ad aa.tm.2
  have ah:evStep 2 wd mo (xs,out) e=(ep (ageL wd mo e.tm xs out).1 e,(ageL wd mo e.tm xs out).2++[e]):=rfl
  rw [ah]
  generalize ageL wd mo e.tm xs out=a at hG
  have hlt:lastT es (k+1)=e.tm:=by rw [lastT_succ,hee]
  have hI:=hG.inv.step aa rfl (λ_=>hw)
  have ae:checkS nd ((es.take k).foldl ep [])=0:=steps_val h.nodes _ _ (valNil h.nodes) λx hx=>h.mem x (List.mem_of_mem_take hx)
  refine ⟨by rw [hlt];exact hI,?_,λx hx=>?_,List.pairwise_append.2 ⟨hG.asc,List.pairwise_singleton _ _,λx hx y hy=>?_⟩,λx hx=>?_,?_,?_⟩
  ·simp only;rw [List.foldl_append,←hG.st];rfl
  ·rcases List.mem_append.1 hx with hx|hx
   ·exact hG.fit x hx
   rw [List.mem_singleton.1 hx];exact aa
  ·rw [List.mem_singleton.1 hy];exact hG.le x hx
  ·rw [hlt]
   rcases List.mem_append.1 hx with hx|hx
   ·exact hG.le x hx
   rw [List.mem_singleton.1 hx];exact Int.le_refl _
  ·simp only
   have ai:aliveB wd e.tm (ei e)=true:=by unfold aliveB;exact decide_eq_true (by show e.tm - e.tm<wd;omega)
   rw [hlt,steps_succ om,hee,←stepL_filter ai (checkS_ok ae).2.2,←hG.al,filter_alive hG.inv]
  have h1:=stepL_len a.1 e
  have h2:=hG.sum
  simp only [List.length_append,List.length_cons,List.length_nil];omega
theorem last_of:∀(K:List Lk),K≠[]->K.Pairwise Lk.lt->∃z∈K,∀y∈K,y=z\/Lk.late y z
 |[],h,_=>absurd rfl h
 |[x],_,_=>⟨x,List.mem_cons_self,λy hy=> .inl<|by simpa using hy⟩
 |x::y::ys,_,hp=>by
  obtain ⟨h1,h2⟩:=List.pairwise_cons.1 hp
  obtain ⟨z,hz,hh⟩:=last_of (y::ys) (by simp) h2
  have aa:=h1 z hz
  by_cases hl:Lk.late x z
  ·exact ⟨z,List.mem_cons_of_mem _ hz,λw hw=>by
    rcases List.mem_cons.1 hw with rfl|hw
    ·exact .inr hl
    exact hh w hw⟩
  have M:Lk.late z x:=by unfold Lk.late Lk.lt Pt.lt at *; omega
  refine ⟨x,List.mem_cons_self,λw hw=>?_⟩
  rcases List.mem_cons.1 hw with rfl|hw
  ·exact .inl rfl
  rcases hh w hw with rfl|hwz
  ·exact .inr M
  right;unfold Lk.late Lk.lt Pt.lt at *; omega
theorem one_eq{z:Lk}:∀(K:List Lk),K.Pairwise Lk.lt->(K.filter λy=>decide (y=z)).length<=1
 |[],_=>by simp
 |x::xs,h=>by
  obtain ⟨h1,h2⟩:=List.pairwise_cons.1 h
  rw [List.filter_cons]
  by_cases hx:x=z
  ·rw [if_pos (by simpa using hx),List.filter_eq_nil_iff.2 λy hy=>?_]
   ·simp
   intro hd
   have M:y=z:=of_decide_eq_true hd
   have:=h1 y hy
   rw [hx,M] at this
   exact Pt.lin.irr _ this
  rw [if_neg (by simpa using hx)];exact one_eq xs h2
theorem filt_two(P R:Lk->Bool):∀K:List Lk,(∀y∈K,P y=true\/R y=true)->K.length<=(K.filter P).length+(K.filter R).length
 |[],_=>by simp
 |x::xs,h=>by
  have ih:=filt_two P R xs λy M=>h y (List.mem_cons_of_mem _ M)
  have hx:=h x List.mem_cons_self
  simp only [List.filter_cons,List.length_cons]
  cases hP:P x<;>cases hR:R x<;>simp_all<;>omega
theorem filt_len{P:Lk->Bool}{K:List Lk}(h:K.Sublist xs):(K.filter P).length<=(xs.filter P).length:=(h.filter P).length_le
theorem last_len{nw:Int}(ha:xs.Pairwise Lk.lt)(hm:0<=mo):((xs.filter (inW 3 wd mo nw xs)).length:Int)<=mo:=by
 generalize hK:xs.filter (inW 3 wd mo nw xs)=K
 have M:K.Sublist xs:=by rw [←hK];exact List.filter_sublist
 have aa:=ha.sublist M
 by_cases h0:K=[]
 ·rw [h0];simpa using hm
 obtain ⟨z,hz,hl⟩:=last_of K h0 aa
 have h1:=filt_two (λy=>decide<|Lk.late y z) (λy=>decide<|y=z) K λy hy=>by
  rcases hl y hy with h|h
  ·exact .inr<|decide_eq_true h
  exact .inl<|decide_eq_true h
 have h2:=one_eq (z:=z) K aa
 have h3:=filt_len (P:=λy=>decide<|Lk.late y z) M
 have h4:inW 3 wd mo nw xs z=true:=by rw [←hK] at hz;exact (List.mem_filter.1 hz).2
 unfold inW at h4
 rw [if_neg dc,if_pos rfl] at h4
 have h5:=of_decide_eq_true h4
 unfold rankL at h5
 omega
structure CntB (nd mo:Int) (es:List Ev) (k:Nat) (s:List Lk×List Ev):Prop where
 inv:SlI nd 3 0 (lastT es k) s.1
 st:s.1=s.2.foldl ep []
 fit:∀e∈s.2,FitOk nd e
 len:(s.1.length:Int)<=mo
 sum:s.1.length+s.2.length<=2*k
theorem evStep3(s:List Lk×List Ev)(e:Ev):evStep 3 wd mo s e=((ep s.1 e).filter (inW 3 wd mo e.tm (ep s.1 e)),s.2++[e]++goneL 3 wd mo e.tm (ep s.1 e)):=rfl
theorem CntB.all(h:StOk nd es)(hm:0<=mo):∀k,k<=es.length->CntB nd mo es k (slideS 3 0 mo (es.take k))
 |0,_=>⟨SlI.nil h.nodes,rfl,λe he=>(by cases he),hm,Nat.le_refl _⟩
 |k+1,hk=>by
  have ih:=CntB.all h hm k om
  have M:=h.fit k om
  have aa:=h.asc k om
  rw [slideS_succ om,evStep3]
  generalize slideS 3 0 mo (es.take k)=s at ih ⊢
  generalize hee:e_ es k=e at M aa ⊢
  have hlt:lastT es (k+1)=e.tm:=by rw [lastT_succ,hee]
  have hI:=(ih.inv.later aa<|λh=>absurd h dc).step M rfl (λh=>absurd h dc)
  have ae:=gone_len 3 0 mo e.tm (ep s.1 e)
  have ad:=stepL_len s.1 e
  have ab:=ih.sum
  refine ⟨by rw [hlt];exact hI.filter _,?_,λx hx=>?_,last_len (checkS_ok hI.val).2.2 hm,?_⟩
  ·simp only;rw [List.foldl_append,List.foldl_append,←ih.st,←gone_steps hI.val];rfl
  ·rcases List.mem_append.1 hx with hx|hx
   ·rcases List.mem_append.1 hx with hx|hx
    ·exact ih.fit x hx
    rw [List.mem_singleton.1 hx];exact M
   exact gone_fit hI.val M.tm x hx
  simp only [List.length_append,List.length_cons,List.length_nil];omega
theorem same_of(H:∀k:Nat,k<es.length->evStep kd wd mo ((es.take k).foldl ep [],es.take k) (e_ es k)=(ep ((es.take k).foldl ep []) (e_ es k),es.take k++[e_ es k])) :
  ∀k,k<=es.length->slideS kd wd mo (es.take k)=((es.take k).foldl ep [],es.take k)
 |0,_=>rfl
 |k+1,hk=>by
  have M:k<es.length:=by omega
  rw [slideS_succ M,same_of H k om,H k M,steps_succ M,Ct es k M]
theorem slide_same(H:∀k:Nat,k<es.length->evStep kd wd mo ((es.take k).foldl ep [],es.take k) (e_ es k)=(ep ((es.take k).foldl ep []) (e_ es k),es.take k++[e_ es k])):(slideS kd wd mo es).2=es:=by
 have:=same_of H es.length (Nat.le_refl _)
 rw [List.take_length] at this
 rw [this]
theorem all_same(wd mo:Int)(es:List Ev):(slideS 1 wd mo es).2=es:=slide_same λk M=>rfl
theorem StOk.up(h:StOk nd es):∀k,k<=es.length->∀j,j<k->(e_ es j).tm<=lastT es k
 |0,_,j,hj=>absurd hj (Nat.not_lt_zero _)
 |k+1,hk,j,hj=>by
  rw [lastT_succ]
  rcases Nat.lt_succ_iff_lt_or_eq.1 hj with hj|rfl
  ·exact Int.le_trans (h.up k om j hj)<|h.asc k om
  exact Int.le_refl _
end Go.Sl
namespace Go.Sl
variable{i j:Nat}
variable {α:Type}[Inhabited α]
def insG(l:List α)(j:Nat)(x:α):List α:=l.take j++x::l.drop j
def placeG(cf:α->α->Int)(l:List α)(x:α):Nat->Nat
 |0=>0
 |j+1=>if cf x (e_ l j)<0 then placeG cf l x j else j+1
def insertG(cf:α->α->Int)(l:List α)(x:α):List α:=insG l (placeG cf l x l.length) x
def isortG(cf:α->α->Int)(xs:List α):List α:=xs.foldl (insertG cf) []
theorem insAt_permG(l:List α)(j:Nat)(x:α):(insG l j x).Perm (x::l):=by
 have:=List.perm_middle (a:=x) (l₁:=l.take j) (l₂:=l.drop j)
 rw [List.take_append_drop] at this;exact this
theorem foldI_permG(M:α->α->Int):∀(xs acc:List α),(xs.foldl (insertG M) acc).Perm (xs++acc)
 |[],acc=> .refl _
 |x::xs,acc=>by
  rw [List.foldl_cons]
  refine (foldI_permG M xs _).trans ?_
  refine (List.Perm.append_left xs<|insAt_permG acc _ x).trans ?_
  exact List.perm_middle
theorem isort_permG(M:α->α->Int)(xs:List α):(isortG M xs).Perm xs:=by
 have:=foldI_permG M xs []
 rwa [List.append_nil] at this
theorem isort_takeG(M:α->α->Int){xs:List α}(h:i<xs.length):isortG M (xs.take (i+1))=insertG M (isortG M (xs.take i)) (e_ xs i):=by
 unfold isortG;rw [take_at xs i h,List.foldl_append];rfl
theorem isort_tlenG(M:α->α->Int){xs:List α}(h:i<=xs.length):(isortG M (xs.take i)).length=i:=by
 rw [(isort_permG M _).length_eq,List.length_take];omega
theorem at_midG{l r:List α}{x:α}(h:j<=l.length):e_ (insG l j x++r) j=x:=by
 unfold insG
 have M:(l.take j).length=j:=by rw [List.length_take];omega
 rw [at_nat,List.getD_eq_getElem?_getD,List.append_assoc,List.getElem?_append_right (by omega),M,Nat.sub_self];rfl
theorem at_prevG{l r:List α}{x:α}(h0:0<j)(h:j<=l.length):e_ (insG l j x++r) ((j:Int) - 1)=e_ l ((j:Int) - 1):=by
 unfold insG
 have M:(l.take j).length=j:=by rw [List.length_take];omega
 have e:(j:Int) - 1=((j - 1:Nat):Int):=by omega
 rw [e,at_nat,at_nat,List.getD_eq_getElem?_getD,List.getD_eq_getElem?_getD,List.append_assoc,List.getElem?_append_left (by omega),List.getElem?_take,if_pos<|by omega]
theorem ins_swapG{l r:List α}{x:α}(h0:0<j)(h:j<=l.length):((insG l j x++r).set j (e_ l ((j:Int) - 1))).set (j - 1) x=insG l (j - 1) x++r:=by
 obtain ⟨m,rfl⟩:∃m,j=m+1:=⟨j - 1,by omega⟩
 have e:((m+1:Nat):Int) - 1=(m:Int):=by omega
 rw [e,Nat.add_sub_cancel]
 have M:(l.take m).length=m:=by rw [List.length_take];omega
 have e1:insG l (m+1) x++r=l.take m++(e_ l m::x::(l.drop (m+1)++r)):=by
  unfold insG;rw [take_at l m (by omega)];simp
 have e2:insG l m x++r=l.take m++(x::e_ l m::(l.drop (m+1)++r)):=by
  unfold insG;rw [drop_at l m (by omega)];simp
 rw [e1,e2,List.set_append_right _ _<|by omega,M,Nat.add_sub_cancel_left,List.set_append_right _ _<|by omega,M,Nat.sub_self];rfl
theorem ins_startG{M:α->α->Int}{xs:List α}(h:i<xs.length):isortG M (xs.take i)++xs.drop i=insG (isortG M (xs.take i)) i (e_ xs i)++xs.drop (i+1):=by
 have hl:=isort_tlenG M (Nat.le_of_lt h)
 generalize isortG M (xs.take i)=l at hl ⊢
 unfold insG
 rw [drop_at xs i h,List.take_of_length_le (show l.length<=i by omega),List.drop_eq_nil_of_le (show l.length<=i by omega)];simp
theorem ins_endsG{M:α->α->Int}{xs:List α}(h:i<xs.length)(hp:placeG M (isortG M (xs.take i)) (e_ xs i) j=placeG M (isortG M (xs.take i)) (e_ xs i) i)(hj:j=0\/(0<j/\¬M (e_ xs i) (e_ (isortG M (xs.take i)) ((j:Int) - 1))<0)):insG (isortG M (xs.take i)) j (e_ xs i)++xs.drop (i+1)=isortG M (xs.take (i+1))++xs.drop (i+1):=by
 have hl:=isort_tlenG M (Nat.le_of_lt h)
 have aa:placeG M (isortG M<|xs.take i) (e_ xs i) j=j:=by
  rcases hj with rfl|⟨h0,hn⟩
  ·rfl
  obtain ⟨m,rfl⟩:∃m,j=m+1:=⟨j - 1,by omega⟩
  rw [show ((m+1:Nat):Int) - 1=(m:Int) by omega] at hn
  unfold placeG;rw [if_neg hn]
 rw [isort_takeG M h]
 unfold insertG
 rw [hl,←hp,aa]
theorem place_stepG{M:α->α->Int}{l:List α}{x:α}(h0:0<j)(h:M x (e_ l ((j:Int) - 1))<0):placeG M l x (j - 1)=placeG M l x j:=by
 obtain ⟨m,rfl⟩:∃m,j=m+1:=⟨j - 1,by omega⟩
 rw [show ((m+1:Nat):Int) - 1=(m:Int) by omega] at h
 conv=>rhs;unfold placeG
 rw [if_pos h];rfl
end Go.Sl
