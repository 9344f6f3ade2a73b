/- A part of the proofs of statements of this seat: contracts of functions, and the plain laws that they lean on. No conditions. -/
import Derived.Test.YtoagcglbkeomgaaGreatDoorQ10
set_option linter.unusedVariables false
set_option linter.unusedSimpArgs false
set_option linter.unusedSectionVars false
open Go.Proofs.Tryz (prog)
open List (replicate)
set_option maxHeartbeats 2000000
namespace Go.Sl
open Go.Proofs
set_option maxRecDepth 4000
variable{i n t:Int}{b:Nat}{lv:Value}{ls:List Int}
variable {κ:Ctx}{I:List Item}
theorem evmod{s x N:Int}(h1:0<=s)(Z:s<N)(h3:0<=x)(M:x<N - 1):(0<=Int.tmod (s+1+x) N/\Int.tmod (s+1+x) N<N)/\s≠Int.tmod (s+1+x) N:=by
 rw [Int.tmod_eq_emod_of_nonneg om]
 by_cases h:s+1+x<N
 ·rw [Int.emod_eq_of_lt om h];omega
 rw [show s+1+x=(s+1+x - N)+N by omega,Int.add_emod_right,Int.emod_eq_of_lt om om];omega
theorem fit_mk{kd tm u v w lb sg:Int}(hk:1<=kd/\kd<=3)(ht:0<=tm/\tm<=1048576)(hu:0<=u/\u<n)(hn:n<=64)(hv:kd=3->v=0)(Z:kd≠3->(0<=v/\v<n)/\u≠v)(M:kd=1->rightW w lb sg)(hz:kd≠1->w=0/\lb=0/\sg=0):FitOk n ⟨kd,tm,u,v,w,lb,sg⟩:=
 ⟨hk,ht,⟨by show 0<=u/\u<64;omega,hv,λh=>by have:=Z h;show (0<=v/\v<64)/\u≠v;omega⟩,M,by
  show u<n/\v<n
  by_cases h:kd=3
  ·have:=hv h;omega
  have:=Z h;omega,hz⟩
theorem MkEvent_base{b:Nat}{lv:Value}{ls:List Int}{i:Int}{n t:Int}(hl:∀q,Sl κ (deck b lv q::I) lv ls)(h0:0<=i)(hn:2<=n/\n<=64)(ht:0<=t/\t<=1000000):eu prog κ 34 [.pointer (some ⟨b,0,none⟩),e7 n,e7 t] (e8 b [lv,e7 i] 85::I) (λr J=>∃y:Ev×Int,((r = .agg #[e7 y.1.kd,e7 y.1.tm,e7 y.1.u,e7 y.1.v,e7 y.1.w,e7 y.1.lb,e7 y.1.sg]/\FitOk n y.1/\y.1.tm=t)/\0<=y.2)/\J=[]++deck b lv y.2::I):=by
 refine Ce3 Tryz.func34 C C ?_
 refine Af (Ge1 (A2 ty54 C) λb1=>Ad (Af (Gm C (Gm C (Gm C (G.e (Aj c_ C C (Next_ok (by repeat (first|exact AtF.head _ _|apply AtF.tail)) (Bv (hl _) Av) om om)) ?_))))))
 rintro _ _ ⟨_,_,⟨x2,i3,rfl,hx2,hi3,rfl⟩,rfl,rfl⟩
 show G prog κ _ _ _ _ ([(12,e7 x2),(11,e7 n),(10,.pointer (some ⟨b,0,none⟩)),(9,e7 t),(6,.pointer (some ⟨b1,0,none⟩)),(0,.pointer (some ⟨b,0,none⟩)),(1,e7 n),(2,e7 t)]:Env) (e8 b1 [e7 0,e7 0,e7 0,e7 0,e7 0,e7 0,e7 0] 54::e8 b [lv,e7 i3] 85::I)
 refine Gr (Bp (cells:=[_,_,_,_,_,_,_]) ty54 Dg pl54 C C) (Ge1 (A2 ty54 C) λb4=>Ge0 (Es7_7 ty54) ?_)
 refine Ad (W.cut (σ:=Int×Int) (λs=>([(0,.pointer (some ⟨b,0,none⟩)),(2,e7 t),(6,.pointer (some ⟨b1,0,none⟩)),(7,.pointer (some ⟨b4,0,none⟩))]:Env)) (λs=>e8 b4 [e7 1,e7 t,e7 x2,e7 (s.1),e7 0,e7 0,e7 0] 54::e8 b1 [e7 0,e7 0,e7 0,e7 0,e7 0,e7 0,e7 0] 54::e8 b [lv,e7 (s.2)] 85::I) (λs=>((0<=s.1/\s.1<n)/\x2≠s.1)/\(0<=s.2)) ?_ ?_)
 ·refine Bq mixed (Cc (e8 b1 [e7 0,e7 0,e7 0,e7 0,e7 0,e7 0,e7 0] 54::I) 12 (Dr 0 C (Ac fld54_2 C) (Dr 3 C (Ai C) (Dr 4 C (Ai C) (Dr 5 C (Rsu C C) (Dr 8 C (Ai C) (Dl (rs:=[1,6]) kr C C (Ez ?_ (Ed ?_)))))))))
  ·refine Sr C (A7 ef) Bf ?_
   refine Dr 2 C (Rad C C) (Ds1 6 (Se C (Aj c_ C C (Next_ok (by repeat (first|exact AtF.head _ _|apply AtF.tail)) (Bv (hl _) Av) om om)) ?_))
   rintro _ _ ⟨_,_,⟨x5,i6,rfl,hx5,hi6,rfl⟩,rfl,rfl⟩
   refine ⟨Bf,?_⟩
   show D prog κ _ _ _ _ _ _ _ ([(20,e7 x5),(16,e7 (x2+1)),(15,e7 x2),(22,e7 n),(19,e7 (n - 1)),(18,e7 n),(17,.pointer (some ⟨b,0,none⟩)),(14,.pointer (some ⟨b4,2,none⟩)),(7,.pointer (some ⟨b4,0,none⟩)),(13,.agg #[e7 1,e7 t,e7 x2,e7 0,e7 0,e7 0,e7 0]),(12,e7 x2),(11,e7 n),(10,.pointer (some ⟨b,0,none⟩)),(9,e7 t),(6,.pointer (some ⟨b1,0,none⟩)),(0,.pointer (some ⟨b,0,none⟩)),(1,e7 n),(2,e7 t)]:Env) (e8 b4 [e7 1,e7 t,e7 x2,e7 0,e7 0,e7 0,e7 0] 54::e8 b1 [e7 0,e7 0,e7 0,e7 0,e7 0,e7 0,e7 0] 54::e8 b [lv,e7 i6] 85::I)
   refine Dr 7 C (Rad C C) (Dr 9 C (Runs.rem C C om) (Dr 10 C (Ac fld54_3 C) (Ds1 11 (Se0 C (Ek ef) ?_))))
   refine Dz ?_
   have htm:=evmod (s:=x2) (x:=x5) (N:=n) om om om om
   exact V.mi ((Int.tmod ((x2+1)+x5) n),(i6)) (by dsimp only;exact ⟨htm,om⟩)
  refine Se C (Aj c_ C C (Next_ok (by repeat (first|exact AtF.head _ _|apply AtF.tail)) (Bv (hl _) Av) om om)) ?_
  rintro _ _ ⟨_,_,⟨x7,i8,rfl,hx7,hi8,rfl⟩,rfl,rfl⟩
  refine ⟨Bf,?_⟩
  show D prog κ _ _ _ _ _ _ _ ([(20,e7 x7),(22,e7 n),(19,e7 (n - 1)),(18,e7 n),(17,.pointer (some ⟨b,0,none⟩)),(14,.pointer (some ⟨b4,2,none⟩)),(7,.pointer (some ⟨b4,0,none⟩)),(13,.agg #[e7 1,e7 t,e7 x2,e7 0,e7 0,e7 0,e7 0]),(12,e7 x2),(11,e7 n),(10,.pointer (some ⟨b,0,none⟩)),(9,e7 t),(6,.pointer (some ⟨b1,0,none⟩)),(0,.pointer (some ⟨b,0,none⟩)),(1,e7 n),(2,e7 t)]:Env) (e8 b4 [e7 1,e7 t,e7 x2,e7 0,e7 0,e7 0,e7 0] 54::e8 b1 [e7 0,e7 0,e7 0,e7 0,e7 0,e7 0,e7 0] 54::e8 b [lv,e7 i8] 85::I)
  refine Ds1 1 (Sr C (A7 ef) Bf ?_)
  refine Dr 2 C (Rad C C) (Dr 7 C (Rad C C) (Dr 9 C (Runs.rem C C om) (Dr 10 C (Ac fld54_3 C) (Ds1 11 (Se0 C (Ek ef) ?_)))))
  refine Dz ?_
  have htm:=evmod (s:=x2) (x:=x7) (N:=n) om om om om
  exact V.mi ((Int.tmod ((x2+1)+x7) n),(i8)) (by dsimp only;exact ⟨htm,om⟩)
 rintro ⟨vv,i9⟩ hp
 obtain ⟨hvv,hi9⟩:((0<=vv/\vv<n)/\x2≠vv)/\(0<=i9):=hp
 show W prog κ 56 _ _ ([(0,.pointer (some ⟨b,0,none⟩)),(2,e7 t),(6,.pointer (some ⟨b1,0,none⟩)),(7,.pointer (some ⟨b4,0,none⟩))]:Env) (e8 b4 [e7 1,e7 t,e7 x2,e7 vv,e7 0,e7 0,e7 0] 54::e8 b1 [e7 0,e7 0,e7 0,e7 0,e7 0,e7 0,e7 0] 54::e8 b [lv,e7 i9] 85::I)
 refine Ap (Af (Gm C (G.e (Aj c_ C C (Next_ok (by repeat (first|exact AtF.head _ _|apply AtF.tail)) (Bv (hl _) Av) om om)) ?_)))
 rintro _ _ ⟨_,_,⟨x9,i10,rfl,hx9,hi10,rfl⟩,rfl,rfl⟩
 show G prog κ _ _ _ _ ([(26,e7 x9),(25,.pointer (some ⟨b,0,none⟩)),(0,.pointer (some ⟨b,0,none⟩)),(2,e7 t),(6,.pointer (some ⟨b1,0,none⟩)),(7,.pointer (some ⟨b4,0,none⟩))]:Env) (e8 b4 [e7 1,e7 t,e7 x2,e7 vv,e7 0,e7 0,e7 0] 54::e8 b1 [e7 0,e7 0,e7 0,e7 0,e7 0,e7 0,e7 0] 54::e8 b [lv,e7 i10] 85::I)
 refine Ga C (Ad (A0 (Af (Gm C (Gr (C3 C C) (Ga C (Ad (A8 C (λc27=>?_) (λc27=>?_)))))))))
 ·refine Af (Gm C (Gf fld54_2 C (Gl ef ?_)))
  refine Gr (Bp (cells:=[_,_,_,_,_,_,_]) ty54 Dg pl54 C C) (Ge0 (Es7_7 ty54) ?_)
  exact Ad (Am (S1 6 C) (Ay (Be (Aq (E5 C ty54 C mm C (e8 b [lv,e7 i10] 85::I) Bf ⟨(⟨3,t,x2,0,0,0,0⟩,i10),⟨⟨rfl,fit_mk om om om om (λh=>by omega) (λh=>by omega) (λh=>by unfold rightW;omega) (λh=>by omega),rfl⟩,by show 0<=i10;omega⟩,rfl⟩)))))
 refine Af (Gm C (Gr (C3 C C) (Ga C (Ad (A8 C (λc34=>?_) (λc34=>?_))))))
 ·refine Af (Gm C (Gf fld54_2 C (Gl ef ?_)))
  refine Gf fld54_3 C (Gl ef ?_)
  refine Gr (Bp (cells:=[_,_,_,_,_,_,_]) ty54 Dg pl54 C C) (Ge0 (Es7_7 ty54) ?_)
  exact Ad (Am (S1 6 C) (Ay (Be (Aq (E5 C ty54 C mm C (e8 b [lv,e7 i10] 85::I) Bf ⟨(⟨2,t,x2,vv,0,0,0⟩,i10),⟨⟨rfl,fit_mk om om om om (λh=>by omega) (λh=>by omega) (λh=>by unfold rightW;omega) (λh=>by omega),rfl⟩,by show 0<=i10;omega⟩,rfl⟩)))))
 refine Aw (Al (Ah (Af (Gm C (G.e (Aj c_ C C (Next_ok (by repeat (first|exact AtF.head _ _|apply AtF.tail)) (Bv (hl _) Av) om om)) ?_)))))
 rintro _ _ ⟨_,_,⟨x11,i12,rfl,hx11,hi12,rfl⟩,rfl,rfl⟩
 show G prog κ _ _ _ _ ([(44,e7 x11),(43,.pointer (some ⟨b,0,none⟩)),(34,.bool (decide (5<=x9))),(36,.bool (decide (5<=x9))),(35,e7 x9),(27,.bool (decide (8<=x9))),(29,.bool (decide (8<=x9))),(28,e7 x9),(8,e7 x9),(26,e7 x9),(25,.pointer (some ⟨b,0,none⟩)),(0,.pointer (some ⟨b,0,none⟩)),(2,e7 t),(6,.pointer (some ⟨b1,0,none⟩)),(7,.pointer (some ⟨b4,0,none⟩))]:Env) (e8 b4 [e7 1,e7 t,e7 x2,e7 vv,e7 0,e7 0,e7 0] 54::e8 b1 [e7 0,e7 0,e7 0,e7 0,e7 0,e7 0,e7 0] 54::e8 b [lv,e7 i12] 85::I)
 refine Gr (Rad C C) (Gm C (G.e (Aj c_ C C (Next_ok (by repeat (first|exact AtF.head _ _|apply AtF.tail)) (Bv (hl _) Av) om om)) ?_))
 rintro _ _ ⟨_,_,⟨x13,i14,rfl,hx13,hi14,rfl⟩,rfl,rfl⟩
 show G prog κ _ _ _ _ ([(47,e7 x13),(46,.pointer (some ⟨b,0,none⟩)),(45,e7 (1+x11)),(44,e7 x11),(43,.pointer (some ⟨b,0,none⟩)),(34,.bool (decide (5<=x9))),(36,.bool (decide (5<=x9))),(35,e7 x9),(27,.bool (decide (8<=x9))),(29,.bool (decide (8<=x9))),(28,e7 x9),(8,e7 x9),(26,e7 x9),(25,.pointer (some ⟨b,0,none⟩)),(0,.pointer (some ⟨b,0,none⟩)),(2,e7 t),(6,.pointer (some ⟨b1,0,none⟩)),(7,.pointer (some ⟨b4,0,none⟩))]:Env) (e8 b4 [e7 1,e7 t,e7 x2,e7 vv,e7 0,e7 0,e7 0] 54::e8 b1 [e7 0,e7 0,e7 0,e7 0,e7 0,e7 0,e7 0] 54::e8 b [lv,e7 i14] 85::I)
 refine Gm C (G.e (Aj c_ C C (Next_ok (by repeat (first|exact AtF.head _ _|apply AtF.tail)) (Bv (hl _) Av) om om)) ?_)
 rintro _ _ ⟨_,_,⟨x15,i16,rfl,hx15,hi16,rfl⟩,rfl,rfl⟩
 show G prog κ _ _ _ _ ([(49,e7 x15),(48,.pointer (some ⟨b,0,none⟩)),(47,e7 x13),(46,.pointer (some ⟨b,0,none⟩)),(45,e7 (1+x11)),(44,e7 x11),(43,.pointer (some ⟨b,0,none⟩)),(34,.bool (decide (5<=x9))),(36,.bool (decide (5<=x9))),(35,e7 x9),(27,.bool (decide (8<=x9))),(29,.bool (decide (8<=x9))),(28,e7 x9),(8,e7 x9),(26,e7 x9),(25,.pointer (some ⟨b,0,none⟩)),(0,.pointer (some ⟨b,0,none⟩)),(2,e7 t),(6,.pointer (some ⟨b1,0,none⟩)),(7,.pointer (some ⟨b4,0,none⟩))]:Env) (e8 b4 [e7 1,e7 t,e7 x2,e7 vv,e7 0,e7 0,e7 0] 54::e8 b1 [e7 0,e7 0,e7 0,e7 0,e7 0,e7 0,e7 0] 54::e8 b [lv,e7 i16] 85::I)
 refine Gr (Ep C C (by unfold InR;omega)) (Gr (Rsu C C) (Gf fld54_4 C (Ge0 (Ek ef) ?_)))
 refine Gf fld54_5 C (Ge0 (Ek ef) ?_)
 refine Gf fld54_6 C (Ge0 (Ek ef) ?_)
 refine Ad (Am (S2 6 7 C C) (Af (Gl7 ty54 ?_)))
 refine Ge0 (Es7_7 ty54) ?_
 exact Ad (Ay (E5 C ty54 C mm C (e8 b [lv,e7 i16] 85::I) Bf ⟨(⟨1,t,x2,vv,1+x11,x13,1 - (2*x15)⟩,i16),⟨⟨rfl,fit_mk om om om om (λh=>by omega) (λh=>by omega) (λh=>by unfold rightW;omega) (λh=>by omega),rfl⟩,by show 0<=i16;omega⟩,rfl⟩))
theorem MkEvent_at{F:Item->List Item}(M:AtF I (deck b lv i) F)(hl:∀q,Sl κ (F (deck b lv q)) lv ls)(h0:0<=i)(hn:2<=n/\n<=64)(ht:0<=t/\t<=1000000):eu prog κ 34 [.pointer (some ⟨b,0,none⟩),e7 n,e7 t] I λr J=>∃y:Ev×Int,((r = .agg #[e7 y.1.kd,e7 y.1.tm,e7 y.1.u,e7 y.1.v,e7 y.1.w,e7 y.1.lb,e7 y.1.sg]/\FitOk n y.1/\y.1.tm=t)/\0<=y.2)/\J=[]++F (deck b lv y.2):=
 eu.at (Post:=λr (y:Ev×Int)=>(r = .agg #[e7 y.1.kd,e7 y.1.tm,e7 y.1.u,e7 y.1.v,e7 y.1.w,e7 y.1.lb,e7 y.1.sg]/\FitOk n y.1/\y.1.tm=t)/\0<=y.2) (Z:=λy:Ev×Int=>[]) (X:=λy:Ev×Int=>deck b lv y.2) M λJ _ hF=>MkEvent_base (λq=>(hl q).fit (hF _)) h0  hn ht

end Go.Sl
namespace Go.Sl
open Go.RowKit (Below)
end Go.Sl
namespace Go.Sl
open Go.Proofs
set_option maxRecDepth 4000
end Go.Sl
namespace Go.Sl
theorem gone_mem{kd wd mo nw:Int}{xs:List Lk}{e:Ev}(Z:e∈goneL kd wd mo nw xs):e.kd=2/\e.tm=nw:=by
 unfold goneL at Z
 obtain ⟨z,M,rfl⟩:=List.mem_map.1 Z
 exact ⟨rfl,rfl⟩
theorem place_spec(l:List Ev)(x:Ev):∀n,n<=l.length->placeG evC l x n<=n/\(∀i:Nat,placeG evC l x n<=i->i<n->x.tm<(e_ l i).tm)/\(0<placeG evC l x n->(e_ l ((placeG evC l x n - 1:Nat):Int)).tm<=x.tm)
 |0,_=>⟨Nat.le_refl _,λi M Z=>by omega,λh=>absurd h<|Nat.lt_irrefl 0⟩
 |n+1,hn=>by
  unfold placeG
  split
  ·rename_i h
   obtain ⟨M,Z,h3⟩:=place_spec l x n om
   refine ⟨by omega,λi hi hlt=>?_,h3⟩
   by_cases e:i=n
   ·subst e;exact evC_neg.1 h
   exact Z i hi om
  rename_i h
  refine ⟨Nat.le_refl _,λi M Z=>by omega,λ_=>?_⟩
  have:¬x.tm<(e_ l n).tm:=λhh=>h (evC_neg.2 hh)
  show (e_ l n).tm<=x.tm
  omega
theorem insert_asc{l:List Ev}(h:l.Pairwise λa b=>a.tm<=b.tm)(x:Ev):(insertG evC l x).Pairwise λa b=>a.tm<=b.tm:=by
 obtain ⟨h1,h2,h3⟩:=place_spec l x l.length (Nat.le_refl _)
 unfold insertG insG
 generalize placeG evC l x l.length=p at h1 h2 h3
 have hg:=List.pairwise_iff_getElem.1 h
 have ha:∀a∈l.take p,a.tm<=x.tm:=λa ha=>by
  obtain ⟨i,hi,rfl⟩:=List.getElem_of_mem ha
  rw [List.length_take] at hi
  rw [List.getElem_take]
  have h4:=h3 om
  rw [Cy l (p - 1) om] at h4
  by_cases e:i=p - 1
  ·subst e;exact h4
  have:=hg i (p - 1) om om om;omega
 have hb:∀b∈l.drop p,x.tm<=b.tm:=λb hb=>by
  obtain ⟨i,hi,rfl⟩:=List.getElem_of_mem hb
  rw [List.length_drop] at hi
  rw [List.getElem_drop]
  have h4:=h2 (p+i) om om
  rw [Cy l (p+i) om] at h4
  omega
 refine List.pairwise_append.2 ⟨h.sublist<|List.take_sublist _ _,List.pairwise_cons.2 ⟨hb,h.sublist<|List.drop_sublist _ _⟩,λa M b Z=>?_⟩
 rcases List.mem_cons.1 Z with rfl|Z
 ·exact ha a M
 have h5:=ha a M;have h6:=hb b Z;omega
end Go.Sl
namespace Go.Sl
variable {P:Program}{κ:Ctx}{N:Frm}{L:Env}{I:List Item}
end Go.Sl
namespace Go.Sl
variable {P:Program}{κ:Ctx}{N:Frm}{L:Env}{I:List Item}
end Go.Sl
namespace Go.Sl
open Go.Proofs
set_option maxRecDepth 4000
theorem mem_atN{zs:List Int}{x:Int}(h:x∈zs):∃q:Nat,q<zs.length/\x=e_ zs q:=by
 obtain ⟨q,Z,rfl⟩:=List.getElem_of_mem h
 exact ⟨q,Z,(Cy zs q Z).symm⟩

end Go.Sl
namespace Go.Sl
open Go.RowKit (Below)
variable{T et r:Nat}{w:World}{x y:Operand}
section
variable {α:Type}[Enc α][DecidableEq α]
def entF:Nat->List α->List MapEntry
 |_,[]=>[]
 |i,x::xs=>{key:= .agg (Enc.enc x).toArray,val:=e7 (i:Nat),born:=i}::entF (i+1) xs
theorem entF_snoc:∀(xs:List α) (i:Nat) (x:α),entF i (xs++[x])=entF i xs++[{key:= .agg (Enc.enc x).toArray,val:=e7 ((i+xs.length:Nat):Int),born:=i+xs.length}]
 |[],i,x=>by simp [entF]
 |y::ys,i,x=>by
  have h:=entF_snoc ys (i+1) x
  rw [show i+1+ys.length=i+(ys.length+1) by omega] at h
  show _::entF (i+1) (ys++[x])=_
  rw [h];rfl
def KeyT(P:Program)(T:TypeId)(α:Type)[Enc α]:Prop:=∀(x:α) (e:Bool) (w:World),(Instr.checkKey e 10000 T (.agg (Enc.enc x).toArray)).run P w = .ok () w
theorem run_asking{P:Program}{T:TypeId}{w:World}(h:EqT P T α)(k:α):∀(xs:List α) (i j:Nat),(Instr.findAsking T (.agg (Enc.enc k).toArray) (entF i xs) j).run P w = .ok (if k∈xs then some (j+xs.idxOf k,e7 ((i+xs.idxOf k:Nat):Int)) else none) w
 |[],i,j=>by simp [entF,Instr.findAsking]
 |x::xs,i,j=>by
  have Z:=run_asking (w:=w) h k xs (i+1) (j+1)
  have M:(Op.equal T (.agg (Enc.enc k).toArray)<|.agg (Enc.enc x).toArray).run P w = .ok (decide<|k=x) w:=h.1 k x w
  unfold entF Instr.findAsking
  simp only [Sem.run_bind,M,Result.andThen]
  by_cases hx:k=x
  ·subst hx
   simp
  rw [decide_eq_false hx]
  simp only [Bool.false_eq_true,if_false]
  rw [Z]
  have hb:(x==k)=false:=by simpa using λe=>hx e.symm
  by_cases hm:k∈xs
  ·rw [if_pos hm,if_pos<|List.mem_cons_of_mem _ hm,List.idxOf_cons,hb]
   simp only [cond_false]
   rw [show j+1+List.idxOf k xs=j+(List.idxOf k xs+1) by omega,show i+1+List.idxOf k xs=i+(List.idxOf k xs+1) by omega]
  rw [if_neg hm,if_neg<|by simp [hx,hm]]
theorem run_findStruct{P:Program}{T:TypeId}{Z:Array Field}(M:P.underlying T=some (.struct Z))(h:EqT P T α)(k:α)(xs:List α):(Instr.findKey T (.agg (Enc.enc k).toArray) (entF 0 xs)).run P w = .ok (if k∈xs then some (xs.idxOf k,e7 ((xs.idxOf k:Nat):Int)) else none) w:=by
 unfold Instr.findKey
 simp only [Sem.run_bind,run_underlying M,Result.andThen]
 cases xs with
 |nil=>simp [entF,Instr.findNow]
 |cons x xs=>
  have e:Instr.findNow (.struct Z) (.agg (Enc.enc k).toArray) (entF 0<|x::xs) 0=none:=by
   simp [entF,Instr.findNow,Instr.sameNow]
  rw [e]
  have:=run_asking (w:=w) h k (x::xs) 0 0
  simp only [Nat.zero_add] at this
  exact this
def mpE(r:Nat)(xs:List α):Item:=mp r (entF 0 xs) xs.length
section
variable {P:Program}{κ:Ctx}{N:Frm}{Q:Exit->Act->World->Prop}{L:Env}{I J:List Item}{ops:Array Oper}{rest:List Oper}
variable {d:Option Tmp}{ty:TypeId}{ps:String}{af:Array Edge}{gd:Option (Nat×Bool)}
theorem Eff.makeMapE{dd:Nat}(Z:Nat.blt dd N.n=true) :
  Eff P κ N Q ⟨some dd,.makeMap T none,ty,ps,af,gd⟩ L I λL' I'=>∃r,L'=(dd,.map<|some r)::L/\I'=mpE (α:=α) r []::I:=Eff.makeMap Z
theorem Eff.updateE{z:Operand}{kt:Nat}{fs:Array Field}{xs:List α}{k:α}{v:Value}{I':List Item}(ht:P.underlying T=some (.map kt et))(ab:P.underlying kt=some (.struct fs))(he:EqT P kt α)(hc:KeyT P kt α)(hx:er L x=some (.map (some r)))
  (hy:er L y=some (.agg (Enc.enc k).toArray)) (hz:er L z=some v) (hv:v=e7 ((xs.length:Nat):Int)) (hk:k∉xs) (M:At I (mpE r xs) (mpE r<|xs++[k]) I') :
  Eff P κ N Q ⟨none,.mapUpdate T x y z,ty,ps,af,gd⟩ L I λL' I''=>L'=L/\I''=I':=
 Eff.of_skip rfl λa w ha hs=>by
  have hb:=(hs.ok _ M.mem).1
  have hf:=run_findStruct (w:=w) ab he k xs
  rw [if_neg hk] at hf
  have Z:=entF_snoc xs 0 k
  simp only [Nat.zero_add] at Z
  refine ⟨{w with heap:=w.heap.setIfInBounds r (.map (entF 0<|xs++[k]).toArray (xs++[k]).length)},I',?_,⟨rfl,rfl⟩,?_⟩
  ·subst hv
   have ad:(entF 0 xs).toArray.push {key:= .agg (Enc.enc k).toArray,val:=e7 ((xs.length:Nat):Int),born:=xs.length}=(entF 0<|xs++[k]).toArray:=by
    rw [Z];simp
   have hl:xs.length+1=(xs++[k]).length:=by simp
   simp [execOp,ha.eval hx,ha.eval hy,ha.eval hz,Instr.mapUpdate,run_underlying ht,MapKept.run_getObj_map hb,hc k,hf,MapKept.run_setObj_map _ hb,Result.andThen,Z]
  exact hs.upd M rfl ⟨rfl,Nat.le_refl _⟩ rfl (by simp) (λk _ aa=>(MapKept.heap_set hb).2 k λe=>aa e) (MapKept.heap_set hb).1 λk hk=> .inl hk
theorem Runs.lookupE{Z:Nat}{fs:Array Field}{xs:List α}{k:α}(ht:P.underlying T=some (.map Z et))(M:P.underlying Z=some (.struct fs))(he:EqT P Z α)(hc:KeyT P Z α)(hx:er L x=some (.map (some r)))
  (hy:er L y=some (.agg (Enc.enc k).toArray)) (hm:mpE r xs∈J) (hk:k∈xs):Runs P κ N ⟨d,.lookup T x y false,ty,ps,af,gd⟩ L J (e7 ((xs.idxOf k:Nat):Int)):=
 λa w ha hs=>by
  have hb:=(hs.ok _ hm).1
  have hf:=run_findStruct (w:=w) M he k xs
  rw [if_pos hk] at hf
  simp [execOp,ha.eval hx,ha.eval hy,Instr.lookup,run_underlying ht,MapKept.run_getObj_map hb,hc k,hf,Result.andThen]
end
end
end Go.Sl
namespace Go.Sl
open Go.Proofs
set_option maxRecDepth 4000
variable{nd:Int}{es:List Pt}
variable {κ:Ctx}{I:List Item}
def triE(nd:Int)(es:List Pt)(e:Pt):List Pt:=(commonG nd es e.u e.v).map λw=>(⟨((es.idxOf (edgeP e.u w):Nat):Int),((es.idxOf (edgeP e.v w):Nat):Int)⟩:Pt)
def trisE(nd:Int)(es:List Pt):List (List Pt):=es.map (triE nd es)
theorem ck105:KeyT prog 105 Pt:=λx e w=>by
 cases x;kernel_rfl
theorem common_mem(hG:GrOk nd es){e:Pt}(he:e∈es){w:Int}(hw:w∈commonG nd es e.u e.v):edgeP e.u w∈es/\edgeP e.v w∈es:=by
 have Z:=hG.edge e he
 have hr:=hG.rows
 have ab:e.u≠e.v:=by omega
 have hc:¬checkG nd es≠0:=λh=>h (checkG_ok.2 hG)
 have M:∀u:Int,0<=u->u<nd->rowG nd es u=e_ (ek nd es) u:=λu h0 h1=>by
  have ad:=hG.rows.len
  unfold rowG
  rw [if_neg (by rintro (h|h|h);(· omega);(· omega);(· exact hc h))]
 rw [←common_eq ab,mem_andB,M _ Z.1 om,M _ om Z.2.2,hr.mem Z.1 om,hr.mem om Z.2.2] at hw
 have aa:∀a b:Int,((⟨a,b⟩:Pt)∈es\/(⟨b,a⟩:Pt)∈es)->edgeP a b∈es:=λa b h=>by
  unfold edgeP
  rcases h with h|h
  ·have:=hG.edge _ h
   simp only at this
   rw [if_neg om,if_pos om];exact h
  have:=hG.edge _ h
  simp only at this
  rw [if_pos om,if_neg om];exact h
 exact ⟨aa _ _ hw.1.2,aa _ _ hw.2.2⟩
theorem common_len(hG:GrOk nd es){e:Pt}(he:e∈es):(commonG nd es e.u e.v).length<=nd.toNat - 1:=by
 have M:=hG.edge e he
 have aa:e.u≠e.v:=by omega
 have hc:¬checkG nd es≠0:=λh=>h (checkG_ok.2 hG)
 have Z:∀u:Int,0<=u->u<nd->rowG nd es u=e_ (ek nd es) u:=λu h0 h1=>by
  have ab:=hG.rows.len
  unfold rowG
  rw [if_neg (by rintro (h|h|h);(· omega);(· omega);(· exact hc h))]
 rw [←common_eq aa,Z _ M.1 om,Z _ om M.2.2]
 have hS:=rows_sym hG
 have hl:=hG.rows.len
 have:=degB_lt hS (e_ (ek nd es) e.v) M.1 om
 unfold degB at this
 omega
theorem tris_ok(hG:GrOk nd es):TriOk (nd.toNat - 1) (trisE nd es):=by
 refine ⟨λl Z=>?_,λl Z p hp=>?_⟩
 ·obtain ⟨e,M,rfl⟩:=List.mem_map.1 Z
  unfold triE;rw [List.length_map];exact common_len hG M
 obtain ⟨e,M,rfl⟩:=List.mem_map.1 Z
 obtain ⟨w,hw,rfl⟩:=List.mem_map.1 hp
 obtain ⟨h1,h2⟩:=common_mem hG M hw
 have a:=List.idxOf_lt_length_of_mem h1
 have b:=List.idxOf_lt_length_of_mem h2
 have Z:(trisE nd es).length=es.length:=List.length_map ..
 simp only
 omega
def rgI(rs:List (RowG Pt)):List Item:=rs.map λr=>vc 200 (.slice r.a r.xs.length r.c) r.xs
theorem At.rg{I:List Item}{ad:Option Addr}{c:Nat}{xs:List Pt}:∀{rs:List (RowG Pt)} {i:Int},0<=i->i<rs.length->
  At (rgI rs++I) (vc 200 (.slice (e_ rs i).a (e_ rs i).xs.length (e_ rs i).c) (e_ rs i).xs) (vc 200 (.slice ad xs.length c) xs) (rgI (List.set rs i.toNat ⟨ad,c,xs⟩)++I):=fun {rs} {i} Z h=>by
 obtain ⟨k,rfl⟩:∃k:Nat,i=(k:Int):=⟨i.toNat,by omega⟩
 rw [Int.toNat_natCast]
 clear Z
 induction rs generalizing k with
 |nil=>simp at h;omega
 |cons r rs ih=>
  cases k with
  |zero=>exact At.head _ _ _
  |succ k=>exact At.tail _ (ih k<|by simp at h;omega)
theorem rgI_mem{I:List Item}{rs:List (RowG Pt)}{i:Int}(Z:0<=i)(h:i<rs.length):vc 200 (.slice (e_ rs i).a (e_ rs i).xs.length (e_ rs i).c) (e_ rs i).xs∈rgI rs++I:=(At.rg (ad:=none) (c:=0) (xs:=[]) Z h).mem
theorem Fit.nilrg:∀(rs:List (RowG Pt)),(∀r∈rs,r=default)->Fit κ I (rgI rs++I)
 |[],_=>E0 _
 |r::rs,h=>by
  refine Cv (Fit.nilrg rs λx Z=>h x<|List.mem_cons_of_mem _ Z) ?_
  show Fit κ _ (vc 200 (.slice r.a r.xs.length r.c) r.xs::_)
  rw [h r List.mem_cons_self]
  exact Cm _ _
theorem rows_tri{rs:List (RowG Pt)}(M:rs.length=es.length)(h:∀i:Nat,i<es.length->(e_ rs i).xs=triE nd es (e_ es i)):rs.map RowG.xs=trisE nd es:=by
 show rs.map RowG.xs=es.map (triE nd es)
 refine List.ext_getElem (by rw [List.length_map,List.length_map];exact M) λi Z h2=>?_
 rw [List.length_map] at Z
 have:=h i om
 rw [Cy _ _ Z,Cy _ _ om] at this
 rw [List.getElem_map,List.getElem_map];exact this
theorem not_take(h:es.Nodup){k:Nat}(Z:k<es.length):e_ es k∉es.take k:=by
 rw [Cy es k Z]
 intro M
 obtain ⟨i,hi,e⟩:=List.mem_iff_getElem.1 M
 rw [List.length_take] at hi
 rw [List.getElem_take] at e
 exact (List.pairwise_iff_getElem.1 h) i k om Z om e
theorem Triangles_ok{va:Value}(hl:Sl κ I va es)(hG:GrOk nd es)(hb:es.length<=1000000)(hT:TabRd κ I 0 tzCells):eu prog κ 160 [.agg #[e7 nd,va]] I (λr J=>∃a c rs,r = .slice a (rs.length) c/\rs.map RowG.xs=trisE nd es/\J=vc 198 (.slice a rs.length c) rs::(rgI rs++I)):=by
 refine B9 hl.le λa3=>?_
 have a4:=hG.rng
 refine Ce1 Tryz.func160 C C ?_
 refine Af<|Ge1 (Bc (cs:=[_,_]) C C C) λb1=>Ga C<|Ad<|Af<|Ge1 (Eff.makeMapE (α:=Pt) C) λab=>?_
 refine Ga C<|Ad<|Ap<|Af<|Gf fld38_1 C<|Gl ty36 ?_
 refine Gr (B5 (α:=Pt) (xs:=es) Ax C<|A6 hl)<|Gm C<|Ad<|A0<|B1 (σ:=Nat) (λs=>([(1,.pointer<|some ⟨b1,0,none⟩),(3,.map<|some ab),(15,va),(16,e7 ((es.length:Nat):Int)),(17,e7 ((s:Nat):Int))]:Env)) (λs=>mpE (α:=Pt) ab (es.take s)::e8 b1 [e7 nd,va] 38::I) (λs=>(s<=es.length)) (λs=>es.length - s) 0 (show ((0:Nat)<=es.length) from om) (Aa C<|Aa C<|Aa C<|Aa C<|Aa Cd Bl) (show Fit κ _ (mpE (α:=Pt) ab (es.take 0)::e8 b1 [e7 nd,va] 38::I) from Bf) ?_
 rintro k hp
 have hk:=hp
 refine Af<|Gr (Bb C C)<|Ad<|Ap<|A8 C (λaw=>?_)<|λaw=>?_
 ·refine Aw (Ah<|Ap<|A0<|Af<|Gm C<|Gr (Az (α:=Pt) (xs:=es) Ax ty105 C C (A6 hl) om om)<|Gr (B2 (α:=Pt) (xs:=es) ty105 C (A6 hl) om om)<|Ge1 (A2 ty105 C) λb3=>Ga C<|Ge0 (Da ty105) ?_)
  refine Ad<|Au<|Gm C<|Gl2 ty105 ?_
  refine Gm C<|Ge0 (Eff.updateE (α:=Pt) (k:=(e_ es k)) Tryz.underlying230 Dn eqt105 ck105 C C C (by rw [List.length_take,Nat.min_eq_left om]) (not_take (E7 hG.asc) om) am) ?_
  exact Bo<|Al<|Ah<|Am (S5 1 3 15 16 17 C C C C C)<|Au<|Gr (Rad C C)<|Gm C<|Bo<|Cf ((k+1)) om (hI:=by (try dsimp only);exact (by rw [Cl es k om];exact Bf))
 refine Bx<|Ao<|Ao<|A9<|Ah<|Af<|Gf fld38_1 C ?_
 have ay:es.take k=es:=List.take_of_length_le om
 rw [ay]
 refine Gl ty36 ?_
 refine Gr (B5 (α:=Pt) (xs:=es) Ax C<|A6 hl)<|Ge2 (E1 (α:=(RowG Pt)) (n:=es.length) Db ty198 C C C om om dc C) λM aa=>?_
 refine Ga C<|Ad<|Ap<|Af<|Gf fld38_1 C<|Gl ty36 ?_
 refine Gr (B5 (α:=Pt) (xs:=es) Ax C<|A6 hl)<|Gm C<|Ad<|Am (S6 33 32 31 6 1 3 C C C C C C)<|A0<|B1 (σ:=Nat×(List<|RowG Pt)) (λs=>([(1,.pointer<|some ⟨b1,0,none⟩),(3,.map<|some ab),(6,.slice M (replicate es.length (default:(RowG Pt))).length aa),(31,va),(32,e7 ((es.length:Nat):Int)),(33,e7 ((s.1:Nat):Int))]:Env)) (λs=>vc 198 (.slice M (replicate es.length (default:(RowG Pt))).length aa) (s.2)::mpE (α:=Pt) ab (es)::e8 b1 [e7 nd,va] 38::(rgI s.2++I)) (λs=>(s.1<=es.length)/\(s.2.length=es.length)/\(∀i:Nat,i<s.1->(e_ s.2 i).xs=triE nd es (e_ es i))/\(∀i:Nat,s.1<=i->i<es.length->(e_ s.2 i).xs=[])) (λs=>es.length - s.1) (0,replicate es.length (default:RowG Pt)) (show ((0:Nat)<=es.length)/\((replicate es.length (default:RowG Pt):List (RowG Pt)).length=es.length)/\(∀i:Nat,i<(0:Nat)->(e_ (replicate es.length (default:RowG Pt):List (RowG Pt)) (i:Int)).xs=triE nd es (e_ es i))/\(∀i:Nat,(0:Nat)<=i->i<es.length->(e_ (replicate es.length (default:RowG Pt):List (RowG Pt)) (i:Int)).xs=[]) from ⟨om,List.length_replicate,(λi h=>by omega),(λi h1 h2=>by rw [at_rep _ _ _ om om];rfl)⟩) (Aa C<|Aa C<|Aa C<|Aa C<|Aa C<|Aa Cd Bl) (show Fit κ _ (vc 198 (.slice M (replicate es.length (default:(RowG Pt))).length aa) ((replicate es.length (default:RowG Pt)))::mpE (α:=Pt) ab (es)::e8 b1 [e7 nd,va] 38::(rgI (replicate es.length (default:RowG Pt))++I)) from (Cv (Fit.nilrg (replicate es.length (default:RowG Pt))<|λr hr=>List.eq_of_mem_replicate hr) Bm)) ?_
 rintro ⟨k2,rs⟩ hp
 dsimp only at hp ⊢
 obtain ⟨a7,aj,ap,aq⟩:=hp
 refine Af<|Gr (Bb C C)<|Ad<|Ap<|A8 C (λax=>?_)<|λax=>?_
 ·refine Aw (Ah<|Ap<|A0<|Af<|Gm C<|Gr (Az (α:=Pt) (xs:=es) Ax ty105 C C (A6 hl) om om)<|Gr (B2 (α:=Pt) (xs:=es) ty105 C (A6 hl) om om)<|Ge1 (A2 ty105 C) λb6=>Ga C<|Ge0 (Da ty105) ?_)
  refine Ad<|Af<|Gl2 ty38 ?_
  refine Gf fld105_0 C<|Gl ef ?_
  refine Gf fld105_1 C<|Gl ef ?_
  refine Gc2 (Aj c_ C C<|CommonG_ok (nd:=nd) (A6 hl) ((e_ es k2).u) ((e_ es k2).v)<|Bg hT Av) λai ah=>?_
  refine Gr (Bj Ab C)<|Gm C<|Ad<|Am (S11 45 44 43 7 8 1 3 6 31 32 33 C C C C C C C C C C C)<|A0<|B1 (σ:=Nat×(List<|RowG Pt)) (λs=>([(1,.pointer<|some ⟨b1,0,none⟩),(3,.map<|some ab),(6,.slice M (replicate es.length (default:(RowG Pt))).length aa),(7,e7 ((k2:Nat):Int)),(8,.pointer<|some ⟨b6,0,none⟩),(31,va),(32,e7 ((es.length:Nat):Int)),(33,e7 ((k2:Nat):Int)),(43,.slice ai (commonG nd es ((e_ es ((k2:Nat):Int)).u)<|(e_ es ((k2:Nat):Int)).v).length ah),(44,e7<|(((commonG nd es ((e_ es ((k2:Nat):Int)).u)<|(e_ es ((k2:Nat):Int)).v).length:Nat):Int)),(45,e7 ((s.1:Nat):Int))]:Env)) (λs=>vc 3 (.slice ai (commonG nd es ((e_ es ((k2:Nat):Int)).u)<|(e_ es ((k2:Nat):Int)).v).length ah) (commonG nd es ((e_ es ((k2:Nat):Int)).u)<|(e_ es ((k2:Nat):Int)).v)::e8 b6 [e7 ((e_ es ((k2:Nat):Int)).u),e7<|(e_ es ((k2:Nat):Int)).v] 105::vc 198 (.slice M (replicate es.length (default:(RowG Pt))).length aa) (s.2)::mpE (α:=Pt) ab (es)::e8 b1 [e7 nd,va] 38::(rgI s.2++I)) (λs=>(s.1<=(commonG nd es (e_ es ((k2:Nat):Int)).u (e_ es ((k2:Nat):Int)).v).length)/\(s.2.length=es.length)/\(∀i:Nat,i<k2->(e_ s.2 i).xs=triE nd es (e_ es i))/\(∀i:Nat,k2<i->i<es.length->(e_ s.2 i).xs=[])/\((e_ s.2 ((k2:Nat):Int)).xs=((commonG nd es (e_ es ((k2:Nat):Int)).u (e_ es ((k2:Nat):Int)).v).take s.1).map (λw=>(⟨((es.idxOf (edgeP (e_ es ((k2:Nat):Int)).u w):Nat):Int),((es.idxOf (edgeP (e_ es ((k2:Nat):Int)).v w):Nat):Int)⟩:Pt)))) (λs=>(commonG nd es (e_ es ((k2:Nat):Int)).u (e_ es ((k2:Nat):Int)).v).length - s.1) (0,rs) (show ((0:Nat)<=(commonG nd es (e_ es ((k2:Nat):Int)).u (e_ es ((k2:Nat):Int)).v).length)/\((rs:List (RowG Pt)).length=es.length)/\(∀i:Nat,i<k2->(e_ (rs:List (RowG Pt)) (i:Int)).xs=triE nd es (e_ es i))/\(∀i:Nat,k2<i->i<es.length->(e_ (rs:List (RowG Pt)) (i:Int)).xs=[])/\((e_ (rs:List (RowG Pt)) ((k2:Nat):Int)).xs=((commonG nd es (e_ es ((k2:Nat):Int)).u (e_ es ((k2:Nat):Int)).v).take (0:Nat)).map (λw=>(⟨((es.idxOf (edgeP (e_ es ((k2:Nat):Int)).u w):Nat):Int),((es.idxOf (edgeP (e_ es ((k2:Nat):Int)).v w):Nat):Int)⟩:Pt))) from ⟨om,aj,ap,(λi h1 h2=>aq i om h2),(by rw [aq k2 (Nat.le_refl _) om];simp)⟩) (Aa C<|Aa C<|Aa C<|Aa C<|Aa C<|Aa C<|Aa C<|Aa C<|Aa C<|Aa C<|Aa Cd Bl) (show Fit κ _ (vc 3 (.slice ai (commonG nd es ((e_ es ((k2:Nat):Int)).u)<|(e_ es ((k2:Nat):Int)).v).length ah) (commonG nd es ((e_ es ((k2:Nat):Int)).u)<|(e_ es ((k2:Nat):Int)).v)::e8 b6 [e7 ((e_ es ((k2:Nat):Int)).u),e7<|(e_ es ((k2:Nat):Int)).v] 105::vc 198 (.slice M (replicate es.length (default:(RowG Pt))).length aa) ((rs))::mpE (α:=Pt) ab (es)::e8 b1 [e7 nd,va] 38::(rgI (rs)++I)) from Bf) ?_
  rintro ⟨j,Z⟩ hp
  dsimp only at hp ⊢
  obtain ⟨hj,ak,ar,ao,an⟩:=hp
  have a6:=common_len hG (e:=(e_ es k2)) (Ca om om)
  have a0:j<(commonG nd es (e_ es k2).u (e_ es k2).v).length->edgeP (e_ es k2).u (e_ (commonG nd es (e_ es k2).u (e_ es k2).v) (j:Int))∈es/\edgeP (e_ es k2).v (e_ (commonG nd es (e_ es k2).u (e_ es k2).v) (j:Int))∈es:=λh=>common_mem hG (Ca om om) (Ca om om)
  have a1:((e_ Z k2).xs).length=j:=by rw [an,List.length_map,List.length_take];omega
  refine Af<|Gr (Bb C C)<|Ad<|Ap<|A8 C (λav=>?_)<|λav=>?_
  ·refine Aw (Ah<|Ap<|A0<|Af<|Gr (Az (α:=Int) (xs:=commonG nd es ((e_ es k2).u) ((e_ es k2).v)) Ab ef C C Bh om om)<|Gr (Bw (xs:=commonG nd es ((e_ es k2).u) ((e_ es k2).v)) ef C Bh om om)<|Ga C ?_)
   have hw:=a0 om
   refine Ad<|Am (S12 10 1 3 6 7 8 31 32 33 43 44 45 C C C C C C C C C C C C)<|Af<|Gm C<|Gf fld105_0 C<|Gl ef ?_
   refine Gm C<|Gr (Er C C)<|Gf fld105_0 C<|Gl ef ?_
   refine Gm C<|Gr (Do C C)<|Gr (Bp (cells:=[_,_]) ty105 Dn pl105 C C)<|Gr (Runs.lookupE (α:=Pt) (k:=(edgeP (e_ es k2).u (e_ (commonG nd es ((e_ es k2).u)<|(e_ es k2).v) (j:Int)))) (xs:=es) Tryz.underlying230 Dn eqt105 ck105 C C mm hw.1)<|Ga C<|Ad<|Am (S13 11 10 1 3 6 7 8 31 32 33 43 44 45 C C C C C C C C C C C C C)<|Af<|Gm C<|Gf fld105_1 C<|Gl ef ?_
   refine Gm C<|Gr (Er C C)<|Gf fld105_1 C<|Gl ef ?_
   refine Gm C<|Gr (Do C C)<|Gr (Bp (cells:=[_,_]) ty105 Dn pl105 C C)<|Gr (Runs.lookupE (α:=Pt) (k:=(edgeP (e_ es k2).v (e_ (commonG nd es ((e_ es k2).u)<|(e_ es k2).v) (j:Int)))) (xs:=es) Tryz.underlying230 Dn eqt105 ck105 C C mm hw.2)<|Ga C<|Ad<|Am (S13 12 11 1 3 6 7 8 31 32 33 43 44 45 C C C C C C C C C C C C C)<|Au<|Gm C<|Gm C<|Gm C<|Gm C<|Gr (Az (α:=(RowG Pt)) (xs:=Z) Db ty198 C C Bh om om)<|Gr (B4 (α:=(RowG Pt)) (xs:=Z) (u:= .slice (e_ Z k2).a (e_ Z k2).xs.length (e_ Z k2).c) ty198 C Bh om om C)<|Gm C<|Gm C<|Gr (Ew (cells:=[_,_]) ty200 B8 ef C C)<|Ge1 (Co (α:=Pt) (cs:=[_,_]) (xs:=[⟨((List.idxOf (edgeP (e_ es k2).u (e_ (commonG nd es ((e_ es k2).u)<|(e_ es k2).v) (j:Int))) es:Nat):Int),((List.idxOf (edgeP (e_ es k2).v (e_ (commonG nd es ((e_ es k2).u)<|(e_ es k2).v) (j:Int))) es:Nat):Int)⟩]) Bz ty200 C C dc dc C C C C) λau=>?_
   refine Ge2 (Cp (α:=Pt) (e:=200) (xs:=(e_ Z k2).xs) (ys:=([⟨((List.idxOf (edgeP (e_ es k2).u (e_ (commonG nd es ((e_ es k2).u)<|(e_ es k2).v) (j:Int))) es:Nat):Int),((List.idxOf (edgeP (e_ es k2).v (e_ (commonG nd es ((e_ es k2).u)<|(e_ es k2).v) (j:Int))) es:Nat):Int)⟩]:List Pt)) Bz ty200 C C C (by repeat (first|exact rgI_mem (rs:=Z) (i:=(k2:Int)) om om|apply List.mem_cons_of_mem)) Bh lcn dc C<|λ_ _=>(by repeat (first|exact At.rg (rs:=Z) (i:=(k2:Int)) om om|apply At.tail))) λad ae=>?_
   show G prog κ _ _ _ _ ([(81,.slice ad ((e_ Z k2).xs++([⟨((List.idxOf (edgeP (e_ es k2).u (e_ (commonG nd es ((e_ es k2).u)<|(e_ es k2).v) (j:Int))) es:Nat):Int),((List.idxOf (edgeP (e_ es k2).v (e_ (commonG nd es ((e_ es k2).u)<|(e_ es k2).v) (j:Int))) es:Nat):Int)⟩]:List Pt)).length ae),(80,.slice au 1 1),(79,.agg #[e7 (((List.idxOf (edgeP (e_ es k2).u (e_ (commonG nd es ((e_ es k2).u)<|(e_ es k2).v) (j:Int))) es:Nat):Int)),e7<|((List.idxOf (edgeP (e_ es k2).v (e_ (commonG nd es ((e_ es k2).u)<|(e_ es k2).v) (j:Int))) es:Nat):Int)]),(78,e7<|((List.idxOf (edgeP (e_ es k2).v (e_ (commonG nd es ((e_ es k2).u)<|(e_ es k2).v) (j:Int))) es:Nat):Int)),(77,e7<|((List.idxOf (edgeP (e_ es k2).u (e_ (commonG nd es ((e_ es k2).u)<|(e_ es k2).v) (j:Int))) es:Nat):Int)),(76,.slice (e_ Z k2).a (e_ Z k2).xs.length (e_ Z k2).c),(75,elemPtr (.slice M (replicate es.length (default:(RowG Pt))).length aa)<|((k2:Int)).toNat*Enc.sz (RowG Pt)),(74,e7<|(k2:Int)),(73,.slice M (replicate es.length (default:(RowG Pt))).length aa),(72,e7<|(k2:Int)),(71,.slice M (replicate es.length (default:(RowG Pt))).length aa),(12,e7<|((List.idxOf (edgeP (e_ es k2).v (e_ (commonG nd es ((e_ es k2).u)<|(e_ es k2).v) (j:Int))) es:Nat):Int)),(11,e7<|((List.idxOf (edgeP (e_ es k2).u (e_ (commonG nd es ((e_ es k2).u)<|(e_ es k2).v) (j:Int))) es:Nat):Int)),(1,.pointer<|some ⟨b1,0,none⟩),(3,.map<|some ab),(6,.slice M (replicate es.length (default:(RowG Pt))).length aa),(7,e7<|(k2:Int)),(8,.pointer<|some ⟨b6,0,none⟩),(31,va),(32,e7 ((es.length:Nat):Int)),(33,e7<|(k2:Int)),(43,.slice ai (commonG nd es ((e_ es k2).u)<|(e_ es k2).v).length ah),(44,e7<|(((commonG nd es ((e_ es k2).u)<|(e_ es k2).v).length:Nat):Int)),(45,e7<|(j:Int))]:Env) (vc 200 (.slice au 1 1) (([⟨((List.idxOf (edgeP (e_ es k2).u (e_ (commonG nd es ((e_ es k2).u)<|(e_ es k2).v) (j:Int))) es:Nat):Int),((List.idxOf (edgeP (e_ es k2).v (e_ (commonG nd es ((e_ es k2).u)<|(e_ es k2).v) (j:Int))) es:Nat):Int)⟩]:List Pt))::vc 3 (.slice ai (commonG nd es ((e_ es k2).u)<|(e_ es k2).v).length ah) (commonG nd es ((e_ es k2).u)<|(e_ es k2).v)::e8 b6 [e7 ((e_ es k2).u),e7<|(e_ es k2).v] 105::vc 198 (.slice M (replicate es.length (default:(RowG Pt))).length aa) (Z)::mpE (α:=Pt) ab (es)::e8 b1 [e7 nd,va] 38::(rgI (List.set Z ((k2:Int)).toNat (⟨ad,ae,((e_ Z k2).xs++([⟨((List.idxOf (edgeP (e_ es k2).u (e_ (commonG nd es ((e_ es k2).u)<|(e_ es k2).v) (j:Int))) es:Nat):Int),((List.idxOf (edgeP (e_ es k2).v (e_ (commonG nd es ((e_ es k2).u)<|(e_ es k2).v) (j:Int))) es:Nat):Int)⟩]:List Pt))⟩:RowG Pt))++I))
   refine Gr (Az (α:=(RowG Pt)) (xs:=Z) Db ty198 C C Bh om om)<|Ge0 (Cx (α:=(RowG Pt)) (xs:=Z) (e:=198) (new:=(⟨ad,ae,((e_ Z k2).xs++([⟨((List.idxOf (edgeP (e_ es k2).u (e_ (commonG nd es ((e_ es k2).u)<|(e_ es k2).v) (j:Int))) es:Nat):Int),((List.idxOf (edgeP (e_ es k2).v (e_ (commonG nd es ((e_ es k2).u)<|(e_ es k2).v) (j:Int))) es:Nat):Int)⟩]:List Pt))⟩:RowG Pt)) ty198 C C C om om am) ?_
   exact Bo<|Al<|Ah<|Am (S11 1 3 6 7 8 31 32 33 43 44 45 C C C C C C C C C C C)<|Au<|Gr (Rad C C)<|Gm C<|Bo<|Cf ((j+1),(List.set Z ((k2:Int)).toNat (⟨ad,ae,((e_ Z k2).xs++([⟨((List.idxOf (edgeP (e_ es k2).u (e_ (commonG nd es ((e_ es k2).u)<|(e_ es k2).v) (j:Int))) es:Nat):Int),((List.idxOf (edgeP (e_ es k2).v (e_ (commonG nd es ((e_ es k2).u)<|(e_ es k2).v) (j:Int))) es:Nat):Int)⟩]:List Pt))⟩:RowG Pt)))<|by dsimp only;exact ⟨om,(by rw [List.length_set];exact ak),(λi h=>by rw [Ef _ _ _ _ om om om,if_neg om];exact ar i h),(λi h1 h2=>by rw [Ef _ _ _ _ om om om,if_neg om];exact ao i h1 h2),(by rw [Ef _ _ _ _ om om om,if_pos rfl,Cl _ j om,List.map_append];show (e_ Z k2).xs++_=_;rw [an];rfl)⟩
  exact Bx<|Ao<|Ao<|A9<|Al<|Ah<|Au<|Gr (Rad C C)<|Gm C<|Bo<|Cf ((k2+1),(Z))<|by dsimp only;exact ⟨om,ak,(λi h=>by by_cases e:i=k2;(· subst e;rw [an,List.take_of_length_le om];rfl);(· exact ar i om)),(λi h1 h2=>ao i om h2)⟩
 refine Bx<|Ao<|Ao<|A9<|Ah<|Af<|Gm C<|Ga C<|Ad<|Ay ?_
 have a5:k2=es.length:=by omega
 have az:=rows_tri aj (λi h=>ap i om)
 exact A1 C C (vc 198 (.slice M rs.length aa) rs::(rgI rs++I)) (by rw [aj];simp only [List.length_replicate];exact Bm) ⟨M,aa,rs,by rw [aj];simp only [List.length_replicate],az,rfl⟩
end Go.Sl
