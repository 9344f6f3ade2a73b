/- A part of the proofs of statements of this seat: contracts of functions, and the plain laws that they lean on. No conditions. -/
import Derived.Test.YtoagcglbkeomgaaGreatDoorV11
set_option linter.unusedVariables false
set_option linter.unusedSimpArgs false
set_option linter.unusedSectionVars false
open Go.Proofs.Tryz (prog)
open List (replicate)
set_option maxHeartbeats 2000000
namespace Go.Sl
open Go.Proofs
set_option maxRecDepth 4000
end Go.Sl
namespace Go.Sl
end Go.Sl
namespace Go.Sl
open Go.Proofs
set_option maxRecDepth 4000
theorem q9{nd:Int}{es:List Pt}(M:s6 nd es):es.length<=2016:=by
 have hs:∀e∈es,e∈(List.range 64).flatMap fun (v:Nat)=>(List.range v).map fun (u:Nat)=>(⟨(u:Int),(v:Int)⟩:Pt):=λe he=>by
  have h:=M.Z1 e he
  have hr:=M.rng
  refine Kv.2 ⟨e.v.toNat,Hz.2 om,Gv.2 ⟨e.u.toNat,Hz.2 om,?_⟩⟩
  rw [Dc]
  exact ⟨by show ((e.u.toNat:Nat):Int)=e.u;omega,by show ((e.v.toNat:Nat):Int)=e.v;omega⟩
 have hl:=Hk (Ff M.asc) hs
 have e:((List.range 64).flatMap fun (v:Nat)=>(List.range v).map fun (u:Nat)=>(⟨(u:Int),(v:Int)⟩:Pt)).length=2016:=by
  rw [List.length_flatMap]
  simp only [F_,Jy]
  decide+kernel
 omega
theorem fq5{nd:Int}(h0:0<=nd)(h1:nd<=64):dt0 nd (at4 nd):=λx M=>by
 have h:=K0.1 M
 have h2:x.toNat<64:=Gb λhn=>by rw [BitVec.getLsbD_of_ge _ _ om] at h;cases h.2
 rw [ag1 h0 h1 h2,Gn] at h
 omega
end Go.Sl
namespace Go.Sl
open Go.Proofs
set_option maxRecDepth 4000
variable{i n t:Int}{b:Nat}{lv:Value}{ls:List Int}
variable {κ:Ctx}{I:List Item}
attribute [local irreducible] W G V D A j8 Eff
theorem ga1{s x N:Int}(h1:0<=s)(h2:s<N)(M:0<=x)(h4:x<N - 1):(0<=Int.tmod (s+1+x) N/\Int.tmod (s+1+x) N<N)/\s≠Int.tmod (s+1+x) N:=by
 rw [Int.tmod_eq_emod_of_nonneg om]
 by_cases h:s+1+x<N
 ·rw [Int.emod_eq_of_lt om h];omega
 rw [show s+1+x=(s+1+x - N)+N by omega,Int.add_emod_right,Int.emod_eq_of_lt om om];omega
theorem co2{kd tm u v w lb sg:Int}(hk:1<=kd/\kd<=3)(ht:0<=tm/\tm<=1048576)(hu:0<=u/\u<n)(hn:n<=64)(hv:kd=3->v=0)(M:kd≠3->(0<=v/\v<n)/\u≠v)(hr:kd=1->G4 w lb sg)(hz:kd≠1->w=0/\lb=0/\sg=0):H7 n ⟨kd,tm,u,v,w,lb,sg⟩:=
 ⟨hk,ht,⟨by show 0<=u/\u<64;omega,hv,λh=>by have:=M h;show (0<=v/\v<64)/\u≠v;omega⟩,hr,by
  show u<n/\v<n
  by_cases h:kd=3
  ·have:=hv h;omega
  have:=M h;omega,hz⟩
theorem cc2(hl:∀q,Sl κ (ap5 b lv q::I) lv ls)(h0:0<=i)(hn:2<=n/\n<=64)(ht:0<=t/\t<=1000000):eu prog κ 34 [(pt b),e7 n,e7 t] (e8 b [lv,e7 i] 85::I) (λr J=>∃y:Ev×Int,((r = .agg (ez y.1).toArray/\H7 n y.1/\y.1.tm=t)/\0<=y.2)/\J=[]++ap5 b lv y.2::I):=by
 refine Ce3 Tryz.func34 C C ?_
 refine Ak<|Ge1 (Aj s9 C) λb1=>Z ?_
 refine G.e (Ac c_ C C<|Q1 ta1 (Bg (hl _) Ah) om om) ?_
 rintro _ _ ⟨_,_,⟨x2,i3,rfl,ay,hi3,rfl⟩,rfl,rfl⟩
 show G prog κ _ _ _ _ ([(12,e7 x2),(11,e7 n),(10,pt b),(9,e7 t),(6,pt b1),(0,pt b),(1,e7 n),(2,e7 t)]:Env) (e8 b1 [e7 0,e7 0,e7 0,e7 0,e7 0,e7 0,e7 0] 54::e8 b [lv,e7 i3] 85::I)
 refine Z ?_
 refine Ge1 (Aj s9 C) λb4=>Ge0 (au3 s9) ?_
 refine Ar<|W.cut (σ:=Int×Int) (λs=>([(0,pt b),(2,e7 t),(6,pt b1),(7,pt b4)]:Env)) (λs=>e8 b4 [e7 1,e7 t,e7 x2,e7<|s.1,e7 0,e7 0,e7 0] 54::e8 b1 [e7 0,e7 0,e7 0,e7 0,e7 0,e7 0,e7 0] 54::e8 b [lv,e7<|s.2] 85::I) (λs=>((0<=s.1/\s.1<n)/\x2≠s.1)/\(0<=s.2)) ?_ ?_
 ·refine Ba mixed (Bx (e8 b1 [e7 0,e7 0,e7 0,e7 0,e7 0,e7 0,e7 0] 54::I) 12<|Z ?_)
  refine C9 (rs:=[1,6]) kr C C<|Ej ?_<|Do ?_
  ·refine Sr C (Bd ef) Ai ?_
   refine Dr 2 C (Rad C C)<|Ds1 6<|Se C (Ac c_ C C<|Q1 ta1 (Bg (hl _) Ah) om om) ?_
   rintro _ _ ⟨_,_,⟨x5,i6,rfl,a4,az,rfl⟩,rfl,rfl⟩
   refine ⟨Ai,?_⟩
   show D prog κ _ _ _ _ _ _ _ ([(20,e7 x5),(16,e7<|x2+1),(15,e7 x2),(22,e7 n),(19,e7<|n - 1),(18,e7 n),(17,pt b),(14,.pointer<|some ⟨b4,2,none⟩),(7,pt b4),(13,.agg #[e7 1,e7 t,e7 x2,e7 0,e7 0,e7 0,e7 0]),(12,e7 x2),(11,e7 n),(10,pt b),(9,e7 t),(6,pt b1),(0,pt b),(1,e7 n),(2,e7 t)]:Env) (e8 b4 [e7 1,e7 t,e7 x2,e7 0,e7 0,e7 0,e7 0] 54::e8 b1 [e7 0,e7 0,e7 0,e7 0,e7 0,e7 0,e7 0] 54::e8 b [lv,e7 i6] 85::I)
   refine Z ?_
   refine Dr 9 C (j8.rem C C om)<|Z ?_
   refine Ds1 11<|Se0 C (Ep ef) ?_
   refine Dz ?_
   have ah:=ga1 (s:=x2) (x:=x5) (N:=n) om om om om
   exact Dm ((Int.tmod ((x2+1)+x5) n),(i6))<|by dsimp only;exact ⟨ah,om⟩
  refine Se C (Ac c_ C C<|Q1 ta1 (Bg (hl _) Ah) om om) ?_
  rintro _ _ ⟨_,_,⟨x7,i8,rfl,a0,a5,rfl⟩,rfl,rfl⟩
  refine ⟨Ai,?_⟩
  show D prog κ _ _ _ _ _ _ _ ([(20,e7 x7),(22,e7 n),(19,e7<|n - 1),(18,e7 n),(17,pt b),(14,.pointer<|some ⟨b4,2,none⟩),(7,pt b4),(13,.agg #[e7 1,e7 t,e7 x2,e7 0,e7 0,e7 0,e7 0]),(12,e7 x2),(11,e7 n),(10,pt b),(9,e7 t),(6,pt b1),(0,pt b),(1,e7 n),(2,e7 t)]:Env) (e8 b4 [e7 1,e7 t,e7 x2,e7 0,e7 0,e7 0,e7 0] 54::e8 b1 [e7 0,e7 0,e7 0,e7 0,e7 0,e7 0,e7 0] 54::e8 b [lv,e7 i8] 85::I)
  refine Ds1 1<|Sr C (Bd ef) Ai<|Z ?_
  refine Dr 7 C (Rad C C)<|Dr 9 C (j8.rem C C om)<|Z ?_
  refine Ds1 11<|Se0 C (Ep ef) ?_
  refine Dz ?_
  have ah:=ga1 (s:=x2) (x:=x7) (N:=n) om om om om
  exact Dm ((Int.tmod ((x2+1)+x7) n),(i8))<|by dsimp only;exact ⟨ah,om⟩
 rintro ⟨vv,i9⟩ hp
 obtain ⟨a3,a6⟩:((0<=vv/\vv<n)/\x2≠vv)/\(0<=i9):=hp
 show W prog κ 56 _ _ ([(0,pt b),(2,e7 t),(6,pt b1),(7,pt b4)]:Env) (e8 b4 [e7 1,e7 t,e7 x2,e7 vv,e7 0,e7 0,e7 0] 54::e8 b1 [e7 0,e7 0,e7 0,e7 0,e7 0,e7 0,e7 0] 54::e8 b [lv,e7 i9] 85::I)
 refine Ax<|Ak<|Gm C<|G.e (Ac c_ C C<|Q1 ta1 (Bg (hl _) Ah) om om) ?_
 rintro _ _ ⟨_,_,⟨M,aa,rfl,a1,av,rfl⟩,rfl,rfl⟩
 show G prog κ _ _ _ _ ([(26,e7 M),(25,pt b),(0,pt b),(2,e7 t),(6,pt b1),(7,pt b4)]:Env) (e8 b4 [e7 1,e7 t,e7 x2,e7 vv,e7 0,e7 0,e7 0] 54::e8 b1 [e7 0,e7 0,e7 0,e7 0,e7 0,e7 0,e7 0] 54::e8 b [lv,e7 aa] 85::I)
 refine Z ?_
 refine Am C (λan=>Z ?_)<|λan=>Z ?_
 ·refine Ge0 (au3 s9) (Z ?_)
  exact Ek C s9 C mm C (e8 b [lv,e7 aa] 85::I) Ai ⟨(⟨3,t,x2,0,0,0,0⟩,aa),⟨⟨rfl,co2 om om om om (λh=>by omega) (λh=>by omega) (λh=>by unfold G4;omega)<|λh=>by omega,rfl⟩,by show 0<=aa;omega⟩,rfl⟩
 refine Am C (λao=>Z ?_)<|λao=>Z ?_
 ·refine Ge0 (au3 s9) (Z ?_)
  exact Ek C s9 C mm C (e8 b [lv,e7 aa] 85::I) Ai ⟨(⟨2,t,x2,vv,0,0,0⟩,aa),⟨⟨rfl,co2 om om om om (λh=>by omega) (λh=>by omega) (λh=>by unfold G4;omega)<|λh=>by omega,rfl⟩,by show 0<=aa;omega⟩,rfl⟩
 refine G.e (Ac c_ C C<|Q1 ta1 (Bg (hl _) Ah) om om) ?_
 rintro _ _ ⟨_,_,⟨ab,aj,rfl,ar,aw,rfl⟩,rfl,rfl⟩
 show G prog κ _ _ _ _ ([(44,e7 ab),(43,pt b),(34,.bool<|decide<|5<=M),(36,.bool<|decide<|5<=M),(35,e7 M),(27,.bool<|decide<|8<=M),(29,.bool<|decide<|8<=M),(28,e7 M),(8,e7 M),(26,e7 M),(25,pt b),(0,pt b),(2,e7 t),(6,pt b1),(7,pt b4)]:Env) (e8 b4 [e7 1,e7 t,e7 x2,e7 vv,e7 0,e7 0,e7 0] 54::e8 b1 [e7 0,e7 0,e7 0,e7 0,e7 0,e7 0,e7 0] 54::e8 b [lv,e7 aj] 85::I)
 refine Z ?_
 refine G.e (Ac c_ C C<|Q1 ta1 (Bg (hl _) Ah) om om) ?_
 rintro _ _ ⟨_,_,⟨ae,ak,rfl,ap,aq,rfl⟩,rfl,rfl⟩
 show G prog κ _ _ _ _ ([(47,e7 ae),(46,pt b),(45,e7<|1+ab),(44,e7 ab),(43,pt b),(34,.bool<|decide<|5<=M),(36,.bool<|decide<|5<=M),(35,e7 M),(27,.bool<|decide<|8<=M),(29,.bool<|decide<|8<=M),(28,e7 M),(8,e7 M),(26,e7 M),(25,pt b),(0,pt b),(2,e7 t),(6,pt b1),(7,pt b4)]:Env) (e8 b4 [e7 1,e7 t,e7 x2,e7 vv,e7 0,e7 0,e7 0] 54::e8 b1 [e7 0,e7 0,e7 0,e7 0,e7 0,e7 0,e7 0] 54::e8 b [lv,e7 ak] 85::I)
 refine Gm C<|G.e (Ac c_ C C<|Q1 ta1 (Bg (hl _) Ah) om om) ?_
 rintro _ _ ⟨_,_,⟨ai,ad,rfl,ax,au,rfl⟩,rfl,rfl⟩
 show G prog κ _ _ _ _ ([(49,e7 ai),(48,pt b),(47,e7 ae),(46,pt b),(45,e7<|1+ab),(44,e7 ab),(43,pt b),(34,.bool<|decide<|5<=M),(36,.bool<|decide<|5<=M),(35,e7 M),(27,.bool<|decide<|8<=M),(29,.bool<|decide<|8<=M),(28,e7 M),(8,e7 M),(26,e7 M),(25,pt b),(0,pt b),(2,e7 t),(6,pt b1),(7,pt b4)]:Env) (e8 b4 [e7 1,e7 t,e7 x2,e7 vv,e7 0,e7 0,e7 0] 54::e8 b1 [e7 0,e7 0,e7 0,e7 0,e7 0,e7 0,e7 0] 54::e8 b [lv,e7 ad] 85::I)
 refine Gr (Eo C C<|by unfold InR;omega)<|Z ?_
 refine Ge0 (Ep ef) ?_
 refine Gf bf2 C<|Ge0 (Ep ef) ?_
 refine Gf bf1 C<|Ge0 (Ep ef)<|Z ?_
 refine Ge0 (au3 s9) ?_
 exact Ar<|B3<|Ek C s9 C mm C (e8 b [lv,e7 ad] 85::I) Ai ⟨(⟨1,t,x2,vv,1+ab,ae,1 - (2*ai)⟩,ad),⟨⟨rfl,co2 om om om om (λh=>by omega) (λh=>by omega) (λh=>by unfold G4;omega)<|λh=>by omega,rfl⟩,by show 0<=ad;omega⟩,rfl⟩
theorem cy8{F:Item->List Item}(M:AtF I (ap5 b lv i) F)(hl:∀q,Sl κ (F (ap5 b lv q)) lv ls)(h0:0<=i)(hn:2<=n/\n<=64)(ht:0<=t/\t<=1000000):eu prog κ 34 [(pt b),e7 n,e7 t] I λr J=>∃y:Ev×Int,((r = .agg (ez y.1).toArray/\H7 n y.1/\y.1.tm=t)/\0<=y.2)/\J=[]++F (ap5 b lv y.2):=
 Fl (Post:=λr (y:Ev×Int)=>(r = .agg (ez y.1).toArray/\H7 n y.1/\y.1.tm=t)/\0<=y.2) (Z:=λy:Ev×Int=>[]) (X:=λy:Ev×Int=>ap5 b lv y.2) M λJ _ hF=>cc2 (λq=>(hl q).fit (hF _)) h0  hn ht
end Go.Sl
namespace Go.Sl
open Go.Proofs
set_option maxRecDepth 4000
end Go.Sl
namespace Go.Sl
open Go.RowKit (Below)
end Go.Sl
namespace Go.Sl
open Go.Proofs
set_option maxRecDepth 4000
end Go.Sl
namespace Go.Sl
theorem cn2{kd wd mo nw:Int}{xs:List Lk}{e:Ev}(M:e∈s3 kd wd mo nw xs):e.kd=2/\e.tm=nw:=by
 unfold s3 at M
 obtain ⟨z,hz,rfl⟩:=Gv.1 M
 exact ⟨rfl,rfl⟩
theorem bm5(l:List Ev)(x:Ev):∀n,n<=l.length->M5 evC l x n<=n/\(∀i:Nat,M5 evC l x n<=i->i<n->x.tm<(e_ l i).tm)/\(0<M5 evC l x n->(e_ l ((M5 evC l x n - 1:Nat):Int)).tm<=x.tm)
 |0,_=>⟨Gd _,λi h1 M=>by omega,λh=>absurd h<|Nat.lt_irrefl 0⟩
 |n+1,hn=>by
  unfold M5
  split
  ·rename_i h
   obtain ⟨h1,M,h3⟩:=bm5 l x n om
   refine ⟨by omega,λi hi hlt=>?_,h3⟩
   by_cases e:i=n
   ·subst e;exact dk5.1 h
   exact M i hi om
  rename_i h
  refine ⟨Gd _,λi h1 M=>by omega,λ_=>?_⟩
  have:¬x.tm<(e_ l n).tm:=λhh=>h (dk5.2 hh)
  show (e_ l n).tm<=x.tm
  omega
theorem cu0{l:List Ev}(h:l.Pairwise λa b=>a.tm<=b.tm)(x:Ev):(be7 evC l x).Pairwise λa b=>a.tm<=b.tm:=by
 obtain ⟨h1,h2,h3⟩:=bm5 l x l.length (Gd _)
 unfold be7 gd3
 generalize M5 evC l x l.length=p at h1 h2 h3
 have hg:=H1.1 h
 have ha:∀a∈l.take p,a.tm<=x.tm:=λa ha=>by
  obtain ⟨i,hi,rfl⟩:=Hu ha
  rw [Fp] at hi
  rw [Kh]
  have h4:=h3 om
  rw [Ct l (p - 1) om] at h4
  by_cases e:i=p - 1
  ·subst e;exact h4
  have:=hg i (p - 1) om om om;omega
 have hb:∀b∈l.drop p,x.tm<=b.tm:=λb hb=>by
  obtain ⟨i,hi,rfl⟩:=Hu hb
  rw [Fx] at hi
  rw [Lu]
  have h4:=h2 (p+i) om om
  rw [Ct l (p+i) om] at h4
  omega
 refine Ko.2 ⟨h.sublist<|Lc _ _,Ge.2 ⟨hb,h.sublist<|List.drop_sublist _ _⟩,λa aa b M=>?_⟩
 rcases Fw.1 M with rfl|M
 ·exact ha a aa
 have h5:=ha a aa;have h6:=hb b M;omega
end Go.Sl
namespace Go.Sl
variable {P:Program}{κ:Ctx}{N:Frm}{L:Env}{I:List Item}
end Go.Sl
namespace Go.Sl
variable {P:Program}{κ:Ctx}{N:Frm}{L:Env}{I:List Item}
end Go.Sl
namespace Go.Sl
open Go.Proofs
set_option maxRecDepth 4000
theorem aw0{zs:List Int}{x:Int}(h:x∈zs):∃q:Nat,q<zs.length/\x=e_ zs q:=by
 obtain ⟨q,M,rfl⟩:=Hu h
 exact ⟨q,M,(Ct zs q M).symm⟩
end Go.Sl
namespace Go.Sl
open Go.RowKit (Below)
variable{T et r:Nat}{w:World}{x y:Operand}
section
variable {α:Type}[Enc α][DecidableEq α]
def cd0:Nat->List α->List MapEntry
 |_,[]=>[]
 |i,x::xs=>{key:= .agg (Enc.enc x).toArray,val:=e7 (i:Nat),born:=i}::cd0 (i+1) xs
theorem bz1:∀(xs:List α) (i:Nat) (x:α),cd0 i (xs++[x])=cd0 i xs++[{key:= .agg (Enc.enc x).toArray,val:=e7 ((i+xs.length:Nat):Int),born:=i+xs.length}]
 |[],i,x=>by simp [cd0]
 |y::ys,i,x=>by
  have h:=bz1 ys (i+1) x
  rw [show i+1+ys.length=i+(ys.length+1) by omega] at h
  show _::cd0 (i+1) (ys++[x])=_
  rw [h];rfl
def gi7(P:Program)(T:TypeId)(α:Type)[Enc α]:Prop:=∀(x:α) (e:Bool) (w:World),(Instr.checkKey e 10000 T (.agg (Enc.enc x).toArray)).run P w = .ok () w
theorem bm2{P:Program}{T:TypeId}{w:World}(h:EqT P T α)(k:α):∀(xs:List α) (i j:Nat),(Instr.findAsking T (.agg (Enc.enc k).toArray) (cd0 i xs) j).run P w = .ok (if k∈xs then some (j+xs.idxOf k,e7 ((i+xs.idxOf k:Nat):Int)) else none) w
 |[],i,j=>by simp [cd0,Instr.findAsking]
 |x::xs,i,j=>by
  have M:=bm2 (w:=w) h k xs (i+1) (j+1)
  have he:(Op.equal T (.agg (Enc.enc k).toArray)<|.agg (Enc.enc x).toArray).run P w = .ok (decide<|k=x) w:=h.1 k x w
  unfold cd0 Instr.findAsking
  simp only [Sem.run_bind,he,Result.andThen]
  by_cases hx:k=x
  ·subst hx
   simp
  rw [D_ hx]
  simp only [Bool.false_eq_true,if_false]
  rw [M]
  have hb:(x==k)=false:=by simpa using λe=>hx e.symm
  by_cases hm:k∈xs
  ·rw [B_ hm,B_<|C_ _ hm,List.idxOf_cons,hb]
   simp only [cond_false]
   rw [show j+1+List.idxOf k xs=j+(List.idxOf k xs+1) by omega,show i+1+List.idxOf k xs=i+(List.idxOf k xs+1) by omega]
  rw [An hm,An<|by simp [hx,hm]]
theorem an3{P:Program}{T:TypeId}{M:Array Field}(hT:P.underlying T=some (.struct M))(h:EqT P T α)(k:α)(xs:List α):(Instr.findKey T (.agg (Enc.enc k).toArray) (cd0 0 xs)).run P w = .ok (if k∈xs then some (xs.idxOf k,e7 ((xs.idxOf k:Nat):Int)) else none) w:=by
 unfold Instr.findKey
 simp only [Sem.run_bind,run_underlying hT,Result.andThen]
 cases xs with
 |nil=>simp [cd0,Instr.findNow]
 |cons x xs=>
  have e:Instr.findNow (.struct M) (.agg (Enc.enc k).toArray) (cd0 0<|x::xs) 0=none:=by
   simp [cd0,Instr.findNow,Instr.sameNow]
  rw [e]
  have:=bm2 (w:=w) h k (x::xs) 0 0
  simp only [Ls] at this
  exact this
def mpE(r:Nat)(xs:List α):Item:=mp r (cd0 0 xs) xs.length
section
variable {P:Program}{κ:Ctx}{N:Frm}{Q:Exit->Act->World->Prop}{L:Env}{I J:List Item}{ops:Array Oper}{rest:List Oper}
variable {d:Option Tmp}{ty:TypeId}{ps:String}{af:Array Edge}{gd:Option (Nat×Bool)}
theorem Eff.dx4{dd:Nat}(M:Nat.blt dd N.n=true) :
  Eff P κ N Q ⟨some dd,.makeMap T none,ty,ps,af,gd⟩ L I λL' I'=>∃r,L'=(dd,.map<|some r)::L/\I'=mpE (α:=α) r []::I:=Eff.makeMap M
theorem Eff.fk7{z:Operand}{kt:Nat}{fs:Array Field}{xs:List α}{k:α}{v:Value}{I':List Item}(ht:P.underlying T=some (.map kt et))(ab:P.underlying kt=some (.struct fs))(he:EqT P kt α)(hc:gi7 P kt α)(hx:er L x=some (.map (some r)))
  (hy:er L y=some (.agg (Enc.enc k).toArray)) (hz:er L z=some v) (hv:v=e7 ((xs.length:Nat):Int)) (hk:k∉xs) (aa:At I (mpE r xs) (mpE r<|xs++[k]) I') :
  Eff P κ N Q ⟨none,.mapUpdate T x y z,ty,ps,af,gd⟩ L I λL' I''=>L'=L/\I''=I':=
 Eff.br2 rfl λa w ha hs=>by
  have hb:=(hs.ok _ aa.mem).1
  have hf:=an3 (w:=w) ab he k xs
  rw [An hk] at hf
  have M:=bz1 xs 0 k
  simp only [Ls] at M
  refine ⟨{w with heap:=w.heap.setIfInBounds r (.map (cd0 0<|xs++[k]).toArray (xs++[k]).length)},I',?_,⟨rfl,rfl⟩,?_⟩
  ·subst hv
   have ad:(cd0 0 xs).toArray.push {key:= .agg (Enc.enc k).toArray,val:=e7 ((xs.length:Nat):Int),born:=xs.length}=(cd0 0<|xs++[k]).toArray:=by
    rw [M];simp
   have hl:xs.length+1=(xs++[k]).length:=by simp
   simp [execOp,ha.eval hx,ha.eval hy,ha.eval hz,Instr.mapUpdate,run_underlying ht,MapKept.run_getObj_map hb,hc k,hf,MapKept.run_setObj_map _ hb,Result.andThen,M]
  exact hs.upd aa rfl ⟨rfl,Gd _⟩ rfl (by simp) (λk _ ae=>(MapKept.heap_set hb).2 k λe=>ae e) (MapKept.heap_set hb).1 λk hk=> .inl hk
theorem j8.dg8{M:Nat}{fs:Array Field}{xs:List α}{k:α}(ht:P.underlying T=some (.map M et))(aa:P.underlying M=some (.struct fs))(he:EqT P M α)(hc:gi7 P M α)(hx:er L x=some (.map (some r)))
  (hy:er L y=some (.agg (Enc.enc k).toArray)) (hm:mpE r xs∈J) (hk:k∈xs):j8 P κ N ⟨d,.lookup T x y false,ty,ps,af,gd⟩ L J (e7 ((xs.idxOf k:Nat):Int)):=
 λa w ha hs=>by
  have hb:=(hs.ok _ hm).1
  have hf:=an3 (w:=w) aa he k xs
  rw [B_ hk] at hf
  simp [execOp,ha.eval hx,ha.eval hy,Instr.lookup,run_underlying ht,MapKept.run_getObj_map hb,hc k,hf,Result.andThen]
end
end
end Go.Sl
namespace Go.Sl
open Go.Proofs
set_option maxRecDepth 4000
variable{nd:Int}{es:List Pt}
variable {κ:Ctx}{I:List Item}
def ah9(nd:Int)(es:List Pt)(e:Pt):List Pt:=(j3 nd es e.u e.v).map λw=>(⟨((es.idxOf (j4 e.u w):Nat):Int),((es.idxOf (j4 e.v w):Nat):Int)⟩:Pt)
def G2(nd:Int)(es:List Pt):List (List Pt):=es.map (ah9 nd es)
theorem fp7:gi7 prog 105 Pt:=λx e w=>by
 cases x;kernel_rfl
theorem am4(hG:s6 nd es){e:Pt}(he:e∈es){w:Int}(hw:w∈j3 nd es e.u e.v):j4 e.u w∈es/\j4 e.v w∈es:=by
 have M:=hG.Z1 e he
 have hr:=hG.rows
 have ad:e.u≠e.v:=by omega
 have hc:¬F6 nd es≠0:=λh=>h (s4.2 hG)
 have aa:∀u:Int,0<=u->u<nd->bi8 nd es u=e_ (ek nd es) u:=λu h0 h1=>by
  have ae:=hG.rows.len
  unfold bi8
  rw [An (by rintro (h|h|h);(· omega);(· omega);(· exact hc h))]
 rw [←at1 ad,K1,aa _ M.1 om,aa _ om M.2.2,hr.mem M.1 om,hr.mem om M.2.2] at hw
 have ab:∀a b:Int,((⟨a,b⟩:Pt)∈es\/(⟨b,a⟩:Pt)∈es)->j4 a b∈es:=λa b h=>by
  unfold j4
  rcases h with h|h
  ·have:=hG.Z1 _ h
   simp only at this
   rw [An om,B_ om];exact h
  have:=hG.Z1 _ h
  simp only at this
  rw [B_ om,An om];exact h
 exact ⟨ab _ _ hw.1.2,ab _ _ hw.2.2⟩
theorem am5(hG:s6 nd es){e:Pt}(he:e∈es):(j3 nd es e.u e.v).length<=nd.toNat - 1:=by
 have aa:=hG.Z1 e he
 have ab:e.u≠e.v:=by omega
 have hc:¬F6 nd es≠0:=λh=>h (s4.2 hG)
 have M:∀u:Int,0<=u->u<nd->bi8 nd es u=e_ (ek nd es) u:=λu h0 h1=>by
  have ad:=hG.rows.len
  unfold bi8
  rw [An (by rintro (h|h|h);(· omega);(· omega);(· exact hc h))]
 rw [←at1 ab,M _ aa.1 om,M _ om aa.2.2]
 have hS:=ak9 hG
 have hl:=hG.rows.len
 have:=bs8 hS (e_ (ek nd es) e.v) aa.1 om
 unfold Q3 at this
 omega
theorem av1(hG:s6 nd es):ch3 (nd.toNat - 1) (G2 nd es):=by
 refine ⟨λl M=>?_,λl M p hp=>?_⟩
 ·obtain ⟨e,he,rfl⟩:=Gv.1 M
  unfold ah9;rw [F_];exact am5 hG he
 obtain ⟨e,he,rfl⟩:=Gv.1 M
 obtain ⟨w,hw,rfl⟩:=Gv.1 hp
 obtain ⟨h1,h2⟩:=am4 hG he hw
 have a:=Kk h1
 have b:=Kk h2
 have M:(G2 nd es).length=es.length:=F_ ..
 simp only
 omega
def rgI(rs:List (G1 Pt)):List Item:=rs.map λr=>vk 200 r.a r.c r.xs
theorem At.rg{I:List Item}{ad:Option Addr}{c:Nat}{xs:List Pt}:∀{rs:List (G1 Pt)} {i:Int},0<=i->i<rs.length->
  At (rgI rs++I) (vc 200 (.slice (e_ rs i).a (e_ rs i).xs.length (e_ rs i).c) (e_ rs i).xs) (vc 200 (.slice ad xs.length c) xs) (rgI (List.set rs i.toNat ⟨ad,c,xs⟩)++I):=fun {rs} {i} M h=>by
 obtain ⟨k,rfl⟩:∃k:Nat,i=(k:Int):=⟨i.toNat,by omega⟩
 rw [Lw]
 clear M
 induction rs generalizing k with
 |nil=>simp at h;omega
 |cons r rs ih=>
  cases k with
  |zero=>exact At.head _ _ _
  |succ k=>exact At.tail _ (ih k<|by simp at h;omega)
theorem an9{I:List Item}{rs:List (G1 Pt)}{i:Int}(M:0<=i)(h:i<rs.length):vk 200 (e_ rs i).a (e_ rs i).c (e_ rs i).xs∈rgI rs++I:=(At.rg (ad:=none) (c:=0) (xs:=[]) M h).mem
theorem Fit.fy8:∀(rs:List (G1 Pt)),(∀r∈rs,r=default)->Fit κ I (rgI rs++I)
 |[],_=>Dd _
 |r::rs,h=>by
  refine A9 (Fit.fy8 rs λx M=>h x<|C_ _ M) ?_
  show Fit κ _ (vk 200 r.a r.c r.xs::_)
  rw [h r A_]
  exact B7 _ _
theorem dv0{rs:List (G1 Pt)}(hl:rs.length=es.length)(h:∀i:Nat,i<es.length->(e_ rs i).xs=ah9 nd es (e_ es i)):rs.map G1.xs=G2 nd es:=by
 show rs.map G1.xs=es.map (ah9 nd es)
 refine Mc (by rw [F_,F_];exact hl) λi M h2=>?_
 rw [F_] at M
 have:=h i om
 rw [Ct _ _ M,Ct _ _ om] at this
 rw [Jj,Jj];exact this
theorem dw9(h:es.Nodup){k:Nat}(M:k<es.length):e_ es k∉es.take k:=by
 rw [Ct es k M]
 intro hm
 obtain ⟨i,hi,e⟩:=Jv.1 hm
 rw [Fp] at hi
 rw [Kh] at e
 exact (H1.1 h) i k om M om e
theorem az0{va:Value}(hl:Sl κ I va es)(hG:s6 nd es)(hb:es.length<=1000000)(hT:F4 κ I 0 p6):eu prog κ 160 [.agg #[e7 nd,va]] I (λr J=>∃a c rs,r = .slice a (rs.length) c/\rs.map G1.xs=G2 nd es/\J=vk 198 a c rs::(rgI rs++I)):=by
 refine Bv hl.le λa5=>?_
 have a3:=hG.rng
 refine Ce1 Tryz.func160 C C ?_
 refine Ak<|Ge1 (Au (cs:=[_,_]) C C C) λb1=>Ga C<|Ar<|Ak<|Ge1 (Eff.dx4 (α:=Pt) C) λad=>?_
 refine Ga C<|Ar<|Ax<|Ak<|Gf K4 C<|Gl an1 ?_
 refine Gr (E1 (α:=Pt) (xs:=es) Ay C<|A4 hl)<|Gm C<|Ar<|A7<|B9 (σ:=Nat) (λs=>([(1,pt b1),(3,.map<|some ad),(15,va),(16,e7 ((es.length:Nat):Int)),(17,e7 ((s:Nat):Int))]:Env)) (λs=>mpE (α:=Pt) ad (es.take s)::e8 b1 [e7 nd,va] 38::I) (λs=>(s<=es.length)) (λs=>es.length - s) 0 (show ((0:Nat)<=es.length) from om) (cx4<|Aa Co Bb) (show Fit κ _ (mpE (α:=Pt) ad (es.take 0)::e8 b1 [e7 nd,va] 38::I) from Ai) ?_
 rintro k hp
 have hk:=hp
 refine Ak<|Gr (Bl C C)<|Ar<|Ax<|Am C (λa0=>?_)<|λa0=>?_
 ·refine Bc (Ao<|Ax<|A7<|Ak<|Gm C<|Gr (A2 (α:=Pt) (xs:=es) Ay s8 C C (A4 hl) om om)<|Gr (C6 (α:=Pt) (xs:=es) s8 C (A4 hl) om om)<|Ge1 (Aj s8 C) λb3=>Ga C<|Ge0 (Cs s8) ?_)
  refine Ar<|A6<|Gm C<|Gl2 s8 ?_
  refine Gm C<|Ge0 (Eff.fk7 (α:=Pt) (k:=(e_ es k)) Tryz.underlying230 Ea ay7 fp7 C C C (by rw [Fp,Mi om]) (dw9 (Ff hG.asc) om) am) ?_
  exact Bq<|Av<|Ao<|A1 (S5 1 3 15 16 17)<|A6<|Gr (Rad C C)<|Gm C<|Bq<|Bt ((k+1)) om (hI:=by (try dsimp only);exact (by rw [Ca es k om];exact Ai))
 refine Ci<|Aw<|Aw<|Bi<|Ao<|Ak<|Gf K4 C ?_
 have az:es.take k=es:=Fv om
 rw [az]
 refine Gl an1 ?_
 refine Gr (E1 (α:=Pt) (xs:=es) Ay C<|A4 hl)<|Ge2 (Dk (α:=(G1 Pt)) (n:=es.length) D7 bj3 C C C om om dc C) λaa ab=>?_
 refine Ga C<|Ar<|Ax<|Ak<|Gf K4 C<|Gl an1 ?_
 refine Gr (E1 (α:=Pt) (xs:=es) Ay C<|A4 hl)<|Gm C<|Ar<|A1 (S6 33 32 31 6 1 3)<|A7<|B9 (σ:=Nat×(List<|G1 Pt)) (λs=>([(1,pt b1),(3,.map<|some ad),(6,.slice aa (replicate es.length (default:(G1 Pt))).length ab),(31,va),(32,e7 ((es.length:Nat):Int)),(33,e7 ((s.1:Nat):Int))]:Env)) (λs=>vc 198 (.slice aa (replicate es.length (default:(G1 Pt))).length ab) (s.2)::mpE (α:=Pt) ad (es)::e8 b1 [e7 nd,va] 38::(rgI s.2++I)) (λs=>(s.1<=es.length)/\(s.2.length=es.length)/\(∀i:Nat,i<s.1->(e_ s.2 i).xs=ah9 nd es (e_ es i))/\(∀i:Nat,s.1<=i->i<es.length->(e_ s.2 i).xs=[])) (λs=>es.length - s.1) (0,replicate es.length (default:G1 Pt)) (show ((0:Nat)<=es.length)/\((replicate es.length (default:G1 Pt):List (G1 Pt)).length=es.length)/\(∀i:Nat,i<(0:Nat)->(e_ (replicate es.length (default:G1 Pt):List (G1 Pt)) (i:Int)).xs=ah9 nd es (e_ es i))/\(∀i:Nat,(0:Nat)<=i->i<es.length->(e_ (replicate es.length (default:G1 Pt):List (G1 Pt)) (i:Int)).xs=[]) from ⟨om,Fy,(λi h=>by omega),(λi h1 h2=>by rw [cp5 _ _ _ om om];rfl)⟩) (cx4<|Aa C<|Aa Co Bb) (show Fit κ _ (vc 198 (.slice aa (replicate es.length (default:(G1 Pt))).length ab) ((replicate es.length (default:G1 Pt)))::mpE (α:=Pt) ad (es)::e8 b1 [e7 nd,va] 38::(rgI (replicate es.length (default:G1 Pt))++I)) from (A9 (Fit.fy8 (replicate es.length (default:G1 Pt))<|λr hr=>Kf hr) Az)) ?_
 rintro ⟨k2,rs⟩ hp
 dsimp only at hp ⊢
 obtain ⟨a8,ak,av,ap⟩:=hp
 refine Ak<|Gr (Bl C C)<|Ar<|Ax<|Am C (λa1=>?_)<|λa1=>?_
 ·refine Bc (Ao<|Ax<|A7<|Ak<|Gm C<|Gr (A2 (α:=Pt) (xs:=es) Ay s8 C C (A4 hl) om om)<|Gr (C6 (α:=Pt) (xs:=es) s8 C (A4 hl) om om)<|Ge1 (Aj s8 C) λb6=>Ga C<|Ge0 (Cs s8) ?_)
  refine Ar<|Ak<|Gl2 J8 ?_
  refine Gf N8 C<|Gl ef ?_
  refine Gf N7 C<|Gl ef ?_
  refine Gc2 (Ac c_ C C<|bo6 (nd:=nd) (A4 hl) ((e_ es k2).u) ((e_ es k2).v)<|A8 hT Ah) λaj ai=>?_
  refine Gr (Bk Ab C)<|Gm C<|Ar<|A1 (S11 45 44 43 7 8 1 3 6 31 32 33)<|A7<|B9 (σ:=Nat×(List<|G1 Pt)) (λs=>([(1,pt b1),(3,.map<|some ad),(6,.slice aa (replicate es.length (default:(G1 Pt))).length ab),(7,e7 ((k2:Nat):Int)),(8,pt b6),(31,va),(32,e7 ((es.length:Nat):Int)),(33,e7 ((k2:Nat):Int)),(43,.slice aj (j3 nd es ((e_ es ((k2:Nat):Int)).u)<|(e_ es ((k2:Nat):Int)).v).length ai),(44,e7<|(((j3 nd es ((e_ es ((k2:Nat):Int)).u)<|(e_ es ((k2:Nat):Int)).v).length:Nat):Int)),(45,e7 ((s.1:Nat):Int))]:Env)) (λs=>vk 3 aj ai (j3 nd es ((e_ es ((k2:Nat):Int)).u)<|(e_ es ((k2:Nat):Int)).v)::e8 b6 [e7 ((e_ es ((k2:Nat):Int)).u),e7<|(e_ es ((k2:Nat):Int)).v] 105::vc 198 (.slice aa (replicate es.length (default:(G1 Pt))).length ab) (s.2)::mpE (α:=Pt) ad (es)::e8 b1 [e7 nd,va] 38::(rgI s.2++I)) (λs=>(s.1<=(j3 nd es (e_ es ((k2:Nat):Int)).u (e_ es ((k2:Nat):Int)).v).length)/\(s.2.length=es.length)/\(∀i:Nat,i<k2->(e_ s.2 i).xs=ah9 nd es (e_ es i))/\(∀i:Nat,k2<i->i<es.length->(e_ s.2 i).xs=[])/\((e_ s.2 ((k2:Nat):Int)).xs=((j3 nd es (e_ es ((k2:Nat):Int)).u (e_ es ((k2:Nat):Int)).v).take s.1).map (λw=>(⟨((es.idxOf (j4 (e_ es ((k2:Nat):Int)).u w):Nat):Int),((es.idxOf (j4 (e_ es ((k2:Nat):Int)).v w):Nat):Int)⟩:Pt)))) (λs=>(j3 nd es (e_ es ((k2:Nat):Int)).u (e_ es ((k2:Nat):Int)).v).length - s.1) (0,rs) (show ((0:Nat)<=(j3 nd es (e_ es ((k2:Nat):Int)).u (e_ es ((k2:Nat):Int)).v).length)/\((rs:List (G1 Pt)).length=es.length)/\(∀i:Nat,i<k2->(e_ (rs:List (G1 Pt)) (i:Int)).xs=ah9 nd es (e_ es i))/\(∀i:Nat,k2<i->i<es.length->(e_ (rs:List (G1 Pt)) (i:Int)).xs=[])/\((e_ (rs:List (G1 Pt)) ((k2:Nat):Int)).xs=((j3 nd es (e_ es ((k2:Nat):Int)).u (e_ es ((k2:Nat):Int)).v).take (0:Nat)).map (λw=>(⟨((es.idxOf (j4 (e_ es ((k2:Nat):Int)).u w):Nat):Int),((es.idxOf (j4 (e_ es ((k2:Nat):Int)).v w):Nat):Int)⟩:Pt))) from ⟨om,ak,av,(λi h1 h2=>ap i om h2),(by rw [ap k2 (Gd _) om];simp)⟩) (cx4<|cx4<|cx2<|Aa Co Bb) (show Fit κ _ (vk 3 aj ai (j3 nd es ((e_ es ((k2:Nat):Int)).u)<|(e_ es ((k2:Nat):Int)).v)::e8 b6 [e7 ((e_ es ((k2:Nat):Int)).u),e7<|(e_ es ((k2:Nat):Int)).v] 105::vc 198 (.slice aa (replicate es.length (default:(G1 Pt))).length ab) ((rs))::mpE (α:=Pt) ad (es)::e8 b1 [e7 nd,va] 38::(rgI (rs)++I)) from Ai) ?_
  rintro ⟨j,M⟩ hp
  dsimp only at hp ⊢
  obtain ⟨hj,an,ar,aq,ao⟩:=hp
  have a7:=am5 hG (e:=(e_ es k2)) (Bp om om)
  have aw:j<(j3 nd es (e_ es k2).u (e_ es k2).v).length->j4 (e_ es k2).u (e_ (j3 nd es (e_ es k2).u (e_ es k2).v) (j:Int))∈es/\j4 (e_ es k2).v (e_ (j3 nd es (e_ es k2).u (e_ es k2).v) (j:Int))∈es:=λh=>am4 hG (Bp om om) (Bp om om)
  have a4:((e_ M k2).xs).length=j:=by rw [ao,F_,Fp];omega
  refine Ak<|Gr (Bl C C)<|Ar<|Ax<|Am C (λay=>?_)<|λay=>?_
  ·refine Bc (Ao<|Ax<|A7<|Ak<|Gr (A2 (α:=Int) (xs:=j3 nd es ((e_ es k2).u) ((e_ es k2).v)) Ab ef C C A5 om om)<|Gr (B6 (xs:=j3 nd es ((e_ es k2).u) ((e_ es k2).v)) ef C A5 om om)<|Ga C ?_)
   have hw:=aw om
   refine Ar<|A1 (S12 10 1 3 6 7 8 31 32 33 43 44 45 C C C C C C C C C C C C)<|Ak<|Gm C<|Gf N8 C<|Gl ef ?_
   refine Gm C<|Gr (j8.min C C)<|Gf N8 C<|Gl ef ?_
   refine Gm C<|Gr (E9 C C)<|Gr (Cl (cells:=[_,_]) s8 Ea fn2 C C)<|Gr (j8.dg8 (α:=Pt) (k:=(j4 (e_ es k2).u (e_ (j3 nd es ((e_ es k2).u)<|(e_ es k2).v) (j:Int)))) (xs:=es) Tryz.underlying230 Ea ay7 fp7 C C mm hw.1)<|Ga C<|Ar<|A1 (S13 11 10 1 3 6 7 8 31 32 33 43 44 45)<|Ak<|Gm C<|Gf N7 C<|Gl ef ?_
   refine Gm C<|Gr (j8.min C C)<|Gf N7 C<|Gl ef ?_
   refine Gm C<|Gr (E9 C C)<|Gr (Cl (cells:=[_,_]) s8 Ea fn2 C C)<|Gr (j8.dg8 (α:=Pt) (k:=(j4 (e_ es k2).v (e_ (j3 nd es ((e_ es k2).u)<|(e_ es k2).v) (j:Int)))) (xs:=es) Tryz.underlying230 Ea ay7 fp7 C C mm hw.2)<|Ga C<|Ar<|A1 (S13 12 11 1 3 6 7 8 31 32 33 43 44 45)<|A6<|Gm C<|Gm C<|Gm C<|Gm C<|Gr (A2 (α:=(G1 Pt)) (xs:=M) D7 bj3 C C A5 om om)<|Gr (Cc (α:=(G1 Pt)) (xs:=M) (u:= .slice (e_ M k2).a (e_ M k2).xs.length (e_ M k2).c) bj3 C A5 om om C)<|Gm C<|Gm C<|Gr (Eg (cells:=[_,_]) L8 B8 ef C C)<|Ge1 (B2 (α:=Pt) (cs:=[_,_]) (xs:=[⟨((List.idxOf (j4 (e_ es k2).u (e_ (j3 nd es ((e_ es k2).u)<|(e_ es k2).v) (j:Int))) es:Nat):Int),((List.idxOf (j4 (e_ es k2).v (e_ (j3 nd es ((e_ es k2).u)<|(e_ es k2).v) (j:Int))) es:Nat):Int)⟩]) Bw L8 C C dc dc C C C C) λau=>?_
   refine Ge2 (Br (α:=Pt) (e:=200) (xs:=(e_ M k2).xs) (ys:=([⟨((List.idxOf (j4 (e_ es k2).u (e_ (j3 nd es ((e_ es k2).u)<|(e_ es k2).v) (j:Int))) es:Nat):Int),((List.idxOf (j4 (e_ es k2).v (e_ (j3 nd es ((e_ es k2).u)<|(e_ es k2).v) (j:Int))) es:Nat):Int)⟩]:List Pt)) Bw L8 C C C (by repeat (first|exact an9 (rs:=M) (i:=(k2:Int)) om om|apply C_)) A5 lcn dc C<|λ_ _=>(by repeat (first|exact At.rg (rs:=M) (i:=(k2:Int)) om om|apply At.tail))) λah ae=>?_
   show G prog κ _ _ _ _ ([(81,.slice ah ((e_ M k2).xs++([⟨((List.idxOf (j4 (e_ es k2).u (e_ (j3 nd es ((e_ es k2).u)<|(e_ es k2).v) (j:Int))) es:Nat):Int),((List.idxOf (j4 (e_ es k2).v (e_ (j3 nd es ((e_ es k2).u)<|(e_ es k2).v) (j:Int))) es:Nat):Int)⟩]:List Pt)).length ae),(80,.slice au 1 1),(79,.agg #[e7 (((List.idxOf (j4 (e_ es k2).u (e_ (j3 nd es ((e_ es k2).u)<|(e_ es k2).v) (j:Int))) es:Nat):Int)),e7<|((List.idxOf (j4 (e_ es k2).v (e_ (j3 nd es ((e_ es k2).u)<|(e_ es k2).v) (j:Int))) es:Nat):Int)]),(78,e7<|((List.idxOf (j4 (e_ es k2).v (e_ (j3 nd es ((e_ es k2).u)<|(e_ es k2).v) (j:Int))) es:Nat):Int)),(77,e7<|((List.idxOf (j4 (e_ es k2).u (e_ (j3 nd es ((e_ es k2).u)<|(e_ es k2).v) (j:Int))) es:Nat):Int)),(76,.slice (e_ M k2).a (e_ M k2).xs.length (e_ M k2).c),(75,F0 (.slice aa (replicate es.length (default:(G1 Pt))).length ab)<|((k2:Int)).toNat*Enc.sz (G1 Pt)),(74,e7<|(k2:Int)),(73,.slice aa (replicate es.length (default:(G1 Pt))).length ab),(72,e7<|(k2:Int)),(71,.slice aa (replicate es.length (default:(G1 Pt))).length ab),(12,e7<|((List.idxOf (j4 (e_ es k2).v (e_ (j3 nd es ((e_ es k2).u)<|(e_ es k2).v) (j:Int))) es:Nat):Int)),(11,e7<|((List.idxOf (j4 (e_ es k2).u (e_ (j3 nd es ((e_ es k2).u)<|(e_ es k2).v) (j:Int))) es:Nat):Int)),(1,pt b1),(3,.map<|some ad),(6,.slice aa (replicate es.length (default:(G1 Pt))).length ab),(7,e7<|(k2:Int)),(8,pt b6),(31,va),(32,e7 ((es.length:Nat):Int)),(33,e7<|(k2:Int)),(43,.slice aj (j3 nd es ((e_ es k2).u)<|(e_ es k2).v).length ai),(44,e7<|(((j3 nd es ((e_ es k2).u)<|(e_ es k2).v).length:Nat):Int)),(45,e7<|(j:Int))]:Env) (vc 200 (.slice au 1 1) (([⟨((List.idxOf (j4 (e_ es k2).u (e_ (j3 nd es ((e_ es k2).u)<|(e_ es k2).v) (j:Int))) es:Nat):Int),((List.idxOf (j4 (e_ es k2).v (e_ (j3 nd es ((e_ es k2).u)<|(e_ es k2).v) (j:Int))) es:Nat):Int)⟩]:List Pt))::vk 3 aj ai (j3 nd es ((e_ es k2).u)<|(e_ es k2).v)::e8 b6 [e7 ((e_ es k2).u),e7<|(e_ es k2).v] 105::vc 198 (.slice aa (replicate es.length (default:(G1 Pt))).length ab) (M)::mpE (α:=Pt) ad (es)::e8 b1 [e7 nd,va] 38::(rgI (List.set M ((k2:Int)).toNat (⟨ah,ae,((e_ M k2).xs++([⟨((List.idxOf (j4 (e_ es k2).u (e_ (j3 nd es ((e_ es k2).u)<|(e_ es k2).v) (j:Int))) es:Nat):Int),((List.idxOf (j4 (e_ es k2).v (e_ (j3 nd es ((e_ es k2).u)<|(e_ es k2).v) (j:Int))) es:Nat):Int)⟩]:List Pt))⟩:G1 Pt))++I))
   refine Gr (A2 (α:=(G1 Pt)) (xs:=M) D7 bj3 C C A5 om om)<|Ge0 (Cw (α:=(G1 Pt)) (xs:=M) (e:=198) (new:=(⟨ah,ae,((e_ M k2).xs++([⟨((List.idxOf (j4 (e_ es k2).u (e_ (j3 nd es ((e_ es k2).u)<|(e_ es k2).v) (j:Int))) es:Nat):Int),((List.idxOf (j4 (e_ es k2).v (e_ (j3 nd es ((e_ es k2).u)<|(e_ es k2).v) (j:Int))) es:Nat):Int)⟩]:List Pt))⟩:G1 Pt)) bj3 C C C om om am) ?_
   exact Bq<|Av<|Ao<|A1 (S11 1 3 6 7 8 31 32 33 43 44 45)<|A6<|Gr (Rad C C)<|Gm C<|Bq<|Bt ((j+1),(List.set M ((k2:Int)).toNat (⟨ah,ae,((e_ M k2).xs++([⟨((List.idxOf (j4 (e_ es k2).u (e_ (j3 nd es ((e_ es k2).u)<|(e_ es k2).v) (j:Int))) es:Nat):Int),((List.idxOf (j4 (e_ es k2).v (e_ (j3 nd es ((e_ es k2).u)<|(e_ es k2).v) (j:Int))) es:Nat):Int)⟩]:List Pt))⟩:G1 Pt)))<|by dsimp only;exact ⟨om,(by rw [Fo];exact an),(λi h=>by rw [Ei _ _ _ _ om om om,An om];exact ar i h),(λi h1 h2=>by rw [Ei _ _ _ _ om om om,An om];exact aq i h1 h2),(by rw [Ei _ _ _ _ om om om,B_ rfl,Ca _ j om,Hr];show (e_ M k2).xs++_=_;rw [ao];rfl)⟩
  exact Ci<|Aw<|Aw<|Bi<|Av<|Ao<|A6<|Gr (Rad C C)<|Gm C<|Bq<|Bt ((k2+1),(M))<|by dsimp only;exact ⟨om,an,(λi h=>by by_cases e:i=k2;(· subst e;rw [ao,Fv om];rfl);(· exact ar i om)),(λi h1 h2=>aq i om h2)⟩
 refine Ci<|Aw<|Aw<|Bi<|Ao<|Ak<|Gm C<|Ga C<|Ar<|B3 ?_
 have a6:k2=es.length:=by omega
 have ax:=dv0 ak (λi h=>av i om)
 exact Al C C (vk 198 aa ab rs::(rgI rs++I)) (by unfold vk;rw [ak];simp only [Fy];exact Az) ⟨aa,ab,rs,by rw [ak];simp only [Fy],ax,rfl⟩
end Go.Sl
