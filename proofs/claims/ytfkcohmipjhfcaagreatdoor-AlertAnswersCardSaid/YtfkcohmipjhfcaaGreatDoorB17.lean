/- A part of the proofs of statements of this seat: contracts of functions, and the plain laws that they lean on. No conditions. -/
import Derived.Test.YtfkcohmipjhfcaaGreatDoorB16
set_option linter.unusedVariables false
set_option linter.unusedSimpArgs false
set_option linter.unusedSectionVars false
open Go.Proofs.Tryz (prog)
set_option maxHeartbeats 4000000
namespace Go.Sl
open Go.Proofs
set_option maxRecDepth 4000
variable{M i most n t:Int}{es:List Ev}{b:Nat}{lv:Value}{ls:List Int}
variable {κ:Ctx}{I:List Item}
attribute [local irreducible] W G V D A j0 Eff
theorem gk5{s x N:Int}(h1:0<=s)(M:s<N)(h3:0<=x)(E:x<N - 1):(0<=Int.tmod (s+1+x) N/\Int.tmod (s+1+x) N<N)/\s≠Int.tmod (s+1+x) N:=by
 rw [Nc om]
 by_cases h:s+1+x<N
 ·rw [Int.emod_eq_of_lt om h];omega
 rw [show s+1+x=(s+1+x - N)+N by omega,Int.add_emod_right,Int.emod_eq_of_lt om om];omega
theorem dv8{kd tm u v w lb sg:Int}(hk:1<=kd/\kd<=3)(ht:0<=tm/\tm<=1048576)(hu:0<=u/\u<n)(hn:n<=64)(E:kd=3->v=0)(M:kd≠3->(0<=v/\v<n)/\u≠v)(hr:kd=1->F0 w lb sg)(hz:kd≠1->w=0/\lb=0/\sg=0):H6 n ⟨kd,tm,u,v,w,lb,sg⟩:=
 ⟨hk,ht,⟨by show 0<=u/\u<64;omega,E,λh=>by have:=M h;show (0<=v/\v<64)/\u≠v;omega⟩,hr,by
  show u<n/\v<n
  by_cases h:kd=3
  ·have:=E h;omega
  have:=M h;omega,hz⟩
structure cr8 (n tt:Int) (es:List Ev):Prop where
 fit:∀e∈es,H6 n e
 tm:∀e∈es,e.tm<=tt
 asc:∀j:Nat,j<es.length->G3 es j<=(e_ es j).tm
theorem cr8.nil:cr8 n M []:=⟨λe h=>(by cases h),λe h=>(by cases h),λj h=>absurd h (Kd _)⟩
theorem cr8.later{ty:Int}(h:cr8 n M es)(ht:M<=ty):cr8 n ty es:=⟨h.fit,λe E=>by have:=h.tm e E;omega,h.asc⟩
theorem cr8.push{e:Ev}(h:cr8 n M es)(E:H6 n e)(ht:e.tm=M):cr8 n M (es++[e]):=by
 refine ⟨λx hx=>?_,λx hx=>?_,λj hj=>?_⟩
 ·rcases Gu.1 hx with hx|hx
  ·exact h.fit x hx
  rw [Gj.1 hx];exact E
 ·rcases Gu.1 hx with hx|hx
  ·exact h.tm x hx
  rw [Gj.1 hx];omega
 have hl:G3 (es++[e]) j=G3 es j:=by
  unfold G3
  split
  ·rfl
  rw [A_,La] at hj
  rw [show (j:Int) - 1=((j - 1:Nat):Int) by omega,D1 es [e] (j - 1) om]
 rw [hl]
 by_cases hje:j<es.length
 ·rw [D1 es [e] j hje];exact h.asc j hje
 obtain rfl:j=es.length:=by rw [A_,La] at hj;omega
 rw [cq1,ht]
 unfold G3
 split
 ·rw [←ht];exact E.tm.1
 rw [show (es.length:Int) - 1=((es.length - 1:Nat):Int) by omega];exact h.tm _ (B3 om om)
theorem bn7{nd:Int}(M:∀j:Nat,j<es.length->H6 nd (e_ es j))(E:∀j:Nat,j<es.length->G3 es j<=(e_ es j).tm):∀m k:Nat,k+m=es.length->K5 nd (G3 es k) (es.drop k)=0
 |0,k,h=>ae8 om
 |m+1,k,h=>by
  rw [Q7 om (X2.2<|M k om) (by have:=E k om;omega)]
  exact bn7 M E m (k+1) om
theorem cj0{b:Nat}{lv:Value}{ls:List Int}{i:Int}{n t:Int}(hl:∀q,Sl κ (R5 b lv q::I) lv ls)(h0:0<=i)(hn:2<=n/\n<=64)(ht:0<=t/\t<=1000000):er prog κ 77 [.pointer (some ⟨b,0,none⟩),e7 n,e7 t] (e8 b [lv,e7 i] 125::I) (λr J=>∃y:Ev×Int,((r = .agg #[e7 y.1.kd,e7 y.1.tm,e7 y.1.u,e7 y.1.v,e7 y.1.w,e7 y.1.lb,e7 y.1.sg]/\H6 n y.1/\y.1.tm=t)/\0<=y.2)/\J=[]++R5 b lv y.2::I):=by
 refine Ce3 Tryz.func77 C C ?_
 refine Aj (Ge1 (Ah j7 C) λb1=>Z ?_)
 refine G.e (Ac c_ C C (F5 (by repeat (first|exact AtF.head _ _|apply AtF.tail)) (Bs (hl _) Af) om om)) ?_
 rintro _ _ ⟨_,_,⟨x2,i3,rfl,hx2,hi3,rfl⟩,rfl,rfl⟩
 refine Z ?_
 refine Ge1 (Ah j7 C) λb4=>Ge0 (Fa j7) ?_
 refine Aq (D2 (σ:=Int×Int) (λs=>([(0,.pointer (some ⟨b,0,none⟩)),(2,e7 t),(6,.pointer (some ⟨b1,0,none⟩)),(7,.pointer (some ⟨b4,0,none⟩))]:Env)) (λs=>e8 b4 [e7 1,e7 t,e7 x2,e7 (s.1),e7 0,e7 0,e7 0] 108::e8 b1 [e7 0,e7 0,e7 0,e7 0,e7 0,e7 0,e7 0] 108::e8 b [lv,e7 (s.2)] 125::I) (λs=>((0<=s.1/\s.1<n)/\x2≠s.1)/\(0<=s.2)) ?_ ?_)
 ·refine A8 mixed (Cf (e8 b1 [e7 0,e7 0,e7 0,e7 0,e7 0,e7 0,e7 0] 108::I) 12 (Z ?_))
  refine Cg (rs:=[1,6]) kr C C (Dk ?_ (Du ?_))
  ·refine Sr C (Bd ef) Ar ?_
   refine Dr 2 C (Rad C C) (Ds1 6 (Se C (Ac c_ C C (F5 (by repeat (first|exact AtF.head _ _|apply AtF.tail)) (Bs (hl _) Af) om om)) ?_))
   rintro _ _ ⟨_,_,⟨x5,i6,rfl,hx5,hi6,rfl⟩,rfl,rfl⟩
   refine ⟨Ar,?_⟩
   refine Z ?_
   refine Dr 9 C (j0.rem C C om) (Z ?_)
   refine Ds1 11 (Se0 C (Ej ef) ?_)
   refine Dz ?_
   have htm:=gk5 (s:=x2) (x:=x5) (N:=n) om om om om
   exact Bu ((Int.tmod ((x2+1)+x5) n),(i6)) (by dsimp only;exact ⟨htm,om⟩)
  refine Se C (Ac c_ C C (F5 (by repeat (first|exact AtF.head _ _|apply AtF.tail)) (Bs (hl _) Af) om om)) ?_
  rintro _ _ ⟨_,_,⟨x7,i8,rfl,hx7,hi8,rfl⟩,rfl,rfl⟩
  refine ⟨Ar,?_⟩
  refine Ds1 1 (Sr C (Bd ef) Ar (Z ?_))
  refine Dr 7 C (Rad C C) (Dr 9 C (j0.rem C C om) (Z ?_))
  refine Ds1 11 (Se0 C (Ej ef) ?_)
  refine Dz ?_
  have htm:=gk5 (s:=x2) (x:=x7) (N:=n) om om om om
  exact Bu ((Int.tmod ((x2+1)+x7) n),(i8)) (by dsimp only;exact ⟨htm,om⟩)
 rintro ⟨vv,i9⟩ hp
 obtain ⟨hvv,hi9⟩:((0<=vv/\vv<n)/\x2≠vv)/\(0<=i9):=hp
 refine Ax (Aj (Gm C (G.e (Ac c_ C C (F5 (by repeat (first|exact AtF.head _ _|apply AtF.tail)) (Bs (hl _) Af) om om)) ?_)))
 rintro _ _ ⟨_,_,⟨x9,i10,rfl,hx9,hi10,rfl⟩,rfl,rfl⟩
 refine Z ?_
 refine Am C (λc27=>Z ?_) (λc27=>Z ?_)
 ·refine Ge0 (Fa j7) (Z ?_)
  exact Cv C j7 C mm C (e8 b [lv,e7 i10] 125::I) Ar ⟨(⟨3,t,x2,0,0,0,0⟩,i10),⟨⟨rfl,dv8 om om om om (λh=>by omega) (λh=>by omega) (λh=>by unfold F0;omega) (λh=>by omega),rfl⟩,by show 0<=i10;omega⟩,rfl⟩
 refine Am C (λc34=>Z ?_) (λc34=>Z ?_)
 ·refine Ge0 (Fa j7) (Z ?_)
  exact Cv C j7 C mm C (e8 b [lv,e7 i10] 125::I) Ar ⟨(⟨2,t,x2,vv,0,0,0⟩,i10),⟨⟨rfl,dv8 om om om om (λh=>by omega) (λh=>by omega) (λh=>by unfold F0;omega) (λh=>by omega),rfl⟩,by show 0<=i10;omega⟩,rfl⟩
 refine G.e (Ac c_ C C (F5 (by repeat (first|exact AtF.head _ _|apply AtF.tail)) (Bs (hl _) Af) om om)) ?_
 rintro _ _ ⟨_,_,⟨x11,i12,rfl,hx11,hi12,rfl⟩,rfl,rfl⟩
 refine Z ?_
 refine G.e (Ac c_ C C (F5 (by repeat (first|exact AtF.head _ _|apply AtF.tail)) (Bs (hl _) Af) om om)) ?_
 rintro _ _ ⟨_,_,⟨x13,i14,rfl,hx13,hi14,rfl⟩,rfl,rfl⟩
 refine Gm C (G.e (Ac c_ C C (F5 (by repeat (first|exact AtF.head _ _|apply AtF.tail)) (Bs (hl _) Af) om om)) ?_)
 rintro _ _ ⟨_,_,⟨x15,i16,rfl,hx15,hi16,rfl⟩,rfl,rfl⟩
 refine Gr (Eg C C (by unfold InR;omega)) (Z ?_)
 refine Ge0 (Ej ef) ?_
 refine Gf bx1 C (Ge0 (Ej ef) ?_)
 refine Gf bx0 C (Ge0 (Ej ef) (Z ?_))
 refine Ge0 (Fa j7) ?_
 exact Aq (Bq (Cv C j7 C mm C (e8 b [lv,e7 i16] 125::I) Ar ⟨(⟨1,t,x2,vv,1+x11,x13,1 - (2*x15)⟩,i16),⟨⟨rfl,dv8 om om om om (λh=>by omega) (λh=>by omega) (λh=>by unfold F0;omega) (λh=>by omega),rfl⟩,by show 0<=i16;omega⟩,rfl⟩))
theorem dk3{F:Item->List Item}(M:AtF I (R5 b lv i) F)(E:∀q,Sl κ (F (R5 b lv q)) lv ls)(h0:0<=i)(hn:2<=n/\n<=64)(ht:0<=t/\t<=1000000):er prog κ 77 [(pt b),e7 n,e7 t] I λr J=>∃y:Ev×Int,((r = .agg (ye y.1).toArray/\H6 n y.1/\y.1.tm=t)/\0<=y.2)/\J=[]++F (R5 b lv y.2):=
 Ea (Post:=λr (y:Ev×Int)=>(r = .agg (ye y.1).toArray/\H6 n y.1/\y.1.tm=t)/\0<=y.2) (Z:=λy:Ev×Int=>[]) (X:=λy:Ev×Int=>R5 b lv y.2) M λJ _ hF=>cj0 (λq=>(E q).fit (hF _)) h0  hn ht
theorem bz3(hl:∀q,Sl κ (R5 b lv q::I) lv ls)(h0:0<=i)(hn:2<=n/\n<=64)(hm:0<=most/\most<=20):er prog κ 20 [(pt b),e7 n,e7 most] (e8 b [lv,e7 i] 125::I) (λr J=>∃y:(Option Addr)×Nat×(List Ev)×Int,((r = .slice y.1 y.2.2.1.length y.2.1/\(cr8 n 500 y.2.2.1/\(y.2.2.1.length:Int)<=most))/\0<=y.2.2.2)/\J=[vq 108 y.1 y.2.1 y.2.2.1]++R5 b lv y.2.2.2::I):=by
 refine Ce3 Tryz.func20 C C<|Z ?_
 refine G.e (Ac c_ C C<|F5 ta0 (Bs (hl _) Af) om om) ?_
 rintro _ _ ⟨_,_,⟨x1,i2,rfl,av,aw,rfl⟩,rfl,rfl⟩
 refine Z ?_
 refine G.e (Ac c_ C C<|F5 ta0 (Bs (hl _) Af) om om) ?_
 rintro _ _ ⟨_,_,⟨x3,i4,rfl,ay,ar,rfl⟩,rfl,rfl⟩
 refine Ga C<|Aq<|A3<|Dl (σ:=Int×Int×(Option Addr)×Nat×(List Ev)×Int) (λs=>[(7,.slice s.2.2.1 s.2.2.2.2.1.length s.2.2.2.1),(8,e7<|s.2.2.2.2.2),(9,e7<|s.1)]) (λs=>[vq 108 s.2.2.1 s.2.2.2.1 s.2.2.2.2.1,e8 b [lv,e7<|s.2.1] 125]) (λs=>(0<=s.1/\(s.2.2.2.2.1.length:Int)+s.1<=most)/\(0<=s.2.1)/\(cr8 n s.2.2.2.2.2 s.2.2.2.2.1)/\(0<=s.2.2.2.2.2/\s.2.2.2.2.2<=3+3*(s.2.2.2.2.1.length:Int))) (λs=>s.1.toNat) (x3,i4,none,0,[],x1) ⟨ta8,om,cr8.nil,ta8⟩ (hI:=(Bb _ _)) ?_
 rintro ⟨kq,E,a1,c1,out,tt⟩ hp
 dsimp only at hp ⊢
 obtain ⟨az,ao,hE,au⟩:=hp
 refine Z ?_
 refine Au (d:=18) C (λai=>Z ?_)<|λai=>Z ?_
 ·refine Am C (λah=>Z ?_) (λah=>?_)
  ·refine G.e (Ac c_ C C<|dk3 ta0 (λ_=>Bs (hl _) Af) om  om om) ?_
   rintro _ _ ⟨_,_,⟨⟨M,i6⟩,⟨⟨rfl,ab,aa⟩,ad⟩,rfl⟩,rfl,rfl⟩
   have ad:0<=i6:=ad
   dsimp only at ab
   dsimp only at aa
   refine Ge1 (Bt (α:=Ev) (cs:=(ye M)) (xs:=[⟨M.kd,M.tm,M.u,M.v,M.w,M.lb,M.sg⟩]) As j7 C C dc dc C kr C C) λax=>?_
   refine Ge2 (Bv (α:=Ev) (e:=108) (xs:=out) (ys:=([⟨M.kd,M.tm,M.u,M.v,M.w,M.lb,M.sg⟩]:List Ev)) As j7 C C C mm A6 lcn dc C<|λ_ _=>am) λak an=>Z ?_
   refine G.e (Ac c_ C C<|F5 ta0 (Bs (hl _) Af) om om) ?_
   rintro _ _ ⟨_,_,⟨aj,ae,rfl,aq,ap,rfl⟩,rfl,rfl⟩
   refine Z ?_
   exact Bh ((kq - 1),(ae),(ak),(an),(out++([⟨M.kd,M.tm,M.u,M.v,M.w,M.lb,M.sg⟩]:List Ev)),(tt+aj))<|by dsimp only;exact ⟨lap,om,(cr8.later (by first|exact hE.push asm asm|exact cr8.push hE asm asm) om),lap⟩
  exact absurd hn.1 om
 exact Ak C C (vq 108 a1 c1 out::e8 b [lv,e7 E] 125::I) Ar ⟨(a1,c1,out,E),⟨⟨rfl,⟨hE.later om,by show (out.length:Int)<=most;omega⟩⟩,by show 0<=E;omega⟩,rfl⟩
theorem cr1{F:Item->List Item}(M:AtF I (R5 b lv i) F)(hl:∀q,Sl κ (F (R5 b lv q)) lv ls)(h0:0<=i)(hn:2<=n/\n<=64)(E:0<=most/\most<=20):er prog κ 20 [(pt b),e7 n,e7 most] I λr J=>∃y:(Option Addr)×Nat×(List Ev)×Int,((r = .slice y.1 y.2.2.1.length y.2.1/\(cr8 n 500 y.2.2.1/\(y.2.2.1.length:Int)<=most))/\0<=y.2.2.2)/\J=[vq 108 y.1 y.2.1 y.2.2.1]++F (R5 b lv y.2.2.2):=
 Ea (Post:=λr (y:(Option Addr)×Nat×(List Ev)×Int)=>(r = .slice y.1 y.2.2.1.length y.2.1/\(cr8 n 500 y.2.2.1/\(y.2.2.1.length:Int)<=most))/\0<=y.2.2.2) (Z:=λy:(Option Addr)×Nat×(List Ev)×Int=>[vq 108 y.1 y.2.1 y.2.2.1]) (X:=λy:(Option Addr)×Nat×(List Ev)×Int=>R5 b lv y.2.2.2) M λJ _ hF=>bz3 (λq=>(hl q).fit (hF _)) h0  hn E
end Go.Sl
namespace Go.Sl
open Go.Proofs
set_option maxRecDepth 4000
variable{kd mo nd wd:Int}{es:List Ev}
variable {κ:Ctx}{I:List Item}
theorem ai4(h:G6 nd kd wd mo es):K6 nd kd wd mo es=0:=by
 unfold K6
 rw [An (by simp [h.win])]
 have E:=h.st.nodes
 have M:=h.st.len
 unfold q8
 rw [An om,An om]
 exact bn7 h.st.fit h.st.asc es.length 0 om
theorem bs2{M:Value}(hl:Sl κ I M es)(h:G6 nd kd wd mo es):er prog κ 140 [e7 nd,M,.agg #[e7 kd,e7 wd,e7 mo]] I λr J=>∃a c,r = .tuple #[.slice a (q9 kd wd mo es).2.length c,e7 0]/\J=vq 108 a c (q9 kd wd mo es).2::I:=
 (fp8 hl).mono λr J hh=>by
  rcases hh with ⟨h1,_⟩|⟨a,c,_,E,h3⟩
  ·exact absurd (ai4 h) h1
  exact ⟨a,c,E,h3⟩
theorem Fit.one{κ:Ctx}{x:Item}{I:List Item}:Fit κ (x::I) [x]:=Dn (List.Sublist.cons_cons _ (List.nil_sublist _))
theorem Fit.mid{κ:Ctx}{A L T:List Item}:Fit κ (A++(L++T)) (A++T):=Dn (List.Sublist.append (Jm _) (Gv _ _))
theorem ac1{α:Type}[Inhabited α](xs:List α)(l:Nat):e_ (xs.drop l) 0=e_ xs l:=by
 rw [gb6 xs l 0 (Hn _),Int.add_zero]
theorem Z1{X:List Lk}(h:j8 nd X=0):X.length<=2016:=by
 have:=an2 (cf3 h)
 rwa [aw9] at this
structure bk0 (E:List Ev) (fst:Bool) (j:Nat) (t:Int) (own:Bool) (j':Nat):Prop extends go6 E fst j t own j' where
 adv:fst=false->j<j'
theorem dm1{l a0 bc a3:Nat}{ea:Option Addr}{ec:Nat}{σ τ:Type}{Lf:σ->List Item}{Pf:Bool->Nat->σ->Prop}{Xf:τ->List Item}{Qf:τ->Prop}{s0:σ}(hH:G6 nd kd wd mo es)(hlen:es.length<=19)(h1:X8 κ I a0 [e7 nd] 3)(h2:X8 κ I bc [.slice ea es.length ec] 28)(h3:X8 κ I a3 [e7 kd,e7 wd,e7 mo] 31)(hx:Sl κ I (.slice ea es.length ec) es)(br:Pf true 0 s0) (hy:∀T:List Item,Fit κ T I->∀(fst:Bool) (j:Nat) (t:Int) (own:Bool) (j':Nat) (a:Option Addr) (c:Nat),bk0 (V8 kd wd mo es) fst j t own j'->∀s,Pf fst j s->
      ah1 prog κ l [.agg #[e7 t,.bool own],.agg #[e7 nd,.slice a (F4 (eh ((V8 kd wd mo es).take j'))).length c]] (Lf s++(vq 135 a c (F4 (eh ((V8 kd wd mo es).take j')))::T)) λb J=>(b=true/\∃s',Pf false j' s'/\J=Lf s'++T)\/(b=false/\∃q,Qf q/\J=Xf q++T)):er prog κ 165 [(.func (.yield l) #[] #[]),(pt a0),(pt bc),(pt a3)] (Lf s0++I) (λr J=>r = .tuple #[]/\((∃s,Pf false (V8 kd wd mo es).length s/\J=Lf s++I)\/∃q,Qf q/\J=Xf q++I)):=by
 obtain ⟨EE,au⟩:∃EE,V8 kd wd mo es=EE:=⟨_,rfl⟩
 rw [au] at hy ⊢
 have ar:∀e∈EE,H6 nd e:=by rw [←au];exact hH.allFit
 refine Bm (hx.fit<|Fit.au8 _ _).le λb5=>?_
 refine Ce4 Tryz.func165 C C ?_
 refine Aj<|Gr (Dt ef C (Dj h1 Af) C)<|Gr (Dt fw1 C (Dj h2 Af) C)<|Gr (j0.fu4 (vs:=[_,_,_]) ah8 C (Dj h3 Af) C C) ?_
 refine G.e (Ac c_ C C<|bs2 (nd:=nd) (kd:=kd) (wd:=wd) (mo:=mo) (es:=es) (Bc hx) hH) ?_
 rintro _ _ ⟨_,_,⟨aq,ao,rfl,rfl⟩,rfl,rfl⟩
 refine Gm C<|Gr (Av C C)<|Gr (Av C C)<|Ga C<|Ga C ?_
 generalize hSE:(q9 kd wd mo es).2=SE
 have a6:∀e∈SE,H6 nd e:=by rw [←hSE];exact hH.fit
 have ca:SE.length<=38:=by rw [←hSE];have:=hH.ge4;omega
 have bi:(eh SE).length<=19:=by rw [←hSE];have:=hH.len;omega
 refine Aq<|Aj<|Gr (Dt ef C (Dj h1 Af) C)<|Gr (B1 (cells:=[_,_]) s5 Dc bu9 C C)<|Ge1 (Ah s5 C) λb3=>Ge0 (Ba s5) ?_
 refine Fo (J:=vc 146 (.slice none 0 0) (([]:List Lk))::e8 b3 [e7 nd,.slice none 0 0] 111::vq 108 aq ao (SE)::(Lf s0++I)) (Bb (α:=Lk) _ _) ?_
 refine Aq<|A0 (S5 7 5 0 1 3)<|Ax<|Aj<|Gm C<|Gr (Bj As C)<|Gm C<|Aq<|A3<|B4 (σ:=Nat×(Option Addr)×Nat) (λs=>([(0,(.func (.yield l) #[] #[])),(1,pt a0),(3,pt a3),(5,.slice aq (SE).length ao),(7,pt b3),(22,.slice aq (SE).length ao),(23,e7<|(((SE).length:Nat):Int)),(24,e7 ((s.1:Nat):Int))]:Env)) (λs=>vq 146 s.2.1 s.2.2 (eh<|SE.take s.1)::e8 b3 [e7 nd,.slice s.2.1 (eh<|SE.take s.1).length s.2.2] 111::vq 108 aq ao (SE)::(Lf s0++I)) (λs=>(s.1<=SE.length)) (λs=>SE.length - s.1) (0,none,0) (show ((0:Nat)<=SE.length) from om) (cx4<|cx2<|Aa C<|Aa Co A9) Bi ?_
 rintro ⟨k,a,c⟩ hp
 dsimp only at hp ⊢
 have hk:=hp
 have a7:=M3 hH.st.nodes a6 k
 have bj:=Z1 a7
 refine Aj<|Gr (Bp C C)<|Aq<|Ax<|Am C (λbo=>?_)<|λbo=>?_
 ·refine A4 (Al<|Ax<|A3<|Aj<|Gr (A2 (α:=Ev) (xs:=SE) As j7 C C A6 om om)<|Gr (Cd (α:=Ev) (xs:=SE) j7 C A6 om om)<|Ge1 (Ah j7 C) λb4=>Ge0 (Fa j7) ?_)
  refine Aq<|A1<|Gl2 s5 ?_
  refine Gl7 j7 ?_
  refine G.e (Ac c_ C C<|Cm (J:=vq 146 a c (eh<|SE.take k)::e8 b4 (ye (e_ SE k)) 108::e8 b3 [e7 nd,.slice a (eh<|SE.take k).length c] 111::vq 108 aq ao (SE)::(Lf s0++I)) Bi<|bk8 (nd:=nd) (e:=(e_ SE k)) (xs:=eh (SE.take k)) asm (by first|exact a6 _ (B3 om om)|(rw [ah];exact ar _<|B3 om om)) om) ?_
  rintro _ _ ⟨_,_,⟨bg,bu,b7,rfl,rfl⟩,rfl,rfl⟩
  refine Gm C<|Gr (Av C C)<|Gr (Av C C)<|Gr (Av C C)<|Ge0 (Ba s5) ?_
  exact Bl<|Ap<|Al<|A0 (S8 0 1 3 5 7 22 23 24)<|A1<|Gr (Rad C C)<|Gm C<|Bl<|Bh ((k+1),(bg),(bu)) (by dsimp only;exact om) (hI:=by (try dsimp only);exact (by rw [ab0 om];exact Bi))
 refine B6<|Ao<|Ao<|A5<|Al<|Aj<|Gm C<|Gl2 s5 ?_
 refine Gr (j0.fu4 (vs:=[_,_,_]) ah8 C (Dj h3 Af) C C) ?_
 refine G.e (Ac c_ C C<|gd2 (nd:=nd) (kd:=kd) (wd:=wd) (mo:=mo) A6 asm (ad9 hH.win)<|by rw [show k=SE.length by omega,Hx];exact bi) ?_
 rintro _ _ ⟨_,_,⟨cc,b9,rfl,rfl⟩,rfl,rfl⟩
 refine Ge2 (Bv (α:=Ev) (e:=108) (xs:=SE) (ys:=G1 evC (L8 kd wd<|eh<|SE.take k)) As j7 C C C mm A6 (by first|omega|(have cd:=(E6 evC<|L8 kd wd<|eh<|SE.take k).length_eq;have b6:=ad5 kd wd (eh<|SE.take k);omega)) dc C<|λ_ _=>am) λE M=>?_
 refine Ga C ?_
 have bq:SE++(G1 evC<|L8 kd wd<|eh<|SE.take k)=EE:=by rw [←au,show k=SE.length by omega,Hx];unfold V8;rw [hSE]
 rw [bq]
 refine Fo (J:=vq 146 a c (eh<|SE.take k)::e8 b3 [e7 nd,.slice a (eh<|SE.take k).length c] 111::vq 108 E M EE::(Lf s0++I)) Bi ?_
 have bb:Sl κ [vq 108 E M EE] (.slice E (List.drop 0 EE).length M) (List.drop 0 EE):=Ed C_
 refine Aq<|A0 (S4 5 0 1 7)<|Aj<|Gr (Dt ef C (Dj h1 Af) C)<|Gr (B1 (cells:=[_,_]) s5 Dc bu9 C C)<|Ge0 (Ba s5) ?_
 refine Aq<|Aj<|Gr (B1 (cells:=[_,_]) az4 Tryz.underlying153 fx8 C C)<|Ge1 (Ah az4 C) λbn=>Ge0 (Ba az4) ?_
 refine Aq<|A3<|B4 (σ:=Nat×Bool×Nat×Int×(Option Addr)×Nat×(Option Addr)×Nat×σ) (λs=>([(0,(.func (.yield l) #[] #[])),(5,.slice s.2.2.2.2.1 (List.drop s.1 EE).length s.2.2.2.2.2.1),(7,pt b3),(10,pt s.2.2.1)]:Env)) (λs=>e8 s.2.2.1 [e7 (s.2.2.2.1),.bool false] 153::vq 146 s.2.2.2.2.2.2.1 s.2.2.2.2.2.2.2.1 (eh<|EE.take s.1)::e8 b3 [e7 nd,.slice s.2.2.2.2.2.2.1 (eh<|EE.take s.1).length s.2.2.2.2.2.2.2.1] 111::vq 108 E M EE::(Lf s.2.2.2.2.2.2.2.2++I)) (λs=>(s.1<=EE.length)/\(s.2.1=true->s.2.2.2.1=0/\s.1=0)/\(s.2.1=false->s.1<EE.length/\s.2.2.2.1=(e_ EE ((s.1:Nat):Int)).tm)/\(Pf s.2.1 s.1 s.2.2.2.2.2.2.2.2)/\(Sl κ [vq 108 E M EE] (.slice s.2.2.2.2.1 (List.drop s.1 EE).length s.2.2.2.2.2.1)<|List.drop s.1 EE)) (λs=>2*(EE.length - s.1)+s.2.1.toNat) (0,true,bn,0,E,M,none,0,s0) ⟨om,(λ_=>⟨rfl,rfl⟩),(λh=>by cases h),br,bb⟩ (Aa C<|Aa (Da C<|by first|rfl|simp)<|Aa C<|Aa (Da C<|by first|rfl|simp) A9) (Bz (Bb (α:=Lk) _ _) Bi) ?_
 rintro ⟨j,fst,tb,tt,e1,d1,a,c,ak⟩ hp
 dsimp only at hp ⊢
 obtain ⟨hj,ay,av,bm,bp⟩:=hp
 have bf:(fst=true/\fst.toNat=1)\/(fst=false/\fst.toNat=0):=by cases fst<;>simp
 refine Ax<|A3<|D2 (σ:=Nat×Bool×(Option Addr)×Nat×(Option Addr)×Nat) (λs=>([(0,(.func (.yield l) #[] #[])),(5,.slice s.2.2.1 (List.drop s.1 EE).length s.2.2.2.1),(7,pt b3),(10,pt tb)]:Env)) (λs=>e8 tb [e7 tt,.bool<|s.2.1] 153::vq 146 s.2.2.2.2.1 s.2.2.2.2.2 (eh<|EE.take s.1)::e8 b3 [e7 nd,.slice s.2.2.2.2.1 (eh<|EE.take s.1).length s.2.2.2.2.2] 111::vq 108 E M EE::(Lf ak++I)) (λs=>(bk0 EE fst j tt s.2.1 s.1)/\(Sl κ [vq 108 E M EE] (.slice s.2.2.1 (List.drop s.1 EE).length s.2.2.2.1)<|List.drop s.1 EE)) ?_ ?_
 ·refine A3 (B4 (σ:=Nat×Bool×(Option Addr)×Nat×(Option Addr)×Nat) (λs=>([(0,(.func (.yield l) #[] #[])),(5,.slice s.2.2.1 (List.drop s.1 EE).length s.2.2.2.1),(7,pt b3),(10,pt tb)]:Env)) (λs=>e8 tb [e7 tt,.bool<|s.2.1] 153::vq 146 s.2.2.2.2.1 s.2.2.2.2.2 (eh<|EE.take s.1)::e8 b3 [e7 nd,.slice s.2.2.2.2.1 (eh<|EE.take s.1).length s.2.2.2.2.2] 111::vq 108 E M EE::(Lf ak++I)) (λs=>(j<=s.1/\s.1<=EE.length)/\(∀i:Nat,j<=i->i<s.1->(e_ EE i).tm=tt)/\(s.2.1=decide (j<s.1))/\(Sl κ [vq 108 E M EE] (.slice s.2.2.1 (List.drop s.1 EE).length s.2.2.2.1)<|List.drop s.1 EE)) (λs=>EE.length - s.1) (j,false,e1,d1,a,c) ⟨om,(λi h1 h2=>by omega),(by rw [E_ om]),bp⟩ (Aa C<|Aa (Da C<|by first|rfl|simp)<|Aa C<|Aa C A9) Bi ?_)
  rintro ⟨j2,own,e2,d2,a4,c4⟩ hp
  dsimp only at hp ⊢
  obtain ⟨cb,ai,az,aa⟩:=hp
  have ah:=ac1 EE j2
  have b8:(List.drop j2 EE).length=EE.length - j2:=Ge
  have a7:=M3 hH.st.nodes ar j2
  have bj:=Z1 a7
  refine Ax<|Ax<|A8 mixed<|C1 12<|Dr 0 C (Ad C)<|Dr 1 C (Bj As C)<|Dr 2 C (Cl C C)<|Dr 3 C (Ad C)<|Cw (d:=47) C (λbt=>?_)<|λbt=>?_
  ·refine Dro 4 C (Ad C) (Dro 5 C (A2 (α:=Ev) (xs:=List.drop j2 EE) As j7 C C (Bs aa f1) om om)<|Dro 6 C (D4 (α:=Ev) (xs:=List.drop j2 EE) K0 C (Bs aa f1) om)<|Dro 7 C (D9 (α:=Ev) (xs:=List.drop j2 EE) (u:=e7 ((e_ (List.drop j2 EE) 0).tm)) ef C (Bs aa f1) om om C)<|Dro 8 C (Ai bw9 C)<|Dro 9 C (Bd ef) ?_)
   refine Dro 10 C (B7 C C)<|Dr 11 C (Br C C)<|Dz<|Al<|A0 (S5 55 0 5 7 10)<|Am C (λan=>?_)<|λan=>?_
   ·refine A4 (Al<|A3<|Ax<|A8 mixed<|Cf (e8 tb [e7 tt,.bool own] 153::vq 108 E M EE::(Lf ak++I)) 10<|Dr 1 C (Ad C)<|Dr 2 C (A2 (α:=Ev) (xs:=List.drop j2 EE) As j7 C C (Bs aa f1) om om)<|Dr 3 C (Cd (α:=Ev) (xs:=List.drop j2 EE) j7 C (Bs aa f1) om om)<|Ds1 0<|Sr C (Ch (vs:=[_,_]) s5) Ar ?_)
    refine Ds1 4<|Se C (Ac c_ C C<|Cm (J:=vq 146 a4 c4 (eh<|EE.take j2)::e8 tb [e7 tt,.bool own] 153::e8 b3 [e7 nd,.slice a4 (eh<|EE.take j2).length c4] 111::vq 108 E M EE::(Lf ak++I)) Bi<|bk8 (nd:=nd) (e:=(e_ (List.drop j2 EE) 0)) (xs:=eh (EE.take j2)) asm (by first|exact a6 _ (B3 om om)|(rw [ah];exact ar _<|B3 om om)) om) ?_
    rintro _ _ ⟨_,_,⟨ba,be,bz,rfl,rfl⟩,rfl,rfl⟩
    refine ⟨Ar,?_⟩
    refine Dr 5 C (Ad C)<|Dr 6 C (Av C C)<|Dr 7 C (Av C C)<|Dr 8 C (Av C C)<|Ds1 9<|Se0 C (Ba s5) ?_
    refine Dz<|Al<|A0 (S4 0 5 7 10)<|A1<|Gm C<|Gr (En (α:=Ev) (xs:=List.drop j2 EE) (l:=1) As j7 C C om (Bs aa f1) om)<|Ga C<|Gf cy3 C<|Ge0 (D5 ty4) ?_
    exact Bl<|Ap<|Bh ((j2+1),(true),((M0 e2 d2 1<|Enc.sz Ev)),((d2 - 1)),(ba),(be)) (by dsimp only;exact ⟨om,(λi h1 h2=>by by_cases e:i=j2;(· subst e;rw [←ah];assumption);(· exact ai i h1 om)),(by rw [D_ om]),(by have h:=D6 (l:=1) aa om;rw [Jh] at h;exact h)⟩) (hI:=by (try dsimp only);exact (by rw [ab0 om,←ah];exact Bi))
   exact B6<|Ao<|Ao<|A5<|Bu ((j2),(own),(e2),(d2),(a4),(c4))<|by dsimp only;exact ⟨(⟨⟨by omega,ai,λh=>by first|(rw [←ah];assumption)|(exfalso;omega),az,ay,av⟩,λa8=>by have hq:=av a8;rcases Lg j j2 with hlt|hge;(· exact hlt);(· exfalso;have a1:j2=j:=om;subst a1;first|omega|(rw [ah] at an;exact an hq.2.symm))⟩),aa⟩
  exact Dpo 4 C<|Dpo 5 C<|Dpo 6 C<|Dpo 7 C<|Dpo 8 C<|Dpo 9 C<|Dpo 10 C<|Dr 11 C (Bg C C)<|Dz<|Al<|A0 (S5 55 0 5 7 10)<|W.no C<|B6<|Ao<|Ao<|A5<|Bu ((j2),(own),(e2),(d2),(a4),(c4))<|by dsimp only;exact ⟨(⟨⟨by omega,ai,λh=>by first|(rw [←ah];assumption)|(exfalso;omega),az,ay,av⟩,λa8=>by have hq:=av a8;rcases Lg j j2 with hlt|hge;(· exact hlt);(· exfalso;have a1:j2=j:=om;subst a1;first|omega|(rw [ah] at an;exact an hq.2.symm))⟩),aa⟩
 rintro ⟨j3,ae,e3,d3,a5,c5⟩ hp
 obtain ⟨aw,aj⟩:(bk0 EE fst j tt ae j3)/\(Sl κ [vq 108 E M EE] (.slice e3 (List.drop j3 EE).length d3)<|List.drop j3 EE):=hp
 have b2:=aw.le
 have bx:(List.drop j3 EE).length=EE.length - j3:=Ge
 refine Aj<|Gl2 s5 ?_
 refine Gc2 (Ac c_ C C<|fc6 (nd:=nd) A6 (M3 hH.st.nodes ar j3)<|by have:=Z1 (M3 hH.st.nodes ar j3);omega) λad ab=>?_
 refine Gm C<|Gr (Av C C)<|Gr (Av C C)<|Ge1 (Ah H2 C) λax=>Ge0 (Ba H2) ?_
 refine Ga C<|Aq<|Ax<|Ax<|W.fx7 ?_
 refine Es (Ci C) C C (Ad C) ?_
 refine Es (Ci C) C C (Ch (vs:=[_,_]) az4) ?_
 refine Es (Ci C) C C (Ch (vs:=[_,_]) H2) ?_
 refine GY.gf0 (l:=l) (Ci C) C C C (ah1.fit (Bz Bi<|Fit.perm<|bf7 (A:=[vq 135 ad ab (F4<|eh<|EE.take j3),e8 ax [e7 nd,.slice ad (F4<|eh<|EE.take j3).length ab] 48,e8 tb [e7 tt,.bool ae] 153,vc 146 (.slice a5 (eh<|EE.take j3).length c5)<|eh<|EE.take j3,e8 b3 [e7 nd,.slice a5 (eh<|EE.take j3).length c5] 111,vq 108 E M EE]) (L:=Lf ak) (T:=I))<|hy ([e8 ax [e7 nd,.slice ad (F4<|eh<|EE.take j3).length ab] 48,e8 tb [e7 tt,.bool ae] 153,vc 146 (.slice a5 (eh<|EE.take j3).length c5)<|eh<|EE.take j3,e8 b3 [e7 nd,.slice a5 (eh<|EE.take j3).length c5] 111,vq 108 E M EE]++I) (Fit.au8 _ _) fst j tt ae j3 ad ab aw ak bm) ?_
 rintro b _ (⟨rfl,ap,a9,rfl⟩|⟨rfl,q_,bh,rfl⟩)
 ·refine GY.fit (J:=e8 ax [e7 nd,.slice ad (F4<|eh<|EE.take j3).length ab] 48::e8 tb [e7 tt,.bool ae] 153::vq 146 a5 c5 (eh<|EE.take j3)::e8 b3 [e7 nd,.slice a5 (eh<|EE.take j3).length c5] 111::vq 108 E M EE::(Lf ap++I)) (Fit.perm<|bf7 (A:=Lf ap) (L:=[e8 ax [e7 nd,.slice ad (F4<|eh<|EE.take j3).length ab] 48,e8 tb [e7 tt,.bool ae] 153,vc 146 (.slice a5 (eh<|EE.take j3).length c5)<|eh<|EE.take j3,e8 b3 [e7 nd,.slice a5 (eh<|EE.take j3).length c5] 111,vq 108 E M EE]) (T:=I)) ?_
  dsimp only
  refine Es (Ci C) C C (j0.not C) ?_
  refine Es (Ci C) C C (Ad C) ?_
  refine Es (B9 C C C) C C (Ad C) ?_
  refine Es (B9 C C C) C C (Bj As C) ?_
  refine Es (B9 C C C) C C (B7 C C) ?_
  refine Es (Ci C) C C (Bg C C) ?_
  refine GY.nil ?_
  refine Al<|A0 (S5 82 0 5 7 10)<|Am C (λbv=>?_)<|λbv=>?_
  ·refine Bq (Az<|Bf<|Az<|Az<|Bf ?_)
   have bk:j3=EE.length:=by omega
   exact V.gq0 C ((Lf ap++I)) (by repeat (first|exact Di _|apply Fit.tail)) ⟨rfl,.inl ⟨ap,by rw [←bk];exact a9,rfl⟩⟩
  refine A4<|Al<|A1<|Gm C<|Gr (A2 (α:=Ev) (xs:=List.drop j3 EE) As j7 C C (Bs aj f1) om om)<|Gr (D4 (α:=Ev) (xs:=List.drop j3 EE) K0 C (Bs aj f1) om)<|Gr (D9 (α:=Ev) (xs:=List.drop j3 EE) (u:=e7 ((e_ (List.drop j3 EE) 0).tm)) ef C (Bs aj f1) om om C) ?_
  rw [ac1 EE j3]
  refine Gr (B1 (cells:=[_,_]) az4 Tryz.underlying153 fx8 C C)<|Ge0 (Ba az4) ?_
  refine Bl<|Ap<|Al<|Aj<|Gl2 az4 ?_
  refine Aq<|A1<|Ge1 (Ah az4 C) λbw=>Ge0 (Ba az4) ?_
  exact Bl<|Bh ((j3),(false),(bw),((e_ EE j3).tm),(e3),(d3),(a5),(c5),(ap)) (by dsimp only;exact ⟨om,(λh=>by cases h),(λ_=>⟨by omega,rfl⟩),a9,aj⟩) (hlt:=by (try dsimp only);exact (by show 2*(EE.length - j3)+0<2*(EE.length - j)+fst.toNat;rcases bf with h|h;(· omega);(· have:=aw.le;have:=aw.adv h.1;omega)))
 refine GY.fit (J:=Xf q_++I) Fit.mid ?_
 refine Es (Ci C) C C (j0.not C) ?_
 refine Es (Ci C) C C (Ad C) ?_
 refine GY.pass (y4.off C C C) C C ?_
 refine GY.pass (y4.off C C C) C C ?_
 refine GY.pass (y4.off C C C) C C ?_
 refine Es (Ci C) C C (Br C C) ?_
 refine GY.nil ?_
 exact Al<|A0 (S5 82 0 5 7 10)<|W.yes C<|Bq<|Az<|Bf<|Az<|Az<|Bf<|V.gq0 C ((Xf q_++I)) (Di _) ⟨rfl,.inr ⟨q_,bh,rfl⟩⟩
end Go.Sl
namespace Go.Sl
open Go.Proofs
set_option maxRecDepth 4000
variable{xs ys zs:List Int}{x:Int}{a0 b0:Option Addr}{c0 d0:Nat}
attribute [local irreducible] W G V D A j0 Eff
structure MgI (za zb:List Int) (i j:Nat) (out:List Int):Prop where
 hi:i<=za.length
 hj:j<=zb.length
 out:out=(za.take i).filter λx=>decide (x∉zb)
 lo:∀p:Nat,p<i->j<zb.length->e_ za p<e_ zb j
 up:∀q:Nat,q<j->i<za.length->e_ zb q<e_ za i
theorem bi7(h:zs.Pairwise (· < ·)){p q:Nat}(M:p<q)(E:q<zs.length):e_ zs p<e_ zs q:=by
 rw [Cj zs p om,Cj zs q E]
 exact (Ho.1 h) p q om E M
theorem bv6(h:x∈zs):∃q:Nat,q<zs.length/\x=e_ zs q:=by
 obtain ⟨q,M,rfl⟩:=Ki h
 exact ⟨q,M,(Cj zs q M).symm⟩
section
variable {za zb:List Int}{i j:Nat}{out:List Int}
theorem MgI.start:MgI za zb 0 0 []:=⟨Le _,Le _,rfl,λp h=>absurd h (Kd _),λq h=>absurd h (Kd _)⟩
theorem MgI.one(h:MgI za zb i j out)(ha:za.Pairwise (· < ·))(hb:zb.Pairwise (· < ·))(hi:i<za.length)(hc:j<zb.length->e_ za i<e_ zb j):MgI za zb (i+1) j (out++[e_ za i]):=by
 refine ⟨by omega,h.hj,?_,λp hp hj=>?_,λq M E=>?_⟩
 ·have hn:e_ za i∉zb:=λhm=>by
   obtain ⟨q,M,e⟩:=bv6 hm
   by_cases hqj:q<j
   ·have:=h.up q hqj hi;omega
   have h1:=hc om
   by_cases hqe:q=j
   ·rw [hqe] at e;omega
   have:=bi7 hb (show j<q by omega) M;omega
  rw [Cn za i hi,Hc,←h.out]
  simp [Gw,hn]
 ·by_cases hpi:p=i
  ·rw [hpi];exact hc hj
  exact h.lo p om hj
 have h1:=h.up q M hi
 have h2:=bi7 ha (show i<i+1 by omega) E
 omega
theorem MgI.two(h:MgI za zb i j out)(ha:za.Pairwise (· < ·))(hb:zb.Pairwise (· < ·))(hj:j<zb.length)(hc:i<za.length->e_ zb j<e_ za i):MgI za zb i (j+1) out:=by
 refine ⟨h.hi,by omega,h.out,λp hp E=>?_,λq hq M=>?_⟩
 ·have h1:=h.lo p hp hj
  have h2:=bi7 hb (show j<j+1 by omega) E
  omega
 by_cases hqj:q=j
 ·rw [hqj];exact hc M
 exact h.up q om M
theorem MgI.both(h:MgI za zb i j out)(ha:za.Pairwise (· < ·))(hb:zb.Pairwise (· < ·))(hi:i<za.length)(hj:j<zb.length)(he:e_ za i=e_ zb j):MgI za zb (i+1) (j+1) out:=by
 refine ⟨by omega,by omega,?_,λp hp E=>?_,λq hq aa=>?_⟩
 ·have hm:e_ za i∈zb:=by rw [he];exact B3 om om
  rw [Cn za i hi,Hc,←h.out]
  simp [Gw,hm]
 ·have M:=bi7 hb (show j<j+1 by omega) E
  by_cases hpi:p=i
  ·rw [hpi,he];exact M
  have:=h.lo p om hj;omega
 have M:=bi7 ha (show i<i+1 by omega) aa
 by_cases hqj:q=j
 ·rw [hqj,←he];exact M
 have:=h.up q om hi;omega
end
def cm3(xs:List Int):List Int:=N9 (Y4 xs) (Y4 xs).length
theorem bc3(xs:List Int):(cm3 xs).Pairwise (· < ·):=dy0 (cb6 xs)
theorem af6:x∈cm3 xs↔x∈xs:=(dt3 (cb6 xs)).trans dt0
theorem by7(xs:List Int):(cm3 xs).length<=xs.length:=Jt (cg1 _ _) (Nat.le_of_eq (Ex xs))
def ai9(xs ys:List Int):List Int:=(cm3 xs).filter λx=>decide (x∉cm3 ys)
theorem de5:(ai9 xs ys).length=0↔∀x∈xs,x∈ys:=by
 unfold ai9
 rw [Kr,Jc]
 constructor
 ·intro h x M
  have:=h x (af6.2 M)
  exact af6.1<|Gg λhn=>this<|D_ hn
 intro h x M E
 exact Gc E<|af6.2<|h x<|af6.1 M
theorem ax8{κ:Ctx}{I:List Item}{a:Option Addr}{n c:Nat}(hn:n=xs.length)(M:xs.length<1000000000000):er prog κ 143 [.slice a n c] (vc 3 (.slice a n c) xs::I) λr J=>r = .slice a (N9 xs xs.length).length c/\J=vq 3 a c (N9 xs xs.length)::I:=by
 subst hn;exact cs2 M
theorem fq7{κ:Ctx}{I:List Item}(p q:Bool):er prog κ 236 [.bool p,.bool q] I (λr J=>r = .bool (!q)/\I=J):=by
 refine Ce2 Tryz.func236 C C<|Z ?_
 exact Ak C C I Af ⟨rfl,rfl⟩
theorem bd0{κ:Ctx}{I:List Item}(p:Bool)(q:Prop)[Decidable q]:er prog κ 236 [.bool p,.bool (decide q)] I λr J=>r = .bool (decide (¬q))/\I=J:=
 (fq7 p<|decide q).mono λr J h=>⟨by rw [h.1,decide_not],h.2⟩
theorem dk4{κ:Ctx}{I:List Item}(hl:Sl κ I (.slice a0 xs.length c0) xs)(hm:Sl κ I (.slice b0 ys.length d0) ys)(hx:xs.length<=100000)(hy:ys.length<=100000):er prog κ 235 [.slice a0 xs.length c0,.slice b0 ys.length d0,.func (.func 236) #[] #[]] I (λr J=>∃a c,r = .slice a (ai9 xs ys).length c/\J=vq 3 a c (ai9 xs ys)::I):=by
 refine Ce3 Tryz.func235 C C ?_
 refine Aj<|Ga C<|Aq<|Aj<|Gm C<|Gc2 (Ac c_ C C<|fv5 (xs:=xs) (Bc hl) om) λaj ah=>?_
 refine Gm C<|Gc2 (Ac c_ C C<|fv5 (xs:=ys) (Bc hm) om) λae ai=>?_
 refine Ga C<|Ga C<|Aq<|Aj<|Gm C<|Gc1 (Ac c_ C C<|Cm (J:=vq 3 aj ah xs::vq 3 ae ai ys::I) Bi<|bu1 om) ?_
 refine Aq<|Aj<|Gm C<|Gc1 (Ac c_ C C<|Cm (J:=vq 3 ae ai ys::vc 3 (.slice aj xs.length ah) (Y4 xs)::I) Bi<|bu1 om) ?_
 refine Aq<|A0 (S3 1 0 2)<|Aj<|Gm C<|G.e (Ac c_ C C<|Cm (J:=vc 3 (.slice aj xs.length ah) (Y4 xs)::vc 3 (.slice ae ys.length ai) (Y4 ys)::I) Bi<|ax8 (xs:=Y4 xs) (by first|rfl|exact (Ex _).symm)<|by first|omega|(rw [Ex];omega)) ?_
 rintro _ _ ⟨_,_,⟨rfl,rfl⟩,rfl,rfl⟩
 refine Gm C<|G.e (Ac c_ C C<|Cm (J:=vc 3 (.slice ae ys.length ai) (Y4 ys)::vq 3 aj ah (cm3 xs)::I) Bi<|ax8 (xs:=Y4 ys) (by first|rfl|exact (Ex _).symm)<|by first|omega|(rw [Ex];omega)) ?_
 rintro _ _ ⟨_,_,⟨rfl,rfl⟩,rfl,rfl⟩
 show G prog κ _ _ _ _ ([(22,.slice ae (cm3 ys).length ai),(21,.slice ae ys.length ai),(20,.slice aj (cm3 xs).length ah),(19,.slice aj xs.length ah),(1,.slice ae ys.length ai),(0,.slice aj xs.length ah),(2,.func (.func 236) #[] #[])]:Env) (vq 3 ae ai (cm3 ys)::vq 3 aj ah (cm3 xs)::I)
 refine Ga C<|Ga C<|Aq<|Aj<|Ga C ?_
 generalize hza:cm3 xs=za
 generalize hzb:cm3 ys=zb
 have bc:za.length<=xs.length:=by rw [←hza];exact by7 xs
 have bf:zb.length<=ys.length:=by rw [←hzb];exact by7 ys
 have M:za.Pairwise (· < ·):=by rw [←hza];exact bc3 xs
 have E:zb.Pairwise (· < ·):=by rw [←hzb];exact bc3 ys
 have a9:Sl κ [vq 3 aj ah za] (.slice aj (List.drop 0 za).length ah) (List.drop 0 za):=Ed C_
 have az:Sl κ [vq 3 ae ai zb] (.slice ae (List.drop 0 zb).length ai) (List.drop 0 zb):=Ed C_
 refine Aq<|Ax<|A3<|B4 (σ:=Nat×Nat×(Option Addr)×Nat×(Option Addr)×Nat×(Option Addr)×Nat×(List Int)) (λs=>([(0,.slice s.2.2.1 (List.drop s.1 za).length s.2.2.2.1),(1,.slice s.2.2.2.2.1 (List.drop s.2.1 zb).length s.2.2.2.2.2.1),(2,.func (.func 236) #[] #[]),(7,.slice s.2.2.2.2.2.2.1 s.2.2.2.2.2.2.2.2.length s.2.2.2.2.2.2.2.1)]:Env)) (λs=>vq 3 s.2.2.2.2.2.2.1 s.2.2.2.2.2.2.2.1 s.2.2.2.2.2.2.2.2::vq 3 ae ai zb::vq 3 aj ah za::I) (λs=>(MgI za zb s.1 s.2.1 s.2.2.2.2.2.2.2.2)/\(Sl κ [vq 3 aj ah za] (.slice s.2.2.1 (List.drop s.1 za).length s.2.2.2.1)<|List.drop s.1 za)/\(Sl κ [vq 3 ae ai zb] (.slice s.2.2.2.2.1 (List.drop s.2.1 zb).length s.2.2.2.2.2.1)<|List.drop s.2.1 zb)) (λs=>(za.length - s.1)+(zb.length - s.2.1)) (0,0,aj,ah,ae,ai,none,0,[]) (show (MgI za zb (0:Nat) (0:Nat) ([]:List Int))/\(Sl κ [vq 3 aj ah za] (.slice (aj:Option Addr) (List.drop (0:Nat) za).length (ah:Nat))<|List.drop (0:Nat) za)/\(Sl κ [vq 3 ae ai zb] (.slice (ae:Option Addr) (List.drop (0:Nat) zb).length (ai:Nat))<|List.drop (0:Nat) zb) from ⟨MgI.start,a9,az⟩) (Aa (Da C<|by first|rfl|simp)<|Aa (Da C<|by first|rfl|simp)<|Aa C<|Aa (Da C<|by first|rfl|simp) A9) (Bb _ _) ?_
 rintro ⟨i,j,ea,ec,fa,fc,a,c,out⟩ hp
 dsimp only at hp ⊢
 obtain ⟨hM,ab,aa⟩:=hp
 have bk:=hM.hi
 have bp:=hM.hj
 have bq:(List.drop i za).length=za.length - i:=Ge
 have bm:(List.drop j zb).length=zb.length - j:=Ge
 have bh:out.length<=i:=by rw [hM.out];refine Jt (Gz _ _) ?_;rw [Fx];omega
 have a1:e_ (List.drop i za) 0=e_ za i:=ac1 za i
 have bo:e_ (List.drop j zb) 0=e_ zb j:=ac1 zb j
 refine Ax<|D2 (σ:=Bool) (λs=>([(0,.slice ea (List.drop i za).length ec),(1,.slice fa (List.drop j zb).length fc),(2,.func (.func 236) #[] #[]),(7,.slice a out.length c),(30,.bool<|decide<|s=true)]:Env)) (λs=>vq 3 a c out::vq 3 ae ai zb::vq 3 aj ah za::I) (λs=>(s=true↔(i<za.length\/j<zb.length))) ?_ ?_
 ·refine A1 (Gm C<|Gr (Bj Ab C)<|Gr (Cl C C)<|Gm C<|Au (d:=26) C (λa5=>?_)<|λa5=>?_)
  ·exact eb<|eb<|eb<|Gr (Br C C)<|Bl<|Bu ((true))<|by first|exact ⟨λ_=>by omega,λ_=>rfl⟩|exact ⟨λh=>(by cases h),λh=>by exfalso;omega⟩|(rw [Gn];omega)
  exact e9 (Ad C)<|e9 (Bj Ab C)<|e9 (Cl C C)<|Gr (Bg C C)<|Bl<|Bu ((decide<|0<(((List.drop j zb).length:Nat):Int)))<|by first|exact ⟨λ_=>by omega,λ_=>rfl⟩|exact ⟨λh=>(by cases h),λh=>by exfalso;omega⟩|(rw [Gn];omega)
 rintro pk hp
 have ar:(pk=true↔(i<za.length\/j<zb.length)):=hp
 refine Am C (λaq=>?_)<|λaq=>?_
 ·refine A4 (Al<|A3<|D2 (σ:=Bool) (λs=>([(0,.slice ea (List.drop i za).length ec),(1,.slice fa (List.drop j zb).length fc),(2,.func (.func 236) #[] #[]),(7,.slice a out.length c),(8,.bool<|decide<|s=true)]:Env)) (λs=>vq 3 a c out::vq 3 ae ai zb::vq 3 aj ah za::I) (λs=>(s=true↔(zb.length<=j\/(i<za.length/\e_ za i<=e_ zb j)))) ?_ ?_)
  ·refine A8 mixed (C1 18<|Dr 0 C (Ad C) ?_)
   have e0:=ar.1 aq
   refine Dr 1 C (Bj Ab C)<|Dr 2 C (B7 C C)<|Dr 3 C (Ad C)<|Cw (d:=34) C (λa3=>?_)<|λa3=>?_
   ·exact Dpo 4 C<|Dpo 5 C<|Dpo 6 C<|Dpo 7 C<|Dpu 8 C<|Dpu 9 C<|Dpu 10 C<|Dpu 11 C<|Dpu 12 C<|Dpu 13 C<|Dpu 14 C<|Dpo 15 C<|Dr 16 C (Br C C)<|Dr 17 C (Bo C)<|Dz<|Bu ((true))<|by first|exact ⟨λ_=>by omega,λ_=>rfl⟩|exact ⟨λh=>(by cases h),λh=>by exfalso;omega⟩|(rw [Gn];omega)
   refine Dro 4 C (Ad C)<|Dro 5 C (Bj Ab C)<|Dro 6 C (Cl C C)<|Dro 7 C (Ad C)<|Cw (d:=38) C (λa7=>?_)<|λa7=>?_
   ·exact Dro 8 C (Ad C)<|Dro 9 C (A2 (α:=Int) (xs:=List.drop i za) Ab ef C C (Bs ab f1) om om)<|Dro 10 C (B8 (xs:=List.drop i za) ef C (Bs ab f1) om om)<|Dro 11 C (Ad C)<|Dro 12 C (A2 (α:=Int) (xs:=List.drop j zb) Ab ef C C (Bs aa f1) om om)<|Dro 13 C (B8 (xs:=List.drop j zb) ef C (Bs aa f1) om om)<|Dro 14 C (E4 C C)<|Dro 15 C (Br C C)<|Dr 16 C (Bg C C)<|Dr 17 C (Bo C)<|Dz<|Bu ((decide<|(e_ (List.drop i za) 0)<=(e_ (List.drop j zb) 0)))<|by first|exact ⟨λ_=>by omega,λ_=>rfl⟩|exact ⟨λh=>(by cases h),λh=>by exfalso;omega⟩|(rw [Gn];omega)
   exact Dpo 8 C<|Dpo 9 C<|Dpo 10 C<|Dpo 11 C<|Dpo 12 C<|Dpo 13 C<|Dpo 14 C<|Dro 15 C (Bg C C)<|Dr 16 C (Bg C C)<|Dr 17 C (Bo C)<|Dz<|Bu ((false))<|by first|exact ⟨λ_=>by omega,λ_=>rfl⟩|exact ⟨λh=>(by cases h),λh=>by exfalso;omega⟩|(rw [Gn];omega)
  rintro pf hp
  have ap:(pf=true↔(zb.length<=j\/(i<za.length/\e_ za i<=e_ zb j))):=hp
  refine D2 (σ:=Bool) (λs=>([(0,.slice ea (List.drop i za).length ec),(1,.slice fa (List.drop j zb).length fc),(2,.func (.func 236) #[] #[]),(7,.slice a out.length c),(8,.bool<|decide<|pf=true),(9,.bool<|decide<|s=true)]:Env)) (λs=>vq 3 a c out::vq 3 ae ai zb::vq 3 aj ah za::I) (λs=>(s=true↔(za.length<=i\/(j<zb.length/\e_ zb j<=e_ za i)))) ?_ ?_
  ·refine A8 mixed (C1 18<|Dr 0 C (Ad C) ?_)
   have e0:=ar.1 aq
   refine Dr 1 C (Bj Ab C)<|Dr 2 C (B7 C C)<|Dr 3 C (Ad C)<|Cw (d:=51) C (λa8=>?_)<|λa8=>?_
   ·exact Dpo 4 C<|Dpo 5 C<|Dpo 6 C<|Dpo 7 C<|Dpu 8 C<|Dpu 9 C<|Dpu 10 C<|Dpu 11 C<|Dpu 12 C<|Dpu 13 C<|Dpu 14 C<|Dpo 15 C<|Dr 16 C (Br C C)<|Dr 17 C (Bo C)<|Dz<|Bu ((true))<|by first|exact ⟨λ_=>by omega,λ_=>rfl⟩|exact ⟨λh=>(by cases h),λh=>by exfalso;omega⟩|(rw [Gn];omega)
   refine Dro 4 C (Ad C)<|Dro 5 C (Bj Ab C)<|Dro 6 C (Cl C C)<|Dro 7 C (Ad C)<|Cw (d:=55) C (λbb=>?_)<|λbb=>?_
   ·exact Dro 8 C (Ad C)<|Dro 9 C (A2 (α:=Int) (xs:=List.drop j zb) Ab ef C C (Bs aa f1) om om)<|Dro 10 C (B8 (xs:=List.drop j zb) ef C (Bs aa f1) om om)<|Dro 11 C (Ad C)<|Dro 12 C (A2 (α:=Int) (xs:=List.drop i za) Ab ef C C (Bs ab f1) om om)<|Dro 13 C (B8 (xs:=List.drop i za) ef C (Bs ab f1) om om)<|Dro 14 C (E4 C C)<|Dro 15 C (Br C C)<|Dr 16 C (Bg C C)<|Dr 17 C (Bo C)<|Dz<|Bu ((decide<|(e_ (List.drop j zb) 0)<=(e_ (List.drop i za) 0)))<|by first|exact ⟨λ_=>by omega,λ_=>rfl⟩|exact ⟨λh=>(by cases h),λh=>by exfalso;omega⟩|(rw [Gn];omega)
   exact Dpo 8 C<|Dpo 9 C<|Dpo 10 C<|Dpo 11 C<|Dpo 12 C<|Dpo 13 C<|Dpo 14 C<|Dro 15 C (Bg C C)<|Dr 16 C (Bg C C)<|Dr 17 C (Bo C)<|Dz<|Bu ((false))<|by first|exact ⟨λ_=>by omega,λ_=>rfl⟩|exact ⟨λh=>(by cases h),λh=>by exfalso;omega⟩|(rw [Gn];omega)
  rintro ps hp
  have an:(ps=true↔(za.length<=i\/(j<zb.length/\e_ zb j<=e_ za i))):=hp
  refine Aj<|Ga C ?_
  have e0:=ar.1 aq
  refine Aq<|Ax<|Aj<|Gm C ?_
  have bj:pf=true\/ps=true:=by rw [ap,an];omega
  refine Aq<|Am C (λao=>?_)<|λao=>?_
  ·refine A8 mixed (C1 7<|Dr 0 C (Ad C) ?_)
   have e1:=ap.1 ao
   refine Dr 1 C (A2 (α:=Int) (xs:=List.drop i za) Ab ef C C (Bs ab f1) om om)<|Dr 2 C (B8 (xs:=List.drop i za) ef C (Bs ab f1) om om) ?_
   rw [a1]
   refine Dr 3 C (Ad C)<|Dr 4 C (En (α:=Int) (xs:=List.drop i za) (l:=1) Ab ef C C om (Bs ab f1) om)<|Dr 5 C (Bo C)<|Dr 6 C (Bo C)<|Dz<|Al<|A0 (S7 0 10 1 2 7 8 9)<|Ax<|Aj<|Gm C<|Aq<|Am C (λad=>?_)<|λad=>?_
   ·refine A8 mixed (C1 7<|Dr 0 C (Ad C) ?_)
    have e2:=an.1 ad
    refine Dr 1 C (A2 (α:=Int) (xs:=List.drop j zb) Ab ef C C (Bs aa f1) om om)<|Dr 2 C (B8 (xs:=List.drop j zb) ef C (Bs aa f1) om om)<|Dr 3 C (Ad C)<|Dr 4 C (En (α:=Int) (xs:=List.drop j zb) (l:=1) Ab ef C C om (Bs aa f1) om)<|Dr 5 C (Bo C)<|Dr 6 C (Bo C)<|Dz<|Al<|A0 (S7 1 10 0 2 7 8 9)<|Aj<|Gm C ?_
    first|have e1:=ap.1 ao|have e1:=mt ap.2 ao
    first|have e2:=an.1 ad|have e2:=mt an.2 ad
    refine Gm C<|Gm C<|Gc0 (C0 c_ C C C<|bd0 (decide<|pf=true)<|ps=true) ?_
    refine Aq<|Am C (λak=>?_)<|λak=>?_
    ·refine A1 (Gm C<|Gm C<|Ge1 (Bt (α:=Int) (cs:=[_]) (xs:=[e_ (List.drop j zb) 0]) Ab ef C C dc dc C C C C) λbi=>?_)
     refine Ge2 (Bv (α:=Int) (e:=3) (xs:=out) (ys:=([e_ (List.drop j zb) 0]:List Int)) Ab ef C C C mm A6 lcn dc C<|λ_ _=>am) λa6 ba=>?_
     exact Ga C<|Bl<|Ap<|Bh ((i+1),(j+1),((M0 ea ec 1<|Enc.sz Int)),((ec - 1)),((M0 fa fc 1<|Enc.sz Int)),((fc - 1)),(a6),(ba),(out++([e_ (List.drop j zb) 0]:List Int)))<|by dsimp only;exact ⟨(by first|exact hM.one M E om om|exact hM.two M E om om|exact hM.both M E om om om|(exfalso;first|omega|exact ak ad)),(by first|exact ab|(have h:=D6 (l:=1) ab om;rw [Jh] at h;exact h)),(by first|exact aa|(have h:=D6 (l:=1) aa om;rw [Jh] at h;exact h))⟩
    exact A4<|Ap<|Bh ((i+1),(j+1),((M0 ea ec 1<|Enc.sz Int)),((ec - 1)),((M0 fa fc 1<|Enc.sz Int)),((fc - 1)),(a),(c),(out))<|by dsimp only;exact ⟨(by first|exact hM.one M E om om|exact hM.two M E om om|exact hM.both M E om om om|(exfalso;first|omega|exact ak ad)),(by first|exact ab|(have h:=D6 (l:=1) ab om;rw [Jh] at h;exact h)),(by first|exact aa|(have h:=D6 (l:=1) aa om;rw [Jh] at h;exact h))⟩
   refine A4<|Al<|Aj<|Gm C ?_
   first|have e1:=ap.1 ao|have e1:=mt ap.2 ao
   first|have e2:=an.1 ad|have e2:=mt an.2 ad
   refine Gm C<|Gm C<|Gc0 (C0 c_ C C C<|bd0 (decide<|pf=true)<|ps=true) ?_
   refine Aq<|Am C (λak=>?_)<|λak=>?_
   ·refine A1 (Gm C<|Gm C<|Ge1 (Bt (α:=Int) (cs:=[_]) (xs:=[e_ za i]) Ab ef C C dc dc C C C C) λbn=>?_)
    refine Ge2 (Bv (α:=Int) (e:=3) (xs:=out) (ys:=([e_ za i]:List Int)) Ab ef C C C mm A6 lcn dc C<|λ_ _=>am) λa4 av=>?_
    exact Ga C<|Bl<|Ap<|Bh ((i+1),(j),((M0 ea ec 1<|Enc.sz Int)),((ec - 1)),(fa),(fc),(a4),(av),(out++([e_ za i]:List Int)))<|by dsimp only;exact ⟨(by first|exact hM.one M E om om|exact hM.two M E om om|exact hM.both M E om om om|(exfalso;first|omega|exact ak ad)),(by first|exact ab|(have h:=D6 (l:=1) ab om;rw [Jh] at h;exact h)),(by first|exact aa|(have h:=D6 (l:=1) aa om;rw [Jh] at h;exact h))⟩
   exact A4<|Ap<|Bh ((i+1),(j),((M0 ea ec 1<|Enc.sz Int)),((ec - 1)),(fa),(fc),(a),(c),(out))<|by dsimp only;exact ⟨(by first|exact hM.one M E om om|exact hM.two M E om om|exact hM.both M E om om om|(exfalso;first|omega|exact ak ad)),(by first|exact ab|(have h:=D6 (l:=1) ab om;rw [Jh] at h;exact h)),(by first|exact aa|(have h:=D6 (l:=1) aa om;rw [Jh] at h;exact h))⟩
  refine A4<|Al<|Ax<|Aj<|Gm C<|Aq<|Am C (λad=>?_)<|λad=>?_
  ·refine A8 mixed (C1 7<|Dr 0 C (Ad C) ?_)
   have e2:=an.1 ad
   refine Dr 1 C (A2 (α:=Int) (xs:=List.drop j zb) Ab ef C C (Bs aa f1) om om)<|Dr 2 C (B8 (xs:=List.drop j zb) ef C (Bs aa f1) om om)<|Dr 3 C (Ad C)<|Dr 4 C (En (α:=Int) (xs:=List.drop j zb) (l:=1) Ab ef C C om (Bs aa f1) om)<|Dr 5 C (Bo C)<|Dr 6 C (Bo C)<|Dz<|Al<|A0 (S7 1 10 0 2 7 8 9)<|Aj<|Gm C ?_
   first|have e1:=ap.1 ao|have e1:=mt ap.2 ao
   first|have e2:=an.1 ad|have e2:=mt an.2 ad
   refine Gm C<|Gm C<|Gc0 (C0 c_ C C C<|bd0 (decide<|pf=true)<|ps=true) ?_
   refine Aq<|Am C (λak=>?_)<|λak=>?_
   ·refine A1 (Gm C<|Gm C<|Ge1 (Bt (α:=Int) (cs:=[_]) (xs:=[e_ (List.drop j zb) 0]) Ab ef C C dc dc C C C C) λbe=>?_)
    refine Ge2 (Bv (α:=Int) (e:=3) (xs:=out) (ys:=([e_ (List.drop j zb) 0]:List Int)) Ab ef C C C mm A6 lcn dc C<|λ_ _=>am) λay au=>?_
    exact Ga C<|Bl<|Ap<|Bh ((i),(j+1),(ea),(ec),((M0 fa fc 1<|Enc.sz Int)),((fc - 1)),(ay),(au),(out++([e_ (List.drop j zb) 0]:List Int)))<|by dsimp only;exact ⟨(by first|exact hM.one M E om om|exact hM.two M E om om|exact hM.both M E om om om|(exfalso;first|omega|exact ak ad)),(by first|exact ab|(have h:=D6 (l:=1) ab om;rw [Jh] at h;exact h)),(by first|exact aa|(have h:=D6 (l:=1) aa om;rw [Jh] at h;exact h))⟩
   exact A4<|Ap<|Bh ((i),(j+1),(ea),(ec),((M0 fa fc 1<|Enc.sz Int)),((fc - 1)),(a),(c),(out))<|by dsimp only;exact ⟨(by first|exact hM.one M E om om|exact hM.two M E om om|exact hM.both M E om om om|(exfalso;first|omega|exact ak ad)),(by first|exact ab|(have h:=D6 (l:=1) ab om;rw [Jh] at h;exact h)),(by first|exact aa|(have h:=D6 (l:=1) aa om;rw [Jh] at h;exact h))⟩
  refine A4<|Al<|Aj<|Gm C ?_
  first|have e1:=ap.1 ao|have e1:=mt ap.2 ao
  first|have e2:=an.1 ad|have e2:=mt an.2 ad
  refine Gm C<|Gm C<|Gc0 (C0 c_ C C C<|bd0 (decide<|pf=true)<|ps=true) ?_
  refine Aq<|Am C (λak=>?_)<|λak=>?_
  ·refine A1 (Gm C<|Gm C<|Ge1 (Bt (α:=Int) (cs:=[_]) (xs:=[0]) Ab ef C C dc dc C C C C) λbg=>?_)
   refine Ge2 (Bv (α:=Int) (e:=3) (xs:=out) (ys:=([0]:List Int)) Ab ef C C C mm A6 lcn dc C<|λ_ _=>am) λaw ax=>?_
   exact Ga C<|Bl<|Ap<|Bh ((i),(j),(ea),(ec),(fa),(fc),(aw),(ax),(out++([0]:List Int)))<|by dsimp only;exact ⟨(by first|exact hM.one M E om om|exact hM.two M E om om|exact hM.both M E om om om|(exfalso;first|omega|exact ak ad)),(by first|exact ab|(have h:=D6 (l:=1) ab om;rw [Jh] at h;exact h)),(by first|exact aa|(have h:=D6 (l:=1) aa om;rw [Jh] at h;exact h))⟩
  exact A4<|Ap<|Bh ((i),(j),(ea),(ec),(fa),(fc),(a),(c),(out))<|by dsimp only;exact ⟨(by first|exact hM.one M E om om|exact hM.two M E om om|exact hM.both M E om om om|(exfalso;first|omega|exact ak ad)),(by first|exact ab|(have h:=D6 (l:=1) ab om;rw [Jh] at h;exact h)),(by first|exact aa|(have h:=D6 (l:=1) aa om;rw [Jh] at h;exact h))⟩
 refine B6<|Ao<|Ao<|A5<|Al<|Aj<|Gm C<|Ga C<|Aq<|Bq ?_
 have e0:=mt ar.2 aq
 have hE:out=ai9 xs ys:=by rw [hM.out,show i=za.length by omega,Hx];unfold ai9;rw [hza,hzb]
 exact Ak C C (vq 3 a c (ai9 xs ys)::I) (by unfold vq;rw [←hE];exact Bi) ⟨a,c,by rw [←hE],rfl⟩
theorem fc1{κ:Ctx}{I:List Item}(hl:Sl κ I (.slice a0 xs.length c0) xs)(hm:Sl κ I (.slice b0 ys.length d0) ys)(hx:xs.length<=100000)(hy:ys.length<=100000):er prog κ 174 [.slice a0 xs.length c0,.slice b0 ys.length d0] I (λr J=>∃a c,r = .slice a (ai9 xs ys).length c/\J=vq 3 a c (ai9 xs ys)::I):=by
 refine Ce2 Tryz.func174 C C<|Z ?_
 refine Gc2 (Ac c_ C C<|dk4 (Bc hl) (Bc hm) om om) λE M=>?_
 exact Ga C<|Aq<|Bq<|Ak C C (vq 3 E M (ai9 xs ys)::I) Ar ⟨E,M,rfl,rfl⟩
theorem di2{κ:Ctx}{I:List Item}{E:Option Addr}{M:Nat}(hl:Sl κ I (.slice E xs.length M) xs)(hm:Sl κ I (.slice b0 ys.length d0) ys)(hx:xs.length<=100000)(hy:ys.length<=100000):er prog κ 102 [.slice E xs.length M,.slice b0 ys.length d0] I (λr J=>r = .bool (decide (∀x∈xs,x∈ys))/\I=J):=by
 refine Ce2 Tryz.func102 C C<|Z ?_
 refine Gc2 (Ac c_ C C<|fc1 (Bc hl) (Bc hm) om om) λab aa=>Z ?_
 exact Ak C C I Af ⟨by rw [Fy.2 (show (((ai9 xs ys).length:Nat):Int)=0↔∀x∈xs,x∈ys from by rw [←de5];omega)],rfl⟩
variable {κ:Ctx}{I:List Item}
theorem bs8  :
    er prog κ 168 [] I (λr J=>r = .agg #[.slice none 0 0,e7 0,e7 1,e7 1,.slice none 0 0]/\I=J):=by
 refine Ce0 Tryz.func168 C C ?_
 refine Aj<|Ge1 (Ah ah4 C) λb1=>Z ?_
 refine Ge0 (Fp ah4) ?_
 exact Aq<|Bq<|Cv C ah4 C mm C I Af ⟨rfl,rfl⟩
structure cs5 (nd:Int) (es:List Pt) (N D:Int) (B:BitVec 64):Prop where
 err:p9 nd es≠0->N=0/\D=0/\B=0#64
 none:p9 nd es=0->nd=0->N=0/\D=1/\B=0#64
 some:p9 nd es=0->nd≠0->gp1 nd es N D B
theorem fs3{nd:Int}{ea:Option Addr}{ec:Nat}{es:List Pt}(hl:Sl κ I (.slice ea es.length ec) es)(hT:P6 κ I 0 F3):er prog κ 100 [.agg #[e7 nd,.slice ea es.length ec]] I (λr J=>∃a c B a2 c2 M N D E,r = .tuple #[.agg #[.slice a (em B).length c,e7 N,e7 D,e7 E,.slice a2 (M:List Int).length c2],e7 (p9 nd es)]/\(cs5 nd es N D B/\gn4 nd es N D E M)/\J=vq 3 a c (em B)::vq 3 a2 c2 M::I):=by
 refine Ce1 Tryz.func100 C C ?_
 refine Aj<|Ge1 (Ay (cs:=[_,_]) C C C) λb1=>Ge1 (Ah ah4 C) λb2=>Z ?_
 refine Gc0 (Ac c_ C C<|M1<|Bc hl)<|Z ?_
 refine Au (d:=11) C (λae=>Z ?_)<|λae=>Z ?_
 ·refine Am C (λaa=>Z ?_) (λaa=>?_)
  ·refine Ge0 (Fp ah4) (Z ?_)
   exact C7 C ah4 C C mm C (vq 3 none 0 (em 0#64)::vq 3 none 0 ([]:List Int)::I) (by unfold vq;rw [C5];exact Bz (show Fit κ _ I from Af)<|Bz (Bb (α:=Int) _ _)<|Bb (α:=Int) _ _) ⟨none,0,0#64,none,0,[],0,0,0,by rw [C5];rfl,⟨⟨λ_=>⟨rfl,rfl,rfl⟩,λh=>absurd h aa,λh=>absurd h aa⟩,λh=>absurd h aa⟩,rfl⟩
  refine A4<|Al<|Aj<|Gc0 (Ac c_ C C bs8) ?_
  refine Ge0 (Fp ah4)<|Z ?_
  have hz:p9 nd es=0:=B_.1 aa
  have ad:nd=0:=by first|exact ah|exact absurd ae aa
  exact C7 C ah4 C C mm C (vq 3 none 0 (em 0#64)::vq 3 none 0 ([]:List Int)::I) (by unfold vq;rw [C5];exact Bz (show Fit κ _ I from Af)<|Bz (Bb (α:=Int) _ _)<|Bb (α:=Int) _ _) ⟨none,0,0#64,none,0,[],0,1,1,by rw [C5,hz];rfl,⟨⟨λh=>absurd hz h,λ_ _=>⟨rfl,rfl,rfl⟩,λ_ h=>absurd ad h⟩,λ_=>⟨rfl,bn9 (j6.1 hz) ad⟩⟩,rfl⟩
 refine Am C (λah=>Z ?_)<|λah=>Z ?_
 ·refine Am C (λaa=>Z ?_) (λaa=>?_)
  ·refine Ge0 (Fp ah4) (Z ?_)
   exact C7 C ah4 C C mm C (vq 3 none 0 (em 0#64)::vq 3 none 0 ([]:List Int)::I) (by unfold vq;rw [C5];exact Bz (show Fit κ _ I from Af)<|Bz (Bb (α:=Int) _ _)<|Bb (α:=Int) _ _) ⟨none,0,0#64,none,0,[],0,0,0,by rw [C5];rfl,⟨⟨λ_=>⟨rfl,rfl,rfl⟩,λh=>absurd h aa,λh=>absurd h aa⟩,λh=>absurd h aa⟩,rfl⟩
  refine A4<|Al<|Aj<|Gc0 (Ac c_ C C bs8) ?_
  refine Ge0 (Fp ah4)<|Z ?_
  have hz:p9 nd es=0:=B_.1 aa
  have ad:nd=0:=by first|exact ah|exact absurd ae aa
  exact C7 C ah4 C C mm C (vq 3 none 0 (em 0#64)::vq 3 none 0 ([]:List Int)::I) (by unfold vq;rw [C5];exact Bz (show Fit κ _ I from Af)<|Bz (Bb (α:=Int) _ _)<|Bb (α:=Int) _ _) ⟨none,0,0#64,none,0,[],0,1,1,by rw [C5,hz];rfl,⟨⟨λh=>absurd hz h,λ_ _=>⟨rfl,rfl,rfl⟩,λ_ h=>absurd ad h⟩,λ_=>⟨rfl,bn9 (j6.1 hz) ad⟩⟩,rfl⟩
 have hz:p9 nd es=0:=by first|exact B_.1 ae|omega
 have hG:=j6.1 hz
 have hm:=an2 hG
 have ap:=hG.rng
 have aq:1<=nd:=by omega
 refine G.e (Ac c_ C C<|fq5 (Bc hl) hm hG.rng) ?_
 rintro _ _ ⟨_,_,⟨aw,cw,ab,cb,ak,ck,ws,bs,cs,rfl,an,rfl⟩,rfl,rfl⟩
 refine G.e (Ac c_ C C<|dm3 (Bc hl) A6 A6 A6 hG hm an om<|Cb hT Af) ?_
 rintro _ _ ⟨_,_,⟨Bn,pa,pc,M,Nn,Dd,rfl,hS,ao,rfl⟩,rfl,rfl⟩
 refine Z ?_
 refine Ge1 (Ah ai2 C) λb3=>Ge1 (Ah P0 C) λb4=>Ge0 (Ba ai2) ?_
 refine Ge0 (Ba P0) ?_
 refine Aq<|Ax<|A8 mixed<|C1 10<|Z ?_
 refine Ds1 2<|Sc2 C (Ac c_ C C<|au5 Bn<|Cb hT Af) λaj ai=>?_
 refine Dr 9 C (B1 (cells:=[_,_,_,_,_]) ah4 Tryz.underlying102 gi0 C C)<|De kr ?_
 refine Ae 10 C (Fp ah4) ?_
 rintro _ _ ⟨rfl,rfl⟩
 refine Ft (i:=11) kr C (Ci C) C C (Bo C) ?_
 refine Df kr<|Z ?_
 exact C7 C ah4 C C mm C (vq 3 aj ai (em Bn)::vq 3 pa pc M::I) Bi ⟨aj,ai,Bn,pa,pc,M,Nn,Dd,Dd,by rw [hz]<;>rfl,⟨⟨λh=>absurd hz h,λ_ h=>absurd h om,λ_ _=>hS⟩,λ_=>⟨rfl,ao⟩⟩,rfl⟩
end Go.Sl
namespace Go.Sl
variable{sup:List Int}{gone:List Bool}{j m n:Nat}{b:Int}
def J6(sup:List Int)(gone:List Bool):Nat->Int
 |0=> -1
 |i+1=>if e_ gone i=false/\(J6 sup gone i<0\/e_ sup i<e_ sup (J6 sup gone i)) then (i:Int) else J6 sup gone i
theorem by5(sup:List Int)(gone:List Bool)(n:Nat) : -1<=J6 sup gone n/\J6 sup gone n<n:=by
 induction n with
 |zero=>simp [J6]
 |succ n ih=>unfold J6;split<;>omega
theorem cp8(sup:List Int)(gone:List Bool)(n:Nat):J6 sup gone n<0\/e_ gone (J6 sup gone n)=false:=by
 induction n with
 |zero=>left;simp [J6]
 |succ n ih=>
  unfold J6;split
  ·rename_i h;exact .inr h.1
  exact ih
theorem br8(h:∃i:Nat,i<n/\e_ gone i=false):0<=J6 sup gone n:=by
 induction n with
 |zero=>obtain ⟨i,hi,_⟩:=h;omega
 |succ n ih=>
  unfold J6
  by_cases hb:J6 sup gone n<0
  ·obtain ⟨i,hi,E⟩:=h
   have M:i=n:=by
    refine Gg λaa=>?_
    have:=ih ⟨i,by omega,E⟩
    omega
   subst M
   rw [By ⟨E,.inl hb⟩];omega
  split<;>omega
def bg6(gone:List Bool)(sup:List Int)(p:Pt):List Int:=
 if e_ gone p.u=false/\e_ gone p.v=false then (sup.set p.u.toNat<|e_ sup p.u - 1).set p.v.toNat (e_ (sup.set p.u.toNat<|e_ sup p.u - 1) p.v - 1) else sup
structure TrS where
 sup:List Int
 gone:List Bool
 num:List Int
 ord:List Int
 k:Int
def ah0(tri:List (List Pt)):TrS:=⟨tri.map λl=>(l.length:Int),List.replicate tri.length false,List.replicate tri.length 0,[],0⟩
def ar8(tri:List (List Pt))(s:TrS):TrS:=
  ⟨(e_ tri (J6 s.sup s.gone tri.length)).foldl (bg6 (s.gone.set (J6 s.sup s.gone tri.length).toNat true)) s.sup,s.gone.set (J6 s.sup s.gone tri.length).toNat true,
   s.num.set (J6 s.sup s.gone tri.length).toNat (max s.k (e_ s.sup (J6 s.sup s.gone tri.length))),s.ord++[J6 s.sup s.gone tri.length],max s.k (e_ s.sup (J6 s.sup s.gone tri.length))⟩
def az6(tri:List (List Pt)):Nat->TrS
 |0=>ah0 tri
 |j+1=>ar8 tri (az6 tri j)
def bd4(tri:List (List Pt)):List Int:=(az6 tri tri.length).num
def U0(tri:List (List Pt)):List Int:=(az6 tri tri.length).ord
structure cq4 (m:Nat) (tri:List (List Pt)):Prop where
 len:∀l∈tri,l.length<=m
 rng:∀l∈tri,∀p∈l,0<=p.u/\p.u<tri.length/\0<=p.v/\p.v<tri.length
structure di7 (m n j:Nat) (s:TrS):Prop where
 gp5:s.sup.length=n
 fz6:s.gone.length=n
 cn5:s.num.length=n
 gi4:s.ord.length=j
 cnt:s.gone.count false+j=n
 sup:∀x∈s.sup, -(2*(m:Int)*j)<=x/\x<=m
 k:0<=s.k/\s.k<=m
 num:∀x∈s.num,0<=x/\x<=m
theorem as5(gone:List Bool)(sup:List Int)(p:Pt):(bg6 gone sup p).length=sup.length:=by unfold bg6;split<;>simp
theorem bb1{p:Pt}{a:Int}(E:0<=p.u/\p.u<sup.length/\0<=p.v/\p.v<sup.length)(h:∀x∈sup,a<=x/\x<=b):∀x∈bg6 gone sup p,a - 2<=x/\x<=b:=by
 unfold bg6
 split
 ·intro x M
  have hu:=h _ (at_mem E.1 E.2.1)
  have hv:=h _ (at_mem E.2.2.1 E.2.2.2)
  rcases Lc M with M|rfl
  ·rcases Lc M with M|rfl
   ·have:=h x M;omega
   omega
  rw [R1 _ p.u p.v _ E.1 E.2.2.1 E.2.1]
  split<;>omega
 intro x M;have:=h x M;omega
theorem dt5{gone:List Bool}{b:Int}{n:Nat}:∀(l:List Pt) {sup:List Int} {a:Int},sup.length=n->(∀p∈l,0<=p.u/\p.u<n/\0<=p.v/\p.v<n)->(∀x∈sup,a<=x/\x<=b)->(l.foldl (bg6 gone) sup).length=n/\∀x∈l.foldl (bg6 gone) sup,a - 2*l.length<=x/\x<=b
 |[],sup,a,hs,_,h=>⟨hs,λx M=>by have:=h x M;simp only [F_];omega⟩
 |p::l,sup,a,hs,hp,h=>by
  have h1:=bb1 (gone:=gone) (p:=p) (by have:=hp p C_;omega) h
  obtain ⟨E,h3⟩:=dt5 (gone:=gone) (b:=b) (n:=n) l (sup:=bg6 gone sup p) (a:=a - 2) (by rw [as5];exact hs) (λq hq=>hp q<|Fv _ hq) h1
  refine ⟨E,λx M=>?_⟩
  have:=h3 x M
  simp only [Fu];omega
theorem di7.start{tri:List (List Pt)}(h:cq4 m tri):di7 m tri.length 0 (ah0 tri):=by
 refine ⟨by simp [ah0],by simp [ah0],by simp [ah0],rfl,by simp [ah0],λx M=>?_,by simp [ah0],λx M=>?_⟩
 ·obtain ⟨l,E,rfl⟩:=Ha.1 M
  have:=h.len l E
  simp;omega
 have:=Ns M;omega
theorem di7.gb0{tri:List (List Pt)}{s:TrS}(hs:di7 m tri.length j s)(hj:j<tri.length):0<=J6 s.sup s.gone tri.length/\J6 s.sup s.gone tri.length<tri.length/\e_ s.gone (J6 s.sup s.gone tri.length)=false:=by
 have hc:=hs.cnt
 have E:0<=J6 s.sup s.gone tri.length:=by
  refine br8 ?_
  have M:false∈s.gone:=Mg.1 (by omega)
  obtain ⟨i,hi,e⟩:=Li.1 M
  exact ⟨i,by have:=hs.fz6;omega,by rw [M5 _ _ hi,e]⟩
 exact ⟨E,(by5 _ _ _).2,(cp8 _ _ _).resolve_left (by omega)⟩
theorem di7.step{tri:List (List Pt)}{s:TrS}(h:cq4 m tri)(hs:di7 m tri.length j s)(hj:j<tri.length):di7 m tri.length (j+1) (ar8 tri s):=by
 obtain ⟨h0,h1,h2⟩:=hs.gb0 hj
 unfold ar8
 generalize J6 s.sup s.gone tri.length=b at h0 h1 h2
 have M:=at_mem (xs:=tri) h0 h1
 have ad:=hs.sup _ (at_mem (xs:=s.sup) (i:=b) h0<|by have:=hs.gp5;omega)
 obtain ⟨l1,l2⟩:=dt5 (gone:=s.gone.set b.toNat true) (b:=(m:Int)) (n:=tri.length) (e_ tri b) hs.gp5 (λp hp=>h.rng _ M p hp) hs.sup
 have hl:=h.len _ M
 have hk:=hs.k
 have hg:b.toNat<s.gone.length:=by have:=hs.fz6;omega
 have aa:s.gone[b.toNat]=false:=by rw [←M5 _ _ hg,show ((b.toNat:Nat):Int)=b by omega];exact h2
 have ab:=hs.cnt
 refine ⟨l1,by rw [Gd];exact hs.fz6,by rw [Gd];exact hs.cn5,by simp [hs.gi4],?_,λx E=>?_,?_,λx E=>?_⟩
 ·show (s.gone.set b.toNat true).count false+(j+1)=_
  rw [List.count_set hg,aa]
  have:0<s.gone.count false:=Mg.2 (aa▸Mq hg)
  simp;omega
 ·have:=l2 x E
  have e:2*(m:Int)*((j+1:Nat):Int)=2*m*j+2*m:=by rw [Int.natCast_add,Lx];omega
  omega
 ·show 0<=max s.k _/\max s.k _<=(m:Int);omega
 rcases Lc E with E|rfl
 ·exact hs.num x E
 omega
theorem as0{tri:List (List Pt)}(h:cq4 m tri):∀j,j<=tri.length->di7 m tri.length j (az6 tri j)
 |0,_=>di7.start h
 |j+1,hj=>(as0 h j<|by omega).step h (by omega)
theorem ca5{tri:List (List Pt)}(h:cq4 m tri):(bd4 tri).length=tri.length/\∀x∈bd4 tri,0<=x/\x<=m:=⟨(as0 h _ (Gk _)).cn5,(as0 h _ (Gk _)).num⟩
end Go.Sl
