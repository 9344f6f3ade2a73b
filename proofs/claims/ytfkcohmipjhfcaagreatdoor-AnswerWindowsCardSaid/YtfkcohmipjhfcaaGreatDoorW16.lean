/- A part of the proofs of statements of this seat: contracts of functions, and the plain laws that they lean on. No conditions. -/
import Derived.Test.YtfkcohmipjhfcaaGreatDoorW15
set_option linter.unusedVariables false
set_option linter.unusedSimpArgs false
set_option linter.unusedSectionVars false
open Go.Proofs.Tryz (prog)
namespace Go.Sl
open Go.Proofs
set_option maxRecDepth 4000
variable {κ:Ctx}{I:List Item}
theorem evmod{s x N:Int}(h1:0<=s)(h2:s<N)(h3:0<=x)(h4:x<N - 1):(0<=Int.tmod (s+1+x) N/\Int.tmod (s+1+x) N<N)/\s≠Int.tmod (s+1+x) N:=by
 rw [Int.tmod_eq_emod_of_nonneg om]
 by_cases h:s+1+x<N
 ·rw [Int.emod_eq_of_lt om h];omega
 ·rw [show s+1+x=(s+1+x - N)+N by omega,Int.add_emod_right,Int.emod_eq_of_lt om om];omega
theorem fit_mk{n kd tm u v w lb sg:Int}(hk:1<=kd/\kd<=3)(ht:0<=tm/\tm<=1048576)(hu:0<=u/\u<n)(hn:n<=64)(hv:kd=3->v=0)(hv2:kd≠3->(0<=v/\v<n)/\u≠v)(hr:kd=1->rightW w lb sg)(hz:kd≠1->w=0/\lb=0/\sg=0):FitOk n ⟨kd,tm,u,v,w,lb,sg⟩:=
 ⟨hk,ht,⟨by show 0<=u/\u<64;omega,hv,λh=>by have:=hv2 h;show (0<=v/\v<64)/\u≠v;omega⟩,hr,by
  show u<n/\v<n
  by_cases h:kd=3
  ·have:=hv h;omega
  ·have:=hv2 h;omega,hz⟩
structure EvOk (n tt:Int) (es:List Ev):Prop where
 fit:∀e∈es,FitOk n e
 tm:∀e∈es,e.tm<=tt
 asc:∀j:Nat,j<es.length->lastT es j<=(e_ es j).tm
theorem EvOk.nil{n tt:Int}:EvOk n tt []:=⟨λe h=>(by cases h),λe h=>(by cases h),λj h=>absurd h (Nat.not_lt_zero _)⟩
theorem EvOk.later{n tt ty:Int}{es:List Ev}(h:EvOk n tt es)(ht:tt<=ty):EvOk n ty es:=⟨h.fit,λe he=>by have:=h.tm e he;omega,h.asc⟩
theorem EvOk.push{n tt:Int}{es:List Ev}{e:Ev}(h:EvOk n tt es)(hf:FitOk n e)(ht:e.tm=tt):EvOk n tt (es++[e]):=by
 refine ⟨λx hx=>?_,λx hx=>?_,λj hj=>?_⟩
 ·rcases List.mem_append.1 hx with hx|hx
  ·exact h.fit x hx
  ·rw [List.mem_singleton.1 hx];exact hf
 ·rcases List.mem_append.1 hx with hx|hx
  ·exact h.tm x hx
  ·rw [List.mem_singleton.1 hx];omega
 ·have hl:lastT (es++[e]) j=lastT es j:=by
   unfold lastT
   split
   ·rfl
   ·rw [List.length_append,List.length_singleton] at hj
    rw [show (j:Int) - 1=((j - 1:Nat):Int) by omega,Eg es [e] (j - 1) om]
  rw [hl]
  by_cases hje:j<es.length
  ·rw [Eg es [e] j hje];exact h.asc j hje
  ·obtain rfl:j=es.length:=by rw [List.length_append,List.length_singleton] at hj;omega
   rw [at_last,ht]
   unfold lastT
   split
   ·rw [←ht];exact hf.tm.1
   ·rw [show (es.length:Int) - 1=((es.length - 1:Nat):Int) by omega];exact h.tm _ (Cq om om)
theorem EvOk.st{n tt:Int}{es:List Ev}(h:EvOk n tt es)(hn:0<=n/\n<=64)(hl:es.length<=65536):StOk n es:=⟨hn,hl,λj hj=>h.fit _ (Cq om om),h.asc⟩
theorem streamS_ok{nd:Int}{es:List Ev}(hf:∀j:Nat,j<es.length->FitOk nd (e_ es j))(ha:∀j:Nat,j<es.length->lastT es j<=(e_ es j).tm):∀m k:Nat,k+m=es.length->streamS nd (lastT es k) (es.drop k)=0
 |0,k,h=>streamS_end om
 |m+1,k,h=>by
  rw [streamS_step om (fitE_ok.2 (hf k om)) (by have:=ha k om;omega)]
  exact streamS_ok hf ha m (k+1) om
set_option maxHeartbeats 2000000 in
theorem MkEvent_base{b:Nat}{lv:Value}{ls:List Int}{i:Int}{n t:Int}(hl:∀q,Sl κ (deck b lv q::I) lv ls)(h0:0<=i)(hn:2<=n/\n<=64)(ht:0<=t/\t<=1000000):eu prog κ 77 [.pointer (some ⟨b,0,none⟩),e7 n,e7 t] (e8 b [lv,e7 i] 125::I) (λr J=>∃y:Ev×Int,((r = .agg #[e7 y.1.kd,e7 y.1.tm,e7 y.1.u,e7 y.1.v,e7 y.1.w,e7 y.1.lb,e7 y.1.sg]/\FitOk n y.1/\y.1.tm=t)/\0<=y.2)/\J=[]++deck b lv y.2::I):=by
 refine Ce3 Tryz.func77 C C ?_
 refine Aj (Ge1 (A9 ty108 C) λb1=>Ah (Aj (Gm C (Gm C (Gm C (G.e (Am call19 C C (Next_ok (by repeat (first|exact AtF.head _ _|apply AtF.tail)) (Ce (hl _) Ay) om om)) ?_))))))
 rintro _ _ ⟨_,_,⟨x2,i3,rfl,hx2,hi3,rfl⟩,rfl,rfl⟩
 refine Gr (Bc (cells:=[_,_,_,_,_,_,_]) ty108 Ee pl108 C C) (Ge1 (A9 ty108 C) λb4=>Ge0 (Fl ty108) ?_)
 refine Ah (Fe (σ:=Int×Int) (λs=>([(0,.pointer (some ⟨b,0,none⟩)),(2,e7 t),(6,.pointer (some ⟨b1,0,none⟩)),(7,.pointer (some ⟨b4,0,none⟩))]:Env)) (λs=>e8 b4 [e7 1,e7 t,e7 x2,e7 (s.1),e7 0,e7 0,e7 0] 108::e8 b1 [e7 0,e7 0,e7 0,e7 0,e7 0,e7 0,e7 0] 108::e8 b [lv,e7 (s.2)] 125::I) (λs=>((0<=s.1/\s.1<n)/\x2≠s.1)/\(0<=s.2)) ?_ ?_)
 ·refine Bt mixed (C9 (e8 b1 [e7 0,e7 0,e7 0,e7 0,e7 0,e7 0,e7 0] 108::I) 12 (Dr 0 C (Ab fld108_2 C) (Dr 3 C (Af C) (Dr 4 C (Af C) (Dr 5 C (Rsu C C) (Dr 8 C (Af C) (Dv (rs:=[1,6]) kr C C (Ex ?_ (En ?_)))))))))
  ·refine Sr C (As ef) A5 ?_
   refine Dr 2 C (Rad C C) (Ds1 6 (Se C (Am call19 C C (Next_ok (by repeat (first|exact AtF.head _ _|apply AtF.tail)) (Ce (hl _) Ay) om om)) ?_))
   rintro _ _ ⟨_,_,⟨x5,i6,rfl,hx5,hi6,rfl⟩,rfl,rfl⟩
   refine ⟨A5,?_⟩
   refine Dr 7 C (Rad C C) (Dr 9 C (Runs.rem C C om) (Dr 10 C (Ab fld108_3 C) (Ds1 11 (Se0 C (Dp ef) ?_))))
   refine Dz ?_
   have htm:=evmod (s:=x2) (x:=x5) (N:=n) om om om om
   exact Cp ((Int.tmod ((x2+1)+x5) n),(i6)) (by dsimp only;exact ⟨htm,om⟩)
  ·refine Se C (Am call19 C C (Next_ok (by repeat (first|exact AtF.head _ _|apply AtF.tail)) (Ce (hl _) Ay) om om)) ?_
   rintro _ _ ⟨_,_,⟨x7,i8,rfl,hx7,hi8,rfl⟩,rfl,rfl⟩
   refine ⟨A5,?_⟩
   refine Ds1 1 (Sr C (As ef) A5 ?_)
   refine Dr 2 C (Rad C C) (Dr 7 C (Rad C C) (Dr 9 C (Runs.rem C C om) (Dr 10 C (Ab fld108_3 C) (Ds1 11 (Se0 C (Dp ef) ?_)))))
   refine Dz ?_
   have htm:=evmod (s:=x2) (x:=x7) (N:=n) om om om om
   exact Cp ((Int.tmod ((x2+1)+x7) n),(i8)) (by dsimp only;exact ⟨htm,om⟩)
 ·rintro ⟨vv,i9⟩ hp
  obtain ⟨hvv,hi9⟩:((0<=vv/\vv<n)/\x2≠vv)/\(0<=i9):=hp
  refine Au (Aj (Gm C (G.e (Am call19 C C (Next_ok (by repeat (first|exact AtF.head _ _|apply AtF.tail)) (Ce (hl _) Ay) om om)) ?_)))
  rintro _ _ ⟨_,_,⟨x9,i10,rfl,hx9,hi10,rfl⟩,rfl,rfl⟩
  refine Ga C (Ah (A6 (Aj (Gm C (Gr (Cu C C) (Ga C (Ah (Bd C (λc27=>?_) (λc27=>?_)))))))))
  ·refine Aj (Gm C (Gf fld108_2 C (Gl ef ?_)))
   refine Gr (Bc (cells:=[_,_,_,_,_,_,_]) ty108 Ee pl108 C C) (Ge0 (Fl ty108) ?_)
   exact Ah (Av (S1 6 C) (Az (A3 (Ar (Cf C ty108 C mm C (e8 b [lv,e7 i10] 125::I) A5 ⟨(⟨3,t,x2,0,0,0,0⟩,i10),⟨⟨rfl,fit_mk om om om om (λh=>by omega) (λh=>by omega) (λh=>by unfold rightW;omega) (λh=>by omega),rfl⟩,by show 0<=i10;omega⟩,rfl⟩)))))
  ·refine Aj (Gm C (Gr (Cu C C) (Ga C (Ah (Bd C (λc34=>?_) (λc34=>?_))))))
   ·refine Aj (Gm C (Gf fld108_2 C (Gl ef ?_)))
    refine Gf fld108_3 C (Gl ef ?_)
    refine Gr (Bc (cells:=[_,_,_,_,_,_,_]) ty108 Ee pl108 C C) (Ge0 (Fl ty108) ?_)
    exact Ah (Av (S1 6 C) (Az (A3 (Ar (Cf C ty108 C mm C (e8 b [lv,e7 i10] 125::I) A5 ⟨(⟨2,t,x2,vv,0,0,0⟩,i10),⟨⟨rfl,fit_mk om om om om (λh=>by omega) (λh=>by omega) (λh=>by unfold rightW;omega) (λh=>by omega),rfl⟩,by show 0<=i10;omega⟩,rfl⟩)))))
   ·refine A4 (Ak (Ai (Aj (Gm C (G.e (Am call19 C C (Next_ok (by repeat (first|exact AtF.head _ _|apply AtF.tail)) (Ce (hl _) Ay) om om)) ?_)))))
    rintro _ _ ⟨_,_,⟨x11,i12,rfl,hx11,hi12,rfl⟩,rfl,rfl⟩
    refine Gr (Rad C C) (Gm C (G.e (Am call19 C C (Next_ok (by repeat (first|exact AtF.head _ _|apply AtF.tail)) (Ce (hl _) Ay) om om)) ?_))
    rintro _ _ ⟨_,_,⟨x13,i14,rfl,hx13,hi14,rfl⟩,rfl,rfl⟩
    refine Gm C (G.e (Am call19 C C (Next_ok (by repeat (first|exact AtF.head _ _|apply AtF.tail)) (Ce (hl _) Ay) om om)) ?_)
    rintro _ _ ⟨_,_,⟨x15,i16,rfl,hx15,hi16,rfl⟩,rfl,rfl⟩
    refine Gr (Fj C C (by unfold InR;omega)) (Gr (Rsu C C) (Gf fld108_4 C (Ge0 (Dp ef) ?_)))
    refine Gf fld108_5 C (Ge0 (Dp ef) ?_)
    refine Gf fld108_6 C (Ge0 (Dp ef) ?_)
    refine Ah (Av (S2 6 7 C C) (Aj (Gl7 ty108 ?_)))
    refine Ge0 (Fl ty108) ?_
    exact Ah (Az (Cf C ty108 C mm C (e8 b [lv,e7 i16] 125::I) A5 ⟨(⟨1,t,x2,vv,1+x11,x13,1 - (2*x15)⟩,i16),⟨⟨rfl,fit_mk om om om om (λh=>by omega) (λh=>by omega) (λh=>by unfold rightW;omega) (λh=>by omega),rfl⟩,by show 0<=i16;omega⟩,rfl⟩))
theorem MkEvent_at{F:Item->List Item}{b:Nat}{lv:Value}{ls:List Int}{i:Int}{n t:Int}(hat:AtF I (deck b lv i) F)(hl:∀q,Sl κ (F (deck b lv q)) lv ls)(h0:0<=i)(hn:2<=n/\n<=64)(ht:0<=t/\t<=1000000):eu prog κ 77 [.pointer (some ⟨b,0,none⟩),e7 n,e7 t] I λr J=>∃y:Ev×Int,((r = .agg #[e7 y.1.kd,e7 y.1.tm,e7 y.1.u,e7 y.1.v,e7 y.1.w,e7 y.1.lb,e7 y.1.sg]/\FitOk n y.1/\y.1.tm=t)/\0<=y.2)/\J=[]++F (deck b lv y.2):=
 Ej (Post:=λr (y:Ev×Int)=>(r = .agg #[e7 y.1.kd,e7 y.1.tm,e7 y.1.u,e7 y.1.v,e7 y.1.w,e7 y.1.lb,e7 y.1.sg]/\FitOk n y.1/\y.1.tm=t)/\0<=y.2) (Z:=λy:Ev×Int=>[]) (X:=λy:Ev×Int=>deck b lv y.2) hat λJ _ hF=>MkEvent_base (λq=>(hl q).fit (hF _)) h0  hn ht
set_option maxHeartbeats 2000000 in
theorem MkEvents_base{b:Nat}{lv:Value}{ls:List Int}{i:Int}{n most:Int}(hl:∀q,Sl κ (deck b lv q::I) lv ls)(h0:0<=i)(hn:2<=n/\n<=64)(hm:0<=most/\most<=20):eu prog κ 20 [.pointer (some ⟨b,0,none⟩),e7 n,e7 most] (e8 b [lv,e7 i] 125::I) (λr J=>∃y:(Option Addr)×Nat×(List Ev)×Int,((r = .slice y.1 y.2.2.1.length y.2.1/\(EvOk n 500 y.2.2.1/\(y.2.2.1.length:Int)<=most))/\0<=y.2.2.2)/\J=[vc 108 (.slice y.1 y.2.2.1.length y.2.1) y.2.2.1]++deck b lv y.2.2.2::I):=by
 refine Ce3 Tryz.func20 C C ?_
 refine Aj (Ga C (Ah (Aj (Ga C (Ah (Aj (Gm C (G.e (Am call19 C C (Next_ok (by repeat (first|exact AtF.head _ _|apply AtF.tail)) (Ce (hl _) Ay) om om)) ?_))))))))
 rintro _ _ ⟨_,_,⟨x1,i2,rfl,hx1,hi2,rfl⟩,rfl,rfl⟩
 refine Ga C (Ah (Au (Aj (Gm C (Gm C (Gr (Rad C C) (G.e (Am call19 C C (Next_ok (by repeat (first|exact AtF.head _ _|apply AtF.tail)) (Ce (hl _) Ay) om om)) ?_)))))))
 rintro _ _ ⟨_,_,⟨x3,i4,rfl,hx3,hi4,rfl⟩,rfl,rfl⟩
 refine Ga C (Ah (A6 (Ca (σ:=Int×Int×(Option Addr)×Nat×(List Ev)×Int) (λs=>([(0,.pointer (some ⟨b,0,none⟩)),(1,e7 n),(7,.slice s.2.2.1 s.2.2.2.2.1.length s.2.2.2.1),(8,e7 (s.2.2.2.2.2)),(9,e7 (s.1))]:Env)) (λs=>vc 108 (.slice s.2.2.1 s.2.2.2.2.1.length s.2.2.2.1) (s.2.2.2.2.1)::e8 b [lv,e7 (s.2.1)] 125::I) (λs=>(0<=s.1/\(s.2.2.2.2.1.length:Int)+s.1<=most)/\(0<=s.2.1)/\(EvOk n s.2.2.2.2.2 s.2.2.2.2.1)/\(0<=s.2.2.2.2.2/\s.2.2.2.2.2<=3+3*(s.2.2.2.2.1.length:Int))) (λs=>s.1.toNat) (x3,i4,none,0,[],x1) ⟨(by simp only [List.length_nil];omega),om,EvOk.nil,(by simp only [List.length_nil];omega)⟩ (Aa C (Aa C (Aa (Da C (by first|rfl|simp)) (Aa Cr (Aa Cr Bq))))) (B9 _ _) ?_)))
 rintro ⟨kq,iqa,a1,c1,out,tt⟩ hp
 dsimp only at hp ⊢
 obtain ⟨hkq,hiqa,hE,htt⟩:=hp
 refine Au (Aj (Gm C (Gr (Ci C C) (Gm C (Bs (d:=18) C (λg18=>?_) (λg18=>?_))))))
 ·refine e9 (Af C) (e9 (Ci C C) (Gr (Ap C C) (Ah (Bd C (λc21=>?_) (λc21=>?_)))))
  ·refine A4 (Ai (Au (A6 (Aj (Gm C (Gm C (Gm C (Gm C (G.e (Am call77 C C (MkEvent_at (by repeat (first|exact AtF.head _ _|apply AtF.tail)) (λ_=>Ce (hl _) Ay) om  om om)) ?_)))))))))
   rintro _ _ ⟨_,_,⟨⟨ev5,i6⟩,⟨⟨rfl,hfev5,htev5⟩,hi6⟩,rfl⟩,rfl,rfl⟩
   have hi6:0<=i6:=hi6
   dsimp only at hfev5
   dsimp only at htev5
   refine Ge1 (Cj (α:=Ev) (cs:=[e7 (ev5.kd),e7 (ev5.tm),e7 (ev5.u),e7 (ev5.v),e7 (ev5.w),e7 (ev5.lb),e7 (ev5.sg)]) (xs:=[⟨ev5.kd,ev5.tm,ev5.u,ev5.v,ev5.w,ev5.lb,ev5.sg⟩]) Bh ty108 C C dc dc C kr C C) λad7=>?_
   refine Ge2 (Cn (α:=Ev) (e:=108) (xs:=out) (ys:=([⟨ev5.kd,ev5.tm,ev5.u,ev5.v,ev5.w,ev5.lb,ev5.sg⟩]:List Ev)) Bh ty108 C C C mm Bk lcn dc C (λ_ _=>am)) λad8 cp9=>?_
   refine Ga C (Ah (Av (S5 7 0 1 8 9 C C C C C) (A0 (Gm C (Gm C (G.e (Am call19 C C (Next_ok (by repeat (first|exact AtF.head _ _|apply AtF.tail)) (Ce (hl _) Ay) om om)) ?_))))))
   rintro _ _ ⟨_,_,⟨x10,i11,rfl,hx10,hi11,rfl⟩,rfl,rfl⟩
   exact Gr (Rad C C) (Ga C (Bf (Ak (Ai (A0 (Gm C (Gr (Rsu C C) (Ga C (Bf (Ch ((kq - 1),(i11),(ad8),(cp9),(out++([⟨ev5.kd,ev5.tm,ev5.u,ev5.v,ev5.w,ev5.lb,ev5.sg⟩]:List Ev)),(tt+x10)) (by dsimp only;exact ⟨lap,om,(EvOk.later (by first|exact hE.push asm asm|exact EvOk.push hE asm asm) om),lap⟩)))))))))))
  ·exact absurd hn.1 om
 ·exact eb (eb (Gr (Al C C) (Ah (Eo C (Bp (Ac (Ac (Aw (Ai (Aj (Gm C (Ga C (Ah (Av (S1 6 C) (Az (Ba C C (vc 108 (.slice a1 out.length c1) (out)::e8 b [lv,e7 iqa] 125::I) A5 ⟨(a1,c1,out,iqa),⟨⟨rfl,⟨hE.later om,by show (out.length:Int)<=most;omega⟩⟩,by show 0<=iqa;omega⟩,rfl⟩))))))))))))))))
theorem MkEvents_at{F:Item->List Item}{b:Nat}{lv:Value}{ls:List Int}{i:Int}{n most:Int}(hat:AtF I (deck b lv i) F)(hl:∀q,Sl κ (F (deck b lv q)) lv ls)(h0:0<=i)(hn:2<=n/\n<=64)(hm:0<=most/\most<=20):eu prog κ 20 [.pointer (some ⟨b,0,none⟩),e7 n,e7 most] I λr J=>∃y:(Option Addr)×Nat×(List Ev)×Int,((r = .slice y.1 y.2.2.1.length y.2.1/\(EvOk n 500 y.2.2.1/\(y.2.2.1.length:Int)<=most))/\0<=y.2.2.2)/\J=[vc 108 (.slice y.1 y.2.2.1.length y.2.1) y.2.2.1]++F (deck b lv y.2.2.2):=
 Ej (Post:=λr (y:(Option Addr)×Nat×(List Ev)×Int)=>(r = .slice y.1 y.2.2.1.length y.2.1/\(EvOk n 500 y.2.2.1/\(y.2.2.1.length:Int)<=most))/\0<=y.2.2.2) (Z:=λy:(Option Addr)×Nat×(List Ev)×Int=>[vc 108 (.slice y.1 y.2.2.1.length y.2.1) y.2.2.1]) (X:=λy:(Option Addr)×Nat×(List Ev)×Int=>deck b lv y.2.2.2) hat λJ _ hF=>MkEvents_base (λq=>(hl q).fit (hF _)) h0  hn hm
variable {κ:Ctx}{I:List Item}
theorem slideE_zeroH{nd kd wd mo:Int}{es:List Ev}(h:HistOk nd kd wd mo es):slideE nd kd wd mo es=0:=by
 unfold slideE
 rw [if_neg (by simp [h.win])]
 have h1:=h.st.nodes
 have h2:=h.st.len
 unfold streamE
 rw [if_neg om,if_neg om]
 exact streamS_ok h.st.fit h.st.asc es.length 0 om
theorem Slide_hist{nd kd wd mo:Int}{va:Value}{es:List Ev}(hl:Sl κ I va es)(h:HistOk nd kd wd mo es):eu prog κ 140 [e7 nd,va,.agg #[e7 kd,e7 wd,e7 mo]] I λr J=>∃a c,r = .tuple #[.slice a (slideS kd wd mo es).2.length c,e7 0]/\J=vc 108 (.slice a (slideS kd wd mo es).2.length c) (slideS kd wd mo es).2::I:=
 (Slide_ok hl).mono λr J hh=>by
  rcases hh with ⟨h1,_⟩|⟨a,c,_,h2,h3⟩
  ·exact absurd (slideE_zeroH h) h1
  ·exact ⟨a,c,h2,h3⟩
theorem Fit.one{κ:Ctx}{x:Item}{I:List Item}:Fit κ (x::I) [x]:=Fit.of_sublist (List.Sublist.cons_cons _ (List.nil_sublist _))
theorem Fit.mid{κ:Ctx}{A L T:List Item}:Fit κ (A++(L++T)) (A++T):=Fit.of_sublist (List.Sublist.append (List.Sublist.refl _) (List.sublist_append_right _ _))
theorem at_zero_drop{α:Type}[Inhabited α](xs:List α)(l:Nat):e_ (xs.drop l) 0=e_ xs l:=by
 rw [at_drop xs l 0 (Int.le_refl _),Int.add_zero]
theorem links_len{nd:Int}{X:List Lk}(h:checkS nd X=0):X.length<=2016:=by
 have:=edges_le (edgesK_ok h)
 rwa [edgesK_len] at this
structure MomentX (E:List Ev) (fst:Bool) (j:Nat) (t:Int) (own:Bool) (j':Nat):Prop extends Moment E fst j t own j' where
 adv:fst=false->j<j'
set_option maxHeartbeats 4000000 in
theorem Frames1_ok{l bq1 bq2 bq3:Nat}{nd kd wd mo:Int}{ea:Option Addr}{ec:Nat}{es:List Ev}{σ τ:Type}{Lf:σ->List Item}{Pf:Bool->Nat->σ->Prop}{Xf:τ->List Item}{Qf:τ->Prop}{s0:σ}(hH:HistOk nd kd wd mo es)(hlen:es.length<=19)(h1:BlkRd κ I bq1 [e7 nd] 3)(h2:BlkRd κ I bq2 [.slice ea es.length ec] 28)(h3:BlkRd κ I bq3 [e7 kd,e7 wd,e7 mo] 31)(hx:Sl κ I (.slice ea es.length ec) es)(hp0:Pf true 0 s0) (hy:∀T:List Item,Fit κ T I->∀(fst:Bool) (j:Nat) (t:Int) (own:Bool) (j':Nat) (a:Option Addr) (c:Nat),MomentX (allE kd wd mo es) fst j t own j'->∀s,Pf fst j s->
      YieldB prog κ l [.agg #[e7 t,.bool own],.agg #[e7 nd,.slice a (edgesK (eh ((allE kd wd mo es).take j'))).length c]] (Lf s++(vc 135 (.slice a (edgesK (eh ((allE kd wd mo es).take j'))).length c) (edgesK (eh ((allE kd wd mo es).take j')))::T)) λb J=>(b=true/\∃s',Pf false j' s'/\J=Lf s'++T)\/(b=false/\∃q,Qf q/\J=Xf q++T)):eu prog κ 165 [(.func (.yield l) #[] #[]),.pointer (some ⟨bq1,0,none⟩),.pointer (some ⟨bq2,0,none⟩),.pointer (some ⟨bq3,0,none⟩)] (Lf s0++I) (λr J=>r = .tuple #[]/\((∃s,Pf false (allE kd wd mo es).length s/\J=Lf s++I)\/∃q,Qf q/\J=Xf q++I)):=by
 obtain ⟨EE,hEEd⟩:∃EE,allE kd wd mo es=EE:=⟨_,rfl⟩
 rw [hEEd] at hy ⊢
 have hfE:∀e∈EE,FitOk nd e:=by rw [←hEEd];exact hH.allFit
 refine Cg (hx.fit (Fit.appR _ _)).le λhmax=>?_
 refine Ce4 Tryz.func165 C C ?_
 refine Aj (Gr (C6 ef C (C5 h1 Ay) C) (Gr (C6 ty28 C (C5 h2 Ay) C) (Gr (Runs.loadBs (vs:=[_,_,_]) ty31 C (C5 h3 Ay) C C) ?_)))
 refine G.e (Am call140 C C (Slide_hist (nd:=nd) (kd:=kd) (wd:=wd) (mo:=mo) (es:=es) (Bj hx) hH)) ?_
 rintro _ _ ⟨_,_,⟨ad1,cp2,rfl,rfl⟩,rfl,rfl⟩
 refine Gm C (Gr (Ax C C) (Gr (Ax C C) (Ga C (Ga C ?_))))
 generalize hSE:(slideS kd wd mo es).2=SE
 have hfS:∀e∈SE,FitOk nd e:=by rw [←hSE];exact hH.fit
 have hSl:SE.length<=38:=by rw [←hSE];have:=hH.len2;omega
 have hlS:(eh SE).length<=19:=by rw [←hSE];have:=hH.len;omega
 refine Ah (Aj (Gr (C6 ef C (C5 h1 Ay) C) (Gr (Bc (cells:=[_,_]) ty111 Tryz.underlying111 pl111 C C) (Ge1 (A9 ty111 C) λb3=>Ge0 (Cs ty111) ?_))))
 refine G.fit (J:=vc 146 (.slice none 0 0) (([]:List Lk))::e8 b3 [e7 nd,.slice none 0 0] 111::vc 108 (.slice ad1 (SE).length cp2) (SE)::(Lf s0++I)) (B9 (α:=Lk) _ _) ?_
 refine Ah (Av (S5 7 5 0 1 3 C C C C C) (Au (Aj (Gm C (Gr (Bz Bh C) (Gm C (Ah (A6 (Ca (σ:=Nat×(Option Addr)×Nat) (λs=>([(0,(.func (.yield l) #[] #[])),(1,.pointer (some ⟨bq1,0,none⟩)),(3,.pointer (some ⟨bq3,0,none⟩)),(5,.slice ad1 (SE).length cp2),(7,.pointer (some ⟨b3,0,none⟩)),(22,.slice ad1 (SE).length cp2),(23,e7 ((((SE).length:Nat):Int))),(24,e7 ((s.1:Nat):Int))]:Env)) (λs=>vc 146 (.slice s.2.1 (eh (SE.take s.1)).length s.2.2) (eh (SE.take s.1))::e8 b3 [e7 nd,.slice s.2.1 (eh (SE.take s.1)).length s.2.2] 111::vc 108 (.slice ad1 (SE).length cp2) (SE)::(Lf s0++I)) (λs=>(s.1<=SE.length)) (λs=>SE.length - s.1) (0,none,0) (show ((0:Nat)<=SE.length) from om) (Aa C (Aa C (Aa C (Aa C (Aa C (Aa C (Aa C (Aa Cr Bq)))))))) Bv ?_)))))))))
 rintro ⟨k,a,c⟩ hp
 dsimp only at hp ⊢
 have hk:=hp
 have hvX:=links_val hH.st.nodes hfS k
 have hlX:=links_len hvX
 refine Aj (Gr (Bi C C) (Ah (Au (Bd C (λc25=>?_) (λc25=>?_)))))
 ·refine A4 (Ai (Au (A6 (Aj (Gr (A2 (α:=Ev) (xs:=SE) Bh ty108 C C Bk om om) (Gr (B7 (α:=Ev) (xs:=SE) ty108 C Bk om om) (Ge1 (A9 ty108 C) λb4=>Ge0 (Fl ty108) ?_)))))))
  refine Ah (A0 (Gl2 ty111 ?_))
  refine Gl7 ty108 ?_
  refine G.e (Am call141 C C (C1 (J:=vc 146 (.slice a (eh (SE.take k)).length c) (eh (SE.take k))::e8 b4 [e7 ((e_ SE k).kd),e7 ((e_ SE k).tm),e7 ((e_ SE k).u),e7 ((e_ SE k).v),e7 ((e_ SE k).w),e7 ((e_ SE k).lb),e7 ((e_ SE k).sg)] 108::e8 b3 [e7 nd,.slice a (eh (SE.take k)).length c] 111::vc 108 (.slice ad1 (SE).length cp2) (SE)::(Lf s0++I)) Bv (ApplyP_ok (nd:=nd) (e:=(e_ SE k)) (xs:=eh (SE.take k)) asm (by first|exact hfS _ (Cq om om)|(rw [hd0];exact hfE _ (Cq om om))) om))) ?_
  rintro _ _ ⟨_,_,⟨ad5,cp6,wv7,rfl,rfl⟩,rfl,rfl⟩
  refine Gm C (Gr (Ax C C) (Gr (Ax C C) (Gr (Ax C C) (Ge0 (Cs ty111) ?_))))
  exact Bf (Ak (Ai (Av (S8 0 1 3 5 7 22 23 24 C C C C C C C C) (A0 (Gr (Rad C C) (Gm C (Bf (Ch ((k+1),(ad5),(cp6)) (by dsimp only;exact om) (hI:=by (try dsimp only);exact (by rw [linksL_take om];exact Bv))))))))))
 ·refine Bp (Ac (Ac (Aw (Ai (Aj (Gm C (Gl2 ty111 ?_)))))))
  refine Gr (Runs.loadBs (vs:=[_,_,_]) ty31 C (C5 h3 Ay) C C) ?_
  refine G.e (Am call166 C C (Late_ok (nd:=nd) (kd:=kd) (wd:=wd) (mo:=mo) Bk asm (checkW_wd hH.win) (by rw [show k=SE.length by omega,List.take_length];exact hlS))) ?_
  rintro _ _ ⟨_,_,⟨ad8,cp9,rfl,rfl⟩,rfl,rfl⟩
  refine Ge2 (Cn (α:=Ev) (e:=108) (xs:=SE) (ys:=isortG evC (lateL kd wd (eh (SE.take k)))) Bh ty108 C C C mm Bk (by first|omega|(have hq1:=(Fa evC (lateL kd wd (eh (SE.take k)))).length_eq;have hq2:=lateL_len kd wd (eh (SE.take k));omega)) dc C (λ_ _=>am)) λad10 cp11=>?_
  refine Ga C ?_
  have hEE:SE++(isortG evC (lateL kd wd (eh (SE.take k))))=EE:=by rw [←hEEd,show k=SE.length by omega,List.take_length];unfold allE;rw [hSE]
  rw [hEE]
  refine G.fit (J:=vc 146 (.slice a (eh (SE.take k)).length c) (eh (SE.take k))::e8 b3 [e7 nd,.slice a (eh (SE.take k)).length c] 111::vc 108 (.slice ad10 EE.length cp11) (EE)::(Lf s0++I)) Bv ?_
  have hev0:Sl κ [vc 108 (.slice ad10 EE.length cp11) EE] (.slice ad10 (List.drop 0 EE).length cp11) (List.drop 0 EE):=Fo List.mem_cons_self
  refine Ah (Av (S4 5 0 1 7 C C C C) (Aj (Gr (C6 ef C (C5 h1 Ay) C) (Gr (Bc (cells:=[_,_]) ty111 Tryz.underlying111 pl111 C C) (Ge0 (Cs ty111) ?_)))))
  refine Ah (Aj (Gr (Bc (cells:=[_,_]) ty153 Tryz.underlying153 pl153 C C) (Ge1 (A9 ty153 C) λb12=>Ge0 (Cs ty153) ?_)))
  refine Ah (A6 (Ca (σ:=Nat×Bool×Nat×Int×(Option Addr)×Nat×(Option Addr)×Nat×σ) (λs=>([(0,(.func (.yield l) #[] #[])),(5,.slice s.2.2.2.2.1 (List.drop s.1 EE).length s.2.2.2.2.2.1),(7,.pointer (some ⟨b3,0,none⟩)),(10,.pointer (some ⟨s.2.2.1,0,none⟩))]:Env)) (λs=>e8 s.2.2.1 [e7 (s.2.2.2.1),.bool false] 153::vc 146 (.slice s.2.2.2.2.2.2.1 (eh (EE.take s.1)).length s.2.2.2.2.2.2.2.1) (eh (EE.take s.1))::e8 b3 [e7 nd,.slice s.2.2.2.2.2.2.1 (eh (EE.take s.1)).length s.2.2.2.2.2.2.2.1] 111::vc 108 (.slice ad10 EE.length cp11) (EE)::(Lf s.2.2.2.2.2.2.2.2++I)) (λs=>(s.1<=EE.length)/\(s.2.1=true->s.2.2.2.1=0/\s.1=0)/\(s.2.1=false->s.1<EE.length/\s.2.2.2.1=(e_ EE ((s.1:Nat):Int)).tm)/\(Pf s.2.1 s.1 s.2.2.2.2.2.2.2.2)/\(Sl κ [vc 108 (.slice ad10 EE.length cp11) EE] (.slice s.2.2.2.2.1 (List.drop s.1 EE).length s.2.2.2.2.2.1) (List.drop s.1 EE))) (λs=>2*(EE.length - s.1)+s.2.1.toNat) (0,true,b12,0,ad10,cp11,none,0,s0) ⟨om,(λ_=>⟨rfl,rfl⟩),(λh=>by cases h),hp0,hev0⟩ (Aa C (Aa (Da C (by first|rfl|simp)) (Aa C (Aa (Da C (by first|rfl|simp)) Bq)))) (A8 (B9 (α:=Lk) _ _) Bv) ?_))
  rintro ⟨j,fst,tb,tt,e1,d1,a,c,st_⟩ hp
  dsimp only at hp ⊢
  obtain ⟨hj,hfst,hnx,hps,hev⟩:=hp
  have hft:(fst=true/\fst.toNat=1)\/(fst=false/\fst.toNat=0):=by cases fst<;>simp
  refine Au (A6 (Fe (σ:=Nat×Bool×(Option Addr)×Nat×(Option Addr)×Nat) (λs=>([(0,(.func (.yield l) #[] #[])),(5,.slice s.2.2.1 (List.drop s.1 EE).length s.2.2.2.1),(7,.pointer (some ⟨b3,0,none⟩)),(10,.pointer (some ⟨tb,0,none⟩))]:Env)) (λs=>e8 tb [e7 tt,.bool (s.2.1)] 153::vc 146 (.slice s.2.2.2.2.1 (eh (EE.take s.1)).length s.2.2.2.2.2) (eh (EE.take s.1))::e8 b3 [e7 nd,.slice s.2.2.2.2.1 (eh (EE.take s.1)).length s.2.2.2.2.2] 111::vc 108 (.slice ad10 EE.length cp11) (EE)::(Lf st_++I)) (λs=>(MomentX EE fst j tt s.2.1 s.1)/\(Sl κ [vc 108 (.slice ad10 EE.length cp11) EE] (.slice s.2.2.1 (List.drop s.1 EE).length s.2.2.2.1) (List.drop s.1 EE))) ?_ ?_))
  ·refine A6 (Ca (σ:=Nat×Bool×(Option Addr)×Nat×(Option Addr)×Nat) (λs=>([(0,(.func (.yield l) #[] #[])),(5,.slice s.2.2.1 (List.drop s.1 EE).length s.2.2.2.1),(7,.pointer (some ⟨b3,0,none⟩)),(10,.pointer (some ⟨tb,0,none⟩))]:Env)) (λs=>e8 tb [e7 tt,.bool (s.2.1)] 153::vc 146 (.slice s.2.2.2.2.1 (eh (EE.take s.1)).length s.2.2.2.2.2) (eh (EE.take s.1))::e8 b3 [e7 nd,.slice s.2.2.2.2.1 (eh (EE.take s.1)).length s.2.2.2.2.2] 111::vc 108 (.slice ad10 EE.length cp11) (EE)::(Lf st_++I)) (λs=>(j<=s.1/\s.1<=EE.length)/\(∀i:Nat,j<=i->i<s.1->(e_ EE i).tm=tt)/\(s.2.1=decide (j<s.1))/\(Sl κ [vc 108 (.slice ad10 EE.length cp11) EE] (.slice s.2.2.1 (List.drop s.1 EE).length s.2.2.2.1) (List.drop s.1 EE))) (λs=>EE.length - s.1) (j,false,e1,d1,a,c) ⟨om,(λi h1 h2=>by omega),(by rw [decide_eq_false om]),hev⟩ (Aa C (Aa (Da C (by first|rfl|simp)) (Aa C (Aa C Bq)))) Bv ?_)
   rintro ⟨j2,own,e2,d2,a4,c4⟩ hp
   dsimp only at hp ⊢
   obtain ⟨hj2,hsame,hown,hev2⟩:=hp
   have hd0:=at_zero_drop EE j2
   have hdl:(List.drop j2 EE).length=EE.length - j2:=List.length_drop
   have hvX:=links_val hH.st.nodes hfE j2
   have hlX:=links_len hvX
   refine Au (Au (Bt mixed (C7 12 (Dr 0 C (Af C) (Dr 1 C (Bz Bh C) (Dr 2 C (Ci C C) (Dr 3 C (Af C) (D4 (d:=47) C (λg47=>?_) (λg47=>?_)))))))))
   ·refine Dro 4 C (Af C) (Dro 5 C (A2 (α:=Ev) (xs:=List.drop j2 EE) Bh ty108 C C (Ce hev2 f1) om om) (Dro 6 C (Es (α:=Ev) (xs:=List.drop j2 EE) fld108_1 C (Ce hev2 f1) om) (Dro 7 C (E3 (α:=Ev) (xs:=List.drop j2 EE) (u:=e7 ((e_ (List.drop j2 EE) 0).tm)) ef C (Ce hev2 f1) om om C) (Dro 8 C (Ab fld153_0 C) (Dro 9 C (As ef) ?_)))))
    refine Dro 10 C (Bl C C) (Dr 11 C (Ap C C) (Dz (Ai (Av (S5 55 0 5 7 10 C C C C C) (Bd C (λc55=>?_) (λc55=>?_))))))
    ·refine A4 (Ai (A6 (Au (Bt mixed (C9 (e8 tb [e7 tt,.bool own] 153::vc 108 (.slice ad10 EE.length cp11) (EE)::(Lf st_++I)) 10 (Dr 1 C (Af C) (Dr 2 C (A2 (α:=Ev) (xs:=List.drop j2 EE) Bh ty108 C C (Ce hev2 f1) om om) (Dr 3 C (B7 (α:=Ev) (xs:=List.drop j2 EE) ty108 C (Ce hev2 f1) om om) (Ds1 0 (Sr C (Be (vs:=[_,_]) ty111) A5 ?_))))))))))
     refine Ds1 4 (Se C (Am call141 C C (C1 (J:=vc 146 (.slice a4 (eh (EE.take j2)).length c4) (eh (EE.take j2))::e8 tb [e7 tt,.bool own] 153::e8 b3 [e7 nd,.slice a4 (eh (EE.take j2)).length c4] 111::vc 108 (.slice ad10 EE.length cp11) (EE)::(Lf st_++I)) Bv (ApplyP_ok (nd:=nd) (e:=(e_ (List.drop j2 EE) 0)) (xs:=eh (EE.take j2)) asm (by first|exact hfS _ (Cq om om)|(rw [hd0];exact hfE _ (Cq om om))) om))) ?_)
     rintro _ _ ⟨_,_,⟨ad13,cp14,wv15,rfl,rfl⟩,rfl,rfl⟩
     refine ⟨A5,?_⟩
     refine Dr 5 C (Af C) (Dr 6 C (Ax C C) (Dr 7 C (Ax C C) (Dr 8 C (Ax C C) (Ds1 9 (Se0 C (Cs ty111) ?_)))))
     refine Dz (Ai (Av (S4 0 5 7 10 C C C C) (A0 (Gm C (Gr (Ew (α:=Ev) (xs:=List.drop j2 EE) (l:=1) Bh ty108 C C om (Ce hev2 f1) om) (Ga C (Gf fld153_1 C (Ge0 (Es2_1 ty4) ?_))))))))
     exact Bf (Ak (Ch ((j2+1),(true),((adrop e2 d2 1 (Enc.sz Ev))),((d2 - 1)),(ad13),(cp14)) (by dsimp only;exact ⟨om,(λi h1 h2=>by by_cases e:i=j2;(· subst e;rw [←hd0];assumption);(· exact hsame i h1 om)),(by rw [decide_eq_true om]),(by have h:=Dw (l:=1) hev2 om;rw [List.drop_drop] at h;exact h)⟩) (hI:=by (try dsimp only);exact (by rw [linksL_take om,←hd0];exact Bv))))
    ·exact Bp (Ac (Ac (Aw (Cp ((j2),(own),(e2),(d2),(a4),(c4)) (by dsimp only;exact ⟨(⟨⟨by omega,hsame,λh=>by first|(rw [←hd0];assumption)|(exfalso;omega),hown,hfst,hnx⟩,λhff=>by have hq:=hnx hff;rcases Nat.lt_or_ge j j2 with hlt|hge;(· exact hlt);(· exfalso;have hjj:j2=j:=om;subst hjj;first|omega|(rw [hd0] at c55;exact c55 hq.2.symm))⟩),hev2⟩)))))
   ·exact Dpo 4 C (Dpo 5 C (Dpo 6 C (Dpo 7 C (Dpo 8 C (Dpo 9 C (Dpo 10 C (Dr 11 C (Al C C) (Dz (Ai (Av (S5 55 0 5 7 10 C C C C C) (Eo C (Bp (Ac (Ac (Aw (Cp ((j2),(own),(e2),(d2),(a4),(c4)) (by dsimp only;exact ⟨(⟨⟨by omega,hsame,λh=>by first|(rw [←hd0];assumption)|(exfalso;omega),hown,hfst,hnx⟩,λhff=>by have hq:=hnx hff;rcases Nat.lt_or_ge j j2 with hlt|hge;(· exact hlt);(· exfalso;have hjj:j2=j:=om;subst hjj;first|omega|(rw [hd0] at c55;exact c55 hq.2.symm))⟩),hev2⟩)))))))))))))))))
  ·rintro ⟨j3,own3,e3,d3,a5,c5⟩ hp
   obtain ⟨hM3,hev3⟩:(MomentX EE fst j tt own3 j3)/\(Sl κ [vc 108 (.slice ad10 EE.length cp11) EE] (.slice e3 (List.drop j3 EE).length d3) (List.drop j3 EE)):=hp
   have hmle:=hM3.le
   have hdl3:(List.drop j3 EE).length=EE.length - j3:=List.length_drop
   refine Aj (Gl2 ty111 ?_)
   refine Gc2 (Am call167 C C (LGraph_ok (nd:=nd) Bk (links_val hH.st.nodes hfE j3) (by have:=links_len (links_val hH.st.nodes hfE j3);omega))) λad16 cp17=>?_
   refine Gm C (Gr (Ax C C) (Gr (Ax C C) (Ge1 (A9 ty48 C) λb18=>Ge0 (Cs ty48) ?_)))
   refine Ga C (Ah (Au (Au (W.regionI ?_))))
   refine E4 (Bm C) C C (Af C) ?_
   refine E4 (Bm C) C C (Be (vs:=[_,_]) ty153) ?_
   refine E4 (Bm C) C C (Be (vs:=[_,_]) ty48) ?_
   refine GY.yieldB (l:=l) (Bm C) C C C (YieldB.fit (A8 Bv (Fit.perm (perm_fr (A:=[vc 135 (.slice ad16 (edgesK (eh (EE.take j3))).length cp17) (edgesK (eh (EE.take j3))),e8 b18 [e7 nd,.slice ad16 (edgesK (eh (EE.take j3))).length cp17] 48,e8 tb [e7 tt,.bool own3] 153,vc 146 (.slice a5 (eh (EE.take j3)).length c5) (eh (EE.take j3)),e8 b3 [e7 nd,.slice a5 (eh (EE.take j3)).length c5] 111,vc 108 (.slice ad10 EE.length cp11) EE]) (L:=Lf st_) (T:=I)))) (hy ([e8 b18 [e7 nd,.slice ad16 (edgesK (eh (EE.take j3))).length cp17] 48,e8 tb [e7 tt,.bool own3] 153,vc 146 (.slice a5 (eh (EE.take j3)).length c5) (eh (EE.take j3)),e8 b3 [e7 nd,.slice a5 (eh (EE.take j3)).length c5] 111,vc 108 (.slice ad10 EE.length cp11) EE]++I) (Fit.appR _ _) fst j tt own3 j3 ad16 cp17 hM3 st_ hps)) ?_
   rintro b _ (⟨rfl,s2_,hp2,rfl⟩|⟨rfl,q_,hq_,rfl⟩)
   ·refine GY.fit (J:=e8 b18 [e7 nd,.slice ad16 (edgesK (eh (EE.take j3))).length cp17] 48::e8 tb [e7 tt,.bool own3] 153::vc 146 (.slice a5 (eh (EE.take j3)).length c5) (eh (EE.take j3))::e8 b3 [e7 nd,.slice a5 (eh (EE.take j3)).length c5] 111::vc 108 (.slice ad10 EE.length cp11) (EE)::(Lf s2_++I)) (Fit.perm (perm_fr (A:=Lf s2_) (L:=[e8 b18 [e7 nd,.slice ad16 (edgesK (eh (EE.take j3))).length cp17] 48,e8 tb [e7 tt,.bool own3] 153,vc 146 (.slice a5 (eh (EE.take j3)).length c5) (eh (EE.take j3)),e8 b3 [e7 nd,.slice a5 (eh (EE.take j3)).length c5] 111,vc 108 (.slice ad10 EE.length cp11) EE]) (T:=I))) ?_
    dsimp only
    refine E4 (Bm C) C C (B8 C) ?_
    refine E4 (Bm C) C C (Af C) ?_
    refine E4 (Cz C C C) C C (Af C) ?_
    refine E4 (Cz C C C) C C (Bz Bh C) ?_
    refine E4 (Cz C C C) C C (Bl C C) ?_
    refine E4 (Bm C) C C (Al C C) ?_
    refine GY.nil ?_
    refine Ai (Av (S5 82 0 5 7 10 C C C C C) (Bd C (λc82=>?_) (λc82=>?_)))
    ·refine Az (Ar (A3 (Ar (Ar (A3 ?_)))))
     have hje:j3=EE.length:=by omega
     exact V.ret0 C ((Lf s2_++I)) (by repeat (first|exact Fk _|apply Fit.tail)) ⟨rfl,.inl ⟨s2_,by rw [←hje];exact hp2,rfl⟩⟩
    ·refine A4 (Ai (A0 (Gm C (Gr (A2 (α:=Ev) (xs:=List.drop j3 EE) Bh ty108 C C (Ce hev3 f1) om om) (Gr (Es (α:=Ev) (xs:=List.drop j3 EE) fld108_1 C (Ce hev3 f1) om) (Gr (E3 (α:=Ev) (xs:=List.drop j3 EE) (u:=e7 ((e_ (List.drop j3 EE) 0).tm)) ef C (Ce hev3 f1) om om C) ?_))))))
     rw [at_zero_drop EE j3]
     refine Gr (Bc (cells:=[_,_]) ty153 Tryz.underlying153 pl153 C C) (Ge0 (Cs ty153) ?_)
     refine Bf (Ak (Ai (Aj (Gl2 ty153 ?_))))
     refine Ah (A0 (Ge1 (A9 ty153 C) λb19=>Ge0 (Cs ty153) ?_))
     exact Bf (Ch ((j3),(false),(b19),((e_ EE j3).tm),(e3),(d3),(a5),(c5),(s2_)) (by dsimp only;exact ⟨om,(λh=>by cases h),(λ_=>⟨by omega,rfl⟩),hp2,hev3⟩) (hlt:=by (try dsimp only);exact (by show 2*(EE.length - j3)+0<2*(EE.length - j)+fst.toNat;rcases hft with h|h;(· omega);(· have:=hM3.le;have:=hM3.adv h.1;omega))))
   ·refine GY.fit (J:=Xf q_++I) Fit.mid ?_
    refine E4 (Bm C) C C (B8 C) ?_
    refine E4 (Bm C) C C (Af C) ?_
    refine GY.pass (Unwanted.off C C C) C C ?_
    refine GY.pass (Unwanted.off C C C) C C ?_
    refine GY.pass (Unwanted.off C C C) C C ?_
    refine E4 (Bm C) C C (Ap C C) ?_
    refine GY.nil ?_
    exact Ai (Av (S5 82 0 5 7 10 C C C C C) (Do C (Az (Ar (A3 (Ar (Ar (A3 (V.ret0 C ((Xf q_++I)) (Fk _) ⟨rfl,.inr ⟨q_,hq_,rfl⟩⟩)))))))))
end Go.Sl
namespace Go.Sl
open Go.RowKit (Below)
section
variable {P:Program}{κ:Ctx}{N:Frm}{L:Env}{I J:List Item}{l:Nat}{body:Code}{R:Ending->World->Prop}
def RB(P:Program)(l:Nat)(body:Code)(R:Ending->World->Prop):Exit->Act->World->Prop:=
 Exit.then (λa₁ w₁=>∃w₂,(Instr.beginRound l).run P w₁ = .ok () w₂/\body.wpIn (Fence.wide.inRound l) 0 P (roundPost P l R) a₁ w₂) (λ_ _ _=>False)
theorem V.begin{r:Loop}(J:List Item)(hf:Fit κ I (recI l r::J))(hrd:r.state = .ready/\r.pending=none)(h:WR P κ N l 0 body (roundPost P l R) L (recI l {r with state:= .busy}::J)):V κ N (RB P l body R) .normal L I:=λa w ha hs=>by
 have hs':=hf w hs
 have hl:=(hs'.ok _ List.mem_cons_self).1
 exact ⟨_,run_beginRound hl hrd.1,h a _ ha hs'.putRec⟩
theorem YieldB.mkA{r:Loop}{Post:Bool->List Item->Prop}{args:List Value}{L₀:Env}{assign:Code}(hps:args.length=r.params.size)(ha:r.assign=assign)(hb:r.body=body)
  (hag:Ag N {tmps:=(r.params.zip args.toArray).foldl (λt (p,v)=>t.setIfInBounds p v) r.tmps,defers:=[]} L₀)
  (h:WR P κ N l 0 assign (RB P l body λe w'=>∃b,e = .returned (.bool b)/\∃K,Post b K/\Sep κ w' K) L₀ (recI l r::I)):YieldB P κ l args (recI l r::I) Post:=λw hs=>by
 have hl:=(hs.ok _ List.mem_cons_self).1
 subst ha hb
 exact ⟨_,_,_,_,run_yield hl (by simpa using hps),roundIn_of_wpIn trivial (h _ w hag hs)⟩
theorem ag_two{tm:Array Value}{v u:Value}{p q:Nat}(hta:Ag ⟨N.n,[]⟩ {tmps:=tm,defers:=[]} L)(hp:Nat.blt p N.n=true)(hq:Nat.blt q N.n=true):Ag ⟨N.n,[]⟩ {tmps:=(tm.setIfInBounds p v).setIfInBounds q u,defers:=[]} ((q,u)::(p,v)::L):=(hta.put p hp v).put q hq u
end
end Go.Sl
namespace Go.Sl
open Go.Proofs
set_option maxRecDepth 4000
variable {κ:Ctx}{I:List Item}
theorem HCheck_ok{nd:Int}{va:Value}{es:List Ev}(hl:Sl κ I va es):eu prog κ 79 [e7 nd,va] I (λr J=>r=e7 (streamE nd es)/\I=J):=by
 refine Ce2 Tryz.func79 C C ?_
 refine Aj (Ga C (Ah (Aj (Gm C (Gm C (G.e (Am call139 C C (Stream_ok (nd:=nd) (Bj hl))) ?_))))))
 rintro _ _ ⟨_,_,⟨rfl,rfl⟩,rfl,rfl⟩
 exact Ga C (Ah (Az (Ba C C I Ay ⟨rfl,rfl⟩)))
theorem ACheck_ok{nd kd wd mo:Int}{va:Value}{es:List Ev}(hl:Sl κ I va es):eu prog κ 97 [e7 nd,va,.agg #[e7 kd,e7 wd,e7 mo]] I (λr J=>r=e7 (slideE nd kd wd mo es)/\I=J):=by
 refine Ce3 Tryz.func97 C C ?_
 refine Aj (Ge1 (Bg (cs:=[_,_,_]) C C C) λb1=>Ga C (Ah (Au (Aj (Gl3 ty31 ?_)))))
 refine G.e (Am call78 C C (CheckW_ok kd wd mo)) ?_
 rintro _ _ ⟨_,_,⟨rfl,rfl⟩,rfl,rfl⟩
 refine Ga C (Ah (Aj (Gm C (Gr (Bx C C) (Ah (Bd C (λc11=>?_) (λc11=>?_)))))))
 ·exact Aj (Gm C (Ga C (Ah (Az (Ar (Ba C C I Ay ⟨by unfold slideE;rw [if_pos c11],rfl⟩))))))
 ·refine A4 (Ai (Aj (Gm C (Gm C (Gc0 (Am call79 C C (HCheck_ok (nd:=nd) (Bj hl))) ?_)))))
  exact Ga C (Ah (Av (S1 6 C) (Az (Ba C C I Ay ⟨by unfold slideE;rw [if_neg c11],rfl⟩))))
theorem Frames_ok{nd kd wd mo:Int}{ea:Option Addr}{en ec:Nat} :
    eu prog κ 98 [e7 nd,.slice ea en ec,.agg #[e7 kd,e7 wd,e7 mo]] I (λr J=>∃q1 q2 q3,r = .func (.func 165) #[] #[.pointer (some ⟨q1,0,none⟩),.pointer (some ⟨q2,0,none⟩),.pointer (some ⟨q3,0,none⟩)]/\J=e8 q3 [e7 kd,e7 wd,e7 mo] 31::e8 q2 [.slice ea en ec] 28::e8 q1 [e7 nd] 3::I):=by
 refine Ce3 Tryz.func98 C C ?_
 exact Aj (Ge1 (Bg (cs:=[_]) C C C) λb1=>Ge1 (Bg (cs:=[_]) C C C) λb2=>Ge1 (Bg (cs:=[_,_,_]) C C C) λb3=>Ga C (Ah (Aj (Gr (Er C C) (Ga C (Ah (Az (Ba C C (e8 b3 [e7 kd,e7 wd,e7 mo] 31::e8 b2 [.slice ea en ec] 28::e8 b1 [e7 nd] 3::I) (Fk _) ⟨b1,b2,b3,rfl,rfl⟩))))))))
theorem at_end{kd wd mo tq:Int}{es:List Ev}(h:∀i:Nat,i<(allE kd wd mo es).length->(e_ (allE kd wd mo es) i).tm<=tq):edgesK (eh ((allE kd wd mo es).take (allE kd wd mo es).length))=atG kd wd mo es tq:=by
 unfold atG
 rw [atK_stop (Nat.le_refl _) h λhlt=>absurd hlt (Nat.lt_irrefl _)]
theorem at_stop{kd wd mo tq:Int}{es:List Ev}{j:Nat}(hj:j<(allE kd wd mo es).length)(h:∀i:Nat,i<j->(e_ (allE kd wd mo es) i).tm<=tq)(h2:tq<(e_ (allE kd wd mo es) j).tm):edgesK (eh ((allE kd wd mo es).take j))=atG kd wd mo es tq:=by
 unfold atG
 rw [atK_stop (Nat.le_of_lt hj) h λ_=>h2]
theorem atm_all{E:List Ev}{fst own:Bool}{j j1:Nat}{tm tq:Int}(hM:MomentX E fst j tm own j1)(hle:tm<=tq)(hq:fst=false->∀i:Nat,i<j->(e_ E i).tm<=tq):∀i:Nat,i<j1->(e_ E i).tm<=tq:=λi hi=>by
 by_cases h:i<j
 ·cases hf:fst with
  |true=>have:=(hM.first hf).2;omega
  |false=>exact hq hf i h
 ·rw [hM.same i om hi];exact hle
theorem at_left{kd wd mo nd gn tm tq:Int}{es:List Ev}{X:List Pt}{fst own:Bool}{j j1:Nat}(hM:MomentX (allE kd wd mo es) fst j tm own j1)(hjl:j<=(allE kd wd mo es).length)(hlt:tq<tm)(h0:0<=tq)
  (hq:fst=false->gn=nd/\X=edgesK (eh ((allE kd wd mo es).take j))/\∀i:Nat,i<j->(e_ (allE kd wd mo es) i).tm<=tq):gn=nd/\X=atG kd wd mo es tq:=by
 cases hf:fst with
 |true=>have:=(hM.first hf).1;omega
 |false=>
  obtain ⟨h1,h2⟩:=hM.next hf
  obtain ⟨q1,q2,q3⟩:=hq hf
  exact ⟨q1,q2.trans (at_stop h1 q3 om)⟩
set_option maxHeartbeats 2000000 in
theorem At_ok{nd kd wd mo tq:Int}{ea:Option Addr}{ec:Nat}{es:List Ev}(hl:Sl κ I (.slice ea es.length ec) es)(hH:HistOk nd kd wd mo es)(hlen:es.length<=19)(ht:0<=tq/\tq<=1048576):eu prog κ 44 [e7 nd,.slice ea es.length ec,.agg #[e7 kd,e7 wd,e7 mo],e7 tq] I (λr J=>∃a c,r = .tuple #[.agg #[e7 nd,.slice a (atG kd wd mo es tq).length c],e7 0]/\J=vc 135 (.slice a (atG kd wd mo es tq).length c) (atG kd wd mo es tq)::I):=by
 refine eu.enterM (L:=[(0,e7 nd),(1,.slice ea es.length ec),(2,.agg #[e7 kd,e7 wd,e7 mo]),(3,e7 tq)]) Tryz.func44 C C C C ?_
 refine Aj (Ge1 (Bg (cs:=[_,_,_]) C C C) λb1=>Ge1 (Bg (cs:=[_]) C C C) λb2=>Ge1 (A9 ty48 C) λb3=>Ga C (Ah (Au (Aj (Gm C (Gm C (Gl3 ty31 ?_)))))))
 refine Gc0 (Am call97 C C (ACheck_ok (nd:=nd) (kd:=kd) (wd:=wd) (mo:=mo) (Bj hl))) ?_
 refine Ga C (Ah (Aj (Gm C (Gr (Bx C C) (Ah (Av (S7 19 10 8 7 6 0 1 C C C C C C C) (Bd C (λc19=>?_) (λc19=>?_))))))))
 ·exact absurd (slideE_zeroH hH) c19
 ·refine A4 (Ai (Au (Aj (Gl ef ?_))))
  refine Gr (Bi C C) (Gm C (Bs (d:=24) C (λg24=>?_) (λg24=>?_)))
  ·omega
  ·refine e9 (As ef) ?_
   refine e9 (Ci C C) (Gr (Al C C) (Ah (Av (S6 27 8 7 6 0 1 C C C C C C) (Bd C (λc27=>?_) (λc27=>?_)))))
   ·omega
   ·refine A4 (Ai (Aj (Ge1 (A9 ty48 C) λb4=>Ah (Au (Aj (Gm C (Gm C (Gl3 ty31 ?_))))))))
    refine G.e (Am call98 C C Frames_ok) ?_
    rintro _ _ ⟨_,_,⟨qb5,qb6,qb7,rfl,rfl⟩,rfl,rfl⟩
    refine Ah (A6 (W.fit (J:=e8 b4 [e7 0,.slice none 0 0] 48::vc 135 (.slice none 0 0) (([]:List Pt))::e8 qb7 [e7 kd,e7 wd,e7 mo] 31::e8 qb6 [.slice ea es.length ec] 28::e8 qb5 [e7 nd] 3::e8 b3 [e7 0,.slice none 0 0] 48::e8 b2 [e7 tq] 3::e8 b1 [e7 kd,e7 wd,e7 mo] 31::I) (A8 (B9 (α:=Pt) 135 _) Bv) ?_))
    refine W.rangeFnB (gf:=165) (lb:=[.pointer (some ⟨qb5,0,none⟩),.pointer (some ⟨qb6,0,none⟩),.pointer (some ⟨qb7,0,none⟩)]) C call165 λDm l rc hr1 hr2 hr3 hr4 hta=>?_
    refine (Frames1_ok (I:=e8 qb7 [e7 kd,e7 wd,e7 mo] 31::e8 qb6 [.slice ea es.length ec] 28::e8 qb5 [e7 nd] 3::e8 b3 [e7 0,.slice none 0 0] 48::e8 b2 [e7 tq] 3::e8 b1 [e7 kd,e7 wd,e7 mo] 31::I) (σ:=Int×(Option Addr)×Nat×(List Pt)) (τ:=Int×(Option Addr)×Nat×(List Pt)) (l:=l) (Lf:=λs=>[recI l rc,dfrI Dm,e8 b4 [e7 (s.1),.slice s.2.1 s.2.2.2.length s.2.2.1] 48,vc 135 (.slice s.2.1 s.2.2.2.length s.2.2.1) (s.2.2.2)]) (Pf:=λfst j s=>(fst=false->s.1=nd/\s.2.2.2=edgesK (eh ((allE kd wd mo es).take j))/\∀i:Nat,i<j->(e_ (allE kd wd mo es) i).tm<=tq)/\(j<=(allE kd wd mo es).length)) (Xf:=λs=>[recI l {rc with state:= .done,pending:=some (.exit 0)},dfrI Dm,e8 b4 [e7 (s.1),.slice s.2.1 s.2.2.2.length s.2.2.1] 48,vc 135 (.slice s.2.1 s.2.2.2.length s.2.2.1) (s.2.2.2)]) (Qf:=λs=>(s.1=nd/\s.2.2.2=atG kd wd mo es tq)) (s0:=(0,none,0,([]:List Pt))) hH hlen (C2 mm) (C2 mm) (C2 mm) (Bj hl) ⟨λh=>(by cases h),Nat.zero_le _⟩ ?_).mono ?_
    ·rintro T hTI fst j tm own j1 ga gc hM ⟨gn,a,c,X⟩ hp
     obtain ⟨hq,hjl⟩:(fst=false->gn=nd/\X=edgesK (eh ((allE kd wd mo es).take j))/\∀i:Nat,i<j->(e_ (allE kd wd mo es) i).tm<=tq)/\(j<=(allE kd wd mo es).length):=hp
     have hbq:BlkRd κ T b2 [e7 tq] 3:=(C2 (I:=e8 qb7 [e7 kd,e7 wd,e7 mo] 31::e8 qb6 [.slice ea es.length ec] 28::e8 qb5 [e7 nd] 3::e8 b3 [e7 0,.slice none 0 0] 48::e8 b2 [e7 tq] 3::e8 b1 [e7 kd,e7 wd,e7 mo] 31::I) mm).fit hTI
     refine YieldB.fit (J:=recI l rc::vc 135 (.slice ga (edgesK (eh ((allE kd wd mo es).take j1))).length gc) (edgesK (eh ((allE kd wd mo es).take j1)))::dfrI Dm::e8 b4 [e7 gn,.slice a X.length c] 48::vc 135 (.slice a X.length c) (X)::T) Bv ?_
     refine YieldB.mkA (L₀:=[(34,.agg #[e7 nd,.slice ga (edgesK (eh ((allE kd wd mo es).take j1))).length gc]),(33,.agg #[e7 tm,.bool own]),(32,.func (.func 165) #[] #[.pointer (some ⟨qb5,0,none⟩),.pointer (some ⟨qb6,0,none⟩),.pointer (some ⟨qb7,0,none⟩)]),(31,.agg #[e7 kd,e7 wd,e7 mo]),(30,.slice ea es.length ec),(29,e7 nd),(11,.pointer (some ⟨b4,0,none⟩)),(27,.bool (decide (1048576<tq))),(8,.pointer (some ⟨b3,0,none⟩)),(7,.pointer (some ⟨b2,0,none⟩)),(6,.pointer (some ⟨b1,0,none⟩)),(0,e7 nd),(1,.slice ea es.length ec)]) (by rw [hr2];rfl) hr3 hr4 (by rw [hr2,fold_two];exact ag_two hta C C) ?_
     refine Ey ?_
     refine Dq (λ_ _ h=>False.elim h) C ?_
     refine Ge1 (A9 ty153 C) λb8=>Ge0 (Cs ty153) ?_
     refine Bf (D6 ?_)
     refine Fb (L':=[(12,_),(34,_),(11,_),(7,_)]) (Aa C (Aa C (Aa C (Aa C Bq)))) ?_
     refine Dq (λ_ _ h=>False.elim h) C ?_
     refine Ge1 (A9 ty48 C) λb9=>Ge0 (Cs ty48) ?_
     refine Bf (V.begin (e8 b9 [e7 nd,.slice ga (edgesK (eh ((allE kd wd mo es).take j1))).length gc] 48::e8 b8 [e7 tm,.bool own] 153::vc 135 (.slice ga (edgesK (eh ((allE kd wd mo es).take j1))).length gc) (edgesK (eh ((allE kd wd mo es).take j1)))::dfrI Dm::e8 b4 [e7 gn,.slice a X.length c] 48::vc 135 (.slice a X.length c) (X)::T) Bv hr1 ?_)
     refine WR.block ?_
     refine Ey ?_
     refine Ey ?_
     refine Dq (λ_ _ h=>False.elim h) C ?_
     refine Gf fld153_0 C (Gl ef ?_)
     refine Gr (C6 ef C (C5 hbq Ay) C) (Gr (Ci C C) (Bf (D6 ?_)))
     refine WR.ite C (λc38=>?_) (λc38=>?_)
     ·refine WR.exit ?_
      exact Ac (Ao C (V.roundX (dfrI Dm::e8 b4 [e7 gn,.slice a X.length c] 48::vc 135 (.slice a X.length c) (X)::T) Bv (.inr ⟨rfl,(gn,a,c,X),(at_left hM hjl om om hq),rfl⟩)))
     ·refine WR.skip ?_
      refine D6 ?_
      refine Dq (λ_ _ h=>False.elim h) C ?_
      refine Gl2 ty48 ?_
      refine Ge0 (Cs ty48) ?_
      refine Bf (Ak ?_)
      have hall:∀i:Nat,i<j1->(e_ (allE kd wd mo es) i).tm<=tq:=atm_all hM om (λh=>(hq h).2.2)
      exact E5 (dfrI Dm::e8 b4 [e7 nd,.slice ga (edgesK (eh ((allE kd wd mo es).take j1))).length gc] 48::vc 135 (.slice ga (edgesK (eh ((allE kd wd mo es).take j1))).length gc) ((edgesK (eh ((allE kd wd mo es).take j1))))::T) Bv hr1 (.inl ⟨rfl,(nd,ga,gc,edgesK (eh ((allE kd wd mo es).take j1))),⟨(λ_=>⟨rfl,rfl,hall⟩),hM.le.2⟩,rfl⟩)
    rintro v K ⟨rfl,(⟨⟨gn,a,c,X⟩,hp,rfl⟩|⟨⟨gn,a,c,X⟩,hp,rfl⟩)⟩
    ·obtain ⟨hq,hjl⟩:(false=false->gn=nd/\X=edgesK (eh ((allE kd wd mo es).take (allE kd wd mo es).length))/\∀i:Nat,i<(allE kd wd mo es).length->(e_ (allE kd wd mo es) i).tm<=tq)/\((allE kd wd mo es).length<=(allE kd wd mo es).length):=hp
     refine .inl ⟨_,rfl,?_⟩
     show V κ _ _ .normal ([(32,.func (.func 165) #[] #[.pointer (some ⟨qb5,0,none⟩),.pointer (some ⟨qb6,0,none⟩),.pointer (some ⟨qb7,0,none⟩)]),(31,.agg #[e7 kd,e7 wd,e7 mo]),(30,.slice ea es.length ec),(29,e7 nd),(11,.pointer (some ⟨b4,0,none⟩)),(27,.bool (decide (1048576<tq))),(8,.pointer (some ⟨b3,0,none⟩)),(7,.pointer (some ⟨b2,0,none⟩)),(6,.pointer (some ⟨b1,0,none⟩)),(0,e7 nd),(1,.slice ea es.length ec)]:Env) (dfrI Dm::e8 b4 [e7 gn,.slice a X.length c] 48::vc 135 (.slice a X.length c) (X)::e8 qb7 [e7 kd,e7 wd,e7 mo] 31::e8 qb6 [.slice ea es.length ec] 28::e8 qb5 [e7 nd] 3::e8 b3 [e7 0,.slice none 0 0] 48::e8 b2 [e7 tq] 3::e8 b1 [e7 kd,e7 wd,e7 mo] 31::I)
     have hX:X=atG kd wd mo es tq:=(hq rfl).2.1.trans (at_end (hq rfl).2.2)
     have hgn:=(hq rfl).1
     refine Ak (Ai (Aj (Gl2 ty48 ?_)))
     refine Ge0 (Cs ty48) ?_
     refine Ga C (Ah (Az ?_))
     rw [hX,hgn]
     refine V.fit (J:=dfrI Dm::e8 b4 [e7 nd,.slice a (atG kd wd mo es tq).length c] 48::vc 135 (.slice a (atG kd wd mo es tq).length c) ((atG kd wd mo es tq))::e8 qb7 [e7 kd,e7 wd,e7 mo] 31::e8 qb6 [.slice ea es.length ec] 28::e8 qb5 [e7 nd] 3::e8 b3 [e7 nd,.slice a (atG kd wd mo es tq).length c] 48::e8 b2 [e7 tq] 3::e8 b1 [e7 kd,e7 wd,e7 mo] 31::I) Bv (V.leave ?_)
     exact D3 C ty48 C C mm C (vc 135 (.slice a (atG kd wd mo es tq).length c) (atG kd wd mo es tq)::I) Bv ⟨a,c,rfl,rfl⟩
    ·have hQ:(gn=nd/\X=atG kd wd mo es tq):=hp
     refine .inr ⟨_,_,rfl,?_⟩
     have hX:=hQ.2
     have hgn:=hQ.1
     refine Bp (Aw (Ai (Aj (Gl2 ty48 ?_))))
     refine Ge0 (Cs ty48) ?_
     refine Ga C (Ah (Az ?_))
     rw [hX,hgn]
     refine V.fit (J:=dfrI Dm::e8 b4 [e7 nd,.slice a (atG kd wd mo es tq).length c] 48::vc 135 (.slice a (atG kd wd mo es tq).length c) ((atG kd wd mo es tq))::e8 qb7 [e7 kd,e7 wd,e7 mo] 31::e8 qb6 [.slice ea es.length ec] 28::e8 qb5 [e7 nd] 3::e8 b3 [e7 nd,.slice a (atG kd wd mo es tq).length c] 48::e8 b2 [e7 tq] 3::e8 b1 [e7 kd,e7 wd,e7 mo] 31::I) Bv (V.leave ?_)
     exact D3 C ty48 C C mm C (vc 135 (.slice a (atG kd wd mo es tq).length c) (atG kd wd mo es tq)::I) Bv ⟨a,c,rfl,rfl⟩
end Go.Sl
/- The links at a time, asked from the events of the window up to it and from what has expired by then. No conditions. -/
namespace Go.Sl
def Due(wd:Int)(out:List Ev):Prop:=∀p e q,out=p++e::q->∀x∈eh p,e.tm<=x.tm+wd
theorem Due.nil{wd:Int}:Due wd []:=λp e q h=>by simp at h
theorem Due.app{wd:Int}{out new:List Ev}(h:Due wd out)(hn:∀p e q,new=p++e::q->∀x∈eh (out++p),e.tm<=x.tm+wd):Due wd (out++new):=λp e q he x hx=>by
 rcases List.append_eq_append_iff.1 he with ⟨a,h1,h2⟩|⟨c,h1,h2⟩
 ·exact hn a e q h2 x (by rw [←h1];exact hx)
 ·cases c with
  |nil=>
   rw [List.append_nil] at h1
   exact hn [] e q (by simpa using h2.symm) x (by rw [List.append_nil,h1];exact hx)
  |cons y c=>
   rw [List.cons_append] at h2
   injection h2 with h3 h4
   subst h3
   exact h p e c h1 x hx
theorem steps_sub:∀(p:List Ev) (xs:List Lk),(∀e∈p,e.kd≠1)->∀x∈p.foldl ep xs,x∈xs
 |[],xs,_,x,h=>h
 |e::p,xs,he,x,h=>by
  have h1:=steps_sub p (ep xs e) (λy hy=>he y (List.mem_cons_of_mem _ hy)) x h
  unfold ep at h1;rw [if_neg (he e List.mem_cons_self)] at h1
  exact (List.mem_filter.1 h1).1
theorem linksL_app(a b:List Ev):eh (a++b)=b.foldl ep (eh a):=by unfold eh;rw [List.foldl_append]
theorem gone_mem{kd wd mo nw:Int}{xs:List Lk}{e:Ev}(he:e∈goneL kd wd mo nw xs):e.kd=2/\e.tm=nw:=by
 unfold goneL at he
 obtain ⟨z,hz,rfl⟩:=List.mem_map.1 he
 exact ⟨rfl,rfl⟩
structure DueS (nd wd:Int) (xs:List Lk) (out:List Ev):Prop where
 st:xs=eh out
 val:checkS nd xs=0
 due:Due wd out
theorem DueS.step{nd wd mo:Int}{xs:List Lk}{out:List Ev}(h:DueS nd wd xs out)(h0:0<xs.length):DueS nd wd (xs.filter (inW 2 wd mo (minT xs+wd) xs)) (out++goneL 2 wd mo (minT xs+wd) xs):=by
 refine ⟨by rw [linksL_app,←h.st,gone_steps h.val],filter_val h.val,h.due.app λp e q he x hx=>?_⟩
 have hall:∀y∈goneL 2 wd mo (minT xs+wd) xs,y.kd=2/\y.tm=minT xs+wd:=λy hy=>gone_mem hy
 rw [he] at hall
 have h1:=(hall e (by simp)).2
 rw [linksL_app,←h.st] at hx
 have h2:=steps_sub p xs (λy hy=>by rw [(hall y (by simp [hy])).1];decide) x hx
 have h3:=(minT_spec h0).2 x h2
 omega
theorem DueS.all{nd wd mo:Int}{es:List Ev}(h:StOk nd es)(hw:1<=wd):∀k,k<=es.length->DueS nd wd (slideS 2 wd mo (es.take k)).1 (slideS 2 wd mo (es.take k)).2
 |0,_=>⟨rfl,valNil h.nodes,.nil⟩
 |k+1,hk=>by
  have ih:=DueS.all (mo:=mo) h hw k om
  have hfe:=h.fit k om
  rw [slideS_succ om]
  generalize slideS 2 wd mo (es.take k)=s at ih ⊢
  generalize e_ es k=e at hfe ⊢
  obtain ⟨xs,out⟩:=s
  have hev:evStep 2 wd mo (xs,out) e=(ep (ageL wd mo e.tm xs out).1 e,(ageL wd mo e.tm xs out).2++[e]):=rfl
  rw [hev]
  obtain ⟨h1,h2⟩:=ageL_ind (mo:=mo) (P:=λxs out=>DueS nd wd xs out) (λxs out hs hP=>hP.step hs.1) xs.length xs out (Nat.le_refl _) ih
  generalize ageL wd mo e.tm xs out=a at h1 h2 ⊢
  refine ⟨by simp only;rw [linksL_app,←h1.st];rfl,stepL_val h1.val hfe,h1.due.app λp y q he x hx=>?_⟩
  cases p with
  |nil=>
   rw [List.nil_append] at he
   injection he with h3 h4
   subst h3
   rw [List.append_nil,←h1.st] at hx
   have h5:=(minT_spec (List.length_pos_of_mem hx)).2 x hx
   have h6:=List.length_pos_of_mem hx
   omega
  |cons z p=>simp at he
theorem slide3_asc{nd mo:Int}{es:List Ev}(h:StOk nd es):∀k,k<=es.length->(slideS 3 0 mo (es.take k)).2.Pairwise (λa b=>a.tm<=b.tm)/\∀e∈(slideS 3 0 mo (es.take k)).2,e.tm<=lastT es k
 |0,_=>⟨List.Pairwise.nil,λe he=>(by cases he)⟩
 |k+1,hk=>by
  have ih:=slide3_asc (mo:=mo) h k om
  have hto:=h.asc k om
  rw [slideS_succ om,evStep3]
  generalize slideS 3 0 mo (es.take k)=s at ih ⊢
  generalize hee:e_ es k=e at hto ⊢
  have hlt:lastT es (k+1)=e.tm:=by rw [lastT_succ,hee]
  rw [hlt]
  have hg:∀y∈goneL 3 0 mo e.tm (ep s.1 e),y.tm=e.tm:=λy hy=>(gone_mem hy).2
  have hb:∀y∈s.2++[e],y.tm<=e.tm:=λy hy=>by
   rcases List.mem_append.1 hy with hy|hy
   ·have:=ih.2 y hy;omega
   ·rw [List.mem_singleton.1 hy];exact Int.le_refl _
  refine ⟨List.pairwise_append.2 ⟨List.pairwise_append.2 ⟨ih.1,List.pairwise_singleton _ _,λx hx y hy=>?_⟩,?_,λx hx y hy=>?_⟩,λy hy=>?_⟩
  ·rw [List.mem_singleton.1 hy];exact hb x (List.mem_append_left _ hx)
  ·refine List.Pairwise.imp_of_mem (R:=λ_ _=>True) (λhx hy _=>?_) (List.pairwise_of_forall (λ_ _=>trivial))
   rw [hg _ hx,hg _ hy];exact Int.le_refl _
  ·rw [hg y hy];exact hb x hx
  ·rcases List.mem_append.1 hy with hy|hy
   ·exact hb y hy
   ·rw [hg y hy];exact Int.le_refl _
section
variable {nd kd wd mo:Int}{es:List Ev}
theorem StOk.pw(h:StOk nd es):es.Pairwise λa b=>a.tm<=b.tm:=by
 rw [List.pairwise_iff_getElem]
 intro i j hi hj hij
 have h1:=h.up j om i hij
 have h2:=h.asc j hj
 rw [Db es i hi] at h1
 rw [Db es j hj] at h2
 omega
theorem HistOk.asc(h:HistOk nd kd wd mo es):(slideS kd wd mo es).2.Pairwise λa b=>a.tm<=b.tm:=by
 have he:es.take es.length=es:=List.take_length
 rcases checkW_cases h.win with ⟨rfl,rfl,rfl⟩|⟨rfl,hw,rfl⟩|⟨rfl,rfl,hm⟩
 ·rw [all_same];exact h.st.pw
 ·have:=(BehB.all (mo:=0) h.st hw.1 es.length (Nat.le_refl _)).asc
  rwa [he] at this
 ·have:=(slide3_asc (mo:=mo) h.st es.length (Nat.le_refl _)).1
  rwa [he] at this
theorem HistOk.due(h:HistOk nd 2 wd mo es):Due wd (slideS 2 wd mo es).2:=by
 have he:es.take es.length=es:=List.take_length
 rcases checkW_cases h.win with ⟨h1,_⟩|⟨_,hw,_⟩|⟨h1,_⟩
 ·exact absurd h1 dc
 ·have:=(DueS.all (mo:=mo) h.st hw.1 es.length (Nat.le_refl _)).due
  rwa [he] at this
 ·exact absurd h1 dc
end
theorem takeWhile_filter{p:Ev->Bool}:∀{E:List Ev},E.Pairwise (λa b=>p b=true->p a=true)->E.takeWhile p=E.filter p
 |[],_=>rfl
 |x::E,h=>by
  obtain ⟨h1,h2⟩:=List.pairwise_cons.1 h
  cases hp:p x with
  |true=>rw [List.takeWhile_cons_of_pos hp,List.filter_cons_of_pos hp,takeWhile_filter h2]
  |false=>
   rw [List.takeWhile_cons_of_neg (by simp [hp]),List.filter_cons_of_neg (by simp [hp])]
   refine (List.filter_eq_nil_iff.2 λy hy hy2=>?_).symm
   rw [h1 y hy hy2] at hp;cases hp
def upT(T:Int)(e:Ev):Bool:=decide (e.tm<=T)
theorem up_asc{E:List Ev}(h:E.Pairwise λa b=>a.tm<=b.tm)(T:Int):E.takeWhile (upT T)=E.filter (upT T):=
 takeWhile_filter (h.imp λhab hb=>by unfold upT at hb ⊢; have:=of_decide_eq_true hb;exact decide_eq_true om)
theorem split_up{E:List Ev}(h:E.Pairwise λa b=>a.tm<=b.tm)(T:Int):(∀e∈E,e.tm<=T)\/∃e q,E=E.filter (upT T)++e::q/\T<e.tm:=by
 rw [←up_asc h]
 have h1:=List.takeWhile_append_dropWhile (p:=upT T) (l:=E)
 cases hd:E.dropWhile (upT T) with
 |nil=>
  left
  rw [hd,List.append_nil,up_asc h] at h1
  intro e he
  rw [←h1] at he
  exact of_decide_eq_true (List.mem_filter.1 he).2
 |cons e q=>
  right
  refine ⟨e,q,by rw [←hd,h1],?_⟩
  have hne:E.dropWhile (upT T)≠[]:=by rw [hd];simp
  have h2:=List.head_dropWhile_not (upT T) hne
  have h3:(E.dropWhile (upT T)).head hne=e:=by simp only [hd,List.head_cons]
  rw [h3] at h2
  unfold upT at h2
  have:=of_decide_eq_false h2
  omega
def refK(kd wd mo:Int)(es:List Ev)(T:Int):List Lk:=
 if kd=2 then (eh ((slideS kd wd mo es).2.filter (upT T))).filter (aliveB wd T) else eh ((slideS kd wd mo es).2.filter (upT T))
theorem place_spec(l:List Ev)(x:Ev):∀n,n<=l.length->placeG evC l x n<=n/\(∀i:Nat,placeG evC l x n<=i->i<n->x.tm<(e_ l i).tm)/\(0<placeG evC l x n->(e_ l ((placeG evC l x n - 1:Nat):Int)).tm<=x.tm)
 |0,_=>⟨Nat.le_refl _,λi h1 h2=>by omega,λh=>absurd h (Nat.lt_irrefl 0)⟩
 |n+1,hn=>by
  unfold placeG
  split
  ·rename_i h
   obtain ⟨h1,h2,h3⟩:=place_spec l x n om
   refine ⟨by omega,λi hi hlt=>?_,h3⟩
   by_cases e:i=n
   ·subst e;exact evC_neg.1 h
   ·exact h2 i hi om
  ·rename_i h
   refine ⟨Nat.le_refl _,λi h1 h2=>by omega,λ_=>?_⟩
   have:¬x.tm<(e_ l n).tm:=λhh=>h (evC_neg.2 hh)
   show (e_ l n).tm<=x.tm
   omega
theorem insert_asc{l:List Ev}(h:l.Pairwise λa b=>a.tm<=b.tm)(x:Ev):(insertG evC l x).Pairwise λa b=>a.tm<=b.tm:=by
 obtain ⟨h1,h2,h3⟩:=place_spec l x l.length (Nat.le_refl _)
 unfold insertG insG
 generalize placeG evC l x l.length=p at h1 h2 h3
 have hg:=List.pairwise_iff_getElem.1 h
 have ha:∀a∈l.take p,a.tm<=x.tm:=λa ha=>by
  obtain ⟨i,hi,rfl⟩:=List.getElem_of_mem ha
  rw [List.length_take] at hi
  rw [List.getElem_take]
  have h4:=h3 om
  rw [Db l (p - 1) om] at h4
  by_cases e:i=p - 1
  ·subst e;exact h4
  ·have:=hg i (p - 1) om om om;omega
 have hb:∀b∈l.drop p,x.tm<=b.tm:=λb hb=>by
  obtain ⟨i,hi,rfl⟩:=List.getElem_of_mem hb
  rw [List.length_drop] at hi
  rw [List.getElem_drop]
  have h4:=h2 (p+i) om om
  rw [Db l (p+i) om] at h4
  omega
 refine List.pairwise_append.2 ⟨h.sublist (List.take_sublist _ _),List.pairwise_cons.2 ⟨hb,h.sublist (List.drop_sublist _ _)⟩,λa ha' b hb'=>?_⟩
 rcases List.mem_cons.1 hb' with rfl|hb'
 ·exact ha a ha'
 ·have h5:=ha a ha';have h6:=hb b hb';omega
theorem isortC_acc:∀(xs acc:List Ev),acc.Pairwise (λa b=>a.tm<=b.tm)->(xs.foldl (insertG evC) acc).Pairwise λa b=>a.tm<=b.tm
 |[],acc,h=>h
 |x::xs,acc,h=>isortC_acc xs _ (insert_asc h x)
theorem isortC_asc(xs:List Ev):(isortG evC xs).Pairwise λa b=>a.tm<=b.tm:=isortC_acc xs [] List.Pairwise.nil
theorem cutsE_filter:∀(E:List Ev) (xs:List Lk),(∀e∈E,e.kd≠1)->E.foldl ep xs=xs.filter λx=>E.all λe=> !hitE e x
 |[],xs,_=>(List.filter_eq_self.2 λ_ _=>rfl).symm
 |e::E,xs,h=>by
  have h1:ep xs e=xs.filter λx=> !hitE e x:=by unfold ep;rw [if_neg (h e List.mem_cons_self)]
  rw [List.foldl_cons,h1,cutsE_filter E _ (λy hy=>h y (List.mem_cons_of_mem _ hy)),List.filter_filter]
  refine List.filter_congr λx _=>?_
  rw [List.all_cons,Bool.and_comm]
theorem hit_cutAt{wd:Int}{z x:Lk}(hz:z.u<z.v):hitE (cutAt wd z) x=decide (x.p=z.p):=by
 rw [hit_two (show (cutAt wd z).kd=2 from rfl)]
 have:(ei (cutAt wd z)).p=z.p:=by
  rw [lk_p];unfold ei cutAt;simp only
  rw [if_neg om,if_pos hz];exact ⟨rfl,rfl⟩
 rw [this]
section
variable {nd kd wd mo T:Int}{es:List Ev}
theorem HistOk.all_asc(h:HistOk nd kd wd mo es):(allE kd wd mo es).Pairwise λa b=>a.tm<=b.tm:=by
 unfold allE
 refine List.pairwise_append.2 ⟨h.asc,isortC_asc _,λx hx y hy=>?_⟩
 have hy:=(Fa _ _).mem_iff.1 hy
 unfold lateL at hy
 obtain ⟨z,hz,rfl⟩:=List.mem_map.1 hy
 obtain ⟨h1,h2⟩:=List.mem_filter.1 hz
 unfold lateP at h2
 have h2:=of_decide_eq_true h2
 show x.tm<=z.tm+wd
 rcases checkW_cases h.win with ⟨e1,_⟩|⟨e1,hw,e3⟩|⟨e1,_⟩
 ·omega
 ·subst e1
  have he:es.take es.length=es:=List.take_length
  have hB:=BehB.all (mo:=mo) h.st hw.1 es.length (Nat.le_refl _)
  rw [he] at hB
  rw [←h.links] at h1
  have h3:=hB.le x hx
  have h4:=hB.inv.al rfl z h1
  omega
 ·omega
theorem linksL_val(h:HistOk nd kd wd mo es){E:List Ev}(hE:∀e∈E,FitOk nd e):checkS nd (eh E)=0:=steps_val h.st.nodes _ _ (valNil h.st.nodes) hE
theorem atK_ref(h:HistOk nd kd wd mo es)(hT:0<=T/\T<=1048576):atK kd wd mo es T=refK kd wd mo es T:=by
 have e0:atK kd wd mo es T=eh ((allE kd wd mo es).filter (upT T)):=by
  unfold atK;rw [←up_asc h.all_asc];rfl
 rw [e0]
 unfold allE refK
 rw [List.filter_append]
 by_cases hk:kd=2
 ·rw [if_pos hk]
  subst hk
  have hfit:=h.fit
  have hvS:checkS nd (eh ((slideS 2 wd mo es).2.filter (upT T)))=0:=linksL_val h λe he=>hfit e (List.mem_filter.1 he).1
  rcases split_up h.asc T with hall|⟨e,q,he,hTe⟩
  ·have hS:(slideS 2 wd mo es).2.filter (upT T)=(slideS 2 wd mo es).2:=List.filter_eq_self.2 λe he=>decide_eq_true (hall e he)
   rw [hS] at hvS ⊢
   rw [linksL_app]
   generalize eh (slideS 2 wd mo es).2=X at hvS
   have hm:∀y,y∈(isortG evC (lateL 2 wd X)).filter (upT T)↔∃z∈X,z.tm+wd<=T/\y=cutAt wd z:=λy=>by
    rw [List.mem_filter,(Fa evC (lateL 2 wd X)).mem_iff]
    unfold lateL
    rw [List.mem_map]
    constructor
    ·rintro ⟨⟨z,hz,rfl⟩,h2⟩
     exact ⟨z,(List.mem_filter.1 hz).1,of_decide_eq_true h2,rfl⟩
    ·rintro ⟨z,hz,h2,rfl⟩
     exact ⟨⟨z,List.mem_filter.2 ⟨hz,decide_eq_true ⟨rfl,by omega⟩⟩,rfl⟩,decide_eq_true h2⟩
   rw [cutsE_filter _ X (λy hy=>by obtain ⟨z,_,_,rfl⟩:=(hm y).1 hy;show (2:Int)≠1;decide)]
   refine List.filter_congr λx hx=>?_
   unfold aliveB
   rw [Bool.eq_iff_iff,List.all_eq_true,decide_eq_true_eq]
   constructor
   ·intro hh
    refine Classical.byContradiction λhn=>?_
    have h1:=hh _ ((hm _).2 ⟨x,hx,by omega,rfl⟩)
    rw [hit_cutAt (val_uv hvS x hx).2.1] at h1
    simp at h1
   ·intro hh y hy
    obtain ⟨z,h1,h2,rfl⟩:=(hm y).1 hy
    have hne:x.p≠z.p:=λhp=>by
     have:=asc_p (checkS_ok hvS).2.2 hx h1 hp
     subst this;omega
    rw [hit_cutAt (val_uv hvS z h1).2.1]
    simp [hne]
  ·have hnil:(isortG evC (lateL 2 wd (eh (slideS 2 wd mo es).2))).filter (upT T)=[]:=by
    refine List.filter_eq_nil_iff.2 λy hy hy2=>?_
    have hy3:=of_decide_eq_true hy2
    have h1:=(List.pairwise_append.1 h.all_asc).2.2 e (by rw [he];simp) y hy
    omega
   rw [hnil,List.append_nil]
   refine (List.filter_eq_self.2 λx hx=>?_).symm
   have:=h.due _ e q he x hx
   unfold aliveB
   exact decide_eq_true om
 ·rw [if_neg hk]
  have hl:lateL kd wd (eh (slideS kd wd mo es).2)=[]:=by
   unfold lateL
   rw [List.filter_eq_nil_iff.2 λx _ hx=>by unfold lateP at hx;exact hk (of_decide_eq_true hx).1]
   rfl
  rw [hl]
  have:(isortG evC ([]:List Ev)).filter (upT T)=[]:=rfl
  rw [this,List.append_nil]
end
end Go.Sl
namespace Go.Sl
variable {P:Program}{κ:Ctx}{N:Frm}{L:Env}{I:List Item}
end Go.Sl
namespace Go.Sl
variable {P:Program}{κ:Ctx}{N:Frm}{L:Env}{I:List Item}
theorem V.retv3{fn:Func}{t u s:Tmp}{T U S b b' b2 E E' E2 by' by2 by3:Nat}{z z' z2:List Value}{v v' v2:Value}{Post:Value->List Item->Prop}(hr:fn.results = #[.cell t T,.cell u U,.cell s S])(hT:tyF P T=some (1,false,by',z))(hU:tyF P U=some (1,false,by2,z'))(hS:tyF P S=some (1,false,by3,z2))
  (hv:look L t=some (.pointer (some ⟨b,0,none⟩))) (hv':look L u=some (.pointer (some ⟨b',0,none⟩))) (hv2:look L s=some (.pointer (some ⟨b2,0,none⟩))) (hb:e8 b [v] E∈I) (hb':e8 b' [v'] E'∈I) (hb2:e8 b2 [v2] E2∈I)
  (J:List Item) (hf:Fit κ I J) (hp:Post (.tuple #[v,v',v2]) J) (h0:N.ds=[]:=by rfl):V κ N (bodyPost P fn (RetR κ Post)) .ret L I:=
 λa w ha hs=>by
  have hcell:w.cell? ⟨b,0,none⟩=some v:=by rw [cell_blk (w:=w) (hs.ok _ hb).1 0];rfl
  have hcell2:w.cell? ⟨b',0,none⟩=some v':=by rw [cell_blk (w:=w) (hs.ok _ hb').1 0];rfl
  have hcell3:w.cell? ⟨b2,0,none⟩=some v2:=by rw [cell_blk (w:=w) (hs.ok _ hb2).1 0];rfl
  have hload:(loadVar T ⟨b,0,none⟩).run P w = .ok v w:=run_loadVar_one hT hcell
  have hload2:(loadVar U ⟨b',0,none⟩).run P w = .ok v' w:=run_loadVar_one hU hcell2
  have hload3:(loadVar S ⟨b2,0,none⟩).run P w = .ok v2 w:=run_loadVar_one hS hcell3
  refine bodyPost_ret (v:= .tuple #[v,v',v2]) ?_ (ha.defers.trans h0) ⟨_,J,rfl,hp,hf w hs⟩
  simp [results,hr,ha.get t _ hv,ha.get u _ hv',ha.get s _ hv2,asAddr,hload,hload2,hload3]
theorem V.retttc{fn:Func}{t u s:Tmp}{T b E sz by':Nat}{z cs:List Value}{v v':Value}{Post:Value->List Item->Prop}(hr:fn.results = #[.tmp t,.tmp u,.cell s T])(hT:tyF P T=some (sz,true,by',z))(hv:look L t=some v)(hv':look L u=some v')(hs':look L s=some (.pointer (some ⟨b,0,none⟩)))(hb:e8 b cs E∈I)(hl:cs.length=sz)
  (J:List Item) (hf:Fit κ I J) (hp:Post (.tuple #[v,v',.agg cs.toArray]) J) (h0:N.ds=[]:=by rfl):V κ N (bodyPost P fn (RetR κ Post)) .ret L I:=
 λa w ha hs=>by
  have hcell:=λj=>cell_blk (w:=w) (hs.ok _ hb).1 j
  have hload:(loadVar T ⟨b,0,none⟩).run P w = .ok (.agg cs.toArray) w:=run_loadVar_agg hT hl λj u hj=>by rw [addr_add,hcell,←hj];simp
  refine bodyPost_ret (v:= .tuple #[v,v',.agg cs.toArray]) ?_ (ha.defers.trans h0) ⟨_,J,rfl,hp,hf w hs⟩
  simp [results,hr,ha.get t _ hv,ha.get u _ hv',ha.get s _ hs',asAddr,hload]
end Go.Sl
