/- A part of the proofs of statements of this seat: contracts of functions, and the plain laws that they lean on. No conditions. -/
import Derived.Test.YtfkcohmipjhfcaaGreatDoorA15
set_option linter.unusedVariables false
set_option linter.unusedSimpArgs false
set_option linter.unusedSectionVars false
namespace Go.Sl
open Go.Proofs
set_option maxRecDepth 4000
variable {κ:Ctx}{I:List Item}
theorem evmod{s x N:Int}(h1:0≤s)(h2:s<N)(h3:0≤x)(h4:x<N - 1):(0≤Int.tmod (s+1+x) N∧Int.tmod (s+1+x) N<N)∧s≠Int.tmod (s+1+x) N:=by
 rw [Int.tmod_eq_emod_of_nonneg om]
 by_cases h:s+1+x<N
 ·rw [Int.emod_eq_of_lt om h];omega
 ·rw [show s+1+x=(s+1+x - N)+N by omega,Int.add_emod_right,Int.emod_eq_of_lt om om];omega
theorem fit_mk{n kd tm u v w lb sg:Int}(hk:1≤kd∧kd≤3)(ht:0≤tm∧tm≤1048576)(hu:0≤u∧u<n)(hn:n≤64)(hv:kd=3→v=0)(hv2:kd≠3→(0≤v∧v<n)∧u≠v)(hr:kd=1→rightW w lb sg)(hz:kd≠1→w=0∧lb=0∧sg=0):FitOk n ⟨kd,tm,u,v,w,lb,sg⟩:=
 ⟨hk,ht,⟨by show 0≤u∧u<64;omega,hv,fun h=>by have:=hv2 h;show (0≤v∧v<64)∧u≠v;omega⟩,hr,by
  show u<n∧v<n
  by_cases h:kd=3
  ·have:=hv h;omega
  ·have:=hv2 h;omega,hz⟩
structure EvOk (n tt:Int) (es:List Ev):Prop where
 fit:∀e∈es,FitOk n e
 tm:∀e∈es,e.tm≤tt
 asc:∀j:Nat,j<es.length→lastT es j≤(at_ es (j:Int)).tm
theorem EvOk.nil{n tt:Int}:EvOk n tt []:=⟨fun e h=>(by cases h),fun e h=>(by cases h),fun j h=>absurd h (Nat.not_lt_zero _)⟩
theorem EvOk.later{n tt ty:Int}{es:List Ev}(h:EvOk n tt es)(ht:tt≤ty):EvOk n ty es:=⟨h.fit,fun e he=>by have:=h.tm e he;omega,h.asc⟩
theorem EvOk.push{n tt:Int}{es:List Ev}{e:Ev}(h:EvOk n tt es)(hf:FitOk n e)(ht:e.tm=tt):EvOk n tt (es++[e]):=by
 refine ⟨fun x hx=>?_,fun x hx=>?_,fun j hj=>?_⟩
 ·rcases List.mem_append.1 hx with hx|hx
  ·exact h.fit x hx
  ·rw [List.mem_singleton.1 hx];exact hf
 ·rcases List.mem_append.1 hx with hx|hx
  ·exact h.tm x hx
  ·rw [List.mem_singleton.1 hx];omega
 ·have hl:lastT (es++[e]) j=lastT es j:=by
   unfold lastT
   split
   ·rfl
   ·rw [List.length_append,List.length_singleton] at hj
    rw [show (j:Int) - 1=((j - 1:Nat):Int) by omega,D7 es [e] (j - 1) om]
  rw [hl]
  by_cases hje:j<es.length
  ·rw [D7 es [e] j hje];exact h.asc j hje
  ·obtain rfl:j=es.length:=by rw [List.length_append,List.length_singleton] at hj;omega
   rw [at_last,ht]
   unfold lastT
   split
   ·rw [←ht];exact hf.tm.1
   ·rw [show (es.length:Int) - 1=((es.length - 1:Nat):Int) by omega];exact h.tm _ (Ck om om)
theorem EvOk.st{n tt:Int}{es:List Ev}(h:EvOk n tt es)(hn:0≤n∧n≤64)(hl:es.length≤65536):StOk n es:=⟨hn,hl,fun j hj=>h.fit _ (Ck om om),h.asc⟩
theorem streamS_ok{nd:Int}{es:List Ev}(hf:∀j:Nat,j<es.length→FitOk nd (at_ es (j:Int)))(ha:∀j:Nat,j<es.length→lastT es j≤(at_ es (j:Int)).tm):∀m k:Nat,k+m=es.length→streamS nd (lastT es k) (es.drop k)=0
 |0,k,h=>streamS_end om
 |m+1,k,h=>by
  rw [streamS_step om (fitE_ok.2 (hf k om)) (by have:=ha k om;omega)]
  exact streamS_ok hf ha m (k+1) om
set_option maxHeartbeats 2000000 in
theorem MkEvent_base{b:Nat}{lv:Value}{ls:List Int}{i:Int}{n t:Int}(hl:∀q,Sl κ (deck b lv q::I) lv ls)(h0:0≤i)(hn:2≤n∧n≤64)(ht:0≤t∧t≤1000000) :
    CallS Tryz.prog κ 77 [.pointer (some ⟨b,0,none⟩),I64 (n),I64 (t)] (blk b [lv,I64 (i)] 125::I) (fun r J=>∃y:Ev×Int,((r = .agg #[I64 y.1.kd,I64 y.1.tm,I64 y.1.u,I64 y.1.v,I64 y.1.w,I64 y.1.lb,I64 y.1.sg]∧FitOk n y.1∧y.1.tm=t)∧0≤y.2)∧J=[]++deck b lv y.2::I):=by
 refine Ce3 Tryz.func77 rfl rfl ?_
 refine Ah (Ge1 (A5 ty108 rfl) fun b1=>Af (Ah (Gm rfl (Gm rfl (Gm rfl (G.e (Am call19 rfl rfl (Next_ok (by repeat (first|exact AtF.head _ _|apply AtF.tail)) (Ch (hl _) A4) om om)) ?_))))))
 rintro _ _ ⟨_,_,⟨x2,i3,rfl,hx2,hi3,rfl⟩,rfl,rfl⟩
 show G Tryz.prog κ _ _ _ _ ([(12,I64 (x2)),(11,I64 (n)),(10,.pointer (some ⟨b,0,none⟩)),(9,I64 (t)),(6,.pointer (some ⟨b1,0,none⟩)),(0,.pointer (some ⟨b,0,none⟩)),(1,I64 (n)),(2,I64 (t))]:Env) (blk b1 [I64 (0),I64 (0),I64 (0),I64 (0),I64 (0),I64 (0),I64 (0)] 108::blk b [lv,I64 (i3)] 125::I)
 refine Gr (Be (cells:=[_,_,_,_,_,_,_]) ty108 Do pl108 rfl rfl) (Ge1 (A5 ty108 rfl) fun b4=>Ge0 (Es7_7 ty108) ?_)
 refine Af (W.cut (σ:=Int×Int) (fun s=>([(0,.pointer (some ⟨b,0,none⟩)),(2,I64 (t)),(6,.pointer (some ⟨b1,0,none⟩)),(7,.pointer (some ⟨b4,0,none⟩))]:Env)) (fun s=>blk b4 [I64 (1),I64 (t),I64 (x2),I64 (s.1),I64 (0),I64 (0),I64 (0)] 108::blk b1 [I64 (0),I64 (0),I64 (0),I64 (0),I64 (0),I64 (0),I64 (0)] 108::blk b [lv,I64 (s.2)] 125::I) (fun s=>((0≤s.1∧s.1<n)∧x2≠s.1)∧(0≤s.2)) ?_ ?_)
 ·refine Bo mixed (Bu (blk b1 [I64 (0),I64 (0),I64 (0),I64 (0),I64 (0),I64 (0),I64 (0)] 108::I) 12 (Dr 0 rfl (Aa fld108_2 rfl) (Dr 3 rfl (Ad rfl) (Dr 4 rfl (Ad rfl) (Dr 5 rfl (Rsu rfl rfl) (Dr 8 rfl (Ad rfl) (De (rs:=[1,6]) kr rfl rfl (Eb ?_ (Du ?_)))))))))
  ·refine Sr rfl (Au ty3) Ay ?_
   refine Dr 2 rfl (Rad rfl rfl) (Ds1 6 (Se rfl (Am call19 rfl rfl (Next_ok (by repeat (first|exact AtF.head _ _|apply AtF.tail)) (Ch (hl _) A4) om om)) ?_))
   rintro _ _ ⟨_,_,⟨x5,i6,rfl,hx5,hi6,rfl⟩,rfl,rfl⟩
   refine ⟨Ay,?_⟩
   show D Tryz.prog κ _ _ _ _ _ _ _ ([(20,I64 (x5)),(16,I64 (x2+1)),(15,I64 (x2)),(22,I64 (n)),(19,I64 (n - 1)),(18,I64 (n)),(17,.pointer (some ⟨b,0,none⟩)),(14,.pointer (some ⟨b4,2,none⟩)),(7,.pointer (some ⟨b4,0,none⟩)),(13,.agg #[I64 (1),I64 (t),I64 (x2),I64 (0),I64 (0),I64 (0),I64 (0)]),(12,I64 (x2)),(11,I64 (n)),(10,.pointer (some ⟨b,0,none⟩)),(9,I64 (t)),(6,.pointer (some ⟨b1,0,none⟩)),(0,.pointer (some ⟨b,0,none⟩)),(1,I64 (n)),(2,I64 (t))]:Env) (blk b4 [I64 (1),I64 (t),I64 (x2),I64 (0),I64 (0),I64 (0),I64 (0)] 108::blk b1 [I64 (0),I64 (0),I64 (0),I64 (0),I64 (0),I64 (0),I64 (0)] 108::blk b [lv,I64 (i6)] 125::I)
   refine Dr 7 rfl (Rad rfl rfl) (Dr 9 rfl (Runs.rem rfl rfl om) (Dr 10 rfl (Aa fld108_3 rfl) (Ds1 11 (Se0 rfl (Dx ty3) ?_))))
   refine Dz ?_
   have htm:=evmod (s:=x2) (x:=x5) (N:=n) om om om om
   exact Ep ((Int.tmod ((x2+1)+x5) n),(i6)) (by dsimp only;exact ⟨htm,om⟩)
  ·refine Se rfl (Am call19 rfl rfl (Next_ok (by repeat (first|exact AtF.head _ _|apply AtF.tail)) (Ch (hl _) A4) om om)) ?_
   rintro _ _ ⟨_,_,⟨x7,i8,rfl,hx7,hi8,rfl⟩,rfl,rfl⟩
   refine ⟨Ay,?_⟩
   show D Tryz.prog κ _ _ _ _ _ _ _ ([(20,I64 (x7)),(22,I64 (n)),(19,I64 (n - 1)),(18,I64 (n)),(17,.pointer (some ⟨b,0,none⟩)),(14,.pointer (some ⟨b4,2,none⟩)),(7,.pointer (some ⟨b4,0,none⟩)),(13,.agg #[I64 (1),I64 (t),I64 (x2),I64 (0),I64 (0),I64 (0),I64 (0)]),(12,I64 (x2)),(11,I64 (n)),(10,.pointer (some ⟨b,0,none⟩)),(9,I64 (t)),(6,.pointer (some ⟨b1,0,none⟩)),(0,.pointer (some ⟨b,0,none⟩)),(1,I64 (n)),(2,I64 (t))]:Env) (blk b4 [I64 (1),I64 (t),I64 (x2),I64 (0),I64 (0),I64 (0),I64 (0)] 108::blk b1 [I64 (0),I64 (0),I64 (0),I64 (0),I64 (0),I64 (0),I64 (0)] 108::blk b [lv,I64 (i8)] 125::I)
   refine Ds1 1 (Sr rfl (Au ty3) Ay ?_)
   refine Dr 2 rfl (Rad rfl rfl) (Dr 7 rfl (Rad rfl rfl) (Dr 9 rfl (Runs.rem rfl rfl om) (Dr 10 rfl (Aa fld108_3 rfl) (Ds1 11 (Se0 rfl (Dx ty3) ?_)))))
   refine Dz ?_
   have htm:=evmod (s:=x2) (x:=x7) (N:=n) om om om om
   exact Ep ((Int.tmod ((x2+1)+x7) n),(i8)) (by dsimp only;exact ⟨htm,om⟩)
 ·rintro ⟨vv,i9⟩ hp
  obtain ⟨hvv,hi9⟩:((0≤vv∧vv<n)∧x2≠vv)∧(0≤i9):=hp
  show W Tryz.prog κ 56 _ _ ([(0,.pointer (some ⟨b,0,none⟩)),(2,I64 (t)),(6,.pointer (some ⟨b1,0,none⟩)),(7,.pointer (some ⟨b4,0,none⟩))]:Env) (blk b4 [I64 (1),I64 (t),I64 (x2),I64 (vv),I64 (0),I64 (0),I64 (0)] 108::blk b1 [I64 (0),I64 (0),I64 (0),I64 (0),I64 (0),I64 (0),I64 (0)] 108::blk b [lv,I64 (i9)] 125::I)
  refine Ao (Ah (Gm rfl (G.e (Am call19 rfl rfl (Next_ok (by repeat (first|exact AtF.head _ _|apply AtF.tail)) (Ch (hl _) A4) om om)) ?_)))
  rintro _ _ ⟨_,_,⟨x9,i10,rfl,hx9,hi10,rfl⟩,rfl,rfl⟩
  show G Tryz.prog κ _ _ _ _ ([(26,I64 (x9)),(25,.pointer (some ⟨b,0,none⟩)),(0,.pointer (some ⟨b,0,none⟩)),(2,I64 (t)),(6,.pointer (some ⟨b1,0,none⟩)),(7,.pointer (some ⟨b4,0,none⟩))]:Env) (blk b4 [I64 (1),I64 (t),I64 (x2),I64 (vv),I64 (0),I64 (0),I64 (0)] 108::blk b1 [I64 (0),I64 (0),I64 (0),I64 (0),I64 (0),I64 (0),I64 (0)] 108::blk b [lv,I64 (i10)] 125::I)
  refine Ga rfl (Af (Ax (Ah (Gm rfl (Gr (Cg rfl rfl) (Ga rfl (Af (A9 rfl (fun c27=>?_) (fun c27=>?_)))))))))
  ·refine Ah (Gm rfl (Gf fld108_2 rfl (Gl ty3 ?_)))
   refine Gr (Be (cells:=[_,_,_,_,_,_,_]) ty108 Do pl108 rfl rfl) (Ge0 (Es7_7 ty108) ?_)
   exact Af (As (S1 6 rfl) (A2 (Ar (Al (Cw rfl ty108 rfl mm rfl (blk b [lv,I64 (i10)] 125::I) Ay ⟨(⟨3,t,x2,0,0,0,0⟩,i10),⟨⟨rfl,fit_mk om om om om (fun h=>by omega) (fun h=>by omega) (fun h=>by unfold rightW;omega) (fun h=>by omega),rfl⟩,by show 0≤i10;omega⟩,rfl⟩)))))
  ·refine Ah (Gm rfl (Gr (Cg rfl rfl) (Ga rfl (Af (A9 rfl (fun c34=>?_) (fun c34=>?_))))))
   ·refine Ah (Gm rfl (Gf fld108_2 rfl (Gl ty3 ?_)))
    refine Gf fld108_3 rfl (Gl ty3 ?_)
    refine Gr (Be (cells:=[_,_,_,_,_,_,_]) ty108 Do pl108 rfl rfl) (Ge0 (Es7_7 ty108) ?_)
    exact Af (As (S1 6 rfl) (A2 (Ar (Al (Cw rfl ty108 rfl mm rfl (blk b [lv,I64 (i10)] 125::I) Ay ⟨(⟨2,t,x2,vv,0,0,0⟩,i10),⟨⟨rfl,fit_mk om om om om (fun h=>by omega) (fun h=>by omega) (fun h=>by unfold rightW;omega) (fun h=>by omega),rfl⟩,by show 0≤i10;omega⟩,rfl⟩)))))
   ·refine A0 (Aj (Ai (Ah (Gm rfl (G.e (Am call19 rfl rfl (Next_ok (by repeat (first|exact AtF.head _ _|apply AtF.tail)) (Ch (hl _) A4) om om)) ?_)))))
    rintro _ _ ⟨_,_,⟨x11,i12,rfl,hx11,hi12,rfl⟩,rfl,rfl⟩
    show G Tryz.prog κ _ _ _ _ ([(44,I64 (x11)),(43,.pointer (some ⟨b,0,none⟩)),(34,.bool (decide (5≤x9))),(36,.bool (decide (5≤x9))),(35,I64 (x9)),(27,.bool (decide (8≤x9))),(29,.bool (decide (8≤x9))),(28,I64 (x9)),(8,I64 (x9)),(26,I64 (x9)),(25,.pointer (some ⟨b,0,none⟩)),(0,.pointer (some ⟨b,0,none⟩)),(2,I64 (t)),(6,.pointer (some ⟨b1,0,none⟩)),(7,.pointer (some ⟨b4,0,none⟩))]:Env) (blk b4 [I64 (1),I64 (t),I64 (x2),I64 (vv),I64 (0),I64 (0),I64 (0)] 108::blk b1 [I64 (0),I64 (0),I64 (0),I64 (0),I64 (0),I64 (0),I64 (0)] 108::blk b [lv,I64 (i12)] 125::I)
    refine Gr (Rad rfl rfl) (Gm rfl (G.e (Am call19 rfl rfl (Next_ok (by repeat (first|exact AtF.head _ _|apply AtF.tail)) (Ch (hl _) A4) om om)) ?_))
    rintro _ _ ⟨_,_,⟨x13,i14,rfl,hx13,hi14,rfl⟩,rfl,rfl⟩
    show G Tryz.prog κ _ _ _ _ ([(47,I64 (x13)),(46,.pointer (some ⟨b,0,none⟩)),(45,I64 (1+x11)),(44,I64 (x11)),(43,.pointer (some ⟨b,0,none⟩)),(34,.bool (decide (5≤x9))),(36,.bool (decide (5≤x9))),(35,I64 (x9)),(27,.bool (decide (8≤x9))),(29,.bool (decide (8≤x9))),(28,I64 (x9)),(8,I64 (x9)),(26,I64 (x9)),(25,.pointer (some ⟨b,0,none⟩)),(0,.pointer (some ⟨b,0,none⟩)),(2,I64 (t)),(6,.pointer (some ⟨b1,0,none⟩)),(7,.pointer (some ⟨b4,0,none⟩))]:Env) (blk b4 [I64 (1),I64 (t),I64 (x2),I64 (vv),I64 (0),I64 (0),I64 (0)] 108::blk b1 [I64 (0),I64 (0),I64 (0),I64 (0),I64 (0),I64 (0),I64 (0)] 108::blk b [lv,I64 (i14)] 125::I)
    refine Gm rfl (G.e (Am call19 rfl rfl (Next_ok (by repeat (first|exact AtF.head _ _|apply AtF.tail)) (Ch (hl _) A4) om om)) ?_)
    rintro _ _ ⟨_,_,⟨x15,i16,rfl,hx15,hi16,rfl⟩,rfl,rfl⟩
    show G Tryz.prog κ _ _ _ _ ([(49,I64 (x15)),(48,.pointer (some ⟨b,0,none⟩)),(47,I64 (x13)),(46,.pointer (some ⟨b,0,none⟩)),(45,I64 (1+x11)),(44,I64 (x11)),(43,.pointer (some ⟨b,0,none⟩)),(34,.bool (decide (5≤x9))),(36,.bool (decide (5≤x9))),(35,I64 (x9)),(27,.bool (decide (8≤x9))),(29,.bool (decide (8≤x9))),(28,I64 (x9)),(8,I64 (x9)),(26,I64 (x9)),(25,.pointer (some ⟨b,0,none⟩)),(0,.pointer (some ⟨b,0,none⟩)),(2,I64 (t)),(6,.pointer (some ⟨b1,0,none⟩)),(7,.pointer (some ⟨b4,0,none⟩))]:Env) (blk b4 [I64 (1),I64 (t),I64 (x2),I64 (vv),I64 (0),I64 (0),I64 (0)] 108::blk b1 [I64 (0),I64 (0),I64 (0),I64 (0),I64 (0),I64 (0),I64 (0)] 108::blk b [lv,I64 (i16)] 125::I)
    refine Gr (E7 rfl rfl (by unfold InR;omega)) (Gr (Rsu rfl rfl) (Gf fld108_4 rfl (Ge0 (Dx ty3) ?_)))
    refine Gf fld108_5 rfl (Ge0 (Dx ty3) ?_)
    refine Gf fld108_6 rfl (Ge0 (Dx ty3) ?_)
    refine Af (As (S2 6 7 rfl rfl) (Ah (Gl7 ty108 ?_)))
    refine Ge0 (Es7_7 ty108) ?_
    exact Af (A2 (Cw rfl ty108 rfl mm rfl (blk b [lv,I64 (i16)] 125::I) Ay ⟨(⟨1,t,x2,vv,1+x11,x13,1 - (2*x15)⟩,i16),⟨⟨rfl,fit_mk om om om om (fun h=>by omega) (fun h=>by omega) (fun h=>by unfold rightW;omega) (fun h=>by omega),rfl⟩,by show 0≤i16;omega⟩,rfl⟩))
theorem MkEvent_at{F:Item→List Item}{b:Nat}{lv:Value}{ls:List Int}{i:Int}{n t:Int}(hat:AtF I (deck b lv i) F)(hl:∀q,Sl κ (F (deck b lv q)) lv ls)(h0:0≤i)(hn:2≤n∧n≤64)(ht:0≤t∧t≤1000000) :
  CallS Tryz.prog κ 77 [.pointer (some ⟨b,0,none⟩),I64 (n),I64 (t)] I fun r J=>∃y:Ev×Int,((r = .agg #[I64 y.1.kd,I64 y.1.tm,I64 y.1.u,I64 y.1.v,I64 y.1.w,I64 y.1.lb,I64 y.1.sg]∧FitOk n y.1∧y.1.tm=t)∧0≤y.2)∧J=[]++F (deck b lv y.2):=
 Dy (Post:=fun r (y:Ev×Int)=>(r = .agg #[I64 y.1.kd,I64 y.1.tm,I64 y.1.u,I64 y.1.v,I64 y.1.w,I64 y.1.lb,I64 y.1.sg]∧FitOk n y.1∧y.1.tm=t)∧0≤y.2) (Z:=fun y:Ev×Int=>[]) (X:=fun y:Ev×Int=>deck b lv y.2) hat fun J _ hF=>MkEvent_base (fun q=>(hl q).fit (hF _)) h0  hn ht
set_option maxHeartbeats 2000000 in
theorem MkEvents_base{b:Nat}{lv:Value}{ls:List Int}{i:Int}{n most:Int}(hl:∀q,Sl κ (deck b lv q::I) lv ls)(h0:0≤i)(hn:2≤n∧n≤64)(hm:0≤most∧most≤20) :
    CallS Tryz.prog κ 20 [.pointer (some ⟨b,0,none⟩),I64 (n),I64 (most)] (blk b [lv,I64 (i)] 125::I) (fun r J=>∃y:(Option Addr)×Nat×(List Ev)×Int,((r = .slice y.1 y.2.2.1.length y.2.1∧(EvOk n 500 y.2.2.1∧(y.2.2.1.length:Int)≤most))∧0≤y.2.2.2)∧J=[vc 108 (.slice y.1 y.2.2.1.length y.2.1) y.2.2.1]++deck b lv y.2.2.2::I):=by
 refine Ce3 Tryz.func20 rfl rfl ?_
 refine Ah (Ga rfl (Af (Ah (Ga rfl (Af (Ah (Gm rfl (G.e (Am call19 rfl rfl (Next_ok (by repeat (first|exact AtF.head _ _|apply AtF.tail)) (Ch (hl _) A4) om om)) ?_))))))))
 rintro _ _ ⟨_,_,⟨x1,i2,rfl,hx1,hi2,rfl⟩,rfl,rfl⟩
 show G Tryz.prog κ _ _ _ _ ([(11,I64 (x1)),(10,.pointer (some ⟨b,0,none⟩)),(7,.slice none 0 0),(6,.slice none 0 0),(0,.pointer (some ⟨b,0,none⟩)),(1,I64 (n)),(2,I64 (most))]:Env) (blk b [lv,I64 (i2)] 125::I)
 refine Ga rfl (Af (Ao (Ah (Gm rfl (Gm rfl (Gr (Rad rfl rfl) (G.e (Am call19 rfl rfl (Next_ok (by repeat (first|exact AtF.head _ _|apply AtF.tail)) (Ch (hl _) A4) om om)) ?_)))))))
 rintro _ _ ⟨_,_,⟨x3,i4,rfl,hx3,hi4,rfl⟩,rfl,rfl⟩
 show G Tryz.prog κ _ _ _ _ ([(15,I64 (x3)),(14,I64 (most+1)),(13,I64 (most)),(12,.pointer (some ⟨b,0,none⟩)),(8,I64 (x1)),(11,I64 (x1)),(10,.pointer (some ⟨b,0,none⟩)),(7,.slice none 0 0),(6,.slice none 0 0),(0,.pointer (some ⟨b,0,none⟩)),(1,I64 (n)),(2,I64 (most))]:Env) (blk b [lv,I64 (i4)] 125::I)
 refine Ga rfl (Af (Ax (Bx (σ:=Int×Int×(Option Addr)×Nat×(List Ev)×Int) (fun s=>([(0,.pointer (some ⟨b,0,none⟩)),(1,I64 (n)),(7,.slice s.2.2.1 s.2.2.2.2.1.length s.2.2.2.1),(8,I64 (s.2.2.2.2.2)),(9,I64 (s.1))]:Env)) (fun s=>vc 108 (.slice s.2.2.1 s.2.2.2.2.1.length s.2.2.2.1) (s.2.2.2.2.1)::blk b [lv,I64 (s.2.1)] 125::I) (fun s=>(0≤s.1∧(s.2.2.2.2.1.length:Int)+s.1≤most)∧(0≤s.2.1)∧(EvOk n s.2.2.2.2.2 s.2.2.2.2.1)∧(0≤s.2.2.2.2.2∧s.2.2.2.2.2≤3+3*(s.2.2.2.2.1.length:Int))) (fun s=>s.1.toNat) (x3,i4,none,0,[],x1) (show (0≤(x3:Int)∧(([]:List Ev).length:Int)+(x3:Int)≤most)∧(0≤(i4:Int))∧(EvOk n (x1:Int) ([]:List Ev))∧(0≤(x1:Int)∧(x1:Int)≤3+3*(([]:List Ev).length:Int)) from ⟨(by simp only [List.length_nil];omega),om,EvOk.nil,(by simp only [List.length_nil];omega)⟩) (Ac rfl (Ac rfl (Ac (Cz rfl (by first|rfl|simp)) (Ac Cb (Ac Cb Bq))))) (show Fit κ _ (vc 108 (.slice (none) ([]).length (0)) (([]))::blk b [lv,I64 ((i4))] 125::I) from (B3 _ _)) ?_)))
 rintro ⟨kq,iqa,a1,c1,out,tt⟩ hp
 dsimp only at hp ⊢
 obtain ⟨hkq,hiqa,hE,htt⟩:=hp
 refine Ao (Ah (Gm rfl (Gr (B5 rfl rfl) (Gm rfl (Bi (d:=18) rfl (fun g18=>?_) (fun g18=>?_))))))
 ·refine Gro (Ad rfl) (Gro (B5 rfl rfl) (Gr (Ap rfl rfl) (Af (A9 rfl (fun c21=>?_) (fun c21=>?_)))))
  ·refine A0 (Ai (Ao (Ax (Ah (Gm rfl (Gm rfl (Gm rfl (Gm rfl (G.e (Am call77 rfl rfl (MkEvent_at (by repeat (first|exact AtF.head _ _|apply AtF.tail)) (fun _=>Ch (hl _) A4) om  om om)) ?_)))))))))
   rintro _ _ ⟨_,_,⟨⟨ev5,i6⟩,⟨⟨rfl,hfev5,htev5⟩,hi6⟩,rfl⟩,rfl,rfl⟩
   show G Tryz.prog κ _ _ _ _ ([(28,.agg #[I64 (ev5.kd),I64 (ev5.tm),I64 (ev5.u),I64 (ev5.v),I64 (ev5.w),I64 (ev5.lb),I64 (ev5.sg)]),(27,I64 (tt)),(26,I64 (n)),(25,.pointer (some ⟨b,0,none⟩)),(24,.slice a1 out.length c1),(21,.bool (decide (1<n))),(20,.bool (decide (1<n))),(19,I64 (n)),(18,.bool true),(18,.bool (decide (0<kq))),(17,.bool (decide (0<kq))),(16,I64 (kq)),(0,.pointer (some ⟨b,0,none⟩)),(1,I64 (n)),(7,.slice a1 out.length c1),(8,I64 (tt)),(9,I64 (kq))]:Env) (vc 108 (.slice a1 out.length c1) (out)::blk b [lv,I64 (i6)] 125::I)
   have hi6:0≤i6:=hi6
   dsimp only at hfev5
   dsimp only at htev5
   refine Ge1 (B9 (α:=Ev) (cs:=[I64 (ev5.kd),I64 (ev5.tm),I64 (ev5.u),I64 (ev5.v),I64 (ev5.w),I64 (ev5.lb),I64 (ev5.sg)]) (xs:=[⟨ev5.kd,ev5.tm,ev5.u,ev5.v,ev5.w,ev5.lb,ev5.sg⟩]) Ba ty108 rfl rfl dc dc rfl kr rfl rfl) fun ad7=>?_
   refine Ge2 (Ca (α:=Ev) (e:=108) (xs:=out) (ys:=([⟨ev5.kd,ev5.tm,ev5.u,ev5.v,ev5.w,ev5.lb,ev5.sg⟩]:List Ev)) Ba ty108 rfl rfl rfl mm Br lcn dc rfl (fun _ _=>am)) fun ad8 cp9=>?_
   refine Ga rfl (Af (As (S5 7 0 1 8 9 rfl rfl rfl rfl rfl) (Aw (Gm rfl (Gm rfl (G.e (Am call19 rfl rfl (Next_ok (by repeat (first|exact AtF.head _ _|apply AtF.tail)) (Ch (hl _) A4) om om)) ?_))))))
   rintro _ _ ⟨_,_,⟨x10,i11,rfl,hx10,hi11,rfl⟩,rfl,rfl⟩
   show G Tryz.prog κ _ _ _ _ ([(33,I64 (x10)),(32,.pointer (some ⟨b,0,none⟩)),(31,I64 (tt)),(7,.slice ad8 (out++([⟨ev5.kd,ev5.tm,ev5.u,ev5.v,ev5.w,ev5.lb,ev5.sg⟩]:List Ev)).length cp9),(0,.pointer (some ⟨b,0,none⟩)),(1,I64 (n)),(8,I64 (tt)),(9,I64 (kq))]:Env) (vc 108 (.slice ad7 1 1) (([⟨ev5.kd,ev5.tm,ev5.u,ev5.v,ev5.w,ev5.lb,ev5.sg⟩]:List Ev))::vc 108 (.slice ad8 (out++([⟨ev5.kd,ev5.tm,ev5.u,ev5.v,ev5.w,ev5.lb,ev5.sg⟩]:List Ev)).length cp9) (out++([⟨ev5.kd,ev5.tm,ev5.u,ev5.v,ev5.w,ev5.lb,ev5.sg⟩]:List Ev))::blk b [lv,I64 (i11)] 125::I)
   exact Gr (Rad rfl rfl) (Ga rfl (Bj (Aj (Ai (Aw (Gm rfl (Gr (Rsu rfl rfl) (Ga rfl (Bj (B6 ((kq - 1),(i11),(ad8),(cp9),(out++([⟨ev5.kd,ev5.tm,ev5.u,ev5.v,ev5.w,ev5.lb,ev5.sg⟩]:List Ev)),(tt+x10)) (by dsimp only;exact ⟨lap,om,(EvOk.later (by first|exact hE.push asm asm|exact EvOk.push hE asm asm) om),lap⟩)))))))))))
  ·exact absurd hn.1 om
 ·exact Gpo (Gpo (Gr (Av rfl rfl) (Af (Cx rfl (Bt (Ak (Ak (A6 (Ai (Ah (Gm rfl (Ga rfl (Af (As (S1 6 rfl) (A2 (A7 rfl rfl (vc 108 (.slice a1 out.length c1) (out)::blk b [lv,I64 (iqa)] 125::I) Ay ⟨(a1,c1,out,iqa),⟨⟨rfl,⟨hE.later om,by show (out.length:Int)≤most;omega⟩⟩,by show 0≤iqa;omega⟩,rfl⟩))))))))))))))))
theorem MkEvents_at{F:Item→List Item}{b:Nat}{lv:Value}{ls:List Int}{i:Int}{n most:Int}(hat:AtF I (deck b lv i) F)(hl:∀q,Sl κ (F (deck b lv q)) lv ls)(h0:0≤i)(hn:2≤n∧n≤64)(hm:0≤most∧most≤20) :
  CallS Tryz.prog κ 20 [.pointer (some ⟨b,0,none⟩),I64 (n),I64 (most)] I fun r J=>∃y:(Option Addr)×Nat×(List Ev)×Int,((r = .slice y.1 y.2.2.1.length y.2.1∧(EvOk n 500 y.2.2.1∧(y.2.2.1.length:Int)≤most))∧0≤y.2.2.2)∧J=[vc 108 (.slice y.1 y.2.2.1.length y.2.1) y.2.2.1]++F (deck b lv y.2.2.2):=
 Dy (Post:=fun r (y:(Option Addr)×Nat×(List Ev)×Int)=>(r = .slice y.1 y.2.2.1.length y.2.1∧(EvOk n 500 y.2.2.1∧(y.2.2.1.length:Int)≤most))∧0≤y.2.2.2) (Z:=fun y:(Option Addr)×Nat×(List Ev)×Int=>[vc 108 (.slice y.1 y.2.2.1.length y.2.1) y.2.2.1]) (X:=fun y:(Option Addr)×Nat×(List Ev)×Int=>deck b lv y.2.2.2) hat fun J _ hF=>MkEvents_base (fun q=>(hl q).fit (hF _)) h0  hn hm
variable {κ:Ctx}{I:List Item}
theorem slideE_zeroH{nd kd wd mo:Int}{es:List Ev}(h:HistOk nd kd wd mo es):slideE nd kd wd mo es=0:=by
 unfold slideE
 rw [if_neg (by simp [h.win])]
 have h1:=h.st.nodes
 have h2:=h.st.len
 unfold streamE
 rw [if_neg om,if_neg om]
 exact streamS_ok h.st.fit h.st.asc es.length 0 om
theorem Slide_hist{nd kd wd mo:Int}{va:Value}{es:List Ev}(hl:Sl κ I va es)(h:HistOk nd kd wd mo es) :
  CallS Tryz.prog κ 140 [I64 nd,va,.agg #[I64 kd,I64 wd,I64 mo]] I fun r J=>∃a c,r = .tuple #[.slice a (slideS kd wd mo es).2.length c,I64 0]∧J=vc 108 (.slice a (slideS kd wd mo es).2.length c) (slideS kd wd mo es).2::I:=
 (Slide_ok hl).mono fun r J hh=>by
  rcases hh with ⟨h1,_⟩|⟨a,c,_,h2,h3⟩
  ·exact absurd (slideE_zeroH h) h1
  ·exact ⟨a,c,h2,h3⟩
theorem Fit.one{κ:Ctx}{x:Item}{I:List Item}:Fit κ (x::I) [x]:=Fit.of_sublist (List.Sublist.cons_cons _ (List.nil_sublist _))
theorem Fit.mid{κ:Ctx}{A L T:List Item}:Fit κ (A++(L++T)) (A++T):=Fit.of_sublist (List.Sublist.append (List.Sublist.refl _) (List.sublist_append_right _ _))
theorem at_zero_drop{α:Type}[Inhabited α](xs:List α)(l:Nat):at_ (xs.drop l) 0=at_ xs (l:Int):=by
 rw [at_drop xs l 0 (Int.le_refl _),Int.add_zero]
theorem links_len{nd:Int}{X:List Lk}(h:checkS nd X=0):X.length≤2016:=by
 have:=edges_le (edgesK_ok h)
 rwa [edgesK_len] at this
structure MomentX (E:List Ev) (fst:Bool) (j:Nat) (t:Int) (own:Bool) (j':Nat):Prop extends Moment E fst j t own j' where
 adv:fst=false→j<j'
set_option maxHeartbeats 4000000 in
theorem Frames1_ok{l bq1 bq2 bq3:Nat}{nd kd wd mo:Int}{ea:Option Addr}{ec:Nat}{es:List Ev}{σ τ:Type}{Lf:σ→List Item}{Pf:Bool→Nat→σ→Prop}{Xf:τ→List Item}{Qf:τ→Prop}{s0:σ}(hH:HistOk nd kd wd mo es)(hlen:es.length≤19)(h1:BlkRd κ I bq1 [I64 nd] 3)(h2:BlkRd κ I bq2 [.slice ea es.length ec] 28)(h3:BlkRd κ I bq3 [I64 kd,I64 wd,I64 mo] 31)(hx:Sl κ I (.slice ea es.length ec) es)(hp0:Pf true 0 s0) (hy:∀T:List Item,Fit κ T I→∀(fst:Bool) (j:Nat) (t:Int) (own:Bool) (j':Nat) (a:Option Addr) (c:Nat),MomentX (allE kd wd mo es) fst j t own j'→∀s,Pf fst j s→
      YieldB Tryz.prog κ l [.agg #[I64 t,.bool own],.agg #[I64 nd,.slice a (edgesK (linksL ((allE kd wd mo es).take j'))).length c]] (Lf s++(vc 135 (.slice a (edgesK (linksL ((allE kd wd mo es).take j'))).length c) (edgesK (linksL ((allE kd wd mo es).take j')))::T)) fun b J=>(b=true∧∃s',Pf false j' s'∧J=Lf s'++T)∨(b=false∧∃q,Qf q∧J=Xf q++T)) :
    CallS Tryz.prog κ 165 [(.func (.yield l) #[] #[]),.pointer (some ⟨bq1,0,none⟩),.pointer (some ⟨bq2,0,none⟩),.pointer (some ⟨bq3,0,none⟩)] (Lf s0++I) (fun r J=>r = .tuple #[]∧((∃s,Pf false (allE kd wd mo es).length s∧J=Lf s++I)∨∃q,Qf q∧J=Xf q++I)):=by
 obtain ⟨EE,hEEd⟩:∃EE,allE kd wd mo es=EE:=⟨_,rfl⟩
 rw [hEEd] at hy ⊢
 have hfE:∀e∈EE,FitOk nd e:=by rw [←hEEd];exact hH.allFit
 refine B4 (hx.fit (Fit.appR _ _)).le fun hmax=>?_
 refine Ce4 Tryz.func165 rfl rfl ?_
 refine Ah (Gr (Da ty3 rfl (C2 h1 A4) rfl) (Gr (Da ty28 rfl (C2 h2 A4) rfl) (Gr (Runs.loadBs (vs:=[_,_,_]) ty31 rfl (C2 h3 A4) rfl rfl) ?_)))
 refine G.e (Am call140 rfl rfl (Slide_hist (nd:=nd) (kd:=kd) (wd:=wd) (mo:=mo) (es:=es) (Bf hx) hH)) ?_
 rintro _ _ ⟨_,_,⟨ad1,cp2,rfl,rfl⟩,rfl,rfl⟩
 refine Gm rfl (Gr (Az rfl rfl) (Gr (Az rfl rfl) (Ga rfl (Ga rfl ?_))))
 generalize hSE:(slideS kd wd mo es).2=SE
 have hfS:∀e∈SE,FitOk nd e:=by rw [←hSE];exact hH.fit
 have hSl:SE.length≤38:=by rw [←hSE];have:=hH.len2;omega
 have hlS:(linksL SE).length≤19:=by rw [←hSE];have:=hH.len;omega
 refine Af (Ah (Gr (Da ty3 rfl (C2 h1 A4) rfl) (Gr (Be (cells:=[_,_]) ty111 Tryz.underlying111 pl111 rfl rfl) (Ge1 (A5 ty111 rfl) fun b3=>Ge0 (B1 ty111) ?_))))
 refine G.fit (J:=vc 146 (.slice none 0 0) (([]:List Lk))::blk b3 [I64 (nd),.slice none 0 0] 111::vc 108 (.slice ad1 (SE).length cp2) (SE)::(Lf s0++I)) (B3 (α:=Lk) _ _) ?_
 refine Af (As (S5 7 5 0 1 3 rfl rfl rfl rfl rfl) (Ao (Ah (Gm rfl (Gr (Bw Ba rfl) (Gm rfl (Af (Ax (Bx (σ:=Nat×(Option Addr)×Nat) (fun s=>([(0,(.func (.yield l) #[] #[])),(1,.pointer (some ⟨bq1,0,none⟩)),(3,.pointer (some ⟨bq3,0,none⟩)),(5,.slice ad1 (SE).length cp2),(7,.pointer (some ⟨b3,0,none⟩)),(22,.slice ad1 (SE).length cp2),(23,I64 ((((SE).length:Nat):Int))),(24,I64 (((s.1:Nat):Int)))]:Env)) (fun s=>vc 146 (.slice s.2.1 (linksL (SE.take s.1)).length s.2.2) (linksL (SE.take s.1))::blk b3 [I64 (nd),.slice s.2.1 (linksL (SE.take s.1)).length s.2.2] 111::vc 108 (.slice ad1 (SE).length cp2) (SE)::(Lf s0++I)) (fun s=>(s.1≤SE.length)) (fun s=>SE.length - s.1) (0,none,0) (show ((0:Nat)≤SE.length) from om) (Ac rfl (Ac rfl (Ac rfl (Ac rfl (Ac rfl (Ac rfl (Ac rfl (Ac Cb Bq)))))))) (show Fit κ _ (vc 146 (.slice (none) (linksL (SE.take (0))).length (0)) (linksL (SE.take (0)))::blk b3 [I64 (nd),.slice (none) (linksL (SE.take (0))).length (0)] 111::vc 108 (.slice ad1 (SE).length cp2) (SE)::(Lf s0++I)) from B7) ?_)))))))))
 rintro ⟨k,a,c⟩ hp
 dsimp only at hp ⊢
 have hk:=hp
 have hvX:=links_val hH.st.nodes hfS k
 have hlX:=links_len hvX
 refine Ah (Gr (Bc rfl rfl) (Af (Ao (A9 rfl (fun c25=>?_) (fun c25=>?_)))))
 ·refine A0 (Ai (Ao (Ax (Ah (Gr (A8 (α:=Ev) (xs:=SE) Ba ty108 rfl rfl Br om om) (Gr (B0 (α:=Ev) (xs:=SE) ty108 rfl Br om om) (Ge1 (A5 ty108 rfl) fun b4=>Ge0 (Es7_7 ty108) ?_)))))))
  refine Af (Aw (Gl2 ty111 ?_))
  refine Gl7 ty108 ?_
  refine G.e (Am call141 rfl rfl (Cn (J:=vc 146 (.slice a (linksL (SE.take k)).length c) (linksL (SE.take k))::blk b4 [I64 ((at_ SE (k:Int)).kd),I64 ((at_ SE (k:Int)).tm),I64 ((at_ SE (k:Int)).u),I64 ((at_ SE (k:Int)).v),I64 ((at_ SE (k:Int)).w),I64 ((at_ SE (k:Int)).lb),I64 ((at_ SE (k:Int)).sg)] 108::blk b3 [I64 (nd),.slice a (linksL (SE.take k)).length c] 111::vc 108 (.slice ad1 (SE).length cp2) (SE)::(Lf s0++I)) B7 (ApplyP_ok (nd:=nd) (e:=(at_ SE (k:Int))) (xs:=linksL (SE.take k)) asm (by first|exact hfS _ (Ck om om)|(rw [hd0];exact hfE _ (Ck om om))) om))) ?_
  rintro _ _ ⟨_,_,⟨ad5,cp6,wv7,rfl,rfl⟩,rfl,rfl⟩
  refine Gm rfl (Gr (Az rfl rfl) (Gr (Az rfl rfl) (Gr (Az rfl rfl) (Ge0 (B1 ty111) ?_))))
  exact Bj (Aj (Ai (As (S8 0 1 3 5 7 22 23 24 rfl rfl rfl rfl rfl rfl rfl rfl) (Aw (Gr (Rad rfl rfl) (Gm rfl (Bj (B6 ((k+1),(ad5),(cp6)) (by dsimp only;exact om) (hI:=by (try dsimp only);exact (by rw [linksL_take om];exact B7))))))))))
 ·refine Bt (Ak (Ak (A6 (Ai (Ah (Gm rfl (Gl2 ty111 ?_)))))))
  refine Gr (Runs.loadBs (vs:=[_,_,_]) ty31 rfl (C2 h3 A4) rfl rfl) ?_
  refine G.e (Am call166 rfl rfl (Late_ok (nd:=nd) (kd:=kd) (wd:=wd) (mo:=mo) Br asm (checkW_wd hH.win) (by rw [show k=SE.length by omega,List.take_length];exact hlS))) ?_
  rintro _ _ ⟨_,_,⟨ad8,cp9,rfl,rfl⟩,rfl,rfl⟩
  refine Ge2 (Ca (α:=Ev) (e:=108) (xs:=SE) (ys:=isortG evC (lateL kd wd (linksL (SE.take k)))) Ba ty108 rfl rfl rfl mm Br (by first|omega|(have hq1:=(isort_permG evC (lateL kd wd (linksL (SE.take k)))).length_eq;have hq2:=lateL_len kd wd (linksL (SE.take k));omega)) dc rfl (fun _ _=>am)) fun ad10 cp11=>?_
  refine Ga rfl ?_
  have hEE:SE++(isortG evC (lateL kd wd (linksL (SE.take k))))=EE:=by rw [←hEEd,show k=SE.length by omega,List.take_length];unfold allE;rw [hSE]
  rw [hEE]
  refine G.fit (J:=vc 146 (.slice a (linksL (SE.take k)).length c) (linksL (SE.take k))::blk b3 [I64 (nd),.slice a (linksL (SE.take k)).length c] 111::vc 108 (.slice ad10 EE.length cp11) (EE)::(Lf s0++I)) B7 ?_
  have hev0:Sl κ [vc 108 (.slice ad10 EE.length cp11) EE] (.slice ad10 (List.drop 0 EE).length cp11) (List.drop 0 EE):=Sl.vec List.mem_cons_self
  refine Af (As (S4 5 0 1 7 rfl rfl rfl rfl) (Ah (Gr (Da ty3 rfl (C2 h1 A4) rfl) (Gr (Be (cells:=[_,_]) ty111 Tryz.underlying111 pl111 rfl rfl) (Ge0 (B1 ty111) ?_)))))
  refine Af (Ah (Gr (Be (cells:=[_,_]) ty153 Tryz.underlying153 pl153 rfl rfl) (Ge1 (A5 ty153 rfl) fun b12=>Ge0 (B1 ty153) ?_)))
  refine Af (Ax (Bx (σ:=Nat×Bool×Nat×Int×(Option Addr)×Nat×(Option Addr)×Nat×σ) (fun s=>([(0,(.func (.yield l) #[] #[])),(5,.slice s.2.2.2.2.1 (List.drop s.1 EE).length s.2.2.2.2.2.1),(7,.pointer (some ⟨b3,0,none⟩)),(10,.pointer (some ⟨s.2.2.1,0,none⟩))]:Env)) (fun s=>blk s.2.2.1 [I64 (s.2.2.2.1),.bool false] 153::vc 146 (.slice s.2.2.2.2.2.2.1 (linksL (EE.take s.1)).length s.2.2.2.2.2.2.2.1) (linksL (EE.take s.1))::blk b3 [I64 (nd),.slice s.2.2.2.2.2.2.1 (linksL (EE.take s.1)).length s.2.2.2.2.2.2.2.1] 111::vc 108 (.slice ad10 EE.length cp11) (EE)::(Lf s.2.2.2.2.2.2.2.2++I)) (fun s=>(s.1≤EE.length)∧(s.2.1=true→s.2.2.2.1=0∧s.1=0)∧(s.2.1=false→s.1<EE.length∧s.2.2.2.1=(at_ EE ((s.1:Nat):Int)).tm)∧(Pf s.2.1 s.1 s.2.2.2.2.2.2.2.2)∧(Sl κ [vc 108 (.slice ad10 EE.length cp11) EE] (.slice s.2.2.2.2.1 (List.drop s.1 EE).length s.2.2.2.2.2.1) (List.drop s.1 EE))) (fun s=>2*(EE.length - s.1)+s.2.1.toNat) (0,true,b12,0,ad10,cp11,none,0,s0) (show ((0:Nat)≤EE.length)∧((true:Bool)=true→(0:Int)=0∧(0:Nat)=0)∧((true:Bool)=false→(0:Nat)<EE.length∧(0:Int)=(at_ EE (((0:Nat):Nat):Int)).tm)∧(Pf (true:Bool) (0:Nat) (s0:σ))∧(Sl κ [vc 108 (.slice ad10 EE.length cp11) EE] (.slice (ad10:Option Addr) (List.drop (0:Nat) EE).length (cp11:Nat)) (List.drop (0:Nat) EE)) from ⟨om,(fun _=>⟨rfl,rfl⟩),(fun h=>by cases h),hp0,hev0⟩) (Ac rfl (Ac (Cz rfl (by first|rfl|simp)) (Ac rfl (Ac (Cz rfl (by first|rfl|simp)) Bq)))) (show Fit κ _ (blk (b12) [I64 ((0)),.bool false] 153::vc 146 (.slice (none) (linksL (EE.take (0))).length (0)) (linksL (EE.take (0)))::blk b3 [I64 (nd),.slice (none) (linksL (EE.take (0))).length (0)] 111::vc 108 (.slice ad10 EE.length cp11) (EE)::(Lf (s0)++I)) from (Cm (B3 (α:=Lk) _ _) B7)) ?_))
  rintro ⟨j,fst,tb,tt,e1,d1,a,c,st_⟩ hp
  dsimp only at hp ⊢
  obtain ⟨hj,hfst,hnx,hps,hev⟩:=hp
  have hft:(fst=true∧fst.toNat=1)∨(fst=false∧fst.toNat=0):=by cases fst<;>simp
  refine Ao (Ax (W.cut (σ:=Nat×Bool×(Option Addr)×Nat×(Option Addr)×Nat) (fun s=>([(0,(.func (.yield l) #[] #[])),(5,.slice s.2.2.1 (List.drop s.1 EE).length s.2.2.2.1),(7,.pointer (some ⟨b3,0,none⟩)),(10,.pointer (some ⟨tb,0,none⟩))]:Env)) (fun s=>blk tb [I64 (tt),.bool (s.2.1)] 153::vc 146 (.slice s.2.2.2.2.1 (linksL (EE.take s.1)).length s.2.2.2.2.2) (linksL (EE.take s.1))::blk b3 [I64 (nd),.slice s.2.2.2.2.1 (linksL (EE.take s.1)).length s.2.2.2.2.2] 111::vc 108 (.slice ad10 EE.length cp11) (EE)::(Lf st_++I)) (fun s=>(MomentX EE fst j tt s.2.1 s.1)∧(Sl κ [vc 108 (.slice ad10 EE.length cp11) EE] (.slice s.2.2.1 (List.drop s.1 EE).length s.2.2.2.1) (List.drop s.1 EE))) ?_ ?_))
  ·refine Ax (Bx (σ:=Nat×Bool×(Option Addr)×Nat×(Option Addr)×Nat) (fun s=>([(0,(.func (.yield l) #[] #[])),(5,.slice s.2.2.1 (List.drop s.1 EE).length s.2.2.2.1),(7,.pointer (some ⟨b3,0,none⟩)),(10,.pointer (some ⟨tb,0,none⟩))]:Env)) (fun s=>blk tb [I64 (tt),.bool (s.2.1)] 153::vc 146 (.slice s.2.2.2.2.1 (linksL (EE.take s.1)).length s.2.2.2.2.2) (linksL (EE.take s.1))::blk b3 [I64 (nd),.slice s.2.2.2.2.1 (linksL (EE.take s.1)).length s.2.2.2.2.2] 111::vc 108 (.slice ad10 EE.length cp11) (EE)::(Lf st_++I)) (fun s=>(j≤s.1∧s.1≤EE.length)∧(∀i:Nat,j≤i→i<s.1→(at_ EE (i:Int)).tm=tt)∧(s.2.1=decide (j<s.1))∧(Sl κ [vc 108 (.slice ad10 EE.length cp11) EE] (.slice s.2.2.1 (List.drop s.1 EE).length s.2.2.2.1) (List.drop s.1 EE))) (fun s=>EE.length - s.1) (j,false,e1,d1,a,c) (show (j≤(j:Nat)∧(j:Nat)≤EE.length)∧(∀i:Nat,j≤i→i<(j:Nat)→(at_ EE (i:Int)).tm=tt)∧((false:Bool)=decide (j<(j:Nat)))∧(Sl κ [vc 108 (.slice ad10 EE.length cp11) EE] (.slice (e1:Option Addr) (List.drop (j:Nat) EE).length (d1:Nat)) (List.drop (j:Nat) EE)) from ⟨om,(fun i h1 h2=>by omega),(by rw [decide_eq_false om]),hev⟩) (Ac rfl (Ac (Cz rfl (by first|rfl|simp)) (Ac rfl (Ac rfl Bq)))) (show Fit κ _ (blk tb [I64 (tt),.bool ((false))] 153::vc 146 (.slice (a) (linksL (EE.take (j))).length (c)) (linksL (EE.take (j)))::blk b3 [I64 (nd),.slice (a) (linksL (EE.take (j))).length (c)] 111::vc 108 (.slice ad10 EE.length cp11) (EE)::(Lf st_++I)) from B7) ?_)
   rintro ⟨j2,own,e2,d2,a4,c4⟩ hp
   dsimp only at hp ⊢
   obtain ⟨hj2,hsame,hown,hev2⟩:=hp
   have hd0:=at_zero_drop EE j2
   have hdl:(List.drop j2 EE).length=EE.length - j2:=List.length_drop
   have hvX:=links_val hH.st.nodes hfE j2
   have hlX:=links_len hvX
   refine Ao (Ao (Bo mixed (Bu (blk tb [I64 (tt),.bool (own)] 153::vc 146 (.slice a4 (linksL (EE.take j2)).length c4) (linksL (EE.take j2))::blk b3 [I64 (nd),.slice a4 (linksL (EE.take j2)).length c4] 111::vc 108 (.slice ad10 EE.length cp11) (EE)::(Lf st_++I)) 12 (Dr 0 rfl (Ad rfl) (Dr 1 rfl (Bw Ba rfl) (Dr 2 rfl (B5 rfl rfl) (Dr 3 rfl (Ad rfl) (D1 (d:=47) rfl (fun g47=>?_) (fun g47=>?_)))))))))
   ·refine Dro 4 rfl (Ad rfl) (Dro 5 rfl (A8 (α:=Ev) (xs:=List.drop j2 EE) Ba ty108 rfl rfl (Ch hev2 f1) om om) (Dro 6 rfl (Dq (α:=Ev) (xs:=List.drop j2 EE) fld108_1 rfl (Ch hev2 f1) om) (Dro 7 rfl (D6 (α:=Ev) (xs:=List.drop j2 EE) (u:=I64 ((at_ (List.drop j2 EE) 0).tm)) ty3 rfl (Ch hev2 f1) om om rfl) (Dro 8 rfl (Aa fld153_0 rfl) (Dro 9 rfl (Au ty3) ?_)))))
    refine Dro 10 rfl (Bs rfl rfl) (Dr 11 rfl (Ap rfl rfl) (Dz (Ai (As (S5 55 0 5 7 10 rfl rfl rfl rfl rfl) (A9 rfl (fun c55=>?_) (fun c55=>?_))))))
    ·refine A0 (Ai (Ax (Ao (Bo mixed (Bu (blk tb [I64 (tt),.bool (own)] 153::vc 108 (.slice ad10 EE.length cp11) (EE)::(Lf st_++I)) 10 (Dr 1 rfl (Ad rfl) (Dr 2 rfl (A8 (α:=Ev) (xs:=List.drop j2 EE) Ba ty108 rfl rfl (Ch hev2 f1) om om) (Dr 3 rfl (B0 (α:=Ev) (xs:=List.drop j2 EE) ty108 rfl (Ch hev2 f1) om om) (Ds1 0 (Sr rfl (Bm (vs:=[_,_]) ty111) Ay ?_))))))))))
     refine Ds1 4 (Se rfl (Am call141 rfl rfl (Cn (J:=vc 146 (.slice a4 (linksL (EE.take j2)).length c4) (linksL (EE.take j2))::blk tb [I64 (tt),.bool (own)] 153::blk b3 [I64 (nd),.slice a4 (linksL (EE.take j2)).length c4] 111::vc 108 (.slice ad10 EE.length cp11) (EE)::(Lf st_++I)) B7 (ApplyP_ok (nd:=nd) (e:=(at_ (List.drop j2 EE) 0)) (xs:=linksL (EE.take j2)) asm (by first|exact hfS _ (Ck om om)|(rw [hd0];exact hfE _ (Ck om om))) om))) ?_)
     rintro _ _ ⟨_,_,⟨ad13,cp14,wv15,rfl,rfl⟩,rfl,rfl⟩
     refine ⟨Ay,?_⟩
     refine Dr 5 rfl (Ad rfl) (Dr 6 rfl (Az rfl rfl) (Dr 7 rfl (Az rfl rfl) (Dr 8 rfl (Az rfl rfl) (Ds1 9 (Se0 rfl (B1 ty111) ?_)))))
     refine Dz (Ai (As (S4 0 5 7 10 rfl rfl rfl rfl) (Aw (Gm rfl (Gr (El (α:=Ev) (xs:=List.drop j2 EE) (l:=1) Ba ty108 rfl rfl om (Ch hev2 f1) om) (Ga rfl (Gf fld153_1 rfl (Ge0 (Ek ty4) ?_))))))))
     exact Bj (Aj (B6 ((j2+1),(true),((adrop e2 d2 1 (Enc.sz Ev))),((d2 - 1)),(ad13),(cp14)) (by dsimp only;exact ⟨om,(fun i h1 h2=>by by_cases e:i=j2;(· subst e;rw [←hd0];assumption);(· exact hsame i h1 om)),(by rw [decide_eq_true om]),(by have h:=Sl.drop (l:=1) hev2 om;rw [List.drop_drop] at h;exact h)⟩) (hI:=by (try dsimp only);exact (by rw [linksL_take om,←hd0];exact B7))))
    ·exact Bt (Ak (Ak (A6 (Ep ((j2),(own),(e2),(d2),(a4),(c4)) (by dsimp only;exact ⟨(⟨⟨by omega,hsame,fun h=>by first|(rw [←hd0];assumption)|(exfalso;omega),hown,hfst,hnx⟩,fun hff=>by have hq:=hnx hff;rcases Nat.lt_or_ge j j2 with hlt|hge;(· exact hlt);(· exfalso;have hjj:j2=j:=om;subst hjj;first|omega|(rw [hd0] at c55;exact c55 hq.2.symm))⟩),hev2⟩)))))
   ·exact Dpo 4 rfl (Dpo 5 rfl (Dpo 6 rfl (Dpo 7 rfl (Dpo 8 rfl (Dpo 9 rfl (Dpo 10 rfl (Dr 11 rfl (Av rfl rfl) (Dz (Ai (As (S5 55 0 5 7 10 rfl rfl rfl rfl rfl) (Cx rfl (Bt (Ak (Ak (A6 (Ep ((j2),(own),(e2),(d2),(a4),(c4)) (by dsimp only;exact ⟨(⟨⟨by omega,hsame,fun h=>by first|(rw [←hd0];assumption)|(exfalso;omega),hown,hfst,hnx⟩,fun hff=>by have hq:=hnx hff;rcases Nat.lt_or_ge j j2 with hlt|hge;(· exact hlt);(· exfalso;have hjj:j2=j:=om;subst hjj;first|omega|(rw [hd0] at c55;exact c55 hq.2.symm))⟩),hev2⟩)))))))))))))))))
  ·rintro ⟨j3,own3,e3,d3,a5,c5⟩ hp
   obtain ⟨hM3,hev3⟩:(MomentX EE fst j tt own3 j3)∧(Sl κ [vc 108 (.slice ad10 EE.length cp11) EE] (.slice e3 (List.drop j3 EE).length d3) (List.drop j3 EE)):=hp
   show W Tryz.prog κ 89 _ _ ([(0,(.func (.yield l) #[] #[])),(5,.slice e3 (List.drop j3 EE).length d3),(7,.pointer (some ⟨b3,0,none⟩)),(10,.pointer (some ⟨tb,0,none⟩))]:Env) (blk tb [I64 (tt),.bool (own3)] 153::vc 146 (.slice a5 (linksL (EE.take j3)).length c5) (linksL (EE.take j3))::blk b3 [I64 (nd),.slice a5 (linksL (EE.take j3)).length c5] 111::vc 108 (.slice ad10 EE.length cp11) (EE)::(Lf st_++I))
   have hmle:=hM3.le
   have hdl3:(List.drop j3 EE).length=EE.length - j3:=List.length_drop
   refine Ah (Gl2 ty111 ?_)
   refine Gc2 (Am call167 rfl rfl (LGraph_ok (nd:=nd) Br (links_val hH.st.nodes hfE j3) (by have:=links_len (links_val hH.st.nodes hfE j3);omega))) fun ad16 cp17=>?_
   refine Gm rfl (Gr (Az rfl rfl) (Gr (Az rfl rfl) (Ge1 (A5 ty48 rfl) fun b18=>Ge0 (B1 ty48) ?_)))
   refine Ga rfl (Af (Ao (Ao (W.regionI ?_))))
   refine Eh (Bg rfl) rfl rfl (Ad rfl) ?_
   refine Eh (Bg rfl) rfl rfl (Bm (vs:=[_,_]) ty153) ?_
   refine Eh (Bg rfl) rfl rfl (Bm (vs:=[_,_]) ty48) ?_
   refine GY.yieldB (l:=l) (Bg rfl) rfl rfl rfl (YieldB.fit (Cm B7 (Ea (perm_fr (A:=[vc 135 (.slice ad16 (edgesK (linksL (EE.take j3))).length cp17) (edgesK (linksL (EE.take j3))),blk b18 [I64 (nd),.slice ad16 (edgesK (linksL (EE.take j3))).length cp17] 48,blk tb [I64 (tt),.bool (own3)] 153,vc 146 (.slice a5 (linksL (EE.take j3)).length c5) (linksL (EE.take j3)),blk b3 [I64 (nd),.slice a5 (linksL (EE.take j3)).length c5] 111,vc 108 (.slice ad10 EE.length cp11) (EE)]) (L:=Lf st_) (T:=I)))) (hy ([blk b18 [I64 (nd),.slice ad16 (edgesK (linksL (EE.take j3))).length cp17] 48,blk tb [I64 (tt),.bool (own3)] 153,vc 146 (.slice a5 (linksL (EE.take j3)).length c5) (linksL (EE.take j3)),blk b3 [I64 (nd),.slice a5 (linksL (EE.take j3)).length c5] 111,vc 108 (.slice ad10 EE.length cp11) (EE)]++I) (Fit.appR _ _) fst j tt own3 j3 ad16 cp17 hM3 st_ hps)) ?_
   rintro b _ (⟨rfl,s2_,hp2,rfl⟩|⟨rfl,q_,hq_,rfl⟩)
   ·refine GY.fit (J:=blk b18 [I64 (nd),.slice ad16 (edgesK (linksL (EE.take j3))).length cp17] 48::blk tb [I64 (tt),.bool (own3)] 153::vc 146 (.slice a5 (linksL (EE.take j3)).length c5) (linksL (EE.take j3))::blk b3 [I64 (nd),.slice a5 (linksL (EE.take j3)).length c5] 111::vc 108 (.slice ad10 EE.length cp11) (EE)::(Lf s2_++I)) (Ea (perm_fr (A:=Lf s2_) (L:=[blk b18 [I64 (nd),.slice ad16 (edgesK (linksL (EE.take j3))).length cp17] 48,blk tb [I64 (tt),.bool (own3)] 153,vc 146 (.slice a5 (linksL (EE.take j3)).length c5) (linksL (EE.take j3)),blk b3 [I64 (nd),.slice a5 (linksL (EE.take j3)).length c5] 111,vc 108 (.slice ad10 EE.length cp11) (EE)]) (T:=I))) ?_
    show GY Tryz.prog κ _ _ _ _ ([(76,.bool true),(75,.agg #[I64 (nd),.slice ad16 (edgesK (linksL (EE.take j3))).length cp17]),(74,.agg #[I64 (tt),.bool (own3)]),(73,(.func (.yield l) #[] #[])),(12,I64 (0)),(11,.pointer (some ⟨b18,0,none⟩)),(72,I64 (0)),(71,.agg #[I64 (nd),.slice ad16 (edgesK (linksL (EE.take j3))).length cp17]),(68,.tuple #[.agg #[I64 (nd),.slice ad16 (edgesK (linksL (EE.take j3))).length cp17],I64 (0)]),(70,.tuple #[.agg #[I64 (nd),.slice ad16 (edgesK (linksL (EE.take j3))).length cp17],I64 (0)]),(69,.agg #[I64 (nd),.slice a5 (linksL (EE.take j3)).length c5]),(0,(.func (.yield l) #[] #[])),(5,.slice e3 (List.drop j3 EE).length d3),(7,.pointer (some ⟨b3,0,none⟩)),(10,.pointer (some ⟨tb,0,none⟩))]:Env) (blk b18 [I64 (nd),.slice ad16 (edgesK (linksL (EE.take j3))).length cp17] 48::blk tb [I64 (tt),.bool (own3)] 153::vc 146 (.slice a5 (linksL (EE.take j3)).length c5) (linksL (EE.take j3))::blk b3 [I64 (nd),.slice a5 (linksL (EE.take j3)).length c5] 111::vc 108 (.slice ad10 EE.length cp11) (EE)::(Lf s2_++I))
    refine Eh (Bg rfl) rfl rfl (Cd rfl) ?_
    refine Eh (Bg rfl) rfl rfl (Ad rfl) ?_
    refine Eh (Cv rfl rfl rfl) rfl rfl (Ad rfl) ?_
    refine Eh (Cv rfl rfl rfl) rfl rfl (Bw Ba rfl) ?_
    refine Eh (Cv rfl rfl rfl) rfl rfl (Bs rfl rfl) ?_
    refine Eh (Bg rfl) rfl rfl (Av rfl rfl) ?_
    refine GY.nil ?_
    refine Ai (As (S5 82 0 5 7 10 rfl rfl rfl rfl rfl) (A9 rfl (fun c82=>?_) (fun c82=>?_)))
    ·refine A2 (Al (Ar (Al (Al (Ar ?_)))))
     have hje:j3=EE.length:=by omega
     exact V.ret0 rfl ((Lf s2_++I)) (by repeat (first|exact Fit.refl _|apply Fit.tail)) ⟨rfl,.inl ⟨s2_,by rw [←hje];exact hp2,rfl⟩⟩
    ·refine A0 (Ai (Aw (Gm rfl (Gr (A8 (α:=Ev) (xs:=List.drop j3 EE) Ba ty108 rfl rfl (Ch hev3 f1) om om) (Gr (Dq (α:=Ev) (xs:=List.drop j3 EE) fld108_1 rfl (Ch hev3 f1) om) (Gr (D6 (α:=Ev) (xs:=List.drop j3 EE) (u:=I64 ((at_ (List.drop j3 EE) 0).tm)) ty3 rfl (Ch hev3 f1) om om rfl) ?_))))))
     rw [at_zero_drop EE j3]
     refine Gr (Be (cells:=[_,_]) ty153 Tryz.underlying153 pl153 rfl rfl) (Ge0 (B1 ty153) ?_)
     refine Bj (Aj (Ai (Ah (Gl2 ty153 ?_))))
     refine Af (Aw (Ge1 (A5 ty153 rfl) fun b19=>Ge0 (B1 ty153) ?_))
     exact Bj (B6 ((j3),(false),(b19),((at_ EE (j3:Int)).tm),(e3),(d3),(a5),(c5),(s2_)) (by dsimp only;exact ⟨om,(fun h=>by cases h),(fun _=>⟨by omega,rfl⟩),hp2,hev3⟩) (hlt:=by (try dsimp only);exact (by show 2*(EE.length - j3)+0<2*(EE.length - j)+fst.toNat;rcases hft with h|h;(· omega);(· have:=hM3.le;have:=hM3.adv h.1;omega))))
   ·refine GY.fit (J:=Xf q_++I) Fit.mid ?_
    show GY Tryz.prog κ _ _ _ _ ([(76,.bool false),(75,.agg #[I64 (nd),.slice ad16 (edgesK (linksL (EE.take j3))).length cp17]),(74,.agg #[I64 (tt),.bool (own3)]),(73,(.func (.yield l) #[] #[])),(12,I64 (0)),(11,.pointer (some ⟨b18,0,none⟩)),(72,I64 (0)),(71,.agg #[I64 (nd),.slice ad16 (edgesK (linksL (EE.take j3))).length cp17]),(68,.tuple #[.agg #[I64 (nd),.slice ad16 (edgesK (linksL (EE.take j3))).length cp17],I64 (0)]),(70,.tuple #[.agg #[I64 (nd),.slice ad16 (edgesK (linksL (EE.take j3))).length cp17],I64 (0)]),(69,.agg #[I64 (nd),.slice a5 (linksL (EE.take j3)).length c5]),(0,(.func (.yield l) #[] #[])),(5,.slice e3 (List.drop j3 EE).length d3),(7,.pointer (some ⟨b3,0,none⟩)),(10,.pointer (some ⟨tb,0,none⟩))]:Env) ((Xf q_++I))
    refine Eh (Bg rfl) rfl rfl (Cd rfl) ?_
    refine Eh (Bg rfl) rfl rfl (Ad rfl) ?_
    refine GY.pass (Unwanted.off rfl rfl rfl) rfl rfl ?_
    refine GY.pass (Unwanted.off rfl rfl rfl) rfl rfl ?_
    refine GY.pass (Unwanted.off rfl rfl rfl) rfl rfl ?_
    refine Eh (Bg rfl) rfl rfl (Ap rfl rfl) ?_
    refine GY.nil ?_
    exact Ai (As (S5 82 0 5 7 10 rfl rfl rfl rfl rfl) (Cl rfl (A2 (Al (Ar (Al (Al (Ar (V.ret0 rfl ((Xf q_++I)) (Fit.refl _) ⟨rfl,.inr ⟨q_,hq_,rfl⟩⟩)))))))))
end Go.Sl
namespace Go.Sl
open Go.RowKit (Below)
section
variable {P:Program}{κ:Ctx}{N:Frm}{L:Env}{I J:List Item}{l:Nat}{body:Code}{R:Ending→World→Prop}
def RB(P:Program)(l:Nat)(body:Code)(R:Ending→World→Prop):Exit→Act→World→Prop:=
 Exit.then (fun a₁ w₁=>∃w₂,(Instr.beginRound l).run P w₁ = .ok () w₂∧body.wpIn (Fence.wide.inRound l) 0 P (roundPost P l R) a₁ w₂) (fun _ _ _=>False)
theorem V.begin{r:Loop}(J:List Item)(hf:Fit κ I (recI l r::J))(hrd:r.state = .ready∧r.pending=none)(h:WR P κ N l 0 body (roundPost P l R) L (recI l {r with state:= .busy}::J)):V κ N (RB P l body R) .normal L I:=fun a w ha hs=>by
 have hs':=hf w hs
 have hl:=(hs'.ok _ List.mem_cons_self).1
 exact ⟨_,run_beginRound hl hrd.1,h a _ ha hs'.putRec⟩
theorem YieldB.mkA{r:Loop}{Post:Bool→List Item→Prop}{args:List Value}{L₀:Env}{assign:Code}(hps:args.length=r.params.size)(ha:r.assign=assign)(hb:r.body=body)
  (hag:Ag N {tmps:=(r.params.zip args.toArray).foldl (fun t (p,v)=>t.setIfInBounds p v) r.tmps,defers:=[]} L₀)
  (h:WR P κ N l 0 assign (RB P l body fun e w'=>∃b,e = .returned (.bool b)∧∃K,Post b K∧Sep κ w' K) L₀ (recI l r::I)):YieldB P κ l args (recI l r::I) Post:=fun w hs=>by
 have hl:=(hs.ok _ List.mem_cons_self).1
 subst ha hb
 exact ⟨_,_,_,_,run_yield hl (by simpa using hps),roundIn_of_wpIn trivial (h _ w hag hs)⟩
theorem ag_two{tm:Array Value}{v u:Value}{p q:Nat}(hta:Ag ⟨N.n,[]⟩ {tmps:=tm,defers:=[]} L)(hp:Nat.blt p N.n=true)(hq:Nat.blt q N.n=true):Ag ⟨N.n,[]⟩ {tmps:=(tm.setIfInBounds p v).setIfInBounds q u,defers:=[]} ((q,u)::(p,v)::L):=(hta.put p hp v).put q hq u
end
end Go.Sl
namespace Go.Sl
open Go.Proofs
set_option maxRecDepth 4000
variable {κ:Ctx}{I:List Item}
theorem HCheck_ok{nd:Int}{va:Value}{es:List Ev}(hl:Sl κ I va es) :
    CallS Tryz.prog κ 79 [I64 (nd),va] I (fun r J=>r=I64 (streamE nd es)∧I=J):=by
 refine Ce2 Tryz.func79 rfl rfl ?_
 refine Ah (Ga rfl (Af (Ah (Gm rfl (Gm rfl (G.e (Am call139 rfl rfl (Stream_ok (nd:=nd) (Bf hl))) ?_))))))
 rintro _ _ ⟨_,_,⟨rfl,rfl⟩,rfl,rfl⟩
 exact Ga rfl (Af (A2 (A7 rfl rfl (I) A4 ⟨rfl,rfl⟩)))
theorem ACheck_ok{nd kd wd mo:Int}{va:Value}{es:List Ev}(hl:Sl κ I va es) :
    CallS Tryz.prog κ 97 [I64 (nd),va,.agg #[I64 (kd),I64 (wd),I64 (mo)]] I (fun r J=>r=I64 (slideE nd kd wd mo es)∧I=J):=by
 refine Ce3 Tryz.func97 rfl rfl ?_
 refine Ah (Ge1 (Bb (cs:=[_,_,_]) rfl rfl rfl) fun b1=>Ga rfl (Af (Ao (Ah (Gl3 ty31 ?_)))))
 refine G.e (Am call78 rfl rfl (CheckW_ok kd wd mo)) ?_
 rintro _ _ ⟨_,_,⟨rfl,rfl⟩,rfl,rfl⟩
 refine Ga rfl (Af (Ah (Gm rfl (Gr (Bv rfl rfl) (Af (A9 rfl (fun c11=>?_) (fun c11=>?_)))))))
 ·exact Ah (Gm rfl (Ga rfl (Af (A2 (Al (A7 rfl rfl (I) A4 ⟨by unfold slideE;rw [if_pos c11],rfl⟩))))))
 ·refine A0 (Ai (Ah (Gm rfl (Gm rfl (Gc0 (Am call79 rfl rfl (HCheck_ok (nd:=nd) (Bf hl))) ?_)))))
  exact Ga rfl (Af (As (S1 6 rfl) (A2 (A7 rfl rfl (I) A4 ⟨by unfold slideE;rw [if_neg c11],rfl⟩))))
theorem Frames_ok{nd kd wd mo:Int}{ea:Option Addr}{en ec:Nat} :
    CallS Tryz.prog κ 98 [I64 (nd),.slice ea en ec,.agg #[I64 (kd),I64 (wd),I64 (mo)]] I (fun r J=>∃q1 q2 q3,r = .func (.func 165) #[] #[.pointer (some ⟨q1,0,none⟩),.pointer (some ⟨q2,0,none⟩),.pointer (some ⟨q3,0,none⟩)]∧J=blk q3 [I64 kd,I64 wd,I64 mo] 31::blk q2 [.slice ea en ec] 28::blk q1 [I64 nd] 3::I):=by
 refine Ce3 Tryz.func98 rfl rfl ?_
 exact Ah (Ge1 (Bb (cs:=[_]) rfl rfl rfl) fun b1=>Ge1 (Bb (cs:=[_]) rfl rfl rfl) fun b2=>Ge1 (Bb (cs:=[_,_,_]) rfl rfl rfl) fun b3=>Ga rfl (Af (Ah (Gr (Dv rfl rfl) (Ga rfl (Af (A2 (A7 rfl rfl (blk b3 [I64 (kd),I64 (wd),I64 (mo)] 31::blk b2 [.slice ea en ec] 28::blk b1 [I64 (nd)] 3::I) (Fit.refl _) ⟨b1,b2,b3,rfl,rfl⟩))))))))
theorem at_end{kd wd mo tq:Int}{es:List Ev}(h:∀i:Nat,i<(allE kd wd mo es).length→(at_ (allE kd wd mo es) (i:Int)).tm≤tq):edgesK (linksL ((allE kd wd mo es).take (allE kd wd mo es).length))=atG kd wd mo es tq:=by
 unfold atG
 rw [atK_stop (Nat.le_refl _) h fun hlt=>absurd hlt (Nat.lt_irrefl _)]
theorem at_stop{kd wd mo tq:Int}{es:List Ev}{j:Nat}(hj:j<(allE kd wd mo es).length)(h:∀i:Nat,i<j→(at_ (allE kd wd mo es) (i:Int)).tm≤tq)(h2:tq<(at_ (allE kd wd mo es) (j:Int)).tm):edgesK (linksL ((allE kd wd mo es).take j))=atG kd wd mo es tq:=by
 unfold atG
 rw [atK_stop (Nat.le_of_lt hj) h fun _=>h2]
theorem atm_all{E:List Ev}{fst own:Bool}{j j1:Nat}{tm tq:Int}(hM:MomentX E fst j tm own j1)(hle:tm≤tq)(hq:fst=false→∀i:Nat,i<j→(at_ E (i:Int)).tm≤tq):∀i:Nat,i<j1→(at_ E (i:Int)).tm≤tq:=fun i hi=>by
 by_cases h:i<j
 ·cases hf:fst with
  |true=>have:=(hM.first hf).2;omega
  |false=>exact hq hf i h
 ·rw [hM.same i om hi];exact hle
theorem at_left{kd wd mo nd gn tm tq:Int}{es:List Ev}{X:List Pt}{fst own:Bool}{j j1:Nat}(hM:MomentX (allE kd wd mo es) fst j tm own j1)(hjl:j≤(allE kd wd mo es).length)(hlt:tq<tm)(h0:0≤tq)
  (hq:fst=false→gn=nd∧X=edgesK (linksL ((allE kd wd mo es).take j))∧∀i:Nat,i<j→(at_ (allE kd wd mo es) (i:Int)).tm≤tq):gn=nd∧X=atG kd wd mo es tq:=by
 cases hf:fst with
 |true=>have:=(hM.first hf).1;omega
 |false=>
  obtain ⟨h1,h2⟩:=hM.next hf
  obtain ⟨q1,q2,q3⟩:=hq hf
  exact ⟨q1,q2.trans (at_stop h1 q3 om)⟩
set_option maxHeartbeats 2000000 in
theorem At_ok{nd kd wd mo tq:Int}{ea:Option Addr}{ec:Nat}{es:List Ev}(hl:Sl κ I (.slice ea es.length ec) es)(hH:HistOk nd kd wd mo es)(hlen:es.length≤19)(ht:0≤tq∧tq≤1048576) :
    CallS Tryz.prog κ 44 [I64 (nd),.slice ea es.length ec,.agg #[I64 (kd),I64 (wd),I64 (mo)],I64 (tq)] I (fun r J=>∃a c,r = .tuple #[.agg #[I64 nd,.slice a (atG kd wd mo es tq).length c],I64 0]∧J=vc 135 (.slice a (atG kd wd mo es tq).length c) (atG kd wd mo es tq)::I):=by
 refine CallS.enterM (L:=[(0,I64 (nd)),(1,.slice ea es.length ec),(2,.agg #[I64 (kd),I64 (wd),I64 (mo)]),(3,I64 (tq))]) Tryz.func44 rfl rfl rfl rfl ?_
 refine Ah (Ge1 (Bb (cs:=[_,_,_]) rfl rfl rfl) fun b1=>Ge1 (Bb (cs:=[_]) rfl rfl rfl) fun b2=>Ge1 (A5 ty48 rfl) fun b3=>Ga rfl (Af (Ao (Ah (Gm rfl (Gm rfl (Gl3 ty31 ?_)))))))
 refine Gc0 (Am call97 rfl rfl (ACheck_ok (nd:=nd) (kd:=kd) (wd:=wd) (mo:=mo) (Bf hl))) ?_
 refine Ga rfl (Af (Ah (Gm rfl (Gr (Bv rfl rfl) (Af (As (S7 19 10 8 7 6 0 1 rfl rfl rfl rfl rfl rfl rfl) (A9 rfl (fun c19=>?_) (fun c19=>?_))))))))
 ·exact absurd (slideE_zeroH hH) c19
 ·refine A0 (Ai (Ao (Ah (Gl ty3 ?_))))
  refine Gr (Bc rfl rfl) (Gm rfl (Bi (d:=24) rfl (fun g24=>?_) (fun g24=>?_)))
  ·omega
  ·refine Gro (Au ty3) ?_
   refine Gro (B5 rfl rfl) (Gr (Av rfl rfl) (Af (As (S6 27 8 7 6 0 1 rfl rfl rfl rfl rfl rfl) (A9 rfl (fun c27=>?_) (fun c27=>?_)))))
   ·omega
   ·refine A0 (Ai (Ah (Ge1 (A5 ty48 rfl) fun b4=>Af (Ao (Ah (Gm rfl (Gm rfl (Gl3 ty31 ?_))))))))
    refine G.e (Am call98 rfl rfl Frames_ok) ?_
    rintro _ _ ⟨_,_,⟨qb5,qb6,qb7,rfl,rfl⟩,rfl,rfl⟩
    refine Af (Ax (W.fit (J:=blk b4 [I64 (0),.slice none 0 0] 48::vc 135 (.slice none 0 0) (([]:List Pt))::blk qb7 [I64 (kd),I64 (wd),I64 (mo)] 31::blk qb6 [.slice ea es.length ec] 28::blk qb5 [I64 (nd)] 3::blk b3 [I64 (0),.slice none 0 0] 48::blk b2 [I64 (tq)] 3::blk b1 [I64 (kd),I64 (wd),I64 (mo)] 31::I) (Cm (B3 (α:=Pt) 135 _) B7) ?_))
    refine W.rangeFnB (gf:=165) (lb:=[.pointer (some ⟨qb5,0,none⟩),.pointer (some ⟨qb6,0,none⟩),.pointer (some ⟨qb7,0,none⟩)]) rfl call165 fun Dm l rc hr1 hr2 hr3 hr4 hta=>?_
    refine (Frames1_ok (I:=blk qb7 [I64 (kd),I64 (wd),I64 (mo)] 31::blk qb6 [.slice ea es.length ec] 28::blk qb5 [I64 (nd)] 3::blk b3 [I64 (0),.slice none 0 0] 48::blk b2 [I64 (tq)] 3::blk b1 [I64 (kd),I64 (wd),I64 (mo)] 31::I) (σ:=Int×(Option Addr)×Nat×(List Pt)) (τ:=Int×(Option Addr)×Nat×(List Pt)) (l:=l) (Lf:=fun s=>[recI l rc,dfrI Dm,blk b4 [I64 (s.1),.slice s.2.1 s.2.2.2.length s.2.2.1] 48,vc 135 (.slice s.2.1 s.2.2.2.length s.2.2.1) (s.2.2.2)]) (Pf:=fun fst j s=>(fst=false→s.1=nd∧s.2.2.2=edgesK (linksL ((allE kd wd mo es).take j))∧∀i:Nat,i<j→(at_ (allE kd wd mo es) (i:Int)).tm≤tq)∧(j≤(allE kd wd mo es).length)) (Xf:=fun s=>[recI l {rc with state:= .done,pending:=some (.exit 0)},dfrI Dm,blk b4 [I64 (s.1),.slice s.2.1 s.2.2.2.length s.2.2.1] 48,vc 135 (.slice s.2.1 s.2.2.2.length s.2.2.1) (s.2.2.2)]) (Qf:=fun s=>(s.1=nd∧s.2.2.2=atG kd wd mo es tq)) (s0:=(0,none,0,([]:List Pt))) hH hlen (Ds mm) (Ds mm) (Ds mm) (Bf hl) ⟨fun h=>(by cases h),Nat.zero_le _⟩ ?_).mono ?_
    ·rintro T hTI fst j tm own j1 ga gc hM ⟨gn,a,c,X⟩ hp
     obtain ⟨hq,hjl⟩:(fst=false→gn=nd∧X=edgesK (linksL ((allE kd wd mo es).take j))∧∀i:Nat,i<j→(at_ (allE kd wd mo es) (i:Int)).tm≤tq)∧(j≤(allE kd wd mo es).length):=hp
     have hbq:BlkRd κ T b2 [I64 (tq)] 3:=(Ds (I:=blk qb7 [I64 (kd),I64 (wd),I64 (mo)] 31::blk qb6 [.slice ea es.length ec] 28::blk qb5 [I64 (nd)] 3::blk b3 [I64 (0),.slice none 0 0] 48::blk b2 [I64 (tq)] 3::blk b1 [I64 (kd),I64 (wd),I64 (mo)] 31::I) mm).fit hTI
     refine YieldB.fit (J:=recI l rc::vc 135 (.slice ga (edgesK (linksL ((allE kd wd mo es).take j1))).length gc) (edgesK (linksL ((allE kd wd mo es).take j1)))::dfrI Dm::blk b4 [I64 (gn),.slice a X.length c] 48::vc 135 (.slice a X.length c) (X)::T) B7 ?_
     refine YieldB.mkA (L₀:=[(34,.agg #[I64 (nd),.slice ga (edgesK (linksL ((allE kd wd mo es).take j1))).length gc]),(33,.agg #[I64 (tm),.bool (own)]),(32,.func (.func 165) #[] #[.pointer (some ⟨qb5,0,none⟩),.pointer (some ⟨qb6,0,none⟩),.pointer (some ⟨qb7,0,none⟩)]),(31,.agg #[I64 (kd),I64 (wd),I64 (mo)]),(30,.slice ea es.length ec),(29,I64 (nd)),(11,.pointer (some ⟨b4,0,none⟩)),(27,.bool (decide (1048576<tq))),(8,.pointer (some ⟨b3,0,none⟩)),(7,.pointer (some ⟨b2,0,none⟩)),(6,.pointer (some ⟨b1,0,none⟩)),(0,I64 (nd)),(1,.slice ea es.length ec)]) (by rw [hr2];rfl) hr3 hr4 (by rw [hr2,fold_two];exact ag_two hta rfl rfl) ?_
     refine WR.seq ?_
     refine Ee (fun _ _ h=>False.elim h) rfl ?_
     refine Ge1 (A5 ty153 rfl) fun b8=>Ge0 (B1 ty153) ?_
     refine Bj (V.thenR ?_)
     refine WR.sub (L':=[(12,_),(34,_),(11,_),(7,_)]) (Ac rfl (Ac rfl (Ac rfl (Ac rfl Bq)))) ?_
     refine Ee (fun _ _ h=>False.elim h) rfl ?_
     refine Ge1 (A5 ty48 rfl) fun b9=>Ge0 (B1 ty48) ?_
     refine Bj (V.begin (blk b9 [I64 (nd),.slice ga (edgesK (linksL ((allE kd wd mo es).take j1))).length gc] 48::blk b8 [I64 (tm),.bool (own)] 153::vc 135 (.slice ga (edgesK (linksL ((allE kd wd mo es).take j1))).length gc) (edgesK (linksL ((allE kd wd mo es).take j1)))::dfrI Dm::blk b4 [I64 (gn),.slice a X.length c] 48::vc 135 (.slice a X.length c) (X)::T) B7 hr1 ?_)
     refine WR.block ?_
     refine WR.seq ?_
     refine WR.seq ?_
     refine Ee (fun _ _ h=>False.elim h) rfl ?_
     refine Gf fld153_0 rfl (Gl ty3 ?_)
     refine Gr (Da ty3 rfl (C2 hbq A4) rfl) (Gr (B5 rfl rfl) (Bj (V.thenR ?_)))
     refine WR.ite rfl (fun c38=>?_) (fun c38=>?_)
     ·refine WR.exit ?_
      exact Ak (B8 rfl (V.roundX (dfrI Dm::blk b4 [I64 (gn),.slice a X.length c] 48::vc 135 (.slice a X.length c) (X)::T) B7 (.inr ⟨rfl,(gn,a,c,X),(show (gn=nd∧X=atG kd wd mo es tq) from (at_left hM hjl om om hq)),rfl⟩)))
     ·refine WR.skip ?_
      refine V.thenR ?_
      refine Ee (fun _ _ h=>False.elim h) rfl ?_
      refine Gl2 ty48 ?_
      refine Ge0 (B1 ty48) ?_
      refine Bj (Aj ?_)
      have hall:∀i:Nat,i<j1→(at_ (allE kd wd mo es) (i:Int)).tm≤tq:=atm_all hM om (fun h=>(hq h).2.2)
      exact V.roundB (dfrI Dm::blk b4 [I64 (nd),.slice ga (edgesK (linksL ((allE kd wd mo es).take j1))).length gc] 48::vc 135 (.slice ga (edgesK (linksL ((allE kd wd mo es).take j1))).length gc) ((edgesK (linksL ((allE kd wd mo es).take j1))))::T) B7 hr1 (.inl ⟨rfl,(nd,ga,gc,edgesK (linksL ((allE kd wd mo es).take j1))),(show (false=false→nd=nd∧(edgesK (linksL ((allE kd wd mo es).take j1)))=edgesK (linksL ((allE kd wd mo es).take j1))∧∀i:Nat,i<j1→(at_ (allE kd wd mo es) (i:Int)).tm≤tq)∧(j1≤(allE kd wd mo es).length) from ⟨(fun _=>⟨rfl,rfl,hall⟩),hM.le.2⟩),rfl⟩)
    rintro v K ⟨rfl,(⟨⟨gn,a,c,X⟩,hp,rfl⟩|⟨⟨gn,a,c,X⟩,hp,rfl⟩)⟩
    ·obtain ⟨hq,hjl⟩:(false=false→gn=nd∧X=edgesK (linksL ((allE kd wd mo es).take (allE kd wd mo es).length))∧∀i:Nat,i<(allE kd wd mo es).length→(at_ (allE kd wd mo es) (i:Int)).tm≤tq)∧((allE kd wd mo es).length≤(allE kd wd mo es).length):=hp
     refine .inl ⟨_,rfl,?_⟩
     show V κ _ _ .normal ([(32,.func (.func 165) #[] #[.pointer (some ⟨qb5,0,none⟩),.pointer (some ⟨qb6,0,none⟩),.pointer (some ⟨qb7,0,none⟩)]),(31,.agg #[I64 (kd),I64 (wd),I64 (mo)]),(30,.slice ea es.length ec),(29,I64 (nd)),(11,.pointer (some ⟨b4,0,none⟩)),(27,.bool (decide (1048576<tq))),(8,.pointer (some ⟨b3,0,none⟩)),(7,.pointer (some ⟨b2,0,none⟩)),(6,.pointer (some ⟨b1,0,none⟩)),(0,I64 (nd)),(1,.slice ea es.length ec)]:Env) (dfrI Dm::blk b4 [I64 (gn),.slice a X.length c] 48::vc 135 (.slice a X.length c) (X)::blk qb7 [I64 (kd),I64 (wd),I64 (mo)] 31::blk qb6 [.slice ea es.length ec] 28::blk qb5 [I64 (nd)] 3::blk b3 [I64 (0),.slice none 0 0] 48::blk b2 [I64 (tq)] 3::blk b1 [I64 (kd),I64 (wd),I64 (mo)] 31::I)
     have hX:X=atG kd wd mo es tq:=(hq rfl).2.1.trans (at_end (hq rfl).2.2)
     have hgn:=(hq rfl).1
     refine Aj (Ai (Ah (Gl2 ty48 ?_)))
     refine Ge0 (B1 ty48) ?_
     refine Ga rfl (Af (A2 ?_))
     rw [hX,hgn]
     refine V.fit (J:=dfrI Dm::blk b4 [I64 (nd),.slice a (atG kd wd mo es tq).length c] 48::vc 135 (.slice a (atG kd wd mo es tq).length c) ((atG kd wd mo es tq))::blk qb7 [I64 (kd),I64 (wd),I64 (mo)] 31::blk qb6 [.slice ea es.length ec] 28::blk qb5 [I64 (nd)] 3::blk b3 [I64 (nd),.slice a (atG kd wd mo es tq).length c] 48::blk b2 [I64 (tq)] 3::blk b1 [I64 (kd),I64 (wd),I64 (mo)] 31::I) B7 (V.leave ?_)
     exact Ct rfl ty48 rfl rfl mm rfl (vc 135 (.slice a (atG kd wd mo es tq).length c) (atG kd wd mo es tq)::I) B7 ⟨a,c,rfl,rfl⟩
    ·have hQ:(gn=nd∧X=atG kd wd mo es tq):=hp
     refine .inr ⟨_,_,rfl,?_⟩
     show W Tryz.prog κ _ _ _ ([(32,.func (.func 165) #[] #[.pointer (some ⟨qb5,0,none⟩),.pointer (some ⟨qb6,0,none⟩),.pointer (some ⟨qb7,0,none⟩)]),(31,.agg #[I64 (kd),I64 (wd),I64 (mo)]),(30,.slice ea es.length ec),(29,I64 (nd)),(11,.pointer (some ⟨b4,0,none⟩)),(27,.bool (decide (1048576<tq))),(8,.pointer (some ⟨b3,0,none⟩)),(7,.pointer (some ⟨b2,0,none⟩)),(6,.pointer (some ⟨b1,0,none⟩)),(0,I64 (nd)),(1,.slice ea es.length ec)]:Env) (dfrI Dm::blk b4 [I64 (gn),.slice a X.length c] 48::vc 135 (.slice a X.length c) (X)::blk qb7 [I64 (kd),I64 (wd),I64 (mo)] 31::blk qb6 [.slice ea es.length ec] 28::blk qb5 [I64 (nd)] 3::blk b3 [I64 (0),.slice none 0 0] 48::blk b2 [I64 (tq)] 3::blk b1 [I64 (kd),I64 (wd),I64 (mo)] 31::I)
     have hX:=hQ.2
     have hgn:=hQ.1
     refine Bt (A6 (Ai (Ah (Gl2 ty48 ?_))))
     refine Ge0 (B1 ty48) ?_
     refine Ga rfl (Af (A2 ?_))
     rw [hX,hgn]
     refine V.fit (J:=dfrI Dm::blk b4 [I64 (nd),.slice a (atG kd wd mo es tq).length c] 48::vc 135 (.slice a (atG kd wd mo es tq).length c) ((atG kd wd mo es tq))::blk qb7 [I64 (kd),I64 (wd),I64 (mo)] 31::blk qb6 [.slice ea es.length ec] 28::blk qb5 [I64 (nd)] 3::blk b3 [I64 (nd),.slice a (atG kd wd mo es tq).length c] 48::blk b2 [I64 (tq)] 3::blk b1 [I64 (kd),I64 (wd),I64 (mo)] 31::I) B7 (V.leave ?_)
     exact Ct rfl ty48 rfl rfl mm rfl (vc 135 (.slice a (atG kd wd mo es tq).length c) (atG kd wd mo es tq)::I) B7 ⟨a,c,rfl,rfl⟩
end Go.Sl
/- The links at a time, asked from the events of the window up to it and from what has expired by then. No conditions. -/
namespace Go.Sl
theorem gone_mem{kd wd mo nw:Int}{xs:List Lk}{e:Ev}(he:e∈goneL kd wd mo nw xs):e.kd=2∧e.tm=nw:=by
 unfold goneL at he
 obtain ⟨z,hz,rfl⟩:=List.mem_map.1 he
 exact ⟨rfl,rfl⟩
theorem slide3_asc{nd mo:Int}{es:List Ev}(h:StOk nd es):∀k,k≤es.length→(slideS 3 0 mo (es.take k)).2.Pairwise (fun a b=>a.tm≤b.tm)∧∀e∈(slideS 3 0 mo (es.take k)).2,e.tm≤lastT es k
 |0,_=>⟨List.Pairwise.nil,fun e he=>(by cases he)⟩
 |k+1,hk=>by
  have ih:=slide3_asc (mo:=mo) h k om
  have hto:=h.asc k om
  rw [slideS_succ om,evStep3]
  generalize slideS 3 0 mo (es.take k)=s at ih ⊢
  generalize hee:at_ es (k:Int)=e at hto ⊢
  have hlt:lastT es (k+1)=e.tm:=by rw [lastT_succ,hee]
  rw [hlt]
  have hg:∀y∈goneL 3 0 mo e.tm (stepL s.1 e),y.tm=e.tm:=fun y hy=>(gone_mem hy).2
  have hb:∀y∈s.2++[e],y.tm≤e.tm:=fun y hy=>by
   rcases List.mem_append.1 hy with hy|hy
   ·have:=ih.2 y hy;omega
   ·rw [List.mem_singleton.1 hy];exact Int.le_refl _
  refine ⟨List.pairwise_append.2 ⟨List.pairwise_append.2 ⟨ih.1,List.pairwise_singleton _ _,fun x hx y hy=>?_⟩,?_,fun x hx y hy=>?_⟩,fun y hy=>?_⟩
  ·rw [List.mem_singleton.1 hy];exact hb x (List.mem_append_left _ hx)
  ·refine List.Pairwise.imp_of_mem (R:=fun _ _=>True) (fun hx hy _=>?_) (List.pairwise_of_forall (fun _ _=>trivial))
   rw [hg _ hx,hg _ hy];exact Int.le_refl _
  ·rw [hg y hy];exact hb x hx
  ·rcases List.mem_append.1 hy with hy|hy
   ·exact hb y hy
   ·rw [hg y hy];exact Int.le_refl _
section
variable {nd kd wd mo:Int}{es:List Ev}
theorem StOk.pw(h:StOk nd es):es.Pairwise fun a b=>a.tm≤b.tm:=by
 rw [List.pairwise_iff_getElem]
 intro i j hi hj hij
 have h1:=h.up j om i hij
 have h2:=h.asc j hj
 rw [D3 es i hi] at h1
 rw [D3 es j hj] at h2
 omega
theorem HistOk.asc(h:HistOk nd kd wd mo es):(slideS kd wd mo es).2.Pairwise fun a b=>a.tm≤b.tm:=by
 have he:es.take es.length=es:=List.take_length
 rcases checkW_cases h.win with ⟨rfl,rfl,rfl⟩|⟨rfl,hw,rfl⟩|⟨rfl,rfl,hm⟩
 ·rw [all_same];exact h.st.pw
 ·have:=(BehB.all (mo:=0) h.st hw.1 es.length (Nat.le_refl _)).asc
  rwa [he] at this
 ·have:=(slide3_asc (mo:=mo) h.st es.length (Nat.le_refl _)).1
  rwa [he] at this
end
theorem place_spec(l:List Ev)(x:Ev):∀n,n≤l.length→placeG evC l x n≤n∧(∀i:Nat,placeG evC l x n≤i→i<n→x.tm<(at_ l (i:Int)).tm)∧(0<placeG evC l x n→(at_ l ((placeG evC l x n - 1:Nat):Int)).tm≤x.tm)
 |0,_=>⟨Nat.le_refl _,fun i h1 h2=>by omega,fun h=>absurd h (Nat.lt_irrefl 0)⟩
 |n+1,hn=>by
  unfold placeG
  split
  ·rename_i h
   obtain ⟨h1,h2,h3⟩:=place_spec l x n om
   refine ⟨by omega,fun i hi hlt=>?_,h3⟩
   by_cases e:i=n
   ·subst e;exact evC_neg.1 h
   ·exact h2 i hi om
  ·rename_i h
   refine ⟨Nat.le_refl _,fun i h1 h2=>by omega,fun _=>?_⟩
   have:¬x.tm<(at_ l (n:Int)).tm:=fun hh=>h (evC_neg.2 hh)
   show (at_ l (n:Int)).tm≤x.tm
   omega
theorem insert_asc{l:List Ev}(h:l.Pairwise fun a b=>a.tm≤b.tm)(x:Ev):(insertG evC l x).Pairwise fun a b=>a.tm≤b.tm:=by
 obtain ⟨h1,h2,h3⟩:=place_spec l x l.length (Nat.le_refl _)
 unfold insertG insG
 generalize placeG evC l x l.length=p at h1 h2 h3
 have hg:=List.pairwise_iff_getElem.1 h
 have ha:∀a∈l.take p,a.tm≤x.tm:=fun a ha=>by
  obtain ⟨i,hi,rfl⟩:=List.getElem_of_mem ha
  rw [List.length_take] at hi
  rw [List.getElem_take]
  have h4:=h3 om
  rw [D3 l (p - 1) om] at h4
  by_cases e:i=p - 1
  ·subst e;exact h4
  ·have:=hg i (p - 1) om om om;omega
 have hb:∀b∈l.drop p,x.tm≤b.tm:=fun b hb=>by
  obtain ⟨i,hi,rfl⟩:=List.getElem_of_mem hb
  rw [List.length_drop] at hi
  rw [List.getElem_drop]
  have h4:=h2 (p+i) om om
  rw [D3 l (p+i) om] at h4
  omega
 refine List.pairwise_append.2 ⟨h.sublist (List.take_sublist _ _),List.pairwise_cons.2 ⟨hb,h.sublist (List.drop_sublist _ _)⟩,fun a ha' b hb'=>?_⟩
 rcases List.mem_cons.1 hb' with rfl|hb'
 ·exact ha a ha'
 ·have h5:=ha a ha';have h6:=hb b hb';omega
theorem isortC_acc:∀(xs acc:List Ev),acc.Pairwise (fun a b=>a.tm≤b.tm)→(xs.foldl (insertG evC) acc).Pairwise fun a b=>a.tm≤b.tm
 |[],acc,h=>h
 |x::xs,acc,h=>isortC_acc xs _ (insert_asc h x)
theorem isortC_asc(xs:List Ev):(isortG evC xs).Pairwise fun a b=>a.tm≤b.tm:=isortC_acc xs [] List.Pairwise.nil
section
variable {nd kd wd mo T:Int}{es:List Ev}
theorem HistOk.all_asc(h:HistOk nd kd wd mo es):(allE kd wd mo es).Pairwise fun a b=>a.tm≤b.tm:=by
 unfold allE
 refine List.pairwise_append.2 ⟨h.asc,isortC_asc _,fun x hx y hy=>?_⟩
 have hy:=(isort_permG _ _).mem_iff.1 hy
 unfold lateL at hy
 obtain ⟨z,hz,rfl⟩:=List.mem_map.1 hy
 obtain ⟨h1,h2⟩:=List.mem_filter.1 hz
 unfold lateP at h2
 have h2:=of_decide_eq_true h2
 show x.tm≤z.tm+wd
 rcases checkW_cases h.win with ⟨e1,_⟩|⟨e1,hw,e3⟩|⟨e1,_⟩
 ·omega
 ·subst e1
  have he:es.take es.length=es:=List.take_length
  have hB:=BehB.all (mo:=mo) h.st hw.1 es.length (Nat.le_refl _)
  rw [he] at hB
  rw [←h.links] at h1
  have h3:=hB.le x hx
  have h4:=hB.inv.al rfl z h1
  omega
 ·omega
end
end Go.Sl
namespace Go.Sl
variable {P:Program}{κ:Ctx}{N:Frm}{L:Env}{I:List Item}
end Go.Sl
namespace Go.Sl
variable {P:Program}{κ:Ctx}{N:Frm}{L:Env}{I:List Item}
theorem V.retv3{fn:Func}{t u s:Tmp}{T U S b b' b2 E E' E2 by' by2 by3:Nat}{z z' z2:List Value}{v v' v2:Value}{Post:Value→List Item→Prop}(hr:fn.results = #[.cell t T,.cell u U,.cell s S])(hT:tyF P T=some (1,false,by',z))(hU:tyF P U=some (1,false,by2,z'))(hS:tyF P S=some (1,false,by3,z2))
  (hv:look L t=some (.pointer (some ⟨b,0,none⟩))) (hv':look L u=some (.pointer (some ⟨b',0,none⟩))) (hv2:look L s=some (.pointer (some ⟨b2,0,none⟩))) (hb:blk b [v] E∈I) (hb':blk b' [v'] E'∈I) (hb2:blk b2 [v2] E2∈I)
  (J:List Item) (hf:Fit κ I J) (hp:Post (.tuple #[v,v',v2]) J) (h0:N.ds=[]:=by rfl):V κ N (bodyPost P fn (RetR κ Post)) .ret L I:=
 fun a w ha hs=>by
  have hcell:w.cell? ⟨b,0,none⟩=some v:=by rw [cell_blk (w:=w) (hs.ok _ hb).1 0];rfl
  have hcell2:w.cell? ⟨b',0,none⟩=some v':=by rw [cell_blk (w:=w) (hs.ok _ hb').1 0];rfl
  have hcell3:w.cell? ⟨b2,0,none⟩=some v2:=by rw [cell_blk (w:=w) (hs.ok _ hb2).1 0];rfl
  have hload:(loadVar T ⟨b,0,none⟩).run P w = .ok v w:=run_loadVar_one hT hcell
  have hload2:(loadVar U ⟨b',0,none⟩).run P w = .ok v' w:=run_loadVar_one hU hcell2
  have hload3:(loadVar S ⟨b2,0,none⟩).run P w = .ok v2 w:=run_loadVar_one hS hcell3
  refine bodyPost_ret (v:= .tuple #[v,v',v2]) ?_ (ha.defers.trans h0) ⟨_,J,rfl,hp,hf w hs⟩
  simp [results,hr,ha.get t _ hv,ha.get u _ hv',ha.get s _ hv2,asAddr,hload,hload2,hload3]
theorem V.retttc{fn:Func}{t u s:Tmp}{T b E sz by':Nat}{z cs:List Value}{v v':Value}{Post:Value→List Item→Prop}(hr:fn.results = #[.tmp t,.tmp u,.cell s T])(hT:tyF P T=some (sz,true,by',z))(hv:look L t=some v)(hv':look L u=some v')(hs':look L s=some (.pointer (some ⟨b,0,none⟩)))(hb:blk b cs E∈I)(hl:cs.length=sz)
  (J:List Item) (hf:Fit κ I J) (hp:Post (.tuple #[v,v',.agg cs.toArray]) J) (h0:N.ds=[]:=by rfl):V κ N (bodyPost P fn (RetR κ Post)) .ret L I:=
 fun a w ha hs=>by
  have hcell:=fun j=>cell_blk (w:=w) (hs.ok _ hb).1 j
  have hload:(loadVar T ⟨b,0,none⟩).run P w = .ok (.agg cs.toArray) w:=run_loadVar_agg hT hl fun j u hj=>by rw [addr_add,hcell,←hj];simp
  refine bodyPost_ret (v:= .tuple #[v,v',.agg cs.toArray]) ?_ (ha.defers.trans h0) ⟨_,J,rfl,hp,hf w hs⟩
  simp [results,hr,ha.get t _ hv,ha.get u _ hv',ha.get s _ hs',asAddr,hload]
end Go.Sl
namespace Go.Sl
open Go.Proofs
set_option maxRecDepth 4000
end Go.Sl
