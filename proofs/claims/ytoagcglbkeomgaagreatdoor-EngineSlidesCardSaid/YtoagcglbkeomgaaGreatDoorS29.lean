/- A part of the proofs of statements of this seat: contracts of functions, and the plain laws that they lean on. No conditions. -/
import Derived.Test.YtoagcglbkeomgaaGreatDoorS28
set_option linter.unusedVariables false
set_option linter.unusedSimpArgs false
set_option linter.unusedSectionVars false
open Go.Proofs.Tryz (prog)
set_option maxHeartbeats 4000000
open List (length_append length_take length_cons length_drop length_nil append_nil)
namespace Go.Sl
open Go.Proofs
set_option maxRecDepth 4000
variable{m most n:Int}{b k wc:Nat}{lv va:Value}{ls:List Int}{ws:List Ev}{wa:Option Addr}
abbrev evs41:List Ev:=[⟨1,1,0,1,1,0,1⟩,⟨1,2,1,2,1,0,1⟩,⟨1,3,0,2,1,0,1⟩]
theorem evs41_fit:∀e∈evs41,FitOk 3 e:=λe Z=>fitE_ok.1 (by
 simp only [List.mem_cons,List.not_mem_nil,or_false] at Z
 rcases Z with rfl|rfl|rfl<;>decide)
theorem evs41_run:runB 0 evs41=evs41:=by decide+kernel
theorem evs41_lates:BfS.lates 0 ⟨-1, -1,[]⟩ evs41=0:=by decide+kernel
theorem evs41_all:(EnS.run 1 0 0 0 evs41).S=[⟨0,1,1,0,1,1⟩,⟨0,2,1,0,1,3⟩,⟨1,2,1,0,1,2⟩]:=by
 rw [run_eq,evs41_run];decide+kernel
theorem st41(T:Int)(S:List Lk)(o:List Ev)(e:Ev)(Z:e.tm=T):evStep 2 2 0 (S,o) e=(ep (ageL 2 0 T S o).1 e,(ageL 2 0 T S o).2++[e]):=by rw [←Z];rfl
theorem evs41_age:(EnS.run 2 2 0 0 evs41).S=[⟨0,2,1,0,1,3⟩,⟨1,2,1,0,1,2⟩]:=by
 have Z:evStep 2 2 0 ([],[]) ⟨1,1,0,1,1,0,1⟩=([⟨0,1,1,0,1,1⟩],[⟨1,1,0,1,1,0,1⟩]):=by
  rw [st41 1 _ _ _ rfl,ageL_stop<|by decide+kernel];decide+kernel
 have a2:evStep 2 2 0 ([⟨0,1,1,0,1,1⟩],[⟨1,1,0,1,1,0,1⟩]) ⟨1,2,1,2,1,0,1⟩=([⟨0,1,1,0,1,1⟩,⟨1,2,1,0,1,2⟩],[⟨1,1,0,1,1,0,1⟩,⟨1,2,1,2,1,0,1⟩]):=by
  rw [st41 2 _ _ _ rfl,ageL_stop<|by decide+kernel];decide+kernel
 have M:List.filter (inW 2 2 0 (minT ([⟨0,1,1,0,1,1⟩,⟨1,2,1,0,1,2⟩]:List Lk)+2) [⟨0,1,1,0,1,1⟩,⟨1,2,1,0,1,2⟩]) ([⟨0,1,1,0,1,1⟩,⟨1,2,1,0,1,2⟩]:List Lk)=[⟨1,2,1,0,1,2⟩]:=by decide+kernel
 have a3:(evStep 2 2 0 ([⟨0,1,1,0,1,1⟩,⟨1,2,1,0,1,2⟩],[⟨1,1,0,1,1,0,1⟩,⟨1,2,1,2,1,0,1⟩]) ⟨1,3,0,2,1,0,1⟩).1=[⟨0,2,1,0,1,3⟩,⟨1,2,1,0,1,2⟩]:=by
  rw [st41 3 _ _ _ rfl,ageL_step<|by decide+kernel,M,ageL_stop<|by decide+kernel];decide+kernel
 rw [run_eq,evs41_run]
 show (evStep 2 2 0 (evStep 2 2 0 (evStep 2 2 0 ([],[]) ⟨1,1,0,1,1,0,1⟩) ⟨1,2,1,2,1,0,1⟩) ⟨1,3,0,2,1,0,1⟩).1=_
 rw [Z,a2,a3]
theorem Awake41_ok{κ:Ctx}{I:List Item}(hT:TabRd κ I 0 tzCells):eu prog κ 11 [] I (λr J=>r = .bool true/\I=J):=by
 refine Ce0 Tryz.func11 C C ?_
 refine Ad<|Ga C<|Ac<|Ad<|Gr (Bq (cells:=[_,_,_,_,_,_,_]) ty54 C9 pl54 C C)<|Gr (Bq (cells:=[_,_,_,_,_,_,_]) ty54 C9 pl54 C C)<|Gr (Bq (cells:=[_,_,_,_,_,_,_]) ty54 C9 pl54 C C)<|Ge1 (Ce (α:=Ev) (cs:=[e7 1,e7 1,e7 0,e7 1,e7 1,e7 0,e7 1,e7 1,e7 2,e7 1,e7 2,e7 1,e7 0,e7 1,e7 1,e7 3,e7 0,e7 2,e7 1,e7 0,e7 1]) (xs:=[⟨1,1,0,1,1,0,1⟩,⟨1,2,1,2,1,0,1⟩,⟨1,3,0,2,1,0,1⟩]) Al ty54 C C dc dc C kr C C) λM=>?_
 refine Ga C<|Ac<|Ad<|Gr (Bq (cells:=[_,_,_]) ty29 E0 pl29 C C)<|Gm C<|G.e (Aj c_ C C<|KRun_ok (T:=I) (evs:=evs41) (by repeat (first|exact B0 _|apply Bz|apply Ca)) Bi dc dc dc evs41_fit dc<|Bn hT Ax) ?_
 rintro _ _ ⟨_,_,⟨Z,Y3,rfl,ak,rfl⟩,rfl,rfl⟩
 refine D9 (J:=vc 54 (.slice M 3 3) (evs41)::(Y3++I)) (C4<|Dk (A:=Y3) (L:=[vc 54 (.slice M 3 3) evs41]) (T:=I)) ?_
 refine Gm C<|Gr (Ak C C)<|Gr (Ak C C)<|Gr (Ak C C)<|Ge1 (A4 ty47 C) λb4=>Ge0 (Eff.sq ty47) ?_
 refine Ga C<|Ga C<|Ac<|Ap (S4 4 3 2 1)<|Ad<|Gr (Bq (cells:=[_,_,_]) ty29 E0 pl29 C C)<|Gm C<|G.e (Aj c_ C C<|KRun_ok (T:=(Y3++I)) (evs:=evs41) (by repeat (first|exact B0 _|apply Bz|apply Ca)) Bi dc dc dc evs41_fit dc<|Bn hT Ax) ?_
 rintro _ _ ⟨_,_,⟨ao,Y6,rfl,aj,rfl⟩,rfl,rfl⟩
 refine D9 (J:=e8 b4 (kx 2 2 0 0 3 ((EnS.run 2 2 0 0 evs41)) Z) 47::vc 54 (.slice M 3 3) (evs41)::(Y6++(Y3++I))) (C4<|Dk (A:=Y6) (L:=[e8 b4 (kx 2 2 0 0 3 ((EnS.run 2 2 0 0 evs41)) Z) 47,vc 54 (.slice M 3 3) evs41]) (T:=(Y3++I))) ?_
 refine Gm C<|Gr (Ak C C)<|Gr (Ak C C)<|Gr (Ak C C)<|Ge1 (A4 ty47 C) λb7=>Ge0 (Eff.sq ty47) ?_
 refine Ga C<|Ga C<|Ac<|Ap (S5 7 5 4 3 2)<|Ad<|Gm C<|Gr (Br C C)<|Gm C<|Bh (d:=28) C (λad=>?_)<|λad=>?_
 ·refine e9 (Ai C) (e9 (Br C C)<|Gr (Av C C)<|Gm C<|Bh (d:=32) C (λah=>?_)<|λah=>?_)
  ·refine e9 (Ab fld47_2 C) (e9 (Ab fld35_1 C)<|e9 (A0 ty33) ?_)
   refine e9 (Bk A2 C)<|e9 (Br C C)<|Gr (Av C C)<|Gm C<|Bh (d:=39) C (λai=>?_)<|λai=>?_
   ·refine e9 (Ab fld47_5 C) (e9 (Ab fld43_1 C)<|e9 (A0 ef) ?_)
    refine e9 (Br C C)<|Gr (Av C C)<|Gm C<|Bh (d:=45) C (λae=>?_)<|λae=>?_
    ·refine e9 (Ai C) (e9 (Br C C)<|Gr (Av C C)<|Gm C<|Bh (d:=49) C (λaa=>?_)<|λaa=>?_)
     ·refine e9 (Ab fld47_5 C) (e9 (Ab fld43_1 C)<|e9 (A0 ef) ?_)
      refine e9 (Br C C)<|Gr (Av C C)<|Gm C<|Bh (d:=55) C (λab=>?_)<|λab=>?_
      ·refine e9 (Ab fld47_3 C) (e9 (Ab fld40_1 C)<|e9 (A0 ty22) ?_)
       refine Dx (Cq C C C) (Ce (α:=Int) (cs:=[_,_,_]) (xs:=[2,2,2]) Af ef C C dc dc C C C C) ?_
       rintro _ _ ⟨an,rfl,rfl⟩
       refine Dx (Cq C C C) (Aj c_ C C<|Cmp_ok (KpF.fit aj<|Cm (κ:=κ)<|by repeat (first|exact B0 _|apply Bz|apply Ca)).p.n1 Bi) ?_
       rintro _ _ ⟨_,_,⟨rfl,rfl⟩,rfl,rfl⟩
       exact e9 (Br C C)<|Gr (Av C C)<|Ga C<|Ac<|Ap (S1 0)<|Az<|A1 C C I (by first|exact Ax|exact FitW) ⟨rfl,rfl⟩
      exact absurd (show triS 3 (edgesK (EnS.run 1 0 0 0 evs41).S) / 3=1 by rw [evs41_all];decide+kernel) ab
     exact absurd rfl aa
    exact absurd (show triS 3 (edgesK (EnS.run 2 2 0 0 evs41).S) / 3=0 by rw [evs41_age];decide+kernel) ae
   exact absurd (show (((EnS.run 2 2 0 0 evs41).S.length:Nat):Int)=2 by rw [evs41_age];rfl) ai
  exact absurd (show ((BfS.lates 0 ⟨-1, -1,[]⟩ evs41:Nat):Int)=0 by rw [evs41_lates];rfl) ah
 exact absurd rfl ad
variable {κ:Ctx}{I:List Item}
theorem mix_next{tt:Int}{out:List Ev}{e:Ev}(h:∀e∈out,FitOk n e/\e.tm<=60)(Z:FitOk n e)(M:e.tm=tt)(hb:tt<=60):∀a∈out++[e],FitOk n a/\a.tm<=60:=λa ha=>by
 rcases List.mem_append.1 ha with ha|ha
 ·exact h a ha
 rw [List.mem_singleton.1 ha];exact ⟨Z,by omega⟩
theorem MkMixed_base{i:Int}(hl:∀q,Sl κ (deck b lv q::I) lv ls)(h0:0<=i)(hn:2<=n/\n<=64)(hm:0<=most/\most<=20):eu prog κ 16 [(pt b),e7 n,e7 most] (e8 b [lv,e7 i] 85::I) (λr J=>∃y:(Option Addr)×Nat×(List Ev)×Int,((r = .slice y.1 y.2.2.1.length y.2.1/\((∀e∈y.2.2.1,FitOk n e/\e.tm<=60)/\(y.2.2.1.length:Int)<=most))/\0<=y.2.2.2)/\J=[vk 54 y.1 y.2.1 y.2.2.1]++deck b lv y.2.2.2::I):=by
 refine Ce3 Tryz.func16 C C ?_
 refine Ad<|Ga C<|Ac<|Ad<|Ga C<|Ac<|Ad<|Ga C<|Ac<|Ar<|Ad<|Gm C<|Gm C<|Gr (Rad C C)<|G.e (Aj c_ C C<|Next_ok (by repeat (first|exact AtF.head _ _|apply AtF.tail)) (Bu (hl _) Ax) om om) ?_
 rintro _ _ ⟨_,_,⟨x1,i2,rfl,au,av,rfl⟩,rfl,rfl⟩
 refine Ga C<|Ac<|A5<|B1 (σ:=Int×Int×(Option Addr)×Nat×(List Ev)×Int) (λs=>([(0,pt b),(1,e7 n),(7,.slice s.2.2.1 s.2.2.2.2.1.length s.2.2.2.1),(8,e7<|s.2.2.2.2.2),(9,e7<|s.1)]:Env)) (λs=>vk 54 s.2.2.1 s.2.2.2.1 s.2.2.2.2.1::e8 b [lv,e7<|s.2.1] 85::I) (λs=>(0<=s.1/\(s.2.2.2.2.1.length:Int)+s.1<=most)/\(0<=s.2.1)/\(∀e∈s.2.2.2.2.1,FitOk n e/\e.tm<=60)/\(5<=s.2.2.2.2.2/\s.2.2.2.2.2<=5+2*(s.2.2.2.2.1.length:Int))) (λs=>s.1.toNat) (x1,i2,none,0,[],5) ⟨(by simp only [length_nil];omega),om,(λe he=>by cases he),(by simp only [length_nil];omega)⟩ (cx2<|Aa (C8 C<|by first|rfl|simp)<|Aa Cd<|Aa Cd Bp) (Cf _ _) ?_
 rintro ⟨kq,aa,a1,c1,out,tt⟩ hp
 dsimp only at hp ⊢
 obtain ⟨ay,ap,hE,az⟩:=hp
 refine Ar<|Ad<|Gm C<|Gr (B2 C C)<|Gm C<|Bh (d:=16) C (λai=>?_)<|λai=>?_
 ·refine e9 (Ai C) (e9 (B2 C C)<|Gr (Av C C)<|Ac<|A7 C (λae=>?_)<|λae=>?_)
  ·refine Aw (Ah<|Ar<|A5<|Ad<|Gm C<|Gm C<|Gm C<|Gm C<|Gm C<|G.e (Aj c_ C C<|Next_ok (by repeat (first|exact AtF.head _ _|apply AtF.tail)) (Bu (hl _) Ax) om om) ?_)
   rintro _ _ ⟨_,_,⟨x3,i4,rfl,aw,ax,rfl⟩,rfl,rfl⟩
   refine Gr (Rsu C C)<|Gr (Dm C C) ?_
   have ah:(if 0<(tt - x3) then (tt - x3) else 0)=max 0 ((tt - x3)):=by split<;>omega
   rw [ah]
   refine G.e (Aj c_ C C<|MkEvent_at (by repeat (first|exact AtF.head _ _|apply AtF.tail)) (λ_=>Bu (hl _) Ax) om  om om) ?_
   rintro _ _ ⟨_,_,⟨⟨Z,i6⟩,⟨⟨rfl,ab,M⟩,ad⟩,rfl⟩,rfl,rfl⟩
   have ad:0<=i6:=ad
   dsimp only at ab
   dsimp only at M
   refine Ge1 (Ce (α:=Ev) (cs:=(ez Z)) (xs:=[⟨Z.kd,Z.tm,Z.u,Z.v,Z.w,Z.lb,Z.sg⟩]) Al ty54 C C dc dc C kr C C) λa0=>?_
   refine Ge2 (B3 (α:=Ev) (e:=54) (xs:=out) (ys:=([Z]:List Ev)) Al ty54 C C C mm Bi lcn dc C<|λ_ _=>am) λaj ao=>?_
   refine Ga C<|Ac<|Ap (S5 7 0 1 8 9)<|Ay<|Gm C<|Gm C<|G.e (Aj c_ C C<|Next_ok (by repeat (first|exact AtF.head _ _|apply AtF.tail)) (Bu (hl _) Ax) om om) ?_
   rintro _ _ ⟨_,_,⟨an,ak,rfl,ar,aq,rfl⟩,rfl,rfl⟩
   exact Gr (Rad C C)<|Ga C<|Bj<|Am<|Ah<|Ay<|Gm C<|Gr (Rsu C C)<|Ga C<|Bj<|Cb ((kq - 1),(ak),(aj),(ao),(out++([Z]:List Ev)),(tt+an))<|by dsimp only;exact ⟨lap,om,(by first|exact mix_next hE asm asm om),lap⟩
  exact absurd hn.1 om
 exact eb<|eb<|Gr (Au C C)<|Ac<|Dg C<|Bt<|Aq<|Aq<|Bb<|Ah<|Ad<|Gm C<|Ga C<|Ac<|Ap (S1 6)<|Az<|A1 C C (vk 54 a1 c1 out::e8 b [lv,e7 aa] 85::I) Bg ⟨(a1,c1,out,aa),⟨⟨rfl,⟨hE,by show (out.length:Int)<=most;omega⟩⟩,by show 0<=aa;omega⟩,rfl⟩
theorem MkMixed_at{F:Item->List Item}{i:Int}(M:AtF I (deck b lv i) F)(hl:∀q,Sl κ (F (deck b lv q)) lv ls)(h0:0<=i)(hn:2<=n/\n<=64)(hm:0<=most/\most<=20):eu prog κ 16 [(pt b),e7 n,e7 most] I λr J=>∃y:(Option Addr)×Nat×(List Ev)×Int,((r = .slice y.1 y.2.2.1.length y.2.1/\((∀e∈y.2.2.1,FitOk n e/\e.tm<=60)/\(y.2.2.1.length:Int)<=most))/\0<=y.2.2.2)/\J=[vk 54 y.1 y.2.1 y.2.2.1]++F (deck b lv y.2.2.2):=
 eu.at (Post:=λr (y:(Option Addr)×Nat×(List Ev)×Int)=>(r = .slice y.1 y.2.2.1.length y.2.1/\((∀e∈y.2.2.1,FitOk n e/\e.tm<=60)/\(y.2.2.1.length:Int)<=most))/\0<=y.2.2.2) (Z:=λy:(Option Addr)×Nat×(List Ev)×Int=>[vk 54 y.1 y.2.1 y.2.2.1]) (X:=λy:(Option Addr)×Nat×(List Ev)×Int=>deck b lv y.2.2.2) M λJ _ hF=>MkMixed_base (λq=>(hl q).fit (hF _)) h0  hn hm
variable {κ:Ctx}{I:List Item}
theorem asc_prev(h:ws.Pairwise λa b=>a.tm<=b.tm)(M:0<k)(Z:k<ws.length):(e_ ws ((k:Int) - 1)).tm<=(e_ ws k).tm:=by
 have e:((k:Int) - 1)=((k - 1:Nat):Int):=by omega
 rw [e]
 exact (pairwise_at ws).1 h (k - 1) k om Z
theorem filt_len2{α:Type}(p:α->Bool):∀l:List α,(l.filter p).length+(l.filter λx=> !p x).length=l.length
 |[]=>rfl
 |x::l=>by
  have Z:=filt_len2 p l
  cases h:p x<;>simp [h]<;>omega
theorem out_push(s:BfS)(bd:Int)(e:Ev):(s.out bd e).length+(s.push bd e).ws.length=s.ws.length+1:=by
 have h:=filt_len2 (λx:Ev=>decide<|x.tm<=relM bd s e) (pushW s e)
 rw [push_len] at h
 exact h
theorem upTo_take2(Z:k<ws.length):(upTo m (ws.take (k+1))=upTo m (ws.take k)++if (e_ ws k).tm<=m then [e_ ws k] else [])/\(beyond m (ws.take (k+1))=beyond m (ws.take k)++if (e_ ws k).tm<=m then [] else [e_ ws k]):=by
 unfold upTo beyond
 rw [Cj ws k Z,List.filter_append,List.filter_append]
 by_cases h:(e_ ws k).tm<=m<;>simp [h]
theorem R6Valid_ok{bd:Int}{bf:BfS}(M:Sl κ I (.slice wa bf.ws.length wc) bf.ws)(Z:BfOk bd bf)(hw:bf.ws.length<=4096):eu prog κ 111 [.agg #[e7 bd,e7 (bf.lt),e7 (bf.mr),.slice wa bf.ws.length wc]] I (λr J=>r = .bool true/\I=J):=by
 have au:=Z.bd
 have ax:=Z.lt
 have av:=Z.mr
 refine Ce1 Tryz.func111 C C ?_
 refine Ad<|Ge1 (Bd (cs:=[_,_,_,_]) C C C) λb1=>Ga C<|Ac<|Ar<|Ad<|Gf fld32_0 C<|Gl ef ?_
 refine Gr (A9 C C)<|Gm C<|Bh (d:=8) C (λg8=>?_)<|λg8=>?_
 ·omega
 refine e9 (Ab fld32_0 C)<|e9 (A0 ef) ?_
 refine e9 (B2 C C)<|Gr (Au C C)<|Gm C<|Bh (d:=13) C (λao=>?_)<|λao=>?_
 ·omega
 refine e9 (Ab fld32_2 C)<|e9 (A0 ef) ?_
 refine e9 (A9 C C)<|Gr (Au C C)<|Gm C<|Bh (d:=18) C (λaj=>?_)<|λaj=>?_
 ·omega
 refine e9 (Ab fld32_2 C)<|e9 (A0 ef) ?_
 refine e9 (Ab fld32_1 C)<|e9 (A0 ef) ?_
 refine e9 (B2 C C)<|Gr (Au C C)<|Gm C<|Bh (d:=25) C (λah=>?_)<|λah=>?_
 ·omega
 refine e9 (Ab fld32_1 C)<|e9 (A0 ef) ?_
 refine e9 (B2 C C)<|Gr (Au C C)<|Gm C<|Bh (d:=30) C (λak=>?_)<|λak=>?_
 ·omega
 refine e9 (Ab fld32_3 C)<|e9 (A0 ty30) ?_
 refine e9 (Bk Al C)<|e9 (B2 C C)<|Gr (Au C C)<|Ac<|Ap (S2 35 1)<|A7 C (λaq=>?_)<|λaq=>?_
 ·omega
 refine Aw<|Ah<|Ar<|Ad<|Gf fld32_3 C<|Gl ty30 ?_
 refine Gr (Bk Al C)<|Gm C<|Ac<|A5<|B1 (σ:=Nat) (λs=>([(1,pt b1),(37,.slice wa bf.ws.length wc),(38,e7 ((bf.ws.length:Nat):Int)),(39,e7 ((s:Nat):Int))]:Env)) (λs=>e8 b1 [e7 bd,e7<|bf.lt,e7<|bf.mr,.slice wa bf.ws.length wc] 32::I) (λs=>(s<=bf.ws.length)) (λs=>bf.ws.length - s) 0 om (cx2<|Aa C<|Aa Cd Bp) Bg ?_
 rintro k hp
 have hk:=hp
 refine Ad<|Gr (A9 C C)<|Ac<|Ar<|A7 C (λap=>?_)<|λap=>?_
 ·refine Aw (Ah<|Ar<|A5<|Ad<|Gm C<|Gr (A3 (α:=Ev) (xs:=bf.ws) Al ty54 C C (A8 M) om om)<|Gr (Bv (α:=Ev) (xs:=bf.ws) ty54 C (A8 M) om om) ?_)
  have ab:=Z.chk _ (B7 (xs:=bf.ws) (i:=(k:Int)) om om)
  have aw:=Z.rng _ (B7 (xs:=bf.ws) (i:=(k:Int)) om om)
  have aa:=λq:0<k=>asc_prev Z.asc (k:=k) q om
  refine Ge1 (A4 ty54 C) λb2=>Ga C<|Ge0 (E8 ty54) ?_
  refine Ac<|Ar<|Bs mixed<|El 33<|Dr 0 C (Bc (vs:=[_,_,_,_,_,_,_]) ty54) ?_
  refine Ds1 1<|Sc0 C (Aj c_ C C<|CheckE4_ok<|e_ bf.ws k) ?_
  refine Dr 2 C (Be C C)<|Dr 3 C (Ai C)<|Dw (d:=47) C (λad=>?_)<|λad=>?_
  ·exact absurd ab ad
  refine Dro 4 C (Ab fld54_1 C)<|Dro 5 C (A0 ef) ?_
  refine Dro 6 C (Ab fld32_2 C)<|Dro 7 C (A0 ef) ?_
  refine Dro 8 C (Ej C C)<|Dr 9 C (Au C C)<|Dr 10 C (Ai C)<|Dw (d:=54) C (λan=>?_)<|λan=>?_
  ·omega
  refine Dro 11 C (Ab fld54_1 C)<|Dro 12 C (A0 ef) ?_
  refine Dro 13 C (Ab fld32_1 C)<|Dro 14 C (A0 ef) ?_
  refine Dro 15 C (B2 C C)<|Dr 16 C (Au C C)<|Dr 17 C (Ai C)<|Dw (d:=61) C (λar=>?_)<|λar=>?_
  ·omega
  refine Dro 18 C (Ai C)<|Dro 19 C (B2 C C)<|Dro 20 C (Ai C)<|Dw (d:=64) C (λae=>?_)<|λae=>?_
  ·refine Dro 21 C (Ab fld32_3 C) (Dro 22 C (A0 ty30) ?_)
   refine Dro 23 C (Ai C)<|Dro 24 C (Rsu C C)<|Dro 25 C (A3 (α:=Ev) (xs:=bf.ws) Al ty54 C C (A8 M) om om)<|Dro 26 C (Fg (α:=Ev) (xs:=bf.ws) fld54_1 C (A8 M) om)<|Dro 27 C (E9 (α:=Ev) (xs:=bf.ws) (u:=e7 ((e_ bf.ws<|(k:Int) - 1).tm)) ef C (A8 M) om om C)<|Dro 28 C (Ab fld54_1 C)<|Dro 29 C (A0 ef) ?_
   refine Dro 30 C (B2 C C)<|Dro 31 C (Av C C)<|Dr 32 C (Au C C)<|Dz<|Ah<|Ap (S5 76 1 37 38 39)<|A7 C (λai=>?_)<|λai=>?_
   ·exact absurd (aa om) om
   exact Aw<|Am<|Ah<|Ay<|Gr (Rad C C)<|Gm C<|Bj<|Cb ((k+1)) om
  exact Dpo 21 C<|Dpo 22 C<|Dpo 23 C<|Dpo 24 C<|Dpo 25 C<|Dpo 26 C<|Dpo 27 C<|Dpo 28 C<|Dpo 29 C<|Dpo 30 C<|Dro 31 C (Au C C)<|Dr 32 C (Au C C)<|Dz<|Ah<|Ap (S5 76 1 37 38 39)<|Dg C<|Aw<|Am<|Ah<|Ay<|Gr (Rad C C)<|Gm C<|Bj<|Cb ((k+1)) om
 exact Bt<|Aq<|Aq<|Bb<|Ah<|Ad<|Ga C<|Ac<|Az<|A1 C C I Ax ⟨rfl,rfl⟩
theorem R6Rel_ok{bd lt mr:Int}(hl:Sl κ I (.slice wa ws.length wc) ws)(hw:ws.length<=5000):eu prog κ 113 [.agg #[e7 bd,e7 lt,e7 mr,.slice wa ws.length wc],e7 m] I (λr J=>∃(a:Option Addr) (c:Nat) (a2:Option Addr) (c2:Nat),r = .tuple #[.agg #[e7 bd,e7 lt,e7 (max mr m),.slice a (beyond m ws).length c],.slice a2 (upTo m ws).length c2]/\J=vk 54 a2 c2 (upTo m ws)::vk 54 a c (beyond m ws)::I):=by
 refine Ce2 Tryz.func113 C C ?_
 refine Ad<|Ge1 (Bd (cs:=[_,_,_,_]) C C C) λb1=>Ge1 (A4 ty32 C) λb2=>Ga C<|Ac<|Ad<|Ga C<|Ga C<|Ac<|Ar<|Ad<|Gf fld32_3 C<|Gl ty30 ?_
 refine Gr (Bk Al C)<|Gm C<|Ac<|A5<|B1 (σ:=Nat×(Option Addr)×Nat×(List Ev)×(Option Addr)×Nat×(List Ev)) (λs=>([(1,e7 m),(2,pt b1),(4,pt b2),(6,.slice s.2.1 s.2.2.2.1.length s.2.2.1),(7,.slice s.2.2.2.2.1 s.2.2.2.2.2.2.length s.2.2.2.2.2.1),(11,.slice wa ws.length wc),(12,e7 ((ws.length:Nat):Int)),(13,e7 ((s.1:Nat):Int))]:Env)) (λs=>vk 54 s.2.1 s.2.2.1 s.2.2.2.1::vk 54 s.2.2.2.2.1 s.2.2.2.2.2.1 s.2.2.2.2.2.2::e8 b2 [e7 0,e7 0,e7 0,.slice none 0 0] 32::e8 b1 [e7 bd,e7 lt,e7 mr,.slice wa ws.length wc] 32::I) (λs=>(s.1<=ws.length)/\(s.2.2.2.1=upTo m (ws.take s.1))/\(s.2.2.2.2.2.2=beyond m (ws.take s.1))/\(s.2.2.2.1.length<=s.1/\s.2.2.2.2.2.2.length<=s.1)) (λs=>ws.length - s.1) (0,none,0,[],none,0,[]) ⟨om,rfl,rfl,(by simp)⟩ (cx2<|Aa C<|Aa (C8 C<|by first|rfl|simp)<|Aa (C8 C<|by first|rfl|simp)<|cx2<|Aa Cd Bp) (Co (Co (show Fit κ _ _ from Bl)<|Cf (α:=Ev) _ _)<|Cf (α:=Ev) _ _) ?_
 rintro ⟨k,oa,oc,o,ra,rc,rs⟩ hp
 dsimp only at hp ⊢
 obtain ⟨hk,ho,M,ak⟩:=hp
 refine Ad<|Gr (A9 C C)<|Ac<|Ar<|A7 C (λad=>?_)<|λad=>?_
 ·refine Aw (Ah<|Ar<|A5<|Ad<|Gr (A3 (α:=Ev) (xs:=ws) Al ty54 C C (A8 hl) om om)<|Gr (Bv (α:=Ev) (xs:=ws) ty54 C (A8 hl) om om)<|Ge1 (A4 ty54 C) λb3=>Ge0 (E8 ty54) ?_)
  refine Ac<|Ad<|Gf fld54_1 C<|Gl ef ?_
  refine Gm C<|Gr (Ej C C)<|Ac<|Ap (S10 20 9 1 2 4 6 7 11 12 13)<|A7 C (λZ=>?_)<|λZ=>?_
  ·refine Ay (Gm C<|Gl7 ty54 ?_)
   refine Ge1 (Ce (α:=Ev) (cs:=(ez (e_ ws k))) (xs:=[⟨(e_ ws k).kd,(e_ ws k).tm,(e_ ws k).u,(e_ ws k).v,(e_ ws k).w,(e_ ws k).lb,(e_ ws k).sg⟩]) Al ty54 C C dc dc C kr C C) λai=>?_
   refine Ge2 (B3 (α:=Ev) (e:=54) (xs:=o) (ys:=([⟨(e_ ws k).kd,(e_ ws k).tm,(e_ ws k).u,(e_ ws k).v,(e_ ws k).w,(e_ ws k).lb,(e_ ws k).sg⟩]:List Ev)) Al ty54 C C C mm Bi lcn dc C<|λ_ _=>am) λab ah=>?_
   exact Ga C<|Bj<|Am<|Ah<|Ap (S8 6 1 2 4 7 11 12 13)<|Ay<|Gr (Rad C C)<|Gm C<|Bj<|Cb ((k+1),(ab),(ah),(o++([⟨(e_ ws k).kd,(e_ ws k).tm,(e_ ws k).u,(e_ ws k).v,(e_ ws k).w,(e_ ws k).lb,(e_ ws k).sg⟩]:List Ev)),(ra),(rc),(rs))<|by dsimp only;exact ⟨om,(by rw [(upTo_take2 om).1,←ho];first|(rw [if_pos Z];done)|(rw [if_pos Z];rfl)|(rw [if_neg Z,append_nil])),(by rw [(upTo_take2 om).2,←M];first|(rw [if_neg Z];done)|(rw [if_neg Z];rfl)|(rw [if_pos Z,append_nil])),olp⟩
  refine Ay<|Gm C<|Gl7 ty54 ?_
  refine Ge1 (Ce (α:=Ev) (cs:=(ez (e_ ws k))) (xs:=[⟨(e_ ws k).kd,(e_ ws k).tm,(e_ ws k).u,(e_ ws k).v,(e_ ws k).w,(e_ ws k).lb,(e_ ws k).sg⟩]) Al ty54 C C dc dc C kr C C) λaj=>?_
  refine Ge2 (B3 (α:=Ev) (e:=54) (xs:=rs) (ys:=([⟨(e_ ws k).kd,(e_ ws k).tm,(e_ ws k).u,(e_ ws k).v,(e_ ws k).w,(e_ ws k).lb,(e_ ws k).sg⟩]:List Ev)) Al ty54 C C C mm Bi lcn dc C<|λ_ _=>am) λaa ae=>?_
  exact Ga C<|Bj<|Am<|Ah<|Ap (S8 7 1 2 4 6 11 12 13)<|Ay<|Gr (Rad C C)<|Gm C<|Bj<|Cb ((k+1),(oa),(oc),(o),(aa),(ae),(rs++([⟨(e_ ws k).kd,(e_ ws k).tm,(e_ ws k).u,(e_ ws k).v,(e_ ws k).w,(e_ ws k).lb,(e_ ws k).sg⟩]:List Ev)))<|by dsimp only;exact ⟨om,(by rw [(upTo_take2 om).1,←ho];first|(rw [if_pos Z];done)|(rw [if_pos Z];rfl)|(rw [if_neg Z,append_nil])),(by rw [(upTo_take2 om).2,←M];first|(rw [if_neg Z];done)|(rw [if_neg Z];rfl)|(rw [if_pos Z,append_nil])),olp⟩
 refine Bt<|Aq<|Aq<|Bb<|Ah<|Ad<|Gm C<|Gf fld32_2 C<|Gl ef ?_
 refine Gm C<|Gr (Dm C C)<|Gf fld32_3 C<|Ge0 (B6 (cs:=[_,_,_,_]) (vs:=[_]) (cs':=[_,_,_,_]) ty30) ?_
 refine Gf fld32_2 C<|Ge0 (B6 (cs:=[_,_,_,_]) (vs:=[_]) (cs':=[_,_,_,_]) ef) ?_
 refine Ac<|Ap (S3 2 4 6)<|Ad<|Gl4 ty32 ?_
 refine Gm C<|Ge0 (C5 ty32) ?_
 refine Ga C<|Ac<|Az ?_
 rw [show ws.take k=ws from List.take_of_length_le om] at ho M
 exact C0 C ty32 C C mm C (vk 54 oa oc (upTo m ws)::vk 54 ra rc (beyond m ws)::I) (by unfold vk;rw [←ho,←M];exact Bl) ⟨ra,rc,oa,oc,by rw [←ho,←M,←ifmax],rfl⟩
variable {κ:Ctx}{I:List Item}
theorem R6Cop_ok{bd:Int}{bf:BfS}(hl:Sl κ I (.slice wa bf.ws.length wc) bf.ws)(hw:bf.ws.length<=4096):eu prog κ 112 [.agg #[e7 bd,e7 (bf.lt),e7 (bf.mr),.slice wa bf.ws.length wc]] I (λr J=>∃(a:Option Addr) (c:Nat),r = .agg #[e7 bd,e7 bf.lt,e7 bf.mr,.slice a bf.ws.length c]/\J=vk 54 a c bf.ws::I):=by
 refine Ce1 Tryz.func112 C C ?_
 refine Ad<|Ge1 (Bd (cs:=[_,_,_,_]) C C C) λb1=>Ge1 (A4 ty32 C) λb2=>Ac<|Ad<|Gf fld32_3 C<|Gl ty30 ?_
 refine Ge2 (Eff.clone (α:=Ev) (ys:=bf.ws) Al ty54 C C C (A8 hl) om dc C) λM Z=>?_
 refine Gf fld32_3 C<|Ge0 (B6 (cs:=[_,_,_,_]) (vs:=[_]) (cs':=[_,_,_,_]) ty30) ?_
 refine Ac<|Ad<|Gl4 ty32 ?_
 refine Ge0 (C5 ty32) ?_
 exact Ac<|Az<|Ez C ty32 C mm C (vk 54 M Z (bf.ws)::I) Bl ⟨M,Z,rfl,rfl⟩
theorem R6PushL_ok{e:Ev}{bd:Int}{bf:BfS}(hl:Sl κ I (.slice wa bf.ws.length wc) bf.ws)(M:BfOk bd bf)(hw:bf.ws.length<=4096)(he:checkE e=0)(ht:e.tm<=bf.mr):eu prog κ 67 [.agg #[e7 bd,e7 (bf.lt),e7 (bf.mr),.slice wa bf.ws.length wc],.agg (ez e).toArray] I (λr J=>∃(a:Option Addr) (c:Nat),r = .tuple #[.agg #[e7 bd,e7 bf.lt,e7 bf.mr,.slice a bf.ws.length c],.slice none 0 0,e7 10]/\I=J):=by
 have ae:=M.bd
 have ai:=M.lt
 have ah:=M.mr
 refine Ce2 Tryz.func67 C C ?_
 refine Ad<|Ge1 (Bd (cs:=[_,_,_,_]) C C C) λb1=>Ge1 (Bd (cs:=[_,_,_,_,_,_,_]) C C C) λb2=>Ge1 (A4 ty32 C) λb3=>Ga C<|Ga C<|Ac<|Ar<|Ad<|Gl4 ty32 ?_
 refine G.e (Aj c_ C C<|R6Valid_ok (bd:=bd) (bf:=bf) (A8 hl) M om) ?_
 rintro _ _ ⟨_,_,⟨rfl,rfl⟩,rfl,rfl⟩
 refine Gr (Cn C)<|Ac<|Dg C<|Aw<|Ah<|Ar<|Ad<|Gl7 ty54 ?_
 refine Gc0 (Aj c_ C C<|CheckE4_ok e) ?_
 refine Ga C<|Ac<|Ad<|Gm C<|Gr (Be C C)<|Ac<|Ap (S5 20 7 4 3 2)<|A7 C (λZ=>?_)<|λZ=>?_
 ·exact absurd he Z
 refine Aw<|Ah<|Ar<|Ad<|Gf fld54_1 C<|Gl ef ?_
 refine Gf fld32_2 C<|Gl ef ?_
 refine Gr (Ej C C)<|Ac<|A7 C (λaa=>?_)<|λaa=>?_
 ·refine Ad (Gl4 ty32 ?_)
  refine Gc2 (Aj c_ C C<|R6Cop_ok (bd:=bd) (bf:=bf) (A8 hl) om) λab ad=>?_
  refine Ge0 (C5 ty32) ?_
  exact Ga C<|Ga C<|Ac<|Ap (S3 6 5 4)<|Az<|Ao<|Cy C ty32 C C C mm C I Ax ⟨ab,ad,rfl,rfl⟩
 omega
theorem push_eq2{bf:BfS}{e:Ev}{i:Nat}(h:placeG evC bf.ws e bf.ws.length=i):List.take i bf.ws++[⟨e.kd,e.tm,e.u,e.v,e.w,e.lb,e.sg⟩]++List.drop i bf.ws=pushW bf e:=push_eq h
theorem R6Push_ok{e:Ev}{bd:Int}{bf:BfS}(M:Sl κ I (.slice wa bf.ws.length wc) bf.ws)(hB:BfOk bd bf)(hw:bf.ws.length<=4096)(he:checkE e=0)(ht:bf.mr<e.tm)(hT:0<=e.tm/\e.tm<=1048576)(b6:bf.ws.length<4096):eu prog κ 67 [.agg #[e7 bd,e7 (bf.lt),e7 (bf.mr),.slice wa bf.ws.length wc],.agg (ez e).toArray] I (λr J=>∃(a:Option Addr) (c:Nat) (a2:Option Addr) (c2:Nat),r = .tuple #[.agg #[e7 bd,e7 (bf.push bd e).lt,e7 (bf.push bd e).mr,.slice a (bf.push bd e).ws.length c],.slice a2 ((bf.out bd e)).length c2,e7 0]/\J=vk 54 a2 c2 ((bf.out bd e))::vk 54 a c (bf.push bd e).ws::I):=by
 have b5:=hB.bd
 have bv:=hB.lt
 have b4:=hB.mr
 refine Ce2 Tryz.func67 C C ?_
 refine Ad<|Ge1 (Bd (cs:=[_,_,_,_]) C C C) λb1=>Ge1 (Bd (cs:=[_,_,_,_,_,_,_]) C C C) λb2=>Ge1 (A4 ty32 C) λb3=>Ga C<|Ga C<|Ac<|Ar<|Ad<|Gl4 ty32 ?_
 refine G.e (Aj c_ C C<|R6Valid_ok (bd:=bd) (bf:=bf) (A8 M) hB om) ?_
 rintro _ _ ⟨_,_,⟨rfl,rfl⟩,rfl,rfl⟩
 refine Gr (Cn C)<|Ac<|Dg C<|Aw<|Ah<|Ar<|Ad<|Gl7 ty54 ?_
 refine Gc0 (Aj c_ C C<|CheckE4_ok e) ?_
 refine Ga C<|Ac<|Ad<|Gm C<|Gr (Be C C)<|Ac<|Ap (S5 20 7 4 3 2)<|A7 C (λaz=>?_)<|λaz=>?_
 ·exact absurd he az
 refine Aw<|Ah<|Ar<|Ad<|Gf fld54_1 C<|Gl ef ?_
 refine Gf fld32_2 C<|Gl ef ?_
 refine Gr (Ej C C)<|Ac<|A7 C (λa5=>?_)<|λa5=>?_
 ·omega
 refine Aw<|Ah<|Ar<|Ad<|Gf fld32_3 C<|Gl ty30 ?_
 refine Gr (Bk Al C)<|Gr (Cv C C)<|Ac<|Ap (S4 34 4 3 2)<|A7 C (λa8=>?_)<|λa8=>?_
 ·omega
 refine Aw<|Ah<|Ad<|Gf fld32_3 C<|Gl ty30 ?_
 refine Gr (Bk Al C)<|Ga C<|Ac<|Ar<|A5<|B1 (σ:=Nat) (λs=>([(2,pt b1),(3,pt b2),(4,pt b3),(8,e7 ((s:Nat):Int))]:Env)) (λs=>e8 b3 [e7 0,e7 0,e7 0,.slice none 0 0] 32::e8 b2 (ez e) 54::e8 b1 [e7 bd,e7<|bf.lt,e7<|bf.mr,.slice wa bf.ws.length wc] 32::I) (λs=>(s<=bf.ws.length)/\(placeG evC bf.ws e bf.ws.length=placeG evC bf.ws e s)) (λs=>s) (bf.ws.length) ⟨om,rfl⟩ (cx2<|Aa C<|Aa Cd Bp) Bg ?_
 rintro i hp
 obtain ⟨hi,hj⟩:=hp
 refine Ar<|Ar<|Bs mixed<|El 14<|Dr 0 C (Ai C)<|Dr 1 C (B2 C C)<|Dr 2 C (Ai C)<|Dw (d:=42) C (λa7=>?_)<|λa7=>?_
 ·refine Dro 3 C (Ab fld32_3 C) (Dro 4 C (A0 ty30) ?_)
  refine Dro 5 C (Ai C)<|Dro 6 C (Rsu C C)<|Dro 7 C (A3 (α:=Ev) (xs:=bf.ws) Al ty54 C C (A8 M) om om)<|Dro 8 C (Fg (α:=Ev) (xs:=bf.ws) fld54_1 C (A8 M) om)<|Dro 9 C (E9 (α:=Ev) (xs:=bf.ws) (u:=e7 ((e_ bf.ws<|(i:Int) - 1).tm)) ef C (A8 M) om om C)<|Dro 10 C (Ab fld54_1 C)<|Dro 11 C (A0 ef) ?_
  refine Dro 12 C (B2 C C)<|Dr 13 C (Av C C)<|Dz<|Ah<|Ap (S5 53 2 3 4 8)<|A7 C (λaa=>?_)<|λaa=>?_
  ·exact Aw<|Ah<|A5<|Ay<|Gm C<|Gr (Rsu C C)<|Ga C<|Bj<|Am<|Cb ((i - 1)) ⟨om,(place_step om aa hj)⟩
  refine Bt<|Aq<|Aq<|Bb<|Ah<|Ad<|Gf fld32_3 C<|Gl ty30 ?_
  refine Gm C<|Gr (Runs.hi (α:=Ev) (xs:=bf.ws) (h:=i) Al ty54 C C om (A8 M) om)<|Ge2 (Eff.clone (α:=Ev) (ys:=List.take i bf.ws) Al ty54 C C C (Sl.take (A8 M) om) (by first|omega|(simp only [length_append,length_take,length_drop,length_cons,length_nil];omega)) dc C) λbt bw=>?_
  refine Ga C<|Ac<|W.cut (σ:=(Option Addr)×Nat) (λs=>([(2,pt b1),(3,pt b2),(4,pt b3)]:Env)) (λs=>e8 b1 [e7 bd,e7<|bf.lt,e7<|bf.mr,.slice s.1 (pushW bf e).length s.2] 32::vk 54 s.1 s.2 (pushW bf e)::e8 b3 [e7 0,e7 0,e7 0,.slice none 0 0] 32::e8 b2 (ez e) 54::I) (λs=>True) ?_ ?_
  ·refine Bs mixed (Cc (e8 b3 [e7 0,e7 0,e7 0,.slice none 0 0] 32::e8 b2 (ez e) 54::I) 10<|Dr 0 C (Ai C)<|Dr 1 C (Bc (vs:=[_,_,_,_,_,_,_]) ty54) ?_)
   refine Dr 4 C (Ab fld32_3 C)<|Dr 6 C (Ai C)<|Do (rs:=[2,5]) kr C C<|Eu ?_<|D6 ?_
   ·refine Se1 C (Ce (α:=Ev) (cs:=(ez e)) (xs:=[⟨e.kd,e.tm,e.u,e.v,e.w,e.lb,e.sg⟩]) Al ty54 C C dc dc C kr C C) λbx=>?_
    refine Do (rs:=[3,5]) kr C C<|Eu ?_<|D6 ?_
    ·refine Se2 C (B3 (α:=Ev) (e:=54) (xs:=List.take i bf.ws) (ys:=([⟨e.kd,e.tm,e.u,e.v,e.w,e.lb,e.sg⟩]:List Ev)) Al ty54 C C C mm Bi (by first|omega|(simp only [length_append,length_take,length_drop,length_cons,length_nil];omega)) dc C<|λ_ _=>am) λb8 bz=>?_
     refine Ds1 5<|Sr C (A0 ty30) Bl ?_
     refine Dr 7 C (D0 (α:=Ev) (xs:=bf.ws) (l:=i) Al ty54 C C om (A8 M) om)<|Ds1 8<|Se2 C (B3 (α:=Ev) (e:=54) (xs:=(List.take i bf.ws)++([⟨e.kd,e.tm,e.u,e.v,e.w,e.lb,e.sg⟩]:List Ev)) (ys:=List.drop i bf.ws) Al ty54 C C C mm (E4 (A8 M) om) (by first|omega|(simp only [length_append,length_take,length_drop,length_cons,length_nil];omega)) dc C<|λ_ _=>am) λa9 aq=>?_
     refine Dr 9 C (Ab fld32_3 C)<|Cs kr ?_
     refine Ae 10 C (B6 (cs:=[_,_,_,_]) (vs:=[_]) (cs':=[_,_,_,_]) ty30) ?_
     rintro _ _ ⟨rfl,rfl⟩
     refine Ct kr ?_
     have Z:((List.take i bf.ws)++([⟨e.kd,e.tm,e.u,e.v,e.w,e.lb,e.sg⟩]:List Ev))++(List.drop i bf.ws)=pushW bf e:=push_eq2 (place_stop (by intro h;first|omega|exact aa) hj)
     exact Fa ((a9),(aq)) trivial (hI:=by (try dsimp only);exact (by rw [←Z];exact Bl))
    refine Sr C (A0 ty30) Bl ?_
    refine Dr 7 C (D0 (α:=Ev) (xs:=bf.ws) (l:=i) Al ty54 C C om (A8 M) om)<|Ds1 3<|Se2 C (B3 (α:=Ev) (e:=54) (xs:=List.take i bf.ws) (ys:=([⟨e.kd,e.tm,e.u,e.v,e.w,e.lb,e.sg⟩]:List Ev)) Al ty54 C C C mm Bi (by first|omega|(simp only [length_append,length_take,length_drop,length_cons,length_nil];omega)) dc C<|λ_ _=>am) λbr bq=>?_
    refine Ds1 8<|Se2 C (B3 (α:=Ev) (e:=54) (xs:=(List.take i bf.ws)++([⟨e.kd,e.tm,e.u,e.v,e.w,e.lb,e.sg⟩]:List Ev)) (ys:=List.drop i bf.ws) Al ty54 C C C mm (E4 (A8 M) om) (by first|omega|(simp only [length_append,length_take,length_drop,length_cons,length_nil];omega)) dc C<|λ_ _=>am) λay ar=>?_
    refine Dr 9 C (Ab fld32_3 C)<|Cs kr ?_
    refine Ae 10 C (B6 (cs:=[_,_,_,_]) (vs:=[_]) (cs':=[_,_,_,_]) ty30) ?_
    rintro _ _ ⟨rfl,rfl⟩
    refine Ct kr ?_
    have Z:((List.take i bf.ws)++([⟨e.kd,e.tm,e.u,e.v,e.w,e.lb,e.sg⟩]:List Ev))++(List.drop i bf.ws)=pushW bf e:=push_eq2 (place_stop (by intro h;first|omega|exact aa) hj)
    exact Fa ((ay),(ar)) trivial (hI:=by (try dsimp only);exact (by rw [←Z];exact Bl))
   refine Sr C (A0 ty30) Bl ?_
   refine Dr 7 C (D0 (α:=Ev) (xs:=bf.ws) (l:=i) Al ty54 C C om (A8 M) om)<|Ds1 2<|Se1 C (Ce (α:=Ev) (cs:=(ez e)) (xs:=[⟨e.kd,e.tm,e.u,e.v,e.w,e.lb,e.sg⟩]) Al ty54 C C dc dc C kr C C) λba=>?_
   refine Ds1 3<|Se2 C (B3 (α:=Ev) (e:=54) (xs:=List.take i bf.ws) (ys:=([⟨e.kd,e.tm,e.u,e.v,e.w,e.lb,e.sg⟩]:List Ev)) Al ty54 C C C mm Bi (by first|omega|(simp only [length_append,length_take,length_drop,length_cons,length_nil];omega)) dc C<|λ_ _=>am) λbg bm=>?_
   refine Ds1 8<|Se2 C (B3 (α:=Ev) (e:=54) (xs:=(List.take i bf.ws)++([⟨e.kd,e.tm,e.u,e.v,e.w,e.lb,e.sg⟩]:List Ev)) (ys:=List.drop i bf.ws) Al ty54 C C C mm (E4 (A8 M) om) (by first|omega|(simp only [length_append,length_take,length_drop,length_cons,length_nil];omega)) dc C<|λ_ _=>am) λa1 a0=>?_
   refine Dr 9 C (Ab fld32_3 C)<|Cs kr ?_
   refine Ae 10 C (B6 (cs:=[_,_,_,_]) (vs:=[_]) (cs':=[_,_,_,_]) ty30) ?_
   rintro _ _ ⟨rfl,rfl⟩
   refine Ct kr ?_
   have Z:((List.take i bf.ws)++([⟨e.kd,e.tm,e.u,e.v,e.w,e.lb,e.sg⟩]:List Ev))++(List.drop i bf.ws)=pushW bf e:=push_eq2 (place_stop (by intro h;first|omega|exact aa) hj)
   exact Fa ((a1),(a0)) trivial (hI:=by (try dsimp only);exact (by rw [←Z];exact Bl))
  rintro ⟨a4,a6⟩ hp
  refine Ad<|Gf fld32_1 C<|Gl ef ?_
  refine Gf fld54_1 C<|Gl ef ?_
  refine Gr (Dm C C)<|Gf fld32_1 C<|Ge0 (B6 (cs:=[_,_,_,_]) (vs:=[_]) (cs':=[_,_,_,_]) ef) ?_
  refine Ac<|Ad<|Gl4 ty32 ?_
  refine Gf fld32_1 C<|Gl ef ?_
  refine Gf fld32_0 C<|Gl ef ?_
  refine Gr (Rsu C C)<|Gr (Rsu C C) ?_
  have ao:((if bf.lt<e.tm then e.tm else bf.lt) - bd) - 1=relM bd bf e:=by unfold relM;rw [ifmax]
  rw [ao]
  refine G.e (Aj c_ C C<|R6Rel_ok (bd:=bd) (lt:=if bf.lt<e.tm then e.tm else bf.lt) (mr:=bf.mr) (m:=(relM bd bf e)) Bi<|by rw [push_len];omega) ?_
  rintro _ _ ⟨_,_,⟨ad,ak,an,ah,rfl,rfl⟩,rfl,rfl⟩
  refine Gm C<|Gr (Ak C C)<|Gr (Ak C C)<|Ge1 (A4 ty32 C) λb7=>Ge0 (C5 ty32) ?_
  refine Ga C<|Ac<|Ap (S3 11 10 4)<|Ad<|Gl4 ty32 ?_
  refine Gm C<|Ge0 (C5 ty32) ?_
  exact Ga C<|Ga C<|Ac<|Az<|Cy C ty32 C C C mm C (vk 54 an ah ((bf.out bd e))::vk 54 ad ak (bf.push bd e).ws::I) Bl ⟨ad,ak,an,ah,(by rw [ifmax];rfl),rfl⟩
 refine Dpo 3 C<|Dpo 4 C<|Dpo 5 C<|Dpo 6 C<|Dpo 7 C<|Dpo 8 C<|Dpo 9 C<|Dpo 10 C<|Dpo 11 C<|Dpo 12 C<|Dr 13 C (Au C C)<|Dz<|Ah<|Ap (S5 53 2 3 4 8)<|Dg C<|Bt<|Aq<|Aq<|Bb<|Ah<|Ad<|Gf fld32_3 C<|Gl ty30 ?_
 refine Gm C<|Gr (Runs.hi (α:=Ev) (xs:=bf.ws) (h:=i) Al ty54 C C om (A8 M) om)<|Ge2 (Eff.clone (α:=Ev) (ys:=List.take i bf.ws) Al ty54 C C C (Sl.take (A8 M) om) (by first|omega|(simp only [length_append,length_take,length_drop,length_cons,length_nil];omega)) dc C) λbp be=>?_
 refine Ga C<|Ac<|W.cut (σ:=(Option Addr)×Nat) (λs=>([(2,pt b1),(3,pt b2),(4,pt b3)]:Env)) (λs=>e8 b1 [e7 bd,e7<|bf.lt,e7<|bf.mr,.slice s.1 (pushW bf e).length s.2] 32::vk 54 s.1 s.2 (pushW bf e)::e8 b3 [e7 0,e7 0,e7 0,.slice none 0 0] 32::e8 b2 (ez e) 54::I) (λs=>True) ?_ ?_
 ·refine Bs mixed (Cc (e8 b3 [e7 0,e7 0,e7 0,.slice none 0 0] 32::e8 b2 (ez e) 54::I) 10<|Dr 0 C (Ai C)<|Dr 1 C (Bc (vs:=[_,_,_,_,_,_,_]) ty54) ?_)
  refine Dr 4 C (Ab fld32_3 C)<|Dr 6 C (Ai C)<|Do (rs:=[2,5]) kr C C<|Eu ?_<|D6 ?_
  ·refine Se1 C (Ce (α:=Ev) (cs:=(ez e)) (xs:=[⟨e.kd,e.tm,e.u,e.v,e.w,e.lb,e.sg⟩]) Al ty54 C C dc dc C kr C C) λbj=>?_
   refine Do (rs:=[3,5]) kr C C<|Eu ?_<|D6 ?_
   ·refine Se2 C (B3 (α:=Ev) (e:=54) (xs:=List.take i bf.ws) (ys:=([⟨e.kd,e.tm,e.u,e.v,e.w,e.lb,e.sg⟩]:List Ev)) Al ty54 C C C mm Bi (by first|omega|(simp only [length_append,length_take,length_drop,length_cons,length_nil];omega)) dc C<|λ_ _=>am) λbi bo=>?_
    refine Ds1 5<|Sr C (A0 ty30) Bl ?_
    refine Dr 7 C (D0 (α:=Ev) (xs:=bf.ws) (l:=i) Al ty54 C C om (A8 M) om)<|Ds1 8<|Se2 C (B3 (α:=Ev) (e:=54) (xs:=(List.take i bf.ws)++([⟨e.kd,e.tm,e.u,e.v,e.w,e.lb,e.sg⟩]:List Ev)) (ys:=List.drop i bf.ws) Al ty54 C C C mm (E4 (A8 M) om) (by first|omega|(simp only [length_append,length_take,length_drop,length_cons,length_nil];omega)) dc C<|λ_ _=>am) λa3 aw=>?_
    refine Dr 9 C (Ab fld32_3 C)<|Cs kr ?_
    refine Ae 10 C (B6 (cs:=[_,_,_,_]) (vs:=[_]) (cs':=[_,_,_,_]) ty30) ?_
    rintro _ _ ⟨rfl,rfl⟩
    refine Ct kr ?_
    have Z:((List.take i bf.ws)++([⟨e.kd,e.tm,e.u,e.v,e.w,e.lb,e.sg⟩]:List Ev))++(List.drop i bf.ws)=pushW bf e:=push_eq2 (place_stop (by intro h;first|omega|exact aa) hj)
    exact Fa ((a3),(aw)) trivial (hI:=by (try dsimp only);exact (by rw [←Z];exact Bl))
   refine Sr C (A0 ty30) Bl ?_
   refine Dr 7 C (D0 (α:=Ev) (xs:=bf.ws) (l:=i) Al ty54 C C om (A8 M) om)<|Ds1 3<|Se2 C (B3 (α:=Ev) (e:=54) (xs:=List.take i bf.ws) (ys:=([⟨e.kd,e.tm,e.u,e.v,e.w,e.lb,e.sg⟩]:List Ev)) Al ty54 C C C mm Bi (by first|omega|(simp only [length_append,length_take,length_drop,length_cons,length_nil];omega)) dc C<|λ_ _=>am) λbb bk=>?_
   refine Ds1 8<|Se2 C (B3 (α:=Ev) (e:=54) (xs:=(List.take i bf.ws)++([⟨e.kd,e.tm,e.u,e.v,e.w,e.lb,e.sg⟩]:List Ev)) (ys:=List.drop i bf.ws) Al ty54 C C C mm (E4 (A8 M) om) (by first|omega|(simp only [length_append,length_take,length_drop,length_cons,length_nil];omega)) dc C<|λ_ _=>am) λau ap=>?_
   refine Dr 9 C (Ab fld32_3 C)<|Cs kr ?_
   refine Ae 10 C (B6 (cs:=[_,_,_,_]) (vs:=[_]) (cs':=[_,_,_,_]) ty30) ?_
   rintro _ _ ⟨rfl,rfl⟩
   refine Ct kr ?_
   have Z:((List.take i bf.ws)++([⟨e.kd,e.tm,e.u,e.v,e.w,e.lb,e.sg⟩]:List Ev))++(List.drop i bf.ws)=pushW bf e:=push_eq2 (place_stop (by intro h;first|omega|exact aa) hj)
   exact Fa ((au),(ap)) trivial (hI:=by (try dsimp only);exact (by rw [←Z];exact Bl))
  refine Sr C (A0 ty30) Bl ?_
  refine Dr 7 C (D0 (α:=Ev) (xs:=bf.ws) (l:=i) Al ty54 C C om (A8 M) om)<|Ds1 2<|Se1 C (Ce (α:=Ev) (cs:=(ez e)) (xs:=[⟨e.kd,e.tm,e.u,e.v,e.w,e.lb,e.sg⟩]) Al ty54 C C dc dc C kr C C) λbn=>?_
  refine Ds1 3<|Se2 C (B3 (α:=Ev) (e:=54) (xs:=List.take i bf.ws) (ys:=([⟨e.kd,e.tm,e.u,e.v,e.w,e.lb,e.sg⟩]:List Ev)) Al ty54 C C C mm Bi (by first|omega|(simp only [length_append,length_take,length_drop,length_cons,length_nil];omega)) dc C<|λ_ _=>am) λbc bh=>?_
  refine Ds1 8<|Se2 C (B3 (α:=Ev) (e:=54) (xs:=(List.take i bf.ws)++([⟨e.kd,e.tm,e.u,e.v,e.w,e.lb,e.sg⟩]:List Ev)) (ys:=List.drop i bf.ws) Al ty54 C C C mm (E4 (A8 M) om) (by first|omega|(simp only [length_append,length_take,length_drop,length_cons,length_nil];omega)) dc C<|λ_ _=>am) λax av=>?_
  refine Dr 9 C (Ab fld32_3 C)<|Cs kr ?_
  refine Ae 10 C (B6 (cs:=[_,_,_,_]) (vs:=[_]) (cs':=[_,_,_,_]) ty30) ?_
  rintro _ _ ⟨rfl,rfl⟩
  refine Ct kr ?_
  have Z:((List.take i bf.ws)++([⟨e.kd,e.tm,e.u,e.v,e.w,e.lb,e.sg⟩]:List Ev))++(List.drop i bf.ws)=pushW bf e:=push_eq2 (place_stop (by intro h;first|omega|exact aa) hj)
  exact Fa ((ax),(av)) trivial (hI:=by (try dsimp only);exact (by rw [←Z];exact Bl))
 rintro ⟨a4,a6⟩ hp
 refine Ad<|Gf fld32_1 C<|Gl ef ?_
 refine Gf fld54_1 C<|Gl ef ?_
 refine Gr (Dm C C)<|Gf fld32_1 C<|Ge0 (B6 (cs:=[_,_,_,_]) (vs:=[_]) (cs':=[_,_,_,_]) ef) ?_
 refine Ac<|Ad<|Gl4 ty32 ?_
 refine Gf fld32_1 C<|Gl ef ?_
 refine Gf fld32_0 C<|Gl ef ?_
 refine Gr (Rsu C C)<|Gr (Rsu C C) ?_
 have ao:((if bf.lt<e.tm then e.tm else bf.lt) - bd) - 1=relM bd bf e:=by unfold relM;rw [ifmax]
 rw [ao]
 refine G.e (Aj c_ C C<|R6Rel_ok (bd:=bd) (lt:=if bf.lt<e.tm then e.tm else bf.lt) (mr:=bf.mr) (m:=(relM bd bf e)) Bi<|by rw [push_len];omega) ?_
 rintro _ _ ⟨_,_,⟨aj,ae,ab,ai,rfl,rfl⟩,rfl,rfl⟩
 refine Gm C<|Gr (Ak C C)<|Gr (Ak C C)<|Ge1 (A4 ty32 C) λbu=>Ge0 (C5 ty32) ?_
 refine Ga C<|Ac<|Ap (S3 11 10 4)<|Ad<|Gl4 ty32 ?_
 refine Gm C<|Ge0 (C5 ty32) ?_
 exact Ga C<|Ga C<|Ac<|Az<|Cy C ty32 C C C mm C (vk 54 ab ai ((bf.out bd e))::vk 54 aj ae (bf.push bd e).ws::I) Bl ⟨aj,ae,ab,ai,(by rw [ifmax];rfl),rfl⟩
theorem R6Flush_ok{bd:Int}{bf:BfS}(hl:Sl κ I (.slice wa bf.ws.length wc) bf.ws)(Z:BfOk bd bf)(hw:bf.ws.length<=4096):eu prog κ 68 [.agg #[e7 bd,e7 (bf.lt),e7 (bf.mr),.slice wa bf.ws.length wc]] I (λr J=>∃(a:Option Addr) (c:Nat) (a2:Option Addr) (c2:Nat),r = .tuple #[.agg #[e7 bd,e7 bf.flush.lt,e7 bf.flush.mr,.slice a bf.flush.ws.length c],.slice a2 (bf.ws).length c2,e7 0]/\J=vk 54 a2 c2 bf.ws::vk 54 a c bf.flush.ws::I):=by
 have aj:=Z.bd
 have an:=Z.lt
 have ak:=Z.mr
 refine Ce1 Tryz.func68 C C ?_
 refine Ad<|Ge1 (Bd (cs:=[_,_,_,_]) C C C) λb1=>Ge1 (A4 ty32 C) λb2=>Ga C<|Ga C<|Ac<|Ar<|Ad<|Gl4 ty32 ?_
 refine G.e (Aj c_ C C<|R6Valid_ok (bd:=bd) (bf:=bf) (A8 hl) Z om) ?_
 rintro _ _ ⟨_,_,⟨rfl,rfl⟩,rfl,rfl⟩
 refine Gr (Cn C)<|Ac<|Dg C<|Aw<|Ah<|Ad<|Gl4 ty32 ?_
 refine Gf fld32_1 C<|Gl ef ?_
 refine G.e (Aj c_ C C<|R6Rel_ok (bd:=bd) (lt:=bf.lt) (mr:=bf.mr) (m:=bf.lt) (A8 hl) om) ?_
 rintro _ _ ⟨_,_,⟨ah,ab,ad,ae,rfl,rfl⟩,rfl,rfl⟩
 refine Gm C<|Gr (Ak C C)<|Gr (Ak C C)<|Ge1 (A4 ty32 C) λb7=>Ge0 (C5 ty32) ?_
 refine Ga C<|Ac<|Ap (S3 6 5 2)<|Ad<|Gl4 ty32 ?_
 refine Gm C<|Ge0 (C5 ty32) ?_
 refine Ga C<|Ga C<|Ac<|Az ?_
 have ai:max bf.mr bf.lt=bf.lt:=by omega
 have M:=Z.none
 have aa:=Z.all
 exact Cy C ty32 C C C mm C (vk 54 ad ae bf.ws::vk 54 ah ab bf.flush.ws::I) (by unfold vk;rw [M,aa];exact Bl) ⟨ah,ab,ad,ae,(by rw [ai,M,aa];rfl),rfl⟩
theorem R6Open_ok{bd:Int}(hb:0<=bd/\bd<=1048576):eu prog κ 66 [e7 bd] I (λr J=>r = .tuple #[.agg #[e7 bd,e7 (-1),e7 (-1),.slice none 0 0],e7 0]/\I=J):=by
 refine Ce1 Tryz.func66 C C ?_
 refine Ad<|Ge1 (A4 ty32 C) λb1=>Ga C<|Ac<|Ar<|Ad<|Gm C<|Gr (A9 C C)<|Gm C<|Bh (d:=6) C (λZ=>?_)<|λZ=>?_
 ·omega
 refine e9 (Ai C)<|e9 (B2 C C)<|Gr (Au C C)<|Ac<|A7 C (λM=>?_)<|λM=>?_
 ·omega
 refine Aw<|Ah<|Ad<|Gm C<|Gr (Bq (cells:=[_,_,_,_]) ty32 Tryz.underlying32 pl32 C C)<|Ge0 (C5 ty32) ?_
 exact Ga C<|Ac<|Az<|C0 C ty32 C C mm C I Ax ⟨rfl,rfl⟩
theorem R6PushA_ok{κ:Ctx}{I:List Item}{e:Ev}{bd:Int}{bf:BfS}(M:Sl κ I (.slice wa bf.ws.length wc) bf.ws)(hB:BfOk bd bf)(hw:bf.ws.length<=4096)(he:checkE e=0)(hT:0<=e.tm/\e.tm<=1048576)(Z:bf.ws.length<4096):eu prog κ 67 [.agg #[e7 bd,e7 (bf.lt),e7 (bf.mr),.slice wa bf.ws.length wc],.agg (ez e).toArray] I λr J=>(e.tm<=bf.mr/\∃(a:Option Addr) (c:Nat),r = .tuple #[.agg #[e7 bd,e7 bf.lt,e7 bf.mr,.slice a bf.ws.length c],.slice none 0 0,e7 10]/\I=J)\/(bf.mr<e.tm/\∃(a:Option Addr) (c:Nat) (a2:Option Addr) (c2:Nat),r = .tuple #[.agg #[e7 bd,e7 (bf.push bd e).lt,e7 (bf.push bd e).mr,.slice a (bf.push bd e).ws.length c],.slice a2 ((bf.out bd e)).length c2,e7 0]/\J=vk 54 a2 c2 ((bf.out bd e))::vk 54 a c (bf.push bd e).ws::I):=by
 by_cases ht:e.tm<=bf.mr
 ·exact (R6PushL_ok M hB hw he ht).mono λr J h=> .inl ⟨ht,h⟩
 exact (R6Push_ok M hB hw he om hT Z).mono λr J h=> .inr ⟨by omega,h⟩
theorem outs_len(bd:Int):∀(l:List Ev) (s:BfS),(BfS.outs bd s l).length+(s.all bd l).ws.length<=s.ws.length+l.length
 |[],s=>by show 0+s.ws.length<=_;simp
 |e::l,s=>by
  have h:=outs_len bd l (s.next bd e)
  have Z:=out_push s bd e
  show ((if e.tm<=s.mr then [] else s.out bd e)++BfS.outs bd (s.next bd e) l).length+((s.next bd e).all bd l).ws.length<=s.ws.length+(l.length+1)
  rw [length_append]
  unfold BfS.next at h ⊢
  split
  ·rename_i q;rw [if_pos q] at h;simp only [length_nil];omega
  rename_i q;rw [if_neg q] at h;omega
theorem runB_len(bd:Int)(l:List Ev):(runB bd l).length<=l.length:=by
 have h:=outs_len bd l ⟨-1, -1,[]⟩
 unfold runB
 rw [length_append]
 simpa using h
section
variable {bd:Int}{s0 s:BfS}{evs:List Ev}{e:Ev}{i:Nat}
theorem srt_late(hs:s=s0.all bd (evs.take i))(hi:i<evs.length)(M:e_ evs i=e)(Z:e.tm<=s.mr):s=s0.all bd (evs.take (i+1))/\BfS.outs bd s0 (evs.take (i+1))=BfS.outs bd s0 (evs.take i)/\BfS.lates bd s0 (evs.take (i+1))=BfS.lates bd s0 (evs.take i)+1:=by
 rw [Cj evs i hi,BfS.all_app,BfS.outs_app,BfS.lates_app,←hs,M]
 refine ⟨?_,?_,?_⟩
 ·show s=s.next bd e;unfold BfS.next;rw [if_pos Z]
 ·show _++((if e.tm<=s.mr then [] else s.out bd e)++[])=_;rw [if_pos Z];simp
 show _+((if e.tm<=s.mr then 1 else 0)+0)=_;rw [if_pos Z]
theorem srt_push(hs:s=s0.all bd (evs.take i))(hi:i<evs.length)(Z:e_ evs i=e)(M:s.mr<e.tm):s.push bd e=s0.all bd (evs.take (i+1))/\BfS.outs bd s0 (evs.take (i+1))=BfS.outs bd s0 (evs.take i)++s.out bd e/\BfS.lates bd s0 (evs.take (i+1))=BfS.lates bd s0 (evs.take i):=by
 rw [Cj evs i hi,BfS.all_app,BfS.outs_app,BfS.lates_app,←hs,Z]
 refine ⟨?_,?_,?_⟩
 ·show s.push bd e=s.next bd e;unfold BfS.next;rw [if_neg om]
 ·show _++((if e.tm<=s.mr then [] else s.out bd e)++[])=_;rw [if_neg om,append_nil]
 show _+((if e.tm<=s.mr then 1 else 0)+0)=_;rw [if_neg om];rfl
end
theorem R6Sort_ok{κ:Ctx}{I:List Item}{bd:Int}{evs:List Ev}(hb:0<=bd/\bd<=1048576)(hl:Sl κ I va evs)(ap:∀e∈evs,checkE e=0/\0<=e.tm/\e.tm<=1048576)(a8:evs.length<=4000):eu prog κ 27 [e7 bd,va] I (λr J=>∃(a:Option Addr) (c:Nat),r = .tuple #[.slice a (runB bd evs).length c,e7 (((BfS.lates bd (⟨-1, -1,[]⟩:BfS) evs):Nat):Int),e7 0]/\J=vk 54 a c (runB bd evs)::I):=by
 refine B5 hl.le λa6=>?_
 refine Ce2 Tryz.func27 C C ?_
 refine Ad<|Ga C<|Ga C<|Ga C<|Ac<|Ad<|Gm C<|Gc0 (Aj c_ C C<|R6Open_ok hb) ?_
 refine Gm C<|Gr (Ak C C)<|Gr (Ak C C)<|Ge1 (A4 ty32 C) λb1=>Ge0 (C5 ty32) ?_
 refine Ga C<|Ac<|Ar<|Ad<|Gm C<|Gr (Be C C)<|Ac<|Ap (S4 25 8 7 1)<|A7 C (λar=>?_)<|λar=>?_
 ·exact absurd ar dc
 refine Aw<|Ah<|Ad<|Ga C<|Ac<|Ad<|Ga C<|Ac<|Ar<|Ad<|Gm C<|Gr (Bw (α:=Ev) (xs:=evs) Al C<|A8 hl)<|Gm C<|Ac<|A5<|B1 (σ:=Nat×BfS×(Option Addr)×Nat×Nat×(Option Addr)×Nat×(List Ev)) (λs=>([(7,pt b1),(9,.slice s.2.2.2.2.2.1 s.2.2.2.2.2.2.2.length s.2.2.2.2.2.2.1),(10,e7 ((s.2.2.2.2.1:Nat):Int)),(27,va),(28,e7 ((evs.length:Nat):Int)),(29,e7 ((s.1:Nat):Int))]:Env)) (λs=>vk 54 s.2.2.2.2.2.1 s.2.2.2.2.2.2.1 s.2.2.2.2.2.2.2::vk 54 s.2.2.1 s.2.2.2.1 s.2.1.ws::e8 b1 [e7 bd,e7<|s.2.1.lt,e7<|s.2.1.mr,.slice s.2.2.1 s.2.1.ws.length s.2.2.2.1] 32::I) (λs=>(s.1<=evs.length)/\(s.2.1=(⟨-1, -1,[]⟩:BfS).all bd (evs.take s.1))/\(s.2.2.2.2.2.2.2=BfS.outs bd (⟨-1, -1,[]⟩:BfS) (evs.take s.1))/\(s.2.2.2.2.1=BfS.lates bd (⟨-1, -1,[]⟩:BfS) (evs.take s.1))/\(BfOk bd s.2.1)/\(s.2.2.2.2.2.2.2.length+s.2.1.ws.length<=s.1)) (λs=>evs.length - s.1) (0,(⟨-1, -1,[]⟩:BfS),none,0,0,none,0,[]) ⟨om,rfl,rfl,rfl,(BfOk.open_ hb),(by show 0+0<=0;omega)⟩ (Aa C<|Aa (C8 C<|by first|rfl|simp)<|Aa Cd<|cx2<|Aa Cd Bp) (Co (Co (show Fit κ _ _ from Bl)<|Cf (α:=Ev) _ _)<|Cf (α:=Ev) _ _) ?_
 rintro ⟨i,bf,wa,wc,n,oa,oc,o⟩ hp
 dsimp only at hp ⊢
 obtain ⟨hi,ah,ho,hn,hB,ba⟩:=hp
 have a9:n<=i:=by rw [hn];exact Nat.le_trans (lates_len _ _ _) (by rw [length_take];omega)
 refine Ad<|Gr (A9 C C)<|Ac<|Ar<|A7 C (λaz=>?_)<|λaz=>?_
 ·refine Aw (Ah<|Ar<|A5<|Ad<|Gr (A3 (α:=Ev) (xs:=evs) Al ty54 C C (A8 hl) om om)<|Gr (Bv (α:=Ev) (xs:=evs) ty54 C (A8 hl) om om) ?_)
  have Z:=ap _ (B7 (xs:=evs) (i:=(i:Int)) om om)
  generalize hxe:e_ evs i=xe at Z ⊢
  refine Ge1 (A4 ty54 C) λb2=>Ge0 (E8 ty54) ?_
  refine Ac<|Ad<|Gl4 ty32 ?_
  refine Gl7 ty54 ?_
  refine G.e (Aj c_ C C<|R6PushA_ok (bf:=bf) (e:=xe) Bi hB om Z.1 Z.2 om) ?_
  rintro _ _ ⟨_,_,(⟨M,aj,ab,rfl,rfl⟩|⟨M,aj,ab,ay,a0,rfl,rfl⟩),rfl,rfl⟩
  ·skip
   refine Gm C<|Gr (Ak C C)<|Gr (Ak C C)<|Gr (Ak C C)<|Ge1 (A4 ty32 C) λb8=>Ge0 (C5 ty32) ?_
   refine Ga C<|Ga C<|Ac<|Ap (S9 15 14 13 7 9 10 27 28 29)<|Ar<|Ad<|Gm C<|Gr (Br C C)<|Ac<|A7 C (λad=>?_)<|λad=>?_
   ·refine Ad (Gm C<|Gr (Rad C C)<|Ga C<|Ac<|Ap (S6 10 7 9 27 28 29)<|Bt<|Aq<|Bb<|Ah<|Ay<|Gr (Rad C C)<|Gm C<|Bj ?_)
    obtain ⟨aa,ae,ai⟩:=srt_late ah om hxe M
    exact Cb ((i+1),(bf),(wa),(wc),(n+1),(oa),(oc),(o))<|by dsimp only;exact ⟨om,aa,(by rw [ae];exact ho),(by rw [ai,hn]),hB,om⟩
   exact absurd dc ad
  skip
  refine Gm C<|Gr (Ak C C)<|Gr (Ak C C)<|Gr (Ak C C)<|Ge1 (A4 ty32 C) λb9=>Ge0 (C5 ty32) ?_
  refine Ga C<|Ga C<|Ac<|Ap (S9 15 14 13 7 9 10 27 28 29)<|Ar<|Ad<|Gm C<|Gr (Br C C)<|Ac<|A7 C (λad=>?_)<|λad=>?_
  ·exact absurd ad dc
  refine Aw<|Ah<|Ar<|Ad<|Gm C<|Gr (Be C C)<|Ac<|A7 C (λaq=>?_)<|λaq=>?_
  ·exact absurd aq dc
  refine Aw<|Ah<|Bs mixed<|Cc (e8 b9 [e7 bd,e7<|(bf.push bd xe).lt,e7<|(bf.push bd xe).mr,.slice aj (bf.push bd xe).ws.length ab] 32::vk 54 ay a0 ((bf.out bd xe))::vk 54 aj ab (bf.push bd xe).ws::e8 b2 (ez xe) 54::vk 54 wa wc bf.ws::I) 4<|Dr 0 C (Bc (vs:=[_,_,_,_]) ty32) ?_
  refine Do (rs:=[1,2]) kr C C<|Eu ?_<|D6 ?_
  ·refine Sr C (Ai C) Bl ?_
   refine Ds1 2<|Sr C (Ai C) Bl ?_
   refine Ds1 3<|Se2 C (B3 (α:=Ev) (e:=54) (xs:=o) (ys:=(bf.out bd xe)) Al ty54 C C C mm Bi (by first|omega|(have ak:=out_push bf bd xe;omega)) dc C<|λ_ _=>am) λau ax=>?_
   refine Cs kr ?_
   refine Ae 4 C (C5 ty32) ?_
   rintro _ _ ⟨rfl,rfl⟩
   refine Dv (i:=5) kr C (Bm C) C C (Bf C) ?_
   refine Ct kr ?_
   refine Am<|Ah<|Ap (S6 9 7 10 27 28 29)<|Ay<|Gr (Rad C C)<|Gm C<|Bj ?_
   obtain ⟨aa,ae,ai⟩:=srt_push ah om hxe M
   have ak:=out_push bf bd xe
   exact Cb ((i+1),((bf.push bd xe)),(aj),(ab),(n),(au),(ax),(o++(bf.out bd xe)))<|by dsimp only;exact ⟨om,aa,(by rw [ae,←ho]),(by rw [ai,hn]),(hB.push Z.1 M Z.2.2),(by rw [length_append];omega)⟩
  refine Sr C (Ai C) Bl ?_
  refine Ds1 1<|Sr C (Ai C) Bl ?_
  refine Ds1 3<|Se2 C (B3 (α:=Ev) (e:=54) (xs:=o) (ys:=(bf.out bd xe)) Al ty54 C C C mm Bi (by first|omega|(have ak:=out_push bf bd xe;omega)) dc C<|λ_ _=>am) λaw av=>?_
  refine Cs kr ?_
  refine Ae 4 C (C5 ty32) ?_
  rintro _ _ ⟨rfl,rfl⟩
  refine Dv (i:=5) kr C (Bm C) C C (Bf C) ?_
  refine Ct kr ?_
  refine Am<|Ah<|Ap (S6 9 7 10 27 28 29)<|Ay<|Gr (Rad C C)<|Gm C<|Bj ?_
  obtain ⟨aa,ae,ai⟩:=srt_push ah om hxe M
  have ak:=out_push bf bd xe
  exact Cb ((i+1),((bf.push bd xe)),(aj),(ab),(n),(aw),(av),(o++(bf.out bd xe)))<|by dsimp only;exact ⟨om,aa,(by rw [ae,←ho]),(by rw [ai,hn]),(hB.push Z.1 M Z.2.2),(by rw [length_append];omega)⟩
 refine Bt<|Aq<|Aq<|Bb<|Ah<|Ad<|Gl4 ty32 ?_
 refine G.e (Aj c_ C C<|R6Flush_ok (bf:=bf) Bi hB om) ?_
 rintro _ _ ⟨_,_,⟨a3,a4,a5,a1,rfl,rfl⟩,rfl,rfl⟩
 refine Gm C<|Gr (Ak C C)<|Gr (Ak C C)<|Gr (Ak C C)<|Ge1 (A4 ty32 C) λa7=>Ge0 (C5 ty32) ?_
 refine Ga C<|Ga C<|Ac<|Ap (S3 17 9 10)<|Ad<|Gm C<|Gm C<|Ge2 (B3 (α:=Ev) (e:=54) (xs:=o) (ys:=bf.ws) Al ty54 C C C mm Bi (by first|omega|(have ak:=out_push bf bd xe;omega)) dc C<|λ_ _=>am) λan ao=>?_
 refine Gm C<|Ga C<|Ga C<|Ga C<|Ac<|Az ?_
 rw [show evs.take i=evs from List.take_of_length_le om] at ah ho hn
 have hR:o++bf.ws=(runB bd evs):=by rw [ho,ah];rfl
 exact V.ret3 C C C C (vk 54 an ao (runB bd evs)::I) (by unfold vk;rw [←hR];exact Bl) ⟨an,ao,by rw [←hR,←hn],rfl⟩
theorem SameE41_ok{κ:Ctx}{I:List Item}{vb:Value}{xs ys:List Ev}(e:xs=ys)(Z:Sl κ I va xs)(hm:Sl κ I vb ys):eu prog κ 31 [va,vb] I (λr J=>r = .bool true/\I=J):=by
 subst e
 refine B5 Z.le λab=>?_
 refine Ce2 Tryz.func31 C C ?_
 refine Ad<|Ga C<|Ac<|Ar<|Ad<|Gm C<|Gr (Bw (α:=Ev) (xs:=xs) Al C<|A8 Z)<|Gm C<|Gr (Bw (α:=Ev) (xs:=xs) Al C<|A8 hm)<|Gr (Be C C)<|Ac<|A7 C (λc10=>?_)<|λc10=>?_
 ·omega
 refine Aw<|Ah<|Ar<|Ad<|Gm C<|Gr (Bw (α:=Ev) (xs:=xs) Al C<|A8 Z)<|Gm C<|Ac<|A5<|B1 (σ:=Nat) (λs=>([(0,va),(1,vb),(12,e7 ((xs.length:Nat):Int)),(13,e7 ((s:Nat):Int))]:Env)) (λs=>I) (λs=>(s<=xs.length)) (λs=>xs.length - s) 0 (show ((0:Nat)<=xs.length) from om) (cx2<|Aa C<|Aa Cd Bp) (show Fit κ _ I from Bg) ?_
 rintro k hp
 have hk:=hp
 refine Ad<|Gr (A9 C C)<|Ac<|Ar<|A7 C (λaa=>?_)<|λaa=>?_
 ·refine Aw (Ah<|Ar<|A5<|Ad<|Gm C<|Ga C<|Ac<|Ar<|Bs mixed<|Cc I 9<|Dr 0 C (Ai C)<|Dr 1 C (Ai C)<|Dr 2 C (A3 (α:=Ev) (xs:=xs) Al ty54 C C (A8 Z) om om)<|Dr 3 C (Bv (α:=Ev) (xs:=xs) ty54 C (A8 Z) om om)<|Dr 4 C (Ai C)<|Dr 5 C (Ai C)<|Dr 6 C (A3 (α:=Ev) (xs:=xs) Al ty54 C C (A8 hm) om om)<|Dr 7 C (Bv (α:=Ev) (xs:=xs) ty54 C (A8 hm) om om)<|Dr 8 C (Runs.neqT (α:=Ev) (a:=(e_ xs k)) (b:=(e_ xs k)) eqt54 C C)<|Dz<|Ah<|Ap (S5 24 0 1 12 13)<|A7 C (λM=>?_)<|λM=>?_)
  ·exact absurd rfl M
  exact Aw<|Am<|Ah<|Ay<|Gr (Rad C C)<|Gm C<|Bj<|Cb ((k+1)) om
 exact Bt<|Aq<|Aq<|Bb<|Ah<|Ad<|Ga C<|Ac<|Az<|A1 C C I Ax ⟨rfl,rfl⟩
end Go.Sl
