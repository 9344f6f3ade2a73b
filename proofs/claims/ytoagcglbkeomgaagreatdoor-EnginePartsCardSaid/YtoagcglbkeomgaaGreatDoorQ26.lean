/- A part of the proofs of statements of this seat: contracts of functions, and the plain laws that they lean on. No conditions. -/
import Derived.Test.YtoagcglbkeomgaaGreatDoorQ25
import Derived.ProofKit
import Derived.OpenShut
import Derived.ChangeOld
import Derived.Below
import Derived.SizedLaws
import Derived.JoinedOf
import Derived.Deep.Slices
import Derived.Deep.Fields
set_option linter.unusedVariables false
set_option linter.unusedSimpArgs false
set_option linter.unusedSectionVars false
set_option maxHeartbeats 4000000
namespace Go.Sl
open Go.Proofs
set_option maxRecDepth 4000
variable{bd i kd mo most n nd wd:Int}{b:Nat}{lv:Value}{ls:List Int}{l o:List Ev}
abbrev evs41:List Ev:=[⟨1,1,0,1,1,0,1⟩,⟨1,2,1,2,1,0,1⟩,⟨1,3,0,2,1,0,1⟩]
theorem evs41_fit:∀e∈evs41,FitOk 3 e:=λe Z=>fitE_ok.1 (by
 simp only [List.mem_cons,List.not_mem_nil,or_false] at Z
 rcases Z with rfl|rfl|rfl<;>decide)
theorem evs41_run:runB 0 evs41=evs41:=by decide+kernel
theorem evs41_lates:BfS.lates 0 ⟨-1, -1,[]⟩ evs41=0:=by decide+kernel
theorem evs41_all:(EnS.run 1 0 0 0 evs41).S=[⟨0,1,1,0,1,1⟩,⟨0,2,1,0,1,3⟩,⟨1,2,1,0,1,2⟩]:=by
 rw [run_eq,evs41_run];decide+kernel
theorem st41(T:Int)(S:List Lk)(o:List Ev)(e:Ev)(Z:e.tm=T):evStep 2 2 0 (S,o) e=(ep (ageL 2 0 T S o).1 e,(ageL 2 0 T S o).2++[e]):=by rw [←Z];rfl
theorem evs41_age:(EnS.run 2 2 0 0 evs41).S=[⟨0,2,1,0,1,3⟩,⟨1,2,1,0,1,2⟩]:=by
 have a1:evStep 2 2 0 ([],[]) ⟨1,1,0,1,1,0,1⟩=([⟨0,1,1,0,1,1⟩],[⟨1,1,0,1,1,0,1⟩]):=by
  rw [st41 1 _ _ _ rfl,ageL_stop<|by decide+kernel];decide+kernel
 have a2:evStep 2 2 0 ([⟨0,1,1,0,1,1⟩],[⟨1,1,0,1,1,0,1⟩]) ⟨1,2,1,2,1,0,1⟩=([⟨0,1,1,0,1,1⟩,⟨1,2,1,0,1,2⟩],[⟨1,1,0,1,1,0,1⟩,⟨1,2,1,2,1,0,1⟩]):=by
  rw [st41 2 _ _ _ rfl,ageL_stop<|by decide+kernel];decide+kernel
 have Z:List.filter (inW 2 2 0 (minT ([⟨0,1,1,0,1,1⟩,⟨1,2,1,0,1,2⟩]:List Lk)+2) [⟨0,1,1,0,1,1⟩,⟨1,2,1,0,1,2⟩]) ([⟨0,1,1,0,1,1⟩,⟨1,2,1,0,1,2⟩]:List Lk)=[⟨1,2,1,0,1,2⟩]:=by decide+kernel
 have M:(evStep 2 2 0 ([⟨0,1,1,0,1,1⟩,⟨1,2,1,0,1,2⟩],[⟨1,1,0,1,1,0,1⟩,⟨1,2,1,2,1,0,1⟩]) ⟨1,3,0,2,1,0,1⟩).1=[⟨0,2,1,0,1,3⟩,⟨1,2,1,0,1,2⟩]:=by
  rw [st41 3 _ _ _ rfl,ageL_step<|by decide+kernel,Z,ageL_stop<|by decide+kernel];decide+kernel
 rw [run_eq,evs41_run]
 show (evStep 2 2 0 (evStep 2 2 0 (evStep 2 2 0 ([],[]) ⟨1,1,0,1,1,0,1⟩) ⟨1,2,1,2,1,0,1⟩) ⟨1,3,0,2,1,0,1⟩).1=_
 rw [a1,a2,M]
theorem Awake41_ok{κ:Ctx}{I:List Item}(hT:TabRd κ I 0 tzCells):eu Tryz.prog κ 11 [] I (λr J=>r = .bool true/\I=J):=by
 refine Ce0 Tryz.func11 C C ?_
 refine Af<|Ga C<|Ad<|Af<|Gr (Bp (cells:=[_,_,_,_,_,_,_]) ty54 Dg pl54 C C)<|Gr (Bp (cells:=[_,_,_,_,_,_,_]) ty54 Dg pl54 C C)<|Gr (Bp (cells:=[_,_,_,_,_,_,_]) ty54 Dg pl54 C C)<|Ge1 (Co (α:=Ev) (cs:=[e7 1,e7 1,e7 0,e7 1,e7 1,e7 0,e7 1,e7 1,e7 2,e7 1,e7 2,e7 1,e7 0,e7 1,e7 1,e7 3,e7 0,e7 2,e7 1,e7 0,e7 1]) (xs:=[⟨1,1,0,1,1,0,1⟩,⟨1,2,1,2,1,0,1⟩,⟨1,3,0,2,1,0,1⟩]) Ar ty54 C C dc dc C kr C C) λM=>?_
 refine Ga C<|Ad<|Af<|Gr (Bp (cells:=[_,_,_]) ty29 Eo pl29 C C)<|Gm C<|G.e (Aj c_ C C<|KRun_ok (T:=I) (evs:=evs41) (by repeat (first|exact Bu _|apply Bt|apply B0)) Bh dc dc dc evs41_fit dc<|Bg hT Av) ?_
 rintro _ _ ⟨_,_,⟨Z,Y3,rfl,ak,rfl⟩,rfl,rfl⟩
 refine D9 (J:=vc 54 (.slice M 3 3) (evs41)::(Y3++I)) (Cw<|C6 (A:=Y3) (L:=[vc 54 (.slice M 3 3) evs41]) (T:=I)) ?_
 refine Gm C<|Gr (Ak C C)<|Gr (Ak C C)<|Gr (Ak C C)<|Ge1 (A2 ty47 C) λb4=>Ge0 (B6 (cs:=[_,_,_,_,_,_,_,_,_,_,_,_,_,_,_,_,_,_,_,_,_,_,_,_,_]) (vs:=[_,_,_,_,_,_,_,_,_,_,_,_,_,_,_,_,_,_,_,_,_,_,_,_,_]) (cs':=[_,_,_,_,_,_,_,_,_,_,_,_,_,_,_,_,_,_,_,_,_,_,_,_,_]) ty47) ?_
 refine Ga C<|Ga C<|Ad<|Am (S4 4 3 2 1 C C C C)<|Af<|Gr (Bp (cells:=[_,_,_]) ty29 Eo pl29 C C)<|Gm C<|G.e (Aj c_ C C<|KRun_ok (T:=(Y3++I)) (evs:=evs41) (by repeat (first|exact Bu _|apply Bt|apply B0)) Bh dc dc dc evs41_fit dc<|Bg hT Av) ?_
 rintro _ _ ⟨_,_,⟨an,Y6,rfl,ah,rfl⟩,rfl,rfl⟩
 refine D9 (J:=e8 b4 [e7 2,e7 2,e7 0,e7 0,e7<|(EnS.run 2 2 0 0 evs41).b.lt,e7<|(EnS.run 2 2 0 0 evs41).b.mr,.slice Z.w.a (EnS.run 2 2 0 0 evs41).b.ws.length Z.w.c,e7 3,.slice Z.l.a ((EnS.run 2 2 0 0 evs41).S).length Z.l.c,e7 3,.slice Z.p.e1.a (edgesK<|(EnS.run 2 2 0 0 evs41).S).length Z.p.e1.c,.slice Z.p.n1.a (coreN 3<|edgesK<|(EnS.run 2 2 0 0 evs41).S).length Z.p.n1.c,e7 3,.slice Z.p.e2.a (edgesK<|(EnS.run 2 2 0 0 evs41).S).length Z.p.e2.c,.slice Z.p.n2.a (trussG 3<|edgesK<|(EnS.run 2 2 0 0 evs41).S).length Z.p.n2.c,e7 3,.slice Z.p.e3.a (edgesK<|(EnS.run 2 2 0 0 evs41).S).length Z.p.e3.c,e7<|triS 3 (edgesK<|(EnS.run 2 2 0 0 evs41).S) / 3,.slice Z.p.n3.a (triL 3<|edgesK<|(EnS.run 2 2 0 0 evs41).S).length Z.p.n3.c,e7 3,.slice Z.p.e4.a (edgesK<|(EnS.run 2 2 0 0 evs41).S).length Z.p.e4.c,e7<|wedgeC 3<|edgesK<|(EnS.run 2 2 0 0 evs41).S,e7<|quadC 3<|edgesK<|(EnS.run 2 2 0 0 evs41).S,.slice Z.p.n4.a (quadL 3<|edgesK<|(EnS.run 2 2 0 0 evs41).S).length Z.p.n4.c,e7<|(EnS.run 2 2 0 0 evs41).tm] 47::vc 54 (.slice M 3 3) (evs41)::(Y6++(Y3++I))) (Cw<|C6 (A:=Y6) (L:=[e8 b4 [e7 2,e7 2,e7 0,e7 0,e7<|(EnS.run 2 2 0 0 evs41).b.lt,e7<|(EnS.run 2 2 0 0 evs41).b.mr,.slice Z.w.a (EnS.run 2 2 0 0 evs41).b.ws.length Z.w.c,e7 3,.slice Z.l.a ((EnS.run 2 2 0 0 evs41).S).length Z.l.c,e7 3,.slice Z.p.e1.a (edgesK<|(EnS.run 2 2 0 0 evs41).S).length Z.p.e1.c,.slice Z.p.n1.a (coreN 3<|edgesK<|(EnS.run 2 2 0 0 evs41).S).length Z.p.n1.c,e7 3,.slice Z.p.e2.a (edgesK<|(EnS.run 2 2 0 0 evs41).S).length Z.p.e2.c,.slice Z.p.n2.a (trussG 3<|edgesK<|(EnS.run 2 2 0 0 evs41).S).length Z.p.n2.c,e7 3,.slice Z.p.e3.a (edgesK<|(EnS.run 2 2 0 0 evs41).S).length Z.p.e3.c,e7<|triS 3 (edgesK<|(EnS.run 2 2 0 0 evs41).S) / 3,.slice Z.p.n3.a (triL 3<|edgesK<|(EnS.run 2 2 0 0 evs41).S).length Z.p.n3.c,e7 3,.slice Z.p.e4.a (edgesK<|(EnS.run 2 2 0 0 evs41).S).length Z.p.e4.c,e7<|wedgeC 3<|edgesK<|(EnS.run 2 2 0 0 evs41).S,e7<|quadC 3<|edgesK<|(EnS.run 2 2 0 0 evs41).S,.slice Z.p.n4.a (quadL 3<|edgesK<|(EnS.run 2 2 0 0 evs41).S).length Z.p.n4.c,e7<|(EnS.run 2 2 0 0 evs41).tm] 47,vc 54 (.slice M 3 3) evs41]) (T:=(Y3++I))) ?_
 refine Gm C<|Gr (Ak C C)<|Gr (Ak C C)<|Gr (Ak C C)<|Ge1 (A2 ty47 C) λb7=>Ge0 (B6 (cs:=[_,_,_,_,_,_,_,_,_,_,_,_,_,_,_,_,_,_,_,_,_,_,_,_,_]) (vs:=[_,_,_,_,_,_,_,_,_,_,_,_,_,_,_,_,_,_,_,_,_,_,_,_,_]) (cs':=[_,_,_,_,_,_,_,_,_,_,_,_,_,_,_,_,_,_,_,_,_,_,_,_,_]) ty47) ?_
 refine Ga C<|Ga C<|Ad<|Am (S5 7 5 4 3 2 C C C C C)<|Af<|Gm C<|Gr (Bs C C)<|Gm C<|Br (d:=28) C (λae=>?_)<|λae=>?_
 ·refine e9 (Ai C) (e9 (Bs C C)<|Gr (A3 C C)<|Gm C<|Br (d:=32) C (λaa=>?_)<|λaa=>?_)
  ·refine e9 (Ac fld47_2 C) (e9 (Ac fld35_1 C)<|e9 (A7 ty33) ?_)
   refine e9 (Bj A4 C)<|e9 (Bs C C)<|Gr (A3 C C)<|Gm C<|Br (d:=39) C (λad=>?_)<|λad=>?_
   ·refine e9 (Ac fld47_5 C) (e9 (Ac fld43_1 C)<|e9 (A7 ef) ?_)
    refine e9 (Bs C C)<|Gr (A3 C C)<|Gm C<|Br (d:=45) C (λab=>?_)<|λab=>?_
    ·refine e9 (Ai C) (e9 (Bs C C)<|Gr (A3 C C)<|Gm C<|Br (d:=49) C (λai=>?_)<|λai=>?_)
     ·refine e9 (Ac fld47_5 C) (e9 (Ac fld43_1 C)<|e9 (A7 ef) ?_)
      refine e9 (Bs C C)<|Gr (A3 C C)<|Gm C<|Br (d:=55) C (λaj=>?_)<|λaj=>?_
      ·refine e9 (Ac fld47_3 C) (e9 (Ac fld40_1 C)<|e9 (A7 ty22) ?_)
       refine Dm (Ch C C C) (Co (α:=Int) (cs:=[_,_,_]) (xs:=[2,2,2]) Ab ef C C dc dc C C C C) ?_
       rintro _ _ ⟨ao,rfl,rfl⟩
       refine Dm (Ch C C C) (Aj c_ C C<|Cmp_ok (KpF.fit ah<|Ce (κ:=κ)<|by repeat (first|exact Bu _|apply Bt|apply B0)).p.n1 Bh) ?_
       rintro _ _ ⟨_,_,⟨rfl,rfl⟩,rfl,rfl⟩
       exact e9 (Bs C C)<|Gr (A3 C C)<|Ga C<|Ad<|Am (S1 0 C)<|Ay<|A1 C C I (by first|exact Av|exact FitW) ⟨rfl,rfl⟩
      exact absurd (show triS 3 (edgesK (EnS.run 1 0 0 0 evs41).S) / 3=1 by rw [evs41_all];decide+kernel) aj
     exact absurd rfl ai
    exact absurd (show triS 3 (edgesK (EnS.run 2 2 0 0 evs41).S) / 3=0 by rw [evs41_age];decide+kernel) ab
   exact absurd (show (((EnS.run 2 2 0 0 evs41).S.length:Nat):Int)=2 by rw [evs41_age];rfl) ad
  exact absurd (show ((BfS.lates 0 ⟨-1, -1,[]⟩ evs41:Nat):Int)=0 by rw [evs41_lates];rfl) aa
 exact absurd rfl ae

variable {κ:Ctx}{I:List Item}
theorem mix_next{tt:Int}{out:List Ev}{e:Ev}(h:∀e∈out,FitOk n e/\e.tm<=60)(Z:FitOk n e)(M:e.tm=tt)(hb:tt<=60):∀a∈out++[e],FitOk n a/\a.tm<=60:=λa ha=>by
 rcases List.mem_append.1 ha with ha|ha
 ·exact h a ha
 rw [List.mem_singleton.1 ha];exact ⟨Z,by omega⟩
theorem MkMixed_base(hl:∀q,Sl κ (deck b lv q::I) lv ls)(h0:0<=i)(hn:2<=n/\n<=64)(hm:0<=most/\most<=20):eu Tryz.prog κ 16 [.pointer (some ⟨b,0,none⟩),e7 n,e7 most] (e8 b [lv,e7 i] 85::I) (λr J=>∃y:(Option Addr)×Nat×(List Ev)×Int,((r = .slice y.1 y.2.2.1.length y.2.1/\((∀e∈y.2.2.1,FitOk n e/\e.tm<=60)/\(y.2.2.1.length:Int)<=most))/\0<=y.2.2.2)/\J=[vc 54 (.slice y.1 y.2.2.1.length y.2.1) y.2.2.1]++deck b lv y.2.2.2::I):=by
 refine Ce3 Tryz.func16 C C ?_
 refine Af<|Ga C<|Ad<|Af<|Ga C<|Ad<|Af<|Ga C<|Ad<|Ap<|Af<|Gm C<|Gm C<|Gr (Rad C C)<|G.e (Aj c_ C C<|Next_ok (by repeat (first|exact AtF.head _ _|apply AtF.tail)) (Bv (hl _) Av) om om) ?_
 rintro _ _ ⟨_,_,⟨x1,i2,rfl,au,aw,rfl⟩,rfl,rfl⟩
 refine Ga C<|Ad<|A0<|B1 (σ:=Int×Int×(Option Addr)×Nat×(List Ev)×Int) (λs=>([(0,.pointer<|some ⟨b,0,none⟩),(1,e7 n),(7,.slice s.2.2.1 s.2.2.2.2.1.length s.2.2.2.1),(8,e7<|s.2.2.2.2.2),(9,e7<|s.1)]:Env)) (λs=>vc 54 (.slice s.2.2.1 s.2.2.2.2.1.length s.2.2.2.1) (s.2.2.2.2.1)::e8 b [lv,e7<|s.2.1] 85::I) (λs=>(0<=s.1/\(s.2.2.2.2.1.length:Int)+s.1<=most)/\(0<=s.2.1)/\(∀e∈s.2.2.2.2.1,FitOk n e/\e.tm<=60)/\(5<=s.2.2.2.2.2/\s.2.2.2.2.2<=5+2*(s.2.2.2.2.1.length:Int))) (λs=>s.1.toNat) (x1,i2,none,0,[],5) ⟨(by simp only [List.length_nil];omega),om,(λe he=>by cases he),(by simp only [List.length_nil];omega)⟩ (Aa C<|Aa C<|Aa (Dd C<|by first|rfl|simp)<|Aa Cd<|Aa Cd Bl) (Cm _ _) ?_
 rintro ⟨kq,ab,a1,c1,out,tt⟩ hp
 dsimp only at hp ⊢
 obtain ⟨av,aq,hE,az⟩:=hp
 refine Ap<|Af<|Gm C<|Gr (Ck C C)<|Gm C<|Br (d:=16) C (λah=>?_)<|λah=>?_
 ·refine e9 (Ai C) (e9 (Ck C C)<|Gr (A3 C C)<|Ad<|A8 C (λae=>?_)<|λae=>?_)
  ·refine Aw (Ah<|Ap<|A0<|Af<|Gm C<|Gm C<|Gm C<|Gm C<|Gm C<|G.e (Aj c_ C C<|Next_ok (by repeat (first|exact AtF.head _ _|apply AtF.tail)) (Bv (hl _) Av) om om) ?_)
   rintro _ _ ⟨_,_,⟨x3,i4,rfl,ax,ay,rfl⟩,rfl,rfl⟩
   refine Gr (Rsu C C)<|Gr (Do C C) ?_
   have an:(if 0<(tt - x3) then (tt - x3) else 0)=max 0 ((tt - x3)):=by split<;>omega
   rw [an]
   refine G.e (Aj c_ C C<|MkEvent_at (by repeat (first|exact AtF.head _ _|apply AtF.tail)) (λ_=>Bv (hl _) Av) om  om om) ?_
   rintro _ _ ⟨_,_,⟨⟨Z,i6⟩,⟨⟨rfl,aa,M⟩,ad⟩,rfl⟩,rfl,rfl⟩
   have ad:0<=i6:=ad
   dsimp only at aa
   dsimp only at M
   refine Ge1 (Co (α:=Ev) (cs:=[e7 (Z.kd),e7<|Z.tm,e7<|Z.u,e7<|Z.v,e7<|Z.w,e7<|Z.lb,e7<|Z.sg]) (xs:=[⟨Z.kd,Z.tm,Z.u,Z.v,Z.w,Z.lb,Z.sg⟩]) Ar ty54 C C dc dc C kr C C) λa0=>?_
   refine Ge2 (Cp (α:=Ev) (e:=54) (xs:=out) (ys:=([Z]:List Ev)) Ar ty54 C C C mm Bh lcn dc C<|λ_ _=>am) λao ak=>?_
   refine Ga C<|Ad<|Am (S5 7 0 1 8 9 C C C C C)<|Au<|Gm C<|Gm C<|G.e (Aj c_ C C<|Next_ok (by repeat (first|exact AtF.head _ _|apply AtF.tail)) (Bv (hl _) Av) om om) ?_
   rintro _ _ ⟨_,_,⟨ai,aj,rfl,ap,ar,rfl⟩,rfl,rfl⟩
   exact Gr (Rad C C)<|Ga C<|Bo<|Al<|Ah<|Au<|Gm C<|Gr (Rsu C C)<|Ga C<|Bo<|Cf ((kq - 1),(aj),(ao),(ak),(out++([Z]:List Ev)),(tt+ai))<|by dsimp only;exact ⟨lap,om,(by first|exact mix_next hE asm asm om),lap⟩
  exact absurd hn.1 om
 exact eb<|eb<|Gr (Bd C C)<|Ad<|Dw C<|Bx<|Ao<|Ao<|A9<|Ah<|Af<|Gm C<|Ga C<|Ad<|Am (S1 6 C)<|Ay<|A1 C C (vc 54 (.slice a1 out.length c1) (out)::e8 b [lv,e7 ab] 85::I) Bf ⟨(a1,c1,out,ab),⟨⟨rfl,⟨hE,by show (out.length:Int)<=most;omega⟩⟩,by show 0<=ab;omega⟩,rfl⟩
theorem MkMixed_at{F:Item->List Item}(M:AtF I (deck b lv i) F)(hl:∀q,Sl κ (F (deck b lv q)) lv ls)(h0:0<=i)(hn:2<=n/\n<=64)(hm:0<=most/\most<=20):eu Tryz.prog κ 16 [.pointer (some ⟨b,0,none⟩),e7 n,e7 most] I λr J=>∃y:(Option Addr)×Nat×(List Ev)×Int,((r = .slice y.1 y.2.2.1.length y.2.1/\((∀e∈y.2.2.1,FitOk n e/\e.tm<=60)/\(y.2.2.1.length:Int)<=most))/\0<=y.2.2.2)/\J=[vc 54 (.slice y.1 y.2.2.1.length y.2.1) y.2.2.1]++F (deck b lv y.2.2.2):=
 eu.at (Post:=λr (y:(Option Addr)×Nat×(List Ev)×Int)=>(r = .slice y.1 y.2.2.1.length y.2.1/\((∀e∈y.2.2.1,FitOk n e/\e.tm<=60)/\(y.2.2.1.length:Int)<=most))/\0<=y.2.2.2) (Z:=λy:(Option Addr)×Nat×(List Ev)×Int=>[vc 54 (.slice y.1 y.2.2.1.length y.2.1) y.2.2.1]) (X:=λy:(Option Addr)×Nat×(List Ev)×Int=>deck b lv y.2.2.2) M λJ _ hF=>MkMixed_base (λq=>(hl q).fit (hF _)) h0  hn hm
structure FarE (n:Int) (k:Nat) (o:List Ev):Prop where
 len:o.length=k
 fit:∀e∈o,FitOk n e
 tm:∀i:Nat,i<k->(e_ o i).tm=200+(i:Int)
theorem FarE.nil:FarE n 0 []:=⟨rfl,(λe Z=>by cases Z),λi h=>absurd h (Nat.not_lt_zero _)⟩
theorem FarE.next{k:Nat}{e:Ev}(h:FarE n k o)(M:FitOk n e)(ht:e.tm=200+(k:Int)):FarE n (k+1) (o++[e]):=by
 have Z:=h.len
 refine ⟨by rw [List.length_append,Z];rfl,λa ha=>?_,λi hi=>?_⟩
 ·rcases List.mem_append.1 ha with ha|ha
  ·exact h.fit a ha
  rw [List.mem_singleton.1 ha];exact M
 by_cases hk:i<k
 ·rw [Cy _ i (by simp;omega),List.getElem_append_left om,←Cy _ i om];exact h.tm i hk
 have e1:i=k:=by omega
 subst e1
 rw [Cy _ i (by simp;omega)]
 simp [Z,ht]
theorem parts_law(hb:0<=bd/\bd<=3)(hl:∀e∈l,FitOk n e/\e.tm<=60)(ho:FarE n 5 o):EnS.run kd wd mo bd (l++o)=((EnS.run kd wd mo bd l).all kd wd mo bd o).flush kd wd mo:=by
 have h0:=ho.tm 0 dc
 have Z:=ho.len
 cases o with
 |nil=>cases Z
 |cons e m=>
  have e0:e_ (e::m) ((0:Nat):Int)=e:=rfl
  rw [e0] at h0
  refine (partE_run om (λx M=>⟨(hl x M).1.chk,(hl x M).1.tm.2⟩) ?_).symm
  have:=all_lt (bd:=bd) l ⟨-1, -1,[]⟩ 60 dc (λx M=>(hl x M).2)
  omega
theorem run_ok(Z:0<=nd/\nd<=64)(M:checkW kd wd mo=0)(hb:0<=bd/\bd<=1048576):∀(l:List Ev) (k:EnS),EnOk nd kd wd mo bd k->(∀e∈l,FitOk nd e)->EnOk nd kd wd mo bd (k.all kd wd mo bd l)
 |[],k,h,_=>h
 |e::l,k,h,hl=>run_ok Z M hb l _ (h.next<|hl e List.mem_cons_self) λx hx=>hl x (List.mem_cons_of_mem _ hx)
theorem run_EnOk(Z:0<=nd/\nd<=64)(M:checkW kd wd mo=0)(hb:0<=bd/\bd<=1048576)(hl:∀e∈l,FitOk nd e):EnOk nd kd wd mo bd (EnS.run kd wd mo bd l):=
 (run_ok Z M hb l _ (EnOk.open_ Z M hb) hl).flush
theorem run_lt{nd:Int}{T:Int}(Z : -1<=T)(M:∀e∈l,e.tm<=T):(EnS.run kd wd mo bd l).b.lt<=T:=by
 have h1:(EnS.run kd wd mo bd l).b.lt=(BfS.all bd ⟨-1, -1,[]⟩ l).lt:=by rw [run_eq];rfl
 rw [h1];exact all_lt l _ T Z M
theorem EngineParts_walk{κ:Ctx}{I:List Item}{la:Option Addr}{ln lc:Nat}(hl:Sl κ I (.slice la ln lc) ls)(hT:TabRd κ I 0 tzCells):eu Tryz.prog κ 7 [.slice la ln lc] I (λr J=>r = .bool true/\I=J):=by
 refine Ce1 Tryz.func7 C C ?_
 refine Af<|Ga C<|Ad<|Ap<|Af<|Gm C<|Gc0 (Aj c_ C C Few_ok) ?_
 refine Gr (Ea C)<|Ad<|A8 C (λbz=>?_)<|λbz=>?_
 ·refine Af (G.e (Aj c_ C C<|Awake41_ok<|Bg hT Av) ?_)
  rintro _ _ ⟨_,_,⟨rfl,rfl⟩,rfl,rfl⟩
  exact Ga C<|Ad<|Ay<|Aq<|A1 C C I (by first|exact Av|exact FitW) ⟨rfl,rfl⟩
 refine Aw<|Ah<|Af<|Gm C<|G.e (Aj c_ C C New_ok) ?_
 rintro _ _ ⟨_,_,⟨ap,rfl,rfl⟩,rfl,rfl⟩
 have ct:(0:Int)<=0:=Int.le_refl _
 refine Ga C<|Ad<|Af<|Gm C<|G.e (Aj c_ C C<|Next_ok (by repeat (first|exact AtF.head _ _|apply AtF.tail)) (A6 hl) om om) ?_
 rintro _ _ ⟨_,_,⟨x2,i3,rfl,ci,hi3,rfl⟩,rfl,rfl⟩
 refine Gr (Rad C C)<|Gm C<|G.e (Aj c_ C C<|MkWindowV_at (by repeat (first|exact AtF.head _ _|apply AtF.tail)) (λ_=>Bv hl Av) om  ) ?_
 rintro _ _ ⟨_,_,⟨⟨ab,M,aa,i7⟩,⟨⟨rfl,ar⟩,bj⟩,rfl⟩,rfl,rfl⟩
 have bj:0<=i7:=bj
 refine Gm C<|G.e (Aj c_ C C<|Next_ok (by repeat (first|exact AtF.head _ _|apply AtF.tail)) (A6 hl) om om) ?_
 rintro _ _ ⟨_,_,⟨x8,i9,rfl,ck,cm,rfl⟩,rfl,rfl⟩
 refine Ge1 (A2 ty29 C) λak=>Ga C<|Ge0 (C9 ty29) ?_
 refine Ga C<|Ad<|Am (S4 6 4 5 3 C C C C)<|Af<|Gm C<|Gm C<|G.e (Aj c_ C C<|MkMixed_at (by repeat (first|exact AtF.head _ _|apply AtF.tail)) (λ_=>Bv hl Av) om  om om) ?_
 rintro _ _ ⟨_,_,⟨⟨ah,ai,ad,bo⟩,⟨⟨rfl,ae⟩,a6⟩,rfl⟩,rfl,rfl⟩
 have a6:0<=bo:=a6
 dsimp only at ae
 refine Ga C<|Ad<|Af<|Ga C<|Ad<|Ap<|Af<|Ga C<|Ad<|A0<|B1 (σ:=Nat×Int×(Option Addr)×Nat×(List Ev)) (λs=>([(3,.pointer<|some ⟨ap,0,none⟩),(4,e7<|2+x2),(5,.pointer<|some ⟨ak,0,none⟩),(6,e7 x8),(7,.slice ah ad.length ai),(8,.slice s.2.2.1 s.2.2.2.2.length s.2.2.2.1),(9,e7 ((s.1:Nat):Int))]:Env)) (λs=>vc 54 (.slice s.2.2.1 s.2.2.2.2.length s.2.2.2.1) (s.2.2.2.2)::vc 54 (.slice ah ad.length ai) (ad)::e8 ak [e7 ab,e7 M,e7 aa] 29::e8 ap [.slice la ln lc,e7<|s.2.1] 85::I) (λs=>(s.1<=5)/\(0<=s.2.1)/\(FarE (2+x2) s.1 s.2.2.2.2)) (λs=>5 - s.1) (0,bo,none,0,[]) ⟨om,om,FarE.nil⟩ (Aa C<|Aa C<|Aa C<|Aa C<|Aa C<|Aa (Dd C<|by first|rfl|simp)<|Aa Cd Bl) (Cv (show Fit κ _ _ from Bm)<|Cm (α:=Ev) _ _) ?_
 rintro ⟨i,iq,oa,oc,o⟩ hp
 dsimp only at hp ⊢
 obtain ⟨hi,co,hO⟩:=hp
 have cr:=hO.len
 refine Ap<|Af<|Gm C<|Gr (Bb C C)<|Ad<|A8 C (λbw=>?_)<|λbw=>?_
 ·refine Aw (Ah<|Ap<|A0<|Au<|Gm C<|Gm C<|Gm C<|Gm C<|Gr (Rad C C)<|G.e (Aj c_ C C<|MkEvent_at (by repeat (first|exact AtF.head _ _|apply AtF.tail)) (λ_=>Bv hl Av) om  om om) ?_)
  rintro _ _ ⟨_,_,⟨⟨aj,bt⟩,⟨⟨rfl,ay,a1⟩,a5⟩,rfl⟩,rfl,rfl⟩
  have a5:0<=bt:=a5
  dsimp only at ay
  dsimp only at a1
  refine Ge1 (Co (α:=Ev) (cs:=[e7 (aj.kd),e7<|aj.tm,e7<|aj.u,e7<|aj.v,e7<|aj.w,e7<|aj.lb,e7<|aj.sg]) (xs:=[⟨aj.kd,aj.tm,aj.u,aj.v,aj.w,aj.lb,aj.sg⟩]) Ar ty54 C C dc dc C kr C C) λca=>?_
  refine Ge2 (Cp (α:=Ev) (e:=54) (xs:=o) (ys:=([aj]:List Ev)) Ar ty54 C C C mm Bh olp dc C<|λ_ _=>am) λbn bm=>?_
  exact Ga C<|Bo<|Al<|Ah<|Am (S7 8 3 4 5 6 7 9 C C C C C C C)<|Au<|Gm C<|Gr (Rad C C)<|Ga C<|Bo<|Cf ((i+1),(bt),(bn),(bm),(o++([aj]:List Ev)))<|by dsimp only;exact ⟨om,om,(hO.next ay a1)⟩
 refine Bx<|Ao<|Ao<|A9<|Ah<|Af<|Gm C ?_
 have au:=hO
 rw [show i=5 by omega] at au
 have cc:=au.len
 refine Gm C<|Gl3 ty29 ?_
 refine Gm C<|G.e (Aj c_ C C<|KRun_ok (T:=I) (evs:=ad) (by repeat (first|exact Bu _|apply Bt|apply B0)) Bh om ar om (λe he=>(ae.1 e he).1) om<|Bg hT Av) ?_
 rintro _ _ ⟨_,_,⟨a4,Y21,rfl,bg,rfl⟩,rfl,rfl⟩
 refine D9 (J:=vc 54 (.slice oa o.length oc) (o)::vc 54 (.slice ah ad.length ai) (ad)::e8 ak [e7 ab,e7 M,e7 aa] 29::e8 ap [.slice la ln lc,e7 iq] 85::(Y21++I)) (Cw<|C6 (A:=Y21) (L:=[vc 54 (.slice oa o.length oc) o,vc 54 (.slice ah ad.length ai) ad,e8 ak [e7 ab,e7 M,e7 aa] 29,e8 ap [.slice la ln lc,e7 iq] 85]) (T:=I)) ?_
 refine Gm C<|Gr (Ak C C)<|Gr (Ak C C)<|Gr (Ak C C)<|Ge1 (A2 ty47 C) λaq=>Ge0 (B6 (cs:=[_,_,_,_,_,_,_,_,_,_,_,_,_,_,_,_,_,_,_,_,_,_,_,_,_]) (vs:=[_,_,_,_,_,_,_,_,_,_,_,_,_,_,_,_,_,_,_,_,_,_,_,_,_]) (cs':=[_,_,_,_,_,_,_,_,_,_,_,_,_,_,_,_,_,_,_,_,_,_,_,_,_]) ty47) ?_
 refine Ga C<|Ga C<|Ad<|Am (S7 12 10 4 5 6 7 8 C C C C C C C)<|Ap<|Af<|Gm C<|Gr (Bj Ar C)<|Gm C<|Ad<|A0<|B1 (σ:=Nat×EnS×KpV×(List Item)) (λs=>([(4,e7<|2+x2),(5,.pointer<|some ⟨ak,0,none⟩),(6,e7 x8),(7,.slice ah ad.length ai),(8,.slice oa o.length oc),(10,.pointer<|some ⟨aq,0,none⟩),(12,e7 0),(60,.slice oa o.length oc),(61,e7 ((o.length:Nat):Int)),(62,e7 ((s.1:Nat):Int))]:Env)) (λs=>e8 aq [e7 ab,e7 M,e7 aa,e7 x8,e7<|s.2.1.b.lt,e7<|s.2.1.b.mr,.slice s.2.2.1.w.a s.2.1.b.ws.length s.2.2.1.w.c,e7<|(2+x2),.slice s.2.2.1.l.a s.2.1.S.length s.2.2.1.l.c,e7<|(2+x2),.slice s.2.2.1.p.e1.a (edgesK s.2.1.S).length s.2.2.1.p.e1.c,.slice s.2.2.1.p.n1.a (coreN (2+x2)<|edgesK s.2.1.S).length s.2.2.1.p.n1.c,e7<|(2+x2),.slice s.2.2.1.p.e2.a (edgesK s.2.1.S).length s.2.2.1.p.e2.c,.slice s.2.2.1.p.n2.a (trussG (2+x2)<|edgesK s.2.1.S).length s.2.2.1.p.n2.c,e7<|(2+x2),.slice s.2.2.1.p.e3.a (edgesK s.2.1.S).length s.2.2.1.p.e3.c,e7<|triS (2+x2) (edgesK s.2.1.S) / 3,.slice s.2.2.1.p.n3.a (triL (2+x2)<|edgesK s.2.1.S).length s.2.2.1.p.n3.c,e7<|(2+x2),.slice s.2.2.1.p.e4.a (edgesK s.2.1.S).length s.2.2.1.p.e4.c,e7<|wedgeC (2+x2)<|edgesK s.2.1.S,e7<|quadC (2+x2)<|edgesK s.2.1.S,.slice s.2.2.1.p.n4.a (quadL (2+x2)<|edgesK s.2.1.S).length s.2.2.1.p.n4.c,e7<|s.2.1.tm] 47::vc 54 (.slice oa o.length oc) (o)::vc 54 (.slice ah ad.length ai) (ad)::e8 ak [e7 ab,e7 M,e7 aa] 29::e8 ap [.slice la ln lc,e7 iq] 85::(s.2.2.2++I)) (λs=>(s.1<=o.length)/\(s.2.1=(EnS.run ab M aa x8 ad).all ab M aa x8 (o.take s.1))/\(EnOk (2+x2) ab M aa x8 s.2.1)/\(KpF κ (s.2.2.2++I) (2+x2) s.2.1 s.2.2.1)/\(s.2.1.b.ws.length<=s.1)/\(s.2.1.b.lt<=199+(s.1:Int))) (λs=>o.length - s.1) (0,(EnS.run ab M aa x8 ad),a4,Y21) (show ((0:Nat)<=o.length)/\(((EnS.run ab M aa x8 ad):EnS)=(EnS.run ab M aa x8 ad).all ab M aa x8 (o.take (0:Nat)))/\(EnOk (2+x2) ab M aa x8 ((EnS.run ab M aa x8 ad):EnS))/\(KpF κ ((Y21:List Item)++I) (2+x2) ((EnS.run ab M aa x8 ad):EnS) (a4:KpV))/\(((EnS.run ab M aa x8 ad):EnS).b.ws.length<=(0:Nat))/\(((EnS.run ab M aa x8 ad):EnS).b.lt<=199+((0:Nat):Int)) from ⟨om,rfl,(run_EnOk om ar om<|λe he=>(ae.1 e he).1),bg,(by show (0:Nat)<=0;omega),(by have h9:=run_lt (nd:=(2+x2)) (kd:=ab) (wd:=M) (mo:=aa) (bd:=x8) (T:=60) dc (λe he=>(ae.1 e he).2);omega)⟩) (Aa C<|Aa C<|Aa C<|Aa C<|Aa C<|Aa C<|Aa C<|Aa C<|Aa C<|Aa Cd Bl) Bm ?_
 rintro ⟨i,k,v,Y⟩ hp
 dsimp only at hp ⊢
 obtain ⟨hi,hk,hK,hF,cj,hlt⟩:=hp
 have cp:=hK.buf.mr
 refine Af<|Gr (Bb C C)<|Ad<|Ap<|A8 C (λbx=>?_)<|λbx=>?_
 ·refine Aw (Ah<|Ap<|A0<|Af<|Gr (Az (α:=Ev) (xs:=o) Ar ty54 C C Bh om om)<|Gr (B2 (α:=Ev) (xs:=o) ty54 C Bh om om) ?_)
  have ba:=au.fit _ (Ca (xs:=o) (i:=(i:Int)) om om)
  have b3:=au.tm i om
  generalize hxe:e_ o i=xe at ba b3 ⊢
  refine Ge1 (A2 ty54 C) λbk=>Ge0 (Es7_7 ty54) ?_
  refine Ad<|Am (S11 14 4 5 6 7 8 10 12 60 61 62 C C C C C C C C C C C)<|Af<|Gr (A5 (vs:=[_,_,_,_,_,_,_,_,_,_,_,_,_,_,_,_,_,_,_,_,_,_,_,_,_]) ty47) ?_
  refine Gl7 ty54 ?_
  refine G.e (Aj c_ C C<|FeedA_ok (T:=(Y++I)) (k:=k) (v:=v) (by repeat (first|exact hH|exact Bu _|apply Bt|apply Ci|apply B0)) hF hK om ba<|Bg hT Av) ?_
  rintro _ _ ⟨_,_,(⟨a0,rfl,rfl⟩|⟨a0,bi,Y25,cb,cf,rfl,bb,bv,rfl⟩),rfl,rfl⟩
  ·exfalso;omega
  refine D9 (J:=e8 bk [e7 (xe.kd),e7<|xe.tm,e7<|xe.u,e7<|xe.v,e7<|xe.w,e7<|xe.lb,e7<|xe.sg] 54::e8 aq [e7 ab,e7 M,e7 aa,e7 x8,e7<|k.b.lt,e7<|k.b.mr,.slice v.w.a k.b.ws.length v.w.c,e7<|(2+x2),.slice v.l.a k.S.length v.l.c,e7<|(2+x2),.slice v.p.e1.a (edgesK k.S).length v.p.e1.c,.slice v.p.n1.a (coreN (2+x2)<|edgesK k.S).length v.p.n1.c,e7<|(2+x2),.slice v.p.e2.a (edgesK k.S).length v.p.e2.c,.slice v.p.n2.a (trussG (2+x2)<|edgesK k.S).length v.p.n2.c,e7<|(2+x2),.slice v.p.e3.a (edgesK k.S).length v.p.e3.c,e7<|triS (2+x2) (edgesK k.S) / 3,.slice v.p.n3.a (triL (2+x2)<|edgesK k.S).length v.p.n3.c,e7<|(2+x2),.slice v.p.e4.a (edgesK k.S).length v.p.e4.c,e7<|wedgeC (2+x2)<|edgesK k.S,e7<|quadC (2+x2)<|edgesK k.S,.slice v.p.n4.a (quadL (2+x2)<|edgesK k.S).length v.p.n4.c,e7<|k.tm] 47::vc 54 (.slice oa o.length oc) (o)::vc 54 (.slice ah ad.length ai) (ad)::e8 ak [e7 ab,e7 M,e7 aa] 29::e8 ap [.slice la ln lc,e7 iq] 85::(Y25++(Y++I))) (Cw<|C6 (A:=Y25) (L:=[e8 bk [e7 (xe.kd),e7<|xe.tm,e7<|xe.u,e7<|xe.v,e7<|xe.w,e7<|xe.lb,e7<|xe.sg] 54,e8 aq [e7 ab,e7 M,e7 aa,e7 x8,e7<|k.b.lt,e7<|k.b.mr,.slice v.w.a k.b.ws.length v.w.c,e7<|(2+x2),.slice v.l.a k.S.length v.l.c,e7<|(2+x2),.slice v.p.e1.a (edgesK k.S).length v.p.e1.c,.slice v.p.n1.a (coreN (2+x2)<|edgesK k.S).length v.p.n1.c,e7<|(2+x2),.slice v.p.e2.a (edgesK k.S).length v.p.e2.c,.slice v.p.n2.a (trussG (2+x2)<|edgesK k.S).length v.p.n2.c,e7<|(2+x2),.slice v.p.e3.a (edgesK k.S).length v.p.e3.c,e7<|triS (2+x2) (edgesK k.S) / 3,.slice v.p.n3.a (triL (2+x2)<|edgesK k.S).length v.p.n3.c,e7<|(2+x2),.slice v.p.e4.a (edgesK k.S).length v.p.e4.c,e7<|wedgeC (2+x2)<|edgesK k.S,e7<|quadC (2+x2)<|edgesK k.S,.slice v.p.n4.a (quadL (2+x2)<|edgesK k.S).length v.p.n4.c,e7<|k.tm] 47,vc 54 (.slice oa o.length oc) o,vc 54 (.slice ah ad.length ai) ad,e8 ak [e7 ab,e7 M,e7 aa] 29,e8 ap [.slice la ln lc,e7 iq] 85]) (T:=(Y++I))) ?_
  refine Gm C<|Gr (Ak C C)<|Gr (Ak C C)<|Gr (Ak C C)<|Ge1 (A2 ty47 C) λcn=>Ge0 (B6 (cs:=[_,_,_,_,_,_,_,_,_,_,_,_,_,_,_,_,_,_,_,_,_,_,_,_,_]) (vs:=[_,_,_,_,_,_,_,_,_,_,_,_,_,_,_,_,_,_,_,_,_,_,_,_,_]) (cs':=[_,_,_,_,_,_,_,_,_,_,_,_,_,_,_,_,_,_,_,_,_,_,_,_,_]) ty47) ?_
  refine Ga C<|Ga C<|Ad<|Am (S12 17 15 4 5 6 7 8 10 12 60 61 62 C C C C C C C C C C C C)<|Ap<|Af<|Gm C<|Gr (Bn C C)<|Ad<|Am (S12 74 15 4 5 6 7 8 10 12 60 61 62 C C C C C C C C C C C C)<|A8 C (λbr=>?_)<|λbr=>?_
  ·exact absurd br dc
  refine Aw<|Ah<|Au<|Gr (A5 (vs:=[_,_,_,_,_,_,_,_,_,_,_,_,_,_,_,_,_,_,_,_,_,_,_,_,_]) ty47) ?_
  refine Ge0 (B6 (cs:=[_,_,_,_,_,_,_,_,_,_,_,_,_,_,_,_,_,_,_,_,_,_,_,_,_]) (vs:=[_,_,_,_,_,_,_,_,_,_,_,_,_,_,_,_,_,_,_,_,_,_,_,_,_]) (cs':=[_,_,_,_,_,_,_,_,_,_,_,_,_,_,_,_,_,_,_,_,_,_,_,_,_]) ty47) ?_
  exact Bo<|Al<|Ah<|Au<|Gr (Rad C C)<|Gm C<|Bo<|Cf ((i+1),((k.feed ab M aa x8 xe)),(bi),((Y25++Y))) (by dsimp only;exact ⟨om,(by rw [Cl o i om,EnS.all_app,←hk,hxe];show _=k.next ab M aa x8 xe;unfold EnS.next;rw [if_neg om]),(hK.feed ba a0),(by rw [List.append_assoc];exact bb),(by have h9:=feed_wlen (kd:=ab) (wd:=M) (mo:=aa) (bd:=x8) k xe;omega),(by show max k.b.lt xe.tm<=_;omega)⟩) (hI:=by (try dsimp only);exact (by rw [List.append_assoc];exact Bm))
 refine Bx<|Ao<|Ao<|A9<|Ah<|Af<|Gr (A5 (vs:=[_,_,_,_,_,_,_,_,_,_,_,_,_,_,_,_,_,_,_,_,_,_,_,_,_]) ty47) ?_
 refine G.e (Aj c_ C C<|Flush_ok (T:=(Y++I)) (k:=k) (v:=v) (by repeat (first|exact hH|exact Bu _|apply Bt|apply Ci|apply B0)) hF hK om<|Bg hT Av) ?_
 rintro _ _ ⟨_,_,⟨Z,Y30,cd,b4,rfl,aw,b2,rfl⟩,rfl,rfl⟩
 refine D9 (J:=e8 aq [e7 ab,e7 M,e7 aa,e7 x8,e7<|k.b.lt,e7<|k.b.mr,.slice v.w.a k.b.ws.length v.w.c,e7<|(2+x2),.slice v.l.a k.S.length v.l.c,e7<|(2+x2),.slice v.p.e1.a (edgesK k.S).length v.p.e1.c,.slice v.p.n1.a (coreN (2+x2)<|edgesK k.S).length v.p.n1.c,e7<|(2+x2),.slice v.p.e2.a (edgesK k.S).length v.p.e2.c,.slice v.p.n2.a (trussG (2+x2)<|edgesK k.S).length v.p.n2.c,e7<|(2+x2),.slice v.p.e3.a (edgesK k.S).length v.p.e3.c,e7<|triS (2+x2) (edgesK k.S) / 3,.slice v.p.n3.a (triL (2+x2)<|edgesK k.S).length v.p.n3.c,e7<|(2+x2),.slice v.p.e4.a (edgesK k.S).length v.p.e4.c,e7<|wedgeC (2+x2)<|edgesK k.S,e7<|quadC (2+x2)<|edgesK k.S,.slice v.p.n4.a (quadL (2+x2)<|edgesK k.S).length v.p.n4.c,e7<|k.tm] 47::vc 54 (.slice oa o.length oc) (o)::vc 54 (.slice ah ad.length ai) (ad)::e8 ak [e7 ab,e7 M,e7 aa] 29::e8 ap [.slice la ln lc,e7 iq] 85::(Y30++(Y++I))) (Cw<|C6 (A:=Y30) (L:=[e8 aq [e7 ab,e7 M,e7 aa,e7 x8,e7<|k.b.lt,e7<|k.b.mr,.slice v.w.a k.b.ws.length v.w.c,e7<|(2+x2),.slice v.l.a k.S.length v.l.c,e7<|(2+x2),.slice v.p.e1.a (edgesK k.S).length v.p.e1.c,.slice v.p.n1.a (coreN (2+x2)<|edgesK k.S).length v.p.n1.c,e7<|(2+x2),.slice v.p.e2.a (edgesK k.S).length v.p.e2.c,.slice v.p.n2.a (trussG (2+x2)<|edgesK k.S).length v.p.n2.c,e7<|(2+x2),.slice v.p.e3.a (edgesK k.S).length v.p.e3.c,e7<|triS (2+x2) (edgesK k.S) / 3,.slice v.p.n3.a (triL (2+x2)<|edgesK k.S).length v.p.n3.c,e7<|(2+x2),.slice v.p.e4.a (edgesK k.S).length v.p.e4.c,e7<|wedgeC (2+x2)<|edgesK k.S,e7<|quadC (2+x2)<|edgesK k.S,.slice v.p.n4.a (quadL (2+x2)<|edgesK k.S).length v.p.n4.c,e7<|k.tm] 47,vc 54 (.slice oa o.length oc) o,vc 54 (.slice ah ad.length ai) ad,e8 ak [e7 ab,e7 M,e7 aa] 29,e8 ap [.slice la ln lc,e7 iq] 85]) (T:=(Y++I))) ?_
 refine Gm C<|Gr (Ak C C)<|Gr (Ak C C)<|Gr (Ak C C)<|Ge0 (B6 (cs:=[_,_,_,_,_,_,_,_,_,_,_,_,_,_,_,_,_,_,_,_,_,_,_,_,_]) (vs:=[_,_,_,_,_,_,_,_,_,_,_,_,_,_,_,_,_,_,_,_,_,_,_,_,_]) (cs':=[_,_,_,_,_,_,_,_,_,_,_,_,_,_,_,_,_,_,_,_,_,_,_,_,_]) ty47) ?_
 refine Ga C<|Ga C<|Ad<|Am (S8 19 4 5 6 7 8 10 12 C C C C C C C C)<|Ap<|Bq mixed<|Ee 16<|Dr 0 C (Ai C)<|Dr 1 C (Ai C)<|Dr 2 C (A5 (vs:=[_,_,_]) ty29) ?_
 refine Dr 3 C (Ai C)<|Dr 5 C (Ai C)<|Dl (rs:=[4,12]) kr C C<|Ez ?_<|Ed ?_
 ·refine Se2 C (Eff.clone (α:=Ev) (ys:=ad) Ar ty54 C C C Bh olp dc C) λb7 b5=>?_
  refine Dl (rs:=[6,12]) kr C C<|Ez ?_<|Ed ?_
  ·refine Se2 C (Cp (α:=Ev) (e:=54) (xs:=ad) (ys:=o) Ar ty54 C C C mm Bh olp dc C<|λ_ _=>am) λax az=>?_
   refine Dl (rs:=[7,12]) kr C C<|Ez ?_<|Ed ?_
   ·refine Se C (Aj c_ C C<|KRun_ok (T:=(Y30++(Y++I))) (evs:=ad++o) (by repeat (first|exact Bu _|apply Bt|apply B0)) Bh om ar om (λe he=>(List.mem_append.1 he).elim (λq=>(ae.1 e q).1) (au.fit e)) (by simp only [List.length_append];omega)<|Bg hT Av) ?_
    rintro _ _ ⟨_,_,⟨ce,Y38,rfl,be,rfl⟩,rfl,rfl⟩
    refine ⟨Av,?_⟩
    refine D.fit (J:=vc 54 (.slice ax (ad++o).length az) (ad++o)::e8 aq [e7 ab,e7 M,e7 aa,e7 x8,e7<|(k.flush ab M aa).b.lt,e7<|(k.flush ab M aa).b.mr,.slice Z.w.a (k.flush ab M aa).b.ws.length Z.w.c,e7<|(2+x2),.slice Z.l.a ((k.flush ab M aa).S).length Z.l.c,e7<|(2+x2),.slice Z.p.e1.a (edgesK<|(k.flush ab M aa).S).length Z.p.e1.c,.slice Z.p.n1.a (coreN (2+x2)<|edgesK<|(k.flush ab M aa).S).length Z.p.n1.c,e7<|(2+x2),.slice Z.p.e2.a (edgesK<|(k.flush ab M aa).S).length Z.p.e2.c,.slice Z.p.n2.a (trussG (2+x2)<|edgesK<|(k.flush ab M aa).S).length Z.p.n2.c,e7<|(2+x2),.slice Z.p.e3.a (edgesK<|(k.flush ab M aa).S).length Z.p.e3.c,e7<|triS (2+x2) (edgesK<|(k.flush ab M aa).S) / 3,.slice Z.p.n3.a (triL (2+x2)<|edgesK<|(k.flush ab M aa).S).length Z.p.n3.c,e7<|(2+x2),.slice Z.p.e4.a (edgesK<|(k.flush ab M aa).S).length Z.p.e4.c,e7<|wedgeC (2+x2)<|edgesK<|(k.flush ab M aa).S,e7<|quadC (2+x2)<|edgesK<|(k.flush ab M aa).S,.slice Z.p.n4.a (quadL (2+x2)<|edgesK<|(k.flush ab M aa).S).length Z.p.n4.c,e7<|(k.flush ab M aa).tm] 47::vc 54 (.slice oa o.length oc) (o)::vc 54 (.slice ah ad.length ai) (ad)::e8 ak [e7 ab,e7 M,e7 aa] 29::e8 ap [.slice la ln lc,e7 iq] 85::(Y38++(Y30++(Y++I)))) (Cw<|C6 (A:=Y38) (L:=[vc 54 (.slice ax (ad++o).length az) (ad++o),e8 aq [e7 ab,e7 M,e7 aa,e7 x8,e7<|(k.flush ab M aa).b.lt,e7<|(k.flush ab M aa).b.mr,.slice Z.w.a (k.flush ab M aa).b.ws.length Z.w.c,e7<|(2+x2),.slice Z.l.a ((k.flush ab M aa).S).length Z.l.c,e7<|(2+x2),.slice Z.p.e1.a (edgesK<|(k.flush ab M aa).S).length Z.p.e1.c,.slice Z.p.n1.a (coreN (2+x2)<|edgesK<|(k.flush ab M aa).S).length Z.p.n1.c,e7<|(2+x2),.slice Z.p.e2.a (edgesK<|(k.flush ab M aa).S).length Z.p.e2.c,.slice Z.p.n2.a (trussG (2+x2)<|edgesK<|(k.flush ab M aa).S).length Z.p.n2.c,e7<|(2+x2),.slice Z.p.e3.a (edgesK<|(k.flush ab M aa).S).length Z.p.e3.c,e7<|triS (2+x2) (edgesK<|(k.flush ab M aa).S) / 3,.slice Z.p.n3.a (triL (2+x2)<|edgesK<|(k.flush ab M aa).S).length Z.p.n3.c,e7<|(2+x2),.slice Z.p.e4.a (edgesK<|(k.flush ab M aa).S).length Z.p.e4.c,e7<|wedgeC (2+x2)<|edgesK<|(k.flush ab M aa).S,e7<|quadC (2+x2)<|edgesK<|(k.flush ab M aa).S,.slice Z.p.n4.a (quadL (2+x2)<|edgesK<|(k.flush ab M aa).S).length Z.p.n4.c,e7<|(k.flush ab M aa).tm] 47,vc 54 (.slice oa o.length oc) o,vc 54 (.slice ah ad.length ai) ad,e8 ak [e7 ab,e7 M,e7 aa] 29,e8 ap [.slice la ln lc,e7 iq] 85]) (T:=(Y30++(Y++I)))) ?_
    refine Dr 8 C (Ai C)<|Dr 9 C (Ak C C)<|Dr 10 C (Ak C C)<|Dr 11 C (Ak C C)<|Ds1 12<|Se1 C (A2 ty47 C) λcq=>?_
    refine Ds1 13<|Se0 C (B6 (cs:=[_,_,_,_,_,_,_,_,_,_,_,_,_,_,_,_,_,_,_,_,_,_,_,_,_]) (vs:=[_,_,_,_,_,_,_,_,_,_,_,_,_,_,_,_,_,_,_,_,_,_,_,_,_]) (cs':=[_,_,_,_,_,_,_,_,_,_,_,_,_,_,_,_,_,_,_,_,_,_,_,_,_]) ty47) ?_
    refine Dr 14 C (Ba C)<|Dr 15 C (Ba C)<|Dz<|Ah<|Am (S5 22 20 19 10 12 C C C C C)<|Af<|Gm C ?_
    have hE:EnS.run ab M aa x8 (ad++o)=k.flush ab M aa:=by rw [parts_law (n:=(2+x2)) om ae.1 au,hk,List.take_of_length_le om]
    refine Gr (Bs C C)<|Gm C<|Br (d:=97) C (λav=>?_)<|λav=>?_
    ·refine e9 (Ai C) (e9 (Bs C C)<|Gr (A3 C C)<|Gm C<|Br (d:=101) C (λan=>?_)<|λan=>?_)
     ·refine e9 (Ai C) (e9 (Bs C C)<|Gr (A3 C C)<|Gm C<|Br (d:=105) C (λao=>?_)<|λao=>?_)
      ·refine e9 (A5 (vs:=[_,_,_,_,_,_,_,_,_,_,_,_,_,_,_,_,_,_,_,_,_,_,_,_,_]) ty47) ?_
       refine e9 (A5 (vs:=[_,_,_,_,_,_,_,_,_,_,_,_,_,_,_,_,_,_,_,_,_,_,_,_,_]) ty47) ?_
       refine Dm (Ch C C C) (Aj c_ C C<|SameK_ok (k:=(EnS.run ab M aa x8<|ad++o)) (k2:=(k.flush ab M aa)) hE (KpF.fit be<|Ce (κ:=κ)<|by repeat (first|exact Bu _|apply Bt|apply B0))<|KpF.fit aw<|Ce (κ:=κ)<|by repeat (first|exact Bu _|apply Bt|apply B0)) ?_
       rintro _ _ ⟨_,_,⟨rfl,rfl⟩,rfl,rfl⟩
       refine Gr (A3 C C)<|Gm C<|Dm (Ch C C C) (Aj c_ C C<|Awake41_ok<|Bg hT Av) ?_
       rintro _ _ ⟨_,_,⟨rfl,rfl⟩,rfl,rfl⟩
       exact Gr (A3 C C)<|Ga C<|Ad<|Am (S1 2 C)<|Ay<|A1 C C I (by first|exact Av|exact FitW) ⟨rfl,rfl⟩
      exact absurd rfl ao
     exact absurd rfl an
    exact absurd rfl av
   refine Se1 C (A2 ty47 C) λbq=>?_
   refine Ds1 7<|Se C (Aj c_ C C<|KRun_ok (T:=(Y30++(Y++I))) (evs:=ad++o) (by repeat (first|exact Bu _|apply Bt|apply B0)) Bh om ar om (λe he=>(List.mem_append.1 he).elim (λq=>(ae.1 e q).1) (au.fit e)) (by simp only [List.length_append];omega)<|Bg hT Av) ?_
   rintro _ _ ⟨_,_,⟨b9,Y42,rfl,bf,rfl⟩,rfl,rfl⟩
   refine ⟨Av,?_⟩
   refine D.fit (J:=e8 bq [e7 0,e7 0,e7 0,e7 0,e7 0,e7 0,.slice none 0 0,e7 0,.slice none 0 0,e7 0,.slice none 0 0,.slice none 0 0,e7 0,.slice none 0 0,.slice none 0 0,e7 0,.slice none 0 0,e7 0,.slice none 0 0,e7 0,.slice none 0 0,e7 0,e7 0,.slice none 0 0,e7 0] 47::vc 54 (.slice ax (ad++o).length az) (ad++o)::e8 aq [e7 ab,e7 M,e7 aa,e7 x8,e7<|(k.flush ab M aa).b.lt,e7<|(k.flush ab M aa).b.mr,.slice Z.w.a (k.flush ab M aa).b.ws.length Z.w.c,e7<|(2+x2),.slice Z.l.a ((k.flush ab M aa).S).length Z.l.c,e7<|(2+x2),.slice Z.p.e1.a (edgesK<|(k.flush ab M aa).S).length Z.p.e1.c,.slice Z.p.n1.a (coreN (2+x2)<|edgesK<|(k.flush ab M aa).S).length Z.p.n1.c,e7<|(2+x2),.slice Z.p.e2.a (edgesK<|(k.flush ab M aa).S).length Z.p.e2.c,.slice Z.p.n2.a (trussG (2+x2)<|edgesK<|(k.flush ab M aa).S).length Z.p.n2.c,e7<|(2+x2),.slice Z.p.e3.a (edgesK<|(k.flush ab M aa).S).length Z.p.e3.c,e7<|triS (2+x2) (edgesK<|(k.flush ab M aa).S) / 3,.slice Z.p.n3.a (triL (2+x2)<|edgesK<|(k.flush ab M aa).S).length Z.p.n3.c,e7<|(2+x2),.slice Z.p.e4.a (edgesK<|(k.flush ab M aa).S).length Z.p.e4.c,e7<|wedgeC (2+x2)<|edgesK<|(k.flush ab M aa).S,e7<|quadC (2+x2)<|edgesK<|(k.flush ab M aa).S,.slice Z.p.n4.a (quadL (2+x2)<|edgesK<|(k.flush ab M aa).S).length Z.p.n4.c,e7<|(k.flush ab M aa).tm] 47::vc 54 (.slice oa o.length oc) (o)::vc 54 (.slice ah ad.length ai) (ad)::e8 ak [e7 ab,e7 M,e7 aa] 29::e8 ap [.slice la ln lc,e7 iq] 85::(Y42++(Y30++(Y++I)))) (Cw<|C6 (A:=Y42) (L:=[e8 bq [e7 0,e7 0,e7 0,e7 0,e7 0,e7 0,.slice none 0 0,e7 0,.slice none 0 0,e7 0,.slice none 0 0,.slice none 0 0,e7 0,.slice none 0 0,.slice none 0 0,e7 0,.slice none 0 0,e7 0,.slice none 0 0,e7 0,.slice none 0 0,e7 0,e7 0,.slice none 0 0,e7 0] 47,vc 54 (.slice ax (ad++o).length az)<|ad++o,e8 aq [e7 ab,e7 M,e7 aa,e7 x8,e7<|(k.flush ab M aa).b.lt,e7<|(k.flush ab M aa).b.mr,.slice Z.w.a (k.flush ab M aa).b.ws.length Z.w.c,e7<|(2+x2),.slice Z.l.a ((k.flush ab M aa).S).length Z.l.c,e7<|(2+x2),.slice Z.p.e1.a (edgesK<|(k.flush ab M aa).S).length Z.p.e1.c,.slice Z.p.n1.a (coreN (2+x2)<|edgesK<|(k.flush ab M aa).S).length Z.p.n1.c,e7<|(2+x2),.slice Z.p.e2.a (edgesK<|(k.flush ab M aa).S).length Z.p.e2.c,.slice Z.p.n2.a (trussG (2+x2)<|edgesK<|(k.flush ab M aa).S).length Z.p.n2.c,e7<|(2+x2),.slice Z.p.e3.a (edgesK<|(k.flush ab M aa).S).length Z.p.e3.c,e7<|triS (2+x2) (edgesK<|(k.flush ab M aa).S) / 3,.slice Z.p.n3.a (triL (2+x2)<|edgesK<|(k.flush ab M aa).S).length Z.p.n3.c,e7<|(2+x2),.slice Z.p.e4.a (edgesK<|(k.flush ab M aa).S).length Z.p.e4.c,e7<|wedgeC (2+x2)<|edgesK<|(k.flush ab M aa).S,e7<|quadC (2+x2)<|edgesK<|(k.flush ab M aa).S,.slice Z.p.n4.a (quadL (2+x2)<|edgesK<|(k.flush ab M aa).S).length Z.p.n4.c,e7<|(k.flush ab M aa).tm] 47,vc 54 (.slice oa o.length oc) o,vc 54 (.slice ah ad.length ai) ad,e8 ak [e7 ab,e7 M,e7 aa] 29,e8 ap [.slice la ln lc,e7 iq] 85]) (T:=(Y30++(Y++I)))) ?_
   refine Dr 8 C (Ai C)<|Dr 9 C (Ak C C)<|Dr 10 C (Ak C C)<|Dr 11 C (Ak C C)<|Ds1 13<|Se0 C (B6 (cs:=[_,_,_,_,_,_,_,_,_,_,_,_,_,_,_,_,_,_,_,_,_,_,_,_,_]) (vs:=[_,_,_,_,_,_,_,_,_,_,_,_,_,_,_,_,_,_,_,_,_,_,_,_,_]) (cs':=[_,_,_,_,_,_,_,_,_,_,_,_,_,_,_,_,_,_,_,_,_,_,_,_,_]) ty47) ?_
   refine Dr 14 C (Ba C)<|Dr 15 C (Ba C)<|Dz<|Ah<|Am (S5 22 20 19 10 12 C C C C C)<|Af<|Gm C ?_
   have hE:EnS.run ab M aa x8 (ad++o)=k.flush ab M aa:=by rw [parts_law (n:=(2+x2)) om ae.1 au,hk,List.take_of_length_le om]
   refine Gr (Bs C C)<|Gm C<|Br (d:=97) C (λav=>?_)<|λav=>?_
   ·refine e9 (Ai C) (e9 (Bs C C)<|Gr (A3 C C)<|Gm C<|Br (d:=101) C (λan=>?_)<|λan=>?_)
    ·refine e9 (Ai C) (e9 (Bs C C)<|Gr (A3 C C)<|Gm C<|Br (d:=105) C (λao=>?_)<|λao=>?_)
     ·refine e9 (A5 (vs:=[_,_,_,_,_,_,_,_,_,_,_,_,_,_,_,_,_,_,_,_,_,_,_,_,_]) ty47) ?_
      refine e9 (A5 (vs:=[_,_,_,_,_,_,_,_,_,_,_,_,_,_,_,_,_,_,_,_,_,_,_,_,_]) ty47) ?_
      refine Dm (Ch C C C) (Aj c_ C C<|SameK_ok (k:=(EnS.run ab M aa x8<|ad++o)) (k2:=(k.flush ab M aa)) hE (KpF.fit bf<|Ce (κ:=κ)<|by repeat (first|exact Bu _|apply Bt|apply B0))<|KpF.fit aw<|Ce (κ:=κ)<|by repeat (first|exact Bu _|apply Bt|apply B0)) ?_
      rintro _ _ ⟨_,_,⟨rfl,rfl⟩,rfl,rfl⟩
      refine Gr (A3 C C)<|Gm C<|Dm (Ch C C C) (Aj c_ C C<|Awake41_ok<|Bg hT Av) ?_
      rintro _ _ ⟨_,_,⟨rfl,rfl⟩,rfl,rfl⟩
      exact Gr (A3 C C)<|Ga C<|Ad<|Am (S1 2 C)<|Ay<|A1 C C I (by first|exact Av|exact FitW) ⟨rfl,rfl⟩
     exact absurd rfl ao
    exact absurd rfl an
   exact absurd rfl av
  refine Se1 C (A2 ty47 C) λbu=>?_
  refine Ds1 6<|Se2 C (Cp (α:=Ev) (e:=54) (xs:=ad) (ys:=o) Ar ty54 C C C mm Bh olp dc C<|λ_ _=>am) λa8 a9=>?_
  refine Ds1 7<|Se C (Aj c_ C C<|KRun_ok (T:=(Y30++(Y++I))) (evs:=ad++o) (by repeat (first|exact Bu _|apply Bt|apply B0)) Bh om ar om (λe he=>(List.mem_append.1 he).elim (λq=>(ae.1 e q).1) (au.fit e)) (by simp only [List.length_append];omega)<|Bg hT Av) ?_
  rintro _ _ ⟨_,_,⟨cg,Y47,rfl,bc,rfl⟩,rfl,rfl⟩
  refine ⟨Av,?_⟩
  refine D.fit (J:=e8 bu [e7 0,e7 0,e7 0,e7 0,e7 0,e7 0,.slice none 0 0,e7 0,.slice none 0 0,e7 0,.slice none 0 0,.slice none 0 0,e7 0,.slice none 0 0,.slice none 0 0,e7 0,.slice none 0 0,e7 0,.slice none 0 0,e7 0,.slice none 0 0,e7 0,e7 0,.slice none 0 0,e7 0] 47::vc 54 (.slice a8 (ad++o).length a9) (ad++o)::e8 aq [e7 ab,e7 M,e7 aa,e7 x8,e7<|(k.flush ab M aa).b.lt,e7<|(k.flush ab M aa).b.mr,.slice Z.w.a (k.flush ab M aa).b.ws.length Z.w.c,e7<|(2+x2),.slice Z.l.a ((k.flush ab M aa).S).length Z.l.c,e7<|(2+x2),.slice Z.p.e1.a (edgesK<|(k.flush ab M aa).S).length Z.p.e1.c,.slice Z.p.n1.a (coreN (2+x2)<|edgesK<|(k.flush ab M aa).S).length Z.p.n1.c,e7<|(2+x2),.slice Z.p.e2.a (edgesK<|(k.flush ab M aa).S).length Z.p.e2.c,.slice Z.p.n2.a (trussG (2+x2)<|edgesK<|(k.flush ab M aa).S).length Z.p.n2.c,e7<|(2+x2),.slice Z.p.e3.a (edgesK<|(k.flush ab M aa).S).length Z.p.e3.c,e7<|triS (2+x2) (edgesK<|(k.flush ab M aa).S) / 3,.slice Z.p.n3.a (triL (2+x2)<|edgesK<|(k.flush ab M aa).S).length Z.p.n3.c,e7<|(2+x2),.slice Z.p.e4.a (edgesK<|(k.flush ab M aa).S).length Z.p.e4.c,e7<|wedgeC (2+x2)<|edgesK<|(k.flush ab M aa).S,e7<|quadC (2+x2)<|edgesK<|(k.flush ab M aa).S,.slice Z.p.n4.a (quadL (2+x2)<|edgesK<|(k.flush ab M aa).S).length Z.p.n4.c,e7<|(k.flush ab M aa).tm] 47::vc 54 (.slice oa o.length oc) (o)::vc 54 (.slice ah ad.length ai) (ad)::e8 ak [e7 ab,e7 M,e7 aa] 29::e8 ap [.slice la ln lc,e7 iq] 85::(Y47++(Y30++(Y++I)))) (Cw<|C6 (A:=Y47) (L:=[e8 bu [e7 0,e7 0,e7 0,e7 0,e7 0,e7 0,.slice none 0 0,e7 0,.slice none 0 0,e7 0,.slice none 0 0,.slice none 0 0,e7 0,.slice none 0 0,.slice none 0 0,e7 0,.slice none 0 0,e7 0,.slice none 0 0,e7 0,.slice none 0 0,e7 0,e7 0,.slice none 0 0,e7 0] 47,vc 54 (.slice a8 (ad++o).length a9)<|ad++o,e8 aq [e7 ab,e7 M,e7 aa,e7 x8,e7<|(k.flush ab M aa).b.lt,e7<|(k.flush ab M aa).b.mr,.slice Z.w.a (k.flush ab M aa).b.ws.length Z.w.c,e7<|(2+x2),.slice Z.l.a ((k.flush ab M aa).S).length Z.l.c,e7<|(2+x2),.slice Z.p.e1.a (edgesK<|(k.flush ab M aa).S).length Z.p.e1.c,.slice Z.p.n1.a (coreN (2+x2)<|edgesK<|(k.flush ab M aa).S).length Z.p.n1.c,e7<|(2+x2),.slice Z.p.e2.a (edgesK<|(k.flush ab M aa).S).length Z.p.e2.c,.slice Z.p.n2.a (trussG (2+x2)<|edgesK<|(k.flush ab M aa).S).length Z.p.n2.c,e7<|(2+x2),.slice Z.p.e3.a (edgesK<|(k.flush ab M aa).S).length Z.p.e3.c,e7<|triS (2+x2) (edgesK<|(k.flush ab M aa).S) / 3,.slice Z.p.n3.a (triL (2+x2)<|edgesK<|(k.flush ab M aa).S).length Z.p.n3.c,e7<|(2+x2),.slice Z.p.e4.a (edgesK<|(k.flush ab M aa).S).length Z.p.e4.c,e7<|wedgeC (2+x2)<|edgesK<|(k.flush ab M aa).S,e7<|quadC (2+x2)<|edgesK<|(k.flush ab M aa).S,.slice Z.p.n4.a (quadL (2+x2)<|edgesK<|(k.flush ab M aa).S).length Z.p.n4.c,e7<|(k.flush ab M aa).tm] 47,vc 54 (.slice oa o.length oc) o,vc 54 (.slice ah ad.length ai) ad,e8 ak [e7 ab,e7 M,e7 aa] 29,e8 ap [.slice la ln lc,e7 iq] 85]) (T:=(Y30++(Y++I)))) ?_
  refine Dr 8 C (Ai C)<|Dr 9 C (Ak C C)<|Dr 10 C (Ak C C)<|Dr 11 C (Ak C C)<|Ds1 13<|Se0 C (B6 (cs:=[_,_,_,_,_,_,_,_,_,_,_,_,_,_,_,_,_,_,_,_,_,_,_,_,_]) (vs:=[_,_,_,_,_,_,_,_,_,_,_,_,_,_,_,_,_,_,_,_,_,_,_,_,_]) (cs':=[_,_,_,_,_,_,_,_,_,_,_,_,_,_,_,_,_,_,_,_,_,_,_,_,_]) ty47) ?_
  refine Dr 14 C (Ba C)<|Dr 15 C (Ba C)<|Dz<|Ah<|Am (S5 22 20 19 10 12 C C C C C)<|Af<|Gm C ?_
  have hE:EnS.run ab M aa x8 (ad++o)=k.flush ab M aa:=by rw [parts_law (n:=(2+x2)) om ae.1 au,hk,List.take_of_length_le om]
  refine Gr (Bs C C)<|Gm C<|Br (d:=97) C (λav=>?_)<|λav=>?_
  ·refine e9 (Ai C) (e9 (Bs C C)<|Gr (A3 C C)<|Gm C<|Br (d:=101) C (λan=>?_)<|λan=>?_)
   ·refine e9 (Ai C) (e9 (Bs C C)<|Gr (A3 C C)<|Gm C<|Br (d:=105) C (λao=>?_)<|λao=>?_)
    ·refine e9 (A5 (vs:=[_,_,_,_,_,_,_,_,_,_,_,_,_,_,_,_,_,_,_,_,_,_,_,_,_]) ty47) ?_
     refine e9 (A5 (vs:=[_,_,_,_,_,_,_,_,_,_,_,_,_,_,_,_,_,_,_,_,_,_,_,_,_]) ty47) ?_
     refine Dm (Ch C C C) (Aj c_ C C<|SameK_ok (k:=(EnS.run ab M aa x8<|ad++o)) (k2:=(k.flush ab M aa)) hE (KpF.fit bc<|Ce (κ:=κ)<|by repeat (first|exact Bu _|apply Bt|apply B0))<|KpF.fit aw<|Ce (κ:=κ)<|by repeat (first|exact Bu _|apply Bt|apply B0)) ?_
     rintro _ _ ⟨_,_,⟨rfl,rfl⟩,rfl,rfl⟩
     refine Gr (A3 C C)<|Gm C<|Dm (Ch C C C) (Aj c_ C C<|Awake41_ok<|Bg hT Av) ?_
     rintro _ _ ⟨_,_,⟨rfl,rfl⟩,rfl,rfl⟩
     exact Gr (A3 C C)<|Ga C<|Ad<|Am (S1 2 C)<|Ay<|A1 C C I (by first|exact Av|exact FitW) ⟨rfl,rfl⟩
    exact absurd rfl ao
   exact absurd rfl an
  exact absurd rfl av
 refine Se1 C (A2 ty47 C) λbp=>?_
 refine Ds1 4<|Se2 C (Eff.clone (α:=Ev) (ys:=ad) Ar ty54 C C C Bh olp dc C) λb8 b6=>?_
 refine Ds1 6<|Se2 C (Cp (α:=Ev) (e:=54) (xs:=ad) (ys:=o) Ar ty54 C C C mm Bh olp dc C<|λ_ _=>am) λa3 a7=>?_
 refine Ds1 7<|Se C (Aj c_ C C<|KRun_ok (T:=(Y30++(Y++I))) (evs:=ad++o) (by repeat (first|exact Bu _|apply Bt|apply B0)) Bh om ar om (λe he=>(List.mem_append.1 he).elim (λq=>(ae.1 e q).1) (au.fit e)) (by simp only [List.length_append];omega)<|Bg hT Av) ?_
 rintro _ _ ⟨_,_,⟨ch,Y54,rfl,bh,rfl⟩,rfl,rfl⟩
 refine ⟨Av,?_⟩
 refine D.fit (J:=vc 54 (.slice a3 (ad++o).length a7) (ad++o)::e8 bp [e7 0,e7 0,e7 0,e7 0,e7 0,e7 0,.slice none 0 0,e7 0,.slice none 0 0,e7 0,.slice none 0 0,.slice none 0 0,e7 0,.slice none 0 0,.slice none 0 0,e7 0,.slice none 0 0,e7 0,.slice none 0 0,e7 0,.slice none 0 0,e7 0,e7 0,.slice none 0 0,e7 0] 47::e8 aq [e7 ab,e7 M,e7 aa,e7 x8,e7<|(k.flush ab M aa).b.lt,e7<|(k.flush ab M aa).b.mr,.slice Z.w.a (k.flush ab M aa).b.ws.length Z.w.c,e7<|(2+x2),.slice Z.l.a ((k.flush ab M aa).S).length Z.l.c,e7<|(2+x2),.slice Z.p.e1.a (edgesK<|(k.flush ab M aa).S).length Z.p.e1.c,.slice Z.p.n1.a (coreN (2+x2)<|edgesK<|(k.flush ab M aa).S).length Z.p.n1.c,e7<|(2+x2),.slice Z.p.e2.a (edgesK<|(k.flush ab M aa).S).length Z.p.e2.c,.slice Z.p.n2.a (trussG (2+x2)<|edgesK<|(k.flush ab M aa).S).length Z.p.n2.c,e7<|(2+x2),.slice Z.p.e3.a (edgesK<|(k.flush ab M aa).S).length Z.p.e3.c,e7<|triS (2+x2) (edgesK<|(k.flush ab M aa).S) / 3,.slice Z.p.n3.a (triL (2+x2)<|edgesK<|(k.flush ab M aa).S).length Z.p.n3.c,e7<|(2+x2),.slice Z.p.e4.a (edgesK<|(k.flush ab M aa).S).length Z.p.e4.c,e7<|wedgeC (2+x2)<|edgesK<|(k.flush ab M aa).S,e7<|quadC (2+x2)<|edgesK<|(k.flush ab M aa).S,.slice Z.p.n4.a (quadL (2+x2)<|edgesK<|(k.flush ab M aa).S).length Z.p.n4.c,e7<|(k.flush ab M aa).tm] 47::vc 54 (.slice oa o.length oc) (o)::vc 54 (.slice ah ad.length ai) (ad)::e8 ak [e7 ab,e7 M,e7 aa] 29::e8 ap [.slice la ln lc,e7 iq] 85::(Y54++(Y30++(Y++I)))) (Cw<|C6 (A:=Y54) (L:=[vc 54 (.slice a3 (ad++o).length a7) (ad++o),e8 bp [e7 0,e7 0,e7 0,e7 0,e7 0,e7 0,.slice none 0 0,e7 0,.slice none 0 0,e7 0,.slice none 0 0,.slice none 0 0,e7 0,.slice none 0 0,.slice none 0 0,e7 0,.slice none 0 0,e7 0,.slice none 0 0,e7 0,.slice none 0 0,e7 0,e7 0,.slice none 0 0,e7 0] 47,e8 aq [e7 ab,e7 M,e7 aa,e7 x8,e7<|(k.flush ab M aa).b.lt,e7<|(k.flush ab M aa).b.mr,.slice Z.w.a (k.flush ab M aa).b.ws.length Z.w.c,e7<|(2+x2),.slice Z.l.a ((k.flush ab M aa).S).length Z.l.c,e7<|(2+x2),.slice Z.p.e1.a (edgesK<|(k.flush ab M aa).S).length Z.p.e1.c,.slice Z.p.n1.a (coreN (2+x2)<|edgesK<|(k.flush ab M aa).S).length Z.p.n1.c,e7<|(2+x2),.slice Z.p.e2.a (edgesK<|(k.flush ab M aa).S).length Z.p.e2.c,.slice Z.p.n2.a (trussG (2+x2)<|edgesK<|(k.flush ab M aa).S).length Z.p.n2.c,e7<|(2+x2),.slice Z.p.e3.a (edgesK<|(k.flush ab M aa).S).length Z.p.e3.c,e7<|triS (2+x2) (edgesK<|(k.flush ab M aa).S) / 3,.slice Z.p.n3.a (triL (2+x2)<|edgesK<|(k.flush ab M aa).S).length Z.p.n3.c,e7<|(2+x2),.slice Z.p.e4.a (edgesK<|(k.flush ab M aa).S).length Z.p.e4.c,e7<|wedgeC (2+x2)<|edgesK<|(k.flush ab M aa).S,e7<|quadC (2+x2)<|edgesK<|(k.flush ab M aa).S,.slice Z.p.n4.a (quadL (2+x2)<|edgesK<|(k.flush ab M aa).S).length Z.p.n4.c,e7<|(k.flush ab M aa).tm] 47,vc 54 (.slice oa o.length oc) o,vc 54 (.slice ah ad.length ai) ad,e8 ak [e7 ab,e7 M,e7 aa] 29,e8 ap [.slice la ln lc,e7 iq] 85]) (T:=(Y30++(Y++I)))) ?_
 refine Dr 8 C (Ai C)<|Dr 9 C (Ak C C)<|Dr 10 C (Ak C C)<|Dr 11 C (Ak C C)<|Ds1 13<|Se0 C (B6 (cs:=[_,_,_,_,_,_,_,_,_,_,_,_,_,_,_,_,_,_,_,_,_,_,_,_,_]) (vs:=[_,_,_,_,_,_,_,_,_,_,_,_,_,_,_,_,_,_,_,_,_,_,_,_,_]) (cs':=[_,_,_,_,_,_,_,_,_,_,_,_,_,_,_,_,_,_,_,_,_,_,_,_,_]) ty47) ?_
 refine Dr 14 C (Ba C)<|Dr 15 C (Ba C)<|Dz<|Ah<|Am (S5 22 20 19 10 12 C C C C C)<|Af<|Gm C ?_
 have hE:EnS.run ab M aa x8 (ad++o)=k.flush ab M aa:=by rw [parts_law (n:=(2+x2)) om ae.1 au,hk,List.take_of_length_le om]
 refine Gr (Bs C C)<|Gm C<|Br (d:=97) C (λav=>?_)<|λav=>?_
 ·refine e9 (Ai C) (e9 (Bs C C)<|Gr (A3 C C)<|Gm C<|Br (d:=101) C (λan=>?_)<|λan=>?_)
  ·refine e9 (Ai C) (e9 (Bs C C)<|Gr (A3 C C)<|Gm C<|Br (d:=105) C (λao=>?_)<|λao=>?_)
   ·refine e9 (A5 (vs:=[_,_,_,_,_,_,_,_,_,_,_,_,_,_,_,_,_,_,_,_,_,_,_,_,_]) ty47) ?_
    refine e9 (A5 (vs:=[_,_,_,_,_,_,_,_,_,_,_,_,_,_,_,_,_,_,_,_,_,_,_,_,_]) ty47) ?_
    refine Dm (Ch C C C) (Aj c_ C C<|SameK_ok (k:=(EnS.run ab M aa x8<|ad++o)) (k2:=(k.flush ab M aa)) hE (KpF.fit bh<|Ce (κ:=κ)<|by repeat (first|exact Bu _|apply Bt|apply B0))<|KpF.fit aw<|Ce (κ:=κ)<|by repeat (first|exact Bu _|apply Bt|apply B0)) ?_
    rintro _ _ ⟨_,_,⟨rfl,rfl⟩,rfl,rfl⟩
    refine Gr (A3 C C)<|Gm C<|Dm (Ch C C C) (Aj c_ C C<|Awake41_ok<|Bg hT Av) ?_
    rintro _ _ ⟨_,_,⟨rfl,rfl⟩,rfl,rfl⟩
    exact Gr (A3 C C)<|Ga C<|Ad<|Am (S1 2 C)<|Ay<|A1 C C I (by first|exact Av|exact FitW) ⟨rfl,rfl⟩
   exact absurd rfl ao
  exact absurd rfl an
 exact absurd rfl av
end Go.Sl
namespace Go.Sl
open Go.ChangeShapes Go.WideShapes Go.ChangeAt Go.RowKit Go.Deep
variable{v:Value}{e:TypeId}{a:Addr}
section
variable {κ:Ctx}{w w':World}{I:List Item}
theorem old_cell(hs:Sep κ w' I)(hm:old w.heap.size w∈I){b o:Nat}{u:Value}(M:w.cell? ⟨b,o,none⟩=some u):w'.cell? ⟨b,o,none⟩=some u:=by
 have Z:∀k,k<w.heap.size->w'.heap[k]? = w.heap[k]? :=(hs.ok _ hm).1
 have hb:b<w.heap.size:=by
  refine Nat.not_le.1 λh=>?_
  simp [World.cell?,Array.getElem?_eq_none h] at M
 have:=Z b hb
 simp only [World.cell?,this] at M ⊢
 exact M
def SlW{α:Type}[Enc α](w:World)(v:Value)(xs:List α):Prop:=slOk w (Enc.sz α) v xs.length (cells xs)
theorem SlW.sl{α:Type}[Enc α]{xs:List α}(h:SlW w v xs)(M:old w.heap.size w∈I):Sl κ I v xs:=λw' hs=>by
 obtain ⟨a,cap,hv,h1,h2,h3,Z⟩:=h
 refine ⟨a,cap,hv,h1,h2,h3,λhc=>?_⟩
 obtain ⟨b,off,ha,hr⟩:=Z hc
 exact ⟨b,off,ha,λj u hj=>old_cell hs M<|hr j u hj⟩
end
section
variable {P:Program}{w:World}{r:Reach}{b0:Nat}{t:TypeId}{H:Type}{enc:TypeId×Value->H}{base:Nat}{spare:Nat->Bool}{held:Bool}
theorem spot_none{len cap:Nat}(Z:P.underlying t=some (.slice e))(h:Cell.okWide P w r b0 t (.slice (some a) len cap)):a.spot=none:=by
 simp only [Cell.okWide,Cell.ok,Z] at h
 exact h.2.2.2.1
theorem InR_of{n:Int}(h:(Lit.int .i64 n).wf=true):InR n:=by
 simp only [Lit.wf,Bool.and_eq_true,decide_eq_true_eq] at h
 exact h
def Light(P:Program)(t:TypeId)(d:DataW H):Prop:=∀n∈d.weights P t,n<=reachBytes
theorem light_arg{Z:List TypeId}{ds:List (DataW H)}(h:(DataW.weightsEach P Z ds).all (· <= reachBytes)=true){j:Nat}{d:DataW H}(ht:Z[j]? = some t)(M:ds[j]? = some d):Light P t d:=λn hn=>by
 have:=List.all_eq_true.1 h _ (DataW.weights_mem_each ht M n hn)
 simpa using this
theorem light_slice{es sp:List (DataW H)}(Z:P.underlying t=some (.slice e))(h:Light P t (.slice es sp)):es.length*P.bytesOf e<=140737488351232:=by
 have M:=h ((es.length+sp.length)*P.bytesOf e) (by simp [DataW.weights,Z])
 have h2:es.length*P.bytesOf e<=(es.length+sp.length)*P.bytesOf e:=Nat.mul_le_mul_right _ (by omega)
 simp only [reachBytes] at M
 omega
theorem addr_eta(h:a.spot=none):a=⟨a.block,a.off,none⟩:=by cases a;simp_all
theorem in_ints{fuel:Nat}{x:DataW H×List MemPlace}(ht:P.underlying t=some (.slice e))(he:P.underlying e=some (.int .i64))(hc:P.cellsOf e=1)
  (hv:Cell.okWide P w r b0 t v) (h:DataW.trod enc P w base spare held fuel t [v]=some x) (hw:Light P t x.1):∃(a:Option Addr) (c:Nat) (xs:List Int),v = .slice a xs.length c/\SlW w (.slice a xs.length c) xs/\(∀n∈xs,InR n)/\xs.length*P.bytesOf e<=140737488351232:=by
 rcases open_ints ht he hc h with ⟨aa,_⟩|⟨a,l,c,zs,aa,_,hl,hm,hz,hx,M,ad⟩
 ·obtain rfl:v = .slice none 0 0:=by simpa using aa
  exact ⟨none,0,[],rfl,⟨none,0,rfl,by simp [cells],Nat.le_refl _,by simp,λh=>by omega⟩,by simp,by simp⟩
 obtain rfl:v = .slice (some a) l c:=by simpa using aa
 have ab:=spot_none ht hv
 have ae:l<=zs.length:=by rw [hz];split<;>omega
 have Z:(zs.take l).length=l:=by rw [List.length_take];omega
 refine ⟨some a,c,zs.take l,by rw [Z],⟨some a,c,rfl,cells_length _,by rw [Z];exact hl,hm,λai=>⟨a.block,a.off,by rw [←addr_eta ab],λj u hj=>?_⟩⟩,λn hn=>InR_of (ad n (List.mem_of_mem_take hn)),by
  rw [hx] at hw
  have:=light_slice ht hw
  simpa [lits] using this⟩
 have ah:j<l:=by
  have:=(List.getElem?_eq_some_iff.1 hj).1
  rw [cells_length,Z] at this
  have e1:Enc.sz Int=1:=rfl
  rw [e1] at this;omega
 have h1:=cells_get (zs.take l) j 0 (by omega) (by decide)
 have e1:j*Enc.sz Int+0=j:=by show j*1+0=j;omega
 rw [e1] at h1
 rw [h1] at hj
 have h2:=M j (by omega)
 rw [addr_eta ab,addr_add] at h2
 have h3:u=e7 (zs.getD j 0):=by
  have h4:some (e7<|(zs.take l)[j]'(by omega))=some u:=hj
  simp only [Option.some.injEq] at h4
  rw [←h4]
  simp [List.getD_eq_getElem?_getD,List.getElem?_eq_getElem (show j<zs.length by omega)]
 rw [h3];exact h2
theorem arg_cell{d:DataW H}{ps:List MemPlace}(Z:P.underlying t=some (.slice e))(hv:Value.okWide P w r b0 t v)(h:DataW.Trod enc P w base spare held t v d ps):Cell.okWide P w r b0 t v/\∃fuel,DataW.trod enc P w base spare held fuel t [v]=some (d,ps):=by
 obtain ⟨a,len,cap,rfl⟩:=okWide_slice Z hv
 simp only [Value.okWide,Z] at hv
 obtain ⟨fuel,M⟩:=h
 exact ⟨hv,fuel,by simpa [Value.cells] using M⟩
theorem joined_mk{P:Program}{f:FuncId}{Z:Func}{s:ChangeSpec}{c:OpenClaim}(h1:(c.wf (OpenSpec.ofChange s))=true)(h2:(laidOutB P)=true)(h3:(mapsRowed P)=true)(h4:(Z.params.all (P.readableRec ·))=true)(h5:(namedTie P c.named s.vars)=true)(h6:((c.stops==[]))=true)(h7:((P.stops==[]))=true)(h8:((c.knobs==[]))=true)(h9:((P.stopKnobs==[]))=true)(ap:((c.inPlace==P.inPlace f))=true)(an:((c.unfollowed==P.unfollowed f))=true)(av:((c.recurses==P.recurses f))=true)(ay:((c.named==P.varsNamed f))=true)(ar:((c.maps==(Z.params.toList++s.plain.varTypes P).any (P.mapsRec ·)))=true)(ad:((c.ifaces==(Z.params.toList++s.plain.varTypes P).any (P.ifacesRec ·)))=true)(a1:((c.mapsOut==P.mapsAmong Z.resultTypes.toList))=true)(aq:((c.loops==(Z.params.toList++s.plain.varTypes P).any (P.loopsFrom ·)))=true)(ak:((c.wideKeys==(Z.params.toList++s.plain.varTypes P++Z.resultTypes.toList).any (P.wideKeysFrom ·)))=true)(M:(s.vars.all (P.varReadable ·))=true)(a0:(Z.resultTypes.all (λt=>P.readableRec t&&decide (t<P.types.size)))=true)(aa:((c.ifacesOut==Z.resultTypes.toList.any (P.ifacesRec ·)))=true)(ae:((c.loopsOut==Z.resultTypes.toList.any (P.loopsFrom ·)))=true)(ax:((c.plainKeys==P.plainKeys))=true)(az:(c.shortTexts.isNone)=true)(aw:(P.stopsHeard)=true)(aj:(P.mayEnter)=true)(ai:((c.lifted==P.liftsFinal))=true)(ah:((P.make==some c.make))=true)(au:((c.kinds==(if c.domain.isEmpty then [] else Z.params.toList.map λt=>match P.underlying t with |some (.int k)=>some k|_=>none)))=true)(ab:((c.pinned==c.pinnedBy))=true)(ao:((c.veiled==(Z.params.toList++s.plain.varTypes P++Z.resultTypes.toList).any (P.veiledRec ·)))=true)(a3:(c.veiledFits P Z.params.toList (Z.params.toList++s.plain.varTypes P++Z.resultTypes.toList))=true):joinedFacts P f Z s c=true:=by
 unfold joinedFacts
 exact (Bool.and_eq_true_iff.2 ⟨(Bool.and_eq_true_iff.2 ⟨(Bool.and_eq_true_iff.2 ⟨(Bool.and_eq_true_iff.2 ⟨(Bool.and_eq_true_iff.2 ⟨(Bool.and_eq_true_iff.2 ⟨(Bool.and_eq_true_iff.2 ⟨(Bool.and_eq_true_iff.2 ⟨(Bool.and_eq_true_iff.2 ⟨(Bool.and_eq_true_iff.2 ⟨(Bool.and_eq_true_iff.2 ⟨(Bool.and_eq_true_iff.2 ⟨(Bool.and_eq_true_iff.2 ⟨(Bool.and_eq_true_iff.2 ⟨(Bool.and_eq_true_iff.2 ⟨(Bool.and_eq_true_iff.2 ⟨(Bool.and_eq_true_iff.2 ⟨(Bool.and_eq_true_iff.2 ⟨(Bool.and_eq_true_iff.2 ⟨(Bool.and_eq_true_iff.2 ⟨(Bool.and_eq_true_iff.2 ⟨(Bool.and_eq_true_iff.2 ⟨(Bool.and_eq_true_iff.2 ⟨(Bool.and_eq_true_iff.2 ⟨(Bool.and_eq_true_iff.2 ⟨(Bool.and_eq_true_iff.2 ⟨(Bool.and_eq_true_iff.2 ⟨(Bool.and_eq_true_iff.2 ⟨(Bool.and_eq_true_iff.2 ⟨(Bool.and_eq_true_iff.2 ⟨(Bool.and_eq_true_iff.2 ⟨h1,h2⟩),h3⟩),h4⟩),h5⟩),h6⟩),h7⟩),h8⟩),h9⟩),ap⟩),an⟩),av⟩),ay⟩),ar⟩),ad⟩),a1⟩),aq⟩),ak⟩),M⟩),a0⟩),aa⟩),ae⟩),ax⟩),az⟩),aw⟩),aj⟩),ai⟩),ah⟩),au⟩),ab⟩),ao⟩),a3⟩)
theorem calls_below{f:FuncId}{Z:List Value}(h:eu P ⟨w.os,w.tape,w.output,w.drawn⟩ f Z [old w.heap.size w] λr J=>r = .bool true/\[old w.heap.size w]=J) :
  Calls P f Z.toArray w λe w'=>e = .returned (.bool true)/\Below w.heap.size w w':=
 (h w<|Sep.begin w).mono λe w' ⟨v,J,M,⟨hv,hJ⟩,hs⟩=>by
  subst hv hJ
  exact ⟨M,hs.below List.mem_cons_self⟩
end
end Go.Sl
